import Derived.Test.YtgahlimikndecaaDoorQEternalFamily0
import Derived.Test.YtgahlimikndecaaDoorQEternalFamily6
import Derived.Test.YtgahlimikndecaaDoorQEternalFamily7
import Derived.Lib.SliceRun
import Derived.Shelf.SlicesE.DeleteFunc
import Derived.Lib.RowBridge
import Derived.Ground.SlgfProg
namespace Go.Proofs.YtgahlimikndecaaDoor.QEternalFamily
open Go.RowKit Go.Proofs.YtgahlimikndecaaDoorW.PrintWords Go.Proofs.YtgahlimikndecaaDoorW.PrintLast Go.Proofs.YtgahlimikndecaaDoorW.PrintMore
attribute [local go_sem] max2_int min2_int max_two min_two max_three min_three max_four min_four   -- for this text's walks alone
set_option linter.unusedVariables false
set_option linter.unusedSimpArgs false
set_option maxRecDepth 100000
set_option maxHeartbeats 8000000
/-! ### impl_net_guardGame: function 33 -/
mutual
def impl_net_guardGame.l0 : Nat → Bool → List (List Int) → Int → Int → List Int → Int → List (List Int) → List (List Int) → Option (Int × (List (List Int)) × (List (List Int)))
 | 0, _, _, _, _, _, _, _, _ => none
 | k + 1, x2, x24, x25, x26, x458000, x464000, x464001, x464002 => if x26 < x25 then (if 0 ≤ x26 then (if x26 < (x24.length : Int) then (impl_net_guardGame.l1 k x2 (rd_L2 x24 x26) ([] : List Int) x24 x25 x26 x464001 (x464001.length : Int) 0 x458000 x464000 x464001 x464002) else (none)) else (none)) else (some (x464000, x464001, x464002))
def impl_net_guardGame.l1 : Nat → Bool → List Int → List Int → List (List Int) → Int → Int → List (List Int) → Int → Int → List Int → Int → List (List Int) → List (List Int) → Option (Int × (List (List Int)) × (List (List Int)))
 | 0, _, _, _, _, _, _, _, _, _, _, _, _, _ => none
 | k + 1, x2, x9, x10, x24, x25, x26, x33, x34, x35, x458000, x464000, x464001, x464002 => if x35 < x34 then (if 0 ≤ x35 then (if x35 < (x33.length : Int) then ((impl_maskOf.f k x9).bind fun t469 => ((impl_maskOf.f k (rd_L2 x33 x35)).bind fun t470 => ((impl_net_canMoveGuards.f k x458000 t469 t470 x2).bind fun t471 => (if t471 = true then (if x10.length < 17592186044416 then (impl_net_guardGame.l1 k x2 x9 (x10 ++ [x35]) x24 x25 x26 x33 x34 (wrap64 (x35 + 1)) x458000 x464000 x464001 x464002) else (none)) else (impl_net_guardGame.l1 k x2 x9 x10 x24 x25 x26 x33 x34 (wrap64 (x35 + 1)) x458000 x464000 x464001 x464002))))) else (none)) else (none)) else (if x464002.length < 5864062014805 then (impl_net_guardGame.l0 k x2 x24 x25 (wrap64 (x26 + 1)) x458000 x464000 x464001 (x464002 ++ [x10])) else (none))
end
def impl_net_guardGame.f (k : Nat) (l0_0 : List Int) (a1 : Int) (a2 : Bool) : Option (Int × (List (List Int)) × (List (List Int))) := (impl_net_size.f l0_0).bind fun t458 => ((impl_net_size.f l0_0).bind fun t459 => ((impl_guardSets.f k t459 a1).bind fun t460 => (impl_net_guardGame.l0 k a2 t460 (t460.length : Int) 0 l0_0 t458 t460 ([] : List (List Int)))))
theorem impl_net_guardGame.mono_l : ∀ k, (∀ y0 y1 y2 y3 y4 y5 y6 y7, LeO (impl_net_guardGame.l0 k y0 y1 y2 y3 y4 y5 y6 y7) (impl_net_guardGame.l0 (k + 1) y0 y1 y2 y3 y4 y5 y6 y7)) ∧ (∀ y0 y1 y2 y3 y4 y5 y6 y7 y8 y9 y10 y11 y12, LeO (impl_net_guardGame.l1 k y0 y1 y2 y3 y4 y5 y6 y7 y8 y9 y10 y11 y12) (impl_net_guardGame.l1 (k + 1) y0 y1 y2 y3 y4 y5 y6 y7 y8 y9 y10 y11 y12))
 | 0 => ⟨fun _ _ _ _ _ _ _ _ r h => by simp [impl_net_guardGame.l0] at h, fun _ _ _ _ _ _ _ _ _ _ _ _ _ r h => by simp [impl_net_guardGame.l1] at h⟩
 | k + 1 => by
  obtain ⟨ih0, ih1⟩ := impl_net_guardGame.mono_l k
  refine ⟨?_, ?_⟩
  ·intro y0 y1 y2 y3 y4 y5 y6 y7
   unfold impl_net_guardGame.l0
   have q0 := impl_guardSets.mono
   have q1 := impl_maskOf.mono
   have q2 := impl_net_canMoveGuards.mono
   exact lM
  ·intro y0 y1 y2 y3 y4 y5 y6 y7 y8 y9 y10 y11 y12
   unfold impl_net_guardGame.l1
   have q0 := impl_guardSets.mono
   have q1 := impl_maskOf.mono
   have q2 := impl_net_canMoveGuards.mono
   exact lM
theorem impl_net_guardGame.mono : ∀ a0 a1 a2 k, LeO (impl_net_guardGame.f k a0 a1 a2) (impl_net_guardGame.f (k + 1) a0 a1 a2) := by
 intro a0 a1 a2 k
 obtain ⟨ih0, ih1⟩ := impl_net_guardGame.mono_l k
 unfold impl_net_guardGame.f
 have q0 := impl_guardSets.mono
 have q1 := impl_maskOf.mono
 have q2 := impl_net_canMoveGuards.mono
 exact lM
def impl_net_guardGame.T1 : Bool × List (List Nat × List Nat) := (true, [([], []), ([0], [0]), ([], []), ([2, 1], [2]), ([], []), ([3, 4, 3], [3, 4]), ([1, 5], [1, 5]), ([6], [6]), ([7, 5, 0, 1, 2, 3, 4, 5, 6, 7], [7])])
def impl_net_guardGame.B1 : List Nat := [0, 1, 0, 7, 0, 31, 63, 127, 255]
theorem impl_net_guardGame.tab1 : rtab .any (opsOf Tryd.f33 1) = impl_net_guardGame.T1 := by kernel_rfl
theorem impl_net_guardGame.bits1 : waitsOk impl_net_guardGame.T1.2 impl_net_guardGame.B1 = true := by kernel_rfl
theorem impl_net_guardGame.calls (k : Nat) (A0_0 : Option Addr) (c0_0 : Nat) (l0_0 : List Int) (a1 : Int) (a2 : Bool) (r1 : Int) (r2 : List (List Int)) (r3 : List (List Int)) (w : World) (hT : TabG w) (hr0_0 : Kd.C (Kd.int .i64) w A0_0 l0_0.length l0_0) (hc0_0 : l0_0.length ≤ c0_0) (h : impl_net_guardGame.f k l0_0 a1 a2 = some (r1, r2, r3)) :
  Calls Tryd.prog 33 #[.agg #[.slice A0_0 l0_0.length c0_0], .int .i64 a1, .bool a2] w fun e w' => ∃ (g : Nat) (v1_ v2_ : Value), e = .returned (.pointer (some ⟨g, 0, none⟩)) ∧ w'.heap[g]? = some (.cells #[.int .i64 r1, v1_, v2_] 61 (0, 0)) ∧ w.heap.size ≤ g ∧ Kd.S (Kd.slice 3 (Kd.int .i64)) 36 w' w.heap.size (fun k_ => some k_ ≠ (v2_ : Value).ownBlock) v1_ r2 ∧ Kd.S (Kd.slice 3 (Kd.int .i64)) 36 w' w.heap.size (fun k_ => some k_ ≠ (v1_ : Value).ownBlock) v2_ r3 ∧ Below w.heap.size w w' := by
 have hu56 := Tryd.underlying56
 have hu61 := Tryd.underlying61
 have HR0_0 := Aside0.mk hr0_0
 have HC0_0 := Aside0.mk hc0_0
 clear hr0_0 hc0_0
 have HB := aM (Below.refl w.heap.size w)
 have HT := Aside0.mk hT
 clear hT
 have H : ((impl_net_size.f l0_0).bind fun t458 => ((impl_net_size.f l0_0).bind fun t459 => ((impl_guardSets.f k t459 a1).bind fun t460 => (impl_net_guardGame.l0 k a2 t460 (t460.length : Int) 0 l0_0 t458 t460 ([] : List (List Int)))))) = some (r1, r2, r3) := h
 clear h
 replace H := Option.bind_eq_some_iff.mp H
 obtain ⟨t458, A40, H⟩ := H
 try dsimp only at H
 have A4 := Aside0.mk A40
 clear A40
 replace H := Option.bind_eq_some_iff.mp H
 obtain ⟨t459, A50, H⟩ := H
 try dsimp only at H
 have A5 := Aside0.mk A50
 clear A50
 replace H := Option.bind_eq_some_iff.mp H
 obtain ⟨t460, A60, H⟩ := H
 try dsimp only at H
 have A6 := Aside0.mk A60
 clear A60
 have H' := Aside0.mk H
 clear H
 go_enter Tryd.func33, Tryd.ntmps33
 try go_wp2_with (first | ((with_reducible refine gate_dst (N := 3) rfl ?_);refine box_event ?hg (N := 3) ?hd (cs := #[.slice A0_0 l0_0.length c0_0]) (t := 56) ?hr ?_;(case hd => rfl);(case hg => rfl);(case hr => exact gS);intro gb457 hg w7 hbox hb;have n0_ := aM (below_step (by exact bB) hb);have n1_ := aM (hbox);have n2_ := aM (sW hg : w.heap.size ≤ gb457);have n3_ := aM (sW hg : w.heap.size ≤ gb457);clear HB;have HB := n0_;have BK457 := n1_;have GW457 := n2_;have GE457 := n3_;clear n0_ n1_ n2_ n3_;clear hb hbox hg))
 have n0_ := aM (blk_drew BK457.out)
 have n1_ := aM (below_drew1 HB.out)
 clear BK457
 clear HB
 have BK457 := n0_
 have HB := n1_
 clear n0_ n1_
 refine start_ (n := 9) (S := fun w' => w'.cell? ⟨gb457, 0, none⟩ = some (.slice A0_0 l0_0.length c0_0)) (ds := []) (pT 0 9) (by kernel_rfl) rfl rfl ((blk_cell BK457.out 0).trans rfl) (fun hHeld => ?_);refine with_tabW impl_net_guardGame.tab1 impl_net_guardGame.bits1 (fun HT_ HW_ => ?_)
 generalize w7.drew = w8 at BK457 HB hHeld ⊢
 refine pure_ (i := 4) (N := some 17) (v := ?_) (a' := ?_) #[false,false,false,false,true,false,false,false,false] rfl rfl (any_of HT_.out (by kernel_rfl)) (fun _ _ _ h => h) (Or.inl ⟨by rfl, ?_⟩) ?_ ?_
 rotate_left
 ·intro w'
  go_simp
  with_reducible rfl
 rotate_left
 ·exact aP
 refine take_ (i := 0) (N := some 13) (v := ?_) (a' := ?_) #[true,false,false,false,true,false,false,false,false] rfl rfl (take_ofW HT_.out HW_.out (by kernel_rfl)) (fun _ _ _ h => h) (Or.inl ⟨by rfl, ?_⟩) hHeld ?_ ?_
 rotate_left
 ·intro w' s0
  go_simp
  with_reducible rfl
 rotate_left
 ·exact aP
 refine take_ (i := 2) (N := some 15) (v := ?_) (a' := ?_) #[true,false,true,false,true,false,false,false,false] rfl rfl (take_ofW HT_.out HW_.out (by kernel_rfl)) (fun _ _ _ h => h) (Or.inl ⟨by rfl, ?_⟩) hHeld ?_ ?_
 rotate_left
 ·intro w' s0
  go_simp
  with_reducible rfl
 rotate_left
 ·exact aP
 refine one_ (i := 1) (N := some 14) #[true,true,true,false,true,false,false,false,false] rfl rfl (one_of HT_.out (by kernel_rfl)) (by decide) (fun K hK => ?_)
 refine goes_ Tryd.func60 (by kernel_rfl) rfl #[.agg #[.slice A0_0 l0_0.length c0_0]] (by rfl) rfl rfl mM ?_
 with_reducible refine (impl_net_size.calls _ _ l0_0 t458 _ ?side1 ?side2 A4.out).mono ?_
 (case side1 => exact cP (Kd.C_below HR0_0.out HB.out))
 (case side2 => exact HC0_0.out)
 rintro e w9 ⟨rfl, hb⟩
 refine ⟨_, rfl, ?_⟩
 have n0_ := aM (kB hb BK457.out)
 have n1_ := aM (below_step (by exact bB) hb)
 clear BK457
 clear HB
 have BK457 := n0_
 have HB := n1_
 clear n0_ n1_
 (try clear hb)
 (try clear hb2)
 (try clear hk)
 (try clear hi)
 refine hK.out _ _ ((blk_cell BK457.out 0).trans rfl) (fun hHeld => ?_)
 clear hK K
 refine norm_ (a' := ?_) ?_ ?_
 rotate_left
 ·show Act.put _ (some 14) _ = _
  simp only [Act.put, List.setIfInBounds_toArray, List.set_cons_zero, List.set_cons_succ, i64_w, i32_w]
  rfl
 refine one_ (i := 3) (N := some 16) (pT 5 4) rfl rfl (one_of HT_.out (by kernel_rfl)) (by decide) (fun K hK => ?_)
 refine goes_ Tryd.func60 (by kernel_rfl) rfl #[.agg #[.slice A0_0 l0_0.length c0_0]] (by rfl) rfl rfl mM ?_
 with_reducible refine (impl_net_size.calls _ _ l0_0 t459 _ ?side1 ?side2 A5.out).mono ?_
 (case side1 => exact cP (Kd.C_below HR0_0.out HB.out))
 (case side2 => exact HC0_0.out)
 rintro e w10 ⟨rfl, hb⟩
 refine ⟨_, rfl, ?_⟩
 have n0_ := aM (kB hb BK457.out)
 have n1_ := aM (below_step (by exact bB) hb)
 clear BK457
 clear HB
 have BK457 := n0_
 have HB := n1_
 clear n0_ n1_
 (try clear hb)
 (try clear hb2)
 (try clear hk)
 (try clear hi)
 refine hK.out _ _ ((blk_cell BK457.out 0).trans rfl) (fun hHeld => ?_)
 clear hK K
 refine norm_ (a' := ?_) ?_ ?_
 rotate_left
 ·show Act.put _ (some 16) _ = _
  simp only [Act.put, List.setIfInBounds_toArray, List.set_cons_zero, List.set_cons_succ, i64_w, i32_w]
  rfl
 refine one_ (i := 5) (N := some 18) (pT 6 3) rfl rfl (one_of HT_.out (by kernel_rfl)) (by decide) (fun K hK => ?_)
 refine goes_ Tryd.func61 (by kernel_rfl) rfl #[.int .i64 t459, .int .i64 a1] (by rfl) rfl rfl mM ?_
 with_reducible refine (impl_guardSets.calls k t459 a1 t460 _ A6.out).mono ?_
 rintro e w11 ⟨v461, rfl, ho0, hb⟩
 refine ⟨_, rfl, ?_⟩
 have n0_ := aM (Kd.S_lower ho0 (below_size (by exact bB)))
 have n1_ := aM (kB hb BK457.out)
 have n2_ := aM (below_step (by exact bB) hb)
 clear BK457
 clear HB
 have HO462 := n0_
 have BK457 := n1_
 have HB := n2_
 clear n0_ n1_ n2_
 (try clear hb)
 (try clear hb2)
 (try clear hk)
 (try clear hi)
 (try clear ho0)
 obtain ⟨Ao12, co12, eo12⟩ := Kd.S_slice HO462.out
 (first | subst eo12 | (injection eo12 with f1_ f2_ f3_;have f4_ := f1_.symm;have f5_ := f3_.symm;clear f1_ f2_ f3_;subst f4_;subst f5_))
 refine hK.out _ _ ((blk_cell BK457.out 0).trans rfl) (fun hHeld => ?_)
 clear hK K
 refine norm_ (a' := ?_) ?_ ?_
 rotate_left
 ·show Act.put _ (some 18) _ = _
  simp only [Act.put, List.setIfInBounds_toArray, List.set_cons_zero, List.set_cons_succ, i64_w, i32_w]
  rfl
 refine pure_ (i := 6) (N := some 19) (v := ?_) (a' := ?_) (pT 7 2) rfl rfl (any_of HT_.out (by kernel_rfl)) (fun _ _ _ h => h) (Or.inl ⟨by rfl, ?_⟩) ?_ ?_
 rotate_left
 ·intro w'
  go_simp
  with_reducible rfl
 rotate_left
 ·exact aP
 refine one_ (i := 7) (N := some 20) (pT 8 1) rfl rfl (one_of HT_.out (by kernel_rfl)) (by decide) (fun K hK => ?_)
 refine box_step ?hg (N := 20) ?hd (cs := #[.int .i64 t458, .slice Ao12 t460.length co12, .slice none 0 0]) (t := 61) ?hr ?_;(case hd => rfl);(case hg => rfl);(case hr => exact gS)
 intro gb463 hg w13 hbox hb
 have n0_ := aM (Kd.S_below (by exact tP HO462.out) hb)
 have n1_ := aM (kB hb BK457.out)
 have n2_ := aM (below_step (by exact bB) hb)
 have n3_ := aM (hbox)
 have n4_ := aM (sW hg : w.heap.size ≤ gb463)
 have n5_ := aM (sW hg : w.heap.size ≤ gb463)
 have n6_ := aM (nL hg (kP BK457.out))
 have n7_ := aM (nG hg (kP BK457.out))
 clear HO462
 clear BK457
 clear HB
 have HO462 := n0_
 have BK457 := n1_
 have HB := n2_
 have BK463 := n3_
 have GW463 := n4_
 have GE463 := n5_
 have NB457_463 := n6_
 have NB463_457 := n7_
 clear n0_ n1_ n2_ n3_ n4_ n5_ n6_ n7_
 clear hb hbox hg
 refine hK.out _ _ ((blk_cell BK457.out 0).trans rfl) (fun hHeld => ?_)
 clear hK K
 refine norm_ (a' := ?_) ?_ ?_
 rotate_left
 ·show Act.put _ (some 20) _ = _
  simp only [Act.put, List.setIfInBounds_toArray, List.set_cons_zero, List.set_cons_succ, i64_w, i32_w]
  rfl
 refine pure_ (i := 8) (N := some 7) (v := ?_) (a' := ?_) (pT 9 0) rfl rfl (any_of HT_.out (by kernel_rfl)) (fun _ _ _ h => h) (Or.inl ⟨by rfl, ?_⟩) ?_ ?_
 rotate_left
 ·intro w'
  go_simp
  with_reducible rfl
 rotate_left
 ·exact aP
 refine done_ (done_of HT_.out (by kernel_rfl)) ?_
 have hnb14 := NB463_457.out
 have hnc14 := NB457_463.out
 have hcz15_0 := bC0 BK463.out
 have hcz15_1 := bC1 BK463.out
 have hcz15_2 := bC2 BK463.out
 have hfz15_0 := blk_frozen BK463.out 0
 have hfz15_1 := blk_frozen BK463.out 1
 have hfz15_2 := blk_frozen BK463.out 2
 try go_wp2
 go_loopg [26] k (fun kq v26 w' => ∃ (x26_1 : Int) (x464002_1 : List (List Int)) (u464002 : Value), v26 = .int .i64 x26_1 ∧ Aside0 (impl_net_guardGame.l0 kq a2 t460 (t460.length : Int) x26_1 l0_0 t458 t460 x464002_1 = some (r1, r2, r3)) ∧ Aside0 (kq ≤ k) ∧ Aside0 (Kd.S (Kd.slice 3 (Kd.int .i64)) 36 w' w.heap.size (fun k_ => some k_ ≠ (u464002 : Value).ownBlock) (.slice Ao12 t460.length co12) t460) ∧ Aside0 (Kd.S (Kd.slice 3 (Kd.int .i64)) 36 w' w.heap.size (fun k_ => some k_ ≠ (u464002 : Value).ownBlock) (.slice Ao12 t460.length co12) t460) ∧ Aside0 (Kd.S (Kd.slice 3 (Kd.int .i64)) 36 w' w.heap.size (fun k_ => some k_ ≠ ((.slice Ao12 t460.length co12) : Value).ownBlock ∧ some k_ ≠ ((.slice Ao12 t460.length co12) : Value).ownBlock) u464002 x464002_1) ∧ Aside0 (w'.heap[gb457]? = some (.cells #[(.slice A0_0 l0_0.length c0_0)] 56 (0, 0))) ∧ Aside0 (w'.heap[gb463]? = some (.cells #[.int .i64 t458, (.slice Ao12 t460.length co12), u464002] 61 (0, 0))) ∧ Aside0 (Below w.heap.size w w'))
 case atStart => exact ⟨(0), (([] : List (List Int))), (.slice none 0 0), eF, H', ⟨Nat.le_refl _⟩, ⟨by (with_reducible repeat (first | apply Kd.S_alloc | apply Kd.S_drewN | apply Kd.S_drew));exact Kd.S_mono HO462.out (fun _ hk => (by simp [Value.ownBlock]))⟩, ⟨by (with_reducible repeat (first | apply Kd.S_alloc | apply Kd.S_drewN | apply Kd.S_drew));exact Kd.S_mono HO462.out (fun _ hk => (by simp [Value.ownBlock]))⟩, ⟨by first | exact Kd.S_nil _ _ _ _ _ | exact Kd.N_nil _ _ _ _ _ | exact Kd.V_nil _ _ _ _ _ | exact Kd.Q_nil _ _ _ _ _ | exact Kd.R_nil _ _ _ _ _⟩, ⟨by exact kP BK457.out⟩, ⟨by exact kP BK463.out⟩, ⟨by exact bB⟩⟩
 case round =>
  clear H'
  try clear c1
  try clear p2
  try clear c3
  try clear c6
  try clear c14
  try clear hcz15_0
  try clear hcz15_1
  try clear hcz15_2
  try clear hfz15_0
  try clear hfz15_1
  try clear hfz15_2
  obtain ⟨x26_1, x464002_1, u464002, rfl, HA, HK1, HO_24, HO_464001, HO_464002, BK457, BK463, HB⟩ := hrel
  cases gk with
  | zero => exact absurd HA.out (by simp [impl_net_guardGame.l0])
  | succ k1 =>
   have H := HA.out
   clear HA
   simp only [impl_net_guardGame.l0] at H
   by_cases c16 : x26_1 < (t460.length : Int)
   rotate_left
   ·rw [if_neg c16] at H
    have c16b0 : decide (x26_1 < (t460.length : Int)) = false := decide_eq_false c16
    clear c16
    simp only [Option.some.injEq, Prod.mk.injEq] at H
    obtain ⟨rfl, rfl, rfl⟩ := H
    go_wp2
    go_ret
    exact ⟨gb463, _, _, rfl, (by exact kP BK463.out), GW463.out, by (with_reducible repeat (first | apply Kd.S_alloc | apply Kd.S_drewN | apply Kd.S_drew));exact HO_464001.out, by (with_reducible repeat (first | apply Kd.S_alloc | apply Kd.S_drewN | apply Kd.S_drew));exact Kd.S_mono HO_464002.out (fun _ hk => hk.2), by exact bB⟩
   rw [if_pos c16] at H
   have c16b0 : decide (x26_1 < (t460.length : Int)) = true := decide_eq_true c16
   clear c16
   by_cases c17 : 0 ≤ x26_1
   rotate_left
   ·rw [if_neg c17] at H
    exact absurd H (by simp)
   rw [if_pos c17] at H
   have c17b0 : decide (0 ≤ x26_1) = true := decide_eq_true c17
   clear c17
   by_cases c18 : x26_1 < (t460.length : Int)
   rotate_left
   ·rw [if_neg c18] at H
    exact absurd H (by simp)
   rw [if_pos c18] at H
   have c18b0 : decide (x26_1 < (t460.length : Int)) = true := decide_eq_true c18
   clear c18
   have H' := Aside0.mk H
   clear H
   have p464 : 0 ≤ (x26_1 : Int) := oA
   have q464 : x26_1 < (t460.length : Int) := oA
   obtain ⟨ad464, A464_0, c464_0, e464, hx464_0, hl464_0, hi464_0⟩ := at_L2 (Kd.S_reads' HO_24.out).2.2 x26_1 p464 q464
   cases e464
   obtain ⟨ce464, hce464, hMe464, hcc464⟩ := Kd.S_get HO_24.out [] x26_1 p464 (by first | exact q464 | exact oA | (have e_ := (Kd.S_reads' HO_24.out).1;omega))
   obtain ⟨ve464_0, rfl, ge464_0⟩ := hMe464
   have hv464_0 := hcc464 0 _ rfl
   rw [Nat.add_zero, show ((Kd.slice 3 (Kd.int .i64))).sz = 1 from rfl, Nat.mul_one] at hv464_0
   replace hv464_0 := Option.some.inj (hv464_0.symm.trans hx464_0)
   rw [hv464_0] at ge464_0
   have HL464_0 := aM (show Kd.R (Kd.int .i64) 3 _ _ _ _ (rd_L2 t460 x26_1) from ge464_0)
   clear hv464_0 ge464_0
   clear hcc464 hce464
   have HR464_0 := Aside0.mk hi464_0
   have HC464_0 := Aside0.mk hl464_0
   clear hi464_0 hl464_0
   replace p464 := eq_true p464
   replace q464 := eq_true q464
   have hnb19 := NB463_457.out
   have hnc19 := NB457_463.out
   have hcz20_0 := bC0 BK463.out
   have hcz20_1 := bC1 BK463.out
   have hcz20_2 := bC2 BK463.out
   have hfz20_0 := blk_frozen BK463.out 0
   have hfz20_1 := blk_frozen BK463.out 1
   have hfz20_2 := blk_frozen BK463.out 2
   go_wp2
   have HF := aM (Kd.R_mono (ok' := fun k_ => some k_ ≠ (u464002 : Value).ownBlock) HL464_0.out (fun _ hk => hk.1))
   go_loopg [10, 35] k1 (fun kq v10 v35 w' => ∃ (x10_2 : List Int) (x35_2 : Int), v35 = .int .i64 x35_2 ∧ Aside0 (impl_net_guardGame.l1 kq a2 (rd_L2 t460 x26_1) x10_2 t460 (t460.length : Int) x26_1 t460 (t460.length : Int) x35_2 l0_0 t458 t460 x464002_1 = some (r1, r2, r3)) ∧ Aside0 (kq ≤ k1) ∧ Aside0 (Kd.R (Kd.int .i64) 3 w' w.heap.size (fun _ => True) v10 x10_2) ∧ Aside0 (Kd.S (Kd.slice 3 (Kd.int .i64)) 36 w' w.heap.size (fun k_ => some k_ ≠ (v10 : Value).ownBlock ∧ some k_ ≠ (u464002 : Value).ownBlock) (.slice (some ad464) t460.length co12) t460) ∧ Aside0 (Kd.R (Kd.int .i64) 3 w' w.heap.size (fun k_ => some k_ ≠ (v10 : Value).ownBlock ∧ some k_ ≠ (u464002 : Value).ownBlock) (.slice A464_0 (rd_L2 t460 x26_1).length c464_0) (rd_L2 t460 x26_1)) ∧ Aside0 (Kd.S (Kd.slice 3 (Kd.int .i64)) 36 w' w.heap.size (fun k_ => some k_ ≠ (v10 : Value).ownBlock ∧ some k_ ≠ (u464002 : Value).ownBlock) (.slice (some ad464) t460.length co12) t460) ∧ Aside0 (Kd.S (Kd.slice 3 (Kd.int .i64)) 36 w' w.heap.size (fun k_ => some k_ ≠ (v10 : Value).ownBlock ∧ some k_ ≠ (u464002 : Value).ownBlock) (.slice (some ad464) t460.length co12) t460) ∧ Aside0 (Kd.S (Kd.slice 3 (Kd.int .i64)) 36 w' w.heap.size (fun k_ => some k_ ≠ (v10 : Value).ownBlock ∧ some k_ ≠ ((.slice (some ad464) t460.length co12) : Value).ownBlock ∧ some k_ ≠ ((.slice (some ad464) t460.length co12) : Value).ownBlock ∧ some k_ ≠ ((.slice (some ad464) t460.length co12) : Value).ownBlock) u464002 x464002_1) ∧ Aside0 (w'.heap[gb457]? = some (.cells #[(.slice A0_0 l0_0.length c0_0)] 56 (0, 0))) ∧ Aside0 (w'.heap[gb463]? = some (.cells #[.int .i64 t458, (.slice (some ad464) t460.length co12), u464002] 61 (0, 0))) ∧ Aside0 (Below w.heap.size w w'))
   case atStart => exact ⟨(([] : List Int)), (0), eF, H', ⟨Nat.le_refl _⟩, ⟨by first | exact Kd.R_nil _ _ _ _ _ | exact Kd.N_nil _ _ _ _ _ | exact Kd.V_nil _ _ _ _ _ | exact Kd.Q_nil _ _ _ _ _ | exact Kd.S_nil _ _ _ _ _⟩, ⟨by (with_reducible repeat (first | apply Kd.S_alloc | apply Kd.S_drewN | apply Kd.S_drew));exact Kd.S_mono HO_24.out (fun _ hk => ⟨(by simp [Value.ownBlock]), hk⟩)⟩, ⟨by refine rP ?_;exact Kd.R_mono HF.out (fun _ hk => ⟨(by simp [Value.ownBlock]), hk⟩)⟩, ⟨by (with_reducible repeat (first | apply Kd.S_alloc | apply Kd.S_drewN | apply Kd.S_drew));exact Kd.S_mono HO_464001.out (fun _ hk => ⟨(by simp [Value.ownBlock]), hk⟩)⟩, ⟨by (with_reducible repeat (first | apply Kd.S_alloc | apply Kd.S_drewN | apply Kd.S_drew));exact Kd.S_mono HO_464001.out (fun _ hk => ⟨(by simp [Value.ownBlock]), hk⟩)⟩, ⟨by (with_reducible repeat (first | apply Kd.S_alloc | apply Kd.S_drewN | apply Kd.S_drew));exact Kd.S_mono HO_464002.out (fun _ hk => ⟨(by simp [Value.ownBlock]), ⟨hk.1, ⟨hk.2, hk.2⟩⟩⟩)⟩, ⟨by exact kP BK457.out⟩, ⟨by exact kP BK463.out⟩, ⟨by exact bB⟩⟩
   case round =>
    clear H'
    try clear c1
    try clear p2
    try clear c3
    try clear c4
    try clear p4
    try clear q4
    try clear hx4
    try clear c6
    try clear c14
    try clear c16
    try clear c16b0
    try clear c17
    try clear c17b0
    try clear c18
    try clear c18b0
    try clear c19
    try clear hcz15_0
    try clear hcz15_1
    try clear hcz15_2
    try clear hcz20_0
    try clear hcz20_1
    try clear hcz20_2
    try clear hfz15_0
    try clear hfz15_1
    try clear hfz15_2
    try clear hfz20_0
    try clear hfz20_1
    try clear hfz20_2
    try clear hx464_0
    try clear p2
    try clear p464
    try clear q464
    obtain ⟨x10_2, x35_2, rfl, HA, HK2, HO_10, HO_24, HF, HO_33, HO_464001, HO_464002, BK457, BK463, HB⟩ := hrel
    cases gk with
    | zero => exact absurd HA.out (by simp [impl_net_guardGame.l1])
    | succ k2 =>
     have H := HA.out
     clear HA
     simp only [impl_net_guardGame.l1] at H
     by_cases c21 : x35_2 < (t460.length : Int)
     rotate_left
     ·rw [if_neg c21] at H
      have c21b0 : decide (x35_2 < (t460.length : Int)) = false := decide_eq_false c21
      clear c21
      by_cases c34 : x464002_1.length < 5864062014805
      rotate_left
      ·rw [if_neg c34] at H
       exact absurd H (by simp)
      rw [if_pos c34] at H
      have LMc34 := Aside0.mk c34
      clear c34
      obtain ⟨y465, hy465⟩ : ∃ y_ : List (List Int), y_ = (x464002_1 ++ [x10_2]) := ⟨_, rfl⟩
      replace H : (impl_net_guardGame.l0 k2 a2 t460 (t460.length : Int) (wrap64 (x26_1 + 1)) l0_0 t458 t460 y465) = some (r1, r2, r3) := by first | (rw [hy465];with_reducible exact H) | (have H2_ := (Option.bind_some _ _).symm.trans H;rw [hy465];with_reducible exact H2_) | (have H2_ := (Option.bind_some _ _).symm.trans H;with_reducible exact H2_) | with_reducible exact H | (rw [hy465];exact H) | exact H
      have Ny465 := Aside0.mk hy465
      clear hy465
      have H' := Aside0.mk H
      clear H
      have hnb35 := NB463_457.out
      have hnc35 := NB457_463.out
      have hcz36_0 := bC0 BK463.out
      have hcz36_1 := bC1 BK463.out
      have hcz36_2 := bC2 BK463.out
      have hfz36_0 := blk_frozen BK463.out 0
      have hfz36_1 := blk_frozen BK463.out 1
      have hfz36_2 := blk_frozen BK463.out 2
      obtain ⟨Ao38, co38, eo38⟩ := Kd.R_slice HO_10.out
      subst eo38
      go_wp2_with (first | ((with_reducible refine gate_builtin (b := .append) (xs := #[.tmp 56, .tmp 58]) rfl ?_);at_builtin;refine Kd.S_append (Kd.slice 3 (Kd.int .i64)) (w0 := w) w.heap.size rfl (.tmp 56) (.tmp 58) 26 36 (.slice none 0 0) 24 rfl Tryd.underlying26 info36 rfl (by decide) (by omega) u464002 x464002_1 x10_2 [.slice Ao38 x10_2.length co38] (fun k_ => some k_ ≠ (.slice (some ad464) t460.length co12 : Value).ownBlock ∧ some k_ ≠ (.slice (some ad464) t460.length co12 : Value).ownBlock ∧ some k_ ≠ (.slice (some ad464) t460.length co12 : Value).ownBlock) (fun k_ => some k_ = (.slice Ao38 x10_2.length co38 : Value).ownBlock) rfl rfl ?aP (fun k_ hk_ => ((Kd.R_mono (ok' := fun k_ => ((fun k_ => some k_ ≠ (.slice (some ad464) t460.length co12 : Value).ownBlock ∧ some k_ ≠ (.slice (some ad464) t460.length co12 : Value).ownBlock ∧ some k_ ≠ (.slice (some ad464) t460.length co12 : Value).ownBlock)) k_ ∧ some k_ ≠ (u464002 : Value).ownBlock) (Kd.R_apart' (Kd.R_apart' (Kd.R_apart' (Kd.R_apart' (HO_10.out) (Kd.S_typed HO_24.out) (by decide)) (Kd.S_typed HO_33.out) (by decide)) (Kd.S_typed HO_464001.out) (by decide)) (Kd.S_typed HO_464002.out) (by decide)) (fun k_ hk => ⟨⟨hk.1.1.1.2, ⟨hk.1.1.2, hk.1.2⟩⟩, hk.2⟩))).1 k_ hk_.symm) ?aF ?aO ?aB ?aS ?aL ?_;(case aP => exact Kd.M_row (Kd.R_mono (Kd.R_tight rfl (Kd.R_mono (ok' := fun k_ => ((fun k_ => some k_ ≠ (.slice (some ad464) t460.length co12 : Value).ownBlock ∧ some k_ ≠ (.slice (some ad464) t460.length co12 : Value).ownBlock ∧ some k_ ≠ (.slice (some ad464) t460.length co12 : Value).ownBlock)) k_ ∧ some k_ ≠ (u464002 : Value).ownBlock) (Kd.R_apart' (Kd.R_apart' (Kd.R_apart' (Kd.R_apart' (HO_10.out) (Kd.S_typed HO_24.out) (by decide)) (Kd.S_typed HO_33.out) (by decide)) (Kd.S_typed HO_464001.out) (by decide)) (Kd.S_typed HO_464002.out) (by decide)) (fun k_ hk => ⟨⟨hk.1.1.1.2, ⟨hk.1.1.2, hk.1.2⟩⟩, hk.2⟩))) (fun _ h_ => h_)));(case aB => exact (by exact bB));(case aF => exact (fun k_ hk => ⟨Kd.fresh' (Kd.S_lt (by exact tP HO_24.out)) k_ hk, Kd.fresh' (Kd.S_lt (by exact tP HO_33.out)) k_ hk, Kd.fresh' (Kd.S_lt (by exact tP HO_464001.out)) k_ hk⟩));(case aO => exact (by (with_reducible repeat (first | apply Kd.S_alloc | apply Kd.S_drewN | apply Kd.S_drew));exact Kd.S_mono HO_464002.out (fun k_ hk => ⟨⟨hk.2.1, ⟨hk.2.2.1, hk.2.2.2⟩⟩, fun e_ => hk.1 e_⟩)));(case aS => exact (below_size (by exact bB)));(case aL => have := LMc34.out;omega);intro v466 w37 ho hb hg hat;rw [← Ny465.out] at ho;have n0_ := aM (Kd.S_after (ok := (fun k_ => some k_ ≠ (.slice Ao38 x10_2.length co38 : Value).ownBlock)) (by exact tP HO_24.out) hg hat);have n1_ := aM (Kd.S_after (ok := (fun k_ => some k_ ≠ (.slice Ao38 x10_2.length co38 : Value).ownBlock)) (by exact tP HO_33.out) hg hat);have n2_ := aM (Kd.S_after (ok := (fun k_ => some k_ ≠ (.slice Ao38 x10_2.length co38 : Value).ownBlock)) (by exact tP HO_464001.out) hg hat);have n3_ := aM (blk_grown (g := gb457) (o := .cells #[.slice A0_0 l0_0.length c0_0] 56 (0, 0)) (by exact kP BK457.out) hg (Kd.S_ne HO_464002.out BK457.out (by decide)));have n4_ := aM (blk_grown (g := gb463) (o := .cells #[.int .i64 t458, .slice (some ad464) t460.length co12, u464002] 61 (0, 0)) (by exact kP BK463.out) hg (Kd.S_ne HO_464002.out BK463.out (by decide)));have n5_ := aM (hb);have n6_ := aM (ho);clear HO_24;clear HO_33;clear HO_464001;clear BK457;clear BK463;clear HB;clear HO_464002;clear HO_10;have HO_24 := n0_;have HO_33 := n1_;have HO_464001 := n2_;have BK457 := n3_;have BK463 := n4_;have HB := n5_;have HO467 := n6_;clear n0_ n1_ n2_ n3_ n4_ n5_ n6_;clear ho hb hg hat;obtain ⟨Ao39, co39, eo39⟩ := Kd.S_slice HO467.out;subst eo39;have hcz40_0 := bC0 BK463.out;have hcz40_1 := bC1 BK463.out;have hcz40_2 := bC2 BK463.out;have hfz40_0 := blk_frozen BK463.out 0;have hfz40_1 := blk_frozen BK463.out 1;have hfz40_2 := blk_frozen BK463.out 2))
      go_roundg k2
      case measure => have := HK1.out;have := HK2.out;omega
      case rel => exact ⟨(wrap64 (x26_1 + 1)), (y465), (.slice Ao39 y465.length co39), eF, H', ⟨by have := HK1.out;have := HK2.out;omega⟩, ⟨by (with_reducible repeat (first | apply Kd.S_alloc | apply Kd.S_drewN | apply Kd.S_drew));exact Kd.S_mono (Kd.S_far (p := ⟨gb463, 2, none⟩) (Kd.S_types HO_24.out BK463.out (by decide)) (fun _ hk => hk.2) (.slice Ao39 y465.length co39)) (fun _ hk => hk.1.2)⟩, ⟨by (with_reducible repeat (first | apply Kd.S_alloc | apply Kd.S_drewN | apply Kd.S_drew));exact Kd.S_mono (Kd.S_far (p := ⟨gb463, 2, none⟩) (Kd.S_types HO_464001.out BK463.out (by decide)) (fun _ hk => hk.2) (.slice Ao39 y465.length co39)) (fun _ hk => hk.1.2)⟩, ⟨by (with_reducible repeat (first | apply Kd.S_alloc | apply Kd.S_drewN | apply Kd.S_drew));exact Kd.S_mono (Kd.S_far (p := ⟨gb463, 2, none⟩) (Kd.S_types HO467.out BK463.out (by decide)) (fun _ hk => hk.2) (.slice Ao39 y465.length co39)) (fun _ hk => ⟨hk.1.1, hk.1.2.2⟩)⟩, ⟨by refine kP ?_;refine blk_far ?_ NB457_463.out _;exact kP BK457.out⟩, ⟨by refine kP ?_;refine blk_put (cs := #[.int .i64 t458, .slice (some ad464) t460.length co12, u464002]) ?_ 2 _ rfl;exact kP BK463.out⟩, ⟨by exact bB⟩⟩
     rw [if_pos c21] at H
     have c21b0 : decide (x35_2 < (t460.length : Int)) = true := decide_eq_true c21
     clear c21
     by_cases c22 : 0 ≤ x35_2
     rotate_left
     ·rw [if_neg c22] at H
      exact absurd H (by simp)
     rw [if_pos c22] at H
     have c22b0 : decide (0 ≤ x35_2) = true := decide_eq_true c22
     clear c22
     by_cases c23 : x35_2 < (t460.length : Int)
     rotate_left
     ·rw [if_neg c23] at H
      exact absurd H (by simp)
     rw [if_pos c23] at H
     have c23b0 : decide (x35_2 < (t460.length : Int)) = true := decide_eq_true c23
     clear c23
     replace H := Option.bind_eq_some_iff.mp H
     obtain ⟨t469, A240, H⟩ := H
     try dsimp only at H
     have A24 := Aside0.mk A240
     clear A240
     replace H := Option.bind_eq_some_iff.mp H
     obtain ⟨t470, A250, H⟩ := H
     try dsimp only at H
     have A25 := Aside0.mk A250
     clear A250
     replace H := Option.bind_eq_some_iff.mp H
     obtain ⟨t471, A260, H⟩ := H
     try dsimp only at H
     have A26 := Aside0.mk A260
     clear A260
     by_cases c27 : t471 = true
     rotate_left
     ·replace c27 := Bool.eq_false_iff.mpr c27
      subst c27
      rw [if_neg (show ¬ (false = true) by decide)] at H
      have H' := Aside0.mk H
      clear H
      have p468 : 0 ≤ (x35_2 : Int) := oA
      have q468 : x35_2 < (t460.length : Int) := oA
      obtain ⟨ad468, A468_0, c468_0, e468, hx468_0, hl468_0, hi468_0⟩ := at_L2 (Kd.S_reads' HO_33.out).2.2 x35_2 p468 q468
      obtain rfl : ad464 = ad468 := (by injection e468)
      obtain ⟨ce468, hce468, hMe468, hcc468⟩ := Kd.S_get HO_33.out [] x35_2 p468 (by first | exact q468 | exact oA | (have e_ := (Kd.S_reads' HO_33.out).1;omega))
      obtain ⟨ve468_0, rfl, ge468_0⟩ := hMe468
      have hv468_0 := hcc468 0 _ rfl
      rw [Nat.add_zero, show ((Kd.slice 3 (Kd.int .i64))).sz = 1 from rfl, Nat.mul_one] at hv468_0
      replace hv468_0 := Option.some.inj (hv468_0.symm.trans hx468_0)
      rw [hv468_0] at ge468_0
      have HL468_0 := aM (show Kd.R (Kd.int .i64) 3 _ _ _ _ (rd_L2 t460 x35_2) from ge468_0)
      clear hv468_0 ge468_0
      clear hcc468 hce468
      have HR468_0 := Aside0.mk hi468_0
      have HC468_0 := Aside0.mk hl468_0
      clear hi468_0 hl468_0
      replace p468 := eq_true p468
      replace q468 := eq_true q468
      try go_wp2
      have n0_ := aM (Kd.R_drew HO_10.out)
      have n1_ := aM (Kd.S_drew HO_24.out);have n90_ := aM (Kd.R_drew HF.out)
      have n2_ := aM (Kd.S_drew HO_33.out)
      have n3_ := aM (Kd.S_drew HO_464001.out)
      have n4_ := aM (Kd.S_drew HO_464002.out)
      have n5_ := aM (Kd.R_drew HL468_0.out)
      have n6_ := aM (blk_drew BK457.out)
      have n7_ := aM (blk_drew BK463.out)
      have n8_ := aM (Kd.C_drew HR468_0.out)
      have n9_ := aM (below_drew1 HB.out)
      clear HO_10
      clear HO_24 HF
      clear HO_33
      clear HO_464001
      clear HO_464002
      clear HL468_0
      clear BK457
      clear BK463
      clear HR468_0
      clear HB
      have HO_10 := n0_
      have HO_24 := n1_;have HF := n90_;clear n90_
      have HO_33 := n2_
      have HO_464001 := n3_
      have HO_464002 := n4_
      have HL468_0 := n5_
      have BK457 := n6_
      have BK463 := n7_
      have HR468_0 := n8_
      have HB := n9_
      clear n0_ n1_ n2_ n3_ n4_ n5_ n6_ n7_ n8_ n9_
      refine start_ (n := 7) (S := fun w' => w'.cell? ⟨gb457, 0, none⟩ = some (.slice A0_0 l0_0.length c0_0)) (ds := []) (pT 0 7) (by kernel_rfl) rfl rfl ((blk_cell BK457.out 0).trans rfl) (fun hHeld => ?_)
      generalize wr.drew = w32 at HO_10 HO_24 HF HO_33 HO_464001 HO_464002 HL468_0 BK457 BK463 HR468_0 HB hHeld ⊢
      refine pure_ (i := 1) (N := some 41) (v := ?_) (a' := ?_) #[false,true,false,false,false,false,false] rfl rfl (by kernel_rfl) (fun _ _ _ h => h) (Or.inl ⟨by rfl, ?_⟩) ?_ ?_
      rotate_left
      ·intro w'
       go_simp
       with_reducible rfl
      rotate_left
      ·exact aP
      refine pure_ (i := 3) (N := some 43) (v := ?_) (a' := ?_) #[false,true,false,true,false,false,false] rfl rfl (by kernel_rfl) (fun _ _ _ h => h) (Or.inl ⟨by rfl, ?_⟩) ?_ ?_
      rotate_left
      ·intro w'
       go_simp
       with_reducible rfl
      rotate_left
      ·exact aP
      refine pure_ (i := 5) (N := some 45) (v := ?_) (a' := ?_) #[false,true,false,true,false,true,false] rfl rfl (by kernel_rfl) (fun _ _ _ h => h) (Or.inl ⟨by rfl, ?_⟩) ?_ ?_
      rotate_left
      ·intro w'
       go_simp
       with_reducible rfl
      rotate_left
      ·exact aP
      refine take_ (i := 0) (N := some 40) (v := ?_) (a' := ?_) #[true,true,false,true,false,true,false] rfl rfl (by kernel_rfl) (fun _ _ _ h => h) (Or.inl ⟨by rfl, ?_⟩) hHeld ?_ ?_
      rotate_left
      ·intro w' s0
       go_simp
       with_reducible rfl
      rotate_left
      ·exact aP
      refine one_ (i := 2) (N := some 42) #[true,true,true,true,false,true,false] rfl rfl (by kernel_rfl) (by decide) (fun K hK => ?_)
      refine goes_ Tryd.func63 (by kernel_rfl) rfl #[.slice A464_0 (rd_L2 t460 x26_1).length c464_0] (by rfl) rfl rfl mM ?_
      with_reducible refine (impl_maskOf.calls k2 _ _ (rd_L2 t460 x26_1) t469 _ ?side1 ?side2 A24.out).mono ?_
      (case side1 => exact cP (Kd.R_reads' HF.out).2.2)
      (case side2 => exact HC464_0.out)
      rintro e w' ⟨rfl, ⟨nd, rfl⟩⟩
      refine ⟨_, rfl, ?_⟩
      refine hK.out _ _ ((blk_cell BK457.out 0).trans rfl) (fun hHeld => ?_)
      clear hK K
      refine norm_ (a' := ?_) ?_ ?_
      rotate_left
      ·show Act.put _ (some 42) _ = _
       simp only [Act.put, List.setIfInBounds_toArray, List.set_cons_zero, List.set_cons_succ, i64_w, i32_w]
       rfl
      refine one_ (i := 4) (N := some 44) (pT 6 1) rfl rfl (by kernel_rfl) (by decide) (fun K hK => ?_)
      refine goes_ Tryd.func63 (by kernel_rfl) rfl #[.slice A468_0 (rd_L2 t460 x35_2).length c468_0] (by rfl) rfl rfl mM ?_
      with_reducible refine (impl_maskOf.calls k2 _ _ (rd_L2 t460 x35_2) t470 _ ?side1 ?side2 A25.out).mono ?_
      (case side1 => exact cP (by repeat (first | (with_reducible exact HR468_0.out) | (with_reducible refine Kd.C_alloc ?_ _) | (with_reducible refine Kd.C_drewN ?_ _) | (with_reducible refine Kd.C_drew ?_) | exact HR468_0.out)))
      (case side2 => exact HC468_0.out)
      rintro e w' ⟨rfl, ⟨nd, rfl⟩⟩
      refine ⟨_, rfl, ?_⟩
      refine hK.out _ _ ((blk_cell BK457.out 0).trans rfl) (fun hHeld => ?_)
      clear hK K
      refine norm_ (a' := ?_) ?_ ?_
      rotate_left
      ·show Act.put _ (some 44) _ = _
       simp only [Act.put, List.setIfInBounds_toArray, List.set_cons_zero, List.set_cons_succ, i64_w, i32_w]
       rfl
      refine one_ (i := 6) (N := some 46) (pT 7 0) rfl rfl (by kernel_rfl) (by decide) (fun K hK => ?_)
      refine goes_ Tryd.func62 (by kernel_rfl) rfl #[.agg #[.slice A0_0 l0_0.length c0_0], .int .i64 t469, .int .i64 t470, .bool a2] (by rfl) rfl rfl mM ?_
      with_reducible refine (impl_net_canMoveGuards.calls k2 _ _ l0_0 t469 t470 a2 false _ ?sideT ?side1 ?side2 A26.out).mono ?_
      (case sideT => exact tabG_below HT.out (by exact bB))
      (case side1 => exact cP (Kd.C_below HR0_0.out (by repeat (first | (with_reducible first | exact HB.out | apply below_alloc | apply pw_below_drewN | apply below_drew1 | refine below_set ?_ GE457.out | refine below_set ?_ GE463.out) | exact HB.out))))
      (case side2 => exact HC0_0.out)
      rintro e w33 ⟨rfl, hb⟩
      refine ⟨_, rfl, ?_⟩
      have n0_ := aM (Kd.R_below (by exact rP HO_10.out) hb)
      have n1_ := aM (Kd.S_below (by exact tP HO_24.out) hb);have n90_ := aM (Kd.R_below (by exact rP HF.out) hb)
      have n2_ := aM (Kd.S_below (by exact tP HO_33.out) hb)
      have n3_ := aM (Kd.S_below (by exact tP HO_464001.out) hb)
      have n4_ := aM (Kd.S_below (by exact tP HO_464002.out) hb)
      have n5_ := aM (Kd.R_below (by exact rP HL468_0.out) hb)
      have n6_ := aM (kB hb BK457.out)
      have n7_ := aM (kB hb BK463.out)
      have n8_ := aM (Kd.C_below (by repeat (first | (with_reducible exact HR468_0.out) | (with_reducible refine Kd.C_alloc ?_ _) | (with_reducible refine Kd.C_drewN ?_ _) | (with_reducible refine Kd.C_drew ?_) | exact HR468_0.out)) hb)
      have n9_ := aM (below_step (by exact bB) hb)
      clear HO_10
      clear HO_24 HF
      clear HO_33
      clear HO_464001
      clear HO_464002
      clear HL468_0
      clear BK457
      clear BK463
      clear HR468_0
      clear HB
      have HO_10 := n0_
      have HO_24 := n1_;have HF := n90_;clear n90_
      have HO_33 := n2_
      have HO_464001 := n3_
      have HO_464002 := n4_
      have HL468_0 := n5_
      have BK457 := n6_
      have BK463 := n7_
      have HR468_0 := n8_
      have HB := n9_
      clear n0_ n1_ n2_ n3_ n4_ n5_ n6_ n7_ n8_ n9_
      (try clear hb)
      (try clear hb2)
      (try clear hk)
      (try clear hi)
      refine hK.out _ _ ((blk_cell BK457.out 0).trans rfl) (fun hHeld => ?_)
      clear hK K
      refine norm_ (a' := ?_) ?_ ?_
      rotate_left
      ·show Act.put _ (some 46) _ = _
       simp only [Act.put, List.setIfInBounds_toArray, List.set_cons_zero, List.set_cons_succ, i64_w, i32_w]
       rfl
      refine done_ (by kernel_rfl) ?_
      try go_wp2
      go_roundg k2
      case measure => have := HK1.out;have := HK2.out;omega
      case rel => exact ⟨(x10_2), (wrap64 (x35_2 + 1)), eF, H', ⟨by have := HK1.out;have := HK2.out;omega⟩, ⟨by exact rP HO_10.out⟩, ⟨by (with_reducible repeat (first | apply Kd.S_alloc | apply Kd.S_drewN | apply Kd.S_drew));exact HO_24.out⟩, ⟨by exact rP HF.out⟩, ⟨by (with_reducible repeat (first | apply Kd.S_alloc | apply Kd.S_drewN | apply Kd.S_drew));exact HO_33.out⟩, ⟨by (with_reducible repeat (first | apply Kd.S_alloc | apply Kd.S_drewN | apply Kd.S_drew));exact HO_464001.out⟩, ⟨by (with_reducible repeat (first | apply Kd.S_alloc | apply Kd.S_drewN | apply Kd.S_drew));exact HO_464002.out⟩, ⟨by exact kP BK457.out⟩, ⟨by exact kP BK463.out⟩, ⟨by exact bB⟩⟩
     subst c27
     rw [if_pos rfl] at H
     by_cases c28 : x10_2.length < 17592186044416
     rotate_left
     ·rw [if_neg c28] at H
      exact absurd H (by simp)
     rw [if_pos c28] at H
     have LMc28 := Aside0.mk c28
     clear c28
     obtain ⟨y472, hy472⟩ : ∃ y_ : List Int, y_ = (x10_2 ++ [x35_2]) := ⟨_, rfl⟩
     replace H : (impl_net_guardGame.l1 k2 a2 (rd_L2 t460 x26_1) y472 t460 (t460.length : Int) x26_1 t460 (t460.length : Int) (wrap64 (x35_2 + 1)) l0_0 t458 t460 x464002_1) = some (r1, r2, r3) := by first | (rw [hy472];with_reducible exact H) | (have H2_ := (Option.bind_some _ _).symm.trans H;rw [hy472];with_reducible exact H2_) | (have H2_ := (Option.bind_some _ _).symm.trans H;with_reducible exact H2_) | with_reducible exact H | (rw [hy472];exact H) | exact H
     have Ny472 := Aside0.mk hy472
     clear hy472
     have H' := Aside0.mk H
     clear H
     have p468 : 0 ≤ (x35_2 : Int) := oA
     have q468 : x35_2 < (t460.length : Int) := oA
     obtain ⟨ad468, A468_0, c468_0, e468, hx468_0, hl468_0, hi468_0⟩ := at_L2 (Kd.S_reads' HO_33.out).2.2 x35_2 p468 q468
     obtain rfl : ad464 = ad468 := (by injection e468)
     obtain ⟨ce468, hce468, hMe468, hcc468⟩ := Kd.S_get HO_33.out [] x35_2 p468 (by first | exact q468 | exact oA | (have e_ := (Kd.S_reads' HO_33.out).1;omega))
     obtain ⟨ve468_0, rfl, ge468_0⟩ := hMe468
     have hv468_0 := hcc468 0 _ rfl
     rw [Nat.add_zero, show ((Kd.slice 3 (Kd.int .i64))).sz = 1 from rfl, Nat.mul_one] at hv468_0
     replace hv468_0 := Option.some.inj (hv468_0.symm.trans hx468_0)
     rw [hv468_0] at ge468_0
     have HL468_0 := aM (show Kd.R (Kd.int .i64) 3 _ _ _ _ (rd_L2 t460 x35_2) from ge468_0)
     clear hv468_0 ge468_0
     clear hcc468 hce468
     have HR468_0 := Aside0.mk hi468_0
     have HC468_0 := Aside0.mk hl468_0
     clear hi468_0 hl468_0
     replace p468 := eq_true p468
     replace q468 := eq_true q468
     try go_wp2
     have n0_ := aM (Kd.R_drew HO_10.out)
     have n1_ := aM (Kd.S_drew HO_24.out);have n90_ := aM (Kd.R_drew HF.out)
     have n2_ := aM (Kd.S_drew HO_33.out)
     have n3_ := aM (Kd.S_drew HO_464001.out)
     have n4_ := aM (Kd.S_drew HO_464002.out)
     have n5_ := aM (Kd.R_drew HL468_0.out)
     have n6_ := aM (blk_drew BK457.out)
     have n7_ := aM (blk_drew BK463.out)
     have n8_ := aM (Kd.C_drew HR468_0.out)
     have n9_ := aM (below_drew1 HB.out)
     clear HO_10
     clear HO_24 HF
     clear HO_33
     clear HO_464001
     clear HO_464002
     clear HL468_0
     clear BK457
     clear BK463
     clear HR468_0
     clear HB
     have HO_10 := n0_
     have HO_24 := n1_;have HF := n90_;clear n90_
     have HO_33 := n2_
     have HO_464001 := n3_
     have HO_464002 := n4_
     have HL468_0 := n5_
     have BK457 := n6_
     have BK463 := n7_
     have HR468_0 := n8_
     have HB := n9_
     clear n0_ n1_ n2_ n3_ n4_ n5_ n6_ n7_ n8_ n9_
     refine start_ (n := 7) (S := fun w' => w'.cell? ⟨gb457, 0, none⟩ = some (.slice A0_0 l0_0.length c0_0)) (ds := []) (pT 0 7) (by kernel_rfl) rfl rfl ((blk_cell BK457.out 0).trans rfl) (fun hHeld => ?_)
     generalize wr.drew = w29 at HO_10 HO_24 HF HO_33 HO_464001 HO_464002 HL468_0 BK457 BK463 HR468_0 HB hHeld ⊢
     refine pure_ (i := 1) (N := some 41) (v := ?_) (a' := ?_) #[false,true,false,false,false,false,false] rfl rfl (by kernel_rfl) (fun _ _ _ h => h) (Or.inl ⟨by rfl, ?_⟩) ?_ ?_
     rotate_left
     ·intro w'
      go_simp
      with_reducible rfl
     rotate_left
     ·exact aP
     refine pure_ (i := 3) (N := some 43) (v := ?_) (a' := ?_) #[false,true,false,true,false,false,false] rfl rfl (by kernel_rfl) (fun _ _ _ h => h) (Or.inl ⟨by rfl, ?_⟩) ?_ ?_
     rotate_left
     ·intro w'
      go_simp
      with_reducible rfl
     rotate_left
     ·exact aP
     refine pure_ (i := 5) (N := some 45) (v := ?_) (a' := ?_) #[false,true,false,true,false,true,false] rfl rfl (by kernel_rfl) (fun _ _ _ h => h) (Or.inl ⟨by rfl, ?_⟩) ?_ ?_
     rotate_left
     ·intro w'
      go_simp
      with_reducible rfl
     rotate_left
     ·exact aP
     refine take_ (i := 0) (N := some 40) (v := ?_) (a' := ?_) #[true,true,false,true,false,true,false] rfl rfl (by kernel_rfl) (fun _ _ _ h => h) (Or.inl ⟨by rfl, ?_⟩) hHeld ?_ ?_
     rotate_left
     ·intro w' s0
      go_simp
      with_reducible rfl
     rotate_left
     ·exact aP
     refine one_ (i := 2) (N := some 42) #[true,true,true,true,false,true,false] rfl rfl (by kernel_rfl) (by decide) (fun K hK => ?_)
     refine goes_ Tryd.func63 (by kernel_rfl) rfl #[.slice A464_0 (rd_L2 t460 x26_1).length c464_0] (by rfl) rfl rfl mM ?_
     with_reducible refine (impl_maskOf.calls k2 _ _ (rd_L2 t460 x26_1) t469 _ ?side1 ?side2 A24.out).mono ?_
     (case side1 => exact cP (Kd.R_reads' HF.out).2.2)
     (case side2 => exact HC464_0.out)
     rintro e w' ⟨rfl, ⟨nd, rfl⟩⟩
     refine ⟨_, rfl, ?_⟩
     refine hK.out _ _ ((blk_cell BK457.out 0).trans rfl) (fun hHeld => ?_)
     clear hK K
     refine norm_ (a' := ?_) ?_ ?_
     rotate_left
     ·show Act.put _ (some 42) _ = _
      simp only [Act.put, List.setIfInBounds_toArray, List.set_cons_zero, List.set_cons_succ, i64_w, i32_w]
      rfl
     refine one_ (i := 4) (N := some 44) (pT 6 1) rfl rfl (by kernel_rfl) (by decide) (fun K hK => ?_)
     refine goes_ Tryd.func63 (by kernel_rfl) rfl #[.slice A468_0 (rd_L2 t460 x35_2).length c468_0] (by rfl) rfl rfl mM ?_
     with_reducible refine (impl_maskOf.calls k2 _ _ (rd_L2 t460 x35_2) t470 _ ?side1 ?side2 A25.out).mono ?_
     (case side1 => exact cP (by repeat (first | (with_reducible exact HR468_0.out) | (with_reducible refine Kd.C_alloc ?_ _) | (with_reducible refine Kd.C_drewN ?_ _) | (with_reducible refine Kd.C_drew ?_) | exact HR468_0.out)))
     (case side2 => exact HC468_0.out)
     rintro e w' ⟨rfl, ⟨nd, rfl⟩⟩
     refine ⟨_, rfl, ?_⟩
     refine hK.out _ _ ((blk_cell BK457.out 0).trans rfl) (fun hHeld => ?_)
     clear hK K
     refine norm_ (a' := ?_) ?_ ?_
     rotate_left
     ·show Act.put _ (some 44) _ = _
      simp only [Act.put, List.setIfInBounds_toArray, List.set_cons_zero, List.set_cons_succ, i64_w, i32_w]
      rfl
     refine one_ (i := 6) (N := some 46) (pT 7 0) rfl rfl (by kernel_rfl) (by decide) (fun K hK => ?_)
     refine goes_ Tryd.func62 (by kernel_rfl) rfl #[.agg #[.slice A0_0 l0_0.length c0_0], .int .i64 t469, .int .i64 t470, .bool a2] (by rfl) rfl rfl mM ?_
     with_reducible refine (impl_net_canMoveGuards.calls k2 _ _ l0_0 t469 t470 a2 true _ ?sideT ?side1 ?side2 A26.out).mono ?_
     (case sideT => exact tabG_below HT.out (by exact bB))
     (case side1 => exact cP (Kd.C_below HR0_0.out (by repeat (first | (with_reducible first | exact HB.out | apply below_alloc | apply pw_below_drewN | apply below_drew1 | refine below_set ?_ GE457.out | refine below_set ?_ GE463.out) | exact HB.out))))
     (case side2 => exact HC0_0.out)
     rintro e w30 ⟨rfl, hb⟩
     refine ⟨_, rfl, ?_⟩
     have n0_ := aM (Kd.R_below (by exact rP HO_10.out) hb)
     have n1_ := aM (Kd.S_below (by exact tP HO_24.out) hb);have n90_ := aM (Kd.R_below (by exact rP HF.out) hb)
     have n2_ := aM (Kd.S_below (by exact tP HO_33.out) hb)
     have n3_ := aM (Kd.S_below (by exact tP HO_464001.out) hb)
     have n4_ := aM (Kd.S_below (by exact tP HO_464002.out) hb)
     have n5_ := aM (Kd.R_below (by exact rP HL468_0.out) hb)
     have n6_ := aM (kB hb BK457.out)
     have n7_ := aM (kB hb BK463.out)
     have n8_ := aM (Kd.C_below (by repeat (first | (with_reducible exact HR468_0.out) | (with_reducible refine Kd.C_alloc ?_ _) | (with_reducible refine Kd.C_drewN ?_ _) | (with_reducible refine Kd.C_drew ?_) | exact HR468_0.out)) hb)
     have n9_ := aM (below_step (by exact bB) hb)
     clear HO_10
     clear HO_24 HF
     clear HO_33
     clear HO_464001
     clear HO_464002
     clear HL468_0
     clear BK457
     clear BK463
     clear HR468_0
     clear HB
     have HO_10 := n0_
     have HO_24 := n1_;have HF := n90_;clear n90_
     have HO_33 := n2_
     have HO_464001 := n3_
     have HO_464002 := n4_
     have HL468_0 := n5_
     have BK457 := n6_
     have BK463 := n7_
     have HR468_0 := n8_
     have HB := n9_
     clear n0_ n1_ n2_ n3_ n4_ n5_ n6_ n7_ n8_ n9_
     (try clear hb)
     (try clear hb2)
     (try clear hk)
     (try clear hi)
     refine hK.out _ _ ((blk_cell BK457.out 0).trans rfl) (fun hHeld => ?_)
     clear hK K
     refine norm_ (a' := ?_) ?_ ?_
     rotate_left
     ·show Act.put _ (some 46) _ = _
      simp only [Act.put, List.setIfInBounds_toArray, List.set_cons_zero, List.set_cons_succ, i64_w, i32_w]
      rfl
     refine done_ (by kernel_rfl) ?_
     try go_wp2_with (first | ((with_reducible refine gate_builtin (b := .append) (xs := #[.tmp 47, .tmp 49]) rfl ?_);at_builtin;refine Kd.R_append (Kd.int .i64) (w0 := w) w.heap.size rfl (.tmp 47) (.tmp 49) 36 3 (.int .i64 0) 8 rfl Tryd.underlying36 info3 rfl (by decide) (by omega) u10 x10_2 x35_2 [.int .i64 x35_2] (fun _ => True) (fun _ => False) rfl rfl ?aP (fun _ hk => hk.elim) ?aF ?aO ?aB ?aS ?aL ?_;(case aP => exact rfl);(case aB => exact (by exact bB));(case aF => exact (fun _ _ => trivial));(case aO => exact (by exact rP HO_10.out));(case aS => exact (below_size (by exact bB)));(case aL => have := LMc28.out;omega);intro v473 w31 ho hb hg hat;rw [← Ny472.out] at ho;have n0_ := aM (Kd.S_after (ok := (fun k_ => some k_ ≠ (u464002 : Value).ownBlock)) (by (with_reducible repeat (first | apply Kd.S_alloc | apply Kd.S_drewN | apply Kd.S_drew));exact Kd.S_mono HO_24.out (fun _ hk => ⟨hk.2, hk.1⟩)) hg hat);have n90_ := aM (Kd.R_after (ok := (fun k_ => some k_ ≠ (u464002 : Value).ownBlock)) (by exact rP (Kd.R_mono HF.out (fun _ hk => ⟨hk.2, hk.1⟩))) hg hat);have n1_ := aM (Kd.S_after (ok := (fun k_ => some k_ ≠ (u464002 : Value).ownBlock)) (by (with_reducible repeat (first | apply Kd.S_alloc | apply Kd.S_drewN | apply Kd.S_drew));exact Kd.S_mono HO_33.out (fun _ hk => ⟨hk.2, hk.1⟩)) hg hat);have n2_ := aM (Kd.S_after (ok := (fun k_ => some k_ ≠ (u464002 : Value).ownBlock)) (by (with_reducible repeat (first | apply Kd.S_alloc | apply Kd.S_drewN | apply Kd.S_drew));exact Kd.S_mono HO_464001.out (fun _ hk => ⟨hk.2, hk.1⟩)) hg hat);have n3_ := aM (Kd.S_after (ok := (fun k_ => some k_ ≠ (.slice (some ad464) t460.length co12 : Value).ownBlock ∧ some k_ ≠ (.slice (some ad464) t460.length co12 : Value).ownBlock ∧ some k_ ≠ (.slice (some ad464) t460.length co12 : Value).ownBlock)) (by (with_reducible repeat (first | apply Kd.S_alloc | apply Kd.S_drewN | apply Kd.S_drew));exact Kd.S_mono HO_464002.out (fun _ hk => ⟨⟨hk.2.1, ⟨hk.2.2.1, hk.2.2.2⟩⟩, hk.1⟩)) hg hat);have n4_ := aM (blk_grown (g := gb457) (o := .cells #[.slice A0_0 l0_0.length c0_0] 56 (0, 0)) (by exact kP BK457.out) hg (Kd.R_ne HO_10.out BK457.out (by decide)));have n5_ := aM (blk_grown (g := gb463) (o := .cells #[.int .i64 t458, .slice (some ad464) t460.length co12, u464002] 61 (0, 0)) (by exact kP BK463.out) hg (Kd.R_ne HO_10.out BK463.out (by decide)));have n6_ := aM (Kd.R_after (ok := (fun k_ => some k_ ≠ (.slice (some ad464) t460.length co12 : Value).ownBlock ∧ some k_ ≠ (u464002 : Value).ownBlock)) (by exact rP (Kd.R_mono HL468_0.out (fun _ hk => ⟨⟨hk.2, hk.1.2⟩, hk.1.1⟩))) hg hat);have n7_ := aM (hb);have n8_ := aM (ho);clear HO_24 HF;clear HO_33;clear HO_464001;clear HO_464002;clear BK457;clear BK463;clear HL468_0;clear HB;clear HO_10;have HO_24 := n0_;have HF := n90_;clear n90_;have HO_33 := n1_;have HO_464001 := n2_;have HO_464002 := n3_;have BK457 := n4_;have BK463 := n5_;have HL468_0 := n6_;have HB := n7_;have HO474 := n8_;clear n0_ n1_ n2_ n3_ n4_ n5_ n6_ n7_ n8_;clear ho hb hg hat))
     go_roundg k2
     case measure => have := HK1.out;have := HK2.out;omega
     case rel => exact ⟨(y472), (wrap64 (x35_2 + 1)), eF, H', ⟨by have := HK1.out;have := HK2.out;omega⟩, ⟨by exact rP HO474.out⟩, ⟨by (with_reducible repeat (first | apply Kd.S_alloc | apply Kd.S_drewN | apply Kd.S_drew));exact Kd.S_mono HO_24.out (fun _ hk => ⟨hk.2, hk.1⟩)⟩, ⟨by refine rP ?_;exact Kd.R_mono HF.out (fun _ hk => ⟨hk.2, hk.1⟩)⟩, ⟨by (with_reducible repeat (first | apply Kd.S_alloc | apply Kd.S_drewN | apply Kd.S_drew));exact Kd.S_mono HO_33.out (fun _ hk => ⟨hk.2, hk.1⟩)⟩, ⟨by (with_reducible repeat (first | apply Kd.S_alloc | apply Kd.S_drewN | apply Kd.S_drew));exact Kd.S_mono HO_464001.out (fun _ hk => ⟨hk.2, hk.1⟩)⟩, ⟨by (with_reducible repeat (first | apply Kd.S_alloc | apply Kd.S_drewN | apply Kd.S_drew));exact Kd.S_mono HO_464002.out (fun _ hk => ⟨hk.2, ⟨hk.1.1, ⟨hk.1.2.1, hk.1.2.2⟩⟩⟩)⟩, ⟨by exact kP BK457.out⟩, ⟨by exact kP BK463.out⟩, ⟨by exact bB⟩⟩


/-! ### slices_Index_int_int: function 79 -/
def slices_Index_int_int.l0 : Nat → List Int → Int → Int → Int → Option (Int)
 | 0, _, _, _, _ => none
 | k + 1, x0, x1, x7, x8 => if x8 < x7 then (if 0 ≤ x8 then (if x8 < (x0.length : Int) then (if x1 = (rd x0 x8) then (some x8) else (slices_Index_int_int.l0 k x0 x1 x7 (wrap64 (x8 + 1)))) else (none)) else (none)) else (some (-1))
def slices_Index_int_int.f (k : Nat) (l0 : List Int) (a1 : Int) : Option (Int) := slices_Index_int_int.l0 k l0 a1 (l0.length : Int) 0
theorem slices_Index_int_int.mono_l : ∀ k, (∀ y0 y1 y2 y3, LeO (slices_Index_int_int.l0 k y0 y1 y2 y3) (slices_Index_int_int.l0 (k + 1) y0 y1 y2 y3))
 | 0 => fun _ _ _ _ r h => by simp [slices_Index_int_int.l0] at h
 | k + 1 => by
  have ih0 := slices_Index_int_int.mono_l k
  ·intro y0 y1 y2 y3
   unfold slices_Index_int_int.l0
   exact lM
theorem slices_Index_int_int.mono : ∀ a0 a1 k, LeO (slices_Index_int_int.f k a0 a1) (slices_Index_int_int.f (k + 1) a0 a1) := by
 intro a0 a1 k
 have ih0 := slices_Index_int_int.mono_l k
 unfold slices_Index_int_int.f
 exact lM
theorem slices_Index_int_int.calls (k : Nat) (A0 : Option Addr) (c0 : Nat) (l0 : List Int) (a1 : Int) (r : Int) (w : World) (hr0 : Kd.C (Kd.int .i64) w A0 l0.length l0) (hc0 : l0.length ≤ c0) (h : slices_Index_int_int.f k l0 a1 = some r) :
  Calls Tryd.prog 79 #[.slice A0 l0.length c0, .int .i64 a1] w fun e w' => e = .returned (.int .i64 r) ∧ Drawn0 w w' := by
 have HR0 := Aside0.mk hr0
 have HC0 := Aside0.mk hc0
 clear hr0 hc0
 have H : (slices_Index_int_int.l0 k l0 a1 (l0.length : Int) 0) = some r := h
 clear h
 have H' := Aside0.mk H
 clear H
 go_enter Tryd.func79, Tryd.ntmps79
 go_wp2
 go_loopg [8] k (fun kq v8 w' => ∃ (x8_1 : Int), v8 = .int .i64 x8_1 ∧ Aside0 (slices_Index_int_int.l0 kq l0 a1 (l0.length : Int) x8_1 = some r) ∧ Aside0 (kq ≤ k) ∧ Drawn0 w w')
 case atStart => exact ⟨(0), eF, H', ⟨Nat.le_refl _⟩, dR⟩
 case round =>
  clear H'
  try clear p2
  obtain ⟨x8_1, rfl, HA, HK1, ⟨m1, rfl⟩⟩ := hrel
  cases gk with
  | zero => exact absurd HA.out (by simp [slices_Index_int_int.l0])
  | succ k1 =>
   have H := HA.out
   clear HA
   simp only [slices_Index_int_int.l0] at H
   by_cases c3 : x8_1 < (l0.length : Int)
   rotate_left
   ·rw [if_neg c3] at H
    have c3b0 : decide (x8_1 < (l0.length : Int)) = false := decide_eq_false c3
    clear c3
    obtain rfl := Option.some.inj H
    go_wp2
    go_ret
    exact ⟨eF, dR⟩
   rw [if_pos c3] at H
   have c3b0 : decide (x8_1 < (l0.length : Int)) = true := decide_eq_true c3
   clear c3
   by_cases c4 : 0 ≤ x8_1
   rotate_left
   ·rw [if_neg c4] at H
    exact absurd H (by simp)
   rw [if_pos c4] at H
   have c4b0 : decide (0 ≤ x8_1) = true := decide_eq_true c4
   clear c4
   by_cases c5 : x8_1 < (l0.length : Int)
   rotate_left
   ·rw [if_neg c5] at H
    exact absurd H (by simp)
   rw [if_pos c5] at H
   have c5b0 : decide (x8_1 < (l0.length : Int)) = true := decide_eq_true c5
   clear c5
   by_cases c6 : a1 = (rd l0 x8_1)
   ·rw [if_pos c6] at H
    have c6b0 : (a1 == (rd l0 x8_1)) = true := beq_iff_eq.mpr c6
    have c6b1 : (a1 != (rd l0 x8_1)) = false := bne_eq_false_iff_eq.mpr c6
    clear c6
    obtain rfl := Option.some.inj H
    have p475 : 0 ≤ (x8_1 : Int) := oA
    have q475 : x8_1 < (l0.length : Int) := oA
    obtain ⟨ad475, e475, hx475_0⟩ := Kd.at_int HR0.out x8_1 p475 q475
    cases e475
    replace p475 := eq_true p475
    replace q475 := eq_true q475
    go_wp2
    go_ret
    exact ⟨eF, dR⟩
   rw [if_neg c6] at H
   have c6b0 : (a1 == (rd l0 x8_1)) = false := beq_eq_false_iff_ne.mpr c6
   have c6b1 : (a1 != (rd l0 x8_1)) = true := bne_iff_ne.mpr c6
   have H' := Aside0.mk H
   clear H
   have p475 : 0 ≤ (x8_1 : Int) := oA
   have q475 : x8_1 < (l0.length : Int) := oA
   obtain ⟨ad475, e475, hx475_0⟩ := Kd.at_int HR0.out x8_1 p475 q475
   cases e475
   replace p475 := eq_true p475
   replace q475 := eq_true q475
   go_wp2
   go_roundg k1
   case measure => have := HK1.out;omega
   case rel => exact ⟨(wrap64 (x8_1 + 1)), eF, H', ⟨by have := HK1.out;omega⟩, dR⟩


/-! ### slices_Contains_int_int: function 47 -/
def slices_Contains_int_int.f (k : Nat) (l0 : List Int) (a1 : Int) : Option (Bool) := (slices_Index_int_int.f k l0 a1).bind fun t476 => (some (decide (t476 ≥ 0)))
theorem slices_Contains_int_int.mono : ∀ a0 a1 k, LeO (slices_Contains_int_int.f k a0 a1) (slices_Contains_int_int.f (k + 1) a0 a1) := by
 intro a0 a1 k
 unfold slices_Contains_int_int.f
 have q0 := slices_Index_int_int.mono
 exact lM
theorem slices_Contains_int_int.calls (k : Nat) (A0 : Option Addr) (c0 : Nat) (l0 : List Int) (a1 : Int) (r : Bool) (w : World) (hr0 : Kd.C (Kd.int .i64) w A0 l0.length l0) (hc0 : l0.length ≤ c0) (h : slices_Contains_int_int.f k l0 a1 = some r) :
  Calls Tryd.prog 47 #[.slice A0 l0.length c0, .int .i64 a1] w fun e w' => e = .returned (.bool r) ∧ Drawn0 w w' := by
 have HR0 := Aside0.mk hr0
 have HC0 := Aside0.mk hc0
 clear hr0 hc0
 have H : ((slices_Index_int_int.f k l0 a1).bind fun t476 => (some (decide (t476 ≥ 0)))) = some r := h
 clear h
 replace H := Option.bind_eq_some_iff.mp H
 obtain ⟨t476, A30, H⟩ := H
 try dsimp only at H
 have A3 := Aside0.mk A30
 clear A30
 obtain rfl := Option.some.inj H
 go_enter Tryd.func47, Tryd.ntmps47
 go_wp2_with (first | ((with_reducible refine gate_callee (f := 79) rfl ?_);refine goesL_ (some 7) rfl rfl Tryd.func79 (by kernel_rfl) rfl #[.slice A0 l0.length c0, .int .i64 a1] rfl mM ?_;(with_reducible refine (slices_Index_int_int.calls k _ _ l0 a1 t476 _ ?side1 ?side2 A3.out).mono ?_);(case side1 => exact cP HR0.out);(case side2 => exact HC0.out);rintro e w' ⟨rfl, ⟨nd, rfl⟩⟩;refine ⟨_, rfl, ?_⟩))
 go_ret
 exact ⟨eF, dR⟩


def slices_Clone_int_int.f (l0 : List Int) : Option (List Int) := (some (([] : List Int) : List Int)).bind fun y477 => (if y477.length + l0.length < 17592186044416 then (some (y477 ++ l0)) else (none))
theorem slices_Clone_int_int.calls (A0 : Option Addr) (c0 : Nat) (l0 : List Int) (r : List Int) (w : World) (hr0 : Kd.C (Kd.int .i64) w A0 l0.length l0) (hc0 : l0.length ≤ c0) (h : slices_Clone_int_int.f l0 = some r) :
  Calls Tryd.prog 55 #[.slice A0 l0.length c0] w fun e w' => ∃ v0_ : Value, e = .returned (v0_) ∧ Kd.R (Kd.int .i64) 3 w' w.heap.size (fun _ => True) v0_ r ∧ Below w.heap.size w w' := by
 have HR0 := Aside0.mk hr0
 have HC0 := Aside0.mk hc0
 clear hr0 hc0
 have HB := aM (Below.refl w.heap.size w)
 have H : ((some (([] : List Int) : List Int)).bind fun y477 => (if y477.length + l0.length < 17592186044416 then (some (y477 ++ l0)) else (none))) = some r := h
 clear h
 obtain ⟨y477, hy477⟩ : ∃ y_ : List Int, y_ = (([] : List Int)) := ⟨_, rfl⟩
 replace H : (if y477.length + l0.length < 17592186044416 then (some (y477 ++ l0)) else (none)) = some r := by first | (rw [hy477];with_reducible exact H) | (have H2_ := (Option.bind_some _ _).symm.trans H;rw [hy477];with_reducible exact H2_) | (have H2_ := (Option.bind_some _ _).symm.trans H;with_reducible exact H2_) | with_reducible exact H | (rw [hy477];exact H) | exact H
 have Ny477 := Aside0.mk hy477
 clear hy477
 by_cases c2 : y477.length + l0.length < 17592186044416
 rotate_left
 ·rw [if_neg c2] at H
  exact absurd H (by simp)
 rw [if_pos c2] at H
 have LMc2 := Aside0.mk c2
 clear c2
 obtain ⟨y480, hy480⟩ : ∃ y_ : List Int, y_ = (y477 ++ l0) := ⟨_, rfl⟩
 replace H : (some y480) = some r := by first | (rw [hy480];with_reducible exact H) | (have H2_ := (Option.bind_some _ _).symm.trans H;rw [hy480];with_reducible exact H2_) | (have H2_ := (Option.bind_some _ _).symm.trans H;with_reducible exact H2_) | with_reducible exact H | (rw [hy480];exact H) | exact H
 have Ny480 := Aside0.mk hy480
 clear hy480
 obtain rfl := Option.some.inj H
 go_enter Tryd.func55, Tryd.ntmps55
 have q_ : ∀ (w : World) (a : Option Addr) (n c : Nat), (Go.binOp .eql 36 (.slice a n c) (.slice none 0 0)).run Tryd.prog w = .ok (.bool a.isNone) w := fun w a n c => Go.Lib.run_eql_slice_nil w _ _ a n c 0 0 Tryd.underlying36
 cases A0 with
 | none =>
  have hl0 : l0 = [] := by
   refine Classical.byContradiction fun hne => ?_
   obtain ⟨ad, e, _⟩ := HR0.out.2.2 (List.length_pos_iff.2 hne)
   cases e
  go_wp2
  go_ret
  rw [Ny480.out, Ny477.out, hl0]
  exact ⟨_, rfl, Kd.R_nil _ _ _ _ _, HB.out⟩
 | some ad0 =>
  go_wp2_with (first | ((with_reducible refine gate_dst (N := 5) rfl ?_);refine Kd.R_lit (Kd.int .i64) _ 3 ?hg (N := 5) ?hd (xs := ([] : List Int)) (inner := []) (ok := fun _ => True) (okp := fun _ => True) ?hr ?hp (fun _ hk => hk) trivial (Below.refl _ _) (Nat.le_refl _) (by simp) ?_;(case hd => rfl);(case hg => rfl);(case hr => exact gS);(case hp => exact (Reps.none _ _));intro v478 w3 ho4 hb hg_ hnew_;clear hg_ hnew_;(first | rw [← Ny477.out] at ho4 | (simp only [Int.reduceToNat] at ho4;rw [← Ny477.out] at ho4));have n0_ := aM (Kd.R_lower ho4 (below_size (by exact bB)));have n1_ := aM (below_step (by exact bB) hb);clear HB;have HO479 := n0_;have HB := n1_;clear n0_ n1_;clear hb ho4) | ((with_reducible refine gate_builtin (b := .append) (xs := #[.tmp 5, .tmp 6]) rfl ?_);at_builtin;refine Kd.R_append_rows (Kd.int .i64) (w0 := w) w.heap.size rfl (.tmp 5) (.tmp 6) 36 3 (.int .i64 0) 8 rfl Tryd.underlying36 info3 rfl (by decide) (by omega) v478 y477 l0 _ _ _ (fun _ => True) (fun _ => False) rfl rfl ?aO ?aR (fun _ _ h => h) (fun _ h => h.elim) ?aF ?aB ?aS ?aL ?_;(case aR => exact cP (Kd.C_below HR0.out HB.out));(case aB => exact (by exact bB));(case aF => exact (fun _ _ => trivial));(case aO => exact (by exact rP HO479.out));(case aS => exact (below_size (by exact bB)));(case aL => have := LMc2.out;omega);intro v481 w5 ho hb hg hat;rw [← Ny480.out] at ho;have n0_ := aM (hb);have n1_ := aM (ho);clear HB;clear HO479;have HB := n0_;have HO482 := n1_;clear n0_ n1_;clear ho hb hg hat))
  go_ret
  exact ⟨_, eW, by exact rP HO482.out, by exact bB⟩

def IsS61 (w0 W : World) (g : Nat) (f0 : Int) (f1 : List (List Int)) (f2 : List (List Int)) : Prop := ∃ A1 c1, ∃ A2 c2, W.heap[g]? = some (.cells #[.int .i64 f0, .slice A1 f1.length c1, .slice A2 f2.length c2] 61 (0, 0)) ∧ True ∧ Kd.C (Kd.slice 3 (Kd.int .i64)) w0 A1 f1.length f1 ∧ Kd.C (Kd.slice 3 (Kd.int .i64)) w0 A2 f2.length f2
theorem IsS61.grown {w0 W : World} {g : Nat} {f0 : Int} {f1 : List (List Int)} {f2 : List (List Int)} {W1 : World} {row : Option Nat} (h : IsS61 w0 W g f0 f1 f2) (hw : W.grownBy W1 row) (hne : some g ≠ row) : IsS61 w0 W1 g f0 f1 f2 := by
 obtain ⟨A1, c1, A2, c2, hb, hg, hr1, hr2⟩ := h
 exact ⟨A1, c1, A2, c2, blk_grown hb hw hne, hg, hr1, hr2⟩
theorem IsS61.own_neN {w0 W : World} {g : Nat} {f0 : Int} {f1 : List (List Int)} {f2 : List (List Int)} {α : Type} {d : Kd α} {e : Nat} {base : Nat} {ok : Nat → Prop} {v : Value} {xs : List α} (h : IsS61 w0 W g f0 f1 f2) (ho : Kd.N d e W base ok v xs) (ht : e ≠ 61) : some g ≠ v.ownBlock := by
 obtain ⟨A1, c1, A2, c2, hb, hg, hr1, hr2⟩ := h
 exact Kd.N_ne ho hb ht
theorem IsS61.fresh {w0 W : World} {g : Nat} {f0 : Int} {f1 : List (List Int)} {f2 : List (List Int)} (h : IsS61 w0 W g f0 f1 f2) : ∀ k, W.heap.size ≤ k → k ≠ g := by
 obtain ⟨A1, c1, A2, c2, hb, hg, hr1, hr2⟩ := h
 exact Kd.freshB hb
theorem IsS61.kept {w0 W : World} {g : Nat} {f0 : Int} {f1 : List (List Int)} {f2 : List (List Int)} {W1 : World} {S : Nat → Prop} (h : IsS61 w0 W g f0 f1 f2) (hk : Kept W W1 S) (hne : ¬ S g) : IsS61 w0 W1 g f0 f1 f2 := by
 obtain ⟨A1, c1, A2, c2, hb, hg, hr1, hr2⟩ := h
 exact ⟨A1, c1, A2, c2, blk_kept hb hk hne, hg, hr1, hr2⟩
theorem IsS61.below {w0 W : World} {g : Nat} {f0 : Int} {f1 : List (List Int)} {f2 : List (List Int)} {W1 : World} (h : IsS61 w0 W g f0 f1 f2) (hw : Below W.heap.size W W1) : IsS61 w0 W1 g f0 f1 f2 := h.grown (grown_of_below hw none) (by simp)
theorem IsS61.alloc {w0 W : World} {g : Nat} {f0 : Int} {f1 : List (List Int)} {f2 : List (List Int)} (h : IsS61 w0 W g f0 f1 f2) (o : Obj) : IsS61 w0 (W.alloc o) g f0 f1 f2 := h.below (below_alloc (Below.refl _ _) o)
theorem IsS61.drewN {w0 W : World} {g : Nat} {f0 : Int} {f1 : List (List Int)} {f2 : List (List Int)} (h : IsS61 w0 W g f0 f1 f2) (m : Nat) : IsS61 w0 (W.drewN m) g f0 f1 f2 := h
theorem IsS61.drew {w0 W : World} {g : Nat} {f0 : Int} {f1 : List (List Int)} {f2 : List (List Int)} (h : IsS61 w0 W g f0 f1 f2) : IsS61 w0 W.drew g f0 f1 f2 := h
theorem IsS61.at_ {w0 W : World} {g : Nat} {f0 : Int} {f1 : List (List Int)} {f2 : List (List Int)} {w' : World} {m : Nat} (hq : W.drewN m = w') (h : IsS61 w0 W g f0 f1 f2) : IsS61 w0 w' g f0 f1 f2 := by subst hq; exact IsS61.drewN h m
theorem IsS61.apart {w0 W : World} {g : Nat} {f0 : Int} {f1 : List (List Int)} {f2 : List (List Int)} {α : Type} {d : Kd α} {e : Nat} {base : Nat} {ok : Nat → Prop} {v : Value} {xs : List α} (h : IsS61 w0 W g f0 f1 f2) (ho : d.R e W base ok v xs) (ht : ∀ q, q ∈ e :: d.E → q ≠ 61) : d.R e W base (fun k => ok k ∧ k ≠ g) v xs := by
 obtain ⟨A1, c1, A2, c2, hb, hg, hr1, hr2⟩ := h
 exact Kd.R_types ho hb ht
theorem IsS61.own_ne {w0 W : World} {g : Nat} {f0 : Int} {f1 : List (List Int)} {f2 : List (List Int)} {α : Type} {d : Kd α} {e : Nat} {base : Nat} {ok : Nat → Prop} {v : Value} {xs : List α} (h : IsS61 w0 W g f0 f1 f2) (ho : d.R e W base ok v xs) (ht : e ≠ 61) : some g ≠ v.ownBlock := by
 obtain ⟨A1, c1, A2, c2, hb, hg, hr1, hr2⟩ := h
 exact Kd.R_ne ho hb ht
theorem IsS61.apartQ {w0 W : World} {g : Nat} {f0 : Int} {f1 : List (List Int)} {f2 : List (List Int)} {α : Type} {d : Kd α} {e : Nat} {base : Nat} {ok : Nat → Prop} {v : Value} {xs : List α} (h : IsS61 w0 W g f0 f1 f2) (ho : d.Q e W base ok v xs) (ht : ∀ q, q ∈ e :: d.E → q ≠ 61) : d.Q e W base (fun k => ok k ∧ k ≠ g) v xs := by
 obtain ⟨A1, c1, A2, c2, hb, hg, hr1, hr2⟩ := h
 exact Kd.Q_types ho hb ht
theorem IsS61.own_neQ {w0 W : World} {g : Nat} {f0 : Int} {f1 : List (List Int)} {f2 : List (List Int)} {α : Type} {d : Kd α} {e : Nat} {base : Nat} {ok : Nat → Prop} {v : Value} {xs : List α} (h : IsS61 w0 W g f0 f1 f2) (ho : d.Q e W base ok v xs) (ht : e ≠ 61) : some g ≠ v.ownBlock := by
 obtain ⟨A1, c1, A2, c2, hb, hg, hr1, hr2⟩ := h
 exact Kd.Q_ne ho hb ht
theorem IsS61.apartS {w0 W : World} {g : Nat} {f0 : Int} {f1 : List (List Int)} {f2 : List (List Int)} {α : Type} {d : Kd α} {e : Nat} {base : Nat} {ok : Nat → Prop} {v : Value} {xs : List α} (h : IsS61 w0 W g f0 f1 f2) (ho : d.S e W base ok v xs) (ht : ∀ q, q ∈ e :: d.E → q ≠ 61) : d.S e W base (fun k => ok k ∧ k ≠ g) v xs := by
 obtain ⟨A1, c1, A2, c2, hb, hg, hr1, hr2⟩ := h
 exact Kd.S_types ho hb ht
theorem IsS61.own_neS {w0 W : World} {g : Nat} {f0 : Int} {f1 : List (List Int)} {f2 : List (List Int)} {α : Type} {d : Kd α} {e : Nat} {base : Nat} {ok : Nat → Prop} {v : Value} {xs : List α} (h : IsS61 w0 W g f0 f1 f2) (ho : d.S e W base ok v xs) (ht : e ≠ 61) : some g ≠ v.ownBlock := by
 obtain ⟨A1, c1, A2, c2, hb, hg, hr1, hr2⟩ := h
 exact Kd.S_ne ho hb ht
theorem IsS61.lt {w0 W : World} {g : Nat} {f0 : Int} {f1 : List (List Int)} {f2 : List (List Int)} (h : IsS61 w0 W g f0 f1 f2) : g < W.heap.size := by
 obtain ⟨A1, c1, A2, c2, hb, hg, hr1, hr2⟩ := h
 exact blk_lt hb
theorem IsS61.ne_blk {w0 W : World} {g : Nat} {f0 : Int} {f1 : List (List Int)} {f2 : List (List Int)} {a : Nat} {cs : Array Value} {t : TypeId} {fr : Nat × Nat} (h : IsS61 w0 W g f0 f1 f2) (hb2 : W.heap[a]? = some (.cells cs t fr)) (ht : t ≠ 61) : g ≠ a := by
 obtain ⟨A1, c1, A2, c2, hb, hg, hr1, hr2⟩ := h
 rintro rfl
 rw [hb] at hb2
 injection hb2 with hb2
 injection hb2 with _ ht2
 exact ht ht2.symm
theorem IsS61.far {w0 W : World} {g : Nat} {f0 : Int} {f1 : List (List Int)} {f2 : List (List Int)} {p : Addr} (h : IsS61 w0 W g f0 f1 f2) (hne : g ≠ p.block) (u : Value) : IsS61 w0 (W.setCell p u) g f0 f1 f2 := by
 obtain ⟨A1, c1, A2, c2, hb, hg, hr1, hr2⟩ := h
 exact ⟨A1, c1, A2, c2, blk_far hb hne u, hg, hr1, hr2⟩
theorem cellS61_0 {W : World} {g : Nat} {A1 : Option Addr} {c1 : Nat} {A2 : Option Addr} {c2 : Nat} {f0 : Int} {f1 : List (List Int)} {f2 : List (List Int)} (h : W.heap[g]? = some (.cells #[.int .i64 f0, .slice A1 f1.length c1, .slice A2 f2.length c2] 61 (0, 0))) : W.cell? ⟨g, 0, none⟩ = some (.int .i64 f0) := (blk_cell h 0).trans rfl
theorem IsS61.set_0 {w0 W : World} {g : Nat} {f0 : Int} {f1 : List (List Int)} {f2 : List (List Int)} (h : IsS61 w0 W g f0 f1 f2) (x : Int) : IsS61 w0 (W.setCell ⟨g, 0, none⟩ (.int .i64 x)) g x f1 f2 := by
 obtain ⟨A1, c1, A2, c2, hb, hg, hr1, hr2⟩ := h
 exact ⟨A1, c1, A2, c2, by simpa using blk_set hb 0 (.int .i64 x), hg, hr1, hr2⟩
theorem cellS61_1 {W : World} {g : Nat} {A1 : Option Addr} {c1 : Nat} {A2 : Option Addr} {c2 : Nat} {f0 : Int} {f1 : List (List Int)} {f2 : List (List Int)} (h : W.heap[g]? = some (.cells #[.int .i64 f0, .slice A1 f1.length c1, .slice A2 f2.length c2] 61 (0, 0))) : W.cell? ⟨g, 1, none⟩ = some (.slice A1 f1.length c1) := (blk_cell h 1).trans rfl
theorem cellS61_2 {W : World} {g : Nat} {A1 : Option Addr} {c1 : Nat} {A2 : Option Addr} {c2 : Nat} {f0 : Int} {f1 : List (List Int)} {f2 : List (List Int)} (h : W.heap[g]? = some (.cells #[.int .i64 f0, .slice A1 f1.length c1, .slice A2 f2.length c2] 61 (0, 0))) : W.cell? ⟨g, 2, none⟩ = some (.slice A2 f2.length c2) := (blk_cell h 2).trans rfl
theorem IsS61.new (w0 W : World) (A1 : Option Addr) (c1 : Nat) (A2 : Option Addr) (c2 : Nat) (f0 : Int) (f1 : List (List Int)) (f2 : List (List Int)) (hB : Below w0.heap.size w0 W) (hr1 : Kd.C (Kd.slice 3 (Kd.int .i64)) w0 A1 f1.length f1) (hr2 : Kd.C (Kd.slice 3 (Kd.int .i64)) w0 A2 f2.length f2) : IsS61 w0 (W.alloc (.cells #[.int .i64 f0, .slice A1 f1.length c1, .slice A2 f2.length c2] 61)) W.heap.size f0 f1 f2 := ⟨A1, c1, A2, c2, by simpa using heap_alloc_new W _, trivial, hr1, hr2⟩


theorem sS {p : Prop} (h : p := by repeat (first | (with_reducible first | exact Aside0.out (by assumption) | apply IsS61.alloc | apply IsS61.drewN | apply IsS61.drew | apply IsS61.set_0 | refine IsS61.far ?_ (Aside0.out (by assumption)) _))) : p := h

/-! ### impl_guardGame_answers: by hand -/
def idxD (q : Int → Option Bool) : List Int → Int → Option Int
 | [], _ => some (-1)
 | x :: l, i => (q x).bind fun b => if b = true then some i else idxD q l (i + 1)
theorem idxD_mono {q q' : Int → Option Bool} (h : ∀ x, LeO (q x) (q' x)) : ∀ (l : List Int) (i : Int), LeO (idxD q l i) (idxD q' l i)
 | [], _ => LeO.refl _
 | x :: l, i => by
  unfold idxD
  refine LeO.bind (h x) (fun b => ?_)
  refine LeO.ite (LeO.refl _) (idxD_mono h l _)
theorem idxD_use {q : Int → Option Bool} {l : List Int} {kk : Nat} {r : Int} (hi : kk < l.length) (h : idxD q (l.drop kk) (kk : Int) = some r) :
  ∃ b, q (rd l (kk : Int)) = some b ∧ ((b = true ∧ r = (kk : Int)) ∨ (b = false ∧ idxD q (l.drop (kk + 1)) ((kk + 1 : Nat) : Int) = some r)) := by
 have e : rd l (kk : Int) = l[kk] := by simp [rd, hi]
 rw [List.drop_eq_getElem_cons hi] at h
 unfold idxD at h
 obtain ⟨b, hb, h⟩ := Option.bind_eq_some_iff.1 h
 refine ⟨b, by rw [e];exact hb, ?_⟩
 cases b with
 | true => rw [if_pos rfl] at h;exact .inl ⟨rfl, (Option.some.inj h).symm⟩
 | false => rw [if_neg (by decide)] at h;exact .inr ⟨rfl, by rw [← h];rfl⟩
theorem indexFuncD_calls (g : Nat) (lb : Array Value) (eg : ∀ args w, (callFunc g args).run Tryd.prog w = .ok (.enter g args) w) (q : Int → Option Bool) (A : Option Addr) (c : Nat) (l : List Int) (w : World) (hr : Kd.C (Kd.int .i64) w A l.length l) (r : Int) (h : idxD q l 0 = some r)
  (hp : ∀ x b W, q x = some b → Below w.heap.size w W → Calls Tryd.prog g (#[.int .i64 x] ++ lb) W fun e w' => e = .returned (.bool b) ∧ Below W.heap.size W w') :
  Calls Tryd.prog 89 #[.slice A l.length c, .func (.func g) #[] lb] w fun e w' => e = .returned (.int .i64 r) ∧ Below w.heap.size w w' := by
 have HR := Aside0.mk hr
 have HP := Aside0.mk hp
 have hL := hr.2.1
 have HI := aM (show idxD q (l.drop 0) ((0 : Nat) : Int) = some r from h)
 clear hr hp h
 go_enter Tryd.func89, Tryd.ntmps89
 go_wp2
 go_loopg [5, 8] l.length (fun gg _ s8 wr => ∃ kk : Nat, kk ≤ l.length ∧ l.length - kk ≤ gg ∧ s8 = .int .i64 (kk : Int) ∧ Aside0 (Below w.heap.size w wr) ∧ Aside0 (idxD q (l.drop kk) (kk : Int) = some r))
 case atStart => exact ⟨0, Nat.zero_le _, by omega, rfl, ⟨Below.refl _ _⟩, HI⟩
 case round =>
  clear HI
  obtain ⟨kk, hkk, hg, rfl, HB, NY⟩ := hrel
  by_cases hlt : kk < l.length
  ·have hltz : (kk : Int) < (l.length : Int) := by omega
   have hk0 : (0 : Int) ≤ (kk : Int) := by omega
   obtain ⟨ad, rfl, hcell⟩ := Kd.at_int (Kd.C_below HR.out HB.out) (kk : Int) hk0 hltz
   rw [Int.toNat_natCast] at hcell
   obtain ⟨b, hq, hcs⟩ := idxD_use hlt NY.out
   have hcall := HP.out (rd l (kk : Int)) b wr hq HB.out
   clear hq NY
   have HC := Aside0.mk hcs
   clear hcs
   generalize hx : rd l (kk : Int) = x at hcell hcall
   clear hx
   cases b with
   | true =>
    obtain rfl : r = (kk : Int) := by rcases HC.out with h | h;exact h.2;exact absurd h.1 (by decide)
    clear HC
    go_wp2_with (go_at_fn g;refine hcall.mono ?_;rintro e w' ⟨rfl, hb⟩)
    go_ret
    exact ⟨rfl, below_step HB.out hb⟩
   | false =>
    have NY := aM (show idxD q (l.drop (kk + 1)) ((kk + 1 : Nat) : Int) = some r by rcases HC.out with h | h;exact absurd h.1 (by decide);exact h.2)
    clear HC
    go_wp2_with (go_at_fn g;refine hcall.mono ?_;rintro e w' ⟨rfl, hb⟩)
    go_roundg (l.length - (kk + 1))
    case measure => omega
    case rel => exact ⟨kk + 1, by omega, by omega, by first | rfl | go_num, ⟨below_step HB.out hb⟩, NY⟩
  ·have hltz : ¬ (kk : Int) < (l.length : Int) := by omega
   obtain rfl : kk = l.length := by omega
   obtain rfl : r = -1 := by have h := NY.out;rw [List.drop_length] at h;exact (Option.some.inj h).symm
   go_wp2
   go_ret
   exact ⟨rfl, HB.out⟩

section
open Go.Shelf
def Tryd.delL_ren : Go.Shelf.Ren := ⟨fun | 10 => 80 | 6 => 89 | n => n, fun | 22 => 36 | 23 => 3 | 25 => 86 | 3 => 3 | 4 => 4 | 0 => 0 | n => n, fun | n => n⟩
theorem Tryd.delL : Go.Proofs.SlLaysH.n10 Tryd.prog Tryd.delL_ren := {
 mixed := by kernel_rfl
 f6 := ⟨Tryd.f89.name, by decide, Tryd.func89.trans (congrArg some (by kernel_rfl))⟩
 f10 := ⟨Tryd.f80.name, by decide, Tryd.func80.trans (congrArg some (by kernel_rfl))⟩
 t0 := Tryd.underlying0
 a0 := Tryd.isAgg0
 z0 := Tryd.sizeOf0
 v0 := Tryd.zeroValue0
 t3 := Tryd.underlying3
 a3 := Tryd.isAgg3
 z3 := Tryd.sizeOf3
 v3 := Tryd.zeroValue3
 t4 := Tryd.underlying4
 a4 := Tryd.isAgg4
 z4 := Tryd.sizeOf4
 v4 := Tryd.zeroValue4
 t22 := Tryd.underlying36
 a22 := Tryd.isAgg36
 z22 := Tryd.sizeOf36
 v22 := Tryd.zeroValue36
 a23 := Tryd.isAgg3
 z23 := Tryd.sizeOf3
 t25 := Tryd.underlying86
 a25 := Tryd.isAgg86
 z25 := Tryd.sizeOf86
 v25 := Tryd.zeroValue86 }

end
def clipN (N x : Int) : Int := if 0 ≤ x ∧ x < N then x else 0
theorem clipN_in {N x : Int} (h : 0 ≤ x ∧ x < N) : clipN N x = x := if_pos h
theorem clipN_ok {N : Int} (x : Int) (hN : 0 < N) : 0 ≤ clipN N x ∧ clipN N x < N := by
 unfold clipN
 split
 ·assumption
 ·exact ⟨Int.le_refl _, hN⟩
def delF (sets : List (List Int)) (attack : Int) (l : List Int) : Option (List Int) := if ∀ x ∈ l, 0 ≤ x ∧ x < (sets.length : Int) then some (l.filter fun x => (rd_L2 sets x).contains attack) else none
theorem delF_use {sets : List (List Int)} {attack : Int} {l r : List Int} (h : delF sets attack l = some r) : (∀ x ∈ l, 0 ≤ x ∧ x < (sets.length : Int)) ∧ (l.filter fun x => (rd_L2 sets x).contains attack) = r := by
 unfold delF at h
 split at h
 ·rename_i hv;exact ⟨hv, Option.some.inj h⟩
 ·cases h
theorem index_told (l : List Int) (x : Int) (hl : l.length ≤ 9223372036854775807) : ∀ (m i : Nat), l.length - i = m → i ≤ l.length → ∃ j, slices_Index_int_int.l0 (m + 1) l x (l.length : Int) (i : Int) = some j ∧ decide (j ≥ 0) = (l.drop i).contains x
 | 0, i, hm, hi => by
  have hn : ¬ ((i : Int) < (l.length : Int)) := by omega
  refine ⟨-1, ?_, ?_⟩
  ·unfold slices_Index_int_int.l0
   rw [if_neg hn]
  ·rw [List.drop_of_length_le (by omega)]
   rfl
 | m + 1, i, hm, hi => by
  have hlt : i < l.length := by omega
  have e : rd l (i : Int) = l[i] := by simp [rd, hlt]
  unfold slices_Index_int_int.l0
  rw [if_pos (by omega), if_pos (by omega), if_pos (by omega), e, List.drop_eq_getElem_cons hlt, List.contains_cons]
  by_cases hx : x = l[i]
  ·rw [if_pos hx]
   refine ⟨_, rfl, ?_⟩
   rw [show (x == l[i]) = true from beq_iff_eq.2 hx, Bool.true_or]
   exact decide_eq_true (by omega)
  ·rw [if_neg hx, show (x == l[i]) = false from beq_eq_false_iff_ne.2 hx, Bool.false_or]
   rw [show wrap64 ((i : Int) + 1) = ((i + 1 : Nat) : Int) by unfold wrap64;omega]
   exact index_told l x hl m (i + 1) (by omega) (by omega)
theorem contains_told (l : List Int) (x : Int) (hl : l.length ≤ 9223372036854775807) : ∃ k, slices_Contains_int_int.f k l x = some (l.contains x) := by
 obtain ⟨j, hj, hd⟩ := index_told l x hl l.length 0 (by omega) (Nat.zero_le _)
 refine ⟨l.length + 1, ?_⟩
 unfold slices_Contains_int_int.f slices_Index_int_int.f
 rw [show ((0 : Nat) : Int) = 0 from rfl] at hj
 rw [hj, Option.bind_some, hd, List.drop_zero]
theorem ans_fn (gP gA g : Nat) (A1 : Option Addr) (c1 : Nat) (sets : List (List Int)) (attack x : Int) (W : World) (hP : W.cell? ⟨gP, 0, none⟩ = some (.pointer (some ⟨g, 0, none⟩))) (hA : W.cell? ⟨gA, 0, none⟩ = some (.int .i64 attack)) (hS : W.cell? ⟨g, 1, none⟩ = some (.slice A1 sets.length c1))
  (hC : Kd.C (Kd.slice 3 (Kd.int .i64)) W A1 sets.length sets) (h0 : 0 ≤ x) (h1 : x < (sets.length : Int)) :
  Calls Tryd.prog 81 (#[.int .i64 x] ++ #[.pointer (some ⟨gP, 0, none⟩), .pointer (some ⟨gA, 0, none⟩)]) W fun e w' => e = .returned (.bool (!((rd_L2 sets x).contains attack))) ∧ ∃ q, w' = W.drewN q := by
 obtain ⟨ad, A, c, rfl, hx, hl, hi⟩ := at_L2 hC x h0 h1
 have hlen : (rd_L2 sets x).length ≤ 9223372036854775807 := hi.2.1
 obtain ⟨k, hk⟩ := contains_told (rd_L2 sets x) attack hlen
 have hcall : ∀ q, Calls Tryd.prog 47 #[.slice A (rd_L2 sets x).length c, .int .i64 attack] (W.drewN q) fun e w' => e = .returned (.bool ((rd_L2 sets x).contains attack)) ∧ Drawn0 (W.drewN q) w' := fun q => slices_Contains_int_int.calls k A c (rd_L2 sets x) attack _ _ (Kd.C_drewN hi q) hl hk
 clear hk hlen hC hi hl
 have p0 : (0 ≤ x) = True := eq_true h0
 have p1 : (x < (sets.length : Int)) = True := eq_true h1
 clear h0 h1
 generalize rd_L2 sets x = row at hx hcall ⊢
 show Calls Tryd.prog 81 #[.int .i64 x, .pointer (some ⟨gP, 0, none⟩), .pointer (some ⟨gA, 0, none⟩)] W _
 go_enter Tryd.func81, Tryd.ntmps81
 go_wp2
 go_quiet ((go_at_call 47;refine (hcall _).mono ?_;rintro e w' ⟨rfl, ⟨nd, rfl⟩⟩;exact ⟨rfl, _, World.drewN_drewN _ _ _⟩))
 go_wp2
 go_ret
 exact ⟨by first | rfl | simp, _, by first | rfl | exact World.drewN_drewN _ _ _⟩
theorem below_grow' (w : World) (os : Array Obj) : Below w.heap.size w (Go.Sort.grow w os) :=
 ⟨rfl, rfl, rfl, by show w.heap.size ≤ (w.heap ++ os).size;simp, fun k hk => by show (w.heap ++ os)[k]? = _;rw [Array.getElem?_append_left hk]⟩
theorem below_sortW {α : Type} [Inhabited α] {enc : α → Value} {w W : World} {blk off m : Nat} {dk : Array α} {os : Array Obj} (hB : Below w.heap.size w W) (hblk : w.heap.size ≤ blk) : Below w.heap.size w (Go.Proofs.sortWorld enc W blk off m dk os) := by
 refine ⟨hB.os, hB.tape, hB.output, ?_, fun k hk => ?_⟩
 ·have h1 := hB.size
  have h2 := (below_grow' (Go.Sort.putRow enc (Go.Sort.ahead W m) blk off dk) os).size
  have h3 : (Go.Sort.putRow enc (Go.Sort.ahead W m) blk off dk).heap.size = W.heap.size := Go.Sort.size_putRow enc (Go.Sort.ahead W m) blk off dk
  show w.heap.size ≤ (Go.Sort.grow (Go.Sort.putRow enc (Go.Sort.ahead W m) blk off dk) os).heap.size
  omega
 ·have h3 : (Go.Sort.putRow enc (Go.Sort.ahead W m) blk off dk).heap.size = W.heap.size := Go.Sort.size_putRow enc (Go.Sort.ahead W m) blk off dk
  have h1 := hB.size
  have h4 := (below_grow' (Go.Sort.putRow enc (Go.Sort.ahead W m) blk off dk) os).block k (by omega)
  refine h4.trans ?_
  have h5 : (Go.Sort.putRow enc (Go.Sort.ahead W m) blk off dk).heap[k]? = W.heap[k]? := by
   unfold Go.Sort.putRow Go.Sort.mapBlock
   show (W.heap.modify blk _)[k]? = W.heap[k]?
   rw [Array.getElem?_modify, if_neg (by omega)]
  rw [h5]
  exact hB.block k hk
theorem cell_sortW {α : Type} [Inhabited α] {enc : α → Value} {W : World} {blk off m : Nat} {dk : Array α} {os : Array Obj} {g : Nat} {v : Value} (hne : g ≠ blk) (h : W.cell? ⟨g, 0, none⟩ = some v) : (Go.Proofs.sortWorld enc W blk off m dk os).cell? ⟨g, 0, none⟩ = some v := by
 have hg : g < W.heap.size := World.block_lt_of_cell? _ _ h
 unfold Go.Proofs.sortWorld
 rw [Go.Sort.cell?_grow _ _ _ (by show g < (Go.Sort.putRow enc (Go.Sort.ahead W m) blk off dk).heap.size;rw [Go.Sort.size_putRow];exact hg), Go.Sort.cell?_putRow_other _ _ blk off _ _ (Or.inl hne)]
 exact h
theorem R_setCellsD {base g n cap : Nat} {ok : Nat → Prop} : ∀ (ys : List Int) (i : Nat) (W : World) (xs : List Int), Kd.R (Kd.int .i64) 3 W base ok (.slice (some ⟨g, 0, none⟩) n cap) xs → i + ys.length ≤ xs.length →
  Kd.R (Kd.int .i64) 3 (W.setCells g i (ys.map (Value.int .i64))) base ok (.slice (some ⟨g, 0, none⟩) n cap) (xs.take i ++ ys ++ xs.drop (i + ys.length))
 | [], i, W, xs, h, _ => by
  have e : xs.take i ++ [] ++ xs.drop (i + ([] : List Int).length) = xs := by simp
  rw [e];exact h
 | y :: ys, i, W, xs, h, hl => by
  have h1 := Kd.R_putn h (i : Int) y
  simp only [Int.toNat_natCast] at h1
  have h2 := R_setCellsD ys (i + 1) _ _ h1 (by simp only [List.length_set, List.length_cons] at hl ⊢;omega)
  simp only [List.length_cons] at hl
  have e : (xs.set i y).take (i + 1) ++ ys ++ (xs.set i y).drop (i + 1 + ys.length) = xs.take i ++ (y :: ys) ++ xs.drop (i + (y :: ys).length) := by
   rw [List.drop_set_of_lt (by omega), List.take_succ_eq_append_getElem (by rw [List.length_set];omega), List.take_set_of_le (by omega)]
   simp only [List.getElem_set_self, List.length_cons, List.append_assoc, List.singleton_append]
   rw [show i + 1 + ys.length = i + (ys.length + 1) by omega]
  rw [e] at h2
  exact h2
theorem below_setCellsD {w : World} {g : Nat} : ∀ (vs : List Value) (i : Nat) (W : World), Below w.heap.size w W → w.heap.size ≤ g → Below w.heap.size w (W.setCells g i vs)
 | [], _, _, h, _ => h
 | v :: vs, i, W, h, hg => below_setCellsD vs (i + 1) _ (h.setCell (p := ⟨g, i, none⟩) hg v) hg
theorem R_front {W : World} {base g cap : Nat} {ok : Nat → Prop} {xs : List Int} (ys zs : List Int) (he : xs = ys ++ zs) (h : Kd.R (Kd.int .i64) 3 W base ok (.slice (some ⟨g, 0, none⟩) xs.length cap) xs) : Kd.R (Kd.int .i64) 3 W base ok (.slice (some ⟨g, 0, none⟩) ys.length cap) ys := by
 subst he
 have hok := h.1
 have ho := Kd.own_of_R h
 refine Kd.R_of_own (enc := Value.int .i64) (h1 := fun _ => rfl) ?_ (fun k hk => hok k hk)
 obtain ⟨h0, h1 | ⟨g', cap', cur, e, hb, hg, hn, hc, hs, ht⟩⟩ := ho
 ·exact absurd h1.1 (by simp)
 ·refine ⟨by simp [encs], .inr ⟨g', cap', cur, ?_, hb, hg, ?_, hc, hs, ?_⟩⟩
  ·injection e with e1 e2 e3
   rw [e1, e3]
  ·rw [List.length_append] at hn;omega
  ·rw [Nat.mul_one] at ht ⊢
   have h2 := congrArg (List.take ys.length) ht
   rw [List.take_take, List.length_append, Nat.min_eq_left (by omega)] at h2
   rw [h2]
   simp [encs]
theorem deleteFunc_calls (gP gA g : Nat) (A1 : Option Addr) (c1 : Nat) (sets : List (List Int)) (attack : Int) (w W : World) (Ao : Option Addr) (co : Nat) (l r : List Int) (h : delF sets attack l = some r) (hB : Below w.heap.size w W) (hR : Kd.R (Kd.int .i64) 3 W w.heap.size (fun k => k ≠ gP ∧ k ≠ gA) (.slice Ao l.length co) l)
  (hg : g < w.heap.size) (hP : W.cell? ⟨gP, 0, none⟩ = some (.pointer (some ⟨g, 0, none⟩))) (hA : W.cell? ⟨gA, 0, none⟩ = some (.int .i64 attack)) (hS : w.cell? ⟨g, 1, none⟩ = some (.slice A1 sets.length c1)) (hC : Kd.C (Kd.slice 3 (Kd.int .i64)) w A1 sets.length sets) :
  Calls Tryd.prog 80 #[.slice Ao l.length co, .func (.func 81) #[] #[.pointer (some ⟨gP, 0, none⟩), .pointer (some ⟨gA, 0, none⟩)]] W fun e w' => ∃ v : Value, e = .returned v ∧ Kd.R (Kd.int .i64) 3 w' w.heap.size (fun _ => True) v r ∧ Below w.heap.size w w' := by
 obtain ⟨hin, rfl⟩ := delF_use h
 clear h
 have eg : ∀ args w, (callFunc 81 args).run Tryd.prog w = .ok (.enter 81 args) w := enters_of Tryd.func81 (by kernel_rfl) rfl
 cases l with
 | nil =>
  have hidx := indexFuncD_calls 81 #[.pointer (some ⟨gP, 0, none⟩), .pointer (some ⟨gA, 0, none⟩)] eg (fun _ => none) Ao co [] W (Kd.R_reads' hR).2.2 (-1) rfl (fun x b W h => by cases h)
  have HR := Aside0.mk hR
  have HB := Aside0.mk hB
  have HI := Aside0.mk hidx
  clear hR hB hidx hin hP hA hS hC
  go_enter Tryd.func80, Tryd.ntmps80
  go_wp2_with (go_at_call 89;refine HI.out.mono ?_;rintro e w' ⟨rfl, hb⟩;have n0_ := aM (Kd.R_below HR.out hb);have n1_ := aM (HB.out.trans ⟨hb.os, hb.tape, hb.output, hb.size, fun k hk => hb.block k (Nat.lt_of_lt_of_le hk HB.out.size)⟩);clear HR HB hb HI)
  go_ret
  exact ⟨_, rfl, Kd.R_mono n0_.out (fun _ _ => trivial), n1_.out⟩
 | cons x0 l0 =>
  generalize hl : x0 :: l0 = l at *
  have hne : 0 < l.length := by rw [← hl];simp
  have hx0 : x0 ∈ l := by rw [← hl];simp
  have hN : (0 : Int) < (sets.length : Int) := by have := hin x0 hx0;omega
  obtain ⟨gb, cap, e, hgb, hlt, _⟩ := Kd.R_form hR hne
  injection e with e1 e2 e3
  subst e1
  subst e3
  have hok := hR.1 gb rfl
  have hcap := (Kd.R_reads' hR).2.1
  have hlen := (Kd.R_reads' hR).2.2.2.1
  have hH : Go.Sort.Holds (fun x : Int => Value.int .i64 (clipN (sets.length : Int) x)) W gb 0 l.toArray := by
   intro j hj
   have hj' : j < l.length := by simpa using hj
   obtain ⟨h1, h2⟩ := Kd.R_celln 0 hR (j : Int) (by omega) (by omega)
   rw [Int.toNat_natCast] at h1 h2
   refine ⟨?_, by rw [Nat.zero_add];exact h2⟩
   rw [Nat.zero_add, h1]
   have e1 : rdOf 0 l (j : Int) = l[j] := by simp [rdOf, hj']
   have e2 : l.toArray[j]! = l[j] := by rw [getElem!_pos _ j hj];simp
   rw [e1, e2]
   show _ = some (Value.int .i64 (clipN (sets.length : Int) l[j]))
   rw [clipN_in (hin _ (List.getElem_mem hj'))]
  have hcl : ∀ (W' : World) (x : Int), Below w.heap.size w W' → W'.cell? ⟨gP, 0, none⟩ = some (.pointer (some ⟨g, 0, none⟩)) → W'.cell? ⟨gA, 0, none⟩ = some (.int .i64 attack) →
    Go.Proofs.FnGives Tryd.prog 81 #[.pointer (some ⟨gP, 0, none⟩), .pointer (some ⟨gA, 0, none⟩)] #[.int .i64 (clipN (sets.length : Int) x)] (.bool (!((rd_L2 sets (clipN (sets.length : Int) x)).contains attack))) W' :=
   fun W' x hb hp ha => ans_fn gP gA g A1 c1 sets attack (clipN (sets.length : Int) x) W' hp ha ((hb.cell hg).trans hS) (Kd.C_below hC hb) (clipN_ok x hN).1 (clipN_ok x hN).2
  have hat : Go.Proofs.PredAt Tryd.prog 81 #[.pointer (some ⟨gP, 0, none⟩), .pointer (some ⟨gA, 0, none⟩)] (fun x : Int => Value.int .i64 (clipN (sets.length : Int) x)) (fun x => !((rd_L2 sets (clipN (sets.length : Int) x)).contains attack)) W := by
   intro W' x hb
   have hb2 : Below w.heap.size w W' := hB.trans ⟨hb.os, hb.tape, hb.output, hb.size, fun k hk => hb.block k (Nat.lt_of_lt_of_le hk hB.size)⟩
   exact hcl W' x hb2 ((hb.cell (World.block_lt_of_cell? _ _ hP)).trans hP) ((hb.cell (World.block_lt_of_cell? _ _ hA)).trans hA)
  have hov : Go.Proofs.PredOver Tryd.prog 81 #[.pointer (some ⟨gP, 0, none⟩), .pointer (some ⟨gA, 0, none⟩)] (fun x : Int => Value.int .i64 (clipN (sets.length : Int) x)) (fun x => !((rd_L2 sets (clipN (sets.length : Int) x)).contains attack)) gb 0 l.toArray.size W :=
   fun n os dk x _ => hcl _ x (below_sortW hB hgb) (cell_sortW hok.1.symm hP) (cell_sortW hok.2.symm hA)
  have hcon := Go.Proofs.AnyE.slices_DeleteFunc Tryd.delL (fun x : Int => Value.int .i64 (clipN (sets.length : Int) x)) (fun _ => rfl) (fun x => !((rd_L2 sets (clipN (sets.length : Int) x)).contains attack)) 81 #[.pointer (some ⟨gP, 0, none⟩), .pointer (some ⟨gA, 0, none⟩)] eg 0
   (fun w => by rw [clipN_in ⟨Int.le_refl _, hN⟩];exact Tryd.zeroValue3 w) gb 0 co l.toArray W hat hov hH (by simpa using hlen) (by simpa using hcap)
  change Calls Tryd.prog 80 _ _ _ at hcon
  simp only [List.size_toArray, Bool.not_not] at hcon
  have hf : (l.filter fun x => (rd_L2 sets (clipN (sets.length : Int) x)).contains attack) = l.filter fun x => (rd_L2 sets x).contains attack := List.filter_congr fun x hx => by rw [clipN_in (hin x hx)]
  rw [hf] at hcon
  refine hcon.mono ?_
  have hfl : (l.filter fun x => (rd_L2 sets x).contains attack).length ≤ l.length := List.length_filter_le _ _
  have hmem : ∀ x ∈ l.filter (fun x => (rd_L2 sets x).contains attack), x ∈ l := fun x hx => (List.mem_filter.1 hx).1
  generalize (l.filter fun x => (rd_L2 sets x).contains attack) = f at hfl hmem ⊢
  rintro e w' ⟨rfl, q, rfl⟩
  have hq := Go.Lib.putRow_eq_setCells (fun x : Int => Value.int .i64 (clipN (sets.length : Int) x)) W gb 0 l.toArray (f ++ List.replicate (l.length - f.length) 0) q hH (by simp;omega)
  rw [hq]
  have hm : ((f ++ List.replicate (l.length - f.length) 0).map fun x : Int => Value.int .i64 (clipN (sets.length : Int) x)) = (f ++ List.replicate (l.length - f.length) 0).map (Value.int .i64) := by
   refine List.map_congr_left fun x hx => ?_
   rcases List.mem_append.1 hx with hx | hx
   ·rw [clipN_in (hin x (hmem x hx))]
   ·rw [(List.mem_replicate.1 hx).2, clipN_in ⟨Int.le_refl _, hN⟩]
  rw [hm]
  refine ⟨_, rfl, ?_, below_setCellsD _ 0 _ (pw_below_drewN hB q) hgb⟩
  have h1 := R_setCellsD (f ++ List.replicate (l.length - f.length) 0) 0 (W.drewN q) l (Kd.R_drewN hR q) (by simp;omega)
  have hll : (f ++ List.replicate (l.length - f.length) 0).length = l.length := by simp;omega
  simp only [List.take_zero, List.nil_append, Nat.zero_add, hll, List.drop_length, List.append_nil] at h1
  exact Kd.R_mono (R_front f (List.replicate (l.length - f.length) 0) rfl (by rw [hll];exact h1)) (fun _ _ => trivial)

def impl_guardGame_answers.f (s0_0 : Int) (s0_1 : List (List Int)) (s0_2 : List (List Int)) (a1 : Int) (a2 : Int) : Option (List Int × Int) := if 0 ≤ a1 then (if a1 < (s0_2.length : Int) then ((slices_Clone_int_int.f (rd_L2 s0_2 a1)).bind fun t1 => ((delF s0_1 a2 t1).bind fun t2 => (some (t2, s0_0)))) else (none)) else (none)
theorem impl_guardGame_answers.calls (g : Nat) (s0_0 : Int) (s0_1 : List (List Int)) (s0_2 : List (List Int)) (a1 : Int) (a2 : Int) (r1 : List Int) (r2 : Int) (w0 w : World) (hI : IsS61 w0 w g s0_0 s0_1 s0_2) (hB : Below w0.heap.size w0 w) (h : impl_guardGame_answers.f s0_0 s0_1 s0_2 a1 a2 = some (r1, r2)) :
    Calls Tryd.prog 48 #[.pointer (some ⟨g, 0, none⟩), .int .i64 a1, .int .i64 a2] w fun e w' => ∃ v0_ : Value, e = .returned (v0_) ∧ Kd.R (Kd.int .i64) 3 w' w.heap.size (fun _ => True) v0_ r1 ∧ IsS61 w0 w' g r2 s0_1 s0_2 ∧ Below w0.heap.size w0 w' ∧ KeepBut w w' g none := by
  unfold impl_guardGame_answers.f at h
  split at h
  case isFalse => cases h
  case isTrue p0 =>
  split at h
  case isFalse => cases h
  case isTrue p1 =>
  obtain ⟨t1, ht1, h⟩ := Option.bind_eq_some_iff.1 h
  obtain ⟨t2, ht2, h⟩ := Option.bind_eq_some_iff.1 h
  simp only [Option.some.injEq, Prod.mk.injEq] at h
  obtain ⟨rfl, rfl⟩ := h
  have hlt := hI.lt
  have hI0 := hI
  obtain ⟨A1, c1, A2, c2, hG, hg, hS1, hS2⟩ := hI
  have hz1 := cellS61_1 hG
  have hz2 := cellS61_2 hG
  obtain ⟨ad, Ar, cr, rfl, hx, hl, hi⟩ := at_L2 hS2 a1 p0 p1
  have hxw := (pw_cell_below hB hx)
  have hiw := Kd.C_below hi hB
  have hSw := Kd.C_below hS1 hB
  have HI := Aside0.mk hI0
  have HB := Aside0.mk hB
  have HW := aM (Below.refl w.heap.size w)
  have A1_ := Aside0.mk ht1
  have A2_ := Aside0.mk ht2
  have HLT := Aside0.mk hlt
  have HZ1 := Aside0.mk hz1
  have HZ2 := Aside0.mk hz2
  have HX := Aside0.mk hxw
  have HL := Aside0.mk hl
  have HC := Aside0.mk hiw
  have HS := Aside0.mk hSw
  clear hI0 hB ht1 ht2 hlt hz1 hz2 hx hxw hl hi hiw hSw hG hg hS1 hS2
  replace p0 := eq_true p0
  replace p1 := eq_true p1
  go_enter Tryd.func48, Tryd.ntmps48
  go_wp2_with (first
    | ((with_reducible refine gate_dst (N := 3) rfl ?_); refine box_event ?hg (N := 3) ?hd (cs := #[.pointer (some ⟨g, 0, none⟩)]) (t := 54) ?hr ?_; (case hd => rfl); (case hg => rfl); (case hr => exact gS); intro gP hgP wP hboxP hbP; have HWP := Aside0.mk hbP; have BKP := Aside0.mk hboxP; have GP := aM (show w.heap.size ≤ gP by rw [hgP]; exact Nat.le_refl _); clear hbP hboxP hgP)
    | ((with_reducible refine gate_dst (N := 5) rfl ?_); refine box_event ?hg (N := 5) ?hd (cs := #[.int .i64 a2]) (t := 3) ?hr ?_; (case hd => rfl); (case hg => rfl); (case hr => exact gS); intro gA hgA wA hboxA hbA; have GA := aM (show w.heap.size ≤ gA by rw [hgA]; exact HWP.out.size); have BKQ := aM (blk_below BKP.out hbA); have BKA := Aside0.mk hboxA; have HWA := aM (below_step HWP.out hbA); clear hbA hboxA hgA BKP HWP;
       have hcP := (blk_cell BKQ.out 0).trans (show (#[Value.pointer (some ⟨g, 0, none⟩)] : Array Value)[0]? = some (.pointer (some ⟨g, 0, none⟩)) from rfl); have hfP := blk_frozen BKQ.out 0; have hc2 := (HWA.out.cell (p := ⟨g, 2, none⟩) HLT.out).trans HZ2.out; have hcr := pw_cell_below HWA.out HX.out)
    | ((with_reducible refine gate_callee (f := 55) rfl ?_); refine goesL_ (some 14) rfl rfl Tryd.func55 (by kernel_rfl) rfl #[.slice Ar (rd_L2 s0_2 a1).length cr] rfl (by (try simp only [List.map_toArray, List.map_cons, List.map_nil]); first | done | rfl) ?_;
       (with_reducible refine (slices_Clone_int_int.calls _ _ (rd_L2 s0_2 a1) t1 _ ?side1 ?side2 A1_.out).mono ?_); (case side1 => exact Kd.C_below HC.out HWA.out); (case side2 => exact HL.out); rintro e wC ⟨vC, rfl, hoC, hbC⟩; refine ⟨_, rfl, ?_⟩;
       obtain ⟨Ao, co, eo⟩ := Kd.R_slice hoC; subst eo; have HOC := aM (Kd.R_lower (Kd.R_mono (ok' := fun k => k ≠ gP ∧ k ≠ gA) (Kd.R_bound hoC) (fun k hk => ⟨fun e_ => Nat.not_le.2 (blk_lt BKQ.out) (e_ ▸ hk.2.1), fun e_ => Nat.not_le.2 (blk_lt BKA.out) (e_ ▸ hk.2.1)⟩)) HWA.out.size);
       have BKP2 := aM (blk_below BKQ.out hbC); have BKA2 := aM (blk_below BKA.out hbC); have HWC := aM (below_step HWA.out hbC); clear hoC hbC BKQ BKA HWA hcP hfP hc2 hcr)
    | (go_at_call 80; refine (deleteFunc_calls gP gA g A1 c1 s0_1 a2 w _ Ao co t1 t2 A2_.out HWC.out HOC.out HLT.out ((blk_cell BKP2.out 0).trans rfl) ((blk_cell BKA2.out 0).trans rfl) HZ1.out HS.out).mono ?_; rintro e wD ⟨vD, rfl, hoD, hbD⟩; have HOD := Aside0.mk hoD; have HWD := Aside0.mk hbD; clear hoD hbD HOC BKP2 BKA2 HWC))
  go_ret
  exact ⟨_, rfl, HOD.out, HI.out.below HWD.out, below_step HB.out HWD.out, KeepBut.of_below HWD.out g none⟩

/-! ### bits_Mul64: function 101 -/
def bits_Mul64.f (a0 : Int) (a1 : Int) : Option (Int × Int) := some (IntKind.u64.wrap ((IntKind.u64.wrap ((IntKind.u64.wrap ((a0 / 4294967296) * (a1 / 4294967296))) + ((IntKind.u64.wrap ((IntKind.u64.wrap ((a0 / 4294967296) * (Go.bits .and .u64 a1 4294967295))) + ((IntKind.u64.wrap ((Go.bits .and .u64 a0 4294967295) * (Go.bits .and .u64 a1 4294967295))) / 4294967296))) / 4294967296))) + ((IntKind.u64.wrap ((Go.bits .and .u64 (IntKind.u64.wrap ((IntKind.u64.wrap ((a0 / 4294967296) * (Go.bits .and .u64 a1 4294967295))) + ((IntKind.u64.wrap ((Go.bits .and .u64 a0 4294967295) * (Go.bits .and .u64 a1 4294967295))) / 4294967296))) 4294967295) + (IntKind.u64.wrap ((Go.bits .and .u64 a0 4294967295) * (a1 / 4294967296))))) / 4294967296)), IntKind.u64.wrap (a0 * a1))
theorem bits_Mul64.calls (a0 : Int) (a1 : Int) (r1 : Int) (r2 : Int) (w : World) (h : bits_Mul64.f a0 a1 = some (r1, r2)) :
  Calls Tryd.prog 101 #[.int .u64 a0, .int .u64 a1] w fun e w' => e = .returned (.tuple #[.int .u64 r1, .int .u64 r2]) ∧ Drawn0 w w' := by
 have H : (some (IntKind.u64.wrap ((IntKind.u64.wrap ((IntKind.u64.wrap ((a0 / 4294967296) * (a1 / 4294967296))) + ((IntKind.u64.wrap ((IntKind.u64.wrap ((a0 / 4294967296) * (Go.bits .and .u64 a1 4294967295))) + ((IntKind.u64.wrap ((Go.bits .and .u64 a0 4294967295) * (Go.bits .and .u64 a1 4294967295))) / 4294967296))) / 4294967296))) + ((IntKind.u64.wrap ((Go.bits .and .u64 (IntKind.u64.wrap ((IntKind.u64.wrap ((a0 / 4294967296) * (Go.bits .and .u64 a1 4294967295))) + ((IntKind.u64.wrap ((Go.bits .and .u64 a0 4294967295) * (Go.bits .and .u64 a1 4294967295))) / 4294967296))) 4294967295) + (IntKind.u64.wrap ((Go.bits .and .u64 a0 4294967295) * (a1 / 4294967296))))) / 4294967296)), IntKind.u64.wrap (a0 * a1))) = some (r1, r2) := h
 clear h
 simp only [Option.some.injEq, Prod.mk.injEq] at H
 obtain ⟨rfl, rfl⟩ := H
 go_enter Tryd.func101, Tryd.ntmps101
 go_wp2
 go_ret2
 exact ⟨eF, dR⟩


/-! ### bits_Mul: function 88 -/
def bits_Mul.f (a0 : Int) (a1 : Int) : Option (Int × Int) := (bits_Mul64.f a0 a1).bind fun bt490 => (some (bt490.1, bt490.2))
theorem bits_Mul.calls (a0 : Int) (a1 : Int) (r1 : Int) (r2 : Int) (w : World) (h : bits_Mul.f a0 a1 = some (r1, r2)) :
  Calls Tryd.prog 88 #[.int .u64 a0, .int .u64 a1] w fun e w' => e = .returned (.tuple #[.int .u64 r1, .int .u64 r2]) ∧ Drawn0 w w' := by
 have H : ((bits_Mul64.f a0 a1).bind fun bt490 => (some (bt490.1, bt490.2))) = some (r1, r2) := h
 clear h
 replace H := Option.bind_eq_some_iff.mp H
 obtain ⟨⟨t490, t491⟩, A30, H⟩ := H
 try dsimp only at H
 have A3 := Aside0.mk A30
 clear A30
 simp only [Option.some.injEq, Prod.mk.injEq] at H
 obtain ⟨rfl, rfl⟩ := H
 go_enter Tryd.func88, Tryd.ntmps88
 go_wp2_with (first | ((with_reducible refine gate_callee (f := 101) rfl ?_);refine goesL_ (some 25) rfl rfl Tryd.func101 (by kernel_rfl) rfl #[.int .u64 a0, .int .u64 a1] rfl mM ?_;(with_reducible refine (bits_Mul64.calls a0 a1 t490 t491 _ A3.out).mono ?_);rintro e w' ⟨rfl, ⟨nd, rfl⟩⟩;refine ⟨_, rfl, ?_⟩))
 go_ret2
 exact ⟨eF, dR⟩


/-! ### slices_Repeat_int_int: by hand -/
def slices_Repeat_int_int.f (l0 : List Int) (a1 : Int) : Option (List Int) := if l0.length = 1 ∧ 0 ≤ a1 ∧ a1 ≤ 1048576 then some (List.replicate a1.toNat (rd l0 0)) else none
theorem bits_Mul_one (a : Int) (h0 : 0 ≤ a) (h1 : a ≤ 1048576) : bits_Mul.f 1 a = some (0, a) := by
 have e : Go.bits .and .u64 a 4294967295 = a := by
  obtain ⟨n, rfl⟩ := Int.eq_ofNat_of_zero_le h0
  have := bits_and_u64_nat n 4294967295 (by omega) (by omega)
  rw [show n &&& 4294967295 = n % 4294967296 from Nat.and_two_pow_sub_one_eq_mod n 32, Nat.mod_eq_of_lt (by omega)] at this
  exact this
 have e1 : Go.bits .and .u64 1 4294967295 = 1 := by decide +kernel
 have d1 : (1 : Int) / 4294967296 = 0 := by decide
 have d2 : a / 4294967296 = 0 := by omega
 have w0 : IntKind.u64.wrap (0 : Int) = 0 := by decide +kernel
 have e0 : Go.bits .and .u64 0 4294967295 = 0 := by decide +kernel
 have wa : IntKind.u64.wrap a = a := by rw [IntKind.wrap_u64];omega
 simp only [bits_Mul.f, bits_Mul64.f, e, e0, w0, e1, d1, d2, Int.zero_mul, Int.mul_zero, Int.one_mul, wa, w0, Int.zero_add, Int.zero_ediv, Option.bind_some]
theorem madeCells_int (n : Nat) : madeCells (Value.int .i64 0).cells (n * 1) = (List.replicate n (Value.int .i64 0)).toArray := by
 apply Array.ext
 ·simp [madeCells]
 ·intro i h1 h2
  simp [madeCells, Value.cells, Nat.mod_one]
theorem make_raw {P : Program} {w : World} {ops : Array Oper} {rest : List Oper} {o : Oper} {a : Act} {Q : Exit → Act → World → Prop} (hgd : o.guard = none) (t e : TypeId) (x y : Operand) (ho : o.op = .makeSlice t x y) (n : Nat) (cs : List Value) (hx : a.eval x = .int .i64 (n : Int)) (hy : a.eval y = .int .i64 (n : Int))
  (hmk : (Instr.makeSlice t (.int .i64 (n : Int)) (.int .i64 (n : Int))).run P w = .ok (.slice (some ⟨w.heap.size, 0, none⟩) n n) (w.alloc (.cells cs.toArray e)))
  (h : ∀ w1, Hid (w1.heap[w.heap.size]? = some (.cells cs.toArray e (0, 0))) → Below w.heap.size w w1 → wpList P ops Q rest (a.put o.dst (.slice (some ⟨w.heap.size, 0, none⟩) n n)) w1) : wpList P ops Q (o :: rest) a w := by
 refine wpList_plain hgd fun K hK => ?_
 unfold Oper.wp
 simp [execOp, ho, hx, hy, hmk, Result.andThen]
 exact hK _ _ (h _ (show _ = _ from by show (w.heap.push _)[w.heap.size]? = _;exact Array.getElem?_push_size) (below_alloc (Below.refl _ _) _))
theorem still_tail_drewR {P : Program} {id : Nat} {Q : Exit → Act → World → Prop} {a : Act} {w : World} {l : List Oper} (n : Nat) (hm : P.follows .mixedOrders = true) (hB : Region.lexTailB .any l.toArray n = true)
  (h : wpStill P l.toArray w.drew (fun a' => wpList P l.toArray Q (l.drop n) a' w.drew) (l.take n) a) : (Code.region id l.toArray true).wp P Q a w := wp_region_still_tail n hm hB h
theorem rep_own {w : World} {base gb n e : Nat} {x : Int} (hb : base ≤ gb) (hn : n ≤ 1048576) (h : w.heap[gb]? = some (.cells (List.replicate n (Value.int .i64 x) ++ List.replicate (n - n) (Value.int .i64 0)).toArray e (0, 0))) : Kd.R (Kd.int .i64) e w base (fun _ => True) (.slice (some ⟨gb, 0, none⟩) n n) (List.replicate n x) := by
 refine Kd.R_of_own (enc := Value.int .i64) (h1 := fun _ => rfl) ⟨?_, .inr ⟨gb, n, _, ?_, hb, h, ?_, ?_, ?_, ?_⟩⟩ (fun _ _ => trivial)
 ·simp [encs]
 ·simp
 ·simp
 ·simp [maxLen];omega
 ·simp
 ·simp [encs]
theorem rep_one {n : Nat} (x : Int) : ∀ v ∈ List.replicate n (Value.int .i64 x), v.oneCell' = true := fun v hv => by rw [(List.mem_replicate.1 hv).2]; rfl
theorem rep_cells {w : World} {ad : Addr} {n : Nat} {x : Value} (hn : n ≤ 1) (h : w.cell? (ad.add 0) = some x) : ∀ j v, (List.replicate n x)[j]? = some v → w.cell? (ad.add j) = some v := by
 intro j v hj
 rw [List.getElem?_replicate] at hj
 split at hj
 case isTrue hlt =>
  obtain rfl : j = 0 := by omega
  rw [h];exact hj
 case isFalse => cases hj
theorem rep_cells2 {w : World} {gb kk m c e : Nat} {x y : Value} (hc : c ≤ kk) (h : w.heap[gb]? = some (.cells (List.replicate kk x ++ List.replicate m y).toArray e (0, 0))) : ∀ j v, (List.replicate c x)[j]? = some v → w.cell? ((⟨gb, 0, none⟩ : Addr).add j) = some v := by
 intro j v hj
 rw [List.getElem?_replicate] at hj
 split at hj
 case isTrue hlt =>
  rw [add_plain]
  rw [blk_cell h j]
  rw [← hj]
  simp only [List.getElem?_toArray]
  rw [List.getElem?_append_left (by rw [List.length_replicate];omega), List.getElem?_replicate, if_pos (by omega)]
 case isFalse => cases hj
theorem splice_rep (n k c : Nat) (x z : Value) (h : k + c ≤ n) : splice (List.replicate k x ++ List.replicate (n - k) z) k (List.replicate c x) = List.replicate (k + c) x ++ List.replicate (n - (k + c)) z := by
 unfold splice
 rw [List.take_append_of_le_length (by simp), List.take_of_length_le (by simp), List.length_replicate, List.drop_append, List.drop_of_length_le (by simp), List.nil_append, List.length_replicate, List.drop_replicate, ← List.append_assoc, List.replicate_append_replicate]
 congr 2
 omega
theorem slices_Repeat_int_int.calls (A0 : Option Addr) (c0 : Nat) (l0 : List Int) (a1 : Int) (r : List Int) (w : World) (hr0 : Kd.C (Kd.int .i64) w A0 l0.length l0) (hc0 : l0.length ≤ c0) (h : slices_Repeat_int_int.f l0 a1 = some r) :
  Calls Tryd.prog 64 #[.slice A0 l0.length c0, .int .i64 a1] w fun e w' => ∃ v0_ : Value, e = .returned (v0_) ∧ Kd.R (Kd.int .i64) 3 w' w.heap.size (fun _ => True) v0_ r ∧ Below w.heap.size w w' := by
 unfold slices_Repeat_int_int.f at h
 split at h
 case isFalse => exact absurd h (by simp)
 case isTrue hc =>
  obtain ⟨hl, h0, h1⟩ := hc
  obtain rfl := Option.some.inj h
  clear h
  obtain ⟨n, rfl⟩ := Int.eq_ofNat_of_zero_le h0
  have h1' : n ≤ 1048576 := by omega
  simp only [Int.toNat_natCast]
  have hM := aM (bits_Mul_one (n : Int) h0 h1)
  obtain ⟨ad, rfl, hcell⟩ := Kd.at_int hr0 0 (by omega) (by omega)
  rw [hl] at *
  have hcell0 : w.cell? ad = some (.int .i64 (rd l0 0)) := hcell
  have HC0 := Aside0.mk hcell0
  clear hcell hr0 hc0 hcell0
  generalize hx : rd l0 0 = x at HC0 ⊢
  have hu := Tryd.underlying36
  have hsz : ((Tryd.prog).info? 3).map (·.size) = some 1 := by
   have h := info3
   simp only [Option.map_eq_some_iff] at h ⊢
   obtain ⟨i, hi, he⟩ := h
   exact ⟨i, hi, (Prod.mk.inj (Prod.mk.inj he).2).1⟩
  have hmk : ∀ W : World, (Instr.makeSlice 36 (.int .i64 (n : Int)) (.int .i64 (n : Int))).run Tryd.prog W = .ok (.slice (some ⟨W.heap.size, 0, none⟩) n n) (W.alloc (.cells (List.replicate n (Value.int .i64 0)).toArray 3)) := by
   intro W
   have h := info3
   simp only [Option.map_eq_some_iff] at h
   obtain ⟨i, hi, he⟩ := h
   simp only [Prod.mk.injEq] at he
   have hr := run_make (P := Tryd.prog) W 36 3 i (.int .i64 0) hu hi he.1 .i64 .i64 (n : Int) (n : Int) (by omega) (by omega) (by rw [he.2.2];omega) (by omega)
   rw [he.2.1, Int.toNat_natCast, madeCells_int] at hr
   exact hr
  have HMK := Aside0.mk hmk
  clear hmk
  go_enter Tryd.func64, Tryd.ntmps64
  have hc0 : decide ((n : Int) < 0) = false := by simp
  have hw1 : IntKind.u64.wrap (n : Int) = (n : Int) := by rw [IntKind.wrap_u64];omega
  have hw2 : IntKind.i64.wrap (n : Int) = (n : Int) := by rw [IntKind.wrap_i64];omega
  have hg : decide ((n : Int) > 9223372036854775807) = false := by simp;omega
  go_wp2_with (first | (with_reducible refine gate_dst (N := 30) rfl ?_);fail)
  refine (bits_Mul.calls 1 (n : Int) 0 (n : Int) _ hM.out).mono ?_
  rintro e w' ⟨rfl, ⟨nd, rfl⟩⟩
  obtain ⟨k, hk⟩ : ∃ k, k = Nat.min 1 n := ⟨_, rfl⟩
  have hkn : k ≤ n := by rw [hk];exact Nat.min_le_right 1 n
  have hk1 : k ≤ 1 := by rw [hk];exact Nat.min_le_left 1 n
  have hk2 : 0 < n → 0 < k := by rw [hk];intro h;exact Nat.lt_min.2 ⟨Nat.one_pos, h⟩
  have HKE := Aside0.mk hk
  clear hk
  go_wp2_with (first | ((with_reducible refine gate_dst (N := 30) rfl ?_);refine make_raw rfl 36 3 _ _ rfl n _ rfl rfl (HMK.out _) ?_;intro w1 HG1 hB1;have HB1 := aM (show Below w.heap.size w w1 from (pw_below_drewN (Below.refl _ _) nd).trans hB1);clear hB1;replace HG1 : Hid (w1.heap[w.heap.size]? = _) := HG1;rw [show (w.drewN nd).heap.size = w.heap.size from rfl];generalize hgb : w.heap.size = gb at *) | ((with_reducible refine gate_dst (N := 33) rfl ?_);refine wpList_copy_splice rfl _ _ 36 36 rfl 3 hu hsz _ _ n n 1 c0 rfl rfl gb 0 (List.replicate 0 (Value.int .i64 x) ++ List.replicate (n - 0) (Value.int .i64 0)) 3 ?ha (List.replicate k (Value.int .i64 x)) ?hb ?hpos ?hc ?hd gb w HB1.out ?he ?hf;(case ha => exact HG1.out);(case hb => exact (List.length_replicate).trans HKE.out);(case hpos => exact fun _ => ⟨rfl, ad, rfl, rep_cells hk1 (pw_cell_below (by rw [hgb];exact HB1.out) HC0.out)⟩);(case hc => simp only [List.length_append, List.length_replicate];omega);(case hd => exact rep_one _);(case he => exact Nat.le_refl _);rw [splice_rep n 0 k _ _ (by omega), List.length_replicate, Nat.zero_add];intro w2 HG2 hB2;have HB2 := Aside0.mk hB2;clear hB2 HG1 HB1))
  clear HMK hM hx
  go_loopg [8] n (fun gg v8 wr => ∃ kk : Nat, v8 = .int .i64 (kk : Int) ∧ Aside0 (kk ≤ n ∧ (0 < n → 0 < kk) ∧ n - kk ≤ gg) ∧ Aside0 (wr.heap[gb]? = some (.cells (List.replicate kk (Value.int .i64 x) ++ List.replicate (n - kk) (Value.int .i64 0)).toArray 3 (0, 0))) ∧ Aside0 (Below gb w wr))
  case atStart => exact ⟨k, rfl, ⟨hkn, hk2, by omega⟩, ⟨HG2.out⟩, HB2⟩
  case round =>
   obtain ⟨kk, rfl, HN, HG, HB⟩ := hrel
   clear HG2 HB2 hk1 hk2 hkn HKE
   by_cases hlt : kk < n
   ·have hltz : (kk : Int) < (n : Int) := by omega
    obtain ⟨hka, hkb, hkc⟩ := HN.out
    have hkp : 0 < kk := hkb (by omega)
    obtain ⟨c, hc⟩ : ∃ c, c = Nat.min kk (n - kk) := ⟨_, rfl⟩
    have hc1 : c ≤ n - kk := by rw [hc];exact Nat.min_le_right _ _
    have hc2 : c ≤ kk := by rw [hc];exact Nat.min_le_left _ _
    have hc3 : 0 < c := by rw [hc];exact Nat.lt_min.2 ⟨hkp, by omega⟩
    have HC := Aside0.mk hc
    clear hc
    have hne : ¬ n = kk := by omega
    have hw3 : IntKind.i64.wrap ((kk : Int) + (c : Int)) = ((kk + c : Nat) : Int) := by rw [IntKind.wrap_i64];omega
    have i0 : ((0 : Int) ≤ (kk : Int)) = True := by simp
    have i1 : ((kk : Int) ≤ (n : Int)) = True := by simp;omega
    go_wp2
    have HGd : Aside0 (wr.drew.heap[gb]? = some (.cells (List.replicate kk (Value.int .i64 x) ++ List.replicate (n - kk) (Value.int .i64 0)).toArray 3 (0, 0))) := ⟨HG.out⟩
    have HBd : Aside0 (Below gb w wr.drew) := ⟨below_drew HB.out⟩
    go_region_law (refine step_copy_splice rfl (.tmp 41) (.tmp 44) 36 36 rfl 3 hu hsz (some ⟨gb, kk, none⟩) (some ⟨gb, 0, none⟩) (n - kk) (n - kk) kk n (by simp [Act.eval, Act.put, hne]) (by simp [Act.eval, Act.put]) gb kk (List.replicate kk (Value.int .i64 x) ++ List.replicate (n - kk) (Value.int .i64 0)) 3 HGd.out (List.replicate c (Value.int .i64 x)) (List.length_replicate.trans HC.out) (fun _ => ⟨rfl, _, rfl, rep_cells2 hc2 HGd.out⟩) (by simp only [List.length_append, List.length_replicate];omega) (rep_one _) gb w HBd.out (Nat.le_refl _) ?_;rw [splice_rep n kk c _ _ (by omega), List.length_replicate];intro w3 HG3 hB3;have HB3 := Aside0.mk hB3;clear hB3)
    go_wp2
    go_roundg (n - (kk + c))
    case measure => omega
    case rel => exact ⟨kk + c, by first | rfl | (rw [← hw3];rfl) | simp [hw3], ⟨by omega, fun _ => by omega, Nat.le_refl _⟩, ⟨HG3.out⟩, HB3⟩
   ·have hltz : ¬ (kk : Int) < (n : Int) := by omega
    obtain rfl : kk = n := by have := HN.out;omega
    go_wp2
    go_ret
    exact ⟨_, rfl, rep_own (Nat.le_refl _) h1' HG.out, HB.out⟩

end Go.Proofs.YtgahlimikndecaaDoor.QEternalFamily
