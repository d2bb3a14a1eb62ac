import Derived.Test.YtgahlimikndecaaDoorQPlayAttacks0
import Derived.Test.YtgahlimikndecaaDoorQPlayAttacks8
import Derived.Lib.SliceRun
namespace Go.Proofs.YtgahlimikndecaaDoor.QPlayAttacks
open Go.RowKit Go.Proofs.YtgahlimikndecaaDoorW.PrintWords Go.Proofs.YtgahlimikndecaaDoorW.PrintLast Go.Proofs.YtgahlimikndecaaDoorW.PrintMore
attribute [local go_sem] max2_int min2_int max_two min_two max_three min_three max_four min_four
set_option linter.unusedVariables false
set_option linter.unusedSimpArgs false
set_option maxRecDepth 100000
set_option maxHeartbeats 8000000
/-! ### impl_net_canMoveGuards: function 62 -/
def impl_net_canMoveGuards.f (k : Nat) (l0_0 : List Int) (a1 : Int) (a2 : Int) (a3 : Bool) : Option (Bool) := if a3 = true then ((impl_setOf.f k a1).bind fun t468 => ((impl_net_canMatch.f k l0_0 t468 a2).bind fun t471 => (some t471))) else ((bits_OnesCount.f (IntKind.u64.wrap (Go.bits .andNot .i64 a1 a2))).bind fun t472 => (if t472 = 1 then ((bits_TrailingZeros.f (IntKind.u64.wrap (Go.bits .andNot .i64 a1 a2))).bind fun t473 => (if 0 ≤ t473 then (if t473 < (l0_0.length : Int) then (some ((Go.bits .and .i64 (rd l0_0 t473) (Go.bits .andNot .i64 a2 a1)) != 0)) else (none)) else (none))) else (some false)))
theorem impl_net_canMoveGuards.mono : ∀ a0 a1 a2 a3 k, LeO (impl_net_canMoveGuards.f k a0 a1 a2 a3) (impl_net_canMoveGuards.f (k + 1) a0 a1 a2 a3) := by
 intro a0 a1 a2 a3 k
 unfold impl_net_canMoveGuards.f
 have q0 := impl_net_canMatch.mono
 have q1 := impl_setOf.mono
 exact lM
def impl_net_canMoveGuards.T3 : Bool × List (List Nat × List Nat) := (true, [([], []), ([0], [0]), ([1], [1]), ([2], [2]), ([3, 2], [3]), ([4], [4]), ([5, 4], [4, 5]), ([4], [4]), ([7, 4], [4, 7]), ([8, 4, 4], [4, 8]), ([6, 9, 4], [4, 6, 9]), ([10, 4], [4, 10]), ([4], [4]), ([11, 12, 4], [4, 11, 12]), ([13, 4], [4, 13]), ([4, 14], [4, 14]), ([15, 9, 0, 1, 2, 3, 4, 5, 6, 7, 8, 9, 10, 11, 12, 13, 14, 15], [15])])
def impl_net_canMoveGuards.B3 : List Nat := [0, 1, 3, 7, 15, 31, 63, 31, 159, 415, 1023, 2047, 31, 8191, 16383, 32767, 65535]
theorem impl_net_canMoveGuards.tab3 : rtab .any (opsOf Tryd.f62 3) = impl_net_canMoveGuards.T3 := by kernel_rfl
theorem impl_net_canMoveGuards.bits3 : waitsOk impl_net_canMoveGuards.T3.2 impl_net_canMoveGuards.B3 = true := by kernel_rfl
theorem impl_net_canMoveGuards.calls (k : Nat) (A0_0 : Option Addr) (c0_0 : Nat) (l0_0 : List Int) (a1 : Int) (a2 : Int) (a3 : Bool) (r : Bool) (w : World) (hT : TabG w) (hr0_0 : Kd.C (Kd.int .i64) w A0_0 l0_0.length l0_0) (hc0_0 : l0_0.length ≤ c0_0) (h : impl_net_canMoveGuards.f k l0_0 a1 a2 a3 = some r) :
  Calls Tryd.prog 62 #[.agg #[.slice A0_0 l0_0.length c0_0], .int .i64 a1, .int .i64 a2, .bool a3] w fun e w' => e = .returned (.bool r) ∧ Below w.heap.size w w' := by
 have hu56 := Tryd.underlying56
 have HR0_0 := Aside0.mk hr0_0
 have HC0_0 := Aside0.mk hc0_0
 clear hr0_0 hc0_0
 have HB := aM (Below.refl w.heap.size w)
 have HT := Aside0.mk hT
 clear hT
 have H : (if a3 = true then ((impl_setOf.f k a1).bind fun t468 => ((impl_net_canMatch.f k l0_0 t468 a2).bind fun t471 => (some t471))) else ((bits_OnesCount.f (IntKind.u64.wrap (Go.bits .andNot .i64 a1 a2))).bind fun t472 => (if t472 = 1 then ((bits_TrailingZeros.f (IntKind.u64.wrap (Go.bits .andNot .i64 a1 a2))).bind fun t473 => (if 0 ≤ t473 then (if t473 < (l0_0.length : Int) then (some ((Go.bits .and .i64 (rd l0_0 t473) (Go.bits .andNot .i64 a2 a1)) != 0)) else (none)) else (none))) else (some false)))) = some r := h
 clear h
 by_cases c5 : a3 = true
 ·subst c5
  rw [if_pos rfl] at H
  replace H := bE H
  obtain ⟨t468, A60, H⟩ := H
  try dsimp only at H
  have A6 := Aside0.mk A60
  clear A60
  replace H := bE H
  obtain ⟨t471, A70, H⟩ := H
  try dsimp only at H
  have A7 := Aside0.mk A70
  clear A70
  obtain rfl := sI H
  go_enter Tryd.func62, Tryd.ntmps62
  try go_wp2_with (first | ((with_reducible refine gate_dst (N := 4) rfl ?_);refine box_event ?hg (N := 4) ?hd (cs := #[.slice A0_0 l0_0.length c0_0]) (t := 56) ?hr ?_;(case hd => rfl);(case hg => rfl);(case hr => exact gS);intro gb467 hg w8 hbox hb;have n0_ := aM (below_step (by exact bB) hb);have n1_ := aM (hbox);have n2_ := aM (sW hg : w.heap.size ≤ gb467);have n3_ := aM (sW hg : w.heap.size ≤ gb467);clear HB;have HB := n0_;have BK467 := n1_;have GW467 := n2_;have GE467 := n3_;clear n0_ n1_ n2_ n3_ hb hbox hg))
  have n0_ := aM (blk_drew BK467.out)
  have n1_ := aM (below_drew1 HB.out)
  clear BK467 HB
  have BK467 := n0_
  have HB := n1_
  clear n0_ n1_
  refine start_ (n := 6) (S := fun w' => w'.cell? ⟨gb467, 0, none⟩ = some (.slice A0_0 l0_0.length c0_0)) (ds := []) (pT 0 6) kR rfl rfl ((blk_cell BK467.out 0).trans rfl) (fun hHeld => ?_)
  generalize w8.drew = w9 at BK467 HB hHeld ⊢
  refine pure_ (i := 1) (N := some 36) (v := ?_) (a' := ?_) (qT [0,1,1,4]) rfl rfl kR (fun _ _ _ h => h) (Or.inl ⟨by rfl, ?_⟩) ?_ ?_
  rotate_left
  ·exact gW
  rotate_left
  ·exact aP
  refine pure_ (i := 3) (N := some 38) (v := ?_) (a' := ?_) (qT [0,1,1,1,1,2]) rfl rfl kR (fun _ _ _ h => h) (Or.inl ⟨by rfl, ?_⟩) ?_ ?_
  rotate_left
  ·exact gW
  rotate_left
  ·exact aP
  refine take_ (i := 0) (N := some 35) (v := ?_) (a' := ?_) (qT [2,1,1,2]) rfl rfl kR (fun _ _ _ h => h) (Or.inl ⟨by rfl, ?_⟩) hHeld ?_ ?_
  rotate_left
  ·intro w' s0
   go_simp
   with_reducible rfl
  rotate_left
  ·exact aP
  refine one_ (i := 2) (N := some 37) (pT 4 2) rfl rfl kR (by decide) (fun K hK => ?_)
  refine goes_ Tryd.func84 kR rfl #[.int .i64 a1] (by rfl) rfl rfl mM ?_
  with_reducible refine (impl_setOf.calls k a1 t468 _ A6.out).mono ?_
  rintro e w10 ⟨v469, rfl, ho0, hb⟩
  refine ⟨_, rfl, ?_⟩
  have n0_ := aM (Kd.R_lower ho0 (below_size (by exact bB)))
  have n1_ := aM (kB hb BK467.out)
  have n2_ := aM (below_step (by exact bB) hb)
  clear BK467 HB
  have HO470 := n0_
  have BK467 := n1_
  have HB := n2_
  clear n0_ n1_ n2_
  (try clear hb)
  (try clear hb2)
  (try clear hk)
  (try clear hi)
  (try clear ho0)
  obtain ⟨Ao11, co11, eo11⟩ := Kd.R_slice HO470.out
  (first | subst eo11 | (injection eo11 with f1_ f2_ f3_;have f4_ := f1_.symm;have f5_ := f3_.symm;clear f1_ f2_ f3_;subst f4_;subst f5_))
  refine hK.out _ _ ((blk_cell BK467.out 0).trans rfl) (fun hHeld => ?_)
  clear hK K
  refine norm_ (a' := ?_) ?_ ?_
  rotate_left
  ·show Act.put _ (some 37) _ = _
   simp only [Act.put, List.setIfInBounds_toArray, List.set_cons_zero, List.set_cons_succ, i64_w, i32_w]
   rfl
  refine one_ (i := 4) (N := some 39) (pT 5 1) rfl rfl kR (by decide) (fun K hK => ?_)
  refine goes_ Tryd.func87 kR rfl #[.agg #[.slice A0_0 l0_0.length c0_0], .slice Ao11 t468.length co11, .int .i64 a2] (by rfl) rfl rfl mM ?_
  with_reducible refine (impl_net_canMatch.calls k _ _ l0_0 _ _ t468 a2 t471 _ ?side1 ?side2 ?side3 ?side4 A7.out).mono ?_
  (case side1 => exact cP (Kd.C_below HR0_0.out HB.out))
  (case side2 => exact HC0_0.out)
  (case side3 => exact cP (Kd.R_reads' HO470.out).2.2)
  (case side4 => exact (Kd.R_reads' HO470.out).2.1)
  rintro e w12 ⟨rfl, hb⟩
  refine ⟨_, rfl, ?_⟩
  have n0_ := aM (Kd.R_below (by exact rP HO470.out) hb)
  have n1_ := aM (kB hb BK467.out)
  have n2_ := aM (below_step (by exact bB) hb)
  clear HO470 BK467 HB
  have HO470 := n0_
  have BK467 := n1_
  have HB := n2_
  clear n0_ n1_ n2_
  (try clear hb)
  (try clear hb2)
  (try clear hk)
  (try clear hi)
  refine hK.out _ _ ((blk_cell BK467.out 0).trans rfl) (fun hHeld => ?_)
  clear hK K
  refine norm_ (a' := ?_) ?_ ?_
  rotate_left
  ·show Act.put _ (some 39) _ = _
   simp only [Act.put, List.setIfInBounds_toArray, List.set_cons_zero, List.set_cons_succ, i64_w, i32_w]
   rfl
  refine pure_ (i := 5) (N := some 8) (v := ?_) (a' := ?_) (pT 6 0) rfl rfl kR (fun _ _ _ h => h) (Or.inl ⟨by rfl, ?_⟩) ?_ ?_
  rotate_left
  ·exact gW
  rotate_left
  ·exact aP
  refine done_ kR ?_
  try go_wp2
  go_ret
  exact ⟨eW, by exact bB⟩
 replace c5 := Bool.eq_false_iff.mpr c5
 subst c5
 rw [if_neg fF] at H
 replace H := bE H
 obtain ⟨t472, A130, H⟩ := H
 try dsimp only at H
 have A13 := Aside0.mk A130
 clear A130
 by_cases c14 : t472 = 1
 rotate_left
 ·rw [if_neg c14] at H
  have c14b0 : (t472 == 1) = false := beq_eq_false_iff_ne.mpr c14
  have c14b1 : (t472 != 1) = true := bne_iff_ne.mpr c14
  obtain rfl := sI H
  go_enter Tryd.func62, Tryd.ntmps62
  try go_wp2_with (first | ((with_reducible refine gate_dst (N := 4) rfl ?_);refine box_event ?hg (N := 4) ?hd (cs := #[.slice A0_0 l0_0.length c0_0]) (t := 56) ?hr ?_;(case hd => rfl);(case hg => rfl);(case hr => exact gS);intro gb467 hg w21 hbox hb;have n0_ := aM (below_step (by exact bB) hb);have n1_ := aM (hbox);have n2_ := aM (sW hg : w.heap.size ≤ gb467);have n3_ := aM (sW hg : w.heap.size ≤ gb467);clear HB;have HB := n0_;have BK467 := n1_;have GW467 := n2_;have GE467 := n3_;clear n0_ n1_ n2_ n3_ hb hbox hg))
  have n0_ := aM (blk_drew BK467.out)
  have n1_ := aM (below_drew1 HB.out)
  clear BK467 HB
  have BK467 := n0_
  have HB := n1_
  clear n0_ n1_
  refine start_ (n := 17) (S := fun w' => True) (ds := []) (pT 0 17) kR rfl rfl trivial (fun hHeld => ?_);refine with_tabW impl_net_canMoveGuards.tab3 impl_net_canMoveGuards.bits3 (fun HT_ HW_ => ?_)
  generalize w21.drew = w22 at BK467 HB hHeld ⊢
  refine pure_ (i := 0) (N := some 19) (v := ?_) (a' := ?_) (pT 1 16) rfl rfl (any_of HT_.out kR) (fun _ _ _ h => h) (Or.inl ⟨by rfl, ?_⟩) ?_ ?_
  rotate_left
  ·exact gW
  rotate_left
  ·exact aP
  refine pure_ (i := 1) (N := some 20) (v := ?_) (a' := ?_) (pT 2 15) rfl rfl (any_of HT_.out kR) (fun _ _ _ h => h) (Or.inl ⟨by rfl, ?_⟩) ?_ ?_
  rotate_left
  ·exact gW
  rotate_left
  ·exact aP
  refine one_ (i := 2) (N := some 21) (pT 3 14) rfl rfl (one_of HT_.out kR) (by decide) (fun K hK => ?_)
  refine goes_ Tryd.func85 kR rfl #[.int .u64 (IntKind.u64.wrap (Go.bits .andNot .i64 a1 a2))] (by rfl) rfl rfl mM ?_
  with_reducible refine (bits_OnesCount.calls (IntKind.u64.wrap (Go.bits .andNot .i64 a1 a2)) t472 _ A13.out).mono ?_
  rintro e w' ⟨rfl, ⟨nd, rfl⟩⟩
  refine ⟨_, rfl, ?_⟩
  refine hK.out _ _ trivial (fun hHeld => ?_)
  clear hK K
  refine norm_ (a' := ?_) ?_ ?_
  rotate_left
  ·show Act.put _ (some 21) _ = _
   simp only [Act.put, List.setIfInBounds_toArray, List.set_cons_zero, List.set_cons_succ, i64_w, i32_w]
   rfl
  refine pure_ (i := 3) (N := some 22) (v := ?_) (a' := ?_) (pT 4 13) rfl rfl (any_of HT_.out kR) (fun _ _ _ h => h) (Or.inl ⟨by rfl, ?_⟩) ?_ ?_
  rotate_left
  ·exact gW
  rotate_left
  ·exact aP
  refine pure_ (i := 4) (N := some 23) (v := ?_) (a' := ?_) (pT 5 12) rfl rfl (any_of HT_.out kR) (fun _ _ _ h => h) (Or.inl ⟨by rfl, ?_⟩) ?_ ?_
  rotate_left
  ·exact gW
  rotate_left
  ·exact aP
  refine pure_ (i := 5) (N := some 24) (v := undef) (a' := ?_) (pT 6 11) rfl rfl (any_of HT_.out kR) (fun _ _ _ h => h) (Or.inr ⟨by rfl, rfl⟩) ?_ ?_
  rotate_left
  ·exact aP
  refine pure_ (i := 6) (N := some 25) (v := undef) (a' := ?_) (pT 7 10) rfl rfl (any_of HT_.out kR) (fun _ _ _ h => h) (Or.inr ⟨by rfl, rfl⟩) ?_ ?_
  rotate_left
  ·exact aP
  refine pure_ (i := 7) (N := some 26) (v := undef) (a' := ?_) (pT 8 9) rfl rfl (any_of HT_.out kR) (fun _ _ _ h => h) (Or.inr ⟨by rfl, rfl⟩) ?_ ?_
  rotate_left
  ·exact aP
  refine pure_ (i := 8) (N := some 27) (v := undef) (a' := ?_) (pT 9 8) rfl rfl (any_of HT_.out kR) (fun _ _ _ h => h) (Or.inr ⟨by rfl, rfl⟩) ?_ ?_
  rotate_left
  ·exact aP
  refine pure_ (i := 9) (N := some 28) (v := undef) (a' := ?_) (pT 10 7) rfl rfl (any_of HT_.out kR) (fun _ _ _ h => h) (Or.inr ⟨by rfl, rfl⟩) ?_ ?_
  rotate_left
  ·exact aP
  refine pure_ (i := 10) (N := some 29) (v := undef) (a' := ?_) (pT 11 6) rfl rfl (any_of HT_.out kR) (fun _ _ _ h => h) (Or.inr ⟨by rfl, rfl⟩) ?_ ?_
  rotate_left
  ·exact aP
  refine pure_ (i := 11) (N := some 30) (v := undef) (a' := ?_) (pT 12 5) rfl rfl (any_of HT_.out kR) (fun _ _ _ h => h) (Or.inr ⟨by rfl, rfl⟩) ?_ ?_
  rotate_left
  ·exact aP
  refine pure_ (i := 12) (N := some 31) (v := undef) (a' := ?_) (pT 13 4) rfl rfl (any_of HT_.out kR) (fun _ _ _ h => h) (Or.inr ⟨by rfl, rfl⟩) ?_ ?_
  rotate_left
  ·exact aP
  refine pure_ (i := 13) (N := some 32) (v := undef) (a' := ?_) (pT 14 3) rfl rfl (any_of HT_.out kR) (fun _ _ _ h => h) (Or.inr ⟨by rfl, rfl⟩) ?_ ?_
  rotate_left
  ·exact aP
  refine pure_ (i := 14) (N := some 33) (v := undef) (a' := ?_) (pT 15 2) rfl rfl (any_of HT_.out kR) (fun _ _ _ h => h) (Or.inr ⟨by rfl, rfl⟩) ?_ ?_
  rotate_left
  ·exact aP
  refine pure_ (i := 15) (N := some 34) (v := ?_) (a' := ?_) (pT 16 1) rfl rfl (any_of HT_.out kR) (fun _ _ _ h => h) (Or.inl ⟨by rfl, ?_⟩) ?_ ?_
  rotate_left
  ·exact gW
  rotate_left
  ·exact aP
  refine pure_ (i := 16) (N := some 8) (v := ?_) (a' := ?_) (pT 17 0) rfl rfl (any_of HT_.out kR) (fun _ _ _ h => h) (Or.inl ⟨by rfl, ?_⟩) ?_ ?_
  rotate_left
  ·exact gW
  rotate_left
  ·exact aP
  refine done_ (done_of HT_.out kR) ?_
  try go_wp2
  go_ret
  exact ⟨eW, by exact bB⟩
 rw [if_pos c14] at H
 have c14b0 : (t472 == 1) = true := beq_iff_eq.mpr c14
 have c14b1 : (t472 != 1) = false := bne_eq_false_iff_eq.mpr c14
 clear c14
 replace H := bE H
 obtain ⟨t473, A150, H⟩ := H
 try dsimp only at H
 have A15 := Aside0.mk A150
 clear A150
 by_cases c16 : 0 ≤ t473
 rotate_left
 ·rw [if_neg c16] at H
  exact absurd H (by simp)
 rw [if_pos c16] at H
 have c16b0 : decide (0 ≤ t473) = true := decide_eq_true c16
 clear c16
 by_cases c17 : t473 < (l0_0.length : Int)
 rotate_left
 ·rw [if_neg c17] at H
  exact absurd H (by simp)
 rw [if_pos c17] at H
 have c17b0 : decide (t473 < (l0_0.length : Int)) = true := decide_eq_true c17
 clear c17
 obtain rfl := sI H
 go_enter Tryd.func62, Tryd.ntmps62
 try go_wp2_with (first | ((with_reducible refine gate_dst (N := 4) rfl ?_);refine box_event ?hg (N := 4) ?hd (cs := #[.slice A0_0 l0_0.length c0_0]) (t := 56) ?hr ?_;(case hd => rfl);(case hg => rfl);(case hr => exact gS);intro gb467 hg w18 hbox hb;have n0_ := aM (below_step (by exact bB) hb);have n1_ := aM (hbox);have n2_ := aM (sW hg : w.heap.size ≤ gb467);have n3_ := aM (sW hg : w.heap.size ≤ gb467);clear HB;have HB := n0_;have BK467 := n1_;have GW467 := n2_;have GE467 := n3_;clear n0_ n1_ n2_ n3_ hb hbox hg))
 have n0_ := aM (blk_drew BK467.out)
 have n1_ := aM (below_drew1 HB.out)
 clear BK467 HB
 have BK467 := n0_
 have HB := n1_
 clear n0_ n1_
 have p474 : 0 ≤ (t473 : Int) := oA
 have q474 : t473 < (l0_0.length : Int) := oA
 obtain ⟨ad474, e474, hx474_0⟩ := Kd.at_int HR0_0.out t473 p474 q474
 have hw474_0 := hx474_0
 cases e474
 replace hx474_0 := cB HB.out hx474_0
 replace p474 := eq_true p474
 replace q474 := eq_true q474
 refine start_ (n := 17) (S := fun w' => w'.cell? ⟨gb467, 0, none⟩ = some (.slice (some ad474) l0_0.length c0_0) ∧ w'.cell? (ad474.add (t473).toNat) = some (.int .i64 (rd l0_0 t473))) (ds := []) (pT 0 17) kR rfl rfl ⟨(blk_cell BK467.out 0).trans rfl, (cB HB.out hw474_0 :)⟩ (fun hHeld => ?_);refine with_tabW impl_net_canMoveGuards.tab3 impl_net_canMoveGuards.bits3 (fun HT_ HW_ => ?_)
 generalize w18.drew = w19 at BK467 HB hx474_0 hHeld ⊢
 refine pure_ (i := 0) (N := some 19) (v := ?_) (a' := ?_) (pT 1 16) rfl rfl (any_of HT_.out kR) (fun _ _ _ h => h) (Or.inl ⟨by rfl, ?_⟩) ?_ ?_
 rotate_left
 ·exact gW
 rotate_left
 ·exact aP
 refine pure_ (i := 1) (N := some 20) (v := ?_) (a' := ?_) (pT 2 15) rfl rfl (any_of HT_.out kR) (fun _ _ _ h => h) (Or.inl ⟨by rfl, ?_⟩) ?_ ?_
 rotate_left
 ·exact gW
 rotate_left
 ·exact aP
 refine one_ (i := 2) (N := some 21) (pT 3 14) rfl rfl (one_of HT_.out kR) (by decide) (fun K hK => ?_)
 refine goes_ Tryd.func85 kR rfl #[.int .u64 (IntKind.u64.wrap (Go.bits .andNot .i64 a1 a2))] (by rfl) rfl rfl mM ?_
 with_reducible refine (bits_OnesCount.calls (IntKind.u64.wrap (Go.bits .andNot .i64 a1 a2)) t472 _ A13.out).mono ?_
 rintro e w' ⟨rfl, ⟨nd, rfl⟩⟩
 refine ⟨_, rfl, ?_⟩
 refine hK.out _ _ ⟨(blk_cell BK467.out 0).trans rfl, (cB HB.out hw474_0 :)⟩ (fun hHeld => ?_)
 clear hK K
 refine norm_ (a' := ?_) ?_ ?_
 rotate_left
 ·show Act.put _ (some 21) _ = _
  simp only [Act.put, List.setIfInBounds_toArray, List.set_cons_zero, List.set_cons_succ, i64_w, i32_w]
  rfl
 refine pure_ (i := 3) (N := some 22) (v := ?_) (a' := ?_) (pT 4 13) rfl rfl (any_of HT_.out kR) (fun _ _ _ h => h) (Or.inl ⟨by rfl, ?_⟩) ?_ ?_
 rotate_left
 ·exact gW
 rotate_left
 ·exact aP
 refine pure_ (i := 4) (N := some 23) (v := ?_) (a' := ?_) (pT 5 12) rfl rfl (any_of HT_.out kR) (fun _ _ _ h => h) (Or.inl ⟨by rfl, ?_⟩) ?_ ?_
 rotate_left
 ·exact gW
 rotate_left
 ·exact aP
 refine pure_ (i := 5) (N := some 24) (v := ?_) (a' := ?_) (pT 6 11) rfl rfl (any_of HT_.out kR) (fun _ _ _ h => h) (Or.inl ⟨by rfl, ?_⟩) ?_ ?_
 rotate_left
 ·exact gW
 rotate_left
 ·exact aP
 refine pure_ (i := 7) (N := some 26) (v := ?_) (a' := ?_) (qT [6,1,1,9]) rfl rfl (any_of HT_.out kR) (fun _ _ _ h => h) (Or.inl ⟨by rfl, ?_⟩) ?_ ?_
 rotate_left
 ·exact gW
 rotate_left
 ·exact aP
 refine pure_ (i := 8) (N := some 27) (v := ?_) (a' := ?_) (qT [6,1,2,8]) rfl rfl (any_of HT_.out kR) (fun _ _ _ h => h) (Or.inl ⟨by rfl, ?_⟩) ?_ ?_
 rotate_left
 ·exact gW
 rotate_left
 ·exact aP
 refine pure_ (i := 12) (N := some 31) (v := ?_) (a' := ?_) (qT [6,1,2,3,1,4]) rfl rfl (any_of HT_.out kR) (fun _ _ _ h => h) (Or.inl ⟨by rfl, ?_⟩) ?_ ?_
 rotate_left
 ·exact gW
 rotate_left
 ·exact aP
 refine take_ (i := 6) (N := some 25) (v := ?_) (a' := ?_) (qT [9,3,1,4]) rfl rfl (take_ofW HT_.out HW_.out kR) (fun _ _ _ h => h) (Or.inl ⟨by rfl, ?_⟩) hHeld ?_ ?_
 rotate_left
 ·rintro w' ⟨s0, s1⟩
  go_simp
  with_reducible rfl
 rotate_left
 ·exact aP
 refine one_ (i := 9) (N := some 28) (qT [10,2,1,4]) rfl rfl (one_of HT_.out kR) (by decide) (fun K hK => ?_)
 refine goes_ Tryd.func86 kR rfl #[.int .u64 (IntKind.u64.wrap (Go.bits .andNot .i64 a1 a2))] (by rfl) rfl rfl mM ?_
 with_reducible refine (bits_TrailingZeros.calls (IntKind.u64.wrap (Go.bits .andNot .i64 a1 a2)) t473 _ ?sideT A15.out).mono ?_
 (case sideT => exact tabG_below HT.out (by exact bB))
 rintro e w20 ⟨rfl, hb⟩
 refine ⟨_, rfl, ?_⟩
 have n0_ := aM (kB hb BK467.out)
 have n1_ := aM (below_step (by exact bB) hb)
 clear BK467 HB
 have BK467 := n0_
 have HB := n1_
 clear n0_ n1_
 (try clear hb)
 (try clear hb2)
 (try clear hk)
 (try clear hi)
 refine hK.out _ _ ⟨(blk_cell BK467.out 0).trans rfl, (cB HB.out hw474_0 :)⟩ (fun hHeld => ?_)
 clear hK K
 refine norm_ (a' := ?_) ?_ ?_
 rotate_left
 ·show Act.put _ (some 28) _ = _
  simp only [Act.put, List.setIfInBounds_toArray, List.set_cons_zero, List.set_cons_succ, i64_w, i32_w]
  rfl
 refine pure_ (i := 10) (N := some 29) (v := ?_) (a' := ?_) (qT [11,1,1,4]) rfl rfl (any_of HT_.out kR) (fun _ _ _ h => h) (Or.inl ⟨by rfl, ?_⟩) ?_ ?_
 rotate_left
 ·exact gW
 rotate_left
 ·exact aP
 refine take_ (i := 11) (N := some 30) (v := ?_) (a' := ?_) (pT 13 4) rfl rfl (take_ofW HT_.out HW_.out kR) (fun _ _ _ h => h) (Or.inl ⟨by rfl, ?_⟩) hHeld ?_ ?_
 rotate_left
 ·rintro w' ⟨s0, s1⟩
  go_simp
  with_reducible rfl
 rotate_left
 ·exact aP
 refine pure_ (i := 13) (N := some 32) (v := ?_) (a' := ?_) (pT 14 3) rfl rfl (any_of HT_.out kR) (fun _ _ _ h => h) (Or.inl ⟨by rfl, ?_⟩) ?_ ?_
 rotate_left
 ·exact gW
 rotate_left
 ·exact aP
 refine pure_ (i := 14) (N := some 33) (v := ?_) (a' := ?_) (pT 15 2) rfl rfl (any_of HT_.out kR) (fun _ _ _ h => h) (Or.inl ⟨by rfl, ?_⟩) ?_ ?_
 rotate_left
 ·exact gW
 rotate_left
 ·exact aP
 refine pure_ (i := 15) (N := some 34) (v := ?_) (a' := ?_) (pT 16 1) rfl rfl (any_of HT_.out kR) (fun _ _ _ h => h) (Or.inl ⟨by rfl, ?_⟩) ?_ ?_
 rotate_left
 ·exact gW
 rotate_left
 ·exact aP
 refine pure_ (i := 16) (N := some 8) (v := ?_) (a' := ?_) (pT 17 0) rfl rfl (any_of HT_.out kR) (fun _ _ _ h => h) (Or.inl ⟨by rfl, ?_⟩) ?_ ?_
 rotate_left
 ·exact gW
 rotate_left
 ·exact aP
 refine done_ (done_of HT_.out kR) ?_
 try go_wp2
 go_ret
 exact ⟨eW, by exact bB⟩


/-! ### impl_maskOf: function 63 -/
def impl_maskOf.l0 : Nat → Int → List Int → Int → Int → Option (Int)
 | 0, _, _, _, _ => none
 | k + 1, x3, x6, x7, x8 => if x8 < x7 then (if 0 ≤ x8 then (if x8 < (x6.length : Int) then (if 0 ≤ (rd x6 x8) then (impl_maskOf.l0 k (Go.bits .or .i64 x3 (shl .i64 1 (rd x6 x8))) x6 x7 (wrap64 (x8 + 1))) else (none)) else (none)) else (none)) else (some x3)
def impl_maskOf.f (k : Nat) (l0 : List Int) : Option (Int) := impl_maskOf.l0 k 0 l0 (l0.length : Int) 0
theorem impl_maskOf.mono_l : ∀ k, (∀ y0 y1 y2 y3, LeO (impl_maskOf.l0 k y0 y1 y2 y3) (impl_maskOf.l0 (k + 1) y0 y1 y2 y3))
 | 0 => fun _ _ _ _ r h => by simp [impl_maskOf.l0] at h
 | k + 1 => by
  have ih0 := impl_maskOf.mono_l k
  ·intro y0 y1 y2 y3
   unfold impl_maskOf.l0
   exact lM
theorem impl_maskOf.mono : ∀ a0 k, LeO (impl_maskOf.f k a0) (impl_maskOf.f (k + 1) a0) := by
 intro a0 k
 have ih0 := impl_maskOf.mono_l k
 unfold impl_maskOf.f
 exact lM
theorem impl_maskOf.calls (k : Nat) (A0 : Option Addr) (c0 : Nat) (l0 : List Int) (r : Int) (w : World) (hr0 : Kd.C (Kd.int .i64) w A0 l0.length l0) (hc0 : l0.length ≤ c0) (h : impl_maskOf.f k l0 = some r) :
  Calls Tryd.prog 63 #[.slice A0 l0.length c0] w fun e w' => e = .returned (.int .i64 r) ∧ Drawn0 w w' := by
 have HR0 := Aside0.mk hr0
 have HC0 := Aside0.mk hc0
 clear hr0 hc0
 have H : (impl_maskOf.l0 k 0 l0 (l0.length : Int) 0) = some r := h
 clear h
 have H' := Aside0.mk H
 clear H
 go_enter Tryd.func63, Tryd.ntmps63
 go_wp2
 go_loopg [3, 8] k (fun kq v3 v8 w' => ∃ (x3_1 : Int) (x8_1 : Int), v3 = .int .i64 x3_1 ∧ v8 = .int .i64 x8_1 ∧ Aside0 (impl_maskOf.l0 kq x3_1 l0 (l0.length : Int) x8_1 = some r) ∧ Aside0 (kq ≤ k) ∧ Drawn0 w w')
 case atStart => exact ⟨(0), (0), eF, eF, H', ⟨Nat.le_refl _⟩, dR⟩
 case round =>
  clear H'
  obtain ⟨x3_1, x8_1, rfl, rfl, HA, HK1, ⟨m1, rfl⟩⟩ := hrel
  cases gk with
  | zero => exact absurd HA.out (by simp [impl_maskOf.l0])
  | succ k1 =>
   have H := HA.out
   clear HA
   simp only [impl_maskOf.l0] at H
   by_cases c2 : x8_1 < (l0.length : Int)
   rotate_left
   ·rw [if_neg c2] at H
    have c2b0 : decide (x8_1 < (l0.length : Int)) = false := decide_eq_false c2
    clear c2
    obtain rfl := sI H
    go_wp2
    go_ret
    exact ⟨eF, dR⟩
   rw [if_pos c2] at H
   have c2b0 : decide (x8_1 < (l0.length : Int)) = true := decide_eq_true c2
   clear c2
   by_cases c3 : 0 ≤ x8_1
   rotate_left
   ·rw [if_neg c3] at H
    exact absurd H (by simp)
   rw [if_pos c3] at H
   have c3b0 : decide (0 ≤ x8_1) = true := decide_eq_true c3
   clear c3
   by_cases c4 : x8_1 < (l0.length : Int)
   rotate_left
   ·rw [if_neg c4] at H
    exact absurd H (by simp)
   rw [if_pos c4] at H
   have c4b0 : decide (x8_1 < (l0.length : Int)) = true := decide_eq_true c4
   clear c4
   by_cases c5 : 0 ≤ (rd l0 x8_1)
   rotate_left
   ·rw [if_neg c5] at H
    exact absurd H (by simp)
   rw [if_pos c5] at H
   have c5b0 := eq_true c5
   have c5b1 : decide (0 ≤ (rd l0 x8_1)) = true := decide_eq_true c5
   clear c5
   obtain ⟨ji6, hji6⟩ : ∃ j_ : Int, (shl .i64 1 (rd l0 x8_1)) = j_ := ⟨_, rfl⟩
   replace H : (impl_maskOf.l0 k1 (Go.bits .or .i64 x3_1 (ji6)) l0 (l0.length : Int) (wrap64 (x8_1 + 1))) = some r := by first | (rw [hji6] at H;exact H) | (simp only [hji6] at H ⊢;exact H)
   have hji6_ : (IntKind.i64.wrap (1 * 2 ^ min (rd l0 x8_1).toNat 64)) = ji6 := hji6
   have hji6z : (rd l0 x8_1) ≤ 64 → (IntKind.i64.wrap (1 * 2 ^ (rd l0 x8_1).toNat)) = ji6 := shl_small hji6
   have hji6u : (IntKind.i64.wrap (2 ^ min (rd l0 x8_1).toNat 64)) = ji6 := by have h_ := hji6_;rw [Int.one_mul] at h_;exact h_
   have hji6v : (rd l0 x8_1) ≤ 64 → (IntKind.i64.wrap (2 ^ (rd l0 x8_1).toNat)) = ji6 := fun hle_ => by have h_ := hji6z hle_;rw [Int.one_mul] at h_;exact h_
   have hji6y : (wrap64 (1 * 2 ^ min (rd l0 x8_1).toNat 64)) = ji6 := (i64_w _).symm.trans hji6_
   have hji6x : (rd l0 x8_1) ≤ 64 → (wrap64 (1 * 2 ^ (rd l0 x8_1).toNat)) = ji6 := fun h_ => (i64_w _).symm.trans (hji6z h_)
   have H' := Aside0.mk H
   clear H
   have p475 : 0 ≤ (x8_1 : Int) := oA
   have q475 : x8_1 < (l0.length : Int) := oA
   obtain ⟨ad475, e475, hx475_0⟩ := Kd.at_int HR0.out x8_1 p475 q475
   cases e475
   replace p475 := eq_true p475
   replace q475 := eq_true q475
   go_wp2
   go_roundg k1
   case measure => have := HK1.out;omega
   case rel => exact ⟨(Go.bits .or .i64 x3_1 (ji6)), (wrap64 (x8_1 + 1)), (by first | rfl | (simp;done) | (simp only [← hji6] <;> (first | rfl | simp)) | (simp [*];done)), eF, H', ⟨by have := HK1.out;omega⟩, dR⟩


/-! ### impl_net_guardGame: function 33 -/
mutual
def impl_net_guardGame.l0 : Nat → Bool → List (List Int) → Int → Int → List Int → Int → List (List Int) → List (List Int) → Option (Int × (List (List Int)) × (List (List Int)))
 | 0, _, _, _, _, _, _, _, _ => none
 | k + 1, x2, x24, x25, x26, x477000, x483000, x483001, x483002 => if x26 < x25 then (if 0 ≤ x26 then (if x26 < (x24.length : Int) then (impl_net_guardGame.l1 k x2 (rd_L2 x24 x26) ([] : List Int) x24 x25 x26 x483001 (x483001.length : Int) 0 x477000 x483000 x483001 x483002) else (none)) else (none)) else (some (x483000, x483001, x483002))
def impl_net_guardGame.l1 : Nat → Bool → List Int → List Int → List (List Int) → Int → Int → List (List Int) → Int → Int → List Int → Int → List (List Int) → List (List Int) → Option (Int × (List (List Int)) × (List (List Int)))
 | 0, _, _, _, _, _, _, _, _, _, _, _, _, _ => none
 | k + 1, x2, x9, x10, x24, x25, x26, x33, x34, x35, x477000, x483000, x483001, x483002 => if x35 < x34 then (if 0 ≤ x35 then (if x35 < (x33.length : Int) then ((impl_maskOf.f k x9).bind fun t488 => ((impl_maskOf.f k (rd_L2 x33 x35)).bind fun t489 => ((impl_net_canMoveGuards.f k x477000 t488 t489 x2).bind fun t490 => (if t490 = true then (if x10.length < 17592186044416 then (impl_net_guardGame.l1 k x2 x9 (x10 ++ [x35]) x24 x25 x26 x33 x34 (wrap64 (x35 + 1)) x477000 x483000 x483001 x483002) else (none)) else (impl_net_guardGame.l1 k x2 x9 x10 x24 x25 x26 x33 x34 (wrap64 (x35 + 1)) x477000 x483000 x483001 x483002))))) else (none)) else (none)) else (if x483002.length < 5864062014805 then (impl_net_guardGame.l0 k x2 x24 x25 (wrap64 (x26 + 1)) x477000 x483000 x483001 (x483002 ++ [x10])) else (none))
end
def impl_net_guardGame.f (k : Nat) (l0_0 : List Int) (a1 : Int) (a2 : Bool) : Option (Int × (List (List Int)) × (List (List Int))) := (impl_net_size.f l0_0).bind fun t477 => ((impl_net_size.f l0_0).bind fun t478 => ((impl_guardSets.f k t478 a1).bind fun t479 => (impl_net_guardGame.l0 k a2 t479 (t479.length : Int) 0 l0_0 t477 t479 ([] : List (List Int)))))
theorem impl_net_guardGame.mono_l : ∀ k, (∀ y0 y1 y2 y3 y4 y5 y6 y7, LeO (impl_net_guardGame.l0 k y0 y1 y2 y3 y4 y5 y6 y7) (impl_net_guardGame.l0 (k + 1) y0 y1 y2 y3 y4 y5 y6 y7)) ∧ (∀ y0 y1 y2 y3 y4 y5 y6 y7 y8 y9 y10 y11 y12, LeO (impl_net_guardGame.l1 k y0 y1 y2 y3 y4 y5 y6 y7 y8 y9 y10 y11 y12) (impl_net_guardGame.l1 (k + 1) y0 y1 y2 y3 y4 y5 y6 y7 y8 y9 y10 y11 y12))
 | 0 => ⟨fun _ _ _ _ _ _ _ _ r h => by simp [impl_net_guardGame.l0] at h, fun _ _ _ _ _ _ _ _ _ _ _ _ _ r h => by simp [impl_net_guardGame.l1] at h⟩
 | k + 1 => by
  obtain ⟨ih0, ih1⟩ := impl_net_guardGame.mono_l k
  refine ⟨?_, ?_⟩
  ·intro y0 y1 y2 y3 y4 y5 y6 y7
   unfold impl_net_guardGame.l0
   have q0 := impl_guardSets.mono
   have q1 := impl_maskOf.mono
   have q2 := impl_net_canMoveGuards.mono
   exact lM
  ·intro y0 y1 y2 y3 y4 y5 y6 y7 y8 y9 y10 y11 y12
   unfold impl_net_guardGame.l1
   have q0 := impl_guardSets.mono
   have q1 := impl_maskOf.mono
   have q2 := impl_net_canMoveGuards.mono
   exact lM
theorem impl_net_guardGame.mono : ∀ a0 a1 a2 k, LeO (impl_net_guardGame.f k a0 a1 a2) (impl_net_guardGame.f (k + 1) a0 a1 a2) := by
 intro a0 a1 a2 k
 obtain ⟨ih0, ih1⟩ := impl_net_guardGame.mono_l k
 unfold impl_net_guardGame.f
 have q0 := impl_guardSets.mono
 have q1 := impl_maskOf.mono
 have q2 := impl_net_canMoveGuards.mono
 exact lM
def impl_net_guardGame.T1 : Bool × List (List Nat × List Nat) := (true, [([], []), ([0], [0]), ([], []), ([2, 1], [2]), ([], []), ([3, 4, 3], [3, 4]), ([1, 5], [1, 5]), ([6], [6]), ([7, 5, 0, 1, 2, 3, 4, 5, 6, 7], [7])])
def impl_net_guardGame.B1 : List Nat := [0, 1, 0, 7, 0, 31, 63, 127, 255]
theorem impl_net_guardGame.tab1 : rtab .any (opsOf Tryd.f33 1) = impl_net_guardGame.T1 := by kernel_rfl
theorem impl_net_guardGame.bits1 : waitsOk impl_net_guardGame.T1.2 impl_net_guardGame.B1 = true := by kernel_rfl
theorem impl_net_guardGame.calls (k : Nat) (A0_0 : Option Addr) (c0_0 : Nat) (l0_0 : List Int) (a1 : Int) (a2 : Bool) (r1 : Int) (r2 : List (List Int)) (r3 : List (List Int)) (w : World) (hT : TabG w) (hr0_0 : Kd.C (Kd.int .i64) w A0_0 l0_0.length l0_0) (hc0_0 : l0_0.length ≤ c0_0) (h : impl_net_guardGame.f k l0_0 a1 a2 = some (r1, r2, r3)) :
  Calls Tryd.prog 33 #[.agg #[.slice A0_0 l0_0.length c0_0], .int .i64 a1, .bool a2] w fun e w' => ∃ (g : Nat) (v1_ v2_ : Value), e = .returned (.pointer (some ⟨g, 0, none⟩)) ∧ w'.heap[g]? = some (.cells #[.int .i64 r1, v1_, v2_] 61 (0, 0)) ∧ w.heap.size ≤ g ∧ Kd.S (Kd.slice 3 (Kd.int .i64)) 36 w' w.heap.size (fun k_ => some k_ ≠ (v2_ : Value).ownBlock) v1_ r2 ∧ Kd.S (Kd.slice 3 (Kd.int .i64)) 36 w' w.heap.size (fun k_ => some k_ ≠ (v1_ : Value).ownBlock) v2_ r3 ∧ Below w.heap.size w w' := by
 have hu56 := Tryd.underlying56
 have hu61 := Tryd.underlying61
 have HR0_0 := Aside0.mk hr0_0
 have HC0_0 := Aside0.mk hc0_0
 clear hr0_0 hc0_0
 have HB := aM (Below.refl w.heap.size w)
 have HT := Aside0.mk hT
 clear hT
 have H : ((impl_net_size.f l0_0).bind fun t477 => ((impl_net_size.f l0_0).bind fun t478 => ((impl_guardSets.f k t478 a1).bind fun t479 => (impl_net_guardGame.l0 k a2 t479 (t479.length : Int) 0 l0_0 t477 t479 ([] : List (List Int)))))) = some (r1, r2, r3) := h
 clear h
 replace H := bE H
 obtain ⟨t477, A40, H⟩ := H
 try dsimp only at H
 have A4 := Aside0.mk A40
 clear A40
 replace H := bE H
 obtain ⟨t478, A50, H⟩ := H
 try dsimp only at H
 have A5 := Aside0.mk A50
 clear A50
 replace H := bE H
 obtain ⟨t479, A60, H⟩ := H
 try dsimp only at H
 have A6 := Aside0.mk A60
 clear A60
 have H' := Aside0.mk H
 clear H
 go_enter Tryd.func33, Tryd.ntmps33
 try go_wp2_with (first | ((with_reducible refine gate_dst (N := 3) rfl ?_);refine box_event ?hg (N := 3) ?hd (cs := #[.slice A0_0 l0_0.length c0_0]) (t := 56) ?hr ?_;(case hd => rfl);(case hg => rfl);(case hr => exact gS);intro gb476 hg w7 hbox hb;have n0_ := aM (below_step (by exact bB) hb);have n1_ := aM (hbox);have n2_ := aM (sW hg : w.heap.size ≤ gb476);have n3_ := aM (sW hg : w.heap.size ≤ gb476);clear HB;have HB := n0_;have BK476 := n1_;have GW476 := n2_;have GE476 := n3_;clear n0_ n1_ n2_ n3_ hb hbox hg))
 have n0_ := aM (blk_drew BK476.out)
 have n1_ := aM (below_drew1 HB.out)
 clear BK476 HB
 have BK476 := n0_
 have HB := n1_
 clear n0_ n1_
 refine start_ (n := 9) (S := fun w' => w'.cell? ⟨gb476, 0, none⟩ = some (.slice A0_0 l0_0.length c0_0)) (ds := []) (pT 0 9) kR rfl rfl ((blk_cell BK476.out 0).trans rfl) (fun hHeld => ?_);refine with_tabW impl_net_guardGame.tab1 impl_net_guardGame.bits1 (fun HT_ HW_ => ?_)
 generalize w7.drew = w8 at BK476 HB hHeld ⊢
 refine pure_ (i := 4) (N := some 17) (v := ?_) (a' := ?_) (qT [0,4,1,4]) rfl rfl (any_of HT_.out kR) (fun _ _ _ h => h) (Or.inl ⟨by rfl, ?_⟩) ?_ ?_
 rotate_left
 ·exact gW
 rotate_left
 ·exact aP
 refine take_ (i := 0) (N := some 13) (v := ?_) (a' := ?_) (qT [1,3,1,4]) rfl rfl (take_ofW HT_.out HW_.out kR) (fun _ _ _ h => h) (Or.inl ⟨by rfl, ?_⟩) hHeld ?_ ?_
 rotate_left
 ·intro w' s0
  go_simp
  with_reducible rfl
 rotate_left
 ·exact aP
 refine take_ (i := 2) (N := some 15) (v := ?_) (a' := ?_) (qT [1,1,1,1,1,4]) rfl rfl (take_ofW HT_.out HW_.out kR) (fun _ _ _ h => h) (Or.inl ⟨by rfl, ?_⟩) hHeld ?_ ?_
 rotate_left
 ·intro w' s0
  go_simp
  with_reducible rfl
 rotate_left
 ·exact aP
 refine one_ (i := 1) (N := some 14) (qT [3,1,1,4]) rfl rfl (one_of HT_.out kR) (by decide) (fun K hK => ?_)
 refine goes_ Tryd.func60 kR rfl #[.agg #[.slice A0_0 l0_0.length c0_0]] (by rfl) rfl rfl mM ?_
 with_reducible refine (impl_net_size.calls _ _ l0_0 t477 _ ?side1 ?side2 A4.out).mono ?_
 (case side1 => exact cP (Kd.C_below HR0_0.out HB.out))
 (case side2 => exact HC0_0.out)
 rintro e w9 ⟨rfl, hb⟩
 refine ⟨_, rfl, ?_⟩
 have n0_ := aM (kB hb BK476.out)
 have n1_ := aM (below_step (by exact bB) hb)
 clear BK476 HB
 have BK476 := n0_
 have HB := n1_
 clear n0_ n1_
 (try clear hb)
 (try clear hb2)
 (try clear hk)
 (try clear hi)
 refine hK.out _ _ ((blk_cell BK476.out 0).trans rfl) (fun hHeld => ?_)
 clear hK K
 refine norm_ (a' := ?_) ?_ ?_
 rotate_left
 ·show Act.put _ (some 14) _ = _
  simp only [Act.put, List.setIfInBounds_toArray, List.set_cons_zero, List.set_cons_succ, i64_w, i32_w]
  rfl
 refine one_ (i := 3) (N := some 16) (pT 5 4) rfl rfl (one_of HT_.out kR) (by decide) (fun K hK => ?_)
 refine goes_ Tryd.func60 kR rfl #[.agg #[.slice A0_0 l0_0.length c0_0]] (by rfl) rfl rfl mM ?_
 with_reducible refine (impl_net_size.calls _ _ l0_0 t478 _ ?side1 ?side2 A5.out).mono ?_
 (case side1 => exact cP (Kd.C_below HR0_0.out HB.out))
 (case side2 => exact HC0_0.out)
 rintro e w10 ⟨rfl, hb⟩
 refine ⟨_, rfl, ?_⟩
 have n0_ := aM (kB hb BK476.out)
 have n1_ := aM (below_step (by exact bB) hb)
 clear BK476 HB
 have BK476 := n0_
 have HB := n1_
 clear n0_ n1_
 (try clear hb)
 (try clear hb2)
 (try clear hk)
 (try clear hi)
 refine hK.out _ _ ((blk_cell BK476.out 0).trans rfl) (fun hHeld => ?_)
 clear hK K
 refine norm_ (a' := ?_) ?_ ?_
 rotate_left
 ·show Act.put _ (some 16) _ = _
  simp only [Act.put, List.setIfInBounds_toArray, List.set_cons_zero, List.set_cons_succ, i64_w, i32_w]
  rfl
 refine one_ (i := 5) (N := some 18) (pT 6 3) rfl rfl (one_of HT_.out kR) (by decide) (fun K hK => ?_)
 refine goes_ Tryd.func61 kR rfl #[.int .i64 t478, .int .i64 a1] (by rfl) rfl rfl mM ?_
 with_reducible refine (impl_guardSets.calls k t478 a1 t479 _ A6.out).mono ?_
 rintro e w11 ⟨v480, rfl, ho0, hb⟩
 refine ⟨_, rfl, ?_⟩
 have n0_ := aM (Kd.S_lower ho0 (below_size (by exact bB)))
 have n1_ := aM (kB hb BK476.out)
 have n2_ := aM (below_step (by exact bB) hb)
 clear BK476 HB
 have HO481 := n0_
 have BK476 := n1_
 have HB := n2_
 clear n0_ n1_ n2_
 (try clear hb)
 (try clear hb2)
 (try clear hk)
 (try clear hi)
 (try clear ho0)
 obtain ⟨Ao12, co12, eo12⟩ := Kd.S_slice HO481.out
 (first | subst eo12 | (injection eo12 with f1_ f2_ f3_;have f4_ := f1_.symm;have f5_ := f3_.symm;clear f1_ f2_ f3_;subst f4_;subst f5_))
 refine hK.out _ _ ((blk_cell BK476.out 0).trans rfl) (fun hHeld => ?_)
 clear hK K
 refine norm_ (a' := ?_) ?_ ?_
 rotate_left
 ·show Act.put _ (some 18) _ = _
  simp only [Act.put, List.setIfInBounds_toArray, List.set_cons_zero, List.set_cons_succ, i64_w, i32_w]
  rfl
 refine pure_ (i := 6) (N := some 19) (v := ?_) (a' := ?_) (pT 7 2) rfl rfl (any_of HT_.out kR) (fun _ _ _ h => h) (Or.inl ⟨by rfl, ?_⟩) ?_ ?_
 rotate_left
 ·exact gW
 rotate_left
 ·exact aP
 refine one_ (i := 7) (N := some 20) (pT 8 1) rfl rfl (one_of HT_.out kR) (by decide) (fun K hK => ?_)
 refine box_step ?hg (N := 20) ?hd (cs := #[.int .i64 t477, .slice Ao12 t479.length co12, .slice none 0 0]) (t := 61) ?hr ?_;(case hd => rfl);(case hg => rfl);(case hr => exact gS)
 intro gb482 hg w13 hbox hb
 have n0_ := aM (Kd.S_below (by exact tP HO481.out) hb)
 have n1_ := aM (kB hb BK476.out)
 have n2_ := aM (below_step (by exact bB) hb)
 have n3_ := aM (hbox)
 have n4_ := aM (sW hg : w.heap.size ≤ gb482)
 have n5_ := aM (sW hg : w.heap.size ≤ gb482)
 have n6_ := aM (nL hg (kP BK476.out))
 have n7_ := aM (nG hg (kP BK476.out))
 clear HO481 BK476 HB
 have HO481 := n0_
 have BK476 := n1_
 have HB := n2_
 have BK482 := n3_
 have GW482 := n4_
 have GE482 := n5_
 have NB476_482 := n6_
 have NB482_476 := n7_
 clear n0_ n1_ n2_ n3_ n4_ n5_ n6_ n7_ hb hbox hg
 refine hK.out _ _ ((blk_cell BK476.out 0).trans rfl) (fun hHeld => ?_)
 clear hK K
 refine norm_ (a' := ?_) ?_ ?_
 rotate_left
 ·show Act.put _ (some 20) _ = _
  simp only [Act.put, List.setIfInBounds_toArray, List.set_cons_zero, List.set_cons_succ, i64_w, i32_w]
  rfl
 refine pure_ (i := 8) (N := some 7) (v := ?_) (a' := ?_) (pT 9 0) rfl rfl (any_of HT_.out kR) (fun _ _ _ h => h) (Or.inl ⟨by rfl, ?_⟩) ?_ ?_
 rotate_left
 ·exact gW
 rotate_left
 ·exact aP
 refine done_ (done_of HT_.out kR) ?_
 have hnb14 := NB482_476.out
 have hnc14 := NB476_482.out
 have hcz15_0 := bC0 BK482.out
 have hcz15_1 := bC1 BK482.out
 have hcz15_2 := bC2 BK482.out
 have hfz15_0 := blk_frozen BK482.out 0
 have hfz15_1 := blk_frozen BK482.out 1
 have hfz15_2 := blk_frozen BK482.out 2
 try go_wp2
 go_loopg [26] k (fun kq v26 w' => ∃ (x26_1 : Int) (x483002_1 : List (List Int)) (u483002 : Value), v26 = .int .i64 x26_1 ∧ Aside0 (impl_net_guardGame.l0 kq a2 t479 (t479.length : Int) x26_1 l0_0 t477 t479 x483002_1 = some (r1, r2, r3)) ∧ Aside0 (kq ≤ k) ∧ Aside0 (Kd.S (Kd.slice 3 (Kd.int .i64)) 36 w' w.heap.size (fun k_ => some k_ ≠ (u483002 : Value).ownBlock) (.slice Ao12 t479.length co12) t479) ∧ Aside0 (Kd.S (Kd.slice 3 (Kd.int .i64)) 36 w' w.heap.size (fun k_ => some k_ ≠ (u483002 : Value).ownBlock) (.slice Ao12 t479.length co12) t479) ∧ Aside0 (Kd.S (Kd.slice 3 (Kd.int .i64)) 36 w' w.heap.size (fun k_ => some k_ ≠ ((.slice Ao12 t479.length co12) : Value).ownBlock ∧ some k_ ≠ ((.slice Ao12 t479.length co12) : Value).ownBlock) u483002 x483002_1) ∧ Aside0 (w'.heap[gb476]? = some (.cells #[(.slice A0_0 l0_0.length c0_0)] 56 (0, 0))) ∧ Aside0 (w'.heap[gb482]? = some (.cells #[.int .i64 t477, (.slice Ao12 t479.length co12), u483002] 61 (0, 0))) ∧ Aside0 (Below w.heap.size w w'))
 case atStart => exact ⟨(0), (([] : List (List Int))), (.slice none 0 0), eF, H', ⟨Nat.le_refl _⟩, ⟨by (with_reducible repeat (first | apply Kd.S_alloc | apply Kd.S_drewN | apply Kd.S_drew));exact Kd.S_mono HO481.out (fun _ hk => (by simp [Value.ownBlock]))⟩, ⟨by (with_reducible repeat (first | apply Kd.S_alloc | apply Kd.S_drewN | apply Kd.S_drew));exact Kd.S_mono HO481.out (fun _ hk => (by simp [Value.ownBlock]))⟩, ⟨by first | exact Kd.S_nil _ _ _ _ _ | exact Kd.N_nil _ _ _ _ _ | exact Kd.V_nil _ _ _ _ _ | exact Kd.Q_nil _ _ _ _ _ | exact Kd.R_nil _ _ _ _ _⟩, ⟨by exact kP BK476.out⟩, ⟨by exact kP BK482.out⟩, ⟨by exact bB⟩⟩
 case round =>
  clear H'
  try clear c1
  try clear p2
  try clear c3
  try clear c6
  try clear c14
  try clear hcz15_0
  try clear hcz15_1
  try clear hcz15_2
  try clear hfz15_0
  try clear hfz15_1
  try clear hfz15_2
  obtain ⟨x26_1, x483002_1, u483002, rfl, HA, HK1, HO_24, HO_483001, HO_483002, BK476, BK482, HB⟩ := hrel
  cases gk with
  | zero => exact absurd HA.out (by simp [impl_net_guardGame.l0])
  | succ k1 =>
   have H := HA.out
   clear HA
   simp only [impl_net_guardGame.l0] at H
   by_cases c16 : x26_1 < (t479.length : Int)
   rotate_left
   ·rw [if_neg c16] at H
    have c16b0 : decide (x26_1 < (t479.length : Int)) = false := decide_eq_false c16
    clear c16
    simp only [Option.some.injEq, Prod.mk.injEq] at H
    obtain ⟨rfl, rfl, rfl⟩ := H
    go_wp2
    go_ret
    exact ⟨gb482, _, _, rfl, (by exact kP BK482.out), GW482.out, by (with_reducible repeat (first | apply Kd.S_alloc | apply Kd.S_drewN | apply Kd.S_drew));exact HO_483001.out, by (with_reducible repeat (first | apply Kd.S_alloc | apply Kd.S_drewN | apply Kd.S_drew));exact Kd.S_mono HO_483002.out (fun _ hk => hk.2), by exact bB⟩
   rw [if_pos c16] at H
   have c16b0 : decide (x26_1 < (t479.length : Int)) = true := decide_eq_true c16
   clear c16
   by_cases c17 : 0 ≤ x26_1
   rotate_left
   ·rw [if_neg c17] at H
    exact absurd H (by simp)
   rw [if_pos c17] at H
   have c17b0 : decide (0 ≤ x26_1) = true := decide_eq_true c17
   clear c17
   by_cases c18 : x26_1 < (t479.length : Int)
   rotate_left
   ·rw [if_neg c18] at H
    exact absurd H (by simp)
   rw [if_pos c18] at H
   have c18b0 : decide (x26_1 < (t479.length : Int)) = true := decide_eq_true c18
   clear c18
   have H' := Aside0.mk H
   clear H
   have p483 : 0 ≤ (x26_1 : Int) := oA
   have q483 : x26_1 < (t479.length : Int) := oA
   obtain ⟨ad483, A483_0, c483_0, e483, hx483_0, hl483_0, hi483_0⟩ := at_L2 (Kd.S_reads' HO_24.out).2.2 x26_1 p483 q483
   cases e483
   obtain ⟨ce483, hce483, hMe483, hcc483⟩ := Kd.S_get HO_24.out [] x26_1 p483 (by first | exact q483 | exact oA | (have e_ := (Kd.S_reads' HO_24.out).1;omega))
   obtain ⟨ve483_0, rfl, ge483_0⟩ := hMe483
   have hv483_0 := hcc483 0 _ rfl
   rw [Nat.add_zero, show ((Kd.slice 3 (Kd.int .i64))).sz = 1 from rfl, Nat.mul_one] at hv483_0
   replace hv483_0 := Option.some.inj (hv483_0.symm.trans hx483_0)
   rw [hv483_0] at ge483_0
   have HL483_0 := aM (show Kd.R (Kd.int .i64) 3 _ _ _ _ (rd_L2 t479 x26_1) from ge483_0)
   clear hv483_0 ge483_0 hcc483 hce483
   have HR483_0 := Aside0.mk hi483_0
   have HC483_0 := Aside0.mk hl483_0
   clear hi483_0 hl483_0
   replace p483 := eq_true p483
   replace q483 := eq_true q483
   have hnb19 := NB482_476.out
   have hnc19 := NB476_482.out
   have hcz20_0 := bC0 BK482.out
   have hcz20_1 := bC1 BK482.out
   have hcz20_2 := bC2 BK482.out
   have hfz20_0 := blk_frozen BK482.out 0
   have hfz20_1 := blk_frozen BK482.out 1
   have hfz20_2 := blk_frozen BK482.out 2
   go_wp2
   have HF := aM (Kd.R_mono (ok' := fun k_ => some k_ ≠ (u483002 : Value).ownBlock) HL483_0.out (fun _ hk => hk.1))
   go_loopg [10, 35] k1 (fun kq v10 v35 w' => ∃ (x10_2 : List Int) (x35_2 : Int), v35 = .int .i64 x35_2 ∧ Aside0 (impl_net_guardGame.l1 kq a2 (rd_L2 t479 x26_1) x10_2 t479 (t479.length : Int) x26_1 t479 (t479.length : Int) x35_2 l0_0 t477 t479 x483002_1 = some (r1, r2, r3)) ∧ Aside0 (kq ≤ k1) ∧ Aside0 (Kd.R (Kd.int .i64) 3 w' w.heap.size (fun _ => True) v10 x10_2) ∧ Aside0 (Kd.S (Kd.slice 3 (Kd.int .i64)) 36 w' w.heap.size (fun k_ => some k_ ≠ (v10 : Value).ownBlock ∧ some k_ ≠ (u483002 : Value).ownBlock) (.slice (some ad483) t479.length co12) t479) ∧ Aside0 (Kd.R (Kd.int .i64) 3 w' w.heap.size (fun k_ => some k_ ≠ (v10 : Value).ownBlock ∧ some k_ ≠ (u483002 : Value).ownBlock) (.slice A483_0 (rd_L2 t479 x26_1).length c483_0) (rd_L2 t479 x26_1)) ∧ Aside0 (Kd.S (Kd.slice 3 (Kd.int .i64)) 36 w' w.heap.size (fun k_ => some k_ ≠ (v10 : Value).ownBlock ∧ some k_ ≠ (u483002 : Value).ownBlock) (.slice (some ad483) t479.length co12) t479) ∧ Aside0 (Kd.S (Kd.slice 3 (Kd.int .i64)) 36 w' w.heap.size (fun k_ => some k_ ≠ (v10 : Value).ownBlock ∧ some k_ ≠ (u483002 : Value).ownBlock) (.slice (some ad483) t479.length co12) t479) ∧ Aside0 (Kd.S (Kd.slice 3 (Kd.int .i64)) 36 w' w.heap.size (fun k_ => some k_ ≠ (v10 : Value).ownBlock ∧ some k_ ≠ ((.slice (some ad483) t479.length co12) : Value).ownBlock ∧ some k_ ≠ ((.slice (some ad483) t479.length co12) : Value).ownBlock ∧ some k_ ≠ ((.slice (some ad483) t479.length co12) : Value).ownBlock) u483002 x483002_1) ∧ Aside0 (w'.heap[gb476]? = some (.cells #[(.slice A0_0 l0_0.length c0_0)] 56 (0, 0))) ∧ Aside0 (w'.heap[gb482]? = some (.cells #[.int .i64 t477, (.slice (some ad483) t479.length co12), u483002] 61 (0, 0))) ∧ Aside0 (Below w.heap.size w w'))
   case atStart => exact ⟨(([] : List Int)), (0), eF, H', ⟨Nat.le_refl _⟩, ⟨by first | exact Kd.R_nil _ _ _ _ _ | exact Kd.N_nil _ _ _ _ _ | exact Kd.V_nil _ _ _ _ _ | exact Kd.Q_nil _ _ _ _ _ | exact Kd.S_nil _ _ _ _ _⟩, ⟨by (with_reducible repeat (first | apply Kd.S_alloc | apply Kd.S_drewN | apply Kd.S_drew));exact Kd.S_mono HO_24.out (fun _ hk => ⟨(by simp [Value.ownBlock]), hk⟩)⟩, ⟨by refine rP ?_;exact Kd.R_mono HF.out (fun _ hk => ⟨(by simp [Value.ownBlock]), hk⟩)⟩, ⟨by (with_reducible repeat (first | apply Kd.S_alloc | apply Kd.S_drewN | apply Kd.S_drew));exact Kd.S_mono HO_483001.out (fun _ hk => ⟨(by simp [Value.ownBlock]), hk⟩)⟩, ⟨by (with_reducible repeat (first | apply Kd.S_alloc | apply Kd.S_drewN | apply Kd.S_drew));exact Kd.S_mono HO_483001.out (fun _ hk => ⟨(by simp [Value.ownBlock]), hk⟩)⟩, ⟨by (with_reducible repeat (first | apply Kd.S_alloc | apply Kd.S_drewN | apply Kd.S_drew));exact Kd.S_mono HO_483002.out (fun _ hk => ⟨(by simp [Value.ownBlock]), ⟨hk.1, ⟨hk.2, hk.2⟩⟩⟩)⟩, ⟨by exact kP BK476.out⟩, ⟨by exact kP BK482.out⟩, ⟨by exact bB⟩⟩
   case round =>
    clear H'
    try clear c1
    try clear p2
    try clear c3
    try clear c4
    try clear p4
    try clear q4
    try clear hx4
    try clear c6
    try clear c14
    try clear c16
    try clear c16b0
    try clear c17
    try clear c17b0
    try clear c18
    try clear c18b0
    try clear c19
    try clear hcz15_0
    try clear hcz15_1
    try clear hcz15_2
    try clear hcz20_0
    try clear hcz20_1
    try clear hcz20_2
    try clear hfz15_0
    try clear hfz15_1
    try clear hfz15_2
    try clear hfz20_0
    try clear hfz20_1
    try clear hfz20_2
    try clear hx483_0
    try clear p2
    try clear p483
    try clear q483
    obtain ⟨x10_2, x35_2, rfl, HA, HK2, HO_10, HO_24, HF, HO_33, HO_483001, HO_483002, BK476, BK482, HB⟩ := hrel
    cases gk with
    | zero => exact absurd HA.out (by simp [impl_net_guardGame.l1])
    | succ k2 =>
     have H := HA.out
     clear HA
     simp only [impl_net_guardGame.l1] at H
     by_cases c21 : x35_2 < (t479.length : Int)
     rotate_left
     ·rw [if_neg c21] at H
      have c21b0 : decide (x35_2 < (t479.length : Int)) = false := decide_eq_false c21
      clear c21
      by_cases c34 : x483002_1.length < 5864062014805
      rotate_left
      ·rw [if_neg c34] at H
       exact absurd H (by simp)
      rw [if_pos c34] at H
      have LMc34 := Aside0.mk c34
      clear c34
      obtain ⟨y484, hy484⟩ : ∃ y_ : List (List Int), y_ = (x483002_1 ++ [x10_2]) := ⟨_, rfl⟩
      replace H : (impl_net_guardGame.l0 k2 a2 t479 (t479.length : Int) (wrap64 (x26_1 + 1)) l0_0 t477 t479 y484) = some (r1, r2, r3) := by first | (rw [hy484];with_reducible exact H) | (rw [hy484];with_reducible exact hB H) | with_reducible exact hB H | with_reducible exact H | (rw [hy484];exact H) | exact H
      have Ny484 := Aside0.mk hy484
      clear hy484
      have H' := Aside0.mk H
      clear H
      have hnb35 := NB482_476.out
      have hnc35 := NB476_482.out
      have hcz36_0 := bC0 BK482.out
      have hcz36_1 := bC1 BK482.out
      have hcz36_2 := bC2 BK482.out
      have hfz36_0 := blk_frozen BK482.out 0
      have hfz36_1 := blk_frozen BK482.out 1
      have hfz36_2 := blk_frozen BK482.out 2
      obtain ⟨Ao38, co38, eo38⟩ := Kd.R_slice HO_10.out
      subst eo38
      go_wp2_with (first | ((with_reducible refine gate_builtin (b := .append) (xs := #[.tmp 56, .tmp 58]) rfl ?_);at_builtin;refine Kd.S_append (Kd.slice 3 (Kd.int .i64)) (w0 := w) w.heap.size rfl (.tmp 56) (.tmp 58) 26 36 (.slice none 0 0) 24 rfl Tryd.underlying26 info36 rfl (by decide) (by omega) u483002 x483002_1 x10_2 [.slice Ao38 x10_2.length co38] (fun k_ => some k_ ≠ (.slice (some ad483) t479.length co12 : Value).ownBlock ∧ some k_ ≠ (.slice (some ad483) t479.length co12 : Value).ownBlock ∧ some k_ ≠ (.slice (some ad483) t479.length co12 : Value).ownBlock) (fun k_ => some k_ = (.slice Ao38 x10_2.length co38 : Value).ownBlock) rfl rfl ?aP (fun k_ hk_ => ((Kd.R_mono (ok' := fun k_ => ((fun k_ => some k_ ≠ (.slice (some ad483) t479.length co12 : Value).ownBlock ∧ some k_ ≠ (.slice (some ad483) t479.length co12 : Value).ownBlock ∧ some k_ ≠ (.slice (some ad483) t479.length co12 : Value).ownBlock)) k_ ∧ some k_ ≠ (u483002 : Value).ownBlock) (Kd.R_apart' (Kd.R_apart' (Kd.R_apart' (Kd.R_apart' (HO_10.out) (Kd.S_typed HO_24.out) (by decide)) (Kd.S_typed HO_33.out) (by decide)) (Kd.S_typed HO_483001.out) (by decide)) (Kd.S_typed HO_483002.out) (by decide)) (fun k_ hk => ⟨⟨hk.1.1.1.2, ⟨hk.1.1.2, hk.1.2⟩⟩, hk.2⟩))).1 k_ hk_.symm) ?aF ?aO ?aB ?aS ?aL ?_;(case aP => exact Kd.M_row (Kd.R_mono (Kd.R_tight rfl (Kd.R_mono (ok' := fun k_ => ((fun k_ => some k_ ≠ (.slice (some ad483) t479.length co12 : Value).ownBlock ∧ some k_ ≠ (.slice (some ad483) t479.length co12 : Value).ownBlock ∧ some k_ ≠ (.slice (some ad483) t479.length co12 : Value).ownBlock)) k_ ∧ some k_ ≠ (u483002 : Value).ownBlock) (Kd.R_apart' (Kd.R_apart' (Kd.R_apart' (Kd.R_apart' (HO_10.out) (Kd.S_typed HO_24.out) (by decide)) (Kd.S_typed HO_33.out) (by decide)) (Kd.S_typed HO_483001.out) (by decide)) (Kd.S_typed HO_483002.out) (by decide)) (fun k_ hk => ⟨⟨hk.1.1.1.2, ⟨hk.1.1.2, hk.1.2⟩⟩, hk.2⟩))) (fun _ h_ => h_)));(case aB => exact (by exact bB));(case aF => exact (fun k_ hk => ⟨Kd.fresh' (Kd.S_lt (by exact tP HO_24.out)) k_ hk, Kd.fresh' (Kd.S_lt (by exact tP HO_33.out)) k_ hk, Kd.fresh' (Kd.S_lt (by exact tP HO_483001.out)) k_ hk⟩));(case aO => exact (by (with_reducible repeat (first | apply Kd.S_alloc | apply Kd.S_drewN | apply Kd.S_drew));exact Kd.S_mono HO_483002.out (fun k_ hk => ⟨⟨hk.2.1, ⟨hk.2.2.1, hk.2.2.2⟩⟩, fun e_ => hk.1 e_⟩)));(case aS => exact (below_size (by exact bB)));(case aL => have := LMc34.out;omega);intro v485 w37 ho hb hg hat;rw [← Ny484.out] at ho;have n0_ := aM (Kd.S_after (ok := (fun k_ => some k_ ≠ (.slice Ao38 x10_2.length co38 : Value).ownBlock)) (by exact tP HO_24.out) hg hat);have n1_ := aM (Kd.S_after (ok := (fun k_ => some k_ ≠ (.slice Ao38 x10_2.length co38 : Value).ownBlock)) (by exact tP HO_33.out) hg hat);have n2_ := aM (Kd.S_after (ok := (fun k_ => some k_ ≠ (.slice Ao38 x10_2.length co38 : Value).ownBlock)) (by exact tP HO_483001.out) hg hat);have n3_ := aM (blk_grown (g := gb476) (o := .cells #[.slice A0_0 l0_0.length c0_0] 56 (0, 0)) (by exact kP BK476.out) hg (Kd.S_ne HO_483002.out BK476.out (by decide)));have n4_ := aM (blk_grown (g := gb482) (o := .cells #[.int .i64 t477, .slice (some ad483) t479.length co12, u483002] 61 (0, 0)) (by exact kP BK482.out) hg (Kd.S_ne HO_483002.out BK482.out (by decide)));have n5_ := aM (hb);have n6_ := aM (ho);clear HO_24 HO_33 HO_483001 BK476 BK482 HB HO_483002 HO_10;have HO_24 := n0_;have HO_33 := n1_;have HO_483001 := n2_;have BK476 := n3_;have BK482 := n4_;have HB := n5_;have HO486 := n6_;clear n0_ n1_ n2_ n3_ n4_ n5_ n6_ ho hb hg hat;obtain ⟨Ao39, co39, eo39⟩ := Kd.S_slice HO486.out;subst eo39;have hcz40_0 := bC0 BK482.out;have hcz40_1 := bC1 BK482.out;have hcz40_2 := bC2 BK482.out;have hfz40_0 := blk_frozen BK482.out 0;have hfz40_1 := blk_frozen BK482.out 1;have hfz40_2 := blk_frozen BK482.out 2))
      go_roundg k2
      case measure => have := HK1.out;have := HK2.out;omega
      case rel => exact ⟨(wrap64 (x26_1 + 1)), (y484), (.slice Ao39 y484.length co39), eF, H', ⟨by have := HK1.out;have := HK2.out;omega⟩, ⟨by (with_reducible repeat (first | apply Kd.S_alloc | apply Kd.S_drewN | apply Kd.S_drew));exact Kd.S_mono (Kd.S_far (p := ⟨gb482, 2, none⟩) (Kd.S_types HO_24.out BK482.out (by decide)) (fun _ hk => hk.2) (.slice Ao39 y484.length co39)) (fun _ hk => hk.1.2)⟩, ⟨by (with_reducible repeat (first | apply Kd.S_alloc | apply Kd.S_drewN | apply Kd.S_drew));exact Kd.S_mono (Kd.S_far (p := ⟨gb482, 2, none⟩) (Kd.S_types HO_483001.out BK482.out (by decide)) (fun _ hk => hk.2) (.slice Ao39 y484.length co39)) (fun _ hk => hk.1.2)⟩, ⟨by (with_reducible repeat (first | apply Kd.S_alloc | apply Kd.S_drewN | apply Kd.S_drew));exact Kd.S_mono (Kd.S_far (p := ⟨gb482, 2, none⟩) (Kd.S_types HO486.out BK482.out (by decide)) (fun _ hk => hk.2) (.slice Ao39 y484.length co39)) (fun _ hk => ⟨hk.1.1, hk.1.2.2⟩)⟩, ⟨by refine kP ?_;refine blk_far ?_ NB476_482.out _;exact kP BK476.out⟩, ⟨by refine kP ?_;refine blk_put (cs := #[.int .i64 t477, .slice (some ad483) t479.length co12, u483002]) ?_ 2 _ rfl;exact kP BK482.out⟩, ⟨by exact bB⟩⟩
     rw [if_pos c21] at H
     have c21b0 : decide (x35_2 < (t479.length : Int)) = true := decide_eq_true c21
     clear c21
     by_cases c22 : 0 ≤ x35_2
     rotate_left
     ·rw [if_neg c22] at H
      exact absurd H (by simp)
     rw [if_pos c22] at H
     have c22b0 : decide (0 ≤ x35_2) = true := decide_eq_true c22
     clear c22
     by_cases c23 : x35_2 < (t479.length : Int)
     rotate_left
     ·rw [if_neg c23] at H
      exact absurd H (by simp)
     rw [if_pos c23] at H
     have c23b0 : decide (x35_2 < (t479.length : Int)) = true := decide_eq_true c23
     clear c23
     replace H := bE H
     obtain ⟨t488, A240, H⟩ := H
     try dsimp only at H
     have A24 := Aside0.mk A240
     clear A240
     replace H := bE H
     obtain ⟨t489, A250, H⟩ := H
     try dsimp only at H
     have A25 := Aside0.mk A250
     clear A250
     replace H := bE H
     obtain ⟨t490, A260, H⟩ := H
     try dsimp only at H
     have A26 := Aside0.mk A260
     clear A260
     by_cases c27 : t490 = true
     rotate_left
     ·replace c27 := Bool.eq_false_iff.mpr c27
      subst c27
      rw [if_neg fF] at H
      have H' := Aside0.mk H
      clear H
      have p487 : 0 ≤ (x35_2 : Int) := oA
      have q487 : x35_2 < (t479.length : Int) := oA
      obtain ⟨ad487, A487_0, c487_0, e487, hx487_0, hl487_0, hi487_0⟩ := at_L2 (Kd.S_reads' HO_33.out).2.2 x35_2 p487 q487
      obtain rfl : ad483 = ad487 := (by injection e487)
      obtain ⟨ce487, hce487, hMe487, hcc487⟩ := Kd.S_get HO_33.out [] x35_2 p487 (by first | exact q487 | exact oA | (have e_ := (Kd.S_reads' HO_33.out).1;omega))
      obtain ⟨ve487_0, rfl, ge487_0⟩ := hMe487
      have hv487_0 := hcc487 0 _ rfl
      rw [Nat.add_zero, show ((Kd.slice 3 (Kd.int .i64))).sz = 1 from rfl, Nat.mul_one] at hv487_0
      replace hv487_0 := Option.some.inj (hv487_0.symm.trans hx487_0)
      rw [hv487_0] at ge487_0
      have HL487_0 := aM (show Kd.R (Kd.int .i64) 3 _ _ _ _ (rd_L2 t479 x35_2) from ge487_0)
      clear hv487_0 ge487_0 hcc487 hce487
      have HR487_0 := Aside0.mk hi487_0
      have HC487_0 := Aside0.mk hl487_0
      clear hi487_0 hl487_0
      replace p487 := eq_true p487
      replace q487 := eq_true q487
      try go_wp2
      have n0_ := aM (Kd.R_drew HO_10.out)
      have n1_ := aM (Kd.S_drew HO_24.out);have n90_ := aM (Kd.R_drew HF.out)
      have n2_ := aM (Kd.S_drew HO_33.out)
      have n3_ := aM (Kd.S_drew HO_483001.out)
      have n4_ := aM (Kd.S_drew HO_483002.out)
      have n5_ := aM (Kd.R_drew HL487_0.out)
      have n6_ := aM (blk_drew BK476.out)
      have n7_ := aM (blk_drew BK482.out)
      have n8_ := aM (Kd.C_drew HR487_0.out)
      have n9_ := aM (below_drew1 HB.out)
      clear HO_10 HO_24 HF HO_33 HO_483001 HO_483002 HL487_0 BK476 BK482 HR487_0 HB
      have HO_10 := n0_
      have HO_24 := n1_;have HF := n90_;clear n90_
      have HO_33 := n2_
      have HO_483001 := n3_
      have HO_483002 := n4_
      have HL487_0 := n5_
      have BK476 := n6_
      have BK482 := n7_
      have HR487_0 := n8_
      have HB := n9_
      clear n0_ n1_ n2_ n3_ n4_ n5_ n6_ n7_ n8_ n9_
      refine start_ (n := 7) (S := fun w' => w'.cell? ⟨gb476, 0, none⟩ = some (.slice A0_0 l0_0.length c0_0)) (ds := []) (pT 0 7) kR rfl rfl ((blk_cell BK476.out 0).trans rfl) (fun hHeld => ?_)
      generalize wr.drew = w32 at HO_10 HO_24 HF HO_33 HO_483001 HO_483002 HL487_0 BK476 BK482 HR487_0 HB hHeld ⊢
      refine pure_ (i := 1) (N := some 41) (v := ?_) (a' := ?_) (qT [0,1,1,5]) rfl rfl kR (fun _ _ _ h => h) (Or.inl ⟨by rfl, ?_⟩) ?_ ?_
      rotate_left
      ·exact gW
      rotate_left
      ·exact aP
      refine pure_ (i := 3) (N := some 43) (v := ?_) (a' := ?_) (qT [0,1,1,1,1,3]) rfl rfl kR (fun _ _ _ h => h) (Or.inl ⟨by rfl, ?_⟩) ?_ ?_
      rotate_left
      ·exact gW
      rotate_left
      ·exact aP
      refine pure_ (i := 5) (N := some 45) (v := ?_) (a' := ?_) (qT [0,1,1,1,1,1,1,1]) rfl rfl kR (fun _ _ _ h => h) (Or.inl ⟨by rfl, ?_⟩) ?_ ?_
      rotate_left
      ·exact gW
      rotate_left
      ·exact aP
      refine take_ (i := 0) (N := some 40) (v := ?_) (a' := ?_) (qT [2,1,1,1,1,1]) rfl rfl kR (fun _ _ _ h => h) (Or.inl ⟨by rfl, ?_⟩) hHeld ?_ ?_
      rotate_left
      ·intro w' s0
       go_simp
       with_reducible rfl
      rotate_left
      ·exact aP
      refine one_ (i := 2) (N := some 42) (qT [4,1,1,1]) rfl rfl kR (by decide) (fun K hK => ?_)
      refine goes_ Tryd.func63 kR rfl #[.slice A483_0 (rd_L2 t479 x26_1).length c483_0] (by rfl) rfl rfl mM ?_
      with_reducible refine (impl_maskOf.calls k2 _ _ (rd_L2 t479 x26_1) t488 _ ?side1 ?side2 A24.out).mono ?_
      (case side1 => exact cP (Kd.R_reads' HF.out).2.2)
      (case side2 => exact HC483_0.out)
      rintro e w' ⟨rfl, ⟨nd, rfl⟩⟩
      refine ⟨_, rfl, ?_⟩
      refine hK.out _ _ ((blk_cell BK476.out 0).trans rfl) (fun hHeld => ?_)
      clear hK K
      refine norm_ (a' := ?_) ?_ ?_
      rotate_left
      ·show Act.put _ (some 42) _ = _
       simp only [Act.put, List.setIfInBounds_toArray, List.set_cons_zero, List.set_cons_succ, i64_w, i32_w]
       rfl
      refine one_ (i := 4) (N := some 44) (pT 6 1) rfl rfl kR (by decide) (fun K hK => ?_)
      refine goes_ Tryd.func63 kR rfl #[.slice A487_0 (rd_L2 t479 x35_2).length c487_0] (by rfl) rfl rfl mM ?_
      with_reducible refine (impl_maskOf.calls k2 _ _ (rd_L2 t479 x35_2) t489 _ ?side1 ?side2 A25.out).mono ?_
      (case side1 => exact cP (by repeat (first | (with_reducible exact HR487_0.out) | (with_reducible refine Kd.C_alloc ?_ _) | (with_reducible refine Kd.C_drewN ?_ _) | (with_reducible refine Kd.C_drew ?_) | exact HR487_0.out)))
      (case side2 => exact HC487_0.out)
      rintro e w' ⟨rfl, ⟨nd, rfl⟩⟩
      refine ⟨_, rfl, ?_⟩
      refine hK.out _ _ ((blk_cell BK476.out 0).trans rfl) (fun hHeld => ?_)
      clear hK K
      refine norm_ (a' := ?_) ?_ ?_
      rotate_left
      ·show Act.put _ (some 44) _ = _
       simp only [Act.put, List.setIfInBounds_toArray, List.set_cons_zero, List.set_cons_succ, i64_w, i32_w]
       rfl
      refine one_ (i := 6) (N := some 46) (pT 7 0) rfl rfl kR (by decide) (fun K hK => ?_)
      refine goes_ Tryd.func62 kR rfl #[.agg #[.slice A0_0 l0_0.length c0_0], .int .i64 t488, .int .i64 t489, .bool a2] (by rfl) rfl rfl mM ?_
      with_reducible refine (impl_net_canMoveGuards.calls k2 _ _ l0_0 t488 t489 a2 false _ ?sideT ?side1 ?side2 A26.out).mono ?_
      (case sideT => exact tabG_below HT.out (by exact bB))
      (case side1 => exact cP (Kd.C_below HR0_0.out (by repeat (first | (with_reducible first | exact HB.out | apply below_alloc | apply pw_below_drewN | apply below_drew1 | refine below_set ?_ GE476.out | refine below_set ?_ GE482.out) | exact HB.out))))
      (case side2 => exact HC0_0.out)
      rintro e w33 ⟨rfl, hb⟩
      refine ⟨_, rfl, ?_⟩
      have n0_ := aM (Kd.R_below (by exact rP HO_10.out) hb)
      have n1_ := aM (Kd.S_below (by exact tP HO_24.out) hb);have n90_ := aM (Kd.R_below (by exact rP HF.out) hb)
      have n2_ := aM (Kd.S_below (by exact tP HO_33.out) hb)
      have n3_ := aM (Kd.S_below (by exact tP HO_483001.out) hb)
      have n4_ := aM (Kd.S_below (by exact tP HO_483002.out) hb)
      have n5_ := aM (Kd.R_below (by exact rP HL487_0.out) hb)
      have n6_ := aM (kB hb BK476.out)
      have n7_ := aM (kB hb BK482.out)
      have n8_ := aM (Kd.C_below (by repeat (first | (with_reducible exact HR487_0.out) | (with_reducible refine Kd.C_alloc ?_ _) | (with_reducible refine Kd.C_drewN ?_ _) | (with_reducible refine Kd.C_drew ?_) | exact HR487_0.out)) hb)
      have n9_ := aM (below_step (by exact bB) hb)
      clear HO_10 HO_24 HF HO_33 HO_483001 HO_483002 HL487_0 BK476 BK482 HR487_0 HB
      have HO_10 := n0_
      have HO_24 := n1_;have HF := n90_;clear n90_
      have HO_33 := n2_
      have HO_483001 := n3_
      have HO_483002 := n4_
      have HL487_0 := n5_
      have BK476 := n6_
      have BK482 := n7_
      have HR487_0 := n8_
      have HB := n9_
      clear n0_ n1_ n2_ n3_ n4_ n5_ n6_ n7_ n8_ n9_
      (try clear hb)
      (try clear hb2)
      (try clear hk)
      (try clear hi)
      refine hK.out _ _ ((blk_cell BK476.out 0).trans rfl) (fun hHeld => ?_)
      clear hK K
      refine norm_ (a' := ?_) ?_ ?_
      rotate_left
      ·show Act.put _ (some 46) _ = _
       simp only [Act.put, List.setIfInBounds_toArray, List.set_cons_zero, List.set_cons_succ, i64_w, i32_w]
       rfl
      refine done_ kR ?_
      try go_wp2
      go_roundg k2
      case measure => have := HK1.out;have := HK2.out;omega
      case rel => exact ⟨(x10_2), (wrap64 (x35_2 + 1)), eF, H', ⟨by have := HK1.out;have := HK2.out;omega⟩, ⟨by exact rP HO_10.out⟩, ⟨by (with_reducible repeat (first | apply Kd.S_alloc | apply Kd.S_drewN | apply Kd.S_drew));exact HO_24.out⟩, ⟨by exact rP HF.out⟩, ⟨by (with_reducible repeat (first | apply Kd.S_alloc | apply Kd.S_drewN | apply Kd.S_drew));exact HO_33.out⟩, ⟨by (with_reducible repeat (first | apply Kd.S_alloc | apply Kd.S_drewN | apply Kd.S_drew));exact HO_483001.out⟩, ⟨by (with_reducible repeat (first | apply Kd.S_alloc | apply Kd.S_drewN | apply Kd.S_drew));exact HO_483002.out⟩, ⟨by exact kP BK476.out⟩, ⟨by exact kP BK482.out⟩, ⟨by exact bB⟩⟩
     subst c27
     rw [if_pos rfl] at H
     by_cases c28 : x10_2.length < 17592186044416
     rotate_left
     ·rw [if_neg c28] at H
      exact absurd H (by simp)
     rw [if_pos c28] at H
     have LMc28 := Aside0.mk c28
     clear c28
     obtain ⟨y491, hy491⟩ : ∃ y_ : List Int, y_ = (x10_2 ++ [x35_2]) := ⟨_, rfl⟩
     replace H : (impl_net_guardGame.l1 k2 a2 (rd_L2 t479 x26_1) y491 t479 (t479.length : Int) x26_1 t479 (t479.length : Int) (wrap64 (x35_2 + 1)) l0_0 t477 t479 x483002_1) = some (r1, r2, r3) := by first | (rw [hy491];with_reducible exact H) | (rw [hy491];with_reducible exact hB H) | with_reducible exact hB H | with_reducible exact H | (rw [hy491];exact H) | exact H
     have Ny491 := Aside0.mk hy491
     clear hy491
     have H' := Aside0.mk H
     clear H
     have p487 : 0 ≤ (x35_2 : Int) := oA
     have q487 : x35_2 < (t479.length : Int) := oA
     obtain ⟨ad487, A487_0, c487_0, e487, hx487_0, hl487_0, hi487_0⟩ := at_L2 (Kd.S_reads' HO_33.out).2.2 x35_2 p487 q487
     obtain rfl : ad483 = ad487 := (by injection e487)
     obtain ⟨ce487, hce487, hMe487, hcc487⟩ := Kd.S_get HO_33.out [] x35_2 p487 (by first | exact q487 | exact oA | (have e_ := (Kd.S_reads' HO_33.out).1;omega))
     obtain ⟨ve487_0, rfl, ge487_0⟩ := hMe487
     have hv487_0 := hcc487 0 _ rfl
     rw [Nat.add_zero, show ((Kd.slice 3 (Kd.int .i64))).sz = 1 from rfl, Nat.mul_one] at hv487_0
     replace hv487_0 := Option.some.inj (hv487_0.symm.trans hx487_0)
     rw [hv487_0] at ge487_0
     have HL487_0 := aM (show Kd.R (Kd.int .i64) 3 _ _ _ _ (rd_L2 t479 x35_2) from ge487_0)
     clear hv487_0 ge487_0 hcc487 hce487
     have HR487_0 := Aside0.mk hi487_0
     have HC487_0 := Aside0.mk hl487_0
     clear hi487_0 hl487_0
     replace p487 := eq_true p487
     replace q487 := eq_true q487
     try go_wp2
     have n0_ := aM (Kd.R_drew HO_10.out)
     have n1_ := aM (Kd.S_drew HO_24.out);have n90_ := aM (Kd.R_drew HF.out)
     have n2_ := aM (Kd.S_drew HO_33.out)
     have n3_ := aM (Kd.S_drew HO_483001.out)
     have n4_ := aM (Kd.S_drew HO_483002.out)
     have n5_ := aM (Kd.R_drew HL487_0.out)
     have n6_ := aM (blk_drew BK476.out)
     have n7_ := aM (blk_drew BK482.out)
     have n8_ := aM (Kd.C_drew HR487_0.out)
     have n9_ := aM (below_drew1 HB.out)
     clear HO_10 HO_24 HF HO_33 HO_483001 HO_483002 HL487_0 BK476 BK482 HR487_0 HB
     have HO_10 := n0_
     have HO_24 := n1_;have HF := n90_;clear n90_
     have HO_33 := n2_
     have HO_483001 := n3_
     have HO_483002 := n4_
     have HL487_0 := n5_
     have BK476 := n6_
     have BK482 := n7_
     have HR487_0 := n8_
     have HB := n9_
     clear n0_ n1_ n2_ n3_ n4_ n5_ n6_ n7_ n8_ n9_
     refine start_ (n := 7) (S := fun w' => w'.cell? ⟨gb476, 0, none⟩ = some (.slice A0_0 l0_0.length c0_0)) (ds := []) (pT 0 7) kR rfl rfl ((blk_cell BK476.out 0).trans rfl) (fun hHeld => ?_)
     generalize wr.drew = w29 at HO_10 HO_24 HF HO_33 HO_483001 HO_483002 HL487_0 BK476 BK482 HR487_0 HB hHeld ⊢
     refine pure_ (i := 1) (N := some 41) (v := ?_) (a' := ?_) (qT [0,1,1,5]) rfl rfl kR (fun _ _ _ h => h) (Or.inl ⟨by rfl, ?_⟩) ?_ ?_
     rotate_left
     ·exact gW
     rotate_left
     ·exact aP
     refine pure_ (i := 3) (N := some 43) (v := ?_) (a' := ?_) (qT [0,1,1,1,1,3]) rfl rfl kR (fun _ _ _ h => h) (Or.inl ⟨by rfl, ?_⟩) ?_ ?_
     rotate_left
     ·exact gW
     rotate_left
     ·exact aP
     refine pure_ (i := 5) (N := some 45) (v := ?_) (a' := ?_) (qT [0,1,1,1,1,1,1,1]) rfl rfl kR (fun _ _ _ h => h) (Or.inl ⟨by rfl, ?_⟩) ?_ ?_
     rotate_left
     ·exact gW
     rotate_left
     ·exact aP
     refine take_ (i := 0) (N := some 40) (v := ?_) (a' := ?_) (qT [2,1,1,1,1,1]) rfl rfl kR (fun _ _ _ h => h) (Or.inl ⟨by rfl, ?_⟩) hHeld ?_ ?_
     rotate_left
     ·intro w' s0
      go_simp
      with_reducible rfl
     rotate_left
     ·exact aP
     refine one_ (i := 2) (N := some 42) (qT [4,1,1,1]) rfl rfl kR (by decide) (fun K hK => ?_)
     refine goes_ Tryd.func63 kR rfl #[.slice A483_0 (rd_L2 t479 x26_1).length c483_0] (by rfl) rfl rfl mM ?_
     with_reducible refine (impl_maskOf.calls k2 _ _ (rd_L2 t479 x26_1) t488 _ ?side1 ?side2 A24.out).mono ?_
     (case side1 => exact cP (Kd.R_reads' HF.out).2.2)
     (case side2 => exact HC483_0.out)
     rintro e w' ⟨rfl, ⟨nd, rfl⟩⟩
     refine ⟨_, rfl, ?_⟩
     refine hK.out _ _ ((blk_cell BK476.out 0).trans rfl) (fun hHeld => ?_)
     clear hK K
     refine norm_ (a' := ?_) ?_ ?_
     rotate_left
     ·show Act.put _ (some 42) _ = _
      simp only [Act.put, List.setIfInBounds_toArray, List.set_cons_zero, List.set_cons_succ, i64_w, i32_w]
      rfl
     refine one_ (i := 4) (N := some 44) (pT 6 1) rfl rfl kR (by decide) (fun K hK => ?_)
     refine goes_ Tryd.func63 kR rfl #[.slice A487_0 (rd_L2 t479 x35_2).length c487_0] (by rfl) rfl rfl mM ?_
     with_reducible refine (impl_maskOf.calls k2 _ _ (rd_L2 t479 x35_2) t489 _ ?side1 ?side2 A25.out).mono ?_
     (case side1 => exact cP (by repeat (first | (with_reducible exact HR487_0.out) | (with_reducible refine Kd.C_alloc ?_ _) | (with_reducible refine Kd.C_drewN ?_ _) | (with_reducible refine Kd.C_drew ?_) | exact HR487_0.out)))
     (case side2 => exact HC487_0.out)
     rintro e w' ⟨rfl, ⟨nd, rfl⟩⟩
     refine ⟨_, rfl, ?_⟩
     refine hK.out _ _ ((blk_cell BK476.out 0).trans rfl) (fun hHeld => ?_)
     clear hK K
     refine norm_ (a' := ?_) ?_ ?_
     rotate_left
     ·show Act.put _ (some 44) _ = _
      simp only [Act.put, List.setIfInBounds_toArray, List.set_cons_zero, List.set_cons_succ, i64_w, i32_w]
      rfl
     refine one_ (i := 6) (N := some 46) (pT 7 0) rfl rfl kR (by decide) (fun K hK => ?_)
     refine goes_ Tryd.func62 kR rfl #[.agg #[.slice A0_0 l0_0.length c0_0], .int .i64 t488, .int .i64 t489, .bool a2] (by rfl) rfl rfl mM ?_
     with_reducible refine (impl_net_canMoveGuards.calls k2 _ _ l0_0 t488 t489 a2 true _ ?sideT ?side1 ?side2 A26.out).mono ?_
     (case sideT => exact tabG_below HT.out (by exact bB))
     (case side1 => exact cP (Kd.C_below HR0_0.out (by repeat (first | (with_reducible first | exact HB.out | apply below_alloc | apply pw_below_drewN | apply below_drew1 | refine below_set ?_ GE476.out | refine below_set ?_ GE482.out) | exact HB.out))))
     (case side2 => exact HC0_0.out)
     rintro e w30 ⟨rfl, hb⟩
     refine ⟨_, rfl, ?_⟩
     have n0_ := aM (Kd.R_below (by exact rP HO_10.out) hb)
     have n1_ := aM (Kd.S_below (by exact tP HO_24.out) hb);have n90_ := aM (Kd.R_below (by exact rP HF.out) hb)
     have n2_ := aM (Kd.S_below (by exact tP HO_33.out) hb)
     have n3_ := aM (Kd.S_below (by exact tP HO_483001.out) hb)
     have n4_ := aM (Kd.S_below (by exact tP HO_483002.out) hb)
     have n5_ := aM (Kd.R_below (by exact rP HL487_0.out) hb)
     have n6_ := aM (kB hb BK476.out)
     have n7_ := aM (kB hb BK482.out)
     have n8_ := aM (Kd.C_below (by repeat (first | (with_reducible exact HR487_0.out) | (with_reducible refine Kd.C_alloc ?_ _) | (with_reducible refine Kd.C_drewN ?_ _) | (with_reducible refine Kd.C_drew ?_) | exact HR487_0.out)) hb)
     have n9_ := aM (below_step (by exact bB) hb)
     clear HO_10 HO_24 HF HO_33 HO_483001 HO_483002 HL487_0 BK476 BK482 HR487_0 HB
     have HO_10 := n0_
     have HO_24 := n1_;have HF := n90_;clear n90_
     have HO_33 := n2_
     have HO_483001 := n3_
     have HO_483002 := n4_
     have HL487_0 := n5_
     have BK476 := n6_
     have BK482 := n7_
     have HR487_0 := n8_
     have HB := n9_
     clear n0_ n1_ n2_ n3_ n4_ n5_ n6_ n7_ n8_ n9_
     (try clear hb)
     (try clear hb2)
     (try clear hk)
     (try clear hi)
     refine hK.out _ _ ((blk_cell BK476.out 0).trans rfl) (fun hHeld => ?_)
     clear hK K
     refine norm_ (a' := ?_) ?_ ?_
     rotate_left
     ·show Act.put _ (some 46) _ = _
      simp only [Act.put, List.setIfInBounds_toArray, List.set_cons_zero, List.set_cons_succ, i64_w, i32_w]
      rfl
     refine done_ kR ?_
     try go_wp2_with (first | ((with_reducible refine gate_builtin (b := .append) (xs := #[.tmp 47, .tmp 49]) rfl ?_);at_builtin;refine Kd.R_append (Kd.int .i64) (w0 := w) w.heap.size rfl (.tmp 47) (.tmp 49) 36 3 (.int .i64 0) 8 rfl Tryd.underlying36 info3 rfl (by decide) (by omega) u10 x10_2 x35_2 [.int .i64 x35_2] (fun _ => True) (fun _ => False) rfl rfl ?aP (fun _ hk => hk.elim) ?aF ?aO ?aB ?aS ?aL ?_;(case aP => exact rfl);(case aB => exact (by exact bB));(case aF => exact (fun _ _ => trivial));(case aO => exact (by exact rP HO_10.out));(case aS => exact (below_size (by exact bB)));(case aL => have := LMc28.out;omega);intro v492 w31 ho hb hg hat;rw [← Ny491.out] at ho;have n0_ := aM (Kd.S_after (ok := (fun k_ => some k_ ≠ (u483002 : Value).ownBlock)) (by (with_reducible repeat (first | apply Kd.S_alloc | apply Kd.S_drewN | apply Kd.S_drew));exact Kd.S_mono HO_24.out (fun _ hk => ⟨hk.2, hk.1⟩)) hg hat);have n90_ := aM (Kd.R_after (ok := (fun k_ => some k_ ≠ (u483002 : Value).ownBlock)) (by exact rP (Kd.R_mono HF.out (fun _ hk => ⟨hk.2, hk.1⟩))) hg hat);have n1_ := aM (Kd.S_after (ok := (fun k_ => some k_ ≠ (u483002 : Value).ownBlock)) (by (with_reducible repeat (first | apply Kd.S_alloc | apply Kd.S_drewN | apply Kd.S_drew));exact Kd.S_mono HO_33.out (fun _ hk => ⟨hk.2, hk.1⟩)) hg hat);have n2_ := aM (Kd.S_after (ok := (fun k_ => some k_ ≠ (u483002 : Value).ownBlock)) (by (with_reducible repeat (first | apply Kd.S_alloc | apply Kd.S_drewN | apply Kd.S_drew));exact Kd.S_mono HO_483001.out (fun _ hk => ⟨hk.2, hk.1⟩)) hg hat);have n3_ := aM (Kd.S_after (ok := (fun k_ => some k_ ≠ (.slice (some ad483) t479.length co12 : Value).ownBlock ∧ some k_ ≠ (.slice (some ad483) t479.length co12 : Value).ownBlock ∧ some k_ ≠ (.slice (some ad483) t479.length co12 : Value).ownBlock)) (by (with_reducible repeat (first | apply Kd.S_alloc | apply Kd.S_drewN | apply Kd.S_drew));exact Kd.S_mono HO_483002.out (fun _ hk => ⟨⟨hk.2.1, ⟨hk.2.2.1, hk.2.2.2⟩⟩, hk.1⟩)) hg hat);have n4_ := aM (blk_grown (g := gb476) (o := .cells #[.slice A0_0 l0_0.length c0_0] 56 (0, 0)) (by exact kP BK476.out) hg (Kd.R_ne HO_10.out BK476.out (by decide)));have n5_ := aM (blk_grown (g := gb482) (o := .cells #[.int .i64 t477, .slice (some ad483) t479.length co12, u483002] 61 (0, 0)) (by exact kP BK482.out) hg (Kd.R_ne HO_10.out BK482.out (by decide)));have n6_ := aM (Kd.R_after (ok := (fun k_ => some k_ ≠ (.slice (some ad483) t479.length co12 : Value).ownBlock ∧ some k_ ≠ (u483002 : Value).ownBlock)) (by exact rP (Kd.R_mono HL487_0.out (fun _ hk => ⟨⟨hk.2, hk.1.2⟩, hk.1.1⟩))) hg hat);have n7_ := aM (hb);have n8_ := aM (ho);clear HO_24 HF HO_33 HO_483001 HO_483002 BK476 BK482 HL487_0 HB HO_10;have HO_24 := n0_;have HF := n90_;clear n90_;have HO_33 := n1_;have HO_483001 := n2_;have HO_483002 := n3_;have BK476 := n4_;have BK482 := n5_;have HL487_0 := n6_;have HB := n7_;have HO493 := n8_;clear n0_ n1_ n2_ n3_ n4_ n5_ n6_ n7_ n8_ ho hb hg hat))
     go_roundg k2
     case measure => have := HK1.out;have := HK2.out;omega
     case rel => exact ⟨(y491), (wrap64 (x35_2 + 1)), eF, H', ⟨by have := HK1.out;have := HK2.out;omega⟩, ⟨by exact rP HO493.out⟩, ⟨by (with_reducible repeat (first | apply Kd.S_alloc | apply Kd.S_drewN | apply Kd.S_drew));exact Kd.S_mono HO_24.out (fun _ hk => ⟨hk.2, hk.1⟩)⟩, ⟨by refine rP ?_;exact Kd.R_mono HF.out (fun _ hk => ⟨hk.2, hk.1⟩)⟩, ⟨by (with_reducible repeat (first | apply Kd.S_alloc | apply Kd.S_drewN | apply Kd.S_drew));exact Kd.S_mono HO_33.out (fun _ hk => ⟨hk.2, hk.1⟩)⟩, ⟨by (with_reducible repeat (first | apply Kd.S_alloc | apply Kd.S_drewN | apply Kd.S_drew));exact Kd.S_mono HO_483001.out (fun _ hk => ⟨hk.2, hk.1⟩)⟩, ⟨by (with_reducible repeat (first | apply Kd.S_alloc | apply Kd.S_drewN | apply Kd.S_drew));exact Kd.S_mono HO_483002.out (fun _ hk => ⟨hk.2, ⟨hk.1.1, ⟨hk.1.2.1, hk.1.2.2⟩⟩⟩)⟩, ⟨by exact kP BK476.out⟩, ⟨by exact kP BK482.out⟩, ⟨by exact bB⟩⟩


/-! ### slices_Index_int_int: function 79 -/
def slices_Index_int_int.l0 : Nat → List Int → Int → Int → Int → Option (Int)
 | 0, _, _, _, _ => none
 | k + 1, x0, x1, x7, x8 => if x8 < x7 then (if 0 ≤ x8 then (if x8 < (x0.length : Int) then (if x1 = (rd x0 x8) then (some x8) else (slices_Index_int_int.l0 k x0 x1 x7 (wrap64 (x8 + 1)))) else (none)) else (none)) else (some (-1))
def slices_Index_int_int.f (k : Nat) (l0 : List Int) (a1 : Int) : Option (Int) := slices_Index_int_int.l0 k l0 a1 (l0.length : Int) 0
theorem slices_Index_int_int.mono_l : ∀ k, (∀ y0 y1 y2 y3, LeO (slices_Index_int_int.l0 k y0 y1 y2 y3) (slices_Index_int_int.l0 (k + 1) y0 y1 y2 y3))
 | 0 => fun _ _ _ _ r h => by simp [slices_Index_int_int.l0] at h
 | k + 1 => by
  have ih0 := slices_Index_int_int.mono_l k
  ·intro y0 y1 y2 y3
   unfold slices_Index_int_int.l0
   exact lM
theorem slices_Index_int_int.mono : ∀ a0 a1 k, LeO (slices_Index_int_int.f k a0 a1) (slices_Index_int_int.f (k + 1) a0 a1) := by
 intro a0 a1 k
 have ih0 := slices_Index_int_int.mono_l k
 unfold slices_Index_int_int.f
 exact lM
theorem slices_Index_int_int.calls (k : Nat) (A0 : Option Addr) (c0 : Nat) (l0 : List Int) (a1 : Int) (r : Int) (w : World) (hr0 : Kd.C (Kd.int .i64) w A0 l0.length l0) (hc0 : l0.length ≤ c0) (h : slices_Index_int_int.f k l0 a1 = some r) :
  Calls Tryd.prog 79 #[.slice A0 l0.length c0, .int .i64 a1] w fun e w' => e = .returned (.int .i64 r) ∧ Drawn0 w w' := by
 have HR0 := Aside0.mk hr0
 have HC0 := Aside0.mk hc0
 clear hr0 hc0
 have H : (slices_Index_int_int.l0 k l0 a1 (l0.length : Int) 0) = some r := h
 clear h
 have H' := Aside0.mk H
 clear H
 go_enter Tryd.func79, Tryd.ntmps79
 go_wp2
 go_loopg [8] k (fun kq v8 w' => ∃ (x8_1 : Int), v8 = .int .i64 x8_1 ∧ Aside0 (slices_Index_int_int.l0 kq l0 a1 (l0.length : Int) x8_1 = some r) ∧ Aside0 (kq ≤ k) ∧ Drawn0 w w')
 case atStart => exact ⟨(0), eF, H', ⟨Nat.le_refl _⟩, dR⟩
 case round =>
  clear H'
  try clear p2
  obtain ⟨x8_1, rfl, HA, HK1, ⟨m1, rfl⟩⟩ := hrel
  cases gk with
  | zero => exact absurd HA.out (by simp [slices_Index_int_int.l0])
  | succ k1 =>
   have H := HA.out
   clear HA
   simp only [slices_Index_int_int.l0] at H
   by_cases c3 : x8_1 < (l0.length : Int)
   rotate_left
   ·rw [if_neg c3] at H
    have c3b0 : decide (x8_1 < (l0.length : Int)) = false := decide_eq_false c3
    clear c3
    obtain rfl := sI H
    go_wp2
    go_ret
    exact ⟨eF, dR⟩
   rw [if_pos c3] at H
   have c3b0 : decide (x8_1 < (l0.length : Int)) = true := decide_eq_true c3
   clear c3
   by_cases c4 : 0 ≤ x8_1
   rotate_left
   ·rw [if_neg c4] at H
    exact absurd H (by simp)
   rw [if_pos c4] at H
   have c4b0 : decide (0 ≤ x8_1) = true := decide_eq_true c4
   clear c4
   by_cases c5 : x8_1 < (l0.length : Int)
   rotate_left
   ·rw [if_neg c5] at H
    exact absurd H (by simp)
   rw [if_pos c5] at H
   have c5b0 : decide (x8_1 < (l0.length : Int)) = true := decide_eq_true c5
   clear c5
   by_cases c6 : a1 = (rd l0 x8_1)
   ·rw [if_pos c6] at H
    have c6b0 : (a1 == (rd l0 x8_1)) = true := beq_iff_eq.mpr c6
    have c6b1 : (a1 != (rd l0 x8_1)) = false := bne_eq_false_iff_eq.mpr c6
    clear c6
    obtain rfl := sI H
    have p494 : 0 ≤ (x8_1 : Int) := oA
    have q494 : x8_1 < (l0.length : Int) := oA
    obtain ⟨ad494, e494, hx494_0⟩ := Kd.at_int HR0.out x8_1 p494 q494
    cases e494
    replace p494 := eq_true p494
    replace q494 := eq_true q494
    go_wp2
    go_ret
    exact ⟨eF, dR⟩
   rw [if_neg c6] at H
   have c6b0 : (a1 == (rd l0 x8_1)) = false := beq_eq_false_iff_ne.mpr c6
   have c6b1 : (a1 != (rd l0 x8_1)) = true := bne_iff_ne.mpr c6
   have H' := Aside0.mk H
   clear H
   have p494 : 0 ≤ (x8_1 : Int) := oA
   have q494 : x8_1 < (l0.length : Int) := oA
   obtain ⟨ad494, e494, hx494_0⟩ := Kd.at_int HR0.out x8_1 p494 q494
   cases e494
   replace p494 := eq_true p494
   replace q494 := eq_true q494
   go_wp2
   go_roundg k1
   case measure => have := HK1.out;omega
   case rel => exact ⟨(wrap64 (x8_1 + 1)), eF, H', ⟨by have := HK1.out;omega⟩, dR⟩


/-! ### slices_Contains_int_int: function 47 -/
def slices_Contains_int_int.f (k : Nat) (l0 : List Int) (a1 : Int) : Option (Bool) := (slices_Index_int_int.f k l0 a1).bind fun t495 => (some (decide (t495 ≥ 0)))
theorem slices_Contains_int_int.mono : ∀ a0 a1 k, LeO (slices_Contains_int_int.f k a0 a1) (slices_Contains_int_int.f (k + 1) a0 a1) := by
 intro a0 a1 k
 unfold slices_Contains_int_int.f
 have q0 := slices_Index_int_int.mono
 exact lM
theorem slices_Contains_int_int.calls (k : Nat) (A0 : Option Addr) (c0 : Nat) (l0 : List Int) (a1 : Int) (r : Bool) (w : World) (hr0 : Kd.C (Kd.int .i64) w A0 l0.length l0) (hc0 : l0.length ≤ c0) (h : slices_Contains_int_int.f k l0 a1 = some r) :
  Calls Tryd.prog 47 #[.slice A0 l0.length c0, .int .i64 a1] w fun e w' => e = .returned (.bool r) ∧ Drawn0 w w' := by
 have HR0 := Aside0.mk hr0
 have HC0 := Aside0.mk hc0
 clear hr0 hc0
 have H : ((slices_Index_int_int.f k l0 a1).bind fun t495 => (some (decide (t495 ≥ 0)))) = some r := h
 clear h
 replace H := bE H
 obtain ⟨t495, A30, H⟩ := H
 try dsimp only at H
 have A3 := Aside0.mk A30
 clear A30
 obtain rfl := sI H
 go_enter Tryd.func47, Tryd.ntmps47
 go_wp2_with (first | ((with_reducible refine gate_callee (f := 79) rfl ?_);refine goesL_ (some 7) rfl rfl Tryd.func79 kR rfl #[.slice A0 l0.length c0, .int .i64 a1] rfl mM ?_;(with_reducible refine (slices_Index_int_int.calls k _ _ l0 a1 t495 _ ?side1 ?side2 A3.out).mono ?_);(case side1 => exact cP HR0.out);(case side2 => exact HC0.out);rintro e w' ⟨rfl, ⟨nd, rfl⟩⟩;refine ⟨_, rfl, ?_⟩))
 go_ret
 exact ⟨eF, dR⟩


def slices_Clone_int_int.f (l0 : List Int) : Option (List Int) := (some (([] : List Int) : List Int)).bind fun y496 => (if y496.length + l0.length < 17592186044416 then (some (y496 ++ l0)) else (none))
theorem slices_Clone_int_int.calls (A0 : Option Addr) (c0 : Nat) (l0 : List Int) (r : List Int) (w : World) (hr0 : Kd.C (Kd.int .i64) w A0 l0.length l0) (hc0 : l0.length ≤ c0) (h : slices_Clone_int_int.f l0 = some r) :
  Calls Tryd.prog 55 #[.slice A0 l0.length c0] w fun e w' => ∃ v0_ : Value, e = .returned (v0_) ∧ Kd.R (Kd.int .i64) 3 w' w.heap.size (fun _ => True) v0_ r ∧ Below w.heap.size w w' := by
 have HR0 := Aside0.mk hr0
 have HC0 := Aside0.mk hc0
 clear hr0 hc0
 have HB := aM (Below.refl w.heap.size w)
 have H : ((some (([] : List Int) : List Int)).bind fun y496 => (if y496.length + l0.length < 17592186044416 then (some (y496 ++ l0)) else (none))) = some r := h
 clear h
 obtain ⟨y496, hy496⟩ : ∃ y_ : List Int, y_ = (([] : List Int)) := ⟨_, rfl⟩
 replace H : (if y496.length + l0.length < 17592186044416 then (some (y496 ++ l0)) else (none)) = some r := by first | (rw [hy496];with_reducible exact H) | (rw [hy496];with_reducible exact hB H) | with_reducible exact hB H | with_reducible exact H | (rw [hy496];exact H) | exact H
 have Ny496 := Aside0.mk hy496
 clear hy496
 by_cases c2 : y496.length + l0.length < 17592186044416
 rotate_left
 ·rw [if_neg c2] at H
  exact absurd H (by simp)
 rw [if_pos c2] at H
 have LMc2 := Aside0.mk c2
 clear c2
 obtain ⟨y499, hy499⟩ : ∃ y_ : List Int, y_ = (y496 ++ l0) := ⟨_, rfl⟩
 replace H : (some y499) = some r := by first | (rw [hy499];with_reducible exact H) | (rw [hy499];with_reducible exact hB H) | with_reducible exact hB H | with_reducible exact H | (rw [hy499];exact H) | exact H
 have Ny499 := Aside0.mk hy499
 clear hy499
 obtain rfl := sI H
 go_enter Tryd.func55, Tryd.ntmps55
 have q_ : ∀ (w : World) (a : Option Addr) (n c : Nat), (Go.binOp .eql 36 (.slice a n c) (.slice none 0 0)).run Tryd.prog w = .ok (.bool a.isNone) w := fun w a n c => Go.Lib.run_eql_slice_nil w _ _ a n c 0 0 Tryd.underlying36
 cases A0 with
 | none =>
  have hl0 : l0 = [] := by
   refine Classical.byContradiction fun hne => ?_
   obtain ⟨ad, e, _⟩ := HR0.out.2.2 (List.length_pos_iff.2 hne)
   cases e
  go_wp2
  go_ret
  rw [Ny499.out, Ny496.out, hl0]
  exact ⟨_, rfl, Kd.R_nil _ _ _ _ _, HB.out⟩
 | some ad0 =>
  go_wp2_with (first | ((with_reducible refine gate_dst (N := 5) rfl ?_);refine Kd.R_lit (Kd.int .i64) _ 3 ?hg (N := 5) ?hd (xs := ([] : List Int)) (inner := []) (ok := fun _ => True) (okp := fun _ => True) ?hr ?hp (fun _ hk => hk) trivial (Below.refl _ _) (Nat.le_refl _) (by simp) ?_;(case hd => rfl);(case hg => rfl);(case hr => exact gS);(case hp => exact (Reps.none _ _));intro v497 w3 ho4 hb hg_ hnew_;clear hg_ hnew_;(first | rw [← Ny496.out] at ho4 | (simp only [Int.reduceToNat] at ho4;rw [← Ny496.out] at ho4));have n0_ := aM (Kd.R_lower ho4 (below_size (by exact bB)));have n1_ := aM (below_step (by exact bB) hb);clear HB;have HO498 := n0_;have HB := n1_;clear n0_ n1_ hb ho4) | ((with_reducible refine gate_builtin (b := .append) (xs := #[.tmp 5, .tmp 6]) rfl ?_);at_builtin;refine Kd.R_append_rows (Kd.int .i64) (w0 := w) w.heap.size rfl (.tmp 5) (.tmp 6) 36 3 (.int .i64 0) 8 rfl Tryd.underlying36 info3 rfl (by decide) (by omega) v497 y496 l0 _ _ _ (fun _ => True) (fun _ => False) rfl rfl ?aO ?aR (fun _ _ h => h) (fun _ h => h.elim) ?aF ?aB ?aS ?aL ?_;(case aR => exact cP (Kd.C_below HR0.out HB.out));(case aB => exact (by exact bB));(case aF => exact (fun _ _ => trivial));(case aO => exact (by exact rP HO498.out));(case aS => exact (below_size (by exact bB)));(case aL => have := LMc2.out;omega);intro v500 w5 ho hb hg hat;rw [← Ny499.out] at ho;have n0_ := aM (hb);have n1_ := aM (ho);clear HB HO498;have HB := n0_;have HO501 := n1_;clear n0_ n1_ ho hb hg hat))
  go_ret
  exact ⟨_, eW, by exact rP HO501.out, by exact bB⟩

def IsS61 (w0 W : World) (g : Nat) (f0 : Int) (f1 : List (List Int)) (f2 : List (List Int)) : Prop := ∃ A1 c1, ∃ A2 c2, W.heap[g]? = some (.cells #[.int .i64 f0, .slice A1 f1.length c1, .slice A2 f2.length c2] 61 (0, 0)) ∧ True ∧ Kd.C (Kd.slice 3 (Kd.int .i64)) w0 A1 f1.length f1 ∧ Kd.C (Kd.slice 3 (Kd.int .i64)) w0 A2 f2.length f2
theorem IsS61.grown {w0 W : World} {g : Nat} {f0 : Int} {f1 : List (List Int)} {f2 : List (List Int)} {W1 : World} {row : Option Nat} (h : IsS61 w0 W g f0 f1 f2) (hw : W.grownBy W1 row) (hne : some g ≠ row) : IsS61 w0 W1 g f0 f1 f2 := by
 obtain ⟨A1, c1, A2, c2, hb, hg, hr1, hr2⟩ := h
 exact ⟨A1, c1, A2, c2, blk_grown hb hw hne, hg, hr1, hr2⟩
theorem IsS61.own_neN {w0 W : World} {g : Nat} {f0 : Int} {f1 : List (List Int)} {f2 : List (List Int)} {α : Type} {d : Kd α} {e : Nat} {base : Nat} {ok : Nat → Prop} {v : Value} {xs : List α} (h : IsS61 w0 W g f0 f1 f2) (ho : Kd.N d e W base ok v xs) (ht : e ≠ 61) : some g ≠ v.ownBlock := by
 obtain ⟨A1, c1, A2, c2, hb, hg, hr1, hr2⟩ := h
 exact Kd.N_ne ho hb ht
theorem IsS61.fresh {w0 W : World} {g : Nat} {f0 : Int} {f1 : List (List Int)} {f2 : List (List Int)} (h : IsS61 w0 W g f0 f1 f2) : ∀ k, W.heap.size ≤ k → k ≠ g := by
 obtain ⟨A1, c1, A2, c2, hb, hg, hr1, hr2⟩ := h
 exact Kd.freshB hb
theorem IsS61.kept {w0 W : World} {g : Nat} {f0 : Int} {f1 : List (List Int)} {f2 : List (List Int)} {W1 : World} {S : Nat → Prop} (h : IsS61 w0 W g f0 f1 f2) (hk : Kept W W1 S) (hne : ¬ S g) : IsS61 w0 W1 g f0 f1 f2 := by
 obtain ⟨A1, c1, A2, c2, hb, hg, hr1, hr2⟩ := h
 exact ⟨A1, c1, A2, c2, blk_kept hb hk hne, hg, hr1, hr2⟩
theorem IsS61.below {w0 W : World} {g : Nat} {f0 : Int} {f1 : List (List Int)} {f2 : List (List Int)} {W1 : World} (h : IsS61 w0 W g f0 f1 f2) (hw : Below W.heap.size W W1) : IsS61 w0 W1 g f0 f1 f2 := h.grown (grown_of_below hw none) (by simp)
theorem IsS61.alloc {w0 W : World} {g : Nat} {f0 : Int} {f1 : List (List Int)} {f2 : List (List Int)} (h : IsS61 w0 W g f0 f1 f2) (o : Obj) : IsS61 w0 (W.alloc o) g f0 f1 f2 := h.below (below_alloc (Below.refl _ _) o)
theorem IsS61.drewN {w0 W : World} {g : Nat} {f0 : Int} {f1 : List (List Int)} {f2 : List (List Int)} (h : IsS61 w0 W g f0 f1 f2) (m : Nat) : IsS61 w0 (W.drewN m) g f0 f1 f2 := h
theorem IsS61.drew {w0 W : World} {g : Nat} {f0 : Int} {f1 : List (List Int)} {f2 : List (List Int)} (h : IsS61 w0 W g f0 f1 f2) : IsS61 w0 W.drew g f0 f1 f2 := h
theorem IsS61.at_ {w0 W : World} {g : Nat} {f0 : Int} {f1 : List (List Int)} {f2 : List (List Int)} {w' : World} {m : Nat} (hq : W.drewN m = w') (h : IsS61 w0 W g f0 f1 f2) : IsS61 w0 w' g f0 f1 f2 := by subst hq; exact IsS61.drewN h m
theorem IsS61.apart {w0 W : World} {g : Nat} {f0 : Int} {f1 : List (List Int)} {f2 : List (List Int)} {α : Type} {d : Kd α} {e : Nat} {base : Nat} {ok : Nat → Prop} {v : Value} {xs : List α} (h : IsS61 w0 W g f0 f1 f2) (ho : d.R e W base ok v xs) (ht : ∀ q, q ∈ e :: d.E → q ≠ 61) : d.R e W base (fun k => ok k ∧ k ≠ g) v xs := by
 obtain ⟨A1, c1, A2, c2, hb, hg, hr1, hr2⟩ := h
 exact Kd.R_types ho hb ht
theorem IsS61.own_ne {w0 W : World} {g : Nat} {f0 : Int} {f1 : List (List Int)} {f2 : List (List Int)} {α : Type} {d : Kd α} {e : Nat} {base : Nat} {ok : Nat → Prop} {v : Value} {xs : List α} (h : IsS61 w0 W g f0 f1 f2) (ho : d.R e W base ok v xs) (ht : e ≠ 61) : some g ≠ v.ownBlock := by
 obtain ⟨A1, c1, A2, c2, hb, hg, hr1, hr2⟩ := h
 exact Kd.R_ne ho hb ht
theorem IsS61.apartQ {w0 W : World} {g : Nat} {f0 : Int} {f1 : List (List Int)} {f2 : List (List Int)} {α : Type} {d : Kd α} {e : Nat} {base : Nat} {ok : Nat → Prop} {v : Value} {xs : List α} (h : IsS61 w0 W g f0 f1 f2) (ho : d.Q e W base ok v xs) (ht : ∀ q, q ∈ e :: d.E → q ≠ 61) : d.Q e W base (fun k => ok k ∧ k ≠ g) v xs := by
 obtain ⟨A1, c1, A2, c2, hb, hg, hr1, hr2⟩ := h
 exact Kd.Q_types ho hb ht
theorem IsS61.own_neQ {w0 W : World} {g : Nat} {f0 : Int} {f1 : List (List Int)} {f2 : List (List Int)} {α : Type} {d : Kd α} {e : Nat} {base : Nat} {ok : Nat → Prop} {v : Value} {xs : List α} (h : IsS61 w0 W g f0 f1 f2) (ho : d.Q e W base ok v xs) (ht : e ≠ 61) : some g ≠ v.ownBlock := by
 obtain ⟨A1, c1, A2, c2, hb, hg, hr1, hr2⟩ := h
 exact Kd.Q_ne ho hb ht
theorem IsS61.apartS {w0 W : World} {g : Nat} {f0 : Int} {f1 : List (List Int)} {f2 : List (List Int)} {α : Type} {d : Kd α} {e : Nat} {base : Nat} {ok : Nat → Prop} {v : Value} {xs : List α} (h : IsS61 w0 W g f0 f1 f2) (ho : d.S e W base ok v xs) (ht : ∀ q, q ∈ e :: d.E → q ≠ 61) : d.S e W base (fun k => ok k ∧ k ≠ g) v xs := by
 obtain ⟨A1, c1, A2, c2, hb, hg, hr1, hr2⟩ := h
 exact Kd.S_types ho hb ht
theorem IsS61.own_neS {w0 W : World} {g : Nat} {f0 : Int} {f1 : List (List Int)} {f2 : List (List Int)} {α : Type} {d : Kd α} {e : Nat} {base : Nat} {ok : Nat → Prop} {v : Value} {xs : List α} (h : IsS61 w0 W g f0 f1 f2) (ho : d.S e W base ok v xs) (ht : e ≠ 61) : some g ≠ v.ownBlock := by
 obtain ⟨A1, c1, A2, c2, hb, hg, hr1, hr2⟩ := h
 exact Kd.S_ne ho hb ht
theorem IsS61.lt {w0 W : World} {g : Nat} {f0 : Int} {f1 : List (List Int)} {f2 : List (List Int)} (h : IsS61 w0 W g f0 f1 f2) : g < W.heap.size := by
 obtain ⟨A1, c1, A2, c2, hb, hg, hr1, hr2⟩ := h
 exact blk_lt hb
theorem IsS61.ne_blk {w0 W : World} {g : Nat} {f0 : Int} {f1 : List (List Int)} {f2 : List (List Int)} {a : Nat} {cs : Array Value} {t : TypeId} {fr : Nat × Nat} (h : IsS61 w0 W g f0 f1 f2) (hb2 : W.heap[a]? = some (.cells cs t fr)) (ht : t ≠ 61) : g ≠ a := by
 obtain ⟨A1, c1, A2, c2, hb, hg, hr1, hr2⟩ := h
 rintro rfl
 rw [hb] at hb2
 injection hb2 with hb2
 injection hb2 with _ ht2
 exact ht ht2.symm
theorem IsS61.far {w0 W : World} {g : Nat} {f0 : Int} {f1 : List (List Int)} {f2 : List (List Int)} {p : Addr} (h : IsS61 w0 W g f0 f1 f2) (hne : g ≠ p.block) (u : Value) : IsS61 w0 (W.setCell p u) g f0 f1 f2 := by
 obtain ⟨A1, c1, A2, c2, hb, hg, hr1, hr2⟩ := h
 exact ⟨A1, c1, A2, c2, blk_far hb hne u, hg, hr1, hr2⟩
theorem cellS61_0 {W : World} {g : Nat} {A1 : Option Addr} {c1 : Nat} {A2 : Option Addr} {c2 : Nat} {f0 : Int} {f1 : List (List Int)} {f2 : List (List Int)} (h : W.heap[g]? = some (.cells #[.int .i64 f0, .slice A1 f1.length c1, .slice A2 f2.length c2] 61 (0, 0))) : W.cell? ⟨g, 0, none⟩ = some (.int .i64 f0) := (blk_cell h 0).trans rfl
theorem IsS61.set_0 {w0 W : World} {g : Nat} {f0 : Int} {f1 : List (List Int)} {f2 : List (List Int)} (h : IsS61 w0 W g f0 f1 f2) (x : Int) : IsS61 w0 (W.setCell ⟨g, 0, none⟩ (.int .i64 x)) g x f1 f2 := by
 obtain ⟨A1, c1, A2, c2, hb, hg, hr1, hr2⟩ := h
 exact ⟨A1, c1, A2, c2, by simpa using blk_set hb 0 (.int .i64 x), hg, hr1, hr2⟩
theorem cellS61_1 {W : World} {g : Nat} {A1 : Option Addr} {c1 : Nat} {A2 : Option Addr} {c2 : Nat} {f0 : Int} {f1 : List (List Int)} {f2 : List (List Int)} (h : W.heap[g]? = some (.cells #[.int .i64 f0, .slice A1 f1.length c1, .slice A2 f2.length c2] 61 (0, 0))) : W.cell? ⟨g, 1, none⟩ = some (.slice A1 f1.length c1) := (blk_cell h 1).trans rfl
theorem cellS61_2 {W : World} {g : Nat} {A1 : Option Addr} {c1 : Nat} {A2 : Option Addr} {c2 : Nat} {f0 : Int} {f1 : List (List Int)} {f2 : List (List Int)} (h : W.heap[g]? = some (.cells #[.int .i64 f0, .slice A1 f1.length c1, .slice A2 f2.length c2] 61 (0, 0))) : W.cell? ⟨g, 2, none⟩ = some (.slice A2 f2.length c2) := (blk_cell h 2).trans rfl
theorem IsS61.new (w0 W : World) (A1 : Option Addr) (c1 : Nat) (A2 : Option Addr) (c2 : Nat) (f0 : Int) (f1 : List (List Int)) (f2 : List (List Int)) (hB : Below w0.heap.size w0 W) (hr1 : Kd.C (Kd.slice 3 (Kd.int .i64)) w0 A1 f1.length f1) (hr2 : Kd.C (Kd.slice 3 (Kd.int .i64)) w0 A2 f2.length f2) : IsS61 w0 (W.alloc (.cells #[.int .i64 f0, .slice A1 f1.length c1, .slice A2 f2.length c2] 61)) W.heap.size f0 f1 f2 := ⟨A1, c1, A2, c2, by simpa using heap_alloc_new W _, trivial, hr1, hr2⟩


theorem sS {p : Prop} (h : p := by repeat (first | (with_reducible first | exact Aside0.out (by assumption) | apply IsS61.alloc | apply IsS61.drewN | apply IsS61.drew | apply IsS61.set_0 | refine IsS61.far ?_ (Aside0.out (by assumption)) _))) : p := h

end Go.Proofs.YtgahlimikndecaaDoor.QPlayAttacks
