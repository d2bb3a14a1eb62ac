import Derived.Test.YtmokkhfmbenleaaQSpreading0
import Derived.Test.YtmokkhfmbenleaaQSpreading1
import Derived.Test.YtmokkhfmbenleaaQSpreading2
import Derived.Test.YtmokkhfmbenleaaQSpreading7
namespace Go.Proofs.Ytmokkhfmbenleaa.QSpreading
open Go.RowKit Go.Proofs.YtmokkhfmbenleaaW.PrintWords Go.Proofs.YtmokkhfmbenleaaW.PrintLast Go.Proofs.YtmokkhfmbenleaaW.PrintMore
attribute [local go_sem] max2_int min2_int max_two min_two max_three min_three max_four min_four   -- for this text's walks alone
set_option linter.unusedVariables false
set_option linter.unusedSimpArgs false
/-! ### spec_l8Inside: function 105 -/
def spec_l8Inside.l0 : Nat → List Int → Int → Int → Int → Int → List (S119) → Option (Int)
 | 0, _, _, _, _, _, _ => none
 | k + 1, x1, x2, x7, x8, x653000, x653001 => if x8 < (x1.length : Int) then (if 0 ≤ x8 then ((spec_l2Near.f k x653000 x653001 (rd x1 x8) x2).bind fun t654 => (if t654 = true then (spec_l8Inside.l0 k x1 x2 (wrap64 (x7 + 1)) (wrap64 (x8 + 1)) x653000 x653001) else (spec_l8Inside.l0 k x1 x2 x7 (wrap64 (x8 + 1)) x653000 x653001))) else (none)) else (some x7)
def spec_l8Inside.f (k : Nat) (a0_0 : Int) (l0_1 : List (S119)) (l1 : List Int) (a2 : Int) : Option (Int) := spec_l8Inside.l0 k l1 a2 0 0 a0_0 l0_1
theorem spec_l8Inside.mono_l : ∀ k, (∀ y0 y1 y2 y3 y4 y5, LeO (spec_l8Inside.l0 k y0 y1 y2 y3 y4 y5) (spec_l8Inside.l0 (k + 1) y0 y1 y2 y3 y4 y5))
 | 0 => fun _ _ _ _ _ _ r h => by simp [spec_l8Inside.l0] at h
 | k + 1 => by
  have ih0 := spec_l8Inside.mono_l k
  ·intro y0 y1 y2 y3 y4 y5
   unfold spec_l8Inside.l0
   repeat' first
   | (with_reducible exact ih0 _ _ _ _ _ _)
   | (with_reducible exact spec_l2Near.mono _ _ _ _ _)
   | (with_reducible exact LeO.refl _)
   | (with_reducible exact LeO.none _)
   | (with_reducible refine LeO.ite ?_ ?_)
   | (with_reducible refine LeO.bind ?_ (fun _ => ?_))
   | exact LeO.none _
   | refine LeO.ite ?_ ?_
   | refine LeO.bind ?_ (fun _ => ?_)
theorem spec_l8Inside.mono : ∀ a0 a1 a2 a3 k, LeO (spec_l8Inside.f k a0 a1 a2 a3) (spec_l8Inside.f (k + 1) a0 a1 a2 a3) := by
 intro a0 a1 a2 a3 k
 have ih0 := spec_l8Inside.mono_l k
 unfold spec_l8Inside.f
 repeat' first
   | (with_reducible exact ih0 _ _ _ _ _ _)
   | (with_reducible exact spec_l2Near.mono _ _ _ _ _)
   | (with_reducible exact LeO.refl _)
   | (with_reducible exact LeO.none _)
   | (with_reducible refine LeO.ite ?_ ?_)
   | (with_reducible refine LeO.bind ?_ (fun _ => ?_))
   | exact LeO.none _
   | refine LeO.ite ?_ ?_
   | refine LeO.bind ?_ (fun _ => ?_)
set_option maxHeartbeats 8000000 in
set_option maxRecDepth 100000 in
theorem spec_l8Inside.calls (k : Nat) (a0_0 : Int) (A0_1 : Option Addr) (c0_1 : Nat) (l0_1 : List (S119)) (A1 : Option Addr) (c1 : Nat) (l1 : List Int) (a2 : Int) (r : Int) (w : World) (hr0_1 : Kd.C k119 w A0_1 l0_1.length l0_1) (hc0_1 : l0_1.length ≤ c0_1) (hr1 : Kd.C (Kd.int .i64) w A1 l1.length l1) (hc1 : l1.length ≤ c1) (h : spec_l8Inside.f k a0_0 l0_1 l1 a2 = some r) :
  Calls Try.prog 105 #[.agg #[.int .i64 a0_0, .slice A0_1 l0_1.length c0_1], .slice A1 l1.length c1, .int .i64 a2] w fun e w' => e = .returned (.int .i64 r) ∧ Below w.heap.size w w' := by
 have hu31 := Try.underlying31
 have HR0_1 := Aside0.mk hr0_1
 have HC0_1 := Aside0.mk hc0_1
 clear hr0_1 hc0_1
 have HR1 := Aside0.mk hr1
 have HC1 := Aside0.mk hc1
 clear hr1 hc1
 have HB := aM (Below.refl w.heap.size w)
 have H : (spec_l8Inside.l0 k l1 a2 0 0 a0_0 l0_1) = some r := h
 clear h
 have H' := Aside0.mk H
 clear H
 go_enter Try.func105, Try.ntmps105
 go_wp2_with (first | ((with_reducible refine gate_dst (N := 3) rfl ?_);refine box_event ?hg (N := 3) ?hd (cs := #[.int .i64 a0_0, .slice A0_1 l0_1.length c0_1]) (t := 31) ?hr ?_;(case hd => rfl);(case hg => rfl);(case hr => first | (go_simp;done) | (go_simp;rfl));intro gb652 hg w4 hbox hb;have n0_ := aM (below_step (by exact bB) hb);have n1_ := aM (hbox);have n2_ := aM (sW hg : w.heap.size ≤ gb652);have n3_ := aM (sW hg : w.heap.size ≤ gb652);clear HB;have HB := n0_;have BK652 := n1_;have GW652 := n2_;have GE652 := n3_;clear n0_ n1_ n2_ n3_;clear hb hbox hg))
 go_loopg [7, 8] k (fun kq v7 v8 w' => ∃ (x7_1 : Int) (x8_1 : Int), v7 = .int .i64 x7_1 ∧ v8 = .int .i64 x8_1 ∧ Aside0 (spec_l8Inside.l0 kq l1 a2 x7_1 x8_1 a0_0 l0_1 = some r) ∧ Aside0 (kq ≤ k) ∧ Aside0 (w'.heap[gb652]? = some (.cells #[.int .i64 a0_0, (.slice A0_1 l0_1.length c0_1)] 31 (0, 0))) ∧ Aside0 (Below w.heap.size w w'))
 case atStart => exact ⟨(0), (0), (by first | rfl | (simp;done) | (simp [*];done)), (by first | rfl | (simp;done) | (simp [*];done)), H', ⟨Nat.le_refl _⟩, ⟨by exact kP BK652.out⟩, ⟨by exact bB⟩⟩
 case round =>
  clear H'
  try clear c1
  try clear p2
  obtain ⟨x7_1, x8_1, rfl, rfl, HA, HK1, BK652, HB⟩ := hrel
  cases gk with
  | zero => exact absurd HA.out (by simp [spec_l8Inside.l0])
  | succ k1 =>
   have H := HA.out
   clear HA
   simp only [spec_l8Inside.l0] at H
   by_cases c5 : x8_1 < (l1.length : Int)
   rotate_left
   ·rw [if_neg c5] at H
    have c5b0 : decide (x8_1 < (l1.length : Int)) = false := decide_eq_false c5
    clear c5
    obtain rfl := Option.some.inj H
    go_wp2
    go_ret
    exact ⟨by first | rfl | (simp [errW_none, errW_some] <;> rfl) | (simp [*, errW_none, errW_some] <;> rfl), by exact bB⟩
   rw [if_pos c5] at H
   have c5b0 : decide (x8_1 < (l1.length : Int)) = true := decide_eq_true c5
   clear c5
   by_cases c6 : 0 ≤ x8_1
   rotate_left
   ·rw [if_neg c6] at H
    exact absurd H (by simp)
   rw [if_pos c6] at H
   have c6b0 : decide (0 ≤ x8_1) = true := decide_eq_true c6
   clear c6
   replace H := Option.bind_eq_some_iff.mp H
   obtain ⟨t654, A70, H⟩ := H
   replace H : (if t654 = true then (spec_l8Inside.l0 k1 l1 a2 (wrap64 (x7_1 + 1)) (wrap64 (x8_1 + 1)) a0_0 l0_1) else (spec_l8Inside.l0 k1 l1 a2 x7_1 (wrap64 (x8_1 + 1)) a0_0 l0_1)) = some r := H
   have A7 := Aside0.mk A70
   clear A70
   by_cases c8 : t654 = true
   ·subst c8
    have H1 : (spec_l8Inside.l0 k1 l1 a2 (wrap64 (x7_1 + 1)) (wrap64 (x8_1 + 1)) a0_0 l0_1) = some r := by rw [if_pos rfl] at H;exact H
    clear H
    have H := H1
    clear H1
    have H' := Aside0.mk H
    clear H
    try go_wp2
    have n0_ := aM (blk_drew BK652.out)
    have n1_ := aM (below_drew1 HB.out)
    clear BK652
    clear HB
    have BK652 := n0_
    have HB := n1_
    clear n0_ n1_
    have p653 : 0 ≤ (x8_1 : Int) := oA
    have q653 : x8_1 < (l1.length : Int) := oA
    obtain ⟨ad653, e653, hx653_0⟩ := Kd.at_int HR1.out x8_1 p653 q653
    have hw653_0 := hx653_0
    cases e653
    replace hx653_0 := (HB.out.cell (World.block_lt_of_cell? w _ hx653_0)).trans hx653_0
    replace p653 := eq_true p653
    replace q653 := eq_true q653
    refine start_ (n := 7) (S := fun w' => w'.cell? ⟨gb652, 0, none⟩ = some (.int .i64 a0_0) ∧ w'.cell? ⟨gb652, 1, none⟩ = some (.slice A0_1 l0_1.length c0_1) ∧ w'.cell? (ad653.add (x8_1).toNat) = some (.int .i64 (rd l1 x8_1))) (ds := []) #[false,false,false,false,false,false,false] (by kernel_rfl) rfl rfl ⟨(blk_cell BK652.out 0).trans rfl, (blk_cell BK652.out 1).trans rfl, ((HB.out.cell (World.block_lt_of_cell? w _ hw653_0)).trans hw653_0)⟩ (fun hHeld => ?_)
    generalize wr.drew = w9 at BK652 HB hx653_0 hHeld ⊢
    refine pure_ (i := 1) (N := some 16) (v := ?_) (a' := ?_) #[false,true,false,false,false,false,false] rfl rfl (by kernel_rfl) (fun _ _ _ h => h) (Or.inl ⟨by rfl, ?_⟩) ?_ ?_
    rotate_left
    ·intro w'
     go_simp
     with_reducible rfl
    rotate_left
    ·exact aP
    refine pure_ (i := 2) (N := some 17) (v := ?_) (a' := ?_) #[false,true,true,false,false,false,false] rfl rfl (by kernel_rfl) (fun _ _ _ h => h) (Or.inl ⟨by rfl, ?_⟩) ?_ ?_
    rotate_left
    ·intro w'
     go_simp
     with_reducible rfl
    rotate_left
    ·exact aP
    refine pure_ (i := 3) (N := some 18) (v := ?_) (a' := ?_) #[false,true,true,true,false,false,false] rfl rfl (by kernel_rfl) (fun _ _ _ h => h) (Or.inl ⟨by rfl, ?_⟩) ?_ ?_
    rotate_left
    ·intro w'
     go_simp
     with_reducible rfl
    rotate_left
    ·exact aP
    refine pure_ (i := 5) (N := some 20) (v := ?_) (a' := ?_) #[false,true,true,true,false,true,false] rfl rfl (by kernel_rfl) (fun _ _ _ h => h) (Or.inl ⟨by rfl, ?_⟩) ?_ ?_
    rotate_left
    ·intro w'
     go_simp
     with_reducible rfl
    rotate_left
    ·exact aP
    refine take_ (i := 0) (N := some 15) (v := ?_) (a' := ?_) #[true,true,true,true,false,true,false] rfl rfl (by kernel_rfl) (fun _ _ _ h => h) (Or.inl ⟨by rfl, ?_⟩) hHeld ?_ ?_
    rotate_left
    ·rintro w' ⟨s0, s1, s2⟩
     go_simp
     with_reducible rfl
    rotate_left
    ·exact aP
    refine take_ (i := 4) (N := some 19) (v := ?_) (a' := ?_) #[true,true,true,true,true,true,false] rfl rfl (by kernel_rfl) (fun _ _ _ h => h) (Or.inl ⟨by rfl, ?_⟩) hHeld ?_ ?_
    rotate_left
    ·rintro w' ⟨s0, s1, s2⟩
     go_simp
     with_reducible rfl
    rotate_left
    ·exact aP
    refine one_ (i := 6) (N := some 21) #[true,true,true,true,true,true,true] rfl rfl (by kernel_rfl) (by decide) (fun K hK => ?_)
    refine goes_ Try.func137 (by kernel_rfl) rfl #[.agg #[.int .i64 a0_0, .slice A0_1 l0_1.length c0_1], .int .i64 (rd l1 x8_1), .int .i64 a2] (by rfl) rfl rfl mM ?_
    with_reducible refine (spec_l2Near.calls k1 a0_0 _ _ l0_1 (rd l1 x8_1) a2 true _ ?side1 ?side2 A7.out).mono ?_
    (case side1 => exact cP (Kd.C_below HR0_1.out HB.out))
    (case side2 => exact HC0_1.out)
    rintro e w10 ⟨rfl, hb⟩
    refine ⟨_, rfl, ?_⟩
    have n0_ := aM (kB hb BK652.out)
    have n1_ := aM (below_step (by exact bB) hb)
    clear BK652
    clear HB
    have BK652 := n0_
    have HB := n1_
    clear n0_ n1_
    (try clear hb)
    (try clear hb2)
    (try clear hk)
    (try clear hi)
    refine hK.out _ _ ⟨(blk_cell BK652.out 0).trans rfl, (blk_cell BK652.out 1).trans rfl, ((HB.out.cell (World.block_lt_of_cell? w _ hw653_0)).trans hw653_0)⟩ (fun hHeld => ?_)
    clear hK K
    refine norm_ (a' := ?_) ?_ ?_
    rotate_left
    ·show Act.put _ (some 21) _ = _
     simp only [Act.put, List.setIfInBounds_toArray, List.set_cons_zero, List.set_cons_succ, i64_w, i32_w]
     rfl
    refine done_ (by kernel_rfl) ?_
    try go_wp2
    go_roundg k1
    case measure => have := HK1.out;omega
    case rel => exact ⟨(wrap64 (x7_1 + 1)), (wrap64 (x8_1 + 1)), (by first | rfl | (simp;done) | (simp [*];done)), (by first | rfl | (simp;done) | (simp [*];done)), H', ⟨by have := HK1.out;omega⟩, ⟨by exact kP BK652.out⟩, ⟨by exact bB⟩⟩
   replace c8 := Bool.eq_false_iff.mpr c8
   subst c8
   have H1 : (spec_l8Inside.l0 k1 l1 a2 x7_1 (wrap64 (x8_1 + 1)) a0_0 l0_1) = some r := by rw [if_neg (show ¬ (false = true) by decide)] at H;exact H
   clear H
   have H := H1
   clear H1
   have H' := Aside0.mk H
   clear H
   try go_wp2
   have n0_ := aM (blk_drew BK652.out)
   have n1_ := aM (below_drew1 HB.out)
   clear BK652
   clear HB
   have BK652 := n0_
   have HB := n1_
   clear n0_ n1_
   have p653 : 0 ≤ (x8_1 : Int) := oA
   have q653 : x8_1 < (l1.length : Int) := oA
   obtain ⟨ad653, e653, hx653_0⟩ := Kd.at_int HR1.out x8_1 p653 q653
   have hw653_0 := hx653_0
   cases e653
   replace hx653_0 := (HB.out.cell (World.block_lt_of_cell? w _ hx653_0)).trans hx653_0
   replace p653 := eq_true p653
   replace q653 := eq_true q653
   refine start_ (n := 7) (S := fun w' => w'.cell? ⟨gb652, 0, none⟩ = some (.int .i64 a0_0) ∧ w'.cell? ⟨gb652, 1, none⟩ = some (.slice A0_1 l0_1.length c0_1) ∧ w'.cell? (ad653.add (x8_1).toNat) = some (.int .i64 (rd l1 x8_1))) (ds := []) #[false,false,false,false,false,false,false] (by kernel_rfl) rfl rfl ⟨(blk_cell BK652.out 0).trans rfl, (blk_cell BK652.out 1).trans rfl, ((HB.out.cell (World.block_lt_of_cell? w _ hw653_0)).trans hw653_0)⟩ (fun hHeld => ?_)
   generalize wr.drew = w11 at BK652 HB hx653_0 hHeld ⊢
   refine pure_ (i := 1) (N := some 16) (v := ?_) (a' := ?_) #[false,true,false,false,false,false,false] rfl rfl (by kernel_rfl) (fun _ _ _ h => h) (Or.inl ⟨by rfl, ?_⟩) ?_ ?_
   rotate_left
   ·intro w'
    go_simp
    with_reducible rfl
   rotate_left
   ·exact aP
   refine pure_ (i := 2) (N := some 17) (v := ?_) (a' := ?_) #[false,true,true,false,false,false,false] rfl rfl (by kernel_rfl) (fun _ _ _ h => h) (Or.inl ⟨by rfl, ?_⟩) ?_ ?_
   rotate_left
   ·intro w'
    go_simp
    with_reducible rfl
   rotate_left
   ·exact aP
   refine pure_ (i := 3) (N := some 18) (v := ?_) (a' := ?_) #[false,true,true,true,false,false,false] rfl rfl (by kernel_rfl) (fun _ _ _ h => h) (Or.inl ⟨by rfl, ?_⟩) ?_ ?_
   rotate_left
   ·intro w'
    go_simp
    with_reducible rfl
   rotate_left
   ·exact aP
   refine pure_ (i := 5) (N := some 20) (v := ?_) (a' := ?_) #[false,true,true,true,false,true,false] rfl rfl (by kernel_rfl) (fun _ _ _ h => h) (Or.inl ⟨by rfl, ?_⟩) ?_ ?_
   rotate_left
   ·intro w'
    go_simp
    with_reducible rfl
   rotate_left
   ·exact aP
   refine take_ (i := 0) (N := some 15) (v := ?_) (a' := ?_) #[true,true,true,true,false,true,false] rfl rfl (by kernel_rfl) (fun _ _ _ h => h) (Or.inl ⟨by rfl, ?_⟩) hHeld ?_ ?_
   rotate_left
   ·rintro w' ⟨s0, s1, s2⟩
    go_simp
    with_reducible rfl
   rotate_left
   ·exact aP
   refine take_ (i := 4) (N := some 19) (v := ?_) (a' := ?_) #[true,true,true,true,true,true,false] rfl rfl (by kernel_rfl) (fun _ _ _ h => h) (Or.inl ⟨by rfl, ?_⟩) hHeld ?_ ?_
   rotate_left
   ·rintro w' ⟨s0, s1, s2⟩
    go_simp
    with_reducible rfl
   rotate_left
   ·exact aP
   refine one_ (i := 6) (N := some 21) #[true,true,true,true,true,true,true] rfl rfl (by kernel_rfl) (by decide) (fun K hK => ?_)
   refine goes_ Try.func137 (by kernel_rfl) rfl #[.agg #[.int .i64 a0_0, .slice A0_1 l0_1.length c0_1], .int .i64 (rd l1 x8_1), .int .i64 a2] (by rfl) rfl rfl mM ?_
   with_reducible refine (spec_l2Near.calls k1 a0_0 _ _ l0_1 (rd l1 x8_1) a2 false _ ?side1 ?side2 A7.out).mono ?_
   (case side1 => exact cP (Kd.C_below HR0_1.out HB.out))
   (case side2 => exact HC0_1.out)
   rintro e w12 ⟨rfl, hb⟩
   refine ⟨_, rfl, ?_⟩
   have n0_ := aM (kB hb BK652.out)
   have n1_ := aM (below_step (by exact bB) hb)
   clear BK652
   clear HB
   have BK652 := n0_
   have HB := n1_
   clear n0_ n1_
   (try clear hb)
   (try clear hb2)
   (try clear hk)
   (try clear hi)
   refine hK.out _ _ ⟨(blk_cell BK652.out 0).trans rfl, (blk_cell BK652.out 1).trans rfl, ((HB.out.cell (World.block_lt_of_cell? w _ hw653_0)).trans hw653_0)⟩ (fun hHeld => ?_)
   clear hK K
   refine norm_ (a' := ?_) ?_ ?_
   rotate_left
   ·show Act.put _ (some 21) _ = _
    simp only [Act.put, List.setIfInBounds_toArray, List.set_cons_zero, List.set_cons_succ, i64_w, i32_w]
    rfl
   refine done_ (by kernel_rfl) ?_
   try go_wp2
   go_roundg k1
   case measure => have := HK1.out;omega
   case rel => exact ⟨(x7_1), (wrap64 (x8_1 + 1)), (by first | rfl | (simp;done) | (simp [*];done)), (by first | rfl | (simp;done) | (simp [*];done)), H', ⟨by have := HK1.out;omega⟩, ⟨by exact kP BK652.out⟩, ⟨by exact bB⟩⟩


/-! ### spec_l8Spread: function 100 -/
mutual
def spec_l8Spread.l0 : Nat → Int → List Int → Int → Int → List (S119) → Option (List Int)
 | 0, _, _, _, _, _ => none
 | k + 1, x2, x7, x8, x656000, x656001 => if x8 < x656000 then (spec_l8Spread.l1 k x2 x7 x8 0 x656000 x656001) else (some x7)
def spec_l8Spread.l1 : Nat → Int → List Int → Int → Int → Int → List (S119) → Option (List Int)
 | 0, _, _, _, _, _, _ => none
 | k + 1, x2, x7, x8, x9, x656000, x656001 => if x9 < x656000 then ((spec_l8Inside.f k x656000 x656001 x7 x9).bind fun t659 => (if t659 ≥ x2 then ((spec_l1Put.f x7 x9).bind fun t660 => (spec_l8Spread.l1 k x2 t660 x8 (wrap64 (x9 + 1)) x656000 x656001)) else (spec_l8Spread.l1 k x2 x7 x8 (wrap64 (x9 + 1)) x656000 x656001))) else (spec_l8Spread.l0 k x2 x7 (wrap64 (x8 + 1)) x656000 x656001)
end
def spec_l8Spread.f (k : Nat) (a0_0 : Int) (l0_1 : List (S119)) (l1 : List Int) (a2 : Int) : Option (List Int) := (spec_l1Own.f l1).bind fun t656 => (spec_l8Spread.l0 k a2 t656 0 a0_0 l0_1)
theorem spec_l8Spread.mono_l : ∀ k, (∀ y0 y1 y2 y3 y4, LeO (spec_l8Spread.l0 k y0 y1 y2 y3 y4) (spec_l8Spread.l0 (k + 1) y0 y1 y2 y3 y4)) ∧ (∀ y0 y1 y2 y3 y4 y5, LeO (spec_l8Spread.l1 k y0 y1 y2 y3 y4 y5) (spec_l8Spread.l1 (k + 1) y0 y1 y2 y3 y4 y5))
 | 0 => ⟨fun _ _ _ _ _ r h => by simp [spec_l8Spread.l0] at h, fun _ _ _ _ _ _ r h => by simp [spec_l8Spread.l1] at h⟩
 | k + 1 => by
  obtain ⟨ih0, ih1⟩ := spec_l8Spread.mono_l k
  refine ⟨?_, ?_⟩
  ·intro y0 y1 y2 y3 y4
   unfold spec_l8Spread.l0
   repeat' first
   | (with_reducible exact ih0 _ _ _ _ _)
   | (with_reducible exact ih1 _ _ _ _ _ _)
   | (with_reducible exact spec_l8Inside.mono _ _ _ _ _)
   | (with_reducible exact LeO.refl _)
   | (with_reducible exact LeO.none _)
   | (with_reducible refine LeO.ite ?_ ?_)
   | (with_reducible refine LeO.bind ?_ (fun _ => ?_))
   | exact LeO.none _
   | refine LeO.ite ?_ ?_
   | refine LeO.bind ?_ (fun _ => ?_)
  ·intro y0 y1 y2 y3 y4 y5
   unfold spec_l8Spread.l1
   repeat' first
   | (with_reducible exact ih0 _ _ _ _ _)
   | (with_reducible exact ih1 _ _ _ _ _ _)
   | (with_reducible exact spec_l8Inside.mono _ _ _ _ _)
   | (with_reducible exact LeO.refl _)
   | (with_reducible exact LeO.none _)
   | (with_reducible refine LeO.ite ?_ ?_)
   | (with_reducible refine LeO.bind ?_ (fun _ => ?_))
   | exact LeO.none _
   | refine LeO.ite ?_ ?_
   | refine LeO.bind ?_ (fun _ => ?_)
theorem spec_l8Spread.mono : ∀ a0 a1 a2 a3 k, LeO (spec_l8Spread.f k a0 a1 a2 a3) (spec_l8Spread.f (k + 1) a0 a1 a2 a3) := by
 intro a0 a1 a2 a3 k
 obtain ⟨ih0, ih1⟩ := spec_l8Spread.mono_l k
 unfold spec_l8Spread.f
 repeat' first
   | (with_reducible exact ih0 _ _ _ _ _)
   | (with_reducible exact ih1 _ _ _ _ _ _)
   | (with_reducible exact spec_l8Inside.mono _ _ _ _ _)
   | (with_reducible exact LeO.refl _)
   | (with_reducible exact LeO.none _)
   | (with_reducible refine LeO.ite ?_ ?_)
   | (with_reducible refine LeO.bind ?_ (fun _ => ?_))
   | exact LeO.none _
   | refine LeO.ite ?_ ?_
   | refine LeO.bind ?_ (fun _ => ?_)
set_option maxHeartbeats 8000000 in
set_option maxRecDepth 100000 in
theorem spec_l8Spread.calls (k : Nat) (a0_0 : Int) (A0_1 : Option Addr) (c0_1 : Nat) (l0_1 : List (S119)) (A1 : Option Addr) (c1 : Nat) (l1 : List Int) (a2 : Int) (r : List Int) (w : World) (hr0_1 : Kd.C k119 w A0_1 l0_1.length l0_1) (hc0_1 : l0_1.length ≤ c0_1) (hr1 : Kd.C (Kd.int .i64) w A1 l1.length l1) (hc1 : l1.length ≤ c1) (h : spec_l8Spread.f k a0_0 l0_1 l1 a2 = some r) :
  Calls Try.prog 100 #[.agg #[.int .i64 a0_0, .slice A0_1 l0_1.length c0_1], .slice A1 l1.length c1, .int .i64 a2] w fun e w' => ∃ v0_ : Value, e = .returned (v0_) ∧ Kd.R (Kd.int .i64) 3 w' w.heap.size (fun _ => True) v0_ r ∧ Below w.heap.size w w' := by
 have hu31 := Try.underlying31
 have HR0_1 := Aside0.mk hr0_1
 have HC0_1 := Aside0.mk hc0_1
 clear hr0_1 hc0_1
 have HR1 := Aside0.mk hr1
 have HC1 := Aside0.mk hc1
 clear hr1 hc1
 have HB := aM (Below.refl w.heap.size w)
 have H : ((spec_l1Own.f l1).bind fun t656 => (spec_l8Spread.l0 k a2 t656 0 a0_0 l0_1)) = some r := h
 clear h
 replace H := Option.bind_eq_some_iff.mp H
 obtain ⟨t656, A40, H⟩ := H
 replace H : (spec_l8Spread.l0 k a2 t656 0 a0_0 l0_1) = some r := H
 have A4 := Aside0.mk A40
 clear A40
 have H' := Aside0.mk H
 clear H
 go_enter Try.func100, Try.ntmps100
 go_wp2_with (first | ((with_reducible refine gate_dst (N := 3) rfl ?_);refine box_event ?hg (N := 3) ?hd (cs := #[.int .i64 a0_0, .slice A0_1 l0_1.length c0_1]) (t := 31) ?hr ?_;(case hd => rfl);(case hg => rfl);(case hr => first | (go_simp;done) | (go_simp;rfl));intro gb655 hg w5 hbox hb;have n0_ := aM (below_step (by exact bB) hb);have n1_ := aM (hbox);have n2_ := aM (sW hg : w.heap.size ≤ gb655);have n3_ := aM (sW hg : w.heap.size ≤ gb655);clear HB;have HB := n0_;have BK655 := n1_;have GW655 := n2_;have GE655 := n3_;clear n0_ n1_ n2_ n3_;clear hb hbox hg) | ((with_reducible refine gate_callee (f := 78) rfl ?_);refine goesL_ (some 11) rfl rfl Try.func78 (by kernel_rfl) rfl #[.slice A1 l1.length c1] rfl mM ?_;(with_reducible refine (spec_l1Own.calls _ _ l1 t656 _ ?side1 ?side2 A4.out).mono ?_);(case side1 => exact cP (Kd.C_below HR1.out HB.out));(case side2 => exact HC1.out);rintro e w6 ⟨v657, rfl, ho0, hb⟩;refine ⟨_, rfl, ?_⟩;have n0_ := aM (Kd.R_lower ho0 (below_size (by exact bB)));have n1_ := aM (kB hb BK655.out);have n2_ := aM (below_step (by exact bB) hb);clear BK655;clear HB;have HO658 := n0_;have BK655 := n1_;have HB := n2_;clear n0_ n1_ n2_;(try clear hb);(try clear hb2);(try clear hk);(try clear hi);(try clear ho0)))
 go_loopg [7, 8] k (fun kq v7 v8 w' => ∃ (x7_1 : List Int) (x8_1 : Int), v8 = .int .i64 x8_1 ∧ Aside0 (spec_l8Spread.l0 kq a2 x7_1 x8_1 a0_0 l0_1 = some r) ∧ Aside0 (kq ≤ k) ∧ Aside0 (Kd.R (Kd.int .i64) 3 w' w.heap.size (fun _ => True) v7 x7_1) ∧ Aside0 (w'.heap[gb655]? = some (.cells #[.int .i64 a0_0, (.slice A0_1 l0_1.length c0_1)] 31 (0, 0))) ∧ Aside0 (Below w.heap.size w w'))
 case atStart => exact ⟨(t656), (0), (by first | rfl | (simp;done) | (simp [*];done)), H', ⟨Nat.le_refl _⟩, ⟨by exact rP HO658.out⟩, ⟨by exact kP BK655.out⟩, ⟨by exact bB⟩⟩
 case round =>
  clear H'
  try clear c1
  try clear p2
  obtain ⟨x7_1, x8_1, rfl, HA, HK1, HO_7, BK655, HB⟩ := hrel
  cases gk with
  | zero => exact absurd HA.out (by simp [spec_l8Spread.l0])
  | succ k1 =>
   have H := HA.out
   clear HA
   simp only [spec_l8Spread.l0] at H
   by_cases c7 : x8_1 < a0_0
   rotate_left
   ·rw [if_neg c7] at H
    have c7b0 : decide (x8_1 < a0_0) = false := decide_eq_false c7
    clear c7
    obtain rfl := Option.some.inj H
    have hcz21_0 := bC0 BK655.out
    have hcz21_1 := bC1 BK655.out
    have hfz21_0 := blk_frozen BK655.out 0
    have hfz21_1 := blk_frozen BK655.out 1
    go_wp2
    go_ret
    exact ⟨_, by first | rfl | (simp [errW_none, errW_some] <;> rfl) | (simp [*, errW_none, errW_some] <;> rfl), by exact rP HO_7.out, by exact bB⟩
   rw [if_pos c7] at H
   have c7b0 : decide (x8_1 < a0_0) = true := decide_eq_true c7
   clear c7
   have H' := Aside0.mk H
   clear H
   have hcz8_0 := bC0 BK655.out
   have hcz8_1 := bC1 BK655.out
   have hfz8_0 := blk_frozen BK655.out 0
   have hfz8_1 := blk_frozen BK655.out 1
   go_wp2
   go_loopg [7, 9] k1 (fun kq v7 v9 w' => ∃ (x7_2 : List Int) (x9_2 : Int), v9 = .int .i64 x9_2 ∧ Aside0 (spec_l8Spread.l1 kq a2 x7_2 x8_1 x9_2 a0_0 l0_1 = some r) ∧ Aside0 (kq ≤ k1) ∧ Aside0 (Kd.R (Kd.int .i64) 3 w' w.heap.size (fun _ => True) v7 x7_2) ∧ Aside0 (w'.heap[gb655]? = some (.cells #[.int .i64 a0_0, (.slice A0_1 l0_1.length c0_1)] 31 (0, 0))) ∧ Aside0 (Below w.heap.size w w'))
   case atStart => exact ⟨(x7_1), (0), (by first | rfl | (simp;done) | (simp [*];done)), H', ⟨Nat.le_refl _⟩, ⟨by exact rP HO_7.out⟩, ⟨by exact kP BK655.out⟩, ⟨by exact bB⟩⟩
   case round =>
    clear H'
    try clear c1
    try clear p2
    try clear c7
    try clear c7b0
    try clear hcz8_0
    try clear hcz8_1
    try clear hfz8_0
    try clear hfz8_1
    try clear p2
    obtain ⟨x7_2, x9_2, rfl, HA, HK2, HO_7, BK655, HB⟩ := hrel
    cases gk with
    | zero => exact absurd HA.out (by simp [spec_l8Spread.l1])
    | succ k2 =>
     have H := HA.out
     clear HA
     simp only [spec_l8Spread.l1] at H
     by_cases c9 : x9_2 < a0_0
     rotate_left
     ·rw [if_neg c9] at H
      have c9b0 : decide (x9_2 < a0_0) = false := decide_eq_false c9
      clear c9
      have H' := Aside0.mk H
      clear H
      have hcz20_0 := bC0 BK655.out
      have hcz20_1 := bC1 BK655.out
      have hfz20_0 := blk_frozen BK655.out 0
      have hfz20_1 := blk_frozen BK655.out 1
      go_wp2
      go_roundg k2
      case measure => have := HK1.out;have := HK2.out;omega
      case rel => exact ⟨(x7_2), (wrap64 (x8_1 + 1)), (by first | rfl | (simp;done) | (simp [*];done)), H', ⟨by have := HK1.out;have := HK2.out;omega⟩, ⟨by exact rP HO_7.out⟩, ⟨by exact kP BK655.out⟩, ⟨by exact bB⟩⟩
     rw [if_pos c9] at H
     have c9b0 : decide (x9_2 < a0_0) = true := decide_eq_true c9
     clear c9
     replace H := Option.bind_eq_some_iff.mp H
     obtain ⟨t659, A100, H⟩ := H
     replace H : (if t659 ≥ a2 then ((spec_l1Put.f x7_2 x9_2).bind fun t660 => (spec_l8Spread.l1 k2 a2 t660 x8_1 (wrap64 (x9_2 + 1)) a0_0 l0_1)) else (spec_l8Spread.l1 k2 a2 x7_2 x8_1 (wrap64 (x9_2 + 1)) a0_0 l0_1)) = some r := H
     have A10 := Aside0.mk A100
     clear A100
     by_cases c11 : t659 ≥ a2
     rotate_left
     ·rw [if_neg c11] at H
      have c11b0 : decide (a2 ≤ t659) = false := decide_eq_false c11
      clear c11
      have H' := Aside0.mk H
      clear H
      have hcz17_0 := bC0 BK655.out
      have hcz17_1 := bC1 BK655.out
      have hfz17_0 := blk_frozen BK655.out 0
      have hfz17_1 := blk_frozen BK655.out 1
      obtain ⟨Ao18, co18, eo18⟩ := Kd.R_slice HO_7.out
      subst eo18
      go_wp2_with (first | ((with_reducible refine gate_callee (f := 105) rfl ?_);refine goesL_ (some 27) rfl rfl Try.func105 (by kernel_rfl) rfl #[.agg #[.int .i64 a0_0, .slice A0_1 l0_1.length c0_1], .slice Ao18 x7_2.length co18, .int .i64 x9_2] rfl mM ?_;(with_reducible refine (spec_l8Inside.calls k2 a0_0 _ _ l0_1 _ _ x7_2 x9_2 t659 _ ?side1 ?side2 ?side3 ?side4 A10.out).mono ?_);(case side1 => exact cP (Kd.C_below HR0_1.out HB.out));(case side2 => exact HC0_1.out);(case side3 => exact cP (Kd.R_reads' HO_7.out).2.2);(case side4 => exact (Kd.R_reads' HO_7.out).2.1);rintro e w19 ⟨rfl, hb⟩;refine ⟨_, rfl, ?_⟩;have n0_ := aM (Kd.R_below (by exact rP HO_7.out) hb);have n1_ := aM (kB hb BK655.out);have n2_ := aM (below_step (by exact bB) hb);clear HO_7;clear BK655;clear HB;have HO_7 := n0_;have BK655 := n1_;have HB := n2_;clear n0_ n1_ n2_;(try clear hb);(try clear hb2);(try clear hk);(try clear hi)))
      go_roundg k2
      case measure => have := HK1.out;have := HK2.out;omega
      case rel => exact ⟨(x7_2), (wrap64 (x9_2 + 1)), (by first | rfl | (simp;done) | (simp [*];done)), H', ⟨by have := HK1.out;have := HK2.out;omega⟩, ⟨by exact rP HO_7.out⟩, ⟨by exact kP BK655.out⟩, ⟨by exact bB⟩⟩
     rw [if_pos c11] at H
     have c11b0 : decide (a2 ≤ t659) = true := decide_eq_true c11
     clear c11
     replace H := Option.bind_eq_some_iff.mp H
     obtain ⟨t660, A120, H⟩ := H
     replace H : (spec_l8Spread.l1 k2 a2 t660 x8_1 (wrap64 (x9_2 + 1)) a0_0 l0_1) = some r := H
     have A12 := Aside0.mk A120
     clear A120
     have H' := Aside0.mk H
     clear H
     have hcz13_0 := bC0 BK655.out
     have hcz13_1 := bC1 BK655.out
     have hfz13_0 := blk_frozen BK655.out 0
     have hfz13_1 := blk_frozen BK655.out 1
     obtain ⟨Ao14, co14, eo14⟩ := Kd.R_slice HO_7.out
     subst eo14
     go_wp2_with (first | ((with_reducible refine gate_callee (f := 105) rfl ?_);refine goesL_ (some 27) rfl rfl Try.func105 (by kernel_rfl) rfl #[.agg #[.int .i64 a0_0, .slice A0_1 l0_1.length c0_1], .slice Ao14 x7_2.length co14, .int .i64 x9_2] rfl mM ?_;(with_reducible refine (spec_l8Inside.calls k2 a0_0 _ _ l0_1 _ _ x7_2 x9_2 t659 _ ?side1 ?side2 ?side3 ?side4 A10.out).mono ?_);(case side1 => exact cP (Kd.C_below HR0_1.out HB.out));(case side2 => exact HC0_1.out);(case side3 => exact cP (Kd.R_reads' HO_7.out).2.2);(case side4 => exact (Kd.R_reads' HO_7.out).2.1);rintro e w15 ⟨rfl, hb⟩;refine ⟨_, rfl, ?_⟩;have n0_ := aM (Kd.R_below (by exact rP HO_7.out) hb);have n1_ := aM (kB hb BK655.out);have n2_ := aM (below_step (by exact bB) hb);clear HO_7;clear BK655;clear HB;have HO_7 := n0_;have BK655 := n1_;have HB := n2_;clear n0_ n1_ n2_;(try clear hb);(try clear hb2);(try clear hk);(try clear hi)) | ((with_reducible refine gate_callee (f := 144) rfl ?_);refine goesL_ (some 32) rfl rfl Try.func144 (by kernel_rfl) rfl #[.slice Ao14 x7_2.length co14, .int .i64 x9_2] rfl mM ?_;(with_reducible refine (spec_l1Put.calls (fun k_ => some k_ = (.slice Ao14 x7_2.length co14 : Value).ownBlock) (.slice Ao14 x7_2.length co14) x7_2 x9_2 t660 w _ ?side1 ?side2 A12.out).mono ?_);(case side1 => exact bB);(case side2 => exact Kd.R_tight rfl HO_7.out);rintro e w16 ⟨v661, rfl, ho0, hb, hkp⟩;refine ⟨_, rfl, ?_⟩;have n0_ := aM (blk_kept (by exact kP BK655.out) hkp (fun hs_ => (fun e_ => (Kd.R_ne HO_7.out BK655.out (by decide)) e_) hs_));have n1_ := aM (Kd.R_mono (ok' := fun k_ => True) ho0 (fun k_ hk_ => trivial));have n2_ := aM (hb);clear BK655;clear HB;clear HO_7;have BK655 := n0_;have HO662 := n1_;have HB := n2_;clear n0_ n1_ n2_;(try clear hb);(try clear hkp);(try clear ho0)))
     go_roundg k2
     case measure => have := HK1.out;have := HK2.out;omega
     case rel => exact ⟨(t660), (wrap64 (x9_2 + 1)), (by first | rfl | (simp;done) | (simp [*];done)), H', ⟨by have := HK1.out;have := HK2.out;omega⟩, ⟨by exact rP HO662.out⟩, ⟨by exact kP BK655.out⟩, ⟨by exact bB⟩⟩


/-! ### spec_SpreadOf: function 49 -/
def spec_SpreadOf.f (k : Nat) (a0_0 : Int) (l0_1 : List (S119)) (l1 : List Int) (a2 : Int) : Option (List Int × Bool) := (spec_l2Good.f a0_0 l0_1).bind fun t664 => (if t664 = true then ((spec_l2Set.f k a0_0 l0_1 l1).bind fun t665 => (if t665 = true then ((spec_l8Number.f a2).bind fun t666 => (if t666 = true then ((spec_l8Spread.f k a0_0 l0_1 l1 a2).bind fun t667 => (some (t667, true))) else (some ((([] : List Int)), false)))) else (some ((([] : List Int)), false)))) else (some ((([] : List Int)), false)))
theorem spec_SpreadOf.mono : ∀ a0 a1 a2 a3 k, LeO (spec_SpreadOf.f k a0 a1 a2 a3) (spec_SpreadOf.f (k + 1) a0 a1 a2 a3) := by
 intro a0 a1 a2 a3 k
 unfold spec_SpreadOf.f
 repeat' first
   | (with_reducible exact spec_l2Set.mono _ _ _ _)
   | (with_reducible exact spec_l8Spread.mono _ _ _ _ _)
   | (with_reducible exact LeO.refl _)
   | (with_reducible exact LeO.none _)
   | (with_reducible refine LeO.ite ?_ ?_)
   | (with_reducible refine LeO.bind ?_ (fun _ => ?_))
   | exact LeO.none _
   | refine LeO.ite ?_ ?_
   | refine LeO.bind ?_ (fun _ => ?_)
set_option maxHeartbeats 8000000 in
set_option maxRecDepth 100000 in
theorem spec_SpreadOf.calls (k : Nat) (a0_0 : Int) (A0_1 : Option Addr) (c0_1 : Nat) (l0_1 : List (S119)) (A1 : Option Addr) (c1 : Nat) (l1 : List Int) (a2 : Int) (r1 : List Int) (r2 : Bool) (w : World) (hr0_1 : Kd.C k119 w A0_1 l0_1.length l0_1) (hc0_1 : l0_1.length ≤ c0_1) (hr1 : Kd.C (Kd.int .i64) w A1 l1.length l1) (hc1 : l1.length ≤ c1) (h : spec_SpreadOf.f k a0_0 l0_1 l1 a2 = some (r1, r2)) :
  Calls Try.prog 49 #[.agg #[.int .i64 a0_0, .slice A0_1 l0_1.length c0_1], .slice A1 l1.length c1, .int .i64 a2] w fun e w' => ∃ v0_ : Value, e = .returned (.tuple #[v0_, .bool r2]) ∧ Kd.R (Kd.int .i64) 3 w' w.heap.size (fun _ => True) v0_ r1 ∧ Below w.heap.size w w' := by
 have hu31 := Try.underlying31
 have HR0_1 := Aside0.mk hr0_1
 have HC0_1 := Aside0.mk hc0_1
 clear hr0_1 hc0_1
 have HR1 := Aside0.mk hr1
 have HC1 := Aside0.mk hc1
 clear hr1 hc1
 have HB := aM (Below.refl w.heap.size w)
 have H : ((spec_l2Good.f a0_0 l0_1).bind fun t664 => (if t664 = true then ((spec_l2Set.f k a0_0 l0_1 l1).bind fun t665 => (if t665 = true then ((spec_l8Number.f a2).bind fun t666 => (if t666 = true then ((spec_l8Spread.f k a0_0 l0_1 l1 a2).bind fun t667 => (some (t667, true))) else (some ((([] : List Int)), false)))) else (some ((([] : List Int)), false)))) else (some ((([] : List Int)), false)))) = some (r1, r2) := h
 clear h
 replace H := Option.bind_eq_some_iff.mp H
 obtain ⟨t664, A40, H⟩ := H
 replace H : (if t664 = true then ((spec_l2Set.f k a0_0 l0_1 l1).bind fun t665 => (if t665 = true then ((spec_l8Number.f a2).bind fun t666 => (if t666 = true then ((spec_l8Spread.f k a0_0 l0_1 l1 a2).bind fun t667 => (some (t667, true))) else (some ((([] : List Int)), false)))) else (some ((([] : List Int)), false)))) else (some ((([] : List Int)), false))) = some (r1, r2) := H
 have A4 := Aside0.mk A40
 clear A40
 by_cases c5 : t664 = true
 rotate_left
 ·replace c5 := Bool.eq_false_iff.mpr c5
  subst c5
  have H1 : (some ((([] : List Int)), false)) = some (r1, r2) := by rw [if_neg (show ¬ (false = true) by decide)] at H;exact H
  clear H
  have H := H1
  clear H1
  obtain ⟨y676, hy676⟩ : ∃ y_ : List Int, y_ = (([] : List Int)) := ⟨_, rfl⟩
  replace H : (some (y676, false)) = some (r1, r2) := by first | (rw [hy676];with_reducible exact H) | (have H2_ := (Option.bind_some _ _).symm.trans H;rw [hy676];with_reducible exact H2_) | (have H2_ := (Option.bind_some _ _).symm.trans H;with_reducible exact H2_) | with_reducible exact H | (rw [hy676];exact H) | exact H
  have Ny676 := Aside0.mk hy676
  clear hy676
  simp only [Option.some.injEq, Prod.mk.injEq] at H
  obtain ⟨rfl, rfl⟩ := H
  go_enter Try.func49, Try.ntmps49
  go_wp2_with (first | ((with_reducible refine gate_dst (N := 3) rfl ?_);refine box_event ?hg (N := 3) ?hd (cs := #[.int .i64 a0_0, .slice A0_1 l0_1.length c0_1]) (t := 31) ?hr ?_;(case hd => rfl);(case hg => rfl);(case hr => first | (go_simp;done) | (go_simp;rfl));intro gb663 hg w32 hbox hb;have n0_ := aM (below_step (by exact bB) hb);have n1_ := aM (hbox);have n2_ := aM (sW hg : w.heap.size ≤ gb663);have n3_ := aM (sW hg : w.heap.size ≤ gb663);clear HB;have HB := n0_;have BK663 := n1_;have GW663 := n2_;have GE663 := n3_;clear n0_ n1_ n2_ n3_;clear hb hbox hg;have hcz33_0 := bC0 BK663.out;have hcz33_1 := bC1 BK663.out;have hfz33_0 := blk_frozen BK663.out 0;have hfz33_1 := blk_frozen BK663.out 1) | ((with_reducible refine gate_callee (f := 83) rfl ?_);refine goesL_ (some 9) rfl rfl Try.func83 (by kernel_rfl) rfl #[.agg #[.int .i64 a0_0, .slice A0_1 l0_1.length c0_1]] rfl mM ?_;(with_reducible refine (spec_l2Good.calls a0_0 _ _ l0_1 false _ ?side1 ?side2 A4.out).mono ?_);(case side1 => exact cP (Kd.C_below HR0_1.out HB.out));(case side2 => exact HC0_1.out);rintro e w34 ⟨rfl, hb⟩;refine ⟨_, rfl, ?_⟩;have n0_ := aM (kB hb BK663.out);have n1_ := aM (below_step (by exact bB) hb);clear BK663;clear HB;have BK663 := n0_;have HB := n1_;clear n0_ n1_;(try clear hb);(try clear hb2);(try clear hk);(try clear hi)) | ((with_reducible refine gate_dst (N := 22) rfl ?_);refine Kd.R_lit (Kd.int .i64) _ 3 ?hg (N := 22) ?hd (xs := ([] : List Int)) (inner := []) (ok := fun _ => True) (okp := fun _ => True) ?hr ?hp (fun _ hk => hk) trivial (Below.refl _ _) (Nat.le_refl _) (by simp) ?_;(case hd => rfl);(case hg => rfl);(case hr => first | (go_simp;done) | (go_simp;rfl));(case hp => exact (Reps.none _ _));intro v677 w35 ho36 hb hg_ hnew_;clear hg_ hnew_;(first | rw [← Ny676.out] at ho36 | (simp only [Int.reduceToNat] at ho36;rw [← Ny676.out] at ho36));have n0_ := aM (Kd.R_lower ho36 (below_size (by exact bB)));have n1_ := aM (kB hb BK663.out);have n2_ := aM (below_step (by exact bB) hb);clear BK663;clear HB;have HO678 := n0_;have BK663 := n1_;have HB := n2_;clear n0_ n1_ n2_;clear hb ho36))
  go_ret2
  exact ⟨_, by first | rfl | (simp [errW_none, errW_some] <;> rfl) | (simp [*, errW_none, errW_some] <;> rfl), by exact rP HO678.out, by exact bB⟩
 subst c5
 have H1 : ((spec_l2Set.f k a0_0 l0_1 l1).bind fun t665 => (if t665 = true then ((spec_l8Number.f a2).bind fun t666 => (if t666 = true then ((spec_l8Spread.f k a0_0 l0_1 l1 a2).bind fun t667 => (some (t667, true))) else (some ((([] : List Int)), false)))) else (some ((([] : List Int)), false)))) = some (r1, r2) := by rw [if_pos rfl] at H;exact H
 clear H
 have H := H1
 clear H1
 replace H := Option.bind_eq_some_iff.mp H
 obtain ⟨t665, A60, H⟩ := H
 replace H : (if t665 = true then ((spec_l8Number.f a2).bind fun t666 => (if t666 = true then ((spec_l8Spread.f k a0_0 l0_1 l1 a2).bind fun t667 => (some (t667, true))) else (some ((([] : List Int)), false)))) else (some ((([] : List Int)), false))) = some (r1, r2) := H
 have A6 := Aside0.mk A60
 clear A60
 by_cases c7 : t665 = true
 rotate_left
 ·replace c7 := Bool.eq_false_iff.mpr c7
  subst c7
  have H1 : (some ((([] : List Int)), false)) = some (r1, r2) := by rw [if_neg (show ¬ (false = true) by decide)] at H;exact H
  clear H
  have H := H1
  clear H1
  obtain ⟨y673, hy673⟩ : ∃ y_ : List Int, y_ = (([] : List Int)) := ⟨_, rfl⟩
  replace H : (some (y673, false)) = some (r1, r2) := by first | (rw [hy673];with_reducible exact H) | (have H2_ := (Option.bind_some _ _).symm.trans H;rw [hy673];with_reducible exact H2_) | (have H2_ := (Option.bind_some _ _).symm.trans H;with_reducible exact H2_) | with_reducible exact H | (rw [hy673];exact H) | exact H
  have Ny673 := Aside0.mk hy673
  clear hy673
  simp only [Option.some.injEq, Prod.mk.injEq] at H
  obtain ⟨rfl, rfl⟩ := H
  go_enter Try.func49, Try.ntmps49
  go_wp2_with (first | ((with_reducible refine gate_dst (N := 3) rfl ?_);refine box_event ?hg (N := 3) ?hd (cs := #[.int .i64 a0_0, .slice A0_1 l0_1.length c0_1]) (t := 31) ?hr ?_;(case hd => rfl);(case hg => rfl);(case hr => first | (go_simp;done) | (go_simp;rfl));intro gb663 hg w25 hbox hb;have n0_ := aM (below_step (by exact bB) hb);have n1_ := aM (hbox);have n2_ := aM (sW hg : w.heap.size ≤ gb663);have n3_ := aM (sW hg : w.heap.size ≤ gb663);clear HB;have HB := n0_;have BK663 := n1_;have GW663 := n2_;have GE663 := n3_;clear n0_ n1_ n2_ n3_;clear hb hbox hg;have hcz26_0 := bC0 BK663.out;have hcz26_1 := bC1 BK663.out;have hfz26_0 := blk_frozen BK663.out 0;have hfz26_1 := blk_frozen BK663.out 1) | ((with_reducible refine gate_callee (f := 83) rfl ?_);refine goesL_ (some 9) rfl rfl Try.func83 (by kernel_rfl) rfl #[.agg #[.int .i64 a0_0, .slice A0_1 l0_1.length c0_1]] rfl mM ?_;(with_reducible refine (spec_l2Good.calls a0_0 _ _ l0_1 true _ ?side1 ?side2 A4.out).mono ?_);(case side1 => exact cP (Kd.C_below HR0_1.out HB.out));(case side2 => exact HC0_1.out);rintro e w27 ⟨rfl, hb⟩;refine ⟨_, rfl, ?_⟩;have n0_ := aM (kB hb BK663.out);have n1_ := aM (below_step (by exact bB) hb);clear BK663;clear HB;have BK663 := n0_;have HB := n1_;clear n0_ n1_;(try clear hb);(try clear hb2);(try clear hk);(try clear hi);have hcz28_0 := bC0 BK663.out;have hcz28_1 := bC1 BK663.out;have hfz28_0 := blk_frozen BK663.out 0;have hfz28_1 := blk_frozen BK663.out 1) | (go_at_call 98;(with_reducible refine (spec_l2Set.calls k a0_0 _ _ l0_1 _ _ l1 false _ ?side1 ?side2 ?side3 ?side4 A6.out).mono ?_);(case side1 => exact cP (Kd.C_below HR0_1.out HB.out));(case side2 => exact HC0_1.out);(case side3 => exact cP (Kd.C_below HR1.out HB.out));(case side4 => exact HC1.out);rintro e w29 ⟨rfl, hb⟩;have n0_ := aM (kB hb BK663.out);have n1_ := aM (below_step (by exact bB) hb);clear BK663;clear HB;have BK663 := n0_;have HB := n1_;clear n0_ n1_;(try clear hb);(try clear hb2);(try clear hk);(try clear hi)) | ((with_reducible refine gate_dst (N := 22) rfl ?_);refine Kd.R_lit (Kd.int .i64) _ 3 ?hg (N := 22) ?hd (xs := ([] : List Int)) (inner := []) (ok := fun _ => True) (okp := fun _ => True) ?hr ?hp (fun _ hk => hk) trivial (Below.refl _ _) (Nat.le_refl _) (by simp) ?_;(case hd => rfl);(case hg => rfl);(case hr => first | (go_simp;done) | (go_simp;rfl));(case hp => exact (Reps.none _ _));intro v674 w30 ho31 hb hg_ hnew_;clear hg_ hnew_;(first | rw [← Ny673.out] at ho31 | (simp only [Int.reduceToNat] at ho31;rw [← Ny673.out] at ho31));have n0_ := aM (Kd.R_lower ho31 (below_size (by exact bB)));have n1_ := aM (kB hb BK663.out);have n2_ := aM (below_step (by exact bB) hb);clear BK663;clear HB;have HO675 := n0_;have BK663 := n1_;have HB := n2_;clear n0_ n1_ n2_;clear hb ho31))
  go_ret2
  exact ⟨_, by first | rfl | (simp [errW_none, errW_some] <;> rfl) | (simp [*, errW_none, errW_some] <;> rfl), by exact rP HO675.out, by exact bB⟩
 subst c7
 have H1 : ((spec_l8Number.f a2).bind fun t666 => (if t666 = true then ((spec_l8Spread.f k a0_0 l0_1 l1 a2).bind fun t667 => (some (t667, true))) else (some ((([] : List Int)), false)))) = some (r1, r2) := by rw [if_pos rfl] at H;exact H
 clear H
 have H := H1
 clear H1
 replace H := Option.bind_eq_some_iff.mp H
 obtain ⟨t666, A80, H⟩ := H
 replace H : (if t666 = true then ((spec_l8Spread.f k a0_0 l0_1 l1 a2).bind fun t667 => (some (t667, true))) else (some ((([] : List Int)), false))) = some (r1, r2) := H
 have A8 := Aside0.mk A80
 clear A80
 by_cases c9 : t666 = true
 rotate_left
 ·replace c9 := Bool.eq_false_iff.mpr c9
  subst c9
  have H1 : (some ((([] : List Int)), false)) = some (r1, r2) := by rw [if_neg (show ¬ (false = true) by decide)] at H;exact H
  clear H
  have H := H1
  clear H1
  obtain ⟨y670, hy670⟩ : ∃ y_ : List Int, y_ = (([] : List Int)) := ⟨_, rfl⟩
  replace H : (some (y670, false)) = some (r1, r2) := by first | (rw [hy670];with_reducible exact H) | (have H2_ := (Option.bind_some _ _).symm.trans H;rw [hy670];with_reducible exact H2_) | (have H2_ := (Option.bind_some _ _).symm.trans H;with_reducible exact H2_) | with_reducible exact H | (rw [hy670];exact H) | exact H
  have Ny670 := Aside0.mk hy670
  clear hy670
  simp only [Option.some.injEq, Prod.mk.injEq] at H
  obtain ⟨rfl, rfl⟩ := H
  go_enter Try.func49, Try.ntmps49
  go_wp2_with (first | ((with_reducible refine gate_dst (N := 3) rfl ?_);refine box_event ?hg (N := 3) ?hd (cs := #[.int .i64 a0_0, .slice A0_1 l0_1.length c0_1]) (t := 31) ?hr ?_;(case hd => rfl);(case hg => rfl);(case hr => first | (go_simp;done) | (go_simp;rfl));intro gb663 hg w18 hbox hb;have n0_ := aM (below_step (by exact bB) hb);have n1_ := aM (hbox);have n2_ := aM (sW hg : w.heap.size ≤ gb663);have n3_ := aM (sW hg : w.heap.size ≤ gb663);clear HB;have HB := n0_;have BK663 := n1_;have GW663 := n2_;have GE663 := n3_;clear n0_ n1_ n2_ n3_;clear hb hbox hg;have hcz19_0 := bC0 BK663.out;have hcz19_1 := bC1 BK663.out;have hfz19_0 := blk_frozen BK663.out 0;have hfz19_1 := blk_frozen BK663.out 1) | ((with_reducible refine gate_callee (f := 83) rfl ?_);refine goesL_ (some 9) rfl rfl Try.func83 (by kernel_rfl) rfl #[.agg #[.int .i64 a0_0, .slice A0_1 l0_1.length c0_1]] rfl mM ?_;(with_reducible refine (spec_l2Good.calls a0_0 _ _ l0_1 true _ ?side1 ?side2 A4.out).mono ?_);(case side1 => exact cP (Kd.C_below HR0_1.out HB.out));(case side2 => exact HC0_1.out);rintro e w20 ⟨rfl, hb⟩;refine ⟨_, rfl, ?_⟩;have n0_ := aM (kB hb BK663.out);have n1_ := aM (below_step (by exact bB) hb);clear BK663;clear HB;have BK663 := n0_;have HB := n1_;clear n0_ n1_;(try clear hb);(try clear hb2);(try clear hk);(try clear hi);have hcz21_0 := bC0 BK663.out;have hcz21_1 := bC1 BK663.out;have hfz21_0 := blk_frozen BK663.out 0;have hfz21_1 := blk_frozen BK663.out 1) | (go_at_call 98;(with_reducible refine (spec_l2Set.calls k a0_0 _ _ l0_1 _ _ l1 true _ ?side1 ?side2 ?side3 ?side4 A6.out).mono ?_);(case side1 => exact cP (Kd.C_below HR0_1.out HB.out));(case side2 => exact HC0_1.out);(case side3 => exact cP (Kd.C_below HR1.out HB.out));(case side4 => exact HC1.out);rintro e w22 ⟨rfl, hb⟩;have n0_ := aM (kB hb BK663.out);have n1_ := aM (below_step (by exact bB) hb);clear BK663;clear HB;have BK663 := n0_;have HB := n1_;clear n0_ n1_;(try clear hb);(try clear hb2);(try clear hk);(try clear hi)) | (go_at_call 99;(with_reducible refine (spec_l8Number.calls a2 false _ A8.out).mono ?_);rintro e w' ⟨rfl, ⟨nd, rfl⟩⟩) | ((with_reducible refine gate_dst (N := 22) rfl ?_);refine Kd.R_lit (Kd.int .i64) _ 3 ?hg (N := 22) ?hd (xs := ([] : List Int)) (inner := []) (ok := fun _ => True) (okp := fun _ => True) ?hr ?hp (fun _ hk => hk) trivial (Below.refl _ _) (Nat.le_refl _) (by simp) ?_;(case hd => rfl);(case hg => rfl);(case hr => first | (go_simp;done) | (go_simp;rfl));(case hp => exact (Reps.none _ _));intro v671 w23 ho24 hb hg_ hnew_;clear hg_ hnew_;(first | rw [← Ny670.out] at ho24 | (simp only [Int.reduceToNat] at ho24;rw [← Ny670.out] at ho24));have n0_ := aM (Kd.R_lower ho24 (below_size (by exact bB)));have n1_ := aM (kB hb BK663.out);have n2_ := aM (below_step (by exact bB) hb);clear BK663;clear HB;have HO672 := n0_;have BK663 := n1_;have HB := n2_;clear n0_ n1_ n2_;clear hb ho24))
  go_ret2
  exact ⟨_, by first | rfl | (simp [errW_none, errW_some] <;> rfl) | (simp [*, errW_none, errW_some] <;> rfl), by exact rP HO672.out, by exact bB⟩
 subst c9
 have H1 : ((spec_l8Spread.f k a0_0 l0_1 l1 a2).bind fun t667 => (some (t667, true))) = some (r1, r2) := by rw [if_pos rfl] at H;exact H
 clear H
 have H := H1
 clear H1
 replace H := Option.bind_eq_some_iff.mp H
 obtain ⟨t667, A100, H⟩ := H
 replace H : (some (t667, true)) = some (r1, r2) := H
 have A10 := Aside0.mk A100
 clear A100
 simp only [Option.some.injEq, Prod.mk.injEq] at H
 obtain ⟨rfl, rfl⟩ := H
 go_enter Try.func49, Try.ntmps49
 go_wp2_with (first | ((with_reducible refine gate_dst (N := 3) rfl ?_);refine box_event ?hg (N := 3) ?hd (cs := #[.int .i64 a0_0, .slice A0_1 l0_1.length c0_1]) (t := 31) ?hr ?_;(case hd => rfl);(case hg => rfl);(case hr => first | (go_simp;done) | (go_simp;rfl));intro gb663 hg w11 hbox hb;have n0_ := aM (below_step (by exact bB) hb);have n1_ := aM (hbox);have n2_ := aM (sW hg : w.heap.size ≤ gb663);have n3_ := aM (sW hg : w.heap.size ≤ gb663);clear HB;have HB := n0_;have BK663 := n1_;have GW663 := n2_;have GE663 := n3_;clear n0_ n1_ n2_ n3_;clear hb hbox hg;have hcz12_0 := bC0 BK663.out;have hcz12_1 := bC1 BK663.out;have hfz12_0 := blk_frozen BK663.out 0;have hfz12_1 := blk_frozen BK663.out 1) | ((with_reducible refine gate_callee (f := 83) rfl ?_);refine goesL_ (some 9) rfl rfl Try.func83 (by kernel_rfl) rfl #[.agg #[.int .i64 a0_0, .slice A0_1 l0_1.length c0_1]] rfl mM ?_;(with_reducible refine (spec_l2Good.calls a0_0 _ _ l0_1 true _ ?side1 ?side2 A4.out).mono ?_);(case side1 => exact cP (Kd.C_below HR0_1.out HB.out));(case side2 => exact HC0_1.out);rintro e w13 ⟨rfl, hb⟩;refine ⟨_, rfl, ?_⟩;have n0_ := aM (kB hb BK663.out);have n1_ := aM (below_step (by exact bB) hb);clear BK663;clear HB;have BK663 := n0_;have HB := n1_;clear n0_ n1_;(try clear hb);(try clear hb2);(try clear hk);(try clear hi);have hcz14_0 := bC0 BK663.out;have hcz14_1 := bC1 BK663.out;have hfz14_0 := blk_frozen BK663.out 0;have hfz14_1 := blk_frozen BK663.out 1) | (go_at_call 98;(with_reducible refine (spec_l2Set.calls k a0_0 _ _ l0_1 _ _ l1 true _ ?side1 ?side2 ?side3 ?side4 A6.out).mono ?_);(case side1 => exact cP (Kd.C_below HR0_1.out HB.out));(case side2 => exact HC0_1.out);(case side3 => exact cP (Kd.C_below HR1.out HB.out));(case side4 => exact HC1.out);rintro e w15 ⟨rfl, hb⟩;have n0_ := aM (kB hb BK663.out);have n1_ := aM (below_step (by exact bB) hb);clear BK663;clear HB;have BK663 := n0_;have HB := n1_;clear n0_ n1_;(try clear hb);(try clear hb2);(try clear hk);(try clear hi)) | (go_at_call 99;(with_reducible refine (spec_l8Number.calls a2 true _ A8.out).mono ?_);rintro e w' ⟨rfl, ⟨nd, rfl⟩⟩;have hcz16_0 := bC0 BK663.out;have hcz16_1 := bC1 BK663.out;have hfz16_0 := blk_frozen BK663.out 0;have hfz16_1 := blk_frozen BK663.out 1) | ((with_reducible refine gate_callee (f := 100) rfl ?_);refine goesL_ (some 26) rfl rfl Try.func100 (by kernel_rfl) rfl #[.agg #[.int .i64 a0_0, .slice A0_1 l0_1.length c0_1], .slice A1 l1.length c1, .int .i64 a2] rfl mM ?_;(with_reducible refine (spec_l8Spread.calls k a0_0 _ _ l0_1 _ _ l1 a2 t667 _ ?side1 ?side2 ?side3 ?side4 A10.out).mono ?_);(case side1 => exact cP (Kd.C_below HR0_1.out (by repeat (first | (with_reducible first | exact HB.out | apply below_alloc | apply pw_below_drewN | apply below_drew1 | refine below_set ?_ GE663.out) | exact HB.out))));(case side2 => exact HC0_1.out);(case side3 => exact cP (Kd.C_below HR1.out (by repeat (first | (with_reducible first | exact HB.out | apply below_alloc | apply pw_below_drewN | apply below_drew1 | refine below_set ?_ GE663.out) | exact HB.out))));(case side4 => exact HC1.out);rintro e w17 ⟨v668, rfl, ho0, hb⟩;refine ⟨_, rfl, ?_⟩;have n0_ := aM (Kd.R_lower ho0 (below_size (by exact bB)));have n1_ := aM (kB hb BK663.out);have n2_ := aM (below_step (by exact bB) hb);clear BK663;clear HB;have HO669 := n0_;have BK663 := n1_;have HB := n2_;clear n0_ n1_ n2_;(try clear hb);(try clear hb2);(try clear hk);(try clear hi);(try clear ho0)))
 go_ret2
 exact ⟨_, by first | rfl | (simp [errW_none, errW_some] <;> rfl) | (simp [*, errW_none, errW_some] <;> rfl), by exact rP HO669.out, by exact bB⟩


/-! ### laws_rInts: function 50 -/
def laws_rInts.l0 : Nat → List Int → List Int → Int → Option (Bool)
 | 0, _, _, _ => none
 | k + 1, x0, x1, x5 => if x5 < (x0.length : Int) then (if 0 ≤ x5 then (if x5 < (x1.length : Int) then (if (rd x0 x5) = (rd x1 x5) then (laws_rInts.l0 k x0 x1 (wrap64 (x5 + 1))) else (some false)) else (none)) else (none)) else (some true)
def laws_rInts.f (k : Nat) (l0 : List Int) (l1 : List Int) : Option (Bool) := if (l0.length : Int) = (l1.length : Int) then (laws_rInts.l0 k l0 l1 0) else (some false)
theorem laws_rInts.mono_l : ∀ k, (∀ y0 y1 y2, LeO (laws_rInts.l0 k y0 y1 y2) (laws_rInts.l0 (k + 1) y0 y1 y2))
 | 0 => fun _ _ _ r h => by simp [laws_rInts.l0] at h
 | k + 1 => by
  have ih0 := laws_rInts.mono_l k
  ·intro y0 y1 y2
   unfold laws_rInts.l0
   repeat' first
   | (with_reducible exact ih0 _ _ _)
   | (with_reducible exact LeO.refl _)
   | (with_reducible exact LeO.none _)
   | (with_reducible refine LeO.ite ?_ ?_)
   | (with_reducible refine LeO.bind ?_ (fun _ => ?_))
   | exact LeO.none _
   | refine LeO.ite ?_ ?_
   | refine LeO.bind ?_ (fun _ => ?_)
theorem laws_rInts.mono : ∀ a0 a1 k, LeO (laws_rInts.f k a0 a1) (laws_rInts.f (k + 1) a0 a1) := by
 intro a0 a1 k
 have ih0 := laws_rInts.mono_l k
 unfold laws_rInts.f
 repeat' first
   | (with_reducible exact ih0 _ _ _)
   | (with_reducible exact LeO.refl _)
   | (with_reducible exact LeO.none _)
   | (with_reducible refine LeO.ite ?_ ?_)
   | (with_reducible refine LeO.bind ?_ (fun _ => ?_))
   | exact LeO.none _
   | refine LeO.ite ?_ ?_
   | refine LeO.bind ?_ (fun _ => ?_)
set_option maxHeartbeats 8000000 in
set_option maxRecDepth 100000 in
theorem laws_rInts.calls (k : Nat) (A0 : Option Addr) (c0 : Nat) (l0 : List Int) (A1 : Option Addr) (c1 : Nat) (l1 : List Int) (r : Bool) (w : World) (hr0 : Kd.C (Kd.int .i64) w A0 l0.length l0) (hc0 : l0.length ≤ c0) (hr1 : Kd.C (Kd.int .i64) w A1 l1.length l1) (hc1 : l1.length ≤ c1) (h : laws_rInts.f k l0 l1 = some r) :
  Calls Try.prog 50 #[.slice A0 l0.length c0, .slice A1 l1.length c1] w fun e w' => e = .returned (.bool r) ∧ Drawn0 w w' := by
 have HR0 := Aside0.mk hr0
 have HC0 := Aside0.mk hc0
 clear hr0 hc0
 have HR1 := Aside0.mk hr1
 have HC1 := Aside0.mk hc1
 clear hr1 hc1
 have H : (if (l0.length : Int) = (l1.length : Int) then (laws_rInts.l0 k l0 l1 0) else (some false)) = some r := h
 clear h
 by_cases c3 : (l0.length : Int) = (l1.length : Int)
 rotate_left
 ·rw [if_neg c3] at H
  have c3b0 : ((l0.length : Int) == (l1.length : Int)) = false := beq_eq_false_iff_ne.mpr c3
  have c3b1 : ((l0.length : Int) != (l1.length : Int)) = true := bne_iff_ne.mpr c3
  have c3b2 : (l0.length == l1.length) = false := by first | simpa using c3 | (simp at c3 ⊢;omega)
  obtain rfl := Option.some.inj H
  go_enter Try.func50, Try.ntmps50
  go_wp2
  repeat (go_quiet (fail);try go_wp2)
  go_ret
  exact ⟨by first | rfl | (simp;done) | (simp [*];done), by repeat (first | exact Drawn0.refl _ | apply Drawn0.step)⟩
 rw [if_pos c3] at H
 have c3b0 : ((l0.length : Int) == (l1.length : Int)) = true := beq_iff_eq.mpr c3
 have c3b1 : ((l0.length : Int) != (l1.length : Int)) = false := bne_eq_false_iff_eq.mpr c3
 have c3b2 : (l0.length == l1.length) = true := by first | simpa using c3 | (simp at c3 ⊢;omega)
 clear c3
 have H' := Aside0.mk H
 clear H
 go_enter Try.func50, Try.ntmps50
 go_wp2
 repeat (go_quiet (fail);try go_wp2)
 go_loopg [5] k (fun kq v5 w' => ∃ (x5_1 : Int), v5 = .int .i64 x5_1 ∧ Aside0 (laws_rInts.l0 kq l0 l1 x5_1 = some r) ∧ Aside0 (kq ≤ k) ∧ Drawn0 w w')
 case atStart => exact ⟨(0), (by first | rfl | (simp;done) | (simp [*];done)), H', ⟨Nat.le_refl _⟩, by repeat (first | exact Drawn0.refl _ | apply Drawn0.step)⟩
 case round =>
  clear H'
  try clear c1
  try clear p2
  try clear c3
  try clear c3b0
  try clear c3b1
  try clear c3b2
  obtain ⟨x5_1, rfl, HA, HK1, ⟨m1, rfl⟩⟩ := hrel
  cases gk with
  | zero => exact absurd HA.out (by simp [laws_rInts.l0])
  | succ k1 =>
   have H := HA.out
   clear HA
   simp only [laws_rInts.l0] at H
   by_cases c4 : x5_1 < (l0.length : Int)
   rotate_left
   ·rw [if_neg c4] at H
    have c4b0 : decide (x5_1 < (l0.length : Int)) = false := decide_eq_false c4
    clear c4
    obtain rfl := Option.some.inj H
    go_wp2
    repeat (go_quiet (fail);try go_wp2)
    go_ret
    exact ⟨by first | rfl | (simp;done) | (simp [*];done), by repeat (first | exact Drawn0.refl _ | apply Drawn0.step)⟩
   rw [if_pos c4] at H
   have c4b0 : decide (x5_1 < (l0.length : Int)) = true := decide_eq_true c4
   clear c4
   by_cases c5 : 0 ≤ x5_1
   rotate_left
   ·rw [if_neg c5] at H
    exact absurd H (by simp)
   rw [if_pos c5] at H
   have c5b0 : decide (0 ≤ x5_1) = true := decide_eq_true c5
   clear c5
   by_cases c6 : x5_1 < (l1.length : Int)
   rotate_left
   ·rw [if_neg c6] at H
    exact absurd H (by simp)
   rw [if_pos c6] at H
   have c6b0 : decide (x5_1 < (l1.length : Int)) = true := decide_eq_true c6
   clear c6
   by_cases c7 : (rd l0 x5_1) = (rd l1 x5_1)
   rotate_left
   ·rw [if_neg c7] at H
    have c7b0 : ((rd l0 x5_1) == (rd l1 x5_1)) = false := beq_eq_false_iff_ne.mpr c7
    have c7b1 : ((rd l0 x5_1) != (rd l1 x5_1)) = true := bne_iff_ne.mpr c7
    obtain rfl := Option.some.inj H
    have p679 : 0 ≤ (x5_1 : Int) := oA
    have q679 : x5_1 < (l0.length : Int) := oA
    obtain ⟨ad679, e679, hx679_0⟩ := Kd.at_int HR0.out x5_1 p679 q679
    cases e679
    replace p679 := eq_true p679
    replace q679 := eq_true q679
    have p680 : 0 ≤ (x5_1 : Int) := oA
    have q680 : x5_1 < (l1.length : Int) := oA
    obtain ⟨ad680, e680, hx680_0⟩ := Kd.at_int HR1.out x5_1 p680 q680
    cases e680
    replace p680 := eq_true p680
    replace q680 := eq_true q680
    go_wp2
    repeat (go_quiet (fail);try go_wp2)
    go_ret
    exact ⟨by first | rfl | (simp;done) | (simp [*];done), by repeat (first | exact Drawn0.refl _ | apply Drawn0.step)⟩
   rw [if_pos c7] at H
   have c7b0 : ((rd l0 x5_1) == (rd l1 x5_1)) = true := beq_iff_eq.mpr c7
   have c7b1 : ((rd l0 x5_1) != (rd l1 x5_1)) = false := bne_eq_false_iff_eq.mpr c7
   clear c7
   have H' := Aside0.mk H
   clear H
   have p679 : 0 ≤ (x5_1 : Int) := oA
   have q679 : x5_1 < (l0.length : Int) := oA
   obtain ⟨ad679, e679, hx679_0⟩ := Kd.at_int HR0.out x5_1 p679 q679
   cases e679
   replace p679 := eq_true p679
   replace q679 := eq_true q679
   have p680 : 0 ≤ (x5_1 : Int) := oA
   have q680 : x5_1 < (l1.length : Int) := oA
   obtain ⟨ad680, e680, hx680_0⟩ := Kd.at_int HR1.out x5_1 p680 q680
   cases e680
   replace p680 := eq_true p680
   replace q680 := eq_true q680
   go_wp2
   repeat (go_quiet (fail);try go_wp2)
   go_roundg k1
   case measure => have := HK1.out;omega
   case rel => exact ⟨(wrap64 (x5_1 + 1)), (by first | rfl | (simp;done) | (simp [*];done)), H', ⟨by have := HK1.out;omega⟩, by repeat (first | exact Drawn0.refl _ | apply Drawn0.step)⟩


/-! ### impl_IsStopping: function 51 -/
def notYet (p : Int → Bool) (l : List Int) (i : Nat) : Prop := ∀ j, j < i → ∀ x, l[j]? = some x → p x = false
theorem notYet_all {p : Int → Bool} {l : List Int} (h : notYet p l l.length) : l.any p = false := by
 rw [List.any_eq_false]
 intro x hx
 obtain ⟨j, hj, rfl⟩ := List.getElem_of_mem hx
 simp [h j hj _ (List.getElem?_eq_getElem hj)]
theorem notYet_hit {p : Int → Bool} {l : List Int} {i : Nat} (hi : i < l.length) (h : p (rd l (i : Int)) = true) : l.any p = true := by
 rw [List.any_eq_true]
 refine ⟨l[i], List.getElem_mem hi, ?_⟩
 have : rd l (i : Int) = l[i] := by simp [rd, hi]
 rwa [← this]
theorem notYet_succ {p : Int → Bool} {l : List Int} {i : Nat} (hi : i < l.length) (h : notYet p l i) (hp : p (rd l (i : Int)) = false) : notYet p l (i + 1) := by
 intro j hj x hx
 by_cases e : j = i
 ·subst e
  have : rd l (j : Int) = x := by simp [rd, hx]
  rwa [← this]
 ·exact h j (by omega) x hx
set_option maxHeartbeats 1600000 in
set_option maxRecDepth 100000 in
theorem indexFunc_calls (g : Nat) (lb : Array Value) (eg : ∀ args w, (callFunc g args).run Try.prog w = .ok (.enter g args) w) (p : Int → Bool) (A : Option Addr) (c : Nat) (l : List Int) (w : World) (hr : Kd.C (Kd.int .i64) w A l.length l)
  (hp : ∀ x ∈ l, ∀ W, Below w.heap.size w W → Calls Try.prog g (#[.int .i64 x] ++ lb) W fun e w' => e = .returned (.bool (p x)) ∧ ∃ q, w' = W.drewN q) :
  Calls Try.prog 147 #[.slice A l.length c, .func (.func g) #[] lb] w fun e w' => (∃ j : Int, e = .returned (.int .i64 j) ∧ decide (0 ≤ j) = l.any p) ∧ ∃ q, w' = w.drewN q := by
 have HR := Aside0.mk hr
 have HP := Aside0.mk hp
 have hL := hr.2.1
 clear hr hp
 go_enter Try.func147, Try.ntmps147
 go_wp2
 go_loopg [5, 8] l.length (fun gg _ s8 wr => ∃ kk q : Nat, kk ≤ l.length ∧ l.length - kk ≤ gg ∧ s8 = .int .i64 (kk : Int) ∧ wr = w.drewN q ∧ Aside0 (notYet p l kk))
 case atStart => exact ⟨0, 0, Nat.zero_le _, by omega, rfl, rfl, ⟨fun j hj => absurd hj (Nat.not_lt_zero _)⟩⟩
 case round =>
  obtain ⟨kk, q, hkk, hg, rfl, rfl, NY⟩ := hrel
  by_cases hlt : kk < l.length
  ·have hltz : (kk : Int) < (l.length : Int) := by omega
   have hk0 : (0 : Int) ≤ (kk : Int) := by omega
   obtain ⟨ad, rfl, hcell⟩ := Kd.at_int HR.out (kk : Int) hk0 hltz
   rw [Int.toNat_natCast] at hcell
   have hmem : rd l (kk : Int) ∈ l := by
    have : rd l (kk : Int) = l[kk] := by simp [rd, hlt]
    rw [this];exact List.getElem_mem hlt
   have hcall := HP.out (rd l (kk : Int)) hmem (w.drewN q) (pw_below_drewN (Below.refl _ _) q)
   generalize hx : rd l (kk : Int) = x at hcell hcall
   have HX := Aside0.mk hx
   clear hx hmem
   cases hq : p x with
   | true =>
    rw [hq] at hcall
    go_wp2_with (go_at_fn g;refine hcall.mono ?_;rintro e w' ⟨rfl, q', rfl⟩)
    go_ret
    exact ⟨⟨_, rfl, by rw [notYet_hit hlt (by rw [HX.out];exact hq)];simp⟩, _, rfl⟩
   | false =>
    rw [hq] at hcall
    go_wp2_with (go_at_fn g;refine hcall.mono ?_;rintro e w' ⟨rfl, q', rfl⟩)
    go_roundg (l.length - (kk + 1))
    case measure => omega
    case rel => exact ⟨kk + 1, _, by omega, by omega, by first | rfl | go_num, rfl, ⟨notYet_succ hlt NY.out (by rw [HX.out];exact hq)⟩⟩
  ·have hltz : ¬ (kk : Int) < (l.length : Int) := by omega
   obtain rfl : kk = l.length := by omega
   go_wp2
   go_ret
   exact ⟨⟨-1, rfl, by rw [notYet_all NY.out];rfl⟩, q, rfl⟩
set_option maxHeartbeats 1600000 in
theorem containsFunc_calls (g : Nat) (lb : Array Value) (eg : ∀ args w, (callFunc g args).run Try.prog w = .ok (.enter g args) w) (p : Int → Bool) (A : Option Addr) (c : Nat) (l : List Int) (w : World) (hr : Kd.C (Kd.int .i64) w A l.length l)
  (hp : ∀ x ∈ l, ∀ W, Below w.heap.size w W → Calls Try.prog g (#[.int .i64 x] ++ lb) W fun e w' => e = .returned (.bool (p x)) ∧ ∃ q, w' = W.drewN q) :
  Calls Try.prog 101 #[.slice A l.length c, .func (.func g) #[] lb] w fun e w' => e = .returned (.bool (l.any p)) ∧ ∃ q, w' = w.drewN q := by
 have hcon := indexFunc_calls g lb eg p A c l w hr hp
 go_enter Try.func101, Try.ntmps101
 go_wp2_with (go_at_call 147;refine hcon.mono ?_;rintro e w' ⟨⟨j, rfl, hj⟩, q, rfl⟩)
 go_ret
 exact ⟨rfl, q, rfl⟩

def stopP (near : List Int) (mask r x : Int) : Bool := ((bits_OnesCount.f (IntKind.u64.wrap (Go.bits .andNot .i64 (rd near x) mask))).map fun c => decide (c ≥ r)).getD false
def stopBad (near : List Int) (mask r : Int) (l : List Int) : Option Bool := if ∀ x ∈ l, (0 ≤ x ∧ x < (near.length : Int)) ∧ (bits_OnesCount.f (IntKind.u64.wrap (Go.bits .andNot .i64 (rd near x) mask))).isSome = true then some (l.any (stopP near mask r)) else none
theorem stopBad_use {near : List Int} {mask r : Int} {l : List Int} {b : Bool} (h : stopBad near mask r l = some b) : (∀ x ∈ l, (0 ≤ x ∧ x < (near.length : Int)) ∧ (bits_OnesCount.f (IntKind.u64.wrap (Go.bits .andNot .i64 (rd near x) mask))).isSome = true) ∧ l.any (stopP near mask r) = b := by
 unfold stopBad at h
 split at h
 ·rename_i hv;exact ⟨hv, Option.some.inj h⟩
 ·cases h
theorem stop_at {W0 W : World} (hb : Below W0.heap.size W0 W) {p : Addr} {v : Value} (h : W0.cell? p = some v) : W.cell? p = some v := (hb.cell (World.block_lt_of_cell? _ _ h)).trans h
set_option maxHeartbeats 1600000 in
theorem stop_fn (gN gS gR : Nat) (A : Option Addr) (c : Nat) (near : List Int) (mask r x : Int) (W : World) (hN : W.cell? ⟨gN, 0, none⟩ = some (.slice A near.length c)) (hS : W.cell? ⟨gS, 0, none⟩ = some (.int .i64 mask)) (hR : W.cell? ⟨gR, 0, none⟩ = some (.int .i64 r)) (hC : Kd.C (Kd.int .i64) W A near.length near)
  (h0 : 0 ≤ x) (h1 : x < (near.length : Int)) (ho : (bits_OnesCount.f (IntKind.u64.wrap (Go.bits .andNot .i64 (rd near x) mask))).isSome = true) :
  Calls Try.prog 102 (#[.int .i64 x] ++ #[.pointer (some ⟨gN, 0, none⟩), .pointer (some ⟨gS, 0, none⟩), .pointer (some ⟨gR, 0, none⟩)]) W fun e w' => e = .returned (.bool (stopP near mask r x)) ∧ ∃ q, w' = W.drewN q := by
 obtain ⟨n, hn⟩ := Option.isSome_iff_exists.1 ho
 have hr : stopP near mask r x = decide (n ≥ r) := by unfold stopP;rw [hn];rfl
 rw [hr]
 obtain ⟨ad, rfl, hx⟩ := Kd.at_int hC x h0 h1
 have hcall := fun W' => bits_OnesCount.calls (IntKind.u64.wrap (Go.bits .andNot .i64 (rd near x) mask)) n W' hn
 clear hr ho hn hC
 have p0 : (0 ≤ x) = True := eq_true h0
 have p1 : (x < (near.length : Int)) = True := eq_true h1
 generalize rd near x = y at hx hcall
 show Calls Try.prog 102 #[.int .i64 x, .pointer (some ⟨gN, 0, none⟩), .pointer (some ⟨gS, 0, none⟩), .pointer (some ⟨gR, 0, none⟩)] W _
 go_enter Try.func102, Try.ntmps102
 go_wp2
 go_quiet ((go_at_call 103;refine (hcall _).mono ?_;rintro e w' ⟨rfl, ⟨nd, rfl⟩⟩;exact ⟨rfl, _, World.drewN_drewN _ _ _⟩))
 go_wp2
 go_ret
 exact ⟨by first | rfl | simp, _, by first | rfl | exact World.drewN_drewN _ _ _⟩

def impl_IsStopping.j0 : Nat → List Int → Int → Bool → Int → List (S119) → Option (Bool × Bool)
 | 0, _, _, _, _, _ => none
 | k + 1, x1, x2, x18, x682000, x682001 => if x18 = true then (some (false, false)) else ((impl_netOf.f x682000 x682001).bind fun t685 => ((impl_maskOf.f k x1).bind fun t688 => (if t688 = 0 then (some (false, true)) else ((stopBad t685 t688 x2 x1).bind fun t691 => (some (!t691, true))))))
def impl_IsStopping.f (k : Nat) (a0_0 : Int) (l0_1 : List (S119)) (l1 : List Int) (a2 : Int) : Option (Bool × Bool) := (impl_isSet.f k a0_0 l0_1 l1).bind fun t683 => (if t683 = true then ((impl_within.f a2 1 8).bind fun t684 => (impl_IsStopping.j0 k l1 a2 (!t684) a0_0 l0_1)) else (impl_IsStopping.j0 k l1 a2 true a0_0 l0_1))
theorem impl_IsStopping.mono_l : ∀ k, (∀ y0 y1 y2 y3 y4, LeO (impl_IsStopping.j0 k y0 y1 y2 y3 y4) (impl_IsStopping.j0 (k + 1) y0 y1 y2 y3 y4))
 | 0 => fun _ _ _ _ _ r h => by simp [impl_IsStopping.j0] at h
 | k + 1 => by
  have ih0 := impl_IsStopping.mono_l k
  ·intro y0 y1 y2 y3 y4
   unfold impl_IsStopping.j0
   repeat' first
   | (with_reducible exact ih0 _ _ _ _ _)
   | (with_reducible exact impl_isSet.mono _ _ _ _)
   | (with_reducible exact impl_maskOf.mono _ _)
   | (with_reducible exact LeO.refl _)
   | (with_reducible exact LeO.none _)
   | (with_reducible refine LeO.ite ?_ ?_)
   | (with_reducible refine LeO.bind ?_ (fun _ => ?_))
   | exact LeO.none _
   | refine LeO.ite ?_ ?_
   | refine LeO.bind ?_ (fun _ => ?_)
theorem impl_IsStopping.mono : ∀ a0 a1 a2 a3 k, LeO (impl_IsStopping.f k a0 a1 a2 a3) (impl_IsStopping.f (k + 1) a0 a1 a2 a3) := by
 intro a0 a1 a2 a3 k
 have ih0 := impl_IsStopping.mono_l k
 unfold impl_IsStopping.f
 repeat' first
   | (with_reducible exact ih0 _ _ _ _ _)
   | (with_reducible exact impl_isSet.mono _ _ _ _)
   | (with_reducible exact impl_maskOf.mono _ _)
   | (with_reducible exact LeO.refl _)
   | (with_reducible exact LeO.none _)
   | (with_reducible refine LeO.ite ?_ ?_)
   | (with_reducible refine LeO.bind ?_ (fun _ => ?_))
   | exact LeO.none _
   | refine LeO.ite ?_ ?_
   | refine LeO.bind ?_ (fun _ => ?_)
set_option maxHeartbeats 8000000 in
set_option maxRecDepth 100000 in
theorem impl_IsStopping.calls (k : Nat) (a0_0 : Int) (A0_1 : Option Addr) (c0_1 : Nat) (l0_1 : List (S119)) (A1 : Option Addr) (c1 : Nat) (l1 : List Int) (a2 : Int) (r1 : Bool) (r2 : Bool) (w : World) (hr0_1 : Kd.C k119 w A0_1 l0_1.length l0_1) (hc0_1 : l0_1.length ≤ c0_1) (hr1 : Kd.C (Kd.int .i64) w A1 l1.length l1) (hc1 : l1.length ≤ c1) (h : impl_IsStopping.f k a0_0 l0_1 l1 a2 = some (r1, r2)) :
  Calls Try.prog 51 #[.agg #[.int .i64 a0_0, .slice A0_1 l0_1.length c0_1], .slice A1 l1.length c1, .int .i64 a2] w fun e w' => e = .returned (.tuple #[.bool r1, .bool r2]) ∧ Below w.heap.size w w' := by
 have hu31 := Try.underlying31
 have hu80 := Try.underlying80
 have HR0_1 := Aside0.mk hr0_1
 have HC0_1 := Aside0.mk hc0_1
 clear hr0_1 hc0_1
 have HR1 := Aside0.mk hr1
 have HC1 := Aside0.mk hc1
 clear hr1 hc1
 have HB := aM (Below.refl w.heap.size w)
 have H : ((impl_isSet.f k a0_0 l0_1 l1).bind fun t683 => (if t683 = true then ((impl_within.f a2 1 8).bind fun t684 => (impl_IsStopping.j0 k l1 a2 (!t684) a0_0 l0_1)) else (impl_IsStopping.j0 k l1 a2 true a0_0 l0_1))) = some (r1, r2) := h
 clear h
 have HC4 := Aside0.mk H
 clear H
 go_enter Try.func51, Try.ntmps51
 go_upto_region 1 with (first | ((with_reducible refine gate_dst (N := 3) rfl ?_);refine box_event ?hg (N := 3) ?hd (cs := #[.int .i64 a0_0, .slice A0_1 l0_1.length c0_1]) (t := 31) ?hr ?_;(case hd => rfl);(case hg => rfl);(case hr => first | (go_simp;done) | (go_simp;rfl));intro gb681 hg w5 hbox hb;have n0_ := aM (below_step (by exact bB) hb);have n1_ := aM (hbox);have n2_ := aM (sW hg : w.heap.size ≤ gb681);have n3_ := aM (sW hg : w.heap.size ≤ gb681);clear HB;have HB := n0_;have BK681 := n1_;have GW681 := n2_;have GE681 := n3_;clear n0_ n1_ n2_ n3_;clear hb hbox hg) | ((with_reducible refine gate_dst (N := 5) rfl ?_);refine box_event ?hg (N := 5) ?hd (cs := #[.int .i64 a2]) (t := 3) ?hr ?_;(case hd => rfl);(case hg => rfl);(case hr => first | (go_simp;done) | (go_simp;rfl));intro gb682 hg w6 hbox hb;have n0_ := aM (kB hb BK681.out);have n1_ := aM (below_step (by exact bB) hb);have n2_ := aM (hbox);have n3_ := aM (sW hg : w.heap.size ≤ gb682);have n4_ := aM (sW hg : w.heap.size ≤ gb682);have n5_ := aM (nL hg (kP BK681.out));have n6_ := aM (nG hg (kP BK681.out));clear BK681;clear HB;have BK681 := n0_;have HB := n1_;have BK682 := n2_;have GW682 := n3_;have GE682 := n4_;have NB681_682 := n5_;have NB682_681 := n6_;clear n0_ n1_ n2_ n3_ n4_ n5_ n6_;clear hb hbox hg))
 (try simp only [Act.put, List.setIfInBounds_toArray, List.set_cons_zero, List.set_cons_succ])
 go_cut [18] (fun v18 wc => ∃ (kq : Nat) (x18_3 : Bool), v18 = .bool x18_3 ∧ Aside0 (impl_IsStopping.j0 kq l1 a2 x18_3 a0_0 l0_1 = some (r1, r2)) ∧ Aside0 (kq ≤ k) ∧ Aside0 (wc.heap[gb681]? = some (.cells #[.int .i64 a0_0, (.slice A0_1 l0_1.length c0_1)] 31 (0, 0))) ∧ Aside0 (wc.heap[gb682]? = some (.cells #[.int .i64 a2] 3 (0, 0))) ∧ Aside0 (Below w.heap.size w wc))
 case first =>
  have H := HC4.out
  clear HC4
  replace H := Option.bind_eq_some_iff.mp H
  obtain ⟨t683, A70, H⟩ := H
  replace H : (if t683 = true then ((impl_within.f a2 1 8).bind fun t684 => (impl_IsStopping.j0 k l1 a2 (!t684) a0_0 l0_1)) else (impl_IsStopping.j0 k l1 a2 true a0_0 l0_1)) = some (r1, r2) := H
  have A7 := Aside0.mk A70
  clear A70
  by_cases c8 : t683 = true
  rotate_left
  ·replace c8 := Bool.eq_false_iff.mpr c8
   subst c8
   have H1 : (impl_IsStopping.j0 k l1 a2 true a0_0 l0_1) = some (r1, r2) := by rw [if_neg (show ¬ (false = true) by decide)] at H;exact H
   clear H
   have H := H1
   clear H1
   have H' := Aside0.mk H
   clear H
   have hnb13 := NB681_682.out
   have hnc13 := NB682_681.out
   have hcz14_0 := bC0 BK681.out
   have hcz14_1 := bC1 BK681.out
   have hfz14_0 := blk_frozen BK681.out 0
   have hfz14_1 := blk_frozen BK681.out 1
   go_wp2_with (first | ((with_reducible refine gate_callee (f := 86) rfl ?_);refine goesL_ (some 12) rfl rfl Try.func86 (by kernel_rfl) rfl #[.agg #[.int .i64 a0_0, .slice A0_1 l0_1.length c0_1], .slice A1 l1.length c1] rfl mM ?_;(with_reducible refine (impl_isSet.calls k a0_0 _ _ l0_1 _ _ l1 false _ ?side1 ?side2 ?side3 ?side4 A7.out).mono ?_);(case side1 => exact cP (Kd.C_below HR0_1.out HB.out));(case side2 => exact HC0_1.out);(case side3 => exact cP (Kd.C_below HR1.out HB.out));(case side4 => exact HC1.out);rintro e w15 ⟨rfl, hb⟩;refine ⟨_, rfl, ?_⟩;have n0_ := aM (kB hb BK681.out);have n1_ := aM (kB hb BK682.out);have n2_ := aM (below_step (by exact bB) hb);clear BK681;clear BK682;clear HB;have BK681 := n0_;have BK682 := n1_;have HB := n2_;clear n0_ n1_ n2_;have hczr_0 := bC0 BK682.out;have hfzr_0 := blk_frozen BK682.out 0;(try clear hb);(try clear hb2);(try clear hk);(try clear hi)))
   go_meet
   case rel => exact ⟨_, (true), (by first | rfl | (simp;done) | (simp [*];done)), H', ⟨by first | omega | exact Nat.le_refl _⟩, ⟨by exact kP BK681.out⟩, ⟨by exact kP BK682.out⟩, ⟨by exact bB⟩⟩
  subst c8
  have H1 : ((impl_within.f a2 1 8).bind fun t684 => (impl_IsStopping.j0 k l1 a2 (!t684) a0_0 l0_1)) = some (r1, r2) := by rw [if_pos rfl] at H;exact H
  clear H
  have H := H1
  clear H1
  replace H := Option.bind_eq_some_iff.mp H
  obtain ⟨t684, A90, H⟩ := H
  replace H : (impl_IsStopping.j0 k l1 a2 (!t684) a0_0 l0_1) = some (r1, r2) := H
  have A9 := Aside0.mk A90
  clear A90
  have H' := Aside0.mk H
  clear H
  have hnb10 := NB681_682.out
  have hnc10 := NB682_681.out
  have hcz11_0 := bC0 BK681.out
  have hcz11_1 := bC1 BK681.out
  have hfz11_0 := blk_frozen BK681.out 0
  have hfz11_1 := blk_frozen BK681.out 1
  go_wp2_with (first | ((with_reducible refine gate_callee (f := 86) rfl ?_);refine goesL_ (some 12) rfl rfl Try.func86 (by kernel_rfl) rfl #[.agg #[.int .i64 a0_0, .slice A0_1 l0_1.length c0_1], .slice A1 l1.length c1] rfl mM ?_;(with_reducible refine (impl_isSet.calls k a0_0 _ _ l0_1 _ _ l1 true _ ?side1 ?side2 ?side3 ?side4 A7.out).mono ?_);(case side1 => exact cP (Kd.C_below HR0_1.out HB.out));(case side2 => exact HC0_1.out);(case side3 => exact cP (Kd.C_below HR1.out HB.out));(case side4 => exact HC1.out);rintro e w12 ⟨rfl, hb⟩;refine ⟨_, rfl, ?_⟩;have n0_ := aM (kB hb BK681.out);have n1_ := aM (kB hb BK682.out);have n2_ := aM (below_step (by exact bB) hb);clear BK681;clear BK682;clear HB;have BK681 := n0_;have BK682 := n1_;have HB := n2_;clear n0_ n1_ n2_;have hczr_0 := bC0 BK682.out;have hfzr_0 := blk_frozen BK682.out 0;(try clear hb);(try clear hb2);(try clear hk);(try clear hi)) | (go_at_call 82;(with_reducible refine (impl_within.calls a2 1 8 t684 _ A9.out).mono ?_);rintro e w' ⟨rfl, ⟨nd, rfl⟩⟩))
  go_meet
  case rel => exact ⟨_, (!t684), (by first | rfl | (simp;done) | (simp [*];done)), H', ⟨by first | omega | exact Nat.le_refl _⟩, ⟨by exact kP BK681.out⟩, ⟨by exact kP BK682.out⟩, ⟨by exact bB⟩⟩
 case rest =>
  clear HC4
  try clear c1
  try clear p2
  try clear c5
  try clear c8
  try clear c10
  try clear c13
  try clear hcz11_0
  try clear hcz11_1
  try clear hcz14_0
  try clear hcz14_1
  try clear hfz11_0
  try clear hfz11_1
  try clear hfz14_0
  try clear hfz14_1
  obtain ⟨kq, x18_3, rfl, HA, HJ3, BK681, BK682, HB⟩ := hcut
  cases kq with
  | zero => exact absurd HA.out (by simp [impl_IsStopping.j0])
  | succ kj3 =>
   have H := HA.out
   clear HA
   simp only [impl_IsStopping.j0] at H
   by_cases c16 : x18_3 = true
   ·subst c16
    have H1 : (some (false, false)) = some (r1, r2) := by rw [if_pos rfl] at H;exact H
    clear H
    have H := H1
    clear H1
    simp only [Option.some.injEq, Prod.mk.injEq] at H
    obtain ⟨rfl, rfl⟩ := H
    go_wp2
    go_ret2
    exact ⟨by first | rfl | (simp [errW_none, errW_some] <;> rfl) | (simp [*, errW_none, errW_some] <;> rfl), by exact bB⟩
   replace c16 := Bool.eq_false_iff.mpr c16
   subst c16
   have H1 : ((impl_netOf.f a0_0 l0_1).bind fun t685 => ((impl_maskOf.f kj3 l1).bind fun t688 => (if t688 = 0 then (some (false, true)) else ((stopBad t685 t688 a2 l1).bind fun t691 => (some (!t691, true)))))) = some (r1, r2) := by rw [if_neg (show ¬ (false = true) by decide)] at H;exact H
   clear H
   have H := H1
   clear H1
   replace H := Option.bind_eq_some_iff.mp H
   obtain ⟨t685, A170, H⟩ := H
   replace H : ((impl_maskOf.f kj3 l1).bind fun t688 => (if t688 = 0 then (some (false, true)) else ((stopBad t685 t688 a2 l1).bind fun t691 => (some (!t691, true))))) = some (r1, r2) := H
   have A17 := Aside0.mk A170
   clear A170
   replace H := Option.bind_eq_some_iff.mp H
   obtain ⟨t688, A180, H⟩ := H
   replace H : (if t688 = 0 then (some (false, true)) else ((stopBad t685 t688 a2 l1).bind fun t691 => (some (!t691, true)))) = some (r1, r2) := H
   have A18 := Aside0.mk A180
   clear A180
   by_cases c19 : t688 = 0
   ·rw [if_pos c19] at H
    have c19b0 : (t688 == 0) = true := beq_iff_eq.mpr c19
    have c19b1 : (t688 != 0) = false := bne_eq_false_iff_eq.mpr c19
    clear c19
    simp only [Option.some.injEq, Prod.mk.injEq] at H
    obtain ⟨rfl, rfl⟩ := H
    have hnb20 := NB681_682.out
    have hnc20 := NB682_681.out
    have hcz21_0 := bC0 BK681.out
    have hcz21_1 := bC1 BK681.out
    have hfz21_0 := blk_frozen BK681.out 0
    have hfz21_1 := blk_frozen BK681.out 1
    go_wp2_with (first | ((with_reducible refine gate_callee (f := 72) rfl ?_);refine goesL_ (some 20) rfl rfl Try.func72 (by kernel_rfl) rfl #[.agg #[.int .i64 a0_0, .slice A0_1 l0_1.length c0_1]] rfl mM ?_;(with_reducible refine (impl_netOf.calls a0_0 _ _ l0_1 t685 _ ?side1 ?side2 A17.out).mono ?_);(case side1 => exact cP (Kd.C_below HR0_1.out HB.out));(case side2 => exact HC0_1.out);rintro e w22 ⟨v686, rfl, ho0, hb⟩;refine ⟨_, rfl, ?_⟩;have n0_ := aM (Kd.R_lower ho0 (below_size (by exact bB)));have n1_ := aM (kB hb BK681.out);have n2_ := aM (kB hb BK682.out);have n3_ := aM (below_step (by exact bB) hb);clear BK681;clear BK682;clear HB;have HO687 := n0_;have BK681 := n1_;have BK682 := n2_;have HB := n3_;clear n0_ n1_ n2_ n3_;(try clear hb);(try clear hb2);(try clear hk);(try clear hi);(try clear ho0)) | ((with_reducible refine gate_callee (f := 89) rfl ?_);refine goesL_ (some 22) rfl rfl Try.func89 (by kernel_rfl) rfl #[.slice A1 l1.length c1] rfl mM ?_;(with_reducible refine (impl_maskOf.calls kj3 _ _ l1 t688 _ ?side1 ?side2 A18.out).mono ?_);(case side1 => exact cP (Kd.C_below HR1.out HB.out));(case side2 => exact HC1.out);rintro e w' ⟨rfl, ⟨nd, rfl⟩⟩;refine ⟨_, rfl, ?_⟩;(try (rw [drewN_self w22];generalize hq_ : World.drewN w22 _ = w22;have n0_ : Aside0 (Kd.R (Kd.int .i64) 3 w22 w.heap.size (fun _ => True) v686 t685) := ⟨by rw [← hq_];exact (by exact rP HO687.out)⟩;have n1_ : Aside0 (w22.heap[gb681]? = some (.cells #[.int .i64 a0_0, .slice A0_1 l0_1.length c0_1] 31 (0, 0))) := ⟨by rw [← hq_];exact (by exact kP BK681.out)⟩;have n2_ : Aside0 (w22.heap[gb682]? = some (.cells #[.slice A1 l1.length c1] 80 (0, 0))) := ⟨by rw [← hq_];exact (by exact kP BK682.out)⟩;have n3_ : Aside0 (Below w.heap.size w w22) := ⟨by rw [← hq_];exact (by exact bB)⟩;clear HO687 BK681 BK682 HB hq_;have HO687 := n0_;have BK681 := n1_;have BK682 := n2_;have HB := n3_;clear n0_ n1_ n2_ n3_))) | ((with_reducible refine gate_dst (N := 8) rfl ?_);refine box_event ?hg (N := 8) ?hd (cs := #[.slice none 0 0]) (t := 80) ?hr ?_;(case hd => rfl);(case hg => rfl);(case hr => first | (go_simp;done) | (go_simp;rfl));intro gb689 hg w23 hbox hb;have n0_ := aM (Kd.R_below (Kd.R_elderB (rP HO687.out) gb689 (Nat.le_of_eq hg.symm)) hb);have n1_ := aM (kB hb BK681.out);have n2_ := aM (kB hb BK682.out);have n3_ := aM (below_step (by exact bB) hb);have n4_ := aM (hbox);have n5_ := aM (sW hg : w.heap.size ≤ gb689);have n6_ := aM (sW hg : w.heap.size ≤ gb689);have n7_ := aM (nL hg (kP BK681.out));have n8_ := aM (nG hg (kP BK681.out));have n9_ := aM (nL hg (kP BK682.out));have n10_ := aM (nG hg (kP BK682.out));clear HO687;clear BK681;clear BK682;clear HB;have HO687 := n0_;have BK681 := n1_;have BK682 := n2_;have HB := n3_;have BK689 := n4_;have GW689 := n5_;have GE689 := n6_;have NB681_689 := n7_;have NB689_681 := n8_;have NB682_689 := n9_;have NB689_682 := n10_;clear n0_ n1_ n2_ n3_ n4_ n5_ n6_ n7_ n8_ n9_ n10_;clear hb hbox hg) | ((with_reducible refine gate_dst (N := 9) rfl ?_);refine box_event ?hg (N := 9) ?hd (cs := #[.int .i64 0]) (t := 3) ?hr ?_;(case hd => rfl);(case hg => rfl);(case hr => first | (go_simp;done) | (go_simp;rfl));intro gb690 hg w24 hbox hb;have n0_ := aM (Kd.R_below (Kd.R_elderB (rP HO687.out) gb690 (Nat.le_of_eq hg.symm)) hb);have n1_ := aM (kB hb BK681.out);have n2_ := aM (kB hb BK682.out);have n3_ := aM (kB hb BK689.out);have n4_ := aM (below_step (by exact bB) hb);have n5_ := aM (hbox);have n6_ := aM (sW hg : w.heap.size ≤ gb690);have n7_ := aM (sW hg : w.heap.size ≤ gb690);have n8_ := aM (nL hg (kP BK681.out));have n9_ := aM (nG hg (kP BK681.out));have n10_ := aM (nL hg (kP BK682.out));have n11_ := aM (nG hg (kP BK682.out));have n12_ := aM (nL hg (kP BK689.out));have n13_ := aM (nG hg (kP BK689.out));clear HO687;clear BK681;clear BK682;clear BK689;clear HB;have HO687 := n0_;have BK681 := n1_;have BK682 := n2_;have BK689 := n3_;have HB := n4_;have BK690 := n5_;have GW690 := n6_;have GE690 := n7_;have NB681_690 := n8_;have NB690_681 := n9_;have NB682_690 := n10_;have NB690_682 := n11_;have NB689_690 := n12_;have NB690_689 := n13_;clear n0_ n1_ n2_ n3_ n4_ n5_ n6_ n7_ n8_ n9_ n10_ n11_ n12_ n13_;clear hb hbox hg;obtain ⟨Ao25, co25, eo25⟩ := Kd.R_slice HO687.out;subst eo25;have hnb26 := NB689_681.out;have hnc26 := NB681_689.out;have hnb27 := NB689_682.out;have hnc27 := NB682_689.out;have hnb28 := NB689_690.out;have hnc28 := NB690_689.out;have hcz29_0 := bC0 BK689.out;have hfz29_0 := blk_frozen BK689.out 0;have hnb30 := NB690_681.out;have hnc30 := NB681_690.out;have hnb31 := NB690_682.out;have hnc31 := NB682_690.out;have hcz32_0 := bC0 BK690.out;have hfz32_0 := blk_frozen BK690.out 0))
    go_ret2
    exact ⟨by first | rfl | (simp [errW_none, errW_some] <;> rfl) | (simp [*, errW_none, errW_some] <;> rfl), by exact bB⟩
   rw [if_neg c19] at H
   have c19b0 : (t688 == 0) = false := beq_eq_false_iff_ne.mpr c19
   have c19b1 : (t688 != 0) = true := bne_iff_ne.mpr c19
   replace H := Option.bind_eq_some_iff.mp H
   obtain ⟨t691, A330, H⟩ := H
   replace H : (some (!t691, true)) = some (r1, r2) := H
   have A33 := Aside0.mk A330
   clear A330
   simp only [Option.some.injEq, Prod.mk.injEq] at H
   obtain ⟨rfl, rfl⟩ := H
   have hnb34 := NB681_682.out
   have hnc34 := NB682_681.out
   have hcz35_0 := bC0 BK681.out
   have hcz35_1 := bC1 BK681.out
   have hfz35_0 := blk_frozen BK681.out 0
   have hfz35_1 := blk_frozen BK681.out 1
   go_wp2_with (first | ((with_reducible refine gate_callee (f := 72) rfl ?_);refine goesL_ (some 20) rfl rfl Try.func72 (by kernel_rfl) rfl #[.agg #[.int .i64 a0_0, .slice A0_1 l0_1.length c0_1]] rfl mM ?_;(with_reducible refine (impl_netOf.calls a0_0 _ _ l0_1 t685 _ ?side1 ?side2 A17.out).mono ?_);(case side1 => exact cP (Kd.C_below HR0_1.out HB.out));(case side2 => exact HC0_1.out);rintro e w36 ⟨v686, rfl, ho0, hb⟩;refine ⟨_, rfl, ?_⟩;have n0_ := aM (Kd.R_lower ho0 (below_size (by exact bB)));have n1_ := aM (kB hb BK681.out);have n2_ := aM (kB hb BK682.out);have n3_ := aM (below_step (by exact bB) hb);clear BK681;clear BK682;clear HB;have HO687 := n0_;have BK681 := n1_;have BK682 := n2_;have HB := n3_;clear n0_ n1_ n2_ n3_;(try clear hb);(try clear hb2);(try clear hk);(try clear hi);(try clear ho0)) | ((with_reducible refine gate_callee (f := 89) rfl ?_);refine goesL_ (some 22) rfl rfl Try.func89 (by kernel_rfl) rfl #[.slice A1 l1.length c1] rfl mM ?_;(with_reducible refine (impl_maskOf.calls kj3 _ _ l1 t688 _ ?side1 ?side2 A18.out).mono ?_);(case side1 => exact cP (Kd.C_below HR1.out HB.out));(case side2 => exact HC1.out);rintro e w' ⟨rfl, ⟨nd, rfl⟩⟩;refine ⟨_, rfl, ?_⟩;(try (rw [drewN_self w36];generalize hq_ : World.drewN w36 _ = w36;have n0_ : Aside0 (Kd.R (Kd.int .i64) 3 w36 w.heap.size (fun _ => True) v686 t685) := ⟨by rw [← hq_];exact (by exact rP HO687.out)⟩;have n1_ : Aside0 (w36.heap[gb681]? = some (.cells #[.int .i64 a0_0, .slice A0_1 l0_1.length c0_1] 31 (0, 0))) := ⟨by rw [← hq_];exact (by exact kP BK681.out)⟩;have n2_ : Aside0 (w36.heap[gb682]? = some (.cells #[.slice A1 l1.length c1] 80 (0, 0))) := ⟨by rw [← hq_];exact (by exact kP BK682.out)⟩;have n3_ : Aside0 (Below w.heap.size w w36) := ⟨by rw [← hq_];exact (by exact bB)⟩;clear HO687 BK681 BK682 HB hq_;have HO687 := n0_;have BK681 := n1_;have BK682 := n2_;have HB := n3_;clear n0_ n1_ n2_ n3_))) | ((with_reducible refine gate_dst (N := 8) rfl ?_);refine box_event ?hg (N := 8) ?hd (cs := #[.slice none 0 0]) (t := 80) ?hr ?_;(case hd => rfl);(case hg => rfl);(case hr => first | (go_simp;done) | (go_simp;rfl));intro gb689 hg w37 hbox hb;have n0_ := aM (Kd.R_below (Kd.R_elderB (rP HO687.out) gb689 (Nat.le_of_eq hg.symm)) hb);have n1_ := aM (kB hb BK681.out);have n2_ := aM (kB hb BK682.out);have n3_ := aM (below_step (by exact bB) hb);have n4_ := aM (hbox);have n5_ := aM (sW hg : w.heap.size ≤ gb689);have n6_ := aM (sW hg : w.heap.size ≤ gb689);have n7_ := aM (nL hg (kP BK681.out));have n8_ := aM (nG hg (kP BK681.out));have n9_ := aM (nL hg (kP BK682.out));have n10_ := aM (nG hg (kP BK682.out));clear HO687;clear BK681;clear BK682;clear HB;have HO687 := n0_;have BK681 := n1_;have BK682 := n2_;have HB := n3_;have BK689 := n4_;have GW689 := n5_;have GE689 := n6_;have NB681_689 := n7_;have NB689_681 := n8_;have NB682_689 := n9_;have NB689_682 := n10_;clear n0_ n1_ n2_ n3_ n4_ n5_ n6_ n7_ n8_ n9_ n10_;clear hb hbox hg) | ((with_reducible refine gate_dst (N := 9) rfl ?_);refine box_event ?hg (N := 9) ?hd (cs := #[.int .i64 0]) (t := 3) ?hr ?_;(case hd => rfl);(case hg => rfl);(case hr => first | (go_simp;done) | (go_simp;rfl));intro gb690 hg w38 hbox hb;have n0_ := aM (Kd.R_below (Kd.R_elderB (rP HO687.out) gb690 (Nat.le_of_eq hg.symm)) hb);have n1_ := aM (kB hb BK681.out);have n2_ := aM (kB hb BK682.out);have n3_ := aM (kB hb BK689.out);have n4_ := aM (below_step (by exact bB) hb);have n5_ := aM (hbox);have n6_ := aM (sW hg : w.heap.size ≤ gb690);have n7_ := aM (sW hg : w.heap.size ≤ gb690);have n8_ := aM (nL hg (kP BK681.out));have n9_ := aM (nG hg (kP BK681.out));have n10_ := aM (nL hg (kP BK682.out));have n11_ := aM (nG hg (kP BK682.out));have n12_ := aM (nL hg (kP BK689.out));have n13_ := aM (nG hg (kP BK689.out));clear HO687;clear BK681;clear BK682;clear BK689;clear HB;have HO687 := n0_;have BK681 := n1_;have BK682 := n2_;have BK689 := n3_;have HB := n4_;have BK690 := n5_;have GW690 := n6_;have GE690 := n7_;have NB681_690 := n8_;have NB690_681 := n9_;have NB682_690 := n10_;have NB690_682 := n11_;have NB689_690 := n12_;have NB690_689 := n13_;clear n0_ n1_ n2_ n3_ n4_ n5_ n6_ n7_ n8_ n9_ n10_ n11_ n12_ n13_;clear hb hbox hg;obtain ⟨Ao39, co39, eo39⟩ := Kd.R_slice HO687.out;subst eo39;have hnb40 := NB689_681.out;have hnc40 := NB681_689.out;have hnb41 := NB689_682.out;have hnc41 := NB682_689.out;have hnb42 := NB689_690.out;have hnc42 := NB690_689.out;have hcz43_0 := bC0 BK689.out;have hfz43_0 := blk_frozen BK689.out 0;have hnb44 := NB690_681.out;have hnc44 := NB681_690.out;have hnb45 := NB690_682.out;have hnc45 := NB682_690.out;have hcz46_0 := bC0 BK690.out;have hfz46_0 := blk_frozen BK690.out 0) | (go_at_call 101;obtain ⟨hv_, hw_⟩ := stopBad_use A33.out;refine (containsFunc_calls 102 _ (enters_of Try.func102 (by kernel_rfl) rfl) (stopP t685 t688 a2) _ _ l1 _ ?side1 ?side2).mono ?_;(case side1 => exact Kd.C_below HR1.out (by exact bB));(case side2 => intro x hx W_ hb_;have hczq_ := (blk_cell BK682.out 0).trans (show (#[Value.int .i64 a2] : Array Value)[0]? = some (.int .i64 a2) from rfl);have q1 := stop_at (p := ⟨gb689, 0, none⟩) (v := .slice Ao39 t685.length co39) hb_ (by first | (go_simp;done) | (simp [*];done));have q2 := stop_at (p := ⟨gb690, 0, none⟩) (v := .int .i64 t688) hb_ (by first | (go_simp;done) | (simp [*];done));have q3 := stop_at (p := ⟨gb682, 0, none⟩) (v := .int .i64 a2) hb_ (by first | (go_simp;done) | (simp [*];done));have q4 := (Kd.R_far (p := ⟨gb690, 0, none⟩) (Kd.R_far (p := ⟨gb689, 0, none⟩) HO687.out (fun k hk => hk.1.2) (.slice Ao39 t685.length co39)) (fun k hk => hk.2) (.int .i64 t688));exact stop_fn gb689 gb690 gb682 Ao39 co39 t685 t688 a2 x W_ q1 q2 q3 (Kd.C_below (Kd.R_reads' q4).2.2 hb_) (hv_ x hx).1.1 (hv_ x hx).1.2 (hv_ x hx).2);rintro e w' ⟨rfl, ⟨nd, rfl⟩⟩;subst hw_))
   go_ret2
   exact ⟨by first | rfl | (simp [errW_none, errW_some] <;> rfl) | (simp [*, errW_none, errW_some] <;> rfl), by exact bB⟩


/-! ### spec_l2Neighbors: function 104 -/
def spec_l2Neighbors.l0 : Nat → Int → List Int → Int → Int → List (S119) → Option (List Int)
 | 0, _, _, _, _, _ => none
 | k + 1, x1, x5, x6, x693000, x693001 => if x6 < x693000 then ((spec_l2Near.f k x693000 x693001 x1 x6).bind fun t696 => (if t696 = true then (if x5.length < 17592186044416 then (spec_l2Neighbors.l0 k x1 (x5 ++ [x6]) (wrap64 (x6 + 1)) x693000 x693001) else (none)) else (spec_l2Neighbors.l0 k x1 x5 (wrap64 (x6 + 1)) x693000 x693001))) else (some x5)
def spec_l2Neighbors.f (k : Nat) (a0_0 : Int) (l0_1 : List (S119)) (a1 : Int) : Option (List Int) := spec_l2Neighbors.l0 k a1 (([] : List Int)) 0 a0_0 l0_1
theorem spec_l2Neighbors.mono_l : ∀ k, (∀ y0 y1 y2 y3 y4, LeO (spec_l2Neighbors.l0 k y0 y1 y2 y3 y4) (spec_l2Neighbors.l0 (k + 1) y0 y1 y2 y3 y4))
 | 0 => fun _ _ _ _ _ r h => by simp [spec_l2Neighbors.l0] at h
 | k + 1 => by
  have ih0 := spec_l2Neighbors.mono_l k
  ·intro y0 y1 y2 y3 y4
   unfold spec_l2Neighbors.l0
   repeat' first
   | (with_reducible exact ih0 _ _ _ _ _)
   | (with_reducible exact spec_l2Near.mono _ _ _ _ _)
   | (with_reducible exact LeO.refl _)
   | (with_reducible exact LeO.none _)
   | (with_reducible refine LeO.ite ?_ ?_)
   | (with_reducible refine LeO.bind ?_ (fun _ => ?_))
   | exact LeO.none _
   | refine LeO.ite ?_ ?_
   | refine LeO.bind ?_ (fun _ => ?_)
theorem spec_l2Neighbors.mono : ∀ a0 a1 a2 k, LeO (spec_l2Neighbors.f k a0 a1 a2) (spec_l2Neighbors.f (k + 1) a0 a1 a2) := by
 intro a0 a1 a2 k
 have ih0 := spec_l2Neighbors.mono_l k
 unfold spec_l2Neighbors.f
 repeat' first
   | (with_reducible exact ih0 _ _ _ _ _)
   | (with_reducible exact spec_l2Near.mono _ _ _ _ _)
   | (with_reducible exact LeO.refl _)
   | (with_reducible exact LeO.none _)
   | (with_reducible refine LeO.ite ?_ ?_)
   | (with_reducible refine LeO.bind ?_ (fun _ => ?_))
   | exact LeO.none _
   | refine LeO.ite ?_ ?_
   | refine LeO.bind ?_ (fun _ => ?_)
set_option maxHeartbeats 8000000 in
set_option maxRecDepth 100000 in
theorem spec_l2Neighbors.calls (k : Nat) (a0_0 : Int) (A0_1 : Option Addr) (c0_1 : Nat) (l0_1 : List (S119)) (a1 : Int) (r : List Int) (w : World) (hr0_1 : Kd.C k119 w A0_1 l0_1.length l0_1) (hc0_1 : l0_1.length ≤ c0_1) (h : spec_l2Neighbors.f k a0_0 l0_1 a1 = some r) :
  Calls Try.prog 104 #[.agg #[.int .i64 a0_0, .slice A0_1 l0_1.length c0_1], .int .i64 a1] w fun e w' => ∃ v0_ : Value, e = .returned (v0_) ∧ Kd.R (Kd.int .i64) 3 w' w.heap.size (fun _ => True) v0_ r ∧ Below w.heap.size w w' := by
 have hu31 := Try.underlying31
 have HR0_1 := Aside0.mk hr0_1
 have HC0_1 := Aside0.mk hc0_1
 clear hr0_1 hc0_1
 have HB := aM (Below.refl w.heap.size w)
 have H : (spec_l2Neighbors.l0 k a1 (([] : List Int)) 0 a0_0 l0_1) = some r := h
 clear h
 obtain ⟨y693, hy693⟩ : ∃ y_ : List Int, y_ = (([] : List Int)) := ⟨_, rfl⟩
 replace H : (spec_l2Neighbors.l0 k a1 y693 0 a0_0 l0_1) = some r := by first | (rw [hy693];with_reducible exact H) | (have H2_ := (Option.bind_some _ _).symm.trans H;rw [hy693];with_reducible exact H2_) | (have H2_ := (Option.bind_some _ _).symm.trans H;with_reducible exact H2_) | with_reducible exact H | (rw [hy693];exact H) | exact H
 have Ny693 := Aside0.mk hy693
 clear hy693
 have H' := Aside0.mk H
 clear H
 go_enter Try.func104, Try.ntmps104
 go_wp2_with (first | ((with_reducible refine gate_dst (N := 2) rfl ?_);refine box_event ?hg (N := 2) ?hd (cs := #[.int .i64 a0_0, .slice A0_1 l0_1.length c0_1]) (t := 31) ?hr ?_;(case hd => rfl);(case hg => rfl);(case hr => first | (go_simp;done) | (go_simp;rfl));intro gb692 hg w3 hbox hb;have n0_ := aM (below_step (by exact bB) hb);have n1_ := aM (hbox);have n2_ := aM (sW hg : w.heap.size ≤ gb692);have n3_ := aM (sW hg : w.heap.size ≤ gb692);clear HB;have HB := n0_;have BK692 := n1_;have GW692 := n2_;have GE692 := n3_;clear n0_ n1_ n2_ n3_;clear hb hbox hg) | ((with_reducible refine gate_dst (N := 7) rfl ?_);refine Kd.R_lit (Kd.int .i64) _ 3 ?hg (N := 7) ?hd (xs := ([] : List Int)) (inner := []) (ok := fun _ => True) (okp := fun _ => True) ?hr ?hp (fun _ hk => hk) trivial (Below.refl _ _) (Nat.le_refl _) (by simp) ?_;(case hd => rfl);(case hg => rfl);(case hr => first | (go_simp;done) | (go_simp;rfl));(case hp => exact (Reps.none _ _));intro v694 w4 ho5 hb hg_ hnew_;clear hg_ hnew_;(first | rw [← Ny693.out] at ho5 | (simp only [Int.reduceToNat] at ho5;rw [← Ny693.out] at ho5));have n0_ := aM (Kd.R_lower ho5 (below_size (by exact bB)));have n1_ := aM (kB hb BK692.out);have n2_ := aM (below_step (by exact bB) hb);clear BK692;clear HB;have HO695 := n0_;have BK692 := n1_;have HB := n2_;clear n0_ n1_ n2_;clear hb ho5))
 go_loopg [5, 6] k (fun kq v5 v6 w' => ∃ (x5_1 : List Int) (x6_1 : Int), v6 = .int .i64 x6_1 ∧ Aside0 (spec_l2Neighbors.l0 kq a1 x5_1 x6_1 a0_0 l0_1 = some r) ∧ Aside0 (kq ≤ k) ∧ Aside0 (Kd.R (Kd.int .i64) 3 w' w.heap.size (fun _ => True) v5 x5_1) ∧ Aside0 (w'.heap[gb692]? = some (.cells #[.int .i64 a0_0, (.slice A0_1 l0_1.length c0_1)] 31 (0, 0))) ∧ Aside0 (Below w.heap.size w w'))
 case atStart => exact ⟨(y693), (0), (by first | rfl | (simp;done) | (simp [*];done)), H', ⟨Nat.le_refl _⟩, ⟨by exact rP HO695.out⟩, ⟨by exact kP BK692.out⟩, ⟨by exact bB⟩⟩
 case round =>
  clear H'
  try clear c1
  try clear p2
  obtain ⟨x5_1, x6_1, rfl, HA, HK1, HO_5, BK692, HB⟩ := hrel
  cases gk with
  | zero => exact absurd HA.out (by simp [spec_l2Neighbors.l0])
  | succ k1 =>
   have H := HA.out
   clear HA
   simp only [spec_l2Neighbors.l0] at H
   by_cases c6 : x6_1 < a0_0
   rotate_left
   ·rw [if_neg c6] at H
    have c6b0 : decide (x6_1 < a0_0) = false := decide_eq_false c6
    clear c6
    obtain rfl := Option.some.inj H
    have hcz15_0 := bC0 BK692.out
    have hcz15_1 := bC1 BK692.out
    have hfz15_0 := blk_frozen BK692.out 0
    have hfz15_1 := blk_frozen BK692.out 1
    go_wp2
    go_ret
    exact ⟨_, by first | rfl | (simp [errW_none, errW_some] <;> rfl) | (simp [*, errW_none, errW_some] <;> rfl), by exact rP HO_5.out, by exact bB⟩
   rw [if_pos c6] at H
   have c6b0 : decide (x6_1 < a0_0) = true := decide_eq_true c6
   clear c6
   replace H := Option.bind_eq_some_iff.mp H
   obtain ⟨t696, A70, H⟩ := H
   replace H : (if t696 = true then (if x5_1.length < 17592186044416 then (spec_l2Neighbors.l0 k1 a1 (x5_1 ++ [x6_1]) (wrap64 (x6_1 + 1)) a0_0 l0_1) else (none)) else (spec_l2Neighbors.l0 k1 a1 x5_1 (wrap64 (x6_1 + 1)) a0_0 l0_1)) = some r := H
   have A7 := Aside0.mk A70
   clear A70
   by_cases c8 : t696 = true
   rotate_left
   ·replace c8 := Bool.eq_false_iff.mpr c8
    subst c8
    have H1 : (spec_l2Neighbors.l0 k1 a1 x5_1 (wrap64 (x6_1 + 1)) a0_0 l0_1) = some r := by rw [if_neg (show ¬ (false = true) by decide)] at H;exact H
    clear H
    have H := H1
    clear H1
    have H' := Aside0.mk H
    clear H
    have hcz13_0 := bC0 BK692.out
    have hcz13_1 := bC1 BK692.out
    have hfz13_0 := blk_frozen BK692.out 0
    have hfz13_1 := blk_frozen BK692.out 1
    go_wp2_with (first | ((with_reducible refine gate_callee (f := 137) rfl ?_);refine goesL_ (some 17) rfl rfl Try.func137 (by kernel_rfl) rfl #[.agg #[.int .i64 a0_0, .slice A0_1 l0_1.length c0_1], .int .i64 a1, .int .i64 x6_1] rfl mM ?_;(with_reducible refine (spec_l2Near.calls k1 a0_0 _ _ l0_1 a1 x6_1 false _ ?side1 ?side2 A7.out).mono ?_);(case side1 => exact cP (Kd.C_below HR0_1.out HB.out));(case side2 => exact HC0_1.out);rintro e w14 ⟨rfl, hb⟩;refine ⟨_, rfl, ?_⟩;have n0_ := aM (Kd.R_below (by exact rP HO_5.out) hb);have n1_ := aM (kB hb BK692.out);have n2_ := aM (below_step (by exact bB) hb);clear HO_5;clear BK692;clear HB;have HO_5 := n0_;have BK692 := n1_;have HB := n2_;clear n0_ n1_ n2_;(try clear hb);(try clear hb2);(try clear hk);(try clear hi)))
    go_roundg k1
    case measure => have := HK1.out;omega
    case rel => exact ⟨(x5_1), (wrap64 (x6_1 + 1)), (by first | rfl | (simp;done) | (simp [*];done)), H', ⟨by have := HK1.out;omega⟩, ⟨by exact rP HO_5.out⟩, ⟨by exact kP BK692.out⟩, ⟨by exact bB⟩⟩
   subst c8
   have H1 : (if x5_1.length < 17592186044416 then (spec_l2Neighbors.l0 k1 a1 (x5_1 ++ [x6_1]) (wrap64 (x6_1 + 1)) a0_0 l0_1) else (none)) = some r := by rw [if_pos rfl] at H;exact H
   clear H
   have H := H1
   clear H1
   by_cases c9 : x5_1.length < 17592186044416
   rotate_left
   ·rw [if_neg c9] at H
    exact absurd H (by simp)
   rw [if_pos c9] at H
   have LMc9 := Aside0.mk c9
   clear c9
   obtain ⟨y697, hy697⟩ : ∃ y_ : List Int, y_ = (x5_1 ++ [x6_1]) := ⟨_, rfl⟩
   replace H : (spec_l2Neighbors.l0 k1 a1 y697 (wrap64 (x6_1 + 1)) a0_0 l0_1) = some r := by first | (rw [hy697];with_reducible exact H) | (have H2_ := (Option.bind_some _ _).symm.trans H;rw [hy697];with_reducible exact H2_) | (have H2_ := (Option.bind_some _ _).symm.trans H;with_reducible exact H2_) | with_reducible exact H | (rw [hy697];exact H) | exact H
   have Ny697 := Aside0.mk hy697
   clear hy697
   have H' := Aside0.mk H
   clear H
   have hcz10_0 := bC0 BK692.out
   have hcz10_1 := bC1 BK692.out
   have hfz10_0 := blk_frozen BK692.out 0
   have hfz10_1 := blk_frozen BK692.out 1
   go_wp2_with (first | ((with_reducible refine gate_callee (f := 137) rfl ?_);refine goesL_ (some 17) rfl rfl Try.func137 (by kernel_rfl) rfl #[.agg #[.int .i64 a0_0, .slice A0_1 l0_1.length c0_1], .int .i64 a1, .int .i64 x6_1] rfl mM ?_;(with_reducible refine (spec_l2Near.calls k1 a0_0 _ _ l0_1 a1 x6_1 true _ ?side1 ?side2 A7.out).mono ?_);(case side1 => exact cP (Kd.C_below HR0_1.out HB.out));(case side2 => exact HC0_1.out);rintro e w11 ⟨rfl, hb⟩;refine ⟨_, rfl, ?_⟩;have n0_ := aM (Kd.R_below (by exact rP HO_5.out) hb);have n1_ := aM (kB hb BK692.out);have n2_ := aM (below_step (by exact bB) hb);clear HO_5;clear BK692;clear HB;have HO_5 := n0_;have BK692 := n1_;have HB := n2_;clear n0_ n1_ n2_;(try clear hb);(try clear hb2);(try clear hk);(try clear hi)) | ((with_reducible refine gate_builtin (b := .append) (xs := #[.tmp 18, .tmp 20]) rfl ?_);at_builtin;refine Kd.R_append (Kd.int .i64) (w0 := w) w.heap.size rfl (.tmp 18) (.tmp 20) 28 3 (.int .i64 0) 8 rfl Try.underlying28 info3 rfl (by decide) (by omega) u5 x5_1 x6_1 [.int .i64 x6_1] (fun _ => True) (fun _ => False) rfl rfl ?aP (fun _ hk => hk.elim) ?aF ?aO ?aB ?aS ?aL ?_;(case aP => exact rfl);(case aB => exact (by exact bB));(case aF => exact (fun _ _ => trivial));(case aO => exact (by exact rP HO_5.out));(case aS => exact (below_size (by exact bB)));(case aL => have := LMc9.out;omega);intro v698 w12 ho hb hg hat;rw [← Ny697.out] at ho;have n0_ := aM (blk_grown (g := gb692) (o := .cells #[.int .i64 a0_0, .slice A0_1 l0_1.length c0_1] 31 (0, 0)) (by exact kP BK692.out) hg (Kd.R_ne HO_5.out BK692.out (by decide)));have n1_ := aM (hb);have n2_ := aM (ho);clear BK692;clear HB;clear HO_5;have BK692 := n0_;have HB := n1_;have HO699 := n2_;clear n0_ n1_ n2_;clear ho hb hg hat))
   go_roundg k1
   case measure => have := HK1.out;omega
   case rel => exact ⟨(y697), (wrap64 (x6_1 + 1)), (by first | rfl | (simp;done) | (simp [*];done)), H', ⟨by have := HK1.out;omega⟩, ⟨by exact rP HO699.out⟩, ⟨by exact kP BK692.out⟩, ⟨by exact bB⟩⟩


end Go.Proofs.Ytmokkhfmbenleaa.QSpreading
