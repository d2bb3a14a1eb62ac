import Derived.Test.YtmokkhfmbenleaaQSavedSum0
import Derived.Test.YtmokkhfmbenleaaQSavedSum2
import Derived.Test.YtmokkhfmbenleaaQSavedSum3
import Derived.Test.YtmokkhfmbenleaaQSavedSum9
namespace Go.Proofs.Ytmokkhfmbenleaa.QSavedSum
open Go.RowKit Go.Proofs.YtmokkhfmbenleaaW.PrintWords Go.Proofs.YtmokkhfmbenleaaW.PrintLast Go.Proofs.YtmokkhfmbenleaaW.PrintMore
attribute [local go_sem] max2_int min2_int max_two min_two max_three min_three max_four min_four   -- for this text's walks alone
set_option linter.unusedVariables false
set_option linter.unusedSimpArgs false
/-! ### impl_SavedSum: function 31 -/
mutual
def impl_SavedSum.j0 : Nat → Int → Bool → Int → List (S119) → Option (Int × Bool)
 | 0, _, _, _, _ => none
 | k + 1, x1, x17, x644000, x644001 => if x17 = true then (some (0, false)) else (impl_SavedSum.l0 k x1 0 x644000 0 x644000 x644001)
def impl_SavedSum.l0 : Nat → Int → Int → Int → Int → Int → List (S119) → Option (Int × Bool)
 | 0, _, _, _, _, _, _ => none
 | k + 1, x1, x6, x19, x20, x644000, x644001 => if x20 < x19 then ((impl_netOf.f x644000 x644001).bind fun t646 => (if 0 ≤ x20 then ((impl_net_fightFire.f k t646 (shl .i64 1 x20) 0 x1).bind fun bt649 => (impl_SavedSum.l0 k x1 (wrap64 (x6 + bt649.1)) x19 (wrap64 (x20 + 1)) x644000 x644001)) else (none))) else (some (x6, true))
end
def impl_SavedSum.f (k : Nat) (a0_0 : Int) (l0_1 : List (S119)) (a1 : Int) : Option (Int × Bool) := (impl_IsGraph.f a0_0 l0_1).bind fun t644 => (if t644 = true then ((impl_within.f a1 0 3).bind fun t645 => (impl_SavedSum.j0 k a1 (!t645) a0_0 l0_1)) else (impl_SavedSum.j0 k a1 true a0_0 l0_1))
theorem impl_SavedSum.mono_l : ∀ k, (∀ y0 y1 y2 y3, LeO (impl_SavedSum.j0 k y0 y1 y2 y3) (impl_SavedSum.j0 (k + 1) y0 y1 y2 y3)) ∧ (∀ y0 y1 y2 y3 y4 y5, LeO (impl_SavedSum.l0 k y0 y1 y2 y3 y4 y5) (impl_SavedSum.l0 (k + 1) y0 y1 y2 y3 y4 y5))
 | 0 => ⟨fun _ _ _ _ r h => by simp [impl_SavedSum.j0] at h, fun _ _ _ _ _ _ r h => by simp [impl_SavedSum.l0] at h⟩
 | k + 1 => by
  obtain ⟨ih0, ih1⟩ := impl_SavedSum.mono_l k
  refine ⟨?_, ?_⟩
  ·intro y0 y1 y2 y3
   unfold impl_SavedSum.j0
   repeat' first
   | (with_reducible exact ih0 _ _ _ _)
   | (with_reducible exact ih1 _ _ _ _ _ _)
   | (with_reducible exact impl_net_fightFire.mono _ _ _ _ _)
   | (with_reducible exact LeO.refl _)
   | (with_reducible exact LeO.none _)
   | (with_reducible refine LeO.ite ?_ ?_)
   | (with_reducible refine LeO.bind ?_ (fun _ => ?_))
   | exact ih0 _ _ _ _
   | exact ih1 _ _ _ _ _ _
   | exact impl_net_fightFire.mono _ _ _ _ _
   | exact LeO.none _
   | refine LeO.ite ?_ ?_
   | refine LeO.bind ?_ (fun _ => ?_)
  ·intro y0 y1 y2 y3 y4 y5
   unfold impl_SavedSum.l0
   repeat' first
   | (with_reducible exact ih0 _ _ _ _)
   | (with_reducible exact ih1 _ _ _ _ _ _)
   | (with_reducible exact impl_net_fightFire.mono _ _ _ _ _)
   | (with_reducible exact LeO.refl _)
   | (with_reducible exact LeO.none _)
   | (with_reducible refine LeO.ite ?_ ?_)
   | (with_reducible refine LeO.bind ?_ (fun _ => ?_))
   | exact ih0 _ _ _ _
   | exact ih1 _ _ _ _ _ _
   | exact impl_net_fightFire.mono _ _ _ _ _
   | exact LeO.none _
   | refine LeO.ite ?_ ?_
   | refine LeO.bind ?_ (fun _ => ?_)
theorem impl_SavedSum.mono : ∀ a0 a1 a2 k, LeO (impl_SavedSum.f k a0 a1 a2) (impl_SavedSum.f (k + 1) a0 a1 a2) := by
 intro a0 a1 a2 k
 obtain ⟨ih0, ih1⟩ := impl_SavedSum.mono_l k
 unfold impl_SavedSum.f
 repeat' first
   | (with_reducible exact ih0 _ _ _ _)
   | (with_reducible exact ih1 _ _ _ _ _ _)
   | (with_reducible exact impl_net_fightFire.mono _ _ _ _ _)
   | (with_reducible exact LeO.refl _)
   | (with_reducible exact LeO.none _)
   | (with_reducible refine LeO.ite ?_ ?_)
   | (with_reducible refine LeO.bind ?_ (fun _ => ?_))
   | exact ih0 _ _ _ _
   | exact ih1 _ _ _ _ _ _
   | exact impl_net_fightFire.mono _ _ _ _ _
   | exact LeO.none _
   | refine LeO.ite ?_ ?_
   | refine LeO.bind ?_ (fun _ => ?_)
def impl_SavedSum.T7 : Bool × List (List Nat × List Nat) := (true, [([], []), ([0], [0]), ([], []), ([2], [2]), ([3], [3]), ([], []), ([1, 4, 5, 1], [1, 4, 5]), ([6], [6]), ([7], [7]), ([7], [7]), ([8, 6, 0, 1, 2, 3, 4, 5, 6, 7, 8], [8]), ([9, 10, 0, 1, 2, 3, 4, 5, 6, 7, 8, 9, 10], [9])])
def impl_SavedSum.B7 : List Nat := [0, 1, 0, 4, 12, 0, 63, 127, 255, 255, 511, 2047]
theorem impl_SavedSum.tab7 : rtab .any (opsOf Try.f31 7) = impl_SavedSum.T7 := by kernel_rfl
theorem impl_SavedSum.bits7 : waitsOk impl_SavedSum.T7.2 impl_SavedSum.B7 = true := by kernel_rfl
set_option maxHeartbeats 8000000 in
set_option maxRecDepth 100000 in
theorem impl_SavedSum.calls (k : Nat) (a0_0 : Int) (A0_1 : Option Addr) (c0_1 : Nat) (l0_1 : List (S119)) (a1 : Int) (r1 : Int) (r2 : Bool) (w : World) (hr0_1 : Kd.C k119 w A0_1 l0_1.length l0_1) (hc0_1 : l0_1.length ≤ c0_1) (h : impl_SavedSum.f k a0_0 l0_1 a1 = some (r1, r2)) :
  Calls Try.prog 31 #[.agg #[.int .i64 a0_0, .slice A0_1 l0_1.length c0_1], .int .i64 a1] w fun e w' => e = .returned (.tuple #[.int .i64 r1, .bool r2]) ∧ Below w.heap.size w w' := by
 have hu31 := Try.underlying31
 have hu75 := Try.underlying75
 have HR0_1 := Aside0.mk hr0_1
 have HC0_1 := Aside0.mk hc0_1
 clear hr0_1 hc0_1
 have HB := aM (Below.refl w.heap.size w)
 have H : ((impl_IsGraph.f a0_0 l0_1).bind fun t644 => (if t644 = true then ((impl_within.f a1 0 3).bind fun t645 => (impl_SavedSum.j0 k a1 (!t645) a0_0 l0_1)) else (impl_SavedSum.j0 k a1 true a0_0 l0_1))) = some (r1, r2) := h
 clear h
 have HC3 := Aside0.mk H
 clear H
 go_enter Try.func31, Try.ntmps31
 go_upto_region 1 with (first | ((with_reducible refine gate_dst (N := 2) rfl ?_);refine box_event ?hg (N := 2) ?hd (cs := #[.int .i64 a0_0, .slice A0_1 l0_1.length c0_1]) (t := 31) ?hr ?_;(case hd => rfl);(case hg => rfl);(case hr => first | (go_simp;done) | (go_simp;rfl));intro gb643 hg w4 hbox hb;have n0_ := aM (below_step (by exact bB) hb);have n1_ := aM (hbox);have n2_ := aM ((by rw [hg];exact (below_size (by exact bB)) : w.heap.size ≤ gb643));have n3_ := aM ((by rw [hg];exact (below_size (by exact bB)) : w.heap.size ≤ gb643));clear HB;have HB := n0_;have BK643 := n1_;have GW643 := n2_;have GE643 := n3_;clear n0_ n1_ n2_ n3_;clear hb hbox hg))
 (try simp only [Act.put, List.setIfInBounds_toArray, List.set_cons_zero, List.set_cons_succ])
 go_cut [17] (fun v17 wc => ∃ (kq : Nat) (x17_2 : Bool), v17 = .bool x17_2 ∧ Aside0 (impl_SavedSum.j0 kq a1 x17_2 a0_0 l0_1 = some (r1, r2)) ∧ Aside0 (kq ≤ k) ∧ Aside0 (wc.heap[gb643]? = some (.cells #[.int .i64 a0_0, (.slice A0_1 l0_1.length c0_1)] 31 (0, 0))) ∧ Aside0 (Below w.heap.size w wc))
 case first =>
  have H := HC3.out
  clear HC3
  replace H := Option.bind_eq_some_iff.mp H
  obtain ⟨t644, A50, H⟩ := H
  replace H : (if t644 = true then ((impl_within.f a1 0 3).bind fun t645 => (impl_SavedSum.j0 k a1 (!t645) a0_0 l0_1)) else (impl_SavedSum.j0 k a1 true a0_0 l0_1)) = some (r1, r2) := H
  have A5 := Aside0.mk A50
  clear A50
  by_cases c6 : t644 = true
  rotate_left
  ·replace c6 := Bool.eq_false_iff.mpr c6
   subst c6
   have H1 : (impl_SavedSum.j0 k a1 true a0_0 l0_1) = some (r1, r2) := by rw [if_neg (show ¬ (false = true) by decide)] at H;exact H
   clear H
   have H := H1
   clear H1
   have H' := Aside0.mk H
   clear H
   have hcz10_0 : w4.cell? ⟨gb643, 0, none⟩ = some (.int .i64 a0_0) := (blk_cell BK643.out 0).trans rfl
   have hcz10_1 : w4.cell? ⟨gb643, 1, none⟩ = some (.slice A0_1 l0_1.length c0_1) := (blk_cell BK643.out 1).trans rfl
   have hfz10_0 := blk_frozen BK643.out 0
   have hfz10_1 := blk_frozen BK643.out 1
   go_wp2_with (first | ((with_reducible refine gate_callee (f := 81) rfl ?_);refine goesL_ (some 11) rfl rfl Try.func81 (by kernel_rfl) rfl #[.agg #[.int .i64 a0_0, .slice A0_1 l0_1.length c0_1]] rfl mM ?_;(with_reducible refine (impl_IsGraph.calls a0_0 _ _ l0_1 false _ ?side1 ?side2 A5.out).mono ?_);(case side1 => exact cP (Kd.C_below HR0_1.out HB.out));(case side2 => exact HC0_1.out);rintro e w11 ⟨rfl, hb⟩;refine ⟨_, rfl, ?_⟩;have n0_ := aM (blk_below (g := gb643) (o := .cells #[.int .i64 a0_0, .slice A0_1 l0_1.length c0_1] 31 (0, 0)) (by exact kP BK643.out) hb);have n1_ := aM (below_step (by exact bB) hb);clear BK643;clear HB;have BK643 := n0_;have HB := n1_;clear n0_ n1_;(try clear hb);(try clear hb2);(try clear hk);(try clear hi)))
   go_meet
   case rel => exact ⟨_, (true), (by first | rfl | (simp;done) | (simp [*];done)), H', ⟨by first | omega | exact Nat.le_refl _⟩, ⟨by exact kP BK643.out⟩, ⟨by exact bB⟩⟩
  subst c6
  have H1 : ((impl_within.f a1 0 3).bind fun t645 => (impl_SavedSum.j0 k a1 (!t645) a0_0 l0_1)) = some (r1, r2) := by rw [if_pos rfl] at H;exact H
  clear H
  have H := H1
  clear H1
  replace H := Option.bind_eq_some_iff.mp H
  obtain ⟨t645, A70, H⟩ := H
  replace H : (impl_SavedSum.j0 k a1 (!t645) a0_0 l0_1) = some (r1, r2) := H
  have A7 := Aside0.mk A70
  clear A70
  have H' := Aside0.mk H
  clear H
  have hcz8_0 : w4.cell? ⟨gb643, 0, none⟩ = some (.int .i64 a0_0) := (blk_cell BK643.out 0).trans rfl
  have hcz8_1 : w4.cell? ⟨gb643, 1, none⟩ = some (.slice A0_1 l0_1.length c0_1) := (blk_cell BK643.out 1).trans rfl
  have hfz8_0 := blk_frozen BK643.out 0
  have hfz8_1 := blk_frozen BK643.out 1
  go_wp2_with (first | ((with_reducible refine gate_callee (f := 81) rfl ?_);refine goesL_ (some 11) rfl rfl Try.func81 (by kernel_rfl) rfl #[.agg #[.int .i64 a0_0, .slice A0_1 l0_1.length c0_1]] rfl mM ?_;(with_reducible refine (impl_IsGraph.calls a0_0 _ _ l0_1 true _ ?side1 ?side2 A5.out).mono ?_);(case side1 => exact cP (Kd.C_below HR0_1.out HB.out));(case side2 => exact HC0_1.out);rintro e w9 ⟨rfl, hb⟩;refine ⟨_, rfl, ?_⟩;have n0_ := aM (blk_below (g := gb643) (o := .cells #[.int .i64 a0_0, .slice A0_1 l0_1.length c0_1] 31 (0, 0)) (by exact kP BK643.out) hb);have n1_ := aM (below_step (by exact bB) hb);clear BK643;clear HB;have BK643 := n0_;have HB := n1_;clear n0_ n1_;(try clear hb);(try clear hb2);(try clear hk);(try clear hi)) | (go_at_call 82;(with_reducible refine (impl_within.calls a1 0 3 t645 _ A7.out).mono ?_);rintro e w' ⟨rfl, ⟨nd, rfl⟩⟩))
  go_meet
  case rel => exact ⟨_, (!t645), (by first | rfl | (simp;done) | (simp [*];done)), H', ⟨by first | omega | exact Nat.le_refl _⟩, ⟨by exact kP BK643.out⟩, ⟨by exact bB⟩⟩
 case rest =>
  clear HC3
  try clear p2
  try clear c3
  try clear c6
  try clear c8
  try clear hcz10_0
  try clear hcz10_1
  try clear hcz8_0
  try clear hcz8_1
  try clear hfz10_0
  try clear hfz10_1
  try clear hfz8_0
  try clear hfz8_1
  obtain ⟨kq, x17_2, rfl, HA, HJ2, BK643, HB⟩ := hcut
  cases kq with
  | zero => exact absurd HA.out (by simp [impl_SavedSum.j0])
  | succ kj2 =>
   have H := HA.out
   clear HA
   simp only [impl_SavedSum.j0] at H
   by_cases c12 : x17_2 = true
   ·subst c12
    have H1 : (some (0, false)) = some (r1, r2) := by rw [if_pos rfl] at H;exact H
    clear H
    have H := H1
    clear H1
    simp only [Option.some.injEq, Prod.mk.injEq] at H
    obtain ⟨rfl, rfl⟩ := H
    go_wp2
    go_ret2
    exact ⟨by first | rfl | (simp [errW_none, errW_some] <;> rfl) | (simp [*, errW_none, errW_some] <;> rfl), by exact bB⟩
   replace c12 := Bool.eq_false_iff.mpr c12
   subst c12
   have H1 : (impl_SavedSum.l0 kj2 a1 0 a0_0 0 a0_0 l0_1) = some (r1, r2) := by rw [if_neg (show ¬ (false = true) by decide)] at H;exact H
   clear H
   have H := H1
   clear H1
   have H' := Aside0.mk H
   clear H
   have hcz13_0 : wc.cell? ⟨gb643, 0, none⟩ = some (.int .i64 a0_0) := (blk_cell BK643.out 0).trans rfl
   have hcz13_1 : wc.cell? ⟨gb643, 1, none⟩ = some (.slice A0_1 l0_1.length c0_1) := (blk_cell BK643.out 1).trans rfl
   have hfz13_0 := blk_frozen BK643.out 0
   have hfz13_1 := blk_frozen BK643.out 1
   go_wp2
   go_loopg [6, 20] kj2 (fun kq v6 v20 w' => ∃ (x6_2 : Int) (x20_2 : Int), v6 = .int .i64 x6_2 ∧ v20 = .int .i64 x20_2 ∧ Aside0 (impl_SavedSum.l0 kq a1 x6_2 a0_0 x20_2 a0_0 l0_1 = some (r1, r2)) ∧ Aside0 (kq ≤ kj2) ∧ Aside0 (w'.heap[gb643]? = some (.cells #[.int .i64 a0_0, (.slice A0_1 l0_1.length c0_1)] 31 (0, 0))) ∧ Aside0 (Below w.heap.size w w'))
   case atStart => exact ⟨(0), (0), (by first | rfl | (simp;done) | (simp [*];done)), (by first | rfl | (simp;done) | (simp [*];done)), H', ⟨Nat.le_refl _⟩, ⟨by exact kP BK643.out⟩, ⟨by exact bB⟩⟩
   case round =>
    clear H'
    try clear c1
    try clear p2
    try clear c3
    try clear c6
    try clear c8
    try clear c12
    try clear hcz10_0
    try clear hcz10_1
    try clear hcz13_0
    try clear hcz13_1
    try clear hcz8_0
    try clear hcz8_1
    try clear hfz10_0
    try clear hfz10_1
    try clear hfz13_0
    try clear hfz13_1
    try clear hfz8_0
    try clear hfz8_1
    try clear p2
    obtain ⟨x6_2, x20_2, rfl, rfl, HA, HK2, BK643, HB⟩ := hrel
    cases gk with
    | zero => exact absurd HA.out (by simp [impl_SavedSum.l0])
    | succ k2 =>
     have H := HA.out
     clear HA
     simp only [impl_SavedSum.l0] at H
     by_cases c14 : x20_2 < a0_0
     rotate_left
     ·rw [if_neg c14] at H
      have c14b0 : decide (x20_2 < a0_0) = false := decide_eq_false c14
      clear c14
      simp only [Option.some.injEq, Prod.mk.injEq] at H
      obtain ⟨rfl, rfl⟩ := H
      go_wp2
      go_ret2
      exact ⟨by first | rfl | (simp [errW_none, errW_some] <;> rfl) | (simp [*, errW_none, errW_some] <;> rfl), by exact bB⟩
     rw [if_pos c14] at H
     have c14b0 : decide (x20_2 < a0_0) = true := decide_eq_true c14
     clear c14
     replace H := Option.bind_eq_some_iff.mp H
     obtain ⟨t646, A150, H⟩ := H
     replace H : (if 0 ≤ x20_2 then ((impl_net_fightFire.f k2 t646 (shl .i64 1 x20_2) 0 a1).bind fun bt649 => (impl_SavedSum.l0 k2 a1 (wrap64 (x6_2 + bt649.1)) a0_0 (wrap64 (x20_2 + 1)) a0_0 l0_1)) else (none)) = some (r1, r2) := H
     have A15 := Aside0.mk A150
     clear A150
     by_cases c16 : 0 ≤ x20_2
     rotate_left
     ·rw [if_neg c16] at H
      exact absurd H (by simp)
     rw [if_pos c16] at H
     have c16b0 := eq_true c16
     have c16b1 : decide (0 ≤ x20_2) = true := decide_eq_true c16
     clear c16
     obtain ⟨ji17, hji17⟩ : ∃ j_ : Int, (shl .i64 1 x20_2) = j_ := ⟨_, rfl⟩
     replace H : ((impl_net_fightFire.f k2 t646 (ji17) 0 a1).bind fun bt649 => (impl_SavedSum.l0 k2 a1 (wrap64 (x6_2 + bt649.1)) a0_0 (wrap64 (x20_2 + 1)) a0_0 l0_1)) = some (r1, r2) := by first | (rw [hji17] at H;exact H) | (simp only [hji17] at H ⊢;exact H)
     (try rw [hji17] at A15)
     have hji17_ : (IntKind.i64.wrap (1 * 2 ^ min x20_2.toNat 64)) = ji17 := hji17
     have hji17z : x20_2 ≤ 64 → (IntKind.i64.wrap (1 * 2 ^ x20_2.toNat)) = ji17 := shl_small hji17
     have hji17u : (IntKind.i64.wrap (2 ^ min x20_2.toNat 64)) = ji17 := by have h_ := hji17_;rw [Int.one_mul] at h_;exact h_
     have hji17v : x20_2 ≤ 64 → (IntKind.i64.wrap (2 ^ x20_2.toNat)) = ji17 := fun hle_ => by have h_ := hji17z hle_;rw [Int.one_mul] at h_;exact h_
     have hji17y : (wrap64 (1 * 2 ^ min x20_2.toNat 64)) = ji17 := (i64_w _).symm.trans hji17_
     have hji17x : x20_2 ≤ 64 → (wrap64 (1 * 2 ^ x20_2.toNat)) = ji17 := fun h_ => (i64_w _).symm.trans (hji17z h_)
     replace H := Option.bind_eq_some_iff.mp H
     obtain ⟨⟨t649, t650⟩, A180, H⟩ := H
     replace H : (impl_SavedSum.l0 k2 a1 (wrap64 (x6_2 + t649)) a0_0 (wrap64 (x20_2 + 1)) a0_0 l0_1) = some (r1, r2) := H
     have A18 := Aside0.mk A180
     clear A180
     have H' := Aside0.mk H
     clear H
     try go_wp2
     have n0_ := aM (blk_drew BK643.out)
     have n1_ := aM (below_drew1 HB.out)
     clear BK643
     clear HB
     have BK643 := n0_
     have HB := n1_
     clear n0_ n1_
     refine start_ (n := 12) (S := fun w' => w'.cell? ⟨gb643, 0, none⟩ = some (.int .i64 a0_0) ∧ w'.cell? ⟨gb643, 1, none⟩ = some (.slice A0_1 l0_1.length c0_1)) (ds := []) #[false,false,false,false,false,false,false,false,false,false,false,false] (by kernel_rfl) rfl rfl ⟨(blk_cell BK643.out 0).trans rfl, (blk_cell BK643.out 1).trans rfl⟩ (fun hHeld => ?_);refine with_tabW impl_SavedSum.tab7 impl_SavedSum.bits7 (fun HT_ HW_ => ?_)
     generalize wr.drew = w19 at BK643 HB hHeld ⊢
     refine pure_ (i := 2) (N := some 26) (v := ?_) (a' := ?_) #[false,false,true,false,false,false,false,false,false,false,false,false] rfl rfl (any_of HT_.out (by kernel_rfl)) (fun _ _ _ h => h) (Or.inl ⟨by rfl, ?_⟩) ?_ ?_
     rotate_left
     ·intro w'
      go_simp
      with_reducible rfl
     rotate_left
     ·exact aP
     refine pure_ (i := 3) (N := some 27) (v := ?_) (a' := ?_) #[false,false,true,true,false,false,false,false,false,false,false,false] rfl rfl (any_of HT_.out (by kernel_rfl)) (fun _ _ _ h => h) (Or.inl ⟨by rfl, ?_⟩) ?_ ?_
     rotate_left
     ·intro w'
      go_simp
      with_reducible rfl
     rotate_left
     ·exact aP
     refine pure_ (i := 4) (N := some 28) (v := ?_) (a' := ?_) #[false,false,true,true,true,false,false,false,false,false,false,false] rfl rfl (any_of HT_.out (by kernel_rfl)) (fun _ _ _ h => h) (Or.inl ⟨by rfl, ?_⟩) ?_ ?_
     rotate_left
     ·intro w'
      go_simp
      with_reducible rfl
     rotate_left
     ·exact aP
     refine pure_ (i := 5) (N := some 29) (v := ?_) (a' := ?_) #[false,false,true,true,true,true,false,false,false,false,false,false] rfl rfl (any_of HT_.out (by kernel_rfl)) (fun _ _ _ h => h) (Or.inl ⟨by rfl, ?_⟩) ?_ ?_
     rotate_left
     ·intro w'
      go_simp
      with_reducible rfl
     rotate_left
     ·exact aP
     refine take_ (i := 0) (N := some 24) (v := ?_) (a' := ?_) #[true,false,true,true,true,true,false,false,false,false,false,false] rfl rfl (take_ofW HT_.out HW_.out (by kernel_rfl)) (fun _ _ _ h => h) (Or.inl ⟨by rfl, ?_⟩) hHeld ?_ ?_
     rotate_left
     ·rintro w' ⟨s0, s1⟩
      go_simp
      with_reducible rfl
     rotate_left
     ·exact aP
     refine one_ (i := 1) (N := some 25) #[true,true,true,true,true,true,false,false,false,false,false,false] rfl rfl (one_of HT_.out (by kernel_rfl)) (by decide) (fun K hK => ?_)
     refine goes_ Try.func72 (by kernel_rfl) rfl #[.agg #[.int .i64 a0_0, .slice A0_1 l0_1.length c0_1]] (by rfl) rfl rfl mM ?_
     with_reducible refine (impl_netOf.calls a0_0 _ _ l0_1 t646 _ ?side1 ?side2 A15.out).mono ?_
     (case side1 => exact cP (Kd.C_below HR0_1.out HB.out))
     (case side2 => exact HC0_1.out)
     rintro e w20 ⟨v647, rfl, ho0, hb⟩
     refine ⟨_, rfl, ?_⟩
     have n0_ := aM (Kd.R_lower ho0 (below_size (by exact bB)))
     have n1_ := aM (blk_below (g := gb643) (o := .cells #[.int .i64 a0_0, .slice A0_1 l0_1.length c0_1] 31 (0, 0)) (by exact kP BK643.out) hb)
     have n2_ := aM (below_step (by exact bB) hb)
     clear BK643
     clear HB
     have HO648 := n0_
     have BK643 := n1_
     have HB := n2_
     clear n0_ n1_ n2_
     (try clear hb)
     (try clear hb2)
     (try clear hk)
     (try clear hi)
     (try clear ho0)
     obtain ⟨Ao21, co21, eo21⟩ := Kd.R_slice HO648.out
     (first | subst eo21 | (injection eo21 with f1_ f2_ f3_;have f4_ := f1_.symm;have f5_ := f3_.symm;clear f1_ f2_ f3_;subst f4_;subst f5_))
     refine hK.out _ _ ⟨(blk_cell BK643.out 0).trans rfl, (blk_cell BK643.out 1).trans rfl⟩ (fun hHeld => ?_)
     clear hK K
     refine norm_ (a' := ?_) ?_ ?_
     rotate_left
     ·show Act.put _ (some 25) _ = _
      simp only [Act.put, List.setIfInBounds_toArray, List.set_cons_zero, List.set_cons_succ, i64_w, i32_w]
      rfl
     refine one_ (i := 6) (N := some 30) #[true,true,true,true,true,true,true,false,false,false,false,false] rfl rfl (one_of HT_.out (by kernel_rfl)) (by decide) (fun K hK => ?_)
     refine goes_ Try.func77 (by kernel_rfl) rfl #[.agg #[.slice Ao21 t646.length co21], .agg #[.int .i64 ji17, .int .i64 0], .int .i64 a1] (by rfl) rfl rfl (by (try simp only [List.map_toArray, List.map_cons, List.map_nil]);first | done | (simp only [hji17];rfl) | rfl | (simp only [List.length_drop, List.length_take];rfl)) ?_
     with_reducible refine (impl_net_fightFire.calls k2 _ _ t646 ji17 0 a1 t649 t650 _ ?side1 ?side2 A18.out).mono ?_
     (case side1 => exact cP (Kd.R_reads' HO648.out).2.2)
     (case side2 => exact (Kd.R_reads' HO648.out).2.1)
     rintro e w22 ⟨v651, rfl, ho0, hb⟩
     refine ⟨_, rfl, ?_⟩
     have n0_ := aM (Kd.R_below (by exact rP HO648.out) hb)
     have n1_ := aM (Kd.N_lower (Kd.N_mono (ok' := fun k_ => some k_ ≠ (.slice Ao21 t646.length co21 : Value).ownBlock ∧ k_ ≠ gb643) ho0 (fun k_ hk_ => ⟨(Kd.fresh' (Kd.R_lt (by exact rP HO648.out)) k_ hk_), (Kd.freshB (g := gb643) (o := .cells #[.int .i64 a0_0, .slice A0_1 l0_1.length c0_1] 31 (0, 0)) (by exact kP BK643.out) k_ hk_)⟩)) (below_size (by exact bB)))
     have n2_ := aM (blk_below (g := gb643) (o := .cells #[.int .i64 a0_0, .slice A0_1 l0_1.length c0_1] 31 (0, 0)) (by exact kP BK643.out) hb)
     have n3_ := aM (below_step (by exact bB) hb)
     clear HO648
     clear BK643
     clear HB
     have HO648 := n0_
     have HO652 := n1_
     have BK643 := n2_
     have HB := n3_
     clear n0_ n1_ n2_ n3_
     (try clear hb)
     (try clear hb2)
     (try clear hk)
     (try clear hi)
     (try clear ho0)
     refine hK.out _ _ ⟨(blk_cell BK643.out 0).trans rfl, (blk_cell BK643.out 1).trans rfl⟩ (fun hHeld => ?_)
     clear hK K
     refine norm_ (a' := ?_) ?_ ?_
     rotate_left
     ·show Act.put _ (some 30) _ = _
      simp only [Act.put, List.setIfInBounds_toArray, List.set_cons_zero, List.set_cons_succ, i64_w, i32_w]
      rfl
     refine pure_ (i := 7) (N := some 23) (v := ?_) (a' := ?_) #[true,true,true,true,true,true,true,true,false,false,false,false] rfl rfl (any_of HT_.out (by kernel_rfl)) (fun _ _ _ h => h) (Or.inl ⟨by rfl, ?_⟩) ?_ ?_
     rotate_left
     ·intro w'
      go_simp
      with_reducible rfl
     rotate_left
     ·exact aP
     refine pure_ (i := 8) (N := some 31) (v := ?_) (a' := ?_) #[true,true,true,true,true,true,true,true,true,false,false,false] rfl rfl (any_of HT_.out (by kernel_rfl)) (fun _ _ _ h => h) (Or.inl ⟨by rfl, ?_⟩) ?_ ?_
     rotate_left
     ·intro w'
      go_simp
      with_reducible rfl
     rotate_left
     ·exact aP
     refine pure_ (i := 9) (N := some 32) (v := ?_) (a' := ?_) #[true,true,true,true,true,true,true,true,true,true,false,false] rfl rfl (any_of HT_.out (by kernel_rfl)) (fun _ _ _ h => h) (Or.inl ⟨by rfl, ?_⟩) ?_ ?_
     rotate_left
     ·intro w'
      go_simp
      with_reducible rfl
     rotate_left
     ·exact aP
     refine pure_ (i := 10) (N := some 8) (v := ?_) (a' := ?_) #[true,true,true,true,true,true,true,true,true,true,true,false] rfl rfl (any_of HT_.out (by kernel_rfl)) (fun _ _ _ h => h) (Or.inl ⟨by rfl, ?_⟩) ?_ ?_
     rotate_left
     ·intro w'
      go_simp
      with_reducible rfl
     rotate_left
     ·exact aP
     refine pure_ (i := 11) (N := some 9) (v := ?_) (a' := ?_) #[true,true,true,true,true,true,true,true,true,true,true,true] rfl rfl (any_of HT_.out (by kernel_rfl)) (fun _ _ _ h => h) (Or.inl ⟨by rfl, ?_⟩) ?_ ?_
     rotate_left
     ·intro w'
      go_simp
      with_reducible rfl
     rotate_left
     ·exact aP
     refine done_ (done_of HT_.out (by kernel_rfl)) ?_
     try go_wp2
     go_roundg k2
     case measure => have := HJ2.out;have := HK2.out;omega
     case rel => exact ⟨(wrap64 (x6_2 + t649)), (wrap64 (x20_2 + 1)), (by first | rfl | (simp;done) | (simp [*];done)), (by first | rfl | (simp;done) | (simp [*];done)), H', ⟨by have := HJ2.out;have := HK2.out;omega⟩, ⟨by exact kP BK643.out⟩, ⟨by exact bB⟩⟩


/-! ### spec_l8Free: function 124 -/
def spec_l8Free.l0 : Nat → List Int → Int → Int → List (S119) → List Int → List Int → Option (List Int)
 | 0, _, _, _, _, _, _ => none
 | k + 1, x5, x6, x654000, x654001, x655000, x655001 => if x6 < x654000 then ((spec_l1Has.f k x655000 x6).bind fun t658 => (if t658 = true then (spec_l8Free.l0 k x5 (wrap64 (x6 + 1)) x654000 x654001 x655000 x655001) else ((spec_l1Has.f k x655001 x6).bind fun t659 => (if t659 = true then (spec_l8Free.l0 k x5 (wrap64 (x6 + 1)) x654000 x654001 x655000 x655001) else (if x5.length < 17592186044416 then (spec_l8Free.l0 k (x5 ++ [x6]) (wrap64 (x6 + 1)) x654000 x654001 x655000 x655001) else (none)))))) else (some x5)
def spec_l8Free.f (k : Nat) (a0_0 : Int) (l0_1 : List (S119)) (l1_0 : List Int) (l1_1 : List Int) : Option (List Int) := spec_l8Free.l0 k (([] : List Int)) 0 a0_0 l0_1 l1_0 l1_1
theorem spec_l8Free.mono_l : ∀ k, (∀ y0 y1 y2 y3 y4 y5, LeO (spec_l8Free.l0 k y0 y1 y2 y3 y4 y5) (spec_l8Free.l0 (k + 1) y0 y1 y2 y3 y4 y5))
 | 0 => fun _ _ _ _ _ _ r h => by simp [spec_l8Free.l0] at h
 | k + 1 => by
  have ih0 := spec_l8Free.mono_l k
  ·intro y0 y1 y2 y3 y4 y5
   unfold spec_l8Free.l0
   repeat' first
   | (with_reducible exact ih0 _ _ _ _ _ _)
   | (with_reducible exact spec_l1Has.mono _ _ _)
   | (with_reducible exact LeO.refl _)
   | (with_reducible exact LeO.none _)
   | (with_reducible refine LeO.ite ?_ ?_)
   | (with_reducible refine LeO.bind ?_ (fun _ => ?_))
   | exact ih0 _ _ _ _ _ _
   | exact spec_l1Has.mono _ _ _
   | exact LeO.none _
   | refine LeO.ite ?_ ?_
   | refine LeO.bind ?_ (fun _ => ?_)
theorem spec_l8Free.mono : ∀ a0 a1 a2 a3 k, LeO (spec_l8Free.f k a0 a1 a2 a3) (spec_l8Free.f (k + 1) a0 a1 a2 a3) := by
 intro a0 a1 a2 a3 k
 have ih0 := spec_l8Free.mono_l k
 unfold spec_l8Free.f
 repeat' first
   | (with_reducible exact ih0 _ _ _ _ _ _)
   | (with_reducible exact spec_l1Has.mono _ _ _)
   | (with_reducible exact LeO.refl _)
   | (with_reducible exact LeO.none _)
   | (with_reducible refine LeO.ite ?_ ?_)
   | (with_reducible refine LeO.bind ?_ (fun _ => ?_))
   | exact ih0 _ _ _ _ _ _
   | exact spec_l1Has.mono _ _ _
   | exact LeO.none _
   | refine LeO.ite ?_ ?_
   | refine LeO.bind ?_ (fun _ => ?_)
set_option maxHeartbeats 8000000 in
set_option maxRecDepth 100000 in
theorem spec_l8Free.calls (k : Nat) (a0_0 : Int) (A0_1 : Option Addr) (c0_1 : Nat) (l0_1 : List (S119)) (A1_0 : Option Addr) (c1_0 : Nat) (l1_0 : List Int) (A1_1 : Option Addr) (c1_1 : Nat) (l1_1 : List Int) (r : List Int) (w : World) (hr0_1 : Kd.C k119 w A0_1 l0_1.length l0_1) (hc0_1 : l0_1.length ≤ c0_1) (hr1_0 : Kd.C (Kd.int .i64) w A1_0 l1_0.length l1_0) (hc1_0 : l1_0.length ≤ c1_0) (hr1_1 : Kd.C (Kd.int .i64) w A1_1 l1_1.length l1_1) (hc1_1 : l1_1.length ≤ c1_1) (h : spec_l8Free.f k a0_0 l0_1 l1_0 l1_1 = some r) :
  Calls Try.prog 124 #[.agg #[.int .i64 a0_0, .slice A0_1 l0_1.length c0_1], .agg #[.slice A1_0 l1_0.length c1_0, .slice A1_1 l1_1.length c1_1]] w fun e w' => ∃ v0_ : Value, e = .returned (v0_) ∧ Kd.R (Kd.int .i64) 3 w' w.heap.size (fun _ => True) v0_ r ∧ Below w.heap.size w w' := by
 have hu31 := Try.underlying31
 have hu71 := Try.underlying71
 have HR0_1 := Aside0.mk hr0_1
 have HC0_1 := Aside0.mk hc0_1
 clear hr0_1 hc0_1
 have HR1_0 := Aside0.mk hr1_0
 have HC1_0 := Aside0.mk hc1_0
 clear hr1_0 hc1_0
 have HR1_1 := Aside0.mk hr1_1
 have HC1_1 := Aside0.mk hc1_1
 clear hr1_1 hc1_1
 have HB := aM (Below.refl w.heap.size w)
 have H : (spec_l8Free.l0 k (([] : List Int)) 0 a0_0 l0_1 l1_0 l1_1) = some r := h
 clear h
 obtain ⟨y655, hy655⟩ : ∃ y_ : List Int, y_ = (([] : List Int)) := ⟨_, rfl⟩
 replace H : (spec_l8Free.l0 k y655 0 a0_0 l0_1 l1_0 l1_1) = some r := by first | (rw [hy655];with_reducible exact H) | (have H2_ := (Option.bind_some _ _).symm.trans H;rw [hy655];with_reducible exact H2_) | (have H2_ := (Option.bind_some _ _).symm.trans H;with_reducible exact H2_) | with_reducible exact H | (rw [hy655];exact H) | exact H
 have Ny655 := Aside0.mk hy655
 clear hy655
 have H' := Aside0.mk H
 clear H
 go_enter Try.func124, Try.ntmps124
 go_wp2_with (first | ((with_reducible refine gate_dst (N := 2) rfl ?_);refine box_event ?hg (N := 2) ?hd (cs := #[.int .i64 a0_0, .slice A0_1 l0_1.length c0_1]) (t := 31) ?hr ?_;(case hd => rfl);(case hg => rfl);(case hr => first | (go_simp;done) | (go_simp;rfl));intro gb653 hg w3 hbox hb;have n0_ := aM (below_step (by exact bB) hb);have n1_ := aM (hbox);have n2_ := aM ((by rw [hg];exact (below_size (by exact bB)) : w.heap.size ≤ gb653));have n3_ := aM ((by rw [hg];exact (below_size (by exact bB)) : w.heap.size ≤ gb653));clear HB;have HB := n0_;have BK653 := n1_;have GW653 := n2_;have GE653 := n3_;clear n0_ n1_ n2_ n3_;clear hb hbox hg) | ((with_reducible refine gate_dst (N := 3) rfl ?_);refine box_event ?hg (N := 3) ?hd (cs := #[.slice A1_0 l1_0.length c1_0, .slice A1_1 l1_1.length c1_1]) (t := 71) ?hr ?_;(case hd => rfl);(case hg => rfl);(case hr => first | (go_simp;done) | (go_simp;rfl));intro gb654 hg w4 hbox hb;have n0_ := aM (blk_below (g := gb653) (o := .cells #[.int .i64 a0_0, .slice A0_1 l0_1.length c0_1] 31 (0, 0)) (by exact kP BK653.out) hb);have n1_ := aM (below_step (by exact bB) hb);have n2_ := aM (hbox);have n3_ := aM ((by rw [hg];exact (below_size (by exact bB)) : w.heap.size ≤ gb654));have n4_ := aM ((by rw [hg];exact (below_size (by exact bB)) : w.heap.size ≤ gb654));have n5_ := aM ((by rw [hg];exact Nat.ne_of_lt (blk_lt (g := gb653) (o := .cells #[.int .i64 a0_0, .slice A0_1 l0_1.length c0_1] 31 (0, 0)) (by exact kP BK653.out)) : gb653 ≠ gb654));have n6_ := aM ((by rw [hg];exact Nat.ne_of_gt (blk_lt (g := gb653) (o := .cells #[.int .i64 a0_0, .slice A0_1 l0_1.length c0_1] 31 (0, 0)) (by exact kP BK653.out)) : gb654 ≠ gb653));clear BK653;clear HB;have BK653 := n0_;have HB := n1_;have BK654 := n2_;have GW654 := n3_;have GE654 := n4_;have NB653_654 := n5_;have NB654_653 := n6_;clear n0_ n1_ n2_ n3_ n4_ n5_ n6_;clear hb hbox hg) | ((with_reducible refine gate_dst (N := 7) rfl ?_);refine Kd.R_lit (Kd.int .i64) _ 3 ?hg (N := 7) ?hd (xs := ([] : List Int)) (inner := []) (ok := fun _ => True) (okp := fun _ => True) ?hr ?hp (fun _ hk => hk) trivial (Below.refl _ _) (Nat.le_refl _) (by simp) ?_;(case hd => rfl);(case hg => rfl);(case hr => first | (go_simp;done) | (go_simp;rfl));(case hp => exact (Reps.none _ _));intro v656 w5 ho6 hb hg_ hnew_;clear hg_ hnew_;(first | rw [← Ny655.out] at ho6 | (simp only [Int.reduceToNat] at ho6;rw [← Ny655.out] at ho6));have n0_ := aM (Kd.R_lower ho6 (below_size (by exact bB)));have n1_ := aM (blk_below (g := gb653) (o := .cells #[.int .i64 a0_0, .slice A0_1 l0_1.length c0_1] 31 (0, 0)) (by exact kP BK653.out) hb);have n2_ := aM (blk_below (g := gb654) (o := .cells #[.slice A1_0 l1_0.length c1_0, .slice A1_1 l1_1.length c1_1] 71 (0, 0)) (by exact kP BK654.out) hb);have n3_ := aM (below_step (by exact bB) hb);clear BK653;clear BK654;clear HB;have HO657 := n0_;have BK653 := n1_;have BK654 := n2_;have HB := n3_;clear n0_ n1_ n2_ n3_;clear hb ho6))
 go_loopg [5, 6] k (fun kq v5 v6 w' => ∃ (x5_1 : List Int) (x6_1 : Int), v6 = .int .i64 x6_1 ∧ Aside0 (spec_l8Free.l0 kq x5_1 x6_1 a0_0 l0_1 l1_0 l1_1 = some r) ∧ Aside0 (kq ≤ k) ∧ Aside0 (Kd.R (Kd.int .i64) 3 w' w.heap.size (fun _ => True) v5 x5_1) ∧ Aside0 (w'.heap[gb653]? = some (.cells #[.int .i64 a0_0, (.slice A0_1 l0_1.length c0_1)] 31 (0, 0))) ∧ Aside0 (w'.heap[gb654]? = some (.cells #[(.slice A1_0 l1_0.length c1_0), (.slice A1_1 l1_1.length c1_1)] 71 (0, 0))) ∧ Aside0 (Below w.heap.size w w'))
 case atStart => exact ⟨(y655), (0), (by first | rfl | (simp;done) | (simp [*];done)), H', ⟨Nat.le_refl _⟩, ⟨by exact rP HO657.out⟩, ⟨by exact kP BK653.out⟩, ⟨by exact kP BK654.out⟩, ⟨by exact bB⟩⟩
 case round =>
  clear H'
  try clear c1
  try clear p2
  obtain ⟨x5_1, x6_1, rfl, HA, HK1, HO_5, BK653, BK654, HB⟩ := hrel
  cases gk with
  | zero => exact absurd HA.out (by simp [spec_l8Free.l0])
  | succ k1 =>
   have H := HA.out
   clear HA
   simp only [spec_l8Free.l0] at H
   by_cases c7 : x6_1 < a0_0
   rotate_left
   ·rw [if_neg c7] at H
    have c7b0 : decide (x6_1 < a0_0) = false := decide_eq_false c7
    clear c7
    obtain rfl := Option.some.inj H
    have hnb23 := NB653_654.out
    have hnc23 := NB654_653.out
    have hcz24_0 : wr.cell? ⟨gb653, 0, none⟩ = some (.int .i64 a0_0) := (blk_cell BK653.out 0).trans rfl
    have hcz24_1 : wr.cell? ⟨gb653, 1, none⟩ = some (.slice A0_1 l0_1.length c0_1) := (blk_cell BK653.out 1).trans rfl
    have hfz24_0 := blk_frozen BK653.out 0
    have hfz24_1 := blk_frozen BK653.out 1
    go_wp2
    go_ret
    exact ⟨_, by first | rfl | (simp [errW_none, errW_some] <;> rfl) | (simp [*, errW_none, errW_some] <;> rfl), by exact rP HO_5.out, by exact bB⟩
   rw [if_pos c7] at H
   have c7b0 : decide (x6_1 < a0_0) = true := decide_eq_true c7
   clear c7
   replace H := Option.bind_eq_some_iff.mp H
   obtain ⟨t658, A80, H⟩ := H
   replace H : (if t658 = true then (spec_l8Free.l0 k1 x5_1 (wrap64 (x6_1 + 1)) a0_0 l0_1 l1_0 l1_1) else ((spec_l1Has.f k1 l1_1 x6_1).bind fun t659 => (if t659 = true then (spec_l8Free.l0 k1 x5_1 (wrap64 (x6_1 + 1)) a0_0 l0_1 l1_0 l1_1) else (if x5_1.length < 17592186044416 then (spec_l8Free.l0 k1 (x5_1 ++ [x6_1]) (wrap64 (x6_1 + 1)) a0_0 l0_1 l1_0 l1_1) else (none))))) = some r := H
   have A8 := Aside0.mk A80
   clear A80
   by_cases c9 : t658 = true
   ·subst c9
    have H1 : (spec_l8Free.l0 k1 x5_1 (wrap64 (x6_1 + 1)) a0_0 l0_1 l1_0 l1_1) = some r := by rw [if_pos rfl] at H;exact H
    clear H
    have H := H1
    clear H1
    have H' := Aside0.mk H
    clear H
    have hnb10 := NB653_654.out
    have hnc10 := NB654_653.out
    have hcz11_0 : wr.cell? ⟨gb653, 0, none⟩ = some (.int .i64 a0_0) := (blk_cell BK653.out 0).trans rfl
    have hcz11_1 : wr.cell? ⟨gb653, 1, none⟩ = some (.slice A0_1 l0_1.length c0_1) := (blk_cell BK653.out 1).trans rfl
    have hfz11_0 := blk_frozen BK653.out 0
    have hfz11_1 := blk_frozen BK653.out 1
    have hcz12_0 : wr.cell? ⟨gb654, 0, none⟩ = some (.slice A1_0 l1_0.length c1_0) := (blk_cell BK654.out 0).trans rfl
    have hcz12_1 : wr.cell? ⟨gb654, 1, none⟩ = some (.slice A1_1 l1_1.length c1_1) := (blk_cell BK654.out 1).trans rfl
    have hfz12_0 := blk_frozen BK654.out 0
    have hfz12_1 := blk_frozen BK654.out 1
    go_wp2_with (first | ((with_reducible refine gate_callee (f := 66) rfl ?_);refine goesL_ (some 17) rfl rfl Try.func66 (by kernel_rfl) rfl #[.slice A1_0 l1_0.length c1_0, .int .i64 x6_1] rfl mM ?_;(with_reducible refine (spec_l1Has.calls k1 _ _ l1_0 x6_1 true _ ?side1 ?side2 A8.out).mono ?_);(case side1 => exact cP (Kd.C_below HR1_0.out HB.out));(case side2 => exact HC1_0.out);rintro e w' ⟨rfl, ⟨nd, rfl⟩⟩;refine ⟨_, rfl, ?_⟩))
    go_roundg k1
    case measure => have := HK1.out;omega
    case rel => exact ⟨(x5_1), (wrap64 (x6_1 + 1)), (by first | rfl | (simp;done) | (simp [*];done)), H', ⟨by have := HK1.out;omega⟩, ⟨by exact rP HO_5.out⟩, ⟨by exact kP BK653.out⟩, ⟨by exact kP BK654.out⟩, ⟨by exact bB⟩⟩
   replace c9 := Bool.eq_false_iff.mpr c9
   subst c9
   have H1 : ((spec_l1Has.f k1 l1_1 x6_1).bind fun t659 => (if t659 = true then (spec_l8Free.l0 k1 x5_1 (wrap64 (x6_1 + 1)) a0_0 l0_1 l1_0 l1_1) else (if x5_1.length < 17592186044416 then (spec_l8Free.l0 k1 (x5_1 ++ [x6_1]) (wrap64 (x6_1 + 1)) a0_0 l0_1 l1_0 l1_1) else (none)))) = some r := by rw [if_neg (show ¬ (false = true) by decide)] at H;exact H
   clear H
   have H := H1
   clear H1
   replace H := Option.bind_eq_some_iff.mp H
   obtain ⟨t659, A130, H⟩ := H
   replace H : (if t659 = true then (spec_l8Free.l0 k1 x5_1 (wrap64 (x6_1 + 1)) a0_0 l0_1 l1_0 l1_1) else (if x5_1.length < 17592186044416 then (spec_l8Free.l0 k1 (x5_1 ++ [x6_1]) (wrap64 (x6_1 + 1)) a0_0 l0_1 l1_0 l1_1) else (none))) = some r := H
   have A13 := Aside0.mk A130
   clear A130
   by_cases c14 : t659 = true
   ·subst c14
    have H1 : (spec_l8Free.l0 k1 x5_1 (wrap64 (x6_1 + 1)) a0_0 l0_1 l1_0 l1_1) = some r := by rw [if_pos rfl] at H;exact H
    clear H
    have H := H1
    clear H1
    have H' := Aside0.mk H
    clear H
    have hnb15 := NB653_654.out
    have hnc15 := NB654_653.out
    have hcz16_0 : wr.cell? ⟨gb653, 0, none⟩ = some (.int .i64 a0_0) := (blk_cell BK653.out 0).trans rfl
    have hcz16_1 : wr.cell? ⟨gb653, 1, none⟩ = some (.slice A0_1 l0_1.length c0_1) := (blk_cell BK653.out 1).trans rfl
    have hfz16_0 := blk_frozen BK653.out 0
    have hfz16_1 := blk_frozen BK653.out 1
    have hcz17_0 : wr.cell? ⟨gb654, 0, none⟩ = some (.slice A1_0 l1_0.length c1_0) := (blk_cell BK654.out 0).trans rfl
    have hcz17_1 : wr.cell? ⟨gb654, 1, none⟩ = some (.slice A1_1 l1_1.length c1_1) := (blk_cell BK654.out 1).trans rfl
    have hfz17_0 := blk_frozen BK654.out 0
    have hfz17_1 := blk_frozen BK654.out 1
    go_wp2_with (first | ((with_reducible refine gate_callee (f := 66) rfl ?_);refine goesL_ (some 17) rfl rfl Try.func66 (by kernel_rfl) rfl #[.slice A1_0 l1_0.length c1_0, .int .i64 x6_1] rfl mM ?_;(with_reducible refine (spec_l1Has.calls k1 _ _ l1_0 x6_1 false _ ?side1 ?side2 A8.out).mono ?_);(case side1 => exact cP (Kd.C_below HR1_0.out HB.out));(case side2 => exact HC1_0.out);rintro e w' ⟨rfl, ⟨nd, rfl⟩⟩;refine ⟨_, rfl, ?_⟩) | (go_at_call 66;(with_reducible refine (spec_l1Has.calls k1 _ _ l1_1 x6_1 true _ ?side1 ?side2 A13.out).mono ?_);(case side1 => exact cP (Kd.C_below HR1_1.out (by repeat (first | (with_reducible first | exact HB.out | apply below_alloc | apply pw_below_drewN | apply below_drew1 | refine below_set ?_ GE653.out | refine below_set ?_ GE654.out) | exact HB.out))));(case side2 => exact HC1_1.out);rintro e w' ⟨rfl, ⟨nd, rfl⟩⟩))
    go_roundg k1
    case measure => have := HK1.out;omega
    case rel => exact ⟨(x5_1), (wrap64 (x6_1 + 1)), (by first | rfl | (simp;done) | (simp [*];done)), H', ⟨by have := HK1.out;omega⟩, ⟨by exact rP HO_5.out⟩, ⟨by exact kP BK653.out⟩, ⟨by exact kP BK654.out⟩, ⟨by exact bB⟩⟩
   replace c14 := Bool.eq_false_iff.mpr c14
   subst c14
   have H1 : (if x5_1.length < 17592186044416 then (spec_l8Free.l0 k1 (x5_1 ++ [x6_1]) (wrap64 (x6_1 + 1)) a0_0 l0_1 l1_0 l1_1) else (none)) = some r := by rw [if_neg (show ¬ (false = true) by decide)] at H;exact H
   clear H
   have H := H1
   clear H1
   by_cases c18 : x5_1.length < 17592186044416
   rotate_left
   ·rw [if_neg c18] at H
    exact absurd H (by simp)
   rw [if_pos c18] at H
   have LMc18 := Aside0.mk c18
   clear c18
   obtain ⟨y660, hy660⟩ : ∃ y_ : List Int, y_ = (x5_1 ++ [x6_1]) := ⟨_, rfl⟩
   replace H : (spec_l8Free.l0 k1 y660 (wrap64 (x6_1 + 1)) a0_0 l0_1 l1_0 l1_1) = some r := by first | (rw [hy660];with_reducible exact H) | (have H2_ := (Option.bind_some _ _).symm.trans H;rw [hy660];with_reducible exact H2_) | (have H2_ := (Option.bind_some _ _).symm.trans H;with_reducible exact H2_) | with_reducible exact H | (rw [hy660];exact H) | exact H
   have Ny660 := Aside0.mk hy660
   clear hy660
   have H' := Aside0.mk H
   clear H
   have hnb19 := NB653_654.out
   have hnc19 := NB654_653.out
   have hcz20_0 : wr.cell? ⟨gb653, 0, none⟩ = some (.int .i64 a0_0) := (blk_cell BK653.out 0).trans rfl
   have hcz20_1 : wr.cell? ⟨gb653, 1, none⟩ = some (.slice A0_1 l0_1.length c0_1) := (blk_cell BK653.out 1).trans rfl
   have hfz20_0 := blk_frozen BK653.out 0
   have hfz20_1 := blk_frozen BK653.out 1
   have hcz21_0 : wr.cell? ⟨gb654, 0, none⟩ = some (.slice A1_0 l1_0.length c1_0) := (blk_cell BK654.out 0).trans rfl
   have hcz21_1 : wr.cell? ⟨gb654, 1, none⟩ = some (.slice A1_1 l1_1.length c1_1) := (blk_cell BK654.out 1).trans rfl
   have hfz21_0 := blk_frozen BK654.out 0
   have hfz21_1 := blk_frozen BK654.out 1
   go_wp2_with (first | ((with_reducible refine gate_callee (f := 66) rfl ?_);refine goesL_ (some 17) rfl rfl Try.func66 (by kernel_rfl) rfl #[.slice A1_0 l1_0.length c1_0, .int .i64 x6_1] rfl mM ?_;(with_reducible refine (spec_l1Has.calls k1 _ _ l1_0 x6_1 false _ ?side1 ?side2 A8.out).mono ?_);(case side1 => exact cP (Kd.C_below HR1_0.out HB.out));(case side2 => exact HC1_0.out);rintro e w' ⟨rfl, ⟨nd, rfl⟩⟩;refine ⟨_, rfl, ?_⟩) | (go_at_call 66;(with_reducible refine (spec_l1Has.calls k1 _ _ l1_1 x6_1 false _ ?side1 ?side2 A13.out).mono ?_);(case side1 => exact cP (Kd.C_below HR1_1.out (by repeat (first | (with_reducible first | exact HB.out | apply below_alloc | apply pw_below_drewN | apply below_drew1 | refine below_set ?_ GE653.out | refine below_set ?_ GE654.out) | exact HB.out))));(case side2 => exact HC1_1.out);rintro e w' ⟨rfl, ⟨nd, rfl⟩⟩) | ((with_reducible refine gate_builtin (b := .append) (xs := #[.tmp 26, .tmp 28]) rfl ?_);at_builtin;refine Kd.R_append (Kd.int .i64) (w0 := w) w.heap.size rfl (.tmp 26) (.tmp 28) 28 3 (.int .i64 0) 8 rfl Try.underlying28 info3 rfl (by decide) (by omega) u5 x5_1 x6_1 [.int .i64 x6_1] (fun _ => True) (fun _ => False) rfl rfl ?aP (fun _ hk => hk.elim) ?aF ?aO ?aB ?aS ?aL ?_;(case aP => exact rfl);(case aB => exact (by exact bB));(case aF => exact (fun _ _ => trivial));(case aO => exact (by exact rP HO_5.out));(case aS => exact (below_size (by exact bB)));(case aL => have := LMc18.out;omega);intro v661 w22 ho hb hg hat;rw [← Ny660.out] at ho;have n0_ := aM (blk_grown (g := gb653) (o := .cells #[.int .i64 a0_0, .slice A0_1 l0_1.length c0_1] 31 (0, 0)) (by exact kP BK653.out) hg (Kd.R_ne HO_5.out BK653.out (by decide)));have n1_ := aM (blk_grown (g := gb654) (o := .cells #[.slice A1_0 l1_0.length c1_0, .slice A1_1 l1_1.length c1_1] 71 (0, 0)) (by exact kP BK654.out) hg (Kd.R_ne HO_5.out BK654.out (by decide)));have n2_ := aM (hb);have n3_ := aM (ho);clear BK653;clear BK654;clear HB;clear HO_5;have BK653 := n0_;have BK654 := n1_;have HB := n2_;have HO662 := n3_;clear n0_ n1_ n2_ n3_;clear ho hb hg hat))
   go_roundg k1
   case measure => have := HK1.out;omega
   case rel => exact ⟨(y660), (wrap64 (x6_1 + 1)), (by first | rfl | (simp;done) | (simp [*];done)), H', ⟨by have := HK1.out;omega⟩, ⟨by exact rP HO662.out⟩, ⟨by exact kP BK653.out⟩, ⟨by exact kP BK654.out⟩, ⟨by exact bB⟩⟩


/-! ### spec_l8Choices: function 125 -/
mutual
def spec_l8Choices.l0 : Nat → List Int → Int → List (List Int) → Int → Option ((List (List Int)))
 | 0, _, _, _, _ => none
 | k + 1, x0, x1, x5, x6 => if (wrap64 (x6 + x1)) ≤ (x0.length : Int) then (if 0 ≤ (wrap64 (x6 + 1)) then (if (wrap64 (x6 + 1)) ≤ (x0.length : Int) then ((spec_l8Choices.f k (x0.drop ((wrap64 (x6 + 1)) : Int).toNat) (wrap64 (x1 - 1))).bind fun t673 => (spec_l8Choices.l1 k x0 x1 x5 x6 t673 0)) else (none)) else (none)) else (some x5)
def spec_l8Choices.l1 : Nat → List Int → Int → List (List Int) → Int → List (List Int) → Int → Option ((List (List Int)))
 | 0, _, _, _, _, _, _ => none
 | k + 1, x0, x1, x5, x6, x7, x8 => if x8 < (x7.length : Int) then (if 0 ≤ x6 then (if x6 < (x0.length : Int) then ((some (([rd x0 x6] : List Int) : List Int)).bind fun y677 => (if 0 ≤ x8 then (if y677.length + (rd_L3 x7 x8).length < 17592186044416 then (if x5.length < 5864062014805 then (spec_l8Choices.l1 k x0 x1 (x5 ++ [(y677 ++ (rd_L3 x7 x8))]) x6 x7 (wrap64 (x8 + 1))) else (none)) else (none)) else (none))) else (none)) else (none)) else (spec_l8Choices.l0 k x0 x1 x5 (wrap64 (x6 + 1)))
def spec_l8Choices.f : Nat → List Int → Int → Option ((List (List Int)))
 | 0, _, _ => none
 | k + 1, l0, a1 => if a1 = 0 then (some (([(([] : List Int))] : List (List Int)))) else (spec_l8Choices.l0 k l0 a1 (([] : List (List Int))) 0)
end
theorem spec_l8Choices.mono_l : ∀ k, (∀ y0 y1, LeO (spec_l8Choices.f k y0 y1) (spec_l8Choices.f (k + 1) y0 y1)) ∧ (∀ y0 y1 y2 y3, LeO (spec_l8Choices.l0 k y0 y1 y2 y3) (spec_l8Choices.l0 (k + 1) y0 y1 y2 y3)) ∧ (∀ y0 y1 y2 y3 y4 y5, LeO (spec_l8Choices.l1 k y0 y1 y2 y3 y4 y5) (spec_l8Choices.l1 (k + 1) y0 y1 y2 y3 y4 y5))
 | 0 => ⟨fun _ _ r h => by simp [spec_l8Choices.f] at h, fun _ _ _ _ r h => by simp [spec_l8Choices.l0] at h, fun _ _ _ _ _ _ r h => by simp [spec_l8Choices.l1] at h⟩
 | k + 1 => by
  obtain ⟨ih0, ih1, ih2⟩ := spec_l8Choices.mono_l k
  refine ⟨?_, ?_, ?_⟩
  ·intro y0 y1
   unfold spec_l8Choices.f
   repeat' first
   | (with_reducible exact ih0 _ _)
   | (with_reducible exact ih1 _ _ _ _)
   | (with_reducible exact ih2 _ _ _ _ _ _)
   | (with_reducible exact LeO.refl _)
   | (with_reducible exact LeO.none _)
   | (with_reducible refine LeO.ite ?_ ?_)
   | (with_reducible refine LeO.bind ?_ (fun _ => ?_))
   | exact ih0 _ _
   | exact ih1 _ _ _ _
   | exact ih2 _ _ _ _ _ _
   | exact LeO.none _
   | refine LeO.ite ?_ ?_
   | refine LeO.bind ?_ (fun _ => ?_)
  ·intro y0 y1 y2 y3
   unfold spec_l8Choices.l0
   repeat' first
   | (with_reducible exact ih0 _ _)
   | (with_reducible exact ih1 _ _ _ _)
   | (with_reducible exact ih2 _ _ _ _ _ _)
   | (with_reducible exact LeO.refl _)
   | (with_reducible exact LeO.none _)
   | (with_reducible refine LeO.ite ?_ ?_)
   | (with_reducible refine LeO.bind ?_ (fun _ => ?_))
   | exact ih0 _ _
   | exact ih1 _ _ _ _
   | exact ih2 _ _ _ _ _ _
   | exact LeO.none _
   | refine LeO.ite ?_ ?_
   | refine LeO.bind ?_ (fun _ => ?_)
  ·intro y0 y1 y2 y3 y4 y5
   unfold spec_l8Choices.l1
   repeat' first
   | (with_reducible exact ih0 _ _)
   | (with_reducible exact ih1 _ _ _ _)
   | (with_reducible exact ih2 _ _ _ _ _ _)
   | (with_reducible exact LeO.refl _)
   | (with_reducible exact LeO.none _)
   | (with_reducible refine LeO.ite ?_ ?_)
   | (with_reducible refine LeO.bind ?_ (fun _ => ?_))
   | exact ih0 _ _
   | exact ih1 _ _ _ _
   | exact ih2 _ _ _ _ _ _
   | exact LeO.none _
   | refine LeO.ite ?_ ?_
   | refine LeO.bind ?_ (fun _ => ?_)
theorem spec_l8Choices.mono : ∀ a0 a1 k, LeO (spec_l8Choices.f k a0 a1) (spec_l8Choices.f (k + 1) a0 a1) := by
 intro a0 a1 k
 obtain ⟨ih0, ih1, ih2⟩ := spec_l8Choices.mono_l k
 exact ih0 a0 a1
def spec_l8Choices.T11 : Bool × List (List Nat × List Nat) := (true, [([], []), ([], []), ([], []), ([1, 2], [1, 2]), ([3], [3]), ([4], [4]), ([], []), ([], []), ([6, 7], [6, 7]), ([8], [8]), ([5, 9], [5, 9]), ([10], [10]), ([0, 11, 10], [0, 11]), ([12, 12, 0, 1, 2, 3, 4, 5, 6, 7, 8, 9, 10, 11, 12], [0, 12])])
def spec_l8Choices.B11 : List Nat := [0, 0, 0, 6, 14, 30, 0, 0, 192, 448, 1022, 2046, 4095, 8191]
theorem spec_l8Choices.tab11 : rtab .any (opsOf Try.f125 11) = spec_l8Choices.T11 := by kernel_rfl
theorem spec_l8Choices.bits11 : waitsOk spec_l8Choices.T11.2 spec_l8Choices.B11 = true := by kernel_rfl
set_option maxHeartbeats 8000000 in
set_option maxRecDepth 100000 in
theorem spec_l8Choices.calls (k : Nat) : ∀ (A0 : Option Addr) (c0 : Nat) (l0 : List Int) (a1 : Int) (r : List (List Int)) (w : World) (hr0 : Kd.C (Kd.int .i64) w A0 l0.length l0) (hc0 : l0.length ≤ c0) (h : spec_l8Choices.f k l0 a1 = some r),
  Calls Try.prog 125 #[.slice A0 l0.length c0, .int .i64 a1] w fun e w' => ∃ v0_ : Value, e = .returned (v0_) ∧ Kd.N (Kd.slice 3 (Kd.int .i64)) 28 w' w.heap.size (fun k_ => (w.heap.size ≤ k_)) v0_ r ∧ Below w.heap.size w w' := by
 induction k using Nat.strongRecOn with
 | _ k ih =>
 intro A0 c0 l0 a1 r w hr0 hc0 h
 cases k with
 | zero => exact absurd h (by simp [spec_l8Choices.f])
 | succ k =>
 simp only [spec_l8Choices.f] at h
 have HR0 := Aside0.mk hr0
 have HC0 := Aside0.mk hc0
 clear hr0 hc0
 have HB := aM (Below.refl w.heap.size w)
 have H : (if a1 = 0 then (some (([(([] : List Int))] : List (List Int)))) else (spec_l8Choices.l0 k l0 a1 (([] : List (List Int))) 0)) = some r := h
 clear h
 by_cases c3 : a1 = 0
 ·rw [if_pos c3] at H
  have c3b0 : (a1 == 0) = true := beq_iff_eq.mpr c3
  have c3b1 : (a1 != 0) = false := bne_eq_false_iff_eq.mpr c3
  clear c3
  obtain ⟨y663, hy663⟩ : ∃ y_ : List Int, y_ = (([] : List Int)) := ⟨_, rfl⟩
  replace H : (some (([y663] : List (List Int)))) = some r := by first | (rw [hy663];with_reducible exact H) | (have H2_ := (Option.bind_some _ _).symm.trans H;rw [hy663];with_reducible exact H2_) | (have H2_ := (Option.bind_some _ _).symm.trans H;with_reducible exact H2_) | with_reducible exact H | (rw [hy663];exact H) | exact H
  have Ny663 := Aside0.mk hy663
  clear hy663
  obtain ⟨y666, hy666⟩ : ∃ y_ : List (List Int), y_ = (([y663] : List (List Int))) := ⟨_, rfl⟩
  replace H : (some y666) = some r := by first | (rw [hy666];with_reducible exact H) | (have H2_ := (Option.bind_some _ _).symm.trans H;rw [hy666];with_reducible exact H2_) | (have H2_ := (Option.bind_some _ _).symm.trans H;with_reducible exact H2_) | with_reducible exact H | (rw [hy666];exact H) | exact H
  have Ny666 := Aside0.mk hy666
  clear hy666
  obtain rfl := Option.some.inj H
  go_enter Try.func125, Try.ntmps125
  go_wp2_with (first | ((with_reducible refine gate_dst (N := 11) rfl ?_);refine Kd.R_lit (Kd.int .i64) _ 3 ?hg (N := 11) ?hd (xs := ([] : List Int)) (inner := []) (ok := fun _ => True) (okp := fun _ => True) ?hr ?hp (fun _ hk => hk) trivial (Below.refl _ _) (Nat.le_refl _) (by simp) ?_;(case hd => rfl);(case hg => rfl);(case hr => first | (go_simp;done) | (go_simp;rfl));(case hp => exact (Reps.none _ _));intro v664 w4 ho5 hb hg_ hnew_;clear hg_ hnew_;(first | rw [← Ny663.out] at ho5 | (simp only [Int.reduceToNat] at ho5;rw [← Ny663.out] at ho5));have n0_ := aM (Kd.R_lower (Kd.R_newM (M := fun k_ => (w.heap.size ≤ k_)) ho5 (below_size (by exact bB)) (fun k_ h_ => h_)) (below_size (by exact bB)));have n1_ := aM (below_step (by exact bB) hb);clear HB;have HO665 := n0_;have HB := n1_;clear n0_ n1_;clear hb ho5;obtain ⟨Ao6, co6, eo6⟩ := Kd.R_slice HO665.out;subst eo6) | ((with_reducible refine gate_dst (N := 12) rfl ?_);refine Kd.N_lit (Kd.slice 3 (Kd.int .i64)) _ 28 ?hg (N' := 12) ?hd (xs := ([y663] : List (List Int))) (inner := [.slice Ao6 y663.length co6]) (ok := (fun k_ => (w.heap.size ≤ k_))) (okp := (fun k_ => (w.heap.size ≤ k_))) ?hr ?hp (fun _ hk => hk) ((show ∀ k_, w4.heap.size ≤ k_ → (fun k_ => (w.heap.size ≤ k_)) k_ from fun k_ hk => (Nat.le_trans (below_size (by exact bB)) hk)) _ (Nat.le_refl _)) (Below.refl _ _) (Nat.le_refl _) (by simp) ?_;(case hd => rfl);(case hg => rfl);(case hr => first | (go_simp;done) | (go_simp;rfl));(case hp => exact (Reps.one (show Kd.FK (Kd.slice 3 (Kd.int .i64)) _ _ y663 [.slice Ao6 y663.length co6] from (Kd.FK_slice_mk (Kd.R_reads' (Kd.R_mono (ok' := (fun k_ => (w.heap.size ≤ k_))) (HO665.out) (fun k_ hk => hk.1))).2.1 (Kd.R_F (Kd.R_mono (ok' := (fun k_ => (w.heap.size ≤ k_))) (HO665.out) (fun k_ hk => hk.1))))) (Reps.none _ _)));intro v667 w7 ho8 hb hg_ hnew_;clear hg_ hnew_;(first | rw [← Ny666.out] at ho8 | (simp only [Int.reduceToNat] at ho8;rw [← Ny666.out] at ho8));have n0_ := aM (Kd.N_lower ho8 (below_size (by exact bB)));have n1_ := aM (below_step (by exact bB) hb);clear HB;clear HO665;have HO668 := n0_;have HB := n1_;clear n0_ n1_;clear hb ho8))
  go_ret
  exact ⟨_, by first | rfl | (simp [errW_none, errW_some] <;> rfl) | (simp [*, errW_none, errW_some] <;> rfl), by (with_reducible repeat (first | apply Kd.N_alloc | apply Kd.N_drewN | apply Kd.N_drew));exact HO668.out, by exact bB⟩
 rw [if_neg c3] at H
 have c3b0 : (a1 == 0) = false := beq_eq_false_iff_ne.mpr c3
 have c3b1 : (a1 != 0) = true := bne_iff_ne.mpr c3
 obtain ⟨y669, hy669⟩ : ∃ y_ : List (List Int), y_ = (([] : List (List Int))) := ⟨_, rfl⟩
 replace H : (spec_l8Choices.l0 k l0 a1 y669 0) = some r := by first | (rw [hy669];with_reducible exact H) | (have H2_ := (Option.bind_some _ _).symm.trans H;rw [hy669];with_reducible exact H2_) | (have H2_ := (Option.bind_some _ _).symm.trans H;with_reducible exact H2_) | with_reducible exact H | (rw [hy669];exact H) | exact H
 have Ny669 := Aside0.mk hy669
 clear hy669
 have H' := Aside0.mk H
 clear H
 go_enter Try.func125, Try.ntmps125
 go_wp2_with (first | ((with_reducible refine gate_dst (N := 13) rfl ?_);refine Kd.N_lit (Kd.slice 3 (Kd.int .i64)) _ 28 ?hg (N' := 13) ?hd (xs := ([] : List (List Int))) (inner := []) (ok := (fun k_ => (w.heap.size ≤ k_))) (okp := (fun k_ => (w.heap.size ≤ k_))) ?hr ?hp (fun _ hk => hk) ((show ∀ k_, w.heap.size ≤ k_ → (fun k_ => (w.heap.size ≤ k_)) k_ from fun k_ hk => (Nat.le_trans (below_size (by exact bB)) hk)) _ (Nat.le_refl _)) (Below.refl _ _) (Nat.le_refl _) (by simp) ?_;(case hd => rfl);(case hg => rfl);(case hr => first | (go_simp;done) | (go_simp;rfl));(case hp => exact (Reps.none _ _));intro v670 w9 ho10 hb hg_ hnew_;clear hg_ hnew_;(first | rw [← Ny669.out] at ho10 | (simp only [Int.reduceToNat] at ho10;rw [← Ny669.out] at ho10));have n0_ := aM (Kd.N_lower ho10 (below_size (by exact bB)));have n1_ := aM (below_step (by exact bB) hb);clear HB;have HO671 := n0_;have HB := n1_;clear n0_ n1_;clear hb ho10))
 go_loopg [5, 6] k (fun kq v5 v6 w' => ∃ (x5_1 : List (List Int)) (x6_1 : Int), v6 = .int .i64 x6_1 ∧ Aside0 (spec_l8Choices.l0 kq l0 a1 x5_1 x6_1 = some r) ∧ Aside0 (kq ≤ k) ∧ Aside0 (Kd.N (Kd.slice 3 (Kd.int .i64)) 28 w' w.heap.size (fun k_ => (w.heap.size ≤ k_)) v5 x5_1) ∧ Aside0 (Below w.heap.size w w'))
 case atStart => exact ⟨(y669), (0), (by first | rfl | (simp;done) | (simp [*];done)), H', ⟨Nat.le_refl _⟩, ⟨by (with_reducible repeat (first | apply Kd.N_alloc | apply Kd.N_drewN | apply Kd.N_drew));exact HO671.out⟩, ⟨by exact bB⟩⟩
 case round =>
  clear H'
  try clear c1
  try clear p2
  try clear c3
  try clear c3b0
  try clear c3b1
  obtain ⟨x5_1, x6_1, rfl, HA, HK1, HO_5, HB⟩ := hrel
  cases gk with
  | zero => exact absurd HA.out (by simp [spec_l8Choices.l0])
  | succ k1 =>
   have H := HA.out
   clear HA
   simp only [spec_l8Choices.l0] at H
   by_cases c11 : (wrap64 (x6_1 + a1)) ≤ (l0.length : Int)
   rotate_left
   ·rw [if_neg c11] at H
    have c11b0 : decide ((wrap64 (x6_1 + a1)) ≤ (l0.length : Int)) = false := decide_eq_false c11
    clear c11
    obtain rfl := Option.some.inj H
    go_wp2
    go_ret
    exact ⟨_, by first | rfl | (simp [errW_none, errW_some] <;> rfl) | (simp [*, errW_none, errW_some] <;> rfl), by (with_reducible repeat (first | apply Kd.N_alloc | apply Kd.N_drewN | apply Kd.N_drew));exact HO_5.out, by exact bB⟩
   rw [if_pos c11] at H
   have c11b0 : decide ((wrap64 (x6_1 + a1)) ≤ (l0.length : Int)) = true := decide_eq_true c11
   clear c11
   obtain ⟨ji12, hji12⟩ : ∃ j_ : Int, (wrap64 (x6_1 + 1)) = j_ := ⟨_, rfl⟩
   replace H : (if 0 ≤ (ji12) then (if (ji12) ≤ (l0.length : Int) then ((spec_l8Choices.f k1 (l0.drop ((ji12) : Int).toNat) (wrap64 (a1 - 1))).bind fun t673 => (spec_l8Choices.l1 k1 l0 a1 x5_1 x6_1 t673 0)) else (none)) else (none)) = some r := by first | (rw [hji12] at H;exact H) | (simp only [hji12] at H ⊢;exact H)
   have hji12w : (IntKind.i64.wrap (x6_1 + 1)) = ji12 := (i64_w _).trans hji12
   by_cases c13 : 0 ≤ (ji12)
   rotate_left
   ·rw [if_neg c13] at H
    exact absurd H (by simp)
   rw [if_pos c13] at H
   have c13b0 := eq_true c13
   have c13b1 : decide (0 ≤ (ji12)) = true := decide_eq_true c13
   clear c13
   by_cases c14 : (ji12) ≤ (l0.length : Int)
   rotate_left
   ·rw [if_neg c14] at H
    exact absurd H (by simp)
   rw [if_pos c14] at H
   have c14b0 := eq_true c14
   have c14b1 : decide ((ji12) ≤ (l0.length : Int)) = true := decide_eq_true c14
   clear c14
   replace H := Option.bind_eq_some_iff.mp H
   obtain ⟨t673, A150, H⟩ := H
   replace H : (spec_l8Choices.l1 k1 l0 a1 x5_1 x6_1 t673 0) = some r := H
   have A15 := Aside0.mk A150
   clear A150
   have H' := Aside0.mk H
   clear H
   obtain ⟨i016, hi016, _, hsz16, _⟩ := info_parts info3
   obtain ⟨A16, hcut16, hA16, hC16⟩ := print_drop_of (P := Try.prog) (Value.int .i64) 0 28 3 .i64 Try.underlying28 hi016 hsz16 A0 c0 l0 (ji12) (oA) (oA) HC0.out
   have HR672 := aM (Kd.C_of_reads (h1 := fun _ => rfl) (hA16 _ (Kd.reads_of_C HR0.out)))
   have HC672 := Aside0.mk hC16
   clear hA16 hC16 hi016 hsz16
   go_wp2_with (first | ((with_reducible refine gate_callee (f := 125) rfl ?_);refine goesL_ (some 28) rfl rfl Try.func125 (by kernel_rfl) rfl #[.slice A16 (l0.drop ((ji12) : Int).toNat).length (c0 - (ji12).toNat), .int .i64 (wrap64 (a1 - 1))] rfl (by (try simp only [List.map_toArray, List.map_cons, List.map_nil]);first | done | (rw [show (l0.drop ((ji12) : Int).toNat).length = (l0.length - (ji12).toNat) from List.length_drop] <;> rfl) | (simp only [hji12];rfl) | rfl | (simp only [List.length_drop, List.length_take];rfl)) ?_;(with_reducible refine (ih k1 (by have := HK1.out;omega) _ _ (l0.drop ((ji12) : Int).toNat) (wrap64 (a1 - 1)) t673 _ ?side1 ?side2 A15.out).mono ?_);(case side1 => exact cP (Kd.C_below HR672.out HB.out));(case side2 => exact HC672.out);rintro e w17 ⟨v674, rfl, ho0, hb⟩;refine ⟨_, rfl, ?_⟩;have n0_ := aM (Kd.N_elder' (by (with_reducible repeat (first | apply Kd.N_alloc | apply Kd.N_drewN | apply Kd.N_drew));exact HO_5.out) (Kd.N_base ho0) hb);have n1_ := aM (Kd.N_lower (Kd.N_mono (ok' := fun k_ => (w.heap.size ≤ k_) ∧ some k_ ≠ (u5 : Value).ownBlock) ho0 (fun k_ hk_ => ⟨(Nat.le_trans (below_size (by exact bB)) hk_), (Kd.fresh' (Kd.N_lt (by (with_reducible repeat (first | apply Kd.N_alloc | apply Kd.N_drewN | apply Kd.N_drew));exact HO_5.out)) k_ hk_)⟩)) (below_size (by exact bB)));have n2_ := aM (below_step (by exact bB) hb);clear HO_5;clear HB;have HO_5 := n0_;have HO675 := n1_;have HB := n2_;clear n0_ n1_ n2_;(try clear hb);(try clear hb2);(try clear hk);(try clear hi);(try clear ho0)))
   go_loopg [5, 8] k1 (fun kq v5 v8 w' => ∃ (x5_2 : List (List Int)) (x8_2 : Int), v8 = .int .i64 x8_2 ∧ Aside0 (spec_l8Choices.l1 kq l0 a1 x5_2 x6_1 t673 x8_2 = some r) ∧ Aside0 (kq ≤ k1) ∧ Aside0 (Kd.N (Kd.slice 3 (Kd.int .i64)) 28 w' w.heap.size (fun k_ => (w.heap.size ≤ k_) ∧ some k_ ≠ (v674 : Value).ownBlock) v5 x5_2) ∧ Aside0 (Kd.N (Kd.slice 3 (Kd.int .i64)) 28 w' w.heap.size (fun k_ => (w.heap.size ≤ k_) ∧ some k_ ≠ (v5 : Value).ownBlock) v674 t673) ∧ Aside0 (Below w.heap.size w w'))
   case atStart => exact ⟨(x5_1), (0), (by first | rfl | (simp;done) | (simp [*];done)), H', ⟨Nat.le_refl _⟩, ⟨by (with_reducible repeat (first | apply Kd.N_alloc | apply Kd.N_drewN | apply Kd.N_drew));exact HO_5.out⟩, ⟨by (with_reducible repeat (first | apply Kd.N_alloc | apply Kd.N_drewN | apply Kd.N_drew));exact HO675.out⟩, ⟨by exact bB⟩⟩
   case round =>
    clear H'
    try clear c1
    try clear p2
    try clear c3
    try clear c3b0
    try clear c3b1
    try clear p6
    try clear c11
    try clear c11b0
    try clear c12
    try clear c13
    try clear c13b0
    try clear c13b1
    try clear c14
    try clear c14b0
    try clear c14b1
    try clear p2
    obtain ⟨x5_2, x8_2, rfl, HA, HK2, HO_5, HO_7, HB⟩ := hrel
    cases gk with
    | zero => exact absurd HA.out (by simp [spec_l8Choices.l1])
    | succ k2 =>
     have H := HA.out
     clear HA
     simp only [spec_l8Choices.l1] at H
     by_cases c18 : x8_2 < (t673.length : Int)
     rotate_left
     ·rw [if_neg c18] at H
      have c18b0 : decide (x8_2 < (t673.length : Int)) = false := decide_eq_false c18
      clear c18
      have H' := Aside0.mk H
      clear H
      obtain ⟨Ao31, co31, eo31⟩ := Kd.N_slice HO_7.out
      subst eo31
      go_wp2
      go_roundg k2
      case measure => have := HK1.out;have := HK2.out;omega
      case rel => exact ⟨(x5_2), (wrap64 (x6_1 + 1)), (by first | rfl | (simp;done) | (simp [*];done)), H', ⟨by have := HK1.out;have := HK2.out;omega⟩, ⟨by (with_reducible repeat (first | apply Kd.N_alloc | apply Kd.N_drewN | apply Kd.N_drew));exact Kd.N_mono HO_5.out (fun _ hk => hk.1)⟩, ⟨by exact bB⟩⟩
     rw [if_pos c18] at H
     have c18b0 : decide (x8_2 < (t673.length : Int)) = true := decide_eq_true c18
     clear c18
     by_cases c19 : 0 ≤ x6_1
     rotate_left
     ·rw [if_neg c19] at H
      exact absurd H (by simp)
     rw [if_pos c19] at H
     have c19b0 : decide (0 ≤ x6_1) = true := decide_eq_true c19
     clear c19
     by_cases c20 : x6_1 < (l0.length : Int)
     rotate_left
     ·rw [if_neg c20] at H
      exact absurd H (by simp)
     rw [if_pos c20] at H
     have c20b0 : decide (x6_1 < (l0.length : Int)) = true := decide_eq_true c20
     clear c20
     obtain ⟨y677, hy677⟩ : ∃ y_ : List Int, y_ = (([rd l0 x6_1] : List Int)) := ⟨_, rfl⟩
     replace H : (if 0 ≤ x8_2 then (if y677.length + (rd_L3 t673 x8_2).length < 17592186044416 then (if x5_2.length < 5864062014805 then (spec_l8Choices.l1 k2 l0 a1 (x5_2 ++ [(y677 ++ (rd_L3 t673 x8_2))]) x6_1 t673 (wrap64 (x8_2 + 1))) else (none)) else (none)) else (none)) = some r := by first | (rw [hy677];with_reducible exact H) | (have H2_ := (Option.bind_some _ _).symm.trans H;rw [hy677];with_reducible exact H2_) | (have H2_ := (Option.bind_some _ _).symm.trans H;with_reducible exact H2_) | with_reducible exact H | (rw [hy677];exact H) | exact H
     have Ny677 := Aside0.mk hy677
     clear hy677
     by_cases c21 : 0 ≤ x8_2
     rotate_left
     ·rw [if_neg c21] at H
      exact absurd H (by simp)
     rw [if_pos c21] at H
     have c21b0 : decide (0 ≤ x8_2) = true := decide_eq_true c21
     clear c21
     by_cases c22 : y677.length + (rd_L3 t673 x8_2).length < 17592186044416
     rotate_left
     ·rw [if_neg c22] at H
      exact absurd H (by simp)
     rw [if_pos c22] at H
     have LMc22 := Aside0.mk c22
     clear c22
     obtain ⟨y681, hy681⟩ : ∃ y_ : List Int, y_ = (y677 ++ (rd_L3 t673 x8_2)) := ⟨_, rfl⟩
     replace H : (if x5_2.length < 5864062014805 then (spec_l8Choices.l1 k2 l0 a1 (x5_2 ++ [y681]) x6_1 t673 (wrap64 (x8_2 + 1))) else (none)) = some r := by first | (rw [hy681];with_reducible exact H) | (have H2_ := (Option.bind_some _ _).symm.trans H;rw [hy681];with_reducible exact H2_) | (have H2_ := (Option.bind_some _ _).symm.trans H;with_reducible exact H2_) | with_reducible exact H | (rw [hy681];exact H) | exact H
     have Ny681 := Aside0.mk hy681
     clear hy681
     by_cases c23 : x5_2.length < 5864062014805
     rotate_left
     ·rw [if_neg c23] at H
      exact absurd H (by simp)
     rw [if_pos c23] at H
     have LMc23 := Aside0.mk c23
     clear c23
     obtain ⟨y684, hy684⟩ : ∃ y_ : List (List Int), y_ = (x5_2 ++ [y681]) := ⟨_, rfl⟩
     replace H : (spec_l8Choices.l1 k2 l0 a1 y684 x6_1 t673 (wrap64 (x8_2 + 1))) = some r := by first | (rw [hy684];with_reducible exact H) | (have H2_ := (Option.bind_some _ _).symm.trans H;rw [hy684];with_reducible exact H2_) | (have H2_ := (Option.bind_some _ _).symm.trans H;with_reducible exact H2_) | with_reducible exact H | (rw [hy684];exact H) | exact H
     have Ny684 := Aside0.mk hy684
     clear hy684
     have H' := Aside0.mk H
     clear H
     obtain ⟨Ao24, co24, eo24⟩ := Kd.N_slice HO_7.out
     subst eo24
     try go_wp2
     have n0_ := aM (Kd.N_drew HO_5.out)
     have n1_ := aM (Kd.N_drew HO_7.out)
     have n2_ := aM (below_drew1 HB.out)
     clear HO_5
     clear HO_7
     clear HB
     have HO_5 := n0_
     have HO_7 := n1_
     have HB := n2_
     clear n0_ n1_ n2_
     have p676 : 0 ≤ (x6_1 : Int) := oA
     have q676 : x6_1 < (l0.length : Int) := oA
     obtain ⟨ad676, e676, hx676_0⟩ := Kd.at_int HR0.out x6_1 p676 q676
     have hw676_0 := hx676_0
     cases e676
     replace hx676_0 := (HB.out.cell (World.block_lt_of_cell? w _ hx676_0)).trans hx676_0
     replace p676 := eq_true p676
     replace q676 := eq_true q676
     have p680 : 0 ≤ (x8_2 : Int) := oA
     have q680 : x8_2 < (t673.length : Int) := oA
     obtain ⟨ad680, A680_0, c680_0, e680, hx680_0, hl680_0, hi680_0⟩ := at_L3 (Kd.N_reads' HO_7.out).2.2 x8_2 p680 q680
     cases e680
     obtain ⟨ce680, hce680, hMe680, hcc680⟩ := Kd.N_get HO_7.out [] x8_2 p680 (by first | exact q680 | exact oA | (have e_ := (Kd.N_reads' HO_7.out).1;omega))
     obtain ⟨ua680_0, uc680_0, rfl, ul680_0, ge680_0⟩ := Kd.FK_slice_open hMe680
     have hv680_0 := hcc680 0 _ rfl
     rw [Nat.add_zero, show ((Kd.slice 3 (Kd.int .i64))).sz = 1 from rfl, Nat.mul_one] at hv680_0
     replace hv680_0 := Option.some.inj (hv680_0.symm.trans hx680_0)
     injection hv680_0 with hva_ hvn_ hvc_
     rw [hva_] at ge680_0
     rw [hvc_] at ul680_0
     have HL680_0 := aM (show Kd.V (Kd.int .i64) 3 _ w.heap.size _ _ (rd_L3 t673 x8_2) from Kd.V_mk ul680_0 ge680_0)
     clear hva_ hvn_ hvc_ ge680_0 ul680_0
     clear hcc680 hce680
     have HR680_0 := Aside0.mk hi680_0
     have HC680_0 := Aside0.mk hl680_0
     clear hi680_0 hl680_0
     replace p680 := eq_true p680
     replace q680 := eq_true q680
     refine start_ (n := 14) (S := fun w' => w'.cell? (ad676.add (x6_1).toNat) = some (.int .i64 (rd l0 x6_1)) ∧ w'.cell? (ad680.add (x8_2).toNat) = some (.slice A680_0 (rd_L3 t673 x8_2).length c680_0)) (ds := [10, 11, 12]) #[false,false,false,false,false,false,false,false,false,false,false,false,false,false] (by kernel_rfl) rfl rfl ⟨((HB.out.cell (World.block_lt_of_cell? w _ hw676_0)).trans hw676_0), hx680_0⟩ (fun hHeld => ?_);refine with_tabW spec_l8Choices.tab11 spec_l8Choices.bits11 (fun HT_ HW_ => ?_)
     generalize wr.drew = w25 at HO_5 HO_7 HB HL680_0 HR680_0 hx676_0 hx680_0 hHeld ⊢
     refine pure_ (i := 0) (N := some 35) (v := ?_) (a' := ?_) #[true,false,false,false,false,false,false,false,false,false,false,false,false,false] rfl rfl (any_of HT_.out (by kernel_rfl)) (fun _ _ _ h => h) (Or.inl ⟨by rfl, ?_⟩) ?_ ?_
     rotate_left
     ·intro w'
      go_simp
      with_reducible rfl
     rotate_left
     ·exact aP
     refine pure_ (i := 1) (N := some 36) (v := ?_) (a' := ?_) #[true,true,false,false,false,false,false,false,false,false,false,false,false,false] rfl rfl (any_of HT_.out (by kernel_rfl)) (fun _ _ _ h => h) (Or.inl ⟨by rfl, ?_⟩) ?_ ?_
     rotate_left
     ·intro w'
      go_simp
      with_reducible rfl
     rotate_left
     ·exact aP
     refine pure_ (i := 2) (N := some 37) (v := ?_) (a' := ?_) #[true,true,true,false,false,false,false,false,false,false,false,false,false,false] rfl rfl (any_of HT_.out (by kernel_rfl)) (fun _ _ _ h => h) (Or.inl ⟨by rfl, ?_⟩) ?_ ?_
     rotate_left
     ·intro w'
      go_simp
      with_reducible rfl
     rotate_left
     ·exact aP
     refine pure_ (i := 3) (N := some 38) (v := ?_) (a' := ?_) #[true,true,true,true,false,false,false,false,false,false,false,false,false,false] rfl rfl (any_of HT_.out (by kernel_rfl)) (fun _ _ _ h => h) (Or.inl ⟨by rfl, ?_⟩) ?_ ?_
     rotate_left
     ·intro w'
      go_simp
      with_reducible rfl
     rotate_left
     ·exact aP
     refine pure_ (i := 6) (N := some 41) (v := ?_) (a' := ?_) #[true,true,true,true,false,false,true,false,false,false,false,false,false,false] rfl rfl (any_of HT_.out (by kernel_rfl)) (fun _ _ _ h => h) (Or.inl ⟨by rfl, ?_⟩) ?_ ?_
     rotate_left
     ·intro w'
      go_simp
      with_reducible rfl
     rotate_left
     ·exact aP
     refine pure_ (i := 7) (N := some 42) (v := ?_) (a' := ?_) #[true,true,true,true,false,false,true,true,false,false,false,false,false,false] rfl rfl (any_of HT_.out (by kernel_rfl)) (fun _ _ _ h => h) (Or.inl ⟨by rfl, ?_⟩) ?_ ?_
     rotate_left
     ·intro w'
      go_simp
      with_reducible rfl
     rotate_left
     ·exact aP
     refine pure_ (i := 8) (N := some 43) (v := ?_) (a' := ?_) #[true,true,true,true,false,false,true,true,true,false,false,false,false,false] rfl rfl (any_of HT_.out (by kernel_rfl)) (fun _ _ _ h => h) (Or.inl ⟨by rfl, ?_⟩) ?_ ?_
     rotate_left
     ·intro w'
      go_simp
      with_reducible rfl
     rotate_left
     ·exact aP
     refine take_ (i := 4) (N := some 39) (v := ?_) (a' := ?_) #[true,true,true,true,true,false,true,true,true,false,false,false,false,false] rfl rfl (take_ofW HT_.out HW_.out (by kernel_rfl)) (fun _ _ _ h => h) (Or.inl ⟨by rfl, ?_⟩) hHeld ?_ ?_
     rotate_left
     ·rintro w' ⟨s0, s1⟩
      go_simp
      with_reducible rfl
     rotate_left
     ·exact aP
     refine take_ (i := 9) (N := some 44) (v := ?_) (a' := ?_) #[true,true,true,true,true,false,true,true,true,true,false,false,false,false] rfl rfl (take_ofW HT_.out HW_.out (by kernel_rfl)) (fun _ _ _ h => h) (Or.inl ⟨by rfl, ?_⟩) hHeld ?_ ?_
     rotate_left
     ·rintro w' ⟨s0, s1⟩
      go_simp
      with_reducible rfl
     rotate_left
     ·exact aP
     refine one_ (i := 5) (N := some 40) #[true,true,true,true,true,true,true,true,true,true,false,false,false,false] rfl rfl (one_of HT_.out (by kernel_rfl)) (by decide) (fun K hK => ?_)
     refine Kd.R_lit_step (Kd.int .i64) _ 3 ?hg (N := 40) ?hd (xs := ([rd l0 x6_1] : List Int)) (inner := [.int .i64 (rd l0 x6_1)]) (ok := fun _ => True) (okp := fun _ => True) ?hr ?hp (fun _ hk => hk) trivial (Below.refl _ _) (Nat.le_refl _) (by simp) ?_;(case hd => rfl);(case hg => rfl);(case hr => first | (go_simp;done) | (go_simp;rfl));(case hp => exact (Reps.one (show Kd.M (Kd.int .i64) _ _ _ (rd l0 x6_1) [.int .i64 (rd l0 x6_1)] from rfl) (Reps.none _ _)))
     intro v678 w26 ho27 hb hg_ hnew_
     have HS1_ := (hb.cell (World.block_lt_of_cell? _ _ (hHeld.2))).trans (hHeld.2)
     clear hg_ hnew_
     (first | rw [← Ny677.out] at ho27 | (simp only [Int.reduceToNat] at ho27;rw [← Ny677.out] at ho27))
     have n0_ := aM (Kd.N_elder' (by (with_reducible repeat (first | apply Kd.N_alloc | apply Kd.N_drewN | apply Kd.N_drew));exact HO_5.out) (Kd.R_base ho27) hb)
     have n1_ := aM (Kd.N_elder' (by (with_reducible repeat (first | apply Kd.N_alloc | apply Kd.N_drewN | apply Kd.N_drew));exact HO_7.out) (Kd.R_base ho27) hb)
     have n2_ := aM (Kd.V_elder' (by (with_reducible repeat (first | apply Kd.V_alloc | apply Kd.V_drewN | apply Kd.V_drew));exact HL680_0.out) (Kd.R_base ho27) hb)
     have n3_ := aM (Kd.R_lower (Kd.R_newM (M := fun k_ => (w.heap.size ≤ k_)) ho27 (below_size (by exact bB)) (fun k_ h_ => h_)) (below_size (by exact bB)))
     have n4_ := aM (Kd.C_below (by repeat (first | (with_reducible exact HR680_0.out) | (with_reducible refine Kd.C_alloc ?_ _) | (with_reducible refine Kd.C_drewN ?_ _) | (with_reducible refine Kd.C_drew ?_) | exact HR680_0.out)) hb)
     have n5_ := aM (below_step (by exact bB) hb)
     clear HO_5
     clear HO_7
     clear HL680_0
     clear HR680_0
     clear HB
     have HO_5 := n0_
     have HO_7 := n1_
     have HL680_0 := n2_
     have HO679 := n3_
     have HR680_0 := n4_
     have HB := n5_
     clear n0_ n1_ n2_ n3_ n4_ n5_
     clear hb ho27
     refine hK.out _ _ ⟨((HB.out.cell (World.block_lt_of_cell? w _ hw676_0)).trans hw676_0), HS1_⟩ (fun hHeld => ?_)
     clear hK K
     refine norm_ (a' := ?_) ?_ ?_
     rotate_left
     ·show Act.put _ (some 40) _ = _
      simp only [Act.put, List.setIfInBounds_toArray, List.set_cons_zero, List.set_cons_succ, i64_w, i32_w]
      rfl
     refine last_ (i := 10) (N := some 45) #[true,true,true,true,true,true,true,true,true,true,true,false,false,false] rfl rfl (one_of HT_.out (by kernel_rfl)) (by decide) (fun K hK => ?_)
     refine Kd.R_append_rows_step (Kd.int .i64) (w0 := w) w.heap.size (by rfl) (.tmp 40) (.tmp 44) 28 3 (.int .i64 0) 8 rfl Try.underlying28 info3 rfl (by decide) (by omega) v678 y677 (rd_L3 t673 x8_2) _ _ _ (fun k_ => (w.heap.size ≤ k_)) (fun _ => False) rfl rfl ?aO ?aR (fun _ _ h => h) (fun _ h => h.elim) ?aF ?aB ?aS ?aL ?_
     (case aR => exact cP (by repeat (first | (with_reducible exact HR680_0.out) | (with_reducible refine Kd.C_alloc ?_ _) | (with_reducible refine Kd.C_drewN ?_ _) | (with_reducible refine Kd.C_drew ?_) | exact HR680_0.out)))
     (case aB => exact (by exact bB))
     (case aF => exact (fun k_ hk => (Nat.le_trans (below_size (by exact bB)) hk)))
     (case aO => exact (by refine rP ?_;exact Kd.R_mono HO679.out (fun _ hk => hk.1)))
     (case aS => exact (below_size (by exact bB)))
     (case aL => have := LMc22.out;omega)
     intro v682 w28 ho hb hg hat
     rw [← Ny681.out] at ho
     have n0_ := aM (Kd.N_afterv (ok := (fun k_ => (w.heap.size ≤ k_) ∧ some k_ ≠ (.slice (some ad680) t673.length co24 : Value).ownBlock)) (by (with_reducible repeat (first | apply Kd.N_alloc | apply Kd.N_drewN | apply Kd.N_drew));exact HO_5.out) hg hat)
     have n1_ := aM (Kd.N_afterv (ok := (fun k_ => (w.heap.size ≤ k_) ∧ some k_ ≠ (u5 : Value).ownBlock)) (by (with_reducible repeat (first | apply Kd.N_alloc | apply Kd.N_drewN | apply Kd.N_drew));exact HO_7.out) hg hat)
     have n2_ := aM (Kd.V_afterv (ok := (fun k_ => (w.heap.size ≤ k_) ∧ some k_ ≠ (u5 : Value).ownBlock ∧ some k_ ≠ (.slice (some ad680) t673.length co24 : Value).ownBlock)) (by (with_reducible repeat (first | apply Kd.V_alloc | apply Kd.V_drewN | apply Kd.V_drew));exact Kd.V_mono HL680_0.out (fun _ hk => ⟨⟨hk.1.1.1, ⟨hk.1.1.2, hk.1.2⟩⟩, hk.2⟩)) hg hat)
     have n3_ := aM (hb)
     have n4_ := aM (ho)
     clear HO_5
     clear HO_7
     clear HL680_0
     clear HB
     clear HO679
     have HO_5 := n0_
     have HO_7 := n1_
     have HL680_0 := n2_
     have HB := n3_
     have HO683 := n4_
     clear n0_ n1_ n2_ n3_ n4_
     clear ho hb hg hat
     obtain ⟨Ao30, co30, eo30⟩ := Kd.R_slice HO683.out
     (first | subst eo30 | (injection eo30 with f1_ f2_ f3_;have f4_ := f1_.symm;have f5_ := f3_.symm;clear f1_ f2_ f3_;subst f4_;subst f5_))
     refine hK.out _ _ ?_
     clear hK K
     refine norm_ (a' := ?_) ?_ ?_
     rotate_left
     ·show Act.put _ (some 45) _ = _
      simp only [Act.put, List.setIfInBounds_toArray, List.set_cons_zero, List.set_cons_succ, i64_w, i32_w]
      rfl
     refine last_ (i := 11) (N := some 46) #[true,true,true,true,true,true,true,true,true,true,true,true,false,false] rfl rfl (one_of HT_.out (by kernel_rfl)) (by decide) (fun K hK => ?_)
     refine value_ (w1 := ?_) (v := ?_) (by rfl) rfl ?_ ?_
     rotate_left 2
     ·go_simp
      constructor
      ·rfl
      ·rfl
     refine hK.out _ _ ?_
     clear hK K
     refine norm_ (a' := ?_) ?_ ?_
     rotate_left
     ·show Act.put _ (some 46) _ = _
      simp only [Act.put, List.setIfInBounds_toArray, List.set_cons_zero, List.set_cons_succ, i64_w, i32_w]
      rfl
     refine last_ (i := 12) (N := some 47) #[true,true,true,true,true,true,true,true,true,true,true,true,true,false] rfl rfl (one_of HT_.out (by kernel_rfl)) (by decide) (fun K hK => ?_)
     refine Kd.N_append_step (Kd.slice 3 (Kd.int .i64)) (w0 := w) w.heap.size (by rfl) (.tmp 35) (.tmp 46) 25 28 (.slice none 0 0) 24 rfl Try.underlying25 info28 rfl (by decide) (by omega) u5 x5_2 y681 [.slice Ao30 y681.length co30] (fun k_ => (w.heap.size ≤ k_) ∧ some k_ ≠ (.slice (some ad680) t673.length co24 : Value).ownBlock) (fun k_ => ((fun k_ => (w.heap.size ≤ k_) ∧ some k_ ≠ (.slice (some ad680) t673.length co24 : Value).ownBlock)) k_ ∧ some k_ ≠ (u5 : Value).ownBlock) rfl rfl ?aP (fun _ hk => hk) ?aF ?aO ?aB ?aS ?aL ?_
     (case aP => exact (Kd.FK_slice_mk (Kd.R_reads' (Kd.R_mono (ok' := (fun k_ => ((fun k_ => (w.heap.size ≤ k_) ∧ some k_ ≠ (.slice (some ad680) t673.length co24 : Value).ownBlock)) k_ ∧ some k_ ≠ (u5 : Value).ownBlock)) (Kd.R_apart' (Kd.R_apart' (HO683.out) (Kd.N_typed HO_7.out) (by decide)) (Kd.N_typed HO_5.out) (by decide)) (fun k_ hk => ⟨⟨hk.1.1, hk.1.2⟩, hk.2⟩))).2.1 (Kd.R_F (Kd.R_mono (ok' := (fun k_ => ((fun k_ => (w.heap.size ≤ k_) ∧ some k_ ≠ (.slice (some ad680) t673.length co24 : Value).ownBlock)) k_ ∧ some k_ ≠ (u5 : Value).ownBlock)) (Kd.R_apart' (Kd.R_apart' (HO683.out) (Kd.N_typed HO_7.out) (by decide)) (Kd.N_typed HO_5.out) (by decide)) (fun k_ hk => ⟨⟨hk.1.1, hk.1.2⟩, hk.2⟩)))))
     (case aB => exact (by exact bB))
     (case aF => exact (fun k_ hk => ⟨(Nat.le_trans (below_size (by exact bB)) hk), Kd.fresh' (Kd.N_lt (by (with_reducible repeat (first | apply Kd.N_alloc | apply Kd.N_drewN | apply Kd.N_drew));exact HO_7.out)) k_ hk⟩))
     (case aO => exact (by (with_reducible repeat (first | apply Kd.N_alloc | apply Kd.N_drewN | apply Kd.N_drew));exact Kd.N_mono HO_5.out (fun _ hk => ⟨hk.1.1, hk.1.2⟩)))
     (case aS => exact (below_size (by exact bB)))
     (case aL => have := LMc23.out;omega)
     intro v685 w29 ho hb hg hat
     rw [← Ny684.out] at ho
     have n0_ := aM (Kd.N_afterv (ok := (fun k_ => (w.heap.size ≤ k_) ∧ some k_ ≠ (.slice Ao30 y681.length co30 : Value).ownBlock)) (by (with_reducible repeat (first | apply Kd.N_alloc | apply Kd.N_drewN | apply Kd.N_drew));exact Kd.N_mono HO_7.out (fun _ hk => ⟨⟨hk.1.1, hk.2⟩, hk.1.2⟩)) hg hat)
     have n1_ := aM (Kd.V_afterv (ok := (fun k_ => (w.heap.size ≤ k_) ∧ some k_ ≠ (.slice (some ad680) t673.length co24 : Value).ownBlock ∧ some k_ ≠ (.slice Ao30 y681.length co30 : Value).ownBlock)) (by (with_reducible repeat (first | apply Kd.V_alloc | apply Kd.V_drewN | apply Kd.V_drew));exact Kd.V_mono HL680_0.out (fun _ hk => ⟨⟨hk.1.1, ⟨hk.1.2.2, hk.2⟩⟩, hk.1.2.1⟩)) hg hat)
     have n2_ := aM (hb)
     have n3_ := aM (ho)
     clear HO_7
     clear HL680_0
     clear HB
     clear HO_5
     clear HO683
     have HO_7 := n0_
     have HL680_0 := n1_
     have HB := n2_
     have HO686 := n3_
     clear n0_ n1_ n2_ n3_
     clear ho hb hg hat
     refine hK.out _ _ ?_
     clear hK K
     refine norm_ (a' := ?_) ?_ ?_
     rotate_left
     ·show Act.put _ (some 47) _ = _
      simp only [Act.put, List.setIfInBounds_toArray, List.set_cons_zero, List.set_cons_succ, i64_w, i32_w]
      rfl
     refine pure_ (i := 13) (N := some 5) (v := ?_) (a' := ?_) #[true,true,true,true,true,true,true,true,true,true,true,true,true,true] rfl rfl (any_of HT_.out (by kernel_rfl)) (fun _ _ _ h => h) (Or.inl ⟨by rfl, ?_⟩) ?_ ?_
     rotate_left
     ·intro w'
      go_simp
      with_reducible rfl
     rotate_left
     ·exact aP
     refine done_ (done_of HT_.out (by kernel_rfl)) ?_
     try go_wp2
     go_roundg k2
     case measure => have := HK1.out;have := HK2.out;omega
     case rel => exact ⟨(y684), (wrap64 (x8_2 + 1)), (by first | rfl | (simp;done) | (simp [*];done)), H', ⟨by have := HK1.out;have := HK2.out;omega⟩, ⟨by (with_reducible repeat (first | apply Kd.N_alloc | apply Kd.N_drewN | apply Kd.N_drew));exact HO686.out⟩, ⟨by (with_reducible repeat (first | apply Kd.N_alloc | apply Kd.N_drewN | apply Kd.N_drew));exact Kd.N_mono HO_7.out (fun _ hk => ⟨hk.1.1, hk.2⟩)⟩, ⟨by exact bB⟩⟩


end Go.Proofs.Ytmokkhfmbenleaa.QSavedSum
