import Derived.Test.YtmokkhfmbenleaaQSpreading0
import Derived.Test.YtmokkhfmbenleaaQSpreading7
import Derived.Test.YtmokkhfmbenleaaQSpreading8
namespace Go.Proofs.Ytmokkhfmbenleaa.QSpreading
open Go.RowKit Go.Proofs.YtmokkhfmbenleaaW.PrintWords Go.Proofs.YtmokkhfmbenleaaW.PrintLast Go.Proofs.YtmokkhfmbenleaaW.PrintMore
attribute [local go_sem] max2_int min2_int max_two min_two max_three min_three max_four min_four   -- for this text's walks alone
set_option linter.unusedVariables false
set_option linter.unusedSimpArgs false
/-! ### spec_l2All: function 107 -/
def spec_l2All.f (k : Nat) (a0_0 : Int) (l0_1 : List (S119)) : Option (List Int) := if 0 ≤ a0_0 then ((spec_l2Bits.f k a0_0 (wrap64 ((shl .i64 1 a0_0) - 1))).bind fun t725 => (some t725)) else (none)
theorem spec_l2All.mono : ∀ a0 a1 k, LeO (spec_l2All.f k a0 a1) (spec_l2All.f (k + 1) a0 a1) := by
 intro a0 a1 k
 unfold spec_l2All.f
 repeat' first
   | (with_reducible exact spec_l2Bits.mono _ _ _)
   | (with_reducible exact LeO.refl _)
   | (with_reducible exact LeO.none _)
   | (with_reducible refine LeO.ite ?_ ?_)
   | (with_reducible refine LeO.bind ?_ (fun _ => ?_))
   | exact LeO.none _
   | refine LeO.ite ?_ ?_
   | refine LeO.bind ?_ (fun _ => ?_)
def spec_l2All.T1 : Bool × List (List Nat × List Nat) := (true, [([], []), ([0], [0]), ([], []), ([2], [2]), ([3], [3]), ([4], [4]), ([1, 5], [1, 5]), ([6, 6, 0, 1, 2, 3, 4, 5, 6], [6])])
def spec_l2All.B1 : List Nat := [0, 1, 0, 4, 12, 28, 63, 127]
theorem spec_l2All.tab1 : rtab .any (opsOf Try.f107 1) = spec_l2All.T1 := by kernel_rfl
theorem spec_l2All.bits1 : waitsOk spec_l2All.T1.2 spec_l2All.B1 = true := by kernel_rfl
set_option maxHeartbeats 8000000 in
set_option maxRecDepth 100000 in
theorem spec_l2All.calls (k : Nat) (a0_0 : Int) (A0_1 : Option Addr) (c0_1 : Nat) (l0_1 : List (S119)) (r : List Int) (w : World) (hr0_1 : Kd.C k119 w A0_1 l0_1.length l0_1) (hc0_1 : l0_1.length ≤ c0_1) (h : spec_l2All.f k a0_0 l0_1 = some r) :
  Calls Try.prog 107 #[.agg #[.int .i64 a0_0, .slice A0_1 l0_1.length c0_1]] w fun e w' => ∃ v0_ : Value, e = .returned (v0_) ∧ Kd.R (Kd.int .i64) 3 w' w.heap.size (fun _ => True) v0_ r ∧ Below w.heap.size w w' := by
 have hu31 := Try.underlying31
 have HR0_1 := Aside0.mk hr0_1
 have HC0_1 := Aside0.mk hc0_1
 clear hr0_1 hc0_1
 have HB := aM (Below.refl w.heap.size w)
 have H : (if 0 ≤ a0_0 then ((spec_l2Bits.f k a0_0 (wrap64 ((shl .i64 1 a0_0) - 1))).bind fun t725 => (some t725)) else (none)) = some r := h
 clear h
 by_cases c2 : 0 ≤ a0_0
 rotate_left
 ·rw [if_neg c2] at H
  exact absurd H (by simp)
 rw [if_pos c2] at H
 have c2b0 := eq_true c2
 have c2b1 : decide (0 ≤ a0_0) = true := decide_eq_true c2
 clear c2
 obtain ⟨ji3, hji3⟩ : ∃ j_ : Int, (shl .i64 1 a0_0) = j_ := ⟨_, rfl⟩
 replace H : ((spec_l2Bits.f k a0_0 (wrap64 ((ji3) - 1))).bind fun t725 => (some t725)) = some r := by first | (rw [hji3] at H;exact H) | (simp only [hji3] at H ⊢;exact H)
 have hji3_ : (IntKind.i64.wrap (1 * 2 ^ min a0_0.toNat 64)) = ji3 := hji3
 have hji3z : a0_0 ≤ 64 → (IntKind.i64.wrap (1 * 2 ^ a0_0.toNat)) = ji3 := shl_small hji3
 have hji3u : (IntKind.i64.wrap (2 ^ min a0_0.toNat 64)) = ji3 := by have h_ := hji3_;rw [Int.one_mul] at h_;exact h_
 have hji3v : a0_0 ≤ 64 → (IntKind.i64.wrap (2 ^ a0_0.toNat)) = ji3 := fun hle_ => by have h_ := hji3z hle_;rw [Int.one_mul] at h_;exact h_
 have hji3y : (wrap64 (1 * 2 ^ min a0_0.toNat 64)) = ji3 := (i64_w _).symm.trans hji3_
 have hji3x : a0_0 ≤ 64 → (wrap64 (1 * 2 ^ a0_0.toNat)) = ji3 := fun h_ => (i64_w _).symm.trans (hji3z h_)
 replace H := Option.bind_eq_some_iff.mp H
 obtain ⟨t725, A40, H⟩ := H
 replace H : (some t725) = some r := H
 have A4 := Aside0.mk A40
 clear A40
 obtain rfl := Option.some.inj H
 go_enter Try.func107, Try.ntmps107
 try go_wp2_with (first | ((with_reducible refine gate_dst (N := 1) rfl ?_);refine box_event ?hg (N := 1) ?hd (cs := #[.int .i64 a0_0, .slice A0_1 l0_1.length c0_1]) (t := 31) ?hr ?_;(case hd => rfl);(case hg => rfl);(case hr => first | (go_simp;done) | (go_simp;rfl));intro gb724 hg w5 hbox hb;have n0_ := aM (below_step (by exact bB) hb);have n1_ := aM (hbox);have n2_ := aM (sW hg : w.heap.size ≤ gb724);have n3_ := aM (sW hg : w.heap.size ≤ gb724);clear HB;have HB := n0_;have BK724 := n1_;have GW724 := n2_;have GE724 := n3_;clear n0_ n1_ n2_ n3_;clear hb hbox hg))
 have n0_ := aM (blk_drew BK724.out)
 have n1_ := aM (below_drew1 HB.out)
 clear BK724
 clear HB
 have BK724 := n0_
 have HB := n1_
 clear n0_ n1_
 refine start_ (n := 8) (S := fun w' => w'.cell? ⟨gb724, 0, none⟩ = some (.int .i64 a0_0) ∧ w'.cell? ⟨gb724, 1, none⟩ = some (.slice A0_1 l0_1.length c0_1)) (ds := []) #[false,false,false,false,false,false,false,false] (by kernel_rfl) rfl rfl ⟨(blk_cell BK724.out 0).trans rfl, (blk_cell BK724.out 1).trans rfl⟩ (fun hHeld => ?_);refine with_tabW spec_l2All.tab1 spec_l2All.bits1 (fun HT_ HW_ => ?_)
 generalize w5.drew = w6 at BK724 HB hHeld ⊢
 refine pure_ (i := 0) (N := some 3) (v := ?_) (a' := ?_) #[true,false,false,false,false,false,false,false] rfl rfl (any_of HT_.out (by kernel_rfl)) (fun _ _ _ h => h) (Or.inl ⟨by rfl, ?_⟩) ?_ ?_
 rotate_left
 ·intro w'
  go_simp
  with_reducible rfl
 rotate_left
 ·exact aP
 refine pure_ (i := 2) (N := some 5) (v := ?_) (a' := ?_) #[true,false,true,false,false,false,false,false] rfl rfl (any_of HT_.out (by kernel_rfl)) (fun _ _ _ h => h) (Or.inl ⟨by rfl, ?_⟩) ?_ ?_
 rotate_left
 ·intro w'
  go_simp
  with_reducible rfl
 rotate_left
 ·exact aP
 refine take_ (i := 1) (N := some 4) (v := ?_) (a' := ?_) #[true,true,true,false,false,false,false,false] rfl rfl (take_ofW HT_.out HW_.out (by kernel_rfl)) (fun _ _ _ h => h) (Or.inl ⟨by rfl, ?_⟩) hHeld ?_ ?_
 rotate_left
 ·rintro w' ⟨s0, s1⟩
  go_simp
  with_reducible rfl
 rotate_left
 ·exact aP
 refine take_ (i := 3) (N := some 6) (v := ?_) (a' := ?_) #[true,true,true,true,false,false,false,false] rfl rfl (take_ofW HT_.out HW_.out (by kernel_rfl)) (fun _ _ _ h => h) (Or.inl ⟨by rfl, ?_⟩) hHeld ?_ ?_
 rotate_left
 ·rintro w' ⟨s0, s1⟩
  go_simp
  with_reducible rfl
 rotate_left
 ·exact aP
 refine pure_ (i := 4) (N := some 7) (v := ?_) (a' := ?_) #[true,true,true,true,true,false,false,false] rfl rfl (any_of HT_.out (by kernel_rfl)) (fun _ _ _ h => h) (Or.inl ⟨by rfl, ?_⟩) ?_ ?_
 rotate_left
 ·intro w'
  go_simp
  with_reducible rfl
 rotate_left
 ·exact aP
 refine pure_ (i := 5) (N := some 8) (v := ?_) (a' := ?_) #[true,true,true,true,true,true,false,false] rfl rfl (any_of HT_.out (by kernel_rfl)) (fun _ _ _ h => h) (Or.inl ⟨by rfl, ?_⟩) ?_ ?_
 rotate_left
 ·intro w'
  go_simp
  with_reducible rfl
 rotate_left
 ·exact aP
 refine one_ (i := 6) (N := some 9) #[true,true,true,true,true,true,true,false] rfl rfl (one_of HT_.out (by kernel_rfl)) (by decide) (fun K hK => ?_)
 refine goes_ Try.func108 (by kernel_rfl) rfl #[.int .i64 a0_0, .int .i64 (wrap64 ((ji3) - 1))] (by rfl) rfl rfl (by (try simp only [List.map_toArray, List.map_cons, List.map_nil]);first | done | (simp only [hji3];rfl) | rfl | (simp only [List.length_drop, List.length_take];rfl)) ?_
 with_reducible refine (spec_l2Bits.calls k a0_0 (wrap64 ((ji3) - 1)) t725 _ A4.out).mono ?_
 rintro e w7 ⟨v726, rfl, ho0, hb⟩
 refine ⟨_, rfl, ?_⟩
 have n0_ := aM (Kd.R_lower ho0 (below_size (by exact bB)))
 have n1_ := aM (kB hb BK724.out)
 have n2_ := aM (below_step (by exact bB) hb)
 clear BK724
 clear HB
 have HO727 := n0_
 have BK724 := n1_
 have HB := n2_
 clear n0_ n1_ n2_
 (try clear hb)
 (try clear hb2)
 (try clear hk)
 (try clear hi)
 (try clear ho0)
 refine hK.out _ _ ⟨(blk_cell BK724.out 0).trans rfl, (blk_cell BK724.out 1).trans rfl⟩ (fun hHeld => ?_)
 clear hK K
 refine norm_ (a' := ?_) ?_ ?_
 rotate_left
 ·show Act.put _ (some 9) _ = _
  simp only [Act.put, List.setIfInBounds_toArray, List.set_cons_zero, List.set_cons_succ, i64_w, i32_w]
  rfl
 refine pure_ (i := 7) (N := some 2) (v := ?_) (a' := ?_) #[true,true,true,true,true,true,true,true] rfl rfl (any_of HT_.out (by kernel_rfl)) (fun _ _ _ h => h) (Or.inl ⟨by rfl, ?_⟩) ?_ ?_
 rotate_left
 ·intro w'
  go_simp
  with_reducible rfl
 rotate_left
 ·exact aP
 refine done_ (done_of HT_.out (by kernel_rfl)) ?_
 try go_wp2
 go_ret
 exact ⟨_, by first | rfl | (simp [errW_none, errW_some] <;> rfl) | (simp only [← hji3];first | rfl | (simp [errW_none, errW_some] <;> rfl)) | (simp [*, errW_none, errW_some] <;> rfl), by exact rP HO727.out, by exact bB⟩


/-! ### spec_l4Less: function 109 -/
def spec_l4Less.l0 : Nat → List Int → List Int → Int → Option (Bool)
 | 0, _, _, _ => none
 | k + 1, x0, x1, x5 => if x5 < (x0.length : Int) then (if 0 ≤ x5 then (if x5 < (x1.length : Int) then (if (rd x0 x5) = (rd x1 x5) then (spec_l4Less.l0 k x0 x1 (wrap64 (x5 + 1))) else (some (decide ((rd x0 x5) < (rd x1 x5))))) else (none)) else (none)) else (some false)
def spec_l4Less.f (k : Nat) (l0 : List Int) (l1 : List Int) : Option (Bool) := spec_l4Less.l0 k l0 l1 0
theorem spec_l4Less.mono_l : ∀ k, (∀ y0 y1 y2, LeO (spec_l4Less.l0 k y0 y1 y2) (spec_l4Less.l0 (k + 1) y0 y1 y2))
 | 0 => fun _ _ _ r h => by simp [spec_l4Less.l0] at h
 | k + 1 => by
  have ih0 := spec_l4Less.mono_l k
  ·intro y0 y1 y2
   unfold spec_l4Less.l0
   repeat' first
   | (with_reducible exact ih0 _ _ _)
   | (with_reducible exact LeO.refl _)
   | (with_reducible exact LeO.none _)
   | (with_reducible refine LeO.ite ?_ ?_)
   | (with_reducible refine LeO.bind ?_ (fun _ => ?_))
   | exact LeO.none _
   | refine LeO.ite ?_ ?_
   | refine LeO.bind ?_ (fun _ => ?_)
theorem spec_l4Less.mono : ∀ a0 a1 k, LeO (spec_l4Less.f k a0 a1) (spec_l4Less.f (k + 1) a0 a1) := by
 intro a0 a1 k
 have ih0 := spec_l4Less.mono_l k
 unfold spec_l4Less.f
 repeat' first
   | (with_reducible exact ih0 _ _ _)
   | (with_reducible exact LeO.refl _)
   | (with_reducible exact LeO.none _)
   | (with_reducible refine LeO.ite ?_ ?_)
   | (with_reducible refine LeO.bind ?_ (fun _ => ?_))
   | exact LeO.none _
   | refine LeO.ite ?_ ?_
   | refine LeO.bind ?_ (fun _ => ?_)
set_option maxHeartbeats 8000000 in
set_option maxRecDepth 100000 in
theorem spec_l4Less.calls (k : Nat) (A0 : Option Addr) (c0 : Nat) (l0 : List Int) (A1 : Option Addr) (c1 : Nat) (l1 : List Int) (r : Bool) (w : World) (hr0 : Kd.C (Kd.int .i64) w A0 l0.length l0) (hc0 : l0.length ≤ c0) (hr1 : Kd.C (Kd.int .i64) w A1 l1.length l1) (hc1 : l1.length ≤ c1) (h : spec_l4Less.f k l0 l1 = some r) :
  Calls Try.prog 109 #[.slice A0 l0.length c0, .slice A1 l1.length c1] w fun e w' => e = .returned (.bool r) ∧ Drawn0 w w' := by
 have HR0 := Aside0.mk hr0
 have HC0 := Aside0.mk hc0
 clear hr0 hc0
 have HR1 := Aside0.mk hr1
 have HC1 := Aside0.mk hc1
 clear hr1 hc1
 have H : (spec_l4Less.l0 k l0 l1 0) = some r := h
 clear h
 have H' := Aside0.mk H
 clear H
 go_enter Try.func109, Try.ntmps109
 go_wp2
 repeat (go_quiet (fail);try go_wp2)
 go_loopg [5] k (fun kq v5 w' => ∃ (x5_1 : Int), v5 = .int .i64 x5_1 ∧ Aside0 (spec_l4Less.l0 kq l0 l1 x5_1 = some r) ∧ Aside0 (kq ≤ k) ∧ Drawn0 w w')
 case atStart => exact ⟨(0), (by first | rfl | (simp;done) | (simp [*];done)), H', ⟨Nat.le_refl _⟩, by repeat (first | exact Drawn0.refl _ | apply Drawn0.step)⟩
 case round =>
  clear H'
  try clear c1
  try clear p2
  obtain ⟨x5_1, rfl, HA, HK1, ⟨m1, rfl⟩⟩ := hrel
  cases gk with
  | zero => exact absurd HA.out (by simp [spec_l4Less.l0])
  | succ k1 =>
   have H := HA.out
   clear HA
   simp only [spec_l4Less.l0] at H
   by_cases c3 : x5_1 < (l0.length : Int)
   rotate_left
   ·rw [if_neg c3] at H
    have c3b0 : decide (x5_1 < (l0.length : Int)) = false := decide_eq_false c3
    clear c3
    obtain rfl := Option.some.inj H
    go_wp2
    repeat (go_quiet (fail);try go_wp2)
    go_ret
    exact ⟨by first | rfl | (simp;done) | (simp [*];done), by repeat (first | exact Drawn0.refl _ | apply Drawn0.step)⟩
   rw [if_pos c3] at H
   have c3b0 : decide (x5_1 < (l0.length : Int)) = true := decide_eq_true c3
   clear c3
   by_cases c4 : 0 ≤ x5_1
   rotate_left
   ·rw [if_neg c4] at H
    exact absurd H (by simp)
   rw [if_pos c4] at H
   have c4b0 : decide (0 ≤ x5_1) = true := decide_eq_true c4
   clear c4
   by_cases c5 : x5_1 < (l1.length : Int)
   rotate_left
   ·rw [if_neg c5] at H
    exact absurd H (by simp)
   rw [if_pos c5] at H
   have c5b0 : decide (x5_1 < (l1.length : Int)) = true := decide_eq_true c5
   clear c5
   by_cases c6 : (rd l0 x5_1) = (rd l1 x5_1)
   ·rw [if_pos c6] at H
    have c6b0 : ((rd l0 x5_1) == (rd l1 x5_1)) = true := beq_iff_eq.mpr c6
    have c6b1 : ((rd l0 x5_1) != (rd l1 x5_1)) = false := bne_eq_false_iff_eq.mpr c6
    clear c6
    have H' := Aside0.mk H
    clear H
    have p728 : 0 ≤ (x5_1 : Int) := oA
    have q728 : x5_1 < (l0.length : Int) := oA
    obtain ⟨ad728, e728, hx728_0⟩ := Kd.at_int HR0.out x5_1 p728 q728
    cases e728
    replace p728 := eq_true p728
    replace q728 := eq_true q728
    have p729 : 0 ≤ (x5_1 : Int) := oA
    have q729 : x5_1 < (l1.length : Int) := oA
    obtain ⟨ad729, e729, hx729_0⟩ := Kd.at_int HR1.out x5_1 p729 q729
    cases e729
    replace p729 := eq_true p729
    replace q729 := eq_true q729
    go_wp2
    repeat (go_quiet (fail);try go_wp2)
    go_roundg k1
    case measure => have := HK1.out;omega
    case rel => exact ⟨(wrap64 (x5_1 + 1)), (by first | rfl | (simp;done) | (simp [*];done)), H', ⟨by have := HK1.out;omega⟩, by repeat (first | exact Drawn0.refl _ | apply Drawn0.step)⟩
   rw [if_neg c6] at H
   have c6b0 : ((rd l0 x5_1) == (rd l1 x5_1)) = false := beq_eq_false_iff_ne.mpr c6
   have c6b1 : ((rd l0 x5_1) != (rd l1 x5_1)) = true := bne_iff_ne.mpr c6
   obtain rfl := Option.some.inj H
   have p728 : 0 ≤ (x5_1 : Int) := oA
   have q728 : x5_1 < (l0.length : Int) := oA
   obtain ⟨ad728, e728, hx728_0⟩ := Kd.at_int HR0.out x5_1 p728 q728
   cases e728
   replace p728 := eq_true p728
   replace q728 := eq_true q728
   have p729 : 0 ≤ (x5_1 : Int) := oA
   have q729 : x5_1 < (l1.length : Int) := oA
   obtain ⟨ad729, e729, hx729_0⟩ := Kd.at_int HR1.out x5_1 p729 q729
   cases e729
   replace p729 := eq_true p729
   replace q729 := eq_true q729
   have p730 : 0 ≤ (x5_1 : Int) := oA
   have q730 : x5_1 < (l0.length : Int) := oA
   obtain ⟨ad730, e730, hx730_0⟩ := Kd.at_int HR0.out x5_1 p730 q730
   obtain rfl : ad728 = ad730 := (by injection e730)
   replace p730 := eq_true p730
   replace q730 := eq_true q730
   have p731 : 0 ≤ (x5_1 : Int) := oA
   have q731 : x5_1 < (l1.length : Int) := oA
   obtain ⟨ad731, e731, hx731_0⟩ := Kd.at_int HR1.out x5_1 p731 q731
   obtain rfl : ad729 = ad731 := (by injection e731)
   replace p731 := eq_true p731
   replace q731 := eq_true q731
   go_wp2
   repeat (go_quiet (fail);try go_wp2)
   go_ret
   exact ⟨by first | rfl | (simp;done) | (simp [*];done), by repeat (first | exact Drawn0.refl _ | apply Drawn0.step)⟩


/-! ### spec_LeastSpreading: function 54 -/
mutual
def spec_LeastSpreading.j0 : Nat → Int → Bool → Int → List (S119) → Option (List Int × Bool)
 | 0, _, _, _, _ => none
 | k + 1, x1, x16, x733000, x733001 => if x16 = true then (some ((([] : List Int)), false)) else ((spec_l2All.f k x733000 x733001).bind fun t738 => (spec_LeastSpreading.l0 k x1 t738 0 x733000 x733001))
def spec_LeastSpreading.l0 : Nat → Int → List Int → Int → Int → List (S119) → Option (List Int × Bool)
 | 0, _, _, _, _, _ => none
 | k + 1, x1, x6, x7, x733000, x733001 => if 0 ≤ x733000 then (if x7 < (shl .i64 1 x733000) then ((spec_l2Bits.f k x733000 x7).bind fun t741 => ((spec_l8Spread.f k x733000 x733001 t741 x1).bind fun t744 => (if (t744.length : Int) < x733000 then (spec_LeastSpreading.l0 k x1 x6 (wrap64 (x7 + 1)) x733000 x733001) else (if (t741.length : Int) < (x6.length : Int) then (spec_LeastSpreading.l0 k x1 t741 (wrap64 (x7 + 1)) x733000 x733001) else (if (t741.length : Int) = (x6.length : Int) then ((spec_l4Less.f k t741 x6).bind fun t747 => (if t747 = true then (spec_LeastSpreading.l0 k x1 t741 (wrap64 (x7 + 1)) x733000 x733001) else (spec_LeastSpreading.l0 k x1 x6 (wrap64 (x7 + 1)) x733000 x733001))) else (spec_LeastSpreading.l0 k x1 x6 (wrap64 (x7 + 1)) x733000 x733001)))))) else (some (x6, true))) else (none)
end
def spec_LeastSpreading.f (k : Nat) (a0_0 : Int) (l0_1 : List (S119)) (a1 : Int) : Option (List Int × Bool) := (spec_l2Good.f a0_0 l0_1).bind fun t733 => (if t733 = true then ((spec_l8Number.f a1).bind fun t734 => (spec_LeastSpreading.j0 k a1 (!t734) a0_0 l0_1)) else (spec_LeastSpreading.j0 k a1 true a0_0 l0_1))
theorem spec_LeastSpreading.mono_l : ∀ k, (∀ y0 y1 y2 y3, LeO (spec_LeastSpreading.j0 k y0 y1 y2 y3) (spec_LeastSpreading.j0 (k + 1) y0 y1 y2 y3)) ∧ (∀ y0 y1 y2 y3 y4, LeO (spec_LeastSpreading.l0 k y0 y1 y2 y3 y4) (spec_LeastSpreading.l0 (k + 1) y0 y1 y2 y3 y4))
 | 0 => ⟨fun _ _ _ _ r h => by simp [spec_LeastSpreading.j0] at h, fun _ _ _ _ _ r h => by simp [spec_LeastSpreading.l0] at h⟩
 | k + 1 => by
  obtain ⟨ih0, ih1⟩ := spec_LeastSpreading.mono_l k
  refine ⟨?_, ?_⟩
  ·intro y0 y1 y2 y3
   unfold spec_LeastSpreading.j0
   repeat' first
   | (with_reducible exact ih0 _ _ _ _)
   | (with_reducible exact ih1 _ _ _ _ _)
   | (with_reducible exact spec_l2All.mono _ _ _)
   | (with_reducible exact spec_l2Bits.mono _ _ _)
   | (with_reducible exact spec_l4Less.mono _ _ _)
   | (with_reducible exact spec_l8Spread.mono _ _ _ _ _)
   | (with_reducible exact LeO.refl _)
   | (with_reducible exact LeO.none _)
   | (with_reducible refine LeO.ite ?_ ?_)
   | (with_reducible refine LeO.bind ?_ (fun _ => ?_))
   | exact LeO.none _
   | refine LeO.ite ?_ ?_
   | refine LeO.bind ?_ (fun _ => ?_)
  ·intro y0 y1 y2 y3 y4
   unfold spec_LeastSpreading.l0
   repeat' first
   | (with_reducible exact ih0 _ _ _ _)
   | (with_reducible exact ih1 _ _ _ _ _)
   | (with_reducible exact spec_l2All.mono _ _ _)
   | (with_reducible exact spec_l2Bits.mono _ _ _)
   | (with_reducible exact spec_l4Less.mono _ _ _)
   | (with_reducible exact spec_l8Spread.mono _ _ _ _ _)
   | (with_reducible exact LeO.refl _)
   | (with_reducible exact LeO.none _)
   | (with_reducible refine LeO.ite ?_ ?_)
   | (with_reducible refine LeO.bind ?_ (fun _ => ?_))
   | exact LeO.none _
   | refine LeO.ite ?_ ?_
   | refine LeO.bind ?_ (fun _ => ?_)
theorem spec_LeastSpreading.mono : ∀ a0 a1 a2 k, LeO (spec_LeastSpreading.f k a0 a1 a2) (spec_LeastSpreading.f (k + 1) a0 a1 a2) := by
 intro a0 a1 a2 k
 obtain ⟨ih0, ih1⟩ := spec_LeastSpreading.mono_l k
 unfold spec_LeastSpreading.f
 repeat' first
   | (with_reducible exact ih0 _ _ _ _)
   | (with_reducible exact ih1 _ _ _ _ _)
   | (with_reducible exact spec_l2All.mono _ _ _)
   | (with_reducible exact spec_l2Bits.mono _ _ _)
   | (with_reducible exact spec_l4Less.mono _ _ _)
   | (with_reducible exact spec_l8Spread.mono _ _ _ _ _)
   | (with_reducible exact LeO.refl _)
   | (with_reducible exact LeO.none _)
   | (with_reducible refine LeO.ite ?_ ?_)
   | (with_reducible refine LeO.bind ?_ (fun _ => ?_))
   | exact LeO.none _
   | refine LeO.ite ?_ ?_
   | refine LeO.bind ?_ (fun _ => ?_)
def spec_LeastSpreading.T8 : Bool × List (List Nat × List Nat) := (true, [([], []), ([], []), ([], []), ([0, 1, 2], [0, 1, 2]), ([3], [3]), ([], []), ([5], [5]), ([4, 6], [4, 6])])
def spec_LeastSpreading.B8 : List Nat := [0, 0, 0, 7, 15, 0, 32, 127]
theorem spec_LeastSpreading.tab8 : rtab .any (opsOf Try.f54 8) = spec_LeastSpreading.T8 := by kernel_rfl
theorem spec_LeastSpreading.bits8 : waitsOk spec_LeastSpreading.T8.2 spec_LeastSpreading.B8 = true := by kernel_rfl
set_option maxHeartbeats 8000000 in
set_option maxRecDepth 100000 in
theorem spec_LeastSpreading.calls (k : Nat) (a0_0 : Int) (A0_1 : Option Addr) (c0_1 : Nat) (l0_1 : List (S119)) (a1 : Int) (r1 : List Int) (r2 : Bool) (w : World) (hr0_1 : Kd.C k119 w A0_1 l0_1.length l0_1) (hc0_1 : l0_1.length ≤ c0_1) (h : spec_LeastSpreading.f k a0_0 l0_1 a1 = some (r1, r2)) :
  Calls Try.prog 54 #[.agg #[.int .i64 a0_0, .slice A0_1 l0_1.length c0_1], .int .i64 a1] w fun e w' => ∃ v0_ : Value, e = .returned (.tuple #[v0_, .bool r2]) ∧ Kd.R (Kd.int .i64) 3 w' w.heap.size (fun _ => True) v0_ r1 ∧ Below w.heap.size w w' := by
 have hu31 := Try.underlying31
 have HR0_1 := Aside0.mk hr0_1
 have HC0_1 := Aside0.mk hc0_1
 clear hr0_1 hc0_1
 have HB := aM (Below.refl w.heap.size w)
 have H : ((spec_l2Good.f a0_0 l0_1).bind fun t733 => (if t733 = true then ((spec_l8Number.f a1).bind fun t734 => (spec_LeastSpreading.j0 k a1 (!t734) a0_0 l0_1)) else (spec_LeastSpreading.j0 k a1 true a0_0 l0_1))) = some (r1, r2) := h
 clear h
 have HC3 := Aside0.mk H
 clear H
 go_enter Try.func54, Try.ntmps54
 go_upto_region 1 with (first | ((with_reducible refine gate_dst (N := 2) rfl ?_);(try (refine gate_guard (by rfl) ?_;dsimp only));refine box_event ?hg (N := 2) ?hd (cs := #[.int .i64 a0_0, .slice A0_1 l0_1.length c0_1]) (t := 31) ?hr ?_;(case hd => rfl);(case hg => rfl);(case hr => first | (go_simp;done) | (go_simp;rfl));intro gb732 hg w4 hbox hb;have n0_ := aM (below_step (by exact bB) hb);have n1_ := aM (hbox);have n2_ := aM (sW hg : w.heap.size ≤ gb732);have n3_ := aM (sW hg : w.heap.size ≤ gb732);clear HB;have HB := n0_;have BK732 := n1_;have GW732 := n2_;have GE732 := n3_;clear n0_ n1_ n2_ n3_;clear hb hbox hg))
 (try simp only [Act.put, List.setIfInBounds_toArray, List.set_cons_zero, List.set_cons_succ])
 go_cut [16] (fun v16 wc => ∃ (kq : Nat) (x16_2 : Bool), v16 = .bool x16_2 ∧ Aside0 (spec_LeastSpreading.j0 kq a1 x16_2 a0_0 l0_1 = some (r1, r2)) ∧ Aside0 (kq ≤ k) ∧ Aside0 (wc.heap[gb732]? = some (.cells #[.int .i64 a0_0, (.slice A0_1 l0_1.length c0_1)] 31 (0, 0))) ∧ Aside0 (Below w.heap.size w wc))
 case first =>
  have H := HC3.out
  clear HC3
  replace H := Option.bind_eq_some_iff.mp H
  obtain ⟨t733, A50, H⟩ := H
  replace H : (if t733 = true then ((spec_l8Number.f a1).bind fun t734 => (spec_LeastSpreading.j0 k a1 (!t734) a0_0 l0_1)) else (spec_LeastSpreading.j0 k a1 true a0_0 l0_1)) = some (r1, r2) := H
  have A5 := Aside0.mk A50
  clear A50
  by_cases c6 : t733 = true
  rotate_left
  ·replace c6 := Bool.eq_false_iff.mpr c6
   subst c6
   have H1 : (spec_LeastSpreading.j0 k a1 true a0_0 l0_1) = some (r1, r2) := by rw [if_neg (show ¬ (false = true) by decide)] at H;exact H
   clear H
   have H := H1
   clear H1
   have H' := Aside0.mk H
   clear H
   have hcz10_0 := bC0 BK732.out
   have hcz10_1 := bC1 BK732.out
   have hfz10_0 := blk_frozen BK732.out 0
   have hfz10_1 := blk_frozen BK732.out 1
   go_wp2_with (first | ((with_reducible refine gate_callee (f := 83) rfl ?_);refine goesL_ (some 10) rfl rfl Try.func83 (by kernel_rfl) rfl #[.agg #[.int .i64 a0_0, .slice A0_1 l0_1.length c0_1]] rfl mM ?_;(with_reducible refine (spec_l2Good.calls a0_0 _ _ l0_1 false _ ?side1 ?side2 A5.out).mono ?_);(case side1 => exact cP (Kd.C_below HR0_1.out HB.out));(case side2 => exact HC0_1.out);rintro e w11 ⟨rfl, hb⟩;refine ⟨_, rfl, ?_⟩;have n0_ := aM (kB hb BK732.out);have n1_ := aM (below_step (by exact bB) hb);clear BK732;clear HB;have BK732 := n0_;have HB := n1_;clear n0_ n1_;(try clear hb);(try clear hb2);(try clear hk);(try clear hi)))
   go_meet
   case rel => exact ⟨_, (true), (by first | rfl | (simp;done) | (simp [*];done)), H', ⟨by first | omega | exact Nat.le_refl _⟩, ⟨by exact kP BK732.out⟩, ⟨by exact bB⟩⟩
  subst c6
  have H1 : ((spec_l8Number.f a1).bind fun t734 => (spec_LeastSpreading.j0 k a1 (!t734) a0_0 l0_1)) = some (r1, r2) := by rw [if_pos rfl] at H;exact H
  clear H
  have H := H1
  clear H1
  replace H := Option.bind_eq_some_iff.mp H
  obtain ⟨t734, A70, H⟩ := H
  replace H : (spec_LeastSpreading.j0 k a1 (!t734) a0_0 l0_1) = some (r1, r2) := H
  have A7 := Aside0.mk A70
  clear A70
  have H' := Aside0.mk H
  clear H
  have hcz8_0 := bC0 BK732.out
  have hcz8_1 := bC1 BK732.out
  have hfz8_0 := blk_frozen BK732.out 0
  have hfz8_1 := blk_frozen BK732.out 1
  go_wp2_with (first | ((with_reducible refine gate_callee (f := 83) rfl ?_);refine goesL_ (some 10) rfl rfl Try.func83 (by kernel_rfl) rfl #[.agg #[.int .i64 a0_0, .slice A0_1 l0_1.length c0_1]] rfl mM ?_;(with_reducible refine (spec_l2Good.calls a0_0 _ _ l0_1 true _ ?side1 ?side2 A5.out).mono ?_);(case side1 => exact cP (Kd.C_below HR0_1.out HB.out));(case side2 => exact HC0_1.out);rintro e w9 ⟨rfl, hb⟩;refine ⟨_, rfl, ?_⟩;have n0_ := aM (kB hb BK732.out);have n1_ := aM (below_step (by exact bB) hb);clear BK732;clear HB;have BK732 := n0_;have HB := n1_;clear n0_ n1_;(try clear hb);(try clear hb2);(try clear hk);(try clear hi)) | (go_at_call 99;(with_reducible refine (spec_l8Number.calls a1 t734 _ A7.out).mono ?_);rintro e w' ⟨rfl, ⟨nd, rfl⟩⟩))
  go_meet
  case rel => exact ⟨_, (!t734), (by first | rfl | (simp;done) | (simp [*];done)), H', ⟨by first | omega | exact Nat.le_refl _⟩, ⟨by exact kP BK732.out⟩, ⟨by exact bB⟩⟩
 case rest =>
  clear HC3
  try clear p2
  try clear c5
  try clear c6
  try clear c8
  try clear hcz10_0
  try clear hcz10_1
  try clear hcz8_0
  try clear hcz8_1
  try clear hfz10_0
  try clear hfz10_1
  try clear hfz8_0
  try clear hfz8_1
  obtain ⟨kq, x16_2, rfl, HA, HJ2, BK732, HB⟩ := hcut
  cases kq with
  | zero => exact absurd HA.out (by simp [spec_LeastSpreading.j0])
  | succ kj2 =>
   have H := HA.out
   clear HA
   simp only [spec_LeastSpreading.j0] at H
   by_cases c12 : x16_2 = true
   ·subst c12
    have H1 : (some ((([] : List Int)), false)) = some (r1, r2) := by rw [if_pos rfl] at H;exact H
    clear H
    have H := H1
    clear H1
    obtain ⟨y735, hy735⟩ : ∃ y_ : List Int, y_ = (([] : List Int)) := ⟨_, rfl⟩
    replace H : (some (y735, false)) = some (r1, r2) := by first | (rw [hy735];with_reducible exact H) | (have H2_ := (Option.bind_some _ _).symm.trans H;rw [hy735];with_reducible exact H2_) | (have H2_ := (Option.bind_some _ _).symm.trans H;with_reducible exact H2_) | with_reducible exact H | (rw [hy735];exact H) | exact H
    have Ny735 := Aside0.mk hy735
    clear hy735
    simp only [Option.some.injEq, Prod.mk.injEq] at H
    obtain ⟨rfl, rfl⟩ := H
    go_wp2_with (first | ((with_reducible refine gate_dst (N := 17) rfl ?_);(try (refine gate_guard (by rfl) ?_;dsimp only));refine Kd.R_lit (Kd.int .i64) _ 3 ?hg (N := 17) ?hd (xs := ([] : List Int)) (inner := []) (ok := fun _ => True) (okp := fun _ => True) ?hr ?hp (fun _ hk => hk) trivial (Below.refl _ _) (Nat.le_refl _) (by simp) ?_;(case hd => rfl);(case hg => rfl);(case hr => first | (go_simp;done) | (go_simp;rfl));(case hp => exact (Reps.none _ _));intro v736 w13 ho14 hb hg_ hnew_;clear hg_ hnew_;(first | rw [← Ny735.out] at ho14 | (simp only [Int.reduceToNat] at ho14;rw [← Ny735.out] at ho14));have n0_ := aM (Kd.R_lower ho14 (below_size (by exact bB)));have n1_ := aM (kB hb BK732.out);have n2_ := aM (below_step (by exact bB) hb);clear BK732;clear HB;have HO737 := n0_;have BK732 := n1_;have HB := n2_;clear n0_ n1_ n2_;clear hb ho14))
    go_ret2
    exact ⟨_, by first | rfl | (simp [errW_none, errW_some] <;> rfl) | (simp [*, errW_none, errW_some] <;> rfl), by exact rP HO737.out, by exact bB⟩
   replace c12 := Bool.eq_false_iff.mpr c12
   subst c12
   have H1 : ((spec_l2All.f kj2 a0_0 l0_1).bind fun t738 => (spec_LeastSpreading.l0 kj2 a1 t738 0 a0_0 l0_1)) = some (r1, r2) := by rw [if_neg (show ¬ (false = true) by decide)] at H;exact H
   clear H
   have H := H1
   clear H1
   replace H := Option.bind_eq_some_iff.mp H
   obtain ⟨t738, A150, H⟩ := H
   replace H : (spec_LeastSpreading.l0 kj2 a1 t738 0 a0_0 l0_1) = some (r1, r2) := H
   have A15 := Aside0.mk A150
   clear A150
   have H' := Aside0.mk H
   clear H
   have hcz16_0 := bC0 BK732.out
   have hcz16_1 := bC1 BK732.out
   have hfz16_0 := blk_frozen BK732.out 0
   have hfz16_1 := blk_frozen BK732.out 1
   go_wp2_with (first | ((with_reducible refine gate_callee (f := 107) rfl ?_);refine goesL_ (some 19) rfl rfl Try.func107 (by kernel_rfl) rfl #[.agg #[.int .i64 a0_0, .slice A0_1 l0_1.length c0_1]] rfl mM ?_;(with_reducible refine (spec_l2All.calls kj2 a0_0 _ _ l0_1 t738 _ ?side1 ?side2 A15.out).mono ?_);(case side1 => exact cP (Kd.C_below HR0_1.out HB.out));(case side2 => exact HC0_1.out);rintro e w17 ⟨v739, rfl, ho0, hb⟩;refine ⟨_, rfl, ?_⟩;have n0_ := aM (Kd.R_lower ho0 (below_size (by exact bB)));have n1_ := aM (kB hb BK732.out);have n2_ := aM (below_step (by exact bB) hb);clear BK732;clear HB;have HO740 := n0_;have BK732 := n1_;have HB := n2_;clear n0_ n1_ n2_;(try clear hb);(try clear hb2);(try clear hk);(try clear hi);(try clear ho0)))
   go_loopg [6, 7] kj2 (fun kq v6 v7 w' => ∃ (x6_2 : List Int) (x7_2 : Int), v7 = .int .i64 x7_2 ∧ Aside0 (spec_LeastSpreading.l0 kq a1 x6_2 x7_2 a0_0 l0_1 = some (r1, r2)) ∧ Aside0 (kq ≤ kj2) ∧ Aside0 (Kd.R (Kd.int .i64) 3 w' w.heap.size (fun _ => True) v6 x6_2) ∧ Aside0 (w'.heap[gb732]? = some (.cells #[.int .i64 a0_0, (.slice A0_1 l0_1.length c0_1)] 31 (0, 0))) ∧ Aside0 (Below w.heap.size w w'))
   case atStart => exact ⟨(t738), (0), (by first | rfl | (simp;done) | (simp [*];done)), H', ⟨Nat.le_refl _⟩, ⟨by exact rP HO740.out⟩, ⟨by exact kP BK732.out⟩, ⟨by exact bB⟩⟩
   case round =>
    clear H'
    try clear c1
    try clear p2
    try clear c5
    try clear c6
    try clear c8
    try clear c10
    try clear c12
    try clear hcz10_0
    try clear hcz10_1
    try clear hcz16_0
    try clear hcz16_1
    try clear hcz8_0
    try clear hcz8_1
    try clear hfz10_0
    try clear hfz10_1
    try clear hfz16_0
    try clear hfz16_1
    try clear hfz8_0
    try clear hfz8_1
    try clear p2
    obtain ⟨x6_2, x7_2, rfl, HA, HK2, HO_6, BK732, HB⟩ := hrel
    cases gk with
    | zero => exact absurd HA.out (by simp [spec_LeastSpreading.l0])
    | succ k2 =>
     have H := HA.out
     clear HA
     simp only [spec_LeastSpreading.l0] at H
     by_cases c18 : 0 ≤ a0_0
     rotate_left
     ·rw [if_neg c18] at H
      exact absurd H (by simp)
     rw [if_pos c18] at H
     have c18b0 := eq_true c18
     have c18b1 : decide (0 ≤ a0_0) = true := decide_eq_true c18
     clear c18
     obtain ⟨ji19, hji19⟩ : ∃ j_ : Int, (shl .i64 1 a0_0) = j_ := ⟨_, rfl⟩
     replace H : (if x7_2 < (ji19) then ((spec_l2Bits.f k2 a0_0 x7_2).bind fun t741 => ((spec_l8Spread.f k2 a0_0 l0_1 t741 a1).bind fun t744 => (if (t744.length : Int) < a0_0 then (spec_LeastSpreading.l0 k2 a1 x6_2 (wrap64 (x7_2 + 1)) a0_0 l0_1) else (if (t741.length : Int) < (x6_2.length : Int) then (spec_LeastSpreading.l0 k2 a1 t741 (wrap64 (x7_2 + 1)) a0_0 l0_1) else (if (t741.length : Int) = (x6_2.length : Int) then ((spec_l4Less.f k2 t741 x6_2).bind fun t747 => (if t747 = true then (spec_LeastSpreading.l0 k2 a1 t741 (wrap64 (x7_2 + 1)) a0_0 l0_1) else (spec_LeastSpreading.l0 k2 a1 x6_2 (wrap64 (x7_2 + 1)) a0_0 l0_1))) else (spec_LeastSpreading.l0 k2 a1 x6_2 (wrap64 (x7_2 + 1)) a0_0 l0_1)))))) else (some (x6_2, true))) = some (r1, r2) := by first | (rw [hji19] at H;exact H) | (simp only [hji19] at H ⊢;exact H)
     have hji19_ : (IntKind.i64.wrap (1 * 2 ^ min a0_0.toNat 64)) = ji19 := hji19
     have hji19z : a0_0 ≤ 64 → (IntKind.i64.wrap (1 * 2 ^ a0_0.toNat)) = ji19 := shl_small hji19
     have hji19u : (IntKind.i64.wrap (2 ^ min a0_0.toNat 64)) = ji19 := by have h_ := hji19_;rw [Int.one_mul] at h_;exact h_
     have hji19v : a0_0 ≤ 64 → (IntKind.i64.wrap (2 ^ a0_0.toNat)) = ji19 := fun hle_ => by have h_ := hji19z hle_;rw [Int.one_mul] at h_;exact h_
     have hji19y : (wrap64 (1 * 2 ^ min a0_0.toNat 64)) = ji19 := (i64_w _).symm.trans hji19_
     have hji19x : a0_0 ≤ 64 → (wrap64 (1 * 2 ^ a0_0.toNat)) = ji19 := fun h_ => (i64_w _).symm.trans (hji19z h_)
     by_cases c20 : x7_2 < (ji19)
     rotate_left
     ·rw [if_neg c20] at H
      have c20b0 : decide (x7_2 < (ji19)) = false := decide_eq_false c20
      clear c20
      simp only [Option.some.injEq, Prod.mk.injEq] at H
      obtain ⟨rfl, rfl⟩ := H
      have hcz62_0 := bC0 BK732.out
      have hcz62_1 := bC1 BK732.out
      have hfz62_0 := blk_frozen BK732.out 0
      have hfz62_1 := blk_frozen BK732.out 1
      go_wp2
      go_ret2
      exact ⟨_, by first | rfl | (simp [errW_none, errW_some] <;> rfl) | (simp only [← hji19];first | rfl | (simp [errW_none, errW_some] <;> rfl)) | (simp [*, errW_none, errW_some] <;> rfl), by exact rP HO_6.out, by exact bB⟩
     rw [if_pos c20] at H
     have c20b0 : decide (x7_2 < (ji19)) = true := decide_eq_true c20
     clear c20
     replace H := Option.bind_eq_some_iff.mp H
     obtain ⟨t741, A210, H⟩ := H
     replace H : ((spec_l8Spread.f k2 a0_0 l0_1 t741 a1).bind fun t744 => (if (t744.length : Int) < a0_0 then (spec_LeastSpreading.l0 k2 a1 x6_2 (wrap64 (x7_2 + 1)) a0_0 l0_1) else (if (t741.length : Int) < (x6_2.length : Int) then (spec_LeastSpreading.l0 k2 a1 t741 (wrap64 (x7_2 + 1)) a0_0 l0_1) else (if (t741.length : Int) = (x6_2.length : Int) then ((spec_l4Less.f k2 t741 x6_2).bind fun t747 => (if t747 = true then (spec_LeastSpreading.l0 k2 a1 t741 (wrap64 (x7_2 + 1)) a0_0 l0_1) else (spec_LeastSpreading.l0 k2 a1 x6_2 (wrap64 (x7_2 + 1)) a0_0 l0_1))) else (spec_LeastSpreading.l0 k2 a1 x6_2 (wrap64 (x7_2 + 1)) a0_0 l0_1))))) = some (r1, r2) := H
     have A21 := Aside0.mk A210
     clear A210
     replace H := Option.bind_eq_some_iff.mp H
     obtain ⟨t744, A220, H⟩ := H
     replace H : (if (t744.length : Int) < a0_0 then (spec_LeastSpreading.l0 k2 a1 x6_2 (wrap64 (x7_2 + 1)) a0_0 l0_1) else (if (t741.length : Int) < (x6_2.length : Int) then (spec_LeastSpreading.l0 k2 a1 t741 (wrap64 (x7_2 + 1)) a0_0 l0_1) else (if (t741.length : Int) = (x6_2.length : Int) then ((spec_l4Less.f k2 t741 x6_2).bind fun t747 => (if t747 = true then (spec_LeastSpreading.l0 k2 a1 t741 (wrap64 (x7_2 + 1)) a0_0 l0_1) else (spec_LeastSpreading.l0 k2 a1 x6_2 (wrap64 (x7_2 + 1)) a0_0 l0_1))) else (spec_LeastSpreading.l0 k2 a1 x6_2 (wrap64 (x7_2 + 1)) a0_0 l0_1)))) = some (r1, r2) := H
     have A22 := Aside0.mk A220
     clear A220
     by_cases c23 : (t744.length : Int) < a0_0
     ·rw [if_pos c23] at H
      have c23b0 : decide ((t744.length : Int) < a0_0) = true := decide_eq_true c23
      clear c23
      have H' := Aside0.mk H
      clear H
      have hcz24_0 := bC0 BK732.out
      have hcz24_1 := bC1 BK732.out
      have hfz24_0 := blk_frozen BK732.out 0
      have hfz24_1 := blk_frozen BK732.out 1
      try go_wp2_with (first | ((with_reducible refine gate_callee (f := 108) rfl ?_);refine goesL_ (some 30) rfl rfl Try.func108 (by kernel_rfl) rfl #[.int .i64 a0_0, .int .i64 x7_2] rfl mM ?_;(with_reducible refine (spec_l2Bits.calls k2 a0_0 x7_2 t741 _ A21.out).mono ?_);rintro e w25 ⟨v742, rfl, ho0, hb⟩;refine ⟨_, rfl, ?_⟩;have n0_ := aM (Kd.R_elder' (by exact rP HO_6.out) (Kd.R_base ho0) hb);have n1_ := aM (Kd.R_lower (Kd.R_new' ho0 (Kd.R_lt (by exact rP HO_6.out))) (below_size (by exact bB)));have n2_ := aM (kB hb BK732.out);have n3_ := aM (below_step (by exact bB) hb);clear HO_6;clear BK732;clear HB;have HO_6 := n0_;have HO743 := n1_;have BK732 := n2_;have HB := n3_;clear n0_ n1_ n2_ n3_;(try clear hb);(try clear hb2);(try clear hk);(try clear hi);(try clear ho0)))
      have n0_ := aM (Kd.R_drew HO_6.out)
      have n1_ := aM (Kd.R_drew HO743.out)
      have n2_ := aM (blk_drew BK732.out)
      have n3_ := aM (below_drew1 HB.out)
      clear HO_6
      clear HO743
      clear BK732
      clear HB
      have HO_6 := n0_
      have HO743 := n1_
      have BK732 := n2_
      have HB := n3_
      clear n0_ n1_ n2_ n3_
      obtain ⟨Ao27, co27, eo27⟩ := Kd.R_slice HO743.out
      (first | subst eo27 | (injection eo27 with f1_ f2_ f3_;have f4_ := f1_.symm;have f5_ := f3_.symm;clear f1_ f2_ f3_;subst f4_;subst f5_))
      refine start_ (n := 8) (S := fun w' => w'.cell? ⟨gb732, 0, none⟩ = some (.int .i64 a0_0) ∧ w'.cell? ⟨gb732, 1, none⟩ = some (.slice A0_1 l0_1.length c0_1)) (ds := []) #[false,false,false,false,false,false,false,false] (by kernel_rfl) rfl rfl ⟨(blk_cell BK732.out 0).trans rfl, (blk_cell BK732.out 1).trans rfl⟩ (fun hHeld => ?_);refine with_tabW spec_LeastSpreading.tab8 spec_LeastSpreading.bits8 (fun HT_ HW_ => ?_)
      generalize w25.drew = w26 at HO_6 HO743 BK732 HB hHeld ⊢
      refine pure_ (i := 1) (N := some 32) (v := ?_) (a' := ?_) #[false,true,false,false,false,false,false,false] rfl rfl (any_of HT_.out (by kernel_rfl)) (fun _ _ _ h => h) (Or.inl ⟨by rfl, ?_⟩) ?_ ?_
      rotate_left
      ·intro w'
       go_simp
       with_reducible rfl
      rotate_left
      ·exact aP
      refine pure_ (i := 2) (N := some 33) (v := ?_) (a' := ?_) #[false,true,true,false,false,false,false,false] rfl rfl (any_of HT_.out (by kernel_rfl)) (fun _ _ _ h => h) (Or.inl ⟨by rfl, ?_⟩) ?_ ?_
      rotate_left
      ·intro w'
       go_simp
       with_reducible rfl
      rotate_left
      ·exact aP
      refine pure_ (i := 5) (N := some 36) (v := ?_) (a' := ?_) #[false,true,true,false,false,true,false,false] rfl rfl (any_of HT_.out (by kernel_rfl)) (fun _ _ _ h => h) (Or.inl ⟨by rfl, ?_⟩) ?_ ?_
      rotate_left
      ·intro w'
       go_simp
       with_reducible rfl
      rotate_left
      ·exact aP
      refine take_ (i := 0) (N := some 31) (v := ?_) (a' := ?_) #[true,true,true,false,false,true,false,false] rfl rfl (take_ofW HT_.out HW_.out (by kernel_rfl)) (fun _ _ _ h => h) (Or.inl ⟨by rfl, ?_⟩) hHeld ?_ ?_
      rotate_left
      ·rintro w' ⟨s0, s1⟩
       go_simp
       with_reducible rfl
      rotate_left
      ·exact aP
      refine take_ (i := 6) (N := some 37) (v := ?_) (a' := ?_) #[true,true,true,false,false,true,true,false] rfl rfl (take_ofW HT_.out HW_.out (by kernel_rfl)) (fun _ _ _ h => h) (Or.inl ⟨by rfl, ?_⟩) hHeld ?_ ?_
      rotate_left
      ·rintro w' ⟨s0, s1⟩
       go_simp
       with_reducible rfl
      rotate_left
      ·exact aP
      refine one_ (i := 3) (N := some 34) #[true,true,true,true,false,true,true,false] rfl rfl (one_of HT_.out (by kernel_rfl)) (by decide) (fun K hK => ?_)
      refine goes_ Try.func100 (by kernel_rfl) rfl #[.agg #[.int .i64 a0_0, .slice A0_1 l0_1.length c0_1], .slice Ao27 t741.length co27, .int .i64 a1] (by rfl) rfl rfl mM ?_
      with_reducible refine (spec_l8Spread.calls k2 a0_0 _ _ l0_1 _ _ t741 a1 t744 _ ?side1 ?side2 ?side3 ?side4 A22.out).mono ?_
      (case side1 => exact cP (Kd.C_below HR0_1.out HB.out))
      (case side2 => exact HC0_1.out)
      (case side3 => exact cP (Kd.R_reads' HO743.out).2.2)
      (case side4 => exact (Kd.R_reads' HO743.out).2.1)
      rintro e w28 ⟨v745, rfl, ho0, hb⟩
      refine ⟨_, rfl, ?_⟩
      have n0_ := aM (Kd.R_elder' (by exact rP HO_6.out) (Kd.R_base ho0) hb)
      have n1_ := aM (Kd.R_elder' (by exact rP HO743.out) (Kd.R_base ho0) hb)
      have n2_ := aM (Kd.R_lower (Kd.R_new' (Kd.R_new' ho0 (Kd.R_lt (by exact rP HO_6.out))) (Kd.R_lt (by exact rP HO743.out))) (below_size (by exact bB)))
      have n3_ := aM (kB hb BK732.out)
      have n4_ := aM (below_step (by exact bB) hb)
      clear HO_6
      clear HO743
      clear BK732
      clear HB
      have HO_6 := n0_
      have HO743 := n1_
      have HO746 := n2_
      have BK732 := n3_
      have HB := n4_
      clear n0_ n1_ n2_ n3_ n4_
      (try clear hb)
      (try clear hb2)
      (try clear hk)
      (try clear hi)
      (try clear ho0)
      obtain ⟨Ao29, co29, eo29⟩ := Kd.R_slice HO746.out
      (first | subst eo29 | (injection eo29 with f1_ f2_ f3_;have f4_ := f1_.symm;have f5_ := f3_.symm;clear f1_ f2_ f3_;subst f4_;subst f5_))
      refine hK.out _ _ ⟨(blk_cell BK732.out 0).trans rfl, (blk_cell BK732.out 1).trans rfl⟩ (fun hHeld => ?_)
      clear hK K
      refine norm_ (a' := ?_) ?_ ?_
      rotate_left
      ·show Act.put _ (some 34) _ = _
       simp only [Act.put, List.setIfInBounds_toArray, List.set_cons_zero, List.set_cons_succ, i64_w, i32_w]
       rfl
      refine pure_ (i := 4) (N := some 35) (v := ?_) (a' := ?_) #[true,true,true,true,true,true,true,false] rfl rfl (any_of HT_.out (by kernel_rfl)) (fun _ _ _ h => h) (Or.inl ⟨by rfl, ?_⟩) ?_ ?_
      rotate_left
      ·intro w'
       go_simp
       with_reducible rfl
      rotate_left
      ·exact aP
      refine pure_ (i := 7) (N := some 38) (v := ?_) (a' := ?_) #[true,true,true,true,true,true,true,true] rfl rfl (any_of HT_.out (by kernel_rfl)) (fun _ _ _ h => h) (Or.inl ⟨by rfl, ?_⟩) ?_ ?_
      rotate_left
      ·intro w'
       go_simp
       with_reducible rfl
      rotate_left
      ·exact aP
      refine done_ (done_of HT_.out (by kernel_rfl)) ?_
      try go_wp2
      go_roundg k2
      case measure => have := HJ2.out;have := HK2.out;omega
      case rel => exact ⟨(x6_2), (wrap64 (x7_2 + 1)), (by first | rfl | (simp;done) | (simp [*];done)), H', ⟨by have := HJ2.out;have := HK2.out;omega⟩, ⟨by refine rP ?_;exact Kd.R_mono HO_6.out (fun _ hk => trivial)⟩, ⟨by exact kP BK732.out⟩, ⟨by exact bB⟩⟩
     rw [if_neg c23] at H
     have c23b0 : decide ((t744.length : Int) < a0_0) = false := decide_eq_false c23
     clear c23
     by_cases c30 : (t741.length : Int) < (x6_2.length : Int)
     ·rw [if_pos c30] at H
      have c30b0 : decide ((t741.length : Int) < (x6_2.length : Int)) = true := decide_eq_true c30
      have c30b1 : decide (t741.length < x6_2.length) = true := decide_eq_true (Int.ofNat_lt.mp c30)
      clear c30
      have H' := Aside0.mk H
      clear H
      have hcz31_0 := bC0 BK732.out
      have hcz31_1 := bC1 BK732.out
      have hfz31_0 := blk_frozen BK732.out 0
      have hfz31_1 := blk_frozen BK732.out 1
      try go_wp2_with (first | ((with_reducible refine gate_callee (f := 108) rfl ?_);refine goesL_ (some 30) rfl rfl Try.func108 (by kernel_rfl) rfl #[.int .i64 a0_0, .int .i64 x7_2] rfl mM ?_;(with_reducible refine (spec_l2Bits.calls k2 a0_0 x7_2 t741 _ A21.out).mono ?_);rintro e w32 ⟨v742, rfl, ho0, hb⟩;refine ⟨_, rfl, ?_⟩;have n0_ := aM (Kd.R_elder' (by exact rP HO_6.out) (Kd.R_base ho0) hb);have n1_ := aM (Kd.R_lower (Kd.R_new' ho0 (Kd.R_lt (by exact rP HO_6.out))) (below_size (by exact bB)));have n2_ := aM (kB hb BK732.out);have n3_ := aM (below_step (by exact bB) hb);clear HO_6;clear BK732;clear HB;have HO_6 := n0_;have HO743 := n1_;have BK732 := n2_;have HB := n3_;clear n0_ n1_ n2_ n3_;(try clear hb);(try clear hb2);(try clear hk);(try clear hi);(try clear ho0)))
      have n0_ := aM (Kd.R_drew HO_6.out)
      have n1_ := aM (Kd.R_drew HO743.out)
      have n2_ := aM (blk_drew BK732.out)
      have n3_ := aM (below_drew1 HB.out)
      clear HO_6
      clear HO743
      clear BK732
      clear HB
      have HO_6 := n0_
      have HO743 := n1_
      have BK732 := n2_
      have HB := n3_
      clear n0_ n1_ n2_ n3_
      obtain ⟨Ao34, co34, eo34⟩ := Kd.R_slice HO743.out
      (first | subst eo34 | (injection eo34 with f1_ f2_ f3_;have f4_ := f1_.symm;have f5_ := f3_.symm;clear f1_ f2_ f3_;subst f4_;subst f5_))
      refine start_ (n := 8) (S := fun w' => w'.cell? ⟨gb732, 0, none⟩ = some (.int .i64 a0_0) ∧ w'.cell? ⟨gb732, 1, none⟩ = some (.slice A0_1 l0_1.length c0_1)) (ds := []) #[false,false,false,false,false,false,false,false] (by kernel_rfl) rfl rfl ⟨(blk_cell BK732.out 0).trans rfl, (blk_cell BK732.out 1).trans rfl⟩ (fun hHeld => ?_);refine with_tabW spec_LeastSpreading.tab8 spec_LeastSpreading.bits8 (fun HT_ HW_ => ?_)
      generalize w32.drew = w33 at HO_6 HO743 BK732 HB hHeld ⊢
      refine pure_ (i := 1) (N := some 32) (v := ?_) (a' := ?_) #[false,true,false,false,false,false,false,false] rfl rfl (any_of HT_.out (by kernel_rfl)) (fun _ _ _ h => h) (Or.inl ⟨by rfl, ?_⟩) ?_ ?_
      rotate_left
      ·intro w'
       go_simp
       with_reducible rfl
      rotate_left
      ·exact aP
      refine pure_ (i := 2) (N := some 33) (v := ?_) (a' := ?_) #[false,true,true,false,false,false,false,false] rfl rfl (any_of HT_.out (by kernel_rfl)) (fun _ _ _ h => h) (Or.inl ⟨by rfl, ?_⟩) ?_ ?_
      rotate_left
      ·intro w'
       go_simp
       with_reducible rfl
      rotate_left
      ·exact aP
      refine pure_ (i := 5) (N := some 36) (v := ?_) (a' := ?_) #[false,true,true,false,false,true,false,false] rfl rfl (any_of HT_.out (by kernel_rfl)) (fun _ _ _ h => h) (Or.inl ⟨by rfl, ?_⟩) ?_ ?_
      rotate_left
      ·intro w'
       go_simp
       with_reducible rfl
      rotate_left
      ·exact aP
      refine take_ (i := 0) (N := some 31) (v := ?_) (a' := ?_) #[true,true,true,false,false,true,false,false] rfl rfl (take_ofW HT_.out HW_.out (by kernel_rfl)) (fun _ _ _ h => h) (Or.inl ⟨by rfl, ?_⟩) hHeld ?_ ?_
      rotate_left
      ·rintro w' ⟨s0, s1⟩
       go_simp
       with_reducible rfl
      rotate_left
      ·exact aP
      refine take_ (i := 6) (N := some 37) (v := ?_) (a' := ?_) #[true,true,true,false,false,true,true,false] rfl rfl (take_ofW HT_.out HW_.out (by kernel_rfl)) (fun _ _ _ h => h) (Or.inl ⟨by rfl, ?_⟩) hHeld ?_ ?_
      rotate_left
      ·rintro w' ⟨s0, s1⟩
       go_simp
       with_reducible rfl
      rotate_left
      ·exact aP
      refine one_ (i := 3) (N := some 34) #[true,true,true,true,false,true,true,false] rfl rfl (one_of HT_.out (by kernel_rfl)) (by decide) (fun K hK => ?_)
      refine goes_ Try.func100 (by kernel_rfl) rfl #[.agg #[.int .i64 a0_0, .slice A0_1 l0_1.length c0_1], .slice Ao34 t741.length co34, .int .i64 a1] (by rfl) rfl rfl mM ?_
      with_reducible refine (spec_l8Spread.calls k2 a0_0 _ _ l0_1 _ _ t741 a1 t744 _ ?side1 ?side2 ?side3 ?side4 A22.out).mono ?_
      (case side1 => exact cP (Kd.C_below HR0_1.out HB.out))
      (case side2 => exact HC0_1.out)
      (case side3 => exact cP (Kd.R_reads' HO743.out).2.2)
      (case side4 => exact (Kd.R_reads' HO743.out).2.1)
      rintro e w35 ⟨v745, rfl, ho0, hb⟩
      refine ⟨_, rfl, ?_⟩
      have n0_ := aM (Kd.R_elder' (by exact rP HO_6.out) (Kd.R_base ho0) hb)
      have n1_ := aM (Kd.R_elder' (by exact rP HO743.out) (Kd.R_base ho0) hb)
      have n2_ := aM (Kd.R_lower (Kd.R_new' (Kd.R_new' ho0 (Kd.R_lt (by exact rP HO_6.out))) (Kd.R_lt (by exact rP HO743.out))) (below_size (by exact bB)))
      have n3_ := aM (kB hb BK732.out)
      have n4_ := aM (below_step (by exact bB) hb)
      clear HO_6
      clear HO743
      clear BK732
      clear HB
      have HO_6 := n0_
      have HO743 := n1_
      have HO746 := n2_
      have BK732 := n3_
      have HB := n4_
      clear n0_ n1_ n2_ n3_ n4_
      (try clear hb)
      (try clear hb2)
      (try clear hk)
      (try clear hi)
      (try clear ho0)
      obtain ⟨Ao36, co36, eo36⟩ := Kd.R_slice HO746.out
      (first | subst eo36 | (injection eo36 with f1_ f2_ f3_;have f4_ := f1_.symm;have f5_ := f3_.symm;clear f1_ f2_ f3_;subst f4_;subst f5_))
      refine hK.out _ _ ⟨(blk_cell BK732.out 0).trans rfl, (blk_cell BK732.out 1).trans rfl⟩ (fun hHeld => ?_)
      clear hK K
      refine norm_ (a' := ?_) ?_ ?_
      rotate_left
      ·show Act.put _ (some 34) _ = _
       simp only [Act.put, List.setIfInBounds_toArray, List.set_cons_zero, List.set_cons_succ, i64_w, i32_w]
       rfl
      refine pure_ (i := 4) (N := some 35) (v := ?_) (a' := ?_) #[true,true,true,true,true,true,true,false] rfl rfl (any_of HT_.out (by kernel_rfl)) (fun _ _ _ h => h) (Or.inl ⟨by rfl, ?_⟩) ?_ ?_
      rotate_left
      ·intro w'
       go_simp
       with_reducible rfl
      rotate_left
      ·exact aP
      refine pure_ (i := 7) (N := some 38) (v := ?_) (a' := ?_) #[true,true,true,true,true,true,true,true] rfl rfl (any_of HT_.out (by kernel_rfl)) (fun _ _ _ h => h) (Or.inl ⟨by rfl, ?_⟩) ?_ ?_
      rotate_left
      ·intro w'
       go_simp
       with_reducible rfl
      rotate_left
      ·exact aP
      refine done_ (done_of HT_.out (by kernel_rfl)) ?_
      obtain ⟨Ao37, co37, eo37⟩ := Kd.R_slice HO_6.out
      subst eo37
      try go_wp2
      go_roundg k2
      case measure => have := HJ2.out;have := HK2.out;omega
      case rel => exact ⟨(t741), (wrap64 (x7_2 + 1)), (by first | rfl | (simp;done) | (simp [*];done)), H', ⟨by have := HJ2.out;have := HK2.out;omega⟩, ⟨by refine rP ?_;exact Kd.R_mono HO743.out (fun _ hk => trivial)⟩, ⟨by exact kP BK732.out⟩, ⟨by exact bB⟩⟩
     rw [if_neg c30] at H
     have c30b0 : decide ((t741.length : Int) < (x6_2.length : Int)) = false := decide_eq_false c30
     have c30b1 : decide (t741.length < x6_2.length) = false := decide_eq_false (fun h => c30 (Int.ofNat_lt.mpr h))
     clear c30
     by_cases c38 : (t741.length : Int) = (x6_2.length : Int)
     rotate_left
     ·rw [if_neg c38] at H
      have c38b0 : ((t741.length : Int) == (x6_2.length : Int)) = false := beq_eq_false_iff_ne.mpr c38
      have c38b1 : ((t741.length : Int) != (x6_2.length : Int)) = true := bne_iff_ne.mpr c38
      have c38b2 : (t741.length == x6_2.length) = false := by first | simpa using c38 | (simp at c38 ⊢;omega)
      have H' := Aside0.mk H
      clear H
      have hcz55_0 := bC0 BK732.out
      have hcz55_1 := bC1 BK732.out
      have hfz55_0 := blk_frozen BK732.out 0
      have hfz55_1 := blk_frozen BK732.out 1
      try go_wp2_with (first | ((with_reducible refine gate_callee (f := 108) rfl ?_);refine goesL_ (some 30) rfl rfl Try.func108 (by kernel_rfl) rfl #[.int .i64 a0_0, .int .i64 x7_2] rfl mM ?_;(with_reducible refine (spec_l2Bits.calls k2 a0_0 x7_2 t741 _ A21.out).mono ?_);rintro e w56 ⟨v742, rfl, ho0, hb⟩;refine ⟨_, rfl, ?_⟩;have n0_ := aM (Kd.R_elder' (by exact rP HO_6.out) (Kd.R_base ho0) hb);have n1_ := aM (Kd.R_lower (Kd.R_new' ho0 (Kd.R_lt (by exact rP HO_6.out))) (below_size (by exact bB)));have n2_ := aM (kB hb BK732.out);have n3_ := aM (below_step (by exact bB) hb);clear HO_6;clear BK732;clear HB;have HO_6 := n0_;have HO743 := n1_;have BK732 := n2_;have HB := n3_;clear n0_ n1_ n2_ n3_;(try clear hb);(try clear hb2);(try clear hk);(try clear hi);(try clear ho0)))
      have n0_ := aM (Kd.R_drew HO_6.out)
      have n1_ := aM (Kd.R_drew HO743.out)
      have n2_ := aM (blk_drew BK732.out)
      have n3_ := aM (below_drew1 HB.out)
      clear HO_6
      clear HO743
      clear BK732
      clear HB
      have HO_6 := n0_
      have HO743 := n1_
      have BK732 := n2_
      have HB := n3_
      clear n0_ n1_ n2_ n3_
      obtain ⟨Ao58, co58, eo58⟩ := Kd.R_slice HO743.out
      (first | subst eo58 | (injection eo58 with f1_ f2_ f3_;have f4_ := f1_.symm;have f5_ := f3_.symm;clear f1_ f2_ f3_;subst f4_;subst f5_))
      refine start_ (n := 8) (S := fun w' => w'.cell? ⟨gb732, 0, none⟩ = some (.int .i64 a0_0) ∧ w'.cell? ⟨gb732, 1, none⟩ = some (.slice A0_1 l0_1.length c0_1)) (ds := []) #[false,false,false,false,false,false,false,false] (by kernel_rfl) rfl rfl ⟨(blk_cell BK732.out 0).trans rfl, (blk_cell BK732.out 1).trans rfl⟩ (fun hHeld => ?_);refine with_tabW spec_LeastSpreading.tab8 spec_LeastSpreading.bits8 (fun HT_ HW_ => ?_)
      generalize w56.drew = w57 at HO_6 HO743 BK732 HB hHeld ⊢
      refine pure_ (i := 1) (N := some 32) (v := ?_) (a' := ?_) #[false,true,false,false,false,false,false,false] rfl rfl (any_of HT_.out (by kernel_rfl)) (fun _ _ _ h => h) (Or.inl ⟨by rfl, ?_⟩) ?_ ?_
      rotate_left
      ·intro w'
       go_simp
       with_reducible rfl
      rotate_left
      ·exact aP
      refine pure_ (i := 2) (N := some 33) (v := ?_) (a' := ?_) #[false,true,true,false,false,false,false,false] rfl rfl (any_of HT_.out (by kernel_rfl)) (fun _ _ _ h => h) (Or.inl ⟨by rfl, ?_⟩) ?_ ?_
      rotate_left
      ·intro w'
       go_simp
       with_reducible rfl
      rotate_left
      ·exact aP
      refine pure_ (i := 5) (N := some 36) (v := ?_) (a' := ?_) #[false,true,true,false,false,true,false,false] rfl rfl (any_of HT_.out (by kernel_rfl)) (fun _ _ _ h => h) (Or.inl ⟨by rfl, ?_⟩) ?_ ?_
      rotate_left
      ·intro w'
       go_simp
       with_reducible rfl
      rotate_left
      ·exact aP
      refine take_ (i := 0) (N := some 31) (v := ?_) (a' := ?_) #[true,true,true,false,false,true,false,false] rfl rfl (take_ofW HT_.out HW_.out (by kernel_rfl)) (fun _ _ _ h => h) (Or.inl ⟨by rfl, ?_⟩) hHeld ?_ ?_
      rotate_left
      ·rintro w' ⟨s0, s1⟩
       go_simp
       with_reducible rfl
      rotate_left
      ·exact aP
      refine take_ (i := 6) (N := some 37) (v := ?_) (a' := ?_) #[true,true,true,false,false,true,true,false] rfl rfl (take_ofW HT_.out HW_.out (by kernel_rfl)) (fun _ _ _ h => h) (Or.inl ⟨by rfl, ?_⟩) hHeld ?_ ?_
      rotate_left
      ·rintro w' ⟨s0, s1⟩
       go_simp
       with_reducible rfl
      rotate_left
      ·exact aP
      refine one_ (i := 3) (N := some 34) #[true,true,true,true,false,true,true,false] rfl rfl (one_of HT_.out (by kernel_rfl)) (by decide) (fun K hK => ?_)
      refine goes_ Try.func100 (by kernel_rfl) rfl #[.agg #[.int .i64 a0_0, .slice A0_1 l0_1.length c0_1], .slice Ao58 t741.length co58, .int .i64 a1] (by rfl) rfl rfl mM ?_
      with_reducible refine (spec_l8Spread.calls k2 a0_0 _ _ l0_1 _ _ t741 a1 t744 _ ?side1 ?side2 ?side3 ?side4 A22.out).mono ?_
      (case side1 => exact cP (Kd.C_below HR0_1.out HB.out))
      (case side2 => exact HC0_1.out)
      (case side3 => exact cP (Kd.R_reads' HO743.out).2.2)
      (case side4 => exact (Kd.R_reads' HO743.out).2.1)
      rintro e w59 ⟨v745, rfl, ho0, hb⟩
      refine ⟨_, rfl, ?_⟩
      have n0_ := aM (Kd.R_elder' (by exact rP HO_6.out) (Kd.R_base ho0) hb)
      have n1_ := aM (Kd.R_elder' (by exact rP HO743.out) (Kd.R_base ho0) hb)
      have n2_ := aM (Kd.R_lower (Kd.R_new' (Kd.R_new' ho0 (Kd.R_lt (by exact rP HO_6.out))) (Kd.R_lt (by exact rP HO743.out))) (below_size (by exact bB)))
      have n3_ := aM (kB hb BK732.out)
      have n4_ := aM (below_step (by exact bB) hb)
      clear HO_6
      clear HO743
      clear BK732
      clear HB
      have HO_6 := n0_
      have HO743 := n1_
      have HO746 := n2_
      have BK732 := n3_
      have HB := n4_
      clear n0_ n1_ n2_ n3_ n4_
      (try clear hb)
      (try clear hb2)
      (try clear hk)
      (try clear hi)
      (try clear ho0)
      obtain ⟨Ao60, co60, eo60⟩ := Kd.R_slice HO746.out
      (first | subst eo60 | (injection eo60 with f1_ f2_ f3_;have f4_ := f1_.symm;have f5_ := f3_.symm;clear f1_ f2_ f3_;subst f4_;subst f5_))
      refine hK.out _ _ ⟨(blk_cell BK732.out 0).trans rfl, (blk_cell BK732.out 1).trans rfl⟩ (fun hHeld => ?_)
      clear hK K
      refine norm_ (a' := ?_) ?_ ?_
      rotate_left
      ·show Act.put _ (some 34) _ = _
       simp only [Act.put, List.setIfInBounds_toArray, List.set_cons_zero, List.set_cons_succ, i64_w, i32_w]
       rfl
      refine pure_ (i := 4) (N := some 35) (v := ?_) (a' := ?_) #[true,true,true,true,true,true,true,false] rfl rfl (any_of HT_.out (by kernel_rfl)) (fun _ _ _ h => h) (Or.inl ⟨by rfl, ?_⟩) ?_ ?_
      rotate_left
      ·intro w'
       go_simp
       with_reducible rfl
      rotate_left
      ·exact aP
      refine pure_ (i := 7) (N := some 38) (v := ?_) (a' := ?_) #[true,true,true,true,true,true,true,true] rfl rfl (any_of HT_.out (by kernel_rfl)) (fun _ _ _ h => h) (Or.inl ⟨by rfl, ?_⟩) ?_ ?_
      rotate_left
      ·intro w'
       go_simp
       with_reducible rfl
      rotate_left
      ·exact aP
      refine done_ (done_of HT_.out (by kernel_rfl)) ?_
      obtain ⟨Ao61, co61, eo61⟩ := Kd.R_slice HO_6.out
      subst eo61
      try go_wp2
      go_roundg k2
      case measure => have := HJ2.out;have := HK2.out;omega
      case rel => exact ⟨(x6_2), (wrap64 (x7_2 + 1)), (by first | rfl | (simp;done) | (simp [*];done)), H', ⟨by have := HJ2.out;have := HK2.out;omega⟩, ⟨by refine rP ?_;exact Kd.R_mono HO_6.out (fun _ hk => trivial)⟩, ⟨by exact kP BK732.out⟩, ⟨by exact bB⟩⟩
     rw [if_pos c38] at H
     have c38b0 : ((t741.length : Int) == (x6_2.length : Int)) = true := beq_iff_eq.mpr c38
     have c38b1 : ((t741.length : Int) != (x6_2.length : Int)) = false := bne_eq_false_iff_eq.mpr c38
     have c38b2 : (t741.length == x6_2.length) = true := by first | simpa using c38 | (simp at c38 ⊢;omega)
     clear c38
     replace H := Option.bind_eq_some_iff.mp H
     obtain ⟨t747, A390, H⟩ := H
     replace H : (if t747 = true then (spec_LeastSpreading.l0 k2 a1 t741 (wrap64 (x7_2 + 1)) a0_0 l0_1) else (spec_LeastSpreading.l0 k2 a1 x6_2 (wrap64 (x7_2 + 1)) a0_0 l0_1)) = some (r1, r2) := H
     have A39 := Aside0.mk A390
     clear A390
     by_cases c40 : t747 = true
     ·subst c40
      have H1 : (spec_LeastSpreading.l0 k2 a1 t741 (wrap64 (x7_2 + 1)) a0_0 l0_1) = some (r1, r2) := by rw [if_pos rfl] at H;exact H
      clear H
      have H := H1
      clear H1
      have H' := Aside0.mk H
      clear H
      have hcz41_0 := bC0 BK732.out
      have hcz41_1 := bC1 BK732.out
      have hfz41_0 := blk_frozen BK732.out 0
      have hfz41_1 := blk_frozen BK732.out 1
      try go_wp2_with (first | ((with_reducible refine gate_callee (f := 108) rfl ?_);refine goesL_ (some 30) rfl rfl Try.func108 (by kernel_rfl) rfl #[.int .i64 a0_0, .int .i64 x7_2] rfl mM ?_;(with_reducible refine (spec_l2Bits.calls k2 a0_0 x7_2 t741 _ A21.out).mono ?_);rintro e w42 ⟨v742, rfl, ho0, hb⟩;refine ⟨_, rfl, ?_⟩;have n0_ := aM (Kd.R_elder' (by exact rP HO_6.out) (Kd.R_base ho0) hb);have n1_ := aM (Kd.R_lower (Kd.R_new' ho0 (Kd.R_lt (by exact rP HO_6.out))) (below_size (by exact bB)));have n2_ := aM (kB hb BK732.out);have n3_ := aM (below_step (by exact bB) hb);clear HO_6;clear BK732;clear HB;have HO_6 := n0_;have HO743 := n1_;have BK732 := n2_;have HB := n3_;clear n0_ n1_ n2_ n3_;(try clear hb);(try clear hb2);(try clear hk);(try clear hi);(try clear ho0)))
      have n0_ := aM (Kd.R_drew HO_6.out)
      have n1_ := aM (Kd.R_drew HO743.out)
      have n2_ := aM (blk_drew BK732.out)
      have n3_ := aM (below_drew1 HB.out)
      clear HO_6
      clear HO743
      clear BK732
      clear HB
      have HO_6 := n0_
      have HO743 := n1_
      have BK732 := n2_
      have HB := n3_
      clear n0_ n1_ n2_ n3_
      obtain ⟨Ao44, co44, eo44⟩ := Kd.R_slice HO743.out
      (first | subst eo44 | (injection eo44 with f1_ f2_ f3_;have f4_ := f1_.symm;have f5_ := f3_.symm;clear f1_ f2_ f3_;subst f4_;subst f5_))
      refine start_ (n := 8) (S := fun w' => w'.cell? ⟨gb732, 0, none⟩ = some (.int .i64 a0_0) ∧ w'.cell? ⟨gb732, 1, none⟩ = some (.slice A0_1 l0_1.length c0_1)) (ds := []) #[false,false,false,false,false,false,false,false] (by kernel_rfl) rfl rfl ⟨(blk_cell BK732.out 0).trans rfl, (blk_cell BK732.out 1).trans rfl⟩ (fun hHeld => ?_);refine with_tabW spec_LeastSpreading.tab8 spec_LeastSpreading.bits8 (fun HT_ HW_ => ?_)
      generalize w42.drew = w43 at HO_6 HO743 BK732 HB hHeld ⊢
      refine pure_ (i := 1) (N := some 32) (v := ?_) (a' := ?_) #[false,true,false,false,false,false,false,false] rfl rfl (any_of HT_.out (by kernel_rfl)) (fun _ _ _ h => h) (Or.inl ⟨by rfl, ?_⟩) ?_ ?_
      rotate_left
      ·intro w'
       go_simp
       with_reducible rfl
      rotate_left
      ·exact aP
      refine pure_ (i := 2) (N := some 33) (v := ?_) (a' := ?_) #[false,true,true,false,false,false,false,false] rfl rfl (any_of HT_.out (by kernel_rfl)) (fun _ _ _ h => h) (Or.inl ⟨by rfl, ?_⟩) ?_ ?_
      rotate_left
      ·intro w'
       go_simp
       with_reducible rfl
      rotate_left
      ·exact aP
      refine pure_ (i := 5) (N := some 36) (v := ?_) (a' := ?_) #[false,true,true,false,false,true,false,false] rfl rfl (any_of HT_.out (by kernel_rfl)) (fun _ _ _ h => h) (Or.inl ⟨by rfl, ?_⟩) ?_ ?_
      rotate_left
      ·intro w'
       go_simp
       with_reducible rfl
      rotate_left
      ·exact aP
      refine take_ (i := 0) (N := some 31) (v := ?_) (a' := ?_) #[true,true,true,false,false,true,false,false] rfl rfl (take_ofW HT_.out HW_.out (by kernel_rfl)) (fun _ _ _ h => h) (Or.inl ⟨by rfl, ?_⟩) hHeld ?_ ?_
      rotate_left
      ·rintro w' ⟨s0, s1⟩
       go_simp
       with_reducible rfl
      rotate_left
      ·exact aP
      refine take_ (i := 6) (N := some 37) (v := ?_) (a' := ?_) #[true,true,true,false,false,true,true,false] rfl rfl (take_ofW HT_.out HW_.out (by kernel_rfl)) (fun _ _ _ h => h) (Or.inl ⟨by rfl, ?_⟩) hHeld ?_ ?_
      rotate_left
      ·rintro w' ⟨s0, s1⟩
       go_simp
       with_reducible rfl
      rotate_left
      ·exact aP
      refine one_ (i := 3) (N := some 34) #[true,true,true,true,false,true,true,false] rfl rfl (one_of HT_.out (by kernel_rfl)) (by decide) (fun K hK => ?_)
      refine goes_ Try.func100 (by kernel_rfl) rfl #[.agg #[.int .i64 a0_0, .slice A0_1 l0_1.length c0_1], .slice Ao44 t741.length co44, .int .i64 a1] (by rfl) rfl rfl mM ?_
      with_reducible refine (spec_l8Spread.calls k2 a0_0 _ _ l0_1 _ _ t741 a1 t744 _ ?side1 ?side2 ?side3 ?side4 A22.out).mono ?_
      (case side1 => exact cP (Kd.C_below HR0_1.out HB.out))
      (case side2 => exact HC0_1.out)
      (case side3 => exact cP (Kd.R_reads' HO743.out).2.2)
      (case side4 => exact (Kd.R_reads' HO743.out).2.1)
      rintro e w45 ⟨v745, rfl, ho0, hb⟩
      refine ⟨_, rfl, ?_⟩
      have n0_ := aM (Kd.R_elder' (by exact rP HO_6.out) (Kd.R_base ho0) hb)
      have n1_ := aM (Kd.R_elder' (by exact rP HO743.out) (Kd.R_base ho0) hb)
      have n2_ := aM (Kd.R_lower (Kd.R_new' (Kd.R_new' ho0 (Kd.R_lt (by exact rP HO_6.out))) (Kd.R_lt (by exact rP HO743.out))) (below_size (by exact bB)))
      have n3_ := aM (kB hb BK732.out)
      have n4_ := aM (below_step (by exact bB) hb)
      clear HO_6
      clear HO743
      clear BK732
      clear HB
      have HO_6 := n0_
      have HO743 := n1_
      have HO746 := n2_
      have BK732 := n3_
      have HB := n4_
      clear n0_ n1_ n2_ n3_ n4_
      (try clear hb)
      (try clear hb2)
      (try clear hk)
      (try clear hi)
      (try clear ho0)
      obtain ⟨Ao46, co46, eo46⟩ := Kd.R_slice HO746.out
      (first | subst eo46 | (injection eo46 with f1_ f2_ f3_;have f4_ := f1_.symm;have f5_ := f3_.symm;clear f1_ f2_ f3_;subst f4_;subst f5_))
      refine hK.out _ _ ⟨(blk_cell BK732.out 0).trans rfl, (blk_cell BK732.out 1).trans rfl⟩ (fun hHeld => ?_)
      clear hK K
      refine norm_ (a' := ?_) ?_ ?_
      rotate_left
      ·show Act.put _ (some 34) _ = _
       simp only [Act.put, List.setIfInBounds_toArray, List.set_cons_zero, List.set_cons_succ, i64_w, i32_w]
       rfl
      refine pure_ (i := 4) (N := some 35) (v := ?_) (a' := ?_) #[true,true,true,true,true,true,true,false] rfl rfl (any_of HT_.out (by kernel_rfl)) (fun _ _ _ h => h) (Or.inl ⟨by rfl, ?_⟩) ?_ ?_
      rotate_left
      ·intro w'
       go_simp
       with_reducible rfl
      rotate_left
      ·exact aP
      refine pure_ (i := 7) (N := some 38) (v := ?_) (a' := ?_) #[true,true,true,true,true,true,true,true] rfl rfl (any_of HT_.out (by kernel_rfl)) (fun _ _ _ h => h) (Or.inl ⟨by rfl, ?_⟩) ?_ ?_
      rotate_left
      ·intro w'
       go_simp
       with_reducible rfl
      rotate_left
      ·exact aP
      refine done_ (done_of HT_.out (by kernel_rfl)) ?_
      obtain ⟨Ao47, co47, eo47⟩ := Kd.R_slice HO_6.out
      subst eo47
      try go_wp2_with (first | (go_at_call 109;(with_reducible refine (spec_l4Less.calls k2 _ _ t741 _ _ x6_2 true _ ?side1 ?side2 ?side3 ?side4 A39.out).mono ?_);(case side1 => exact cP (Kd.R_reads' HO743.out).2.2);(case side2 => exact (Kd.R_reads' HO743.out).2.1);(case side3 => exact cP (Kd.R_reads' HO_6.out).2.2);(case side4 => exact (Kd.R_reads' HO_6.out).2.1);rintro e w' ⟨rfl, ⟨nd, rfl⟩⟩))
      go_roundg k2
      case measure => have := HJ2.out;have := HK2.out;omega
      case rel => exact ⟨(t741), (wrap64 (x7_2 + 1)), (by first | rfl | (simp;done) | (simp [*];done)), H', ⟨by have := HJ2.out;have := HK2.out;omega⟩, ⟨by refine rP ?_;exact Kd.R_mono HO743.out (fun _ hk => trivial)⟩, ⟨by exact kP BK732.out⟩, ⟨by exact bB⟩⟩
     replace c40 := Bool.eq_false_iff.mpr c40
     subst c40
     have H1 : (spec_LeastSpreading.l0 k2 a1 x6_2 (wrap64 (x7_2 + 1)) a0_0 l0_1) = some (r1, r2) := by rw [if_neg (show ¬ (false = true) by decide)] at H;exact H
     clear H
     have H := H1
     clear H1
     have H' := Aside0.mk H
     clear H
     have hcz48_0 := bC0 BK732.out
     have hcz48_1 := bC1 BK732.out
     have hfz48_0 := blk_frozen BK732.out 0
     have hfz48_1 := blk_frozen BK732.out 1
     try go_wp2_with (first | ((with_reducible refine gate_callee (f := 108) rfl ?_);refine goesL_ (some 30) rfl rfl Try.func108 (by kernel_rfl) rfl #[.int .i64 a0_0, .int .i64 x7_2] rfl mM ?_;(with_reducible refine (spec_l2Bits.calls k2 a0_0 x7_2 t741 _ A21.out).mono ?_);rintro e w49 ⟨v742, rfl, ho0, hb⟩;refine ⟨_, rfl, ?_⟩;have n0_ := aM (Kd.R_elder' (by exact rP HO_6.out) (Kd.R_base ho0) hb);have n1_ := aM (Kd.R_lower (Kd.R_new' ho0 (Kd.R_lt (by exact rP HO_6.out))) (below_size (by exact bB)));have n2_ := aM (kB hb BK732.out);have n3_ := aM (below_step (by exact bB) hb);clear HO_6;clear BK732;clear HB;have HO_6 := n0_;have HO743 := n1_;have BK732 := n2_;have HB := n3_;clear n0_ n1_ n2_ n3_;(try clear hb);(try clear hb2);(try clear hk);(try clear hi);(try clear ho0)))
     have n0_ := aM (Kd.R_drew HO_6.out)
     have n1_ := aM (Kd.R_drew HO743.out)
     have n2_ := aM (blk_drew BK732.out)
     have n3_ := aM (below_drew1 HB.out)
     clear HO_6
     clear HO743
     clear BK732
     clear HB
     have HO_6 := n0_
     have HO743 := n1_
     have BK732 := n2_
     have HB := n3_
     clear n0_ n1_ n2_ n3_
     obtain ⟨Ao51, co51, eo51⟩ := Kd.R_slice HO743.out
     (first | subst eo51 | (injection eo51 with f1_ f2_ f3_;have f4_ := f1_.symm;have f5_ := f3_.symm;clear f1_ f2_ f3_;subst f4_;subst f5_))
     refine start_ (n := 8) (S := fun w' => w'.cell? ⟨gb732, 0, none⟩ = some (.int .i64 a0_0) ∧ w'.cell? ⟨gb732, 1, none⟩ = some (.slice A0_1 l0_1.length c0_1)) (ds := []) #[false,false,false,false,false,false,false,false] (by kernel_rfl) rfl rfl ⟨(blk_cell BK732.out 0).trans rfl, (blk_cell BK732.out 1).trans rfl⟩ (fun hHeld => ?_);refine with_tabW spec_LeastSpreading.tab8 spec_LeastSpreading.bits8 (fun HT_ HW_ => ?_)
     generalize w49.drew = w50 at HO_6 HO743 BK732 HB hHeld ⊢
     refine pure_ (i := 1) (N := some 32) (v := ?_) (a' := ?_) #[false,true,false,false,false,false,false,false] rfl rfl (any_of HT_.out (by kernel_rfl)) (fun _ _ _ h => h) (Or.inl ⟨by rfl, ?_⟩) ?_ ?_
     rotate_left
     ·intro w'
      go_simp
      with_reducible rfl
     rotate_left
     ·exact aP
     refine pure_ (i := 2) (N := some 33) (v := ?_) (a' := ?_) #[false,true,true,false,false,false,false,false] rfl rfl (any_of HT_.out (by kernel_rfl)) (fun _ _ _ h => h) (Or.inl ⟨by rfl, ?_⟩) ?_ ?_
     rotate_left
     ·intro w'
      go_simp
      with_reducible rfl
     rotate_left
     ·exact aP
     refine pure_ (i := 5) (N := some 36) (v := ?_) (a' := ?_) #[false,true,true,false,false,true,false,false] rfl rfl (any_of HT_.out (by kernel_rfl)) (fun _ _ _ h => h) (Or.inl ⟨by rfl, ?_⟩) ?_ ?_
     rotate_left
     ·intro w'
      go_simp
      with_reducible rfl
     rotate_left
     ·exact aP
     refine take_ (i := 0) (N := some 31) (v := ?_) (a' := ?_) #[true,true,true,false,false,true,false,false] rfl rfl (take_ofW HT_.out HW_.out (by kernel_rfl)) (fun _ _ _ h => h) (Or.inl ⟨by rfl, ?_⟩) hHeld ?_ ?_
     rotate_left
     ·rintro w' ⟨s0, s1⟩
      go_simp
      with_reducible rfl
     rotate_left
     ·exact aP
     refine take_ (i := 6) (N := some 37) (v := ?_) (a' := ?_) #[true,true,true,false,false,true,true,false] rfl rfl (take_ofW HT_.out HW_.out (by kernel_rfl)) (fun _ _ _ h => h) (Or.inl ⟨by rfl, ?_⟩) hHeld ?_ ?_
     rotate_left
     ·rintro w' ⟨s0, s1⟩
      go_simp
      with_reducible rfl
     rotate_left
     ·exact aP
     refine one_ (i := 3) (N := some 34) #[true,true,true,true,false,true,true,false] rfl rfl (one_of HT_.out (by kernel_rfl)) (by decide) (fun K hK => ?_)
     refine goes_ Try.func100 (by kernel_rfl) rfl #[.agg #[.int .i64 a0_0, .slice A0_1 l0_1.length c0_1], .slice Ao51 t741.length co51, .int .i64 a1] (by rfl) rfl rfl mM ?_
     with_reducible refine (spec_l8Spread.calls k2 a0_0 _ _ l0_1 _ _ t741 a1 t744 _ ?side1 ?side2 ?side3 ?side4 A22.out).mono ?_
     (case side1 => exact cP (Kd.C_below HR0_1.out HB.out))
     (case side2 => exact HC0_1.out)
     (case side3 => exact cP (Kd.R_reads' HO743.out).2.2)
     (case side4 => exact (Kd.R_reads' HO743.out).2.1)
     rintro e w52 ⟨v745, rfl, ho0, hb⟩
     refine ⟨_, rfl, ?_⟩
     have n0_ := aM (Kd.R_elder' (by exact rP HO_6.out) (Kd.R_base ho0) hb)
     have n1_ := aM (Kd.R_elder' (by exact rP HO743.out) (Kd.R_base ho0) hb)
     have n2_ := aM (Kd.R_lower (Kd.R_new' (Kd.R_new' ho0 (Kd.R_lt (by exact rP HO_6.out))) (Kd.R_lt (by exact rP HO743.out))) (below_size (by exact bB)))
     have n3_ := aM (kB hb BK732.out)
     have n4_ := aM (below_step (by exact bB) hb)
     clear HO_6
     clear HO743
     clear BK732
     clear HB
     have HO_6 := n0_
     have HO743 := n1_
     have HO746 := n2_
     have BK732 := n3_
     have HB := n4_
     clear n0_ n1_ n2_ n3_ n4_
     (try clear hb)
     (try clear hb2)
     (try clear hk)
     (try clear hi)
     (try clear ho0)
     obtain ⟨Ao53, co53, eo53⟩ := Kd.R_slice HO746.out
     (first | subst eo53 | (injection eo53 with f1_ f2_ f3_;have f4_ := f1_.symm;have f5_ := f3_.symm;clear f1_ f2_ f3_;subst f4_;subst f5_))
     refine hK.out _ _ ⟨(blk_cell BK732.out 0).trans rfl, (blk_cell BK732.out 1).trans rfl⟩ (fun hHeld => ?_)
     clear hK K
     refine norm_ (a' := ?_) ?_ ?_
     rotate_left
     ·show Act.put _ (some 34) _ = _
      simp only [Act.put, List.setIfInBounds_toArray, List.set_cons_zero, List.set_cons_succ, i64_w, i32_w]
      rfl
     refine pure_ (i := 4) (N := some 35) (v := ?_) (a' := ?_) #[true,true,true,true,true,true,true,false] rfl rfl (any_of HT_.out (by kernel_rfl)) (fun _ _ _ h => h) (Or.inl ⟨by rfl, ?_⟩) ?_ ?_
     rotate_left
     ·intro w'
      go_simp
      with_reducible rfl
     rotate_left
     ·exact aP
     refine pure_ (i := 7) (N := some 38) (v := ?_) (a' := ?_) #[true,true,true,true,true,true,true,true] rfl rfl (any_of HT_.out (by kernel_rfl)) (fun _ _ _ h => h) (Or.inl ⟨by rfl, ?_⟩) ?_ ?_
     rotate_left
     ·intro w'
      go_simp
      with_reducible rfl
     rotate_left
     ·exact aP
     refine done_ (done_of HT_.out (by kernel_rfl)) ?_
     obtain ⟨Ao54, co54, eo54⟩ := Kd.R_slice HO_6.out
     subst eo54
     try go_wp2_with (first | (go_at_call 109;(with_reducible refine (spec_l4Less.calls k2 _ _ t741 _ _ x6_2 false _ ?side1 ?side2 ?side3 ?side4 A39.out).mono ?_);(case side1 => exact cP (Kd.R_reads' HO743.out).2.2);(case side2 => exact (Kd.R_reads' HO743.out).2.1);(case side3 => exact cP (Kd.R_reads' HO_6.out).2.2);(case side4 => exact (Kd.R_reads' HO_6.out).2.1);rintro e w' ⟨rfl, ⟨nd, rfl⟩⟩))
     go_roundg k2
     case measure => have := HJ2.out;have := HK2.out;omega
     case rel => exact ⟨(x6_2), (wrap64 (x7_2 + 1)), (by first | rfl | (simp;done) | (simp [*];done)), H', ⟨by have := HJ2.out;have := HK2.out;omega⟩, ⟨by refine rP ?_;exact Kd.R_mono HO_6.out (fun _ hk => trivial)⟩, ⟨by exact kP BK732.out⟩, ⟨by exact bB⟩⟩


/-! ### laws_rHas: function 56 -/
def laws_rHas.l0 : Nat → List Int → Int → Int → Option (Bool)
 | 0, _, _, _ => none
 | k + 1, x0, x1, x5 => if x5 < (x0.length : Int) then (if 0 ≤ x5 then (if (rd x0 x5) = x1 then (some true) else (laws_rHas.l0 k x0 x1 (wrap64 (x5 + 1)))) else (none)) else (some false)
def laws_rHas.f (k : Nat) (l0 : List Int) (a1 : Int) : Option (Bool) := laws_rHas.l0 k l0 a1 0
theorem laws_rHas.mono_l : ∀ k, (∀ y0 y1 y2, LeO (laws_rHas.l0 k y0 y1 y2) (laws_rHas.l0 (k + 1) y0 y1 y2))
 | 0 => fun _ _ _ r h => by simp [laws_rHas.l0] at h
 | k + 1 => by
  have ih0 := laws_rHas.mono_l k
  ·intro y0 y1 y2
   unfold laws_rHas.l0
   repeat' first
   | (with_reducible exact ih0 _ _ _)
   | (with_reducible exact LeO.refl _)
   | (with_reducible exact LeO.none _)
   | (with_reducible refine LeO.ite ?_ ?_)
   | (with_reducible refine LeO.bind ?_ (fun _ => ?_))
   | exact LeO.none _
   | refine LeO.ite ?_ ?_
   | refine LeO.bind ?_ (fun _ => ?_)
theorem laws_rHas.mono : ∀ a0 a1 k, LeO (laws_rHas.f k a0 a1) (laws_rHas.f (k + 1) a0 a1) := by
 intro a0 a1 k
 have ih0 := laws_rHas.mono_l k
 unfold laws_rHas.f
 repeat' first
   | (with_reducible exact ih0 _ _ _)
   | (with_reducible exact LeO.refl _)
   | (with_reducible exact LeO.none _)
   | (with_reducible refine LeO.ite ?_ ?_)
   | (with_reducible refine LeO.bind ?_ (fun _ => ?_))
   | exact LeO.none _
   | refine LeO.ite ?_ ?_
   | refine LeO.bind ?_ (fun _ => ?_)
set_option maxHeartbeats 8000000 in
set_option maxRecDepth 100000 in
theorem laws_rHas.calls (k : Nat) (A0 : Option Addr) (c0 : Nat) (l0 : List Int) (a1 : Int) (r : Bool) (w : World) (hr0 : Kd.C (Kd.int .i64) w A0 l0.length l0) (hc0 : l0.length ≤ c0) (h : laws_rHas.f k l0 a1 = some r) :
  Calls Try.prog 56 #[.slice A0 l0.length c0, .int .i64 a1] w fun e w' => e = .returned (.bool r) ∧ Drawn0 w w' := by
 have HR0 := Aside0.mk hr0
 have HC0 := Aside0.mk hc0
 clear hr0 hc0
 have H : (laws_rHas.l0 k l0 a1 0) = some r := h
 clear h
 have H' := Aside0.mk H
 clear H
 go_enter Try.func56, Try.ntmps56
 go_wp2
 go_loopg [5] k (fun kq v5 w' => ∃ (x5_1 : Int), v5 = .int .i64 x5_1 ∧ Aside0 (laws_rHas.l0 kq l0 a1 x5_1 = some r) ∧ Aside0 (kq ≤ k) ∧ Drawn0 w w')
 case atStart => exact ⟨(0), (by first | rfl | (simp;done) | (simp [*];done)), H', ⟨Nat.le_refl _⟩, by repeat (first | exact Drawn0.refl _ | apply Drawn0.step)⟩
 case round =>
  clear H'
  try clear p2
  obtain ⟨x5_1, rfl, HA, HK1, ⟨m1, rfl⟩⟩ := hrel
  cases gk with
  | zero => exact absurd HA.out (by simp [laws_rHas.l0])
  | succ k1 =>
   have H := HA.out
   clear HA
   simp only [laws_rHas.l0] at H
   by_cases c3 : x5_1 < (l0.length : Int)
   rotate_left
   ·rw [if_neg c3] at H
    have c3b0 : decide (x5_1 < (l0.length : Int)) = false := decide_eq_false c3
    clear c3
    obtain rfl := Option.some.inj H
    go_wp2
    go_ret
    exact ⟨by first | rfl | (simp;done) | (simp [*];done), by repeat (first | exact Drawn0.refl _ | apply Drawn0.step)⟩
   rw [if_pos c3] at H
   have c3b0 : decide (x5_1 < (l0.length : Int)) = true := decide_eq_true c3
   clear c3
   by_cases c4 : 0 ≤ x5_1
   rotate_left
   ·rw [if_neg c4] at H
    exact absurd H (by simp)
   rw [if_pos c4] at H
   have c4b0 : decide (0 ≤ x5_1) = true := decide_eq_true c4
   clear c4
   by_cases c5 : (rd l0 x5_1) = a1
   ·rw [if_pos c5] at H
    have c5b0 : ((rd l0 x5_1) == a1) = true := beq_iff_eq.mpr c5
    have c5b1 : ((rd l0 x5_1) != a1) = false := bne_eq_false_iff_eq.mpr c5
    clear c5
    obtain rfl := Option.some.inj H
    have p748 : 0 ≤ (x5_1 : Int) := oA
    have q748 : x5_1 < (l0.length : Int) := oA
    obtain ⟨ad748, e748, hx748_0⟩ := Kd.at_int HR0.out x5_1 p748 q748
    cases e748
    replace p748 := eq_true p748
    replace q748 := eq_true q748
    go_wp2
    go_ret
    exact ⟨by first | rfl | (simp;done) | (simp [*];done), by repeat (first | exact Drawn0.refl _ | apply Drawn0.step)⟩
   rw [if_neg c5] at H
   have c5b0 : ((rd l0 x5_1) == a1) = false := beq_eq_false_iff_ne.mpr c5
   have c5b1 : ((rd l0 x5_1) != a1) = true := bne_iff_ne.mpr c5
   have H' := Aside0.mk H
   clear H
   have p748 : 0 ≤ (x5_1 : Int) := oA
   have q748 : x5_1 < (l0.length : Int) := oA
   obtain ⟨ad748, e748, hx748_0⟩ := Kd.at_int HR0.out x5_1 p748 q748
   cases e748
   replace p748 := eq_true p748
   replace q748 := eq_true q748
   go_wp2
   go_roundg k1
   case measure => have := HK1.out;omega
   case rel => exact ⟨(wrap64 (x5_1 + 1)), (by first | rfl | (simp;done) | (simp [*];done)), H', ⟨by have := HK1.out;omega⟩, by repeat (first | exact Drawn0.refl _ | apply Drawn0.step)⟩


/-! ### laws_rPart: function 55 -/
def laws_rPart.l0 : Nat → List Int → List Int → Int → Option (Bool)
 | 0, _, _, _ => none
 | k + 1, x0, x1, x5 => if x5 < (x0.length : Int) then (if 0 ≤ x5 then ((laws_rHas.f k x1 (rd x0 x5)).bind fun t750 => (if t750 = true then (laws_rPart.l0 k x0 x1 (wrap64 (x5 + 1))) else (some false))) else (none)) else (some true)
def laws_rPart.f (k : Nat) (l0 : List Int) (l1 : List Int) : Option (Bool) := laws_rPart.l0 k l0 l1 0
theorem laws_rPart.mono_l : ∀ k, (∀ y0 y1 y2, LeO (laws_rPart.l0 k y0 y1 y2) (laws_rPart.l0 (k + 1) y0 y1 y2))
 | 0 => fun _ _ _ r h => by simp [laws_rPart.l0] at h
 | k + 1 => by
  have ih0 := laws_rPart.mono_l k
  ·intro y0 y1 y2
   unfold laws_rPart.l0
   repeat' first
   | (with_reducible exact ih0 _ _ _)
   | (with_reducible exact laws_rHas.mono _ _ _)
   | (with_reducible exact LeO.refl _)
   | (with_reducible exact LeO.none _)
   | (with_reducible refine LeO.ite ?_ ?_)
   | (with_reducible refine LeO.bind ?_ (fun _ => ?_))
   | exact LeO.none _
   | refine LeO.ite ?_ ?_
   | refine LeO.bind ?_ (fun _ => ?_)
theorem laws_rPart.mono : ∀ a0 a1 k, LeO (laws_rPart.f k a0 a1) (laws_rPart.f (k + 1) a0 a1) := by
 intro a0 a1 k
 have ih0 := laws_rPart.mono_l k
 unfold laws_rPart.f
 repeat' first
   | (with_reducible exact ih0 _ _ _)
   | (with_reducible exact laws_rHas.mono _ _ _)
   | (with_reducible exact LeO.refl _)
   | (with_reducible exact LeO.none _)
   | (with_reducible refine LeO.ite ?_ ?_)
   | (with_reducible refine LeO.bind ?_ (fun _ => ?_))
   | exact LeO.none _
   | refine LeO.ite ?_ ?_
   | refine LeO.bind ?_ (fun _ => ?_)
set_option maxHeartbeats 8000000 in
set_option maxRecDepth 100000 in
theorem laws_rPart.calls (k : Nat) (A0 : Option Addr) (c0 : Nat) (l0 : List Int) (A1 : Option Addr) (c1 : Nat) (l1 : List Int) (r : Bool) (w : World) (hr0 : Kd.C (Kd.int .i64) w A0 l0.length l0) (hc0 : l0.length ≤ c0) (hr1 : Kd.C (Kd.int .i64) w A1 l1.length l1) (hc1 : l1.length ≤ c1) (h : laws_rPart.f k l0 l1 = some r) :
  Calls Try.prog 55 #[.slice A0 l0.length c0, .slice A1 l1.length c1] w fun e w' => e = .returned (.bool r) ∧ Drawn0 w w' := by
 have HR0 := Aside0.mk hr0
 have HC0 := Aside0.mk hc0
 clear hr0 hc0
 have HR1 := Aside0.mk hr1
 have HC1 := Aside0.mk hc1
 clear hr1 hc1
 have H : (laws_rPart.l0 k l0 l1 0) = some r := h
 clear h
 have H' := Aside0.mk H
 clear H
 go_enter Try.func55, Try.ntmps55
 go_wp2
 go_loopg [5] k (fun kq v5 w' => ∃ (x5_1 : Int), v5 = .int .i64 x5_1 ∧ Aside0 (laws_rPart.l0 kq l0 l1 x5_1 = some r) ∧ Aside0 (kq ≤ k) ∧ Drawn0 w w')
 case atStart => exact ⟨(0), (by first | rfl | (simp;done) | (simp [*];done)), H', ⟨Nat.le_refl _⟩, by repeat (first | exact Drawn0.refl _ | apply Drawn0.step)⟩
 case round =>
  clear H'
  try clear c1
  try clear p2
  obtain ⟨x5_1, rfl, HA, HK1, ⟨m1, rfl⟩⟩ := hrel
  cases gk with
  | zero => exact absurd HA.out (by simp [laws_rPart.l0])
  | succ k1 =>
   have H := HA.out
   clear HA
   simp only [laws_rPart.l0] at H
   by_cases c3 : x5_1 < (l0.length : Int)
   rotate_left
   ·rw [if_neg c3] at H
    have c3b0 : decide (x5_1 < (l0.length : Int)) = false := decide_eq_false c3
    clear c3
    obtain rfl := Option.some.inj H
    go_wp2
    go_ret
    exact ⟨by first | rfl | (simp;done) | (simp [*];done), by repeat (first | exact Drawn0.refl _ | apply Drawn0.step)⟩
   rw [if_pos c3] at H
   have c3b0 : decide (x5_1 < (l0.length : Int)) = true := decide_eq_true c3
   clear c3
   by_cases c4 : 0 ≤ x5_1
   rotate_left
   ·rw [if_neg c4] at H
    exact absurd H (by simp)
   rw [if_pos c4] at H
   have c4b0 : decide (0 ≤ x5_1) = true := decide_eq_true c4
   clear c4
   replace H := Option.bind_eq_some_iff.mp H
   obtain ⟨t750, A50, H⟩ := H
   replace H : (if t750 = true then (laws_rPart.l0 k1 l0 l1 (wrap64 (x5_1 + 1))) else (some false)) = some r := H
   have A5 := Aside0.mk A50
   clear A50
   by_cases c6 : t750 = true
   rotate_left
   ·replace c6 := Bool.eq_false_iff.mpr c6
    subst c6
    have H1 : (some false) = some r := by rw [if_neg (show ¬ (false = true) by decide)] at H;exact H
    clear H
    have H := H1
    clear H1
    obtain rfl := Option.some.inj H
    have p749 : 0 ≤ (x5_1 : Int) := oA
    have q749 : x5_1 < (l0.length : Int) := oA
    obtain ⟨ad749, e749, hx749_0⟩ := Kd.at_int HR0.out x5_1 p749 q749
    cases e749
    replace p749 := eq_true p749
    replace q749 := eq_true q749
    go_wp2_with (first | ((with_reducible refine gate_callee (f := 56) rfl ?_);refine goesL_ (some 17) rfl rfl Try.func56 (by kernel_rfl) rfl #[.slice A1 l1.length c1, .int .i64 (rd l0 x5_1)] rfl mM ?_;(with_reducible refine (laws_rHas.calls k1 _ _ l1 (rd l0 x5_1) false _ ?side1 ?side2 A5.out).mono ?_);(case side1 => exact cP HR1.out);(case side2 => exact HC1.out);rintro e w' ⟨rfl, ⟨nd, rfl⟩⟩;refine ⟨_, rfl, ?_⟩))
    go_ret
    exact ⟨by first | rfl | (simp;done) | (simp [*];done), by repeat (first | exact Drawn0.refl _ | apply Drawn0.step)⟩
   subst c6
   have H1 : (laws_rPart.l0 k1 l0 l1 (wrap64 (x5_1 + 1))) = some r := by rw [if_pos rfl] at H;exact H
   clear H
   have H := H1
   clear H1
   have H' := Aside0.mk H
   clear H
   have p749 : 0 ≤ (x5_1 : Int) := oA
   have q749 : x5_1 < (l0.length : Int) := oA
   obtain ⟨ad749, e749, hx749_0⟩ := Kd.at_int HR0.out x5_1 p749 q749
   cases e749
   replace p749 := eq_true p749
   replace q749 := eq_true q749
   go_wp2_with (first | ((with_reducible refine gate_callee (f := 56) rfl ?_);refine goesL_ (some 17) rfl rfl Try.func56 (by kernel_rfl) rfl #[.slice A1 l1.length c1, .int .i64 (rd l0 x5_1)] rfl mM ?_;(with_reducible refine (laws_rHas.calls k1 _ _ l1 (rd l0 x5_1) true _ ?side1 ?side2 A5.out).mono ?_);(case side1 => exact cP HR1.out);(case side2 => exact HC1.out);rintro e w' ⟨rfl, ⟨nd, rfl⟩⟩;refine ⟨_, rfl, ?_⟩))
   go_roundg k1
   case measure => have := HK1.out;omega
   case rel => exact ⟨(wrap64 (x5_1 + 1)), (by first | rfl | (simp;done) | (simp [*];done)), H', ⟨by have := HK1.out;omega⟩, by repeat (first | exact Drawn0.refl _ | apply Drawn0.step)⟩


end Go.Proofs.Ytmokkhfmbenleaa.QSpreading
