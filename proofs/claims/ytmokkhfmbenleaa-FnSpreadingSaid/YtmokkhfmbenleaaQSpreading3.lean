import Derived.Test.YtmokkhfmbenleaaQSpreading0
namespace Go.Proofs.Ytmokkhfmbenleaa.QSpreading
open Go.RowKit Go.Proofs.YtmokkhfmbenleaaW.PrintWords Go.Proofs.YtmokkhfmbenleaaW.PrintLast Go.Proofs.YtmokkhfmbenleaaW.PrintMore
attribute [local go_sem] max2_int min2_int max_two min_two max_three min_three max_four min_four   -- for this text's walks alone
set_option linter.unusedVariables false
set_option linter.unusedSimpArgs false
/-! ### spec_l2Put: function 135 -/
def spec_l2Put.l0 : Nat → List (S119) → Int → Int → Int → Option ((List (S119)))
 | 0, _, _, _, _ => none
 | k + 1, x0, x5, x389000, x389001 => if x5 < (x0.length : Int) then (if 0 ≤ x5 then ((spec_l2Before.f ((rd_T119 x0 x5).f0) ((rd_T119 x0 x5).f1) x389000 x389001).bind fun t390 => (if t390 = true then (spec_l2Put.l0 k x0 (wrap64 (x5 + 1)) x389000 x389001) else ((some (([] : List (S119)) : List (S119))).bind fun y391 => (if x5 ≤ (x0.length : Int) then ((some (x0.take (x5 : Int).toNat : List (S119))).bind fun y394 => (if y391.length + y394.length < 8796093022208 then ((some (y391 ++ y394 : List (S119))).bind fun y398 => ((some (([(⟨x389000, x389001⟩ : S119)] : List (S119)) : List (S119))).bind fun y401 => (if y398.length + y401.length < 8796093022208 then ((some (y398 ++ y401 : List (S119))).bind fun y404 => ((some (x0.drop (x5 : Int).toNat : List (S119))).bind fun y407 => (if y404.length + y407.length < 8796093022208 then (some (y404 ++ y407)) else (none)))) else (none)))) else (none))) else (none))))) else (none)) else ((some (([] : List (S119)) : List (S119))).bind fun y414 => (if 0 ≤ x5 then (if x5 ≤ (x0.length : Int) then ((some (x0.take (x5 : Int).toNat : List (S119))).bind fun y417 => (if y414.length + y417.length < 8796093022208 then ((some (y414 ++ y417 : List (S119))).bind fun y421 => ((some (([(⟨x389000, x389001⟩ : S119)] : List (S119)) : List (S119))).bind fun y424 => (if y421.length + y424.length < 8796093022208 then ((some (y421 ++ y424 : List (S119))).bind fun y427 => ((some (x0.drop (x5 : Int).toNat : List (S119))).bind fun y430 => (if y427.length + y430.length < 8796093022208 then (some (y427 ++ y430)) else (none)))) else (none)))) else (none))) else (none)) else (none)))
def spec_l2Put.f (k : Nat) (l0 : List (S119)) (a1_0 : Int) (a1_1 : Int) : Option ((List (S119))) := spec_l2Put.l0 k l0 0 a1_0 a1_1
theorem spec_l2Put.mono_l : ∀ k, (∀ y0 y1 y2 y3, LeO (spec_l2Put.l0 k y0 y1 y2 y3) (spec_l2Put.l0 (k + 1) y0 y1 y2 y3))
 | 0 => fun _ _ _ _ r h => by simp [spec_l2Put.l0] at h
 | k + 1 => by
  have ih0 := spec_l2Put.mono_l k
  ·intro y0 y1 y2 y3
   unfold spec_l2Put.l0
   repeat' first
   | (with_reducible exact ih0 _ _ _ _)
   | (with_reducible exact LeO.refl _)
   | (with_reducible exact LeO.none _)
   | (with_reducible refine LeO.ite ?_ ?_)
   | (with_reducible refine LeO.bind ?_ (fun _ => ?_))
   | exact LeO.none _
   | refine LeO.ite ?_ ?_
   | refine LeO.bind ?_ (fun _ => ?_)
theorem spec_l2Put.mono : ∀ a0 a1 a2 k, LeO (spec_l2Put.f k a0 a1 a2) (spec_l2Put.f (k + 1) a0 a1 a2) := by
 intro a0 a1 a2 k
 have ih0 := spec_l2Put.mono_l k
 unfold spec_l2Put.f
 repeat' first
   | (with_reducible exact ih0 _ _ _ _)
   | (with_reducible exact LeO.refl _)
   | (with_reducible exact LeO.none _)
   | (with_reducible refine LeO.ite ?_ ?_)
   | (with_reducible refine LeO.bind ?_ (fun _ => ?_))
   | exact LeO.none _
   | refine LeO.ite ?_ ?_
   | refine LeO.bind ?_ (fun _ => ?_)
def spec_l2Put.T2 : Bool × List (List Nat × List Nat) := (true, [([], []), ([], []), ([1], [1]), ([0, 2], [0, 2]), ([3], [3]), ([4], [4]), ([4], [4]), ([5, 6, 4], [4, 5, 6]), ([7, 4], [4, 7]), ([4], [4]), ([8, 9, 4, 4], [4, 8, 9]), ([4, 10], [4, 10])])
def spec_l2Put.B2 : List Nat := [0, 0, 2, 7, 15, 31, 31, 127, 255, 31, 1023, 2047]
theorem spec_l2Put.tab2 : rtab .any (opsOf Try.f135 2) = spec_l2Put.T2 := by kernel_rfl
theorem spec_l2Put.bits2 : waitsOk spec_l2Put.T2.2 spec_l2Put.B2 = true := by kernel_rfl
def spec_l2Put.T4 : Bool × List (List Nat × List Nat) := (true, [([], []), ([], []), ([], []), ([1, 2], [1, 2]), ([0, 3], [0, 3]), ([], []), ([5], [5]), ([4, 6, 4], [4, 6]), ([], []), ([], []), ([8, 9], [8, 9]), ([7, 10, 7], [7, 10]), ([11, 11, 0, 1, 2, 3, 4, 5, 6, 7, 8, 9, 10, 11], [11])])
def spec_l2Put.B4 : List Nat := [0, 0, 0, 6, 15, 0, 32, 127, 0, 0, 768, 2047, 4095]
theorem spec_l2Put.tab4 : rtab .any (opsOf Try.f135 4) = spec_l2Put.T4 := by kernel_rfl
theorem spec_l2Put.bits4 : waitsOk spec_l2Put.T4.2 spec_l2Put.B4 = true := by kernel_rfl
set_option maxHeartbeats 8000000 in
set_option maxRecDepth 100000 in
theorem spec_l2Put.calls (k : Nat) (A0 : Option Addr) (c0 : Nat) (l0 : List (S119)) (a1_0 : Int) (a1_1 : Int) (r : List (S119)) (w : World) (hr0 : Kd.C k119 w A0 l0.length l0) (hc0 : l0.length ≤ c0) (h : spec_l2Put.f k l0 a1_0 a1_1 = some r) :
  Calls Try.prog 135 #[.slice A0 l0.length c0, .agg #[.int .i64 a1_0, .int .i64 a1_1]] w fun e w' => ∃ v0_ : Value, e = .returned (v0_) ∧ Kd.R k119 119 w' w.heap.size (fun _ => True) v0_ r ∧ Below w.heap.size w w' := by
 have hu119 := Try.underlying119
 have HR0 := Aside0.mk hr0
 have HC0 := Aside0.mk hc0
 clear hr0 hc0
 have HB := aM (Below.refl w.heap.size w)
 have H : (spec_l2Put.l0 k l0 0 a1_0 a1_1) = some r := h
 clear h
 have H' := Aside0.mk H
 clear H
 go_enter Try.func135, Try.ntmps135
 go_wp2_with (first | ((with_reducible refine gate_dst (N := 3) rfl ?_);refine box_event ?hg (N := 3) ?hd (cs := #[.int .i64 a1_0, .int .i64 a1_1]) (t := 119) ?hr ?_;(case hd => rfl);(case hg => rfl);(case hr => first | (go_simp;done) | (go_simp;rfl));intro gb388 hg w3 hbox hb;have n0_ := aM (below_step (by exact bB) hb);have n1_ := aM (hbox);have n2_ := aM (sW hg : w.heap.size ≤ gb388);have n3_ := aM (sW hg : w.heap.size ≤ gb388);clear HB;have HB := n0_;have BK388 := n1_;have GW388 := n2_;have GE388 := n3_;clear n0_ n1_ n2_ n3_;clear hb hbox hg))
 go_loopg [5] k (fun kq v5 w' => ∃ (x5_1 : Int), v5 = .int .i64 x5_1 ∧ Aside0 (spec_l2Put.l0 kq l0 x5_1 a1_0 a1_1 = some r) ∧ Aside0 (kq ≤ k) ∧ Aside0 (w'.heap[gb388]? = some (.cells #[.int .i64 a1_0, .int .i64 a1_1] 119 (0, 0))) ∧ Aside0 (Below w.heap.size w w'))
 case atStart => exact ⟨(0), (by first | rfl | (simp;done) | (simp [*];done)), H', ⟨Nat.le_refl _⟩, ⟨by exact kP BK388.out⟩, ⟨by exact bB⟩⟩
 case round =>
  clear H'
  try clear c1
  try clear p2
  obtain ⟨x5_1, rfl, HA, HK1, BK388, HB⟩ := hrel
  cases gk with
  | zero => exact absurd HA.out (by simp [spec_l2Put.l0])
  | succ k1 =>
   have H := HA.out
   clear HA
   simp only [spec_l2Put.l0] at H
   by_cases c4 : x5_1 < (l0.length : Int)
   rotate_left
   ·rw [if_neg c4] at H
    have c4b0 : decide (x5_1 < (l0.length : Int)) = false := decide_eq_false c4
    clear c4
    obtain ⟨y414, hy414⟩ : ∃ y_ : List (S119), y_ = (([] : List (S119))) := ⟨_, rfl⟩
    replace H : (if 0 ≤ x5_1 then (if x5_1 ≤ (l0.length : Int) then ((some (l0.take (x5_1 : Int).toNat : List (S119))).bind fun y417 => (if y414.length + y417.length < 8796093022208 then ((some (y414 ++ y417 : List (S119))).bind fun y421 => ((some (([(⟨a1_0, a1_1⟩ : S119)] : List (S119)) : List (S119))).bind fun y424 => (if y421.length + y424.length < 8796093022208 then ((some (y421 ++ y424 : List (S119))).bind fun y427 => ((some (l0.drop (x5_1 : Int).toNat : List (S119))).bind fun y430 => (if y427.length + y430.length < 8796093022208 then (some (y427 ++ y430)) else (none)))) else (none)))) else (none))) else (none)) else (none)) = some r := by first | (rw [hy414];with_reducible exact H) | (have H2_ := (Option.bind_some _ _).symm.trans H;rw [hy414];with_reducible exact H2_) | (have H2_ := (Option.bind_some _ _).symm.trans H;with_reducible exact H2_) | with_reducible exact H | (rw [hy414];exact H) | exact H
    have Ny414 := Aside0.mk hy414
    clear hy414
    by_cases c31 : 0 ≤ x5_1
    rotate_left
    ·rw [if_neg c31] at H
     exact absurd H (by simp)
    rw [if_pos c31] at H
    have c31b0 := eq_true c31
    have c31b1 : decide (0 ≤ x5_1) = true := decide_eq_true c31
    clear c31
    by_cases c32 : x5_1 ≤ (l0.length : Int)
    rotate_left
    ·rw [if_neg c32] at H
     exact absurd H (by simp)
    rw [if_pos c32] at H
    have c32b0 := eq_true c32
    have c32b1 : decide (x5_1 ≤ (l0.length : Int)) = true := decide_eq_true c32
    clear c32
    obtain ⟨y417, hy417⟩ : ∃ y_ : List (S119), y_ = (l0.take (x5_1 : Int).toNat) := ⟨_, rfl⟩
    replace H : (if y414.length + y417.length < 8796093022208 then ((some (y414 ++ y417 : List (S119))).bind fun y421 => ((some (([(⟨a1_0, a1_1⟩ : S119)] : List (S119)) : List (S119))).bind fun y424 => (if y421.length + y424.length < 8796093022208 then ((some (y421 ++ y424 : List (S119))).bind fun y427 => ((some (l0.drop (x5_1 : Int).toNat : List (S119))).bind fun y430 => (if y427.length + y430.length < 8796093022208 then (some (y427 ++ y430)) else (none)))) else (none)))) else (none)) = some r := by first | (rw [hy417];with_reducible exact H) | (have H2_ := (Option.bind_some _ _).symm.trans H;rw [hy417];with_reducible exact H2_) | (have H2_ := (Option.bind_some _ _).symm.trans H;with_reducible exact H2_) | with_reducible exact H | (rw [hy417];exact H) | exact H
    have Ny417 := Aside0.mk hy417
    clear hy417
    by_cases c33 : y414.length + y417.length < 8796093022208
    rotate_left
    ·rw [if_neg c33] at H
     exact absurd H (by simp)
    rw [if_pos c33] at H
    have LMc33 := Aside0.mk c33
    clear c33
    obtain ⟨y421, hy421⟩ : ∃ y_ : List (S119), y_ = (y414 ++ y417) := ⟨_, rfl⟩
    replace H : ((some (([(⟨a1_0, a1_1⟩ : S119)] : List (S119)) : List (S119))).bind fun y424 => (if y421.length + y424.length < 8796093022208 then ((some (y421 ++ y424 : List (S119))).bind fun y427 => ((some (l0.drop (x5_1 : Int).toNat : List (S119))).bind fun y430 => (if y427.length + y430.length < 8796093022208 then (some (y427 ++ y430)) else (none)))) else (none))) = some r := by first | (rw [hy421];with_reducible exact H) | (have H2_ := (Option.bind_some _ _).symm.trans H;rw [hy421];with_reducible exact H2_) | (have H2_ := (Option.bind_some _ _).symm.trans H;with_reducible exact H2_) | with_reducible exact H | (rw [hy421];exact H) | exact H
    have Ny421 := Aside0.mk hy421
    clear hy421
    obtain ⟨y424, hy424⟩ : ∃ y_ : List (S119), y_ = (([(⟨a1_0, a1_1⟩ : S119)] : List (S119))) := ⟨_, rfl⟩
    replace H : (if y421.length + y424.length < 8796093022208 then ((some (y421 ++ y424 : List (S119))).bind fun y427 => ((some (l0.drop (x5_1 : Int).toNat : List (S119))).bind fun y430 => (if y427.length + y430.length < 8796093022208 then (some (y427 ++ y430)) else (none)))) else (none)) = some r := by first | (rw [hy424];with_reducible exact H) | (have H2_ := (Option.bind_some _ _).symm.trans H;rw [hy424];with_reducible exact H2_) | (have H2_ := (Option.bind_some _ _).symm.trans H;with_reducible exact H2_) | with_reducible exact H | (rw [hy424];exact H) | exact H
    have Ny424 := Aside0.mk hy424
    clear hy424
    by_cases c34 : y421.length + y424.length < 8796093022208
    rotate_left
    ·rw [if_neg c34] at H
     exact absurd H (by simp)
    rw [if_pos c34] at H
    have LMc34 := Aside0.mk c34
    clear c34
    obtain ⟨y427, hy427⟩ : ∃ y_ : List (S119), y_ = (y421 ++ y424) := ⟨_, rfl⟩
    replace H : ((some (l0.drop (x5_1 : Int).toNat : List (S119))).bind fun y430 => (if y427.length + y430.length < 8796093022208 then (some (y427 ++ y430)) else (none))) = some r := by first | (rw [hy427];with_reducible exact H) | (have H2_ := (Option.bind_some _ _).symm.trans H;rw [hy427];with_reducible exact H2_) | (have H2_ := (Option.bind_some _ _).symm.trans H;with_reducible exact H2_) | with_reducible exact H | (rw [hy427];exact H) | exact H
    have Ny427 := Aside0.mk hy427
    clear hy427
    have c35b0 := eq_true (oA : 0 ≤ x5_1)
    have c36b0 := eq_true (oA : x5_1 ≤ (l0.length : Int))
    obtain ⟨y430, hy430⟩ : ∃ y_ : List (S119), y_ = (l0.drop (x5_1 : Int).toNat) := ⟨_, rfl⟩
    replace H : (if y427.length + y430.length < 8796093022208 then (some (y427 ++ y430)) else (none)) = some r := by first | (rw [hy430];with_reducible exact H) | (have H2_ := (Option.bind_some _ _).symm.trans H;rw [hy430];with_reducible exact H2_) | (have H2_ := (Option.bind_some _ _).symm.trans H;with_reducible exact H2_) | with_reducible exact H | (rw [hy430];exact H) | exact H
    have Ny430 := Aside0.mk hy430
    clear hy430
    by_cases c37 : y427.length + y430.length < 8796093022208
    rotate_left
    ·rw [if_neg c37] at H
     exact absurd H (by simp)
    rw [if_pos c37] at H
    have LMc37 := Aside0.mk c37
    clear c37
    obtain ⟨y434, hy434⟩ : ∃ y_ : List (S119), y_ = (y427 ++ y430) := ⟨_, rfl⟩
    replace H : (some y434) = some r := by first | (rw [hy434];with_reducible exact H) | (have H2_ := (Option.bind_some _ _).symm.trans H;rw [hy434];with_reducible exact H2_) | (have H2_ := (Option.bind_some _ _).symm.trans H;with_reducible exact H2_) | with_reducible exact H | (rw [hy434];exact H) | exact H
    have Ny434 := Aside0.mk hy434
    clear hy434
    obtain rfl := Option.some.inj H
    try go_wp2
    have n0_ := aM (blk_drew BK388.out)
    have n1_ := aM (below_drew1 HB.out)
    clear BK388
    clear HB
    have BK388 := n0_
    have HB := n1_
    clear n0_ n1_
    refine start_ (n := 12) (S := fun w' => True) (ds := []) #[false,false,false,false,false,false,false,false,false,false,false,false] (by kernel_rfl) rfl rfl trivial (fun hHeld => ?_);refine with_tabW spec_l2Put.tab2 spec_l2Put.bits2 (fun HT_ HW_ => ?_)
    generalize wr.drew = w38 at BK388 HB hHeld ⊢
    refine pure_ (i := 0) (N := some 6) (v := ?_) (a' := ?_) #[true,false,false,false,false,false,false,false,false,false,false,false] rfl rfl (any_of HT_.out (by kernel_rfl)) (fun _ _ _ h => h) (Or.inl ⟨by rfl, ?_⟩) ?_ ?_
    rotate_left
    ·intro w'
     go_simp
     with_reducible rfl
    rotate_left
    ·exact aP
    refine pure_ (i := 1) (N := some 7) (v := ?_) (a' := ?_) #[true,true,false,false,false,false,false,false,false,false,false,false] rfl rfl (any_of HT_.out (by kernel_rfl)) (fun _ _ _ h => h) (Or.inl ⟨by rfl, ?_⟩) ?_ ?_
    rotate_left
    ·intro w'
     go_simp
     with_reducible rfl
    rotate_left
    ·exact aP
    refine pure_ (i := 2) (N := some 8) (v := ?_) (a' := ?_) #[true,true,true,false,false,false,false,false,false,false,false,false] rfl rfl (any_of HT_.out (by kernel_rfl)) (fun _ _ _ h => h) (Or.inl ⟨by rfl, ?_⟩) ?_ ?_
    rotate_left
    ·intro w'
     go_simp
     with_reducible rfl
    rotate_left
    ·exact aP
    refine pure_ (i := 3) (N := some 9) (v := ?_) (a' := ?_) #[true,true,true,true,false,false,false,false,false,false,false,false] rfl rfl (any_of HT_.out (by kernel_rfl)) (fun _ _ _ h => h) (Or.inl ⟨by rfl, ?_⟩) ?_ ?_
    rotate_left
    ·intro w'
     go_simp
     with_reducible rfl
    rotate_left
    ·exact aP
    refine pure_ (i := 4) (N := some 10) (v := ?_) (a' := ?_) #[true,true,true,true,true,false,false,false,false,false,false,false] rfl rfl (any_of HT_.out (by kernel_rfl)) (fun _ _ _ h => h) (Or.inl ⟨by rfl, ?_⟩) ?_ ?_
    rotate_left
    ·intro w'
     go_simp
     with_reducible rfl
    rotate_left
    ·exact aP
    refine pure_ (i := 5) (N := some 11) (v := undef) (a' := ?_) #[true,true,true,true,true,true,false,false,false,false,false,false] rfl rfl (any_of HT_.out (by kernel_rfl)) (fun _ _ _ h => h) (Or.inr ⟨by rfl, rfl⟩) ?_ ?_
    rotate_left
    ·exact aP
    refine pure_ (i := 6) (N := some 12) (v := undef) (a' := ?_) #[true,true,true,true,true,true,true,false,false,false,false,false] rfl rfl (any_of HT_.out (by kernel_rfl)) (fun _ _ _ h => h) (Or.inr ⟨by rfl, rfl⟩) ?_ ?_
    rotate_left
    ·exact aP
    refine pure_ (i := 7) (N := some 13) (v := undef) (a' := ?_) #[true,true,true,true,true,true,true,true,false,false,false,false] rfl rfl (any_of HT_.out (by kernel_rfl)) (fun _ _ _ h => h) (Or.inr ⟨by rfl, rfl⟩) ?_ ?_
    rotate_left
    ·exact aP
    refine pure_ (i := 8) (N := some 14) (v := undef) (a' := ?_) #[true,true,true,true,true,true,true,true,true,false,false,false] rfl rfl (any_of HT_.out (by kernel_rfl)) (fun _ _ _ h => h) (Or.inr ⟨by rfl, rfl⟩) ?_ ?_
    rotate_left
    ·exact aP
    refine pure_ (i := 9) (N := some 15) (v := undef) (a' := ?_) #[true,true,true,true,true,true,true,true,true,true,false,false] rfl rfl (any_of HT_.out (by kernel_rfl)) (fun _ _ _ h => h) (Or.inr ⟨by rfl, rfl⟩) ?_ ?_
    rotate_left
    ·exact aP
    refine pure_ (i := 10) (N := some 16) (v := undef) (a' := ?_) #[true,true,true,true,true,true,true,true,true,true,true,false] rfl rfl (any_of HT_.out (by kernel_rfl)) (fun _ _ _ h => h) (Or.inr ⟨by rfl, rfl⟩) ?_ ?_
    rotate_left
    ·exact aP
    refine pure_ (i := 11) (N := some 17) (v := ?_) (a' := ?_) #[true,true,true,true,true,true,true,true,true,true,true,true] rfl rfl (any_of HT_.out (by kernel_rfl)) (fun _ _ _ h => h) (Or.inl ⟨by rfl, ?_⟩) ?_ ?_
    rotate_left
    ·intro w'
     go_simp
     with_reducible rfl
    rotate_left
    ·exact aP
    refine done_ (done_of HT_.out (by kernel_rfl)) ?_
    try go_wp2
    have n0_ := aM (blk_drew BK388.out)
    have n1_ := aM (below_drew1 HB.out)
    clear BK388
    clear HB
    have BK388 := n0_
    have HB := n1_
    clear n0_ n1_
    have q40 : (x5_1 : Int) ≤ ((l0.length : Int) : Int) := oA
    obtain ⟨i040, hi040, _, hsz40, _⟩ := info_parts info119
    have hroom40 : l0.length ≤ c0 := HC0.out
    have hC40 : Kd.C k119 _ A0 l0.length l0 := HR0.out
    have hcut40 := cut_to (P := Try.prog) 22 119 .i64 Try.underlying22 hi040 A0 l0.length c0 x5_1 (oA) q40 hroom40
    have hr40 := Kd.C_take (m := (x5_1 : Int).toNat) hC40 (by omega)
    have hy40 : y417.length = (x5_1 : Int).toNat := (by rw [Ny417.out, List.length_take];omega)
    rw [← Ny417.out] at hr40
    rw [← hy40] at hcut40
    have HR420 := Aside0.mk hr40
    have HC420 := aM (show y417.length ≤ c0 from by omega)
    clear hr40 hC40 hroom40 hi040 hsz40
    have KY40 := Aside0.mk hy40
    clear hy40
    replace q40 := eq_true q40
    have q41 : (x5_1 : Int) ≤ ((l0.length : Int) : Int) := oA
    obtain ⟨i041, hi041, _, hsz41, _⟩ := info_parts info119
    have hroom41 : l0.length ≤ c0 := HC0.out
    have hC41 : Kd.C k119 _ A0 l0.length l0 := HR0.out
    have q041 : (0 : Int) ≤ (x5_1 : Int) := oA
    have hcut41 := cut_from (P := Try.prog) 22 119 .i64 Try.underlying22 hi041 2 hsz41 A0 l0.length c0 x5_1 q041 q41
    have hr41 := Kd.C_drop (m := (x5_1 : Int).toNat) (c := c0) hC41 (by omega) hroom41
    obtain ⟨A41, hA41⟩ : ∃ A1, A1 = (if c0 = (x5_1 : Int).toNat then A0 else (A0 : Option Addr).map (·.add ((x5_1 : Int).toNat * 2))) := ⟨_, rfl⟩
    obtain ⟨c41, hc41⟩ : ∃ c1, c1 = c0 - (x5_1 : Int).toNat := ⟨_, rfl⟩
    have hy41 : y430.length = l0.length - (x5_1 : Int).toNat := (by rw [Ny430.out, List.length_drop] <;> omega)
    rw [show (l0).drop (x5_1 : Int).toNat = y430 from Ny430.out.symm] at hr41
    replace hr41 : Kd.C k119 _ A41 y430.length y430 := (by rw [hA41];exact hr41)
    rw [← hy41, ← hA41, ← hc41] at hcut41
    have HR433 := Aside0.mk hr41
    have HC433 := aM (show y430.length ≤ c41 from by rw [hy41, hc41];exact Nat.sub_le_sub_right hroom41 _)
    clear hr41 hC41 hroom41 hi041 hsz41 hc41
    have KY41 := Aside0.mk hy41
    have KA41 := Aside0.mk hA41
    clear hy41 hA41
    replace q41 := eq_true q41
    refine start_ (n := 13) (S := fun w' => w'.cell? ⟨gb388, 0, none⟩ = some (.int .i64 a1_0) ∧ w'.cell? ⟨gb388, 1, none⟩ = some (.int .i64 a1_1)) (ds := []) #[false,false,false,false,false,false,false,false,false,false,false,false,false] (by kernel_rfl) rfl rfl ⟨(blk_cell BK388.out 0).trans rfl, (blk_cell BK388.out 1).trans rfl⟩ (fun hHeld => ?_);refine with_tabW spec_l2Put.tab4 spec_l2Put.bits4 (fun HT_ HW_ => ?_)
    generalize w38.drew = w39 at BK388 HB HR420 HR433 hHeld ⊢
    refine pure_ (i := 1) (N := some 21) (v := ?_) (a' := ?_) #[false,true,false,false,false,false,false,false,false,false,false,false,false] rfl rfl (any_of HT_.out (by kernel_rfl)) (fun _ _ _ h => h) (Or.inl ⟨by rfl, ?_⟩) ?_ ?_
    rotate_left
    ·intro w'
     go_simp
     with_reducible rfl
    rotate_left
    ·exact aP
    refine pure_ (i := 2) (N := some 22) (v := ?_) (a' := ?_) #[false,true,true,false,false,false,false,false,false,false,false,false,false] rfl rfl (any_of HT_.out (by kernel_rfl)) (fun _ _ _ h => h) (Or.inl ⟨by rfl, ?_⟩) ?_ ?_
    rotate_left
    ·intro w'
     go_simp
     with_reducible rfl
    rotate_left
    ·exact aP
    refine pure_ (i := 3) (N := some 23) (v := ?_) (a' := ?_) #[false,true,true,true,false,false,false,false,false,false,false,false,false] rfl rfl (any_of HT_.out (by kernel_rfl)) (fun _ _ _ h => h) (Or.inl ⟨by rfl, ?_⟩) ?_ ?_
    rotate_left
    ·intro w'
     go_simp
     with_reducible rfl
    rotate_left
    ·exact aP
    refine pure_ (i := 8) (N := some 28) (v := ?_) (a' := ?_) #[false,true,true,true,false,false,false,false,true,false,false,false,false] rfl rfl (any_of HT_.out (by kernel_rfl)) (fun _ _ _ h => h) (Or.inl ⟨by rfl, ?_⟩) ?_ ?_
    rotate_left
    ·intro w'
     go_simp
     with_reducible rfl
    rotate_left
    ·exact aP
    refine pure_ (i := 9) (N := some 29) (v := ?_) (a' := ?_) #[false,true,true,true,false,false,false,false,true,true,false,false,false] rfl rfl (any_of HT_.out (by kernel_rfl)) (fun _ _ _ h => h) (Or.inl ⟨by rfl, ?_⟩) ?_ ?_
    rotate_left
    ·intro w'
     go_simp
     with_reducible rfl
    rotate_left
    ·exact aP
    refine pure_ (i := 10) (N := some 30) (v := ?_) (a' := ?_) #[false,true,true,true,false,false,false,false,true,true,true,false,false] rfl rfl (any_of HT_.out (by kernel_rfl)) (fun _ _ _ h => h) (Or.inl ⟨by rfl, ?_⟩) ?_ ?_
    rotate_left
    ·intro w'
     go_simp
     with_reducible rfl
    rotate_left
    ·exact aP
    refine take_ (i := 5) (N := some 25) (v := ?_) (a' := ?_) #[false,true,true,true,false,true,false,false,true,true,true,false,false] rfl rfl (take_ofW HT_.out HW_.out (by kernel_rfl)) (fun _ _ _ h => h) (Or.inl ⟨by rfl, ?_⟩) hHeld ?_ ?_
    rotate_left
    ·rintro w' ⟨s0, s1⟩
     go_simp
     with_reducible rfl
    rotate_left
    ·exact aP
    refine join_ (σ := Value × Value × Value) 3 #[true,true,true,true,true,true,true,false,true,true,true,false,false] (fun s_ => [(20, s_.1), (24, s_.2.1), (26, s_.2.2)]) (fun s_ w' => (w'.cell? ⟨gb388, 0, none⟩ = some (.int .i64 a1_0) ∧ w'.cell? ⟨gb388, 1, none⟩ = some (.int .i64 a1_1)) ∧ (Kd.R k119 119 w' w.heap.size (fun k_ => some k_ ≠ (s_.2.2 : Value).ownBlock ∧ k_ ≠ gb388) s_.2.1 y421) ∧ (Kd.R k119 119 w' w.heap.size (fun k_ => some k_ ≠ (s_.2.1 : Value).ownBlock ∧ k_ ≠ gb388) s_.2.2 y424) ∧ (w'.heap[gb388]? = some (.cells #[.int .i64 a1_0, .int .i64 a1_1] 119 (0, 0))) ∧ (Below w.heap.size w w')) ?_ ?_
    rotate_left
    ·intro hCont
     refine two_ (i := 0) (j := 6) (Ni := some 20) (Nj := some 26) #[true,true,true,true,false,true,false,false,true,true,true,false,false] #[false,true,true,true,false,true,true,false,true,true,true,false,false] rfl rfl rfl rfl (two_of HT_.out (by kernel_rfl)) (by decide) (by decide) (fun K hK => ?_) (fun K hK => ?_)
     ·skip
      refine Kd.R_lit_step k119 _ 119 ?hg (N := 20) ?hd (xs := ([] : List (S119))) (inner := []) (ok := fun _ => True) (okp := fun _ => True) ?hr ?hp (fun _ hk => hk) trivial (Below.refl _ _) (Nat.le_refl _) (by simp) ?_;(case hd => rfl);(case hg => rfl);(case hr => first | (go_simp;done) | (go_simp;rfl));(case hp => exact (Reps.none _ _))
      intro v415 w42 ho43 hb hg_ hnew_
      clear hg_ hnew_
      (first | rw [← Ny414.out] at ho43 | (simp only [Int.reduceToNat] at ho43;rw [← Ny414.out] at ho43))
      have n0_ := aM (Kd.R_lower (Kd.R_newB ho43 (g := gb388) (o := .cells #[.int .i64 a1_0, .int .i64 a1_1] 119 (0, 0)) (by exact kP BK388.out)) (below_size (by exact bB)))
      have n1_ := aM (kB hb BK388.out)
      have n2_ := aM (below_step (by exact bB) hb)
      clear BK388
      clear HB
      have HO416 := n0_
      have BK388 := n1_
      have HB := n2_
      clear n0_ n1_ n2_
      clear hb ho43
      refine hK.out _ _ ⟨(blk_cell BK388.out 0).trans rfl, (blk_cell BK388.out 1).trans rfl⟩ (fun hHeld => ?_)
      clear hK K
      refine norm_ (a' := ?_) ?_ ?_
      rotate_left
      ·show Act.put _ (some 20) _ = _
       simp only [Act.put, List.setIfInBounds_toArray, List.set_cons_zero, List.set_cons_succ, i64_w, i32_w]
       rfl
      refine two_ (i := 4) (j := 6) (Ni := some 24) (Nj := some 26) #[true,true,true,true,true,true,false,false,true,true,true,false,false] #[true,true,true,true,false,true,true,false,true,true,true,false,false] rfl rfl rfl rfl (two_of HT_.out (by kernel_rfl)) (by decide) (by decide) (fun K hK => ?_) (fun K hK => ?_)
      ·skip
       refine Kd.R_append_rows_step k119 (w0 := w) w.heap.size (by rfl) (.tmp 20) (.tmp 23) 22 119 (.agg #[(.int .i64 0), (.int .i64 0)]) 16 rfl Try.underlying22 info119 rfl (by decide) (by omega) v415 y414 y417 _ _ _ (fun k_ => k_ ≠ gb388) (fun _ => False) rfl rfl ?aO ?aR (fun _ _ h => h) (fun _ h => h.elim) ?aF ?aB ?aS ?aL ?_
       (case aR => exact cP (Kd.C_below HR420.out HB.out))
       (case aB => exact (by exact bB))
       (case aF => exact (fun k_ hk => Kd.freshB (g := gb388) (o := .cells #[.int .i64 a1_0, .int .i64 a1_1] 119 (0, 0)) (by exact kP BK388.out) k_ hk))
       (case aO => exact (by refine rP ?_;exact Kd.R_mono HO416.out (fun _ hk => hk.2)))
       (case aS => exact (below_size (by exact bB)))
       (case aL => have := LMc33.out;omega)
       intro v422 w44 ho hb hg hat
       rw [← Ny421.out] at ho
       have n0_ := aM (blk_grown (g := gb388) (o := .cells #[.int .i64 a1_0, .int .i64 a1_1] 119 (0, 0)) (by exact kP BK388.out) hg (Kd.R_away HO416.out (fun _ hk => hk.2)))
       have n1_ := aM (hb)
       have n2_ := aM (ho)
       clear BK388
       clear HB
       clear HO416
       have BK388 := n0_
       have HB := n1_
       have HO423 := n2_
       clear n0_ n1_ n2_
       clear ho hb hg hat
       refine hK.out _ _ ⟨(blk_cell BK388.out 0).trans rfl, (blk_cell BK388.out 1).trans rfl⟩ (fun hHeld => ?_)
       clear hK K
       refine norm_ (a' := ?_) ?_ ?_
       rotate_left
       ·show Act.put _ (some 24) _ = _
        simp only [Act.put, List.setIfInBounds_toArray, List.set_cons_zero, List.set_cons_succ, i64_w, i32_w]
        rfl
       refine one_ (i := 6) (N := some 26) #[true,true,true,true,true,true,true,false,true,true,true,false,false] rfl rfl (one_of HT_.out (by kernel_rfl)) (by decide) (fun K hK => ?_)
       refine Kd.R_lit_step k119 _ 119 ?hg (N := 26) ?hd (xs := ([(⟨a1_0, a1_1⟩ : S119)] : List (S119))) (inner := [.int .i64 a1_0, .int .i64 a1_1]) (ok := fun _ => True) (okp := fun _ => True) ?hr ?hp (fun _ hk => hk) trivial (Below.refl _ _) (Nat.le_refl _) (by simp) ?_;(case hd => rfl);(case hg => rfl);(case hr => first | (go_simp;done) | (go_simp;rfl));(case hp => exact (Reps.c2 (show Kd.M k119 _ _ _ (⟨a1_0, a1_1⟩ : S119) [.int .i64 a1_0, .int .i64 a1_1] from (k119_mkM _ _ _ (⟨a1_0, a1_1⟩ : S119) )) (Reps.none _ _)))
       intro v425 w45 ho46 hb hg_ hnew_
       clear hg_ hnew_
       (first | rw [← Ny424.out] at ho46 | (simp only [Int.reduceToNat] at ho46;rw [← Ny424.out] at ho46))
       have n0_ := aM (Kd.R_elder' (by exact rP HO423.out) (Kd.R_base ho46) hb)
       have n1_ := aM (Kd.R_lower (Kd.R_newB (Kd.R_new' ho46 (Kd.R_lt (by exact rP HO423.out))) (g := gb388) (o := .cells #[.int .i64 a1_0, .int .i64 a1_1] 119 (0, 0)) (by exact kP BK388.out)) (below_size (by exact bB)))
       have n2_ := aM (kB hb BK388.out)
       have n3_ := aM (below_step (by exact bB) hb)
       clear HO423
       clear BK388
       clear HB
       have HO423 := n0_
       have HO426 := n1_
       have BK388 := n2_
       have HB := n3_
       clear n0_ n1_ n2_ n3_
       clear hb ho46
       refine hK.out _ _ ⟨(blk_cell BK388.out 0).trans rfl, (blk_cell BK388.out 1).trans rfl⟩ (fun hHeld => ?_)
       clear hK K
       refine norm_ (a' := ?_) ?_ ?_
       rotate_left
       ·show Act.put _ (some 26) _ = _
        simp only [Act.put, List.setIfInBounds_toArray, List.set_cons_zero, List.set_cons_succ, i64_w, i32_w]
        rfl
       exact norm_ (by simp only [putAll, Act.put, List.setIfInBounds_toArray, List.set_cons_zero, List.set_cons_succ]) (hCont (v415, v422, v425) _ ⟨hHeld, (by refine rP ?_;exact Kd.R_mono HO423.out (fun _ hk => ⟨hk.2, hk.1⟩)), (by refine rP ?_;exact Kd.R_mono HO426.out (fun _ hk => ⟨hk.1.2, hk.2⟩)), (by exact kP BK388.out), (by exact bB)⟩)
      ·skip
       refine Kd.R_lit_step k119 _ 119 ?hg (N := 26) ?hd (xs := ([(⟨a1_0, a1_1⟩ : S119)] : List (S119))) (inner := [.int .i64 a1_0, .int .i64 a1_1]) (ok := fun _ => True) (okp := fun _ => True) ?hr ?hp (fun _ hk => hk) trivial (Below.refl _ _) (Nat.le_refl _) (by simp) ?_;(case hd => rfl);(case hg => rfl);(case hr => first | (go_simp;done) | (go_simp;rfl));(case hp => exact (Reps.c2 (show Kd.M k119 _ _ _ (⟨a1_0, a1_1⟩ : S119) [.int .i64 a1_0, .int .i64 a1_1] from (k119_mkM _ _ _ (⟨a1_0, a1_1⟩ : S119) )) (Reps.none _ _)))
       intro v425 w44 ho45 hb hg_ hnew_
       clear hg_ hnew_
       (first | rw [← Ny424.out] at ho45 | (simp only [Int.reduceToNat] at ho45;rw [← Ny424.out] at ho45))
       have n0_ := aM (Kd.R_elder' (by exact rP HO416.out) (Kd.R_base ho45) hb)
       have n1_ := aM (Kd.R_lower (Kd.R_newB (Kd.R_new' ho45 (Kd.R_lt (by exact rP HO416.out))) (g := gb388) (o := .cells #[.int .i64 a1_0, .int .i64 a1_1] 119 (0, 0)) (by exact kP BK388.out)) (below_size (by exact bB)))
       have n2_ := aM (kB hb BK388.out)
       have n3_ := aM (below_step (by exact bB) hb)
       clear HO416
       clear BK388
       clear HB
       have HO416 := n0_
       have HO426 := n1_
       have BK388 := n2_
       have HB := n3_
       clear n0_ n1_ n2_ n3_
       clear hb ho45
       refine hK.out _ _ ⟨(blk_cell BK388.out 0).trans rfl, (blk_cell BK388.out 1).trans rfl⟩ (fun hHeld => ?_)
       clear hK K
       refine norm_ (a' := ?_) ?_ ?_
       rotate_left
       ·show Act.put _ (some 26) _ = _
        simp only [Act.put, List.setIfInBounds_toArray, List.set_cons_zero, List.set_cons_succ, i64_w, i32_w]
        rfl
       refine one_ (i := 4) (N := some 24) #[true,true,true,true,true,true,true,false,true,true,true,false,false] rfl rfl (one_of HT_.out (by kernel_rfl)) (by decide) (fun K hK => ?_)
       refine Kd.R_append_rows_step k119 (w0 := w) w.heap.size (by rfl) (.tmp 20) (.tmp 23) 22 119 (.agg #[(.int .i64 0), (.int .i64 0)]) 16 rfl Try.underlying22 info119 rfl (by decide) (by omega) v415 y414 y417 _ _ _ (fun k_ => some k_ ≠ (v425 : Value).ownBlock ∧ k_ ≠ gb388) (fun _ => False) rfl rfl ?aO ?aR (fun _ _ h => h) (fun _ h => h.elim) ?aF ?aB ?aS ?aL ?_
       (case aR => exact cP (Kd.C_below HR420.out HB.out))
       (case aB => exact (by exact bB))
       (case aF => exact (fun k_ hk => ⟨Kd.fresh' (Kd.R_lt (by exact rP HO426.out)) k_ hk, Kd.freshB (g := gb388) (o := .cells #[.int .i64 a1_0, .int .i64 a1_1] 119 (0, 0)) (by exact kP BK388.out) k_ hk⟩))
       (case aO => exact (by refine rP ?_;exact Kd.R_mono HO416.out (fun _ hk => ⟨hk.2, hk.1.2⟩)))
       (case aS => exact (below_size (by exact bB)))
       (case aL => have := LMc33.out;omega)
       intro v422 w46 ho hb hg hat
       rw [← Ny421.out] at ho
       have n0_ := aM (blk_grown (g := gb388) (o := .cells #[.int .i64 a1_0, .int .i64 a1_1] 119 (0, 0)) (by exact kP BK388.out) hg (Kd.R_away HO416.out (fun _ hk => hk.1.2)))
       have n1_ := aM (Kd.R_after (ok := (fun k_ => k_ ≠ gb388)) (by exact rP (Kd.R_mono HO426.out (fun _ hk => ⟨hk.2, hk.1.2⟩))) hg hat)
       have n2_ := aM (hb)
       have n3_ := aM (ho)
       clear BK388
       clear HO426
       clear HB
       clear HO416
       have BK388 := n0_
       have HO426 := n1_
       have HB := n2_
       have HO423 := n3_
       clear n0_ n1_ n2_ n3_
       clear ho hb hg hat
       refine hK.out _ _ ⟨(blk_cell BK388.out 0).trans rfl, (blk_cell BK388.out 1).trans rfl⟩ (fun hHeld => ?_)
       clear hK K
       refine norm_ (a' := ?_) ?_ ?_
       rotate_left
       ·show Act.put _ (some 24) _ = _
        simp only [Act.put, List.setIfInBounds_toArray, List.set_cons_zero, List.set_cons_succ, i64_w, i32_w]
        rfl
       exact norm_ (by simp only [putAll, Act.put, List.setIfInBounds_toArray, List.set_cons_zero, List.set_cons_succ]) (hCont (v415, v422, v425) _ ⟨hHeld, (by exact rP HO423.out), (by refine rP ?_;exact Kd.R_mono HO426.out (fun _ hk => ⟨hk.2, hk.1⟩)), (by exact kP BK388.out), (by exact bB)⟩)
     ·skip
      refine Kd.R_lit_step k119 _ 119 ?hg (N := 26) ?hd (xs := ([(⟨a1_0, a1_1⟩ : S119)] : List (S119))) (inner := [.int .i64 a1_0, .int .i64 a1_1]) (ok := fun _ => True) (okp := fun _ => True) ?hr ?hp (fun _ hk => hk) trivial (Below.refl _ _) (Nat.le_refl _) (by simp) ?_;(case hd => rfl);(case hg => rfl);(case hr => first | (go_simp;done) | (go_simp;rfl));(case hp => exact (Reps.c2 (show Kd.M k119 _ _ _ (⟨a1_0, a1_1⟩ : S119) [.int .i64 a1_0, .int .i64 a1_1] from (k119_mkM _ _ _ (⟨a1_0, a1_1⟩ : S119) )) (Reps.none _ _)))
      intro v425 w42 ho43 hb hg_ hnew_
      clear hg_ hnew_
      (first | rw [← Ny424.out] at ho43 | (simp only [Int.reduceToNat] at ho43;rw [← Ny424.out] at ho43))
      have n0_ := aM (Kd.R_lower (Kd.R_newB ho43 (g := gb388) (o := .cells #[.int .i64 a1_0, .int .i64 a1_1] 119 (0, 0)) (by exact kP BK388.out)) (below_size (by exact bB)))
      have n1_ := aM (kB hb BK388.out)
      have n2_ := aM (below_step (by exact bB) hb)
      clear BK388
      clear HB
      have HO426 := n0_
      have BK388 := n1_
      have HB := n2_
      clear n0_ n1_ n2_
      clear hb ho43
      refine hK.out _ _ ⟨(blk_cell BK388.out 0).trans rfl, (blk_cell BK388.out 1).trans rfl⟩ (fun hHeld => ?_)
      clear hK K
      refine norm_ (a' := ?_) ?_ ?_
      rotate_left
      ·show Act.put _ (some 26) _ = _
       simp only [Act.put, List.setIfInBounds_toArray, List.set_cons_zero, List.set_cons_succ, i64_w, i32_w]
       rfl
      refine one_ (i := 0) (N := some 20) #[true,true,true,true,false,true,true,false,true,true,true,false,false] rfl rfl (one_of HT_.out (by kernel_rfl)) (by decide) (fun K hK => ?_)
      refine Kd.R_lit_step k119 _ 119 ?hg (N := 20) ?hd (xs := ([] : List (S119))) (inner := []) (ok := fun _ => True) (okp := fun _ => True) ?hr ?hp (fun _ hk => hk) trivial (Below.refl _ _) (Nat.le_refl _) (by simp) ?_;(case hd => rfl);(case hg => rfl);(case hr => first | (go_simp;done) | (go_simp;rfl));(case hp => exact (Reps.none _ _))
      intro v415 w44 ho45 hb hg_ hnew_
      clear hg_ hnew_
      (first | rw [← Ny414.out] at ho45 | (simp only [Int.reduceToNat] at ho45;rw [← Ny414.out] at ho45))
      have n0_ := aM (Kd.R_elder' (by exact rP HO426.out) (Kd.R_base ho45) hb)
      have n1_ := aM (Kd.R_lower (Kd.R_newB (Kd.R_new' ho45 (Kd.R_lt (by exact rP HO426.out))) (g := gb388) (o := .cells #[.int .i64 a1_0, .int .i64 a1_1] 119 (0, 0)) (by exact kP BK388.out)) (below_size (by exact bB)))
      have n2_ := aM (kB hb BK388.out)
      have n3_ := aM (below_step (by exact bB) hb)
      clear HO426
      clear BK388
      clear HB
      have HO426 := n0_
      have HO416 := n1_
      have BK388 := n2_
      have HB := n3_
      clear n0_ n1_ n2_ n3_
      clear hb ho45
      refine hK.out _ _ ⟨(blk_cell BK388.out 0).trans rfl, (blk_cell BK388.out 1).trans rfl⟩ (fun hHeld => ?_)
      clear hK K
      refine norm_ (a' := ?_) ?_ ?_
      rotate_left
      ·show Act.put _ (some 20) _ = _
       simp only [Act.put, List.setIfInBounds_toArray, List.set_cons_zero, List.set_cons_succ, i64_w, i32_w]
       rfl
      refine one_ (i := 4) (N := some 24) #[true,true,true,true,true,true,true,false,true,true,true,false,false] rfl rfl (one_of HT_.out (by kernel_rfl)) (by decide) (fun K hK => ?_)
      refine Kd.R_append_rows_step k119 (w0 := w) w.heap.size (by rfl) (.tmp 20) (.tmp 23) 22 119 (.agg #[(.int .i64 0), (.int .i64 0)]) 16 rfl Try.underlying22 info119 rfl (by decide) (by omega) v415 y414 y417 _ _ _ (fun k_ => some k_ ≠ (v425 : Value).ownBlock ∧ k_ ≠ gb388) (fun _ => False) rfl rfl ?aO ?aR (fun _ _ h => h) (fun _ h => h.elim) ?aF ?aB ?aS ?aL ?_
      (case aR => exact cP (Kd.C_below HR420.out HB.out))
      (case aB => exact (by exact bB))
      (case aF => exact (fun k_ hk => ⟨Kd.fresh' (Kd.R_lt (by exact rP HO426.out)) k_ hk, Kd.freshB (g := gb388) (o := .cells #[.int .i64 a1_0, .int .i64 a1_1] 119 (0, 0)) (by exact kP BK388.out) k_ hk⟩))
      (case aO => exact (by refine rP ?_;exact Kd.R_mono HO416.out (fun _ hk => ⟨hk.1.2, hk.2⟩)))
      (case aS => exact (below_size (by exact bB)))
      (case aL => have := LMc33.out;omega)
      intro v422 w46 ho hb hg hat
      rw [← Ny421.out] at ho
      have n0_ := aM (blk_grown (g := gb388) (o := .cells #[.int .i64 a1_0, .int .i64 a1_1] 119 (0, 0)) (by exact kP BK388.out) hg (Kd.R_away HO416.out (fun _ hk => hk.2)))
      have n1_ := aM (Kd.R_after (ok := (fun k_ => k_ ≠ gb388)) (by exact rP (Kd.R_mono HO426.out (fun _ hk => ⟨hk.1.2, hk.2⟩))) hg hat)
      have n2_ := aM (hb)
      have n3_ := aM (ho)
      clear BK388
      clear HO426
      clear HB
      clear HO416
      have BK388 := n0_
      have HO426 := n1_
      have HB := n2_
      have HO423 := n3_
      clear n0_ n1_ n2_ n3_
      clear ho hb hg hat
      refine hK.out _ _ ⟨(blk_cell BK388.out 0).trans rfl, (blk_cell BK388.out 1).trans rfl⟩ (fun hHeld => ?_)
      clear hK K
      refine norm_ (a' := ?_) ?_ ?_
      rotate_left
      ·show Act.put _ (some 24) _ = _
       simp only [Act.put, List.setIfInBounds_toArray, List.set_cons_zero, List.set_cons_succ, i64_w, i32_w]
       rfl
      exact norm_ (by simp only [putAll, Act.put, List.setIfInBounds_toArray, List.set_cons_zero, List.set_cons_succ]) (hCont (v415, v422, v425) _ ⟨hHeld, (by exact rP HO423.out), (by refine rP ?_;exact Kd.R_mono HO426.out (fun _ hk => ⟨hk.2, hk.1⟩)), (by exact kP BK388.out), (by exact bB)⟩)
    rintro ⟨v415, v422, v425⟩ w47 ⟨hS_, h0_, h1_, h2_, h3_⟩
    have n0_ : Aside0 (Kd.R k119 119 w47 w.heap.size (fun k_ => some k_ ≠ (v425 : Value).ownBlock ∧ k_ ≠ gb388) v422 y421) := ⟨h0_⟩
    have n1_ : Aside0 (Kd.R k119 119 w47 w.heap.size (fun k_ => some k_ ≠ (v422 : Value).ownBlock ∧ k_ ≠ gb388) v425 y424) := ⟨h1_⟩
    have n2_ : Aside0 (w47.heap[gb388]? = some (.cells #[.int .i64 a1_0, .int .i64 a1_1] 119 (0, 0))) := ⟨h2_⟩
    have n3_ : Aside0 (Below w.heap.size w w47) := ⟨h3_⟩
    clear BK388
    clear HB
    clear h0_ h1_ h2_ h3_
    have HO423 := n0_
    have HO426 := n1_
    have BK388 := n2_
    have HB := n3_
    clear n0_ n1_ n2_ n3_
    have hHeld : w47.cell? ⟨gb388, 0, none⟩ = some (.int .i64 a1_0) ∧ w47.cell? ⟨gb388, 1, none⟩ = some (.int .i64 a1_1) := hS_
    obtain ⟨Ao49, co49, eo49⟩ := Kd.R_slice HO426.out
    (first | subst eo49 | (injection eo49 with f1_ f2_ f3_;have f4_ := f1_.symm;have f5_ := f3_.symm;clear f1_ f2_ f3_;subst f4_;subst f5_))
    refine norm_ (a' := ?_) ?_ ?_
    rotate_left
    ·simp only [putAll, Act.put, List.setIfInBounds_toArray, List.set_cons_zero, List.set_cons_succ]
     rfl
    refine one_ (i := 7) (N := some 27) #[true,true,true,true,true,true,true,true,true,true,true,false,false] rfl rfl (one_of HT_.out (by kernel_rfl)) (by decide) (fun K hK => ?_)
    refine Kd.R_append_rows_step k119 (w0 := w) w.heap.size (by rfl) (.tmp 24) (.tmp 26) 22 119 (.agg #[(.int .i64 0), (.int .i64 0)]) 16 rfl Try.underlying22 info119 rfl (by decide) (by omega) v422 y421 y424 _ _ _ (fun k_ => some k_ ≠ (.slice Ao49 y424.length co49 : Value).ownBlock ∧ k_ ≠ gb388) (fun _ => False) rfl rfl ?aO ?aR (fun _ _ h => h) (fun _ h => h.elim) ?aF ?aB ?aS ?aL ?_
    (case aR => exact cP (Kd.R_reads' HO426.out).2.2)
    (case aB => exact (by exact bB))
    (case aF => exact (fun k_ hk => ⟨Kd.fresh' (Kd.R_lt (by exact rP HO426.out)) k_ hk, Kd.freshB (g := gb388) (o := .cells #[.int .i64 a1_0, .int .i64 a1_1] 119 (0, 0)) (by exact kP BK388.out) k_ hk⟩))
    (case aO => exact (by exact rP HO423.out))
    (case aS => exact (below_size (by exact bB)))
    (case aL => have := LMc34.out;omega)
    intro v428 w48 ho hb hg hat
    rw [← Ny427.out] at ho
    have n0_ := aM (blk_grown (g := gb388) (o := .cells #[.int .i64 a1_0, .int .i64 a1_1] 119 (0, 0)) (by exact kP BK388.out) hg (Kd.R_away HO423.out (fun _ hk => hk.2)))
    have n1_ := aM (Kd.R_after (ok := (fun k_ => k_ ≠ gb388)) (by exact rP (Kd.R_mono HO426.out (fun _ hk => ⟨hk.2, hk.1⟩))) hg hat)
    have n2_ := aM (hb)
    have n3_ := aM (ho)
    clear BK388
    clear HO426
    clear HB
    clear HO423
    have BK388 := n0_
    have HO426 := n1_
    have HB := n2_
    have HO429 := n3_
    clear n0_ n1_ n2_ n3_
    clear ho hb hg hat
    refine hK.out _ _ ⟨(blk_cell BK388.out 0).trans rfl, (blk_cell BK388.out 1).trans rfl⟩ (fun hHeld => ?_)
    clear hK K
    refine norm_ (a' := ?_) ?_ ?_
    rotate_left
    ·show Act.put _ (some 27) _ = _
     simp only [Act.put, List.setIfInBounds_toArray, List.set_cons_zero, List.set_cons_succ, i64_w, i32_w]
     rfl
    refine one_ (i := 11) (N := some 31) #[true,true,true,true,true,true,true,true,true,true,true,true,false] rfl rfl (one_of HT_.out (by kernel_rfl)) (by decide) (fun K hK => ?_)
    refine Kd.R_append_rows_step k119 (w0 := w) w.heap.size (by rfl) (.tmp 27) (.tmp 30) 22 119 (.agg #[(.int .i64 0), (.int .i64 0)]) 16 rfl Try.underlying22 info119 rfl (by decide) (by omega) v428 y427 y430 _ _ _ (fun k_ => some k_ ≠ (.slice Ao49 y424.length co49 : Value).ownBlock ∧ k_ ≠ gb388) (fun _ => False) rfl rfl ?aO ?aR (fun _ _ h => h) (fun _ h => h.elim) ?aF ?aB ?aS ?aL ?_
    (case aR => exact cP (Kd.C_below HR433.out HB.out))
    (case aB => exact (by exact bB))
    (case aF => exact (fun k_ hk => ⟨Kd.fresh' (Kd.R_lt (by exact rP HO426.out)) k_ hk, Kd.freshB (g := gb388) (o := .cells #[.int .i64 a1_0, .int .i64 a1_1] 119 (0, 0)) (by exact kP BK388.out) k_ hk⟩))
    (case aO => exact (by exact rP HO429.out))
    (case aS => exact (below_size (by exact bB)))
    (case aL => have := LMc37.out;omega)
    intro v435 w50 ho hb hg hat
    rw [← Ny434.out] at ho
    have n0_ := aM (blk_grown (g := gb388) (o := .cells #[.int .i64 a1_0, .int .i64 a1_1] 119 (0, 0)) (by exact kP BK388.out) hg (Kd.R_away HO429.out (fun _ hk => hk.2)))
    have n1_ := aM (Kd.R_after (ok := (fun k_ => k_ ≠ gb388)) (by exact rP HO426.out) hg hat)
    have n2_ := aM (hb)
    have n3_ := aM (ho)
    clear BK388
    clear HO426
    clear HB
    clear HO429
    have BK388 := n0_
    have HO426 := n1_
    have HB := n2_
    have HO436 := n3_
    clear n0_ n1_ n2_ n3_
    clear ho hb hg hat
    refine hK.out _ _ ⟨(blk_cell BK388.out 0).trans rfl, (blk_cell BK388.out 1).trans rfl⟩ (fun hHeld => ?_)
    clear hK K
    refine norm_ (a' := ?_) ?_ ?_
    rotate_left
    ·show Act.put _ (some 31) _ = _
     simp only [Act.put, List.setIfInBounds_toArray, List.set_cons_zero, List.set_cons_succ, i64_w, i32_w]
     rfl
    refine pure_ (i := 12) (N := some 4) (v := ?_) (a' := ?_) #[true,true,true,true,true,true,true,true,true,true,true,true,true] rfl rfl (any_of HT_.out (by kernel_rfl)) (fun _ _ _ h => h) (Or.inl ⟨by rfl, ?_⟩) ?_ ?_
    rotate_left
    ·intro w'
     go_simp
     with_reducible rfl
    rotate_left
    ·exact aP
    refine done_ (done_of HT_.out (by kernel_rfl)) ?_
    try go_wp2
    go_ret
    exact ⟨_, by first | rfl | (simp [errW_none, errW_some] <;> rfl) | (simp [*, errW_none, errW_some] <;> rfl), by refine rP ?_;exact Kd.R_mono HO436.out (fun _ hk => trivial), by exact bB⟩
   rw [if_pos c4] at H
   have c4b0 : decide (x5_1 < (l0.length : Int)) = true := decide_eq_true c4
   clear c4
   by_cases c5 : 0 ≤ x5_1
   rotate_left
   ·rw [if_neg c5] at H
    exact absurd H (by simp)
   rw [if_pos c5] at H
   have c5b0 : decide (0 ≤ x5_1) = true := decide_eq_true c5
   clear c5
   replace H := Option.bind_eq_some_iff.mp H
   obtain ⟨t390, A60, H⟩ := H
   replace H : (if t390 = true then (spec_l2Put.l0 k1 l0 (wrap64 (x5_1 + 1)) a1_0 a1_1) else ((some (([] : List (S119)) : List (S119))).bind fun y391 => (if x5_1 ≤ (l0.length : Int) then ((some (l0.take (x5_1 : Int).toNat : List (S119))).bind fun y394 => (if y391.length + y394.length < 8796093022208 then ((some (y391 ++ y394 : List (S119))).bind fun y398 => ((some (([(⟨a1_0, a1_1⟩ : S119)] : List (S119)) : List (S119))).bind fun y401 => (if y398.length + y401.length < 8796093022208 then ((some (y398 ++ y401 : List (S119))).bind fun y404 => ((some (l0.drop (x5_1 : Int).toNat : List (S119))).bind fun y407 => (if y404.length + y407.length < 8796093022208 then (some (y404 ++ y407)) else (none)))) else (none)))) else (none))) else (none)))) = some r := H
   have A6 := Aside0.mk A60
   clear A60
   by_cases c7 : t390 = true
   ·subst c7
    have H1 : (spec_l2Put.l0 k1 l0 (wrap64 (x5_1 + 1)) a1_0 a1_1) = some r := by rw [if_pos rfl] at H;exact H
    clear H
    have H := H1
    clear H1
    have H' := Aside0.mk H
    clear H
    try go_wp2
    have n0_ := aM (blk_drew BK388.out)
    have n1_ := aM (below_drew1 HB.out)
    clear BK388
    clear HB
    have BK388 := n0_
    have HB := n1_
    clear n0_ n1_
    have p389 : 0 ≤ (x5_1 : Int) := oA
    have q389 : x5_1 < (l0.length : Int) := oA
    obtain ⟨ad389, e389, hx389_0, hx389_1⟩ := at_T119 HR0.out x5_1 p389 q389
    have hw389_1 := hx389_1
    have hw389_0 := hx389_0
    cases e389
    replace hx389_0 := (HB.out.cell (World.block_lt_of_cell? w _ hx389_0)).trans hx389_0
    replace hx389_1 := (HB.out.cell (World.block_lt_of_cell? w _ hx389_1)).trans hx389_1
    replace p389 := eq_true p389
    replace q389 := eq_true q389
    refine start_ (n := 12) (S := fun w' => w'.cell? ⟨gb388, 0, none⟩ = some (.int .i64 a1_0) ∧ w'.cell? ⟨gb388, 1, none⟩ = some (.int .i64 a1_1) ∧ w'.cell? (ad389.add ((x5_1).toNat * 2)) = some (.int .i64 ((rd_T119 l0 x5_1).f0)) ∧ w'.cell? ⟨(ad389.add ((x5_1).toNat * 2)).block, (ad389.add ((x5_1).toNat * 2)).off + 1, none⟩ = some (.int .i64 ((rd_T119 l0 x5_1).f1))) (ds := []) #[false,false,false,false,false,false,false,false,false,false,false,false] (by kernel_rfl) rfl rfl ⟨(blk_cell BK388.out 0).trans rfl, (blk_cell BK388.out 1).trans rfl, ((HB.out.cell (World.block_lt_of_cell? w _ hw389_0)).trans hw389_0), ((HB.out.cell (World.block_lt_of_cell? w _ hw389_1)).trans hw389_1)⟩ (fun hHeld => ?_);refine with_tabW spec_l2Put.tab2 spec_l2Put.bits2 (fun HT_ HW_ => ?_)
    generalize wr.drew = w8 at BK388 HB hx389_0 hx389_1 hHeld ⊢
    refine pure_ (i := 0) (N := some 6) (v := ?_) (a' := ?_) #[true,false,false,false,false,false,false,false,false,false,false,false] rfl rfl (any_of HT_.out (by kernel_rfl)) (fun _ _ _ h => h) (Or.inl ⟨by rfl, ?_⟩) ?_ ?_
    rotate_left
    ·intro w'
     go_simp
     with_reducible rfl
    rotate_left
    ·exact aP
    refine pure_ (i := 1) (N := some 7) (v := ?_) (a' := ?_) #[true,true,false,false,false,false,false,false,false,false,false,false] rfl rfl (any_of HT_.out (by kernel_rfl)) (fun _ _ _ h => h) (Or.inl ⟨by rfl, ?_⟩) ?_ ?_
    rotate_left
    ·intro w'
     go_simp
     with_reducible rfl
    rotate_left
    ·exact aP
    refine pure_ (i := 2) (N := some 8) (v := ?_) (a' := ?_) #[true,true,true,false,false,false,false,false,false,false,false,false] rfl rfl (any_of HT_.out (by kernel_rfl)) (fun _ _ _ h => h) (Or.inl ⟨by rfl, ?_⟩) ?_ ?_
    rotate_left
    ·intro w'
     go_simp
     with_reducible rfl
    rotate_left
    ·exact aP
    refine pure_ (i := 3) (N := some 9) (v := ?_) (a' := ?_) #[true,true,true,true,false,false,false,false,false,false,false,false] rfl rfl (any_of HT_.out (by kernel_rfl)) (fun _ _ _ h => h) (Or.inl ⟨by rfl, ?_⟩) ?_ ?_
    rotate_left
    ·intro w'
     go_simp
     with_reducible rfl
    rotate_left
    ·exact aP
    refine pure_ (i := 4) (N := some 10) (v := ?_) (a' := ?_) #[true,true,true,true,true,false,false,false,false,false,false,false] rfl rfl (any_of HT_.out (by kernel_rfl)) (fun _ _ _ h => h) (Or.inl ⟨by rfl, ?_⟩) ?_ ?_
    rotate_left
    ·intro w'
     go_simp
     with_reducible rfl
    rotate_left
    ·exact aP
    refine pure_ (i := 5) (N := some 11) (v := ?_) (a' := ?_) #[true,true,true,true,true,true,false,false,false,false,false,false] rfl rfl (any_of HT_.out (by kernel_rfl)) (fun _ _ _ h => h) (Or.inl ⟨by rfl, ?_⟩) ?_ ?_
    rotate_left
    ·intro w'
     go_simp
     with_reducible rfl
    rotate_left
    ·exact aP
    refine pure_ (i := 6) (N := some 12) (v := ?_) (a' := ?_) #[true,true,true,true,true,true,true,false,false,false,false,false] rfl rfl (any_of HT_.out (by kernel_rfl)) (fun _ _ _ h => h) (Or.inl ⟨by rfl, ?_⟩) ?_ ?_
    rotate_left
    ·intro w'
     go_simp
     with_reducible rfl
    rotate_left
    ·exact aP
    refine pure_ (i := 7) (N := some 13) (v := ?_) (a' := ?_) #[true,true,true,true,true,true,true,true,false,false,false,false] rfl rfl (any_of HT_.out (by kernel_rfl)) (fun _ _ _ h => h) (Or.inl ⟨by rfl, ?_⟩) ?_ ?_
    rotate_left
    ·intro w'
     go_simp
     with_reducible rfl
    rotate_left
    ·exact aP
    refine take_ (i := 8) (N := some 14) (v := ?_) (a' := ?_) #[true,true,true,true,true,true,true,true,true,false,false,false] rfl rfl (take_ofW HT_.out HW_.out (by kernel_rfl)) (fun _ _ _ h => h) (Or.inl ⟨by rfl, ?_⟩) hHeld ?_ ?_
    rotate_left
    ·rintro w' ⟨s0, s1, s2, s3⟩
     go_simp
     with_reducible rfl
    rotate_left
    ·exact aP
    refine take_ (i := 9) (N := some 15) (v := ?_) (a' := ?_) #[true,true,true,true,true,true,true,true,true,true,false,false] rfl rfl (take_ofW HT_.out HW_.out (by kernel_rfl)) (fun _ _ _ h => h) (Or.inl ⟨by rfl, ?_⟩) hHeld ?_ ?_
    rotate_left
    ·rintro w' ⟨s0, s1, s2, s3⟩
     go_simp
     with_reducible rfl
    rotate_left
    ·exact aP
    refine one_ (i := 10) (N := some 16) #[true,true,true,true,true,true,true,true,true,true,true,false] rfl rfl (one_of HT_.out (by kernel_rfl)) (by decide) (fun K hK => ?_)
    refine goes_ Try.func139 (by kernel_rfl) rfl #[.agg #[.int .i64 ((rd_T119 l0 x5_1).f0), .int .i64 ((rd_T119 l0 x5_1).f1)], .agg #[.int .i64 a1_0, .int .i64 a1_1]] (by rfl) rfl rfl mM ?_
    with_reducible refine (spec_l2Before.calls ((rd_T119 l0 x5_1).f0) ((rd_T119 l0 x5_1).f1) a1_0 a1_1 true _ A6.out).mono ?_
    rintro e w9 ⟨rfl, hb⟩
    refine ⟨_, rfl, ?_⟩
    have n0_ := aM (kB hb BK388.out)
    have n1_ := aM (below_step (by exact bB) hb)
    clear BK388
    clear HB
    have BK388 := n0_
    have HB := n1_
    clear n0_ n1_
    (try clear hb)
    (try clear hb2)
    (try clear hk)
    (try clear hi)
    refine hK.out _ _ ⟨(blk_cell BK388.out 0).trans rfl, (blk_cell BK388.out 1).trans rfl, ((HB.out.cell (World.block_lt_of_cell? w _ hw389_0)).trans hw389_0), ((HB.out.cell (World.block_lt_of_cell? w _ hw389_1)).trans hw389_1)⟩ (fun hHeld => ?_)
    clear hK K
    refine norm_ (a' := ?_) ?_ ?_
    rotate_left
    ·show Act.put _ (some 16) _ = _
     simp only [Act.put, List.setIfInBounds_toArray, List.set_cons_zero, List.set_cons_succ, i64_w, i32_w]
     rfl
    refine pure_ (i := 11) (N := some 17) (v := ?_) (a' := ?_) #[true,true,true,true,true,true,true,true,true,true,true,true] rfl rfl (any_of HT_.out (by kernel_rfl)) (fun _ _ _ h => h) (Or.inl ⟨by rfl, ?_⟩) ?_ ?_
    rotate_left
    ·intro w'
     go_simp
     with_reducible rfl
    rotate_left
    ·exact aP
    refine done_ (done_of HT_.out (by kernel_rfl)) ?_
    try go_wp2
    go_roundg k1
    case measure => have := HK1.out;omega
    case rel => exact ⟨(wrap64 (x5_1 + 1)), (by first | rfl | (simp;done) | (simp [*];done)), H', ⟨by have := HK1.out;omega⟩, ⟨by exact kP BK388.out⟩, ⟨by exact bB⟩⟩
   replace c7 := Bool.eq_false_iff.mpr c7
   subst c7
   have H1 : ((some (([] : List (S119)) : List (S119))).bind fun y391 => (if x5_1 ≤ (l0.length : Int) then ((some (l0.take (x5_1 : Int).toNat : List (S119))).bind fun y394 => (if y391.length + y394.length < 8796093022208 then ((some (y391 ++ y394 : List (S119))).bind fun y398 => ((some (([(⟨a1_0, a1_1⟩ : S119)] : List (S119)) : List (S119))).bind fun y401 => (if y398.length + y401.length < 8796093022208 then ((some (y398 ++ y401 : List (S119))).bind fun y404 => ((some (l0.drop (x5_1 : Int).toNat : List (S119))).bind fun y407 => (if y404.length + y407.length < 8796093022208 then (some (y404 ++ y407)) else (none)))) else (none)))) else (none))) else (none))) = some r := by rw [if_neg (show ¬ (false = true) by decide)] at H;exact H
   clear H
   have H := H1
   clear H1
   obtain ⟨y391, hy391⟩ : ∃ y_ : List (S119), y_ = (([] : List (S119))) := ⟨_, rfl⟩
   replace H : (if x5_1 ≤ (l0.length : Int) then ((some (l0.take (x5_1 : Int).toNat : List (S119))).bind fun y394 => (if y391.length + y394.length < 8796093022208 then ((some (y391 ++ y394 : List (S119))).bind fun y398 => ((some (([(⟨a1_0, a1_1⟩ : S119)] : List (S119)) : List (S119))).bind fun y401 => (if y398.length + y401.length < 8796093022208 then ((some (y398 ++ y401 : List (S119))).bind fun y404 => ((some (l0.drop (x5_1 : Int).toNat : List (S119))).bind fun y407 => (if y404.length + y407.length < 8796093022208 then (some (y404 ++ y407)) else (none)))) else (none)))) else (none))) else (none)) = some r := by first | (rw [hy391];with_reducible exact H) | (have H2_ := (Option.bind_some _ _).symm.trans H;rw [hy391];with_reducible exact H2_) | (have H2_ := (Option.bind_some _ _).symm.trans H;with_reducible exact H2_) | with_reducible exact H | (rw [hy391];exact H) | exact H
   have Ny391 := Aside0.mk hy391
   clear hy391
   have c10b0 := eq_true (oA : 0 ≤ x5_1)
   by_cases c11 : x5_1 ≤ (l0.length : Int)
   rotate_left
   ·rw [if_neg c11] at H
    exact absurd H (by simp)
   rw [if_pos c11] at H
   have c11b0 := eq_true c11
   have c11b1 : decide (x5_1 ≤ (l0.length : Int)) = true := decide_eq_true c11
   clear c11
   obtain ⟨y394, hy394⟩ : ∃ y_ : List (S119), y_ = (l0.take (x5_1 : Int).toNat) := ⟨_, rfl⟩
   replace H : (if y391.length + y394.length < 8796093022208 then ((some (y391 ++ y394 : List (S119))).bind fun y398 => ((some (([(⟨a1_0, a1_1⟩ : S119)] : List (S119)) : List (S119))).bind fun y401 => (if y398.length + y401.length < 8796093022208 then ((some (y398 ++ y401 : List (S119))).bind fun y404 => ((some (l0.drop (x5_1 : Int).toNat : List (S119))).bind fun y407 => (if y404.length + y407.length < 8796093022208 then (some (y404 ++ y407)) else (none)))) else (none)))) else (none)) = some r := by first | (rw [hy394];with_reducible exact H) | (have H2_ := (Option.bind_some _ _).symm.trans H;rw [hy394];with_reducible exact H2_) | (have H2_ := (Option.bind_some _ _).symm.trans H;with_reducible exact H2_) | with_reducible exact H | (rw [hy394];exact H) | exact H
   have Ny394 := Aside0.mk hy394
   clear hy394
   by_cases c12 : y391.length + y394.length < 8796093022208
   rotate_left
   ·rw [if_neg c12] at H
    exact absurd H (by simp)
   rw [if_pos c12] at H
   have LMc12 := Aside0.mk c12
   clear c12
   obtain ⟨y398, hy398⟩ : ∃ y_ : List (S119), y_ = (y391 ++ y394) := ⟨_, rfl⟩
   replace H : ((some (([(⟨a1_0, a1_1⟩ : S119)] : List (S119)) : List (S119))).bind fun y401 => (if y398.length + y401.length < 8796093022208 then ((some (y398 ++ y401 : List (S119))).bind fun y404 => ((some (l0.drop (x5_1 : Int).toNat : List (S119))).bind fun y407 => (if y404.length + y407.length < 8796093022208 then (some (y404 ++ y407)) else (none)))) else (none))) = some r := by first | (rw [hy398];with_reducible exact H) | (have H2_ := (Option.bind_some _ _).symm.trans H;rw [hy398];with_reducible exact H2_) | (have H2_ := (Option.bind_some _ _).symm.trans H;with_reducible exact H2_) | with_reducible exact H | (rw [hy398];exact H) | exact H
   have Ny398 := Aside0.mk hy398
   clear hy398
   obtain ⟨y401, hy401⟩ : ∃ y_ : List (S119), y_ = (([(⟨a1_0, a1_1⟩ : S119)] : List (S119))) := ⟨_, rfl⟩
   replace H : (if y398.length + y401.length < 8796093022208 then ((some (y398 ++ y401 : List (S119))).bind fun y404 => ((some (l0.drop (x5_1 : Int).toNat : List (S119))).bind fun y407 => (if y404.length + y407.length < 8796093022208 then (some (y404 ++ y407)) else (none)))) else (none)) = some r := by first | (rw [hy401];with_reducible exact H) | (have H2_ := (Option.bind_some _ _).symm.trans H;rw [hy401];with_reducible exact H2_) | (have H2_ := (Option.bind_some _ _).symm.trans H;with_reducible exact H2_) | with_reducible exact H | (rw [hy401];exact H) | exact H
   have Ny401 := Aside0.mk hy401
   clear hy401
   by_cases c13 : y398.length + y401.length < 8796093022208
   rotate_left
   ·rw [if_neg c13] at H
    exact absurd H (by simp)
   rw [if_pos c13] at H
   have LMc13 := Aside0.mk c13
   clear c13
   obtain ⟨y404, hy404⟩ : ∃ y_ : List (S119), y_ = (y398 ++ y401) := ⟨_, rfl⟩
   replace H : ((some (l0.drop (x5_1 : Int).toNat : List (S119))).bind fun y407 => (if y404.length + y407.length < 8796093022208 then (some (y404 ++ y407)) else (none))) = some r := by first | (rw [hy404];with_reducible exact H) | (have H2_ := (Option.bind_some _ _).symm.trans H;rw [hy404];with_reducible exact H2_) | (have H2_ := (Option.bind_some _ _).symm.trans H;with_reducible exact H2_) | with_reducible exact H | (rw [hy404];exact H) | exact H
   have Ny404 := Aside0.mk hy404
   clear hy404
   have c14b0 := eq_true (oA : 0 ≤ x5_1)
   have c15b0 := eq_true (oA : x5_1 ≤ (l0.length : Int))
   obtain ⟨y407, hy407⟩ : ∃ y_ : List (S119), y_ = (l0.drop (x5_1 : Int).toNat) := ⟨_, rfl⟩
   replace H : (if y404.length + y407.length < 8796093022208 then (some (y404 ++ y407)) else (none)) = some r := by first | (rw [hy407];with_reducible exact H) | (have H2_ := (Option.bind_some _ _).symm.trans H;rw [hy407];with_reducible exact H2_) | (have H2_ := (Option.bind_some _ _).symm.trans H;with_reducible exact H2_) | with_reducible exact H | (rw [hy407];exact H) | exact H
   have Ny407 := Aside0.mk hy407
   clear hy407
   by_cases c16 : y404.length + y407.length < 8796093022208
   rotate_left
   ·rw [if_neg c16] at H
    exact absurd H (by simp)
   rw [if_pos c16] at H
   have LMc16 := Aside0.mk c16
   clear c16
   obtain ⟨y411, hy411⟩ : ∃ y_ : List (S119), y_ = (y404 ++ y407) := ⟨_, rfl⟩
   replace H : (some y411) = some r := by first | (rw [hy411];with_reducible exact H) | (have H2_ := (Option.bind_some _ _).symm.trans H;rw [hy411];with_reducible exact H2_) | (have H2_ := (Option.bind_some _ _).symm.trans H;with_reducible exact H2_) | with_reducible exact H | (rw [hy411];exact H) | exact H
   have Ny411 := Aside0.mk hy411
   clear hy411
   obtain rfl := Option.some.inj H
   try go_wp2
   have n0_ := aM (blk_drew BK388.out)
   have n1_ := aM (below_drew1 HB.out)
   clear BK388
   clear HB
   have BK388 := n0_
   have HB := n1_
   clear n0_ n1_
   have p389 : 0 ≤ (x5_1 : Int) := oA
   have q389 : x5_1 < (l0.length : Int) := oA
   obtain ⟨ad389, e389, hx389_0, hx389_1⟩ := at_T119 HR0.out x5_1 p389 q389
   have hw389_1 := hx389_1
   have hw389_0 := hx389_0
   cases e389
   replace hx389_0 := (HB.out.cell (World.block_lt_of_cell? w _ hx389_0)).trans hx389_0
   replace hx389_1 := (HB.out.cell (World.block_lt_of_cell? w _ hx389_1)).trans hx389_1
   replace p389 := eq_true p389
   replace q389 := eq_true q389
   refine start_ (n := 12) (S := fun w' => w'.cell? ⟨gb388, 0, none⟩ = some (.int .i64 a1_0) ∧ w'.cell? ⟨gb388, 1, none⟩ = some (.int .i64 a1_1) ∧ w'.cell? (ad389.add ((x5_1).toNat * 2)) = some (.int .i64 ((rd_T119 l0 x5_1).f0)) ∧ w'.cell? ⟨(ad389.add ((x5_1).toNat * 2)).block, (ad389.add ((x5_1).toNat * 2)).off + 1, none⟩ = some (.int .i64 ((rd_T119 l0 x5_1).f1))) (ds := []) #[false,false,false,false,false,false,false,false,false,false,false,false] (by kernel_rfl) rfl rfl ⟨(blk_cell BK388.out 0).trans rfl, (blk_cell BK388.out 1).trans rfl, ((HB.out.cell (World.block_lt_of_cell? w _ hw389_0)).trans hw389_0), ((HB.out.cell (World.block_lt_of_cell? w _ hw389_1)).trans hw389_1)⟩ (fun hHeld => ?_);refine with_tabW spec_l2Put.tab2 spec_l2Put.bits2 (fun HT_ HW_ => ?_)
   generalize wr.drew = w17 at BK388 HB hx389_0 hx389_1 hHeld ⊢
   refine pure_ (i := 0) (N := some 6) (v := ?_) (a' := ?_) #[true,false,false,false,false,false,false,false,false,false,false,false] rfl rfl (any_of HT_.out (by kernel_rfl)) (fun _ _ _ h => h) (Or.inl ⟨by rfl, ?_⟩) ?_ ?_
   rotate_left
   ·intro w'
    go_simp
    with_reducible rfl
   rotate_left
   ·exact aP
   refine pure_ (i := 1) (N := some 7) (v := ?_) (a' := ?_) #[true,true,false,false,false,false,false,false,false,false,false,false] rfl rfl (any_of HT_.out (by kernel_rfl)) (fun _ _ _ h => h) (Or.inl ⟨by rfl, ?_⟩) ?_ ?_
   rotate_left
   ·intro w'
    go_simp
    with_reducible rfl
   rotate_left
   ·exact aP
   refine pure_ (i := 2) (N := some 8) (v := ?_) (a' := ?_) #[true,true,true,false,false,false,false,false,false,false,false,false] rfl rfl (any_of HT_.out (by kernel_rfl)) (fun _ _ _ h => h) (Or.inl ⟨by rfl, ?_⟩) ?_ ?_
   rotate_left
   ·intro w'
    go_simp
    with_reducible rfl
   rotate_left
   ·exact aP
   refine pure_ (i := 3) (N := some 9) (v := ?_) (a' := ?_) #[true,true,true,true,false,false,false,false,false,false,false,false] rfl rfl (any_of HT_.out (by kernel_rfl)) (fun _ _ _ h => h) (Or.inl ⟨by rfl, ?_⟩) ?_ ?_
   rotate_left
   ·intro w'
    go_simp
    with_reducible rfl
   rotate_left
   ·exact aP
   refine pure_ (i := 4) (N := some 10) (v := ?_) (a' := ?_) #[true,true,true,true,true,false,false,false,false,false,false,false] rfl rfl (any_of HT_.out (by kernel_rfl)) (fun _ _ _ h => h) (Or.inl ⟨by rfl, ?_⟩) ?_ ?_
   rotate_left
   ·intro w'
    go_simp
    with_reducible rfl
   rotate_left
   ·exact aP
   refine pure_ (i := 5) (N := some 11) (v := ?_) (a' := ?_) #[true,true,true,true,true,true,false,false,false,false,false,false] rfl rfl (any_of HT_.out (by kernel_rfl)) (fun _ _ _ h => h) (Or.inl ⟨by rfl, ?_⟩) ?_ ?_
   rotate_left
   ·intro w'
    go_simp
    with_reducible rfl
   rotate_left
   ·exact aP
   refine pure_ (i := 6) (N := some 12) (v := ?_) (a' := ?_) #[true,true,true,true,true,true,true,false,false,false,false,false] rfl rfl (any_of HT_.out (by kernel_rfl)) (fun _ _ _ h => h) (Or.inl ⟨by rfl, ?_⟩) ?_ ?_
   rotate_left
   ·intro w'
    go_simp
    with_reducible rfl
   rotate_left
   ·exact aP
   refine pure_ (i := 7) (N := some 13) (v := ?_) (a' := ?_) #[true,true,true,true,true,true,true,true,false,false,false,false] rfl rfl (any_of HT_.out (by kernel_rfl)) (fun _ _ _ h => h) (Or.inl ⟨by rfl, ?_⟩) ?_ ?_
   rotate_left
   ·intro w'
    go_simp
    with_reducible rfl
   rotate_left
   ·exact aP
   refine take_ (i := 8) (N := some 14) (v := ?_) (a' := ?_) #[true,true,true,true,true,true,true,true,true,false,false,false] rfl rfl (take_ofW HT_.out HW_.out (by kernel_rfl)) (fun _ _ _ h => h) (Or.inl ⟨by rfl, ?_⟩) hHeld ?_ ?_
   rotate_left
   ·rintro w' ⟨s0, s1, s2, s3⟩
    go_simp
    with_reducible rfl
   rotate_left
   ·exact aP
   refine take_ (i := 9) (N := some 15) (v := ?_) (a' := ?_) #[true,true,true,true,true,true,true,true,true,true,false,false] rfl rfl (take_ofW HT_.out HW_.out (by kernel_rfl)) (fun _ _ _ h => h) (Or.inl ⟨by rfl, ?_⟩) hHeld ?_ ?_
   rotate_left
   ·rintro w' ⟨s0, s1, s2, s3⟩
    go_simp
    with_reducible rfl
   rotate_left
   ·exact aP
   refine one_ (i := 10) (N := some 16) #[true,true,true,true,true,true,true,true,true,true,true,false] rfl rfl (one_of HT_.out (by kernel_rfl)) (by decide) (fun K hK => ?_)
   refine goes_ Try.func139 (by kernel_rfl) rfl #[.agg #[.int .i64 ((rd_T119 l0 x5_1).f0), .int .i64 ((rd_T119 l0 x5_1).f1)], .agg #[.int .i64 a1_0, .int .i64 a1_1]] (by rfl) rfl rfl mM ?_
   with_reducible refine (spec_l2Before.calls ((rd_T119 l0 x5_1).f0) ((rd_T119 l0 x5_1).f1) a1_0 a1_1 false _ A6.out).mono ?_
   rintro e w18 ⟨rfl, hb⟩
   refine ⟨_, rfl, ?_⟩
   have n0_ := aM (kB hb BK388.out)
   have n1_ := aM (below_step (by exact bB) hb)
   clear BK388
   clear HB
   have BK388 := n0_
   have HB := n1_
   clear n0_ n1_
   (try clear hb)
   (try clear hb2)
   (try clear hk)
   (try clear hi)
   refine hK.out _ _ ⟨(blk_cell BK388.out 0).trans rfl, (blk_cell BK388.out 1).trans rfl, ((HB.out.cell (World.block_lt_of_cell? w _ hw389_0)).trans hw389_0), ((HB.out.cell (World.block_lt_of_cell? w _ hw389_1)).trans hw389_1)⟩ (fun hHeld => ?_)
   clear hK K
   refine norm_ (a' := ?_) ?_ ?_
   rotate_left
   ·show Act.put _ (some 16) _ = _
    simp only [Act.put, List.setIfInBounds_toArray, List.set_cons_zero, List.set_cons_succ, i64_w, i32_w]
    rfl
   refine pure_ (i := 11) (N := some 17) (v := ?_) (a' := ?_) #[true,true,true,true,true,true,true,true,true,true,true,true] rfl rfl (any_of HT_.out (by kernel_rfl)) (fun _ _ _ h => h) (Or.inl ⟨by rfl, ?_⟩) ?_ ?_
   rotate_left
   ·intro w'
    go_simp
    with_reducible rfl
   rotate_left
   ·exact aP
   refine done_ (done_of HT_.out (by kernel_rfl)) ?_
   try go_wp2
   have n0_ := aM (blk_drew BK388.out)
   have n1_ := aM (below_drew1 HB.out)
   clear BK388
   clear HB
   have BK388 := n0_
   have HB := n1_
   clear n0_ n1_
   have q20 : (x5_1 : Int) ≤ ((l0.length : Int) : Int) := oA
   obtain ⟨i020, hi020, _, hsz20, _⟩ := info_parts info119
   have hroom20 : l0.length ≤ c0 := HC0.out
   have hC20 : Kd.C k119 _ (some ad389) l0.length l0 := HR0.out
   have hcut20 := cut_to (P := Try.prog) 22 119 .i64 Try.underlying22 hi020 (some ad389) l0.length c0 x5_1 (oA) q20 hroom20
   have hr20 := Kd.C_take (m := (x5_1 : Int).toNat) hC20 (by omega)
   have hy20 : y394.length = (x5_1 : Int).toNat := (by rw [Ny394.out, List.length_take];omega)
   rw [← Ny394.out] at hr20
   rw [← hy20] at hcut20
   have HR397 := Aside0.mk hr20
   have HC397 := aM (show y394.length ≤ c0 from by omega)
   clear hr20 hC20 hroom20 hi020 hsz20
   have KY20 := Aside0.mk hy20
   clear hy20
   replace q20 := eq_true q20
   have q21 : (x5_1 : Int) ≤ ((l0.length : Int) : Int) := oA
   obtain ⟨i021, hi021, _, hsz21, _⟩ := info_parts info119
   have hroom21 : l0.length ≤ c0 := HC0.out
   have hC21 : Kd.C k119 _ (some ad389) l0.length l0 := HR0.out
   have q021 : (0 : Int) ≤ (x5_1 : Int) := oA
   have hcut21 := cut_from (P := Try.prog) 22 119 .i64 Try.underlying22 hi021 2 hsz21 (some ad389) l0.length c0 x5_1 q021 q21
   have hr21 := Kd.C_drop (m := (x5_1 : Int).toNat) (c := c0) hC21 (by omega) hroom21
   obtain ⟨A21, hA21⟩ : ∃ A1, A1 = (if c0 = (x5_1 : Int).toNat then (some ad389) else ((some ad389) : Option Addr).map (·.add ((x5_1 : Int).toNat * 2))) := ⟨_, rfl⟩
   obtain ⟨c21, hc21⟩ : ∃ c1, c1 = c0 - (x5_1 : Int).toNat := ⟨_, rfl⟩
   have hy21 : y407.length = l0.length - (x5_1 : Int).toNat := (by rw [Ny407.out, List.length_drop] <;> omega)
   rw [show (l0).drop (x5_1 : Int).toNat = y407 from Ny407.out.symm] at hr21
   replace hr21 : Kd.C k119 _ A21 y407.length y407 := (by rw [hA21];exact hr21)
   rw [← hy21, ← hA21, ← hc21] at hcut21
   have HR410 := Aside0.mk hr21
   have HC410 := aM (show y407.length ≤ c21 from by rw [hy21, hc21];exact Nat.sub_le_sub_right hroom21 _)
   clear hr21 hC21 hroom21 hi021 hsz21 hc21
   have KY21 := Aside0.mk hy21
   have KA21 := Aside0.mk hA21
   clear hy21 hA21
   replace q21 := eq_true q21
   refine start_ (n := 13) (S := fun w' => w'.cell? ⟨gb388, 0, none⟩ = some (.int .i64 a1_0) ∧ w'.cell? ⟨gb388, 1, none⟩ = some (.int .i64 a1_1)) (ds := []) #[false,false,false,false,false,false,false,false,false,false,false,false,false] (by kernel_rfl) rfl rfl ⟨(blk_cell BK388.out 0).trans rfl, (blk_cell BK388.out 1).trans rfl⟩ (fun hHeld => ?_);refine with_tabW spec_l2Put.tab4 spec_l2Put.bits4 (fun HT_ HW_ => ?_)
   generalize w18.drew = w19 at BK388 HB HR397 HR410 hHeld ⊢
   refine pure_ (i := 1) (N := some 21) (v := ?_) (a' := ?_) #[false,true,false,false,false,false,false,false,false,false,false,false,false] rfl rfl (any_of HT_.out (by kernel_rfl)) (fun _ _ _ h => h) (Or.inl ⟨by rfl, ?_⟩) ?_ ?_
   rotate_left
   ·intro w'
    go_simp
    with_reducible rfl
   rotate_left
   ·exact aP
   refine pure_ (i := 2) (N := some 22) (v := ?_) (a' := ?_) #[false,true,true,false,false,false,false,false,false,false,false,false,false] rfl rfl (any_of HT_.out (by kernel_rfl)) (fun _ _ _ h => h) (Or.inl ⟨by rfl, ?_⟩) ?_ ?_
   rotate_left
   ·intro w'
    go_simp
    with_reducible rfl
   rotate_left
   ·exact aP
   refine pure_ (i := 3) (N := some 23) (v := ?_) (a' := ?_) #[false,true,true,true,false,false,false,false,false,false,false,false,false] rfl rfl (any_of HT_.out (by kernel_rfl)) (fun _ _ _ h => h) (Or.inl ⟨by rfl, ?_⟩) ?_ ?_
   rotate_left
   ·intro w'
    go_simp
    with_reducible rfl
   rotate_left
   ·exact aP
   refine pure_ (i := 8) (N := some 28) (v := ?_) (a' := ?_) #[false,true,true,true,false,false,false,false,true,false,false,false,false] rfl rfl (any_of HT_.out (by kernel_rfl)) (fun _ _ _ h => h) (Or.inl ⟨by rfl, ?_⟩) ?_ ?_
   rotate_left
   ·intro w'
    go_simp
    with_reducible rfl
   rotate_left
   ·exact aP
   refine pure_ (i := 9) (N := some 29) (v := ?_) (a' := ?_) #[false,true,true,true,false,false,false,false,true,true,false,false,false] rfl rfl (any_of HT_.out (by kernel_rfl)) (fun _ _ _ h => h) (Or.inl ⟨by rfl, ?_⟩) ?_ ?_
   rotate_left
   ·intro w'
    go_simp
    with_reducible rfl
   rotate_left
   ·exact aP
   refine pure_ (i := 10) (N := some 30) (v := ?_) (a' := ?_) #[false,true,true,true,false,false,false,false,true,true,true,false,false] rfl rfl (any_of HT_.out (by kernel_rfl)) (fun _ _ _ h => h) (Or.inl ⟨by rfl, ?_⟩) ?_ ?_
   rotate_left
   ·intro w'
    go_simp
    with_reducible rfl
   rotate_left
   ·exact aP
   refine take_ (i := 5) (N := some 25) (v := ?_) (a' := ?_) #[false,true,true,true,false,true,false,false,true,true,true,false,false] rfl rfl (take_ofW HT_.out HW_.out (by kernel_rfl)) (fun _ _ _ h => h) (Or.inl ⟨by rfl, ?_⟩) hHeld ?_ ?_
   rotate_left
   ·rintro w' ⟨s0, s1⟩
    go_simp
    with_reducible rfl
   rotate_left
   ·exact aP
   refine join_ (σ := Value × Value × Value) 3 #[true,true,true,true,true,true,true,false,true,true,true,false,false] (fun s_ => [(20, s_.1), (24, s_.2.1), (26, s_.2.2)]) (fun s_ w' => (w'.cell? ⟨gb388, 0, none⟩ = some (.int .i64 a1_0) ∧ w'.cell? ⟨gb388, 1, none⟩ = some (.int .i64 a1_1)) ∧ (Kd.R k119 119 w' w.heap.size (fun k_ => some k_ ≠ (s_.2.2 : Value).ownBlock ∧ k_ ≠ gb388) s_.2.1 y398) ∧ (Kd.R k119 119 w' w.heap.size (fun k_ => some k_ ≠ (s_.2.1 : Value).ownBlock ∧ k_ ≠ gb388) s_.2.2 y401) ∧ (w'.heap[gb388]? = some (.cells #[.int .i64 a1_0, .int .i64 a1_1] 119 (0, 0))) ∧ (Below w.heap.size w w')) ?_ ?_
   rotate_left
   ·intro hCont
    refine two_ (i := 0) (j := 6) (Ni := some 20) (Nj := some 26) #[true,true,true,true,false,true,false,false,true,true,true,false,false] #[false,true,true,true,false,true,true,false,true,true,true,false,false] rfl rfl rfl rfl (two_of HT_.out (by kernel_rfl)) (by decide) (by decide) (fun K hK => ?_) (fun K hK => ?_)
    ·skip
     refine Kd.R_lit_step k119 _ 119 ?hg (N := 20) ?hd (xs := ([] : List (S119))) (inner := []) (ok := fun _ => True) (okp := fun _ => True) ?hr ?hp (fun _ hk => hk) trivial (Below.refl _ _) (Nat.le_refl _) (by simp) ?_;(case hd => rfl);(case hg => rfl);(case hr => first | (go_simp;done) | (go_simp;rfl));(case hp => exact (Reps.none _ _))
     intro v392 w22 ho23 hb hg_ hnew_
     clear hg_ hnew_
     (first | rw [← Ny391.out] at ho23 | (simp only [Int.reduceToNat] at ho23;rw [← Ny391.out] at ho23))
     have n0_ := aM (Kd.R_lower (Kd.R_newB ho23 (g := gb388) (o := .cells #[.int .i64 a1_0, .int .i64 a1_1] 119 (0, 0)) (by exact kP BK388.out)) (below_size (by exact bB)))
     have n1_ := aM (kB hb BK388.out)
     have n2_ := aM (below_step (by exact bB) hb)
     clear BK388
     clear HB
     have HO393 := n0_
     have BK388 := n1_
     have HB := n2_
     clear n0_ n1_ n2_
     clear hb ho23
     refine hK.out _ _ ⟨(blk_cell BK388.out 0).trans rfl, (blk_cell BK388.out 1).trans rfl⟩ (fun hHeld => ?_)
     clear hK K
     refine norm_ (a' := ?_) ?_ ?_
     rotate_left
     ·show Act.put _ (some 20) _ = _
      simp only [Act.put, List.setIfInBounds_toArray, List.set_cons_zero, List.set_cons_succ, i64_w, i32_w]
      rfl
     refine two_ (i := 4) (j := 6) (Ni := some 24) (Nj := some 26) #[true,true,true,true,true,true,false,false,true,true,true,false,false] #[true,true,true,true,false,true,true,false,true,true,true,false,false] rfl rfl rfl rfl (two_of HT_.out (by kernel_rfl)) (by decide) (by decide) (fun K hK => ?_) (fun K hK => ?_)
     ·skip
      refine Kd.R_append_rows_step k119 (w0 := w) w.heap.size (by rfl) (.tmp 20) (.tmp 23) 22 119 (.agg #[(.int .i64 0), (.int .i64 0)]) 16 rfl Try.underlying22 info119 rfl (by decide) (by omega) v392 y391 y394 _ _ _ (fun k_ => k_ ≠ gb388) (fun _ => False) rfl rfl ?aO ?aR (fun _ _ h => h) (fun _ h => h.elim) ?aF ?aB ?aS ?aL ?_
      (case aR => exact cP (Kd.C_below HR397.out HB.out))
      (case aB => exact (by exact bB))
      (case aF => exact (fun k_ hk => Kd.freshB (g := gb388) (o := .cells #[.int .i64 a1_0, .int .i64 a1_1] 119 (0, 0)) (by exact kP BK388.out) k_ hk))
      (case aO => exact (by refine rP ?_;exact Kd.R_mono HO393.out (fun _ hk => hk.2)))
      (case aS => exact (below_size (by exact bB)))
      (case aL => have := LMc12.out;omega)
      intro v399 w24 ho hb hg hat
      rw [← Ny398.out] at ho
      have n0_ := aM (blk_grown (g := gb388) (o := .cells #[.int .i64 a1_0, .int .i64 a1_1] 119 (0, 0)) (by exact kP BK388.out) hg (Kd.R_away HO393.out (fun _ hk => hk.2)))
      have n1_ := aM (hb)
      have n2_ := aM (ho)
      clear BK388
      clear HB
      clear HO393
      have BK388 := n0_
      have HB := n1_
      have HO400 := n2_
      clear n0_ n1_ n2_
      clear ho hb hg hat
      refine hK.out _ _ ⟨(blk_cell BK388.out 0).trans rfl, (blk_cell BK388.out 1).trans rfl⟩ (fun hHeld => ?_)
      clear hK K
      refine norm_ (a' := ?_) ?_ ?_
      rotate_left
      ·show Act.put _ (some 24) _ = _
       simp only [Act.put, List.setIfInBounds_toArray, List.set_cons_zero, List.set_cons_succ, i64_w, i32_w]
       rfl
      refine one_ (i := 6) (N := some 26) #[true,true,true,true,true,true,true,false,true,true,true,false,false] rfl rfl (one_of HT_.out (by kernel_rfl)) (by decide) (fun K hK => ?_)
      refine Kd.R_lit_step k119 _ 119 ?hg (N := 26) ?hd (xs := ([(⟨a1_0, a1_1⟩ : S119)] : List (S119))) (inner := [.int .i64 a1_0, .int .i64 a1_1]) (ok := fun _ => True) (okp := fun _ => True) ?hr ?hp (fun _ hk => hk) trivial (Below.refl _ _) (Nat.le_refl _) (by simp) ?_;(case hd => rfl);(case hg => rfl);(case hr => first | (go_simp;done) | (go_simp;rfl));(case hp => exact (Reps.c2 (show Kd.M k119 _ _ _ (⟨a1_0, a1_1⟩ : S119) [.int .i64 a1_0, .int .i64 a1_1] from (k119_mkM _ _ _ (⟨a1_0, a1_1⟩ : S119) )) (Reps.none _ _)))
      intro v402 w25 ho26 hb hg_ hnew_
      clear hg_ hnew_
      (first | rw [← Ny401.out] at ho26 | (simp only [Int.reduceToNat] at ho26;rw [← Ny401.out] at ho26))
      have n0_ := aM (Kd.R_elder' (by exact rP HO400.out) (Kd.R_base ho26) hb)
      have n1_ := aM (Kd.R_lower (Kd.R_newB (Kd.R_new' ho26 (Kd.R_lt (by exact rP HO400.out))) (g := gb388) (o := .cells #[.int .i64 a1_0, .int .i64 a1_1] 119 (0, 0)) (by exact kP BK388.out)) (below_size (by exact bB)))
      have n2_ := aM (kB hb BK388.out)
      have n3_ := aM (below_step (by exact bB) hb)
      clear HO400
      clear BK388
      clear HB
      have HO400 := n0_
      have HO403 := n1_
      have BK388 := n2_
      have HB := n3_
      clear n0_ n1_ n2_ n3_
      clear hb ho26
      refine hK.out _ _ ⟨(blk_cell BK388.out 0).trans rfl, (blk_cell BK388.out 1).trans rfl⟩ (fun hHeld => ?_)
      clear hK K
      refine norm_ (a' := ?_) ?_ ?_
      rotate_left
      ·show Act.put _ (some 26) _ = _
       simp only [Act.put, List.setIfInBounds_toArray, List.set_cons_zero, List.set_cons_succ, i64_w, i32_w]
       rfl
      exact norm_ (by simp only [putAll, Act.put, List.setIfInBounds_toArray, List.set_cons_zero, List.set_cons_succ]) (hCont (v392, v399, v402) _ ⟨hHeld, (by refine rP ?_;exact Kd.R_mono HO400.out (fun _ hk => ⟨hk.2, hk.1⟩)), (by refine rP ?_;exact Kd.R_mono HO403.out (fun _ hk => ⟨hk.1.2, hk.2⟩)), (by exact kP BK388.out), (by exact bB)⟩)
     ·skip
      refine Kd.R_lit_step k119 _ 119 ?hg (N := 26) ?hd (xs := ([(⟨a1_0, a1_1⟩ : S119)] : List (S119))) (inner := [.int .i64 a1_0, .int .i64 a1_1]) (ok := fun _ => True) (okp := fun _ => True) ?hr ?hp (fun _ hk => hk) trivial (Below.refl _ _) (Nat.le_refl _) (by simp) ?_;(case hd => rfl);(case hg => rfl);(case hr => first | (go_simp;done) | (go_simp;rfl));(case hp => exact (Reps.c2 (show Kd.M k119 _ _ _ (⟨a1_0, a1_1⟩ : S119) [.int .i64 a1_0, .int .i64 a1_1] from (k119_mkM _ _ _ (⟨a1_0, a1_1⟩ : S119) )) (Reps.none _ _)))
      intro v402 w24 ho25 hb hg_ hnew_
      clear hg_ hnew_
      (first | rw [← Ny401.out] at ho25 | (simp only [Int.reduceToNat] at ho25;rw [← Ny401.out] at ho25))
      have n0_ := aM (Kd.R_elder' (by exact rP HO393.out) (Kd.R_base ho25) hb)
      have n1_ := aM (Kd.R_lower (Kd.R_newB (Kd.R_new' ho25 (Kd.R_lt (by exact rP HO393.out))) (g := gb388) (o := .cells #[.int .i64 a1_0, .int .i64 a1_1] 119 (0, 0)) (by exact kP BK388.out)) (below_size (by exact bB)))
      have n2_ := aM (kB hb BK388.out)
      have n3_ := aM (below_step (by exact bB) hb)
      clear HO393
      clear BK388
      clear HB
      have HO393 := n0_
      have HO403 := n1_
      have BK388 := n2_
      have HB := n3_
      clear n0_ n1_ n2_ n3_
      clear hb ho25
      refine hK.out _ _ ⟨(blk_cell BK388.out 0).trans rfl, (blk_cell BK388.out 1).trans rfl⟩ (fun hHeld => ?_)
      clear hK K
      refine norm_ (a' := ?_) ?_ ?_
      rotate_left
      ·show Act.put _ (some 26) _ = _
       simp only [Act.put, List.setIfInBounds_toArray, List.set_cons_zero, List.set_cons_succ, i64_w, i32_w]
       rfl
      refine one_ (i := 4) (N := some 24) #[true,true,true,true,true,true,true,false,true,true,true,false,false] rfl rfl (one_of HT_.out (by kernel_rfl)) (by decide) (fun K hK => ?_)
      refine Kd.R_append_rows_step k119 (w0 := w) w.heap.size (by rfl) (.tmp 20) (.tmp 23) 22 119 (.agg #[(.int .i64 0), (.int .i64 0)]) 16 rfl Try.underlying22 info119 rfl (by decide) (by omega) v392 y391 y394 _ _ _ (fun k_ => some k_ ≠ (v402 : Value).ownBlock ∧ k_ ≠ gb388) (fun _ => False) rfl rfl ?aO ?aR (fun _ _ h => h) (fun _ h => h.elim) ?aF ?aB ?aS ?aL ?_
      (case aR => exact cP (Kd.C_below HR397.out HB.out))
      (case aB => exact (by exact bB))
      (case aF => exact (fun k_ hk => ⟨Kd.fresh' (Kd.R_lt (by exact rP HO403.out)) k_ hk, Kd.freshB (g := gb388) (o := .cells #[.int .i64 a1_0, .int .i64 a1_1] 119 (0, 0)) (by exact kP BK388.out) k_ hk⟩))
      (case aO => exact (by refine rP ?_;exact Kd.R_mono HO393.out (fun _ hk => ⟨hk.2, hk.1.2⟩)))
      (case aS => exact (below_size (by exact bB)))
      (case aL => have := LMc12.out;omega)
      intro v399 w26 ho hb hg hat
      rw [← Ny398.out] at ho
      have n0_ := aM (blk_grown (g := gb388) (o := .cells #[.int .i64 a1_0, .int .i64 a1_1] 119 (0, 0)) (by exact kP BK388.out) hg (Kd.R_away HO393.out (fun _ hk => hk.1.2)))
      have n1_ := aM (Kd.R_after (ok := (fun k_ => k_ ≠ gb388)) (by exact rP (Kd.R_mono HO403.out (fun _ hk => ⟨hk.2, hk.1.2⟩))) hg hat)
      have n2_ := aM (hb)
      have n3_ := aM (ho)
      clear BK388
      clear HO403
      clear HB
      clear HO393
      have BK388 := n0_
      have HO403 := n1_
      have HB := n2_
      have HO400 := n3_
      clear n0_ n1_ n2_ n3_
      clear ho hb hg hat
      refine hK.out _ _ ⟨(blk_cell BK388.out 0).trans rfl, (blk_cell BK388.out 1).trans rfl⟩ (fun hHeld => ?_)
      clear hK K
      refine norm_ (a' := ?_) ?_ ?_
      rotate_left
      ·show Act.put _ (some 24) _ = _
       simp only [Act.put, List.setIfInBounds_toArray, List.set_cons_zero, List.set_cons_succ, i64_w, i32_w]
       rfl
      exact norm_ (by simp only [putAll, Act.put, List.setIfInBounds_toArray, List.set_cons_zero, List.set_cons_succ]) (hCont (v392, v399, v402) _ ⟨hHeld, (by exact rP HO400.out), (by refine rP ?_;exact Kd.R_mono HO403.out (fun _ hk => ⟨hk.2, hk.1⟩)), (by exact kP BK388.out), (by exact bB)⟩)
    ·skip
     refine Kd.R_lit_step k119 _ 119 ?hg (N := 26) ?hd (xs := ([(⟨a1_0, a1_1⟩ : S119)] : List (S119))) (inner := [.int .i64 a1_0, .int .i64 a1_1]) (ok := fun _ => True) (okp := fun _ => True) ?hr ?hp (fun _ hk => hk) trivial (Below.refl _ _) (Nat.le_refl _) (by simp) ?_;(case hd => rfl);(case hg => rfl);(case hr => first | (go_simp;done) | (go_simp;rfl));(case hp => exact (Reps.c2 (show Kd.M k119 _ _ _ (⟨a1_0, a1_1⟩ : S119) [.int .i64 a1_0, .int .i64 a1_1] from (k119_mkM _ _ _ (⟨a1_0, a1_1⟩ : S119) )) (Reps.none _ _)))
     intro v402 w22 ho23 hb hg_ hnew_
     clear hg_ hnew_
     (first | rw [← Ny401.out] at ho23 | (simp only [Int.reduceToNat] at ho23;rw [← Ny401.out] at ho23))
     have n0_ := aM (Kd.R_lower (Kd.R_newB ho23 (g := gb388) (o := .cells #[.int .i64 a1_0, .int .i64 a1_1] 119 (0, 0)) (by exact kP BK388.out)) (below_size (by exact bB)))
     have n1_ := aM (kB hb BK388.out)
     have n2_ := aM (below_step (by exact bB) hb)
     clear BK388
     clear HB
     have HO403 := n0_
     have BK388 := n1_
     have HB := n2_
     clear n0_ n1_ n2_
     clear hb ho23
     refine hK.out _ _ ⟨(blk_cell BK388.out 0).trans rfl, (blk_cell BK388.out 1).trans rfl⟩ (fun hHeld => ?_)
     clear hK K
     refine norm_ (a' := ?_) ?_ ?_
     rotate_left
     ·show Act.put _ (some 26) _ = _
      simp only [Act.put, List.setIfInBounds_toArray, List.set_cons_zero, List.set_cons_succ, i64_w, i32_w]
      rfl
     refine one_ (i := 0) (N := some 20) #[true,true,true,true,false,true,true,false,true,true,true,false,false] rfl rfl (one_of HT_.out (by kernel_rfl)) (by decide) (fun K hK => ?_)
     refine Kd.R_lit_step k119 _ 119 ?hg (N := 20) ?hd (xs := ([] : List (S119))) (inner := []) (ok := fun _ => True) (okp := fun _ => True) ?hr ?hp (fun _ hk => hk) trivial (Below.refl _ _) (Nat.le_refl _) (by simp) ?_;(case hd => rfl);(case hg => rfl);(case hr => first | (go_simp;done) | (go_simp;rfl));(case hp => exact (Reps.none _ _))
     intro v392 w24 ho25 hb hg_ hnew_
     clear hg_ hnew_
     (first | rw [← Ny391.out] at ho25 | (simp only [Int.reduceToNat] at ho25;rw [← Ny391.out] at ho25))
     have n0_ := aM (Kd.R_elder' (by exact rP HO403.out) (Kd.R_base ho25) hb)
     have n1_ := aM (Kd.R_lower (Kd.R_newB (Kd.R_new' ho25 (Kd.R_lt (by exact rP HO403.out))) (g := gb388) (o := .cells #[.int .i64 a1_0, .int .i64 a1_1] 119 (0, 0)) (by exact kP BK388.out)) (below_size (by exact bB)))
     have n2_ := aM (kB hb BK388.out)
     have n3_ := aM (below_step (by exact bB) hb)
     clear HO403
     clear BK388
     clear HB
     have HO403 := n0_
     have HO393 := n1_
     have BK388 := n2_
     have HB := n3_
     clear n0_ n1_ n2_ n3_
     clear hb ho25
     refine hK.out _ _ ⟨(blk_cell BK388.out 0).trans rfl, (blk_cell BK388.out 1).trans rfl⟩ (fun hHeld => ?_)
     clear hK K
     refine norm_ (a' := ?_) ?_ ?_
     rotate_left
     ·show Act.put _ (some 20) _ = _
      simp only [Act.put, List.setIfInBounds_toArray, List.set_cons_zero, List.set_cons_succ, i64_w, i32_w]
      rfl
     refine one_ (i := 4) (N := some 24) #[true,true,true,true,true,true,true,false,true,true,true,false,false] rfl rfl (one_of HT_.out (by kernel_rfl)) (by decide) (fun K hK => ?_)
     refine Kd.R_append_rows_step k119 (w0 := w) w.heap.size (by rfl) (.tmp 20) (.tmp 23) 22 119 (.agg #[(.int .i64 0), (.int .i64 0)]) 16 rfl Try.underlying22 info119 rfl (by decide) (by omega) v392 y391 y394 _ _ _ (fun k_ => some k_ ≠ (v402 : Value).ownBlock ∧ k_ ≠ gb388) (fun _ => False) rfl rfl ?aO ?aR (fun _ _ h => h) (fun _ h => h.elim) ?aF ?aB ?aS ?aL ?_
     (case aR => exact cP (Kd.C_below HR397.out HB.out))
     (case aB => exact (by exact bB))
     (case aF => exact (fun k_ hk => ⟨Kd.fresh' (Kd.R_lt (by exact rP HO403.out)) k_ hk, Kd.freshB (g := gb388) (o := .cells #[.int .i64 a1_0, .int .i64 a1_1] 119 (0, 0)) (by exact kP BK388.out) k_ hk⟩))
     (case aO => exact (by refine rP ?_;exact Kd.R_mono HO393.out (fun _ hk => ⟨hk.1.2, hk.2⟩)))
     (case aS => exact (below_size (by exact bB)))
     (case aL => have := LMc12.out;omega)
     intro v399 w26 ho hb hg hat
     rw [← Ny398.out] at ho
     have n0_ := aM (blk_grown (g := gb388) (o := .cells #[.int .i64 a1_0, .int .i64 a1_1] 119 (0, 0)) (by exact kP BK388.out) hg (Kd.R_away HO393.out (fun _ hk => hk.2)))
     have n1_ := aM (Kd.R_after (ok := (fun k_ => k_ ≠ gb388)) (by exact rP (Kd.R_mono HO403.out (fun _ hk => ⟨hk.1.2, hk.2⟩))) hg hat)
     have n2_ := aM (hb)
     have n3_ := aM (ho)
     clear BK388
     clear HO403
     clear HB
     clear HO393
     have BK388 := n0_
     have HO403 := n1_
     have HB := n2_
     have HO400 := n3_
     clear n0_ n1_ n2_ n3_
     clear ho hb hg hat
     refine hK.out _ _ ⟨(blk_cell BK388.out 0).trans rfl, (blk_cell BK388.out 1).trans rfl⟩ (fun hHeld => ?_)
     clear hK K
     refine norm_ (a' := ?_) ?_ ?_
     rotate_left
     ·show Act.put _ (some 24) _ = _
      simp only [Act.put, List.setIfInBounds_toArray, List.set_cons_zero, List.set_cons_succ, i64_w, i32_w]
      rfl
     exact norm_ (by simp only [putAll, Act.put, List.setIfInBounds_toArray, List.set_cons_zero, List.set_cons_succ]) (hCont (v392, v399, v402) _ ⟨hHeld, (by exact rP HO400.out), (by refine rP ?_;exact Kd.R_mono HO403.out (fun _ hk => ⟨hk.2, hk.1⟩)), (by exact kP BK388.out), (by exact bB)⟩)
   rintro ⟨v392, v399, v402⟩ w27 ⟨hS_, h0_, h1_, h2_, h3_⟩
   have n0_ : Aside0 (Kd.R k119 119 w27 w.heap.size (fun k_ => some k_ ≠ (v402 : Value).ownBlock ∧ k_ ≠ gb388) v399 y398) := ⟨h0_⟩
   have n1_ : Aside0 (Kd.R k119 119 w27 w.heap.size (fun k_ => some k_ ≠ (v399 : Value).ownBlock ∧ k_ ≠ gb388) v402 y401) := ⟨h1_⟩
   have n2_ : Aside0 (w27.heap[gb388]? = some (.cells #[.int .i64 a1_0, .int .i64 a1_1] 119 (0, 0))) := ⟨h2_⟩
   have n3_ : Aside0 (Below w.heap.size w w27) := ⟨h3_⟩
   clear BK388
   clear HB
   clear h0_ h1_ h2_ h3_
   have HO400 := n0_
   have HO403 := n1_
   have BK388 := n2_
   have HB := n3_
   clear n0_ n1_ n2_ n3_
   have hHeld : w27.cell? ⟨gb388, 0, none⟩ = some (.int .i64 a1_0) ∧ w27.cell? ⟨gb388, 1, none⟩ = some (.int .i64 a1_1) := hS_
   obtain ⟨Ao29, co29, eo29⟩ := Kd.R_slice HO403.out
   (first | subst eo29 | (injection eo29 with f1_ f2_ f3_;have f4_ := f1_.symm;have f5_ := f3_.symm;clear f1_ f2_ f3_;subst f4_;subst f5_))
   refine norm_ (a' := ?_) ?_ ?_
   rotate_left
   ·simp only [putAll, Act.put, List.setIfInBounds_toArray, List.set_cons_zero, List.set_cons_succ]
    rfl
   refine one_ (i := 7) (N := some 27) #[true,true,true,true,true,true,true,true,true,true,true,false,false] rfl rfl (one_of HT_.out (by kernel_rfl)) (by decide) (fun K hK => ?_)
   refine Kd.R_append_rows_step k119 (w0 := w) w.heap.size (by rfl) (.tmp 24) (.tmp 26) 22 119 (.agg #[(.int .i64 0), (.int .i64 0)]) 16 rfl Try.underlying22 info119 rfl (by decide) (by omega) v399 y398 y401 _ _ _ (fun k_ => some k_ ≠ (.slice Ao29 y401.length co29 : Value).ownBlock ∧ k_ ≠ gb388) (fun _ => False) rfl rfl ?aO ?aR (fun _ _ h => h) (fun _ h => h.elim) ?aF ?aB ?aS ?aL ?_
   (case aR => exact cP (Kd.R_reads' HO403.out).2.2)
   (case aB => exact (by exact bB))
   (case aF => exact (fun k_ hk => ⟨Kd.fresh' (Kd.R_lt (by exact rP HO403.out)) k_ hk, Kd.freshB (g := gb388) (o := .cells #[.int .i64 a1_0, .int .i64 a1_1] 119 (0, 0)) (by exact kP BK388.out) k_ hk⟩))
   (case aO => exact (by exact rP HO400.out))
   (case aS => exact (below_size (by exact bB)))
   (case aL => have := LMc13.out;omega)
   intro v405 w28 ho hb hg hat
   rw [← Ny404.out] at ho
   have n0_ := aM (blk_grown (g := gb388) (o := .cells #[.int .i64 a1_0, .int .i64 a1_1] 119 (0, 0)) (by exact kP BK388.out) hg (Kd.R_away HO400.out (fun _ hk => hk.2)))
   have n1_ := aM (Kd.R_after (ok := (fun k_ => k_ ≠ gb388)) (by exact rP (Kd.R_mono HO403.out (fun _ hk => ⟨hk.2, hk.1⟩))) hg hat)
   have n2_ := aM (hb)
   have n3_ := aM (ho)
   clear BK388
   clear HO403
   clear HB
   clear HO400
   have BK388 := n0_
   have HO403 := n1_
   have HB := n2_
   have HO406 := n3_
   clear n0_ n1_ n2_ n3_
   clear ho hb hg hat
   refine hK.out _ _ ⟨(blk_cell BK388.out 0).trans rfl, (blk_cell BK388.out 1).trans rfl⟩ (fun hHeld => ?_)
   clear hK K
   refine norm_ (a' := ?_) ?_ ?_
   rotate_left
   ·show Act.put _ (some 27) _ = _
    simp only [Act.put, List.setIfInBounds_toArray, List.set_cons_zero, List.set_cons_succ, i64_w, i32_w]
    rfl
   refine one_ (i := 11) (N := some 31) #[true,true,true,true,true,true,true,true,true,true,true,true,false] rfl rfl (one_of HT_.out (by kernel_rfl)) (by decide) (fun K hK => ?_)
   refine Kd.R_append_rows_step k119 (w0 := w) w.heap.size (by rfl) (.tmp 27) (.tmp 30) 22 119 (.agg #[(.int .i64 0), (.int .i64 0)]) 16 rfl Try.underlying22 info119 rfl (by decide) (by omega) v405 y404 y407 _ _ _ (fun k_ => some k_ ≠ (.slice Ao29 y401.length co29 : Value).ownBlock ∧ k_ ≠ gb388) (fun _ => False) rfl rfl ?aO ?aR (fun _ _ h => h) (fun _ h => h.elim) ?aF ?aB ?aS ?aL ?_
   (case aR => exact cP (Kd.C_below HR410.out HB.out))
   (case aB => exact (by exact bB))
   (case aF => exact (fun k_ hk => ⟨Kd.fresh' (Kd.R_lt (by exact rP HO403.out)) k_ hk, Kd.freshB (g := gb388) (o := .cells #[.int .i64 a1_0, .int .i64 a1_1] 119 (0, 0)) (by exact kP BK388.out) k_ hk⟩))
   (case aO => exact (by exact rP HO406.out))
   (case aS => exact (below_size (by exact bB)))
   (case aL => have := LMc16.out;omega)
   intro v412 w30 ho hb hg hat
   rw [← Ny411.out] at ho
   have n0_ := aM (blk_grown (g := gb388) (o := .cells #[.int .i64 a1_0, .int .i64 a1_1] 119 (0, 0)) (by exact kP BK388.out) hg (Kd.R_away HO406.out (fun _ hk => hk.2)))
   have n1_ := aM (Kd.R_after (ok := (fun k_ => k_ ≠ gb388)) (by exact rP HO403.out) hg hat)
   have n2_ := aM (hb)
   have n3_ := aM (ho)
   clear BK388
   clear HO403
   clear HB
   clear HO406
   have BK388 := n0_
   have HO403 := n1_
   have HB := n2_
   have HO413 := n3_
   clear n0_ n1_ n2_ n3_
   clear ho hb hg hat
   refine hK.out _ _ ⟨(blk_cell BK388.out 0).trans rfl, (blk_cell BK388.out 1).trans rfl⟩ (fun hHeld => ?_)
   clear hK K
   refine norm_ (a' := ?_) ?_ ?_
   rotate_left
   ·show Act.put _ (some 31) _ = _
    simp only [Act.put, List.setIfInBounds_toArray, List.set_cons_zero, List.set_cons_succ, i64_w, i32_w]
    rfl
   refine pure_ (i := 12) (N := some 4) (v := ?_) (a' := ?_) #[true,true,true,true,true,true,true,true,true,true,true,true,true] rfl rfl (any_of HT_.out (by kernel_rfl)) (fun _ _ _ h => h) (Or.inl ⟨by rfl, ?_⟩) ?_ ?_
   rotate_left
   ·intro w'
    go_simp
    with_reducible rfl
   rotate_left
   ·exact aP
   refine done_ (done_of HT_.out (by kernel_rfl)) ?_
   try go_wp2
   go_ret
   exact ⟨_, by first | rfl | (simp [errW_none, errW_some] <;> rfl) | (simp [*, errW_none, errW_some] <;> rfl), by refine rP ?_;exact Kd.R_mono HO413.out (fun _ hk => trivial), by exact bB⟩


end Go.Proofs.Ytmokkhfmbenleaa.QSpreading
