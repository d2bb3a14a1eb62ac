import Derived.Test.YtmokkhfmbenleaaQSpreading0
namespace Go.Proofs.Ytmokkhfmbenleaa.QSpreading
open Go.RowKit Go.Proofs.YtmokkhfmbenleaaW.PrintWords Go.Proofs.YtmokkhfmbenleaaW.PrintLast Go.Proofs.YtmokkhfmbenleaaW.PrintMore
attribute [local go_sem] max2_int min2_int max_two min_two max_three min_three max_four min_four   -- for this text's walks alone
set_option linter.unusedVariables false
set_option linter.unusedSimpArgs false
/-! ### spec_l1Put: by hand (the walk of its last statement as the printer lays it) -/
def spec_l1PutE.l0 : Nat → List Int → Int → Int → Option (List Int)
 | 0, _, _, _ => none
 | k + 1, x0, x1, x5 => if x5 < (x0.length : Int) then (if 0 ≤ x5 then (if (rd x0 x5) < x1 then (spec_l1PutE.l0 k x0 x1 (wrap64 (x5 + 1))) else (if (rd x0 x5) = x1 then (some x0) else ((some (([] : List Int) : List Int)).bind fun y103 => (if x5 ≤ (x0.length : Int) then (if y103.length + (x0.take (x5 : Int).toNat).length < 17592186044416 then ((some (y103 ++ (x0.take (x5 : Int).toNat) : List Int)).bind fun y107 => ((some (([x1] : List Int) : List Int)).bind fun y110 => (if y107.length + y110.length < 17592186044416 then ((some (y107 ++ y110 : List Int)).bind fun y113 => (if y113.length + (x0.drop (x5 : Int).toNat).length < 17592186044416 then (some (y113 ++ (x0.drop (x5 : Int).toNat))) else (none))) else (none)))) else (none)) else (none))))) else (none)) else ((some (([] : List Int) : List Int)).bind fun y120 => (if 0 ≤ x5 then (if x5 ≤ (x0.length : Int) then (if y120.length + (x0.take (x5 : Int).toNat).length < 17592186044416 then ((some (y120 ++ (x0.take (x5 : Int).toNat) : List Int)).bind fun y124 => ((some (([x1] : List Int) : List Int)).bind fun y127 => (if y124.length + y127.length < 17592186044416 then ((some (y124 ++ y127 : List Int)).bind fun y130 => (if y130.length + (x0.drop (x5 : Int).toNat).length < 17592186044416 then (some (y130 ++ (x0.drop (x5 : Int).toNat))) else (none))) else (none)))) else (none)) else (none)) else (none)))
def spec_l1PutE.f (k : Nat) (l0 : List Int) (a1 : Int) : Option (List Int) := spec_l1PutE.l0 k l0 a1 0
theorem spec_l1PutE.mono_l : ∀ k, (∀ y0 y1 y2, LeO (spec_l1PutE.l0 k y0 y1 y2) (spec_l1PutE.l0 (k + 1) y0 y1 y2))
 | 0 => fun _ _ _ r h => by simp [spec_l1PutE.l0] at h
 | k + 1 => by
  have ih0 := spec_l1PutE.mono_l k
  ·intro y0 y1 y2
   unfold spec_l1PutE.l0
   repeat' first
   | (with_reducible exact ih0 _ _ _)
   | (with_reducible exact LeO.refl _)
   | (with_reducible exact LeO.none _)
   | (with_reducible refine LeO.ite ?_ ?_)
   | (with_reducible refine LeO.bind ?_ (fun _ => ?_))
   | exact LeO.none _
   | refine LeO.ite ?_ ?_
   | refine LeO.bind ?_ (fun _ => ?_)
theorem spec_l1PutE.mono : ∀ a0 a1 k, LeO (spec_l1PutE.f k a0 a1) (spec_l1PutE.f (k + 1) a0 a1) := by
 intro a0 a1 k
 have ih0 := spec_l1PutE.mono_l k
 unfold spec_l1PutE.f
 repeat' first
   | (with_reducible exact ih0 _ _ _)
   | (with_reducible exact LeO.refl _)
   | (with_reducible exact LeO.none _)
   | (with_reducible refine LeO.ite ?_ ?_)
   | (with_reducible refine LeO.bind ?_ (fun _ => ?_))
   | exact LeO.none _
   | refine LeO.ite ?_ ?_
   | refine LeO.bind ?_ (fun _ => ?_)
def spec_l1PutE.T6 : Bool × List (List Nat × List Nat) := (true, [([], []), ([], []), ([], []), ([1, 2], [1, 2]), ([0, 3], [0, 3]), ([], []), ([5], [5]), ([4, 6, 4], [4, 6]), ([], []), ([], []), ([8, 9], [8, 9]), ([7, 10, 7], [7, 10]), ([11, 11, 0, 1, 2, 3, 4, 5, 6, 7, 8, 9, 10, 11], [11])])
def spec_l1PutE.B6 : List Nat := [0, 0, 0, 6, 15, 0, 32, 127, 0, 0, 768, 2047, 4095]
theorem spec_l1PutE.tab6 : rtab .any (opsOf Try.f144 6) = spec_l1PutE.T6 := by kernel_rfl
theorem spec_l1PutE.bits6 : waitsOk spec_l1PutE.T6.2 spec_l1PutE.B6 = true := by kernel_rfl
def L1P (A0 : Option Addr) (c0 : Nat) (l0 r : List Int) (w : World) (v0_ : Value) (w' : World) : Prop := (v0_ = .slice A0 l0.length c0 ∧ r = l0) ∨ Kd.R (Kd.int .i64) 3 w' w.heap.size (fun _ => True) v0_ r
set_option maxHeartbeats 8000000 in
set_option maxRecDepth 100000 in
theorem spec_l1PutE.calls (k : Nat) (A0 : Option Addr) (c0 : Nat) (l0 : List Int) (a1 : Int) (r : List Int) (w : World) (hr0 : Kd.C (Kd.int .i64) w A0 l0.length l0) (hc0 : l0.length ≤ c0) (h : spec_l1PutE.f k l0 a1 = some r) :
  Calls Try.prog 144 #[.slice A0 l0.length c0, .int .i64 a1] w fun e w' => ∃ v0_ : Value, e = .returned (v0_) ∧ Below w.heap.size w w' ∧ L1P A0 c0 l0 r w v0_ w' := by
 have HR0 := Aside0.mk hr0
 have HC0 := Aside0.mk hc0
 clear hr0 hc0
 have HB := aM (Below.refl w.heap.size w)
 have H : (spec_l1PutE.l0 k l0 a1 0) = some r := h
 clear h
 have H' := Aside0.mk H
 clear H
 go_enter Try.func144, Try.ntmps144
 go_wp2
 go_loopg [5] k (fun kq v5 w' => ∃ (x5_1 : Int), v5 = .int .i64 x5_1 ∧ Aside0 (spec_l1PutE.l0 kq l0 a1 x5_1 = some r) ∧ Aside0 (kq ≤ k) ∧ Aside0 (Below w.heap.size w w'))
 case atStart => exact ⟨(0), (by first | rfl | (simp;done) | (simp [*];done)), H', ⟨Nat.le_refl _⟩, ⟨by exact bB⟩⟩
 case round =>
  clear H'
  try clear p2
  obtain ⟨x5_1, rfl, HA, HK1, HB⟩ := hrel
  cases gk with
  | zero => exact absurd HA.out (by simp [spec_l1PutE.l0])
  | succ k1 =>
   have H := HA.out
   clear HA
   simp only [spec_l1PutE.l0] at H
   by_cases c3 : x5_1 < (l0.length : Int)
   rotate_left
   ·rw [if_neg c3] at H
    have c3b0 : decide (x5_1 < (l0.length : Int)) = false := decide_eq_false c3
    clear c3
    obtain ⟨y120, hy120⟩ : ∃ y_ : List Int, y_ = (([] : List Int)) := ⟨_, rfl⟩
    replace H : (if 0 ≤ x5_1 then (if x5_1 ≤ (l0.length : Int) then (if y120.length + (l0.take (x5_1 : Int).toNat).length < 17592186044416 then ((some (y120 ++ (l0.take (x5_1 : Int).toNat) : List Int)).bind fun y124 => ((some (([a1] : List Int) : List Int)).bind fun y127 => (if y124.length + y127.length < 17592186044416 then ((some (y124 ++ y127 : List Int)).bind fun y130 => (if y130.length + (l0.drop (x5_1 : Int).toNat).length < 17592186044416 then (some (y130 ++ (l0.drop (x5_1 : Int).toNat))) else (none))) else (none)))) else (none)) else (none)) else (none)) = some r := by first | (rw [hy120];with_reducible exact H) | (have H2_ := (Option.bind_some _ _).symm.trans H;rw [hy120];with_reducible exact H2_) | (have H2_ := (Option.bind_some _ _).symm.trans H;with_reducible exact H2_) | with_reducible exact H | (rw [hy120];exact H) | exact H
    have Ny120 := Aside0.mk hy120
    clear hy120
    by_cases c26 : 0 ≤ x5_1
    rotate_left
    ·rw [if_neg c26] at H
     exact absurd H (by simp)
    rw [if_pos c26] at H
    have c26b0 := eq_true c26
    have c26b1 : decide (0 ≤ x5_1) = true := decide_eq_true c26
    clear c26
    by_cases c27 : x5_1 ≤ (l0.length : Int)
    rotate_left
    ·rw [if_neg c27] at H
     exact absurd H (by simp)
    rw [if_pos c27] at H
    have c27b0 := eq_true c27
    have c27b1 : decide (x5_1 ≤ (l0.length : Int)) = true := decide_eq_true c27
    clear c27
    by_cases c28 : y120.length + (l0.take (x5_1 : Int).toNat).length < 17592186044416
    rotate_left
    ·rw [if_neg c28] at H
     exact absurd H (by simp)
    rw [if_pos c28] at H
    have LMc28 := Aside0.mk c28
    clear c28
    obtain ⟨y124, hy124⟩ : ∃ y_ : List Int, y_ = (y120 ++ (l0.take (x5_1 : Int).toNat)) := ⟨_, rfl⟩
    replace H : ((some (([a1] : List Int) : List Int)).bind fun y127 => (if y124.length + y127.length < 17592186044416 then ((some (y124 ++ y127 : List Int)).bind fun y130 => (if y130.length + (l0.drop (x5_1 : Int).toNat).length < 17592186044416 then (some (y130 ++ (l0.drop (x5_1 : Int).toNat))) else (none))) else (none))) = some r := by first | (rw [hy124];with_reducible exact H) | (have H2_ := (Option.bind_some _ _).symm.trans H;rw [hy124];with_reducible exact H2_) | (have H2_ := (Option.bind_some _ _).symm.trans H;with_reducible exact H2_) | with_reducible exact H | (rw [hy124];exact H) | exact H
    have Ny124 := Aside0.mk hy124
    clear hy124
    obtain ⟨y127, hy127⟩ : ∃ y_ : List Int, y_ = (([a1] : List Int)) := ⟨_, rfl⟩
    replace H : (if y124.length + y127.length < 17592186044416 then ((some (y124 ++ y127 : List Int)).bind fun y130 => (if y130.length + (l0.drop (x5_1 : Int).toNat).length < 17592186044416 then (some (y130 ++ (l0.drop (x5_1 : Int).toNat))) else (none))) else (none)) = some r := by first | (rw [hy127];with_reducible exact H) | (have H2_ := (Option.bind_some _ _).symm.trans H;rw [hy127];with_reducible exact H2_) | (have H2_ := (Option.bind_some _ _).symm.trans H;with_reducible exact H2_) | with_reducible exact H | (rw [hy127];exact H) | exact H
    have Ny127 := Aside0.mk hy127
    clear hy127
    by_cases c29 : y124.length + y127.length < 17592186044416
    rotate_left
    ·rw [if_neg c29] at H
     exact absurd H (by simp)
    rw [if_pos c29] at H
    have LMc29 := Aside0.mk c29
    clear c29
    obtain ⟨y130, hy130⟩ : ∃ y_ : List Int, y_ = (y124 ++ y127) := ⟨_, rfl⟩
    replace H : (if y130.length + (l0.drop (x5_1 : Int).toNat).length < 17592186044416 then (some (y130 ++ (l0.drop (x5_1 : Int).toNat))) else (none)) = some r := by first | (rw [hy130];with_reducible exact H) | (have H2_ := (Option.bind_some _ _).symm.trans H;rw [hy130];with_reducible exact H2_) | (have H2_ := (Option.bind_some _ _).symm.trans H;with_reducible exact H2_) | with_reducible exact H | (rw [hy130];exact H) | exact H
    have Ny130 := Aside0.mk hy130
    clear hy130
    have c30b0 := eq_true (oA : 0 ≤ x5_1)
    have c31b0 := eq_true (oA : x5_1 ≤ (l0.length : Int))
    by_cases c32 : y130.length + (l0.drop (x5_1 : Int).toNat).length < 17592186044416
    rotate_left
    ·rw [if_neg c32] at H
     exact absurd H (by simp)
    rw [if_pos c32] at H
    have LMc32 := Aside0.mk c32
    clear c32
    obtain ⟨y134, hy134⟩ : ∃ y_ : List Int, y_ = (y130 ++ (l0.drop (x5_1 : Int).toNat)) := ⟨_, rfl⟩
    replace H : (some y134) = some r := by first | (rw [hy134];with_reducible exact H) | (have H2_ := (Option.bind_some _ _).symm.trans H;rw [hy134];with_reducible exact H2_) | (have H2_ := (Option.bind_some _ _).symm.trans H;with_reducible exact H2_) | with_reducible exact H | (rw [hy134];exact H) | exact H
    have Ny134 := Aside0.mk hy134
    clear hy134
    obtain rfl := Option.some.inj H
    try go_wp2
    have n0_ := aM (below_drew1 HB.out)
    clear HB
    have HB := n0_
    clear n0_
    obtain ⟨i034, hi034, _, hsz34, _⟩ := info_parts infoInt
    obtain ⟨hcut34, hA34, hC34⟩ := print_take_of (P := Try.prog) (Value.int .i64) 0 28 3 .i64 Try.underlying28 hi034 hsz34 A0 c0 l0 x5_1 (oA) (oA) HC0.out
    have HR123 := aM (Kd.C_of_reads (h1 := fun _ => rfl) (hA34 _ (Kd.reads_of_C HR0.out)))
    have HC123 := Aside0.mk hC34
    clear hA34 hC34 hi034 hsz34
    obtain ⟨i035, hi035, _, hsz35, _⟩ := info_parts infoInt
    obtain ⟨A35, hcut35, hA35, hC35⟩ := print_drop_of (P := Try.prog) (Value.int .i64) 0 28 3 .i64 Try.underlying28 hi035 hsz35 A0 c0 l0 x5_1 (oA) (oA) HC0.out
    have HR133 := aM (Kd.C_of_reads (h1 := fun _ => rfl) (hA35 _ (Kd.reads_of_C HR0.out)))
    have HC133 := Aside0.mk hC35
    clear hA35 hC35 hi035 hsz35
    refine start_ (n := 13) (S := fun w' => True) (ds := []) #[false,false,false,false,false,false,false,false,false,false,false,false,false] (by kernel_rfl) rfl rfl trivial (fun hHeld => ?_);refine with_tabW spec_l1PutE.tab6 spec_l1PutE.bits6 (fun HT_ HW_ => ?_)
    generalize wr.drew = w33 at HB HR123 HR133 hHeld ⊢
    refine pure_ (i := 1) (N := some 34) (v := ?_) (a' := ?_) #[false,true,false,false,false,false,false,false,false,false,false,false,false] rfl rfl (any_of HT_.out (by kernel_rfl)) (fun _ _ _ h => h) (Or.inl ⟨by rfl, ?_⟩) ?_ ?_
    rotate_left
    ·intro w'
     go_simp
     with_reducible rfl
    rotate_left
    ·exact aP
    refine pure_ (i := 2) (N := some 35) (v := ?_) (a' := ?_) #[false,true,true,false,false,false,false,false,false,false,false,false,false] rfl rfl (any_of HT_.out (by kernel_rfl)) (fun _ _ _ h => h) (Or.inl ⟨by rfl, ?_⟩) ?_ ?_
    rotate_left
    ·intro w'
     go_simp
     with_reducible rfl
    rotate_left
    ·exact aP
    refine pure_ (i := 3) (N := some 36) (v := ?_) (a' := ?_) #[false,true,true,true,false,false,false,false,false,false,false,false,false] rfl rfl (any_of HT_.out (by kernel_rfl)) (fun _ _ _ h => h) (Or.inl ⟨by rfl, ?_⟩) ?_ ?_
    rotate_left
    ·intro w'
     go_simp
     with_reducible rfl
    rotate_left
    ·exact aP
    refine pure_ (i := 5) (N := some 38) (v := ?_) (a' := ?_) #[false,true,true,true,false,true,false,false,false,false,false,false,false] rfl rfl (any_of HT_.out (by kernel_rfl)) (fun _ _ _ h => h) (Or.inl ⟨by rfl, ?_⟩) ?_ ?_
    rotate_left
    ·intro w'
     go_simp
     with_reducible rfl
    rotate_left
    ·exact aP
    refine pure_ (i := 8) (N := some 41) (v := ?_) (a' := ?_) #[false,true,true,true,false,true,false,false,true,false,false,false,false] rfl rfl (any_of HT_.out (by kernel_rfl)) (fun _ _ _ h => h) (Or.inl ⟨by rfl, ?_⟩) ?_ ?_
    rotate_left
    ·intro w'
     go_simp
     with_reducible rfl
    rotate_left
    ·exact aP
    refine pure_ (i := 9) (N := some 42) (v := ?_) (a' := ?_) #[false,true,true,true,false,true,false,false,true,true,false,false,false] rfl rfl (any_of HT_.out (by kernel_rfl)) (fun _ _ _ h => h) (Or.inl ⟨by rfl, ?_⟩) ?_ ?_
    rotate_left
    ·intro w'
     go_simp
     with_reducible rfl
    rotate_left
    ·exact aP
    refine pure_ (i := 10) (N := some 43) (v := ?_) (a' := ?_) #[false,true,true,true,false,true,false,false,true,true,true,false,false] rfl rfl (any_of HT_.out (by kernel_rfl)) (fun _ _ _ h => h) (Or.inl ⟨by rfl, ?_⟩) ?_ ?_
    rotate_left
    ·intro w'
     go_simp
     with_reducible rfl
    rotate_left
    ·exact aP
    refine join_ (σ := Value × Value × Value) 3 #[true,true,true,true,true,true,true,false,true,true,true,false,false] (fun s_ => [(33, s_.1), (37, s_.2.1), (39, s_.2.2)]) (fun s_ w' => (Kd.R (Kd.int .i64) 3 w' w.heap.size (fun k_ => some k_ ≠ (s_.2.2 : Value).ownBlock) s_.2.1 y124) ∧ (Kd.R (Kd.int .i64) 3 w' w.heap.size (fun k_ => some k_ ≠ (s_.2.1 : Value).ownBlock) s_.2.2 y127) ∧ (Below w.heap.size w w')) ?_ ?_
    rotate_left
    ·intro hCont
     refine two_ (i := 0) (j := 6) (Ni := some 33) (Nj := some 39) #[true,true,true,true,false,true,false,false,true,true,true,false,false] #[false,true,true,true,false,true,true,false,true,true,true,false,false] rfl rfl rfl rfl (two_of HT_.out (by kernel_rfl)) (by decide) (by decide) (fun K hK => ?_) (fun K hK => ?_)
     ·skip
      refine Kd.R_lit_step (Kd.int .i64) _ 3 ?hg (N := 33) ?hd (xs := ([] : List Int)) (inner := []) (ok := fun _ => True) (okp := fun _ => True) ?hr ?hp (fun _ hk => hk) trivial (Below.refl _ _) (Nat.le_refl _) (by simp) ?_;(case hd => rfl);(case hg => rfl);(case hr => first | (go_simp;done) | (go_simp;rfl));(case hp => exact (Reps.none _ _))
      intro v121 w36 ho37 hb hg_ hnew_
      clear hg_ hnew_
      (first | rw [← Ny120.out] at ho37 | (simp only [Int.reduceToNat] at ho37;rw [← Ny120.out] at ho37))
      have n0_ := aM (Kd.R_lower ho37 (below_size (by exact bB)))
      have n1_ := aM (below_step (by exact bB) hb)
      clear HB
      have HO122 := n0_
      have HB := n1_
      clear n0_ n1_
      clear hb ho37
      refine hK.out _ _ trivial (fun hHeld => ?_)
      clear hK K
      refine norm_ (a' := ?_) ?_ ?_
      rotate_left
      ·show Act.put _ (some 33) _ = _
       simp only [Act.put, List.setIfInBounds_toArray, List.set_cons_zero, List.set_cons_succ, i64_w, i32_w]
       rfl
      refine two_ (i := 4) (j := 6) (Ni := some 37) (Nj := some 39) #[true,true,true,true,true,true,false,false,true,true,true,false,false] #[true,true,true,true,false,true,true,false,true,true,true,false,false] rfl rfl rfl rfl (two_of HT_.out (by kernel_rfl)) (by decide) (by decide) (fun K hK => ?_) (fun K hK => ?_)
      ·skip
       refine Kd.R_append_rows_step (Kd.int .i64) (w0 := w) w.heap.size (by rfl) (.tmp 33) (.tmp 36) 28 3 (.int .i64 0) 8 rfl Try.underlying28 infoInt rfl (by decide) (by omega) v121 y120 (l0.take (x5_1 : Int).toNat) _ _ _ (fun _ => True) (fun _ => False) rfl rfl ?aO ?aR (fun _ _ h => h) (fun _ h => h.elim) ?aF ?aB ?aS ?aL ?_
       (case aR => have hz_ := Kd.C_below HR123.out HB.out;rw [show (l0.take (x5_1 : Int).toNat).length = x5_1.toNat from (by rw [List.length_take];have h_ : (x5_1 : Int) ≤ (l0.length : Int) := oA;omega)] at hz_;repeat (first | exact hz_ | (with_reducible refine Kd.C_alloc ?_ _) | (with_reducible refine Kd.C_drewN ?_ _) | (with_reducible refine Kd.C_drew ?_)))
       (case aB => exact (by exact bB))
       (case aF => exact (fun _ _ => trivial))
       (case aO => exact (by exact rP HO122.out))
       (case aS => exact (below_size (by exact bB)))
       (case aL => have := LMc28.out;have hlx_ := (show (l0.take (x5_1 : Int).toNat).length = x5_1.toNat from (by rw [List.length_take];have h_ : (x5_1 : Int) ≤ (l0.length : Int) := oA;omega));omega)
       intro v125 w38 ho hb hg hat
       rw [← Ny124.out] at ho
       have n0_ := aM (hb)
       have n1_ := aM (ho)
       clear HB
       clear HO122
       have HB := n0_
       have HO126 := n1_
       clear n0_ n1_
       clear ho hb hg hat
       refine hK.out _ _ trivial (fun hHeld => ?_)
       clear hK K
       refine norm_ (a' := ?_) ?_ ?_
       rotate_left
       ·show Act.put _ (some 37) _ = _
        simp only [Act.put, List.setIfInBounds_toArray, List.set_cons_zero, List.set_cons_succ, i64_w, i32_w]
        rfl
       refine one_ (i := 6) (N := some 39) #[true,true,true,true,true,true,true,false,true,true,true,false,false] rfl rfl (one_of HT_.out (by kernel_rfl)) (by decide) (fun K hK => ?_)
       refine Kd.R_lit_step (Kd.int .i64) _ 3 ?hg (N := 39) ?hd (xs := ([a1] : List Int)) (inner := [.int .i64 a1]) (ok := fun _ => True) (okp := fun _ => True) ?hr ?hp (fun _ hk => hk) trivial (Below.refl _ _) (Nat.le_refl _) (by simp) ?_;(case hd => rfl);(case hg => rfl);(case hr => first | (go_simp;done) | (go_simp;rfl));(case hp => exact (Reps.one (show Kd.M (Kd.int .i64) _ _ _ a1 [.int .i64 a1] from rfl) (Reps.none _ _)))
       intro v128 w39 ho40 hb hg_ hnew_
       clear hg_ hnew_
       (first | rw [← Ny127.out] at ho40 | (simp only [Int.reduceToNat] at ho40;rw [← Ny127.out] at ho40))
       have n0_ := aM (Kd.R_elder' (by exact rP HO126.out) (Kd.R_base ho40) hb)
       have n1_ := aM (Kd.R_lower (Kd.R_new' ho40 (Kd.R_lt (by exact rP HO126.out))) (below_size (by exact bB)))
       have n2_ := aM (below_step (by exact bB) hb)
       clear HO126
       clear HB
       have HO126 := n0_
       have HO129 := n1_
       have HB := n2_
       clear n0_ n1_ n2_
       clear hb ho40
       refine hK.out _ _ trivial (fun hHeld => ?_)
       clear hK K
       refine norm_ (a' := ?_) ?_ ?_
       rotate_left
       ·show Act.put _ (some 39) _ = _
        simp only [Act.put, List.setIfInBounds_toArray, List.set_cons_zero, List.set_cons_succ, i64_w, i32_w]
        rfl
       exact norm_ (by simp only [putAll, Act.put, List.setIfInBounds_toArray, List.set_cons_zero, List.set_cons_succ]) (hCont (v121, v125, v128) _ ⟨(by refine rP ?_;exact Kd.R_mono HO126.out (fun _ hk => hk.2)), (by refine rP ?_;exact Kd.R_mono HO129.out (fun _ hk => hk.2)), (by exact bB)⟩)
      ·skip
       refine Kd.R_lit_step (Kd.int .i64) _ 3 ?hg (N := 39) ?hd (xs := ([a1] : List Int)) (inner := [.int .i64 a1]) (ok := fun _ => True) (okp := fun _ => True) ?hr ?hp (fun _ hk => hk) trivial (Below.refl _ _) (Nat.le_refl _) (by simp) ?_;(case hd => rfl);(case hg => rfl);(case hr => first | (go_simp;done) | (go_simp;rfl));(case hp => exact (Reps.one (show Kd.M (Kd.int .i64) _ _ _ a1 [.int .i64 a1] from rfl) (Reps.none _ _)))
       intro v128 w38 ho39 hb hg_ hnew_
       clear hg_ hnew_
       (first | rw [← Ny127.out] at ho39 | (simp only [Int.reduceToNat] at ho39;rw [← Ny127.out] at ho39))
       have n0_ := aM (Kd.R_elder' (by exact rP HO122.out) (Kd.R_base ho39) hb)
       have n1_ := aM (Kd.R_lower (Kd.R_new' ho39 (Kd.R_lt (by exact rP HO122.out))) (below_size (by exact bB)))
       have n2_ := aM (below_step (by exact bB) hb)
       clear HO122
       clear HB
       have HO122 := n0_
       have HO129 := n1_
       have HB := n2_
       clear n0_ n1_ n2_
       clear hb ho39
       refine hK.out _ _ trivial (fun hHeld => ?_)
       clear hK K
       refine norm_ (a' := ?_) ?_ ?_
       rotate_left
       ·show Act.put _ (some 39) _ = _
        simp only [Act.put, List.setIfInBounds_toArray, List.set_cons_zero, List.set_cons_succ, i64_w, i32_w]
        rfl
       refine one_ (i := 4) (N := some 37) #[true,true,true,true,true,true,true,false,true,true,true,false,false] rfl rfl (one_of HT_.out (by kernel_rfl)) (by decide) (fun K hK => ?_)
       refine Kd.R_append_rows_step (Kd.int .i64) (w0 := w) w.heap.size (by rfl) (.tmp 33) (.tmp 36) 28 3 (.int .i64 0) 8 rfl Try.underlying28 infoInt rfl (by decide) (by omega) v121 y120 (l0.take (x5_1 : Int).toNat) _ _ _ (fun k_ => some k_ ≠ (v128 : Value).ownBlock) (fun _ => False) rfl rfl ?aO ?aR (fun _ _ h => h) (fun _ h => h.elim) ?aF ?aB ?aS ?aL ?_
       (case aR => have hz_ := Kd.C_below HR123.out HB.out;rw [show (l0.take (x5_1 : Int).toNat).length = x5_1.toNat from (by rw [List.length_take];have h_ : (x5_1 : Int) ≤ (l0.length : Int) := oA;omega)] at hz_;repeat (first | exact hz_ | (with_reducible refine Kd.C_alloc ?_ _) | (with_reducible refine Kd.C_drewN ?_ _) | (with_reducible refine Kd.C_drew ?_)))
       (case aB => exact (by exact bB))
       (case aF => exact (fun k_ hk => Kd.fresh' (Kd.R_lt (by exact rP HO129.out)) k_ hk))
       (case aO => exact (by refine rP ?_;exact Kd.R_mono HO122.out (fun _ hk => hk.2)))
       (case aS => exact (below_size (by exact bB)))
       (case aL => have := LMc28.out;have hlx_ := (show (l0.take (x5_1 : Int).toNat).length = x5_1.toNat from (by rw [List.length_take];have h_ : (x5_1 : Int) ≤ (l0.length : Int) := oA;omega));omega)
       intro v125 w40 ho hb hg hat
       rw [← Ny124.out] at ho
       have n0_ := aM (Kd.R_after (ok := (fun _ => True)) (by exact rP HO129.out) hg hat)
       have n1_ := aM (hb)
       have n2_ := aM (ho)
       clear HO129
       clear HB
       clear HO122
       have HO129 := n0_
       have HB := n1_
       have HO126 := n2_
       clear n0_ n1_ n2_
       clear ho hb hg hat
       refine hK.out _ _ trivial (fun hHeld => ?_)
       clear hK K
       refine norm_ (a' := ?_) ?_ ?_
       rotate_left
       ·show Act.put _ (some 37) _ = _
        simp only [Act.put, List.setIfInBounds_toArray, List.set_cons_zero, List.set_cons_succ, i64_w, i32_w]
        rfl
       exact norm_ (by simp only [putAll, Act.put, List.setIfInBounds_toArray, List.set_cons_zero, List.set_cons_succ]) (hCont (v121, v125, v128) _ ⟨(by exact rP HO126.out), (by refine rP ?_;exact Kd.R_mono HO129.out (fun _ hk => hk.2)), (by exact bB)⟩)
     ·skip
      refine Kd.R_lit_step (Kd.int .i64) _ 3 ?hg (N := 39) ?hd (xs := ([a1] : List Int)) (inner := [.int .i64 a1]) (ok := fun _ => True) (okp := fun _ => True) ?hr ?hp (fun _ hk => hk) trivial (Below.refl _ _) (Nat.le_refl _) (by simp) ?_;(case hd => rfl);(case hg => rfl);(case hr => first | (go_simp;done) | (go_simp;rfl));(case hp => exact (Reps.one (show Kd.M (Kd.int .i64) _ _ _ a1 [.int .i64 a1] from rfl) (Reps.none _ _)))
      intro v128 w36 ho37 hb hg_ hnew_
      clear hg_ hnew_
      (first | rw [← Ny127.out] at ho37 | (simp only [Int.reduceToNat] at ho37;rw [← Ny127.out] at ho37))
      have n0_ := aM (Kd.R_lower ho37 (below_size (by exact bB)))
      have n1_ := aM (below_step (by exact bB) hb)
      clear HB
      have HO129 := n0_
      have HB := n1_
      clear n0_ n1_
      clear hb ho37
      refine hK.out _ _ trivial (fun hHeld => ?_)
      clear hK K
      refine norm_ (a' := ?_) ?_ ?_
      rotate_left
      ·show Act.put _ (some 39) _ = _
       simp only [Act.put, List.setIfInBounds_toArray, List.set_cons_zero, List.set_cons_succ, i64_w, i32_w]
       rfl
      refine one_ (i := 0) (N := some 33) #[true,true,true,true,false,true,true,false,true,true,true,false,false] rfl rfl (one_of HT_.out (by kernel_rfl)) (by decide) (fun K hK => ?_)
      refine Kd.R_lit_step (Kd.int .i64) _ 3 ?hg (N := 33) ?hd (xs := ([] : List Int)) (inner := []) (ok := fun _ => True) (okp := fun _ => True) ?hr ?hp (fun _ hk => hk) trivial (Below.refl _ _) (Nat.le_refl _) (by simp) ?_;(case hd => rfl);(case hg => rfl);(case hr => first | (go_simp;done) | (go_simp;rfl));(case hp => exact (Reps.none _ _))
      intro v121 w38 ho39 hb hg_ hnew_
      clear hg_ hnew_
      (first | rw [← Ny120.out] at ho39 | (simp only [Int.reduceToNat] at ho39;rw [← Ny120.out] at ho39))
      have n0_ := aM (Kd.R_elder' (by exact rP HO129.out) (Kd.R_base ho39) hb)
      have n1_ := aM (Kd.R_lower (Kd.R_new' ho39 (Kd.R_lt (by exact rP HO129.out))) (below_size (by exact bB)))
      have n2_ := aM (below_step (by exact bB) hb)
      clear HO129
      clear HB
      have HO129 := n0_
      have HO122 := n1_
      have HB := n2_
      clear n0_ n1_ n2_
      clear hb ho39
      refine hK.out _ _ trivial (fun hHeld => ?_)
      clear hK K
      refine norm_ (a' := ?_) ?_ ?_
      rotate_left
      ·show Act.put _ (some 33) _ = _
       simp only [Act.put, List.setIfInBounds_toArray, List.set_cons_zero, List.set_cons_succ, i64_w, i32_w]
       rfl
      refine one_ (i := 4) (N := some 37) #[true,true,true,true,true,true,true,false,true,true,true,false,false] rfl rfl (one_of HT_.out (by kernel_rfl)) (by decide) (fun K hK => ?_)
      refine Kd.R_append_rows_step (Kd.int .i64) (w0 := w) w.heap.size (by rfl) (.tmp 33) (.tmp 36) 28 3 (.int .i64 0) 8 rfl Try.underlying28 infoInt rfl (by decide) (by omega) v121 y120 (l0.take (x5_1 : Int).toNat) _ _ _ (fun k_ => some k_ ≠ (v128 : Value).ownBlock) (fun _ => False) rfl rfl ?aO ?aR (fun _ _ h => h) (fun _ h => h.elim) ?aF ?aB ?aS ?aL ?_
      (case aR => have hz_ := Kd.C_below HR123.out HB.out;rw [show (l0.take (x5_1 : Int).toNat).length = x5_1.toNat from (by rw [List.length_take];have h_ : (x5_1 : Int) ≤ (l0.length : Int) := oA;omega)] at hz_;repeat (first | exact hz_ | (with_reducible refine Kd.C_alloc ?_ _) | (with_reducible refine Kd.C_drewN ?_ _) | (with_reducible refine Kd.C_drew ?_)))
      (case aB => exact (by exact bB))
      (case aF => exact (fun k_ hk => Kd.fresh' (Kd.R_lt (by exact rP HO129.out)) k_ hk))
      (case aO => exact (by refine rP ?_;exact Kd.R_mono HO122.out (fun _ hk => hk.2)))
      (case aS => exact (below_size (by exact bB)))
      (case aL => have := LMc28.out;have hlx_ := (show (l0.take (x5_1 : Int).toNat).length = x5_1.toNat from (by rw [List.length_take];have h_ : (x5_1 : Int) ≤ (l0.length : Int) := oA;omega));omega)
      intro v125 w40 ho hb hg hat
      rw [← Ny124.out] at ho
      have n0_ := aM (Kd.R_after (ok := (fun _ => True)) (by exact rP HO129.out) hg hat)
      have n1_ := aM (hb)
      have n2_ := aM (ho)
      clear HO129
      clear HB
      clear HO122
      have HO129 := n0_
      have HB := n1_
      have HO126 := n2_
      clear n0_ n1_ n2_
      clear ho hb hg hat
      refine hK.out _ _ trivial (fun hHeld => ?_)
      clear hK K
      refine norm_ (a' := ?_) ?_ ?_
      rotate_left
      ·show Act.put _ (some 37) _ = _
       simp only [Act.put, List.setIfInBounds_toArray, List.set_cons_zero, List.set_cons_succ, i64_w, i32_w]
       rfl
      exact norm_ (by simp only [putAll, Act.put, List.setIfInBounds_toArray, List.set_cons_zero, List.set_cons_succ]) (hCont (v121, v125, v128) _ ⟨(by exact rP HO126.out), (by refine rP ?_;exact Kd.R_mono HO129.out (fun _ hk => hk.2)), (by exact bB)⟩)
    rintro ⟨v121, v125, v128⟩ w41 ⟨h0_, h1_, h2_⟩
    have n0_ : Aside0 (Kd.R (Kd.int .i64) 3 w41 w.heap.size (fun k_ => some k_ ≠ (v128 : Value).ownBlock) v125 y124) := ⟨h0_⟩
    have n1_ : Aside0 (Kd.R (Kd.int .i64) 3 w41 w.heap.size (fun k_ => some k_ ≠ (v125 : Value).ownBlock) v128 y127) := ⟨h1_⟩
    have n2_ : Aside0 (Below w.heap.size w w41) := ⟨h2_⟩
    clear HB
    clear h0_ h1_ h2_
    have HO126 := n0_
    have HO129 := n1_
    have HB := n2_
    clear n0_ n1_ n2_
    have hHeld := trivial
    obtain ⟨Ao43, co43, eo43⟩ := Kd.R_slice HO129.out
    (first | subst eo43 | (injection eo43 with f1_ f2_ f3_;have f4_ := f1_.symm;have f5_ := f3_.symm;clear f1_ f2_ f3_;subst f4_;subst f5_))
    refine norm_ (a' := ?_) ?_ ?_
    rotate_left
    ·simp only [putAll, Act.put, List.setIfInBounds_toArray, List.set_cons_zero, List.set_cons_succ]
     rfl
    refine one_ (i := 7) (N := some 40) #[true,true,true,true,true,true,true,true,true,true,true,false,false] rfl rfl (one_of HT_.out (by kernel_rfl)) (by decide) (fun K hK => ?_)
    refine Kd.R_append_rows_step (Kd.int .i64) (w0 := w) w.heap.size (by rfl) (.tmp 37) (.tmp 39) 28 3 (.int .i64 0) 8 rfl Try.underlying28 infoInt rfl (by decide) (by omega) v125 y124 y127 _ _ _ (fun k_ => some k_ ≠ (.slice Ao43 y127.length co43 : Value).ownBlock) (fun _ => False) rfl rfl ?aO ?aR (fun _ _ h => h) (fun _ h => h.elim) ?aF ?aB ?aS ?aL ?_
    (case aR => exact cP (Kd.R_reads' HO129.out).2.2)
    (case aB => exact (by exact bB))
    (case aF => exact (fun k_ hk => Kd.fresh' (Kd.R_lt (by exact rP HO129.out)) k_ hk))
    (case aO => exact (by exact rP HO126.out))
    (case aS => exact (below_size (by exact bB)))
    (case aL => have := LMc29.out;omega)
    intro v131 w42 ho hb hg hat
    rw [← Ny130.out] at ho
    have n0_ := aM (Kd.R_after (ok := (fun _ => True)) (by exact rP (Kd.R_mono HO129.out (fun _ hk => ⟨trivial, hk⟩))) hg hat)
    have n1_ := aM (hb)
    have n2_ := aM (ho)
    clear HO129
    clear HB
    clear HO126
    have HO129 := n0_
    have HB := n1_
    have HO132 := n2_
    clear n0_ n1_ n2_
    clear ho hb hg hat
    refine hK.out _ _ trivial (fun hHeld => ?_)
    clear hK K
    refine norm_ (a' := ?_) ?_ ?_
    rotate_left
    ·show Act.put _ (some 40) _ = _
     simp only [Act.put, List.setIfInBounds_toArray, List.set_cons_zero, List.set_cons_succ, i64_w, i32_w]
     rfl
    refine one_ (i := 11) (N := some 44) #[true,true,true,true,true,true,true,true,true,true,true,true,false] rfl rfl (one_of HT_.out (by kernel_rfl)) (by decide) (fun K hK => ?_)
    refine Kd.R_append_rows_step (Kd.int .i64) (w0 := w) w.heap.size (by rfl) (.tmp 40) (.tmp 43) 28 3 (.int .i64 0) 8 rfl Try.underlying28 infoInt rfl (by decide) (by omega) v131 y130 (l0.drop (x5_1 : Int).toNat) _ _ _ (fun k_ => some k_ ≠ (.slice Ao43 y127.length co43 : Value).ownBlock) (fun _ => False) rfl rfl ?aO ?aR (fun _ _ h => h) (fun _ h => h.elim) ?aF ?aB ?aS ?aL ?_
    (case aR => first | (rw [← show (l0.drop (x5_1 : Int).toNat).length = (l0.length - x5_1.toNat) from List.length_drop];exact cP (Kd.C_below HR133.out HB.out)) | (exact cP (Kd.C_below HR133.out HB.out)))
    (case aB => exact (by exact bB))
    (case aF => exact (fun k_ hk => Kd.fresh' (Kd.R_lt (by exact rP HO129.out)) k_ hk))
    (case aO => exact (by exact rP HO132.out))
    (case aS => exact (below_size (by exact bB)))
    (case aL => have := LMc32.out;have hlx_ := (show (l0.drop (x5_1 : Int).toNat).length = (l0.length - x5_1.toNat) from List.length_drop);omega)
    intro v135 w44 ho hb hg hat
    rw [← Ny134.out] at ho
    have n0_ := aM (Kd.R_after (ok := (fun _ => True)) (by exact rP HO129.out) hg hat)
    have n1_ := aM (hb)
    have n2_ := aM (ho)
    clear HO129
    clear HB
    clear HO132
    have HO129 := n0_
    have HB := n1_
    have HO136 := n2_
    clear n0_ n1_ n2_
    clear ho hb hg hat
    refine hK.out _ _ trivial (fun hHeld => ?_)
    clear hK K
    refine norm_ (a' := ?_) ?_ ?_
    rotate_left
    ·show Act.put _ (some 44) _ = _
     simp only [Act.put, List.setIfInBounds_toArray, List.set_cons_zero, List.set_cons_succ, i64_w, i32_w]
     rfl
    refine pure_ (i := 12) (N := some 4) (v := ?_) (a' := ?_) #[true,true,true,true,true,true,true,true,true,true,true,true,true] rfl rfl (any_of HT_.out (by kernel_rfl)) (fun _ _ _ h => h) (Or.inl ⟨by rfl, ?_⟩) ?_ ?_
    rotate_left
    ·intro w'
     go_simp
     with_reducible rfl
    rotate_left
    ·exact aP
    refine done_ (done_of HT_.out (by kernel_rfl)) ?_
    try go_wp2
    go_ret
    exact ⟨_, rfl, by exact bB, .inr (by refine rP ?_;exact Kd.R_mono HO136.out (fun _ hk => trivial))⟩
   rw [if_pos c3] at H
   have c3b0 : decide (x5_1 < (l0.length : Int)) = true := decide_eq_true c3
   clear c3
   by_cases c4 : 0 ≤ x5_1
   rotate_left
   ·rw [if_neg c4] at H
    exact absurd H (by simp)
   rw [if_pos c4] at H
   have c4b0 : decide (0 ≤ x5_1) = true := decide_eq_true c4
   clear c4
   by_cases c5 : (rd l0 x5_1) < a1
   ·rw [if_pos c5] at H
    have c5b0 : decide ((rd l0 x5_1) < a1) = true := decide_eq_true c5
    clear c5
    have H' := Aside0.mk H
    clear H
    have p101 : 0 ≤ (x5_1 : Int) := oA
    have q101 : x5_1 < (l0.length : Int) := oA
    obtain ⟨ad101, e101, hx101_0⟩ := Kd.at_int HR0.out x5_1 p101 q101
    cases e101
    replace hx101_0 := (HB.out.cell (World.block_lt_of_cell? w _ hx101_0)).trans hx101_0
    replace p101 := eq_true p101
    replace q101 := eq_true q101
    go_wp2
    go_roundg k1
    case measure => have := HK1.out;omega
    case rel => exact ⟨(wrap64 (x5_1 + 1)), (by first | rfl | (simp;done) | (simp [*];done)), H', ⟨by have := HK1.out;omega⟩, ⟨by exact bB⟩⟩
   rw [if_neg c5] at H
   have c5b0 : decide ((rd l0 x5_1) < a1) = false := decide_eq_false c5
   clear c5
   by_cases c6 : (rd l0 x5_1) = a1
   ·rw [if_pos c6] at H
    have c6b0 : ((rd l0 x5_1) == a1) = true := beq_iff_eq.mpr c6
    have c6b1 : ((rd l0 x5_1) != a1) = false := bne_eq_false_iff_eq.mpr c6
    clear c6
    obtain rfl := Option.some.inj H
    have p101 : 0 ≤ (x5_1 : Int) := oA
    have q101 : x5_1 < (l0.length : Int) := oA
    obtain ⟨ad101, e101, hx101_0⟩ := Kd.at_int HR0.out x5_1 p101 q101
    cases e101
    replace hx101_0 := (HB.out.cell (World.block_lt_of_cell? w _ hx101_0)).trans hx101_0
    replace p101 := eq_true p101
    replace q101 := eq_true q101
    have p102 : 0 ≤ (x5_1 : Int) := oA
    have q102 : x5_1 < (l0.length : Int) := oA
    obtain ⟨ad102, e102, hx102_0⟩ := Kd.at_int HR0.out x5_1 p102 q102
    obtain rfl : ad101 = ad102 := (by injection e102)
    replace hx102_0 := (HB.out.cell (World.block_lt_of_cell? w _ hx102_0)).trans hx102_0
    replace p102 := eq_true p102
    replace q102 := eq_true q102
    go_wp2
    go_ret
    exact ⟨_, rfl, (by exact bB), Or.inl (And.intro rfl rfl)⟩
   rw [if_neg c6] at H
   have c6b0 : ((rd l0 x5_1) == a1) = false := beq_eq_false_iff_ne.mpr c6
   have c6b1 : ((rd l0 x5_1) != a1) = true := bne_iff_ne.mpr c6
   obtain ⟨y103, hy103⟩ : ∃ y_ : List Int, y_ = (([] : List Int)) := ⟨_, rfl⟩
   replace H : (if x5_1 ≤ (l0.length : Int) then (if y103.length + (l0.take (x5_1 : Int).toNat).length < 17592186044416 then ((some (y103 ++ (l0.take (x5_1 : Int).toNat) : List Int)).bind fun y107 => ((some (([a1] : List Int) : List Int)).bind fun y110 => (if y107.length + y110.length < 17592186044416 then ((some (y107 ++ y110 : List Int)).bind fun y113 => (if y113.length + (l0.drop (x5_1 : Int).toNat).length < 17592186044416 then (some (y113 ++ (l0.drop (x5_1 : Int).toNat))) else (none))) else (none)))) else (none)) else (none)) = some r := by first | (rw [hy103];with_reducible exact H) | (have H2_ := (Option.bind_some _ _).symm.trans H;rw [hy103];with_reducible exact H2_) | (have H2_ := (Option.bind_some _ _).symm.trans H;with_reducible exact H2_) | with_reducible exact H | (rw [hy103];exact H) | exact H
   have Ny103 := Aside0.mk hy103
   clear hy103
   have c7b0 := eq_true (oA : 0 ≤ x5_1)
   by_cases c8 : x5_1 ≤ (l0.length : Int)
   rotate_left
   ·rw [if_neg c8] at H
    exact absurd H (by simp)
   rw [if_pos c8] at H
   have c8b0 := eq_true c8
   have c8b1 : decide (x5_1 ≤ (l0.length : Int)) = true := decide_eq_true c8
   clear c8
   by_cases c9 : y103.length + (l0.take (x5_1 : Int).toNat).length < 17592186044416
   rotate_left
   ·rw [if_neg c9] at H
    exact absurd H (by simp)
   rw [if_pos c9] at H
   have LMc9 := Aside0.mk c9
   clear c9
   obtain ⟨y107, hy107⟩ : ∃ y_ : List Int, y_ = (y103 ++ (l0.take (x5_1 : Int).toNat)) := ⟨_, rfl⟩
   replace H : ((some (([a1] : List Int) : List Int)).bind fun y110 => (if y107.length + y110.length < 17592186044416 then ((some (y107 ++ y110 : List Int)).bind fun y113 => (if y113.length + (l0.drop (x5_1 : Int).toNat).length < 17592186044416 then (some (y113 ++ (l0.drop (x5_1 : Int).toNat))) else (none))) else (none))) = some r := by first | (rw [hy107];with_reducible exact H) | (have H2_ := (Option.bind_some _ _).symm.trans H;rw [hy107];with_reducible exact H2_) | (have H2_ := (Option.bind_some _ _).symm.trans H;with_reducible exact H2_) | with_reducible exact H | (rw [hy107];exact H) | exact H
   have Ny107 := Aside0.mk hy107
   clear hy107
   obtain ⟨y110, hy110⟩ : ∃ y_ : List Int, y_ = (([a1] : List Int)) := ⟨_, rfl⟩
   replace H : (if y107.length + y110.length < 17592186044416 then ((some (y107 ++ y110 : List Int)).bind fun y113 => (if y113.length + (l0.drop (x5_1 : Int).toNat).length < 17592186044416 then (some (y113 ++ (l0.drop (x5_1 : Int).toNat))) else (none))) else (none)) = some r := by first | (rw [hy110];with_reducible exact H) | (have H2_ := (Option.bind_some _ _).symm.trans H;rw [hy110];with_reducible exact H2_) | (have H2_ := (Option.bind_some _ _).symm.trans H;with_reducible exact H2_) | with_reducible exact H | (rw [hy110];exact H) | exact H
   have Ny110 := Aside0.mk hy110
   clear hy110
   by_cases c10 : y107.length + y110.length < 17592186044416
   rotate_left
   ·rw [if_neg c10] at H
    exact absurd H (by simp)
   rw [if_pos c10] at H
   have LMc10 := Aside0.mk c10
   clear c10
   obtain ⟨y113, hy113⟩ : ∃ y_ : List Int, y_ = (y107 ++ y110) := ⟨_, rfl⟩
   replace H : (if y113.length + (l0.drop (x5_1 : Int).toNat).length < 17592186044416 then (some (y113 ++ (l0.drop (x5_1 : Int).toNat))) else (none)) = some r := by first | (rw [hy113];with_reducible exact H) | (have H2_ := (Option.bind_some _ _).symm.trans H;rw [hy113];with_reducible exact H2_) | (have H2_ := (Option.bind_some _ _).symm.trans H;with_reducible exact H2_) | with_reducible exact H | (rw [hy113];exact H) | exact H
   have Ny113 := Aside0.mk hy113
   clear hy113
   have c11b0 := eq_true (oA : 0 ≤ x5_1)
   have c12b0 := eq_true (oA : x5_1 ≤ (l0.length : Int))
   by_cases c13 : y113.length + (l0.drop (x5_1 : Int).toNat).length < 17592186044416
   rotate_left
   ·rw [if_neg c13] at H
    exact absurd H (by simp)
   rw [if_pos c13] at H
   have LMc13 := Aside0.mk c13
   clear c13
   obtain ⟨y117, hy117⟩ : ∃ y_ : List Int, y_ = (y113 ++ (l0.drop (x5_1 : Int).toNat)) := ⟨_, rfl⟩
   replace H : (some y117) = some r := by first | (rw [hy117];with_reducible exact H) | (have H2_ := (Option.bind_some _ _).symm.trans H;rw [hy117];with_reducible exact H2_) | (have H2_ := (Option.bind_some _ _).symm.trans H;with_reducible exact H2_) | with_reducible exact H | (rw [hy117];exact H) | exact H
   have Ny117 := Aside0.mk hy117
   clear hy117
   obtain rfl := Option.some.inj H
   have p101 : 0 ≤ (x5_1 : Int) := oA
   have q101 : x5_1 < (l0.length : Int) := oA
   obtain ⟨ad101, e101, hx101_0⟩ := Kd.at_int HR0.out x5_1 p101 q101
   cases e101
   replace hx101_0 := (HB.out.cell (World.block_lt_of_cell? w _ hx101_0)).trans hx101_0
   replace p101 := eq_true p101
   replace q101 := eq_true q101
   have p102 : 0 ≤ (x5_1 : Int) := oA
   have q102 : x5_1 < (l0.length : Int) := oA
   obtain ⟨ad102, e102, hx102_0⟩ := Kd.at_int HR0.out x5_1 p102 q102
   obtain rfl : ad101 = ad102 := (by injection e102)
   replace hx102_0 := (HB.out.cell (World.block_lt_of_cell? w _ hx102_0)).trans hx102_0
   replace p102 := eq_true p102
   replace q102 := eq_true q102
   try go_wp2
   have n0_ := aM (below_drew1 HB.out)
   clear HB
   have HB := n0_
   clear n0_
   obtain ⟨i015, hi015, _, hsz15, _⟩ := info_parts infoInt
   obtain ⟨hcut15, hA15, hC15⟩ := print_take_of (P := Try.prog) (Value.int .i64) 0 28 3 .i64 Try.underlying28 hi015 hsz15 (some ad101) c0 l0 x5_1 (oA) (oA) HC0.out
   have HR106 := aM (Kd.C_of_reads (h1 := fun _ => rfl) (hA15 _ (Kd.reads_of_C HR0.out)))
   have HC106 := Aside0.mk hC15
   clear hA15 hC15 hi015 hsz15
   obtain ⟨i016, hi016, _, hsz16, _⟩ := info_parts infoInt
   obtain ⟨A16, hcut16, hA16, hC16⟩ := print_drop_of (P := Try.prog) (Value.int .i64) 0 28 3 .i64 Try.underlying28 hi016 hsz16 (some ad101) c0 l0 x5_1 (oA) (oA) HC0.out
   have HR116 := aM (Kd.C_of_reads (h1 := fun _ => rfl) (hA16 _ (Kd.reads_of_C HR0.out)))
   have HC116 := Aside0.mk hC16
   clear hA16 hC16 hi016 hsz16
   refine start_ (n := 13) (S := fun w' => True) (ds := []) #[false,false,false,false,false,false,false,false,false,false,false,false,false] (by kernel_rfl) rfl rfl trivial (fun hHeld => ?_);refine with_tabW spec_l1PutE.tab6 spec_l1PutE.bits6 (fun HT_ HW_ => ?_)
   generalize wr.drew = w14 at HB HR106 HR116 hHeld ⊢
   refine pure_ (i := 1) (N := some 34) (v := ?_) (a' := ?_) #[false,true,false,false,false,false,false,false,false,false,false,false,false] rfl rfl (any_of HT_.out (by kernel_rfl)) (fun _ _ _ h => h) (Or.inl ⟨by rfl, ?_⟩) ?_ ?_
   rotate_left
   ·intro w'
    go_simp
    with_reducible rfl
   rotate_left
   ·exact aP
   refine pure_ (i := 2) (N := some 35) (v := ?_) (a' := ?_) #[false,true,true,false,false,false,false,false,false,false,false,false,false] rfl rfl (any_of HT_.out (by kernel_rfl)) (fun _ _ _ h => h) (Or.inl ⟨by rfl, ?_⟩) ?_ ?_
   rotate_left
   ·intro w'
    go_simp
    with_reducible rfl
   rotate_left
   ·exact aP
   refine pure_ (i := 3) (N := some 36) (v := ?_) (a' := ?_) #[false,true,true,true,false,false,false,false,false,false,false,false,false] rfl rfl (any_of HT_.out (by kernel_rfl)) (fun _ _ _ h => h) (Or.inl ⟨by rfl, ?_⟩) ?_ ?_
   rotate_left
   ·intro w'
    go_simp
    with_reducible rfl
   rotate_left
   ·exact aP
   refine pure_ (i := 5) (N := some 38) (v := ?_) (a' := ?_) #[false,true,true,true,false,true,false,false,false,false,false,false,false] rfl rfl (any_of HT_.out (by kernel_rfl)) (fun _ _ _ h => h) (Or.inl ⟨by rfl, ?_⟩) ?_ ?_
   rotate_left
   ·intro w'
    go_simp
    with_reducible rfl
   rotate_left
   ·exact aP
   refine pure_ (i := 8) (N := some 41) (v := ?_) (a' := ?_) #[false,true,true,true,false,true,false,false,true,false,false,false,false] rfl rfl (any_of HT_.out (by kernel_rfl)) (fun _ _ _ h => h) (Or.inl ⟨by rfl, ?_⟩) ?_ ?_
   rotate_left
   ·intro w'
    go_simp
    with_reducible rfl
   rotate_left
   ·exact aP
   refine pure_ (i := 9) (N := some 42) (v := ?_) (a' := ?_) #[false,true,true,true,false,true,false,false,true,true,false,false,false] rfl rfl (any_of HT_.out (by kernel_rfl)) (fun _ _ _ h => h) (Or.inl ⟨by rfl, ?_⟩) ?_ ?_
   rotate_left
   ·intro w'
    go_simp
    with_reducible rfl
   rotate_left
   ·exact aP
   refine pure_ (i := 10) (N := some 43) (v := ?_) (a' := ?_) #[false,true,true,true,false,true,false,false,true,true,true,false,false] rfl rfl (any_of HT_.out (by kernel_rfl)) (fun _ _ _ h => h) (Or.inl ⟨by rfl, ?_⟩) ?_ ?_
   rotate_left
   ·intro w'
    go_simp
    with_reducible rfl
   rotate_left
   ·exact aP
   refine join_ (σ := Value × Value × Value) 3 #[true,true,true,true,true,true,true,false,true,true,true,false,false] (fun s_ => [(33, s_.1), (37, s_.2.1), (39, s_.2.2)]) (fun s_ w' => (Kd.R (Kd.int .i64) 3 w' w.heap.size (fun k_ => some k_ ≠ (s_.2.2 : Value).ownBlock) s_.2.1 y107) ∧ (Kd.R (Kd.int .i64) 3 w' w.heap.size (fun k_ => some k_ ≠ (s_.2.1 : Value).ownBlock) s_.2.2 y110) ∧ (Below w.heap.size w w')) ?_ ?_
   rotate_left
   ·intro hCont
    refine two_ (i := 0) (j := 6) (Ni := some 33) (Nj := some 39) #[true,true,true,true,false,true,false,false,true,true,true,false,false] #[false,true,true,true,false,true,true,false,true,true,true,false,false] rfl rfl rfl rfl (two_of HT_.out (by kernel_rfl)) (by decide) (by decide) (fun K hK => ?_) (fun K hK => ?_)
    ·skip
     refine Kd.R_lit_step (Kd.int .i64) _ 3 ?hg (N := 33) ?hd (xs := ([] : List Int)) (inner := []) (ok := fun _ => True) (okp := fun _ => True) ?hr ?hp (fun _ hk => hk) trivial (Below.refl _ _) (Nat.le_refl _) (by simp) ?_;(case hd => rfl);(case hg => rfl);(case hr => first | (go_simp;done) | (go_simp;rfl));(case hp => exact (Reps.none _ _))
     intro v104 w17 ho18 hb hg_ hnew_
     clear hg_ hnew_
     (first | rw [← Ny103.out] at ho18 | (simp only [Int.reduceToNat] at ho18;rw [← Ny103.out] at ho18))
     have n0_ := aM (Kd.R_lower ho18 (below_size (by exact bB)))
     have n1_ := aM (below_step (by exact bB) hb)
     clear HB
     have HO105 := n0_
     have HB := n1_
     clear n0_ n1_
     clear hb ho18
     refine hK.out _ _ trivial (fun hHeld => ?_)
     clear hK K
     refine norm_ (a' := ?_) ?_ ?_
     rotate_left
     ·show Act.put _ (some 33) _ = _
      simp only [Act.put, List.setIfInBounds_toArray, List.set_cons_zero, List.set_cons_succ, i64_w, i32_w]
      rfl
     refine two_ (i := 4) (j := 6) (Ni := some 37) (Nj := some 39) #[true,true,true,true,true,true,false,false,true,true,true,false,false] #[true,true,true,true,false,true,true,false,true,true,true,false,false] rfl rfl rfl rfl (two_of HT_.out (by kernel_rfl)) (by decide) (by decide) (fun K hK => ?_) (fun K hK => ?_)
     ·skip
      refine Kd.R_append_rows_step (Kd.int .i64) (w0 := w) w.heap.size (by rfl) (.tmp 33) (.tmp 36) 28 3 (.int .i64 0) 8 rfl Try.underlying28 infoInt rfl (by decide) (by omega) v104 y103 (l0.take (x5_1 : Int).toNat) _ _ _ (fun _ => True) (fun _ => False) rfl rfl ?aO ?aR (fun _ _ h => h) (fun _ h => h.elim) ?aF ?aB ?aS ?aL ?_
      (case aR => have hz_ := Kd.C_below HR106.out HB.out;rw [show (l0.take (x5_1 : Int).toNat).length = x5_1.toNat from (by rw [List.length_take];have h_ : (x5_1 : Int) ≤ (l0.length : Int) := oA;omega)] at hz_;repeat (first | exact hz_ | (with_reducible refine Kd.C_alloc ?_ _) | (with_reducible refine Kd.C_drewN ?_ _) | (with_reducible refine Kd.C_drew ?_)))
      (case aB => exact (by exact bB))
      (case aF => exact (fun _ _ => trivial))
      (case aO => exact (by exact rP HO105.out))
      (case aS => exact (below_size (by exact bB)))
      (case aL => have := LMc9.out;have hlx_ := (show (l0.take (x5_1 : Int).toNat).length = x5_1.toNat from (by rw [List.length_take];have h_ : (x5_1 : Int) ≤ (l0.length : Int) := oA;omega));omega)
      intro v108 w19 ho hb hg hat
      rw [← Ny107.out] at ho
      have n0_ := aM (hb)
      have n1_ := aM (ho)
      clear HB
      clear HO105
      have HB := n0_
      have HO109 := n1_
      clear n0_ n1_
      clear ho hb hg hat
      refine hK.out _ _ trivial (fun hHeld => ?_)
      clear hK K
      refine norm_ (a' := ?_) ?_ ?_
      rotate_left
      ·show Act.put _ (some 37) _ = _
       simp only [Act.put, List.setIfInBounds_toArray, List.set_cons_zero, List.set_cons_succ, i64_w, i32_w]
       rfl
      refine one_ (i := 6) (N := some 39) #[true,true,true,true,true,true,true,false,true,true,true,false,false] rfl rfl (one_of HT_.out (by kernel_rfl)) (by decide) (fun K hK => ?_)
      refine Kd.R_lit_step (Kd.int .i64) _ 3 ?hg (N := 39) ?hd (xs := ([a1] : List Int)) (inner := [.int .i64 a1]) (ok := fun _ => True) (okp := fun _ => True) ?hr ?hp (fun _ hk => hk) trivial (Below.refl _ _) (Nat.le_refl _) (by simp) ?_;(case hd => rfl);(case hg => rfl);(case hr => first | (go_simp;done) | (go_simp;rfl));(case hp => exact (Reps.one (show Kd.M (Kd.int .i64) _ _ _ a1 [.int .i64 a1] from rfl) (Reps.none _ _)))
      intro v111 w20 ho21 hb hg_ hnew_
      clear hg_ hnew_
      (first | rw [← Ny110.out] at ho21 | (simp only [Int.reduceToNat] at ho21;rw [← Ny110.out] at ho21))
      have n0_ := aM (Kd.R_elder' (by exact rP HO109.out) (Kd.R_base ho21) hb)
      have n1_ := aM (Kd.R_lower (Kd.R_new' ho21 (Kd.R_lt (by exact rP HO109.out))) (below_size (by exact bB)))
      have n2_ := aM (below_step (by exact bB) hb)
      clear HO109
      clear HB
      have HO109 := n0_
      have HO112 := n1_
      have HB := n2_
      clear n0_ n1_ n2_
      clear hb ho21
      refine hK.out _ _ trivial (fun hHeld => ?_)
      clear hK K
      refine norm_ (a' := ?_) ?_ ?_
      rotate_left
      ·show Act.put _ (some 39) _ = _
       simp only [Act.put, List.setIfInBounds_toArray, List.set_cons_zero, List.set_cons_succ, i64_w, i32_w]
       rfl
      exact norm_ (by simp only [putAll, Act.put, List.setIfInBounds_toArray, List.set_cons_zero, List.set_cons_succ]) (hCont (v104, v108, v111) _ ⟨(by refine rP ?_;exact Kd.R_mono HO109.out (fun _ hk => hk.2)), (by refine rP ?_;exact Kd.R_mono HO112.out (fun _ hk => hk.2)), (by exact bB)⟩)
     ·skip
      refine Kd.R_lit_step (Kd.int .i64) _ 3 ?hg (N := 39) ?hd (xs := ([a1] : List Int)) (inner := [.int .i64 a1]) (ok := fun _ => True) (okp := fun _ => True) ?hr ?hp (fun _ hk => hk) trivial (Below.refl _ _) (Nat.le_refl _) (by simp) ?_;(case hd => rfl);(case hg => rfl);(case hr => first | (go_simp;done) | (go_simp;rfl));(case hp => exact (Reps.one (show Kd.M (Kd.int .i64) _ _ _ a1 [.int .i64 a1] from rfl) (Reps.none _ _)))
      intro v111 w19 ho20 hb hg_ hnew_
      clear hg_ hnew_
      (first | rw [← Ny110.out] at ho20 | (simp only [Int.reduceToNat] at ho20;rw [← Ny110.out] at ho20))
      have n0_ := aM (Kd.R_elder' (by exact rP HO105.out) (Kd.R_base ho20) hb)
      have n1_ := aM (Kd.R_lower (Kd.R_new' ho20 (Kd.R_lt (by exact rP HO105.out))) (below_size (by exact bB)))
      have n2_ := aM (below_step (by exact bB) hb)
      clear HO105
      clear HB
      have HO105 := n0_
      have HO112 := n1_
      have HB := n2_
      clear n0_ n1_ n2_
      clear hb ho20
      refine hK.out _ _ trivial (fun hHeld => ?_)
      clear hK K
      refine norm_ (a' := ?_) ?_ ?_
      rotate_left
      ·show Act.put _ (some 39) _ = _
       simp only [Act.put, List.setIfInBounds_toArray, List.set_cons_zero, List.set_cons_succ, i64_w, i32_w]
       rfl
      refine one_ (i := 4) (N := some 37) #[true,true,true,true,true,true,true,false,true,true,true,false,false] rfl rfl (one_of HT_.out (by kernel_rfl)) (by decide) (fun K hK => ?_)
      refine Kd.R_append_rows_step (Kd.int .i64) (w0 := w) w.heap.size (by rfl) (.tmp 33) (.tmp 36) 28 3 (.int .i64 0) 8 rfl Try.underlying28 infoInt rfl (by decide) (by omega) v104 y103 (l0.take (x5_1 : Int).toNat) _ _ _ (fun k_ => some k_ ≠ (v111 : Value).ownBlock) (fun _ => False) rfl rfl ?aO ?aR (fun _ _ h => h) (fun _ h => h.elim) ?aF ?aB ?aS ?aL ?_
      (case aR => have hz_ := Kd.C_below HR106.out HB.out;rw [show (l0.take (x5_1 : Int).toNat).length = x5_1.toNat from (by rw [List.length_take];have h_ : (x5_1 : Int) ≤ (l0.length : Int) := oA;omega)] at hz_;repeat (first | exact hz_ | (with_reducible refine Kd.C_alloc ?_ _) | (with_reducible refine Kd.C_drewN ?_ _) | (with_reducible refine Kd.C_drew ?_)))
      (case aB => exact (by exact bB))
      (case aF => exact (fun k_ hk => Kd.fresh' (Kd.R_lt (by exact rP HO112.out)) k_ hk))
      (case aO => exact (by refine rP ?_;exact Kd.R_mono HO105.out (fun _ hk => hk.2)))
      (case aS => exact (below_size (by exact bB)))
      (case aL => have := LMc9.out;have hlx_ := (show (l0.take (x5_1 : Int).toNat).length = x5_1.toNat from (by rw [List.length_take];have h_ : (x5_1 : Int) ≤ (l0.length : Int) := oA;omega));omega)
      intro v108 w21 ho hb hg hat
      rw [← Ny107.out] at ho
      have n0_ := aM (Kd.R_after (ok := (fun _ => True)) (by exact rP HO112.out) hg hat)
      have n1_ := aM (hb)
      have n2_ := aM (ho)
      clear HO112
      clear HB
      clear HO105
      have HO112 := n0_
      have HB := n1_
      have HO109 := n2_
      clear n0_ n1_ n2_
      clear ho hb hg hat
      refine hK.out _ _ trivial (fun hHeld => ?_)
      clear hK K
      refine norm_ (a' := ?_) ?_ ?_
      rotate_left
      ·show Act.put _ (some 37) _ = _
       simp only [Act.put, List.setIfInBounds_toArray, List.set_cons_zero, List.set_cons_succ, i64_w, i32_w]
       rfl
      exact norm_ (by simp only [putAll, Act.put, List.setIfInBounds_toArray, List.set_cons_zero, List.set_cons_succ]) (hCont (v104, v108, v111) _ ⟨(by exact rP HO109.out), (by refine rP ?_;exact Kd.R_mono HO112.out (fun _ hk => hk.2)), (by exact bB)⟩)
    ·skip
     refine Kd.R_lit_step (Kd.int .i64) _ 3 ?hg (N := 39) ?hd (xs := ([a1] : List Int)) (inner := [.int .i64 a1]) (ok := fun _ => True) (okp := fun _ => True) ?hr ?hp (fun _ hk => hk) trivial (Below.refl _ _) (Nat.le_refl _) (by simp) ?_;(case hd => rfl);(case hg => rfl);(case hr => first | (go_simp;done) | (go_simp;rfl));(case hp => exact (Reps.one (show Kd.M (Kd.int .i64) _ _ _ a1 [.int .i64 a1] from rfl) (Reps.none _ _)))
     intro v111 w17 ho18 hb hg_ hnew_
     clear hg_ hnew_
     (first | rw [← Ny110.out] at ho18 | (simp only [Int.reduceToNat] at ho18;rw [← Ny110.out] at ho18))
     have n0_ := aM (Kd.R_lower ho18 (below_size (by exact bB)))
     have n1_ := aM (below_step (by exact bB) hb)
     clear HB
     have HO112 := n0_
     have HB := n1_
     clear n0_ n1_
     clear hb ho18
     refine hK.out _ _ trivial (fun hHeld => ?_)
     clear hK K
     refine norm_ (a' := ?_) ?_ ?_
     rotate_left
     ·show Act.put _ (some 39) _ = _
      simp only [Act.put, List.setIfInBounds_toArray, List.set_cons_zero, List.set_cons_succ, i64_w, i32_w]
      rfl
     refine one_ (i := 0) (N := some 33) #[true,true,true,true,false,true,true,false,true,true,true,false,false] rfl rfl (one_of HT_.out (by kernel_rfl)) (by decide) (fun K hK => ?_)
     refine Kd.R_lit_step (Kd.int .i64) _ 3 ?hg (N := 33) ?hd (xs := ([] : List Int)) (inner := []) (ok := fun _ => True) (okp := fun _ => True) ?hr ?hp (fun _ hk => hk) trivial (Below.refl _ _) (Nat.le_refl _) (by simp) ?_;(case hd => rfl);(case hg => rfl);(case hr => first | (go_simp;done) | (go_simp;rfl));(case hp => exact (Reps.none _ _))
     intro v104 w19 ho20 hb hg_ hnew_
     clear hg_ hnew_
     (first | rw [← Ny103.out] at ho20 | (simp only [Int.reduceToNat] at ho20;rw [← Ny103.out] at ho20))
     have n0_ := aM (Kd.R_elder' (by exact rP HO112.out) (Kd.R_base ho20) hb)
     have n1_ := aM (Kd.R_lower (Kd.R_new' ho20 (Kd.R_lt (by exact rP HO112.out))) (below_size (by exact bB)))
     have n2_ := aM (below_step (by exact bB) hb)
     clear HO112
     clear HB
     have HO112 := n0_
     have HO105 := n1_
     have HB := n2_
     clear n0_ n1_ n2_
     clear hb ho20
     refine hK.out _ _ trivial (fun hHeld => ?_)
     clear hK K
     refine norm_ (a' := ?_) ?_ ?_
     rotate_left
     ·show Act.put _ (some 33) _ = _
      simp only [Act.put, List.setIfInBounds_toArray, List.set_cons_zero, List.set_cons_succ, i64_w, i32_w]
      rfl
     refine one_ (i := 4) (N := some 37) #[true,true,true,true,true,true,true,false,true,true,true,false,false] rfl rfl (one_of HT_.out (by kernel_rfl)) (by decide) (fun K hK => ?_)
     refine Kd.R_append_rows_step (Kd.int .i64) (w0 := w) w.heap.size (by rfl) (.tmp 33) (.tmp 36) 28 3 (.int .i64 0) 8 rfl Try.underlying28 infoInt rfl (by decide) (by omega) v104 y103 (l0.take (x5_1 : Int).toNat) _ _ _ (fun k_ => some k_ ≠ (v111 : Value).ownBlock) (fun _ => False) rfl rfl ?aO ?aR (fun _ _ h => h) (fun _ h => h.elim) ?aF ?aB ?aS ?aL ?_
     (case aR => have hz_ := Kd.C_below HR106.out HB.out;rw [show (l0.take (x5_1 : Int).toNat).length = x5_1.toNat from (by rw [List.length_take];have h_ : (x5_1 : Int) ≤ (l0.length : Int) := oA;omega)] at hz_;repeat (first | exact hz_ | (with_reducible refine Kd.C_alloc ?_ _) | (with_reducible refine Kd.C_drewN ?_ _) | (with_reducible refine Kd.C_drew ?_)))
     (case aB => exact (by exact bB))
     (case aF => exact (fun k_ hk => Kd.fresh' (Kd.R_lt (by exact rP HO112.out)) k_ hk))
     (case aO => exact (by refine rP ?_;exact Kd.R_mono HO105.out (fun _ hk => hk.2)))
     (case aS => exact (below_size (by exact bB)))
     (case aL => have := LMc9.out;have hlx_ := (show (l0.take (x5_1 : Int).toNat).length = x5_1.toNat from (by rw [List.length_take];have h_ : (x5_1 : Int) ≤ (l0.length : Int) := oA;omega));omega)
     intro v108 w21 ho hb hg hat
     rw [← Ny107.out] at ho
     have n0_ := aM (Kd.R_after (ok := (fun _ => True)) (by exact rP HO112.out) hg hat)
     have n1_ := aM (hb)
     have n2_ := aM (ho)
     clear HO112
     clear HB
     clear HO105
     have HO112 := n0_
     have HB := n1_
     have HO109 := n2_
     clear n0_ n1_ n2_
     clear ho hb hg hat
     refine hK.out _ _ trivial (fun hHeld => ?_)
     clear hK K
     refine norm_ (a' := ?_) ?_ ?_
     rotate_left
     ·show Act.put _ (some 37) _ = _
      simp only [Act.put, List.setIfInBounds_toArray, List.set_cons_zero, List.set_cons_succ, i64_w, i32_w]
      rfl
     exact norm_ (by simp only [putAll, Act.put, List.setIfInBounds_toArray, List.set_cons_zero, List.set_cons_succ]) (hCont (v104, v108, v111) _ ⟨(by exact rP HO109.out), (by refine rP ?_;exact Kd.R_mono HO112.out (fun _ hk => hk.2)), (by exact bB)⟩)
   rintro ⟨v104, v108, v111⟩ w22 ⟨h0_, h1_, h2_⟩
   have n0_ : Aside0 (Kd.R (Kd.int .i64) 3 w22 w.heap.size (fun k_ => some k_ ≠ (v111 : Value).ownBlock) v108 y107) := ⟨h0_⟩
   have n1_ : Aside0 (Kd.R (Kd.int .i64) 3 w22 w.heap.size (fun k_ => some k_ ≠ (v108 : Value).ownBlock) v111 y110) := ⟨h1_⟩
   have n2_ : Aside0 (Below w.heap.size w w22) := ⟨h2_⟩
   clear HB
   clear h0_ h1_ h2_
   have HO109 := n0_
   have HO112 := n1_
   have HB := n2_
   clear n0_ n1_ n2_
   have hHeld := trivial
   obtain ⟨Ao24, co24, eo24⟩ := Kd.R_slice HO112.out
   (first | subst eo24 | (injection eo24 with f1_ f2_ f3_;have f4_ := f1_.symm;have f5_ := f3_.symm;clear f1_ f2_ f3_;subst f4_;subst f5_))
   refine norm_ (a' := ?_) ?_ ?_
   rotate_left
   ·simp only [putAll, Act.put, List.setIfInBounds_toArray, List.set_cons_zero, List.set_cons_succ]
    rfl
   refine one_ (i := 7) (N := some 40) #[true,true,true,true,true,true,true,true,true,true,true,false,false] rfl rfl (one_of HT_.out (by kernel_rfl)) (by decide) (fun K hK => ?_)
   refine Kd.R_append_rows_step (Kd.int .i64) (w0 := w) w.heap.size (by rfl) (.tmp 37) (.tmp 39) 28 3 (.int .i64 0) 8 rfl Try.underlying28 infoInt rfl (by decide) (by omega) v108 y107 y110 _ _ _ (fun k_ => some k_ ≠ (.slice Ao24 y110.length co24 : Value).ownBlock) (fun _ => False) rfl rfl ?aO ?aR (fun _ _ h => h) (fun _ h => h.elim) ?aF ?aB ?aS ?aL ?_
   (case aR => exact cP (Kd.R_reads' HO112.out).2.2)
   (case aB => exact (by exact bB))
   (case aF => exact (fun k_ hk => Kd.fresh' (Kd.R_lt (by exact rP HO112.out)) k_ hk))
   (case aO => exact (by exact rP HO109.out))
   (case aS => exact (below_size (by exact bB)))
   (case aL => have := LMc10.out;omega)
   intro v114 w23 ho hb hg hat
   rw [← Ny113.out] at ho
   have n0_ := aM (Kd.R_after (ok := (fun _ => True)) (by exact rP (Kd.R_mono HO112.out (fun _ hk => ⟨trivial, hk⟩))) hg hat)
   have n1_ := aM (hb)
   have n2_ := aM (ho)
   clear HO112
   clear HB
   clear HO109
   have HO112 := n0_
   have HB := n1_
   have HO115 := n2_
   clear n0_ n1_ n2_
   clear ho hb hg hat
   refine hK.out _ _ trivial (fun hHeld => ?_)
   clear hK K
   refine norm_ (a' := ?_) ?_ ?_
   rotate_left
   ·show Act.put _ (some 40) _ = _
    simp only [Act.put, List.setIfInBounds_toArray, List.set_cons_zero, List.set_cons_succ, i64_w, i32_w]
    rfl
   refine one_ (i := 11) (N := some 44) #[true,true,true,true,true,true,true,true,true,true,true,true,false] rfl rfl (one_of HT_.out (by kernel_rfl)) (by decide) (fun K hK => ?_)
   refine Kd.R_append_rows_step (Kd.int .i64) (w0 := w) w.heap.size (by rfl) (.tmp 40) (.tmp 43) 28 3 (.int .i64 0) 8 rfl Try.underlying28 infoInt rfl (by decide) (by omega) v114 y113 (l0.drop (x5_1 : Int).toNat) _ _ _ (fun k_ => some k_ ≠ (.slice Ao24 y110.length co24 : Value).ownBlock) (fun _ => False) rfl rfl ?aO ?aR (fun _ _ h => h) (fun _ h => h.elim) ?aF ?aB ?aS ?aL ?_
   (case aR => first | (rw [← show (l0.drop (x5_1 : Int).toNat).length = (l0.length - x5_1.toNat) from List.length_drop];exact cP (Kd.C_below HR116.out HB.out)) | (exact cP (Kd.C_below HR116.out HB.out)))
   (case aB => exact (by exact bB))
   (case aF => exact (fun k_ hk => Kd.fresh' (Kd.R_lt (by exact rP HO112.out)) k_ hk))
   (case aO => exact (by exact rP HO115.out))
   (case aS => exact (below_size (by exact bB)))
   (case aL => have := LMc13.out;have hlx_ := (show (l0.drop (x5_1 : Int).toNat).length = (l0.length - x5_1.toNat) from List.length_drop);omega)
   intro v118 w25 ho hb hg hat
   rw [← Ny117.out] at ho
   have n0_ := aM (Kd.R_after (ok := (fun _ => True)) (by exact rP HO112.out) hg hat)
   have n1_ := aM (hb)
   have n2_ := aM (ho)
   clear HO112
   clear HB
   clear HO115
   have HO112 := n0_
   have HB := n1_
   have HO119 := n2_
   clear n0_ n1_ n2_
   clear ho hb hg hat
   refine hK.out _ _ trivial (fun hHeld => ?_)
   clear hK K
   refine norm_ (a' := ?_) ?_ ?_
   rotate_left
   ·show Act.put _ (some 44) _ = _
    simp only [Act.put, List.setIfInBounds_toArray, List.set_cons_zero, List.set_cons_succ, i64_w, i32_w]
    rfl
   refine pure_ (i := 12) (N := some 4) (v := ?_) (a' := ?_) #[true,true,true,true,true,true,true,true,true,true,true,true,true] rfl rfl (any_of HT_.out (by kernel_rfl)) (fun _ _ _ h => h) (Or.inl ⟨by rfl, ?_⟩) ?_ ?_
   rotate_left
   ·intro w'
    go_simp
    with_reducible rfl
   rotate_left
   ·exact aP
   refine done_ (done_of HT_.out (by kernel_rfl)) ?_
   try go_wp2
   go_ret
   exact ⟨_, rfl, by exact bB, .inr (by refine rP ?_;exact Kd.R_mono HO119.out (fun _ hk => trivial))⟩

def insL : List Int → Int → List Int
 | [], a => [a]
 | x :: xs, a => if x < a then x :: insL xs a else if x = a then x :: xs else a :: x :: xs
def spec_l1Put.f (l0 : List Int) (a1 : Int) : Option (List Int) := if l0.length < 17592186044415 then some (insL l0 a1) else none
theorem insL_app {p s : List Int} {a : Int} (h : ∀ x ∈ p, x < a) : insL (p ++ s) a = p ++ insL s a := by
 induction p with
 | nil => rfl
 | cons x p ih =>
  have h1 := h x (by simp)
  simp only [List.cons_append, insL, h1, ↓reduceIte]
  rw [ih (fun y hy => h y (by simp [hy]))]
theorem l1PutE_loop (l : List Int) (a : Int) (hl : l.length < 17592186044415) : ∀ (s p : List Int), l = p ++ s → (∀ x ∈ p, x < a) → ∃ k, spec_l1PutE.l0 k l a (p.length : Int) = some (insL l a) := by
 intro s
 induction s with
 | nil =>
  intro p hp hx
  subst hp
  refine ⟨1, ?_⟩
  have e := insL_app (s := []) hx
  simp only [List.append_nil] at e hl
  have h1 : ¬ ((p.length : Int) < (p.length : Int)) := by omega
  have h2 : p.length < 17592186044416 := by omega
  have h3 : p.length + 1 < 17592186044416 := by omega
  simp [spec_l1PutE.l0, e, insL, h2, h3]
 | cons y s ih =>
  intro p hp hx
  have e := insL_app (s := y :: s) hx
  have hlen : l.length = p.length + s.length + 1 := by rw [hp];simp;omega
  have h1 : ((p.length : Int) < (l.length : Int)) := by omega
  have h2 : (0 : Int) ≤ p.length := by omega
  have h3 : rd l (p.length : Int) = y := by rw [hp];simp [rd]
  by_cases c : y < a
  ·obtain ⟨k, hk⟩ := ih (p ++ [y]) (by simp [hp]) (by intro x hx';rcases List.mem_append.1 hx' with h | h;exact hx x h;simp at h;omega)
   refine ⟨k + 1, ?_⟩
   have hw : wrap64 ((p.length : Int) + 1) = ((p ++ [y]).length : Int) := by rw [w64 (by omega) (by omega)];simp
   simp only [spec_l1PutE.l0, h1, h2, h3, c, ↓reduceIte, hw]
   exact hk
  ·by_cases c2 : y = a
   ·refine ⟨1, ?_⟩
    subst c2
    simp only [spec_l1PutE.l0, h1, h2, h3, c, ↓reduceIte]
    rw [hp, e]
    simp [insL]
   ·refine ⟨1, ?_⟩
    have h4 : ((p.length : Int) ≤ (l.length : Int)) := by omega
    have h5 : p.length < 17592186044416 := by omega
    have h6 : p.length + 1 < 17592186044416 := by omega
    have h7 : p.length + 1 + (s.length + 1) < 17592186044416 := by omega
    rw [hp] at h1 h3 h4 ⊢
    rw [e]
    simp only [spec_l1PutE.l0, h1, h2, h3, h4, c, c2, ↓reduceIte, insL]
    simp [h5, h6, h7]
theorem l1PutE_ev (l : List Int) (a : Int) (hl : l.length < 17592186044415) : ∃ k, spec_l1PutE.f k l a = some (insL l a) := by
 obtain ⟨k, hk⟩ := l1PutE_loop l a hl l [] rfl (by simp)
 exact ⟨k, hk⟩
theorem spec_l1Put.calls (P0_ : Nat → Prop) (u9000_ : Value) (l0 : List Int) (a1 : Int) (r : List Int) (w0 w : World) (hB : Below w0.heap.size w0 w) (ho0 : Kd.R (Kd.int .i64) 3 w w0.heap.size P0_ u9000_ l0) (h : spec_l1Put.f l0 a1 = some r) :
  Calls Try.prog 144 #[u9000_, .int .i64 a1] w fun e w' => ∃ v0_ : Value, e = .returned (v0_) ∧ Kd.R (Kd.int .i64) 3 w' w0.heap.size (fun k_ => (P0_ k_ ∨ w.heap.size ≤ k_)) v0_ r ∧ Below w0.heap.size w0 w' ∧ Kept w w' (fun k_ => P0_ k_) := by
 obtain ⟨A, c, rfl, hlc, hC⟩ := Kd.R_reads ho0
 unfold spec_l1Put.f at h
 split at h
 case isFalse => cases h
 case isTrue hl =>
 obtain ⟨k, hk⟩ := l1PutE_ev l0 a1 hl
 rw [h] at hk
 refine (spec_l1PutE.calls k A c l0 a1 r w hC hlc hk).mono ?_
 rintro e w' ⟨v, rfl, hb, h2⟩
 refine ⟨v, rfl, ?_, hB.trans (hb.mono hB.size), Kept.of_below hb _⟩
 rcases h2 with ⟨rfl, rfl⟩ | h2
 ·exact Kd.R_mono (Kd.R_below ho0 hb) (fun _ hk => .inl hk)
 ·exact Kd.R_lower (Kd.R_mono (Kd.R_bound h2) (fun _ hk => .inr hk.2.1)) hB.size


/-! ### impl_within: function 82 -/
def impl_within.f (a0 : Int) (a1 : Int) (a2 : Int) : Option (Bool) := if a0 ≥ a1 then (some (decide (a0 ≤ a2))) else (some false)
set_option maxHeartbeats 8000000 in
set_option maxRecDepth 100000 in
theorem impl_within.calls (a0 : Int) (a1 : Int) (a2 : Int) (r : Bool) (w : World) (h : impl_within.f a0 a1 a2 = some r) :
  Calls Try.prog 82 #[.int .i64 a0, .int .i64 a1, .int .i64 a2] w fun e w' => e = .returned (.bool r) ∧ Drawn0 w w' := by
 have H : (if a0 ≥ a1 then (some (decide (a0 ≤ a2))) else (some false)) = some r := h
 clear h
 by_cases c4 : a0 ≥ a1
 rotate_left
 ·rw [if_neg c4] at H
  have c4b0 : decide (a1 ≤ a0) = false := decide_eq_false c4
  clear c4
  obtain rfl := Option.some.inj H
  go_enter Try.func82, Try.ntmps82
  go_wp2
  go_ret
  exact ⟨by first | rfl | (simp;done) | (simp [*];done), by repeat (first | exact Drawn0.refl _ | apply Drawn0.step)⟩
 rw [if_pos c4] at H
 have c4b0 : decide (a1 ≤ a0) = true := decide_eq_true c4
 clear c4
 obtain rfl := Option.some.inj H
 go_enter Try.func82, Try.ntmps82
 go_wp2
 go_ret
 exact ⟨by first | rfl | (simp;done) | (simp [*];done), by repeat (first | exact Drawn0.refl _ | apply Drawn0.step)⟩


/-! ### cmp_isNaN_int: function 157 -/
def cmp_isNaN_int.f (a0 : Int) : Option (Bool) := some (a0 != a0)
set_option maxHeartbeats 8000000 in
set_option maxRecDepth 100000 in
theorem cmp_isNaN_int.calls (a0 : Int) (r : Bool) (w : World) (h : cmp_isNaN_int.f a0 = some r) :
  Calls Try.prog 157 #[.int .i64 a0] w fun e w' => e = .returned (.bool r) ∧ Drawn0 w w' := by
 have H : (some (a0 != a0)) = some r := h
 clear h
 obtain rfl := Option.some.inj H
 go_enter Try.func157, Try.ntmps157
 go_wp2
 go_ret
 exact ⟨by first | rfl | (simp;done) | (simp [*];done), by repeat (first | exact Drawn0.refl _ | apply Drawn0.step)⟩


/-! ### cmp_Compare_int: function 150 -/
def cmp_Compare_int.f (a0 : Int) (a1 : Int) : Option (Int) := (cmp_isNaN_int.f a0).bind fun t266 => ((cmp_isNaN_int.f a1).bind fun t267 => (if t266 = true then (if t267 = true then (some 0) else (some (-1))) else (if t267 = true then (some 1) else (if a0 < a1 then (some (-1)) else (if a0 > a1 then (some 1) else (some 0))))))
set_option maxHeartbeats 8000000 in
set_option maxRecDepth 100000 in
theorem cmp_Compare_int.calls (a0 : Int) (a1 : Int) (r : Int) (w : World) (h : cmp_Compare_int.f a0 a1 = some r) :
  Calls Try.prog 150 #[.int .i64 a0, .int .i64 a1] w fun e w' => e = .returned (.int .i64 r) ∧ Drawn0 w w' := by
 have H : ((cmp_isNaN_int.f a0).bind fun t266 => ((cmp_isNaN_int.f a1).bind fun t267 => (if t266 = true then (if t267 = true then (some 0) else (some (-1))) else (if t267 = true then (some 1) else (if a0 < a1 then (some (-1)) else (if a0 > a1 then (some 1) else (some 0))))))) = some r := h
 clear h
 replace H := Option.bind_eq_some_iff.mp H
 obtain ⟨t266, A30, H⟩ := H
 replace H : ((cmp_isNaN_int.f a1).bind fun t267 => (if t266 = true then (if t267 = true then (some 0) else (some (-1))) else (if t267 = true then (some 1) else (if a0 < a1 then (some (-1)) else (if a0 > a1 then (some 1) else (some 0)))))) = some r := H
 have A3 := Aside0.mk A30
 clear A30
 replace H := Option.bind_eq_some_iff.mp H
 obtain ⟨t267, A40, H⟩ := H
 replace H : (if t266 = true then (if t267 = true then (some 0) else (some (-1))) else (if t267 = true then (some 1) else (if a0 < a1 then (some (-1)) else (if a0 > a1 then (some 1) else (some 0))))) = some r := H
 have A4 := Aside0.mk A40
 clear A40
 by_cases c5 : t266 = true
 ·subst c5
  have H1 : (if t267 = true then (some 0) else (some (-1))) = some r := by rw [if_pos rfl] at H;exact H
  clear H
  have H := H1
  clear H1
  by_cases c6 : t267 = true
  ·subst c6
   have H1 : (some 0) = some r := by rw [if_pos rfl] at H;exact H
   clear H
   have H := H1
   clear H1
   obtain rfl := Option.some.inj H
   go_enter Try.func150, Try.ntmps150
   go_wp2_with (first | ((with_reducible refine gate_callee (f := 157) rfl ?_);refine goesL_ (some 8) rfl rfl Try.func157 (by kernel_rfl) rfl #[.int .i64 a0] rfl mM ?_;(with_reducible refine (cmp_isNaN_int.calls a0 true _ A3.out).mono ?_);rintro e w' ⟨rfl, ⟨nd, rfl⟩⟩;refine ⟨_, rfl, ?_⟩) | ((with_reducible refine gate_callee (f := 157) rfl ?_);refine goesL_ (some 10) rfl rfl Try.func157 (by kernel_rfl) rfl #[.int .i64 a1] rfl mM ?_;(with_reducible refine (cmp_isNaN_int.calls a1 true _ A4.out).mono ?_);rintro e w' ⟨rfl, ⟨nd, rfl⟩⟩;refine ⟨_, rfl, ?_⟩))
   go_ret
   exact ⟨by first | rfl | (simp;done) | (simp [*];done), by repeat (first | exact Drawn0.refl _ | apply Drawn0.step)⟩
  replace c6 := Bool.eq_false_iff.mpr c6
  subst c6
  have H1 : (some (-1)) = some r := by rw [if_neg (show ¬ (false = true) by decide)] at H;exact H
  clear H
  have H := H1
  clear H1
  obtain rfl := Option.some.inj H
  go_enter Try.func150, Try.ntmps150
  go_wp2_with (first | ((with_reducible refine gate_callee (f := 157) rfl ?_);refine goesL_ (some 8) rfl rfl Try.func157 (by kernel_rfl) rfl #[.int .i64 a0] rfl mM ?_;(with_reducible refine (cmp_isNaN_int.calls a0 true _ A3.out).mono ?_);rintro e w' ⟨rfl, ⟨nd, rfl⟩⟩;refine ⟨_, rfl, ?_⟩) | ((with_reducible refine gate_callee (f := 157) rfl ?_);refine goesL_ (some 10) rfl rfl Try.func157 (by kernel_rfl) rfl #[.int .i64 a1] rfl mM ?_;(with_reducible refine (cmp_isNaN_int.calls a1 false _ A4.out).mono ?_);rintro e w' ⟨rfl, ⟨nd, rfl⟩⟩;refine ⟨_, rfl, ?_⟩))
  go_ret
  exact ⟨by first | rfl | (simp;done) | (simp [*];done), by repeat (first | exact Drawn0.refl _ | apply Drawn0.step)⟩
 replace c5 := Bool.eq_false_iff.mpr c5
 subst c5
 have H1 : (if t267 = true then (some 1) else (if a0 < a1 then (some (-1)) else (if a0 > a1 then (some 1) else (some 0)))) = some r := by rw [if_neg (show ¬ (false = true) by decide)] at H;exact H
 clear H
 have H := H1
 clear H1
 by_cases c7 : t267 = true
 ·subst c7
  have H1 : (some 1) = some r := by rw [if_pos rfl] at H;exact H
  clear H
  have H := H1
  clear H1
  obtain rfl := Option.some.inj H
  go_enter Try.func150, Try.ntmps150
  go_wp2_with (first | ((with_reducible refine gate_callee (f := 157) rfl ?_);refine goesL_ (some 8) rfl rfl Try.func157 (by kernel_rfl) rfl #[.int .i64 a0] rfl mM ?_;(with_reducible refine (cmp_isNaN_int.calls a0 false _ A3.out).mono ?_);rintro e w' ⟨rfl, ⟨nd, rfl⟩⟩;refine ⟨_, rfl, ?_⟩) | ((with_reducible refine gate_callee (f := 157) rfl ?_);refine goesL_ (some 10) rfl rfl Try.func157 (by kernel_rfl) rfl #[.int .i64 a1] rfl mM ?_;(with_reducible refine (cmp_isNaN_int.calls a1 true _ A4.out).mono ?_);rintro e w' ⟨rfl, ⟨nd, rfl⟩⟩;refine ⟨_, rfl, ?_⟩))
  go_ret
  exact ⟨by first | rfl | (simp;done) | (simp [*];done), by repeat (first | exact Drawn0.refl _ | apply Drawn0.step)⟩
 replace c7 := Bool.eq_false_iff.mpr c7
 subst c7
 have H1 : (if a0 < a1 then (some (-1)) else (if a0 > a1 then (some 1) else (some 0))) = some r := by rw [if_neg (show ¬ (false = true) by decide)] at H;exact H
 clear H
 have H := H1
 clear H1
 by_cases c8 : a0 < a1
 ·rw [if_pos c8] at H
  have c8b0 : decide (a0 < a1) = true := decide_eq_true c8
  clear c8
  obtain rfl := Option.some.inj H
  go_enter Try.func150, Try.ntmps150
  go_wp2_with (first | ((with_reducible refine gate_callee (f := 157) rfl ?_);refine goesL_ (some 8) rfl rfl Try.func157 (by kernel_rfl) rfl #[.int .i64 a0] rfl mM ?_;(with_reducible refine (cmp_isNaN_int.calls a0 false _ A3.out).mono ?_);rintro e w' ⟨rfl, ⟨nd, rfl⟩⟩;refine ⟨_, rfl, ?_⟩) | ((with_reducible refine gate_callee (f := 157) rfl ?_);refine goesL_ (some 10) rfl rfl Try.func157 (by kernel_rfl) rfl #[.int .i64 a1] rfl mM ?_;(with_reducible refine (cmp_isNaN_int.calls a1 false _ A4.out).mono ?_);rintro e w' ⟨rfl, ⟨nd, rfl⟩⟩;refine ⟨_, rfl, ?_⟩))
  go_ret
  exact ⟨by first | rfl | (simp;done) | (simp [*];done), by repeat (first | exact Drawn0.refl _ | apply Drawn0.step)⟩
 rw [if_neg c8] at H
 have c8b0 : decide (a0 < a1) = false := decide_eq_false c8
 clear c8
 by_cases c9 : a0 > a1
 rotate_left
 ·rw [if_neg c9] at H
  have c9b0 : decide (a1 < a0) = false := decide_eq_false c9
  clear c9
  obtain rfl := Option.some.inj H
  go_enter Try.func150, Try.ntmps150
  go_wp2_with (first | ((with_reducible refine gate_callee (f := 157) rfl ?_);refine goesL_ (some 8) rfl rfl Try.func157 (by kernel_rfl) rfl #[.int .i64 a0] rfl mM ?_;(with_reducible refine (cmp_isNaN_int.calls a0 false _ A3.out).mono ?_);rintro e w' ⟨rfl, ⟨nd, rfl⟩⟩;refine ⟨_, rfl, ?_⟩) | ((with_reducible refine gate_callee (f := 157) rfl ?_);refine goesL_ (some 10) rfl rfl Try.func157 (by kernel_rfl) rfl #[.int .i64 a1] rfl mM ?_;(with_reducible refine (cmp_isNaN_int.calls a1 false _ A4.out).mono ?_);rintro e w' ⟨rfl, ⟨nd, rfl⟩⟩;refine ⟨_, rfl, ?_⟩))
  go_ret
  exact ⟨by first | rfl | (simp;done) | (simp [*];done), by repeat (first | exact Drawn0.refl _ | apply Drawn0.step)⟩
 rw [if_pos c9] at H
 have c9b0 : decide (a1 < a0) = true := decide_eq_true c9
 clear c9
 obtain rfl := Option.some.inj H
 go_enter Try.func150, Try.ntmps150
 go_wp2_with (first | ((with_reducible refine gate_callee (f := 157) rfl ?_);refine goesL_ (some 8) rfl rfl Try.func157 (by kernel_rfl) rfl #[.int .i64 a0] rfl mM ?_;(with_reducible refine (cmp_isNaN_int.calls a0 false _ A3.out).mono ?_);rintro e w' ⟨rfl, ⟨nd, rfl⟩⟩;refine ⟨_, rfl, ?_⟩) | ((with_reducible refine gate_callee (f := 157) rfl ?_);refine goesL_ (some 10) rfl rfl Try.func157 (by kernel_rfl) rfl #[.int .i64 a1] rfl mM ?_;(with_reducible refine (cmp_isNaN_int.calls a1 false _ A4.out).mono ?_);rintro e w' ⟨rfl, ⟨nd, rfl⟩⟩;refine ⟨_, rfl, ?_⟩))
 go_ret
 exact ⟨by first | rfl | (simp;done) | (simp [*];done), by repeat (first | exact Drawn0.refl _ | apply Drawn0.step)⟩


/-! ### slices_Compare_int_int: function 106 -/
def slices_Compare_int_int.l0 : Nat → List Int → List Int → List Int → Int → Int → Option (Int)
 | 0, _, _, _, _, _ => none
 | k + 1, x0, x1, x9, x10, x11 => if x11 < x10 then (if 0 ≤ x11 then (if x11 < (x9.length : Int) then (if x11 ≥ (x1.length : Int) then (some 1) else (if x11 < (x1.length : Int) then ((cmp_Compare_int.f (rd x9 x11) (rd x1 x11)).bind fun t270 => (if t270 = 0 then (slices_Compare_int_int.l0 k x0 x1 x9 x10 (wrap64 (x11 + 1))) else (some t270))) else (none))) else (none)) else (none)) else (if (x0.length : Int) < (x1.length : Int) then (some (-1)) else (some 0))
def slices_Compare_int_int.f (k : Nat) (l0 : List Int) (l1 : List Int) : Option (Int) := slices_Compare_int_int.l0 k l0 l1 l0 (l0.length : Int) 0
theorem slices_Compare_int_int.mono_l : ∀ k, (∀ y0 y1 y2 y3 y4, LeO (slices_Compare_int_int.l0 k y0 y1 y2 y3 y4) (slices_Compare_int_int.l0 (k + 1) y0 y1 y2 y3 y4))
 | 0 => fun _ _ _ _ _ r h => by simp [slices_Compare_int_int.l0] at h
 | k + 1 => by
  have ih0 := slices_Compare_int_int.mono_l k
  ·intro y0 y1 y2 y3 y4
   unfold slices_Compare_int_int.l0
   repeat' first
   | (with_reducible exact ih0 _ _ _ _ _)
   | (with_reducible exact LeO.refl _)
   | (with_reducible exact LeO.none _)
   | (with_reducible refine LeO.ite ?_ ?_)
   | (with_reducible refine LeO.bind ?_ (fun _ => ?_))
   | exact LeO.none _
   | refine LeO.ite ?_ ?_
   | refine LeO.bind ?_ (fun _ => ?_)
theorem slices_Compare_int_int.mono : ∀ a0 a1 k, LeO (slices_Compare_int_int.f k a0 a1) (slices_Compare_int_int.f (k + 1) a0 a1) := by
 intro a0 a1 k
 have ih0 := slices_Compare_int_int.mono_l k
 unfold slices_Compare_int_int.f
 repeat' first
   | (with_reducible exact ih0 _ _ _ _ _)
   | (with_reducible exact LeO.refl _)
   | (with_reducible exact LeO.none _)
   | (with_reducible refine LeO.ite ?_ ?_)
   | (with_reducible refine LeO.bind ?_ (fun _ => ?_))
   | exact LeO.none _
   | refine LeO.ite ?_ ?_
   | refine LeO.bind ?_ (fun _ => ?_)
set_option maxHeartbeats 8000000 in
set_option maxRecDepth 100000 in
theorem slices_Compare_int_int.calls (k : Nat) (A0 : Option Addr) (c0 : Nat) (l0 : List Int) (A1 : Option Addr) (c1 : Nat) (l1 : List Int) (r : Int) (w : World) (hr0 : Kd.C (Kd.int .i64) w A0 l0.length l0) (hc0 : l0.length ≤ c0) (hr1 : Kd.C (Kd.int .i64) w A1 l1.length l1) (hc1 : l1.length ≤ c1) (h : slices_Compare_int_int.f k l0 l1 = some r) :
  Calls Try.prog 106 #[.slice A0 l0.length c0, .slice A1 l1.length c1] w fun e w' => e = .returned (.int .i64 r) ∧ Drawn0 w w' := by
 have HR0 := Aside0.mk hr0
 have HC0 := Aside0.mk hc0
 clear hr0 hc0
 have HR1 := Aside0.mk hr1
 have HC1 := Aside0.mk hc1
 clear hr1 hc1
 have H : (slices_Compare_int_int.l0 k l0 l1 l0 (l0.length : Int) 0) = some r := h
 clear h
 have H' := Aside0.mk H
 clear H
 go_enter Try.func106, Try.ntmps106
 go_wp2
 go_loopg [11] k (fun kq v11 w' => ∃ (x11_1 : Int), v11 = .int .i64 x11_1 ∧ Aside0 (slices_Compare_int_int.l0 kq l0 l1 l0 (l0.length : Int) x11_1 = some r) ∧ Aside0 (kq ≤ k) ∧ Drawn0 w w')
 case atStart => exact ⟨(0), (by first | rfl | (simp;done) | (simp [*];done)), H', ⟨Nat.le_refl _⟩, by repeat (first | exact Drawn0.refl _ | apply Drawn0.step)⟩
 case round =>
  clear H'
  try clear c1
  try clear p2
  obtain ⟨x11_1, rfl, HA, HK1, ⟨m1, rfl⟩⟩ := hrel
  cases gk with
  | zero => exact absurd HA.out (by simp [slices_Compare_int_int.l0])
  | succ k1 =>
   have H := HA.out
   clear HA
   simp only [slices_Compare_int_int.l0] at H
   by_cases c3 : x11_1 < (l0.length : Int)
   rotate_left
   ·rw [if_neg c3] at H
    have c3b0 : decide (x11_1 < (l0.length : Int)) = false := decide_eq_false c3
    clear c3
    by_cases c10 : (l0.length : Int) < (l1.length : Int)
    rotate_left
    ·rw [if_neg c10] at H
     have c10b0 : decide ((l0.length : Int) < (l1.length : Int)) = false := decide_eq_false c10
     have c10b1 : decide (l0.length < l1.length) = false := decide_eq_false (fun h => c10 (Int.ofNat_lt.mpr h))
     clear c10
     obtain rfl := Option.some.inj H
     go_wp2
     go_ret
     exact ⟨by first | rfl | (simp;done) | (simp [*];done), by repeat (first | exact Drawn0.refl _ | apply Drawn0.step)⟩
    rw [if_pos c10] at H
    have c10b0 : decide ((l0.length : Int) < (l1.length : Int)) = true := decide_eq_true c10
    have c10b1 : decide (l0.length < l1.length) = true := decide_eq_true (Int.ofNat_lt.mp c10)
    clear c10
    obtain rfl := Option.some.inj H
    go_wp2
    go_ret
    exact ⟨by first | rfl | (simp;done) | (simp [*];done), by repeat (first | exact Drawn0.refl _ | apply Drawn0.step)⟩
   rw [if_pos c3] at H
   have c3b0 : decide (x11_1 < (l0.length : Int)) = true := decide_eq_true c3
   clear c3
   by_cases c4 : 0 ≤ x11_1
   rotate_left
   ·rw [if_neg c4] at H
    exact absurd H (by simp)
   rw [if_pos c4] at H
   have c4b0 : decide (0 ≤ x11_1) = true := decide_eq_true c4
   clear c4
   by_cases c5 : x11_1 < (l0.length : Int)
   rotate_left
   ·rw [if_neg c5] at H
    exact absurd H (by simp)
   rw [if_pos c5] at H
   have c5b0 : decide (x11_1 < (l0.length : Int)) = true := decide_eq_true c5
   clear c5
   by_cases c6 : x11_1 ≥ (l1.length : Int)
   ·rw [if_pos c6] at H
    have c6b0 : decide ((l1.length : Int) ≤ x11_1) = true := decide_eq_true c6
    clear c6
    obtain rfl := Option.some.inj H
    have p268 : 0 ≤ (x11_1 : Int) := oA
    have q268 : x11_1 < (l0.length : Int) := oA
    obtain ⟨ad268, e268, hx268_0⟩ := Kd.at_int HR0.out x11_1 p268 q268
    cases e268
    replace p268 := eq_true p268
    replace q268 := eq_true q268
    go_wp2
    go_ret
    exact ⟨by first | rfl | (simp;done) | (simp [*];done), by repeat (first | exact Drawn0.refl _ | apply Drawn0.step)⟩
   rw [if_neg c6] at H
   have c6b0 : decide ((l1.length : Int) ≤ x11_1) = false := decide_eq_false c6
   clear c6
   by_cases c7 : x11_1 < (l1.length : Int)
   rotate_left
   ·rw [if_neg c7] at H
    exact absurd H (by simp)
   rw [if_pos c7] at H
   have c7b0 : decide (x11_1 < (l1.length : Int)) = true := decide_eq_true c7
   clear c7
   replace H := Option.bind_eq_some_iff.mp H
   obtain ⟨t270, A80, H⟩ := H
   replace H : (if t270 = 0 then (slices_Compare_int_int.l0 k1 l0 l1 l0 (l0.length : Int) (wrap64 (x11_1 + 1))) else (some t270)) = some r := H
   have A8 := Aside0.mk A80
   clear A80
   by_cases c9 : t270 = 0
   rotate_left
   ·rw [if_neg c9] at H
    have c9b0 : (t270 == 0) = false := beq_eq_false_iff_ne.mpr c9
    have c9b1 : (t270 != 0) = true := bne_iff_ne.mpr c9
    obtain rfl := Option.some.inj H
    have p268 : 0 ≤ (x11_1 : Int) := oA
    have q268 : x11_1 < (l0.length : Int) := oA
    obtain ⟨ad268, e268, hx268_0⟩ := Kd.at_int HR0.out x11_1 p268 q268
    cases e268
    replace p268 := eq_true p268
    replace q268 := eq_true q268
    have p269 : 0 ≤ (x11_1 : Int) := oA
    have q269 : x11_1 < (l1.length : Int) := oA
    obtain ⟨ad269, e269, hx269_0⟩ := Kd.at_int HR1.out x11_1 p269 q269
    cases e269
    replace p269 := eq_true p269
    replace q269 := eq_true q269
    go_wp2_with (first | ((with_reducible refine gate_callee (f := 150) rfl ?_);refine goesL_ (some 26) rfl rfl Try.func150 (by kernel_rfl) rfl #[.int .i64 (rd l0 x11_1), .int .i64 (rd l1 x11_1)] rfl mM ?_;(with_reducible refine (cmp_Compare_int.calls (rd l0 x11_1) (rd l1 x11_1) t270 _ A8.out).mono ?_);rintro e w' ⟨rfl, ⟨nd, rfl⟩⟩;refine ⟨_, rfl, ?_⟩))
    go_ret
    exact ⟨by first | rfl | (simp;done) | (simp [*];done), by repeat (first | exact Drawn0.refl _ | apply Drawn0.step)⟩
   rw [if_pos c9] at H
   have c9b0 : (t270 == 0) = true := beq_iff_eq.mpr c9
   have c9b1 : (t270 != 0) = false := bne_eq_false_iff_eq.mpr c9
   clear c9
   have H' := Aside0.mk H
   clear H
   have p268 : 0 ≤ (x11_1 : Int) := oA
   have q268 : x11_1 < (l0.length : Int) := oA
   obtain ⟨ad268, e268, hx268_0⟩ := Kd.at_int HR0.out x11_1 p268 q268
   cases e268
   replace p268 := eq_true p268
   replace q268 := eq_true q268
   have p269 : 0 ≤ (x11_1 : Int) := oA
   have q269 : x11_1 < (l1.length : Int) := oA
   obtain ⟨ad269, e269, hx269_0⟩ := Kd.at_int HR1.out x11_1 p269 q269
   cases e269
   replace p269 := eq_true p269
   replace q269 := eq_true q269
   go_wp2_with (first | ((with_reducible refine gate_callee (f := 150) rfl ?_);refine goesL_ (some 26) rfl rfl Try.func150 (by kernel_rfl) rfl #[.int .i64 (rd l0 x11_1), .int .i64 (rd l1 x11_1)] rfl mM ?_;(with_reducible refine (cmp_Compare_int.calls (rd l0 x11_1) (rd l1 x11_1) t270 _ A8.out).mono ?_);rintro e w' ⟨rfl, ⟨nd, rfl⟩⟩;refine ⟨_, rfl, ?_⟩))
   go_roundg k1
   case measure => have := HK1.out;omega
   case rel => exact ⟨(wrap64 (x11_1 + 1)), (by first | rfl | (simp;done) | (simp [*];done)), H', ⟨by have := HK1.out;omega⟩, by repeat (first | exact Drawn0.refl _ | apply Drawn0.step)⟩


/-! ### impl_IsGraph: by hand -/
theorem C_two {w : World} {a : Addr} {x y : Int} (h0 : w.cell? a = some (.int .i64 x)) (h1 : w.cell? (a.add 1) = some (.int .i64 y)) : Kd.C (Kd.int .i64) w (some a) ([x, y] : List Int).length [x, y] := by
 refine ⟨rfl, ?_, fun _ => ⟨a, rfl, ?_⟩⟩
 ·simp
 ·intro j p hj
  match j, hj with
  | 0, hj => 
   simp at hj;subst hj
   exact ⟨[.int .i64 x], rfl, rfl, fun i u hu => by
    match i, hu with
    | 0, hu => simp at hu;subst hu;simpa [Addr.add] using h0⟩
  | 1, hj =>
   simp at hj;subst hj
   exact ⟨[.int .i64 y], rfl, rfl, fun i u hu => by
    match i, hu with
    | 0, hu => simp at hu;subst hu;simpa [Addr.add, Kd.int, Kd.scalar] using h1⟩
theorem cmp2 (a b c d : Int) : ∃ k r, slices_Compare_int_int.f k [a, b] [c, d] = some r ∧ (r < 0 ↔ (a < c ∨ a = c ∧ b < d)) := by
 have hc : ∀ x y, cmp_Compare_int.f x y = some (if x < y then -1 else if x > y then 1 else 0) := by
  intro x y;simp [cmp_Compare_int.f, cmp_isNaN_int.f];split <;> (try split) <;> rfl
 have w1 : wrap64 (0 + 1) = 1 := by unfold wrap64;omega
 have w2 : wrap64 (1 + 1) = 2 := by unfold wrap64;omega
 refine ⟨3, if a < c then -1 else if a > c then 1 else if b < d then -1 else if b > d then 1 else 0, ?_, ?_⟩
 ·simp only [slices_Compare_int_int.f, slices_Compare_int_int.l0, hc]
  simp only [rd, w1, w2, Option.bind_some, List.length_cons, List.length_nil]
  by_cases h1 : a < c
  ·simp [h1]
  ·by_cases h2 : c < a
   ·simp [h1, h2]
   ·by_cases h3 : b < d
    ·simp [h1, h2, h3]
    ·by_cases h4 : d < b
     ·simp [h1, h2, h3, h4]
     ·simp [h1, h2, h3, h4]
 ·split
  ·simp;omega
  ·split
   ·simp;omega
   ·split
    ·simp;omega
    ·split <;> simp <;> omega
def impl_IsGraph.f (a0_0 : Int) (l0_1 : List S119) : Option Bool := some (decide (0 ≤ a0_0 ∧ a0_0 ≤ 8) && goodL a0_0 none l0_1)
set_option maxHeartbeats 8000000 in
set_option maxRecDepth 100000 in
theorem impl_IsGraph.calls (a0_0 : Int) (A0_1 : Option Addr) (c0_1 : Nat) (l0_1 : List (S119)) (r : Bool) (w : World) (hr0_1 : Kd.C k119 w A0_1 l0_1.length l0_1) (hc0_1 : l0_1.length ≤ c0_1) (h : impl_IsGraph.f a0_0 l0_1 = some r) :
  Calls Try.prog 81 #[.agg #[.int .i64 a0_0, .slice A0_1 l0_1.length c0_1]] w fun e w' => e = .returned (.bool r) ∧ Below w.heap.size w w' := by
 have HR := Aside0.mk hr0_1
 have HC := Aside0.mk hc0_1
 have H := aM (Option.some.inj h)
 clear hr0_1 hc0_1 h
 by_cases hn : 0 ≤ a0_0 ∧ a0_0 ≤ 8
 ·have hw : impl_within.f a0_0 0 8 = some true := by simp [impl_within.f, hn]
  have H1 : Aside0 (goodL a0_0 none l0_1 = r) := ⟨by have := H.out;simpa [hn] using this⟩
  have HW := Aside0.mk hw
  clear hw H
  go_enter Try.func81, Try.ntmps81
  go_wp2_with (go_at_call 82;refine (impl_within.calls _ _ _ _ _ HW.out).mono ?_;rintro e w' ⟨rfl, ⟨nd, rfl⟩⟩)
  have HB : Aside0 (Below w.heap.size w ((w.alloc (Obj.cells #[Value.int IntKind.i64 a0_0, Value.slice A0_1 l0_1.length c0_1] 31)).drewN nd)) := ⟨pw_below_drewN (below_alloc (Below.refl _ _) _) _⟩
  go_loopw [12] (fun v wr => ∃ x : Int, v = .int .i64 x ∧ Aside0 (0 ≤ x ∧ x ≤ l0_1.length) ∧ Aside0 (goodL a0_0 (prevAt l0_1 x.toNat) (l0_1.drop x.toNat) = r) ∧ Aside0 (wr.heap[w.heap.size]? = some (.cells #[.int .i64 a0_0, .slice A0_1 l0_1.length c0_1] 31 (0, 0))) ∧ Aside0 (Below w.heap.size w wr)) (fun v _ => l0_1.length - (intOf v).toNat)
  case atStart => exact ⟨0, rfl, ⟨by omega, by omega⟩, ⟨by simpa [prevAt] using H1.out⟩, ⟨blk_drewN (blk_new w _) _⟩, HB⟩
  case round =>
   clear HB H1
   obtain ⟨x, rfl, HX, HG, BK, HB⟩ := hrel
   have hcz0 : wr.cell? ⟨w.heap.size, 0, none⟩ = some (.int .i64 a0_0) := (blk_cell BK.out 0).trans rfl
   have hcz1 : wr.cell? ⟨w.heap.size, 1, none⟩ = some (.slice A0_1 l0_1.length c0_1) := (blk_cell BK.out 1).trans rfl
   by_cases hlt : x < (l0_1.length : Int)
   ·have hlt' : decide (x < (l0_1.length : Int)) = true := decide_eq_true hlt
    have p0 : 0 ≤ x := HX.out.1
    obtain ⟨ad, e, hx0, hx1⟩ := at_T119 HR.out x p0 hlt
    cases e
    replace hx0 := (HB.out.cell (World.block_lt_of_cell? w _ hx0)).trans hx0
    replace hx1 := (HB.out.cell (World.block_lt_of_cell? w _ hx1)).trans hx1
    replace p0 := eq_true p0
    have hlt'' := eq_true hlt
    have HL := Aside0.mk hlt
    have hsz : w.heap.size < wr.heap.size := blk_lt BK.out
    clear hlt
    go_wp2
    by_cases t0 : (rd_T119 l0_1 x).f0 < 0
    ·have d0 : decide ((rd_T119 l0_1 x).f0 < 0) = true := decide_eq_true t0
     have hr : r = false := by rw [← HG.out, step_lt HX.out.1 HL.out];simp [edgeOk];omega
     subst hr
     clear t0
     go_quiet (fail)
     go_wp2
     go_ret
     exact ⟨rfl, by repeat (first | exact HB.out | apply below_alloc | apply pw_below_drewN | apply below_drew)⟩
    have d0 : decide ((rd_T119 l0_1 x).f0 < 0) = false := decide_eq_false t0
    by_cases t1 : (rd_T119 l0_1 x).f1 ≤ (rd_T119 l0_1 x).f0
    ·have d1 : decide ((rd_T119 l0_1 x).f1 ≤ (rd_T119 l0_1 x).f0) = true := decide_eq_true t1
     have hr : r = false := by rw [← HG.out, step_lt HX.out.1 HL.out];simp [edgeOk];omega
     subst hr
     clear t0 t1
     go_quiet (fail)
     go_wp2
     go_ret
     exact ⟨rfl, by repeat (first | exact HB.out | apply below_alloc | apply pw_below_drewN | apply below_drew)⟩
    have d1 : decide ((rd_T119 l0_1 x).f1 ≤ (rd_T119 l0_1 x).f0) = false := decide_eq_false t1
    by_cases t2 : a0_0 ≤ (rd_T119 l0_1 x).f1
    ·have d2 : decide (a0_0 ≤ (rd_T119 l0_1 x).f1) = true := decide_eq_true t2
     have hr : r = false := by rw [← HG.out, step_lt HX.out.1 HL.out];simp [edgeOk];omega
     subst hr
     clear t0 t1 t2
     go_quiet (fail)
     go_wp2
     go_ret
     exact ⟨rfl, by repeat (first | exact HB.out | apply below_alloc | apply pw_below_drewN | apply below_drew)⟩
    have d2 : decide (a0_0 ≤ (rd_T119 l0_1 x).f1) = false := decide_eq_false t2
    by_cases t3 : 0 < x
    ·have d3 : decide (0 < x) = true := decide_eq_true t3
     have hj : wrap64 (x - 1) = x - 1 := by have h1 := HL.out;have h2 := HX.out;have h3 := HR.out.2.1;unfold wrap64;omega
     obtain ⟨ji, hji⟩ : ∃ j : Int, j = x - 1 := ⟨_, rfl⟩
     have hjw : IntKind.i64.wrap (x - 1) = ji := ((i64_w _).trans hj).trans hji.symm
     have p1 : 0 ≤ ji := by omega
     have q1 : ji < (l0_1.length : Int) := by have := HL.out;omega
     have HJ := Aside0.mk hji
     clear hj hji
     obtain ⟨ad', e', hy0, hy1⟩ := at_T119 HR.out ji p1 q1
     cases e'
     replace hy0 := (HB.out.cell (World.block_lt_of_cell? w _ hy0)).trans hy0
     replace hy1 := (HB.out.cell (World.block_lt_of_cell? w _ hy1)).trans hy1
     replace p1 := eq_true p1
     replace q1 := eq_true q1
     obtain ⟨k, c, hc, hlt⟩ := cmp2 (rd_T119 l0_1 ji).f0 (rd_T119 l0_1 ji).f1 (rd_T119 l0_1 x).f0 (rd_T119 l0_1 x).f1
     have HCMP := Aside0.mk hc
     have HY := aM (C_two hy0 hy1)
     clear hc
     by_cases t4 : 0 ≤ c
     ·have d4 : decide (0 ≤ c) = true := decide_eq_true t4
      have hr : r = false := by
       rw [← HG.out, step_lt HX.out.1 HL.out]
       have : edgeLt (rd_T119 l0_1 ji) (rd_T119 l0_1 x) = false := by
        by_cases he : edgeLt (rd_T119 l0_1 ji) (rd_T119 l0_1 x) = true
        ·exfalso;simp [edgeLt] at he;have := hlt.2 he;omega
        ·simpa using he
       have hp : prevAt l0_1 x.toNat = some (rd_T119 l0_1 ji) := by unfold prevAt;rw [if_neg (by omega), HJ.out];congr 2;omega
       rw [hp];simp [this]
      subst hr
      clear t0 t1 t2 t3 t4 hlt
      go_quiet ((first | (go_at_call 106;refine (slices_Compare_int_int.calls k (some _) 2 [_, _] (some _) 2 [_, _] c _ (Kd.C_below HY.out (pw_below_drewN (below_alloc (Below.refl _ _) _) _)) (Nat.le_refl _) (C_two (by simp [go_sem]) (by simp [go_sem, Addr.add])) (Nat.le_refl _) HCMP.out).mono ?_;rintro e w' ⟨rfl, ⟨nd, rfl⟩⟩;exact ⟨rfl, _, World.drewN_drewN _ _ _⟩)))
      go_wp2
      go_ret
      exact ⟨rfl, by repeat (first | exact HB.out | apply below_alloc | apply pw_below_drewN | apply below_drew)⟩
     ·have d4 : decide (0 ≤ c) = false := decide_eq_false t4
      have hr : Aside0 (goodL a0_0 (prevAt l0_1 (x + 1).toNat) (l0_1.drop (x + 1).toNat) = r) := ⟨by
       rw [← HG.out, step_lt HX.out.1 HL.out]
       have he : edgeLt (rd_T119 l0_1 ji) (rd_T119 l0_1 x) = true := by simp only [edgeLt, decide_eq_true_eq];exact hlt.1 (by omega)
       have hp : prevAt l0_1 x.toNat = some (rd_T119 l0_1 ji) := by unfold prevAt;rw [if_neg (by omega), HJ.out];congr 2;omega
       have ho : edgeOk a0_0 (rd_T119 l0_1 x) = true := by simp only [edgeOk, decide_eq_true_eq];omega
       rw [hp, ho];simp [he]⟩
      have HN : Aside0 (x + 1 ≤ l0_1.length ∧ x + 1 ≤ 9223372036854775807) := ⟨by have := HL.out;have := HR.out.2.1;omega⟩
      have hw1 : wrap64 (x + 1) = x + 1 := by have := HN.out;have := HX.out;unfold wrap64;omega
      have HW1 := Aside0.mk hw1
      clear t0 t1 t2 t3 t4 hlt hw1
      go_quiet ((first | (go_at_call 106;refine (slices_Compare_int_int.calls k (some _) 2 [_, _] (some _) 2 [_, _] c _ (Kd.C_below HY.out (pw_below_drewN (below_alloc (Below.refl _ _) _) _)) (Nat.le_refl _) (C_two (by simp [go_sem]) (by simp [go_sem, Addr.add])) (Nat.le_refl _) HCMP.out).mono ?_;rintro e w' ⟨rfl, ⟨nd, rfl⟩⟩;exact ⟨rfl, _, World.drewN_drewN _ _ _⟩)))
      go_wp2
      go_roundw
      case rel => exact ⟨x + 1, by rw [HW1.out], ⟨by have := HX.out;have := HN.out;omega⟩, hr, ⟨by refine kP ?_;exact BK.out⟩, ⟨by repeat (first | exact HB.out | apply below_alloc | apply pw_below_drewN | apply below_drew)⟩⟩
      case measure => have := HL.out;have := HX.out;rw [HW1.out];simp [intOf];omega
    ·have d3 : decide (0 < x) = false := decide_eq_false t3
     obtain rfl : x = 0 := by have := HX.out;omega
     have hr : Aside0 (goodL a0_0 (prevAt l0_1 1) (l0_1.drop 1) = r) := ⟨by rw [← HG.out, step_lt HX.out.1 HL.out];simp [edgeOk, prevAt];omega⟩
     clear t0 t1 t2 t3
     go_quiet (fail)
     go_wp2
     go_roundw
     case rel => exact ⟨1, rfl, ⟨by omega, by have := HL.out;omega⟩, hr, ⟨by refine kP ?_;exact BK.out⟩, ⟨by repeat (first | exact HB.out | apply below_alloc | apply pw_below_drewN | apply below_drew)⟩⟩
     case measure => have := HL.out;simp [intOf];omega
   ·have hlt' : decide (x < (l0_1.length : Int)) = false := decide_eq_false hlt
    obtain rfl : true = r := by have := HG.out;rw [List.drop_eq_nil_of_le (by omega)] at this;simpa [goodL] using this
    clear hlt
    go_wp2
    go_ret
    exact ⟨rfl, HB.out⟩
 ·have hw : impl_within.f a0_0 0 8 = some false := by 
   simp only [impl_within.f]
   split
   ·simp;omega
   ·rfl
  obtain rfl : false = r := by have := H.out;simpa [hn] using this
  have HW := Aside0.mk hw
  clear hw H
  go_enter Try.func81, Try.ntmps81
  go_wp2_with (go_at_call 82;refine (impl_within.calls _ _ _ _ _ HW.out).mono ?_;rintro e w' ⟨rfl, ⟨nd, rfl⟩⟩)
  go_ret
  exact ⟨rfl, by repeat (first | exact Below.refl _ _ | apply below_alloc | apply pw_below_drewN | apply below_drew | refine below_set ?_ (by simp))⟩

/-! ### impl_allWithin: function 154 -/
def impl_allWithin.l0 : Nat → Int → Int → List Int → Int → Int → Option (Bool)
 | 0, _, _, _, _, _ => none
 | k + 1, x1, x2, x9, x10, x11 => if x11 < x10 then (if 0 ≤ x11 then (if x11 < (x9.length : Int) then ((impl_within.f (rd x9 x11) x1 x2).bind fun t273 => (if t273 = true then (impl_allWithin.l0 k x1 x2 x9 x10 (wrap64 (x11 + 1))) else (some false))) else (none)) else (none)) else (some true)
def impl_allWithin.f (k : Nat) (l0 : List Int) (a1 : Int) (a2 : Int) : Option (Bool) := impl_allWithin.l0 k a1 a2 l0 (l0.length : Int) 0
theorem impl_allWithin.mono_l : ∀ k, (∀ y0 y1 y2 y3 y4, LeO (impl_allWithin.l0 k y0 y1 y2 y3 y4) (impl_allWithin.l0 (k + 1) y0 y1 y2 y3 y4))
 | 0 => fun _ _ _ _ _ r h => by simp [impl_allWithin.l0] at h
 | k + 1 => by
  have ih0 := impl_allWithin.mono_l k
  ·intro y0 y1 y2 y3 y4
   unfold impl_allWithin.l0
   repeat' first
   | (with_reducible exact ih0 _ _ _ _ _)
   | (with_reducible exact LeO.refl _)
   | (with_reducible exact LeO.none _)
   | (with_reducible refine LeO.ite ?_ ?_)
   | (with_reducible refine LeO.bind ?_ (fun _ => ?_))
   | exact LeO.none _
   | refine LeO.ite ?_ ?_
   | refine LeO.bind ?_ (fun _ => ?_)
theorem impl_allWithin.mono : ∀ a0 a1 a2 k, LeO (impl_allWithin.f k a0 a1 a2) (impl_allWithin.f (k + 1) a0 a1 a2) := by
 intro a0 a1 a2 k
 have ih0 := impl_allWithin.mono_l k
 unfold impl_allWithin.f
 repeat' first
   | (with_reducible exact ih0 _ _ _ _ _)
   | (with_reducible exact LeO.refl _)
   | (with_reducible exact LeO.none _)
   | (with_reducible refine LeO.ite ?_ ?_)
   | (with_reducible refine LeO.bind ?_ (fun _ => ?_))
   | exact LeO.none _
   | refine LeO.ite ?_ ?_
   | refine LeO.bind ?_ (fun _ => ?_)
set_option maxHeartbeats 8000000 in
set_option maxRecDepth 100000 in
theorem impl_allWithin.calls (k : Nat) (A0 : Option Addr) (c0 : Nat) (l0 : List Int) (a1 : Int) (a2 : Int) (r : Bool) (w : World) (hr0 : Kd.C (Kd.int .i64) w A0 l0.length l0) (hc0 : l0.length ≤ c0) (h : impl_allWithin.f k l0 a1 a2 = some r) :
  Calls Try.prog 154 #[.slice A0 l0.length c0, .int .i64 a1, .int .i64 a2] w fun e w' => e = .returned (.bool r) ∧ Drawn0 w w' := by
 have HR0 := Aside0.mk hr0
 have HC0 := Aside0.mk hc0
 clear hr0 hc0
 have H : (impl_allWithin.l0 k a1 a2 l0 (l0.length : Int) 0) = some r := h
 clear h
 have H' := Aside0.mk H
 clear H
 go_enter Try.func154, Try.ntmps154
 go_wp2
 go_loopg [11] k (fun kq v11 w' => ∃ (x11_1 : Int), v11 = .int .i64 x11_1 ∧ Aside0 (impl_allWithin.l0 kq a1 a2 l0 (l0.length : Int) x11_1 = some r) ∧ Aside0 (kq ≤ k) ∧ Drawn0 w w')
 case atStart => exact ⟨(0), (by first | rfl | (simp;done) | (simp [*];done)), H', ⟨Nat.le_refl _⟩, by repeat (first | exact Drawn0.refl _ | apply Drawn0.step)⟩
 case round =>
  clear H'
  try clear c1
  try clear p2
  obtain ⟨x11_1, rfl, HA, HK1, ⟨m1, rfl⟩⟩ := hrel
  cases gk with
  | zero => exact absurd HA.out (by simp [impl_allWithin.l0])
  | succ k1 =>
   have H := HA.out
   clear HA
   simp only [impl_allWithin.l0] at H
   by_cases c4 : x11_1 < (l0.length : Int)
   rotate_left
   ·rw [if_neg c4] at H
    have c4b0 : decide (x11_1 < (l0.length : Int)) = false := decide_eq_false c4
    clear c4
    obtain rfl := Option.some.inj H
    go_wp2
    go_ret
    exact ⟨by first | rfl | (simp;done) | (simp [*];done), by repeat (first | exact Drawn0.refl _ | apply Drawn0.step)⟩
   rw [if_pos c4] at H
   have c4b0 : decide (x11_1 < (l0.length : Int)) = true := decide_eq_true c4
   clear c4
   by_cases c5 : 0 ≤ x11_1
   rotate_left
   ·rw [if_neg c5] at H
    exact absurd H (by simp)
   rw [if_pos c5] at H
   have c5b0 : decide (0 ≤ x11_1) = true := decide_eq_true c5
   clear c5
   by_cases c6 : x11_1 < (l0.length : Int)
   rotate_left
   ·rw [if_neg c6] at H
    exact absurd H (by simp)
   rw [if_pos c6] at H
   have c6b0 : decide (x11_1 < (l0.length : Int)) = true := decide_eq_true c6
   clear c6
   replace H := Option.bind_eq_some_iff.mp H
   obtain ⟨t273, A70, H⟩ := H
   replace H : (if t273 = true then (impl_allWithin.l0 k1 a1 a2 l0 (l0.length : Int) (wrap64 (x11_1 + 1))) else (some false)) = some r := H
   have A7 := Aside0.mk A70
   clear A70
   by_cases c8 : t273 = true
   rotate_left
   ·replace c8 := Bool.eq_false_iff.mpr c8
    subst c8
    have H1 : (some false) = some r := by rw [if_neg (show ¬ (false = true) by decide)] at H;exact H
    clear H
    have H := H1
    clear H1
    obtain rfl := Option.some.inj H
    have p272 : 0 ≤ (x11_1 : Int) := oA
    have q272 : x11_1 < (l0.length : Int) := oA
    obtain ⟨ad272, e272, hx272_0⟩ := Kd.at_int HR0.out x11_1 p272 q272
    cases e272
    replace p272 := eq_true p272
    replace q272 := eq_true q272
    go_wp2_with (first | ((with_reducible refine gate_callee (f := 82) rfl ?_);refine goesL_ (some 18) rfl rfl Try.func82 (by kernel_rfl) rfl #[.int .i64 (rd l0 x11_1), .int .i64 a1, .int .i64 a2] rfl mM ?_;(with_reducible refine (impl_within.calls (rd l0 x11_1) a1 a2 false _ A7.out).mono ?_);rintro e w' ⟨rfl, ⟨nd, rfl⟩⟩;refine ⟨_, rfl, ?_⟩))
    go_ret
    exact ⟨by first | rfl | (simp;done) | (simp [*];done), by repeat (first | exact Drawn0.refl _ | apply Drawn0.step)⟩
   subst c8
   have H1 : (impl_allWithin.l0 k1 a1 a2 l0 (l0.length : Int) (wrap64 (x11_1 + 1))) = some r := by rw [if_pos rfl] at H;exact H
   clear H
   have H := H1
   clear H1
   have H' := Aside0.mk H
   clear H
   have p272 : 0 ≤ (x11_1 : Int) := oA
   have q272 : x11_1 < (l0.length : Int) := oA
   obtain ⟨ad272, e272, hx272_0⟩ := Kd.at_int HR0.out x11_1 p272 q272
   cases e272
   replace p272 := eq_true p272
   replace q272 := eq_true q272
   go_wp2_with (first | ((with_reducible refine gate_callee (f := 82) rfl ?_);refine goesL_ (some 18) rfl rfl Try.func82 (by kernel_rfl) rfl #[.int .i64 (rd l0 x11_1), .int .i64 a1, .int .i64 a2] rfl mM ?_;(with_reducible refine (impl_within.calls (rd l0 x11_1) a1 a2 true _ A7.out).mono ?_);rintro e w' ⟨rfl, ⟨nd, rfl⟩⟩;refine ⟨_, rfl, ?_⟩))
   go_roundg k1
   case measure => have := HK1.out;omega
   case rel => exact ⟨(wrap64 (x11_1 + 1)), (by first | rfl | (simp;done) | (simp [*];done)), H', ⟨by have := HK1.out;omega⟩, by repeat (first | exact Drawn0.refl _ | apply Drawn0.step)⟩


/-! ### impl_hasNodes: function 121 -/
def impl_hasNodes.f (k : Nat) (a0_0 : Int) (l0_1 : List (S119)) (l1 : List Int) : Option (Bool) := (impl_IsGraph.f a0_0 l0_1).bind fun t275 => (if t275 = true then ((impl_allWithin.f k l1 0 (wrap64 (a0_0 - 1))).bind fun t276 => (some t276)) else (some false))
theorem impl_hasNodes.mono : ∀ a0 a1 a2 k, LeO (impl_hasNodes.f k a0 a1 a2) (impl_hasNodes.f (k + 1) a0 a1 a2) := by
 intro a0 a1 a2 k
 unfold impl_hasNodes.f
 repeat' first
   | (with_reducible exact impl_allWithin.mono _ _ _ _)
   | (with_reducible exact LeO.refl _)
   | (with_reducible exact LeO.none _)
   | (with_reducible refine LeO.ite ?_ ?_)
   | (with_reducible refine LeO.bind ?_ (fun _ => ?_))
   | exact LeO.none _
   | refine LeO.ite ?_ ?_
   | refine LeO.bind ?_ (fun _ => ?_)
set_option maxHeartbeats 8000000 in
set_option maxRecDepth 100000 in
theorem impl_hasNodes.calls (k : Nat) (a0_0 : Int) (A0_1 : Option Addr) (c0_1 : Nat) (l0_1 : List (S119)) (A1 : Option Addr) (c1 : Nat) (l1 : List Int) (r : Bool) (w : World) (hr0_1 : Kd.C k119 w A0_1 l0_1.length l0_1) (hc0_1 : l0_1.length ≤ c0_1) (hr1 : Kd.C (Kd.int .i64) w A1 l1.length l1) (hc1 : l1.length ≤ c1) (h : impl_hasNodes.f k a0_0 l0_1 l1 = some r) :
  Calls Try.prog 121 #[.agg #[.int .i64 a0_0, .slice A0_1 l0_1.length c0_1], .slice A1 l1.length c1] w fun e w' => e = .returned (.bool r) ∧ Below w.heap.size w w' := by
 have hu31 := Try.underlying31
 have HR0_1 := Aside0.mk hr0_1
 have HC0_1 := Aside0.mk hc0_1
 clear hr0_1 hc0_1
 have HR1 := Aside0.mk hr1
 have HC1 := Aside0.mk hc1
 clear hr1 hc1
 have HB := aM (Below.refl w.heap.size w)
 have H : ((impl_IsGraph.f a0_0 l0_1).bind fun t275 => (if t275 = true then ((impl_allWithin.f k l1 0 (wrap64 (a0_0 - 1))).bind fun t276 => (some t276)) else (some false))) = some r := h
 clear h
 replace H := Option.bind_eq_some_iff.mp H
 obtain ⟨t275, A30, H⟩ := H
 replace H : (if t275 = true then ((impl_allWithin.f k l1 0 (wrap64 (a0_0 - 1))).bind fun t276 => (some t276)) else (some false)) = some r := H
 have A3 := Aside0.mk A30
 clear A30
 by_cases c4 : t275 = true
 rotate_left
 ·replace c4 := Bool.eq_false_iff.mpr c4
  subst c4
  have H1 : (some false) = some r := by rw [if_neg (show ¬ (false = true) by decide)] at H;exact H
  clear H
  have H := H1
  clear H1
  obtain rfl := Option.some.inj H
  go_enter Try.func121, Try.ntmps121
  go_wp2_with (first | ((with_reducible refine gate_dst (N := 2) rfl ?_);refine box_event ?hg (N := 2) ?hd (cs := #[.int .i64 a0_0, .slice A0_1 l0_1.length c0_1]) (t := 31) ?hr ?_;(case hd => rfl);(case hg => rfl);(case hr => first | (go_simp;done) | (go_simp;rfl));intro gb274 hg w10 hbox hb;have n0_ := aM (below_step (by exact bB) hb);have n1_ := aM (hbox);have n2_ := aM (sW hg : w.heap.size ≤ gb274);have n3_ := aM (sW hg : w.heap.size ≤ gb274);clear HB;have HB := n0_;have BK274 := n1_;have GW274 := n2_;have GE274 := n3_;clear n0_ n1_ n2_ n3_;clear hb hbox hg;have hcz11_0 := bC0 BK274.out;have hcz11_1 := bC1 BK274.out;have hfz11_0 := blk_frozen BK274.out 0;have hfz11_1 := blk_frozen BK274.out 1) | ((with_reducible refine gate_callee (f := 81) rfl ?_);refine goesL_ (some 6) rfl rfl Try.func81 (by kernel_rfl) rfl #[.agg #[.int .i64 a0_0, .slice A0_1 l0_1.length c0_1]] rfl mM ?_;(with_reducible refine (impl_IsGraph.calls a0_0 _ _ l0_1 false _ ?side1 ?side2 A3.out).mono ?_);(case side1 => exact cP (Kd.C_below HR0_1.out HB.out));(case side2 => exact HC0_1.out);rintro e w12 ⟨rfl, hb⟩;refine ⟨_, rfl, ?_⟩;have n0_ := aM (kB hb BK274.out);have n1_ := aM (below_step (by exact bB) hb);clear BK274;clear HB;have BK274 := n0_;have HB := n1_;clear n0_ n1_;(try clear hb);(try clear hb2);(try clear hk);(try clear hi)))
  go_ret
  exact ⟨by first | rfl | (simp [errW_none, errW_some] <;> rfl) | (simp [*, errW_none, errW_some] <;> rfl), by exact bB⟩
 subst c4
 have H1 : ((impl_allWithin.f k l1 0 (wrap64 (a0_0 - 1))).bind fun t276 => (some t276)) = some r := by rw [if_pos rfl] at H;exact H
 clear H
 have H := H1
 clear H1
 replace H := Option.bind_eq_some_iff.mp H
 obtain ⟨t276, A50, H⟩ := H
 replace H : (some t276) = some r := H
 have A5 := Aside0.mk A50
 clear A50
 obtain rfl := Option.some.inj H
 go_enter Try.func121, Try.ntmps121
 go_wp2_with (first | ((with_reducible refine gate_dst (N := 2) rfl ?_);refine box_event ?hg (N := 2) ?hd (cs := #[.int .i64 a0_0, .slice A0_1 l0_1.length c0_1]) (t := 31) ?hr ?_;(case hd => rfl);(case hg => rfl);(case hr => first | (go_simp;done) | (go_simp;rfl));intro gb274 hg w6 hbox hb;have n0_ := aM (below_step (by exact bB) hb);have n1_ := aM (hbox);have n2_ := aM (sW hg : w.heap.size ≤ gb274);have n3_ := aM (sW hg : w.heap.size ≤ gb274);clear HB;have HB := n0_;have BK274 := n1_;have GW274 := n2_;have GE274 := n3_;clear n0_ n1_ n2_ n3_;clear hb hbox hg;have hcz7_0 := bC0 BK274.out;have hcz7_1 := bC1 BK274.out;have hfz7_0 := blk_frozen BK274.out 0;have hfz7_1 := blk_frozen BK274.out 1) | ((with_reducible refine gate_callee (f := 81) rfl ?_);refine goesL_ (some 6) rfl rfl Try.func81 (by kernel_rfl) rfl #[.agg #[.int .i64 a0_0, .slice A0_1 l0_1.length c0_1]] rfl mM ?_;(with_reducible refine (impl_IsGraph.calls a0_0 _ _ l0_1 true _ ?side1 ?side2 A3.out).mono ?_);(case side1 => exact cP (Kd.C_below HR0_1.out HB.out));(case side2 => exact HC0_1.out);rintro e w8 ⟨rfl, hb⟩;refine ⟨_, rfl, ?_⟩;have n0_ := aM (kB hb BK274.out);have n1_ := aM (below_step (by exact bB) hb);clear BK274;clear HB;have BK274 := n0_;have HB := n1_;clear n0_ n1_;(try clear hb);(try clear hb2);(try clear hk);(try clear hi);have hcz9_0 := bC0 BK274.out;have hcz9_1 := bC1 BK274.out;have hfz9_0 := blk_frozen BK274.out 0;have hfz9_1 := blk_frozen BK274.out 1) | (go_at_call 154;(with_reducible refine (impl_allWithin.calls k _ _ l1 0 (wrap64 (a0_0 - 1)) t276 _ ?side1 ?side2 A5.out).mono ?_);(case side1 => exact cP (Kd.C_below HR1.out HB.out));(case side2 => exact HC1.out);rintro e w' ⟨rfl, ⟨nd, rfl⟩⟩))
 go_ret
 exact ⟨by first | rfl | (simp [errW_none, errW_some] <;> rfl) | (simp [*, errW_none, errW_some] <;> rfl), by exact bB⟩


end Go.Proofs.Ytmokkhfmbenleaa.QSpreading
