import Derived.Test.YtmokkhfmbenleaaQClosures0
namespace Go.Proofs.Ytmokkhfmbenleaa.QClosures
open Go.RowKit Go.Proofs.YtmokkhfmbenleaaW.PrintWords Go.Proofs.YtmokkhfmbenleaaW.PrintLast Go.Proofs.YtmokkhfmbenleaaW.PrintMore
attribute [local go_sem] max2_int min2_int max_two min_two max_three min_three max_four min_four   -- for this text's walks alone
set_option linter.unusedVariables false
set_option linter.unusedSimpArgs false
/-! ### spec_l2Put: function 135 -/
def spec_l2Put.l0 : Nat → List (S119) → Int → Int → Int → Option ((List (S119)))
 | 0, _, _, _, _ => none
 | k + 1, x0, x5, x416000, x416001 => if x5 < (x0.length : Int) then (if 0 ≤ x5 then ((spec_l2Before.f ((rd_T119 x0 x5).f0) ((rd_T119 x0 x5).f1) x416000 x416001).bind fun t417 => (if t417 = true then (spec_l2Put.l0 k x0 (wrap64 (x5 + 1)) x416000 x416001) else ((some (([] : List (S119)) : List (S119))).bind fun y418 => (if x5 ≤ (x0.length : Int) then ((some (x0.take (x5 : Int).toNat : List (S119))).bind fun y421 => (if y418.length + y421.length < 8796093022208 then ((some (y418 ++ y421 : List (S119))).bind fun y425 => ((some (([(⟨x416000, x416001⟩ : S119)] : List (S119)) : List (S119))).bind fun y428 => (if y425.length + y428.length < 8796093022208 then ((some (y425 ++ y428 : List (S119))).bind fun y431 => ((some (x0.drop (x5 : Int).toNat : List (S119))).bind fun y434 => (if y431.length + y434.length < 8796093022208 then (some (y431 ++ y434)) else (none)))) else (none)))) else (none))) else (none))))) else (none)) else ((some (([] : List (S119)) : List (S119))).bind fun y441 => (if 0 ≤ x5 then (if x5 ≤ (x0.length : Int) then ((some (x0.take (x5 : Int).toNat : List (S119))).bind fun y444 => (if y441.length + y444.length < 8796093022208 then ((some (y441 ++ y444 : List (S119))).bind fun y448 => ((some (([(⟨x416000, x416001⟩ : S119)] : List (S119)) : List (S119))).bind fun y451 => (if y448.length + y451.length < 8796093022208 then ((some (y448 ++ y451 : List (S119))).bind fun y454 => ((some (x0.drop (x5 : Int).toNat : List (S119))).bind fun y457 => (if y454.length + y457.length < 8796093022208 then (some (y454 ++ y457)) else (none)))) else (none)))) else (none))) else (none)) else (none)))
def spec_l2Put.f (k : Nat) (l0 : List (S119)) (a1_0 : Int) (a1_1 : Int) : Option ((List (S119))) := spec_l2Put.l0 k l0 0 a1_0 a1_1
theorem spec_l2Put.mono_l : ∀ k, (∀ y0 y1 y2 y3, LeO (spec_l2Put.l0 k y0 y1 y2 y3) (spec_l2Put.l0 (k + 1) y0 y1 y2 y3))
 | 0 => fun _ _ _ _ r h => by simp [spec_l2Put.l0] at h
 | k + 1 => by
  have ih0 := spec_l2Put.mono_l k
  ·intro y0 y1 y2 y3
   unfold spec_l2Put.l0
   repeat' first
   | (with_reducible exact ih0 _ _ _ _)
   | (with_reducible exact LeO.refl _)
   | (with_reducible exact LeO.none _)
   | (with_reducible refine LeO.ite ?_ ?_)
   | (with_reducible refine LeO.bind ?_ (fun _ => ?_))
   | exact ih0 _ _ _ _
   | exact LeO.none _
   | refine LeO.ite ?_ ?_
   | refine LeO.bind ?_ (fun _ => ?_)
theorem spec_l2Put.mono : ∀ a0 a1 a2 k, LeO (spec_l2Put.f k a0 a1 a2) (spec_l2Put.f (k + 1) a0 a1 a2) := by
 intro a0 a1 a2 k
 have ih0 := spec_l2Put.mono_l k
 unfold spec_l2Put.f
 repeat' first
   | (with_reducible exact ih0 _ _ _ _)
   | (with_reducible exact LeO.refl _)
   | (with_reducible exact LeO.none _)
   | (with_reducible refine LeO.ite ?_ ?_)
   | (with_reducible refine LeO.bind ?_ (fun _ => ?_))
   | exact ih0 _ _ _ _
   | exact LeO.none _
   | refine LeO.ite ?_ ?_
   | refine LeO.bind ?_ (fun _ => ?_)
def spec_l2Put.T2 : Bool × List (List Nat × List Nat) := (true, [([], []), ([], []), ([1], [1]), ([0, 2], [0, 2]), ([3], [3]), ([4], [4]), ([4], [4]), ([5, 6, 4], [4, 5, 6]), ([7, 4], [4, 7]), ([4], [4]), ([8, 9, 4, 4], [4, 8, 9]), ([4, 10], [4, 10])])
def spec_l2Put.B2 : List Nat := [0, 0, 2, 7, 15, 31, 31, 127, 255, 31, 1023, 2047]
theorem spec_l2Put.tab2 : rtab .any (opsOf Try.f135 2) = spec_l2Put.T2 := by kernel_rfl
theorem spec_l2Put.bits2 : waitsOk spec_l2Put.T2.2 spec_l2Put.B2 = true := by kernel_rfl
def spec_l2Put.T4 : Bool × List (List Nat × List Nat) := (true, [([], []), ([], []), ([], []), ([1, 2], [1, 2]), ([0, 3], [0, 3]), ([], []), ([5], [5]), ([4, 6, 4], [4, 6]), ([], []), ([], []), ([8, 9], [8, 9]), ([7, 10, 7], [7, 10]), ([11, 11, 0, 1, 2, 3, 4, 5, 6, 7, 8, 9, 10, 11], [11])])
def spec_l2Put.B4 : List Nat := [0, 0, 0, 6, 15, 0, 32, 127, 0, 0, 768, 2047, 4095]
theorem spec_l2Put.tab4 : rtab .any (opsOf Try.f135 4) = spec_l2Put.T4 := by kernel_rfl
theorem spec_l2Put.bits4 : waitsOk spec_l2Put.T4.2 spec_l2Put.B4 = true := by kernel_rfl
set_option maxHeartbeats 8000000 in
set_option maxRecDepth 100000 in
theorem spec_l2Put.calls (k : Nat) (A0 : Option Addr) (c0 : Nat) (l0 : List (S119)) (a1_0 : Int) (a1_1 : Int) (r : List (S119)) (w : World) (hr0 : Kd.C k119 w A0 l0.length l0) (hc0 : l0.length ≤ c0) (h : spec_l2Put.f k l0 a1_0 a1_1 = some r) :
  Calls Try.prog 135 #[.slice A0 l0.length c0, .agg #[.int .i64 a1_0, .int .i64 a1_1]] w fun e w' => ∃ v0_ : Value, e = .returned (v0_) ∧ Kd.R k119 119 w' w.heap.size (fun _ => True) v0_ r ∧ Below w.heap.size w w' := by
 have hu119 := Try.underlying119
 have HR0 := Aside0.mk hr0
 have HC0 := Aside0.mk hc0
 clear hr0 hc0
 have HB := Aside0.mk (Below.refl w.heap.size w)
 have H : (spec_l2Put.l0 k l0 0 a1_0 a1_1) = some r := h
 clear h
 have H' := Aside0.mk H
 clear H
 go_enter Try.func135, Try.ntmps135
 go_wp2_with (first | ((with_reducible refine gate_dst (N := 3) rfl ?_); refine box_event ?hg (N := 3) ?hd (cs := #[.int .i64 a1_0, .int .i64 a1_1]) (t := 119) ?hr ?_; (case hd => rfl); (case hg => rfl); (case hr => first | (go_simp; done) | (go_simp; rfl)); intro gb415 hg w3 hbox hb; have n0_ := Aside0.mk (below_step (by exact bB) hb); have n1_ := Aside0.mk (hbox); have n2_ := Aside0.mk ((by rw [hg]; exact (below_size (by exact bB)) : w.heap.size ≤ gb415)); have n3_ := Aside0.mk ((by rw [hg]; exact (below_size (by exact bB)) : w.heap.size ≤ gb415)); clear HB; have HB := n0_; have BK415 := n1_; have GW415 := n2_; have GE415 := n3_; clear n0_ n1_ n2_ n3_; clear hb hbox hg))
 go_loopg [5] k (fun kq v5 w' => ∃ (x5_1 : Int), v5 = .int .i64 x5_1 ∧ Aside0 (spec_l2Put.l0 kq l0 x5_1 a1_0 a1_1 = some r) ∧ Aside0 (kq ≤ k) ∧ Aside0 (w'.heap[gb415]? = some (.cells #[.int .i64 a1_0, .int .i64 a1_1] 119 (0, 0))) ∧ Aside0 (Below w.heap.size w w'))
 case atStart => exact ⟨(0), (by first | rfl | (simp; done) | (simp [*]; done)), H', ⟨Nat.le_refl _⟩, ⟨by exact kP BK415.out⟩, ⟨by exact bB⟩⟩
 case round =>
  clear H'
  try clear c1
  try clear p2
  obtain ⟨x5_1, rfl, HA, HK1, BK415, HB⟩ := hrel
  cases gk with
  | zero => exact absurd HA.out (by simp [spec_l2Put.l0])
  | succ k1 =>
   have H := HA.out
   clear HA
   simp only [spec_l2Put.l0] at H
   by_cases c4 : x5_1 < (l0.length : Int)
   ·rw [if_pos c4] at H
    have c4b0 : decide (x5_1 < (l0.length : Int)) = true := decide_eq_true c4
    clear c4
    by_cases c5 : 0 ≤ x5_1
    ·rw [if_pos c5] at H
     have c5b0 : decide (0 ≤ x5_1) = true := decide_eq_true c5
     clear c5
     replace H := Option.bind_eq_some_iff.mp H
     obtain ⟨t417, A60, H⟩ := H
     replace H : (if t417 = true then (spec_l2Put.l0 k1 l0 (wrap64 (x5_1 + 1)) a1_0 a1_1) else ((some (([] : List (S119)) : List (S119))).bind fun y418 => (if x5_1 ≤ (l0.length : Int) then ((some (l0.take (x5_1 : Int).toNat : List (S119))).bind fun y421 => (if y418.length + y421.length < 8796093022208 then ((some (y418 ++ y421 : List (S119))).bind fun y425 => ((some (([(⟨a1_0, a1_1⟩ : S119)] : List (S119)) : List (S119))).bind fun y428 => (if y425.length + y428.length < 8796093022208 then ((some (y425 ++ y428 : List (S119))).bind fun y431 => ((some (l0.drop (x5_1 : Int).toNat : List (S119))).bind fun y434 => (if y431.length + y434.length < 8796093022208 then (some (y431 ++ y434)) else (none)))) else (none)))) else (none))) else (none)))) = some r := H
     have A6 := Aside0.mk A60
     clear A60
     by_cases c7 : t417 = true
     ·subst c7
      have H1 : (spec_l2Put.l0 k1 l0 (wrap64 (x5_1 + 1)) a1_0 a1_1) = some r := by rw [if_pos rfl] at H; exact H
      clear H
      have H := H1
      clear H1
      have H' := Aside0.mk H
      clear H
      try go_wp2
      have n0_ := Aside0.mk (blk_drew BK415.out)
      have n1_ := Aside0.mk (below_drew1 HB.out)
      clear BK415
      clear HB
      have BK415 := n0_
      have HB := n1_
      clear n0_ n1_
      have p416 : 0 ≤ (x5_1 : Int) := of_decide_eq_true (by first | (with_reducible assumption) | assumption)
      have q416 : x5_1 < (l0.length : Int) := of_decide_eq_true (by first | (with_reducible assumption) | assumption)
      obtain ⟨ad416, e416, hx416_0, hx416_1⟩ := at_T119 HR0.out x5_1 p416 q416
      have hw416_1 := hx416_1
      have hw416_0 := hx416_0
      cases e416
      replace hx416_0 := (HB.out.cell (World.block_lt_of_cell? w _ hx416_0)).trans hx416_0
      replace hx416_1 := (HB.out.cell (World.block_lt_of_cell? w _ hx416_1)).trans hx416_1
      replace p416 := eq_true p416
      replace q416 := eq_true q416
      refine start_ (n := 12) (S := fun w' => w'.cell? ⟨gb415, 0, none⟩ = some (.int .i64 a1_0) ∧ w'.cell? ⟨gb415, 1, none⟩ = some (.int .i64 a1_1) ∧ w'.cell? (ad416.add ((x5_1).toNat * 2)) = some (.int .i64 ((rd_T119 l0 x5_1).f0)) ∧ w'.cell? ⟨(ad416.add ((x5_1).toNat * 2)).block, (ad416.add ((x5_1).toNat * 2)).off + 1, none⟩ = some (.int .i64 ((rd_T119 l0 x5_1).f1))) (ds := []) #[false, false, false, false, false, false, false, false, false, false, false, false] (by kernel_rfl) rfl rfl ⟨(blk_cell BK415.out 0).trans rfl, (blk_cell BK415.out 1).trans rfl, ((HB.out.cell (World.block_lt_of_cell? w _ hw416_0)).trans hw416_0), ((HB.out.cell (World.block_lt_of_cell? w _ hw416_1)).trans hw416_1)⟩ (fun hHeld => ?_); refine with_tabW spec_l2Put.tab2 spec_l2Put.bits2 (fun HT_ HW_ => ?_)
      generalize wr.drew = w8 at BK415 HB hx416_0 hx416_1 hHeld ⊢
      refine pure_ (i := 0) (N := some 6) (v := ?_) (a' := ?_) #[true, false, false, false, false, false, false, false, false, false, false, false] rfl rfl (any_of HT_.out (by kernel_rfl)) (fun _ _ _ h => h) (Or.inl ⟨by rfl, ?_⟩) ?_ ?_
      rotate_left
      ·intro w'
       go_simp
       with_reducible rfl
      rotate_left
      ·simp only [Act.put, List.setIfInBounds_toArray, List.set_cons_zero, List.set_cons_succ, i64_w, i32_w]
       rfl
      refine pure_ (i := 1) (N := some 7) (v := ?_) (a' := ?_) #[true, true, false, false, false, false, false, false, false, false, false, false] rfl rfl (any_of HT_.out (by kernel_rfl)) (fun _ _ _ h => h) (Or.inl ⟨by rfl, ?_⟩) ?_ ?_
      rotate_left
      ·intro w'
       go_simp
       with_reducible rfl
      rotate_left
      ·simp only [Act.put, List.setIfInBounds_toArray, List.set_cons_zero, List.set_cons_succ, i64_w, i32_w]
       rfl
      refine pure_ (i := 2) (N := some 8) (v := ?_) (a' := ?_) #[true, true, true, false, false, false, false, false, false, false, false, false] rfl rfl (any_of HT_.out (by kernel_rfl)) (fun _ _ _ h => h) (Or.inl ⟨by rfl, ?_⟩) ?_ ?_
      rotate_left
      ·intro w'
       go_simp
       with_reducible rfl
      rotate_left
      ·simp only [Act.put, List.setIfInBounds_toArray, List.set_cons_zero, List.set_cons_succ, i64_w, i32_w]
       rfl
      refine pure_ (i := 3) (N := some 9) (v := ?_) (a' := ?_) #[true, true, true, true, false, false, false, false, false, false, false, false] rfl rfl (any_of HT_.out (by kernel_rfl)) (fun _ _ _ h => h) (Or.inl ⟨by rfl, ?_⟩) ?_ ?_
      rotate_left
      ·intro w'
       go_simp
       with_reducible rfl
      rotate_left
      ·simp only [Act.put, List.setIfInBounds_toArray, List.set_cons_zero, List.set_cons_succ, i64_w, i32_w]
       rfl
      refine pure_ (i := 4) (N := some 10) (v := ?_) (a' := ?_) #[true, true, true, true, true, false, false, false, false, false, false, false] rfl rfl (any_of HT_.out (by kernel_rfl)) (fun _ _ _ h => h) (Or.inl ⟨by rfl, ?_⟩) ?_ ?_
      rotate_left
      ·intro w'
       go_simp
       with_reducible rfl
      rotate_left
      ·simp only [Act.put, List.setIfInBounds_toArray, List.set_cons_zero, List.set_cons_succ, i64_w, i32_w]
       rfl
      refine pure_ (i := 5) (N := some 11) (v := ?_) (a' := ?_) #[true, true, true, true, true, true, false, false, false, false, false, false] rfl rfl (any_of HT_.out (by kernel_rfl)) (fun _ _ _ h => h) (Or.inl ⟨by rfl, ?_⟩) ?_ ?_
      rotate_left
      ·intro w'
       go_simp
       with_reducible rfl
      rotate_left
      ·simp only [Act.put, List.setIfInBounds_toArray, List.set_cons_zero, List.set_cons_succ, i64_w, i32_w]
       rfl
      refine pure_ (i := 6) (N := some 12) (v := ?_) (a' := ?_) #[true, true, true, true, true, true, true, false, false, false, false, false] rfl rfl (any_of HT_.out (by kernel_rfl)) (fun _ _ _ h => h) (Or.inl ⟨by rfl, ?_⟩) ?_ ?_
      rotate_left
      ·intro w'
       go_simp
       with_reducible rfl
      rotate_left
      ·simp only [Act.put, List.setIfInBounds_toArray, List.set_cons_zero, List.set_cons_succ, i64_w, i32_w]
       rfl
      refine pure_ (i := 7) (N := some 13) (v := ?_) (a' := ?_) #[true, true, true, true, true, true, true, true, false, false, false, false] rfl rfl (any_of HT_.out (by kernel_rfl)) (fun _ _ _ h => h) (Or.inl ⟨by rfl, ?_⟩) ?_ ?_
      rotate_left
      ·intro w'
       go_simp
       with_reducible rfl
      rotate_left
      ·simp only [Act.put, List.setIfInBounds_toArray, List.set_cons_zero, List.set_cons_succ, i64_w, i32_w]
       rfl
      refine take_ (i := 8) (N := some 14) (v := ?_) (a' := ?_) #[true, true, true, true, true, true, true, true, true, false, false, false] rfl rfl (take_ofW HT_.out HW_.out (by kernel_rfl)) (fun _ _ _ h => h) (Or.inl ⟨by rfl, ?_⟩) hHeld ?_ ?_
      rotate_left
      ·rintro w' ⟨s0, s1, s2, s3⟩
       go_simp
       with_reducible rfl
      rotate_left
      ·simp only [Act.put, List.setIfInBounds_toArray, List.set_cons_zero, List.set_cons_succ, i64_w, i32_w]
       rfl
      refine take_ (i := 9) (N := some 15) (v := ?_) (a' := ?_) #[true, true, true, true, true, true, true, true, true, true, false, false] rfl rfl (take_ofW HT_.out HW_.out (by kernel_rfl)) (fun _ _ _ h => h) (Or.inl ⟨by rfl, ?_⟩) hHeld ?_ ?_
      rotate_left
      ·rintro w' ⟨s0, s1, s2, s3⟩
       go_simp
       with_reducible rfl
      rotate_left
      ·simp only [Act.put, List.setIfInBounds_toArray, List.set_cons_zero, List.set_cons_succ, i64_w, i32_w]
       rfl
      refine one_ (i := 10) (N := some 16) #[true, true, true, true, true, true, true, true, true, true, true, false] rfl rfl (one_of HT_.out (by kernel_rfl)) (by decide) (fun K hK => ?_)
      refine goes_ Try.func139 (by kernel_rfl) rfl #[.agg #[.int .i64 ((rd_T119 l0 x5_1).f0), .int .i64 ((rd_T119 l0 x5_1).f1)], .agg #[.int .i64 a1_0, .int .i64 a1_1]] (by rfl) rfl rfl (by (try simp only [List.map_toArray, List.map_cons, List.map_nil]); first | done | rfl | (simp only [List.length_drop, List.length_take]; rfl)) ?_
      with_reducible refine (spec_l2Before.calls ((rd_T119 l0 x5_1).f0) ((rd_T119 l0 x5_1).f1) a1_0 a1_1 true _ A6.out).mono ?_
      rintro e w9 ⟨rfl, hb⟩
      refine ⟨_, rfl, ?_⟩
      have n0_ := Aside0.mk (blk_below (g := gb415) (o := .cells #[.int .i64 a1_0, .int .i64 a1_1] 119 (0, 0)) (by exact kP BK415.out) hb)
      have n1_ := Aside0.mk (below_step (by exact bB) hb)
      clear BK415
      clear HB
      have BK415 := n0_
      have HB := n1_
      clear n0_ n1_
      (try clear hb)
      (try clear hb2)
      (try clear hk)
      (try clear hi)
      refine hK.out _ _ ⟨(blk_cell BK415.out 0).trans rfl, (blk_cell BK415.out 1).trans rfl, ((HB.out.cell (World.block_lt_of_cell? w _ hw416_0)).trans hw416_0), ((HB.out.cell (World.block_lt_of_cell? w _ hw416_1)).trans hw416_1)⟩ (fun hHeld => ?_)
      clear hK K
      refine norm_ (a' := ?_) ?_ ?_
      rotate_left
      ·show Act.put _ (some 16) _ = _
       simp only [Act.put, List.setIfInBounds_toArray, List.set_cons_zero, List.set_cons_succ, i64_w, i32_w]
       rfl
      refine pure_ (i := 11) (N := some 17) (v := ?_) (a' := ?_) #[true, true, true, true, true, true, true, true, true, true, true, true] rfl rfl (any_of HT_.out (by kernel_rfl)) (fun _ _ _ h => h) (Or.inl ⟨by rfl, ?_⟩) ?_ ?_
      rotate_left
      ·intro w'
       go_simp
       with_reducible rfl
      rotate_left
      ·simp only [Act.put, List.setIfInBounds_toArray, List.set_cons_zero, List.set_cons_succ, i64_w, i32_w]
       rfl
      refine done_ (done_of HT_.out (by kernel_rfl)) ?_
      try go_wp2
      go_roundg k1
      case measure => have := HK1.out; omega
      case rel => exact ⟨(wrap64 (x5_1 + 1)), (by first | rfl | (simp; done) | (simp [*]; done)), H', ⟨by have := HK1.out; omega⟩, ⟨by exact kP BK415.out⟩, ⟨by exact bB⟩⟩
     ·replace c7 := Bool.eq_false_iff.mpr c7
      subst c7
      have H1 : ((some (([] : List (S119)) : List (S119))).bind fun y418 => (if x5_1 ≤ (l0.length : Int) then ((some (l0.take (x5_1 : Int).toNat : List (S119))).bind fun y421 => (if y418.length + y421.length < 8796093022208 then ((some (y418 ++ y421 : List (S119))).bind fun y425 => ((some (([(⟨a1_0, a1_1⟩ : S119)] : List (S119)) : List (S119))).bind fun y428 => (if y425.length + y428.length < 8796093022208 then ((some (y425 ++ y428 : List (S119))).bind fun y431 => ((some (l0.drop (x5_1 : Int).toNat : List (S119))).bind fun y434 => (if y431.length + y434.length < 8796093022208 then (some (y431 ++ y434)) else (none)))) else (none)))) else (none))) else (none))) = some r := by rw [if_neg (show ¬ (false = true) by decide)] at H; exact H
      clear H
      have H := H1
      clear H1
      obtain ⟨y418, hy418⟩ : ∃ y_ : List (S119), y_ = (([] : List (S119))) := ⟨_, rfl⟩
      replace H : (if x5_1 ≤ (l0.length : Int) then ((some (l0.take (x5_1 : Int).toNat : List (S119))).bind fun y421 => (if y418.length + y421.length < 8796093022208 then ((some (y418 ++ y421 : List (S119))).bind fun y425 => ((some (([(⟨a1_0, a1_1⟩ : S119)] : List (S119)) : List (S119))).bind fun y428 => (if y425.length + y428.length < 8796093022208 then ((some (y425 ++ y428 : List (S119))).bind fun y431 => ((some (l0.drop (x5_1 : Int).toNat : List (S119))).bind fun y434 => (if y431.length + y434.length < 8796093022208 then (some (y431 ++ y434)) else (none)))) else (none)))) else (none))) else (none)) = some r := by first | (rw [hy418]; with_reducible exact H) | (have H2_ := (Option.bind_some _ _).symm.trans H; rw [hy418]; with_reducible exact H2_) | (have H2_ := (Option.bind_some _ _).symm.trans H; with_reducible exact H2_) | with_reducible exact H | (rw [hy418]; exact H) | exact H
      have Ny418 := Aside0.mk hy418
      clear hy418
      have c10b0 := eq_true (of_decide_eq_true (by first | (with_reducible assumption) | assumption) : 0 ≤ x5_1)
      by_cases c11 : x5_1 ≤ (l0.length : Int)
      ·rw [if_pos c11] at H
       have c11b0 := eq_true c11
       have c11b1 : decide (x5_1 ≤ (l0.length : Int)) = true := decide_eq_true c11
       clear c11
       obtain ⟨y421, hy421⟩ : ∃ y_ : List (S119), y_ = (l0.take (x5_1 : Int).toNat) := ⟨_, rfl⟩
       replace H : (if y418.length + y421.length < 8796093022208 then ((some (y418 ++ y421 : List (S119))).bind fun y425 => ((some (([(⟨a1_0, a1_1⟩ : S119)] : List (S119)) : List (S119))).bind fun y428 => (if y425.length + y428.length < 8796093022208 then ((some (y425 ++ y428 : List (S119))).bind fun y431 => ((some (l0.drop (x5_1 : Int).toNat : List (S119))).bind fun y434 => (if y431.length + y434.length < 8796093022208 then (some (y431 ++ y434)) else (none)))) else (none)))) else (none)) = some r := by first | (rw [hy421]; with_reducible exact H) | (have H2_ := (Option.bind_some _ _).symm.trans H; rw [hy421]; with_reducible exact H2_) | (have H2_ := (Option.bind_some _ _).symm.trans H; with_reducible exact H2_) | with_reducible exact H | (rw [hy421]; exact H) | exact H
       have Ny421 := Aside0.mk hy421
       clear hy421
       by_cases c12 : y418.length + y421.length < 8796093022208
       ·rw [if_pos c12] at H
        have LMc12 := Aside0.mk c12
        clear c12
        obtain ⟨y425, hy425⟩ : ∃ y_ : List (S119), y_ = (y418 ++ y421) := ⟨_, rfl⟩
        replace H : ((some (([(⟨a1_0, a1_1⟩ : S119)] : List (S119)) : List (S119))).bind fun y428 => (if y425.length + y428.length < 8796093022208 then ((some (y425 ++ y428 : List (S119))).bind fun y431 => ((some (l0.drop (x5_1 : Int).toNat : List (S119))).bind fun y434 => (if y431.length + y434.length < 8796093022208 then (some (y431 ++ y434)) else (none)))) else (none))) = some r := by first | (rw [hy425]; with_reducible exact H) | (have H2_ := (Option.bind_some _ _).symm.trans H; rw [hy425]; with_reducible exact H2_) | (have H2_ := (Option.bind_some _ _).symm.trans H; with_reducible exact H2_) | with_reducible exact H | (rw [hy425]; exact H) | exact H
        have Ny425 := Aside0.mk hy425
        clear hy425
        obtain ⟨y428, hy428⟩ : ∃ y_ : List (S119), y_ = (([(⟨a1_0, a1_1⟩ : S119)] : List (S119))) := ⟨_, rfl⟩
        replace H : (if y425.length + y428.length < 8796093022208 then ((some (y425 ++ y428 : List (S119))).bind fun y431 => ((some (l0.drop (x5_1 : Int).toNat : List (S119))).bind fun y434 => (if y431.length + y434.length < 8796093022208 then (some (y431 ++ y434)) else (none)))) else (none)) = some r := by first | (rw [hy428]; with_reducible exact H) | (have H2_ := (Option.bind_some _ _).symm.trans H; rw [hy428]; with_reducible exact H2_) | (have H2_ := (Option.bind_some _ _).symm.trans H; with_reducible exact H2_) | with_reducible exact H | (rw [hy428]; exact H) | exact H
        have Ny428 := Aside0.mk hy428
        clear hy428
        by_cases c13 : y425.length + y428.length < 8796093022208
        ·rw [if_pos c13] at H
         have LMc13 := Aside0.mk c13
         clear c13
         obtain ⟨y431, hy431⟩ : ∃ y_ : List (S119), y_ = (y425 ++ y428) := ⟨_, rfl⟩
         replace H : ((some (l0.drop (x5_1 : Int).toNat : List (S119))).bind fun y434 => (if y431.length + y434.length < 8796093022208 then (some (y431 ++ y434)) else (none))) = some r := by first | (rw [hy431]; with_reducible exact H) | (have H2_ := (Option.bind_some _ _).symm.trans H; rw [hy431]; with_reducible exact H2_) | (have H2_ := (Option.bind_some _ _).symm.trans H; with_reducible exact H2_) | with_reducible exact H | (rw [hy431]; exact H) | exact H
         have Ny431 := Aside0.mk hy431
         clear hy431
         have c14b0 := eq_true (of_decide_eq_true (by first | (with_reducible assumption) | assumption) : 0 ≤ x5_1)
         have c15b0 := eq_true (of_decide_eq_true (by first | (with_reducible assumption) | assumption) : x5_1 ≤ (l0.length : Int))
         obtain ⟨y434, hy434⟩ : ∃ y_ : List (S119), y_ = (l0.drop (x5_1 : Int).toNat) := ⟨_, rfl⟩
         replace H : (if y431.length + y434.length < 8796093022208 then (some (y431 ++ y434)) else (none)) = some r := by first | (rw [hy434]; with_reducible exact H) | (have H2_ := (Option.bind_some _ _).symm.trans H; rw [hy434]; with_reducible exact H2_) | (have H2_ := (Option.bind_some _ _).symm.trans H; with_reducible exact H2_) | with_reducible exact H | (rw [hy434]; exact H) | exact H
         have Ny434 := Aside0.mk hy434
         clear hy434
         by_cases c16 : y431.length + y434.length < 8796093022208
         ·rw [if_pos c16] at H
          have LMc16 := Aside0.mk c16
          clear c16
          obtain ⟨y438, hy438⟩ : ∃ y_ : List (S119), y_ = (y431 ++ y434) := ⟨_, rfl⟩
          replace H : (some y438) = some r := by first | (rw [hy438]; with_reducible exact H) | (have H2_ := (Option.bind_some _ _).symm.trans H; rw [hy438]; with_reducible exact H2_) | (have H2_ := (Option.bind_some _ _).symm.trans H; with_reducible exact H2_) | with_reducible exact H | (rw [hy438]; exact H) | exact H
          have Ny438 := Aside0.mk hy438
          clear hy438
          obtain rfl := Option.some.inj H
          try go_wp2
          have n0_ := Aside0.mk (blk_drew BK415.out)
          have n1_ := Aside0.mk (below_drew1 HB.out)
          clear BK415
          clear HB
          have BK415 := n0_
          have HB := n1_
          clear n0_ n1_
          have p416 : 0 ≤ (x5_1 : Int) := of_decide_eq_true (by first | (with_reducible assumption) | assumption)
          have q416 : x5_1 < (l0.length : Int) := of_decide_eq_true (by first | (with_reducible assumption) | assumption)
          obtain ⟨ad416, e416, hx416_0, hx416_1⟩ := at_T119 HR0.out x5_1 p416 q416
          have hw416_1 := hx416_1
          have hw416_0 := hx416_0
          cases e416
          replace hx416_0 := (HB.out.cell (World.block_lt_of_cell? w _ hx416_0)).trans hx416_0
          replace hx416_1 := (HB.out.cell (World.block_lt_of_cell? w _ hx416_1)).trans hx416_1
          replace p416 := eq_true p416
          replace q416 := eq_true q416
          refine start_ (n := 12) (S := fun w' => w'.cell? ⟨gb415, 0, none⟩ = some (.int .i64 a1_0) ∧ w'.cell? ⟨gb415, 1, none⟩ = some (.int .i64 a1_1) ∧ w'.cell? (ad416.add ((x5_1).toNat * 2)) = some (.int .i64 ((rd_T119 l0 x5_1).f0)) ∧ w'.cell? ⟨(ad416.add ((x5_1).toNat * 2)).block, (ad416.add ((x5_1).toNat * 2)).off + 1, none⟩ = some (.int .i64 ((rd_T119 l0 x5_1).f1))) (ds := []) #[false, false, false, false, false, false, false, false, false, false, false, false] (by kernel_rfl) rfl rfl ⟨(blk_cell BK415.out 0).trans rfl, (blk_cell BK415.out 1).trans rfl, ((HB.out.cell (World.block_lt_of_cell? w _ hw416_0)).trans hw416_0), ((HB.out.cell (World.block_lt_of_cell? w _ hw416_1)).trans hw416_1)⟩ (fun hHeld => ?_); refine with_tabW spec_l2Put.tab2 spec_l2Put.bits2 (fun HT_ HW_ => ?_)
          generalize wr.drew = w17 at BK415 HB hx416_0 hx416_1 hHeld ⊢
          refine pure_ (i := 0) (N := some 6) (v := ?_) (a' := ?_) #[true, false, false, false, false, false, false, false, false, false, false, false] rfl rfl (any_of HT_.out (by kernel_rfl)) (fun _ _ _ h => h) (Or.inl ⟨by rfl, ?_⟩) ?_ ?_
          rotate_left
          ·intro w'
           go_simp
           with_reducible rfl
          rotate_left
          ·simp only [Act.put, List.setIfInBounds_toArray, List.set_cons_zero, List.set_cons_succ, i64_w, i32_w]
           rfl
          refine pure_ (i := 1) (N := some 7) (v := ?_) (a' := ?_) #[true, true, false, false, false, false, false, false, false, false, false, false] rfl rfl (any_of HT_.out (by kernel_rfl)) (fun _ _ _ h => h) (Or.inl ⟨by rfl, ?_⟩) ?_ ?_
          rotate_left
          ·intro w'
           go_simp
           with_reducible rfl
          rotate_left
          ·simp only [Act.put, List.setIfInBounds_toArray, List.set_cons_zero, List.set_cons_succ, i64_w, i32_w]
           rfl
          refine pure_ (i := 2) (N := some 8) (v := ?_) (a' := ?_) #[true, true, true, false, false, false, false, false, false, false, false, false] rfl rfl (any_of HT_.out (by kernel_rfl)) (fun _ _ _ h => h) (Or.inl ⟨by rfl, ?_⟩) ?_ ?_
          rotate_left
          ·intro w'
           go_simp
           with_reducible rfl
          rotate_left
          ·simp only [Act.put, List.setIfInBounds_toArray, List.set_cons_zero, List.set_cons_succ, i64_w, i32_w]
           rfl
          refine pure_ (i := 3) (N := some 9) (v := ?_) (a' := ?_) #[true, true, true, true, false, false, false, false, false, false, false, false] rfl rfl (any_of HT_.out (by kernel_rfl)) (fun _ _ _ h => h) (Or.inl ⟨by rfl, ?_⟩) ?_ ?_
          rotate_left
          ·intro w'
           go_simp
           with_reducible rfl
          rotate_left
          ·simp only [Act.put, List.setIfInBounds_toArray, List.set_cons_zero, List.set_cons_succ, i64_w, i32_w]
           rfl
          refine pure_ (i := 4) (N := some 10) (v := ?_) (a' := ?_) #[true, true, true, true, true, false, false, false, false, false, false, false] rfl rfl (any_of HT_.out (by kernel_rfl)) (fun _ _ _ h => h) (Or.inl ⟨by rfl, ?_⟩) ?_ ?_
          rotate_left
          ·intro w'
           go_simp
           with_reducible rfl
          rotate_left
          ·simp only [Act.put, List.setIfInBounds_toArray, List.set_cons_zero, List.set_cons_succ, i64_w, i32_w]
           rfl
          refine pure_ (i := 5) (N := some 11) (v := ?_) (a' := ?_) #[true, true, true, true, true, true, false, false, false, false, false, false] rfl rfl (any_of HT_.out (by kernel_rfl)) (fun _ _ _ h => h) (Or.inl ⟨by rfl, ?_⟩) ?_ ?_
          rotate_left
          ·intro w'
           go_simp
           with_reducible rfl
          rotate_left
          ·simp only [Act.put, List.setIfInBounds_toArray, List.set_cons_zero, List.set_cons_succ, i64_w, i32_w]
           rfl
          refine pure_ (i := 6) (N := some 12) (v := ?_) (a' := ?_) #[true, true, true, true, true, true, true, false, false, false, false, false] rfl rfl (any_of HT_.out (by kernel_rfl)) (fun _ _ _ h => h) (Or.inl ⟨by rfl, ?_⟩) ?_ ?_
          rotate_left
          ·intro w'
           go_simp
           with_reducible rfl
          rotate_left
          ·simp only [Act.put, List.setIfInBounds_toArray, List.set_cons_zero, List.set_cons_succ, i64_w, i32_w]
           rfl
          refine pure_ (i := 7) (N := some 13) (v := ?_) (a' := ?_) #[true, true, true, true, true, true, true, true, false, false, false, false] rfl rfl (any_of HT_.out (by kernel_rfl)) (fun _ _ _ h => h) (Or.inl ⟨by rfl, ?_⟩) ?_ ?_
          rotate_left
          ·intro w'
           go_simp
           with_reducible rfl
          rotate_left
          ·simp only [Act.put, List.setIfInBounds_toArray, List.set_cons_zero, List.set_cons_succ, i64_w, i32_w]
           rfl
          refine take_ (i := 8) (N := some 14) (v := ?_) (a' := ?_) #[true, true, true, true, true, true, true, true, true, false, false, false] rfl rfl (take_ofW HT_.out HW_.out (by kernel_rfl)) (fun _ _ _ h => h) (Or.inl ⟨by rfl, ?_⟩) hHeld ?_ ?_
          rotate_left
          ·rintro w' ⟨s0, s1, s2, s3⟩
           go_simp
           with_reducible rfl
          rotate_left
          ·simp only [Act.put, List.setIfInBounds_toArray, List.set_cons_zero, List.set_cons_succ, i64_w, i32_w]
           rfl
          refine take_ (i := 9) (N := some 15) (v := ?_) (a' := ?_) #[true, true, true, true, true, true, true, true, true, true, false, false] rfl rfl (take_ofW HT_.out HW_.out (by kernel_rfl)) (fun _ _ _ h => h) (Or.inl ⟨by rfl, ?_⟩) hHeld ?_ ?_
          rotate_left
          ·rintro w' ⟨s0, s1, s2, s3⟩
           go_simp
           with_reducible rfl
          rotate_left
          ·simp only [Act.put, List.setIfInBounds_toArray, List.set_cons_zero, List.set_cons_succ, i64_w, i32_w]
           rfl
          refine one_ (i := 10) (N := some 16) #[true, true, true, true, true, true, true, true, true, true, true, false] rfl rfl (one_of HT_.out (by kernel_rfl)) (by decide) (fun K hK => ?_)
          refine goes_ Try.func139 (by kernel_rfl) rfl #[.agg #[.int .i64 ((rd_T119 l0 x5_1).f0), .int .i64 ((rd_T119 l0 x5_1).f1)], .agg #[.int .i64 a1_0, .int .i64 a1_1]] (by rfl) rfl rfl (by (try simp only [List.map_toArray, List.map_cons, List.map_nil]); first | done | rfl | (simp only [List.length_drop, List.length_take]; rfl)) ?_
          with_reducible refine (spec_l2Before.calls ((rd_T119 l0 x5_1).f0) ((rd_T119 l0 x5_1).f1) a1_0 a1_1 false _ A6.out).mono ?_
          rintro e w18 ⟨rfl, hb⟩
          refine ⟨_, rfl, ?_⟩
          have n0_ := Aside0.mk (blk_below (g := gb415) (o := .cells #[.int .i64 a1_0, .int .i64 a1_1] 119 (0, 0)) (by exact kP BK415.out) hb)
          have n1_ := Aside0.mk (below_step (by exact bB) hb)
          clear BK415
          clear HB
          have BK415 := n0_
          have HB := n1_
          clear n0_ n1_
          (try clear hb)
          (try clear hb2)
          (try clear hk)
          (try clear hi)
          refine hK.out _ _ ⟨(blk_cell BK415.out 0).trans rfl, (blk_cell BK415.out 1).trans rfl, ((HB.out.cell (World.block_lt_of_cell? w _ hw416_0)).trans hw416_0), ((HB.out.cell (World.block_lt_of_cell? w _ hw416_1)).trans hw416_1)⟩ (fun hHeld => ?_)
          clear hK K
          refine norm_ (a' := ?_) ?_ ?_
          rotate_left
          ·show Act.put _ (some 16) _ = _
           simp only [Act.put, List.setIfInBounds_toArray, List.set_cons_zero, List.set_cons_succ, i64_w, i32_w]
           rfl
          refine pure_ (i := 11) (N := some 17) (v := ?_) (a' := ?_) #[true, true, true, true, true, true, true, true, true, true, true, true] rfl rfl (any_of HT_.out (by kernel_rfl)) (fun _ _ _ h => h) (Or.inl ⟨by rfl, ?_⟩) ?_ ?_
          rotate_left
          ·intro w'
           go_simp
           with_reducible rfl
          rotate_left
          ·simp only [Act.put, List.setIfInBounds_toArray, List.set_cons_zero, List.set_cons_succ, i64_w, i32_w]
           rfl
          refine done_ (done_of HT_.out (by kernel_rfl)) ?_
          try go_wp2
          have n0_ := Aside0.mk (blk_drew BK415.out)
          have n1_ := Aside0.mk (below_drew1 HB.out)
          clear BK415
          clear HB
          have BK415 := n0_
          have HB := n1_
          clear n0_ n1_
          have q20 : (x5_1 : Int) ≤ ((l0.length : Int) : Int) := of_decide_eq_true (by first | (with_reducible assumption) | assumption)
          obtain ⟨i020, hi020, _, hsz20, _⟩ := info_parts info119
          have hroom20 : l0.length ≤ c0 := HC0.out
          have hC20 : Kd.C k119 _ (some ad416) l0.length l0 := HR0.out
          have hcut20 := cut_to (P := Try.prog) 22 119 .i64 Try.underlying22 hi020 (some ad416) l0.length c0 x5_1 (of_decide_eq_true (by first | (with_reducible assumption) | assumption)) q20 hroom20
          have hr20 := Kd.C_take (m := (x5_1 : Int).toNat) hC20 (by omega)
          have hy20 : y421.length = (x5_1 : Int).toNat := (by rw [Ny421.out, List.length_take]; omega)
          rw [← Ny421.out] at hr20
          rw [← hy20] at hcut20
          have HR424 := Aside0.mk hr20
          have HC424 := Aside0.mk (show y421.length ≤ c0 from by omega)
          clear hr20 hC20 hroom20 hi020 hsz20
          have KY20 := Aside0.mk hy20
          clear hy20
          replace q20 := eq_true q20
          have q21 : (x5_1 : Int) ≤ ((l0.length : Int) : Int) := of_decide_eq_true (by first | (with_reducible assumption) | assumption)
          obtain ⟨i021, hi021, _, hsz21, _⟩ := info_parts info119
          have hroom21 : l0.length ≤ c0 := HC0.out
          have hC21 : Kd.C k119 _ (some ad416) l0.length l0 := HR0.out
          have q021 : (0 : Int) ≤ (x5_1 : Int) := of_decide_eq_true (by first | (with_reducible assumption) | assumption)
          have hcut21 := cut_from (P := Try.prog) 22 119 .i64 Try.underlying22 hi021 2 hsz21 (some ad416) l0.length c0 x5_1 q021 q21
          have hr21 := Kd.C_drop (m := (x5_1 : Int).toNat) (c := c0) hC21 (by omega) hroom21
          obtain ⟨A21, hA21⟩ : ∃ A1, A1 = (if c0 = (x5_1 : Int).toNat then (some ad416) else ((some ad416) : Option Addr).map (·.add ((x5_1 : Int).toNat * 2))) := ⟨_, rfl⟩
          obtain ⟨c21, hc21⟩ : ∃ c1, c1 = c0 - (x5_1 : Int).toNat := ⟨_, rfl⟩
          have hy21 : y434.length = l0.length - (x5_1 : Int).toNat := (by rw [Ny434.out, List.length_drop] <;> omega)
          rw [show (l0).drop (x5_1 : Int).toNat = y434 from Ny434.out.symm] at hr21
          replace hr21 : Kd.C k119 _ A21 y434.length y434 := (by rw [hA21]; exact hr21)
          rw [← hy21, ← hA21, ← hc21] at hcut21
          have HR437 := Aside0.mk hr21
          have HC437 := Aside0.mk (show y434.length ≤ c21 from by rw [hy21, hc21]; exact Nat.sub_le_sub_right hroom21 _)
          clear hr21 hC21 hroom21 hi021 hsz21 hc21
          have KY21 := Aside0.mk hy21
          have KA21 := Aside0.mk hA21
          clear hy21 hA21
          replace q21 := eq_true q21
          refine start_ (n := 13) (S := fun w' => w'.cell? ⟨gb415, 0, none⟩ = some (.int .i64 a1_0) ∧ w'.cell? ⟨gb415, 1, none⟩ = some (.int .i64 a1_1)) (ds := []) #[false, false, false, false, false, false, false, false, false, false, false, false, false] (by kernel_rfl) rfl rfl ⟨(blk_cell BK415.out 0).trans rfl, (blk_cell BK415.out 1).trans rfl⟩ (fun hHeld => ?_); refine with_tabW spec_l2Put.tab4 spec_l2Put.bits4 (fun HT_ HW_ => ?_)
          generalize w18.drew = w19 at BK415 HB HR424 HR437 hHeld ⊢
          refine pure_ (i := 1) (N := some 21) (v := ?_) (a' := ?_) #[false, true, false, false, false, false, false, false, false, false, false, false, false] rfl rfl (any_of HT_.out (by kernel_rfl)) (fun _ _ _ h => h) (Or.inl ⟨by rfl, ?_⟩) ?_ ?_
          rotate_left
          ·intro w'
           go_simp
           with_reducible rfl
          rotate_left
          ·simp only [Act.put, List.setIfInBounds_toArray, List.set_cons_zero, List.set_cons_succ, i64_w, i32_w]
           rfl
          refine pure_ (i := 2) (N := some 22) (v := ?_) (a' := ?_) #[false, true, true, false, false, false, false, false, false, false, false, false, false] rfl rfl (any_of HT_.out (by kernel_rfl)) (fun _ _ _ h => h) (Or.inl ⟨by rfl, ?_⟩) ?_ ?_
          rotate_left
          ·intro w'
           go_simp
           with_reducible rfl
          rotate_left
          ·simp only [Act.put, List.setIfInBounds_toArray, List.set_cons_zero, List.set_cons_succ, i64_w, i32_w]
           rfl
          refine pure_ (i := 3) (N := some 23) (v := ?_) (a' := ?_) #[false, true, true, true, false, false, false, false, false, false, false, false, false] rfl rfl (any_of HT_.out (by kernel_rfl)) (fun _ _ _ h => h) (Or.inl ⟨by rfl, ?_⟩) ?_ ?_
          rotate_left
          ·intro w'
           go_simp
           with_reducible rfl
          rotate_left
          ·simp only [Act.put, List.setIfInBounds_toArray, List.set_cons_zero, List.set_cons_succ, i64_w, i32_w]
           rfl
          refine pure_ (i := 8) (N := some 28) (v := ?_) (a' := ?_) #[false, true, true, true, false, false, false, false, true, false, false, false, false] rfl rfl (any_of HT_.out (by kernel_rfl)) (fun _ _ _ h => h) (Or.inl ⟨by rfl, ?_⟩) ?_ ?_
          rotate_left
          ·intro w'
           go_simp
           with_reducible rfl
          rotate_left
          ·simp only [Act.put, List.setIfInBounds_toArray, List.set_cons_zero, List.set_cons_succ, i64_w, i32_w]
           rfl
          refine pure_ (i := 9) (N := some 29) (v := ?_) (a' := ?_) #[false, true, true, true, false, false, false, false, true, true, false, false, false] rfl rfl (any_of HT_.out (by kernel_rfl)) (fun _ _ _ h => h) (Or.inl ⟨by rfl, ?_⟩) ?_ ?_
          rotate_left
          ·intro w'
           go_simp
           with_reducible rfl
          rotate_left
          ·simp only [Act.put, List.setIfInBounds_toArray, List.set_cons_zero, List.set_cons_succ, i64_w, i32_w]
           rfl
          refine pure_ (i := 10) (N := some 30) (v := ?_) (a' := ?_) #[false, true, true, true, false, false, false, false, true, true, true, false, false] rfl rfl (any_of HT_.out (by kernel_rfl)) (fun _ _ _ h => h) (Or.inl ⟨by rfl, ?_⟩) ?_ ?_
          rotate_left
          ·intro w'
           go_simp
           with_reducible rfl
          rotate_left
          ·simp only [Act.put, List.setIfInBounds_toArray, List.set_cons_zero, List.set_cons_succ, i64_w, i32_w]
           rfl
          refine take_ (i := 5) (N := some 25) (v := ?_) (a' := ?_) #[false, true, true, true, false, true, false, false, true, true, true, false, false] rfl rfl (take_ofW HT_.out HW_.out (by kernel_rfl)) (fun _ _ _ h => h) (Or.inl ⟨by rfl, ?_⟩) hHeld ?_ ?_
          rotate_left
          ·rintro w' ⟨s0, s1⟩
           go_simp
           with_reducible rfl
          rotate_left
          ·simp only [Act.put, List.setIfInBounds_toArray, List.set_cons_zero, List.set_cons_succ, i64_w, i32_w]
           rfl
          refine join_ (σ := Value × Value × Value) 3 #[true, true, true, true, true, true, true, false, true, true, true, false, false] (fun s_ => [(20, s_.1), (24, s_.2.1), (26, s_.2.2)]) (fun s_ w' => (w'.cell? ⟨gb415, 0, none⟩ = some (.int .i64 a1_0) ∧ w'.cell? ⟨gb415, 1, none⟩ = some (.int .i64 a1_1)) ∧ (Kd.R k119 119 w' w.heap.size (fun k_ => some k_ ≠ (s_.2.2 : Value).ownBlock ∧ k_ ≠ gb415) s_.2.1 y425) ∧ (Kd.R k119 119 w' w.heap.size (fun k_ => some k_ ≠ (s_.2.1 : Value).ownBlock ∧ k_ ≠ gb415) s_.2.2 y428) ∧ (w'.heap[gb415]? = some (.cells #[.int .i64 a1_0, .int .i64 a1_1] 119 (0, 0))) ∧ (Below w.heap.size w w')) ?_ ?_
          rotate_left
          ·intro hCont
           refine two_ (i := 0) (j := 6) (Ni := some 20) (Nj := some 26) #[true, true, true, true, false, true, false, false, true, true, true, false, false] #[false, true, true, true, false, true, true, false, true, true, true, false, false] rfl rfl rfl rfl (two_of HT_.out (by kernel_rfl)) (by decide) (by decide) (fun K hK => ?_) (fun K hK => ?_)
           ·skip
            refine Kd.R_lit_step k119 _ 119 ?hg (N := 20) ?hd (xs := ([] : List (S119))) (inner := []) (ok := fun _ => True) (okp := fun _ => True) ?hr ?hp (fun _ hk => hk) trivial (Below.refl _ _) (Nat.le_refl _) (by simp) ?_; (case hd => rfl); (case hg => rfl); (case hr => first | (go_simp; done) | (go_simp; rfl)); (case hp => exact (Reps.none _ _))
            intro v419 w22 ho23 hb hg_ hnew_
            clear hg_ hnew_
            (first | rw [← Ny418.out] at ho23 | (simp only [Int.reduceToNat] at ho23; rw [← Ny418.out] at ho23))
            have n0_ := Aside0.mk (Kd.R_lower (Kd.R_newB ho23 (g := gb415) (o := .cells #[.int .i64 a1_0, .int .i64 a1_1] 119 (0, 0)) (by exact kP BK415.out)) (below_size (by exact bB)))
            have n1_ := Aside0.mk (blk_below (g := gb415) (o := .cells #[.int .i64 a1_0, .int .i64 a1_1] 119 (0, 0)) (by exact kP BK415.out) hb)
            have n2_ := Aside0.mk (below_step (by exact bB) hb)
            clear BK415
            clear HB
            have HO420 := n0_
            have BK415 := n1_
            have HB := n2_
            clear n0_ n1_ n2_
            clear hb ho23
            refine hK.out _ _ ⟨(blk_cell BK415.out 0).trans rfl, (blk_cell BK415.out 1).trans rfl⟩ (fun hHeld => ?_)
            clear hK K
            refine norm_ (a' := ?_) ?_ ?_
            rotate_left
            ·show Act.put _ (some 20) _ = _
             simp only [Act.put, List.setIfInBounds_toArray, List.set_cons_zero, List.set_cons_succ, i64_w, i32_w]
             rfl
            refine two_ (i := 4) (j := 6) (Ni := some 24) (Nj := some 26) #[true, true, true, true, true, true, false, false, true, true, true, false, false] #[true, true, true, true, false, true, true, false, true, true, true, false, false] rfl rfl rfl rfl (two_of HT_.out (by kernel_rfl)) (by decide) (by decide) (fun K hK => ?_) (fun K hK => ?_)
            ·skip
             refine Kd.R_append_rows_step k119 (w0 := w) w.heap.size (by rfl) (.tmp 20) (.tmp 23) 22 119 (.agg #[(.int .i64 0), (.int .i64 0)]) 16 rfl Try.underlying22 info119 rfl (by decide) (by omega) v419 y418 y421 _ _ _ (fun k_ => k_ ≠ gb415) (fun _ => False) rfl rfl ?aO ?aR (fun _ _ h => h) (fun _ h => h.elim) ?aF ?aB ?aS ?aL ?_
             (case aR => exact cP (Kd.C_below HR424.out HB.out))
             (case aB => exact (by exact bB))
             (case aF => exact (fun k_ hk => Kd.freshB (g := gb415) (o := .cells #[.int .i64 a1_0, .int .i64 a1_1] 119 (0, 0)) (by exact kP BK415.out) k_ hk))
             (case aO => exact (by refine rP ?_; exact Kd.R_mono HO420.out (fun _ hk => hk.2)))
             (case aS => exact (below_size (by exact bB)))
             (case aL => have := LMc12.out; omega)
             intro v426 w24 ho hb hg hat
             rw [← Ny425.out] at ho
             have n0_ := Aside0.mk (blk_grown (g := gb415) (o := .cells #[.int .i64 a1_0, .int .i64 a1_1] 119 (0, 0)) (by exact kP BK415.out) hg (Kd.R_away HO420.out (fun _ hk => hk.2)))
             have n1_ := Aside0.mk (hb)
             have n2_ := Aside0.mk (ho)
             clear BK415
             clear HB
             clear HO420
             have BK415 := n0_
             have HB := n1_
             have HO427 := n2_
             clear n0_ n1_ n2_
             clear ho hb hg hat
             refine hK.out _ _ ⟨(blk_cell BK415.out 0).trans rfl, (blk_cell BK415.out 1).trans rfl⟩ (fun hHeld => ?_)
             clear hK K
             refine norm_ (a' := ?_) ?_ ?_
             rotate_left
             ·show Act.put _ (some 24) _ = _
              simp only [Act.put, List.setIfInBounds_toArray, List.set_cons_zero, List.set_cons_succ, i64_w, i32_w]
              rfl
             refine one_ (i := 6) (N := some 26) #[true, true, true, true, true, true, true, false, true, true, true, false, false] rfl rfl (one_of HT_.out (by kernel_rfl)) (by decide) (fun K hK => ?_)
             refine Kd.R_lit_step k119 _ 119 ?hg (N := 26) ?hd (xs := ([(⟨a1_0, a1_1⟩ : S119)] : List (S119))) (inner := [.int .i64 a1_0, .int .i64 a1_1]) (ok := fun _ => True) (okp := fun _ => True) ?hr ?hp (fun _ hk => hk) trivial (Below.refl _ _) (Nat.le_refl _) (by simp) ?_; (case hd => rfl); (case hg => rfl); (case hr => first | (go_simp; done) | (go_simp; rfl)); (case hp => exact (Reps.c2 (show Kd.M k119 _ _ _ (⟨a1_0, a1_1⟩ : S119) [.int .i64 a1_0, .int .i64 a1_1] from (k119_mkM _ _ _ (⟨a1_0, a1_1⟩ : S119) )) (Reps.none _ _)))
             intro v429 w25 ho26 hb hg_ hnew_
             clear hg_ hnew_
             (first | rw [← Ny428.out] at ho26 | (simp only [Int.reduceToNat] at ho26; rw [← Ny428.out] at ho26))
             have n0_ := Aside0.mk (Kd.R_elder' (by exact rP HO427.out) (Kd.R_base ho26) hb)
             have n1_ := Aside0.mk (Kd.R_lower (Kd.R_newB (Kd.R_new' ho26 (Kd.R_lt (by exact rP HO427.out))) (g := gb415) (o := .cells #[.int .i64 a1_0, .int .i64 a1_1] 119 (0, 0)) (by exact kP BK415.out)) (below_size (by exact bB)))
             have n2_ := Aside0.mk (blk_below (g := gb415) (o := .cells #[.int .i64 a1_0, .int .i64 a1_1] 119 (0, 0)) (by exact kP BK415.out) hb)
             have n3_ := Aside0.mk (below_step (by exact bB) hb)
             clear HO427
             clear BK415
             clear HB
             have HO427 := n0_
             have HO430 := n1_
             have BK415 := n2_
             have HB := n3_
             clear n0_ n1_ n2_ n3_
             clear hb ho26
             refine hK.out _ _ ⟨(blk_cell BK415.out 0).trans rfl, (blk_cell BK415.out 1).trans rfl⟩ (fun hHeld => ?_)
             clear hK K
             refine norm_ (a' := ?_) ?_ ?_
             rotate_left
             ·show Act.put _ (some 26) _ = _
              simp only [Act.put, List.setIfInBounds_toArray, List.set_cons_zero, List.set_cons_succ, i64_w, i32_w]
              rfl
             exact norm_ (by simp only [putAll, Act.put, List.setIfInBounds_toArray, List.set_cons_zero, List.set_cons_succ]) (hCont (v419, v426, v429) _ ⟨hHeld, (by refine rP ?_; exact Kd.R_mono HO427.out (fun _ hk => ⟨hk.2, hk.1⟩)), (by refine rP ?_; exact Kd.R_mono HO430.out (fun _ hk => ⟨hk.1.2, hk.2⟩)), (by exact kP BK415.out), (by exact bB)⟩)
            ·skip
             refine Kd.R_lit_step k119 _ 119 ?hg (N := 26) ?hd (xs := ([(⟨a1_0, a1_1⟩ : S119)] : List (S119))) (inner := [.int .i64 a1_0, .int .i64 a1_1]) (ok := fun _ => True) (okp := fun _ => True) ?hr ?hp (fun _ hk => hk) trivial (Below.refl _ _) (Nat.le_refl _) (by simp) ?_; (case hd => rfl); (case hg => rfl); (case hr => first | (go_simp; done) | (go_simp; rfl)); (case hp => exact (Reps.c2 (show Kd.M k119 _ _ _ (⟨a1_0, a1_1⟩ : S119) [.int .i64 a1_0, .int .i64 a1_1] from (k119_mkM _ _ _ (⟨a1_0, a1_1⟩ : S119) )) (Reps.none _ _)))
             intro v429 w24 ho25 hb hg_ hnew_
             clear hg_ hnew_
             (first | rw [← Ny428.out] at ho25 | (simp only [Int.reduceToNat] at ho25; rw [← Ny428.out] at ho25))
             have n0_ := Aside0.mk (Kd.R_elder' (by exact rP HO420.out) (Kd.R_base ho25) hb)
             have n1_ := Aside0.mk (Kd.R_lower (Kd.R_newB (Kd.R_new' ho25 (Kd.R_lt (by exact rP HO420.out))) (g := gb415) (o := .cells #[.int .i64 a1_0, .int .i64 a1_1] 119 (0, 0)) (by exact kP BK415.out)) (below_size (by exact bB)))
             have n2_ := Aside0.mk (blk_below (g := gb415) (o := .cells #[.int .i64 a1_0, .int .i64 a1_1] 119 (0, 0)) (by exact kP BK415.out) hb)
             have n3_ := Aside0.mk (below_step (by exact bB) hb)
             clear HO420
             clear BK415
             clear HB
             have HO420 := n0_
             have HO430 := n1_
             have BK415 := n2_
             have HB := n3_
             clear n0_ n1_ n2_ n3_
             clear hb ho25
             refine hK.out _ _ ⟨(blk_cell BK415.out 0).trans rfl, (blk_cell BK415.out 1).trans rfl⟩ (fun hHeld => ?_)
             clear hK K
             refine norm_ (a' := ?_) ?_ ?_
             rotate_left
             ·show Act.put _ (some 26) _ = _
              simp only [Act.put, List.setIfInBounds_toArray, List.set_cons_zero, List.set_cons_succ, i64_w, i32_w]
              rfl
             refine one_ (i := 4) (N := some 24) #[true, true, true, true, true, true, true, false, true, true, true, false, false] rfl rfl (one_of HT_.out (by kernel_rfl)) (by decide) (fun K hK => ?_)
             refine Kd.R_append_rows_step k119 (w0 := w) w.heap.size (by rfl) (.tmp 20) (.tmp 23) 22 119 (.agg #[(.int .i64 0), (.int .i64 0)]) 16 rfl Try.underlying22 info119 rfl (by decide) (by omega) v419 y418 y421 _ _ _ (fun k_ => some k_ ≠ (v429 : Value).ownBlock ∧ k_ ≠ gb415) (fun _ => False) rfl rfl ?aO ?aR (fun _ _ h => h) (fun _ h => h.elim) ?aF ?aB ?aS ?aL ?_
             (case aR => exact cP (Kd.C_below HR424.out HB.out))
             (case aB => exact (by exact bB))
             (case aF => exact (fun k_ hk => ⟨Kd.fresh' (Kd.R_lt (by exact rP HO430.out)) k_ hk, Kd.freshB (g := gb415) (o := .cells #[.int .i64 a1_0, .int .i64 a1_1] 119 (0, 0)) (by exact kP BK415.out) k_ hk⟩))
             (case aO => exact (by refine rP ?_; exact Kd.R_mono HO420.out (fun _ hk => ⟨hk.2, hk.1.2⟩)))
             (case aS => exact (below_size (by exact bB)))
             (case aL => have := LMc12.out; omega)
             intro v426 w26 ho hb hg hat
             rw [← Ny425.out] at ho
             have n0_ := Aside0.mk (blk_grown (g := gb415) (o := .cells #[.int .i64 a1_0, .int .i64 a1_1] 119 (0, 0)) (by exact kP BK415.out) hg (Kd.R_away HO420.out (fun _ hk => hk.1.2)))
             have n1_ := Aside0.mk (Kd.R_after (ok := (fun k_ => k_ ≠ gb415)) (by exact rP (Kd.R_mono HO430.out (fun _ hk => ⟨hk.2, hk.1.2⟩))) hg hat)
             have n2_ := Aside0.mk (hb)
             have n3_ := Aside0.mk (ho)
             clear BK415
             clear HO430
             clear HB
             clear HO420
             have BK415 := n0_
             have HO430 := n1_
             have HB := n2_
             have HO427 := n3_
             clear n0_ n1_ n2_ n3_
             clear ho hb hg hat
             refine hK.out _ _ ⟨(blk_cell BK415.out 0).trans rfl, (blk_cell BK415.out 1).trans rfl⟩ (fun hHeld => ?_)
             clear hK K
             refine norm_ (a' := ?_) ?_ ?_
             rotate_left
             ·show Act.put _ (some 24) _ = _
              simp only [Act.put, List.setIfInBounds_toArray, List.set_cons_zero, List.set_cons_succ, i64_w, i32_w]
              rfl
             exact norm_ (by simp only [putAll, Act.put, List.setIfInBounds_toArray, List.set_cons_zero, List.set_cons_succ]) (hCont (v419, v426, v429) _ ⟨hHeld, (by exact rP HO427.out), (by refine rP ?_; exact Kd.R_mono HO430.out (fun _ hk => ⟨hk.2, hk.1⟩)), (by exact kP BK415.out), (by exact bB)⟩)
           ·skip
            refine Kd.R_lit_step k119 _ 119 ?hg (N := 26) ?hd (xs := ([(⟨a1_0, a1_1⟩ : S119)] : List (S119))) (inner := [.int .i64 a1_0, .int .i64 a1_1]) (ok := fun _ => True) (okp := fun _ => True) ?hr ?hp (fun _ hk => hk) trivial (Below.refl _ _) (Nat.le_refl _) (by simp) ?_; (case hd => rfl); (case hg => rfl); (case hr => first | (go_simp; done) | (go_simp; rfl)); (case hp => exact (Reps.c2 (show Kd.M k119 _ _ _ (⟨a1_0, a1_1⟩ : S119) [.int .i64 a1_0, .int .i64 a1_1] from (k119_mkM _ _ _ (⟨a1_0, a1_1⟩ : S119) )) (Reps.none _ _)))
            intro v429 w22 ho23 hb hg_ hnew_
            clear hg_ hnew_
            (first | rw [← Ny428.out] at ho23 | (simp only [Int.reduceToNat] at ho23; rw [← Ny428.out] at ho23))
            have n0_ := Aside0.mk (Kd.R_lower (Kd.R_newB ho23 (g := gb415) (o := .cells #[.int .i64 a1_0, .int .i64 a1_1] 119 (0, 0)) (by exact kP BK415.out)) (below_size (by exact bB)))
            have n1_ := Aside0.mk (blk_below (g := gb415) (o := .cells #[.int .i64 a1_0, .int .i64 a1_1] 119 (0, 0)) (by exact kP BK415.out) hb)
            have n2_ := Aside0.mk (below_step (by exact bB) hb)
            clear BK415
            clear HB
            have HO430 := n0_
            have BK415 := n1_
            have HB := n2_
            clear n0_ n1_ n2_
            clear hb ho23
            refine hK.out _ _ ⟨(blk_cell BK415.out 0).trans rfl, (blk_cell BK415.out 1).trans rfl⟩ (fun hHeld => ?_)
            clear hK K
            refine norm_ (a' := ?_) ?_ ?_
            rotate_left
            ·show Act.put _ (some 26) _ = _
             simp only [Act.put, List.setIfInBounds_toArray, List.set_cons_zero, List.set_cons_succ, i64_w, i32_w]
             rfl
            refine one_ (i := 0) (N := some 20) #[true, true, true, true, false, true, true, false, true, true, true, false, false] rfl rfl (one_of HT_.out (by kernel_rfl)) (by decide) (fun K hK => ?_)
            refine Kd.R_lit_step k119 _ 119 ?hg (N := 20) ?hd (xs := ([] : List (S119))) (inner := []) (ok := fun _ => True) (okp := fun _ => True) ?hr ?hp (fun _ hk => hk) trivial (Below.refl _ _) (Nat.le_refl _) (by simp) ?_; (case hd => rfl); (case hg => rfl); (case hr => first | (go_simp; done) | (go_simp; rfl)); (case hp => exact (Reps.none _ _))
            intro v419 w24 ho25 hb hg_ hnew_
            clear hg_ hnew_
            (first | rw [← Ny418.out] at ho25 | (simp only [Int.reduceToNat] at ho25; rw [← Ny418.out] at ho25))
            have n0_ := Aside0.mk (Kd.R_elder' (by exact rP HO430.out) (Kd.R_base ho25) hb)
            have n1_ := Aside0.mk (Kd.R_lower (Kd.R_newB (Kd.R_new' ho25 (Kd.R_lt (by exact rP HO430.out))) (g := gb415) (o := .cells #[.int .i64 a1_0, .int .i64 a1_1] 119 (0, 0)) (by exact kP BK415.out)) (below_size (by exact bB)))
            have n2_ := Aside0.mk (blk_below (g := gb415) (o := .cells #[.int .i64 a1_0, .int .i64 a1_1] 119 (0, 0)) (by exact kP BK415.out) hb)
            have n3_ := Aside0.mk (below_step (by exact bB) hb)
            clear HO430
            clear BK415
            clear HB
            have HO430 := n0_
            have HO420 := n1_
            have BK415 := n2_
            have HB := n3_
            clear n0_ n1_ n2_ n3_
            clear hb ho25
            refine hK.out _ _ ⟨(blk_cell BK415.out 0).trans rfl, (blk_cell BK415.out 1).trans rfl⟩ (fun hHeld => ?_)
            clear hK K
            refine norm_ (a' := ?_) ?_ ?_
            rotate_left
            ·show Act.put _ (some 20) _ = _
             simp only [Act.put, List.setIfInBounds_toArray, List.set_cons_zero, List.set_cons_succ, i64_w, i32_w]
             rfl
            refine one_ (i := 4) (N := some 24) #[true, true, true, true, true, true, true, false, true, true, true, false, false] rfl rfl (one_of HT_.out (by kernel_rfl)) (by decide) (fun K hK => ?_)
            refine Kd.R_append_rows_step k119 (w0 := w) w.heap.size (by rfl) (.tmp 20) (.tmp 23) 22 119 (.agg #[(.int .i64 0), (.int .i64 0)]) 16 rfl Try.underlying22 info119 rfl (by decide) (by omega) v419 y418 y421 _ _ _ (fun k_ => some k_ ≠ (v429 : Value).ownBlock ∧ k_ ≠ gb415) (fun _ => False) rfl rfl ?aO ?aR (fun _ _ h => h) (fun _ h => h.elim) ?aF ?aB ?aS ?aL ?_
            (case aR => exact cP (Kd.C_below HR424.out HB.out))
            (case aB => exact (by exact bB))
            (case aF => exact (fun k_ hk => ⟨Kd.fresh' (Kd.R_lt (by exact rP HO430.out)) k_ hk, Kd.freshB (g := gb415) (o := .cells #[.int .i64 a1_0, .int .i64 a1_1] 119 (0, 0)) (by exact kP BK415.out) k_ hk⟩))
            (case aO => exact (by refine rP ?_; exact Kd.R_mono HO420.out (fun _ hk => ⟨hk.1.2, hk.2⟩)))
            (case aS => exact (below_size (by exact bB)))
            (case aL => have := LMc12.out; omega)
            intro v426 w26 ho hb hg hat
            rw [← Ny425.out] at ho
            have n0_ := Aside0.mk (blk_grown (g := gb415) (o := .cells #[.int .i64 a1_0, .int .i64 a1_1] 119 (0, 0)) (by exact kP BK415.out) hg (Kd.R_away HO420.out (fun _ hk => hk.2)))
            have n1_ := Aside0.mk (Kd.R_after (ok := (fun k_ => k_ ≠ gb415)) (by exact rP (Kd.R_mono HO430.out (fun _ hk => ⟨hk.1.2, hk.2⟩))) hg hat)
            have n2_ := Aside0.mk (hb)
            have n3_ := Aside0.mk (ho)
            clear BK415
            clear HO430
            clear HB
            clear HO420
            have BK415 := n0_
            have HO430 := n1_
            have HB := n2_
            have HO427 := n3_
            clear n0_ n1_ n2_ n3_
            clear ho hb hg hat
            refine hK.out _ _ ⟨(blk_cell BK415.out 0).trans rfl, (blk_cell BK415.out 1).trans rfl⟩ (fun hHeld => ?_)
            clear hK K
            refine norm_ (a' := ?_) ?_ ?_
            rotate_left
            ·show Act.put _ (some 24) _ = _
             simp only [Act.put, List.setIfInBounds_toArray, List.set_cons_zero, List.set_cons_succ, i64_w, i32_w]
             rfl
            exact norm_ (by simp only [putAll, Act.put, List.setIfInBounds_toArray, List.set_cons_zero, List.set_cons_succ]) (hCont (v419, v426, v429) _ ⟨hHeld, (by exact rP HO427.out), (by refine rP ?_; exact Kd.R_mono HO430.out (fun _ hk => ⟨hk.2, hk.1⟩)), (by exact kP BK415.out), (by exact bB)⟩)
          rintro ⟨v419, v426, v429⟩ w27 ⟨hS_, h0_, h1_, h2_, h3_⟩
          have n0_ : Aside0 (Kd.R k119 119 w27 w.heap.size (fun k_ => some k_ ≠ (v429 : Value).ownBlock ∧ k_ ≠ gb415) v426 y425) := ⟨h0_⟩
          have n1_ : Aside0 (Kd.R k119 119 w27 w.heap.size (fun k_ => some k_ ≠ (v426 : Value).ownBlock ∧ k_ ≠ gb415) v429 y428) := ⟨h1_⟩
          have n2_ : Aside0 (w27.heap[gb415]? = some (.cells #[.int .i64 a1_0, .int .i64 a1_1] 119 (0, 0))) := ⟨h2_⟩
          have n3_ : Aside0 (Below w.heap.size w w27) := ⟨h3_⟩
          clear BK415
          clear HB
          clear h0_ h1_ h2_ h3_
          have HO427 := n0_
          have HO430 := n1_
          have BK415 := n2_
          have HB := n3_
          clear n0_ n1_ n2_ n3_
          have hHeld : w27.cell? ⟨gb415, 0, none⟩ = some (.int .i64 a1_0) ∧ w27.cell? ⟨gb415, 1, none⟩ = some (.int .i64 a1_1) := hS_
          obtain ⟨Ao29, co29, eo29⟩ := Kd.R_slice HO430.out
          (first | subst eo29 | (injection eo29 with f1_ f2_ f3_; have f4_ := f1_.symm; have f5_ := f3_.symm; clear f1_ f2_ f3_; subst f4_; subst f5_))
          refine norm_ (a' := ?_) ?_ ?_
          rotate_left
          ·simp only [putAll, Act.put, List.setIfInBounds_toArray, List.set_cons_zero, List.set_cons_succ]
           rfl
          refine one_ (i := 7) (N := some 27) #[true, true, true, true, true, true, true, true, true, true, true, false, false] rfl rfl (one_of HT_.out (by kernel_rfl)) (by decide) (fun K hK => ?_)
          refine Kd.R_append_rows_step k119 (w0 := w) w.heap.size (by rfl) (.tmp 24) (.tmp 26) 22 119 (.agg #[(.int .i64 0), (.int .i64 0)]) 16 rfl Try.underlying22 info119 rfl (by decide) (by omega) v426 y425 y428 _ _ _ (fun k_ => some k_ ≠ (.slice Ao29 y428.length co29 : Value).ownBlock ∧ k_ ≠ gb415) (fun _ => False) rfl rfl ?aO ?aR (fun _ _ h => h) (fun _ h => h.elim) ?aF ?aB ?aS ?aL ?_
          (case aR => exact cP (Kd.R_reads' HO430.out).2.2)
          (case aB => exact (by exact bB))
          (case aF => exact (fun k_ hk => ⟨Kd.fresh' (Kd.R_lt (by exact rP HO430.out)) k_ hk, Kd.freshB (g := gb415) (o := .cells #[.int .i64 a1_0, .int .i64 a1_1] 119 (0, 0)) (by exact kP BK415.out) k_ hk⟩))
          (case aO => exact (by exact rP HO427.out))
          (case aS => exact (below_size (by exact bB)))
          (case aL => have := LMc13.out; omega)
          intro v432 w28 ho hb hg hat
          rw [← Ny431.out] at ho
          have n0_ := Aside0.mk (blk_grown (g := gb415) (o := .cells #[.int .i64 a1_0, .int .i64 a1_1] 119 (0, 0)) (by exact kP BK415.out) hg (Kd.R_away HO427.out (fun _ hk => hk.2)))
          have n1_ := Aside0.mk (Kd.R_after (ok := (fun k_ => k_ ≠ gb415)) (by exact rP (Kd.R_mono HO430.out (fun _ hk => ⟨hk.2, hk.1⟩))) hg hat)
          have n2_ := Aside0.mk (hb)
          have n3_ := Aside0.mk (ho)
          clear BK415
          clear HO430
          clear HB
          clear HO427
          have BK415 := n0_
          have HO430 := n1_
          have HB := n2_
          have HO433 := n3_
          clear n0_ n1_ n2_ n3_
          clear ho hb hg hat
          refine hK.out _ _ ⟨(blk_cell BK415.out 0).trans rfl, (blk_cell BK415.out 1).trans rfl⟩ (fun hHeld => ?_)
          clear hK K
          refine norm_ (a' := ?_) ?_ ?_
          rotate_left
          ·show Act.put _ (some 27) _ = _
           simp only [Act.put, List.setIfInBounds_toArray, List.set_cons_zero, List.set_cons_succ, i64_w, i32_w]
           rfl
          refine one_ (i := 11) (N := some 31) #[true, true, true, true, true, true, true, true, true, true, true, true, false] rfl rfl (one_of HT_.out (by kernel_rfl)) (by decide) (fun K hK => ?_)
          refine Kd.R_append_rows_step k119 (w0 := w) w.heap.size (by rfl) (.tmp 27) (.tmp 30) 22 119 (.agg #[(.int .i64 0), (.int .i64 0)]) 16 rfl Try.underlying22 info119 rfl (by decide) (by omega) v432 y431 y434 _ _ _ (fun k_ => some k_ ≠ (.slice Ao29 y428.length co29 : Value).ownBlock ∧ k_ ≠ gb415) (fun _ => False) rfl rfl ?aO ?aR (fun _ _ h => h) (fun _ h => h.elim) ?aF ?aB ?aS ?aL ?_
          (case aR => exact cP (Kd.C_below HR437.out HB.out))
          (case aB => exact (by exact bB))
          (case aF => exact (fun k_ hk => ⟨Kd.fresh' (Kd.R_lt (by exact rP HO430.out)) k_ hk, Kd.freshB (g := gb415) (o := .cells #[.int .i64 a1_0, .int .i64 a1_1] 119 (0, 0)) (by exact kP BK415.out) k_ hk⟩))
          (case aO => exact (by exact rP HO433.out))
          (case aS => exact (below_size (by exact bB)))
          (case aL => have := LMc16.out; omega)
          intro v439 w30 ho hb hg hat
          rw [← Ny438.out] at ho
          have n0_ := Aside0.mk (blk_grown (g := gb415) (o := .cells #[.int .i64 a1_0, .int .i64 a1_1] 119 (0, 0)) (by exact kP BK415.out) hg (Kd.R_away HO433.out (fun _ hk => hk.2)))
          have n1_ := Aside0.mk (Kd.R_after (ok := (fun k_ => k_ ≠ gb415)) (by exact rP HO430.out) hg hat)
          have n2_ := Aside0.mk (hb)
          have n3_ := Aside0.mk (ho)
          clear BK415
          clear HO430
          clear HB
          clear HO433
          have BK415 := n0_
          have HO430 := n1_
          have HB := n2_
          have HO440 := n3_
          clear n0_ n1_ n2_ n3_
          clear ho hb hg hat
          refine hK.out _ _ ⟨(blk_cell BK415.out 0).trans rfl, (blk_cell BK415.out 1).trans rfl⟩ (fun hHeld => ?_)
          clear hK K
          refine norm_ (a' := ?_) ?_ ?_
          rotate_left
          ·show Act.put _ (some 31) _ = _
           simp only [Act.put, List.setIfInBounds_toArray, List.set_cons_zero, List.set_cons_succ, i64_w, i32_w]
           rfl
          refine pure_ (i := 12) (N := some 4) (v := ?_) (a' := ?_) #[true, true, true, true, true, true, true, true, true, true, true, true, true] rfl rfl (any_of HT_.out (by kernel_rfl)) (fun _ _ _ h => h) (Or.inl ⟨by rfl, ?_⟩) ?_ ?_
          rotate_left
          ·intro w'
           go_simp
           with_reducible rfl
          rotate_left
          ·simp only [Act.put, List.setIfInBounds_toArray, List.set_cons_zero, List.set_cons_succ, i64_w, i32_w]
           rfl
          refine done_ (done_of HT_.out (by kernel_rfl)) ?_
          try go_wp2
          go_ret
          exact ⟨_, by first | rfl | (simp [errW_none, errW_some] <;> rfl) | (simp [*, errW_none, errW_some] <;> rfl), by refine rP ?_; exact Kd.R_mono HO440.out (fun _ hk => trivial), by exact bB⟩
         ·rw [if_neg c16] at H
          exact absurd H (by simp)
        ·rw [if_neg c13] at H
         exact absurd H (by simp)
       ·rw [if_neg c12] at H
        exact absurd H (by simp)
      ·rw [if_neg c11] at H
       exact absurd H (by simp)
    ·rw [if_neg c5] at H
     exact absurd H (by simp)
   ·rw [if_neg c4] at H
    have c4b0 : decide (x5_1 < (l0.length : Int)) = false := decide_eq_false c4
    clear c4
    obtain ⟨y441, hy441⟩ : ∃ y_ : List (S119), y_ = (([] : List (S119))) := ⟨_, rfl⟩
    replace H : (if 0 ≤ x5_1 then (if x5_1 ≤ (l0.length : Int) then ((some (l0.take (x5_1 : Int).toNat : List (S119))).bind fun y444 => (if y441.length + y444.length < 8796093022208 then ((some (y441 ++ y444 : List (S119))).bind fun y448 => ((some (([(⟨a1_0, a1_1⟩ : S119)] : List (S119)) : List (S119))).bind fun y451 => (if y448.length + y451.length < 8796093022208 then ((some (y448 ++ y451 : List (S119))).bind fun y454 => ((some (l0.drop (x5_1 : Int).toNat : List (S119))).bind fun y457 => (if y454.length + y457.length < 8796093022208 then (some (y454 ++ y457)) else (none)))) else (none)))) else (none))) else (none)) else (none)) = some r := by first | (rw [hy441]; with_reducible exact H) | (have H2_ := (Option.bind_some _ _).symm.trans H; rw [hy441]; with_reducible exact H2_) | (have H2_ := (Option.bind_some _ _).symm.trans H; with_reducible exact H2_) | with_reducible exact H | (rw [hy441]; exact H) | exact H
    have Ny441 := Aside0.mk hy441
    clear hy441
    by_cases c31 : 0 ≤ x5_1
    ·rw [if_pos c31] at H
     have c31b0 := eq_true c31
     have c31b1 : decide (0 ≤ x5_1) = true := decide_eq_true c31
     clear c31
     by_cases c32 : x5_1 ≤ (l0.length : Int)
     ·rw [if_pos c32] at H
      have c32b0 := eq_true c32
      have c32b1 : decide (x5_1 ≤ (l0.length : Int)) = true := decide_eq_true c32
      clear c32
      obtain ⟨y444, hy444⟩ : ∃ y_ : List (S119), y_ = (l0.take (x5_1 : Int).toNat) := ⟨_, rfl⟩
      replace H : (if y441.length + y444.length < 8796093022208 then ((some (y441 ++ y444 : List (S119))).bind fun y448 => ((some (([(⟨a1_0, a1_1⟩ : S119)] : List (S119)) : List (S119))).bind fun y451 => (if y448.length + y451.length < 8796093022208 then ((some (y448 ++ y451 : List (S119))).bind fun y454 => ((some (l0.drop (x5_1 : Int).toNat : List (S119))).bind fun y457 => (if y454.length + y457.length < 8796093022208 then (some (y454 ++ y457)) else (none)))) else (none)))) else (none)) = some r := by first | (rw [hy444]; with_reducible exact H) | (have H2_ := (Option.bind_some _ _).symm.trans H; rw [hy444]; with_reducible exact H2_) | (have H2_ := (Option.bind_some _ _).symm.trans H; with_reducible exact H2_) | with_reducible exact H | (rw [hy444]; exact H) | exact H
      have Ny444 := Aside0.mk hy444
      clear hy444
      by_cases c33 : y441.length + y444.length < 8796093022208
      ·rw [if_pos c33] at H
       have LMc33 := Aside0.mk c33
       clear c33
       obtain ⟨y448, hy448⟩ : ∃ y_ : List (S119), y_ = (y441 ++ y444) := ⟨_, rfl⟩
       replace H : ((some (([(⟨a1_0, a1_1⟩ : S119)] : List (S119)) : List (S119))).bind fun y451 => (if y448.length + y451.length < 8796093022208 then ((some (y448 ++ y451 : List (S119))).bind fun y454 => ((some (l0.drop (x5_1 : Int).toNat : List (S119))).bind fun y457 => (if y454.length + y457.length < 8796093022208 then (some (y454 ++ y457)) else (none)))) else (none))) = some r := by first | (rw [hy448]; with_reducible exact H) | (have H2_ := (Option.bind_some _ _).symm.trans H; rw [hy448]; with_reducible exact H2_) | (have H2_ := (Option.bind_some _ _).symm.trans H; with_reducible exact H2_) | with_reducible exact H | (rw [hy448]; exact H) | exact H
       have Ny448 := Aside0.mk hy448
       clear hy448
       obtain ⟨y451, hy451⟩ : ∃ y_ : List (S119), y_ = (([(⟨a1_0, a1_1⟩ : S119)] : List (S119))) := ⟨_, rfl⟩
       replace H : (if y448.length + y451.length < 8796093022208 then ((some (y448 ++ y451 : List (S119))).bind fun y454 => ((some (l0.drop (x5_1 : Int).toNat : List (S119))).bind fun y457 => (if y454.length + y457.length < 8796093022208 then (some (y454 ++ y457)) else (none)))) else (none)) = some r := by first | (rw [hy451]; with_reducible exact H) | (have H2_ := (Option.bind_some _ _).symm.trans H; rw [hy451]; with_reducible exact H2_) | (have H2_ := (Option.bind_some _ _).symm.trans H; with_reducible exact H2_) | with_reducible exact H | (rw [hy451]; exact H) | exact H
       have Ny451 := Aside0.mk hy451
       clear hy451
       by_cases c34 : y448.length + y451.length < 8796093022208
       ·rw [if_pos c34] at H
        have LMc34 := Aside0.mk c34
        clear c34
        obtain ⟨y454, hy454⟩ : ∃ y_ : List (S119), y_ = (y448 ++ y451) := ⟨_, rfl⟩
        replace H : ((some (l0.drop (x5_1 : Int).toNat : List (S119))).bind fun y457 => (if y454.length + y457.length < 8796093022208 then (some (y454 ++ y457)) else (none))) = some r := by first | (rw [hy454]; with_reducible exact H) | (have H2_ := (Option.bind_some _ _).symm.trans H; rw [hy454]; with_reducible exact H2_) | (have H2_ := (Option.bind_some _ _).symm.trans H; with_reducible exact H2_) | with_reducible exact H | (rw [hy454]; exact H) | exact H
        have Ny454 := Aside0.mk hy454
        clear hy454
        have c35b0 := eq_true (of_decide_eq_true (by first | (with_reducible assumption) | assumption) : 0 ≤ x5_1)
        have c36b0 := eq_true (of_decide_eq_true (by first | (with_reducible assumption) | assumption) : x5_1 ≤ (l0.length : Int))
        obtain ⟨y457, hy457⟩ : ∃ y_ : List (S119), y_ = (l0.drop (x5_1 : Int).toNat) := ⟨_, rfl⟩
        replace H : (if y454.length + y457.length < 8796093022208 then (some (y454 ++ y457)) else (none)) = some r := by first | (rw [hy457]; with_reducible exact H) | (have H2_ := (Option.bind_some _ _).symm.trans H; rw [hy457]; with_reducible exact H2_) | (have H2_ := (Option.bind_some _ _).symm.trans H; with_reducible exact H2_) | with_reducible exact H | (rw [hy457]; exact H) | exact H
        have Ny457 := Aside0.mk hy457
        clear hy457
        by_cases c37 : y454.length + y457.length < 8796093022208
        ·rw [if_pos c37] at H
         have LMc37 := Aside0.mk c37
         clear c37
         obtain ⟨y461, hy461⟩ : ∃ y_ : List (S119), y_ = (y454 ++ y457) := ⟨_, rfl⟩
         replace H : (some y461) = some r := by first | (rw [hy461]; with_reducible exact H) | (have H2_ := (Option.bind_some _ _).symm.trans H; rw [hy461]; with_reducible exact H2_) | (have H2_ := (Option.bind_some _ _).symm.trans H; with_reducible exact H2_) | with_reducible exact H | (rw [hy461]; exact H) | exact H
         have Ny461 := Aside0.mk hy461
         clear hy461
         obtain rfl := Option.some.inj H
         try go_wp2
         have n0_ := Aside0.mk (blk_drew BK415.out)
         have n1_ := Aside0.mk (below_drew1 HB.out)
         clear BK415
         clear HB
         have BK415 := n0_
         have HB := n1_
         clear n0_ n1_
         refine start_ (n := 12) (S := fun w' => True) (ds := []) #[false, false, false, false, false, false, false, false, false, false, false, false] (by kernel_rfl) rfl rfl trivial (fun hHeld => ?_); refine with_tabW spec_l2Put.tab2 spec_l2Put.bits2 (fun HT_ HW_ => ?_)
         generalize wr.drew = w38 at BK415 HB hHeld ⊢
         refine pure_ (i := 0) (N := some 6) (v := ?_) (a' := ?_) #[true, false, false, false, false, false, false, false, false, false, false, false] rfl rfl (any_of HT_.out (by kernel_rfl)) (fun _ _ _ h => h) (Or.inl ⟨by rfl, ?_⟩) ?_ ?_
         rotate_left
         ·intro w'
          go_simp
          with_reducible rfl
         rotate_left
         ·simp only [Act.put, List.setIfInBounds_toArray, List.set_cons_zero, List.set_cons_succ, i64_w, i32_w]
          rfl
         refine pure_ (i := 1) (N := some 7) (v := ?_) (a' := ?_) #[true, true, false, false, false, false, false, false, false, false, false, false] rfl rfl (any_of HT_.out (by kernel_rfl)) (fun _ _ _ h => h) (Or.inl ⟨by rfl, ?_⟩) ?_ ?_
         rotate_left
         ·intro w'
          go_simp
          with_reducible rfl
         rotate_left
         ·simp only [Act.put, List.setIfInBounds_toArray, List.set_cons_zero, List.set_cons_succ, i64_w, i32_w]
          rfl
         refine pure_ (i := 2) (N := some 8) (v := ?_) (a' := ?_) #[true, true, true, false, false, false, false, false, false, false, false, false] rfl rfl (any_of HT_.out (by kernel_rfl)) (fun _ _ _ h => h) (Or.inl ⟨by rfl, ?_⟩) ?_ ?_
         rotate_left
         ·intro w'
          go_simp
          with_reducible rfl
         rotate_left
         ·simp only [Act.put, List.setIfInBounds_toArray, List.set_cons_zero, List.set_cons_succ, i64_w, i32_w]
          rfl
         refine pure_ (i := 3) (N := some 9) (v := ?_) (a' := ?_) #[true, true, true, true, false, false, false, false, false, false, false, false] rfl rfl (any_of HT_.out (by kernel_rfl)) (fun _ _ _ h => h) (Or.inl ⟨by rfl, ?_⟩) ?_ ?_
         rotate_left
         ·intro w'
          go_simp
          with_reducible rfl
         rotate_left
         ·simp only [Act.put, List.setIfInBounds_toArray, List.set_cons_zero, List.set_cons_succ, i64_w, i32_w]
          rfl
         refine pure_ (i := 4) (N := some 10) (v := ?_) (a' := ?_) #[true, true, true, true, true, false, false, false, false, false, false, false] rfl rfl (any_of HT_.out (by kernel_rfl)) (fun _ _ _ h => h) (Or.inl ⟨by rfl, ?_⟩) ?_ ?_
         rotate_left
         ·intro w'
          go_simp
          with_reducible rfl
         rotate_left
         ·simp only [Act.put, List.setIfInBounds_toArray, List.set_cons_zero, List.set_cons_succ, i64_w, i32_w]
          rfl
         refine pure_ (i := 5) (N := some 11) (v := undef) (a' := ?_) #[true, true, true, true, true, true, false, false, false, false, false, false] rfl rfl (any_of HT_.out (by kernel_rfl)) (fun _ _ _ h => h) (Or.inr ⟨by rfl, rfl⟩) ?_ ?_
         rotate_left
         ·simp only [Act.put, List.setIfInBounds_toArray, List.set_cons_zero, List.set_cons_succ, i64_w, i32_w]
          rfl
         refine pure_ (i := 6) (N := some 12) (v := undef) (a' := ?_) #[true, true, true, true, true, true, true, false, false, false, false, false] rfl rfl (any_of HT_.out (by kernel_rfl)) (fun _ _ _ h => h) (Or.inr ⟨by rfl, rfl⟩) ?_ ?_
         rotate_left
         ·simp only [Act.put, List.setIfInBounds_toArray, List.set_cons_zero, List.set_cons_succ, i64_w, i32_w]
          rfl
         refine pure_ (i := 7) (N := some 13) (v := undef) (a' := ?_) #[true, true, true, true, true, true, true, true, false, false, false, false] rfl rfl (any_of HT_.out (by kernel_rfl)) (fun _ _ _ h => h) (Or.inr ⟨by rfl, rfl⟩) ?_ ?_
         rotate_left
         ·simp only [Act.put, List.setIfInBounds_toArray, List.set_cons_zero, List.set_cons_succ, i64_w, i32_w]
          rfl
         refine pure_ (i := 8) (N := some 14) (v := undef) (a' := ?_) #[true, true, true, true, true, true, true, true, true, false, false, false] rfl rfl (any_of HT_.out (by kernel_rfl)) (fun _ _ _ h => h) (Or.inr ⟨by rfl, rfl⟩) ?_ ?_
         rotate_left
         ·simp only [Act.put, List.setIfInBounds_toArray, List.set_cons_zero, List.set_cons_succ, i64_w, i32_w]
          rfl
         refine pure_ (i := 9) (N := some 15) (v := undef) (a' := ?_) #[true, true, true, true, true, true, true, true, true, true, false, false] rfl rfl (any_of HT_.out (by kernel_rfl)) (fun _ _ _ h => h) (Or.inr ⟨by rfl, rfl⟩) ?_ ?_
         rotate_left
         ·simp only [Act.put, List.setIfInBounds_toArray, List.set_cons_zero, List.set_cons_succ, i64_w, i32_w]
          rfl
         refine pure_ (i := 10) (N := some 16) (v := undef) (a' := ?_) #[true, true, true, true, true, true, true, true, true, true, true, false] rfl rfl (any_of HT_.out (by kernel_rfl)) (fun _ _ _ h => h) (Or.inr ⟨by rfl, rfl⟩) ?_ ?_
         rotate_left
         ·simp only [Act.put, List.setIfInBounds_toArray, List.set_cons_zero, List.set_cons_succ, i64_w, i32_w]
          rfl
         refine pure_ (i := 11) (N := some 17) (v := ?_) (a' := ?_) #[true, true, true, true, true, true, true, true, true, true, true, true] rfl rfl (any_of HT_.out (by kernel_rfl)) (fun _ _ _ h => h) (Or.inl ⟨by rfl, ?_⟩) ?_ ?_
         rotate_left
         ·intro w'
          go_simp
          with_reducible rfl
         rotate_left
         ·simp only [Act.put, List.setIfInBounds_toArray, List.set_cons_zero, List.set_cons_succ, i64_w, i32_w]
          rfl
         refine done_ (done_of HT_.out (by kernel_rfl)) ?_
         try go_wp2
         have n0_ := Aside0.mk (blk_drew BK415.out)
         have n1_ := Aside0.mk (below_drew1 HB.out)
         clear BK415
         clear HB
         have BK415 := n0_
         have HB := n1_
         clear n0_ n1_
         have q40 : (x5_1 : Int) ≤ ((l0.length : Int) : Int) := of_decide_eq_true (by first | (with_reducible assumption) | assumption)
         obtain ⟨i040, hi040, _, hsz40, _⟩ := info_parts info119
         have hroom40 : l0.length ≤ c0 := HC0.out
         have hC40 : Kd.C k119 _ A0 l0.length l0 := HR0.out
         have hcut40 := cut_to (P := Try.prog) 22 119 .i64 Try.underlying22 hi040 A0 l0.length c0 x5_1 (of_decide_eq_true (by first | (with_reducible assumption) | assumption)) q40 hroom40
         have hr40 := Kd.C_take (m := (x5_1 : Int).toNat) hC40 (by omega)
         have hy40 : y444.length = (x5_1 : Int).toNat := (by rw [Ny444.out, List.length_take]; omega)
         rw [← Ny444.out] at hr40
         rw [← hy40] at hcut40
         have HR447 := Aside0.mk hr40
         have HC447 := Aside0.mk (show y444.length ≤ c0 from by omega)
         clear hr40 hC40 hroom40 hi040 hsz40
         have KY40 := Aside0.mk hy40
         clear hy40
         replace q40 := eq_true q40
         have q41 : (x5_1 : Int) ≤ ((l0.length : Int) : Int) := of_decide_eq_true (by first | (with_reducible assumption) | assumption)
         obtain ⟨i041, hi041, _, hsz41, _⟩ := info_parts info119
         have hroom41 : l0.length ≤ c0 := HC0.out
         have hC41 : Kd.C k119 _ A0 l0.length l0 := HR0.out
         have q041 : (0 : Int) ≤ (x5_1 : Int) := of_decide_eq_true (by first | (with_reducible assumption) | assumption)
         have hcut41 := cut_from (P := Try.prog) 22 119 .i64 Try.underlying22 hi041 2 hsz41 A0 l0.length c0 x5_1 q041 q41
         have hr41 := Kd.C_drop (m := (x5_1 : Int).toNat) (c := c0) hC41 (by omega) hroom41
         obtain ⟨A41, hA41⟩ : ∃ A1, A1 = (if c0 = (x5_1 : Int).toNat then A0 else (A0 : Option Addr).map (·.add ((x5_1 : Int).toNat * 2))) := ⟨_, rfl⟩
         obtain ⟨c41, hc41⟩ : ∃ c1, c1 = c0 - (x5_1 : Int).toNat := ⟨_, rfl⟩
         have hy41 : y457.length = l0.length - (x5_1 : Int).toNat := (by rw [Ny457.out, List.length_drop] <;> omega)
         rw [show (l0).drop (x5_1 : Int).toNat = y457 from Ny457.out.symm] at hr41
         replace hr41 : Kd.C k119 _ A41 y457.length y457 := (by rw [hA41]; exact hr41)
         rw [← hy41, ← hA41, ← hc41] at hcut41
         have HR460 := Aside0.mk hr41
         have HC460 := Aside0.mk (show y457.length ≤ c41 from by rw [hy41, hc41]; exact Nat.sub_le_sub_right hroom41 _)
         clear hr41 hC41 hroom41 hi041 hsz41 hc41
         have KY41 := Aside0.mk hy41
         have KA41 := Aside0.mk hA41
         clear hy41 hA41
         replace q41 := eq_true q41
         refine start_ (n := 13) (S := fun w' => w'.cell? ⟨gb415, 0, none⟩ = some (.int .i64 a1_0) ∧ w'.cell? ⟨gb415, 1, none⟩ = some (.int .i64 a1_1)) (ds := []) #[false, false, false, false, false, false, false, false, false, false, false, false, false] (by kernel_rfl) rfl rfl ⟨(blk_cell BK415.out 0).trans rfl, (blk_cell BK415.out 1).trans rfl⟩ (fun hHeld => ?_); refine with_tabW spec_l2Put.tab4 spec_l2Put.bits4 (fun HT_ HW_ => ?_)
         generalize w38.drew = w39 at BK415 HB HR447 HR460 hHeld ⊢
         refine pure_ (i := 1) (N := some 21) (v := ?_) (a' := ?_) #[false, true, false, false, false, false, false, false, false, false, false, false, false] rfl rfl (any_of HT_.out (by kernel_rfl)) (fun _ _ _ h => h) (Or.inl ⟨by rfl, ?_⟩) ?_ ?_
         rotate_left
         ·intro w'
          go_simp
          with_reducible rfl
         rotate_left
         ·simp only [Act.put, List.setIfInBounds_toArray, List.set_cons_zero, List.set_cons_succ, i64_w, i32_w]
          rfl
         refine pure_ (i := 2) (N := some 22) (v := ?_) (a' := ?_) #[false, true, true, false, false, false, false, false, false, false, false, false, false] rfl rfl (any_of HT_.out (by kernel_rfl)) (fun _ _ _ h => h) (Or.inl ⟨by rfl, ?_⟩) ?_ ?_
         rotate_left
         ·intro w'
          go_simp
          with_reducible rfl
         rotate_left
         ·simp only [Act.put, List.setIfInBounds_toArray, List.set_cons_zero, List.set_cons_succ, i64_w, i32_w]
          rfl
         refine pure_ (i := 3) (N := some 23) (v := ?_) (a' := ?_) #[false, true, true, true, false, false, false, false, false, false, false, false, false] rfl rfl (any_of HT_.out (by kernel_rfl)) (fun _ _ _ h => h) (Or.inl ⟨by rfl, ?_⟩) ?_ ?_
         rotate_left
         ·intro w'
          go_simp
          with_reducible rfl
         rotate_left
         ·simp only [Act.put, List.setIfInBounds_toArray, List.set_cons_zero, List.set_cons_succ, i64_w, i32_w]
          rfl
         refine pure_ (i := 8) (N := some 28) (v := ?_) (a' := ?_) #[false, true, true, true, false, false, false, false, true, false, false, false, false] rfl rfl (any_of HT_.out (by kernel_rfl)) (fun _ _ _ h => h) (Or.inl ⟨by rfl, ?_⟩) ?_ ?_
         rotate_left
         ·intro w'
          go_simp
          with_reducible rfl
         rotate_left
         ·simp only [Act.put, List.setIfInBounds_toArray, List.set_cons_zero, List.set_cons_succ, i64_w, i32_w]
          rfl
         refine pure_ (i := 9) (N := some 29) (v := ?_) (a' := ?_) #[false, true, true, true, false, false, false, false, true, true, false, false, false] rfl rfl (any_of HT_.out (by kernel_rfl)) (fun _ _ _ h => h) (Or.inl ⟨by rfl, ?_⟩) ?_ ?_
         rotate_left
         ·intro w'
          go_simp
          with_reducible rfl
         rotate_left
         ·simp only [Act.put, List.setIfInBounds_toArray, List.set_cons_zero, List.set_cons_succ, i64_w, i32_w]
          rfl
         refine pure_ (i := 10) (N := some 30) (v := ?_) (a' := ?_) #[false, true, true, true, false, false, false, false, true, true, true, false, false] rfl rfl (any_of HT_.out (by kernel_rfl)) (fun _ _ _ h => h) (Or.inl ⟨by rfl, ?_⟩) ?_ ?_
         rotate_left
         ·intro w'
          go_simp
          with_reducible rfl
         rotate_left
         ·simp only [Act.put, List.setIfInBounds_toArray, List.set_cons_zero, List.set_cons_succ, i64_w, i32_w]
          rfl
         refine take_ (i := 5) (N := some 25) (v := ?_) (a' := ?_) #[false, true, true, true, false, true, false, false, true, true, true, false, false] rfl rfl (take_ofW HT_.out HW_.out (by kernel_rfl)) (fun _ _ _ h => h) (Or.inl ⟨by rfl, ?_⟩) hHeld ?_ ?_
         rotate_left
         ·rintro w' ⟨s0, s1⟩
          go_simp
          with_reducible rfl
         rotate_left
         ·simp only [Act.put, List.setIfInBounds_toArray, List.set_cons_zero, List.set_cons_succ, i64_w, i32_w]
          rfl
         refine join_ (σ := Value × Value × Value) 3 #[true, true, true, true, true, true, true, false, true, true, true, false, false] (fun s_ => [(20, s_.1), (24, s_.2.1), (26, s_.2.2)]) (fun s_ w' => (w'.cell? ⟨gb415, 0, none⟩ = some (.int .i64 a1_0) ∧ w'.cell? ⟨gb415, 1, none⟩ = some (.int .i64 a1_1)) ∧ (Kd.R k119 119 w' w.heap.size (fun k_ => some k_ ≠ (s_.2.2 : Value).ownBlock ∧ k_ ≠ gb415) s_.2.1 y448) ∧ (Kd.R k119 119 w' w.heap.size (fun k_ => some k_ ≠ (s_.2.1 : Value).ownBlock ∧ k_ ≠ gb415) s_.2.2 y451) ∧ (w'.heap[gb415]? = some (.cells #[.int .i64 a1_0, .int .i64 a1_1] 119 (0, 0))) ∧ (Below w.heap.size w w')) ?_ ?_
         rotate_left
         ·intro hCont
          refine two_ (i := 0) (j := 6) (Ni := some 20) (Nj := some 26) #[true, true, true, true, false, true, false, false, true, true, true, false, false] #[false, true, true, true, false, true, true, false, true, true, true, false, false] rfl rfl rfl rfl (two_of HT_.out (by kernel_rfl)) (by decide) (by decide) (fun K hK => ?_) (fun K hK => ?_)
          ·skip
           refine Kd.R_lit_step k119 _ 119 ?hg (N := 20) ?hd (xs := ([] : List (S119))) (inner := []) (ok := fun _ => True) (okp := fun _ => True) ?hr ?hp (fun _ hk => hk) trivial (Below.refl _ _) (Nat.le_refl _) (by simp) ?_; (case hd => rfl); (case hg => rfl); (case hr => first | (go_simp; done) | (go_simp; rfl)); (case hp => exact (Reps.none _ _))
           intro v442 w42 ho43 hb hg_ hnew_
           clear hg_ hnew_
           (first | rw [← Ny441.out] at ho43 | (simp only [Int.reduceToNat] at ho43; rw [← Ny441.out] at ho43))
           have n0_ := Aside0.mk (Kd.R_lower (Kd.R_newB ho43 (g := gb415) (o := .cells #[.int .i64 a1_0, .int .i64 a1_1] 119 (0, 0)) (by exact kP BK415.out)) (below_size (by exact bB)))
           have n1_ := Aside0.mk (blk_below (g := gb415) (o := .cells #[.int .i64 a1_0, .int .i64 a1_1] 119 (0, 0)) (by exact kP BK415.out) hb)
           have n2_ := Aside0.mk (below_step (by exact bB) hb)
           clear BK415
           clear HB
           have HO443 := n0_
           have BK415 := n1_
           have HB := n2_
           clear n0_ n1_ n2_
           clear hb ho43
           refine hK.out _ _ ⟨(blk_cell BK415.out 0).trans rfl, (blk_cell BK415.out 1).trans rfl⟩ (fun hHeld => ?_)
           clear hK K
           refine norm_ (a' := ?_) ?_ ?_
           rotate_left
           ·show Act.put _ (some 20) _ = _
            simp only [Act.put, List.setIfInBounds_toArray, List.set_cons_zero, List.set_cons_succ, i64_w, i32_w]
            rfl
           refine two_ (i := 4) (j := 6) (Ni := some 24) (Nj := some 26) #[true, true, true, true, true, true, false, false, true, true, true, false, false] #[true, true, true, true, false, true, true, false, true, true, true, false, false] rfl rfl rfl rfl (two_of HT_.out (by kernel_rfl)) (by decide) (by decide) (fun K hK => ?_) (fun K hK => ?_)
           ·skip
            refine Kd.R_append_rows_step k119 (w0 := w) w.heap.size (by rfl) (.tmp 20) (.tmp 23) 22 119 (.agg #[(.int .i64 0), (.int .i64 0)]) 16 rfl Try.underlying22 info119 rfl (by decide) (by omega) v442 y441 y444 _ _ _ (fun k_ => k_ ≠ gb415) (fun _ => False) rfl rfl ?aO ?aR (fun _ _ h => h) (fun _ h => h.elim) ?aF ?aB ?aS ?aL ?_
            (case aR => exact cP (Kd.C_below HR447.out HB.out))
            (case aB => exact (by exact bB))
            (case aF => exact (fun k_ hk => Kd.freshB (g := gb415) (o := .cells #[.int .i64 a1_0, .int .i64 a1_1] 119 (0, 0)) (by exact kP BK415.out) k_ hk))
            (case aO => exact (by refine rP ?_; exact Kd.R_mono HO443.out (fun _ hk => hk.2)))
            (case aS => exact (below_size (by exact bB)))
            (case aL => have := LMc33.out; omega)
            intro v449 w44 ho hb hg hat
            rw [← Ny448.out] at ho
            have n0_ := Aside0.mk (blk_grown (g := gb415) (o := .cells #[.int .i64 a1_0, .int .i64 a1_1] 119 (0, 0)) (by exact kP BK415.out) hg (Kd.R_away HO443.out (fun _ hk => hk.2)))
            have n1_ := Aside0.mk (hb)
            have n2_ := Aside0.mk (ho)
            clear BK415
            clear HB
            clear HO443
            have BK415 := n0_
            have HB := n1_
            have HO450 := n2_
            clear n0_ n1_ n2_
            clear ho hb hg hat
            refine hK.out _ _ ⟨(blk_cell BK415.out 0).trans rfl, (blk_cell BK415.out 1).trans rfl⟩ (fun hHeld => ?_)
            clear hK K
            refine norm_ (a' := ?_) ?_ ?_
            rotate_left
            ·show Act.put _ (some 24) _ = _
             simp only [Act.put, List.setIfInBounds_toArray, List.set_cons_zero, List.set_cons_succ, i64_w, i32_w]
             rfl
            refine one_ (i := 6) (N := some 26) #[true, true, true, true, true, true, true, false, true, true, true, false, false] rfl rfl (one_of HT_.out (by kernel_rfl)) (by decide) (fun K hK => ?_)
            refine Kd.R_lit_step k119 _ 119 ?hg (N := 26) ?hd (xs := ([(⟨a1_0, a1_1⟩ : S119)] : List (S119))) (inner := [.int .i64 a1_0, .int .i64 a1_1]) (ok := fun _ => True) (okp := fun _ => True) ?hr ?hp (fun _ hk => hk) trivial (Below.refl _ _) (Nat.le_refl _) (by simp) ?_; (case hd => rfl); (case hg => rfl); (case hr => first | (go_simp; done) | (go_simp; rfl)); (case hp => exact (Reps.c2 (show Kd.M k119 _ _ _ (⟨a1_0, a1_1⟩ : S119) [.int .i64 a1_0, .int .i64 a1_1] from (k119_mkM _ _ _ (⟨a1_0, a1_1⟩ : S119) )) (Reps.none _ _)))
            intro v452 w45 ho46 hb hg_ hnew_
            clear hg_ hnew_
            (first | rw [← Ny451.out] at ho46 | (simp only [Int.reduceToNat] at ho46; rw [← Ny451.out] at ho46))
            have n0_ := Aside0.mk (Kd.R_elder' (by exact rP HO450.out) (Kd.R_base ho46) hb)
            have n1_ := Aside0.mk (Kd.R_lower (Kd.R_newB (Kd.R_new' ho46 (Kd.R_lt (by exact rP HO450.out))) (g := gb415) (o := .cells #[.int .i64 a1_0, .int .i64 a1_1] 119 (0, 0)) (by exact kP BK415.out)) (below_size (by exact bB)))
            have n2_ := Aside0.mk (blk_below (g := gb415) (o := .cells #[.int .i64 a1_0, .int .i64 a1_1] 119 (0, 0)) (by exact kP BK415.out) hb)
            have n3_ := Aside0.mk (below_step (by exact bB) hb)
            clear HO450
            clear BK415
            clear HB
            have HO450 := n0_
            have HO453 := n1_
            have BK415 := n2_
            have HB := n3_
            clear n0_ n1_ n2_ n3_
            clear hb ho46
            refine hK.out _ _ ⟨(blk_cell BK415.out 0).trans rfl, (blk_cell BK415.out 1).trans rfl⟩ (fun hHeld => ?_)
            clear hK K
            refine norm_ (a' := ?_) ?_ ?_
            rotate_left
            ·show Act.put _ (some 26) _ = _
             simp only [Act.put, List.setIfInBounds_toArray, List.set_cons_zero, List.set_cons_succ, i64_w, i32_w]
             rfl
            exact norm_ (by simp only [putAll, Act.put, List.setIfInBounds_toArray, List.set_cons_zero, List.set_cons_succ]) (hCont (v442, v449, v452) _ ⟨hHeld, (by refine rP ?_; exact Kd.R_mono HO450.out (fun _ hk => ⟨hk.2, hk.1⟩)), (by refine rP ?_; exact Kd.R_mono HO453.out (fun _ hk => ⟨hk.1.2, hk.2⟩)), (by exact kP BK415.out), (by exact bB)⟩)
           ·skip
            refine Kd.R_lit_step k119 _ 119 ?hg (N := 26) ?hd (xs := ([(⟨a1_0, a1_1⟩ : S119)] : List (S119))) (inner := [.int .i64 a1_0, .int .i64 a1_1]) (ok := fun _ => True) (okp := fun _ => True) ?hr ?hp (fun _ hk => hk) trivial (Below.refl _ _) (Nat.le_refl _) (by simp) ?_; (case hd => rfl); (case hg => rfl); (case hr => first | (go_simp; done) | (go_simp; rfl)); (case hp => exact (Reps.c2 (show Kd.M k119 _ _ _ (⟨a1_0, a1_1⟩ : S119) [.int .i64 a1_0, .int .i64 a1_1] from (k119_mkM _ _ _ (⟨a1_0, a1_1⟩ : S119) )) (Reps.none _ _)))
            intro v452 w44 ho45 hb hg_ hnew_
            clear hg_ hnew_
            (first | rw [← Ny451.out] at ho45 | (simp only [Int.reduceToNat] at ho45; rw [← Ny451.out] at ho45))
            have n0_ := Aside0.mk (Kd.R_elder' (by exact rP HO443.out) (Kd.R_base ho45) hb)
            have n1_ := Aside0.mk (Kd.R_lower (Kd.R_newB (Kd.R_new' ho45 (Kd.R_lt (by exact rP HO443.out))) (g := gb415) (o := .cells #[.int .i64 a1_0, .int .i64 a1_1] 119 (0, 0)) (by exact kP BK415.out)) (below_size (by exact bB)))
            have n2_ := Aside0.mk (blk_below (g := gb415) (o := .cells #[.int .i64 a1_0, .int .i64 a1_1] 119 (0, 0)) (by exact kP BK415.out) hb)
            have n3_ := Aside0.mk (below_step (by exact bB) hb)
            clear HO443
            clear BK415
            clear HB
            have HO443 := n0_
            have HO453 := n1_
            have BK415 := n2_
            have HB := n3_
            clear n0_ n1_ n2_ n3_
            clear hb ho45
            refine hK.out _ _ ⟨(blk_cell BK415.out 0).trans rfl, (blk_cell BK415.out 1).trans rfl⟩ (fun hHeld => ?_)
            clear hK K
            refine norm_ (a' := ?_) ?_ ?_
            rotate_left
            ·show Act.put _ (some 26) _ = _
             simp only [Act.put, List.setIfInBounds_toArray, List.set_cons_zero, List.set_cons_succ, i64_w, i32_w]
             rfl
            refine one_ (i := 4) (N := some 24) #[true, true, true, true, true, true, true, false, true, true, true, false, false] rfl rfl (one_of HT_.out (by kernel_rfl)) (by decide) (fun K hK => ?_)
            refine Kd.R_append_rows_step k119 (w0 := w) w.heap.size (by rfl) (.tmp 20) (.tmp 23) 22 119 (.agg #[(.int .i64 0), (.int .i64 0)]) 16 rfl Try.underlying22 info119 rfl (by decide) (by omega) v442 y441 y444 _ _ _ (fun k_ => some k_ ≠ (v452 : Value).ownBlock ∧ k_ ≠ gb415) (fun _ => False) rfl rfl ?aO ?aR (fun _ _ h => h) (fun _ h => h.elim) ?aF ?aB ?aS ?aL ?_
            (case aR => exact cP (Kd.C_below HR447.out HB.out))
            (case aB => exact (by exact bB))
            (case aF => exact (fun k_ hk => ⟨Kd.fresh' (Kd.R_lt (by exact rP HO453.out)) k_ hk, Kd.freshB (g := gb415) (o := .cells #[.int .i64 a1_0, .int .i64 a1_1] 119 (0, 0)) (by exact kP BK415.out) k_ hk⟩))
            (case aO => exact (by refine rP ?_; exact Kd.R_mono HO443.out (fun _ hk => ⟨hk.2, hk.1.2⟩)))
            (case aS => exact (below_size (by exact bB)))
            (case aL => have := LMc33.out; omega)
            intro v449 w46 ho hb hg hat
            rw [← Ny448.out] at ho
            have n0_ := Aside0.mk (blk_grown (g := gb415) (o := .cells #[.int .i64 a1_0, .int .i64 a1_1] 119 (0, 0)) (by exact kP BK415.out) hg (Kd.R_away HO443.out (fun _ hk => hk.1.2)))
            have n1_ := Aside0.mk (Kd.R_after (ok := (fun k_ => k_ ≠ gb415)) (by exact rP (Kd.R_mono HO453.out (fun _ hk => ⟨hk.2, hk.1.2⟩))) hg hat)
            have n2_ := Aside0.mk (hb)
            have n3_ := Aside0.mk (ho)
            clear BK415
            clear HO453
            clear HB
            clear HO443
            have BK415 := n0_
            have HO453 := n1_
            have HB := n2_
            have HO450 := n3_
            clear n0_ n1_ n2_ n3_
            clear ho hb hg hat
            refine hK.out _ _ ⟨(blk_cell BK415.out 0).trans rfl, (blk_cell BK415.out 1).trans rfl⟩ (fun hHeld => ?_)
            clear hK K
            refine norm_ (a' := ?_) ?_ ?_
            rotate_left
            ·show Act.put _ (some 24) _ = _
             simp only [Act.put, List.setIfInBounds_toArray, List.set_cons_zero, List.set_cons_succ, i64_w, i32_w]
             rfl
            exact norm_ (by simp only [putAll, Act.put, List.setIfInBounds_toArray, List.set_cons_zero, List.set_cons_succ]) (hCont (v442, v449, v452) _ ⟨hHeld, (by exact rP HO450.out), (by refine rP ?_; exact Kd.R_mono HO453.out (fun _ hk => ⟨hk.2, hk.1⟩)), (by exact kP BK415.out), (by exact bB)⟩)
          ·skip
           refine Kd.R_lit_step k119 _ 119 ?hg (N := 26) ?hd (xs := ([(⟨a1_0, a1_1⟩ : S119)] : List (S119))) (inner := [.int .i64 a1_0, .int .i64 a1_1]) (ok := fun _ => True) (okp := fun _ => True) ?hr ?hp (fun _ hk => hk) trivial (Below.refl _ _) (Nat.le_refl _) (by simp) ?_; (case hd => rfl); (case hg => rfl); (case hr => first | (go_simp; done) | (go_simp; rfl)); (case hp => exact (Reps.c2 (show Kd.M k119 _ _ _ (⟨a1_0, a1_1⟩ : S119) [.int .i64 a1_0, .int .i64 a1_1] from (k119_mkM _ _ _ (⟨a1_0, a1_1⟩ : S119) )) (Reps.none _ _)))
           intro v452 w42 ho43 hb hg_ hnew_
           clear hg_ hnew_
           (first | rw [← Ny451.out] at ho43 | (simp only [Int.reduceToNat] at ho43; rw [← Ny451.out] at ho43))
           have n0_ := Aside0.mk (Kd.R_lower (Kd.R_newB ho43 (g := gb415) (o := .cells #[.int .i64 a1_0, .int .i64 a1_1] 119 (0, 0)) (by exact kP BK415.out)) (below_size (by exact bB)))
           have n1_ := Aside0.mk (blk_below (g := gb415) (o := .cells #[.int .i64 a1_0, .int .i64 a1_1] 119 (0, 0)) (by exact kP BK415.out) hb)
           have n2_ := Aside0.mk (below_step (by exact bB) hb)
           clear BK415
           clear HB
           have HO453 := n0_
           have BK415 := n1_
           have HB := n2_
           clear n0_ n1_ n2_
           clear hb ho43
           refine hK.out _ _ ⟨(blk_cell BK415.out 0).trans rfl, (blk_cell BK415.out 1).trans rfl⟩ (fun hHeld => ?_)
           clear hK K
           refine norm_ (a' := ?_) ?_ ?_
           rotate_left
           ·show Act.put _ (some 26) _ = _
            simp only [Act.put, List.setIfInBounds_toArray, List.set_cons_zero, List.set_cons_succ, i64_w, i32_w]
            rfl
           refine one_ (i := 0) (N := some 20) #[true, true, true, true, false, true, true, false, true, true, true, false, false] rfl rfl (one_of HT_.out (by kernel_rfl)) (by decide) (fun K hK => ?_)
           refine Kd.R_lit_step k119 _ 119 ?hg (N := 20) ?hd (xs := ([] : List (S119))) (inner := []) (ok := fun _ => True) (okp := fun _ => True) ?hr ?hp (fun _ hk => hk) trivial (Below.refl _ _) (Nat.le_refl _) (by simp) ?_; (case hd => rfl); (case hg => rfl); (case hr => first | (go_simp; done) | (go_simp; rfl)); (case hp => exact (Reps.none _ _))
           intro v442 w44 ho45 hb hg_ hnew_
           clear hg_ hnew_
           (first | rw [← Ny441.out] at ho45 | (simp only [Int.reduceToNat] at ho45; rw [← Ny441.out] at ho45))
           have n0_ := Aside0.mk (Kd.R_elder' (by exact rP HO453.out) (Kd.R_base ho45) hb)
           have n1_ := Aside0.mk (Kd.R_lower (Kd.R_newB (Kd.R_new' ho45 (Kd.R_lt (by exact rP HO453.out))) (g := gb415) (o := .cells #[.int .i64 a1_0, .int .i64 a1_1] 119 (0, 0)) (by exact kP BK415.out)) (below_size (by exact bB)))
           have n2_ := Aside0.mk (blk_below (g := gb415) (o := .cells #[.int .i64 a1_0, .int .i64 a1_1] 119 (0, 0)) (by exact kP BK415.out) hb)
           have n3_ := Aside0.mk (below_step (by exact bB) hb)
           clear HO453
           clear BK415
           clear HB
           have HO453 := n0_
           have HO443 := n1_
           have BK415 := n2_
           have HB := n3_
           clear n0_ n1_ n2_ n3_
           clear hb ho45
           refine hK.out _ _ ⟨(blk_cell BK415.out 0).trans rfl, (blk_cell BK415.out 1).trans rfl⟩ (fun hHeld => ?_)
           clear hK K
           refine norm_ (a' := ?_) ?_ ?_
           rotate_left
           ·show Act.put _ (some 20) _ = _
            simp only [Act.put, List.setIfInBounds_toArray, List.set_cons_zero, List.set_cons_succ, i64_w, i32_w]
            rfl
           refine one_ (i := 4) (N := some 24) #[true, true, true, true, true, true, true, false, true, true, true, false, false] rfl rfl (one_of HT_.out (by kernel_rfl)) (by decide) (fun K hK => ?_)
           refine Kd.R_append_rows_step k119 (w0 := w) w.heap.size (by rfl) (.tmp 20) (.tmp 23) 22 119 (.agg #[(.int .i64 0), (.int .i64 0)]) 16 rfl Try.underlying22 info119 rfl (by decide) (by omega) v442 y441 y444 _ _ _ (fun k_ => some k_ ≠ (v452 : Value).ownBlock ∧ k_ ≠ gb415) (fun _ => False) rfl rfl ?aO ?aR (fun _ _ h => h) (fun _ h => h.elim) ?aF ?aB ?aS ?aL ?_
           (case aR => exact cP (Kd.C_below HR447.out HB.out))
           (case aB => exact (by exact bB))
           (case aF => exact (fun k_ hk => ⟨Kd.fresh' (Kd.R_lt (by exact rP HO453.out)) k_ hk, Kd.freshB (g := gb415) (o := .cells #[.int .i64 a1_0, .int .i64 a1_1] 119 (0, 0)) (by exact kP BK415.out) k_ hk⟩))
           (case aO => exact (by refine rP ?_; exact Kd.R_mono HO443.out (fun _ hk => ⟨hk.1.2, hk.2⟩)))
           (case aS => exact (below_size (by exact bB)))
           (case aL => have := LMc33.out; omega)
           intro v449 w46 ho hb hg hat
           rw [← Ny448.out] at ho
           have n0_ := Aside0.mk (blk_grown (g := gb415) (o := .cells #[.int .i64 a1_0, .int .i64 a1_1] 119 (0, 0)) (by exact kP BK415.out) hg (Kd.R_away HO443.out (fun _ hk => hk.2)))
           have n1_ := Aside0.mk (Kd.R_after (ok := (fun k_ => k_ ≠ gb415)) (by exact rP (Kd.R_mono HO453.out (fun _ hk => ⟨hk.1.2, hk.2⟩))) hg hat)
           have n2_ := Aside0.mk (hb)
           have n3_ := Aside0.mk (ho)
           clear BK415
           clear HO453
           clear HB
           clear HO443
           have BK415 := n0_
           have HO453 := n1_
           have HB := n2_
           have HO450 := n3_
           clear n0_ n1_ n2_ n3_
           clear ho hb hg hat
           refine hK.out _ _ ⟨(blk_cell BK415.out 0).trans rfl, (blk_cell BK415.out 1).trans rfl⟩ (fun hHeld => ?_)
           clear hK K
           refine norm_ (a' := ?_) ?_ ?_
           rotate_left
           ·show Act.put _ (some 24) _ = _
            simp only [Act.put, List.setIfInBounds_toArray, List.set_cons_zero, List.set_cons_succ, i64_w, i32_w]
            rfl
           exact norm_ (by simp only [putAll, Act.put, List.setIfInBounds_toArray, List.set_cons_zero, List.set_cons_succ]) (hCont (v442, v449, v452) _ ⟨hHeld, (by exact rP HO450.out), (by refine rP ?_; exact Kd.R_mono HO453.out (fun _ hk => ⟨hk.2, hk.1⟩)), (by exact kP BK415.out), (by exact bB)⟩)
         rintro ⟨v442, v449, v452⟩ w47 ⟨hS_, h0_, h1_, h2_, h3_⟩
         have n0_ : Aside0 (Kd.R k119 119 w47 w.heap.size (fun k_ => some k_ ≠ (v452 : Value).ownBlock ∧ k_ ≠ gb415) v449 y448) := ⟨h0_⟩
         have n1_ : Aside0 (Kd.R k119 119 w47 w.heap.size (fun k_ => some k_ ≠ (v449 : Value).ownBlock ∧ k_ ≠ gb415) v452 y451) := ⟨h1_⟩
         have n2_ : Aside0 (w47.heap[gb415]? = some (.cells #[.int .i64 a1_0, .int .i64 a1_1] 119 (0, 0))) := ⟨h2_⟩
         have n3_ : Aside0 (Below w.heap.size w w47) := ⟨h3_⟩
         clear BK415
         clear HB
         clear h0_ h1_ h2_ h3_
         have HO450 := n0_
         have HO453 := n1_
         have BK415 := n2_
         have HB := n3_
         clear n0_ n1_ n2_ n3_
         have hHeld : w47.cell? ⟨gb415, 0, none⟩ = some (.int .i64 a1_0) ∧ w47.cell? ⟨gb415, 1, none⟩ = some (.int .i64 a1_1) := hS_
         obtain ⟨Ao49, co49, eo49⟩ := Kd.R_slice HO453.out
         (first | subst eo49 | (injection eo49 with f1_ f2_ f3_; have f4_ := f1_.symm; have f5_ := f3_.symm; clear f1_ f2_ f3_; subst f4_; subst f5_))
         refine norm_ (a' := ?_) ?_ ?_
         rotate_left
         ·simp only [putAll, Act.put, List.setIfInBounds_toArray, List.set_cons_zero, List.set_cons_succ]
          rfl
         refine one_ (i := 7) (N := some 27) #[true, true, true, true, true, true, true, true, true, true, true, false, false] rfl rfl (one_of HT_.out (by kernel_rfl)) (by decide) (fun K hK => ?_)
         refine Kd.R_append_rows_step k119 (w0 := w) w.heap.size (by rfl) (.tmp 24) (.tmp 26) 22 119 (.agg #[(.int .i64 0), (.int .i64 0)]) 16 rfl Try.underlying22 info119 rfl (by decide) (by omega) v449 y448 y451 _ _ _ (fun k_ => some k_ ≠ (.slice Ao49 y451.length co49 : Value).ownBlock ∧ k_ ≠ gb415) (fun _ => False) rfl rfl ?aO ?aR (fun _ _ h => h) (fun _ h => h.elim) ?aF ?aB ?aS ?aL ?_
         (case aR => exact cP (Kd.R_reads' HO453.out).2.2)
         (case aB => exact (by exact bB))
         (case aF => exact (fun k_ hk => ⟨Kd.fresh' (Kd.R_lt (by exact rP HO453.out)) k_ hk, Kd.freshB (g := gb415) (o := .cells #[.int .i64 a1_0, .int .i64 a1_1] 119 (0, 0)) (by exact kP BK415.out) k_ hk⟩))
         (case aO => exact (by exact rP HO450.out))
         (case aS => exact (below_size (by exact bB)))
         (case aL => have := LMc34.out; omega)
         intro v455 w48 ho hb hg hat
         rw [← Ny454.out] at ho
         have n0_ := Aside0.mk (blk_grown (g := gb415) (o := .cells #[.int .i64 a1_0, .int .i64 a1_1] 119 (0, 0)) (by exact kP BK415.out) hg (Kd.R_away HO450.out (fun _ hk => hk.2)))
         have n1_ := Aside0.mk (Kd.R_after (ok := (fun k_ => k_ ≠ gb415)) (by exact rP (Kd.R_mono HO453.out (fun _ hk => ⟨hk.2, hk.1⟩))) hg hat)
         have n2_ := Aside0.mk (hb)
         have n3_ := Aside0.mk (ho)
         clear BK415
         clear HO453
         clear HB
         clear HO450
         have BK415 := n0_
         have HO453 := n1_
         have HB := n2_
         have HO456 := n3_
         clear n0_ n1_ n2_ n3_
         clear ho hb hg hat
         refine hK.out _ _ ⟨(blk_cell BK415.out 0).trans rfl, (blk_cell BK415.out 1).trans rfl⟩ (fun hHeld => ?_)
         clear hK K
         refine norm_ (a' := ?_) ?_ ?_
         rotate_left
         ·show Act.put _ (some 27) _ = _
          simp only [Act.put, List.setIfInBounds_toArray, List.set_cons_zero, List.set_cons_succ, i64_w, i32_w]
          rfl
         refine one_ (i := 11) (N := some 31) #[true, true, true, true, true, true, true, true, true, true, true, true, false] rfl rfl (one_of HT_.out (by kernel_rfl)) (by decide) (fun K hK => ?_)
         refine Kd.R_append_rows_step k119 (w0 := w) w.heap.size (by rfl) (.tmp 27) (.tmp 30) 22 119 (.agg #[(.int .i64 0), (.int .i64 0)]) 16 rfl Try.underlying22 info119 rfl (by decide) (by omega) v455 y454 y457 _ _ _ (fun k_ => some k_ ≠ (.slice Ao49 y451.length co49 : Value).ownBlock ∧ k_ ≠ gb415) (fun _ => False) rfl rfl ?aO ?aR (fun _ _ h => h) (fun _ h => h.elim) ?aF ?aB ?aS ?aL ?_
         (case aR => exact cP (Kd.C_below HR460.out HB.out))
         (case aB => exact (by exact bB))
         (case aF => exact (fun k_ hk => ⟨Kd.fresh' (Kd.R_lt (by exact rP HO453.out)) k_ hk, Kd.freshB (g := gb415) (o := .cells #[.int .i64 a1_0, .int .i64 a1_1] 119 (0, 0)) (by exact kP BK415.out) k_ hk⟩))
         (case aO => exact (by exact rP HO456.out))
         (case aS => exact (below_size (by exact bB)))
         (case aL => have := LMc37.out; omega)
         intro v462 w50 ho hb hg hat
         rw [← Ny461.out] at ho
         have n0_ := Aside0.mk (blk_grown (g := gb415) (o := .cells #[.int .i64 a1_0, .int .i64 a1_1] 119 (0, 0)) (by exact kP BK415.out) hg (Kd.R_away HO456.out (fun _ hk => hk.2)))
         have n1_ := Aside0.mk (Kd.R_after (ok := (fun k_ => k_ ≠ gb415)) (by exact rP HO453.out) hg hat)
         have n2_ := Aside0.mk (hb)
         have n3_ := Aside0.mk (ho)
         clear BK415
         clear HO453
         clear HB
         clear HO456
         have BK415 := n0_
         have HO453 := n1_
         have HB := n2_
         have HO463 := n3_
         clear n0_ n1_ n2_ n3_
         clear ho hb hg hat
         refine hK.out _ _ ⟨(blk_cell BK415.out 0).trans rfl, (blk_cell BK415.out 1).trans rfl⟩ (fun hHeld => ?_)
         clear hK K
         refine norm_ (a' := ?_) ?_ ?_
         rotate_left
         ·show Act.put _ (some 31) _ = _
          simp only [Act.put, List.setIfInBounds_toArray, List.set_cons_zero, List.set_cons_succ, i64_w, i32_w]
          rfl
         refine pure_ (i := 12) (N := some 4) (v := ?_) (a' := ?_) #[true, true, true, true, true, true, true, true, true, true, true, true, true] rfl rfl (any_of HT_.out (by kernel_rfl)) (fun _ _ _ h => h) (Or.inl ⟨by rfl, ?_⟩) ?_ ?_
         rotate_left
         ·intro w'
          go_simp
          with_reducible rfl
         rotate_left
         ·simp only [Act.put, List.setIfInBounds_toArray, List.set_cons_zero, List.set_cons_succ, i64_w, i32_w]
          rfl
         refine done_ (done_of HT_.out (by kernel_rfl)) ?_
         try go_wp2
         go_ret
         exact ⟨_, by first | rfl | (simp [errW_none, errW_some] <;> rfl) | (simp [*, errW_none, errW_some] <;> rfl), by refine rP ?_; exact Kd.R_mono HO463.out (fun _ hk => trivial), by exact bB⟩
        ·rw [if_neg c37] at H
         exact absurd H (by simp)
       ·rw [if_neg c34] at H
        exact absurd H (by simp)
      ·rw [if_neg c33] at H
       exact absurd H (by simp)
     ·rw [if_neg c32] at H
      exact absurd H (by simp)
    ·rw [if_neg c31] at H
     exact absurd H (by simp)




end Go.Proofs.Ytmokkhfmbenleaa.QClosures
