import Derived.Test.YtgahlimikndecaaDoorQEternalFamily0
import Derived.Test.YtgahlimikndecaaDoorQEternalFamily3
namespace Go.Proofs.YtgahlimikndecaaDoor.QEternalFamily
open Go.RowKit Go.Proofs.YtgahlimikndecaaDoorW.PrintWords Go.Proofs.YtgahlimikndecaaDoorW.PrintLast Go.Proofs.YtgahlimikndecaaDoorW.PrintMore
attribute [local go_sem] max2_int min2_int max_two min_two max_three min_three max_four min_four   -- for this text's walks alone
set_option linter.unusedVariables false
set_option linter.unusedSimpArgs false
set_option maxRecDepth 100000
set_option maxHeartbeats 8000000
/-! ### spec_l10Table: function 40 -/
mutual
def spec_l10Table.l0 : Nat → List (List Int) → Bool → List (List (List Int)) → Int → Int → List (S78) → Option ((List (List (List Int))))
 | 0, _, _, _, _, _, _ => none
 | k + 1, x1, x2, x7, x8, x224000, x224001 => if x8 < (x1.length : Int) then (spec_l10Table.l1 k x1 x2 x7 x8 (([] : List (List Int))) 0 x224000 x224001) else (some x7)
def spec_l10Table.l1 : Nat → List (List Int) → Bool → List (List (List Int)) → Int → List (List Int) → Int → Int → List (S78) → Option ((List (List (List Int))))
 | 0, _, _, _, _, _, _, _, _ => none
 | k + 1, x1, x2, x7, x8, x9, x10, x224000, x224001 => if x10 < x224000 then (if 0 ≤ x8 then (if x8 < (x1.length : Int) then ((spec_l1Has.f k (rd_L2 x1 x8) x10).bind fun t234 => (if t234 = true then (if x9.length < 5864062014805 then (spec_l10Table.l1 k x1 x2 x7 x8 (x9 ++ [(([] : List Int))]) (wrap64 (x10 + 1)) x224000 x224001) else (none)) else ((spec_l10Answers.f k x224000 x224001 x1 x8 x10 x2).bind fun t241 => (if x9.length < 5864062014805 then (spec_l10Table.l1 k x1 x2 x7 x8 (x9 ++ [t241]) (wrap64 (x10 + 1)) x224000 x224001) else (none))))) else (none)) else (none)) else (if x7.length < 5864062014805 then (spec_l10Table.l0 k x1 x2 (x7 ++ [x9]) (wrap64 (x8 + 1)) x224000 x224001) else (none))
end
def spec_l10Table.f (k : Nat) (a0_0 : Int) (l0_1 : List (S78)) (l1 : List (List Int)) (a2 : Bool) : Option ((List (List (List Int)))) := spec_l10Table.l0 k l1 a2 (([] : List (List (List Int)))) 0 a0_0 l0_1
theorem spec_l10Table.mono_l : ∀ k, (∀ y0 y1 y2 y3 y4 y5, LeO (spec_l10Table.l0 k y0 y1 y2 y3 y4 y5) (spec_l10Table.l0 (k + 1) y0 y1 y2 y3 y4 y5)) ∧ (∀ y0 y1 y2 y3 y4 y5 y6 y7, LeO (spec_l10Table.l1 k y0 y1 y2 y3 y4 y5 y6 y7) (spec_l10Table.l1 (k + 1) y0 y1 y2 y3 y4 y5 y6 y7))
 | 0 => ⟨fun _ _ _ _ _ _ r h => by simp [spec_l10Table.l0] at h, fun _ _ _ _ _ _ _ _ r h => by simp [spec_l10Table.l1] at h⟩
 | k + 1 => by
  obtain ⟨ih0, ih1⟩ := spec_l10Table.mono_l k
  refine ⟨?_, ?_⟩
  ·intro y0 y1 y2 y3 y4 y5
   unfold spec_l10Table.l0
   have q0 := spec_l10Answers.mono
   have q1 := spec_l1Has.mono
   exact lM
  ·intro y0 y1 y2 y3 y4 y5 y6 y7
   unfold spec_l10Table.l1
   have q0 := spec_l10Answers.mono
   have q1 := spec_l1Has.mono
   exact lM
theorem spec_l10Table.mono : ∀ a0 a1 a2 a3 k, LeO (spec_l10Table.f k a0 a1 a2 a3) (spec_l10Table.f (k + 1) a0 a1 a2 a3) := by
 intro a0 a1 a2 a3 k
 obtain ⟨ih0, ih1⟩ := spec_l10Table.mono_l k
 unfold spec_l10Table.f
 have q0 := spec_l10Answers.mono
 have q1 := spec_l1Has.mono
 exact lM
theorem spec_l10Table.calls (k : Nat) (a0_0 : Int) (A0_1 : Option Addr) (c0_1 : Nat) (l0_1 : List (S78)) (A1 : Option Addr) (c1 : Nat) (l1 : List (List Int)) (a2 : Bool) (r : List (List (List Int))) (w : World) (hr0_1 : Kd.C k78 w A0_1 l0_1.length l0_1) (hc0_1 : l0_1.length ≤ c0_1) (hr1 : Kd.C (Kd.slice 3 (Kd.int .i64)) w A1 l1.length l1) (hc1 : l1.length ≤ c1) (h : spec_l10Table.f k a0_0 l0_1 l1 a2 = some r) :
  Calls Tryd.prog 40 #[.agg #[.int .i64 a0_0, .slice A0_1 l0_1.length c0_1], .slice A1 l1.length c1, .bool a2] w fun e w' => ∃ v0_ : Value, e = .returned (v0_) ∧ Kd.R (Kd.slice 36 (Kd.slice 3 (Kd.int .i64))) 26 w' w.heap.size (fun _ => True) v0_ r ∧ Below w.heap.size w w' := by
 have hu29 := Tryd.underlying29
 have HR0_1 := Aside0.mk hr0_1
 have HC0_1 := Aside0.mk hc0_1
 clear hr0_1 hc0_1
 have HR1 := Aside0.mk hr1
 have HC1 := Aside0.mk hc1
 clear hr1 hc1
 have HB := aM (Below.refl w.heap.size w)
 have H : (spec_l10Table.l0 k l1 a2 (([] : List (List (List Int)))) 0 a0_0 l0_1) = some r := h
 clear h
 obtain ⟨y224, hy224⟩ : ∃ y_ : List (List (List Int)), y_ = (([] : List (List (List Int)))) := ⟨_, rfl⟩
 replace H : (spec_l10Table.l0 k l1 a2 y224 0 a0_0 l0_1) = some r := by first | (rw [hy224];with_reducible exact H) | (have H2_ := (Option.bind_some _ _).symm.trans H;rw [hy224];with_reducible exact H2_) | (have H2_ := (Option.bind_some _ _).symm.trans H;with_reducible exact H2_) | with_reducible exact H | (rw [hy224];exact H) | exact H
 have Ny224 := Aside0.mk hy224
 clear hy224
 have H' := Aside0.mk H
 clear H
 go_enter Tryd.func40, Tryd.ntmps40
 go_wp2_with (first | ((with_reducible refine gate_dst (N := 3) rfl ?_);refine box_event ?hg (N := 3) ?hd (cs := #[.int .i64 a0_0, .slice A0_1 l0_1.length c0_1]) (t := 29) ?hr ?_;(case hd => rfl);(case hg => rfl);(case hr => exact gS);intro gb223 hg w4 hbox hb;have n0_ := aM (below_step (by exact bB) hb);have n1_ := aM (hbox);have n2_ := aM (sW hg : w.heap.size ≤ gb223);have n3_ := aM (sW hg : w.heap.size ≤ gb223);clear HB;have HB := n0_;have BK223 := n1_;have GW223 := n2_;have GE223 := n3_;clear n0_ n1_ n2_ n3_;clear hb hbox hg) | ((with_reducible refine gate_dst (N := 11) rfl ?_);refine Kd.R_lit (Kd.slice 36 (Kd.slice 3 (Kd.int .i64))) _ 26 ?hg (N := 11) ?hd (xs := ([] : List (List (List Int)))) (inner := []) (ok := fun _ => True) (okp := fun _ => True) ?hr ?hp (fun _ hk => hk) trivial (Below.refl _ _) (Nat.le_refl _) (by simp) ?_;(case hd => rfl);(case hg => rfl);(case hr => exact gS);(case hp => exact (Reps.none _ _));intro v225 w5 ho6 hb hg_ hnew_;clear hg_ hnew_;(first | rw [← Ny224.out] at ho6 | (simp only [Int.reduceToNat] at ho6;rw [← Ny224.out] at ho6));have n0_ := aM (Kd.R_lower ho6 (below_size (by exact bB)));have n1_ := aM (kB hb BK223.out);have n2_ := aM (below_step (by exact bB) hb);clear BK223;clear HB;have HO226 := n0_;have BK223 := n1_;have HB := n2_;clear n0_ n1_ n2_;clear hb ho6))
 go_loopg [7, 8] k (fun kq v7 v8 w' => ∃ (x7_1 : List (List (List Int))) (x8_1 : Int), v8 = .int .i64 x8_1 ∧ Aside0 (spec_l10Table.l0 kq l1 a2 x7_1 x8_1 a0_0 l0_1 = some r) ∧ Aside0 (kq ≤ k) ∧ Aside0 (Kd.R (Kd.slice 36 (Kd.slice 3 (Kd.int .i64))) 26 w' w.heap.size (fun _ => True) v7 x7_1) ∧ Aside0 (w'.heap[gb223]? = some (.cells #[.int .i64 a0_0, (.slice A0_1 l0_1.length c0_1)] 29 (0, 0))) ∧ Aside0 (Below w.heap.size w w'))
 case atStart => exact ⟨(y224), (0), eF, H', ⟨Nat.le_refl _⟩, ⟨by exact rP HO226.out⟩, ⟨by exact kP BK223.out⟩, ⟨by exact bB⟩⟩
 case round =>
  clear H'
  try clear c1
  try clear p2
  try clear c4
  obtain ⟨x7_1, x8_1, rfl, HA, HK1, HO_7, BK223, HB⟩ := hrel
  cases gk with
  | zero => exact absurd HA.out (by simp [spec_l10Table.l0])
  | succ k1 =>
   have H := HA.out
   clear HA
   simp only [spec_l10Table.l0] at H
   by_cases c7 : x8_1 < (l1.length : Int)
   rotate_left
   ·rw [if_neg c7] at H
    have c7b0 : decide (x8_1 < (l1.length : Int)) = false := decide_eq_false c7
    clear c7
    obtain rfl := Option.some.inj H
    go_wp2
    go_ret
    exact ⟨_, eW, by exact rP HO_7.out, by exact bB⟩
   rw [if_pos c7] at H
   have c7b0 : decide (x8_1 < (l1.length : Int)) = true := decide_eq_true c7
   clear c7
   obtain ⟨y227, hy227⟩ : ∃ y_ : List (List Int), y_ = (([] : List (List Int))) := ⟨_, rfl⟩
   replace H : (spec_l10Table.l1 k1 l1 a2 x7_1 x8_1 y227 0 a0_0 l0_1) = some r := by first | (rw [hy227];with_reducible exact H) | (have H2_ := (Option.bind_some _ _).symm.trans H;rw [hy227];with_reducible exact H2_) | (have H2_ := (Option.bind_some _ _).symm.trans H;with_reducible exact H2_) | with_reducible exact H | (rw [hy227];exact H) | exact H
   have Ny227 := Aside0.mk hy227
   clear hy227
   have H' := Aside0.mk H
   clear H
   go_wp2_with (first | ((with_reducible refine gate_dst (N := 18) rfl ?_);refine Kd.S_lit (Kd.slice 3 (Kd.int .i64)) _ 36 ?hg (N := 18) ?hd (xs := ([] : List (List Int))) (inner := []) (ok := fun _ => True) (okp := fun _ => True) ?hr ?hp (fun _ hk => hk) trivial (Below.refl _ _) (Nat.le_refl _) (by simp) ?_;(case hd => rfl);(case hg => rfl);(case hr => exact gS);(case hp => exact (Reps.none _ _));intro v228 w8 ho9 hb hg_ hnew_;clear hg_ hnew_;(first | rw [← Ny227.out] at ho9 | (simp only [Int.reduceToNat] at ho9;rw [← Ny227.out] at ho9));have n0_ := aM (Kd.R_elder' (by exact rP HO_7.out) (Kd.S_base ho9) hb);have n1_ := aM (Kd.S_lower ho9 (below_size (by exact bB)));have n2_ := aM (kB hb BK223.out);have n3_ := aM (below_step (by exact bB) hb);clear HO_7;clear BK223;clear HB;have HO_7 := n0_;have HO229 := n1_;have BK223 := n2_;have HB := n3_;clear n0_ n1_ n2_ n3_;clear hb ho9))
   go_loopg [9, 10] k1 (fun kq v9 v10 w' => ∃ (x9_2 : List (List Int)) (x10_2 : Int), v10 = .int .i64 x10_2 ∧ Aside0 (spec_l10Table.l1 kq l1 a2 x7_1 x8_1 x9_2 x10_2 a0_0 l0_1 = some r) ∧ Aside0 (kq ≤ k1) ∧ Aside0 (Kd.R (Kd.slice 36 (Kd.slice 3 (Kd.int .i64))) 26 w' w.heap.size (fun k_ => some k_ ≠ (v9 : Value).ownBlock) u7 x7_1) ∧ Aside0 (Kd.S (Kd.slice 3 (Kd.int .i64)) 36 w' w.heap.size (fun _ => True) v9 x9_2) ∧ Aside0 (w'.heap[gb223]? = some (.cells #[.int .i64 a0_0, (.slice A0_1 l0_1.length c0_1)] 29 (0, 0))) ∧ Aside0 (Below w.heap.size w w'))
   case atStart => exact ⟨(y227), (0), eF, H', ⟨Nat.le_refl _⟩, ⟨by refine rP ?_;exact Kd.R_mono HO_7.out (fun _ hk => hk.2)⟩, ⟨by (with_reducible repeat (first | apply Kd.S_alloc | apply Kd.S_drewN | apply Kd.S_drew));exact HO229.out⟩, ⟨by exact kP BK223.out⟩, ⟨by exact bB⟩⟩
   case round =>
    clear H'
    try clear c1
    try clear p2
    try clear c4
    try clear c7
    try clear c7b0
    try clear p2
    obtain ⟨x9_2, x10_2, rfl, HA, HK2, HO_7, HO_9, BK223, HB⟩ := hrel
    cases gk with
    | zero => exact absurd HA.out (by simp [spec_l10Table.l1])
    | succ k2 =>
     have H := HA.out
     clear HA
     simp only [spec_l10Table.l1] at H
     by_cases c10 : x10_2 < a0_0
     rotate_left
     ·rw [if_neg c10] at H
      have c10b0 : decide (x10_2 < a0_0) = false := decide_eq_false c10
      clear c10
      by_cases c27 : x7_1.length < 5864062014805
      rotate_left
      ·rw [if_neg c27] at H
       exact absurd H (by simp)
      rw [if_pos c27] at H
      have LMc27 := Aside0.mk c27
      clear c27
      obtain ⟨y230, hy230⟩ : ∃ y_ : List (List (List Int)), y_ = (x7_1 ++ [x9_2]) := ⟨_, rfl⟩
      replace H : (spec_l10Table.l0 k2 l1 a2 y230 (wrap64 (x8_1 + 1)) a0_0 l0_1) = some r := by first | (rw [hy230];with_reducible exact H) | (have H2_ := (Option.bind_some _ _).symm.trans H;rw [hy230];with_reducible exact H2_) | (have H2_ := (Option.bind_some _ _).symm.trans H;with_reducible exact H2_) | with_reducible exact H | (rw [hy230];exact H) | exact H
      have Ny230 := Aside0.mk hy230
      clear hy230
      have H' := Aside0.mk H
      clear H
      have hcz28_0 := bC0 BK223.out
      have hcz28_1 := bC1 BK223.out
      have hfz28_0 := blk_frozen BK223.out 0
      have hfz28_1 := blk_frozen BK223.out 1
      obtain ⟨Ao30, co30, eo30⟩ := Kd.S_slice HO_9.out
      subst eo30
      go_wp2_with (first | ((with_reducible refine gate_builtin (b := .append) (xs := #[.tmp 44, .tmp 46]) rfl ?_);at_builtin;refine Kd.R_append (Kd.slice 36 (Kd.slice 3 (Kd.int .i64))) (w0 := w) w.heap.size rfl (.tmp 44) (.tmp 46) 65 26 (.slice none 0 0) 24 rfl Tryd.underlying65 info26 rfl (by decide) (by omega) u7 x7_1 x9_2 [.slice Ao30 x9_2.length co30] (fun _ => True) (fun k_ => ((fun _ => True)) k_ ∧ some k_ ≠ (u7 : Value).ownBlock) rfl rfl ?aP (fun _ hk => hk) ?aF ?aO ?aB ?aS ?aL ?_;(case aP => exact Kd.M_row (Kd.R_mono (Kd.R_apart' ((Kd.S_R HO_9.out)) (Kd.R_typed HO_7.out) (by decide)) (fun k_ hk => ⟨trivial, hk.2⟩)));(case aB => exact (by exact bB));(case aF => exact (fun _ _ => trivial));(case aO => exact (by refine rP ?_;exact Kd.R_mono HO_7.out (fun _ hk => trivial)));(case aS => exact (below_size (by exact bB)));(case aL => have := LMc27.out;omega);intro v231 w29 ho hb hg hat;rw [← Ny230.out] at ho;have n0_ := aM (blk_grown (g := gb223) (o := .cells #[.int .i64 a0_0, .slice A0_1 l0_1.length c0_1] 29 (0, 0)) (by exact kP BK223.out) hg (Kd.R_ne HO_7.out BK223.out (by decide)));have n1_ := aM (hb);have n2_ := aM (ho);clear BK223;clear HB;clear HO_7;clear HO_9;have BK223 := n0_;have HB := n1_;have HO232 := n2_;clear n0_ n1_ n2_;clear ho hb hg hat))
      go_roundg k2
      case measure => have := HK1.out;have := HK2.out;omega
      case rel => exact ⟨(y230), (wrap64 (x8_1 + 1)), eF, H', ⟨by have := HK1.out;have := HK2.out;omega⟩, ⟨by exact rP HO232.out⟩, ⟨by exact kP BK223.out⟩, ⟨by exact bB⟩⟩
     rw [if_pos c10] at H
     have c10b0 : decide (x10_2 < a0_0) = true := decide_eq_true c10
     clear c10
     by_cases c11 : 0 ≤ x8_1
     rotate_left
     ·rw [if_neg c11] at H
      exact absurd H (by simp)
     rw [if_pos c11] at H
     have c11b0 : decide (0 ≤ x8_1) = true := decide_eq_true c11
     clear c11
     by_cases c12 : x8_1 < (l1.length : Int)
     rotate_left
     ·rw [if_neg c12] at H
      exact absurd H (by simp)
     rw [if_pos c12] at H
     have c12b0 : decide (x8_1 < (l1.length : Int)) = true := decide_eq_true c12
     clear c12
     replace H := Option.bind_eq_some_iff.mp H
     obtain ⟨t234, A130, H⟩ := H
     try dsimp only at H
     have A13 := Aside0.mk A130
     clear A130
     by_cases c14 : t234 = true
     ·subst c14
      rw [if_pos rfl] at H
      obtain ⟨y235, hy235⟩ : ∃ y_ : List Int, y_ = (([] : List Int)) := ⟨_, rfl⟩
      replace H : (if x9_2.length < 5864062014805 then (spec_l10Table.l1 k2 l1 a2 x7_1 x8_1 (x9_2 ++ [y235]) (wrap64 (x10_2 + 1)) a0_0 l0_1) else (none)) = some r := by first | (rw [hy235];with_reducible exact H) | (have H2_ := (Option.bind_some _ _).symm.trans H;rw [hy235];with_reducible exact H2_) | (have H2_ := (Option.bind_some _ _).symm.trans H;with_reducible exact H2_) | with_reducible exact H | (rw [hy235];exact H) | exact H
      have Ny235 := Aside0.mk hy235
      clear hy235
      by_cases c15 : x9_2.length < 5864062014805
      rotate_left
      ·rw [if_neg c15] at H
       exact absurd H (by simp)
      rw [if_pos c15] at H
      have LMc15 := Aside0.mk c15
      clear c15
      obtain ⟨y238, hy238⟩ : ∃ y_ : List (List Int), y_ = (x9_2 ++ [y235]) := ⟨_, rfl⟩
      replace H : (spec_l10Table.l1 k2 l1 a2 x7_1 x8_1 y238 (wrap64 (x10_2 + 1)) a0_0 l0_1) = some r := by first | (rw [hy238];with_reducible exact H) | (have H2_ := (Option.bind_some _ _).symm.trans H;rw [hy238];with_reducible exact H2_) | (have H2_ := (Option.bind_some _ _).symm.trans H;with_reducible exact H2_) | with_reducible exact H | (rw [hy238];exact H) | exact H
      have Ny238 := Aside0.mk hy238
      clear hy238
      have H' := Aside0.mk H
      clear H
      have hcz16_0 := bC0 BK223.out
      have hcz16_1 := bC1 BK223.out
      have hfz16_0 := blk_frozen BK223.out 0
      have hfz16_1 := blk_frozen BK223.out 1
      have p233 : 0 ≤ (x8_1 : Int) := oA
      have q233 : x8_1 < (l1.length : Int) := oA
      obtain ⟨ad233, A233_0, c233_0, e233, hx233_0, hl233_0, hi233_0⟩ := at_L2 HR1.out x8_1 p233 q233
      cases e233
      replace hx233_0 := (HB.out.cell (World.block_lt_of_cell? w _ hx233_0)).trans hx233_0
      have HR233_0 := Aside0.mk hi233_0
      have HC233_0 := Aside0.mk hl233_0
      clear hi233_0 hl233_0
      replace p233 := eq_true p233
      replace q233 := eq_true q233
      go_wp2_with (first | ((with_reducible refine gate_callee (f := 43) rfl ?_);refine goesL_ (some 30) rfl rfl Tryd.func43 (by kernel_rfl) rfl #[.slice A233_0 (rd_L2 l1 x8_1).length c233_0, .int .i64 x10_2] rfl mM ?_;(with_reducible refine (spec_l1Has.calls k2 _ _ (rd_L2 l1 x8_1) x10_2 true _ ?side1 ?side2 A13.out).mono ?_);(case side1 => exact cP (Kd.C_below HR233_0.out HB.out));(case side2 => exact HC233_0.out);rintro e w' ⟨rfl, ⟨nd, rfl⟩⟩;refine ⟨_, rfl, ?_⟩) | ((with_reducible refine gate_dst (N := 32) rfl ?_);refine Kd.R_lit (Kd.int .i64) _ 3 ?hg (N := 32) ?hd (xs := ([] : List Int)) (inner := []) (ok := fun _ => True) (okp := fun _ => True) ?hr ?hp (fun _ hk => hk) trivial (Below.refl _ _) (Nat.le_refl _) (by simp) ?_;(case hd => rfl);(case hg => rfl);(case hr => exact gS);(case hp => exact (Reps.none _ _));intro v236 w17 ho18 hb hg_ hnew_;clear hg_ hnew_;(first | rw [← Ny235.out] at ho18 | (simp only [Int.reduceToNat] at ho18;rw [← Ny235.out] at ho18));have n0_ := aM (Kd.R_elder' (by exact rP HO_7.out) (Kd.R_base ho18) hb);have n1_ := aM (Kd.S_elder' (by exact tP HO_9.out) (Kd.R_base ho18) hb);have n2_ := aM (Kd.R_lower ho18 (below_size (by exact bB)));have n3_ := aM (kB hb BK223.out);have n4_ := aM (below_step (by exact bB) hb);clear HO_7;clear HO_9;clear BK223;clear HB;have HO_7 := n0_;have HO_9 := n1_;have HO237 := n2_;have BK223 := n3_;have HB := n4_;clear n0_ n1_ n2_ n3_ n4_;clear hb ho18;obtain ⟨Ao20, co20, eo20⟩ := Kd.R_slice HO237.out;subst eo20) | ((with_reducible refine gate_builtin (b := .append) (xs := #[.tmp 31, .tmp 33]) rfl ?_);at_builtin;refine Kd.S_append (Kd.slice 3 (Kd.int .i64)) (w0 := w) w.heap.size rfl (.tmp 31) (.tmp 33) 26 36 (.slice none 0 0) 24 rfl Tryd.underlying26 info36 rfl (by decide) (by omega) u9 x9_2 y235 [.slice Ao20 y235.length co20] (fun _ => True) (fun k_ => some k_ = (.slice Ao20 y235.length co20 : Value).ownBlock) rfl rfl ?aP (fun k_ hk_ => ((Kd.R_mono (ok' := fun k_ => ((fun _ => True)) k_ ∧ some k_ ≠ (u9 : Value).ownBlock) (Kd.R_apart' (HO237.out) (Kd.S_typed HO_9.out) (by decide)) (fun k_ hk => ⟨trivial, hk.2⟩))).1 k_ hk_.symm) ?aF ?aO ?aB ?aS ?aL ?_;(case aP => exact Kd.M_row (Kd.R_mono (Kd.R_tight rfl (Kd.R_mono (ok' := fun k_ => ((fun _ => True)) k_ ∧ some k_ ≠ (u9 : Value).ownBlock) (Kd.R_apart' (HO237.out) (Kd.S_typed HO_9.out) (by decide)) (fun k_ hk => ⟨trivial, hk.2⟩))) (fun _ h_ => h_)));(case aB => exact (by exact bB));(case aF => exact (fun _ _ => trivial));(case aO => exact (by (with_reducible repeat (first | apply Kd.S_alloc | apply Kd.S_drewN | apply Kd.S_drew));exact Kd.S_mono HO_9.out (fun k_ hk => ⟨trivial, fun e_ => hk.2 e_⟩)));(case aS => exact (below_size (by exact bB)));(case aL => have := LMc15.out;omega);intro v239 w19 ho hb hg hat;rw [← Ny238.out] at ho;have n0_ := aM (Kd.R_after (ok := (fun k_ => some k_ ≠ (.slice Ao20 y235.length co20 : Value).ownBlock)) (by exact rP (Kd.R_mono HO_7.out (fun _ hk => ⟨hk.2, hk.1⟩))) hg hat);have n1_ := aM (blk_grown (g := gb223) (o := .cells #[.int .i64 a0_0, .slice A0_1 l0_1.length c0_1] 29 (0, 0)) (by exact kP BK223.out) hg (Kd.S_ne HO_9.out BK223.out (by decide)));have n2_ := aM (hb);have n3_ := aM (ho);clear HO_7;clear BK223;clear HB;clear HO_9;clear HO237;have HO_7 := n0_;have BK223 := n1_;have HB := n2_;have HO240 := n3_;clear n0_ n1_ n2_ n3_;clear ho hb hg hat))
      go_roundg k2
      case measure => have := HK1.out;have := HK2.out;omega
      case rel => exact ⟨(y238), (wrap64 (x10_2 + 1)), eF, H', ⟨by have := HK1.out;have := HK2.out;omega⟩, ⟨by refine rP ?_;exact Kd.R_mono HO_7.out (fun _ hk => hk.2)⟩, ⟨by (with_reducible repeat (first | apply Kd.S_alloc | apply Kd.S_drewN | apply Kd.S_drew));exact HO240.out⟩, ⟨by exact kP BK223.out⟩, ⟨by exact bB⟩⟩
     replace c14 := Bool.eq_false_iff.mpr c14
     subst c14
     rw [if_neg (show ¬ (false = true) by decide)] at H
     replace H := Option.bind_eq_some_iff.mp H
     obtain ⟨t241, A210, H⟩ := H
     try dsimp only at H
     have A21 := Aside0.mk A210
     clear A210
     by_cases c22 : x9_2.length < 5864062014805
     rotate_left
     ·rw [if_neg c22] at H
      exact absurd H (by simp)
     rw [if_pos c22] at H
     have LMc22 := Aside0.mk c22
     clear c22
     obtain ⟨y244, hy244⟩ : ∃ y_ : List (List Int), y_ = (x9_2 ++ [t241]) := ⟨_, rfl⟩
     replace H : (spec_l10Table.l1 k2 l1 a2 x7_1 x8_1 y244 (wrap64 (x10_2 + 1)) a0_0 l0_1) = some r := by first | (rw [hy244];with_reducible exact H) | (have H2_ := (Option.bind_some _ _).symm.trans H;rw [hy244];with_reducible exact H2_) | (have H2_ := (Option.bind_some _ _).symm.trans H;with_reducible exact H2_) | with_reducible exact H | (rw [hy244];exact H) | exact H
     have Ny244 := Aside0.mk hy244
     clear hy244
     have H' := Aside0.mk H
     clear H
     have hcz23_0 := bC0 BK223.out
     have hcz23_1 := bC1 BK223.out
     have hfz23_0 := blk_frozen BK223.out 0
     have hfz23_1 := blk_frozen BK223.out 1
     have p233 : 0 ≤ (x8_1 : Int) := oA
     have q233 : x8_1 < (l1.length : Int) := oA
     obtain ⟨ad233, A233_0, c233_0, e233, hx233_0, hl233_0, hi233_0⟩ := at_L2 HR1.out x8_1 p233 q233
     cases e233
     replace hx233_0 := (HB.out.cell (World.block_lt_of_cell? w _ hx233_0)).trans hx233_0
     have HR233_0 := Aside0.mk hi233_0
     have HC233_0 := Aside0.mk hl233_0
     clear hi233_0 hl233_0
     replace p233 := eq_true p233
     replace q233 := eq_true q233
     go_wp2_with (first | ((with_reducible refine gate_callee (f := 43) rfl ?_);refine goesL_ (some 30) rfl rfl Tryd.func43 (by kernel_rfl) rfl #[.slice A233_0 (rd_L2 l1 x8_1).length c233_0, .int .i64 x10_2] rfl mM ?_;(with_reducible refine (spec_l1Has.calls k2 _ _ (rd_L2 l1 x8_1) x10_2 false _ ?side1 ?side2 A13.out).mono ?_);(case side1 => exact cP (Kd.C_below HR233_0.out HB.out));(case side2 => exact HC233_0.out);rintro e w' ⟨rfl, ⟨nd, rfl⟩⟩;refine ⟨_, rfl, ?_⟩) | ((with_reducible refine gate_callee (f := 72) rfl ?_);refine goesL_ (some 41) rfl rfl Tryd.func72 (by kernel_rfl) rfl #[.agg #[.int .i64 a0_0, .slice A0_1 l0_1.length c0_1], .slice (some ad233) l1.length c1, .int .i64 x8_1, .int .i64 x10_2, .bool a2] rfl mM ?_;(with_reducible refine (spec_l10Answers.calls k2 a0_0 _ _ l0_1 _ _ l1 x8_1 x10_2 a2 t241 _ ?side1 ?side2 ?side3 ?side4 A21.out).mono ?_);(case side1 => exact cP (Kd.C_below HR0_1.out (by repeat (first | (with_reducible first | exact HB.out | apply below_alloc | apply pw_below_drewN | apply below_drew1 | refine below_set ?_ GE223.out) | exact HB.out))));(case side2 => exact HC0_1.out);(case side3 => exact cP (Kd.C_below HR1.out (by repeat (first | (with_reducible first | exact HB.out | apply below_alloc | apply pw_below_drewN | apply below_drew1 | refine below_set ?_ GE223.out) | exact HB.out))));(case side4 => exact HC1.out);rintro e w24 ⟨v242, rfl, ho0, hb⟩;refine ⟨_, rfl, ?_⟩;have n0_ := aM (Kd.R_elder' (by exact rP HO_7.out) (Kd.R_base ho0) hb);have n1_ := aM (Kd.S_elder' (by exact tP HO_9.out) (Kd.R_base ho0) hb);have n2_ := aM (Kd.R_lower ho0 (below_size (by exact bB)));have n3_ := aM (kB hb BK223.out);have n4_ := aM (below_step (by exact bB) hb);clear HO_7;clear HO_9;clear BK223;clear HB;have HO_7 := n0_;have HO_9 := n1_;have HO243 := n2_;have BK223 := n3_;have HB := n4_;clear n0_ n1_ n2_ n3_ n4_;(try clear hb);(try clear ho0);obtain ⟨Ao26, co26, eo26⟩ := Kd.R_slice HO243.out;subst eo26) | ((with_reducible refine gate_builtin (b := .append) (xs := #[.tmp 35, .tmp 42]) rfl ?_);at_builtin;refine Kd.S_append (Kd.slice 3 (Kd.int .i64)) (w0 := w) w.heap.size rfl (.tmp 35) (.tmp 42) 26 36 (.slice none 0 0) 24 rfl Tryd.underlying26 info36 rfl (by decide) (by omega) u9 x9_2 t241 [.slice Ao26 t241.length co26] (fun _ => True) (fun k_ => some k_ = (.slice Ao26 t241.length co26 : Value).ownBlock) rfl rfl ?aP (fun k_ hk_ => ((Kd.R_mono (ok' := fun k_ => ((fun _ => True)) k_ ∧ some k_ ≠ (u9 : Value).ownBlock) (Kd.R_apart' (HO243.out) (Kd.S_typed HO_9.out) (by decide)) (fun k_ hk => ⟨trivial, hk.2⟩))).1 k_ hk_.symm) ?aF ?aO ?aB ?aS ?aL ?_;(case aP => exact Kd.M_row (Kd.R_mono (Kd.R_tight rfl (Kd.R_mono (ok' := fun k_ => ((fun _ => True)) k_ ∧ some k_ ≠ (u9 : Value).ownBlock) (Kd.R_apart' (HO243.out) (Kd.S_typed HO_9.out) (by decide)) (fun k_ hk => ⟨trivial, hk.2⟩))) (fun _ h_ => h_)));(case aB => exact (by exact bB));(case aF => exact (fun _ _ => trivial));(case aO => exact (by (with_reducible repeat (first | apply Kd.S_alloc | apply Kd.S_drewN | apply Kd.S_drew));exact Kd.S_mono HO_9.out (fun k_ hk => ⟨trivial, fun e_ => hk.2 e_⟩)));(case aS => exact (below_size (by exact bB)));(case aL => have := LMc22.out;omega);intro v245 w25 ho hb hg hat;rw [← Ny244.out] at ho;have n0_ := aM (Kd.R_after (ok := (fun k_ => some k_ ≠ (.slice Ao26 t241.length co26 : Value).ownBlock)) (by exact rP (Kd.R_mono HO_7.out (fun _ hk => ⟨hk.2, hk.1⟩))) hg hat);have n1_ := aM (blk_grown (g := gb223) (o := .cells #[.int .i64 a0_0, .slice A0_1 l0_1.length c0_1] 29 (0, 0)) (by exact kP BK223.out) hg (Kd.S_ne HO_9.out BK223.out (by decide)));have n2_ := aM (hb);have n3_ := aM (ho);clear HO_7;clear BK223;clear HB;clear HO_9;clear HO243;have HO_7 := n0_;have BK223 := n1_;have HB := n2_;have HO246 := n3_;clear n0_ n1_ n2_ n3_;clear ho hb hg hat))
     go_roundg k2
     case measure => have := HK1.out;have := HK2.out;omega
     case rel => exact ⟨(y244), (wrap64 (x10_2 + 1)), eF, H', ⟨by have := HK1.out;have := HK2.out;omega⟩, ⟨by refine rP ?_;exact Kd.R_mono HO_7.out (fun _ hk => hk.2)⟩, ⟨by (with_reducible repeat (first | apply Kd.S_alloc | apply Kd.S_drewN | apply Kd.S_drew));exact HO246.out⟩, ⟨by exact kP BK223.out⟩, ⟨by exact bB⟩⟩


/-! ### spec_l1Most: function 75 -/
def spec_l1Most.f (a0 : Int) (a1 : Int) : Option (Int) := if a0 > a1 then (some a0) else (some a1)
theorem spec_l1Most.calls (a0 : Int) (a1 : Int) (r : Int) (w : World) (h : spec_l1Most.f a0 a1 = some r) :
  Calls Tryd.prog 75 #[.int .i64 a0, .int .i64 a1] w fun e w' => e = .returned (.int .i64 r) ∧ Drawn0 w w' := by
 have H : (if a0 > a1 then (some a0) else (some a1)) = some r := h
 clear h
 by_cases c3 : a0 > a1
 rotate_left
 ·rw [if_neg c3] at H
  have c3b0 : decide (a1 < a0) = false := decide_eq_false c3
  clear c3
  obtain rfl := Option.some.inj H
  go_enter Tryd.func75, Tryd.ntmps75
  go_wp2
  go_ret
  exact ⟨eF, dR⟩
 rw [if_pos c3] at H
 have c3b0 : decide (a1 < a0) = true := decide_eq_true c3
 clear c3
 obtain rfl := Option.some.inj H
 go_enter Tryd.func75, Tryd.ntmps75
 go_wp2
 go_ret
 exact ⟨eF, dR⟩


/-! ### spec_l10After: function 44 -/
def spec_l10After.l0 : Nat → List Int → List Int → Int → Int → Option (Int × Bool)
 | 0, _, _, _, _ => none
 | k + 1, x0, x1, x6, x7 => if x7 < (x0.length : Int) then (if 0 ≤ x7 then (if 0 ≤ (rd x0 x7) then (if (rd x0 x7) < (x1.length : Int) then (if (rd x1 (rd x0 x7)) < 0 then (some ((-1), true)) else ((spec_l1Most.f x6 (rd x1 (rd x0 x7))).bind fun t251 => (spec_l10After.l0 k x0 x1 t251 (wrap64 (x7 + 1))))) else (none)) else (none)) else (none)) else (some (x6, decide ((x0.length : Int) > 0)))
def spec_l10After.f (k : Nat) (l0 : List Int) (l1 : List Int) : Option (Int × Bool) := spec_l10After.l0 k l0 l1 0 0
theorem spec_l10After.mono_l : ∀ k, (∀ y0 y1 y2 y3, LeO (spec_l10After.l0 k y0 y1 y2 y3) (spec_l10After.l0 (k + 1) y0 y1 y2 y3))
 | 0 => fun _ _ _ _ r h => by simp [spec_l10After.l0] at h
 | k + 1 => by
  have ih0 := spec_l10After.mono_l k
  ·intro y0 y1 y2 y3
   unfold spec_l10After.l0
   exact lM
theorem spec_l10After.mono : ∀ a0 a1 k, LeO (spec_l10After.f k a0 a1) (spec_l10After.f (k + 1) a0 a1) := by
 intro a0 a1 k
 have ih0 := spec_l10After.mono_l k
 unfold spec_l10After.f
 exact lM
theorem spec_l10After.calls (k : Nat) (A0 : Option Addr) (c0 : Nat) (l0 : List Int) (A1 : Option Addr) (c1 : Nat) (l1 : List Int) (r1 : Int) (r2 : Bool) (w : World) (hr0 : Kd.C (Kd.int .i64) w A0 l0.length l0) (hc0 : l0.length ≤ c0) (hr1 : Kd.C (Kd.int .i64) w A1 l1.length l1) (hc1 : l1.length ≤ c1) (h : spec_l10After.f k l0 l1 = some (r1, r2)) :
  Calls Tryd.prog 44 #[.slice A0 l0.length c0, .slice A1 l1.length c1] w fun e w' => e = .returned (.tuple #[.int .i64 r1, .bool r2]) ∧ Drawn0 w w' := by
 have HR0 := Aside0.mk hr0
 have HC0 := Aside0.mk hc0
 clear hr0 hc0
 have HR1 := Aside0.mk hr1
 have HC1 := Aside0.mk hc1
 clear hr1 hc1
 have H : (spec_l10After.l0 k l0 l1 0 0) = some (r1, r2) := h
 clear h
 have H' := Aside0.mk H
 clear H
 go_enter Tryd.func44, Tryd.ntmps44
 go_wp2
 go_loopg [6, 7] k (fun kq v6 v7 w' => ∃ (x6_1 : Int) (x7_1 : Int), v6 = .int .i64 x6_1 ∧ v7 = .int .i64 x7_1 ∧ Aside0 (spec_l10After.l0 kq l0 l1 x6_1 x7_1 = some (r1, r2)) ∧ Aside0 (kq ≤ k) ∧ Drawn0 w w')
 case atStart => exact ⟨(0), (0), eF, eF, H', ⟨Nat.le_refl _⟩, dR⟩
 case round =>
  clear H'
  try clear c1
  try clear p2
  obtain ⟨x6_1, x7_1, rfl, rfl, HA, HK1, ⟨m1, rfl⟩⟩ := hrel
  cases gk with
  | zero => exact absurd HA.out (by simp [spec_l10After.l0])
  | succ k1 =>
   have H := HA.out
   clear HA
   simp only [spec_l10After.l0] at H
   by_cases c3 : x7_1 < (l0.length : Int)
   rotate_left
   ·rw [if_neg c3] at H
    have c3b0 : decide (x7_1 < (l0.length : Int)) = false := decide_eq_false c3
    clear c3
    simp only [Option.some.injEq, Prod.mk.injEq] at H
    obtain ⟨rfl, rfl⟩ := H
    go_wp2
    go_ret2
    exact ⟨eF, dR⟩
   rw [if_pos c3] at H
   have c3b0 : decide (x7_1 < (l0.length : Int)) = true := decide_eq_true c3
   clear c3
   by_cases c4 : 0 ≤ x7_1
   rotate_left
   ·rw [if_neg c4] at H
    exact absurd H (by simp)
   rw [if_pos c4] at H
   have c4b0 : decide (0 ≤ x7_1) = true := decide_eq_true c4
   clear c4
   by_cases c5 : 0 ≤ (rd l0 x7_1)
   rotate_left
   ·rw [if_neg c5] at H
    exact absurd H (by simp)
   rw [if_pos c5] at H
   have c5b0 : decide (0 ≤ (rd l0 x7_1)) = true := decide_eq_true c5
   clear c5
   by_cases c6 : (rd l0 x7_1) < (l1.length : Int)
   rotate_left
   ·rw [if_neg c6] at H
    exact absurd H (by simp)
   rw [if_pos c6] at H
   have c6b0 : decide ((rd l0 x7_1) < (l1.length : Int)) = true := decide_eq_true c6
   clear c6
   by_cases c7 : (rd l1 (rd l0 x7_1)) < 0
   ·rw [if_pos c7] at H
    have c7b0 : decide ((rd l1 (rd l0 x7_1)) < 0) = true := decide_eq_true c7
    clear c7
    simp only [Option.some.injEq, Prod.mk.injEq] at H
    obtain ⟨rfl, rfl⟩ := H
    have p247 : 0 ≤ (x7_1 : Int) := oA
    have q247 : x7_1 < (l0.length : Int) := oA
    obtain ⟨ad247, e247, hx247_0⟩ := Kd.at_int HR0.out x7_1 p247 q247
    cases e247
    replace p247 := eq_true p247
    replace q247 := eq_true q247
    have p248 : 0 ≤ ((rd l0 x7_1) : Int) := oA
    have q248 : (rd l0 x7_1) < (l1.length : Int) := oA
    obtain ⟨ad248, e248, hx248_0⟩ := Kd.at_int HR1.out (rd l0 x7_1) p248 q248
    cases e248
    replace p248 := eq_true p248
    replace q248 := eq_true q248
    go_wp2
    go_ret2
    exact ⟨eF, dR⟩
   rw [if_neg c7] at H
   have c7b0 : decide ((rd l1 (rd l0 x7_1)) < 0) = false := decide_eq_false c7
   clear c7
   replace H := Option.bind_eq_some_iff.mp H
   obtain ⟨t251, A80, H⟩ := H
   try dsimp only at H
   have A8 := Aside0.mk A80
   clear A80
   have H' := Aside0.mk H
   clear H
   have p247 : 0 ≤ (x7_1 : Int) := oA
   have q247 : x7_1 < (l0.length : Int) := oA
   obtain ⟨ad247, e247, hx247_0⟩ := Kd.at_int HR0.out x7_1 p247 q247
   cases e247
   replace p247 := eq_true p247
   replace q247 := eq_true q247
   have p248 : 0 ≤ ((rd l0 x7_1) : Int) := oA
   have q248 : (rd l0 x7_1) < (l1.length : Int) := oA
   obtain ⟨ad248, e248, hx248_0⟩ := Kd.at_int HR1.out (rd l0 x7_1) p248 q248
   cases e248
   replace p248 := eq_true p248
   replace q248 := eq_true q248
   have p249 : 0 ≤ (x7_1 : Int) := oA
   have q249 : x7_1 < (l0.length : Int) := oA
   obtain ⟨ad249, e249, hx249_0⟩ := Kd.at_int HR0.out x7_1 p249 q249
   obtain rfl : ad247 = ad249 := (by injection e249)
   replace p249 := eq_true p249
   replace q249 := eq_true q249
   have p250 : 0 ≤ ((rd l0 x7_1) : Int) := oA
   have q250 : (rd l0 x7_1) < (l1.length : Int) := oA
   obtain ⟨ad250, e250, hx250_0⟩ := Kd.at_int HR1.out (rd l0 x7_1) p250 q250
   obtain rfl : ad248 = ad250 := (by injection e250)
   replace p250 := eq_true p250
   replace q250 := eq_true q250
   go_wp2_with (first | ((with_reducible refine gate_callee (f := 75) rfl ?_);refine goesL_ (some 30) rfl rfl Tryd.func75 (by kernel_rfl) rfl #[.int .i64 x6_1, .int .i64 (rd l1 (rd l0 x7_1))] rfl mM ?_;(with_reducible refine (spec_l1Most.calls x6_1 (rd l1 (rd l0 x7_1)) t251 _ A8.out).mono ?_);rintro e w' ⟨rfl, ⟨nd, rfl⟩⟩;refine ⟨_, rfl, ?_⟩))
   go_roundg k1
   case measure => have := HK1.out;omega
   case rel => exact ⟨(t251), (wrap64 (x7_1 + 1)), eF, eF, H', ⟨by have := HK1.out;omega⟩, dR⟩


/-! ### spec_l10Falls: function 73 -/
def spec_l10Falls.l0 : Nat → List Int → List (List Int) → List Int → Int → Option (Bool)
 | 0, _, _, _, _ => none
 | k + 1, x0, x1, x2, x7 => if x7 < (x1.length : Int) then ((spec_l1Has.f k x0 x7).bind fun t252 => (if t252 = true then (spec_l10Falls.l0 k x0 x1 x2 (wrap64 (x7 + 1))) else (if 0 ≤ x7 then ((spec_l10After.f k (rd_L2 x1 x7) x2).bind fun bt254 => (if bt254.2 = true then (if bt254.1 ≥ 0 then (some true) else (spec_l10Falls.l0 k x0 x1 x2 (wrap64 (x7 + 1)))) else (some true))) else (none)))) else (some false)
def spec_l10Falls.f (k : Nat) (l0 : List Int) (l1 : List (List Int)) (l2 : List Int) : Option (Bool) := spec_l10Falls.l0 k l0 l1 l2 0
theorem spec_l10Falls.mono_l : ∀ k, (∀ y0 y1 y2 y3, LeO (spec_l10Falls.l0 k y0 y1 y2 y3) (spec_l10Falls.l0 (k + 1) y0 y1 y2 y3))
 | 0 => fun _ _ _ _ r h => by simp [spec_l10Falls.l0] at h
 | k + 1 => by
  have ih0 := spec_l10Falls.mono_l k
  ·intro y0 y1 y2 y3
   unfold spec_l10Falls.l0
   have q0 := spec_l10After.mono
   have q1 := spec_l1Has.mono
   exact lM
theorem spec_l10Falls.mono : ∀ a0 a1 a2 k, LeO (spec_l10Falls.f k a0 a1 a2) (spec_l10Falls.f (k + 1) a0 a1 a2) := by
 intro a0 a1 a2 k
 have ih0 := spec_l10Falls.mono_l k
 unfold spec_l10Falls.f
 have q0 := spec_l10After.mono
 have q1 := spec_l1Has.mono
 exact lM
theorem spec_l10Falls.calls (k : Nat) (A0 : Option Addr) (c0 : Nat) (l0 : List Int) (A1 : Option Addr) (c1 : Nat) (l1 : List (List Int)) (A2 : Option Addr) (c2 : Nat) (l2 : List Int) (r : Bool) (w : World) (hr0 : Kd.C (Kd.int .i64) w A0 l0.length l0) (hc0 : l0.length ≤ c0) (hr1 : Kd.C (Kd.slice 3 (Kd.int .i64)) w A1 l1.length l1) (hc1 : l1.length ≤ c1) (hr2 : Kd.C (Kd.int .i64) w A2 l2.length l2) (hc2 : l2.length ≤ c2) (h : spec_l10Falls.f k l0 l1 l2 = some r) :
  Calls Tryd.prog 73 #[.slice A0 l0.length c0, .slice A1 l1.length c1, .slice A2 l2.length c2] w fun e w' => e = .returned (.bool r) ∧ Drawn0 w w' := by
 have HR0 := Aside0.mk hr0
 have HC0 := Aside0.mk hc0
 clear hr0 hc0
 have HR1 := Aside0.mk hr1
 have HC1 := Aside0.mk hc1
 clear hr1 hc1
 have HR2 := Aside0.mk hr2
 have HC2 := Aside0.mk hc2
 clear hr2 hc2
 have H : (spec_l10Falls.l0 k l0 l1 l2 0) = some r := h
 clear h
 have H' := Aside0.mk H
 clear H
 go_enter Tryd.func73, Tryd.ntmps73
 go_wp2
 go_loopg [7] k (fun kq v7 w' => ∃ (x7_1 : Int), v7 = .int .i64 x7_1 ∧ Aside0 (spec_l10Falls.l0 kq l0 l1 l2 x7_1 = some r) ∧ Aside0 (kq ≤ k) ∧ Drawn0 w w')
 case atStart => exact ⟨(0), eF, H', ⟨Nat.le_refl _⟩, dR⟩
 case round =>
  clear H'
  try clear c1
  try clear c2
  try clear p2
  obtain ⟨x7_1, rfl, HA, HK1, ⟨m1, rfl⟩⟩ := hrel
  cases gk with
  | zero => exact absurd HA.out (by simp [spec_l10Falls.l0])
  | succ k1 =>
   have H := HA.out
   clear HA
   simp only [spec_l10Falls.l0] at H
   by_cases c4 : x7_1 < (l1.length : Int)
   rotate_left
   ·rw [if_neg c4] at H
    have c4b0 : decide (x7_1 < (l1.length : Int)) = false := decide_eq_false c4
    clear c4
    obtain rfl := Option.some.inj H
    go_wp2
    go_ret
    exact ⟨eF, dR⟩
   rw [if_pos c4] at H
   have c4b0 : decide (x7_1 < (l1.length : Int)) = true := decide_eq_true c4
   clear c4
   replace H := Option.bind_eq_some_iff.mp H
   obtain ⟨t252, A50, H⟩ := H
   try dsimp only at H
   have A5 := Aside0.mk A50
   clear A50
   by_cases c6 : t252 = true
   ·subst c6
    rw [if_pos rfl] at H
    have H' := Aside0.mk H
    clear H
    go_wp2_with (first | ((with_reducible refine gate_callee (f := 43) rfl ?_);refine goesL_ (some 18) rfl rfl Tryd.func43 (by kernel_rfl) rfl #[.slice A0 l0.length c0, .int .i64 x7_1] rfl mM ?_;(with_reducible refine (spec_l1Has.calls k1 _ _ l0 x7_1 true _ ?side1 ?side2 A5.out).mono ?_);(case side1 => exact cP HR0.out);(case side2 => exact HC0.out);rintro e w' ⟨rfl, ⟨nd, rfl⟩⟩;refine ⟨_, rfl, ?_⟩))
    go_roundg k1
    case measure => have := HK1.out;omega
    case rel => exact ⟨(wrap64 (x7_1 + 1)), eF, H', ⟨by have := HK1.out;omega⟩, dR⟩
   replace c6 := Bool.eq_false_iff.mpr c6
   subst c6
   rw [if_neg (show ¬ (false = true) by decide)] at H
   by_cases c7 : 0 ≤ x7_1
   rotate_left
   ·rw [if_neg c7] at H
    exact absurd H (by simp)
   rw [if_pos c7] at H
   have c7b0 : decide (0 ≤ x7_1) = true := decide_eq_true c7
   clear c7
   replace H := Option.bind_eq_some_iff.mp H
   obtain ⟨⟨t254, t255⟩, A80, H⟩ := H
   try dsimp only at H
   have A8 := Aside0.mk A80
   clear A80
   by_cases c9 : t255 = true
   rotate_left
   ·replace c9 := Bool.eq_false_iff.mpr c9
    subst c9
    rw [if_neg (show ¬ (false = true) by decide)] at H
    obtain rfl := Option.some.inj H
    go_wp2_with (first | ((with_reducible refine gate_callee (f := 43) rfl ?_);refine goesL_ (some 18) rfl rfl Tryd.func43 (by kernel_rfl) rfl #[.slice A0 l0.length c0, .int .i64 x7_1] rfl mM ?_;(with_reducible refine (spec_l1Has.calls k1 _ _ l0 x7_1 false _ ?side1 ?side2 A5.out).mono ?_);(case side1 => exact cP HR0.out);(case side2 => exact HC0.out);rintro e w' ⟨rfl, ⟨nd, rfl⟩⟩;refine ⟨_, rfl, ?_⟩;have p253 : 0 ≤ (x7_1 : Int) := oA;have q253 : x7_1 < (l1.length : Int) := oA;obtain ⟨ad253, A253_0, c253_0, e253, hx253_0, hl253_0, hi253_0⟩ := at_L2 HR1.out x7_1 p253 q253;cases e253;have HR253_0 := Aside0.mk hi253_0;have HC253_0 := Aside0.mk hl253_0;clear hi253_0 hl253_0;replace p253 := eq_true p253;replace q253 := eq_true q253) | ((with_reducible refine gate_callee (f := 44) rfl ?_);refine goesL_ (some 25) rfl rfl Tryd.func44 (by kernel_rfl) rfl #[.slice A253_0 (rd_L2 l1 x7_1).length c253_0, .slice A2 l2.length c2] rfl mM ?_;(with_reducible refine (spec_l10After.calls k1 _ _ (rd_L2 l1 x7_1) _ _ l2 t254 false _ ?side1 ?side2 ?side3 ?side4 A8.out).mono ?_);(case side1 => exact cP HR253_0.out);(case side2 => exact HC253_0.out);(case side3 => exact cP HR2.out);(case side4 => exact HC2.out);rintro e w' ⟨rfl, ⟨nd, rfl⟩⟩;refine ⟨_, rfl, ?_⟩))
    go_ret
    exact ⟨eF, dR⟩
   subst c9
   rw [if_pos rfl] at H
   by_cases c10 : t254 ≥ 0
   ·rw [if_pos c10] at H
    have c10b0 : decide (0 ≤ t254) = true := decide_eq_true c10
    clear c10
    obtain rfl := Option.some.inj H
    go_wp2_with (first | ((with_reducible refine gate_callee (f := 43) rfl ?_);refine goesL_ (some 18) rfl rfl Tryd.func43 (by kernel_rfl) rfl #[.slice A0 l0.length c0, .int .i64 x7_1] rfl mM ?_;(with_reducible refine (spec_l1Has.calls k1 _ _ l0 x7_1 false _ ?side1 ?side2 A5.out).mono ?_);(case side1 => exact cP HR0.out);(case side2 => exact HC0.out);rintro e w' ⟨rfl, ⟨nd, rfl⟩⟩;refine ⟨_, rfl, ?_⟩;have p253 : 0 ≤ (x7_1 : Int) := oA;have q253 : x7_1 < (l1.length : Int) := oA;obtain ⟨ad253, A253_0, c253_0, e253, hx253_0, hl253_0, hi253_0⟩ := at_L2 HR1.out x7_1 p253 q253;cases e253;have HR253_0 := Aside0.mk hi253_0;have HC253_0 := Aside0.mk hl253_0;clear hi253_0 hl253_0;replace p253 := eq_true p253;replace q253 := eq_true q253) | ((with_reducible refine gate_callee (f := 44) rfl ?_);refine goesL_ (some 25) rfl rfl Tryd.func44 (by kernel_rfl) rfl #[.slice A253_0 (rd_L2 l1 x7_1).length c253_0, .slice A2 l2.length c2] rfl mM ?_;(with_reducible refine (spec_l10After.calls k1 _ _ (rd_L2 l1 x7_1) _ _ l2 t254 true _ ?side1 ?side2 ?side3 ?side4 A8.out).mono ?_);(case side1 => exact cP HR253_0.out);(case side2 => exact HC253_0.out);(case side3 => exact cP HR2.out);(case side4 => exact HC2.out);rintro e w' ⟨rfl, ⟨nd, rfl⟩⟩;refine ⟨_, rfl, ?_⟩))
    go_ret
    exact ⟨eF, dR⟩
   rw [if_neg c10] at H
   have c10b0 : decide (0 ≤ t254) = false := decide_eq_false c10
   clear c10
   have H' := Aside0.mk H
   clear H
   go_wp2_with (first | ((with_reducible refine gate_callee (f := 43) rfl ?_);refine goesL_ (some 18) rfl rfl Tryd.func43 (by kernel_rfl) rfl #[.slice A0 l0.length c0, .int .i64 x7_1] rfl mM ?_;(with_reducible refine (spec_l1Has.calls k1 _ _ l0 x7_1 false _ ?side1 ?side2 A5.out).mono ?_);(case side1 => exact cP HR0.out);(case side2 => exact HC0.out);rintro e w' ⟨rfl, ⟨nd, rfl⟩⟩;refine ⟨_, rfl, ?_⟩;have p253 : 0 ≤ (x7_1 : Int) := oA;have q253 : x7_1 < (l1.length : Int) := oA;obtain ⟨ad253, A253_0, c253_0, e253, hx253_0, hl253_0, hi253_0⟩ := at_L2 HR1.out x7_1 p253 q253;cases e253;have HR253_0 := Aside0.mk hi253_0;have HC253_0 := Aside0.mk hl253_0;clear hi253_0 hl253_0;replace p253 := eq_true p253;replace q253 := eq_true q253) | ((with_reducible refine gate_callee (f := 44) rfl ?_);refine goesL_ (some 25) rfl rfl Tryd.func44 (by kernel_rfl) rfl #[.slice A253_0 (rd_L2 l1 x7_1).length c253_0, .slice A2 l2.length c2] rfl mM ?_;(with_reducible refine (spec_l10After.calls k1 _ _ (rd_L2 l1 x7_1) _ _ l2 t254 true _ ?side1 ?side2 ?side3 ?side4 A8.out).mono ?_);(case side1 => exact cP HR253_0.out);(case side2 => exact HC253_0.out);(case side3 => exact cP HR2.out);(case side4 => exact HC2.out);rintro e w' ⟨rfl, ⟨nd, rfl⟩⟩;refine ⟨_, rfl, ?_⟩))
   go_roundg k1
   case measure => have := HK1.out;omega
   case rel => exact ⟨(wrap64 (x7_1 + 1)), eF, H', ⟨by have := HK1.out;omega⟩, dR⟩


/-! ### spec_l10Resist: function 41 -/
mutual
def spec_l10Resist.l0 : Nat → List (List Int) → List (List (List Int)) → List Int → Int → Option (List Int)
 | 0, _, _, _, _ => none
 | k + 1, x0, x1, x5, x6 => if x6 < (x0.length : Int) then (if x5.length < 17592186044416 then (spec_l10Resist.l0 k x0 x1 (x5 ++ [(-1)]) (wrap64 (x6 + 1))) else (none)) else (spec_l10Resist.l1 k x0 x1 x5 0)
def spec_l10Resist.l1 : Nat → List (List Int) → List (List (List Int)) → List Int → Int → Option (List Int)
 | 0, _, _, _, _ => none
 | k + 1, x0, x1, x5, x7 => (spec_l1Own.f x5).bind fun t262 => (spec_l10Resist.l2 k x0 x1 x5 x7 t262 false 0)
def spec_l10Resist.l2 : Nat → List (List Int) → List (List (List Int)) → List Int → Int → List Int → Bool → Int → Option (List Int)
 | 0, _, _, _, _, _, _, _ => none
 | k + 1, x0, x1, x5, x7, x8, x9, x10 => if x10 < (x0.length : Int) then (if 0 ≤ x10 then (if x10 < (x5.length : Int) then (if (rd x5 x10) < 0 then (if x10 < (x1.length : Int) then ((spec_l10Falls.f k (rd_L2 x0 x10) (rd_L3 x1 x10) x5).bind fun t268 => (if t268 = true then (if x10 < (x8.length : Int) then (spec_l10Resist.l2 k x0 x1 x5 x7 (x8.set (x10 : Int).toNat x7) true (wrap64 (x10 + 1))) else (none)) else (spec_l10Resist.l2 k x0 x1 x5 x7 x8 x9 (wrap64 (x10 + 1))))) else (none)) else (spec_l10Resist.l2 k x0 x1 x5 x7 x8 x9 (wrap64 (x10 + 1)))) else (none)) else (none)) else (if x9 = true then (spec_l10Resist.l1 k x0 x1 x8 (wrap64 (x7 + 1))) else (some x8))
end
def spec_l10Resist.f (k : Nat) (l0 : List (List Int)) (l1 : List (List (List Int))) : Option (List Int) := spec_l10Resist.l0 k l0 l1 (([] : List Int)) 0
theorem spec_l10Resist.mono_l : ∀ k, (∀ y0 y1 y2 y3, LeO (spec_l10Resist.l0 k y0 y1 y2 y3) (spec_l10Resist.l0 (k + 1) y0 y1 y2 y3)) ∧ (∀ y0 y1 y2 y3, LeO (spec_l10Resist.l1 k y0 y1 y2 y3) (spec_l10Resist.l1 (k + 1) y0 y1 y2 y3)) ∧ (∀ y0 y1 y2 y3 y4 y5 y6, LeO (spec_l10Resist.l2 k y0 y1 y2 y3 y4 y5 y6) (spec_l10Resist.l2 (k + 1) y0 y1 y2 y3 y4 y5 y6))
 | 0 => ⟨fun _ _ _ _ r h => by simp [spec_l10Resist.l0] at h, fun _ _ _ _ r h => by simp [spec_l10Resist.l1] at h, fun _ _ _ _ _ _ _ r h => by simp [spec_l10Resist.l2] at h⟩
 | k + 1 => by
  obtain ⟨ih0, ih1, ih2⟩ := spec_l10Resist.mono_l k
  refine ⟨?_, ?_, ?_⟩
  ·intro y0 y1 y2 y3
   unfold spec_l10Resist.l0
   have q0 := spec_l10Falls.mono
   exact lM
  ·intro y0 y1 y2 y3
   unfold spec_l10Resist.l1
   have q0 := spec_l10Falls.mono
   exact lM
  ·intro y0 y1 y2 y3 y4 y5 y6
   unfold spec_l10Resist.l2
   have q0 := spec_l10Falls.mono
   exact lM
theorem spec_l10Resist.mono : ∀ a0 a1 k, LeO (spec_l10Resist.f k a0 a1) (spec_l10Resist.f (k + 1) a0 a1) := by
 intro a0 a1 k
 obtain ⟨ih0, ih1, ih2⟩ := spec_l10Resist.mono_l k
 unfold spec_l10Resist.f
 have q0 := spec_l10Falls.mono
 exact lM
theorem spec_l10Resist.calls (k : Nat) (A0 : Option Addr) (c0 : Nat) (l0 : List (List Int)) (A1 : Option Addr) (c1 : Nat) (l1 : List (List (List Int))) (r : List Int) (w : World) (hr0 : Kd.C (Kd.slice 3 (Kd.int .i64)) w A0 l0.length l0) (hc0 : l0.length ≤ c0) (hr1 : Kd.C (Kd.slice 36 (Kd.slice 3 (Kd.int .i64))) w A1 l1.length l1) (hc1 : l1.length ≤ c1) (h : spec_l10Resist.f k l0 l1 = some r) :
  Calls Tryd.prog 41 #[.slice A0 l0.length c0, .slice A1 l1.length c1] w fun e w' => ∃ v0_ : Value, e = .returned (v0_) ∧ Kd.R (Kd.int .i64) 3 w' w.heap.size (fun _ => True) v0_ r ∧ Below w.heap.size w w' := by
 have HR0 := Aside0.mk hr0
 have HC0 := Aside0.mk hc0
 clear hr0 hc0
 have HR1 := Aside0.mk hr1
 have HC1 := Aside0.mk hc1
 clear hr1 hc1
 have HB := aM (Below.refl w.heap.size w)
 have H : (spec_l10Resist.l0 k l0 l1 (([] : List Int)) 0) = some r := h
 clear h
 obtain ⟨y256, hy256⟩ : ∃ y_ : List Int, y_ = (([] : List Int)) := ⟨_, rfl⟩
 replace H : (spec_l10Resist.l0 k l0 l1 y256 0) = some r := by first | (rw [hy256];with_reducible exact H) | (have H2_ := (Option.bind_some _ _).symm.trans H;rw [hy256];with_reducible exact H2_) | (have H2_ := (Option.bind_some _ _).symm.trans H;with_reducible exact H2_) | with_reducible exact H | (rw [hy256];exact H) | exact H
 have Ny256 := Aside0.mk hy256
 clear hy256
 have H' := Aside0.mk H
 clear H
 go_enter Tryd.func41, Tryd.ntmps41
 go_wp2_with (first | ((with_reducible refine gate_dst (N := 11) rfl ?_);refine Kd.R_lit (Kd.int .i64) _ 3 ?hg (N := 11) ?hd (xs := ([] : List Int)) (inner := []) (ok := fun _ => True) (okp := fun _ => True) ?hr ?hp (fun _ hk => hk) trivial (Below.refl _ _) (Nat.le_refl _) (by simp) ?_;(case hd => rfl);(case hg => rfl);(case hr => exact gS);(case hp => exact (Reps.none _ _));intro v257 w3 ho4 hb hg_ hnew_;clear hg_ hnew_;(first | rw [← Ny256.out] at ho4 | (simp only [Int.reduceToNat] at ho4;rw [← Ny256.out] at ho4));have n0_ := aM (Kd.R_lower ho4 (below_size (by exact bB)));have n1_ := aM (below_step (by exact bB) hb);clear HB;have HO258 := n0_;have HB := n1_;clear n0_ n1_;clear hb ho4))
 repeat (go_quiet (first | ((with_reducible refine gate_dst (N := 11) rfl ?_);refine Kd.R_lit (Kd.int .i64) _ 3 ?hg (N := 11) ?hd (xs := ([] : List Int)) (inner := []) (ok := fun _ => True) (okp := fun _ => True) ?hr ?hp (fun _ hk => hk) trivial (Below.refl _ _) (Nat.le_refl _) (by simp) ?_;(case hd => rfl);(case hg => rfl);(case hr => exact gS);(case hp => exact (Reps.none _ _));intro v257 w3 ho4 hb hg_ hnew_;clear hg_ hnew_;(first | rw [← Ny256.out] at ho4 | (simp only [Int.reduceToNat] at ho4;rw [← Ny256.out] at ho4));have n0_ := aM (Kd.R_lower ho4 (below_size (by exact bB)));have n1_ := aM (below_step (by exact bB) hb);clear HB;have HO258 := n0_;have HB := n1_;clear n0_ n1_;clear hb ho4));try go_wp2_with (first | ((with_reducible refine gate_dst (N := 11) rfl ?_);refine Kd.R_lit (Kd.int .i64) _ 3 ?hg (N := 11) ?hd (xs := ([] : List Int)) (inner := []) (ok := fun _ => True) (okp := fun _ => True) ?hr ?hp (fun _ hk => hk) trivial (Below.refl _ _) (Nat.le_refl _) (by simp) ?_;(case hd => rfl);(case hg => rfl);(case hr => exact gS);(case hp => exact (Reps.none _ _));intro v257 w3 ho4 hb hg_ hnew_;clear hg_ hnew_;(first | rw [← Ny256.out] at ho4 | (simp only [Int.reduceToNat] at ho4;rw [← Ny256.out] at ho4));have n0_ := aM (Kd.R_lower ho4 (below_size (by exact bB)));have n1_ := aM (below_step (by exact bB) hb);clear HB;have HO258 := n0_;have HB := n1_;clear n0_ n1_;clear hb ho4)))
 go_loopg [5, 6] k (fun kq v5 v6 w' => ∃ (x5_1 : List Int) (x6_1 : Int), v6 = .int .i64 x6_1 ∧ Aside0 (spec_l10Resist.l0 kq l0 l1 x5_1 x6_1 = some r) ∧ Aside0 (kq ≤ k) ∧ Aside0 (Kd.R (Kd.int .i64) 3 w' w.heap.size (fun _ => True) v5 x5_1) ∧ Aside0 (Below w.heap.size w w'))
 case atStart => exact ⟨(y256), (0), eF, H', ⟨Nat.le_refl _⟩, ⟨by exact rP HO258.out⟩, ⟨by exact bB⟩⟩
 case round =>
  clear H'
  try clear c1
  try clear p2
  try clear c4
  obtain ⟨x5_1, x6_1, rfl, HA, HK1, HO_5, HB⟩ := hrel
  cases gk with
  | zero => exact absurd HA.out (by simp [spec_l10Resist.l0])
  | succ k1 =>
   have H := HA.out
   clear HA
   simp only [spec_l10Resist.l0] at H
   by_cases c5 : x6_1 < (l0.length : Int)
   ·rw [if_pos c5] at H
    have c5b0 : decide (x6_1 < (l0.length : Int)) = true := decide_eq_true c5
    clear c5
    by_cases c6 : x5_1.length < 17592186044416
    rotate_left
    ·rw [if_neg c6] at H
     exact absurd H (by simp)
    rw [if_pos c6] at H
    have LMc6 := Aside0.mk c6
    clear c6
    obtain ⟨y259, hy259⟩ : ∃ y_ : List Int, y_ = (x5_1 ++ [(-1)]) := ⟨_, rfl⟩
    replace H : (spec_l10Resist.l0 k1 l0 l1 y259 (wrap64 (x6_1 + 1))) = some r := by first | (rw [hy259];with_reducible exact H) | (have H2_ := (Option.bind_some _ _).symm.trans H;rw [hy259];with_reducible exact H2_) | (have H2_ := (Option.bind_some _ _).symm.trans H;with_reducible exact H2_) | with_reducible exact H | (rw [hy259];exact H) | exact H
    have Ny259 := Aside0.mk hy259
    clear hy259
    have H' := Aside0.mk H
    clear H
    go_wp2_with (first | ((with_reducible refine gate_builtin (b := .append) (xs := #[.tmp 18, .tmp 19]) rfl ?_);at_builtin;refine Kd.R_append (Kd.int .i64) (w0 := w) w.heap.size rfl (.tmp 18) (.tmp 19) 36 3 (.int .i64 0) 8 rfl Tryd.underlying36 info3 rfl (by decide) (by omega) u5 x5_1 (-1) [.int .i64 (-1)] (fun _ => True) (fun _ => False) rfl rfl ?aP (fun _ hk => hk.elim) ?aF ?aO ?aB ?aS ?aL ?_;(case aP => exact rfl);(case aB => exact (by exact bB));(case aF => exact (fun _ _ => trivial));(case aO => exact (by exact rP HO_5.out));(case aS => exact (below_size (by exact bB)));(case aL => have := LMc6.out;omega);intro v260 w7 ho hb hg hat;rw [← Ny259.out] at ho;have n0_ := aM (hb);have n1_ := aM (ho);clear HB;clear HO_5;have HB := n0_;have HO261 := n1_;clear n0_ n1_;clear ho hb hg hat))
    repeat (go_quiet (first | ((with_reducible refine gate_builtin (b := .append) (xs := #[.tmp 18, .tmp 19]) rfl ?_);at_builtin;refine Kd.R_append (Kd.int .i64) (w0 := w) w.heap.size rfl (.tmp 18) (.tmp 19) 36 3 (.int .i64 0) 8 rfl Tryd.underlying36 info3 rfl (by decide) (by omega) u5 x5_1 (-1) [.int .i64 (-1)] (fun _ => True) (fun _ => False) rfl rfl ?aP (fun _ hk => hk.elim) ?aF ?aO ?aB ?aS ?aL ?_;(case aP => exact rfl);(case aB => exact (by exact bB));(case aF => exact (fun _ _ => trivial));(case aO => exact (by exact rP HO_5.out));(case aS => exact (below_size (by exact bB)));(case aL => have := LMc6.out;omega);intro v260 w7 ho hb hg hat;rw [← Ny259.out] at ho;have n0_ := aM (hb);have n1_ := aM (ho);clear HB;clear HO_5;have HB := n0_;have HO261 := n1_;clear n0_ n1_;clear ho hb hg hat));try go_wp2_with (first | ((with_reducible refine gate_builtin (b := .append) (xs := #[.tmp 18, .tmp 19]) rfl ?_);at_builtin;refine Kd.R_append (Kd.int .i64) (w0 := w) w.heap.size rfl (.tmp 18) (.tmp 19) 36 3 (.int .i64 0) 8 rfl Tryd.underlying36 info3 rfl (by decide) (by omega) u5 x5_1 (-1) [.int .i64 (-1)] (fun _ => True) (fun _ => False) rfl rfl ?aP (fun _ hk => hk.elim) ?aF ?aO ?aB ?aS ?aL ?_;(case aP => exact rfl);(case aB => exact (by exact bB));(case aF => exact (fun _ _ => trivial));(case aO => exact (by exact rP HO_5.out));(case aS => exact (below_size (by exact bB)));(case aL => have := LMc6.out;omega);intro v260 w7 ho hb hg hat;rw [← Ny259.out] at ho;have n0_ := aM (hb);have n1_ := aM (ho);clear HB;clear HO_5;have HB := n0_;have HO261 := n1_;clear n0_ n1_;clear ho hb hg hat)))
    go_roundg k1
    case measure => have := HK1.out;omega
    case rel => exact ⟨(y259), (wrap64 (x6_1 + 1)), eF, H', ⟨by have := HK1.out;omega⟩, ⟨by exact rP HO261.out⟩, ⟨by exact bB⟩⟩
   rw [if_neg c5] at H
   have c5b0 : decide (x6_1 < (l0.length : Int)) = false := decide_eq_false c5
   clear c5
   have H' := Aside0.mk H
   clear H
   go_wp2
   repeat (go_quiet (fail);try go_wp2)
   go_loopg [5, 7] k1 (fun kq v5 v7 w' => ∃ (x5_2 : List Int) (x7_2 : Int), v7 = .int .i64 x7_2 ∧ Aside0 (spec_l10Resist.l1 kq l0 l1 x5_2 x7_2 = some r) ∧ Aside0 (kq ≤ k1) ∧ Aside0 (Kd.R (Kd.int .i64) 3 w' w.heap.size (fun _ => True) v5 x5_2) ∧ Aside0 (Below w.heap.size w w'))
   case atStart => exact ⟨(x5_1), (0), eF, H', ⟨Nat.le_refl _⟩, ⟨by exact rP HO_5.out⟩, ⟨by exact bB⟩⟩
   case round =>
    clear H'
    try clear c1
    try clear p2
    try clear c4
    try clear c5
    try clear c5b0
    try clear c6
    try clear p6
    try clear p2
    obtain ⟨x5_2, x7_2, rfl, HA, HK2, HO_5, HB⟩ := hrel
    cases gk with
    | zero => exact absurd HA.out (by simp [spec_l10Resist.l1])
    | succ k2 =>
     have H := HA.out
     clear HA
     simp only [spec_l10Resist.l1] at H
     replace H := Option.bind_eq_some_iff.mp H
     obtain ⟨t262, A80, H⟩ := H
     try dsimp only at H
     have A8 := Aside0.mk A80
     clear A80
     have H' := Aside0.mk H
     clear H
     obtain ⟨Ao9, co9, eo9⟩ := Kd.R_slice HO_5.out
     subst eo9
     go_wp2_with (first | (go_at_call 52;(with_reducible refine (spec_l1Own.calls _ _ x5_2 t262 _ ?side1 ?side2 A8.out).mono ?_);(case side1 => exact cP (Kd.R_reads' HO_5.out).2.2);(case side2 => exact (Kd.R_reads' HO_5.out).2.1);rintro e w10 ⟨v263, rfl, ho0, hb⟩;have n0_ := aM (Kd.R_elder' (by exact rP HO_5.out) (Kd.R_base ho0) hb);have n1_ := aM (Kd.R_lower (Kd.R_new' ho0 (Kd.R_lt (by exact rP HO_5.out))) (below_size (by exact bB)));have n2_ := aM (below_step (by exact bB) hb);clear HO_5;clear HB;have HO_5 := n0_;have HO264 := n1_;have HB := n2_;clear n0_ n1_ n2_;(try clear hb);(try clear ho0)))
     repeat (go_quiet (first | (go_at_call 52;(with_reducible refine (spec_l1Own.calls _ _ x5_2 t262 _ ?side1 ?side2 A8.out).mono ?_);(case side1 => exact cP (Kd.R_reads' HO_5.out).2.2);(case side2 => exact (Kd.R_reads' HO_5.out).2.1);rintro e w10 ⟨v263, rfl, ho0, hb⟩;have n0_ := aM (Kd.R_elder' (by exact rP HO_5.out) (Kd.R_base ho0) hb);have n1_ := aM (Kd.R_lower (Kd.R_new' ho0 (Kd.R_lt (by exact rP HO_5.out))) (below_size (by exact bB)));have n2_ := aM (below_step (by exact bB) hb);clear HO_5;clear HB;have HO_5 := n0_;have HO264 := n1_;have HB := n2_;clear n0_ n1_ n2_;(try clear hb);(try clear ho0)));try go_wp2_with (first | (go_at_call 52;(with_reducible refine (spec_l1Own.calls _ _ x5_2 t262 _ ?side1 ?side2 A8.out).mono ?_);(case side1 => exact cP (Kd.R_reads' HO_5.out).2.2);(case side2 => exact (Kd.R_reads' HO_5.out).2.1);rintro e w10 ⟨v263, rfl, ho0, hb⟩;have n0_ := aM (Kd.R_elder' (by exact rP HO_5.out) (Kd.R_base ho0) hb);have n1_ := aM (Kd.R_lower (Kd.R_new' ho0 (Kd.R_lt (by exact rP HO_5.out))) (below_size (by exact bB)));have n2_ := aM (below_step (by exact bB) hb);clear HO_5;clear HB;have HO_5 := n0_;have HO264 := n1_;have HB := n2_;clear n0_ n1_ n2_;(try clear hb);(try clear ho0))))
     go_loopg [9, 10] k2 (fun kq v9 v10 w' => ∃ (x8_3 : List Int) (x9_3 : Bool) (x10_3 : Int), v9 = .bool x9_3 ∧ v10 = .int .i64 x10_3 ∧ Aside0 (spec_l10Resist.l2 kq l0 l1 x5_2 x7_2 x8_3 x9_3 x10_3 = some r) ∧ Aside0 (kq ≤ k2) ∧ Aside0 (Kd.R (Kd.int .i64) 3 w' w.heap.size (fun k_ => some k_ ≠ (v263 : Value).ownBlock) (.slice Ao9 x5_2.length co9) x5_2) ∧ Aside0 (Kd.R (Kd.int .i64) 3 w' w.heap.size (fun k_ => some k_ ≠ ((.slice Ao9 x5_2.length co9) : Value).ownBlock) v263 x8_3) ∧ Aside0 (Below w.heap.size w w'))
     case atStart => exact ⟨(t262), (false), (0), eF, eF, H', ⟨Nat.le_refl _⟩, ⟨by refine rP ?_;exact Kd.R_mono HO_5.out (fun _ hk => hk.2)⟩, ⟨by refine rP ?_;exact Kd.R_mono HO264.out (fun _ hk => hk.2)⟩, ⟨by exact bB⟩⟩
     case round =>
      clear H'
      try clear c1
      try clear p2
      try clear c4
      try clear c5
      try clear c5b0
      try clear c6
      try clear p6
      try clear p2
      try clear p6
      obtain ⟨x8_3, x9_3, x10_3, rfl, rfl, HA, HK3, HO_5, HO_8, HB⟩ := hrel
      cases gk with
      | zero => exact absurd HA.out (by simp [spec_l10Resist.l2])
      | succ k3 =>
       have H := HA.out
       clear HA
       simp only [spec_l10Resist.l2] at H
       by_cases c11 : x10_3 < (l0.length : Int)
       rotate_left
       ·rw [if_neg c11] at H
        have c11b0 : decide (x10_3 < (l0.length : Int)) = false := decide_eq_false c11
        clear c11
        by_cases c22 : x9_3 = true
        rotate_left
        ·replace c22 := Bool.eq_false_iff.mpr c22
         subst c22
         rw [if_neg (show ¬ (false = true) by decide)] at H
         obtain rfl := Option.some.inj H
         go_wp2
         repeat (go_quiet (fail);try go_wp2)
         go_ret
         exact ⟨_, eW, by refine rP ?_;exact Kd.R_mono HO_8.out (fun _ hk => trivial), by exact bB⟩
        subst c22
        rw [if_pos rfl] at H
        have H' := Aside0.mk H
        clear H
        go_wp2
        repeat (go_quiet (fail);try go_wp2)
        go_roundg k3
        case measure => have := HK1.out;have := HK2.out;have := HK3.out;omega
        case rel => exact ⟨(x8_3), (wrap64 (x7_2 + 1)), eF, H', ⟨by have := HK1.out;have := HK2.out;have := HK3.out;omega⟩, ⟨by refine rP ?_;exact Kd.R_mono HO_8.out (fun _ hk => trivial)⟩, ⟨by exact bB⟩⟩
       rw [if_pos c11] at H
       have c11b0 : decide (x10_3 < (l0.length : Int)) = true := decide_eq_true c11
       clear c11
       by_cases c12 : 0 ≤ x10_3
       rotate_left
       ·rw [if_neg c12] at H
        exact absurd H (by simp)
       rw [if_pos c12] at H
       have c12b0 : decide (0 ≤ x10_3) = true := decide_eq_true c12
       clear c12
       by_cases c13 : x10_3 < (x5_2.length : Int)
       rotate_left
       ·rw [if_neg c13] at H
        exact absurd H (by simp)
       rw [if_pos c13] at H
       have c13b0 : decide (x10_3 < (x5_2.length : Int)) = true := decide_eq_true c13
       clear c13
       by_cases c14 : (rd x5_2 x10_3) < 0
       rotate_left
       ·rw [if_neg c14] at H
        have c14b0 : decide ((rd x5_2 x10_3) < 0) = false := decide_eq_false c14
        clear c14
        have H' := Aside0.mk H
        clear H
        have p265 : 0 ≤ (x10_3 : Int) := oA
        have q265 : x10_3 < (x5_2.length : Int) := oA
        obtain ⟨ad265, e265, hx265_0⟩ := Kd.at_int (Kd.R_reads' HO_5.out).2.2 x10_3 p265 q265
        cases e265
        replace p265 := eq_true p265
        replace q265 := eq_true q265
        go_wp2
        repeat (go_quiet (fail);try go_wp2)
        go_roundg k3
        case measure => have := HK1.out;have := HK2.out;have := HK3.out;omega
        case rel => exact ⟨(x8_3), (x9_3), (wrap64 (x10_3 + 1)), eF, eF, H', ⟨by have := HK1.out;have := HK2.out;have := HK3.out;omega⟩, ⟨by exact rP HO_5.out⟩, ⟨by exact rP HO_8.out⟩, ⟨by exact bB⟩⟩
       rw [if_pos c14] at H
       have c14b0 : decide ((rd x5_2 x10_3) < 0) = true := decide_eq_true c14
       clear c14
       by_cases c15 : x10_3 < (l1.length : Int)
       rotate_left
       ·rw [if_neg c15] at H
        exact absurd H (by simp)
       rw [if_pos c15] at H
       have c15b0 : decide (x10_3 < (l1.length : Int)) = true := decide_eq_true c15
       clear c15
       replace H := Option.bind_eq_some_iff.mp H
       obtain ⟨t268, A160, H⟩ := H
       try dsimp only at H
       have A16 := Aside0.mk A160
       clear A160
       by_cases c17 : t268 = true
       rotate_left
       ·replace c17 := Bool.eq_false_iff.mpr c17
        subst c17
        rw [if_neg (show ¬ (false = true) by decide)] at H
        have H' := Aside0.mk H
        clear H
        have p265 : 0 ≤ (x10_3 : Int) := oA
        have q265 : x10_3 < (x5_2.length : Int) := oA
        obtain ⟨ad265, e265, hx265_0⟩ := Kd.at_int (Kd.R_reads' HO_5.out).2.2 x10_3 p265 q265
        cases e265
        replace p265 := eq_true p265
        replace q265 := eq_true q265
        have p266 : 0 ≤ (x10_3 : Int) := oA
        have q266 : x10_3 < (l0.length : Int) := oA
        obtain ⟨ad266, A266_0, c266_0, e266, hx266_0, hl266_0, hi266_0⟩ := at_L2 HR0.out x10_3 p266 q266
        cases e266
        replace hx266_0 := (HB.out.cell (World.block_lt_of_cell? w _ hx266_0)).trans hx266_0
        have HR266_0 := Aside0.mk hi266_0
        have HC266_0 := Aside0.mk hl266_0
        clear hi266_0 hl266_0
        replace p266 := eq_true p266
        replace q266 := eq_true q266
        have p267 : 0 ≤ (x10_3 : Int) := oA
        have q267 : x10_3 < (l1.length : Int) := oA
        obtain ⟨ad267, A267_0, c267_0, e267, hx267_0, hl267_0, hi267_0⟩ := at_L3 HR1.out x10_3 p267 q267
        cases e267
        replace hx267_0 := (HB.out.cell (World.block_lt_of_cell? w _ hx267_0)).trans hx267_0
        have HR267_0 := Aside0.mk hi267_0
        have HC267_0 := Aside0.mk hl267_0
        clear hi267_0 hl267_0
        replace p267 := eq_true p267
        replace q267 := eq_true q267
        go_wp2_with (first | (go_at_call 73;(with_reducible refine (spec_l10Falls.calls k3 _ _ (rd_L2 l0 x10_3) _ _ (rd_L3 l1 x10_3) _ _ x5_2 false _ ?side1 ?side2 ?side3 ?side4 ?side5 ?side6 A16.out).mono ?_);(case side1 => exact cP (Kd.C_below HR266_0.out HB.out));(case side2 => exact HC266_0.out);(case side3 => exact cP (Kd.C_below HR267_0.out HB.out));(case side4 => exact HC267_0.out);(case side5 => exact cP (Kd.R_reads' HO_5.out).2.2);(case side6 => exact (Kd.R_reads' HO_5.out).2.1);rintro e w' ⟨rfl, ⟨nd, rfl⟩⟩;(try first | exact ⟨rfl, _, World.drewN_drewN _ _ _⟩ | exact ⟨rfl, _, Eq.trans (World.drewN_drewN _ _ _) (congrArg (World.drewN _) (Nat.add_assoc _ _ _))⟩)))
        repeat (go_quiet (first | (go_at_call 73;(with_reducible refine (spec_l10Falls.calls k3 _ _ (rd_L2 l0 x10_3) _ _ (rd_L3 l1 x10_3) _ _ x5_2 false _ ?side1 ?side2 ?side3 ?side4 ?side5 ?side6 A16.out).mono ?_);(case side1 => exact cP (Kd.C_below HR266_0.out HB.out));(case side2 => exact HC266_0.out);(case side3 => exact cP (Kd.C_below HR267_0.out HB.out));(case side4 => exact HC267_0.out);(case side5 => exact cP (Kd.R_reads' HO_5.out).2.2);(case side6 => exact (Kd.R_reads' HO_5.out).2.1);rintro e w' ⟨rfl, ⟨nd, rfl⟩⟩;(try first | exact ⟨rfl, _, World.drewN_drewN _ _ _⟩ | exact ⟨rfl, _, Eq.trans (World.drewN_drewN _ _ _) (congrArg (World.drewN _) (Nat.add_assoc _ _ _))⟩)));try go_wp2_with (first | (go_at_call 73;(with_reducible refine (spec_l10Falls.calls k3 _ _ (rd_L2 l0 x10_3) _ _ (rd_L3 l1 x10_3) _ _ x5_2 false _ ?side1 ?side2 ?side3 ?side4 ?side5 ?side6 A16.out).mono ?_);(case side1 => exact cP (Kd.C_below HR266_0.out HB.out));(case side2 => exact HC266_0.out);(case side3 => exact cP (Kd.C_below HR267_0.out HB.out));(case side4 => exact HC267_0.out);(case side5 => exact cP (Kd.R_reads' HO_5.out).2.2);(case side6 => exact (Kd.R_reads' HO_5.out).2.1);rintro e w' ⟨rfl, ⟨nd, rfl⟩⟩;(try first | exact ⟨rfl, _, World.drewN_drewN _ _ _⟩ | exact ⟨rfl, _, Eq.trans (World.drewN_drewN _ _ _) (congrArg (World.drewN _) (Nat.add_assoc _ _ _))⟩))))
        go_roundg k3
        case measure => have := HK1.out;have := HK2.out;have := HK3.out;omega
        case rel => exact ⟨(x8_3), (x9_3), (wrap64 (x10_3 + 1)), eF, eF, H', ⟨by have := HK1.out;have := HK2.out;have := HK3.out;omega⟩, ⟨by exact rP HO_5.out⟩, ⟨by exact rP HO_8.out⟩, ⟨by exact bB⟩⟩
       subst c17
       rw [if_pos rfl] at H
       by_cases c18 : x10_3 < (x8_3.length : Int)
       rotate_left
       ·rw [if_neg c18] at H
        exact absurd H (by simp)
       rw [if_pos c18] at H
       have c18b0 : decide (x10_3 < (x8_3.length : Int)) = true := decide_eq_true c18
       clear c18
       obtain ⟨y269, hy269⟩ : ∃ y_ : List Int, y_ = (x8_3.set (x10_3 : Int).toNat x7_2) := ⟨_, rfl⟩
       replace H : (spec_l10Resist.l2 k3 l0 l1 x5_2 x7_2 y269 true (wrap64 (x10_3 + 1))) = some r := by first | (rw [hy269];with_reducible exact H) | (have H2_ := (Option.bind_some _ _).symm.trans H;rw [hy269];with_reducible exact H2_) | (have H2_ := (Option.bind_some _ _).symm.trans H;with_reducible exact H2_) | with_reducible exact H | (rw [hy269];exact H) | exact H
       have Ny269 := Aside0.mk hy269
       clear hy269
       have H' := Aside0.mk H
       clear H
       have p265 : 0 ≤ (x10_3 : Int) := oA
       have q265 : x10_3 < (x5_2.length : Int) := oA
       obtain ⟨ad265, e265, hx265_0⟩ := Kd.at_int (Kd.R_reads' HO_5.out).2.2 x10_3 p265 q265
       cases e265
       replace p265 := eq_true p265
       replace q265 := eq_true q265
       have p266 : 0 ≤ (x10_3 : Int) := oA
       have q266 : x10_3 < (l0.length : Int) := oA
       obtain ⟨ad266, A266_0, c266_0, e266, hx266_0, hl266_0, hi266_0⟩ := at_L2 HR0.out x10_3 p266 q266
       cases e266
       replace hx266_0 := (HB.out.cell (World.block_lt_of_cell? w _ hx266_0)).trans hx266_0
       have HR266_0 := Aside0.mk hi266_0
       have HC266_0 := Aside0.mk hl266_0
       clear hi266_0 hl266_0
       replace p266 := eq_true p266
       replace q266 := eq_true q266
       have p267 : 0 ≤ (x10_3 : Int) := oA
       have q267 : x10_3 < (l1.length : Int) := oA
       obtain ⟨ad267, A267_0, c267_0, e267, hx267_0, hl267_0, hi267_0⟩ := at_L3 HR1.out x10_3 p267 q267
       cases e267
       replace hx267_0 := (HB.out.cell (World.block_lt_of_cell? w _ hx267_0)).trans hx267_0
       have HR267_0 := Aside0.mk hi267_0
       have HC267_0 := Aside0.mk hl267_0
       clear hi267_0 hl267_0
       replace p267 := eq_true p267
       replace q267 := eq_true q267
       go_wp2_with (first | (go_at_call 73;(with_reducible refine (spec_l10Falls.calls k3 _ _ (rd_L2 l0 x10_3) _ _ (rd_L3 l1 x10_3) _ _ x5_2 true _ ?side1 ?side2 ?side3 ?side4 ?side5 ?side6 A16.out).mono ?_);(case side1 => exact cP (Kd.C_below HR266_0.out HB.out));(case side2 => exact HC266_0.out);(case side3 => exact cP (Kd.C_below HR267_0.out HB.out));(case side4 => exact HC267_0.out);(case side5 => exact cP (Kd.R_reads' HO_5.out).2.2);(case side6 => exact (Kd.R_reads' HO_5.out).2.1);rintro e w' ⟨rfl, ⟨nd, rfl⟩⟩;(try first | exact ⟨rfl, _, World.drewN_drewN _ _ _⟩ | exact ⟨rfl, _, Eq.trans (World.drewN_drewN _ _ _) (congrArg (World.drewN _) (Nat.add_assoc _ _ _))⟩);have p19 : 0 ≤ (x10_3 : Int) := oA;have q19 : (x10_3 : Int) < ((x8_3.length : Int) : Int) := oA;obtain ⟨go19, co19, eo19, gb19, gl19, cl19, HG19⟩ := Kd.R_form HO_8.out (by omega);(first | cases eo19 | (injection eo19 with ea_ en_ ec_;(first | subst ea_ | (injection ea_ with ea_;subst ea_));subst ec_;clear en_));have GB19 := Aside0.mk gb19;have GG19 := Aside0.mk HG19;clear gb19 gl19 HG19;obtain ⟨hx19_0, hf19_0⟩ := Kd.R_celln 0 HO_8.out (x10_3 : Int) p19 q19;replace p19 := eq_true p19;replace q19 := eq_true q19;obtain ⟨hy20_, hz20_⟩ := Kd.R_celln 0 HO_8.out (x10_3 : Int) (oA) (oA);have HP20 := Kd.R_putg HO_8.out (x10_3 : Int) x7_2) | ((with_reducible refine gate_store (t := 3) (p := 51) rfl ?_);(try (rw [drewN_self wr];generalize hq_ : World.drewN wr _ = wr;have n0_ := aM (Kd.R_at hq_ HO_5.out);have n1_ := aM (Kd.R_at hq_ HO_8.out);have n2_ := aM (below_at hq_ HB.out);clear hq_ HO_5 HO_8 HB;have HO_5 := n0_;have HO_8 := n1_;have HB := n2_;clear n0_ n1_ n2_;(try (obtain ⟨hy20_, hz20_⟩ := Kd.R_celln 0 HO_8.out (x10_3 : Int) (oA) (oA)));(try (have HP20 := Kd.R_putg HO_8.out (x10_3 : Int) x7_2))));refine store_event (t := 3) (p := 51) (v := ?vo_w21) (w1 := (wr.setCell ⟨go19, (x10_3 : Int).toNat, none⟩ (.int .i64 x7_2))) ?hg ?ho ?hn ?hr ?_;(case ho => rfl);(case hg => rfl);(case hn => rfl);(case hr => exact gS);intro w21 hw;have hg : wr.grownBy w21 (some go19) := (by rw [hw];exact HP20.2);have hp_ : Kd.R (Kd.int .i64) 3 w21 w.heap.size (fun k_ => some k_ ≠ (.slice (some ad265) x5_2.length co9 : Value).ownBlock) (.slice (some ⟨go19, 0, none⟩) x8_3.length co19) y269 := (by rw [hw, Ny269.out];exact HP20.1);clear HP20;have n0_ := aM (Kd.R_after (v := (.slice (some ⟨go19, 0, none⟩) x8_3.length co19)) (v1 := (.slice (some ⟨go19, 0, none⟩) x8_3.length co19)) (ok := (fun _ => True)) (by exact rP (Kd.R_mono HO_5.out (fun _ hk => ⟨trivial, hk⟩))) hg (.inl rfl));have n1_ := aM (hp_);have n2_ := aM ((by rw [hw];exact below_set (HB.out) GB19.out : Below w.heap.size w w21));clear HO_5;clear HO_8;clear HB;have HO_5 := n0_;have HO_8 := n1_;have HB := n2_;clear n0_ n1_ n2_;clear hg hw hp_))
       repeat (go_quiet (first | (go_at_call 73;(with_reducible refine (spec_l10Falls.calls k3 _ _ (rd_L2 l0 x10_3) _ _ (rd_L3 l1 x10_3) _ _ x5_2 true _ ?side1 ?side2 ?side3 ?side4 ?side5 ?side6 A16.out).mono ?_);(case side1 => exact cP (Kd.C_below HR266_0.out HB.out));(case side2 => exact HC266_0.out);(case side3 => exact cP (Kd.C_below HR267_0.out HB.out));(case side4 => exact HC267_0.out);(case side5 => exact cP (Kd.R_reads' HO_5.out).2.2);(case side6 => exact (Kd.R_reads' HO_5.out).2.1);rintro e w' ⟨rfl, ⟨nd, rfl⟩⟩;(try first | exact ⟨rfl, _, World.drewN_drewN _ _ _⟩ | exact ⟨rfl, _, Eq.trans (World.drewN_drewN _ _ _) (congrArg (World.drewN _) (Nat.add_assoc _ _ _))⟩);have p19 : 0 ≤ (x10_3 : Int) := oA;have q19 : (x10_3 : Int) < ((x8_3.length : Int) : Int) := oA;obtain ⟨go19, co19, eo19, gb19, gl19, cl19, HG19⟩ := Kd.R_form HO_8.out (by omega);(first | cases eo19 | (injection eo19 with ea_ en_ ec_;(first | subst ea_ | (injection ea_ with ea_;subst ea_));subst ec_;clear en_));have GB19 := Aside0.mk gb19;have GG19 := Aside0.mk HG19;clear gb19 gl19 HG19;obtain ⟨hx19_0, hf19_0⟩ := Kd.R_celln 0 HO_8.out (x10_3 : Int) p19 q19;replace p19 := eq_true p19;replace q19 := eq_true q19;obtain ⟨hy20_, hz20_⟩ := Kd.R_celln 0 HO_8.out (x10_3 : Int) (oA) (oA);have HP20 := Kd.R_putg HO_8.out (x10_3 : Int) x7_2) | ((with_reducible refine gate_store (t := 3) (p := 51) rfl ?_);(try (rw [drewN_self wr];generalize hq_ : World.drewN wr _ = wr;have n0_ := aM (Kd.R_at hq_ HO_5.out);have n1_ := aM (Kd.R_at hq_ HO_8.out);have n2_ := aM (below_at hq_ HB.out);clear hq_ HO_5 HO_8 HB;have HO_5 := n0_;have HO_8 := n1_;have HB := n2_;clear n0_ n1_ n2_;(try (obtain ⟨hy20_, hz20_⟩ := Kd.R_celln 0 HO_8.out (x10_3 : Int) (oA) (oA)));(try (have HP20 := Kd.R_putg HO_8.out (x10_3 : Int) x7_2))));refine store_event (t := 3) (p := 51) (v := ?vo_w21) (w1 := (wr.setCell ⟨go19, (x10_3 : Int).toNat, none⟩ (.int .i64 x7_2))) ?hg ?ho ?hn ?hr ?_;(case ho => rfl);(case hg => rfl);(case hn => rfl);(case hr => exact gS);intro w21 hw;have hg : wr.grownBy w21 (some go19) := (by rw [hw];exact HP20.2);have hp_ : Kd.R (Kd.int .i64) 3 w21 w.heap.size (fun k_ => some k_ ≠ (.slice (some ad265) x5_2.length co9 : Value).ownBlock) (.slice (some ⟨go19, 0, none⟩) x8_3.length co19) y269 := (by rw [hw, Ny269.out];exact HP20.1);clear HP20;have n0_ := aM (Kd.R_after (v := (.slice (some ⟨go19, 0, none⟩) x8_3.length co19)) (v1 := (.slice (some ⟨go19, 0, none⟩) x8_3.length co19)) (ok := (fun _ => True)) (by exact rP (Kd.R_mono HO_5.out (fun _ hk => ⟨trivial, hk⟩))) hg (.inl rfl));have n1_ := aM (hp_);have n2_ := aM ((by rw [hw];exact below_set (HB.out) GB19.out : Below w.heap.size w w21));clear HO_5;clear HO_8;clear HB;have HO_5 := n0_;have HO_8 := n1_;have HB := n2_;clear n0_ n1_ n2_;clear hg hw hp_));try go_wp2_with (first | (go_at_call 73;(with_reducible refine (spec_l10Falls.calls k3 _ _ (rd_L2 l0 x10_3) _ _ (rd_L3 l1 x10_3) _ _ x5_2 true _ ?side1 ?side2 ?side3 ?side4 ?side5 ?side6 A16.out).mono ?_);(case side1 => exact cP (Kd.C_below HR266_0.out HB.out));(case side2 => exact HC266_0.out);(case side3 => exact cP (Kd.C_below HR267_0.out HB.out));(case side4 => exact HC267_0.out);(case side5 => exact cP (Kd.R_reads' HO_5.out).2.2);(case side6 => exact (Kd.R_reads' HO_5.out).2.1);rintro e w' ⟨rfl, ⟨nd, rfl⟩⟩;(try first | exact ⟨rfl, _, World.drewN_drewN _ _ _⟩ | exact ⟨rfl, _, Eq.trans (World.drewN_drewN _ _ _) (congrArg (World.drewN _) (Nat.add_assoc _ _ _))⟩);have p19 : 0 ≤ (x10_3 : Int) := oA;have q19 : (x10_3 : Int) < ((x8_3.length : Int) : Int) := oA;obtain ⟨go19, co19, eo19, gb19, gl19, cl19, HG19⟩ := Kd.R_form HO_8.out (by omega);(first | cases eo19 | (injection eo19 with ea_ en_ ec_;(first | subst ea_ | (injection ea_ with ea_;subst ea_));subst ec_;clear en_));have GB19 := Aside0.mk gb19;have GG19 := Aside0.mk HG19;clear gb19 gl19 HG19;obtain ⟨hx19_0, hf19_0⟩ := Kd.R_celln 0 HO_8.out (x10_3 : Int) p19 q19;replace p19 := eq_true p19;replace q19 := eq_true q19;obtain ⟨hy20_, hz20_⟩ := Kd.R_celln 0 HO_8.out (x10_3 : Int) (oA) (oA);have HP20 := Kd.R_putg HO_8.out (x10_3 : Int) x7_2) | ((with_reducible refine gate_store (t := 3) (p := 51) rfl ?_);(try (rw [drewN_self wr];generalize hq_ : World.drewN wr _ = wr;have n0_ := aM (Kd.R_at hq_ HO_5.out);have n1_ := aM (Kd.R_at hq_ HO_8.out);have n2_ := aM (below_at hq_ HB.out);clear hq_ HO_5 HO_8 HB;have HO_5 := n0_;have HO_8 := n1_;have HB := n2_;clear n0_ n1_ n2_;(try (obtain ⟨hy20_, hz20_⟩ := Kd.R_celln 0 HO_8.out (x10_3 : Int) (oA) (oA)));(try (have HP20 := Kd.R_putg HO_8.out (x10_3 : Int) x7_2))));refine store_event (t := 3) (p := 51) (v := ?vo_w21) (w1 := (wr.setCell ⟨go19, (x10_3 : Int).toNat, none⟩ (.int .i64 x7_2))) ?hg ?ho ?hn ?hr ?_;(case ho => rfl);(case hg => rfl);(case hn => rfl);(case hr => exact gS);intro w21 hw;have hg : wr.grownBy w21 (some go19) := (by rw [hw];exact HP20.2);have hp_ : Kd.R (Kd.int .i64) 3 w21 w.heap.size (fun k_ => some k_ ≠ (.slice (some ad265) x5_2.length co9 : Value).ownBlock) (.slice (some ⟨go19, 0, none⟩) x8_3.length co19) y269 := (by rw [hw, Ny269.out];exact HP20.1);clear HP20;have n0_ := aM (Kd.R_after (v := (.slice (some ⟨go19, 0, none⟩) x8_3.length co19)) (v1 := (.slice (some ⟨go19, 0, none⟩) x8_3.length co19)) (ok := (fun _ => True)) (by exact rP (Kd.R_mono HO_5.out (fun _ hk => ⟨trivial, hk⟩))) hg (.inl rfl));have n1_ := aM (hp_);have n2_ := aM ((by rw [hw];exact below_set (HB.out) GB19.out : Below w.heap.size w w21));clear HO_5;clear HO_8;clear HB;have HO_5 := n0_;have HO_8 := n1_;have HB := n2_;clear n0_ n1_ n2_;clear hg hw hp_)))
       go_roundg k3
       case measure => have := HK1.out;have := HK2.out;have := HK3.out;omega
       case rel => exact ⟨(y269), (true), (wrap64 (x10_3 + 1)), eF, eF, H', ⟨by have := HK1.out;have := HK2.out;have := HK3.out;omega⟩, ⟨by refine rP ?_;exact Kd.R_mono HO_5.out (fun _ hk => hk.2)⟩, ⟨by exact rP HO_8.out⟩, ⟨by exact bB⟩⟩


/-! ### spec_l10Known: function 57 -/
def spec_l10Known.f (k : Nat) (a0_0 : Int) (l0_1 : List (S78)) (a1 : Int) (a2 : Bool) : Option (List Int) := (spec_l10Sets.f k a0_0 l0_1 a1).bind fun t271 => ((spec_l10Table.f k a0_0 l0_1 t271 a2).bind fun t274 => ((spec_l10Resist.f k t271 t274).bind fun t277 => (some t277)))
theorem spec_l10Known.mono : ∀ a0 a1 a2 a3 k, LeO (spec_l10Known.f k a0 a1 a2 a3) (spec_l10Known.f (k + 1) a0 a1 a2 a3) := by
 intro a0 a1 a2 a3 k
 unfold spec_l10Known.f
 have q0 := spec_l10Resist.mono
 have q1 := spec_l10Sets.mono
 have q2 := spec_l10Table.mono
 exact lM
theorem spec_l10Known.calls (k : Nat) (a0_0 : Int) (A0_1 : Option Addr) (c0_1 : Nat) (l0_1 : List (S78)) (a1 : Int) (a2 : Bool) (r : List Int) (w : World) (hr0_1 : Kd.C k78 w A0_1 l0_1.length l0_1) (hc0_1 : l0_1.length ≤ c0_1) (h : spec_l10Known.f k a0_0 l0_1 a1 a2 = some r) :
  Calls Tryd.prog 57 #[.agg #[.int .i64 a0_0, .slice A0_1 l0_1.length c0_1], .int .i64 a1, .bool a2] w fun e w' => ∃ v0_ : Value, e = .returned (v0_) ∧ Kd.R (Kd.int .i64) 3 w' w.heap.size (fun _ => True) v0_ r ∧ Below w.heap.size w w' := by
 have hu29 := Tryd.underlying29
 have HR0_1 := Aside0.mk hr0_1
 have HC0_1 := Aside0.mk hc0_1
 clear hr0_1 hc0_1
 have HB := aM (Below.refl w.heap.size w)
 have H : ((spec_l10Sets.f k a0_0 l0_1 a1).bind fun t271 => ((spec_l10Table.f k a0_0 l0_1 t271 a2).bind fun t274 => ((spec_l10Resist.f k t271 t274).bind fun t277 => (some t277)))) = some r := h
 clear h
 replace H := Option.bind_eq_some_iff.mp H
 obtain ⟨t271, A40, H⟩ := H
 try dsimp only at H
 have A4 := Aside0.mk A40
 clear A40
 replace H := Option.bind_eq_some_iff.mp H
 obtain ⟨t274, A50, H⟩ := H
 try dsimp only at H
 have A5 := Aside0.mk A50
 clear A50
 replace H := Option.bind_eq_some_iff.mp H
 obtain ⟨t277, A60, H⟩ := H
 try dsimp only at H
 have A6 := Aside0.mk A60
 clear A60
 obtain rfl := Option.some.inj H
 go_enter Tryd.func57, Tryd.ntmps57
 go_wp2_with (first | ((with_reducible refine gate_dst (N := 3) rfl ?_);refine box_event ?hg (N := 3) ?hd (cs := #[.int .i64 a0_0, .slice A0_1 l0_1.length c0_1]) (t := 29) ?hr ?_;(case hd => rfl);(case hg => rfl);(case hr => exact gS);intro gb270 hg w7 hbox hb;have n0_ := aM (below_step (by exact bB) hb);have n1_ := aM (hbox);have n2_ := aM (sW hg : w.heap.size ≤ gb270);have n3_ := aM (sW hg : w.heap.size ≤ gb270);clear HB;have HB := n0_;have BK270 := n1_;have GW270 := n2_;have GE270 := n3_;clear n0_ n1_ n2_ n3_;clear hb hbox hg;have hcz8_0 := bC0 BK270.out;have hcz8_1 := bC1 BK270.out;have hfz8_0 := blk_frozen BK270.out 0;have hfz8_1 := blk_frozen BK270.out 1) | ((with_reducible refine gate_callee (f := 39) rfl ?_);refine goesL_ (some 10) rfl rfl Tryd.func39 (by kernel_rfl) rfl #[.agg #[.int .i64 a0_0, .slice A0_1 l0_1.length c0_1], .int .i64 a1] rfl mM ?_;(with_reducible refine (spec_l10Sets.calls k a0_0 _ _ l0_1 a1 t271 _ ?side1 ?side2 A4.out).mono ?_);(case side1 => exact cP (Kd.C_below HR0_1.out HB.out));(case side2 => exact HC0_1.out);rintro e w9 ⟨v272, rfl, ho0, hb⟩;refine ⟨_, rfl, ?_⟩;have n0_ := aM (Kd.N_lower (Kd.N_mono (ok' := fun k_ => k_ ≠ gb270) ho0 (fun k_ hk_ => (Kd.freshB (g := gb270) (o := .cells #[.int .i64 a0_0, .slice A0_1 l0_1.length c0_1] 29 (0, 0)) (by exact kP BK270.out) k_ hk_))) (below_size (by exact bB)));have n1_ := aM (kB hb BK270.out);have n2_ := aM (below_step (by exact bB) hb);clear BK270;clear HB;have HO273 := n0_;have BK270 := n1_;have HB := n2_;clear n0_ n1_ n2_;(try clear hb);(try clear ho0);have hcz10_0 := bC0 BK270.out;have hcz10_1 := bC1 BK270.out;have hfz10_0 := blk_frozen BK270.out 0;have hfz10_1 := blk_frozen BK270.out 1;obtain ⟨Ao11, co11, eo11⟩ := Kd.N_slice HO273.out;subst eo11) | ((with_reducible refine gate_callee (f := 40) rfl ?_);refine goesL_ (some 15) rfl rfl Tryd.func40 (by kernel_rfl) rfl #[.agg #[.int .i64 a0_0, .slice A0_1 l0_1.length c0_1], .slice Ao11 t271.length co11, .bool a2] rfl mM ?_;(with_reducible refine (spec_l10Table.calls k a0_0 _ _ l0_1 _ _ t271 a2 t274 _ ?side1 ?side2 ?side3 ?side4 A5.out).mono ?_);(case side1 => exact cP (Kd.C_below HR0_1.out HB.out));(case side2 => exact HC0_1.out);(case side3 => exact cP (Kd.N_reads' HO273.out).2.2);(case side4 => exact (Kd.N_reads' HO273.out).2.1);rintro e w12 ⟨v275, rfl, ho0, hb⟩;refine ⟨_, rfl, ?_⟩;have n0_ := aM (Kd.N_elder' (by exact uP HO273.out) (Kd.R_base ho0) hb);have n1_ := aM (Kd.N_lower (Kd.N_mono (ok' := fun k_ => some k_ ≠ (.slice Ao11 t271.length co11 : Value).ownBlock ∧ k_ ≠ gb270) (Kd.R_N (Kd.R_bound ho0)) (fun k_ hk_ => ⟨(Kd.fresh' (Kd.N_lt (by exact uP HO273.out)) k_ hk_.2.1), (Kd.freshB (g := gb270) (o := .cells #[.int .i64 a0_0, .slice A0_1 l0_1.length c0_1] 29 (0, 0)) (by exact kP BK270.out) k_ hk_.2.1)⟩)) (below_size (by exact bB)));have n2_ := aM (kB hb BK270.out);have n3_ := aM (below_step (by exact bB) hb);clear HO273;clear BK270;clear HB;have HO273 := n0_;have HO276 := n1_;have BK270 := n2_;have HB := n3_;clear n0_ n1_ n2_ n3_;(try clear hb);(try clear ho0);obtain ⟨Ao13, co13, eo13⟩ := Kd.N_slice HO276.out;subst eo13) | ((with_reducible refine gate_callee (f := 41) rfl ?_);refine goesL_ (some 16) rfl rfl Tryd.func41 (by kernel_rfl) rfl #[.slice Ao11 t271.length co11, .slice Ao13 t274.length co13] rfl mM ?_;(with_reducible refine (spec_l10Resist.calls k _ _ t271 _ _ t274 t277 _ ?side1 ?side2 ?side3 ?side4 A6.out).mono ?_);(case side1 => exact cP (Kd.N_reads' HO273.out).2.2);(case side2 => exact (Kd.N_reads' HO273.out).2.1);(case side3 => exact cP (Kd.N_reads' HO276.out).2.2);(case side4 => exact (Kd.N_reads' HO276.out).2.1);rintro e w14 ⟨v278, rfl, ho0, hb⟩;refine ⟨_, rfl, ?_⟩;have n0_ := aM (Kd.N_elder' (by exact uP HO273.out) (Kd.R_base ho0) hb);have n1_ := aM (Kd.N_elder' (by exact uP HO276.out) (Kd.R_base ho0) hb);have n2_ := aM (Kd.R_lower ho0 (below_size (by exact bB)));have n3_ := aM (kB hb BK270.out);have n4_ := aM (below_step (by exact bB) hb);clear HO273;clear HO276;clear BK270;clear HB;have HO273 := n0_;have HO276 := n1_;have HO279 := n2_;have BK270 := n3_;have HB := n4_;clear n0_ n1_ n2_ n3_ n4_;(try clear hb);(try clear ho0)))
 go_ret
 exact ⟨_, eW, by exact rP HO279.out, by exact bB⟩


end Go.Proofs.YtgahlimikndecaaDoor.QEternalFamily
