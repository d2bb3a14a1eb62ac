import Derived.Test.YthbjajppdomhhaaDoorQEternalNumber0
import Derived.Test.YthbjajppdomhhaaDoorQEternalNumber4
namespace Go.Proofs.YthbjajppdomhhaaDoor.QEternalNumber
open Go.RowKit Go.Proofs.YthbjajppdomhhaaDoorW.PrintWords Go.Proofs.YthbjajppdomhhaaDoorW.PrintLast Go.Proofs.YthbjajppdomhhaaDoorW.PrintMore
attribute [local go_sem] max2_int min2_int max_two min_two max_three min_three max_four min_four   -- for this text's walks alone
set_option linter.unusedVariables false
set_option linter.unusedSimpArgs false
/-! ### spec_l10Resist: function 117 -/
mutual
def spec_l10Resist.l0 : Nat → List (List Int) → List (List (List Int)) → List Int → Int → Option (List Int)
 | 0, _, _, _, _ => none
 | k + 1, x0, x1, x5, x6 => if x6 < (x0.length : Int) then (if x5.length < 17592186044416 then (spec_l10Resist.l0 k x0 x1 (x5 ++ [(-1)]) (wrap64 (x6 + 1))) else (none)) else (spec_l10Resist.l1 k x0 x1 x5 0)
def spec_l10Resist.l1 : Nat → List (List Int) → List (List (List Int)) → List Int → Int → Option (List Int)
 | 0, _, _, _, _ => none
 | k + 1, x0, x1, x5, x7 => (spec_l1Own.f x5).bind fun t192 => (spec_l10Resist.l2 k x0 x1 x5 x7 t192 false 0)
def spec_l10Resist.l2 : Nat → List (List Int) → List (List (List Int)) → List Int → Int → List Int → Bool → Int → Option (List Int)
 | 0, _, _, _, _, _, _, _ => none
 | k + 1, x0, x1, x5, x7, x8, x9, x10 => if x10 < (x0.length : Int) then (if 0 ≤ x10 then (if x10 < (x5.length : Int) then (if (rd x5 x10) < 0 then (if x10 < (x1.length : Int) then ((spec_l10Falls.f k (rd_L2 x0 x10) (rd_L3 x1 x10) x5).bind fun t198 => (if t198 = true then (if x10 < (x8.length : Int) then (spec_l10Resist.l2 k x0 x1 x5 x7 (x8.set (x10 : Int).toNat x7) true (wrap64 (x10 + 1))) else (none)) else (spec_l10Resist.l2 k x0 x1 x5 x7 x8 x9 (wrap64 (x10 + 1))))) else (none)) else (spec_l10Resist.l2 k x0 x1 x5 x7 x8 x9 (wrap64 (x10 + 1)))) else (none)) else (none)) else (if x9 = true then (spec_l10Resist.l1 k x0 x1 x8 (wrap64 (x7 + 1))) else (some x8))
end
def spec_l10Resist.f (k : Nat) (l0 : List (List Int)) (l1 : List (List (List Int))) : Option (List Int) := spec_l10Resist.l0 k l0 l1 (([] : List Int)) 0
theorem spec_l10Resist.mono_l : ∀ k, (∀ y0 y1 y2 y3, LeO (spec_l10Resist.l0 k y0 y1 y2 y3) (spec_l10Resist.l0 (k + 1) y0 y1 y2 y3)) ∧ (∀ y0 y1 y2 y3, LeO (spec_l10Resist.l1 k y0 y1 y2 y3) (spec_l10Resist.l1 (k + 1) y0 y1 y2 y3)) ∧ (∀ y0 y1 y2 y3 y4 y5 y6, LeO (spec_l10Resist.l2 k y0 y1 y2 y3 y4 y5 y6) (spec_l10Resist.l2 (k + 1) y0 y1 y2 y3 y4 y5 y6))
 | 0 => ⟨fun _ _ _ _ r h => by simp [spec_l10Resist.l0] at h, fun _ _ _ _ r h => by simp [spec_l10Resist.l1] at h, fun _ _ _ _ _ _ _ r h => by simp [spec_l10Resist.l2] at h⟩
 | k + 1 => by
  obtain ⟨ih0, ih1, ih2⟩ := spec_l10Resist.mono_l k
  refine ⟨?_, ?_, ?_⟩
  ·intro y0 y1 y2 y3
   unfold spec_l10Resist.l0
   repeat' first
   | (with_reducible exact ih0 _ _ _ _)
   | (with_reducible exact ih1 _ _ _ _)
   | (with_reducible exact ih2 _ _ _ _ _ _ _)
   | (with_reducible exact spec_l10Falls.mono _ _ _ _)
   | (with_reducible exact LeO.refl _)
   | (with_reducible exact LeO.none _)
   | (with_reducible refine LeO.ite ?_ ?_)
   | (with_reducible refine LeO.bind ?_ (fun _ => ?_))
   | exact ih0 _ _ _ _
   | exact ih1 _ _ _ _
   | exact ih2 _ _ _ _ _ _ _
   | exact spec_l10Falls.mono _ _ _ _
   | exact LeO.none _
   | refine LeO.ite ?_ ?_
   | refine LeO.bind ?_ (fun _ => ?_)
  ·intro y0 y1 y2 y3
   unfold spec_l10Resist.l1
   repeat' first
   | (with_reducible exact ih0 _ _ _ _)
   | (with_reducible exact ih1 _ _ _ _)
   | (with_reducible exact ih2 _ _ _ _ _ _ _)
   | (with_reducible exact spec_l10Falls.mono _ _ _ _)
   | (with_reducible exact LeO.refl _)
   | (with_reducible exact LeO.none _)
   | (with_reducible refine LeO.ite ?_ ?_)
   | (with_reducible refine LeO.bind ?_ (fun _ => ?_))
   | exact ih0 _ _ _ _
   | exact ih1 _ _ _ _
   | exact ih2 _ _ _ _ _ _ _
   | exact spec_l10Falls.mono _ _ _ _
   | exact LeO.none _
   | refine LeO.ite ?_ ?_
   | refine LeO.bind ?_ (fun _ => ?_)
  ·intro y0 y1 y2 y3 y4 y5 y6
   unfold spec_l10Resist.l2
   repeat' first
   | (with_reducible exact ih0 _ _ _ _)
   | (with_reducible exact ih1 _ _ _ _)
   | (with_reducible exact ih2 _ _ _ _ _ _ _)
   | (with_reducible exact spec_l10Falls.mono _ _ _ _)
   | (with_reducible exact LeO.refl _)
   | (with_reducible exact LeO.none _)
   | (with_reducible refine LeO.ite ?_ ?_)
   | (with_reducible refine LeO.bind ?_ (fun _ => ?_))
   | exact ih0 _ _ _ _
   | exact ih1 _ _ _ _
   | exact ih2 _ _ _ _ _ _ _
   | exact spec_l10Falls.mono _ _ _ _
   | exact LeO.none _
   | refine LeO.ite ?_ ?_
   | refine LeO.bind ?_ (fun _ => ?_)
theorem spec_l10Resist.mono : ∀ a0 a1 k, LeO (spec_l10Resist.f k a0 a1) (spec_l10Resist.f (k + 1) a0 a1) := by
 intro a0 a1 k
 obtain ⟨ih0, ih1, ih2⟩ := spec_l10Resist.mono_l k
 unfold spec_l10Resist.f
 repeat' first
   | (with_reducible exact ih0 _ _ _ _)
   | (with_reducible exact ih1 _ _ _ _)
   | (with_reducible exact ih2 _ _ _ _ _ _ _)
   | (with_reducible exact spec_l10Falls.mono _ _ _ _)
   | (with_reducible exact LeO.refl _)
   | (with_reducible exact LeO.none _)
   | (with_reducible refine LeO.ite ?_ ?_)
   | (with_reducible refine LeO.bind ?_ (fun _ => ?_))
   | exact ih0 _ _ _ _
   | exact ih1 _ _ _ _
   | exact ih2 _ _ _ _ _ _ _
   | exact spec_l10Falls.mono _ _ _ _
   | exact LeO.none _
   | refine LeO.ite ?_ ?_
   | refine LeO.bind ?_ (fun _ => ?_)
set_option maxHeartbeats 8000000 in
set_option maxRecDepth 100000 in
theorem spec_l10Resist.calls (k : Nat) (A0 : Option Addr) (c0 : Nat) (l0 : List (List Int)) (A1 : Option Addr) (c1 : Nat) (l1 : List (List (List Int))) (r : List Int) (w : World) (hr0 : Kd.C (Kd.slice 3 (Kd.int .i64)) w A0 l0.length l0) (hc0 : l0.length ≤ c0) (hr1 : Kd.C (Kd.slice 32 (Kd.slice 3 (Kd.int .i64))) w A1 l1.length l1) (hc1 : l1.length ≤ c1) (h : spec_l10Resist.f k l0 l1 = some r) :
  Calls Tryd.prog 117 #[.slice A0 l0.length c0, .slice A1 l1.length c1] w fun e w' => ∃ v0_ : Value, e = .returned (v0_) ∧ Kd.R (Kd.int .i64) 3 w' w.heap.size (fun _ => True) v0_ r ∧ Below w.heap.size w w' := by
 have HR0 := Aside0.mk hr0
 have HC0 := Aside0.mk hc0
 clear hr0 hc0
 have HR1 := Aside0.mk hr1
 have HC1 := Aside0.mk hc1
 clear hr1 hc1
 have HB := Aside0.mk (Below.refl w.heap.size w)
 have H : (spec_l10Resist.l0 k l0 l1 (([] : List Int)) 0) = some r := h
 clear h
 obtain ⟨y186, hy186⟩ : ∃ y_ : List Int, y_ = (([] : List Int)) := ⟨_, rfl⟩
 replace H : (spec_l10Resist.l0 k l0 l1 y186 0) = some r := by first | (rw [hy186];with_reducible exact H) | (have H2_ := (Option.bind_some _ _).symm.trans H;rw [hy186];with_reducible exact H2_) | (have H2_ := (Option.bind_some _ _).symm.trans H;with_reducible exact H2_) | with_reducible exact H | (rw [hy186];exact H) | exact H
 have Ny186 := Aside0.mk hy186
 clear hy186
 have H' := Aside0.mk H
 clear H
 go_enter Tryd.func117, Tryd.ntmps117
 go_wp2_with (first | ((with_reducible refine gate_dst (N := 11) rfl ?_);refine Kd.R_lit (Kd.int .i64) _ 3 ?hg (N := 11) ?hd (xs := ([] : List Int)) (inner := []) (ok := fun _ => True) (okp := fun _ => True) ?hr ?hp (fun _ hk => hk) trivial (Below.refl _ _) (Nat.le_refl _) (by simp) ?_;(case hd => rfl);(case hg => rfl);(case hr => first | (go_simp;done) | (go_simp;rfl));(case hp => exact (Reps.none _ _));intro v187 w3 ho4 hb hg_ hnew_;clear hg_ hnew_;(first | rw [← Ny186.out] at ho4 | (simp only [Int.reduceToNat] at ho4;rw [← Ny186.out] at ho4));have n0_ := Aside0.mk (Kd.R_lower ho4 (below_size (by exact bB)));have n1_ := Aside0.mk (below_step (by exact bB) hb);clear HB;have HO188 := n0_;have HB := n1_;clear n0_ n1_;clear hb ho4))
 repeat (go_quiet (first | ((with_reducible refine gate_dst (N := 11) rfl ?_);refine Kd.R_lit (Kd.int .i64) _ 3 ?hg (N := 11) ?hd (xs := ([] : List Int)) (inner := []) (ok := fun _ => True) (okp := fun _ => True) ?hr ?hp (fun _ hk => hk) trivial (Below.refl _ _) (Nat.le_refl _) (by simp) ?_;(case hd => rfl);(case hg => rfl);(case hr => first | (go_simp;done) | (go_simp;rfl));(case hp => exact (Reps.none _ _));intro v187 w3 ho4 hb hg_ hnew_;clear hg_ hnew_;(first | rw [← Ny186.out] at ho4 | (simp only [Int.reduceToNat] at ho4;rw [← Ny186.out] at ho4));have n0_ := Aside0.mk (Kd.R_lower ho4 (below_size (by exact bB)));have n1_ := Aside0.mk (below_step (by exact bB) hb);clear HB;have HO188 := n0_;have HB := n1_;clear n0_ n1_;clear hb ho4));try go_wp2_with (first | ((with_reducible refine gate_dst (N := 11) rfl ?_);refine Kd.R_lit (Kd.int .i64) _ 3 ?hg (N := 11) ?hd (xs := ([] : List Int)) (inner := []) (ok := fun _ => True) (okp := fun _ => True) ?hr ?hp (fun _ hk => hk) trivial (Below.refl _ _) (Nat.le_refl _) (by simp) ?_;(case hd => rfl);(case hg => rfl);(case hr => first | (go_simp;done) | (go_simp;rfl));(case hp => exact (Reps.none _ _));intro v187 w3 ho4 hb hg_ hnew_;clear hg_ hnew_;(first | rw [← Ny186.out] at ho4 | (simp only [Int.reduceToNat] at ho4;rw [← Ny186.out] at ho4));have n0_ := Aside0.mk (Kd.R_lower ho4 (below_size (by exact bB)));have n1_ := Aside0.mk (below_step (by exact bB) hb);clear HB;have HO188 := n0_;have HB := n1_;clear n0_ n1_;clear hb ho4)))
 go_loopg [5, 6] k (fun kq v5 v6 w' => ∃ (x5_1 : List Int) (x6_1 : Int), v6 = .int .i64 x6_1 ∧ Aside0 (spec_l10Resist.l0 kq l0 l1 x5_1 x6_1 = some r) ∧ Aside0 (kq ≤ k) ∧ Aside0 (Kd.R (Kd.int .i64) 3 w' w.heap.size (fun _ => True) v5 x5_1) ∧ Aside0 (Below w.heap.size w w'))
 case atStart => exact ⟨(y186), (0), (by first | rfl | (simp;done) | (simp [*];done)), H', ⟨Nat.le_refl _⟩, ⟨by exact rP HO188.out⟩, ⟨by exact bB⟩⟩
 case round =>
  clear H'
  try clear c1
  try clear p2
  obtain ⟨x5_1, x6_1, rfl, HA, HK1, HO_5, HB⟩ := hrel
  cases gk with
  | zero => exact absurd HA.out (by simp [spec_l10Resist.l0])
  | succ k1 =>
   have H := HA.out
   clear HA
   simp only [spec_l10Resist.l0] at H
   by_cases c5 : x6_1 < (l0.length : Int)
   ·rw [if_pos c5] at H
    have c5b0 : decide (x6_1 < (l0.length : Int)) = true := decide_eq_true c5
    clear c5
    by_cases c6 : x5_1.length < 17592186044416
    ·rw [if_pos c6] at H
     have LMc6 := Aside0.mk c6
     clear c6
     obtain ⟨y189, hy189⟩ : ∃ y_ : List Int, y_ = (x5_1 ++ [(-1)]) := ⟨_, rfl⟩
     replace H : (spec_l10Resist.l0 k1 l0 l1 y189 (wrap64 (x6_1 + 1))) = some r := by first | (rw [hy189];with_reducible exact H) | (have H2_ := (Option.bind_some _ _).symm.trans H;rw [hy189];with_reducible exact H2_) | (have H2_ := (Option.bind_some _ _).symm.trans H;with_reducible exact H2_) | with_reducible exact H | (rw [hy189];exact H) | exact H
     have Ny189 := Aside0.mk hy189
     clear hy189
     have H' := Aside0.mk H
     clear H
     go_wp2_with (first | ((with_reducible refine gate_builtin (b := .append) (xs := #[.tmp 18, .tmp 19]) rfl ?_);at_builtin;refine Kd.R_append (Kd.int .i64) (w0 := w) w.heap.size rfl (.tmp 18) (.tmp 19) 32 3 (.int .i64 0) 8 rfl Tryd.underlying32 info3 rfl (by decide) (by omega) u5 x5_1 (-1) [.int .i64 (-1)] (fun _ => True) (fun _ => False) rfl rfl ?aP (fun _ hk => hk.elim) ?aF ?aO ?aB ?aS ?aL ?_;(case aP => exact rfl);(case aB => exact (by exact bB));(case aF => exact (fun _ _ => trivial));(case aO => exact (by exact rP HO_5.out));(case aS => exact (below_size (by exact bB)));(case aL => have := LMc6.out;omega);intro v190 w7 ho hb hg hat;rw [← Ny189.out] at ho;have n0_ := Aside0.mk (hb);have n1_ := Aside0.mk (ho);clear HB;clear HO_5;have HB := n0_;have HO191 := n1_;clear n0_ n1_;clear ho hb hg hat))
     repeat (go_quiet (first | ((with_reducible refine gate_builtin (b := .append) (xs := #[.tmp 18, .tmp 19]) rfl ?_);at_builtin;refine Kd.R_append (Kd.int .i64) (w0 := w) w.heap.size rfl (.tmp 18) (.tmp 19) 32 3 (.int .i64 0) 8 rfl Tryd.underlying32 info3 rfl (by decide) (by omega) u5 x5_1 (-1) [.int .i64 (-1)] (fun _ => True) (fun _ => False) rfl rfl ?aP (fun _ hk => hk.elim) ?aF ?aO ?aB ?aS ?aL ?_;(case aP => exact rfl);(case aB => exact (by exact bB));(case aF => exact (fun _ _ => trivial));(case aO => exact (by exact rP HO_5.out));(case aS => exact (below_size (by exact bB)));(case aL => have := LMc6.out;omega);intro v190 w7 ho hb hg hat;rw [← Ny189.out] at ho;have n0_ := Aside0.mk (hb);have n1_ := Aside0.mk (ho);clear HB;clear HO_5;have HB := n0_;have HO191 := n1_;clear n0_ n1_;clear ho hb hg hat));try go_wp2_with (first | ((with_reducible refine gate_builtin (b := .append) (xs := #[.tmp 18, .tmp 19]) rfl ?_);at_builtin;refine Kd.R_append (Kd.int .i64) (w0 := w) w.heap.size rfl (.tmp 18) (.tmp 19) 32 3 (.int .i64 0) 8 rfl Tryd.underlying32 info3 rfl (by decide) (by omega) u5 x5_1 (-1) [.int .i64 (-1)] (fun _ => True) (fun _ => False) rfl rfl ?aP (fun _ hk => hk.elim) ?aF ?aO ?aB ?aS ?aL ?_;(case aP => exact rfl);(case aB => exact (by exact bB));(case aF => exact (fun _ _ => trivial));(case aO => exact (by exact rP HO_5.out));(case aS => exact (below_size (by exact bB)));(case aL => have := LMc6.out;omega);intro v190 w7 ho hb hg hat;rw [← Ny189.out] at ho;have n0_ := Aside0.mk (hb);have n1_ := Aside0.mk (ho);clear HB;clear HO_5;have HB := n0_;have HO191 := n1_;clear n0_ n1_;clear ho hb hg hat)))
     go_roundg k1
     case measure => have := HK1.out;omega
     case rel => exact ⟨(y189), (wrap64 (x6_1 + 1)), (by first | rfl | (simp;done) | (simp [*];done)), H', ⟨by have := HK1.out;omega⟩, ⟨by exact rP HO191.out⟩, ⟨by exact bB⟩⟩
    ·rw [if_neg c6] at H
     exact absurd H (by simp)
   ·rw [if_neg c5] at H
    have c5b0 : decide (x6_1 < (l0.length : Int)) = false := decide_eq_false c5
    clear c5
    have H' := Aside0.mk H
    clear H
    go_wp2
    repeat (go_quiet (fail);try go_wp2)
    go_loopg [5, 7] k1 (fun kq v5 v7 w' => ∃ (x5_2 : List Int) (x7_2 : Int), v7 = .int .i64 x7_2 ∧ Aside0 (spec_l10Resist.l1 kq l0 l1 x5_2 x7_2 = some r) ∧ Aside0 (kq ≤ k1) ∧ Aside0 (Kd.R (Kd.int .i64) 3 w' w.heap.size (fun _ => True) v5 x5_2) ∧ Aside0 (Below w.heap.size w w'))
    case atStart => exact ⟨(x5_1), (0), (by first | rfl | (simp;done) | (simp [*];done)), H', ⟨Nat.le_refl _⟩, ⟨by exact rP HO_5.out⟩, ⟨by exact bB⟩⟩
    case round =>
     clear H'
     try clear c1
     try clear p2
     try clear c5
     try clear c5b0
     try clear c6
     try clear p6
     try clear p2
     obtain ⟨x5_2, x7_2, rfl, HA, HK2, HO_5, HB⟩ := hrel
     cases gk with
     | zero => exact absurd HA.out (by simp [spec_l10Resist.l1])
     | succ k2 =>
      have H := HA.out
      clear HA
      simp only [spec_l10Resist.l1] at H
      replace H := Option.bind_eq_some_iff.mp H
      obtain ⟨t192, A80, H⟩ := H
      replace H : (spec_l10Resist.l2 k2 l0 l1 x5_2 x7_2 t192 false 0) = some r := H
      have A8 := Aside0.mk A80
      clear A80
      have H' := Aside0.mk H
      clear H
      obtain ⟨Ao9, co9, eo9⟩ := Kd.R_slice HO_5.out
      subst eo9
      go_wp2_with (first | (go_at_call 83;(with_reducible refine (spec_l1Own.calls _ _ x5_2 t192 _ ?side1 ?side2 A8.out).mono ?_);(case side1 => exact cP (Kd.R_reads' HO_5.out).2.2);(case side2 => exact (Kd.R_reads' HO_5.out).2.1);rintro e w10 ⟨v193, rfl, ho0, hb⟩;have n0_ := Aside0.mk (Kd.R_elder' (by exact rP HO_5.out) (Kd.R_base ho0) hb);have n1_ := Aside0.mk (Kd.R_lower (Kd.R_new' ho0 (Kd.R_lt (by exact rP HO_5.out))) (below_size (by exact bB)));have n2_ := Aside0.mk (below_step (by exact bB) hb);clear HO_5;clear HB;have HO_5 := n0_;have HO194 := n1_;have HB := n2_;clear n0_ n1_ n2_;(try clear hb);(try clear hb2);(try clear hk);(try clear hi);(try clear ho0)))
      repeat (go_quiet (first | (go_at_call 83;(with_reducible refine (spec_l1Own.calls _ _ x5_2 t192 _ ?side1 ?side2 A8.out).mono ?_);(case side1 => exact cP (Kd.R_reads' HO_5.out).2.2);(case side2 => exact (Kd.R_reads' HO_5.out).2.1);rintro e w10 ⟨v193, rfl, ho0, hb⟩;have n0_ := Aside0.mk (Kd.R_elder' (by exact rP HO_5.out) (Kd.R_base ho0) hb);have n1_ := Aside0.mk (Kd.R_lower (Kd.R_new' ho0 (Kd.R_lt (by exact rP HO_5.out))) (below_size (by exact bB)));have n2_ := Aside0.mk (below_step (by exact bB) hb);clear HO_5;clear HB;have HO_5 := n0_;have HO194 := n1_;have HB := n2_;clear n0_ n1_ n2_;(try clear hb);(try clear hb2);(try clear hk);(try clear hi);(try clear ho0)));try go_wp2_with (first | (go_at_call 83;(with_reducible refine (spec_l1Own.calls _ _ x5_2 t192 _ ?side1 ?side2 A8.out).mono ?_);(case side1 => exact cP (Kd.R_reads' HO_5.out).2.2);(case side2 => exact (Kd.R_reads' HO_5.out).2.1);rintro e w10 ⟨v193, rfl, ho0, hb⟩;have n0_ := Aside0.mk (Kd.R_elder' (by exact rP HO_5.out) (Kd.R_base ho0) hb);have n1_ := Aside0.mk (Kd.R_lower (Kd.R_new' ho0 (Kd.R_lt (by exact rP HO_5.out))) (below_size (by exact bB)));have n2_ := Aside0.mk (below_step (by exact bB) hb);clear HO_5;clear HB;have HO_5 := n0_;have HO194 := n1_;have HB := n2_;clear n0_ n1_ n2_;(try clear hb);(try clear hb2);(try clear hk);(try clear hi);(try clear ho0))))
      go_loopg [9, 10] k2 (fun kq v9 v10 w' => ∃ (x8_3 : List Int) (x9_3 : Bool) (x10_3 : Int), v9 = .bool x9_3 ∧ v10 = .int .i64 x10_3 ∧ Aside0 (spec_l10Resist.l2 kq l0 l1 x5_2 x7_2 x8_3 x9_3 x10_3 = some r) ∧ Aside0 (kq ≤ k2) ∧ Aside0 (Kd.R (Kd.int .i64) 3 w' w.heap.size (fun k_ => some k_ ≠ (v193 : Value).ownBlock) (.slice Ao9 x5_2.length co9) x5_2) ∧ Aside0 (Kd.R (Kd.int .i64) 3 w' w.heap.size (fun k_ => some k_ ≠ ((.slice Ao9 x5_2.length co9) : Value).ownBlock) v193 x8_3) ∧ Aside0 (Below w.heap.size w w'))
      case atStart => exact ⟨(t192), (false), (0), (by first | rfl | (simp;done) | (simp [*];done)), (by first | rfl | (simp;done) | (simp [*];done)), H', ⟨Nat.le_refl _⟩, ⟨by refine rP ?_;exact Kd.R_mono HO_5.out (fun _ hk => hk.2)⟩, ⟨by refine rP ?_;exact Kd.R_mono HO194.out (fun _ hk => hk.2)⟩, ⟨by exact bB⟩⟩
      case round =>
       clear H'
       try clear c1
       try clear p2
       try clear c5
       try clear c5b0
       try clear c6
       try clear p6
       try clear p2
       try clear p6
       obtain ⟨x8_3, x9_3, x10_3, rfl, rfl, HA, HK3, HO_5, HO_8, HB⟩ := hrel
       cases gk with
       | zero => exact absurd HA.out (by simp [spec_l10Resist.l2])
       | succ k3 =>
        have H := HA.out
        clear HA
        simp only [spec_l10Resist.l2] at H
        by_cases c11 : x10_3 < (l0.length : Int)
        ·rw [if_pos c11] at H
         have c11b0 : decide (x10_3 < (l0.length : Int)) = true := decide_eq_true c11
         clear c11
         by_cases c12 : 0 ≤ x10_3
         ·rw [if_pos c12] at H
          have c12b0 : decide (0 ≤ x10_3) = true := decide_eq_true c12
          clear c12
          by_cases c13 : x10_3 < (x5_2.length : Int)
          ·rw [if_pos c13] at H
           have c13b0 : decide (x10_3 < (x5_2.length : Int)) = true := decide_eq_true c13
           clear c13
           by_cases c14 : (rd x5_2 x10_3) < 0
           ·rw [if_pos c14] at H
            have c14b0 : decide ((rd x5_2 x10_3) < 0) = true := decide_eq_true c14
            clear c14
            by_cases c15 : x10_3 < (l1.length : Int)
            ·rw [if_pos c15] at H
             have c15b0 : decide (x10_3 < (l1.length : Int)) = true := decide_eq_true c15
             clear c15
             replace H := Option.bind_eq_some_iff.mp H
             obtain ⟨t198, A160, H⟩ := H
             replace H : (if t198 = true then (if x10_3 < (x8_3.length : Int) then (spec_l10Resist.l2 k3 l0 l1 x5_2 x7_2 (x8_3.set (x10_3 : Int).toNat x7_2) true (wrap64 (x10_3 + 1))) else (none)) else (spec_l10Resist.l2 k3 l0 l1 x5_2 x7_2 x8_3 x9_3 (wrap64 (x10_3 + 1)))) = some r := H
             have A16 := Aside0.mk A160
             clear A160
             by_cases c17 : t198 = true
             ·subst c17
              have H1 : (if x10_3 < (x8_3.length : Int) then (spec_l10Resist.l2 k3 l0 l1 x5_2 x7_2 (x8_3.set (x10_3 : Int).toNat x7_2) true (wrap64 (x10_3 + 1))) else (none)) = some r := by rw [if_pos rfl] at H;exact H
              clear H
              have H := H1
              clear H1
              by_cases c18 : x10_3 < (x8_3.length : Int)
              ·rw [if_pos c18] at H
               have c18b0 : decide (x10_3 < (x8_3.length : Int)) = true := decide_eq_true c18
               clear c18
               obtain ⟨y199, hy199⟩ : ∃ y_ : List Int, y_ = (x8_3.set (x10_3 : Int).toNat x7_2) := ⟨_, rfl⟩
               replace H : (spec_l10Resist.l2 k3 l0 l1 x5_2 x7_2 y199 true (wrap64 (x10_3 + 1))) = some r := by first | (rw [hy199];with_reducible exact H) | (have H2_ := (Option.bind_some _ _).symm.trans H;rw [hy199];with_reducible exact H2_) | (have H2_ := (Option.bind_some _ _).symm.trans H;with_reducible exact H2_) | with_reducible exact H | (rw [hy199];exact H) | exact H
               have Ny199 := Aside0.mk hy199
               clear hy199
               have H' := Aside0.mk H
               clear H
               have p195 : 0 ≤ (x10_3 : Int) := oA
               have q195 : x10_3 < (x5_2.length : Int) := oA
               obtain ⟨ad195, e195, hx195_0⟩ := Kd.at_int (Kd.R_reads' HO_5.out).2.2 x10_3 p195 q195
               cases e195
               replace p195 := eq_true p195
               replace q195 := eq_true q195
               have p196 : 0 ≤ (x10_3 : Int) := oA
               have q196 : x10_3 < (l0.length : Int) := oA
               obtain ⟨ad196, A196_0, c196_0, e196, hx196_0, hl196_0, hi196_0⟩ := at_L2 HR0.out x10_3 p196 q196
               cases e196
               replace hx196_0 := (HB.out.cell (World.block_lt_of_cell? w _ hx196_0)).trans hx196_0
               have HR196_0 := Aside0.mk hi196_0
               have HC196_0 := Aside0.mk hl196_0
               clear hi196_0 hl196_0
               replace p196 := eq_true p196
               replace q196 := eq_true q196
               have p197 : 0 ≤ (x10_3 : Int) := oA
               have q197 : x10_3 < (l1.length : Int) := oA
               obtain ⟨ad197, A197_0, c197_0, e197, hx197_0, hl197_0, hi197_0⟩ := at_L3 HR1.out x10_3 p197 q197
               cases e197
               replace hx197_0 := (HB.out.cell (World.block_lt_of_cell? w _ hx197_0)).trans hx197_0
               have HR197_0 := Aside0.mk hi197_0
               have HC197_0 := Aside0.mk hl197_0
               clear hi197_0 hl197_0
               replace p197 := eq_true p197
               replace q197 := eq_true q197
               go_wp2_with (first | (go_at_call 131;(with_reducible refine (spec_l10Falls.calls k3 _ _ (rd_L2 l0 x10_3) _ _ (rd_L3 l1 x10_3) _ _ x5_2 true _ ?side1 ?side2 ?side3 ?side4 ?side5 ?side6 A16.out).mono ?_);(case side1 => exact cP (Kd.C_below HR196_0.out HB.out));(case side2 => exact HC196_0.out);(case side3 => exact cP (Kd.C_below HR197_0.out HB.out));(case side4 => exact HC197_0.out);(case side5 => exact cP (Kd.R_reads' HO_5.out).2.2);(case side6 => exact (Kd.R_reads' HO_5.out).2.1);rintro e w' ⟨rfl, ⟨nd, rfl⟩⟩;(try first | exact ⟨rfl, _, World.drewN_drewN _ _ _⟩ | exact ⟨rfl, _, Eq.trans (World.drewN_drewN _ _ _) (congrArg (World.drewN _) (Nat.add_assoc _ _ _))⟩);have p19 : 0 ≤ (x10_3 : Int) := oA;have q19 : (x10_3 : Int) < ((x8_3.length : Int) : Int) := oA;obtain ⟨go19, co19, eo19, gb19, gl19, cl19, HG19⟩ := Kd.R_form HO_8.out (by omega);(first | cases eo19 | (injection eo19 with ea_ en_ ec_;(first | subst ea_ | (injection ea_ with ea_;subst ea_));subst ec_;clear en_));have GB19 := Aside0.mk gb19;have GG19 := Aside0.mk HG19;clear gb19 gl19 HG19;obtain ⟨hx19_0, hf19_0⟩ := Kd.R_celln 0 HO_8.out (x10_3 : Int) p19 q19;replace p19 := eq_true p19;replace q19 := eq_true q19;obtain ⟨hy20_, hz20_⟩ := Kd.R_celln 0 HO_8.out (x10_3 : Int) (oA) (oA);have HP20 := Kd.R_putg HO_8.out (x10_3 : Int) x7_2) | ((with_reducible refine gate_store (t := 3) (p := 51) rfl ?_);(try (rw [drewN_self wr];generalize hq_ : World.drewN wr _ = wr;have n0_ := Aside0.mk (Kd.R_at hq_ HO_5.out);have n1_ := Aside0.mk (Kd.R_at hq_ HO_8.out);have n2_ := Aside0.mk (below_at hq_ HB.out);clear hq_ HO_5 HO_8 HB;have HO_5 := n0_;have HO_8 := n1_;have HB := n2_;clear n0_ n1_ n2_;(try (obtain ⟨hy20_, hz20_⟩ := Kd.R_celln 0 HO_8.out (x10_3 : Int) (oA) (oA)));(try (have HP20 := Kd.R_putg HO_8.out (x10_3 : Int) x7_2))));refine store_event (t := 3) (p := 51) (v := ?vo_w21) (w1 := (wr.setCell ⟨go19, (x10_3 : Int).toNat, none⟩ (.int .i64 x7_2))) ?hg ?ho ?hn ?hr ?_;(case ho => rfl);(case hg => rfl);(case hn => rfl);(case hr => first | (go_simp;done) | (go_simp;rfl));intro w21 hw;have hg : wr.grownBy w21 (some go19) := (by rw [hw];exact HP20.2);have hp_ : Kd.R (Kd.int .i64) 3 w21 w.heap.size (fun k_ => some k_ ≠ (.slice (some ad195) x5_2.length co9 : Value).ownBlock) (.slice (some ⟨go19, 0, none⟩) x8_3.length co19) y199 := (by rw [hw, Ny199.out];exact HP20.1);clear HP20;have n0_ := Aside0.mk (Kd.R_after (v := (.slice (some ⟨go19, 0, none⟩) x8_3.length co19)) (v1 := (.slice (some ⟨go19, 0, none⟩) x8_3.length co19)) (ok := (fun _ => True)) (by exact rP (Kd.R_mono HO_5.out (fun _ hk => ⟨trivial, hk⟩))) hg (.inl rfl));have n1_ := Aside0.mk (hp_);have n2_ := Aside0.mk ((by rw [hw];exact below_set (HB.out) GB19.out : Below w.heap.size w w21));clear HO_5;clear HO_8;clear HB;have HO_5 := n0_;have HO_8 := n1_;have HB := n2_;clear n0_ n1_ n2_;clear hg hw hp_))
               repeat (go_quiet (first | (go_at_call 131;(with_reducible refine (spec_l10Falls.calls k3 _ _ (rd_L2 l0 x10_3) _ _ (rd_L3 l1 x10_3) _ _ x5_2 true _ ?side1 ?side2 ?side3 ?side4 ?side5 ?side6 A16.out).mono ?_);(case side1 => exact cP (Kd.C_below HR196_0.out HB.out));(case side2 => exact HC196_0.out);(case side3 => exact cP (Kd.C_below HR197_0.out HB.out));(case side4 => exact HC197_0.out);(case side5 => exact cP (Kd.R_reads' HO_5.out).2.2);(case side6 => exact (Kd.R_reads' HO_5.out).2.1);rintro e w' ⟨rfl, ⟨nd, rfl⟩⟩;(try first | exact ⟨rfl, _, World.drewN_drewN _ _ _⟩ | exact ⟨rfl, _, Eq.trans (World.drewN_drewN _ _ _) (congrArg (World.drewN _) (Nat.add_assoc _ _ _))⟩);have p19 : 0 ≤ (x10_3 : Int) := oA;have q19 : (x10_3 : Int) < ((x8_3.length : Int) : Int) := oA;obtain ⟨go19, co19, eo19, gb19, gl19, cl19, HG19⟩ := Kd.R_form HO_8.out (by omega);(first | cases eo19 | (injection eo19 with ea_ en_ ec_;(first | subst ea_ | (injection ea_ with ea_;subst ea_));subst ec_;clear en_));have GB19 := Aside0.mk gb19;have GG19 := Aside0.mk HG19;clear gb19 gl19 HG19;obtain ⟨hx19_0, hf19_0⟩ := Kd.R_celln 0 HO_8.out (x10_3 : Int) p19 q19;replace p19 := eq_true p19;replace q19 := eq_true q19;obtain ⟨hy20_, hz20_⟩ := Kd.R_celln 0 HO_8.out (x10_3 : Int) (oA) (oA);have HP20 := Kd.R_putg HO_8.out (x10_3 : Int) x7_2) | ((with_reducible refine gate_store (t := 3) (p := 51) rfl ?_);(try (rw [drewN_self wr];generalize hq_ : World.drewN wr _ = wr;have n0_ := Aside0.mk (Kd.R_at hq_ HO_5.out);have n1_ := Aside0.mk (Kd.R_at hq_ HO_8.out);have n2_ := Aside0.mk (below_at hq_ HB.out);clear hq_ HO_5 HO_8 HB;have HO_5 := n0_;have HO_8 := n1_;have HB := n2_;clear n0_ n1_ n2_;(try (obtain ⟨hy20_, hz20_⟩ := Kd.R_celln 0 HO_8.out (x10_3 : Int) (oA) (oA)));(try (have HP20 := Kd.R_putg HO_8.out (x10_3 : Int) x7_2))));refine store_event (t := 3) (p := 51) (v := ?vo_w21) (w1 := (wr.setCell ⟨go19, (x10_3 : Int).toNat, none⟩ (.int .i64 x7_2))) ?hg ?ho ?hn ?hr ?_;(case ho => rfl);(case hg => rfl);(case hn => rfl);(case hr => first | (go_simp;done) | (go_simp;rfl));intro w21 hw;have hg : wr.grownBy w21 (some go19) := (by rw [hw];exact HP20.2);have hp_ : Kd.R (Kd.int .i64) 3 w21 w.heap.size (fun k_ => some k_ ≠ (.slice (some ad195) x5_2.length co9 : Value).ownBlock) (.slice (some ⟨go19, 0, none⟩) x8_3.length co19) y199 := (by rw [hw, Ny199.out];exact HP20.1);clear HP20;have n0_ := Aside0.mk (Kd.R_after (v := (.slice (some ⟨go19, 0, none⟩) x8_3.length co19)) (v1 := (.slice (some ⟨go19, 0, none⟩) x8_3.length co19)) (ok := (fun _ => True)) (by exact rP (Kd.R_mono HO_5.out (fun _ hk => ⟨trivial, hk⟩))) hg (.inl rfl));have n1_ := Aside0.mk (hp_);have n2_ := Aside0.mk ((by rw [hw];exact below_set (HB.out) GB19.out : Below w.heap.size w w21));clear HO_5;clear HO_8;clear HB;have HO_5 := n0_;have HO_8 := n1_;have HB := n2_;clear n0_ n1_ n2_;clear hg hw hp_));try go_wp2_with (first | (go_at_call 131;(with_reducible refine (spec_l10Falls.calls k3 _ _ (rd_L2 l0 x10_3) _ _ (rd_L3 l1 x10_3) _ _ x5_2 true _ ?side1 ?side2 ?side3 ?side4 ?side5 ?side6 A16.out).mono ?_);(case side1 => exact cP (Kd.C_below HR196_0.out HB.out));(case side2 => exact HC196_0.out);(case side3 => exact cP (Kd.C_below HR197_0.out HB.out));(case side4 => exact HC197_0.out);(case side5 => exact cP (Kd.R_reads' HO_5.out).2.2);(case side6 => exact (Kd.R_reads' HO_5.out).2.1);rintro e w' ⟨rfl, ⟨nd, rfl⟩⟩;(try first | exact ⟨rfl, _, World.drewN_drewN _ _ _⟩ | exact ⟨rfl, _, Eq.trans (World.drewN_drewN _ _ _) (congrArg (World.drewN _) (Nat.add_assoc _ _ _))⟩);have p19 : 0 ≤ (x10_3 : Int) := oA;have q19 : (x10_3 : Int) < ((x8_3.length : Int) : Int) := oA;obtain ⟨go19, co19, eo19, gb19, gl19, cl19, HG19⟩ := Kd.R_form HO_8.out (by omega);(first | cases eo19 | (injection eo19 with ea_ en_ ec_;(first | subst ea_ | (injection ea_ with ea_;subst ea_));subst ec_;clear en_));have GB19 := Aside0.mk gb19;have GG19 := Aside0.mk HG19;clear gb19 gl19 HG19;obtain ⟨hx19_0, hf19_0⟩ := Kd.R_celln 0 HO_8.out (x10_3 : Int) p19 q19;replace p19 := eq_true p19;replace q19 := eq_true q19;obtain ⟨hy20_, hz20_⟩ := Kd.R_celln 0 HO_8.out (x10_3 : Int) (oA) (oA);have HP20 := Kd.R_putg HO_8.out (x10_3 : Int) x7_2) | ((with_reducible refine gate_store (t := 3) (p := 51) rfl ?_);(try (rw [drewN_self wr];generalize hq_ : World.drewN wr _ = wr;have n0_ := Aside0.mk (Kd.R_at hq_ HO_5.out);have n1_ := Aside0.mk (Kd.R_at hq_ HO_8.out);have n2_ := Aside0.mk (below_at hq_ HB.out);clear hq_ HO_5 HO_8 HB;have HO_5 := n0_;have HO_8 := n1_;have HB := n2_;clear n0_ n1_ n2_;(try (obtain ⟨hy20_, hz20_⟩ := Kd.R_celln 0 HO_8.out (x10_3 : Int) (oA) (oA)));(try (have HP20 := Kd.R_putg HO_8.out (x10_3 : Int) x7_2))));refine store_event (t := 3) (p := 51) (v := ?vo_w21) (w1 := (wr.setCell ⟨go19, (x10_3 : Int).toNat, none⟩ (.int .i64 x7_2))) ?hg ?ho ?hn ?hr ?_;(case ho => rfl);(case hg => rfl);(case hn => rfl);(case hr => first | (go_simp;done) | (go_simp;rfl));intro w21 hw;have hg : wr.grownBy w21 (some go19) := (by rw [hw];exact HP20.2);have hp_ : Kd.R (Kd.int .i64) 3 w21 w.heap.size (fun k_ => some k_ ≠ (.slice (some ad195) x5_2.length co9 : Value).ownBlock) (.slice (some ⟨go19, 0, none⟩) x8_3.length co19) y199 := (by rw [hw, Ny199.out];exact HP20.1);clear HP20;have n0_ := Aside0.mk (Kd.R_after (v := (.slice (some ⟨go19, 0, none⟩) x8_3.length co19)) (v1 := (.slice (some ⟨go19, 0, none⟩) x8_3.length co19)) (ok := (fun _ => True)) (by exact rP (Kd.R_mono HO_5.out (fun _ hk => ⟨trivial, hk⟩))) hg (.inl rfl));have n1_ := Aside0.mk (hp_);have n2_ := Aside0.mk ((by rw [hw];exact below_set (HB.out) GB19.out : Below w.heap.size w w21));clear HO_5;clear HO_8;clear HB;have HO_5 := n0_;have HO_8 := n1_;have HB := n2_;clear n0_ n1_ n2_;clear hg hw hp_)))
               go_roundg k3
               case measure => have := HK1.out;have := HK2.out;have := HK3.out;omega
               case rel => exact ⟨(y199), (true), (wrap64 (x10_3 + 1)), (by first | rfl | (simp;done) | (simp [*];done)), (by first | rfl | (simp;done) | (simp [*];done)), H', ⟨by have := HK1.out;have := HK2.out;have := HK3.out;omega⟩, ⟨by refine rP ?_;exact Kd.R_mono HO_5.out (fun _ hk => hk.2)⟩, ⟨by exact rP HO_8.out⟩, ⟨by exact bB⟩⟩
              ·rw [if_neg c18] at H
               exact absurd H (by simp)
             ·replace c17 := Bool.eq_false_iff.mpr c17
              subst c17
              have H1 : (spec_l10Resist.l2 k3 l0 l1 x5_2 x7_2 x8_3 x9_3 (wrap64 (x10_3 + 1))) = some r := by rw [if_neg (show ¬ (false = true) by decide)] at H;exact H
              clear H
              have H := H1
              clear H1
              have H' := Aside0.mk H
              clear H
              have p195 : 0 ≤ (x10_3 : Int) := oA
              have q195 : x10_3 < (x5_2.length : Int) := oA
              obtain ⟨ad195, e195, hx195_0⟩ := Kd.at_int (Kd.R_reads' HO_5.out).2.2 x10_3 p195 q195
              cases e195
              replace p195 := eq_true p195
              replace q195 := eq_true q195
              have p196 : 0 ≤ (x10_3 : Int) := oA
              have q196 : x10_3 < (l0.length : Int) := oA
              obtain ⟨ad196, A196_0, c196_0, e196, hx196_0, hl196_0, hi196_0⟩ := at_L2 HR0.out x10_3 p196 q196
              cases e196
              replace hx196_0 := (HB.out.cell (World.block_lt_of_cell? w _ hx196_0)).trans hx196_0
              have HR196_0 := Aside0.mk hi196_0
              have HC196_0 := Aside0.mk hl196_0
              clear hi196_0 hl196_0
              replace p196 := eq_true p196
              replace q196 := eq_true q196
              have p197 : 0 ≤ (x10_3 : Int) := oA
              have q197 : x10_3 < (l1.length : Int) := oA
              obtain ⟨ad197, A197_0, c197_0, e197, hx197_0, hl197_0, hi197_0⟩ := at_L3 HR1.out x10_3 p197 q197
              cases e197
              replace hx197_0 := (HB.out.cell (World.block_lt_of_cell? w _ hx197_0)).trans hx197_0
              have HR197_0 := Aside0.mk hi197_0
              have HC197_0 := Aside0.mk hl197_0
              clear hi197_0 hl197_0
              replace p197 := eq_true p197
              replace q197 := eq_true q197
              go_wp2_with (first | (go_at_call 131;(with_reducible refine (spec_l10Falls.calls k3 _ _ (rd_L2 l0 x10_3) _ _ (rd_L3 l1 x10_3) _ _ x5_2 false _ ?side1 ?side2 ?side3 ?side4 ?side5 ?side6 A16.out).mono ?_);(case side1 => exact cP (Kd.C_below HR196_0.out HB.out));(case side2 => exact HC196_0.out);(case side3 => exact cP (Kd.C_below HR197_0.out HB.out));(case side4 => exact HC197_0.out);(case side5 => exact cP (Kd.R_reads' HO_5.out).2.2);(case side6 => exact (Kd.R_reads' HO_5.out).2.1);rintro e w' ⟨rfl, ⟨nd, rfl⟩⟩;(try first | exact ⟨rfl, _, World.drewN_drewN _ _ _⟩ | exact ⟨rfl, _, Eq.trans (World.drewN_drewN _ _ _) (congrArg (World.drewN _) (Nat.add_assoc _ _ _))⟩)))
              repeat (go_quiet (first | (go_at_call 131;(with_reducible refine (spec_l10Falls.calls k3 _ _ (rd_L2 l0 x10_3) _ _ (rd_L3 l1 x10_3) _ _ x5_2 false _ ?side1 ?side2 ?side3 ?side4 ?side5 ?side6 A16.out).mono ?_);(case side1 => exact cP (Kd.C_below HR196_0.out HB.out));(case side2 => exact HC196_0.out);(case side3 => exact cP (Kd.C_below HR197_0.out HB.out));(case side4 => exact HC197_0.out);(case side5 => exact cP (Kd.R_reads' HO_5.out).2.2);(case side6 => exact (Kd.R_reads' HO_5.out).2.1);rintro e w' ⟨rfl, ⟨nd, rfl⟩⟩;(try first | exact ⟨rfl, _, World.drewN_drewN _ _ _⟩ | exact ⟨rfl, _, Eq.trans (World.drewN_drewN _ _ _) (congrArg (World.drewN _) (Nat.add_assoc _ _ _))⟩)));try go_wp2_with (first | (go_at_call 131;(with_reducible refine (spec_l10Falls.calls k3 _ _ (rd_L2 l0 x10_3) _ _ (rd_L3 l1 x10_3) _ _ x5_2 false _ ?side1 ?side2 ?side3 ?side4 ?side5 ?side6 A16.out).mono ?_);(case side1 => exact cP (Kd.C_below HR196_0.out HB.out));(case side2 => exact HC196_0.out);(case side3 => exact cP (Kd.C_below HR197_0.out HB.out));(case side4 => exact HC197_0.out);(case side5 => exact cP (Kd.R_reads' HO_5.out).2.2);(case side6 => exact (Kd.R_reads' HO_5.out).2.1);rintro e w' ⟨rfl, ⟨nd, rfl⟩⟩;(try first | exact ⟨rfl, _, World.drewN_drewN _ _ _⟩ | exact ⟨rfl, _, Eq.trans (World.drewN_drewN _ _ _) (congrArg (World.drewN _) (Nat.add_assoc _ _ _))⟩))))
              go_roundg k3
              case measure => have := HK1.out;have := HK2.out;have := HK3.out;omega
              case rel => exact ⟨(x8_3), (x9_3), (wrap64 (x10_3 + 1)), (by first | rfl | (simp;done) | (simp [*];done)), (by first | rfl | (simp;done) | (simp [*];done)), H', ⟨by have := HK1.out;have := HK2.out;have := HK3.out;omega⟩, ⟨by exact rP HO_5.out⟩, ⟨by exact rP HO_8.out⟩, ⟨by exact bB⟩⟩
            ·rw [if_neg c15] at H
             exact absurd H (by simp)
           ·rw [if_neg c14] at H
            have c14b0 : decide ((rd x5_2 x10_3) < 0) = false := decide_eq_false c14
            clear c14
            have H' := Aside0.mk H
            clear H
            have p195 : 0 ≤ (x10_3 : Int) := oA
            have q195 : x10_3 < (x5_2.length : Int) := oA
            obtain ⟨ad195, e195, hx195_0⟩ := Kd.at_int (Kd.R_reads' HO_5.out).2.2 x10_3 p195 q195
            cases e195
            replace p195 := eq_true p195
            replace q195 := eq_true q195
            go_wp2
            repeat (go_quiet (fail);try go_wp2)
            go_roundg k3
            case measure => have := HK1.out;have := HK2.out;have := HK3.out;omega
            case rel => exact ⟨(x8_3), (x9_3), (wrap64 (x10_3 + 1)), (by first | rfl | (simp;done) | (simp [*];done)), (by first | rfl | (simp;done) | (simp [*];done)), H', ⟨by have := HK1.out;have := HK2.out;have := HK3.out;omega⟩, ⟨by exact rP HO_5.out⟩, ⟨by exact rP HO_8.out⟩, ⟨by exact bB⟩⟩
          ·rw [if_neg c13] at H
           exact absurd H (by simp)
         ·rw [if_neg c12] at H
          exact absurd H (by simp)
        ·rw [if_neg c11] at H
         have c11b0 : decide (x10_3 < (l0.length : Int)) = false := decide_eq_false c11
         clear c11
         by_cases c22 : x9_3 = true
         ·subst c22
          have H1 : (spec_l10Resist.l1 k3 l0 l1 x8_3 (wrap64 (x7_2 + 1))) = some r := by rw [if_pos rfl] at H;exact H
          clear H
          have H := H1
          clear H1
          have H' := Aside0.mk H
          clear H
          go_wp2
          repeat (go_quiet (fail);try go_wp2)
          go_roundg k3
          case measure => have := HK1.out;have := HK2.out;have := HK3.out;omega
          case rel => exact ⟨(x8_3), (wrap64 (x7_2 + 1)), (by first | rfl | (simp;done) | (simp [*];done)), H', ⟨by have := HK1.out;have := HK2.out;have := HK3.out;omega⟩, ⟨by refine rP ?_;exact Kd.R_mono HO_8.out (fun _ hk => trivial)⟩, ⟨by exact bB⟩⟩
         ·replace c22 := Bool.eq_false_iff.mpr c22
          subst c22
          have H1 : (some x8_3) = some r := by rw [if_neg (show ¬ (false = true) by decide)] at H;exact H
          clear H
          have H := H1
          clear H1
          obtain rfl := Option.some.inj H
          go_wp2
          repeat (go_quiet (fail);try go_wp2)
          go_ret
          exact ⟨_, by first | rfl | (simp [errW_none, errW_some] <;> rfl) | (simp [*, errW_none, errW_some] <;> rfl), by refine rP ?_;exact Kd.R_mono HO_8.out (fun _ hk => trivial), by exact bB⟩




end Go.Proofs.YthbjajppdomhhaaDoor.QEternalNumber
