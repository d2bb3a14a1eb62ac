import Derived.Test.YtaddgielnfhhpaaQBurningNumber0
import Derived.Test.YtaddgielnfhhpaaQBurningNumber5
import Derived.Test.YtaddgielnfhhpaaQBurningNumber6
namespace Go.Proofs.Ytaddgielnfhhpaa.QBurningNumber
open Go.RowKit Go.Proofs.YtaddgielnfhhpaaW.PrintWords Go.Proofs.YtaddgielnfhhpaaW.PrintLast Go.Proofs.YtaddgielnfhhpaaW.PrintMore
attribute [local go_sem] max2_int min2_int max_two min_two max_three min_three max_four min_four   -- for this text's walks alone
set_option linter.unusedVariables false
set_option linter.unusedSimpArgs false
/-! ### spec_l8Complete: function 74 -/
/-- What a row of rows that came in leads to stays what it is in each world that keeps it: its cells are none that may be written. -/
theorem slice_kept_at {α : Type} {d : Kd α} {e n m c1 : Nat} {S : Nat → Prop} {w W : World} {A A1 : Option Addr} {ad : Addr} {xs : List (List α)} (h : ∀ W', Kept w W' S → (Kd.slice e d).C W' A n xs) (i : Int) (h0 : 0 ≤ i) (h1 : i < n) (hW : Kept w W S) (hA : A = some ad)
  (hx : W.cell? (ad.add i.toNat) = some (.slice A1 m c1)) : ∀ W', Kept w W' S → d.C W' A1 (xs.getD i.toNat []).length (xs.getD i.toNat []) := by
 have get : ∀ W', Kept w W' S → ∃ A' c', W'.cell? (ad.add i.toNat) = some (.slice A' (xs.getD i.toNat []).length c') ∧ d.C W' A' (xs.getD i.toNat []).length (xs.getD i.toNat []) := by
  intro W' hk
  obtain ⟨ad', c, e1, _, hK, hc⟩ := Kd.C_get (h W' hk) [] i h0 h1
  rw [hA] at e1
  injection e1 with e1
  subst e1
  obtain ⟨A', c', rfl, _, hC⟩ := hK
  have := hc 0 _ rfl
  rw [show (Kd.slice e d).sz = 1 from rfl, Nat.mul_one, Nat.add_zero] at this
  exact ⟨A', c', this, hC⟩
 obtain ⟨A2, c2, hx2, _⟩ := get w (Kept.refl w S)
 have hnS : ¬ S (ad.add i.toNat).block := by
  intro hS
  obtain ⟨A3, c3, hx3, _⟩ := get (w.setCell (ad.add i.toNat) (.int .i64 0)) (Kept.setCell (Kept.refl w S) (.inl hS) _)
  rw [World.cell?_setCell_same _ _ _ hx2] at hx3
  cases hx3
 have hxw : w.cell? (ad.add i.toNat) = some (.slice A1 m c1) := by
  have h3 := cell_kept hx2 hW hnS
  rw [h3] at hx
  rw [hx2, hx]
 intro W' hk
 obtain ⟨A4, c4, hx4, hC⟩ := get W' hk
 have h5 := cell_kept hxw hk hnS
 rw [h5] at hx4
 injection hx4 with hx4
 injection hx4 with e1 _ _
 rw [e1]
 exact hC

mutual
def spec_l8Complete.l0 : Nat → List (List (List Int)) → List Int → Int → List Int → List Int → Int → Option (List Int × Bool)
 | 0, _, _, _, _, _, _ => none
 | k + 1, x0, x1, x2, x3, x4, x12 => if x12 < (x0.length : Int) then ((spec_l1Own.f x4).bind fun t189 => (if 0 ≤ x12 then (if 0 ≤ (wrap64 ((wrap64 (x2 - 1)) - (x3.length : Int))) then (if (wrap64 ((wrap64 (x2 - 1)) - (x3.length : Int))) < ((rd_L3 x0 x12).length : Int) then (spec_l8Complete.l1 k x0 x1 x2 x3 x4 x12 t189 (rd_L2 (rd_L3 x0 x12) (wrap64 ((wrap64 (x2 - 1)) - (x3.length : Int)))) 0) else (none)) else (none)) else (none))) else (some ((([] : List Int)), false))
def spec_l8Complete.l1 : Nat → List (List (List Int)) → List Int → Int → List Int → List Int → Int → List Int → List Int → Int → Option (List Int × Bool)
 | 0, _, _, _, _, _, _, _, _, _ => none
 | k + 1, x0, x1, x2, x3, x4, x12, x13, x14, x15 => if x15 < (x14.length : Int) then (if 0 ≤ x15 then ((spec_l1Put.f x13 (rd x14 x15)).bind fun t195 => (spec_l8Complete.l1 k x0 x1 x2 x3 x4 x12 t195 x14 (wrap64 (x15 + 1)))) else (none)) else ((spec_l1Own.f x3).bind fun t198 => (if t198.length < 17592186044416 then ((spec_l8Complete.f k x0 x1 x2 (t198 ++ [x12]) x13).bind fun bt204 => (if bt204.2 = true then (some (bt204.1, true)) else (spec_l8Complete.l0 k x0 x1 x2 x3 x4 (wrap64 (x12 + 1))))) else (none)))
def spec_l8Complete.f : Nat → List (List (List Int)) → List Int → Int → List Int → List Int → Option (List Int × Bool)
 | 0, _, _, _, _, _ => none
 | k + 1, l0, l1, a2, l3, l4 => if 0 ≤ (wrap64 (a2 - (l3.length : Int))) then (if (wrap64 (a2 - (l3.length : Int))) < (l1.length : Int) then (if (wrap64 ((l0.length : Int) - (l4.length : Int))) > (rd l1 (wrap64 (a2 - (l3.length : Int)))) then (some ((([] : List Int)), false)) else (if (l3.length : Int) = a2 then (some (l3, true)) else (spec_l8Complete.l0 k l0 l1 a2 l3 l4 0))) else (none)) else (none)
end
theorem spec_l8Complete.mono_l : ∀ k, (∀ y0 y1 y2 y3 y4, LeO (spec_l8Complete.f k y0 y1 y2 y3 y4) (spec_l8Complete.f (k + 1) y0 y1 y2 y3 y4)) ∧ (∀ y0 y1 y2 y3 y4 y5, LeO (spec_l8Complete.l0 k y0 y1 y2 y3 y4 y5) (spec_l8Complete.l0 (k + 1) y0 y1 y2 y3 y4 y5)) ∧ (∀ y0 y1 y2 y3 y4 y5 y6 y7 y8, LeO (spec_l8Complete.l1 k y0 y1 y2 y3 y4 y5 y6 y7 y8) (spec_l8Complete.l1 (k + 1) y0 y1 y2 y3 y4 y5 y6 y7 y8))
 | 0 => ⟨fun _ _ _ _ _ r h => by simp [spec_l8Complete.f] at h, fun _ _ _ _ _ _ r h => by simp [spec_l8Complete.l0] at h, fun _ _ _ _ _ _ _ _ _ r h => by simp [spec_l8Complete.l1] at h⟩
 | k + 1 => by
  obtain ⟨ih0, ih1, ih2⟩ := spec_l8Complete.mono_l k
  refine ⟨?_, ?_, ?_⟩
  ·intro y0 y1 y2 y3 y4
   unfold spec_l8Complete.f
   repeat' first
   | (with_reducible exact ih0 _ _ _ _ _)
   | (with_reducible exact ih1 _ _ _ _ _ _)
   | (with_reducible exact ih2 _ _ _ _ _ _ _ _ _)
   | (with_reducible exact LeO.refl _)
   | (with_reducible exact LeO.none _)
   | (with_reducible refine LeO.ite ?_ ?_)
   | (with_reducible refine LeO.bind ?_ (fun _ => ?_))
   | exact ih0 _ _ _ _ _
   | exact ih1 _ _ _ _ _ _
   | exact ih2 _ _ _ _ _ _ _ _ _
   | exact LeO.none _
   | refine LeO.ite ?_ ?_
   | refine LeO.bind ?_ (fun _ => ?_)
  ·intro y0 y1 y2 y3 y4 y5
   unfold spec_l8Complete.l0
   repeat' first
   | (with_reducible exact ih0 _ _ _ _ _)
   | (with_reducible exact ih1 _ _ _ _ _ _)
   | (with_reducible exact ih2 _ _ _ _ _ _ _ _ _)
   | (with_reducible exact LeO.refl _)
   | (with_reducible exact LeO.none _)
   | (with_reducible refine LeO.ite ?_ ?_)
   | (with_reducible refine LeO.bind ?_ (fun _ => ?_))
   | exact ih0 _ _ _ _ _
   | exact ih1 _ _ _ _ _ _
   | exact ih2 _ _ _ _ _ _ _ _ _
   | exact LeO.none _
   | refine LeO.ite ?_ ?_
   | refine LeO.bind ?_ (fun _ => ?_)
  ·intro y0 y1 y2 y3 y4 y5 y6 y7 y8
   unfold spec_l8Complete.l1
   repeat' first
   | (with_reducible exact ih0 _ _ _ _ _)
   | (with_reducible exact ih1 _ _ _ _ _ _)
   | (with_reducible exact ih2 _ _ _ _ _ _ _ _ _)
   | (with_reducible exact LeO.refl _)
   | (with_reducible exact LeO.none _)
   | (with_reducible refine LeO.ite ?_ ?_)
   | (with_reducible refine LeO.bind ?_ (fun _ => ?_))
   | exact ih0 _ _ _ _ _
   | exact ih1 _ _ _ _ _ _
   | exact ih2 _ _ _ _ _ _ _ _ _
   | exact LeO.none _
   | refine LeO.ite ?_ ?_
   | refine LeO.bind ?_ (fun _ => ?_)
theorem spec_l8Complete.mono : ∀ a0 a1 a2 a3 a4 k, LeO (spec_l8Complete.f k a0 a1 a2 a3 a4) (spec_l8Complete.f (k + 1) a0 a1 a2 a3 a4) := by
 intro a0 a1 a2 a3 a4 k
 obtain ⟨ih0, ih1, ih2⟩ := spec_l8Complete.mono_l k
 exact ih0 a0 a1 a2 a3 a4
def spec_l8Complete.T8 : Bool × List (List Nat × List Nat) := (true, [([], []), ([0], [0]), ([], []), ([], []), ([2, 3], [2, 3]), ([4], [4]), ([], []), ([6], [6]), ([], []), ([8], [8]), ([7, 9], [7, 9]), ([5, 10], [5, 10]), ([11], [11]), ([1, 1, 0, 1], [1]), ([12, 13, 0, 1, 2, 3, 4, 5, 6, 7, 8, 9, 10, 11, 12, 13], [12])])
def spec_l8Complete.B8 : List Nat := [0, 1, 0, 0, 12, 28, 0, 64, 0, 256, 960, 2044, 4092, 3, 16383]
theorem spec_l8Complete.tab8 : rtab .any (opsOf Try.f74 8) = spec_l8Complete.T8 := by kernel_rfl
theorem spec_l8Complete.bits8 : waitsOk spec_l8Complete.T8.2 spec_l8Complete.B8 = true := by kernel_rfl
set_option maxHeartbeats 8000000 in
set_option maxRecDepth 100000 in
theorem spec_l8Complete.calls (k : Nat) : ∀ (A0 : Option Addr) (c0 : Nat) (l0 : List (List (List Int))) (A1 : Option Addr) (c1 : Nat) (l1 : List Int) (a2 : Int) (P3_ : Nat → Prop) (u9000_ : Value) (l3 : List Int) (A4 : Option Addr) (c4 : Nat) (l4 : List Int) (r1 : List Int) (r2 : Bool) (w0 w : World) (hB : Below w0.heap.size w0 w) (hr0 : ∀ W_, Kept w W_ (fun k_ => P3_ k_) → Kd.C (Kd.slice 25 (Kd.slice 3 (Kd.int .i64))) W_ A0 l0.length l0) (hc0 : l0.length ≤ c0) (hr1 : ∀ W_, Kept w W_ (fun k_ => P3_ k_) → Kd.C (Kd.int .i64) W_ A1 l1.length l1) (hc1 : l1.length ≤ c1) (ho3 : Kd.R (Kd.int .i64) 3 w w0.heap.size P3_ u9000_ l3) (hr4 : ∀ W_, Kept w W_ (fun k_ => P3_ k_) → Kd.C (Kd.int .i64) W_ A4 l4.length l4) (hc4 : l4.length ≤ c4) (h : spec_l8Complete.f k l0 l1 a2 l3 l4 = some (r1, r2)),
  Calls Try.prog 74 #[.slice A0 l0.length c0, .slice A1 l1.length c1, .int .i64 a2, u9000_, .slice A4 l4.length c4] w fun e w' => ∃ v0_ : Value, e = .returned (.tuple #[v0_, .bool r2]) ∧ Kd.R (Kd.int .i64) 3 w' w0.heap.size (fun k_ => (P3_ k_ ∨ w.heap.size ≤ k_)) v0_ r1 ∧ Below w0.heap.size w0 w' ∧ Kept w w' (fun k_ => P3_ k_) := by
 induction k using Nat.strongRecOn with
 | _ k ih =>
 intro A0 c0 l0 A1 c1 l1 a2 P3_ u9000_ l3 A4 c4 l4 r1 r2 w0 w hB hr0 hc0 hr1 hc1 ho3 hr4 hc4 h
 cases k with
 | zero => exact absurd h (by simp [spec_l8Complete.f])
 | succ k =>
 simp only [spec_l8Complete.f] at h
 have HR0 := Aside0.mk hr0
 have HC0 := Aside0.mk hc0
 clear hr0 hc0
 have HR1 := Aside0.mk hr1
 have HC1 := Aside0.mk hc1
 clear hr1 hc1
 have HO3 := Aside0.mk (show Kd.R (Kd.int .i64) 3 w w0.heap.size (fun k_ => (P3_ k_ ∨ w.heap.size ≤ k_)) u9000_ l3 from Kd.R_mono ho3 (fun k_ hk => (.inl hk)))
 have HR4 := Aside0.mk hr4
 have HC4 := Aside0.mk hc4
 clear hr4 hc4
 have HK := Aside0.mk (Kept.refl w (fun k_ => P3_ k_))
 have HW0 := Aside0.mk hB.size
 have HB := Aside0.mk hB
 clear hB
 have H : (if 0 ≤ (wrap64 (a2 - (l3.length : Int))) then (if (wrap64 (a2 - (l3.length : Int))) < (l1.length : Int) then (if (wrap64 ((l0.length : Int) - (l4.length : Int))) > (rd l1 (wrap64 (a2 - (l3.length : Int)))) then (some ((([] : List Int)), false)) else (if (l3.length : Int) = a2 then (some (l3, true)) else (spec_l8Complete.l0 k l0 l1 a2 l3 l4 0))) else (none)) else (none)) = some (r1, r2) := h
 clear h
 obtain ⟨ji6, hji6⟩ : ∃ j_ : Int, (wrap64 (a2 - (l3.length : Int))) = j_ := ⟨_, rfl⟩
 replace H : (if 0 ≤ (ji6) then (if (ji6) < (l1.length : Int) then (if (wrap64 ((l0.length : Int) - (l4.length : Int))) > (rd l1 (ji6)) then (some ((([] : List Int)), false)) else (if (l3.length : Int) = a2 then (some (l3, true)) else (spec_l8Complete.l0 k l0 l1 a2 l3 l4 0))) else (none)) else (none)) = some (r1, r2) := by first | (rw [hji6] at H;exact H) | (simp only [hji6] at H ⊢;exact H)
 have hji6w : (IntKind.i64.wrap (a2 - (l3.length : Int))) = ji6 := (i64_w _).trans hji6
 by_cases c7 : 0 ≤ (ji6)
 ·rw [if_pos c7] at H
  have c7b0 : decide (0 ≤ (ji6)) = true := decide_eq_true c7
  clear c7
  by_cases c8 : (ji6) < (l1.length : Int)
  ·rw [if_pos c8] at H
   have c8b0 : decide ((ji6) < (l1.length : Int)) = true := decide_eq_true c8
   clear c8
   by_cases c9 : (wrap64 ((l0.length : Int) - (l4.length : Int))) > (rd l1 (ji6))
   ·rw [if_pos c9] at H
    have c9b0 : decide ((rd l1 (ji6)) < (wrap64 ((l0.length : Int) - (l4.length : Int)))) = true := decide_eq_true c9
    clear c9
    obtain ⟨y183, hy183⟩ : ∃ y_ : List Int, y_ = (([] : List Int)) := ⟨_, rfl⟩
    replace H : (some (y183, false)) = some (r1, r2) := by first | (rw [hy183];with_reducible exact H) | (have H2_ := (Option.bind_some _ _).symm.trans H;rw [hy183];with_reducible exact H2_) | (have H2_ := (Option.bind_some _ _).symm.trans H;with_reducible exact H2_) | with_reducible exact H | (rw [hy183];exact H) | exact H
    have Ny183 := Aside0.mk hy183
    clear hy183
    simp only [Option.some.injEq, Prod.mk.injEq] at H
    obtain ⟨rfl, rfl⟩ := H
    obtain ⟨Ao10, co10, eo10⟩ := Kd.R_slice HO3.out
    subst eo10
    have p182 : 0 ≤ ((ji6) : Int) := oA
    have q182 : (ji6) < (l1.length : Int) := oA
    obtain ⟨ad182, e182, hx182_0⟩ := Kd.at_int (Kd.C_kept_now HR1.out HK.out) (ji6) p182 q182
    cases e182
    replace p182 := eq_true p182
    replace q182 := eq_true q182
    go_enter Try.func74, Try.ntmps74
    go_wp2_with (first | ((with_reducible refine gate_dst (N := 31) rfl ?_);refine Kd.R_lit (Kd.int .i64) _ 3 ?hg (N := 31) ?hd (xs := ([] : List Int)) (inner := []) (ok := fun _ => True) (okp := fun _ => True) ?hr ?hp (fun _ hk => hk) trivial (Below.refl _ _) (Nat.le_refl _) (by simp) ?_;(case hd => rfl);(case hg => rfl);(case hr => first | (go_simp;done) | (go_simp;rfl));(case hp => exact (Reps.none _ _));intro v184 w11 ho12 hb hg_ hnew_;clear hg_ hnew_;(first | rw [← Ny183.out] at ho12 | (simp only [Int.reduceToNat] at ho12;rw [← Ny183.out] at ho12));have n0_ := Aside0.mk (Kd.R_elder' (by exact rP HO3.out) (Kd.R_base ho12) hb);have n1_ := Aside0.mk (Kd.R_lower (Kd.R_new' (Kd.R_newM (M := fun k_ => (P3_ k_ ∨ w.heap.size ≤ k_)) ho12 (by first | exact HK.out.1 | exact (show Kept w _ (fun k_ => P3_ k_) from by exact kE).1) (fun k_ h_ => .inr h_)) (Kd.R_lt (by exact rP HO3.out))) (below_size (by exact bB)));have n2_ := Aside0.mk (Kept.below (S := (fun k_ => P3_ k_)) (by exact kE) hb);have n3_ := Aside0.mk (below_step (by exact bB) hb);clear HO3;clear HK;clear HB;have HO3 := n0_;have HO185 := n1_;have HK := n2_;have HB := n3_;clear n0_ n1_ n2_ n3_;clear hb ho12))
    go_ret2
    exact ⟨_, by first | rfl | (simp [errW_none, errW_some] <;> rfl) | (simp only [← hji6];first | rfl | (simp [errW_none, errW_some] <;> rfl)) | (simp [*, errW_none, errW_some] <;> rfl), by refine rP ?_;exact Kd.R_mono HO185.out (fun _ hk => hk.1.1), by exact bB, by exact kE⟩
   ·rw [if_neg c9] at H
    have c9b0 : decide ((rd l1 (ji6)) < (wrap64 ((l0.length : Int) - (l4.length : Int)))) = false := decide_eq_false c9
    clear c9
    by_cases c13 : (l3.length : Int) = a2
    ·rw [if_pos c13] at H
     have c13b0 : ((l3.length : Int) == a2) = true := beq_iff_eq.mpr c13
     have c13b1 : ((l3.length : Int) != a2) = false := bne_eq_false_iff_eq.mpr c13
     clear c13
     simp only [Option.some.injEq, Prod.mk.injEq] at H
     obtain ⟨rfl, rfl⟩ := H
     obtain ⟨Ao14, co14, eo14⟩ := Kd.R_slice HO3.out
     subst eo14
     have p182 : 0 ≤ ((ji6) : Int) := oA
     have q182 : (ji6) < (l1.length : Int) := oA
     obtain ⟨ad182, e182, hx182_0⟩ := Kd.at_int (Kd.C_kept_now HR1.out HK.out) (ji6) p182 q182
     cases e182
     replace p182 := eq_true p182
     replace q182 := eq_true q182
     go_enter Try.func74, Try.ntmps74
     go_wp2
     go_ret2
     exact ⟨_, by first | rfl | (simp [errW_none, errW_some] <;> rfl) | (simp only [← hji6];first | rfl | (simp [errW_none, errW_some] <;> rfl)) | (simp [*, errW_none, errW_some] <;> rfl), by exact rP HO3.out, by exact bB, by exact kE⟩
    ·rw [if_neg c13] at H
     have c13b0 : ((l3.length : Int) == a2) = false := beq_eq_false_iff_ne.mpr c13
     have c13b1 : ((l3.length : Int) != a2) = true := bne_iff_ne.mpr c13
     have H' := Aside0.mk H
     clear H
     obtain ⟨Ao15, co15, eo15⟩ := Kd.R_slice HO3.out
     subst eo15
     have p182 : 0 ≤ ((ji6) : Int) := oA
     have q182 : (ji6) < (l1.length : Int) := oA
     obtain ⟨ad182, e182, hx182_0⟩ := Kd.at_int (Kd.C_kept_now HR1.out HK.out) (ji6) p182 q182
     cases e182
     replace p182 := eq_true p182
     replace q182 := eq_true q182
     go_enter Try.func74, Try.ntmps74
     go_wp2
     go_loopg [12] k (fun kq v12 w' => ∃ (x12_1 : Int), v12 = .int .i64 x12_1 ∧ Aside0 (spec_l8Complete.l0 kq l0 l1 a2 l3 l4 x12_1 = some (r1, r2)) ∧ Aside0 (kq ≤ k) ∧ Aside0 (Kd.R (Kd.int .i64) 3 w' w0.heap.size (fun k_ => (P3_ k_ ∨ w.heap.size ≤ k_)) (.slice Ao15 l3.length co15) l3) ∧ Aside0 (Kept w w' (fun k_ => P3_ k_)) ∧ Aside0 (Below w0.heap.size w0 w'))
     case atStart => exact ⟨(0), (by first | rfl | (simp;done) | (simp [*];done)), H', ⟨Nat.le_refl _⟩, ⟨by exact rP HO3.out⟩, ⟨by exact kE⟩, ⟨by exact bB⟩⟩
     case round =>
      clear H'
      try clear c1
      try clear p1
      try clear q1
      try clear hx1
      try clear p2
      try clear c4
      try clear p6
      try clear c7
      try clear c7b0
      try clear c8
      try clear c8b0
      try clear c9
      try clear c9b0
      try clear c13
      try clear c13b0
      try clear c13b1
      try clear hx182_0
      try clear p182
      try clear q182
      obtain ⟨x12_1, rfl, HA, HK1, HO_3, HK, HB⟩ := hrel
      cases gk with
      | zero => exact absurd HA.out (by simp [spec_l8Complete.l0])
      | succ k1 =>
       have H := HA.out
       clear HA
       simp only [spec_l8Complete.l0] at H
       by_cases c16 : x12_1 < (l0.length : Int)
       ·rw [if_pos c16] at H
        have c16b0 : decide (x12_1 < (l0.length : Int)) = true := decide_eq_true c16
        clear c16
        replace H := Option.bind_eq_some_iff.mp H
        obtain ⟨t189, A170, H⟩ := H
        replace H : (if 0 ≤ x12_1 then (if 0 ≤ (wrap64 ((wrap64 (a2 - 1)) - (l3.length : Int))) then (if (wrap64 ((wrap64 (a2 - 1)) - (l3.length : Int))) < ((rd_L3 l0 x12_1).length : Int) then (spec_l8Complete.l1 k1 l0 l1 a2 l3 l4 x12_1 t189 (rd_L2 (rd_L3 l0 x12_1) (wrap64 ((wrap64 (a2 - 1)) - (l3.length : Int)))) 0) else (none)) else (none)) else (none)) = some (r1, r2) := H
        have A17 := Aside0.mk A170
        clear A170
        by_cases c18 : 0 ≤ x12_1
        ·rw [if_pos c18] at H
         have c18b0 : decide (0 ≤ x12_1) = true := decide_eq_true c18
         clear c18
         obtain ⟨ji19, hji19⟩ : ∃ j_ : Int, (wrap64 ((wrap64 (a2 - 1)) - (l3.length : Int))) = j_ := ⟨_, rfl⟩
         replace H : (if 0 ≤ (ji19) then (if (ji19) < ((rd_L3 l0 x12_1).length : Int) then (spec_l8Complete.l1 k1 l0 l1 a2 l3 l4 x12_1 t189 (rd_L2 (rd_L3 l0 x12_1) (ji19)) 0) else (none)) else (none)) = some (r1, r2) := by first | (rw [hji19] at H;exact H) | (simp only [hji19] at H ⊢;exact H)
         (try rw [hji19] at A17)
         have hji19w : (IntKind.i64.wrap ((wrap64 (a2 - 1)) - (l3.length : Int))) = ji19 := (i64_w _).trans hji19
         by_cases c20 : 0 ≤ (ji19)
         ·rw [if_pos c20] at H
          have c20b0 : decide (0 ≤ (ji19)) = true := decide_eq_true c20
          clear c20
          by_cases c21 : (ji19) < ((rd_L3 l0 x12_1).length : Int)
          ·rw [if_pos c21] at H
           have c21b0 : decide ((ji19) < ((rd_L3 l0 x12_1).length : Int)) = true := decide_eq_true c21
           clear c21
           have H' := Aside0.mk H
           clear H
           try go_wp2
           have n0_ := Aside0.mk (Kd.R_drew HO_3.out)
           have n1_ := Aside0.mk (Kept.drew HK.out)
           have n2_ := Aside0.mk (below_drew1 HB.out)
           clear HO_3
           clear HK
           clear HB
           have HO_3 := n0_
           have HK := n1_
           have HB := n2_
           clear n0_ n1_ n2_
           have p192 : 0 ≤ (x12_1 : Int) := oA
           have q192 : x12_1 < (l0.length : Int) := oA
           obtain ⟨ad192, A192_0, c192_0, e192, hx192_0, hl192_0, hi192_0⟩ := at_L3 (Kd.C_kept_now HR0.out HK.out) x12_1 p192 q192
           have hw192_0 := hx192_0
           cases e192
           have HR192_0 := Aside0.mk hi192_0
           have HC192_0 := Aside0.mk hl192_0
           clear hi192_0 hl192_0
           replace p192 := eq_true p192
           replace q192 := eq_true q192
           have p193 : 0 ≤ ((ji19) : Int) := oA
           have q193 : (ji19) < ((rd_L3 l0 x12_1).length : Int) := oA
           obtain ⟨ad193, A193_0, c193_0, e193, hx193_0, hl193_0, hi193_0⟩ := at_L2 (by repeat (first | (with_reducible exact HR192_0.out) | (with_reducible refine Kd.C_alloc ?_ _) | (with_reducible refine Kd.C_drewN ?_ _) | (with_reducible refine Kd.C_drew ?_) | exact HR192_0.out)) (ji19) p193 q193
           cases e193
           have hk192_ := slice_kept_at (d := Kd.slice 3 (Kd.int .i64)) HR0.out x12_1 (of_eq_true p192) (of_eq_true q192) HK.out rfl hw192_0
           have HKR193 := Aside0.mk (slice_kept_at (d := Kd.int .i64) hk192_ (ji19) p193 q193 HK.out rfl hx193_0)
           clear hk192_
           have HR193_0 := Aside0.mk hi193_0
           have HC193_0 := Aside0.mk hl193_0
           clear hi193_0 hl193_0
           replace p193 := eq_true p193
           replace q193 := eq_true q193
           refine start_ (n := 15) (S := fun w' => w'.cell? (ad192.add (x12_1).toNat) = some (.slice (some ad193) (rd_L3 l0 x12_1).length c192_0) ∧ w'.cell? (ad193.add ((ji19)).toNat) = some (.slice A193_0 (rd_L2 (rd_L3 l0 x12_1) (ji19)).length c193_0)) (ds := []) #[false,false,false,false,false,false,false,false,false,false,false,false,false,false,false] (by kernel_rfl) rfl rfl ⟨hx192_0, hx193_0⟩ (fun hHeld => ?_);refine with_tabW spec_l8Complete.tab8 spec_l8Complete.bits8 (fun HT_ HW_ => ?_)
           generalize wr.drew = w22 at HO_3 HK HB HR192_0 HR193_0 hx192_0 hx193_0 hHeld ⊢
           refine pure_ (i := 0) (N := some 43) (v := ?_) (a' := ?_) #[true,false,false,false,false,false,false,false,false,false,false,false,false,false,false] rfl rfl (any_of HT_.out (by kernel_rfl)) (fun _ _ _ h => h) (Or.inl ⟨by rfl, ?_⟩) ?_ ?_
           rotate_left
           ·intro w'
            go_simp
            with_reducible rfl
           rotate_left
           ·simp only [Act.put, List.setIfInBounds_toArray, List.set_cons_zero, List.set_cons_succ, i64_w, i32_w]
            rfl
           refine pure_ (i := 2) (N := some 45) (v := ?_) (a' := ?_) #[true,false,true,false,false,false,false,false,false,false,false,false,false,false,false] rfl rfl (any_of HT_.out (by kernel_rfl)) (fun _ _ _ h => h) (Or.inl ⟨by rfl, ?_⟩) ?_ ?_
           rotate_left
           ·intro w'
            go_simp
            with_reducible rfl
           rotate_left
           ·simp only [Act.put, List.setIfInBounds_toArray, List.set_cons_zero, List.set_cons_succ, i64_w, i32_w]
            rfl
           refine pure_ (i := 3) (N := some 46) (v := ?_) (a' := ?_) #[true,false,true,true,false,false,false,false,false,false,false,false,false,false,false] rfl rfl (any_of HT_.out (by kernel_rfl)) (fun _ _ _ h => h) (Or.inl ⟨by rfl, ?_⟩) ?_ ?_
           rotate_left
           ·intro w'
            go_simp
            with_reducible rfl
           rotate_left
           ·simp only [Act.put, List.setIfInBounds_toArray, List.set_cons_zero, List.set_cons_succ, i64_w, i32_w]
            rfl
           refine pure_ (i := 4) (N := some 47) (v := ?_) (a' := ?_) #[true,false,true,true,true,false,false,false,false,false,false,false,false,false,false] rfl rfl (any_of HT_.out (by kernel_rfl)) (fun _ _ _ h => h) (Or.inl ⟨by rfl, ?_⟩) ?_ ?_
           rotate_left
           ·intro w'
            go_simp
            with_reducible rfl
           rotate_left
           ·simp only [Act.put, List.setIfInBounds_toArray, List.set_cons_zero, List.set_cons_succ, i64_w, i32_w]
            rfl
           refine pure_ (i := 6) (N := some 49) (v := ?_) (a' := ?_) #[true,false,true,true,true,false,true,false,false,false,false,false,false,false,false] rfl rfl (any_of HT_.out (by kernel_rfl)) (fun _ _ _ h => h) (Or.inl ⟨by rfl, ?_⟩) ?_ ?_
           rotate_left
           ·intro w'
            go_simp
            with_reducible rfl
           rotate_left
           ·simp only [Act.put, List.setIfInBounds_toArray, List.set_cons_zero, List.set_cons_succ, i64_w, i32_w]
            rfl
           refine pure_ (i := 7) (N := some 50) (v := ?_) (a' := ?_) #[true,false,true,true,true,false,true,true,false,false,false,false,false,false,false] rfl rfl (any_of HT_.out (by kernel_rfl)) (fun _ _ _ h => h) (Or.inl ⟨by rfl, ?_⟩) ?_ ?_
           rotate_left
           ·intro w'
            go_simp
            with_reducible rfl
           rotate_left
           ·simp only [Act.put, List.setIfInBounds_toArray, List.set_cons_zero, List.set_cons_succ, i64_w, i32_w]
            rfl
           refine pure_ (i := 8) (N := some 51) (v := ?_) (a' := ?_) #[true,false,true,true,true,false,true,true,true,false,false,false,false,false,false] rfl rfl (any_of HT_.out (by kernel_rfl)) (fun _ _ _ h => h) (Or.inl ⟨by rfl, ?_⟩) ?_ ?_
           rotate_left
           ·intro w'
            go_simp
            with_reducible rfl
           rotate_left
           ·simp only [Act.put, List.setIfInBounds_toArray, List.set_cons_zero, List.set_cons_succ, i64_w, i32_w]
            rfl
           refine pure_ (i := 9) (N := some 52) (v := ?_) (a' := ?_) #[true,false,true,true,true,false,true,true,true,true,false,false,false,false,false] rfl rfl (any_of HT_.out (by kernel_rfl)) (fun _ _ _ h => h) (Or.inl ⟨by rfl, ?_⟩) ?_ ?_
           rotate_left
           ·intro w'
            go_simp
            with_reducible rfl
           rotate_left
           ·simp only [Act.put, List.setIfInBounds_toArray, List.set_cons_zero, List.set_cons_succ, i64_w, i32_w]
            rfl
           refine pure_ (i := 10) (N := some 53) (v := ?_) (a' := ?_) #[true,false,true,true,true,false,true,true,true,true,true,false,false,false,false] rfl rfl (any_of HT_.out (by kernel_rfl)) (fun _ _ _ h => h) (Or.inl ⟨by rfl, ?_⟩) ?_ ?_
           rotate_left
           ·intro w'
            go_simp
            with_reducible rfl
           rotate_left
           ·simp only [Act.put, List.setIfInBounds_toArray, List.set_cons_zero, List.set_cons_succ, i64_w, i32_w]
            rfl
           refine take_ (i := 5) (N := some 48) (v := ?_) (a' := ?_) #[true,false,true,true,true,true,true,true,true,true,true,false,false,false,false] rfl rfl (take_ofW HT_.out HW_.out (by kernel_rfl)) (fun _ _ _ h => h) (Or.inl ⟨by rfl, ?_⟩) hHeld ?_ ?_
           rotate_left
           ·rintro w' ⟨s0, s1⟩
            go_simp
            with_reducible rfl
           rotate_left
           ·simp only [Act.put, List.setIfInBounds_toArray, List.set_cons_zero, List.set_cons_succ, i64_w, i32_w]
            rfl
           refine pure_ (i := 11) (N := some 54) (v := ?_) (a' := ?_) #[true,false,true,true,true,true,true,true,true,true,true,true,false,false,false] rfl rfl (any_of HT_.out (by kernel_rfl)) (fun _ _ _ h => h) (Or.inl ⟨by rfl, ?_⟩) ?_ ?_
           rotate_left
           ·intro w'
            go_simp
            with_reducible rfl
           rotate_left
           ·simp only [Act.put, List.setIfInBounds_toArray, List.set_cons_zero, List.set_cons_succ, i64_w, i32_w]
            rfl
           refine take_ (i := 12) (N := some 55) (v := ?_) (a' := ?_) #[true,false,true,true,true,true,true,true,true,true,true,true,true,false,false] rfl rfl (take_ofW HT_.out HW_.out (by kernel_rfl)) (fun _ _ _ h => h) (Or.inl ⟨by rfl, ?_⟩) hHeld ?_ ?_
           rotate_left
           ·rintro w' ⟨s0, s1⟩
            go_simp
            with_reducible rfl
           rotate_left
           ·simp only [Act.put, List.setIfInBounds_toArray, List.set_cons_zero, List.set_cons_succ, i64_w, i32_w]
            rfl
           refine one_ (i := 1) (N := some 44) #[true,true,true,true,true,true,true,true,true,true,true,true,true,false,false] rfl rfl (one_of HT_.out (by kernel_rfl)) (by decide) (fun K hK => ?_)
           refine goes_ Try.func104 (by kernel_rfl) rfl #[.slice A4 l4.length c4] (by rfl) rfl rfl mM ?_
           with_reducible refine (spec_l1Own.calls _ _ l4 t189 _ ?side1 ?side2 A17.out).mono ?_
           (case side1 => exact Kd.C_kept_now HR4.out (by exact kE))
           (case side2 => exact HC4.out)
           rintro e w23 ⟨v190, rfl, ho0, hb⟩
           have HS0_ := (hb.cell (World.block_lt_of_cell? _ _ (hHeld.1))).trans (hHeld.1)
           have HS1_ := (hb.cell (World.block_lt_of_cell? _ _ (hHeld.2))).trans (hHeld.2)
           refine ⟨_, rfl, ?_⟩
           have n0_ := Aside0.mk (Kd.R_elder' (by exact rP HO_3.out) (Kd.R_base ho0) hb)
           have n1_ := Aside0.mk (Kd.R_lower (Kd.R_new' (Kd.R_newM (M := fun k_ => (P3_ k_ ∨ w.heap.size ≤ k_)) ho0 (by first | exact HK.out.1 | exact (show Kept w _ (fun k_ => P3_ k_) from by exact kE).1) (fun k_ h_ => .inr h_)) (Kd.R_lt (by exact rP HO_3.out))) (below_size (by exact bB)))
           have n2_ := Aside0.mk (Kd.C_below (by repeat (first | (with_reducible exact HR192_0.out) | (with_reducible refine Kd.C_alloc ?_ _) | (with_reducible refine Kd.C_drewN ?_ _) | (with_reducible refine Kd.C_drew ?_) | exact HR192_0.out)) hb)
           have n3_ := Aside0.mk (Kd.C_below (by repeat (first | (with_reducible exact HR193_0.out) | (with_reducible refine Kd.C_alloc ?_ _) | (with_reducible refine Kd.C_drewN ?_ _) | (with_reducible refine Kd.C_drew ?_) | exact HR193_0.out)) hb)
           have n4_ := Aside0.mk (Kept.below (S := (fun k_ => P3_ k_)) (by exact kE) hb)
           have n5_ := Aside0.mk (below_step (by exact bB) hb)
           clear HO_3
           clear HR192_0
           clear HR193_0
           clear HK
           clear HB
           have HO_3 := n0_
           have HO191 := n1_
           have HR192_0 := n2_
           have HR193_0 := n3_
           have HK := n4_
           have HB := n5_
           clear n0_ n1_ n2_ n3_ n4_ n5_
           (try clear hb)
           (try clear hb2)
           (try clear hk)
           (try clear hi)
           (try clear ho0)
           refine hK.out _ _ ⟨HS0_, HS1_⟩ (fun hHeld => ?_)
           clear hK K
           refine norm_ (a' := ?_) ?_ ?_
           rotate_left
           ·show Act.put _ (some 44) _ = _
            simp only [Act.put, List.setIfInBounds_toArray, List.set_cons_zero, List.set_cons_succ, i64_w, i32_w]
            rfl
           refine pure_ (i := 13) (N := some 13) (v := ?_) (a' := ?_) #[true,true,true,true,true,true,true,true,true,true,true,true,true,true,false] rfl rfl (any_of HT_.out (by kernel_rfl)) (fun _ _ _ h => h) (Or.inl ⟨by rfl, ?_⟩) ?_ ?_
           rotate_left
           ·intro w'
            go_simp
            with_reducible rfl
           rotate_left
           ·simp only [Act.put, List.setIfInBounds_toArray, List.set_cons_zero, List.set_cons_succ, i64_w, i32_w]
            rfl
           refine pure_ (i := 14) (N := some 14) (v := ?_) (a' := ?_) #[true,true,true,true,true,true,true,true,true,true,true,true,true,true,true] rfl rfl (any_of HT_.out (by kernel_rfl)) (fun _ _ _ h => h) (Or.inl ⟨by rfl, ?_⟩) ?_ ?_
           rotate_left
           ·intro w'
            go_simp
            with_reducible rfl
           rotate_left
           ·simp only [Act.put, List.setIfInBounds_toArray, List.set_cons_zero, List.set_cons_succ, i64_w, i32_w]
            rfl
           refine done_ (done_of HT_.out (by kernel_rfl)) ?_
           try go_wp2
           go_loopg [13, 15] k1 (fun kq v13 v15 w' => ∃ (x13_2 : List Int) (x15_2 : Int), v15 = .int .i64 x15_2 ∧ Aside0 (spec_l8Complete.l1 kq l0 l1 a2 l3 l4 x12_1 x13_2 (rd_L2 (rd_L3 l0 x12_1) (ji19)) x15_2 = some (r1, r2)) ∧ Aside0 (kq ≤ k1) ∧ Aside0 (Kd.R (Kd.int .i64) 3 w' w0.heap.size (fun k_ => (P3_ k_ ∨ w.heap.size ≤ k_) ∧ some k_ ≠ (v13 : Value).ownBlock) (.slice Ao15 l3.length co15) l3) ∧ Aside0 (Kd.R (Kd.int .i64) 3 w' w0.heap.size (fun k_ => (P3_ k_ ∨ w.heap.size ≤ k_) ∧ some k_ ≠ ((.slice Ao15 l3.length co15) : Value).ownBlock) v13 x13_2) ∧ Aside0 (Kept w w' (fun k_ => P3_ k_)) ∧ Aside0 (Below w0.heap.size w0 w'))
           case atStart => exact ⟨(t189), (0), (by first | rfl | (simp;done) | (simp [*];done)), H', ⟨Nat.le_refl _⟩, ⟨by exact rP HO_3.out⟩, ⟨by refine rP ?_;exact Kd.R_mono HO191.out (fun _ hk => ⟨hk.1.1, hk.2⟩)⟩, ⟨by exact kE⟩, ⟨by exact bB⟩⟩
           case round =>
            clear H'
            try clear c1
            try clear p1
            try clear q1
            try clear hx1
            try clear c2
            try clear p2
            try clear c4
            try clear p6
            try clear c7
            try clear c7b0
            try clear c8
            try clear c8b0
            try clear c9
            try clear c9b0
            try clear c10
            try clear c13
            try clear c13b0
            try clear c13b1
            try clear c16
            try clear c16b0
            try clear c18
            try clear c18b0
            try clear p18
            try clear q18
            try clear hx18
            try clear c19
            try clear p19
            try clear q19
            try clear hx19
            try clear c20
            try clear c20b0
            try clear c21
            try clear c21b0
            try clear hx182_0
            try clear hx192_0
            try clear hx193_0
            try clear p1
            try clear p182
            try clear p192
            try clear p193
            try clear p2
            try clear p6
            try clear q1
            try clear q182
            try clear q192
            try clear q193
            obtain ⟨x13_2, x15_2, rfl, HA, HK2, HO_3, HO_13, HK, HB⟩ := hrel
            cases gk with
            | zero => exact absurd HA.out (by simp [spec_l8Complete.l1])
            | succ k2 =>
             have H := HA.out
             clear HA
             simp only [spec_l8Complete.l1] at H
             by_cases c24 : x15_2 < ((rd_L2 (rd_L3 l0 x12_1) (ji19)).length : Int)
             ·rw [if_pos c24] at H
              have c24b0 : decide (x15_2 < ((rd_L2 (rd_L3 l0 x12_1) (ji19)).length : Int)) = true := decide_eq_true c24
              clear c24
              by_cases c25 : 0 ≤ x15_2
              ·rw [if_pos c25] at H
               have c25b0 : decide (0 ≤ x15_2) = true := decide_eq_true c25
               clear c25
               replace H := Option.bind_eq_some_iff.mp H
               obtain ⟨t195, A260, H⟩ := H
               replace H : (spec_l8Complete.l1 k2 l0 l1 a2 l3 l4 x12_1 t195 (rd_L2 (rd_L3 l0 x12_1) (ji19)) (wrap64 (x15_2 + 1))) = some (r1, r2) := H
               have A26 := Aside0.mk A260
               clear A260
               have H' := Aside0.mk H
               clear H
               have p194 : 0 ≤ (x15_2 : Int) := oA
               have q194 : x15_2 < ((rd_L2 (rd_L3 l0 x12_1) (ji19)).length : Int) := oA
               obtain ⟨ad194, e194, hx194_0⟩ := Kd.at_int (HKR193.out _ HK.out) x15_2 p194 q194
               cases e194
               replace p194 := eq_true p194
               replace q194 := eq_true q194
               obtain ⟨Ao27, co27, eo27⟩ := Kd.R_slice HO_13.out
               subst eo27
               go_wp2_with (first | ((with_reducible refine gate_callee (f := 105) rfl ?_);refine goesL_ (some 67) rfl rfl Try.func105 (by kernel_rfl) rfl #[.slice Ao27 x13_2.length co27, .int .i64 (rd (rd_L2 (rd_L3 l0 x12_1) (ji19)) x15_2)] rfl (by (try simp only [List.map_toArray, List.map_cons, List.map_nil]);first | done | (simp only [hji19];rfl) | rfl | (simp only [List.length_drop, List.length_take];rfl)) ?_;(with_reducible refine (spec_l1Put.calls (fun k_ => some k_ = (.slice Ao27 x13_2.length co27 : Value).ownBlock) (.slice Ao27 x13_2.length co27) x13_2 (rd (rd_L2 (rd_L3 l0 x12_1) (ji19)) x15_2) t195 w0 _ ?side1 ?side2 A26.out).mono ?_);(case side1 => exact bB);(case side2 => exact Kd.R_tight rfl HO_13.out);rintro e w28 ⟨v196, rfl, ho0, hb, hkp⟩;refine ⟨_, rfl, ?_⟩;have n0_ := Aside0.mk (Kd.R_mono (ok' := fun k_ => (P3_ k_ ∨ w.heap.size ≤ k_) ∧ some k_ ≠ (v196 : Value).ownBlock) (Kd.R_keptB (HO_3.out) hkp (fun k_ hk_ hs_ => (hk_.2) hs_)) (fun k_ hk_ => ⟨hk_.1.1, fun e_ => Or.elim (ho0.1 k_ e_.symm) (fun hs_ => hk_.2.1 hs_) (fun hn_ => Nat.not_le.2 hk_.2.2 hn_)⟩));have n1_ := Aside0.mk (Kd.R_mono (ok' := fun k_ => (P3_ k_ ∨ w.heap.size ≤ k_) ∧ some k_ ≠ (.slice Ao15 l3.length co15 : Value).ownBlock) ho0 (fun k_ hk_ => ⟨Or.elim hk_ (fun hs_ => (HO_13.out.1 k_ (hs_).symm).1) (fun hn_ => (.inr (Nat.le_trans (by first | exact HK.out.1 | exact (show Kept w _ (fun k_ => P3_ k_) from by exact kE).1) hn_))), Or.elim hk_ (fun hs_ => fun e_ => (((HO_3.out).1 k_ e_.symm).2) hs_) (fun hn_ => (Kd.fresh' (Kd.R_lt (by exact rP HO_3.out)) k_ hn_))⟩));have n2_ := Aside0.mk (Kept.then_ (S := (fun k_ => P3_ k_)) (by exact kE) hkp (fun k_ hs_ => (fun e_ => (HO_13.out.1 k_ e_.symm).1) hs_));have n3_ := Aside0.mk (hb);clear HO_3;clear HK;clear HB;clear HO_13;have HO_3 := n0_;have HO197 := n1_;have HK := n2_;have HB := n3_;clear n0_ n1_ n2_ n3_;(try clear hb);(try clear hkp);(try clear ho0)))
               go_roundg k2
               case measure => have := HK1.out;have := HK2.out;omega
               case rel => exact ⟨(t195), (wrap64 (x15_2 + 1)), (by first | rfl | (simp;done) | (simp [*];done)), H', ⟨by have := HK1.out;have := HK2.out;omega⟩, ⟨by exact rP HO_3.out⟩, ⟨by exact rP HO197.out⟩, ⟨by exact kE⟩, ⟨by exact bB⟩⟩
              ·rw [if_neg c25] at H
               exact absurd H (by simp)
             ·rw [if_neg c24] at H
              have c24b0 : decide (x15_2 < ((rd_L2 (rd_L3 l0 x12_1) (ji19)).length : Int)) = false := decide_eq_false c24
              clear c24
              replace H := Option.bind_eq_some_iff.mp H
              obtain ⟨t198, A290, H⟩ := H
              replace H : (if t198.length < 17592186044416 then ((spec_l8Complete.f k2 l0 l1 a2 (t198 ++ [x12_1]) x13_2).bind fun bt204 => (if bt204.2 = true then (some (bt204.1, true)) else (spec_l8Complete.l0 k2 l0 l1 a2 l3 l4 (wrap64 (x12_1 + 1))))) else (none)) = some (r1, r2) := H
              have A29 := Aside0.mk A290
              clear A290
              by_cases c30 : t198.length < 17592186044416
              ·rw [if_pos c30] at H
               have LMc30 := Aside0.mk c30
               clear c30
               obtain ⟨y201, hy201⟩ : ∃ y_ : List Int, y_ = (t198 ++ [x12_1]) := ⟨_, rfl⟩
               replace H : ((spec_l8Complete.f k2 l0 l1 a2 y201 x13_2).bind fun bt204 => (if bt204.2 = true then (some (bt204.1, true)) else (spec_l8Complete.l0 k2 l0 l1 a2 l3 l4 (wrap64 (x12_1 + 1))))) = some (r1, r2) := by first | (rw [hy201];with_reducible exact H) | (have H2_ := (Option.bind_some _ _).symm.trans H;rw [hy201];with_reducible exact H2_) | (have H2_ := (Option.bind_some _ _).symm.trans H;with_reducible exact H2_) | with_reducible exact H | (rw [hy201];exact H) | exact H
               have Ny201 := Aside0.mk hy201
               clear hy201
               replace H := Option.bind_eq_some_iff.mp H
               obtain ⟨⟨t204, t207⟩, A310, H⟩ := H
               replace H : (if t207 = true then (some (t204, true)) else (spec_l8Complete.l0 k2 l0 l1 a2 l3 l4 (wrap64 (x12_1 + 1)))) = some (r1, r2) := H
               have A31 := Aside0.mk A310
               clear A310
               by_cases c32 : t207 = true
               ·subst c32
                have H1 : (some (t204, true)) = some (r1, r2) := by rw [if_pos rfl] at H;exact H
                clear H
                have H := H1
                clear H1
                simp only [Option.some.injEq, Prod.mk.injEq] at H
                obtain ⟨rfl, rfl⟩ := H
                go_wp2_with (first | ((with_reducible refine gate_callee (f := 104) rfl ?_);refine goesL_ (some 73) rfl rfl Try.func104 (by kernel_rfl) rfl #[.slice Ao15 l3.length co15] rfl mM ?_;(with_reducible refine (spec_l1Own.calls _ _ l3 t198 _ ?side1 ?side2 A29.out).mono ?_);(case side1 => exact cP (Kd.R_reads' HO_3.out).2.2);(case side2 => exact (Kd.R_reads' HO_3.out).2.1);rintro e w33 ⟨v199, rfl, ho0, hb⟩;refine ⟨_, rfl, ?_⟩;have n0_ := Aside0.mk (Kd.R_elder' (by exact rP HO_3.out) (Kd.R_base ho0) hb);have n1_ := Aside0.mk (Kd.R_elder' (by exact rP HO_13.out) (Kd.R_base ho0) hb);have n2_ := Aside0.mk (Kd.R_lower (Kd.R_new' (Kd.R_new' (Kd.R_newM (M := fun k_ => (P3_ k_ ∨ w.heap.size ≤ k_)) ho0 (by first | exact HK.out.1 | exact (show Kept w _ (fun k_ => P3_ k_) from by exact kE).1) (fun k_ h_ => .inr h_)) (Kd.R_lt (by exact rP HO_3.out))) (Kd.R_lt (by exact rP HO_13.out))) (below_size (by exact bB)));have n3_ := Aside0.mk (Kept.below (S := (fun k_ => P3_ k_)) (by exact kE) hb);have n4_ := Aside0.mk (below_step (by exact bB) hb);clear HO_3;clear HO_13;clear HK;clear HB;have HO_3 := n0_;have HO_13 := n1_;have HO200 := n2_;have HK := n3_;have HB := n4_;clear n0_ n1_ n2_ n3_ n4_;(try clear hb);(try clear hb2);(try clear hk);(try clear hi);(try clear ho0)) | ((with_reducible refine gate_builtin (b := .append) (xs := #[.tmp 73, .tmp 75]) rfl ?_);at_builtin;refine Kd.R_append (Kd.int .i64) (w0 := w0) w0.heap.size rfl (.tmp 73) (.tmp 75) 25 3 (.int .i64 0) 8 rfl Try.underlying25 info3 rfl (by decide) (by omega) v199 t198 x12_1 [.int .i64 x12_1] (fun k_ => (P3_ k_ ∨ w.heap.size ≤ k_) ∧ some k_ ≠ (.slice Ao15 l3.length co15 : Value).ownBlock ∧ some k_ ≠ (u13 : Value).ownBlock) (fun _ => False) rfl rfl ?aP (fun _ hk => hk.elim) ?aF ?aO ?aB ?aS ?aL ?_;(case aP => exact rfl);(case aB => exact (by exact bB));(case aF => exact (fun k_ hk => ⟨(.inr (Nat.le_trans (by first | exact HK.out.1 | exact (show Kept w _ (fun k_ => P3_ k_) from by exact kE).1) hk)), Kd.fresh' (Kd.R_lt (by exact rP HO_3.out)) k_ hk, Kd.fresh' (Kd.R_lt (by exact rP HO_13.out)) k_ hk⟩));(case aO => exact (by refine rP ?_;exact Kd.R_mono HO200.out (fun _ hk => ⟨hk.1.1.1, ⟨hk.1.2, hk.2⟩⟩)));(case aS => exact (below_size (by exact bB)));(case aL => have := LMc30.out;omega);intro v202 w34 ho hb hg hat;rw [← Ny201.out] at ho;have n0_ := Aside0.mk (Kd.R_after (ok := (fun k_ => (P3_ k_ ∨ w.heap.size ≤ k_) ∧ some k_ ≠ (u13 : Value).ownBlock)) (by exact rP HO_3.out) hg hat);have n1_ := Aside0.mk (Kd.R_after (ok := (fun k_ => (P3_ k_ ∨ w.heap.size ≤ k_) ∧ some k_ ≠ (.slice Ao15 l3.length co15 : Value).ownBlock)) (by exact rP HO_13.out) hg hat);have n2_ := Aside0.mk (hb);have n3_ := Aside0.mk (Kept.of_grown (S := (fun k_ => P3_ k_)) hg (by exact kE) (fun k_ e_ => (HO200.out.1 k_ e_).1.1.1));have n4_ := Aside0.mk (ho);clear HO_3;clear HO_13;clear HB;clear HK;clear HO200;have HO_3 := n0_;have HO_13 := n1_;have HB := n2_;have HK := n3_;have HO203 := n4_;clear n0_ n1_ n2_ n3_ n4_;clear ho hb hg hat;obtain ⟨Ao35, co35, eo35⟩ := Kd.R_slice HO203.out;subst eo35;obtain ⟨Ao36, co36, eo36⟩ := Kd.R_slice HO_13.out;subst eo36) | ((with_reducible refine gate_callee (f := 74) rfl ?_);refine goesL_ (some 78) rfl rfl Try.func74 (by kernel_rfl) rfl #[.slice (some ad192) l0.length c0, .slice (some ad182) l1.length c1, .int .i64 a2, .slice Ao35 y201.length co35, .slice Ao36 x13_2.length co36] rfl mM ?_;(with_reducible refine (ih k2 (by have := HK1.out;have := HK2.out;omega) _ _ l0 _ _ l1 a2 (fun k_ => some k_ = (.slice Ao35 y201.length co35 : Value).ownBlock) (.slice Ao35 y201.length co35) y201 _ _ x13_2 t204 true w0 _ ?side1 ?side2 ?side3 ?side4 ?side5 ?side6 ?side7 ?side8 A31.out).mono ?_);(case side1 => exact bB);(case side2 => exact Kd.C_kept_call HR0.out (by exact kE) (fun k_ hs_ => (fun e_ => (HO203.out.1 k_ e_.symm).1) hs_));(case side3 => exact HC0.out);(case side4 => exact Kd.C_kept_call HR1.out (by exact kE) (fun k_ hs_ => (fun e_ => (HO203.out.1 k_ e_.symm).1) hs_));(case side5 => exact HC1.out);(case side6 => exact Kd.R_tight rfl HO203.out);(case side7 => exact Kd.C_kept_own (HO_13.out) (fun k_ hk_ hs_ => (hk_.2) hs_));(case side8 => exact (Kd.R_reads' HO_13.out).2.1);rintro e w37 ⟨v205, rfl, ho0, hb, hkp⟩;refine ⟨_, rfl, ?_⟩;have n0_ := Aside0.mk (Kd.R_mono (ok' := fun k_ => (P3_ k_ ∨ w.heap.size ≤ k_) ∧ some k_ ≠ (.slice Ao36 x13_2.length co36 : Value).ownBlock ∧ some k_ ≠ (v205 : Value).ownBlock) (Kd.R_keptB (HO_3.out) hkp (fun k_ hk_ hs_ => (hk_.2) hs_)) (fun k_ hk_ => ⟨hk_.1.1.1, hk_.1.1.2, fun e_ => Or.elim (ho0.1 k_ e_.symm) (fun hs_ => hk_.2.1 hs_) (fun hn_ => Nat.not_le.2 hk_.2.2 hn_)⟩));have n1_ := Aside0.mk (Kd.R_mono (ok' := fun k_ => (P3_ k_ ∨ w.heap.size ≤ k_) ∧ some k_ ≠ (.slice Ao15 l3.length co15 : Value).ownBlock ∧ some k_ ≠ (v205 : Value).ownBlock) (Kd.R_keptB (HO_13.out) hkp (fun k_ hk_ hs_ => (hk_.2) hs_)) (fun k_ hk_ => ⟨hk_.1.1.1, hk_.1.1.2, fun e_ => Or.elim (ho0.1 k_ e_.symm) (fun hs_ => hk_.2.1 hs_) (fun hn_ => Nat.not_le.2 hk_.2.2 hn_)⟩));have n2_ := Aside0.mk (Kd.R_mono (ok' := fun k_ => (P3_ k_ ∨ w.heap.size ≤ k_) ∧ some k_ ≠ (.slice Ao15 l3.length co15 : Value).ownBlock ∧ some k_ ≠ (.slice Ao36 x13_2.length co36 : Value).ownBlock) ho0 (fun k_ hk_ => ⟨Or.elim hk_ (fun hs_ => (HO203.out.1 k_ (hs_).symm).1) (fun hn_ => (.inr (Nat.le_trans (by first | exact HK.out.1 | exact (show Kept w _ (fun k_ => P3_ k_) from by exact kE).1) hn_))), Or.elim hk_ (fun hs_ => fun e_ => (((HO_3.out).1 k_ e_.symm).2) hs_) (fun hn_ => (Kd.fresh' (Kd.R_lt (by exact rP HO_3.out)) k_ hn_)), Or.elim hk_ (fun hs_ => fun e_ => (((HO_13.out).1 k_ e_.symm).2) hs_) (fun hn_ => (Kd.fresh' (Kd.R_lt (by exact rP HO_13.out)) k_ hn_))⟩));have n3_ := Aside0.mk (Kept.then_ (S := (fun k_ => P3_ k_)) (by exact kE) hkp (fun k_ hs_ => (fun e_ => (HO203.out.1 k_ e_.symm).1) hs_));have n4_ := Aside0.mk (hb);clear HO_3;clear HO_13;clear HK;clear HB;clear HO203;have HO_3 := n0_;have HO_13 := n1_;have HO206 := n2_;have HK := n3_;have HB := n4_;clear n0_ n1_ n2_ n3_ n4_;(try clear hb);(try clear hkp);(try clear ho0)))
                go_ret2
                exact ⟨_, by first | rfl | (simp [errW_none, errW_some] <;> rfl) | (simp only [← hji6, ← hji19];first | rfl | (simp [errW_none, errW_some] <;> rfl)) | (simp [*, errW_none, errW_some] <;> rfl), by refine rP ?_;exact Kd.R_mono HO206.out (fun _ hk => hk.1), by exact bB, by exact kE⟩
               ·replace c32 := Bool.eq_false_iff.mpr c32
                subst c32
                have H1 : (spec_l8Complete.l0 k2 l0 l1 a2 l3 l4 (wrap64 (x12_1 + 1))) = some (r1, r2) := by rw [if_neg (show ¬ (false = true) by decide)] at H;exact H
                clear H
                have H := H1
                clear H1
                have H' := Aside0.mk H
                clear H
                go_wp2_with (first | ((with_reducible refine gate_callee (f := 104) rfl ?_);refine goesL_ (some 73) rfl rfl Try.func104 (by kernel_rfl) rfl #[.slice Ao15 l3.length co15] rfl mM ?_;(with_reducible refine (spec_l1Own.calls _ _ l3 t198 _ ?side1 ?side2 A29.out).mono ?_);(case side1 => exact cP (Kd.R_reads' HO_3.out).2.2);(case side2 => exact (Kd.R_reads' HO_3.out).2.1);rintro e w38 ⟨v199, rfl, ho0, hb⟩;refine ⟨_, rfl, ?_⟩;have n0_ := Aside0.mk (Kd.R_elder' (by exact rP HO_3.out) (Kd.R_base ho0) hb);have n1_ := Aside0.mk (Kd.R_elder' (by exact rP HO_13.out) (Kd.R_base ho0) hb);have n2_ := Aside0.mk (Kd.R_lower (Kd.R_new' (Kd.R_new' (Kd.R_newM (M := fun k_ => (P3_ k_ ∨ w.heap.size ≤ k_)) ho0 (by first | exact HK.out.1 | exact (show Kept w _ (fun k_ => P3_ k_) from by exact kE).1) (fun k_ h_ => .inr h_)) (Kd.R_lt (by exact rP HO_3.out))) (Kd.R_lt (by exact rP HO_13.out))) (below_size (by exact bB)));have n3_ := Aside0.mk (Kept.below (S := (fun k_ => P3_ k_)) (by exact kE) hb);have n4_ := Aside0.mk (below_step (by exact bB) hb);clear HO_3;clear HO_13;clear HK;clear HB;have HO_3 := n0_;have HO_13 := n1_;have HO200 := n2_;have HK := n3_;have HB := n4_;clear n0_ n1_ n2_ n3_ n4_;(try clear hb);(try clear hb2);(try clear hk);(try clear hi);(try clear ho0)) | ((with_reducible refine gate_builtin (b := .append) (xs := #[.tmp 73, .tmp 75]) rfl ?_);at_builtin;refine Kd.R_append (Kd.int .i64) (w0 := w0) w0.heap.size rfl (.tmp 73) (.tmp 75) 25 3 (.int .i64 0) 8 rfl Try.underlying25 info3 rfl (by decide) (by omega) v199 t198 x12_1 [.int .i64 x12_1] (fun k_ => (P3_ k_ ∨ w.heap.size ≤ k_) ∧ some k_ ≠ (.slice Ao15 l3.length co15 : Value).ownBlock ∧ some k_ ≠ (u13 : Value).ownBlock) (fun _ => False) rfl rfl ?aP (fun _ hk => hk.elim) ?aF ?aO ?aB ?aS ?aL ?_;(case aP => exact rfl);(case aB => exact (by exact bB));(case aF => exact (fun k_ hk => ⟨(.inr (Nat.le_trans (by first | exact HK.out.1 | exact (show Kept w _ (fun k_ => P3_ k_) from by exact kE).1) hk)), Kd.fresh' (Kd.R_lt (by exact rP HO_3.out)) k_ hk, Kd.fresh' (Kd.R_lt (by exact rP HO_13.out)) k_ hk⟩));(case aO => exact (by refine rP ?_;exact Kd.R_mono HO200.out (fun _ hk => ⟨hk.1.1.1, ⟨hk.1.2, hk.2⟩⟩)));(case aS => exact (below_size (by exact bB)));(case aL => have := LMc30.out;omega);intro v202 w39 ho hb hg hat;rw [← Ny201.out] at ho;have n0_ := Aside0.mk (Kd.R_after (ok := (fun k_ => (P3_ k_ ∨ w.heap.size ≤ k_) ∧ some k_ ≠ (u13 : Value).ownBlock)) (by exact rP HO_3.out) hg hat);have n1_ := Aside0.mk (Kd.R_after (ok := (fun k_ => (P3_ k_ ∨ w.heap.size ≤ k_) ∧ some k_ ≠ (.slice Ao15 l3.length co15 : Value).ownBlock)) (by exact rP HO_13.out) hg hat);have n2_ := Aside0.mk (hb);have n3_ := Aside0.mk (Kept.of_grown (S := (fun k_ => P3_ k_)) hg (by exact kE) (fun k_ e_ => (HO200.out.1 k_ e_).1.1.1));have n4_ := Aside0.mk (ho);clear HO_3;clear HO_13;clear HB;clear HK;clear HO200;have HO_3 := n0_;have HO_13 := n1_;have HB := n2_;have HK := n3_;have HO203 := n4_;clear n0_ n1_ n2_ n3_ n4_;clear ho hb hg hat;obtain ⟨Ao40, co40, eo40⟩ := Kd.R_slice HO203.out;subst eo40;obtain ⟨Ao41, co41, eo41⟩ := Kd.R_slice HO_13.out;subst eo41) | ((with_reducible refine gate_callee (f := 74) rfl ?_);refine goesL_ (some 78) rfl rfl Try.func74 (by kernel_rfl) rfl #[.slice (some ad192) l0.length c0, .slice (some ad182) l1.length c1, .int .i64 a2, .slice Ao40 y201.length co40, .slice Ao41 x13_2.length co41] rfl mM ?_;(with_reducible refine (ih k2 (by have := HK1.out;have := HK2.out;omega) _ _ l0 _ _ l1 a2 (fun k_ => some k_ = (.slice Ao40 y201.length co40 : Value).ownBlock) (.slice Ao40 y201.length co40) y201 _ _ x13_2 t204 false w0 _ ?side1 ?side2 ?side3 ?side4 ?side5 ?side6 ?side7 ?side8 A31.out).mono ?_);(case side1 => exact bB);(case side2 => exact Kd.C_kept_call HR0.out (by exact kE) (fun k_ hs_ => (fun e_ => (HO203.out.1 k_ e_.symm).1) hs_));(case side3 => exact HC0.out);(case side4 => exact Kd.C_kept_call HR1.out (by exact kE) (fun k_ hs_ => (fun e_ => (HO203.out.1 k_ e_.symm).1) hs_));(case side5 => exact HC1.out);(case side6 => exact Kd.R_tight rfl HO203.out);(case side7 => exact Kd.C_kept_own (HO_13.out) (fun k_ hk_ hs_ => (hk_.2) hs_));(case side8 => exact (Kd.R_reads' HO_13.out).2.1);rintro e w42 ⟨v205, rfl, ho0, hb, hkp⟩;refine ⟨_, rfl, ?_⟩;have n0_ := Aside0.mk (Kd.R_mono (ok' := fun k_ => (P3_ k_ ∨ w.heap.size ≤ k_) ∧ some k_ ≠ (.slice Ao41 x13_2.length co41 : Value).ownBlock ∧ some k_ ≠ (v205 : Value).ownBlock) (Kd.R_keptB (HO_3.out) hkp (fun k_ hk_ hs_ => (hk_.2) hs_)) (fun k_ hk_ => ⟨hk_.1.1.1, hk_.1.1.2, fun e_ => Or.elim (ho0.1 k_ e_.symm) (fun hs_ => hk_.2.1 hs_) (fun hn_ => Nat.not_le.2 hk_.2.2 hn_)⟩));have n1_ := Aside0.mk (Kd.R_mono (ok' := fun k_ => (P3_ k_ ∨ w.heap.size ≤ k_) ∧ some k_ ≠ (.slice Ao15 l3.length co15 : Value).ownBlock ∧ some k_ ≠ (v205 : Value).ownBlock) (Kd.R_keptB (HO_13.out) hkp (fun k_ hk_ hs_ => (hk_.2) hs_)) (fun k_ hk_ => ⟨hk_.1.1.1, hk_.1.1.2, fun e_ => Or.elim (ho0.1 k_ e_.symm) (fun hs_ => hk_.2.1 hs_) (fun hn_ => Nat.not_le.2 hk_.2.2 hn_)⟩));have n2_ := Aside0.mk (Kd.R_mono (ok' := fun k_ => (P3_ k_ ∨ w.heap.size ≤ k_) ∧ some k_ ≠ (.slice Ao15 l3.length co15 : Value).ownBlock ∧ some k_ ≠ (.slice Ao41 x13_2.length co41 : Value).ownBlock) ho0 (fun k_ hk_ => ⟨Or.elim hk_ (fun hs_ => (HO203.out.1 k_ (hs_).symm).1) (fun hn_ => (.inr (Nat.le_trans (by first | exact HK.out.1 | exact (show Kept w _ (fun k_ => P3_ k_) from by exact kE).1) hn_))), Or.elim hk_ (fun hs_ => fun e_ => (((HO_3.out).1 k_ e_.symm).2) hs_) (fun hn_ => (Kd.fresh' (Kd.R_lt (by exact rP HO_3.out)) k_ hn_)), Or.elim hk_ (fun hs_ => fun e_ => (((HO_13.out).1 k_ e_.symm).2) hs_) (fun hn_ => (Kd.fresh' (Kd.R_lt (by exact rP HO_13.out)) k_ hn_))⟩));have n3_ := Aside0.mk (Kept.then_ (S := (fun k_ => P3_ k_)) (by exact kE) hkp (fun k_ hs_ => (fun e_ => (HO203.out.1 k_ e_.symm).1) hs_));have n4_ := Aside0.mk (hb);clear HO_3;clear HO_13;clear HK;clear HB;clear HO203;have HO_3 := n0_;have HO_13 := n1_;have HO206 := n2_;have HK := n3_;have HB := n4_;clear n0_ n1_ n2_ n3_ n4_;(try clear hb);(try clear hkp);(try clear ho0)))
                go_roundg k2
                case measure => have := HK1.out;have := HK2.out;omega
                case rel => exact ⟨(wrap64 (x12_1 + 1)), (by first | rfl | (simp;done) | (simp [*];done)), H', ⟨by have := HK1.out;have := HK2.out;omega⟩, ⟨by refine rP ?_;exact Kd.R_mono HO_3.out (fun _ hk => hk.1)⟩, ⟨by exact kE⟩, ⟨by exact bB⟩⟩
              ·rw [if_neg c30] at H
               exact absurd H (by simp)
          ·rw [if_neg c21] at H
           exact absurd H (by simp)
         ·rw [if_neg c20] at H
          exact absurd H (by simp)
        ·rw [if_neg c18] at H
         exact absurd H (by simp)
       ·rw [if_neg c16] at H
        have c16b0 : decide (x12_1 < (l0.length : Int)) = false := decide_eq_false c16
        clear c16
        obtain ⟨y186, hy186⟩ : ∃ y_ : List Int, y_ = (([] : List Int)) := ⟨_, rfl⟩
        replace H : (some (y186, false)) = some (r1, r2) := by first | (rw [hy186];with_reducible exact H) | (have H2_ := (Option.bind_some _ _).symm.trans H;rw [hy186];with_reducible exact H2_) | (have H2_ := (Option.bind_some _ _).symm.trans H;with_reducible exact H2_) | with_reducible exact H | (rw [hy186];exact H) | exact H
        have Ny186 := Aside0.mk hy186
        clear hy186
        simp only [Option.some.injEq, Prod.mk.injEq] at H
        obtain ⟨rfl, rfl⟩ := H
        go_wp2_with (first | ((with_reducible refine gate_dst (N := 83) rfl ?_);refine Kd.R_lit (Kd.int .i64) _ 3 ?hg (N := 83) ?hd (xs := ([] : List Int)) (inner := []) (ok := fun _ => True) (okp := fun _ => True) ?hr ?hp (fun _ hk => hk) trivial (Below.refl _ _) (Nat.le_refl _) (by simp) ?_;(case hd => rfl);(case hg => rfl);(case hr => first | (go_simp;done) | (go_simp;rfl));(case hp => exact (Reps.none _ _));intro v187 w43 ho44 hb hg_ hnew_;clear hg_ hnew_;(first | rw [← Ny186.out] at ho44 | (simp only [Int.reduceToNat] at ho44;rw [← Ny186.out] at ho44));have n0_ := Aside0.mk (Kd.R_elder' (by exact rP HO_3.out) (Kd.R_base ho44) hb);have n1_ := Aside0.mk (Kd.R_lower (Kd.R_new' (Kd.R_newM (M := fun k_ => (P3_ k_ ∨ w.heap.size ≤ k_)) ho44 (by first | exact HK.out.1 | exact (show Kept w _ (fun k_ => P3_ k_) from by exact kE).1) (fun k_ h_ => .inr h_)) (Kd.R_lt (by exact rP HO_3.out))) (below_size (by exact bB)));have n2_ := Aside0.mk (Kept.below (S := (fun k_ => P3_ k_)) (by exact kE) hb);have n3_ := Aside0.mk (below_step (by exact bB) hb);clear HO_3;clear HK;clear HB;have HO_3 := n0_;have HO188 := n1_;have HK := n2_;have HB := n3_;clear n0_ n1_ n2_ n3_;clear hb ho44))
        go_ret2
        exact ⟨_, by first | rfl | (simp [errW_none, errW_some] <;> rfl) | (simp only [← hji6];first | rfl | (simp [errW_none, errW_some] <;> rfl)) | (simp [*, errW_none, errW_some] <;> rfl), by refine rP ?_;exact Kd.R_mono HO188.out (fun _ hk => hk.1.1), by exact bB, by exact kE⟩
  ·rw [if_neg c8] at H
   exact absurd H (by simp)
 ·rw [if_neg c7] at H
  exact absurd H (by simp)


end Go.Proofs.Ytaddgielnfhhpaa.QBurningNumber
