import Derived.Test.YtaddgielnfhhpaaQBurningNumber0
import Derived.Test.YtaddgielnfhhpaaQBurningNumber5
import Derived.Test.YtaddgielnfhhpaaQBurningNumber7
namespace Go.Proofs.Ytaddgielnfhhpaa.QBurningNumber
open Go.RowKit Go.Proofs.YtaddgielnfhhpaaW.PrintWords Go.Proofs.YtaddgielnfhhpaaW.PrintLast Go.Proofs.YtaddgielnfhhpaaW.PrintMore
attribute [local go_sem] max2_int min2_int max_two min_two max_three min_three max_four min_four   -- for this text's walks alone
set_option linter.unusedVariables false
set_option linter.unusedSimpArgs false
/-! ### spec_l8First: function 43 -/
mutual
def spec_l8First.l0 : Nat → List (List (List Int)) → Int → Int → List (S80) → Option (List Int)
 | 0, _, _, _, _ => none
 | k + 1, x3, x4, x209000, x209001 => if x4 < x209000 then (spec_l8First.l1 k x3 x4 (([] : List (List Int))) 0 x209000 x209001) else ((spec_l8Room.f k x3).bind fun t224 => (spec_l8First.l2 k x3 t224 0))
def spec_l8First.l1 : Nat → List (List (List Int)) → Int → List (List Int) → Int → Int → List (S80) → Option (List Int)
 | 0, _, _, _, _, _, _ => none
 | k + 1, x3, x4, x5, x6, x209000, x209001 => if x6 < x209000 then ((spec_l2Within.f k x209000 x209001 x4 x6).bind fun t215 => (if x5.length < 5864062014805 then (spec_l8First.l1 k x3 x4 (x5 ++ [t215]) (wrap64 (x6 + 1)) x209000 x209001) else (none))) else (if x3.length < 5864062014805 then (spec_l8First.l0 k (x3 ++ [x5]) (wrap64 (x4 + 1)) x209000 x209001) else (none))
def spec_l8First.l2 : Nat → List (List (List Int)) → List Int → Int → Option (List Int)
 | 0, _, _, _ => none
 | k + 1, x3, x7, x8 => (spec_l8Complete.f k x3 x7 x8 (([] : List Int)) (([] : List Int))).bind fun bt233 => (if bt233.2 = true then (some bt233.1) else (spec_l8First.l2 k x3 x7 (wrap64 (x8 + 1))))
end
def spec_l8First.f (k : Nat) (a0_0 : Int) (l0_1 : List (S80)) : Option (List Int) := spec_l8First.l0 k (([] : List (List (List Int)))) 0 a0_0 l0_1
theorem spec_l8First.mono_l : ∀ k, (∀ y0 y1 y2 y3, LeO (spec_l8First.l0 k y0 y1 y2 y3) (spec_l8First.l0 (k + 1) y0 y1 y2 y3)) ∧ (∀ y0 y1 y2 y3 y4 y5, LeO (spec_l8First.l1 k y0 y1 y2 y3 y4 y5) (spec_l8First.l1 (k + 1) y0 y1 y2 y3 y4 y5)) ∧ (∀ y0 y1 y2, LeO (spec_l8First.l2 k y0 y1 y2) (spec_l8First.l2 (k + 1) y0 y1 y2))
 | 0 => ⟨fun _ _ _ _ r h => by simp [spec_l8First.l0] at h, fun _ _ _ _ _ _ r h => by simp [spec_l8First.l1] at h, fun _ _ _ r h => by simp [spec_l8First.l2] at h⟩
 | k + 1 => by
  obtain ⟨ih0, ih1, ih2⟩ := spec_l8First.mono_l k
  refine ⟨?_, ?_, ?_⟩
  ·intro y0 y1 y2 y3
   unfold spec_l8First.l0
   repeat' first
   | (with_reducible exact ih0 _ _ _ _)
   | (with_reducible exact ih1 _ _ _ _ _ _)
   | (with_reducible exact ih2 _ _ _)
   | (with_reducible exact spec_l2Within.mono _ _ _ _ _)
   | (with_reducible exact spec_l8Complete.mono _ _ _ _ _ _)
   | (with_reducible exact spec_l8Room.mono _ _)
   | (with_reducible exact LeO.refl _)
   | (with_reducible exact LeO.none _)
   | (with_reducible refine LeO.ite ?_ ?_)
   | (with_reducible refine LeO.bind ?_ (fun _ => ?_))
   | exact ih0 _ _ _ _
   | exact ih1 _ _ _ _ _ _
   | exact ih2 _ _ _
   | exact spec_l2Within.mono _ _ _ _ _
   | exact spec_l8Complete.mono _ _ _ _ _ _
   | exact spec_l8Room.mono _ _
   | exact LeO.none _
   | refine LeO.ite ?_ ?_
   | refine LeO.bind ?_ (fun _ => ?_)
  ·intro y0 y1 y2 y3 y4 y5
   unfold spec_l8First.l1
   repeat' first
   | (with_reducible exact ih0 _ _ _ _)
   | (with_reducible exact ih1 _ _ _ _ _ _)
   | (with_reducible exact ih2 _ _ _)
   | (with_reducible exact spec_l2Within.mono _ _ _ _ _)
   | (with_reducible exact spec_l8Complete.mono _ _ _ _ _ _)
   | (with_reducible exact spec_l8Room.mono _ _)
   | (with_reducible exact LeO.refl _)
   | (with_reducible exact LeO.none _)
   | (with_reducible refine LeO.ite ?_ ?_)
   | (with_reducible refine LeO.bind ?_ (fun _ => ?_))
   | exact ih0 _ _ _ _
   | exact ih1 _ _ _ _ _ _
   | exact ih2 _ _ _
   | exact spec_l2Within.mono _ _ _ _ _
   | exact spec_l8Complete.mono _ _ _ _ _ _
   | exact spec_l8Room.mono _ _
   | exact LeO.none _
   | refine LeO.ite ?_ ?_
   | refine LeO.bind ?_ (fun _ => ?_)
  ·intro y0 y1 y2
   unfold spec_l8First.l2
   repeat' first
   | (with_reducible exact ih0 _ _ _ _)
   | (with_reducible exact ih1 _ _ _ _ _ _)
   | (with_reducible exact ih2 _ _ _)
   | (with_reducible exact spec_l2Within.mono _ _ _ _ _)
   | (with_reducible exact spec_l8Complete.mono _ _ _ _ _ _)
   | (with_reducible exact spec_l8Room.mono _ _)
   | (with_reducible exact LeO.refl _)
   | (with_reducible exact LeO.none _)
   | (with_reducible refine LeO.ite ?_ ?_)
   | (with_reducible refine LeO.bind ?_ (fun _ => ?_))
   | exact ih0 _ _ _ _
   | exact ih1 _ _ _ _ _ _
   | exact ih2 _ _ _
   | exact spec_l2Within.mono _ _ _ _ _
   | exact spec_l8Complete.mono _ _ _ _ _ _
   | exact spec_l8Room.mono _ _
   | exact LeO.none _
   | refine LeO.ite ?_ ?_
   | refine LeO.bind ?_ (fun _ => ?_)
theorem spec_l8First.mono : ∀ a0 a1 k, LeO (spec_l8First.f k a0 a1) (spec_l8First.f (k + 1) a0 a1) := by
 intro a0 a1 k
 obtain ⟨ih0, ih1, ih2⟩ := spec_l8First.mono_l k
 unfold spec_l8First.f
 repeat' first
   | (with_reducible exact ih0 _ _ _ _)
   | (with_reducible exact ih1 _ _ _ _ _ _)
   | (with_reducible exact ih2 _ _ _)
   | (with_reducible exact spec_l2Within.mono _ _ _ _ _)
   | (with_reducible exact spec_l8Complete.mono _ _ _ _ _ _)
   | (with_reducible exact spec_l8Room.mono _ _)
   | (with_reducible exact LeO.refl _)
   | (with_reducible exact LeO.none _)
   | (with_reducible refine LeO.ite ?_ ?_)
   | (with_reducible refine LeO.bind ?_ (fun _ => ?_))
   | exact ih0 _ _ _ _
   | exact ih1 _ _ _ _ _ _
   | exact ih2 _ _ _
   | exact spec_l2Within.mono _ _ _ _ _
   | exact spec_l8Complete.mono _ _ _ _ _ _
   | exact spec_l8Room.mono _ _
   | exact LeO.none _
   | refine LeO.ite ?_ ?_
   | refine LeO.bind ?_ (fun _ => ?_)
set_option maxHeartbeats 8000000 in
set_option maxRecDepth 100000 in
theorem spec_l8First.calls (k : Nat) (a0_0 : Int) (A0_1 : Option Addr) (c0_1 : Nat) (l0_1 : List (S80)) (r : List Int) (w : World) (hr0_1 : Kd.C k80 w A0_1 l0_1.length l0_1) (hc0_1 : l0_1.length ≤ c0_1) (h : spec_l8First.f k a0_0 l0_1 = some r) :
  Calls Try.prog 43 #[.agg #[.int .i64 a0_0, .slice A0_1 l0_1.length c0_1]] w fun e w' => ∃ v0_ : Value, e = .returned (v0_) ∧ Kd.R (Kd.int .i64) 3 w' w.heap.size (fun _ => True) v0_ r ∧ Below w.heap.size w w' := by
 have hu29 := Try.underlying29
 have HR0_1 := Aside0.mk hr0_1
 have HC0_1 := Aside0.mk hc0_1
 clear hr0_1 hc0_1
 have HB := Aside0.mk (Below.refl w.heap.size w)
 have H : (spec_l8First.l0 k (([] : List (List (List Int)))) 0 a0_0 l0_1) = some r := h
 clear h
 obtain ⟨y209, hy209⟩ : ∃ y_ : List (List (List Int)), y_ = (([] : List (List (List Int)))) := ⟨_, rfl⟩
 replace H : (spec_l8First.l0 k y209 0 a0_0 l0_1) = some r := by first | (rw [hy209];with_reducible exact H) | (have H2_ := (Option.bind_some _ _).symm.trans H;rw [hy209];with_reducible exact H2_) | (have H2_ := (Option.bind_some _ _).symm.trans H;with_reducible exact H2_) | with_reducible exact H | (rw [hy209];exact H) | exact H
 have Ny209 := Aside0.mk hy209
 clear hy209
 have H' := Aside0.mk H
 clear H
 go_enter Try.func43, Try.ntmps43
 go_wp2_with (first | ((with_reducible refine gate_dst (N := 1) rfl ?_);refine box_event ?hg (N := 1) ?hd (cs := #[.int .i64 a0_0, .slice A0_1 l0_1.length c0_1]) (t := 29) ?hr ?_;(case hd => rfl);(case hg => rfl);(case hr => first | (go_simp;done) | (go_simp;rfl));intro gb208 hg w2 hbox hb;have n0_ := Aside0.mk (below_step (by exact bB) hb);have n1_ := Aside0.mk (hbox);have n2_ := Aside0.mk ((by rw [hg];exact (below_size (by exact bB)) : w.heap.size ≤ gb208));have n3_ := Aside0.mk ((by rw [hg];exact (below_size (by exact bB)) : w.heap.size ≤ gb208));clear HB;have HB := n0_;have BK208 := n1_;have GW208 := n2_;have GE208 := n3_;clear n0_ n1_ n2_ n3_;clear hb hbox hg) | ((with_reducible refine gate_dst (N := 11) rfl ?_);refine Kd.R_lit (Kd.slice 25 (Kd.slice 3 (Kd.int .i64))) _ 37 ?hg (N := 11) ?hd (xs := ([] : List (List (List Int)))) (inner := []) (ok := fun _ => True) (okp := fun _ => True) ?hr ?hp (fun _ hk => hk) trivial (Below.refl _ _) (Nat.le_refl _) (by simp) ?_;(case hd => rfl);(case hg => rfl);(case hr => first | (go_simp;done) | (go_simp;rfl));(case hp => exact (Reps.none _ _));intro v210 w3 ho4 hb hg_ hnew_;clear hg_ hnew_;(first | rw [← Ny209.out] at ho4 | (simp only [Int.reduceToNat] at ho4;rw [← Ny209.out] at ho4));have n0_ := Aside0.mk (Kd.R_lower ho4 (below_size (by exact bB)));have n1_ := Aside0.mk (blk_below (g := gb208) (o := .cells #[.int .i64 a0_0, .slice A0_1 l0_1.length c0_1] 29 (0, 0)) (by exact kP BK208.out) hb);have n2_ := Aside0.mk (below_step (by exact bB) hb);clear BK208;clear HB;have HO211 := n0_;have BK208 := n1_;have HB := n2_;clear n0_ n1_ n2_;clear hb ho4))
 go_loopg [3, 4] k (fun kq v3 v4 w' => ∃ (x3_1 : List (List (List Int))) (x4_1 : Int), v4 = .int .i64 x4_1 ∧ Aside0 (spec_l8First.l0 kq x3_1 x4_1 a0_0 l0_1 = some r) ∧ Aside0 (kq ≤ k) ∧ Aside0 (Kd.R (Kd.slice 25 (Kd.slice 3 (Kd.int .i64))) 37 w' w.heap.size (fun _ => True) v3 x3_1) ∧ Aside0 (w'.heap[gb208]? = some (.cells #[.int .i64 a0_0, (.slice A0_1 l0_1.length c0_1)] 29 (0, 0))) ∧ Aside0 (Below w.heap.size w w'))
 case atStart => exact ⟨(y209), (0), (by first | rfl | (simp;done) | (simp [*];done)), H', ⟨Nat.le_refl _⟩, ⟨by exact rP HO211.out⟩, ⟨by exact kP BK208.out⟩, ⟨by exact bB⟩⟩
 case round =>
  clear H'
  try clear p2
  try clear c4
  obtain ⟨x3_1, x4_1, rfl, HA, HK1, HO_3, BK208, HB⟩ := hrel
  cases gk with
  | zero => exact absurd HA.out (by simp [spec_l8First.l0])
  | succ k1 =>
   have H := HA.out
   clear HA
   simp only [spec_l8First.l0] at H
   by_cases c5 : x4_1 < a0_0
   ·rw [if_pos c5] at H
    have c5b0 : decide (x4_1 < a0_0) = true := decide_eq_true c5
    clear c5
    obtain ⟨y212, hy212⟩ : ∃ y_ : List (List Int), y_ = (([] : List (List Int))) := ⟨_, rfl⟩
    replace H : (spec_l8First.l1 k1 x3_1 x4_1 y212 0 a0_0 l0_1) = some r := by first | (rw [hy212];with_reducible exact H) | (have H2_ := (Option.bind_some _ _).symm.trans H;rw [hy212];with_reducible exact H2_) | (have H2_ := (Option.bind_some _ _).symm.trans H;with_reducible exact H2_) | with_reducible exact H | (rw [hy212];exact H) | exact H
    have Ny212 := Aside0.mk hy212
    clear hy212
    have H' := Aside0.mk H
    clear H
    have hcz6_0 : wr.cell? ⟨gb208, 0, none⟩ = some (.int .i64 a0_0) := (blk_cell BK208.out 0).trans rfl
    have hcz6_1 : wr.cell? ⟨gb208, 1, none⟩ = some (.slice A0_1 l0_1.length c0_1) := (blk_cell BK208.out 1).trans rfl
    have hfz6_0 := blk_frozen BK208.out 0
    have hfz6_1 := blk_frozen BK208.out 1
    go_wp2_with (first | ((with_reducible refine gate_dst (N := 18) rfl ?_);refine Kd.S_lit (Kd.slice 3 (Kd.int .i64)) _ 25 ?hg (N := 18) ?hd (xs := ([] : List (List Int))) (inner := []) (ok := fun _ => True) (okp := fun _ => True) ?hr ?hp (fun _ hk => hk) trivial (Below.refl _ _) (Nat.le_refl _) (by simp) ?_;(case hd => rfl);(case hg => rfl);(case hr => first | (go_simp;done) | (go_simp;rfl));(case hp => exact (Reps.none _ _));intro v213 w7 ho8 hb hg_ hnew_;clear hg_ hnew_;(first | rw [← Ny212.out] at ho8 | (simp only [Int.reduceToNat] at ho8;rw [← Ny212.out] at ho8));have n0_ := Aside0.mk (Kd.R_elder' (by exact rP HO_3.out) (Kd.S_base ho8) hb);have n1_ := Aside0.mk (Kd.S_lower ho8 (below_size (by exact bB)));have n2_ := Aside0.mk (blk_below (g := gb208) (o := .cells #[.int .i64 a0_0, .slice A0_1 l0_1.length c0_1] 29 (0, 0)) (by exact kP BK208.out) hb);have n3_ := Aside0.mk (below_step (by exact bB) hb);clear HO_3;clear BK208;clear HB;have HO_3 := n0_;have HO214 := n1_;have BK208 := n2_;have HB := n3_;clear n0_ n1_ n2_ n3_;clear hb ho8))
    go_loopg [5, 6] k1 (fun kq v5 v6 w' => ∃ (x5_2 : List (List Int)) (x6_2 : Int), v6 = .int .i64 x6_2 ∧ Aside0 (spec_l8First.l1 kq x3_1 x4_1 x5_2 x6_2 a0_0 l0_1 = some r) ∧ Aside0 (kq ≤ k1) ∧ Aside0 (Kd.R (Kd.slice 25 (Kd.slice 3 (Kd.int .i64))) 37 w' w.heap.size (fun k_ => some k_ ≠ (v5 : Value).ownBlock) u3 x3_1) ∧ Aside0 (Kd.S (Kd.slice 3 (Kd.int .i64)) 25 w' w.heap.size (fun _ => True) v5 x5_2) ∧ Aside0 (w'.heap[gb208]? = some (.cells #[.int .i64 a0_0, (.slice A0_1 l0_1.length c0_1)] 29 (0, 0))) ∧ Aside0 (Below w.heap.size w w'))
    case atStart => exact ⟨(y212), (0), (by first | rfl | (simp;done) | (simp [*];done)), H', ⟨Nat.le_refl _⟩, ⟨by refine rP ?_;exact Kd.R_mono HO_3.out (fun _ hk => hk.2)⟩, ⟨by (with_reducible repeat (first | apply Kd.S_alloc | apply Kd.S_drewN | apply Kd.S_drew));exact HO214.out⟩, ⟨by exact kP BK208.out⟩, ⟨by exact bB⟩⟩
    case round =>
     clear H'
     try clear p2
     try clear c4
     try clear c5
     try clear c5b0
     try clear hcz6_0
     try clear hcz6_1
     try clear hfz6_0
     try clear hfz6_1
     try clear p2
     obtain ⟨x5_2, x6_2, rfl, HA, HK2, HO_3, HO_5, BK208, HB⟩ := hrel
     cases gk with
     | zero => exact absurd HA.out (by simp [spec_l8First.l1])
     | succ k2 =>
      have H := HA.out
      clear HA
      simp only [spec_l8First.l1] at H
      by_cases c9 : x6_2 < a0_0
      ·rw [if_pos c9] at H
       have c9b0 : decide (x6_2 < a0_0) = true := decide_eq_true c9
       clear c9
       replace H := Option.bind_eq_some_iff.mp H
       obtain ⟨t215, A100, H⟩ := H
       replace H : (if x5_2.length < 5864062014805 then (spec_l8First.l1 k2 x3_1 x4_1 (x5_2 ++ [t215]) (wrap64 (x6_2 + 1)) a0_0 l0_1) else (none)) = some r := H
       have A10 := Aside0.mk A100
       clear A100
       by_cases c11 : x5_2.length < 5864062014805
       ·rw [if_pos c11] at H
        have LMc11 := Aside0.mk c11
        clear c11
        obtain ⟨y218, hy218⟩ : ∃ y_ : List (List Int), y_ = (x5_2 ++ [t215]) := ⟨_, rfl⟩
        replace H : (spec_l8First.l1 k2 x3_1 x4_1 y218 (wrap64 (x6_2 + 1)) a0_0 l0_1) = some r := by first | (rw [hy218];with_reducible exact H) | (have H2_ := (Option.bind_some _ _).symm.trans H;rw [hy218];with_reducible exact H2_) | (have H2_ := (Option.bind_some _ _).symm.trans H;with_reducible exact H2_) | with_reducible exact H | (rw [hy218];exact H) | exact H
        have Ny218 := Aside0.mk hy218
        clear hy218
        have H' := Aside0.mk H
        clear H
        have hcz12_0 : wr.cell? ⟨gb208, 0, none⟩ = some (.int .i64 a0_0) := (blk_cell BK208.out 0).trans rfl
        have hcz12_1 : wr.cell? ⟨gb208, 1, none⟩ = some (.slice A0_1 l0_1.length c0_1) := (blk_cell BK208.out 1).trans rfl
        have hfz12_0 := blk_frozen BK208.out 0
        have hfz12_1 := blk_frozen BK208.out 1
        go_wp2_with (first | ((with_reducible refine gate_callee (f := 72) rfl ?_);refine goesL_ (some 29) rfl rfl Try.func72 (by kernel_rfl) rfl #[.agg #[.int .i64 a0_0, .slice A0_1 l0_1.length c0_1], .int .i64 x4_1, .int .i64 x6_2] rfl mM ?_;(with_reducible refine (spec_l2Within.calls k2 a0_0 _ _ l0_1 x4_1 x6_2 t215 _ ?side1 ?side2 A10.out).mono ?_);(case side1 => exact cP (Kd.C_below HR0_1.out HB.out));(case side2 => exact HC0_1.out);rintro e w13 ⟨v216, rfl, ho0, hb⟩;refine ⟨_, rfl, ?_⟩;have n0_ := Aside0.mk (Kd.R_elder' (by exact rP HO_3.out) (Kd.R_base ho0) hb);have n1_ := Aside0.mk (Kd.S_elder' (by (with_reducible repeat (first | apply Kd.S_alloc | apply Kd.S_drewN | apply Kd.S_drew));exact HO_5.out) (Kd.R_base ho0) hb);have n2_ := Aside0.mk (Kd.R_lower ho0 (below_size (by exact bB)));have n3_ := Aside0.mk (blk_below (g := gb208) (o := .cells #[.int .i64 a0_0, .slice A0_1 l0_1.length c0_1] 29 (0, 0)) (by exact kP BK208.out) hb);have n4_ := Aside0.mk (below_step (by exact bB) hb);clear HO_3;clear HO_5;clear BK208;clear HB;have HO_3 := n0_;have HO_5 := n1_;have HO217 := n2_;have BK208 := n3_;have HB := n4_;clear n0_ n1_ n2_ n3_ n4_;(try clear hb);(try clear hb2);(try clear hk);(try clear hi);(try clear ho0);obtain ⟨Ao15, co15, eo15⟩ := Kd.R_slice HO217.out;subst eo15) | ((with_reducible refine gate_builtin (b := .append) (xs := #[.tmp 25, .tmp 30]) rfl ?_);at_builtin;refine Kd.S_append (Kd.slice 3 (Kd.int .i64)) (w0 := w) w.heap.size rfl (.tmp 25) (.tmp 30) 37 25 (.slice none 0 0) 24 rfl Try.underlying37 info25 rfl (by decide) (by omega) u5 x5_2 t215 [.slice Ao15 t215.length co15] (fun _ => True) (fun k_ => some k_ = (.slice Ao15 t215.length co15 : Value).ownBlock) rfl rfl ?aP (fun k_ hk_ => ((Kd.R_mono (ok' := fun k_ => ((fun _ => True)) k_ ∧ some k_ ≠ (u5 : Value).ownBlock) (Kd.R_apart' (HO217.out) (Kd.S_typed HO_5.out) (by decide)) (fun k_ hk => ⟨trivial, hk.2⟩))).1 k_ hk_.symm) ?aF ?aO ?aB ?aS ?aL ?_;(case aP => exact Kd.M_row (Kd.R_mono (Kd.R_tight rfl (Kd.R_mono (ok' := fun k_ => ((fun _ => True)) k_ ∧ some k_ ≠ (u5 : Value).ownBlock) (Kd.R_apart' (HO217.out) (Kd.S_typed HO_5.out) (by decide)) (fun k_ hk => ⟨trivial, hk.2⟩))) (fun _ h_ => h_)));(case aB => exact (by exact bB));(case aF => exact (fun _ _ => trivial));(case aO => exact (by (with_reducible repeat (first | apply Kd.S_alloc | apply Kd.S_drewN | apply Kd.S_drew));exact Kd.S_mono HO_5.out (fun k_ hk => ⟨trivial, fun e_ => hk.2 e_⟩)));(case aS => exact (below_size (by exact bB)));(case aL => have := LMc11.out;omega);intro v219 w14 ho hb hg hat;rw [← Ny218.out] at ho;have n0_ := Aside0.mk (Kd.R_after (ok := (fun k_ => some k_ ≠ (.slice Ao15 t215.length co15 : Value).ownBlock)) (by exact rP (Kd.R_mono HO_3.out (fun _ hk => ⟨hk.2, hk.1⟩))) hg hat);have n1_ := Aside0.mk (blk_grown (g := gb208) (o := .cells #[.int .i64 a0_0, .slice A0_1 l0_1.length c0_1] 29 (0, 0)) (by exact kP BK208.out) hg (Kd.S_ne HO_5.out BK208.out (by decide)));have n2_ := Aside0.mk (hb);have n3_ := Aside0.mk (ho);clear HO_3;clear BK208;clear HB;clear HO_5;clear HO217;have HO_3 := n0_;have BK208 := n1_;have HB := n2_;have HO220 := n3_;clear n0_ n1_ n2_ n3_;clear ho hb hg hat))
        go_roundg k2
        case measure => have := HK1.out;have := HK2.out;omega
        case rel => exact ⟨(y218), (wrap64 (x6_2 + 1)), (by first | rfl | (simp;done) | (simp [*];done)), H', ⟨by have := HK1.out;have := HK2.out;omega⟩, ⟨by refine rP ?_;exact Kd.R_mono HO_3.out (fun _ hk => hk.2)⟩, ⟨by (with_reducible repeat (first | apply Kd.S_alloc | apply Kd.S_drewN | apply Kd.S_drew));exact HO220.out⟩, ⟨by exact kP BK208.out⟩, ⟨by exact bB⟩⟩
       ·rw [if_neg c11] at H
        exact absurd H (by simp)
      ·rw [if_neg c9] at H
       have c9b0 : decide (x6_2 < a0_0) = false := decide_eq_false c9
       clear c9
       by_cases c16 : x3_1.length < 5864062014805
       ·rw [if_pos c16] at H
        have LMc16 := Aside0.mk c16
        clear c16
        obtain ⟨y221, hy221⟩ : ∃ y_ : List (List (List Int)), y_ = (x3_1 ++ [x5_2]) := ⟨_, rfl⟩
        replace H : (spec_l8First.l0 k2 y221 (wrap64 (x4_1 + 1)) a0_0 l0_1) = some r := by first | (rw [hy221];with_reducible exact H) | (have H2_ := (Option.bind_some _ _).symm.trans H;rw [hy221];with_reducible exact H2_) | (have H2_ := (Option.bind_some _ _).symm.trans H;with_reducible exact H2_) | with_reducible exact H | (rw [hy221];exact H) | exact H
        have Ny221 := Aside0.mk hy221
        clear hy221
        have H' := Aside0.mk H
        clear H
        have hcz17_0 : wr.cell? ⟨gb208, 0, none⟩ = some (.int .i64 a0_0) := (blk_cell BK208.out 0).trans rfl
        have hcz17_1 : wr.cell? ⟨gb208, 1, none⟩ = some (.slice A0_1 l0_1.length c0_1) := (blk_cell BK208.out 1).trans rfl
        have hfz17_0 := blk_frozen BK208.out 0
        have hfz17_1 := blk_frozen BK208.out 1
        obtain ⟨Ao19, co19, eo19⟩ := Kd.S_slice HO_5.out
        subst eo19
        go_wp2_with (first | ((with_reducible refine gate_builtin (b := .append) (xs := #[.tmp 32, .tmp 34]) rfl ?_);at_builtin;refine Kd.R_append (Kd.slice 25 (Kd.slice 3 (Kd.int .i64))) (w0 := w) w.heap.size rfl (.tmp 32) (.tmp 34) 90 37 (.slice none 0 0) 24 rfl Try.underlying90 info37 rfl (by decide) (by omega) u3 x3_1 x5_2 [.slice Ao19 x5_2.length co19] (fun _ => True) (fun k_ => ((fun _ => True)) k_ ∧ some k_ ≠ (u3 : Value).ownBlock) rfl rfl ?aP (fun _ hk => hk) ?aF ?aO ?aB ?aS ?aL ?_;(case aP => exact Kd.M_row (Kd.R_mono (Kd.R_apart' ((Kd.S_R HO_5.out)) (Kd.R_typed HO_3.out) (by decide)) (fun k_ hk => ⟨trivial, hk.2⟩)));(case aB => exact (by exact bB));(case aF => exact (fun _ _ => trivial));(case aO => exact (by refine rP ?_;exact Kd.R_mono HO_3.out (fun _ hk => trivial)));(case aS => exact (below_size (by exact bB)));(case aL => have := LMc16.out;omega);intro v222 w18 ho hb hg hat;rw [← Ny221.out] at ho;have n0_ := Aside0.mk (blk_grown (g := gb208) (o := .cells #[.int .i64 a0_0, .slice A0_1 l0_1.length c0_1] 29 (0, 0)) (by exact kP BK208.out) hg (Kd.R_ne HO_3.out BK208.out (by decide)));have n1_ := Aside0.mk (hb);have n2_ := Aside0.mk (ho);clear BK208;clear HB;clear HO_3;clear HO_5;have BK208 := n0_;have HB := n1_;have HO223 := n2_;clear n0_ n1_ n2_;clear ho hb hg hat))
        go_roundg k2
        case measure => have := HK1.out;have := HK2.out;omega
        case rel => exact ⟨(y221), (wrap64 (x4_1 + 1)), (by first | rfl | (simp;done) | (simp [*];done)), H', ⟨by have := HK1.out;have := HK2.out;omega⟩, ⟨by exact rP HO223.out⟩, ⟨by exact kP BK208.out⟩, ⟨by exact bB⟩⟩
       ·rw [if_neg c16] at H
        exact absurd H (by simp)
   ·rw [if_neg c5] at H
    have c5b0 : decide (x4_1 < a0_0) = false := decide_eq_false c5
    clear c5
    replace H := Option.bind_eq_some_iff.mp H
    obtain ⟨t224, A200, H⟩ := H
    replace H : (spec_l8First.l2 k1 x3_1 t224 0) = some r := H
    have A20 := Aside0.mk A200
    clear A200
    have H' := Aside0.mk H
    clear H
    have hcz21_0 : wr.cell? ⟨gb208, 0, none⟩ = some (.int .i64 a0_0) := (blk_cell BK208.out 0).trans rfl
    have hcz21_1 : wr.cell? ⟨gb208, 1, none⟩ = some (.slice A0_1 l0_1.length c0_1) := (blk_cell BK208.out 1).trans rfl
    have hfz21_0 := blk_frozen BK208.out 0
    have hfz21_1 := blk_frozen BK208.out 1
    obtain ⟨Ao22, co22, eo22⟩ := Kd.R_slice HO_3.out
    subst eo22
    go_wp2_with (first | ((with_reducible refine gate_callee (f := 73) rfl ?_);refine goesL_ (some 37) rfl rfl Try.func73 (by kernel_rfl) rfl #[.slice Ao22 x3_1.length co22] rfl mM ?_;(with_reducible refine (spec_l8Room.calls k1 _ _ x3_1 t224 _ ?side1 ?side2 A20.out).mono ?_);(case side1 => exact cP (Kd.R_reads' HO_3.out).2.2);(case side2 => exact (Kd.R_reads' HO_3.out).2.1);rintro e w23 ⟨v225, rfl, ho0, hb⟩;refine ⟨_, rfl, ?_⟩;have n0_ := Aside0.mk (Kd.R_elder' (by exact rP HO_3.out) (Kd.R_base ho0) hb);have n1_ := Aside0.mk (Kd.R_lower ho0 (below_size (by exact bB)));have n2_ := Aside0.mk (blk_below (g := gb208) (o := .cells #[.int .i64 a0_0, .slice A0_1 l0_1.length c0_1] 29 (0, 0)) (by exact kP BK208.out) hb);have n3_ := Aside0.mk (below_step (by exact bB) hb);clear HO_3;clear BK208;clear HB;have HO_3 := n0_;have HO226 := n1_;have BK208 := n2_;have HB := n3_;clear n0_ n1_ n2_ n3_;(try clear hb);(try clear hb2);(try clear hk);(try clear hi);(try clear ho0)))
    go_loopg [8] k1 (fun kq v8 w' => ∃ (x8_2 : Int), v8 = .int .i64 x8_2 ∧ Aside0 (spec_l8First.l2 kq x3_1 t224 x8_2 = some r) ∧ Aside0 (kq ≤ k1) ∧ Aside0 (Kd.R (Kd.slice 25 (Kd.slice 3 (Kd.int .i64))) 37 w' w.heap.size (fun k_ => some k_ ≠ (v225 : Value).ownBlock) (.slice Ao22 x3_1.length co22) x3_1) ∧ Aside0 (Kd.R (Kd.int .i64) 3 w' w.heap.size (fun _ => True) v225 t224) ∧ Aside0 (w'.heap[gb208]? = some (.cells #[.int .i64 a0_0, (.slice A0_1 l0_1.length c0_1)] 29 (0, 0))) ∧ Aside0 (Below w.heap.size w w'))
    case atStart => exact ⟨(0), (by first | rfl | (simp;done) | (simp [*];done)), H', ⟨Nat.le_refl _⟩, ⟨by refine rP ?_;exact Kd.R_mono HO_3.out (fun _ hk => hk.2)⟩, ⟨by exact rP HO226.out⟩, ⟨by exact kP BK208.out⟩, ⟨by exact bB⟩⟩
    case round =>
     clear H'
     try clear c1
     try clear p2
     try clear c4
     try clear c5
     try clear c5b0
     try clear p6
     try clear c7
     try clear c9
     try clear c9b0
     try clear c11
     try clear c16
     try clear hcz12_0
     try clear hcz12_1
     try clear hcz17_0
     try clear hcz17_1
     try clear hcz21_0
     try clear hcz21_1
     try clear hcz6_0
     try clear hcz6_1
     try clear hfz12_0
     try clear hfz12_1
     try clear hfz17_0
     try clear hfz17_1
     try clear hfz21_0
     try clear hfz21_1
     try clear hfz6_0
     try clear hfz6_1
     try clear p2
     obtain ⟨x8_2, rfl, HA, HK2, HO_3, HO_7, BK208, HB⟩ := hrel
     cases gk with
     | zero => exact absurd HA.out (by simp [spec_l8First.l2])
     | succ k2 =>
      have H := HA.out
      clear HA
      simp only [spec_l8First.l2] at H
      obtain ⟨y227, hy227⟩ : ∃ y_ : List Int, y_ = (([] : List Int)) := ⟨_, rfl⟩
      replace H : ((spec_l8Complete.f k2 x3_1 t224 x8_2 y227 (([] : List Int))).bind fun bt233 => (if bt233.2 = true then (some bt233.1) else (spec_l8First.l2 k2 x3_1 t224 (wrap64 (x8_2 + 1))))) = some r := by first | (rw [hy227];with_reducible exact H) | (have H2_ := (Option.bind_some _ _).symm.trans H;rw [hy227];with_reducible exact H2_) | (have H2_ := (Option.bind_some _ _).symm.trans H;with_reducible exact H2_) | with_reducible exact H | (rw [hy227];exact H) | exact H
      have Ny227 := Aside0.mk hy227
      clear hy227
      obtain ⟨y230, hy230⟩ : ∃ y_ : List Int, y_ = (([] : List Int)) := ⟨_, rfl⟩
      replace H : ((spec_l8Complete.f k2 x3_1 t224 x8_2 y227 y230).bind fun bt233 => (if bt233.2 = true then (some bt233.1) else (spec_l8First.l2 k2 x3_1 t224 (wrap64 (x8_2 + 1))))) = some r := by first | (rw [hy230];with_reducible exact H) | (have H2_ := (Option.bind_some _ _).symm.trans H;rw [hy230];with_reducible exact H2_) | (have H2_ := (Option.bind_some _ _).symm.trans H;with_reducible exact H2_) | with_reducible exact H | (rw [hy230];exact H) | exact H
      have Ny230 := Aside0.mk hy230
      clear hy230
      replace H := Option.bind_eq_some_iff.mp H
      obtain ⟨⟨t233, t236⟩, A240, H⟩ := H
      replace H : (if t236 = true then (some t233) else (spec_l8First.l2 k2 x3_1 t224 (wrap64 (x8_2 + 1)))) = some r := H
      have A24 := Aside0.mk A240
      clear A240
      by_cases c25 : t236 = true
      ·subst c25
       have H1 : (some t233) = some r := by rw [if_pos rfl] at H;exact H
       clear H
       have H := H1
       clear H1
       obtain rfl := Option.some.inj H
       go_wp2_with (first | ((with_reducible refine gate_dst (N := 44) rfl ?_);refine Kd.R_lit (Kd.int .i64) _ 3 ?hg (N := 44) ?hd (xs := ([] : List Int)) (inner := []) (ok := fun _ => True) (okp := fun _ => True) ?hr ?hp (fun _ hk => hk) trivial (Below.refl _ _) (Nat.le_refl _) (by simp) ?_;(case hd => rfl);(case hg => rfl);(case hr => first | (go_simp;done) | (go_simp;rfl));(case hp => exact (Reps.none _ _));intro v228 w26 ho27 hb hg_ hnew_;clear hg_ hnew_;(first | rw [← Ny227.out] at ho27 | (simp only [Int.reduceToNat] at ho27;rw [← Ny227.out] at ho27));have n0_ := Aside0.mk (Kd.R_elder' (by exact rP HO_3.out) (Kd.R_base ho27) hb);have n1_ := Aside0.mk (Kd.R_elder' (by exact rP HO_7.out) (Kd.R_base ho27) hb);have n2_ := Aside0.mk (Kd.R_lower (Kd.R_new' ho27 (Kd.R_lt (by exact rP HO_7.out))) (below_size (by exact bB)));have n3_ := Aside0.mk (blk_below (g := gb208) (o := .cells #[.int .i64 a0_0, .slice A0_1 l0_1.length c0_1] 29 (0, 0)) (by exact kP BK208.out) hb);have n4_ := Aside0.mk (below_step (by exact bB) hb);clear HO_3;clear HO_7;clear BK208;clear HB;have HO_3 := n0_;have HO_7 := n1_;have HO229 := n2_;have BK208 := n3_;have HB := n4_;clear n0_ n1_ n2_ n3_ n4_;clear hb ho27) | ((with_reducible refine gate_dst (N := 45) rfl ?_);refine Kd.R_lit (Kd.int .i64) _ 3 ?hg (N := 45) ?hd (xs := ([] : List Int)) (inner := []) (ok := fun _ => True) (okp := fun _ => True) ?hr ?hp (fun _ hk => hk) trivial (Below.refl _ _) (Nat.le_refl _) (by simp) ?_;(case hd => rfl);(case hg => rfl);(case hr => first | (go_simp;done) | (go_simp;rfl));(case hp => exact (Reps.none _ _));intro v231 w28 ho29 hb hg_ hnew_;clear hg_ hnew_;(first | rw [← Ny230.out] at ho29 | (simp only [Int.reduceToNat] at ho29;rw [← Ny230.out] at ho29));have n0_ := Aside0.mk (Kd.R_elder' (by exact rP HO_3.out) (Kd.R_base ho29) hb);have n1_ := Aside0.mk (Kd.R_elder' (by exact rP HO_7.out) (Kd.R_base ho29) hb);have n2_ := Aside0.mk (Kd.R_elder' (by exact rP HO229.out) (Kd.R_base ho29) hb);have n3_ := Aside0.mk (Kd.R_lower (Kd.R_new' (Kd.R_new' ho29 (Kd.R_lt (by exact rP HO_7.out))) (Kd.R_lt (by exact rP HO229.out))) (below_size (by exact bB)));have n4_ := Aside0.mk (blk_below (g := gb208) (o := .cells #[.int .i64 a0_0, .slice A0_1 l0_1.length c0_1] 29 (0, 0)) (by exact kP BK208.out) hb);have n5_ := Aside0.mk (below_step (by exact bB) hb);clear HO_3;clear HO_7;clear HO229;clear BK208;clear HB;have HO_3 := n0_;have HO_7 := n1_;have HO229 := n2_;have HO232 := n3_;have BK208 := n4_;have HB := n5_;clear n0_ n1_ n2_ n3_ n4_ n5_;clear hb ho29;obtain ⟨Ao30, co30, eo30⟩ := Kd.R_slice HO_7.out;subst eo30;obtain ⟨Ao31, co31, eo31⟩ := Kd.R_slice HO229.out;subst eo31;obtain ⟨Ao32, co32, eo32⟩ := Kd.R_slice HO232.out;subst eo32) | ((with_reducible refine gate_callee (f := 74) rfl ?_);refine goesL_ (some 46) rfl rfl Try.func74 (by kernel_rfl) rfl #[.slice Ao22 x3_1.length co22, .slice Ao30 t224.length co30, .int .i64 x8_2, .slice Ao31 y227.length co31, .slice Ao32 y230.length co32] rfl mM ?_;(with_reducible refine (spec_l8Complete.calls k2 _ _ x3_1 _ _ t224 x8_2 (fun k_ => some k_ = (.slice Ao31 y227.length co31 : Value).ownBlock) (.slice Ao31 y227.length co31) y227 _ _ y230 t233 true w _ ?side1 ?side2 ?side3 ?side4 ?side5 ?side6 ?side7 ?side8 A24.out).mono ?_);(case side1 => exact bB);(case side2 => exact Kd.C_kept_own (HO_3.out) (fun k_ hk_ hs_ => (hk_.1.2) hs_));(case side3 => exact (Kd.R_reads' HO_3.out).2.1);(case side4 => exact Kd.C_kept_own (HO_7.out) (fun k_ hk_ hs_ => (hk_.1.2) hs_));(case side5 => exact (Kd.R_reads' HO_7.out).2.1);(case side6 => exact Kd.R_tight rfl HO229.out);(case side7 => exact Kd.C_kept_own (HO232.out) (fun k_ hk_ hs_ => (hk_.2) hs_));(case side8 => exact (Kd.R_reads' HO232.out).2.1);rintro e w33 ⟨v234, rfl, ho0, hb, hkp⟩;refine ⟨_, rfl, ?_⟩;have n0_ := Aside0.mk (Kd.R_mono (ok' := fun k_ => some k_ ≠ (.slice Ao30 t224.length co30 : Value).ownBlock ∧ some k_ ≠ (.slice Ao32 y230.length co32 : Value).ownBlock ∧ some k_ ≠ (v234 : Value).ownBlock) (Kd.R_keptB (HO_3.out) hkp (fun k_ hk_ hs_ => (hk_.1.2) hs_)) (fun k_ hk_ => ⟨hk_.1.1.1, hk_.1.2, fun e_ => Or.elim (ho0.1 k_ e_.symm) (fun hs_ => hk_.2.1 hs_) (fun hn_ => Nat.not_le.2 hk_.2.2 hn_)⟩));have n1_ := Aside0.mk (Kd.R_mono (ok' := fun k_ => some k_ ≠ (.slice Ao32 y230.length co32 : Value).ownBlock ∧ some k_ ≠ (v234 : Value).ownBlock) (Kd.R_keptB (HO_7.out) hkp (fun k_ hk_ hs_ => (hk_.1.2) hs_)) (fun k_ hk_ => ⟨hk_.1.2, fun e_ => Or.elim (ho0.1 k_ e_.symm) (fun hs_ => hk_.2.1 hs_) (fun hn_ => Nat.not_le.2 hk_.2.2 hn_)⟩));have n2_ := Aside0.mk (blk_kept (by exact kP BK208.out) hkp (fun hs_ => (fun e_ => (Kd.R_ne HO229.out BK208.out (by decide)) e_) hs_));have n3_ := Aside0.mk (Kd.R_mono (ok' := fun k_ => some k_ ≠ (.slice Ao30 t224.length co30 : Value).ownBlock ∧ some k_ ≠ (v234 : Value).ownBlock) (Kd.R_keptB (HO232.out) hkp (fun k_ hk_ hs_ => (hk_.2) hs_)) (fun k_ hk_ => ⟨hk_.1.1.2, fun e_ => Or.elim (ho0.1 k_ e_.symm) (fun hs_ => hk_.2.1 hs_) (fun hn_ => Nat.not_le.2 hk_.2.2 hn_)⟩));have n4_ := Aside0.mk (Kd.R_mono (ok' := fun k_ => some k_ ≠ (.slice Ao30 t224.length co30 : Value).ownBlock ∧ some k_ ≠ (.slice Ao32 y230.length co32 : Value).ownBlock) ho0 (fun k_ hk_ => ⟨Or.elim hk_ (fun hs_ => fun e_ => (((HO_7.out).1 k_ e_.symm).1.2) hs_) (fun hn_ => (Kd.fresh' (Kd.R_lt (by exact rP HO_7.out)) k_ hn_)), Or.elim hk_ (fun hs_ => fun e_ => (((HO232.out).1 k_ e_.symm).2) hs_) (fun hn_ => (Kd.fresh' (Kd.R_lt (by exact rP HO232.out)) k_ hn_))⟩));have n5_ := Aside0.mk (hb);clear HO_3;clear HO_7;clear BK208;clear HO232;clear HB;clear HO229;have HO_3 := n0_;have HO_7 := n1_;have BK208 := n2_;have HO232 := n3_;have HO235 := n4_;have HB := n5_;clear n0_ n1_ n2_ n3_ n4_ n5_;(try clear hb);(try clear hkp);(try clear ho0)))
       go_ret
       exact ⟨_, by first | rfl | (simp [errW_none, errW_some] <;> rfl) | (simp [*, errW_none, errW_some] <;> rfl), by refine rP ?_;exact Kd.R_mono HO235.out (fun _ hk => trivial), by exact bB⟩
      ·replace c25 := Bool.eq_false_iff.mpr c25
       subst c25
       have H1 : (spec_l8First.l2 k2 x3_1 t224 (wrap64 (x8_2 + 1))) = some r := by rw [if_neg (show ¬ (false = true) by decide)] at H;exact H
       clear H
       have H := H1
       clear H1
       have H' := Aside0.mk H
       clear H
       go_wp2_with (first | ((with_reducible refine gate_dst (N := 44) rfl ?_);refine Kd.R_lit (Kd.int .i64) _ 3 ?hg (N := 44) ?hd (xs := ([] : List Int)) (inner := []) (ok := fun _ => True) (okp := fun _ => True) ?hr ?hp (fun _ hk => hk) trivial (Below.refl _ _) (Nat.le_refl _) (by simp) ?_;(case hd => rfl);(case hg => rfl);(case hr => first | (go_simp;done) | (go_simp;rfl));(case hp => exact (Reps.none _ _));intro v228 w34 ho35 hb hg_ hnew_;clear hg_ hnew_;(first | rw [← Ny227.out] at ho35 | (simp only [Int.reduceToNat] at ho35;rw [← Ny227.out] at ho35));have n0_ := Aside0.mk (Kd.R_elder' (by exact rP HO_3.out) (Kd.R_base ho35) hb);have n1_ := Aside0.mk (Kd.R_elder' (by exact rP HO_7.out) (Kd.R_base ho35) hb);have n2_ := Aside0.mk (Kd.R_lower (Kd.R_new' ho35 (Kd.R_lt (by exact rP HO_7.out))) (below_size (by exact bB)));have n3_ := Aside0.mk (blk_below (g := gb208) (o := .cells #[.int .i64 a0_0, .slice A0_1 l0_1.length c0_1] 29 (0, 0)) (by exact kP BK208.out) hb);have n4_ := Aside0.mk (below_step (by exact bB) hb);clear HO_3;clear HO_7;clear BK208;clear HB;have HO_3 := n0_;have HO_7 := n1_;have HO229 := n2_;have BK208 := n3_;have HB := n4_;clear n0_ n1_ n2_ n3_ n4_;clear hb ho35) | ((with_reducible refine gate_dst (N := 45) rfl ?_);refine Kd.R_lit (Kd.int .i64) _ 3 ?hg (N := 45) ?hd (xs := ([] : List Int)) (inner := []) (ok := fun _ => True) (okp := fun _ => True) ?hr ?hp (fun _ hk => hk) trivial (Below.refl _ _) (Nat.le_refl _) (by simp) ?_;(case hd => rfl);(case hg => rfl);(case hr => first | (go_simp;done) | (go_simp;rfl));(case hp => exact (Reps.none _ _));intro v231 w36 ho37 hb hg_ hnew_;clear hg_ hnew_;(first | rw [← Ny230.out] at ho37 | (simp only [Int.reduceToNat] at ho37;rw [← Ny230.out] at ho37));have n0_ := Aside0.mk (Kd.R_elder' (by exact rP HO_3.out) (Kd.R_base ho37) hb);have n1_ := Aside0.mk (Kd.R_elder' (by exact rP HO_7.out) (Kd.R_base ho37) hb);have n2_ := Aside0.mk (Kd.R_elder' (by exact rP HO229.out) (Kd.R_base ho37) hb);have n3_ := Aside0.mk (Kd.R_lower (Kd.R_new' (Kd.R_new' ho37 (Kd.R_lt (by exact rP HO_7.out))) (Kd.R_lt (by exact rP HO229.out))) (below_size (by exact bB)));have n4_ := Aside0.mk (blk_below (g := gb208) (o := .cells #[.int .i64 a0_0, .slice A0_1 l0_1.length c0_1] 29 (0, 0)) (by exact kP BK208.out) hb);have n5_ := Aside0.mk (below_step (by exact bB) hb);clear HO_3;clear HO_7;clear HO229;clear BK208;clear HB;have HO_3 := n0_;have HO_7 := n1_;have HO229 := n2_;have HO232 := n3_;have BK208 := n4_;have HB := n5_;clear n0_ n1_ n2_ n3_ n4_ n5_;clear hb ho37;obtain ⟨Ao38, co38, eo38⟩ := Kd.R_slice HO_7.out;subst eo38;obtain ⟨Ao39, co39, eo39⟩ := Kd.R_slice HO229.out;subst eo39;obtain ⟨Ao40, co40, eo40⟩ := Kd.R_slice HO232.out;subst eo40) | ((with_reducible refine gate_callee (f := 74) rfl ?_);refine goesL_ (some 46) rfl rfl Try.func74 (by kernel_rfl) rfl #[.slice Ao22 x3_1.length co22, .slice Ao38 t224.length co38, .int .i64 x8_2, .slice Ao39 y227.length co39, .slice Ao40 y230.length co40] rfl mM ?_;(with_reducible refine (spec_l8Complete.calls k2 _ _ x3_1 _ _ t224 x8_2 (fun k_ => some k_ = (.slice Ao39 y227.length co39 : Value).ownBlock) (.slice Ao39 y227.length co39) y227 _ _ y230 t233 false w _ ?side1 ?side2 ?side3 ?side4 ?side5 ?side6 ?side7 ?side8 A24.out).mono ?_);(case side1 => exact bB);(case side2 => exact Kd.C_kept_own (HO_3.out) (fun k_ hk_ hs_ => (hk_.1.2) hs_));(case side3 => exact (Kd.R_reads' HO_3.out).2.1);(case side4 => exact Kd.C_kept_own (HO_7.out) (fun k_ hk_ hs_ => (hk_.1.2) hs_));(case side5 => exact (Kd.R_reads' HO_7.out).2.1);(case side6 => exact Kd.R_tight rfl HO229.out);(case side7 => exact Kd.C_kept_own (HO232.out) (fun k_ hk_ hs_ => (hk_.2) hs_));(case side8 => exact (Kd.R_reads' HO232.out).2.1);rintro e w41 ⟨v234, rfl, ho0, hb, hkp⟩;refine ⟨_, rfl, ?_⟩;have n0_ := Aside0.mk (Kd.R_mono (ok' := fun k_ => some k_ ≠ (.slice Ao38 t224.length co38 : Value).ownBlock ∧ some k_ ≠ (.slice Ao40 y230.length co40 : Value).ownBlock ∧ some k_ ≠ (v234 : Value).ownBlock) (Kd.R_keptB (HO_3.out) hkp (fun k_ hk_ hs_ => (hk_.1.2) hs_)) (fun k_ hk_ => ⟨hk_.1.1.1, hk_.1.2, fun e_ => Or.elim (ho0.1 k_ e_.symm) (fun hs_ => hk_.2.1 hs_) (fun hn_ => Nat.not_le.2 hk_.2.2 hn_)⟩));have n1_ := Aside0.mk (Kd.R_mono (ok' := fun k_ => some k_ ≠ (.slice Ao40 y230.length co40 : Value).ownBlock ∧ some k_ ≠ (v234 : Value).ownBlock) (Kd.R_keptB (HO_7.out) hkp (fun k_ hk_ hs_ => (hk_.1.2) hs_)) (fun k_ hk_ => ⟨hk_.1.2, fun e_ => Or.elim (ho0.1 k_ e_.symm) (fun hs_ => hk_.2.1 hs_) (fun hn_ => Nat.not_le.2 hk_.2.2 hn_)⟩));have n2_ := Aside0.mk (blk_kept (by exact kP BK208.out) hkp (fun hs_ => (fun e_ => (Kd.R_ne HO229.out BK208.out (by decide)) e_) hs_));have n3_ := Aside0.mk (Kd.R_mono (ok' := fun k_ => some k_ ≠ (.slice Ao38 t224.length co38 : Value).ownBlock ∧ some k_ ≠ (v234 : Value).ownBlock) (Kd.R_keptB (HO232.out) hkp (fun k_ hk_ hs_ => (hk_.2) hs_)) (fun k_ hk_ => ⟨hk_.1.1.2, fun e_ => Or.elim (ho0.1 k_ e_.symm) (fun hs_ => hk_.2.1 hs_) (fun hn_ => Nat.not_le.2 hk_.2.2 hn_)⟩));have n4_ := Aside0.mk (Kd.R_mono (ok' := fun k_ => some k_ ≠ (.slice Ao38 t224.length co38 : Value).ownBlock ∧ some k_ ≠ (.slice Ao40 y230.length co40 : Value).ownBlock) ho0 (fun k_ hk_ => ⟨Or.elim hk_ (fun hs_ => fun e_ => (((HO_7.out).1 k_ e_.symm).1.2) hs_) (fun hn_ => (Kd.fresh' (Kd.R_lt (by exact rP HO_7.out)) k_ hn_)), Or.elim hk_ (fun hs_ => fun e_ => (((HO232.out).1 k_ e_.symm).2) hs_) (fun hn_ => (Kd.fresh' (Kd.R_lt (by exact rP HO232.out)) k_ hn_))⟩));have n5_ := Aside0.mk (hb);clear HO_3;clear HO_7;clear BK208;clear HO232;clear HB;clear HO229;have HO_3 := n0_;have HO_7 := n1_;have BK208 := n2_;have HO232 := n3_;have HO235 := n4_;have HB := n5_;clear n0_ n1_ n2_ n3_ n4_ n5_;(try clear hb);(try clear hkp);(try clear ho0)))
       go_roundg k2
       case measure => have := HK1.out;have := HK2.out;omega
       case rel => exact ⟨(wrap64 (x8_2 + 1)), (by first | rfl | (simp;done) | (simp [*];done)), H', ⟨by have := HK1.out;have := HK2.out;omega⟩, ⟨by refine rP ?_;exact Kd.R_mono HO_3.out (fun _ hk => hk.1)⟩, ⟨by refine rP ?_;exact Kd.R_mono HO_7.out (fun _ hk => trivial)⟩, ⟨by exact kP BK208.out⟩, ⟨by exact bB⟩⟩




end Go.Proofs.Ytaddgielnfhhpaa.QBurningNumber
