import Derived.Test.YtaddgielnfhhpaaQNullityOf0
import Derived.Test.YtaddgielnfhhpaaQNullityOf4
namespace Go.Proofs.Ytaddgielnfhhpaa.QNullityOf
open Go.RowKit Go.Proofs.YtaddgielnfhhpaaW.PrintWords Go.Proofs.YtaddgielnfhhpaaW.PrintLast Go.Proofs.YtaddgielnfhhpaaW.PrintMore
attribute [local go_sem] max2_int min2_int max_two min_two max_three min_three max_four min_four   -- for this text's walks alone
set_option linter.unusedVariables false
set_option linter.unusedSimpArgs false
/-! ### laws_toGraph: function 11 -/
def laws_toGraph.f (k : Nat) (a0_0 : Int) (l0_1 : List (S80)) : Option (Int × (List (S80))) := (laws_toIntA2S.f k l0_1).bind fun t149 => (some (a0_0, t149))
theorem laws_toGraph.mono : ∀ a0 a1 k, LeO (laws_toGraph.f k a0 a1) (laws_toGraph.f (k + 1) a0 a1) := by
 intro a0 a1 k
 unfold laws_toGraph.f
 repeat' first
   | (with_reducible exact laws_toIntA2S.mono _ _)
   | (with_reducible exact LeO.refl _)
   | (with_reducible exact LeO.none _)
   | (with_reducible refine LeO.ite ?_ ?_)
   | (with_reducible refine LeO.bind ?_ (fun _ => ?_))
   | exact laws_toIntA2S.mono _ _
   | exact LeO.none _
   | refine LeO.ite ?_ ?_
   | refine LeO.bind ?_ (fun _ => ?_)
set_option maxHeartbeats 8000000 in
set_option maxRecDepth 100000 in
theorem laws_toGraph.calls (k : Nat) (a0_0 : Int) (A0_1 : Option Addr) (c0_1 : Nat) (l0_1 : List (S80)) (r1 : Int) (r2 : List (S80)) (w : World) (hr0_1 : Kd.C k80 w A0_1 l0_1.length l0_1) (hc0_1 : l0_1.length ≤ c0_1) (h : laws_toGraph.f k a0_0 l0_1 = some (r1, r2)) :
  Calls Try.prog 11 #[.agg #[.int .i64 a0_0, .slice A0_1 l0_1.length c0_1]] w fun e w' => ∃ v1_ : Value, e = .returned (.agg #[.int .i64 r1, v1_]) ∧ Kd.R k80 80 w' w.heap.size (fun _ => True) v1_ r2 ∧ Below w.heap.size w w' := by
 have hu24 := Try.underlying24
 have hu29 := Try.underlying29
 have HR0_1 := Aside0.mk hr0_1
 have HC0_1 := Aside0.mk hc0_1
 clear hr0_1 hc0_1
 have HB := Aside0.mk (Below.refl w.heap.size w)
 have H : ((laws_toIntA2S.f k l0_1).bind fun t149 => (some (a0_0, t149))) = some (r1, r2) := h
 clear h
 replace H := Option.bind_eq_some_iff.mp H
 obtain ⟨t149, A20, H⟩ := H
 replace H : (some (a0_0, t149)) = some (r1, r2) := H
 have A2 := Aside0.mk A20
 clear A20
 simp only [Option.some.injEq, Prod.mk.injEq] at H
 obtain ⟨rfl, rfl⟩ := H
 go_enter Try.func11, Try.ntmps11
 go_wp2_with (first | ((with_reducible refine gate_dst (N := 1) rfl ?_);refine box_event ?hg (N := 1) ?hd (cs := #[.int .i64 a0_0, .slice A0_1 l0_1.length c0_1]) (t := 24) ?hr ?_;(case hd => rfl);(case hg => rfl);(case hr => first | (go_simp;done) | (go_simp;rfl));intro gb146 hg w3 hbox hb;have n0_ := Aside0.mk (below_step (by exact bB) hb);have n1_ := Aside0.mk (hbox);have n2_ := Aside0.mk ((by rw [hg];exact (below_size (by exact bB)) : w.heap.size ≤ gb146));have n3_ := Aside0.mk ((by rw [hg];exact (below_size (by exact bB)) : w.heap.size ≤ gb146));clear HB;have HB := n0_;have BK146 := n1_;have GW146 := n2_;have GE146 := n3_;clear n0_ n1_ n2_ n3_;clear hb hbox hg) | ((with_reducible refine gate_dst (N := 2) rfl ?_);refine box_event ?hg (N := 2) ?hd (cs := #[.int .i64 0, .slice none 0 0]) (t := 29) ?hr ?_;(case hd => rfl);(case hg => rfl);(case hr => first | (go_simp;done) | (go_simp;rfl));intro gb147 hg w4 hbox hb;have n0_ := Aside0.mk (blk_below (g := gb146) (o := .cells #[.int .i64 a0_0, .slice A0_1 l0_1.length c0_1] 24 (0, 0)) (by exact kP BK146.out) hb);have n1_ := Aside0.mk (below_step (by exact bB) hb);have n2_ := Aside0.mk (hbox);have n3_ := Aside0.mk ((by rw [hg];exact (below_size (by exact bB)) : w.heap.size ≤ gb147));have n4_ := Aside0.mk ((by rw [hg];exact (below_size (by exact bB)) : w.heap.size ≤ gb147));have n5_ := Aside0.mk ((by rw [hg];exact Nat.ne_of_lt (blk_lt (g := gb146) (o := .cells #[.int .i64 a0_0, .slice A0_1 l0_1.length c0_1] 24 (0, 0)) (by exact kP BK146.out)) : gb146 ≠ gb147));have n6_ := Aside0.mk ((by rw [hg];exact Nat.ne_of_gt (blk_lt (g := gb146) (o := .cells #[.int .i64 a0_0, .slice A0_1 l0_1.length c0_1] 24 (0, 0)) (by exact kP BK146.out)) : gb147 ≠ gb146));clear BK146;clear HB;have BK146 := n0_;have HB := n1_;have BK147 := n2_;have GW147 := n3_;have GE147 := n4_;have NB146_147 := n5_;have NB147_146 := n6_;clear n0_ n1_ n2_ n3_ n4_ n5_ n6_;clear hb hbox hg) | ((with_reducible refine gate_dst (N := 3) rfl ?_);refine box_event ?hg (N := 3) ?hd (cs := #[.int .i64 0, .slice none 0 0]) (t := 29) ?hr ?_;(case hd => rfl);(case hg => rfl);(case hr => first | (go_simp;done) | (go_simp;rfl));intro gb148 hg w5 hbox hb;have n0_ := Aside0.mk (blk_below (g := gb146) (o := .cells #[.int .i64 a0_0, .slice A0_1 l0_1.length c0_1] 24 (0, 0)) (by exact kP BK146.out) hb);have n1_ := Aside0.mk (blk_below (g := gb147) (o := .cells #[.int .i64 0, .slice none 0 0] 29 (0, 0)) (by exact kP BK147.out) hb);have n2_ := Aside0.mk (below_step (by exact bB) hb);have n3_ := Aside0.mk (hbox);have n4_ := Aside0.mk ((by rw [hg];exact (below_size (by exact bB)) : w.heap.size ≤ gb148));have n5_ := Aside0.mk ((by rw [hg];exact (below_size (by exact bB)) : w.heap.size ≤ gb148));have n6_ := Aside0.mk ((by rw [hg];exact Nat.ne_of_lt (blk_lt (g := gb146) (o := .cells #[.int .i64 a0_0, .slice A0_1 l0_1.length c0_1] 24 (0, 0)) (by exact kP BK146.out)) : gb146 ≠ gb148));have n7_ := Aside0.mk ((by rw [hg];exact Nat.ne_of_gt (blk_lt (g := gb146) (o := .cells #[.int .i64 a0_0, .slice A0_1 l0_1.length c0_1] 24 (0, 0)) (by exact kP BK146.out)) : gb148 ≠ gb146));have n8_ := Aside0.mk ((by rw [hg];exact Nat.ne_of_lt (blk_lt (g := gb147) (o := .cells #[.int .i64 0, .slice none 0 0] 29 (0, 0)) (by exact kP BK147.out)) : gb147 ≠ gb148));have n9_ := Aside0.mk ((by rw [hg];exact Nat.ne_of_gt (blk_lt (g := gb147) (o := .cells #[.int .i64 0, .slice none 0 0] 29 (0, 0)) (by exact kP BK147.out)) : gb148 ≠ gb147));clear BK146;clear BK147;clear HB;have BK146 := n0_;have BK147 := n1_;have HB := n2_;have BK148 := n3_;have GW148 := n4_;have GE148 := n5_;have NB146_148 := n6_;have NB148_146 := n7_;have NB147_148 := n8_;have NB148_147 := n9_;clear n0_ n1_ n2_ n3_ n4_ n5_ n6_ n7_ n8_ n9_;clear hb hbox hg;have hnb6 := NB146_147.out;have hnc6 := NB147_146.out;have hnb7 := NB146_148.out;have hnc7 := NB148_146.out;have hcz8_0 : w5.cell? ⟨gb146, 0, none⟩ = some (.int .i64 a0_0) := (blk_cell BK146.out 0).trans rfl;have hcz8_1 : w5.cell? ⟨gb146, 1, none⟩ = some (.slice A0_1 l0_1.length c0_1) := (blk_cell BK146.out 1).trans rfl;have hfz8_0 := blk_frozen BK146.out 0;have hfz8_1 := blk_frozen BK146.out 1;have hnb9 := NB148_147.out;have hnc9 := NB147_148.out;have hcz10_0 : w5.cell? ⟨gb148, 0, none⟩ = some (.int .i64 0) := (blk_cell BK148.out 0).trans rfl;have hcz10_1 : w5.cell? ⟨gb148, 1, none⟩ = some (.slice none 0 0) := (blk_cell BK148.out 1).trans rfl;have hfz10_0 := blk_frozen BK148.out 0;have hfz10_1 := blk_frozen BK148.out 1) | ((with_reducible refine gate_callee (f := 37) rfl ?_);refine goesL_ (some 9) rfl rfl Try.func37 (by kernel_rfl) rfl #[.slice A0_1 l0_1.length c0_1] rfl mM ?_;(with_reducible refine (laws_toIntA2S.calls k _ _ l0_1 t149 _ ?side1 ?side2 A2.out).mono ?_);(case side1 => exact Kd.C_below HR0_1.out (by exact bB));(case side2 => exact HC0_1.out);rintro e w11 ⟨v150, rfl, ho0, hb⟩;refine ⟨_, rfl, ?_⟩;have n0_ := Aside0.mk (Kd.R_lower ho0 (below_size (by exact bB)));have n1_ := Aside0.mk (blk_below (g := gb146) (o := .cells #[.int .i64 a0_0, .slice A0_1 l0_1.length c0_1] 24 (0, 0)) (by refine kP ?_;refine blk_far ?_ NB146_148.out _;exact kP BK146.out) hb);have n2_ := Aside0.mk (blk_below (g := gb147) (o := .cells #[.int .i64 0, .slice none 0 0] 29 (0, 0)) (by refine kP ?_;refine blk_far ?_ NB147_148.out _;exact kP BK147.out) hb);have n3_ := Aside0.mk (blk_below (g := gb148) (o := .cells #[.int .i64 a0_0, .slice none 0 0] 29 (0, 0)) (by refine kP ?_;refine blk_put (cs := #[.int .i64 0, .slice none 0 0]) ?_ 0 _ rfl;exact kP BK148.out) hb);have n4_ := Aside0.mk (below_step (by exact bB) hb);clear BK146;clear BK147;clear BK148;clear HB;have HO151 := n0_;have BK146 := n1_;have BK147 := n2_;have BK148 := n3_;have HB := n4_;clear n0_ n1_ n2_ n3_ n4_;(try clear hb);(try clear hb2);(try clear hk);(try clear hi);(try clear ho0);obtain ⟨Ao12, co12, eo12⟩ := Kd.R_slice HO151.out;subst eo12;have hcz13_0 : w11.cell? ⟨gb148, 0, none⟩ = some (.int .i64 a0_0) := (blk_cell BK148.out 0).trans rfl;have hcz13_1 : w11.cell? ⟨gb148, 1, none⟩ = some (.slice none 0 0) := (blk_cell BK148.out 1).trans rfl;have hfz13_0 := blk_frozen BK148.out 0;have hfz13_1 := blk_frozen BK148.out 1;have hcz14_0 : w11.cell? ⟨gb147, 0, none⟩ = some (.int .i64 0) := (blk_cell BK147.out 0).trans rfl;have hcz14_1 : w11.cell? ⟨gb147, 1, none⟩ = some (.slice none 0 0) := (blk_cell BK147.out 1).trans rfl;have hfz14_0 := blk_frozen BK147.out 0;have hfz14_1 := blk_frozen BK147.out 1))
 refine bodyPost_ret (results_cell_row rfl _ _ gb147 29 #[.int .i64 a0_0, .slice Ao12 t149.length co12] (0, 0) _ rfl (by refine kP ?_;refine blk_put (cs := #[.int .i64 a0_0, .slice none 0 0]) ?_ 1 _ rfl;refine kP ?_;refine blk_put (cs := #[.int .i64 0, .slice none 0 0]) ?_ 0 _ rfl;refine kP ?_;refine blk_far ?_ NB147_148.out _;exact kP BK147.out) Try.underlying29 rfl (by kernel_rfl)) rfl ?_
 exact ⟨_, by first | rfl | (simp [errW_none, errW_some] <;> rfl) | (simp [*, errW_none, errW_some] <;> rfl), by refine rP ?_;exact Kd.R_mono (Kd.R_far (p := ⟨gb147, 1, none⟩) (Kd.R_far (p := ⟨gb147, 0, none⟩) (Kd.R_far (p := ⟨gb148, 1, none⟩) (Kd.R_types (Kd.R_types HO151.out BK148.out (by decide)) BK147.out (by decide)) (fun _ hk => hk.1.2) (.slice Ao12 t149.length co12)) (fun _ hk => hk.2) (.int .i64 a0_0)) (fun _ hk => hk.2) (.slice Ao12 t149.length co12)) (fun _ hk => trivial), by exact bB⟩




/-! ### laws_toIntS: function 12 -/
def laws_toIntS.l0 : Nat → List Int → List Int → Int → Option (List Int)
 | 0, _, _, _ => none
 | k + 1, x0, x3, x4 => if x4 < (x0.length : Int) then (if 0 ≤ x4 then (if x4 < (x3.length : Int) then (laws_toIntS.l0 k x0 (x3.set (x4 : Int).toNat (rd x0 x4)) (wrap64 (x4 + 1))) else (none)) else (none)) else (some x3)
def laws_toIntS.f (k : Nat) (l0 : List Int) : Option (List Int) := if 0 ≤ (l0.length : Int) then (if ((l0.length : Int) : Int).toNat ≤ 35184372088832 then (laws_toIntS.l0 k l0 (List.replicate ((l0.length : Int) : Int).toNat 0) 0) else (none)) else (none)
theorem laws_toIntS.mono_l : ∀ k, (∀ y0 y1 y2, LeO (laws_toIntS.l0 k y0 y1 y2) (laws_toIntS.l0 (k + 1) y0 y1 y2))
 | 0 => fun _ _ _ r h => by simp [laws_toIntS.l0] at h
 | k + 1 => by
  have ih0 := laws_toIntS.mono_l k
  ·intro y0 y1 y2
   unfold laws_toIntS.l0
   repeat' first
   | (with_reducible exact ih0 _ _ _)
   | (with_reducible exact LeO.refl _)
   | (with_reducible exact LeO.none _)
   | (with_reducible refine LeO.ite ?_ ?_)
   | (with_reducible refine LeO.bind ?_ (fun _ => ?_))
   | exact ih0 _ _ _
   | exact LeO.none _
   | refine LeO.ite ?_ ?_
   | refine LeO.bind ?_ (fun _ => ?_)
theorem laws_toIntS.mono : ∀ a0 k, LeO (laws_toIntS.f k a0) (laws_toIntS.f (k + 1) a0) := by
 intro a0 k
 have ih0 := laws_toIntS.mono_l k
 unfold laws_toIntS.f
 repeat' first
   | (with_reducible exact ih0 _ _ _)
   | (with_reducible exact LeO.refl _)
   | (with_reducible exact LeO.none _)
   | (with_reducible refine LeO.ite ?_ ?_)
   | (with_reducible refine LeO.bind ?_ (fun _ => ?_))
   | exact ih0 _ _ _
   | exact LeO.none _
   | refine LeO.ite ?_ ?_
   | refine LeO.bind ?_ (fun _ => ?_)
set_option maxHeartbeats 8000000 in
set_option maxRecDepth 100000 in
theorem laws_toIntS.calls (k : Nat) (A0 : Option Addr) (c0 : Nat) (l0 : List Int) (r : List Int) (w : World) (hr0 : Kd.C (Kd.int .i64) w A0 l0.length l0) (hc0 : l0.length ≤ c0) (h : laws_toIntS.f k l0 = some r) :
  Calls Try.prog 12 #[.slice A0 l0.length c0] w fun e w' => ∃ v0_ : Value, e = .returned (v0_) ∧ Kd.R (Kd.int .i64) 3 w' w.heap.size (fun _ => True) v0_ r ∧ Below w.heap.size w w' := by
 have HR0 := Aside0.mk hr0
 have HC0 := Aside0.mk hc0
 clear hr0 hc0
 have HB := Aside0.mk (Below.refl w.heap.size w)
 have H : (if 0 ≤ (l0.length : Int) then (if ((l0.length : Int) : Int).toNat ≤ 35184372088832 then (laws_toIntS.l0 k l0 (List.replicate ((l0.length : Int) : Int).toNat 0) 0) else (none)) else (none)) = some r := h
 clear h
 by_cases c2 : 0 ≤ (l0.length : Int)
 ·rw [if_pos c2] at H
  have c2b0 := eq_true c2
  have c2b1 : decide (0 ≤ (l0.length : Int)) = true := decide_eq_true c2
  clear c2
  by_cases c3 : ((l0.length : Int) : Int).toNat ≤ 35184372088832
  ·rw [if_pos c3] at H
   have c3b0 := eq_true c3
   have c3b1 : decide (((l0.length : Int) : Int).toNat ≤ 35184372088832) = true := decide_eq_true c3
   clear c3
   obtain ⟨y152, hy152⟩ : ∃ y_ : List Int, y_ = (List.replicate ((l0.length : Int) : Int).toNat 0) := ⟨_, rfl⟩
   replace H : (laws_toIntS.l0 k l0 y152 0) = some r := by first | (rw [hy152];with_reducible exact H) | (have H2_ := (Option.bind_some _ _).symm.trans H;rw [hy152];with_reducible exact H2_) | (have H2_ := (Option.bind_some _ _).symm.trans H;with_reducible exact H2_) | with_reducible exact H | (rw [hy152];exact H) | exact H
   have Ny152 := Aside0.mk hy152
   clear hy152
   have H' := Aside0.mk H
   clear H
   go_enter Try.func12, Try.ntmps12
   go_wp2_with (first | ((with_reducible refine gate_dst (N := 7) rfl ?_);refine Kd.R_make (Kd.int .i64) _ 3 rfl (N := 7) rfl 25 _ _ rfl (l0.length : Int) rfl rfl Try.underlying25 (.int .i64 0) 8 info3 rfl (by decide) (by omega) 0 (ok := fun _ => True) (okp := fun _ => True) rfl (fun _ hk => hk) trivial (oA) (Nat.le_trans (Nat.mul_le_mul_right _ (oA : (l0.length : Int).toNat ≤ 35184372088832)) (by omega)) (Below.refl _ _) (Nat.le_refl _) ?_;intro v153 w4 ho5 hb hg_ hnew_;clear hg_ hnew_;(first | rw [← Ny152.out] at ho5 | (simp only [Int.reduceToNat] at ho5;rw [← Ny152.out] at ho5));have n0_ := Aside0.mk (Kd.R_lower ho5 (below_size (by exact bB)));have n1_ := Aside0.mk (below_step (by exact bB) hb);clear HB;have HO154 := n0_;have HB := n1_;clear n0_ n1_;clear hb ho5))
   go_loopg [4] k (fun kq v4 w' => ∃ (x3_1 : List Int) (x4_1 : Int), v4 = .int .i64 x4_1 ∧ Aside0 (laws_toIntS.l0 kq l0 x3_1 x4_1 = some r) ∧ Aside0 (kq ≤ k) ∧ Aside0 (Kd.R (Kd.int .i64) 3 w' w.heap.size (fun _ => True) v153 x3_1) ∧ Aside0 (Below w.heap.size w w'))
   case atStart => exact ⟨(y152), (0), (by first | rfl | (simp;done) | (simp [*];done)), H', ⟨Nat.le_refl _⟩, ⟨by exact rP HO154.out⟩, ⟨by exact bB⟩⟩
   case round =>
    clear H'
    try clear c1
    try clear c2
    try clear c2b0
    try clear c2b1
    try clear p2
    try clear c3
    try clear c3b0
    try clear c3b1
    obtain ⟨x3_1, x4_1, rfl, HA, HK1, HO_3, HB⟩ := hrel
    cases gk with
    | zero => exact absurd HA.out (by simp [laws_toIntS.l0])
    | succ k1 =>
     have H := HA.out
     clear HA
     simp only [laws_toIntS.l0] at H
     by_cases c6 : x4_1 < (l0.length : Int)
     ·rw [if_pos c6] at H
      have c6b0 : decide (x4_1 < (l0.length : Int)) = true := decide_eq_true c6
      clear c6
      by_cases c7 : 0 ≤ x4_1
      ·rw [if_pos c7] at H
       have c7b0 : decide (0 ≤ x4_1) = true := decide_eq_true c7
       clear c7
       by_cases c8 : x4_1 < (x3_1.length : Int)
       ·rw [if_pos c8] at H
        have c8b0 : decide (x4_1 < (x3_1.length : Int)) = true := decide_eq_true c8
        clear c8
        obtain ⟨y156, hy156⟩ : ∃ y_ : List Int, y_ = (x3_1.set (x4_1 : Int).toNat (rd l0 x4_1)) := ⟨_, rfl⟩
        replace H : (laws_toIntS.l0 k1 l0 y156 (wrap64 (x4_1 + 1))) = some r := by first | (rw [hy156];with_reducible exact H) | (have H2_ := (Option.bind_some _ _).symm.trans H;rw [hy156];with_reducible exact H2_) | (have H2_ := (Option.bind_some _ _).symm.trans H;with_reducible exact H2_) | with_reducible exact H | (rw [hy156];exact H) | exact H
        have Ny156 := Aside0.mk hy156
        clear hy156
        have H' := Aside0.mk H
        clear H
        have p155 : 0 ≤ (x4_1 : Int) := oA
        have q155 : x4_1 < (l0.length : Int) := oA
        obtain ⟨ad155, e155, hx155_0⟩ := Kd.at_int HR0.out x4_1 p155 q155
        cases e155
        replace hx155_0 := (HB.out.cell (World.block_lt_of_cell? w _ hx155_0)).trans hx155_0
        replace p155 := eq_true p155
        replace q155 := eq_true q155
        have p9 : 0 ≤ (x4_1 : Int) := oA
        have q9 : (x4_1 : Int) < ((x3_1.length : Int) : Int) := oA
        obtain ⟨go9, co9, eo9, gb9, gl9, cl9, HG9⟩ := Kd.R_form HO_3.out (by omega)
        (first | cases eo9 | (injection eo9 with ea_ en_ ec_;(first | subst ea_ | (injection ea_ with ea_;subst ea_));subst ec_;clear en_))
        have GB9 := Aside0.mk gb9
        have GG9 := Aside0.mk HG9
        clear gb9 gl9 HG9
        obtain ⟨hx9_0, hf9_0⟩ := Kd.R_celln 0 HO_3.out (x4_1 : Int) p9 q9
        replace p9 := eq_true p9
        replace q9 := eq_true q9
        have HP10 := Kd.R_putg HO_3.out (x4_1 : Int) (rd l0 x4_1)
        go_wp2_with (first | ((with_reducible refine gate_store (t := 3) (p := 20) rfl ?_);refine store_event (t := 3) (p := 20) (v := ?vo_w11) (w1 := (wr.setCell ⟨go9, (x4_1 : Int).toNat, none⟩ (.int .i64 (rd l0 x4_1)))) ?hg ?ho ?hn ?hr ?_;(case ho => rfl);(case hg => rfl);(case hn => rfl);(case hr => first | (go_simp;done) | (go_simp;rfl));intro w11 hw;have hg : wr.grownBy w11 (some go9) := (by rw [hw];exact HP10.2);have hp_ : Kd.R (Kd.int .i64) 3 w11 w.heap.size (fun _ => True) (.slice (some ⟨go9, 0, none⟩) x3_1.length co9) y156 := (by rw [hw, Ny156.out];exact HP10.1);clear HP10;have n0_ := Aside0.mk (hp_);have n1_ := Aside0.mk ((by rw [hw];exact below_set (HB.out) GB9.out : Below w.heap.size w w11));clear HO_3;clear HB;have HO_3 := n0_;have HB := n1_;clear n0_ n1_;clear hg hw hp_))
        go_roundg k1
        case measure => have := HK1.out;omega
        case rel => exact ⟨(y156), (wrap64 (x4_1 + 1)), (by first | rfl | (simp;done) | (simp [*];done)), H', ⟨by have := HK1.out;omega⟩, ⟨by exact rP HO_3.out⟩, ⟨by exact bB⟩⟩
       ·rw [if_neg c8] at H
        exact absurd H (by simp)
      ·rw [if_neg c7] at H
       exact absurd H (by simp)
     ·rw [if_neg c6] at H
      have c6b0 : decide (x4_1 < (l0.length : Int)) = false := decide_eq_false c6
      clear c6
      obtain rfl := Option.some.inj H
      go_wp2
      go_ret
      exact ⟨_, by first | rfl | (simp [errW_none, errW_some] <;> rfl) | (simp [*, errW_none, errW_some] <;> rfl), by exact rP HO_3.out, by exact bB⟩
  ·rw [if_neg c3] at H
   exact absurd H (by simp)
 ·rw [if_neg c2] at H
  exact absurd H (by simp)


/-! ### impl_within: function 65 -/
def impl_within.f (a0 : Int) (a1 : Int) (a2 : Int) : Option (Bool) := if a0 ≥ a1 then (some (decide (a0 ≤ a2))) else (some false)
set_option maxHeartbeats 8000000 in
set_option maxRecDepth 100000 in
theorem impl_within.calls (a0 : Int) (a1 : Int) (a2 : Int) (r : Bool) (w : World) (h : impl_within.f a0 a1 a2 = some r) :
  Calls Try.prog 65 #[.int .i64 a0, .int .i64 a1, .int .i64 a2] w fun e w' => e = .returned (.bool r) ∧ Drawn0 w w' := by
 have H : (if a0 ≥ a1 then (some (decide (a0 ≤ a2))) else (some false)) = some r := h
 clear h
 by_cases c4 : a0 ≥ a1
 ·rw [if_pos c4] at H
  have c4b0 : decide (a1 ≤ a0) = true := decide_eq_true c4
  clear c4
  obtain rfl := Option.some.inj H
  go_enter Try.func65, Try.ntmps65
  go_wp2
  go_ret
  exact ⟨by first | rfl | (simp;done) | (simp [*];done), by repeat (first | exact Drawn0.refl _ | apply Drawn0.step)⟩
 ·rw [if_neg c4] at H
  have c4b0 : decide (a1 ≤ a0) = false := decide_eq_false c4
  clear c4
  obtain rfl := Option.some.inj H
  go_enter Try.func65, Try.ntmps65
  go_wp2
  go_ret
  exact ⟨by first | rfl | (simp;done) | (simp [*];done), by repeat (first | exact Drawn0.refl _ | apply Drawn0.step)⟩


/-! ### cmp_isNaN_int: function 115 -/
def cmp_isNaN_int.f (a0 : Int) : Option (Bool) := some (a0 != a0)
set_option maxHeartbeats 8000000 in
set_option maxRecDepth 100000 in
theorem cmp_isNaN_int.calls (a0 : Int) (r : Bool) (w : World) (h : cmp_isNaN_int.f a0 = some r) :
  Calls Try.prog 115 #[.int .i64 a0] w fun e w' => e = .returned (.bool r) ∧ Drawn0 w w' := by
 have H : (some (a0 != a0)) = some r := h
 clear h
 obtain rfl := Option.some.inj H
 go_enter Try.func115, Try.ntmps115
 go_wp2
 go_ret
 exact ⟨by first | rfl | (simp;done) | (simp [*];done), by repeat (first | exact Drawn0.refl _ | apply Drawn0.step)⟩


/-! ### cmp_Compare_int: function 99 -/
def cmp_Compare_int.f (a0 : Int) (a1 : Int) : Option (Int) := (cmp_isNaN_int.f a0).bind fun t157 => ((cmp_isNaN_int.f a1).bind fun t158 => (if t157 = true then (if t158 = true then (some 0) else (some (-1))) else (if t158 = true then (some 1) else (if a0 < a1 then (some (-1)) else (if a0 > a1 then (some 1) else (some 0))))))
set_option maxHeartbeats 8000000 in
set_option maxRecDepth 100000 in
theorem cmp_Compare_int.calls (a0 : Int) (a1 : Int) (r : Int) (w : World) (h : cmp_Compare_int.f a0 a1 = some r) :
  Calls Try.prog 99 #[.int .i64 a0, .int .i64 a1] w fun e w' => e = .returned (.int .i64 r) ∧ Drawn0 w w' := by
 have H : ((cmp_isNaN_int.f a0).bind fun t157 => ((cmp_isNaN_int.f a1).bind fun t158 => (if t157 = true then (if t158 = true then (some 0) else (some (-1))) else (if t158 = true then (some 1) else (if a0 < a1 then (some (-1)) else (if a0 > a1 then (some 1) else (some 0))))))) = some r := h
 clear h
 replace H := Option.bind_eq_some_iff.mp H
 obtain ⟨t157, A30, H⟩ := H
 replace H : ((cmp_isNaN_int.f a1).bind fun t158 => (if t157 = true then (if t158 = true then (some 0) else (some (-1))) else (if t158 = true then (some 1) else (if a0 < a1 then (some (-1)) else (if a0 > a1 then (some 1) else (some 0)))))) = some r := H
 have A3 := Aside0.mk A30
 clear A30
 replace H := Option.bind_eq_some_iff.mp H
 obtain ⟨t158, A40, H⟩ := H
 replace H : (if t157 = true then (if t158 = true then (some 0) else (some (-1))) else (if t158 = true then (some 1) else (if a0 < a1 then (some (-1)) else (if a0 > a1 then (some 1) else (some 0))))) = some r := H
 have A4 := Aside0.mk A40
 clear A40
 by_cases c5 : t157 = true
 ·subst c5
  have H1 : (if t158 = true then (some 0) else (some (-1))) = some r := by rw [if_pos rfl] at H;exact H
  clear H
  have H := H1
  clear H1
  by_cases c6 : t158 = true
  ·subst c6
   have H1 : (some 0) = some r := by rw [if_pos rfl] at H;exact H
   clear H
   have H := H1
   clear H1
   obtain rfl := Option.some.inj H
   go_enter Try.func99, Try.ntmps99
   go_wp2_with (first | ((with_reducible refine gate_callee (f := 115) rfl ?_);refine goesL_ (some 8) rfl rfl Try.func115 (by kernel_rfl) rfl #[.int .i64 a0] rfl mM ?_;(with_reducible refine (cmp_isNaN_int.calls a0 true _ A3.out).mono ?_);rintro e w' ⟨rfl, ⟨nd, rfl⟩⟩;refine ⟨_, rfl, ?_⟩) | ((with_reducible refine gate_callee (f := 115) rfl ?_);refine goesL_ (some 10) rfl rfl Try.func115 (by kernel_rfl) rfl #[.int .i64 a1] rfl mM ?_;(with_reducible refine (cmp_isNaN_int.calls a1 true _ A4.out).mono ?_);rintro e w' ⟨rfl, ⟨nd, rfl⟩⟩;refine ⟨_, rfl, ?_⟩))
   go_ret
   exact ⟨by first | rfl | (simp;done) | (simp [*];done), by repeat (first | exact Drawn0.refl _ | apply Drawn0.step)⟩
  ·replace c6 := Bool.eq_false_iff.mpr c6
   subst c6
   have H1 : (some (-1)) = some r := by rw [if_neg (show ¬ (false = true) by decide)] at H;exact H
   clear H
   have H := H1
   clear H1
   obtain rfl := Option.some.inj H
   go_enter Try.func99, Try.ntmps99
   go_wp2_with (first | ((with_reducible refine gate_callee (f := 115) rfl ?_);refine goesL_ (some 8) rfl rfl Try.func115 (by kernel_rfl) rfl #[.int .i64 a0] rfl mM ?_;(with_reducible refine (cmp_isNaN_int.calls a0 true _ A3.out).mono ?_);rintro e w' ⟨rfl, ⟨nd, rfl⟩⟩;refine ⟨_, rfl, ?_⟩) | ((with_reducible refine gate_callee (f := 115) rfl ?_);refine goesL_ (some 10) rfl rfl Try.func115 (by kernel_rfl) rfl #[.int .i64 a1] rfl mM ?_;(with_reducible refine (cmp_isNaN_int.calls a1 false _ A4.out).mono ?_);rintro e w' ⟨rfl, ⟨nd, rfl⟩⟩;refine ⟨_, rfl, ?_⟩))
   go_ret
   exact ⟨by first | rfl | (simp;done) | (simp [*];done), by repeat (first | exact Drawn0.refl _ | apply Drawn0.step)⟩
 ·replace c5 := Bool.eq_false_iff.mpr c5
  subst c5
  have H1 : (if t158 = true then (some 1) else (if a0 < a1 then (some (-1)) else (if a0 > a1 then (some 1) else (some 0)))) = some r := by rw [if_neg (show ¬ (false = true) by decide)] at H;exact H
  clear H
  have H := H1
  clear H1
  by_cases c7 : t158 = true
  ·subst c7
   have H1 : (some 1) = some r := by rw [if_pos rfl] at H;exact H
   clear H
   have H := H1
   clear H1
   obtain rfl := Option.some.inj H
   go_enter Try.func99, Try.ntmps99
   go_wp2_with (first | ((with_reducible refine gate_callee (f := 115) rfl ?_);refine goesL_ (some 8) rfl rfl Try.func115 (by kernel_rfl) rfl #[.int .i64 a0] rfl mM ?_;(with_reducible refine (cmp_isNaN_int.calls a0 false _ A3.out).mono ?_);rintro e w' ⟨rfl, ⟨nd, rfl⟩⟩;refine ⟨_, rfl, ?_⟩) | ((with_reducible refine gate_callee (f := 115) rfl ?_);refine goesL_ (some 10) rfl rfl Try.func115 (by kernel_rfl) rfl #[.int .i64 a1] rfl mM ?_;(with_reducible refine (cmp_isNaN_int.calls a1 true _ A4.out).mono ?_);rintro e w' ⟨rfl, ⟨nd, rfl⟩⟩;refine ⟨_, rfl, ?_⟩))
   go_ret
   exact ⟨by first | rfl | (simp;done) | (simp [*];done), by repeat (first | exact Drawn0.refl _ | apply Drawn0.step)⟩
  ·replace c7 := Bool.eq_false_iff.mpr c7
   subst c7
   have H1 : (if a0 < a1 then (some (-1)) else (if a0 > a1 then (some 1) else (some 0))) = some r := by rw [if_neg (show ¬ (false = true) by decide)] at H;exact H
   clear H
   have H := H1
   clear H1
   by_cases c8 : a0 < a1
   ·rw [if_pos c8] at H
    have c8b0 : decide (a0 < a1) = true := decide_eq_true c8
    clear c8
    obtain rfl := Option.some.inj H
    go_enter Try.func99, Try.ntmps99
    go_wp2_with (first | ((with_reducible refine gate_callee (f := 115) rfl ?_);refine goesL_ (some 8) rfl rfl Try.func115 (by kernel_rfl) rfl #[.int .i64 a0] rfl mM ?_;(with_reducible refine (cmp_isNaN_int.calls a0 false _ A3.out).mono ?_);rintro e w' ⟨rfl, ⟨nd, rfl⟩⟩;refine ⟨_, rfl, ?_⟩) | ((with_reducible refine gate_callee (f := 115) rfl ?_);refine goesL_ (some 10) rfl rfl Try.func115 (by kernel_rfl) rfl #[.int .i64 a1] rfl mM ?_;(with_reducible refine (cmp_isNaN_int.calls a1 false _ A4.out).mono ?_);rintro e w' ⟨rfl, ⟨nd, rfl⟩⟩;refine ⟨_, rfl, ?_⟩))
    go_ret
    exact ⟨by first | rfl | (simp;done) | (simp [*];done), by repeat (first | exact Drawn0.refl _ | apply Drawn0.step)⟩
   ·rw [if_neg c8] at H
    have c8b0 : decide (a0 < a1) = false := decide_eq_false c8
    clear c8
    by_cases c9 : a0 > a1
    ·rw [if_pos c9] at H
     have c9b0 : decide (a1 < a0) = true := decide_eq_true c9
     clear c9
     obtain rfl := Option.some.inj H
     go_enter Try.func99, Try.ntmps99
     go_wp2_with (first | ((with_reducible refine gate_callee (f := 115) rfl ?_);refine goesL_ (some 8) rfl rfl Try.func115 (by kernel_rfl) rfl #[.int .i64 a0] rfl mM ?_;(with_reducible refine (cmp_isNaN_int.calls a0 false _ A3.out).mono ?_);rintro e w' ⟨rfl, ⟨nd, rfl⟩⟩;refine ⟨_, rfl, ?_⟩) | ((with_reducible refine gate_callee (f := 115) rfl ?_);refine goesL_ (some 10) rfl rfl Try.func115 (by kernel_rfl) rfl #[.int .i64 a1] rfl mM ?_;(with_reducible refine (cmp_isNaN_int.calls a1 false _ A4.out).mono ?_);rintro e w' ⟨rfl, ⟨nd, rfl⟩⟩;refine ⟨_, rfl, ?_⟩))
     go_ret
     exact ⟨by first | rfl | (simp;done) | (simp [*];done), by repeat (first | exact Drawn0.refl _ | apply Drawn0.step)⟩
    ·rw [if_neg c9] at H
     have c9b0 : decide (a1 < a0) = false := decide_eq_false c9
     clear c9
     obtain rfl := Option.some.inj H
     go_enter Try.func99, Try.ntmps99
     go_wp2_with (first | ((with_reducible refine gate_callee (f := 115) rfl ?_);refine goesL_ (some 8) rfl rfl Try.func115 (by kernel_rfl) rfl #[.int .i64 a0] rfl mM ?_;(with_reducible refine (cmp_isNaN_int.calls a0 false _ A3.out).mono ?_);rintro e w' ⟨rfl, ⟨nd, rfl⟩⟩;refine ⟨_, rfl, ?_⟩) | ((with_reducible refine gate_callee (f := 115) rfl ?_);refine goesL_ (some 10) rfl rfl Try.func115 (by kernel_rfl) rfl #[.int .i64 a1] rfl mM ?_;(with_reducible refine (cmp_isNaN_int.calls a1 false _ A4.out).mono ?_);rintro e w' ⟨rfl, ⟨nd, rfl⟩⟩;refine ⟨_, rfl, ?_⟩))
     go_ret
     exact ⟨by first | rfl | (simp;done) | (simp [*];done), by repeat (first | exact Drawn0.refl _ | apply Drawn0.step)⟩


/-! ### slices_Compare_int_int: function 66 -/
def slices_Compare_int_int.l0 : Nat → List Int → List Int → List Int → Int → Int → Option (Int)
 | 0, _, _, _, _, _ => none
 | k + 1, x0, x1, x9, x10, x11 => if x11 < x10 then (if 0 ≤ x11 then (if x11 < (x9.length : Int) then (if x11 ≥ (x1.length : Int) then (some 1) else (if x11 < (x1.length : Int) then ((cmp_Compare_int.f (rd x9 x11) (rd x1 x11)).bind fun t161 => (if t161 = 0 then (slices_Compare_int_int.l0 k x0 x1 x9 x10 (wrap64 (x11 + 1))) else (some t161))) else (none))) else (none)) else (none)) else (if (x0.length : Int) < (x1.length : Int) then (some (-1)) else (some 0))
def slices_Compare_int_int.f (k : Nat) (l0 : List Int) (l1 : List Int) : Option (Int) := slices_Compare_int_int.l0 k l0 l1 l0 (l0.length : Int) 0
theorem slices_Compare_int_int.mono_l : ∀ k, (∀ y0 y1 y2 y3 y4, LeO (slices_Compare_int_int.l0 k y0 y1 y2 y3 y4) (slices_Compare_int_int.l0 (k + 1) y0 y1 y2 y3 y4))
 | 0 => fun _ _ _ _ _ r h => by simp [slices_Compare_int_int.l0] at h
 | k + 1 => by
  have ih0 := slices_Compare_int_int.mono_l k
  ·intro y0 y1 y2 y3 y4
   unfold slices_Compare_int_int.l0
   repeat' first
   | (with_reducible exact ih0 _ _ _ _ _)
   | (with_reducible exact LeO.refl _)
   | (with_reducible exact LeO.none _)
   | (with_reducible refine LeO.ite ?_ ?_)
   | (with_reducible refine LeO.bind ?_ (fun _ => ?_))
   | exact ih0 _ _ _ _ _
   | exact LeO.none _
   | refine LeO.ite ?_ ?_
   | refine LeO.bind ?_ (fun _ => ?_)
theorem slices_Compare_int_int.mono : ∀ a0 a1 k, LeO (slices_Compare_int_int.f k a0 a1) (slices_Compare_int_int.f (k + 1) a0 a1) := by
 intro a0 a1 k
 have ih0 := slices_Compare_int_int.mono_l k
 unfold slices_Compare_int_int.f
 repeat' first
   | (with_reducible exact ih0 _ _ _ _ _)
   | (with_reducible exact LeO.refl _)
   | (with_reducible exact LeO.none _)
   | (with_reducible refine LeO.ite ?_ ?_)
   | (with_reducible refine LeO.bind ?_ (fun _ => ?_))
   | exact ih0 _ _ _ _ _
   | exact LeO.none _
   | refine LeO.ite ?_ ?_
   | refine LeO.bind ?_ (fun _ => ?_)
set_option maxHeartbeats 8000000 in
set_option maxRecDepth 100000 in
theorem slices_Compare_int_int.calls (k : Nat) (A0 : Option Addr) (c0 : Nat) (l0 : List Int) (A1 : Option Addr) (c1 : Nat) (l1 : List Int) (r : Int) (w : World) (hr0 : Kd.C (Kd.int .i64) w A0 l0.length l0) (hc0 : l0.length ≤ c0) (hr1 : Kd.C (Kd.int .i64) w A1 l1.length l1) (hc1 : l1.length ≤ c1) (h : slices_Compare_int_int.f k l0 l1 = some r) :
  Calls Try.prog 66 #[.slice A0 l0.length c0, .slice A1 l1.length c1] w fun e w' => e = .returned (.int .i64 r) ∧ Drawn0 w w' := by
 have HR0 := Aside0.mk hr0
 have HC0 := Aside0.mk hc0
 clear hr0 hc0
 have HR1 := Aside0.mk hr1
 have HC1 := Aside0.mk hc1
 clear hr1 hc1
 have H : (slices_Compare_int_int.l0 k l0 l1 l0 (l0.length : Int) 0) = some r := h
 clear h
 have H' := Aside0.mk H
 clear H
 go_enter Try.func66, Try.ntmps66
 go_wp2
 go_loopg [11] k (fun kq v11 w' => ∃ (x11_1 : Int), v11 = .int .i64 x11_1 ∧ Aside0 (slices_Compare_int_int.l0 kq l0 l1 l0 (l0.length : Int) x11_1 = some r) ∧ Aside0 (kq ≤ k) ∧ Drawn0 w w')
 case atStart => exact ⟨(0), (by first | rfl | (simp;done) | (simp [*];done)), H', ⟨Nat.le_refl _⟩, by repeat (first | exact Drawn0.refl _ | apply Drawn0.step)⟩
 case round =>
  clear H'
  try clear c1
  try clear p2
  obtain ⟨x11_1, rfl, HA, HK1, ⟨m1, rfl⟩⟩ := hrel
  cases gk with
  | zero => exact absurd HA.out (by simp [slices_Compare_int_int.l0])
  | succ k1 =>
   have H := HA.out
   clear HA
   simp only [slices_Compare_int_int.l0] at H
   by_cases c3 : x11_1 < (l0.length : Int)
   ·rw [if_pos c3] at H
    have c3b0 : decide (x11_1 < (l0.length : Int)) = true := decide_eq_true c3
    clear c3
    by_cases c4 : 0 ≤ x11_1
    ·rw [if_pos c4] at H
     have c4b0 : decide (0 ≤ x11_1) = true := decide_eq_true c4
     clear c4
     by_cases c5 : x11_1 < (l0.length : Int)
     ·rw [if_pos c5] at H
      have c5b0 : decide (x11_1 < (l0.length : Int)) = true := decide_eq_true c5
      clear c5
      by_cases c6 : x11_1 ≥ (l1.length : Int)
      ·rw [if_pos c6] at H
       have c6b0 : decide ((l1.length : Int) ≤ x11_1) = true := decide_eq_true c6
       clear c6
       obtain rfl := Option.some.inj H
       have p159 : 0 ≤ (x11_1 : Int) := oA
       have q159 : x11_1 < (l0.length : Int) := oA
       obtain ⟨ad159, e159, hx159_0⟩ := Kd.at_int HR0.out x11_1 p159 q159
       cases e159
       replace p159 := eq_true p159
       replace q159 := eq_true q159
       go_wp2
       go_ret
       exact ⟨by first | rfl | (simp;done) | (simp [*];done), by repeat (first | exact Drawn0.refl _ | apply Drawn0.step)⟩
      ·rw [if_neg c6] at H
       have c6b0 : decide ((l1.length : Int) ≤ x11_1) = false := decide_eq_false c6
       clear c6
       by_cases c7 : x11_1 < (l1.length : Int)
       ·rw [if_pos c7] at H
        have c7b0 : decide (x11_1 < (l1.length : Int)) = true := decide_eq_true c7
        clear c7
        replace H := Option.bind_eq_some_iff.mp H
        obtain ⟨t161, A80, H⟩ := H
        replace H : (if t161 = 0 then (slices_Compare_int_int.l0 k1 l0 l1 l0 (l0.length : Int) (wrap64 (x11_1 + 1))) else (some t161)) = some r := H
        have A8 := Aside0.mk A80
        clear A80
        by_cases c9 : t161 = 0
        ·rw [if_pos c9] at H
         have c9b0 : (t161 == 0) = true := beq_iff_eq.mpr c9
         have c9b1 : (t161 != 0) = false := bne_eq_false_iff_eq.mpr c9
         clear c9
         have H' := Aside0.mk H
         clear H
         have p159 : 0 ≤ (x11_1 : Int) := oA
         have q159 : x11_1 < (l0.length : Int) := oA
         obtain ⟨ad159, e159, hx159_0⟩ := Kd.at_int HR0.out x11_1 p159 q159
         cases e159
         replace p159 := eq_true p159
         replace q159 := eq_true q159
         have p160 : 0 ≤ (x11_1 : Int) := oA
         have q160 : x11_1 < (l1.length : Int) := oA
         obtain ⟨ad160, e160, hx160_0⟩ := Kd.at_int HR1.out x11_1 p160 q160
         cases e160
         replace p160 := eq_true p160
         replace q160 := eq_true q160
         go_wp2_with (first | ((with_reducible refine gate_callee (f := 99) rfl ?_);refine goesL_ (some 26) rfl rfl Try.func99 (by kernel_rfl) rfl #[.int .i64 (rd l0 x11_1), .int .i64 (rd l1 x11_1)] rfl mM ?_;(with_reducible refine (cmp_Compare_int.calls (rd l0 x11_1) (rd l1 x11_1) t161 _ A8.out).mono ?_);rintro e w' ⟨rfl, ⟨nd, rfl⟩⟩;refine ⟨_, rfl, ?_⟩))
         go_roundg k1
         case measure => have := HK1.out;omega
         case rel => exact ⟨(wrap64 (x11_1 + 1)), (by first | rfl | (simp;done) | (simp [*];done)), H', ⟨by have := HK1.out;omega⟩, by repeat (first | exact Drawn0.refl _ | apply Drawn0.step)⟩
        ·rw [if_neg c9] at H
         have c9b0 : (t161 == 0) = false := beq_eq_false_iff_ne.mpr c9
         have c9b1 : (t161 != 0) = true := bne_iff_ne.mpr c9
         obtain rfl := Option.some.inj H
         have p159 : 0 ≤ (x11_1 : Int) := oA
         have q159 : x11_1 < (l0.length : Int) := oA
         obtain ⟨ad159, e159, hx159_0⟩ := Kd.at_int HR0.out x11_1 p159 q159
         cases e159
         replace p159 := eq_true p159
         replace q159 := eq_true q159
         have p160 : 0 ≤ (x11_1 : Int) := oA
         have q160 : x11_1 < (l1.length : Int) := oA
         obtain ⟨ad160, e160, hx160_0⟩ := Kd.at_int HR1.out x11_1 p160 q160
         cases e160
         replace p160 := eq_true p160
         replace q160 := eq_true q160
         go_wp2_with (first | ((with_reducible refine gate_callee (f := 99) rfl ?_);refine goesL_ (some 26) rfl rfl Try.func99 (by kernel_rfl) rfl #[.int .i64 (rd l0 x11_1), .int .i64 (rd l1 x11_1)] rfl mM ?_;(with_reducible refine (cmp_Compare_int.calls (rd l0 x11_1) (rd l1 x11_1) t161 _ A8.out).mono ?_);rintro e w' ⟨rfl, ⟨nd, rfl⟩⟩;refine ⟨_, rfl, ?_⟩))
         go_ret
         exact ⟨by first | rfl | (simp;done) | (simp [*];done), by repeat (first | exact Drawn0.refl _ | apply Drawn0.step)⟩
       ·rw [if_neg c7] at H
        exact absurd H (by simp)
     ·rw [if_neg c5] at H
      exact absurd H (by simp)
    ·rw [if_neg c4] at H
     exact absurd H (by simp)
   ·rw [if_neg c3] at H
    have c3b0 : decide (x11_1 < (l0.length : Int)) = false := decide_eq_false c3
    clear c3
    by_cases c10 : (l0.length : Int) < (l1.length : Int)
    ·rw [if_pos c10] at H
     have c10b0 : decide ((l0.length : Int) < (l1.length : Int)) = true := decide_eq_true c10
     have c10b1 : decide (l0.length < l1.length) = true := decide_eq_true (Int.ofNat_lt.mp c10)
     clear c10
     obtain rfl := Option.some.inj H
     go_wp2
     go_ret
     exact ⟨by first | rfl | (simp;done) | (simp [*];done), by repeat (first | exact Drawn0.refl _ | apply Drawn0.step)⟩
    ·rw [if_neg c10] at H
     have c10b0 : decide ((l0.length : Int) < (l1.length : Int)) = false := decide_eq_false c10
     have c10b1 : decide (l0.length < l1.length) = false := decide_eq_false (fun h => c10 (Int.ofNat_lt.mpr h))
     clear c10
     obtain rfl := Option.some.inj H
     go_wp2
     go_ret
     exact ⟨by first | rfl | (simp;done) | (simp [*];done), by repeat (first | exact Drawn0.refl _ | apply Drawn0.step)⟩


/-! ### impl_IsGraph: by hand -/
theorem C_two {w : World} {a : Addr} {x y : Int} (h0 : w.cell? a = some (.int .i64 x)) (h1 : w.cell? (a.add 1) = some (.int .i64 y)) : Kd.C (Kd.int .i64) w (some a) ([x, y] : List Int).length [x, y] := by
 refine ⟨rfl, ?_, fun _ => ⟨a, rfl, ?_⟩⟩
 ·simp
 ·intro j p hj
  match j, hj with
  | 0, hj => 
   simp at hj;subst hj
   exact ⟨[.int .i64 x], rfl, rfl, fun i u hu => by
    match i, hu with
    | 0, hu => simp at hu;subst hu;simpa [Addr.add] using h0⟩
  | 1, hj =>
   simp at hj;subst hj
   exact ⟨[.int .i64 y], rfl, rfl, fun i u hu => by
    match i, hu with
    | 0, hu => simp at hu;subst hu;simpa [Addr.add, Kd.int, Kd.scalar] using h1⟩
theorem cmp2 (a b c d : Int) : ∃ k r, slices_Compare_int_int.f k [a, b] [c, d] = some r ∧ (r < 0 ↔ (a < c ∨ a = c ∧ b < d)) := by
 have hc : ∀ x y, cmp_Compare_int.f x y = some (if x < y then -1 else if x > y then 1 else 0) := by
  intro x y;simp [cmp_Compare_int.f, cmp_isNaN_int.f];split <;> (try split) <;> rfl
 have w1 : wrap64 (0 + 1) = 1 := by unfold wrap64;omega
 have w2 : wrap64 (1 + 1) = 2 := by unfold wrap64;omega
 refine ⟨3, if a < c then -1 else if a > c then 1 else if b < d then -1 else if b > d then 1 else 0, ?_, ?_⟩
 ·simp only [slices_Compare_int_int.f, slices_Compare_int_int.l0, hc]
  simp only [rd, w1, w2, Option.bind_some, List.length_cons, List.length_nil]
  by_cases h1 : a < c
  ·simp [h1]
  ·by_cases h2 : c < a
   ·simp [h1, h2]
   ·by_cases h3 : b < d
    ·simp [h1, h2, h3]
    ·by_cases h4 : d < b
     ·simp [h1, h2, h3, h4]
     ·simp [h1, h2, h3, h4]
 ·split
  ·simp;omega
  ·split
   ·simp;omega
   ·split
    ·simp;omega
    ·split <;> simp <;> omega
def impl_IsGraph.f (a0_0 : Int) (l0_1 : List S80) : Option Bool := some (decide (0 ≤ a0_0 ∧ a0_0 ≤ 8) && goodL a0_0 none l0_1)
set_option maxHeartbeats 8000000 in
set_option maxRecDepth 100000 in
theorem impl_IsGraph.calls (a0_0 : Int) (A0_1 : Option Addr) (c0_1 : Nat) (l0_1 : List (S80)) (r : Bool) (w : World) (hr0_1 : Kd.C k80 w A0_1 l0_1.length l0_1) (hc0_1 : l0_1.length ≤ c0_1) (h : impl_IsGraph.f a0_0 l0_1 = some r) :
  Calls Try.prog 38 #[.agg #[.int .i64 a0_0, .slice A0_1 l0_1.length c0_1]] w fun e w' => e = .returned (.bool r) ∧ Below w.heap.size w w' := by
 have HR := Aside0.mk hr0_1
 have HC := Aside0.mk hc0_1
 have H := Aside0.mk (Option.some.inj h)
 clear hr0_1 hc0_1 h
 by_cases hn : 0 ≤ a0_0 ∧ a0_0 ≤ 8
 ·have hw : impl_within.f a0_0 0 8 = some true := by simp [impl_within.f, hn]
  have H1 : Aside0 (goodL a0_0 none l0_1 = r) := ⟨by have := H.out;simpa [hn] using this⟩
  have HW := Aside0.mk hw
  clear hw H
  go_enter Try.func38, Try.ntmps38
  go_wp2_with (go_at_call 65;refine (impl_within.calls _ _ _ _ _ HW.out).mono ?_;rintro e w' ⟨rfl, ⟨nd, rfl⟩⟩)
  have HB : Aside0 (Below w.heap.size w ((w.alloc (Obj.cells #[Value.int IntKind.i64 a0_0, Value.slice A0_1 l0_1.length c0_1] 29)).drewN nd)) := ⟨pw_below_drewN (below_alloc (Below.refl _ _) _) _⟩
  go_loopw [12] (fun v wr => ∃ x : Int, v = .int .i64 x ∧ Aside0 (0 ≤ x ∧ x ≤ l0_1.length) ∧ Aside0 (goodL a0_0 (prevAt l0_1 x.toNat) (l0_1.drop x.toNat) = r) ∧ Aside0 (wr.heap[w.heap.size]? = some (.cells #[.int .i64 a0_0, .slice A0_1 l0_1.length c0_1] 29 (0, 0))) ∧ Aside0 (Below w.heap.size w wr)) (fun v _ => l0_1.length - (intOf v).toNat)
  case atStart => exact ⟨0, rfl, ⟨by omega, by omega⟩, ⟨by simpa [prevAt] using H1.out⟩, ⟨blk_drewN (blk_new w _) _⟩, HB⟩
  case round =>
   clear HB H1
   obtain ⟨x, rfl, HX, HG, BK, HB⟩ := hrel
   have hcz0 : wr.cell? ⟨w.heap.size, 0, none⟩ = some (.int .i64 a0_0) := (blk_cell BK.out 0).trans rfl
   have hcz1 : wr.cell? ⟨w.heap.size, 1, none⟩ = some (.slice A0_1 l0_1.length c0_1) := (blk_cell BK.out 1).trans rfl
   by_cases hlt : x < (l0_1.length : Int)
   ·have hlt' : decide (x < (l0_1.length : Int)) = true := decide_eq_true hlt
    have p0 : 0 ≤ x := HX.out.1
    obtain ⟨ad, e, hx0, hx1⟩ := at_T80 HR.out x p0 hlt
    cases e
    replace hx0 := (HB.out.cell (World.block_lt_of_cell? w _ hx0)).trans hx0
    replace hx1 := (HB.out.cell (World.block_lt_of_cell? w _ hx1)).trans hx1
    replace p0 := eq_true p0
    have hlt'' := eq_true hlt
    have HL := Aside0.mk hlt
    have hsz : w.heap.size < wr.heap.size := blk_lt BK.out
    clear hlt
    go_wp2
    by_cases t0 : (rd_T80 l0_1 x).f0 < 0
    ·have d0 : decide ((rd_T80 l0_1 x).f0 < 0) = true := decide_eq_true t0
     have hr : r = false := by rw [← HG.out, step_lt HX.out.1 HL.out];simp [edgeOk];omega
     subst hr
     clear t0
     go_quiet (fail)
     go_wp2
     go_ret
     exact ⟨rfl, by repeat (first | exact HB.out | apply below_alloc | apply pw_below_drewN | apply below_drew)⟩
    have d0 : decide ((rd_T80 l0_1 x).f0 < 0) = false := decide_eq_false t0
    by_cases t1 : (rd_T80 l0_1 x).f1 ≤ (rd_T80 l0_1 x).f0
    ·have d1 : decide ((rd_T80 l0_1 x).f1 ≤ (rd_T80 l0_1 x).f0) = true := decide_eq_true t1
     have hr : r = false := by rw [← HG.out, step_lt HX.out.1 HL.out];simp [edgeOk];omega
     subst hr
     clear t0 t1
     go_quiet (fail)
     go_wp2
     go_ret
     exact ⟨rfl, by repeat (first | exact HB.out | apply below_alloc | apply pw_below_drewN | apply below_drew)⟩
    have d1 : decide ((rd_T80 l0_1 x).f1 ≤ (rd_T80 l0_1 x).f0) = false := decide_eq_false t1
    by_cases t2 : a0_0 ≤ (rd_T80 l0_1 x).f1
    ·have d2 : decide (a0_0 ≤ (rd_T80 l0_1 x).f1) = true := decide_eq_true t2
     have hr : r = false := by rw [← HG.out, step_lt HX.out.1 HL.out];simp [edgeOk];omega
     subst hr
     clear t0 t1 t2
     go_quiet (fail)
     go_wp2
     go_ret
     exact ⟨rfl, by repeat (first | exact HB.out | apply below_alloc | apply pw_below_drewN | apply below_drew)⟩
    have d2 : decide (a0_0 ≤ (rd_T80 l0_1 x).f1) = false := decide_eq_false t2
    by_cases t3 : 0 < x
    ·have d3 : decide (0 < x) = true := decide_eq_true t3
     have hj : wrap64 (x - 1) = x - 1 := by have h1 := HL.out;have h2 := HX.out;have h3 := HR.out.2.1;unfold wrap64;omega
     obtain ⟨ji, hji⟩ : ∃ j : Int, j = x - 1 := ⟨_, rfl⟩
     have hjw : IntKind.i64.wrap (x - 1) = ji := ((i64_w _).trans hj).trans hji.symm
     have p1 : 0 ≤ ji := by omega
     have q1 : ji < (l0_1.length : Int) := by have := HL.out;omega
     have HJ := Aside0.mk hji
     clear hj hji
     obtain ⟨ad', e', hy0, hy1⟩ := at_T80 HR.out ji p1 q1
     cases e'
     replace hy0 := (HB.out.cell (World.block_lt_of_cell? w _ hy0)).trans hy0
     replace hy1 := (HB.out.cell (World.block_lt_of_cell? w _ hy1)).trans hy1
     replace p1 := eq_true p1
     replace q1 := eq_true q1
     obtain ⟨k, c, hc, hlt⟩ := cmp2 (rd_T80 l0_1 ji).f0 (rd_T80 l0_1 ji).f1 (rd_T80 l0_1 x).f0 (rd_T80 l0_1 x).f1
     have HCMP := Aside0.mk hc
     have HY := Aside0.mk (C_two hy0 hy1)
     clear hc
     by_cases t4 : 0 ≤ c
     ·have d4 : decide (0 ≤ c) = true := decide_eq_true t4
      have hr : r = false := by
       rw [← HG.out, step_lt HX.out.1 HL.out]
       have : edgeLt (rd_T80 l0_1 ji) (rd_T80 l0_1 x) = false := by
        by_cases he : edgeLt (rd_T80 l0_1 ji) (rd_T80 l0_1 x) = true
        ·exfalso;simp [edgeLt] at he;have := hlt.2 he;omega
        ·simpa using he
       have hp : prevAt l0_1 x.toNat = some (rd_T80 l0_1 ji) := by unfold prevAt;rw [if_neg (by omega), HJ.out];congr 2;omega
       rw [hp];simp [this]
      subst hr
      clear t0 t1 t2 t3 t4 hlt
      go_quiet ((first | (go_at_call 66;refine (slices_Compare_int_int.calls k (some _) 2 [_, _] (some _) 2 [_, _] c _ (Kd.C_below HY.out (pw_below_drewN (below_alloc (Below.refl _ _) _) _)) (Nat.le_refl _) (C_two (by simp [go_sem]) (by simp [go_sem, Addr.add])) (Nat.le_refl _) HCMP.out).mono ?_;rintro e w' ⟨rfl, ⟨nd, rfl⟩⟩;exact ⟨rfl, _, World.drewN_drewN _ _ _⟩)))
      go_wp2
      go_ret
      exact ⟨rfl, by repeat (first | exact HB.out | apply below_alloc | apply pw_below_drewN | apply below_drew)⟩
     ·have d4 : decide (0 ≤ c) = false := decide_eq_false t4
      have hr : Aside0 (goodL a0_0 (prevAt l0_1 (x + 1).toNat) (l0_1.drop (x + 1).toNat) = r) := ⟨by
       rw [← HG.out, step_lt HX.out.1 HL.out]
       have he : edgeLt (rd_T80 l0_1 ji) (rd_T80 l0_1 x) = true := by simp only [edgeLt, decide_eq_true_eq];exact hlt.1 (by omega)
       have hp : prevAt l0_1 x.toNat = some (rd_T80 l0_1 ji) := by unfold prevAt;rw [if_neg (by omega), HJ.out];congr 2;omega
       have ho : edgeOk a0_0 (rd_T80 l0_1 x) = true := by simp only [edgeOk, decide_eq_true_eq];omega
       rw [hp, ho];simp [he]⟩
      have HN : Aside0 (x + 1 ≤ l0_1.length ∧ x + 1 ≤ 9223372036854775807) := ⟨by have := HL.out;have := HR.out.2.1;omega⟩
      have hw1 : wrap64 (x + 1) = x + 1 := by have := HN.out;have := HX.out;unfold wrap64;omega
      have HW1 := Aside0.mk hw1
      clear t0 t1 t2 t3 t4 hlt hw1
      go_quiet ((first | (go_at_call 66;refine (slices_Compare_int_int.calls k (some _) 2 [_, _] (some _) 2 [_, _] c _ (Kd.C_below HY.out (pw_below_drewN (below_alloc (Below.refl _ _) _) _)) (Nat.le_refl _) (C_two (by simp [go_sem]) (by simp [go_sem, Addr.add])) (Nat.le_refl _) HCMP.out).mono ?_;rintro e w' ⟨rfl, ⟨nd, rfl⟩⟩;exact ⟨rfl, _, World.drewN_drewN _ _ _⟩)))
      go_wp2
      go_roundw
      case rel => exact ⟨x + 1, by rw [HW1.out], ⟨by have := HX.out;have := HN.out;omega⟩, hr, ⟨by refine kP ?_;exact BK.out⟩, ⟨by repeat (first | exact HB.out | apply below_alloc | apply pw_below_drewN | apply below_drew)⟩⟩
      case measure => have := HL.out;have := HX.out;rw [HW1.out];simp [intOf];omega
    ·have d3 : decide (0 < x) = false := decide_eq_false t3
     obtain rfl : x = 0 := by have := HX.out;omega
     have hr : Aside0 (goodL a0_0 (prevAt l0_1 1) (l0_1.drop 1) = r) := ⟨by rw [← HG.out, step_lt HX.out.1 HL.out];simp [edgeOk, prevAt];omega⟩
     clear t0 t1 t2 t3
     go_quiet (fail)
     go_wp2
     go_roundw
     case rel => exact ⟨1, rfl, ⟨by omega, by have := HL.out;omega⟩, hr, ⟨by refine kP ?_;exact BK.out⟩, ⟨by repeat (first | exact HB.out | apply below_alloc | apply pw_below_drewN | apply below_drew)⟩⟩
     case measure => have := HL.out;simp [intOf];omega
   ·have hlt' : decide (x < (l0_1.length : Int)) = false := decide_eq_false hlt
    obtain rfl : true = r := by have := HG.out;rw [List.drop_eq_nil_of_le (by omega)] at this;simpa [goodL] using this
    clear hlt
    go_wp2
    go_ret
    exact ⟨rfl, HB.out⟩
 ·have hw : impl_within.f a0_0 0 8 = some false := by 
   simp only [impl_within.f]
   split
   ·simp;omega
   ·rfl
  obtain rfl : false = r := by have := H.out;simpa [hn] using this
  have HW := Aside0.mk hw
  clear hw H
  go_enter Try.func38, Try.ntmps38
  go_wp2_with (go_at_call 65;refine (impl_within.calls _ _ _ _ _ HW.out).mono ?_;rintro e w' ⟨rfl, ⟨nd, rfl⟩⟩)
  go_ret
  exact ⟨rfl, by repeat (first | exact Below.refl _ _ | apply below_alloc | apply pw_below_drewN | apply below_drew | refine below_set ?_ (by simp))⟩

end Go.Proofs.Ytaddgielnfhhpaa.QNullityOf
