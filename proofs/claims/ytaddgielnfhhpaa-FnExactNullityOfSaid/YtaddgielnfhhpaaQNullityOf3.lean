import Derived.Test.YtaddgielnfhhpaaQNullityOf0
import Derived.Test.YtaddgielnfhhpaaQNullityOf2
namespace Go.Proofs.Ytaddgielnfhhpaa.QNullityOf
open Go.RowKit Go.Proofs.YtaddgielnfhhpaaW.PrintWords Go.Proofs.YtaddgielnfhhpaaW.PrintLast Go.Proofs.YtaddgielnfhhpaaW.PrintMore
attribute [local go_sem] max2_int min2_int max_two min_two max_three min_three max_four min_four   -- for this text's walks alone
set_option linter.unusedVariables false
set_option linter.unusedSimpArgs false
/-! ### spec_l9Matrix: function 36 -/
mutual
def spec_l9Matrix.l0 : Nat → List Int → List (List Int) → Int → Int → List (S80) → Option ((List (List Int)))
 | 0, _, _, _, _, _ => none
 | k + 1, x1, x5, x6, x116000, x116001 => if x6 < x116000 then (if 0 ≤ x116000 then (if (x116000 : Int).toNat ≤ 35184372088832 then (spec_l9Matrix.l1 k x1 x5 x6 (List.replicate (x116000 : Int).toNat 0) 0 x116000 x116001) else (none)) else (none)) else (some x5)
def spec_l9Matrix.l1 : Nat → List Int → List (List Int) → Int → List Int → Int → Int → List (S80) → Option ((List (List Int)))
 | 0, _, _, _, _, _, _, _ => none
 | k + 1, x1, x5, x6, x7, x8, x116000, x116001 => if x8 < x116000 then ((spec_l2Near.f k x116000 x116001 x6 x8).bind fun t122 => (if t122 = true then (if 0 ≤ x8 then (if x8 < (x7.length : Int) then (spec_l9Matrix.l1 k x1 x5 x6 (x7.set (x8 : Int).toNat 1) (wrap64 (x8 + 1)) x116000 x116001) else (none)) else (none)) else (spec_l9Matrix.l1 k x1 x5 x6 x7 (wrap64 (x8 + 1)) x116000 x116001))) else (if 0 ≤ x6 then (if x6 < (x1.length : Int) then (if x6 < (x7.length : Int) then (if x5.length < 5864062014805 then (spec_l9Matrix.l0 k x1 (x5 ++ [(x7.set (x6 : Int).toNat (rd x1 x6))]) (wrap64 (x6 + 1)) x116000 x116001) else (none)) else (none)) else (none)) else (none))
end
def spec_l9Matrix.f (k : Nat) (a0_0 : Int) (l0_1 : List (S80)) (l1 : List Int) : Option ((List (List Int))) := spec_l9Matrix.l0 k l1 (([] : List (List Int))) 0 a0_0 l0_1
theorem spec_l9Matrix.mono_l : ∀ k, (∀ y0 y1 y2 y3 y4, LeO (spec_l9Matrix.l0 k y0 y1 y2 y3 y4) (spec_l9Matrix.l0 (k + 1) y0 y1 y2 y3 y4)) ∧ (∀ y0 y1 y2 y3 y4 y5 y6, LeO (spec_l9Matrix.l1 k y0 y1 y2 y3 y4 y5 y6) (spec_l9Matrix.l1 (k + 1) y0 y1 y2 y3 y4 y5 y6))
 | 0 => ⟨fun _ _ _ _ _ r h => by simp [spec_l9Matrix.l0] at h, fun _ _ _ _ _ _ _ r h => by simp [spec_l9Matrix.l1] at h⟩
 | k + 1 => by
  obtain ⟨ih0, ih1⟩ := spec_l9Matrix.mono_l k
  refine ⟨?_, ?_⟩
  ·intro y0 y1 y2 y3 y4
   unfold spec_l9Matrix.l0
   repeat' first
   | (with_reducible exact ih0 _ _ _ _ _)
   | (with_reducible exact ih1 _ _ _ _ _ _ _)
   | (with_reducible exact spec_l2Near.mono _ _ _ _ _)
   | (with_reducible exact LeO.refl _)
   | (with_reducible exact LeO.none _)
   | (with_reducible refine LeO.ite ?_ ?_)
   | (with_reducible refine LeO.bind ?_ (fun _ => ?_))
   | exact ih0 _ _ _ _ _
   | exact ih1 _ _ _ _ _ _ _
   | exact spec_l2Near.mono _ _ _ _ _
   | exact LeO.none _
   | refine LeO.ite ?_ ?_
   | refine LeO.bind ?_ (fun _ => ?_)
  ·intro y0 y1 y2 y3 y4 y5 y6
   unfold spec_l9Matrix.l1
   repeat' first
   | (with_reducible exact ih0 _ _ _ _ _)
   | (with_reducible exact ih1 _ _ _ _ _ _ _)
   | (with_reducible exact spec_l2Near.mono _ _ _ _ _)
   | (with_reducible exact LeO.refl _)
   | (with_reducible exact LeO.none _)
   | (with_reducible refine LeO.ite ?_ ?_)
   | (with_reducible refine LeO.bind ?_ (fun _ => ?_))
   | exact ih0 _ _ _ _ _
   | exact ih1 _ _ _ _ _ _ _
   | exact spec_l2Near.mono _ _ _ _ _
   | exact LeO.none _
   | refine LeO.ite ?_ ?_
   | refine LeO.bind ?_ (fun _ => ?_)
theorem spec_l9Matrix.mono : ∀ a0 a1 a2 k, LeO (spec_l9Matrix.f k a0 a1 a2) (spec_l9Matrix.f (k + 1) a0 a1 a2) := by
 intro a0 a1 a2 k
 obtain ⟨ih0, ih1⟩ := spec_l9Matrix.mono_l k
 unfold spec_l9Matrix.f
 repeat' first
   | (with_reducible exact ih0 _ _ _ _ _)
   | (with_reducible exact ih1 _ _ _ _ _ _ _)
   | (with_reducible exact spec_l2Near.mono _ _ _ _ _)
   | (with_reducible exact LeO.refl _)
   | (with_reducible exact LeO.none _)
   | (with_reducible refine LeO.ite ?_ ?_)
   | (with_reducible refine LeO.bind ?_ (fun _ => ?_))
   | exact ih0 _ _ _ _ _
   | exact ih1 _ _ _ _ _ _ _
   | exact spec_l2Near.mono _ _ _ _ _
   | exact LeO.none _
   | refine LeO.ite ?_ ?_
   | refine LeO.bind ?_ (fun _ => ?_)
set_option maxHeartbeats 8000000 in
set_option maxRecDepth 100000 in
theorem spec_l9Matrix.calls (k : Nat) (a0_0 : Int) (A0_1 : Option Addr) (c0_1 : Nat) (l0_1 : List (S80)) (A1 : Option Addr) (c1 : Nat) (l1 : List Int) (r : List (List Int)) (w : World) (hr0_1 : Kd.C k80 w A0_1 l0_1.length l0_1) (hc0_1 : l0_1.length ≤ c0_1) (hr1 : Kd.C (Kd.int .i64) w A1 l1.length l1) (hc1 : l1.length ≤ c1) (h : spec_l9Matrix.f k a0_0 l0_1 l1 = some r) :
  Calls Try.prog 36 #[.agg #[.int .i64 a0_0, .slice A0_1 l0_1.length c0_1], .slice A1 l1.length c1] w fun e w' => ∃ v0_ : Value, e = .returned (v0_) ∧ Kd.S (Kd.slice 3 (Kd.int .i64)) 25 w' w.heap.size (fun _ => True) v0_ r ∧ Below w.heap.size w w' := by
 have hu29 := Try.underlying29
 have HR0_1 := Aside0.mk hr0_1
 have HC0_1 := Aside0.mk hc0_1
 clear hr0_1 hc0_1
 have HR1 := Aside0.mk hr1
 have HC1 := Aside0.mk hc1
 clear hr1 hc1
 have HB := Aside0.mk (Below.refl w.heap.size w)
 have H : (spec_l9Matrix.l0 k l1 (([] : List (List Int))) 0 a0_0 l0_1) = some r := h
 clear h
 obtain ⟨y116, hy116⟩ : ∃ y_ : List (List Int), y_ = (([] : List (List Int))) := ⟨_, rfl⟩
 replace H : (spec_l9Matrix.l0 k l1 y116 0 a0_0 l0_1) = some r := by first | (rw [hy116];with_reducible exact H) | (have H2_ := (Option.bind_some _ _).symm.trans H;rw [hy116];with_reducible exact H2_) | (have H2_ := (Option.bind_some _ _).symm.trans H;with_reducible exact H2_) | with_reducible exact H | (rw [hy116];exact H) | exact H
 have Ny116 := Aside0.mk hy116
 clear hy116
 have H' := Aside0.mk H
 clear H
 go_enter Try.func36, Try.ntmps36
 go_wp2_with (first | ((with_reducible refine gate_dst (N := 2) rfl ?_);refine box_event ?hg (N := 2) ?hd (cs := #[.int .i64 a0_0, .slice A0_1 l0_1.length c0_1]) (t := 29) ?hr ?_;(case hd => rfl);(case hg => rfl);(case hr => first | (go_simp;done) | (go_simp;rfl));intro gb115 hg w3 hbox hb;have n0_ := Aside0.mk (below_step (by exact bB) hb);have n1_ := Aside0.mk (hbox);have n2_ := Aside0.mk ((by rw [hg];exact (below_size (by exact bB)) : w.heap.size ≤ gb115));have n3_ := Aside0.mk ((by rw [hg];exact (below_size (by exact bB)) : w.heap.size ≤ gb115));clear HB;have HB := n0_;have BK115 := n1_;have GW115 := n2_;have GE115 := n3_;clear n0_ n1_ n2_ n3_;clear hb hbox hg) | ((with_reducible refine gate_dst (N := 9) rfl ?_);refine Kd.S_lit (Kd.slice 3 (Kd.int .i64)) _ 25 ?hg (N := 9) ?hd (xs := ([] : List (List Int))) (inner := []) (ok := fun _ => True) (okp := fun _ => True) ?hr ?hp (fun _ hk => hk) trivial (Below.refl _ _) (Nat.le_refl _) (by simp) ?_;(case hd => rfl);(case hg => rfl);(case hr => first | (go_simp;done) | (go_simp;rfl));(case hp => exact (Reps.none _ _));intro v117 w4 ho5 hb hg_ hnew_;clear hg_ hnew_;(first | rw [← Ny116.out] at ho5 | (simp only [Int.reduceToNat] at ho5;rw [← Ny116.out] at ho5));have n0_ := Aside0.mk (Kd.S_lower ho5 (below_size (by exact bB)));have n1_ := Aside0.mk (blk_below (g := gb115) (o := .cells #[.int .i64 a0_0, .slice A0_1 l0_1.length c0_1] 29 (0, 0)) (by exact kP BK115.out) hb);have n2_ := Aside0.mk (below_step (by exact bB) hb);clear BK115;clear HB;have HO118 := n0_;have BK115 := n1_;have HB := n2_;clear n0_ n1_ n2_;clear hb ho5))
 go_loopg [5, 6] k (fun kq v5 v6 w' => ∃ (x5_1 : List (List Int)) (x6_1 : Int), v6 = .int .i64 x6_1 ∧ Aside0 (spec_l9Matrix.l0 kq l1 x5_1 x6_1 a0_0 l0_1 = some r) ∧ Aside0 (kq ≤ k) ∧ Aside0 (Kd.S (Kd.slice 3 (Kd.int .i64)) 25 w' w.heap.size (fun _ => True) v5 x5_1) ∧ Aside0 (w'.heap[gb115]? = some (.cells #[.int .i64 a0_0, (.slice A0_1 l0_1.length c0_1)] 29 (0, 0))) ∧ Aside0 (Below w.heap.size w w'))
 case atStart => exact ⟨(y116), (0), (by first | rfl | (simp;done) | (simp [*];done)), H', ⟨Nat.le_refl _⟩, ⟨by (with_reducible repeat (first | apply Kd.S_alloc | apply Kd.S_drewN | apply Kd.S_drew));exact HO118.out⟩, ⟨by exact kP BK115.out⟩, ⟨by exact bB⟩⟩
 case round =>
  clear H'
  try clear c1
  try clear p2
  try clear c3
  obtain ⟨x5_1, x6_1, rfl, HA, HK1, HO_5, BK115, HB⟩ := hrel
  cases gk with
  | zero => exact absurd HA.out (by simp [spec_l9Matrix.l0])
  | succ k1 =>
   have H := HA.out
   clear HA
   simp only [spec_l9Matrix.l0] at H
   by_cases c6 : x6_1 < a0_0
   ·rw [if_pos c6] at H
    have c6b0 : decide (x6_1 < a0_0) = true := decide_eq_true c6
    clear c6
    by_cases c7 : 0 ≤ a0_0
    ·rw [if_pos c7] at H
     have c7b0 := eq_true c7
     have c7b1 : decide (0 ≤ a0_0) = true := decide_eq_true c7
     clear c7
     by_cases c8 : (a0_0 : Int).toNat ≤ 35184372088832
     ·rw [if_pos c8] at H
      have c8b0 := eq_true c8
      have c8b1 : decide ((a0_0 : Int).toNat ≤ 35184372088832) = true := decide_eq_true c8
      clear c8
      obtain ⟨y119, hy119⟩ : ∃ y_ : List Int, y_ = (List.replicate (a0_0 : Int).toNat 0) := ⟨_, rfl⟩
      replace H : (spec_l9Matrix.l1 k1 l1 x5_1 x6_1 y119 0 a0_0 l0_1) = some r := by first | (rw [hy119];with_reducible exact H) | (have H2_ := (Option.bind_some _ _).symm.trans H;rw [hy119];with_reducible exact H2_) | (have H2_ := (Option.bind_some _ _).symm.trans H;with_reducible exact H2_) | with_reducible exact H | (rw [hy119];exact H) | exact H
      have Ny119 := Aside0.mk hy119
      clear hy119
      have H' := Aside0.mk H
      clear H
      have hcz9_0 : wr.cell? ⟨gb115, 0, none⟩ = some (.int .i64 a0_0) := (blk_cell BK115.out 0).trans rfl
      have hcz9_1 : wr.cell? ⟨gb115, 1, none⟩ = some (.slice A0_1 l0_1.length c0_1) := (blk_cell BK115.out 1).trans rfl
      have hfz9_0 := blk_frozen BK115.out 0
      have hfz9_1 := blk_frozen BK115.out 1
      go_wp2_with (first | ((with_reducible refine gate_dst (N := 18) rfl ?_);refine Kd.R_make (Kd.int .i64) _ 3 rfl (N := 18) rfl 25 _ _ rfl a0_0 rfl rfl Try.underlying25 (.int .i64 0) 8 info3 rfl (by decide) (by omega) 0 (ok := fun _ => True) (okp := fun _ => True) rfl (fun _ hk => hk) trivial (oA) (Nat.le_trans (Nat.mul_le_mul_right _ (oA : a0_0.toNat ≤ 35184372088832)) (by omega)) (Below.refl _ _) (Nat.le_refl _) ?_;intro v120 w10 ho11 hb hg_ hnew_;clear hg_ hnew_;(first | rw [← Ny119.out] at ho11 | (simp only [Int.reduceToNat] at ho11;rw [← Ny119.out] at ho11));have n0_ := Aside0.mk (Kd.S_elder' (by (with_reducible repeat (first | apply Kd.S_alloc | apply Kd.S_drewN | apply Kd.S_drew));exact HO_5.out) (Kd.R_base ho11) hb);have n1_ := Aside0.mk (Kd.R_lower ho11 (below_size (by exact bB)));have n2_ := Aside0.mk (blk_below (g := gb115) (o := .cells #[.int .i64 a0_0, .slice A0_1 l0_1.length c0_1] 29 (0, 0)) (by exact kP BK115.out) hb);have n3_ := Aside0.mk (below_step (by exact bB) hb);clear HO_5;clear BK115;clear HB;have HO_5 := n0_;have HO121 := n1_;have BK115 := n2_;have HB := n3_;clear n0_ n1_ n2_ n3_;clear hb ho11))
      go_loopg [8] k1 (fun kq v8 w' => ∃ (x7_2 : List Int) (x8_2 : Int), v8 = .int .i64 x8_2 ∧ Aside0 (spec_l9Matrix.l1 kq l1 x5_1 x6_1 x7_2 x8_2 a0_0 l0_1 = some r) ∧ Aside0 (kq ≤ k1) ∧ Aside0 (Kd.S (Kd.slice 3 (Kd.int .i64)) 25 w' w.heap.size (fun k_ => some k_ ≠ (v120 : Value).ownBlock) u5 x5_1) ∧ Aside0 (Kd.R (Kd.int .i64) 3 w' w.heap.size (fun _ => True) v120 x7_2) ∧ Aside0 (w'.heap[gb115]? = some (.cells #[.int .i64 a0_0, (.slice A0_1 l0_1.length c0_1)] 29 (0, 0))) ∧ Aside0 (Below w.heap.size w w'))
      case atStart => exact ⟨(y119), (0), (by first | rfl | (simp;done) | (simp [*];done)), H', ⟨Nat.le_refl _⟩, ⟨by (with_reducible repeat (first | apply Kd.S_alloc | apply Kd.S_drewN | apply Kd.S_drew));exact Kd.S_mono HO_5.out (fun _ hk => hk.2)⟩, ⟨by exact rP HO121.out⟩, ⟨by exact kP BK115.out⟩, ⟨by exact bB⟩⟩
      case round =>
       clear H'
       try clear c1
       try clear p2
       try clear c3
       try clear c6
       try clear c6b0
       try clear c7
       try clear c7b0
       try clear c7b1
       try clear c8
       try clear c8b0
       try clear c8b1
       try clear hcz9_0
       try clear hcz9_1
       try clear hfz9_0
       try clear hfz9_1
       try clear p2
       obtain ⟨x7_2, x8_2, rfl, HA, HK2, HO_5, HO_7, BK115, HB⟩ := hrel
       cases gk with
       | zero => exact absurd HA.out (by simp [spec_l9Matrix.l1])
       | succ k2 =>
        have H := HA.out
        clear HA
        simp only [spec_l9Matrix.l1] at H
        by_cases c12 : x8_2 < a0_0
        ·rw [if_pos c12] at H
         have c12b0 : decide (x8_2 < a0_0) = true := decide_eq_true c12
         clear c12
         replace H := Option.bind_eq_some_iff.mp H
         obtain ⟨t122, A130, H⟩ := H
         replace H : (if t122 = true then (if 0 ≤ x8_2 then (if x8_2 < (x7_2.length : Int) then (spec_l9Matrix.l1 k2 l1 x5_1 x6_1 (x7_2.set (x8_2 : Int).toNat 1) (wrap64 (x8_2 + 1)) a0_0 l0_1) else (none)) else (none)) else (spec_l9Matrix.l1 k2 l1 x5_1 x6_1 x7_2 (wrap64 (x8_2 + 1)) a0_0 l0_1)) = some r := H
         have A13 := Aside0.mk A130
         clear A130
         by_cases c14 : t122 = true
         ·subst c14
          have H1 : (if 0 ≤ x8_2 then (if x8_2 < (x7_2.length : Int) then (spec_l9Matrix.l1 k2 l1 x5_1 x6_1 (x7_2.set (x8_2 : Int).toNat 1) (wrap64 (x8_2 + 1)) a0_0 l0_1) else (none)) else (none)) = some r := by rw [if_pos rfl] at H;exact H
          clear H
          have H := H1
          clear H1
          by_cases c15 : 0 ≤ x8_2
          ·rw [if_pos c15] at H
           have c15b0 : decide (0 ≤ x8_2) = true := decide_eq_true c15
           clear c15
           by_cases c16 : x8_2 < (x7_2.length : Int)
           ·rw [if_pos c16] at H
            have c16b0 : decide (x8_2 < (x7_2.length : Int)) = true := decide_eq_true c16
            clear c16
            obtain ⟨y123, hy123⟩ : ∃ y_ : List Int, y_ = (x7_2.set (x8_2 : Int).toNat 1) := ⟨_, rfl⟩
            replace H : (spec_l9Matrix.l1 k2 l1 x5_1 x6_1 y123 (wrap64 (x8_2 + 1)) a0_0 l0_1) = some r := by first | (rw [hy123];with_reducible exact H) | (have H2_ := (Option.bind_some _ _).symm.trans H;rw [hy123];with_reducible exact H2_) | (have H2_ := (Option.bind_some _ _).symm.trans H;with_reducible exact H2_) | with_reducible exact H | (rw [hy123];exact H) | exact H
            have Ny123 := Aside0.mk hy123
            clear hy123
            have H' := Aside0.mk H
            clear H
            have hcz18_0 : wr.cell? ⟨gb115, 0, none⟩ = some (.int .i64 a0_0) := (blk_cell BK115.out 0).trans rfl
            have hcz18_1 : wr.cell? ⟨gb115, 1, none⟩ = some (.slice A0_1 l0_1.length c0_1) := (blk_cell BK115.out 1).trans rfl
            have hfz18_0 := blk_frozen BK115.out 0
            have hfz18_1 := blk_frozen BK115.out 1
            go_wp2_with (first | ((with_reducible refine gate_callee (f := 63) rfl ?_);refine goesL_ (some 28) rfl rfl Try.func63 (by kernel_rfl) rfl #[.agg #[.int .i64 a0_0, .slice A0_1 l0_1.length c0_1], .int .i64 x6_1, .int .i64 x8_2] rfl mM ?_;(with_reducible refine (spec_l2Near.calls k2 a0_0 _ _ l0_1 x6_1 x8_2 true _ ?side1 ?side2 A13.out).mono ?_);(case side1 => exact cP (Kd.C_below HR0_1.out HB.out));(case side2 => exact HC0_1.out);rintro e w19 ⟨rfl, hb⟩;refine ⟨_, rfl, ?_⟩;have n0_ := Aside0.mk (Kd.S_below (by (with_reducible repeat (first | apply Kd.S_alloc | apply Kd.S_drewN | apply Kd.S_drew));exact HO_5.out) hb);have n1_ := Aside0.mk (Kd.R_below (by exact rP HO_7.out) hb);have n2_ := Aside0.mk (blk_below (g := gb115) (o := .cells #[.int .i64 a0_0, .slice A0_1 l0_1.length c0_1] 29 (0, 0)) (by exact kP BK115.out) hb);have n3_ := Aside0.mk (below_step (by exact bB) hb);clear HO_5;clear HO_7;clear BK115;clear HB;have HO_5 := n0_;have HO_7 := n1_;have BK115 := n2_;have HB := n3_;clear n0_ n1_ n2_ n3_;(try clear hb);(try clear hb2);(try clear hk);(try clear hi);have p17 : 0 ≤ (x8_2 : Int) := oA;have q17 : (x8_2 : Int) < ((x7_2.length : Int) : Int) := oA;obtain ⟨go17, co17, eo17, gb17, gl17, cl17, HG17⟩ := Kd.R_form HO_7.out (by omega);(first | cases eo17 | (injection eo17 with ea_ en_ ec_;(first | subst ea_ | (injection ea_ with ea_;subst ea_));subst ec_;clear en_));have GB17 := Aside0.mk gb17;have GG17 := Aside0.mk HG17;clear gb17 gl17 HG17;obtain ⟨hx17_0, hf17_0⟩ := Kd.R_celln 0 HO_7.out (x8_2 : Int) p17 q17;replace p17 := eq_true p17;replace q17 := eq_true q17;obtain ⟨hy20_, hz20_⟩ := Kd.R_celln 0 HO_7.out (x8_2 : Int) (oA) (oA);have HP20 := Kd.R_putg HO_7.out (x8_2 : Int) 1) | ((with_reducible refine gate_store (t := 3) (p := 31) rfl ?_);refine store_event (t := 3) (p := 31) (v := ?vo_w21) (w1 := (w19.setCell ⟨go17, (x8_2 : Int).toNat, none⟩ (.int .i64 1))) ?hg ?ho ?hn ?hr ?_;(case ho => rfl);(case hg => rfl);(case hn => rfl);(case hr => first | (go_simp;done) | (go_simp;rfl));intro w21 hw;have hg : w19.grownBy w21 (some go17) := (by rw [hw];exact HP20.2);have hp_ : Kd.R (Kd.int .i64) 3 w21 w.heap.size (fun _ => True) (.slice (some ⟨go17, 0, none⟩) x7_2.length co17) y123 := (by rw [hw, Ny123.out];exact HP20.1);clear HP20;have n0_ := Aside0.mk (Kd.S_after (v := (.slice (some ⟨go17, 0, none⟩) x7_2.length co17)) (v1 := (.slice (some ⟨go17, 0, none⟩) x7_2.length co17)) (ok := (fun _ => True)) (by (with_reducible repeat (first | apply Kd.S_alloc | apply Kd.S_drewN | apply Kd.S_drew));exact Kd.S_mono HO_5.out (fun _ hk => ⟨trivial, hk⟩)) hg (.inl rfl));have n1_ := Aside0.mk (hp_);have n2_ := Aside0.mk (blk_grown (g := gb115) (o := .cells #[.int .i64 a0_0, .slice A0_1 l0_1.length c0_1] 29 (0, 0)) (by exact kP BK115.out) hg (Kd.R_ne HO_7.out BK115.out (by decide)));have n3_ := Aside0.mk ((by rw [hw];exact below_set (HB.out) GB17.out : Below w.heap.size w w21));clear HO_5;clear HO_7;clear BK115;clear HB;have HO_5 := n0_;have HO_7 := n1_;have BK115 := n2_;have HB := n3_;clear n0_ n1_ n2_ n3_;clear hg hw hp_))
            go_roundg k2
            case measure => have := HK1.out;have := HK2.out;omega
            case rel => exact ⟨(y123), (wrap64 (x8_2 + 1)), (by first | rfl | (simp;done) | (simp [*];done)), H', ⟨by have := HK1.out;have := HK2.out;omega⟩, ⟨by (with_reducible repeat (first | apply Kd.S_alloc | apply Kd.S_drewN | apply Kd.S_drew));exact Kd.S_mono HO_5.out (fun _ hk => hk.2)⟩, ⟨by exact rP HO_7.out⟩, ⟨by exact kP BK115.out⟩, ⟨by exact bB⟩⟩
           ·rw [if_neg c16] at H
            exact absurd H (by simp)
          ·rw [if_neg c15] at H
           exact absurd H (by simp)
         ·replace c14 := Bool.eq_false_iff.mpr c14
          subst c14
          have H1 : (spec_l9Matrix.l1 k2 l1 x5_1 x6_1 x7_2 (wrap64 (x8_2 + 1)) a0_0 l0_1) = some r := by rw [if_neg (show ¬ (false = true) by decide)] at H;exact H
          clear H
          have H := H1
          clear H1
          have H' := Aside0.mk H
          clear H
          have hcz22_0 : wr.cell? ⟨gb115, 0, none⟩ = some (.int .i64 a0_0) := (blk_cell BK115.out 0).trans rfl
          have hcz22_1 : wr.cell? ⟨gb115, 1, none⟩ = some (.slice A0_1 l0_1.length c0_1) := (blk_cell BK115.out 1).trans rfl
          have hfz22_0 := blk_frozen BK115.out 0
          have hfz22_1 := blk_frozen BK115.out 1
          go_wp2_with (first | ((with_reducible refine gate_callee (f := 63) rfl ?_);refine goesL_ (some 28) rfl rfl Try.func63 (by kernel_rfl) rfl #[.agg #[.int .i64 a0_0, .slice A0_1 l0_1.length c0_1], .int .i64 x6_1, .int .i64 x8_2] rfl mM ?_;(with_reducible refine (spec_l2Near.calls k2 a0_0 _ _ l0_1 x6_1 x8_2 false _ ?side1 ?side2 A13.out).mono ?_);(case side1 => exact cP (Kd.C_below HR0_1.out HB.out));(case side2 => exact HC0_1.out);rintro e w23 ⟨rfl, hb⟩;refine ⟨_, rfl, ?_⟩;have n0_ := Aside0.mk (Kd.S_below (by (with_reducible repeat (first | apply Kd.S_alloc | apply Kd.S_drewN | apply Kd.S_drew));exact HO_5.out) hb);have n1_ := Aside0.mk (Kd.R_below (by exact rP HO_7.out) hb);have n2_ := Aside0.mk (blk_below (g := gb115) (o := .cells #[.int .i64 a0_0, .slice A0_1 l0_1.length c0_1] 29 (0, 0)) (by exact kP BK115.out) hb);have n3_ := Aside0.mk (below_step (by exact bB) hb);clear HO_5;clear HO_7;clear BK115;clear HB;have HO_5 := n0_;have HO_7 := n1_;have BK115 := n2_;have HB := n3_;clear n0_ n1_ n2_ n3_;(try clear hb);(try clear hb2);(try clear hk);(try clear hi)))
          go_roundg k2
          case measure => have := HK1.out;have := HK2.out;omega
          case rel => exact ⟨(x7_2), (wrap64 (x8_2 + 1)), (by first | rfl | (simp;done) | (simp [*];done)), H', ⟨by have := HK1.out;have := HK2.out;omega⟩, ⟨by (with_reducible repeat (first | apply Kd.S_alloc | apply Kd.S_drewN | apply Kd.S_drew));exact HO_5.out⟩, ⟨by exact rP HO_7.out⟩, ⟨by exact kP BK115.out⟩, ⟨by exact bB⟩⟩
        ·rw [if_neg c12] at H
         have c12b0 : decide (x8_2 < a0_0) = false := decide_eq_false c12
         clear c12
         by_cases c24 : 0 ≤ x6_1
         ·rw [if_pos c24] at H
          have c24b0 : decide (0 ≤ x6_1) = true := decide_eq_true c24
          clear c24
          by_cases c25 : x6_1 < (l1.length : Int)
          ·rw [if_pos c25] at H
           have c25b0 : decide (x6_1 < (l1.length : Int)) = true := decide_eq_true c25
           clear c25
           by_cases c26 : x6_1 < (x7_2.length : Int)
           ·rw [if_pos c26] at H
            have c26b0 : decide (x6_1 < (x7_2.length : Int)) = true := decide_eq_true c26
            clear c26
            obtain ⟨y125, hy125⟩ : ∃ y_ : List Int, y_ = (x7_2.set (x6_1 : Int).toNat (rd l1 x6_1)) := ⟨_, rfl⟩
            replace H : (if x5_1.length < 5864062014805 then (spec_l9Matrix.l0 k2 l1 (x5_1 ++ [y125]) (wrap64 (x6_1 + 1)) a0_0 l0_1) else (none)) = some r := by first | (rw [hy125];with_reducible exact H) | (have H2_ := (Option.bind_some _ _).symm.trans H;rw [hy125];with_reducible exact H2_) | (have H2_ := (Option.bind_some _ _).symm.trans H;with_reducible exact H2_) | with_reducible exact H | (rw [hy125];exact H) | exact H
            have Ny125 := Aside0.mk hy125
            clear hy125
            by_cases c28 : x5_1.length < 5864062014805
            ·rw [if_pos c28] at H
             have LMc28 := Aside0.mk c28
             clear c28
             obtain ⟨y126, hy126⟩ : ∃ y_ : List (List Int), y_ = (x5_1 ++ [y125]) := ⟨_, rfl⟩
             replace H : (spec_l9Matrix.l0 k2 l1 y126 (wrap64 (x6_1 + 1)) a0_0 l0_1) = some r := by first | (rw [hy126];with_reducible exact H) | (have H2_ := (Option.bind_some _ _).symm.trans H;rw [hy126];with_reducible exact H2_) | (have H2_ := (Option.bind_some _ _).symm.trans H;with_reducible exact H2_) | with_reducible exact H | (rw [hy126];exact H) | exact H
             have Ny126 := Aside0.mk hy126
             clear hy126
             have H' := Aside0.mk H
             clear H
             have hcz29_0 : wr.cell? ⟨gb115, 0, none⟩ = some (.int .i64 a0_0) := (blk_cell BK115.out 0).trans rfl
             have hcz29_1 : wr.cell? ⟨gb115, 1, none⟩ = some (.slice A0_1 l0_1.length c0_1) := (blk_cell BK115.out 1).trans rfl
             have hfz29_0 := blk_frozen BK115.out 0
             have hfz29_1 := blk_frozen BK115.out 1
             have p124 : 0 ≤ (x6_1 : Int) := oA
             have q124 : x6_1 < (l1.length : Int) := oA
             obtain ⟨ad124, e124, hx124_0⟩ := Kd.at_int HR1.out x6_1 p124 q124
             cases e124
             replace hx124_0 := (HB.out.cell (World.block_lt_of_cell? w _ hx124_0)).trans hx124_0
             replace p124 := eq_true p124
             replace q124 := eq_true q124
             have p27 : 0 ≤ (x6_1 : Int) := oA
             have q27 : (x6_1 : Int) < ((x7_2.length : Int) : Int) := oA
             obtain ⟨go27, co27, eo27, gb27, gl27, cl27, HG27⟩ := Kd.R_form HO_7.out (by omega)
             (first | cases eo27 | (injection eo27 with ea_ en_ ec_;(first | subst ea_ | (injection ea_ with ea_;subst ea_));subst ec_;clear en_))
             have GB27 := Aside0.mk gb27
             have GG27 := Aside0.mk HG27
             clear gb27 gl27 HG27
             obtain ⟨hx27_0, hf27_0⟩ := Kd.R_celln 0 HO_7.out (x6_1 : Int) p27 q27
             replace p27 := eq_true p27
             replace q27 := eq_true q27
             have HP30 := Kd.R_putg HO_7.out (x6_1 : Int) (rd l1 x6_1)
             go_wp2_with (first | ((with_reducible refine gate_store (t := 3) (p := 38) rfl ?_);refine store_event (t := 3) (p := 38) (v := ?vo_w31) (w1 := (wr.setCell ⟨go27, (x6_1 : Int).toNat, none⟩ (.int .i64 (rd l1 x6_1)))) ?hg ?ho ?hn ?hr ?_;(case ho => rfl);(case hg => rfl);(case hn => rfl);(case hr => first | (go_simp;done) | (go_simp;rfl));intro w31 hw;have hg : wr.grownBy w31 (some go27) := (by rw [hw];exact HP30.2);have hp_ : Kd.R (Kd.int .i64) 3 w31 w.heap.size (fun _ => True) (.slice (some ⟨go27, 0, none⟩) x7_2.length co27) y125 := (by rw [hw, Ny125.out];exact HP30.1);clear HP30;have n0_ := Aside0.mk (Kd.S_after (v := (.slice (some ⟨go27, 0, none⟩) x7_2.length co27)) (v1 := (.slice (some ⟨go27, 0, none⟩) x7_2.length co27)) (ok := (fun _ => True)) (by (with_reducible repeat (first | apply Kd.S_alloc | apply Kd.S_drewN | apply Kd.S_drew));exact Kd.S_mono HO_5.out (fun _ hk => ⟨trivial, hk⟩)) hg (.inl rfl));have n1_ := Aside0.mk (hp_);have n2_ := Aside0.mk (blk_grown (g := gb115) (o := .cells #[.int .i64 a0_0, .slice A0_1 l0_1.length c0_1] 29 (0, 0)) (by exact kP BK115.out) hg (Kd.R_ne HO_7.out BK115.out (by decide)));have n3_ := Aside0.mk ((by rw [hw];exact below_set (HB.out) GB27.out : Below w.heap.size w w31));clear HO_5;clear HO_7;clear BK115;clear HB;have HO_5 := n0_;have HO_7 := n1_;have BK115 := n2_;have HB := n3_;clear n0_ n1_ n2_ n3_;clear hg hw hp_) | ((with_reducible refine gate_builtin (b := .append) (xs := #[.tmp 39, .tmp 41]) rfl ?_);at_builtin;refine Kd.S_append (Kd.slice 3 (Kd.int .i64)) (w0 := w) w.heap.size rfl (.tmp 39) (.tmp 41) 37 25 (.slice none 0 0) 24 rfl Try.underlying37 info25 rfl (by decide) (by omega) u5 x5_1 y125 [.slice (some ⟨go27, 0, none⟩) x7_2.length co27] (fun _ => True) (fun k_ => some k_ = (.slice (some ⟨go27, 0, none⟩) x7_2.length co27 : Value).ownBlock) rfl rfl ?aP (fun k_ hk_ => ((Kd.R_mono (ok' := fun k_ => ((fun _ => True)) k_ ∧ some k_ ≠ (u5 : Value).ownBlock) (Kd.R_apart' (HO_7.out) (Kd.S_typed HO_5.out) (by decide)) (fun k_ hk => ⟨trivial, hk.2⟩))).1 k_ hk_.symm) ?aF ?aO ?aB ?aS ?aL ?_;(case aP => exact Kd.M_row (Kd.R_mono (Kd.R_tight rfl (Kd.R_mono (ok' := fun k_ => ((fun _ => True)) k_ ∧ some k_ ≠ (u5 : Value).ownBlock) (Kd.R_apart' (HO_7.out) (Kd.S_typed HO_5.out) (by decide)) (fun k_ hk => ⟨trivial, hk.2⟩))) (fun _ h_ => h_)));(case aB => exact (by exact bB));(case aF => exact (fun _ _ => trivial));(case aO => exact (by (with_reducible repeat (first | apply Kd.S_alloc | apply Kd.S_drewN | apply Kd.S_drew));exact Kd.S_mono HO_5.out (fun k_ hk => ⟨trivial, fun e_ => hk.2 e_⟩)));(case aS => exact (below_size (by exact bB)));(case aL => have := LMc28.out;omega);intro v127 w32 ho hb hg hat;rw [← Ny126.out] at ho;have n0_ := Aside0.mk (blk_grown (g := gb115) (o := .cells #[.int .i64 a0_0, .slice A0_1 l0_1.length c0_1] 29 (0, 0)) (by exact kP BK115.out) hg (Kd.S_ne HO_5.out BK115.out (by decide)));have n1_ := Aside0.mk (hb);have n2_ := Aside0.mk (ho);clear BK115;clear HB;clear HO_5;clear HO_7;have BK115 := n0_;have HB := n1_;have HO128 := n2_;clear n0_ n1_ n2_;clear ho hb hg hat))
             go_roundg k2
             case measure => have := HK1.out;have := HK2.out;omega
             case rel => exact ⟨(y126), (wrap64 (x6_1 + 1)), (by first | rfl | (simp;done) | (simp [*];done)), H', ⟨by have := HK1.out;have := HK2.out;omega⟩, ⟨by (with_reducible repeat (first | apply Kd.S_alloc | apply Kd.S_drewN | apply Kd.S_drew));exact HO128.out⟩, ⟨by exact kP BK115.out⟩, ⟨by exact bB⟩⟩
            ·rw [if_neg c28] at H
             exact absurd H (by simp)
           ·rw [if_neg c26] at H
            exact absurd H (by simp)
          ·rw [if_neg c25] at H
           exact absurd H (by simp)
         ·rw [if_neg c24] at H
          exact absurd H (by simp)
     ·rw [if_neg c8] at H
      exact absurd H (by simp)
    ·rw [if_neg c7] at H
     exact absurd H (by simp)
   ·rw [if_neg c6] at H
    have c6b0 : decide (x6_1 < a0_0) = false := decide_eq_false c6
    clear c6
    obtain rfl := Option.some.inj H
    have hcz33_0 : wr.cell? ⟨gb115, 0, none⟩ = some (.int .i64 a0_0) := (blk_cell BK115.out 0).trans rfl
    have hcz33_1 : wr.cell? ⟨gb115, 1, none⟩ = some (.slice A0_1 l0_1.length c0_1) := (blk_cell BK115.out 1).trans rfl
    have hfz33_0 := blk_frozen BK115.out 0
    have hfz33_1 := blk_frozen BK115.out 1
    go_wp2
    go_ret
    exact ⟨_, by first | rfl | (simp [errW_none, errW_some] <;> rfl) | (simp [*, errW_none, errW_some] <;> rfl), by (with_reducible repeat (first | apply Kd.S_alloc | apply Kd.S_drewN | apply Kd.S_drew));exact HO_5.out, by exact bB⟩


end Go.Proofs.Ytaddgielnfhhpaa.QNullityOf
