import Derived.Test.YtmokkhfmbenleaaQClosures0
namespace Go.Proofs.Ytmokkhfmbenleaa.QClosures
open Go.RowKit Go.Proofs.YtmokkhfmbenleaaW.PrintWords Go.Proofs.YtmokkhfmbenleaaW.PrintLast Go.Proofs.YtmokkhfmbenleaaW.PrintMore
attribute [local go_sem] max2_int min2_int max_two min_two max_three min_three max_four min_four   -- for this text's walks alone
set_option linter.unusedVariables false
set_option linter.unusedSimpArgs false
/-! ### impl_net_forced: function 142 -/
def impl_net_forced.l0 : Nat → Int → Bool → Int → List Int → Int → Int → Option (Int)
 | 0, _, _, _, _, _, _ => none
 | k + 1, x1, x2, x7, x13, x14, x15 => if x15 < x14 then (if 0 ≤ x15 then (if x15 < (x13.length : Int) then (if x2 = true then (if (Go.bits .andNot .i64 (rd x13 x15) x1) = 0 then (impl_net_forced.l0 k x1 x2 x7 x13 x14 (wrap64 (x15 + 1))) else (if (Go.bits .and .i64 (Go.bits .andNot .i64 (rd x13 x15) x1) (wrap64 ((Go.bits .andNot .i64 (rd x13 x15) x1) - 1))) = 0 then (impl_net_forced.l0 k x1 x2 (Go.bits .or .i64 x7 (Go.bits .andNot .i64 (rd x13 x15) x1)) x13 x14 (wrap64 (x15 + 1))) else (impl_net_forced.l0 k x1 x2 x7 x13 x14 (wrap64 (x15 + 1))))) else (if (Go.bits .and .i64 (shr .i64 x1 x15) 1) = 1 then (if (Go.bits .andNot .i64 (rd x13 x15) x1) = 0 then (impl_net_forced.l0 k x1 x2 x7 x13 x14 (wrap64 (x15 + 1))) else (if (Go.bits .and .i64 (Go.bits .andNot .i64 (rd x13 x15) x1) (wrap64 ((Go.bits .andNot .i64 (rd x13 x15) x1) - 1))) = 0 then (impl_net_forced.l0 k x1 x2 (Go.bits .or .i64 x7 (Go.bits .andNot .i64 (rd x13 x15) x1)) x13 x14 (wrap64 (x15 + 1))) else (impl_net_forced.l0 k x1 x2 x7 x13 x14 (wrap64 (x15 + 1))))) else (impl_net_forced.l0 k x1 x2 x7 x13 x14 (wrap64 (x15 + 1))))) else (none)) else (none)) else (some x7)
def impl_net_forced.f (k : Nat) (l0_0 : List Int) (a1 : Int) (a2 : Bool) : Option (Int) := impl_net_forced.l0 k a1 a2 a1 l0_0 (l0_0.length : Int) 0
theorem impl_net_forced.mono_l : ∀ k, (∀ y0 y1 y2 y3 y4 y5, LeO (impl_net_forced.l0 k y0 y1 y2 y3 y4 y5) (impl_net_forced.l0 (k + 1) y0 y1 y2 y3 y4 y5))
 | 0 => fun _ _ _ _ _ _ r h => by simp [impl_net_forced.l0] at h
 | k + 1 => by
  have ih0 := impl_net_forced.mono_l k
  ·intro y0 y1 y2 y3 y4 y5
   unfold impl_net_forced.l0
   repeat' first
   | (with_reducible exact ih0 _ _ _ _ _ _)
   | (with_reducible exact LeO.refl _)
   | (with_reducible exact LeO.none _)
   | (with_reducible refine LeO.ite ?_ ?_)
   | (with_reducible refine LeO.bind ?_ (fun _ => ?_))
   | exact ih0 _ _ _ _ _ _
   | exact LeO.none _
   | refine LeO.ite ?_ ?_
   | refine LeO.bind ?_ (fun _ => ?_)
theorem impl_net_forced.mono : ∀ a0 a1 a2 k, LeO (impl_net_forced.f k a0 a1 a2) (impl_net_forced.f (k + 1) a0 a1 a2) := by
 intro a0 a1 a2 k
 have ih0 := impl_net_forced.mono_l k
 unfold impl_net_forced.f
 repeat' first
   | (with_reducible exact ih0 _ _ _ _ _ _)
   | (with_reducible exact LeO.refl _)
   | (with_reducible exact LeO.none _)
   | (with_reducible refine LeO.ite ?_ ?_)
   | (with_reducible refine LeO.bind ?_ (fun _ => ?_))
   | exact ih0 _ _ _ _ _ _
   | exact LeO.none _
   | refine LeO.ite ?_ ?_
   | refine LeO.bind ?_ (fun _ => ?_)
set_option maxHeartbeats 8000000 in
set_option maxRecDepth 100000 in
theorem impl_net_forced.calls (k : Nat) (A0_0 : Option Addr) (c0_0 : Nat) (l0_0 : List Int) (a1 : Int) (a2 : Bool) (r : Int) (w : World) (hr0_0 : Kd.C (Kd.int .i64) w A0_0 l0_0.length l0_0) (hc0_0 : l0_0.length ≤ c0_0) (h : impl_net_forced.f k l0_0 a1 a2 = some r) :
  Calls Try.prog 142 #[.agg #[.slice A0_0 l0_0.length c0_0], .int .i64 a1, .bool a2] w fun e w' => e = .returned (.int .i64 r) ∧ Below w.heap.size w w' := by
 have hu80 := Try.underlying80
 have HR0_0 := Aside0.mk hr0_0
 have HC0_0 := Aside0.mk hc0_0
 clear hr0_0 hc0_0
 have HB := Aside0.mk (Below.refl w.heap.size w)
 have H : (impl_net_forced.l0 k a1 a2 a1 l0_0 (l0_0.length : Int) 0) = some r := h
 clear h
 have H' := Aside0.mk H
 clear H
 go_enter Try.func142, Try.ntmps142
 go_wp2_with (first | ((with_reducible refine gate_dst (N := 3) rfl ?_); refine box_event ?hg (N := 3) ?hd (cs := #[.slice A0_0 l0_0.length c0_0]) (t := 80) ?hr ?_; (case hd => rfl); (case hg => rfl); (case hr => first | (go_simp; done) | (go_simp; rfl)); intro gb626 hg w4 hbox hb; have n0_ := Aside0.mk (below_step (by exact bB) hb); have n1_ := Aside0.mk (hbox); have n2_ := Aside0.mk ((by rw [hg]; exact (below_size (by exact bB)) : w.heap.size ≤ gb626)); have n3_ := Aside0.mk ((by rw [hg]; exact (below_size (by exact bB)) : w.heap.size ≤ gb626)); clear HB; have HB := n0_; have BK626 := n1_; have GW626 := n2_; have GE626 := n3_; clear n0_ n1_ n2_ n3_; clear hb hbox hg; have hcz5_0 : w4.cell? ⟨gb626, 0, none⟩ = some (.slice A0_0 l0_0.length c0_0) := (blk_cell BK626.out 0).trans rfl; have hfz5_0 := blk_frozen BK626.out 0))
 go_loopg [7, 15] k (fun kq v7 v15 w' => ∃ (x7_1 : Int) (x15_1 : Int), v7 = .int .i64 x7_1 ∧ v15 = .int .i64 x15_1 ∧ Aside0 (impl_net_forced.l0 kq a1 a2 x7_1 l0_0 (l0_0.length : Int) x15_1 = some r) ∧ Aside0 (kq ≤ k) ∧ Aside0 (w'.heap[gb626]? = some (.cells #[(.slice A0_0 l0_0.length c0_0)] 80 (0, 0))) ∧ Aside0 (Below w.heap.size w w'))
 case atStart => exact ⟨(a1), (0), (by first | rfl | (simp; done) | (simp [*]; done)), (by first | rfl | (simp; done) | (simp [*]; done)), H', ⟨Nat.le_refl _⟩, ⟨by exact kP BK626.out⟩, ⟨by exact bB⟩⟩
 case round =>
  clear H'
  try clear c1
  try clear p2
  try clear hcz5_0
  try clear hfz5_0
  obtain ⟨x7_1, x15_1, rfl, rfl, HA, HK1, BK626, HB⟩ := hrel
  cases gk with
  | zero => exact absurd HA.out (by simp [impl_net_forced.l0])
  | succ k1 =>
   have H := HA.out
   clear HA
   simp only [impl_net_forced.l0] at H
   by_cases c6 : x15_1 < (l0_0.length : Int)
   ·rw [if_pos c6] at H
    have c6b0 : decide (x15_1 < (l0_0.length : Int)) = true := decide_eq_true c6
    clear c6
    by_cases c7 : 0 ≤ x15_1
    ·rw [if_pos c7] at H
     have c7b0 : decide (0 ≤ x15_1) = true := decide_eq_true c7
     clear c7
     by_cases c8 : x15_1 < (l0_0.length : Int)
     ·rw [if_pos c8] at H
      have c8b0 : decide (x15_1 < (l0_0.length : Int)) = true := decide_eq_true c8
      clear c8
      by_cases c9 : a2 = true
      ·subst c9
       have H1 : (if (Go.bits .andNot .i64 (rd l0_0 x15_1) a1) = 0 then (impl_net_forced.l0 k1 a1 true x7_1 l0_0 (l0_0.length : Int) (wrap64 (x15_1 + 1))) else (if (Go.bits .and .i64 (Go.bits .andNot .i64 (rd l0_0 x15_1) a1) (wrap64 ((Go.bits .andNot .i64 (rd l0_0 x15_1) a1) - 1))) = 0 then (impl_net_forced.l0 k1 a1 true (Go.bits .or .i64 x7_1 (Go.bits .andNot .i64 (rd l0_0 x15_1) a1)) l0_0 (l0_0.length : Int) (wrap64 (x15_1 + 1))) else (impl_net_forced.l0 k1 a1 true x7_1 l0_0 (l0_0.length : Int) (wrap64 (x15_1 + 1))))) = some r := by rw [if_pos rfl] at H; exact H
       clear H
       have H := H1
       clear H1
       by_cases c10 : (Go.bits .andNot .i64 (rd l0_0 x15_1) a1) = 0
       ·rw [if_pos c10] at H
        have c10b0 : ((Go.bits .andNot .i64 (rd l0_0 x15_1) a1) == 0) = true := beq_iff_eq.mpr c10
        have c10b1 : ((Go.bits .andNot .i64 (rd l0_0 x15_1) a1) != 0) = false := bne_eq_false_iff_eq.mpr c10
        clear c10
        have H' := Aside0.mk H
        clear H
        have p627 : 0 ≤ (x15_1 : Int) := of_decide_eq_true (by first | (with_reducible assumption) | assumption)
        have q627 : x15_1 < (l0_0.length : Int) := of_decide_eq_true (by first | (with_reducible assumption) | assumption)
        obtain ⟨ad627, e627, hx627_0⟩ := Kd.at_int HR0_0.out x15_1 p627 q627
        cases e627
        replace hx627_0 := (HB.out.cell (World.block_lt_of_cell? w _ hx627_0)).trans hx627_0
        replace p627 := eq_true p627
        replace q627 := eq_true q627
        go_wp2
        go_roundg k1
        case measure => have := HK1.out; omega
        case rel => exact ⟨(x7_1), (wrap64 (x15_1 + 1)), (by first | rfl | (simp; done) | (simp [*]; done)), (by first | rfl | (simp; done) | (simp [*]; done)), H', ⟨by have := HK1.out; omega⟩, ⟨by exact kP BK626.out⟩, ⟨by exact bB⟩⟩
       ·rw [if_neg c10] at H
        have c10b0 : ((Go.bits .andNot .i64 (rd l0_0 x15_1) a1) == 0) = false := beq_eq_false_iff_ne.mpr c10
        have c10b1 : ((Go.bits .andNot .i64 (rd l0_0 x15_1) a1) != 0) = true := bne_iff_ne.mpr c10
        by_cases c11 : (Go.bits .and .i64 (Go.bits .andNot .i64 (rd l0_0 x15_1) a1) (wrap64 ((Go.bits .andNot .i64 (rd l0_0 x15_1) a1) - 1))) = 0
        ·rw [if_pos c11] at H
         have c11b0 : ((Go.bits .and .i64 (Go.bits .andNot .i64 (rd l0_0 x15_1) a1) (wrap64 ((Go.bits .andNot .i64 (rd l0_0 x15_1) a1) - 1))) == 0) = true := beq_iff_eq.mpr c11
         have c11b1 : ((Go.bits .and .i64 (Go.bits .andNot .i64 (rd l0_0 x15_1) a1) (wrap64 ((Go.bits .andNot .i64 (rd l0_0 x15_1) a1) - 1))) != 0) = false := bne_eq_false_iff_eq.mpr c11
         clear c11
         have H' := Aside0.mk H
         clear H
         have p627 : 0 ≤ (x15_1 : Int) := of_decide_eq_true (by first | (with_reducible assumption) | assumption)
         have q627 : x15_1 < (l0_0.length : Int) := of_decide_eq_true (by first | (with_reducible assumption) | assumption)
         obtain ⟨ad627, e627, hx627_0⟩ := Kd.at_int HR0_0.out x15_1 p627 q627
         cases e627
         replace hx627_0 := (HB.out.cell (World.block_lt_of_cell? w _ hx627_0)).trans hx627_0
         replace p627 := eq_true p627
         replace q627 := eq_true q627
         go_wp2
         go_roundg k1
         case measure => have := HK1.out; omega
         case rel => exact ⟨(Go.bits .or .i64 x7_1 (Go.bits .andNot .i64 (rd l0_0 x15_1) a1)), (wrap64 (x15_1 + 1)), (by first | rfl | (simp; done) | (simp [*]; done)), (by first | rfl | (simp; done) | (simp [*]; done)), H', ⟨by have := HK1.out; omega⟩, ⟨by exact kP BK626.out⟩, ⟨by exact bB⟩⟩
        ·rw [if_neg c11] at H
         have c11b0 : ((Go.bits .and .i64 (Go.bits .andNot .i64 (rd l0_0 x15_1) a1) (wrap64 ((Go.bits .andNot .i64 (rd l0_0 x15_1) a1) - 1))) == 0) = false := beq_eq_false_iff_ne.mpr c11
         have c11b1 : ((Go.bits .and .i64 (Go.bits .andNot .i64 (rd l0_0 x15_1) a1) (wrap64 ((Go.bits .andNot .i64 (rd l0_0 x15_1) a1) - 1))) != 0) = true := bne_iff_ne.mpr c11
         have H' := Aside0.mk H
         clear H
         have p627 : 0 ≤ (x15_1 : Int) := of_decide_eq_true (by first | (with_reducible assumption) | assumption)
         have q627 : x15_1 < (l0_0.length : Int) := of_decide_eq_true (by first | (with_reducible assumption) | assumption)
         obtain ⟨ad627, e627, hx627_0⟩ := Kd.at_int HR0_0.out x15_1 p627 q627
         cases e627
         replace hx627_0 := (HB.out.cell (World.block_lt_of_cell? w _ hx627_0)).trans hx627_0
         replace p627 := eq_true p627
         replace q627 := eq_true q627
         go_wp2
         go_roundg k1
         case measure => have := HK1.out; omega
         case rel => exact ⟨(x7_1), (wrap64 (x15_1 + 1)), (by first | rfl | (simp; done) | (simp [*]; done)), (by first | rfl | (simp; done) | (simp [*]; done)), H', ⟨by have := HK1.out; omega⟩, ⟨by exact kP BK626.out⟩, ⟨by exact bB⟩⟩
      ·replace c9 := Bool.eq_false_iff.mpr c9
       subst c9
       have H1 : (if (Go.bits .and .i64 (shr .i64 a1 x15_1) 1) = 1 then (if (Go.bits .andNot .i64 (rd l0_0 x15_1) a1) = 0 then (impl_net_forced.l0 k1 a1 false x7_1 l0_0 (l0_0.length : Int) (wrap64 (x15_1 + 1))) else (if (Go.bits .and .i64 (Go.bits .andNot .i64 (rd l0_0 x15_1) a1) (wrap64 ((Go.bits .andNot .i64 (rd l0_0 x15_1) a1) - 1))) = 0 then (impl_net_forced.l0 k1 a1 false (Go.bits .or .i64 x7_1 (Go.bits .andNot .i64 (rd l0_0 x15_1) a1)) l0_0 (l0_0.length : Int) (wrap64 (x15_1 + 1))) else (impl_net_forced.l0 k1 a1 false x7_1 l0_0 (l0_0.length : Int) (wrap64 (x15_1 + 1))))) else (impl_net_forced.l0 k1 a1 false x7_1 l0_0 (l0_0.length : Int) (wrap64 (x15_1 + 1)))) = some r := by rw [if_neg (show ¬ (false = true) by decide)] at H; exact H
       clear H
       have H := H1
       clear H1
       have c12b0 := eq_true (of_decide_eq_true (by first | (with_reducible assumption) | assumption) : 0 ≤ x15_1)
       obtain ⟨ji13, hji13⟩ : ∃ j_ : Int, (shr .i64 a1 x15_1) = j_ := ⟨_, rfl⟩
       replace H : (if (Go.bits .and .i64 (ji13) 1) = 1 then (if (Go.bits .andNot .i64 (rd l0_0 x15_1) a1) = 0 then (impl_net_forced.l0 k1 a1 false x7_1 l0_0 (l0_0.length : Int) (wrap64 (x15_1 + 1))) else (if (Go.bits .and .i64 (Go.bits .andNot .i64 (rd l0_0 x15_1) a1) (wrap64 ((Go.bits .andNot .i64 (rd l0_0 x15_1) a1) - 1))) = 0 then (impl_net_forced.l0 k1 a1 false (Go.bits .or .i64 x7_1 (Go.bits .andNot .i64 (rd l0_0 x15_1) a1)) l0_0 (l0_0.length : Int) (wrap64 (x15_1 + 1))) else (impl_net_forced.l0 k1 a1 false x7_1 l0_0 (l0_0.length : Int) (wrap64 (x15_1 + 1))))) else (impl_net_forced.l0 k1 a1 false x7_1 l0_0 (l0_0.length : Int) (wrap64 (x15_1 + 1)))) = some r := by first | (rw [hji13] at H; exact H) | (simp only [hji13] at H ⊢; exact H)
       have hji13_ : (a1 / 2 ^ min x15_1.toNat 64) = ji13 := hji13
       have hji13z : x15_1 ≤ 64 → (a1 / 2 ^ x15_1.toNat) = ji13 := shr_small hji13
       by_cases c14 : (Go.bits .and .i64 (ji13) 1) = 1
       ·rw [if_pos c14] at H
        have c14b0 : ((Go.bits .and .i64 (ji13) 1) == 1) = true := beq_iff_eq.mpr c14
        have c14b1 : ((Go.bits .and .i64 (ji13) 1) != 1) = false := bne_eq_false_iff_eq.mpr c14
        clear c14
        by_cases c15 : (Go.bits .andNot .i64 (rd l0_0 x15_1) a1) = 0
        ·rw [if_pos c15] at H
         have c15b0 : ((Go.bits .andNot .i64 (rd l0_0 x15_1) a1) == 0) = true := beq_iff_eq.mpr c15
         have c15b1 : ((Go.bits .andNot .i64 (rd l0_0 x15_1) a1) != 0) = false := bne_eq_false_iff_eq.mpr c15
         clear c15
         have H' := Aside0.mk H
         clear H
         have p627 : 0 ≤ (x15_1 : Int) := of_decide_eq_true (by first | (with_reducible assumption) | assumption)
         have q627 : x15_1 < (l0_0.length : Int) := of_decide_eq_true (by first | (with_reducible assumption) | assumption)
         obtain ⟨ad627, e627, hx627_0⟩ := Kd.at_int HR0_0.out x15_1 p627 q627
         cases e627
         replace hx627_0 := (HB.out.cell (World.block_lt_of_cell? w _ hx627_0)).trans hx627_0
         replace p627 := eq_true p627
         replace q627 := eq_true q627
         go_wp2
         go_roundg k1
         case measure => have := HK1.out; omega
         case rel => exact ⟨(x7_1), (wrap64 (x15_1 + 1)), (by first | rfl | (simp; done) | (simp [*]; done)), (by first | rfl | (simp; done) | (simp [*]; done)), H', ⟨by have := HK1.out; omega⟩, ⟨by exact kP BK626.out⟩, ⟨by exact bB⟩⟩
        ·rw [if_neg c15] at H
         have c15b0 : ((Go.bits .andNot .i64 (rd l0_0 x15_1) a1) == 0) = false := beq_eq_false_iff_ne.mpr c15
         have c15b1 : ((Go.bits .andNot .i64 (rd l0_0 x15_1) a1) != 0) = true := bne_iff_ne.mpr c15
         by_cases c16 : (Go.bits .and .i64 (Go.bits .andNot .i64 (rd l0_0 x15_1) a1) (wrap64 ((Go.bits .andNot .i64 (rd l0_0 x15_1) a1) - 1))) = 0
         ·rw [if_pos c16] at H
          have c16b0 : ((Go.bits .and .i64 (Go.bits .andNot .i64 (rd l0_0 x15_1) a1) (wrap64 ((Go.bits .andNot .i64 (rd l0_0 x15_1) a1) - 1))) == 0) = true := beq_iff_eq.mpr c16
          have c16b1 : ((Go.bits .and .i64 (Go.bits .andNot .i64 (rd l0_0 x15_1) a1) (wrap64 ((Go.bits .andNot .i64 (rd l0_0 x15_1) a1) - 1))) != 0) = false := bne_eq_false_iff_eq.mpr c16
          clear c16
          have H' := Aside0.mk H
          clear H
          have p627 : 0 ≤ (x15_1 : Int) := of_decide_eq_true (by first | (with_reducible assumption) | assumption)
          have q627 : x15_1 < (l0_0.length : Int) := of_decide_eq_true (by first | (with_reducible assumption) | assumption)
          obtain ⟨ad627, e627, hx627_0⟩ := Kd.at_int HR0_0.out x15_1 p627 q627
          cases e627
          replace hx627_0 := (HB.out.cell (World.block_lt_of_cell? w _ hx627_0)).trans hx627_0
          replace p627 := eq_true p627
          replace q627 := eq_true q627
          go_wp2
          go_roundg k1
          case measure => have := HK1.out; omega
          case rel => exact ⟨(Go.bits .or .i64 x7_1 (Go.bits .andNot .i64 (rd l0_0 x15_1) a1)), (wrap64 (x15_1 + 1)), (by first | rfl | (simp; done) | (simp [*]; done)), (by first | rfl | (simp; done) | (simp [*]; done)), H', ⟨by have := HK1.out; omega⟩, ⟨by exact kP BK626.out⟩, ⟨by exact bB⟩⟩
         ·rw [if_neg c16] at H
          have c16b0 : ((Go.bits .and .i64 (Go.bits .andNot .i64 (rd l0_0 x15_1) a1) (wrap64 ((Go.bits .andNot .i64 (rd l0_0 x15_1) a1) - 1))) == 0) = false := beq_eq_false_iff_ne.mpr c16
          have c16b1 : ((Go.bits .and .i64 (Go.bits .andNot .i64 (rd l0_0 x15_1) a1) (wrap64 ((Go.bits .andNot .i64 (rd l0_0 x15_1) a1) - 1))) != 0) = true := bne_iff_ne.mpr c16
          have H' := Aside0.mk H
          clear H
          have p627 : 0 ≤ (x15_1 : Int) := of_decide_eq_true (by first | (with_reducible assumption) | assumption)
          have q627 : x15_1 < (l0_0.length : Int) := of_decide_eq_true (by first | (with_reducible assumption) | assumption)
          obtain ⟨ad627, e627, hx627_0⟩ := Kd.at_int HR0_0.out x15_1 p627 q627
          cases e627
          replace hx627_0 := (HB.out.cell (World.block_lt_of_cell? w _ hx627_0)).trans hx627_0
          replace p627 := eq_true p627
          replace q627 := eq_true q627
          go_wp2
          go_roundg k1
          case measure => have := HK1.out; omega
          case rel => exact ⟨(x7_1), (wrap64 (x15_1 + 1)), (by first | rfl | (simp; done) | (simp [*]; done)), (by first | rfl | (simp; done) | (simp [*]; done)), H', ⟨by have := HK1.out; omega⟩, ⟨by exact kP BK626.out⟩, ⟨by exact bB⟩⟩
       ·rw [if_neg c14] at H
        have c14b0 : ((Go.bits .and .i64 (ji13) 1) == 1) = false := beq_eq_false_iff_ne.mpr c14
        have c14b1 : ((Go.bits .and .i64 (ji13) 1) != 1) = true := bne_iff_ne.mpr c14
        have H' := Aside0.mk H
        clear H
        have p627 : 0 ≤ (x15_1 : Int) := of_decide_eq_true (by first | (with_reducible assumption) | assumption)
        have q627 : x15_1 < (l0_0.length : Int) := of_decide_eq_true (by first | (with_reducible assumption) | assumption)
        obtain ⟨ad627, e627, hx627_0⟩ := Kd.at_int HR0_0.out x15_1 p627 q627
        cases e627
        replace hx627_0 := (HB.out.cell (World.block_lt_of_cell? w _ hx627_0)).trans hx627_0
        replace p627 := eq_true p627
        replace q627 := eq_true q627
        go_wp2
        go_roundg k1
        case measure => have := HK1.out; omega
        case rel => exact ⟨(x7_1), (wrap64 (x15_1 + 1)), (by first | rfl | (simp; done) | (simp [*]; done)), (by first | rfl | (simp; done) | (simp [*]; done)), H', ⟨by have := HK1.out; omega⟩, ⟨by exact kP BK626.out⟩, ⟨by exact bB⟩⟩
     ·rw [if_neg c8] at H
      exact absurd H (by simp)
    ·rw [if_neg c7] at H
     exact absurd H (by simp)
   ·rw [if_neg c6] at H
    have c6b0 : decide (x15_1 < (l0_0.length : Int)) = false := decide_eq_false c6
    clear c6
    obtain rfl := Option.some.inj H
    go_wp2
    go_ret
    exact ⟨by first | rfl | (simp [errW_none, errW_some] <;> rfl) | (simp [*, errW_none, errW_some] <;> rfl), by exact bB⟩


/-! ### impl_net_forceAll: function 87 -/
def impl_net_forceAll.l0 : Nat → Int → Bool → List Int → Option (Int)
 | 0, _, _, _ => none
 | k + 1, x1, x2, x629000 => (impl_net_forced.f k x629000 x1 x2).bind fun t629 => (if t629 = x1 then (some x1) else (impl_net_forceAll.l0 k t629 x2 x629000))
def impl_net_forceAll.f (k : Nat) (l0_0 : List Int) (a1 : Int) (a2 : Bool) : Option (Int) := impl_net_forceAll.l0 k a1 a2 l0_0
theorem impl_net_forceAll.mono_l : ∀ k, (∀ y0 y1 y2, LeO (impl_net_forceAll.l0 k y0 y1 y2) (impl_net_forceAll.l0 (k + 1) y0 y1 y2))
 | 0 => fun _ _ _ r h => by simp [impl_net_forceAll.l0] at h
 | k + 1 => by
  have ih0 := impl_net_forceAll.mono_l k
  ·intro y0 y1 y2
   unfold impl_net_forceAll.l0
   repeat' first
   | (with_reducible exact ih0 _ _ _)
   | (with_reducible exact impl_net_forced.mono _ _ _ _)
   | (with_reducible exact LeO.refl _)
   | (with_reducible exact LeO.none _)
   | (with_reducible refine LeO.ite ?_ ?_)
   | (with_reducible refine LeO.bind ?_ (fun _ => ?_))
   | exact ih0 _ _ _
   | exact impl_net_forced.mono _ _ _ _
   | exact LeO.none _
   | refine LeO.ite ?_ ?_
   | refine LeO.bind ?_ (fun _ => ?_)
theorem impl_net_forceAll.mono : ∀ a0 a1 a2 k, LeO (impl_net_forceAll.f k a0 a1 a2) (impl_net_forceAll.f (k + 1) a0 a1 a2) := by
 intro a0 a1 a2 k
 have ih0 := impl_net_forceAll.mono_l k
 unfold impl_net_forceAll.f
 repeat' first
   | (with_reducible exact ih0 _ _ _)
   | (with_reducible exact impl_net_forced.mono _ _ _ _)
   | (with_reducible exact LeO.refl _)
   | (with_reducible exact LeO.none _)
   | (with_reducible refine LeO.ite ?_ ?_)
   | (with_reducible refine LeO.bind ?_ (fun _ => ?_))
   | exact ih0 _ _ _
   | exact impl_net_forced.mono _ _ _ _
   | exact LeO.none _
   | refine LeO.ite ?_ ?_
   | refine LeO.bind ?_ (fun _ => ?_)
set_option maxHeartbeats 8000000 in
set_option maxRecDepth 100000 in
theorem impl_net_forceAll.calls (k : Nat) (A0_0 : Option Addr) (c0_0 : Nat) (l0_0 : List Int) (a1 : Int) (a2 : Bool) (r : Int) (w : World) (hr0_0 : Kd.C (Kd.int .i64) w A0_0 l0_0.length l0_0) (hc0_0 : l0_0.length ≤ c0_0) (h : impl_net_forceAll.f k l0_0 a1 a2 = some r) :
  Calls Try.prog 87 #[.agg #[.slice A0_0 l0_0.length c0_0], .int .i64 a1, .bool a2] w fun e w' => e = .returned (.int .i64 r) ∧ Below w.heap.size w w' := by
 have hu80 := Try.underlying80
 have HR0_0 := Aside0.mk hr0_0
 have HC0_0 := Aside0.mk hc0_0
 clear hr0_0 hc0_0
 have HB := Aside0.mk (Below.refl w.heap.size w)
 have H : (impl_net_forceAll.l0 k a1 a2 l0_0) = some r := h
 clear h
 have H' := Aside0.mk H
 clear H
 go_enter Try.func87, Try.ntmps87
 go_wp2_with (first | ((with_reducible refine gate_dst (N := 3) rfl ?_); refine box_event ?hg (N := 3) ?hd (cs := #[.slice A0_0 l0_0.length c0_0]) (t := 80) ?hr ?_; (case hd => rfl); (case hg => rfl); (case hr => first | (go_simp; done) | (go_simp; rfl)); intro gb628 hg w4 hbox hb; have n0_ := Aside0.mk (below_step (by exact bB) hb); have n1_ := Aside0.mk (hbox); have n2_ := Aside0.mk ((by rw [hg]; exact (below_size (by exact bB)) : w.heap.size ≤ gb628)); have n3_ := Aside0.mk ((by rw [hg]; exact (below_size (by exact bB)) : w.heap.size ≤ gb628)); clear HB; have HB := n0_; have BK628 := n1_; have GW628 := n2_; have GE628 := n3_; clear n0_ n1_ n2_ n3_; clear hb hbox hg))
 go_loopg [1] k (fun kq v1 w' => ∃ (x1_1 : Int), v1 = .int .i64 x1_1 ∧ Aside0 (impl_net_forceAll.l0 kq x1_1 a2 l0_0 = some r) ∧ Aside0 (kq ≤ k) ∧ Aside0 (w'.heap[gb628]? = some (.cells #[(.slice A0_0 l0_0.length c0_0)] 80 (0, 0))) ∧ Aside0 (Below w.heap.size w w'))
 case atStart => exact ⟨(a1), (by first | rfl | (simp; done) | (simp [*]; done)), H', ⟨Nat.le_refl _⟩, ⟨by exact kP BK628.out⟩, ⟨by exact bB⟩⟩
 case round =>
  clear H'
  try clear p2
  obtain ⟨x1_1, rfl, HA, HK1, BK628, HB⟩ := hrel
  cases gk with
  | zero => exact absurd HA.out (by simp [impl_net_forceAll.l0])
  | succ k1 =>
   have H := HA.out
   clear HA
   simp only [impl_net_forceAll.l0] at H
   replace H := Option.bind_eq_some_iff.mp H
   obtain ⟨t629, A50, H⟩ := H
   replace H : (if t629 = x1_1 then (some x1_1) else (impl_net_forceAll.l0 k1 t629 a2 l0_0)) = some r := H
   have A5 := Aside0.mk A50
   clear A50
   by_cases c6 : t629 = x1_1
   ·rw [if_pos c6] at H
    have c6b0 : (t629 == x1_1) = true := beq_iff_eq.mpr c6
    have c6b1 : (t629 != x1_1) = false := bne_eq_false_iff_eq.mpr c6
    clear c6
    obtain rfl := Option.some.inj H
    have hcz7_0 : wr.cell? ⟨gb628, 0, none⟩ = some (.slice A0_0 l0_0.length c0_0) := (blk_cell BK628.out 0).trans rfl
    have hfz7_0 := blk_frozen BK628.out 0
    go_wp2_with (first | ((with_reducible refine gate_callee (f := 142) rfl ?_); refine goesL_ (some 11) rfl rfl Try.func142 (by kernel_rfl) rfl #[.agg #[.slice A0_0 l0_0.length c0_0], .int .i64 x1_1, .bool a2] rfl (by (try simp only [List.map_toArray, List.map_cons, List.map_nil]); first | done | rfl | (simp only [List.length_drop, List.length_take]; rfl)) ?_; (with_reducible refine (impl_net_forced.calls k1 _ _ l0_0 x1_1 a2 t629 _ ?side1 ?side2 A5.out).mono ?_); (case side1 => exact cP (Kd.C_below HR0_0.out HB.out)); (case side2 => exact HC0_0.out); rintro e w8 ⟨rfl, hb⟩; refine ⟨_, rfl, ?_⟩; have n0_ := Aside0.mk (blk_below (g := gb628) (o := .cells #[.slice A0_0 l0_0.length c0_0] 80 (0, 0)) (by exact kP BK628.out) hb); have n1_ := Aside0.mk (below_step (by exact bB) hb); clear BK628; clear HB; have BK628 := n0_; have HB := n1_; clear n0_ n1_; (try clear hb); (try clear hb2); (try clear hk); (try clear hi)))
    go_ret
    exact ⟨by first | rfl | (simp [errW_none, errW_some] <;> rfl) | (simp [*, errW_none, errW_some] <;> rfl), by exact bB⟩
   ·rw [if_neg c6] at H
    have c6b0 : (t629 == x1_1) = false := beq_eq_false_iff_ne.mpr c6
    have c6b1 : (t629 != x1_1) = true := bne_iff_ne.mpr c6
    have H' := Aside0.mk H
    clear H
    have hcz9_0 : wr.cell? ⟨gb628, 0, none⟩ = some (.slice A0_0 l0_0.length c0_0) := (blk_cell BK628.out 0).trans rfl
    have hfz9_0 := blk_frozen BK628.out 0
    go_wp2_with (first | ((with_reducible refine gate_callee (f := 142) rfl ?_); refine goesL_ (some 11) rfl rfl Try.func142 (by kernel_rfl) rfl #[.agg #[.slice A0_0 l0_0.length c0_0], .int .i64 x1_1, .bool a2] rfl (by (try simp only [List.map_toArray, List.map_cons, List.map_nil]); first | done | rfl | (simp only [List.length_drop, List.length_take]; rfl)) ?_; (with_reducible refine (impl_net_forced.calls k1 _ _ l0_0 x1_1 a2 t629 _ ?side1 ?side2 A5.out).mono ?_); (case side1 => exact cP (Kd.C_below HR0_0.out HB.out)); (case side2 => exact HC0_0.out); rintro e w10 ⟨rfl, hb⟩; refine ⟨_, rfl, ?_⟩; have n0_ := Aside0.mk (blk_below (g := gb628) (o := .cells #[.slice A0_0 l0_0.length c0_0] 80 (0, 0)) (by exact kP BK628.out) hb); have n1_ := Aside0.mk (below_step (by exact bB) hb); clear BK628; clear HB; have BK628 := n0_; have HB := n1_; clear n0_ n1_; (try clear hb); (try clear hb2); (try clear hk); (try clear hi)))
    go_roundg k1
    case measure => have := HK1.out; omega
    case rel => exact ⟨(t629), (by first | rfl | (simp; done) | (simp [*]; done)), H', ⟨by have := HK1.out; omega⟩, ⟨by exact kP BK628.out⟩, ⟨by exact bB⟩⟩


end Go.Proofs.Ytmokkhfmbenleaa.QClosures
