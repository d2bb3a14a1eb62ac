import Derived.Test.YtaddgielnfhhpaaQBurningNumber0
import Derived.Test.YtaddgielnfhhpaaQBurningNumber1
namespace Go.Proofs.Ytaddgielnfhhpaa.QBurningNumber
open Go.RowKit Go.Proofs.YtaddgielnfhhpaaW.PrintWords Go.Proofs.YtaddgielnfhhpaaW.PrintLast Go.Proofs.YtaddgielnfhhpaaW.PrintMore
attribute [local go_sem] max2_int min2_int max_two min_two max_three min_three max_four min_four   -- for this text's walks alone
set_option linter.unusedVariables false
set_option linter.unusedSimpArgs false
/-! ### spec_l2Before: function 60 -/
def spec_l2Before.f (a0_0 : Int) (a0_1 : Int) (a1_0 : Int) (a1_1 : Int) : Option (Bool) := if a0_0 < a1_0 then (some true) else (if a0_0 = a1_0 then (some (decide (a0_1 < a1_1))) else (some false))
set_option maxHeartbeats 8000000 in
set_option maxRecDepth 100000 in
theorem spec_l2Before.calls (a0_0 : Int) (a0_1 : Int) (a1_0 : Int) (a1_1 : Int) (r : Bool) (w : World) (h : spec_l2Before.f a0_0 a0_1 a1_0 a1_1 = some r) :
  Calls Try.prog 60 #[.agg #[.int .i64 a0_0, .int .i64 a0_1], .agg #[.int .i64 a1_0, .int .i64 a1_1]] w fun e w' => e = .returned (.bool r) ∧ Below w.heap.size w w' := by
 have hu80 := Try.underlying80
 have HB := Aside0.mk (Below.refl w.heap.size w)
 have H : (if a0_0 < a1_0 then (some true) else (if a0_0 = a1_0 then (some (decide (a0_1 < a1_1))) else (some false))) = some r := h
 clear h
 by_cases c3 : a0_0 < a1_0
 ·rw [if_pos c3] at H
  have c3b0 : decide (a0_0 < a1_0) = true := decide_eq_true c3
  clear c3
  obtain rfl := Option.some.inj H
  go_enter Try.func60, Try.ntmps60
  go_wp2_with (first | ((with_reducible refine gate_dst (N := 2) rfl ?_);refine box_event ?hg (N := 2) ?hd (cs := #[.int .i64 a0_0, .int .i64 a0_1]) (t := 80) ?hr ?_;(case hd => rfl);(case hg => rfl);(case hr => first | (go_simp;done) | (go_simp;rfl));intro gb126 hg w4 hbox hb;have n0_ := Aside0.mk (below_step (by exact bB) hb);have n1_ := Aside0.mk (hbox);have n2_ := Aside0.mk ((by rw [hg];exact (below_size (by exact bB)) : w.heap.size ≤ gb126));have n3_ := Aside0.mk ((by rw [hg];exact (below_size (by exact bB)) : w.heap.size ≤ gb126));clear HB;have HB := n0_;have BK126 := n1_;have GW126 := n2_;have GE126 := n3_;clear n0_ n1_ n2_ n3_;clear hb hbox hg) | ((with_reducible refine gate_dst (N := 3) rfl ?_);refine box_event ?hg (N := 3) ?hd (cs := #[.int .i64 a1_0, .int .i64 a1_1]) (t := 80) ?hr ?_;(case hd => rfl);(case hg => rfl);(case hr => first | (go_simp;done) | (go_simp;rfl));intro gb127 hg w5 hbox hb;have n0_ := Aside0.mk (blk_below (g := gb126) (o := .cells #[.int .i64 a0_0, .int .i64 a0_1] 80 (0, 0)) (by exact kP BK126.out) hb);have n1_ := Aside0.mk (below_step (by exact bB) hb);have n2_ := Aside0.mk (hbox);have n3_ := Aside0.mk ((by rw [hg];exact (below_size (by exact bB)) : w.heap.size ≤ gb127));have n4_ := Aside0.mk ((by rw [hg];exact (below_size (by exact bB)) : w.heap.size ≤ gb127));have n5_ := Aside0.mk ((by rw [hg];exact Nat.ne_of_lt (blk_lt (g := gb126) (o := .cells #[.int .i64 a0_0, .int .i64 a0_1] 80 (0, 0)) (by exact kP BK126.out)) : gb126 ≠ gb127));have n6_ := Aside0.mk ((by rw [hg];exact Nat.ne_of_gt (blk_lt (g := gb126) (o := .cells #[.int .i64 a0_0, .int .i64 a0_1] 80 (0, 0)) (by exact kP BK126.out)) : gb127 ≠ gb126));clear BK126;clear HB;have BK126 := n0_;have HB := n1_;have BK127 := n2_;have GW127 := n3_;have GE127 := n4_;have NB126_127 := n5_;have NB127_126 := n6_;clear n0_ n1_ n2_ n3_ n4_ n5_ n6_;clear hb hbox hg;have hnb6 := NB126_127.out;have hnc6 := NB127_126.out;have hcz7_0 : w5.cell? ⟨gb126, 0, none⟩ = some (.int .i64 a0_0) := (blk_cell BK126.out 0).trans rfl;have hcz7_1 : w5.cell? ⟨gb126, 1, none⟩ = some (.int .i64 a0_1) := (blk_cell BK126.out 1).trans rfl;have hfz7_0 := blk_frozen BK126.out 0;have hfz7_1 := blk_frozen BK126.out 1;have hcz8_0 : w5.cell? ⟨gb127, 0, none⟩ = some (.int .i64 a1_0) := (blk_cell BK127.out 0).trans rfl;have hcz8_1 : w5.cell? ⟨gb127, 1, none⟩ = some (.int .i64 a1_1) := (blk_cell BK127.out 1).trans rfl;have hfz8_0 := blk_frozen BK127.out 0;have hfz8_1 := blk_frozen BK127.out 1))
  go_ret
  exact ⟨by first | rfl | (simp [errW_none, errW_some] <;> rfl) | (simp [*, errW_none, errW_some] <;> rfl), by exact bB⟩
 ·rw [if_neg c3] at H
  have c3b0 : decide (a0_0 < a1_0) = false := decide_eq_false c3
  clear c3
  by_cases c9 : a0_0 = a1_0
  ·rw [if_pos c9] at H
   have c9b0 : (a0_0 == a1_0) = true := beq_iff_eq.mpr c9
   have c9b1 : (a0_0 != a1_0) = false := bne_eq_false_iff_eq.mpr c9
   clear c9
   obtain rfl := Option.some.inj H
   go_enter Try.func60, Try.ntmps60
   go_wp2_with (first | ((with_reducible refine gate_dst (N := 2) rfl ?_);refine box_event ?hg (N := 2) ?hd (cs := #[.int .i64 a0_0, .int .i64 a0_1]) (t := 80) ?hr ?_;(case hd => rfl);(case hg => rfl);(case hr => first | (go_simp;done) | (go_simp;rfl));intro gb126 hg w10 hbox hb;have n0_ := Aside0.mk (below_step (by exact bB) hb);have n1_ := Aside0.mk (hbox);have n2_ := Aside0.mk ((by rw [hg];exact (below_size (by exact bB)) : w.heap.size ≤ gb126));have n3_ := Aside0.mk ((by rw [hg];exact (below_size (by exact bB)) : w.heap.size ≤ gb126));clear HB;have HB := n0_;have BK126 := n1_;have GW126 := n2_;have GE126 := n3_;clear n0_ n1_ n2_ n3_;clear hb hbox hg) | ((with_reducible refine gate_dst (N := 3) rfl ?_);refine box_event ?hg (N := 3) ?hd (cs := #[.int .i64 a1_0, .int .i64 a1_1]) (t := 80) ?hr ?_;(case hd => rfl);(case hg => rfl);(case hr => first | (go_simp;done) | (go_simp;rfl));intro gb127 hg w11 hbox hb;have n0_ := Aside0.mk (blk_below (g := gb126) (o := .cells #[.int .i64 a0_0, .int .i64 a0_1] 80 (0, 0)) (by exact kP BK126.out) hb);have n1_ := Aside0.mk (below_step (by exact bB) hb);have n2_ := Aside0.mk (hbox);have n3_ := Aside0.mk ((by rw [hg];exact (below_size (by exact bB)) : w.heap.size ≤ gb127));have n4_ := Aside0.mk ((by rw [hg];exact (below_size (by exact bB)) : w.heap.size ≤ gb127));have n5_ := Aside0.mk ((by rw [hg];exact Nat.ne_of_lt (blk_lt (g := gb126) (o := .cells #[.int .i64 a0_0, .int .i64 a0_1] 80 (0, 0)) (by exact kP BK126.out)) : gb126 ≠ gb127));have n6_ := Aside0.mk ((by rw [hg];exact Nat.ne_of_gt (blk_lt (g := gb126) (o := .cells #[.int .i64 a0_0, .int .i64 a0_1] 80 (0, 0)) (by exact kP BK126.out)) : gb127 ≠ gb126));clear BK126;clear HB;have BK126 := n0_;have HB := n1_;have BK127 := n2_;have GW127 := n3_;have GE127 := n4_;have NB126_127 := n5_;have NB127_126 := n6_;clear n0_ n1_ n2_ n3_ n4_ n5_ n6_;clear hb hbox hg;have hnb12 := NB126_127.out;have hnc12 := NB127_126.out;have hcz13_0 : w11.cell? ⟨gb126, 0, none⟩ = some (.int .i64 a0_0) := (blk_cell BK126.out 0).trans rfl;have hcz13_1 : w11.cell? ⟨gb126, 1, none⟩ = some (.int .i64 a0_1) := (blk_cell BK126.out 1).trans rfl;have hfz13_0 := blk_frozen BK126.out 0;have hfz13_1 := blk_frozen BK126.out 1;have hcz14_0 : w11.cell? ⟨gb127, 0, none⟩ = some (.int .i64 a1_0) := (blk_cell BK127.out 0).trans rfl;have hcz14_1 : w11.cell? ⟨gb127, 1, none⟩ = some (.int .i64 a1_1) := (blk_cell BK127.out 1).trans rfl;have hfz14_0 := blk_frozen BK127.out 0;have hfz14_1 := blk_frozen BK127.out 1))
   go_ret
   exact ⟨by first | rfl | (simp [errW_none, errW_some] <;> rfl) | (simp [*, errW_none, errW_some] <;> rfl), by exact bB⟩
  ·rw [if_neg c9] at H
   have c9b0 : (a0_0 == a1_0) = false := beq_eq_false_iff_ne.mpr c9
   have c9b1 : (a0_0 != a1_0) = true := bne_iff_ne.mpr c9
   obtain rfl := Option.some.inj H
   go_enter Try.func60, Try.ntmps60
   go_wp2_with (first | ((with_reducible refine gate_dst (N := 2) rfl ?_);refine box_event ?hg (N := 2) ?hd (cs := #[.int .i64 a0_0, .int .i64 a0_1]) (t := 80) ?hr ?_;(case hd => rfl);(case hg => rfl);(case hr => first | (go_simp;done) | (go_simp;rfl));intro gb126 hg w15 hbox hb;have n0_ := Aside0.mk (below_step (by exact bB) hb);have n1_ := Aside0.mk (hbox);have n2_ := Aside0.mk ((by rw [hg];exact (below_size (by exact bB)) : w.heap.size ≤ gb126));have n3_ := Aside0.mk ((by rw [hg];exact (below_size (by exact bB)) : w.heap.size ≤ gb126));clear HB;have HB := n0_;have BK126 := n1_;have GW126 := n2_;have GE126 := n3_;clear n0_ n1_ n2_ n3_;clear hb hbox hg) | ((with_reducible refine gate_dst (N := 3) rfl ?_);refine box_event ?hg (N := 3) ?hd (cs := #[.int .i64 a1_0, .int .i64 a1_1]) (t := 80) ?hr ?_;(case hd => rfl);(case hg => rfl);(case hr => first | (go_simp;done) | (go_simp;rfl));intro gb127 hg w16 hbox hb;have n0_ := Aside0.mk (blk_below (g := gb126) (o := .cells #[.int .i64 a0_0, .int .i64 a0_1] 80 (0, 0)) (by exact kP BK126.out) hb);have n1_ := Aside0.mk (below_step (by exact bB) hb);have n2_ := Aside0.mk (hbox);have n3_ := Aside0.mk ((by rw [hg];exact (below_size (by exact bB)) : w.heap.size ≤ gb127));have n4_ := Aside0.mk ((by rw [hg];exact (below_size (by exact bB)) : w.heap.size ≤ gb127));have n5_ := Aside0.mk ((by rw [hg];exact Nat.ne_of_lt (blk_lt (g := gb126) (o := .cells #[.int .i64 a0_0, .int .i64 a0_1] 80 (0, 0)) (by exact kP BK126.out)) : gb126 ≠ gb127));have n6_ := Aside0.mk ((by rw [hg];exact Nat.ne_of_gt (blk_lt (g := gb126) (o := .cells #[.int .i64 a0_0, .int .i64 a0_1] 80 (0, 0)) (by exact kP BK126.out)) : gb127 ≠ gb126));clear BK126;clear HB;have BK126 := n0_;have HB := n1_;have BK127 := n2_;have GW127 := n3_;have GE127 := n4_;have NB126_127 := n5_;have NB127_126 := n6_;clear n0_ n1_ n2_ n3_ n4_ n5_ n6_;clear hb hbox hg;have hnb17 := NB126_127.out;have hnc17 := NB127_126.out;have hcz18_0 : w16.cell? ⟨gb126, 0, none⟩ = some (.int .i64 a0_0) := (blk_cell BK126.out 0).trans rfl;have hcz18_1 : w16.cell? ⟨gb126, 1, none⟩ = some (.int .i64 a0_1) := (blk_cell BK126.out 1).trans rfl;have hfz18_0 := blk_frozen BK126.out 0;have hfz18_1 := blk_frozen BK126.out 1;have hcz19_0 : w16.cell? ⟨gb127, 0, none⟩ = some (.int .i64 a1_0) := (blk_cell BK127.out 0).trans rfl;have hcz19_1 : w16.cell? ⟨gb127, 1, none⟩ = some (.int .i64 a1_1) := (blk_cell BK127.out 1).trans rfl;have hfz19_0 := blk_frozen BK127.out 0;have hfz19_1 := blk_frozen BK127.out 1))
   go_ret
   exact ⟨by first | rfl | (simp [errW_none, errW_some] <;> rfl) | (simp [*, errW_none, errW_some] <;> rfl), by exact bB⟩


/-! ### spec_l2Good: by hand -/
theorem l2Before_eq (a b c d : Int) : spec_l2Before.f a b c d = some (decide (a < c ∨ a = c ∧ b < d)) := by
 unfold spec_l2Before.f
 by_cases h : a < c
 ·simp [h]
 ·by_cases h2 : a = c
  ·simp [h2]
  ·simp [h, h2]
theorem l1In_same (a b c : Int) (r : Bool) (w : World) (h : spec_l1In.f a b c = some r) :
  Calls Try.prog 34 #[.int .i64 a, .int .i64 b, .int .i64 c] w fun e w' => e = .returned (.bool r) ∧ w' = w := by
 have H := Aside0.mk h
 clear h
 by_cases c4 : a ≥ b
 ·have hr : decide (a ≤ c) = r := by have := H.out;simpa [spec_l1In.f, c4] using this
  subst hr
  have c4b0 : decide (b ≤ a) = true := decide_eq_true c4
  clear c4 H
  go_enter Try.func34, Try.ntmps34
  go_wp2
  go_ret
  exact ⟨rfl, rfl⟩
 ·have hr : false = r := by have := H.out;simpa [spec_l1In.f, c4] using this
  subst hr
  have c4b0 : decide (b ≤ a) = false := decide_eq_false c4
  clear c4 H
  go_enter Try.func34, Try.ntmps34
  go_wp2
  go_ret
  exact ⟨rfl, rfl⟩
theorem l1In_eq (a b c : Int) : spec_l1In.f a b c = some (decide (b ≤ a ∧ a ≤ c)) := by
 unfold spec_l1In.f
 by_cases h : a ≥ b
 ·rw [if_pos h];simp;omega
 ·rw [if_neg h];simp;omega
theorem l1In_yes {a b c : Int} (h : b ≤ a ∧ a ≤ c) (w : World) : Calls Try.prog 34 #[.int .i64 a, .int .i64 b, .int .i64 c] w fun e w' => e = .returned (.bool true) ∧ w' = w := l1In_same a b c true w (by rw [l1In_eq]; simp [h])
theorem l1In_no {a b c : Int} (h : ¬ (b ≤ a ∧ a ≤ c)) (w : World) : Calls Try.prog 34 #[.int .i64 a, .int .i64 b, .int .i64 c] w fun e w' => e = .returned (.bool false) ∧ w' = w := l1In_same a b c false w (by rw [l1In_eq]; simp; omega)
def spec_l2Good.f (a0_0 : Int) (l0_1 : List S80) : Option Bool := some (decide (0 ≤ a0_0 ∧ a0_0 ≤ 8) && goodL a0_0 none l0_1)
set_option maxHeartbeats 800000 in
set_option maxRecDepth 100000 in
theorem spec_l2Good.calls (a0_0 : Int) (A0_1 : Option Addr) (c0_1 : Nat) (l0_1 : List (S80)) (r : Bool) (w : World) (hr0_1 : Kd.C k80 w A0_1 l0_1.length l0_1) (hc0_1 : l0_1.length ≤ c0_1) (h : spec_l2Good.f a0_0 l0_1 = some r) :
  Calls Try.prog 33 #[.agg #[.int .i64 a0_0, .slice A0_1 l0_1.length c0_1]] w fun e w' => e = .returned (.bool r) ∧ Below w.heap.size w w' := by
 have HR := Aside0.mk hr0_1
 have HC := Aside0.mk hc0_1
 have H := Aside0.mk (Option.some.inj h)
 clear hr0_1 hc0_1 h
 go_enter Try.func33, Try.ntmps33
 go_wp2
 go_loopw [3] (fun v wr => ∃ x : Int, v = .int .i64 x ∧ Aside0 (0 ≤ x ∧ x ≤ l0_1.length) ∧ Aside0 ((decide (0 ≤ a0_0 ∧ a0_0 ≤ 8) && goodL a0_0 (prevAt l0_1 x.toNat) (l0_1.drop x.toNat)) = r) ∧ Aside0 (wr.heap[w.heap.size]? = some (.cells #[.int .i64 a0_0, .slice A0_1 l0_1.length c0_1] 29 (0, 0))) ∧ Aside0 (Below w.heap.size w wr)) (fun v _ => l0_1.length - (intOf v).toNat)
 case atStart => exact ⟨0, rfl, ⟨by omega, by omega⟩, ⟨by simpa [prevAt] using H.out⟩, ⟨blk_new w _⟩, ⟨below_alloc (Below.refl _ _) _⟩⟩
 case round =>
  clear H
  obtain ⟨x, rfl, HX, HG, BK, HB⟩ := hrel
  have hcz0 : wr.cell? ⟨w.heap.size, 0, none⟩ = some (.int .i64 a0_0) := (blk_cell BK.out 0).trans rfl
  have hcz1 : wr.cell? ⟨w.heap.size, 1, none⟩ = some (.slice A0_1 l0_1.length c0_1) := (blk_cell BK.out 1).trans rfl
  by_cases hlt : x < (l0_1.length : Int)
  ·have hlt' : decide (x < (l0_1.length : Int)) = true := decide_eq_true hlt
   have p0 : 0 ≤ x := HX.out.1
   obtain ⟨ad, e, hx0, hx1⟩ := at_T80 HR.out x p0 hlt
   cases e
   replace hx0 := (HB.out.cell (World.block_lt_of_cell? w _ hx0)).trans hx0
   replace hx1 := (HB.out.cell (World.block_lt_of_cell? w _ hx1)).trans hx1
   replace p0 := eq_true p0
   have hlt'' := eq_true hlt
   have HL := Aside0.mk hlt
   have hsz : w.heap.size < wr.heap.size := blk_lt BK.out
   clear hlt
   obtain ⟨n1, hn1⟩ : ∃ n1 : Int, n1 = wrap64 (a0_0 - 1) := ⟨_, rfl⟩
   have hn1w : IntKind.i64.wrap (a0_0 - 1) = n1 := (i64_w _).trans hn1.symm
   have HN := Aside0.mk hn1
   clear hn1
   go_wp2
   by_cases t0 : 0 ≤ (rd_T80 l0_1 x).f0 ∧ (rd_T80 l0_1 x).f0 ≤ n1
   ·have K0 := Aside0.mk (l1In_yes t0)
    by_cases t1 : 0 ≤ (rd_T80 l0_1 x).f1 ∧ (rd_T80 l0_1 x).f1 ≤ n1
    ·have K1 := Aside0.mk (l1In_yes t1)
     by_cases t2 : (rd_T80 l0_1 x).f1 ≤ (rd_T80 l0_1 x).f0
     ·have d2 : decide ((rd_T80 l0_1 x).f1 ≤ (rd_T80 l0_1 x).f0) = true := decide_eq_true t2
      have hr : false = r := by
       rw [← HG.out, step_lt HX.out.1 HL.out]
       by_cases hn : 0 ≤ a0_0 ∧ a0_0 ≤ 8
       ·have : edgeOk a0_0 (rd_T80 l0_1 x) = false := by
         have h1 := HN.out;rw [w64 (by omega) (by omega)] at h1
         simp only [edgeOk, decide_eq_false_iff_not];omega
        simp [this]
       ·simp [hn]
      subst hr
      clear t0 t1 t2
      go_quiet (first | (go_at_call 34;with_reducible exact Calls.quiet_of_same (K0.out _)) | (go_at_call 34;with_reducible exact Calls.quiet_of_same (K1.out _)))
      go_wp2
      go_ret
      exact ⟨rfl, by repeat (first | exact HB.out | apply below_alloc | apply pw_below_drewN | apply below_drew)⟩
     have d2 : decide ((rd_T80 l0_1 x).f1 ≤ (rd_T80 l0_1 x).f0) = false := decide_eq_false t2
     have ho : a0_0 ≤ 8 → 0 ≤ a0_0 → edgeOk a0_0 (rd_T80 l0_1 x) = true := by
      intro h8 h0
      have h1 := HN.out;rw [w64 (by omega) (by omega)] at h1
      simp only [edgeOk, decide_eq_true_eq];omega
     have HO := Aside0.mk ho
     have HNX : Aside0 (x + 1 ≤ l0_1.length ∧ x + 1 ≤ 9223372036854775807) := ⟨by have := HL.out;have := HR.out.2.1;omega⟩
     have HW1 : Aside0 (wrap64 (x + 1) = x + 1) := ⟨by have := HNX.out;have := HX.out;exact w64 (by omega) (by omega)⟩
     clear ho
     by_cases t3 : 0 < x
     ·have d3 : decide (0 < x) = true := decide_eq_true t3
      have hj : wrap64 (x - 1) = x - 1 := by have h1 := HL.out;have h2 := HX.out;have h3 := HR.out.2.1;exact w64 (by omega) (by omega)
      obtain ⟨ji, hji⟩ : ∃ j : Int, j = x - 1 := ⟨_, rfl⟩
      have hjw : IntKind.i64.wrap (x - 1) = ji := ((i64_w _).trans hj).trans hji.symm
      have p1 : 0 ≤ ji := by omega
      have q1 : ji < (l0_1.length : Int) := by have := HL.out;omega
      have HJ := Aside0.mk hji
      clear hj hji
      obtain ⟨ad', e', hy0, hy1⟩ := at_T80 HR.out ji p1 q1
      cases e'
      replace hy0 := pw_cell_below (below_alloc (Below.refl _ _) (.cells #[.int .i64 (rd_T80 l0_1 x).f0, .int .i64 (rd_T80 l0_1 x).f1] 80)) ((HB.out.cell (World.block_lt_of_cell? w _ hy0)).trans hy0)
      replace hy1 := pw_cell_below (below_alloc (Below.refl _ _) (.cells #[.int .i64 (rd_T80 l0_1 x).f0, .int .i64 (rd_T80 l0_1 x).f1] 80)) ((HB.out.cell (World.block_lt_of_cell? w _ hy1)).trans hy1)
      replace p1 := eq_true p1
      replace q1 := eq_true q1
      have hp : prevAt l0_1 x.toNat = some (rd_T80 l0_1 ji) := by unfold prevAt;rw [if_neg (by omega), HJ.out];congr 2;omega
      have HP := Aside0.mk hp
      clear hp
      have hb : ∀ c, spec_l2Before.f (rd_T80 l0_1 ji).f0 (rd_T80 l0_1 ji).f1 (rd_T80 l0_1 x).f0 (rd_T80 l0_1 x).f1 = some c ↔ c = edgeLt (rd_T80 l0_1 ji) (rd_T80 l0_1 x) := by
       intro c;rw [l2Before_eq];simp [edgeLt];exact eq_comm
      have HBF := Aside0.mk hb
      clear hb
      obtain ⟨lt, hlt⟩ : ∃ b, b = edgeLt (rd_T80 l0_1 ji) (rd_T80 l0_1 x) := ⟨_, rfl⟩
      have HLT := Aside0.mk hlt
      have KB := Aside0.mk ((HBF.out lt).2 hlt)
      clear hlt
      clear t0 t1 t2 t3
      refine still_tail_drew 34 (by kernel_rfl) (by kernel_rfl) ?_
      simp only [List.take_succ_cons, List.take_zero, List.drop_succ_cons, List.drop_zero]
      have hu72 := Try.underlying80
      repeat still_step
      still_call (K0.out _)
      repeat still_step
      still_call (K1.out _)
      repeat still_step
      refine wpStill_nil ?_
      generalize hw2 : (World.drew _) = w2
      have HB2 : Aside0 (Below w.heap.size w w2) := ⟨by rw [← hw2];repeat (first | exact HB.out | apply below_alloc | apply pw_below_drewN | apply below_drew)⟩
      have BK2 : Aside0 (w2.heap[w.heap.size]? = some (.cells #[.int .i64 a0_0, .slice (some ad) l0_1.length c0_1] 29 (0, 0))) := ⟨by rw [← hw2];refine kP ?_;exact BK.out⟩
      clear hw2
      cases lt with
      | true =>
       have hr : Aside0 ((decide (0 ≤ a0_0 ∧ a0_0 ≤ 8) && goodL a0_0 (prevAt l0_1 (x + 1).toNat) (l0_1.drop (x + 1).toNat)) = r) := ⟨by
        rw [← HG.out, step_lt HX.out.1 HL.out, HP.out]
        by_cases hn : 0 ≤ a0_0 ∧ a0_0 ≤ 8
        ·simp [HO.out hn.2 hn.1, ← HLT.out]
        ·simp [hn]⟩
       go_wp2_with (go_at_call 60;(with_reducible refine (spec_l2Before.calls _ _ _ _ _ _ KB.out).mono ?_);rintro e w' ⟨rfl, hb⟩;have HBb := Aside0.mk hb;clear hb)
       go_roundw
       case rel => exact ⟨x + 1, by rw [HW1.out], ⟨by have := HX.out;have := HNX.out;omega⟩, hr, ⟨(HBb.out.block _ (blk_lt BK2.out)).trans BK2.out⟩, ⟨below_step HB2.out HBb.out⟩⟩
       case measure => have := HL.out;have := HX.out;rw [HW1.out];simp [intOf];omega
      | false =>
       have hr : false = r := by
        rw [← HG.out, step_lt HX.out.1 HL.out, HP.out]
        simp [← HLT.out]
       subst hr
       go_wp2_with (go_at_call 60;(with_reducible refine (spec_l2Before.calls _ _ _ _ _ _ KB.out).mono ?_);rintro e w' ⟨rfl, hb⟩;have HBb := Aside0.mk hb;clear hb)
       go_ret
       exact ⟨rfl, below_step HB2.out HBb.out⟩
     ·have d3 : decide (0 < x) = false := decide_eq_false t3
      obtain rfl : x = 0 := by have := HX.out;omega
      have hr : Aside0 ((decide (0 ≤ a0_0 ∧ a0_0 ≤ 8) && goodL a0_0 (prevAt l0_1 1) (l0_1.drop 1)) = r) := ⟨by
       rw [← HG.out, step_lt HX.out.1 HL.out]
       by_cases hn : 0 ≤ a0_0 ∧ a0_0 ≤ 8
       ·simp [HO.out hn.2 hn.1, prevAt]
       ·simp [hn]⟩
      clear t0 t1 t2 t3
      go_quiet (first | (go_at_call 34;with_reducible exact Calls.quiet_of_same (K0.out _)) | (go_at_call 34;with_reducible exact Calls.quiet_of_same (K1.out _)))
      go_wp2
      go_roundw
      case rel => exact ⟨1, rfl, ⟨by omega, by have := HL.out;omega⟩, hr, ⟨by refine kP ?_;exact BK.out⟩, ⟨by repeat (first | exact HB.out | apply below_alloc | apply pw_below_drewN | apply below_drew)⟩⟩
      case measure => have := HL.out;simp [intOf];omega
    ·have K1 := Aside0.mk (l1In_no t1)
     have hr : false = r := by
      rw [← HG.out, step_lt HX.out.1 HL.out]
      by_cases hn : 0 ≤ a0_0 ∧ a0_0 ≤ 8
      ·have : edgeOk a0_0 (rd_T80 l0_1 x) = false := by
        have h1 := HN.out;rw [w64 (by omega) (by omega)] at h1
        simp only [edgeOk, decide_eq_false_iff_not];omega
       simp [this]
      ·simp [hn]
     subst hr
     clear t0 t1
     go_quiet (first | (go_at_call 34;with_reducible exact Calls.quiet_of_same (K0.out _)) | (go_at_call 34;with_reducible exact Calls.quiet_of_same (K1.out _)))
     go_wp2
     go_ret
     exact ⟨rfl, by repeat (first | exact HB.out | apply below_alloc | apply pw_below_drewN | apply below_drew)⟩
   ·have K0 := Aside0.mk (l1In_no t0)
    have hr : false = r := by
     rw [← HG.out, step_lt HX.out.1 HL.out]
     by_cases hn : 0 ≤ a0_0 ∧ a0_0 ≤ 8
     ·have : edgeOk a0_0 (rd_T80 l0_1 x) = false := by
       have h1 := HN.out;rw [w64 (by omega) (by omega)] at h1
       simp only [edgeOk, decide_eq_false_iff_not];omega
      simp [this]
     ·simp [hn]
    subst hr
    clear t0
    go_quiet (first | (go_at_call 34;with_reducible exact Calls.quiet_of_same (K0.out _)))
    go_wp2
    go_ret
    exact ⟨rfl, by repeat (first | exact HB.out | apply below_alloc | apply pw_below_drewN | apply below_drew)⟩
  ·have hlt' : decide (x < (l0_1.length : Int)) = false := decide_eq_false hlt
   by_cases hn : 0 ≤ a0_0 ∧ a0_0 ≤ 8
   ·obtain rfl : true = r := by have := HG.out;rw [List.drop_eq_nil_of_le (by omega)] at this;simpa [goodL, hn] using this
    have K0 := Aside0.mk (l1In_yes (w := wr) hn)
    clear hlt hn
    go_wp2_with (go_at_call 34;refine (K0.out).mono ?_;rintro e w' ⟨rfl, rfl⟩)
    go_ret
    exact ⟨rfl, HB.out⟩
   ·obtain rfl : false = r := by have := HG.out;rw [List.drop_eq_nil_of_le (by omega)] at this;simpa [goodL, hn] using this
    have K0 := Aside0.mk (l1In_no (w := wr) hn)
    clear hlt hn
    go_wp2_with (go_at_call 34;refine (K0.out).mono ?_;rintro e w' ⟨rfl, rfl⟩)
    go_ret
    exact ⟨rfl, HB.out⟩

end Go.Proofs.Ytaddgielnfhhpaa.QBurningNumber
