import Derived.Test.YtaddgielnfhhpaaQNullityOf0
import Derived.Test.YtaddgielnfhhpaaQNullityOf5
namespace Go.Proofs.Ytaddgielnfhhpaa.QNullityOf
open Go.RowKit Go.Proofs.YtaddgielnfhhpaaW.PrintWords Go.Proofs.YtaddgielnfhhpaaW.PrintLast Go.Proofs.YtaddgielnfhhpaaW.PrintMore
attribute [local go_sem] max2_int min2_int max_two min_two max_three min_three max_four min_four   -- for this text's walks alone
set_option linter.unusedVariables false
set_option linter.unusedSimpArgs false
/-! ### impl_allWithin: function 39 -/
def impl_allWithin.l0 : Nat → Int → Int → List Int → Int → Int → Option (Bool)
 | 0, _, _, _, _, _ => none
 | k + 1, x1, x2, x9, x10, x11 => if x11 < x10 then (if 0 ≤ x11 then (if x11 < (x9.length : Int) then ((impl_within.f (rd x9 x11) x1 x2).bind fun t164 => (if t164 = true then (impl_allWithin.l0 k x1 x2 x9 x10 (wrap64 (x11 + 1))) else (some false))) else (none)) else (none)) else (some true)
def impl_allWithin.f (k : Nat) (l0 : List Int) (a1 : Int) (a2 : Int) : Option (Bool) := impl_allWithin.l0 k a1 a2 l0 (l0.length : Int) 0
theorem impl_allWithin.mono_l : ∀ k, (∀ y0 y1 y2 y3 y4, LeO (impl_allWithin.l0 k y0 y1 y2 y3 y4) (impl_allWithin.l0 (k + 1) y0 y1 y2 y3 y4))
 | 0 => fun _ _ _ _ _ r h => by simp [impl_allWithin.l0] at h
 | k + 1 => by
  have ih0 := impl_allWithin.mono_l k
  ·intro y0 y1 y2 y3 y4
   unfold impl_allWithin.l0
   repeat' first
   | (with_reducible exact ih0 _ _ _ _ _)
   | (with_reducible exact LeO.refl _)
   | (with_reducible exact LeO.none _)
   | (with_reducible refine LeO.ite ?_ ?_)
   | (with_reducible refine LeO.bind ?_ (fun _ => ?_))
   | exact ih0 _ _ _ _ _
   | exact LeO.none _
   | refine LeO.ite ?_ ?_
   | refine LeO.bind ?_ (fun _ => ?_)
theorem impl_allWithin.mono : ∀ a0 a1 a2 k, LeO (impl_allWithin.f k a0 a1 a2) (impl_allWithin.f (k + 1) a0 a1 a2) := by
 intro a0 a1 a2 k
 have ih0 := impl_allWithin.mono_l k
 unfold impl_allWithin.f
 repeat' first
   | (with_reducible exact ih0 _ _ _ _ _)
   | (with_reducible exact LeO.refl _)
   | (with_reducible exact LeO.none _)
   | (with_reducible refine LeO.ite ?_ ?_)
   | (with_reducible refine LeO.bind ?_ (fun _ => ?_))
   | exact ih0 _ _ _ _ _
   | exact LeO.none _
   | refine LeO.ite ?_ ?_
   | refine LeO.bind ?_ (fun _ => ?_)
set_option maxHeartbeats 8000000 in
set_option maxRecDepth 100000 in
theorem impl_allWithin.calls (k : Nat) (A0 : Option Addr) (c0 : Nat) (l0 : List Int) (a1 : Int) (a2 : Int) (r : Bool) (w : World) (hr0 : Kd.C (Kd.int .i64) w A0 l0.length l0) (hc0 : l0.length ≤ c0) (h : impl_allWithin.f k l0 a1 a2 = some r) :
  Calls Try.prog 39 #[.slice A0 l0.length c0, .int .i64 a1, .int .i64 a2] w fun e w' => e = .returned (.bool r) ∧ Drawn0 w w' := by
 have HR0 := Aside0.mk hr0
 have HC0 := Aside0.mk hc0
 clear hr0 hc0
 have H : (impl_allWithin.l0 k a1 a2 l0 (l0.length : Int) 0) = some r := h
 clear h
 have H' := Aside0.mk H
 clear H
 go_enter Try.func39, Try.ntmps39
 go_wp2
 go_loopg [11] k (fun kq v11 w' => ∃ (x11_1 : Int), v11 = .int .i64 x11_1 ∧ Aside0 (impl_allWithin.l0 kq a1 a2 l0 (l0.length : Int) x11_1 = some r) ∧ Aside0 (kq ≤ k) ∧ Drawn0 w w')
 case atStart => exact ⟨(0), (by first | rfl | (simp;done) | (simp [*];done)), H', ⟨Nat.le_refl _⟩, by repeat (first | exact Drawn0.refl _ | apply Drawn0.step)⟩
 case round =>
  clear H'
  try clear p2
  try clear c3
  obtain ⟨x11_1, rfl, HA, HK1, ⟨m1, rfl⟩⟩ := hrel
  cases gk with
  | zero => exact absurd HA.out (by simp [impl_allWithin.l0])
  | succ k1 =>
   have H := HA.out
   clear HA
   simp only [impl_allWithin.l0] at H
   by_cases c4 : x11_1 < (l0.length : Int)
   ·rw [if_pos c4] at H
    have c4b0 : decide (x11_1 < (l0.length : Int)) = true := decide_eq_true c4
    clear c4
    by_cases c5 : 0 ≤ x11_1
    ·rw [if_pos c5] at H
     have c5b0 : decide (0 ≤ x11_1) = true := decide_eq_true c5
     clear c5
     by_cases c6 : x11_1 < (l0.length : Int)
     ·rw [if_pos c6] at H
      have c6b0 : decide (x11_1 < (l0.length : Int)) = true := decide_eq_true c6
      clear c6
      replace H := Option.bind_eq_some_iff.mp H
      obtain ⟨t164, A70, H⟩ := H
      replace H : (if t164 = true then (impl_allWithin.l0 k1 a1 a2 l0 (l0.length : Int) (wrap64 (x11_1 + 1))) else (some false)) = some r := H
      have A7 := Aside0.mk A70
      clear A70
      by_cases c8 : t164 = true
      ·subst c8
       have H1 : (impl_allWithin.l0 k1 a1 a2 l0 (l0.length : Int) (wrap64 (x11_1 + 1))) = some r := by rw [if_pos rfl] at H;exact H
       clear H
       have H := H1
       clear H1
       have H' := Aside0.mk H
       clear H
       have p163 : 0 ≤ (x11_1 : Int) := oA
       have q163 : x11_1 < (l0.length : Int) := oA
       obtain ⟨ad163, e163, hx163_0⟩ := Kd.at_int HR0.out x11_1 p163 q163
       cases e163
       replace p163 := eq_true p163
       replace q163 := eq_true q163
       go_wp2_with (first | ((with_reducible refine gate_callee (f := 65) rfl ?_);refine goesL_ (some 18) rfl rfl Try.func65 (by kernel_rfl) rfl #[.int .i64 (rd l0 x11_1), .int .i64 a1, .int .i64 a2] rfl mM ?_;(with_reducible refine (impl_within.calls (rd l0 x11_1) a1 a2 true _ A7.out).mono ?_);rintro e w' ⟨rfl, ⟨nd, rfl⟩⟩;refine ⟨_, rfl, ?_⟩))
       go_roundg k1
       case measure => have := HK1.out;omega
       case rel => exact ⟨(wrap64 (x11_1 + 1)), (by first | rfl | (simp;done) | (simp [*];done)), H', ⟨by have := HK1.out;omega⟩, by repeat (first | exact Drawn0.refl _ | apply Drawn0.step)⟩
      ·replace c8 := Bool.eq_false_iff.mpr c8
       subst c8
       have H1 : (some false) = some r := by rw [if_neg (show ¬ (false = true) by decide)] at H;exact H
       clear H
       have H := H1
       clear H1
       obtain rfl := Option.some.inj H
       have p163 : 0 ≤ (x11_1 : Int) := oA
       have q163 : x11_1 < (l0.length : Int) := oA
       obtain ⟨ad163, e163, hx163_0⟩ := Kd.at_int HR0.out x11_1 p163 q163
       cases e163
       replace p163 := eq_true p163
       replace q163 := eq_true q163
       go_wp2_with (first | ((with_reducible refine gate_callee (f := 65) rfl ?_);refine goesL_ (some 18) rfl rfl Try.func65 (by kernel_rfl) rfl #[.int .i64 (rd l0 x11_1), .int .i64 a1, .int .i64 a2] rfl mM ?_;(with_reducible refine (impl_within.calls (rd l0 x11_1) a1 a2 false _ A7.out).mono ?_);rintro e w' ⟨rfl, ⟨nd, rfl⟩⟩;refine ⟨_, rfl, ?_⟩))
       go_ret
       exact ⟨by first | rfl | (simp;done) | (simp [*];done), by repeat (first | exact Drawn0.refl _ | apply Drawn0.step)⟩
     ·rw [if_neg c6] at H
      exact absurd H (by simp)
    ·rw [if_neg c5] at H
     exact absurd H (by simp)
   ·rw [if_neg c4] at H
    have c4b0 : decide (x11_1 < (l0.length : Int)) = false := decide_eq_false c4
    clear c4
    obtain rfl := Option.some.inj H
    go_wp2
    go_ret
    exact ⟨by first | rfl | (simp;done) | (simp [*];done), by repeat (first | exact Drawn0.refl _ | apply Drawn0.step)⟩


/-! ### impl_netOf: by hand -/
def netStep (w : List Int) (e : S80) : List Int :=
 let w1 := w.set e.f0.toNat (Go.bits .or .i64 (rd w e.f0) (shl .i64 1 e.f1))
 w1.set e.f1.toNat (Go.bits .or .i64 (rd w1 e.f1) (shl .i64 1 e.f0))
def impl_netOf.f (a0_0 : Int) (l0_1 : List S80) : Option (List Int) := if decide (0 ≤ a0_0 ∧ a0_0 ≤ 8) && goodL a0_0 none l0_1 then some (l0_1.foldl netStep (List.replicate a0_0.toNat 0)) else none
set_option maxHeartbeats 1600000 in
set_option maxRecDepth 100000 in
theorem impl_netOf.calls (a0_0 : Int) (A0_1 : Option Addr) (c0_1 : Nat) (l0_1 : List (S80)) (r : List Int) (w : World) (hr0_1 : Kd.C k80 w A0_1 l0_1.length l0_1) (hc0_1 : l0_1.length ≤ c0_1) (h : impl_netOf.f a0_0 l0_1 = some r) :
  Calls Try.prog 40 #[.agg #[.int .i64 a0_0, .slice A0_1 l0_1.length c0_1]] w fun e w' => ∃ v0_ : Value, e = .returned (.agg #[v0_]) ∧ Kd.R (Kd.int .i64) 3 w' w.heap.size (fun _ => True) v0_ r ∧ Below w.heap.size w w' := by
 have hu29 := Try.underlying29
 have hu53 := Try.underlying56
 have hu72 := Try.underlying80
 have HR0_1 := Aside0.mk hr0_1
 have HC0_1 := Aside0.mk hc0_1
 clear hr0_1 hc0_1
 have HB := Aside0.mk (Below.refl w.heap.size w)
 unfold impl_netOf.f at h
 by_cases hg : (decide (0 ≤ a0_0 ∧ a0_0 ≤ 8) && goodL a0_0 none l0_1) = true
 case neg => rw [if_neg hg] at h;cases h
 rw [if_pos hg] at h
 simp only [Bool.and_eq_true, decide_eq_true_eq] at hg
 obtain ⟨⟨hn0, hn8⟩, hg2⟩ := hg
 have HE := Aside0.mk (goodL_all hg2)
 have c2b0 := eq_true hn0
 have c2b1 : decide (0 ≤ a0_0) = true := decide_eq_true hn0
 have hn35 : a0_0.toNat ≤ 35184372088832 := by omega
 have c3b0 := eq_true hn35
 have c3b1 : decide ((a0_0 : Int).toNat ≤ 35184372088832) = true := decide_eq_true hn35
 obtain ⟨y238, hy238⟩ : ∃ y_ : List Int, y_ = (List.replicate (a0_0 : Int).toNat 0) := ⟨_, rfl⟩
 rw [← hy238] at h
 have HN := Aside0.mk (And.intro hn0 hn8)
 have HYL : Aside0 (y238.length = a0_0.toNat) := ⟨by rw [hy238];simp⟩
 have H' := Aside0.mk (Option.some.inj h)
 have Ny238 := Aside0.mk hy238
 clear hy238 h hg2 hn0 hn8 hn35
 go_enter Try.func40, Try.ntmps40
 go_wp2_with (first | ((with_reducible refine gate_dst (N := 1) rfl ?_);refine box_event ?hg (N := 1) ?hd (cs := #[.int .i64 a0_0, .slice A0_1 l0_1.length c0_1]) (t := 29) ?hr ?_;(case hd => rfl);(case hg => rfl);(case hr => first | (go_simp;done) | (go_simp;rfl));intro gb236 hg w4 hbox hb;have n0_ := Aside0.mk (below_step (by exact bB) hb);have n1_ := Aside0.mk (hbox);have n2_ := Aside0.mk ((by rw [hg];exact (below_size (by exact bB)) : w.heap.size ≤ gb236));have n3_ := Aside0.mk ((by rw [hg];exact (below_size (by exact bB)) : w.heap.size ≤ gb236));clear HB;have HB := n0_;have BK236 := n1_;have GW236 := n2_;have GE236 := n3_;clear n0_ n1_ n2_ n3_;clear hb hbox hg) | ((with_reducible refine gate_dst (N := 2) rfl ?_);refine box_event ?hg (N := 2) ?hd (cs := #[.slice none 0 0]) (t := 56) ?hr ?_;(case hd => rfl);(case hg => rfl);(case hr => first | (go_simp;done) | (go_simp;rfl));intro gb237 hg w5 hbox hb;have n0_ := Aside0.mk (blk_below (g := gb236) (o := .cells #[.int .i64 a0_0, .slice A0_1 l0_1.length c0_1] 29 (0, 0)) (by exact kP BK236.out) hb);have n1_ := Aside0.mk (below_step (by exact bB) hb);have n2_ := Aside0.mk (hbox);have n3_ := Aside0.mk ((by rw [hg];exact (below_size (by exact bB)) : w.heap.size ≤ gb237));have n4_ := Aside0.mk ((by rw [hg];exact (below_size (by exact bB)) : w.heap.size ≤ gb237));have n5_ := Aside0.mk ((by rw [hg];exact Nat.ne_of_lt (blk_lt (g := gb236) (o := .cells #[.int .i64 a0_0, .slice A0_1 l0_1.length c0_1] 29 (0, 0)) (by exact kP BK236.out)) : gb236 ≠ gb237));have n6_ := Aside0.mk ((by rw [hg];exact Nat.ne_of_gt (blk_lt (g := gb236) (o := .cells #[.int .i64 a0_0, .slice A0_1 l0_1.length c0_1] 29 (0, 0)) (by exact kP BK236.out)) : gb237 ≠ gb236));clear BK236;clear HB;have BK236 := n0_;have HB := n1_;have BK237 := n2_;have GW237 := n3_;have GE237 := n4_;have NB236_237 := n5_;have NB237_236 := n6_;clear n0_ n1_ n2_ n3_ n4_ n5_ n6_;clear hb hbox hg;have hnb6 := NB236_237.out;have hnc6 := NB237_236.out;have hcz7_0 : w5.cell? ⟨gb236, 0, none⟩ = some (.int .i64 a0_0) := (blk_cell BK236.out 0).trans rfl;have hcz7_1 : w5.cell? ⟨gb236, 1, none⟩ = some (.slice A0_1 l0_1.length c0_1) := (blk_cell BK236.out 1).trans rfl;have hfz7_0 := blk_frozen BK236.out 0;have hfz7_1 := blk_frozen BK236.out 1) | ((with_reducible refine gate_dst (N := 8) rfl ?_);refine Kd.R_make (Kd.int .i64) _ 3 rfl (N := 8) rfl 25 _ _ rfl a0_0 rfl rfl Try.underlying25 (.int .i64 0) 8 infoInt rfl (by decide) (by omega) 0 (ok := fun _ => True) (okp := fun _ => True) rfl (fun _ hk => hk) trivial (oA) (Nat.le_trans (Nat.mul_le_mul_right _ (oA : a0_0.toNat ≤ 35184372088832)) (by omega)) (Below.refl _ _) (Nat.le_refl _) ?_;intro v239 w8 ho9 hb hg_ hnew_;clear hg_ hnew_;(first | rw [← Ny238.out] at ho9 | (simp only [Int.reduceToNat] at ho9;rw [← Ny238.out] at ho9));have n0_ := Aside0.mk (Kd.R_lower ho9 (below_size (by exact bB)));have n1_ := Aside0.mk (blk_below (g := gb236) (o := .cells #[.int .i64 a0_0, .slice A0_1 l0_1.length c0_1] 29 (0, 0)) (by exact kP BK236.out) hb);have n2_ := Aside0.mk (blk_below (g := gb237) (o := .cells #[.slice none 0 0] 56 (0, 0)) (by exact kP BK237.out) hb);have n3_ := Aside0.mk (below_step (by exact bB) hb);clear BK236;clear BK237;clear HB;have HO240 := n0_;have BK236 := n1_;have BK237 := n2_;have HB := n3_;clear n0_ n1_ n2_ n3_;clear hb ho9;obtain ⟨Ao10, co10, eo10⟩ := Kd.R_slice HO240.out;subst eo10) | ((with_reducible refine gate_dst (N := 3) rfl ?_);refine box_event ?hg (N := 3) ?hd (cs := #[.slice none 0 0]) (t := 56) ?hr ?_;(case hd => rfl);(case hg => rfl);(case hr => first | (go_simp;done) | (go_simp;rfl));intro gb241 hg w11 hbox hb;have n0_ := Aside0.mk (Kd.R_below (by exact rP HO240.out) hb);have n1_ := Aside0.mk (blk_below (g := gb236) (o := .cells #[.int .i64 a0_0, .slice A0_1 l0_1.length c0_1] 29 (0, 0)) (by exact kP BK236.out) hb);have n2_ := Aside0.mk (blk_below (g := gb237) (o := .cells #[.slice none 0 0] 56 (0, 0)) (by exact kP BK237.out) hb);have n3_ := Aside0.mk (below_step (by exact bB) hb);have n4_ := Aside0.mk (hbox);have n5_ := Aside0.mk ((by rw [hg];exact (below_size (by exact bB)) : w.heap.size ≤ gb241));have n6_ := Aside0.mk ((by rw [hg];exact (below_size (by exact bB)) : w.heap.size ≤ gb241));have n7_ := Aside0.mk ((by rw [hg];exact Nat.ne_of_lt (blk_lt (g := gb236) (o := .cells #[.int .i64 a0_0, .slice A0_1 l0_1.length c0_1] 29 (0, 0)) (by exact kP BK236.out)) : gb236 ≠ gb241));have n8_ := Aside0.mk ((by rw [hg];exact Nat.ne_of_gt (blk_lt (g := gb236) (o := .cells #[.int .i64 a0_0, .slice A0_1 l0_1.length c0_1] 29 (0, 0)) (by exact kP BK236.out)) : gb241 ≠ gb236));have n9_ := Aside0.mk ((by rw [hg];exact Nat.ne_of_lt (blk_lt (g := gb237) (o := .cells #[.slice none 0 0] 56 (0, 0)) (by exact kP BK237.out)) : gb237 ≠ gb241));have n10_ := Aside0.mk ((by rw [hg];exact Nat.ne_of_gt (blk_lt (g := gb237) (o := .cells #[.slice none 0 0] 56 (0, 0)) (by exact kP BK237.out)) : gb241 ≠ gb237));clear HO240;clear BK236;clear BK237;clear HB;have HO240 := n0_;have BK236 := n1_;have BK237 := n2_;have HB := n3_;have BK241 := n4_;have GW241 := n5_;have GE241 := n6_;have NB236_241 := n7_;have NB241_236 := n8_;have NB237_241 := n9_;have NB241_237 := n10_;clear n0_ n1_ n2_ n3_ n4_ n5_ n6_ n7_ n8_ n9_ n10_;clear hb hbox hg;have hnb12 := NB241_236.out;have hnc12 := NB236_241.out;have hnb13 := NB241_237.out;have hnc13 := NB237_241.out;have hcz14_0 : w11.cell? ⟨gb241, 0, none⟩ = some (.slice none 0 0) := (blk_cell BK241.out 0).trans rfl;have hfz14_0 := blk_frozen BK241.out 0;have hcz15_0 : w11.cell? ⟨gb236, 0, none⟩ = some (.int .i64 a0_0) := (blk_cell BK236.out 0).trans rfl;have hcz15_1 : w11.cell? ⟨gb236, 1, none⟩ = some (.slice A0_1 l0_1.length c0_1) := (blk_cell BK236.out 1).trans rfl;have hfz15_0 := blk_frozen BK236.out 0;have hfz15_1 := blk_frozen BK236.out 1))
 go_loopw [13] (fun v13 w' => ∃ (x13_1 : Int) (x242000_1 : List Int) (u242000 : Value), v13 = .int .i64 x13_1 ∧ Aside0 (0 ≤ x13_1 ∧ x13_1 ≤ l0_1.length) ∧ Aside0 ((l0_1.drop x13_1.toNat).foldl netStep x242000_1 = r) ∧ Aside0 (x242000_1.length = a0_0.toNat) ∧ Aside0 (Kd.R (Kd.int .i64) 3 w' w.heap.size (fun _ => True) u242000 x242000_1) ∧ Aside0 (w'.heap[gb236]? = some (.cells #[.int .i64 a0_0, (.slice A0_1 l0_1.length c0_1)] 29 (0, 0))) ∧ Aside0 (w'.heap[gb237]? = some (.cells #[(.slice none 0 0)] 56 (0, 0))) ∧ Aside0 (w'.heap[gb241]? = some (.cells #[u242000] 56 (0, 0))) ∧ Aside0 (Below w.heap.size w w')) (fun v _ => l0_1.length - (intOf v).toNat)
 case atStart => exact ⟨(0), (y238), (.slice Ao10 y238.length co10), rfl, ⟨by omega, by omega⟩, ⟨H'.out⟩, HYL, ⟨by refine rP ?_;exact Kd.R_mono (Kd.R_far (p := ⟨gb241, 0, none⟩) (Kd.R_types HO240.out BK241.out (by decide)) (fun _ hk => hk.2) (.slice Ao10 y238.length co10)) (fun _ hk => trivial)⟩, ⟨by refine kP ?_;refine blk_far ?_ NB236_241.out _;exact kP BK236.out⟩, ⟨by refine kP ?_;refine blk_far ?_ NB237_241.out _;exact kP BK237.out⟩, ⟨by refine kP ?_;refine blk_put (cs := #[.slice none 0 0]) ?_ 0 _ rfl;exact kP BK241.out⟩, ⟨by exact bB⟩⟩
 case round =>
  clear H' HYL Ny238 HO240
  try clear c2
  try clear c2b0
  try clear c2b1
  try clear c3b0
  try clear c3b1
  obtain ⟨x13_1, x242000_1, u242000, rfl, HX, HF, HYL, HO_242000, BK236, BK237, BK241, HB⟩ := hrel
  by_cases hlt : x13_1 < (l0_1.length : Int)
  ·have hlt' : decide (x13_1 < (l0_1.length : Int)) = true := decide_eq_true hlt
   have p0 : 0 ≤ x13_1 := HX.out.1
   obtain ⟨ad, e, hx0, hx1⟩ := at_T80 HR0_1.out x13_1 p0 hlt
   cases e
   replace hx0 := (HB.out.cell (World.block_lt_of_cell? w _ hx0)).trans hx0
   replace hx1 := (HB.out.cell (World.block_lt_of_cell? w _ hx1)).trans hx1
   have HL := Aside0.mk hlt
   have hok := HE.out (rd_T80 l0_1 x13_1) (rd_mem p0 hlt)
   have HF2 : Aside0 ((l0_1.drop (x13_1 + 1).toNat).foldl netStep (netStep x242000_1 (rd_T80 l0_1 x13_1)) = r) := ⟨by rw [← HF.out];exact (foldl_at p0 hlt netStep x242000_1).symm⟩
   have HW1 : Aside0 (wrap64 (x13_1 + 1) = x13_1 + 1) := ⟨by have := HR0_1.out.2.1;unfold wrap64;omega⟩
   obtain ⟨e, he⟩ : ∃ e, e = rd_T80 l0_1 x13_1 := ⟨_, rfl⟩
   rw [← he] at hx0 hx1 hok HF2
   simp only [edgeOk, decide_eq_true_eq] at hok
   have hN := HN.out
   have hYL := HYL.out
   have i0 : 0 ≤ e.f0 := hok.1
   have i1 : e.f0 < (x242000_1.length : Int) := by omega
   have j0 : 0 ≤ e.f1 := by omega
   have j1 : e.f1 < (x242000_1.length : Int) := by omega
   have HOK := Aside0.mk (show 0 ≤ e.f0 ∧ e.f0 < 8 ∧ 0 ≤ e.f1 ∧ e.f1 < 8 by omega)
   obtain ⟨f0, hf0⟩ : ∃ z, z = e.f0 := ⟨_, rfl⟩
   obtain ⟨f1, hf1⟩ : ∃ z, z = e.f1 := ⟨_, rfl⟩
   have HST : Aside0 (netStep x242000_1 e = ((x242000_1.set f0.toNat (Go.bits .or .i64 (rd x242000_1 f0) (shl .i64 1 f1))).set f1.toNat (Go.bits .or .i64 (rd (x242000_1.set f0.toNat (Go.bits .or .i64 (rd x242000_1 f0) (shl .i64 1 f1))) f1) (shl .i64 1 f0)))) := ⟨by rw [hf0, hf1];rfl⟩
   rw [← hf0] at hx0 i0 i1 HOK
   rw [← hf1] at hx1 j0 j1 HOK
   clear he hok hf0 hf1
   obtain ⟨go, co, eo, gb, gl, cl, HG⟩ := Kd.R_form HO_242000.out (by omega)
   cases eo
   have gne : go ≠ gb241 := fun hE => by
    have h1 := HG;rw [hE, BK241.out] at h1;simp at h1
   have gne' : gb241 ≠ go := fun hE => gne hE.symm
   have hcz3 : wr.cell? ⟨gb241, 0, none⟩ = some (.slice (some ⟨go, 0, none⟩) x242000_1.length co) := (blk_cell BK241.out 0).trans rfl
   have hb241 : gb241 < wr.heap.size := blk_lt BK241.out
   have GB := Aside0.mk gb
   have GL := Aside0.mk gl
   clear hN hYL hlt HG gb gl
   replace p0 := eq_true p0
   have hq0 := eq_true HL.out
   go_wp2
   generalize hw1 : (World.alloc wr _) = w1
   have BN : Aside0 (w1.heap[wr.heap.size]? = some (.cells #[.int .i64 f0, .int .i64 f1] 80 (0, 0))) := ⟨by rw [← hw1];exact blk_new wr _⟩
   have HB1 : Aside0 (Below w.heap.size w w1) := ⟨by rw [← hw1];exact below_alloc HB.out _⟩
   have BK1 : Aside0 (w1.heap[gb236]? = some (.cells #[.int .i64 a0_0, (.slice (some ad) l0_1.length c0_1)] 29 (0, 0))) := ⟨by rw [← hw1];exact blk_alloc BK236.out _⟩
   have BK2 : Aside0 (w1.heap[gb237]? = some (.cells #[(.slice none 0 0)] 56 (0, 0))) := ⟨by rw [← hw1];exact blk_alloc BK237.out _⟩
   have BK3 : Aside0 (w1.heap[gb241]? = some (.cells #[.slice (some ⟨go, 0, none⟩) x242000_1.length co] 56 (0, 0))) := ⟨by rw [← hw1];exact blk_alloc BK241.out _⟩
   have HO1 : Aside0 (Kd.R (Kd.int .i64) 3 w1 w.heap.size (fun _ => True) (.slice (some ⟨go, 0, none⟩) x242000_1.length co) x242000_1) := ⟨by rw [← hw1];exact Kd.R_alloc HO_242000.out _⟩
   have hbn : wr.heap.size ≠ go := by have := GL.out;omega
   have hbn' : go ≠ wr.heap.size := fun h => hbn h.symm
   have hbn3 : wr.heap.size ≠ gb241 := by omega
   generalize wr.heap.size = gn at BN hbn hbn' hbn3 ⊢
   clear hw1 hcz3 hx0 hx1 HO_242000 BK236 BK237 BK241 HB hb241
   have hb3 : gb241 < w1.heap.size := blk_lt BK3.out
   have c30 : w1.cell? ⟨gb241, 0, none⟩ = some (.slice (some ⟨go, 0, none⟩) x242000_1.length co) := (blk_cell BK3.out 0).trans rfl
   have cn0 : w1.cell? ⟨gn, 0, none⟩ = some (.int .i64 f0) := (blk_cell BN.out 0).trans rfl
   have cn1 : w1.cell? ⟨gn, 1, none⟩ = some (.int .i64 f1) := (blk_cell BN.out 1).trans rfl
   obtain ⟨cx0, cf0⟩ := Kd.R_celln 0 HO1.out f0 i0 i1
   have HP0 := Kd.R_putg HO1.out f0 (Go.bits .or .i64 (rd x242000_1 f0) (shl .i64 1 f1))
   refine still_tail_drew 11 (by kernel_rfl) (by kernel_rfl) ?_
   simp only [List.take_succ_cons, List.take_zero, List.drop_succ_cons, List.drop_zero]
   replace i0 := eq_true i0
   replace i1 := eq_true i1
   replace j0 := eq_true j0
   replace j1 := eq_true j1
   repeat still_step
   refine wpStill_nil ?_
   have hx1 := eq_true HL.out
   generalize hV0 : Go.bits .or .i64 (rdOf 0 x242000_1 f0) (IntKind.i64.wrap (2 ^ min f1.toNat 64)) = V0
   have HV0 := Aside0.mk hV0
   have HP := Aside0.mk (Kd.R_putg HO1.out f0 V0).1
   clear hV0 HP0
   go_wp2
   generalize hw3 : (World.setCell _ _ _) = w3
   obtain ⟨ys, hys⟩ : ∃ ys, ys = x242000_1.set f0.toNat V0 := ⟨_, rfl⟩
   have HYS := Aside0.mk hys
   have HO3 : Aside0 (Kd.R (Kd.int .i64) 3 w3 w.heap.size (fun _ => True) (.slice (some ⟨go, 0, none⟩) ys.length co) ys) := ⟨by rw [← hw3, hys];have := HP.out;rw [List.length_set];exact this⟩
   have hyl : ys.length = x242000_1.length := by rw [hys];simp
   have HYL3 := Aside0.mk hyl
   have B3N : Aside0 (w3.heap[gn]? = some (.cells #[.int .i64 f0, .int .i64 f1] 80 (0, 0))) := ⟨by rw [← hw3];exact blk_far BN.out hbn _⟩
   have g236 : gb236 ≠ go := fun hE => by
    have h1 := HO1.out;have h2 := Kd.R_form h1 (by have := of_eq_true i1;have := of_eq_true i0;omega)
    obtain ⟨g', c', e', _, _, cl', hh'⟩ := h2;cases e';rw [← hE, BK1.out] at hh';simp at hh'
   have g237 : gb237 ≠ go := fun hE => by
    have h1 := HO1.out;have h2 := Kd.R_form h1 (by have := of_eq_true i1;have := of_eq_true i0;omega)
    obtain ⟨g', c', e', _, _, cl', hh'⟩ := h2;cases e';rw [← hE, BK2.out] at hh';simp at hh'
   have B31 : Aside0 (w3.heap[gb236]? = some (.cells #[.int .i64 a0_0, (.slice (some ad) l0_1.length c0_1)] 29 (0, 0))) := ⟨by rw [← hw3];exact blk_far BK1.out g236 _⟩
   have B32 : Aside0 (w3.heap[gb237]? = some (.cells #[(.slice none 0 0)] 56 (0, 0))) := ⟨by rw [← hw3];exact blk_far BK2.out g237 _⟩
   have B33 : Aside0 (w3.heap[gb241]? = some (.cells #[.slice (some ⟨go, 0, none⟩) ys.length co] 56 (0, 0))) := ⟨by rw [← hw3, hyl];exact blk_far BK3.out gne' _⟩
   have HB3 : Aside0 (Below w.heap.size w w3) := ⟨by rw [← hw3];exact below_set HB1.out GB.out⟩
   clear hw3 HP HO1 BN BK1 BK2 BK3 HB1 c30 cn0 cn1 cx0 cf0 hb3
   generalize hw4 : World.drew w3 = w4
   replace B3N : Aside0 (w4.heap[gn]? = some (.cells #[.int .i64 f0, .int .i64 f1] 80 (0, 0))) := ⟨by rw [← hw4];exact B3N.out⟩
   replace B31 : Aside0 (w4.heap[gb236]? = some (.cells #[.int .i64 a0_0, (.slice (some ad) l0_1.length c0_1)] 29 (0, 0))) := ⟨by rw [← hw4];exact B31.out⟩
   replace B32 : Aside0 (w4.heap[gb237]? = some (.cells #[(.slice none 0 0)] 56 (0, 0))) := ⟨by rw [← hw4];exact B32.out⟩
   replace B33 : Aside0 (w4.heap[gb241]? = some (.cells #[.slice (some ⟨go, 0, none⟩) ys.length co] 56 (0, 0))) := ⟨by rw [← hw4];exact B33.out⟩
   replace HB3 : Aside0 (Below w.heap.size w w4) := ⟨by rw [← hw4];exact below_drew HB3.out⟩
   replace HO3 : Aside0 (Kd.R (Kd.int .i64) 3 w4 w.heap.size (fun _ => True) (.slice (some ⟨go, 0, none⟩) ys.length co) ys) := ⟨by rw [← hw4];exact Kd.R_drew HO3.out⟩
   clear hw4 hys
   rw [← hyl] at i1 j1
   have hb3 : gb241 < w4.heap.size := blk_lt B33.out
   have c30 : w4.cell? ⟨gb241, 0, none⟩ = some (.slice (some ⟨go, 0, none⟩) ys.length co) := (blk_cell B33.out 0).trans rfl
   have cn0 : w4.cell? ⟨gn, 0, none⟩ = some (.int .i64 f0) := (blk_cell B3N.out 0).trans rfl
   have cn1 : w4.cell? ⟨gn, 1, none⟩ = some (.int .i64 f1) := (blk_cell B3N.out 1).trans rfl
   obtain ⟨cx0, cf0⟩ := Kd.R_celln 0 HO3.out f1 (of_eq_true j0) (of_eq_true j1)
   clear hyl
   refine still_tail_drew 11 (by kernel_rfl) (by kernel_rfl) ?_
   simp only [List.take_succ_cons, List.take_zero, List.drop_succ_cons, List.drop_zero]
   repeat still_step
   refine wpStill_nil ?_
   generalize hV1 : Go.bits .or .i64 (rdOf 0 ys f1) (IntKind.i64.wrap (2 ^ min f0.toNat 64)) = V1
   have HV1 := Aside0.mk hV1
   have HP := Aside0.mk (Kd.R_putg HO3.out f1 V1).1
   clear hV1
   go_wp2
   go_roundw
   case rel =>
    refine ⟨x13_1 + 1, ys.set f1.toNat V1, _, by rw [HW1.out], ⟨by have := HX.out;have := HL.out;omega⟩, ⟨?_⟩, ⟨by rw [List.length_set, HYL3.out];exact HYL.out⟩, ⟨Kd.R_drew HP.out⟩, ⟨blk_drew (blk_far B31.out g236 _)⟩, ⟨blk_drew (blk_far B32.out g237 _)⟩, ⟨blk_drew (blk_far B33.out gne' _)⟩, ⟨below_drew (below_set HB3.out GB.out)⟩⟩
    rw [← HF2.out, HST.out, ← HV1.out, HYS.out, ← HV0.out]
    simp only [shl, Int.one_mul]
    rfl
   case measure => have := HL.out;have := HX.out;rw [HW1.out];simp [intOf];omega
  ·have hlt' : decide (x13_1 < (l0_1.length : Int)) = false := decide_eq_false hlt
   obtain rfl : x242000_1 = r := by have := HF.out;rw [List.drop_eq_nil_of_le (by omega)] at this;exact this
   clear hlt
   have hnb40 := NB241_236.out
   have hnc40 := NB236_241.out
   have hnb41 := NB241_237.out
   have hnc41 := NB237_241.out
   have hcz42_0 : wr.cell? ⟨gb241, 0, none⟩ = some (u242000) := (blk_cell BK241.out 0).trans rfl
   have hfz42_0 := blk_frozen BK241.out 0
   obtain ⟨Ao43, co43, eo43⟩ := Kd.R_slice HO_242000.out
   subst eo43
   have hnb44 := NB237_236.out
   have hnc44 := NB236_237.out
   have hcz45_0 : wr.cell? ⟨gb237, 0, none⟩ = some (.slice none 0 0) := (blk_cell BK237.out 0).trans rfl
   have hfz45_0 := blk_frozen BK237.out 0
   go_wp2
   refine bodyPost_ret (results_cell_row rfl _ _ gb237 56 #[.slice Ao43 x242000_1.length co43] (0, 0) _ rfl (by refine kP ?_;refine blk_put (cs := #[.slice none 0 0]) ?_ 0 _ rfl;exact kP BK237.out) Try.underlying56 rfl (by kernel_rfl)) rfl ?_
   exact ⟨_, by first | rfl | (simp [errW_none, errW_some] <;> rfl) | (simp [*, errW_none, errW_some] <;> rfl), by refine rP ?_;exact Kd.R_mono (Kd.R_far (p := ⟨gb237, 0, none⟩) (Kd.R_types HO_242000.out BK237.out (by decide)) (fun _ hk => hk.2) (.slice Ao43 x242000_1.length co43)) (fun _ hk => trivial), by exact bB⟩

/-! ### impl_net_size: function 67 -/
def impl_net_size.f (l0_0 : List Int) : Option (Int) := some (l0_0.length : Int)
set_option maxHeartbeats 8000000 in
set_option maxRecDepth 100000 in
theorem impl_net_size.calls (A0_0 : Option Addr) (c0_0 : Nat) (l0_0 : List Int) (r : Int) (w : World) (hr0_0 : Kd.C (Kd.int .i64) w A0_0 l0_0.length l0_0) (hc0_0 : l0_0.length ≤ c0_0) (h : impl_net_size.f l0_0 = some r) :
  Calls Try.prog 67 #[.agg #[.slice A0_0 l0_0.length c0_0]] w fun e w' => e = .returned (.int .i64 r) ∧ Below w.heap.size w w' := by
 have hu56 := Try.underlying56
 have HR0_0 := Aside0.mk hr0_0
 have HC0_0 := Aside0.mk hc0_0
 clear hr0_0 hc0_0
 have HB := Aside0.mk (Below.refl w.heap.size w)
 have H : (some (l0_0.length : Int)) = some r := h
 clear h
 obtain rfl := Option.some.inj H
 go_enter Try.func67, Try.ntmps67
 go_wp2_with (first | ((with_reducible refine gate_dst (N := 1) rfl ?_);refine box_event ?hg (N := 1) ?hd (cs := #[.slice A0_0 l0_0.length c0_0]) (t := 56) ?hr ?_;(case hd => rfl);(case hg => rfl);(case hr => first | (go_simp;done) | (go_simp;rfl));intro gb170 hg w2 hbox hb;have n0_ := Aside0.mk (below_step (by exact bB) hb);have n1_ := Aside0.mk (hbox);have n2_ := Aside0.mk ((by rw [hg];exact (below_size (by exact bB)) : w.heap.size ≤ gb170));have n3_ := Aside0.mk ((by rw [hg];exact (below_size (by exact bB)) : w.heap.size ≤ gb170));clear HB;have HB := n0_;have BK170 := n1_;have GW170 := n2_;have GE170 := n3_;clear n0_ n1_ n2_ n3_;clear hb hbox hg;have hcz3_0 : w2.cell? ⟨gb170, 0, none⟩ = some (.slice A0_0 l0_0.length c0_0) := (blk_cell BK170.out 0).trans rfl;have hfz3_0 := blk_frozen BK170.out 0))
 go_ret
 exact ⟨by first | rfl | (simp [errW_none, errW_some] <;> rfl) | (simp [*, errW_none, errW_some] <;> rfl), by exact bB⟩



/-! ### impl_inverseOf: function 70 -/
def impl_inverseOf.l0 : Nat → Int → Int → Int → Option (Int)
 | 0, _, _, _ => none
 | k + 1, x0, x3, x4 => if x4 > 0 then (if (Int.tmod x4 2) = 1 then (impl_inverseOf.l0 k (Int.tmod (wrap64 (x0 * x0)) 10007) (Int.tmod (wrap64 (x3 * x0)) 10007) (wrap64 (Int.tdiv x4 2))) else (impl_inverseOf.l0 k (Int.tmod (wrap64 (x0 * x0)) 10007) x3 (wrap64 (Int.tdiv x4 2)))) else (some x3)
def impl_inverseOf.f (k : Nat) (a0 : Int) : Option (Int) := impl_inverseOf.l0 k a0 1 10005
theorem impl_inverseOf.mono_l : ∀ k, (∀ y0 y1 y2, LeO (impl_inverseOf.l0 k y0 y1 y2) (impl_inverseOf.l0 (k + 1) y0 y1 y2))
 | 0 => fun _ _ _ r h => by simp [impl_inverseOf.l0] at h
 | k + 1 => by
  have ih0 := impl_inverseOf.mono_l k
  ·intro y0 y1 y2
   unfold impl_inverseOf.l0
   repeat' first
   | (with_reducible exact ih0 _ _ _)
   | (with_reducible exact LeO.refl _)
   | (with_reducible exact LeO.none _)
   | (with_reducible refine LeO.ite ?_ ?_)
   | (with_reducible refine LeO.bind ?_ (fun _ => ?_))
   | exact ih0 _ _ _
   | exact LeO.none _
   | refine LeO.ite ?_ ?_
   | refine LeO.bind ?_ (fun _ => ?_)
theorem impl_inverseOf.mono : ∀ a0 k, LeO (impl_inverseOf.f k a0) (impl_inverseOf.f (k + 1) a0) := by
 intro a0 k
 have ih0 := impl_inverseOf.mono_l k
 unfold impl_inverseOf.f
 repeat' first
   | (with_reducible exact ih0 _ _ _)
   | (with_reducible exact LeO.refl _)
   | (with_reducible exact LeO.none _)
   | (with_reducible refine LeO.ite ?_ ?_)
   | (with_reducible refine LeO.bind ?_ (fun _ => ?_))
   | exact ih0 _ _ _
   | exact LeO.none _
   | refine LeO.ite ?_ ?_
   | refine LeO.bind ?_ (fun _ => ?_)
set_option maxHeartbeats 8000000 in
set_option maxRecDepth 100000 in
theorem impl_inverseOf.calls (k : Nat) (a0 : Int) (r : Int) (w : World) (h : impl_inverseOf.f k a0 = some r) :
  Calls Try.prog 70 #[.int .i64 a0] w fun e w' => e = .returned (.int .i64 r) ∧ Drawn0 w w' := by
 have H : (impl_inverseOf.l0 k a0 1 10005) = some r := h
 clear h
 have H' := Aside0.mk H
 clear H
 go_enter Try.func70, Try.ntmps70
 go_wp2
 go_loopg [0, 3, 4] k (fun kq v0 v3 v4 w' => ∃ (x0_1 : Int) (x3_1 : Int) (x4_1 : Int), v0 = .int .i64 x0_1 ∧ v3 = .int .i64 x3_1 ∧ v4 = .int .i64 x4_1 ∧ Aside0 (impl_inverseOf.l0 kq x0_1 x3_1 x4_1 = some r) ∧ Aside0 (kq ≤ k) ∧ Drawn0 w w')
 case atStart => exact ⟨(a0), (1), (10005), (by first | rfl | (simp;done) | (simp [*];done)), (by first | rfl | (simp;done) | (simp [*];done)), (by first | rfl | (simp;done) | (simp [*];done)), H', ⟨Nat.le_refl _⟩, by repeat (first | exact Drawn0.refl _ | apply Drawn0.step)⟩
 case round =>
  clear H'
  obtain ⟨x0_1, x3_1, x4_1, rfl, rfl, rfl, HA, HK1, ⟨m1, rfl⟩⟩ := hrel
  cases gk with
  | zero => exact absurd HA.out (by simp [impl_inverseOf.l0])
  | succ k1 =>
   have H := HA.out
   clear HA
   simp only [impl_inverseOf.l0] at H
   by_cases c2 : x4_1 > 0
   ·rw [if_pos c2] at H
    have c2b0 : decide (0 < x4_1) = true := decide_eq_true c2
    clear c2
    by_cases c3 : (Int.tmod x4_1 2) = 1
    ·rw [if_pos c3] at H
     have c3b0 : ((Int.tmod x4_1 2) == 1) = true := beq_iff_eq.mpr c3
     have c3b1 : ((Int.tmod x4_1 2) != 1) = false := bne_eq_false_iff_eq.mpr c3
     clear c3
     have H' := Aside0.mk H
     clear H
     go_wp2
     go_roundg k1
     case measure => have := HK1.out;omega
     case rel => exact ⟨(Int.tmod (wrap64 (x0_1 * x0_1)) 10007), (Int.tmod (wrap64 (x3_1 * x0_1)) 10007), (wrap64 (Int.tdiv x4_1 2)), (by first | rfl | (simp;done) | (simp [*];done)), (by first | rfl | (simp;done) | (simp [*];done)), (by first | rfl | (simp;done) | (simp [*];done)), H', ⟨by have := HK1.out;omega⟩, by repeat (first | exact Drawn0.refl _ | apply Drawn0.step)⟩
    ·rw [if_neg c3] at H
     have c3b0 : ((Int.tmod x4_1 2) == 1) = false := beq_eq_false_iff_ne.mpr c3
     have c3b1 : ((Int.tmod x4_1 2) != 1) = true := bne_iff_ne.mpr c3
     have H' := Aside0.mk H
     clear H
     go_wp2
     go_roundg k1
     case measure => have := HK1.out;omega
     case rel => exact ⟨(Int.tmod (wrap64 (x0_1 * x0_1)) 10007), (x3_1), (wrap64 (Int.tdiv x4_1 2)), (by first | rfl | (simp;done) | (simp [*];done)), (by first | rfl | (simp;done) | (simp [*];done)), (by first | rfl | (simp;done) | (simp [*];done)), H', ⟨by have := HK1.out;omega⟩, by repeat (first | exact Drawn0.refl _ | apply Drawn0.step)⟩
   ·rw [if_neg c2] at H
    have c2b0 : decide (0 < x4_1) = false := decide_eq_false c2
    clear c2
    obtain rfl := Option.some.inj H
    go_wp2
    go_ret
    exact ⟨by first | rfl | (simp;done) | (simp [*];done), by repeat (first | exact Drawn0.refl _ | apply Drawn0.step)⟩




end Go.Proofs.Ytaddgielnfhhpaa.QNullityOf
