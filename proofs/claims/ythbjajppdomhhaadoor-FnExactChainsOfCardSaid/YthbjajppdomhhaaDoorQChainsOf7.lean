import Derived.Test.YthbjajppdomhhaaDoorQChainsOf0
import Derived.Test.YthbjajppdomhhaaDoorQChainsOf3
import Derived.Test.YthbjajppdomhhaaDoorQChainsOf4
import Derived.Test.YthbjajppdomhhaaDoorQChainsOf5
import Derived.Test.YthbjajppdomhhaaDoorQChainsOf6
namespace Go.Proofs.YthbjajppdomhhaaDoor.QChainsOf
open Go.RowKit Go.Proofs.YthbjajppdomhhaaDoorW.PrintWords Go.Proofs.YthbjajppdomhhaaDoorW.PrintLast Go.Proofs.YthbjajppdomhhaaDoorW.PrintMore
attribute [local go_sem] max2_int min2_int max_two min_two max_three min_three max_four min_four   -- for this text's walks alone
set_option linter.unusedVariables false
set_option linter.unusedSimpArgs false
/-! ### spec_l9Once: function 126 -/
def spec_l9Once.l0 : Nat → List Int → Bool → List Int → Int → Int → List (S92) → Option (List Int)
 | 0, _, _, _, _, _, _ => none
 | k + 1, x1, x2, x7, x8, x192000, x192001 => if x8 < x192000 then ((spec_l9Open.f k x192000 x192001 x1 x8).bind fun t195 => (if (t195.length : Int) = 1 then (if x2 = true then (if 0 < (t195.length : Int) then ((spec_l1Put.f x7 (rd t195 0)).bind fun t199 => (spec_l9Once.l0 k x1 x2 t199 (wrap64 (x8 + 1)) x192000 x192001)) else (none)) else ((spec_l1Has.f k x1 x8).bind fun t202 => (if t202 = true then (if 0 < (t195.length : Int) then ((spec_l1Put.f x7 (rd t195 0)).bind fun t204 => (spec_l9Once.l0 k x1 x2 t204 (wrap64 (x8 + 1)) x192000 x192001)) else (none)) else (spec_l9Once.l0 k x1 x2 x7 (wrap64 (x8 + 1)) x192000 x192001)))) else (spec_l9Once.l0 k x1 x2 x7 (wrap64 (x8 + 1)) x192000 x192001))) else (some x7)
def spec_l9Once.f (k : Nat) (a0_0 : Int) (l0_1 : List (S92)) (l1 : List Int) (a2 : Bool) : Option (List Int) := (spec_l1Own.f l1).bind fun t192 => (spec_l9Once.l0 k l1 a2 t192 0 a0_0 l0_1)
theorem spec_l9Once.mono_l : ∀ k, (∀ y0 y1 y2 y3 y4 y5, LeO (spec_l9Once.l0 k y0 y1 y2 y3 y4 y5) (spec_l9Once.l0 (k + 1) y0 y1 y2 y3 y4 y5))
 | 0 => fun _ _ _ _ _ _ r h => by simp [spec_l9Once.l0] at h
 | k + 1 => by
  have ih0 := spec_l9Once.mono_l k
  ·intro y0 y1 y2 y3 y4 y5
   unfold spec_l9Once.l0
   repeat' first
   | (with_reducible exact ih0 _ _ _ _ _ _)
   | (with_reducible exact spec_l1Has.mono _ _ _)
   | (with_reducible exact spec_l9Open.mono _ _ _ _ _)
   | (with_reducible exact LeO.refl _)
   | (with_reducible exact LeO.none _)
   | (with_reducible refine LeO.ite ?_ ?_)
   | (with_reducible refine LeO.bind ?_ (fun _ => ?_))
   | exact ih0 _ _ _ _ _ _
   | exact spec_l1Has.mono _ _ _
   | exact spec_l9Open.mono _ _ _ _ _
   | exact LeO.none _
   | refine LeO.ite ?_ ?_
   | refine LeO.bind ?_ (fun _ => ?_)
theorem spec_l9Once.mono : ∀ a0 a1 a2 a3 k, LeO (spec_l9Once.f k a0 a1 a2 a3) (spec_l9Once.f (k + 1) a0 a1 a2 a3) := by
 intro a0 a1 a2 a3 k
 have ih0 := spec_l9Once.mono_l k
 unfold spec_l9Once.f
 repeat' first
   | (with_reducible exact ih0 _ _ _ _ _ _)
   | (with_reducible exact spec_l1Has.mono _ _ _)
   | (with_reducible exact spec_l9Open.mono _ _ _ _ _)
   | (with_reducible exact LeO.refl _)
   | (with_reducible exact LeO.none _)
   | (with_reducible refine LeO.ite ?_ ?_)
   | (with_reducible refine LeO.bind ?_ (fun _ => ?_))
   | exact ih0 _ _ _ _ _ _
   | exact spec_l1Has.mono _ _ _
   | exact spec_l9Open.mono _ _ _ _ _
   | exact LeO.none _
   | refine LeO.ite ?_ ?_
   | refine LeO.bind ?_ (fun _ => ?_)
set_option maxHeartbeats 8000000 in
set_option maxRecDepth 100000 in
theorem spec_l9Once.calls (k : Nat) (a0_0 : Int) (A0_1 : Option Addr) (c0_1 : Nat) (l0_1 : List (S92)) (A1 : Option Addr) (c1 : Nat) (l1 : List Int) (a2 : Bool) (r : List Int) (w : World) (hr0_1 : Kd.C k92 w A0_1 l0_1.length l0_1) (hc0_1 : l0_1.length ≤ c0_1) (hr1 : Kd.C (Kd.int .i64) w A1 l1.length l1) (hc1 : l1.length ≤ c1) (h : spec_l9Once.f k a0_0 l0_1 l1 a2 = some r) :
  Calls Tryd.prog 126 #[.agg #[.int .i64 a0_0, .slice A0_1 l0_1.length c0_1], .slice A1 l1.length c1, .bool a2] w fun e w' => ∃ v0_ : Value, e = .returned (v0_) ∧ Kd.R (Kd.int .i64) 3 w' w.heap.size (fun _ => True) v0_ r ∧ Below w.heap.size w w' := by
 have hu28 := Tryd.underlying28
 have HR0_1 := Aside0.mk hr0_1
 have HC0_1 := Aside0.mk hc0_1
 clear hr0_1 hc0_1
 have HR1 := Aside0.mk hr1
 have HC1 := Aside0.mk hc1
 clear hr1 hc1
 have HB := Aside0.mk (Below.refl w.heap.size w)
 have H : ((spec_l1Own.f l1).bind fun t192 => (spec_l9Once.l0 k l1 a2 t192 0 a0_0 l0_1)) = some r := h
 clear h
 replace H := Option.bind_eq_some_iff.mp H
 obtain ⟨t192, A40, H⟩ := H
 replace H : (spec_l9Once.l0 k l1 a2 t192 0 a0_0 l0_1) = some r := H
 have A4 := Aside0.mk A40
 clear A40
 have H' := Aside0.mk H
 clear H
 go_enter Tryd.func126, Tryd.ntmps126
 go_wp2_with (first | ((with_reducible refine gate_dst (N := 3) rfl ?_);refine box_event ?hg (N := 3) ?hd (cs := #[.int .i64 a0_0, .slice A0_1 l0_1.length c0_1]) (t := 28) ?hr ?_;(case hd => rfl);(case hg => rfl);(case hr => first | (go_simp;done) | (go_simp;rfl));intro gb191 hg w5 hbox hb;have n0_ := Aside0.mk (below_step (by exact bB) hb);have n1_ := Aside0.mk (hbox);have n2_ := Aside0.mk ((by rw [hg];exact (below_size (by exact bB)) : w.heap.size ≤ gb191));have n3_ := Aside0.mk ((by rw [hg];exact (below_size (by exact bB)) : w.heap.size ≤ gb191));clear HB;have HB := n0_;have BK191 := n1_;have GW191 := n2_;have GE191 := n3_;clear n0_ n1_ n2_ n3_;clear hb hbox hg) | ((with_reducible refine gate_callee (f := 83) rfl ?_);refine goesL_ (some 11) rfl rfl Tryd.func83 (by kernel_rfl) rfl #[.slice A1 l1.length c1] rfl mM ?_;(with_reducible refine (spec_l1Own.calls _ _ l1 t192 _ ?side1 ?side2 A4.out).mono ?_);(case side1 => exact cP (Kd.C_below HR1.out HB.out));(case side2 => exact HC1.out);rintro e w6 ⟨v193, rfl, ho0, hb⟩;refine ⟨_, rfl, ?_⟩;have n0_ := Aside0.mk (Kd.R_lower ho0 (below_size (by exact bB)));have n1_ := Aside0.mk (blk_below (g := gb191) (o := .cells #[.int .i64 a0_0, .slice A0_1 l0_1.length c0_1] 28 (0, 0)) (by exact kP BK191.out) hb);have n2_ := Aside0.mk (below_step (by exact bB) hb);clear BK191;clear HB;have HO194 := n0_;have BK191 := n1_;have HB := n2_;clear n0_ n1_ n2_;(try clear hb);(try clear hb2);(try clear hk);(try clear hi);(try clear ho0)))
 go_loopg [7, 8] k (fun kq v7 v8 w' => ∃ (x7_1 : List Int) (x8_1 : Int), v8 = .int .i64 x8_1 ∧ Aside0 (spec_l9Once.l0 kq l1 a2 x7_1 x8_1 a0_0 l0_1 = some r) ∧ Aside0 (kq ≤ k) ∧ Aside0 (Kd.R (Kd.int .i64) 3 w' w.heap.size (fun _ => True) v7 x7_1) ∧ Aside0 (w'.heap[gb191]? = some (.cells #[.int .i64 a0_0, (.slice A0_1 l0_1.length c0_1)] 28 (0, 0))) ∧ Aside0 (Below w.heap.size w w'))
 case atStart => exact ⟨(t192), (0), (by first | rfl | (simp;done) | (simp [*];done)), H', ⟨Nat.le_refl _⟩, ⟨by exact rP HO194.out⟩, ⟨by exact kP BK191.out⟩, ⟨by exact bB⟩⟩
 case round =>
  clear H'
  try clear c1
  try clear p2
  obtain ⟨x7_1, x8_1, rfl, HA, HK1, HO_7, BK191, HB⟩ := hrel
  cases gk with
  | zero => exact absurd HA.out (by simp [spec_l9Once.l0])
  | succ k1 =>
   have H := HA.out
   clear HA
   simp only [spec_l9Once.l0] at H
   by_cases c7 : x8_1 < a0_0
   ·rw [if_pos c7] at H
    have c7b0 : decide (x8_1 < a0_0) = true := decide_eq_true c7
    clear c7
    replace H := Option.bind_eq_some_iff.mp H
    obtain ⟨t195, A80, H⟩ := H
    replace H : (if (t195.length : Int) = 1 then (if a2 = true then (if 0 < (t195.length : Int) then ((spec_l1Put.f x7_1 (rd t195 0)).bind fun t199 => (spec_l9Once.l0 k1 l1 a2 t199 (wrap64 (x8_1 + 1)) a0_0 l0_1)) else (none)) else ((spec_l1Has.f k1 l1 x8_1).bind fun t202 => (if t202 = true then (if 0 < (t195.length : Int) then ((spec_l1Put.f x7_1 (rd t195 0)).bind fun t204 => (spec_l9Once.l0 k1 l1 a2 t204 (wrap64 (x8_1 + 1)) a0_0 l0_1)) else (none)) else (spec_l9Once.l0 k1 l1 a2 x7_1 (wrap64 (x8_1 + 1)) a0_0 l0_1)))) else (spec_l9Once.l0 k1 l1 a2 x7_1 (wrap64 (x8_1 + 1)) a0_0 l0_1)) = some r := H
    have A8 := Aside0.mk A80
    clear A80
    by_cases c9 : (t195.length : Int) = 1
    ·rw [if_pos c9] at H
     have c9b0 : ((t195.length : Int) == 1) = true := beq_iff_eq.mpr c9
     have c9b1 : ((t195.length : Int) != 1) = false := bne_eq_false_iff_eq.mpr c9
     clear c9
     by_cases c10 : a2 = true
     ·subst c10
      have H1 : (if 0 < (t195.length : Int) then ((spec_l1Put.f x7_1 (rd t195 0)).bind fun t199 => (spec_l9Once.l0 k1 l1 true t199 (wrap64 (x8_1 + 1)) a0_0 l0_1)) else (none)) = some r := by rw [if_pos rfl] at H;exact H
      clear H
      have H := H1
      clear H1
      by_cases c11 : 0 < (t195.length : Int)
      ·rw [if_pos c11] at H
       have c11b0 : decide (0 < (t195.length : Int)) = true := decide_eq_true c11
       have c11b1 : decide (0 < t195.length) = true := decide_eq_true (by omega)
       clear c11
       replace H := Option.bind_eq_some_iff.mp H
       obtain ⟨t199, A120, H⟩ := H
       replace H : (spec_l9Once.l0 k1 l1 true t199 (wrap64 (x8_1 + 1)) a0_0 l0_1) = some r := H
       have A12 := Aside0.mk A120
       clear A120
       have H' := Aside0.mk H
       clear H
       have hcz13_0 : wr.cell? ⟨gb191, 0, none⟩ = some (.int .i64 a0_0) := (blk_cell BK191.out 0).trans rfl
       have hcz13_1 : wr.cell? ⟨gb191, 1, none⟩ = some (.slice A0_1 l0_1.length c0_1) := (blk_cell BK191.out 1).trans rfl
       have hfz13_0 := blk_frozen BK191.out 0
       have hfz13_1 := blk_frozen BK191.out 1
       go_wp2_with (first | ((with_reducible refine gate_callee (f := 101) rfl ?_);refine goesL_ (some 21) rfl rfl Tryd.func101 (by kernel_rfl) rfl #[.agg #[.int .i64 a0_0, .slice A0_1 l0_1.length c0_1], .slice A1 l1.length c1, .int .i64 x8_1] rfl mM ?_;(with_reducible refine (spec_l9Open.calls k1 a0_0 _ _ l0_1 _ _ l1 x8_1 t195 _ ?side1 ?side2 ?side3 ?side4 A8.out).mono ?_);(case side1 => exact cP (Kd.C_below HR0_1.out HB.out));(case side2 => exact HC0_1.out);(case side3 => exact cP (Kd.C_below HR1.out HB.out));(case side4 => exact HC1.out);rintro e w14 ⟨v196, rfl, ho0, hb⟩;refine ⟨_, rfl, ?_⟩;have n0_ := Aside0.mk (Kd.R_elder' (by exact rP HO_7.out) (Kd.R_base ho0) hb);have n1_ := Aside0.mk (Kd.R_lower (Kd.R_new' ho0 (Kd.R_lt (by exact rP HO_7.out))) (below_size (by exact bB)));have n2_ := Aside0.mk (blk_below (g := gb191) (o := .cells #[.int .i64 a0_0, .slice A0_1 l0_1.length c0_1] 28 (0, 0)) (by exact kP BK191.out) hb);have n3_ := Aside0.mk (below_step (by exact bB) hb);clear HO_7;clear BK191;clear HB;have HO_7 := n0_;have HO197 := n1_;have BK191 := n2_;have HB := n3_;clear n0_ n1_ n2_ n3_;(try clear hb);(try clear hb2);(try clear hk);(try clear hi);(try clear ho0);obtain ⟨Ao15, co15, eo15⟩ := Kd.R_slice HO197.out;subst eo15;have p198 : 0 ≤ (0 : Int) := (by omega);have q198 : 0 < (t195.length : Int) := oA;obtain ⟨ad198, e198, hx198_0⟩ := Kd.at_int (Kd.R_reads' HO197.out).2.2 0 p198 q198;cases e198;have qi198 : (0 < t195.length) = True := eq_true (by omega);(try rw [show ((0 : Int)).toNat = 0 from rfl] at hx198_0);(try rw [Addr.add_zero'] at hx198_0);replace p198 := eq_true p198;replace q198 := eq_true q198;obtain ⟨Ao16, co16, eo16⟩ := Kd.R_slice HO_7.out;subst eo16) | ((with_reducible refine gate_callee (f := 61) rfl ?_);refine goesL_ (some 37) rfl rfl Tryd.func61 (by kernel_rfl) rfl #[.slice Ao16 x7_1.length co16, .int .i64 (rd t195 0)] rfl mM ?_;(with_reducible refine (spec_l1Put.calls (fun k_ => some k_ = (.slice Ao16 x7_1.length co16 : Value).ownBlock) (.slice Ao16 x7_1.length co16) x7_1 (rd t195 0) t199 w _ ?side1 ?side2 A12.out).mono ?_);(case side1 => exact bB);(case side2 => exact Kd.R_tight rfl HO_7.out);rintro e w17 ⟨v200, rfl, ho0, hb, hkp⟩;refine ⟨_, rfl, ?_⟩;have n0_ := Aside0.mk (blk_kept (by exact kP BK191.out) hkp (fun hs_ => (fun e_ => (Kd.R_ne HO_7.out BK191.out (by decide)) e_) hs_));have n1_ := Aside0.mk (Kd.R_mono (ok' := fun k_ => some k_ ≠ (v200 : Value).ownBlock) (Kd.R_keptB (HO197.out) hkp (fun k_ hk_ hs_ => (hk_.2) hs_)) (fun k_ hk_ => fun e_ => Or.elim (ho0.1 k_ e_.symm) (fun hs_ => hk_.2.1 hs_) (fun hn_ => Nat.not_le.2 hk_.2.2 hn_)));have n2_ := Aside0.mk (Kd.R_mono (ok' := fun k_ => some k_ ≠ (.slice (some ad198) t195.length co15 : Value).ownBlock) ho0 (fun k_ hk_ => Or.elim hk_ (fun hs_ => fun e_ => (((HO197.out).1 k_ e_.symm).2) hs_) (fun hn_ => (Kd.fresh' (Kd.R_lt (by exact rP HO197.out)) k_ hn_))));have n3_ := Aside0.mk (hb);clear BK191;clear HO197;clear HB;clear HO_7;have BK191 := n0_;have HO197 := n1_;have HO201 := n2_;have HB := n3_;clear n0_ n1_ n2_ n3_;(try clear hb);(try clear hkp);(try clear ho0)))
       go_roundg k1
       case measure => have := HK1.out;omega
       case rel => exact ⟨(t199), (wrap64 (x8_1 + 1)), (by first | rfl | (simp;done) | (simp [*];done)), H', ⟨by have := HK1.out;omega⟩, ⟨by refine rP ?_;exact Kd.R_mono HO201.out (fun _ hk => trivial)⟩, ⟨by exact kP BK191.out⟩, ⟨by exact bB⟩⟩
      ·rw [if_neg c11] at H
       exact absurd H (by simp)
     ·replace c10 := Bool.eq_false_iff.mpr c10
      subst c10
      have H1 : ((spec_l1Has.f k1 l1 x8_1).bind fun t202 => (if t202 = true then (if 0 < (t195.length : Int) then ((spec_l1Put.f x7_1 (rd t195 0)).bind fun t204 => (spec_l9Once.l0 k1 l1 false t204 (wrap64 (x8_1 + 1)) a0_0 l0_1)) else (none)) else (spec_l9Once.l0 k1 l1 false x7_1 (wrap64 (x8_1 + 1)) a0_0 l0_1))) = some r := by rw [if_neg (show ¬ (false = true) by decide)] at H;exact H
      clear H
      have H := H1
      clear H1
      replace H := Option.bind_eq_some_iff.mp H
      obtain ⟨t202, A180, H⟩ := H
      replace H : (if t202 = true then (if 0 < (t195.length : Int) then ((spec_l1Put.f x7_1 (rd t195 0)).bind fun t204 => (spec_l9Once.l0 k1 l1 false t204 (wrap64 (x8_1 + 1)) a0_0 l0_1)) else (none)) else (spec_l9Once.l0 k1 l1 false x7_1 (wrap64 (x8_1 + 1)) a0_0 l0_1)) = some r := H
      have A18 := Aside0.mk A180
      clear A180
      by_cases c19 : t202 = true
      ·subst c19
       have H1 : (if 0 < (t195.length : Int) then ((spec_l1Put.f x7_1 (rd t195 0)).bind fun t204 => (spec_l9Once.l0 k1 l1 false t204 (wrap64 (x8_1 + 1)) a0_0 l0_1)) else (none)) = some r := by rw [if_pos rfl] at H;exact H
       clear H
       have H := H1
       clear H1
       by_cases c20 : 0 < (t195.length : Int)
       ·rw [if_pos c20] at H
        have c20b0 : decide (0 < (t195.length : Int)) = true := decide_eq_true c20
        have c20b1 : decide (0 < t195.length) = true := decide_eq_true (by omega)
        clear c20
        replace H := Option.bind_eq_some_iff.mp H
        obtain ⟨t204, A210, H⟩ := H
        replace H : (spec_l9Once.l0 k1 l1 false t204 (wrap64 (x8_1 + 1)) a0_0 l0_1) = some r := H
        have A21 := Aside0.mk A210
        clear A210
        have H' := Aside0.mk H
        clear H
        have hcz22_0 : wr.cell? ⟨gb191, 0, none⟩ = some (.int .i64 a0_0) := (blk_cell BK191.out 0).trans rfl
        have hcz22_1 : wr.cell? ⟨gb191, 1, none⟩ = some (.slice A0_1 l0_1.length c0_1) := (blk_cell BK191.out 1).trans rfl
        have hfz22_0 := blk_frozen BK191.out 0
        have hfz22_1 := blk_frozen BK191.out 1
        go_wp2_with (first | ((with_reducible refine gate_callee (f := 101) rfl ?_);refine goesL_ (some 21) rfl rfl Tryd.func101 (by kernel_rfl) rfl #[.agg #[.int .i64 a0_0, .slice A0_1 l0_1.length c0_1], .slice A1 l1.length c1, .int .i64 x8_1] rfl mM ?_;(with_reducible refine (spec_l9Open.calls k1 a0_0 _ _ l0_1 _ _ l1 x8_1 t195 _ ?side1 ?side2 ?side3 ?side4 A8.out).mono ?_);(case side1 => exact cP (Kd.C_below HR0_1.out HB.out));(case side2 => exact HC0_1.out);(case side3 => exact cP (Kd.C_below HR1.out HB.out));(case side4 => exact HC1.out);rintro e w23 ⟨v196, rfl, ho0, hb⟩;refine ⟨_, rfl, ?_⟩;have n0_ := Aside0.mk (Kd.R_elder' (by exact rP HO_7.out) (Kd.R_base ho0) hb);have n1_ := Aside0.mk (Kd.R_lower (Kd.R_new' ho0 (Kd.R_lt (by exact rP HO_7.out))) (below_size (by exact bB)));have n2_ := Aside0.mk (blk_below (g := gb191) (o := .cells #[.int .i64 a0_0, .slice A0_1 l0_1.length c0_1] 28 (0, 0)) (by exact kP BK191.out) hb);have n3_ := Aside0.mk (below_step (by exact bB) hb);clear HO_7;clear BK191;clear HB;have HO_7 := n0_;have HO197 := n1_;have BK191 := n2_;have HB := n3_;clear n0_ n1_ n2_ n3_;(try clear hb);(try clear hb2);(try clear hk);(try clear hi);(try clear ho0);obtain ⟨Ao24, co24, eo24⟩ := Kd.R_slice HO197.out;subst eo24) | (go_at_call 69;(with_reducible refine (spec_l1Has.calls k1 _ _ l1 x8_1 true _ ?side1 ?side2 A18.out).mono ?_);(case side1 => exact cP (Kd.C_below HR1.out HB.out));(case side2 => exact HC1.out);rintro e w' ⟨rfl, ⟨nd, rfl⟩⟩;have p203 : 0 ≤ (0 : Int) := (by omega);have q203 : 0 < (t195.length : Int) := oA;obtain ⟨ad203, e203, hx203_0⟩ := Kd.at_int (Kd.R_reads' HO197.out).2.2 0 p203 q203;cases e203;have qi203 : (0 < t195.length) = True := eq_true (by omega);(try rw [show ((0 : Int)).toNat = 0 from rfl] at hx203_0);(try rw [Addr.add_zero'] at hx203_0);replace p203 := eq_true p203;replace q203 := eq_true q203;obtain ⟨Ao25, co25, eo25⟩ := Kd.R_slice HO_7.out;subst eo25) | ((with_reducible refine gate_callee (f := 61) rfl ?_);refine goesL_ (some 37) rfl rfl Tryd.func61 (by kernel_rfl) rfl #[.slice Ao25 x7_1.length co25, .int .i64 (rd t195 0)] rfl mM ?_;(with_reducible refine (spec_l1Put.calls (fun k_ => some k_ = (.slice Ao25 x7_1.length co25 : Value).ownBlock) (.slice Ao25 x7_1.length co25) x7_1 (rd t195 0) t204 w _ ?side1 ?side2 A21.out).mono ?_);(case side1 => exact bB);(case side2 => exact Kd.R_tight rfl HO_7.out);rintro e w26 ⟨v205, rfl, ho0, hb, hkp⟩;refine ⟨_, rfl, ?_⟩;have n0_ := Aside0.mk (blk_kept (by exact kP BK191.out) hkp (fun hs_ => (fun e_ => (Kd.R_ne HO_7.out BK191.out (by decide)) e_) hs_));have n1_ := Aside0.mk (Kd.R_mono (ok' := fun k_ => some k_ ≠ (v205 : Value).ownBlock) (Kd.R_keptB (HO197.out) hkp (fun k_ hk_ hs_ => (hk_.2) hs_)) (fun k_ hk_ => fun e_ => Or.elim (ho0.1 k_ e_.symm) (fun hs_ => hk_.2.1 hs_) (fun hn_ => Nat.not_le.2 hk_.2.2 hn_)));have n2_ := Aside0.mk (Kd.R_mono (ok' := fun k_ => some k_ ≠ (.slice (some ad203) t195.length co24 : Value).ownBlock) ho0 (fun k_ hk_ => Or.elim hk_ (fun hs_ => fun e_ => (((HO197.out).1 k_ e_.symm).2) hs_) (fun hn_ => (Kd.fresh' (Kd.R_lt (by exact rP HO197.out)) k_ hn_))));have n3_ := Aside0.mk (hb);clear BK191;clear HO197;clear HB;clear HO_7;have BK191 := n0_;have HO197 := n1_;have HO206 := n2_;have HB := n3_;clear n0_ n1_ n2_ n3_;(try clear hb);(try clear hkp);(try clear ho0)))
        go_roundg k1
        case measure => have := HK1.out;omega
        case rel => exact ⟨(t204), (wrap64 (x8_1 + 1)), (by first | rfl | (simp;done) | (simp [*];done)), H', ⟨by have := HK1.out;omega⟩, ⟨by refine rP ?_;exact Kd.R_mono HO206.out (fun _ hk => trivial)⟩, ⟨by exact kP BK191.out⟩, ⟨by exact bB⟩⟩
       ·rw [if_neg c20] at H
        exact absurd H (by simp)
      ·replace c19 := Bool.eq_false_iff.mpr c19
       subst c19
       have H1 : (spec_l9Once.l0 k1 l1 false x7_1 (wrap64 (x8_1 + 1)) a0_0 l0_1) = some r := by rw [if_neg (show ¬ (false = true) by decide)] at H;exact H
       clear H
       have H := H1
       clear H1
       have H' := Aside0.mk H
       clear H
       have hcz27_0 : wr.cell? ⟨gb191, 0, none⟩ = some (.int .i64 a0_0) := (blk_cell BK191.out 0).trans rfl
       have hcz27_1 : wr.cell? ⟨gb191, 1, none⟩ = some (.slice A0_1 l0_1.length c0_1) := (blk_cell BK191.out 1).trans rfl
       have hfz27_0 := blk_frozen BK191.out 0
       have hfz27_1 := blk_frozen BK191.out 1
       go_wp2_with (first | ((with_reducible refine gate_callee (f := 101) rfl ?_);refine goesL_ (some 21) rfl rfl Tryd.func101 (by kernel_rfl) rfl #[.agg #[.int .i64 a0_0, .slice A0_1 l0_1.length c0_1], .slice A1 l1.length c1, .int .i64 x8_1] rfl mM ?_;(with_reducible refine (spec_l9Open.calls k1 a0_0 _ _ l0_1 _ _ l1 x8_1 t195 _ ?side1 ?side2 ?side3 ?side4 A8.out).mono ?_);(case side1 => exact cP (Kd.C_below HR0_1.out HB.out));(case side2 => exact HC0_1.out);(case side3 => exact cP (Kd.C_below HR1.out HB.out));(case side4 => exact HC1.out);rintro e w28 ⟨v196, rfl, ho0, hb⟩;refine ⟨_, rfl, ?_⟩;have n0_ := Aside0.mk (Kd.R_elder' (by exact rP HO_7.out) (Kd.R_base ho0) hb);have n1_ := Aside0.mk (Kd.R_lower (Kd.R_new' ho0 (Kd.R_lt (by exact rP HO_7.out))) (below_size (by exact bB)));have n2_ := Aside0.mk (blk_below (g := gb191) (o := .cells #[.int .i64 a0_0, .slice A0_1 l0_1.length c0_1] 28 (0, 0)) (by exact kP BK191.out) hb);have n3_ := Aside0.mk (below_step (by exact bB) hb);clear HO_7;clear BK191;clear HB;have HO_7 := n0_;have HO197 := n1_;have BK191 := n2_;have HB := n3_;clear n0_ n1_ n2_ n3_;(try clear hb);(try clear hb2);(try clear hk);(try clear hi);(try clear ho0);obtain ⟨Ao29, co29, eo29⟩ := Kd.R_slice HO197.out;subst eo29) | (go_at_call 69;(with_reducible refine (spec_l1Has.calls k1 _ _ l1 x8_1 false _ ?side1 ?side2 A18.out).mono ?_);(case side1 => exact cP (Kd.C_below HR1.out HB.out));(case side2 => exact HC1.out);rintro e w' ⟨rfl, ⟨nd, rfl⟩⟩))
       go_roundg k1
       case measure => have := HK1.out;omega
       case rel => exact ⟨(x7_1), (wrap64 (x8_1 + 1)), (by first | rfl | (simp;done) | (simp [*];done)), H', ⟨by have := HK1.out;omega⟩, ⟨by refine rP ?_;exact Kd.R_mono HO_7.out (fun _ hk => trivial)⟩, ⟨by exact kP BK191.out⟩, ⟨by exact bB⟩⟩
    ·rw [if_neg c9] at H
     have c9b0 : ((t195.length : Int) == 1) = false := beq_eq_false_iff_ne.mpr c9
     have c9b1 : ((t195.length : Int) != 1) = true := bne_iff_ne.mpr c9
     have H' := Aside0.mk H
     clear H
     have hcz30_0 : wr.cell? ⟨gb191, 0, none⟩ = some (.int .i64 a0_0) := (blk_cell BK191.out 0).trans rfl
     have hcz30_1 : wr.cell? ⟨gb191, 1, none⟩ = some (.slice A0_1 l0_1.length c0_1) := (blk_cell BK191.out 1).trans rfl
     have hfz30_0 := blk_frozen BK191.out 0
     have hfz30_1 := blk_frozen BK191.out 1
     go_wp2_with (first | ((with_reducible refine gate_callee (f := 101) rfl ?_);refine goesL_ (some 21) rfl rfl Tryd.func101 (by kernel_rfl) rfl #[.agg #[.int .i64 a0_0, .slice A0_1 l0_1.length c0_1], .slice A1 l1.length c1, .int .i64 x8_1] rfl mM ?_;(with_reducible refine (spec_l9Open.calls k1 a0_0 _ _ l0_1 _ _ l1 x8_1 t195 _ ?side1 ?side2 ?side3 ?side4 A8.out).mono ?_);(case side1 => exact cP (Kd.C_below HR0_1.out HB.out));(case side2 => exact HC0_1.out);(case side3 => exact cP (Kd.C_below HR1.out HB.out));(case side4 => exact HC1.out);rintro e w31 ⟨v196, rfl, ho0, hb⟩;refine ⟨_, rfl, ?_⟩;have n0_ := Aside0.mk (Kd.R_elder' (by exact rP HO_7.out) (Kd.R_base ho0) hb);have n1_ := Aside0.mk (Kd.R_lower (Kd.R_new' ho0 (Kd.R_lt (by exact rP HO_7.out))) (below_size (by exact bB)));have n2_ := Aside0.mk (blk_below (g := gb191) (o := .cells #[.int .i64 a0_0, .slice A0_1 l0_1.length c0_1] 28 (0, 0)) (by exact kP BK191.out) hb);have n3_ := Aside0.mk (below_step (by exact bB) hb);clear HO_7;clear BK191;clear HB;have HO_7 := n0_;have HO197 := n1_;have BK191 := n2_;have HB := n3_;clear n0_ n1_ n2_ n3_;(try clear hb);(try clear hb2);(try clear hk);(try clear hi);(try clear ho0);obtain ⟨Ao32, co32, eo32⟩ := Kd.R_slice HO197.out;subst eo32))
     go_roundg k1
     case measure => have := HK1.out;omega
     case rel => exact ⟨(x7_1), (wrap64 (x8_1 + 1)), (by first | rfl | (simp;done) | (simp [*];done)), H', ⟨by have := HK1.out;omega⟩, ⟨by refine rP ?_;exact Kd.R_mono HO_7.out (fun _ hk => trivial)⟩, ⟨by exact kP BK191.out⟩, ⟨by exact bB⟩⟩
   ·rw [if_neg c7] at H
    have c7b0 : decide (x8_1 < a0_0) = false := decide_eq_false c7
    clear c7
    obtain rfl := Option.some.inj H
    have hcz33_0 : wr.cell? ⟨gb191, 0, none⟩ = some (.int .i64 a0_0) := (blk_cell BK191.out 0).trans rfl
    have hcz33_1 : wr.cell? ⟨gb191, 1, none⟩ = some (.slice A0_1 l0_1.length c0_1) := (blk_cell BK191.out 1).trans rfl
    have hfz33_0 := blk_frozen BK191.out 0
    have hfz33_1 := blk_frozen BK191.out 1
    go_wp2
    go_ret
    exact ⟨_, by first | rfl | (simp [errW_none, errW_some] <;> rfl) | (simp [*, errW_none, errW_some] <;> rfl), by exact rP HO_7.out, by exact bB⟩


/-! ### spec_l9All: function 100 -/
def spec_l9All.l0 : Nat → Bool → List Int → Int → List (S92) → Option (List Int)
 | 0, _, _, _, _ => none
 | k + 1, x2, x7, x208000, x208001 => (spec_l9Once.f k x208000 x208001 x7 x2).bind fun t211 => (if (t211.length : Int) = (x7.length : Int) then (some x7) else (spec_l9All.l0 k x2 t211 x208000 x208001))
def spec_l9All.f (k : Nat) (a0_0 : Int) (l0_1 : List (S92)) (l1 : List Int) (a2 : Bool) : Option (List Int) := (spec_l1Own.f l1).bind fun t208 => (spec_l9All.l0 k a2 t208 a0_0 l0_1)
theorem spec_l9All.mono_l : ∀ k, (∀ y0 y1 y2 y3, LeO (spec_l9All.l0 k y0 y1 y2 y3) (spec_l9All.l0 (k + 1) y0 y1 y2 y3))
 | 0 => fun _ _ _ _ r h => by simp [spec_l9All.l0] at h
 | k + 1 => by
  have ih0 := spec_l9All.mono_l k
  ·intro y0 y1 y2 y3
   unfold spec_l9All.l0
   repeat' first
   | (with_reducible exact ih0 _ _ _ _)
   | (with_reducible exact spec_l9Once.mono _ _ _ _ _)
   | (with_reducible exact LeO.refl _)
   | (with_reducible exact LeO.none _)
   | (with_reducible refine LeO.ite ?_ ?_)
   | (with_reducible refine LeO.bind ?_ (fun _ => ?_))
   | exact ih0 _ _ _ _
   | exact spec_l9Once.mono _ _ _ _ _
   | exact LeO.none _
   | refine LeO.ite ?_ ?_
   | refine LeO.bind ?_ (fun _ => ?_)
theorem spec_l9All.mono : ∀ a0 a1 a2 a3 k, LeO (spec_l9All.f k a0 a1 a2 a3) (spec_l9All.f (k + 1) a0 a1 a2 a3) := by
 intro a0 a1 a2 a3 k
 have ih0 := spec_l9All.mono_l k
 unfold spec_l9All.f
 repeat' first
   | (with_reducible exact ih0 _ _ _ _)
   | (with_reducible exact spec_l9Once.mono _ _ _ _ _)
   | (with_reducible exact LeO.refl _)
   | (with_reducible exact LeO.none _)
   | (with_reducible refine LeO.ite ?_ ?_)
   | (with_reducible refine LeO.bind ?_ (fun _ => ?_))
   | exact ih0 _ _ _ _
   | exact spec_l9Once.mono _ _ _ _ _
   | exact LeO.none _
   | refine LeO.ite ?_ ?_
   | refine LeO.bind ?_ (fun _ => ?_)
set_option maxHeartbeats 8000000 in
set_option maxRecDepth 100000 in
theorem spec_l9All.calls (k : Nat) (a0_0 : Int) (A0_1 : Option Addr) (c0_1 : Nat) (l0_1 : List (S92)) (A1 : Option Addr) (c1 : Nat) (l1 : List Int) (a2 : Bool) (r : List Int) (w : World) (hr0_1 : Kd.C k92 w A0_1 l0_1.length l0_1) (hc0_1 : l0_1.length ≤ c0_1) (hr1 : Kd.C (Kd.int .i64) w A1 l1.length l1) (hc1 : l1.length ≤ c1) (h : spec_l9All.f k a0_0 l0_1 l1 a2 = some r) :
  Calls Tryd.prog 100 #[.agg #[.int .i64 a0_0, .slice A0_1 l0_1.length c0_1], .slice A1 l1.length c1, .bool a2] w fun e w' => ∃ v0_ : Value, e = .returned (v0_) ∧ Kd.R (Kd.int .i64) 3 w' w.heap.size (fun _ => True) v0_ r ∧ Below w.heap.size w w' := by
 have hu28 := Tryd.underlying28
 have HR0_1 := Aside0.mk hr0_1
 have HC0_1 := Aside0.mk hc0_1
 clear hr0_1 hc0_1
 have HR1 := Aside0.mk hr1
 have HC1 := Aside0.mk hc1
 clear hr1 hc1
 have HB := Aside0.mk (Below.refl w.heap.size w)
 have H : ((spec_l1Own.f l1).bind fun t208 => (spec_l9All.l0 k a2 t208 a0_0 l0_1)) = some r := h
 clear h
 replace H := Option.bind_eq_some_iff.mp H
 obtain ⟨t208, A40, H⟩ := H
 replace H : (spec_l9All.l0 k a2 t208 a0_0 l0_1) = some r := H
 have A4 := Aside0.mk A40
 clear A40
 have H' := Aside0.mk H
 clear H
 go_enter Tryd.func100, Tryd.ntmps100
 go_wp2_with (first | ((with_reducible refine gate_dst (N := 3) rfl ?_);refine box_event ?hg (N := 3) ?hd (cs := #[.int .i64 a0_0, .slice A0_1 l0_1.length c0_1]) (t := 28) ?hr ?_;(case hd => rfl);(case hg => rfl);(case hr => first | (go_simp;done) | (go_simp;rfl));intro gb207 hg w5 hbox hb;have n0_ := Aside0.mk (below_step (by exact bB) hb);have n1_ := Aside0.mk (hbox);have n2_ := Aside0.mk ((by rw [hg];exact (below_size (by exact bB)) : w.heap.size ≤ gb207));have n3_ := Aside0.mk ((by rw [hg];exact (below_size (by exact bB)) : w.heap.size ≤ gb207));clear HB;have HB := n0_;have BK207 := n1_;have GW207 := n2_;have GE207 := n3_;clear n0_ n1_ n2_ n3_;clear hb hbox hg) | ((with_reducible refine gate_callee (f := 83) rfl ?_);refine goesL_ (some 10) rfl rfl Tryd.func83 (by kernel_rfl) rfl #[.slice A1 l1.length c1] rfl mM ?_;(with_reducible refine (spec_l1Own.calls _ _ l1 t208 _ ?side1 ?side2 A4.out).mono ?_);(case side1 => exact cP (Kd.C_below HR1.out HB.out));(case side2 => exact HC1.out);rintro e w6 ⟨v209, rfl, ho0, hb⟩;refine ⟨_, rfl, ?_⟩;have n0_ := Aside0.mk (Kd.R_lower ho0 (below_size (by exact bB)));have n1_ := Aside0.mk (blk_below (g := gb207) (o := .cells #[.int .i64 a0_0, .slice A0_1 l0_1.length c0_1] 28 (0, 0)) (by exact kP BK207.out) hb);have n2_ := Aside0.mk (below_step (by exact bB) hb);clear BK207;clear HB;have HO210 := n0_;have BK207 := n1_;have HB := n2_;clear n0_ n1_ n2_;(try clear hb);(try clear hb2);(try clear hk);(try clear hi);(try clear ho0)))
 go_loopg [7] k (fun kq v7 w' => ∃ (x7_1 : List Int), Aside0 (spec_l9All.l0 kq a2 x7_1 a0_0 l0_1 = some r) ∧ Aside0 (kq ≤ k) ∧ Aside0 (Kd.R (Kd.int .i64) 3 w' w.heap.size (fun _ => True) v7 x7_1) ∧ Aside0 (w'.heap[gb207]? = some (.cells #[.int .i64 a0_0, (.slice A0_1 l0_1.length c0_1)] 28 (0, 0))) ∧ Aside0 (Below w.heap.size w w'))
 case atStart => exact ⟨(t208), H', ⟨Nat.le_refl _⟩, ⟨by exact rP HO210.out⟩, ⟨by exact kP BK207.out⟩, ⟨by exact bB⟩⟩
 case round =>
  clear H'
  try clear c1
  try clear p2
  obtain ⟨x7_1, HA, HK1, HO_7, BK207, HB⟩ := hrel
  cases gk with
  | zero => exact absurd HA.out (by simp [spec_l9All.l0])
  | succ k1 =>
   have H := HA.out
   clear HA
   simp only [spec_l9All.l0] at H
   replace H := Option.bind_eq_some_iff.mp H
   obtain ⟨t211, A70, H⟩ := H
   replace H : (if (t211.length : Int) = (x7_1.length : Int) then (some x7_1) else (spec_l9All.l0 k1 a2 t211 a0_0 l0_1)) = some r := H
   have A7 := Aside0.mk A70
   clear A70
   by_cases c8 : (t211.length : Int) = (x7_1.length : Int)
   ·rw [if_pos c8] at H
    have c8b0 : ((t211.length : Int) == (x7_1.length : Int)) = true := beq_iff_eq.mpr c8
    have c8b1 : ((t211.length : Int) != (x7_1.length : Int)) = false := bne_eq_false_iff_eq.mpr c8
    have c8b2 : (t211.length == x7_1.length) = true := by first | simpa using c8 | (simp at c8 ⊢;omega)
    clear c8
    obtain rfl := Option.some.inj H
    have hcz9_0 : wr.cell? ⟨gb207, 0, none⟩ = some (.int .i64 a0_0) := (blk_cell BK207.out 0).trans rfl
    have hcz9_1 : wr.cell? ⟨gb207, 1, none⟩ = some (.slice A0_1 l0_1.length c0_1) := (blk_cell BK207.out 1).trans rfl
    have hfz9_0 := blk_frozen BK207.out 0
    have hfz9_1 := blk_frozen BK207.out 1
    obtain ⟨Ao10, co10, eo10⟩ := Kd.R_slice HO_7.out
    subst eo10
    go_wp2_with (first | ((with_reducible refine gate_callee (f := 126) rfl ?_);refine goesL_ (some 14) rfl rfl Tryd.func126 (by kernel_rfl) rfl #[.agg #[.int .i64 a0_0, .slice A0_1 l0_1.length c0_1], .slice Ao10 x7_1.length co10, .bool a2] rfl mM ?_;(with_reducible refine (spec_l9Once.calls k1 a0_0 _ _ l0_1 _ _ x7_1 a2 t211 _ ?side1 ?side2 ?side3 ?side4 A7.out).mono ?_);(case side1 => exact cP (Kd.C_below HR0_1.out HB.out));(case side2 => exact HC0_1.out);(case side3 => exact cP (Kd.R_reads' HO_7.out).2.2);(case side4 => exact (Kd.R_reads' HO_7.out).2.1);rintro e w11 ⟨v212, rfl, ho0, hb⟩;refine ⟨_, rfl, ?_⟩;have n0_ := Aside0.mk (Kd.R_elder' (by exact rP HO_7.out) (Kd.R_base ho0) hb);have n1_ := Aside0.mk (Kd.R_lower (Kd.R_new' ho0 (Kd.R_lt (by exact rP HO_7.out))) (below_size (by exact bB)));have n2_ := Aside0.mk (blk_below (g := gb207) (o := .cells #[.int .i64 a0_0, .slice A0_1 l0_1.length c0_1] 28 (0, 0)) (by exact kP BK207.out) hb);have n3_ := Aside0.mk (below_step (by exact bB) hb);clear HO_7;clear BK207;clear HB;have HO_7 := n0_;have HO213 := n1_;have BK207 := n2_;have HB := n3_;clear n0_ n1_ n2_ n3_;(try clear hb);(try clear hb2);(try clear hk);(try clear hi);(try clear ho0);obtain ⟨Ao12, co12, eo12⟩ := Kd.R_slice HO213.out;subst eo12))
    go_ret
    exact ⟨_, by first | rfl | (simp [errW_none, errW_some] <;> rfl) | (simp [*, errW_none, errW_some] <;> rfl), by refine rP ?_;exact Kd.R_mono HO_7.out (fun _ hk => trivial), by exact bB⟩
   ·rw [if_neg c8] at H
    have c8b0 : ((t211.length : Int) == (x7_1.length : Int)) = false := beq_eq_false_iff_ne.mpr c8
    have c8b1 : ((t211.length : Int) != (x7_1.length : Int)) = true := bne_iff_ne.mpr c8
    have c8b2 : (t211.length == x7_1.length) = false := by first | simpa using c8 | (simp at c8 ⊢;omega)
    have H' := Aside0.mk H
    clear H
    have hcz13_0 : wr.cell? ⟨gb207, 0, none⟩ = some (.int .i64 a0_0) := (blk_cell BK207.out 0).trans rfl
    have hcz13_1 : wr.cell? ⟨gb207, 1, none⟩ = some (.slice A0_1 l0_1.length c0_1) := (blk_cell BK207.out 1).trans rfl
    have hfz13_0 := blk_frozen BK207.out 0
    have hfz13_1 := blk_frozen BK207.out 1
    obtain ⟨Ao14, co14, eo14⟩ := Kd.R_slice HO_7.out
    subst eo14
    go_wp2_with (first | ((with_reducible refine gate_callee (f := 126) rfl ?_);refine goesL_ (some 14) rfl rfl Tryd.func126 (by kernel_rfl) rfl #[.agg #[.int .i64 a0_0, .slice A0_1 l0_1.length c0_1], .slice Ao14 x7_1.length co14, .bool a2] rfl mM ?_;(with_reducible refine (spec_l9Once.calls k1 a0_0 _ _ l0_1 _ _ x7_1 a2 t211 _ ?side1 ?side2 ?side3 ?side4 A7.out).mono ?_);(case side1 => exact cP (Kd.C_below HR0_1.out HB.out));(case side2 => exact HC0_1.out);(case side3 => exact cP (Kd.R_reads' HO_7.out).2.2);(case side4 => exact (Kd.R_reads' HO_7.out).2.1);rintro e w15 ⟨v212, rfl, ho0, hb⟩;refine ⟨_, rfl, ?_⟩;have n0_ := Aside0.mk (Kd.R_elder' (by exact rP HO_7.out) (Kd.R_base ho0) hb);have n1_ := Aside0.mk (Kd.R_lower (Kd.R_new' ho0 (Kd.R_lt (by exact rP HO_7.out))) (below_size (by exact bB)));have n2_ := Aside0.mk (blk_below (g := gb207) (o := .cells #[.int .i64 a0_0, .slice A0_1 l0_1.length c0_1] 28 (0, 0)) (by exact kP BK207.out) hb);have n3_ := Aside0.mk (below_step (by exact bB) hb);clear HO_7;clear BK207;clear HB;have HO_7 := n0_;have HO213 := n1_;have BK207 := n2_;have HB := n3_;clear n0_ n1_ n2_ n3_;(try clear hb);(try clear hb2);(try clear hk);(try clear hi);(try clear ho0);obtain ⟨Ao16, co16, eo16⟩ := Kd.R_slice HO213.out;subst eo16))
    go_roundg k1
    case measure => have := HK1.out;omega
    case rel => exact ⟨(t211), H', ⟨by have := HK1.out;omega⟩, ⟨by refine rP ?_;exact Kd.R_mono HO213.out (fun _ hk => trivial)⟩, ⟨by exact kP BK207.out⟩, ⟨by exact bB⟩⟩


/-! ### spec_l9Forces: function 59 -/
def spec_l9Forces.f (k : Nat) (a0_0 : Int) (l0_1 : List (S92)) (l1 : List Int) : Option (Bool) := (spec_l9All.f k a0_0 l0_1 l1 false).bind fun t215 => (some ((t215.length : Int) == a0_0))
theorem spec_l9Forces.mono : ∀ a0 a1 a2 k, LeO (spec_l9Forces.f k a0 a1 a2) (spec_l9Forces.f (k + 1) a0 a1 a2) := by
 intro a0 a1 a2 k
 unfold spec_l9Forces.f
 repeat' first
   | (with_reducible exact spec_l9All.mono _ _ _ _ _)
   | (with_reducible exact LeO.refl _)
   | (with_reducible exact LeO.none _)
   | (with_reducible refine LeO.ite ?_ ?_)
   | (with_reducible refine LeO.bind ?_ (fun _ => ?_))
   | exact spec_l9All.mono _ _ _ _ _
   | exact LeO.none _
   | refine LeO.ite ?_ ?_
   | refine LeO.bind ?_ (fun _ => ?_)
def spec_l9Forces.T1 : Bool × List (List Nat × List Nat) := (true, [([], []), ([], []), ([0, 1], [0, 1]), ([2], [2]), ([], []), ([4], [4]), ([3, 5], [3, 5]), ([6, 2, 0, 1, 2, 3, 4, 5, 6], [6])])
def spec_l9Forces.B1 : List Nat := [0, 0, 3, 7, 0, 16, 63, 127]
theorem spec_l9Forces.tab1 : rtab .any (opsOf Tryd.f59 1) = spec_l9Forces.T1 := by kernel_rfl
theorem spec_l9Forces.bits1 : waitsOk spec_l9Forces.T1.2 spec_l9Forces.B1 = true := by kernel_rfl
set_option maxHeartbeats 8000000 in
set_option maxRecDepth 100000 in
theorem spec_l9Forces.calls (k : Nat) (a0_0 : Int) (A0_1 : Option Addr) (c0_1 : Nat) (l0_1 : List (S92)) (A1 : Option Addr) (c1 : Nat) (l1 : List Int) (r : Bool) (w : World) (hr0_1 : Kd.C k92 w A0_1 l0_1.length l0_1) (hc0_1 : l0_1.length ≤ c0_1) (hr1 : Kd.C (Kd.int .i64) w A1 l1.length l1) (hc1 : l1.length ≤ c1) (h : spec_l9Forces.f k a0_0 l0_1 l1 = some r) :
  Calls Tryd.prog 59 #[.agg #[.int .i64 a0_0, .slice A0_1 l0_1.length c0_1], .slice A1 l1.length c1] w fun e w' => e = .returned (.bool r) ∧ Below w.heap.size w w' := by
 have hu28 := Tryd.underlying28
 have HR0_1 := Aside0.mk hr0_1
 have HC0_1 := Aside0.mk hc0_1
 clear hr0_1 hc0_1
 have HR1 := Aside0.mk hr1
 have HC1 := Aside0.mk hc1
 clear hr1 hc1
 have HB := Aside0.mk (Below.refl w.heap.size w)
 have H : ((spec_l9All.f k a0_0 l0_1 l1 false).bind fun t215 => (some ((t215.length : Int) == a0_0))) = some r := h
 clear h
 replace H := Option.bind_eq_some_iff.mp H
 obtain ⟨t215, A30, H⟩ := H
 replace H : (some ((t215.length : Int) == a0_0)) = some r := H
 have A3 := Aside0.mk A30
 clear A30
 obtain rfl := Option.some.inj H
 go_enter Tryd.func59, Tryd.ntmps59
 try go_wp2_with (first | ((with_reducible refine gate_dst (N := 2) rfl ?_);refine box_event ?hg (N := 2) ?hd (cs := #[.int .i64 a0_0, .slice A0_1 l0_1.length c0_1]) (t := 28) ?hr ?_;(case hd => rfl);(case hg => rfl);(case hr => first | (go_simp;done) | (go_simp;rfl));intro gb214 hg w4 hbox hb;have n0_ := Aside0.mk (below_step (by exact bB) hb);have n1_ := Aside0.mk (hbox);have n2_ := Aside0.mk ((by rw [hg];exact (below_size (by exact bB)) : w.heap.size ≤ gb214));have n3_ := Aside0.mk ((by rw [hg];exact (below_size (by exact bB)) : w.heap.size ≤ gb214));clear HB;have HB := n0_;have BK214 := n1_;have GW214 := n2_;have GE214 := n3_;clear n0_ n1_ n2_ n3_;clear hb hbox hg))
 have n0_ := Aside0.mk (blk_drew BK214.out)
 have n1_ := Aside0.mk (below_drew1 HB.out)
 clear BK214
 clear HB
 have BK214 := n0_
 have HB := n1_
 clear n0_ n1_
 refine start_ (n := 8) (S := fun w' => w'.cell? ⟨gb214, 0, none⟩ = some (.int .i64 a0_0) ∧ w'.cell? ⟨gb214, 1, none⟩ = some (.slice A0_1 l0_1.length c0_1)) (ds := []) #[false,false,false,false,false,false,false,false] (by kernel_rfl) rfl rfl ⟨(blk_cell BK214.out 0).trans rfl, (blk_cell BK214.out 1).trans rfl⟩ (fun hHeld => ?_);refine with_tabW spec_l9Forces.tab1 spec_l9Forces.bits1 (fun HT_ HW_ => ?_)
 generalize w4.drew = w5 at BK214 HB hHeld ⊢
 refine pure_ (i := 1) (N := some 6) (v := ?_) (a' := ?_) #[false,true,false,false,false,false,false,false] rfl rfl (any_of HT_.out (by kernel_rfl)) (fun _ _ _ h => h) (Or.inl ⟨by rfl, ?_⟩) ?_ ?_
 rotate_left
 ·intro w'
  go_simp
  with_reducible rfl
 rotate_left
 ·simp only [Act.put, List.setIfInBounds_toArray, List.set_cons_zero, List.set_cons_succ, i64_w, i32_w]
  rfl
 refine pure_ (i := 4) (N := some 9) (v := ?_) (a' := ?_) #[false,true,false,false,true,false,false,false] rfl rfl (any_of HT_.out (by kernel_rfl)) (fun _ _ _ h => h) (Or.inl ⟨by rfl, ?_⟩) ?_ ?_
 rotate_left
 ·intro w'
  go_simp
  with_reducible rfl
 rotate_left
 ·simp only [Act.put, List.setIfInBounds_toArray, List.set_cons_zero, List.set_cons_succ, i64_w, i32_w]
  rfl
 refine take_ (i := 0) (N := some 5) (v := ?_) (a' := ?_) #[true,true,false,false,true,false,false,false] rfl rfl (take_ofW HT_.out HW_.out (by kernel_rfl)) (fun _ _ _ h => h) (Or.inl ⟨by rfl, ?_⟩) hHeld ?_ ?_
 rotate_left
 ·rintro w' ⟨s0, s1⟩
  go_simp
  with_reducible rfl
 rotate_left
 ·simp only [Act.put, List.setIfInBounds_toArray, List.set_cons_zero, List.set_cons_succ, i64_w, i32_w]
  rfl
 refine take_ (i := 5) (N := some 10) (v := ?_) (a' := ?_) #[true,true,false,false,true,true,false,false] rfl rfl (take_ofW HT_.out HW_.out (by kernel_rfl)) (fun _ _ _ h => h) (Or.inl ⟨by rfl, ?_⟩) hHeld ?_ ?_
 rotate_left
 ·rintro w' ⟨s0, s1⟩
  go_simp
  with_reducible rfl
 rotate_left
 ·simp only [Act.put, List.setIfInBounds_toArray, List.set_cons_zero, List.set_cons_succ, i64_w, i32_w]
  rfl
 refine one_ (i := 2) (N := some 7) #[true,true,true,false,true,true,false,false] rfl rfl (one_of HT_.out (by kernel_rfl)) (by decide) (fun K hK => ?_)
 refine goes_ Tryd.func100 (by kernel_rfl) rfl #[.agg #[.int .i64 a0_0, .slice A0_1 l0_1.length c0_1], .slice A1 l1.length c1, .bool false] (by rfl) rfl rfl mM ?_
 with_reducible refine (spec_l9All.calls k a0_0 _ _ l0_1 _ _ l1 false t215 _ ?side1 ?side2 ?side3 ?side4 A3.out).mono ?_
 (case side1 => exact cP (Kd.C_below HR0_1.out HB.out))
 (case side2 => exact HC0_1.out)
 (case side3 => exact cP (Kd.C_below HR1.out HB.out))
 (case side4 => exact HC1.out)
 rintro e w6 ⟨v216, rfl, ho0, hb⟩
 refine ⟨_, rfl, ?_⟩
 have n0_ := Aside0.mk (Kd.R_lower ho0 (below_size (by exact bB)))
 have n1_ := Aside0.mk (blk_below (g := gb214) (o := .cells #[.int .i64 a0_0, .slice A0_1 l0_1.length c0_1] 28 (0, 0)) (by exact kP BK214.out) hb)
 have n2_ := Aside0.mk (below_step (by exact bB) hb)
 clear BK214
 clear HB
 have HO217 := n0_
 have BK214 := n1_
 have HB := n2_
 clear n0_ n1_ n2_
 (try clear hb)
 (try clear hb2)
 (try clear hk)
 (try clear hi)
 (try clear ho0)
 obtain ⟨Ao7, co7, eo7⟩ := Kd.R_slice HO217.out
 (first | subst eo7 | (injection eo7 with f1_ f2_ f3_;have f4_ := f1_.symm;have f5_ := f3_.symm;clear f1_ f2_ f3_;subst f4_;subst f5_))
 refine hK.out _ _ ⟨(blk_cell BK214.out 0).trans rfl, (blk_cell BK214.out 1).trans rfl⟩ (fun hHeld => ?_)
 clear hK K
 refine norm_ (a' := ?_) ?_ ?_
 rotate_left
 ·show Act.put _ (some 7) _ = _
  simp only [Act.put, List.setIfInBounds_toArray, List.set_cons_zero, List.set_cons_succ, i64_w, i32_w]
  rfl
 refine pure_ (i := 3) (N := some 8) (v := ?_) (a' := ?_) #[true,true,true,true,true,true,false,false] rfl rfl (any_of HT_.out (by kernel_rfl)) (fun _ _ _ h => h) (Or.inl ⟨by rfl, ?_⟩) ?_ ?_
 rotate_left
 ·intro w'
  go_simp
  with_reducible rfl
 rotate_left
 ·simp only [Act.put, List.setIfInBounds_toArray, List.set_cons_zero, List.set_cons_succ, i64_w, i32_w]
  rfl
 refine pure_ (i := 6) (N := some 11) (v := ?_) (a' := ?_) #[true,true,true,true,true,true,true,false] rfl rfl (any_of HT_.out (by kernel_rfl)) (fun _ _ _ h => h) (Or.inl ⟨by rfl, ?_⟩) ?_ ?_
 rotate_left
 ·intro w'
  go_simp
  with_reducible rfl
 rotate_left
 ·simp only [Act.put, List.setIfInBounds_toArray, List.set_cons_zero, List.set_cons_succ, i64_w, i32_w]
  rfl
 refine pure_ (i := 7) (N := some 4) (v := ?_) (a' := ?_) #[true,true,true,true,true,true,true,true] rfl rfl (any_of HT_.out (by kernel_rfl)) (fun _ _ _ h => h) (Or.inl ⟨by rfl, ?_⟩) ?_ ?_
 rotate_left
 ·intro w'
  go_simp
  with_reducible rfl
 rotate_left
 ·simp only [Act.put, List.setIfInBounds_toArray, List.set_cons_zero, List.set_cons_succ, i64_w, i32_w]
  rfl
 refine done_ (done_of HT_.out (by kernel_rfl)) ?_
 try go_wp2
 go_ret
 exact ⟨by first | rfl | (simp [errW_none, errW_some] <;> rfl) | (simp [*, errW_none, errW_some] <;> rfl), by exact bB⟩




end Go.Proofs.YthbjajppdomhhaaDoor.QChainsOf
