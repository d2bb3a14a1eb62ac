import Derived.Test.YthbjajppdomhhaaDoorQEternalNumber0
import Derived.Test.YthbjajppdomhhaaDoorQEternalNumber12
import Derived.Test.YthbjajppdomhhaaDoorQEternalNumber13
import Derived.Test.YthbjajppdomhhaaDoorQEternalNumber17
import Derived.Test.YthbjajppdomhhaaDoorQEternalNumber18
import Derived.Test.YthbjajppdomhhaaDoorQEternalNumber19
namespace Go.Proofs.YthbjajppdomhhaaDoor.QEternalNumber
open Go.RowKit Go.Proofs.YthbjajppdomhhaaDoorW.PrintWords Go.Proofs.YthbjajppdomhhaaDoorW.PrintLast Go.Proofs.YthbjajppdomhhaaDoorW.PrintMore
attribute [local go_sem] max2_int min2_int max_two min_two max_three min_three max_four min_four   -- for this text's walks alone
set_option linter.unusedVariables false
set_option linter.unusedSimpArgs false
/-! ### impl_gameResist: by hand -/
def impl_gameResist.f (k : Nat) (l0_0 : List Int) (a1 : Int) (a2 : Bool) : Option (List Int) := (impl_net_guardGame.f k l0_0 a1 a2).bind fun g => ((impl_guardGame_resist.f k g.1 g.2.1 g.2.2).bind fun r => some r.1)
theorem impl_gameResist.mono : ∀ a0 a1 a2 k, LeO (impl_gameResist.f k a0 a1 a2) (impl_gameResist.f (k + 1) a0 a1 a2) := by
 intro a0 a1 a2 k
 unfold impl_gameResist.f
 refine LeO.bind (impl_net_guardGame.mono _ _ _ _) (fun g => ?_)
 refine LeO.bind (impl_guardGame_resist.mono _ _ _ _) (fun r => LeO.refl _)
theorem impl_gameResist.use {k : Nat} {l0 : List Int} {a1 : Int} {a2 : Bool} {r : List Int} (h : impl_gameResist.f k l0 a1 a2 = some r) : ∃ n s m q, impl_net_guardGame.f k l0 a1 a2 = some (n, s, m) ∧ impl_guardGame_resist.f k n s m = some (r, q) := by
 unfold impl_gameResist.f at h
 obtain ⟨⟨n, s, m⟩, h1, h⟩ := Option.bind_eq_some_iff.1 h
 obtain ⟨⟨r', q⟩, h2, h⟩ := Option.bind_eq_some_iff.1 h
 obtain rfl := Option.some.inj h
 exact ⟨n, s, m, q, h1, h2⟩
theorem game_is {w' : World} {g b1 b2 : Nat} {n : Int} {s m : List (List Int)} {v1 v2 : Value} {ok1 ok2 : Nat → Prop} (hb : w'.heap[g]? = some (.cells #[.int .i64 n, v1, v2] 89 (0, 0))) (h1 : Kd.S (Kd.slice 3 (Kd.int .i64)) 32 w' b1 ok1 v1 s) (h2 : Kd.S (Kd.slice 3 (Kd.int .i64)) 32 w' b2 ok2 v2 m) : IsS89 w' w' g n s m := by
 obtain ⟨A1, c1, rfl⟩ := Kd.S_slice h1
 obtain ⟨A2, c2, rfl⟩ := Kd.S_slice h2
 exact ⟨A1, c1, A2, c2, hb, trivial, (Kd.S_reads' h1).2.2, (Kd.S_reads' h2).2.2⟩
theorem game_known (k g : Nat) (n : Int) (s m : List (List Int)) (r : List Int) (q : Int) (W wg : World) (hI : IsS89 wg wg g n s m) (hbg : Below W.heap.size W wg) (h : impl_guardGame_resist.f k n s m = some (r, q)) :
  Calls Tryd.prog 67 #[.pointer (some ⟨g, 0, none⟩)] wg fun e w' => ∃ v : Value, e = .returned v ∧ Kd.R (Kd.int .i64) 3 w' W.heap.size (fun _ => True) v r ∧ Below W.heap.size W w' := by
 refine (impl_guardGame_resist.calls k g n s m r q wg wg hI (Below.refl _ _) h).mono ?_
 rintro e w' ⟨v, rfl, hr, _, hb, _⟩
 exact ⟨v, rfl, Kd.R_lower hr hbg.size, below_step hbg hb⟩

/-! ### impl_EternalNumber: function 35 -/
def impl_EternalNumber.l0 : Nat → Bool → Int → Int → Int → List (S92) → Option (Int × Bool)
 | 0, _, _, _, _, _ => none
 | k + 1, x1, x12, x13, x625000, x625001 => if x13 < x12 then ((impl_netOf.f x625000 x625001).bind fun t626 => ((impl_gameResist.f k t626 x13 x1).bind fun t629 => ((slices_Contains_int_int.f k t629 (-1)).bind fun t632 => (if t632 = true then (some (x13, true)) else (impl_EternalNumber.l0 k x1 x12 (wrap64 (x13 + 1)) x625000 x625001))))) else (some (0, false))
def impl_EternalNumber.f (k : Nat) (a0_0 : Int) (l0_1 : List (S92)) (a1 : Bool) : Option (Int × Bool) := (impl_IsGraph.f a0_0 l0_1).bind fun t625 => (if t625 = true then (impl_EternalNumber.l0 k a1 (wrap64 (a0_0 + 1)) 0 a0_0 l0_1) else (some (0, false)))
theorem impl_EternalNumber.mono_l : ∀ k, (∀ y0 y1 y2 y3 y4, LeO (impl_EternalNumber.l0 k y0 y1 y2 y3 y4) (impl_EternalNumber.l0 (k + 1) y0 y1 y2 y3 y4))
 | 0 => fun _ _ _ _ _ r h => by simp [impl_EternalNumber.l0] at h
 | k + 1 => by
  have ih0 := impl_EternalNumber.mono_l k
  ·intro y0 y1 y2 y3 y4
   unfold impl_EternalNumber.l0
   repeat' first
   | (with_reducible exact ih0 _ _ _ _ _)
   | (with_reducible exact impl_gameResist.mono _ _ _ _)
   | (with_reducible exact slices_Contains_int_int.mono _ _ _)
   | (with_reducible exact LeO.refl _)
   | (with_reducible exact LeO.none _)
   | (with_reducible refine LeO.ite ?_ ?_)
   | (with_reducible refine LeO.bind ?_ (fun _ => ?_))
   | exact ih0 _ _ _ _ _
   | exact impl_gameResist.mono _ _ _ _
   | exact slices_Contains_int_int.mono _ _ _
   | exact LeO.none _
   | refine LeO.ite ?_ ?_
   | refine LeO.bind ?_ (fun _ => ?_)
theorem impl_EternalNumber.mono : ∀ a0 a1 a2 k, LeO (impl_EternalNumber.f k a0 a1 a2) (impl_EternalNumber.f (k + 1) a0 a1 a2) := by
 intro a0 a1 a2 k
 have ih0 := impl_EternalNumber.mono_l k
 unfold impl_EternalNumber.f
 repeat' first
   | (with_reducible exact ih0 _ _ _ _ _)
   | (with_reducible exact impl_gameResist.mono _ _ _ _)
   | (with_reducible exact slices_Contains_int_int.mono _ _ _)
   | (with_reducible exact LeO.refl _)
   | (with_reducible exact LeO.none _)
   | (with_reducible refine LeO.ite ?_ ?_)
   | (with_reducible refine LeO.bind ?_ (fun _ => ?_))
   | exact ih0 _ _ _ _ _
   | exact impl_gameResist.mono _ _ _ _
   | exact slices_Contains_int_int.mono _ _ _
   | exact LeO.none _
   | refine LeO.ite ?_ ?_
   | refine LeO.bind ?_ (fun _ => ?_)
set_option maxHeartbeats 8000000 in
set_option maxRecDepth 100000 in
theorem impl_EternalNumber.calls (k : Nat) (a0_0 : Int) (A0_1 : Option Addr) (c0_1 : Nat) (l0_1 : List (S92)) (a1 : Bool) (r1 : Int) (r2 : Bool) (w : World) (hT : TabG w) (hr0_1 : Kd.C k92 w A0_1 l0_1.length l0_1) (hc0_1 : l0_1.length ≤ c0_1) (h : impl_EternalNumber.f k a0_0 l0_1 a1 = some (r1, r2)) :
  Calls Tryd.prog 35 #[.agg #[.int .i64 a0_0, .slice A0_1 l0_1.length c0_1], .bool a1] w fun e w' => e = .returned (.tuple #[.int .i64 r1, .bool r2]) ∧ Below w.heap.size w w' := by
 have hu28 := Tryd.underlying28
 have HR0_1 := Aside0.mk hr0_1
 have HC0_1 := Aside0.mk hc0_1
 clear hr0_1 hc0_1
 have HB := Aside0.mk (Below.refl w.heap.size w)
 have HT := Aside0.mk hT
 clear hT
 have H : ((impl_IsGraph.f a0_0 l0_1).bind fun t625 => (if t625 = true then (impl_EternalNumber.l0 k a1 (wrap64 (a0_0 + 1)) 0 a0_0 l0_1) else (some (0, false)))) = some (r1, r2) := h
 clear h
 replace H := Option.bind_eq_some_iff.mp H
 obtain ⟨t625, A30, H⟩ := H
 replace H : (if t625 = true then (impl_EternalNumber.l0 k a1 (wrap64 (a0_0 + 1)) 0 a0_0 l0_1) else (some (0, false))) = some (r1, r2) := H
 have A3 := Aside0.mk A30
 clear A30
 by_cases c4 : t625 = true
 ·subst c4
  have H1 : (impl_EternalNumber.l0 k a1 (wrap64 (a0_0 + 1)) 0 a0_0 l0_1) = some (r1, r2) := by rw [if_pos rfl] at H;exact H
  clear H
  have H := H1
  clear H1
  have H' := Aside0.mk H
  clear H
  go_enter Tryd.func35, Tryd.ntmps35
  go_wp2_with (first | ((with_reducible refine gate_dst (N := 2) rfl ?_);refine box_event ?hg (N := 2) ?hd (cs := #[.int .i64 a0_0, .slice A0_1 l0_1.length c0_1]) (t := 28) ?hr ?_;(case hd => rfl);(case hg => rfl);(case hr => first | (go_simp;done) | (go_simp;rfl));intro gb624 hg w5 hbox hb;have n0_ := Aside0.mk (below_step (by exact bB) hb);have n1_ := Aside0.mk (hbox);have n2_ := Aside0.mk ((by rw [hg];exact (below_size (by exact bB)) : w.heap.size ≤ gb624));have n3_ := Aside0.mk ((by rw [hg];exact (below_size (by exact bB)) : w.heap.size ≤ gb624));clear HB;have HB := n0_;have BK624 := n1_;have GW624 := n2_;have GE624 := n3_;clear n0_ n1_ n2_ n3_;clear hb hbox hg;have hcz6_0 : w5.cell? ⟨gb624, 0, none⟩ = some (.int .i64 a0_0) := (blk_cell BK624.out 0).trans rfl;have hcz6_1 : w5.cell? ⟨gb624, 1, none⟩ = some (.slice A0_1 l0_1.length c0_1) := (blk_cell BK624.out 1).trans rfl;have hfz6_0 := blk_frozen BK624.out 0;have hfz6_1 := blk_frozen BK624.out 1) | ((with_reducible refine gate_callee (f := 44) rfl ?_);refine goesL_ (some 8) rfl rfl Tryd.func44 (by kernel_rfl) rfl #[.agg #[.int .i64 a0_0, .slice A0_1 l0_1.length c0_1]] rfl mM ?_;(with_reducible refine (impl_IsGraph.calls a0_0 _ _ l0_1 true _ ?side1 ?side2 A3.out).mono ?_);(case side1 => exact cP (Kd.C_below HR0_1.out HB.out));(case side2 => exact HC0_1.out);rintro e w7 ⟨rfl, hb⟩;refine ⟨_, rfl, ?_⟩;have n0_ := Aside0.mk (blk_below (g := gb624) (o := .cells #[.int .i64 a0_0, .slice A0_1 l0_1.length c0_1] 28 (0, 0)) (by exact kP BK624.out) hb);have n1_ := Aside0.mk (below_step (by exact bB) hb);clear BK624;clear HB;have BK624 := n0_;have HB := n1_;clear n0_ n1_;(try clear hb);(try clear hb2);(try clear hk);(try clear hi);have hcz8_0 : w7.cell? ⟨gb624, 0, none⟩ = some (.int .i64 a0_0) := (blk_cell BK624.out 0).trans rfl;have hcz8_1 : w7.cell? ⟨gb624, 1, none⟩ = some (.slice A0_1 l0_1.length c0_1) := (blk_cell BK624.out 1).trans rfl;have hfz8_0 := blk_frozen BK624.out 0;have hfz8_1 := blk_frozen BK624.out 1))
  go_loopg [13] k (fun kq v13 w' => ∃ (x13_1 : Int), v13 = .int .i64 x13_1 ∧ Aside0 (impl_EternalNumber.l0 kq a1 (wrap64 (a0_0 + 1)) x13_1 a0_0 l0_1 = some (r1, r2)) ∧ Aside0 (kq ≤ k) ∧ Aside0 (w'.heap[gb624]? = some (.cells #[.int .i64 a0_0, (.slice A0_1 l0_1.length c0_1)] 28 (0, 0))) ∧ Aside0 (Below w.heap.size w w'))
  case atStart => exact ⟨(0), (by first | rfl | (simp;done) | (simp [*];done)), H', ⟨Nat.le_refl _⟩, ⟨by exact kP BK624.out⟩, ⟨by exact bB⟩⟩
  case round =>
   clear H'
   try clear p2
   try clear c3
   try clear c4
   try clear p6
   try clear hcz6_0
   try clear hcz6_1
   try clear hcz8_0
   try clear hcz8_1
   try clear hfz6_0
   try clear hfz6_1
   try clear hfz8_0
   try clear hfz8_1
   obtain ⟨x13_1, rfl, HA, HK1, BK624, HB⟩ := hrel
   cases gk with
   | zero => exact absurd HA.out (by simp [impl_EternalNumber.l0])
   | succ k1 =>
    have H := HA.out
    clear HA
    simp only [impl_EternalNumber.l0] at H
    by_cases c9 : x13_1 < (wrap64 (a0_0 + 1))
    ·rw [if_pos c9] at H
     have c9b0 : decide (x13_1 < (wrap64 (a0_0 + 1))) = true := decide_eq_true c9
     clear c9
     replace H := Option.bind_eq_some_iff.mp H
     obtain ⟨t626, A100, H⟩ := H
     replace H : ((impl_gameResist.f k1 t626 x13_1 a1).bind fun t629 => ((slices_Contains_int_int.f k1 t629 (-1)).bind fun t632 => (if t632 = true then (some (x13_1, true)) else (impl_EternalNumber.l0 k1 a1 (wrap64 (a0_0 + 1)) (wrap64 (x13_1 + 1)) a0_0 l0_1)))) = some (r1, r2) := H
     have A10 := Aside0.mk A100
     clear A100
     replace H := Option.bind_eq_some_iff.mp H
     obtain ⟨t629, A110, H⟩ := H
     replace H : ((slices_Contains_int_int.f k1 t629 (-1)).bind fun t632 => (if t632 = true then (some (x13_1, true)) else (impl_EternalNumber.l0 k1 a1 (wrap64 (a0_0 + 1)) (wrap64 (x13_1 + 1)) a0_0 l0_1))) = some (r1, r2) := H
     have A11 := Aside0.mk A110
     clear A110
     replace H := Option.bind_eq_some_iff.mp H
     obtain ⟨t632, A120, H⟩ := H
     replace H : (if t632 = true then (some (x13_1, true)) else (impl_EternalNumber.l0 k1 a1 (wrap64 (a0_0 + 1)) (wrap64 (x13_1 + 1)) a0_0 l0_1)) = some (r1, r2) := H
     have A12 := Aside0.mk A120
     clear A120
     by_cases c13 : t632 = true
     ·subst c13
      have H1 : (some (x13_1, true)) = some (r1, r2) := by rw [if_pos rfl] at H;exact H
      clear H
      have H := H1
      clear H1
      simp only [Option.some.injEq, Prod.mk.injEq] at H
      obtain ⟨rfl, rfl⟩ := H
      have hcz14_0 : wr.cell? ⟨gb624, 0, none⟩ = some (.int .i64 a0_0) := (blk_cell BK624.out 0).trans rfl
      have hcz14_1 : wr.cell? ⟨gb624, 1, none⟩ = some (.slice A0_1 l0_1.length c0_1) := (blk_cell BK624.out 1).trans rfl
      have hfz14_0 := blk_frozen BK624.out 0
      have hfz14_1 := blk_frozen BK624.out 1
      go_wp2_with (first | ((with_reducible refine gate_callee (f := 45) rfl ?_);refine goesL_ (some 17) rfl rfl Tryd.func45 (by kernel_rfl) rfl #[.agg #[.int .i64 a0_0, .slice A0_1 l0_1.length c0_1]] rfl mM ?_;(with_reducible refine (impl_netOf.calls a0_0 _ _ l0_1 t626 _ ?side1 ?side2 A10.out).mono ?_);(case side1 => exact cP (Kd.C_below HR0_1.out HB.out));(case side2 => exact HC0_1.out);rintro e w15 ⟨v627, rfl, ho0, hb⟩;refine ⟨_, rfl, ?_⟩;have n0_ := Aside0.mk (Kd.R_lower ho0 (below_size (by exact bB)));have n1_ := Aside0.mk (blk_below (g := gb624) (o := .cells #[.int .i64 a0_0, .slice A0_1 l0_1.length c0_1] 28 (0, 0)) (by exact kP BK624.out) hb);have n2_ := Aside0.mk (below_step (by exact bB) hb);clear BK624;clear HB;have HO628 := n0_;have BK624 := n1_;have HB := n2_;clear n0_ n1_ n2_;(try clear hb);(try clear hb2);(try clear hk);(try clear hi);(try clear ho0);obtain ⟨Ao16, co16, eo16⟩ := Kd.R_slice HO628.out;subst eo16) | ((with_reducible refine gate_callee (f := 66) rfl ?_);obtain ⟨n_, s_, m_, q_, hg_, hq_⟩ := impl_gameResist.use A11.out;refine goesL_ (some 20) rfl rfl Tryd.func66 (by kernel_rfl) rfl #[.agg #[.slice Ao16 t626.length co16], .int .i64 x13_1, .bool a1] rfl mM ?_;(with_reducible refine (impl_net_guardGame.calls k1 _ _ t626 x13_1 a1 n_ s_ m_ _ ?sideT ?side1 ?side2 hg_).mono ?_);(case sideT => exact tabG_below HT.out (by exact bB));(case side1 => exact cP (Kd.R_reads' HO628.out).2.2);(case side2 => exact (Kd.R_reads' HO628.out).2.1);rintro e wg ⟨gG, vg1, vg2, rfl, hbx_, hge_, hs1_, hs2_, hbg⟩;refine ⟨_, rfl, ?_⟩;have HGS := Aside0.mk (game_is hbx_ hs1_ hs2_);have HBG := Aside0.mk hbg;have HQ_ := Aside0.mk hq_;clear hbx_ hge_ hs1_ hs2_ hbg hg_ hq_) | ((with_reducible refine gate_callee (f := 67) rfl ?_);refine goesL_ (some 21) rfl rfl Tryd.func67 (by kernel_rfl) rfl #[.pointer (some ⟨gG, 0, none⟩)] rfl mM ?_;refine (game_known k1 gG n_ s_ m_ t629 q_ _ _ HGS.out HBG.out HQ_.out).mono ?_;rintro e w17 ⟨v630, rfl, ho0, hb⟩;refine ⟨_, rfl, ?_⟩;have n0_ := Aside0.mk (Kd.R_elder' (by exact rP HO628.out) (Kd.R_base ho0) hb);have n1_ := Aside0.mk (Kd.R_lower (Kd.R_new' ho0 (Kd.R_lt (by exact rP HO628.out))) (below_size (by exact bB)));have n2_ := Aside0.mk (blk_below (g := gb624) (o := .cells #[.int .i64 a0_0, .slice A0_1 l0_1.length c0_1] 28 (0, 0)) (by exact kP BK624.out) hb);have n3_ := Aside0.mk (below_step (by exact bB) hb);clear HO628;clear BK624;clear HB;have HO628 := n0_;have HO631 := n1_;have BK624 := n2_;have HB := n3_;clear n0_ n1_ n2_ n3_;(try clear hb);(try clear hb2);(try clear hk);(try clear hi);(try clear ho0);obtain ⟨Ao18, co18, eo18⟩ := Kd.R_slice HO631.out;subst eo18) | ((with_reducible refine gate_callee (f := 65) rfl ?_);refine goesL_ (some 22) rfl rfl Tryd.func65 (by kernel_rfl) rfl #[.slice Ao18 t629.length co18, .int .i64 (-1)] rfl mM ?_;(with_reducible refine (slices_Contains_int_int.calls k1 _ _ t629 (-1) true _ ?side1 ?side2 A12.out).mono ?_);(case side1 => exact cP (Kd.R_reads' HO631.out).2.2);(case side2 => exact (Kd.R_reads' HO631.out).2.1);rintro e w' ⟨rfl, ⟨nd, rfl⟩⟩;refine ⟨_, rfl, ?_⟩))
      go_ret2
      exact ⟨by first | rfl | (simp [errW_none, errW_some] <;> rfl) | (simp [*, errW_none, errW_some] <;> rfl), by exact bB⟩
     ·replace c13 := Bool.eq_false_iff.mpr c13
      subst c13
      have H1 : (impl_EternalNumber.l0 k1 a1 (wrap64 (a0_0 + 1)) (wrap64 (x13_1 + 1)) a0_0 l0_1) = some (r1, r2) := by rw [if_neg (show ¬ (false = true) by decide)] at H;exact H
      clear H
      have H := H1
      clear H1
      have H' := Aside0.mk H
      clear H
      have hcz19_0 : wr.cell? ⟨gb624, 0, none⟩ = some (.int .i64 a0_0) := (blk_cell BK624.out 0).trans rfl
      have hcz19_1 : wr.cell? ⟨gb624, 1, none⟩ = some (.slice A0_1 l0_1.length c0_1) := (blk_cell BK624.out 1).trans rfl
      have hfz19_0 := blk_frozen BK624.out 0
      have hfz19_1 := blk_frozen BK624.out 1
      go_wp2_with (first | ((with_reducible refine gate_callee (f := 45) rfl ?_);refine goesL_ (some 17) rfl rfl Tryd.func45 (by kernel_rfl) rfl #[.agg #[.int .i64 a0_0, .slice A0_1 l0_1.length c0_1]] rfl mM ?_;(with_reducible refine (impl_netOf.calls a0_0 _ _ l0_1 t626 _ ?side1 ?side2 A10.out).mono ?_);(case side1 => exact cP (Kd.C_below HR0_1.out HB.out));(case side2 => exact HC0_1.out);rintro e w20 ⟨v627, rfl, ho0, hb⟩;refine ⟨_, rfl, ?_⟩;have n0_ := Aside0.mk (Kd.R_lower ho0 (below_size (by exact bB)));have n1_ := Aside0.mk (blk_below (g := gb624) (o := .cells #[.int .i64 a0_0, .slice A0_1 l0_1.length c0_1] 28 (0, 0)) (by exact kP BK624.out) hb);have n2_ := Aside0.mk (below_step (by exact bB) hb);clear BK624;clear HB;have HO628 := n0_;have BK624 := n1_;have HB := n2_;clear n0_ n1_ n2_;(try clear hb);(try clear hb2);(try clear hk);(try clear hi);(try clear ho0);obtain ⟨Ao21, co21, eo21⟩ := Kd.R_slice HO628.out;subst eo21) | ((with_reducible refine gate_callee (f := 66) rfl ?_);obtain ⟨n_, s_, m_, q_, hg_, hq_⟩ := impl_gameResist.use A11.out;refine goesL_ (some 20) rfl rfl Tryd.func66 (by kernel_rfl) rfl #[.agg #[.slice Ao21 t626.length co21], .int .i64 x13_1, .bool a1] rfl mM ?_;(with_reducible refine (impl_net_guardGame.calls k1 _ _ t626 x13_1 a1 n_ s_ m_ _ ?sideT ?side1 ?side2 hg_).mono ?_);(case sideT => exact tabG_below HT.out (by exact bB));(case side1 => exact cP (Kd.R_reads' HO628.out).2.2);(case side2 => exact (Kd.R_reads' HO628.out).2.1);rintro e wg ⟨gG, vg1, vg2, rfl, hbx_, hge_, hs1_, hs2_, hbg⟩;refine ⟨_, rfl, ?_⟩;have HGS := Aside0.mk (game_is hbx_ hs1_ hs2_);have HBG := Aside0.mk hbg;have HQ_ := Aside0.mk hq_;clear hbx_ hge_ hs1_ hs2_ hbg hg_ hq_) | ((with_reducible refine gate_callee (f := 67) rfl ?_);refine goesL_ (some 21) rfl rfl Tryd.func67 (by kernel_rfl) rfl #[.pointer (some ⟨gG, 0, none⟩)] rfl mM ?_;refine (game_known k1 gG n_ s_ m_ t629 q_ _ _ HGS.out HBG.out HQ_.out).mono ?_;rintro e w22 ⟨v630, rfl, ho0, hb⟩;refine ⟨_, rfl, ?_⟩;have n0_ := Aside0.mk (Kd.R_elder' (by exact rP HO628.out) (Kd.R_base ho0) hb);have n1_ := Aside0.mk (Kd.R_lower (Kd.R_new' ho0 (Kd.R_lt (by exact rP HO628.out))) (below_size (by exact bB)));have n2_ := Aside0.mk (blk_below (g := gb624) (o := .cells #[.int .i64 a0_0, .slice A0_1 l0_1.length c0_1] 28 (0, 0)) (by exact kP BK624.out) hb);have n3_ := Aside0.mk (below_step (by exact bB) hb);clear HO628;clear BK624;clear HB;have HO628 := n0_;have HO631 := n1_;have BK624 := n2_;have HB := n3_;clear n0_ n1_ n2_ n3_;(try clear hb);(try clear hb2);(try clear hk);(try clear hi);(try clear ho0);obtain ⟨Ao23, co23, eo23⟩ := Kd.R_slice HO631.out;subst eo23) | ((with_reducible refine gate_callee (f := 65) rfl ?_);refine goesL_ (some 22) rfl rfl Tryd.func65 (by kernel_rfl) rfl #[.slice Ao23 t629.length co23, .int .i64 (-1)] rfl mM ?_;(with_reducible refine (slices_Contains_int_int.calls k1 _ _ t629 (-1) false _ ?side1 ?side2 A12.out).mono ?_);(case side1 => exact cP (Kd.R_reads' HO631.out).2.2);(case side2 => exact (Kd.R_reads' HO631.out).2.1);rintro e w' ⟨rfl, ⟨nd, rfl⟩⟩;refine ⟨_, rfl, ?_⟩))
      go_roundg k1
      case measure => have := HK1.out;omega
      case rel => exact ⟨(wrap64 (x13_1 + 1)), (by first | rfl | (simp;done) | (simp [*];done)), H', ⟨by have := HK1.out;omega⟩, ⟨by exact kP BK624.out⟩, ⟨by exact bB⟩⟩
    ·rw [if_neg c9] at H
     have c9b0 : decide (x13_1 < (wrap64 (a0_0 + 1))) = false := decide_eq_false c9
     clear c9
     simp only [Option.some.injEq, Prod.mk.injEq] at H
     obtain ⟨rfl, rfl⟩ := H
     go_wp2
     go_ret2
     exact ⟨by first | rfl | (simp [errW_none, errW_some] <;> rfl) | (simp [*, errW_none, errW_some] <;> rfl), by exact bB⟩
 ·replace c4 := Bool.eq_false_iff.mpr c4
  subst c4
  have H1 : (some (0, false)) = some (r1, r2) := by rw [if_neg (show ¬ (false = true) by decide)] at H;exact H
  clear H
  have H := H1
  clear H1
  simp only [Option.some.injEq, Prod.mk.injEq] at H
  obtain ⟨rfl, rfl⟩ := H
  go_enter Tryd.func35, Tryd.ntmps35
  go_wp2_with (first | ((with_reducible refine gate_dst (N := 2) rfl ?_);refine box_event ?hg (N := 2) ?hd (cs := #[.int .i64 a0_0, .slice A0_1 l0_1.length c0_1]) (t := 28) ?hr ?_;(case hd => rfl);(case hg => rfl);(case hr => first | (go_simp;done) | (go_simp;rfl));intro gb624 hg w24 hbox hb;have n0_ := Aside0.mk (below_step (by exact bB) hb);have n1_ := Aside0.mk (hbox);have n2_ := Aside0.mk ((by rw [hg];exact (below_size (by exact bB)) : w.heap.size ≤ gb624));have n3_ := Aside0.mk ((by rw [hg];exact (below_size (by exact bB)) : w.heap.size ≤ gb624));clear HB;have HB := n0_;have BK624 := n1_;have GW624 := n2_;have GE624 := n3_;clear n0_ n1_ n2_ n3_;clear hb hbox hg;have hcz25_0 : w24.cell? ⟨gb624, 0, none⟩ = some (.int .i64 a0_0) := (blk_cell BK624.out 0).trans rfl;have hcz25_1 : w24.cell? ⟨gb624, 1, none⟩ = some (.slice A0_1 l0_1.length c0_1) := (blk_cell BK624.out 1).trans rfl;have hfz25_0 := blk_frozen BK624.out 0;have hfz25_1 := blk_frozen BK624.out 1) | ((with_reducible refine gate_callee (f := 44) rfl ?_);refine goesL_ (some 8) rfl rfl Tryd.func44 (by kernel_rfl) rfl #[.agg #[.int .i64 a0_0, .slice A0_1 l0_1.length c0_1]] rfl mM ?_;(with_reducible refine (impl_IsGraph.calls a0_0 _ _ l0_1 false _ ?side1 ?side2 A3.out).mono ?_);(case side1 => exact cP (Kd.C_below HR0_1.out HB.out));(case side2 => exact HC0_1.out);rintro e w26 ⟨rfl, hb⟩;refine ⟨_, rfl, ?_⟩;have n0_ := Aside0.mk (blk_below (g := gb624) (o := .cells #[.int .i64 a0_0, .slice A0_1 l0_1.length c0_1] 28 (0, 0)) (by exact kP BK624.out) hb);have n1_ := Aside0.mk (below_step (by exact bB) hb);clear BK624;clear HB;have BK624 := n0_;have HB := n1_;clear n0_ n1_;(try clear hb);(try clear hb2);(try clear hk);(try clear hi)))
  go_ret2
  exact ⟨by first | rfl | (simp [errW_none, errW_some] <;> rfl) | (simp [*, errW_none, errW_some] <;> rfl), by exact bB⟩


end Go.Proofs.YthbjajppdomhhaaDoor.QEternalNumber
