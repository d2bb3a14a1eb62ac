import Derived.Test.YthbjajppdomhhaaDoorQResistances0
import Derived.Test.YthbjajppdomhhaaDoorQResistances11
import Derived.Test.YthbjajppdomhhaaDoorQResistances15
import Derived.Test.YthbjajppdomhhaaDoorQResistances16
import Derived.Test.YthbjajppdomhhaaDoorQResistances18
namespace Go.Proofs.YthbjajppdomhhaaDoor.QResistances
open Go.RowKit Go.Proofs.YthbjajppdomhhaaDoorW.PrintWords Go.Proofs.YthbjajppdomhhaaDoorW.PrintLast Go.Proofs.YthbjajppdomhhaaDoorW.PrintMore
attribute [local go_sem] max2_int min2_int max_two min_two max_three min_three max_four min_four   -- for this text's walks alone
set_option linter.unusedVariables false
set_option linter.unusedSimpArgs false
/-! ### impl_gameResist: by hand -/
def impl_gameResist.f (k : Nat) (l0_0 : List Int) (a1 : Int) (a2 : Bool) : Option (List Int) := (impl_net_guardGame.f k l0_0 a1 a2).bind fun g => ((impl_guardGame_resist.f k g.1 g.2.1 g.2.2).bind fun r => some r.1)
theorem impl_gameResist.mono : ∀ a0 a1 a2 k, LeO (impl_gameResist.f k a0 a1 a2) (impl_gameResist.f (k + 1) a0 a1 a2) := by
 intro a0 a1 a2 k
 unfold impl_gameResist.f
 refine LeO.bind (impl_net_guardGame.mono _ _ _ _) (fun g => ?_)
 refine LeO.bind (impl_guardGame_resist.mono _ _ _ _) (fun r => LeO.refl _)
theorem impl_gameResist.use {k : Nat} {l0 : List Int} {a1 : Int} {a2 : Bool} {r : List Int} (h : impl_gameResist.f k l0 a1 a2 = some r) : ∃ n s m q, impl_net_guardGame.f k l0 a1 a2 = some (n, s, m) ∧ impl_guardGame_resist.f k n s m = some (r, q) := by
 unfold impl_gameResist.f at h
 obtain ⟨⟨n, s, m⟩, h1, h⟩ := Option.bind_eq_some_iff.1 h
 obtain ⟨⟨r', q⟩, h2, h⟩ := Option.bind_eq_some_iff.1 h
 obtain rfl := Option.some.inj h
 exact ⟨n, s, m, q, h1, h2⟩
theorem game_is {w' : World} {g b1 b2 : Nat} {n : Int} {s m : List (List Int)} {v1 v2 : Value} {ok1 ok2 : Nat → Prop} (hb : w'.heap[g]? = some (.cells #[.int .i64 n, v1, v2] 89 (0, 0))) (h1 : Kd.S (Kd.slice 3 (Kd.int .i64)) 32 w' b1 ok1 v1 s) (h2 : Kd.S (Kd.slice 3 (Kd.int .i64)) 32 w' b2 ok2 v2 m) : IsS89 w' w' g n s m := by
 obtain ⟨A1, c1, rfl⟩ := Kd.S_slice h1
 obtain ⟨A2, c2, rfl⟩ := Kd.S_slice h2
 exact ⟨A1, c1, A2, c2, hb, trivial, (Kd.S_reads' h1).2.2, (Kd.S_reads' h2).2.2⟩
theorem game_known (k g : Nat) (n : Int) (s m : List (List Int)) (r : List Int) (q : Int) (W wg : World) (hI : IsS89 wg wg g n s m) (hbg : Below W.heap.size W wg) (h : impl_guardGame_resist.f k n s m = some (r, q)) :
  Calls Tryd.prog 67 #[.pointer (some ⟨g, 0, none⟩)] wg fun e w' => ∃ v : Value, e = .returned v ∧ Kd.R (Kd.int .i64) 3 w' W.heap.size (fun _ => True) v r ∧ Below W.heap.size W w' := by
 refine (impl_guardGame_resist.calls k g n s m r q wg wg hI (Below.refl _ _) h).mono ?_
 rintro e w' ⟨v, rfl, hr, _, hb, _⟩
 exact ⟨v, rfl, Kd.R_lower hr hbg.size, below_step hbg hb⟩

/-! ### impl_Resistances: function 39 -/
def impl_Resistances.j0 : Nat → Int → Bool → Bool → Int → List (S92) → Option (List Int × Bool)
 | 0, _, _, _, _, _ => none
 | k + 1, x1, x2, x17, x518000, x518001 => if x17 = true then (some (([] : List Int), false)) else ((impl_netOf.f x518000 x518001).bind fun t520 => ((impl_gameResist.f k t520 x1 x2).bind fun t523 => (some (t523, true))))
def impl_Resistances.f (k : Nat) (a0_0 : Int) (l0_1 : List (S92)) (a1 : Int) (a2 : Bool) : Option (List Int × Bool) := (impl_IsGraph.f a0_0 l0_1).bind fun t518 => (if t518 = true then ((impl_within.f a1 0 a0_0).bind fun t519 => (impl_Resistances.j0 k a1 a2 (!t519) a0_0 l0_1)) else (impl_Resistances.j0 k a1 a2 true a0_0 l0_1))
theorem impl_Resistances.mono_l : ∀ k, (∀ y0 y1 y2 y3 y4, LeO (impl_Resistances.j0 k y0 y1 y2 y3 y4) (impl_Resistances.j0 (k + 1) y0 y1 y2 y3 y4))
 | 0 => fun _ _ _ _ _ r h => by simp [impl_Resistances.j0] at h
 | k + 1 => by
  have ih0 := impl_Resistances.mono_l k
  ·intro y0 y1 y2 y3 y4
   unfold impl_Resistances.j0
   repeat' first
   | (with_reducible exact ih0 _ _ _ _ _)
   | (with_reducible exact impl_gameResist.mono _ _ _ _)
   | (with_reducible exact LeO.refl _)
   | (with_reducible exact LeO.none _)
   | (with_reducible refine LeO.ite ?_ ?_)
   | (with_reducible refine LeO.bind ?_ (fun _ => ?_))
   | exact ih0 _ _ _ _ _
   | exact impl_gameResist.mono _ _ _ _
   | exact LeO.none _
   | refine LeO.ite ?_ ?_
   | refine LeO.bind ?_ (fun _ => ?_)
theorem impl_Resistances.mono : ∀ a0 a1 a2 a3 k, LeO (impl_Resistances.f k a0 a1 a2 a3) (impl_Resistances.f (k + 1) a0 a1 a2 a3) := by
 intro a0 a1 a2 a3 k
 have ih0 := impl_Resistances.mono_l k
 unfold impl_Resistances.f
 repeat' first
   | (with_reducible exact ih0 _ _ _ _ _)
   | (with_reducible exact impl_gameResist.mono _ _ _ _)
   | (with_reducible exact LeO.refl _)
   | (with_reducible exact LeO.none _)
   | (with_reducible refine LeO.ite ?_ ?_)
   | (with_reducible refine LeO.bind ?_ (fun _ => ?_))
   | exact ih0 _ _ _ _ _
   | exact impl_gameResist.mono _ _ _ _
   | exact LeO.none _
   | refine LeO.ite ?_ ?_
   | refine LeO.bind ?_ (fun _ => ?_)
set_option maxHeartbeats 8000000 in
set_option maxRecDepth 100000 in
theorem impl_Resistances.calls (k : Nat) (a0_0 : Int) (A0_1 : Option Addr) (c0_1 : Nat) (l0_1 : List (S92)) (a1 : Int) (a2 : Bool) (r1 : List Int) (r2 : Bool) (w : World) (hT : TabG w) (hr0_1 : Kd.C k92 w A0_1 l0_1.length l0_1) (hc0_1 : l0_1.length ≤ c0_1) (h : impl_Resistances.f k a0_0 l0_1 a1 a2 = some (r1, r2)) :
  Calls Tryd.prog 39 #[.agg #[.int .i64 a0_0, .slice A0_1 l0_1.length c0_1], .int .i64 a1, .bool a2] w fun e w' => ∃ v0_ : Value, e = .returned (.tuple #[v0_, .bool r2]) ∧ Kd.R (Kd.int .i64) 3 w' w.heap.size (fun _ => True) v0_ r1 ∧ Below w.heap.size w w' := by
 have hu28 := Tryd.underlying28
 have HR0_1 := Aside0.mk hr0_1
 have HC0_1 := Aside0.mk hc0_1
 clear hr0_1 hc0_1
 have HB := Aside0.mk (Below.refl w.heap.size w)
 have HT := Aside0.mk hT
 clear hT
 have H : ((impl_IsGraph.f a0_0 l0_1).bind fun t518 => (if t518 = true then ((impl_within.f a1 0 a0_0).bind fun t519 => (impl_Resistances.j0 k a1 a2 (!t519) a0_0 l0_1)) else (impl_Resistances.j0 k a1 a2 true a0_0 l0_1))) = some (r1, r2) := h
 clear h
 have HC4 := Aside0.mk H
 clear H
 go_enter Tryd.func39, Tryd.ntmps39
 go_upto_region 1 with (first | ((with_reducible refine gate_dst (N := 3) rfl ?_);refine box_event ?hg (N := 3) ?hd (cs := #[.int .i64 a0_0, .slice A0_1 l0_1.length c0_1]) (t := 28) ?hr ?_;(case hd => rfl);(case hg => rfl);(case hr => first | (go_simp;done) | (go_simp;rfl));intro gb517 hg w5 hbox hb;have n0_ := Aside0.mk (below_step (by exact bB) hb);have n1_ := Aside0.mk (hbox);have n2_ := Aside0.mk ((by rw [hg];exact (below_size (by exact bB)) : w.heap.size ≤ gb517));have n3_ := Aside0.mk ((by rw [hg];exact (below_size (by exact bB)) : w.heap.size ≤ gb517));clear HB;have HB := n0_;have BK517 := n1_;have GW517 := n2_;have GE517 := n3_;clear n0_ n1_ n2_ n3_;clear hb hbox hg))
 (try simp only [Act.put, List.setIfInBounds_toArray, List.set_cons_zero, List.set_cons_succ])
 go_cut [17] (fun v17 wc => ∃ (kq : Nat) (x17_3 : Bool), v17 = .bool x17_3 ∧ Aside0 (impl_Resistances.j0 kq a1 a2 x17_3 a0_0 l0_1 = some (r1, r2)) ∧ Aside0 (kq ≤ k) ∧ Aside0 (wc.heap[gb517]? = some (.cells #[.int .i64 a0_0, (.slice A0_1 l0_1.length c0_1)] 28 (0, 0))) ∧ Aside0 (Below w.heap.size w wc))
 case first =>
  have H := HC4.out
  clear HC4
  replace H := Option.bind_eq_some_iff.mp H
  obtain ⟨t518, A60, H⟩ := H
  replace H : (if t518 = true then ((impl_within.f a1 0 a0_0).bind fun t519 => (impl_Resistances.j0 k a1 a2 (!t519) a0_0 l0_1)) else (impl_Resistances.j0 k a1 a2 true a0_0 l0_1)) = some (r1, r2) := H
  have A6 := Aside0.mk A60
  clear A60
  by_cases c7 : t518 = true
  ·subst c7
   have H1 : ((impl_within.f a1 0 a0_0).bind fun t519 => (impl_Resistances.j0 k a1 a2 (!t519) a0_0 l0_1)) = some (r1, r2) := by rw [if_pos rfl] at H;exact H
   clear H
   have H := H1
   clear H1
   replace H := Option.bind_eq_some_iff.mp H
   obtain ⟨t519, A80, H⟩ := H
   replace H : (impl_Resistances.j0 k a1 a2 (!t519) a0_0 l0_1) = some (r1, r2) := H
   have A8 := Aside0.mk A80
   clear A80
   have H' := Aside0.mk H
   clear H
   have hcz9_0 : w5.cell? ⟨gb517, 0, none⟩ = some (.int .i64 a0_0) := (blk_cell BK517.out 0).trans rfl
   have hcz9_1 : w5.cell? ⟨gb517, 1, none⟩ = some (.slice A0_1 l0_1.length c0_1) := (blk_cell BK517.out 1).trans rfl
   have hfz9_0 := blk_frozen BK517.out 0
   have hfz9_1 := blk_frozen BK517.out 1
   go_wp2_with (first | ((with_reducible refine gate_callee (f := 44) rfl ?_);refine goesL_ (some 9) rfl rfl Tryd.func44 (by kernel_rfl) rfl #[.agg #[.int .i64 a0_0, .slice A0_1 l0_1.length c0_1]] rfl mM ?_;(with_reducible refine (impl_IsGraph.calls a0_0 _ _ l0_1 true _ ?side1 ?side2 A6.out).mono ?_);(case side1 => exact cP (Kd.C_below HR0_1.out HB.out));(case side2 => exact HC0_1.out);rintro e w10 ⟨rfl, hb⟩;refine ⟨_, rfl, ?_⟩;have n0_ := Aside0.mk (blk_below (g := gb517) (o := .cells #[.int .i64 a0_0, .slice A0_1 l0_1.length c0_1] 28 (0, 0)) (by exact kP BK517.out) hb);have n1_ := Aside0.mk (below_step (by exact bB) hb);clear BK517;clear HB;have BK517 := n0_;have HB := n1_;clear n0_ n1_;(try clear hb);(try clear hb2);(try clear hk);(try clear hi);have hcz11_0 : w10.cell? ⟨gb517, 0, none⟩ = some (.int .i64 a0_0) := (blk_cell BK517.out 0).trans rfl;have hcz11_1 : w10.cell? ⟨gb517, 1, none⟩ = some (.slice A0_1 l0_1.length c0_1) := (blk_cell BK517.out 1).trans rfl;have hfz11_0 := blk_frozen BK517.out 0;have hfz11_1 := blk_frozen BK517.out 1) | (go_at_call 79;(with_reducible refine (impl_within.calls a1 0 a0_0 t519 _ A8.out).mono ?_);rintro e w' ⟨rfl, ⟨nd, rfl⟩⟩))
   go_meet
   case rel => exact ⟨_, (!t519), (by first | rfl | (simp;done) | (simp [*];done)), H', ⟨by first | omega | exact Nat.le_refl _⟩, ⟨by exact kP BK517.out⟩, ⟨by exact bB⟩⟩
  ·replace c7 := Bool.eq_false_iff.mpr c7
   subst c7
   have H1 : (impl_Resistances.j0 k a1 a2 true a0_0 l0_1) = some (r1, r2) := by rw [if_neg (show ¬ (false = true) by decide)] at H;exact H
   clear H
   have H := H1
   clear H1
   have H' := Aside0.mk H
   clear H
   have hcz12_0 : w5.cell? ⟨gb517, 0, none⟩ = some (.int .i64 a0_0) := (blk_cell BK517.out 0).trans rfl
   have hcz12_1 : w5.cell? ⟨gb517, 1, none⟩ = some (.slice A0_1 l0_1.length c0_1) := (blk_cell BK517.out 1).trans rfl
   have hfz12_0 := blk_frozen BK517.out 0
   have hfz12_1 := blk_frozen BK517.out 1
   go_wp2_with (first | ((with_reducible refine gate_callee (f := 44) rfl ?_);refine goesL_ (some 9) rfl rfl Tryd.func44 (by kernel_rfl) rfl #[.agg #[.int .i64 a0_0, .slice A0_1 l0_1.length c0_1]] rfl mM ?_;(with_reducible refine (impl_IsGraph.calls a0_0 _ _ l0_1 false _ ?side1 ?side2 A6.out).mono ?_);(case side1 => exact cP (Kd.C_below HR0_1.out HB.out));(case side2 => exact HC0_1.out);rintro e w13 ⟨rfl, hb⟩;refine ⟨_, rfl, ?_⟩;have n0_ := Aside0.mk (blk_below (g := gb517) (o := .cells #[.int .i64 a0_0, .slice A0_1 l0_1.length c0_1] 28 (0, 0)) (by exact kP BK517.out) hb);have n1_ := Aside0.mk (below_step (by exact bB) hb);clear BK517;clear HB;have BK517 := n0_;have HB := n1_;clear n0_ n1_;(try clear hb);(try clear hb2);(try clear hk);(try clear hi)))
   go_meet
   case rel => exact ⟨_, (true), (by first | rfl | (simp;done) | (simp [*];done)), H', ⟨by first | omega | exact Nat.le_refl _⟩, ⟨by exact kP BK517.out⟩, ⟨by exact bB⟩⟩
 case rest =>
  clear HC4
  try clear p2
  try clear c3
  try clear c4
  try clear c7
  try clear hcz11_0
  try clear hcz11_1
  try clear hcz12_0
  try clear hcz12_1
  try clear hcz9_0
  try clear hcz9_1
  try clear hfz11_0
  try clear hfz11_1
  try clear hfz12_0
  try clear hfz12_1
  try clear hfz9_0
  try clear hfz9_1
  obtain ⟨kq, x17_3, rfl, HA, HJ3, BK517, HB⟩ := hcut
  cases kq with
  | zero => exact absurd HA.out (by simp [impl_Resistances.j0])
  | succ kj3 =>
   have H := HA.out
   clear HA
   simp only [impl_Resistances.j0] at H
   by_cases c14 : x17_3 = true
   ·subst c14
    have H1 : (some (([] : List Int), false)) = some (r1, r2) := by rw [if_pos rfl] at H;exact H
    clear H
    have H := H1
    clear H1
    simp only [Option.some.injEq, Prod.mk.injEq] at H
    obtain ⟨rfl, rfl⟩ := H
    go_wp2
    go_ret2
    exact ⟨_, by first | rfl | (simp [errW_none, errW_some] <;> rfl) | (simp [*, errW_none, errW_some] <;> rfl), by first | exact Kd.R_nil _ _ _ _ _ | exact Kd.N_nil _ _ _ _ _ | exact Kd.V_nil _ _ _ _ _ | exact Kd.Q_nil _ _ _ _ _ | exact Kd.S_nil _ _ _ _ _, by exact bB⟩
   ·replace c14 := Bool.eq_false_iff.mpr c14
    subst c14
    have H1 : ((impl_netOf.f a0_0 l0_1).bind fun t520 => ((impl_gameResist.f kj3 t520 a1 a2).bind fun t523 => (some (t523, true)))) = some (r1, r2) := by rw [if_neg (show ¬ (false = true) by decide)] at H;exact H
    clear H
    have H := H1
    clear H1
    replace H := Option.bind_eq_some_iff.mp H
    obtain ⟨t520, A150, H⟩ := H
    replace H : ((impl_gameResist.f kj3 t520 a1 a2).bind fun t523 => (some (t523, true))) = some (r1, r2) := H
    have A15 := Aside0.mk A150
    clear A150
    replace H := Option.bind_eq_some_iff.mp H
    obtain ⟨t523, A160, H⟩ := H
    replace H : (some (t523, true)) = some (r1, r2) := H
    have A16 := Aside0.mk A160
    clear A160
    simp only [Option.some.injEq, Prod.mk.injEq] at H
    obtain ⟨rfl, rfl⟩ := H
    have hcz17_0 : wc.cell? ⟨gb517, 0, none⟩ = some (.int .i64 a0_0) := (blk_cell BK517.out 0).trans rfl
    have hcz17_1 : wc.cell? ⟨gb517, 1, none⟩ = some (.slice A0_1 l0_1.length c0_1) := (blk_cell BK517.out 1).trans rfl
    have hfz17_0 := blk_frozen BK517.out 0
    have hfz17_1 := blk_frozen BK517.out 1
    go_wp2_with (first | ((with_reducible refine gate_callee (f := 45) rfl ?_);refine goesL_ (some 19) rfl rfl Tryd.func45 (by kernel_rfl) rfl #[.agg #[.int .i64 a0_0, .slice A0_1 l0_1.length c0_1]] rfl mM ?_;(with_reducible refine (impl_netOf.calls a0_0 _ _ l0_1 t520 _ ?side1 ?side2 A15.out).mono ?_);(case side1 => exact cP (Kd.C_below HR0_1.out HB.out));(case side2 => exact HC0_1.out);rintro e w18 ⟨v521, rfl, ho0, hb⟩;refine ⟨_, rfl, ?_⟩;have n0_ := Aside0.mk (Kd.R_lower ho0 (below_size (by exact bB)));have n1_ := Aside0.mk (blk_below (g := gb517) (o := .cells #[.int .i64 a0_0, .slice A0_1 l0_1.length c0_1] 28 (0, 0)) (by exact kP BK517.out) hb);have n2_ := Aside0.mk (below_step (by exact bB) hb);clear BK517;clear HB;have HO522 := n0_;have BK517 := n1_;have HB := n2_;clear n0_ n1_ n2_;(try clear hb);(try clear hb2);(try clear hk);(try clear hi);(try clear ho0);obtain ⟨Ao19, co19, eo19⟩ := Kd.R_slice HO522.out;subst eo19) | ((with_reducible refine gate_callee (f := 66) rfl ?_);obtain ⟨n_, s_, m_, q_, hg_, hq_⟩ := impl_gameResist.use A16.out;refine goesL_ (some 22) rfl rfl Tryd.func66 (by kernel_rfl) rfl #[.agg #[.slice Ao19 t520.length co19], .int .i64 a1, .bool a2] rfl mM ?_;(with_reducible refine (impl_net_guardGame.calls kj3 _ _ t520 a1 a2 n_ s_ m_ _ ?sideT ?side1 ?side2 hg_).mono ?_);(case sideT => exact tabG_below HT.out (by exact bB));(case side1 => exact cP (Kd.R_reads' HO522.out).2.2);(case side2 => exact (Kd.R_reads' HO522.out).2.1);rintro e wg ⟨gG, vg1, vg2, rfl, hbx_, hs1_, hs2_, hbg⟩;refine ⟨_, rfl, ?_⟩;have HGS := Aside0.mk (game_is hbx_ hs1_ hs2_);have HBG := Aside0.mk hbg;have HQ_ := Aside0.mk hq_;clear hbx_ hs1_ hs2_ hbg hg_ hq_) | ((with_reducible refine gate_callee (f := 67) rfl ?_);refine goesL_ (some 23) rfl rfl Tryd.func67 (by kernel_rfl) rfl #[.pointer (some ⟨gG, 0, none⟩)] rfl mM ?_;refine (game_known kj3 gG n_ s_ m_ t523 q_ _ _ HGS.out HBG.out HQ_.out).mono ?_;rintro e w20 ⟨v524, rfl, ho0, hb⟩;refine ⟨_, rfl, ?_⟩;have n0_ := Aside0.mk (Kd.R_elder' (by exact rP HO522.out) (Kd.R_base ho0) hb);have n1_ := Aside0.mk (Kd.R_lower (Kd.R_new' ho0 (Kd.R_lt (by exact rP HO522.out))) (below_size (by exact bB)));have n2_ := Aside0.mk (blk_below (g := gb517) (o := .cells #[.int .i64 a0_0, .slice A0_1 l0_1.length c0_1] 28 (0, 0)) (by exact kP BK517.out) hb);have n3_ := Aside0.mk (below_step (by exact bB) hb);clear HO522;clear BK517;clear HB;have HO522 := n0_;have HO525 := n1_;have BK517 := n2_;have HB := n3_;clear n0_ n1_ n2_ n3_;(try clear hb);(try clear hb2);(try clear hk);(try clear hi);(try clear ho0)))
    go_ret2
    exact ⟨_, by first | rfl | (simp [errW_none, errW_some] <;> rfl) | (simp [*, errW_none, errW_some] <;> rfl), by refine rP ?_;exact Kd.R_mono HO525.out (fun _ hk => trivial), by exact bB⟩




end Go.Proofs.YthbjajppdomhhaaDoor.QResistances
