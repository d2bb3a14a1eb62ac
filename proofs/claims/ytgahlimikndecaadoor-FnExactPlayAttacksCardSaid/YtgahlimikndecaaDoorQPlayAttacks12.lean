import Derived.Test.YtgahlimikndecaaDoorQPlayAttacks0
import Derived.Test.YtgahlimikndecaaDoorQPlayAttacks8
import Derived.Test.YtgahlimikndecaaDoorQPlayAttacks9
import Derived.Test.YtgahlimikndecaaDoorQPlayAttacks10
import Derived.Test.YtgahlimikndecaaDoorQPlayAttacks11
namespace Go.Proofs.YtgahlimikndecaaDoor.QPlayAttacks
open Go.RowKit Go.Proofs.YtgahlimikndecaaDoorW.PrintWords Go.Proofs.YtgahlimikndecaaDoorW.PrintLast Go.Proofs.YtgahlimikndecaaDoorW.PrintMore
attribute [local go_sem] max2_int min2_int max_two min_two max_three min_three max_four min_four
set_option linter.unusedVariables false
set_option linter.unusedSimpArgs false
set_option maxRecDepth 100000
set_option maxHeartbeats 8000000
/-! ### impl_PlayAttacks: function 25 -/
mutual
def impl_PlayAttacks.j0 : Nat → List Int → List Int → Bool → Bool → Int → List (S78) → Option ((List (List Int)) × Bool)
 | 0, _, _, _, _, _, _ => none
 | k + 1, x1, x2, x3, x25, x659000, x659001 => if x25 = true then (some (([] : List (List Int)), false)) else ((impl_netOf.f x659000 x659001).bind fun t660 => ((impl_net_guardGame.f k t660 (x1.length : Int) x3).bind fun bt663 => ((impl_valResist.f k bt663.1 bt663.2.1 bt663.2.2).bind fun t671 => ((impl_valPlace.f k bt663.1 bt663.2.1 bt663.2.2 x1).bind fun t674 => (impl_PlayAttacks.l0 k t671 ([] : List (List Int)) t674 x2 (x2.length : Int) 0 x659000 x659001 bt663.1 bt663.2.1 bt663.2.2)))))
def impl_PlayAttacks.l0 : Nat → List Int → List (List Int) → Int → List Int → Int → Int → Int → List (S78) → Int → List (List Int) → List (List Int) → Option ((List (List Int)) × Bool)
 | 0, _, _, _, _, _, _, _, _, _, _, _ => none
 | k + 1, x11, x12, x13, x37, x38, x39, x659000, x659001, x671000, x671001, x671002 => if x39 < x38 then (if 0 ≤ x39 then (if x39 < (x37.length : Int) then ((impl_within.f (rd x37 x39) 0 (wrap64 (x659000 - 1))).bind fun t676 => (if t676 = true then (if 0 ≤ x13 then (if x13 < (x671001.length : Int) then ((slices_Contains_int_int.f k (rd_L2 x671001 x13) (rd x37 x39)).bind fun t678 => (if t678 = true then ((slices_Clone_int_int.f (rd_L2 x671001 x13)).bind fun t680 => (if x12.length < 5864062014805 then (impl_PlayAttacks.l0 k x11 (x12 ++ [t680]) x13 x37 x38 (wrap64 (x39 + 1)) x659000 x659001 x671000 x671001 x671002) else (none))) else ((impl_valBest.f k x671000 x671001 x671002 x11 x13 (rd x37 x39)).bind fun t686 => (if t686 < 0 then (some (x12, true)) else (if 0 ≤ t686 then (if t686 < (x671001.length : Int) then ((slices_Clone_int_int.f (rd_L2 x671001 t686)).bind fun t688 => (if x12.length < 5864062014805 then (impl_PlayAttacks.l0 k x11 (x12 ++ [t688]) t686 x37 x38 (wrap64 (x39 + 1)) x659000 x659001 x671000 x671001 x671002) else (none))) else (none)) else (none)))))) else (none)) else (none)) else (some (x12, true)))) else (none)) else (none)) else (some (x12, true))
end
def impl_PlayAttacks.f (k : Nat) (a0_0 : Int) (l0_1 : List (S78)) (l1 : List Int) (l2 : List Int) (a3 : Bool) : Option ((List (List Int)) × Bool) := (impl_isSet.f k a0_0 l0_1 l1).bind fun t659 => (if t659 = true then (impl_PlayAttacks.j0 k l1 l2 a3 (decide ((l2.length : Int) > 30)) a0_0 l0_1) else (impl_PlayAttacks.j0 k l1 l2 a3 true a0_0 l0_1))
theorem impl_PlayAttacks.mono_l : ∀ k, (∀ y0 y1 y2 y3 y4 y5, LeO (impl_PlayAttacks.j0 k y0 y1 y2 y3 y4 y5) (impl_PlayAttacks.j0 (k + 1) y0 y1 y2 y3 y4 y5)) ∧ (∀ y0 y1 y2 y3 y4 y5 y6 y7 y8 y9 y10, LeO (impl_PlayAttacks.l0 k y0 y1 y2 y3 y4 y5 y6 y7 y8 y9 y10) (impl_PlayAttacks.l0 (k + 1) y0 y1 y2 y3 y4 y5 y6 y7 y8 y9 y10))
 | 0 => ⟨fun _ _ _ _ _ _ r h => by simp [impl_PlayAttacks.j0] at h, fun _ _ _ _ _ _ _ _ _ _ _ r h => by simp [impl_PlayAttacks.l0] at h⟩
 | k + 1 => by
  obtain ⟨ih0, ih1⟩ := impl_PlayAttacks.mono_l k
  refine ⟨?_, ?_⟩
  ·intro y0 y1 y2 y3 y4 y5
   unfold impl_PlayAttacks.j0
   have q0 := impl_isSet.mono
   have q1 := impl_net_guardGame.mono
   have q2 := impl_valBest.mono
   have q3 := impl_valPlace.mono
   have q4 := impl_valResist.mono
   have q5 := slices_Contains_int_int.mono
   exact lM
  ·intro y0 y1 y2 y3 y4 y5 y6 y7 y8 y9 y10
   unfold impl_PlayAttacks.l0
   have q0 := impl_isSet.mono
   have q1 := impl_net_guardGame.mono
   have q2 := impl_valBest.mono
   have q3 := impl_valPlace.mono
   have q4 := impl_valResist.mono
   have q5 := slices_Contains_int_int.mono
   exact lM
theorem impl_PlayAttacks.mono : ∀ a0 a1 a2 a3 a4 k, LeO (impl_PlayAttacks.f k a0 a1 a2 a3 a4) (impl_PlayAttacks.f (k + 1) a0 a1 a2 a3 a4) := by
 intro a0 a1 a2 a3 a4 k
 obtain ⟨ih0, ih1⟩ := impl_PlayAttacks.mono_l k
 unfold impl_PlayAttacks.f
 have q0 := impl_isSet.mono
 have q1 := impl_net_guardGame.mono
 have q2 := impl_valBest.mono
 have q3 := impl_valPlace.mono
 have q4 := impl_valResist.mono
 have q5 := slices_Contains_int_int.mono
 exact lM
theorem impl_PlayAttacks.calls (k : Nat) (a0_0 : Int) (A0_1 : Option Addr) (c0_1 : Nat) (l0_1 : List (S78)) (A1 : Option Addr) (c1 : Nat) (l1 : List Int) (A2 : Option Addr) (c2 : Nat) (l2 : List Int) (a3 : Bool) (r1 : List (List Int)) (r2 : Bool) (w : World) (hT : TabG w) (hr0_1 : Kd.C k78 w A0_1 l0_1.length l0_1) (hc0_1 : l0_1.length ≤ c0_1) (hr1 : Kd.C (Kd.int .i64) w A1 l1.length l1) (hc1 : l1.length ≤ c1) (hr2 : Kd.C (Kd.int .i64) w A2 l2.length l2) (hc2 : l2.length ≤ c2) (h : impl_PlayAttacks.f k a0_0 l0_1 l1 l2 a3 = some (r1, r2)) :
  Calls Tryd.prog 25 #[.agg #[.int .i64 a0_0, .slice A0_1 l0_1.length c0_1], .slice A1 l1.length c1, .slice A2 l2.length c2, .bool a3] w fun e w' => ∃ v0_ : Value, e = .returned (.tuple #[v0_, .bool r2]) ∧ Kd.S (Kd.slice 3 (Kd.int .i64)) 36 w' w.heap.size (fun _ => True) v0_ r1 ∧ Below w.heap.size w w' := by
 have hu29 := Tryd.underlying29
 have hu61 := Tryd.underlying61
 have HR0_1 := Aside0.mk hr0_1
 have HC0_1 := Aside0.mk hc0_1
 clear hr0_1 hc0_1
 have HR1 := Aside0.mk hr1
 have HC1 := Aside0.mk hc1
 clear hr1 hc1
 have HR2 := Aside0.mk hr2
 have HC2 := Aside0.mk hc2
 clear hr2 hc2
 have HB := aM (Below.refl w.heap.size w)
 have HT := Aside0.mk hT
 clear hT
 have H : ((impl_isSet.f k a0_0 l0_1 l1).bind fun t659 => (if t659 = true then (impl_PlayAttacks.j0 k l1 l2 a3 (decide ((l2.length : Int) > 30)) a0_0 l0_1) else (impl_PlayAttacks.j0 k l1 l2 a3 true a0_0 l0_1))) = some (r1, r2) := h
 clear h
 have HC5 := Aside0.mk H
 clear H
 go_enter Tryd.func25, Tryd.ntmps25
 go_upto_region 1 with (first | ((with_reducible refine gate_dst (N := 4) rfl ?_);(try (refine gate_guard (by rfl) ?_;dsimp only));refine box_event ?hg (N := 4) ?hd (cs := #[.int .i64 a0_0, .slice A0_1 l0_1.length c0_1]) (t := 29) ?hr ?_;(case hd => rfl);(case hg => rfl);(case hr => exact gS);intro gb658 hg w6 hbox hb;have n0_ := aM (below_step (by exact bB) hb);have n1_ := aM (hbox);have n2_ := aM (sW hg : w.heap.size ≤ gb658);have n3_ := aM (sW hg : w.heap.size ≤ gb658);clear HB;have HB := n0_;have BK658 := n1_;have GW658 := n2_;have GE658 := n3_;clear n0_ n1_ n2_ n3_ hb hbox hg))
 (try simp only [Act.put, List.setIfInBounds_toArray, List.set_cons_zero, List.set_cons_succ])
 go_cut [25] (fun v25 wc => ∃ (kq : Nat) (x25_4 : Bool), v25 = .bool x25_4 ∧ Aside0 (impl_PlayAttacks.j0 kq l1 l2 a3 x25_4 a0_0 l0_1 = some (r1, r2)) ∧ Aside0 (kq ≤ k) ∧ Aside0 (wc.heap[gb658]? = some (.cells #[.int .i64 a0_0, (.slice A0_1 l0_1.length c0_1)] 29 (0, 0))) ∧ Aside0 (Below w.heap.size w wc))
 case first =>
  have H := HC5.out
  clear HC5
  replace H := bE H
  obtain ⟨t659, A70, H⟩ := H
  try dsimp only at H
  have A7 := Aside0.mk A70
  clear A70
  by_cases c8 : t659 = true
  ·subst c8
   rw [if_pos rfl] at H
   have H' := Aside0.mk H
   clear H
   have hcz9_0 := bC0 BK658.out
   have hcz9_1 := bC1 BK658.out
   have hfz9_0 := blk_frozen BK658.out 0
   have hfz9_1 := blk_frozen BK658.out 1
   go_wp2_with (first | ((with_reducible refine gate_callee (f := 45) rfl ?_);refine goesL_ (some 19) rfl rfl Tryd.func45 kR rfl #[.agg #[.int .i64 a0_0, .slice A0_1 l0_1.length c0_1], .slice A1 l1.length c1] rfl mM ?_;(with_reducible refine (impl_isSet.calls k a0_0 _ _ l0_1 _ _ l1 true _ ?side1 ?side2 ?side3 ?side4 A7.out).mono ?_);(case side1 => exact cP (Kd.C_below HR0_1.out HB.out));(case side2 => exact HC0_1.out);(case side3 => exact cP (Kd.C_below HR1.out HB.out));(case side4 => exact HC1.out);rintro e w10 ⟨rfl, hb⟩;refine ⟨_, rfl, ?_⟩;have n0_ := aM (kB hb BK658.out);have n1_ := aM (below_step (by exact bB) hb);clear BK658 HB;have BK658 := n0_;have HB := n1_;clear n0_ n1_;(try clear hb)))
   go_meet
   case rel => exact ⟨_, (decide ((l2.length : Int) > 30)), eF, H', ⟨by first | omega | exact Nat.le_refl _⟩, ⟨by exact kP BK658.out⟩, ⟨by exact bB⟩⟩
  replace c8 := Bool.eq_false_iff.mpr c8
  subst c8
  rw [if_neg fF] at H
  have H' := Aside0.mk H
  clear H
  have hcz11_0 := bC0 BK658.out
  have hcz11_1 := bC1 BK658.out
  have hfz11_0 := blk_frozen BK658.out 0
  have hfz11_1 := blk_frozen BK658.out 1
  go_wp2_with (first | ((with_reducible refine gate_callee (f := 45) rfl ?_);refine goesL_ (some 19) rfl rfl Tryd.func45 kR rfl #[.agg #[.int .i64 a0_0, .slice A0_1 l0_1.length c0_1], .slice A1 l1.length c1] rfl mM ?_;(with_reducible refine (impl_isSet.calls k a0_0 _ _ l0_1 _ _ l1 false _ ?side1 ?side2 ?side3 ?side4 A7.out).mono ?_);(case side1 => exact cP (Kd.C_below HR0_1.out HB.out));(case side2 => exact HC0_1.out);(case side3 => exact cP (Kd.C_below HR1.out HB.out));(case side4 => exact HC1.out);rintro e w12 ⟨rfl, hb⟩;refine ⟨_, rfl, ?_⟩;have n0_ := aM (kB hb BK658.out);have n1_ := aM (below_step (by exact bB) hb);clear BK658 HB;have BK658 := n0_;have HB := n1_;clear n0_ n1_;(try clear hb)))
  go_meet
  case rel => exact ⟨_, (true), eF, H', ⟨by first | omega | exact Nat.le_refl _⟩, ⟨by exact kP BK658.out⟩, ⟨by exact bB⟩⟩
 case rest =>
  clear HC5
  try clear c1
  try clear c2
  try clear p2
  try clear c4
  try clear c8
  try clear hcz11_0
  try clear hcz11_1
  try clear hcz9_0
  try clear hcz9_1
  try clear hfz11_0
  try clear hfz11_1
  try clear hfz9_0
  try clear hfz9_1
  obtain ⟨kq, x25_4, rfl, HA, HJ4, BK658, HB⟩ := hcut
  cases kq with
  | zero => exact absurd HA.out (by simp [impl_PlayAttacks.j0])
  | succ kj4 =>
   have H := HA.out
   clear HA
   simp only [impl_PlayAttacks.j0] at H
   by_cases c13 : x25_4 = true
   ·subst c13
    rw [if_pos rfl] at H
    simp only [Option.some.injEq, Prod.mk.injEq] at H
    obtain ⟨rfl, rfl⟩ := H
    go_wp2
    go_ret2
    exact ⟨_, eW, by first | exact Kd.S_nil _ _ _ _ _ | exact Kd.N_nil _ _ _ _ _ | exact Kd.V_nil _ _ _ _ _ | exact Kd.Q_nil _ _ _ _ _ | exact Kd.R_nil _ _ _ _ _, by exact bB⟩
   replace c13 := Bool.eq_false_iff.mpr c13
   subst c13
   rw [if_neg fF] at H
   replace H := bE H
   obtain ⟨t660, A140, H⟩ := H
   try dsimp only at H
   have A14 := Aside0.mk A140
   clear A140
   replace H := bE H
   obtain ⟨⟨t663, t664, t667⟩, A150, H⟩ := H
   try dsimp only at H
   have A15 := Aside0.mk A150
   clear A150
   replace H := bE H
   obtain ⟨t671, A160, H⟩ := H
   try dsimp only at H
   have A16 := Aside0.mk A160
   clear A160
   replace H := bE H
   obtain ⟨t674, A170, H⟩ := H
   try dsimp only at H
   have A17 := Aside0.mk A170
   clear A170
   have H' := Aside0.mk H
   clear H
   have hcz18_0 := bC0 BK658.out
   have hcz18_1 := bC1 BK658.out
   have hfz18_0 := blk_frozen BK658.out 0
   have hfz18_1 := blk_frozen BK658.out 1
   go_wp2_with (first | ((with_reducible refine gate_callee (f := 32) rfl ?_);refine goesL_ (some 27) rfl rfl Tryd.func32 kR rfl #[.agg #[.int .i64 a0_0, .slice A0_1 l0_1.length c0_1]] rfl mM ?_;(with_reducible refine (impl_netOf.calls a0_0 _ _ l0_1 t660 _ ?side1 ?side2 A14.out).mono ?_);(case side1 => exact cP (Kd.C_below HR0_1.out HB.out));(case side2 => exact HC0_1.out);rintro e w19 ⟨v661, rfl, ho0, hb⟩;refine ⟨_, rfl, ?_⟩;have n0_ := aM (Kd.R_lower ho0 (below_size (by exact bB)));have n1_ := aM (kB hb BK658.out);have n2_ := aM (below_step (by exact bB) hb);clear BK658 HB;have HO662 := n0_;have BK658 := n1_;have HB := n2_;clear n0_ n1_ n2_;(try clear hb);(try clear ho0);obtain ⟨Ao20, co20, eo20⟩ := Kd.R_slice HO662.out;subst eo20) | ((with_reducible refine gate_callee (f := 33) rfl ?_);refine goesL_ (some 31) rfl rfl Tryd.func33 kR rfl #[.agg #[.slice Ao20 t660.length co20], .int .i64 (l1.length : Int), .bool a3] rfl mM ?_;(with_reducible refine (impl_net_guardGame.calls kj4 _ _ t660 (l1.length : Int) a3 t663 t664 t667 _ ?sideT ?side1 ?side2 A15.out).mono ?_);(case sideT => exact tabG_below HT.out (by exact bB));(case side1 => exact cP (Kd.R_reads' HO662.out).2.2);(case side2 => exact (Kd.R_reads' HO662.out).2.1);rintro e w21 ⟨gb670, v665, v668, rfl, hbx, hge, ho0, ho1, hb⟩;refine ⟨_, rfl, ?_⟩;have GW670 := aM (Nat.le_trans (below_size (by exact bB)) hge);have GE670 := GW670;have NB658_670 : Aside0 (gb658 ≠ gb670) := ⟨Nat.ne_of_lt (Nat.lt_of_lt_of_le (blk_lt (g := gb658) (o := .cells #[.int .i64 a0_0, .slice A0_1 l0_1.length c0_1] 29 (0, 0)) (by exact kP BK658.out)) hge)⟩;have NB670_658 : Aside0 (gb670 ≠ gb658) := ⟨Nat.ne_of_gt (Nat.lt_of_lt_of_le (blk_lt (g := gb658) (o := .cells #[.int .i64 a0_0, .slice A0_1 l0_1.length c0_1] 29 (0, 0)) (by exact kP BK658.out)) hge)⟩;have n0_ := aM (Kd.R_below (by exact rP HO662.out) hb);have n1_ := aM (Kd.S_lower (Kd.S_new' ho0 (Kd.R_lt (by exact rP HO662.out))) (below_size (by exact bB)));have n2_ := aM (Kd.S_lower (Kd.S_new' ho1 (Kd.R_lt (by exact rP HO662.out))) (below_size (by exact bB)));have n3_ := aM (kB hb BK658.out);have n4_ := aM (below_step (by exact bB) hb);clear HO662 BK658 HB;have HO662 := n0_;have HO666 := n1_;have HO669 := n2_;have BK658 := n3_;have HB := n4_;clear n0_ n1_ n2_ n3_ n4_;(try clear hb);(try clear ho0);(try clear ho1);obtain ⟨Ao22, co22, eo22⟩ := Kd.S_slice HO666.out;subst eo22;obtain ⟨Ao23, co23, eo23⟩ := Kd.S_slice HO669.out;subst eo23;have BK670 := Aside0.mk hbx;clear hbx hge;have hnb25 := NB670_658.out;have hnc25 := NB658_670.out;have hcz26_0 := bC0 BK670.out;have hcz26_1 := bC1 BK670.out;have hcz26_2 := bC2 BK670.out;have hfz26_0 := blk_frozen BK670.out 0;have hfz26_1 := blk_frozen BK670.out 1;have hfz26_2 := blk_frozen BK670.out 2) | ((with_reducible refine gate_callee (f := 34) rfl ?_);refine goesL_ (some 33) rfl rfl Tryd.func34 kR rfl #[.pointer (some ⟨gb670, 0, none⟩)] rfl mM ?_;(with_reducible refine (impl_valResist.calls gb670 kj4 t663 Ao22 co22 t664 Ao23 co23 t667 t671 _ ?side1 ?side2 ?side3 ?side4 A16.out ?sideG).mono ?_);(case sideG => exact kP BK670.out);(case side1 => exact cP (Kd.S_reads' HO666.out).2.2);(case side2 => exact (Kd.S_reads' HO666.out).2.1);(case side3 => exact cP (Kd.S_reads' HO669.out).2.2);(case side4 => exact (Kd.S_reads' HO669.out).2.1);rintro e w27 ⟨v672, rfl, ho0, hb⟩;refine ⟨_, rfl, ?_⟩;have n0_ := aM (Kd.R_elder' (by exact rP HO662.out) (Kd.R_base ho0) hb);have n1_ := aM (Kd.S_elder' (by exact tP HO666.out) (Kd.R_base ho0) hb);have n2_ := aM (Kd.S_elder' (by exact tP HO669.out) (Kd.R_base ho0) hb);have n3_ := aM (Kd.R_lower (Kd.R_new' ho0 (Kd.R_lt (by exact rP HO662.out))) (below_size (by exact bB)));have n4_ := aM (kB hb BK658.out);have n5_ := aM (kB hb BK670.out);have n6_ := aM (below_step (by exact bB) hb);clear HO662 HO666 HO669 BK658 BK670 HB;have HO662 := n0_;have HO666 := n1_;have HO669 := n2_;have HO673 := n3_;have BK658 := n4_;have BK670 := n5_;have HB := n6_;clear n0_ n1_ n2_ n3_ n4_ n5_ n6_;(try clear hb);(try clear ho0);have hcz28_0 := bC0 BK670.out;have hcz28_1 := bC1 BK670.out;have hcz28_2 := bC2 BK670.out;have hfz28_0 := blk_frozen BK670.out 0;have hfz28_1 := blk_frozen BK670.out 1;have hfz28_2 := blk_frozen BK670.out 2) | ((with_reducible refine gate_callee (f := 46) rfl ?_);refine goesL_ (some 36) rfl rfl Tryd.func46 kR rfl #[.pointer (some ⟨gb670, 0, none⟩), .slice A1 l1.length c1] rfl mM ?_;(with_reducible refine (impl_valPlace.calls gb670 kj4 t663 Ao22 co22 t664 Ao23 co23 t667 _ _ l1 t674 _ ?side1 ?side2 ?side3 ?side4 ?side5 ?side6 A17.out ?sideG).mono ?_);(case sideG => exact kP BK670.out);(case side1 => exact cP (Kd.S_reads' HO666.out).2.2);(case side2 => exact (Kd.S_reads' HO666.out).2.1);(case side3 => exact cP (Kd.S_reads' HO669.out).2.2);(case side4 => exact (Kd.S_reads' HO669.out).2.1);(case side5 => exact cP (Kd.C_below HR1.out HB.out));(case side6 => exact HC1.out);rintro e w29 ⟨rfl, hb⟩;refine ⟨_, rfl, ?_⟩;have n0_ := aM (Kd.R_below (by exact rP HO662.out) hb);have n1_ := aM (Kd.S_below (by exact tP HO666.out) hb);have n2_ := aM (Kd.S_below (by exact tP HO669.out) hb);have n3_ := aM (Kd.R_below (by exact rP HO673.out) hb);have n4_ := aM (kB hb BK658.out);have n5_ := aM (kB hb BK670.out);have n6_ := aM (below_step (by exact bB) hb);clear HO662 HO666 HO669 HO673 BK658 BK670 HB;have HO662 := n0_;have HO666 := n1_;have HO669 := n2_;have HO673 := n3_;have BK658 := n4_;have BK670 := n5_;have HB := n6_;clear n0_ n1_ n2_ n3_ n4_ n5_ n6_;(try clear hb)))
   go_loopg [12, 13, 39] kj4 (fun kq v12 v13 v39 w' => ∃ (x12_2 : List (List Int)) (x13_2 : Int) (x39_2 : Int), v13 = .int .i64 x13_2 ∧ v39 = .int .i64 x39_2 ∧ Aside0 (impl_PlayAttacks.l0 kq t671 x12_2 x13_2 l2 (l2.length : Int) x39_2 a0_0 l0_1 t663 t664 t667 = some (r1, r2)) ∧ Aside0 (kq ≤ kj4) ∧ Aside0 (Kd.R (Kd.int .i64) 3 w' w.heap.size (fun _ => True) v672 t671) ∧ Aside0 (Kd.S (Kd.slice 3 (Kd.int .i64)) 36 w' w.heap.size (fun k_ => some k_ ≠ (v672 : Value).ownBlock ∧ some k_ ≠ ((.slice Ao22 t664.length co22) : Value).ownBlock ∧ some k_ ≠ ((.slice Ao23 t667.length co23) : Value).ownBlock) v12 x12_2) ∧ Aside0 (Kd.S (Kd.slice 3 (Kd.int .i64)) 36 w' w.heap.size (fun k_ => some k_ ≠ (v672 : Value).ownBlock ∧ some k_ ≠ (v12 : Value).ownBlock ∧ some k_ ≠ ((.slice Ao23 t667.length co23) : Value).ownBlock) (.slice Ao22 t664.length co22) t664) ∧ Aside0 (Kd.S (Kd.slice 3 (Kd.int .i64)) 36 w' w.heap.size (fun k_ => some k_ ≠ (v672 : Value).ownBlock ∧ some k_ ≠ (v12 : Value).ownBlock ∧ some k_ ≠ ((.slice Ao22 t664.length co22) : Value).ownBlock) (.slice Ao23 t667.length co23) t667) ∧ Aside0 (w'.heap[gb658]? = some (.cells #[.int .i64 a0_0, (.slice A0_1 l0_1.length c0_1)] 29 (0, 0))) ∧ Aside0 (w'.heap[gb670]? = some (.cells #[.int .i64 t663, (.slice Ao22 t664.length co22), (.slice Ao23 t667.length co23)] 61 (0, 0))) ∧ Aside0 (Below w.heap.size w w'))
   case atStart => exact ⟨(([] : List (List Int))), (t674), (0), eF, eF, H', ⟨Nat.le_refl _⟩, ⟨by refine rP ?_;exact Kd.R_mono HO673.out (fun _ hk => trivial)⟩, ⟨by first | exact Kd.S_nil _ _ _ _ _ | exact Kd.N_nil _ _ _ _ _ | exact Kd.V_nil _ _ _ _ _ | exact Kd.Q_nil _ _ _ _ _ | exact Kd.R_nil _ _ _ _ _⟩, ⟨by (with_reducible repeat (first | apply Kd.S_alloc | apply Kd.S_drewN | apply Kd.S_drew));exact Kd.S_mono HO666.out (fun _ hk => ⟨hk.2, ⟨(by simp [Value.ownBlock]), hk.1.1⟩⟩)⟩, ⟨by (with_reducible repeat (first | apply Kd.S_alloc | apply Kd.S_drewN | apply Kd.S_drew));exact Kd.S_mono HO669.out (fun _ hk => ⟨hk.2, ⟨(by simp [Value.ownBlock]), hk.1.1⟩⟩)⟩, ⟨by exact kP BK658.out⟩, ⟨by exact kP BK670.out⟩, ⟨by exact bB⟩⟩
   case round =>
    clear H'
    try clear c1
    try clear c2
    try clear p2
    try clear c3
    try clear c4
    try clear c8
    try clear c13
    try clear c25
    try clear hcz11_0
    try clear hcz11_1
    try clear hcz18_0
    try clear hcz18_1
    try clear hcz26_0
    try clear hcz26_1
    try clear hcz26_2
    try clear hcz28_0
    try clear hcz28_1
    try clear hcz28_2
    try clear hcz9_0
    try clear hcz9_1
    try clear hfz11_0
    try clear hfz11_1
    try clear hfz18_0
    try clear hfz18_1
    try clear hfz26_0
    try clear hfz26_1
    try clear hfz26_2
    try clear hfz28_0
    try clear hfz28_1
    try clear hfz28_2
    try clear hfz9_0
    try clear hfz9_1
    try clear p2
    obtain ⟨x12_2, x13_2, x39_2, rfl, rfl, HA, HK2, HO_11, HO_12, HO_671001, HO_671002, BK658, BK670, HB⟩ := hrel
    cases gk with
    | zero => exact absurd HA.out (by simp [impl_PlayAttacks.l0])
    | succ k2 =>
     have H := HA.out
     clear HA
     simp only [impl_PlayAttacks.l0] at H
     by_cases c30 : x39_2 < (l2.length : Int)
     rotate_left
     ·rw [if_neg c30] at H
      have c30b0 : decide (x39_2 < (l2.length : Int)) = false := decide_eq_false c30
      clear c30
      simp only [Option.some.injEq, Prod.mk.injEq] at H
      obtain ⟨rfl, rfl⟩ := H
      go_wp2
      go_ret2
      exact ⟨_, eW, by (with_reducible repeat (first | apply Kd.S_alloc | apply Kd.S_drewN | apply Kd.S_drew));exact Kd.S_mono HO_12.out (fun _ hk => trivial), by exact bB⟩
     rw [if_pos c30] at H
     have c30b0 : decide (x39_2 < (l2.length : Int)) = true := decide_eq_true c30
     clear c30
     by_cases c31 : 0 ≤ x39_2
     rotate_left
     ·rw [if_neg c31] at H
      exact absurd H (by simp)
     rw [if_pos c31] at H
     have c31b0 : decide (0 ≤ x39_2) = true := decide_eq_true c31
     clear c31
     by_cases c32 : x39_2 < (l2.length : Int)
     rotate_left
     ·rw [if_neg c32] at H
      exact absurd H (by simp)
     rw [if_pos c32] at H
     have c32b0 : decide (x39_2 < (l2.length : Int)) = true := decide_eq_true c32
     clear c32
     replace H := bE H
     obtain ⟨t676, A330, H⟩ := H
     try dsimp only at H
     have A33 := Aside0.mk A330
     clear A330
     by_cases c34 : t676 = true
     rotate_left
     ·replace c34 := Bool.eq_false_iff.mpr c34
      subst c34
      rw [if_neg fF] at H
      simp only [Option.some.injEq, Prod.mk.injEq] at H
      obtain ⟨rfl, rfl⟩ := H
      have p675 : 0 ≤ (x39_2 : Int) := oA
      have q675 : x39_2 < (l2.length : Int) := oA
      obtain ⟨ad675, e675, hx675_0⟩ := Kd.at_int HR2.out x39_2 p675 q675
      cases e675
      replace hx675_0 := cB HB.out hx675_0
      replace p675 := eq_true p675
      replace q675 := eq_true q675
      have hnb67 := NB658_670.out
      have hnc67 := NB670_658.out
      have hcz68_0 := bC0 BK658.out
      have hcz68_1 := bC1 BK658.out
      have hfz68_0 := blk_frozen BK658.out 0
      have hfz68_1 := blk_frozen BK658.out 1
      go_wp2_with (first | ((with_reducible refine gate_callee (f := 31) rfl ?_);refine goesL_ (some 47) rfl rfl Tryd.func31 kR rfl #[.int .i64 (rd l2 x39_2), .int .i64 0, .int .i64 (wrap64 (a0_0 - 1))] rfl mM ?_;(with_reducible refine (impl_within.calls (rd l2 x39_2) 0 (wrap64 (a0_0 - 1)) false _ A33.out).mono ?_);rintro e w' ⟨rfl, ⟨nd, rfl⟩⟩;refine ⟨_, rfl, ?_⟩))
      go_ret2
      exact ⟨_, eW, by (with_reducible repeat (first | apply Kd.S_alloc | apply Kd.S_drewN | apply Kd.S_drew));exact Kd.S_mono HO_12.out (fun _ hk => trivial), by exact bB⟩
     subst c34
     rw [if_pos rfl] at H
     by_cases c35 : 0 ≤ x13_2
     rotate_left
     ·rw [if_neg c35] at H
      exact absurd H (by simp)
     rw [if_pos c35] at H
     have c35b0 : decide (0 ≤ x13_2) = true := decide_eq_true c35
     clear c35
     by_cases c36 : x13_2 < (t664.length : Int)
     rotate_left
     ·rw [if_neg c36] at H
      exact absurd H (by simp)
     rw [if_pos c36] at H
     have c36b0 : decide (x13_2 < (t664.length : Int)) = true := decide_eq_true c36
     clear c36
     replace H := bE H
     obtain ⟨t678, A370, H⟩ := H
     try dsimp only at H
     have A37 := Aside0.mk A370
     clear A370
     by_cases c38 : t678 = true
     ·subst c38
      rw [if_pos rfl] at H
      replace H := bE H
      obtain ⟨t680, A390, H⟩ := H
      try dsimp only at H
      have A39 := Aside0.mk A390
      clear A390
      by_cases c40 : x12_2.length < 5864062014805
      rotate_left
      ·rw [if_neg c40] at H
       exact absurd H (by simp)
      rw [if_pos c40] at H
      have LMc40 := Aside0.mk c40
      clear c40
      obtain ⟨y683, hy683⟩ : ∃ y_ : List (List Int), y_ = (x12_2 ++ [t680]) := ⟨_, rfl⟩
      replace H : (impl_PlayAttacks.l0 k2 t671 y683 x13_2 l2 (l2.length : Int) (wrap64 (x39_2 + 1)) a0_0 l0_1 t663 t664 t667) = some (r1, r2) := by first | (rw [hy683];with_reducible exact H) | (rw [hy683];with_reducible exact hB H) | with_reducible exact hB H | with_reducible exact H | (rw [hy683];exact H) | exact H
      have Ny683 := Aside0.mk hy683
      clear hy683
      have H' := Aside0.mk H
      clear H
      have p675 : 0 ≤ (x39_2 : Int) := oA
      have q675 : x39_2 < (l2.length : Int) := oA
      obtain ⟨ad675, e675, hx675_0⟩ := Kd.at_int HR2.out x39_2 p675 q675
      cases e675
      replace hx675_0 := cB HB.out hx675_0
      replace p675 := eq_true p675
      replace q675 := eq_true q675
      have hnb41 := NB658_670.out
      have hnc41 := NB670_658.out
      have hcz42_0 := bC0 BK658.out
      have hcz42_1 := bC1 BK658.out
      have hfz42_0 := blk_frozen BK658.out 0
      have hfz42_1 := blk_frozen BK658.out 1
      go_wp2_with (first | ((with_reducible refine gate_callee (f := 31) rfl ?_);refine goesL_ (some 47) rfl rfl Tryd.func31 kR rfl #[.int .i64 (rd l2 x39_2), .int .i64 0, .int .i64 (wrap64 (a0_0 - 1))] rfl mM ?_;(with_reducible refine (impl_within.calls (rd l2 x39_2) 0 (wrap64 (a0_0 - 1)) true _ A33.out).mono ?_);rintro e w' ⟨rfl, ⟨nd, rfl⟩⟩;refine ⟨_, rfl, ?_⟩;have hcz43_0 := bC0 BK670.out;have hcz43_1 := bC1 BK670.out;have hcz43_2 := bC2 BK670.out;have hfz43_0 := blk_frozen BK670.out 0;have hfz43_1 := blk_frozen BK670.out 1;have hfz43_2 := blk_frozen BK670.out 2;have p677 : 0 ≤ (x13_2 : Int) := oA;have q677 : x13_2 < (t664.length : Int) := oA;obtain ⟨ad677, A677_0, c677_0, e677, hx677_0, hl677_0, hi677_0⟩ := at_L2 (Kd.S_reads' HO_671001.out).2.2 x13_2 p677 q677;cases e677;obtain ⟨ce677, hce677, hMe677, hcc677⟩ := Kd.S_get HO_671001.out [] x13_2 p677 (by first | exact q677 | exact oA | (have e_ := (Kd.S_reads' HO_671001.out).1;omega));obtain ⟨ve677_0, rfl, ge677_0⟩ := hMe677;have hv677_0 := hcc677 0 _ rfl;rw [Nat.add_zero, show ((Kd.slice 3 (Kd.int .i64))).sz = 1 from rfl, Nat.mul_one] at hv677_0;replace hv677_0 := Option.some.inj (hv677_0.symm.trans hx677_0);rw [hv677_0] at ge677_0;have HL677_0 := aM (show Kd.R (Kd.int .i64) 3 _ _ _ _ (rd_L2 t664 x13_2) from ge677_0);clear hv677_0 ge677_0 hcc677 hce677;have HR677_0 := Aside0.mk hi677_0;have HC677_0 := Aside0.mk hl677_0;clear hi677_0 hl677_0;replace p677 := eq_true p677;replace q677 := eq_true q677) | ((with_reducible refine gate_callee (f := 47) rfl ?_);refine goesL_ (some 57) rfl rfl Tryd.func47 kR rfl #[.slice A677_0 (rd_L2 t664 x13_2).length c677_0, .int .i64 (rd l2 x39_2)] rfl mM ?_;(with_reducible refine (slices_Contains_int_int.calls k2 _ _ (rd_L2 t664 x13_2) (rd l2 x39_2) true _ ?side1 ?side2 A37.out).mono ?_);(case side1 => exact cP (by repeat (first | (with_reducible exact HR677_0.out) | (with_reducible refine Kd.C_alloc ?_ _) | (with_reducible refine Kd.C_drewN ?_ _) | (with_reducible refine Kd.C_drew ?_) | exact HR677_0.out)));(case side2 => exact HC677_0.out);rintro e w' ⟨rfl, ⟨nd, rfl⟩⟩;refine ⟨_, rfl, ?_⟩;have p679 : 0 ≤ (x13_2 : Int) := oA;have q679 : x13_2 < (t664.length : Int) := oA;obtain ⟨ad679, A679_0, c679_0, e679, hx679_0, hl679_0, hi679_0⟩ := at_L2 (Kd.S_reads' HO_671001.out).2.2 x13_2 p679 q679;obtain rfl : ad677 = ad679 := (by injection e679);obtain ⟨ce679, hce679, hMe679, hcc679⟩ := Kd.S_get HO_671001.out [] x13_2 p679 (by first | exact q679 | exact oA | (have e_ := (Kd.S_reads' HO_671001.out).1;omega));obtain ⟨ve679_0, rfl, ge679_0⟩ := hMe679;have hv679_0 := hcc679 0 _ rfl;rw [Nat.add_zero, show ((Kd.slice 3 (Kd.int .i64))).sz = 1 from rfl, Nat.mul_one] at hv679_0;replace hv679_0 := Option.some.inj (hv679_0.symm.trans hx679_0);rw [hv679_0] at ge679_0;have HL679_0 := aM (show Kd.R (Kd.int .i64) 3 _ _ _ _ (rd_L2 t664 x13_2) from ge679_0);clear hv679_0 ge679_0 hcc679 hce679;have HR679_0 := Aside0.mk hi679_0;have HC679_0 := Aside0.mk hl679_0;clear hi679_0 hl679_0;replace p679 := eq_true p679;replace q679 := eq_true q679;have ea_ := Option.some.inj (hx677_0.symm.trans hx679_0);injection ea_ with ea_ en_ ec_;subst ea_;subst ec_;clear en_) | ((with_reducible refine gate_callee (f := 55) rfl ?_);refine goesL_ (some 75) rfl rfl Tryd.func55 kR rfl #[.slice A677_0 (rd_L2 t664 x13_2).length c677_0] rfl mM ?_;(with_reducible refine (slices_Clone_int_int.calls _ _ (rd_L2 t664 x13_2) t680 _ ?side1 ?side2 A39.out).mono ?_);(case side1 => exact cP (by repeat (first | (with_reducible exact HR679_0.out) | (with_reducible refine Kd.C_alloc ?_ _) | (with_reducible refine Kd.C_drewN ?_ _) | (with_reducible refine Kd.C_drew ?_) | exact HR679_0.out)));(case side2 => exact HC679_0.out);rintro e w44 ⟨v681, rfl, ho0, hb⟩;refine ⟨_, rfl, ?_⟩;have n0_ := aM (Kd.R_elder' (by exact rP HO_11.out) (Kd.R_base ho0) hb);have n1_ := aM (Kd.S_elder' (by exact tP HO_12.out) (Kd.R_base ho0) hb);have n2_ := aM (Kd.S_elder' (by exact tP HO_671001.out) (Kd.R_base ho0) hb);have n3_ := aM (Kd.S_elder' (by exact tP HO_671002.out) (Kd.R_base ho0) hb);have n4_ := aM (Kd.R_elder' (by exact rP HL677_0.out) (Kd.R_base ho0) hb);have n5_ := aM (Kd.R_elder' (by exact rP HL679_0.out) (Kd.R_base ho0) hb);have n6_ := aM (Kd.R_lower (Kd.R_new' (Kd.R_new' (Kd.R_new' ho0 (Kd.R_lt (by exact rP HO_11.out))) (Kd.R_lt (by exact rP HL677_0.out))) (Kd.R_lt (by exact rP HL679_0.out))) (below_size (by exact bB)));have n7_ := aM (kB hb BK658.out);have n8_ := aM (kB hb BK670.out);have n9_ := aM (Kd.C_below (by repeat (first | (with_reducible exact HR677_0.out) | (with_reducible refine Kd.C_alloc ?_ _) | (with_reducible refine Kd.C_drewN ?_ _) | (with_reducible refine Kd.C_drew ?_) | exact HR677_0.out)) hb);have n10_ := aM (Kd.C_below (by repeat (first | (with_reducible exact HR679_0.out) | (with_reducible refine Kd.C_alloc ?_ _) | (with_reducible refine Kd.C_drewN ?_ _) | (with_reducible refine Kd.C_drew ?_) | exact HR679_0.out)) hb);have n11_ := aM (below_step (by exact bB) hb);clear HO_11 HO_12 HO_671001 HO_671002 HL677_0 HL679_0 BK658 BK670 HR677_0 HR679_0 HB;have HO_11 := n0_;have HO_12 := n1_;have HO_671001 := n2_;have HO_671002 := n3_;have HL677_0 := n4_;have HL679_0 := n5_;have HO682 := n6_;have BK658 := n7_;have BK670 := n8_;have HR677_0 := n9_;have HR679_0 := n10_;have HB := n11_;clear n0_ n1_ n2_ n3_ n4_ n5_ n6_ n7_ n8_ n9_ n10_ n11_;(try clear hb);(try clear ho0);obtain ⟨Ao46, co46, eo46⟩ := Kd.R_slice HO682.out;subst eo46) | ((with_reducible refine gate_builtin (b := .append) (xs := #[.tmp 67, .tmp 76]) rfl ?_);(try (refine gate_guard (by rfl) ?_;dsimp only));at_builtin;refine Kd.S_append (Kd.slice 3 (Kd.int .i64)) (w0 := w) w.heap.size rfl (.tmp 67) (.tmp 76) 26 36 (.slice none 0 0) 24 rfl Tryd.underlying26 info36 rfl (by decide) (by omega) u12 x12_2 t680 [.slice Ao46 t680.length co46] (fun k_ => some k_ ≠ (v672 : Value).ownBlock ∧ some k_ ≠ (.slice (some ad677) t664.length co22 : Value).ownBlock ∧ some k_ ≠ (.slice Ao23 t667.length co23 : Value).ownBlock) (fun k_ => some k_ = (.slice Ao46 t680.length co46 : Value).ownBlock) rfl rfl ?aP (fun k_ hk_ => ((Kd.R_mono (ok' := fun k_ => ((fun k_ => some k_ ≠ (v672 : Value).ownBlock ∧ some k_ ≠ (.slice (some ad677) t664.length co22 : Value).ownBlock ∧ some k_ ≠ (.slice Ao23 t667.length co23 : Value).ownBlock)) k_ ∧ some k_ ≠ (u12 : Value).ownBlock) (Kd.R_apart' (Kd.R_apart' (Kd.R_apart' (HO682.out) (Kd.S_typed HO_671001.out) (by decide)) (Kd.S_typed HO_671002.out) (by decide)) (Kd.S_typed HO_12.out) (by decide)) (fun k_ hk => ⟨⟨hk.1.1.1.1.1.2, ⟨hk.1.1.2, hk.1.2⟩⟩, hk.2⟩))).1 k_ hk_.symm) ?aF ?aO ?aB ?aS ?aL ?_;(case aP => exact Kd.M_row (Kd.R_mono (Kd.R_tight rfl (Kd.R_mono (ok' := fun k_ => ((fun k_ => some k_ ≠ (v672 : Value).ownBlock ∧ some k_ ≠ (.slice (some ad677) t664.length co22 : Value).ownBlock ∧ some k_ ≠ (.slice Ao23 t667.length co23 : Value).ownBlock)) k_ ∧ some k_ ≠ (u12 : Value).ownBlock) (Kd.R_apart' (Kd.R_apart' (Kd.R_apart' (HO682.out) (Kd.S_typed HO_671001.out) (by decide)) (Kd.S_typed HO_671002.out) (by decide)) (Kd.S_typed HO_12.out) (by decide)) (fun k_ hk => ⟨⟨hk.1.1.1.1.1.2, ⟨hk.1.1.2, hk.1.2⟩⟩, hk.2⟩))) (fun _ h_ => h_)));(case aB => exact (by exact bB));(case aF => exact (fun k_ hk => ⟨Kd.fresh' (Kd.R_lt (by exact rP HO_11.out)) k_ hk, Kd.fresh' (Kd.S_lt (by exact tP HO_671001.out)) k_ hk, Kd.fresh' (Kd.S_lt (by exact tP HO_671002.out)) k_ hk⟩));(case aO => exact (by (with_reducible repeat (first | apply Kd.S_alloc | apply Kd.S_drewN | apply Kd.S_drew));exact Kd.S_mono HO_12.out (fun k_ hk => ⟨⟨hk.1.1, ⟨hk.1.2.1, hk.1.2.2⟩⟩, fun e_ => hk.2 e_⟩)));(case aS => exact (below_size (by exact bB)));(case aL => have := LMc40.out;omega);intro v684 w45 ho hb hg hat;rw [← Ny683.out] at ho;have n0_ := aM (Kd.R_over' (by exact rP HO_11.out) (Kd.S_typed (by exact tP HO_12.out)) (by decide) hg);have n1_ := aM (Kd.S_after (ok := (fun k_ => some k_ ≠ (v672 : Value).ownBlock ∧ some k_ ≠ (.slice Ao23 t667.length co23 : Value).ownBlock ∧ some k_ ≠ (.slice Ao46 t680.length co46 : Value).ownBlock)) (by (with_reducible repeat (first | apply Kd.S_alloc | apply Kd.S_drewN | apply Kd.S_drew));exact Kd.S_mono HO_671001.out (fun _ hk => ⟨⟨hk.1.1, ⟨hk.1.2.2, hk.2⟩⟩, hk.1.2.1⟩)) hg hat);have n2_ := aM (Kd.S_after (ok := (fun k_ => some k_ ≠ (v672 : Value).ownBlock ∧ some k_ ≠ (.slice (some ad677) t664.length co22 : Value).ownBlock ∧ some k_ ≠ (.slice Ao46 t680.length co46 : Value).ownBlock)) (by (with_reducible repeat (first | apply Kd.S_alloc | apply Kd.S_drewN | apply Kd.S_drew));exact Kd.S_mono HO_671002.out (fun _ hk => ⟨⟨hk.1.1, ⟨hk.1.2.2, hk.2⟩⟩, hk.1.2.1⟩)) hg hat);have n3_ := aM (blk_grown (g := gb658) (o := .cells #[.int .i64 a0_0, .slice A0_1 l0_1.length c0_1] 29 (0, 0)) (by exact kP BK658.out) hg (Kd.S_ne HO_12.out BK658.out (by decide)));have n4_ := aM (blk_grown (g := gb670) (o := .cells #[.int .i64 t663, .slice (some ad677) t664.length co22, .slice Ao23 t667.length co23] 61 (0, 0)) (by exact kP BK670.out) hg (Kd.S_ne HO_12.out BK670.out (by decide)));have n5_ := aM (Kd.R_after (ok := (fun k_ => some k_ ≠ (v672 : Value).ownBlock ∧ some k_ ≠ (.slice (some ad677) t664.length co22 : Value).ownBlock ∧ some k_ ≠ (.slice Ao23 t667.length co23 : Value).ownBlock ∧ some k_ ≠ (.slice Ao46 t680.length co46 : Value).ownBlock)) (by exact rP (Kd.R_mono HL677_0.out (fun _ hk => ⟨⟨hk.1.1.1, ⟨hk.1.2, ⟨hk.1.1.2.2, hk.2⟩⟩⟩, hk.1.1.2.1⟩))) hg hat);have n6_ := aM (Kd.R_after (ok := (fun k_ => some k_ ≠ (v672 : Value).ownBlock ∧ some k_ ≠ (.slice (some ad677) t664.length co22 : Value).ownBlock ∧ some k_ ≠ (.slice Ao23 t667.length co23 : Value).ownBlock ∧ some k_ ≠ (.slice Ao46 t680.length co46 : Value).ownBlock)) (by exact rP (Kd.R_mono HL679_0.out (fun _ hk => ⟨⟨hk.1.1.1, ⟨hk.1.2, ⟨hk.1.1.2.2, hk.2⟩⟩⟩, hk.1.1.2.1⟩))) hg hat);have n7_ := aM (hb);have n8_ := aM (ho);clear HO_11 HO_671001 HO_671002 BK658 BK670 HL677_0 HL679_0 HB HO_12 HO682;have HO_11 := n0_;have HO_671001 := n1_;have HO_671002 := n2_;have BK658 := n3_;have BK670 := n4_;have HL677_0 := n5_;have HL679_0 := n6_;have HB := n7_;have HO685 := n8_;clear n0_ n1_ n2_ n3_ n4_ n5_ n6_ n7_ n8_ ho hb hg hat))
      go_roundg k2
      case measure => have := HJ4.out;have := HK2.out;omega
      case rel => exact ⟨(y683), (x13_2), (wrap64 (x39_2 + 1)), eF, eF, H', ⟨by have := HJ4.out;have := HK2.out;omega⟩, ⟨by refine rP ?_;exact Kd.R_mono HO_11.out (fun _ hk => trivial)⟩, ⟨by (with_reducible repeat (first | apply Kd.S_alloc | apply Kd.S_drewN | apply Kd.S_drew));exact HO685.out⟩, ⟨by (with_reducible repeat (first | apply Kd.S_alloc | apply Kd.S_drewN | apply Kd.S_drew));exact Kd.S_mono HO_671001.out (fun _ hk => ⟨hk.1.1, ⟨hk.2, hk.1.2.1⟩⟩)⟩, ⟨by (with_reducible repeat (first | apply Kd.S_alloc | apply Kd.S_drewN | apply Kd.S_drew));exact Kd.S_mono HO_671002.out (fun _ hk => ⟨hk.1.1, ⟨hk.2, hk.1.2.1⟩⟩)⟩, ⟨by exact kP BK658.out⟩, ⟨by exact kP BK670.out⟩, ⟨by exact bB⟩⟩
     replace c38 := Bool.eq_false_iff.mpr c38
     subst c38
     rw [if_neg fF] at H
     replace H := bE H
     obtain ⟨t686, A470, H⟩ := H
     try dsimp only at H
     have A47 := Aside0.mk A470
     clear A470
     by_cases c48 : t686 < 0
     ·rw [if_pos c48] at H
      have c48b0 : decide (t686 < 0) = true := decide_eq_true c48
      clear c48
      simp only [Option.some.injEq, Prod.mk.injEq] at H
      obtain ⟨rfl, rfl⟩ := H
      have p675 : 0 ≤ (x39_2 : Int) := oA
      have q675 : x39_2 < (l2.length : Int) := oA
      obtain ⟨ad675, e675, hx675_0⟩ := Kd.at_int HR2.out x39_2 p675 q675
      cases e675
      replace hx675_0 := cB HB.out hx675_0
      replace p675 := eq_true p675
      replace q675 := eq_true q675
      have hnb49 := NB658_670.out
      have hnc49 := NB670_658.out
      have hcz50_0 := bC0 BK658.out
      have hcz50_1 := bC1 BK658.out
      have hfz50_0 := blk_frozen BK658.out 0
      have hfz50_1 := blk_frozen BK658.out 1
      go_wp2_with (first | ((with_reducible refine gate_callee (f := 31) rfl ?_);refine goesL_ (some 47) rfl rfl Tryd.func31 kR rfl #[.int .i64 (rd l2 x39_2), .int .i64 0, .int .i64 (wrap64 (a0_0 - 1))] rfl mM ?_;(with_reducible refine (impl_within.calls (rd l2 x39_2) 0 (wrap64 (a0_0 - 1)) true _ A33.out).mono ?_);rintro e w' ⟨rfl, ⟨nd, rfl⟩⟩;refine ⟨_, rfl, ?_⟩;have hcz51_0 := bC0 BK670.out;have hcz51_1 := bC1 BK670.out;have hcz51_2 := bC2 BK670.out;have hfz51_0 := blk_frozen BK670.out 0;have hfz51_1 := blk_frozen BK670.out 1;have hfz51_2 := blk_frozen BK670.out 2;have p677 : 0 ≤ (x13_2 : Int) := oA;have q677 : x13_2 < (t664.length : Int) := oA;obtain ⟨ad677, A677_0, c677_0, e677, hx677_0, hl677_0, hi677_0⟩ := at_L2 (Kd.S_reads' HO_671001.out).2.2 x13_2 p677 q677;cases e677;obtain ⟨ce677, hce677, hMe677, hcc677⟩ := Kd.S_get HO_671001.out [] x13_2 p677 (by first | exact q677 | exact oA | (have e_ := (Kd.S_reads' HO_671001.out).1;omega));obtain ⟨ve677_0, rfl, ge677_0⟩ := hMe677;have hv677_0 := hcc677 0 _ rfl;rw [Nat.add_zero, show ((Kd.slice 3 (Kd.int .i64))).sz = 1 from rfl, Nat.mul_one] at hv677_0;replace hv677_0 := Option.some.inj (hv677_0.symm.trans hx677_0);rw [hv677_0] at ge677_0;have HL677_0 := aM (show Kd.R (Kd.int .i64) 3 _ _ _ _ (rd_L2 t664 x13_2) from ge677_0);clear hv677_0 ge677_0 hcc677 hce677;have HR677_0 := Aside0.mk hi677_0;have HC677_0 := Aside0.mk hl677_0;clear hi677_0 hl677_0;replace p677 := eq_true p677;replace q677 := eq_true q677) | ((with_reducible refine gate_callee (f := 47) rfl ?_);refine goesL_ (some 57) rfl rfl Tryd.func47 kR rfl #[.slice A677_0 (rd_L2 t664 x13_2).length c677_0, .int .i64 (rd l2 x39_2)] rfl mM ?_;(with_reducible refine (slices_Contains_int_int.calls k2 _ _ (rd_L2 t664 x13_2) (rd l2 x39_2) false _ ?side1 ?side2 A37.out).mono ?_);(case side1 => exact cP (by repeat (first | (with_reducible exact HR677_0.out) | (with_reducible refine Kd.C_alloc ?_ _) | (with_reducible refine Kd.C_drewN ?_ _) | (with_reducible refine Kd.C_drew ?_) | exact HR677_0.out)));(case side2 => exact HC677_0.out);rintro e w' ⟨rfl, ⟨nd, rfl⟩⟩;refine ⟨_, rfl, ?_⟩;obtain ⟨Ao52, co52, eo52⟩ := Kd.R_slice HO_11.out;subst eo52) | ((with_reducible refine gate_callee (f := 54) rfl ?_);refine goesL_ (some 63) rfl rfl Tryd.func54 kR rfl #[.pointer (some ⟨gb670, 0, none⟩), .slice Ao52 t671.length co52, .int .i64 x13_2, .int .i64 (rd l2 x39_2)] rfl mM ?_;(with_reducible refine (impl_valBest.calls gb670 k2 t663 (some ad677) co22 t664 Ao23 co23 t667 _ _ t671 x13_2 (rd l2 x39_2) t686 _ ?side1 ?side2 ?side3 ?side4 ?side5 ?side6 ?sideF A47.out ?sideG).mono ?_);(case sideG => exact kP BK670.out);(case sideF => exact best_ne HO_11.out BK670.out);(case side1 => exact cP (Kd.S_reads' HO_671001.out).2.2);(case side2 => exact (Kd.S_reads' HO_671001.out).2.1);(case side3 => exact cP (Kd.S_reads' HO_671002.out).2.2);(case side4 => exact (Kd.S_reads' HO_671002.out).2.1);(case side5 => exact cP (Kd.R_reads' HO_11.out).2.2);(case side6 => exact (Kd.R_reads' HO_11.out).2.1);rintro e w53 ⟨rfl, hb⟩;refine ⟨_, rfl, ?_⟩;have n0_ := aM (Kd.R_below (by exact rP HO_11.out) hb);have n1_ := aM (Kd.S_below (by exact tP HO_12.out) hb);have n2_ := aM (Kd.S_below (by exact tP HO_671001.out) hb);have n3_ := aM (Kd.S_below (by exact tP HO_671002.out) hb);have n4_ := aM (Kd.R_below (by exact rP HL677_0.out) hb);have n5_ := aM (kB hb BK658.out);have n6_ := aM (kB hb BK670.out);have n7_ := aM (Kd.C_below (by repeat (first | (with_reducible exact HR677_0.out) | (with_reducible refine Kd.C_alloc ?_ _) | (with_reducible refine Kd.C_drewN ?_ _) | (with_reducible refine Kd.C_drew ?_) | exact HR677_0.out)) hb);have n8_ := aM (below_step (by exact bB) hb);clear HO_11 HO_12 HO_671001 HO_671002 HL677_0 BK658 BK670 HR677_0 HB;have HO_11 := n0_;have HO_12 := n1_;have HO_671001 := n2_;have HO_671002 := n3_;have HL677_0 := n4_;have BK658 := n5_;have BK670 := n6_;have HR677_0 := n7_;have HB := n8_;clear n0_ n1_ n2_ n3_ n4_ n5_ n6_ n7_ n8_;(try clear hb)))
      go_ret2
      exact ⟨_, eW, by (with_reducible repeat (first | apply Kd.S_alloc | apply Kd.S_drewN | apply Kd.S_drew));exact Kd.S_mono HO_12.out (fun _ hk => trivial), by exact bB⟩
     rw [if_neg c48] at H
     have c48b0 : decide (t686 < 0) = false := decide_eq_false c48
     clear c48
     by_cases c54 : 0 ≤ t686
     rotate_left
     ·rw [if_neg c54] at H
      exact absurd H (by simp)
     rw [if_pos c54] at H
     have c54b0 : decide (0 ≤ t686) = true := decide_eq_true c54
     clear c54
     by_cases c55 : t686 < (t664.length : Int)
     rotate_left
     ·rw [if_neg c55] at H
      exact absurd H (by simp)
     rw [if_pos c55] at H
     have c55b0 : decide (t686 < (t664.length : Int)) = true := decide_eq_true c55
     clear c55
     replace H := bE H
     obtain ⟨t688, A560, H⟩ := H
     try dsimp only at H
     have A56 := Aside0.mk A560
     clear A560
     by_cases c57 : x12_2.length < 5864062014805
     rotate_left
     ·rw [if_neg c57] at H
      exact absurd H (by simp)
     rw [if_pos c57] at H
     have LMc57 := Aside0.mk c57
     clear c57
     obtain ⟨y691, hy691⟩ : ∃ y_ : List (List Int), y_ = (x12_2 ++ [t688]) := ⟨_, rfl⟩
     replace H : (impl_PlayAttacks.l0 k2 t671 y691 t686 l2 (l2.length : Int) (wrap64 (x39_2 + 1)) a0_0 l0_1 t663 t664 t667) = some (r1, r2) := by first | (rw [hy691];with_reducible exact H) | (rw [hy691];with_reducible exact hB H) | with_reducible exact hB H | with_reducible exact H | (rw [hy691];exact H) | exact H
     have Ny691 := Aside0.mk hy691
     clear hy691
     have H' := Aside0.mk H
     clear H
     have p675 : 0 ≤ (x39_2 : Int) := oA
     have q675 : x39_2 < (l2.length : Int) := oA
     obtain ⟨ad675, e675, hx675_0⟩ := Kd.at_int HR2.out x39_2 p675 q675
     cases e675
     replace hx675_0 := cB HB.out hx675_0
     replace p675 := eq_true p675
     replace q675 := eq_true q675
     have hnb58 := NB658_670.out
     have hnc58 := NB670_658.out
     have hcz59_0 := bC0 BK658.out
     have hcz59_1 := bC1 BK658.out
     have hfz59_0 := blk_frozen BK658.out 0
     have hfz59_1 := blk_frozen BK658.out 1
     go_wp2_with (first | ((with_reducible refine gate_callee (f := 31) rfl ?_);refine goesL_ (some 47) rfl rfl Tryd.func31 kR rfl #[.int .i64 (rd l2 x39_2), .int .i64 0, .int .i64 (wrap64 (a0_0 - 1))] rfl mM ?_;(with_reducible refine (impl_within.calls (rd l2 x39_2) 0 (wrap64 (a0_0 - 1)) true _ A33.out).mono ?_);rintro e w' ⟨rfl, ⟨nd, rfl⟩⟩;refine ⟨_, rfl, ?_⟩;have hcz60_0 := bC0 BK670.out;have hcz60_1 := bC1 BK670.out;have hcz60_2 := bC2 BK670.out;have hfz60_0 := blk_frozen BK670.out 0;have hfz60_1 := blk_frozen BK670.out 1;have hfz60_2 := blk_frozen BK670.out 2;have p677 : 0 ≤ (x13_2 : Int) := oA;have q677 : x13_2 < (t664.length : Int) := oA;obtain ⟨ad677, A677_0, c677_0, e677, hx677_0, hl677_0, hi677_0⟩ := at_L2 (Kd.S_reads' HO_671001.out).2.2 x13_2 p677 q677;cases e677;obtain ⟨ce677, hce677, hMe677, hcc677⟩ := Kd.S_get HO_671001.out [] x13_2 p677 (by first | exact q677 | exact oA | (have e_ := (Kd.S_reads' HO_671001.out).1;omega));obtain ⟨ve677_0, rfl, ge677_0⟩ := hMe677;have hv677_0 := hcc677 0 _ rfl;rw [Nat.add_zero, show ((Kd.slice 3 (Kd.int .i64))).sz = 1 from rfl, Nat.mul_one] at hv677_0;replace hv677_0 := Option.some.inj (hv677_0.symm.trans hx677_0);rw [hv677_0] at ge677_0;have HL677_0 := aM (show Kd.R (Kd.int .i64) 3 _ _ _ _ (rd_L2 t664 x13_2) from ge677_0);clear hv677_0 ge677_0 hcc677 hce677;have HR677_0 := Aside0.mk hi677_0;have HC677_0 := Aside0.mk hl677_0;clear hi677_0 hl677_0;replace p677 := eq_true p677;replace q677 := eq_true q677) | ((with_reducible refine gate_callee (f := 47) rfl ?_);refine goesL_ (some 57) rfl rfl Tryd.func47 kR rfl #[.slice A677_0 (rd_L2 t664 x13_2).length c677_0, .int .i64 (rd l2 x39_2)] rfl mM ?_;(with_reducible refine (slices_Contains_int_int.calls k2 _ _ (rd_L2 t664 x13_2) (rd l2 x39_2) false _ ?side1 ?side2 A37.out).mono ?_);(case side1 => exact cP (by repeat (first | (with_reducible exact HR677_0.out) | (with_reducible refine Kd.C_alloc ?_ _) | (with_reducible refine Kd.C_drewN ?_ _) | (with_reducible refine Kd.C_drew ?_) | exact HR677_0.out)));(case side2 => exact HC677_0.out);rintro e w' ⟨rfl, ⟨nd, rfl⟩⟩;refine ⟨_, rfl, ?_⟩;obtain ⟨Ao61, co61, eo61⟩ := Kd.R_slice HO_11.out;subst eo61) | ((with_reducible refine gate_callee (f := 54) rfl ?_);refine goesL_ (some 63) rfl rfl Tryd.func54 kR rfl #[.pointer (some ⟨gb670, 0, none⟩), .slice Ao61 t671.length co61, .int .i64 x13_2, .int .i64 (rd l2 x39_2)] rfl mM ?_;(with_reducible refine (impl_valBest.calls gb670 k2 t663 (some ad677) co22 t664 Ao23 co23 t667 _ _ t671 x13_2 (rd l2 x39_2) t686 _ ?side1 ?side2 ?side3 ?side4 ?side5 ?side6 ?sideF A47.out ?sideG).mono ?_);(case sideG => exact kP BK670.out);(case sideF => exact best_ne HO_11.out BK670.out);(case side1 => exact cP (Kd.S_reads' HO_671001.out).2.2);(case side2 => exact (Kd.S_reads' HO_671001.out).2.1);(case side3 => exact cP (Kd.S_reads' HO_671002.out).2.2);(case side4 => exact (Kd.S_reads' HO_671002.out).2.1);(case side5 => exact cP (Kd.R_reads' HO_11.out).2.2);(case side6 => exact (Kd.R_reads' HO_11.out).2.1);rintro e w62 ⟨rfl, hb⟩;refine ⟨_, rfl, ?_⟩;have n0_ := aM (Kd.R_below (by exact rP HO_11.out) hb);have n1_ := aM (Kd.S_below (by exact tP HO_12.out) hb);have n2_ := aM (Kd.S_below (by exact tP HO_671001.out) hb);have n3_ := aM (Kd.S_below (by exact tP HO_671002.out) hb);have n4_ := aM (Kd.R_below (by exact rP HL677_0.out) hb);have n5_ := aM (kB hb BK658.out);have n6_ := aM (kB hb BK670.out);have n7_ := aM (Kd.C_below (by repeat (first | (with_reducible exact HR677_0.out) | (with_reducible refine Kd.C_alloc ?_ _) | (with_reducible refine Kd.C_drewN ?_ _) | (with_reducible refine Kd.C_drew ?_) | exact HR677_0.out)) hb);have n8_ := aM (below_step (by exact bB) hb);clear HO_11 HO_12 HO_671001 HO_671002 HL677_0 BK658 BK670 HR677_0 HB;have HO_11 := n0_;have HO_12 := n1_;have HO_671001 := n2_;have HO_671002 := n3_;have HL677_0 := n4_;have BK658 := n5_;have BK670 := n6_;have HR677_0 := n7_;have HB := n8_;clear n0_ n1_ n2_ n3_ n4_ n5_ n6_ n7_ n8_;(try clear hb);have hcz63_0 := bC0 BK670.out;have hcz63_1 := bC1 BK670.out;have hcz63_2 := bC2 BK670.out;have hfz63_0 := blk_frozen BK670.out 0;have hfz63_1 := blk_frozen BK670.out 1;have hfz63_2 := blk_frozen BK670.out 2;have p687 : 0 ≤ (t686 : Int) := oA;have q687 : t686 < (t664.length : Int) := oA;obtain ⟨ad687, A687_0, c687_0, e687, hx687_0, hl687_0, hi687_0⟩ := at_L2 (Kd.S_reads' HO_671001.out).2.2 t686 p687 q687;obtain rfl : ad677 = ad687 := (by injection e687);obtain ⟨ce687, hce687, hMe687, hcc687⟩ := Kd.S_get HO_671001.out [] t686 p687 (by first | exact q687 | exact oA | (have e_ := (Kd.S_reads' HO_671001.out).1;omega));obtain ⟨ve687_0, rfl, ge687_0⟩ := hMe687;have hv687_0 := hcc687 0 _ rfl;rw [Nat.add_zero, show ((Kd.slice 3 (Kd.int .i64))).sz = 1 from rfl, Nat.mul_one] at hv687_0;replace hv687_0 := Option.some.inj (hv687_0.symm.trans hx687_0);rw [hv687_0] at ge687_0;have HL687_0 := aM (show Kd.R (Kd.int .i64) 3 _ _ _ _ (rd_L2 t664 t686) from ge687_0);clear hv687_0 ge687_0 hcc687 hce687;have HR687_0 := Aside0.mk hi687_0;have HC687_0 := Aside0.mk hl687_0;clear hi687_0 hl687_0;replace p687 := eq_true p687;replace q687 := eq_true q687) | ((with_reducible refine gate_callee (f := 55) rfl ?_);refine goesL_ (some 75) rfl rfl Tryd.func55 kR rfl #[.slice A687_0 (rd_L2 t664 t686).length c687_0] rfl mM ?_;(with_reducible refine (slices_Clone_int_int.calls _ _ (rd_L2 t664 t686) t688 _ ?side1 ?side2 A56.out).mono ?_);(case side1 => exact cP (by repeat (first | (with_reducible exact HR687_0.out) | (with_reducible refine Kd.C_alloc ?_ _) | (with_reducible refine Kd.C_drewN ?_ _) | (with_reducible refine Kd.C_drew ?_) | exact HR687_0.out)));(case side2 => exact HC687_0.out);rintro e w64 ⟨v689, rfl, ho0, hb⟩;refine ⟨_, rfl, ?_⟩;have n0_ := aM (Kd.R_elder' (by exact rP HO_11.out) (Kd.R_base ho0) hb);have n1_ := aM (Kd.S_elder' (by exact tP HO_12.out) (Kd.R_base ho0) hb);have n2_ := aM (Kd.S_elder' (by exact tP HO_671001.out) (Kd.R_base ho0) hb);have n3_ := aM (Kd.S_elder' (by exact tP HO_671002.out) (Kd.R_base ho0) hb);have n4_ := aM (Kd.R_elder' (by exact rP HL677_0.out) (Kd.R_base ho0) hb);have n5_ := aM (Kd.R_elder' (by exact rP HL687_0.out) (Kd.R_base ho0) hb);have n6_ := aM (Kd.R_lower (Kd.R_new' (Kd.R_new' (Kd.R_new' ho0 (Kd.R_lt (by exact rP HO_11.out))) (Kd.R_lt (by exact rP HL677_0.out))) (Kd.R_lt (by exact rP HL687_0.out))) (below_size (by exact bB)));have n7_ := aM (kB hb BK658.out);have n8_ := aM (kB hb BK670.out);have n9_ := aM (Kd.C_below (by repeat (first | (with_reducible exact HR677_0.out) | (with_reducible refine Kd.C_alloc ?_ _) | (with_reducible refine Kd.C_drewN ?_ _) | (with_reducible refine Kd.C_drew ?_) | exact HR677_0.out)) hb);have n10_ := aM (Kd.C_below (by repeat (first | (with_reducible exact HR687_0.out) | (with_reducible refine Kd.C_alloc ?_ _) | (with_reducible refine Kd.C_drewN ?_ _) | (with_reducible refine Kd.C_drew ?_) | exact HR687_0.out)) hb);have n11_ := aM (below_step (by exact bB) hb);clear HO_11 HO_12 HO_671001 HO_671002 HL677_0 HL687_0 BK658 BK670 HR677_0 HR687_0 HB;have HO_11 := n0_;have HO_12 := n1_;have HO_671001 := n2_;have HO_671002 := n3_;have HL677_0 := n4_;have HL687_0 := n5_;have HO690 := n6_;have BK658 := n7_;have BK670 := n8_;have HR677_0 := n9_;have HR687_0 := n10_;have HB := n11_;clear n0_ n1_ n2_ n3_ n4_ n5_ n6_ n7_ n8_ n9_ n10_ n11_;(try clear hb);(try clear ho0);obtain ⟨Ao66, co66, eo66⟩ := Kd.R_slice HO690.out;subst eo66) | ((with_reducible refine gate_builtin (b := .append) (xs := #[.tmp 67, .tmp 76]) rfl ?_);(try (refine gate_guard (by rfl) ?_;dsimp only));at_builtin;refine Kd.S_append (Kd.slice 3 (Kd.int .i64)) (w0 := w) w.heap.size rfl (.tmp 67) (.tmp 76) 26 36 (.slice none 0 0) 24 rfl Tryd.underlying26 info36 rfl (by decide) (by omega) u12 x12_2 t688 [.slice Ao66 t688.length co66] (fun k_ => some k_ ≠ (.slice Ao61 t671.length co61 : Value).ownBlock ∧ some k_ ≠ (.slice (some ad677) t664.length co22 : Value).ownBlock ∧ some k_ ≠ (.slice Ao23 t667.length co23 : Value).ownBlock) (fun k_ => some k_ = (.slice Ao66 t688.length co66 : Value).ownBlock) rfl rfl ?aP (fun k_ hk_ => ((Kd.R_mono (ok' := fun k_ => ((fun k_ => some k_ ≠ (.slice Ao61 t671.length co61 : Value).ownBlock ∧ some k_ ≠ (.slice (some ad677) t664.length co22 : Value).ownBlock ∧ some k_ ≠ (.slice Ao23 t667.length co23 : Value).ownBlock)) k_ ∧ some k_ ≠ (u12 : Value).ownBlock) (Kd.R_apart' (Kd.R_apart' (Kd.R_apart' (HO690.out) (Kd.S_typed HO_671001.out) (by decide)) (Kd.S_typed HO_671002.out) (by decide)) (Kd.S_typed HO_12.out) (by decide)) (fun k_ hk => ⟨⟨hk.1.1.1.1.1.2, ⟨hk.1.1.2, hk.1.2⟩⟩, hk.2⟩))).1 k_ hk_.symm) ?aF ?aO ?aB ?aS ?aL ?_;(case aP => exact Kd.M_row (Kd.R_mono (Kd.R_tight rfl (Kd.R_mono (ok' := fun k_ => ((fun k_ => some k_ ≠ (.slice Ao61 t671.length co61 : Value).ownBlock ∧ some k_ ≠ (.slice (some ad677) t664.length co22 : Value).ownBlock ∧ some k_ ≠ (.slice Ao23 t667.length co23 : Value).ownBlock)) k_ ∧ some k_ ≠ (u12 : Value).ownBlock) (Kd.R_apart' (Kd.R_apart' (Kd.R_apart' (HO690.out) (Kd.S_typed HO_671001.out) (by decide)) (Kd.S_typed HO_671002.out) (by decide)) (Kd.S_typed HO_12.out) (by decide)) (fun k_ hk => ⟨⟨hk.1.1.1.1.1.2, ⟨hk.1.1.2, hk.1.2⟩⟩, hk.2⟩))) (fun _ h_ => h_)));(case aB => exact (by exact bB));(case aF => exact (fun k_ hk => ⟨Kd.fresh' (Kd.R_lt (by exact rP HO_11.out)) k_ hk, Kd.fresh' (Kd.S_lt (by exact tP HO_671001.out)) k_ hk, Kd.fresh' (Kd.S_lt (by exact tP HO_671002.out)) k_ hk⟩));(case aO => exact (by (with_reducible repeat (first | apply Kd.S_alloc | apply Kd.S_drewN | apply Kd.S_drew));exact Kd.S_mono HO_12.out (fun k_ hk => ⟨⟨hk.1.1, ⟨hk.1.2.1, hk.1.2.2⟩⟩, fun e_ => hk.2 e_⟩)));(case aS => exact (below_size (by exact bB)));(case aL => have := LMc57.out;omega);intro v692 w65 ho hb hg hat;rw [← Ny691.out] at ho;have n0_ := aM (Kd.R_over' (by exact rP HO_11.out) (Kd.S_typed (by exact tP HO_12.out)) (by decide) hg);have n1_ := aM (Kd.S_after (ok := (fun k_ => some k_ ≠ (.slice Ao61 t671.length co61 : Value).ownBlock ∧ some k_ ≠ (.slice Ao23 t667.length co23 : Value).ownBlock ∧ some k_ ≠ (.slice Ao66 t688.length co66 : Value).ownBlock)) (by (with_reducible repeat (first | apply Kd.S_alloc | apply Kd.S_drewN | apply Kd.S_drew));exact Kd.S_mono HO_671001.out (fun _ hk => ⟨⟨hk.1.1, ⟨hk.1.2.2, hk.2⟩⟩, hk.1.2.1⟩)) hg hat);have n2_ := aM (Kd.S_after (ok := (fun k_ => some k_ ≠ (.slice Ao61 t671.length co61 : Value).ownBlock ∧ some k_ ≠ (.slice (some ad677) t664.length co22 : Value).ownBlock ∧ some k_ ≠ (.slice Ao66 t688.length co66 : Value).ownBlock)) (by (with_reducible repeat (first | apply Kd.S_alloc | apply Kd.S_drewN | apply Kd.S_drew));exact Kd.S_mono HO_671002.out (fun _ hk => ⟨⟨hk.1.1, ⟨hk.1.2.2, hk.2⟩⟩, hk.1.2.1⟩)) hg hat);have n3_ := aM (blk_grown (g := gb658) (o := .cells #[.int .i64 a0_0, .slice A0_1 l0_1.length c0_1] 29 (0, 0)) (by exact kP BK658.out) hg (Kd.S_ne HO_12.out BK658.out (by decide)));have n4_ := aM (blk_grown (g := gb670) (o := .cells #[.int .i64 t663, .slice (some ad677) t664.length co22, .slice Ao23 t667.length co23] 61 (0, 0)) (by exact kP BK670.out) hg (Kd.S_ne HO_12.out BK670.out (by decide)));have n5_ := aM (Kd.R_after (ok := (fun k_ => some k_ ≠ (.slice Ao61 t671.length co61 : Value).ownBlock ∧ some k_ ≠ (.slice (some ad677) t664.length co22 : Value).ownBlock ∧ some k_ ≠ (.slice Ao23 t667.length co23 : Value).ownBlock ∧ some k_ ≠ (.slice Ao66 t688.length co66 : Value).ownBlock)) (by exact rP (Kd.R_mono HL677_0.out (fun _ hk => ⟨⟨hk.1.1.1, ⟨hk.1.2, ⟨hk.1.1.2.2, hk.2⟩⟩⟩, hk.1.1.2.1⟩))) hg hat);have n6_ := aM (Kd.R_after (ok := (fun k_ => some k_ ≠ (.slice Ao61 t671.length co61 : Value).ownBlock ∧ some k_ ≠ (.slice (some ad677) t664.length co22 : Value).ownBlock ∧ some k_ ≠ (.slice Ao23 t667.length co23 : Value).ownBlock ∧ some k_ ≠ (.slice Ao66 t688.length co66 : Value).ownBlock)) (by exact rP (Kd.R_mono HL687_0.out (fun _ hk => ⟨⟨hk.1.1.1, ⟨hk.1.2, ⟨hk.1.1.2.2, hk.2⟩⟩⟩, hk.1.1.2.1⟩))) hg hat);have n7_ := aM (hb);have n8_ := aM (ho);clear HO_11 HO_671001 HO_671002 BK658 BK670 HL677_0 HL687_0 HB HO_12 HO690;have HO_11 := n0_;have HO_671001 := n1_;have HO_671002 := n2_;have BK658 := n3_;have BK670 := n4_;have HL677_0 := n5_;have HL687_0 := n6_;have HB := n7_;have HO693 := n8_;clear n0_ n1_ n2_ n3_ n4_ n5_ n6_ n7_ n8_ ho hb hg hat))
     go_roundg k2
     case measure => have := HJ4.out;have := HK2.out;omega
     case rel => exact ⟨(y691), (t686), (wrap64 (x39_2 + 1)), eF, eF, H', ⟨by have := HJ4.out;have := HK2.out;omega⟩, ⟨by refine rP ?_;exact Kd.R_mono HO_11.out (fun _ hk => trivial)⟩, ⟨by (with_reducible repeat (first | apply Kd.S_alloc | apply Kd.S_drewN | apply Kd.S_drew));exact HO693.out⟩, ⟨by (with_reducible repeat (first | apply Kd.S_alloc | apply Kd.S_drewN | apply Kd.S_drew));exact Kd.S_mono HO_671001.out (fun _ hk => ⟨hk.1.1, ⟨hk.2, hk.1.2.1⟩⟩)⟩, ⟨by (with_reducible repeat (first | apply Kd.S_alloc | apply Kd.S_drewN | apply Kd.S_drew));exact Kd.S_mono HO_671002.out (fun _ hk => ⟨hk.1.1, ⟨hk.2, hk.1.2.1⟩⟩)⟩, ⟨by exact kP BK658.out⟩, ⟨by exact kP BK670.out⟩, ⟨by exact bB⟩⟩


end Go.Proofs.YtgahlimikndecaaDoor.QPlayAttacks
