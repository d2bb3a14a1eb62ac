import Derived.Test.YtgahlimikndecaaDoorQEternalFamily0
import Derived.Test.YtgahlimikndecaaDoorQEternalFamily6
import Derived.Test.YtgahlimikndecaaDoorQEternalFamily8
namespace Go.Proofs.YtgahlimikndecaaDoor.QEternalFamily
open Go.RowKit Go.Proofs.YtgahlimikndecaaDoorW.PrintWords Go.Proofs.YtgahlimikndecaaDoorW.PrintLast Go.Proofs.YtgahlimikndecaaDoorW.PrintMore
attribute [local go_sem] max2_int min2_int max_two min_two max_three min_three max_four min_four   -- for this text's walks alone
set_option linter.unusedVariables false
set_option linter.unusedSimpArgs false
set_option maxRecDepth 100000
set_option maxHeartbeats 8000000
/-! ### impl_guardGame_resist: function 34 -/
def notYet (p : Int → Bool) (l : List Int) (i : Nat) : Prop := ∀ j, j < i → ∀ x, l[j]? = some x → p x = false
theorem notYet_all {p : Int → Bool} {l : List Int} (h : notYet p l l.length) : l.any p = false := by
 rw [List.any_eq_false]
 intro x hx
 obtain ⟨j, hj, rfl⟩ := List.getElem_of_mem hx
 simp [h j hj _ (List.getElem?_eq_getElem hj)]
theorem notYet_hit {p : Int → Bool} {l : List Int} {i : Nat} (hi : i < l.length) (h : p (rd l (i : Int)) = true) : l.any p = true := by
 rw [List.any_eq_true]
 refine ⟨l[i], List.getElem_mem hi, ?_⟩
 have : rd l (i : Int) = l[i] := by simp [rd, hi]
 rwa [← this]
theorem notYet_succ {p : Int → Bool} {l : List Int} {i : Nat} (hi : i < l.length) (h : notYet p l i) (hp : p (rd l (i : Int)) = false) : notYet p l (i + 1) := by
 intro j hj x hx
 by_cases e : j = i
 ·subst e
  have : rd l (j : Int) = x := by simp [rd, hx]
  rwa [← this]
 ·exact h j (by omega) x hx
theorem indexFunc_calls (g : Nat) (lb : Array Value) (eg : ∀ args w, (callFunc g args).run Tryd.prog w = .ok (.enter g args) w) (p : Int → Bool) (A : Option Addr) (c : Nat) (l : List Int) (w : World) (hr : Kd.C (Kd.int .i64) w A l.length l)
  (hp : ∀ x ∈ l, ∀ W, Below w.heap.size w W → Calls Tryd.prog g (#[.int .i64 x] ++ lb) W fun e w' => e = .returned (.bool (p x)) ∧ ∃ q, w' = W.drewN q) :
  Calls Tryd.prog 89 #[.slice A l.length c, .func (.func g) #[] lb] w fun e w' => (∃ j : Int, e = .returned (.int .i64 j) ∧ decide (0 ≤ j) = l.any p) ∧ ∃ q, w' = w.drewN q := by
 have HR := Aside0.mk hr
 have HP := Aside0.mk hp
 have hL := hr.2.1
 clear hr hp
 go_enter Tryd.func89, Tryd.ntmps89
 go_wp2
 go_loopg [5, 8] l.length (fun gg _ s8 wr => ∃ kk q : Nat, kk ≤ l.length ∧ l.length - kk ≤ gg ∧ s8 = .int .i64 (kk : Int) ∧ wr = w.drewN q ∧ Aside0 (notYet p l kk))
 case atStart => exact ⟨0, 0, Nat.zero_le _, by omega, rfl, rfl, ⟨fun j hj => absurd hj (Nat.not_lt_zero _)⟩⟩
 case round =>
  obtain ⟨kk, q, hkk, hg, rfl, rfl, NY⟩ := hrel
  by_cases hlt : kk < l.length
  ·have hltz : (kk : Int) < (l.length : Int) := by omega
   have hk0 : (0 : Int) ≤ (kk : Int) := by omega
   obtain ⟨ad, rfl, hcell⟩ := Kd.at_int HR.out (kk : Int) hk0 hltz
   rw [Int.toNat_natCast] at hcell
   have hmem : rd l (kk : Int) ∈ l := by
    have : rd l (kk : Int) = l[kk] := by simp [rd, hlt]
    rw [this];exact List.getElem_mem hlt
   have hcall := HP.out (rd l (kk : Int)) hmem (w.drewN q) (pw_below_drewN (Below.refl _ _) q)
   generalize hx : rd l (kk : Int) = x at hcell hcall
   have HX := Aside0.mk hx
   clear hx hmem
   cases hq : p x with
   | true =>
    rw [hq] at hcall
    go_wp2_with (go_at_fn g;refine hcall.mono ?_;rintro e w' ⟨rfl, q', rfl⟩)
    go_ret
    exact ⟨⟨_, rfl, by rw [notYet_hit hlt (by rw [HX.out];exact hq)];simp⟩, _, rfl⟩
   | false =>
    rw [hq] at hcall
    go_wp2_with (go_at_fn g;refine hcall.mono ?_;rintro e w' ⟨rfl, q', rfl⟩)
    go_roundg (l.length - (kk + 1))
    case measure => omega
    case rel => exact ⟨kk + 1, _, by omega, by omega, by first | rfl | go_num, rfl, ⟨notYet_succ hlt NY.out (by rw [HX.out];exact hq)⟩⟩
  ·have hltz : ¬ (kk : Int) < (l.length : Int) := by omega
   obtain rfl : kk = l.length := by omega
   go_wp2
   go_ret
   exact ⟨⟨-1, rfl, by rw [notYet_all NY.out];rfl⟩, q, rfl⟩
theorem containsFunc_calls (g : Nat) (lb : Array Value) (eg : ∀ args w, (callFunc g args).run Tryd.prog w = .ok (.enter g args) w) (p : Int → Bool) (A : Option Addr) (c : Nat) (l : List Int) (w : World) (hr : Kd.C (Kd.int .i64) w A l.length l)
  (hp : ∀ x ∈ l, ∀ W, Below w.heap.size w W → Calls Tryd.prog g (#[.int .i64 x] ++ lb) W fun e w' => e = .returned (.bool (p x)) ∧ ∃ q, w' = W.drewN q) :
  Calls Tryd.prog 65 #[.slice A l.length c, .func (.func g) #[] lb] w fun e w' => e = .returned (.bool (l.any p)) ∧ ∃ q, w' = w.drewN q := by
 have hcon := indexFunc_calls g lb eg p A c l w hr hp
 go_enter Tryd.func65, Tryd.ntmps65
 go_wp2_with (go_at_call 89;refine hcon.mono ?_;rintro e w' ⟨⟨j, rfl, hj⟩, q, rfl⟩)
 go_ret
 exact ⟨rfl, q, rfl⟩

def hasNeg (before : List Int) (l : List Int) : Option Bool := if ∀ x ∈ l, 0 ≤ x ∧ x < (before.length : Int) then some (l.any fun x => decide (rd before x < 0)) else none
theorem hasNeg_use {before l : List Int} {b : Bool} (h : hasNeg before l = some b) : (∀ x ∈ l, 0 ≤ x ∧ x < (before.length : Int)) ∧ (l.any fun x => decide (rd before x < 0)) = b := by
 unfold hasNeg at h
 split at h
 ·rename_i hv;exact ⟨hv, Option.some.inj h⟩
 ·cases h
theorem neg_fn (gB : Nat) (A : Option Addr) (c : Nat) (before : List Int) (x : Int) (W : World) (hB : W.cell? ⟨gB, 0, none⟩ = some (.slice A before.length c)) (hC : Kd.C (Kd.int .i64) W A before.length before) (h0 : 0 ≤ x) (h1 : x < (before.length : Int)) :
  Calls Tryd.prog 66 (#[.int .i64 x] ++ #[.pointer (some ⟨gB, 0, none⟩)]) W fun e w' => e = .returned (.bool (decide (rd before x < 0))) ∧ ∃ q, w' = W.drewN q := by
 obtain ⟨ad, rfl, hx⟩ := Kd.at_int hC x h0 h1
 have p0 : (0 ≤ x) = True := eq_true h0
 have p1 : (x < (before.length : Int)) = True := eq_true h1
 clear hC h0 h1
 generalize rd before x = y at hx ⊢
 show Calls Tryd.prog 66 #[.int .i64 x, .pointer (some ⟨gB, 0, none⟩)] W _
 go_enter Tryd.func66, Tryd.ntmps66
 go_wp2
 go_ret
 exact ⟨rfl, 0, rfl⟩

theorem stop_at {W0 W : World} (hb : Below W0.heap.size W0 W) {p : Addr} {v : Value} (h : W0.cell? p = some v) : W.cell? p = some v := (hb.cell (World.block_lt_of_cell? _ _ h)).trans h
mutual
def impl_guardGame_resist.l0 : Nat → List Int → Int → Bool → Int → List (List Int) → List (List Int) → Option (List Int × Int)
 | 0, _, _, _, _, _, _ => none
 | k + 1, x3, x4, x5, x1000, x1001, x1002 => if x5 = true then ((slices_Clone_int_int.f x3).bind fun t501 => (impl_guardGame_resist.l1 k x3 x4 false x1001 (x1001.length : Int) 0 x1000 x1001 x1002 t501)) else (some (x3, x1000))
def impl_guardGame_resist.l1 : Nat → List Int → Int → Bool → List (List Int) → Int → Int → Int → List (List Int) → List (List Int) → List Int → Option (List Int × Int)
 | 0, _, _, _, _, _, _, _, _, _, _ => none
 | k + 1, x3, x4, x5, x25, x26, x27, x1000, x1001, x1002, x505000 => if x27 < x26 then (if 0 ≤ x27 then (if x27 < (x25.length : Int) then (if x27 < (x505000.length : Int) then (if (rd x505000 x27) ≥ 0 then (impl_guardGame_resist.l1 k x3 x4 x5 x25 x26 (wrap64 (x27 + 1)) x1000 x1001 x1002 x505000) else (impl_guardGame_resist.l2 k x3 x4 x5 x27 (rd_L2 x25 x27) x25 x26 x27 x1000 0 x1000 x1001 x1002 x505000)) else (none)) else (none)) else (none)) else (impl_guardGame_resist.l0 k x3 (wrap64 (x4 + 1)) x5 x1000 x1001 x1002)
def impl_guardGame_resist.l2 : Nat → List Int → Int → Bool → Int → List Int → List (List Int) → Int → Int → Int → Int → Int → List (List Int) → List (List Int) → List Int → Option (List Int × Int)
 | 0, _, _, _, _, _, _, _, _, _, _, _, _, _, _ => none
 | k + 1, x3, x4, x5, x7, x8, x25, x26, x27, x40, x41, x1000, x1001, x1002, x505000 => if x41 < x40 then ((slices_Contains_int_int.f k x8 x41).bind fun t507 => (if t507 = true then (impl_guardGame_resist.l2 k x3 x4 x5 x7 x8 x25 x26 x27 x40 (wrap64 (x41 + 1)) x1000 x1001 x1002 x505000) else ((impl_guardGame_answers.f x1000 x1001 x1002 x7 x41).bind fun bt508 => ((hasNeg x505000 bt508.1).bind fun t512 => (if t512 = true then (impl_guardGame_resist.l2 k x3 x4 x5 x7 x8 x25 x26 x27 x40 (wrap64 (x41 + 1)) bt508.2 x1001 x1002 x505000) else (if 0 ≤ x7 then (if x7 < (x3.length : Int) then (impl_guardGame_resist.l1 k (x3.set (x7 : Int).toNat x4) x4 true x25 x26 (wrap64 (x27 + 1)) bt508.2 x1001 x1002 x505000) else (none)) else (none))))))) else (impl_guardGame_resist.l1 k x3 x4 x5 x25 x26 (wrap64 (x27 + 1)) x1000 x1001 x1002 x505000)
end
def impl_guardGame_resist.f (k : Nat) (s0_0 : Int) (s0_1 : List (List Int)) (s0_2 : List (List Int)) : Option (List Int × Int) := (slices_Repeat_int_int.f (([(-1)] : List Int)) (s0_1.length : Int)).bind fun t498 => (impl_guardGame_resist.l0 k t498 0 true s0_0 s0_1 s0_2)
theorem impl_guardGame_resist.mono_l : ∀ k, (∀ y0 y1 y2 y3 y4 y5, LeO (impl_guardGame_resist.l0 k y0 y1 y2 y3 y4 y5) (impl_guardGame_resist.l0 (k + 1) y0 y1 y2 y3 y4 y5)) ∧ (∀ y0 y1 y2 y3 y4 y5 y6 y7 y8 y9, LeO (impl_guardGame_resist.l1 k y0 y1 y2 y3 y4 y5 y6 y7 y8 y9) (impl_guardGame_resist.l1 (k + 1) y0 y1 y2 y3 y4 y5 y6 y7 y8 y9)) ∧ (∀ y0 y1 y2 y3 y4 y5 y6 y7 y8 y9 y10 y11 y12 y13, LeO (impl_guardGame_resist.l2 k y0 y1 y2 y3 y4 y5 y6 y7 y8 y9 y10 y11 y12 y13) (impl_guardGame_resist.l2 (k + 1) y0 y1 y2 y3 y4 y5 y6 y7 y8 y9 y10 y11 y12 y13))
 | 0 => ⟨fun _ _ _ _ _ _ r h => by simp [impl_guardGame_resist.l0] at h, fun _ _ _ _ _ _ _ _ _ _ r h => by simp [impl_guardGame_resist.l1] at h, fun _ _ _ _ _ _ _ _ _ _ _ _ _ _ r h => by simp [impl_guardGame_resist.l2] at h⟩
 | k + 1 => by
  obtain ⟨ih0, ih1, ih2⟩ := impl_guardGame_resist.mono_l k
  refine ⟨?_, ?_, ?_⟩
  ·intro y0 y1 y2 y3 y4 y5
   unfold impl_guardGame_resist.l0
   have q0 := slices_Contains_int_int.mono
   exact lM
  ·intro y0 y1 y2 y3 y4 y5 y6 y7 y8 y9
   unfold impl_guardGame_resist.l1
   have q0 := slices_Contains_int_int.mono
   exact lM
  ·intro y0 y1 y2 y3 y4 y5 y6 y7 y8 y9 y10 y11 y12 y13
   unfold impl_guardGame_resist.l2
   have q0 := slices_Contains_int_int.mono
   exact lM
theorem impl_guardGame_resist.mono : ∀ a0 a1 a2 k, LeO (impl_guardGame_resist.f k a0 a1 a2) (impl_guardGame_resist.f (k + 1) a0 a1 a2) := by
 intro a0 a1 a2 k
 obtain ⟨ih0, ih1, ih2⟩ := impl_guardGame_resist.mono_l k
 unfold impl_guardGame_resist.f
 have q0 := slices_Contains_int_int.mono
 exact lM
theorem impl_guardGame_resist.calls (k : Nat) (g : Nat) (s0_0 : Int) (s0_1 : List (List Int)) (s0_2 : List (List Int)) (r1 : List Int) (r2 : Int) (w0 w : World) (hI : IsS61 w0 w g s0_0 s0_1 s0_2) (hB : Below w0.heap.size w0 w) (h : impl_guardGame_resist.f k s0_0 s0_1 s0_2 = some (r1, r2)) :
  Calls Tryd.prog 34 #[.pointer (some ⟨g, 0, none⟩)] w fun e w' => ∃ v0_ : Value, e = .returned (v0_) ∧ Kd.R (Kd.int .i64) 3 w' w.heap.size (fun _ => True) v0_ r1 ∧ IsS61 w0 w' g r2 s0_1 s0_2 ∧ Below w0.heap.size w0 w' ∧ KeepBut w w' g none := by
 have hu56 := Tryd.underlying56
 have HI0 := Aside0.mk hI
 have HK := aM (KeepBut.refl w g none)
 have HL := Aside0.mk hB.size
 clear hI
 have HW0 := Aside0.mk hB.size
 have HB := Aside0.mk hB
 clear hB
 have H : ((slices_Repeat_int_int.f (([(-1)] : List Int)) (s0_1.length : Int)).bind fun t498 => (impl_guardGame_resist.l0 k t498 0 true s0_0 s0_1 s0_2)) = some (r1, r2) := h
 clear h
 obtain ⟨y495, hy495⟩ : ∃ y_ : List Int, y_ = (([(-1)] : List Int)) := ⟨_, rfl⟩
 replace H : ((slices_Repeat_int_int.f y495 (s0_1.length : Int)).bind fun t498 => (impl_guardGame_resist.l0 k t498 0 true s0_0 s0_1 s0_2)) = some (r1, r2) := by first | (rw [hy495];with_reducible exact H) | (have H2_ := (Option.bind_some _ _).symm.trans H;rw [hy495];with_reducible exact H2_) | (have H2_ := (Option.bind_some _ _).symm.trans H;with_reducible exact H2_) | with_reducible exact H | (rw [hy495];exact H) | exact H
 have Ny495 := Aside0.mk hy495
 clear hy495
 replace H := Option.bind_eq_some_iff.mp H
 obtain ⟨t498, A20, H⟩ := H
 try dsimp only at H
 have A2 := Aside0.mk A20
 clear A20
 have H' := Aside0.mk H
 clear H
 go_enter Tryd.func34, Tryd.ntmps34
 go_wp2_with (first | ((with_reducible refine gate_dst (N := 10) rfl ?_);refine Kd.R_lit (Kd.int .i64) _ 3 ?hg (N := 10) ?hd (xs := ([(-1)] : List Int)) (inner := [.int .i64 (-1)]) (ok := fun _ => True) (okp := fun _ => True) ?hr ?hp (fun _ hk => hk) trivial (Below.refl _ _) (Nat.le_refl _) (by simp) ?_;(case hd => rfl);(case hg => rfl);(case hr => exact gS);(case hp => exact (Reps.one (show Kd.M (Kd.int .i64) _ _ _ (-1) [.int .i64 (-1)] from rfl) (Reps.none _ _)));intro v496 w3 ho4 hb hg_ hnew_;clear hg_ hnew_;(first | rw [← Ny495.out] at ho4 | (simp only [Int.reduceToNat] at ho4;rw [← Ny495.out] at ho4));have n0_ := aM (Kd.R_lower ho4 (keep_size (w := w) (g := g) (row := none) (by exact kK)));have n1_ := aM (IsS61.below (by repeat (first | (with_reducible first | exact HI0.out | apply IsS61.alloc | apply IsS61.drewN | apply IsS61.drew | apply IsS61.set_0) | exact HI0.out)) hb);have n2_ := aM (KeepBut.trans (by exact kK) (KeepBut.of_below hb g none) (.inl rfl));have n3_ := aM (below_step (by exact bB) hb);clear HI0;clear HK;clear HB;have HO497 := n0_;have HI0 := n1_;have HK := n2_;have HB := n3_;clear n0_ n1_ n2_ n3_;clear hb ho4;obtain ⟨ASz5_1, cSz5_1, ASz5_2, cSz5_2, HGz5, hgz5, HSz5_1, HSz5_2⟩ := HI0.out;have hcz5_0 := cellS61_0 HGz5;have hcz5_1 := cellS61_1 HGz5;have hcz5_2 := cellS61_2 HGz5;have hfz5_0 := blk_frozen HGz5 0;clear HGz5 hgz5;obtain ⟨Ao6, co6, eo6⟩ := Kd.R_slice HO497.out;subst eo6) | ((with_reducible refine gate_callee (f := 64) rfl ?_);refine goesL_ (some 16) rfl rfl Tryd.func64 (by kernel_rfl) rfl #[.slice Ao6 y495.length co6, .int .i64 (s0_1.length : Int)] rfl mM ?_;(with_reducible refine (slices_Repeat_int_int.calls _ _ y495 (s0_1.length : Int) t498 _ ?side1 ?side2 A2.out).mono ?_);(case side1 => exact cP (Kd.R_reads' HO497.out).2.2);(case side2 => exact (Kd.R_reads' HO497.out).2.1);rintro e w7 ⟨v499, rfl, ho0, hb⟩;refine ⟨_, rfl, ?_⟩;have n0_ := aM (Kd.R_elder' (by exact rP HO497.out) (Kd.R_base ho0) hb);have n1_ := aM (Kd.R_lower (Kd.R_new' ho0 (Kd.R_lt (by exact rP HO497.out))) (keep_size (w := w) (g := g) (row := none) (by exact kK)));have n2_ := aM (IsS61.below (by repeat (first | (with_reducible first | exact HI0.out | apply IsS61.alloc | apply IsS61.drewN | apply IsS61.drew | apply IsS61.set_0) | exact HI0.out)) hb);have n3_ := aM (KeepBut.trans (by exact kK) (KeepBut.of_below hb g none) (.inl rfl));have n4_ := aM (below_step (by exact bB) hb);clear HO497;clear HI0;clear HK;clear HB;have HO497 := n0_;have HO500 := n1_;have HI0 := n2_;have HK := n3_;have HB := n4_;clear n0_ n1_ n2_ n3_ n4_;(try clear hb);(try clear ho0)))
 go_loopg [4, 5] k (fun kq v4 v5 w' => ∃ (x3_1 : List Int) (x4_1 : Int) (x5_1 : Bool) (x1000_1 : Int), v4 = .int .i64 x4_1 ∧ v5 = .bool x5_1 ∧ Aside0 (impl_guardGame_resist.l0 kq x3_1 x4_1 x5_1 x1000_1 s0_1 s0_2 = some (r1, r2)) ∧ Aside0 (kq ≤ k) ∧ Aside0 (Kd.R (Kd.int .i64) 3 w' w.heap.size (fun _ => True) v499 x3_1) ∧ Aside0 (IsS61 w0 w' g x1000_1 s0_1 s0_2) ∧ Aside0 (KeepBut w w' g none) ∧ Aside0 (Below w0.heap.size w0 w'))
 case atStart => exact ⟨(t498), (0), (true), (s0_0), eF, eF, H', ⟨Nat.le_refl _⟩, ⟨by refine rP ?_;exact Kd.R_mono HO500.out (fun _ hk => trivial)⟩, ⟨by exact sS⟩, ⟨by exact kK⟩, ⟨by exact bB⟩⟩
 case round =>
  clear H'
  try clear p2
  try clear c3
  try clear c6
  try clear hcz5_0
  try clear hcz5_1
  try clear hcz5_2
  try clear hfz5_0
  obtain ⟨x3_1, x4_1, x5_1, x1000_1, rfl, rfl, HA, HK1, HO_3, HI0, HK, HB⟩ := hrel
  cases gk with
  | zero => exact absurd HA.out (by simp [impl_guardGame_resist.l0])
  | succ k1 =>
   have H := HA.out
   clear HA
   simp only [impl_guardGame_resist.l0] at H
   by_cases c8 : x5_1 = true
   rotate_left
   ·replace c8 := Bool.eq_false_iff.mpr c8
    subst c8
    rw [if_neg (show ¬ (false = true) by decide)] at H
    simp only [Option.some.injEq, Prod.mk.injEq] at H
    obtain ⟨rfl, rfl⟩ := H
    go_wp2
    go_ret
    exact ⟨_, eW, by exact rP HO_3.out, by exact sS, by exact bB, by exact kK⟩
   subst c8
   rw [if_pos rfl] at H
   replace H := Option.bind_eq_some_iff.mp H
   obtain ⟨t501, A90, H⟩ := H
   try dsimp only at H
   have A9 := Aside0.mk A90
   clear A90
   have H' := Aside0.mk H
   clear H
   obtain ⟨Ao10, co10, eo10⟩ := Kd.R_slice HO_3.out
   subst eo10
   go_wp2_with (first | ((with_reducible refine gate_callee (f := 55) rfl ?_);refine goesL_ (some 21) rfl rfl Tryd.func55 (by kernel_rfl) rfl #[.slice Ao10 x3_1.length co10] rfl mM ?_;(with_reducible refine (slices_Clone_int_int.calls _ _ x3_1 t501 _ ?side1 ?side2 A9.out).mono ?_);(case side1 => exact cP (Kd.R_reads' HO_3.out).2.2);(case side2 => exact (Kd.R_reads' HO_3.out).2.1);rintro e w11 ⟨v502, rfl, ho0, hb⟩;refine ⟨_, rfl, ?_⟩;have n0_ := aM (Kd.R_elder' (by exact rP HO_3.out) (Kd.R_base ho0) hb);have n1_ := aM (Kd.R_lower (Kd.R_new' ho0 (Kd.R_lt (by exact rP HO_3.out))) (keep_size (w := w) (g := g) (row := none) (by exact kK)));have n2_ := aM (IsS61.below (by repeat (first | (with_reducible first | exact HI0.out | apply IsS61.alloc | apply IsS61.drewN | apply IsS61.drew | apply IsS61.set_0) | exact HI0.out)) hb);have n3_ := aM (KeepBut.trans (by exact kK) (KeepBut.of_below hb g none) (.inl rfl));have n4_ := aM (below_step (by exact bB) hb);clear HO_3;clear HI0;clear HK;clear HB;have HO_3 := n0_;have HO503 := n1_;have HI0 := n2_;have HK := n3_;have HB := n4_;clear n0_ n1_ n2_ n3_ n4_;(try clear hb);(try clear ho0)) | ((with_reducible refine gate_dst (N := 6) rfl ?_);refine box_event ?hg (N := 6) ?hd (cs := #[.slice none 0 0]) (t := 36) ?hr ?_;(case hd => rfl);(case hg => rfl);(case hr => exact gS);intro gb504 hg w12 hbox hb;have n0_ := aM (Kd.R_below (by exact rP HO_3.out) hb);have n1_ := aM (Kd.R_below (by exact rP HO503.out) hb);have n2_ := aM (IsS61.below (by repeat (first | (with_reducible first | exact HI0.out | apply IsS61.alloc | apply IsS61.drewN | apply IsS61.drew | apply IsS61.set_0) | exact HI0.out)) hb);have n3_ := aM (KeepBut.trans (by exact kK) (KeepBut.of_below hb g none) (.inl rfl));have n4_ := aM (below_step (by exact bB) hb);have n5_ := aM (hbox);have n6_ := aM ((by rw [hg];exact (keep_size (w := w) (g := g) (row := none) (by exact kK)) : w.heap.size ≤ gb504));have n7_ := aM ((Nat.le_trans HW0.out (by rw [hg];exact (keep_size (w := w) (g := g) (row := none) (by exact kK)) : w.heap.size ≤ gb504) : w0.heap.size ≤ gb504));have n8_ := aM ((by rw [hg];exact Nat.ne_of_lt (IsS61.lt (show IsS61 w0 _ g x1000_1 s0_1 s0_2 from by exact sS)) : g ≠ gb504));have n9_ := aM ((by rw [hg];exact Nat.ne_of_gt (IsS61.lt (show IsS61 w0 _ g x1000_1 s0_1 s0_2 from by exact sS)) : gb504 ≠ g));clear HO_3;clear HO503;clear HI0;clear HK;clear HB;have HO_3 := n0_;have HO503 := n1_;have HI0 := n2_;have HK := n3_;have HB := n4_;have BK504 := n5_;have GW504 := n6_;have GE504 := n7_;have NB0_504 := n8_;have NB504_0 := n9_;clear n0_ n1_ n2_ n3_ n4_ n5_ n6_ n7_ n8_ n9_;clear hb hbox hg;obtain ⟨Ao13, co13, eo13⟩ := Kd.R_slice HO503.out;subst eo13;have hnb14 := NB504_0.out;have hnc14 := NB0_504.out;have hcz15_0 := bC0 BK504.out;have hfz15_0 := blk_frozen BK504.out 0;obtain ⟨ASz16_1, cSz16_1, ASz16_2, cSz16_2, HGz16, hgz16, HSz16_1, HSz16_2⟩ := HI0.out;have hcz16_0 := cellS61_0 HGz16;have hcz16_1 := cellS61_1 HGz16;have hcz16_2 := cellS61_2 HGz16;have hfz16_0 := blk_frozen HGz16 0;clear HGz16 hgz16))
   go_loopg [5, 27] k1 (fun kq v5 v27 w' => ∃ (x3_2 : List Int) (x5_2 : Bool) (x27_2 : Int) (x1000_2 : Int), v5 = .bool x5_2 ∧ v27 = .int .i64 x27_2 ∧ Aside0 (impl_guardGame_resist.l1 kq x3_2 x4_1 x5_2 s0_1 (s0_1.length : Int) x27_2 x1000_2 s0_1 s0_2 t501 = some (r1, r2)) ∧ Aside0 (kq ≤ k1) ∧ Aside0 (Kd.R (Kd.int .i64) 3 w' w.heap.size (fun k_ => some k_ ≠ ((.slice Ao13 t501.length co13) : Value).ownBlock) (.slice Ao10 x3_1.length co10) x3_2) ∧ Aside0 (Kd.R (Kd.int .i64) 3 w' w.heap.size (fun k_ => some k_ ≠ ((.slice Ao10 x3_1.length co10) : Value).ownBlock) (.slice Ao13 t501.length co13) t501) ∧ Aside0 (w'.heap[gb504]? = some (.cells #[(.slice Ao13 t501.length co13)] 36 (0, 0))) ∧ Aside0 (IsS61 w0 w' g x1000_2 s0_1 s0_2) ∧ Aside0 (KeepBut w w' g none) ∧ Aside0 (Below w0.heap.size w0 w'))
   case atStart => exact ⟨(x3_1), (false), (0), (x1000_1), eF, eF, H', ⟨Nat.le_refl _⟩, ⟨by refine rP ?_;exact Kd.R_mono (Kd.R_far (p := ⟨gb504, 0, none⟩) (Kd.R_types HO_3.out BK504.out (by decide)) (fun _ hk => hk.2) (.slice Ao13 t501.length co13)) (fun _ hk => hk.1.2)⟩, ⟨by refine rP ?_;exact Kd.R_mono (Kd.R_far (p := ⟨gb504, 0, none⟩) (Kd.R_types HO503.out BK504.out (by decide)) (fun _ hk => hk.2) (.slice Ao13 t501.length co13)) (fun _ hk => hk.1.2)⟩, ⟨by refine kP ?_;refine blk_put (cs := #[.slice none 0 0]) ?_ 0 _ rfl;exact kP BK504.out⟩, ⟨by exact sS⟩, ⟨by exact kK⟩, ⟨by exact bB⟩⟩
   case round =>
    clear H'
    try clear c1
    try clear p2
    try clear c3
    try clear c5
    try clear c6
    try clear c8
    try clear c14
    try clear hcz15_0
    try clear hcz16_0
    try clear hcz16_1
    try clear hcz16_2
    try clear hcz5_0
    try clear hcz5_1
    try clear hcz5_2
    try clear hfz15_0
    try clear hfz16_0
    try clear hfz5_0
    try clear p2
    obtain ⟨x3_2, x5_2, x27_2, x1000_2, rfl, rfl, HA, HK2, HO_3, HO_505000, BK504, HI0, HK, HB⟩ := hrel
    have hl3_2 := (Kd.R_reads' HO_3.out).1
    rw [hl3_2] at HO_3
    (try simp only [hl3_2])
    (try simp only [hl3_2] at BK504)
    (try simp only [hl3_2] at HO_505000)
    cases gk with
    | zero => exact absurd HA.out (by simp [impl_guardGame_resist.l1])
    | succ k2 =>
     have H := HA.out
     clear HA
     simp only [impl_guardGame_resist.l1] at H
     by_cases c17 : x27_2 < (s0_1.length : Int)
     rotate_left
     ·rw [if_neg c17] at H
      have c17b0 : decide (x27_2 < (s0_1.length : Int)) = false := decide_eq_false c17
      (try simp only [hl3_2] at c17b0)
      clear c17
      have H' := Aside0.mk H
      clear H
      go_wp2
      (try simp only [← hl3_2])
      go_roundg k2
      case measure => have := HK1.out;have := HK2.out;omega
      case rel => exact ⟨(x3_2), (wrap64 (x4_1 + 1)), (x5_2), (x1000_2), eF, eF, H', ⟨by have := HK1.out;have := HK2.out;omega⟩, ⟨by (try simp only [hl3_2]);refine rP ?_;exact Kd.R_mono HO_3.out (fun _ hk => trivial)⟩, ⟨by exact sS⟩, ⟨by exact kK⟩, ⟨by exact bB⟩⟩
     rw [if_pos c17] at H
     have c17b0 : decide (x27_2 < (s0_1.length : Int)) = true := decide_eq_true c17
     clear c17
     by_cases c18 : 0 ≤ x27_2
     rotate_left
     ·rw [if_neg c18] at H
      exact absurd H (by simp)
     rw [if_pos c18] at H
     have c18b0 : decide (0 ≤ x27_2) = true := decide_eq_true c18
     clear c18
     by_cases c19 : x27_2 < (s0_1.length : Int)
     rotate_left
     ·rw [if_neg c19] at H
      exact absurd H (by simp)
     rw [if_pos c19] at H
     have c19b0 : decide (x27_2 < (s0_1.length : Int)) = true := decide_eq_true c19
     clear c19
     by_cases c20 : x27_2 < (t501.length : Int)
     rotate_left
     ·rw [if_neg c20] at H
      exact absurd H (by simp)
     rw [if_pos c20] at H
     have c20b0 : decide (x27_2 < (t501.length : Int)) = true := decide_eq_true c20
     clear c20
     by_cases c21 : (rd t501 x27_2) ≥ 0
     ·rw [if_pos c21] at H
      have c21b0 : decide (0 ≤ (rd t501 x27_2)) = true := decide_eq_true c21
      clear c21
      have H' := Aside0.mk H
      clear H
      obtain ⟨ASz22_1, cSz22_1, ASz22_2, cSz22_2, HGz22, hgz22, HSz22_1, HSz22_2⟩ := HI0.out
      have hcz22_0 := cellS61_0 HGz22
      have hcz22_1 := cellS61_1 HGz22
      have hcz22_2 := cellS61_2 HGz22
      have hfz22_0 := blk_frozen HGz22 0
      clear HGz22 hgz22
      have p505 : 0 ≤ (x27_2 : Int) := oA
      have q505 : x27_2 < (s0_1.length : Int) := oA
      obtain ⟨ad505, A505_0, c505_0, e505, hx505_0, hl505_0, hi505_0⟩ := at_L2 HSz16_1 x27_2 p505 q505
      cases e505
      replace hx505_0 := pw_cell_below HB.out hx505_0
      have HR505_0 := Aside0.mk hi505_0
      have HC505_0 := Aside0.mk hl505_0
      clear hi505_0 hl505_0
      replace p505 := eq_true p505
      replace q505 := eq_true q505
      have hnb23 := NB504_0.out
      have hnc23 := NB0_504.out
      have hcz24_0 := bC0 BK504.out
      have hfz24_0 := blk_frozen BK504.out 0
      have p506 : 0 ≤ (x27_2 : Int) := oA
      have q506 : x27_2 < (t501.length : Int) := oA
      obtain ⟨ad506, e506, hx506_0⟩ := Kd.at_int (Kd.R_reads' HO_505000.out).2.2 x27_2 p506 q506
      cases e506
      replace p506 := eq_true p506
      replace q506 := eq_true q506
      go_wp2
      (try simp only [← hl3_2])
      go_roundg k2
      case measure => have := HK1.out;have := HK2.out;omega
      case rel => exact ⟨(x3_2), (x5_2), (wrap64 (x27_2 + 1)), (x1000_2), eF, eF, H', ⟨by have := HK1.out;have := HK2.out;omega⟩, ⟨by (try simp only [hl3_2]);exact rP HO_3.out⟩, ⟨by (try simp only [hl3_2]);exact rP HO_505000.out⟩, ⟨by (try simp only [hl3_2]);exact kP BK504.out⟩, ⟨by exact sS⟩, ⟨by exact kK⟩, ⟨by exact bB⟩⟩
     rw [if_neg c21] at H
     have c21b0 : decide (0 ≤ (rd t501 x27_2)) = false := decide_eq_false c21
     clear c21
     have H' := Aside0.mk H
     clear H
     obtain ⟨ASz25_1, cSz25_1, ASz25_2, cSz25_2, HGz25, hgz25, HSz25_1, HSz25_2⟩ := HI0.out
     have hcz25_0 := cellS61_0 HGz25
     have hcz25_1 := cellS61_1 HGz25
     have hcz25_2 := cellS61_2 HGz25
     have hfz25_0 := blk_frozen HGz25 0
     clear HGz25 hgz25
     have p505 : 0 ≤ (x27_2 : Int) := oA
     have q505 : x27_2 < (s0_1.length : Int) := oA
     obtain ⟨ad505, A505_0, c505_0, e505, hx505_0, hl505_0, hi505_0⟩ := at_L2 HSz16_1 x27_2 p505 q505
     cases e505
     replace hx505_0 := pw_cell_below HB.out hx505_0
     have HR505_0 := Aside0.mk hi505_0
     have HC505_0 := Aside0.mk hl505_0
     clear hi505_0 hl505_0
     replace p505 := eq_true p505
     replace q505 := eq_true q505
     have hnb26 := NB504_0.out
     have hnc26 := NB0_504.out
     have hcz27_0 := bC0 BK504.out
     have hfz27_0 := blk_frozen BK504.out 0
     have p506 : 0 ≤ (x27_2 : Int) := oA
     have q506 : x27_2 < (t501.length : Int) := oA
     obtain ⟨ad506, e506, hx506_0⟩ := Kd.at_int (Kd.R_reads' HO_505000.out).2.2 x27_2 p506 q506
     cases e506
     replace p506 := eq_true p506
     replace q506 := eq_true q506
     go_wp2
     go_loopg [5, 41] k2 (fun kq v5 v41 w' => ∃ (x3_3 : List Int) (x5_3 : Bool) (x41_3 : Int) (x1000_3 : Int), v5 = .bool x5_3 ∧ v41 = .int .i64 x41_3 ∧ Aside0 (impl_guardGame_resist.l2 kq x3_3 x4_1 x5_3 x27_2 (rd_L2 s0_1 x27_2) s0_1 (s0_1.length : Int) x27_2 x1000_2 x41_3 x1000_3 s0_1 s0_2 t501 = some (r1, r2)) ∧ Aside0 (kq ≤ k2) ∧ Aside0 (Kd.R (Kd.int .i64) 3 w' w.heap.size (fun k_ => some k_ ≠ ((.slice (some ad506) t501.length co13) : Value).ownBlock) (.slice Ao10 x3_2.length co10) x3_3) ∧ Aside0 (Kd.R (Kd.int .i64) 3 w' w.heap.size (fun k_ => some k_ ≠ ((.slice Ao10 x3_2.length co10) : Value).ownBlock) (.slice (some ad506) t501.length co13) t501) ∧ Aside0 (w'.heap[gb504]? = some (.cells #[(.slice (some ad506) t501.length co13)] 36 (0, 0))) ∧ Aside0 (IsS61 w0 w' g x1000_3 s0_1 s0_2) ∧ Aside0 (KeepBut w w' g none) ∧ Aside0 (Below w0.heap.size w0 w'))
     case atStart => exact ⟨(x3_2), (x5_2), (0), (x1000_2), eF, eF, H', ⟨Nat.le_refl _⟩, ⟨by (try simp only [hl3_2]);exact rP HO_3.out⟩, ⟨by (try simp only [hl3_2]);exact rP HO_505000.out⟩, ⟨by (try simp only [hl3_2]);exact kP BK504.out⟩, ⟨by exact sS⟩, ⟨by exact kK⟩, ⟨by exact bB⟩⟩
     case round =>
      clear H'
      try clear c1
      try clear c2
      try clear p2
      try clear c3
      try clear c5
      try clear p5
      try clear q5
      try clear hx5
      try clear c6
      try clear p6
      try clear c8
      try clear c14
      try clear c17
      try clear c17b0
      try clear c18
      try clear c18b0
      try clear c19
      try clear c19b0
      try clear c20
      try clear c20b0
      try clear c21
      try clear c21b0
      try clear c23
      try clear c26
      try clear hcz15_0
      try clear hcz16_0
      try clear hcz16_1
      try clear hcz16_2
      try clear hcz22_0
      try clear hcz22_1
      try clear hcz22_2
      try clear hcz24_0
      try clear hcz25_0
      try clear hcz25_1
      try clear hcz25_2
      try clear hcz27_0
      try clear hcz5_0
      try clear hcz5_1
      try clear hcz5_2
      try clear hfz15_0
      try clear hfz16_0
      try clear hfz22_0
      try clear hfz24_0
      try clear hfz25_0
      try clear hfz27_0
      try clear hfz5_0
      try clear hx505_0
      try clear hx506_0
      try clear p2
      try clear p505
      try clear p506
      try clear q505
      try clear q506
      obtain ⟨x3_3, x5_3, x41_3, x1000_3, rfl, rfl, HA, HK3, HO_3, HO_505000, BK504, HI0, HK, HB⟩ := hrel
      have hl3_3 := (Kd.R_reads' HO_3.out).1
      rw [hl3_3] at HO_3
      (try simp only [hl3_3])
      (try simp only [hl3_3] at BK504)
      (try simp only [hl3_3] at HO_505000)
      cases gk with
      | zero => exact absurd HA.out (by simp [impl_guardGame_resist.l2])
      | succ k3 =>
       have H := HA.out
       clear HA
       simp only [impl_guardGame_resist.l2] at H
       by_cases c28 : x41_3 < x1000_2
       rotate_left
       ·rw [if_neg c28] at H
        have c28b0 : decide (x41_3 < x1000_2) = false := decide_eq_false c28
        clear c28
        have H' := Aside0.mk H
        clear H
        go_wp2
        (try simp only [← hl3_2, ← hl3_3])
        go_roundg k3
        case measure => have := HK1.out;have := HK2.out;have := HK3.out;omega
        case rel => exact ⟨(x3_3), (x5_3), (wrap64 (x27_2 + 1)), (x1000_3), eF, eF, H', ⟨by have := HK1.out;have := HK2.out;have := HK3.out;omega⟩, ⟨by (try simp only [hl3_2]);(try simp only [hl3_3]);exact rP HO_3.out⟩, ⟨by (try simp only [hl3_2]);(try simp only [hl3_3]);exact rP HO_505000.out⟩, ⟨by (try simp only [hl3_2]);(try simp only [hl3_3]);exact kP BK504.out⟩, ⟨by exact sS⟩, ⟨by exact kK⟩, ⟨by exact bB⟩⟩
       rw [if_pos c28] at H
       have c28b0 : decide (x41_3 < x1000_2) = true := decide_eq_true c28
       clear c28
       replace H := Option.bind_eq_some_iff.mp H
       obtain ⟨t507, A290, H⟩ := H
       try dsimp only at H
       have A29 := Aside0.mk A290
       clear A290
       by_cases c30 : t507 = true
       ·subst c30
        rw [if_pos rfl] at H
        have H' := Aside0.mk H
        clear H
        go_wp2_with (first | ((with_reducible refine gate_callee (f := 47) rfl ?_);refine goesL_ (some 46) rfl rfl Tryd.func47 (by kernel_rfl) rfl #[.slice A505_0 (rd_L2 s0_1 x27_2).length c505_0, .int .i64 x41_3] rfl mM ?_;(with_reducible refine (slices_Contains_int_int.calls k3 _ _ (rd_L2 s0_1 x27_2) x41_3 true _ ?side1 ?side2 A29.out).mono ?_);(case side1 => exact cP (Kd.C_below HR505_0.out HB.out));(case side2 => exact HC505_0.out);rintro e w' ⟨rfl, ⟨nd, rfl⟩⟩;refine ⟨_, rfl, ?_⟩))
        (try simp only [← hl3_3])
        go_roundg k3
        case measure => have := HK1.out;have := HK2.out;have := HK3.out;omega
        case rel => exact ⟨(x3_3), (x5_3), (wrap64 (x41_3 + 1)), (x1000_3), eF, eF, H', ⟨by have := HK1.out;have := HK2.out;have := HK3.out;omega⟩, ⟨by (try simp only [hl3_2]);(try simp only [hl3_3]);exact rP HO_3.out⟩, ⟨by (try simp only [hl3_2]);(try simp only [hl3_3]);exact rP HO_505000.out⟩, ⟨by (try simp only [hl3_2]);(try simp only [hl3_3]);exact kP BK504.out⟩, ⟨by exact sS⟩, ⟨by exact kK⟩, ⟨by exact bB⟩⟩
       replace c30 := Bool.eq_false_iff.mpr c30
       subst c30
       rw [if_neg (show ¬ (false = true) by decide)] at H
       replace H := Option.bind_eq_some_iff.mp H
       obtain ⟨⟨t508, t511⟩, A310, H⟩ := H
       try dsimp only at H
       have A31 := Aside0.mk A310
       clear A310
       replace H := Option.bind_eq_some_iff.mp H
       obtain ⟨t512, A320, H⟩ := H
       try dsimp only at H
       have A32 := Aside0.mk A320
       clear A320
       by_cases c33 : t512 = true
       ·subst c33
        rw [if_pos rfl] at H
        have H' := Aside0.mk H
        clear H
        go_wp2_with (first | ((with_reducible refine gate_callee (f := 47) rfl ?_);refine goesL_ (some 46) rfl rfl Tryd.func47 (by kernel_rfl) rfl #[.slice A505_0 (rd_L2 s0_1 x27_2).length c505_0, .int .i64 x41_3] rfl mM ?_;(with_reducible refine (slices_Contains_int_int.calls k3 _ _ (rd_L2 s0_1 x27_2) x41_3 false _ ?side1 ?side2 A29.out).mono ?_);(case side1 => exact cP (Kd.C_below HR505_0.out HB.out));(case side2 => exact HC505_0.out);rintro e w' ⟨rfl, ⟨nd, rfl⟩⟩;refine ⟨_, rfl, ?_⟩) | (go_at_call 48;(with_reducible refine (impl_guardGame_answers.calls g x1000_3 s0_1 s0_2 x27_2 x41_3 t508 t511 w0 _ ?side1 ?side2 A31.out).mono ?_);(case side1 => exact sS);(case side2 => exact bB);rintro e w34 ⟨v509, rfl, ho0, hi, hb, hk⟩;have n0_ := aM (Kd.R_mono (Kd.R_told (Kd.R_oldK (IsS61.apart (show IsS61 w0 _ g x1000_3 s0_1 s0_2 from by exact sS) (by exact rP HO_3.out) (by decide)) hk) (Kd.R_base ho0)) (fun _ h_ => h_.1));have n1_ := aM (Kd.R_mono (Kd.R_told (Kd.R_oldK (IsS61.apart (show IsS61 w0 _ g x1000_3 s0_1 s0_2 from by exact sS) (by exact rP HO_505000.out) (by decide)) hk) (Kd.R_base ho0)) (fun _ h_ => h_.1));have n2_ := aM (KeepBut.blk hk (g' := gb504) (o := .cells #[.slice (some ad506) t501.length co13] 36 (0, 0)) (by exact kP BK504.out) NB504_0.out (by simp));have n3_ := aM (Kd.R_lower (Kd.R_new' (Kd.R_new' ho0 (Kd.R_lt (by exact rP HO_3.out))) (Kd.R_lt (by exact rP HO_505000.out))) (keep_size (w := w) (g := g) (row := none) (by exact kK)));have n4_ := aM (KeepBut.trans (by exact kK) hk (.inl rfl));have n5_ := aM (hb);have n6_ := aM (hi);clear HO_3;clear HO_505000;clear BK504;clear HK;clear HB;clear HI0;have HO_3 := n0_;have HO_505000 := n1_;have BK504 := n2_;have HO510 := n3_;have HK := n4_;have HB := n5_;have HI0 := n6_;clear n0_ n1_ n2_ n3_ n4_ n5_ n6_;(try clear hb);(try clear hk);(try clear hi);(try clear ho0);obtain ⟨Ao35, co35, eo35⟩ := Kd.R_slice HO510.out;subst eo35) | (go_at_call 65;obtain ⟨hv_, hw_⟩ := hasNeg_use A32.out;refine (containsFunc_calls 66 _ (enters_of Tryd.func66 (by kernel_rfl) rfl) (fun x => decide (rd t501 x < 0)) _ _ t508 _ ?side1 ?side2).mono ?_;(case side1 => exact cP (Kd.R_reads' HO510.out).2.2);(case side2 => intro x hx W_ hb_;exact neg_fn gb504 (some ad506) co13 t501 x W_ (stop_at hb_ ((blk_cell BK504.out 0).trans rfl)) (Kd.C_below (Kd.R_reads' HO_505000.out).2.2 hb_) (hv_ x hx).1 (hv_ x hx).2);rintro e w' ⟨he_, ⟨nd, rfl⟩⟩;rw [hw_] at he_;subst he_))
        (try simp only [← hl3_3])
        go_roundg k3
        case measure => have := HK1.out;have := HK2.out;have := HK3.out;omega
        case rel => exact ⟨(x3_3), (x5_3), (wrap64 (x41_3 + 1)), (t511), eF, eF, H', ⟨by have := HK1.out;have := HK2.out;have := HK3.out;omega⟩, ⟨by (try simp only [hl3_2]);(try simp only [hl3_3]);refine rP ?_;exact Kd.R_mono HO_3.out (fun _ hk => hk.1)⟩, ⟨by (try simp only [hl3_2]);(try simp only [hl3_3]);refine rP ?_;exact Kd.R_mono HO_505000.out (fun _ hk => hk.1)⟩, ⟨by (try simp only [hl3_2]);(try simp only [hl3_3]);exact kP BK504.out⟩, ⟨by exact sS⟩, ⟨by exact kK⟩, ⟨by exact bB⟩⟩
       replace c33 := Bool.eq_false_iff.mpr c33
       subst c33
       rw [if_neg (show ¬ (false = true) by decide)] at H
       by_cases c36 : 0 ≤ x27_2
       rotate_left
       ·rw [if_neg c36] at H
        exact absurd H (by simp)
       rw [if_pos c36] at H
       have c36b0 : decide (0 ≤ x27_2) = true := decide_eq_true c36
       clear c36
       by_cases c37 : x27_2 < (x3_3.length : Int)
       rotate_left
       ·rw [if_neg c37] at H
        exact absurd H (by simp)
       rw [if_pos c37] at H
       have c37b0 : decide (x27_2 < (x3_3.length : Int)) = true := decide_eq_true c37
       clear c37
       obtain ⟨y513, hy513⟩ : ∃ y_ : List Int, y_ = (x3_3.set (x27_2 : Int).toNat x4_1) := ⟨_, rfl⟩
       replace H : (impl_guardGame_resist.l1 k3 y513 x4_1 true s0_1 (s0_1.length : Int) (wrap64 (x27_2 + 1)) t511 s0_1 s0_2 t501) = some (r1, r2) := by first | (rw [hy513];with_reducible exact H) | (have H2_ := (Option.bind_some _ _).symm.trans H;rw [hy513];with_reducible exact H2_) | (have H2_ := (Option.bind_some _ _).symm.trans H;with_reducible exact H2_) | with_reducible exact H | (rw [hy513];exact H) | exact H
       have Ny513 := Aside0.mk hy513
       clear hy513
       have H' := Aside0.mk H
       clear H
       go_wp2_with (first | ((with_reducible refine gate_callee (f := 47) rfl ?_);refine goesL_ (some 46) rfl rfl Tryd.func47 (by kernel_rfl) rfl #[.slice A505_0 (rd_L2 s0_1 x27_2).length c505_0, .int .i64 x41_3] rfl mM ?_;(with_reducible refine (slices_Contains_int_int.calls k3 _ _ (rd_L2 s0_1 x27_2) x41_3 false _ ?side1 ?side2 A29.out).mono ?_);(case side1 => exact cP (Kd.C_below HR505_0.out HB.out));(case side2 => exact HC505_0.out);rintro e w' ⟨rfl, ⟨nd, rfl⟩⟩;refine ⟨_, rfl, ?_⟩;(try (rw [drewN_self wr];generalize hq_ : World.drewN wr _ = wr;have n0_ : Aside0 (Kd.R (Kd.int .i64) 3 wr w.heap.size (fun k_ => some k_ ≠ (.slice (some ad506) t501.length co13 : Value).ownBlock) (.slice Ao10 x3_3.length co10) x3_3) := ⟨by rw [← hq_];exact (by exact rP HO_3.out)⟩;have n1_ : Aside0 (Kd.R (Kd.int .i64) 3 wr w.heap.size (fun k_ => some k_ ≠ (.slice Ao10 x3_3.length co10 : Value).ownBlock) (.slice (some ad506) t501.length co13) t501) := ⟨by rw [← hq_];exact (by exact rP HO_505000.out)⟩;have n2_ : Aside0 (wr.heap[gb504]? = some (.cells #[.slice (some ad506) t501.length co13] 36 (0, 0))) := ⟨by rw [← hq_];exact (by exact kP BK504.out)⟩;have n3_ : Aside0 (IsS61 w0 wr g x1000_3 s0_1 s0_2) := ⟨by rw [← hq_];exact (by exact sS)⟩;have n4_ : Aside0 (KeepBut w wr g none) := ⟨by rw [← hq_];exact (by exact kK)⟩;have n5_ : Aside0 (Below w0.heap.size w0 wr) := ⟨by rw [← hq_];exact (by exact bB)⟩;clear HO_3 HO_505000 BK504 HI0 HK HB hq_;have HO_3 := n0_;have HO_505000 := n1_;have BK504 := n2_;have HI0 := n3_;have HK := n4_;have HB := n5_;clear n0_ n1_ n2_ n3_ n4_ n5_))) | (go_at_call 48;(with_reducible refine (impl_guardGame_answers.calls g x1000_3 s0_1 s0_2 x27_2 x41_3 t508 t511 w0 _ ?side1 ?side2 A31.out).mono ?_);(case side1 => exact sS);(case side2 => exact bB);rintro e w39 ⟨v509, rfl, ho0, hi, hb, hk⟩;have n0_ := aM (Kd.R_mono (Kd.R_told (Kd.R_oldK (IsS61.apart (show IsS61 w0 _ g x1000_3 s0_1 s0_2 from by exact sS) (by exact rP HO_3.out) (by decide)) hk) (Kd.R_base ho0)) (fun _ h_ => h_.1));have n1_ := aM (Kd.R_mono (Kd.R_told (Kd.R_oldK (IsS61.apart (show IsS61 w0 _ g x1000_3 s0_1 s0_2 from by exact sS) (by exact rP HO_505000.out) (by decide)) hk) (Kd.R_base ho0)) (fun _ h_ => h_.1));have n2_ := aM (KeepBut.blk hk (g' := gb504) (o := .cells #[.slice (some ad506) t501.length co13] 36 (0, 0)) (by exact kP BK504.out) NB504_0.out (by simp));have n3_ := aM (Kd.R_lower (Kd.R_new' (Kd.R_new' ho0 (Kd.R_lt (by exact rP HO_3.out))) (Kd.R_lt (by exact rP HO_505000.out))) (keep_size (w := w) (g := g) (row := none) (by exact kK)));have n4_ := aM (KeepBut.trans (by exact kK) hk (.inl rfl));have n5_ := aM (hb);have n6_ := aM (hi);clear HO_3;clear HO_505000;clear BK504;clear HK;clear HB;clear HI0;have HO_3 := n0_;have HO_505000 := n1_;have BK504 := n2_;have HO510 := n3_;have HK := n4_;have HB := n5_;have HI0 := n6_;clear n0_ n1_ n2_ n3_ n4_ n5_ n6_;(try clear hb);(try clear hk);(try clear hi);(try clear ho0);obtain ⟨Ao40, co40, eo40⟩ := Kd.R_slice HO510.out;subst eo40) | (go_at_call 65;obtain ⟨hv_, hw_⟩ := hasNeg_use A32.out;refine (containsFunc_calls 66 _ (enters_of Tryd.func66 (by kernel_rfl) rfl) (fun x => decide (rd t501 x < 0)) _ _ t508 _ ?side1 ?side2).mono ?_;(case side1 => exact cP (Kd.R_reads' HO510.out).2.2);(case side2 => intro x hx W_ hb_;exact neg_fn gb504 (some ad506) co13 t501 x W_ (stop_at hb_ ((blk_cell BK504.out 0).trans rfl)) (Kd.C_below (Kd.R_reads' HO_505000.out).2.2 hb_) (hv_ x hx).1 (hv_ x hx).2);rintro e w' ⟨he_, ⟨nd, rfl⟩⟩;rw [hw_] at he_;subst he_;(try (rw [drewN_self w39];generalize hq_ : World.drewN w39 _ = w39;have n0_ : Aside0 (Kd.R (Kd.int .i64) 3 w39 w.heap.size (fun k_ => some k_ ≠ (.slice Ao10 x3_3.length co10 : Value).ownBlock ∧ some k_ ≠ (.slice (some ad506) t501.length co13 : Value).ownBlock) (.slice Ao40 t508.length co40) t508) := ⟨by rw [← hq_];exact (by refine rP ?_;exact Kd.R_mono HO510.out (fun _ hk => ⟨hk.1.2, hk.2⟩))⟩;have n1_ : Aside0 (Kd.R (Kd.int .i64) 3 w39 w.heap.size (fun k_ => some k_ ≠ (.slice Ao40 t508.length co40 : Value).ownBlock ∧ some k_ ≠ (.slice (some ad506) t501.length co13 : Value).ownBlock) (.slice Ao10 x3_3.length co10) x3_3) := ⟨by rw [← hq_];exact (by refine rP ?_;exact Kd.R_mono HO_3.out (fun _ hk => ⟨hk.2, hk.1⟩))⟩;have n2_ : Aside0 (Kd.R (Kd.int .i64) 3 w39 w.heap.size (fun k_ => some k_ ≠ (.slice Ao40 t508.length co40 : Value).ownBlock ∧ some k_ ≠ (.slice Ao10 x3_3.length co10 : Value).ownBlock) (.slice (some ad506) t501.length co13) t501) := ⟨by rw [← hq_];exact (by refine rP ?_;exact Kd.R_mono HO_505000.out (fun _ hk => ⟨hk.2, hk.1⟩))⟩;have n3_ : Aside0 (w39.heap[gb504]? = some (.cells #[.slice (some ad506) t501.length co13] 36 (0, 0))) := ⟨by rw [← hq_];exact (by exact kP BK504.out)⟩;have n4_ : Aside0 (IsS61 w0 w39 g t511 s0_1 s0_2) := ⟨by rw [← hq_];exact (by exact sS)⟩;have n5_ : Aside0 (KeepBut w w39 g none) := ⟨by rw [← hq_];exact (by exact kK)⟩;have n6_ : Aside0 (Below w0.heap.size w0 w39) := ⟨by rw [← hq_];exact (by exact bB)⟩;clear HO510 HO_3 HO_505000 BK504 HI0 HK HB hq_;have HO510 := n0_;have HO_3 := n1_;have HO_505000 := n2_;have BK504 := n3_;have HI0 := n4_;have HK := n5_;have HB := n6_;clear n0_ n1_ n2_ n3_ n4_ n5_ n6_));have p38 : 0 ≤ (x27_2 : Int) := oA;have q38 : (x27_2 : Int) < ((x3_3.length : Int) : Int) := oA;obtain ⟨go38, co38, eo38, gb38, gl38, cl38, HG38⟩ := Kd.R_form HO_3.out (by omega);(first | cases eo38 | (injection eo38 with ea_ en_ ec_;(first | subst ea_ | (injection ea_ with ea_;subst ea_));subst ec_;clear en_));have GB38 := Aside0.mk gb38;have GG38 := Aside0.mk HG38;clear gb38 gl38 HG38;obtain ⟨hx38_0, hf38_0⟩ := Kd.R_celln 0 HO_3.out (x27_2 : Int) p38 q38;replace p38 := eq_true p38;replace q38 := eq_true q38;obtain ⟨hy41_, hz41_⟩ := Kd.R_celln 0 HO_3.out (x27_2 : Int) (oA) (oA);have HP41 := Kd.R_putg HO_3.out (x27_2 : Int) x4_1) | ((with_reducible refine gate_store (t := 3) (p := 58) rfl ?_);refine store_event (t := 3) (p := 58) (v := ?vo_w42) (w1 := (w39.setCell ⟨go38, (x27_2 : Int).toNat, none⟩ (.int .i64 x4_1))) ?hg ?ho ?hn ?hr ?_;(case ho => rfl);(case hg => rfl);(case hn => rfl);(case hr => exact gS);intro w42 hw;have hg : w39.grownBy w42 (some go38) := (by rw [hw];exact HP41.2);have hp_ : Kd.R (Kd.int .i64) 3 w42 w.heap.size (fun k_ => some k_ ≠ (.slice (some ad506) t501.length co13 : Value).ownBlock ∧ some k_ ≠ (.slice Ao40 t508.length co40 : Value).ownBlock) (.slice (some ⟨go38, 0, none⟩) x3_3.length co10) y513 := (by rw [hw, Ny513.out];first | exact HP41.1 | exact Kd.R_mono HP41.1 (fun _ hk => ⟨hk.2, hk.1⟩));clear HP41;have n0_ := aM (hp_);have n1_ := aM (Kd.R_after (v := (.slice (some ⟨go38, 0, none⟩) x3_3.length co10)) (v1 := (.slice (some ⟨go38, 0, none⟩) x3_3.length co10)) (ok := (fun k_ => some k_ ≠ (.slice Ao40 t508.length co40 : Value).ownBlock)) (by exact rP (Kd.R_mono HO_505000.out (fun _ hk => by first | exact ⟨hk.2, hk.1⟩ | exact ⟨hk.2, hk.1.2⟩ | exact hk | exact hk.1 | exact hk.2 | exact ⟨hk.1.2, hk.2⟩))) hg (.inl rfl));have n2_ := aM (blk_grown (g := gb504) (o := .cells #[.slice (some ad506) t501.length co13] 36 (0, 0)) (by exact kP BK504.out) hg (Kd.R_ne HO_3.out BK504.out (by decide)));have n3_ := aM (IsS61.grown (by exact sS) hg (IsS61.own_ne HI0.out HO_3.out (by decide)));have n4_ := aM (Kd.R_after (v := (.slice (some ⟨go38, 0, none⟩) x3_3.length co10)) (v1 := (.slice (some ⟨go38, 0, none⟩) x3_3.length co10)) (ok := (fun k_ => some k_ ≠ (.slice (some ad506) t501.length co13 : Value).ownBlock)) (by exact rP (Kd.R_mono HO510.out (fun _ hk => by first | exact ⟨hk.2, hk.1⟩ | exact ⟨hk.2, hk.1.2⟩ | exact hk | exact hk.1 | exact hk.2 | exact ⟨hk.1.2, hk.2⟩))) hg (.inl rfl));have n5_ := aM ((by rw [hw];exact below_set (HB.out) (Nat.le_trans HL.out GB38.out) : Below w0.heap.size w0 w42));have n6_ := aM (KeepBut.trans (by exact kK) (KeepBut.of_grown hg g) (Kd.R_base2 HO_3.out));clear HO_3;clear HO_505000;clear BK504;clear HI0;clear HO510;clear HB;clear HK;have HO_3 := n0_;have HO_505000 := n1_;have BK504 := n2_;have HI0 := n3_;have HO510 := n4_;have HB := n5_;have HK := n6_;clear n0_ n1_ n2_ n3_ n4_ n5_ n6_;clear hg hw hp_))
       (try simp only [← hl3_2, ← hl3_3])
       go_roundg k3
       case measure => have := HK1.out;have := HK2.out;have := HK3.out;omega
       case rel => exact ⟨(y513), (true), (wrap64 (x27_2 + 1)), (t511), eF, eF, H', ⟨by have := HK1.out;have := HK2.out;have := HK3.out;omega⟩, ⟨by (try simp only [hl3_2]);(try simp only [hl3_3]);refine rP ?_;exact Kd.R_mono HO_3.out (fun _ hk => by first | exact ⟨hk.2, hk.1⟩ | exact ⟨hk.2, hk.1.2⟩ | exact hk | exact hk.1 | exact hk.2 | exact ⟨hk.1.2, hk.2⟩)⟩, ⟨by (try simp only [hl3_2]);(try simp only [hl3_3]);refine rP ?_;exact Kd.R_mono HO_505000.out (fun _ hk => by first | exact ⟨hk.2, hk.1⟩ | exact ⟨hk.2, hk.1.2⟩ | exact hk | exact hk.1 | exact hk.2 | exact ⟨hk.1.2, hk.2⟩)⟩, ⟨by (try simp only [hl3_2]);(try simp only [hl3_3]);exact kP BK504.out⟩, ⟨by exact sS⟩, ⟨by exact kK⟩, ⟨by exact bB⟩⟩


/-! ### cmp_isNaN_int: function 93 -/
def cmp_isNaN_int.f (a0 : Int) : Option (Bool) := some (a0 != a0)
theorem cmp_isNaN_int.calls (a0 : Int) (r : Bool) (w : World) (h : cmp_isNaN_int.f a0 = some r) :
  Calls Tryd.prog 93 #[.int .i64 a0] w fun e w' => e = .returned (.bool r) ∧ Drawn0 w w' := by
 have H : (some (a0 != a0)) = some r := h
 clear h
 obtain rfl := Option.some.inj H
 go_enter Tryd.func93, Tryd.ntmps93
 go_wp2
 go_ret
 exact ⟨eF, dR⟩


/-! ### cmp_Compare_int: function 82 -/
def cmp_Compare_int.f (a0 : Int) (a1 : Int) : Option (Int) := (cmp_isNaN_int.f a0).bind fun t514 => ((cmp_isNaN_int.f a1).bind fun t515 => (if t514 = true then (if t515 = true then (some 0) else (some (-1))) else (if t515 = true then (some 1) else (if a0 < a1 then (some (-1)) else (if a0 > a1 then (some 1) else (some 0))))))
theorem cmp_Compare_int.calls (a0 : Int) (a1 : Int) (r : Int) (w : World) (h : cmp_Compare_int.f a0 a1 = some r) :
  Calls Tryd.prog 82 #[.int .i64 a0, .int .i64 a1] w fun e w' => e = .returned (.int .i64 r) ∧ Drawn0 w w' := by
 have H : ((cmp_isNaN_int.f a0).bind fun t514 => ((cmp_isNaN_int.f a1).bind fun t515 => (if t514 = true then (if t515 = true then (some 0) else (some (-1))) else (if t515 = true then (some 1) else (if a0 < a1 then (some (-1)) else (if a0 > a1 then (some 1) else (some 0))))))) = some r := h
 clear h
 replace H := Option.bind_eq_some_iff.mp H
 obtain ⟨t514, A30, H⟩ := H
 try dsimp only at H
 have A3 := Aside0.mk A30
 clear A30
 replace H := Option.bind_eq_some_iff.mp H
 obtain ⟨t515, A40, H⟩ := H
 try dsimp only at H
 have A4 := Aside0.mk A40
 clear A40
 by_cases c5 : t514 = true
 ·subst c5
  rw [if_pos rfl] at H
  by_cases c6 : t515 = true
  ·subst c6
   rw [if_pos rfl] at H
   obtain rfl := Option.some.inj H
   go_enter Tryd.func82, Tryd.ntmps82
   go_wp2_with (first | ((with_reducible refine gate_callee (f := 93) rfl ?_);refine goesL_ (some 8) rfl rfl Tryd.func93 (by kernel_rfl) rfl #[.int .i64 a0] rfl mM ?_;(with_reducible refine (cmp_isNaN_int.calls a0 true _ A3.out).mono ?_);rintro e w' ⟨rfl, ⟨nd, rfl⟩⟩;refine ⟨_, rfl, ?_⟩) | ((with_reducible refine gate_callee (f := 93) rfl ?_);refine goesL_ (some 10) rfl rfl Tryd.func93 (by kernel_rfl) rfl #[.int .i64 a1] rfl mM ?_;(with_reducible refine (cmp_isNaN_int.calls a1 true _ A4.out).mono ?_);rintro e w' ⟨rfl, ⟨nd, rfl⟩⟩;refine ⟨_, rfl, ?_⟩))
   go_ret
   exact ⟨eF, dR⟩
  replace c6 := Bool.eq_false_iff.mpr c6
  subst c6
  rw [if_neg (show ¬ (false = true) by decide)] at H
  obtain rfl := Option.some.inj H
  go_enter Tryd.func82, Tryd.ntmps82
  go_wp2_with (first | ((with_reducible refine gate_callee (f := 93) rfl ?_);refine goesL_ (some 8) rfl rfl Tryd.func93 (by kernel_rfl) rfl #[.int .i64 a0] rfl mM ?_;(with_reducible refine (cmp_isNaN_int.calls a0 true _ A3.out).mono ?_);rintro e w' ⟨rfl, ⟨nd, rfl⟩⟩;refine ⟨_, rfl, ?_⟩) | ((with_reducible refine gate_callee (f := 93) rfl ?_);refine goesL_ (some 10) rfl rfl Tryd.func93 (by kernel_rfl) rfl #[.int .i64 a1] rfl mM ?_;(with_reducible refine (cmp_isNaN_int.calls a1 false _ A4.out).mono ?_);rintro e w' ⟨rfl, ⟨nd, rfl⟩⟩;refine ⟨_, rfl, ?_⟩))
  go_ret
  exact ⟨eF, dR⟩
 replace c5 := Bool.eq_false_iff.mpr c5
 subst c5
 rw [if_neg (show ¬ (false = true) by decide)] at H
 by_cases c7 : t515 = true
 ·subst c7
  rw [if_pos rfl] at H
  obtain rfl := Option.some.inj H
  go_enter Tryd.func82, Tryd.ntmps82
  go_wp2_with (first | ((with_reducible refine gate_callee (f := 93) rfl ?_);refine goesL_ (some 8) rfl rfl Tryd.func93 (by kernel_rfl) rfl #[.int .i64 a0] rfl mM ?_;(with_reducible refine (cmp_isNaN_int.calls a0 false _ A3.out).mono ?_);rintro e w' ⟨rfl, ⟨nd, rfl⟩⟩;refine ⟨_, rfl, ?_⟩) | ((with_reducible refine gate_callee (f := 93) rfl ?_);refine goesL_ (some 10) rfl rfl Tryd.func93 (by kernel_rfl) rfl #[.int .i64 a1] rfl mM ?_;(with_reducible refine (cmp_isNaN_int.calls a1 true _ A4.out).mono ?_);rintro e w' ⟨rfl, ⟨nd, rfl⟩⟩;refine ⟨_, rfl, ?_⟩))
  go_ret
  exact ⟨eF, dR⟩
 replace c7 := Bool.eq_false_iff.mpr c7
 subst c7
 rw [if_neg (show ¬ (false = true) by decide)] at H
 by_cases c8 : a0 < a1
 ·rw [if_pos c8] at H
  have c8b0 : decide (a0 < a1) = true := decide_eq_true c8
  clear c8
  obtain rfl := Option.some.inj H
  go_enter Tryd.func82, Tryd.ntmps82
  go_wp2_with (first | ((with_reducible refine gate_callee (f := 93) rfl ?_);refine goesL_ (some 8) rfl rfl Tryd.func93 (by kernel_rfl) rfl #[.int .i64 a0] rfl mM ?_;(with_reducible refine (cmp_isNaN_int.calls a0 false _ A3.out).mono ?_);rintro e w' ⟨rfl, ⟨nd, rfl⟩⟩;refine ⟨_, rfl, ?_⟩) | ((with_reducible refine gate_callee (f := 93) rfl ?_);refine goesL_ (some 10) rfl rfl Tryd.func93 (by kernel_rfl) rfl #[.int .i64 a1] rfl mM ?_;(with_reducible refine (cmp_isNaN_int.calls a1 false _ A4.out).mono ?_);rintro e w' ⟨rfl, ⟨nd, rfl⟩⟩;refine ⟨_, rfl, ?_⟩))
  go_ret
  exact ⟨eF, dR⟩
 rw [if_neg c8] at H
 have c8b0 : decide (a0 < a1) = false := decide_eq_false c8
 clear c8
 by_cases c9 : a0 > a1
 rotate_left
 ·rw [if_neg c9] at H
  have c9b0 : decide (a1 < a0) = false := decide_eq_false c9
  clear c9
  obtain rfl := Option.some.inj H
  go_enter Tryd.func82, Tryd.ntmps82
  go_wp2_with (first | ((with_reducible refine gate_callee (f := 93) rfl ?_);refine goesL_ (some 8) rfl rfl Tryd.func93 (by kernel_rfl) rfl #[.int .i64 a0] rfl mM ?_;(with_reducible refine (cmp_isNaN_int.calls a0 false _ A3.out).mono ?_);rintro e w' ⟨rfl, ⟨nd, rfl⟩⟩;refine ⟨_, rfl, ?_⟩) | ((with_reducible refine gate_callee (f := 93) rfl ?_);refine goesL_ (some 10) rfl rfl Tryd.func93 (by kernel_rfl) rfl #[.int .i64 a1] rfl mM ?_;(with_reducible refine (cmp_isNaN_int.calls a1 false _ A4.out).mono ?_);rintro e w' ⟨rfl, ⟨nd, rfl⟩⟩;refine ⟨_, rfl, ?_⟩))
  go_ret
  exact ⟨eF, dR⟩
 rw [if_pos c9] at H
 have c9b0 : decide (a1 < a0) = true := decide_eq_true c9
 clear c9
 obtain rfl := Option.some.inj H
 go_enter Tryd.func82, Tryd.ntmps82
 go_wp2_with (first | ((with_reducible refine gate_callee (f := 93) rfl ?_);refine goesL_ (some 8) rfl rfl Tryd.func93 (by kernel_rfl) rfl #[.int .i64 a0] rfl mM ?_;(with_reducible refine (cmp_isNaN_int.calls a0 false _ A3.out).mono ?_);rintro e w' ⟨rfl, ⟨nd, rfl⟩⟩;refine ⟨_, rfl, ?_⟩) | ((with_reducible refine gate_callee (f := 93) rfl ?_);refine goesL_ (some 10) rfl rfl Tryd.func93 (by kernel_rfl) rfl #[.int .i64 a1] rfl mM ?_;(with_reducible refine (cmp_isNaN_int.calls a1 false _ A4.out).mono ?_);rintro e w' ⟨rfl, ⟨nd, rfl⟩⟩;refine ⟨_, rfl, ?_⟩))
 go_ret
 exact ⟨eF, dR⟩


/-! ### slices_Compare_int_int: function 59 -/
def slices_Compare_int_int.l0 : Nat → List Int → List Int → List Int → Int → Int → Option (Int)
 | 0, _, _, _, _, _ => none
 | k + 1, x0, x1, x9, x10, x11 => if x11 < x10 then (if 0 ≤ x11 then (if x11 < (x9.length : Int) then (if x11 ≥ (x1.length : Int) then (some 1) else (if x11 < (x1.length : Int) then ((cmp_Compare_int.f (rd x9 x11) (rd x1 x11)).bind fun t518 => (if t518 = 0 then (slices_Compare_int_int.l0 k x0 x1 x9 x10 (wrap64 (x11 + 1))) else (some t518))) else (none))) else (none)) else (none)) else (if (x0.length : Int) < (x1.length : Int) then (some (-1)) else (some 0))
def slices_Compare_int_int.f (k : Nat) (l0 : List Int) (l1 : List Int) : Option (Int) := slices_Compare_int_int.l0 k l0 l1 l0 (l0.length : Int) 0
theorem slices_Compare_int_int.mono_l : ∀ k, (∀ y0 y1 y2 y3 y4, LeO (slices_Compare_int_int.l0 k y0 y1 y2 y3 y4) (slices_Compare_int_int.l0 (k + 1) y0 y1 y2 y3 y4))
 | 0 => fun _ _ _ _ _ r h => by simp [slices_Compare_int_int.l0] at h
 | k + 1 => by
  have ih0 := slices_Compare_int_int.mono_l k
  ·intro y0 y1 y2 y3 y4
   unfold slices_Compare_int_int.l0
   exact lM
theorem slices_Compare_int_int.mono : ∀ a0 a1 k, LeO (slices_Compare_int_int.f k a0 a1) (slices_Compare_int_int.f (k + 1) a0 a1) := by
 intro a0 a1 k
 have ih0 := slices_Compare_int_int.mono_l k
 unfold slices_Compare_int_int.f
 exact lM
theorem slices_Compare_int_int.calls (k : Nat) (A0 : Option Addr) (c0 : Nat) (l0 : List Int) (A1 : Option Addr) (c1 : Nat) (l1 : List Int) (r : Int) (w : World) (hr0 : Kd.C (Kd.int .i64) w A0 l0.length l0) (hc0 : l0.length ≤ c0) (hr1 : Kd.C (Kd.int .i64) w A1 l1.length l1) (hc1 : l1.length ≤ c1) (h : slices_Compare_int_int.f k l0 l1 = some r) :
  Calls Tryd.prog 59 #[.slice A0 l0.length c0, .slice A1 l1.length c1] w fun e w' => e = .returned (.int .i64 r) ∧ Drawn0 w w' := by
 have HR0 := Aside0.mk hr0
 have HC0 := Aside0.mk hc0
 clear hr0 hc0
 have HR1 := Aside0.mk hr1
 have HC1 := Aside0.mk hc1
 clear hr1 hc1
 have H : (slices_Compare_int_int.l0 k l0 l1 l0 (l0.length : Int) 0) = some r := h
 clear h
 have H' := Aside0.mk H
 clear H
 go_enter Tryd.func59, Tryd.ntmps59
 go_wp2
 go_loopg [11] k (fun kq v11 w' => ∃ (x11_1 : Int), v11 = .int .i64 x11_1 ∧ Aside0 (slices_Compare_int_int.l0 kq l0 l1 l0 (l0.length : Int) x11_1 = some r) ∧ Aside0 (kq ≤ k) ∧ Drawn0 w w')
 case atStart => exact ⟨(0), eF, H', ⟨Nat.le_refl _⟩, dR⟩
 case round =>
  clear H'
  try clear c1
  try clear p2
  obtain ⟨x11_1, rfl, HA, HK1, ⟨m1, rfl⟩⟩ := hrel
  cases gk with
  | zero => exact absurd HA.out (by simp [slices_Compare_int_int.l0])
  | succ k1 =>
   have H := HA.out
   clear HA
   simp only [slices_Compare_int_int.l0] at H
   by_cases c3 : x11_1 < (l0.length : Int)
   rotate_left
   ·rw [if_neg c3] at H
    have c3b0 : decide (x11_1 < (l0.length : Int)) = false := decide_eq_false c3
    clear c3
    by_cases c10 : (l0.length : Int) < (l1.length : Int)
    rotate_left
    ·rw [if_neg c10] at H
     have c10b0 : decide ((l0.length : Int) < (l1.length : Int)) = false := decide_eq_false c10
     have c10b1 : decide (l0.length < l1.length) = false := decide_eq_false (fun h => c10 (Int.ofNat_lt.mpr h))
     clear c10
     obtain rfl := Option.some.inj H
     go_wp2
     go_ret
     exact ⟨eF, dR⟩
    rw [if_pos c10] at H
    have c10b0 : decide ((l0.length : Int) < (l1.length : Int)) = true := decide_eq_true c10
    have c10b1 : decide (l0.length < l1.length) = true := decide_eq_true (Int.ofNat_lt.mp c10)
    clear c10
    obtain rfl := Option.some.inj H
    go_wp2
    go_ret
    exact ⟨eF, dR⟩
   rw [if_pos c3] at H
   have c3b0 : decide (x11_1 < (l0.length : Int)) = true := decide_eq_true c3
   clear c3
   by_cases c4 : 0 ≤ x11_1
   rotate_left
   ·rw [if_neg c4] at H
    exact absurd H (by simp)
   rw [if_pos c4] at H
   have c4b0 : decide (0 ≤ x11_1) = true := decide_eq_true c4
   clear c4
   by_cases c5 : x11_1 < (l0.length : Int)
   rotate_left
   ·rw [if_neg c5] at H
    exact absurd H (by simp)
   rw [if_pos c5] at H
   have c5b0 : decide (x11_1 < (l0.length : Int)) = true := decide_eq_true c5
   clear c5
   by_cases c6 : x11_1 ≥ (l1.length : Int)
   ·rw [if_pos c6] at H
    have c6b0 : decide ((l1.length : Int) ≤ x11_1) = true := decide_eq_true c6
    clear c6
    obtain rfl := Option.some.inj H
    have p516 : 0 ≤ (x11_1 : Int) := oA
    have q516 : x11_1 < (l0.length : Int) := oA
    obtain ⟨ad516, e516, hx516_0⟩ := Kd.at_int HR0.out x11_1 p516 q516
    cases e516
    replace p516 := eq_true p516
    replace q516 := eq_true q516
    go_wp2
    go_ret
    exact ⟨eF, dR⟩
   rw [if_neg c6] at H
   have c6b0 : decide ((l1.length : Int) ≤ x11_1) = false := decide_eq_false c6
   clear c6
   by_cases c7 : x11_1 < (l1.length : Int)
   rotate_left
   ·rw [if_neg c7] at H
    exact absurd H (by simp)
   rw [if_pos c7] at H
   have c7b0 : decide (x11_1 < (l1.length : Int)) = true := decide_eq_true c7
   clear c7
   replace H := Option.bind_eq_some_iff.mp H
   obtain ⟨t518, A80, H⟩ := H
   try dsimp only at H
   have A8 := Aside0.mk A80
   clear A80
   by_cases c9 : t518 = 0
   rotate_left
   ·rw [if_neg c9] at H
    have c9b0 : (t518 == 0) = false := beq_eq_false_iff_ne.mpr c9
    have c9b1 : (t518 != 0) = true := bne_iff_ne.mpr c9
    obtain rfl := Option.some.inj H
    have p516 : 0 ≤ (x11_1 : Int) := oA
    have q516 : x11_1 < (l0.length : Int) := oA
    obtain ⟨ad516, e516, hx516_0⟩ := Kd.at_int HR0.out x11_1 p516 q516
    cases e516
    replace p516 := eq_true p516
    replace q516 := eq_true q516
    have p517 : 0 ≤ (x11_1 : Int) := oA
    have q517 : x11_1 < (l1.length : Int) := oA
    obtain ⟨ad517, e517, hx517_0⟩ := Kd.at_int HR1.out x11_1 p517 q517
    cases e517
    replace p517 := eq_true p517
    replace q517 := eq_true q517
    go_wp2_with (first | ((with_reducible refine gate_callee (f := 82) rfl ?_);refine goesL_ (some 26) rfl rfl Tryd.func82 (by kernel_rfl) rfl #[.int .i64 (rd l0 x11_1), .int .i64 (rd l1 x11_1)] rfl mM ?_;(with_reducible refine (cmp_Compare_int.calls (rd l0 x11_1) (rd l1 x11_1) t518 _ A8.out).mono ?_);rintro e w' ⟨rfl, ⟨nd, rfl⟩⟩;refine ⟨_, rfl, ?_⟩))
    go_ret
    exact ⟨eF, dR⟩
   rw [if_pos c9] at H
   have c9b0 : (t518 == 0) = true := beq_iff_eq.mpr c9
   have c9b1 : (t518 != 0) = false := bne_eq_false_iff_eq.mpr c9
   clear c9
   have H' := Aside0.mk H
   clear H
   have p516 : 0 ≤ (x11_1 : Int) := oA
   have q516 : x11_1 < (l0.length : Int) := oA
   obtain ⟨ad516, e516, hx516_0⟩ := Kd.at_int HR0.out x11_1 p516 q516
   cases e516
   replace p516 := eq_true p516
   replace q516 := eq_true q516
   have p517 : 0 ≤ (x11_1 : Int) := oA
   have q517 : x11_1 < (l1.length : Int) := oA
   obtain ⟨ad517, e517, hx517_0⟩ := Kd.at_int HR1.out x11_1 p517 q517
   cases e517
   replace p517 := eq_true p517
   replace q517 := eq_true q517
   go_wp2_with (first | ((with_reducible refine gate_callee (f := 82) rfl ?_);refine goesL_ (some 26) rfl rfl Tryd.func82 (by kernel_rfl) rfl #[.int .i64 (rd l0 x11_1), .int .i64 (rd l1 x11_1)] rfl mM ?_;(with_reducible refine (cmp_Compare_int.calls (rd l0 x11_1) (rd l1 x11_1) t518 _ A8.out).mono ?_);rintro e w' ⟨rfl, ⟨nd, rfl⟩⟩;refine ⟨_, rfl, ?_⟩))
   go_roundg k1
   case measure => have := HK1.out;omega
   case rel => exact ⟨(wrap64 (x11_1 + 1)), eF, H', ⟨by have := HK1.out;omega⟩, dR⟩


/-! ### impl_IsGraph: by hand -/
theorem C_two {w : World} {a : Addr} {x y : Int} (h0 : w.cell? a = some (.int .i64 x)) (h1 : w.cell? (a.add 1) = some (.int .i64 y)) : Kd.C (Kd.int .i64) w (some a) ([x, y] : List Int).length [x, y] := by
 refine ⟨rfl, ?_, fun _ => ⟨a, rfl, ?_⟩⟩
 ·simp
 ·intro j p hj
  match j, hj with
  | 0, hj => 
   simp at hj;subst hj
   exact ⟨[.int .i64 x], rfl, rfl, fun i u hu => by
    match i, hu with
    | 0, hu => simp at hu;subst hu;simpa [Addr.add] using h0⟩
  | 1, hj =>
   simp at hj;subst hj
   exact ⟨[.int .i64 y], rfl, rfl, fun i u hu => by
    match i, hu with
    | 0, hu => simp at hu;subst hu;simpa [Addr.add, Kd.int, Kd.scalar] using h1⟩
theorem cmp2 (a b c d : Int) : ∃ k r, slices_Compare_int_int.f k [a, b] [c, d] = some r ∧ (r < 0 ↔ (a < c ∨ a = c ∧ b < d)) := by
 have hc : ∀ x y, cmp_Compare_int.f x y = some (if x < y then -1 else if x > y then 1 else 0) := by
  intro x y;simp [cmp_Compare_int.f, cmp_isNaN_int.f];split <;> (try split) <;> rfl
 have w1 : wrap64 (0 + 1) = 1 := by unfold wrap64;omega
 have w2 : wrap64 (1 + 1) = 2 := by unfold wrap64;omega
 refine ⟨3, if a < c then -1 else if a > c then 1 else if b < d then -1 else if b > d then 1 else 0, ?_, ?_⟩
 ·simp only [slices_Compare_int_int.f, slices_Compare_int_int.l0, hc]
  simp only [rd, w1, w2, Option.bind_some, List.length_cons, List.length_nil]
  by_cases h1 : a < c
  ·simp [h1]
  ·by_cases h2 : c < a
   ·simp [h1, h2]
   ·by_cases h3 : b < d
    ·simp [h1, h2, h3]
    ·by_cases h4 : d < b
     ·simp [h1, h2, h3, h4]
     ·simp [h1, h2, h3, h4]
 ·split
  ·simp;omega
  ·split
   ·simp;omega
   ·split
    ·simp;omega
    ·split <;> simp <;> omega
def impl_IsGraph.f (a0_0 : Int) (l0_1 : List S78) : Option Bool := some (decide (0 ≤ a0_0 ∧ a0_0 ≤ 8) && goodL a0_0 none l0_1)
theorem impl_IsGraph.calls (a0_0 : Int) (A0_1 : Option Addr) (c0_1 : Nat) (l0_1 : List (S78)) (r : Bool) (w : World) (hr0_1 : Kd.C k78 w A0_1 l0_1.length l0_1) (hc0_1 : l0_1.length ≤ c0_1) (h : impl_IsGraph.f a0_0 l0_1 = some r) :
  Calls Tryd.prog 30 #[.agg #[.int .i64 a0_0, .slice A0_1 l0_1.length c0_1]] w fun e w' => e = .returned (.bool r) ∧ Below w.heap.size w w' := by
 have HR := Aside0.mk hr0_1
 have HC := Aside0.mk hc0_1
 have H := aM (Option.some.inj h)
 clear hr0_1 hc0_1 h
 by_cases hn : 0 ≤ a0_0 ∧ a0_0 ≤ 8
 ·have hw : impl_within.f a0_0 0 8 = some true := by simp [impl_within.f, hn]
  have H1 : Aside0 (goodL a0_0 none l0_1 = r) := ⟨by have := H.out;simpa [hn] using this⟩
  have HW := Aside0.mk hw
  clear hw H
  go_enter Tryd.func30, Tryd.ntmps30
  go_wp2_with (go_at_call 31;refine (impl_within.calls _ _ _ _ _ HW.out).mono ?_;rintro e w' ⟨rfl, ⟨nd, rfl⟩⟩)
  have HB : Aside0 (Below w.heap.size w ((w.alloc (Obj.cells #[Value.int IntKind.i64 a0_0, Value.slice A0_1 l0_1.length c0_1] 29)).drewN nd)) := ⟨pw_below_drewN (below_alloc (Below.refl _ _) _) _⟩
  go_loopw [12] (fun v wr => ∃ x : Int, v = .int .i64 x ∧ Aside0 (0 ≤ x ∧ x ≤ l0_1.length) ∧ Aside0 (goodL a0_0 (prevAt l0_1 x.toNat) (l0_1.drop x.toNat) = r) ∧ Aside0 (wr.heap[w.heap.size]? = some (.cells #[.int .i64 a0_0, .slice A0_1 l0_1.length c0_1] 29 (0, 0))) ∧ Aside0 (Below w.heap.size w wr)) (fun v _ => l0_1.length - (intOf v).toNat)
  case atStart => exact ⟨0, rfl, ⟨by omega, by omega⟩, ⟨by simpa [prevAt] using H1.out⟩, ⟨blk_drewN (blk_new w _) _⟩, HB⟩
  case round =>
   clear HB H1
   obtain ⟨x, rfl, HX, HG, BK, HB⟩ := hrel
   have hcz0 : wr.cell? ⟨w.heap.size, 0, none⟩ = some (.int .i64 a0_0) := (blk_cell BK.out 0).trans rfl
   have hcz1 : wr.cell? ⟨w.heap.size, 1, none⟩ = some (.slice A0_1 l0_1.length c0_1) := (blk_cell BK.out 1).trans rfl
   by_cases hlt : x < (l0_1.length : Int)
   ·have hlt' : decide (x < (l0_1.length : Int)) = true := decide_eq_true hlt
    have p0 : 0 ≤ x := HX.out.1
    obtain ⟨ad, e, hx0, hx1⟩ := at_T78 HR.out x p0 hlt
    cases e
    replace hx0 := (HB.out.cell (World.block_lt_of_cell? w _ hx0)).trans hx0
    replace hx1 := (HB.out.cell (World.block_lt_of_cell? w _ hx1)).trans hx1
    replace p0 := eq_true p0
    have hlt'' := eq_true hlt
    have HL := Aside0.mk hlt
    have hsz : w.heap.size < wr.heap.size := blk_lt BK.out
    clear hlt
    go_wp2
    by_cases t0 : (rd_T78 l0_1 x).f0 < 0
    ·have d0 : decide ((rd_T78 l0_1 x).f0 < 0) = true := decide_eq_true t0
     have hr : r = false := by rw [← HG.out, step_lt HX.out.1 HL.out];simp [edgeOk];omega
     subst hr
     clear t0
     go_quiet (fail)
     go_wp2
     go_ret
     exact ⟨rfl, by repeat (first | exact HB.out | apply below_alloc | apply pw_below_drewN | apply below_drew)⟩
    have d0 : decide ((rd_T78 l0_1 x).f0 < 0) = false := decide_eq_false t0
    by_cases t1 : (rd_T78 l0_1 x).f1 ≤ (rd_T78 l0_1 x).f0
    ·have d1 : decide ((rd_T78 l0_1 x).f1 ≤ (rd_T78 l0_1 x).f0) = true := decide_eq_true t1
     have hr : r = false := by rw [← HG.out, step_lt HX.out.1 HL.out];simp [edgeOk];omega
     subst hr
     clear t0 t1
     go_quiet (fail)
     go_wp2
     go_ret
     exact ⟨rfl, by repeat (first | exact HB.out | apply below_alloc | apply pw_below_drewN | apply below_drew)⟩
    have d1 : decide ((rd_T78 l0_1 x).f1 ≤ (rd_T78 l0_1 x).f0) = false := decide_eq_false t1
    by_cases t2 : a0_0 ≤ (rd_T78 l0_1 x).f1
    ·have d2 : decide (a0_0 ≤ (rd_T78 l0_1 x).f1) = true := decide_eq_true t2
     have hr : r = false := by rw [← HG.out, step_lt HX.out.1 HL.out];simp [edgeOk];omega
     subst hr
     clear t0 t1 t2
     go_quiet (fail)
     go_wp2
     go_ret
     exact ⟨rfl, by repeat (first | exact HB.out | apply below_alloc | apply pw_below_drewN | apply below_drew)⟩
    have d2 : decide (a0_0 ≤ (rd_T78 l0_1 x).f1) = false := decide_eq_false t2
    by_cases t3 : 0 < x
    ·have d3 : decide (0 < x) = true := decide_eq_true t3
     have hj : wrap64 (x - 1) = x - 1 := by have h1 := HL.out;have h2 := HX.out;have h3 := HR.out.2.1;unfold wrap64;omega
     obtain ⟨ji, hji⟩ : ∃ j : Int, j = x - 1 := ⟨_, rfl⟩
     have hjw : IntKind.i64.wrap (x - 1) = ji := ((i64_w _).trans hj).trans hji.symm
     have p1 : 0 ≤ ji := by omega
     have q1 : ji < (l0_1.length : Int) := by have := HL.out;omega
     have HJ := Aside0.mk hji
     clear hj hji
     obtain ⟨ad', e', hy0, hy1⟩ := at_T78 HR.out ji p1 q1
     cases e'
     replace hy0 := (HB.out.cell (World.block_lt_of_cell? w _ hy0)).trans hy0
     replace hy1 := (HB.out.cell (World.block_lt_of_cell? w _ hy1)).trans hy1
     replace p1 := eq_true p1
     replace q1 := eq_true q1
     obtain ⟨k, c, hc, hlt⟩ := cmp2 (rd_T78 l0_1 ji).f0 (rd_T78 l0_1 ji).f1 (rd_T78 l0_1 x).f0 (rd_T78 l0_1 x).f1
     have HCMP := Aside0.mk hc
     have HY := aM (C_two hy0 hy1)
     clear hc
     by_cases t4 : 0 ≤ c
     ·have d4 : decide (0 ≤ c) = true := decide_eq_true t4
      have hr : r = false := by
       rw [← HG.out, step_lt HX.out.1 HL.out]
       have : edgeLt (rd_T78 l0_1 ji) (rd_T78 l0_1 x) = false := by
        by_cases he : edgeLt (rd_T78 l0_1 ji) (rd_T78 l0_1 x) = true
        ·exfalso;simp [edgeLt] at he;have := hlt.2 he;omega
        ·simpa using he
       have hp : prevAt l0_1 x.toNat = some (rd_T78 l0_1 ji) := by unfold prevAt;rw [if_neg (by omega), HJ.out];congr 2;omega
       rw [hp];simp [this]
      subst hr
      clear t0 t1 t2 t3 t4 hlt
      go_quiet ((first | (go_at_call 59;refine (slices_Compare_int_int.calls k (some _) 2 [_, _] (some _) 2 [_, _] c _ (Kd.C_below HY.out (pw_below_drewN (below_alloc (Below.refl _ _) _) _)) (Nat.le_refl _) (C_two (by simp [go_sem]) (by simp [go_sem, Addr.add])) (Nat.le_refl _) HCMP.out).mono ?_;rintro e w' ⟨rfl, ⟨nd, rfl⟩⟩;exact ⟨rfl, _, World.drewN_drewN _ _ _⟩)))
      go_wp2
      go_ret
      exact ⟨rfl, by repeat (first | exact HB.out | apply below_alloc | apply pw_below_drewN | apply below_drew)⟩
     ·have d4 : decide (0 ≤ c) = false := decide_eq_false t4
      have hr : Aside0 (goodL a0_0 (prevAt l0_1 (x + 1).toNat) (l0_1.drop (x + 1).toNat) = r) := ⟨by
       rw [← HG.out, step_lt HX.out.1 HL.out]
       have he : edgeLt (rd_T78 l0_1 ji) (rd_T78 l0_1 x) = true := by simp only [edgeLt, decide_eq_true_eq];exact hlt.1 (by omega)
       have hp : prevAt l0_1 x.toNat = some (rd_T78 l0_1 ji) := by unfold prevAt;rw [if_neg (by omega), HJ.out];congr 2;omega
       have ho : edgeOk a0_0 (rd_T78 l0_1 x) = true := by simp only [edgeOk, decide_eq_true_eq];omega
       rw [hp, ho];simp [he]⟩
      have HN : Aside0 (x + 1 ≤ l0_1.length ∧ x + 1 ≤ 9223372036854775807) := ⟨by have := HL.out;have := HR.out.2.1;omega⟩
      have hw1 : wrap64 (x + 1) = x + 1 := by have := HN.out;have := HX.out;unfold wrap64;omega
      have HW1 := Aside0.mk hw1
      clear t0 t1 t2 t3 t4 hlt hw1
      go_quiet ((first | (go_at_call 59;refine (slices_Compare_int_int.calls k (some _) 2 [_, _] (some _) 2 [_, _] c _ (Kd.C_below HY.out (pw_below_drewN (below_alloc (Below.refl _ _) _) _)) (Nat.le_refl _) (C_two (by simp [go_sem]) (by simp [go_sem, Addr.add])) (Nat.le_refl _) HCMP.out).mono ?_;rintro e w' ⟨rfl, ⟨nd, rfl⟩⟩;exact ⟨rfl, _, World.drewN_drewN _ _ _⟩)))
      go_wp2
      go_roundw
      case rel => exact ⟨x + 1, by rw [HW1.out], ⟨by have := HX.out;have := HN.out;omega⟩, hr, ⟨by refine kP ?_;exact BK.out⟩, ⟨by repeat (first | exact HB.out | apply below_alloc | apply pw_below_drewN | apply below_drew)⟩⟩
      case measure => have := HL.out;have := HX.out;rw [HW1.out];simp [intOf];omega
    ·have d3 : decide (0 < x) = false := decide_eq_false t3
     obtain rfl : x = 0 := by have := HX.out;omega
     have hr : Aside0 (goodL a0_0 (prevAt l0_1 1) (l0_1.drop 1) = r) := ⟨by rw [← HG.out, step_lt HX.out.1 HL.out];simp [edgeOk, prevAt];omega⟩
     clear t0 t1 t2 t3
     go_quiet (fail)
     go_wp2
     go_roundw
     case rel => exact ⟨1, rfl, ⟨by omega, by have := HL.out;omega⟩, hr, ⟨by refine kP ?_;exact BK.out⟩, ⟨by repeat (first | exact HB.out | apply below_alloc | apply pw_below_drewN | apply below_drew)⟩⟩
     case measure => have := HL.out;simp [intOf];omega
   ·have hlt' : decide (x < (l0_1.length : Int)) = false := decide_eq_false hlt
    obtain rfl : true = r := by have := HG.out;rw [List.drop_eq_nil_of_le (by omega)] at this;simpa [goodL] using this
    clear hlt
    go_wp2
    go_ret
    exact ⟨rfl, HB.out⟩
 ·have hw : impl_within.f a0_0 0 8 = some false := by 
   simp only [impl_within.f]
   split
   ·simp;omega
   ·rfl
  obtain rfl : false = r := by have := H.out;simpa [hn] using this
  have HW := Aside0.mk hw
  clear hw H
  go_enter Tryd.func30, Tryd.ntmps30
  go_wp2_with (go_at_call 31;refine (impl_within.calls _ _ _ _ _ HW.out).mono ?_;rintro e w' ⟨rfl, ⟨nd, rfl⟩⟩)
  go_ret
  exact ⟨rfl, by repeat (first | exact Below.refl _ _ | apply below_alloc | apply pw_below_drewN | apply below_drew | refine below_set ?_ (by simp))⟩

/-! ### impl_valResist: by hand -/
def impl_valResist.f (k : Nat) (n : Int) (s m : List (List Int)) : Option (List Int) := (impl_guardGame_resist.f k n s m).bind fun r => some r.1
theorem impl_valResist.mono : ∀ a0 a1 a2 k, LeO (impl_valResist.f k a0 a1 a2) (impl_valResist.f (k + 1) a0 a1 a2) := by
 intro a0 a1 a2 k
 unfold impl_valResist.f
 exact LeO.bind (impl_guardGame_resist.mono _ _ _ _) (fun r => LeO.refl _)
theorem impl_valResist.calls (gb k : Nat) (n : Int) (A1 : Option Addr) (c1 : Nat) (s : List (List Int)) (A2 : Option Addr) (c2 : Nat) (m : List (List Int)) (r : List Int) (w : World) (hr1 : Kd.C (Kd.slice 3 (Kd.int .i64)) w A1 s.length s) (_hc1 : s.length ≤ c1) (hr2 : Kd.C (Kd.slice 3 (Kd.int .i64)) w A2 m.length m) (_hc2 : m.length ≤ c2) (h : impl_valResist.f k n s m = some r) (hbx : w.heap[gb]? = some (.cells #[.int .i64 n, .slice A1 s.length c1, .slice A2 m.length c2] 61 (0, 0))) :
  Calls Tryd.prog 34 #[.pointer (some ⟨gb, 0, none⟩)] w fun e w' => ∃ v0_ : Value, e = .returned v0_ ∧ Kd.R (Kd.int .i64) 3 w' w.heap.size (fun _ => True) v0_ r ∧ Below w.heap.size w w' := by
 unfold impl_valResist.f at h
 obtain ⟨⟨r1, r2⟩, h1, h2⟩ := Option.bind_eq_some_iff.1 h
 obtain rfl := Option.some.inj h2
 refine (impl_guardGame_resist.calls k gb n s m r1 r2 w w ⟨A1, c1, A2, c2, hbx, trivial, hr1, hr2⟩ (Below.refl _ _) h1).mono ?_
 rintro e w' ⟨v, rfl, hR, _, hB, _⟩
 exact ⟨v, rfl, hR, hB⟩

end Go.Proofs.YtgahlimikndecaaDoor.QEternalFamily
