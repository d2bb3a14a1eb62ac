import Derived.Test.YthbjajppdomhhaaDoorQEternalNumber0
import Derived.Test.YthbjajppdomhhaaDoorQEternalNumber13
import Derived.Test.YthbjajppdomhhaaDoorQEternalNumber18
namespace Go.Proofs.YthbjajppdomhhaaDoor.QEternalNumber
open Go.RowKit Go.Proofs.YthbjajppdomhhaaDoorW.PrintWords Go.Proofs.YthbjajppdomhhaaDoorW.PrintLast Go.Proofs.YthbjajppdomhhaaDoorW.PrintMore
attribute [local go_sem] max2_int min2_int max_two min_two max_three min_three max_four min_four   -- for this text's walks alone
set_option linter.unusedVariables false
set_option linter.unusedSimpArgs false
/-! ### impl_guardGame_resist: function 67 -/
/-! #### slices.ContainsFunc at []int: by hand -/
def notYet (p : Int → Bool) (l : List Int) (i : Nat) : Prop := ∀ j, j < i → ∀ x, l[j]? = some x → p x = false
theorem notYet_all {p : Int → Bool} {l : List Int} (h : notYet p l l.length) : l.any p = false := by
 rw [List.any_eq_false]
 intro x hx
 obtain ⟨j, hj, rfl⟩ := List.getElem_of_mem hx
 simp [h j hj _ (List.getElem?_eq_getElem hj)]
theorem notYet_hit {p : Int → Bool} {l : List Int} {i : Nat} (hi : i < l.length) (h : p (rd l (i : Int)) = true) : l.any p = true := by
 rw [List.any_eq_true]
 refine ⟨l[i], List.getElem_mem hi, ?_⟩
 have : rd l (i : Int) = l[i] := by simp [rd, hi]
 rwa [← this]
theorem notYet_succ {p : Int → Bool} {l : List Int} {i : Nat} (hi : i < l.length) (h : notYet p l i) (hp : p (rd l (i : Int)) = false) : notYet p l (i + 1) := by
 intro j hj x hx
 by_cases e : j = i
 ·subst e
  have : rd l (j : Int) = x := by simp [rd, hx]
  rwa [← this]
 ·exact h j (by omega) x hx
set_option maxHeartbeats 1600000 in
set_option maxRecDepth 100000 in
theorem indexFunc_calls (g : Nat) (lb : Array Value) (eg : ∀ args w, (callFunc g args).run Tryd.prog w = .ok (.enter g args) w) (p : Int → Bool) (A : Option Addr) (c : Nat) (l : List Int) (w : World) (hr : Kd.C (Kd.int .i64) w A l.length l)
  (hp : ∀ x ∈ l, ∀ W, Below w.heap.size w W → Calls Tryd.prog g (#[.int .i64 x] ++ lb) W fun e w' => e = .returned (.bool (p x)) ∧ ∃ q, w' = W.drewN q) :
  Calls Tryd.prog 104 #[.slice A l.length c, .func (.func g) #[] lb] w fun e w' => (∃ j : Int, e = .returned (.int .i64 j) ∧ decide (0 ≤ j) = l.any p) ∧ ∃ q, w' = w.drewN q := by
 have HR := Aside0.mk hr
 have HP := Aside0.mk hp
 have hL := hr.2.1
 clear hr hp
 go_enter Tryd.func104, Tryd.ntmps104
 go_wp2
 go_loopg [5, 8] l.length (fun gg _ s8 wr => ∃ kk q : Nat, kk ≤ l.length ∧ l.length - kk ≤ gg ∧ s8 = .int .i64 (kk : Int) ∧ wr = w.drewN q ∧ Aside0 (notYet p l kk))
 case atStart => exact ⟨0, 0, Nat.zero_le _, by omega, rfl, rfl, ⟨fun j hj => absurd hj (Nat.not_lt_zero _)⟩⟩
 case round =>
  obtain ⟨kk, q, hkk, hg, rfl, rfl, NY⟩ := hrel
  by_cases hlt : kk < l.length
  ·have hltz : (kk : Int) < (l.length : Int) := by omega
   have hk0 : (0 : Int) ≤ (kk : Int) := by omega
   obtain ⟨ad, rfl, hcell⟩ := Kd.at_int HR.out (kk : Int) hk0 hltz
   rw [Int.toNat_natCast] at hcell
   have hmem : rd l (kk : Int) ∈ l := by
    have : rd l (kk : Int) = l[kk] := by simp [rd, hlt]
    rw [this];exact List.getElem_mem hlt
   have hcall := HP.out (rd l (kk : Int)) hmem (w.drewN q) (pw_below_drewN (Below.refl _ _) q)
   generalize hx : rd l (kk : Int) = x at hcell hcall
   have HX := Aside0.mk hx
   clear hx hmem
   cases hq : p x with
   | true =>
    rw [hq] at hcall
    go_wp2_with (go_at_fn g;refine hcall.mono ?_;rintro e w' ⟨rfl, q', rfl⟩)
    go_ret
    exact ⟨⟨_, rfl, by rw [notYet_hit hlt (by rw [HX.out];exact hq)];simp⟩, _, rfl⟩
   | false =>
    rw [hq] at hcall
    go_wp2_with (go_at_fn g;refine hcall.mono ?_;rintro e w' ⟨rfl, q', rfl⟩)
    go_roundg (l.length - (kk + 1))
    case measure => omega
    case rel => exact ⟨kk + 1, _, by omega, by omega, by first | rfl | go_num, rfl, ⟨notYet_succ hlt NY.out (by rw [HX.out];exact hq)⟩⟩
  ·have hltz : ¬ (kk : Int) < (l.length : Int) := by omega
   obtain rfl : kk = l.length := by omega
   go_wp2
   go_ret
   exact ⟨⟨-1, rfl, by rw [notYet_all NY.out];rfl⟩, q, rfl⟩
set_option maxHeartbeats 1600000 in
theorem containsFunc_calls (g : Nat) (lb : Array Value) (eg : ∀ args w, (callFunc g args).run Tryd.prog w = .ok (.enter g args) w) (p : Int → Bool) (A : Option Addr) (c : Nat) (l : List Int) (w : World) (hr : Kd.C (Kd.int .i64) w A l.length l)
  (hp : ∀ x ∈ l, ∀ W, Below w.heap.size w W → Calls Tryd.prog g (#[.int .i64 x] ++ lb) W fun e w' => e = .returned (.bool (p x)) ∧ ∃ q, w' = W.drewN q) :
  Calls Tryd.prog 109 #[.slice A l.length c, .func (.func g) #[] lb] w fun e w' => e = .returned (.bool (l.any p)) ∧ ∃ q, w' = w.drewN q := by
 have hcon := indexFunc_calls g lb eg p A c l w hr hp
 go_enter Tryd.func109, Tryd.ntmps109
 go_wp2_with (go_at_call 104;refine hcon.mono ?_;rintro e w' ⟨⟨j, rfl, hj⟩, q, rfl⟩)
 go_ret
 exact ⟨rfl, q, rfl⟩

/-! #### the closure of the resistances -/
def hasNeg (before : List Int) (l : List Int) : Option Bool := if ∀ x ∈ l, 0 ≤ x ∧ x < (before.length : Int) then some (l.any fun x => decide (rd before x < 0)) else none
theorem hasNeg_use {before l : List Int} {b : Bool} (h : hasNeg before l = some b) : (∀ x ∈ l, 0 ≤ x ∧ x < (before.length : Int)) ∧ (l.any fun x => decide (rd before x < 0)) = b := by
 unfold hasNeg at h
 split at h
 ·rename_i hv;exact ⟨hv, Option.some.inj h⟩
 ·cases h
set_option maxHeartbeats 1600000 in
theorem neg_fn (gB : Nat) (A : Option Addr) (c : Nat) (before : List Int) (x : Int) (W : World) (hB : W.cell? ⟨gB, 0, none⟩ = some (.slice A before.length c)) (hC : Kd.C (Kd.int .i64) W A before.length before) (h0 : 0 ≤ x) (h1 : x < (before.length : Int)) :
  Calls Tryd.prog 110 (#[.int .i64 x] ++ #[.pointer (some ⟨gB, 0, none⟩)]) W fun e w' => e = .returned (.bool (decide (rd before x < 0))) ∧ ∃ q, w' = W.drewN q := by
 obtain ⟨ad, rfl, hx⟩ := Kd.at_int hC x h0 h1
 have p0 : (0 ≤ x) = True := eq_true h0
 have p1 : (x < (before.length : Int)) = True := eq_true h1
 clear hC h0 h1
 generalize rd before x = y at hx ⊢
 show Calls Tryd.prog 110 #[.int .i64 x, .pointer (some ⟨gB, 0, none⟩)] W _
 go_enter Tryd.func110, Tryd.ntmps110
 go_wp2
 go_ret
 exact ⟨rfl, 0, rfl⟩

theorem stop_at {W0 W : World} (hb : Below W0.heap.size W0 W) {p : Addr} {v : Value} (h : W0.cell? p = some v) : W.cell? p = some v := (hb.cell (World.block_lt_of_cell? _ _ h)).trans h
mutual
def impl_guardGame_resist.l0 : Nat → List Int → Int → Bool → Int → List (List Int) → List (List Int) → Option (List Int × Int)
 | 0, _, _, _, _, _, _ => none
 | k + 1, x3, x4, x5, x1000, x1001, x1002 => if x5 = true then ((slices_Clone_int_int.f x3).bind fun t604 => (impl_guardGame_resist.l1 k x3 x4 false x1001 (x1001.length : Int) 0 x1000 x1001 x1002 t604)) else (some (x3, x1000))
def impl_guardGame_resist.l1 : Nat → List Int → Int → Bool → List (List Int) → Int → Int → Int → List (List Int) → List (List Int) → List Int → Option (List Int × Int)
 | 0, _, _, _, _, _, _, _, _, _, _ => none
 | k + 1, x3, x4, x5, x25, x26, x27, x1000, x1001, x1002, x608000 => if x27 < x26 then (if 0 ≤ x27 then (if x27 < (x25.length : Int) then (if x27 < (x608000.length : Int) then (if (rd x608000 x27) ≥ 0 then (impl_guardGame_resist.l1 k x3 x4 x5 x25 x26 (wrap64 (x27 + 1)) x1000 x1001 x1002 x608000) else (impl_guardGame_resist.l2 k x3 x4 x5 x27 (rd_L2 x25 x27) x25 x26 x27 x1000 0 x1000 x1001 x1002 x608000)) else (none)) else (none)) else (none)) else (impl_guardGame_resist.l0 k x3 (wrap64 (x4 + 1)) x5 x1000 x1001 x1002)
def impl_guardGame_resist.l2 : Nat → List Int → Int → Bool → Int → List Int → List (List Int) → Int → Int → Int → Int → Int → List (List Int) → List (List Int) → List Int → Option (List Int × Int)
 | 0, _, _, _, _, _, _, _, _, _, _, _, _, _, _ => none
 | k + 1, x3, x4, x5, x7, x8, x25, x26, x27, x40, x41, x1000, x1001, x1002, x608000 => if x41 < x40 then ((slices_Contains_int_int.f k x8 x41).bind fun t610 => (if t610 = true then (impl_guardGame_resist.l2 k x3 x4 x5 x7 x8 x25 x26 x27 x40 (wrap64 (x41 + 1)) x1000 x1001 x1002 x608000) else ((impl_guardGame_answers.f x1000 x1001 x1002 x7 x41).bind fun bt611 => ((hasNeg x608000 bt611.1).bind fun t615 => (if t615 = true then (impl_guardGame_resist.l2 k x3 x4 x5 x7 x8 x25 x26 x27 x40 (wrap64 (x41 + 1)) bt611.2 x1001 x1002 x608000) else (if 0 ≤ x7 then (if x7 < (x3.length : Int) then (impl_guardGame_resist.l1 k (x3.set (x7 : Int).toNat x4) x4 true x25 x26 (wrap64 (x27 + 1)) bt611.2 x1001 x1002 x608000) else (none)) else (none))))))) else (impl_guardGame_resist.l1 k x3 x4 x5 x25 x26 (wrap64 (x27 + 1)) x1000 x1001 x1002 x608000)
end
def impl_guardGame_resist.f (k : Nat) (s0_0 : Int) (s0_1 : List (List Int)) (s0_2 : List (List Int)) : Option (List Int × Int) := (slices_Repeat_int_int.f (([(-1)] : List Int)) (s0_1.length : Int)).bind fun t601 => (impl_guardGame_resist.l0 k t601 0 true s0_0 s0_1 s0_2)
theorem impl_guardGame_resist.mono_l : ∀ k, (∀ y0 y1 y2 y3 y4 y5, LeO (impl_guardGame_resist.l0 k y0 y1 y2 y3 y4 y5) (impl_guardGame_resist.l0 (k + 1) y0 y1 y2 y3 y4 y5)) ∧ (∀ y0 y1 y2 y3 y4 y5 y6 y7 y8 y9, LeO (impl_guardGame_resist.l1 k y0 y1 y2 y3 y4 y5 y6 y7 y8 y9) (impl_guardGame_resist.l1 (k + 1) y0 y1 y2 y3 y4 y5 y6 y7 y8 y9)) ∧ (∀ y0 y1 y2 y3 y4 y5 y6 y7 y8 y9 y10 y11 y12 y13, LeO (impl_guardGame_resist.l2 k y0 y1 y2 y3 y4 y5 y6 y7 y8 y9 y10 y11 y12 y13) (impl_guardGame_resist.l2 (k + 1) y0 y1 y2 y3 y4 y5 y6 y7 y8 y9 y10 y11 y12 y13))
 | 0 => ⟨fun _ _ _ _ _ _ r h => by simp [impl_guardGame_resist.l0] at h, fun _ _ _ _ _ _ _ _ _ _ r h => by simp [impl_guardGame_resist.l1] at h, fun _ _ _ _ _ _ _ _ _ _ _ _ _ _ r h => by simp [impl_guardGame_resist.l2] at h⟩
 | k + 1 => by
  obtain ⟨ih0, ih1, ih2⟩ := impl_guardGame_resist.mono_l k
  refine ⟨?_, ?_, ?_⟩
  ·intro y0 y1 y2 y3 y4 y5
   unfold impl_guardGame_resist.l0
   repeat' first
   | (with_reducible exact ih0 _ _ _ _ _ _)
   | (with_reducible exact ih1 _ _ _ _ _ _ _ _ _ _)
   | (with_reducible exact ih2 _ _ _ _ _ _ _ _ _ _ _ _ _ _)
   | (with_reducible exact slices_Contains_int_int.mono _ _ _)
   | (with_reducible exact LeO.refl _)
   | (with_reducible exact LeO.none _)
   | (with_reducible refine LeO.ite ?_ ?_)
   | (with_reducible refine LeO.bind ?_ (fun _ => ?_))
   | exact ih0 _ _ _ _ _ _
   | exact ih1 _ _ _ _ _ _ _ _ _ _
   | exact ih2 _ _ _ _ _ _ _ _ _ _ _ _ _ _
   | exact slices_Contains_int_int.mono _ _ _
   | exact LeO.none _
   | refine LeO.ite ?_ ?_
   | refine LeO.bind ?_ (fun _ => ?_)
  ·intro y0 y1 y2 y3 y4 y5 y6 y7 y8 y9
   unfold impl_guardGame_resist.l1
   repeat' first
   | (with_reducible exact ih0 _ _ _ _ _ _)
   | (with_reducible exact ih1 _ _ _ _ _ _ _ _ _ _)
   | (with_reducible exact ih2 _ _ _ _ _ _ _ _ _ _ _ _ _ _)
   | (with_reducible exact slices_Contains_int_int.mono _ _ _)
   | (with_reducible exact LeO.refl _)
   | (with_reducible exact LeO.none _)
   | (with_reducible refine LeO.ite ?_ ?_)
   | (with_reducible refine LeO.bind ?_ (fun _ => ?_))
   | exact ih0 _ _ _ _ _ _
   | exact ih1 _ _ _ _ _ _ _ _ _ _
   | exact ih2 _ _ _ _ _ _ _ _ _ _ _ _ _ _
   | exact slices_Contains_int_int.mono _ _ _
   | exact LeO.none _
   | refine LeO.ite ?_ ?_
   | refine LeO.bind ?_ (fun _ => ?_)
  ·intro y0 y1 y2 y3 y4 y5 y6 y7 y8 y9 y10 y11 y12 y13
   unfold impl_guardGame_resist.l2
   repeat' first
   | (with_reducible exact ih0 _ _ _ _ _ _)
   | (with_reducible exact ih1 _ _ _ _ _ _ _ _ _ _)
   | (with_reducible exact ih2 _ _ _ _ _ _ _ _ _ _ _ _ _ _)
   | (with_reducible exact slices_Contains_int_int.mono _ _ _)
   | (with_reducible exact LeO.refl _)
   | (with_reducible exact LeO.none _)
   | (with_reducible refine LeO.ite ?_ ?_)
   | (with_reducible refine LeO.bind ?_ (fun _ => ?_))
   | exact ih0 _ _ _ _ _ _
   | exact ih1 _ _ _ _ _ _ _ _ _ _
   | exact ih2 _ _ _ _ _ _ _ _ _ _ _ _ _ _
   | exact slices_Contains_int_int.mono _ _ _
   | exact LeO.none _
   | refine LeO.ite ?_ ?_
   | refine LeO.bind ?_ (fun _ => ?_)
theorem impl_guardGame_resist.mono : ∀ a0 a1 a2 k, LeO (impl_guardGame_resist.f k a0 a1 a2) (impl_guardGame_resist.f (k + 1) a0 a1 a2) := by
 intro a0 a1 a2 k
 obtain ⟨ih0, ih1, ih2⟩ := impl_guardGame_resist.mono_l k
 unfold impl_guardGame_resist.f
 repeat' first
   | (with_reducible exact ih0 _ _ _ _ _ _)
   | (with_reducible exact ih1 _ _ _ _ _ _ _ _ _ _)
   | (with_reducible exact ih2 _ _ _ _ _ _ _ _ _ _ _ _ _ _)
   | (with_reducible exact slices_Contains_int_int.mono _ _ _)
   | (with_reducible exact LeO.refl _)
   | (with_reducible exact LeO.none _)
   | (with_reducible refine LeO.ite ?_ ?_)
   | (with_reducible refine LeO.bind ?_ (fun _ => ?_))
   | exact ih0 _ _ _ _ _ _
   | exact ih1 _ _ _ _ _ _ _ _ _ _
   | exact ih2 _ _ _ _ _ _ _ _ _ _ _ _ _ _
   | exact slices_Contains_int_int.mono _ _ _
   | exact LeO.none _
   | refine LeO.ite ?_ ?_
   | refine LeO.bind ?_ (fun _ => ?_)
set_option maxHeartbeats 8000000 in
set_option maxRecDepth 100000 in
theorem impl_guardGame_resist.calls (k : Nat) (g : Nat) (s0_0 : Int) (s0_1 : List (List Int)) (s0_2 : List (List Int)) (r1 : List Int) (r2 : Int) (w0 w : World) (hI : IsS89 w0 w g s0_0 s0_1 s0_2) (hB : Below w0.heap.size w0 w) (h : impl_guardGame_resist.f k s0_0 s0_1 s0_2 = some (r1, r2)) :
  Calls Tryd.prog 67 #[.pointer (some ⟨g, 0, none⟩)] w fun e w' => ∃ v0_ : Value, e = .returned (v0_) ∧ Kd.R (Kd.int .i64) 3 w' w.heap.size (fun _ => True) v0_ r1 ∧ IsS89 w0 w' g r2 s0_1 s0_2 ∧ Below w0.heap.size w0 w' ∧ KeepBut w w' g none := by
 have hu62 := Tryd.underlying62
 have HI0 := Aside0.mk hI
 have HK := Aside0.mk (KeepBut.refl w g none)
 have HL := Aside0.mk hB.size
 clear hI
 have HW0 := Aside0.mk hB.size
 have HB := Aside0.mk hB
 clear hB
 have H : ((slices_Repeat_int_int.f (([(-1)] : List Int)) (s0_1.length : Int)).bind fun t601 => (impl_guardGame_resist.l0 k t601 0 true s0_0 s0_1 s0_2)) = some (r1, r2) := h
 clear h
 obtain ⟨y598, hy598⟩ : ∃ y_ : List Int, y_ = (([(-1)] : List Int)) := ⟨_, rfl⟩
 replace H : ((slices_Repeat_int_int.f y598 (s0_1.length : Int)).bind fun t601 => (impl_guardGame_resist.l0 k t601 0 true s0_0 s0_1 s0_2)) = some (r1, r2) := by first | (rw [hy598];with_reducible exact H) | (have H2_ := (Option.bind_some _ _).symm.trans H;rw [hy598];with_reducible exact H2_) | (have H2_ := (Option.bind_some _ _).symm.trans H;with_reducible exact H2_) | with_reducible exact H | (rw [hy598];exact H) | exact H
 have Ny598 := Aside0.mk hy598
 clear hy598
 replace H := Option.bind_eq_some_iff.mp H
 obtain ⟨t601, A20, H⟩ := H
 replace H : (impl_guardGame_resist.l0 k t601 0 true s0_0 s0_1 s0_2) = some (r1, r2) := H
 have A2 := Aside0.mk A20
 clear A20
 have H' := Aside0.mk H
 clear H
 go_enter Tryd.func67, Tryd.ntmps67
 go_wp2_with (first | ((with_reducible refine gate_dst (N := 10) rfl ?_);refine Kd.R_lit (Kd.int .i64) _ 3 ?hg (N := 10) ?hd (xs := ([(-1)] : List Int)) (inner := [.int .i64 (-1)]) (ok := fun _ => True) (okp := fun _ => True) ?hr ?hp (fun _ hk => hk) trivial (Below.refl _ _) (Nat.le_refl _) (by simp) ?_;(case hd => rfl);(case hg => rfl);(case hr => first | (go_simp;done) | (go_simp;rfl));(case hp => exact (Reps.one (show Kd.M (Kd.int .i64) _ _ _ (-1) [.int .i64 (-1)] from rfl) (Reps.none _ _)));intro v599 w3 ho4 hb hg_ hnew_;clear hg_ hnew_;(first | rw [← Ny598.out] at ho4 | (simp only [Int.reduceToNat] at ho4;rw [← Ny598.out] at ho4));have n0_ := Aside0.mk (Kd.R_lower ho4 (keep_size (w := w) (g := g) (row := none) (by exact kK)));have n1_ := Aside0.mk (IsS89.below (by repeat (first | (with_reducible first | exact HI0.out | apply IsS89.alloc | apply IsS89.drewN | apply IsS89.drew | apply IsS89.set_0) | exact HI0.out)) hb);have n2_ := Aside0.mk (KeepBut.trans (by exact kK) (KeepBut.of_below hb g none) (.inl rfl));have n3_ := Aside0.mk (below_step (by exact bB) hb);clear HI0;clear HK;clear HB;have HO600 := n0_;have HI0 := n1_;have HK := n2_;have HB := n3_;clear n0_ n1_ n2_ n3_;clear hb ho4;obtain ⟨ASz5_1, cSz5_1, ASz5_2, cSz5_2, HGz5, hgz5, HSz5_1, HSz5_2⟩ := HI0.out;have hcz5_0 := cellS89_0 HGz5;have hcz5_1 := cellS89_1 HGz5;have hcz5_2 := cellS89_2 HGz5;have hfz5_0 := blk_frozen HGz5 0;clear HGz5 hgz5;obtain ⟨Ao6, co6, eo6⟩ := Kd.R_slice HO600.out;subst eo6) | ((with_reducible refine gate_callee (f := 102) rfl ?_);refine goesL_ (some 16) rfl rfl Tryd.func102 (by kernel_rfl) rfl #[.slice Ao6 y598.length co6, .int .i64 (s0_1.length : Int)] rfl mM ?_;(with_reducible refine (slices_Repeat_int_int.calls _ _ y598 (s0_1.length : Int) t601 _ ?side1 ?side2 A2.out).mono ?_);(case side1 => exact cP (Kd.R_reads' HO600.out).2.2);(case side2 => exact (Kd.R_reads' HO600.out).2.1);rintro e w7 ⟨v602, rfl, ho0, hb⟩;refine ⟨_, rfl, ?_⟩;have n0_ := Aside0.mk (Kd.R_elder' (by exact rP HO600.out) (Kd.R_base ho0) hb);have n1_ := Aside0.mk (Kd.R_lower (Kd.R_new' ho0 (Kd.R_lt (by exact rP HO600.out))) (keep_size (w := w) (g := g) (row := none) (by exact kK)));have n2_ := Aside0.mk (IsS89.below (by repeat (first | (with_reducible first | exact HI0.out | apply IsS89.alloc | apply IsS89.drewN | apply IsS89.drew | apply IsS89.set_0) | exact HI0.out)) hb);have n3_ := Aside0.mk (KeepBut.trans (by exact kK) (KeepBut.of_below hb g none) (.inl rfl));have n4_ := Aside0.mk (below_step (by exact bB) hb);clear HO600;clear HI0;clear HK;clear HB;have HO600 := n0_;have HO603 := n1_;have HI0 := n2_;have HK := n3_;have HB := n4_;clear n0_ n1_ n2_ n3_ n4_;(try clear hb);(try clear hb2);(try clear hk);(try clear hi);(try clear ho0)))
 go_loopg [4, 5] k (fun kq v4 v5 w' => ∃ (x3_1 : List Int) (x4_1 : Int) (x5_1 : Bool) (x1000_1 : Int), v4 = .int .i64 x4_1 ∧ v5 = .bool x5_1 ∧ Aside0 (impl_guardGame_resist.l0 kq x3_1 x4_1 x5_1 x1000_1 s0_1 s0_2 = some (r1, r2)) ∧ Aside0 (kq ≤ k) ∧ Aside0 (Kd.R (Kd.int .i64) 3 w' w.heap.size (fun _ => True) v602 x3_1) ∧ Aside0 (IsS89 w0 w' g x1000_1 s0_1 s0_2) ∧ Aside0 (KeepBut w w' g none) ∧ Aside0 (Below w0.heap.size w0 w'))
 case atStart => exact ⟨(t601), (0), (true), (s0_0), (by first | rfl | (simp;done) | (simp [*];done)), (by first | rfl | (simp;done) | (simp [*];done)), H', ⟨Nat.le_refl _⟩, ⟨by refine rP ?_;exact Kd.R_mono HO603.out (fun _ hk => trivial)⟩, ⟨by exact sS⟩, ⟨by exact kK⟩, ⟨by exact bB⟩⟩
 case round =>
  clear H'
  try clear c1
  try clear p2
  try clear c6
  try clear hcz5_0
  try clear hcz5_1
  try clear hcz5_2
  try clear hfz5_0
  obtain ⟨x3_1, x4_1, x5_1, x1000_1, rfl, rfl, HA, HK1, HO_3, HI0, HK, HB⟩ := hrel
  cases gk with
  | zero => exact absurd HA.out (by simp [impl_guardGame_resist.l0])
  | succ k1 =>
   have H := HA.out
   clear HA
   simp only [impl_guardGame_resist.l0] at H
   by_cases c8 : x5_1 = true
   ·subst c8
    have H1 : ((slices_Clone_int_int.f x3_1).bind fun t604 => (impl_guardGame_resist.l1 k1 x3_1 x4_1 false s0_1 (s0_1.length : Int) 0 x1000_1 s0_1 s0_2 t604)) = some (r1, r2) := by rw [if_pos rfl] at H;exact H
    clear H
    have H := H1
    clear H1
    replace H := Option.bind_eq_some_iff.mp H
    obtain ⟨t604, A90, H⟩ := H
    replace H : (impl_guardGame_resist.l1 k1 x3_1 x4_1 false s0_1 (s0_1.length : Int) 0 x1000_1 s0_1 s0_2 t604) = some (r1, r2) := H
    have A9 := Aside0.mk A90
    clear A90
    have H' := Aside0.mk H
    clear H
    obtain ⟨Ao10, co10, eo10⟩ := Kd.R_slice HO_3.out
    subst eo10
    go_wp2_with (first | ((with_reducible refine gate_callee (f := 76) rfl ?_);refine goesL_ (some 21) rfl rfl Tryd.func76 (by kernel_rfl) rfl #[.slice Ao10 x3_1.length co10] rfl mM ?_;(with_reducible refine (slices_Clone_int_int.calls _ _ x3_1 t604 _ ?side1 ?side2 A9.out).mono ?_);(case side1 => exact cP (Kd.R_reads' HO_3.out).2.2);(case side2 => exact (Kd.R_reads' HO_3.out).2.1);rintro e w11 ⟨v605, rfl, ho0, hb⟩;refine ⟨_, rfl, ?_⟩;have n0_ := Aside0.mk (Kd.R_elder' (by exact rP HO_3.out) (Kd.R_base ho0) hb);have n1_ := Aside0.mk (Kd.R_lower (Kd.R_new' ho0 (Kd.R_lt (by exact rP HO_3.out))) (keep_size (w := w) (g := g) (row := none) (by exact kK)));have n2_ := Aside0.mk (IsS89.below (by repeat (first | (with_reducible first | exact HI0.out | apply IsS89.alloc | apply IsS89.drewN | apply IsS89.drew | apply IsS89.set_0) | exact HI0.out)) hb);have n3_ := Aside0.mk (KeepBut.trans (by exact kK) (KeepBut.of_below hb g none) (.inl rfl));have n4_ := Aside0.mk (below_step (by exact bB) hb);clear HO_3;clear HI0;clear HK;clear HB;have HO_3 := n0_;have HO606 := n1_;have HI0 := n2_;have HK := n3_;have HB := n4_;clear n0_ n1_ n2_ n3_ n4_;(try clear hb);(try clear hb2);(try clear hk);(try clear hi);(try clear ho0)) | ((with_reducible refine gate_dst (N := 6) rfl ?_);refine box_event ?hg (N := 6) ?hd (cs := #[.slice none 0 0]) (t := 32) ?hr ?_;(case hd => rfl);(case hg => rfl);(case hr => first | (go_simp;done) | (go_simp;rfl));intro gb607 hg w12 hbox hb;have n0_ := Aside0.mk (Kd.R_below (by exact rP HO_3.out) hb);have n1_ := Aside0.mk (Kd.R_below (by exact rP HO606.out) hb);have n2_ := Aside0.mk (IsS89.below (by repeat (first | (with_reducible first | exact HI0.out | apply IsS89.alloc | apply IsS89.drewN | apply IsS89.drew | apply IsS89.set_0) | exact HI0.out)) hb);have n3_ := Aside0.mk (KeepBut.trans (by exact kK) (KeepBut.of_below hb g none) (.inl rfl));have n4_ := Aside0.mk (below_step (by exact bB) hb);have n5_ := Aside0.mk (hbox);have n6_ := Aside0.mk ((by rw [hg];exact (keep_size (w := w) (g := g) (row := none) (by exact kK)) : w.heap.size ≤ gb607));have n7_ := Aside0.mk ((Nat.le_trans HW0.out (by rw [hg];exact (keep_size (w := w) (g := g) (row := none) (by exact kK)) : w.heap.size ≤ gb607) : w0.heap.size ≤ gb607));have n8_ := Aside0.mk ((by rw [hg];exact Nat.ne_of_lt (IsS89.lt (show IsS89 w0 _ g x1000_1 s0_1 s0_2 from by exact sS)) : g ≠ gb607));have n9_ := Aside0.mk ((by rw [hg];exact Nat.ne_of_gt (IsS89.lt (show IsS89 w0 _ g x1000_1 s0_1 s0_2 from by exact sS)) : gb607 ≠ g));clear HO_3;clear HO606;clear HI0;clear HK;clear HB;have HO_3 := n0_;have HO606 := n1_;have HI0 := n2_;have HK := n3_;have HB := n4_;have BK607 := n5_;have GW607 := n6_;have GE607 := n7_;have NB0_607 := n8_;have NB607_0 := n9_;clear n0_ n1_ n2_ n3_ n4_ n5_ n6_ n7_ n8_ n9_;clear hb hbox hg;obtain ⟨Ao13, co13, eo13⟩ := Kd.R_slice HO606.out;subst eo13;have hnb14 := NB607_0.out;have hnc14 := NB0_607.out;have hcz15_0 : w12.cell? ⟨gb607, 0, none⟩ = some (.slice none 0 0) := (blk_cell BK607.out 0).trans rfl;have hfz15_0 := blk_frozen BK607.out 0;obtain ⟨ASz16_1, cSz16_1, ASz16_2, cSz16_2, HGz16, hgz16, HSz16_1, HSz16_2⟩ := HI0.out;have hcz16_0 := cellS89_0 HGz16;have hcz16_1 := cellS89_1 HGz16;have hcz16_2 := cellS89_2 HGz16;have hfz16_0 := blk_frozen HGz16 0;clear HGz16 hgz16))
    go_loopg [5, 27] k1 (fun kq v5 v27 w' => ∃ (x3_2 : List Int) (x5_2 : Bool) (x27_2 : Int) (x1000_2 : Int), v5 = .bool x5_2 ∧ v27 = .int .i64 x27_2 ∧ Aside0 (impl_guardGame_resist.l1 kq x3_2 x4_1 x5_2 s0_1 (s0_1.length : Int) x27_2 x1000_2 s0_1 s0_2 t604 = some (r1, r2)) ∧ Aside0 (kq ≤ k1) ∧ Aside0 (Kd.R (Kd.int .i64) 3 w' w.heap.size (fun k_ => some k_ ≠ ((.slice Ao13 t604.length co13) : Value).ownBlock) (.slice Ao10 x3_1.length co10) x3_2) ∧ Aside0 (Kd.R (Kd.int .i64) 3 w' w.heap.size (fun k_ => some k_ ≠ ((.slice Ao10 x3_1.length co10) : Value).ownBlock) (.slice Ao13 t604.length co13) t604) ∧ Aside0 (w'.heap[gb607]? = some (.cells #[(.slice Ao13 t604.length co13)] 32 (0, 0))) ∧ Aside0 (IsS89 w0 w' g x1000_2 s0_1 s0_2) ∧ Aside0 (KeepBut w w' g none) ∧ Aside0 (Below w0.heap.size w0 w'))
    case atStart => exact ⟨(x3_1), (false), (0), (x1000_1), (by first | rfl | (simp;done) | (simp [*];done)), (by first | rfl | (simp;done) | (simp [*];done)), H', ⟨Nat.le_refl _⟩, ⟨by refine rP ?_;exact Kd.R_mono (Kd.R_far (p := ⟨gb607, 0, none⟩) (Kd.R_types HO_3.out BK607.out (by decide)) (fun _ hk => hk.2) (.slice Ao13 t604.length co13)) (fun _ hk => hk.1.2)⟩, ⟨by refine rP ?_;exact Kd.R_mono (Kd.R_far (p := ⟨gb607, 0, none⟩) (Kd.R_types HO606.out BK607.out (by decide)) (fun _ hk => hk.2) (.slice Ao13 t604.length co13)) (fun _ hk => hk.1.2)⟩, ⟨by refine kP ?_;refine blk_put (cs := #[.slice none 0 0]) ?_ 0 _ rfl;exact kP BK607.out⟩, ⟨by exact sS⟩, ⟨by exact kK⟩, ⟨by exact bB⟩⟩
    case round =>
     clear H'
     try clear c1
     try clear p2
     try clear c6
     try clear c7
     try clear c8
     try clear c10
     try clear c14
     try clear hcz15_0
     try clear hcz16_0
     try clear hcz16_1
     try clear hcz16_2
     try clear hcz5_0
     try clear hcz5_1
     try clear hcz5_2
     try clear hfz15_0
     try clear hfz16_0
     try clear hfz5_0
     try clear p2
     obtain ⟨x3_2, x5_2, x27_2, x1000_2, rfl, rfl, HA, HK2, HO_3, HO_608000, BK607, HI0, HK, HB⟩ := hrel
     have hl3_2 := (Kd.R_reads' HO_3.out).1
     rw [hl3_2] at HO_3
     (try simp only [hl3_2])
     (try simp only [hl3_2] at BK607)
     (try simp only [hl3_2] at HO_608000)
     cases gk with
     | zero => exact absurd HA.out (by simp [impl_guardGame_resist.l1])
     | succ k2 =>
      have H := HA.out
      clear HA
      simp only [impl_guardGame_resist.l1] at H
      by_cases c17 : x27_2 < (s0_1.length : Int)
      ·rw [if_pos c17] at H
       have c17b0 : decide (x27_2 < (s0_1.length : Int)) = true := decide_eq_true c17
       clear c17
       by_cases c18 : 0 ≤ x27_2
       ·rw [if_pos c18] at H
        have c18b0 : decide (0 ≤ x27_2) = true := decide_eq_true c18
        clear c18
        by_cases c19 : x27_2 < (s0_1.length : Int)
        ·rw [if_pos c19] at H
         have c19b0 : decide (x27_2 < (s0_1.length : Int)) = true := decide_eq_true c19
         clear c19
         by_cases c20 : x27_2 < (t604.length : Int)
         ·rw [if_pos c20] at H
          have c20b0 : decide (x27_2 < (t604.length : Int)) = true := decide_eq_true c20
          clear c20
          by_cases c21 : (rd t604 x27_2) ≥ 0
          ·rw [if_pos c21] at H
           have c21b0 : decide (0 ≤ (rd t604 x27_2)) = true := decide_eq_true c21
           clear c21
           have H' := Aside0.mk H
           clear H
           obtain ⟨ASz22_1, cSz22_1, ASz22_2, cSz22_2, HGz22, hgz22, HSz22_1, HSz22_2⟩ := HI0.out
           have hcz22_0 := cellS89_0 HGz22
           have hcz22_1 := cellS89_1 HGz22
           have hcz22_2 := cellS89_2 HGz22
           have hfz22_0 := blk_frozen HGz22 0
           clear HGz22 hgz22
           have p608 : 0 ≤ (x27_2 : Int) := oA
           have q608 : x27_2 < (s0_1.length : Int) := oA
           obtain ⟨ad608, A608_0, c608_0, e608, hx608_0, hl608_0, hi608_0⟩ := at_L2 HSz16_1 x27_2 p608 q608
           cases e608
           replace hx608_0 := pw_cell_below HB.out hx608_0
           have HR608_0 := Aside0.mk hi608_0
           have HC608_0 := Aside0.mk hl608_0
           clear hi608_0 hl608_0
           replace p608 := eq_true p608
           replace q608 := eq_true q608
           have hnb23 := NB607_0.out
           have hnc23 := NB0_607.out
           have hcz24_0 : wr.cell? ⟨gb607, 0, none⟩ = some (.slice Ao13 t604.length co13) := (blk_cell BK607.out 0).trans rfl
           have hfz24_0 := blk_frozen BK607.out 0
           have p609 : 0 ≤ (x27_2 : Int) := oA
           have q609 : x27_2 < (t604.length : Int) := oA
           obtain ⟨ad609, e609, hx609_0⟩ := Kd.at_int (Kd.R_reads' HO_608000.out).2.2 x27_2 p609 q609
           cases e609
           replace p609 := eq_true p609
           replace q609 := eq_true q609
           go_wp2
           (try simp only [← hl3_2])
           go_roundg k2
           case measure => have := HK1.out;have := HK2.out;omega
           case rel => exact ⟨(x3_2), (x5_2), (wrap64 (x27_2 + 1)), (x1000_2), (by first | rfl | (simp;done) | (simp [*];done)), (by first | rfl | (simp;done) | (simp [*];done)), H', ⟨by have := HK1.out;have := HK2.out;omega⟩, ⟨by (try simp only [hl3_2]);exact rP HO_3.out⟩, ⟨by (try simp only [hl3_2]);exact rP HO_608000.out⟩, ⟨by (try simp only [hl3_2]);exact kP BK607.out⟩, ⟨by exact sS⟩, ⟨by exact kK⟩, ⟨by exact bB⟩⟩
          ·rw [if_neg c21] at H
           have c21b0 : decide (0 ≤ (rd t604 x27_2)) = false := decide_eq_false c21
           clear c21
           have H' := Aside0.mk H
           clear H
           obtain ⟨ASz25_1, cSz25_1, ASz25_2, cSz25_2, HGz25, hgz25, HSz25_1, HSz25_2⟩ := HI0.out
           have hcz25_0 := cellS89_0 HGz25
           have hcz25_1 := cellS89_1 HGz25
           have hcz25_2 := cellS89_2 HGz25
           have hfz25_0 := blk_frozen HGz25 0
           clear HGz25 hgz25
           have p608 : 0 ≤ (x27_2 : Int) := oA
           have q608 : x27_2 < (s0_1.length : Int) := oA
           obtain ⟨ad608, A608_0, c608_0, e608, hx608_0, hl608_0, hi608_0⟩ := at_L2 HSz16_1 x27_2 p608 q608
           cases e608
           replace hx608_0 := pw_cell_below HB.out hx608_0
           have HR608_0 := Aside0.mk hi608_0
           have HC608_0 := Aside0.mk hl608_0
           clear hi608_0 hl608_0
           replace p608 := eq_true p608
           replace q608 := eq_true q608
           have hnb26 := NB607_0.out
           have hnc26 := NB0_607.out
           have hcz27_0 : wr.cell? ⟨gb607, 0, none⟩ = some (.slice Ao13 t604.length co13) := (blk_cell BK607.out 0).trans rfl
           have hfz27_0 := blk_frozen BK607.out 0
           have p609 : 0 ≤ (x27_2 : Int) := oA
           have q609 : x27_2 < (t604.length : Int) := oA
           obtain ⟨ad609, e609, hx609_0⟩ := Kd.at_int (Kd.R_reads' HO_608000.out).2.2 x27_2 p609 q609
           cases e609
           replace p609 := eq_true p609
           replace q609 := eq_true q609
           go_wp2
           go_loopg [5, 41] k2 (fun kq v5 v41 w' => ∃ (x3_3 : List Int) (x5_3 : Bool) (x41_3 : Int) (x1000_3 : Int), v5 = .bool x5_3 ∧ v41 = .int .i64 x41_3 ∧ Aside0 (impl_guardGame_resist.l2 kq x3_3 x4_1 x5_3 x27_2 (rd_L2 s0_1 x27_2) s0_1 (s0_1.length : Int) x27_2 x1000_2 x41_3 x1000_3 s0_1 s0_2 t604 = some (r1, r2)) ∧ Aside0 (kq ≤ k2) ∧ Aside0 (Kd.R (Kd.int .i64) 3 w' w.heap.size (fun k_ => some k_ ≠ ((.slice (some ad609) t604.length co13) : Value).ownBlock) (.slice Ao10 x3_2.length co10) x3_3) ∧ Aside0 (Kd.R (Kd.int .i64) 3 w' w.heap.size (fun k_ => some k_ ≠ ((.slice Ao10 x3_2.length co10) : Value).ownBlock) (.slice (some ad609) t604.length co13) t604) ∧ Aside0 (w'.heap[gb607]? = some (.cells #[(.slice (some ad609) t604.length co13)] 32 (0, 0))) ∧ Aside0 (IsS89 w0 w' g x1000_3 s0_1 s0_2) ∧ Aside0 (KeepBut w w' g none) ∧ Aside0 (Below w0.heap.size w0 w'))
           case atStart => exact ⟨(x3_2), (x5_2), (0), (x1000_2), (by first | rfl | (simp;done) | (simp [*];done)), (by first | rfl | (simp;done) | (simp [*];done)), H', ⟨Nat.le_refl _⟩, ⟨by (try simp only [hl3_2]);exact rP HO_3.out⟩, ⟨by (try simp only [hl3_2]);exact rP HO_608000.out⟩, ⟨by (try simp only [hl3_2]);exact kP BK607.out⟩, ⟨by exact sS⟩, ⟨by exact kK⟩, ⟨by exact bB⟩⟩
           case round =>
            clear H'
            try clear c1
            try clear c2
            try clear p2
            try clear c6
            try clear p6
            try clear q6
            try clear hx6
            try clear c7
            try clear c8
            try clear c10
            try clear c14
            try clear c17
            try clear c17b0
            try clear c18
            try clear c18b0
            try clear c19
            try clear c19b0
            try clear c20
            try clear c20b0
            try clear c21
            try clear c21b0
            try clear c23
            try clear c26
            try clear hcz15_0
            try clear hcz16_0
            try clear hcz16_1
            try clear hcz16_2
            try clear hcz22_0
            try clear hcz22_1
            try clear hcz22_2
            try clear hcz24_0
            try clear hcz25_0
            try clear hcz25_1
            try clear hcz25_2
            try clear hcz27_0
            try clear hcz5_0
            try clear hcz5_1
            try clear hcz5_2
            try clear hfz15_0
            try clear hfz16_0
            try clear hfz22_0
            try clear hfz24_0
            try clear hfz25_0
            try clear hfz27_0
            try clear hfz5_0
            try clear hx608_0
            try clear hx609_0
            try clear p2
            try clear p608
            try clear p609
            try clear q608
            try clear q609
            obtain ⟨x3_3, x5_3, x41_3, x1000_3, rfl, rfl, HA, HK3, HO_3, HO_608000, BK607, HI0, HK, HB⟩ := hrel
            have hl3_3 := (Kd.R_reads' HO_3.out).1
            rw [hl3_3] at HO_3
            (try simp only [hl3_3])
            (try simp only [hl3_3] at BK607)
            (try simp only [hl3_3] at HO_608000)
            cases gk with
            | zero => exact absurd HA.out (by simp [impl_guardGame_resist.l2])
            | succ k3 =>
             have H := HA.out
             clear HA
             simp only [impl_guardGame_resist.l2] at H
             by_cases c28 : x41_3 < x1000_2
             ·rw [if_pos c28] at H
              have c28b0 : decide (x41_3 < x1000_2) = true := decide_eq_true c28
              clear c28
              replace H := Option.bind_eq_some_iff.mp H
              obtain ⟨t610, A290, H⟩ := H
              replace H : (if t610 = true then (impl_guardGame_resist.l2 k3 x3_3 x4_1 x5_3 x27_2 (rd_L2 s0_1 x27_2) s0_1 (s0_1.length : Int) x27_2 x1000_2 (wrap64 (x41_3 + 1)) x1000_3 s0_1 s0_2 t604) else ((impl_guardGame_answers.f x1000_3 s0_1 s0_2 x27_2 x41_3).bind fun bt611 => ((hasNeg t604 bt611.1).bind fun t615 => (if t615 = true then (impl_guardGame_resist.l2 k3 x3_3 x4_1 x5_3 x27_2 (rd_L2 s0_1 x27_2) s0_1 (s0_1.length : Int) x27_2 x1000_2 (wrap64 (x41_3 + 1)) bt611.2 s0_1 s0_2 t604) else (if 0 ≤ x27_2 then (if x27_2 < (x3_3.length : Int) then (impl_guardGame_resist.l1 k3 (x3_3.set (x27_2 : Int).toNat x4_1) x4_1 true s0_1 (s0_1.length : Int) (wrap64 (x27_2 + 1)) bt611.2 s0_1 s0_2 t604) else (none)) else (none)))))) = some (r1, r2) := H
              have A29 := Aside0.mk A290
              clear A290
              by_cases c30 : t610 = true
              ·subst c30
               have H1 : (impl_guardGame_resist.l2 k3 x3_3 x4_1 x5_3 x27_2 (rd_L2 s0_1 x27_2) s0_1 (s0_1.length : Int) x27_2 x1000_2 (wrap64 (x41_3 + 1)) x1000_3 s0_1 s0_2 t604) = some (r1, r2) := by rw [if_pos rfl] at H;exact H
               clear H
               have H := H1
               clear H1
               have H' := Aside0.mk H
               clear H
               go_wp2_with (first | ((with_reducible refine gate_callee (f := 65) rfl ?_);refine goesL_ (some 46) rfl rfl Tryd.func65 (by kernel_rfl) rfl #[.slice A608_0 (rd_L2 s0_1 x27_2).length c608_0, .int .i64 x41_3] rfl mM ?_;(with_reducible refine (slices_Contains_int_int.calls k3 _ _ (rd_L2 s0_1 x27_2) x41_3 true _ ?side1 ?side2 A29.out).mono ?_);(case side1 => exact cP (Kd.C_below HR608_0.out HB.out));(case side2 => exact HC608_0.out);rintro e w' ⟨rfl, ⟨nd, rfl⟩⟩;refine ⟨_, rfl, ?_⟩))
               (try simp only [← hl3_3])
               go_roundg k3
               case measure => have := HK1.out;have := HK2.out;have := HK3.out;omega
               case rel => exact ⟨(x3_3), (x5_3), (wrap64 (x41_3 + 1)), (x1000_3), (by first | rfl | (simp;done) | (simp [*];done)), (by first | rfl | (simp;done) | (simp [*];done)), H', ⟨by have := HK1.out;have := HK2.out;have := HK3.out;omega⟩, ⟨by (try simp only [hl3_2]);(try simp only [hl3_3]);exact rP HO_3.out⟩, ⟨by (try simp only [hl3_2]);(try simp only [hl3_3]);exact rP HO_608000.out⟩, ⟨by (try simp only [hl3_2]);(try simp only [hl3_3]);exact kP BK607.out⟩, ⟨by exact sS⟩, ⟨by exact kK⟩, ⟨by exact bB⟩⟩
              ·replace c30 := Bool.eq_false_iff.mpr c30
               subst c30
               have H1 : ((impl_guardGame_answers.f x1000_3 s0_1 s0_2 x27_2 x41_3).bind fun bt611 => ((hasNeg t604 bt611.1).bind fun t615 => (if t615 = true then (impl_guardGame_resist.l2 k3 x3_3 x4_1 x5_3 x27_2 (rd_L2 s0_1 x27_2) s0_1 (s0_1.length : Int) x27_2 x1000_2 (wrap64 (x41_3 + 1)) bt611.2 s0_1 s0_2 t604) else (if 0 ≤ x27_2 then (if x27_2 < (x3_3.length : Int) then (impl_guardGame_resist.l1 k3 (x3_3.set (x27_2 : Int).toNat x4_1) x4_1 true s0_1 (s0_1.length : Int) (wrap64 (x27_2 + 1)) bt611.2 s0_1 s0_2 t604) else (none)) else (none))))) = some (r1, r2) := by rw [if_neg (show ¬ (false = true) by decide)] at H;exact H
               clear H
               have H := H1
               clear H1
               replace H := Option.bind_eq_some_iff.mp H
               obtain ⟨⟨t611, t614⟩, A310, H⟩ := H
               replace H : ((hasNeg t604 t611).bind fun t615 => (if t615 = true then (impl_guardGame_resist.l2 k3 x3_3 x4_1 x5_3 x27_2 (rd_L2 s0_1 x27_2) s0_1 (s0_1.length : Int) x27_2 x1000_2 (wrap64 (x41_3 + 1)) t614 s0_1 s0_2 t604) else (if 0 ≤ x27_2 then (if x27_2 < (x3_3.length : Int) then (impl_guardGame_resist.l1 k3 (x3_3.set (x27_2 : Int).toNat x4_1) x4_1 true s0_1 (s0_1.length : Int) (wrap64 (x27_2 + 1)) t614 s0_1 s0_2 t604) else (none)) else (none)))) = some (r1, r2) := H
               have A31 := Aside0.mk A310
               clear A310
               replace H := Option.bind_eq_some_iff.mp H
               obtain ⟨t615, A320, H⟩ := H
               replace H : (if t615 = true then (impl_guardGame_resist.l2 k3 x3_3 x4_1 x5_3 x27_2 (rd_L2 s0_1 x27_2) s0_1 (s0_1.length : Int) x27_2 x1000_2 (wrap64 (x41_3 + 1)) t614 s0_1 s0_2 t604) else (if 0 ≤ x27_2 then (if x27_2 < (x3_3.length : Int) then (impl_guardGame_resist.l1 k3 (x3_3.set (x27_2 : Int).toNat x4_1) x4_1 true s0_1 (s0_1.length : Int) (wrap64 (x27_2 + 1)) t614 s0_1 s0_2 t604) else (none)) else (none))) = some (r1, r2) := H
               have A32 := Aside0.mk A320
               clear A320
               by_cases c33 : t615 = true
               ·subst c33
                have H1 : (impl_guardGame_resist.l2 k3 x3_3 x4_1 x5_3 x27_2 (rd_L2 s0_1 x27_2) s0_1 (s0_1.length : Int) x27_2 x1000_2 (wrap64 (x41_3 + 1)) t614 s0_1 s0_2 t604) = some (r1, r2) := by rw [if_pos rfl] at H;exact H
                clear H
                have H := H1
                clear H1
                have H' := Aside0.mk H
                clear H
                go_wp2_with (first | ((with_reducible refine gate_callee (f := 65) rfl ?_);refine goesL_ (some 46) rfl rfl Tryd.func65 (by kernel_rfl) rfl #[.slice A608_0 (rd_L2 s0_1 x27_2).length c608_0, .int .i64 x41_3] rfl mM ?_;(with_reducible refine (slices_Contains_int_int.calls k3 _ _ (rd_L2 s0_1 x27_2) x41_3 false _ ?side1 ?side2 A29.out).mono ?_);(case side1 => exact cP (Kd.C_below HR608_0.out HB.out));(case side2 => exact HC608_0.out);rintro e w' ⟨rfl, ⟨nd, rfl⟩⟩;refine ⟨_, rfl, ?_⟩) | (go_at_call 74;(with_reducible refine (impl_guardGame_answers.calls g x1000_3 s0_1 s0_2 x27_2 x41_3 t611 t614 w0 _ ?side1 ?side2 A31.out).mono ?_);(case side1 => exact sS);(case side2 => exact bB);rintro e w34 ⟨v612, rfl, ho0, hi, hb, hk⟩;have n0_ := Aside0.mk (Kd.R_mono (Kd.R_told (Kd.R_oldK (IsS89.apart (show IsS89 w0 _ g x1000_3 s0_1 s0_2 from by exact sS) (by exact rP HO_3.out) (by decide)) hk) (Kd.R_base ho0)) (fun _ h_ => h_.1));have n1_ := Aside0.mk (Kd.R_mono (Kd.R_told (Kd.R_oldK (IsS89.apart (show IsS89 w0 _ g x1000_3 s0_1 s0_2 from by exact sS) (by exact rP HO_608000.out) (by decide)) hk) (Kd.R_base ho0)) (fun _ h_ => h_.1));have n2_ := Aside0.mk (KeepBut.blk hk (g' := gb607) (o := .cells #[.slice (some ad609) t604.length co13] 32 (0, 0)) (by exact kP BK607.out) NB607_0.out (by simp));have n3_ := Aside0.mk (Kd.R_lower (Kd.R_new' (Kd.R_new' ho0 (Kd.R_lt (by exact rP HO_3.out))) (Kd.R_lt (by exact rP HO_608000.out))) (keep_size (w := w) (g := g) (row := none) (by exact kK)));have n4_ := Aside0.mk (KeepBut.trans (by exact kK) hk (.inl rfl));have n5_ := Aside0.mk (hb);have n6_ := Aside0.mk (hi);clear HO_3;clear HO_608000;clear BK607;clear HK;clear HB;clear HI0;have HO_3 := n0_;have HO_608000 := n1_;have BK607 := n2_;have HO613 := n3_;have HK := n4_;have HB := n5_;have HI0 := n6_;clear n0_ n1_ n2_ n3_ n4_ n5_ n6_;(try clear hb);(try clear hb2);(try clear hk);(try clear hi);(try clear ho0);obtain ⟨Ao35, co35, eo35⟩ := Kd.R_slice HO613.out;subst eo35) | (go_at_call 109;obtain ⟨hv_, hw_⟩ := hasNeg_use A32.out;refine (containsFunc_calls 110 _ (enters_of Tryd.func110 (by kernel_rfl) rfl) (fun x => decide (rd t604 x < 0)) _ _ t611 _ ?side1 ?side2).mono ?_;(case side1 => exact cP (Kd.R_reads' HO613.out).2.2);(case side2 => intro x hx W_ hb_;exact neg_fn gb607 (some ad609) co13 t604 x W_ (stop_at hb_ ((blk_cell BK607.out 0).trans rfl)) (Kd.C_below (Kd.R_reads' HO_608000.out).2.2 hb_) (hv_ x hx).1 (hv_ x hx).2);rintro e w' ⟨he_, ⟨nd, rfl⟩⟩;rw [hw_] at he_;subst he_))
                (try simp only [← hl3_3])
                go_roundg k3
                case measure => have := HK1.out;have := HK2.out;have := HK3.out;omega
                case rel => exact ⟨(x3_3), (x5_3), (wrap64 (x41_3 + 1)), (t614), (by first | rfl | (simp;done) | (simp [*];done)), (by first | rfl | (simp;done) | (simp [*];done)), H', ⟨by have := HK1.out;have := HK2.out;have := HK3.out;omega⟩, ⟨by (try simp only [hl3_2]);(try simp only [hl3_3]);refine rP ?_;exact Kd.R_mono HO_3.out (fun _ hk => hk.1)⟩, ⟨by (try simp only [hl3_2]);(try simp only [hl3_3]);refine rP ?_;exact Kd.R_mono HO_608000.out (fun _ hk => hk.1)⟩, ⟨by (try simp only [hl3_2]);(try simp only [hl3_3]);exact kP BK607.out⟩, ⟨by exact sS⟩, ⟨by exact kK⟩, ⟨by exact bB⟩⟩
               ·replace c33 := Bool.eq_false_iff.mpr c33
                subst c33
                have H1 : (if 0 ≤ x27_2 then (if x27_2 < (x3_3.length : Int) then (impl_guardGame_resist.l1 k3 (x3_3.set (x27_2 : Int).toNat x4_1) x4_1 true s0_1 (s0_1.length : Int) (wrap64 (x27_2 + 1)) t614 s0_1 s0_2 t604) else (none)) else (none)) = some (r1, r2) := by rw [if_neg (show ¬ (false = true) by decide)] at H;exact H
                clear H
                have H := H1
                clear H1
                by_cases c36 : 0 ≤ x27_2
                ·rw [if_pos c36] at H
                 have c36b0 : decide (0 ≤ x27_2) = true := decide_eq_true c36
                 clear c36
                 by_cases c37 : x27_2 < (x3_3.length : Int)
                 ·rw [if_pos c37] at H
                  have c37b0 : decide (x27_2 < (x3_3.length : Int)) = true := decide_eq_true c37
                  clear c37
                  obtain ⟨y616, hy616⟩ : ∃ y_ : List Int, y_ = (x3_3.set (x27_2 : Int).toNat x4_1) := ⟨_, rfl⟩
                  replace H : (impl_guardGame_resist.l1 k3 y616 x4_1 true s0_1 (s0_1.length : Int) (wrap64 (x27_2 + 1)) t614 s0_1 s0_2 t604) = some (r1, r2) := by first | (rw [hy616];with_reducible exact H) | (have H2_ := (Option.bind_some _ _).symm.trans H;rw [hy616];with_reducible exact H2_) | (have H2_ := (Option.bind_some _ _).symm.trans H;with_reducible exact H2_) | with_reducible exact H | (rw [hy616];exact H) | exact H
                  have Ny616 := Aside0.mk hy616
                  clear hy616
                  have H' := Aside0.mk H
                  clear H
                  go_wp2_with (first | ((with_reducible refine gate_callee (f := 65) rfl ?_);refine goesL_ (some 46) rfl rfl Tryd.func65 (by kernel_rfl) rfl #[.slice A608_0 (rd_L2 s0_1 x27_2).length c608_0, .int .i64 x41_3] rfl mM ?_;(with_reducible refine (slices_Contains_int_int.calls k3 _ _ (rd_L2 s0_1 x27_2) x41_3 false _ ?side1 ?side2 A29.out).mono ?_);(case side1 => exact cP (Kd.C_below HR608_0.out HB.out));(case side2 => exact HC608_0.out);rintro e w' ⟨rfl, ⟨nd, rfl⟩⟩;refine ⟨_, rfl, ?_⟩;(try (rw [drewN_self wr];generalize hq_ : World.drewN wr _ = wr;have n0_ : Aside0 (Kd.R (Kd.int .i64) 3 wr w.heap.size (fun k_ => some k_ ≠ (.slice (some ad609) t604.length co13 : Value).ownBlock) (.slice Ao10 x3_3.length co10) x3_3) := ⟨by rw [← hq_];exact (by exact rP HO_3.out)⟩;have n1_ : Aside0 (Kd.R (Kd.int .i64) 3 wr w.heap.size (fun k_ => some k_ ≠ (.slice Ao10 x3_3.length co10 : Value).ownBlock) (.slice (some ad609) t604.length co13) t604) := ⟨by rw [← hq_];exact (by exact rP HO_608000.out)⟩;have n2_ : Aside0 (wr.heap[gb607]? = some (.cells #[.slice (some ad609) t604.length co13] 32 (0, 0))) := ⟨by rw [← hq_];exact (by exact kP BK607.out)⟩;have n3_ : Aside0 (IsS89 w0 wr g x1000_3 s0_1 s0_2) := ⟨by rw [← hq_];exact (by exact sS)⟩;have n4_ : Aside0 (KeepBut w wr g none) := ⟨by rw [← hq_];exact (by exact kK)⟩;have n5_ : Aside0 (Below w0.heap.size w0 wr) := ⟨by rw [← hq_];exact (by exact bB)⟩;clear HO_3 HO_608000 BK607 HI0 HK HB hq_;have HO_3 := n0_;have HO_608000 := n1_;have BK607 := n2_;have HI0 := n3_;have HK := n4_;have HB := n5_;clear n0_ n1_ n2_ n3_ n4_ n5_))) | (go_at_call 74;(with_reducible refine (impl_guardGame_answers.calls g x1000_3 s0_1 s0_2 x27_2 x41_3 t611 t614 w0 _ ?side1 ?side2 A31.out).mono ?_);(case side1 => exact sS);(case side2 => exact bB);rintro e w39 ⟨v612, rfl, ho0, hi, hb, hk⟩;have n0_ := Aside0.mk (Kd.R_mono (Kd.R_told (Kd.R_oldK (IsS89.apart (show IsS89 w0 _ g x1000_3 s0_1 s0_2 from by exact sS) (by exact rP HO_3.out) (by decide)) hk) (Kd.R_base ho0)) (fun _ h_ => h_.1));have n1_ := Aside0.mk (Kd.R_mono (Kd.R_told (Kd.R_oldK (IsS89.apart (show IsS89 w0 _ g x1000_3 s0_1 s0_2 from by exact sS) (by exact rP HO_608000.out) (by decide)) hk) (Kd.R_base ho0)) (fun _ h_ => h_.1));have n2_ := Aside0.mk (KeepBut.blk hk (g' := gb607) (o := .cells #[.slice (some ad609) t604.length co13] 32 (0, 0)) (by exact kP BK607.out) NB607_0.out (by simp));have n3_ := Aside0.mk (Kd.R_lower (Kd.R_new' (Kd.R_new' ho0 (Kd.R_lt (by exact rP HO_3.out))) (Kd.R_lt (by exact rP HO_608000.out))) (keep_size (w := w) (g := g) (row := none) (by exact kK)));have n4_ := Aside0.mk (KeepBut.trans (by exact kK) hk (.inl rfl));have n5_ := Aside0.mk (hb);have n6_ := Aside0.mk (hi);clear HO_3;clear HO_608000;clear BK607;clear HK;clear HB;clear HI0;have HO_3 := n0_;have HO_608000 := n1_;have BK607 := n2_;have HO613 := n3_;have HK := n4_;have HB := n5_;have HI0 := n6_;clear n0_ n1_ n2_ n3_ n4_ n5_ n6_;(try clear hb);(try clear hb2);(try clear hk);(try clear hi);(try clear ho0);obtain ⟨Ao40, co40, eo40⟩ := Kd.R_slice HO613.out;subst eo40) | (go_at_call 109;obtain ⟨hv_, hw_⟩ := hasNeg_use A32.out;refine (containsFunc_calls 110 _ (enters_of Tryd.func110 (by kernel_rfl) rfl) (fun x => decide (rd t604 x < 0)) _ _ t611 _ ?side1 ?side2).mono ?_;(case side1 => exact cP (Kd.R_reads' HO613.out).2.2);(case side2 => intro x hx W_ hb_;exact neg_fn gb607 (some ad609) co13 t604 x W_ (stop_at hb_ ((blk_cell BK607.out 0).trans rfl)) (Kd.C_below (Kd.R_reads' HO_608000.out).2.2 hb_) (hv_ x hx).1 (hv_ x hx).2);rintro e w' ⟨he_, ⟨nd, rfl⟩⟩;rw [hw_] at he_;subst he_;(try (rw [drewN_self w39];generalize hq_ : World.drewN w39 _ = w39;have n0_ : Aside0 (Kd.R (Kd.int .i64) 3 w39 w.heap.size (fun k_ => some k_ ≠ (.slice Ao10 x3_3.length co10 : Value).ownBlock ∧ some k_ ≠ (.slice (some ad609) t604.length co13 : Value).ownBlock) (.slice Ao40 t611.length co40) t611) := ⟨by rw [← hq_];exact (by refine rP ?_;exact Kd.R_mono HO613.out (fun _ hk => ⟨hk.1.2, hk.2⟩))⟩;have n1_ : Aside0 (Kd.R (Kd.int .i64) 3 w39 w.heap.size (fun k_ => some k_ ≠ (.slice Ao40 t611.length co40 : Value).ownBlock ∧ some k_ ≠ (.slice (some ad609) t604.length co13 : Value).ownBlock) (.slice Ao10 x3_3.length co10) x3_3) := ⟨by rw [← hq_];exact (by refine rP ?_;exact Kd.R_mono HO_3.out (fun _ hk => ⟨hk.2, hk.1⟩))⟩;have n2_ : Aside0 (Kd.R (Kd.int .i64) 3 w39 w.heap.size (fun k_ => some k_ ≠ (.slice Ao40 t611.length co40 : Value).ownBlock ∧ some k_ ≠ (.slice Ao10 x3_3.length co10 : Value).ownBlock) (.slice (some ad609) t604.length co13) t604) := ⟨by rw [← hq_];exact (by refine rP ?_;exact Kd.R_mono HO_608000.out (fun _ hk => ⟨hk.2, hk.1⟩))⟩;have n3_ : Aside0 (w39.heap[gb607]? = some (.cells #[.slice (some ad609) t604.length co13] 32 (0, 0))) := ⟨by rw [← hq_];exact (by exact kP BK607.out)⟩;have n4_ : Aside0 (IsS89 w0 w39 g t614 s0_1 s0_2) := ⟨by rw [← hq_];exact (by exact sS)⟩;have n5_ : Aside0 (KeepBut w w39 g none) := ⟨by rw [← hq_];exact (by exact kK)⟩;have n6_ : Aside0 (Below w0.heap.size w0 w39) := ⟨by rw [← hq_];exact (by exact bB)⟩;clear HO613 HO_3 HO_608000 BK607 HI0 HK HB hq_;have HO613 := n0_;have HO_3 := n1_;have HO_608000 := n2_;have BK607 := n3_;have HI0 := n4_;have HK := n5_;have HB := n6_;clear n0_ n1_ n2_ n3_ n4_ n5_ n6_));have p38 : 0 ≤ (x27_2 : Int) := oA;have q38 : (x27_2 : Int) < ((x3_3.length : Int) : Int) := oA;obtain ⟨go38, co38, eo38, gb38, gl38, cl38, HG38⟩ := Kd.R_form HO_3.out (by omega);(first | cases eo38 | (injection eo38 with ea_ en_ ec_;(first | subst ea_ | (injection ea_ with ea_;subst ea_));subst ec_;clear en_));have GB38 := Aside0.mk gb38;have GG38 := Aside0.mk HG38;clear gb38 gl38 HG38;obtain ⟨hx38_0, hf38_0⟩ := Kd.R_celln 0 HO_3.out (x27_2 : Int) p38 q38;replace p38 := eq_true p38;replace q38 := eq_true q38;obtain ⟨hy41_, hz41_⟩ := Kd.R_celln 0 HO_3.out (x27_2 : Int) (oA) (oA);have HP41 := Kd.R_putg HO_3.out (x27_2 : Int) x4_1) | ((with_reducible refine gate_store (t := 3) (p := 58) rfl ?_);refine store_event (t := 3) (p := 58) (v := ?vo_w42) (w1 := (w39.setCell ⟨go38, (x27_2 : Int).toNat, none⟩ (.int .i64 x4_1))) ?hg ?ho ?hn ?hr ?_;(case ho => rfl);(case hg => rfl);(case hn => rfl);(case hr => first | (go_simp;done) | (go_simp;rfl));intro w42 hw;have hg : w39.grownBy w42 (some go38) := (by rw [hw];exact HP41.2);have hp_ : Kd.R (Kd.int .i64) 3 w42 w.heap.size (fun k_ => some k_ ≠ (.slice (some ad609) t604.length co13 : Value).ownBlock ∧ some k_ ≠ (.slice Ao40 t611.length co40 : Value).ownBlock) (.slice (some ⟨go38, 0, none⟩) x3_3.length co10) y616 := (by rw [hw, Ny616.out];first | exact HP41.1 | exact Kd.R_mono HP41.1 (fun _ hk => ⟨hk.2, hk.1⟩));clear HP41;have n0_ := Aside0.mk (hp_);have n1_ := Aside0.mk (Kd.R_after (v := (.slice (some ⟨go38, 0, none⟩) x3_3.length co10)) (v1 := (.slice (some ⟨go38, 0, none⟩) x3_3.length co10)) (ok := (fun k_ => some k_ ≠ (.slice Ao40 t611.length co40 : Value).ownBlock)) (by exact rP (Kd.R_mono HO_608000.out (fun _ hk => by first | exact ⟨hk.2, hk.1⟩ | exact ⟨hk.2, hk.1.2⟩ | exact hk | exact hk.1 | exact hk.2 | exact ⟨hk.1.2, hk.2⟩))) hg (.inl rfl));have n2_ := Aside0.mk (blk_grown (g := gb607) (o := .cells #[.slice (some ad609) t604.length co13] 32 (0, 0)) (by exact kP BK607.out) hg (Kd.R_ne HO_3.out BK607.out (by decide)));have n3_ := Aside0.mk (IsS89.grown (by exact sS) hg (IsS89.own_ne HI0.out HO_3.out (by decide)));have n4_ := Aside0.mk (Kd.R_after (v := (.slice (some ⟨go38, 0, none⟩) x3_3.length co10)) (v1 := (.slice (some ⟨go38, 0, none⟩) x3_3.length co10)) (ok := (fun k_ => some k_ ≠ (.slice (some ad609) t604.length co13 : Value).ownBlock)) (by exact rP (Kd.R_mono HO613.out (fun _ hk => by first | exact ⟨hk.2, hk.1⟩ | exact ⟨hk.2, hk.1.2⟩ | exact hk | exact hk.1 | exact hk.2 | exact ⟨hk.1.2, hk.2⟩))) hg (.inl rfl));have n5_ := Aside0.mk ((by rw [hw];exact below_set (HB.out) (Nat.le_trans HL.out GB38.out) : Below w0.heap.size w0 w42));have n6_ := Aside0.mk (KeepBut.trans (by exact kK) (KeepBut.of_grown hg g) (Kd.R_base2 HO_3.out));clear HO_3;clear HO_608000;clear BK607;clear HI0;clear HO613;clear HB;clear HK;have HO_3 := n0_;have HO_608000 := n1_;have BK607 := n2_;have HI0 := n3_;have HO613 := n4_;have HB := n5_;have HK := n6_;clear n0_ n1_ n2_ n3_ n4_ n5_ n6_;clear hg hw hp_))
                  (try simp only [← hl3_2, ← hl3_3])
                  go_roundg k3
                  case measure => have := HK1.out;have := HK2.out;have := HK3.out;omega
                  case rel => exact ⟨(y616), (true), (wrap64 (x27_2 + 1)), (t614), (by first | rfl | (simp;done) | (simp [*];done)), (by first | rfl | (simp;done) | (simp [*];done)), H', ⟨by have := HK1.out;have := HK2.out;have := HK3.out;omega⟩, ⟨by (try simp only [hl3_2]);(try simp only [hl3_3]);refine rP ?_;exact Kd.R_mono HO_3.out (fun _ hk => by first | exact ⟨hk.2, hk.1⟩ | exact ⟨hk.2, hk.1.2⟩ | exact hk | exact hk.1 | exact hk.2 | exact ⟨hk.1.2, hk.2⟩)⟩, ⟨by (try simp only [hl3_2]);(try simp only [hl3_3]);refine rP ?_;exact Kd.R_mono HO_608000.out (fun _ hk => by first | exact ⟨hk.2, hk.1⟩ | exact ⟨hk.2, hk.1.2⟩ | exact hk | exact hk.1 | exact hk.2 | exact ⟨hk.1.2, hk.2⟩)⟩, ⟨by (try simp only [hl3_2]);(try simp only [hl3_3]);exact kP BK607.out⟩, ⟨by exact sS⟩, ⟨by exact kK⟩, ⟨by exact bB⟩⟩
                 ·rw [if_neg c37] at H
                  exact absurd H (by simp)
                ·rw [if_neg c36] at H
                 exact absurd H (by simp)
             ·rw [if_neg c28] at H
              have c28b0 : decide (x41_3 < x1000_2) = false := decide_eq_false c28
              clear c28
              have H' := Aside0.mk H
              clear H
              go_wp2
              (try simp only [← hl3_2, ← hl3_3])
              go_roundg k3
              case measure => have := HK1.out;have := HK2.out;have := HK3.out;omega
              case rel => exact ⟨(x3_3), (x5_3), (wrap64 (x27_2 + 1)), (x1000_3), (by first | rfl | (simp;done) | (simp [*];done)), (by first | rfl | (simp;done) | (simp [*];done)), H', ⟨by have := HK1.out;have := HK2.out;have := HK3.out;omega⟩, ⟨by (try simp only [hl3_2]);(try simp only [hl3_3]);exact rP HO_3.out⟩, ⟨by (try simp only [hl3_2]);(try simp only [hl3_3]);exact rP HO_608000.out⟩, ⟨by (try simp only [hl3_2]);(try simp only [hl3_3]);exact kP BK607.out⟩, ⟨by exact sS⟩, ⟨by exact kK⟩, ⟨by exact bB⟩⟩
         ·rw [if_neg c20] at H
          exact absurd H (by simp)
        ·rw [if_neg c19] at H
         exact absurd H (by simp)
       ·rw [if_neg c18] at H
        exact absurd H (by simp)
      ·rw [if_neg c17] at H
       have c17b0 : decide (x27_2 < (s0_1.length : Int)) = false := decide_eq_false c17
       (try simp only [hl3_2] at c17b0)
       clear c17
       have H' := Aside0.mk H
       clear H
       go_wp2
       (try simp only [← hl3_2])
       go_roundg k2
       case measure => have := HK1.out;have := HK2.out;omega
       case rel => exact ⟨(x3_2), (wrap64 (x4_1 + 1)), (x5_2), (x1000_2), (by first | rfl | (simp;done) | (simp [*];done)), (by first | rfl | (simp;done) | (simp [*];done)), H', ⟨by have := HK1.out;have := HK2.out;omega⟩, ⟨by (try simp only [hl3_2]);refine rP ?_;exact Kd.R_mono HO_3.out (fun _ hk => trivial)⟩, ⟨by exact sS⟩, ⟨by exact kK⟩, ⟨by exact bB⟩⟩
   ·replace c8 := Bool.eq_false_iff.mpr c8
    subst c8
    have H1 : (some (x3_1, x1000_1)) = some (r1, r2) := by rw [if_neg (show ¬ (false = true) by decide)] at H;exact H
    clear H
    have H := H1
    clear H1
    simp only [Option.some.injEq, Prod.mk.injEq] at H
    obtain ⟨rfl, rfl⟩ := H
    go_wp2
    go_ret
    exact ⟨_, by first | rfl | (simp [errW_none, errW_some] <;> rfl) | (simp [*, errW_none, errW_some] <;> rfl), by exact rP HO_3.out, by exact sS, by exact bB, by exact kK⟩


end Go.Proofs.YthbjajppdomhhaaDoor.QEternalNumber
