import Derived.Test.YtlbnpdkhghcejaaQLargestFarSet0
import Derived.Test.YtlbnpdkhghcejaaQLargestFarSet7
import Derived.Test.YtlbnpdkhghcejaaQLargestFarSet8
import Derived.Test.YtlbnpdkhghcejaaQLargestFarSet10
namespace Go.Proofs.Ytlbnpdkhghcejaa.QLargestFarSet
open Go.RowKit Go.Proofs.YtlbnpdkhghcejaaW.PrintWords Go.Proofs.YtlbnpdkhghcejaaW.PrintLast Go.Proofs.YtlbnpdkhghcejaaW.PrintMore
attribute [local go_sem] max2_int min2_int max_two min_two max_three min_three max_four min_four   -- for this text's walks alone
set_option linter.unusedVariables false
set_option linter.unusedSimpArgs false
/-! ### impl_isBetterSet: function 95 -/
def impl_isBetterSet.f (k : Nat) (l0 : List Int) (l1 : List Int) : Option (Bool) := if (l1.length : Int) > (l0.length : Int) then (some true) else (if (l1.length : Int) = (l0.length : Int) then ((slices_Compare_int_int.f k l1 l0).bind fun t247 => (some (decide (t247 < 0)))) else (some false))
theorem impl_isBetterSet.mono : ∀ a0 a1 k, LeO (impl_isBetterSet.f k a0 a1) (impl_isBetterSet.f (k + 1) a0 a1) := by
  intro a0 a1 k
  unfold impl_isBetterSet.f
  repeat' first
      | (with_reducible exact slices_Compare_int_int.mono _ _ _)
      | (with_reducible exact LeO.refl _)
      | (with_reducible exact LeO.none _)
      | (with_reducible refine LeO.ite ?_ ?_)
      | (with_reducible refine LeO.bind ?_ (fun _ => ?_))
      | exact slices_Compare_int_int.mono _ _ _
      | exact LeO.none _
      | refine LeO.ite ?_ ?_
      | refine LeO.bind ?_ (fun _ => ?_)
set_option maxHeartbeats 8000000 in
set_option maxRecDepth 100000 in
theorem impl_isBetterSet.calls (k : Nat) (A0 : Option Addr) (c0 : Nat) (l0 : List Int) (A1 : Option Addr) (c1 : Nat) (l1 : List Int) (r : Bool) (w : World) (hr0 : Kd.C (Kd.int .i64) w A0 l0.length l0) (hc0 : l0.length ≤ c0) (hr1 : Kd.C (Kd.int .i64) w A1 l1.length l1) (hc1 : l1.length ≤ c1) (h : impl_isBetterSet.f k l0 l1 = some r) :
    Calls Try.prog 95 #[.slice A0 l0.length c0, .slice A1 l1.length c1] w fun e w' => e = .returned (.bool r) ∧ Drawn0 w w' := by
  have HR0 := Aside0.mk hr0
  have HC0 := Aside0.mk hc0
  clear hr0 hc0
  have HR1 := Aside0.mk hr1
  have HC1 := Aside0.mk hc1
  clear hr1 hc1
  have H : (if (l1.length : Int) > (l0.length : Int) then (some true) else (if (l1.length : Int) = (l0.length : Int) then ((slices_Compare_int_int.f k l1 l0).bind fun t247 => (some (decide (t247 < 0)))) else (some false))) = some r := h
  clear h
  by_cases c3 : (l1.length : Int) > (l0.length : Int)
  · rw [if_pos c3] at H
    have c3b0 : decide ((l0.length : Int) < (l1.length : Int)) = true := decide_eq_true c3
    have c3b1 : decide (l0.length < l1.length) = true := decide_eq_true (Int.ofNat_lt.mp c3)
    clear c3
    obtain rfl := Option.some.inj H
    go_enter Try.func95, Try.ntmps95
    go_wp2
    go_ret
    exact ⟨by first | rfl | (simp; done) | (simp [*]; done), by repeat (first | exact Drawn0.refl _ | apply Drawn0.step)⟩
  · rw [if_neg c3] at H
    have c3b0 : decide ((l0.length : Int) < (l1.length : Int)) = false := decide_eq_false c3
    have c3b1 : decide (l0.length < l1.length) = false := decide_eq_false (fun h => c3 (Int.ofNat_lt.mpr h))
    clear c3
    by_cases c4 : (l1.length : Int) = (l0.length : Int)
    · rw [if_pos c4] at H
      have c4b0 : ((l1.length : Int) == (l0.length : Int)) = true := beq_iff_eq.mpr c4
      have c4b1 : ((l1.length : Int) != (l0.length : Int)) = false := bne_eq_false_iff_eq.mpr c4
      have c4b2 : (l1.length == l0.length) = true := by first | simpa using c4 | (simp at c4 ⊢; omega)
      clear c4
      replace H := Option.bind_eq_some_iff.mp H
      obtain ⟨t247, A50, H⟩ := H
      replace H : (some (decide (t247 < 0))) = some r := H
      have A5 := Aside0.mk A50
      clear A50
      obtain rfl := Option.some.inj H
      go_enter Try.func95, Try.ntmps95
      go_wp2_with (first | (go_at_call 77; (with_reducible refine (slices_Compare_int_int.calls k _ _ l1 _ _ l0 t247 _ ?side1 ?side2 ?side3 ?side4 A5.out).mono ?_); (case side1 => repeat (first | exact HR1.out | (with_reducible refine Kd.C_alloc ?_ _) | (with_reducible refine Kd.C_drewN ?_ _) | (with_reducible refine Kd.C_drew ?_))); (case side2 => exact HC1.out); (case side3 => repeat (first | exact HR0.out | (with_reducible refine Kd.C_alloc ?_ _) | (with_reducible refine Kd.C_drewN ?_ _) | (with_reducible refine Kd.C_drew ?_))); (case side4 => exact HC0.out); rintro e w' ⟨rfl, ⟨nd, rfl⟩⟩))
      go_ret
      exact ⟨by first | rfl | (simp; done) | (simp [*]; done), by repeat (first | exact Drawn0.refl _ | apply Drawn0.step)⟩
    · rw [if_neg c4] at H
      have c4b0 : ((l1.length : Int) == (l0.length : Int)) = false := beq_eq_false_iff_ne.mpr c4
      have c4b1 : ((l1.length : Int) != (l0.length : Int)) = true := bne_iff_ne.mpr c4
      have c4b2 : (l1.length == l0.length) = false := by first | simpa using c4 | (simp at c4 ⊢; omega)
      obtain rfl := Option.some.inj H
      go_enter Try.func95, Try.ntmps95
      go_wp2
      go_ret
      exact ⟨by first | rfl | (simp; done) | (simp [*]; done), by repeat (first | exact Drawn0.refl _ | apply Drawn0.step)⟩




/-! ### impl_isFar: function 96 -/
/-! #### slices.ContainsFunc at []int: by hand -/
def notYet (p : Int → Bool) (l : List Int) (i : Nat) : Prop := ∀ j, j < i → ∀ x, l[j]? = some x → p x = false
theorem notYet_all {p : Int → Bool} {l : List Int} (h : notYet p l l.length) : l.any p = false := by
  rw [List.any_eq_false]
  intro x hx
  obtain ⟨j, hj, rfl⟩ := List.getElem_of_mem hx
  simp [h j hj _ (List.getElem?_eq_getElem hj)]
theorem notYet_hit {p : Int → Bool} {l : List Int} {i : Nat} (hi : i < l.length) (h : p (rd l (i : Int)) = true) : l.any p = true := by
  rw [List.any_eq_true]
  refine ⟨l[i], List.getElem_mem hi, ?_⟩
  have : rd l (i : Int) = l[i] := by simp [rd, hi]
  rwa [← this]
theorem notYet_succ {p : Int → Bool} {l : List Int} {i : Nat} (hi : i < l.length) (h : notYet p l i) (hp : p (rd l (i : Int)) = false) : notYet p l (i + 1) := by
  intro j hj x hx
  by_cases e : j = i
  · subst e
    have : rd l (j : Int) = x := by simp [rd, hx]
    rwa [← this]
  · exact h j (by omega) x hx
set_option maxHeartbeats 1600000 in
set_option maxRecDepth 100000 in
theorem indexFunc_calls (g : Nat) (lb : Array Value) (eg : ∀ args w, (callFunc g args).run Try.prog w = .ok (.enter g args) w) (p : Int → Bool) (A : Option Addr) (c : Nat) (l : List Int) (w : World) (hr : Kd.C (Kd.int .i64) w A l.length l)
    (hp : ∀ x ∈ l, ∀ W, Below w.heap.size w W → Calls Try.prog g (#[.int .i64 x] ++ lb) W fun e w' => e = .returned (.bool (p x)) ∧ ∃ q, w' = W.drewN q) :
    Calls Try.prog 100 #[.slice A l.length c, .func (.func g) #[] lb] w fun e w' => (∃ j : Int, e = .returned (.int .i64 j) ∧ decide (0 ≤ j) = l.any p) ∧ ∃ q, w' = w.drewN q := by
  have HR := Aside0.mk hr
  have HP := Aside0.mk hp
  have hL := hr.2.1
  clear hr hp
  go_enter Try.func100, Try.ntmps100
  go_wp2
  go_loopg [5, 8] l.length (fun gg _ s8 wr => ∃ kk q : Nat, kk ≤ l.length ∧ l.length - kk ≤ gg ∧ s8 = .int .i64 (kk : Int) ∧ wr = w.drewN q ∧ Aside0 (notYet p l kk))
  case atStart => exact ⟨0, 0, Nat.zero_le _, by omega, rfl, rfl, ⟨fun j hj => absurd hj (Nat.not_lt_zero _)⟩⟩
  case round =>
    obtain ⟨kk, q, hkk, hg, rfl, rfl, NY⟩ := hrel
    by_cases hlt : kk < l.length
    · have hltz : (kk : Int) < (l.length : Int) := by omega
      have hk0 : (0 : Int) ≤ (kk : Int) := by omega
      obtain ⟨ad, rfl, hcell⟩ := Kd.at_int HR.out (kk : Int) hk0 hltz
      rw [Int.toNat_natCast] at hcell
      have hmem : rd l (kk : Int) ∈ l := by
        have : rd l (kk : Int) = l[kk] := by simp [rd, hlt]
        rw [this]; exact List.getElem_mem hlt
      have hcall := HP.out (rd l (kk : Int)) hmem (w.drewN q) (pw_below_drewN (Below.refl _ _) q)
      generalize hx : rd l (kk : Int) = x at hcell hcall
      have HX := Aside0.mk hx
      clear hx hmem
      cases hq : p x with
      | true =>
        rw [hq] at hcall
        go_wp2_with (go_at_fn g; refine hcall.mono ?_; rintro e w' ⟨rfl, q', rfl⟩)
        go_ret
        exact ⟨⟨_, rfl, by rw [notYet_hit hlt (by rw [HX.out]; exact hq)]; simp⟩, _, rfl⟩
      | false =>
        rw [hq] at hcall
        go_wp2_with (go_at_fn g; refine hcall.mono ?_; rintro e w' ⟨rfl, q', rfl⟩)
        go_roundg (l.length - (kk + 1))
        case measure => omega
        case rel => exact ⟨kk + 1, _, by omega, by omega, by first | rfl | go_num, rfl, ⟨notYet_succ hlt NY.out (by rw [HX.out]; exact hq)⟩⟩
    · have hltz : ¬ (kk : Int) < (l.length : Int) := by omega
      obtain rfl : kk = l.length := by omega
      go_wp2
      go_ret
      exact ⟨⟨-1, rfl, by rw [notYet_all NY.out]; rfl⟩, q, rfl⟩
set_option maxHeartbeats 1600000 in
theorem containsFunc_calls (g : Nat) (lb : Array Value) (eg : ∀ args w, (callFunc g args).run Try.prog w = .ok (.enter g args) w) (p : Int → Bool) (A : Option Addr) (c : Nat) (l : List Int) (w : World) (hr : Kd.C (Kd.int .i64) w A l.length l)
    (hp : ∀ x ∈ l, ∀ W, Below w.heap.size w W → Calls Try.prog g (#[.int .i64 x] ++ lb) W fun e w' => e = .returned (.bool (p x)) ∧ ∃ q, w' = W.drewN q) :
    Calls Try.prog 70 #[.slice A l.length c, .func (.func g) #[] lb] w fun e w' => e = .returned (.bool (l.any p)) ∧ ∃ q, w' = w.drewN q := by
  have hcon := indexFunc_calls g lb eg p A c l w hr hp
  go_enter Try.func70, Try.ntmps70
  go_wp2_with (go_at_call 100; refine hcon.mono ?_; rintro e w' ⟨⟨j, rfl, hj⟩, q, rfl⟩)
  go_ret
  exact ⟨rfl, q, rfl⟩

/-- A node that is too near. -/
def farHit (dist : List (List Int)) (kk x y : Int) : Bool := decide (0 ≤ rd (rd_L2 dist x) y) && decide (rd (rd_L2 dist x) y < wrap64 (wrap64 (2 * kk) - 1))
def farGo (dist : List (List Int)) (kk : Int) : List Int → List Int → Option Bool
  | _, [] => some true
  | pre, x :: rest => if ∀ y ∈ pre, (0 ≤ x ∧ x < (dist.length : Int)) ∧ (0 ≤ y ∧ y < ((rd_L2 dist x).length : Int)) then (if pre.any (farHit dist kk x) = true then some false else farGo dist kk (pre ++ [x]) rest) else none
def impl_isFar.f (l0 : List (List Int)) (l1 : List Int) (a2 : Int) : Option Bool := farGo l0 a2 [] l1
set_option maxHeartbeats 1600000 in
set_option maxRecDepth 100000 in
theorem isFar_fn (gD gX gK : Nat) (A : Option Addr) (c : Nat) (dist : List (List Int)) (x kk y : Int) (W : World) (hD : W.cell? ⟨gD, 0, none⟩ = some (.slice A dist.length c)) (hX : W.cell? ⟨gX, 0, none⟩ = some (.int .i64 x)) (hK : W.cell? ⟨gK, 0, none⟩ = some (.int .i64 kk)) (hC : Kd.C (Kd.slice 3 (Kd.int .i64)) W A dist.length dist)
    (h0 : 0 ≤ x) (h1 : x < (dist.length : Int)) (h2 : 0 ≤ y) (h3 : y < ((rd_L2 dist x).length : Int)) :
    Calls Try.prog 120 (#[.int .i64 y] ++ #[.pointer (some ⟨gD, 0, none⟩), .pointer (some ⟨gX, 0, none⟩), .pointer (some ⟨gK, 0, none⟩)]) W fun e w' => e = .returned (.bool (farHit dist kk x y)) ∧ ∃ q, w' = W.drewN q := by
  obtain ⟨ad, A0, c0, rfl, hx0, hl0, hi0⟩ := at_L2 hC x h0 h1
  obtain ⟨ad1, rfl, hx1⟩ := Kd.at_int hi0 y h2 h3
  have hr : farHit dist kk x y = (decide (0 ≤ rd (rd_L2 dist x) y) && decide (rd (rd_L2 dist x) y < wrap64 (wrap64 (2 * kk) - 1))) := rfl
  rw [hr]
  have p0 : (0 ≤ x) = True := eq_true h0
  have p1 : (x < (dist.length : Int)) = True := eq_true h1
  have p2 : (0 ≤ y) = True := eq_true h2
  have p3 : (y < ((rd_L2 dist x).length : Int)) = True := eq_true h3
  clear hr hl0 hi0 hC h0 h1 h2 h3
  generalize rd (rd_L2 dist x) y = d at hx1 ⊢
  generalize (rd_L2 dist x).length = m at hx0 p3
  generalize dist.length = n at hD p1
  show Calls Try.prog 120 #[.int .i64 y, .pointer (some ⟨gD, 0, none⟩), .pointer (some ⟨gX, 0, none⟩), .pointer (some ⟨gK, 0, none⟩)] W _
  by_cases hd : 0 ≤ d
  · have e0 : decide (0 ≤ d) = true := decide_eq_true hd
    have e1 : decide (d ≥ 0) = true := decide_eq_true hd
    have e2 : (0 ≤ d) = True := eq_true hd
    rw [e0, Bool.true_and]
    clear hd
    go_enter Try.func120, Try.ntmps120
    go_wp2
    go_quiet (fail)
    go_wp2
    go_ret
    exact ⟨by first | rfl | simp, _, by first | rfl | exact World.drewN_drewN _ _ _⟩
  · have e0 : decide (0 ≤ d) = false := decide_eq_false hd
    have e1 : decide (d ≥ 0) = false := decide_eq_false hd
    have e2 : (0 ≤ d) = False := eq_false hd
    rw [e0, Bool.false_and]
    clear hd
    go_enter Try.func120, Try.ntmps120
    go_wp2
    go_quiet (fail)
    go_wp2
    go_ret
    exact ⟨by first | rfl | simp, _, by first | rfl | exact World.drewN_drewN _ _ _⟩
theorem farGo_nil (dist : List (List Int)) (kk : Int) (pre : List Int) : farGo dist kk pre [] = some true := by unfold farGo; rfl
theorem farGo_use {dist : List (List Int)} {kk : Int} {l : List Int} {i : Nat} (hi : i < l.length) {r : Bool} (h : farGo dist kk (l.take i) (l.drop i) = some r) :
    (∀ y ∈ l.take i, (0 ≤ rd l (i : Int) ∧ rd l (i : Int) < (dist.length : Int)) ∧ (0 ≤ y ∧ y < ((rd_L2 dist (rd l (i : Int))).length : Int))) ∧
      (((l.take i).any (farHit dist kk (rd l (i : Int))) = true ∧ r = false) ∨ ((l.take i).any (farHit dist kk (rd l (i : Int))) = false ∧ farGo dist kk (l.take (i + 1)) (l.drop (i + 1)) = some r)) := by
  have e : rd l (i : Int) = l[i] := by simp [rd, hi]
  rw [List.drop_eq_getElem_cons hi] at h
  unfold farGo at h
  rw [e]
  split at h
  · rename_i hv
    refine ⟨hv, ?_⟩
    split at h
    · rename_i ha; exact .inl ⟨ha, (Option.some.inj h).symm⟩
    · rename_i ha
      refine .inr ⟨by simpa using ha, ?_⟩
      rw [List.take_succ_eq_append_getElem hi]; exact h
  · cases h
set_option maxHeartbeats 3200000 in
set_option maxRecDepth 100000 in
theorem impl_isFar.calls (A0 : Option Addr) (c0 : Nat) (l0 : List (List Int)) (A1 : Option Addr) (c1 : Nat) (l1 : List Int) (a2 : Int) (r : Bool) (w : World) (hr0 : Kd.C (Kd.slice 3 (Kd.int .i64)) w A0 l0.length l0) (hc0 : l0.length ≤ c0) (hr1 : Kd.C (Kd.int .i64) w A1 l1.length l1) (hc1 : l1.length ≤ c1) (h : impl_isFar.f l0 l1 a2 = some r) :
    Calls Try.prog 96 #[.slice A0 l0.length c0, .slice A1 l1.length c1, .int .i64 a2] w fun e w' => e = .returned (.bool r) ∧ Below w.heap.size w w' := by
  have HR0 := Aside0.mk hr0
  have HR1 := Aside0.mk hr1
  have HL1 := hr1.2.1
  have HC1 := Aside0.mk hc1
  clear hr0 hc0 hr1 hc1
  have HF : Aside0 (farGo l0 a2 (l1.take 0) (l1.drop 0) = some r) := ⟨h⟩
  clear h
  have HB := Aside0.mk (Below.refl w.heap.size w)
  go_enter Try.func96, Try.ntmps96
  go_wp2_with (first | ((with_reducible refine gate_dst (N := 3) rfl ?_); refine box_event ?hg (N := 3) ?hd (cs := #[.slice A0 l0.length c0]) (t := 37) ?hr ?_; (case hd => rfl); (case hg => rfl); (case hr => first | (go_simp; done) | (go_simp; rfl)); intro gD hg w1 hbox hb; have n0_ := Aside0.mk (below_step HB.out hb); have BKD := Aside0.mk hbox; have GD := Aside0.mk ((by rw [hg]; exact Nat.le_refl _) : w.heap.size ≤ gD); clear HB; have HB := n0_; clear n0_ hb hbox hg) | ((with_reducible refine gate_dst (N := 5) rfl ?_); refine box_event ?hg (N := 5) ?hd (cs := #[.int .i64 a2]) (t := 3) ?hr ?_; (case hd => rfl); (case hg => rfl); (case hr => first | (go_simp; done) | (go_simp; rfl)); intro gK hg w2 hbox hb; have n0_ := Aside0.mk (below_step HB.out hb); have n1_ := Aside0.mk (blk_below (g := gD) (o := .cells #[.slice A0 l0.length c0] 37 (0, 0)) BKD.out hb); have BKK := Aside0.mk hbox; clear HB BKD; have HB := n0_; have BKD := n1_; clear n0_ n1_ hb hbox hg))
  go_loopg [11] l1.length (fun gg v11 wr => ∃ i : Nat, v11 = .int .i64 (i : Int) ∧ Aside0 (i ≤ l1.length ∧ l1.length - i ≤ gg) ∧ Aside0 (farGo l0 a2 (l1.take i) (l1.drop i) = some r) ∧ Aside0 (wr.heap[gD]? = some (.cells #[.slice A0 l0.length c0] 37 (0, 0))) ∧ Aside0 (wr.heap[gK]? = some (.cells #[.int .i64 a2] 3 (0, 0))) ∧ Aside0 (Below w.heap.size w wr))
  case atStart => exact ⟨0, rfl, ⟨Nat.zero_le _, by omega⟩, HF, BKD, BKK, HB⟩
  case round =>
    clear HF BKD BKK HB
    obtain ⟨i, rfl, HN, HF, BKD, BKK, HB⟩ := hrel
    by_cases hlt : i < l1.length
    · have hltz : (i : Int) < (l1.length : Int) := by omega
      have hi0 : (0 : Int) ≤ (i : Int) := by omega
      obtain ⟨hv, hcase⟩ := farGo_use hlt HF.out
      obtain ⟨ad, rfl, hcell⟩ := Kd.at_int (Kd.C_below HR1.out HB.out) (i : Int) hi0 hltz
      rw [Int.toNat_natCast] at hcell
      have HV := Aside0.mk hv
      have HCA := Aside0.mk hcase
      clear hv hcase HF
      have HT : Aside0 ((l1.take i).length = i) := ⟨by rw [List.length_take]; omega⟩
      generalize hx : rd l1 (i : Int) = x at hcell HV HCA
      clear hx
      have i1 : ((i : Int) ≤ (c1 : Int)) = True := eq_true (by have := HC1.out; omega)
      go_wp2_with (first | ((with_reducible refine gate_dst (N := 8) rfl ?_); refine box_event ?hg (N := 8) ?hd (cs := #[.int .i64 0]) (t := 3) ?hr ?_; (case hd => rfl); (case hg => rfl); (case hr => first | (go_simp; done) | (go_simp; rfl)); intro gX hg w3 hbox hb; have nd_ := Aside0.mk (by rw [hg]; exact Nat.ne_of_lt (blk_lt BKD.out) : gD ≠ gX); have nk_ := Aside0.mk (by rw [hg]; exact Nat.ne_of_lt (blk_lt BKK.out) : gK ≠ gX); have GX := Aside0.mk (by rw [hg]; exact below_size HB.out : w.heap.size ≤ gX); have n0_ := Aside0.mk (below_step HB.out hb); have n1_ := Aside0.mk (blk_below (g := gD) (o := .cells #[.slice A0 l0.length c0] 37 (0, 0)) BKD.out hb); have n2_ := Aside0.mk (blk_below (g := gK) (o := .cells #[.int .i64 a2] 3 (0, 0)) BKK.out hb); have BKX := Aside0.mk hbox; clear HB BKD BKK; have HB := n0_; have BKD := n1_; have BKK := n2_; clear n0_ n1_ n2_ hb hbox hg; have hcz := (blk_cell BKX.out 0).trans rfl; have hfz := blk_frozen BKX.out 0) | ((with_reducible refine gate_store (t := 3) (p := 8) rfl ?_); refine store_event (t := 3) (p := 8) (v := ?vo_) (w1 := (w3.setCell ⟨gX, 0, none⟩ (.int .i64 x))) ?hg ?ho ?hn ?hr ?_; (case ho => rfl); (case hg => rfl); (case hn => rfl); (case hr => first | (go_simp; done) | (go_simp; rfl)); intro w4 hw; have n0_ := Aside0.mk (show w4.heap[gD]? = some (.cells #[.slice A0 l0.length c0] 37 (0, 0)) from by rw [hw]; exact blk_far BKD.out nd_.out _); have n1_ := Aside0.mk (show w4.heap[gK]? = some (.cells #[.int .i64 a2] 3 (0, 0)) from by rw [hw]; exact blk_far BKK.out nk_.out _); have n2_ := Aside0.mk (show w4.heap[gX]? = some (.cells #[.int .i64 x] 3 (0, 0)) from by rw [hw]; exact blk_put (cs := #[.int .i64 0]) BKX.out 0 _ rfl); have n3_ := Aside0.mk (show Below w.heap.size w w4 from by rw [hw]; exact below_set HB.out GX.out); clear BKD BKK BKX HB hw hcz hfz; have BKD := n0_; have BKK := n1_; have BKX := n2_; have HB := n3_; clear n0_ n1_ n2_ n3_ nd_ nk_))
      have hcD := (blk_cell BKD.out 0).trans rfl
      have hcX := (blk_cell BKX.out 0).trans rfl
      have hcK := (blk_cell BKK.out 0).trans rfl
      have hgD := blk_lt BKD.out
      have hgX := blk_lt BKX.out
      have hgK := blk_lt BKK.out
      have hcon := containsFunc_calls 120 _ (enters_of Try.func120 (by kernel_rfl) rfl) (farHit l0 a2 x) (some ad) c1 (l1.take i) w4 (Kd.C_take (Kd.C_below HR1.out HB.out) HN.out.1) (fun y hy W hb => isFar_fn gD gX gK A0 c0 l0 x a2 y W ((hb.cell (p := ⟨gD, 0, none⟩) hgD).trans hcD) ((hb.cell (p := ⟨gX, 0, none⟩) hgX).trans hcX) ((hb.cell (p := ⟨gK, 0, none⟩) hgK).trans hcK) (Kd.C_below (Kd.C_below HR0.out HB.out) hb) (HV.out y hy).1.1 (HV.out y hy).1.2 (HV.out y hy).2.1 (HV.out y hy).2.2)
      rw [HT.out] at hcon
      clear hcD hcX hcK hgD hgX hgK
      refine hcon.mono ?_
      clear hcon
      rintro e w' ⟨rfl, q, rfl⟩
      have n0_ := Aside0.mk (blk_drewN BKD.out q)
      have n1_ := Aside0.mk (blk_drewN BKK.out q)
      have n2_ := Aside0.mk (pw_below_drewN HB.out q)
      clear BKD BKK BKX HB HV
      generalize w4.drewN q = w5 at n0_ n1_ n2_ ⊢
      rcases HCA.out with ⟨ha, hb⟩ | ⟨ha, hb⟩
      · rw [ha]
        subst hb
        clear HCA ha
        go_wp2
        go_ret
        exact ⟨rfl, n2_.out⟩
      · rw [ha]
        have hn_ := Aside0.mk hb
        clear HCA ha hb
        go_wp2
        go_roundg (l1.length - (i + 1))
        case measure => have := HN.out; omega
        case rel => exact ⟨i + 1, by first | rfl | go_num, ⟨by omega, Nat.le_refl _⟩, hn_, n0_, n1_, n2_⟩
    · have hltz : ¬ (i : Int) < (l1.length : Int) := by omega
      obtain rfl : i = l1.length := by have := HN.out; omega
      have hr : r = true := by have h := HF.out; rw [List.drop_length, farGo_nil] at h; exact (Option.some.inj h).symm
      subst hr
      go_wp2
      go_ret
      exact ⟨rfl, HB.out⟩

/-! ### impl_net_largestFar: function 58 -/
def impl_net_largestFar.l0 : Nat → Int → List (List Int) → List Int → Int → Int → Option (List Int)
  | 0, _, _, _, _, _ => none
  | k + 1, x1, x5, x6, x13, x14 => if x14 < x13 then ((impl_setOf.f k x14).bind fun t256 => ((impl_isBetterSet.f k x6 t256).bind fun t259 => (if t259 = true then ((impl_isFar.f x5 t256 x1).bind fun t260 => (if t260 = true then (impl_net_largestFar.l0 k x1 x5 t256 x13 (wrap64 (x14 + 1))) else (impl_net_largestFar.l0 k x1 x5 x6 x13 (wrap64 (x14 + 1))))) else (impl_net_largestFar.l0 k x1 x5 x6 x13 (wrap64 (x14 + 1)))))) else (some x6)
def impl_net_largestFar.f (k : Nat) (l0_0 : List Int) (a1 : Int) : Option (List Int) := (impl_net_distances.f k l0_0).bind fun t252 => ((impl_net_all.f l0_0).bind fun t255 => (impl_net_largestFar.l0 k a1 t252 ([] : List Int) (wrap64 (t255 + 1)) 0))
theorem impl_net_largestFar.mono_l : ∀ k, (∀ y0 y1 y2 y3 y4, LeO (impl_net_largestFar.l0 k y0 y1 y2 y3 y4) (impl_net_largestFar.l0 (k + 1) y0 y1 y2 y3 y4))
  | 0 => fun _ _ _ _ _ r h => by simp [impl_net_largestFar.l0] at h
  | k + 1 => by
    have ih0 := impl_net_largestFar.mono_l k
    · intro y0 y1 y2 y3 y4
      unfold impl_net_largestFar.l0
      repeat' first
      | (with_reducible exact ih0 _ _ _ _ _)
      | (with_reducible exact impl_isBetterSet.mono _ _ _)
      | (with_reducible exact impl_net_distances.mono _ _)
      | (with_reducible exact impl_setOf.mono _ _)
      | (with_reducible exact LeO.refl _)
      | (with_reducible exact LeO.none _)
      | (with_reducible refine LeO.ite ?_ ?_)
      | (with_reducible refine LeO.bind ?_ (fun _ => ?_))
      | exact ih0 _ _ _ _ _
      | exact impl_isBetterSet.mono _ _ _
      | exact impl_net_distances.mono _ _
      | exact impl_setOf.mono _ _
      | exact LeO.none _
      | refine LeO.ite ?_ ?_
      | refine LeO.bind ?_ (fun _ => ?_)
theorem impl_net_largestFar.mono : ∀ a0 a1 k, LeO (impl_net_largestFar.f k a0 a1) (impl_net_largestFar.f (k + 1) a0 a1) := by
  intro a0 a1 k
  have ih0 := impl_net_largestFar.mono_l k
  unfold impl_net_largestFar.f
  repeat' first
      | (with_reducible exact ih0 _ _ _ _ _)
      | (with_reducible exact impl_isBetterSet.mono _ _ _)
      | (with_reducible exact impl_net_distances.mono _ _)
      | (with_reducible exact impl_setOf.mono _ _)
      | (with_reducible exact LeO.refl _)
      | (with_reducible exact LeO.none _)
      | (with_reducible refine LeO.ite ?_ ?_)
      | (with_reducible refine LeO.bind ?_ (fun _ => ?_))
      | exact ih0 _ _ _ _ _
      | exact impl_isBetterSet.mono _ _ _
      | exact impl_net_distances.mono _ _
      | exact impl_setOf.mono _ _
      | exact LeO.none _
      | refine LeO.ite ?_ ?_
      | refine LeO.bind ?_ (fun _ => ?_)
set_option maxHeartbeats 8000000 in
set_option maxRecDepth 100000 in
theorem impl_net_largestFar.calls (k : Nat) (A0_0 : Option Addr) (c0_0 : Nat) (l0_0 : List Int) (a1 : Int) (r : List Int) (w : World) (hr0_0 : Kd.C (Kd.int .i64) w A0_0 l0_0.length l0_0) (hc0_0 : l0_0.length ≤ c0_0) (h : impl_net_largestFar.f k l0_0 a1 = some r) :
    Calls Try.prog 58 #[.agg #[.slice A0_0 l0_0.length c0_0], .int .i64 a1] w fun e w' => ∃ v0_ : Value, e = .returned (v0_) ∧ Kd.R (Kd.int .i64) 3 w' w.heap.size (fun _ => True) v0_ r ∧ Below w.heap.size w w' := by
  have hu56 := Try.underlying56
  have HR0_0 := Aside0.mk hr0_0
  have HC0_0 := Aside0.mk hc0_0
  clear hr0_0 hc0_0
  have HB := Aside0.mk (Below.refl w.heap.size w)
  have H : ((impl_net_distances.f k l0_0).bind fun t252 => ((impl_net_all.f l0_0).bind fun t255 => (impl_net_largestFar.l0 k a1 t252 ([] : List Int) (wrap64 (t255 + 1)) 0))) = some r := h
  clear h
  replace H := Option.bind_eq_some_iff.mp H
  obtain ⟨t252, A30, H⟩ := H
  replace H : ((impl_net_all.f l0_0).bind fun t255 => (impl_net_largestFar.l0 k a1 t252 ([] : List Int) (wrap64 (t255 + 1)) 0)) = some r := H
  have A3 := Aside0.mk A30
  clear A30
  replace H := Option.bind_eq_some_iff.mp H
  obtain ⟨t255, A40, H⟩ := H
  replace H : (impl_net_largestFar.l0 k a1 t252 ([] : List Int) (wrap64 (t255 + 1)) 0) = some r := H
  have A4 := Aside0.mk A40
  clear A40
  have H' := Aside0.mk H
  clear H
  go_enter Try.func58, Try.ntmps58
  go_wp2_with (first | ((with_reducible refine gate_dst (N := 2) rfl ?_); refine box_event ?hg (N := 2) ?hd (cs := #[.slice A0_0 l0_0.length c0_0]) (t := 56) ?hr ?_; (case hd => rfl); (case hg => rfl); (case hr => first | (go_simp; done) | (go_simp; rfl)); intro gb251 hg w5 hbox hb; have n0_ := Aside0.mk (below_step (by repeat (first | (with_reducible first | exact HB.out | apply below_alloc | apply pw_below_drewN | apply below_drew1) | exact HB.out)) hb); have n1_ := Aside0.mk (hbox); have n2_ := Aside0.mk ((by rw [hg]; exact (below_size (by repeat (first | (with_reducible first | exact HB.out | apply below_alloc | apply pw_below_drewN | apply below_drew1) | exact HB.out))) : w.heap.size ≤ gb251)); have n3_ := Aside0.mk ((by rw [hg]; exact (below_size (by repeat (first | (with_reducible first | exact HB.out | apply below_alloc | apply pw_below_drewN | apply below_drew1) | exact HB.out))) : w.heap.size ≤ gb251)); clear HB; have HB := n0_; have BK251 := n1_; have GW251 := n2_; have GE251 := n3_; clear n0_ n1_ n2_ n3_; clear hb hbox hg; have hcz6_0 : w5.cell? ⟨gb251, 0, none⟩ = some (.slice A0_0 l0_0.length c0_0) := (blk_cell BK251.out 0).trans rfl; have hfz6_0 := blk_frozen BK251.out 0) | ((with_reducible refine gate_callee (f := 94) rfl ?_); refine goesL_ (some 10) rfl rfl Try.func94 (by kernel_rfl) rfl #[.agg #[.slice A0_0 l0_0.length c0_0]] rfl (by (try simp only [List.map_toArray, List.map_cons, List.map_nil]); first | done | rfl | (simp only [List.length_drop, List.length_take]; rfl)) ?_; (with_reducible refine (impl_net_distances.calls k _ _ l0_0 t252 _ ?side1 ?side2 A3.out).mono ?_); (case side1 => repeat (first | exact (Kd.C_below HR0_0.out HB.out) | (with_reducible refine Kd.C_alloc ?_ _) | (with_reducible refine Kd.C_drewN ?_ _) | (with_reducible refine Kd.C_drew ?_))); (case side2 => exact HC0_0.out); rintro e w7 ⟨v253, rfl, ho0, hb⟩; refine ⟨_, rfl, ?_⟩; have n0_ := Aside0.mk (Kd.S_lower ho0 (below_size (by repeat (first | (with_reducible first | exact HB.out | apply below_alloc | apply pw_below_drewN | apply below_drew1 | refine below_set ?_ GE251.out) | exact HB.out)))); have n1_ := Aside0.mk (blk_below (g := gb251) (o := .cells #[.slice A0_0 l0_0.length c0_0] 56 (0, 0)) (by (with_reducible repeat (first | refine blk_drewN ?_ _ | refine blk_drew ?_ | refine blk_alloc ?_ _)); exact BK251.out) hb); have n2_ := Aside0.mk (below_step (by repeat (first | (with_reducible first | exact HB.out | apply below_alloc | apply pw_below_drewN | apply below_drew1 | refine below_set ?_ GE251.out) | exact HB.out)) hb); clear BK251; clear HB; have HO254 := n0_; have BK251 := n1_; have HB := n2_; clear n0_ n1_ n2_; (try clear hb); (try clear hb2); (try clear hk); (try clear hi); (try clear ho0); have hcz8_0 : w7.cell? ⟨gb251, 0, none⟩ = some (.slice A0_0 l0_0.length c0_0) := (blk_cell BK251.out 0).trans rfl; have hfz8_0 := blk_frozen BK251.out 0) | ((with_reducible refine gate_callee (f := 63) rfl ?_); refine goesL_ (some 12) rfl rfl Try.func63 (by kernel_rfl) rfl #[.agg #[.slice A0_0 l0_0.length c0_0]] rfl (by (try simp only [List.map_toArray, List.map_cons, List.map_nil]); first | done | rfl | (simp only [List.length_drop, List.length_take]; rfl)) ?_; (with_reducible refine (impl_net_all.calls _ _ l0_0 t255 _ ?side1 ?side2 A4.out).mono ?_); (case side1 => repeat (first | exact (Kd.C_below HR0_0.out HB.out) | (with_reducible refine Kd.C_alloc ?_ _) | (with_reducible refine Kd.C_drewN ?_ _) | (with_reducible refine Kd.C_drew ?_))); (case side2 => exact HC0_0.out); rintro e w9 ⟨rfl, hb⟩; refine ⟨_, rfl, ?_⟩; have n0_ := Aside0.mk (Kd.S_below (by (with_reducible repeat (first | apply Kd.S_alloc | apply Kd.S_drewN | apply Kd.S_drew)); exact HO254.out) hb); have n1_ := Aside0.mk (blk_below (g := gb251) (o := .cells #[.slice A0_0 l0_0.length c0_0] 56 (0, 0)) (by (with_reducible repeat (first | refine blk_drewN ?_ _ | refine blk_drew ?_ | refine blk_alloc ?_ _)); exact BK251.out) hb); have n2_ := Aside0.mk (below_step (by repeat (first | (with_reducible first | exact HB.out | apply below_alloc | apply pw_below_drewN | apply below_drew1 | refine below_set ?_ GE251.out) | exact HB.out)) hb); clear HO254; clear BK251; clear HB; have HO254 := n0_; have BK251 := n1_; have HB := n2_; clear n0_ n1_ n2_; (try clear hb); (try clear hb2); (try clear hk); (try clear hi)))
  go_loopg [6, 14] k (fun kq v6 v14 w' => ∃ (x6_1 : List Int) (x14_1 : Int), v14 = .int .i64 x14_1 ∧ Aside0 (impl_net_largestFar.l0 kq a1 t252 x6_1 (wrap64 (t255 + 1)) x14_1 = some r) ∧ Aside0 (kq ≤ k) ∧ Aside0 (Kd.S (Kd.slice 3 (Kd.int .i64)) 25 w' w.heap.size (fun k_ => some k_ ≠ (v6 : Value).ownBlock) v253 t252) ∧ Aside0 (Kd.R (Kd.int .i64) 3 w' w.heap.size (fun _ => True) v6 x6_1) ∧ Aside0 (w'.heap[gb251]? = some (.cells #[(.slice A0_0 l0_0.length c0_0)] 56 (0, 0))) ∧ Aside0 (Below w.heap.size w w'))
  case atStart => exact ⟨(([] : List Int)), (0), (by first | rfl | (simp; done) | (simp [*]; done)), H', ⟨Nat.le_refl _⟩, ⟨by (with_reducible repeat (first | apply Kd.S_alloc | apply Kd.S_drewN | apply Kd.S_drew)); exact Kd.S_mono HO254.out (fun _ hk => (by simp [Value.ownBlock]))⟩, ⟨by first | exact Kd.R_nil _ _ _ _ _ | exact Kd.N_nil _ _ _ _ _ | exact Kd.V_nil _ _ _ _ _ | exact Kd.Q_nil _ _ _ _ _ | exact Kd.S_nil _ _ _ _ _⟩, ⟨by (with_reducible repeat (first | refine blk_drewN ?_ _ | refine blk_drew ?_ | refine blk_alloc ?_ _)); exact BK251.out⟩, ⟨by repeat (first | (with_reducible first | exact HB.out | apply below_alloc | apply pw_below_drewN | apply below_drew1 | refine below_set ?_ GE251.out) | exact HB.out)⟩⟩
  case round =>
    clear H'
    try clear p2
    try clear c5
    try clear c6
    try clear p6
    try clear c9
    try clear hcz6_0
    try clear hcz8_0
    try clear hfz6_0
    try clear hfz8_0
    obtain ⟨x6_1, x14_1, rfl, HA, HK1, HO_5, HO_6, BK251, HB⟩ := hrel
    cases gk with
    | zero => exact absurd HA.out (by simp [impl_net_largestFar.l0])
    | succ k1 =>
      have H := HA.out
      clear HA
      simp only [impl_net_largestFar.l0] at H
      by_cases c10 : x14_1 < (wrap64 (t255 + 1))
      · rw [if_pos c10] at H
        have c10b0 : decide (x14_1 < (wrap64 (t255 + 1))) = true := decide_eq_true c10
        clear c10
        replace H := Option.bind_eq_some_iff.mp H
        obtain ⟨t256, A110, H⟩ := H
        replace H : ((impl_isBetterSet.f k1 x6_1 t256).bind fun t259 => (if t259 = true then ((impl_isFar.f t252 t256 a1).bind fun t260 => (if t260 = true then (impl_net_largestFar.l0 k1 a1 t252 t256 (wrap64 (t255 + 1)) (wrap64 (x14_1 + 1))) else (impl_net_largestFar.l0 k1 a1 t252 x6_1 (wrap64 (t255 + 1)) (wrap64 (x14_1 + 1))))) else (impl_net_largestFar.l0 k1 a1 t252 x6_1 (wrap64 (t255 + 1)) (wrap64 (x14_1 + 1))))) = some r := H
        have A11 := Aside0.mk A110
        clear A110
        replace H := Option.bind_eq_some_iff.mp H
        obtain ⟨t259, A120, H⟩ := H
        replace H : (if t259 = true then ((impl_isFar.f t252 t256 a1).bind fun t260 => (if t260 = true then (impl_net_largestFar.l0 k1 a1 t252 t256 (wrap64 (t255 + 1)) (wrap64 (x14_1 + 1))) else (impl_net_largestFar.l0 k1 a1 t252 x6_1 (wrap64 (t255 + 1)) (wrap64 (x14_1 + 1))))) else (impl_net_largestFar.l0 k1 a1 t252 x6_1 (wrap64 (t255 + 1)) (wrap64 (x14_1 + 1)))) = some r := H
        have A12 := Aside0.mk A120
        clear A120
        by_cases c13 : t259 = true
        · subst c13
          have H1 : ((impl_isFar.f t252 t256 a1).bind fun t260 => (if t260 = true then (impl_net_largestFar.l0 k1 a1 t252 t256 (wrap64 (t255 + 1)) (wrap64 (x14_1 + 1))) else (impl_net_largestFar.l0 k1 a1 t252 x6_1 (wrap64 (t255 + 1)) (wrap64 (x14_1 + 1))))) = some r := by rw [if_pos rfl] at H; exact H
          clear H
          have H := H1
          clear H1
          replace H := Option.bind_eq_some_iff.mp H
          obtain ⟨t260, A140, H⟩ := H
          replace H : (if t260 = true then (impl_net_largestFar.l0 k1 a1 t252 t256 (wrap64 (t255 + 1)) (wrap64 (x14_1 + 1))) else (impl_net_largestFar.l0 k1 a1 t252 x6_1 (wrap64 (t255 + 1)) (wrap64 (x14_1 + 1)))) = some r := H
          have A14 := Aside0.mk A140
          clear A140
          by_cases c15 : t260 = true
          · subst c15
            have H1 : (impl_net_largestFar.l0 k1 a1 t252 t256 (wrap64 (t255 + 1)) (wrap64 (x14_1 + 1))) = some r := by rw [if_pos rfl] at H; exact H
            clear H
            have H := H1
            clear H1
            have H' := Aside0.mk H
            clear H
            go_wp2_with (first | ((with_reducible refine gate_callee (f := 52) rfl ?_); refine goesL_ (some 18) rfl rfl Try.func52 (by kernel_rfl) rfl #[.int .i64 x14_1] rfl (by (try simp only [List.map_toArray, List.map_cons, List.map_nil]); first | done | rfl | (simp only [List.length_drop, List.length_take]; rfl)) ?_; (with_reducible refine (impl_setOf.calls k1 x14_1 t256 _ A11.out).mono ?_); rintro e w16 ⟨v257, rfl, ho0, hb⟩; refine ⟨_, rfl, ?_⟩; have n0_ := Aside0.mk (Kd.S_elder' (by (with_reducible repeat (first | apply Kd.S_alloc | apply Kd.S_drewN | apply Kd.S_drew)); exact HO_5.out) (Kd.R_base ho0) hb); have n1_ := Aside0.mk (Kd.R_elder' (by (with_reducible repeat (first | apply Kd.R_alloc | apply Kd.R_drewN | apply Kd.R_drew)); exact HO_6.out) (Kd.R_base ho0) hb); have n2_ := Aside0.mk (Kd.R_lower (Kd.R_new' ho0 (Kd.R_lt (by (with_reducible repeat (first | apply Kd.R_alloc | apply Kd.R_drewN | apply Kd.R_drew)); exact HO_6.out))) (below_size (by repeat (first | (with_reducible first | exact HB.out | apply below_alloc | apply pw_below_drewN | apply below_drew1 | refine below_set ?_ GE251.out) | exact HB.out)))); have n3_ := Aside0.mk (blk_below (g := gb251) (o := .cells #[.slice A0_0 l0_0.length c0_0] 56 (0, 0)) (by (with_reducible repeat (first | refine blk_drewN ?_ _ | refine blk_drew ?_ | refine blk_alloc ?_ _)); exact BK251.out) hb); have n4_ := Aside0.mk (below_step (by repeat (first | (with_reducible first | exact HB.out | apply below_alloc | apply pw_below_drewN | apply below_drew1 | refine below_set ?_ GE251.out) | exact HB.out)) hb); clear HO_5; clear HO_6; clear BK251; clear HB; have HO_5 := n0_; have HO_6 := n1_; have HO258 := n2_; have BK251 := n3_; have HB := n4_; clear n0_ n1_ n2_ n3_ n4_; (try clear hb); (try clear hb2); (try clear hk); (try clear hi); (try clear ho0); obtain ⟨Ao17, co17, eo17⟩ := Kd.R_slice HO_6.out; subst eo17; obtain ⟨Ao18, co18, eo18⟩ := Kd.R_slice HO258.out; subst eo18) | ((with_reducible refine gate_callee (f := 95) rfl ?_); refine goesL_ (some 21) rfl rfl Try.func95 (by kernel_rfl) rfl #[.slice Ao17 x6_1.length co17, .slice Ao18 t256.length co18] rfl (by (try simp only [List.map_toArray, List.map_cons, List.map_nil]); first | done | rfl | (simp only [List.length_drop, List.length_take]; rfl)) ?_; (with_reducible refine (impl_isBetterSet.calls k1 _ _ x6_1 _ _ t256 true _ ?side1 ?side2 ?side3 ?side4 A12.out).mono ?_); (case side1 => repeat (first | exact (Kd.R_reads' HO_6.out).2.2 | (with_reducible refine Kd.C_alloc ?_ _) | (with_reducible refine Kd.C_drewN ?_ _) | (with_reducible refine Kd.C_drew ?_))); (case side2 => exact (Kd.R_reads' HO_6.out).2.1); (case side3 => repeat (first | exact (Kd.R_reads' HO258.out).2.2 | (with_reducible refine Kd.C_alloc ?_ _) | (with_reducible refine Kd.C_drewN ?_ _) | (with_reducible refine Kd.C_drew ?_))); (case side4 => exact (Kd.R_reads' HO258.out).2.1); rintro e w' ⟨rfl, ⟨nd, rfl⟩⟩; refine ⟨_, rfl, ?_⟩; obtain ⟨Ao19, co19, eo19⟩ := Kd.S_slice HO_5.out; subst eo19) | (go_at_call 96; (with_reducible refine (impl_isFar.calls _ _ t252 _ _ t256 a1 true _ ?side1 ?side2 ?side3 ?side4 A14.out).mono ?_); (case side1 => repeat (first | exact (Kd.S_reads' HO_5.out).2.2 | (with_reducible refine Kd.C_alloc ?_ _) | (with_reducible refine Kd.C_drewN ?_ _) | (with_reducible refine Kd.C_drew ?_))); (case side2 => exact (Kd.S_reads' HO_5.out).2.1); (case side3 => repeat (first | exact (Kd.R_reads' HO258.out).2.2 | (with_reducible refine Kd.C_alloc ?_ _) | (with_reducible refine Kd.C_drewN ?_ _) | (with_reducible refine Kd.C_drew ?_))); (case side4 => exact (Kd.R_reads' HO258.out).2.1); rintro e w20 ⟨rfl, hb⟩; have n0_ := Aside0.mk (Kd.S_below (by (with_reducible repeat (first | apply Kd.S_alloc | apply Kd.S_drewN | apply Kd.S_drew)); exact HO_5.out) hb); have n1_ := Aside0.mk (Kd.R_below (by (with_reducible repeat (first | apply Kd.R_alloc | apply Kd.R_drewN | apply Kd.R_drew)); exact HO_6.out) hb); have n2_ := Aside0.mk (Kd.R_below (by (with_reducible repeat (first | apply Kd.R_alloc | apply Kd.R_drewN | apply Kd.R_drew)); exact HO258.out) hb); have n3_ := Aside0.mk (blk_below (g := gb251) (o := .cells #[.slice A0_0 l0_0.length c0_0] 56 (0, 0)) (by (with_reducible repeat (first | refine blk_drewN ?_ _ | refine blk_drew ?_ | refine blk_alloc ?_ _)); exact BK251.out) hb); have n4_ := Aside0.mk (below_step (by repeat (first | (with_reducible first | exact HB.out | apply below_alloc | apply pw_below_drewN | apply below_drew1 | refine below_set ?_ GE251.out) | exact HB.out)) hb); clear HO_5; clear HO_6; clear HO258; clear BK251; clear HB; have HO_5 := n0_; have HO_6 := n1_; have HO258 := n2_; have BK251 := n3_; have HB := n4_; clear n0_ n1_ n2_ n3_ n4_; (try clear hb); (try clear hb2); (try clear hk); (try clear hi)))
            go_roundg k1
            case measure => have := HK1.out; omega
            case rel => exact ⟨(t256), (wrap64 (x14_1 + 1)), (by first | rfl | (simp; done) | (simp [*]; done)), H', ⟨by have := HK1.out; omega⟩, ⟨by (with_reducible repeat (first | apply Kd.S_alloc | apply Kd.S_drewN | apply Kd.S_drew)); exact Kd.S_mono HO_5.out (fun _ hk => hk.2)⟩, ⟨by (with_reducible repeat (first | apply Kd.R_alloc | apply Kd.R_drewN | apply Kd.R_drew)); exact Kd.R_mono HO258.out (fun _ hk => trivial)⟩, ⟨by (with_reducible repeat (first | refine blk_drewN ?_ _ | refine blk_drew ?_ | refine blk_alloc ?_ _)); exact BK251.out⟩, ⟨by repeat (first | (with_reducible first | exact HB.out | apply below_alloc | apply pw_below_drewN | apply below_drew1 | refine below_set ?_ GE251.out) | exact HB.out)⟩⟩
          · replace c15 := Bool.eq_false_iff.mpr c15
            subst c15
            have H1 : (impl_net_largestFar.l0 k1 a1 t252 x6_1 (wrap64 (t255 + 1)) (wrap64 (x14_1 + 1))) = some r := by rw [if_neg (show ¬ (false = true) by decide)] at H; exact H
            clear H
            have H := H1
            clear H1
            have H' := Aside0.mk H
            clear H
            go_wp2_with (first | ((with_reducible refine gate_callee (f := 52) rfl ?_); refine goesL_ (some 18) rfl rfl Try.func52 (by kernel_rfl) rfl #[.int .i64 x14_1] rfl (by (try simp only [List.map_toArray, List.map_cons, List.map_nil]); first | done | rfl | (simp only [List.length_drop, List.length_take]; rfl)) ?_; (with_reducible refine (impl_setOf.calls k1 x14_1 t256 _ A11.out).mono ?_); rintro e w21 ⟨v257, rfl, ho0, hb⟩; refine ⟨_, rfl, ?_⟩; have n0_ := Aside0.mk (Kd.S_elder' (by (with_reducible repeat (first | apply Kd.S_alloc | apply Kd.S_drewN | apply Kd.S_drew)); exact HO_5.out) (Kd.R_base ho0) hb); have n1_ := Aside0.mk (Kd.R_elder' (by (with_reducible repeat (first | apply Kd.R_alloc | apply Kd.R_drewN | apply Kd.R_drew)); exact HO_6.out) (Kd.R_base ho0) hb); have n2_ := Aside0.mk (Kd.R_lower (Kd.R_new' ho0 (Kd.R_lt (by (with_reducible repeat (first | apply Kd.R_alloc | apply Kd.R_drewN | apply Kd.R_drew)); exact HO_6.out))) (below_size (by repeat (first | (with_reducible first | exact HB.out | apply below_alloc | apply pw_below_drewN | apply below_drew1 | refine below_set ?_ GE251.out) | exact HB.out)))); have n3_ := Aside0.mk (blk_below (g := gb251) (o := .cells #[.slice A0_0 l0_0.length c0_0] 56 (0, 0)) (by (with_reducible repeat (first | refine blk_drewN ?_ _ | refine blk_drew ?_ | refine blk_alloc ?_ _)); exact BK251.out) hb); have n4_ := Aside0.mk (below_step (by repeat (first | (with_reducible first | exact HB.out | apply below_alloc | apply pw_below_drewN | apply below_drew1 | refine below_set ?_ GE251.out) | exact HB.out)) hb); clear HO_5; clear HO_6; clear BK251; clear HB; have HO_5 := n0_; have HO_6 := n1_; have HO258 := n2_; have BK251 := n3_; have HB := n4_; clear n0_ n1_ n2_ n3_ n4_; (try clear hb); (try clear hb2); (try clear hk); (try clear hi); (try clear ho0); obtain ⟨Ao22, co22, eo22⟩ := Kd.R_slice HO_6.out; subst eo22; obtain ⟨Ao23, co23, eo23⟩ := Kd.R_slice HO258.out; subst eo23) | ((with_reducible refine gate_callee (f := 95) rfl ?_); refine goesL_ (some 21) rfl rfl Try.func95 (by kernel_rfl) rfl #[.slice Ao22 x6_1.length co22, .slice Ao23 t256.length co23] rfl (by (try simp only [List.map_toArray, List.map_cons, List.map_nil]); first | done | rfl | (simp only [List.length_drop, List.length_take]; rfl)) ?_; (with_reducible refine (impl_isBetterSet.calls k1 _ _ x6_1 _ _ t256 true _ ?side1 ?side2 ?side3 ?side4 A12.out).mono ?_); (case side1 => repeat (first | exact (Kd.R_reads' HO_6.out).2.2 | (with_reducible refine Kd.C_alloc ?_ _) | (with_reducible refine Kd.C_drewN ?_ _) | (with_reducible refine Kd.C_drew ?_))); (case side2 => exact (Kd.R_reads' HO_6.out).2.1); (case side3 => repeat (first | exact (Kd.R_reads' HO258.out).2.2 | (with_reducible refine Kd.C_alloc ?_ _) | (with_reducible refine Kd.C_drewN ?_ _) | (with_reducible refine Kd.C_drew ?_))); (case side4 => exact (Kd.R_reads' HO258.out).2.1); rintro e w' ⟨rfl, ⟨nd, rfl⟩⟩; refine ⟨_, rfl, ?_⟩; obtain ⟨Ao24, co24, eo24⟩ := Kd.S_slice HO_5.out; subst eo24) | (go_at_call 96; (with_reducible refine (impl_isFar.calls _ _ t252 _ _ t256 a1 false _ ?side1 ?side2 ?side3 ?side4 A14.out).mono ?_); (case side1 => repeat (first | exact (Kd.S_reads' HO_5.out).2.2 | (with_reducible refine Kd.C_alloc ?_ _) | (with_reducible refine Kd.C_drewN ?_ _) | (with_reducible refine Kd.C_drew ?_))); (case side2 => exact (Kd.S_reads' HO_5.out).2.1); (case side3 => repeat (first | exact (Kd.R_reads' HO258.out).2.2 | (with_reducible refine Kd.C_alloc ?_ _) | (with_reducible refine Kd.C_drewN ?_ _) | (with_reducible refine Kd.C_drew ?_))); (case side4 => exact (Kd.R_reads' HO258.out).2.1); rintro e w25 ⟨rfl, hb⟩; have n0_ := Aside0.mk (Kd.S_below (by (with_reducible repeat (first | apply Kd.S_alloc | apply Kd.S_drewN | apply Kd.S_drew)); exact HO_5.out) hb); have n1_ := Aside0.mk (Kd.R_below (by (with_reducible repeat (first | apply Kd.R_alloc | apply Kd.R_drewN | apply Kd.R_drew)); exact HO_6.out) hb); have n2_ := Aside0.mk (Kd.R_below (by (with_reducible repeat (first | apply Kd.R_alloc | apply Kd.R_drewN | apply Kd.R_drew)); exact HO258.out) hb); have n3_ := Aside0.mk (blk_below (g := gb251) (o := .cells #[.slice A0_0 l0_0.length c0_0] 56 (0, 0)) (by (with_reducible repeat (first | refine blk_drewN ?_ _ | refine blk_drew ?_ | refine blk_alloc ?_ _)); exact BK251.out) hb); have n4_ := Aside0.mk (below_step (by repeat (first | (with_reducible first | exact HB.out | apply below_alloc | apply pw_below_drewN | apply below_drew1 | refine below_set ?_ GE251.out) | exact HB.out)) hb); clear HO_5; clear HO_6; clear HO258; clear BK251; clear HB; have HO_5 := n0_; have HO_6 := n1_; have HO258 := n2_; have BK251 := n3_; have HB := n4_; clear n0_ n1_ n2_ n3_ n4_; (try clear hb); (try clear hb2); (try clear hk); (try clear hi)))
            go_roundg k1
            case measure => have := HK1.out; omega
            case rel => exact ⟨(x6_1), (wrap64 (x14_1 + 1)), (by first | rfl | (simp; done) | (simp [*]; done)), H', ⟨by have := HK1.out; omega⟩, ⟨by (with_reducible repeat (first | apply Kd.S_alloc | apply Kd.S_drewN | apply Kd.S_drew)); exact Kd.S_mono HO_5.out (fun _ hk => hk.1)⟩, ⟨by (with_reducible repeat (first | apply Kd.R_alloc | apply Kd.R_drewN | apply Kd.R_drew)); exact Kd.R_mono HO_6.out (fun _ hk => trivial)⟩, ⟨by (with_reducible repeat (first | refine blk_drewN ?_ _ | refine blk_drew ?_ | refine blk_alloc ?_ _)); exact BK251.out⟩, ⟨by repeat (first | (with_reducible first | exact HB.out | apply below_alloc | apply pw_below_drewN | apply below_drew1 | refine below_set ?_ GE251.out) | exact HB.out)⟩⟩
        · replace c13 := Bool.eq_false_iff.mpr c13
          subst c13
          have H1 : (impl_net_largestFar.l0 k1 a1 t252 x6_1 (wrap64 (t255 + 1)) (wrap64 (x14_1 + 1))) = some r := by rw [if_neg (show ¬ (false = true) by decide)] at H; exact H
          clear H
          have H := H1
          clear H1
          have H' := Aside0.mk H
          clear H
          go_wp2_with (first | ((with_reducible refine gate_callee (f := 52) rfl ?_); refine goesL_ (some 18) rfl rfl Try.func52 (by kernel_rfl) rfl #[.int .i64 x14_1] rfl (by (try simp only [List.map_toArray, List.map_cons, List.map_nil]); first | done | rfl | (simp only [List.length_drop, List.length_take]; rfl)) ?_; (with_reducible refine (impl_setOf.calls k1 x14_1 t256 _ A11.out).mono ?_); rintro e w26 ⟨v257, rfl, ho0, hb⟩; refine ⟨_, rfl, ?_⟩; have n0_ := Aside0.mk (Kd.S_elder' (by (with_reducible repeat (first | apply Kd.S_alloc | apply Kd.S_drewN | apply Kd.S_drew)); exact HO_5.out) (Kd.R_base ho0) hb); have n1_ := Aside0.mk (Kd.R_elder' (by (with_reducible repeat (first | apply Kd.R_alloc | apply Kd.R_drewN | apply Kd.R_drew)); exact HO_6.out) (Kd.R_base ho0) hb); have n2_ := Aside0.mk (Kd.R_lower (Kd.R_new' ho0 (Kd.R_lt (by (with_reducible repeat (first | apply Kd.R_alloc | apply Kd.R_drewN | apply Kd.R_drew)); exact HO_6.out))) (below_size (by repeat (first | (with_reducible first | exact HB.out | apply below_alloc | apply pw_below_drewN | apply below_drew1 | refine below_set ?_ GE251.out) | exact HB.out)))); have n3_ := Aside0.mk (blk_below (g := gb251) (o := .cells #[.slice A0_0 l0_0.length c0_0] 56 (0, 0)) (by (with_reducible repeat (first | refine blk_drewN ?_ _ | refine blk_drew ?_ | refine blk_alloc ?_ _)); exact BK251.out) hb); have n4_ := Aside0.mk (below_step (by repeat (first | (with_reducible first | exact HB.out | apply below_alloc | apply pw_below_drewN | apply below_drew1 | refine below_set ?_ GE251.out) | exact HB.out)) hb); clear HO_5; clear HO_6; clear BK251; clear HB; have HO_5 := n0_; have HO_6 := n1_; have HO258 := n2_; have BK251 := n3_; have HB := n4_; clear n0_ n1_ n2_ n3_ n4_; (try clear hb); (try clear hb2); (try clear hk); (try clear hi); (try clear ho0); obtain ⟨Ao27, co27, eo27⟩ := Kd.R_slice HO_6.out; subst eo27; obtain ⟨Ao28, co28, eo28⟩ := Kd.R_slice HO258.out; subst eo28) | ((with_reducible refine gate_callee (f := 95) rfl ?_); refine goesL_ (some 21) rfl rfl Try.func95 (by kernel_rfl) rfl #[.slice Ao27 x6_1.length co27, .slice Ao28 t256.length co28] rfl (by (try simp only [List.map_toArray, List.map_cons, List.map_nil]); first | done | rfl | (simp only [List.length_drop, List.length_take]; rfl)) ?_; (with_reducible refine (impl_isBetterSet.calls k1 _ _ x6_1 _ _ t256 false _ ?side1 ?side2 ?side3 ?side4 A12.out).mono ?_); (case side1 => repeat (first | exact (Kd.R_reads' HO_6.out).2.2 | (with_reducible refine Kd.C_alloc ?_ _) | (with_reducible refine Kd.C_drewN ?_ _) | (with_reducible refine Kd.C_drew ?_))); (case side2 => exact (Kd.R_reads' HO_6.out).2.1); (case side3 => repeat (first | exact (Kd.R_reads' HO258.out).2.2 | (with_reducible refine Kd.C_alloc ?_ _) | (with_reducible refine Kd.C_drewN ?_ _) | (with_reducible refine Kd.C_drew ?_))); (case side4 => exact (Kd.R_reads' HO258.out).2.1); rintro e w' ⟨rfl, ⟨nd, rfl⟩⟩; refine ⟨_, rfl, ?_⟩))
          go_roundg k1
          case measure => have := HK1.out; omega
          case rel => exact ⟨(x6_1), (wrap64 (x14_1 + 1)), (by first | rfl | (simp; done) | (simp [*]; done)), H', ⟨by have := HK1.out; omega⟩, ⟨by (with_reducible repeat (first | apply Kd.S_alloc | apply Kd.S_drewN | apply Kd.S_drew)); exact Kd.S_mono HO_5.out (fun _ hk => hk.1)⟩, ⟨by (with_reducible repeat (first | apply Kd.R_alloc | apply Kd.R_drewN | apply Kd.R_drew)); exact Kd.R_mono HO_6.out (fun _ hk => trivial)⟩, ⟨by (with_reducible repeat (first | refine blk_drewN ?_ _ | refine blk_drew ?_ | refine blk_alloc ?_ _)); exact BK251.out⟩, ⟨by repeat (first | (with_reducible first | exact HB.out | apply below_alloc | apply pw_below_drewN | apply below_drew1 | refine below_set ?_ GE251.out) | exact HB.out)⟩⟩
      · rw [if_neg c10] at H
        have c10b0 : decide (x14_1 < (wrap64 (t255 + 1))) = false := decide_eq_false c10
        clear c10
        obtain rfl := Option.some.inj H
        go_wp2
        go_ret
        exact ⟨_, by first | rfl | (simp [errW_none, errW_some] <;> rfl) | (simp [*, errW_none, errW_some] <;> rfl), by (with_reducible repeat (first | apply Kd.R_alloc | apply Kd.R_drewN | apply Kd.R_drew)); exact HO_6.out, by repeat (first | (with_reducible first | exact HB.out | apply below_alloc | apply pw_below_drewN | apply below_drew1 | refine below_set ?_ GE251.out) | exact HB.out)⟩


end Go.Proofs.Ytlbnpdkhghcejaa.QLargestFarSet
