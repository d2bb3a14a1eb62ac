import Derived.Test.YtgahlimikndecaaDoorQEternalFamily0
import Derived.Test.YtgahlimikndecaaDoorQEternalFamily6
namespace Go.Proofs.YtgahlimikndecaaDoor.QEternalFamily
open Go.RowKit Go.Proofs.YtgahlimikndecaaDoorW.PrintWords Go.Proofs.YtgahlimikndecaaDoorW.PrintLast Go.Proofs.YtgahlimikndecaaDoorW.PrintMore
attribute [local go_sem] max2_int min2_int max_two min_two max_three min_three max_four min_four   -- for this text's walks alone
set_option linter.unusedVariables false
set_option linter.unusedSimpArgs false
set_option maxRecDepth 100000
set_option maxHeartbeats 8000000
/-! ### impl_net_canMatch: function 87 -/
def idxO (q : Int → Option Bool) : List Int → Int → Option Int
 | [], _ => some (-1)
 | x :: l, i => (q x).bind fun b => if b = true then some i else idxO q l (i + 1)
theorem idxO_mono {q q' : Int → Option Bool} (h : ∀ x, LeO (q x) (q' x)) : ∀ (l : List Int) (i : Int), LeO (idxO q l i) (idxO q' l i)
 | [], _ => LeO.refl _
 | x :: l, i => by
  unfold idxO
  refine LeO.bind (h x) (fun b => ?_)
  refine LeO.ite (LeO.refl _) (idxO_mono h l _)
theorem idxO_use {q : Int → Option Bool} {l : List Int} {kk : Nat} {r : Int} (hi : kk < l.length) (h : idxO q (l.drop kk) (kk : Int) = some r) :
  ∃ b, q (rd l (kk : Int)) = some b ∧ ((b = true ∧ r = (kk : Int)) ∨ (b = false ∧ idxO q (l.drop (kk + 1)) ((kk + 1 : Nat) : Int) = some r)) := by
 have e : rd l (kk : Int) = l[kk] := by simp [rd, hi]
 rw [List.drop_eq_getElem_cons hi] at h
 unfold idxO at h
 obtain ⟨b, hb, h⟩ := Option.bind_eq_some_iff.1 h
 refine ⟨b, by rw [e];exact hb, ?_⟩
 cases b with
 | true => rw [if_pos rfl] at h;exact .inl ⟨rfl, (Option.some.inj h).symm⟩
 | false => rw [if_neg (by decide)] at h;exact .inr ⟨rfl, by rw [← h];rfl⟩
theorem indexFuncO_calls (g : Nat) (lb : Array Value) (eg : ∀ args w, (callFunc g args).run Tryd.prog w = .ok (.enter g args) w) (q : Int → Option Bool) (A : Option Addr) (c : Nat) (l : List Int) (w : World) (hr : Kd.C (Kd.int .i64) w A l.length l) (r : Int) (h : idxO q l 0 = some r)
  (hp : ∀ x b W, q x = some b → Below w.heap.size w W → Calls Tryd.prog g (#[.int .i64 x] ++ lb) W fun e w' => e = .returned (.bool b) ∧ Below W.heap.size W w') :
  Calls Tryd.prog 89 #[.slice A l.length c, .func (.func g) #[] lb] w fun e w' => e = .returned (.int .i64 r) ∧ Below w.heap.size w w' := by
 have HR := Aside0.mk hr
 have HP := Aside0.mk hp
 have hL := hr.2.1
 have HI := aM (show idxO q (l.drop 0) ((0 : Nat) : Int) = some r from h)
 clear hr hp h
 go_enter Tryd.func89, Tryd.ntmps89
 go_wp2
 go_loopg [5, 8] l.length (fun gg _ s8 wr => ∃ kk : Nat, kk ≤ l.length ∧ l.length - kk ≤ gg ∧ s8 = .int .i64 (kk : Int) ∧ Aside0 (Below w.heap.size w wr) ∧ Aside0 (idxO q (l.drop kk) (kk : Int) = some r))
 case atStart => exact ⟨0, Nat.zero_le _, by omega, rfl, ⟨Below.refl _ _⟩, HI⟩
 case round =>
  clear HI
  obtain ⟨kk, hkk, hg, rfl, HB, NY⟩ := hrel
  by_cases hlt : kk < l.length
  ·have hltz : (kk : Int) < (l.length : Int) := by omega
   have hk0 : (0 : Int) ≤ (kk : Int) := by omega
   obtain ⟨ad, rfl, hcell⟩ := Kd.at_int (Kd.C_below HR.out HB.out) (kk : Int) hk0 hltz
   rw [Int.toNat_natCast] at hcell
   obtain ⟨b, hq, hcs⟩ := idxO_use hlt NY.out
   have hcall := HP.out (rd l (kk : Int)) b wr hq HB.out
   clear hq NY
   have HC := Aside0.mk hcs
   clear hcs
   generalize hx : rd l (kk : Int) = x at hcell hcall
   clear hx
   cases b with
   | true =>
    obtain rfl : r = (kk : Int) := by rcases HC.out with h | h;exact h.2;exact absurd h.1 (by decide)
    clear HC
    go_wp2_with (go_at_fn g;refine hcall.mono ?_;rintro e w' ⟨rfl, hb⟩)
    go_ret
    exact ⟨rfl, below_step HB.out hb⟩
   | false =>
    have NY := aM (show idxO q (l.drop (kk + 1)) ((kk + 1 : Nat) : Int) = some r by rcases HC.out with h | h;exact absurd h.1 (by decide);exact h.2)
    clear HC
    go_wp2_with (go_at_fn g;refine hcall.mono ?_;rintro e w' ⟨rfl, hb⟩)
    go_roundg (l.length - (kk + 1))
    case measure => omega
    case rel => exact ⟨kk + 1, by omega, by omega, by first | rfl | go_num, ⟨below_step HB.out hb⟩, NY⟩
  ·have hltz : ¬ (kk : Int) < (l.length : Int) := by omega
   obtain rfl : kk = l.length := by omega
   obtain rfl : r = -1 := by have h := NY.out;rw [List.drop_length] at h;exact (Option.some.inj h).symm
   go_wp2
   go_ret
   exact ⟨rfl, HB.out⟩

theorem containsFuncO_calls (g : Nat) (lb : Array Value) (eg : ∀ args w, (callFunc g args).run Tryd.prog w = .ok (.enter g args) w) (q : Int → Option Bool) (A : Option Addr) (c : Nat) (l : List Int) (w : World) (hr : Kd.C (Kd.int .i64) w A l.length l) (r : Int) (h : idxO q l 0 = some r)
  (hp : ∀ x b W, q x = some b → Below w.heap.size w W → Calls Tryd.prog g (#[.int .i64 x] ++ lb) W fun e w' => e = .returned (.bool b) ∧ Below W.heap.size W w') :
  Calls Tryd.prog 65 #[.slice A l.length c, .func (.func g) #[] lb] w fun e w' => e = .returned (.bool (decide (0 ≤ r))) ∧ Below w.heap.size w w' := by
 have hcon := indexFuncO_calls g lb eg q A c l w hr r h hp
 go_enter Tryd.func65, Tryd.ntmps65
 go_wp2_with (go_at_call 89;refine hcon.mono ?_;rintro e w' ⟨rfl, hb⟩)
 go_ret
 exact ⟨rfl, hb⟩

def impl_net_canMatch.f (k : Nat) (near : List Int) : List Int → Int → Option Bool
 | [], _ => some true
 | g :: gs, tt => (impl_net_closed.f near g).bind fun cl => ((impl_setOf.f k (Go.bits .and .i64 cl tt)).bind fun l => ((idxO (fun x => if 0 ≤ x then impl_net_canMatch.f k near gs (Go.bits .andNot .i64 tt (shl .i64 1 x)) else none) l 0).bind fun j => some (decide (0 ≤ j))))
theorem impl_net_canMatch.mono : ∀ a0 a1 a2 k, LeO (impl_net_canMatch.f k a0 a1 a2) (impl_net_canMatch.f (k + 1) a0 a1 a2) := by
 intro near gs
 induction gs with
 | nil => intro tt k;exact LeO.refl _
 | cons g gs ih =>
  intro tt k
  unfold impl_net_canMatch.f
  refine LeO.bind (LeO.refl _) (fun cl => ?_)
  refine LeO.bind (impl_setOf.mono _ _) (fun l => ?_)
  refine LeO.bind (idxO_mono (fun x => ?_) _ _) (fun j => LeO.refl _)
  exact LeO.ite (ih _ _) (LeO.none _)
def CanMatchIH (k : Nat) (near gs : List Int) : Prop := ∀ (A0 : Option Addr) (c0 : Nat) (A1 : Option Addr) (c1 : Nat) (tt : Int) (r : Bool) (w : World), Kd.C (Kd.int .i64) w A0 near.length near → near.length ≤ c0 → Kd.C (Kd.int .i64) w A1 gs.length gs → gs.length ≤ c1 → impl_net_canMatch.f k near gs tt = some r →
  Calls Tryd.prog 87 #[.agg #[.slice A0 near.length c0], .slice A1 gs.length c1, .int .i64 tt] w fun e w' => e = .returned (.bool r) ∧ Below w.heap.size w w'
def canMatch_fn.T1 : Bool × List (List Nat × List Nat) := (true, [([], []), ([], []), ([1], [1]), ([], []), ([], []), ([4], [4]), ([3, 5], [3, 5]), ([0, 2, 6], [0, 2, 6]), ([7, 7, 0, 1, 2, 3, 4, 5, 6, 7], [7])])
def canMatch_fn.B1 : List Nat := [0, 0, 2, 0, 0, 16, 56, 127, 255]
theorem canMatch_fn.tab1 : rtab .any (opsOf Tryd.f99 1) = canMatch_fn.T1 := by kernel_rfl
theorem canMatch_fn.bits1 : waitsOk canMatch_fn.T1.2 canMatch_fn.B1 = true := by kernel_rfl
theorem canMatch_fn (k : Nat) (near : List Int) (g : Int) (gs : List Int) (m : Nat) (hm : (g :: gs).length = m) (tt x : Int) (b : Bool) (gN gG gT : Nat) (A : Option Addr) (c : Nat) (A1 : Option Addr) (c1 : Nat) (W : World)
  (hN : W.cell? ⟨gN, 0, none⟩ = some (.slice A near.length c)) (hG : W.cell? ⟨gG, 0, none⟩ = some (.slice A1 m c1)) (hT : W.cell? ⟨gT, 0, none⟩ = some (.int .i64 tt))
  (hC : Kd.C (Kd.int .i64) W A near.length near) (hc : near.length ≤ c) (hC1 : Kd.C (Kd.int .i64) W A1 m (g :: gs)) (hc1 : m ≤ c1) (h0 : 0 ≤ x) (h : impl_net_canMatch.f k near gs (Go.bits .andNot .i64 tt (shl .i64 1 x)) = some b) (IH : CanMatchIH k near gs) :
  Calls Tryd.prog 99 (#[.int .i64 x] ++ #[.pointer (some ⟨gN, 0, none⟩), .pointer (some ⟨gG, 0, none⟩), .pointer (some ⟨gT, 0, none⟩)]) W fun e w' => e = .returned (.bool b) ∧ Below W.heap.size W w' := by
 have HIH := Aside0.mk IH
 obtain ⟨i0, hi0, _, hsz0, _⟩ := info_parts info3
 have hcl : (g :: gs).length ≤ c1 := by omega
 have h1l : (1 : Int) ≤ ((g :: gs).length : Int) := by simp only [List.length_cons];omega
 obtain ⟨A2, hcut, hA2, hC2⟩ := print_drop_of (P := Tryd.prog) (Value.int .i64) 0 36 3 .i64 Tryd.underlying36 hi0 hsz0 A1 c1 (g :: gs) 1 (by decide) h1l hcl
 rw [← hm] at hC1
 have hRG := Kd.C_of_reads (h1 := fun _ => rfl) (hA2 _ (Kd.reads_of_C hC1))
 have hdrop : (g :: gs).drop (1 : Int).toNat = gs := rfl
 rw [hdrop] at hcut hC2 hRG
 rw [hm] at hcut
 have HRG := Aside0.mk hRG
 have HCG := Aside0.mk hC2
 have HR := Aside0.mk hC
 have HCC := Aside0.mk hc
 have HB := aM (below_drew1 (Below.refl W.heap.size W))
 generalize hji : shl .i64 1 x = ji at h
 have hji_ : (IntKind.i64.wrap (1 * 2 ^ min x.toNat 64)) = ji := hji
 have hjiz : x ≤ 64 → (IntKind.i64.wrap (1 * 2 ^ x.toNat)) = ji := shl_small hji
 have hjiu : (IntKind.i64.wrap (2 ^ min x.toNat 64)) = ji := by have h_ := hji_;rw [Int.one_mul] at h_;exact h_
 have hjiv : x ≤ 64 → (IntKind.i64.wrap (2 ^ x.toNat)) = ji := fun hle_ => by have h_ := hjiz hle_;rw [Int.one_mul] at h_;exact h_
 have hjiy : (wrap64 (1 * 2 ^ min x.toNat 64)) = ji := (i64_w _).symm.trans hji_
 have hjix : x ≤ 64 → (wrap64 (1 * 2 ^ x.toNat)) = ji := fun h_ => (i64_w _).symm.trans (hjiz h_)
 have HF := Aside0.mk h
 have p0 : (0 ≤ x) = True := eq_true h0
 have p1 : (x < 0) = False := eq_false (by omega)
 have p2 : decide (0 ≤ x) = true := decide_eq_true h0
 have p3 : decide (x < 0) = false := decide_eq_false (by omega)
 clear h IH hC hc hC1 hc1 h0 hRG hC2 hA2 hm hcl h1l hi0 hsz0 hdrop
 show Calls Tryd.prog 99 #[.int .i64 x, .pointer (some ⟨gN, 0, none⟩), .pointer (some ⟨gG, 0, none⟩), .pointer (some ⟨gT, 0, none⟩)] W _
 go_enter Tryd.func99, Tryd.ntmps99
 try go_wp2
 refine start_ (n := 9) (S := fun w' => w'.cell? ⟨gN, 0, none⟩ = some (.slice A near.length c) ∧ w'.cell? ⟨gG, 0, none⟩ = some (.slice A1 m c1) ∧ w'.cell? ⟨gT, 0, none⟩ = some (.int .i64 tt)) (ds := []) (pT 0 9) (by kernel_rfl) rfl rfl ⟨hN, hG, hT⟩ (fun hHeld => ?_);refine with_tabW canMatch_fn.tab1 canMatch_fn.bits1 (fun HT_ HW_ => ?_)
 have HR' := aM (Kd.C_drew HR.out)
 have HRG' := aM (Kd.C_drew HRG.out)
 clear HR HRG hN hG hT
 generalize W.drew = w6 at HB HR' HRG' hHeld ⊢
 refine pure_ (i := 4) (N := some 10) (v := ?_) (a' := ?_) #[false,false,false,false,true,false,false,false,false] rfl rfl (any_of HT_.out (by kernel_rfl)) (fun _ _ _ h => h) (Or.inl ⟨by rfl, ?_⟩) ?_ ?_
 rotate_left
 ·intro w'
  go_simp
  with_reducible rfl
 rotate_left
 ·exact aP
 refine take_ (i := 0) (N := some 6) (v := ?_) (a' := ?_) #[true,false,false,false,true,false,false,false,false] rfl rfl (take_ofW HT_.out HW_.out (by kernel_rfl)) (fun _ _ _ h => h) (Or.inl ⟨by rfl, ?_⟩) hHeld ?_ ?_
 rotate_left
 ·rintro w' ⟨s0, s1, s2⟩
  go_simp
  with_reducible rfl
 rotate_left
 ·exact aP
 refine take_ (i := 1) (N := some 7) (v := ?_) (a' := ?_) #[true,true,false,false,true,false,false,false,false] rfl rfl (take_ofW HT_.out HW_.out (by kernel_rfl)) (fun _ _ _ h => h) (Or.inl ⟨by rfl, ?_⟩) hHeld ?_ ?_
 rotate_left
 ·rintro w' ⟨s0, s1, s2⟩
  go_simp
  with_reducible rfl
 rotate_left
 ·exact aP
 refine take_ (i := 3) (N := some 9) (v := ?_) (a' := ?_) #[true,true,false,true,true,false,false,false,false] rfl rfl (take_ofW HT_.out HW_.out (by kernel_rfl)) (fun _ _ _ h => h) (Or.inl ⟨by rfl, ?_⟩) hHeld ?_ ?_
 rotate_left
 ·rintro w' ⟨s0, s1, s2⟩
  go_simp
  with_reducible rfl
 rotate_left
 ·exact aP
 refine pure_ (i := 2) (N := some 8) (v := ?_) (a' := ?_) (pT 5 4) rfl rfl (any_of HT_.out (by kernel_rfl)) (fun _ _ _ h => h) (Or.inl ⟨by rfl, ?_⟩) ?_ ?_
 rotate_left
 ·intro w'
  go_simp
  with_reducible rfl
 rotate_left
 ·exact aP
 refine pure_ (i := 5) (N := some 11) (v := ?_) (a' := ?_) (pT 6 3) rfl rfl (any_of HT_.out (by kernel_rfl)) (fun _ _ _ h => h) (Or.inl ⟨by rfl, ?_⟩) ?_ ?_
 rotate_left
 ·intro w'
  go_simp
  with_reducible rfl
 rotate_left
 ·exact aP
 refine pure_ (i := 6) (N := some 12) (v := ?_) (a' := ?_) (pT 7 2) rfl rfl (any_of HT_.out (by kernel_rfl)) (fun _ _ _ h => h) (Or.inl ⟨by rfl, ?_⟩) ?_ ?_
 rotate_left
 ·intro w'
  go_simp
  with_reducible rfl
 rotate_left
 ·exact aP
 refine one_ (i := 7) (N := some 13) (pT 8 1) rfl rfl (one_of HT_.out (by kernel_rfl)) (by decide) (fun K hK => ?_)
 refine goes_ Tryd.func87 (by kernel_rfl) rfl #[.agg #[.slice A near.length c], .slice A2 gs.length (c1 - (1 : Int).toNat), .int .i64 (Go.bits .andNot .i64 tt ji)] (by rfl) rfl rfl mM ?_
 refine (HIH.out A c A2 _ _ b w6 HR'.out HCC.out HRG'.out HCG.out HF.out).mono ?_
 rintro e w13 ⟨rfl, hb⟩
 refine ⟨_, rfl, ?_⟩
 have hs0 := (hb.cell (World.block_lt_of_cell? _ _ hHeld.1)).trans hHeld.1
 have hs1 := (hb.cell (World.block_lt_of_cell? _ _ hHeld.2.1)).trans hHeld.2.1
 have hs2 := (hb.cell (World.block_lt_of_cell? _ _ hHeld.2.2)).trans hHeld.2.2
 have HB2 := aM (below_step HB.out hb)
 refine hK.out _ _ ⟨hs0, hs1, hs2⟩ (fun hHeld => ?_)
 clear hs0 hs1 hs2 hb
 clear hK K
 refine norm_ (a' := ?_) ?_ ?_
 rotate_left
 ·show Act.put _ (some 13) _ = _
  simp only [Act.put, List.setIfInBounds_toArray, List.set_cons_zero, List.set_cons_succ, i64_w, i32_w]
  rfl
 refine pure_ (i := 8) (N := some 5) (v := ?_) (a' := ?_) (pT 9 0) rfl rfl (any_of HT_.out (by kernel_rfl)) (fun _ _ _ h => h) (Or.inl ⟨by rfl, ?_⟩) ?_ ?_
 rotate_left
 ·intro w'
  go_simp
  with_reducible rfl
 rotate_left
 ·exact aP
 refine done_ (done_of HT_.out (by kernel_rfl)) ?_
 try go_wp2
 go_ret
 exact ⟨by first | rfl | simp, HB2.out⟩
def impl_net_canMatch.T3 : Bool × List (List Nat × List Nat) := (true, [([], []), ([], []), ([1], [1]), ([2], [2]), ([0, 3], [0, 3]), ([], []), ([4, 5], [4, 5]), ([6, 4], [6]), ([], []), ([7, 8, 7], [7, 8]), ([9, 9, 0, 1, 2, 3, 4, 5, 6, 7, 8, 9], [9])])
def impl_net_canMatch.B3 : List Nat := [0, 0, 2, 6, 15, 0, 63, 127, 0, 511, 1023]
theorem impl_net_canMatch.tab3 : rtab .any (opsOf Tryd.f87 3) = impl_net_canMatch.T3 := by kernel_rfl
theorem impl_net_canMatch.bits3 : waitsOk impl_net_canMatch.T3.2 impl_net_canMatch.B3 = true := by kernel_rfl
theorem impl_net_canMatch.step (k : Nat) (g : Int) (gs : List Int) (l0_0 : List Int) (IH : CanMatchIH k l0_0 gs) : CanMatchIH k l0_0 (g :: gs) := by
 intro A0_0 c0_0 A1 c1 a2 r w hr0_0 hc0_0 hr1 hc1 h
 have H : ((impl_net_closed.f l0_0 g).bind fun cl => ((impl_setOf.f k (Go.bits .and .i64 cl a2)).bind fun l => ((idxO (fun x => if 0 ≤ x then impl_net_canMatch.f k l0_0 gs (Go.bits .andNot .i64 a2 (shl .i64 1 x)) else none) l 0).bind fun j => some (decide (0 ≤ j))))) = some r := h
 clear h
 obtain ⟨cl, A3, H1⟩ := Option.bind_eq_some_iff.mp H
 clear H
 obtain ⟨l, A4, H2⟩ := Option.bind_eq_some_iff.mp H1
 clear H1
 obtain ⟨j, A5, H3⟩ := Option.bind_eq_some_iff.mp H2
 clear H2
 obtain rfl := Option.some.inj H3
 clear H3
 have hm : (g :: gs).length = gs.length + 1 := rfl
 obtain ⟨ad, had, hx0⟩ := Kd.at_int hr1 (0 : Int) (by decide) (by rw [hm];omega)
 generalize hmm : (g :: gs).length = m at hr1 hc1 hm
 have hrd : rd (g :: gs) (0 : Int) = g := rfl
 rw [hrd, Int.toNat_zero] at hx0
 have hadd : ad.add 0 = ad := by unfold Addr.add;first | rfl | (split <;> rfl) | (split <;> simp_all) | simp
 rw [hadd] at hx0
 clear hadd
 clear hrd
 have hmz : ((m : Int) = 0) = False := eq_false (by omega)
 have hmz2 : ((m : Int) == 0) = false := by rw [beq_eq_false_iff_ne];omega
 have hmz3 : decide ((m : Int) = 0) = false := decide_eq_false (by omega)
 have hm1 : ((0 : Int) < (m : Int)) = True := eq_true (by omega)
 have hm2 : (0 < m) = True := eq_true (by omega)
 have hm3 : decide ((0 : Int) < (m : Int)) = true := decide_eq_true (by omega)
 subst had
 have HA3 := Aside0.mk A3;have HA4 := Aside0.mk A4;have HA5 := Aside0.mk A5;have HIH := Aside0.mk IH
 have HR0 := Aside0.mk hr0_0;have HC0 := Aside0.mk hc0_0;have HR1 := Aside0.mk hr1;have HC1 := Aside0.mk hc1;have HM := Aside0.mk hmm;have HX := Aside0.mk hx0
 clear A3 A4 A5 IH hr0_0 hc0_0 hr1 hc1 hm hmm hx0
 have HB := aM (Below.refl w.heap.size w)
 have hu1 := Tryd.underlying56
 have hu2 := Tryd.underlying36
 go_enter Tryd.func87, Tryd.ntmps87
 go_wp2_with (first | ((with_reducible refine gate_dst (N := 3) rfl ?_);refine box_event ?hg (N := 3) ?hd (cs := #[.slice A0_0 l0_0.length c0_0]) (t := 56) ?hr ?_;(case hd => rfl);(case hg => rfl);(case hr => exact gS);intro gbN hg w3 hbox hb;have n0_ := aM (below_step HB.out hb);have n9_ := Aside0.mk hbox;clear HB;have HB := n0_;have BKgbN := n9_;clear n0_ n9_ hb hbox hg) | ((with_reducible refine gate_dst (N := 4) rfl ?_);refine box_event ?hg (N := 4) ?hd (cs := #[.slice (some ad) m c1]) (t := 36) ?hr ?_;(case hd => rfl);(case hg => rfl);(case hr => exact gS);intro gbG hg w4 hbox hb;have n0_ := aM (below_step HB.out hb);have mgbN_ := aM (blk_below (g := gbN) (o := .cells #[.slice A0_0 l0_0.length c0_0] 56 (0, 0)) BKgbN.out hb);clear BKgbN;have BKgbN := mgbN_;clear mgbN_;have n9_ := Aside0.mk hbox;clear HB;have HB := n0_;have BKgbG := n9_;clear n0_ n9_ hb hbox hg) | ((with_reducible refine gate_dst (N := 5) rfl ?_);refine box_event ?hg (N := 5) ?hd (cs := #[.int .i64 a2]) (t := 3) ?hr ?_;(case hd => rfl);(case hg => rfl);(case hr => exact gS);intro gbT hg w5 hbox hb;have n0_ := aM (below_step HB.out hb);have mgbN_ := aM (blk_below (g := gbN) (o := .cells #[.slice A0_0 l0_0.length c0_0] 56 (0, 0)) BKgbN.out hb);clear BKgbN;have BKgbN := mgbN_;clear mgbN_;have mgbG_ := aM (blk_below (g := gbG) (o := .cells #[.slice (some ad) m c1] 36 (0, 0)) BKgbG.out hb);clear BKgbG;have BKgbG := mgbG_;clear mgbG_;have n9_ := Aside0.mk hbox;clear HB;have HB := n0_;have BKgbT := n9_;clear n0_ n9_ hb hbox hg;have hcN := (blk_cell BKgbN.out 0).trans rfl;have hcG := (blk_cell BKgbG.out 0).trans rfl;have hcT := (blk_cell BKgbT.out 0).trans rfl))
 try go_wp2
 have hx1 := pw_cell_below HB.out HX.out
 refine start_ (n := 11) (S := fun w' => w'.cell? ⟨gbN, 0, none⟩ = some (.slice A0_0 l0_0.length c0_0) ∧ w'.cell? ⟨gbG, 0, none⟩ = some (.slice (some ad) m c1) ∧ w'.cell? ⟨gbT, 0, none⟩ = some (.int .i64 a2) ∧ w'.cell? ad = some (.int .i64 g)) (ds := []) (pT 0 11) (by kernel_rfl) rfl rfl ⟨hcN, hcG, hcT, hx1⟩ (fun hHeld => ?_);refine with_tabW impl_net_canMatch.tab3 impl_net_canMatch.bits3 (fun HT_ HW_ => ?_)
 have HB1 := aM (below_drew1 HB.out)
 have HR' := aM (Kd.C_drew (Kd.C_below HR0.out HB.out))
 have HR1' := aM (Kd.C_drew (Kd.C_below HR1.out HB.out))
 have BN := aM (blk_drew BKgbN.out)
 have BG := aM (blk_drew BKgbG.out)
 have BT := aM (blk_drew BKgbT.out)
 clear HR0 HR1 HB BKgbN BKgbG BKgbT hcN hcG hcT HX hx1
 generalize w5.drew = w6 at HB1 HR' HR1' BN BG BT hHeld ⊢
 refine pure_ (i := 8) (N := some 18) (v := ?_) (a' := ?_) #[false,false,false,false,false,false,false,false,true,false,false] rfl rfl (any_of HT_.out (by kernel_rfl)) (fun _ _ _ h => h) (Or.inl ⟨by rfl, ?_⟩) ?_ ?_
 rotate_left
 ·intro w'
  go_simp
  with_reducible rfl
 rotate_left
 ·exact aP
 refine take_ (i := 0) (N := some 10) (v := ?_) (a' := ?_) #[true,false,false,false,false,false,false,false,true,false,false] rfl rfl (take_ofW HT_.out HW_.out (by kernel_rfl)) (fun _ _ _ h => h) (Or.inl ⟨by rfl, ?_⟩) hHeld ?_ ?_
 rotate_left
 ·rintro w' ⟨s0, s1, s2, s3⟩
  go_simp
  with_reducible rfl
 rotate_left
 ·exact aP
 refine take_ (i := 1) (N := some 11) (v := ?_) (a' := ?_) #[true,true,false,false,false,false,false,false,true,false,false] rfl rfl (take_ofW HT_.out HW_.out (by kernel_rfl)) (fun _ _ _ h => h) (Or.inl ⟨by rfl, ?_⟩) hHeld ?_ ?_
 rotate_left
 ·rintro w' ⟨s0, s1, s2, s3⟩
  go_simp
  with_reducible rfl
 rotate_left
 ·exact aP
 refine take_ (i := 5) (N := some 15) (v := ?_) (a' := ?_) #[true,true,false,false,false,true,false,false,true,false,false] rfl rfl (take_ofW HT_.out HW_.out (by kernel_rfl)) (fun _ _ _ h => h) (Or.inl ⟨by rfl, ?_⟩) hHeld ?_ ?_
 rotate_left
 ·rintro w' ⟨s0, s1, s2, s3⟩
  go_simp
  with_reducible rfl
 rotate_left
 ·exact aP
 refine pure_ (i := 2) (N := some 12) (v := ?_) (a' := ?_) #[true,true,true,false,false,true,false,false,true,false,false] rfl rfl (any_of HT_.out (by kernel_rfl)) (fun _ _ _ h => h) (Or.inl ⟨by rfl, ?_⟩) ?_ ?_
 rotate_left
 ·intro w'
  go_simp
  with_reducible rfl
 rotate_left
 ·exact aP
 refine take_ (i := 3) (N := some 13) (v := ?_) (a' := ?_) #[true,true,true,true,false,true,false,false,true,false,false] rfl rfl (take_ofW HT_.out HW_.out (by kernel_rfl)) (fun _ _ _ h => h) (Or.inl ⟨by rfl, ?_⟩) hHeld ?_ ?_
 rotate_left
 ·rintro w' ⟨s0, s1, s2, s3⟩
  go_simp
  with_reducible rfl
 rotate_left
 ·exact aP
 refine one_ (i := 4) (N := some 14) #[true,true,true,true,true,true,false,false,true,false,false] rfl rfl (one_of HT_.out (by kernel_rfl)) (by decide) (fun K hK => ?_)
 refine goes_ Tryd.func98 (by kernel_rfl) rfl #[.agg #[.slice A0_0 l0_0.length c0_0], .int .i64 g] (by rfl) rfl rfl mM ?_
 refine (impl_net_closed.calls _ _ l0_0 g cl _ HR'.out HC0.out HA3.out).mono ?_
 rintro e w7 ⟨rfl, hb⟩
 refine ⟨_, rfl, ?_⟩
 have hs0 := (hb.cell (World.block_lt_of_cell? _ _ hHeld.1)).trans hHeld.1
 have hs1 := (hb.cell (World.block_lt_of_cell? _ _ hHeld.2.1)).trans hHeld.2.1
 have hs2 := (hb.cell (World.block_lt_of_cell? _ _ hHeld.2.2.1)).trans hHeld.2.2.1
 have hs3 := (hb.cell (World.block_lt_of_cell? _ _ hHeld.2.2.2)).trans hHeld.2.2.2
 have n0_ := aM (below_step HB1.out hb)
 have n1_ := aM (Kd.C_below HR'.out hb)
 have n2_ := aM (Kd.C_below HR1'.out hb)
 have n3_ := aM (blk_below BN.out hb)
 have n4_ := aM (blk_below BG.out hb)
 have n5_ := aM (blk_below BT.out hb)
 clear HB1 HR' HR1' BN BG BT
 have HB1 := n0_
 have HR' := n1_
 have HR1' := n2_
 have BN := n3_
 have BG := n4_
 have BT := n5_
 clear n0_ n1_ n2_ n3_ n4_ n5_
 refine hK.out _ _ ⟨hs0, hs1, hs2, hs3⟩ (fun hHeld => ?_)
 clear hs0 hs1 hs2 hs3 hb
 clear hK K
 refine norm_ (a' := ?_) ?_ ?_
 rotate_left
 ·show Act.put _ (some 14) _ = _
  simp only [Act.put, List.setIfInBounds_toArray, List.set_cons_zero, List.set_cons_succ, i64_w, i32_w]
  rfl
 refine pure_ (i := 6) (N := some 16) (v := ?_) (a' := ?_) #[true,true,true,true,true,true,true,false,true,false,false] rfl rfl (any_of HT_.out (by kernel_rfl)) (fun _ _ _ h => h) (Or.inl ⟨by rfl, ?_⟩) ?_ ?_
 rotate_left
 ·intro w'
  go_simp
  with_reducible rfl
 rotate_left
 ·exact aP
 refine one_ (i := 7) (N := some 17) (pT 9 2) rfl rfl (one_of HT_.out (by kernel_rfl)) (by decide) (fun K hK => ?_)
 refine goes_ Tryd.func84 (by kernel_rfl) rfl #[.int .i64 (Go.bits .and .i64 cl a2)] (by rfl) rfl rfl mM ?_
 refine (impl_setOf.calls k _ l _ HA4.out).mono ?_
 rintro e w8 ⟨v8, rfl, ho0, hb⟩
 refine ⟨_, rfl, ?_⟩
 have hs0 := (hb.cell (World.block_lt_of_cell? _ _ hHeld.1)).trans hHeld.1
 have hs1 := (hb.cell (World.block_lt_of_cell? _ _ hHeld.2.1)).trans hHeld.2.1
 have hs2 := (hb.cell (World.block_lt_of_cell? _ _ hHeld.2.2.1)).trans hHeld.2.2.1
 have hs3 := (hb.cell (World.block_lt_of_cell? _ _ hHeld.2.2.2)).trans hHeld.2.2.2
 have n0_ := aM (below_step HB1.out hb)
 have n1_ := aM (Kd.C_below HR'.out hb)
 have n2_ := aM (Kd.C_below HR1'.out hb)
 have n3_ := aM (blk_below BN.out hb)
 have n4_ := aM (blk_below BG.out hb)
 have n5_ := aM (blk_below BT.out hb)
 clear HB1 HR' HR1' BN BG BT
 have HB1 := n0_
 have HR' := n1_
 have HR1' := n2_
 have BN := n3_
 have BG := n4_
 have BT := n5_
 clear n0_ n1_ n2_ n3_ n4_ n5_
 have HL := Aside0.mk ho0
 refine hK.out _ _ ⟨hs0, hs1, hs2, hs3⟩ (fun hHeld => ?_)
 clear hs0 hs1 hs2 hs3 hb
 clear hK K
 refine norm_ (a' := ?_) ?_ ?_
 rotate_left
 ·show Act.put _ (some 17) _ = _
  simp only [Act.put, List.setIfInBounds_toArray, List.set_cons_zero, List.set_cons_succ, i64_w, i32_w]
  rfl
 obtain ⟨Ao9, co9, eo9⟩ := Kd.R_slice HL.out
 subst eo9
 refine one_ (i := 9) (N := some 19) (pT 10 1) rfl rfl (one_of HT_.out (by kernel_rfl)) (by decide) (fun K hK => ?_)
 refine goes_ Tryd.func65 (by kernel_rfl) rfl #[.slice Ao9 l.length co9, .func (.func 99) #[] #[.pointer (some ⟨gbN, 0, none⟩), .pointer (some ⟨gbG, 0, none⟩), .pointer (some ⟨gbT, 0, none⟩)]] (by rfl) rfl rfl mM ?_
 refine (containsFuncO_calls 99 _ (enters_of Tryd.func99 (by kernel_rfl) rfl) _ _ _ l _ (Kd.R_reads' HL.out).2.2 j HA5.out (fun x b W hq hbw => by split at hq;(rename_i h0x;exact canMatch_fn k l0_0 g gs m HM.out a2 x b gbN gbG gbT A0_0 c0_0 (some ad) c1 W ((blk_cell (blk_below BN.out hbw) 0).trans rfl) ((blk_cell (blk_below BG.out hbw) 0).trans rfl) ((blk_cell (blk_below BT.out hbw) 0).trans rfl) (Kd.C_below HR'.out hbw) HC0.out (Kd.C_below HR1'.out hbw) HC1.out h0x hq HIH.out);cases hq)).mono ?_
 rintro e w9 ⟨rfl, hb⟩
 refine ⟨_, rfl, ?_⟩
 have hs0 := (hb.cell (World.block_lt_of_cell? _ _ hHeld.1)).trans hHeld.1
 have hs1 := (hb.cell (World.block_lt_of_cell? _ _ hHeld.2.1)).trans hHeld.2.1
 have hs2 := (hb.cell (World.block_lt_of_cell? _ _ hHeld.2.2.1)).trans hHeld.2.2.1
 have hs3 := (hb.cell (World.block_lt_of_cell? _ _ hHeld.2.2.2)).trans hHeld.2.2.2
 have n0_ := aM (below_step HB1.out hb)
 have n1_ := aM (Kd.C_below HR'.out hb)
 have n2_ := aM (Kd.C_below HR1'.out hb)
 have n3_ := aM (blk_below BN.out hb)
 have n4_ := aM (blk_below BG.out hb)
 have n5_ := aM (blk_below BT.out hb)
 clear HB1 HR' HR1' BN BG BT
 have HB1 := n0_
 have HR' := n1_
 have HR1' := n2_
 have BN := n3_
 have BG := n4_
 have BT := n5_
 clear n0_ n1_ n2_ n3_ n4_ n5_
 refine hK.out _ _ ⟨hs0, hs1, hs2, hs3⟩ (fun hHeld => ?_)
 clear hs0 hs1 hs2 hs3 hb
 clear hK K
 refine norm_ (a' := ?_) ?_ ?_
 rotate_left
 ·show Act.put _ (some 19) _ = _
  simp only [Act.put, List.setIfInBounds_toArray, List.set_cons_zero, List.set_cons_succ, i64_w, i32_w]
  rfl
 refine pure_ (i := 10) (N := some 6) (v := ?_) (a' := ?_) (pT 11 0) rfl rfl (any_of HT_.out (by kernel_rfl)) (fun _ _ _ h => h) (Or.inl ⟨by rfl, ?_⟩) ?_ ?_
 rotate_left
 ·intro w'
  go_simp
  with_reducible rfl
 rotate_left
 ·exact aP
 refine done_ (done_of HT_.out (by kernel_rfl)) ?_
 try go_wp2
 go_ret
 exact ⟨by first | rfl | simp, HB1.out⟩
theorem impl_net_canMatch.none_ (k : Nat) (l0_0 : List Int) : CanMatchIH k l0_0 [] := by
 intro A0_0 c0_0 A1 c1 a2 r w hr0_0 hc0_0 hr1 hc1 h
 obtain rfl : r = true := (Option.some.inj h).symm
 clear h hr0_0 hc0_0 hr1 hc1
 have HB := aM (Below.refl w.heap.size w)
 have hu1 := Tryd.underlying56
 have hu2 := Tryd.underlying36
 show Calls Tryd.prog 87 #[.agg #[.slice A0_0 l0_0.length c0_0], .slice A1 0 c1, .int .i64 a2] w _
 go_enter Tryd.func87, Tryd.ntmps87
 go_wp2_with (first | ((with_reducible refine gate_dst (N := 3) rfl ?_);refine box_event ?hg (N := 3) ?hd (cs := #[.slice A0_0 l0_0.length c0_0]) (t := 56) ?hr ?_;(case hd => rfl);(case hg => rfl);(case hr => exact gS);intro gbN hg w3 hbox hb;have n0_ := aM (below_step HB.out hb);have n9_ := Aside0.mk hbox;clear HB;have HB := n0_;have BKgbN := n9_;clear n0_ n9_ hb hbox hg) | ((with_reducible refine gate_dst (N := 4) rfl ?_);refine box_event ?hg (N := 4) ?hd (cs := #[.slice A1 0 c1]) (t := 36) ?hr ?_;(case hd => rfl);(case hg => rfl);(case hr => exact gS);intro gbG hg w4 hbox hb;have n0_ := aM (below_step HB.out hb);have mgbN_ := aM (blk_below (g := gbN) (o := .cells #[.slice A0_0 l0_0.length c0_0] 56 (0, 0)) BKgbN.out hb);clear BKgbN;have BKgbN := mgbN_;clear mgbN_;have n9_ := Aside0.mk hbox;clear HB;have HB := n0_;have BKgbG := n9_;clear n0_ n9_ hb hbox hg) | ((with_reducible refine gate_dst (N := 5) rfl ?_);refine box_event ?hg (N := 5) ?hd (cs := #[.int .i64 a2]) (t := 3) ?hr ?_;(case hd => rfl);(case hg => rfl);(case hr => exact gS);intro gbT hg w5 hbox hb;have n0_ := aM (below_step HB.out hb);have mgbN_ := aM (blk_below (g := gbN) (o := .cells #[.slice A0_0 l0_0.length c0_0] 56 (0, 0)) BKgbN.out hb);clear BKgbN;have BKgbN := mgbN_;clear mgbN_;have mgbG_ := aM (blk_below (g := gbG) (o := .cells #[.slice A1 0 c1] 36 (0, 0)) BKgbG.out hb);clear BKgbG;have BKgbG := mgbG_;clear mgbG_;have n9_ := Aside0.mk hbox;clear HB;have HB := n0_;have BKgbT := n9_;clear n0_ n9_ hb hbox hg;have hcN := (blk_cell BKgbN.out 0).trans rfl;have hcG := (blk_cell BKgbG.out 0).trans rfl;have hcT := (blk_cell BKgbT.out 0).trans rfl))
 go_ret
 exact ⟨by first | rfl | simp, HB.out⟩
theorem impl_net_canMatch.calls (k : Nat) (A0_0 : Option Addr) (c0_0 : Nat) (l0_0 : List Int) (A1 : Option Addr) (c1 : Nat) (l1 : List Int) (a2 : Int) (r : Bool) (w : World) (hr0_0 : Kd.C (Kd.int .i64) w A0_0 l0_0.length l0_0) (hc0_0 : l0_0.length ≤ c0_0) (hr1 : Kd.C (Kd.int .i64) w A1 l1.length l1) (hc1 : l1.length ≤ c1) (h : impl_net_canMatch.f k l0_0 l1 a2 = some r) :
  Calls Tryd.prog 87 #[.agg #[.slice A0_0 l0_0.length c0_0], .slice A1 l1.length c1, .int .i64 a2] w fun e w' => e = .returned (.bool r) ∧ Below w.heap.size w w' := by
 have H : ∀ gs, CanMatchIH k l0_0 gs := fun gs => by
  induction gs with
  | nil => exact impl_net_canMatch.none_ k l0_0
  | cons g gs ih => exact impl_net_canMatch.step k g gs l0_0 ih
 exact H l1 A0_0 c0_0 A1 c1 a2 r w hr0_0 hc0_0 hr1 hc1 h

/-! ### impl_net_canMoveGuards: function 62 -/
def impl_net_canMoveGuards.f (k : Nat) (l0_0 : List Int) (a1 : Int) (a2 : Int) (a3 : Bool) : Option (Bool) := if a3 = true then ((impl_setOf.f k a1).bind fun t449 => ((impl_net_canMatch.f k l0_0 t449 a2).bind fun t452 => (some t452))) else ((bits_OnesCount.f (IntKind.u64.wrap (Go.bits .andNot .i64 a1 a2))).bind fun t453 => (if t453 = 1 then ((bits_TrailingZeros.f (IntKind.u64.wrap (Go.bits .andNot .i64 a1 a2))).bind fun t454 => (if 0 ≤ t454 then (if t454 < (l0_0.length : Int) then (some ((Go.bits .and .i64 (rd l0_0 t454) (Go.bits .andNot .i64 a2 a1)) != 0)) else (none)) else (none))) else (some false)))
theorem impl_net_canMoveGuards.mono : ∀ a0 a1 a2 a3 k, LeO (impl_net_canMoveGuards.f k a0 a1 a2 a3) (impl_net_canMoveGuards.f (k + 1) a0 a1 a2 a3) := by
 intro a0 a1 a2 a3 k
 unfold impl_net_canMoveGuards.f
 have q0 := impl_net_canMatch.mono
 have q1 := impl_setOf.mono
 exact lM
def impl_net_canMoveGuards.T3 : Bool × List (List Nat × List Nat) := (true, [([], []), ([0], [0]), ([1], [1]), ([2], [2]), ([3, 2], [3]), ([4], [4]), ([5, 4], [4, 5]), ([4], [4]), ([7, 4], [4, 7]), ([8, 4, 4], [4, 8]), ([6, 9, 4], [4, 6, 9]), ([10, 4], [4, 10]), ([4], [4]), ([11, 12, 4], [4, 11, 12]), ([13, 4], [4, 13]), ([4, 14], [4, 14]), ([15, 9, 0, 1, 2, 3, 4, 5, 6, 7, 8, 9, 10, 11, 12, 13, 14, 15], [15])])
def impl_net_canMoveGuards.B3 : List Nat := [0, 1, 3, 7, 15, 31, 63, 31, 159, 415, 1023, 2047, 31, 8191, 16383, 32767, 65535]
theorem impl_net_canMoveGuards.tab3 : rtab .any (opsOf Tryd.f62 3) = impl_net_canMoveGuards.T3 := by kernel_rfl
theorem impl_net_canMoveGuards.bits3 : waitsOk impl_net_canMoveGuards.T3.2 impl_net_canMoveGuards.B3 = true := by kernel_rfl
theorem impl_net_canMoveGuards.calls (k : Nat) (A0_0 : Option Addr) (c0_0 : Nat) (l0_0 : List Int) (a1 : Int) (a2 : Int) (a3 : Bool) (r : Bool) (w : World) (hT : TabG w) (hr0_0 : Kd.C (Kd.int .i64) w A0_0 l0_0.length l0_0) (hc0_0 : l0_0.length ≤ c0_0) (h : impl_net_canMoveGuards.f k l0_0 a1 a2 a3 = some r) :
  Calls Tryd.prog 62 #[.agg #[.slice A0_0 l0_0.length c0_0], .int .i64 a1, .int .i64 a2, .bool a3] w fun e w' => e = .returned (.bool r) ∧ Below w.heap.size w w' := by
 have hu56 := Tryd.underlying56
 have HR0_0 := Aside0.mk hr0_0
 have HC0_0 := Aside0.mk hc0_0
 clear hr0_0 hc0_0
 have HB := aM (Below.refl w.heap.size w)
 have HT := Aside0.mk hT
 clear hT
 have H : (if a3 = true then ((impl_setOf.f k a1).bind fun t449 => ((impl_net_canMatch.f k l0_0 t449 a2).bind fun t452 => (some t452))) else ((bits_OnesCount.f (IntKind.u64.wrap (Go.bits .andNot .i64 a1 a2))).bind fun t453 => (if t453 = 1 then ((bits_TrailingZeros.f (IntKind.u64.wrap (Go.bits .andNot .i64 a1 a2))).bind fun t454 => (if 0 ≤ t454 then (if t454 < (l0_0.length : Int) then (some ((Go.bits .and .i64 (rd l0_0 t454) (Go.bits .andNot .i64 a2 a1)) != 0)) else (none)) else (none))) else (some false)))) = some r := h
 clear h
 by_cases c5 : a3 = true
 ·subst c5
  rw [if_pos rfl] at H
  replace H := Option.bind_eq_some_iff.mp H
  obtain ⟨t449, A60, H⟩ := H
  try dsimp only at H
  have A6 := Aside0.mk A60
  clear A60
  replace H := Option.bind_eq_some_iff.mp H
  obtain ⟨t452, A70, H⟩ := H
  try dsimp only at H
  have A7 := Aside0.mk A70
  clear A70
  obtain rfl := Option.some.inj H
  go_enter Tryd.func62, Tryd.ntmps62
  try go_wp2_with (first | ((with_reducible refine gate_dst (N := 4) rfl ?_);refine box_event ?hg (N := 4) ?hd (cs := #[.slice A0_0 l0_0.length c0_0]) (t := 56) ?hr ?_;(case hd => rfl);(case hg => rfl);(case hr => exact gS);intro gb448 hg w8 hbox hb;have n0_ := aM (below_step (by exact bB) hb);have n1_ := aM (hbox);have n2_ := aM (sW hg : w.heap.size ≤ gb448);have n3_ := aM (sW hg : w.heap.size ≤ gb448);clear HB;have HB := n0_;have BK448 := n1_;have GW448 := n2_;have GE448 := n3_;clear n0_ n1_ n2_ n3_;clear hb hbox hg))
  have n0_ := aM (blk_drew BK448.out)
  have n1_ := aM (below_drew1 HB.out)
  clear BK448
  clear HB
  have BK448 := n0_
  have HB := n1_
  clear n0_ n1_
  refine start_ (n := 6) (S := fun w' => w'.cell? ⟨gb448, 0, none⟩ = some (.slice A0_0 l0_0.length c0_0)) (ds := []) (pT 0 6) (by kernel_rfl) rfl rfl ((blk_cell BK448.out 0).trans rfl) (fun hHeld => ?_)
  generalize w8.drew = w9 at BK448 HB hHeld ⊢
  refine pure_ (i := 1) (N := some 36) (v := ?_) (a' := ?_) #[false,true,false,false,false,false] rfl rfl (by kernel_rfl) (fun _ _ _ h => h) (Or.inl ⟨by rfl, ?_⟩) ?_ ?_
  rotate_left
  ·intro w'
   go_simp
   with_reducible rfl
  rotate_left
  ·exact aP
  refine pure_ (i := 3) (N := some 38) (v := ?_) (a' := ?_) #[false,true,false,true,false,false] rfl rfl (by kernel_rfl) (fun _ _ _ h => h) (Or.inl ⟨by rfl, ?_⟩) ?_ ?_
  rotate_left
  ·intro w'
   go_simp
   with_reducible rfl
  rotate_left
  ·exact aP
  refine take_ (i := 0) (N := some 35) (v := ?_) (a' := ?_) #[true,true,false,true,false,false] rfl rfl (by kernel_rfl) (fun _ _ _ h => h) (Or.inl ⟨by rfl, ?_⟩) hHeld ?_ ?_
  rotate_left
  ·intro w' s0
   go_simp
   with_reducible rfl
  rotate_left
  ·exact aP
  refine one_ (i := 2) (N := some 37) (pT 4 2) rfl rfl (by kernel_rfl) (by decide) (fun K hK => ?_)
  refine goes_ Tryd.func84 (by kernel_rfl) rfl #[.int .i64 a1] (by rfl) rfl rfl mM ?_
  with_reducible refine (impl_setOf.calls k a1 t449 _ A6.out).mono ?_
  rintro e w10 ⟨v450, rfl, ho0, hb⟩
  refine ⟨_, rfl, ?_⟩
  have n0_ := aM (Kd.R_lower ho0 (below_size (by exact bB)))
  have n1_ := aM (kB hb BK448.out)
  have n2_ := aM (below_step (by exact bB) hb)
  clear BK448
  clear HB
  have HO451 := n0_
  have BK448 := n1_
  have HB := n2_
  clear n0_ n1_ n2_
  (try clear hb)
  (try clear hb2)
  (try clear hk)
  (try clear hi)
  (try clear ho0)
  obtain ⟨Ao11, co11, eo11⟩ := Kd.R_slice HO451.out
  (first | subst eo11 | (injection eo11 with f1_ f2_ f3_;have f4_ := f1_.symm;have f5_ := f3_.symm;clear f1_ f2_ f3_;subst f4_;subst f5_))
  refine hK.out _ _ ((blk_cell BK448.out 0).trans rfl) (fun hHeld => ?_)
  clear hK K
  refine norm_ (a' := ?_) ?_ ?_
  rotate_left
  ·show Act.put _ (some 37) _ = _
   simp only [Act.put, List.setIfInBounds_toArray, List.set_cons_zero, List.set_cons_succ, i64_w, i32_w]
   rfl
  refine one_ (i := 4) (N := some 39) (pT 5 1) rfl rfl (by kernel_rfl) (by decide) (fun K hK => ?_)
  refine goes_ Tryd.func87 (by kernel_rfl) rfl #[.agg #[.slice A0_0 l0_0.length c0_0], .slice Ao11 t449.length co11, .int .i64 a2] (by rfl) rfl rfl mM ?_
  with_reducible refine (impl_net_canMatch.calls k _ _ l0_0 _ _ t449 a2 t452 _ ?side1 ?side2 ?side3 ?side4 A7.out).mono ?_
  (case side1 => exact cP (Kd.C_below HR0_0.out HB.out))
  (case side2 => exact HC0_0.out)
  (case side3 => exact cP (Kd.R_reads' HO451.out).2.2)
  (case side4 => exact (Kd.R_reads' HO451.out).2.1)
  rintro e w12 ⟨rfl, hb⟩
  refine ⟨_, rfl, ?_⟩
  have n0_ := aM (Kd.R_below (by exact rP HO451.out) hb)
  have n1_ := aM (kB hb BK448.out)
  have n2_ := aM (below_step (by exact bB) hb)
  clear HO451
  clear BK448
  clear HB
  have HO451 := n0_
  have BK448 := n1_
  have HB := n2_
  clear n0_ n1_ n2_
  (try clear hb)
  (try clear hb2)
  (try clear hk)
  (try clear hi)
  refine hK.out _ _ ((blk_cell BK448.out 0).trans rfl) (fun hHeld => ?_)
  clear hK K
  refine norm_ (a' := ?_) ?_ ?_
  rotate_left
  ·show Act.put _ (some 39) _ = _
   simp only [Act.put, List.setIfInBounds_toArray, List.set_cons_zero, List.set_cons_succ, i64_w, i32_w]
   rfl
  refine pure_ (i := 5) (N := some 8) (v := ?_) (a' := ?_) (pT 6 0) rfl rfl (by kernel_rfl) (fun _ _ _ h => h) (Or.inl ⟨by rfl, ?_⟩) ?_ ?_
  rotate_left
  ·intro w'
   go_simp
   with_reducible rfl
  rotate_left
  ·exact aP
  refine done_ (by kernel_rfl) ?_
  try go_wp2
  go_ret
  exact ⟨eW, by exact bB⟩
 replace c5 := Bool.eq_false_iff.mpr c5
 subst c5
 rw [if_neg (show ¬ (false = true) by decide)] at H
 replace H := Option.bind_eq_some_iff.mp H
 obtain ⟨t453, A130, H⟩ := H
 try dsimp only at H
 have A13 := Aside0.mk A130
 clear A130
 by_cases c14 : t453 = 1
 rotate_left
 ·rw [if_neg c14] at H
  have c14b0 : (t453 == 1) = false := beq_eq_false_iff_ne.mpr c14
  have c14b1 : (t453 != 1) = true := bne_iff_ne.mpr c14
  obtain rfl := Option.some.inj H
  go_enter Tryd.func62, Tryd.ntmps62
  try go_wp2_with (first | ((with_reducible refine gate_dst (N := 4) rfl ?_);refine box_event ?hg (N := 4) ?hd (cs := #[.slice A0_0 l0_0.length c0_0]) (t := 56) ?hr ?_;(case hd => rfl);(case hg => rfl);(case hr => exact gS);intro gb448 hg w21 hbox hb;have n0_ := aM (below_step (by exact bB) hb);have n1_ := aM (hbox);have n2_ := aM (sW hg : w.heap.size ≤ gb448);have n3_ := aM (sW hg : w.heap.size ≤ gb448);clear HB;have HB := n0_;have BK448 := n1_;have GW448 := n2_;have GE448 := n3_;clear n0_ n1_ n2_ n3_;clear hb hbox hg))
  have n0_ := aM (blk_drew BK448.out)
  have n1_ := aM (below_drew1 HB.out)
  clear BK448
  clear HB
  have BK448 := n0_
  have HB := n1_
  clear n0_ n1_
  refine start_ (n := 17) (S := fun w' => True) (ds := []) (pT 0 17) (by kernel_rfl) rfl rfl trivial (fun hHeld => ?_);refine with_tabW impl_net_canMoveGuards.tab3 impl_net_canMoveGuards.bits3 (fun HT_ HW_ => ?_)
  generalize w21.drew = w22 at BK448 HB hHeld ⊢
  refine pure_ (i := 0) (N := some 19) (v := ?_) (a' := ?_) (pT 1 16) rfl rfl (any_of HT_.out (by kernel_rfl)) (fun _ _ _ h => h) (Or.inl ⟨by rfl, ?_⟩) ?_ ?_
  rotate_left
  ·intro w'
   go_simp
   with_reducible rfl
  rotate_left
  ·exact aP
  refine pure_ (i := 1) (N := some 20) (v := ?_) (a' := ?_) (pT 2 15) rfl rfl (any_of HT_.out (by kernel_rfl)) (fun _ _ _ h => h) (Or.inl ⟨by rfl, ?_⟩) ?_ ?_
  rotate_left
  ·intro w'
   go_simp
   with_reducible rfl
  rotate_left
  ·exact aP
  refine one_ (i := 2) (N := some 21) (pT 3 14) rfl rfl (one_of HT_.out (by kernel_rfl)) (by decide) (fun K hK => ?_)
  refine goes_ Tryd.func85 (by kernel_rfl) rfl #[.int .u64 (IntKind.u64.wrap (Go.bits .andNot .i64 a1 a2))] (by rfl) rfl rfl mM ?_
  with_reducible refine (bits_OnesCount.calls (IntKind.u64.wrap (Go.bits .andNot .i64 a1 a2)) t453 _ A13.out).mono ?_
  rintro e w' ⟨rfl, ⟨nd, rfl⟩⟩
  refine ⟨_, rfl, ?_⟩
  refine hK.out _ _ trivial (fun hHeld => ?_)
  clear hK K
  refine norm_ (a' := ?_) ?_ ?_
  rotate_left
  ·show Act.put _ (some 21) _ = _
   simp only [Act.put, List.setIfInBounds_toArray, List.set_cons_zero, List.set_cons_succ, i64_w, i32_w]
   rfl
  refine pure_ (i := 3) (N := some 22) (v := ?_) (a' := ?_) (pT 4 13) rfl rfl (any_of HT_.out (by kernel_rfl)) (fun _ _ _ h => h) (Or.inl ⟨by rfl, ?_⟩) ?_ ?_
  rotate_left
  ·intro w'
   go_simp
   with_reducible rfl
  rotate_left
  ·exact aP
  refine pure_ (i := 4) (N := some 23) (v := ?_) (a' := ?_) (pT 5 12) rfl rfl (any_of HT_.out (by kernel_rfl)) (fun _ _ _ h => h) (Or.inl ⟨by rfl, ?_⟩) ?_ ?_
  rotate_left
  ·intro w'
   go_simp
   with_reducible rfl
  rotate_left
  ·exact aP
  refine pure_ (i := 5) (N := some 24) (v := undef) (a' := ?_) (pT 6 11) rfl rfl (any_of HT_.out (by kernel_rfl)) (fun _ _ _ h => h) (Or.inr ⟨by rfl, rfl⟩) ?_ ?_
  rotate_left
  ·exact aP
  refine pure_ (i := 6) (N := some 25) (v := undef) (a' := ?_) (pT 7 10) rfl rfl (any_of HT_.out (by kernel_rfl)) (fun _ _ _ h => h) (Or.inr ⟨by rfl, rfl⟩) ?_ ?_
  rotate_left
  ·exact aP
  refine pure_ (i := 7) (N := some 26) (v := undef) (a' := ?_) (pT 8 9) rfl rfl (any_of HT_.out (by kernel_rfl)) (fun _ _ _ h => h) (Or.inr ⟨by rfl, rfl⟩) ?_ ?_
  rotate_left
  ·exact aP
  refine pure_ (i := 8) (N := some 27) (v := undef) (a' := ?_) (pT 9 8) rfl rfl (any_of HT_.out (by kernel_rfl)) (fun _ _ _ h => h) (Or.inr ⟨by rfl, rfl⟩) ?_ ?_
  rotate_left
  ·exact aP
  refine pure_ (i := 9) (N := some 28) (v := undef) (a' := ?_) (pT 10 7) rfl rfl (any_of HT_.out (by kernel_rfl)) (fun _ _ _ h => h) (Or.inr ⟨by rfl, rfl⟩) ?_ ?_
  rotate_left
  ·exact aP
  refine pure_ (i := 10) (N := some 29) (v := undef) (a' := ?_) (pT 11 6) rfl rfl (any_of HT_.out (by kernel_rfl)) (fun _ _ _ h => h) (Or.inr ⟨by rfl, rfl⟩) ?_ ?_
  rotate_left
  ·exact aP
  refine pure_ (i := 11) (N := some 30) (v := undef) (a' := ?_) (pT 12 5) rfl rfl (any_of HT_.out (by kernel_rfl)) (fun _ _ _ h => h) (Or.inr ⟨by rfl, rfl⟩) ?_ ?_
  rotate_left
  ·exact aP
  refine pure_ (i := 12) (N := some 31) (v := undef) (a' := ?_) (pT 13 4) rfl rfl (any_of HT_.out (by kernel_rfl)) (fun _ _ _ h => h) (Or.inr ⟨by rfl, rfl⟩) ?_ ?_
  rotate_left
  ·exact aP
  refine pure_ (i := 13) (N := some 32) (v := undef) (a' := ?_) (pT 14 3) rfl rfl (any_of HT_.out (by kernel_rfl)) (fun _ _ _ h => h) (Or.inr ⟨by rfl, rfl⟩) ?_ ?_
  rotate_left
  ·exact aP
  refine pure_ (i := 14) (N := some 33) (v := undef) (a' := ?_) (pT 15 2) rfl rfl (any_of HT_.out (by kernel_rfl)) (fun _ _ _ h => h) (Or.inr ⟨by rfl, rfl⟩) ?_ ?_
  rotate_left
  ·exact aP
  refine pure_ (i := 15) (N := some 34) (v := ?_) (a' := ?_) (pT 16 1) rfl rfl (any_of HT_.out (by kernel_rfl)) (fun _ _ _ h => h) (Or.inl ⟨by rfl, ?_⟩) ?_ ?_
  rotate_left
  ·intro w'
   go_simp
   with_reducible rfl
  rotate_left
  ·exact aP
  refine pure_ (i := 16) (N := some 8) (v := ?_) (a' := ?_) (pT 17 0) rfl rfl (any_of HT_.out (by kernel_rfl)) (fun _ _ _ h => h) (Or.inl ⟨by rfl, ?_⟩) ?_ ?_
  rotate_left
  ·intro w'
   go_simp
   with_reducible rfl
  rotate_left
  ·exact aP
  refine done_ (done_of HT_.out (by kernel_rfl)) ?_
  try go_wp2
  go_ret
  exact ⟨eW, by exact bB⟩
 rw [if_pos c14] at H
 have c14b0 : (t453 == 1) = true := beq_iff_eq.mpr c14
 have c14b1 : (t453 != 1) = false := bne_eq_false_iff_eq.mpr c14
 clear c14
 replace H := Option.bind_eq_some_iff.mp H
 obtain ⟨t454, A150, H⟩ := H
 try dsimp only at H
 have A15 := Aside0.mk A150
 clear A150
 by_cases c16 : 0 ≤ t454
 rotate_left
 ·rw [if_neg c16] at H
  exact absurd H (by simp)
 rw [if_pos c16] at H
 have c16b0 : decide (0 ≤ t454) = true := decide_eq_true c16
 clear c16
 by_cases c17 : t454 < (l0_0.length : Int)
 rotate_left
 ·rw [if_neg c17] at H
  exact absurd H (by simp)
 rw [if_pos c17] at H
 have c17b0 : decide (t454 < (l0_0.length : Int)) = true := decide_eq_true c17
 clear c17
 obtain rfl := Option.some.inj H
 go_enter Tryd.func62, Tryd.ntmps62
 try go_wp2_with (first | ((with_reducible refine gate_dst (N := 4) rfl ?_);refine box_event ?hg (N := 4) ?hd (cs := #[.slice A0_0 l0_0.length c0_0]) (t := 56) ?hr ?_;(case hd => rfl);(case hg => rfl);(case hr => exact gS);intro gb448 hg w18 hbox hb;have n0_ := aM (below_step (by exact bB) hb);have n1_ := aM (hbox);have n2_ := aM (sW hg : w.heap.size ≤ gb448);have n3_ := aM (sW hg : w.heap.size ≤ gb448);clear HB;have HB := n0_;have BK448 := n1_;have GW448 := n2_;have GE448 := n3_;clear n0_ n1_ n2_ n3_;clear hb hbox hg))
 have n0_ := aM (blk_drew BK448.out)
 have n1_ := aM (below_drew1 HB.out)
 clear BK448
 clear HB
 have BK448 := n0_
 have HB := n1_
 clear n0_ n1_
 have p455 : 0 ≤ (t454 : Int) := oA
 have q455 : t454 < (l0_0.length : Int) := oA
 obtain ⟨ad455, e455, hx455_0⟩ := Kd.at_int HR0_0.out t454 p455 q455
 have hw455_0 := hx455_0
 cases e455
 replace hx455_0 := (HB.out.cell (World.block_lt_of_cell? w _ hx455_0)).trans hx455_0
 replace p455 := eq_true p455
 replace q455 := eq_true q455
 refine start_ (n := 17) (S := fun w' => w'.cell? ⟨gb448, 0, none⟩ = some (.slice (some ad455) l0_0.length c0_0) ∧ w'.cell? (ad455.add (t454).toNat) = some (.int .i64 (rd l0_0 t454))) (ds := []) (pT 0 17) (by kernel_rfl) rfl rfl ⟨(blk_cell BK448.out 0).trans rfl, ((HB.out.cell (World.block_lt_of_cell? w _ hw455_0)).trans hw455_0)⟩ (fun hHeld => ?_);refine with_tabW impl_net_canMoveGuards.tab3 impl_net_canMoveGuards.bits3 (fun HT_ HW_ => ?_)
 generalize w18.drew = w19 at BK448 HB hx455_0 hHeld ⊢
 refine pure_ (i := 0) (N := some 19) (v := ?_) (a' := ?_) (pT 1 16) rfl rfl (any_of HT_.out (by kernel_rfl)) (fun _ _ _ h => h) (Or.inl ⟨by rfl, ?_⟩) ?_ ?_
 rotate_left
 ·intro w'
  go_simp
  with_reducible rfl
 rotate_left
 ·exact aP
 refine pure_ (i := 1) (N := some 20) (v := ?_) (a' := ?_) (pT 2 15) rfl rfl (any_of HT_.out (by kernel_rfl)) (fun _ _ _ h => h) (Or.inl ⟨by rfl, ?_⟩) ?_ ?_
 rotate_left
 ·intro w'
  go_simp
  with_reducible rfl
 rotate_left
 ·exact aP
 refine one_ (i := 2) (N := some 21) (pT 3 14) rfl rfl (one_of HT_.out (by kernel_rfl)) (by decide) (fun K hK => ?_)
 refine goes_ Tryd.func85 (by kernel_rfl) rfl #[.int .u64 (IntKind.u64.wrap (Go.bits .andNot .i64 a1 a2))] (by rfl) rfl rfl mM ?_
 with_reducible refine (bits_OnesCount.calls (IntKind.u64.wrap (Go.bits .andNot .i64 a1 a2)) t453 _ A13.out).mono ?_
 rintro e w' ⟨rfl, ⟨nd, rfl⟩⟩
 refine ⟨_, rfl, ?_⟩
 refine hK.out _ _ ⟨(blk_cell BK448.out 0).trans rfl, ((HB.out.cell (World.block_lt_of_cell? w _ hw455_0)).trans hw455_0)⟩ (fun hHeld => ?_)
 clear hK K
 refine norm_ (a' := ?_) ?_ ?_
 rotate_left
 ·show Act.put _ (some 21) _ = _
  simp only [Act.put, List.setIfInBounds_toArray, List.set_cons_zero, List.set_cons_succ, i64_w, i32_w]
  rfl
 refine pure_ (i := 3) (N := some 22) (v := ?_) (a' := ?_) (pT 4 13) rfl rfl (any_of HT_.out (by kernel_rfl)) (fun _ _ _ h => h) (Or.inl ⟨by rfl, ?_⟩) ?_ ?_
 rotate_left
 ·intro w'
  go_simp
  with_reducible rfl
 rotate_left
 ·exact aP
 refine pure_ (i := 4) (N := some 23) (v := ?_) (a' := ?_) (pT 5 12) rfl rfl (any_of HT_.out (by kernel_rfl)) (fun _ _ _ h => h) (Or.inl ⟨by rfl, ?_⟩) ?_ ?_
 rotate_left
 ·intro w'
  go_simp
  with_reducible rfl
 rotate_left
 ·exact aP
 refine pure_ (i := 5) (N := some 24) (v := ?_) (a' := ?_) (pT 6 11) rfl rfl (any_of HT_.out (by kernel_rfl)) (fun _ _ _ h => h) (Or.inl ⟨by rfl, ?_⟩) ?_ ?_
 rotate_left
 ·intro w'
  go_simp
  with_reducible rfl
 rotate_left
 ·exact aP
 refine pure_ (i := 7) (N := some 26) (v := ?_) (a' := ?_) #[true,true,true,true,true,true,false,true,false,false,false,false,false,false,false,false,false] rfl rfl (any_of HT_.out (by kernel_rfl)) (fun _ _ _ h => h) (Or.inl ⟨by rfl, ?_⟩) ?_ ?_
 rotate_left
 ·intro w'
  go_simp
  with_reducible rfl
 rotate_left
 ·exact aP
 refine pure_ (i := 8) (N := some 27) (v := ?_) (a' := ?_) #[true,true,true,true,true,true,false,true,true,false,false,false,false,false,false,false,false] rfl rfl (any_of HT_.out (by kernel_rfl)) (fun _ _ _ h => h) (Or.inl ⟨by rfl, ?_⟩) ?_ ?_
 rotate_left
 ·intro w'
  go_simp
  with_reducible rfl
 rotate_left
 ·exact aP
 refine pure_ (i := 12) (N := some 31) (v := ?_) (a' := ?_) #[true,true,true,true,true,true,false,true,true,false,false,false,true,false,false,false,false] rfl rfl (any_of HT_.out (by kernel_rfl)) (fun _ _ _ h => h) (Or.inl ⟨by rfl, ?_⟩) ?_ ?_
 rotate_left
 ·intro w'
  go_simp
  with_reducible rfl
 rotate_left
 ·exact aP
 refine take_ (i := 6) (N := some 25) (v := ?_) (a' := ?_) #[true,true,true,true,true,true,true,true,true,false,false,false,true,false,false,false,false] rfl rfl (take_ofW HT_.out HW_.out (by kernel_rfl)) (fun _ _ _ h => h) (Or.inl ⟨by rfl, ?_⟩) hHeld ?_ ?_
 rotate_left
 ·rintro w' ⟨s0, s1⟩
  go_simp
  with_reducible rfl
 rotate_left
 ·exact aP
 refine one_ (i := 9) (N := some 28) #[true,true,true,true,true,true,true,true,true,true,false,false,true,false,false,false,false] rfl rfl (one_of HT_.out (by kernel_rfl)) (by decide) (fun K hK => ?_)
 refine goes_ Tryd.func86 (by kernel_rfl) rfl #[.int .u64 (IntKind.u64.wrap (Go.bits .andNot .i64 a1 a2))] (by rfl) rfl rfl mM ?_
 with_reducible refine (bits_TrailingZeros.calls (IntKind.u64.wrap (Go.bits .andNot .i64 a1 a2)) t454 _ ?sideT A15.out).mono ?_
 (case sideT => exact tabG_below HT.out (by exact bB))
 rintro e w20 ⟨rfl, hb⟩
 refine ⟨_, rfl, ?_⟩
 have n0_ := aM (kB hb BK448.out)
 have n1_ := aM (below_step (by exact bB) hb)
 clear BK448
 clear HB
 have BK448 := n0_
 have HB := n1_
 clear n0_ n1_
 (try clear hb)
 (try clear hb2)
 (try clear hk)
 (try clear hi)
 refine hK.out _ _ ⟨(blk_cell BK448.out 0).trans rfl, ((HB.out.cell (World.block_lt_of_cell? w _ hw455_0)).trans hw455_0)⟩ (fun hHeld => ?_)
 clear hK K
 refine norm_ (a' := ?_) ?_ ?_
 rotate_left
 ·show Act.put _ (some 28) _ = _
  simp only [Act.put, List.setIfInBounds_toArray, List.set_cons_zero, List.set_cons_succ, i64_w, i32_w]
  rfl
 refine pure_ (i := 10) (N := some 29) (v := ?_) (a' := ?_) #[true,true,true,true,true,true,true,true,true,true,true,false,true,false,false,false,false] rfl rfl (any_of HT_.out (by kernel_rfl)) (fun _ _ _ h => h) (Or.inl ⟨by rfl, ?_⟩) ?_ ?_
 rotate_left
 ·intro w'
  go_simp
  with_reducible rfl
 rotate_left
 ·exact aP
 refine take_ (i := 11) (N := some 30) (v := ?_) (a' := ?_) (pT 13 4) rfl rfl (take_ofW HT_.out HW_.out (by kernel_rfl)) (fun _ _ _ h => h) (Or.inl ⟨by rfl, ?_⟩) hHeld ?_ ?_
 rotate_left
 ·rintro w' ⟨s0, s1⟩
  go_simp
  with_reducible rfl
 rotate_left
 ·exact aP
 refine pure_ (i := 13) (N := some 32) (v := ?_) (a' := ?_) (pT 14 3) rfl rfl (any_of HT_.out (by kernel_rfl)) (fun _ _ _ h => h) (Or.inl ⟨by rfl, ?_⟩) ?_ ?_
 rotate_left
 ·intro w'
  go_simp
  with_reducible rfl
 rotate_left
 ·exact aP
 refine pure_ (i := 14) (N := some 33) (v := ?_) (a' := ?_) (pT 15 2) rfl rfl (any_of HT_.out (by kernel_rfl)) (fun _ _ _ h => h) (Or.inl ⟨by rfl, ?_⟩) ?_ ?_
 rotate_left
 ·intro w'
  go_simp
  with_reducible rfl
 rotate_left
 ·exact aP
 refine pure_ (i := 15) (N := some 34) (v := ?_) (a' := ?_) (pT 16 1) rfl rfl (any_of HT_.out (by kernel_rfl)) (fun _ _ _ h => h) (Or.inl ⟨by rfl, ?_⟩) ?_ ?_
 rotate_left
 ·intro w'
  go_simp
  with_reducible rfl
 rotate_left
 ·exact aP
 refine pure_ (i := 16) (N := some 8) (v := ?_) (a' := ?_) (pT 17 0) rfl rfl (any_of HT_.out (by kernel_rfl)) (fun _ _ _ h => h) (Or.inl ⟨by rfl, ?_⟩) ?_ ?_
 rotate_left
 ·intro w'
  go_simp
  with_reducible rfl
 rotate_left
 ·exact aP
 refine done_ (done_of HT_.out (by kernel_rfl)) ?_
 try go_wp2
 go_ret
 exact ⟨eW, by exact bB⟩


/-! ### impl_maskOf: function 63 -/
def impl_maskOf.l0 : Nat → Int → List Int → Int → Int → Option (Int)
 | 0, _, _, _, _ => none
 | k + 1, x3, x6, x7, x8 => if x8 < x7 then (if 0 ≤ x8 then (if x8 < (x6.length : Int) then (if 0 ≤ (rd x6 x8) then (impl_maskOf.l0 k (Go.bits .or .i64 x3 (shl .i64 1 (rd x6 x8))) x6 x7 (wrap64 (x8 + 1))) else (none)) else (none)) else (none)) else (some x3)
def impl_maskOf.f (k : Nat) (l0 : List Int) : Option (Int) := impl_maskOf.l0 k 0 l0 (l0.length : Int) 0
theorem impl_maskOf.mono_l : ∀ k, (∀ y0 y1 y2 y3, LeO (impl_maskOf.l0 k y0 y1 y2 y3) (impl_maskOf.l0 (k + 1) y0 y1 y2 y3))
 | 0 => fun _ _ _ _ r h => by simp [impl_maskOf.l0] at h
 | k + 1 => by
  have ih0 := impl_maskOf.mono_l k
  ·intro y0 y1 y2 y3
   unfold impl_maskOf.l0
   exact lM
theorem impl_maskOf.mono : ∀ a0 k, LeO (impl_maskOf.f k a0) (impl_maskOf.f (k + 1) a0) := by
 intro a0 k
 have ih0 := impl_maskOf.mono_l k
 unfold impl_maskOf.f
 exact lM
theorem impl_maskOf.calls (k : Nat) (A0 : Option Addr) (c0 : Nat) (l0 : List Int) (r : Int) (w : World) (hr0 : Kd.C (Kd.int .i64) w A0 l0.length l0) (hc0 : l0.length ≤ c0) (h : impl_maskOf.f k l0 = some r) :
  Calls Tryd.prog 63 #[.slice A0 l0.length c0] w fun e w' => e = .returned (.int .i64 r) ∧ Drawn0 w w' := by
 have HR0 := Aside0.mk hr0
 have HC0 := Aside0.mk hc0
 clear hr0 hc0
 have H : (impl_maskOf.l0 k 0 l0 (l0.length : Int) 0) = some r := h
 clear h
 have H' := Aside0.mk H
 clear H
 go_enter Tryd.func63, Tryd.ntmps63
 go_wp2
 go_loopg [3, 8] k (fun kq v3 v8 w' => ∃ (x3_1 : Int) (x8_1 : Int), v3 = .int .i64 x3_1 ∧ v8 = .int .i64 x8_1 ∧ Aside0 (impl_maskOf.l0 kq x3_1 l0 (l0.length : Int) x8_1 = some r) ∧ Aside0 (kq ≤ k) ∧ Drawn0 w w')
 case atStart => exact ⟨(0), (0), eF, eF, H', ⟨Nat.le_refl _⟩, dR⟩
 case round =>
  clear H'
  obtain ⟨x3_1, x8_1, rfl, rfl, HA, HK1, ⟨m1, rfl⟩⟩ := hrel
  cases gk with
  | zero => exact absurd HA.out (by simp [impl_maskOf.l0])
  | succ k1 =>
   have H := HA.out
   clear HA
   simp only [impl_maskOf.l0] at H
   by_cases c2 : x8_1 < (l0.length : Int)
   rotate_left
   ·rw [if_neg c2] at H
    have c2b0 : decide (x8_1 < (l0.length : Int)) = false := decide_eq_false c2
    clear c2
    obtain rfl := Option.some.inj H
    go_wp2
    go_ret
    exact ⟨eF, dR⟩
   rw [if_pos c2] at H
   have c2b0 : decide (x8_1 < (l0.length : Int)) = true := decide_eq_true c2
   clear c2
   by_cases c3 : 0 ≤ x8_1
   rotate_left
   ·rw [if_neg c3] at H
    exact absurd H (by simp)
   rw [if_pos c3] at H
   have c3b0 : decide (0 ≤ x8_1) = true := decide_eq_true c3
   clear c3
   by_cases c4 : x8_1 < (l0.length : Int)
   rotate_left
   ·rw [if_neg c4] at H
    exact absurd H (by simp)
   rw [if_pos c4] at H
   have c4b0 : decide (x8_1 < (l0.length : Int)) = true := decide_eq_true c4
   clear c4
   by_cases c5 : 0 ≤ (rd l0 x8_1)
   rotate_left
   ·rw [if_neg c5] at H
    exact absurd H (by simp)
   rw [if_pos c5] at H
   have c5b0 := eq_true c5
   have c5b1 : decide (0 ≤ (rd l0 x8_1)) = true := decide_eq_true c5
   clear c5
   obtain ⟨ji6, hji6⟩ : ∃ j_ : Int, (shl .i64 1 (rd l0 x8_1)) = j_ := ⟨_, rfl⟩
   replace H : (impl_maskOf.l0 k1 (Go.bits .or .i64 x3_1 (ji6)) l0 (l0.length : Int) (wrap64 (x8_1 + 1))) = some r := by first | (rw [hji6] at H;exact H) | (simp only [hji6] at H ⊢;exact H)
   have hji6_ : (IntKind.i64.wrap (1 * 2 ^ min (rd l0 x8_1).toNat 64)) = ji6 := hji6
   have hji6z : (rd l0 x8_1) ≤ 64 → (IntKind.i64.wrap (1 * 2 ^ (rd l0 x8_1).toNat)) = ji6 := shl_small hji6
   have hji6u : (IntKind.i64.wrap (2 ^ min (rd l0 x8_1).toNat 64)) = ji6 := by have h_ := hji6_;rw [Int.one_mul] at h_;exact h_
   have hji6v : (rd l0 x8_1) ≤ 64 → (IntKind.i64.wrap (2 ^ (rd l0 x8_1).toNat)) = ji6 := fun hle_ => by have h_ := hji6z hle_;rw [Int.one_mul] at h_;exact h_
   have hji6y : (wrap64 (1 * 2 ^ min (rd l0 x8_1).toNat 64)) = ji6 := (i64_w _).symm.trans hji6_
   have hji6x : (rd l0 x8_1) ≤ 64 → (wrap64 (1 * 2 ^ (rd l0 x8_1).toNat)) = ji6 := fun h_ => (i64_w _).symm.trans (hji6z h_)
   have H' := Aside0.mk H
   clear H
   have p456 : 0 ≤ (x8_1 : Int) := oA
   have q456 : x8_1 < (l0.length : Int) := oA
   obtain ⟨ad456, e456, hx456_0⟩ := Kd.at_int HR0.out x8_1 p456 q456
   cases e456
   replace p456 := eq_true p456
   replace q456 := eq_true q456
   go_wp2
   go_roundg k1
   case measure => have := HK1.out;omega
   case rel => exact ⟨(Go.bits .or .i64 x3_1 (ji6)), (wrap64 (x8_1 + 1)), (by first | rfl | (simp;done) | (simp only [← hji6] <;> (first | rfl | simp)) | (simp [*];done)), eF, H', ⟨by have := HK1.out;omega⟩, dR⟩


end Go.Proofs.YtgahlimikndecaaDoor.QEternalFamily
