import Derived.Test.YtaddgielnfhhpaaQNullityOf0
namespace Go.Proofs.Ytaddgielnfhhpaa.QNullityOf
open Go.RowKit Go.Proofs.YtaddgielnfhhpaaW.PrintWords Go.Proofs.YtaddgielnfhhpaaW.PrintLast Go.Proofs.YtaddgielnfhhpaaW.PrintMore
attribute [local go_sem] max2_int min2_int max_two min_two max_three min_three max_four min_four   -- for this text's walks alone
set_option linter.unusedVariables false
set_option linter.unusedSimpArgs false
/-! ### spec_l9Rank: by hand -/
abbrev dMx : Kd (List Int) := Kd.slice 3 (Kd.int .i64)
/-- Two rows exchanged; a number put into a row. -/
def swapM (M : List (List Int)) (i j : Int) : List (List Int) := (M.set i.toNat (rd_L2 M j)).set j.toNat (rd_L2 M i)
def putM (M : List (List Int)) (i y v : Int) : List (List Int) := M.set i.toNat ((rd_L2 M i).set y.toNat v)
theorem swapM_len (M : List (List Int)) (i j : Int) : (swapM M i j).length = M.length := by simp only [swapM, List.length_set]
theorem putM_len (M : List (List Int)) (i y v : Int) : (putM M i y v).length = M.length := by simp only [putM, List.length_set]
theorem rdL2_getD (M : List (List Int)) (i : Int) : rd_L2 M i = M.getD i.toNat [] := rfl
theorem swapM_fst (M : List (List Int)) (i j : Int) (hi0 : 0 ≤ i) (hi1 : i < (M.length : Int)) (hj0 : 0 ≤ j) (hj1 : j < (M.length : Int)) : rd_L2 (swapM M i j) i = rd_L2 M j := by
 have h1 : i.toNat < M.length := by omega
 have h2 : j.toNat < M.length := by omega
 simp only [swapM, rdL2_getD, List.getD_eq_getElem?_getD, List.getElem?_set, List.length_set]
 by_cases e : j.toNat = i.toNat
 ·rw [if_pos e, if_pos (by omega), e];simp
 ·rw [if_neg e];simp [h1]
/-- A row of a matrix whose rows lie apart: where it is, what it holds, and that a number may be put into it. -/
theorem mx_row {W : World} {base g n cap : Nat} {ok : Nat → Prop} {M : List (List Int)} (h : Kd.S dMx 25 W base ok (.slice (some ⟨g, 0, none⟩) n cap) M) (i : Int) (h0 : 0 ≤ i) (h1 : i < n) (hr : 0 < (rd_L2 M i).length) :
  ∃ gi ci : Nat, W.cell? ⟨g, i.toNat, none⟩ = some (.slice (some ⟨gi, 0, none⟩) (rd_L2 M i).length ci) ∧ gi ≠ g ∧ ok gi ∧ base ≤ gi ∧ gi < W.heap.size ∧
   (∀ y : Int, 0 ≤ y → y < ((rd_L2 M i).length : Int) → W.cell? ⟨gi, y.toNat, none⟩ = some (.int .i64 (rd (rd_L2 M i) y)) ∧ W.frozen? ⟨gi, y.toNat, none⟩ = false) ∧
   (∀ y v : Int, Kd.S dMx 25 (W.setCell ⟨gi, y.toNat, none⟩ (.int .i64 v)) base ok (.slice (some ⟨g, 0, none⟩) n cap) (putM M i y v) ∧ W.grownBy (W.setCell ⟨gi, y.toNat, none⟩ (.int .i64 v)) (some gi)) := by
 simp only [putM, rdL2_getD] at *
 obtain ⟨oki, c, hcl, hM, hcc, hoki, hH⟩ := Kd.S_lend h [] i h0 h1
 obtain ⟨vr, rfl, hR⟩ := hM
 have hx := hcc 0 _ rfl
 simp only [show dMx.sz = 1 from rfl, Nat.mul_one, Nat.add_zero] at hx
 obtain ⟨gi, ci, rfl, hb, hl, _⟩ := Kd.R_form hR hr
 have hgi : oki gi := hR.1 gi (by simp [Value.ownBlock])
 have hown := hoki gi hgi
 refine ⟨gi, ci, hx, hown.2, hown.1, hb, hl, fun y hy0 hy1 => Kd.R_celln 0 hR y hy0 hy1, fun y v => ?_⟩
 obtain ⟨hp, hg⟩ := Kd.R_put hR y v
 refine ⟨Kd.H_back (okp := oki) (Kd.H_grown hH hg (fun k hk => ?_)) (c := [.slice (some ⟨gi, 0, none⟩) (M.getD i.toNat []).length ci]) (show dMx.M _ base oki _ _ from ⟨_, rfl, hp⟩) (fun _ hk => hk), hg⟩
 injection hk with hk
 rw [← hk];exact hgi
/-- Two rows of a matrix, one put into the other's place. -/
theorem mx_swap {W : World} {base g n cap : Nat} {ok : Nat → Prop} {M : List (List Int)} (h : Kd.S dMx 25 W base ok (.slice (some ⟨g, 0, none⟩) n cap) M) (i j : Int) (hi0 : 0 ≤ i) (hi1 : i < n) (hj0 : 0 ≤ j) (hj1 : j < n) {vi vj : Value}
  (hi : W.cell? ⟨g, i.toNat, none⟩ = some vi) (hj : W.cell? ⟨g, j.toNat, none⟩ = some vj) :
  Kd.S dMx 25 ((W.setCell ⟨g, i.toNat, none⟩ vj).setCell ⟨g, j.toNat, none⟩ vi) base ok (.slice (some ⟨g, 0, none⟩) n cap) (swapM M i j) ∧ W.grownBy ((W.setCell ⟨g, i.toNat, none⟩ vj).setCell ⟨g, j.toNat, none⟩ vi) (some g) := by
 simp only [swapM, rdL2_getD]
 obtain ⟨f, hR⟩ := h
 have hn := (Kd.R_reads' hR).1
 rw [List.length_zipIdx] at hn
 obtain ⟨hok0, inner, ho, hr⟩ := hR
 have hgo : (Value.slice (some ⟨g, 0, none⟩) n cap).ownBlock = some g := by simp [Value.ownBlock]
 have hlen : inner.length = M.length := by have := hr.1;rw [List.length_zipIdx] at this;simpa [Kd.tag, Kd.slice] using this
 rw [List.length_zipIdx, ← hn] at ho
 have hci : ∀ (m : Nat) (u : Value), inner[m]? = some u → W.cell? ⟨g, m, none⟩ = some u := fun m u hu => by
  have := ho.cells (g := g) hgo m u hu
  rwa [add_plain] at this
 have hil : i.toNat < inner.length := by omega
 have hjl : j.toNat < inner.length := by omega
 have ei : inner[i.toNat] = vi := by have := hci _ _ (List.getElem?_eq_getElem hil);rw [hi] at this;injection this with this;exact this.symm
 have ej : inner[j.toNat] = vj := by have := hci _ _ (List.getElem?_eq_getElem hjl);rw [hj] at this;injection this with this;exact this.symm
 obtain ⟨ho1, hg1⟩ := ho.stored i.toNat vj
 obtain ⟨ho2, hg2⟩ := ho1.stored j.toNat vi
 have hg := hg1.trans hg2
 refine ⟨⟨fun k => if f k = i.toNat then j.toNat else if f k = j.toNat then i.toNat else f k, hok0, (inner.set i.toNat vj).set j.toNat vi, ?_, ?_, fun m p hm => ?_⟩, hg⟩
 ·rw [List.length_zipIdx, List.length_set, List.length_set, ← hn];exact ho2
 ·rw [List.length_zipIdx];simp only [List.length_set];simpa [Kd.tag, Kd.slice] using hlen
 ·have hnew : ∀ (q : Nat) (hq : q < M.length) (P : Nat → Prop), (∀ k, f k = q → P k) → dMx.M ((W.setCell ⟨g, i.toNat, none⟩ vj).setCell ⟨g, j.toNat, none⟩ vi) base (fun k => (ok k ∧ some k ≠ (Value.slice (some ⟨g, 0, none⟩) n cap).ownBlock) ∧ P k) M[q] [inner[q]'(by omega)] := by
   intro q hq P hP
   have hold := hr.2 q (M[q], q) (Kd.zip_at (List.getElem?_eq_getElem hq))
   have eseg : (inner.drop (q * (Kd.tag f dMx).sz)).take (Kd.tag f dMx).sz = [inner[q]'(by omega)] := by
    rw [show (Kd.tag f dMx).sz = 1 from rfl, Nat.mul_one, List.drop_eq_getElem_cons (by omega)];rfl
   rw [eseg] at hold
   have hold' : dMx.M W base (fun k => (ok k ∧ some k ≠ (Value.slice (some ⟨g, 0, none⟩) n cap).ownBlock) ∧ f k = q) M[q] [inner[q]'(by omega)] := hold
   exact dMx.M_mono (fun k hk => ⟨hk.1.1, hP k hk.1.2⟩) (dMx.M_move (fun k hk => hg.block k hk.2.2.1 (fun he => hk.1.1.2 (he.trans hgo.symm))) (dMx.M_bound hold'))
  rw [List.getElem?_zipIdx, Nat.zero_add] at hm
  obtain ⟨q, hq, rfl⟩ := Option.map_eq_some_iff.1 hm
  have hml : m < M.length := by have := (List.getElem?_eq_some_iff.1 hq).1;simpa only [List.length_set] using this
  have hil' : i.toNat < M.length := by omega
  have hjl' : j.toNat < M.length := by omega
  have hgi : M.getD i.toNat [] = M[i.toNat] := by rw [List.getD_eq_getElem?_getD, List.getElem?_eq_getElem hil'];rfl
  have hgj : M.getD j.toNat [] = M[j.toNat] := by rw [List.getD_eq_getElem?_getD, List.getElem?_eq_getElem hjl'];rfl
  have eseg : (((inner.set i.toNat vj).set j.toNat vi).drop (m * (Kd.tag f dMx).sz)).take (Kd.tag f dMx).sz = [((inner.set i.toNat vj).set j.toNat vi)[m]'(by simp only [List.length_set];omega)] := by
   rw [show (Kd.tag f dMx).sz = 1 from rfl, Nat.mul_one, List.drop_eq_getElem_cons (by simp only [List.length_set];omega)];rfl
  show dMx.M _ base (fun k => (ok k ∧ some k ≠ (Value.slice (some ⟨g, 0, none⟩) n cap).ownBlock) ∧ (if f k = i.toNat then j.toNat else if f k = j.toNat then i.toNat else f k) = m) q ((((inner.set i.toNat vj).set j.toNat vi).drop (m * (Kd.tag f dMx).sz)).take (Kd.tag f dMx).sz)
  rw [eseg]
  by_cases hmj : m = j.toNat
  ·subst hmj
   rw [List.getElem?_set_self (by rw [List.length_set];exact hml)] at hq
   injection hq with hq
   rw [List.getElem_set_self, ← hq, hgi]
   have h9 := hnew i.toNat hil' (fun k => (if f k = i.toNat then j.toNat else if f k = j.toNat then i.toNat else f k) = j.toNat) (fun k hk => if_pos hk)
   rw [ei] at h9
   exact h9
  ·rw [List.getElem?_set_ne (Ne.symm hmj)] at hq
   rw [List.getElem_set_ne (Ne.symm hmj)]
   by_cases hmi : m = i.toNat
   ·subst hmi
    rw [List.getElem?_set_self hml] at hq
    injection hq with hq
    rw [List.getElem_set_self, ← hq, hgj]
    have h9 := hnew j.toNat hjl' (fun k => (if f k = i.toNat then j.toNat else if f k = j.toNat then i.toNat else f k) = i.toNat) (fun k hk => by rw [if_neg (by rw [hk];exact Ne.symm hmj), if_pos hk])
    rw [ej] at h9
    exact h9
   ·rw [List.getElem?_set_ne (Ne.symm hmi), List.getElem?_eq_getElem hml] at hq
    injection hq with hq
    rw [List.getElem_set_ne (Ne.symm hmi), ← hq]
    refine hnew m hml (fun k => (if f k = i.toNat then j.toNat else if f k = j.toNat then i.toNat else f k) = m) (fun k hk => ?_)
    show (if f k = i.toNat then j.toNat else if f k = j.toNat then i.toNat else f k) = m
    rw [if_neg (by rw [hk];exact hmi), if_neg (by rw [hk];exact hmj), hk]
theorem mx_thaw {W : World} {base g n cap : Nat} {ok : Nat → Prop} {M : List (List Int)} (h : Kd.S dMx 25 W base ok (.slice (some ⟨g, 0, none⟩) n cap) M) (i : Int) (h0 : 0 ≤ i) (h1 : i < n) : W.frozen? ⟨g, i.toNat, none⟩ = false := by
 obtain ⟨_, _, _, _, hf⟩ := Kd.R_elem (Kd.S_R h) [] i h0 h1
 have := hf 0
 simpa only [show dMx.sz = 1 from rfl, Nat.mul_one, Nat.add_zero] using this
theorem mx_second {W : World} {g i j : Nat} {v : Value} (hi : (W.cell? ⟨g, i, none⟩).isSome = true) (hj : W.cell? ⟨g, j, none⟩ = some v) : (W.setCell ⟨g, i, none⟩ v).cell? ⟨g, j, none⟩ = some v := by
 by_cases h : i = j
 ·subst h;exact World.cell?_setCell_same' _ _ _ hi
 ·rw [World.cell?_setCell_other (w := W) (a := ⟨g, i, none⟩) (b := ⟨g, j, none⟩) (v := v) (fun e => h (by injection e))];exact hj

def fieldOf (a t b : Int) : Int := Int.tmod (wrap64 (a + wrap64 (wrap64 (10007 - t) * b))) 10007
mutual
def spec_l9Rank.l0 : Nat → List (List Int) → Int → Int → Option Int
 | 0, _, _, _ => none
 | k + 1, M, x4, x5 => if x5 < (M.length : Int) then ((spec_l9Pivot.f k M x4 x5).bind fun t => if t = (M.length : Int) then spec_l9Rank.l0 k M x4 (wrap64 (x5 + 1)) else (if ((0 ≤ t ∧ t < (M.length : Int)) ∧ (0 ≤ x4 ∧ x4 < (M.length : Int))) ∧ ((0 ≤ x5 ∧ x5 < ((rd_L2 M t).length : Int)) ∧ 0 < (rd_L2 M x4).length) then (spec_l9Raise.f k (rd (rd_L2 M t) x5) 10005).bind fun u => spec_l9Rank.l1 k (swapM M t x4) x4 x5 u (wrap64 (x4 + 1)) else none)) else some x4
def spec_l9Rank.l1 : Nat → List (List Int) → Int → Int → Int → Int → Option Int
 | 0, _, _, _, _, _ => none
 | k + 1, M, x4, x5, x8, x9 => if x9 < (M.length : Int) then (if 0 ≤ x9 ∧ (0 ≤ x5 ∧ x5 < ((rd_L2 M x9).length : Int)) then spec_l9Rank.l2 k M x4 x5 x8 x9 (Int.tmod (wrap64 (rd (rd_L2 M x9) x5 * x8)) 10007) 0 else none) else spec_l9Rank.l0 k M (wrap64 (x4 + 1)) (wrap64 (x5 + 1))
def spec_l9Rank.l2 : Nat → List (List Int) → Int → Int → Int → Int → Int → Int → Option Int
 | 0, _, _, _, _, _, _, _ => none
 | k + 1, M, x4, x5, x8, x9, x10, x11 => if x11 < (M.length : Int) then (if ((0 ≤ x9 ∧ x9 < (M.length : Int)) ∧ (0 ≤ x4 ∧ x4 < (M.length : Int))) ∧ (0 ≤ x11 ∧ (x11 < ((rd_L2 M x9).length : Int) ∧ x11 < ((rd_L2 M x4).length : Int))) then spec_l9Rank.l2 k (putM M x9 x11 (fieldOf (rd (rd_L2 M x9) x11) x10 (rd (rd_L2 M x4) x11))) x4 x5 x8 x9 x10 (wrap64 (x11 + 1)) else none) else spec_l9Rank.l1 k M x4 x5 x8 (wrap64 (x9 + 1))
end
def spec_l9Rank.f (k : Nat) (l0 : List (List Int)) : Option Int := spec_l9Rank.l0 k l0 0 0
theorem spec_l9Rank.mono_l : ∀ k, (∀ y0 y1 y2, LeO (spec_l9Rank.l0 k y0 y1 y2) (spec_l9Rank.l0 (k + 1) y0 y1 y2)) ∧ (∀ y0 y1 y2 y3 y4, LeO (spec_l9Rank.l1 k y0 y1 y2 y3 y4) (spec_l9Rank.l1 (k + 1) y0 y1 y2 y3 y4)) ∧ (∀ y0 y1 y2 y3 y4 y5 y6, LeO (spec_l9Rank.l2 k y0 y1 y2 y3 y4 y5 y6) (spec_l9Rank.l2 (k + 1) y0 y1 y2 y3 y4 y5 y6))
 | 0 => ⟨fun _ _ _ r h => by simp [spec_l9Rank.l0] at h, fun _ _ _ _ _ r h => by simp [spec_l9Rank.l1] at h, fun _ _ _ _ _ _ _ r h => by simp [spec_l9Rank.l2] at h⟩
 | k + 1 => by
  obtain ⟨ih0, ih1, ih2⟩ := spec_l9Rank.mono_l k
  refine ⟨?_, ?_, ?_⟩
  ·intro y0 y1 y2
   unfold spec_l9Rank.l0
   repeat' first
   | exact ih0 _ _ _
   | exact ih1 _ _ _ _ _
   | exact spec_l9Pivot.mono _ _ _ _
   | exact spec_l9Raise.mono _ _ _
   | exact LeO.refl _
   | exact LeO.none _
   | refine LeO.ite ?_ ?_
   | refine LeO.bind ?_ (fun _ => ?_)
  ·intro y0 y1 y2 y3 y4
   unfold spec_l9Rank.l1
   repeat' first
   | exact ih0 _ _ _
   | exact ih2 _ _ _ _ _ _ _
   | exact LeO.none _
   | refine LeO.ite ?_ ?_
  ·intro y0 y1 y2 y3 y4 y5 y6
   unfold spec_l9Rank.l2
   repeat' first
   | exact ih1 _ _ _ _ _
   | exact ih2 _ _ _ _ _ _ _
   | exact LeO.none _
   | refine LeO.ite ?_ ?_
theorem spec_l9Rank.mono : ∀ a0 k, LeO (spec_l9Rank.f k a0) (spec_l9Rank.f (k + 1) a0) := fun a0 k => (spec_l9Rank.mono_l k).1 a0 0 0
set_option maxHeartbeats 1600000 in
set_option maxRecDepth 100000 in
theorem spec_l9Rank.calls (k : Nat) (P0_ : Nat → Prop) (u9000_ : Value) (l0 : List (List Int)) (r : Int) (w0 w : World) (hB : Below w0.heap.size w0 w) (ho0 : Kd.S dMx 25 w w0.heap.size P0_ u9000_ l0) (h : spec_l9Rank.f k l0 = some r) :
  Calls Try.prog 35 #[u9000_] w fun e w' => e = .returned (.int .i64 r) ∧ Below w0.heap.size w0 w' := by
 obtain ⟨A0, c0, rfl⟩ := Kd.S_slice ho0
 have HO0 := Aside0.mk ho0
 have HB := Aside0.mk hB
 clear hB ho0
 have H' := Aside0.mk (show spec_l9Rank.l0 k l0 0 0 = some r from h)
 clear h
 go_enter Try.func35, Try.ntmps35
 go_wp2
 go_loopg [4, 5] k (fun kq v4 v5 w' => ∃ (M : List (List Int)) (x4_1 : Int) (x5_1 : Int), v4 = .int .i64 x4_1 ∧ v5 = .int .i64 x5_1 ∧ Aside0 (spec_l9Rank.l0 kq M x4_1 x5_1 = some r) ∧ Aside0 (kq ≤ k) ∧ Aside0 (Kd.S dMx 25 w' w0.heap.size P0_ (.slice A0 l0.length c0) M) ∧ Aside0 (Below w0.heap.size w0 w'))
 case atStart => exact ⟨l0, 0, 0, rfl, rfl, H', ⟨Nat.le_refl _⟩, HO0, HB⟩
 case round =>
  clear H' HO0 HB
  obtain ⟨M1, x4_1, x5_1, rfl, rfl, HA, HK1, HO1, HB⟩ := hrel
  cases gk with
  | zero => exact absurd HA.out (by simp [spec_l9Rank.l0])
  | succ k1 =>
   have H := HA.out
   clear HA
   simp only [spec_l9Rank.l0] at H
   have HN := Aside0.mk (Kd.S_reads' HO1.out).1
   rw [← HN.out] at H
   by_cases c1 : x5_1 < (l0.length : Int)
   ·rw [if_pos c1] at H
    have c1b0 : decide (x5_1 < (l0.length : Int)) = true := decide_eq_true c1
    obtain ⟨t1, A10, H⟩ := Option.bind_eq_some_iff.mp H
    have A1 := Aside0.mk A10
    clear A10
    have HC2 := Aside0.mk H
    clear H
    have HP1 := Aside0.mk (show Calls Try.prog 61 #[.slice A0 l0.length c0, .int .i64 x4_1, .int .i64 x5_1] wr _ from by
     have hs := Kd.S_reads' HO1.out
     have hc := spec_l9Pivot.calls k1 A0 c0 M1 x4_1 x5_1 t1 wr hs.2.2 (HN.out ▸ hs.2.1) A1.out
     rw [← HN.out] at hc
     exact hc)
    have H := HC2.out
    clear HC2 A1
    by_cases c3 : t1 = (l0.length : Int)
    ·rw [if_pos c3] at H
     have c3b0 : ((t1 : Int) == (l0.length : Int)) = true := beq_iff_eq.2 c3
     have H' := Aside0.mk H
     clear H c3
     go_wp2_with (first | (go_at_call 61;refine HP1.out.mono ?_;rintro e w' ⟨rfl, ⟨nd, rfl⟩⟩))
     go_roundg k1
     case measure => have := HK1.out;omega
     case rel => exact ⟨M1, x4_1, _, rfl, rfl, H', ⟨by have := HK1.out;omega⟩, ⟨Kd.S_drewN HO1.out nd⟩, ⟨pw_below_drewN HB.out nd⟩⟩
    ·rw [if_neg c3] at H
     have c3b0 : ((t1 : Int) == (l0.length : Int)) = false := beq_eq_false_iff_ne.2 c3
     by_cases c4 : ((0 ≤ t1 ∧ t1 < (l0.length : Int)) ∧ (0 ≤ x4_1 ∧ x4_1 < (l0.length : Int))) ∧ ((0 ≤ x5_1 ∧ x5_1 < ((rd_L2 M1 t1).length : Int)) ∧ 0 < (rd_L2 M1 x4_1).length)
     ·rw [if_pos c4] at H
      obtain ⟨u5, A50, H⟩ := Option.bind_eq_some_iff.mp H
      have A5 := Aside0.mk A50
      have H' := Aside0.mk H
      clear H A50 c3
      obtain ⟨⟨⟨p1, q1⟩, ⟨p2, q2⟩⟩, ⟨p3, q3⟩, q4⟩ := c4
      obtain ⟨g, cap, eg, hgb, hgl, _⟩ := Kd.S_form HO1.out (by have := HN.out;omega)
      rw [← HN.out] at eg
      injection eg with eg1 _ eg2
      subst eg1
      subst eg2
      obtain ⟨gt, ct, hxt, hgt, hot, hbt, hlt, hct, _⟩ := mx_row HO1.out t1 p1 q1 (show 0 < (rd_L2 M1 t1).length by omega)
      obtain ⟨gr, cr, hxr, hgr, hor, hbr, hlr, hcr, _⟩ := mx_row HO1.out x4_1 p2 q2 q4
      have hf1 := mx_thaw HO1.out t1 p1 q1
      have hf2 := mx_thaw HO1.out x4_1 p2 q2
      have hx5 := (hct x5_1 p3 q3).1
      have HS := fun nd => Aside0.mk (mx_swap (Kd.S_drewN HO1.out nd) t1 x4_1 p1 q1 p2 q2 hxt hxr)
      have HG := Aside0.mk hgb
      have HR5 := fun W => Aside0.mk (spec_l9Raise.calls k1 (rd (rd_L2 M1 t1) x5_1) 10005 u5 W A5.out)
      have HX2 := Aside0.mk (And.intro p2 q2)
      have hx2 := fun nd => mx_second (W := wr.drewN nd) (g := g) (i := t1.toNat) (j := x4_1.toNat) (by rw [show (wr.drewN nd).cell? ⟨g, t1.toNat, none⟩ = _ from hxt];rfl) hxr
      have hgt' : g ≠ gt := Ne.symm hgt
      replace p1 := eq_true p1
      replace q1 := eq_true q1
      replace p2 := eq_true p2
      replace q2 := eq_true q2
      replace p3 := eq_true p3
      replace q3 := eq_true q3
      clear hct hcr hgb hgl hbt hlt hbr hlr hor hot hgr A5
      go_wp2_with (first | (go_at_call 61;refine HP1.out.mono ?_;rintro e w' ⟨rfl, ⟨nd, rfl⟩⟩) | (go_at_call 62;refine (HR5 _).out.mono ?_;rintro e w' ⟨rfl, ⟨nd2, rfl⟩⟩))
      have HS1 := Aside0.mk (Kd.S_drewN (HS nd).out.1 nd2)
      have HB1 := Aside0.mk (pw_below_drewN (below_set (v := .slice (some ⟨gt, 0, none⟩) (rd_L2 M1 t1).length ct) (j := x4_1.toNat) (below_set (v := .slice (some ⟨gr, 0, none⟩) (rd_L2 M1 x4_1).length cr) (j := t1.toNat) (pw_below_drewN HB.out nd) HG.out) HG.out) nd2)
      have HX1 := Aside0.mk (World.cell?_setCell_same' ((wr.drewN nd).setCell ⟨g, t1.toNat, none⟩ (.slice (some ⟨gr, 0, none⟩) (rd_L2 M1 x4_1).length cr)) ⟨g, x4_1.toNat, none⟩ (.slice (some ⟨gt, 0, none⟩) (rd_L2 M1 t1).length ct) (by rw [hx2 nd];rfl))
      generalize ((wr.drewN nd).setCell ⟨g, t1.toNat, none⟩ (.slice (some ⟨gr, 0, none⟩) (rd_L2 M1 x4_1).length cr)).setCell ⟨g, x4_1.toNat, none⟩ (.slice (some ⟨gt, 0, none⟩) (rd_L2 M1 t1).length ct) = w4 at HS1 HB1 HX1 ⊢
      replace HX1 := Aside0.mk (show (w4.drewN nd2).cell? ⟨g, x4_1.toNat, none⟩ = some (.slice (some ⟨gt, 0, none⟩) (rd_L2 M1 t1).length ct) from HX1.out)
      generalize w4.drewN nd2 = w5 at HS1 HB1 HX1 ⊢
      clear HP1 HO1 HB HS HR5 hxt hxr hf1 hf2 hx5 hx2 c3b0 hgt hgt' p1 q1 p2 q2 p3 q3 q4
      generalize (rd_L2 M1 t1).length = lt at HX1 ⊢
      go_loopg [9] k1 (fun kq v9 w' => ∃ (M2 : List (List Int)) (x9_2 : Int), v9 = .int .i64 x9_2 ∧ Aside0 (spec_l9Rank.l1 kq M2 x4_1 x5_1 u5 x9_2 = some r) ∧ Aside0 (kq ≤ k1) ∧ Aside0 (Kd.S dMx 25 w' w0.heap.size P0_ (.slice (some ⟨g, 0, none⟩) l0.length c0) M2) ∧ Aside0 (w'.cell? ⟨g, x4_1.toNat, none⟩ = some (.slice (some ⟨gt, 0, none⟩) lt ct)) ∧ Aside0 (Below w0.heap.size w0 w'))
      case atStart => exact ⟨_, _, rfl, H', ⟨Nat.le_refl _⟩, HS1, HX1, HB1⟩
      case round =>
       clear H' HS1 HX1 HB1 HN
       obtain ⟨M2, x9_2, rfl, HA, HK2, HS2, HX2', HB2⟩ := hrel
       cases gk with
       | zero => exact absurd HA.out (by simp [spec_l9Rank.l1])
       | succ k2 =>
        have H := HA.out
        clear HA
        simp only [spec_l9Rank.l1] at H
        have HN := Aside0.mk (Kd.S_reads' HS2.out).1
        rw [← HN.out] at H
        by_cases c6 : x9_2 < (l0.length : Int)
        ·rw [if_pos c6] at H
         have c6b0 : decide (x9_2 < (l0.length : Int)) = true := decide_eq_true c6
         by_cases c7 : 0 ≤ x9_2 ∧ (0 ≤ x5_1 ∧ x5_1 < ((rd_L2 M2 x9_2).length : Int))
         ·rw [if_pos c7] at H
          have H' := Aside0.mk H
          clear H
          obtain ⟨p1, p3, q3⟩ := c7
          obtain ⟨gk, ck, hxk, hgk, _, _, _, hck, _⟩ := mx_row HS2.out x9_2 p1 c6 (show 0 < (rd_L2 M2 x9_2).length by omega)
          have hxc := (hck x5_1 p3 q3).1
          clear hck
          replace c6 := eq_true c6
          replace p1 := eq_true p1
          replace p3 := eq_true p3
          replace q3 := eq_true q3
          go_wp2
          clear hxk hxc hgk p1 p3 q3 c6 c6b0
          generalize Int.tmod (wrap64 (rd (rd_L2 M2 x9_2) x5_1 * u5)) 10007 = x10 at H' ⊢
          go_loopg [11] k2 (fun kq v11 w' => ∃ (M3 : List (List Int)) (x11_3 : Int), v11 = .int .i64 x11_3 ∧ Aside0 (spec_l9Rank.l2 kq M3 x4_1 x5_1 u5 x9_2 x10 x11_3 = some r) ∧ Aside0 (kq ≤ k2) ∧ Aside0 (Kd.S dMx 25 w' w0.heap.size P0_ (.slice (some ⟨g, 0, none⟩) l0.length c0) M3) ∧ Aside0 (w'.cell? ⟨g, x4_1.toNat, none⟩ = some (.slice (some ⟨gt, 0, none⟩) lt ct)) ∧ Aside0 (Below w0.heap.size w0 w'))
          case atStart => exact ⟨_, _, rfl, H', ⟨Nat.le_refl _⟩, HS2, HX2', HB2⟩
          case round =>
           clear H' HS2 HX2' HB2 HN
           obtain ⟨M3, x11_3, rfl, HA, HK3, HS3, HX3, HB3⟩ := hrel
           cases gk with
           | zero => exact absurd HA.out (by simp [spec_l9Rank.l2])
           | succ k3 =>
            have H := HA.out
            clear HA
            simp only [spec_l9Rank.l2] at H
            have HN := Aside0.mk (Kd.S_reads' HS3.out).1
            rw [← HN.out] at H
            by_cases c8 : x11_3 < (l0.length : Int)
            ·rw [if_pos c8] at H
             have c8b0 : decide (x11_3 < (l0.length : Int)) = true := decide_eq_true c8
             by_cases c9 : ((0 ≤ x9_2 ∧ x9_2 < (l0.length : Int)) ∧ (0 ≤ x4_1 ∧ x4_1 < (l0.length : Int))) ∧ (0 ≤ x11_3 ∧ (x11_3 < ((rd_L2 M3 x9_2).length : Int) ∧ x11_3 < ((rd_L2 M3 x4_1).length : Int)))
             ·rw [if_pos c9] at H
              have H' := Aside0.mk H
              clear H
              obtain ⟨⟨⟨p1, q1⟩, ⟨p2, q2⟩⟩, p3, q3, q4⟩ := c9
              obtain ⟨gk, ck, hxk, hgk, hok, hbk, hlk, hck, hput⟩ := mx_row HS3.out x9_2 p1 q1 (show 0 < (rd_L2 M3 x9_2).length by omega)
              obtain ⟨gr2, cr2, hxr, hgr2, _, _, _, hcr, _⟩ := mx_row HS3.out x4_1 p2 q2 (show 0 < (rd_L2 M3 x4_1).length by omega)
              have hee := hxr.symm.trans HX3.out
              injection hee with hee
              injection hee with e1 e2 e3
              injection e1 with e1
              injection e1 with e1
              subst e1
              subst e2
              subst e3
              obtain ⟨hy1, hf1⟩ := hck x11_3 p3 q3
              have hy2 := (hcr x11_3 p3 q4).1
              have HBK := Aside0.mk hbk
              have HGK := Aside0.mk hgk
              generalize rd (rd_L2 M3 x9_2) x11_3 = ya at H' hy1
              generalize rd (rd_L2 M3 x4_1) x11_3 = yb at H' hy2
              have HN3 := Aside0.mk (And.intro hgk hbk)
              have HS4 := Aside0.mk (Kd.S_drew (hput x11_3 (fieldOf ya x10 yb)).1)
              have HX4 := Aside0.mk ((World.cell?_setCell_other (w := wr) (a := ⟨gk, x11_3.toNat, none⟩) (b := ⟨g, x4_1.toNat, none⟩) (v := .int .i64 (fieldOf ya x10 yb)) (fun e => hgk (by injection e))).trans HX3.out)
              have HB4 := Aside0.mk (below_drew1 (below_set (v := .int .i64 (fieldOf ya x10 yb)) (j := x11_3.toNat) HB3.out hbk))
              clear hput hck hcr hok hbk hlk hgr2 HBK HGK hgk
              replace p1 := eq_true p1
              replace q1 := eq_true q1
              replace p2 := eq_true p2
              replace q2 := eq_true q2
              replace p3 := eq_true p3
              replace q3 := eq_true q3
              replace q4 := eq_true q4
              go_wp2
              refine still_tail_drew 22 (by kernel_rfl) (by kernel_rfl) ?_
              simp only [List.take_succ_cons, List.take_zero, List.drop_succ_cons, List.drop_zero]
              repeat still_step
              refine wpStill_nil ?_
              go_wp2
              go_roundg k3
              case measure => have := HK3.out;omega
              case rel => exact ⟨_, _, rfl, H', ⟨by have := HK3.out;omega⟩, HS4, HX4, HB4⟩
             ·rw [if_neg c9] at H
              cases H
            ·rw [if_neg c8] at H
             have c8b0 : decide (x11_3 < (l0.length : Int)) = false := decide_eq_false c8
             have H' := Aside0.mk H
             clear H c8
             go_wp2
             go_roundg k3
             case measure => have := HK2.out;have := HK3.out;omega
             case rel => exact ⟨M3, _, rfl, H', ⟨by have := HK2.out;have := HK3.out;omega⟩, HS3, HX3, HB3⟩
         ·rw [if_neg c7] at H
          cases H
        ·rw [if_neg c6] at H
         have c6b0 : decide (x9_2 < (l0.length : Int)) = false := decide_eq_false c6
         have H' := Aside0.mk H
         clear H c6
         go_wp2
         go_roundg k2
         case measure => have := HK1.out;have := HK2.out;omega
         case rel => exact ⟨M2, _, _, rfl, rfl, H', ⟨by have := HK1.out;have := HK2.out;omega⟩, HS2, HB2⟩
     ·rw [if_neg c4] at H
      cases H
   ·rw [if_neg c1] at H
    have c1b0 : decide (x5_1 < (l0.length : Int)) = false := decide_eq_false c1
    injection H with H
    subst H
    clear c1
    go_wp2
    go_ret
    exact ⟨rfl, HB.out⟩

end Go.Proofs.Ytaddgielnfhhpaa.QNullityOf
