import Derived.Test.YthbjajppdomhhaaDoorQIsEternalFamily0
import Derived.Test.YthbjajppdomhhaaDoorQIsEternalFamily11
import Derived.Test.YthbjajppdomhhaaDoorQIsEternalFamily12
import Derived.Test.YthbjajppdomhhaaDoorQIsEternalFamily13
import Derived.Test.YthbjajppdomhhaaDoorQIsEternalFamily14
import Derived.Test.YthbjajppdomhhaaDoorQIsEternalFamily15
import Derived.Test.YthbjajppdomhhaaDoorQIsEternalFamily5
import Derived.Test.YthbjajppdomhhaaDoorQIsEternalFamily6
import Derived.Test.YthbjajppdomhhaaDoorQIsEternalFamily7
import Derived.Test.YthbjajppdomhhaaDoorQIsEternalFamily8
import Derived.Test.YthbjajppdomhhaaDoorQIsEternalFamilyA2
namespace Go.Proofs.YthbjajppdomhhaaDoor.QIsEternalFamily
open Go.RowKit Go.Proofs.YthbjajppdomhhaaDoorW.PrintWords Go.Proofs.YthbjajppdomhhaaDoorW.PrintLast Go.Proofs.YthbjajppdomhhaaDoorW.PrintMore
attribute [local go_sem] max2_int min2_int max_two min_two max_three min_three max_four min_four   -- for this text's walks alone
set_option linter.unusedVariables false
set_option linter.unusedSimpArgs false
theorem slicesContains_ev (l : List Int) (x : Int) (hl : l.length ≤ 9223372036854775807) : Ev (fun k => slices_Contains_int_int.f k l x) (decide (x ∈ l)) := by
 unfold slices_Contains_int_int.f slices_Index_int_int.f
 have H := down l.length (fun i => ∃ j : Int, Ev (fun k => slices_Index_int_int.l0 k l x (l.length : Int) i) j ∧ (j ≥ 0 ↔ x ∈ l.drop i)) ?_ ?_ 0 (by omega)
 ·obtain ⟨j, h1, h2⟩ := H
  rw [Ev.bind_iff (show Ev (fun k => slices_Index_int_int.l0 k l x (l.length : Int) 0) j from h1), Ev.now_iff, decide_eq_decide, h2, List.drop_zero]
 ·refine ⟨-1, ?_, by simp⟩
  rw [Ev.iff_succ]
  simp only [slices_Index_int_int.l0, Int.lt_irrefl, ↓reduceIte, Ev.now_iff]
 ·intro i hi ih
  obtain ⟨j, h1, h2⟩ := ih
  have g1 : (i : Int) < (l.length : Int) := by omega
  have g2 : (0 : Int) ≤ (i : Int) := by omega
  by_cases c : x = l[i]
  ·refine ⟨i, ?_, ⟨fun _ => by rw [c, List.drop_eq_getElem_cons hi];exact List.mem_cons_self, fun _ => by omega⟩⟩
   rw [Ev.iff_succ]
   simp only [slices_Index_int_int.l0, Ev.ite_iff, g1, g2, ↓reduceIte, rd_lt l i hi]
   rw [if_pos c, Ev.now_iff]
  ·refine ⟨j, ?_, by rw [h2, List.drop_eq_getElem_cons hi, List.mem_cons];simp [c]⟩
   rw [Ev.iff_succ]
   simp only [slices_Index_int_int.l0, Ev.ite_iff, g1, g2, ↓reduceIte, rd_lt l i hi, w64_succ i (show i < 9223372036854775807 by omega)]
   rw [if_neg c]
   exact h1

/-- Sets of one size, in a list of any length. -/
structure Ew (n : Nat) (L : List (List Int)) : Prop where
 hn : n ≤ 8
 len : L.length ≤ 1048576
 row : ∀ i, i < L.length → ∃ m, m < 2 ^ n ∧ grd L i = bl n m
 same : ∀ i j, i < L.length → j < L.length → (grd L i).length = (grd L j).length

theorem ew_short {n : Nat} {L : List (List Int)} (G : Ew n L) {i : Nat} (hi : i < L.length) : (grd L i).length ≤ 8 := by
 obtain ⟨m, _, h⟩ := G.row i hi
 have := bl_len_le n m
 have := G.hn
 rw [h];omega

theorem ew_spec {es : List S92} {n : Nat} {L : List (List Int)} (G : Ew n L) (he : es.length ≤ 9223372036854775807) (all : Bool) {i j : Nat} (hi : i < L.length) (hj : j < L.length) : Ev (fun k => spec_l10Moves.f k n es (grd L i) (grd L j) all) (mvG es n all L i j) := by
 obtain ⟨f, hf, e1⟩ := G.row i hi
 obtain ⟨t, ht, e2⟩ := G.row j hj
 have hs := G.same i j hi hj
 unfold mvG
 rw [e1, e2] at hs ⊢
 rw [mL_bl hf, mL_bl ht]
 exact l10Moves_ev he G.hn ht all hs

theorem ew_impl {es : List S92} {n : Nat} {L : List (List Int)} (G : Ew n L) (all : Bool) {i j : Nat} (hi : i < L.length) (hj : j < L.length) : Ev (fun k => impl_net_canMoveGuards.f k (nets es n) ((mL (grd L i) : Nat) : Int) ((mL (grd L j) : Nat) : Int) all) (mvG es n all L i j) := by
 obtain ⟨f, hf, e1⟩ := G.row i hi
 obtain ⟨t, ht, e2⟩ := G.row j hj
 have hs := G.same i j hi hj
 unfold mvG
 rw [e1, e2] at hs ⊢
 rw [mL_bl hf, mL_bl ht]
 exact canMoveGuards_ev G.hn hf ht all hs

theorem ew_mask {n : Nat} {L : List (List Int)} (G : Ew n L) {i : Nat} (hi : i < L.length) : Ev (fun k => impl_maskOf.f k (grd L i)) ((mL (grd L i) : Nat) : Int) := by
 obtain ⟨f, hf, e1⟩ := G.row i hi
 have hs := ew_short G hi
 have hn := G.hn
 refine maskOf_ev (grd L i) (by omega) (fun x hx => ?_)
 rw [e1] at hx
 obtain ⟨j, hj, _, rfl⟩ := mem_bl.1 hx
 omega

def eternB (es : List S92) (n : Nat) (all : Bool) (L : List (List Int)) (i : Nat) (x : Int) : Bool := (List.range L.length).any fun j => hasG L j x && mvG es n all L i j

def holdsB (es : List S92) (n : Nat) (all : Bool) (L : List (List Int)) : Bool := (List.range L.length).all fun i => (List.range n).all fun x => hasG L i (x : Int) || eternB es n all L i (x : Int)

def rowsB (n : Int) (es : List S92) (L : List (List Int)) : Bool := L.all fun l => setB n es l && decide (l.length = (grd L 0).length)

theorem rowsB_use {n : Nat} {es : List S92} {L : List (List Int)} (hn : n ≤ 8) (hL : L.length ≤ 1048576) (h : rowsB n es L = true) : Ew n L := by
 unfold rowsB at h
 rw [List.all_eq_true] at h
 have hr : ∀ i, i < L.length → setB n es (grd L i) = true ∧ (grd L i).length = (grd L 0).length := fun i hi => by
  have := h (grd L i) (by rw [grd_lt hi];exact List.getElem_mem hi)
  rw [Bool.and_eq_true, decide_eq_true_eq] at this
  exact this
 refine ⟨hn, hL, fun i hi => ?_, fun i j hi hj => by rw [(hr i hi).2, (hr j hj).2]⟩
 obtain ⟨N, m, e, _, _, _, hm, hl, _⟩ := setB_use (hr i hi).1
 obtain rfl : n = N := by omega
 exact ⟨m, hm, hl⟩

theorem l10Eternal_ev {es : List S92} {n : Nat} {L : List (List Int)} (G : Ew n L) (he : es.length ≤ 9223372036854775807) (all : Bool) {i : Nat} (hi : i < L.length) (x : Int) : Ev (fun k => spec_l10Eternal.f k n es L (grd L i) x all) (eternB es n all L i x) := by
 unfold spec_l10Eternal.f
 have hm := G.len
 have H := down L.length (fun j => Ev (fun k => spec_l10Eternal.l0 k L (grd L i) x all j n es) (((List.range L.length).drop j).any fun j => hasG L j x && mvG es n all L i j)) ?_ ?_ 0 (by omega)
 ·exact H
 ·show Ev _ _
  rw [Ev.iff_succ]
  simp only [spec_l10Eternal.l0, Int.lt_irrefl, ↓reduceIte, Ev.now_iff]
  rw [List.drop_eq_nil_of_le (by simp)]
  rfl
 ·intro j hj ih
  show Ev _ _
  rw [Ev.iff_succ]
  have h1 : (j : Int) < (L.length : Int) := by omega
  have h2 : (0 : Int) ≤ (j : Int) := by omega
  have hs := ew_short G hj
  rw [range_drop hj, List.any_cons]
  simp only [spec_l10Eternal.l0, h1, h2, ↓reduceIte, rdL2_nat, w64_succ j (show j < 9223372036854775807 by omega)]
  rw [Ev.bind_iff (l1Has_ev (grd L j) x (by omega)), Ev.ite_iff]
  by_cases c : x ∈ grd L j
  ·rw [if_pos (by simpa using c), Ev.bind_iff (ew_spec G he all hi hj), Ev.ite_iff]
   have hc : hasG L j x = true := decide_eq_true c
   rw [hc, Bool.true_and]
   cases hv : mvG es n all L i j with
   | true => rw [if_pos rfl, Bool.true_or, Ev.now_iff]
   | false => rw [if_neg (by decide), Bool.false_or];exact ih
  ·rw [if_neg (by simpa using c)]
   have hc : hasG L j x = false := decide_eq_false c
   rw [hc, Bool.false_and, Bool.false_or]
   exact ih

theorem l10Holds_l1 {es : List S92} {n : Nat} {L : List (List Int)} (G : Ew n L) (he : es.length ≤ 9223372036854775807) (all : Bool) (h0 : L ≠ []) : Ev (fun k => spec_l10Holds.l1 k L all 0 n es) (holdsB es n all L) := by
 have hm := G.len
 have hn := G.hn
 have H := down L.length (fun i => Ev (fun k => spec_l10Holds.l1 k L all i n es) (((List.range L.length).drop i).all fun i => (List.range n).all fun x => hasG L i (x : Int) || eternB es n all L i (x : Int))) ?_ ?_ 0 (by omega)
 ·exact H
 ·show Ev _ _
  rw [Ev.iff_succ]
  simp only [spec_l10Holds.l1, Int.lt_irrefl, ↓reduceIte, Ev.now_iff]
  rw [List.drop_eq_nil_of_le (by simp)]
  have := List.length_pos_iff.2 h0
  rw [decide_eq_true (by omega)]
  rfl
 ·intro i hi ih
  show Ev _ _
  rw [Ev.iff_succ]
  have h1 : (i : Int) < (L.length : Int) := by omega
  have h2 : (0 : Int) ≤ (i : Int) := by omega
  have hs := ew_short G hi
  rw [range_drop hi, List.all_cons]
  simp only [spec_l10Holds.l1, h1, ↓reduceIte]
  have H2 := down n (fun x => Ev (fun k => spec_l10Holds.l2 k L all i x n es) ((((List.range n).drop x).all fun x => hasG L i (x : Int) || eternB es n all L i (x : Int)) && ((List.range L.length).drop (i + 1)).all fun i => (List.range n).all fun x => hasG L i (x : Int) || eternB es n all L i (x : Int))) ?_ ?_ 0 (by omega)
  ·exact H2
  ·show Ev _ _
   rw [Ev.iff_succ]
   simp only [spec_l10Holds.l2, Int.lt_irrefl, ↓reduceIte, w64_succ i (show i < 9223372036854775807 by omega)]
   rw [List.drop_eq_nil_of_le (by simp), List.all_nil, Bool.true_and]
   exact ih
  ·intro x hx ih2
   show Ev _ _
   rw [Ev.iff_succ]
   have h3 : (x : Int) < (n : Int) := by omega
   rw [range_drop hx, List.all_cons]
   simp only [spec_l10Holds.l2, h1, h2, h3, ↓reduceIte, rdL2_nat, w64_succ x (show x < 9223372036854775807 by omega)]
   rw [Ev.bind_iff (l1Has_ev (grd L i) x (by omega)), Ev.ite_iff]
   by_cases c : (x : Int) ∈ grd L i
   ·rw [if_pos (by simpa using c)]
    have hc : hasG L i (x : Int) = true := decide_eq_true c
    rw [hc, Bool.true_or, Bool.true_and]
    exact ih2
   ·rw [if_neg (by simpa using c), Ev.bind_iff (l10Eternal_ev G he all hi x), Ev.ite_iff]
    have hc : hasG L i (x : Int) = false := decide_eq_false c
    rw [hc, Bool.false_or]
    cases hv : eternB es n all L i (x : Int) with
    | true => rw [if_pos rfl, Bool.true_and];exact ih2
    | false => rw [if_neg (by decide), Bool.false_and, Bool.false_and, Ev.now_iff]

def isEternalFamilyR (n : Int) (es : List S92) (L : List (List Int)) (b : Bool) : Bool × Bool := if okG n es = true then (decide (L ≠ []) && (rowsB n es L && holdsB es n.toNat b L), true) else (false, false)

theorem specIsEternalFamily_ev (n : Int) (es : List S92) (L : List (List Int)) (b : Bool) (hL : L.length ≤ 1048576) (hr : ∀ r ∈ L, r.length ≤ 1048576) (he : es.length ≤ 9223372036854775807) : Ev (fun k => spec_IsEternalFamily.f k n es L b) (isEternalFamilyR n es L b) := by
 unfold spec_IsEternalFamily.f isEternalFamilyR
 rw [l2Good_eq]
 simp only [Option.bind_some, Ev.ite_iff]
 by_cases h1 : okG n es = true
 case neg => rw [if_neg h1, if_neg h1, Ev.now_iff]
 rw [if_pos h1, if_pos h1]
 have hX : Ev (fun k => spec_l10Holds.f k n es L b) (decide (L ≠ []) && (rowsB n es L && holdsB es n.toNat b L)) := by
  unfold spec_l10Holds.f
  by_cases h0 : L = []
  ·subst h0
   have z : ¬ ((0 : Int) < ((0 : Nat) : Int)) := by decide
   have zz : ¬ (((0 : Nat) : Int) > 0) := by decide
   rw [Ev.iff_succ]
   simp only [spec_l10Holds.l0, List.length_nil, z, ↓reduceIte]
   rw [Ev.iff_succ]
   simp only [spec_l10Holds.l1, List.length_nil, z, zz, ↓reduceIte, Ev.now_iff]
   simp
  ·rw [decide_eq_true h0, Bool.true_and]
   have hp := List.length_pos_iff.2 h0
   have hpz : (0 : Int) < (L.length : Int) := by omega
   have H := down L.length (fun i => (rowsB n es L = ((L.drop i).all fun l => setB n es l && decide (l.length = (grd L 0).length))) → Ev (fun k => spec_l10Holds.l0 k L b i n es) (rowsB n es L && holdsB es n.toNat b L)) ?_ ?_ 0 (by omega) rfl
   ·exact H
   ·intro hR
    rw [List.drop_length, List.all_nil] at hR
    obtain ⟨N, rfl, hN⟩ := okG_use h1
    have G := rowsB_use hN hL hR
    rw [hR, Bool.true_and, Ev.iff_succ]
    simp only [spec_l10Holds.l0, Int.lt_irrefl, ↓reduceIte, Int.toNat_natCast]
    exact l10Holds_l1 G he b h0
   ·intro i hi ih hR
    rw [List.drop_eq_getElem_cons hi, List.all_cons, ← grd_lt hi] at hR
    have g1 : (i : Int) < (L.length : Int) := by omega
    have g2 : (0 : Int) ≤ (i : Int) := by omega
    have hl := hr (grd L i) (by rw [grd_lt hi];exact List.getElem_mem hi)
    rw [Ev.iff_succ]
    simp only [spec_l10Holds.l0, g1, g2, hpz, ↓reduceIte, rdL2_nat, show rd_L2 L 0 = grd L 0 from rfl, w64_succ i (show i < 9223372036854775807 by omega)]
    rw [Ev.bind_iff (l2Set_ev n es (grd L i) (by omega)), Ev.ite_iff]
    by_cases c : setB n es (grd L i) = true
    ·have c' := c
     simp only [setB, h1, Bool.true_and] at c'
     rw [if_pos c', Ev.ite_iff]
     by_cases c2 : (grd L i).length = (grd L 0).length
     ·rw [if_pos (by omega)]
      rw [c, decide_eq_true c2, Bool.true_and, Bool.true_and] at hR
      exact ih hR
     ·rw [if_neg (by omega), hR, c, decide_eq_false c2, Bool.and_false, Bool.false_and, Bool.false_and, Ev.now_iff]
    ·have c' : ¬ (allIn 0 (wrap64 (n - 1)) (grd L i) && ascB none (grd L i)) = true := by simpa only [setB, h1, Bool.true_and] using c
     rw [if_neg c', hR, Bool.eq_false_iff.2 c, Bool.false_and, Bool.false_and, Bool.false_and, Ev.now_iff]
 rw [Ev.bind_iff hX, Ev.now_iff]

theorem anyR_ev {q : Nat → List Int → Option Bool} {g : List Int → Bool} (l : List (List Int)) (h : ∀ x ∈ l, Ev (fun k => q k x) (g x)) : Ev (fun k => anyR (q k) l) (l.any g) := by
 have H : ∀ (l : List (List Int)) (i : Int), 0 ≤ i → (∀ x ∈ l, Ev (fun k => q k x) (g x)) → ∃ r : Int, Ev (fun k => idxR (q k) l i) r ∧ (0 ≤ r ↔ l.any g = true) := by
  intro l
  induction l with
  | nil => exact fun i _ _ => ⟨-1, by simp only [idxR];exact Ev.now _, by simp⟩
  | cons a t ih =>
   intro i hi h
   have ha := h a (by simp)
   by_cases c : g a = true
   ·refine ⟨i, ?_, by simp [c, hi]⟩
    simp only [idxR]
    rw [Ev.bind_iff ha, Ev.ite_iff, if_pos c]
    exact Ev.now _
   ·obtain ⟨r, h1, h2⟩ := ih (i + 1) (by omega) (fun x hx => h x (by simp [hx]))
    refine ⟨r, ?_, by rw [h2];simp [c]⟩
    simp only [idxR]
    rw [Ev.bind_iff ha, Ev.ite_iff, if_neg c]
    exact h1
 obtain ⟨r, h1, h2⟩ := H l 0 (by omega) h
 unfold anyR
 rw [Ev.bind_iff h1, Ev.now_iff, Bool.eq_iff_iff, decide_eq_true_eq]
 exact h2

theorem any_grd (L : List (List Int)) (f : List Int → Bool) : L.any f = (List.range L.length).any fun j => f (grd L j) := by
 rw [Bool.eq_iff_iff, List.any_eq_true, List.any_eq_true]
 constructor
 ·rintro ⟨x, hx, h⟩
  obtain ⟨j, hj, rfl⟩ := List.mem_iff_getElem.1 hx
  exact ⟨j, List.mem_range.2 hj, by rw [grd_lt hj];exact h⟩
 ·rintro ⟨j, hj, h⟩
  have hj := List.mem_range.1 hj
  exact ⟨grd L j, by rw [grd_lt hj];exact List.getElem_mem hj, h⟩

theorem valBad_ev (n : Int) (es : List S92) (L : List (List Int)) (h0 : L ≠ []) (hr : ∀ r ∈ L, r.length ≤ 1048576) : Ev (fun k => impl_valBad.f k n es L) (!rowsB n es L) := by
 have hp := List.length_pos_iff.2 h0
 have hpz : (0 : Int) < (L.length : Int) := by omega
 have e : (!rowsB n es L) = L.any fun l => !(setB n es l && decide (l.length = (grd L 0).length)) := by
  unfold rowsB;rw [List.all_eq_not_any_not, Bool.not_not]
 rw [e]
 unfold impl_valBad.f
 refine anyR_ev L (fun l hl => ?_)
 have := hr l hl
 simp only [impl_isEternalFamilyC1.f, hpz, ↓reduceIte, show rd_L2 L 0 = grd L 0 from rfl]
 rw [Ev.bind_iff (isSet_ev n es l (by omega)), Ev.ite_iff]
 by_cases c : setB n es l = true
 ·rw [if_pos c, c, Bool.true_and, Ev.now_iff]
  by_cases c2 : l.length = (grd L 0).length
  ·rw [decide_eq_true c2, c2];simp
  ·have : (l.length : Int) ≠ ((grd L 0).length : Int) := by omega
   rw [decide_eq_false c2, bne_iff_ne.2 this];rfl
 ·rw [if_neg c, Bool.eq_false_iff.2 c, Bool.false_and, Ev.now_iff];rfl

theorem valAns_ev {es : List S92} {n : Nat} {L : List (List Int)} (G : Ew n L) (all : Bool) {i : Nat} (hi : i < L.length) (x : Int) : Ev (fun k => impl_valAns.f k (nets es n) L (grd L i) x all) (eternB es n all L i x) := by
 unfold impl_valAns.f eternB
 have e : ((List.range L.length).any fun j => hasG L j x && mvG es n all L i j) = L.any fun l => decide (x ∈ l) && movesM es n (mL (grd L i)) (mL l) all := (any_grd L fun l => decide (x ∈ l) && movesM es n (mL (grd L i)) (mL l) all).symm
 rw [e]
 refine anyR_ev L (fun l hl => ?_)
 obtain ⟨j, hj, rfl⟩ := List.mem_iff_getElem.1 hl
 rw [← grd_lt hj]
 have hs := ew_short G hj
 simp only [impl_isEternalFamilyC2.f]
 rw [Ev.bind_iff (slicesContains_ev (grd L j) x (by omega)), Ev.ite_iff]
 by_cases c : x ∈ grd L j
 ·rw [if_pos (by simpa using c), decide_eq_true c, Bool.true_and, Ev.bind_iff (ew_mask G hi), Ev.bind_iff (ew_mask G hj), Ev.bind_iff (ew_impl G all hi hj), Ev.now_iff];rfl
 ·rw [if_neg (by simpa using c), decide_eq_false c, Bool.false_and, Ev.now_iff]

theorem out_all {n m : Nat} (p : Int → Bool) : (bl n (mns (2 ^ n - 1) m)).all p = (List.range n).all fun x => decide ((x : Int) ∈ bl n m) || p (x : Int) := by
 rw [Bool.eq_iff_iff, List.all_eq_true, List.all_eq_true]
 constructor
 ·intro h x hx
  have hx := List.mem_range.1 hx
  by_cases c : (x : Int) ∈ bl n m
  ·rw [decide_eq_true c, Bool.true_or]
  ·have hb : m.testBit x = false := by
    cases hv : m.testBit x with
    | false => rfl
    | true => exact absurd (mem_bl_nat.2 ⟨hx, hv⟩) c
   have := h x (mem_bl_nat.2 ⟨hx, by rw [mns_bit, Nat.testBit_two_pow_sub_one, decide_eq_true hx, hb];rfl⟩)
   rw [this, Bool.or_true]
 ·intro h x hx
  obtain ⟨i, h1, h2, rfl⟩ := mem_bl.1 hx
  rw [mns_bit, Nat.testBit_two_pow_sub_one, decide_eq_true h1, Bool.true_and] at h2
  have h3 := h i (List.mem_range.2 h1)
  have c : ¬ ((i : Int) ∈ bl n m) := fun hc => by rw [(mem_bl_nat.1 hc).2] at h2;cases h2
  rwa [decide_eq_false c, Bool.false_or] at h3

theorem implEtern_l1 {es : List S92} {n : Nat} {L : List (List Int)} (G : Ew n L) (all : Bool) {i : Nat} (hi : i < L.length) (r : Bool) (ih : Ev (fun k => impl_isEternalFamily.l0 k L (L.length : Int) ((i + 1 : Nat) : Int) L all (nets es n)) r) (l : List Int) (hl : l.length ≤ 8) : Ev (fun k => impl_isEternalFamily.l1 k L (L.length : Int) (i : Int) l (l.length : Int) 0 L all (nets es n) (grd L i)) ((l.all fun x => eternB es n all L i x) && r) := by
 have hm := G.len
 have H := down l.length (fun j => Ev (fun k => impl_isEternalFamily.l1 k L (L.length : Int) (i : Int) l (l.length : Int) j L all (nets es n) (grd L i)) (((l.drop j).all fun x => eternB es n all L i x) && r)) ?_ ?_ 0 (by omega)
 ·exact H
 ·show Ev _ _
  rw [Ev.iff_succ]
  simp only [impl_isEternalFamily.l1, Int.lt_irrefl, ↓reduceIte, List.drop_length, List.all_nil, Bool.true_and, w64_succ i (show i < 9223372036854775807 by omega)]
  exact ih
 ·intro j hj ih2
  show Ev _ _
  have h1 : (j : Int) < (l.length : Int) := by omega
  have h2 : (0 : Int) ≤ (j : Int) := by omega
  rw [Ev.iff_succ, List.drop_eq_getElem_cons hj, List.all_cons]
  simp only [impl_isEternalFamily.l1, h1, h2, ↓reduceIte, rd_lt l j hj, w64_succ j (show j < 9223372036854775807 by omega)]
  rw [Ev.bind_iff (valAns_ev G all hi l[j]), Ev.ite_iff]
  cases hv : eternB es n all L i l[j] with
  | true => rw [if_pos rfl, Bool.true_and];exact ih2
  | false => rw [if_neg (by decide), Bool.false_and, Bool.false_and, Ev.now_iff]

theorem implEtern_l0 {es : List S92} {n : Nat} {L : List (List Int)} (G : Ew n L) (all : Bool) : Ev (fun k => impl_isEternalFamily.l0 k L (L.length : Int) 0 L all (nets es n)) (holdsB es n all L) := by
 have hm := G.len
 have hn := G.hn
 have H := down L.length (fun i => Ev (fun k => impl_isEternalFamily.l0 k L (L.length : Int) i L all (nets es n)) (((List.range L.length).drop i).all fun i => (List.range n).all fun x => hasG L i (x : Int) || eternB es n all L i (x : Int))) ?_ ?_ 0 (by omega)
 ·exact H
 ·show Ev _ _
  rw [Ev.iff_succ]
  simp only [impl_isEternalFamily.l0, Int.lt_irrefl, ↓reduceIte, Ev.now_iff]
  rw [List.drop_eq_nil_of_le (by simp)]
  rfl
 ·intro i hi ih
  show Ev _ _
  rw [Ev.iff_succ]
  have h1 : (i : Int) < (L.length : Int) := by omega
  have h2 : (0 : Int) ≤ (i : Int) := by omega
  obtain ⟨m, hmm, e⟩ := G.row i hi
  have em : mL (grd L i) = m := by rw [e, mL_bl hmm]
  have hf : 2 ^ n - 1 < 2 ^ n := by have := Nat.two_pow_pos n;omega
  have hlen := bl_len_le n (mns (2 ^ n - 1) m)
  rw [range_drop hi, List.all_cons]
  simp only [impl_isEternalFamily.l0, h1, h2, ↓reduceIte, rdL2_nat, all_eq hn, Option.bind_some]
  rw [Ev.bind_iff (ew_mask G hi), em, gandn _ _ (lt62 hn hf) (lt62 hn hmm), Ev.bind_iff (setOf_ev n _ hn (mns_lt _ hf))]
  have ho : ((List.range n).all fun x => hasG L i (x : Int) || eternB es n all L i (x : Int)) = (bl n (mns (2 ^ n - 1) m)).all fun x => eternB es n all L i x := by
   rw [out_all]
   simp only [hasG, e]
  rw [ho]
  exact implEtern_l1 G all hi _ ih _ (by omega)

theorem implIsEternalFamily_ev (n : Int) (es : List S92) (L : List (List Int)) (b : Bool) (hL : L.length ≤ 1048576) (hr : ∀ r ∈ L, r.length ≤ 1048576) : Ev (fun k => impl_IsEternalFamily.f k n es L b) (isEternalFamilyR n es L b) := by
 unfold impl_IsEternalFamily.f isEternalFamilyR
 rw [IsGraph_eq]
 simp only [Option.bind_some, Ev.ite_iff]
 by_cases h1 : okG n es = true
 case neg => rw [if_neg h1, if_neg h1, Ev.now_iff]
 rw [if_pos h1, if_pos h1]
 have hX : Ev (fun k => impl_isEternalFamily.f k n es L b) (decide (L ≠ []) && (rowsB n es L && holdsB es n.toNat b L)) := by
  unfold impl_isEternalFamily.f
  rw [Ev.ite_iff]
  by_cases h0 : L = []
  ·subst h0
   rw [if_pos (by rfl), Ev.iff_succ]
   simp only [impl_isEternalFamily.j0, ↓reduceIte, Ev.now_iff]
   rfl
  ·have hp := List.length_pos_iff.2 h0
   rw [if_neg (by omega), Ev.bind_iff (valBad_ev n es L h0 hr), decide_eq_true h0, Bool.true_and, Ev.iff_succ]
   by_cases hR : rowsB n es L = true
   ·obtain ⟨N, rfl, hN⟩ := okG_use h1
    have G := rowsB_use hN hL hR
    simp only [impl_isEternalFamily.j0, hR, Bool.not_true, Bool.false_eq_true, ↓reduceIte, netOf_eq h1, Option.bind_some, Bool.true_and, Int.toNat_natCast]
    exact implEtern_l0 G b
   ·have hR := Bool.eq_false_iff.2 hR
    simp only [impl_isEternalFamily.j0, hR, Bool.not_false, ↓reduceIte, Bool.false_and, Ev.now_iff]
 rw [Ev.bind_iff hX, Ev.now_iff]

end Go.Proofs.YthbjajppdomhhaaDoor.QIsEternalFamily
