import Derived.Test.YtgahlimikndecaaDoorQWorstAttack0
import Derived.Test.YtgahlimikndecaaDoorQWorstAttack1
import Derived.Test.YtgahlimikndecaaDoorQWorstAttack3
import Derived.Test.YtgahlimikndecaaDoorQWorstAttack4
import Derived.Test.YtgahlimikndecaaDoorQWorstAttack6
import Derived.Test.YtgahlimikndecaaDoorQWorstAttackA3
namespace Go.Proofs.YtgahlimikndecaaDoor.QWorstAttack
open Go.RowKit Go.Proofs.YtgahlimikndecaaDoorW.PrintWords Go.Proofs.YtgahlimikndecaaDoorW.PrintLast Go.Proofs.YtgahlimikndecaaDoorW.PrintMore
attribute [local go_sem] max2_int min2_int max_two min_two max_three min_three max_four min_four   -- for this text's walks alone
set_option linter.unusedVariables false
set_option linter.unusedSimpArgs false
set_option maxRecDepth 100000
set_option maxHeartbeats 8000000
theorem gm_impl {es : List S78} {n : Nat} {L : List (List Int)} (G : Gm es n L) (all : Bool) {i j : Nat} (hi : i < L.length) (hj : j < L.length) : Ev (fun k => impl_net_canMoveGuards.f k (nets es n) ((mL (grd L i) : Nat) : Int) ((mL (grd L j) : Nat) : Int) all) (mvG es n all L i j) := by
 obtain ⟨f, hf, e1⟩ := G.row i hi
 obtain ⟨t, ht, e2⟩ := G.row j hj
 have hs := G.same i j hi hj
 unfold mvG
 rw [e1, e2] at hs ⊢
 rw [mL_bl hf, mL_bl ht]
 exact canMoveGuards_ev G.hn hf ht all hs

theorem l10Answers_ev {es : List S78} {n : Nat} {L : List (List Int)} (G : Gm es n L) (he : es.length ≤ 9223372036854775807) (all : Bool) {i : Nat} (hi : i < L.length) (x : Int) : Ev (fun k => spec_l10Answers.f k n es L i x all) (nI (ansG es n all L i x)) := by
 unfold spec_l10Answers.f
 have hm := G.len
 have H := down L.length (fun j => Ev (fun k => spec_l10Answers.l0 k L i x all (nI ((List.range j).filter fun j => hasG L j x && mvG es n all L i j)) j n es) (nI (ansG es n all L i x))) ?_ ?_ 0 (by omega)
 ·exact H
 ·show Ev _ _
  rw [Ev.iff_succ]
  simp only [spec_l10Answers.l0, Int.lt_irrefl, ↓reduceIte, Ev.now_iff]
  rfl
 ·intro j hj ih
  show Ev _ _
  rw [Ev.iff_succ]
  have h1 : (j : Int) < (L.length : Int) := by omega
  have h2 : (0 : Int) ≤ (j : Int) := by omega
  have h3 : (i : Int) < (L.length : Int) := by omega
  have h4 : (0 : Int) ≤ (i : Int) := by omega
  have h5 : (nI ((List.range j).filter fun j => hasG L j x && mvG es n all L i j)).length < 17592186044416 := by
   have := nI_filter_len j (fun j => hasG L j x && mvG es n all L i j);omega
  have hs := gm_short G hj
  rw [filter_range_succ, nI_app] at ih
  simp only [spec_l10Answers.l0, Ev.ite_iff, h1, h2, h3, h4, h5, ↓reduceIte, rdL2_nat, w64_succ j (show j < 9223372036854775807 by omega)]
  rw [Ev.bind_iff (l1Has_ev (grd L j) x (by omega)), Ev.ite_iff]
  by_cases c : x ∈ grd L j
  ·rw [if_pos (by simpa using c), Ev.bind_iff (gm_spec G he all hi hj), Ev.ite_iff]
   have hc : hasG L j x = true := decide_eq_true c
   rw [hc, Bool.true_and] at ih
   cases hv : mvG es n all L i j with
   | true => rw [if_pos rfl];rw [hv, if_pos rfl] at ih;exact ih
   | false => rw [if_neg (by decide)];rw [hv, if_neg (by decide), show nI ([] : List Nat) = [] from rfl, List.append_nil] at ih;exact ih
  ·rw [if_neg (by simpa using c)]
   have hc : hasG L j x = false := decide_eq_false c
   rw [hc, Bool.false_and, if_neg (by decide), show nI ([] : List Nat) = [] from rfl, List.append_nil] at ih
   exact ih

def tblRow (es : List S78) (n : Nat) (all : Bool) (L : List (List Int)) (i q : Nat) : List (List Int) := (List.range q).map fun x : Nat => if hasG L i (x : Int) then [] else nI (ansG es n all L i (x : Int))

def tblG (es : List S78) (n : Nat) (all : Bool) (L : List (List Int)) (q : Nat) : List (List (List Int)) := (List.range q).map fun i => tblRow es n all L i n

theorem tblRow_len (es : List S78) (n : Nat) (all : Bool) (L : List (List Int)) (i q : Nat) : (tblRow es n all L i q).length = q := by simp [tblRow]

theorem tblG_len (es : List S78) (n : Nat) (all : Bool) (L : List (List Int)) (q : Nat) : (tblG es n all L q).length = q := by simp [tblG]

theorem tblG_rd {es : List S78} {n : Nat} {all : Bool} {L : List (List Int)} {q i : Nat} (h : i < q) : rd_L3 (tblG es n all L q) (i : Int) = tblRow es n all L i n := by simp [rd_L3, tblG, h]

theorem tblRow_rd {es : List S78} {n : Nat} {all : Bool} {L : List (List Int)} {i q x : Nat} (h : x < q) (hc : hasG L i (x : Int) = false) : rd_L2 (tblRow es n all L i q) (x : Int) = nI (ansG es n all L i (x : Int)) := by simp [rd_L2, tblRow, h, hc]

theorem l10Table_ev {es : List S78} {n : Nat} {L : List (List Int)} (G : Gm es n L) (he : es.length ≤ 9223372036854775807) (all : Bool) : Ev (fun k => spec_l10Table.f k n es L all) (tblG es n all L L.length) := by
 unfold spec_l10Table.f
 have hm := G.len
 have hn := G.hn
 have H := down L.length (fun i => Ev (fun k => spec_l10Table.l0 k L all (tblG es n all L i) i n es) (tblG es n all L L.length)) ?_ ?_ 0 (by omega)
 ·exact H
 ·show Ev _ _
  rw [Ev.iff_succ]
  simp only [spec_l10Table.l0, Int.lt_irrefl, ↓reduceIte, Ev.now_iff]
 ·intro i hi ih
  show Ev _ _
  rw [Ev.iff_succ]
  have h1 : (i : Int) < (L.length : Int) := by omega
  simp only [spec_l10Table.l0, h1, ↓reduceIte]
  have H2 := down n (fun x => Ev (fun k => spec_l10Table.l1 k L all (tblG es n all L i) i (tblRow es n all L i x) x n es) (tblG es n all L L.length)) ?_ ?_ 0 (by omega)
  ·exact H2
  ·show Ev _ _
   rw [Ev.iff_succ]
   have h2 : (tblG es n all L i).length < 5864062014805 := by rw [tblG_len];omega
   have h3 : tblG es n all L i ++ [tblRow es n all L i n] = tblG es n all L (i + 1) := by simp [tblG, List.range_succ]
   simp only [spec_l10Table.l1, Int.lt_irrefl, ↓reduceIte, h2, h3, w64_succ i (show i < 9223372036854775807 by omega)]
   exact ih
  ·intro x hx ih2
   show Ev _ _
   rw [Ev.iff_succ]
   have h2 : (x : Int) < (n : Int) := by omega
   have h3 : (0 : Int) ≤ (i : Int) := by omega
   have h4 : (tblRow es n all L i x).length < 5864062014805 := by rw [tblRow_len];omega
   have hs := gm_short G hi
   have h5 : tblRow es n all L i (x + 1) = tblRow es n all L i x ++ [if hasG L i (x : Int) then [] else nI (ansG es n all L i (x : Int))] := by simp [tblRow, List.range_succ]
   rw [h5] at ih2
   simp only [spec_l10Table.l1, Ev.ite_iff, h1, h2, h3, h4, ↓reduceIte, rdL2_nat, w64_succ x (show x < 9223372036854775807 by omega)]
   rw [Ev.bind_iff (l1Has_ev (grd L i) x (by omega)), Ev.ite_iff]
   by_cases c : (x : Int) ∈ grd L i
   ·rw [if_pos (by simpa using c)]
    have hc : hasG L i (x : Int) = true := decide_eq_true c
    rw [hc, if_pos rfl] at ih2
    exact ih2
   ·rw [if_neg (by simpa using c), Ev.bind_iff (l10Answers_ev G he all hi x)]
    have hc : hasG L i (x : Int) = false := decide_eq_false c
    rw [hc, if_neg (by decide)] at ih2
    exact ih2

def aftG (T : Nat → Int) : Int → List Nat → Int
 | b, [] => b
 | b, j :: l => if T j < 0 then -1 else aftG T (if b > T j then b else T j) l

theorem l10After_ev {m : Nat} {T : Nat → Int} {l : List Nat} (hm : m ≤ 256) (hl : l.length ≤ 256) (h : ∀ j ∈ l, j < m) : Ev (fun k => spec_l10After.f k (nI l) (rowF m T)) (aftG T 0 l, decide (0 < l.length)) := by
 unfold spec_l10After.f
 have H := down l.length (fun i => ∀ b, Ev (fun k => spec_l10After.l0 k (nI l) (rowF m T) b i) (aftG T b (l.drop i), decide (0 < l.length))) ?_ ?_ 0 (by omega) 0
 ·simpa using H
 ·intro b
  rw [Ev.iff_succ]
  simp only [spec_l10After.l0, nI_len, Int.lt_irrefl, ↓reduceIte, Ev.now_iff, List.drop_length, aftG, Prod.mk.injEq, true_and]
  rw [decide_eq_decide];omega
 ·intro i hi ih b
  rw [Ev.iff_succ]
  have hj := h l[i] (List.getElem_mem hi)
  have h1 : (i : Int) < ((nI l).length : Int) := by rw [nI_len];omega
  have h2 : (0 : Int) ≤ (i : Int) := by omega
  have h3 : ((l[i] : Nat) : Int) < ((rowF m T).length : Int) := by rw [rowF_len];omega
  have h4 : (0 : Int) ≤ ((l[i] : Nat) : Int) := by omega
  rw [List.drop_eq_getElem_cons hi, aftG]
  simp only [spec_l10After.l0, Ev.ite_iff, h1, h2, h3, h4, ↓reduceIte, rd_nI l i hi, rowF_rd hj, l1Most_eq, Option.bind_some, w64_succ i (show i < 9223372036854775807 by omega)]
  by_cases c : T l[i] < 0
  ·rw [if_pos c, if_pos c, Ev.now_iff, decide_eq_true (by omega)]
  ·rw [if_neg c, if_neg c]
   exact ih _

theorem aftG_nonneg {T : Nat → Int} : ∀ (l : List Nat) (b : Int), 0 ≤ b → (decide (0 ≤ aftG T b l) = l.all fun j => decide (0 ≤ T j))
 | [], b, hb => by simp [aftG, hb]
 | j :: l, b, hb => by
  rw [aftG, List.all_cons]
  by_cases c : T j < 0
  ·rw [if_pos c, decide_eq_false (show ¬ (0 : Int) ≤ T j by omega), Bool.false_and];rfl
  ·rw [if_neg c, decide_eq_true (show (0 : Int) ≤ T j by omega), Bool.true_and]
   exact aftG_nonneg l _ (by split <;> omega)

def fallG (es : List S78) (n : Nat) (all : Bool) (L : List (List Int)) (T : Nat → Int) (i : Nat) : Bool := (List.range n).any fun x => !hasG L i (x : Int) && (ansG es n all L i (x : Int)).all fun j => decide (0 ≤ T j)

theorem range_drop {n x : Nat} (h : x < n) : (List.range n).drop x = x :: (List.range n).drop (x + 1) := by
 rw [List.drop_eq_getElem_cons (by simpa using h), List.getElem_range]

theorem ansG_in {es : List S78} {n : Nat} {all : Bool} {L : List (List Int)} {i : Nat} {x : Int} : ∀ j ∈ ansG es n all L i x, j < L.length := fun j hj => List.mem_range.1 (List.mem_filter.1 hj).1

theorem ansG_len {es : List S78} {n : Nat} {all : Bool} {L : List (List Int)} {i : Nat} {x : Int} : (ansG es n all L i x).length ≤ L.length := by
 have := List.length_filter_le (fun j => hasG L j x && mvG es n all L i j) (List.range L.length)
 rw [List.length_range] at this
 exact this

theorem l10Falls_ev {es : List S78} {n : Nat} {L : List (List Int)} (G : Gm es n L) (all : Bool) (T : Nat → Int) {i : Nat} (hi : i < L.length) : Ev (fun k => spec_l10Falls.f k (grd L i) (tblRow es n all L i n) (rowF L.length T)) (fallG es n all L T i) := by
 unfold spec_l10Falls.f
 have hn := G.hn
 have hm := G.len
 have hs := gm_short G hi
 have H := down n (fun x => Ev (fun k => spec_l10Falls.l0 k (grd L i) (tblRow es n all L i n) (rowF L.length T) x) (((List.range n).drop x).any fun x => !hasG L i (x : Int) && (ansG es n all L i (x : Int)).all fun j => decide (0 ≤ T j))) ?_ ?_ 0 (by omega)
 ·exact H
 ·show Ev _ _
  rw [Ev.iff_succ]
  simp only [spec_l10Falls.l0, tblRow_len, Int.lt_irrefl, ↓reduceIte, Ev.now_iff]
  rw [List.drop_eq_nil_of_le (by simp)]
  rfl
 ·intro x hx ih
  show Ev _ _
  rw [Ev.iff_succ]
  have h1 : (x : Int) < ((tblRow es n all L i n).length : Int) := by rw [tblRow_len];omega
  have h2 : (0 : Int) ≤ (x : Int) := by omega
  rw [range_drop hx, List.any_cons]
  simp only [spec_l10Falls.l0, h1, h2, ↓reduceIte, w64_succ x (show x < 9223372036854775807 by omega)]
  rw [Ev.bind_iff (l1Has_ev (grd L i) x (by omega)), Ev.ite_iff]
  by_cases c : (x : Int) ∈ grd L i
  ·rw [if_pos (by simpa using c)]
   have hc : hasG L i (x : Int) = true := decide_eq_true c
   rw [hc, Bool.not_true, Bool.false_and, Bool.false_or]
   exact ih
  ·rw [if_neg (by simpa using c)]
   have hc : hasG L i (x : Int) = false := decide_eq_false c
   rw [tblRow_rd hx hc, hc, Bool.not_false, Bool.true_and, Ev.bind_iff (l10After_ev hm (Nat.le_trans ansG_len hm) ansG_in)]
   have ha := aftG_nonneg (T := T) (ansG es n all L i (x : Int)) 0 (by omega)
   rw [← ha]
   simp only [Ev.ite_iff]
   by_cases c1 : 0 < (ansG es n all L i (x : Int)).length
   ·rw [if_pos (decide_eq_true c1)]
    by_cases c2 : 0 ≤ aftG T 0 (ansG es n all L i (x : Int))
    ·rw [if_pos c2, Ev.now_iff, decide_eq_true c2, Bool.true_or]
    ·rw [if_neg (by omega), decide_eq_false c2, Bool.false_or]
     exact ih
   ·rw [if_neg (by simpa using c1)]
    rw [ha, List.length_eq_zero_iff.1 (Nat.eq_zero_of_not_pos c1)]
    simp [Ev.now_iff]

def grewG (es : List S78) (n : Nat) (all : Bool) (L : List (List Int)) (T : Nat → Int) (q : Nat) : Bool := (List.range q).any fun i => decide (T i < 0) && fallG es n all L T i

def nxtG (es : List S78) (n : Nat) (all : Bool) (L : List (List Int)) (T : Nat → Int) (t : Nat) : Nat → Int := fun i => if T i < 0 ∧ fallG es n all L T i = true then (t : Int) else T i

def rndG (es : List S78) (n : Nat) (all : Bool) (L : List (List Int)) : Nat → Nat → (Nat → Int) → Nat → Int
 | 0, _, T => T
 | d + 1, t, T => if grewG es n all L T L.length then rndG es n all L d (t + 1) (nxtG es n all L T t) else T

def negG (T : Nat → Int) (m : Nat) : Nat := ((List.range m).filter fun i => decide (T i < 0)).length

theorem negG_le (T : Nat → Int) (m : Nat) : negG T m ≤ m := by
 have := List.length_filter_le (fun i => decide (T i < 0)) (List.range m)
 rw [List.length_range] at this
 exact this

theorem negG_succ (T : Nat → Int) (m : Nat) : negG T (m + 1) = negG T m + (if T m < 0 then 1 else 0) := by
 unfold negG
 rw [filter_range_succ, List.length_append]
 by_cases c : T m < 0 <;> simp [c]

theorem negG_nxt {es : List S78} {n : Nat} {all : Bool} {L : List (List Int)} {T : Nat → Int} {t : Nat} : ∀ q, negG (nxtG es n all L T t) q + (if grewG es n all L T q then 1 else 0) ≤ negG T q
 | 0 => by simp [negG, grewG]
 | q + 1 => by
  have ih := negG_nxt (es := es) (n := n) (all := all) (L := L) (T := T) (t := t) q
  have hg : grewG es n all L T (q + 1) = (grewG es n all L T q || (decide (T q < 0) && fallG es n all L T q)) := by simp [grewG, List.range_succ]
  rw [negG_succ, negG_succ, hg]
  unfold nxtG at *
  by_cases c1 : T q < 0 <;> by_cases c2 : fallG es n all L T q = true
  ·simp only [c1, c2, and_self, ↓reduceIte, decide_true, Bool.and_self, Bool.or_true]
   have : ¬ ((t : Int) < 0) := by omega
   simp only [this, ↓reduceIte]
   split at ih <;> omega
  ·simp only [c1, c2, and_false, ↓reduceIte, decide_true, Bool.true_and, Bool.or_false]
   split at ih <;> simp_all <;> omega
  ·simp only [c1, false_and, ↓reduceIte, decide_false, Bool.false_and, Bool.or_false]
   simpa using ih
  ·simp only [c1, false_and, ↓reduceIte, decide_false, Bool.false_and, Bool.or_false]
   simpa using ih

theorem grewG_no {es : List S78} {n : Nat} {all : Bool} {L : List (List Int)} {T : Nat → Int} {t m : Nat} (h : grewG es n all L T m = false) : rowF m (nxtG es n all L T t) = rowF m T := rowF_ext fun i hi => by
 unfold grewG at h
 rw [List.any_eq_false] at h
 have := h i (List.mem_range.2 hi)
 unfold nxtG
 rw [if_neg]
 rintro ⟨h1, h2⟩
 exact this (by rw [h2, decide_eq_true h1];rfl)

theorem grewG_zero {es : List S78} {n : Nat} {all : Bool} {L : List (List Int)} {T : Nat → Int} {m : Nat} (h : negG T m ≤ 0) : grewG es n all L T m = false := by
 have := negG_nxt (es := es) (n := n) (all := all) (L := L) (T := T) (t := 0) m
 cases hg : grewG es n all L T m with
 | false => rfl
 | true => rw [hg, if_pos rfl] at this;omega

theorem grewG_succ {es : List S78} {n : Nat} {all : Bool} {L : List (List Int)} {T : Nat → Int} {q : Nat} : grewG es n all L T (q + 1) = (grewG es n all L T q || (decide (T q < 0) && fallG es n all L T q)) := by simp [grewG, List.range_succ]

def midG (es : List S78) (n : Nat) (all : Bool) (L : List (List Int)) (T : Nat → Int) (t i : Nat) : List Int := rowF L.length fun j => if j < i then nxtG es n all L T t j else T j

theorem midG_zero {es : List S78} {n : Nat} {all : Bool} {L : List (List Int)} {T : Nat → Int} {t : Nat} : midG es n all L T t 0 = rowF L.length T := rowF_ext fun i _ => by rw [if_neg (by omega)]

theorem midG_end {es : List S78} {n : Nat} {all : Bool} {L : List (List Int)} {T : Nat → Int} {t : Nat} : midG es n all L T t L.length = rowF L.length (nxtG es n all L T t) := rowF_ext fun i hi => by rw [if_pos hi]

theorem midG_put {es : List S78} {n : Nat} {all : Bool} {L : List (List Int)} {T : Nat → Int} {t i : Nat} (hi : i < L.length) (h1 : T i < 0) (h2 : fallG es n all L T i = true) : (midG es n all L T t i).set i (t : Int) = midG es n all L T t (i + 1) := by
 unfold midG
 rw [rowF_set hi]
 refine rowF_ext fun j _ => ?_
 by_cases c : j = i
 ·subst c
  simp [nxtG, h1, h2]
 ·have : (j < i + 1) ↔ (j < i) := by omega
  simp only [c, this, ↓reduceIte]

theorem midG_keep {es : List S78} {n : Nat} {all : Bool} {L : List (List Int)} {T : Nat → Int} {t i : Nat} (h : ¬ (T i < 0 ∧ fallG es n all L T i = true)) : midG es n all L T t i = midG es n all L T t (i + 1) := by
 refine rowF_ext fun j _ => ?_
 by_cases c : j = i
 ·subst c
  simp [nxtG, h]
 ·have : (j < i + 1) ↔ (j < i) := by omega
  simp only [this]

theorem l10Resist_l1 {es : List S78} {n : Nat} {L : List (List Int)} (G : Gm es n L) (all : Bool) : ∀ (d t : Nat) (T : Nat → Int), t + d ≤ 1000 → negG T L.length ≤ d → Ev (fun k => spec_l10Resist.l1 k L (tblG es n all L L.length) (rowF L.length T) (t : Int)) (rowF L.length (rndG es n all L d t T)) := by
 intro d
 have hm := G.len
 induction d with
 | zero => ?_
 | succ d ihd => ?_
 all_goals
  intro t T ht hN
  rw [Ev.iff_succ]
  simp only [spec_l10Resist.l1, l1Own_eq (show (rowF L.length T).length < 17592186044416 by rw [rowF_len];omega), Option.bind_some]
  have H : ∀ R, Ev (fun k => if grewG es n all L T L.length = true then spec_l10Resist.l1 k L (tblG es n all L L.length) (rowF L.length (nxtG es n all L T t)) (wrap64 ((t : Int) + 1)) else some (rowF L.length (nxtG es n all L T t))) R →
    Ev (fun k => spec_l10Resist.l2 k L (tblG es n all L L.length) (rowF L.length T) (t : Int) (rowF L.length T) false 0) R := by
   intro R hR
   have H2 := down L.length (fun i => Ev (fun k => spec_l10Resist.l2 k L (tblG es n all L L.length) (rowF L.length T) (t : Int) (midG es n all L T t i) (grewG es n all L T i) i) R) ?_ ?_ 0 (by omega)
   ·rw [midG_zero] at H2;exact H2
   ·show Ev _ _
    rw [Ev.iff_succ]
    simp only [spec_l10Resist.l2, Int.lt_irrefl, ↓reduceIte, midG_end]
    exact hR
   ·intro i hi ih
    show Ev _ _
    rw [Ev.iff_succ]
    have h1 : (i : Int) < (L.length : Int) := by omega
    have h2 : (0 : Int) ≤ (i : Int) := by omega
    rw [grewG_succ] at ih
    simp only [spec_l10Resist.l2, Ev.ite_iff, h1, h2, ↓reduceIte, rowF_len, rowF_rd hi, tblG_len, rdL2_nat, tblG_rd hi, w64_succ i (show i < 9223372036854775807 by omega), Int.toNat_natCast, show (midG es n all L T t i).length = L.length from rowF_len _ _]
    by_cases c : T i < 0
    ·rw [if_pos c, Ev.bind_iff (l10Falls_ev G all T hi)]
     simp only [Ev.ite_iff, h1, ↓reduceIte]
     rw [decide_eq_true c, Bool.true_and] at ih
     cases cf : fallG es n all L T i with
     | true => rw [if_pos rfl, midG_put hi c cf];rw [cf, Bool.or_true] at ih;exact ih
     | false => rw [if_neg (by decide), midG_keep (by simp [cf])];rw [cf, Bool.or_false] at ih;exact ih
    ·rw [if_neg c, midG_keep (by simp [c])]
     rw [decide_eq_false c, Bool.false_and, Bool.or_false] at ih
     exact ih
  refine H _ ?_
  clear H
 ·rw [grewG_zero hN, Ev.ite_iff, if_neg (by decide), Ev.now_iff, grewG_no (grewG_zero hN)]
  rfl
 ·rw [Ev.ite_iff]
  unfold rndG
  cases hg : grewG es n all L T L.length with
  | true =>
   have h := negG_nxt (es := es) (n := n) (all := all) (L := L) (T := T) (t := t) L.length
   rw [hg, if_pos rfl] at h
   simp only [↓reduceIte, w64_succ t (show t < 9223372036854775807 by omega)]
   exact ihd (t + 1) _ (by omega) (by omega)
  | false =>
   rw [if_neg (by decide), if_neg (by decide), Ev.now_iff, grewG_no hg]

theorem l10Resist_ev {es : List S78} {n : Nat} {L : List (List Int)} (G : Gm es n L) (all : Bool) : Ev (fun k => spec_l10Resist.f k L (tblG es n all L L.length)) (rowF L.length (rndG es n all L L.length 0 fun _ => -1)) := by
 unfold spec_l10Resist.f
 have hm := G.len
 have H := down L.length (fun i => Ev (fun k => spec_l10Resist.l0 k L (tblG es n all L L.length) (rowF i fun _ => -1) i) (rowF L.length (rndG es n all L L.length 0 fun _ => -1))) ?_ ?_ 0 (by omega)
 ·exact H
 ·show Ev _ _
  rw [Ev.iff_succ]
  simp only [spec_l10Resist.l0, Int.lt_irrefl, ↓reduceIte]
  exact l10Resist_l1 G all L.length 0 _ (by omega) (negG_le _ _)
 ·intro i hi ih
  show Ev _ _
  rw [Ev.iff_succ]
  have h1 : (i : Int) < (L.length : Int) := by omega
  have h2 : (rowF i fun _ => -1).length < 17592186044416 := by rw [rowF_len];omega
  have h3 : (rowF i fun _ => (-1 : Int)) ++ [-1] = rowF (i + 1) fun _ => -1 := by simp [rowF, List.range_succ]
  simp only [spec_l10Resist.l0, h1, h2, h3, ↓reduceIte, w64_succ i (show i < 9223372036854775807 by omega)]
  exact ih

def gamG (es : List S78) (n : Nat) (all : Bool) (L : List (List Int)) (q : Nat) : List (List Int) := (List.range q).map fun i => nI (mvsG es n all L i)

theorem gamG_len (es : List S78) (n : Nat) (all : Bool) (L : List (List Int)) (q : Nat) : (gamG es n all L q).length = q := by simp [gamG]

theorem gamG_rd {es : List S78} {n : Nat} {all : Bool} {L : List (List Int)} {q i : Nat} (h : i < q) : rd_L2 (gamG es n all L q) (i : Int) = nI (mvsG es n all L i) := by simp [rd_L2, gamG, h]

theorem implGuardSets2_ev {n k : Nat} (hn : n ≤ 8) (hk : k ≤ n) : Ev (fun f => impl_guardSets.f f n k) (gsL n k) := by
 have hbl := bl_len_le n (2 ^ n - 1)
 unfold impl_guardSets.f gsL
 rw [Ev.ite_iff, if_pos (by omega), mask_all n hn, Ev.bind_iff (setOf_ev n _ hn (by have := Nat.two_pow_pos n;omega)), Ev.bind_iff (subsetsOf_ev 8 _ k (by omega) (by omega) (by omega)), Ev.now_iff]

theorem specGuardSets2_ev {es : List S78} {n k : Nat} (hn : n ≤ 8) (hk : k ≤ n) : Ev (fun f => spec_l10Sets.f f n es k) (gsL n k) := by
 have hf := (bl_len_full n hn (2 ^ n - 1) (by have := Nat.two_pow_pos n;omega)).2 rfl
 unfold spec_l10Sets.f gsL
 rw [Ev.bind_iff (l2All_ev (es := es) hn), Ev.bind_iff (l8Choices_ev n _ k (by omega) hn (by omega)), Ev.now_iff]

theorem gm_mask {es : List S78} {n : Nat} {L : List (List Int)} (G : Gm es n L) {i : Nat} (hi : i < L.length) : Ev (fun k => impl_maskOf.f k (grd L i)) ((mL (grd L i) : Nat) : Int) := by
 obtain ⟨f, hf, e1⟩ := G.row i hi
 have hs := gm_short G hi
 have hn := G.hn
 refine maskOf_ev (grd L i) (by omega) (fun x hx => ?_)
 rw [e1] at hx
 obtain ⟨j, hj, _, rfl⟩ := mem_bl.1 hx
 omega

end Go.Proofs.YtgahlimikndecaaDoor.QWorstAttack
