import Derived.Test.YtgahlimikndecaaDoorQEternalFamily0
import Derived.Test.YtgahlimikndecaaDoorQEternalFamily10
import Derived.Test.YtgahlimikndecaaDoorQEternalFamily11
import Derived.Test.YtgahlimikndecaaDoorQEternalFamily3
import Derived.Test.YtgahlimikndecaaDoorQEternalFamily4
import Derived.Test.YtgahlimikndecaaDoorQEternalFamily5
import Derived.Test.YtgahlimikndecaaDoorQEternalFamily6
import Derived.Test.YtgahlimikndecaaDoorQEternalFamily7
import Derived.Test.YtgahlimikndecaaDoorQEternalFamily8
import Derived.Test.YtgahlimikndecaaDoorQEternalFamily9
import Derived.Test.YtgahlimikndecaaDoorQEternalFamilyA0
namespace Go.Proofs.YtgahlimikndecaaDoor.QEternalFamily
open Go.RowKit Go.Proofs.YtgahlimikndecaaDoorW.PrintWords Go.Proofs.YtgahlimikndecaaDoorW.PrintLast Go.Proofs.YtgahlimikndecaaDoorW.PrintMore
attribute [local go_sem] max2_int min2_int max_two min_two max_three min_three max_four min_four   -- for this text's walks alone
set_option linter.unusedVariables false
set_option linter.unusedSimpArgs false
set_option maxRecDepth 100000
set_option maxHeartbeats 8000000
theorem cho_sublist : ∀ (l : List Int) (k : Nat), ∀ t ∈ cho l k, List.Sublist t l
 | l, 0 => by rw [cho_zero];intro t ht;rw [List.mem_singleton.1 ht];exact List.nil_sublist _
 | [], k + 1 => by simp [cho]
 | x :: s, k + 1 => by
  intro t ht
  rw [cho_cons, List.mem_append, List.mem_map] at ht
  rcases ht with ⟨u, hu, rfl⟩ | ht
  ·exact (cho_sublist s k u hu).cons_cons x
  ·exact (cho_sublist s (k + 1) t ht).cons x

theorem sub_bl {n : Nat} {t : List Int} (h : List.Sublist t (bl n (2 ^ n - 1))) : mL t < 2 ^ n ∧ t = bl n (mL t) := by
 have h1 : ∀ x ∈ t, 0 ≤ x ∧ x < n := fun x hx => by
  obtain ⟨i, hi, _, rfl⟩ := mem_bl.1 (h.subset hx)
  omega
 have h2 : allIn 0 ((n : Int) - 1) t = true := by
  unfold allIn
  rw [List.all_eq_true]
  intro x hx
  have := h1 x hx
  simp only [decide_eq_true_eq]
  omega
 exact ⟨mL_lt h1, bl_of_asc h2 (asc_of_pairwise (p := none) ((bl_pairwise n _).sublist h) (fun q hq => by cases hq))⟩

def gsL (n k : Nat) : List (List Int) := cho (bl n (2 ^ n - 1)) k

theorem gsL_gm {es : List S78} {n : Nat} (hn : n ≤ 8) (k : Nat) : Gm es n (gsL n k) := by
 have hb := bl_len_le n (2 ^ n - 1)
 have hm : ∀ i, i < (gsL n k).length → grd (gsL n k) i ∈ gsL n k := fun i hi => by rw [grd_lt hi];exact List.getElem_mem hi
 refine ⟨hn, ?_, fun i hi => ⟨_, sub_bl (cho_sublist _ _ _ (hm i hi))⟩, fun i j hi hj => ?_⟩
 ·have h1 := cho_len (bl n (2 ^ n - 1)) k
  have h2 := p8 (show (bl n (2 ^ n - 1)).length ≤ 8 by omega)
  unfold gsL
  omega
 ·rw [cho_mem_len _ _ _ (hm i hi), cho_mem_len _ _ _ (hm j hj)]

theorem gm_spec {es : List S78} {n : Nat} {L : List (List Int)} (G : Gm es n L) (he : es.length ≤ 9223372036854775807) (all : Bool) {i j : Nat} (hi : i < L.length) (hj : j < L.length) : Ev (fun k => spec_l10Moves.f k n es (grd L i) (grd L j) all) (mvG es n all L i j) := by
 obtain ⟨f, hf, e1⟩ := G.row i hi
 obtain ⟨t, ht, e2⟩ := G.row j hj
 have hs := G.same i j hi hj
 unfold mvG
 rw [e1, e2] at hs ⊢
 rw [mL_bl hf, mL_bl ht]
 exact l10Moves_ev he G.hn ht all hs

theorem gm_impl {es : List S78} {n : Nat} {L : List (List Int)} (G : Gm es n L) (all : Bool) {i j : Nat} (hi : i < L.length) (hj : j < L.length) : Ev (fun k => impl_net_canMoveGuards.f k (nets es n) ((mL (grd L i) : Nat) : Int) ((mL (grd L j) : Nat) : Int) all) (mvG es n all L i j) := by
 obtain ⟨f, hf, e1⟩ := G.row i hi
 obtain ⟨t, ht, e2⟩ := G.row j hj
 have hs := G.same i j hi hj
 unfold mvG
 rw [e1, e2] at hs ⊢
 rw [mL_bl hf, mL_bl ht]
 exact canMoveGuards_ev G.hn hf ht all hs

theorem l10Answers_ev {es : List S78} {n : Nat} {L : List (List Int)} (G : Gm es n L) (he : es.length ≤ 9223372036854775807) (all : Bool) {i : Nat} (hi : i < L.length) (x : Int) : Ev (fun k => spec_l10Answers.f k n es L i x all) (nI (ansG es n all L i x)) := by
 unfold spec_l10Answers.f
 have hm := G.len
 have H := down L.length (fun j => Ev (fun k => spec_l10Answers.l0 k L i x all (nI ((List.range j).filter fun j => hasG L j x && mvG es n all L i j)) j n es) (nI (ansG es n all L i x))) ?_ ?_ 0 (by omega)
 ·exact H
 ·show Ev _ _
  rw [Ev.iff_succ]
  simp only [spec_l10Answers.l0, Int.lt_irrefl, ↓reduceIte, Ev.now_iff]
  rfl
 ·intro j hj ih
  show Ev _ _
  rw [Ev.iff_succ]
  have h1 : (j : Int) < (L.length : Int) := by omega
  have h2 : (0 : Int) ≤ (j : Int) := by omega
  have h3 : (i : Int) < (L.length : Int) := by omega
  have h4 : (0 : Int) ≤ (i : Int) := by omega
  have h5 : (nI ((List.range j).filter fun j => hasG L j x && mvG es n all L i j)).length < 17592186044416 := by
   have := nI_filter_len j (fun j => hasG L j x && mvG es n all L i j);omega
  have hs := gm_short G hj
  rw [filter_range_succ, nI_app] at ih
  simp only [spec_l10Answers.l0, Ev.ite_iff, h1, h2, h3, h4, h5, ↓reduceIte, rdL2_nat, w64_succ j (show j < 9223372036854775807 by omega)]
  rw [Ev.bind_iff (l1Has_ev (grd L j) x (by omega)), Ev.ite_iff]
  by_cases c : x ∈ grd L j
  ·rw [if_pos (by simpa using c), Ev.bind_iff (gm_spec G he all hi hj), Ev.ite_iff]
   have hc : hasG L j x = true := decide_eq_true c
   rw [hc, Bool.true_and] at ih
   cases hv : mvG es n all L i j with
   | true => rw [if_pos rfl];rw [hv, if_pos rfl] at ih;exact ih
   | false => rw [if_neg (by decide)];rw [hv, if_neg (by decide), show nI ([] : List Nat) = [] from rfl, List.append_nil] at ih;exact ih
  ·rw [if_neg (by simpa using c)]
   have hc : hasG L j x = false := decide_eq_false c
   rw [hc, Bool.false_and, if_neg (by decide), show nI ([] : List Nat) = [] from rfl, List.append_nil] at ih
   exact ih

def tblRow (es : List S78) (n : Nat) (all : Bool) (L : List (List Int)) (i q : Nat) : List (List Int) := (List.range q).map fun x : Nat => if hasG L i (x : Int) then [] else nI (ansG es n all L i (x : Int))

def tblG (es : List S78) (n : Nat) (all : Bool) (L : List (List Int)) (q : Nat) : List (List (List Int)) := (List.range q).map fun i => tblRow es n all L i n

theorem tblRow_len (es : List S78) (n : Nat) (all : Bool) (L : List (List Int)) (i q : Nat) : (tblRow es n all L i q).length = q := by simp [tblRow]

theorem tblG_len (es : List S78) (n : Nat) (all : Bool) (L : List (List Int)) (q : Nat) : (tblG es n all L q).length = q := by simp [tblG]

theorem tblG_rd {es : List S78} {n : Nat} {all : Bool} {L : List (List Int)} {q i : Nat} (h : i < q) : rd_L3 (tblG es n all L q) (i : Int) = tblRow es n all L i n := by simp [rd_L3, tblG, h]

theorem tblRow_rd {es : List S78} {n : Nat} {all : Bool} {L : List (List Int)} {i q x : Nat} (h : x < q) (hc : hasG L i (x : Int) = false) : rd_L2 (tblRow es n all L i q) (x : Int) = nI (ansG es n all L i (x : Int)) := by simp [rd_L2, tblRow, h, hc]

theorem l10Table_ev {es : List S78} {n : Nat} {L : List (List Int)} (G : Gm es n L) (he : es.length ≤ 9223372036854775807) (all : Bool) : Ev (fun k => spec_l10Table.f k n es L all) (tblG es n all L L.length) := by
 unfold spec_l10Table.f
 have hm := G.len
 have hn := G.hn
 have H := down L.length (fun i => Ev (fun k => spec_l10Table.l0 k L all (tblG es n all L i) i n es) (tblG es n all L L.length)) ?_ ?_ 0 (by omega)
 ·exact H
 ·show Ev _ _
  rw [Ev.iff_succ]
  simp only [spec_l10Table.l0, Int.lt_irrefl, ↓reduceIte, Ev.now_iff]
 ·intro i hi ih
  show Ev _ _
  rw [Ev.iff_succ]
  have h1 : (i : Int) < (L.length : Int) := by omega
  simp only [spec_l10Table.l0, h1, ↓reduceIte]
  have H2 := down n (fun x => Ev (fun k => spec_l10Table.l1 k L all (tblG es n all L i) i (tblRow es n all L i x) x n es) (tblG es n all L L.length)) ?_ ?_ 0 (by omega)
  ·exact H2
  ·show Ev _ _
   rw [Ev.iff_succ]
   have h2 : (tblG es n all L i).length < 5864062014805 := by rw [tblG_len];omega
   have h3 : tblG es n all L i ++ [tblRow es n all L i n] = tblG es n all L (i + 1) := by simp [tblG, List.range_succ]
   simp only [spec_l10Table.l1, Int.lt_irrefl, ↓reduceIte, h2, h3, w64_succ i (show i < 9223372036854775807 by omega)]
   exact ih
  ·intro x hx ih2
   show Ev _ _
   rw [Ev.iff_succ]
   have h2 : (x : Int) < (n : Int) := by omega
   have h3 : (0 : Int) ≤ (i : Int) := by omega
   have h4 : (tblRow es n all L i x).length < 5864062014805 := by rw [tblRow_len];omega
   have hs := gm_short G hi
   have h5 : tblRow es n all L i (x + 1) = tblRow es n all L i x ++ [if hasG L i (x : Int) then [] else nI (ansG es n all L i (x : Int))] := by simp [tblRow, List.range_succ]
   rw [h5] at ih2
   simp only [spec_l10Table.l1, Ev.ite_iff, h1, h2, h3, h4, ↓reduceIte, rdL2_nat, w64_succ x (show x < 9223372036854775807 by omega)]
   rw [Ev.bind_iff (l1Has_ev (grd L i) x (by omega)), Ev.ite_iff]
   by_cases c : (x : Int) ∈ grd L i
   ·rw [if_pos (by simpa using c)]
    have hc : hasG L i (x : Int) = true := decide_eq_true c
    rw [hc, if_pos rfl] at ih2
    exact ih2
   ·rw [if_neg (by simpa using c), Ev.bind_iff (l10Answers_ev G he all hi x)]
    have hc : hasG L i (x : Int) = false := decide_eq_false c
    rw [hc, if_neg (by decide)] at ih2
    exact ih2

def aftG (T : Nat → Int) : Int → List Nat → Int
 | b, [] => b
 | b, j :: l => if T j < 0 then -1 else aftG T (if b > T j then b else T j) l

theorem l10After_ev {m : Nat} {T : Nat → Int} {l : List Nat} (hm : m ≤ 256) (hl : l.length ≤ 256) (h : ∀ j ∈ l, j < m) : Ev (fun k => spec_l10After.f k (nI l) (rowF m T)) (aftG T 0 l, decide (0 < l.length)) := by
 unfold spec_l10After.f
 have H := down l.length (fun i => ∀ b, Ev (fun k => spec_l10After.l0 k (nI l) (rowF m T) b i) (aftG T b (l.drop i), decide (0 < l.length))) ?_ ?_ 0 (by omega) 0
 ·simpa using H
 ·intro b
  rw [Ev.iff_succ]
  simp only [spec_l10After.l0, nI_len, Int.lt_irrefl, ↓reduceIte, Ev.now_iff, List.drop_length, aftG, Prod.mk.injEq, true_and]
  rw [decide_eq_decide];omega
 ·intro i hi ih b
  rw [Ev.iff_succ]
  have hj := h l[i] (List.getElem_mem hi)
  have h1 : (i : Int) < ((nI l).length : Int) := by rw [nI_len];omega
  have h2 : (0 : Int) ≤ (i : Int) := by omega
  have h3 : ((l[i] : Nat) : Int) < ((rowF m T).length : Int) := by rw [rowF_len];omega
  have h4 : (0 : Int) ≤ ((l[i] : Nat) : Int) := by omega
  rw [List.drop_eq_getElem_cons hi, aftG]
  simp only [spec_l10After.l0, Ev.ite_iff, h1, h2, h3, h4, ↓reduceIte, rd_nI l i hi, rowF_rd hj, l1Most_eq, Option.bind_some, w64_succ i (show i < 9223372036854775807 by omega)]
  by_cases c : T l[i] < 0
  ·rw [if_pos c, if_pos c, Ev.now_iff, decide_eq_true (by omega)]
  ·rw [if_neg c, if_neg c]
   exact ih _

theorem aftG_nonneg {T : Nat → Int} : ∀ (l : List Nat) (b : Int), 0 ≤ b → (decide (0 ≤ aftG T b l) = l.all fun j => decide (0 ≤ T j))
 | [], b, hb => by simp [aftG, hb]
 | j :: l, b, hb => by
  rw [aftG, List.all_cons]
  by_cases c : T j < 0
  ·rw [if_pos c, decide_eq_false (show ¬ (0 : Int) ≤ T j by omega), Bool.false_and];rfl
  ·rw [if_neg c, decide_eq_true (show (0 : Int) ≤ T j by omega), Bool.true_and]
   exact aftG_nonneg l _ (by split <;> omega)

def fallG (es : List S78) (n : Nat) (all : Bool) (L : List (List Int)) (T : Nat → Int) (i : Nat) : Bool := (List.range n).any fun x => !hasG L i (x : Int) && (ansG es n all L i (x : Int)).all fun j => decide (0 ≤ T j)

theorem range_drop {n x : Nat} (h : x < n) : (List.range n).drop x = x :: (List.range n).drop (x + 1) := by
 rw [List.drop_eq_getElem_cons (by simpa using h), List.getElem_range]

theorem ansG_in {es : List S78} {n : Nat} {all : Bool} {L : List (List Int)} {i : Nat} {x : Int} : ∀ j ∈ ansG es n all L i x, j < L.length := fun j hj => List.mem_range.1 (List.mem_filter.1 hj).1

theorem ansG_len {es : List S78} {n : Nat} {all : Bool} {L : List (List Int)} {i : Nat} {x : Int} : (ansG es n all L i x).length ≤ L.length := by
 have := List.length_filter_le (fun j => hasG L j x && mvG es n all L i j) (List.range L.length)
 rw [List.length_range] at this
 exact this

theorem l10Falls_ev {es : List S78} {n : Nat} {L : List (List Int)} (G : Gm es n L) (all : Bool) (T : Nat → Int) {i : Nat} (hi : i < L.length) : Ev (fun k => spec_l10Falls.f k (grd L i) (tblRow es n all L i n) (rowF L.length T)) (fallG es n all L T i) := by
 unfold spec_l10Falls.f
 have hn := G.hn
 have hm := G.len
 have hs := gm_short G hi
 have H := down n (fun x => Ev (fun k => spec_l10Falls.l0 k (grd L i) (tblRow es n all L i n) (rowF L.length T) x) (((List.range n).drop x).any fun x => !hasG L i (x : Int) && (ansG es n all L i (x : Int)).all fun j => decide (0 ≤ T j))) ?_ ?_ 0 (by omega)
 ·exact H
 ·show Ev _ _
  rw [Ev.iff_succ]
  simp only [spec_l10Falls.l0, tblRow_len, Int.lt_irrefl, ↓reduceIte, Ev.now_iff]
  rw [List.drop_eq_nil_of_le (by simp)]
  rfl
 ·intro x hx ih
  show Ev _ _
  rw [Ev.iff_succ]
  have h1 : (x : Int) < ((tblRow es n all L i n).length : Int) := by rw [tblRow_len];omega
  have h2 : (0 : Int) ≤ (x : Int) := by omega
  rw [range_drop hx, List.any_cons]
  simp only [spec_l10Falls.l0, h1, h2, ↓reduceIte, w64_succ x (show x < 9223372036854775807 by omega)]
  rw [Ev.bind_iff (l1Has_ev (grd L i) x (by omega)), Ev.ite_iff]
  by_cases c : (x : Int) ∈ grd L i
  ·rw [if_pos (by simpa using c)]
   have hc : hasG L i (x : Int) = true := decide_eq_true c
   rw [hc, Bool.not_true, Bool.false_and, Bool.false_or]
   exact ih
  ·rw [if_neg (by simpa using c)]
   have hc : hasG L i (x : Int) = false := decide_eq_false c
   rw [tblRow_rd hx hc, hc, Bool.not_false, Bool.true_and, Ev.bind_iff (l10After_ev hm (Nat.le_trans ansG_len hm) ansG_in)]
   have ha := aftG_nonneg (T := T) (ansG es n all L i (x : Int)) 0 (by omega)
   rw [← ha]
   simp only [Ev.ite_iff]
   by_cases c1 : 0 < (ansG es n all L i (x : Int)).length
   ·rw [if_pos (decide_eq_true c1)]
    by_cases c2 : 0 ≤ aftG T 0 (ansG es n all L i (x : Int))
    ·rw [if_pos c2, Ev.now_iff, decide_eq_true c2, Bool.true_or]
    ·rw [if_neg (by omega), decide_eq_false c2, Bool.false_or]
     exact ih
   ·rw [if_neg (by simpa using c1)]
    rw [ha, List.length_eq_zero_iff.1 (Nat.eq_zero_of_not_pos c1)]
    simp [Ev.now_iff]

def grewG (es : List S78) (n : Nat) (all : Bool) (L : List (List Int)) (T : Nat → Int) (q : Nat) : Bool := (List.range q).any fun i => decide (T i < 0) && fallG es n all L T i

def nxtG (es : List S78) (n : Nat) (all : Bool) (L : List (List Int)) (T : Nat → Int) (t : Nat) : Nat → Int := fun i => if T i < 0 ∧ fallG es n all L T i = true then (t : Int) else T i

def rndG (es : List S78) (n : Nat) (all : Bool) (L : List (List Int)) : Nat → Nat → (Nat → Int) → Nat → Int
 | 0, _, T => T
 | d + 1, t, T => if grewG es n all L T L.length then rndG es n all L d (t + 1) (nxtG es n all L T t) else T

def negG (T : Nat → Int) (m : Nat) : Nat := ((List.range m).filter fun i => decide (T i < 0)).length

theorem negG_le (T : Nat → Int) (m : Nat) : negG T m ≤ m := by
 have := List.length_filter_le (fun i => decide (T i < 0)) (List.range m)
 rw [List.length_range] at this
 exact this

theorem negG_succ (T : Nat → Int) (m : Nat) : negG T (m + 1) = negG T m + (if T m < 0 then 1 else 0) := by
 unfold negG
 rw [filter_range_succ, List.length_append]
 by_cases c : T m < 0 <;> simp [c]

theorem negG_nxt {es : List S78} {n : Nat} {all : Bool} {L : List (List Int)} {T : Nat → Int} {t : Nat} : ∀ q, negG (nxtG es n all L T t) q + (if grewG es n all L T q then 1 else 0) ≤ negG T q
 | 0 => by simp [negG, grewG]
 | q + 1 => by
  have ih := negG_nxt (es := es) (n := n) (all := all) (L := L) (T := T) (t := t) q
  have hg : grewG es n all L T (q + 1) = (grewG es n all L T q || (decide (T q < 0) && fallG es n all L T q)) := by simp [grewG, List.range_succ]
  rw [negG_succ, negG_succ, hg]
  unfold nxtG at *
  by_cases c1 : T q < 0 <;> by_cases c2 : fallG es n all L T q = true
  ·simp only [c1, c2, and_self, ↓reduceIte, decide_true, Bool.and_self, Bool.or_true]
   have : ¬ ((t : Int) < 0) := by omega
   simp only [this, ↓reduceIte]
   split at ih <;> omega
  ·simp only [c1, c2, and_false, ↓reduceIte, decide_true, Bool.true_and, Bool.or_false]
   split at ih <;> simp_all <;> omega
  ·simp only [c1, false_and, ↓reduceIte, decide_false, Bool.false_and, Bool.or_false]
   simpa using ih
  ·simp only [c1, false_and, ↓reduceIte, decide_false, Bool.false_and, Bool.or_false]
   simpa using ih

theorem grewG_no {es : List S78} {n : Nat} {all : Bool} {L : List (List Int)} {T : Nat → Int} {t m : Nat} (h : grewG es n all L T m = false) : rowF m (nxtG es n all L T t) = rowF m T := rowF_ext fun i hi => by
 unfold grewG at h
 rw [List.any_eq_false] at h
 have := h i (List.mem_range.2 hi)
 unfold nxtG
 rw [if_neg]
 rintro ⟨h1, h2⟩
 exact this (by rw [h2, decide_eq_true h1];rfl)

theorem grewG_zero {es : List S78} {n : Nat} {all : Bool} {L : List (List Int)} {T : Nat → Int} {m : Nat} (h : negG T m ≤ 0) : grewG es n all L T m = false := by
 have := negG_nxt (es := es) (n := n) (all := all) (L := L) (T := T) (t := 0) m
 cases hg : grewG es n all L T m with
 | false => rfl
 | true => rw [hg, if_pos rfl] at this;omega

theorem grewG_succ {es : List S78} {n : Nat} {all : Bool} {L : List (List Int)} {T : Nat → Int} {q : Nat} : grewG es n all L T (q + 1) = (grewG es n all L T q || (decide (T q < 0) && fallG es n all L T q)) := by simp [grewG, List.range_succ]

def midG (es : List S78) (n : Nat) (all : Bool) (L : List (List Int)) (T : Nat → Int) (t i : Nat) : List Int := rowF L.length fun j => if j < i then nxtG es n all L T t j else T j

theorem midG_zero {es : List S78} {n : Nat} {all : Bool} {L : List (List Int)} {T : Nat → Int} {t : Nat} : midG es n all L T t 0 = rowF L.length T := rowF_ext fun i _ => by rw [if_neg (by omega)]

theorem midG_end {es : List S78} {n : Nat} {all : Bool} {L : List (List Int)} {T : Nat → Int} {t : Nat} : midG es n all L T t L.length = rowF L.length (nxtG es n all L T t) := rowF_ext fun i hi => by rw [if_pos hi]

theorem midG_put {es : List S78} {n : Nat} {all : Bool} {L : List (List Int)} {T : Nat → Int} {t i : Nat} (hi : i < L.length) (h1 : T i < 0) (h2 : fallG es n all L T i = true) : (midG es n all L T t i).set i (t : Int) = midG es n all L T t (i + 1) := by
 unfold midG
 rw [rowF_set hi]
 refine rowF_ext fun j _ => ?_
 by_cases c : j = i
 ·subst c
  simp [nxtG, h1, h2]
 ·have : (j < i + 1) ↔ (j < i) := by omega
  simp only [c, this, ↓reduceIte]

theorem midG_keep {es : List S78} {n : Nat} {all : Bool} {L : List (List Int)} {T : Nat → Int} {t i : Nat} (h : ¬ (T i < 0 ∧ fallG es n all L T i = true)) : midG es n all L T t i = midG es n all L T t (i + 1) := by
 refine rowF_ext fun j _ => ?_
 by_cases c : j = i
 ·subst c
  simp [nxtG, h]
 ·have : (j < i + 1) ↔ (j < i) := by omega
  simp only [this]

theorem l10Resist_l1 {es : List S78} {n : Nat} {L : List (List Int)} (G : Gm es n L) (all : Bool) : ∀ (d t : Nat) (T : Nat → Int), t + d ≤ 1000 → negG T L.length ≤ d → Ev (fun k => spec_l10Resist.l1 k L (tblG es n all L L.length) (rowF L.length T) (t : Int)) (rowF L.length (rndG es n all L d t T)) := by
 intro d
 have hm := G.len
 induction d with
 | zero => ?_
 | succ d ihd => ?_
 all_goals
  intro t T ht hN
  rw [Ev.iff_succ]
  simp only [spec_l10Resist.l1, l1Own_eq (show (rowF L.length T).length < 17592186044416 by rw [rowF_len];omega), Option.bind_some]
  have H : ∀ R, Ev (fun k => if grewG es n all L T L.length = true then spec_l10Resist.l1 k L (tblG es n all L L.length) (rowF L.length (nxtG es n all L T t)) (wrap64 ((t : Int) + 1)) else some (rowF L.length (nxtG es n all L T t))) R →
    Ev (fun k => spec_l10Resist.l2 k L (tblG es n all L L.length) (rowF L.length T) (t : Int) (rowF L.length T) false 0) R := by
   intro R hR
   have H2 := down L.length (fun i => Ev (fun k => spec_l10Resist.l2 k L (tblG es n all L L.length) (rowF L.length T) (t : Int) (midG es n all L T t i) (grewG es n all L T i) i) R) ?_ ?_ 0 (by omega)
   ·rw [midG_zero] at H2;exact H2
   ·show Ev _ _
    rw [Ev.iff_succ]
    simp only [spec_l10Resist.l2, Int.lt_irrefl, ↓reduceIte, midG_end]
    exact hR
   ·intro i hi ih
    show Ev _ _
    rw [Ev.iff_succ]
    have h1 : (i : Int) < (L.length : Int) := by omega
    have h2 : (0 : Int) ≤ (i : Int) := by omega
    rw [grewG_succ] at ih
    simp only [spec_l10Resist.l2, Ev.ite_iff, h1, h2, ↓reduceIte, rowF_len, rowF_rd hi, tblG_len, rdL2_nat, tblG_rd hi, w64_succ i (show i < 9223372036854775807 by omega), Int.toNat_natCast, show (midG es n all L T t i).length = L.length from rowF_len _ _]
    by_cases c : T i < 0
    ·rw [if_pos c, Ev.bind_iff (l10Falls_ev G all T hi)]
     simp only [Ev.ite_iff, h1, ↓reduceIte]
     rw [decide_eq_true c, Bool.true_and] at ih
     cases cf : fallG es n all L T i with
     | true => rw [if_pos rfl, midG_put hi c cf];rw [cf, Bool.or_true] at ih;exact ih
     | false => rw [if_neg (by decide), midG_keep (by simp [cf])];rw [cf, Bool.or_false] at ih;exact ih
    ·rw [if_neg c, midG_keep (by simp [c])]
     rw [decide_eq_false c, Bool.false_and, Bool.or_false] at ih
     exact ih
  refine H _ ?_
  clear H
 ·rw [grewG_zero hN, Ev.ite_iff, if_neg (by decide), Ev.now_iff, grewG_no (grewG_zero hN)]
  rfl
 ·rw [Ev.ite_iff]
  unfold rndG
  cases hg : grewG es n all L T L.length with
  | true =>
   have h := negG_nxt (es := es) (n := n) (all := all) (L := L) (T := T) (t := t) L.length
   rw [hg, if_pos rfl] at h
   simp only [↓reduceIte, w64_succ t (show t < 9223372036854775807 by omega)]
   exact ihd (t + 1) _ (by omega) (by omega)
  | false =>
   rw [if_neg (by decide), if_neg (by decide), Ev.now_iff, grewG_no hg]

theorem l10Resist_ev {es : List S78} {n : Nat} {L : List (List Int)} (G : Gm es n L) (all : Bool) : Ev (fun k => spec_l10Resist.f k L (tblG es n all L L.length)) (rowF L.length (rndG es n all L L.length 0 fun _ => -1)) := by
 unfold spec_l10Resist.f
 have hm := G.len
 have H := down L.length (fun i => Ev (fun k => spec_l10Resist.l0 k L (tblG es n all L L.length) (rowF i fun _ => -1) i) (rowF L.length (rndG es n all L L.length 0 fun _ => -1))) ?_ ?_ 0 (by omega)
 ·exact H
 ·show Ev _ _
  rw [Ev.iff_succ]
  simp only [spec_l10Resist.l0, Int.lt_irrefl, ↓reduceIte]
  exact l10Resist_l1 G all L.length 0 _ (by omega) (negG_le _ _)
 ·intro i hi ih
  show Ev _ _
  rw [Ev.iff_succ]
  have h1 : (i : Int) < (L.length : Int) := by omega
  have h2 : (rowF i fun _ => -1).length < 17592186044416 := by rw [rowF_len];omega
  have h3 : (rowF i fun _ => (-1 : Int)) ++ [-1] = rowF (i + 1) fun _ => -1 := by simp [rowF, List.range_succ]
  simp only [spec_l10Resist.l0, h1, h2, h3, ↓reduceIte, w64_succ i (show i < 9223372036854775807 by omega)]
  exact ih

def gamG (es : List S78) (n : Nat) (all : Bool) (L : List (List Int)) (q : Nat) : List (List Int) := (List.range q).map fun i => nI (mvsG es n all L i)

theorem gamG_len (es : List S78) (n : Nat) (all : Bool) (L : List (List Int)) (q : Nat) : (gamG es n all L q).length = q := by simp [gamG]

theorem gamG_rd {es : List S78} {n : Nat} {all : Bool} {L : List (List Int)} {q i : Nat} (h : i < q) : rd_L2 (gamG es n all L q) (i : Int) = nI (mvsG es n all L i) := by simp [rd_L2, gamG, h]

theorem implGuardSets2_ev {n k : Nat} (hn : n ≤ 8) (hk : k ≤ n) : Ev (fun f => impl_guardSets.f f n k) (gsL n k) := by
 have hbl := bl_len_le n (2 ^ n - 1)
 unfold impl_guardSets.f gsL
 rw [Ev.ite_iff, if_pos (by omega), mask_all n hn, Ev.bind_iff (setOf_ev n _ hn (by have := Nat.two_pow_pos n;omega)), Ev.bind_iff (subsetsOf_ev 8 _ k (by omega) (by omega) (by omega)), Ev.now_iff]

theorem specGuardSets2_ev {es : List S78} {n k : Nat} (hn : n ≤ 8) (hk : k ≤ n) : Ev (fun f => spec_l10Sets.f f n es k) (gsL n k) := by
 have hf := (bl_len_full n hn (2 ^ n - 1) (by have := Nat.two_pow_pos n;omega)).2 rfl
 unfold spec_l10Sets.f gsL
 rw [Ev.bind_iff (l2All_ev (es := es) hn), Ev.bind_iff (l8Choices_ev n _ k (by omega) hn (by omega)), Ev.now_iff]

theorem gm_mask {es : List S78} {n : Nat} {L : List (List Int)} (G : Gm es n L) {i : Nat} (hi : i < L.length) : Ev (fun k => impl_maskOf.f k (grd L i)) ((mL (grd L i) : Nat) : Int) := by
 obtain ⟨f, hf, e1⟩ := G.row i hi
 have hs := gm_short G hi
 have hn := G.hn
 refine maskOf_ev (grd L i) (by omega) (fun x hx => ?_)
 rw [e1] at hx
 obtain ⟨j, hj, _, rfl⟩ := mem_bl.1 hx
 omega

theorem guardGame_ev {es : List S78} {n k : Nat} (hn : n ≤ 8) (hk : k ≤ n) (all : Bool) : Ev (fun f => impl_net_guardGame.f f (nets es n) k all) ((n : Int), gsL n k, gamG es n all (gsL n k) (gsL n k).length) := by
 have G := gsL_gm (es := es) hn k
 have hs : impl_net_size.f (nets es n) = some (n : Int) := by unfold impl_net_size.f;rw [nets_len]
 unfold impl_net_guardGame.f
 simp only [hs, Option.bind_some]
 rw [Ev.bind_iff (implGuardSets2_ev hn hk)]
 generalize gsL n k = L at G ⊢
 have hm := G.len
 have H := down L.length (fun i => Ev (fun f => impl_net_guardGame.l0 f all L (L.length : Int) i (nets es n) n L (gamG es n all L i)) ((n : Int), L, gamG es n all L L.length)) ?_ ?_ 0 (by omega)
 ·exact H
 ·show Ev _ _
  rw [Ev.iff_succ]
  simp only [impl_net_guardGame.l0, Int.lt_irrefl, ↓reduceIte, Ev.now_iff]
 ·intro i hi ih
  show Ev _ _
  rw [Ev.iff_succ]
  have h1 : (i : Int) < (L.length : Int) := by omega
  have h2 : (0 : Int) ≤ (i : Int) := by omega
  simp only [impl_net_guardGame.l0, Ev.ite_iff, h1, h2, ↓reduceIte, rdL2_nat]
  have H2 := down L.length (fun j => Ev (fun f => impl_net_guardGame.l1 f all (grd L i) (nI ((List.range j).filter fun j => mvG es n all L i j)) L (L.length : Int) i L (L.length : Int) j (nets es n) n L (gamG es n all L i)) ((n : Int), L, gamG es n all L L.length)) ?_ ?_ 0 (by omega)
  ·exact H2
  ·show Ev _ _
   rw [Ev.iff_succ]
   have h3 : (gamG es n all L i).length < 5864062014805 := by rw [gamG_len];omega
   have h4 : gamG es n all L i ++ [nI ((List.range L.length).filter fun j => mvG es n all L i j)] = gamG es n all L (i + 1) := by simp [gamG, List.range_succ, mvsG]
   simp only [impl_net_guardGame.l1, Int.lt_irrefl, ↓reduceIte, h3, h4, w64_succ i (show i < 9223372036854775807 by omega)]
   exact ih
  ·intro j hj ih2
   show Ev _ _
   rw [Ev.iff_succ]
   have h3 : (j : Int) < (L.length : Int) := by omega
   have h4 : (0 : Int) ≤ (j : Int) := by omega
   have h5 : (nI ((List.range j).filter fun j => mvG es n all L i j)).length < 17592186044416 := by
    have := nI_filter_len j (fun j => mvG es n all L i j);omega
   rw [filter_range_succ, nI_app] at ih2
   simp only [impl_net_guardGame.l1, Ev.ite_iff, h3, h4, ↓reduceIte, rdL2_nat, w64_succ j (show j < 9223372036854775807 by omega)]
   rw [Ev.bind_iff (gm_mask G hi), Ev.bind_iff (gm_mask G hj), Ev.bind_iff (gm_impl G all hi hj)]
   simp only [Ev.ite_iff, h5, ↓reduceIte]
   cases hv : mvG es n all L i j with
   | true => rw [if_pos rfl];rw [hv, if_pos rfl] at ih2;exact ih2
   | false => rw [if_neg (by decide)];rw [hv, if_neg (by decide), show nI ([] : List Nat) = [] from rfl, List.append_nil] at ih2;exact ih2

theorem slicesContains_ev (l : List Int) (x : Int) (hl : l.length ≤ 9223372036854775807) : Ev (fun k => slices_Contains_int_int.f k l x) (decide (x ∈ l)) := by
 unfold slices_Contains_int_int.f slices_Index_int_int.f
 have H := down l.length (fun i => ∃ j : Int, Ev (fun k => slices_Index_int_int.l0 k l x (l.length : Int) i) j ∧ (j ≥ 0 ↔ x ∈ l.drop i)) ?_ ?_ 0 (by omega)
 ·obtain ⟨j, h1, h2⟩ := H
  rw [Ev.bind_iff (show Ev (fun k => slices_Index_int_int.l0 k l x (l.length : Int) 0) j from h1), Ev.now_iff, decide_eq_decide, h2, List.drop_zero]
 ·refine ⟨-1, ?_, by simp⟩
  rw [Ev.iff_succ]
  simp only [slices_Index_int_int.l0, Int.lt_irrefl, ↓reduceIte, Ev.now_iff]
 ·intro i hi ih
  obtain ⟨j, h1, h2⟩ := ih
  have g1 : (i : Int) < (l.length : Int) := by omega
  have g2 : (0 : Int) ≤ (i : Int) := by omega
  by_cases c : x = l[i]
  ·refine ⟨i, ?_, ⟨fun _ => by rw [c, List.drop_eq_getElem_cons hi];exact List.mem_cons_self, fun _ => by omega⟩⟩
   rw [Ev.iff_succ]
   simp only [slices_Index_int_int.l0, Ev.ite_iff, g1, g2, ↓reduceIte, rd_lt l i hi]
   rw [if_pos c, Ev.now_iff]
  ·refine ⟨j, ?_, by rw [h2, List.drop_eq_getElem_cons hi, List.mem_cons];simp [c]⟩
   rw [Ev.iff_succ]
   simp only [slices_Index_int_int.l0, Ev.ite_iff, g1, g2, ↓reduceIte, rd_lt l i hi, w64_succ i (show i < 9223372036854775807 by omega)]
   rw [if_neg c]
   exact h1

theorem answers_eq {es : List S78} {n : Nat} {L : List (List Int)} (G : Gm es n L) (all : Bool) {i : Nat} (hi : i < L.length) (x q : Int) : impl_guardGame_answers.f q L (gamG es n all L L.length) i x = some (nI (ansG es n all L i x), q) := by
 have hm := G.len
 unfold impl_guardGame_answers.f
 have h1 : (mvsG es n all L i).length ≤ L.length := by
  have := List.length_filter_le (fun j => mvG es n all L i j) (List.range L.length)
  rw [List.length_range] at this;exact this
 have h2 : slices_Clone_int_int.f (nI (mvsG es n all L i)) = some (nI (mvsG es n all L i)) := by
  unfold slices_Clone_int_int.f
  simp only [Option.bind_some, List.length_nil, List.nil_append, nI_len]
  rw [if_pos (by omega)]
 rw [if_pos (by omega), if_pos (by rw [gamG_len];omega), gamG_rd hi, h2]
 simp only [Option.bind_some]
 unfold delF
 rw [if_pos]
 ·simp only [Option.bind_some]
  congr 2
  unfold ansG mvsG nI
  rw [List.filter_map, List.filter_filter]
  congr 1
  refine List.filter_congr fun j _ => ?_
  simp only [Function.comp_apply, rdL2_nat, hasG, List.contains_eq_mem]
  rfl
 ·intro y hy
  unfold nI at hy
  obtain ⟨j, hj, rfl⟩ := List.mem_map.1 hy
  have := List.mem_range.1 (List.mem_filter.1 hj).1
  omega

theorem hasNeg_eq {m : Nat} {T : Nat → Int} {l : List Nat} (h : ∀ j ∈ l, j < m) : hasNeg (rowF m T) (nI l) = some (!(l.all fun j => decide (0 ≤ T j))) := by
 unfold hasNeg
 rw [if_pos]
 ·congr 1
  induction l with
  | nil => rfl
  | cons j l ih =>
   have ih := ih (fun i hi => h i (List.mem_cons_of_mem _ hi))
   unfold nI at ih ⊢
   rw [List.map_cons, List.any_cons, ih, List.all_cons, rowF_rd (h j (by simp)), Bool.not_and]
   congr 1
   by_cases c : T j < 0
   ·rw [decide_eq_true c, decide_eq_false (by omega)];rfl
   ·rw [decide_eq_false c, decide_eq_true (by omega)];rfl
 ·intro y hy
  unfold nI at hy
  obtain ⟨j, hj, rfl⟩ := List.mem_map.1 hy
  have := h j hj
  rw [rowF_len]
  omega

theorem cloneI_eq {l : List Int} (h : l.length < 17592186044416) : slices_Clone_int_int.f l = some l := by
 unfold slices_Clone_int_int.f
 simp only [Option.bind_some, List.length_nil, List.nil_append, Nat.zero_add, h, ↓reduceIte]

theorem resist_l0 {es : List S78} {n : Nat} {L : List (List Int)} (G : Gm es n L) (all : Bool) : ∀ (d t : Nat) (T : Nat → Int), t + d ≤ 1000 → negG T L.length ≤ d → Ev (fun k => impl_guardGame_resist.l0 k (rowF L.length T) (t : Int) true (n : Int) L (gamG es n all L L.length)) (rowF L.length (rndG es n all L d t T), (n : Int)) := by
 intro d
 have hm := G.len
 have hn := G.hn
 induction d with
 | zero => ?_
 | succ d ihd => ?_
 all_goals
  intro t T ht hN
  rw [Ev.iff_succ]
  simp only [impl_guardGame_resist.l0, ↓reduceIte, cloneI_eq (show (rowF L.length T).length < 17592186044416 by rw [rowF_len];omega), Option.bind_some]
  have H : ∀ R, Ev (fun k => impl_guardGame_resist.l0 k (rowF L.length (nxtG es n all L T t)) (wrap64 ((t : Int) + 1)) (grewG es n all L T L.length) (n : Int) L (gamG es n all L L.length)) R →
    Ev (fun k => impl_guardGame_resist.l1 k (rowF L.length T) (t : Int) false L (L.length : Int) 0 (n : Int) L (gamG es n all L L.length) (rowF L.length T)) R := by
   intro R hR
   have H2 := down L.length (fun i => Ev (fun k => impl_guardGame_resist.l1 k (midG es n all L T t i) (t : Int) (grewG es n all L T i) L (L.length : Int) i (n : Int) L (gamG es n all L L.length) (rowF L.length T)) R) ?_ ?_ 0 (by omega)
   ·rw [midG_zero] at H2;exact H2
   ·show Ev _ _
    rw [Ev.iff_succ]
    simp only [impl_guardGame_resist.l1, Int.lt_irrefl, ↓reduceIte, midG_end]
    exact hR
   ·intro i hi ih
    show Ev _ _
    rw [Ev.iff_succ]
    have h1 : (i : Int) < (L.length : Int) := by omega
    have h2 : (0 : Int) ≤ (i : Int) := by omega
    rw [grewG_succ] at ih
    simp only [impl_guardGame_resist.l1, Ev.ite_iff, h1, h2, ↓reduceIte, rowF_len, rowF_rd hi, rdL2_nat, w64_succ i (show i < 9223372036854775807 by omega)]
    by_cases c : T i < 0
    case neg =>
     rw [if_pos (by omega), midG_keep (by simp [c])]
     rw [decide_eq_false c, Bool.false_and, Bool.or_false] at ih
     exact ih
    rw [if_neg (by omega)]
    rw [decide_eq_true c, Bool.true_and] at ih
    have hs := gm_short G hi
    have H3 := down n (fun x => (((List.range n).drop x).any fun x => !hasG L i (x : Int) && (ansG es n all L i (x : Int)).all fun j => decide (0 ≤ T j)) = fallG es n all L T i →
     Ev (fun k => impl_guardGame_resist.l2 k (midG es n all L T t i) (t : Int) (grewG es n all L T i) i (grd L i) L (L.length : Int) i (n : Int) x (n : Int) L (gamG es n all L L.length) (rowF L.length T)) R) ?_ ?_ 0 (by omega) rfl
    ·exact H3
    ·intro hf
     rw [List.drop_eq_nil_of_le (by simp)] at hf
     have hf' : fallG es n all L T i = false := hf.symm
     rw [Ev.iff_succ]
     simp only [impl_guardGame_resist.l2, Int.lt_irrefl, ↓reduceIte, w64_succ i (show i < 9223372036854775807 by omega)]
     rw [midG_keep (by simp [hf'])]
     rw [hf', Bool.or_false] at ih
     exact ih
    ·intro x hx ih3 hf
     rw [range_drop hx, List.any_cons] at hf
     rw [Ev.iff_succ]
     have h3 : (x : Int) < (n : Int) := by omega
     simp only [impl_guardGame_resist.l2, h3, ↓reduceIte, w64_succ x (show x < 9223372036854775807 by omega), w64_succ i (show i < 9223372036854775807 by omega)]
     rw [Ev.bind_iff (slicesContains_ev (grd L i) x (by omega)), Ev.ite_iff]
     by_cases cc : (x : Int) ∈ grd L i
     ·rw [if_pos (by simpa using cc)]
      have hc : hasG L i (x : Int) = true := decide_eq_true cc
      rw [hc, Bool.not_true, Bool.false_and, Bool.false_or] at hf
      exact ih3 hf
     ·rw [if_neg (by simpa using cc), answers_eq G all hi]
      have hc : hasG L i (x : Int) = false := decide_eq_false cc
      simp only [Option.bind_some, hasNeg_eq ansG_in, Ev.ite_iff]
      rw [hc, Bool.not_false, Bool.true_and] at hf
      cases ca : (ansG es n all L i (x : Int)).all fun j => decide (0 ≤ T j) with
      | false =>
       rw [if_pos (by decide)]
       rw [ca, Bool.false_or] at hf
       exact ih3 hf
      | true =>
       rw [ca, Bool.true_or] at hf
       rw [if_neg (by decide), if_pos h2, if_pos (by rw [show (midG es n all L T t i).length = L.length from rowF_len _ _];exact h1), Int.toNat_natCast, midG_put hi c hf.symm]
       rw [← hf, Bool.or_true] at ih
       exact ih
  refine H _ ?_
  clear H
 ·rw [grewG_zero hN, grewG_no (grewG_zero hN), Ev.iff_succ]
  simp only [impl_guardGame_resist.l0, Bool.false_eq_true, ↓reduceIte, Ev.now_iff]
  rfl
 ·unfold rndG
  cases hg : grewG es n all L T L.length with
  | true =>
   have h := negG_nxt (es := es) (n := n) (all := all) (L := L) (T := T) (t := t) L.length
   rw [hg, if_pos rfl] at h
   simp only [↓reduceIte, w64_succ t (show t < 9223372036854775807 by omega)]
   exact ihd (t + 1) _ (by omega) (by omega)
  | false =>
   rw [grewG_no hg, Ev.iff_succ]
   simp only [impl_guardGame_resist.l0, Bool.false_eq_true, ↓reduceIte, Ev.now_iff]

def rsG (es : List S78) (n : Nat) (all : Bool) (L : List (List Int)) : Nat → Int := rndG es n all L L.length 0 fun _ => -1

theorem resist_ev {es : List S78} {n : Nat} {L : List (List Int)} (G : Gm es n L) (all : Bool) : Ev (fun k => impl_guardGame_resist.f k (n : Int) L (gamG es n all L L.length)) (rowF L.length (rsG es n all L), (n : Int)) := by
 have hm := G.len
 have hrep : slices_Repeat_int_int.f ([(-1)] : List Int) (L.length : Int) = some (rowF L.length (fun _ => -1)) := by
  unfold slices_Repeat_int_int.f
  rw [if_pos ⟨rfl, by omega, by omega⟩, Int.toNat_natCast]
  congr 1
  apply List.ext_getElem <;> simp [rowF, rd]
 unfold impl_guardGame_resist.f
 rw [hrep]
 exact resist_l0 G all L.length 0 _ (by omega) (negG_le _ _)

theorem l10Known_ev {es : List S78} {n k : Nat} (hn : n ≤ 8) (he : es.length ≤ 9223372036854775807) (hk : k ≤ n) (all : Bool) : Ev (fun f => spec_l10Known.f f n es k all) (rowF (gsL n k).length (rsG es n all (gsL n k))) := by
 have G := gsL_gm (es := es) hn k
 unfold spec_l10Known.f
 rw [Ev.bind_iff (specGuardSets2_ev hn hk), Ev.bind_iff (l10Table_ev G he all), Ev.bind_iff (l10Resist_ev G all), Ev.now_iff]
 rfl

theorem l10Good_eq (n : Int) (es : List S78) (a : Int) : spec_l10Good.f n es a = some (okG n es && decide (0 ≤ a ∧ a ≤ n)) := by
 unfold spec_l10Good.f
 rw [l2Good_eq]
 simp only [Option.bind_some, l1In_eq]
 cases okG n es <;> simp

def famG (es : List S78) (n : Nat) (all : Bool) (L : List (List Int)) (q : Nat) : List (List Int) := ((List.range q).filter fun i => decide (rsG es n all L i < 0)).map (grd L)

theorem famG_len (es : List S78) (n : Nat) (all : Bool) (L : List (List Int)) (q : Nat) : (famG es n all L q).length ≤ q := by
 have := List.length_filter_le (fun i => decide (rsG es n all L i < 0)) (List.range q)
 rw [List.length_range] at this
 unfold famG
 rw [List.length_map];exact this

theorem famG_succ (es : List S78) (n : Nat) (all : Bool) (L : List (List Int)) (q : Nat) : famG es n all L (q + 1) = famG es n all L q ++ (if rsG es n all L q < 0 then [grd L q] else []) := by
 unfold famG
 rw [filter_range_succ, List.map_append]
 by_cases c : rsG es n all L q < 0 <;> simp [c]

theorem l10Family_ev {es : List S78} {n k : Nat} (hn : n ≤ 8) (he : es.length ≤ 9223372036854775807) (hk : k ≤ n) (all : Bool) : Ev (fun f => spec_l10Family.f f n es k all) (famG es n all (gsL n k) (gsL n k).length) := by
 have G := gsL_gm (es := es) hn k
 unfold spec_l10Family.f
 rw [Ev.bind_iff (specGuardSets2_ev hn hk), Ev.bind_iff (l10Known_ev hn he hk all)]
 generalize gsL n k = L at G ⊢
 have hm := G.len
 have H := down L.length (fun i => Ev (fun f => spec_l10Family.l0 f (famG es n all L i) L (rowF L.length (rsG es n all L)) i) (famG es n all L L.length)) ?_ ?_ 0 (by omega)
 ·exact H
 ·show Ev _ _
  rw [Ev.iff_succ]
  simp only [spec_l10Family.l0, Int.lt_irrefl, ↓reduceIte, Ev.now_iff]
 ·intro i hi ih
  show Ev _ _
  rw [Ev.iff_succ]
  have h1 : (i : Int) < (L.length : Int) := by omega
  have h2 : (0 : Int) ≤ (i : Int) := by omega
  have h3 : (famG es n all L i).length < 5864062014805 := by have := famG_len es n all L i;omega
  rw [famG_succ] at ih
  simp only [spec_l10Family.l0, Ev.ite_iff, h1, h2, h3, ↓reduceIte, rowF_len, rowF_rd hi, rdL2_nat, w64_succ i (show i < 9223372036854775807 by omega)]
  by_cases c : rsG es n all L i < 0
  ·rw [if_pos c];rw [if_pos c] at ih;exact ih
  ·rw [if_neg c];rw [if_neg c, List.append_nil] at ih;exact ih

theorem valResist_ev {es : List S78} {n : Nat} {L : List (List Int)} (G : Gm es n L) (all : Bool) : Ev (fun k => impl_valResist.f k (n : Int) L (gamG es n all L L.length)) (rowF L.length (rsG es n all L)) := by
 unfold impl_valResist.f
 rw [Ev.bind_iff (resist_ev G all), Ev.now_iff]

def eternalFamilyR (n : Int) (es : List S78) (a : Int) (b : Bool) : List (List Int) × Bool := if (okG n es && decide (0 ≤ a ∧ a ≤ n)) = true then (famG es n.toNat b (gsL n.toNat a.toNat) (gsL n.toNat a.toNat).length, decide (((famG es n.toNat b (gsL n.toNat a.toNat) (gsL n.toNat a.toNat).length).length : Int) > 0)) else ([], false)

theorem eternalFamilyR_len (n : Int) (es : List S78) (a : Int) (b : Bool) : (eternalFamilyR n es a b).1.length ≤ 1048576 ∧ (∀ r ∈ (eternalFamilyR n es a b).1, r.length ≤ 1048576) ∧ ((eternalFamilyR n es a b).1.map List.length).sum ≤ 1099511627776 := by
 unfold eternalFamilyR
 split
 ·rename_i h
  simp only [Bool.and_eq_true, decide_eq_true_eq] at h
  obtain ⟨N, rfl, hN⟩ := okG_use h.1
  obtain ⟨K, rfl⟩ : ∃ K : Nat, a = K := ⟨a.toNat, by omega⟩
  simp only [Int.toNat_natCast]
  have G := gsL_gm (es := es) hN K
  have hm := G.len
  have h1 := famG_len es N b (gsL N K) (gsL N K).length
  have h3 : ∀ r ∈ famG es N b (gsL N K) (gsL N K).length, r.length ≤ 8 := fun r hr => by
   unfold famG at hr
   obtain ⟨j, hj, rfl⟩ := List.mem_map.1 hr
   exact gm_short G (List.mem_range.1 (List.mem_filter.1 hj).1)
  have h4 := sum_le_mul _ 8 h3
  exact ⟨by omega, fun r hr => by have := h3 r hr;omega, by omega⟩
 ·simp

theorem specEternalFamily_ev (n : Int) (es : List S78) (a : Int) (b : Bool) (_ : (Lit.int .i64 a).wf = true) (he : es.length ≤ 9223372036854775807) : Ev (fun k => spec_EternalFamily.f k n es a b) (eternalFamilyR n es a b) := by
 unfold spec_EternalFamily.f eternalFamilyR
 rw [l10Good_eq]
 simp only [Option.bind_some, Ev.ite_iff]
 by_cases h : (okG n es && decide (0 ≤ a ∧ a ≤ n)) = true
 ·rw [if_pos h, if_pos h]
  simp only [Bool.and_eq_true, decide_eq_true_eq] at h
  obtain ⟨N, rfl, hN⟩ := okG_use h.1
  obtain ⟨K, rfl⟩ : ∃ K : Nat, a = K := ⟨a.toNat, by omega⟩
  rw [Ev.bind_iff (l10Family_ev hN he (by omega) b), Ev.now_iff]
  simp only [Int.toNat_natCast]
 ·rw [if_neg h, if_neg h, Ev.now_iff]

theorem implFamily_l0 {es : List S78} {n : Nat} {L : List (List Int)} (G : Gm es n L) (all : Bool) (q : Int) (mm : List (List Int)) : Ev (fun k => impl_EternalFamily.l0 k [] (rowF L.length (rsG es n all L)) ((rowF L.length (rsG es n all L)).length : Int) 0 q L mm) (famG es n all L L.length, decide (((famG es n all L L.length).length : Int) > 0)) := by
 have hm := G.len
 have H := down L.length (fun i => Ev (fun k => impl_EternalFamily.l0 k (famG es n all L i) (rowF L.length (rsG es n all L)) ((rowF L.length (rsG es n all L)).length : Int) i q L mm) (famG es n all L L.length, decide (((famG es n all L L.length).length : Int) > 0))) ?_ ?_ 0 (by omega)
 ·exact H
 ·show Ev _ _
  rw [Ev.iff_succ]
  simp only [impl_EternalFamily.l0, rowF_len, Int.lt_irrefl, ↓reduceIte, Ev.now_iff]
 ·intro i hi ih
  show Ev _ _
  rw [Ev.iff_succ]
  have h1 : (i : Int) < ((rowF L.length (rsG es n all L)).length : Int) := by rw [rowF_len];omega
  have h2 : (0 : Int) ≤ (i : Int) := by omega
  have h3 : (famG es n all L i).length < 5864062014805 := by have := famG_len es n all L i;omega
  have h4 : (i : Int) < (L.length : Int) := by omega
  rw [famG_succ] at ih
  simp only [impl_EternalFamily.l0, Ev.ite_iff, h1, h2, h3, h4, ↓reduceIte, rowF_rd hi, rdL2_nat, w64_succ i (show i < 9223372036854775807 by omega)]
  by_cases c : rsG es n all L i < 0
  ·rw [if_pos c];rw [if_pos c] at ih;exact ih
  ·rw [if_neg c];rw [if_neg c, List.append_nil] at ih;exact ih

theorem implEternalFamily_ev (n : Int) (es : List S78) (a : Int) (b : Bool) (_ : (Lit.int .i64 a).wf = true) : Ev (fun k => impl_EternalFamily.f k n es a b) (eternalFamilyR n es a b) := by
 unfold impl_EternalFamily.f eternalFamilyR
 rw [IsGraph_eq]
 simp only [Option.bind_some, Ev.ite_iff]
 by_cases hg : okG n es = true
 case neg =>
  rw [if_neg hg, if_neg (by simp [hg]), Ev.iff_succ]
  simp only [impl_EternalFamily.j0, ↓reduceIte, Ev.now_iff]
 rw [if_pos hg, within_eq]
 simp only [Option.bind_some]
 rw [Ev.iff_succ]
 by_cases hd : 0 ≤ a ∧ a ≤ n
 case neg =>
  rw [if_neg (by simp [hd])]
  simp only [impl_EternalFamily.j0, decide_eq_false hd, Bool.not_false, ↓reduceIte, Ev.now_iff]
 rw [if_pos (by simp [hg, hd])]
 obtain ⟨N, rfl, hN⟩ := okG_use hg
 obtain ⟨K, rfl⟩ : ∃ K : Nat, a = K := ⟨a.toNat, by omega⟩
 have G := gsL_gm (es := es) hN K
 simp only [impl_EternalFamily.j0, decide_eq_true hd, Bool.not_true, Bool.false_eq_true, ↓reduceIte, netOf_eq hg, Option.bind_some, Int.toNat_natCast]
 rw [Ev.bind_iff (guardGame_ev hN (by omega) b), Ev.bind_iff (valResist_ev G b)]
 exact implFamily_l0 G b _ _

theorem FnExactEternalFamily_pure (n : Int) (es : List S78) (a : Int) (b : Bool) (he : es.length ≤ 9223372036854775807) (ha : (Lit.int .i64 a).wf = true) : Ev (fun k => laws_FnExactEternalFamily.f k n es a b) true := by
 unfold laws_FnExactEternalFamily.f
 rw [szGraph_eq n es (by omega)]
 simp only [Option.bind_some, Ev.ite_iff]
 by_cases hs : es.length ≤ 1048576
 case neg => rw [if_neg hs, if_pos (by omega), Ev.now_iff]
 rw [if_pos hs, if_neg (by omega)]
 have hg := toGraph_ev n es (by omega)
 obtain ⟨hR1, hR2, hR3⟩ := eternalFamilyR_len n es a b
 have hS := specEternalFamily_ev n es a b ha (by omega)
 have hI := implEternalFamily_ev n es a b ha
 generalize eternalFamilyR n es a b = R at hR1 hR2 hR3 hS hI
 rw [Ev.bind_iff hg, Ev.bind_iff hS, Ev.bind_iff hg, Ev.bind_iff hI]
 have hq := eqIntSS_refl R.1 (by omega) (fun r hr => by have := hR2 r hr;omega)
 rw [Ev.bind_iff hq]
 simp only [bne_self_eq_false, Bool.false_eq_true, ↓reduceIte]
 rw [Ev.iff_succ]
 simp only [laws_FnExactEternalFamily.j0, Bool.false_eq_true, ↓reduceIte]
 rw [Ev.bind_iff hg, Ev.bind_iff (eqGraph_refl n es he)]
 simp only [↓reduceIte]
 obtain ⟨rm, hm⟩ := markGraph_eq n es 1 (by omega) (by omega)
 rw [hm]
 simp only [Option.bind_some]
 rw [Ev.ite_iff, if_neg (by omega), Ev.bind_iff hq]
 simp only [bne_self_eq_false, ↓reduceIte]
 rw [Ev.iff_succ]
 simp only [laws_FnExactEternalFamily.j1, Bool.false_eq_true, ↓reduceIte]
 rw [Ev.bind_iff (markIntSS_ev R.1 1 (by omega) (by omega) (by omega))]
 simp only []
 rw [Ev.bind_iff (heldIntSS_ev 1 (R.1.map List.length) (by omega) (by rw [List.length_map];omega) (by omega)), Ev.ite_iff, if_neg (by omega)]
 simp only [↓reduceIte]
 rw [Ev.bind_iff hg, Ev.bind_iff hI, Ev.bind_iff hq]
 simp only [bne_self_eq_false, ↓reduceIte]
 rw [Ev.iff_succ]
 simp only [laws_FnExactEternalFamily.j2, Bool.false_eq_true, ↓reduceIte]
 rw [Ev.bind_iff (heldIntSS_ev 1 (R.1.map List.length) (by omega) (by rw [List.length_map];omega) (by omega)), Ev.ite_iff, if_neg (by omega)]
 simp only [↓reduceIte, Ev.now_iff]

end Go.Proofs.YtgahlimikndecaaDoor.QEternalFamily
