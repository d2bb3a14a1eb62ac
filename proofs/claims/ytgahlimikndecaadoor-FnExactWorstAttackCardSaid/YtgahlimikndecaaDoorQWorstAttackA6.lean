import Derived.Test.YtgahlimikndecaaDoorQWorstAttack0
import Derived.Test.YtgahlimikndecaaDoorQWorstAttack10
import Derived.Test.YtgahlimikndecaaDoorQWorstAttack5
import Derived.Test.YtgahlimikndecaaDoorQWorstAttack9
import Derived.Test.YtgahlimikndecaaDoorQWorstAttackA5
namespace Go.Proofs.YtgahlimikndecaaDoor.QWorstAttack
open Go.RowKit Go.Proofs.YtgahlimikndecaaDoorW.PrintWords Go.Proofs.YtgahlimikndecaaDoorW.PrintLast Go.Proofs.YtgahlimikndecaaDoorW.PrintMore
attribute [local go_sem] max2_int min2_int max_two min_two max_three min_three max_four min_four   -- for this text's walks alone
set_option linter.unusedVariables false
set_option linter.unusedSimpArgs false
set_option maxRecDepth 100000
set_option maxHeartbeats 8000000
theorem rsG_le (es : List S78) (n : Nat) (all : Bool) (L : List (List Int)) (i : Nat) : rsG es n all L i ≤ (L.length : Int) := by
 have := rndG_le es n all L L.length 0 (fun _ => -1) (fun _ => by omega) i
 unfold rsG
 omega

theorem fallG_mono {es : List S78} {n : Nat} {all : Bool} {L : List (List Int)} {T T' : Nat → Int} {i : Nat} (h : ∀ j, 0 ≤ T j → 0 ≤ T' j) (hf : fallG es n all L T i = true) : fallG es n all L T' i = true := by
 unfold fallG at *
 rw [List.any_eq_true] at *
 obtain ⟨x, hx, hp⟩ := hf
 refine ⟨x, hx, ?_⟩
 rw [Bool.and_eq_true] at *
 refine ⟨hp.1, ?_⟩
 rw [List.all_eq_true] at *
 intro j hj
 exact decide_eq_true (h j (of_decide_eq_true (hp.2 j hj)))

theorem rndG_falls {es : List S78} {n : Nat} {all : Bool} {L : List (List Int)} : ∀ (d t : Nat) (T : Nat → Int), (∀ i, 0 ≤ T i → fallG es n all L T i = true) → ∀ i, 0 ≤ rndG es n all L d t T i → fallG es n all L (rndG es n all L d t T) i = true
 | 0, _, _, h, i => h i
 | d + 1, t, T, h, i => by
  unfold rndG
  split
  ·refine rndG_falls d (t + 1) (nxtG es n all L T t) (fun j hj => ?_) i
   have hm : ∀ q, 0 ≤ T q → 0 ≤ nxtG es n all L T t q := fun q hq => by
    unfold nxtG
    rw [if_neg (by omega)];exact hq
   refine fallG_mono hm ?_
   by_cases c : T j < 0 ∧ fallG es n all L T j = true
   ·exact c.2
   ·have hj' := hj
    unfold nxtG at hj'
    rw [if_neg c] at hj'
    exact h j hj'
  ·exact h i

theorem rsG_falls {es : List S78} {n : Nat} {all : Bool} {L : List (List Int)} {i : Nat} (h : 0 ≤ rsG es n all L i) : fallG es n all L (rsG es n all L) i = true := rndG_falls _ _ _ (fun _ h => by omega) i h

def endlessI (r : Int) : Int := if r < 0 then 1000000 else r

def leftG (T : Nat → Int) : Int → List Nat → Int
 | b, [] => b
 | b, j :: l => leftG T (if b < endlessI (T j) then endlessI (T j) else b) l

def worstS (es : List S78) (n : Nat) (all : Bool) (L : List (List Int)) (T : Nat → Int) (p : Nat) : List Nat → Int → Int → Int
 | [], b, _ => b
 | x :: l, b, m => if hasG L p (x : Int) = true then worstS es n all L T p l b m else if (ansG es n all L p (x : Int)).length = 0 then (x : Int) else
   if 0 ≤ aftG T 0 (ansG es n all L p (x : Int)) ∧ (b < 0 ∨ aftG T 0 (ansG es n all L p (x : Int)) < m) then worstS es n all L T p l (x : Int) (aftG T 0 (ansG es n all L p (x : Int))) else worstS es n all L T p l b m

def worstI (es : List S78) (n : Nat) (all : Bool) (L : List (List Int)) (T : Nat → Int) (p : Nat) : List Nat → Int → Int → Int
 | [], b, _ => b
 | x :: l, b, m => if hasG L p (x : Int) = true then worstI es n all L T p l b m else
   if b < 0 ∨ leftG T (-1) (ansG es n all L p (x : Int)) < m then worstI es n all L T p l (x : Int) (leftG T (-1) (ansG es n all L p (x : Int))) else worstI es n all L T p l b m

theorem leftG_big {T : Nat → Int} (hT : ∀ j, T j ≤ 1000) : ∀ (l : List Nat), leftG T 1000000 l = 1000000
 | [] => rfl
 | j :: l => by
  unfold leftG
  have := hT j
  rw [if_neg (by unfold endlessI;split <;> omega)]
  exact leftG_big hT l

theorem leftG_ge {T : Nat → Int} : ∀ (l : List Nat) (b : Int), b ≤ leftG T b l
 | [], b => Int.le_refl _
 | j :: l, b => by
  unfold leftG
  have h := leftG_ge (T := T) l (if b < endlessI (T j) then endlessI (T j) else b)
  refine Int.le_trans ?_ h
  split <;> omega

theorem leftG_aft {T : Nat → Int} (hT : ∀ j, T j ≤ 1000) : ∀ (l : List Nat) (b : Int), 0 ≤ b → b ≤ 1000 → (0 ≤ aftG T b l → leftG T b l = aftG T b l ∧ aftG T b l ≤ 1000) ∧ (aftG T b l < 0 → leftG T b l = 1000000)
 | [], b, h0, h1 => ⟨fun _ => ⟨rfl, h1⟩, fun h => absurd h (Int.not_lt.2 h0)⟩
 | j :: l, b, h0, h1 => by
  unfold aftG leftG
  have hj := hT j
  by_cases c : T j < 0
  ·rw [if_pos c]
   have he : endlessI (T j) = 1000000 := if_pos c
   rw [he, if_pos (by omega)]
   exact ⟨fun h => by omega, fun _ => leftG_big hT l⟩
  ·rw [if_neg c]
   have he : endlessI (T j) = T j := if_neg c
   rw [he]
   have e : (if b < T j then T j else b) = (if b > T j then b else T j) := by split <;> split <;> omega
   rw [e]
   exact leftG_aft hT l _ (by split <;> omega) (by split <;> omega)

theorem leftG_one {T : Nat → Int} (hT : ∀ j, T j ≤ 1000) {l : List Nat} (hl : l.length ≠ 0) : (0 ≤ aftG T 0 l → leftG T (-1) l = aftG T 0 l ∧ aftG T 0 l ≤ 1000) ∧ (aftG T 0 l < 0 → leftG T (-1) l = 1000000) := by
 match l, hl with
 | j :: l, _ =>
  have hj := hT j
  unfold aftG leftG
  by_cases c : T j < 0
  ·rw [if_pos c]
   have he : endlessI (T j) = 1000000 := if_pos c
   rw [he, if_pos (by omega)]
   exact ⟨fun h => by omega, fun _ => leftG_big hT l⟩
  ·rw [if_neg c]
   have he : endlessI (T j) = T j := if_neg c
   have e : (if (0 : Int) > T j then 0 else T j) = T j := if_neg (by omega)
   have e2 : (if (-1 : Int) < T j then T j else -1) = T j := if_pos (by omega)
   rw [he, e, e2]
   exact leftG_aft hT l _ (by omega) (by omega)

theorem worstI_done {es : List S78} {n : Nat} {all : Bool} {L : List (List Int)} {T : Nat → Int} {p : Nat} : ∀ (l : List Nat) (b : Int), 0 ≤ b → worstI es n all L T p l b (-1) = b
 | [], _, _ => rfl
 | x :: l, b, hb => by
  unfold worstI
  have h1 := worstI_done (es := es) (n := n) (all := all) (L := L) (T := T) (p := p) l b hb
  have h2 := leftG_ge (T := T) (ansG es n all L p (x : Int)) (-1)
  rw [h1, if_neg (show ¬ (b < 0 ∨ leftG T (-1) (ansG es n all L p (x : Int)) < -1) by omega)]
  simp

theorem worst_same {es : List S78} {n : Nat} {all : Bool} {L : List (List Int)} {T : Nat → Int} {p : Nat} (hT : ∀ j, T j ≤ 1000) : ∀ (l : List Nat) (b m : Int), 0 ≤ b → 0 ≤ m → m ≤ 1000 → worstI es n all L T p l b m = worstS es n all L T p l b m
 | [], _, _, _, _, _ => rfl
 | x :: l, b, m, hb, h0, h1 => by
  unfold worstI worstS
  by_cases c : hasG L p (x : Int) = true
  ·rw [if_pos c, if_pos c];exact worst_same hT l b m hb h0 h1
  ·rw [if_neg c, if_neg c]
   by_cases ca : (ansG es n all L p (x : Int)).length = 0
   ·rw [if_pos ca, List.length_eq_zero_iff.1 ca, show leftG T (-1) [] = -1 from rfl, if_pos (Or.inr (by omega : (-1 : Int) < m))]
    exact worstI_done l _ (by omega)
   ·rw [if_neg ca]
    have hl := leftG_one hT ca
    by_cases cg : 0 ≤ aftG T 0 (ansG es n all L p (x : Int))
    ·obtain ⟨e, hle⟩ := hl.1 cg
     rw [e]
     by_cases cm : aftG T 0 (ansG es n all L p (x : Int)) < m
     ·rw [if_pos (.inr cm), if_pos ⟨cg, .inr cm⟩]
      exact worst_same hT l _ _ (by omega) cg hle
     ·rw [if_neg (by omega), if_neg (by omega)]
      exact worst_same hT l b m hb h0 h1
    ·rw [hl.2 (by omega), if_neg (by omega), if_neg (by omega)]
     exact worst_same hT l b m hb h0 h1

theorem worst_first {es : List S78} {n : Nat} {all : Bool} {L : List (List Int)} {T : Nat → Int} {p : Nat} (hT : ∀ j, T j ≤ 1000) : ∀ (l : List Nat), (∃ x ∈ l, hasG L p (x : Int) = false ∧ 0 ≤ aftG T 0 (ansG es n all L p (x : Int))) →
  worstI es n all L T p l (-1) 0 = worstS es n all L T p l (-1) 0 ∧ ∀ b, 0 ≤ b → worstI es n all L T p l b 1000000 = worstS es n all L T p l (-1) 0
 | [], h => by obtain ⟨x, hx, _⟩ := h;simp at hx
 | x :: l, h => by
  unfold worstI worstS
  by_cases c : hasG L p (x : Int) = true
  ·rw [if_pos c, if_pos c]
   have h' : ∃ x ∈ l, hasG L p (x : Int) = false ∧ 0 ≤ aftG T 0 (ansG es n all L p (x : Int)) := by
    obtain ⟨y, hy, h1, h2⟩ := h
    rcases List.mem_cons.1 hy with rfl | hy
    ·rw [c] at h1;cases h1
    ·exact ⟨y, hy, h1, h2⟩
   obtain ⟨g1, g2⟩ := worst_first hT l h'
   refine ⟨g1, fun b hb => ?_⟩
   rw [if_pos c];exact g2 b hb
  ·rw [if_neg c, if_neg c]
   by_cases ca : (ansG es n all L p (x : Int)).length = 0
   ·rw [if_pos ca, List.length_eq_zero_iff.1 ca, show leftG T (-1) [] = -1 from rfl]
    refine ⟨?_, fun b hb => ?_⟩
    ·rw [if_pos (Or.inl (by omega : (-1 : Int) < 0))];exact worstI_done l _ (by omega)
    ·rw [if_neg c, if_pos (Or.inr (by omega : (-1 : Int) < 1000000))];exact worstI_done l _ (by omega)
   ·rw [if_neg ca]
    have hl := leftG_one hT ca
    by_cases cg : 0 ≤ aftG T 0 (ansG es n all L p (x : Int))
    ·obtain ⟨e, hle⟩ := hl.1 cg
     rw [e, if_pos (.inl (by omega)), if_pos ⟨cg, .inl (by omega)⟩]
     refine ⟨worst_same hT l _ _ (by omega) cg hle, fun b hb => ?_⟩
     rw [if_neg c, if_pos (.inr (by omega))]
     exact worst_same hT l _ _ (by omega) cg hle
    ·have h' : ∃ x ∈ l, hasG L p (x : Int) = false ∧ 0 ≤ aftG T 0 (ansG es n all L p (x : Int)) := by
      obtain ⟨y, hy, h1, h2⟩ := h
      rcases List.mem_cons.1 hy with rfl | hy
      ·exact absurd h2 cg
      ·exact ⟨y, hy, h1, h2⟩
     obtain ⟨g1, g2⟩ := worst_first hT l h'
     rw [hl.2 (by omega), if_pos (.inl (by omega)), if_neg (by omega)]
     refine ⟨g2 _ (by omega), fun b hb => ?_⟩
     rw [if_neg c, if_neg (by omega)]
     exact g2 b hb

theorem worst_has {es : List S78} {n : Nat} {all : Bool} {L : List (List Int)} {p : Nat} (h : 0 ≤ rsG es n all L p) : ∃ x ∈ List.range n, hasG L p (x : Int) = false ∧ 0 ≤ aftG (rsG es n all L) 0 (ansG es n all L p (x : Int)) := by
 have hf := rsG_falls h
 unfold fallG at hf
 rw [List.any_eq_true] at hf
 obtain ⟨x, hx, hp⟩ := hf
 rw [Bool.and_eq_true, Bool.not_eq_true'] at hp
 refine ⟨x, hx, hp.1, ?_⟩
 rw [← aftG_nonneg _ 0 (Int.le_refl _)] at hp
 exact of_decide_eq_true hp.2

theorem endless_eq (r : Int) : impl_endless.f r = some (endlessI r) := by
 unfold impl_endless.f endlessI
 split <;> rfl

theorem valResist_ev {es : List S78} {n : Nat} {L : List (List Int)} (G : Gm es n L) (all : Bool) : Ev (fun k => impl_valResist.f k (n : Int) L (gamG es n all L L.length)) (rowF L.length (rsG es n all L)) := by
 unfold impl_valResist.f
 rw [Ev.bind_iff (resist_ev G all), Ev.now_iff]

theorem rsG_small {es : List S78} {n : Nat} {L : List (List Int)} (G : Gm es n L) (all : Bool) (j : Nat) : rsG es n all L j ≤ 1000 := by
 have := rsG_le es n all L j
 have := G.len
 omega

def worstAttackR (n : Int) (es : List S78) (l : List Int) (b : Bool) : Int × Bool := if setB n es l = true ∧ 0 ≤ rsG es n.toNat b (gsL n.toNat l.length) (plcG n.toNat l) then (worstS es n.toNat b (gsL n.toNat l.length) (rsG es n.toNat b (gsL n.toNat l.length)) (plcG n.toNat l) (List.range n.toNat) (-1) 0, true) else (0, false)

theorem specWorst_l0 {es : List S78} {n : Nat} {L : List (List Int)} (G : Gm es n L) (all : Bool) (T : Nat → Int) {p : Nat} (hp : p < L.length) : Ev (fun k => spec_WorstAttack.l0 k (grd L p) (-1) 0 (tblG es n all L L.length) (rowF L.length T) (p : Int) 0 (n : Int) es) (worstS es n all L T p (List.range n) (-1) 0, true) := by
 have hm := G.len
 have hn := G.hn
 have hs := gm_short G hp
 have H := down n (fun x => ∀ b m, Ev (fun k => spec_WorstAttack.l0 k (grd L p) b m (tblG es n all L L.length) (rowF L.length T) (p : Int) x (n : Int) es) (worstS es n all L T p ((List.range n).drop x) b m, true)) ?_ ?_ 0 (by omega) (-1) 0
 ·exact H
 ·intro b m
  rw [Ev.iff_succ]
  simp only [spec_WorstAttack.l0, Int.lt_irrefl, ↓reduceIte, Ev.now_iff]
  rw [List.drop_eq_nil_of_le (by simp)]
  rfl
 ·intro x hx ih b m
  rw [Ev.iff_succ]
  have h1 : (x : Int) < (n : Int) := by omega
  have h2 : (0 : Int) ≤ (x : Int) := by omega
  have h3 : (0 : Int) ≤ (p : Int) := by omega
  have h4 : (p : Int) < ((tblG es n all L L.length).length : Int) := by rw [tblG_len];omega
  have h5 : (x : Int) < ((tblRow es n all L p n).length : Int) := by rw [tblRow_len];omega
  rw [range_drop hx]
  unfold worstS
  simp only [spec_WorstAttack.l0, h1, h2, h3, h4, ↓reduceIte, tblG_rd hp, h5, w64_succ x (show x < 9223372036854775807 by omega)]
  rw [Ev.bind_iff (l1Has_ev (grd L p) x (by omega)), Ev.ite_iff]
  by_cases c : (x : Int) ∈ grd L p
  ·have hc : hasG L p (x : Int) = true := decide_eq_true c
   rw [if_pos (by simpa using c), if_pos hc]
   exact ih b m
  ·have hc : hasG L p (x : Int) = false := decide_eq_false c
   rw [if_neg (by simpa using c), if_neg (by rw [hc];decide), tblRow_rd hx hc, Ev.bind_iff (l10After_ev hm (Nat.le_trans ansG_len hm) ansG_in)]
   simp only [Ev.ite_iff, decide_eq_true_eq]
   by_cases c1 : (ansG es n all L p (x : Int)).length = 0
   ·rw [if_neg (by omega), if_pos c1, Ev.now_iff]
   ·rw [if_pos (by omega), if_neg c1]
    by_cases c2 : 0 ≤ aftG T 0 (ansG es n all L p (x : Int))
    ·rw [if_pos (by omega)]
     by_cases c3 : b < 0
     ·rw [if_pos c3, if_pos ⟨c2, .inl c3⟩];exact ih _ _
     ·rw [if_neg c3]
      by_cases c4 : aftG T 0 (ansG es n all L p (x : Int)) < m
      ·rw [if_pos c4, if_pos ⟨c2, .inr c4⟩];exact ih _ _
      ·rw [if_neg c4, if_neg (by omega)];exact ih _ _
    ·rw [if_neg (by omega), if_neg (by omega)];exact ih _ _

theorem specWorstAttack_ev (n : Int) (es : List S78) (l : List Int) (b : Bool) (hl : l.length ≤ 9223372036854775807) (he : es.length ≤ 9223372036854775807) : Ev (fun k => spec_WorstAttack.f k n es l b) (worstAttackR n es l b) := by
 unfold spec_WorstAttack.f worstAttackR
 have no : Ev (fun k => spec_WorstAttack.j0 k l b true n es) (0, false) := by
  rw [Ev.iff_succ];simp only [spec_WorstAttack.j0, ↓reduceIte];exact Ev.now _
 rw [l2Good_eq]
 simp only [Option.bind_some, Ev.ite_iff]
 by_cases h1 : okG n es = true
 case neg => rw [if_neg h1, if_neg (by simp [setB, h1])];exact no
 rw [if_pos h1, Ev.bind_iff (l2Set_ev n es l hl)]
 by_cases h2 : setB n es l = true
 case neg =>
  have h2' : (allIn 0 (wrap64 (n - 1)) l && ascB none l) = false := Bool.eq_false_iff.2 (by simpa only [setB, h1, Bool.true_and] using h2)
  rw [h2', if_neg (fun h => h2 h.1)];exact no
 have h2' := h2
 simp only [setB, h1, Bool.true_and] at h2'
 rw [h2', Bool.not_true, Ev.iff_succ]
 obtain ⟨N, m, rfl, hN, hg, _, _, hlb, _⟩ := setB_use h2
 have hlen := bl_len8 hN hlb
 have G := gsL_gm (es := es) hN l.length
 have hm := G.len
 obtain ⟨p1, p2⟩ := plcG_use hlb
 simp only [spec_WorstAttack.j0, Bool.false_eq_true, ↓reduceIte]
 rw [Ev.bind_iff (specGuardSets2_ev hN hlen), Ev.bind_iff (l10Table_ev G he b), Ev.bind_iff (l10Resist_ev G b), Ev.bind_iff (l4At_ev hN hlb)]
 rw [show rndG es N b (gsL N l.length) (gsL N l.length).length 0 (fun _ => -1) = rsG es N b (gsL N l.length) from rfl]
 rw [Ev.ite_iff, if_pos (by omega), Ev.ite_iff, if_pos (by rw [rowF_len];omega), rowF_rd p1, Ev.ite_iff]
 simp only [Int.toNat_natCast]
 by_cases c : 0 ≤ rsG es N b (gsL N l.length) (plcG N l)
 ·rw [if_neg (by omega), if_pos ⟨h2, c⟩]
  have := specWorst_l0 G b (rsG es N b (gsL N l.length)) p1
  rw [p2] at this
  exact this
 ·rw [if_pos (by omega), if_neg (fun h => c h.2), Ev.now_iff]

theorem implWorst_l0 {es : List S78} {n : Nat} {L : List (List Int)} (G : Gm es n L) (all : Bool) {T : Nat → Int} {p : Nat} (hp : p < L.length) (q : Int) : Ev (fun k => impl_WorstAttack.l0 k (grd L p) (rowF L.length T) (p : Int) (-1) 0 (n : Int) 0 q L (gamG es n all L L.length)) (worstI es n all L T p (List.range n) (-1) 0, true) := by
 have hm := G.len
 have hn := G.hn
 have hs := gm_short G hp
 have H := down n (fun x => ∀ b m, Ev (fun k => impl_WorstAttack.l0 k (grd L p) (rowF L.length T) (p : Int) b m (n : Int) x q L (gamG es n all L L.length)) (worstI es n all L T p ((List.range n).drop x) b m, true)) ?_ ?_ 0 (by omega) (-1) 0
 ·exact H
 ·intro b m
  rw [Ev.iff_succ]
  simp only [impl_WorstAttack.l0, Int.lt_irrefl, ↓reduceIte, Ev.now_iff]
  rw [List.drop_eq_nil_of_le (by simp)]
  rfl
 ·intro x hx ih b m
  rw [Ev.iff_succ]
  have h1 : (x : Int) < (n : Int) := by omega
  rw [range_drop hx]
  unfold worstI
  simp only [impl_WorstAttack.l0, h1, ↓reduceIte, w64_succ x (show x < 9223372036854775807 by omega)]
  rw [Ev.bind_iff (slicesContains_ev (grd L p) x (by omega)), Ev.ite_iff]
  by_cases c : (x : Int) ∈ grd L p
  ·have hc : hasG L p (x : Int) = true := decide_eq_true c
   rw [if_pos (by simpa using c), if_pos hc]
   exact ih b m
  ·have hc : hasG L p (x : Int) = false := decide_eq_false c
   rw [if_neg (by simpa using c), if_neg (by rw [hc];decide), valAnswers_eq G all hp]
   simp only [Option.bind_some]
   have hin : ∀ j ∈ ansG es n all L p (x : Int), j < L.length := ansG_in
   have hal : (ansG es n all L p (x : Int)).length ≤ 256 := Nat.le_trans ansG_len hm
   generalize ansG es n all L p (x : Int) = S at hin hal ⊢
   have H2 := down S.length (fun i => ∀ lf, leftG T lf (S.drop i) = leftG T (-1) S → Ev (fun k => impl_WorstAttack.l1 k (grd L p) (rowF L.length T) (p : Int) b m (x : Int) lf (n : Int) (x : Int) (nI S) ((nI S).length : Int) i q L (gamG es n all L L.length)) (if b < 0 ∨ leftG T (-1) S < m then worstI es n all L T p ((List.range n).drop (x + 1)) (x : Int) (leftG T (-1) S) else worstI es n all L T p ((List.range n).drop (x + 1)) b m, true)) ?_ ?_ 0 (by omega) (-1) rfl
   ·exact H2
   ·intro lf hlf
    rw [List.drop_length] at hlf
    have hlf' : lf = leftG T (-1) S := hlf
    rw [Ev.iff_succ]
    simp only [impl_WorstAttack.l1, nI_len, Int.lt_irrefl, ↓reduceIte, w64_succ x (show x < 9223372036854775807 by omega), Ev.ite_iff]
    rw [← hlf']
    by_cases c1 : b < 0
    ·rw [if_pos c1, if_pos (.inl c1)];exact ih _ _
    ·rw [if_neg c1]
     by_cases c2 : lf < m
     ·rw [if_pos c2, if_pos (.inr c2)];exact ih _ _
     ·rw [if_neg c2, if_neg (by omega)];exact ih _ _
   ·intro i hi ih2 lf hlf
    rw [List.drop_eq_getElem_cons hi] at hlf
    have hj := hin S[i] (List.getElem_mem hi)
    have g1 : (i : Int) < ((nI S).length : Int) := by rw [nI_len];omega
    have g2 : (0 : Int) ≤ (i : Int) := by omega
    have g3 : ((S[i] : Nat) : Int) < ((rowF L.length T).length : Int) := by rw [rowF_len];omega
    have g4 : (0 : Int) ≤ ((S[i] : Nat) : Int) := by omega
    rw [Ev.iff_succ]
    simp only [impl_WorstAttack.l1, g1, g2, g3, g4, ↓reduceIte, rd_nI S i hi, rowF_rd hj, endless_eq, Option.bind_some, w64_succ i (show i < 9223372036854775807 by omega)]
    exact ih2 _ hlf

theorem implWorstAttack_ev (n : Int) (es : List S78) (l : List Int) (b : Bool) (hl : l.length ≤ 9223372036854775807) : Ev (fun k => impl_WorstAttack.f k n es l b) (worstAttackR n es l b) := by
 unfold impl_WorstAttack.f worstAttackR
 rw [Ev.bind_iff (isSet_ev n es l hl), Ev.ite_iff]
 by_cases h2 : setB n es l = true
 ·rw [if_pos h2]
  obtain ⟨N, m, rfl, hN, hg, _, _, hlb, _⟩ := setB_use h2
  have hlen := bl_len8 hN hlb
  have G := gsL_gm (es := es) hN l.length
  have hm := G.len
  obtain ⟨p1, p2⟩ := plcG_use hlb
  rw [netOf_eq hg]
  simp only [Option.bind_some]
  rw [Ev.bind_iff (guardGame_ev hN hlen b), Ev.bind_iff (valResist_ev G b), Ev.bind_iff (valPlace_ev hN hlb _ _)]
  rw [Ev.ite_iff, if_pos (by omega), Ev.ite_iff, if_pos (by rw [rowF_len];omega), rowF_rd p1, Ev.ite_iff]
  simp only [Int.toNat_natCast]
  by_cases c : 0 ≤ rsG es N b (gsL N l.length) (plcG N l)
  ·rw [if_neg (by omega), if_pos ⟨h2, c⟩]
   have hw := (worst_first (rsG_small G b) (List.range N) (worst_has c)).1
   have := implWorst_l0 G b (T := rsG es N b (gsL N l.length)) p1 (N : Int)
   rw [p2, hw] at this
   exact this
  ·rw [if_pos (by omega), if_neg (fun h => c h.2), Ev.now_iff]
 ·rw [if_neg h2, if_neg (fun h => h2 h.1), Ev.now_iff]

theorem FnExactWorstAttack_pure (n : Int) (es : List S78) (l : List Int) (b : Bool) (he : es.length ≤ 9223372036854775807) (hl : l.length ≤ 9223372036854775807) : Ev (fun k => laws_FnExactWorstAttack.f k n es l b) true := by
 unfold laws_FnExactWorstAttack.f
 rw [Ev.ite_iff]
 by_cases h1 : (l.length : Int) > 1048576
 ·rw [if_pos h1, Ev.now_iff]
 rw [if_neg h1]
 rw [szGraph_eq n es (by omega)]
 simp only [Option.bind_some, Ev.ite_iff]
 by_cases hs : es.length ≤ 1048576
 case neg => rw [if_neg hs, if_pos (by omega), Ev.now_iff]
 rw [if_pos hs, if_neg (by omega)]
 have hg := toGraph_ev n es (by omega)
 have hi := toIntS_ev l (by omega)
 have hS := specWorstAttack_ev n es l b (by omega) (by omega)
 have hI := implWorstAttack_ev n es l b (by omega)
 generalize worstAttackR n es l b = R at hS hI
 rw [Ev.bind_iff hg, Ev.bind_iff hi, Ev.bind_iff hS, Ev.bind_iff hg, Ev.bind_iff hi, Ev.bind_iff hI]
 simp only [bne_self_eq_false, Bool.false_eq_true, ↓reduceIte]
 rw [Ev.iff_succ]
 simp only [laws_FnExactWorstAttack.j0, Bool.false_eq_true, ↓reduceIte]
 rw [Ev.bind_iff hg, Ev.bind_iff (eqGraph_refl n es he)]
 simp only [↓reduceIte]
 rw [Ev.bind_iff hi, Ev.bind_iff (eqIntS_refl l hl)]
 simp only [↓reduceIte]
 rw [Ev.now_iff]

end Go.Proofs.YtgahlimikndecaaDoor.QWorstAttack
