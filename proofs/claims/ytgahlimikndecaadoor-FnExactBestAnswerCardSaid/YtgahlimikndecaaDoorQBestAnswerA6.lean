import Derived.Test.YtgahlimikndecaaDoorQBestAnswer0
import Derived.Test.YtgahlimikndecaaDoorQBestAnswer10
import Derived.Test.YtgahlimikndecaaDoorQBestAnswer4
import Derived.Test.YtgahlimikndecaaDoorQBestAnswer5
import Derived.Test.YtgahlimikndecaaDoorQBestAnswer9
import Derived.Test.YtgahlimikndecaaDoorQBestAnswerA5
namespace Go.Proofs.YtgahlimikndecaaDoor.QBestAnswer
open Go.RowKit Go.Proofs.YtgahlimikndecaaDoorW.PrintWords Go.Proofs.YtgahlimikndecaaDoorW.PrintLast Go.Proofs.YtgahlimikndecaaDoorW.PrintMore
attribute [local go_sem] max2_int min2_int max_two min_two max_three min_three max_four min_four   -- for this text's walks alone
set_option linter.unusedVariables false
set_option linter.unusedSimpArgs false
set_option maxRecDepth 100000
set_option maxHeartbeats 8000000
theorem atkB_use {n : Int} {es : List S78} {l : List Int} {a : Int} (h : atkB n es l a = true) : ∃ N m x : Nat, n = N ∧ N ≤ 8 ∧ okG N es = true ∧ l = bl N m ∧ a = x ∧ x < N ∧ a ∉ l := by
 unfold atkB at h
 simp only [Bool.and_eq_true, Bool.not_eq_true', decide_eq_false_iff_not, decide_eq_true_eq] at h
 obtain ⟨h1, ⟨h2, h3⟩, h4⟩ := h
 obtain ⟨N, m, rfl, hN, hg, _, _, hl, _⟩ := setB_use h1
 have : wrap64 ((N : Int) - 1) = (N : Int) - 1 := by rw [w64] <;> omega
 rw [this] at h3
 exact ⟨N, m, a.toNat, rfl, hN, hg, hl, by omega, by omega, h4⟩

theorem bl_len8 {n m : Nat} {l : List Int} (hn : n ≤ 8) (h : l = bl n m) : l.length ≤ n := by rw [h]; exact bl_len_le n m

theorem rndG_le (es : List S78) (n : Nat) (all : Bool) (L : List (List Int)) : ∀ (d t : Nat) (T : Nat → Int), (∀ i, T i ≤ t) → ∀ i, rndG es n all L d t T i ≤ ((t + d : Nat) : Int)
 | 0, t, _, h, i => h i
 | d + 1, t, T, h, i => by
  unfold rndG
  split
  ·have := rndG_le es n all L d (t + 1) (nxtG es n all L T t) (fun j => by
    unfold nxtG
    have := h j
    split <;> omega) i
   omega
  ·have := h i;omega

theorem rsG_le (es : List S78) (n : Nat) (all : Bool) (L : List (List Int)) (i : Nat) : rsG es n all L i ≤ (L.length : Int) := by
 have := rndG_le es n all L L.length 0 (fun _ => -1) (fun _ => by omega) i
 unfold rsG
 omega

def bstG (T : Nat → Int) : Option Nat → List Nat → Option Nat
 | b, [] => b
 | none, j :: l => bstG T (some j) l
 | some c, j :: l => bstG T (if 0 ≤ T c ∧ (T j < 0 ∨ T c < T j) then some j else some c) l

def optI : Option Nat → Int
 | none => -1
 | some j => (j : Int)

theorem bstG_in {T : Nat → Int} : ∀ (l : List Nat) (b : Option Nat) (c : Nat), bstG T b l = some c → b = some c ∨ c ∈ l
 | [], b, c, h => by cases b <;> exact .inl h
 | j :: l, none, c, h => by
  rcases bstG_in l (some j) c h with h | h
  ·exact .inr (by rw [Option.some.inj h];simp)
  ·exact .inr (List.mem_cons_of_mem _ h)
 | j :: l, some q, c, h => by
  unfold bstG at h
  rcases bstG_in l _ c h with h | h
  ·split at h
   ·exact .inr (by rw [Option.some.inj h];simp)
   ·exact .inl h
  ·exact .inr (List.mem_cons_of_mem _ h)

def endlessI (r : Int) : Int := if r < 0 then 1000000 else r

theorem endless_gt {a b : Int} (ha : a ≤ 1000) (hb : b ≤ 1000) : (endlessI a > endlessI b) ↔ (0 ≤ b ∧ (a < 0 ∨ b < a)) := by
 unfold endlessI
 split <;> split <;> omega

theorem l10Best_l0 {m : Nat} {T : Nat → Int} {l : List Nat} (hm : m ≤ 256) (hl : l.length ≤ 256) (h : ∀ j ∈ l, j < m) : Ev (fun k => spec_l10Best.l0 k (rowF m T) (-1) (nI l) 0) (optI (bstG T none l)) := by
 have H := down l.length (fun i => ∀ b, (∀ c, b = some c → c < m) → Ev (fun k => spec_l10Best.l0 k (rowF m T) (optI b) (nI l) i) (optI (bstG T b (l.drop i)))) ?_ ?_ 0 (by omega) none (fun _ h => by cases h)
 ·rw [List.drop_zero] at H
  exact H
 ·intro b _
  rw [Ev.iff_succ]
  simp only [spec_l10Best.l0, nI_len, Int.lt_irrefl, ↓reduceIte, Ev.now_iff, List.drop_length]
  cases b <;> rfl
 ·intro i hi ih b hb
  have hj := h l[i] (List.getElem_mem hi)
  have h1 : (i : Int) < ((nI l).length : Int) := by rw [nI_len];omega
  have h2 : (0 : Int) ≤ (i : Int) := by omega
  have h3 : ((l[i] : Nat) : Int) < ((rowF m T).length : Int) := by rw [rowF_len];omega
  have h4 : (0 : Int) ≤ ((l[i] : Nat) : Int) := by omega
  rw [Ev.iff_succ, List.drop_eq_getElem_cons hi]
  cases b with
  | none =>
   have g1 : optI none < 0 := by decide
   simp only [spec_l10Best.l0, h1, h2, g1, ↓reduceIte, rd_nI l i hi, w64_succ i (show i < 9223372036854775807 by omega)]
   exact ih (some l[i]) (fun c hc => by rw [← Option.some.inj hc];exact hj)
  | some c =>
   have hc := hb c rfl
   have g1 : ¬ (optI (some c) < 0) := by show ¬ ((c : Int) < 0);omega
   have g2 : (0 : Int) ≤ optI (some c) := by show (0 : Int) ≤ (c : Int);omega
   have g3 : optI (some c) < ((rowF m T).length : Int) := by rw [rowF_len];show (c : Int) < m;omega
   have g4 : rd (rowF m T) (optI (some c)) = T c := rowF_rd hc
   unfold bstG
   have take := ih (some l[i]) (fun c hc => by rw [← Option.some.inj hc];exact hj)
   have keep := ih (some c) hb
   simp only [spec_l10Best.l0, Ev.ite_iff, h1, h2, h3, h4, g1, g2, g3, g4, ↓reduceIte, rd_nI l i hi, rowF_rd hj, w64_succ i (show i < 9223372036854775807 by omega)]
   by_cases c1 : T c ≥ 0
   ·rw [if_pos c1]
    by_cases c2 : T l[i] < 0
    ·rw [if_pos c2, if_pos ⟨c1, .inl c2⟩];exact take
    ·rw [if_neg c2]
     by_cases c3 : T l[i] > T c
     ·rw [if_pos c3, if_pos ⟨c1, .inr c3⟩];exact take
     ·rw [if_neg c3, if_neg (by omega)];exact keep
   ·rw [if_neg c1, if_neg (by omega)];exact keep

theorem l10Best_ev {es : List S78} {n : Nat} {L : List (List Int)} (G : Gm es n L) (all : Bool) (T : Nat → Int) {p x : Nat} (hp : p < L.length) (hx : x < n) (hc : hasG L p (x : Int) = false) : Ev (fun k => spec_l10Best.f k (tblG es n all L L.length) (rowF L.length T) (p : Int) (x : Int)) (optI (bstG T none (ansG es n all L p (x : Int)))) := by
 have hm := G.len
 unfold spec_l10Best.f
 rw [Ev.ite_iff, if_pos (by omega), Ev.ite_iff, if_pos (by rw [tblG_len];omega), Ev.ite_iff, if_pos (by omega), tblG_rd hp, Ev.ite_iff, if_pos (by rw [tblRow_len];omega), tblRow_rd hx hc]
 exact l10Best_l0 hm (Nat.le_trans ansG_len hm) ansG_in

theorem endless_eq (r : Int) : impl_endless.f r = some (endlessI r) := by
 unfold impl_endless.f endlessI
 split <;> rfl

theorem bestAnswer_l0 {m : Nat} {T : Nat → Int} {l : List Nat} (hm : m ≤ 256) (hT : ∀ j, T j ≤ 1000) (hl : l.length ≤ 256) (h : ∀ j ∈ l, j < m) (q : Int) (s t : List (List Int)) : Ev (fun k => impl_guardGame_bestAnswer.l0 k (rowF m T) (-1) (nI l) ((nI l).length : Int) 0 q s t) (optI (bstG T none l), q) := by
 have H := down l.length (fun i => ∀ b, (∀ c, b = some c → c < m) → Ev (fun k => impl_guardGame_bestAnswer.l0 k (rowF m T) (optI b) (nI l) ((nI l).length : Int) i q s t) (optI (bstG T b (l.drop i)), q)) ?_ ?_ 0 (by omega) none (fun _ h => by cases h)
 ·rw [List.drop_zero] at H
  exact H
 ·intro b _
  rw [Ev.iff_succ]
  simp only [impl_guardGame_bestAnswer.l0, nI_len, Int.lt_irrefl, ↓reduceIte, Ev.now_iff, List.drop_length]
  cases b <;> rfl
 ·intro i hi ih b hb
  have hj := h l[i] (List.getElem_mem hi)
  have h1 : (i : Int) < ((nI l).length : Int) := by rw [nI_len];omega
  have h2 : (0 : Int) ≤ (i : Int) := by omega
  have h3 : ((l[i] : Nat) : Int) < ((rowF m T).length : Int) := by rw [rowF_len];omega
  have h4 : (0 : Int) ≤ ((l[i] : Nat) : Int) := by omega
  rw [Ev.iff_succ, List.drop_eq_getElem_cons hi]
  cases b with
  | none =>
   have g1 : optI none < 0 := by decide
   simp only [impl_guardGame_bestAnswer.l0, h1, h2, g1, ↓reduceIte, rd_nI l i hi, w64_succ i (show i < 9223372036854775807 by omega)]
   exact ih (some l[i]) (fun c hc => by rw [← Option.some.inj hc];exact hj)
  | some c =>
   have hc := hb c rfl
   have g1 : ¬ (optI (some c) < 0) := by show ¬ ((c : Int) < 0);omega
   have g2 : (0 : Int) ≤ optI (some c) := by show (0 : Int) ≤ (c : Int);omega
   have g3 : optI (some c) < ((rowF m T).length : Int) := by rw [rowF_len];show (c : Int) < m;omega
   have g4 : rd (rowF m T) (optI (some c)) = T c := rowF_rd hc
   unfold bstG
   have take := ih (some l[i]) (fun c hc => by rw [← Option.some.inj hc];exact hj)
   have keep := ih (some c) hb
   have hg := endless_gt (hT l[i]) (hT c)
   simp only [impl_guardGame_bestAnswer.l0, Ev.ite_iff, h1, h2, h3, h4, g1, g2, g3, g4, ↓reduceIte, rd_nI l i hi, rowF_rd hj, endless_eq, Option.bind_some, w64_succ i (show i < 9223372036854775807 by omega)]
   by_cases c1 : endlessI (T l[i]) > endlessI (T c)
   ·rw [if_pos c1, if_pos (hg.1 c1)];exact take
   ·rw [if_neg c1, if_neg (fun h => c1 (hg.2 h))];exact keep

theorem valBest_ev {es : List S78} {n : Nat} {L : List (List Int)} (G : Gm es n L) (all : Bool) {T : Nat → Int} (hT : ∀ j, T j ≤ 1000) {p : Nat} (hp : p < L.length) (x q : Int) : Ev (fun k => impl_valBest.f k q L (gamG es n all L L.length) (rowF L.length T) (p : Int) x) (optI (bstG T none (ansG es n all L p x))) := by
 have hm := G.len
 unfold impl_valBest.f impl_guardGame_bestAnswer.f
 simp only [answers_eq G all hp, Option.bind_some]
 rw [Ev.bind_iff (bestAnswer_l0 hm hT (Nat.le_trans ansG_len hm) ansG_in q L _), Ev.now_iff]

theorem valResist_ev {es : List S78} {n : Nat} {L : List (List Int)} (G : Gm es n L) (all : Bool) : Ev (fun k => impl_valResist.f k (n : Int) L (gamG es n all L L.length)) (rowF L.length (rsG es n all L)) := by
 unfold impl_valResist.f
 rw [Ev.bind_iff (resist_ev G all), Ev.now_iff]

theorem rsG_small {es : List S78} {n : Nat} {L : List (List Int)} (G : Gm es n L) (all : Bool) (j : Nat) : rsG es n all L j ≤ 1000 := by
 have := rsG_le es n all L j
 have := G.len
 omega

def bestAnswerR (n : Int) (es : List S78) (l : List Int) (a : Int) (b : Bool) : List Int × Bool := if atkB n es l a = true then (match bstG (rsG es n.toNat b (gsL n.toNat l.length)) none (ansG es n.toNat b (gsL n.toNat l.length) (plcG n.toNat l) a) with
  | none => ([], false)
  | some j => (grd (gsL n.toNat l.length) j, true)) else ([], false)

theorem bestAnswerR_len (n : Int) (es : List S78) (l : List Int) (a : Int) (b : Bool) : (bestAnswerR n es l a b).1.length ≤ 1048576 := by
 unfold bestAnswerR
 split
 ·rename_i h
  obtain ⟨N, m, x, rfl, hN, hg, hl, rfl, hx, hno⟩ := atkB_use h
  have G := gsL_gm (es := es) hN l.length
  simp only [Int.toNat_natCast]
  split
  ·simp
  ·rename_i j hj
   rcases bstG_in _ _ _ hj with h | h
   ·cases h
   ·have := gm_short G (ansG_in j h)
    show (grd _ j).length ≤ _
    omega
 ·simp

theorem specBestAnswer_ev (n : Int) (es : List S78) (l : List Int) (a : Int) (b : Bool) (hl : l.length ≤ 9223372036854775807) (_ : (Lit.int .i64 a).wf = true) (he : es.length ≤ 9223372036854775807) : Ev (fun k => spec_BestAnswer.f k n es l a b) (bestAnswerR n es l a b) := by
 unfold spec_BestAnswer.f bestAnswerR
 have no : Ev (fun k => spec_BestAnswer.j0 k l a b true n es) ([], false) := by
  rw [Ev.iff_succ];simp only [spec_BestAnswer.j0, ↓reduceIte];exact Ev.now _
 rw [l2Good_eq]
 simp only [Option.bind_some, Ev.ite_iff, spec_l2Node.f, l1In_eq, decide_eq_true_eq]
 by_cases h1 : okG n es = true
 case neg => rw [if_neg h1, if_neg (by simp [atkB, setB, h1])];exact no
 rw [if_pos h1, Ev.bind_iff (l2Set_ev n es l hl), Ev.ite_iff]
 by_cases h2 : setB n es l = true
 case neg =>
  have h2' : ¬ (allIn 0 (wrap64 (n - 1)) l && ascB none l) = true := by simpa only [setB, h1, Bool.true_and] using h2
  rw [if_neg h2', if_neg (by simp [atkB, h2])];exact no
 have h2' := h2
 simp only [setB, h1, Bool.true_and] at h2'
 rw [if_pos h2', Ev.ite_iff]
 by_cases h3 : 0 ≤ a ∧ a ≤ wrap64 (n - 1)
 case neg => rw [if_neg h3, if_neg (by simp [atkB, h3])];exact no
 rw [if_pos h3, Ev.bind_iff (l1Has_ev l a hl)]
 by_cases h4 : a ∈ l
 ·rw [decide_eq_true h4, if_neg (by simp [atkB, h4])];exact no
 ·have hA : atkB n es l a = true := by simp [atkB, h2, h3, h4]
  rw [decide_eq_false h4, if_pos hA, Ev.iff_succ]
  obtain ⟨N, m, x, rfl, hN, hg, hlb, rfl, hx, hno⟩ := atkB_use hA
  have hlen := bl_len8 hN hlb
  have G := gsL_gm (es := es) hN l.length
  obtain ⟨p1, p2⟩ := plcG_use hlb
  have hc : hasG (gsL N l.length) (plcG N l) (x : Int) = false := by unfold hasG;rw [p2];exact decide_eq_false hno
  simp only [spec_BestAnswer.j0, Bool.false_eq_true, ↓reduceIte]
  rw [Ev.bind_iff (specGuardSets2_ev hN hlen), Ev.bind_iff (l10Table_ev G he b), Ev.bind_iff (l10Resist_ev G b), Ev.bind_iff (l4At_ev hN hlb), Ev.bind_iff (l10Best_ev G b _ p1 hx hc)]
  simp only [Int.toNat_natCast]
  rw [show rndG es N b (gsL N l.length) (gsL N l.length).length 0 (fun _ => -1) = rsG es N b (gsL N l.length) from rfl]
  cases hj : bstG (rsG es N b (gsL N l.length)) none (ansG es N b (gsL N l.length) (plcG N l) (x : Int)) with
  | none => rw [Ev.ite_iff, if_pos (by decide), Ev.now_iff]
  | some j =>
   have hjl : j < (gsL N l.length).length := by
    rcases bstG_in _ _ _ hj with h | h
    ·cases h
    ·exact ansG_in j h
   have hs := gm_short G hjl
   have e1 : ¬ ((j : Int) < 0) := by omega
   have e2 : (0 : Int) ≤ (j : Int) := by omega
   have e3 : (j : Int) < ((gsL N l.length).length : Int) := by omega
   simp only [optI, e1, e2, e3, ↓reduceIte, rdL2_nat, l1Own_eq (show (grd (gsL N l.length) j).length < 17592186044416 by omega), Option.bind_some]
   exact Ev.now _

theorem implBestAnswer_ev (n : Int) (es : List S78) (l : List Int) (a : Int) (b : Bool) (hl : l.length ≤ 9223372036854775807) (_ : (Lit.int .i64 a).wf = true) : Ev (fun k => impl_BestAnswer.f k n es l a b) (bestAnswerR n es l a b) := by
 unfold impl_BestAnswer.f bestAnswerR
 rw [Ev.bind_iff (isAttack_ev n es l a hl), Ev.ite_iff]
 by_cases hA : atkB n es l a = true
 ·rw [if_pos hA, if_pos hA]
  obtain ⟨N, m, x, rfl, hN, hg, hlb, rfl, hx, hno⟩ := atkB_use hA
  have hlen := bl_len8 hN hlb
  have G := gsL_gm (es := es) hN l.length
  obtain ⟨p1, p2⟩ := plcG_use hlb
  rw [netOf_eq hg]
  simp only [Option.bind_some]
  rw [Ev.bind_iff (guardGame_ev hN hlen b), Ev.bind_iff (valResist_ev G b), Ev.bind_iff (valPlace_ev hN hlb _ _), Ev.bind_iff (valBest_ev G b (rsG_small G b) p1 _ _)]
  simp only [Int.toNat_natCast]
  cases hj : bstG (rsG es N b (gsL N l.length)) none (ansG es N b (gsL N l.length) (plcG N l) (x : Int)) with
  | none => rw [Ev.ite_iff, if_pos (by decide), Ev.now_iff]
  | some j =>
   have hjl : j < (gsL N l.length).length := by
    rcases bstG_in _ _ _ hj with h | h
    ·cases h
    ·exact ansG_in j h
   have hs := gm_short G hjl
   have e1 : ¬ ((j : Int) < 0) := by omega
   have e2 : (0 : Int) ≤ (j : Int) := by omega
   have e3 : (j : Int) < ((gsL N l.length).length : Int) := by omega
   simp only [optI, e1, e2, e3, ↓reduceIte, rdL2_nat, cloneI_eq (show (grd (gsL N l.length) j).length < 17592186044416 by omega), Option.bind_some]
   exact Ev.now _
 ·rw [if_neg hA, if_neg hA, Ev.now_iff]

theorem FnExactBestAnswer_pure (n : Int) (es : List S78) (l : List Int) (a : Int) (b : Bool) (he : es.length ≤ 9223372036854775807) (hl : l.length ≤ 9223372036854775807) (ha : (Lit.int .i64 a).wf = true) : Ev (fun k => laws_FnExactBestAnswer.f k n es l a b) true := by
 unfold laws_FnExactBestAnswer.f
 rw [Ev.ite_iff]
 by_cases h1 : (l.length : Int) > 1048576
 ·rw [if_pos h1, Ev.now_iff]
 rw [if_neg h1]
 rw [szGraph_eq n es (by omega)]
 simp only [Option.bind_some, Ev.ite_iff]
 by_cases hs : es.length ≤ 1048576
 case neg => rw [if_neg hs, if_pos (by omega), Ev.now_iff]
 rw [if_pos hs, if_neg (by omega)]
 have hg := toGraph_ev n es (by omega)
 have hi := toIntS_ev l (by omega)
 have hq9 := bestAnswerR_len n es l a b
 have hS := specBestAnswer_ev n es l a b (by omega) ha (by omega)
 have hI := implBestAnswer_ev n es l a b (by omega) ha
 generalize bestAnswerR n es l a b = R at hq9 hS hI
 rw [Ev.bind_iff hg, Ev.bind_iff hi, Ev.bind_iff hS, Ev.bind_iff hg, Ev.bind_iff hi, Ev.bind_iff hI]
 rw [Ev.bind_iff (eqIntS_refl R.1 (by omega))]
 simp only [bne_self_eq_false, Bool.false_eq_true, ↓reduceIte]
 rw [Ev.iff_succ]
 simp only [laws_FnExactBestAnswer.j0, Bool.false_eq_true, ↓reduceIte]
 rw [Ev.bind_iff hg, Ev.bind_iff (eqGraph_refl n es he)]
 simp only [↓reduceIte]
 rw [Ev.bind_iff hi, Ev.bind_iff (eqIntS_refl l hl)]
 simp only [↓reduceIte]
 obtain ⟨rm, hm⟩ := markGraph_eq n es 1 (by omega) (by omega)
 rw [hm]
 simp only [Option.bind_some]
 rw [Ev.bind_iff (markIntS_ev l (1 + 2 * (es.length : Int)) (by omega) (by omega))]
 simp only []
 rw [Ev.ite_iff, if_neg (by omega), Ev.bind_iff (eqIntS_refl R.1 (by omega))]
 simp only [bne_self_eq_false, ↓reduceIte]
 rw [Ev.iff_succ]
 simp only [laws_FnExactBestAnswer.j1, Bool.false_eq_true, ↓reduceIte]
 rw [Ev.bind_iff (markIntS_ev R.1 1 (by omega) (by omega))]
 simp only []
 rw [Ev.bind_iff (heldIntS_ev 1 R.1.length (by omega) (by omega)), Ev.ite_iff, if_neg (by omega)]
 simp only [↓reduceIte]
 rw [Ev.bind_iff hg, Ev.bind_iff hi, Ev.bind_iff hI, Ev.bind_iff (eqIntS_refl R.1 (by omega))]
 simp only [bne_self_eq_false, ↓reduceIte]
 rw [Ev.iff_succ]
 simp only [laws_FnExactBestAnswer.j2, Bool.false_eq_true, ↓reduceIte]
 rw [Ev.bind_iff (heldIntS_ev 1 R.1.length (by omega) (by omega)), Ev.ite_iff, if_neg (by omega)]
 simp only [↓reduceIte, Ev.now_iff]

end Go.Proofs.YtgahlimikndecaaDoor.QBestAnswer
