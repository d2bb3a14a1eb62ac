import Derived.Test.YtgahlimikndecaaDoorQPlayAttacks0
import Derived.Test.YtgahlimikndecaaDoorQPlayAttacks12
import Derived.Test.YtgahlimikndecaaDoorQPlayAttacks13
import Derived.Test.YtgahlimikndecaaDoorQPlayAttacksA1
namespace Go.Proofs.YtgahlimikndecaaDoor.QPlayAttacks
open Go.RowKit Go.Proofs.YtgahlimikndecaaDoorW.PrintWords Go.Proofs.YtgahlimikndecaaDoorW.PrintLast Go.Proofs.YtgahlimikndecaaDoorW.PrintMore
attribute [local go_sem] max2_int min2_int max_two min_two max_three min_three max_four min_four   -- for this text's walks alone
set_option linter.unusedVariables false
set_option linter.unusedSimpArgs false
set_option maxRecDepth 100000
set_option maxHeartbeats 8000000
theorem implPlay_l0 {es : List S78} {n : Nat} {L : List (List Int)} (G : Gm es n L) (all : Bool) {T : Nat → Int} (hT : ∀ j, T j ≤ 1000) (m : List Int) (hm : m.length ≤ 30) {p : Nat} (hp : p < L.length) (q0 : Int) : Ev (fun k => impl_PlayAttacks.l0 k (rowF L.length T) [] (p : Int) m (m.length : Int) 0 (n : Int) es q0 L (gamG es n all L L.length)) (playG es n all L T p m, true) := by
 have hn := G.hn
 have H := down m.length (fun i => ∀ (acc : List (List Int)) (p : Nat), acc.length ≤ i → p < L.length → Ev (fun k => impl_PlayAttacks.l0 k (rowF L.length T) acc (p : Int) m (m.length : Int) i (n : Int) es q0 L (gamG es n all L L.length)) (acc ++ playG es n all L T p (m.drop i), true)) ?_ ?_ 0 (by omega) [] p (by simp) hp
 ·rw [List.drop_zero, List.nil_append] at H;exact H
 ·intro acc p _ _
  rw [Ev.iff_succ]
  simp only [impl_PlayAttacks.l0, Int.lt_irrefl, ↓reduceIte, Ev.now_iff, List.drop_length, playG, List.append_nil]
 ·intro i hi ih acc p hacc hp
  have g1 : (i : Int) < (m.length : Int) := by omega
  have g2 : (0 : Int) ≤ (i : Int) := by omega
  have g3 : (0 : Int) ≤ (p : Int) := by omega
  have g4 : (p : Int) < (L.length : Int) := by omega
  have g6 : acc.length < 5864062014805 := by omega
  have hs := gm_short G hp
  have hw : wrap64 ((n : Int) - 1) = (n : Int) - 1 := by rw [w64] <;> omega
  rw [Ev.iff_succ, List.drop_eq_getElem_cons hi]
  unfold playG
  have e1 := rd_lt m i hi
  generalize m[i] = a at e1 ⊢
  simp only [impl_PlayAttacks.l0, g1, g2, ↓reduceIte, e1, within_eq, Option.bind_some, hw, Ev.ite_iff, decide_eq_true_eq, rdL2_nat, w64_succ i (show i < 9223372036854775807 by omega)]
  by_cases c : 0 ≤ a ∧ a ≤ (n : Int) - 1
  case neg => rw [if_neg c, if_neg (by omega), List.append_nil, Ev.now_iff]
  rw [if_pos c, if_pos (by omega : 0 ≤ a ∧ a < (n : Int)), if_pos g3, if_pos g4, Ev.bind_iff (slicesContains_ev (grd L p) a (by omega)), Ev.ite_iff]
  by_cases cc : a ∈ grd L p
  ·have hc : hasG L p a = true := decide_eq_true cc
   rw [if_pos (by simpa using cc), if_pos hc, cloneI_eq (show (grd L p).length < 17592186044416 by omega)]
   simp only [Option.bind_some, g6, ↓reduceIte]
   have := ih (acc ++ [grd L p]) p (by rw [List.length_append, List.length_singleton];omega) hp
   rw [List.append_assoc] at this
   exact this
  ·have hc : hasG L p a = false := decide_eq_false cc
   rw [if_neg (by simpa using cc), if_neg (by rw [hc];decide), Ev.bind_iff (valBest_ev G all hT hp a q0)]
   cases hq : bstG T none (ansG es n all L p a) with
   | none =>
    have e : optI none < 0 := by decide
    simp only [e, ↓reduceIte, List.append_nil]
    exact Ev.now _
   | some q =>
    have hql : q < L.length := by
     rcases bstG_in _ _ _ hq with h | h
     ·cases h
     ·exact ansG_in q h
    have hsq := gm_short G hql
    have e1 : ¬ ((q : Int) < 0) := by omega
    have e2 : (0 : Int) ≤ (q : Int) := by omega
    have e3 : (q : Int) < (L.length : Int) := by omega
    simp only [optI, e1, e2, e3, ↓reduceIte, rdL2_nat, cloneI_eq (show (grd L q).length < 17592186044416 by omega), Option.bind_some, g6]
    have := ih (acc ++ [grd L q]) q (by rw [List.length_append, List.length_singleton];omega) hql
    rw [List.append_assoc] at this
    exact this

theorem implPlayAttacks_ev (n : Int) (es : List S78) (l m : List Int) (b : Bool) (hl : l.length ≤ 9223372036854775807) (_ : m.length ≤ 9223372036854775807) : Ev (fun k => impl_PlayAttacks.f k n es l m b) (playAttacksR n es l m b) := by
 unfold impl_PlayAttacks.f playAttacksR
 have no : Ev (fun k => impl_PlayAttacks.j0 k l m b true n es) ([], false) := by
  rw [Ev.iff_succ];simp only [impl_PlayAttacks.j0, ↓reduceIte];exact Ev.now _
 rw [Ev.bind_iff (isSet_ev n es l hl), Ev.ite_iff]
 by_cases h2 : setB n es l = true
 case neg => rw [if_neg h2, if_neg (fun h => h2 h.1)];exact no
 rw [if_pos h2]
 by_cases h3 : m.length ≤ 30
 case neg => rw [decide_eq_true (by omega), if_neg (fun h => h3 h.2)];exact no
 rw [decide_eq_false (by omega), if_pos ⟨h2, h3⟩, Ev.iff_succ]
 obtain ⟨N, q, rfl, hN, hg, _, _, hlb, _⟩ := setB_use h2
 have hlen := bl_len8 hN hlb
 have G := gsL_gm (es := es) hN l.length
 obtain ⟨p1, p2⟩ := plcG_use hlb
 simp only [impl_PlayAttacks.j0, Bool.false_eq_true, ↓reduceIte, netOf_eq hg, Option.bind_some, Int.toNat_natCast]
 rw [Ev.bind_iff (guardGame_ev hN hlen b), Ev.bind_iff (valResist_ev G b), Ev.bind_iff (valPlace_ev hN hlb _ _)]
 exact implPlay_l0 G b (rsG_small G b) m h3 p1 _

theorem FnExactPlayAttacks_pure (n : Int) (es : List S78) (l0 : List Int) (l1 : List Int) (b : Bool) (he : es.length ≤ 9223372036854775807) (hl0 : l0.length ≤ 9223372036854775807) (hl1 : l1.length ≤ 9223372036854775807) : Ev (fun k => laws_FnExactPlayAttacks.f k n es l0 l1 b) true := by
 unfold laws_FnExactPlayAttacks.f
 rw [Ev.ite_iff]
 by_cases h10 : (l0.length : Int) > 1048576
 ·rw [if_pos h10, Ev.now_iff]
 rw [if_neg h10]
 rw [Ev.ite_iff]
 by_cases h11 : (l1.length : Int) > 1048576
 ·rw [if_pos h11, Ev.now_iff]
 rw [if_neg h11]
 rw [szGraph_eq n es (by omega)]
 simp only [Option.bind_some, Ev.ite_iff]
 by_cases hs : es.length ≤ 1048576
 case neg => rw [if_neg hs, if_pos (by omega), Ev.now_iff]
 rw [if_pos hs, if_neg (by omega)]
 have hg := toGraph_ev n es (by omega)
 have hi0 := toIntS_ev l0 (by omega)
 have hi1 := toIntS_ev l1 (by omega)
 obtain ⟨hR1, hR2, hR3⟩ := playAttacksR_len n es l0 l1 b
 have hS := specPlayAttacks_ev n es l0 l1 b (by omega) (by omega) (by omega)
 have hI := implPlayAttacks_ev n es l0 l1 b (by omega) (by omega)
 generalize playAttacksR n es l0 l1 b = R at hR1 hR2 hR3 hS hI
 rw [Ev.bind_iff hg, Ev.bind_iff hi0, Ev.bind_iff hi1, Ev.bind_iff hS, Ev.bind_iff hg, Ev.bind_iff hi0, Ev.bind_iff hi1, Ev.bind_iff hI]
 have hq := eqIntSS_refl R.1 (by omega) (fun r hr => by have := hR2 r hr;omega)
 rw [Ev.bind_iff hq]
 simp only [bne_self_eq_false, Bool.false_eq_true, ↓reduceIte]
 rw [Ev.iff_succ]
 simp only [laws_FnExactPlayAttacks.j0, Bool.false_eq_true, ↓reduceIte]
 rw [Ev.bind_iff hg, Ev.bind_iff (eqGraph_refl n es he)]
 simp only [↓reduceIte]
 rw [Ev.bind_iff hi0, Ev.bind_iff (eqIntS_refl l0 hl0)]
 simp only [↓reduceIte]
 rw [Ev.bind_iff hi1, Ev.bind_iff (eqIntS_refl l1 hl1)]
 simp only [↓reduceIte]
 obtain ⟨rm, hm⟩ := markGraph_eq n es 1 (by omega) (by omega)
 rw [hm]
 simp only [Option.bind_some]
 rw [Ev.bind_iff (markIntS_ev l0 (1 + 2 * (es.length : Int)) (by omega) (by omega))]
 simp only []
 rw [Ev.bind_iff (markIntS_ev l1 ((1 + 2 * (es.length : Int)) + (l0.length : Int)) (by omega) (by omega))]
 simp only []
 rw [Ev.ite_iff, if_neg (by omega), Ev.bind_iff hq]
 simp only [bne_self_eq_false, ↓reduceIte]
 rw [Ev.iff_succ]
 simp only [laws_FnExactPlayAttacks.j1, Bool.false_eq_true, ↓reduceIte]
 rw [Ev.bind_iff (markIntSS_ev R.1 1 (by omega) (by omega) (by omega))]
 simp only []
 rw [Ev.bind_iff (heldIntSS_ev 1 (R.1.map List.length) (by omega) (by rw [List.length_map];omega) (by omega)), Ev.ite_iff, if_neg (by omega)]
 simp only [↓reduceIte]
 rw [Ev.bind_iff hg, Ev.bind_iff hi0, Ev.bind_iff hi1, Ev.bind_iff hI, Ev.bind_iff hq]
 simp only [bne_self_eq_false, ↓reduceIte]
 rw [Ev.iff_succ]
 simp only [laws_FnExactPlayAttacks.j2, Bool.false_eq_true, ↓reduceIte]
 rw [Ev.bind_iff (heldIntSS_ev 1 (R.1.map List.length) (by omega) (by rw [List.length_map];omega) (by omega)), Ev.ite_iff, if_neg (by omega)]
 simp only [↓reduceIte, Ev.now_iff]

end Go.Proofs.YtgahlimikndecaaDoor.QPlayAttacks
