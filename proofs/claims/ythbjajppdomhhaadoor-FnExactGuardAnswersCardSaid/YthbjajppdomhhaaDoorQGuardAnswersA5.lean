import Derived.Test.YthbjajppdomhhaaDoorQGuardAnswers0
import Derived.Test.YthbjajppdomhhaaDoorQGuardAnswers11
import Derived.Test.YthbjajppdomhhaaDoorQGuardAnswers18
import Derived.Test.YthbjajppdomhhaaDoorQGuardAnswers19
import Derived.Test.YthbjajppdomhhaaDoorQGuardAnswers20
import Derived.Test.YthbjajppdomhhaaDoorQGuardAnswers21
import Derived.Test.YthbjajppdomhhaaDoorQGuardAnswers3
import Derived.Test.YthbjajppdomhhaaDoorQGuardAnswersA4
namespace Go.Proofs.YthbjajppdomhhaaDoor.QGuardAnswers
open Go.RowKit Go.Proofs.YthbjajppdomhhaaDoorW.PrintWords Go.Proofs.YthbjajppdomhhaaDoorW.PrintLast Go.Proofs.YthbjajppdomhhaaDoorW.PrintMore
attribute [local go_sem] max2_int min2_int max_two min_two max_three min_three max_four min_four   -- for this text's walks alone
set_option linter.unusedVariables false
set_option linter.unusedSimpArgs false
theorem isAttack_ev (n : Int) (es : List S92) (l : List Int) (a : Int) (hl : l.length ≤ 9223372036854775807) : Ev (fun k => impl_isAttack.f k n es l a) (atkB n es l a) := by
 unfold impl_isAttack.f atkB
 rw [Ev.bind_iff (isSet_ev n es l hl), Ev.ite_iff]
 by_cases h : setB n es l = true
 ·rw [if_pos h, within_eq]
  simp only [Option.bind_some, Ev.ite_iff]
  by_cases h2 : 0 ≤ a ∧ a ≤ wrap64 (n - 1)
  ·rw [if_pos (decide_eq_true h2), Ev.bind_iff (slicesContains_ev l a hl), Ev.now_iff, h, decide_eq_true h2];rfl
  ·rw [if_neg (by simpa using h2), Ev.now_iff, decide_eq_false h2];simp
 ·rw [if_neg h, Ev.now_iff];simp [h]

theorem atkB_use {n : Int} {es : List S92} {l : List Int} {a : Int} (h : atkB n es l a = true) : ∃ N m x : Nat, n = N ∧ N ≤ 8 ∧ okG N es = true ∧ l = bl N m ∧ a = x ∧ x < N ∧ a ∉ l := by
 unfold atkB at h
 simp only [Bool.and_eq_true, Bool.not_eq_true', decide_eq_false_iff_not, decide_eq_true_eq] at h
 obtain ⟨h1, ⟨h2, h3⟩, h4⟩ := h
 obtain ⟨N, m, rfl, hN, hg, _, _, hl, _⟩ := setB_use h1
 have : wrap64 ((N : Int) - 1) = (N : Int) - 1 := by rw [w64] <;> omega
 rw [this] at h3
 exact ⟨N, m, a.toNat, rfl, hN, hg, hl, by omega, by omega, h4⟩

theorem bl_len8 {n m : Nat} {l : List Int} (hn : n ≤ 8) (h : l = bl n m) : l.length ≤ n := by rw [h]; exact bl_len_le n m

theorem valAnswers_eq {es : List S92} {n : Nat} {L : List (List Int)} (G : Gm es n L) (all : Bool) {i : Nat} (hi : i < L.length) (x q : Int) : impl_valAnswers.f q L (gamG es n all L L.length) i x = some (nI (ansG es n all L i x)) := by
 unfold impl_valAnswers.f
 rw [answers_eq G all hi]
 rfl

def guardAnswersR (n : Int) (es : List S92) (l : List Int) (a : Int) (b : Bool) : List (List Int) × Bool := if atkB n es l a = true then ((ansG es n.toNat b (gsL n.toNat l.length) (plcG n.toNat l) a).map (grd (gsL n.toNat l.length)), true) else ([], false)

theorem guardAnswersR_len (n : Int) (es : List S92) (l : List Int) (a : Int) (b : Bool) : (guardAnswersR n es l a b).1.length ≤ 1048576 ∧ (∀ r ∈ (guardAnswersR n es l a b).1, r.length ≤ 1048576) ∧ ((guardAnswersR n es l a b).1.map List.length).sum ≤ 1099511627776 := by
 unfold guardAnswersR
 split
 ·rename_i h
  obtain ⟨N, m, x, rfl, hN, hg, hl, rfl, hx, hno⟩ := atkB_use h
  have G := gsL_gm (es := es) hN l.length
  have hm := G.len
  have h1 := ansG_len (es := es) (n := N) (all := b) (L := gsL N l.length) (i := plcG N l) (x := (x : Int))
  have h3 : ∀ r ∈ (ansG es N b (gsL N l.length) (plcG N l) (x : Int)).map (grd (gsL N l.length)), r.length ≤ 8 := fun r hr => by
   obtain ⟨j, hj, rfl⟩ := List.mem_map.1 hr
   exact gm_short G (ansG_in j hj)
  have h4 := sum_le_mul _ 8 h3
  simp only [Int.toNat_natCast]
  rw [List.length_map] at h4 ⊢
  exact ⟨by omega, fun r hr => by have := h3 r hr;omega, by omega⟩
 ·simp

theorem specGuardAnswers_l0 {es : List S92} {n : Nat} {L : List (List Int)} (G : Gm es n L) (S : List Nat) (hS : ∀ j ∈ S, j < L.length) (hl : S.length ≤ 256) : Ev (fun k => spec_GuardAnswers.l0 k [] L (nI S) 0) (S.map (grd L), true) := by
 have H := down S.length (fun i => Ev (fun k => spec_GuardAnswers.l0 k ((S.take i).map (grd L)) L (nI S) i) (S.map (grd L), true)) ?_ ?_ 0 (by omega)
 ·simpa using H
 ·show Ev _ _
  rw [Ev.iff_succ]
  simp only [spec_GuardAnswers.l0, nI_len, Int.lt_irrefl, ↓reduceIte, Ev.now_iff, List.take_length]
 ·intro i hi ih
  show Ev _ _
  rw [Ev.iff_succ]
  have hj := hS S[i] (List.getElem_mem hi)
  have h1 : (i : Int) < ((nI S).length : Int) := by rw [nI_len];omega
  have h2 : (0 : Int) ≤ (i : Int) := by omega
  have h3 : ((S[i] : Nat) : Int) < (L.length : Int) := by omega
  have h4 : (0 : Int) ≤ ((S[i] : Nat) : Int) := by omega
  have h5 : ((S.take i).map (grd L)).length < 5864062014805 := by rw [List.length_map, List.length_take];omega
  rw [List.take_succ_eq_append_getElem hi, List.map_append, List.map_singleton] at ih
  simp only [spec_GuardAnswers.l0, h1, h2, h3, h4, h5, ↓reduceIte, rd_nI S i hi, rdL2_nat, w64_succ i (show i < 9223372036854775807 by omega)]
  exact ih

theorem specGuardAnswers_ev (n : Int) (es : List S92) (l : List Int) (a : Int) (b : Bool) (hl : l.length ≤ 9223372036854775807) (_ : (Lit.int .i64 a).wf = true) (he : es.length ≤ 9223372036854775807) : Ev (fun k => spec_GuardAnswers.f k n es l a b) (guardAnswersR n es l a b) := by
 unfold spec_GuardAnswers.f guardAnswersR
 have no : Ev (fun k => spec_GuardAnswers.j0 k l a b [] true n es) ([], false) := by
  rw [Ev.iff_succ];simp only [spec_GuardAnswers.j0, ↓reduceIte];exact Ev.now _
 rw [l2Good_eq]
 simp only [Option.bind_some, Ev.ite_iff, spec_l2Node.f, l1In_eq, decide_eq_true_eq]
 by_cases h1 : okG n es = true
 case neg => rw [if_neg h1, if_neg (by simp [atkB, setB, h1])];exact no
 rw [if_pos h1, Ev.bind_iff (l2Set_ev n es l hl), Ev.ite_iff]
 by_cases h2 : setB n es l = true
 case neg =>
  have h2' : ¬ (allIn 0 (wrap64 (n - 1)) l && ascB none l) = true := by simpa only [setB, h1, Bool.true_and] using h2
  rw [if_neg h2', if_neg (by simp [atkB, h2])];exact no
 have h2' := h2
 simp only [setB, h1, Bool.true_and] at h2'
 rw [if_pos h2', Ev.ite_iff]
 by_cases h3 : 0 ≤ a ∧ a ≤ wrap64 (n - 1)
 case neg => rw [if_neg h3, if_neg (by simp [atkB, h3])];exact no
 rw [if_pos h3, Ev.bind_iff (l1Has_ev l a hl)]
 by_cases h4 : a ∈ l
 ·rw [decide_eq_true h4, if_neg (by simp [atkB, h4])];exact no
 ·have hA : atkB n es l a = true := by simp [atkB, h2, h3, h4]
  rw [decide_eq_false h4, if_pos hA, Ev.iff_succ]
  obtain ⟨N, m, x, rfl, hN, hg, hlb, rfl, hx, hno⟩ := atkB_use hA
  have hlen := bl_len8 hN hlb
  have G := gsL_gm (es := es) hN l.length
  obtain ⟨p1, p2⟩ := plcG_use hlb
  simp only [spec_GuardAnswers.j0, Bool.false_eq_true, ↓reduceIte]
  rw [Ev.bind_iff (specGuardSets2_ev hN hlen), Ev.bind_iff (l4At_ev hN hlb), Ev.bind_iff (l10Answers_ev G he b p1 x)]
  simp only [Int.toNat_natCast]
  exact specGuardAnswers_l0 G _ ansG_in (Nat.le_trans ansG_len G.len)

theorem implGuardAnswers_l0 {es : List S92} {n : Nat} {L : List (List Int)} (G : Gm es n L) (S : List Nat) (hS : ∀ j ∈ S, j < L.length) (hl : S.length ≤ 256) (q : Int) (mm : List (List Int)) : Ev (fun k => impl_GuardAnswers.l0 k [] (nI S) ((nI S).length : Int) 0 q L mm) (S.map (grd L), true) := by
 have H := down S.length (fun i => Ev (fun k => impl_GuardAnswers.l0 k ((S.take i).map (grd L)) (nI S) ((nI S).length : Int) i q L mm) (S.map (grd L), true)) ?_ ?_ 0 (by omega)
 ·simpa using H
 ·show Ev _ _
  rw [Ev.iff_succ]
  simp only [impl_GuardAnswers.l0, nI_len, Int.lt_irrefl, ↓reduceIte, Ev.now_iff, List.take_length]
 ·intro i hi ih
  show Ev _ _
  rw [Ev.iff_succ]
  have hj := hS S[i] (List.getElem_mem hi)
  have hs := gm_short G hj
  have h1 : (i : Int) < ((nI S).length : Int) := by rw [nI_len];omega
  have h2 : (0 : Int) ≤ (i : Int) := by omega
  have h3 : ((S[i] : Nat) : Int) < (L.length : Int) := by omega
  have h4 : (0 : Int) ≤ ((S[i] : Nat) : Int) := by omega
  have h5 : ((S.take i).map (grd L)).length < 5864062014805 := by rw [List.length_map, List.length_take];omega
  rw [List.take_succ_eq_append_getElem hi, List.map_append, List.map_singleton] at ih
  simp only [impl_GuardAnswers.l0, h1, h2, h3, h4, ↓reduceIte, rd_nI S i hi, rdL2_nat, cloneI_eq (show (grd L S[i]).length < 17592186044416 by omega), Option.bind_some, h5, w64_succ i (show i < 9223372036854775807 by omega)]
  exact ih

theorem implGuardAnswers_ev (n : Int) (es : List S92) (l : List Int) (a : Int) (b : Bool) (hl : l.length ≤ 9223372036854775807) (_ : (Lit.int .i64 a).wf = true) : Ev (fun k => impl_GuardAnswers.f k n es l a b) (guardAnswersR n es l a b) := by
 unfold impl_GuardAnswers.f guardAnswersR
 rw [Ev.bind_iff (isAttack_ev n es l a hl), Ev.ite_iff]
 by_cases hA : atkB n es l a = true
 ·rw [if_pos hA, if_pos hA]
  obtain ⟨N, m, x, rfl, hN, hg, hlb, rfl, hx, hno⟩ := atkB_use hA
  have hlen := bl_len8 hN hlb
  have G := gsL_gm (es := es) hN l.length
  obtain ⟨p1, p2⟩ := plcG_use hlb
  rw [netOf_eq hg]
  simp only [Option.bind_some]
  rw [Ev.bind_iff (guardGame_ev hN hlen b)]
  simp only []
  rw [Ev.bind_iff (valPlace_ev hN hlb _ _), valAnswers_eq G b p1]
  simp only [Option.bind_some, Int.toNat_natCast]
  exact implGuardAnswers_l0 G _ ansG_in (Nat.le_trans ansG_len G.len) _ _
 ·rw [if_neg hA, if_neg hA, Ev.now_iff]

theorem FnExactGuardAnswers_pure (n : Int) (es : List S92) (l : List Int) (a : Int) (b : Bool) (he : es.length ≤ 9223372036854775807) (hl : l.length ≤ 9223372036854775807) (ha : (Lit.int .i64 a).wf = true) : Ev (fun k => laws_FnExactGuardAnswers.f k n es l a b) true := by
 unfold laws_FnExactGuardAnswers.f
 rw [Ev.ite_iff]
 by_cases h1 : (l.length : Int) > 1048576
 ·rw [if_pos h1, Ev.now_iff]
 rw [if_neg h1]
 rw [szGraph_eq n es (by omega)]
 simp only [Option.bind_some, Ev.ite_iff]
 by_cases hs : es.length ≤ 1048576
 case neg => rw [if_neg hs, if_pos (by omega), Ev.now_iff]
 rw [if_pos hs, if_neg (by omega)]
 have hg := toGraph_ev n es (by omega)
 have hi := toIntS_ev l (by omega)
 obtain ⟨hR1, hR2, hR3⟩ := guardAnswersR_len n es l a b
 have hS := specGuardAnswers_ev n es l a b (by omega) ha (by omega)
 have hI := implGuardAnswers_ev n es l a b (by omega) ha
 generalize guardAnswersR n es l a b = R at hR1 hR2 hR3 hS hI
 rw [Ev.bind_iff hg, Ev.bind_iff hi, Ev.bind_iff hS, Ev.bind_iff hg, Ev.bind_iff hi, Ev.bind_iff hI]
 have hq := eqIntSS_refl R.1 (by omega) (fun r hr => by have := hR2 r hr;omega)
 rw [Ev.bind_iff hq]
 simp only [bne_self_eq_false, Bool.false_eq_true, ↓reduceIte]
 rw [Ev.iff_succ]
 simp only [laws_FnExactGuardAnswers.j0, Bool.false_eq_true, ↓reduceIte]
 rw [Ev.bind_iff hg, Ev.bind_iff (eqGraph_refl n es he)]
 simp only [↓reduceIte]
 rw [Ev.bind_iff hi, Ev.bind_iff (eqIntS_refl l hl)]
 simp only [↓reduceIte]
 obtain ⟨rm, hm⟩ := markGraph_eq n es 1 (by omega) (by omega)
 rw [hm]
 simp only [Option.bind_some]
 rw [Ev.bind_iff (markIntS_ev l (1 + 2 * (es.length : Int)) (by omega) (by omega))]
 simp only []
 rw [Ev.ite_iff, if_neg (by omega), Ev.bind_iff hq]
 simp only [bne_self_eq_false, ↓reduceIte]
 rw [Ev.iff_succ]
 simp only [laws_FnExactGuardAnswers.j1, Bool.false_eq_true, ↓reduceIte]
 rw [Ev.bind_iff (markIntSS_ev R.1 1 (by omega) (by omega) (by omega))]
 simp only []
 rw [Ev.bind_iff (heldIntSS_ev 1 (R.1.map List.length) (by omega) (by rw [List.length_map];omega) (by omega)), Ev.ite_iff, if_neg (by omega)]
 simp only [↓reduceIte]
 rw [Ev.bind_iff hg, Ev.bind_iff hi, Ev.bind_iff hI, Ev.bind_iff hq]
 simp only [bne_self_eq_false, ↓reduceIte]
 rw [Ev.iff_succ]
 simp only [laws_FnExactGuardAnswers.j2, Bool.false_eq_true, ↓reduceIte]
 rw [Ev.bind_iff (heldIntSS_ev 1 (R.1.map List.length) (by omega) (by rw [List.length_map];omega) (by omega)), Ev.ite_iff, if_neg (by omega)]
 simp only [↓reduceIte, Ev.now_iff]

end Go.Proofs.YthbjajppdomhhaaDoor.QGuardAnswers
