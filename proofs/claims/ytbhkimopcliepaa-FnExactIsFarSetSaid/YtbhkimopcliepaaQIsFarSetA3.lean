import Derived.Test.YtbhkimopcliepaaQIsFarSet0
import Derived.Test.YtbhkimopcliepaaQIsFarSet10
import Derived.Test.YtbhkimopcliepaaQIsFarSet11
import Derived.Test.YtbhkimopcliepaaQIsFarSet2
import Derived.Test.YtbhkimopcliepaaQIsFarSet3
import Derived.Test.YtbhkimopcliepaaQIsFarSet5
import Derived.Test.YtbhkimopcliepaaQIsFarSet7
import Derived.Test.YtbhkimopcliepaaQIsFarSetA2
namespace Go.Proofs.Ytbhkimopcliepaa.QIsFarSet
open Go.RowKit Go.Proofs.YtbhkimopcliepaaW.PrintWords Go.Proofs.YtbhkimopcliepaaW.PrintLast Go.Proofs.YtbhkimopcliepaaW.PrintMore
attribute [local go_sem] max2_int min2_int max_two min_two max_three min_three max_four min_four   -- for this text's walks alone
set_option linter.unusedVariables false
set_option linter.unusedSimpArgs false
theorem specIsFarSet_ev (n : Int) (es : List S100) (l : List Int) (r : Int) (hl : l.length ≤ 9223372036854775807) (_ : (Lit.int .i64 r).wf = true) (he : es.length ≤ 9223372036854775807) : Ev (fun k => spec_IsFarSet.f k n es l r) (isFarSetR n es l r) := by
  unfold spec_IsFarSet.f isFarSetR
  rw [l2Good_eq]
  simp only [Option.bind_some, Ev.ite_iff, Ev.bind_iff (l2Set_ev n es l hl), spec_l8Number.f, l1In_eq]
  by_cases h1 : okG n es = true
  · by_cases h2 : (allIn 0 (wrap64 (n - 1)) l && ascB none l) = true
    · have h : setB n es l = true := by simp only [setB, h1, h2, Bool.and_self]
      simp only [h, h1, h2, ↓reduceIte, true_and]
      rw [Ev.iff_succ]
      simp only [spec_IsFarSet.j0, Ev.ite_iff, Bool.not_eq_true', decide_eq_false_iff_not]
      by_cases h3 : 1 ≤ r ∧ r ≤ 8
      · obtain ⟨N, m, rfl, hN, hg, hok, hm, rfl, hml⟩ := setB_use h
        have hbl := bl_len_le N m
        rw [if_neg (by simp [h3]), if_pos h3, Ev.bind_iff (l2Dist_ev es N hN he), Ev.bind_iff (l8Far_ev es N r _ h3 (by omega) bl_nodes), Ev.now_iff, Int.toNat_natCast]
      · rw [if_pos h3, if_neg h3, Ev.now_iff]
    · have h : ¬ setB n es l = true := by simp only [setB, h1, h2, Bool.true_and, Bool.false_eq_true, not_false_eq_true]
      simp only [h, h1, h2, Bool.false_eq_true, ↓reduceIte, false_and]
      rw [Ev.iff_succ]
      simp only [spec_IsFarSet.j0, ↓reduceIte, Ev.now_iff]
  · have h : ¬ setB n es l = true := by simp only [setB, h1, Bool.false_and, Bool.false_eq_true, not_false_eq_true]
    simp only [h, h1, Bool.false_eq_true, ↓reduceIte, false_and]
    rw [Ev.iff_succ]
    simp only [spec_IsFarSet.j0, ↓reduceIte, Ev.now_iff]

theorem implIsFarSet_ev (n : Int) (es : List S100) (l : List Int) (r : Int) (hl : l.length ≤ 9223372036854775807) (_ : (Lit.int .i64 r).wf = true) : Ev (fun k => impl_IsFarSet.f k n es l r) (isFarSetR n es l r) := by
  unfold impl_IsFarSet.f isFarSetR
  rw [Ev.bind_iff (isSet_ev n es l hl), Ev.ite_iff]
  by_cases h : setB n es l = true
  · obtain ⟨N, m, rfl, hN, hg, hok, hm, rfl, hml⟩ := setB_use h
    rw [if_pos h, within_eq]
    simp only [Option.bind_some, h, true_and]
    rw [Ev.iff_succ]
    simp only [impl_IsFarSet.j0, Ev.ite_iff, netOf_eq hg, Option.bind_some, Bool.not_eq_true', decide_eq_false_iff_not]
    by_cases h3 : 1 ≤ r ∧ r ≤ 8
    · rw [if_neg (by simp [h3]), if_pos h3, Ev.bind_iff (implDist_ev es N hN)]
      unfold impl_isFar.f
      rw [farGo_eq _ _ (by simpa using bl_nodes)]
      simp only [Option.bind_some, Ev.now_iff, Int.toNat_natCast]
    · rw [if_pos h3, if_neg h3, Ev.now_iff]
  · rw [if_neg h, Ev.iff_succ]
    simp only [impl_IsFarSet.j0, ↓reduceIte, Ev.now_iff, h, false_and, Bool.false_eq_true]

theorem FnExactIsFarSet_pure (n : Int) (es : List S100) (l : List Int) (a : Int) (he : es.length ≤ 9223372036854775807) (hl : l.length ≤ 9223372036854775807) (ha : (Lit.int .i64 a).wf = true) : Ev (fun k => laws_FnExactIsFarSet.f k n es l a) true := by
  unfold laws_FnExactIsFarSet.f
  rw [Ev.ite_iff]
  by_cases h1 : (l.length : Int) > 1048576
  · rw [if_pos h1, Ev.now_iff]
  rw [if_neg h1]
  rw [szGraph_eq n es (by omega)]
  simp only [Option.bind_some, Ev.ite_iff]
  by_cases hs : es.length ≤ 1048576
  case neg => rw [if_neg hs, if_pos (by omega), Ev.now_iff]
  rw [if_pos hs, if_neg (by omega)]
  have hg := toGraph_ev n es (by omega)
  have hi := toIntS_ev l (by omega)
  have hS := specIsFarSet_ev n es l a (by omega) ha (by omega)
  have hI := implIsFarSet_ev n es l a (by omega) ha
  generalize isFarSetR n es l a = R at hS hI
  rw [Ev.bind_iff hg, Ev.bind_iff hi, Ev.bind_iff hS, Ev.bind_iff hg, Ev.bind_iff hi, Ev.bind_iff hI]
  simp only [bne_self_eq_false, Bool.false_eq_true, ↓reduceIte]
  rw [Ev.iff_succ]
  simp only [laws_FnExactIsFarSet.j0, Bool.false_eq_true, ↓reduceIte]
  rw [Ev.bind_iff hg, Ev.bind_iff (eqGraph_refl n es he)]
  simp only [↓reduceIte]
  rw [Ev.bind_iff hi, Ev.bind_iff (eqIntS_refl l hl)]
  simp only [↓reduceIte]
  rw [Ev.now_iff]

end Go.Proofs.Ytbhkimopcliepaa.QIsFarSet
