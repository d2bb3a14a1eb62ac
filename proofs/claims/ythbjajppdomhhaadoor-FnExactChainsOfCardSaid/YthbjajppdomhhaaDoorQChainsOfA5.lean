import Derived.Test.YthbjajppdomhhaaDoorQChainsOf0
import Derived.Test.YthbjajppdomhhaaDoorQChainsOf14
import Derived.Test.YthbjajppdomhhaaDoorQChainsOfA4
namespace Go.Proofs.YthbjajppdomhhaaDoor.QChainsOf
open Go.RowKit Go.Proofs.YthbjajppdomhhaaDoorW.PrintWords Go.Proofs.YthbjajppdomhhaaDoorW.PrintLast Go.Proofs.YthbjajppdomhhaaDoorW.PrintMore
attribute [local go_sem] max2_int min2_int max_two min_two max_three min_three max_four min_four   -- for this text's walks alone
set_option linter.unusedVariables false
set_option linter.unusedSimpArgs false
theorem FnExactChainsOf_pure (n : Int) (es : List S92) (l : List Int) (he : es.length ≤ 9223372036854775807) (hl : l.length ≤ 9223372036854775807) : Ev (fun k => laws_FnExactChainsOf.f k n es l) true := by
 unfold laws_FnExactChainsOf.f
 rw [Ev.ite_iff]
 by_cases h1 : (l.length : Int) > 1048576
 ·rw [if_pos h1, Ev.now_iff]
 rw [if_neg h1]
 rw [szGraph_eq n es (by omega)]
 simp only [Option.bind_some, Ev.ite_iff]
 by_cases hs : es.length ≤ 1048576
 case neg => rw [if_neg hs, if_pos (by omega), Ev.now_iff]
 rw [if_pos hs, if_neg (by omega)]
 have hg := toGraph_ev n es (by omega)
 have hi := toIntS_ev l (by omega)
 obtain ⟨hR1, hR2, hR3⟩ := chainsOfR_len n es l
 have hS := specChainsOf_ev n es l (by omega) (by omega)
 have hI := implChainsOf_ev n es l (by omega)
 generalize chainsOfR n es l = R at hR1 hR2 hR3 hS hI
 rw [Ev.bind_iff hg, Ev.bind_iff hi, Ev.bind_iff hS, Ev.bind_iff hg, Ev.bind_iff hi, Ev.bind_iff hI]
 have hq := eqIntSS_refl R.1 (by omega) (fun r hr => by have := hR2 r hr;omega)
 rw [Ev.bind_iff hq]
 simp only [bne_self_eq_false, Bool.false_eq_true, ↓reduceIte]
 rw [Ev.iff_succ]
 simp only [laws_FnExactChainsOf.j0, Bool.false_eq_true, ↓reduceIte]
 rw [Ev.bind_iff hg, Ev.bind_iff (eqGraph_refl n es he)]
 simp only [↓reduceIte]
 rw [Ev.bind_iff hi, Ev.bind_iff (eqIntS_refl l hl)]
 simp only [↓reduceIte]
 obtain ⟨rm, hm⟩ := markGraph_eq n es 1 (by omega) (by omega)
 rw [hm]
 simp only [Option.bind_some]
 rw [Ev.bind_iff (markIntS_ev l (1 + 2 * (es.length : Int)) (by omega) (by omega))]
 simp only []
 rw [Ev.ite_iff, if_neg (by omega), Ev.bind_iff hq]
 simp only [bne_self_eq_false, ↓reduceIte]
 rw [Ev.iff_succ]
 simp only [laws_FnExactChainsOf.j1, Bool.false_eq_true, ↓reduceIte]
 rw [Ev.bind_iff (markIntSS_ev R.1 1 (by omega) (by omega) (by omega))]
 simp only []
 rw [Ev.bind_iff (heldIntSS_ev 1 (R.1.map List.length) (by omega) (by rw [List.length_map];omega) (by omega)), Ev.ite_iff, if_neg (by omega)]
 simp only [↓reduceIte]
 rw [Ev.bind_iff hg, Ev.bind_iff hi, Ev.bind_iff hI, Ev.bind_iff hq]
 simp only [bne_self_eq_false, ↓reduceIte]
 rw [Ev.iff_succ]
 simp only [laws_FnExactChainsOf.j2, Bool.false_eq_true, ↓reduceIte]
 rw [Ev.bind_iff (heldIntSS_ev 1 (R.1.map List.length) (by omega) (by rw [List.length_map];omega) (by omega)), Ev.ite_iff, if_neg (by omega)]
 simp only [↓reduceIte, Ev.now_iff]

end Go.Proofs.YthbjajppdomhhaaDoor.QChainsOf
