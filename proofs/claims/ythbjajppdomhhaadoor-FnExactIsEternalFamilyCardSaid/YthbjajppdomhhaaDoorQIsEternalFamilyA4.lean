import Derived.Test.YthbjajppdomhhaaDoorQIsEternalFamily0
import Derived.Test.YthbjajppdomhhaaDoorQIsEternalFamily16
import Derived.Test.YthbjajppdomhhaaDoorQIsEternalFamilyA3
namespace Go.Proofs.YthbjajppdomhhaaDoor.QIsEternalFamily
open Go.RowKit Go.Proofs.YthbjajppdomhhaaDoorW.PrintWords Go.Proofs.YthbjajppdomhhaaDoorW.PrintLast Go.Proofs.YthbjajppdomhhaaDoorW.PrintMore
attribute [local go_sem] max2_int min2_int max_two min_two max_three min_three max_four min_four   -- for this text's walks alone
set_option linter.unusedVariables false
set_option linter.unusedSimpArgs false
theorem FnExactIsEternalFamily_pure (n : Int) (es : List S92) (L : List (List Int)) (b : Bool) (he : es.length ≤ 9223372036854775807) (hL : L.length ≤ 9223372036854775807) (hr : ∀ r ∈ L, r.length ≤ 9223372036854775807) : Ev (fun k => laws_FnExactIsEternalFamily.f k n es L b) true := by
 unfold laws_FnExactIsEternalFamily.f
 rw [szGraph_eq n es (by omega)]
 simp only [Option.bind_some, Ev.ite_iff]
 by_cases hs : es.length ≤ 1048576
 case neg => rw [if_neg hs, if_pos (by omega), Ev.now_iff]
 rw [if_pos hs, if_neg (by omega)]
 obtain ⟨zL, hzL, hyL⟩ := szIntSS_ev L (1048576 - es.length) (by omega) hL hr
 rw [show (1048576 - (es.length : Int)) = ((1048576 - es.length : Nat) : Int) by omega, Ev.bind_iff hzL, Ev.ite_iff]
 by_cases hnL : zL < 0
 ·rw [if_pos hnL, Ev.now_iff]
 rw [if_neg hnL]
 have hxL := hyL.resolve_left hnL
 have hjL := toIntSS_ev L hxL.2.1 hxL.2.2.1
 have huL := hxL.2.2.2
 have hg := toGraph_ev n es (by omega)
 have hS := specIsEternalFamily_ev n es L b hxL.2.1 hxL.2.2.1 (by omega)
 have hI := implIsEternalFamily_ev n es L b hxL.2.1 hxL.2.2.1
 generalize isEternalFamilyR n es L b = R at hS hI
 rw [Ev.bind_iff hg, Ev.bind_iff hjL, Ev.bind_iff hS, Ev.bind_iff hg, Ev.bind_iff hjL, Ev.bind_iff hI]
 simp only [bne_self_eq_false, Bool.false_eq_true, ↓reduceIte]
 rw [Ev.iff_succ]
 simp only [laws_FnExactIsEternalFamily.j0, Bool.false_eq_true, ↓reduceIte]
 rw [Ev.bind_iff hg, Ev.bind_iff (eqGraph_refl n es he)]
 simp only [↓reduceIte]
 rw [Ev.bind_iff hjL, Ev.bind_iff (eqIntSS_refl L hL hr)]
 simp only [↓reduceIte]
 rw [Ev.now_iff]

end Go.Proofs.YthbjajppdomhhaaDoor.QIsEternalFamily
