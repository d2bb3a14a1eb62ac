import Derived.Test.YthbjajppdomhhaaDoorQEternalNumber0
import Derived.Test.YthbjajppdomhhaaDoorQEternalNumber21
import Derived.Test.YthbjajppdomhhaaDoorQEternalNumberA4
namespace Go.Proofs.YthbjajppdomhhaaDoor.QEternalNumber
open Go.RowKit Go.Proofs.YthbjajppdomhhaaDoorW.PrintWords Go.Proofs.YthbjajppdomhhaaDoorW.PrintLast Go.Proofs.YthbjajppdomhhaaDoorW.PrintMore
attribute [local go_sem] max2_int min2_int max_two min_two max_three min_three max_four min_four   -- for this text's walks alone
set_option linter.unusedVariables false
set_option linter.unusedSimpArgs false
theorem FnExactEternalNumber_pure (n : Int) (es : List S92) (b : Bool) (he : es.length ≤ 9223372036854775807) : Ev (fun k => laws_FnExactEternalNumber.f k n es b) true := by
 unfold laws_FnExactEternalNumber.f
 rw [szGraph_eq n es (by omega)]
 simp only [Option.bind_some, Ev.ite_iff]
 by_cases hs : es.length ≤ 1048576
 case neg => rw [if_neg hs, if_pos (by omega), Ev.now_iff]
 rw [if_pos hs, if_neg (by omega)]
 have hg := toGraph_ev n es (by omega)
 have hS := specEternalNumber_ev n es b  (by omega)
 have hI := implEternalNumber_ev n es b 
 generalize eternalNumberR n es b = R at hS hI
 rw [Ev.bind_iff hg, Ev.bind_iff hS, Ev.bind_iff hg, Ev.bind_iff hI]
 simp only [bne_self_eq_false, Bool.false_eq_true, ↓reduceIte]
 rw [Ev.iff_succ]
 simp only [laws_FnExactEternalNumber.j0, Bool.false_eq_true, ↓reduceIte]
 rw [Ev.bind_iff hg, Ev.bind_iff (eqGraph_refl n es he)]
 simp only [↓reduceIte]
 rw [Ev.now_iff]

end Go.Proofs.YthbjajppdomhhaaDoor.QEternalNumber
