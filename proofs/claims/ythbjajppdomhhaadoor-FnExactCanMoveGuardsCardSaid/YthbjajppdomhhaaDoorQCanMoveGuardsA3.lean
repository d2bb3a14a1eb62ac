import Derived.Test.YthbjajppdomhhaaDoorQCanMoveGuards0
import Derived.Test.YthbjajppdomhhaaDoorQCanMoveGuards12
import Derived.Test.YthbjajppdomhhaaDoorQCanMoveGuardsA2
namespace Go.Proofs.YthbjajppdomhhaaDoor.QCanMoveGuards
open Go.RowKit Go.Proofs.YthbjajppdomhhaaDoorW.PrintWords Go.Proofs.YthbjajppdomhhaaDoorW.PrintLast Go.Proofs.YthbjajppdomhhaaDoorW.PrintMore
attribute [local go_sem] max2_int min2_int max_two min_two max_three min_three max_four min_four   -- for this text's walks alone
set_option linter.unusedVariables false
set_option linter.unusedSimpArgs false
theorem FnExactCanMoveGuards_pure (n : Int) (es : List S92) (l0 : List Int) (l1 : List Int) (b : Bool) (he : es.length ≤ 9223372036854775807) (hl0 : l0.length ≤ 9223372036854775807) (hl1 : l1.length ≤ 9223372036854775807) : Ev (fun k => laws_FnExactCanMoveGuards.f k n es l0 l1 b) true := by
  unfold laws_FnExactCanMoveGuards.f
  rw [Ev.ite_iff]
  by_cases h10 : (l0.length : Int) > 1048576
  · rw [if_pos h10, Ev.now_iff]
  rw [if_neg h10]
  rw [Ev.ite_iff]
  by_cases h11 : (l1.length : Int) > 1048576
  · rw [if_pos h11, Ev.now_iff]
  rw [if_neg h11]
  rw [szGraph_eq n es (by omega)]
  simp only [Option.bind_some, Ev.ite_iff]
  by_cases hs : es.length ≤ 1048576
  case neg => rw [if_neg hs, if_pos (by omega), Ev.now_iff]
  rw [if_pos hs, if_neg (by omega)]
  have hg := toGraph_ev n es (by omega)
  have hi0 := toIntS_ev l0 (by omega)
  have hi1 := toIntS_ev l1 (by omega)
  have hS := specCanMoveGuards_ev n es l0 l1 b (by omega) (by omega) (by omega)
  have hI := implCanMoveGuards_ev n es l0 l1 b (by omega) (by omega)
  generalize canMoveGuardsR n es l0 l1 b = R at hS hI
  rw [Ev.bind_iff hg, Ev.bind_iff hi0, Ev.bind_iff hi1, Ev.bind_iff hS, Ev.bind_iff hg, Ev.bind_iff hi0, Ev.bind_iff hi1, Ev.bind_iff hI]
  simp only [bne_self_eq_false, Bool.false_eq_true, ↓reduceIte]
  rw [Ev.iff_succ]
  simp only [laws_FnExactCanMoveGuards.j0, Bool.false_eq_true, ↓reduceIte]
  rw [Ev.bind_iff hg, Ev.bind_iff (eqGraph_refl n es he)]
  simp only [↓reduceIte]
  rw [Ev.bind_iff hi0, Ev.bind_iff (eqIntS_refl l0 hl0)]
  simp only [↓reduceIte]
  rw [Ev.bind_iff hi1, Ev.bind_iff (eqIntS_refl l1 hl1)]
  simp only [↓reduceIte]
  rw [Ev.now_iff]

end Go.Proofs.YthbjajppdomhhaaDoor.QCanMoveGuards
