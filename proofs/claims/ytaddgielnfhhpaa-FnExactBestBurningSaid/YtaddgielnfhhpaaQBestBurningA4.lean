import Derived.Test.YtaddgielnfhhpaaQBestBurning0
import Derived.Test.YtaddgielnfhhpaaQBestBurning13
import Derived.Test.YtaddgielnfhhpaaQBestBurningA3
namespace Go.Proofs.Ytaddgielnfhhpaa.QBestBurning
open Go.RowKit Go.Proofs.YtaddgielnfhhpaaW.PrintWords Go.Proofs.YtaddgielnfhhpaaW.PrintLast Go.Proofs.YtaddgielnfhhpaaW.PrintMore
attribute [local go_sem] max2_int min2_int max_two min_two max_three min_three max_four min_four   -- for this text's walks alone
set_option linter.unusedVariables false
set_option linter.unusedSimpArgs false
theorem FnExactBestBurning_pure (n : Int) (es : List S80) (he : es.length ≤ 9223372036854775807) : Ev (fun k => laws_FnExactBestBurning.f k n es) true := by
 unfold laws_FnExactBestBurning.f
 rw [szGraph_eq n es (by omega)]
 simp only [Option.bind_some, Ev.ite_iff]
 by_cases hs : es.length ≤ 1048576
 case neg => rw [if_neg hs, if_pos (by omega), Ev.now_iff]
 rw [if_pos hs, if_neg (by omega)]
 have hg := toGraph_ev n es (by omega)
 have hq9 := bestBurningR_len n es
 have hS := specBestBurning_ev n es  (by omega)
 have hI := implBestBurning_ev n es 
 generalize bestBurningR n es = R at hq9 hS hI
 rw [Ev.bind_iff hg, Ev.bind_iff hS, Ev.bind_iff hg, Ev.bind_iff hI]
 rw [Ev.bind_iff (eqIntS_refl R.1 (by omega))]
 simp only [bne_self_eq_false, Bool.false_eq_true, ↓reduceIte]
 rw [Ev.iff_succ]
 simp only [laws_FnExactBestBurning.j0, Bool.false_eq_true, ↓reduceIte]
 rw [Ev.bind_iff hg, Ev.bind_iff (eqGraph_refl n es he)]
 simp only [↓reduceIte]
 obtain ⟨rm, hm⟩ := markGraph_eq n es 1 (by omega) (by omega)
 rw [hm]
 simp only [Option.bind_some]
 rw [Ev.ite_iff, if_neg (by omega), Ev.bind_iff (eqIntS_refl R.1 (by omega))]
 simp only [bne_self_eq_false, ↓reduceIte]
 rw [Ev.iff_succ]
 simp only [laws_FnExactBestBurning.j1, Bool.false_eq_true, ↓reduceIte]
 rw [Ev.bind_iff (markIntS_ev R.1 1 (by omega) (by omega))]
 simp only []
 rw [Ev.bind_iff (heldIntS_ev 1 R.1.length (by omega) (by omega)), Ev.ite_iff, if_neg (by omega)]
 simp only [↓reduceIte]
 rw [Ev.bind_iff hg, Ev.bind_iff hI, Ev.bind_iff (eqIntS_refl R.1 (by omega))]
 simp only [bne_self_eq_false, ↓reduceIte]
 rw [Ev.iff_succ]
 simp only [laws_FnExactBestBurning.j2, Bool.false_eq_true, ↓reduceIte]
 rw [Ev.bind_iff (heldIntS_ev 1 R.1.length (by omega) (by omega)), Ev.ite_iff, if_neg (by omega)]
 simp only [↓reduceIte, Ev.now_iff]

end Go.Proofs.Ytaddgielnfhhpaa.QBestBurning
