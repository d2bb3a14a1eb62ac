import Derived.Test.YtmokkhfmbenleaaQLeastPower0
import Derived.Test.YtmokkhfmbenleaaQLeastPower13
import Derived.Test.YtmokkhfmbenleaaQLeastPower14
import Derived.Test.YtmokkhfmbenleaaQLeastPower8
import Derived.Test.YtmokkhfmbenleaaQLeastPower9
import Derived.Test.YtmokkhfmbenleaaQLeastPowerA3
namespace Go.Proofs.Ytmokkhfmbenleaa.QLeastPower
open Go.RowKit Go.Proofs.YtmokkhfmbenleaaW.PrintWords Go.Proofs.YtmokkhfmbenleaaW.PrintLast Go.Proofs.YtmokkhfmbenleaaW.PrintMore
attribute [local go_sem] max2_int min2_int max_two min_two max_three min_three max_four min_four   -- for this text's walks alone
set_option linter.unusedVariables false
set_option linter.unusedSimpArgs false
theorem lstR_len (n : Int) (es : List S119) (kind : Nat) : (lstR n es kind).1.length ≤ 1048576 := by
  unfold lstR
  split
  · rename_i h
    obtain ⟨N, rfl, hN⟩ := okG_use h
    have := bl_len_le N (leastM (reachP es N kind) N)
    simp only [Int.toNat_natCast]; omega
  · simp

def leastPowerR (n : Int) (es : List S119) : List Int × Bool := lstR n es 1

theorem leastPowerR_len (n : Int) (es : List S119) : (leastPowerR n es).1.length ≤ 1048576 := lstR_len n es 1

theorem specLeastPower_ev (n : Int) (es : List S119) (he : es.length ≤ 9223372036854775807) : Ev (fun k => spec_LeastPower.f k n es) (leastPowerR n es) := by
  unfold spec_LeastPower.f leastPowerR lstR
  rw [l2Good_eq]
  simp only [Option.bind_some, Ev.ite_iff]
  by_cases h : okG n es = true
  · obtain ⟨N, rfl, hN⟩ := okG_use h
    rw [if_pos h, if_pos h, Ev.bind_iff (show Ev (fun k => spec_l9Least.f k N es 1) _ from l9Least_ev (kind := 1) hN he), Ev.now_iff, Int.toNat_natCast]
  · rw [if_neg h, if_neg h, Ev.now_iff]

theorem wantLeastPower_ev {es : List S119} {n : Nat} (hn : n ≤ 8) (x : Nat) (hx : x < 2 ^ n) : Ev (fun k => wantLeastPower k (nets es n) (x : Int)) (reachP es n 1 x) := by
  unfold wantLeastPower impl_LeastPowerC1.f
  rw [Ev.bind_iff (around_ev es n x hn hx), Ev.bind_iff (forceAll_ev es n false hn _ (aroM_lt hx)), all_eq hn]
  simp only [Option.bind_some, Ev.now_iff]
  exact beq_nat _ _

theorem implLeastPower_ev (n : Int) (es : List S119) : Ev (fun k => impl_LeastPower.f k n es) (leastPowerR n es) := by
  unfold impl_LeastPower.f leastPowerR lstR
  rw [IsGraph_eq]
  simp only [Option.bind_some, Ev.ite_iff]
  by_cases h : okG n es = true
  · obtain ⟨N, rfl, hN⟩ := okG_use h
    rw [if_pos h, if_pos h, netOf_eq h]
    simp only [Option.bind_some]
    rw [Ev.bind_iff (leastSet_ev hN (fun x hx => wantLeastPower_ev hN x hx) (reachP_full es N 1)), Ev.now_iff, Int.toNat_natCast]
  · rw [if_neg h, if_neg h, Ev.now_iff]

theorem FnExactLeastPower_pure (n : Int) (es : List S119) (he : es.length ≤ 9223372036854775807) : Ev (fun k => laws_FnExactLeastPower.f k n es) true := by
  unfold laws_FnExactLeastPower.f
  rw [szGraph_eq n es (by omega)]
  simp only [Option.bind_some, Ev.ite_iff]
  by_cases hs : es.length ≤ 1048576
  case neg => rw [if_neg hs, if_pos (by omega), Ev.now_iff]
  rw [if_pos hs, if_neg (by omega)]
  have hg := toGraph_ev n es (by omega)
  have hq9 := leastPowerR_len n es
  have hS := specLeastPower_ev n es  (by omega)
  have hI := implLeastPower_ev n es 
  generalize leastPowerR n es = R at hq9 hS hI
  rw [Ev.bind_iff hg, Ev.bind_iff hS, Ev.bind_iff hg, Ev.bind_iff hI]
  rw [Ev.bind_iff (eqIntS_refl R.1 (by omega))]
  simp only [bne_self_eq_false, Bool.false_eq_true, ↓reduceIte]
  rw [Ev.iff_succ]
  simp only [laws_FnExactLeastPower.j0, Bool.false_eq_true, ↓reduceIte]
  rw [Ev.bind_iff hg, Ev.bind_iff (eqGraph_refl n es he)]
  simp only [↓reduceIte]
  obtain ⟨rm, hm⟩ := markGraph_eq n es 1 (by omega) (by omega)
  rw [hm]
  simp only [Option.bind_some]
  rw [Ev.ite_iff, if_neg (by omega), Ev.bind_iff (eqIntS_refl R.1 (by omega))]
  simp only [bne_self_eq_false, ↓reduceIte]
  rw [Ev.iff_succ]
  simp only [laws_FnExactLeastPower.j1, Bool.false_eq_true, ↓reduceIte]
  rw [Ev.bind_iff (markIntS_ev R.1 1 (by omega) (by omega))]
  simp only []
  rw [Ev.bind_iff (heldIntS_ev 1 R.1.length (by omega) (by omega)), Ev.ite_iff, if_neg (by omega)]
  simp only [↓reduceIte]
  rw [Ev.bind_iff hg, Ev.bind_iff hI, Ev.bind_iff (eqIntS_refl R.1 (by omega))]
  simp only [bne_self_eq_false, ↓reduceIte]
  rw [Ev.iff_succ]
  simp only [laws_FnExactLeastPower.j2, Bool.false_eq_true, ↓reduceIte]
  rw [Ev.bind_iff (heldIntS_ev 1 R.1.length (by omega) (by omega)), Ev.ite_iff, if_neg (by omega)]
  simp only [↓reduceIte, Ev.now_iff]

end Go.Proofs.Ytmokkhfmbenleaa.QLeastPower
