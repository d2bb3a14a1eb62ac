import Derived.Test.YtmokkhfmbenleaaQLeastDominating0
import Derived.Test.YtmokkhfmbenleaaQLeastDominating11
import Derived.Test.YtmokkhfmbenleaaQLeastDominating12
import Derived.Test.YtmokkhfmbenleaaQLeastDominating6
import Derived.Test.YtmokkhfmbenleaaQLeastDominatingA2
namespace Go.Proofs.Ytmokkhfmbenleaa.QLeastDominating
open Go.RowKit Go.Proofs.YtmokkhfmbenleaaW.PrintWords Go.Proofs.YtmokkhfmbenleaaW.PrintLast Go.Proofs.YtmokkhfmbenleaaW.PrintMore
attribute [local go_sem] max2_int min2_int max_two min_two max_three min_three max_four min_four   -- for this text's walks alone
set_option linter.unusedVariables false
set_option linter.unusedSimpArgs false
theorem specLeastDominating_l0 {es : List S119} {n : Nat} (hn : n ≤ 8) (hl : es.length ≤ 9223372036854775807) : ∀ (d c b : Nat), 2 ^ n = c + d → b < 2 ^ n →
    Ev (fun k => spec_LeastDominating.l0 k (bl n b) c n es) (bl n (bestF (domP es n) n d c b), true)
  | 0, c, b, hd, hb => by
    rw [Ev.iff_succ]
    have h2 : (0 : Int) ≤ n := by omega
    simp only [spec_LeastDominating.l0, h2, ↓reduceIte, shl_one (show n < 62 by omega), Ev.ite_iff]
    rw [if_neg (by omega), Ev.now_iff, bestF]
  | d + 1, c, b, hd, hb => by
    rw [Ev.iff_succ]
    have h2 : (0 : Int) ≤ n := by omega
    have hc : c < 2 ^ n := by omega
    have h8 := p8 hn
    have hbl := bl_len_le n c
    have ih0 := specLeastDominating_l0 (es := es) hn hl d (c + 1) b (by omega) hb
    have ih1 := specLeastDominating_l0 (es := es) hn hl d (c + 1) c (by omega) hc
    simp only [spec_LeastDominating.l0, h2, ↓reduceIte, shl_one (show n < 62 by omega), Ev.ite_iff]
    rw [if_pos (by omega), Ev.bind_iff (l2Bits_ev n c hn hc), Ev.bind_iff (l10Dominates_ev es n c hn hc hl)]
    simp only [Ev.ite_iff, w64_succ c (show c < 9223372036854775807 by omega), bestF]
    by_cases f : aroM es n c = 2 ^ n - 1
    · have hp : domP es n c = true := by simp [domP, f]
      rw [if_pos (by simpa using f), hp, Bool.true_and]
      unfold betM
      by_cases g1 : (bl n c).length < (bl n b).length
      · rw [if_pos (by omega), if_pos (by simp [g1])]; exact ih1
      · rw [if_neg (by omega)]
        by_cases g2 : (bl n c).length = (bl n b).length
        · rw [if_pos (by omega), Ev.bind_iff (l4Less_ev _ _ g2 (by omega)), Ev.ite_iff]
          cases g3 : lexLt (bl n c) (bl n b)
          · rw [if_neg (by simp), if_neg (by simp [g1])]; exact ih0
          · rw [if_pos rfl, if_pos (by simp [g2])]; exact ih1
        · rw [if_neg (by omega), if_neg (by simp [g1, g2])]; exact ih0
    · have hp : domP es n c = false := by simp [domP, f]
      rw [if_neg (by simpa using f), hp, Bool.false_and, if_neg (by simp)]; exact ih0

theorem specLeastDominating_ev (n : Int) (es : List S119) (he : es.length ≤ 9223372036854775807) : Ev (fun k => spec_LeastDominating.f k n es) (leastDominatingR n es) := by
  unfold spec_LeastDominating.f leastDominatingR
  rw [l2Good_eq]
  simp only [Option.bind_some, Ev.ite_iff]
  by_cases h : okG n es = true
  · obtain ⟨N, rfl, hN⟩ := okG_use h
    rw [if_pos h, if_pos h, Ev.bind_iff (l2All_ev hN)]
    exact specLeastDominating_l0 hN he (2 ^ N) 0 _ (by omega) (by have := Nat.two_pow_pos N; omega)
  · rw [if_neg h, if_neg h, Ev.now_iff]

theorem wantLeastDominating_ev {es : List S119} {n : Nat} (hn : n ≤ 8) (x : Nat) (hx : x < 2 ^ n) : Ev (fun k => wantLeastDominating k (nets es n) (x : Int)) (domP es n x) := by
  unfold wantLeastDominating impl_LeastDominatingC1.f
  rw [Ev.bind_iff (around_ev es n x hn hx), all_eq hn]
  simp only [Option.bind_some, Ev.now_iff]
  exact beq_nat _ _

theorem implLeastDominating_ev (n : Int) (es : List S119) : Ev (fun k => impl_LeastDominating.f k n es) (leastDominatingR n es) := by
  unfold impl_LeastDominating.f leastDominatingR
  rw [IsGraph_eq]
  simp only [Option.bind_some, Ev.ite_iff]
  by_cases h : okG n es = true
  · obtain ⟨N, rfl, hN⟩ := okG_use h
    rw [if_pos h, if_pos h, netOf_eq h]
    simp only [Option.bind_some]
    rw [Ev.bind_iff (leastSet_ev hN (fun x hx => wantLeastDominating_ev hN x hx) (domP_full es N)), Ev.now_iff, Int.toNat_natCast]
  · rw [if_neg h, if_neg h, Ev.now_iff]

theorem FnExactLeastDominating_pure (n : Int) (es : List S119) (he : es.length ≤ 9223372036854775807) : Ev (fun k => laws_FnExactLeastDominating.f k n es) true := by
  unfold laws_FnExactLeastDominating.f
  rw [szGraph_eq n es (by omega)]
  simp only [Option.bind_some, Ev.ite_iff]
  by_cases hs : es.length ≤ 1048576
  case neg => rw [if_neg hs, if_pos (by omega), Ev.now_iff]
  rw [if_pos hs, if_neg (by omega)]
  have hg := toGraph_ev n es (by omega)
  have hq9 := leastDominatingR_len n es
  have hS := specLeastDominating_ev n es  (by omega)
  have hI := implLeastDominating_ev n es 
  generalize leastDominatingR n es = R at hq9 hS hI
  rw [Ev.bind_iff hg, Ev.bind_iff hS, Ev.bind_iff hg, Ev.bind_iff hI]
  rw [Ev.bind_iff (eqIntS_refl R.1 (by omega))]
  simp only [bne_self_eq_false, Bool.false_eq_true, ↓reduceIte]
  rw [Ev.iff_succ]
  simp only [laws_FnExactLeastDominating.j0, Bool.false_eq_true, ↓reduceIte]
  rw [Ev.bind_iff hg, Ev.bind_iff (eqGraph_refl n es he)]
  simp only [↓reduceIte]
  obtain ⟨rm, hm⟩ := markGraph_eq n es 1 (by omega) (by omega)
  rw [hm]
  simp only [Option.bind_some]
  rw [Ev.ite_iff, if_neg (by omega), Ev.bind_iff (eqIntS_refl R.1 (by omega))]
  simp only [bne_self_eq_false, ↓reduceIte]
  rw [Ev.iff_succ]
  simp only [laws_FnExactLeastDominating.j1, Bool.false_eq_true, ↓reduceIte]
  rw [Ev.bind_iff (markIntS_ev R.1 1 (by omega) (by omega))]
  simp only []
  rw [Ev.bind_iff (heldIntS_ev 1 R.1.length (by omega) (by omega)), Ev.ite_iff, if_neg (by omega)]
  simp only [↓reduceIte]
  rw [Ev.bind_iff hg, Ev.bind_iff hI, Ev.bind_iff (eqIntS_refl R.1 (by omega))]
  simp only [bne_self_eq_false, ↓reduceIte]
  rw [Ev.iff_succ]
  simp only [laws_FnExactLeastDominating.j2, Bool.false_eq_true, ↓reduceIte]
  rw [Ev.bind_iff (heldIntS_ev 1 R.1.length (by omega) (by omega)), Ev.ite_iff, if_neg (by omega)]
  simp only [↓reduceIte, Ev.now_iff]

end Go.Proofs.Ytmokkhfmbenleaa.QLeastDominating
