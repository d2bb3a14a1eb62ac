import Derived.Test.YtlbnpdkhghcejaaQLargestFarSet0
import Derived.Test.YtlbnpdkhghcejaaQLargestFarSet11
import Derived.Test.YtlbnpdkhghcejaaQLargestFarSet12
import Derived.Test.YtlbnpdkhghcejaaQLargestFarSet13
import Derived.Test.YtlbnpdkhghcejaaQLargestFarSet2
import Derived.Test.YtlbnpdkhghcejaaQLargestFarSet5
import Derived.Test.YtlbnpdkhghcejaaQLargestFarSet6
import Derived.Test.YtlbnpdkhghcejaaQLargestFarSet7
import Derived.Test.YtlbnpdkhghcejaaQLargestFarSetA2
namespace Go.Proofs.Ytlbnpdkhghcejaa.QLargestFarSet
open Go.RowKit Go.Proofs.YtlbnpdkhghcejaaW.PrintWords Go.Proofs.YtlbnpdkhghcejaaW.PrintLast Go.Proofs.YtlbnpdkhghcejaaW.PrintMore
attribute [local go_sem] max2_int min2_int max_two min_two max_three min_three max_four min_four   -- for this text's walks alone
set_option linter.unusedVariables false
set_option linter.unusedSimpArgs false
theorem l8Far_ev (es : List S75) (n : Nat) (kk : Int) (l : List Int) (hk : 1 ≤ kk ∧ kk ≤ 8) (hl : l.length ≤ 9223372036854775806) (hr : ∀ x ∈ l, 0 ≤ x ∧ x < (n : Int)) : Ev (fun k => spec_l8Far.f k (distL es n) l kk) (farR (distL es n) kk [] l) := by
  have H := down l.length (fun i => Ev (fun k => spec_l8Far.l0 k (distL es n) l kk i) (farR (distL es n) kk (l.take i) (l.drop i))) ?_ ?_ 0 (by omega)
  · exact H
  · show Ev _ _
    rw [Ev.iff_succ]
    simp only [spec_l8Far.l0, Int.lt_irrefl, ↓reduceIte, Ev.now_iff, List.drop_length, farR]
  · intro i hi ih
    show Ev _ _
    rw [Ev.iff_succ]
    have h1 : (i : Int) < (l.length : Int) := by omega
    simp only [spec_l8Far.l0, h1, ↓reduceIte]
    rw [List.drop_eq_getElem_cons hi, farR]
    refine l8Far_l1 hk hl hr hi ?_
    rw [List.take_succ_eq_append_getElem hi] at ih
    exact ih

theorem bl_nodes {n m : Nat} : ∀ x ∈ bl n m, 0 ≤ x ∧ x < (n : Int) := fun x hx => by
  obtain ⟨i, h1, _, rfl⟩ := mem_bl.1 hx
  omega

def farB (es : List S75) (n : Nat) (r : Int) (c : Nat) : Bool := farR (distL es n) r [] (bl n c)

theorem l8Largest_l0 {es : List S75} {n : Nat} {r : Int} (hn : n ≤ 8) (h3 : 1 ≤ r ∧ r ≤ 8) : ∀ (d c b : Nat), 2 ^ n = c + d → b < 2 ^ n →
    Ev (fun k => spec_l8Largest.l0 k r (bl n b) (distL es n) c n es) (bl n (bestG (farB es n r) n d c b))
  | 0, c, b, hd, hb => by
    rw [Ev.iff_succ]
    have h2 : (0 : Int) ≤ n := by omega
    simp only [spec_l8Largest.l0, h2, ↓reduceIte, shl_one (show n < 62 by omega), Ev.ite_iff]
    rw [if_neg (by omega), Ev.now_iff, bestG]
  | d + 1, c, b, hd, hb => by
    rw [Ev.iff_succ]
    have h2 : (0 : Int) ≤ n := by omega
    have hc : c < 2 ^ n := by omega
    have h8 := p8 hn
    have hbl := bl_len_le n c
    have ih0 := l8Largest_l0 (es := es) (r := r) hn h3 d (c + 1) b (by omega) hb
    have ih1 := l8Largest_l0 (es := es) (r := r) hn h3 d (c + 1) c (by omega) hc
    simp only [spec_l8Largest.l0, h2, ↓reduceIte, shl_one (show n < 62 by omega), Ev.ite_iff]
    rw [if_pos (by omega), Ev.bind_iff (l2Bits_ev n c hn hc), Ev.bind_iff (l8Far_ev es n r _ h3 (by omega) bl_nodes)]
    simp only [Ev.ite_iff, w64_succ c (show c < 9223372036854775807 by omega), bestG]
    show if farB es n r c = true then _ else _
    cases hp : farB es n r c
    · rw [if_neg (by simp), Bool.false_and, if_neg (by simp)]; exact ih0
    · rw [if_pos rfl, Bool.true_and]
      unfold betG
      by_cases g1 : (bl n c).length > (bl n b).length
      · rw [if_pos (by omega), if_pos (by simp [g1])]; exact ih1
      · rw [if_neg (by omega)]
        by_cases g2 : (bl n c).length = (bl n b).length
        · rw [if_pos (by omega), Ev.bind_iff (l4Less_ev _ _ g2 (by omega)), Ev.ite_iff]
          cases g3 : lexLt (bl n c) (bl n b)
          · rw [if_neg (by simp), if_neg (by simp [g1])]; exact ih0
          · rw [if_pos rfl, if_pos (by simp [g2])]; exact ih1
        · rw [if_neg (by omega), if_neg (by simp [g1, g2])]; exact ih0

def farBest (es : List S75) (n : Nat) (r : Int) : Nat := bestG (farB es n r) n (2 ^ n) 0 0

theorem l8Largest_ev (es : List S75) (n : Nat) (r : Int) (hn : n ≤ 8) (h3 : 1 ≤ r ∧ r ≤ 8) (hl : es.length ≤ 9223372036854775807) : Ev (fun k => spec_l8Largest.f k n es r) (bl n (farBest es n r)) := by
  unfold spec_l8Largest.f
  rw [Ev.bind_iff (l2Dist_ev es n hn hl)]
  have := l8Largest_l0 (es := es) hn h3 (2 ^ n) 0 0 (by omega) (Nat.two_pow_pos n)
  rw [bl_zero] at this
  exact this

theorem largestFar_l0 {es : List S75} {n : Nat} {r : Int} (hn : n ≤ 8) : ∀ (d c b : Nat), 2 ^ n = c + d → b < 2 ^ n →
    Ev (fun k => impl_net_largestFar.l0 k r (distL es n) (bl n b) ((2 ^ n : Nat) : Int) c) (bl n (bestG (farB es n r) n d c b))
  | 0, c, b, hd, hb => by
    rw [Ev.iff_succ]
    simp only [impl_net_largestFar.l0, Ev.ite_iff]
    rw [if_neg (by omega), Ev.now_iff, bestG]
  | d + 1, c, b, hd, hb => by
    rw [Ev.iff_succ]
    have hc : c < 2 ^ n := by omega
    have h8 := p8 hn
    have ih0 := largestFar_l0 (es := es) (r := r) hn d (c + 1) b (by omega) hb
    have ih1 := largestFar_l0 (es := es) (r := r) hn d (c + 1) c (by omega) hc
    have hf : impl_isFar.f (distL es n) (bl n c) r = some (farB es n r c) := by
      unfold impl_isFar.f
      rw [farGo_eq _ _ (by simpa using bl_nodes)]; rfl
    simp only [impl_net_largestFar.l0, Ev.ite_iff]
    rw [if_pos (by omega), Ev.bind_iff (setOf_ev n c hn hc), Ev.bind_iff (isBetter_ev hn)]
    simp only [Ev.ite_iff, w64_succ c (show c < 9223372036854775807 by omega), bestG, hf, Option.bind_some]
    cases betG n c b
    · rw [if_neg (by simp), Bool.and_false, if_neg (by simp)]; exact ih0
    · rw [if_pos rfl, Bool.and_true]
      cases farB es n r c
      · rw [if_neg (by simp), if_neg (by simp)]; exact ih0
      · rw [if_pos rfl, if_pos rfl]; exact ih1

theorem largestFar_ev (es : List S75) (n : Nat) (r : Int) (hn : n ≤ 8) : Ev (fun k => impl_net_largestFar.f k (nets es n) r) (bl n (farBest es n r)) := by
  unfold impl_net_largestFar.f
  have hp := Nat.two_pow_pos n
  have h8 := p8 hn
  rw [Ev.bind_iff (implDist_ev es n hn), all_eq hn]
  simp only [Option.bind_some]
  rw [w64_succ _ (by omega), show 2 ^ n - 1 + 1 = 2 ^ n by omega]
  have := largestFar_l0 (es := es) (r := r) hn (2 ^ n) 0 0 (by omega) hp
  rw [bl_zero] at this
  exact this

def largestFarSetR (n : Int) (es : List S75) (r : Int) : List Int × Bool := if okG n es = true ∧ (1 ≤ r ∧ r ≤ 8) then (bl n.toNat (farBest es n.toNat r), true) else ([], false)

theorem largestFarSetR_len (n : Int) (es : List S75) (r : Int) : (largestFarSetR n es r).1.length ≤ 1048576 := by
  unfold largestFarSetR
  split
  · rename_i h
    obtain ⟨N, rfl, hN⟩ := okG_use h.1
    have := bl_len_le N (farBest es N r)
    simp only [Int.toNat_natCast]; omega
  · simp

theorem specLargestFarSet_ev (n : Int) (es : List S75) (r : Int) (_ : (Lit.int .i64 r).wf = true) (he : es.length ≤ 9223372036854775807) : Ev (fun k => spec_LargestFarSet.f k n es r) (largestFarSetR n es r) := by
  unfold spec_LargestFarSet.f largestFarSetR
  rw [l2Good_eq]
  simp only [Option.bind_some, Ev.ite_iff, spec_l8Number.f, l1In_eq]
  by_cases h : okG n es = true
  · obtain ⟨N, rfl, hN⟩ := okG_use h
    rw [if_pos h]
    simp only [Bool.not_eq_true', decide_eq_true_eq, h, true_and, Int.toNat_natCast]
    by_cases h3 : 1 ≤ r ∧ r ≤ 8
    · rw [if_pos h3, if_pos h3, Ev.bind_iff (l8Largest_ev es N r hN h3 he), Ev.now_iff]
    · rw [if_neg h3, if_neg h3, Ev.now_iff]
  · rw [if_neg h, Ev.now_iff]
    simp only [↓reduceIte, h, false_and, Bool.false_eq_true]

theorem implLargestFarSet_ev (n : Int) (es : List S75) (r : Int) (_ : (Lit.int .i64 r).wf = true) : Ev (fun k => impl_LargestFarSet.f k n es r) (largestFarSetR n es r) := by
  unfold impl_LargestFarSet.f largestFarSetR
  rw [IsGraph_eq]
  simp only [Option.bind_some, Ev.ite_iff, within_eq]
  by_cases h : okG n es = true
  · obtain ⟨N, rfl, hN⟩ := okG_use h
    rw [if_pos h, Ev.iff_succ]
    simp only [impl_LargestFarSet.j0, Ev.ite_iff, Bool.not_eq_true', decide_eq_false_iff_not, h, true_and, Int.toNat_natCast]
    by_cases h3 : 1 ≤ r ∧ r ≤ 8
    · rw [if_neg (by simp [h3]), if_pos h3, netOf_eq h]
      simp only [Option.bind_some]
      rw [Ev.bind_iff (largestFar_ev es N r hN), Ev.now_iff]
    · rw [if_pos h3, if_neg h3, Ev.now_iff]
  · rw [if_neg h, Ev.iff_succ]
    simp only [impl_LargestFarSet.j0, ↓reduceIte, Ev.now_iff, h, false_and, Bool.false_eq_true]

theorem FnExactLargestFarSet_pure (n : Int) (es : List S75) (a : Int) (he : es.length ≤ 9223372036854775807) (ha : (Lit.int .i64 a).wf = true) : Ev (fun k => laws_FnExactLargestFarSet.f k n es a) true := by
  unfold laws_FnExactLargestFarSet.f
  rw [szGraph_eq n es (by omega)]
  simp only [Option.bind_some, Ev.ite_iff]
  by_cases hs : es.length ≤ 1048576
  case neg => rw [if_neg hs, if_pos (by omega), Ev.now_iff]
  rw [if_pos hs, if_neg (by omega)]
  have hg := toGraph_ev n es (by omega)
  have hq9 := largestFarSetR_len n es a
  have hS := specLargestFarSet_ev n es a ha (by omega)
  have hI := implLargestFarSet_ev n es a ha
  generalize largestFarSetR n es a = R at hq9 hS hI
  rw [Ev.bind_iff hg, Ev.bind_iff hS, Ev.bind_iff hg, Ev.bind_iff hI]
  rw [Ev.bind_iff (eqIntS_refl R.1 (by omega))]
  simp only [bne_self_eq_false, Bool.false_eq_true, ↓reduceIte]
  rw [Ev.iff_succ]
  simp only [laws_FnExactLargestFarSet.j0, Bool.false_eq_true, ↓reduceIte]
  rw [Ev.bind_iff hg, Ev.bind_iff (eqGraph_refl n es he)]
  simp only [↓reduceIte]
  obtain ⟨rm, hm⟩ := markGraph_eq n es 1 (by omega) (by omega)
  rw [hm]
  simp only [Option.bind_some]
  rw [Ev.ite_iff, if_neg (by omega), Ev.bind_iff (eqIntS_refl R.1 (by omega))]
  simp only [bne_self_eq_false, ↓reduceIte]
  rw [Ev.iff_succ]
  simp only [laws_FnExactLargestFarSet.j1, Bool.false_eq_true, ↓reduceIte]
  rw [Ev.bind_iff (markIntS_ev R.1 1 (by omega) (by omega))]
  simp only []
  rw [Ev.bind_iff (heldIntS_ev 1 R.1.length (by omega) (by omega)), Ev.ite_iff, if_neg (by omega)]
  simp only [↓reduceIte]
  rw [Ev.bind_iff hg, Ev.bind_iff hI, Ev.bind_iff (eqIntS_refl R.1 (by omega))]
  simp only [bne_self_eq_false, ↓reduceIte]
  rw [Ev.iff_succ]
  simp only [laws_FnExactLargestFarSet.j2, Bool.false_eq_true, ↓reduceIte]
  rw [Ev.bind_iff (heldIntS_ev 1 R.1.length (by omega) (by omega)), Ev.ite_iff, if_neg (by omega)]
  simp only [↓reduceIte, Ev.now_iff]

end Go.Proofs.Ytlbnpdkhghcejaa.QLargestFarSet
