import Derived.Test.YtbhkimopcliepaaQFarBound0
import Derived.Test.YtbhkimopcliepaaQFarBound10
import Derived.Test.YtbhkimopcliepaaQFarBound11
import Derived.Test.YtbhkimopcliepaaQFarBound6
import Derived.Test.YtbhkimopcliepaaQFarBoundA2
namespace Go.Proofs.Ytbhkimopcliepaa.QFarBound
open Go.RowKit Go.Proofs.YtbhkimopcliepaaW.PrintWords Go.Proofs.YtbhkimopcliepaaW.PrintLast Go.Proofs.YtbhkimopcliepaaW.PrintMore
attribute [local go_sem] max2_int min2_int max_two min_two max_three min_three max_four min_four   -- for this text's walks alone
set_option linter.unusedVariables false
set_option linter.unusedSimpArgs false
theorem specFarBound_l0 {es : List S100} {n : Nat} (hn : n ≤ 8) (hl : es.length ≤ 9223372036854775807) : ∀ (d i : Nat) (m : Int), i + d = 9 → 1 ≤ i → Ev (fun k => spec_FarBound.l0 k m i n es) (fbM es n d i m, true)
  | 0, i, m, hd, hi => by
    rw [Ev.iff_succ]
    simp only [spec_FarBound.l0, Ev.ite_iff]
    rw [if_neg (by omega), Ev.now_iff, fbM]
  | d + 1, i, m, hd, hi => by
    rw [Ev.iff_succ]
    simp only [spec_FarBound.l0, Ev.ite_iff]
    rw [if_pos (by omega), Ev.bind_iff (l8Largest_ev es n i hn (by omega) hl)]
    simp only [w64_succ i (show i < 9223372036854775807 by omega), l1Least_eq, l1Most_eq, Option.bind_some, fbM]
    exact specFarBound_l0 hn hl d (i + 1) _ (by omega) (by omega)

theorem implFarBound_l0 {es : List S100} {n : Nat} (hn : n ≤ 8) (hg : okG n es = true) : ∀ (d i : Nat) (m : Int), i + d = 9 → 1 ≤ i → Ev (fun k => impl_FarBound.l0 k m i n es) (fbM es n d i m, true)
  | 0, i, m, hd, hi => by
    rw [Ev.iff_succ]
    simp only [impl_FarBound.l0, Ev.ite_iff]
    rw [if_neg (by omega), Ev.now_iff, fbM]
  | d + 1, i, m, hd, hi => by
    rw [Ev.iff_succ]
    simp only [impl_FarBound.l0, Ev.ite_iff]
    rw [if_pos (by omega), netOf_eq hg]
    simp only [Option.bind_some]
    rw [Ev.bind_iff (largestFar_ev es n i hn)]
    simp only [w64_succ i (show i < 9223372036854775807 by omega), fbM]
    have e : mx m (mn ((i + 1 : Nat) : Int) ((bl n (farBest es n i)).length : Int)) = (if m > (if (i : Int) + 1 < ((bl n (farBest es n i)).length : Int) then (i : Int) + 1 else ((bl n (farBest es n i)).length : Int)) then m else (if (i : Int) + 1 < ((bl n (farBest es n i)).length : Int) then (i : Int) + 1 else ((bl n (farBest es n i)).length : Int))) := by
      unfold mx mn
      split <;> split <;> split <;> omega
    rw [e]
    exact implFarBound_l0 hn hg d (i + 1) _ (by omega) (by omega)

theorem specFarBound_ev (n : Int) (es : List S100) (he : es.length ≤ 9223372036854775807) : Ev (fun k => spec_FarBound.f k n es) (farBoundR n es) := by
  unfold spec_FarBound.f farBoundR
  rw [l2Good_eq]
  simp only [Option.bind_some, Ev.ite_iff]
  by_cases h : okG n es = true
  · obtain ⟨N, rfl, hN⟩ := okG_use h
    rw [if_pos h, if_pos h]
    exact specFarBound_l0 hN he 8 1 0 (by omega) (by omega)
  · rw [if_neg h, if_neg h, Ev.now_iff]

theorem implFarBound_ev (n : Int) (es : List S100) : Ev (fun k => impl_FarBound.f k n es) (farBoundR n es) := by
  unfold impl_FarBound.f farBoundR
  rw [IsGraph_eq]
  simp only [Option.bind_some, Ev.ite_iff]
  by_cases h : okG n es = true
  · obtain ⟨N, rfl, hN⟩ := okG_use h
    rw [if_pos h, if_pos h]
    exact implFarBound_l0 hN h 8 1 0 (by omega) (by omega)
  · rw [if_neg h, if_neg h, Ev.now_iff]

theorem FnExactFarBound_pure (n : Int) (es : List S100) (he : es.length ≤ 9223372036854775807) : Ev (fun k => laws_FnExactFarBound.f k n es) true := by
  unfold laws_FnExactFarBound.f
  rw [szGraph_eq n es (by omega)]
  simp only [Option.bind_some, Ev.ite_iff]
  by_cases hs : es.length ≤ 1048576
  case neg => rw [if_neg hs, if_pos (by omega), Ev.now_iff]
  rw [if_pos hs, if_neg (by omega)]
  have hg := toGraph_ev n es (by omega)
  have hS := specFarBound_ev n es  (by omega)
  have hI := implFarBound_ev n es 
  generalize farBoundR n es = R at hS hI
  rw [Ev.bind_iff hg, Ev.bind_iff hS, Ev.bind_iff hg, Ev.bind_iff hI]
  simp only [bne_self_eq_false, Bool.false_eq_true, ↓reduceIte]
  rw [Ev.iff_succ]
  simp only [laws_FnExactFarBound.j0, Bool.false_eq_true, ↓reduceIte]
  rw [Ev.bind_iff hg, Ev.bind_iff (eqGraph_refl n es he)]
  simp only [↓reduceIte]
  rw [Ev.now_iff]

end Go.Proofs.Ytbhkimopcliepaa.QFarBound
