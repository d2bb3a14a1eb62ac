import Derived.Test.YtaddgielnfhhpaaQLeastCliqueCover0
import Derived.Test.YtaddgielnfhhpaaQLeastCliqueCover10
import Derived.Test.YtaddgielnfhhpaaQLeastCliqueCover12
import Derived.Test.YtaddgielnfhhpaaQLeastCliqueCover9
import Derived.Test.YtaddgielnfhhpaaQLeastCliqueCoverA2
namespace Go.Proofs.Ytaddgielnfhhpaa.QLeastCliqueCover
open Go.RowKit Go.Proofs.YtaddgielnfhhpaaW.PrintWords Go.Proofs.YtaddgielnfhhpaaW.PrintLast Go.Proofs.YtaddgielnfhhpaaW.PrintMore
attribute [local go_sem] max2_int min2_int max_two min_two max_three min_three max_four min_four   -- for this text's walks alone
set_option linter.unusedVariables false
set_option linter.unusedSimpArgs false
theorem implLeastCliqueCover_ev (n : Int) (es : List S80) : Ev (fun k => impl_LeastCliqueCover.f k n es) (leastCliqueCoverR n es) := by
 unfold impl_LeastCliqueCover.f leastCliqueCoverR
 rw [IsGraph_eq]
 simp only [Option.bind_some, Ev.ite_iff]
 by_cases h : okG n es = true
 ·have hnet := netOf_eq (n := n.toNat) (es := es) (by obtain ⟨N, rfl, hN⟩ := okG_use h;simpa using h)
  obtain ⟨N, rfl, hN⟩ := okG_use h
  rw [Int.toNat_natCast] at hnet
  rw [if_pos h, if_pos h, hnet]
  simp only [Option.bind_some, Int.toNat_natCast]
  rw [w64_succ N (by omega)]
  have rows : ∀ (cs : List Nat), cs.length ≤ 8 → (∀ c ∈ cs, c < 2 ^ N) → Ev (fun k => impl_LeastCliqueCover.l1 k [] (cs.map fun (c : Nat) => (c : Int)) ((cs.map fun (c : Nat) => (c : Int)).length : Int) 0) (rowsC N cs, true) := by
   intro cs hl hlt
   have hil0 : (cs.map fun (c : Nat) => (c : Int)).length = cs.length := List.length_map _
   have G := down cs.length (fun j => Ev (fun k => impl_LeastCliqueCover.l1 k ((rowsC N cs).take j) (cs.map fun (c : Nat) => (c : Int)) (cs.length : Int) j) (rowsC N cs, true)) ?_ ?_ 0 (by omega)
   ·rw [hil0];exact G
   ·show Ev _ _
    rw [Ev.iff_succ]
    simp only [impl_LeastCliqueCover.l1, Int.lt_irrefl, ↓reduceIte, Ev.now_iff]
    rw [List.take_of_length_le (by rw [rowsC, List.length_map];exact Nat.le_refl _)]
   ·intro j hj jh
    show Ev _ _
    rw [Ev.iff_succ]
    simp only [impl_LeastCliqueCover.l1, hil0]
    have hrl : (rowsC N cs).length = cs.length := by rw [rowsC, List.length_map]
    have hjl : j < (rowsC N cs).length := by omega
    have e1 : bl N (cs.getD j 0) = (rowsC N cs)[j] := by rw [List.getD_eq_getElem?_getD, List.getElem?_eq_getElem hj];simp [rowsC]
    have hc : cs.getD j 0 < 2 ^ N := by rw [List.getD_eq_getElem?_getD, List.getElem?_eq_getElem hj];exact hlt _ (List.getElem_mem hj)
    rw [Ev.ite_iff, if_pos (by omega), Ev.ite_iff, if_pos (by omega), Ev.ite_iff, if_pos (by omega), intsC_rd hj, Ev.bind_iff (setOf_ev N _ hN hc), Ev.ite_iff, if_pos (by rw [List.length_take];omega), w64_succ j (by omega), e1, List.take_append_getElem hjl]
    exact jh
  have H := down (N + 1) (fun m => Ev (fun k => impl_LeastCliqueCover.l0 k ((N + 1 : Nat) : Int) m (nets es N)) (if ((((List.range (N + 1)).drop m).findSome? fun m => filC es N m N []).isSome) = true then (rowsC N ((((List.range (N + 1)).drop m).findSome? fun m => filC es N m N []).getD []), true) else ([], false))) ?_ ?_ 0 (by omega)
  ·have hs : (coverC es N).isSome = true := by
    unfold coverC
    rw [List.findSome?_isSome_iff]
    exact ⟨N, List.mem_range.2 (Nat.lt_succ_self N), filC_some N [] (Nat.le_refl _) (by simp)⟩
   have H' : Ev (fun k => impl_LeastCliqueCover.l0 k ((N + 1 : Nat) : Int) 0 (nets es N)) (if (coverC es N).isSome = true then (rowsC N ((coverC es N).getD []), true) else ([], false)) := by simpa [coverC] using H
   rw [if_pos hs] at H'
   exact H'
  ·show Ev _ _
   rw [List.drop_eq_nil_of_le (by rw [List.length_range];exact Nat.le_refl _), Ev.iff_succ]
   simp only [impl_LeastCliqueCover.l0, Int.lt_irrefl, ↓reduceIte, List.findSome?_nil, Option.isSome_none, Bool.false_eq_true, Ev.now_iff]
  ·intro m hm ih
   show Ev _ _
   have hF := coverBy_ev (es := es) (n := N) (m := m) hN (by omega) N [] (Nat.le_refl _) (cov_nil _)
   rw [Nat.sub_self] at hF
   replace hF : Ev (fun k => impl_net_coverBy.f k (nets es N) m 0 []) (maskC (filC es N m N [])) := hF
   rw [findSome_drop hm, Ev.iff_succ]
   simp only [impl_LeastCliqueCover.l0]
   rw [Ev.ite_iff, if_pos (by omega), Ev.bind_iff hF]
   cases hc : filC es N m N [] with
   | none =>
    simp only [maskC, Option.none_or, Bool.false_eq_true, ↓reduceIte]
    rw [w64_succ m (by omega)]
    exact ih
   | some r =>
    simp only [maskC, Option.some_or, ↓reduceIte, Option.isSome_some, Option.getD_some]
    have hl := filC_len N [] r hc
    exact rows r (by simp at hl;omega) (filC_lt N [] r (Nat.le_refl _) (by rw [Nat.sub_self];exact cov_nil 0) hc)
 ·rw [if_neg h, if_neg h, Ev.now_iff]

theorem FnExactLeastCliqueCover_pure (n : Int) (es : List S80) (he : es.length ≤ 9223372036854775807) : Ev (fun k => laws_FnExactLeastCliqueCover.f k n es) true := by
 unfold laws_FnExactLeastCliqueCover.f
 rw [szGraph_eq n es (by omega)]
 simp only [Option.bind_some, Ev.ite_iff]
 by_cases hs : es.length ≤ 1048576
 case neg => rw [if_neg hs, if_pos (by omega), Ev.now_iff]
 rw [if_pos hs, if_neg (by omega)]
 have hg := toGraph_ev n es (by omega)
 obtain ⟨hR1, hR2, hR3⟩ := leastCliqueCoverR_len n es
 have hS := specLeastCliqueCover_ev n es  (by omega)
 have hI := implLeastCliqueCover_ev n es 
 generalize leastCliqueCoverR n es = R at hR1 hR2 hR3 hS hI
 rw [Ev.bind_iff hg, Ev.bind_iff hS, Ev.bind_iff hg, Ev.bind_iff hI]
 have hq := eqIntSS_refl R.1 (by omega) (fun r hr => by have := hR2 r hr;omega)
 rw [Ev.bind_iff hq]
 simp only [bne_self_eq_false, Bool.false_eq_true, ↓reduceIte]
 rw [Ev.iff_succ]
 simp only [laws_FnExactLeastCliqueCover.j0, Bool.false_eq_true, ↓reduceIte]
 rw [Ev.bind_iff hg, Ev.bind_iff (eqGraph_refl n es he)]
 simp only [↓reduceIte]
 obtain ⟨rm, hm⟩ := markGraph_eq n es 1 (by omega) (by omega)
 rw [hm]
 simp only [Option.bind_some]
 rw [Ev.ite_iff, if_neg (by omega), Ev.bind_iff hq]
 simp only [bne_self_eq_false, ↓reduceIte]
 rw [Ev.iff_succ]
 simp only [laws_FnExactLeastCliqueCover.j1, Bool.false_eq_true, ↓reduceIte]
 rw [Ev.bind_iff (markIntSS_ev R.1 1 (by omega) (by omega) (by omega))]
 simp only []
 rw [Ev.bind_iff (heldIntSS_ev 1 (R.1.map List.length) (by omega) (by rw [List.length_map];omega) (by omega)), Ev.ite_iff, if_neg (by omega)]
 simp only [↓reduceIte]
 rw [Ev.bind_iff hg, Ev.bind_iff hI, Ev.bind_iff hq]
 simp only [bne_self_eq_false, ↓reduceIte]
 rw [Ev.iff_succ]
 simp only [laws_FnExactLeastCliqueCover.j2, Bool.false_eq_true, ↓reduceIte]
 rw [Ev.bind_iff (heldIntSS_ev 1 (R.1.map List.length) (by omega) (by rw [List.length_map];omega) (by omega)), Ev.ite_iff, if_neg (by omega)]
 simp only [↓reduceIte, Ev.now_iff]

end Go.Proofs.Ytaddgielnfhhpaa.QLeastCliqueCover
