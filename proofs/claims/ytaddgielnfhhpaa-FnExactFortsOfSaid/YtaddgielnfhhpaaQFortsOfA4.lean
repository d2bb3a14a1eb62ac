import Derived.Test.YtaddgielnfhhpaaQFortsOf0
import Derived.Test.YtaddgielnfhhpaaQFortsOf14
import Derived.Test.YtaddgielnfhhpaaQFortsOf15
import Derived.Test.YtaddgielnfhhpaaQFortsOfA3
namespace Go.Proofs.Ytaddgielnfhhpaa.QFortsOf
open Go.RowKit Go.Proofs.YtaddgielnfhhpaaW.PrintWords Go.Proofs.YtaddgielnfhhpaaW.PrintLast Go.Proofs.YtaddgielnfhhpaaW.PrintMore
attribute [local go_sem] max2_int min2_int max_two min_two max_three min_three max_four min_four   -- for this text's walks alone
set_option linter.unusedVariables false
set_option linter.unusedSimpArgs false
theorem any_sub {n s : Nat} (hn : n ≤ 8) (hs : s < 2 ^ n) : ∀ {acc : List Nat}, (∀ f ∈ acc, f < 2 ^ n) → (isI acc).any (subF (s : Int)) = !okF acc s
 | [], _ => rfl
 | f :: acc, h => by
  have hf := h f List.mem_cons_self
  have ih := any_sub hn hs (acc := acc) (fun g hg => h g (List.mem_cons_of_mem _ hg))
  unfold isI okF at *
  rw [List.map_cons, List.any_cons, List.all_cons, ih]
  have e : subF (s : Int) (f : Int) = decide (mns f s = 0) := by
   unfold subF
   rw [gandn f s (lt62 hn hf) (lt62 hn hs)]
   by_cases e : mns f s = 0
   ·rw [e];rfl
   ·rw [decide_eq_false e];exact beq_eq_false_iff_ne.2 (by omega)
  rw [e]
  cases decide (mns f s = 0) <;> simp

theorem implFortsOf_ev (n : Int) (es : List S80) : Ev (fun k => impl_FortsOf.f k n es) (fortsOfR n es) := by
 unfold impl_FortsOf.f fortsOfR
 rw [IsGraph_eq]
 simp only [Option.bind_some, Ev.ite_iff]
 by_cases h : okG n es = true
 ·have hnet := netOf_eq (n := n.toNat) (es := es) (by obtain ⟨N, rfl, hN⟩ := okG_use h;simpa using h)
  obtain ⟨N, rfl, hN⟩ := okG_use h
  have h8 := p8 hN
  rw [Int.toNat_natCast] at hnet
  rw [if_pos h, if_pos h, hnet]
  simp only [Option.bind_some, Int.toNat_natCast]
  have hcl := setsC_len N
  have hil : (isI (setsC N)).length = (setsC N).length := isI_len _
  rw [Ev.bind_iff (setsInOrder_ev hN), setsC_ints hN, hil]
  have rows : ∀ (cs : List Nat), cs.length ≤ 256 → (∀ c ∈ cs, c < 2 ^ N) → Ev (fun k => impl_FortsOf.l1 k [] (isI cs) ((isI cs).length : Int) 0) (cs.map (bl N), true) := by
   intro cs hl hlt
   have hil0 : (isI cs).length = cs.length := isI_len _
   have G := down cs.length (fun j => Ev (fun k => impl_FortsOf.l1 k ((cs.map (bl N)).take j) (isI cs) (cs.length : Int) j) (cs.map (bl N), true)) ?_ ?_ 0 (by omega)
   ·rw [hil0];exact G
   ·show Ev _ _
    rw [Ev.iff_succ]
    simp only [impl_FortsOf.l1, Int.lt_irrefl, ↓reduceIte, Ev.now_iff]
    rw [List.take_of_length_le (by rw [List.length_map];exact Nat.le_refl _)]
   ·intro j hj jh
    show Ev _ _
    rw [Ev.iff_succ]
    simp only [impl_FortsOf.l1, hil0]
    have hrl : (cs.map (bl N)).length = cs.length := List.length_map _
    have hjl : j < (cs.map (bl N)).length := by omega
    have e1 : bl N cs[j] = (cs.map (bl N))[j] := by simp
    rw [Ev.ite_iff, if_pos (by omega), Ev.ite_iff, if_pos (by omega), Ev.ite_iff, if_pos (by omega), isI_rd hj, Ev.bind_iff (setOf_ev N _ hN (hlt _ (List.getElem_mem hj))), Ev.ite_iff, if_pos (by rw [List.length_take];omega), w64_succ j (by omega), e1, List.take_append_getElem hjl]
    exact jh
  have H := down (setsC N).length (fun i => ∀ acc : List Nat, acc.length ≤ i → (∀ f ∈ acc, f < 2 ^ N) → Ev (fun k => impl_FortsOf.l0 k (isI acc) (isI (setsC N)) ((setsC N).length : Int) i (nets es N)) ((fortL es N acc ((setsC N).drop i)).map (bl N), true)) ?_ ?_ 0 (by omega)
  ·exact H [] (Nat.le_refl _) (fun f hf => by cases hf)
  ·intro acc hal hac
   show Ev _ _
   rw [List.drop_eq_nil_of_le (Nat.le_refl _), Ev.iff_succ]
   simp only [impl_FortsOf.l0, Int.lt_irrefl, ↓reduceIte]
   exact rows acc (by omega) hac
  ·intro i hi ih acc hal hac
   show Ev _ _
   have hs := (setsC_mem hN).1 (List.getElem_mem hi)
   have hrd := isI_rd hi
   rw [fortL_drop hi]
   generalize (setsC N)[i] = s at hs hrd
   have ih := ih (fortS es N acc s) (by have := fortS_len es N acc s;omega) (fortS_lt hac hs)
   have hal2 : (isI acc).length = acc.length := isI_len _
   rw [Ev.iff_succ]
   simp only [impl_FortsOf.l0, hil, hrd, Option.bind_some, any_sub hN hs hac, w64_succ i (show i < 9223372036854775807 by omega)]
   rw [Ev.ite_iff, if_pos (by omega), Ev.ite_iff, if_pos (by omega), Ev.ite_iff, if_pos (by omega), Ev.bind_iff (isFort_ev hN hs), Ev.ite_iff]
   unfold fortS at ih ⊢
   cases hb : fortB es N s with
   | false =>
    rw [hb] at ih
    simp only [Bool.false_and, Bool.false_eq_true, ↓reduceIte] at ih ⊢
    exact ih
   | true =>
    rw [hb] at ih
    rw [if_pos rfl, Ev.ite_iff]
    cases ho : okF acc s with
    | false =>
     rw [ho] at ih
     simp only [Bool.and_false, Bool.not_false, Bool.false_eq_true, ↓reduceIte] at ih ⊢
     exact ih
    | true =>
     rw [ho] at ih
     rw [if_neg (by decide), Ev.ite_iff, if_pos (by omega)]
     simp only [Bool.and_true, ↓reduceIte] at ih ⊢
     have e : isI (acc ++ [s]) = isI acc ++ [(s : Int)] := by unfold isI;rw [List.map_append];rfl
     rw [e] at ih
     exact ih
 ·rw [if_neg h, if_neg h, Ev.now_iff]

theorem FnExactFortsOf_pure (n : Int) (es : List S80) (he : es.length ≤ 9223372036854775807) : Ev (fun k => laws_FnExactFortsOf.f k n es) true := by
 unfold laws_FnExactFortsOf.f
 rw [szGraph_eq n es (by omega)]
 simp only [Option.bind_some, Ev.ite_iff]
 by_cases hs : es.length ≤ 1048576
 case neg => rw [if_neg hs, if_pos (by omega), Ev.now_iff]
 rw [if_pos hs, if_neg (by omega)]
 have hg := toGraph_ev n es (by omega)
 obtain ⟨hR1, hR2, hR3⟩ := fortsOfR_len n es
 have hS := specFortsOf_ev n es  (by omega)
 have hI := implFortsOf_ev n es 
 generalize fortsOfR n es = R at hR1 hR2 hR3 hS hI
 rw [Ev.bind_iff hg, Ev.bind_iff hS, Ev.bind_iff hg, Ev.bind_iff hI]
 have hq := eqIntSS_refl R.1 (by omega) (fun r hr => by have := hR2 r hr;omega)
 rw [Ev.bind_iff hq]
 simp only [bne_self_eq_false, Bool.false_eq_true, ↓reduceIte]
 rw [Ev.iff_succ]
 simp only [laws_FnExactFortsOf.j0, Bool.false_eq_true, ↓reduceIte]
 rw [Ev.bind_iff hg, Ev.bind_iff (eqGraph_refl n es he)]
 simp only [↓reduceIte]
 obtain ⟨rm, hm⟩ := markGraph_eq n es 1 (by omega) (by omega)
 rw [hm]
 simp only [Option.bind_some]
 rw [Ev.ite_iff, if_neg (by omega), Ev.bind_iff hq]
 simp only [bne_self_eq_false, ↓reduceIte]
 rw [Ev.iff_succ]
 simp only [laws_FnExactFortsOf.j1, Bool.false_eq_true, ↓reduceIte]
 rw [Ev.bind_iff (markIntSS_ev R.1 1 (by omega) (by omega) (by omega))]
 simp only []
 rw [Ev.bind_iff (heldIntSS_ev 1 (R.1.map List.length) (by omega) (by rw [List.length_map];omega) (by omega)), Ev.ite_iff, if_neg (by omega)]
 simp only [↓reduceIte]
 rw [Ev.bind_iff hg, Ev.bind_iff hI, Ev.bind_iff hq]
 simp only [bne_self_eq_false, ↓reduceIte]
 rw [Ev.iff_succ]
 simp only [laws_FnExactFortsOf.j2, Bool.false_eq_true, ↓reduceIte]
 rw [Ev.bind_iff (heldIntSS_ev 1 (R.1.map List.length) (by omega) (by rw [List.length_map];omega) (by omega)), Ev.ite_iff, if_neg (by omega)]
 simp only [↓reduceIte, Ev.now_iff]

end Go.Proofs.Ytaddgielnfhhpaa.QFortsOf
