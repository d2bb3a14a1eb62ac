import Derived.Test.YtaddgielnfhhpaaQNullityOf0
import Derived.Test.YtaddgielnfhhpaaQNullityOf1
import Derived.Test.YtaddgielnfhhpaaQNullityOf10
import Derived.Test.YtaddgielnfhhpaaQNullityOf4
import Derived.Test.YtaddgielnfhhpaaQNullityOf6
import Derived.Test.YtaddgielnfhhpaaQNullityOf7
import Derived.Test.YtaddgielnfhhpaaQNullityOf8
import Derived.Test.YtaddgielnfhhpaaQNullityOfA1
namespace Go.Proofs.Ytaddgielnfhhpaa.QNullityOf
open Go.RowKit Go.Proofs.YtaddgielnfhhpaaW.PrintWords Go.Proofs.YtaddgielnfhhpaaW.PrintLast Go.Proofs.YtaddgielnfhhpaaW.PrintMore
attribute [local go_sem] max2_int min2_int max_two min_two max_three min_three max_four min_four   -- for this text's walks alone
set_option linter.unusedVariables false
set_option linter.unusedSimpArgs false
theorem rankWith_ev {n : Nat} {es : List S80} {l : List Int} (hn : n ≤ 8) (hl : l.length = n) : Ev (fun q => impl_net_rankWith.f q (nets es n) l) ((rkE n n (mxE es n l) 0 0 : Nat) : Int) := by
 have hL := mxE_len es n l
 unfold impl_net_rankWith.f impl_net_size.f
 simp only [nets_len, Option.bind_some, Ev.ite_iff, Int.toNat_natCast]
 rw [if_pos (by omega), if_pos (by omega), List.length_replicate]
 have H := down n (fun x => Ev (fun q => impl_net_rankWith.l0 q l (n : Int) ((mxE es n l).take x ++ List.replicate (n - x) []) (n : Int) (x : Int) (nets es n)) ((rkE n n (mxE es n l) 0 0 : Nat) : Int)) ?_ ?_ 0 (by omega)
 ·simpa using H
 ·show Ev _ _
  rw [Ev.iff_succ, List.take_of_length_le (by omega), Nat.sub_self, List.replicate_zero, List.append_nil]
  simp only [impl_net_rankWith.l0, Ev.ite_iff, Int.lt_irrefl, ↓reduceIte]
  exact rankB_ev hn n _ 0 0 (mxE_sq es n l) (by omega) (Nat.le_refl _)
 ·intro x hx ih
  show Ev _ _
  rw [Ev.iff_succ]
  have hP : ((mxE es n l).take x ++ List.replicate (n - x) ([] : List Int)).length = n := by rw [List.length_append, List.length_take, List.length_replicate];omega
  have h1 : (x : Int) < (n : Int) := by omega
  have h2 : (0 : Int) ≤ (n : Int) := by omega
  have h3 : n ≤ 35184372088832 := by omega
  have h4 : (0 : Int) ≤ (x : Int) := by omega
  have h5 : (x : Int) < (((mxE es n l).take x ++ List.replicate (n - x) ([] : List Int)).length : Int) := by rw [hP];omega
  have e := set_fill2 (z := ([] : List Int)) (i := x) hL (by omega)
  rw [mxE_at] at e
  rw [← e] at ih
  simp only [impl_net_rankWith.l0, Ev.ite_iff, h1, h2, h3, h4, h5, ↓reduceIte, Int.toNat_natCast]
  exact rankWith_l1 hn hl hP hx ih

theorem specNullity_l0 {n : Nat} {es : List S80} {l : List Int} (hn : n ≤ 8) (he : es.length ≤ 9223372036854775807) (hl : l.length = n) : Ev (fun k => spec_NullityOf.l0 k l 0 (n : Int) es) (if allIn 0 10006 l = true then (wrap64 ((n : Int) - ((rkE n n (mxE es n l) 0 0 : Nat) : Int)), true) else (0, false)) := by
 have H := down n (fun i => Ev (fun k => spec_NullityOf.l0 k l (i : Int) (n : Int) es) (if allIn 0 10006 (l.drop i) = true then (wrap64 ((n : Int) - ((rkE n n (mxE es n l) 0 0 : Nat) : Int)), true) else (0, false))) ?_ ?_ 0 (by omega)
 ·exact H
 ·show Ev _ _
  rw [Ev.iff_succ, List.drop_eq_nil_of_le (by omega)]
  simp only [spec_NullityOf.l0, Ev.ite_iff, Int.lt_irrefl, ↓reduceIte]
  rw [Ev.bind_iff (matrix_ev hn he hl), Ev.bind_iff (show Ev (fun q => spec_l9Rank.f q (mxE es n l)) _ from rank_ev hn n _ 0 0 (mxE_sq es n l) (by omega) (Nat.le_refl _)), Ev.now_iff]
  rfl
 ·intro i hi ih
  show Ev _ _
  rw [Ev.iff_succ]
  have h1 : (i : Int) < (n : Int) := by omega
  have h2 : (0 : Int) ≤ (i : Int) := by omega
  have h3 : (i : Int) < (l.length : Int) := by omega
  obtain ⟨a, s, e1, e2, e3, e4⟩ := dropc l i (by omega)
  rw [e1];rw [e2] at ih
  simp only [spec_NullityOf.l0, Ev.ite_iff, h1, h2, h3, ↓reduceIte, l1In_eq, Option.bind_some, w64_succ i (by omega), Ev.now_iff, e3, decide_eq_true_eq]
  by_cases c : 0 ≤ a ∧ a ≤ 10006
  ·rw [if_pos c]
   simpa [c, allIn] using ih
  ·rw [if_neg c]
   simp only [allIn, List.all_cons, c, decide_false, Bool.false_and]
   rfl

theorem specNullityOf_ev (n : Int) (es : List S80) (l : List Int) (hl : l.length ≤ 9223372036854775807) (he : es.length ≤ 9223372036854775807) : Ev (fun k => spec_NullityOf.f k n es l) (nullityR n es l) := by
 unfold spec_NullityOf.f nullityR
 rw [l2Good_eq]
 simp only [Option.bind_some, Ev.ite_iff]
 by_cases hg : okG n es = true
 ·obtain ⟨N, rfl, hN⟩ := okG_use hg
  rw [if_pos hg, Ev.iff_succ]
  simp only [spec_NullityOf.j0, Ev.ite_iff, bne_iff_ne, ne_eq, Ev.now_iff]
  by_cases h2 : (l.length : Int) = (N : Int)
  ·rw [if_neg (by simpa using h2)]
   have h := specNullity_l0 (es := es) hN he (show l.length = N by omega)
   by_cases h3 : allIn 0 10006 l = true
   ·rw [if_pos h3] at h
    rw [if_pos ⟨hg, h2, h3⟩];exact h
   ·rw [if_neg h3] at h
    rw [if_neg (fun hh => h3 hh.2.2)];exact h
  ·rw [if_pos h2, if_neg (fun hh => h2 hh.2.1)]
 ·rw [if_neg hg, Ev.iff_succ, if_neg (fun hh => hg hh.1)]
  simp [spec_NullityOf.j0, Ev.now_iff]

theorem implNullityOf_ev (n : Int) (es : List S80) (l : List Int) (hl : l.length ≤ 9223372036854775807) : Ev (fun k => impl_NullityOf.f k n es l) (nullityR n es l) := by
 unfold impl_NullityOf.f nullityR
 rw [IsGraph_eq]
 simp only [Option.bind_some, Ev.ite_iff]
 by_cases hg : okG n es = true
 ·obtain ⟨N, rfl, hN⟩ := okG_use hg
  rw [if_pos hg]
  by_cases h2 : (l.length : Int) = (N : Int)
  ·rw [if_pos h2, Ev.bind_iff (allWithin_ev l 0 10006 hl), Ev.iff_succ]
   simp only [impl_NullityOf.j0, Ev.ite_iff, Bool.not_eq_true', Ev.now_iff]
   by_cases h3 : allIn 0 10006 l = true
   ·rw [if_neg (by rw [h3];decide), if_pos ⟨hg, h2, h3⟩, netOf_eq hg]
    simp only [Option.bind_some, Int.toNat_natCast]
    rw [Ev.bind_iff (rankWith_ev hN (by omega)), Ev.now_iff]
   ·rw [if_pos (by simpa using h3), if_neg (fun hh => h3 hh.2.2)]
  ·rw [if_neg h2, Ev.iff_succ, if_neg (fun hh => h2 hh.2.1)]
   simp [impl_NullityOf.j0, Ev.now_iff]
 ·rw [if_neg hg, Ev.iff_succ, if_neg (fun hh => hg hh.1)]
  simp [impl_NullityOf.j0, Ev.now_iff]

theorem FnExactNullityOf_pure (n : Int) (es : List S80) (l : List Int) (he : es.length ≤ 9223372036854775807) (hl : l.length ≤ 9223372036854775807) : Ev (fun k => laws_FnExactNullityOf.f k n es l) true := by
 unfold laws_FnExactNullityOf.f
 rw [Ev.ite_iff]
 by_cases h1 : (l.length : Int) > 1048576
 ·rw [if_pos h1, Ev.now_iff]
 rw [if_neg h1]
 rw [szGraph_eq n es (by omega)]
 simp only [Option.bind_some, Ev.ite_iff]
 by_cases hs : es.length ≤ 1048576
 case neg => rw [if_neg hs, if_pos (by omega), Ev.now_iff]
 rw [if_pos hs, if_neg (by omega)]
 have hg := toGraph_ev n es (by omega)
 have hi := toIntS_ev l (by omega)
 have hS := specNullityOf_ev n es l (by omega) (by omega)
 have hI := implNullityOf_ev n es l (by omega)
 generalize nullityR n es l = R at hS hI
 rw [Ev.bind_iff hg, Ev.bind_iff hi, Ev.bind_iff hS, Ev.bind_iff hg, Ev.bind_iff hi, Ev.bind_iff hI]
 simp only [bne_self_eq_false, Bool.false_eq_true, ↓reduceIte]
 rw [Ev.iff_succ]
 simp only [laws_FnExactNullityOf.j0, Bool.false_eq_true, ↓reduceIte]
 rw [Ev.bind_iff hg, Ev.bind_iff (eqGraph_refl n es he)]
 simp only [↓reduceIte]
 rw [Ev.bind_iff hi, Ev.bind_iff (eqIntS_refl l hl)]
 simp only [↓reduceIte]
 rw [Ev.now_iff]

end Go.Proofs.Ytaddgielnfhhpaa.QNullityOf
