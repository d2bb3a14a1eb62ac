import Derived.Test.YtldenbmaifogeaaQIsFort0
import Derived.Test.YtldenbmaifogeaaQIsFort10
import Derived.Test.YtldenbmaifogeaaQIsFort5
import Derived.Test.YtldenbmaifogeaaQIsFort6
import Derived.Test.YtldenbmaifogeaaQIsFort8
import Derived.Test.YtldenbmaifogeaaQIsFort9
import Derived.Test.YtldenbmaifogeaaQIsFortA1
namespace Go.Proofs.Ytldenbmaifogeaa.QIsFort
open Go.RowKit Go.Proofs.YtldenbmaifogeaaW.PrintWords Go.Proofs.YtldenbmaifogeaaW.PrintLast Go.Proofs.YtldenbmaifogeaaW.PrintMore
attribute [local go_sem] max2_int min2_int max_two min_two max_three min_three max_four min_four   -- for this text's walks alone
set_option linter.unusedVariables false
set_option linter.unusedSimpArgs false
theorem l9Fort_ev {es : List S93} {n m : Nat} (hn : n ≤ 8) (hm : m < 2 ^ n) (he : es.length ≤ 9223372036854775807) : Ev (fun k => spec_l9Fort.f k n es (bl n m)) (fortB es n m) := by
  have hbm := bl_len_le n m
  have H := down n (fun i => Ev (fun k => spec_l9Fort.l0 k (bl n m) i n es) (((List.range n).drop i).all (fun x => decide (fortP es n m x)) && decide (m ≠ 0))) ?_ ?_ 0 (by omega)
  · simpa [spec_l9Fort.f, fortB] using H
  · show Ev _ _
    rw [Ev.iff_succ]
    have h1 : (((bl n m).length : Int) > 0) ↔ m ≠ 0 := by have := bl_zero_iff hm; omega
    simp only [spec_l9Fort.l0, Int.lt_irrefl, ↓reduceIte, Ev.now_iff, h1]
    rw [List.drop_eq_nil_iff.2 (by simp)]
    simp
  · intro i hi ih
    show Ev _ _
    rw [Ev.iff_succ]
    have h1 : (i : Int) < (n : Int) := by omega
    rw [List.drop_eq_getElem_cons (by simpa using hi), List.getElem_range, List.all_cons]
    simp only [spec_l9Fort.l0, h1, ↓reduceIte]
    rw [Ev.bind_iff (l1Has_ev (bl n m) i (by omega)), Ev.ite_iff]
    simp only [mem_bl_nat, hi, true_and, w64_succ i (show i < 9223372036854775807 by omega)]
    cases c : m.testBit i
    · rw [if_neg (by simp), Ev.bind_iff (l2Neighbors_ev n es i hn he), Ev.bind_iff (l9Open_ev es n m i hn he), Ev.ite_iff]
      have hs := bl_split n (nb es n i) m
      have hl1 := bl_len_le n (nb es n i)
      have hw : wrap64 (((bl n (nb es n i)).length : Int) - ((bl n (opM es n m i)).length : Int)) = (cntM es n m i : Int) := by
        unfold opM cntM; rw [w64] <;> omega
      rw [hw]
      by_cases d : cntM es n m i = 1
      · rw [if_pos (by omega), Ev.now_iff]
        simp [fortP, c, d]
      · rw [if_neg (by omega)]
        simpa [fortP, c, d] using ih
    · rw [if_pos (by simp)]
      simpa [fortP, c] using ih

theorem isFort_ev {es : List S93} {n m : Nat} (hn : n ≤ 8) (hm : m < 2 ^ n) : Ev (fun k => impl_net_isFort.f k (nets es n) m) (fortB es n m) := by
  unfold impl_net_isFort.f
  have hf : 2 ^ n - 1 < 2 ^ n := by have := Nat.two_pow_pos n; omega
  rw [Ev.ite_iff]
  by_cases c : m = 0
  · subst c
    rw [if_pos (by omega), Ev.now_iff]
    simp [fortB]
  rw [if_neg (by omega), all_eq hn]
  simp only [Option.bind_some]
  rw [gandn _ _ (lt62 hn hf) (lt62 hn hm), Ev.bind_iff (setOf_ev n _ hn (mns_lt _ hf))]
  have hone : ∀ i : Nat, i < n → bits_OnesCount.f (IntKind.u64.wrap (Go.bits .and .i64 (rd (nets es n) (i : Int)) m)) = some ((cntM es n m i : Nat) : Int) := fun i hi => by
    rw [nets_rd hi, gand (nb es n i) m (lt62 hn (nb_lt _ _ _)) (lt62 hn hm), ones_bl hn (and_lt_left m (nb_lt es n i))]; rfl
  have hbad : isFortBad (nets es n) m (bl n (mns (2 ^ n - 1) m)) = some ((bl n (mns (2 ^ n - 1) m)).any (oneIn (nets es n) m)) := by
    unfold isFortBad
    rw [if_pos]
    intro x hx
    obtain ⟨i, h1, _, rfl⟩ := mem_bl.1 hx
    exact ⟨⟨by omega, by rw [nets_len]; omega⟩, by rw [hone i h1]; rfl⟩
  rw [hbad]
  simp only [Option.bind_some, Ev.now_iff]
  unfold fortB
  rw [Bool.eq_iff_iff]
  simp only [Bool.not_eq_true', List.any_eq_false, Bool.and_eq_true, List.all_eq_true, List.mem_range, decide_eq_true_eq]
  constructor
  · intro h
    refine ⟨fun x hx => ?_, c⟩
    by_cases b : m.testBit x = true
    · exact .inl b
    · refine .inr fun e => ?_
      refine h (x : Int) (mem_bl_nat.2 ⟨hx, ?_⟩) ?_
      · rw [mns_bit, Nat.testBit_two_pow_sub_one]; simp [hx, b]
      · unfold oneIn; rw [hone x hx, e]; simp
  · rintro ⟨h, _⟩ x hx
    obtain ⟨i, h1, h2, rfl⟩ := mem_bl.1 hx
    rw [mns_bit, Nat.testBit_two_pow_sub_one] at h2
    simp only [h1, decide_true, Bool.true_and, Bool.not_eq_true'] at h2
    rcases h i h1 with e | e
    · rw [h2] at e; cases e
    · unfold oneIn
      rw [hone i h1]
      simp only [Option.some.injEq, decide_eq_true_eq]
      omega

def isFortR (n : Int) (es : List S93) (l : List Int) : Bool × Bool := if setB n es l then (fortB es n.toNat (mL l), true) else (false, false)

theorem specIsFort_ev (n : Int) (es : List S93) (l : List Int) (hl : l.length ≤ 9223372036854775807) (he : es.length ≤ 9223372036854775807) : Ev (fun k => spec_IsFort.f k n es l) (isFortR n es l) := by
  unfold spec_IsFort.f isFortR
  rw [Ev.bind_iff (l9Both_ev n es l hl), Ev.ite_iff]
  by_cases h : setB n es l = true
  · obtain ⟨N, m, rfl, hN, hg, hok, hm, hlm, hml⟩ := setB_use h
    rw [if_pos h, if_pos h, hml, hlm, Ev.bind_iff (l9Fort_ev hN hm he), Ev.now_iff]
    simp only [Int.toNat_natCast]
  · rw [if_neg h, if_neg h, Ev.now_iff]

theorem implIsFort_ev (n : Int) (es : List S93) (l : List Int) (hl : l.length ≤ 9223372036854775807) : Ev (fun k => impl_IsFort.f k n es l) (isFortR n es l) := by
  unfold impl_IsFort.f isFortR
  rw [Ev.bind_iff (isSet_ev n es l hl), Ev.ite_iff]
  by_cases h : setB n es l = true
  · obtain ⟨N, m, rfl, hN, hg, hok, hm, hlm, hml⟩ := setB_use h
    have hr : ∀ x ∈ l, 0 ≤ x ∧ x < 8 := by rw [hlm]; exact bl_range hN
    rw [if_pos h, if_pos h, netOf_eq hg]
    simp only [Option.bind_some]
    rw [Ev.bind_iff (maskOf_ev l hl hr), hml, Ev.bind_iff (isFort_ev hN hm), Ev.now_iff]
    simp only [Int.toNat_natCast]
  · rw [if_neg h, if_neg h, Ev.now_iff]

theorem FnExactIsFort_pure (n : Int) (es : List S93) (l : List Int) (he : es.length ≤ 9223372036854775807) (hl : l.length ≤ 9223372036854775807) : Ev (fun k => laws_FnExactIsFort.f k n es l) true := by
  unfold laws_FnExactIsFort.f
  rw [Ev.ite_iff]
  by_cases h1 : (l.length : Int) > 1048576
  · rw [if_pos h1, Ev.now_iff]
  rw [if_neg h1]
  rw [szGraph_eq n es (by omega)]
  simp only [Option.bind_some, Ev.ite_iff]
  by_cases hs : es.length ≤ 1048576
  case neg => rw [if_neg hs, if_pos (by omega), Ev.now_iff]
  rw [if_pos hs, if_neg (by omega)]
  have hg := toGraph_ev n es (by omega)
  have hi := toIntS_ev l (by omega)
  have hS := specIsFort_ev n es l (by omega) (by omega)
  have hI := implIsFort_ev n es l (by omega)
  generalize isFortR n es l = R at hS hI
  rw [Ev.bind_iff hg, Ev.bind_iff hi, Ev.bind_iff hS, Ev.bind_iff hg, Ev.bind_iff hi, Ev.bind_iff hI]
  simp only [bne_self_eq_false, Bool.false_eq_true, ↓reduceIte]
  rw [Ev.iff_succ]
  simp only [laws_FnExactIsFort.j0, Bool.false_eq_true, ↓reduceIte]
  rw [Ev.bind_iff hg, Ev.bind_iff (eqGraph_refl n es he)]
  simp only [↓reduceIte]
  rw [Ev.bind_iff hi, Ev.bind_iff (eqIntS_refl l hl)]
  simp only [↓reduceIte]
  rw [Ev.now_iff]

end Go.Proofs.Ytldenbmaifogeaa.QIsFort
