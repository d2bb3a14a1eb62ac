import Derived.Test.YtbhkimopcliepaaQSavedSum0
import Derived.Test.YtbhkimopcliepaaQSavedSum13
import Derived.Test.YtbhkimopcliepaaQSavedSum15
import Derived.Test.YtbhkimopcliepaaQSavedSum16
import Derived.Test.YtbhkimopcliepaaQSavedSum8
import Derived.Test.YtbhkimopcliepaaQSavedSum9
import Derived.Test.YtbhkimopcliepaaQSavedSumA2
namespace Go.Proofs.Ytbhkimopcliepaa.QSavedSum
open Go.RowKit Go.Proofs.YtbhkimopcliepaaW.PrintWords Go.Proofs.YtbhkimopcliepaaW.PrintLast Go.Proofs.YtbhkimopcliepaaW.PrintMore
attribute [local go_sem] max2_int min2_int max_two min_two max_three min_three max_four min_four   -- for this text's walks alone
set_option linter.unusedVariables false
set_option linter.unusedSimpArgs false
theorem savedSumM_bd {es : List S100} {n D : Nat} : ∀ i : Nat, -(i : Int) ≤ savedSumM es n D i ∧ savedSumM es n D i ≤ (n : Int) * i
  | 0 => by simp [savedSumM]
  | i + 1 => by
    have h1 := savedSumM_bd (es := es) (n := n) (D := D) i
    have h2 := fgt_bd (es := es) (n := n) (d := D) 9 (2 ^ i) 0
    have h3 : (n : Int) * ((i + 1 : Nat) : Int) = (n : Int) * i + n := by rw [Int.natCast_add, Int.mul_add]; simp
    rw [savedSumM, h3]
    omega

def savedSumR (n : Int) (es : List S100) (d : Int) : Int × Bool := if (okG n es && decide (0 ≤ d ∧ d ≤ 3)) = true then (savedSumM es n.toNat d.toNat n.toNat, true) else (0, false)

theorem savedSum_step {es : List S100} {n D i : Nat} (hn : n ≤ 8) (hi : i < n) : wrap64 (savedSumM es n D i + (fgt es n D 9 (2 ^ i) 0).1) = savedSumM es n D (i + 1) := by
  have h1 := savedSumM_bd (es := es) (n := n) (D := D) i
  have h2 := fgt_bd (es := es) (n := n) (d := D) 9 (2 ^ i) 0
  have h3 : (n : Int) * (i : Int) ≤ 8 * 8 := by
    have : (n : Int) * (i : Int) = ((n * i : Nat) : Int) := by simp
    rw [this]
    have : n * i ≤ 8 * 8 := Nat.mul_le_mul hn (by omega)
    omega
  rw [w64] <;> first | rfl | omega

theorem specSavedSum_ev (n : Int) (es : List S100) (d : Int) (_ : (Lit.int .i64 d).wf = true) (he : es.length ≤ 9223372036854775807) : Ev (fun k => spec_SavedSum.f k n es d) (savedSumR n es d) := by
  unfold spec_SavedSum.f savedSumR
  rw [l2Good_eq]
  simp only [Option.bind_some, Ev.ite_iff]
  by_cases hg : okG n es = true
  case neg =>
    rw [if_neg hg, if_neg (by simp [hg]), Ev.iff_succ]
    simp only [spec_SavedSum.j0, ↓reduceIte, Ev.now_iff]
  rw [if_pos hg, l1In_eq]
  simp only [Option.bind_some]
  rw [Ev.iff_succ]
  by_cases hd : 0 ≤ d ∧ d ≤ 3
  case neg =>
    rw [if_neg (by simp [hd])]
    simp only [spec_SavedSum.j0, hd, decide_false, Bool.not_false, ↓reduceIte, Ev.now_iff]
  rw [if_pos (by simp [hg, hd])]
  simp only [spec_SavedSum.j0, hd, and_self, decide_true, Bool.not_true, Bool.false_eq_true, ↓reduceIte]
  obtain ⟨N, rfl, hN⟩ := okG_use hg
  obtain ⟨D, rfl⟩ : ∃ D : Nat, d = D := ⟨d.toNat, by omega⟩
  have hD : D ≤ 3 := by omega
  have e0 : bl N 0 = [] := List.eq_nil_iff_forall_not_mem.2 (fun x hx => by obtain ⟨i, _, h2, _⟩ := mem_bl.1 hx; simp at h2)
  simp only [Int.toNat_natCast]
  refine down N (fun i => Ev (fun k => spec_SavedSum.l0 k D (savedSumM es N D i) i N es) (savedSumM es N D N, true)) ?_ ?_ 0 (by omega)
  · show Ev _ _
    rw [Ev.iff_succ]
    simp only [spec_SavedSum.l0, Int.lt_irrefl, ↓reduceIte, Ev.now_iff]
  · intro i hi ih
    show Ev _ _
    rw [Ev.iff_succ]
    have h1 : (i : Int) < (N : Int) := by omega
    have hB := l8Best_ev (es := es) (d := D) hN hD he 9 (2 ^ i) 0 (by omega) (Nat.pow_lt_pow_right (by decide) hi) (Nat.two_pow_pos N) (by omega)
    rw [e0, bl_pow N hN i hi] at hB
    replace hB : Ev (fun k => spec_l8Best.f k N es [(i : Int)] [] D) ((fgt es N D 9 (2 ^ i) 0).2, (fgt es N D 9 (2 ^ i) 0).1) := hB
    simp only [spec_SavedSum.l0, h1, ↓reduceIte]
    rw [Ev.bind_iff hB]
    simp only [savedSum_step hN hi, w64_succ i (by omega)]
    exact ih

theorem implSavedSum_ev (n : Int) (es : List S100) (d : Int) (_ : (Lit.int .i64 d).wf = true) : Ev (fun k => impl_SavedSum.f k n es d) (savedSumR n es d) := by
  unfold impl_SavedSum.f savedSumR
  rw [IsGraph_eq]
  simp only [Option.bind_some, Ev.ite_iff]
  by_cases hg : okG n es = true
  case neg =>
    rw [if_neg hg, if_neg (by simp [hg]), Ev.iff_succ]
    simp only [impl_SavedSum.j0, ↓reduceIte, Ev.now_iff]
  rw [if_pos hg, within_eq]
  simp only [Option.bind_some]
  rw [Ev.iff_succ]
  by_cases hd : 0 ≤ d ∧ d ≤ 3
  case neg =>
    rw [if_neg (by simp [hd])]
    simp only [impl_SavedSum.j0, hd, decide_false, Bool.not_false, ↓reduceIte, Ev.now_iff]
  rw [if_pos (by simp [hg, hd])]
  simp only [impl_SavedSum.j0, hd, and_self, decide_true, Bool.not_true, Bool.false_eq_true, ↓reduceIte]
  obtain ⟨N, rfl, hN⟩ := okG_use hg
  obtain ⟨D, rfl⟩ : ∃ D : Nat, d = D := ⟨d.toNat, by omega⟩
  have hD : D ≤ 3 := by omega
  simp only [Int.toNat_natCast]
  refine down N (fun i => Ev (fun k => impl_SavedSum.l0 k D (savedSumM es N D i) N i N es) (savedSumM es N D N, true)) ?_ ?_ 0 (by omega)
  · show Ev _ _
    rw [Ev.iff_succ]
    simp only [impl_SavedSum.l0, Int.lt_irrefl, ↓reduceIte, Ev.now_iff]
  · intro i hi ih
    show Ev _ _
    rw [Ev.iff_succ]
    have h1 : (i : Int) < (N : Int) := by omega
    have h2 : (0 : Int) ≤ i := by omega
    have hB := fightFire_ev (es := es) (d := D) hN hD 9 (2 ^ i) 0 (by omega) (Nat.pow_lt_pow_right (by decide) hi) (Nat.two_pow_pos N) (by omega)
    replace hB : Ev (fun k => impl_net_fightFire.f k (nets es N) ((2 ^ i : Nat) : Int) 0 D) (fgt es N D 9 (2 ^ i) 0) := hB
    simp only [impl_SavedSum.l0, h1, ↓reduceIte, netOf_eq hg, Option.bind_some, Ev.ite_iff, h2, shl_one (show i < 62 by omega)]
    rw [Ev.bind_iff hB]
    simp only [savedSum_step hN hi, w64_succ i (by omega)]
    exact ih

theorem FnExactSavedSum_pure (n : Int) (es : List S100) (a : Int) (he : es.length ≤ 9223372036854775807) (ha : (Lit.int .i64 a).wf = true) : Ev (fun k => laws_FnExactSavedSum.f k n es a) true := by
  unfold laws_FnExactSavedSum.f
  rw [szGraph_eq n es (by omega)]
  simp only [Option.bind_some, Ev.ite_iff]
  by_cases hs : es.length ≤ 1048576
  case neg => rw [if_neg hs, if_pos (by omega), Ev.now_iff]
  rw [if_pos hs, if_neg (by omega)]
  have hg := toGraph_ev n es (by omega)
  have hS := specSavedSum_ev n es a ha (by omega)
  have hI := implSavedSum_ev n es a ha
  generalize savedSumR n es a = R at hS hI
  rw [Ev.bind_iff hg, Ev.bind_iff hS, Ev.bind_iff hg, Ev.bind_iff hI]
  simp only [bne_self_eq_false, Bool.false_eq_true, ↓reduceIte]
  rw [Ev.iff_succ]
  simp only [laws_FnExactSavedSum.j0, Bool.false_eq_true, ↓reduceIte]
  rw [Ev.bind_iff hg, Ev.bind_iff (eqGraph_refl n es he)]
  simp only [↓reduceIte]
  rw [Ev.now_iff]

end Go.Proofs.Ytbhkimopcliepaa.QSavedSum
