import Derived.Test.YtbhkimopcliepaaQMostSaved0
import Derived.Test.YtbhkimopcliepaaQMostSaved11
import Derived.Test.YtbhkimopcliepaaQMostSaved13
import Derived.Test.YtbhkimopcliepaaQMostSaved14
import Derived.Test.YtbhkimopcliepaaQMostSaved16
import Derived.Test.YtbhkimopcliepaaQMostSaved7
import Derived.Test.YtbhkimopcliepaaQMostSaved8
import Derived.Test.YtbhkimopcliepaaQMostSaved9
import Derived.Test.YtbhkimopcliepaaQMostSavedA2
namespace Go.Proofs.Ytbhkimopcliepaa.QMostSaved
open Go.RowKit Go.Proofs.YtbhkimopcliepaaW.PrintWords Go.Proofs.YtbhkimopcliepaaW.PrintLast Go.Proofs.YtbhkimopcliepaaW.PrintMore
attribute [local go_sem] max2_int min2_int max_two min_two max_three min_three max_four min_four   -- for this text's walks alone
set_option linter.unusedVariables false
set_option linter.unusedSimpArgs false
theorem fightFire_ev {es : List S100} {n d : Nat} (hn : n ≤ 8) (hd : d ≤ 3) : ∀ (F b f : Nat), F ≤ 100 → b < 2 ^ n → f < 2 ^ n → n < (bl n (b ||| f)).length + F →
    Ev (fun k => impl_net_fightFire.f k (nets es n) b f d) (fgt es n d F b f)
  | 0, b, f, _, _, _, h => by have := bl_len_le n (b ||| f); omega
  | F + 1, b, f, hF, hb, hf, h => by
    have hbb := bl_len_le n b
    have hT := thrM_lt (es := es) f hb
    have hfr := bl_len_le n (freeM n b f)
    have hful : 2 ^ n - 1 < 2 ^ n := by have := Nat.two_pow_pos n; omega
    rw [Ev.iff_succ]
    simp only [impl_net_fightFire.f]
    rw [Ev.bind_iff (threatened_ev es n b f hn hb hf), Ev.ite_iff]
    unfold fgt
    by_cases c : thrM es n b f = 0
    · rw [if_pos (by omega), if_pos c, ones_bl hn hb]
      simp only [impl_net_size.f, nets_len, Option.bind_some, Ev.now_iff]
      rw [w64 (by omega) (by omega)]
    · rw [if_neg (by omega), if_neg c, all_eq hn]
      simp only [Option.bind_some]
      rw [gandn _ _ (lt62 hn hful) (lt62 hn hb), gandn _ _ (lt62 hn (mns_lt _ hful)) (lt62 hn hf)]
      rw [show mns (mns (2 ^ n - 1) b) f = freeM n b f from rfl, Ev.bind_iff (setOf_ev n _ hn freeM_lt)]
      have hmn : mn (d : Int) ((bl n (freeM n b f)).length : Int) = ((min d (bl n (freeM n b f)).length : Nat) : Int) := by unfold mn; split <;> omega
      rw [hmn, Ev.bind_iff (subsetsOf_ev 8 _ _ (by omega) (by omega) (by omega))]
      rw [show cho (bl n (freeM n b f)) (min d (bl n (freeM n b f)).length) = chosM n d b f from rfl]
      have hmem : ∀ s ∈ chosM n d b f, s.length = min d (bl n (freeM n b f)).length ∧ (∀ x ∈ s, 0 ≤ x ∧ x < n) ∧ ∀ x ∈ s, b.testBit x.toNat = false ∧ f.testBit x.toNat = false := fun s hs => chosM_mem hs
      have hgr : ∀ s ∈ chosM n d b f, _ := fun s hs => fgt_grow hb hf c hs
      have hClen : (chosM n d b f).length ≤ 256 := Nat.le_trans (cho_len _ _) (p8 (by omega))
      generalize chosM n d b f = C at hmem hgr hClen ⊢
      have H := down C.length (fun i => ∀ st : Int × List (List Int), Ev (fun k => impl_net_fightFire.l0 k d st.1 st.2 C C.length i (nets es n) b f) ((C.drop i).foldl (fgtStep es n b f (fgt es n d F)) st)) ?_ ?_ 0 (by omega) (-1, [])
      · exact H
      · intro st
        rw [Ev.iff_succ]
        simp only [impl_net_fightFire.l0, Int.lt_irrefl, ↓reduceIte, Ev.now_iff, List.drop_length, List.foldl_nil]
      · intro i hi ih st
        rw [Ev.iff_succ]
        have g1 : (i : Int) < C.length := by omega
        have g2 : (0 : Int) ≤ i := by omega
        have hs := hmem C[i] (List.getElem_mem hi)
        have hg := hgr C[i] (List.getElem_mem hi)
        have hS : mL C[i] < 2 ^ n := mL_lt hs.2.1
        have hf' : f ||| mL C[i] < 2 ^ n := Nat.or_lt_two_pow hf hS
        have ht' := thrM_lt (es := es) (f ||| mL C[i]) hb
        have hb' : b ||| thrM es n b (f ||| mL C[i]) < 2 ^ n := Nat.or_lt_two_pow hb ht'
        have hrec := fightFire_ev (es := es) hn hd F _ _ (by omega) hb' hf' (by omega)
        have hbd := fgt_bd (es := es) (n := n) (d := d) F (b ||| thrM es n b (f ||| mL C[i])) (f ||| mL C[i])
        rw [List.drop_eq_getElem_cons hi, List.foldl_cons]
        simp only [impl_net_fightFire.l0, Ev.ite_iff, g1, g2, ↓reduceIte, rdL2_lt C i hi]
        rw [Ev.bind_iff (maskOf_ev C[i] (by omega) (fun x hx => by have := hs.2.1 x hx; omega)), gor _ _ (lt62 hn hf) (lt62 hn hS), Ev.bind_iff (threatened_ev es n b _ hn hb hf'), gor _ _ (lt62 hn hb) (lt62 hn ht'), Ev.bind_iff hrec]
        simp only [Ev.ite_iff, Option.bind_some, w64_succ i (show i < 9223372036854775807 by omega)]
        have ih' := ih (fgtStep es n b f (fgt es n d F) st C[i])
        unfold fgtStep at ih' ⊢
        generalize fgt es n d F (b ||| thrM es n b (f ||| mL C[i])) (f ||| mL C[i]) = R at hbd ih' ⊢
        by_cases q : R.1 > st.1
        · rw [if_pos q, if_pos (by simp; omega)]
          rw [if_pos q] at ih' ⊢
          exact ih'
        · rw [if_neg q]
          rw [if_neg q] at ih' ⊢
          exact ih'

/-- May a fire break out there, with so many defenders? -/
def fireB (n : Int) (es : List S100) (a d : Int) : Bool := okG n es && (decide (0 ≤ a ∧ a ≤ wrap64 (n - 1)) && decide (0 ≤ d ∧ d ≤ 3))

theorem fireB_use {n : Int} {es : List S100} {a d : Int} (h : fireB n es a d = true) : ∃ N x D : Nat, n = N ∧ a = x ∧ d = D ∧ N ≤ 8 ∧ okG N es = true ∧ x < N ∧ D ≤ 3 := by
  simp only [fireB, Bool.and_eq_true, decide_eq_true_eq] at h
  obtain ⟨h1, h2, h3⟩ := h
  obtain ⟨N, rfl, hN⟩ := okG_use h1
  rw [w64 (by omega) (by omega)] at h2
  exact ⟨N, a.toNat, d.toNat, rfl, by omega, by omega, hN, h1, by omega, by omega⟩

def mostSavedR (n : Int) (es : List S100) (a d : Int) : Int × Bool := if fireB n es a d then ((fgt es n.toNat d.toNat 9 (2 ^ a.toNat) 0).1, true) else (0, false)

theorem l8Good_eq (n : Int) (es : List S100) (a d : Int) : spec_l8Good.f n es a d = some (fireB n es a d) := by
  unfold spec_l8Good.f spec_l2Node.f fireB
  simp only [l2Good_eq, l1In_eq, Option.bind_some]
  by_cases h1 : okG n es = true
  · rw [if_pos h1, h1, Bool.true_and]
    by_cases h2 : 0 ≤ a ∧ a ≤ wrap64 (n - 1)
    · rw [if_pos (by simpa using h2)]; simp [h2]
    · rw [if_neg (by simpa using h2)]; simp only [h2, decide_false, Bool.false_and]
  · rw [if_neg h1, Bool.eq_false_iff.2 h1, Bool.false_and]

theorem isFire_ev (n : Int) (es : List S100) (a d : Int) : Ev (fun k => impl_isFire.f k n es a d) (fireB n es a d) := by
  unfold impl_isFire.f
  rw [Ev.bind_iff (hasNodes_ev n es [a] (by simp)), Ev.ite_iff, within_eq]
  simp only [Option.bind_some, Ev.now_iff, allIn, List.all_cons, List.all_nil, Bool.and_true, fireB]
  cases okG n es
  · simp
  · by_cases h2 : 0 ≤ a ∧ a ≤ wrap64 (n - 1)
    · rw [if_pos (by simpa using h2)]; simp [h2]
    · rw [if_neg (by simpa using h2)]; simp only [h2, decide_false, Bool.false_and, Bool.true_and]

theorem specMostSaved_ev (n : Int) (es : List S100) (a d : Int) (_ : (Lit.int .i64 a).wf = true) (_ : (Lit.int .i64 d).wf = true) (he : es.length ≤ 9223372036854775807) : Ev (fun k => spec_MostSaved.f k n es a d) (mostSavedR n es a d) := by
  unfold spec_MostSaved.f mostSavedR
  rw [l8Good_eq]
  simp only [Option.bind_some, Ev.ite_iff]
  by_cases h : fireB n es a d = true
  · obtain ⟨N, x, D, rfl, rfl, rfl, hN, hg, hx, hD⟩ := fireB_use h
    have e0 : bl N 0 = [] := List.eq_nil_iff_forall_not_mem.2 (fun x hx => by obtain ⟨i, _, h2, _⟩ := mem_bl.1 hx; simp at h2)
    have hB := l8Best_ev (es := es) (d := D) hN hD he 9 (2 ^ x) 0 (by omega) (Nat.pow_lt_pow_right (by decide) hx) (Nat.two_pow_pos N) (by omega)
    rw [e0, bl_pow N hN x hx] at hB
    replace hB : Ev (fun k => spec_l8Best.f k N es [(x : Int)] [] D) ((fgt es N D 9 (2 ^ x) 0).2, (fgt es N D 9 (2 ^ x) 0).1) := hB
    rw [if_pos h, if_pos h, Ev.bind_iff hB, Ev.now_iff]
    simp only [Int.toNat_natCast]
  · rw [if_neg h, if_neg h, Ev.now_iff]

theorem implMostSaved_ev (n : Int) (es : List S100) (a d : Int) (_ : (Lit.int .i64 a).wf = true) (_ : (Lit.int .i64 d).wf = true) : Ev (fun k => impl_MostSaved.f k n es a d) (mostSavedR n es a d) := by
  unfold impl_MostSaved.f mostSavedR
  rw [Ev.bind_iff (isFire_ev n es a d), Ev.ite_iff]
  by_cases h : fireB n es a d = true
  · obtain ⟨N, x, D, rfl, rfl, rfl, hN, hg, hx, hD⟩ := fireB_use h
    have hB := fightFire_ev (es := es) (d := D) hN hD 9 (2 ^ x) 0 (by omega) (Nat.pow_lt_pow_right (by decide) hx) (Nat.two_pow_pos N) (by omega)
    replace hB : Ev (fun k => impl_net_fightFire.f k (nets es N) ((2 ^ x : Nat) : Int) 0 D) (fgt es N D 9 (2 ^ x) 0) := hB
    rw [if_pos h, if_pos h, netOf_eq hg]
    simp only [Option.bind_some]
    rw [Ev.ite_iff, if_pos (by omega), shl_one (by omega), Ev.bind_iff hB, Ev.now_iff]
    simp only [Int.toNat_natCast]
  · rw [if_neg h, if_neg h, Ev.now_iff]

theorem FnExactMostSaved_pure (n : Int) (es : List S100) (a0 : Int) (a1 : Int) (he : es.length ≤ 9223372036854775807) (ha0 : (Lit.int .i64 a0).wf = true) (ha1 : (Lit.int .i64 a1).wf = true) : Ev (fun k => laws_FnExactMostSaved.f k n es a0 a1) true := by
  unfold laws_FnExactMostSaved.f
  rw [szGraph_eq n es (by omega)]
  simp only [Option.bind_some, Ev.ite_iff]
  by_cases hs : es.length ≤ 1048576
  case neg => rw [if_neg hs, if_pos (by omega), Ev.now_iff]
  rw [if_pos hs, if_neg (by omega)]
  have hg := toGraph_ev n es (by omega)
  have hS := specMostSaved_ev n es a0 a1 ha0 ha1 (by omega)
  have hI := implMostSaved_ev n es a0 a1 ha0 ha1
  generalize mostSavedR n es a0 a1 = R at hS hI
  rw [Ev.bind_iff hg, Ev.bind_iff hS, Ev.bind_iff hg, Ev.bind_iff hI]
  simp only [bne_self_eq_false, Bool.false_eq_true, ↓reduceIte]
  rw [Ev.iff_succ]
  simp only [laws_FnExactMostSaved.j0, Bool.false_eq_true, ↓reduceIte]
  rw [Ev.bind_iff hg, Ev.bind_iff (eqGraph_refl n es he)]
  simp only [↓reduceIte]
  rw [Ev.now_iff]

end Go.Proofs.Ytbhkimopcliepaa.QMostSaved
