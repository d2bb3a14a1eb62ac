import Derived.Test.YtmokkhfmbenleaaQSavedSum0
import Derived.Test.YtmokkhfmbenleaaQSavedSum12
import Derived.Test.YtmokkhfmbenleaaQSavedSum3
import Derived.Test.YtmokkhfmbenleaaQSavedSum5
import Derived.Test.YtmokkhfmbenleaaQSavedSum6
import Derived.Test.YtmokkhfmbenleaaQSavedSum7
import Derived.Test.YtmokkhfmbenleaaQSavedSum8
import Derived.Test.YtmokkhfmbenleaaQSavedSumA3
namespace Go.Proofs.Ytmokkhfmbenleaa.QSavedSum
open Go.RowKit Go.Proofs.YtmokkhfmbenleaaW.PrintWords Go.Proofs.YtmokkhfmbenleaaW.PrintLast Go.Proofs.YtmokkhfmbenleaaW.PrintMore
attribute [local go_sem] max2_int min2_int max_two min_two max_three min_three max_four min_four   -- for this text's walks alone
set_option linter.unusedVariables false
set_option linter.unusedSimpArgs false
theorem some_l0 {l : List Int} (hb : ∀ x ∈ l, byteOk x) (n : Int) (hn : n ≤ 8) (p : Int) (q : Bool) : ∀ (d x : Nat) (es : List S119) (a s : Int) (b : Nat), n ≤ x + d → x ≤ 8 → es.length ≤ 10 * x → 0 ≤ a → a ≤ ((b + 30 * x : Nat) : Int) → b < 9223372036854000000 →
  Drawn l (b + 300) (fun k => spec_l1Cur_someGraph.l0 k n p q (x : Int) l a s n es) := by
 intro d
 have done : ∀ (x : Nat) (es : List S119) (a s : Int) (b : Nat), ¬ (x : Int) < n → x ≤ 9 → es.length ≤ 10 * x → 0 ≤ a → a ≤ ((b + 30 * x : Nat) : Int) → b < 9223372036854000000 → Drawn l (b + 300) (fun k => spec_l1Cur_someGraph.l0 k n p q (x : Int) l a s n es) := by
  intro x es a s b hx h9 he h0 h1 h2
  obtain ⟨n', es', a', s', e, g1, g2, g3⟩ := marred_ok hb s n es h0 h1 (by omega) (by omega)
  refine ⟨n', es', a', s', ?_, g1, g2, by omega⟩
  rw [Ev.iff_succ]
  simp only [spec_l1Cur_someGraph.l0, e, Option.bind_some]
  rw [Ev.ite_iff, if_neg hx, Ev.now_iff]
 induction d with
 | zero =>
  intro x es a s b hx h8 he h0 h1 h2
  exact done x es a s b (by omega) (by omega) he h0 h1 h2
 | succ d ih =>
  intro x es a s b hx h8 he h0 h1 h2
  by_cases c : (x : Int) < n
  ·have next : ∀ (es : List S119) (a s : Int), es.length ≤ 10 * (x + 1) → 0 ≤ a → a ≤ ((b + 30 * (x + 1) : Nat) : Int) → Drawn l (b + 300) (fun k => spec_l1Cur_someGraph.l0 k n p q ((x + 1 : Nat) : Int) l a s n es) := by
    intro es a s he h0 h1
    by_cases g : x + 1 ≤ 8
    ·exact ih (x + 1) es a s b (by omega) g he h0 h1 h2
    ·exact done (x + 1) es a s b (by omega) (by omega) he h0 h1 h2
   have hx0 : x < 9223372036854775807 := by omega
   have inner : ∀ (e y : Nat) (es : List S119) (a s : Int), n ≤ y + e → y ≤ 9 → es.length ≤ 10 * x + y → 0 ≤ a → a ≤ ((b + 30 * x + 2 * y : Nat) : Int) → Drawn l (b + 300) (fun k => spec_l1Cur_someGraph.l1 k n p q (x : Int) (y : Int) l a s n es) := by
    intro e
    have out : ∀ (y : Nat) (es : List S119) (a s : Int), ¬ (y : Int) < n → y ≤ 9 → es.length ≤ 10 * x + y → 0 ≤ a → a ≤ ((b + 30 * x + 2 * y : Nat) : Int) → Drawn l (b + 300) (fun k => spec_l1Cur_someGraph.l1 k n p q (x : Int) (y : Int) l a s n es) := by
     intro y es a s hy h9 he h0 h1
     obtain ⟨t, ht⟩ : ∃ t, spec_l1Most.f (x : Int) 1 = some t := by
      unfold spec_l1Most.f
      split <;> exact ⟨_, rfl⟩
     obtain ⟨r, a1, s1, e1, g1, _, g3, g4⟩ := pick_ok hb s t h0 h1 (by omega)
     have go : ∀ es' : List S119, es'.length ≤ 10 * (x + 1) → Drawn l (b + 300) (fun k => spec_l1Cur_someGraph.l0 k n p q ((x + 1 : Nat) : Int) l a1 s1 n es') := fun es' h => next es' a1 s1 h g3 (by omega)
     by_cases cx : (x : Int) > 0
     ·cases hq : q with
      | true =>
       subst hq
       obtain ⟨n', es', a', s', k1, k2, k3, k4⟩ := go es (by omega)
       refine ⟨n', es', a', s', ?_, k2, k3, k4⟩
       rw [Ev.iff_succ]
       simp only [spec_l1Cur_someGraph.l1, hy, cx, ↓reduceIte, ht, e1, Option.bind_some, w64_succ x hx0]
       exact k1
      | false =>
       subst hq
       cases hn : near es (x : Int) r with
       | true =>
        obtain ⟨n', es', a', s', k1, k2, k3, k4⟩ := go es (by omega)
        refine ⟨n', es', a', s', ?_, k2, k3, k4⟩
        rw [Ev.iff_succ]
        simp only [spec_l1Cur_someGraph.l1, hy, cx, ↓reduceIte, ht, e1, Option.bind_some, w64_succ x hx0, Bool.false_eq_true]
        rw [Ev.bind_iff (l2Near_ev n es (x : Int) r (by omega)), hn, Ev.ite_iff, if_pos rfl]
        exact k1
       | false =>
        obtain ⟨m, hm, hml⟩ := l2Put_ok es r (x : Int) (by omega)
        obtain ⟨n', es', a', s', k1, k2, k3, k4⟩ := go m (by omega)
        refine ⟨n', es', a', s', ?_, k2, k3, k4⟩
        rw [Ev.iff_succ]
        simp only [spec_l1Cur_someGraph.l1, hy, cx, ↓reduceIte, ht, e1, Option.bind_some, w64_succ x hx0, Bool.false_eq_true]
        rw [Ev.bind_iff (l2Near_ev n es (x : Int) r (by omega)), hn, Ev.ite_iff, if_neg (by decide), Ev.bind_iff hm]
        exact k1
     ·obtain ⟨n', es', a', s', k1, k2, k3, k4⟩ := go es (by omega)
      refine ⟨n', es', a', s', ?_, k2, k3, k4⟩
      rw [Ev.iff_succ]
      simp only [spec_l1Cur_someGraph.l1, hy, cx, ↓reduceIte, ht, e1, Option.bind_some, w64_succ x hx0]
      exact k1
    induction e with
    | zero => intro y es a s h1 h2 h3 h4 h5;exact out y es a s (by omega) h2 h3 h4 h5
    | succ e ihe =>
     intro y es a s h1' h2' h3 h4 h5
     by_cases cy : (y : Int) < n
     ·obtain ⟨r, a1, s1, e1, g1, _, g3, g4⟩ := pick_ok hb s p h4 h5 (by omega)
      have hy0 : y < 9223372036854775807 := by omega
      by_cases cr : r = 0
      ·obtain ⟨m, hm, hml⟩ := l2Put_ok es (x : Int) (y : Int) (by omega)
       obtain ⟨n', es', a', s', k1, k2, k3, k4⟩ := ihe (y + 1) m a1 s1 (by omega) (by omega) (by omega) g3 (by omega)
       refine ⟨n', es', a', s', ?_, k2, k3, k4⟩
       rw [Ev.iff_succ]
       simp only [spec_l1Cur_someGraph.l1, cy, ↓reduceIte, e1, Option.bind_some, w64_succ y hy0, cr]
       rw [Ev.bind_iff hm]
       exact k1
      ·obtain ⟨n', es', a', s', k1, k2, k3, k4⟩ := ihe (y + 1) es a1 s1 (by omega) (by omega) (by omega) g3 (by omega)
       refine ⟨n', es', a', s', ?_, k2, k3, k4⟩
       rw [Ev.iff_succ]
       simp only [spec_l1Cur_someGraph.l1, cy, ↓reduceIte, e1, Option.bind_some, w64_succ y hy0, cr]
       exact k1
     ·exact out y es a s cy h2' h3 h4 h5
   obtain ⟨n', es', a', s', k1, k2, k3, k4⟩ := inner 8 (x + 1) es a s (by omega) (by omega) (by omega) h0 (by omega)
   refine ⟨n', es', a', s', ?_, k2, k3, k4⟩
   rw [Ev.iff_succ]
   simp only [spec_l1Cur_someGraph.l0, c, ↓reduceIte, w64_succ x hx0]
   exact k1
  ·exact done x es a s b c (by omega) he h0 h1 h2

theorem some_j1 {l : List Int} (hb : ∀ x ∈ l, byteOk x) (m : Int) (hm : m ≤ 8) (n a s : Int) {b : Nat} (h0 : 0 ≤ a) (h1 : a ≤ b) (h2 : b < 9223372036853000000) : Drawn l (b + 400) (fun k => spec_l1Cur_someGraph.j1 k m n l a s) := by
 obtain ⟨t, ht, ht8⟩ : ∃ t, spec_l1Least.f n m = some t ∧ t ≤ 8 := by
  unfold spec_l1Least.f
  by_cases c : n < m
  ·rw [if_pos c];exact ⟨_, rfl, by omega⟩
  ·rw [if_neg c];exact ⟨_, rfl, by omega⟩
 obtain ⟨r, a1, s1, e1, g1, _, g3, g4⟩ := pick_ok hb s 8 h0 h1 (by omega)
 have fin : ∀ es : List S119, es.length ≤ 100 → ∃ n' es' a' s', spec_l1Cur_marred.f l a1 s1 t es = some (n', es', a', s') ∧ es'.length ≤ 1001 ∧ 0 ≤ a' ∧ a' ≤ ((b + 400 : Nat) : Int) := by
  intro es he
  obtain ⟨n', es', a', s', k1, k2, k3, k4⟩ := marred_ok hb s1 t es g3 g4 (by omega) (by omega)
  exact ⟨n', es', a', s', k1, k2, k3, by omega⟩
 by_cases c0 : r = 0
 ·obtain ⟨es, p1, p2⟩ := l2Path_ok t ht8
  obtain ⟨n', es', a', s', k1, k2, k3, k4⟩ := fin es (by omega)
  refine ⟨n', es', a', s', ?_, k2, k3, k4⟩
  rw [Ev.iff_succ]
  simp only [spec_l1Cur_someGraph.j1, ht, e1, Option.bind_some, c0, ↓reduceIte]
  rw [Ev.bind_iff p1, k1]
  exact Ev.now _
 by_cases c1 : r = 1
 ·subst c1
  by_cases c3 : t > 2
  ·obtain ⟨es, p1, p2⟩ := l2Cycle_ok t ht8
   obtain ⟨n', es', a', s', k1, k2, k3, k4⟩ := fin es (by omega)
   refine ⟨n', es', a', s', ?_, k2, k3, k4⟩
   rw [Ev.iff_succ]
   simp only [spec_l1Cur_someGraph.j1, ht, e1, Option.bind_some, c0, c3, ↓reduceIte]
   rw [Ev.bind_iff p1, k1]
   exact Ev.now _
  ·obtain ⟨n', es', a', s', k1, k2, k3, k4⟩ := fin [] (by simp)
   refine ⟨n', es', a', s', ?_, k2, k3, k4⟩
   rw [Ev.iff_succ]
   simp only [spec_l1Cur_someGraph.j1, ht, e1, Option.bind_some, c0, c3, ↓reduceIte, k1]
   exact Ev.now _
 by_cases c2 : r = 2
 ·subst c2
  obtain ⟨es, p1, p2⟩ := l2Complete_ok t ht8
  obtain ⟨n', es', a', s', k1, k2, k3, k4⟩ := fin es (by omega)
  refine ⟨n', es', a', s', ?_, k2, k3, k4⟩
  rw [Ev.iff_succ]
  simp only [spec_l1Cur_someGraph.j1, ht, e1, Option.bind_some, c0, c1, ↓reduceIte]
  rw [Ev.bind_iff p1, k1]
  exact Ev.now _
 obtain ⟨p, a2, s2, e2, _, g6, g7⟩ := among_ok hb s1 [3, 4, 6] (by simp) g3 g4 (by omega)
 obtain ⟨q, a3, s3, e3, g8, g9⟩ := one_ok hb s2 6 g6 g7 (by omega)
 obtain ⟨n', es', a', s', k1, k2, k3, k4⟩ := some_l0 hb t ht8 p q 8 0 [] a3 s3 (b + 2 + 2 + 2) (by omega) (by omega) (by simp) g8 (by omega) (by omega)
 refine ⟨n', es', a', s', ?_, k2, k3, by omega⟩
 rw [Ev.iff_succ]
 simp only [spec_l1Cur_someGraph.j1, ht, e1, Option.bind_some, c0, c1, c2, ↓reduceIte, e2, e3]
 exact k1

theorem someGraph_ok {l : List Int} (hb : ∀ x ∈ l, byteOk x) (m : Int) (hm : m ≤ 8) (a s : Int) {b : Nat} (h0 : 0 ≤ a) (h1 : a ≤ b) (h2 : b < 9223372036852000000) : Drawn l (b + 500) (fun k => spec_l1Cur_someGraph.f k l a s m) := by
 obtain ⟨n, a1, s1, e1, _, g3, g4⟩ := among_ok hb s [4, 5, 3, 6, 2, 1, 0] (by simp) h0 h1 (by omega)
 have j0 : ∀ (q : Bool) (a s : Int), 0 ≤ a → a ≤ ((b + 10 : Nat) : Int) → Drawn l (b + 500) (fun k => spec_l1Cur_someGraph.j0 k m n q l a s) := by
  intro q a s h0 h1
  cases q with
  | true =>
   obtain ⟨r, a2, s2, e2, _, _, g6, g7⟩ := pick_ok hb s 2 h0 h1 (by omega)
   obtain ⟨n', es', a', s', k1, k2, k3, k4⟩ := some_j1 hb m hm (wrap64 (7 + r)) a2 s2 g6 g7 (by omega)
   refine ⟨n', es', a', s', ?_, k2, k3, by omega⟩
   rw [Ev.iff_succ]
   simp only [spec_l1Cur_someGraph.j0, ↓reduceIte, e2, Option.bind_some]
   exact k1
  | false =>
   obtain ⟨n', es', a', s', k1, k2, k3, k4⟩ := some_j1 hb m hm n a s h0 h1 (by omega)
   refine ⟨n', es', a', s', ?_, k2, k3, by omega⟩
   rw [Ev.iff_succ]
   simp only [spec_l1Cur_someGraph.j0, Bool.false_eq_true, ↓reduceIte]
   exact k1
 unfold spec_l1Cur_someGraph.f
 rw [e1]
 simp only [Option.bind_some]
 by_cases c : m > 6
 ·obtain ⟨q, a2, s2, e2, g6, g7⟩ := one_ok hb s1 4 g3 g4 (by omega)
  simp only [c, ↓reduceIte, e2, Option.bind_some]
  exact j0 q a2 s2 g6 (by omega)
 ·simp only [c, ↓reduceIte]
  exact j0 false a1 s1 g3 (by omega)

theorem byte_wf {x : Int} (h : (Lit.int .u8 x).wf = true) : byteOk x := by
 simp only [Lit.wf, Bool.and_eq_true, decide_eq_true_eq, show IntKind.u8.min = 0 by decide, show IntKind.u8.max = 255 by decide] at h
 exact ⟨h.1, by omega⟩

theorem defenders_ok {l : List Int} (hb : ∀ x ∈ l, byteOk x) {a : Int} (s : Int) {b : Nat} (h0 : 0 ≤ a) (h1 : a ≤ b) (h2 : b < 9223372036854770000) :
  ∃ d a' s', spec_l1Cur_defenders.f l a s = some (d, a', s') ∧ -1 ≤ d ∧ d ≤ 4 := by
 obtain ⟨q, a1, s1, e1, g1, g2⟩ := one_ok hb s 20 h0 h1 (by omega)
 unfold spec_l1Cur_defenders.f
 rw [e1]
 simp only [Option.bind_some]
 cases q with
 | true =>
  obtain ⟨d, a2, s2, e2, hm, _, _⟩ := among_ok hb s1 [(-1), 4] (by simp) g1 g2 (by omega)
  rw [if_pos rfl, e2]
  simp only [List.mem_cons, List.not_mem_nil, or_false] at hm
  exact ⟨_, _, _, rfl, by omega, by omega⟩
 | false =>
  obtain ⟨d, a2, s2, e2, hm, _, _⟩ := among_ok hb s1 [1, 1, 2, 0, 3] (by simp) g1 g2 (by omega)
  rw [if_neg (by decide), e2]
  simp only [List.mem_cons, List.not_mem_nil, or_false] at hm
  exact ⟨_, _, _, rfl, by omega, by omega⟩

theorem small_wf {d : Int} (h0 : -100 ≤ d) (h1 : d ≤ 100) : (Lit.int .i64 d).wf = true := by
 simp only [Lit.wf, Bool.and_eq_true, decide_eq_true_eq, show IntKind.i64.min = -9223372036854775808 by decide, show IntKind.i64.max = 9223372036854775807 by decide]
 omega

theorem FnSavedSum_pure (l : List Int) (hw : ∀ x ∈ l, (Lit.int .u8 x).wf = true) : Ev (fun k => laws_FnSavedSum.f k l) true := by
 have hb : ∀ x ∈ l, byteOk x := fun x hx => byte_wf (hw x hx)
 unfold laws_FnSavedSum.f laws_rBig.f
 simp only [Option.bind_some]
 rw [Ev.ite_iff]
 by_cases c : (l.length : Int) > 65536
 ·rw [if_pos (by simp [c])];exact Ev.now _
 rw [if_neg (by simp [c])]
 obtain ⟨n, es, a, s, h1, he, h3, h4⟩ := someGraph_ok hb 8 (by omega) 0 0 (b := 0) (by omega) (by omega) (by omega)
 obtain ⟨d, a', s', h5, hd0, hd1⟩ := defenders_ok hb s h3 h4 (by omega)
 have hdw := small_wf (d := d) (by omega) (by omega)
 have g1 : Ev (fun k => spec_DrawSavedSum.f k l) (n, es, d) := by
  unfold spec_DrawSavedSum.f spec_newCur.f
  simp only [Option.bind_some]
  rw [Ev.bind_iff h1, h5]
  exact Ev.now _
 rw [Ev.bind_iff g1, Ev.bind_iff (implSavedSum_ev n es d hdw), Ev.bind_iff (specSavedSum_ev n es d hdw (by omega)), Ev.ite_iff, if_pos rfl, Ev.iff_succ]
 simp only [laws_FnSavedSum.j0, bne_self_eq_false, Bool.false_eq_true, ↓reduceIte]
 rw [Ev.ite_iff]
 by_cases g : (okG n es && decide (0 ≤ d ∧ d ≤ 3)) = true
 case neg => rw [if_neg (by simp only [savedSumR, if_neg g];decide)];exact Ev.now _
 have hR : savedSumR n es d = (savedSumM es n.toNat d.toNat n.toNat, true) := by rw [savedSumR, if_pos g]
 rw [hR, if_pos rfl]
 simp only [Bool.and_eq_true, decide_eq_true_eq] at g
 obtain ⟨N, rfl, hN⟩ := okG_use g.1
 obtain ⟨D, rfl⟩ : ∃ D : Nat, d = D := ⟨d.toNat, by omega⟩
 simp only [Int.toNat_natCast]
 refine down N (fun i => Ev (fun k => laws_FnSavedSum.l0 k D (savedSumM es N D N) (savedSumM es N D i) i N es) true) ?_ ?_ 0 (by omega)
 ·show Ev _ _
  rw [Ev.iff_succ]
  simp only [laws_FnSavedSum.l0, Int.lt_irrefl, ↓reduceIte, Ev.now_iff, beq_self_eq_true]
 ·intro i hi ih
  show Ev _ _
  rw [Ev.iff_succ]
  have hi1 : (i : Int) < (N : Int) := by omega
  have hiw := small_wf (d := (i : Int)) (by omega) (by omega)
  have hF : fireB N es (i : Int) (D : Int) = true := by
   simp only [fireB, Bool.and_eq_true, decide_eq_true_eq]
   refine ⟨g.1, ⟨by omega, ?_⟩, g.2⟩
   rw [w64 (by omega) (by omega)];omega
  have hM : mostSavedR N es (i : Int) (D : Int) = ((fgt es N D 9 (2 ^ i) 0).1, true) := by
   rw [mostSavedR, if_pos hF];simp only [Int.toNat_natCast]
  simp only [laws_FnSavedSum.l0, hi1, ↓reduceIte]
  rw [Ev.bind_iff (implMostSaved_ev N es i D hiw hdw), Ev.bind_iff (specMostSaved_ev N es i D hiw hdw (by omega)), hM, Ev.ite_iff, if_pos rfl, Ev.ite_iff, if_pos rfl, Ev.ite_iff, if_pos rfl]
  simp only [savedSum_step hN hi, w64_succ i (show i < 9223372036854775807 by omega)]
  exact ih

end Go.Proofs.Ytmokkhfmbenleaa.QSavedSum
