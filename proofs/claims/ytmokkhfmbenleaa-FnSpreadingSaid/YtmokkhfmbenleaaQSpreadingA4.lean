import Derived.Test.YtmokkhfmbenleaaQSpreading0
import Derived.Test.YtmokkhfmbenleaaQSpreading2
import Derived.Test.YtmokkhfmbenleaaQSpreading4
import Derived.Test.YtmokkhfmbenleaaQSpreading5
import Derived.Test.YtmokkhfmbenleaaQSpreading6
import Derived.Test.YtmokkhfmbenleaaQSpreading7
import Derived.Test.YtmokkhfmbenleaaQSpreading8
import Derived.Test.YtmokkhfmbenleaaQSpreading9
import Derived.Test.YtmokkhfmbenleaaQSpreadingA3
namespace Go.Proofs.Ytmokkhfmbenleaa.QSpreading
open Go.RowKit Go.Proofs.YtmokkhfmbenleaaW.PrintWords Go.Proofs.YtmokkhfmbenleaaW.PrintLast Go.Proofs.YtmokkhfmbenleaaW.PrintMore
attribute [local go_sem] max2_int min2_int max_two min_two max_three min_three max_four min_four   -- for this text's walks alone
set_option linter.unusedVariables false
set_option linter.unusedSimpArgs false
theorem some_l0 {l : List Int} (hb : ∀ x ∈ l, byteOk x) (n : Int) (hn : n ≤ 8) (p : Int) (q : Bool) : ∀ (d x : Nat) (es : List S119) (a s : Int) (b : Nat), n ≤ x + d → x ≤ 8 → es.length ≤ 10 * x → 0 ≤ a → a ≤ ((b + 30 * x : Nat) : Int) → b < 9223372036854000000 →
  Drawn l (b + 300) (fun k => spec_l1Cur_someGraph.l0 k n p q (x : Int) l a s n es) := by
 intro d
 have done : ∀ (x : Nat) (es : List S119) (a s : Int) (b : Nat), ¬ (x : Int) < n → x ≤ 9 → es.length ≤ 10 * x → 0 ≤ a → a ≤ ((b + 30 * x : Nat) : Int) → b < 9223372036854000000 → Drawn l (b + 300) (fun k => spec_l1Cur_someGraph.l0 k n p q (x : Int) l a s n es) := by
  intro x es a s b hx h9 he h0 h1 h2
  obtain ⟨n', es', a', s', e, g1, g2, g3⟩ := marred_ok hb s n es h0 h1 (by omega) (by omega)
  refine ⟨n', es', a', s', ?_, g1, g2, by omega⟩
  rw [Ev.iff_succ]
  simp only [spec_l1Cur_someGraph.l0, e, Option.bind_some]
  rw [Ev.ite_iff, if_neg hx, Ev.now_iff]
 induction d with
 | zero =>
  intro x es a s b hx h8 he h0 h1 h2
  exact done x es a s b (by omega) (by omega) he h0 h1 h2
 | succ d ih =>
  intro x es a s b hx h8 he h0 h1 h2
  by_cases c : (x : Int) < n
  ·have next : ∀ (es : List S119) (a s : Int), es.length ≤ 10 * (x + 1) → 0 ≤ a → a ≤ ((b + 30 * (x + 1) : Nat) : Int) → Drawn l (b + 300) (fun k => spec_l1Cur_someGraph.l0 k n p q ((x + 1 : Nat) : Int) l a s n es) := by
    intro es a s he h0 h1
    by_cases g : x + 1 ≤ 8
    ·exact ih (x + 1) es a s b (by omega) g he h0 h1 h2
    ·exact done (x + 1) es a s b (by omega) (by omega) he h0 h1 h2
   have hx0 : x < 9223372036854775807 := by omega
   have inner : ∀ (e y : Nat) (es : List S119) (a s : Int), n ≤ y + e → y ≤ 9 → es.length ≤ 10 * x + y → 0 ≤ a → a ≤ ((b + 30 * x + 2 * y : Nat) : Int) → Drawn l (b + 300) (fun k => spec_l1Cur_someGraph.l1 k n p q (x : Int) (y : Int) l a s n es) := by
    intro e
    have out : ∀ (y : Nat) (es : List S119) (a s : Int), ¬ (y : Int) < n → y ≤ 9 → es.length ≤ 10 * x + y → 0 ≤ a → a ≤ ((b + 30 * x + 2 * y : Nat) : Int) → Drawn l (b + 300) (fun k => spec_l1Cur_someGraph.l1 k n p q (x : Int) (y : Int) l a s n es) := by
     intro y es a s hy h9 he h0 h1
     obtain ⟨t, ht⟩ : ∃ t, spec_l1Most.f (x : Int) 1 = some t := by
      unfold spec_l1Most.f
      split <;> exact ⟨_, rfl⟩
     obtain ⟨r, a1, s1, e1, g1, _, g3, g4⟩ := pick_ok hb s t h0 h1 (by omega)
     have go : ∀ es' : List S119, es'.length ≤ 10 * (x + 1) → Drawn l (b + 300) (fun k => spec_l1Cur_someGraph.l0 k n p q ((x + 1 : Nat) : Int) l a1 s1 n es') := fun es' h => next es' a1 s1 h g3 (by omega)
     by_cases cx : (x : Int) > 0
     ·cases hq : q with
      | true =>
       subst hq
       obtain ⟨n', es', a', s', k1, k2, k3, k4⟩ := go es (by omega)
       refine ⟨n', es', a', s', ?_, k2, k3, k4⟩
       rw [Ev.iff_succ]
       simp only [spec_l1Cur_someGraph.l1, hy, cx, ↓reduceIte, ht, e1, Option.bind_some, w64_succ x hx0]
       exact k1
      | false =>
       subst hq
       cases hn : near es (x : Int) r with
       | true =>
        obtain ⟨n', es', a', s', k1, k2, k3, k4⟩ := go es (by omega)
        refine ⟨n', es', a', s', ?_, k2, k3, k4⟩
        rw [Ev.iff_succ]
        simp only [spec_l1Cur_someGraph.l1, hy, cx, ↓reduceIte, ht, e1, Option.bind_some, w64_succ x hx0, Bool.false_eq_true]
        rw [Ev.bind_iff (l2Near_ev n es (x : Int) r (by omega)), hn, Ev.ite_iff, if_pos rfl]
        exact k1
       | false =>
        obtain ⟨m, hm, hml⟩ := l2Put_ok es r (x : Int) (by omega)
        obtain ⟨n', es', a', s', k1, k2, k3, k4⟩ := go m (by omega)
        refine ⟨n', es', a', s', ?_, k2, k3, k4⟩
        rw [Ev.iff_succ]
        simp only [spec_l1Cur_someGraph.l1, hy, cx, ↓reduceIte, ht, e1, Option.bind_some, w64_succ x hx0, Bool.false_eq_true]
        rw [Ev.bind_iff (l2Near_ev n es (x : Int) r (by omega)), hn, Ev.ite_iff, if_neg (by decide), Ev.bind_iff hm]
        exact k1
     ·obtain ⟨n', es', a', s', k1, k2, k3, k4⟩ := go es (by omega)
      refine ⟨n', es', a', s', ?_, k2, k3, k4⟩
      rw [Ev.iff_succ]
      simp only [spec_l1Cur_someGraph.l1, hy, cx, ↓reduceIte, ht, e1, Option.bind_some, w64_succ x hx0]
      exact k1
    induction e with
    | zero => intro y es a s h1 h2 h3 h4 h5;exact out y es a s (by omega) h2 h3 h4 h5
    | succ e ihe =>
     intro y es a s h1' h2' h3 h4 h5
     by_cases cy : (y : Int) < n
     ·obtain ⟨r, a1, s1, e1, g1, _, g3, g4⟩ := pick_ok hb s p h4 h5 (by omega)
      have hy0 : y < 9223372036854775807 := by omega
      by_cases cr : r = 0
      ·obtain ⟨m, hm, hml⟩ := l2Put_ok es (x : Int) (y : Int) (by omega)
       obtain ⟨n', es', a', s', k1, k2, k3, k4⟩ := ihe (y + 1) m a1 s1 (by omega) (by omega) (by omega) g3 (by omega)
       refine ⟨n', es', a', s', ?_, k2, k3, k4⟩
       rw [Ev.iff_succ]
       simp only [spec_l1Cur_someGraph.l1, cy, ↓reduceIte, e1, Option.bind_some, w64_succ y hy0, cr]
       rw [Ev.bind_iff hm]
       exact k1
      ·obtain ⟨n', es', a', s', k1, k2, k3, k4⟩ := ihe (y + 1) es a1 s1 (by omega) (by omega) (by omega) g3 (by omega)
       refine ⟨n', es', a', s', ?_, k2, k3, k4⟩
       rw [Ev.iff_succ]
       simp only [spec_l1Cur_someGraph.l1, cy, ↓reduceIte, e1, Option.bind_some, w64_succ y hy0, cr]
       exact k1
     ·exact out y es a s cy h2' h3 h4 h5
   obtain ⟨n', es', a', s', k1, k2, k3, k4⟩ := inner 8 (x + 1) es a s (by omega) (by omega) (by omega) h0 (by omega)
   refine ⟨n', es', a', s', ?_, k2, k3, k4⟩
   rw [Ev.iff_succ]
   simp only [spec_l1Cur_someGraph.l0, c, ↓reduceIte, w64_succ x hx0]
   exact k1
  ·exact done x es a s b c (by omega) he h0 h1 h2

theorem some_j1 {l : List Int} (hb : ∀ x ∈ l, byteOk x) (m : Int) (hm : m ≤ 8) (n a s : Int) {b : Nat} (h0 : 0 ≤ a) (h1 : a ≤ b) (h2 : b < 9223372036853000000) : Drawn l (b + 400) (fun k => spec_l1Cur_someGraph.j1 k m n l a s) := by
 obtain ⟨t, ht, ht8⟩ : ∃ t, spec_l1Least.f n m = some t ∧ t ≤ 8 := by
  unfold spec_l1Least.f
  by_cases c : n < m
  ·rw [if_pos c];exact ⟨_, rfl, by omega⟩
  ·rw [if_neg c];exact ⟨_, rfl, by omega⟩
 obtain ⟨r, a1, s1, e1, g1, _, g3, g4⟩ := pick_ok hb s 8 h0 h1 (by omega)
 have fin : ∀ es : List S119, es.length ≤ 100 → ∃ n' es' a' s', spec_l1Cur_marred.f l a1 s1 t es = some (n', es', a', s') ∧ es'.length ≤ 1001 ∧ 0 ≤ a' ∧ a' ≤ ((b + 400 : Nat) : Int) := by
  intro es he
  obtain ⟨n', es', a', s', k1, k2, k3, k4⟩ := marred_ok hb s1 t es g3 g4 (by omega) (by omega)
  exact ⟨n', es', a', s', k1, k2, k3, by omega⟩
 by_cases c0 : r = 0
 ·obtain ⟨es, p1, p2⟩ := l2Path_ok t ht8
  obtain ⟨n', es', a', s', k1, k2, k3, k4⟩ := fin es (by omega)
  refine ⟨n', es', a', s', ?_, k2, k3, k4⟩
  rw [Ev.iff_succ]
  simp only [spec_l1Cur_someGraph.j1, ht, e1, Option.bind_some, c0, ↓reduceIte]
  rw [Ev.bind_iff p1, k1]
  exact Ev.now _
 by_cases c1 : r = 1
 ·subst c1
  by_cases c3 : t > 2
  ·obtain ⟨es, p1, p2⟩ := l2Cycle_ok t ht8
   obtain ⟨n', es', a', s', k1, k2, k3, k4⟩ := fin es (by omega)
   refine ⟨n', es', a', s', ?_, k2, k3, k4⟩
   rw [Ev.iff_succ]
   simp only [spec_l1Cur_someGraph.j1, ht, e1, Option.bind_some, c0, c3, ↓reduceIte]
   rw [Ev.bind_iff p1, k1]
   exact Ev.now _
  ·obtain ⟨n', es', a', s', k1, k2, k3, k4⟩ := fin [] (by simp)
   refine ⟨n', es', a', s', ?_, k2, k3, k4⟩
   rw [Ev.iff_succ]
   simp only [spec_l1Cur_someGraph.j1, ht, e1, Option.bind_some, c0, c3, ↓reduceIte, k1]
   exact Ev.now _
 by_cases c2 : r = 2
 ·subst c2
  obtain ⟨es, p1, p2⟩ := l2Complete_ok t ht8
  obtain ⟨n', es', a', s', k1, k2, k3, k4⟩ := fin es (by omega)
  refine ⟨n', es', a', s', ?_, k2, k3, k4⟩
  rw [Ev.iff_succ]
  simp only [spec_l1Cur_someGraph.j1, ht, e1, Option.bind_some, c0, c1, ↓reduceIte]
  rw [Ev.bind_iff p1, k1]
  exact Ev.now _
 obtain ⟨p, a2, s2, e2, _, g6, g7⟩ := among_ok hb s1 [3, 4, 6] (by simp) g3 g4 (by omega)
 obtain ⟨q, a3, s3, e3, g8, g9⟩ := one_ok hb s2 6 g6 g7 (by omega)
 obtain ⟨n', es', a', s', k1, k2, k3, k4⟩ := some_l0 hb t ht8 p q 8 0 [] a3 s3 (b + 2 + 2 + 2) (by omega) (by omega) (by simp) g8 (by omega) (by omega)
 refine ⟨n', es', a', s', ?_, k2, k3, by omega⟩
 rw [Ev.iff_succ]
 simp only [spec_l1Cur_someGraph.j1, ht, e1, Option.bind_some, c0, c1, c2, ↓reduceIte, e2, e3]
 exact k1

theorem someGraph_ok {l : List Int} (hb : ∀ x ∈ l, byteOk x) (m : Int) (hm : m ≤ 8) (a s : Int) {b : Nat} (h0 : 0 ≤ a) (h1 : a ≤ b) (h2 : b < 9223372036852000000) : Drawn l (b + 500) (fun k => spec_l1Cur_someGraph.f k l a s m) := by
 obtain ⟨n, a1, s1, e1, _, g3, g4⟩ := among_ok hb s [4, 5, 3, 6, 2, 1, 0] (by simp) h0 h1 (by omega)
 have j0 : ∀ (q : Bool) (a s : Int), 0 ≤ a → a ≤ ((b + 10 : Nat) : Int) → Drawn l (b + 500) (fun k => spec_l1Cur_someGraph.j0 k m n q l a s) := by
  intro q a s h0 h1
  cases q with
  | true =>
   obtain ⟨r, a2, s2, e2, _, _, g6, g7⟩ := pick_ok hb s 2 h0 h1 (by omega)
   obtain ⟨n', es', a', s', k1, k2, k3, k4⟩ := some_j1 hb m hm (wrap64 (7 + r)) a2 s2 g6 g7 (by omega)
   refine ⟨n', es', a', s', ?_, k2, k3, by omega⟩
   rw [Ev.iff_succ]
   simp only [spec_l1Cur_someGraph.j0, ↓reduceIte, e2, Option.bind_some]
   exact k1
  | false =>
   obtain ⟨n', es', a', s', k1, k2, k3, k4⟩ := some_j1 hb m hm n a s h0 h1 (by omega)
   refine ⟨n', es', a', s', ?_, k2, k3, by omega⟩
   rw [Ev.iff_succ]
   simp only [spec_l1Cur_someGraph.j0, Bool.false_eq_true, ↓reduceIte]
   exact k1
 unfold spec_l1Cur_someGraph.f
 rw [e1]
 simp only [Option.bind_some]
 by_cases c : m > 6
 ·obtain ⟨q, a2, s2, e2, g6, g7⟩ := one_ok hb s1 4 g3 g4 (by omega)
  simp only [c, ↓reduceIte, e2, Option.bind_some]
  exact j0 q a2 s2 g6 (by omega)
 ·simp only [c, ↓reduceIte]
  exact j0 false a1 s1 g3 (by omega)

theorem l2Bits_ok (n : Nat) (c : Int) (hn : n ≤ 8) : ∃ m, Ev (fun k => spec_l2Bits.f k n c) m ∧ m.length ≤ n := by
 have H : ∀ (d i : Nat) (l : List Int), i + d = n → l.length ≤ i → ∃ m, Ev (fun k => spec_l2Bits.l0 k n c l i) m ∧ m.length ≤ n := by
  intro d
  induction d with
  | zero =>
   intro i l hi hl
   refine ⟨l, ?_, by omega⟩
   rw [Ev.iff_succ]
   simp only [spec_l2Bits.l0]
   rw [Ev.ite_iff, if_neg (by omega), Ev.now_iff]
  | succ d ih =>
   intro i l hi hl
   have h1 : (i : Int) < (n : Int) := by omega
   have h2 : (0 : Int) ≤ (i : Int) := by omega
   have h3 : l.length < 17592186044416 := by omega
   by_cases g : Go.bits .and .i64 (shr .i64 c i) 1 = 1
   ·obtain ⟨m, k1, k2⟩ := ih (i + 1) (l ++ [(i : Int)]) (by omega) (by simp;omega)
    refine ⟨m, ?_, k2⟩
    rw [Ev.iff_succ]
    simp only [spec_l2Bits.l0, h1, h2, h3, g, ↓reduceIte, w64_succ i (show i < 9223372036854775807 by omega)]
    exact k1
   ·obtain ⟨m, k1, k2⟩ := ih (i + 1) l (by omega) (by omega)
    refine ⟨m, ?_, k2⟩
    rw [Ev.iff_succ]
    simp only [spec_l2Bits.l0, h1, h2, h3, g, ↓reduceIte, w64_succ i (show i < 9223372036854775807 by omega)]
    exact k1
 exact H n 0 [] (by omega) (by simp)

theorem nodes_ok {l : List Int} (hb : ∀ x ∈ l, byteOk x) {a : Int} (s : Int) {b : Nat} (n : Int) (es : List S119) (h0 : 0 ≤ a) (h1 : a ≤ b) (h2 : b < 9223372036854000000) :
  ∃ m a' s', Ev (fun k => spec_l1Cur_nodes.f k l a s n es) (m, a', s') ∧ m.length ≤ 9 ∧ 0 ≤ a' ∧ a' ≤ ((b + 6 : Nat) : Int) := by
 obtain ⟨t, ht, ht8⟩ : ∃ t : Nat, ((spec_l1Least.f n 8).bind fun t => spec_l1Most.f t 0) = some (t : Int) ∧ t ≤ 8 := by
  unfold spec_l1Least.f spec_l1Most.f
  by_cases c : n < 8
  ·rw [if_pos c]
   simp only [Option.bind_some]
   by_cases c2 : n > 0
   ·rw [if_pos c2];exact ⟨n.toNat, by rw [Int.toNat_of_nonneg (by omega)], by omega⟩
   ·rw [if_neg c2];exact ⟨0, rfl, by omega⟩
  ·rw [if_neg c];exact ⟨8, rfl, by omega⟩
 obtain ⟨t0, ht0, ht1⟩ := Option.bind_eq_some_iff.1 ht
 obtain ⟨r, a1, s1, e1, g1, _, g3, g4⟩ := pick_ok hb s 256 h0 h1 (by omega)
 obtain ⟨m, k1, k2⟩ := l2Bits_ok t r ht8
 obtain ⟨q, a2, s2, e2, g6, g7⟩ := one_ok hb s1 20 g3 g4 (by omega)
 unfold spec_l1Cur_nodes.f
 rw [ht0]
 simp only [Option.bind_some, ht1, e1]
 cases q with
 | true =>
  obtain ⟨x, a3, s3, e3, _, g8, g9⟩ := among_ok hb s2 [(-1), 0, 8] (by simp) g6 g7 (by omega)
  refine ⟨m ++ [x], a3, s3, ?_, by simp;omega, g8, by omega⟩
  rw [Ev.bind_iff k1]
  simp only [e2, Option.bind_some, ↓reduceIte, e3]
  rw [Ev.ite_iff, if_pos (by omega), Ev.now_iff]
 | false =>
  refine ⟨m, a2, s2, ?_, by omega, g6, by omega⟩
  rw [Ev.bind_iff k1]
  simp only [e2, Option.bind_some, Bool.false_eq_true, ↓reduceIte]
  exact Ev.now _

theorem bl_full_len (n : Nat) : (bl n (2 ^ n - 1)).length = n := by
 rw [bl_len, List.filter_eq_self.2 (fun x hx => by rw [Nat.testBit_two_pow_sub_one];simpa using hx), List.length_range]

theorem setB_bl {n : Nat} {es : List S119} {m : Nat} (h : okG n es = true) (hm : m < 2 ^ n) : setB n es (bl n m) = true ∧ mL (bl n m) = m := by
 refine ⟨?_, mL_bl hm⟩
 have h' := h
 simp only [okG, Bool.and_eq_true, decide_eq_true_eq] at h'
 rw [setB, h, w64 (by omega) (by omega), bl_in, bl_asc]
 rfl

theorem byte_wf {x : Int} (h : (Lit.int .u8 x).wf = true) : byteOk x := by
 simp only [Lit.wf, Bool.and_eq_true, decide_eq_true_eq, show IntKind.u8.min = 0 by decide, show IntKind.u8.max = 255 by decide] at h
 exact ⟨h.1, by omega⟩

def outM (es : List S119) (n m x : Nat) : Nat := (bl n (mns (nb es n x) m)).length

theorem split_len (a m : Nat) : ∀ n : Nat, ((List.range n).filter (fun x => a.testBit x)).length = ((List.range n).filter (fun x => (a &&& m).testBit x)).length + ((List.range n).filter (fun x => (mns a m).testBit x)).length
 | 0 => rfl
 | n + 1 => by
  have ih := split_len a m n
  rw [filter_range_succ, filter_range_succ, filter_range_succ, List.length_append, List.length_append, List.length_append, ih]
  simp only [Nat.testBit_and, mns_bit]
  cases a.testBit n <;> cases m.testBit n <;> simp <;> omega

theorem out_in (es : List S119) (n m x : Nat) : (bl n (nb es n x)).length = cntM es n m x + outM es n m x := by
 unfold cntM outM
 rw [bl_len, bl_len, bl_len]
 exact split_len _ _ n

theorem out_rest (es : List S119) (n m x : Nat) : cntM es n (mns (2 ^ n - 1) m) x = outM es n m x := by
 unfold cntM outM
 congr 2
 refine Nat.eq_of_testBit_eq (fun i => ?_)
 rw [Nat.testBit_and, mns_bit, mns_bit, Nat.testBit_two_pow_sub_one]
 by_cases hi : i < n
 ·simp [hi]
 ·rw [bit_lt (nb_lt es n x) (by omega)];simp

def stopB (es : List S119) (n : Nat) (r : Int) (m : Nat) : Bool := decide (m ≠ 0) && (bl n m).all (fun x => decide ((outM es n m x.toNat : Int) < r))

theorem stopB_iff {es : List S119} {n : Nat} {r : Int} {m : Nat} : stopB es n r m = true ↔ m ≠ 0 ∧ ∀ x, x < n → m.testBit x = true → (outM es n m x : Int) < r := by
 unfold stopB
 rw [Bool.and_eq_true, decide_eq_true_eq, List.all_eq_true]
 constructor
 ·rintro ⟨h1, h2⟩
  refine ⟨h1, fun x hx hb => ?_⟩
  have := h2 (x : Int) (mem_bl_nat.2 ⟨hx, hb⟩)
  simpa using this
 ·rintro ⟨h1, h2⟩
  refine ⟨h1, fun x hx => ?_⟩
  obtain ⟨i, hi, hb, rfl⟩ := mem_bl.1 hx
  simpa using h2 i hi hb

def stoppingR (n : Int) (es : List S119) (l : List Int) (r : Int) : Bool × Bool := if setB n es l = true ∧ (1 ≤ r ∧ r ≤ 8) then (stopB es n.toNat r (mL l), true) else (false, false)

theorem stopBad_eq {es : List S119} {n m : Nat} (r : Int) (hn : n ≤ 8) (hm : m < 2 ^ n) : stopBad (nets es n) m r (bl n m) = some ((bl n m).any (fun x => decide (¬ (outM es n m x.toNat : Int) < r))) := by
 have hc : ∀ x ∈ bl n m, (0 ≤ x ∧ x < ((nets es n).length : Int)) ∧ bits_OnesCount.f (IntKind.u64.wrap (Go.bits .andNot .i64 (rd (nets es n) x) m)) = some ((outM es n m x.toNat : Nat) : Int) := by
  intro x hx
  obtain ⟨i, hi, hb, rfl⟩ := mem_bl.1 hx
  refine ⟨⟨by omega, by rw [nets_len];omega⟩, ?_⟩
  rw [nets_rd hi, gandn _ _ (lt62 hn (nb_lt es n i)) (lt62 hn hm), ones_bl hn (mns_lt _ (nb_lt es n i)), Int.toNat_natCast]
  rfl
 unfold stopBad
 rw [if_pos (fun x hx => ⟨(hc x hx).1, by rw [(hc x hx).2];rfl⟩)]
 congr 1
 rw [Bool.eq_iff_iff, List.any_eq_true, List.any_eq_true]
 have he : ∀ x ∈ bl n m, stopP (nets es n) m r x = decide (¬ (outM es n m x.toNat : Int) < r) := fun x hx => by
  unfold stopP
  rw [(hc x hx).2]
  simp only [Option.map_some, Option.getD_some, ge_iff_le, Int.not_lt]
 constructor
 ·rintro ⟨x, hx, h⟩;exact ⟨x, hx, by rw [← he x hx];exact h⟩
 ·rintro ⟨x, hx, h⟩;exact ⟨x, hx, by rw [he x hx];exact h⟩

theorem implIsStopping_ev (n : Int) (es : List S119) (l : List Int) (r : Int) (hl : l.length ≤ 9223372036854775807) : Ev (fun k => impl_IsStopping.f k n es l r) (stoppingR n es l r) := by
 unfold impl_IsStopping.f stoppingR
 rw [Ev.bind_iff (isSet_ev n es l hl), Ev.ite_iff]
 by_cases h : setB n es l = true
 ·obtain ⟨N, m, rfl, hN, hg, hok, hm, hlm, hml⟩ := setB_use h
  have hr : ∀ x ∈ l, 0 ≤ x ∧ x < 8 := by rw [hlm];exact bl_range hN
  rw [if_pos h, within_eq]
  simp only [Option.bind_some, h, true_and]
  rw [Ev.iff_succ]
  simp only [impl_IsStopping.j0, Ev.ite_iff, netOf_eq hg, Option.bind_some, Bool.not_eq_true', decide_eq_false_iff_not]
  by_cases h3 : 1 ≤ r ∧ r ≤ 8
  ·rw [if_neg (by simp [h3]), if_pos h3, Ev.bind_iff (maskOf_ev l hl hr), hml, Int.toNat_natCast, Ev.ite_iff]
   by_cases c : m = 0
   ·rw [if_pos (by omega), Ev.now_iff]
    simp only [stopB, c, ne_eq, not_true_eq_false, decide_false, Bool.false_and]
   ·rw [if_neg (by omega), hlm, stopBad_eq r hN hm]
    simp only [Option.bind_some]
    rw [Ev.now_iff]
    simp only [stopB, ne_eq, c, not_false_eq_true, decide_true, Bool.true_and, Prod.mk.injEq, and_true]
    rw [Bool.eq_iff_iff, Bool.not_eq_true', List.any_eq_false, List.all_eq_true]
    simp only [decide_eq_true_eq, Classical.not_not]
  ·rw [if_pos h3, if_neg h3, Ev.now_iff]
 ·rw [if_neg h, Ev.iff_succ]
  simp only [impl_IsStopping.j0, ↓reduceIte, Ev.now_iff, h, false_and, Bool.false_eq_true]

theorem specIsStopping_l0 {es : List S119} {n m : Nat} (r : Int) (hn : n ≤ 8) (hm : m < 2 ^ n) (he : es.length ≤ 9223372036854775807) : Ev (fun k => spec_IsStopping.l0 k (bl n m) r 0 n es) (stopB es n r m, true) := by
 have hb := bl_len_le n m
 have hz := bl_zero_iff (n := n) hm
 have H := down (bl n m).length (fun i => Ev (fun k => spec_IsStopping.l0 k (bl n m) r i n es) (decide (((bl n m).length : Int) > 0) && ((bl n m).drop i).all (fun x => decide ((outM es n m x.toNat : Int) < r)), true)) ?_ ?_ 0 (by omega)
 ·have e : decide (m ≠ 0) = decide (((bl n m).length : Int) > 0) := by
   by_cases c : m = 0
   ·have := hz.2 c;rw [decide_eq_false (fun h => h c), decide_eq_false (show ¬ ((bl n m).length : Int) > 0 by omega)]
   ·have := mt hz.1 c;rw [decide_eq_true c, decide_eq_true (show ((bl n m).length : Int) > 0 by omega)]
  unfold stopB
  rw [e]
  exact H
 ·show Ev _ _
  rw [Ev.iff_succ]
  simp only [spec_IsStopping.l0, Int.lt_irrefl, ↓reduceIte, Ev.now_iff, List.drop_length, List.all_nil, Bool.and_true]
 ·intro i hi ih
  show Ev _ _
  rw [Ev.iff_succ]
  have h1 : (i : Int) < (bl n m).length := by omega
  have h2 : (0 : Int) ≤ i := by omega
  obtain ⟨y, hy, hby, hye⟩ := mem_bl.1 (List.getElem_mem hi)
  have h3 : rd (bl n m) (i : Int) = (y : Int) := by rw [rd_lt _ i hi, hye]
  have hs := out_in es n m y
  have hnb := bl_len_le n (nb es n y)
  have hw : wrap64 (((bl n (nb es n y)).length : Int) - ((cntM es n m y : Nat) : Int)) = ((outM es n m y : Nat) : Int) := by rw [w64 (by omega) (by omega)];omega
  rw [List.drop_eq_getElem_cons hi, hye, List.all_cons, Int.toNat_natCast]
  simp only [spec_IsStopping.l0, h1, h2, h3, ↓reduceIte]
  rw [Ev.bind_iff (l2Neighbors_ev n es y hn he), Ev.bind_iff (l8Inside_ev n es (bl n m) y (by omega) he), inside_cnt, hw, Ev.ite_iff]
  by_cases c : ((outM es n m y : Nat) : Int) ≥ r
  ·rw [if_pos c, Ev.now_iff, decide_eq_false (show ¬ ((outM es n m y : Nat) : Int) < r by omega)]
   simp
  ·rw [if_neg c, decide_eq_true (show ((outM es n m y : Nat) : Int) < r by omega), Bool.true_and]
   clear hw
   simp only [w64_succ i (show i < 9223372036854775807 by omega)]
   exact ih

end Go.Proofs.Ytmokkhfmbenleaa.QSpreading
