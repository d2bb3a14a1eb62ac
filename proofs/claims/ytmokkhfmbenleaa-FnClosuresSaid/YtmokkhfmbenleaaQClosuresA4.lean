import Derived.Test.YtmokkhfmbenleaaQClosures0
import Derived.Test.YtmokkhfmbenleaaQClosures10
import Derived.Test.YtmokkhfmbenleaaQClosures11
import Derived.Test.YtmokkhfmbenleaaQClosures16
import Derived.Test.YtmokkhfmbenleaaQClosures17
import Derived.Test.YtmokkhfmbenleaaQClosures19
import Derived.Test.YtmokkhfmbenleaaQClosures5
import Derived.Test.YtmokkhfmbenleaaQClosures6
import Derived.Test.YtmokkhfmbenleaaQClosuresA3
namespace Go.Proofs.Ytmokkhfmbenleaa.QClosures
open Go.RowKit Go.Proofs.YtmokkhfmbenleaaW.PrintWords Go.Proofs.YtmokkhfmbenleaaW.PrintLast Go.Proofs.YtmokkhfmbenleaaW.PrintMore
attribute [local go_sem] max2_int min2_int max_two min_two max_three min_three max_four min_four   -- for this text's walks alone
set_option linter.unusedVariables false
set_option linter.unusedSimpArgs false
theorem someGraph_ok {l : List Int} (hb : ∀ x ∈ l, byteOk x) (m : Int) (hm : m ≤ 8) (a s : Int) {b : Nat} (h0 : 0 ≤ a) (h1 : a ≤ b) (h2 : b < 9223372036852000000) : Drawn l (b + 500) (fun k => spec_l1Cur_someGraph.f k l a s m) := by
 obtain ⟨n, a1, s1, e1, _, g3, g4⟩ := among_ok hb s [4, 5, 3, 6, 2, 1, 0] (by simp) h0 h1 (by omega)
 have j0 : ∀ (q : Bool) (a s : Int), 0 ≤ a → a ≤ ((b + 10 : Nat) : Int) → Drawn l (b + 500) (fun k => spec_l1Cur_someGraph.j0 k m n q l a s) := by
  intro q a s h0 h1
  cases q with
  | true =>
   obtain ⟨r, a2, s2, e2, _, _, g6, g7⟩ := pick_ok hb s 2 h0 h1 (by omega)
   obtain ⟨n', es', a', s', k1, k2, k3, k4⟩ := some_j1 hb m hm (wrap64 (7 + r)) a2 s2 g6 g7 (by omega)
   refine ⟨n', es', a', s', ?_, k2, k3, by omega⟩
   rw [Ev.iff_succ]
   simp only [spec_l1Cur_someGraph.j0, ↓reduceIte, e2, Option.bind_some]
   exact k1
  | false =>
   obtain ⟨n', es', a', s', k1, k2, k3, k4⟩ := some_j1 hb m hm n a s h0 h1 (by omega)
   refine ⟨n', es', a', s', ?_, k2, k3, by omega⟩
   rw [Ev.iff_succ]
   simp only [spec_l1Cur_someGraph.j0, Bool.false_eq_true, ↓reduceIte]
   exact k1
 unfold spec_l1Cur_someGraph.f
 rw [e1]
 simp only [Option.bind_some]
 by_cases c : m > 6
 ·obtain ⟨q, a2, s2, e2, g6, g7⟩ := one_ok hb s1 4 g3 g4 (by omega)
  simp only [c, ↓reduceIte, e2, Option.bind_some]
  exact j0 q a2 s2 g6 (by omega)
 ·simp only [c, ↓reduceIte]
  exact j0 false a1 s1 g3 (by omega)

theorem l2Bits_ok (n : Nat) (c : Int) (hn : n ≤ 8) : ∃ m, Ev (fun k => spec_l2Bits.f k n c) m ∧ m.length ≤ n := by
 have H : ∀ (d i : Nat) (l : List Int), i + d = n → l.length ≤ i → ∃ m, Ev (fun k => spec_l2Bits.l0 k n c l i) m ∧ m.length ≤ n := by
  intro d
  induction d with
  | zero =>
   intro i l hi hl
   refine ⟨l, ?_, by omega⟩
   rw [Ev.iff_succ]
   simp only [spec_l2Bits.l0]
   rw [Ev.ite_iff, if_neg (by omega), Ev.now_iff]
  | succ d ih =>
   intro i l hi hl
   have h1 : (i : Int) < (n : Int) := by omega
   have h2 : (0 : Int) ≤ (i : Int) := by omega
   have h3 : l.length < 17592186044416 := by omega
   by_cases g : Go.bits .and .i64 (shr .i64 c i) 1 = 1
   ·obtain ⟨m, k1, k2⟩ := ih (i + 1) (l ++ [(i : Int)]) (by omega) (by simp; omega)
    refine ⟨m, ?_, k2⟩
    rw [Ev.iff_succ]
    simp only [spec_l2Bits.l0, h1, h2, h3, g, ↓reduceIte, w64_succ i (show i < 9223372036854775807 by omega)]
    exact k1
   ·obtain ⟨m, k1, k2⟩ := ih (i + 1) l (by omega) (by omega)
    refine ⟨m, ?_, k2⟩
    rw [Ev.iff_succ]
    simp only [spec_l2Bits.l0, h1, h2, h3, g, ↓reduceIte, w64_succ i (show i < 9223372036854775807 by omega)]
    exact k1
 exact H n 0 [] (by omega) (by simp)

theorem nodes_ok {l : List Int} (hb : ∀ x ∈ l, byteOk x) {a : Int} (s : Int) {b : Nat} (n : Int) (es : List S119) (h0 : 0 ≤ a) (h1 : a ≤ b) (h2 : b < 9223372036854000000) :
  ∃ m a' s', Ev (fun k => spec_l1Cur_nodes.f k l a s n es) (m, a', s') ∧ m.length ≤ 9 ∧ 0 ≤ a' ∧ a' ≤ ((b + 6 : Nat) : Int) := by
 obtain ⟨t, ht, ht8⟩ : ∃ t : Nat, ((spec_l1Least.f n 8).bind fun t => spec_l1Most.f t 0) = some (t : Int) ∧ t ≤ 8 := by
  unfold spec_l1Least.f spec_l1Most.f
  by_cases c : n < 8
  ·rw [if_pos c]
   simp only [Option.bind_some]
   by_cases c2 : n > 0
   ·rw [if_pos c2]; exact ⟨n.toNat, by rw [Int.toNat_of_nonneg (by omega)], by omega⟩
   ·rw [if_neg c2]; exact ⟨0, rfl, by omega⟩
  ·rw [if_neg c]; exact ⟨8, rfl, by omega⟩
 obtain ⟨t0, ht0, ht1⟩ := Option.bind_eq_some_iff.1 ht
 obtain ⟨r, a1, s1, e1, g1, _, g3, g4⟩ := pick_ok hb s 256 h0 h1 (by omega)
 obtain ⟨m, k1, k2⟩ := l2Bits_ok t r ht8
 obtain ⟨q, a2, s2, e2, g6, g7⟩ := one_ok hb s1 20 g3 g4 (by omega)
 unfold spec_l1Cur_nodes.f
 rw [ht0]
 simp only [Option.bind_some, ht1, e1]
 cases q with
 | true =>
  obtain ⟨x, a3, s3, e3, _, g8, g9⟩ := among_ok hb s2 [(-1), 0, 8] (by simp) g6 g7 (by omega)
  refine ⟨m ++ [x], a3, s3, ?_, by simp; omega, g8, by omega⟩
  rw [Ev.bind_iff k1]
  simp only [e2, Option.bind_some, ↓reduceIte, e3]
  rw [Ev.ite_iff, if_pos (by omega), Ev.now_iff]
 | false =>
  refine ⟨m, a2, s2, ?_, by omega, g6, by omega⟩
  rw [Ev.bind_iff k1]
  simp only [e2, Option.bind_some, Bool.false_eq_true, ↓reduceIte]
  exact Ev.now _

theorem fold_bit_iff {es : List S119} {n m nx : Nat} {skew : Bool} {y : Nat} : ∀ i, ((List.range i).foldl (fStep es n m skew) nx).testBit y = true ↔ nx.testBit y = true ∨ ∃ x, x < i ∧ ((skew || m.testBit x) && isPow (opM es n m x)) = true ∧ (opM es n m x).testBit y = true
 | 0 => by simp
 | i + 1 => by
  rw [fold_range_succ]
  have ih := fold_bit_iff (es := es) (n := n) (m := m) (nx := nx) (skew := skew) (y := y) i
  generalize (List.range i).foldl (fStep es n m skew) nx = acc at ih ⊢
  unfold fStep
  constructor
  ·intro h
   by_cases c : ((skew || m.testBit i) && isPow (opM es n m i)) = true
   ·rw [if_pos c, Nat.testBit_or, Bool.or_eq_true, ih] at h
    rcases h with (h | ⟨x, hx, h⟩) | h
    ·exact .inl h
    ·exact .inr ⟨x, by omega, h⟩
    ·exact .inr ⟨i, by omega, c, h⟩
   ·rw [if_neg c, ih] at h
    rcases h with h | ⟨x, hx, h⟩
    ·exact .inl h
    ·exact .inr ⟨x, by omega, h⟩
  ·intro h
   have h' : acc.testBit y = true ∨ ((skew || m.testBit i) && isPow (opM es n m i)) = true ∧ (opM es n m i).testBit y = true := by
    rcases h with h | ⟨x, hx, h⟩
    ·exact .inl (ih.2 (.inl h))
    ·by_cases e : x = i
     ·subst e; exact .inr h
     ·exact .inl (ih.2 (.inr ⟨x, by omega, h⟩))
   split
   ·rw [Nat.testBit_or, Bool.or_eq_true]
    rcases h' with h' | h'
    ·exact .inl h'
    ·exact .inr h'.2
   ·rename_i c
    rcases h' with h' | h'
    ·exact h'
    ·exact absurd h'.1 c

theorem once_in {es : List S119} {n m C : Nat} {skew skew2 : Bool} (hn : n ≤ 8) (hs : skew = true → skew2 = true) (hsub : ∀ i, m.testBit i = true → C.testBit i = true) (hst : onceM es n C skew2 = C) {y : Nat} (h : (onceM es n m skew).testBit y = true) : C.testBit y = true := by
 rcases (fold_bit_iff n).1 h with h | ⟨x, hx, hc, hy⟩
 ·exact hsub y h
 ·by_cases g : C.testBit y = true
  ·exact g
  ·rw [Bool.and_eq_true, Bool.or_eq_true] at hc
   obtain ⟨j, hj, he⟩ := isPow_spec n hn _ (opM_lt es n m x) hc.2
   have hyj : j = y := by rw [he, Nat.testBit_two_pow] at hy; simpa using hy
   subst hyj
   have heq : opM es n C x = opM es n m x := by
    refine Nat.eq_of_testBit_eq (fun i => ?_)
    by_cases e : i = j
    ·subst e
     rw [hy]
     unfold opM at hy ⊢
     rw [mns_bit, Bool.and_eq_true] at hy
     rw [mns_bit, hy.1]
     simp [g]
    ·have h1 : (opM es n m x).testBit i = false := by rw [he, Nat.testBit_two_pow]; simp; omega
     rw [h1]
     unfold opM at h1 ⊢
     rw [mns_bit] at h1 ⊢
     rw [Bool.and_eq_false_iff] at h1
     rcases h1 with h1 | h1
     ·rw [h1]; rfl
     ·have h2 : m.testBit i = true := by simpa using h1
      rw [hsub i h2]; simp
   rw [← hst]
   refine (fold_bit_iff n).2 (.inr ⟨x, hx, ?_, by rw [heq]; exact hy⟩)
   rw [heq, hc.2, Bool.and_true, Bool.or_eq_true]
   rcases hc.1 with h1 | h1
   ·exact .inl (hs h1)
   ·exact .inr (hsub x h1)

theorem clos_in {es : List S119} {n C : Nat} {skew skew2 : Bool} (hn : n ≤ 8) (hs : skew = true → skew2 = true) (hst : onceM es n C skew2 = C) : ∀ m, m < 2 ^ n → (∀ i, m.testBit i = true → C.testBit i = true) → ∀ y, (closM es n skew m).testBit y = true → C.testBit y = true := by
 intro m
 obtain ⟨d, hd⟩ : ∃ d, d = 2 ^ n - m := ⟨_, rfl⟩
 induction d using Nat.strongRecOn generalizing m with
 | _ d ih =>
  intro hm hsub y hy
  unfold closM at hy
  by_cases c : onceM es n m skew = m
  ·rw [dif_neg (by simp [c])] at hy
   exact hsub y hy
  ·have h1 := onceM_le es n m skew
   have h2 := onceM_lt (es := es) (skew := skew) hm
   rw [dif_pos ⟨hm, c⟩] at hy
   exact ih _ (by omega) _ rfl h2 (fun i hi => once_in hn hs hsub hst hi) y hy

/-- A closure stands. -/
theorem clos_stable {es : List S119} {n : Nat} {skew : Bool} : ∀ m, m < 2 ^ n → onceM es n (closM es n skew m) skew = closM es n skew m := by
 intro m
 obtain ⟨d, hd⟩ : ∃ d, d = 2 ^ n - m := ⟨_, rfl⟩
 induction d using Nat.strongRecOn generalizing m with
 | _ d ih =>
  intro hm
  by_cases c : onceM es n m skew = m
  ·rw [closM_stop c]; exact c
  ·have h1 := onceM_le es n m skew
   have h2 := onceM_lt (es := es) (skew := skew) hm
   rw [← closM_once hm]
   exact ih _ (by omega) _ rfl h2

/-- A closure grows with its set. -/
theorem clos_mono {es : List S119} {n m m' : Nat} {skew skew2 : Bool} (hn : n ≤ 8) (hs : skew = true → skew2 = true) (hm : m < 2 ^ n) (hm' : m' < 2 ^ n) (h : ∀ i, m.testBit i = true → m'.testBit i = true) {y : Nat} (hy : (closM es n skew m).testBit y = true) : (closM es n skew2 m').testBit y = true :=
 clos_in hn hs (clos_stable m' hm') m hm (fun i hi => clos_sub hm' (h i hi)) y hy

theorem bl_full_len (n : Nat) : (bl n (2 ^ n - 1)).length = n := by
 rw [bl_len, List.filter_eq_self.2 (fun x hx => by rw [Nat.testBit_two_pow_sub_one]; simpa using hx), List.length_range]

theorem setB_bl {n : Nat} {es : List S119} {m : Nat} (h : okG n es = true) (hm : m < 2 ^ n) : setB n es (bl n m) = true ∧ mL (bl n m) = m := by
 refine ⟨?_, mL_bl hm⟩
 have h' := h
 simp only [okG, Bool.and_eq_true, decide_eq_true_eq] at h'
 rw [setB, h, w64 (by omega) (by omega), bl_in, bl_asc]
 rfl

theorem byte_wf {x : Int} (h : (Lit.int .u8 x).wf = true) : byteOk x := by
 simp only [Lit.wf, Bool.and_eq_true, decide_eq_true_eq, show IntKind.u8.min = 0 by decide, show IntKind.u8.max = 255 by decide] at h
 exact ⟨h.1, by omega⟩

theorem vInts_self (a : List Int) (ha : a.length ≤ 1048576) : Ev (fun k => laws_vInts.f k a a) true := by
 unfold laws_vInts.f
 rw [Ev.ite_iff, if_pos rfl]
 refine down a.length (fun i => Ev (fun k => laws_vInts.l0 k a a i) true) ?_ ?_ 0 (by omega)
 ·show Ev _ _
  rw [Ev.iff_succ]
  simp only [laws_vInts.l0, Int.lt_irrefl, ↓reduceIte, Ev.now_iff]
 ·intro i hi ih
  show Ev _ _
  rw [Ev.iff_succ]
  have h1 : (i : Int) < a.length := by omega
  have h2 : (0 : Int) ≤ i := by omega
  simp only [laws_vInts.l0, h1, h2, ↓reduceIte, w64_succ i (by omega)]
  exact ih

theorem vHas_mem (a : List Int) (x : Int) (ha : a.length ≤ 1048576) (hx : x ∈ a) : Ev (fun k => laws_vHas.f k a x) true := by
 unfold laws_vHas.f
 obtain ⟨j, hj, rfl⟩ := List.getElem_of_mem hx
 have H : ∀ d i, i + d = j → Ev (fun k => laws_vHas.l0 k a a[j] (i : Int)) true := by
  intro d
  induction d with
  | zero =>
   intro i hi
   rw [Ev.iff_succ]
   have h1 : (i : Int) < a.length := by omega
   have h2 : (0 : Int) ≤ i := by omega
   have h3 : rd a (i : Int) = a[j] := by rw [rd_lt a i (by omega)]; congr 1
   simp only [laws_vHas.l0, h1, h2, h3, ↓reduceIte, Ev.now_iff]
  | succ d ih =>
   intro i hi
   rw [Ev.iff_succ]
   have h1 : (i : Int) < a.length := by omega
   have h2 : (0 : Int) ≤ i := by omega
   simp only [laws_vHas.l0, h1, h2, ↓reduceIte, w64_succ i (show i < 9223372036854775807 by omega)]
   rw [Ev.ite_iff]
   split
   ·exact Ev.now _
   ·exact ih (i + 1) (by omega)
 exact H j 0 (by omega)

theorem vPart_sub (a b : List Int) (ha : a.length ≤ 1048576) (hb : b.length ≤ 1048576) (h : ∀ x ∈ a, x ∈ b) : Ev (fun k => laws_vPart.f k a b) true := by
 unfold laws_vPart.f
 refine down a.length (fun i => Ev (fun k => laws_vPart.l0 k a b i) true) ?_ ?_ 0 (by omega)
 ·show Ev _ _
  rw [Ev.iff_succ]
  simp only [laws_vPart.l0, Int.lt_irrefl, ↓reduceIte, Ev.now_iff]
 ·intro i hi ih
  show Ev _ _
  rw [Ev.iff_succ]
  have h1 : (i : Int) < a.length := by omega
  have h2 : (0 : Int) ≤ i := by omega
  simp only [laws_vPart.l0, h1, h2, ↓reduceIte, w64_succ i (by omega), rd_lt a i hi]
  rw [Ev.bind_iff (vHas_mem b a[i] hb (h _ (List.getElem_mem hi))), Ev.ite_iff, if_pos rfl]
  exact ih

theorem vCut_ok (l : List Int) (hb : ∀ x ∈ l, byteOk x) (hl : l.length ≤ 65536) : ∃ m, laws_vCut.f l 1 = some m ∧ (∀ x ∈ m, byteOk x) := by
 have hd : ∀ (i : Nat) (y : Int), ∀ x ∈ l.drop i ++ [y % 256], byteOk x := by
  intro i y x hx
  rcases List.mem_append.1 hx with h | h
  ·exact hb x (List.mem_of_mem_drop h)
  ·rw [List.mem_singleton.1 h]; exact ⟨by omega, by omega⟩
 have hn : ∀ i, (l.drop i).length ≤ 65536 := fun i => by rw [List.length_drop]; omega
 unfold laws_vCut.f
 by_cases c : (1 : Int) > (l.length : Int)
 ·refine ⟨l.drop ((l.length : Int)).toNat ++ [(l.length : Int) % 256], ?_, hd _ _⟩
  have := hn ((l.length : Int)).toNat
  rw [if_pos c]
  simp only [Option.bind_some, List.nil_append, List.length_nil, Nat.zero_add]
  rw [if_pos (by omega), if_pos (by omega), if_pos (by omega), if_pos (by omega)]
 ·refine ⟨l.drop ((1 : Int)).toNat ++ [(1 : Int) % 256], ?_, hd _ _⟩
  have := hn ((1 : Int)).toNat
  rw [if_neg c]
  simp only [Option.bind_some, List.nil_append, List.length_nil, Nat.zero_add]
  rw [if_pos (by omega), if_pos (by omega), if_pos (by omega), if_pos (by omega)]

theorem drawForce_ok (l : List Int) (hb : ∀ x ∈ l, byteOk x) : ∃ n es s, Ev (fun k => spec_DrawForceOnce.f k l) (n, es, s) ∧ es.length ≤ 1001 ∧ s.length ≤ 9 := by
 obtain ⟨n, es, a, s, h1, h2, h3, h4⟩ := someGraph_ok hb 6 (by omega) 0 0 (b := 0) (by omega) (by omega) (by omega)
 obtain ⟨m, a', s', h5, h6, _, _⟩ := nodes_ok hb s n es h3 h4 (by omega)
 refine ⟨n, es, m, ?_, h2, h6⟩
 unfold spec_DrawForceOnce.f spec_newCur.f spec_l1Cur_graph.f
 simp only [Option.bind_some]
 rw [Ev.bind_iff (a := (n, es, a, s)) (by rw [Ev.bind_iff h1]; exact Ev.now _), Ev.bind_iff h5]
 exact Ev.now _

theorem bl_sub {n a b : Nat} (h : ∀ i, a.testBit i = true → b.testBit i = true) : ∀ x ∈ bl n a, x ∈ bl n b := by
 intro x hx
 obtain ⟨i, h1, h2, rfl⟩ := mem_bl.1 hx
 exact mem_bl_nat.2 ⟨h1, h i h2⟩

theorem FnClosures_j1 (n : Int) (es : List S119) (s : List Int) (he : es.length ≤ 1001) (hs : s.length ≤ 9) : Ev (fun k => laws_FnClosures.j1 k s (powerAllR n es s).1 (powerAllR n es s).2 n es) true := by
 rw [Ev.iff_succ]
 simp only [laws_FnClosures.j1]
 rw [Ev.ite_iff]
 by_cases h : setB n es s = true
 case neg => rw [if_neg (by simp [powerAllR, h])]; exact Ev.now _
 have hP : powerAllR n es s = (bl n.toNat (closM es n.toNat false (aroM es n.toNat (mL s))), true) := by rw [powerAllR, if_pos h]
 have hF : forceAllR false n es s = (bl n.toNat (closM es n.toNat false (mL s)), true) := by rw [forceAllR, if_pos h]
 have hD : dominatingR n es s = (decide (aroM es n.toNat (mL s) = 2 ^ n.toNat - 1), true) := by rw [dominatingR, if_pos h]
 rw [hP, if_pos rfl, Ev.bind_iff (implForceAll_ev n es s (by omega)), Ev.bind_iff (implIsDominating_ev n es s (by omega)), hF, hD]
 obtain ⟨N, m, rfl, hN, hg, hok, hm, rfl, hml⟩ := setB_use h
 simp only [Int.toNat_natCast, hml]
 have ha := aroM_lt (es := es) hm
 have hl1 := bl_len_le N (closM es N false m)
 have hl2 := bl_len_le N (closM es N false (aroM es N m))
 have hsub : ∀ x ∈ bl N (closM es N false m), x ∈ bl N (closM es N false (aroM es N m)) :=
  bl_sub (fun i hi => clos_mono hN (fun h => h) hm ha (fun j hj => (aroM_bit es N m j).2 (.inl hj)) hi)
 rw [Ev.bind_iff (vPart_sub _ _ (by omega) (by omega) hsub), Ev.ite_iff, if_pos rfl, Ev.ite_iff, if_pos trivial, Ev.ite_iff]
 by_cases c : aroM es N m = 2 ^ N - 1
 ·rw [if_pos (by simp [c]), Ev.now_iff, c, closM_full, bl_full_len]; simp
 ·rw [if_neg (by simp [c])]; exact Ev.now _

theorem FnClosures_j0 (n n2 : Int) (es es2 : List S119) (s s2 : List Int) (he : es.length ≤ 1001) (hs : s.length ≤ 9) (he2 : es2.length ≤ 1001) (hs2 : s2.length ≤ 9) :
  Ev (fun k => laws_FnClosures.j0 k s (powerAllR n es s).1 (powerAllR n es s).2 s2 (forceAllR true n2 es2 s2).1 (forceAllR true n2 es2 s2).2 false n es n2 es2) true := by
 have hj := FnClosures_j1 n es s he hs
 rw [Ev.iff_succ]
 simp only [laws_FnClosures.j0]
 rw [Ev.ite_iff, if_neg (by decide), Ev.ite_iff]
 by_cases h : setB n2 es2 s2 = true
 case neg => rw [if_neg (by simp [forceAllR, h])]; exact hj
 have hF : ∀ b, forceAllR b n2 es2 s2 = (bl n2.toNat (closM es2 n2.toNat b (mL s2)), true) := fun b => by rw [forceAllR, if_pos h]
 rw [hF true, if_pos rfl, Ev.bind_iff (implForceAll_ev n2 es2 s2 (by omega)), hF false]
 obtain ⟨N, m, rfl, hN, hg, hok, hm, rfl, hml⟩ := setB_use h
 simp only [Int.toNat_natCast, hml]
 have hC := closM_lt (es := es2) (skew := true) hm
 have hl1 := bl_len_le N (closM es2 N false m)
 have hl2 := bl_len_le N (closM es2 N true m)
 obtain ⟨hb1, hb2⟩ := setB_bl hg hC
 have hA : forceAllR true N es2 (bl N (closM es2 N true m)) = (bl N (closM es2 N true m), true) := by
  rw [forceAllR, if_pos hb1, hb2, Int.toNat_natCast, closM_stop (clos_stable m hm)]
 have hsub : ∀ x ∈ bl N (closM es2 N false m), x ∈ bl N (closM es2 N true m) :=
  bl_sub (fun i hi => clos_mono hN (fun h => by cases h) hm hm (fun j hj => hj) hi)
 rw [Ev.bind_iff (implSkewAll_ev N es2 _ (by omega)), Ev.bind_iff (vPart_sub _ _ (by omega) (by omega) hsub), Ev.ite_iff, if_pos rfl, hA, Ev.bind_iff (vInts_self (bl N (closM es2 N true m)) (by omega)), Ev.ite_iff, if_pos rfl]
 exact hj

theorem FnClosures_pure (l : List Int) (hw : ∀ x ∈ l, (Lit.int .u8 x).wf = true) : Ev (fun k => laws_FnClosures.f k l) true := by
 have hb : ∀ x ∈ l, byteOk x := fun x hx => byte_wf (hw x hx)
 unfold laws_FnClosures.f laws_vBig.f
 simp only [Option.bind_some]
 rw [Ev.ite_iff]
 by_cases c : (l.length : Int) > 65536
 ·rw [if_pos (by simp [c])]; exact Ev.now _
 rw [if_neg (by simp [c])]
 obtain ⟨n, es, s, h1, he, hs⟩ := drawForce_ok l hb
 obtain ⟨l2, hc, hb2⟩ := vCut_ok l hb (by omega)
 obtain ⟨n2, es2, s2, h2, he2, hs2⟩ := drawForce_ok l2 hb2
 have g1 : Ev (fun k => spec_DrawPowerAll.f k l) (n, es, s) := by unfold spec_DrawPowerAll.f; rw [Ev.bind_iff h1]; exact Ev.now _
 have g2 : Ev (fun k => spec_DrawSkewAll.f k l2) (n2, es2, s2) := by unfold spec_DrawSkewAll.f; rw [Ev.bind_iff h2]; exact Ev.now _
 have hj := FnClosures_j0 n n2 es es2 s s2 he hs he2 hs2
 have hP := powerAllR_len n es s
 have hS := forceAllR_len true n2 es2 s2
 rw [Ev.bind_iff g1, Ev.bind_iff (implPowerAll_ev n es s (by omega)), Ev.bind_iff (specPowerAll_ev n es s (by omega) (by omega)), hc]
 simp only [Option.bind_some]
 rw [Ev.bind_iff g2, Ev.bind_iff (implSkewAll_ev n2 es2 s2 (by omega)), Ev.bind_iff (specSkewAll_ev n2 es2 s2 (by omega) (by omega))]
 rw [Ev.ite_iff, if_neg (by simp), Ev.bind_iff (vInts_self _ hP), Ev.ite_iff, if_pos rfl, Ev.ite_iff, if_neg (by simp), Ev.bind_iff (vInts_self _ hS)]
 exact hj

end Go.Proofs.Ytmokkhfmbenleaa.QClosures
