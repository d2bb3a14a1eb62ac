import Derived.Test.YtmokkhfmbenleaaQSpreading0
import Derived.Test.YtmokkhfmbenleaaQSpreading11
import Derived.Test.YtmokkhfmbenleaaQSpreading12
import Derived.Test.YtmokkhfmbenleaaQSpreading2
import Derived.Test.YtmokkhfmbenleaaQSpreading7
import Derived.Test.YtmokkhfmbenleaaQSpreading8
import Derived.Test.YtmokkhfmbenleaaQSpreading9
import Derived.Test.YtmokkhfmbenleaaQSpreadingA4
namespace Go.Proofs.Ytmokkhfmbenleaa.QSpreading
open Go.RowKit Go.Proofs.YtmokkhfmbenleaaW.PrintWords Go.Proofs.YtmokkhfmbenleaaW.PrintLast Go.Proofs.YtmokkhfmbenleaaW.PrintMore
attribute [local go_sem] max2_int min2_int max_two min_two max_three min_three max_four min_four   -- for this text's walks alone
set_option linter.unusedVariables false
set_option linter.unusedSimpArgs false
theorem specIsStopping_ev (n : Int) (es : List S119) (l : List Int) (r : Int) (hl : l.length ≤ 9223372036854775807) (he : es.length ≤ 9223372036854775807) : Ev (fun k => spec_IsStopping.f k n es l r) (stoppingR n es l r) := by
 unfold spec_IsStopping.f stoppingR
 rw [l2Good_eq]
 simp only [Option.bind_some, Ev.ite_iff]
 by_cases h1 : okG n es = true
 case neg =>
  have h : ¬ setB n es l = true := by simp only [setB, h1, Bool.false_and, Bool.false_eq_true, not_false_eq_true]
  rw [if_neg h1, if_neg (fun g => h g.1), Ev.iff_succ]
  simp only [spec_IsStopping.j0, ↓reduceIte, Ev.now_iff]
 rw [if_pos h1, Ev.bind_iff (l2Set_ev n es l hl), Ev.ite_iff]
 by_cases h2 : (allIn 0 (wrap64 (n - 1)) l && ascB none l) = true
 case neg =>
  have h : ¬ setB n es l = true := by simp only [setB, h1, h2, Bool.true_and, Bool.false_eq_true, not_false_eq_true]
  rw [if_neg h2, if_neg (fun g => h g.1), Ev.iff_succ]
  simp only [spec_IsStopping.j0, ↓reduceIte, Ev.now_iff]
 have h : setB n es l = true := by simp only [setB, h1, h2, Bool.and_self]
 have hnum : spec_l8Number.f r = some (decide (1 ≤ r ∧ r ≤ 8)) := by unfold spec_l8Number.f;rw [l1In_eq];rfl
 rw [if_pos h2, hnum]
 simp only [Option.bind_some]
 rw [Ev.iff_succ]
 simp only [spec_IsStopping.j0]
 rw [Ev.ite_iff]
 by_cases h3 : 1 ≤ r ∧ r ≤ 8
 ·obtain ⟨N, m, rfl, hN, hg, hok, hm, rfl, hml⟩ := setB_use h
  rw [if_neg (by simp [h3]), if_pos ⟨h, h3⟩, hml, Int.toNat_natCast]
  exact specIsStopping_l0 r hN hm he
 ·rw [if_pos (by simp [h3]), if_neg (fun g => h3 g.2), Ev.now_iff]

theorem bestF_p {p : Nat → Bool} {n : Nat} : ∀ (d c b : Nat), p b = true → p (bestF p n d c b) = true
 | 0, _, _, h => h
 | d + 1, c, b, h => by
  rw [bestF]
  refine bestF_p d (c + 1) _ ?_
  split
  ·rename_i g;rw [Bool.and_eq_true] at g;exact g.1
  ·exact h

theorem bestF_len {p : Nat → Bool} {n : Nat} : ∀ (d c b : Nat), (bl n (bestF p n d c b)).length ≤ (bl n b).length ∧ ∀ x, c ≤ x → x < c + d → p x = true → (bl n (bestF p n d c b)).length ≤ (bl n x).length
 | 0, _, _ => ⟨Nat.le_refl _, fun x h1 h2 => by omega⟩
 | d + 1, c, b => by
  rw [bestF]
  obtain ⟨h1, h2⟩ := bestF_len (p := p) (n := n) d (c + 1) (if (p c && betM n c b) = true then c else b)
  have h3 : (bl n (if (p c && betM n c b) = true then c else b)).length ≤ (bl n b).length ∧ (p c = true → (bl n (if (p c && betM n c b) = true then c else b)).length ≤ (bl n c).length) := by
   split
   ·rename_i g
    rw [Bool.and_eq_true] at g
    have g2 := g.2
    unfold betM at g2
    simp only [Bool.or_eq_true, Bool.and_eq_true, decide_eq_true_eq] at g2
    exact ⟨by omega, fun _ => Nat.le_refl _⟩
   ·rename_i g
    refine ⟨Nat.le_refl _, fun hp => ?_⟩
    rw [hp, Bool.true_and] at g
    unfold betM at g
    simp only [Bool.or_eq_true, decide_eq_true_eq, not_or] at g
    omega
  refine ⟨by omega, fun x hx hd hp => ?_⟩
  by_cases e : x = c
  ·subst e;have := h3.2 hp;omega
  ·exact h2 x (by omega) (by omega) hp

theorem spread_full {es : List S119} {n : Nat} {r : Int} : spreadM es n r (2 ^ n - 1) = 2 ^ n - 1 := by
 have hp := Nat.two_pow_pos n
 obtain ⟨h1, h2, _, _⟩ := spreadM_least (es := es) (r := r) (show 2 ^ n - 1 < 2 ^ n by omega)
 refine mask_ext (n := n) h1 (by omega) (fun i hi => ?_)
 have h3 : (2 ^ n - 1).testBit i = true := by rw [Nat.testBit_two_pow_sub_one];simpa using hi
 rw [h3, h2 i hi h3]

theorem spread_again {es : List S119} {n m : Nat} {r : Int} (hm : m < 2 ^ n) : spreadM es n r (spreadM es n r m) = spreadM es n r m := by
 obtain ⟨h1, h2, h3, h4⟩ := spreadM_least (es := es) (r := r) hm
 have g := spreadM_least (es := es) (r := r) h1
 exact leastR_unique g ⟨h1, subM_refl _ _, h3, fun d _ hs _ => hs⟩

theorem rest_lt (n m : Nat) : mns (2 ^ n - 1) m < 2 ^ n := mns_lt _ (by have := Nat.two_pow_pos n; omega)

theorem rest_bit {n m i : Nat} (hi : i < n) : (mns (2 ^ n - 1) m).testBit i = !m.testBit i := by rw [mns_bit, Nat.testBit_two_pow_sub_one]; simp [hi]

theorem rest_stops {es : List S119} {n m : Nat} {r : Int} (hm : m < 2 ^ n) : stopB es n r (mns (2 ^ n - 1) (spreadM es n r m)) = decide (mns (2 ^ n - 1) (spreadM es n r m) ≠ 0) := by
 obtain ⟨h1, h2, h3, h4⟩ := spreadM_least (es := es) (r := r) hm
 generalize spreadM es n r m = C at h1 h2 h3 h4
 rw [Bool.eq_iff_iff, stopB_iff, decide_eq_true_eq]
 refine ⟨fun h => h.1, fun h => ⟨h, fun x hx hb => ?_⟩⟩
 rw [rest_bit hx] at hb
 have e : outM es n (mns (2 ^ n - 1) C) x = cntM es n C x := by
  rw [← out_rest]
  unfold cntM
  congr 2
  refine Nat.eq_of_testBit_eq (fun i => ?_)
  rw [Nat.testBit_and, Nat.testBit_and]
  by_cases hi : i < n
  ·rw [rest_bit hi, rest_bit hi, Bool.not_not]
  ·rw [bit_lt (nb_lt es n x) (by omega), Bool.false_and, Bool.false_and]
 rw [e]
 refine Int.lt_of_not_ge (fun hc => ?_)
 rw [h3 x hx hc] at hb
 simp at hb

theorem stops_meet {es : List S119} {n m c : Nat} {r : Int} (hm : m < 2 ^ n) (hs : stopB es n r m = true) (hc : c < 2 ^ n) (hp : spreadM es n r c = 2 ^ n - 1) : ∃ x, x < n ∧ m.testBit x = true ∧ c.testBit x = true := by
 obtain ⟨hm0, hst⟩ := stopB_iff.1 hs
 refine Classical.byContradiction (fun hne => hm0 ?_)
 have hno : ∀ x, x < n → m.testBit x = true → c.testBit x = false := fun x hx hb => by
  cases e : c.testBit x
  ·rfl
  ·exact absurd ⟨x, hx, hb, e⟩ hne
 obtain ⟨h1, h2, h3, h4⟩ := spreadM_least (es := es) (r := r) hc
 rw [hp] at h4
 have hD : subM n c (mns (2 ^ n - 1) m) := fun i hi hb => by
  rw [rest_bit hi]
  cases e : m.testBit i
  ·rfl
  ·rw [hno i hi e] at hb;cases hb
 have hcl : closedR es n r (mns (2 ^ n - 1) m) := fun x hx hcx => by
  rw [rest_bit hx]
  cases e : m.testBit x
  ·rfl
  ·have := hst x hx e
   rw [out_rest] at hcx
   omega
 have hall := h4 _ (rest_lt n m) hD hcl
 refine mask_ext (n := n) hm (Nat.two_pow_pos n) (fun i hi => ?_)
 have h5 : (2 ^ n - 1).testBit i = true := by rw [Nat.testBit_two_pow_sub_one];simpa using hi
 have := hall i hi h5
 rw [rest_bit hi] at this
 rw [Nat.zero_testBit]
 simpa using this

theorem rInts_self (a : List Int) (ha : a.length ≤ 1048576) : Ev (fun k => laws_rInts.f k a a) true := by
 unfold laws_rInts.f
 rw [Ev.ite_iff, if_pos rfl]
 refine down a.length (fun i => Ev (fun k => laws_rInts.l0 k a a i) true) ?_ ?_ 0 (by omega)
 ·show Ev _ _
  rw [Ev.iff_succ]
  simp only [laws_rInts.l0, Int.lt_irrefl, ↓reduceIte, Ev.now_iff]
 ·intro i hi ih
  show Ev _ _
  rw [Ev.iff_succ]
  have h1 : (i : Int) < a.length := by omega
  have h2 : (0 : Int) ≤ i := by omega
  simp only [laws_rInts.l0, h1, h2, ↓reduceIte, w64_succ i (by omega)]
  exact ih

theorem rHas_ev (l : List Int) (a : Int) (hl : l.length ≤ 9223372036854775807) : Ev (fun k => laws_rHas.f k l a) (decide (a ∈ l)) := by
 have H := down l.length (fun i => Ev (fun k => laws_rHas.l0 k l a i) (decide (a ∈ l.drop i))) ?_ ?_ 0 (by omega)
 ·simpa [laws_rHas.f] using H
 ·show Ev _ _
  rw [Ev.iff_succ]
  simp [laws_rHas.l0, Ev.now_iff]
 ·intro i hi ih
  show Ev _ _
  rw [Ev.iff_succ]
  have h1 : (i : Int) < l.length := by omega
  have h2 : (0 : Int) ≤ i := by omega
  simp only [laws_rHas.l0, Ev.ite_iff, h1, h2, ↓reduceIte, w64_succ i (by omega), Ev.now_iff, rd_lt l i hi, List.drop_eq_getElem_cons hi, List.mem_cons]
  split
  ·rename_i h;simp [h]
  ·rename_i h;simpa [show ¬ a = l[i] from fun e => h e.symm] using ih

theorem rPart_sub (a b : List Int) (ha : a.length ≤ 1048576) (hb : b.length ≤ 1048576) (h : ∀ x ∈ a, x ∈ b) : Ev (fun k => laws_rPart.f k a b) true := by
 unfold laws_rPart.f
 refine down a.length (fun i => Ev (fun k => laws_rPart.l0 k a b i) true) ?_ ?_ 0 (by omega)
 ·show Ev _ _
  rw [Ev.iff_succ]
  simp only [laws_rPart.l0, Int.lt_irrefl, ↓reduceIte, Ev.now_iff]
 ·intro i hi ih
  show Ev _ _
  rw [Ev.iff_succ]
  have h1 : (i : Int) < a.length := by omega
  have h2 : (0 : Int) ≤ i := by omega
  simp only [laws_rPart.l0, h1, h2, ↓reduceIte, w64_succ i (by omega), rd_lt a i hi]
  rw [Ev.bind_iff (rHas_ev b a[i] (by omega)), Ev.ite_iff, if_pos (decide_eq_true (h _ (List.getElem_mem hi)))]
  exact ih

theorem number_ok {l : List Int} (hb : ∀ x ∈ l, byteOk x) {a : Int} (s : Int) {b : Nat} (h0 : 0 ≤ a) (h1 : a ≤ b) (h2 : b < 9223372036854770000) :
  ∃ d a' s', spec_l1Cur_number.f l a s = some (d, a', s') ∧ (Lit.int .i64 d).wf = true := by
 obtain ⟨q, a1, s1, e1, g1, g2⟩ := one_ok hb s 20 h0 h1 (by omega)
 unfold spec_l1Cur_number.f
 rw [e1]
 simp only [Option.bind_some]
 cases q with
 | true =>
  obtain ⟨d, a2, s2, e2, hm, _, _⟩ := among_ok hb s1 [0, (-1), 9, 4611686018427387904] (by simp) g1 g2 (by omega)
  rw [if_pos rfl, e2]
  refine ⟨_, _, _, rfl, ?_⟩
  show (Lit.int .i64 d).wf = true
  simp only [List.mem_cons, List.not_mem_nil, or_false] at hm
  rcases hm with rfl | rfl | rfl | rfl <;> decide
 | false =>
  obtain ⟨d, a2, s2, e2, hm, _, _⟩ := among_ok hb s1 [1, 2, 2, 3, 4, 8] (by simp) g1 g2 (by omega)
  rw [if_neg (by decide), e2]
  refine ⟨_, _, _, rfl, ?_⟩
  show (Lit.int .i64 d).wf = true
  simp only [List.mem_cons, List.not_mem_nil, or_false] at hm
  rcases hm with rfl | rfl | rfl | rfl | rfl | rfl <;> decide

theorem FnSpreading_l1 {N : Nat} {s : List Int} {c : Nat} (hs : s.length ≤ 9) (hN : N ≤ 8) (h : ∃ x ∈ s, x ∈ bl N c) : Ev (fun k => laws_FnSpreading.l1 k s (bl N c) 0) true := by
 have hb := bl_len_le N c
 have H : ∀ d i : Nat, i + d = s.length → (∃ x ∈ s.drop i, x ∈ bl N c) → Ev (fun k => laws_FnSpreading.l1 k s (bl N c) (i : Int)) true := by
  intro d
  induction d with
  | zero =>
   intro i hi h
   obtain ⟨x, hx, _⟩ := h
   rw [List.drop_eq_nil_of_le (by omega)] at hx
   cases hx
  | succ d ih =>
   intro i hi h
   have hlt : i < s.length := by omega
   have h1 : (i : Int) < s.length := by omega
   have h2 : (0 : Int) ≤ i := by omega
   rw [Ev.iff_succ]
   simp only [laws_FnSpreading.l1, h1, h2, ↓reduceIte, rd_lt s i hlt, w64_succ i (show i < 9223372036854775807 by omega)]
   rw [Ev.bind_iff (rHas_ev (bl N c) s[i] (by omega)), Ev.ite_iff]
   by_cases c1 : s[i] ∈ bl N c
   ·rw [if_pos (decide_eq_true c1)];exact Ev.now _
   ·rw [if_neg (by simp [c1])]
    refine ih (i + 1) (by omega) ?_
    obtain ⟨x, hx, hc⟩ := h
    rw [List.drop_eq_getElem_cons hlt] at hx
    rcases List.mem_cons.1 hx with rfl | hx
    ·exact absurd hc c1
    ·exact ⟨x, hx, hc⟩
 exact H s.length 0 (by omega) (by simpa using h)

theorem FnSpreading_j4 {N m : Nat} {es : List S119} {r : Int} (hN : N ≤ 8) (hg : okG N es = true) (hm : m < 2 ^ N) (hr : 1 ≤ r ∧ r ≤ 8) {c : Nat} (hc : c < 2 ^ N) (hp : spreadM es N r c = 2 ^ N - 1) (hl : (bl N m).length ≤ 9) :
  Ev (fun k => laws_FnSpreading.j4 k (bl N m) r (bl N (spreadM es N r m)) (stopB es N r m) (bl N c) false N es) true := by
 rw [Ev.iff_succ]
 simp only [laws_FnSpreading.j4, Bool.false_eq_true, ↓reduceIte]
 have hC := (spreadM_least (es := es) (r := r) hm).1
 have hb := bl_len_le N (spreadM es N r m)
 have hst := rest_stops (es := es) (r := r) hm
 generalize hCe : spreadM es N r m = C at hC hb hst
 have H := down N (fun i => Ev (fun k => laws_FnSpreading.l0 k (bl N m) r (bl N C) (stopB es N r m) (bl N c) (bl i (mns (2 ^ N - 1) C)) i N es) true) ?_ ?_ 0 (by omega)
 ·simpa [bl] using H
 ·show Ev _ _
  rw [Ev.iff_succ]
  simp only [laws_FnSpreading.l0, Int.lt_irrefl, ↓reduceIte]
  have hR := rest_lt N C
  have hbl := bl_len_le N (mns (2 ^ N - 1) C)
  obtain ⟨s1, s2⟩ := setB_bl hg hR
  have hS : stoppingR N es (bl N (mns (2 ^ N - 1) C)) r = (stopB es N r (mns (2 ^ N - 1) C), true) := by
   rw [stoppingR, if_pos ⟨s1, hr⟩, s2, Int.toNat_natCast]
  have hz := bl_zero_iff (n := N) hR
  have e : (decide (mns (2 ^ N - 1) C ≠ 0) != decide (((bl N (mns (2 ^ N - 1) C)).length : Int) > 0)) = false := by
   by_cases c0 : mns (2 ^ N - 1) C = 0
   ·have := hz.2 c0
    rw [decide_eq_false (fun h => h c0), decide_eq_false (show ¬ ((bl N (mns (2 ^ N - 1) C)).length : Int) > 0 by omega)];rfl
   ·have := mt hz.1 c0
    rw [decide_eq_true c0, decide_eq_true (show ((bl N (mns (2 ^ N - 1) C)).length : Int) > 0 by omega)];rfl
  rw [Ev.bind_iff (implIsStopping_ev N es _ r (by omega)), hS, Ev.ite_iff, if_pos rfl, hst]
  simp only [e]
  rw [Ev.iff_succ]
  simp only [laws_FnSpreading.j6, Bool.false_eq_true, ↓reduceIte]
  rw [Ev.ite_iff]
  by_cases cs : stopB es N r m = true
  ·rw [if_pos cs]
   obtain ⟨x, hx, h1, h2⟩ := stops_meet hm cs hc hp
   exact FnSpreading_l1 hl hN ⟨(x : Int), mem_bl_nat.2 ⟨hx, h1⟩, mem_bl_nat.2 ⟨hx, h2⟩⟩
  ·rw [if_neg cs];exact Ev.now _
 ·intro i hi ih
  show Ev _ _
  rw [Ev.iff_succ]
  have h1 : (i : Int) < (N : Int) := by omega
  have h3 := bl_len_le i (mns (2 ^ N - 1) C)
  have h4 : (bl i (mns (2 ^ N - 1) C)).length < 17592186044416 := by omega
  rw [bl_step hi, rest_bit hi] at ih
  simp only [laws_FnSpreading.l0, h1, h4, ↓reduceIte, w64_succ i (show i < 9223372036854775807 by omega)]
  rw [Ev.bind_iff (rHas_ev (bl N C) i (by omega)), Ev.ite_iff]
  simp only [mem_bl_nat, hi, true_and]
  cases cb : C.testBit i
  ·rw [cb] at ih;simpa using ih
  ·rw [cb] at ih;simpa using ih

theorem FnSpreading_pure (l : List Int) (hw : ∀ x ∈ l, (Lit.int .u8 x).wf = true) : Ev (fun k => laws_FnSpreading.f k l) true := by
 have hb : ∀ x ∈ l, byteOk x := fun x hx => byte_wf (hw x hx)
 unfold laws_FnSpreading.f laws_rBig.f
 simp only [Option.bind_some]
 rw [Ev.ite_iff]
 by_cases c : (l.length : Int) > 65536
 ·rw [if_pos (by simp [c])];exact Ev.now _
 rw [if_neg (by simp [c])]
 obtain ⟨n, es, a, s, h1, he, h3, h4⟩ := someGraph_ok hb 8 (by omega) 0 0 (b := 0) (by omega) (by omega) (by omega)
 obtain ⟨ms, a', s', h5, hms, h6, h7⟩ := nodes_ok hb s n es h3 h4 (by omega)
 obtain ⟨r, a2, s2, h8, hrw⟩ := number_ok hb s' h6 h7 (by omega)
 have g1 : Ev (fun k => spec_DrawSpreadOf.f k l) (n, es, ms, r) := by
  unfold spec_DrawSpreadOf.f spec_newCur.f spec_l1Cur_bigGraph.f
  simp only [Option.bind_some]
  rw [Ev.bind_iff (a := (n, es, a, s)) (by rw [Ev.bind_iff h1];exact Ev.now _), Ev.bind_iff h5, h8]
  exact Ev.now _
 have hS := spreadOfR_len n es ms r
 have hL := leastSpreadingR_len n es r
 rw [Ev.bind_iff g1, Ev.bind_iff (implSpreadOf_ev n es ms r (by omega) hrw), Ev.bind_iff (specSpreadOf_ev n es ms r (by omega) hrw (by omega)), Ev.ite_iff, if_neg (by simp), Ev.bind_iff (rInts_self _ hS), Ev.iff_succ]
 simp only [laws_FnSpreading.j0, Bool.not_true, Bool.false_eq_true, ↓reduceIte]
 have hone : (stoppingR n es ms r).2 = (spreadOfR n es ms r).2 := by
  unfold stoppingR spreadOfR
  split <;> rfl
 rw [Ev.bind_iff (implIsStopping_ev n es ms r (by omega)), Ev.bind_iff (specIsStopping_ev n es ms r (by omega) (by omega)), Ev.ite_iff, if_neg (by simp), Ev.ite_iff, if_neg (by simp), hone, Ev.iff_succ]
 simp only [laws_FnSpreading.j1, bne_self_eq_false, Bool.false_eq_true, ↓reduceIte]
 rw [Ev.bind_iff (implLeastSpreading_ev n es r hrw), Ev.bind_iff (specLeastSpreading_ev n es r hrw (by omega)), Ev.ite_iff, if_neg (by simp), Ev.bind_iff (rInts_self _ hL), Ev.iff_succ]
 simp only [laws_FnSpreading.j2, Bool.not_true, Bool.false_eq_true, ↓reduceIte]
 rw [Ev.ite_iff]
 by_cases h : setB n es ms = true ∧ (1 ≤ r ∧ r ≤ 8)
 case neg => rw [if_neg (by simp only [spreadOfR, if_neg h];decide)];exact Ev.now _
 have hE : spreadOfR n es ms r = (bl n.toNat (spreadM es n.toNat r (mL ms)), true) := by rw [spreadOfR, if_pos h]
 have hT : stoppingR n es ms r = (stopB es n.toNat r (mL ms), true) := by rw [stoppingR, if_pos h]
 have hr := h.2
 obtain ⟨N, m, rfl, hN, hg, hok, hm, rfl, hml⟩ := setB_use h.1
 have hQ : leastSpreadingR N es r = (bl N (bestF (sprP es N r) N (2 ^ N) 0 (2 ^ N - 1)), true) := by rw [leastSpreadingR, if_pos ⟨hg, hr⟩, Int.toNat_natCast]
 rw [hE, hT, hQ, if_pos rfl]
 simp only [Int.toNat_natCast, hml]
 have hpos := Nat.two_pow_pos N
 have hc := bestF_lt (p := sprP es N r) (n := N) (2 ^ N) 0 (2 ^ N - 1) (by omega) (by omega)
 have hp := bestF_p (p := sprP es N r) (n := N) (2 ^ N) 0 (2 ^ N - 1) (by simp only [sprP, spread_full, decide_true])
 have hmin := (bestF_len (p := sprP es N r) (n := N) (2 ^ N) 0 (2 ^ N - 1)).2 m (by omega) (by omega)
 generalize bestF (sprP es N r) N (2 ^ N) 0 (2 ^ N - 1) = cc at hc hp hmin
 simp only [sprP, decide_eq_true_eq] at hp hmin
 obtain ⟨g2, g3, g4, g5⟩ := spreadM_least (es := es) (r := r) hm
 have b1 := bl_len_le N (spreadM es N r m)
 have b2 := bl_len_le N cc
 have b3 := bl_len_le N (2 ^ N - 1)
 obtain ⟨e1, e2⟩ := setB_bl hg g2
 obtain ⟨e3, e4⟩ := setB_bl hg hc
 have hA : spreadOfR N es (bl N (spreadM es N r m)) r = (bl N (spreadM es N r m), true) := by rw [spreadOfR, if_pos ⟨e1, hr⟩, e2, Int.toNat_natCast, spread_again hm]
 have hB : spreadOfR N es (bl N cc) r = (bl N (2 ^ N - 1), true) := by rw [spreadOfR, if_pos ⟨e3, hr⟩, e4, Int.toNat_natCast, hp]
 rw [Ev.bind_iff (implSpreadOf_ev N es (bl N (spreadM es N r m)) r (by omega) hrw), Ev.bind_iff (implSpreadOf_ev N es (bl N cc) r (by omega) hrw), hA, hB, Ev.ite_iff, if_pos rfl, Ev.ite_iff, if_pos rfl, Ev.ite_iff, if_pos trivial]
 rw [Ev.bind_iff (rInts_self (bl N (spreadM es N r m)) (by omega)), Ev.ite_iff, if_pos rfl, Ev.ite_iff, if_pos (by simp only [bl_full_len])]
 have hsub : ∀ x ∈ bl N m, x ∈ bl N (spreadM es N r m) := fun x hx => by
  obtain ⟨i, hi, hbi, rfl⟩ := mem_bl.1 hx
  exact mem_bl_nat.2 ⟨hi, g3 i hi hbi⟩
 rw [Ev.bind_iff (rPart_sub (bl N m) (bl N (spreadM es N r m)) (by omega) (by omega) hsub), Ev.iff_succ]
 simp only [laws_FnSpreading.j3, Bool.not_true, Bool.false_eq_true, ↓reduceIte]
 have hj := FnSpreading_j4 hN hg hm hr hc hp hms
 rw [Ev.ite_iff]
 by_cases cf : ((bl N (spreadM es N r m)).length : Int) = (N : Int)
 ·have hfull : spreadM es N r m = 2 ^ N - 1 := (bl_len_full N hN _ g2).1 (by omega)
  have := hmin hfull
  rw [if_pos cf, decide_eq_false (show ¬ ((bl N m).length : Int) < ((bl N cc).length : Int) by omega)]
  exact hj
 ·rw [if_neg cf];exact hj

end Go.Proofs.Ytmokkhfmbenleaa.QSpreading
