import Derived.Test.YtfeaddkaommpgabQLeastSpreading0
import Derived.Test.YtfeaddkaommpgabQLeastSpreading1
import Derived.Test.YtfeaddkaommpgabQLeastSpreading10
import Derived.Test.YtfeaddkaommpgabQLeastSpreading11
import Derived.Test.YtfeaddkaommpgabQLeastSpreading2
import Derived.Test.YtfeaddkaommpgabQLeastSpreading3
import Derived.Test.YtfeaddkaommpgabQLeastSpreading6
import Derived.Test.YtfeaddkaommpgabQLeastSpreading7
import Derived.Test.YtfeaddkaommpgabQLeastSpreading8
import Derived.Test.YtfeaddkaommpgabQLeastSpreadingA1
namespace Go.Proofs.Ytfeaddkaommpgab.QLeastSpreading
open Go.RowKit Go.Proofs.YtfeaddkaommpgabW.PrintWords Go.Proofs.YtfeaddkaommpgabW.PrintLast Go.Proofs.YtfeaddkaommpgabW.PrintMore
attribute [local go_sem] max2_int min2_int max_two min_two max_three min_three max_four min_four   -- for this text's walks alone
set_option linter.unusedVariables false
set_option linter.unusedSimpArgs false
theorem markIntA2S_l0 (M : Int) (hM : M = 9223372036854775807) (d : Nat) : ∀ (l : List S70) (a : Int) (i : Nat), l.length = i + d → (l.length : Int) < M → 0 ≤ a → a + 2 * (d : Int) < M → ∃ r, laws_markIntA2S.l0 (d + 1) l a i = some (a + 2 * (d : Int), r) := by
  induction d with
  | zero =>
    intro l a i h _ _ _
    refine ⟨l, ?_⟩
    rw [laws_markIntA2S.l0, if_neg (by omega)]
    simp
  | succ d ih =>
    intro l a i h hl h0 h1
    have e1 : wrap64 (a + 1) = a + 1 := by rw [w64] <;> omega
    have e2 : wrap64 (a + 1 + 1) = a + 1 + 1 := by rw [w64] <;> omega
    have e3 : (i : Int) < (l.length : Int) := by omega
    have e4 : (0 : Int) ≤ i := by omega
    rw [laws_markIntA2S.l0, if_pos e3, if_pos e4, e1, e2, w64_succ i (by omega)]
    obtain ⟨r, hr⟩ := ih (l.set (i : Int).toNat ⟨a, a + 1⟩) (a + 1 + 1) (i + 1) (by rw [List.length_set]; omega) (by rw [List.length_set]; exact hl) (by omega) (by omega)
    exact ⟨r, by rw [hr]; congr 2; omega⟩

theorem markGraph_eq (n : Int) (l : List S70) (a : Int) (ha : 0 ≤ a) (h : a + 2 * (l.length : Int) < 9223372036854775807) : ∃ r, laws_markGraph.f n l a = some (a + 2 * (l.length : Int), r) := by
  obtain ⟨r, hr⟩ := markIntA2S_l0 _ rfl l.length l a 0 (by omega) (by omega) ha h
  exact ⟨r, by simp only [laws_markGraph.f, laws_markIntA2S.f]; rw [show ((0 : Nat) : Int) = 0 from rfl] at hr; rw [hr]; rfl⟩

theorem setOf_ev (n m : Nat) (hn : n ≤ 8) (hm : m < 2 ^ n) : Ev (fun k => impl_setOf.f k m) (bl n m) := by
  obtain ⟨t, ht⟩ : ∃ t, t = 9 := ⟨_, rfl⟩
  have hs : ∀ i, n ≤ i → m >>> i = 0 := fun i hi => by
    rw [Nat.shiftRight_eq_div_pow]; exact Nat.div_eq_of_lt (Nat.lt_of_lt_of_le hm (Nat.pow_le_pow_right (by decide) hi))
  have H := down n (fun i => Ev (fun k => impl_setOf.l0 k m (bl i m) i) (bl n m)) ?_ ?_ 0 (by omega)
  · simpa [impl_setOf.f, bl] using H
  · show Ev _ _
    rw [Ev.iff_succ]
    have h2 : (0 : Int) ≤ n := by omega
    simp [impl_setOf.l0, Ev.now_iff, h2, shr_nat m n (by omega), hs n (Nat.le_refl _)]
  · intro i hi ih
    show Ev _ _
    rw [Ev.iff_succ]
    have h2 : (0 : Int) ≤ i := by omega
    have h3 := bl_len_le i m
    have h4 : (bl i m).length < 17592186044416 := by omega
    have e3 := shr_bit m i (lt62 hn hm) (by omega)
    rw [bl_step hi] at ih
    simp only [impl_setOf.l0, Ev.ite_iff, h2, h4, ↓reduceIte, w64_succ i (by omega), e3]
    by_cases c : shr .i64 (m : Int) (i : Int) = 0
    · rw [if_pos c, Ev.now_iff]
      rw [shr_nat m i (by omega)] at c
      have c' : m >>> i = 0 := by omega
      have hb : ∀ j, i ≤ j → m.testBit j = false := fun j hj => by
        have : (m >>> i).testBit (j - i) = false := by rw [c']; simp
        rw [Nat.testBit_shiftRight] at this
        rwa [show i + (j - i) = j by omega] at this
      refine asc_ext (bl_asc _ _) (bl_asc _ _) (fun x => ?_)
      rw [mem_bl, mem_bl]
      constructor
      · rintro ⟨j, h1, h2, rfl⟩; exact ⟨j, by omega, h2, rfl⟩
      · rintro ⟨j, h1, h2, rfl⟩
        refine ⟨j, ?_, h2, rfl⟩
        by_cases hj : i ≤ j
        · rw [hb j hj] at h2; cases h2
        · omega
    · rw [if_neg c]
      cases c2 : m.testBit i
      · rw [c2] at ih; simpa using ih
      · rw [c2] at ih; simpa using ih

theorem l2Bits_ev (n m : Nat) (hn : n ≤ 8) (hm : m < 2 ^ n) : Ev (fun k => spec_l2Bits.f k n m) (bl n m) := by
  have H := down n (fun i => Ev (fun k => spec_l2Bits.l0 k n m (bl i m) i) (bl n m)) ?_ ?_ 0 (by omega)
  · simpa [spec_l2Bits.f, bl] using H
  · show Ev _ _
    rw [Ev.iff_succ]
    simp [spec_l2Bits.l0, Ev.now_iff]
  · intro i hi ih
    show Ev _ _
    rw [Ev.iff_succ]
    have h1 : (i : Int) < (n : Int) := by omega
    have h2 : (0 : Int) ≤ i := by omega
    have h3 := bl_len_le i m
    have h4 : (bl i m).length < 17592186044416 := by omega
    have e3 := shr_bit m i (lt62 hn hm) (by omega)
    rw [bl_step hi] at ih
    simp only [spec_l2Bits.l0, Ev.ite_iff, h1, h2, h4, ↓reduceIte, w64_succ i (by omega), e3]
    cases c : m.testBit i
    · rw [c] at ih; simpa using ih
    · rw [c] at ih; simpa using ih

/-- Does a list come before another one, number by number? -/
def lexLt : List Int → List Int → Bool
  | a :: s, b :: t => if a = b then lexLt s t else decide (a < b)
  | _, _ => false

theorem lexLt_nil (l : List Int) : lexLt [] l = false := by cases l <;> rfl

theorem lexLt_cons (a b : Int) (s t : List Int) : lexLt (a :: s) (b :: t) = if a = b then lexLt s t else decide (a < b) := rfl

theorem l4Less_ev (l m : List Int) (he : l.length = m.length) (hl : l.length ≤ 9223372036854775806) : Ev (fun k => spec_l4Less.f k l m) (lexLt l m) := by
  have H := down l.length (fun i => Ev (fun k => spec_l4Less.l0 k l m i) (lexLt (l.drop i) (m.drop i))) ?_ ?_ 0 (by omega)
  · simpa [spec_l4Less.f] using H
  · show Ev _ _
    rw [Ev.iff_succ]
    simp only [spec_l4Less.l0, Int.lt_irrefl, ↓reduceIte, Ev.now_iff, List.drop_length, lexLt_nil]
  · intro i hi ih
    show Ev _ _
    rw [Ev.iff_succ]
    have h1 : (i : Int) < l.length := by omega
    have h1' : (i : Int) < m.length := by omega
    have h2 : (0 : Int) ≤ i := by omega
    simp only [spec_l4Less.l0, Ev.ite_iff, h1, h1', h2, ↓reduceIte, w64_succ i (by omega), rd_lt l i hi, rd_lt m i (by omega), Ev.now_iff, List.drop_eq_getElem_cons hi, List.drop_eq_getElem_cons (show i < m.length by omega), lexLt_cons]
    by_cases c : l[i] = m[i]'(by omega)
    · simp only [c, ↓reduceIte]; exact ih
    · simp only [c, ↓reduceIte]

theorem cmpInt_eq (a b : Int) : cmp_Compare_int.f a b = some (if a < b then -1 else if a > b then 1 else 0) := by
  simp only [cmp_Compare_int.f, cmp_isNaN_int.f, bne_self_eq_false, Option.bind_some, Bool.false_eq_true, ↓reduceIte]
  split
  · rfl
  · split <;> rfl

/-- How two lists of one length compare. -/
def cmpL : List Int → List Int → Int
  | a :: s, b :: t => if a = b then cmpL s t else if a < b then -1 else 1
  | _, _ => 0

theorem cmpL_cons (a b : Int) (s t : List Int) : cmpL (a :: s) (b :: t) = if a = b then cmpL s t else if a < b then -1 else 1 := rfl

theorem cmpL_lt : ∀ (l m : List Int), cmpL l m < 0 ↔ lexLt l m = true
  | [], _ => by simp [cmpL, lexLt]
  | _ :: _, [] => by simp [cmpL, lexLt]
  | a :: s, b :: t => by
    rw [cmpL_cons, lexLt_cons]
    by_cases e : a = b
    · rw [if_pos e, if_pos e]; exact cmpL_lt s t
    · rw [if_neg e, if_neg e]
      by_cases g : a < b
      · rw [if_pos g]; simp [g]
      · rw [if_neg g]; simp [g]

theorem sliceCompare_ev (l m : List Int) (he : l.length = m.length) (hl : l.length ≤ 9223372036854775806) : Ev (fun k => slices_Compare_int_int.f k l m) (cmpL l m) := by
  have H := down l.length (fun i => Ev (fun k => slices_Compare_int_int.l0 k l m l l.length i) (cmpL (l.drop i) (m.drop i))) ?_ ?_ 0 (by omega)
  · exact H
  · show Ev _ _
    rw [Ev.iff_succ]
    simp only [slices_Compare_int_int.l0, Int.lt_irrefl, ↓reduceIte, Ev.ite_iff, Ev.now_iff]
    rw [if_neg (by omega), List.drop_length]; rfl
  · intro i hi ih
    show Ev _ _
    rw [Ev.iff_succ]
    have h1 : (i : Int) < l.length := by omega
    have h1' : (i : Int) < m.length := by omega
    have h1n : ¬ (i : Int) ≥ m.length := by omega
    have h2 : (0 : Int) ≤ i := by omega
    have e1 := rd_lt l i hi
    have e2 := rd_lt m i (by omega)
    rw [List.drop_eq_getElem_cons hi, List.drop_eq_getElem_cons (show i < m.length by omega), cmpL_cons]
    generalize l[i] = a at e1 ⊢
    generalize m[i]'(by omega) = b at e2 ⊢
    simp only [slices_Compare_int_int.l0, Ev.ite_iff, h1, h1', h1n, h2, ↓reduceIte, w64_succ i (by omega), e1, e2, cmpInt_eq, Option.bind_some]
    by_cases e : a = b
    · subst e
      simp only [Int.lt_irrefl, ↓reduceIte, show ¬ a > a by omega]
      exact ih
    · by_cases g : a < b
      · simp only [g, e, ↓reduceIte, Ev.now_iff]; simp
      · have g2 : a > b := by omega
        simp only [g, g2, e, ↓reduceIte, Ev.now_iff]; simp

/-- Is a set the better one: fewer nodes, or as many and it comes before? -/
def betM (n a b : Nat) : Bool := decide ((bl n a).length < (bl n b).length) || (decide ((bl n a).length = (bl n b).length) && lexLt (bl n a) (bl n b))

/-- The best set behind some sets, of those that p tells. -/
def bestF (p : Nat → Bool) (n : Nat) : Nat → Nat → Nat → Nat
  | 0, _, b => b
  | d + 1, c, b => bestF p n d (c + 1) (if p c && betM n c b then c else b)

def sprP (es : List S70) (n : Nat) (r : Int) (c : Nat) : Bool := decide (spreadM es n r c = 2 ^ n - 1)

def leastSpreadingR (n : Int) (es : List S70) (r : Int) : List Int × Bool := if okG n es = true ∧ (1 ≤ r ∧ r ≤ 8) then (bl n.toNat (bestF (sprP es n.toNat r) n.toNat (2 ^ n.toNat) 0 (2 ^ n.toNat - 1)), true) else ([], false)

theorem okG_use {n : Int} {es : List S70} (h : okG n es = true) : ∃ N : Nat, n = N ∧ N ≤ 8 := by
  simp only [okG, Bool.and_eq_true, decide_eq_true_eq] at h
  exact ⟨n.toNat, by omega, by omega⟩

theorem leastSpreadingR_len (n : Int) (es : List S70) (r : Int) : (leastSpreadingR n es r).1.length ≤ 1048576 := by
  unfold leastSpreadingR
  split
  · rename_i h
    obtain ⟨N, rfl, hN⟩ := okG_use h.1
    have := bl_len_le N (bestF (sprP es N r) N (2 ^ N) 0 (2 ^ N - 1))
    simp only [Int.toNat_natCast]; omega
  · simp

theorem l2All_ev {es : List S70} {n : Nat} (hn : n ≤ 8) : Ev (fun k => spec_l2All.f k n es) (bl n (2 ^ n - 1)) := by
  unfold spec_l2All.f
  rw [Ev.ite_iff, if_pos (by omega), mask_all n hn, Ev.bind_iff (l2Bits_ev n _ hn (by have := Nat.two_pow_pos n; omega)), Ev.now_iff]

theorem specLeastSpreading_l0 {es : List S70} {n : Nat} {r : Int} (hn : n ≤ 8) (hl : es.length ≤ 9223372036854775807) : ∀ (d c b : Nat), 2 ^ n = c + d → b < 2 ^ n →
    Ev (fun k => spec_LeastSpreading.l0 k r (bl n b) c n es) (bl n (bestF (sprP es n r) n d c b), true)
  | 0, c, b, hd, hb => by
    rw [Ev.iff_succ]
    have h2 : (0 : Int) ≤ n := by omega
    simp only [spec_LeastSpreading.l0, h2, ↓reduceIte, shl_one (show n < 62 by omega), Ev.ite_iff]
    rw [if_neg (by omega), Ev.now_iff, bestF]
  | d + 1, c, b, hd, hb => by
    rw [Ev.iff_succ]
    have h2 : (0 : Int) ≤ n := by omega
    have hc : c < 2 ^ n := by omega
    have h8 := p8 hn
    have hbl := bl_len_le n c
    have hs := (spreadM_least (es := es) (r := r) hc).1
    have hfull := bl_len_full n hn _ hs
    have hsl := bl_len_le n (spreadM es n r c)
    have ih0 := specLeastSpreading_l0 (es := es) (r := r) hn hl d (c + 1) b (by omega) hb
    have ih1 := specLeastSpreading_l0 (es := es) (r := r) hn hl d (c + 1) c (by omega) hc
    simp only [spec_LeastSpreading.l0, h2, ↓reduceIte, shl_one (show n < 62 by omega), Ev.ite_iff]
    rw [if_pos (by omega), Ev.bind_iff (l2Bits_ev n c hn hc), Ev.bind_iff (l8Spread_ev es n c r hn hc hl)]
    simp only [Ev.ite_iff, w64_succ c (show c < 9223372036854775807 by omega), bestF]
    by_cases f : spreadM es n r c = 2 ^ n - 1
    · have hp : sprP es n r c = true := by simp [sprP, f]
      rw [if_neg (by omega), hp, Bool.true_and]
      unfold betM
      by_cases g1 : (bl n c).length < (bl n b).length
      · rw [if_pos (by omega), if_pos (by simp [g1])]; exact ih1
      · rw [if_neg (by omega)]
        by_cases g2 : (bl n c).length = (bl n b).length
        · rw [if_pos (by omega), Ev.bind_iff (l4Less_ev _ _ g2 (by omega)), Ev.ite_iff]
          cases g3 : lexLt (bl n c) (bl n b)
          · rw [if_neg (by simp), if_neg (by simp [g1])]; exact ih0
          · rw [if_pos rfl, if_pos (by simp [g2])]; exact ih1
        · rw [if_neg (by omega), if_neg (by simp [g1, g2])]; exact ih0
    · have hp : sprP es n r c = false := by simp [sprP, f]
      rw [if_pos (by omega), hp, Bool.false_and, if_neg (by simp)]; exact ih0

theorem specLeastSpreading_ev (n : Int) (es : List S70) (r : Int) (_ : (Lit.int .i64 r).wf = true) (he : es.length ≤ 9223372036854775807) : Ev (fun k => spec_LeastSpreading.f k n es r) (leastSpreadingR n es r) := by
  unfold spec_LeastSpreading.f leastSpreadingR
  rw [l2Good_eq]
  simp only [Option.bind_some, Ev.ite_iff, spec_l8Number.f, l1In_eq]
  by_cases h : okG n es = true
  · obtain ⟨N, rfl, hN⟩ := okG_use h
    rw [if_pos h, Ev.iff_succ]
    simp only [spec_LeastSpreading.j0, Ev.ite_iff, Bool.not_eq_true', decide_eq_false_iff_not, h, true_and, Int.toNat_natCast]
    by_cases h3 : 1 ≤ r ∧ r ≤ 8
    · rw [if_neg (by simp [h3]), if_pos h3, Ev.bind_iff (l2All_ev hN)]
      exact specLeastSpreading_l0 hN he (2 ^ N) 0 _ (by omega) (by have := Nat.two_pow_pos N; omega)
    · rw [if_pos h3, if_neg h3, Ev.now_iff]
  · rw [if_neg h, Ev.iff_succ]
    simp only [spec_LeastSpreading.j0, ↓reduceIte, Ev.now_iff, h, false_and, Bool.false_eq_true]

theorem implLeastSpreading_l0 {es : List S70} {n : Nat} {r : Int} (hn : n ≤ 8) : ∀ (d c b : Nat) (f : Bool), 2 ^ n = c + d → b < 2 ^ n → (f = true ∨ b = 2 ^ n - 1 ∧ 0 < d) →
    Ev (fun k => impl_LeastSpreading.l0 k r (if f then bl n b else []) f ((2 ^ n : Nat) : Int) c (nets es n)) (bl n (bestF (sprP es n r) n d c b), true)
  | 0, c, b, f, hd, hb, hf => by
    have : f = true := by rcases hf with h | h; exact h; exact absurd h.2 (by omega)
    subst this
    rw [Ev.iff_succ]
    simp only [impl_LeastSpreading.l0, Ev.ite_iff]
    rw [if_neg (by omega), Ev.now_iff, bestF]; simp
  | d + 1, c, b, f, hd, hb, hf => by
    rw [Ev.iff_succ]
    have hc : c < 2 ^ n := by omega
    have h8 := p8 hn
    have hbl := bl_len_le n c
    have hs := (spreadM_least (es := es) (r := r) hc).1
    have ih1 := implLeastSpreading_l0 (es := es) (r := r) hn d (c + 1) c true (by omega) hc (.inl rfl)
    rw [if_pos rfl] at ih1
    simp only [impl_LeastSpreading.l0, Ev.ite_iff]
    rw [if_pos (by omega), Ev.bind_iff (setOf_ev n c hn hc), Ev.bind_iff (spread_ev es n r hn c hc), all_eq hn]
    simp only [Option.bind_some, Ev.ite_iff, w64_succ c (show c < 9223372036854775807 by omega), bestF]
    by_cases g : spreadM es n r c = 2 ^ n - 1
    · have hp : sprP es n r c = true := by simp [sprP, g]
      rw [if_pos (by rw [g]), hp, Bool.true_and]
      unfold betM
      cases f with
      | true =>
        have ih0 := implLeastSpreading_l0 (es := es) (r := r) hn d (c + 1) b true (by omega) hb (.inl rfl)
        simp only [↓reduceIte] at ih0 ⊢
        by_cases g1 : (bl n c).length < (bl n b).length
        · rw [if_pos (by omega), if_pos (by simp [g1])]; exact ih1
        · rw [if_neg (by omega)]
          by_cases g2 : (bl n c).length = (bl n b).length
          · have hz := sliceCompare_ev _ _ g2 (by omega)
            have hz2 := cmpL_lt (bl n c) (bl n b)
            rw [if_pos (by omega), Ev.bind_iff hz, Ev.ite_iff]
            cases g3 : lexLt (bl n c) (bl n b)
            · rw [if_neg (by rw [hz2, g3]; simp), if_neg (by simp [g1])]; exact ih0
            · rw [if_pos (by rw [hz2, g3]), if_pos (by simp [g2])]; exact ih1
          · rw [if_neg (by omega), if_neg (by simp [g1, g2])]; exact ih0
      | false =>
        obtain ⟨hbf, _⟩ : b = 2 ^ n - 1 ∧ 0 < d + 1 := by rcases hf with h | h; exact absurd h (by simp); exact h
        simp only [Bool.false_eq_true, ↓reduceIte]
        have hlb : (bl n b).length = n := (bl_len_full n hn b hb).2 hbf
        by_cases g1 : c = 2 ^ n - 1
        · have e : c = b := by omega
          subst e
          simp only [ite_self]; exact ih1
        · have := mt (bl_len_full n hn c hc).1 g1
          rw [if_pos (by simp only [hlb, Bool.or_eq_true, decide_eq_true_eq]; left; omega)]; exact ih1
    · have hp : sprP es n r c = false := by simp [sprP, g]
      rw [if_neg (by omega), hp, Bool.false_and, if_neg (show ¬ (false = true) by simp)]
      refine implLeastSpreading_l0 hn d (c + 1) b f (by omega) hb ?_
      rcases hf with h | ⟨h, _⟩
      · exact .inl h
      · right
        refine ⟨h, ?_⟩
        by_cases e : d = 0
        · exfalso
          have hcf : c = 2 ^ n - 1 := by omega
          refine g (mask_ext (n := n) hs (by omega) (fun i hi => ?_))
          have := (spreadM_least (es := es) (r := r) hc).2.1 i hi (by rw [hcf, Nat.testBit_two_pow_sub_one]; simp [hi])
          rw [this, Nat.testBit_two_pow_sub_one]; simp [hi]
        · omega

theorem implLeastSpreading_ev (n : Int) (es : List S70) (r : Int) (_ : (Lit.int .i64 r).wf = true) : Ev (fun k => impl_LeastSpreading.f k n es r) (leastSpreadingR n es r) := by
  unfold impl_LeastSpreading.f leastSpreadingR
  rw [IsGraph_eq]
  simp only [Option.bind_some, Ev.ite_iff, within_eq]
  by_cases h : okG n es = true
  · obtain ⟨N, rfl, hN⟩ := okG_use h
    have hp := Nat.two_pow_pos N
    have h8 := p8 hN
    rw [if_pos h, Ev.iff_succ]
    simp only [impl_LeastSpreading.j0, Ev.ite_iff, Bool.not_eq_true', decide_eq_false_iff_not, h, true_and, Int.toNat_natCast]
    by_cases h3 : 1 ≤ r ∧ r ≤ 8
    · rw [if_neg (by simp [h3]), if_pos h3, netOf_eq h]
      simp only [Option.bind_some, all_eq hN]
      rw [w64_succ _ (by omega), show 2 ^ N - 1 + 1 = 2 ^ N by omega]
      have := implLeastSpreading_l0 (es := es) (r := r) hN (2 ^ N) 0 (2 ^ N - 1) false (by omega) (by omega) (.inr ⟨rfl, hp⟩)
      simpa using this
    · rw [if_pos h3, if_neg h3, Ev.now_iff]
  · rw [if_neg h, Ev.iff_succ]
    simp only [impl_LeastSpreading.j0, ↓reduceIte, Ev.now_iff, h, false_and, Bool.false_eq_true]

theorem FnExactLeastSpreading_pure (n : Int) (es : List S70) (a : Int) (he : es.length ≤ 9223372036854775807) (ha : (Lit.int .i64 a).wf = true) : Ev (fun k => laws_FnExactLeastSpreading.f k n es a) true := by
  unfold laws_FnExactLeastSpreading.f
  rw [szGraph_eq n es (by omega)]
  simp only [Option.bind_some, Ev.ite_iff]
  by_cases hs : es.length ≤ 1048576
  case neg => rw [if_neg hs, if_pos (by omega), Ev.now_iff]
  rw [if_pos hs, if_neg (by omega)]
  have hg := toGraph_ev n es (by omega)
  have hr := leastSpreadingR_len n es a
  have hS := specLeastSpreading_ev n es a ha (by omega)
  have hI := implLeastSpreading_ev n es a ha
  generalize leastSpreadingR n es a = R at hr hS hI
  rw [Ev.bind_iff hg, Ev.bind_iff hS, Ev.bind_iff hg, Ev.bind_iff hI]
  rw [Ev.bind_iff (eqIntS_refl R.1 (by omega))]
  simp only [bne_self_eq_false, Bool.false_eq_true, ↓reduceIte]
  rw [Ev.iff_succ]
  simp only [laws_FnExactLeastSpreading.j0, Bool.false_eq_true, ↓reduceIte]
  rw [Ev.bind_iff hg, Ev.bind_iff (eqGraph_refl n es he)]
  simp only [↓reduceIte]
  obtain ⟨rm, hm⟩ := markGraph_eq n es 1 (by omega) (by omega)
  rw [hm]
  simp only [Option.bind_some]
  rw [Ev.ite_iff, if_neg (by omega), Ev.bind_iff (eqIntS_refl R.1 (by omega))]
  simp only [bne_self_eq_false, ↓reduceIte]
  rw [Ev.iff_succ]
  simp only [laws_FnExactLeastSpreading.j1, Bool.false_eq_true, ↓reduceIte]
  rw [Ev.bind_iff (markIntS_ev R.1 1 (by omega) (by omega))]
  simp only []
  rw [Ev.bind_iff (heldIntS_ev 1 R.1.length (by omega) (by omega)), Ev.ite_iff, if_neg (by omega)]
  simp only [↓reduceIte]
  rw [Ev.bind_iff hg, Ev.bind_iff hI, Ev.bind_iff (eqIntS_refl R.1 (by omega))]
  simp only [bne_self_eq_false, ↓reduceIte]
  rw [Ev.iff_succ]
  simp only [laws_FnExactLeastSpreading.j2, Bool.false_eq_true, ↓reduceIte]
  rw [Ev.bind_iff (heldIntS_ev 1 R.1.length (by omega) (by omega)), Ev.ite_iff, if_neg (by omega)]
  simp only [↓reduceIte, Ev.now_iff]

end Go.Proofs.Ytfeaddkaommpgab.QLeastSpreading
