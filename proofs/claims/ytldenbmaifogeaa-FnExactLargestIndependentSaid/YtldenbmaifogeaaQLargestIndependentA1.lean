import Derived.Test.YtldenbmaifogeaaQLargestIndependent0
import Derived.Test.YtldenbmaifogeaaQLargestIndependent1
import Derived.Test.YtldenbmaifogeaaQLargestIndependent2
import Derived.Test.YtldenbmaifogeaaQLargestIndependent4
import Derived.Test.YtldenbmaifogeaaQLargestIndependent5
import Derived.Test.YtldenbmaifogeaaQLargestIndependent6
import Derived.Test.YtldenbmaifogeaaQLargestIndependent7
import Derived.Test.YtldenbmaifogeaaQLargestIndependent8
import Derived.Test.YtldenbmaifogeaaQLargestIndependentA0
namespace Go.Proofs.Ytldenbmaifogeaa.QLargestIndependent
open Go.RowKit Go.Proofs.YtldenbmaifogeaaW.PrintWords Go.Proofs.YtldenbmaifogeaaW.PrintLast Go.Proofs.YtldenbmaifogeaaW.PrintMore
attribute [local go_sem] max2_int min2_int max_two min_two max_three min_three max_four min_four   -- for this text's walks alone
set_option linter.unusedVariables false
set_option linter.unusedSimpArgs false
theorem markIntS_ev (l : List Int) (a : Int) (ha : 0 ≤ a) (h : a + l.length < 9223372036854775807) : Ev (fun k => laws_markIntS.f k l a) (a + (l.length : Int), upF a l.length) := by
  have H := down l.length (fun i => Ev (fun k => laws_markIntS.l0 k (upF a i ++ l.drop i) (a + (i : Int)) i) (a + (l.length : Int), upF a l.length)) ?_ ?_ 0 (by omega)
  · simpa [laws_markIntS.f, upF] using H
  · show Ev _ _
    rw [Ev.iff_succ]
    simp [laws_markIntS.l0, Ev.now_iff, upF_len]
  · intro i hi ih
    show Ev _ _
    rw [Ev.iff_succ]
    have h0 : ((upF a i ++ l.drop i).length : Int) = l.length := by rw [List.length_append, upF_len, List.length_drop]; omega
    have h1 : (i : Int) < l.length := by omega
    have h2 : (0 : Int) ≤ i := by omega
    have h3 : (upF a i ++ l.drop i).set i (a + (i : Int)) = upF a (i + 1) ++ l.drop (i + 1) := by
      rw [List.drop_eq_getElem_cons hi, List.set_append_right _ _ (by rw [upF_len]; omega), upF_len, Nat.sub_self, List.set_cons_zero, upF_succ, List.append_assoc]; rfl
    have h4 : wrap64 (a + (i : Int) + 1) = a + ((i + 1 : Nat) : Int) := by rw [w64] <;> omega
    simp only [laws_markIntS.l0, Ev.ite_iff, h0, h1, h2, ↓reduceIte, w64_succ i (by omega), Int.toNat_natCast, h3, h4]
    exact ih

theorem heldIntS_ev (a : Int) (c : Nat) (ha : 0 ≤ a) (h : a + c < 9223372036854775807) : Ev (fun k => laws_heldIntS.f k (upF a c) a) (a + (c : Int)) := by
  have H := down c (fun i => Ev (fun k => laws_heldIntS.l0 k (upF a c) (a + (i : Int)) i) (a + (c : Int))) ?_ ?_ 0 (by omega)
  · simpa [laws_heldIntS.f] using H
  · show Ev _ _
    rw [Ev.iff_succ]
    simp [laws_heldIntS.l0, Ev.now_iff, upF_len]
  · intro i hi ih
    show Ev _ _
    rw [Ev.iff_succ]
    have h1 : (i : Int) < (c : Int) := by omega
    have h2 : (0 : Int) ≤ i := by omega
    have h4 : wrap64 (a + (i : Int) + 1) = a + ((i + 1 : Nat) : Int) := by rw [w64] <;> omega
    simp only [laws_heldIntS.l0, Ev.ite_iff, upF_len, h1, h2, ↓reduceIte, w64_succ i (by omega), upF_rd hi, h4]
    exact ih

theorem markIntA2S_l0 (M : Int) (hM : M = 9223372036854775807) (d : Nat) : ∀ (l : List S93) (a : Int) (i : Nat), l.length = i + d → (l.length : Int) < M → 0 ≤ a → a + 2 * (d : Int) < M → ∃ r, laws_markIntA2S.l0 (d + 1) l a i = some (a + 2 * (d : Int), r) := by
  induction d with
  | zero =>
    intro l a i h _ _ _
    refine ⟨l, ?_⟩
    rw [laws_markIntA2S.l0, if_neg (by omega)]
    simp
  | succ d ih =>
    intro l a i h hl h0 h1
    have e1 : wrap64 (a + 1) = a + 1 := by rw [w64] <;> omega
    have e2 : wrap64 (a + 1 + 1) = a + 1 + 1 := by rw [w64] <;> omega
    have e3 : (i : Int) < (l.length : Int) := by omega
    have e4 : (0 : Int) ≤ i := by omega
    rw [laws_markIntA2S.l0, if_pos e3, if_pos e4, e1, e2, w64_succ i (by omega)]
    obtain ⟨r, hr⟩ := ih (l.set (i : Int).toNat ⟨a, a + 1⟩) (a + 1 + 1) (i + 1) (by rw [List.length_set]; omega) (by rw [List.length_set]; exact hl) (by omega) (by omega)
    exact ⟨r, by rw [hr]; congr 2; omega⟩

theorem markGraph_eq (n : Int) (l : List S93) (a : Int) (ha : 0 ≤ a) (h : a + 2 * (l.length : Int) < 9223372036854775807) : ∃ r, laws_markGraph.f n l a = some (a + 2 * (l.length : Int), r) := by
  obtain ⟨r, hr⟩ := markIntA2S_l0 _ rfl l.length l a 0 (by omega) (by omega) ha h
  exact ⟨r, by simp only [laws_markGraph.f, laws_markIntA2S.f]; rw [show ((0 : Nat) : Int) = 0 from rfl] at hr; rw [hr]; rfl⟩

theorem setOf_ev (n m : Nat) (hn : n ≤ 8) (hm : m < 2 ^ n) : Ev (fun k => impl_setOf.f k m) (bl n m) := by
  obtain ⟨t, ht⟩ : ∃ t, t = 9 := ⟨_, rfl⟩
  have hs : ∀ i, n ≤ i → m >>> i = 0 := fun i hi => by
    rw [Nat.shiftRight_eq_div_pow]; exact Nat.div_eq_of_lt (Nat.lt_of_lt_of_le hm (Nat.pow_le_pow_right (by decide) hi))
  have H := down n (fun i => Ev (fun k => impl_setOf.l0 k m (bl i m) i) (bl n m)) ?_ ?_ 0 (by omega)
  · simpa [impl_setOf.f, bl] using H
  · show Ev _ _
    rw [Ev.iff_succ]
    have h2 : (0 : Int) ≤ n := by omega
    simp [impl_setOf.l0, Ev.now_iff, h2, shr_nat m n (by omega), hs n (Nat.le_refl _)]
  · intro i hi ih
    show Ev _ _
    rw [Ev.iff_succ]
    have h2 : (0 : Int) ≤ i := by omega
    have h3 := bl_len_le i m
    have h4 : (bl i m).length < 17592186044416 := by omega
    have e3 := shr_bit m i (lt62 hn hm) (by omega)
    rw [bl_step hi] at ih
    simp only [impl_setOf.l0, Ev.ite_iff, h2, h4, ↓reduceIte, w64_succ i (by omega), e3]
    by_cases c : shr .i64 (m : Int) (i : Int) = 0
    · rw [if_pos c, Ev.now_iff]
      rw [shr_nat m i (by omega)] at c
      have c' : m >>> i = 0 := by omega
      have hb : ∀ j, i ≤ j → m.testBit j = false := fun j hj => by
        have : (m >>> i).testBit (j - i) = false := by rw [c']; simp
        rw [Nat.testBit_shiftRight] at this
        rwa [show i + (j - i) = j by omega] at this
      refine asc_ext (bl_asc _ _) (bl_asc _ _) (fun x => ?_)
      rw [mem_bl, mem_bl]
      constructor
      · rintro ⟨j, h1, h2, rfl⟩; exact ⟨j, by omega, h2, rfl⟩
      · rintro ⟨j, h1, h2, rfl⟩
        refine ⟨j, ?_, h2, rfl⟩
        by_cases hj : i ≤ j
        · rw [hb j hj] at h2; cases h2
        · omega
    · rw [if_neg c]
      cases c2 : m.testBit i
      · rw [c2] at ih; simpa using ih
      · rw [c2] at ih; simpa using ih

theorem l2Bits_ev (n m : Nat) (hn : n ≤ 8) (hm : m < 2 ^ n) : Ev (fun k => spec_l2Bits.f k n m) (bl n m) := by
  have H := down n (fun i => Ev (fun k => spec_l2Bits.l0 k n m (bl i m) i) (bl n m)) ?_ ?_ 0 (by omega)
  · simpa [spec_l2Bits.f, bl] using H
  · show Ev _ _
    rw [Ev.iff_succ]
    simp [spec_l2Bits.l0, Ev.now_iff]
  · intro i hi ih
    show Ev _ _
    rw [Ev.iff_succ]
    have h1 : (i : Int) < (n : Int) := by omega
    have h2 : (0 : Int) ≤ i := by omega
    have h3 := bl_len_le i m
    have h4 : (bl i m).length < 17592186044416 := by omega
    have e3 := shr_bit m i (lt62 hn hm) (by omega)
    rw [bl_step hi] at ih
    simp only [spec_l2Bits.l0, Ev.ite_iff, h1, h2, h4, ↓reduceIte, w64_succ i (by omega), e3]
    cases c : m.testBit i
    · rw [c] at ih; simpa using ih
    · rw [c] at ih; simpa using ih

/-- Does a list come before another one, number by number? -/
def lexLt : List Int → List Int → Bool
  | a :: s, b :: t => if a = b then lexLt s t else decide (a < b)
  | _, _ => false

theorem lexLt_nil (l : List Int) : lexLt [] l = false := by cases l <;> rfl

theorem lexLt_cons (a b : Int) (s t : List Int) : lexLt (a :: s) (b :: t) = if a = b then lexLt s t else decide (a < b) := rfl

theorem l4Less_ev (l m : List Int) (he : l.length = m.length) (hl : l.length ≤ 9223372036854775806) : Ev (fun k => spec_l4Less.f k l m) (lexLt l m) := by
  have H := down l.length (fun i => Ev (fun k => spec_l4Less.l0 k l m i) (lexLt (l.drop i) (m.drop i))) ?_ ?_ 0 (by omega)
  · simpa [spec_l4Less.f] using H
  · show Ev _ _
    rw [Ev.iff_succ]
    simp only [spec_l4Less.l0, Int.lt_irrefl, ↓reduceIte, Ev.now_iff, List.drop_length, lexLt_nil]
  · intro i hi ih
    show Ev _ _
    rw [Ev.iff_succ]
    have h1 : (i : Int) < l.length := by omega
    have h1' : (i : Int) < m.length := by omega
    have h2 : (0 : Int) ≤ i := by omega
    simp only [spec_l4Less.l0, Ev.ite_iff, h1, h1', h2, ↓reduceIte, w64_succ i (by omega), rd_lt l i hi, rd_lt m i (by omega), Ev.now_iff, List.drop_eq_getElem_cons hi, List.drop_eq_getElem_cons (show i < m.length by omega), lexLt_cons]
    by_cases c : l[i] = m[i]'(by omega)
    · simp only [c, ↓reduceIte]; exact ih
    · simp only [c, ↓reduceIte]

theorem cmpInt_eq (a b : Int) : cmp_Compare_int.f a b = some (if a < b then -1 else if a > b then 1 else 0) := by
  simp only [cmp_Compare_int.f, cmp_isNaN_int.f, bne_self_eq_false, Option.bind_some, Bool.false_eq_true, ↓reduceIte]
  split
  · rfl
  · split <;> rfl

/-- How two lists of one length compare. -/
def cmpL : List Int → List Int → Int
  | a :: s, b :: t => if a = b then cmpL s t else if a < b then -1 else 1
  | _, _ => 0

theorem cmpL_cons (a b : Int) (s t : List Int) : cmpL (a :: s) (b :: t) = if a = b then cmpL s t else if a < b then -1 else 1 := rfl

theorem cmpL_lt : ∀ (l m : List Int), cmpL l m < 0 ↔ lexLt l m = true
  | [], _ => by simp [cmpL, lexLt]
  | _ :: _, [] => by simp [cmpL, lexLt]
  | a :: s, b :: t => by
    rw [cmpL_cons, lexLt_cons]
    by_cases e : a = b
    · rw [if_pos e, if_pos e]; exact cmpL_lt s t
    · rw [if_neg e, if_neg e]
      by_cases g : a < b
      · rw [if_pos g]; simp [g]
      · rw [if_neg g]; simp [g]

theorem sliceCompare_ev (l m : List Int) (he : l.length = m.length) (hl : l.length ≤ 9223372036854775806) : Ev (fun k => slices_Compare_int_int.f k l m) (cmpL l m) := by
  have H := down l.length (fun i => Ev (fun k => slices_Compare_int_int.l0 k l m l l.length i) (cmpL (l.drop i) (m.drop i))) ?_ ?_ 0 (by omega)
  · exact H
  · show Ev _ _
    rw [Ev.iff_succ]
    simp only [slices_Compare_int_int.l0, Int.lt_irrefl, ↓reduceIte, Ev.ite_iff, Ev.now_iff]
    rw [if_neg (by omega), List.drop_length]; rfl
  · intro i hi ih
    show Ev _ _
    rw [Ev.iff_succ]
    have h1 : (i : Int) < l.length := by omega
    have h1' : (i : Int) < m.length := by omega
    have h1n : ¬ (i : Int) ≥ m.length := by omega
    have h2 : (0 : Int) ≤ i := by omega
    have e1 := rd_lt l i hi
    have e2 := rd_lt m i (by omega)
    rw [List.drop_eq_getElem_cons hi, List.drop_eq_getElem_cons (show i < m.length by omega), cmpL_cons]
    generalize l[i] = a at e1 ⊢
    generalize m[i]'(by omega) = b at e2 ⊢
    simp only [slices_Compare_int_int.l0, Ev.ite_iff, h1, h1', h1n, h2, ↓reduceIte, w64_succ i (by omega), e1, e2, cmpInt_eq, Option.bind_some]
    by_cases e : a = b
    · subst e
      simp only [Int.lt_irrefl, ↓reduceIte, show ¬ a > a by omega]
      exact ih
    · by_cases g : a < b
      · simp only [g, e, ↓reduceIte, Ev.now_iff]; simp
      · have g2 : a > b := by omega
        simp only [g, g2, e, ↓reduceIte, Ev.now_iff]; simp

theorem okG_use {n : Int} {es : List S93} (h : okG n es = true) : ∃ N : Nat, n = N ∧ N ≤ 8 := by
  simp only [okG, Bool.and_eq_true, decide_eq_true_eq] at h
  exact ⟨n.toNat, by omega, by omega⟩

/-- All pairs of a list are joined, or none. -/
def alikeB (es : List S93) (b : Bool) (l : List Int) : Bool := (List.range l.length).all fun i => (List.range i).all fun k => near es (rd l (i : Int)) (rd l (k : Int)) == b

theorem drop_range {n i : Nat} (h : i < n) : (List.range n).drop i = i :: (List.range n).drop (i + 1) := by rw [List.drop_eq_getElem_cons (by simpa using h), List.getElem_range]

theorem l10Alike_ev (n : Nat) (es : List S93) (l : List Int) (b : Bool) (hl : l.length ≤ 1048576) (he : es.length ≤ 9223372036854775807) : Ev (fun k => spec_l10Alike.f k n es l b) (alikeB es b l) := by
  have H := down l.length (fun i => Ev (fun k => spec_l10Alike.l0 k l b i n es) (((List.range l.length).drop i).all fun i => (List.range i).all fun k => near es (rd l (i : Int)) (rd l (k : Int)) == b)) ?_ ?_ 0 (by omega)
  · simpa [spec_l10Alike.f, alikeB] using H
  · show Ev _ _
    rw [Ev.iff_succ]
    simp only [spec_l10Alike.l0, Int.lt_irrefl, ↓reduceIte, Ev.now_iff]
    rw [List.drop_eq_nil_iff.2 (by simp)]
    rfl
  · intro i hi ih
    show Ev _ _
    rw [Ev.iff_succ]
    have h1 : (i : Int) < l.length := by omega
    have h2 : (0 : Int) ≤ i := by omega
    rw [drop_range hi, List.all_cons]
    simp only [spec_l10Alike.l0, h1, ↓reduceIte]
    have G := down i (fun j => Ev (fun k => spec_l10Alike.l1 k l b i j n es) ((((List.range i).drop j).all fun k => near es (rd l (i : Int)) (rd l (k : Int)) == b) && ((List.range l.length).drop (i + 1)).all fun i => (List.range i).all fun k => near es (rd l (i : Int)) (rd l (k : Int)) == b)) ?_ ?_ 0 (by omega)
    · simpa using G
    · show Ev _ _
      rw [Ev.iff_succ, List.drop_eq_nil_iff.2 (show (List.range i).length ≤ i by simp), List.all_nil, Bool.true_and]
      simp only [spec_l10Alike.l1, Int.lt_irrefl, ↓reduceIte, w64_succ i (show i < 9223372036854775807 by omega)]
      exact ih
    · intro j hj jh
      show Ev _ _
      rw [Ev.iff_succ, drop_range hj, List.all_cons]
      have g1 : (j : Int) < (i : Int) := by omega
      have g2 : (0 : Int) ≤ j := by omega
      have g3 : (j : Int) < l.length := by omega
      simp only [spec_l10Alike.l1, Ev.ite_iff, g1, g2, g3, h1, h2, ↓reduceIte]
      rw [Ev.bind_iff (l2Near_ev n es _ _ he), Ev.ite_iff]
      by_cases c : near es (rd l (i : Int)) (rd l (j : Int)) = b
      · rw [if_neg (by simp [c]), w64_succ j (by omega)]
        simpa [c] using jh
      · rw [if_pos (by simpa using c), Ev.now_iff]
        simp [c]

theorem bl_zero (n : Nat) : bl n 0 = [] := List.eq_nil_iff_forall_not_mem.2 (fun x hx => by obtain ⟨i, _, h2, _⟩ := mem_bl.1 hx; simp at h2)

/-- No two nodes of a set are joined. -/
def indepB (es : List S93) (n m : Nat) : Bool := !(bl n m).any fun x => decide (nb es n x.toNat &&& m ≠ 0)

theorem indepB_iff {es : List S93} {n m : Nat} (hm : m < 2 ^ n) : indepB es n m = true ↔ ∀ x y : Nat, x < n → y < n → m.testBit x = true → m.testBit y = true → near es x y = false := by
  unfold indepB
  simp only [Bool.not_eq_true', List.any_eq_false, decide_eq_true_eq]
  constructor
  · intro h x y hx hy bx hb
    have h1 := h (x : Int) (mem_bl_nat.2 ⟨hx, bx⟩)
    simp only [Int.toNat_natCast, ne_eq, Classical.not_not] at h1
    have h2 := congrArg (fun z => z.testBit y) h1
    simpa [Nat.testBit_and, nb_bit, hy, hb] using h2
  · intro h x hx
    obtain ⟨i, h1, h2, rfl⟩ := mem_bl.1 hx
    simp only [ne_eq, Classical.not_not]
    refine Nat.eq_of_testBit_eq fun y => ?_
    rw [Nat.testBit_and, Nat.zero_testBit, nb_bit]
    cases hb : m.testBit y
    · simp
    · have hy : y < n := by
        refine Classical.byContradiction fun hn => ?_
        rw [bit_lt hm (by omega)] at hb; cases hb
      have := h i y h1 hy h2 hb
      simp [this]

theorem alike_indep {es : List S93} {n m : Nat} (hok : ∀ e ∈ es, edgeOk n e = true) (hm : m < 2 ^ n) : alikeB es false (bl n m) = indepB es n m := by
  rw [Bool.eq_iff_iff, indepB_iff hm]
  unfold alikeB
  simp only [List.all_eq_true, List.mem_range, beq_iff_eq]
  constructor
  · intro h x y hx hy bx hb
    by_cases hne : x = y
    · subst hne; exact near_irr hok x
    obtain ⟨i, hi, e1⟩ := List.getElem_of_mem (mem_bl_nat.2 ⟨hx, bx⟩ : (x : Int) ∈ bl n m)
    obtain ⟨j, hj, e2⟩ := List.getElem_of_mem (mem_bl_nat.2 ⟨hy, hb⟩ : (y : Int) ∈ bl n m)
    rcases Nat.lt_trichotomy i j with c | c | c
    · have := h j hj i c
      rw [rd_lt _ j hj, rd_lt _ i hi, e1, e2, near_comm] at this
      exact this
    · subst c; rw [e1] at e2; omega
    · have := h i hi j c
      rw [rd_lt _ i hi, rd_lt _ j hj, e1, e2] at this
      exact this
  · intro h i hi k hk
    have hki : k < (bl n m).length := by omega
    rw [rd_lt _ i hi, rd_lt _ k hki]
    obtain ⟨a, a1, a2, ae⟩ := mem_bl.1 (List.getElem_mem hi)
    obtain ⟨c, c1, c2, ce⟩ := mem_bl.1 (List.getElem_mem hki)
    rw [ae, ce]
    exact h a c a1 c1 a2 c2

/-- Is a set the better one: more nodes, or as many and it comes before? -/
def betG (n a b : Nat) : Bool := decide ((bl n a).length > (bl n b).length) || (decide ((bl n a).length = (bl n b).length) && lexLt (bl n a) (bl n b))

def bestG (p : Nat → Bool) (n : Nat) : Nat → Nat → Nat → Nat
  | 0, _, b => b
  | d + 1, c, b => bestG p n d (c + 1) (if p c && betG n c b then c else b)

def largestIndependentR (n : Int) (es : List S93) : List Int × Bool := if okG n es = true then (bl n.toNat (bestG (indepB es n.toNat) n.toNat (2 ^ n.toNat) 0 0), true) else ([], false)

theorem largestIndependentR_len (n : Int) (es : List S93) : (largestIndependentR n es).1.length ≤ 1048576 := by
  unfold largestIndependentR
  split
  · rename_i h
    obtain ⟨N, rfl, hN⟩ := okG_use h
    have := bl_len_le N (bestG (indepB es N) N (2 ^ N) 0 0)
    simp only [Int.toNat_natCast]; omega
  · simp

theorem specLargestIndependent_l0 {es : List S93} {n : Nat} (hn : n ≤ 8) (hok : ∀ e ∈ es, edgeOk n e = true) (hl : es.length ≤ 9223372036854775807) : ∀ (d c b : Nat), 2 ^ n = c + d → b < 2 ^ n →
    Ev (fun k => spec_LargestIndependent.l0 k (bl n b) c n es) (bl n (bestG (indepB es n) n d c b), true)
  | 0, c, b, hd, hb => by
    rw [Ev.iff_succ]
    have h2 : (0 : Int) ≤ n := by omega
    simp only [spec_LargestIndependent.l0, h2, ↓reduceIte, shl_one (show n < 62 by omega), Ev.ite_iff]
    rw [if_neg (by omega), Ev.now_iff, bestG]
  | d + 1, c, b, hd, hb => by
    rw [Ev.iff_succ]
    have h2 : (0 : Int) ≤ n := by omega
    have hc : c < 2 ^ n := by omega
    have h8 := p8 hn
    have hbl := bl_len_le n c
    have ih0 := specLargestIndependent_l0 hn hok hl d (c + 1) b (by omega) hb
    have ih1 := specLargestIndependent_l0 hn hok hl d (c + 1) c (by omega) hc
    simp only [spec_LargestIndependent.l0, h2, ↓reduceIte, shl_one (show n < 62 by omega), Ev.ite_iff]
    rw [if_pos (by omega), Ev.bind_iff (l2Bits_ev n c hn hc), Ev.bind_iff (l10Alike_ev n es (bl n c) false (by omega) hl), alike_indep hok hc]
    simp only [Ev.ite_iff, w64_succ c (show c < 9223372036854775807 by omega), bestG]
    cases hp : indepB es n c
    · rw [if_neg (by simp), Bool.false_and, if_neg (by simp)]; exact ih0
    · rw [if_pos rfl, Bool.true_and]
      unfold betG
      by_cases g1 : (bl n c).length > (bl n b).length
      · rw [if_pos (by omega), if_pos (by simp [g1])]; exact ih1
      · rw [if_neg (by omega)]
        by_cases g2 : (bl n c).length = (bl n b).length
        · rw [if_pos (by omega), Ev.bind_iff (l4Less_ev _ _ g2 (by omega)), Ev.ite_iff]
          cases g3 : lexLt (bl n c) (bl n b)
          · rw [if_neg (by simp), if_neg (by simp [g1])]; exact ih0
          · rw [if_pos rfl, if_pos (by simp [g2])]; exact ih1
        · rw [if_neg (by omega), if_neg (by simp [g1, g2])]; exact ih0

theorem okG_edges {n : Nat} {es : List S93} (h : okG n es = true) : ∀ e ∈ es, edgeOk n e = true := by
  simp only [okG, Bool.and_eq_true, decide_eq_true_eq] at h
  exact goodL_all h.2

theorem specLargestIndependent_ev (n : Int) (es : List S93) (he : es.length ≤ 9223372036854775807) : Ev (fun k => spec_LargestIndependent.f k n es) (largestIndependentR n es) := by
  unfold spec_LargestIndependent.f largestIndependentR
  rw [l2Good_eq]
  simp only [Option.bind_some, Ev.ite_iff]
  by_cases h : okG n es = true
  · obtain ⟨N, rfl, hN⟩ := okG_use h
    rw [if_pos h, if_pos h]
    have := specLargestIndependent_l0 hN (okG_edges h) he (2 ^ N) 0 0 (by omega) (Nat.two_pow_pos N)
    rw [bl_zero] at this
    simp only [Int.toNat_natCast]
    exact this
  · rw [if_neg h, if_neg h, Ev.now_iff]

theorem isBetter_ev {n b c : Nat} (hn : n ≤ 8) : Ev (fun k => impl_isBetterSet.f k (bl n b) (bl n c)) (betG n c b) := by
  unfold impl_isBetterSet.f betG
  have hbl := bl_len_le n c
  rw [Ev.ite_iff]
  by_cases g1 : (bl n c).length > (bl n b).length
  · rw [if_pos (by omega), Ev.now_iff]; simp [g1]
  · rw [if_neg (by omega), Ev.ite_iff]
    by_cases g2 : (bl n c).length = (bl n b).length
    · rw [if_pos (by omega), Ev.bind_iff (sliceCompare_ev _ _ g2 (by omega)), Ev.now_iff]
      have := cmpL_lt (bl n c) (bl n b)
      rw [Bool.eq_iff_iff]
      simp [g1, g2, this]
    · rw [if_neg (by omega), Ev.now_iff]; simp [g1, g2]

theorem meets_eq {es : List S93} {n m : Nat} (hn : n ≤ 8) (hm : m < 2 ^ n) : meetsIn (nets es n) m (bl n m) = some (!indepB es n m) := by
  have hone : ∀ x ∈ bl n m, (0 ≤ x ∧ x < ((nets es n).length : Int)) ∧ meetsOne (nets es n) m x = decide (nb es n x.toNat &&& m ≠ 0) := fun x hx => by
    obtain ⟨i, h1, h2, rfl⟩ := mem_bl.1 hx
    refine ⟨⟨by omega, by rw [nets_len]; omega⟩, ?_⟩
    unfold meetsOne
    rw [nets_rd h1, gand _ _ (lt62 hn (nb_lt es n i)) (lt62 hn hm)]
    simp only [Int.toNat_natCast]
    rw [Bool.eq_iff_iff]
    simp only [bne_iff_ne, decide_eq_true_eq]
    omega
  unfold meetsIn indepB
  rw [if_pos (fun x hx => (hone x hx).1), Bool.not_not]
  congr 1
  rw [Bool.eq_iff_iff, List.any_eq_true, List.any_eq_true]
  constructor
  · rintro ⟨x, hx, h⟩; exact ⟨x, hx, by rw [← (hone x hx).2]; exact h⟩
  · rintro ⟨x, hx, h⟩; exact ⟨x, hx, by rw [(hone x hx).2]; exact h⟩

theorem implLargestIndependent_l0 {es : List S93} {n : Nat} (hn : n ≤ 8) : ∀ (d c b : Nat), 2 ^ n = c + d → b < 2 ^ n →
    Ev (fun k => impl_LargestIndependent.l0 k (nets es n) (bl n b) ((2 ^ n : Nat) : Int) c) (bl n (bestG (indepB es n) n d c b), true)
  | 0, c, b, hd, hb => by
    rw [Ev.iff_succ]
    simp only [impl_LargestIndependent.l0, Ev.ite_iff]
    rw [if_neg (by omega), Ev.now_iff, bestG]
  | d + 1, c, b, hd, hb => by
    rw [Ev.iff_succ]
    have hc : c < 2 ^ n := by omega
    have h8 := p8 hn
    have ih0 := implLargestIndependent_l0 (es := es) hn d (c + 1) b (by omega) hb
    have ih1 := implLargestIndependent_l0 (es := es) hn d (c + 1) c (by omega) hc
    simp only [impl_LargestIndependent.l0, Ev.ite_iff]
    rw [if_pos (by omega), Ev.bind_iff (setOf_ev n c hn hc), meets_eq hn hc]
    simp only [Option.bind_some, Ev.ite_iff, w64_succ c (show c < 9223372036854775807 by omega), bestG]
    cases hp : indepB es n c
    · rw [if_pos (by simp), Bool.false_and, if_neg (by simp)]; exact ih0
    · rw [if_neg (by simp), Bool.true_and, Ev.bind_iff (isBetter_ev hn), Ev.ite_iff]
      cases betG n c b
      · rw [if_neg (by simp), if_neg (by simp)]; exact ih0
      · rw [if_pos rfl, if_pos rfl]; exact ih1

theorem implLargestIndependent_ev (n : Int) (es : List S93) : Ev (fun k => impl_LargestIndependent.f k n es) (largestIndependentR n es) := by
  unfold impl_LargestIndependent.f largestIndependentR
  rw [IsGraph_eq]
  simp only [Option.bind_some, Ev.ite_iff]
  by_cases h : okG n es = true
  · obtain ⟨N, rfl, hN⟩ := okG_use h
    have h8 := p8 hN
    have hp := Nat.two_pow_pos N
    rw [if_pos h, if_pos h, netOf_eq h]
    simp only [Option.bind_some, all_eq hN]
    have := implLargestIndependent_l0 (es := es) hN (2 ^ N) 0 0 (by omega) hp
    rw [bl_zero] at this
    rw [show wrap64 (((2 ^ N - 1 : Nat) : Int) + 1) = ((2 ^ N : Nat) : Int) by rw [w64] <;> omega]
    simp only [Int.toNat_natCast]
    exact this
  · rw [if_neg h, if_neg h, Ev.now_iff]

end Go.Proofs.Ytldenbmaifogeaa.QLargestIndependent
