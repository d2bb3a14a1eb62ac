import Derived.Test.YtmokkhfmbenleaaQLeastDominating0
import Derived.Test.YtmokkhfmbenleaaQLeastDominating1
import Derived.Test.YtmokkhfmbenleaaQLeastDominating2
import Derived.Test.YtmokkhfmbenleaaQLeastDominating3
import Derived.Test.YtmokkhfmbenleaaQLeastDominating4
import Derived.Test.YtmokkhfmbenleaaQLeastDominating5
import Derived.Test.YtmokkhfmbenleaaQLeastDominating7
import Derived.Test.YtmokkhfmbenleaaQLeastDominating8
import Derived.Test.YtmokkhfmbenleaaQLeastDominatingA0
namespace Go.Proofs.Ytmokkhfmbenleaa.QLeastDominating
open Go.RowKit Go.Proofs.YtmokkhfmbenleaaW.PrintWords Go.Proofs.YtmokkhfmbenleaaW.PrintLast Go.Proofs.YtmokkhfmbenleaaW.PrintMore
attribute [local go_sem] max2_int min2_int max_two min_two max_three min_three max_four min_four   -- for this text's walks alone
set_option linter.unusedVariables false
set_option linter.unusedSimpArgs false
theorem l8Inside_ev (n : Int) (es : List S119) (l : List Int) (x : Int) (hl : l.length ≤ 9223372036854775806) (he : es.length ≤ 9223372036854775807) :
    Ev (fun k => spec_l8Inside.f k n es l x) (((l.filter (fun y => near es y x)).length : Nat) : Int) := by
  have H := down l.length (fun i => Ev (fun k => spec_l8Inside.l0 k l x ((((l.take i).filter (fun y => near es y x)).length : Nat) : Int) i n es) (((l.filter (fun y => near es y x)).length : Nat) : Int)) ?_ ?_ 0 (by omega)
  · simpa [spec_l8Inside.f] using H
  · show Ev _ _
    rw [Ev.iff_succ]
    simp [spec_l8Inside.l0, Ev.now_iff]
  · intro i hi ih
    show Ev _ _
    rw [Ev.iff_succ]
    have h1 : (i : Int) < l.length := by omega
    have h2 : (0 : Int) ≤ i := by omega
    have h4 : ((l.take i).filter (fun y => near es y x)).length ≤ i := Nat.le_trans (List.length_filter_le _ _) (List.length_take_le _ _)
    rw [List.take_succ_eq_append_getElem hi, List.filter_append, List.length_append] at ih
    simp only [spec_l8Inside.l0, Ev.ite_iff, h1, h2, ↓reduceIte, w64_succ i (by omega), Ev.bind_iff (l2Near_ev n es _ x he), rd_lt l i hi, w64_succ _ (show ((l.take i).filter (fun y => near es y x)).length < 9223372036854775807 by omega)]
    by_cases c : near es l[i] x = true
    · rw [if_pos c]; simpa [List.filter_cons, c] using ih
    · rw [if_neg c]; simpa [List.filter_cons, c] using ih

theorem inside_zero {es : List S119} {n m : Nat} {x : Nat} (hx : x < n) : ((((bl n m).filter (fun y => near es y x)).length : Nat) : Int) = 0 ↔ ¬ ∃ y, y < n ∧ m.testBit y = true ∧ (nb es n y).testBit x = true := by
  rw [show ∀ z : Nat, (z : Int) = 0 ↔ z = 0 from fun z => by omega, List.length_eq_zero_iff, List.filter_eq_nil_iff]
  constructor
  · rintro h ⟨y, h1, h2, h3⟩
    rw [nb_bit] at h3
    simp only [Bool.and_eq_true, decide_eq_true_eq] at h3
    exact h (y : Int) (mem_bl_nat.2 ⟨h1, h2⟩) h3.2
  · rintro h a ha hn
    obtain ⟨i, h1, h2, rfl⟩ := mem_bl.1 ha
    refine h ⟨i, h1, h2, ?_⟩
    rw [nb_bit]; simp [hx, hn]

theorem l10Dominates_ev (es : List S119) (n m : Nat) (hn : n ≤ 8) (hm : m < 2 ^ n) (hl : es.length ≤ 9223372036854775807) : Ev (fun k => spec_l10Dominates.f k n es (bl n m)) (decide (aroM es n m = 2 ^ n - 1)) := by
  have hb := bl_len_le n m
  have hfull : aroM es n m = 2 ^ n - 1 ↔ ∀ y, y < n → (aroM es n m).testBit y = true := by
    constructor
    · intro h y hy; rw [h, Nat.testBit_two_pow_sub_one]; simp [hy]
    · intro h
      refine mask_ext (n := n) (aroM_lt hm) (by have := Nat.two_pow_pos n; omega) (fun i hi => ?_)
      rw [h i hi, Nat.testBit_two_pow_sub_one]; simp [hi]
  have H := down n (fun i => Ev (fun k => spec_l10Dominates.l0 k (bl n m) i n es) (decide (∀ y, y < n → i ≤ y → (aroM es n m).testBit y = true))) ?_ ?_ 0 (by omega)
  · have e : (decide (∀ y, y < n → 0 ≤ y → (aroM es n m).testBit y = true)) = decide (aroM es n m = 2 ^ n - 1) := by
      rw [Bool.eq_iff_iff]; simp only [decide_eq_true_eq, hfull]; exact ⟨fun h y hy => h y hy (by omega), fun h y hy _ => h y hy⟩
    rw [e] at H
    simpa [spec_l10Dominates.f] using H
  · show Ev _ _
    rw [Ev.iff_succ]
    simp only [spec_l10Dominates.l0, Int.lt_irrefl, ↓reduceIte, Ev.now_iff]
    symm; rw [decide_eq_true_eq]; intro y h1 h2; omega
  · intro i hi ih
    show Ev _ _
    rw [Ev.iff_succ]
    have h1 : (i : Int) < (n : Int) := by omega
    have hc : (∀ y, y < n → i ≤ y → (aroM es n m).testBit y = true) ↔ (aroM es n m).testBit i = true ∧ ∀ y, y < n → i + 1 ≤ y → (aroM es n m).testBit y = true := by
      constructor
      · intro h; exact ⟨h i hi (Nat.le_refl _), fun y h2 h1 => h y h2 (by omega)⟩
      · rintro ⟨h1, h2⟩ y h4 h3
        by_cases e : y = i
        · subst e; exact h1
        · exact h2 y h4 (by omega)
    simp only [spec_l10Dominates.l0, Ev.ite_iff, h1, ↓reduceIte, w64_succ i (by omega), Ev.bind_iff (l1Has_ev (bl n m) i (by omega)), Ev.bind_iff (l8Inside_ev n es (bl n m) i (by omega) hl), inside_zero (es := es) (m := m) hi, Ev.now_iff]
    simp only [hc]
    have hbit := aroM_bit es n m i
    by_cases c : m.testBit i = true
    · have : (aroM es n m).testBit i = true := hbit.2 (.inl c)
      simp only [mem_bl_nat, hi, c, this, true_and, decide_true, ↓reduceIte]; exact ih
    · simp only [mem_bl_nat, c, and_false, decide_false, Bool.false_eq_true, ↓reduceIte]
      by_cases d : ∃ y, y < n ∧ m.testBit y = true ∧ (nb es n y).testBit i = true
      · have : (aroM es n m).testBit i = true := hbit.2 (.inr d)
        simp only [d, not_true, ↓reduceIte, this, true_and]; exact ih
      · have : ¬ (aroM es n m).testBit i = true := fun h => by rcases hbit.1 h with h | h; exact c h; exact d h
        simp [d, this]

theorem u64_wrap_id (m : Nat) (h : m < 2 ^ 62) : IntKind.u64.wrap (m : Int) = (m : Int) := by rw [IntKind.wrap_u64]; omega

theorem ones_small : ∀ n : Nat, n ≤ 8 → ∀ m : Nat, m < 2 ^ n → bits_OnesCount.f (m : Int) = some (((bl n m).length : Nat) : Int) := by decide +kernel

theorem ones_bl {n m : Nat} (hn : n ≤ 8) (hm : m < 2 ^ n) : bits_OnesCount.f (IntKind.u64.wrap (m : Int)) = some (((bl n m).length : Nat) : Int) := by
  rw [u64_wrap_id m (lt62 hn hm), ones_small n hn m hm]

theorem set_fill {α : Type} (l : List α) (z : α) (i : Nat) (h : i < l.length) : (l.take i ++ List.replicate (l.length - i) z).set i l[i] = l.take (i + 1) ++ List.replicate (l.length - (i + 1)) z := by
  rw [List.take_succ_eq_append_getElem h, show l.length - i = (l.length - (i + 1)) + 1 by omega, List.replicate_succ]
  have h1 : (l.take i).length = i := by rw [List.length_take]; omega
  rw [List.set_append_right _ _ (by omega), h1, Nat.sub_self, List.set_cons_zero, List.append_assoc]
  rfl

theorem toIntA2_eq (a b : Int) : laws_toIntA2.f a b = some (a, b) := rfl

theorem toIntA2S_ev (l : List S119) (hl : l.length ≤ 17592186044416) : Ev (fun k => laws_toIntA2S.f k l) l := by
  unfold laws_toIntA2S.f
  rw [Ev.ite_iff, if_pos (by omega), Ev.ite_iff, if_pos (by omega), Int.toNat_natCast]
  have H := down l.length (fun i => Ev (fun k => laws_toIntA2S.l0 k l (l.take i ++ List.replicate (l.length - i) z119) i) l) ?_ ?_ 0 (by omega)
  · simpa using H
  · show Ev _ _
    rw [Ev.iff_succ]
    simp [laws_toIntA2S.l0, Ev.now_iff]
  · intro i hi ih
    show Ev _ _
    rw [Ev.iff_succ]
    have h1 : (i : Int) < l.length := by omega
    have h2 : (0 : Int) ≤ i := by omega
    have h3 : (i : Int) < ((l.take i ++ List.replicate (l.length - i) z119).length : Int) := by
      rw [List.length_append, List.length_take, List.length_replicate]; omega
    have h4 : rd_T119 l i = l[i] := by simp [rd_T119, hi]
    simp only [laws_toIntA2S.l0, Ev.ite_iff, h1, h2, ↓reduceIte, toIntA2_eq, Option.bind_some, h3, w64_succ i (by omega), h4, Int.toNat_natCast]
    rw [set_fill l _ i hi]
    exact ih

theorem toGraph_ev (n : Int) (es : List S119) (hl : es.length ≤ 17592186044416) : Ev (fun k => laws_toGraph.f k n es) (n, es) := by
  unfold laws_toGraph.f
  rw [Ev.bind_iff (toIntA2S_ev es hl), Ev.now_iff]

theorem eqIntS_refl (l : List Int) (hl : l.length ≤ 9223372036854775807) : Ev (fun k => laws_eqIntS.f k l l) true := by
  unfold laws_eqIntS.f
  rw [Ev.ite_iff, if_pos rfl]
  have H := down l.length (fun i => Ev (fun k => laws_eqIntS.l0 k l l i) true) ?_ ?_ 0 (by omega)
  · simpa using H
  · show Ev _ _
    rw [Ev.iff_succ]
    simp [laws_eqIntS.l0, Ev.now_iff]
  · intro i hi ih
    show Ev _ _
    rw [Ev.iff_succ]
    have h1 : (i : Int) < l.length := by omega
    have h2 : (0 : Int) ≤ i := by omega
    simp only [laws_eqIntS.l0, Ev.ite_iff, h1, h2, ↓reduceIte, w64_succ i (by omega)]
    exact ih

theorem eqIntA2_refl (a b : Int) : laws_eqIntA2.f a b a b = some true := by simp [laws_eqIntA2.f]

theorem eqGraph_refl (n : Int) (es : List S119) (hl : es.length ≤ 9223372036854775807) : Ev (fun k => laws_eqGraph.f k n es n es) true := by
  have H0 : Ev (fun k => laws_eqIntA2S.f k es es) true := by
    unfold laws_eqIntA2S.f
    rw [Ev.ite_iff, if_pos rfl]
    have H := down es.length (fun i => Ev (fun k => laws_eqIntA2S.l0 k es es i) true) ?_ ?_ 0 (by omega)
    · simpa using H
    · show Ev _ _
      rw [Ev.iff_succ]
      simp [laws_eqIntA2S.l0, Ev.now_iff]
    · intro i hi ih
      show Ev _ _
      rw [Ev.iff_succ]
      have h1 : (i : Int) < es.length := by omega
      have h2 : (0 : Int) ≤ i := by omega
      simp only [laws_eqIntA2S.l0, Ev.ite_iff, h1, h2, ↓reduceIte, w64_succ i (by omega), eqIntA2_refl, Option.bind_some]
      exact ih
  unfold laws_eqGraph.f
  rw [Ev.ite_iff, if_pos rfl, Ev.bind_iff H0, Ev.ite_iff, if_pos rfl, Ev.now_iff]

theorem szGraph_eq (n : Int) (es : List S119) (hl : es.length ≤ 9223372036854775807) : laws_szGraph.f n es 1048576 = some (if es.length ≤ 1048576 then 1048576 - (es.length : Int) else -1) := by
  unfold laws_szGraph.f laws_szIntA2S.f
  rw [w64 (by omega) (by omega)]
  by_cases h : es.length ≤ 1048576
  · rw [if_neg (by omega), if_pos h, Option.bind_some, if_neg (by omega)]
  · rw [if_pos (by omega), if_neg h, Option.bind_some, if_pos (by omega)]

theorem l2Good_eq (n : Int) (es : List S119) : spec_l2Good.f n es = some (okG n es) := rfl

theorem IsGraph_eq (n : Int) (es : List S119) : impl_IsGraph.f n es = some (okG n es) := rfl

theorem all_eq {es : List S119} {n : Nat} (h : n ≤ 8) : impl_net_all.f (nets es n) = some ((2 ^ n - 1 : Nat) : Int) := by
  unfold impl_net_all.f
  rw [nets_len, mask_all n h]

/-- Numbers one behind the other. -/
def upF (a : Int) (c : Nat) : List Int := (List.range c).map (fun i : Nat => a + (i : Int))

theorem upF_len (a : Int) (c : Nat) : (upF a c).length = c := by simp [upF]

theorem upF_succ (a : Int) (c : Nat) : upF a (c + 1) = upF a c ++ [a + (c : Int)] := by simp [upF, List.range_succ]

theorem upF_rd {a : Int} {c i : Nat} (h : i < c) : rd (upF a c) i = a + (i : Int) := by rw [rd_lt _ i (by rw [upF_len]; exact h)]; simp [upF]

theorem markIntS_ev (l : List Int) (a : Int) (ha : 0 ≤ a) (h : a + l.length < 9223372036854775807) : Ev (fun k => laws_markIntS.f k l a) (a + (l.length : Int), upF a l.length) := by
  have H := down l.length (fun i => Ev (fun k => laws_markIntS.l0 k (upF a i ++ l.drop i) (a + (i : Int)) i) (a + (l.length : Int), upF a l.length)) ?_ ?_ 0 (by omega)
  · simpa [laws_markIntS.f, upF] using H
  · show Ev _ _
    rw [Ev.iff_succ]
    simp [laws_markIntS.l0, Ev.now_iff, upF_len]
  · intro i hi ih
    show Ev _ _
    rw [Ev.iff_succ]
    have h0 : ((upF a i ++ l.drop i).length : Int) = l.length := by rw [List.length_append, upF_len, List.length_drop]; omega
    have h1 : (i : Int) < l.length := by omega
    have h2 : (0 : Int) ≤ i := by omega
    have h3 : (upF a i ++ l.drop i).set i (a + (i : Int)) = upF a (i + 1) ++ l.drop (i + 1) := by
      rw [List.drop_eq_getElem_cons hi, List.set_append_right _ _ (by rw [upF_len]; omega), upF_len, Nat.sub_self, List.set_cons_zero, upF_succ, List.append_assoc]; rfl
    have h4 : wrap64 (a + (i : Int) + 1) = a + ((i + 1 : Nat) : Int) := by rw [w64] <;> omega
    simp only [laws_markIntS.l0, Ev.ite_iff, h0, h1, h2, ↓reduceIte, w64_succ i (by omega), Int.toNat_natCast, h3, h4]
    exact ih

theorem heldIntS_ev (a : Int) (c : Nat) (ha : 0 ≤ a) (h : a + c < 9223372036854775807) : Ev (fun k => laws_heldIntS.f k (upF a c) a) (a + (c : Int)) := by
  have H := down c (fun i => Ev (fun k => laws_heldIntS.l0 k (upF a c) (a + (i : Int)) i) (a + (c : Int))) ?_ ?_ 0 (by omega)
  · simpa [laws_heldIntS.f] using H
  · show Ev _ _
    rw [Ev.iff_succ]
    simp [laws_heldIntS.l0, Ev.now_iff, upF_len]
  · intro i hi ih
    show Ev _ _
    rw [Ev.iff_succ]
    have h1 : (i : Int) < (c : Int) := by omega
    have h2 : (0 : Int) ≤ i := by omega
    have h4 : wrap64 (a + (i : Int) + 1) = a + ((i + 1 : Nat) : Int) := by rw [w64] <;> omega
    simp only [laws_heldIntS.l0, Ev.ite_iff, upF_len, h1, h2, ↓reduceIte, w64_succ i (by omega), upF_rd hi, h4]
    exact ih

theorem markIntA2S_l0 (M : Int) (hM : M = 9223372036854775807) (d : Nat) : ∀ (l : List S119) (a : Int) (i : Nat), l.length = i + d → (l.length : Int) < M → 0 ≤ a → a + 2 * (d : Int) < M → ∃ r, laws_markIntA2S.l0 (d + 1) l a i = some (a + 2 * (d : Int), r) := by
  induction d with
  | zero =>
    intro l a i h _ _ _
    refine ⟨l, ?_⟩
    rw [laws_markIntA2S.l0, if_neg (by omega)]
    simp
  | succ d ih =>
    intro l a i h hl h0 h1
    have e1 : wrap64 (a + 1) = a + 1 := by rw [w64] <;> omega
    have e2 : wrap64 (a + 1 + 1) = a + 1 + 1 := by rw [w64] <;> omega
    have e3 : (i : Int) < (l.length : Int) := by omega
    have e4 : (0 : Int) ≤ i := by omega
    rw [laws_markIntA2S.l0, if_pos e3, if_pos e4, e1, e2, w64_succ i (by omega)]
    obtain ⟨r, hr⟩ := ih (l.set (i : Int).toNat ⟨a, a + 1⟩) (a + 1 + 1) (i + 1) (by rw [List.length_set]; omega) (by rw [List.length_set]; exact hl) (by omega) (by omega)
    exact ⟨r, by rw [hr]; congr 2; omega⟩

theorem markGraph_eq (n : Int) (l : List S119) (a : Int) (ha : 0 ≤ a) (h : a + 2 * (l.length : Int) < 9223372036854775807) : ∃ r, laws_markGraph.f n l a = some (a + 2 * (l.length : Int), r) := by
  obtain ⟨r, hr⟩ := markIntA2S_l0 _ rfl l.length l a 0 (by omega) (by omega) ha h
  exact ⟨r, by simp only [laws_markGraph.f, laws_markIntA2S.f]; rw [show ((0 : Nat) : Int) = 0 from rfl] at hr; rw [hr]; rfl⟩

theorem setOf_ev (n m : Nat) (hn : n ≤ 8) (hm : m < 2 ^ n) : Ev (fun k => impl_setOf.f k m) (bl n m) := by
  obtain ⟨t, ht⟩ : ∃ t, t = 9 := ⟨_, rfl⟩
  have hs : ∀ i, n ≤ i → m >>> i = 0 := fun i hi => by
    rw [Nat.shiftRight_eq_div_pow]; exact Nat.div_eq_of_lt (Nat.lt_of_lt_of_le hm (Nat.pow_le_pow_right (by decide) hi))
  have H := down n (fun i => Ev (fun k => impl_setOf.l0 k m (bl i m) i) (bl n m)) ?_ ?_ 0 (by omega)
  · simpa [impl_setOf.f, bl] using H
  · show Ev _ _
    rw [Ev.iff_succ]
    have h2 : (0 : Int) ≤ n := by omega
    simp [impl_setOf.l0, Ev.now_iff, h2, shr_nat m n (by omega), hs n (Nat.le_refl _)]
  · intro i hi ih
    show Ev _ _
    rw [Ev.iff_succ]
    have h2 : (0 : Int) ≤ i := by omega
    have h3 := bl_len_le i m
    have h4 : (bl i m).length < 17592186044416 := by omega
    have e3 := shr_bit m i (lt62 hn hm) (by omega)
    rw [bl_step hi] at ih
    simp only [impl_setOf.l0, Ev.ite_iff, h2, h4, ↓reduceIte, w64_succ i (by omega), e3]
    by_cases c : shr .i64 (m : Int) (i : Int) = 0
    · rw [if_pos c, Ev.now_iff]
      rw [shr_nat m i (by omega)] at c
      have c' : m >>> i = 0 := by omega
      have hb : ∀ j, i ≤ j → m.testBit j = false := fun j hj => by
        have : (m >>> i).testBit (j - i) = false := by rw [c']; simp
        rw [Nat.testBit_shiftRight] at this
        rwa [show i + (j - i) = j by omega] at this
      refine asc_ext (bl_asc _ _) (bl_asc _ _) (fun x => ?_)
      rw [mem_bl, mem_bl]
      constructor
      · rintro ⟨j, h1, h2, rfl⟩; exact ⟨j, by omega, h2, rfl⟩
      · rintro ⟨j, h1, h2, rfl⟩
        refine ⟨j, ?_, h2, rfl⟩
        by_cases hj : i ≤ j
        · rw [hb j hj] at h2; cases h2
        · omega
    · rw [if_neg c]
      cases c2 : m.testBit i
      · rw [c2] at ih; simpa using ih
      · rw [c2] at ih; simpa using ih

theorem l2Bits_ev (n m : Nat) (hn : n ≤ 8) (hm : m < 2 ^ n) : Ev (fun k => spec_l2Bits.f k n m) (bl n m) := by
  have H := down n (fun i => Ev (fun k => spec_l2Bits.l0 k n m (bl i m) i) (bl n m)) ?_ ?_ 0 (by omega)
  · simpa [spec_l2Bits.f, bl] using H
  · show Ev _ _
    rw [Ev.iff_succ]
    simp [spec_l2Bits.l0, Ev.now_iff]
  · intro i hi ih
    show Ev _ _
    rw [Ev.iff_succ]
    have h1 : (i : Int) < (n : Int) := by omega
    have h2 : (0 : Int) ≤ i := by omega
    have h3 := bl_len_le i m
    have h4 : (bl i m).length < 17592186044416 := by omega
    have e3 := shr_bit m i (lt62 hn hm) (by omega)
    rw [bl_step hi] at ih
    simp only [spec_l2Bits.l0, Ev.ite_iff, h1, h2, h4, ↓reduceIte, w64_succ i (by omega), e3]
    cases c : m.testBit i
    · rw [c] at ih; simpa using ih
    · rw [c] at ih; simpa using ih

/-- Does a list come before another one, number by number? -/
def lexLt : List Int → List Int → Bool
  | a :: s, b :: t => if a = b then lexLt s t else decide (a < b)
  | _, _ => false

theorem lexLt_nil (l : List Int) : lexLt [] l = false := by cases l <;> rfl

theorem lexLt_cons (a b : Int) (s t : List Int) : lexLt (a :: s) (b :: t) = if a = b then lexLt s t else decide (a < b) := rfl

theorem l4Less_ev (l m : List Int) (he : l.length = m.length) (hl : l.length ≤ 9223372036854775806) : Ev (fun k => spec_l4Less.f k l m) (lexLt l m) := by
  have H := down l.length (fun i => Ev (fun k => spec_l4Less.l0 k l m i) (lexLt (l.drop i) (m.drop i))) ?_ ?_ 0 (by omega)
  · simpa [spec_l4Less.f] using H
  · show Ev _ _
    rw [Ev.iff_succ]
    simp only [spec_l4Less.l0, Int.lt_irrefl, ↓reduceIte, Ev.now_iff, List.drop_length, lexLt_nil]
  · intro i hi ih
    show Ev _ _
    rw [Ev.iff_succ]
    have h1 : (i : Int) < l.length := by omega
    have h1' : (i : Int) < m.length := by omega
    have h2 : (0 : Int) ≤ i := by omega
    simp only [spec_l4Less.l0, Ev.ite_iff, h1, h1', h2, ↓reduceIte, w64_succ i (by omega), rd_lt l i hi, rd_lt m i (by omega), Ev.now_iff, List.drop_eq_getElem_cons hi, List.drop_eq_getElem_cons (show i < m.length by omega), lexLt_cons]
    by_cases c : l[i] = m[i]'(by omega)
    · simp only [c, ↓reduceIte]; exact ih
    · simp only [c, ↓reduceIte]

theorem cmpInt_eq (a b : Int) : cmp_Compare_int.f a b = some (if a < b then -1 else if a > b then 1 else 0) := by
  simp only [cmp_Compare_int.f, cmp_isNaN_int.f, bne_self_eq_false, Option.bind_some, Bool.false_eq_true, ↓reduceIte]
  split
  · rfl
  · split <;> rfl

/-- How two lists of one length compare. -/
def cmpL : List Int → List Int → Int
  | a :: s, b :: t => if a = b then cmpL s t else if a < b then -1 else 1
  | _, _ => 0

theorem cmpL_cons (a b : Int) (s t : List Int) : cmpL (a :: s) (b :: t) = if a = b then cmpL s t else if a < b then -1 else 1 := rfl

theorem cmpL_lt : ∀ (l m : List Int), cmpL l m < 0 ↔ lexLt l m = true
  | [], _ => by simp [cmpL, lexLt]
  | _ :: _, [] => by simp [cmpL, lexLt]
  | a :: s, b :: t => by
    rw [cmpL_cons, lexLt_cons]
    by_cases e : a = b
    · rw [if_pos e, if_pos e]; exact cmpL_lt s t
    · rw [if_neg e, if_neg e]
      by_cases g : a < b
      · rw [if_pos g]; simp [g]
      · rw [if_neg g]; simp [g]

/-- Is a set the better one: fewer nodes, or as many and it comes before? -/
def betM (n a b : Nat) : Bool := decide ((bl n a).length < (bl n b).length) || (decide ((bl n a).length = (bl n b).length) && lexLt (bl n a) (bl n b))

/-- The best set behind some sets, of those that p tells. -/
def bestF (p : Nat → Bool) (n : Nat) : Nat → Nat → Nat → Nat
  | 0, _, b => b
  | d + 1, c, b => bestF p n d (c + 1) (if p c && betM n c b then c else b)

theorem bestF_lt {p : Nat → Bool} {n : Nat} : ∀ (d c b : Nat), 2 ^ n = c + d → b < 2 ^ n → bestF p n d c b < 2 ^ n
  | 0, _, _, _, h => h
  | d + 1, c, b, hd, h => by
    rw [bestF]
    refine bestF_lt d (c + 1) _ (by omega) ?_
    split
    · omega
    · exact h

theorem okG_use {n : Int} {es : List S119} (h : okG n es = true) : ∃ N : Nat, n = N ∧ N ≤ 8 := by
  simp only [okG, Bool.and_eq_true, decide_eq_true_eq] at h
  exact ⟨n.toNat, by omega, by omega⟩

theorem l2All_ev {es : List S119} {n : Nat} (hn : n ≤ 8) : Ev (fun k => spec_l2All.f k n es) (bl n (2 ^ n - 1)) := by
  unfold spec_l2All.f
  rw [Ev.ite_iff, if_pos (by omega), mask_all n hn, Ev.bind_iff (l2Bits_ev n _ hn (by have := Nat.two_pow_pos n; omega)), Ev.now_iff]

/-- How two lists compare, number by number, then by their lengths. -/
def cmpG : List Int → List Int → Int
  | [], [] => 0
  | [], _ :: _ => -1
  | _ :: _, [] => 1
  | a :: s, b :: t => if a = b then cmpG s t else if a < b then -1 else 1

theorem cmpG_eq : ∀ (l m : List Int), l.length = m.length → cmpG l m = cmpL l m
  | [], [], _ => rfl
  | [], _ :: _, h => by simp at h
  | _ :: _, [], h => by simp at h
  | a :: s, b :: t, h => by
    have := cmpG_eq s t (by simpa using h)
    simp only [cmpG, cmpL, this]

end Go.Proofs.Ytmokkhfmbenleaa.QLeastDominating
