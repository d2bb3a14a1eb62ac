import Derived.Test.YtlbnpdkhghcejaaQLargestFarSet0
import Derived.Test.YtlbnpdkhghcejaaQLargestFarSet1
import Derived.Test.YtlbnpdkhghcejaaQLargestFarSet2
import Derived.Test.YtlbnpdkhghcejaaQLargestFarSet5
import Derived.Test.YtlbnpdkhghcejaaQLargestFarSet7
import Derived.Test.YtlbnpdkhghcejaaQLargestFarSet8
import Derived.Test.YtlbnpdkhghcejaaQLargestFarSet9
import Derived.Test.YtlbnpdkhghcejaaQLargestFarSetA0
namespace Go.Proofs.Ytlbnpdkhghcejaa.QLargestFarSet
open Go.RowKit Go.Proofs.YtlbnpdkhghcejaaW.PrintWords Go.Proofs.YtlbnpdkhghcejaaW.PrintLast Go.Proofs.YtlbnpdkhghcejaaW.PrintMore
attribute [local go_sem] max2_int min2_int max_two min_two max_three min_three max_four min_four   -- for this text's walks alone
set_option linter.unusedVariables false
set_option linter.unusedSimpArgs false
theorem toGraph_ev (n : Int) (es : List S75) (hl : es.length ≤ 17592186044416) : Ev (fun k => laws_toGraph.f k n es) (n, es) := by
  unfold laws_toGraph.f
  rw [Ev.bind_iff (toIntA2S_ev es hl), Ev.now_iff]

theorem eqIntS_refl (l : List Int) (hl : l.length ≤ 9223372036854775807) : Ev (fun k => laws_eqIntS.f k l l) true := by
  unfold laws_eqIntS.f
  rw [Ev.ite_iff, if_pos rfl]
  have H := down l.length (fun i => Ev (fun k => laws_eqIntS.l0 k l l i) true) ?_ ?_ 0 (by omega)
  · simpa using H
  · show Ev _ _
    rw [Ev.iff_succ]
    simp [laws_eqIntS.l0, Ev.now_iff]
  · intro i hi ih
    show Ev _ _
    rw [Ev.iff_succ]
    have h1 : (i : Int) < l.length := by omega
    have h2 : (0 : Int) ≤ i := by omega
    simp only [laws_eqIntS.l0, Ev.ite_iff, h1, h2, ↓reduceIte, w64_succ i (by omega)]
    exact ih

theorem eqIntA2_refl (a b : Int) : laws_eqIntA2.f a b a b = some true := by simp [laws_eqIntA2.f]

theorem eqGraph_refl (n : Int) (es : List S75) (hl : es.length ≤ 9223372036854775807) : Ev (fun k => laws_eqGraph.f k n es n es) true := by
  have H0 : Ev (fun k => laws_eqIntA2S.f k es es) true := by
    unfold laws_eqIntA2S.f
    rw [Ev.ite_iff, if_pos rfl]
    have H := down es.length (fun i => Ev (fun k => laws_eqIntA2S.l0 k es es i) true) ?_ ?_ 0 (by omega)
    · simpa using H
    · show Ev _ _
      rw [Ev.iff_succ]
      simp [laws_eqIntA2S.l0, Ev.now_iff]
    · intro i hi ih
      show Ev _ _
      rw [Ev.iff_succ]
      have h1 : (i : Int) < es.length := by omega
      have h2 : (0 : Int) ≤ i := by omega
      simp only [laws_eqIntA2S.l0, Ev.ite_iff, h1, h2, ↓reduceIte, w64_succ i (by omega), eqIntA2_refl, Option.bind_some]
      exact ih
  unfold laws_eqGraph.f
  rw [Ev.ite_iff, if_pos rfl, Ev.bind_iff H0, Ev.ite_iff, if_pos rfl, Ev.now_iff]

theorem szGraph_eq (n : Int) (es : List S75) (hl : es.length ≤ 9223372036854775807) : laws_szGraph.f n es 1048576 = some (if es.length ≤ 1048576 then 1048576 - (es.length : Int) else -1) := by
  unfold laws_szGraph.f laws_szIntA2S.f
  rw [w64 (by omega) (by omega)]
  by_cases h : es.length ≤ 1048576
  · rw [if_neg (by omega), if_pos h, Option.bind_some, if_neg (by omega)]
  · rw [if_pos (by omega), if_neg h, Option.bind_some, if_pos (by omega)]

theorem l2Good_eq (n : Int) (es : List S75) : spec_l2Good.f n es = some (okG n es) := rfl

theorem IsGraph_eq (n : Int) (es : List S75) : impl_IsGraph.f n es = some (okG n es) := rfl

theorem all_eq {es : List S75} {n : Nat} (h : n ≤ 8) : impl_net_all.f (nets es n) = some ((2 ^ n - 1 : Nat) : Int) := by
  unfold impl_net_all.f
  rw [nets_len, mask_all n h]

/-- Numbers one behind the other. -/
def upF (a : Int) (c : Nat) : List Int := (List.range c).map (fun i : Nat => a + (i : Int))

theorem upF_len (a : Int) (c : Nat) : (upF a c).length = c := by simp [upF]

theorem upF_succ (a : Int) (c : Nat) : upF a (c + 1) = upF a c ++ [a + (c : Int)] := by simp [upF, List.range_succ]

theorem upF_rd {a : Int} {c i : Nat} (h : i < c) : rd (upF a c) i = a + (i : Int) := by rw [rd_lt _ i (by rw [upF_len]; exact h)]; simp [upF]

theorem markIntS_ev (l : List Int) (a : Int) (ha : 0 ≤ a) (h : a + l.length < 9223372036854775807) : Ev (fun k => laws_markIntS.f k l a) (a + (l.length : Int), upF a l.length) := by
  have H := down l.length (fun i => Ev (fun k => laws_markIntS.l0 k (upF a i ++ l.drop i) (a + (i : Int)) i) (a + (l.length : Int), upF a l.length)) ?_ ?_ 0 (by omega)
  · simpa [laws_markIntS.f, upF] using H
  · show Ev _ _
    rw [Ev.iff_succ]
    simp [laws_markIntS.l0, Ev.now_iff, upF_len]
  · intro i hi ih
    show Ev _ _
    rw [Ev.iff_succ]
    have h0 : ((upF a i ++ l.drop i).length : Int) = l.length := by rw [List.length_append, upF_len, List.length_drop]; omega
    have h1 : (i : Int) < l.length := by omega
    have h2 : (0 : Int) ≤ i := by omega
    have h3 : (upF a i ++ l.drop i).set i (a + (i : Int)) = upF a (i + 1) ++ l.drop (i + 1) := by
      rw [List.drop_eq_getElem_cons hi, List.set_append_right _ _ (by rw [upF_len]; omega), upF_len, Nat.sub_self, List.set_cons_zero, upF_succ, List.append_assoc]; rfl
    have h4 : wrap64 (a + (i : Int) + 1) = a + ((i + 1 : Nat) : Int) := by rw [w64] <;> omega
    simp only [laws_markIntS.l0, Ev.ite_iff, h0, h1, h2, ↓reduceIte, w64_succ i (by omega), Int.toNat_natCast, h3, h4]
    exact ih

theorem heldIntS_ev (a : Int) (c : Nat) (ha : 0 ≤ a) (h : a + c < 9223372036854775807) : Ev (fun k => laws_heldIntS.f k (upF a c) a) (a + (c : Int)) := by
  have H := down c (fun i => Ev (fun k => laws_heldIntS.l0 k (upF a c) (a + (i : Int)) i) (a + (c : Int))) ?_ ?_ 0 (by omega)
  · simpa [laws_heldIntS.f] using H
  · show Ev _ _
    rw [Ev.iff_succ]
    simp [laws_heldIntS.l0, Ev.now_iff, upF_len]
  · intro i hi ih
    show Ev _ _
    rw [Ev.iff_succ]
    have h1 : (i : Int) < (c : Int) := by omega
    have h2 : (0 : Int) ≤ i := by omega
    have h4 : wrap64 (a + (i : Int) + 1) = a + ((i + 1 : Nat) : Int) := by rw [w64] <;> omega
    simp only [laws_heldIntS.l0, Ev.ite_iff, upF_len, h1, h2, ↓reduceIte, w64_succ i (by omega), upF_rd hi, h4]
    exact ih

theorem markIntA2S_l0 (M : Int) (hM : M = 9223372036854775807) (d : Nat) : ∀ (l : List S75) (a : Int) (i : Nat), l.length = i + d → (l.length : Int) < M → 0 ≤ a → a + 2 * (d : Int) < M → ∃ r, laws_markIntA2S.l0 (d + 1) l a i = some (a + 2 * (d : Int), r) := by
  induction d with
  | zero =>
    intro l a i h _ _ _
    refine ⟨l, ?_⟩
    rw [laws_markIntA2S.l0, if_neg (by omega)]
    simp
  | succ d ih =>
    intro l a i h hl h0 h1
    have e1 : wrap64 (a + 1) = a + 1 := by rw [w64] <;> omega
    have e2 : wrap64 (a + 1 + 1) = a + 1 + 1 := by rw [w64] <;> omega
    have e3 : (i : Int) < (l.length : Int) := by omega
    have e4 : (0 : Int) ≤ i := by omega
    rw [laws_markIntA2S.l0, if_pos e3, if_pos e4, e1, e2, w64_succ i (by omega)]
    obtain ⟨r, hr⟩ := ih (l.set (i : Int).toNat ⟨a, a + 1⟩) (a + 1 + 1) (i + 1) (by rw [List.length_set]; omega) (by rw [List.length_set]; exact hl) (by omega) (by omega)
    exact ⟨r, by rw [hr]; congr 2; omega⟩

theorem markGraph_eq (n : Int) (l : List S75) (a : Int) (ha : 0 ≤ a) (h : a + 2 * (l.length : Int) < 9223372036854775807) : ∃ r, laws_markGraph.f n l a = some (a + 2 * (l.length : Int), r) := by
  obtain ⟨r, hr⟩ := markIntA2S_l0 _ rfl l.length l a 0 (by omega) (by omega) ha h
  exact ⟨r, by simp only [laws_markGraph.f, laws_markIntA2S.f]; rw [show ((0 : Nat) : Int) = 0 from rfl] at hr; rw [hr]; rfl⟩

theorem setOf_ev (n m : Nat) (hn : n ≤ 8) (hm : m < 2 ^ n) : Ev (fun k => impl_setOf.f k m) (bl n m) := by
  obtain ⟨t, ht⟩ : ∃ t, t = 9 := ⟨_, rfl⟩
  have hs : ∀ i, n ≤ i → m >>> i = 0 := fun i hi => by
    rw [Nat.shiftRight_eq_div_pow]; exact Nat.div_eq_of_lt (Nat.lt_of_lt_of_le hm (Nat.pow_le_pow_right (by decide) hi))
  have H := down n (fun i => Ev (fun k => impl_setOf.l0 k m (bl i m) i) (bl n m)) ?_ ?_ 0 (by omega)
  · simpa [impl_setOf.f, bl] using H
  · show Ev _ _
    rw [Ev.iff_succ]
    have h2 : (0 : Int) ≤ n := by omega
    simp [impl_setOf.l0, Ev.now_iff, h2, shr_nat m n (by omega), hs n (Nat.le_refl _)]
  · intro i hi ih
    show Ev _ _
    rw [Ev.iff_succ]
    have h2 : (0 : Int) ≤ i := by omega
    have h3 := bl_len_le i m
    have h4 : (bl i m).length < 17592186044416 := by omega
    have e3 := shr_bit m i (lt62 hn hm) (by omega)
    rw [bl_step hi] at ih
    simp only [impl_setOf.l0, Ev.ite_iff, h2, h4, ↓reduceIte, w64_succ i (by omega), e3]
    by_cases c : shr .i64 (m : Int) (i : Int) = 0
    · rw [if_pos c, Ev.now_iff]
      rw [shr_nat m i (by omega)] at c
      have c' : m >>> i = 0 := by omega
      have hb : ∀ j, i ≤ j → m.testBit j = false := fun j hj => by
        have : (m >>> i).testBit (j - i) = false := by rw [c']; simp
        rw [Nat.testBit_shiftRight] at this
        rwa [show i + (j - i) = j by omega] at this
      refine asc_ext (bl_asc _ _) (bl_asc _ _) (fun x => ?_)
      rw [mem_bl, mem_bl]
      constructor
      · rintro ⟨j, h1, h2, rfl⟩; exact ⟨j, by omega, h2, rfl⟩
      · rintro ⟨j, h1, h2, rfl⟩
        refine ⟨j, ?_, h2, rfl⟩
        by_cases hj : i ≤ j
        · rw [hb j hj] at h2; cases h2
        · omega
    · rw [if_neg c]
      cases c2 : m.testBit i
      · rw [c2] at ih; simpa using ih
      · rw [c2] at ih; simpa using ih

theorem l2Bits_ev (n m : Nat) (hn : n ≤ 8) (hm : m < 2 ^ n) : Ev (fun k => spec_l2Bits.f k n m) (bl n m) := by
  have H := down n (fun i => Ev (fun k => spec_l2Bits.l0 k n m (bl i m) i) (bl n m)) ?_ ?_ 0 (by omega)
  · simpa [spec_l2Bits.f, bl] using H
  · show Ev _ _
    rw [Ev.iff_succ]
    simp [spec_l2Bits.l0, Ev.now_iff]
  · intro i hi ih
    show Ev _ _
    rw [Ev.iff_succ]
    have h1 : (i : Int) < (n : Int) := by omega
    have h2 : (0 : Int) ≤ i := by omega
    have h3 := bl_len_le i m
    have h4 : (bl i m).length < 17592186044416 := by omega
    have e3 := shr_bit m i (lt62 hn hm) (by omega)
    rw [bl_step hi] at ih
    simp only [spec_l2Bits.l0, Ev.ite_iff, h1, h2, h4, ↓reduceIte, w64_succ i (by omega), e3]
    cases c : m.testBit i
    · rw [c] at ih; simpa using ih
    · rw [c] at ih; simpa using ih

/-- A row of numbers by places. -/
def rowF (n : Nat) (f : Nat → Int) : List Int := (List.range n).map f

theorem rowF_len (n : Nat) (f : Nat → Int) : (rowF n f).length = n := by simp [rowF]

theorem rowF_rd {n : Nat} {f : Nat → Int} {i : Nat} (h : i < n) : rd (rowF n f) i = f i := by simp [rd, rowF, h]

theorem rowF_set {n : Nat} {f : Nat → Int} {i : Nat} {v : Int} (_ : i < n) : (rowF n f).set i v = rowF n (fun x => if x = i then v else f x) := by
  apply List.ext_getElem
  · simp [rowF]
  · intro j h1 h2
    simp only [List.getElem_set, rowF, List.getElem_map, List.getElem_range]
    by_cases e : i = j
    · subst e; simp
    · simp [e, show ¬ j = i from fun h => e h.symm]

theorem rowF_ext {n : Nat} {f g : Nat → Int} (h : ∀ x, x < n → f x = g x) : rowF n f = rowF n g := by
  unfold rowF
  exact List.map_congr_left (fun x hx => h x (List.mem_range.1 hx))

/-- Does a list come before another one, number by number? -/
def lexLt : List Int → List Int → Bool
  | a :: s, b :: t => if a = b then lexLt s t else decide (a < b)
  | _, _ => false

theorem lexLt_nil (l : List Int) : lexLt [] l = false := by cases l <;> rfl

theorem lexLt_cons (a b : Int) (s t : List Int) : lexLt (a :: s) (b :: t) = if a = b then lexLt s t else decide (a < b) := rfl

theorem l4Less_ev (l m : List Int) (he : l.length = m.length) (hl : l.length ≤ 9223372036854775806) : Ev (fun k => spec_l4Less.f k l m) (lexLt l m) := by
  have H := down l.length (fun i => Ev (fun k => spec_l4Less.l0 k l m i) (lexLt (l.drop i) (m.drop i))) ?_ ?_ 0 (by omega)
  · simpa [spec_l4Less.f] using H
  · show Ev _ _
    rw [Ev.iff_succ]
    simp only [spec_l4Less.l0, Int.lt_irrefl, ↓reduceIte, Ev.now_iff, List.drop_length, lexLt_nil]
  · intro i hi ih
    show Ev _ _
    rw [Ev.iff_succ]
    have h1 : (i : Int) < l.length := by omega
    have h1' : (i : Int) < m.length := by omega
    have h2 : (0 : Int) ≤ i := by omega
    simp only [spec_l4Less.l0, Ev.ite_iff, h1, h1', h2, ↓reduceIte, w64_succ i (by omega), rd_lt l i hi, rd_lt m i (by omega), Ev.now_iff, List.drop_eq_getElem_cons hi, List.drop_eq_getElem_cons (show i < m.length by omega), lexLt_cons]
    by_cases c : l[i] = m[i]'(by omega)
    · simp only [c, ↓reduceIte]; exact ih
    · simp only [c, ↓reduceIte]

theorem cmpInt_eq (a b : Int) : cmp_Compare_int.f a b = some (if a < b then -1 else if a > b then 1 else 0) := by
  simp only [cmp_Compare_int.f, cmp_isNaN_int.f, bne_self_eq_false, Option.bind_some, Bool.false_eq_true, ↓reduceIte]
  split
  · rfl
  · split <;> rfl

/-- How two lists of one length compare. -/
def cmpL : List Int → List Int → Int
  | a :: s, b :: t => if a = b then cmpL s t else if a < b then -1 else 1
  | _, _ => 0

theorem cmpL_cons (a b : Int) (s t : List Int) : cmpL (a :: s) (b :: t) = if a = b then cmpL s t else if a < b then -1 else 1 := rfl

theorem cmpL_lt : ∀ (l m : List Int), cmpL l m < 0 ↔ lexLt l m = true
  | [], _ => by simp [cmpL, lexLt]
  | _ :: _, [] => by simp [cmpL, lexLt]
  | a :: s, b :: t => by
    rw [cmpL_cons, lexLt_cons]
    by_cases e : a = b
    · rw [if_pos e, if_pos e]; exact cmpL_lt s t
    · rw [if_neg e, if_neg e]
      by_cases g : a < b
      · rw [if_pos g]; simp [g]
      · rw [if_neg g]; simp [g]

theorem sliceCompare_ev (l m : List Int) (he : l.length = m.length) (hl : l.length ≤ 9223372036854775806) : Ev (fun k => slices_Compare_int_int.f k l m) (cmpL l m) := by
  have H := down l.length (fun i => Ev (fun k => slices_Compare_int_int.l0 k l m l l.length i) (cmpL (l.drop i) (m.drop i))) ?_ ?_ 0 (by omega)
  · exact H
  · show Ev _ _
    rw [Ev.iff_succ]
    simp only [slices_Compare_int_int.l0, Int.lt_irrefl, ↓reduceIte, Ev.ite_iff, Ev.now_iff]
    rw [if_neg (by omega), List.drop_length]; rfl
  · intro i hi ih
    show Ev _ _
    rw [Ev.iff_succ]
    have h1 : (i : Int) < l.length := by omega
    have h1' : (i : Int) < m.length := by omega
    have h1n : ¬ (i : Int) ≥ m.length := by omega
    have h2 : (0 : Int) ≤ i := by omega
    have e1 := rd_lt l i hi
    have e2 := rd_lt m i (by omega)
    rw [List.drop_eq_getElem_cons hi, List.drop_eq_getElem_cons (show i < m.length by omega), cmpL_cons]
    generalize l[i] = a at e1 ⊢
    generalize m[i]'(by omega) = b at e2 ⊢
    simp only [slices_Compare_int_int.l0, Ev.ite_iff, h1, h1', h1n, h2, ↓reduceIte, w64_succ i (by omega), e1, e2, cmpInt_eq, Option.bind_some]
    by_cases e : a = b
    · subst e
      simp only [Int.lt_irrefl, ↓reduceIte, show ¬ a > a by omega]
      exact ih
    · by_cases g : a < b
      · simp only [g, e, ↓reduceIte, Ev.now_iff]; simp
      · have g2 : a > b := by omega
        simp only [g, g2, e, ↓reduceIte, Ev.now_iff]; simp

theorem okG_use {n : Int} {es : List S75} (h : okG n es = true) : ∃ N : Nat, n = N ∧ N ≤ 8 := by
  simp only [okG, Bool.and_eq_true, decide_eq_true_eq] at h
  exact ⟨n.toNat, by omega, by omega⟩

/-- The ball of a node: what is reached by so many steps. -/
def ballM (es : List S75) (n x : Nat) : Nat → Nat
  | 0 => 2 ^ x
  | j + 1 => aroM es n (ballM es n x j)

theorem ballM_lt {es : List S75} {n x : Nat} (hx : x < n) : ∀ j, ballM es n x j < 2 ^ n
  | 0 => Nat.pow_lt_pow_right (by decide) hx
  | j + 1 => aroM_lt (ballM_lt hx j)

theorem ballM_mono {es : List S75} {n x j y : Nat} (h : (ballM es n x j).testBit y = true) : (ballM es n x (j + 1)).testBit y = true := (aroM_bit _ _ _ _).2 (.inl h)

theorem ballM_le {es : List S75} {n x y : Nat} {i : Nat} (h : (ballM es n x i).testBit y = true) : ∀ d, (ballM es n x (i + d)).testBit y = true
  | 0 => h
  | d + 1 => ballM_mono (ballM_le h d)

theorem ballM_stop {es : List S75} {n x i : Nat} (h : ballM es n x (i + 1) = ballM es n x i) : ∀ d, ballM es n x (i + d) = ballM es n x i
  | 0 => rfl
  | d + 1 => by
    have ih := ballM_stop h d
    show aroM es n (ballM es n x (i + d)) = _
    rw [ih]; exact h

theorem ball_l0 {es : List S75} {n x : Nat} (hn : n ≤ 8) (hx : x < n) : ∀ (r i : Nat), r < 1000 → Ev (fun k => impl_net_ball.l0 k r (ballM es n x i) (nets es n)) ((ballM es n x (i + r) : Nat) : Int)
  | 0, i, _ => by
    rw [Ev.iff_succ]
    simp [impl_net_ball.l0, Ev.now_iff]
  | r + 1, i, hr => by
    rw [Ev.iff_succ]
    simp only [impl_net_ball.l0]
    rw [Ev.ite_iff, if_pos (by omega), Ev.bind_iff (around_ev es n _ hn (ballM_lt hx i)), Ev.ite_iff]
    by_cases c : aroM es n (ballM es n x i) = ballM es n x i
    · rw [if_pos (by rw [c]), Ev.now_iff, ballM_stop c]
    · rw [if_neg (by omega), w64 (by omega) (by omega), show ((r + 1 : Nat) : Int) - 1 = (r : Int) by omega]
      have := ball_l0 hn hx r (i + 1) (by omega) (es := es)
      rw [show i + (r + 1) = i + 1 + r by omega]
      exact this

theorem ball_ev (es : List S75) (n x r : Nat) (hn : n ≤ 8) (hx : x < n) (hr : r < 1000) : Ev (fun k => impl_net_ball.f k (nets es n) x r) ((ballM es n x r : Nat) : Int) := by
  unfold impl_net_ball.f
  rw [Ev.ite_iff, if_pos (by omega), shl_one (by omega)]
  have := ball_l0 (es := es) hn hx r 0 hr
  rw [Nat.zero_add] at this
  exact this

/-- The step by which a node is reached, of those up to some one. -/
def lvD (es : List S75) (n x y : Nat) : Nat → Nat
  | 0 => 0
  | d + 1 => if (ballM es n x d).testBit y then lvD es n x y d else d + 1

theorem lvD_le {es : List S75} {n x y : Nat} : ∀ d, lvD es n x y d ≤ d
  | 0 => Nat.le_refl _
  | d + 1 => by
    unfold lvD
    have := lvD_le (es := es) (n := n) (x := x) (y := y) d
    split <;> omega

theorem lvD_eq {es : List S75} {n x y : Nat} : ∀ d, lvD es n x y d = d ↔ (d = 0 ∨ (ballM es n x (d - 1)).testBit y = false)
  | 0 => by simp [lvD]
  | d + 1 => by
    unfold lvD
    have := lvD_le (es := es) (n := n) (x := x) (y := y) d
    cases c : (ballM es n x d).testBit y
    · simp [c]
    · simp only [↓reduceIte, Nat.add_sub_cancel, c]; simp; omega

/-- A node of the ball lies at most so far. -/
theorem lvD_in {es : List S75} {n x y r : Nat} : ∀ d, (ballM es n x d).testBit y = true → (lvD es n x y d ≤ r ↔ r ≥ d ∨ (ballM es n x r).testBit y = true)
  | 0, _ => by simp [lvD]
  | d + 1, h => by
    unfold lvD
    cases c : (ballM es n x d).testBit y
    · simp only [Bool.false_eq_true, ↓reduceIte]
      constructor
      · intro h; exact .inl h
      · rintro (h | h)
        · exact h
        · by_cases e : d + 1 ≤ r
          · exact e
          · have := ballM_le h (d - r)
            rw [show r + (d - r) = d by omega, c] at this; cases this
    · simp only [↓reduceIte]
      rw [lvD_in d c]
      constructor
      · rintro (g | g)
        · right
          have := ballM_le c (r - d)
          rwa [show d + (r - d) = r by omega] at this
        · exact .inr g
      · rintro (g | g)
        · exact .inl (by omega)
        · exact .inr g

/-- The row of distances behind some steps. -/
def rowD (es : List S75) (n x d : Nat) (y : Nat) : Int := if (ballM es n x d).testBit y then (lvD es n x y d : Int) else -1

/-- The row within a step: p tells who is reached newly. -/
def rowP (es : List S75) (n x d : Nat) (p : Nat → Bool) (y : Nat) : Int := if (ballM es n x d).testBit y then (lvD es n x y d : Int) else if p y then (d : Int) + 1 else -1

def layD (es : List S75) (n x d y : Nat) : Bool := (ballM es n x d).testBit y && decide (lvD es n x y d = d)

def newP (es : List S75) (n x d : Nat) : Nat → Nat → Bool
  | 0, _ => false
  | y + 1, z => newP es n x d y z || (layD es n x d y && near es y z)

theorem newP_iff {es : List S75} {n x d z : Nat} : ∀ y, newP es n x d y z = true ↔ ∃ u, u < y ∧ layD es n x d u = true ∧ near es u z = true
  | 0 => by simp [newP]
  | y + 1 => by
    rw [newP, Bool.or_eq_true, Bool.and_eq_true, newP_iff y]
    constructor
    · rintro (⟨u, h, g⟩ | g)
      · exact ⟨u, by omega, g⟩
      · exact ⟨y, by omega, g⟩
    · rintro ⟨u, h, g⟩
      by_cases e : u = y
      · subst e; exact .inr g
      · exact .inl ⟨u, by omega, g⟩

theorem rowP_end {es : List S75} {n x d : Nat} (hx : x < n) : rowF n (rowP es n x d (newP es n x d n)) = rowF n (rowD es n x (d + 1)) := by
  refine rowF_ext (fun z hz => ?_)
  unfold rowP rowD
  cases c : (ballM es n x d).testBit z
  · have key : (ballM es n x (d + 1)).testBit z = newP es n x d n z := by
      rw [Bool.eq_iff_iff, newP_iff]
      show (aroM es n (ballM es n x d)).testBit z = true ↔ _
      rw [aroM_bit]
      constructor
      · rintro (h | ⟨u, h1, h2, h3⟩)
        · rw [c] at h; cases h
        · rw [nb_bit] at h3
          simp only [Bool.and_eq_true, decide_eq_true_eq] at h3
          refine ⟨u, h1, ?_, h3.2⟩
          unfold layD
          rw [h2, Bool.true_and, decide_eq_true_eq, lvD_eq]
          by_cases e : d = 0
          · exact .inl e
          · right
            cases g : (ballM es n x (d - 1)).testBit u
            · rfl
            · exfalso
              have : (ballM es n x (d - 1 + 1)).testBit z = true := (aroM_bit _ _ _ _).2 (.inr ⟨u, h1, g, by rw [nb_bit]; simp [hz, h3.2]⟩)
              rw [show d - 1 + 1 = d by omega, c] at this; cases this
      · rintro ⟨u, h1, h2, h3⟩
        unfold layD at h2
        rw [Bool.and_eq_true] at h2
        exact .inr ⟨u, h1, h2.1, by rw [nb_bit]; simp [hz, h3]⟩
    rw [key]
    simp only [Bool.false_eq_true, ↓reduceIte]
    cases newP es n x d n z
    · rfl
    · simp only [↓reduceIte, lvD, c, Bool.false_eq_true]; omega
  · have h1 : (ballM es n x (d + 1)).testBit z = true := ballM_mono c
    simp only [h1, ↓reduceIte, lvD, c]

theorem rowP_begin {es : List S75} {n x d : Nat} : rowF n (rowD es n x d) = rowF n (rowP es n x d (newP es n x d 0)) := by
  refine rowF_ext (fun z _ => ?_)
  unfold rowP rowD
  simp [newP]

def distL (es : List S75) (n : Nat) : List (List Int) := (List.range n).map (fun x => rowF n (rowD es n x n))

end Go.Proofs.Ytlbnpdkhghcejaa.QLargestFarSet
