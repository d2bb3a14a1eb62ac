import Derived.Test.YtbhkimopcliepaaQIsFarSet0
import Derived.Test.YtbhkimopcliepaaQIsFarSet1
import Derived.Test.YtbhkimopcliepaaQIsFarSet2
import Derived.Test.YtbhkimopcliepaaQIsFarSet6
import Derived.Test.YtbhkimopcliepaaQIsFarSet7
import Derived.Test.YtbhkimopcliepaaQIsFarSetA0
namespace Go.Proofs.Ytbhkimopcliepaa.QIsFarSet
open Go.RowKit Go.Proofs.YtbhkimopcliepaaW.PrintWords Go.Proofs.YtbhkimopcliepaaW.PrintLast Go.Proofs.YtbhkimopcliepaaW.PrintMore
attribute [local go_sem] max2_int min2_int max_two min_two max_three min_three max_four min_four   -- for this text's walks alone
set_option linter.unusedVariables false
set_option linter.unusedSimpArgs false
theorem shr_nat (a x : Nat) (h : x < 62) : shr .i64 (a : Int) (x : Int) = ((a >>> x : Nat) : Int) := by
  unfold shr
  have hb : IntKind.bits .i64 = 64 := rfl
  rw [Int.toNat_natCast, hb, Nat.min_eq_left (by omega), Nat.shiftRight_eq_div_pow]
  simp

theorem shr_bit (a x : Nat) (ha : a < 2 ^ 62) (h : x < 62) : Go.bits .and .i64 (shr .i64 (a : Int) (x : Int)) 1 = if a.testBit x then 1 else 0 := by
  have h1 : a >>> x < 2 ^ 62 := Nat.lt_of_le_of_lt (Nat.shiftRight_le a x) ha
  rw [shr_nat a x h, show (1 : Int) = ((1 : Nat) : Int) from rfl, gand _ _ h1 (by decide)]
  simp only [Nat.testBit, bne_iff_ne, ne_eq]
  rw [Nat.and_comm 1, Nat.and_one_is_mod]
  have := Nat.mod_two_eq_zero_or_one (a >>> x)
  rcases this with h | h <;> simp [h]

theorem fold_range_succ {α : Type} (n : Nat) (f : α → Nat → α) (a : α) : (List.range (n + 1)).foldl f a = f ((List.range n).foldl f a) n := by
  rw [List.range_succ, List.foldl_append]; rfl

/-- A set and its neighbors. -/
def aStep (es : List S100) (n m : Nat) (acc x : Nat) : Nat := if m.testBit x then acc ||| nb es n x else acc

def aroM (es : List S100) (n m : Nat) : Nat := (List.range n).foldl (aStep es n m) m

theorem aStep_lt {es : List S100} {n m acc x : Nat} (h : acc < 2 ^ n) : aStep es n m acc x < 2 ^ n := by
  unfold aStep; split
  · exact Nat.or_lt_two_pow h (nb_lt _ _ _)
  · exact h

theorem aFold_lt {es : List S100} {n m acc : Nat} (h : acc < 2 ^ n) : ∀ i, (List.range i).foldl (aStep es n m) acc < 2 ^ n
  | 0 => h
  | i + 1 => by rw [fold_range_succ]; exact aStep_lt (aFold_lt h i)

theorem aroM_lt {es : List S100} {n m : Nat} (h : m < 2 ^ n) : aroM es n m < 2 ^ n := aFold_lt h n

theorem aFold_bit (es : List S100) (n m acc y : Nat) : ∀ i, ((List.range i).foldl (aStep es n m) acc).testBit y = true ↔ acc.testBit y = true ∨ ∃ x, x < i ∧ m.testBit x = true ∧ (nb es n x).testBit y = true
  | 0 => by simp
  | i + 1 => by
    rw [fold_range_succ]
    have ih := aFold_bit es n m acc y i
    generalize (List.range i).foldl (aStep es n m) acc = b at ih ⊢
    unfold aStep
    have key : (∃ x, x < i + 1 ∧ m.testBit x = true ∧ (nb es n x).testBit y = true) ↔ (∃ x, x < i ∧ m.testBit x = true ∧ (nb es n x).testBit y = true) ∨ (m.testBit i = true ∧ (nb es n i).testBit y = true) := by
      constructor
      · rintro ⟨x, h1, h2⟩
        by_cases e : x = i
        · subst e; exact .inr h2
        · exact .inl ⟨x, by omega, h2⟩
      · rintro (⟨x, h1, h2⟩ | h2)
        · exact ⟨x, by omega, h2⟩
        · exact ⟨i, by omega, h2⟩
    rw [key]
    by_cases c : m.testBit i = true
    · rw [if_pos c, Nat.testBit_or, Bool.or_eq_true, ih]; simp only [c, true_and, or_assoc]
    · rw [if_neg c, ih]; simp only [c, false_and, or_false]; simp

theorem aroM_bit (es : List S100) (n m y : Nat) : (aroM es n m).testBit y = true ↔ m.testBit y = true ∨ ∃ x, x < n ∧ m.testBit x = true ∧ (nb es n x).testBit y = true := aFold_bit es n m m y n

theorem around_ev (es : List S100) (n m : Nat) (hn : n ≤ 8) (hm : m < 2 ^ n) : Ev (fun k => impl_net_around.f k (nets es n) m) ((aroM es n m : Nat) : Int) := by
  have H := down n (fun i => Ev (fun k => impl_net_around.l0 k m (((List.range i).foldl (aStep es n m) m : Nat) : Int) (nets es n) n i) ((aroM es n m : Nat) : Int)) ?_ ?_ 0 (by omega)
  · simpa [impl_net_around.f, nets_len] using H
  · show Ev _ _
    rw [Ev.iff_succ]
    simp [impl_net_around.l0, Ev.now_iff, aroM]
  · intro i hi ih
    show Ev _ _
    rw [Ev.iff_succ]
    have h1 : (i : Int) < (n : Int) := by omega
    have h2 : (0 : Int) ≤ i := by omega
    have h3 : (i : Int) < ((nets es n).length : Int) := by rw [nets_len]; omega
    have hacc := aFold_lt (es := es) (m := m) hm i
    have hb := nb_lt es n i
    have e2 : ∀ acc : Nat, acc < 2 ^ n → Go.bits .or .i64 (acc : Int) ((nb es n i : Nat) : Int) = ((acc ||| nb es n i : Nat) : Int) := fun acc ha => gor _ _ (lt62 hn ha) (lt62 hn hb)
    rw [fold_range_succ] at ih
    generalize (List.range i).foldl (aStep es n m) m = acc at hacc ih ⊢
    unfold aStep at ih
    have e3 := shr_bit m i (lt62 hn hm) (by omega)
    simp only [impl_net_around.l0, Ev.ite_iff, h1, h2, h3, ↓reduceIte, w64_succ i (by omega), nets_rd hi, e3, e2 acc hacc]
    cases c : m.testBit i
    · rw [c] at ih; simpa using ih
    · rw [c] at ih; simpa using ih

theorem rd_bl {n m j : Nat} (h : j < (bl n m).length) : ∃ y, y < n ∧ m.testBit y = true ∧ (bl n m)[j] = (y : Int) := by
  obtain ⟨y, h1, h2, h3⟩ := mem_bl.1 (List.getElem_mem h)
  exact ⟨y, h1, h2, h3⟩

theorem set_fill {α : Type} (l : List α) (z : α) (i : Nat) (h : i < l.length) : (l.take i ++ List.replicate (l.length - i) z).set i l[i] = l.take (i + 1) ++ List.replicate (l.length - (i + 1)) z := by
  rw [List.take_succ_eq_append_getElem h, show l.length - i = (l.length - (i + 1)) + 1 by omega, List.replicate_succ]
  have h1 : (l.take i).length = i := by rw [List.length_take]; omega
  rw [List.set_append_right _ _ (by omega), h1, Nat.sub_self, List.set_cons_zero, List.append_assoc]
  rfl

theorem toIntS_ev (l : List Int) (hl : l.length ≤ 35184372088832) : Ev (fun k => laws_toIntS.f k l) l := by
  unfold laws_toIntS.f
  rw [Ev.ite_iff, if_pos (by omega), Ev.ite_iff, if_pos (by omega), Int.toNat_natCast]
  have H := down l.length (fun i => Ev (fun k => laws_toIntS.l0 k l (l.take i ++ List.replicate (l.length - i) 0) i) l) ?_ ?_ 0 (by omega)
  · simpa using H
  · show Ev _ _
    rw [Ev.iff_succ]
    simp [laws_toIntS.l0, Ev.now_iff]
  · intro i hi ih
    show Ev _ _
    rw [Ev.iff_succ]
    have h1 : (i : Int) < l.length := by omega
    have h2 : (0 : Int) ≤ i := by omega
    have h3 : (i : Int) < ((l.take i ++ List.replicate (l.length - i) (0 : Int)).length : Int) := by
      rw [List.length_append, List.length_take, List.length_replicate]; omega
    simp only [laws_toIntS.l0, Ev.ite_iff, h1, h2, h3, ↓reduceIte, w64_succ i (by omega), rd_lt l i hi, Int.toNat_natCast]
    rw [set_fill l 0 i hi]
    exact ih

theorem toIntA2_eq (a b : Int) : laws_toIntA2.f a b = some (a, b) := rfl

theorem toIntA2S_ev (l : List S100) (hl : l.length ≤ 17592186044416) : Ev (fun k => laws_toIntA2S.f k l) l := by
  unfold laws_toIntA2S.f
  rw [Ev.ite_iff, if_pos (by omega), Ev.ite_iff, if_pos (by omega), Int.toNat_natCast]
  have H := down l.length (fun i => Ev (fun k => laws_toIntA2S.l0 k l (l.take i ++ List.replicate (l.length - i) z100) i) l) ?_ ?_ 0 (by omega)
  · simpa using H
  · show Ev _ _
    rw [Ev.iff_succ]
    simp [laws_toIntA2S.l0, Ev.now_iff]
  · intro i hi ih
    show Ev _ _
    rw [Ev.iff_succ]
    have h1 : (i : Int) < l.length := by omega
    have h2 : (0 : Int) ≤ i := by omega
    have h3 : (i : Int) < ((l.take i ++ List.replicate (l.length - i) z100).length : Int) := by
      rw [List.length_append, List.length_take, List.length_replicate]; omega
    have h4 : rd_T100 l i = l[i] := by simp [rd_T100, hi]
    simp only [laws_toIntA2S.l0, Ev.ite_iff, h1, h2, ↓reduceIte, toIntA2_eq, Option.bind_some, h3, w64_succ i (by omega), h4, Int.toNat_natCast]
    rw [set_fill l _ i hi]
    exact ih

theorem toGraph_ev (n : Int) (es : List S100) (hl : es.length ≤ 17592186044416) : Ev (fun k => laws_toGraph.f k n es) (n, es) := by
  unfold laws_toGraph.f
  rw [Ev.bind_iff (toIntA2S_ev es hl), Ev.now_iff]

theorem eqIntS_refl (l : List Int) (hl : l.length ≤ 9223372036854775807) : Ev (fun k => laws_eqIntS.f k l l) true := by
  unfold laws_eqIntS.f
  rw [Ev.ite_iff, if_pos rfl]
  have H := down l.length (fun i => Ev (fun k => laws_eqIntS.l0 k l l i) true) ?_ ?_ 0 (by omega)
  · simpa using H
  · show Ev _ _
    rw [Ev.iff_succ]
    simp [laws_eqIntS.l0, Ev.now_iff]
  · intro i hi ih
    show Ev _ _
    rw [Ev.iff_succ]
    have h1 : (i : Int) < l.length := by omega
    have h2 : (0 : Int) ≤ i := by omega
    simp only [laws_eqIntS.l0, Ev.ite_iff, h1, h2, ↓reduceIte, w64_succ i (by omega)]
    exact ih

theorem eqIntA2_refl (a b : Int) : laws_eqIntA2.f a b a b = some true := by simp [laws_eqIntA2.f]

theorem eqGraph_refl (n : Int) (es : List S100) (hl : es.length ≤ 9223372036854775807) : Ev (fun k => laws_eqGraph.f k n es n es) true := by
  have H0 : Ev (fun k => laws_eqIntA2S.f k es es) true := by
    unfold laws_eqIntA2S.f
    rw [Ev.ite_iff, if_pos rfl]
    have H := down es.length (fun i => Ev (fun k => laws_eqIntA2S.l0 k es es i) true) ?_ ?_ 0 (by omega)
    · simpa using H
    · show Ev _ _
      rw [Ev.iff_succ]
      simp [laws_eqIntA2S.l0, Ev.now_iff]
    · intro i hi ih
      show Ev _ _
      rw [Ev.iff_succ]
      have h1 : (i : Int) < es.length := by omega
      have h2 : (0 : Int) ≤ i := by omega
      simp only [laws_eqIntA2S.l0, Ev.ite_iff, h1, h2, ↓reduceIte, w64_succ i (by omega), eqIntA2_refl, Option.bind_some]
      exact ih
  unfold laws_eqGraph.f
  rw [Ev.ite_iff, if_pos rfl, Ev.bind_iff H0, Ev.ite_iff, if_pos rfl, Ev.now_iff]

theorem szGraph_eq (n : Int) (es : List S100) (hl : es.length ≤ 9223372036854775807) : laws_szGraph.f n es 1048576 = some (if es.length ≤ 1048576 then 1048576 - (es.length : Int) else -1) := by
  unfold laws_szGraph.f laws_szIntA2S.f
  rw [w64 (by omega) (by omega)]
  by_cases h : es.length ≤ 1048576
  · rw [if_neg (by omega), if_pos h, Option.bind_some, if_neg (by omega)]
  · rw [if_pos (by omega), if_neg h, Option.bind_some, if_pos (by omega)]

/-- A graph is valid and a list is a set of its nodes. -/
def setB (n : Int) (es : List S100) (l : List Int) : Bool := okG n es && (allIn 0 (wrap64 (n - 1)) l && ascB none l)

theorem setB_use {n : Int} {es : List S100} {l : List Int} (h : setB n es l = true) : ∃ N m : Nat, n = N ∧ N ≤ 8 ∧ okG N es = true ∧ (∀ e ∈ es, edgeOk N e = true) ∧ m < 2 ^ N ∧ l = bl N m ∧ mL l = m := by
  simp only [setB, Bool.and_eq_true] at h
  obtain ⟨h1, h2, h3⟩ := h
  have h4 := h1
  simp only [okG, Bool.and_eq_true, decide_eq_true_eq] at h4
  obtain ⟨N, rfl⟩ : ∃ N : Nat, n = N := ⟨n.toNat, by omega⟩
  rw [w64 (by omega) (by omega)] at h2
  have h5 : ∀ x ∈ l, 0 ≤ x ∧ x < (N : Int) := fun x hx => by
    simp only [allIn, List.all_eq_true, decide_eq_true_eq] at h2
    have := h2 x hx
    omega
  exact ⟨N, mL l, rfl, by omega, h1, goodL_all h4.2, mL_lt h5, bl_of_asc h2 h3, rfl⟩

theorem l2Good_eq (n : Int) (es : List S100) : spec_l2Good.f n es = some (okG n es) := rfl

theorem IsGraph_eq (n : Int) (es : List S100) : impl_IsGraph.f n es = some (okG n es) := rfl

theorem l2Set_ev (n : Int) (es : List S100) (l : List Int) (hl : l.length ≤ 9223372036854775807) : Ev (fun k => spec_l2Set.f k n es l) (allIn 0 (wrap64 (n - 1)) l && ascB none l) := by
  unfold spec_l2Set.f
  rw [Ev.bind_iff (l1Rising_ev l 0 _ hl), Ev.now_iff]

theorem hasNodes_ev (n : Int) (es : List S100) (l : List Int) (hl : l.length ≤ 9223372036854775807) : Ev (fun k => impl_hasNodes.f k n es l) (okG n es && allIn 0 (wrap64 (n - 1)) l) := by
  unfold impl_hasNodes.f
  rw [IsGraph_eq]
  simp only [Option.bind_some, Ev.ite_iff]
  split
  · rename_i h
    rw [Ev.bind_iff (allWithin_ev l 0 _ hl), Ev.now_iff, h, Bool.true_and]
  · rename_i h
    rw [Ev.now_iff, Bool.eq_false_iff.2 h, Bool.false_and]

theorem isSet_ev (n : Int) (es : List S100) (l : List Int) (hl : l.length ≤ 9223372036854775807) : Ev (fun k => impl_isSet.f k n es l) (setB n es l) := by
  unfold impl_isSet.f
  rw [Ev.bind_iff (hasNodes_ev n es l hl), Ev.ite_iff]
  unfold setB
  split
  · rename_i h
    rw [Ev.bind_iff (increasing_ev l hl), Ev.now_iff, ← Bool.and_assoc, h, Bool.true_and]
  · rename_i h
    rw [Ev.now_iff, ← Bool.and_assoc, Bool.eq_false_iff.2 h, Bool.false_and]

theorem setOf_ev (n m : Nat) (hn : n ≤ 8) (hm : m < 2 ^ n) : Ev (fun k => impl_setOf.f k m) (bl n m) := by
  obtain ⟨t, ht⟩ : ∃ t, t = 9 := ⟨_, rfl⟩
  have hs : ∀ i, n ≤ i → m >>> i = 0 := fun i hi => by
    rw [Nat.shiftRight_eq_div_pow]; exact Nat.div_eq_of_lt (Nat.lt_of_lt_of_le hm (Nat.pow_le_pow_right (by decide) hi))
  have H := down n (fun i => Ev (fun k => impl_setOf.l0 k m (bl i m) i) (bl n m)) ?_ ?_ 0 (by omega)
  · simpa [impl_setOf.f, bl] using H
  · show Ev _ _
    rw [Ev.iff_succ]
    have h2 : (0 : Int) ≤ n := by omega
    simp [impl_setOf.l0, Ev.now_iff, h2, shr_nat m n (by omega), hs n (Nat.le_refl _)]
  · intro i hi ih
    show Ev _ _
    rw [Ev.iff_succ]
    have h2 : (0 : Int) ≤ i := by omega
    have h3 := bl_len_le i m
    have h4 : (bl i m).length < 17592186044416 := by omega
    have e3 := shr_bit m i (lt62 hn hm) (by omega)
    rw [bl_step hi] at ih
    simp only [impl_setOf.l0, Ev.ite_iff, h2, h4, ↓reduceIte, w64_succ i (by omega), e3]
    by_cases c : shr .i64 (m : Int) (i : Int) = 0
    · rw [if_pos c, Ev.now_iff]
      rw [shr_nat m i (by omega)] at c
      have c' : m >>> i = 0 := by omega
      have hb : ∀ j, i ≤ j → m.testBit j = false := fun j hj => by
        have : (m >>> i).testBit (j - i) = false := by rw [c']; simp
        rw [Nat.testBit_shiftRight] at this
        rwa [show i + (j - i) = j by omega] at this
      refine asc_ext (bl_asc _ _) (bl_asc _ _) (fun x => ?_)
      rw [mem_bl, mem_bl]
      constructor
      · rintro ⟨j, h1, h2, rfl⟩; exact ⟨j, by omega, h2, rfl⟩
      · rintro ⟨j, h1, h2, rfl⟩
        refine ⟨j, ?_, h2, rfl⟩
        by_cases hj : i ≤ j
        · rw [hb j hj] at h2; cases h2
        · omega
    · rw [if_neg c]
      cases c2 : m.testBit i
      · rw [c2] at ih; simpa using ih
      · rw [c2] at ih; simpa using ih

/-- A row of numbers by places. -/
def rowF (n : Nat) (f : Nat → Int) : List Int := (List.range n).map f

theorem rowF_len (n : Nat) (f : Nat → Int) : (rowF n f).length = n := by simp [rowF]

theorem rowF_rd {n : Nat} {f : Nat → Int} {i : Nat} (h : i < n) : rd (rowF n f) i = f i := by simp [rd, rowF, h]

theorem rowF_set {n : Nat} {f : Nat → Int} {i : Nat} {v : Int} (_ : i < n) : (rowF n f).set i v = rowF n (fun x => if x = i then v else f x) := by
  apply List.ext_getElem
  · simp [rowF]
  · intro j h1 h2
    simp only [List.getElem_set, rowF, List.getElem_map, List.getElem_range]
    by_cases e : i = j
    · subst e; simp
    · simp [e, show ¬ j = i from fun h => e h.symm]

theorem rowF_ext {n : Nat} {f g : Nat → Int} (h : ∀ x, x < n → f x = g x) : rowF n f = rowF n g := by
  unfold rowF
  exact List.map_congr_left (fun x hx => h x (List.mem_range.1 hx))

/-- The ball of a node: what is reached by so many steps. -/
def ballM (es : List S100) (n x : Nat) : Nat → Nat
  | 0 => 2 ^ x
  | j + 1 => aroM es n (ballM es n x j)

theorem ballM_lt {es : List S100} {n x : Nat} (hx : x < n) : ∀ j, ballM es n x j < 2 ^ n
  | 0 => Nat.pow_lt_pow_right (by decide) hx
  | j + 1 => aroM_lt (ballM_lt hx j)

theorem ballM_mono {es : List S100} {n x j y : Nat} (h : (ballM es n x j).testBit y = true) : (ballM es n x (j + 1)).testBit y = true := (aroM_bit _ _ _ _).2 (.inl h)

theorem ballM_le {es : List S100} {n x y : Nat} {i : Nat} (h : (ballM es n x i).testBit y = true) : ∀ d, (ballM es n x (i + d)).testBit y = true
  | 0 => h
  | d + 1 => ballM_mono (ballM_le h d)

theorem ballM_stop {es : List S100} {n x i : Nat} (h : ballM es n x (i + 1) = ballM es n x i) : ∀ d, ballM es n x (i + d) = ballM es n x i
  | 0 => rfl
  | d + 1 => by
    have ih := ballM_stop h d
    show aroM es n (ballM es n x (i + d)) = _
    rw [ih]; exact h

theorem ball_l0 {es : List S100} {n x : Nat} (hn : n ≤ 8) (hx : x < n) : ∀ (r i : Nat), r < 1000 → Ev (fun k => impl_net_ball.l0 k r (ballM es n x i) (nets es n)) ((ballM es n x (i + r) : Nat) : Int)
  | 0, i, _ => by
    rw [Ev.iff_succ]
    simp [impl_net_ball.l0, Ev.now_iff]
  | r + 1, i, hr => by
    rw [Ev.iff_succ]
    simp only [impl_net_ball.l0]
    rw [Ev.ite_iff, if_pos (by omega), Ev.bind_iff (around_ev es n _ hn (ballM_lt hx i)), Ev.ite_iff]
    by_cases c : aroM es n (ballM es n x i) = ballM es n x i
    · rw [if_pos (by rw [c]), Ev.now_iff, ballM_stop c]
    · rw [if_neg (by omega), w64 (by omega) (by omega), show ((r + 1 : Nat) : Int) - 1 = (r : Int) by omega]
      have := ball_l0 hn hx r (i + 1) (by omega) (es := es)
      rw [show i + (r + 1) = i + 1 + r by omega]
      exact this

theorem ball_ev (es : List S100) (n x r : Nat) (hn : n ≤ 8) (hx : x < n) (hr : r < 1000) : Ev (fun k => impl_net_ball.f k (nets es n) x r) ((ballM es n x r : Nat) : Int) := by
  unfold impl_net_ball.f
  rw [Ev.ite_iff, if_pos (by omega), shl_one (by omega)]
  have := ball_l0 (es := es) hn hx r 0 hr
  rw [Nat.zero_add] at this
  exact this

/-- The step by which a node is reached, of those up to some one. -/
def lvD (es : List S100) (n x y : Nat) : Nat → Nat
  | 0 => 0
  | d + 1 => if (ballM es n x d).testBit y then lvD es n x y d else d + 1

theorem lvD_le {es : List S100} {n x y : Nat} : ∀ d, lvD es n x y d ≤ d
  | 0 => Nat.le_refl _
  | d + 1 => by
    unfold lvD
    have := lvD_le (es := es) (n := n) (x := x) (y := y) d
    split <;> omega

theorem lvD_eq {es : List S100} {n x y : Nat} : ∀ d, lvD es n x y d = d ↔ (d = 0 ∨ (ballM es n x (d - 1)).testBit y = false)
  | 0 => by simp [lvD]
  | d + 1 => by
    unfold lvD
    have := lvD_le (es := es) (n := n) (x := x) (y := y) d
    cases c : (ballM es n x d).testBit y
    · simp [c]
    · simp only [↓reduceIte, Nat.add_sub_cancel, c]; simp; omega

/-- A node of the ball lies at most so far. -/
theorem lvD_in {es : List S100} {n x y r : Nat} : ∀ d, (ballM es n x d).testBit y = true → (lvD es n x y d ≤ r ↔ r ≥ d ∨ (ballM es n x r).testBit y = true)
  | 0, _ => by simp [lvD]
  | d + 1, h => by
    unfold lvD
    cases c : (ballM es n x d).testBit y
    · simp only [Bool.false_eq_true, ↓reduceIte]
      constructor
      · intro h; exact .inl h
      · rintro (h | h)
        · exact h
        · by_cases e : d + 1 ≤ r
          · exact e
          · have := ballM_le h (d - r)
            rw [show r + (d - r) = d by omega, c] at this; cases this
    · simp only [↓reduceIte]
      rw [lvD_in d c]
      constructor
      · rintro (g | g)
        · right
          have := ballM_le c (r - d)
          rwa [show d + (r - d) = r by omega] at this
        · exact .inr g
      · rintro (g | g)
        · exact .inl (by omega)
        · exact .inr g

/-- The row of distances behind some steps. -/
def rowD (es : List S100) (n x d : Nat) (y : Nat) : Int := if (ballM es n x d).testBit y then (lvD es n x y d : Int) else -1

/-- The row within a step: p tells who is reached newly. -/
def rowP (es : List S100) (n x d : Nat) (p : Nat → Bool) (y : Nat) : Int := if (ballM es n x d).testBit y then (lvD es n x y d : Int) else if p y then (d : Int) + 1 else -1

def layD (es : List S100) (n x d y : Nat) : Bool := (ballM es n x d).testBit y && decide (lvD es n x y d = d)

def newP (es : List S100) (n x d : Nat) : Nat → Nat → Bool
  | 0, _ => false
  | y + 1, z => newP es n x d y z || (layD es n x d y && near es y z)

theorem newP_iff {es : List S100} {n x d z : Nat} : ∀ y, newP es n x d y z = true ↔ ∃ u, u < y ∧ layD es n x d u = true ∧ near es u z = true
  | 0 => by simp [newP]
  | y + 1 => by
    rw [newP, Bool.or_eq_true, Bool.and_eq_true, newP_iff y]
    constructor
    · rintro (⟨u, h, g⟩ | g)
      · exact ⟨u, by omega, g⟩
      · exact ⟨y, by omega, g⟩
    · rintro ⟨u, h, g⟩
      by_cases e : u = y
      · subst e; exact .inr g
      · exact .inl ⟨u, by omega, g⟩

theorem rowP_end {es : List S100} {n x d : Nat} (hx : x < n) : rowF n (rowP es n x d (newP es n x d n)) = rowF n (rowD es n x (d + 1)) := by
  refine rowF_ext (fun z hz => ?_)
  unfold rowP rowD
  cases c : (ballM es n x d).testBit z
  · have key : (ballM es n x (d + 1)).testBit z = newP es n x d n z := by
      rw [Bool.eq_iff_iff, newP_iff]
      show (aroM es n (ballM es n x d)).testBit z = true ↔ _
      rw [aroM_bit]
      constructor
      · rintro (h | ⟨u, h1, h2, h3⟩)
        · rw [c] at h; cases h
        · rw [nb_bit] at h3
          simp only [Bool.and_eq_true, decide_eq_true_eq] at h3
          refine ⟨u, h1, ?_, h3.2⟩
          unfold layD
          rw [h2, Bool.true_and, decide_eq_true_eq, lvD_eq]
          by_cases e : d = 0
          · exact .inl e
          · right
            cases g : (ballM es n x (d - 1)).testBit u
            · rfl
            · exfalso
              have : (ballM es n x (d - 1 + 1)).testBit z = true := (aroM_bit _ _ _ _).2 (.inr ⟨u, h1, g, by rw [nb_bit]; simp [hz, h3.2]⟩)
              rw [show d - 1 + 1 = d by omega, c] at this; cases this
      · rintro ⟨u, h1, h2, h3⟩
        unfold layD at h2
        rw [Bool.and_eq_true] at h2
        exact .inr ⟨u, h1, h2.1, by rw [nb_bit]; simp [hz, h3]⟩
    rw [key]
    simp only [Bool.false_eq_true, ↓reduceIte]
    cases newP es n x d n z
    · rfl
    · simp only [↓reduceIte, lvD, c, Bool.false_eq_true]; omega
  · have h1 : (ballM es n x (d + 1)).testBit z = true := ballM_mono c
    simp only [h1, ↓reduceIte, lvD, c]

theorem rowP_begin {es : List S100} {n x d : Nat} : rowF n (rowD es n x d) = rowF n (rowP es n x d (newP es n x d 0)) := by
  refine rowF_ext (fun z _ => ?_)
  unfold rowP rowD
  simp [newP]

def distL (es : List S100) (n : Nat) : List (List Int) := (List.range n).map (fun x => rowF n (rowD es n x n))

end Go.Proofs.Ytbhkimopcliepaa.QIsFarSet
