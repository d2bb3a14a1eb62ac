import Derived.Test.YtaddgielnfhhpaaQBestFirePlan0
import Derived.Test.YtaddgielnfhhpaaQBestFirePlan1
import Derived.Test.YtaddgielnfhhpaaQBestFirePlan12
import Derived.Test.YtaddgielnfhhpaaQBestFirePlan13
import Derived.Test.YtaddgielnfhhpaaQBestFirePlan14
import Derived.Test.YtaddgielnfhhpaaQBestFirePlan2
import Derived.Test.YtaddgielnfhhpaaQBestFirePlan3
import Derived.Test.YtaddgielnfhhpaaQBestFirePlan5
import Derived.Test.YtaddgielnfhhpaaQBestFirePlan8
import Derived.Test.YtaddgielnfhhpaaQBestFirePlanA0
namespace Go.Proofs.Ytaddgielnfhhpaa.QBestFirePlan
open Go.RowKit Go.Proofs.YtaddgielnfhhpaaW.PrintWords Go.Proofs.YtaddgielnfhhpaaW.PrintLast Go.Proofs.YtaddgielnfhhpaaW.PrintMore
attribute [local go_sem] max2_int min2_int max_two min_two max_three min_three max_four min_four   -- for this text's walks alone
set_option linter.unusedVariables false
set_option linter.unusedSimpArgs false
theorem shr_bit (a x : Nat) (ha : a < 2 ^ 62) (h : x < 62) : Go.bits .and .i64 (shr .i64 (a : Int) (x : Int)) 1 = if a.testBit x then 1 else 0 := by
 have h1 : a >>> x < 2 ^ 62 := Nat.lt_of_le_of_lt (Nat.shiftRight_le a x) ha
 rw [shr_nat a x h, show (1 : Int) = ((1 : Nat) : Int) from rfl, gand _ _ h1 (by decide)]
 simp only [Nat.testBit, bne_iff_ne, ne_eq]
 rw [Nat.and_comm 1, Nat.and_one_is_mod]
 have := Nat.mod_two_eq_zero_or_one (a >>> x)
 rcases this with h | h <;> simp [h]

theorem mask_all (n : Nat) (h : n ≤ 8) : wrap64 (shl .i64 1 (n : Int) - 1) = ((2 ^ n - 1 : Nat) : Int) := by
 rw [shl_one (by omega)]
 have h1 := p8 h
 have h2 : 0 < 2 ^ n := Nat.two_pow_pos n
 rw [w64 (by omega) (by omega)]
 omega

theorem fold_range_succ {α : Type} (n : Nat) (f : α → Nat → α) (a : α) : (List.range (n + 1)).foldl f a = f ((List.range n).foldl f a) n := by
 rw [List.range_succ, List.foldl_append];rfl

theorem l1Own_eq {l : List Int} (h : l.length < 17592186044416) : spec_l1Own.f l = some l := by simp [spec_l1Own.f, h]

theorem l1Put_bl {n m i : Nat} (hn : n ≤ 8) (hi : i < n) : spec_l1Put.f (bl n m) (i : Int) = some (bl n (m ||| 2 ^ i)) := by
 have := bl_len_le n m
 rw [spec_l1Put.f, if_pos (by omega), ins_bl hi]

theorem cnt_mono {p q : Nat → Bool} : ∀ n, (∀ i, i < n → p i = true → q i = true) → ((List.range n).filter p).length ≤ ((List.range n).filter q).length ∧
  (((List.range n).filter q).length ≤ ((List.range n).filter p).length → ∀ i, i < n → q i = true → p i = true)
 | 0, _ => ⟨Nat.le_refl _, fun _ i hi => by omega⟩
 | n + 1, h => by
  obtain ⟨h1, h2⟩ := cnt_mono n (fun i hi => h i (by omega))
  have h3 := h n (by omega)
  rw [filter_range_succ, filter_range_succ, List.length_append, List.length_append]
  cases hp : p n <;> cases hq : q n
  ·simp only [Bool.false_eq_true, ↓reduceIte, List.length_nil, Nat.add_zero]
   refine ⟨h1, fun hle i hi hqi => ?_⟩
   by_cases e : i = n
   ·subst e;rw [hq] at hqi;cases hqi
   ·exact h2 hle i (by omega) hqi
  ·simp only [Bool.false_eq_true, ↓reduceIte, List.length_nil, Nat.add_zero, List.length_cons]
   exact ⟨by omega, fun hle => by omega⟩
  ·rw [h3 hp] at hq;cases hq
  ·simp only [↓reduceIte, List.length_cons, List.length_nil]
   refine ⟨by omega, fun hle i hi hqi => ?_⟩
   by_cases e : i = n
   ·subst e;exact hp
   ·exact h2 (by omega) i (by omega) hqi

theorem bl_len (n m : Nat) : (bl n m).length = ((List.range n).filter (fun x => m.testBit x)).length := by simp [bl]

/-- A set that holds another one and has no more nodes is that one. -/
theorem sub_len {n a b : Nat} (ha : a < 2 ^ n) (hb : b < 2 ^ n) (h : ∀ i, i < n → a.testBit i = true → b.testBit i = true) (hl : (bl n b).length ≤ (bl n a).length) : b = a := by
 rw [bl_len, bl_len] at hl
 have h2 := (cnt_mono n h).2 hl
 exact mask_ext hb ha (fun i hi => by rw [Bool.eq_iff_iff];exact ⟨h2 i hi, h i hi⟩)

/-- A set and its neighbors. -/
def aStep (es : List S80) (n m : Nat) (acc x : Nat) : Nat := if m.testBit x then acc ||| nb es n x else acc

def aroM (es : List S80) (n m : Nat) : Nat := (List.range n).foldl (aStep es n m) m

theorem aStep_lt {es : List S80} {n m acc x : Nat} (h : acc < 2 ^ n) : aStep es n m acc x < 2 ^ n := by
 unfold aStep;split
 ·exact Nat.or_lt_two_pow h (nb_lt _ _ _)
 ·exact h

theorem aFold_lt {es : List S80} {n m acc : Nat} (h : acc < 2 ^ n) : ∀ i, (List.range i).foldl (aStep es n m) acc < 2 ^ n
 | 0 => h
 | i + 1 => by rw [fold_range_succ];exact aStep_lt (aFold_lt h i)

theorem aroM_lt {es : List S80} {n m : Nat} (h : m < 2 ^ n) : aroM es n m < 2 ^ n := aFold_lt h n

theorem aFold_bit (es : List S80) (n m acc y : Nat) : ∀ i, ((List.range i).foldl (aStep es n m) acc).testBit y = true ↔ acc.testBit y = true ∨ ∃ x, x < i ∧ m.testBit x = true ∧ (nb es n x).testBit y = true
 | 0 => by simp
 | i + 1 => by
  rw [fold_range_succ]
  have ih := aFold_bit es n m acc y i
  generalize (List.range i).foldl (aStep es n m) acc = b at ih ⊢
  unfold aStep
  have key : (∃ x, x < i + 1 ∧ m.testBit x = true ∧ (nb es n x).testBit y = true) ↔ (∃ x, x < i ∧ m.testBit x = true ∧ (nb es n x).testBit y = true) ∨ (m.testBit i = true ∧ (nb es n i).testBit y = true) := by
   constructor
   ·rintro ⟨x, h1, h2⟩
    by_cases e : x = i
    ·subst e;exact .inr h2
    ·exact .inl ⟨x, by omega, h2⟩
   ·rintro (⟨x, h1, h2⟩ | h2)
    ·exact ⟨x, by omega, h2⟩
    ·exact ⟨i, by omega, h2⟩
  rw [key]
  by_cases c : m.testBit i = true
  ·rw [if_pos c, Nat.testBit_or, Bool.or_eq_true, ih];simp only [c, true_and, or_assoc]
  ·rw [if_neg c, ih];simp only [c, false_and, or_false];simp

theorem aroM_bit (es : List S80) (n m y : Nat) : (aroM es n m).testBit y = true ↔ m.testBit y = true ∨ ∃ x, x < n ∧ m.testBit x = true ∧ (nb es n x).testBit y = true := aFold_bit es n m m y n

theorem around_ev (es : List S80) (n m : Nat) (hn : n ≤ 8) (hm : m < 2 ^ n) : Ev (fun k => impl_net_around.f k (nets es n) m) ((aroM es n m : Nat) : Int) := by
 have H := down n (fun i => Ev (fun k => impl_net_around.l0 k m (((List.range i).foldl (aStep es n m) m : Nat) : Int) (nets es n) n i) ((aroM es n m : Nat) : Int)) ?_ ?_ 0 (by omega)
 ·simpa [impl_net_around.f, nets_len] using H
 ·show Ev _ _
  rw [Ev.iff_succ]
  simp [impl_net_around.l0, Ev.now_iff, aroM]
 ·intro i hi ih
  show Ev _ _
  rw [Ev.iff_succ]
  have h1 : (i : Int) < (n : Int) := by omega
  have h2 : (0 : Int) ≤ i := by omega
  have h3 : (i : Int) < ((nets es n).length : Int) := by rw [nets_len];omega
  have hacc := aFold_lt (es := es) (m := m) hm i
  have hb := nb_lt es n i
  have e2 : ∀ acc : Nat, acc < 2 ^ n → Go.bits .or .i64 (acc : Int) ((nb es n i : Nat) : Int) = ((acc ||| nb es n i : Nat) : Int) := fun acc ha => gor _ _ (lt62 hn ha) (lt62 hn hb)
  rw [fold_range_succ] at ih
  generalize (List.range i).foldl (aStep es n m) m = acc at hacc ih ⊢
  unfold aStep at ih
  have e3 := shr_bit m i (lt62 hn hm) (by omega)
  simp only [impl_net_around.l0, Ev.ite_iff, h1, h2, h3, ↓reduceIte, w64_succ i (by omega), nets_rd hi, e3, e2 acc hacc]
  cases c : m.testBit i
  ·rw [c] at ih;simpa using ih
  ·rw [c] at ih;simpa using ih

theorem rd_bl {n m j : Nat} (h : j < (bl n m).length) : ∃ y, y < n ∧ m.testBit y = true ∧ (bl n m)[j] = (y : Int) := by
 obtain ⟨y, h1, h2, h3⟩ := mem_bl.1 (List.getElem_mem h)
 exact ⟨y, h1, h2, h3⟩

theorem u64_wrap_id (m : Nat) (h : m < 2 ^ 62) : IntKind.u64.wrap (m : Int) = (m : Int) := by rw [IntKind.wrap_u64]; omega

theorem ones_small : ∀ n : Nat, n ≤ 8 → ∀ m : Nat, m < 2 ^ n → bits_OnesCount.f (m : Int) = some (((bl n m).length : Nat) : Int) := by decide +kernel

theorem ones_bl {n m : Nat} (hn : n ≤ 8) (hm : m < 2 ^ n) : bits_OnesCount.f (IntKind.u64.wrap (m : Int)) = some (((bl n m).length : Nat) : Int) := by
 rw [u64_wrap_id m (lt62 hn hm), ones_small n hn m hm]

theorem set_fill {α : Type} (l : List α) (z : α) (i : Nat) (h : i < l.length) : (l.take i ++ List.replicate (l.length - i) z).set i l[i] = l.take (i + 1) ++ List.replicate (l.length - (i + 1)) z := by
 rw [List.take_succ_eq_append_getElem h, show l.length - i = (l.length - (i + 1)) + 1 by omega, List.replicate_succ]
 have h1 : (l.take i).length = i := by rw [List.length_take];omega
 rw [List.set_append_right _ _ (by omega), h1, Nat.sub_self, List.set_cons_zero, List.append_assoc]
 rfl

theorem toIntA2_eq (a b : Int) : laws_toIntA2.f a b = some (a, b) := rfl

theorem toIntA2S_ev (l : List S80) (hl : l.length ≤ 17592186044416) : Ev (fun k => laws_toIntA2S.f k l) l := by
 unfold laws_toIntA2S.f
 rw [Ev.ite_iff, if_pos (by omega), Ev.ite_iff, if_pos (by omega), Int.toNat_natCast]
 have H := down l.length (fun i => Ev (fun k => laws_toIntA2S.l0 k l (l.take i ++ List.replicate (l.length - i) z80) i) l) ?_ ?_ 0 (by omega)
 ·simpa using H
 ·show Ev _ _
  rw [Ev.iff_succ]
  simp [laws_toIntA2S.l0, Ev.now_iff]
 ·intro i hi ih
  show Ev _ _
  rw [Ev.iff_succ]
  have h1 : (i : Int) < l.length := by omega
  have h2 : (0 : Int) ≤ i := by omega
  have h3 : (i : Int) < ((l.take i ++ List.replicate (l.length - i) z80).length : Int) := by
   rw [List.length_append, List.length_take, List.length_replicate];omega
  have h4 : rd_T80 l i = l[i] := by simp [rd_T80, hi]
  simp only [laws_toIntA2S.l0, Ev.ite_iff, h1, h2, ↓reduceIte, toIntA2_eq, Option.bind_some, h3, w64_succ i (by omega), h4, Int.toNat_natCast]
  rw [set_fill l _ i hi]
  exact ih

theorem toGraph_ev (n : Int) (es : List S80) (hl : es.length ≤ 17592186044416) : Ev (fun k => laws_toGraph.f k n es) (n, es) := by
 unfold laws_toGraph.f
 rw [Ev.bind_iff (toIntA2S_ev es hl), Ev.now_iff]

theorem eqIntS_refl (l : List Int) (hl : l.length ≤ 9223372036854775807) : Ev (fun k => laws_eqIntS.f k l l) true := by
 unfold laws_eqIntS.f
 rw [Ev.ite_iff, if_pos rfl]
 have H := down l.length (fun i => Ev (fun k => laws_eqIntS.l0 k l l i) true) ?_ ?_ 0 (by omega)
 ·simpa using H
 ·show Ev _ _
  rw [Ev.iff_succ]
  simp [laws_eqIntS.l0, Ev.now_iff]
 ·intro i hi ih
  show Ev _ _
  rw [Ev.iff_succ]
  have h1 : (i : Int) < l.length := by omega
  have h2 : (0 : Int) ≤ i := by omega
  simp only [laws_eqIntS.l0, Ev.ite_iff, h1, h2, ↓reduceIte, w64_succ i (by omega)]
  exact ih

theorem eqIntA2_refl (a b : Int) : laws_eqIntA2.f a b a b = some true := by simp [laws_eqIntA2.f]

theorem eqGraph_refl (n : Int) (es : List S80) (hl : es.length ≤ 9223372036854775807) : Ev (fun k => laws_eqGraph.f k n es n es) true := by
 have H0 : Ev (fun k => laws_eqIntA2S.f k es es) true := by
  unfold laws_eqIntA2S.f
  rw [Ev.ite_iff, if_pos rfl]
  have H := down es.length (fun i => Ev (fun k => laws_eqIntA2S.l0 k es es i) true) ?_ ?_ 0 (by omega)
  ·simpa using H
  ·show Ev _ _
   rw [Ev.iff_succ]
   simp [laws_eqIntA2S.l0, Ev.now_iff]
  ·intro i hi ih
   show Ev _ _
   rw [Ev.iff_succ]
   have h1 : (i : Int) < es.length := by omega
   have h2 : (0 : Int) ≤ i := by omega
   simp only [laws_eqIntA2S.l0, Ev.ite_iff, h1, h2, ↓reduceIte, w64_succ i (by omega), eqIntA2_refl, Option.bind_some]
   exact ih
 unfold laws_eqGraph.f
 rw [Ev.ite_iff, if_pos rfl, Ev.bind_iff H0, Ev.ite_iff, if_pos rfl, Ev.now_iff]

theorem szGraph_eq (n : Int) (es : List S80) (hl : es.length ≤ 9223372036854775807) : laws_szGraph.f n es 1048576 = some (if es.length ≤ 1048576 then 1048576 - (es.length : Int) else -1) := by
 unfold laws_szGraph.f laws_szIntA2S.f
 rw [w64 (by omega) (by omega)]
 by_cases h : es.length ≤ 1048576
 ·rw [if_neg (by omega), if_pos h, Option.bind_some, if_neg (by omega)]
 ·rw [if_pos (by omega), if_neg h, Option.bind_some, if_pos (by omega)]

theorem l2Good_eq (n : Int) (es : List S80) : spec_l2Good.f n es = some (okG n es) := rfl

theorem IsGraph_eq (n : Int) (es : List S80) : impl_IsGraph.f n es = some (okG n es) := rfl

theorem hasNodes_ev (n : Int) (es : List S80) (l : List Int) (hl : l.length ≤ 9223372036854775807) : Ev (fun k => impl_hasNodes.f k n es l) (okG n es && allIn 0 (wrap64 (n - 1)) l) := by
 unfold impl_hasNodes.f
 rw [IsGraph_eq]
 simp only [Option.bind_some, Ev.ite_iff]
 split
 ·rename_i h
  rw [Ev.bind_iff (allWithin_ev l 0 _ hl), Ev.now_iff, h, Bool.true_and]
 ·rename_i h
  rw [Ev.now_iff, Bool.eq_false_iff.2 h, Bool.false_and]

theorem maskOf_ev (l : List Int) (hl : l.length ≤ 9223372036854775807) (h : ∀ x ∈ l, 0 ≤ x ∧ x < 8) : Ev (fun k => impl_maskOf.f k l) ((mL l : Nat) : Int) := by
 have hm : ∀ s : List Int, (∀ x ∈ s, 0 ≤ x ∧ x < 8) → mL s < 2 ^ 8 := fun s hs => mL_lt (n := 8) hs
 have H := down l.length (fun i => ∀ acc : Nat, acc < 2 ^ 8 → Ev (fun k => impl_maskOf.l0 k acc l l.length i) ((acc ||| mL (l.drop i) : Nat) : Int)) ?_ ?_ 0 (by omega) 0 (by decide)
 ·simpa [impl_maskOf.f] using H
 ·intro acc _
  rw [Ev.iff_succ]
  simp [impl_maskOf.l0, Ev.now_iff, mL]
 ·intro i hi ih acc ha
  rw [Ev.iff_succ]
  have h1 : (i : Int) < l.length := by omega
  have h2 : (0 : Int) ≤ i := by omega
  have hx := h l[i] (List.getElem_mem hi)
  obtain ⟨a, s, e1, e2, e3, e4⟩ := dropc l i hi
  rw [e4] at hx
  obtain ⟨x, rfl⟩ : ∃ x : Nat, a = x := ⟨a.toNat, by omega⟩
  have hp : 2 ^ x < 2 ^ 8 := Nat.pow_lt_pow_right (by decide) (by omega)
  have h62 : ∀ {c : Nat}, c < 2 ^ 8 → c < 2 ^ 62 := fun h => by omega
  simp only [impl_maskOf.l0, Ev.ite_iff, h1, h2, hx.1, ↓reduceIte, w64_succ i (by omega), e3]
  rw [shl_one (by omega), gor _ _ (h62 ha) (h62 hp)]
  have := ih (acc ||| 2 ^ x) (Nat.or_lt_two_pow ha hp)
  rw [e2] at this
  rw [e1, mL, Int.toNat_natCast, ← Nat.or_assoc]
  exact this

theorem all_eq {es : List S80} {n : Nat} (h : n ≤ 8) : impl_net_all.f (nets es n) = some ((2 ^ n - 1 : Nat) : Int) := by
 unfold impl_net_all.f
 rw [nets_len, mask_all n h]

/-- Numbers one behind the other. -/
def upF (a : Int) (c : Nat) : List Int := (List.range c).map (fun i : Nat => a + (i : Int))

theorem upF_len (a : Int) (c : Nat) : (upF a c).length = c := by simp [upF]

theorem upF_succ (a : Int) (c : Nat) : upF a (c + 1) = upF a c ++ [a + (c : Int)] := by simp [upF, List.range_succ]

theorem upF_rd {a : Int} {c i : Nat} (h : i < c) : rd (upF a c) i = a + (i : Int) := by rw [rd_lt _ i (by rw [upF_len]; exact h)]; simp [upF]

theorem markIntS_ev (l : List Int) (a : Int) (ha : 0 ≤ a) (h : a + l.length < 9223372036854775807) : Ev (fun k => laws_markIntS.f k l a) (a + (l.length : Int), upF a l.length) := by
 have H := down l.length (fun i => Ev (fun k => laws_markIntS.l0 k (upF a i ++ l.drop i) (a + (i : Int)) i) (a + (l.length : Int), upF a l.length)) ?_ ?_ 0 (by omega)
 ·simpa [laws_markIntS.f, upF] using H
 ·show Ev _ _
  rw [Ev.iff_succ]
  simp [laws_markIntS.l0, Ev.now_iff, upF_len]
 ·intro i hi ih
  show Ev _ _
  rw [Ev.iff_succ]
  have h0 : ((upF a i ++ l.drop i).length : Int) = l.length := by rw [List.length_append, upF_len, List.length_drop];omega
  have h1 : (i : Int) < l.length := by omega
  have h2 : (0 : Int) ≤ i := by omega
  have h3 : (upF a i ++ l.drop i).set i (a + (i : Int)) = upF a (i + 1) ++ l.drop (i + 1) := by
   rw [List.drop_eq_getElem_cons hi, List.set_append_right _ _ (by rw [upF_len];omega), upF_len, Nat.sub_self, List.set_cons_zero, upF_succ, List.append_assoc];rfl
  have h4 : wrap64 (a + (i : Int) + 1) = a + ((i + 1 : Nat) : Int) := by rw [w64] <;> omega
  simp only [laws_markIntS.l0, Ev.ite_iff, h0, h1, h2, ↓reduceIte, w64_succ i (by omega), Int.toNat_natCast, h3, h4]
  exact ih

theorem heldIntS_ev (a : Int) (c : Nat) (ha : 0 ≤ a) (h : a + c < 9223372036854775807) : Ev (fun k => laws_heldIntS.f k (upF a c) a) (a + (c : Int)) := by
 have H := down c (fun i => Ev (fun k => laws_heldIntS.l0 k (upF a c) (a + (i : Int)) i) (a + (c : Int))) ?_ ?_ 0 (by omega)
 ·simpa [laws_heldIntS.f] using H
 ·show Ev _ _
  rw [Ev.iff_succ]
  simp [laws_heldIntS.l0, Ev.now_iff, upF_len]
 ·intro i hi ih
  show Ev _ _
  rw [Ev.iff_succ]
  have h1 : (i : Int) < (c : Int) := by omega
  have h2 : (0 : Int) ≤ i := by omega
  have h4 : wrap64 (a + (i : Int) + 1) = a + ((i + 1 : Nat) : Int) := by rw [w64] <;> omega
  simp only [laws_heldIntS.l0, Ev.ite_iff, upF_len, h1, h2, ↓reduceIte, w64_succ i (by omega), upF_rd hi, h4]
  exact ih

theorem markIntA2S_l0 (M : Int) (hM : M = 9223372036854775807) (d : Nat) : ∀ (l : List S80) (a : Int) (i : Nat), l.length = i + d → (l.length : Int) < M → 0 ≤ a → a + 2 * (d : Int) < M → ∃ r, laws_markIntA2S.l0 (d + 1) l a i = some (a + 2 * (d : Int), r) := by
 induction d with
 | zero =>
  intro l a i h _ _ _
  refine ⟨l, ?_⟩
  rw [laws_markIntA2S.l0, if_neg (by omega)]
  simp
 | succ d ih =>
  intro l a i h hl h0 h1
  have e1 : wrap64 (a + 1) = a + 1 := by rw [w64] <;> omega
  have e2 : wrap64 (a + 1 + 1) = a + 1 + 1 := by rw [w64] <;> omega
  have e3 : (i : Int) < (l.length : Int) := by omega
  have e4 : (0 : Int) ≤ i := by omega
  rw [laws_markIntA2S.l0, if_pos e3, if_pos e4, e1, e2, w64_succ i (by omega)]
  obtain ⟨r, hr⟩ := ih (l.set (i : Int).toNat ⟨a, a + 1⟩) (a + 1 + 1) (i + 1) (by rw [List.length_set];omega) (by rw [List.length_set];exact hl) (by omega) (by omega)
  exact ⟨r, by rw [hr];congr 2;omega⟩

theorem markGraph_eq (n : Int) (l : List S80) (a : Int) (ha : 0 ≤ a) (h : a + 2 * (l.length : Int) < 9223372036854775807) : ∃ r, laws_markGraph.f n l a = some (a + 2 * (l.length : Int), r) := by
 obtain ⟨r, hr⟩ := markIntA2S_l0 _ rfl l.length l a 0 (by omega) (by omega) ha h
 exact ⟨r, by simp only [laws_markGraph.f, laws_markIntA2S.f];rw [show ((0 : Nat) : Int) = 0 from rfl] at hr;rw [hr];rfl⟩

theorem setOf_ev (n m : Nat) (hn : n ≤ 8) (hm : m < 2 ^ n) : Ev (fun k => impl_setOf.f k m) (bl n m) := by
 obtain ⟨t, ht⟩ : ∃ t, t = 9 := ⟨_, rfl⟩
 have hs : ∀ i, n ≤ i → m >>> i = 0 := fun i hi => by
  rw [Nat.shiftRight_eq_div_pow];exact Nat.div_eq_of_lt (Nat.lt_of_lt_of_le hm (Nat.pow_le_pow_right (by decide) hi))
 have H := down n (fun i => Ev (fun k => impl_setOf.l0 k m (bl i m) i) (bl n m)) ?_ ?_ 0 (by omega)
 ·simpa [impl_setOf.f, bl] using H
 ·show Ev _ _
  rw [Ev.iff_succ]
  have h2 : (0 : Int) ≤ n := by omega
  simp [impl_setOf.l0, Ev.now_iff, h2, shr_nat m n (by omega), hs n (Nat.le_refl _)]
 ·intro i hi ih
  show Ev _ _
  rw [Ev.iff_succ]
  have h2 : (0 : Int) ≤ i := by omega
  have h3 := bl_len_le i m
  have h4 : (bl i m).length < 17592186044416 := by omega
  have e3 := shr_bit m i (lt62 hn hm) (by omega)
  rw [bl_step hi] at ih
  simp only [impl_setOf.l0, Ev.ite_iff, h2, h4, ↓reduceIte, w64_succ i (by omega), e3]
  by_cases c : shr .i64 (m : Int) (i : Int) = 0
  ·rw [if_pos c, Ev.now_iff]
   rw [shr_nat m i (by omega)] at c
   have c' : m >>> i = 0 := by omega
   have hb : ∀ j, i ≤ j → m.testBit j = false := fun j hj => by
    have : (m >>> i).testBit (j - i) = false := by rw [c'];simp
    rw [Nat.testBit_shiftRight] at this
    rwa [show i + (j - i) = j by omega] at this
   refine asc_ext (bl_asc _ _) (bl_asc _ _) (fun x => ?_)
   rw [mem_bl, mem_bl]
   constructor
   ·rintro ⟨j, h1, h2, rfl⟩;exact ⟨j, by omega, h2, rfl⟩
   ·rintro ⟨j, h1, h2, rfl⟩
    refine ⟨j, ?_, h2, rfl⟩
    by_cases hj : i ≤ j
    ·rw [hb j hj] at h2;cases h2
    ·omega
  ·rw [if_neg c]
   cases c2 : m.testBit i
   ·rw [c2] at ih;simpa using ih
   ·rw [c2] at ih;simpa using ih

theorem l1Least_eq (a b : Int) : spec_l1Least.f a b = some (if a < b then a else b) := by unfold spec_l1Least.f; split <;> rfl

theorem okG_use {n : Int} {es : List S80} (h : okG n es = true) : ∃ N : Nat, n = N ∧ N ≤ 8 := by
 simp only [okG, Bool.and_eq_true, decide_eq_true_eq] at h
 exact ⟨n.toNat, by omega, by omega⟩

/-- All ways to choose so many of a list, in order. -/
def cho : List Int → Nat → List (List Int)
 | _, 0 => [[]]
 | [], _ + 1 => []
 | x :: s, k + 1 => (cho s k).map (fun t => x :: t) ++ cho s (k + 1)

theorem cho_zero (l : List Int) : cho l 0 = [[]] := by cases l <;> rfl

theorem cho_cons (x : Int) (s : List Int) (k : Nat) : cho (x :: s) (k + 1) = (cho s k).map (fun t => x :: t) ++ cho s (k + 1) := rfl

theorem cho_nil : ∀ (l : List Int) (k : Nat), l.length < k → cho l k = []
 | [], k + 1, _ => rfl
 | x :: s, k + 1, h => by
  rw [cho_cons, cho_nil s k (by simp at h;omega), cho_nil s (k + 1) (by simp at h;omega)];rfl
 | l, 0, h => by omega

theorem cho_len : ∀ (l : List Int) (k : Nat), (cho l k).length ≤ 2 ^ l.length
 | l, 0 => by rw [cho_zero];exact Nat.one_le_two_pow
 | [], k + 1 => by simp [cho]
 | x :: s, k + 1 => by
  rw [cho_cons, List.length_append, List.length_map, List.length_cons, Nat.pow_succ]
  have := cho_len s k;have := cho_len s (k + 1);omega

theorem cho_mem_len : ∀ (l : List Int) (k : Nat), ∀ t ∈ cho l k, t.length = k
 | l, 0 => by rw [cho_zero];simp
 | [], k + 1 => by simp [cho]
 | x :: s, k + 1 => by
  rw [cho_cons]
  intro t ht
  rcases List.mem_append.1 ht with h | h
  ·obtain ⟨u, hu, rfl⟩ := List.mem_map.1 h
   rw [List.length_cons, cho_mem_len s k u hu]
  ·exact cho_mem_len s (k + 1) t h

theorem cho_mem_in : ∀ (l : List Int) (k : Nat), ∀ t ∈ cho l k, ∀ x ∈ t, x ∈ l
 | l, 0 => by rw [cho_zero];simp
 | [], k + 1 => by simp [cho]
 | x :: s, k + 1 => by
  rw [cho_cons]
  intro t ht y hy
  rcases List.mem_append.1 ht with h | h
  ·obtain ⟨u, hu, rfl⟩ := List.mem_map.1 h
   rcases List.mem_cons.1 hy with e | e
   ·simp [e]
   ·simp [cho_mem_in s k u hu y e]
  ·simp [cho_mem_in s (k + 1) t h y hy]

theorem rdL2_lt (l : List (List Int)) (i : Nat) (h : i < l.length) : rd_L2 l (i : Int) = l[i] := by simp [rd_L2, h]

end Go.Proofs.Ytaddgielnfhhpaa.QBestFirePlan
