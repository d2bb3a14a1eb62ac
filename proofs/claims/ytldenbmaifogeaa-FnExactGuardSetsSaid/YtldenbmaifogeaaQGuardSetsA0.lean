import Derived.Test.YtldenbmaifogeaaQGuardSets0
import Derived.Test.YtldenbmaifogeaaQGuardSets1
import Derived.Test.YtldenbmaifogeaaQGuardSets2
import Derived.Test.YtldenbmaifogeaaQGuardSets3
import Derived.Test.YtldenbmaifogeaaQGuardSets4
import Derived.Test.YtldenbmaifogeaaQGuardSets5
import Derived.Test.YtldenbmaifogeaaQGuardSets6
import Derived.Laws.BitsLemmas
namespace Go.Proofs.Ytldenbmaifogeaa.QGuardSets
open Go.RowKit Go.Proofs.YtldenbmaifogeaaW.PrintWords Go.Proofs.YtldenbmaifogeaaW.PrintLast Go.Proofs.YtldenbmaifogeaaW.PrintMore
attribute [local go_sem] max2_int min2_int max_two min_two max_three min_three max_four min_four   -- for this text's walks alone
set_option linter.unusedVariables false
set_option linter.unusedSimpArgs false
theorem Ev.iff_succ {α : Type} {g : Nat → Option α} {r : α} : Ev g r ↔ Ev (fun k => g (k + 1)) r := by
  constructor
  · rintro ⟨K, h⟩; exact ⟨K, fun k hk => h _ (by omega)⟩
  · rintro ⟨K, h⟩
    refine ⟨K + 1, fun k hk => ?_⟩
    obtain ⟨j, rfl⟩ : ∃ j, k = j + 1 := ⟨k - 1, by omega⟩
    exact h j (by omega)

theorem Ev.now_iff {α : Type} {x r : α} : Ev (fun _ => some x) r ↔ x = r := by
  constructor
  · rintro ⟨K, h⟩; exact Option.some.inj (h K (Nat.le_refl _))
  · rintro rfl; exact Ev.now _

theorem Ev.bind_iff {α β : Type} {g : Nat → Option α} {f : Nat → α → Option β} {a : α} {r : β} (h : Ev g a) : Ev (fun n => (g n).bind (f n)) r ↔ Ev (fun n => f n a) r := by
  constructor
  · rintro ⟨K, hk⟩
    obtain ⟨J, hj⟩ := h
    refine ⟨K + J, fun k hk' => ?_⟩
    have := hk k (by omega)
    simp only [hj k (by omega), Option.bind_some] at this
    exact this
  · exact Ev.bind h

theorem Ev.ite_iff {α : Type} {c : Prop} [Decidable c] {a b : Nat → Option α} {r : α} : Ev (fun k => if c then a k else b k) r ↔ if c then Ev a r else Ev b r := by
  by_cases h : c <;> simp [h]

theorem rd_lt (l : List Int) (i : Nat) (h : i < l.length) : rd l (i : Int) = l[i] := by simp [rd, h]

theorem w64_succ (i : Nat) (h : i < 9223372036854775807) : wrap64 ((i : Int) + 1) = ((i + 1 : Nat) : Int) := by rw [w64] <;> omega

/-- Downwards: from the end of a loop to its begin. -/
theorem down (n : Nat) (P : Nat → Prop) (h0 : P n) (h1 : ∀ i, i < n → P (i + 1) → P i) : ∀ i, i ≤ n → P i := by
  intro i hi
  obtain ⟨d, hd⟩ : ∃ d, d = n - i := ⟨_, rfl⟩
  induction d generalizing i with
  | zero => obtain rfl : i = n := by omega
            exact h0
  | succ d ih => exact h1 i (by omega) (ih (i + 1) (by omega) (by omega))

theorem within_eq (a b c : Int) : impl_within.f a b c = some (decide (b ≤ a ∧ a ≤ c)) := by
  unfold impl_within.f
  by_cases h : a ≥ b
  · rw [if_pos h]; simp; omega
  · rw [if_neg h]; simp; omega

/-- Numbers strictly ascending, behind one that may stand ahead. -/
def ascB : Option Int → List Int → Bool
  | _, [] => true
  | p, a :: s => p.all (fun q => decide (q < a)) && ascB (some a) s

theorem i64_wrap_id (n : Int) (h0 : 0 ≤ n) (h1 : n < 2 ^ 62) : IntKind.i64.wrap n = n := by rw [IntKind.wrap_i64]; omega

theorem gand (a b : Nat) (ha : a < 2 ^ 62) (hb : b < 2 ^ 62) : Go.bits .and .i64 (a : Int) (b : Int) = ((a &&& b : Nat) : Int) :=
  (bits_nat .i64 62 (by decide) i64_wrap_id a b ha hb).1

theorem p8 {n : Nat} (h : n ≤ 8) : 2 ^ n ≤ 256 := Nat.pow_le_pow_right (by decide) h

/-- The nodes of a set, ascending. -/
def bl (n m : Nat) : List Int := ((List.range n).filter (fun x => m.testBit x)).map (fun x => Int.ofNat x)

theorem mem_bl {n m : Nat} {x : Int} : x ∈ bl n m ↔ ∃ i, i < n ∧ m.testBit i = true ∧ x = (i : Int) := by
  simp only [bl, List.mem_map, List.mem_filter, List.mem_range]
  constructor
  · rintro ⟨i, ⟨h1, h2⟩, rfl⟩; exact ⟨i, h1, h2, rfl⟩
  · rintro ⟨i, h1, h2, rfl⟩; exact ⟨i, ⟨h1, h2⟩, rfl⟩

theorem bl_len_le (n m : Nat) : (bl n m).length ≤ n := by
  simp only [bl, List.length_map]
  exact Nat.le_trans (List.length_filter_le _ _) (by simp)

/-- Ascending lists of the same numbers are one. -/
theorem asc_lt : ∀ {l : List Int} {a : Int}, ascB (some a) l = true → ∀ x ∈ l, a < x
  | [], _, _, x, hx => by cases hx
  | b :: l, a, h, x, hx => by
    simp only [ascB, Option.all_some, Bool.and_eq_true, decide_eq_true_eq] at h
    rcases List.mem_cons.1 hx with rfl | hx
    · exact h.1
    · have := asc_lt h.2 x hx
      omega

theorem asc_tail {l : List Int} {p : Option Int} {a : Int} (h : ascB p (a :: l) = true) : ascB (some a) l = true := by
  simp only [ascB, Bool.and_eq_true] at h
  exact h.2

theorem asc_ext : ∀ {l k : List Int} {p q : Option Int}, ascB p l = true → ascB q k = true → (∀ x, x ∈ l ↔ x ∈ k) → l = k
  | [], [], _, _, _, _, _ => rfl
  | [], b :: k, _, _, _, _, h => by have := (h b).2 (by simp); cases this
  | a :: l, [], _, _, _, _, h => by have := (h a).1 (by simp); cases this
  | a :: l, b :: k, p, q, hl, hk, h => by
    have h1 := asc_lt (asc_tail hl)
    have h2 := asc_lt (asc_tail hk)
    have hab : a = b := by
      have ha := (h a).1 (by simp)
      have hb := (h b).2 (by simp)
      rcases List.mem_cons.1 ha with e | ha
      · exact e
      · rcases List.mem_cons.1 hb with e | hb
        · exact e.symm
        · have := h1 b hb; have := h2 a ha; omega
    subst hab
    rw [asc_ext (asc_tail hl) (asc_tail hk) (fun x => ?_)]
    constructor
    · intro hx
      rcases List.mem_cons.1 ((h x).1 (by simp [hx])) with e | hx'
      · have := h1 x hx; omega
      · exact hx'
    · intro hx
      rcases List.mem_cons.1 ((h x).2 (by simp [hx])) with e | hx'
      · have := h2 x hx; omega
      · exact hx'

theorem asc_of_pairwise : ∀ {l : List Int} {p : Option Int}, l.Pairwise (· < ·) → (∀ q, p = some q → ∀ x ∈ l, q < x) → ascB p l = true
  | [], _, _, _ => rfl
  | a :: l, p, h, hp => by
    rw [List.pairwise_cons] at h
    simp only [ascB, Bool.and_eq_true]
    refine ⟨?_, asc_of_pairwise h.2 (fun q hq x hx => ?_)⟩
    · cases p with
      | none => rfl
      | some q => simp only [Option.all_some, decide_eq_true_eq]; exact hp q rfl a (by simp)
    · cases hq; exact h.1 x hx

theorem bl_pairwise (n m : Nat) : (bl n m).Pairwise (· < ·) := by
  unfold bl
  rw [List.pairwise_map]
  exact (List.pairwise_lt_range.filter _).imp (fun h => by simpa using h)

theorem bl_asc (n m : Nat) : ascB none (bl n m) = true := asc_of_pairwise (bl_pairwise n m) (fun q hq => by cases hq)

theorem filter_range_succ (n : Nat) (p : Nat → Bool) : ((List.range (n + 1)).filter p) = (List.range n).filter p ++ (if p n then [n] else []) := by
  rw [List.range_succ, List.filter_append]; congr 1; simp [List.filter_cons]

theorem bl_step {n m i : Nat} (hi : i < n) : bl (i + 1) m = bl i m ++ (if m.testBit i then [(i : Int)] else []) := by
  unfold bl
  rw [filter_range_succ]
  split <;> simp_all

theorem shl_one {j : Nat} (h : j < 62) : shl .i64 1 (j : Int) = ((2 ^ j : Nat) : Int) := by
  unfold shl
  have hb : IntKind.bits .i64 = 64 := rfl
  have h1 : (2 : Nat) ^ j < 2 ^ 62 := Nat.pow_lt_pow_right (by decide) h
  rw [Int.toNat_natCast, hb, Nat.min_eq_left (by omega), Int.one_mul, i64_wrap_id]
  · simp
  · exact Int.pow_nonneg (by decide)
  · exact_mod_cast h1

def okG (n : Int) (es : List S93) : Bool := decide (0 ≤ n ∧ n ≤ 8) && goodL n none es

theorem lt62 {n m : Nat} (hn : n ≤ 8) (h : m < 2 ^ n) : m < 2 ^ 62 := Nat.lt_of_lt_of_le h (Nat.pow_le_pow_right (by decide) (by omega))

theorem bl_len_full : ∀ n, n ≤ 8 → ∀ m, m < 2 ^ n → ((bl n m).length = n ↔ m = 2 ^ n - 1) := by decide +kernel

theorem shr_nat (a x : Nat) (h : x < 62) : shr .i64 (a : Int) (x : Int) = ((a >>> x : Nat) : Int) := by
  unfold shr
  have hb : IntKind.bits .i64 = 64 := rfl
  rw [Int.toNat_natCast, hb, Nat.min_eq_left (by omega), Nat.shiftRight_eq_div_pow]
  simp

theorem shr_bit (a x : Nat) (ha : a < 2 ^ 62) (h : x < 62) : Go.bits .and .i64 (shr .i64 (a : Int) (x : Int)) 1 = if a.testBit x then 1 else 0 := by
  have h1 : a >>> x < 2 ^ 62 := Nat.lt_of_le_of_lt (Nat.shiftRight_le a x) ha
  rw [shr_nat a x h, show (1 : Int) = ((1 : Nat) : Int) from rfl, gand _ _ h1 (by decide)]
  simp only [Nat.testBit, bne_iff_ne, ne_eq]
  rw [Nat.and_comm 1, Nat.and_one_is_mod]
  have := Nat.mod_two_eq_zero_or_one (a >>> x)
  rcases this with h | h <;> simp [h]

theorem mask_all (n : Nat) (h : n ≤ 8) : wrap64 (shl .i64 1 (n : Int) - 1) = ((2 ^ n - 1 : Nat) : Int) := by
  rw [shl_one (by omega)]
  have h1 := p8 h
  have h2 : 0 < 2 ^ n := Nat.two_pow_pos n
  rw [w64 (by omega) (by omega)]
  omega

theorem set_fill {α : Type} (l : List α) (z : α) (i : Nat) (h : i < l.length) : (l.take i ++ List.replicate (l.length - i) z).set i l[i] = l.take (i + 1) ++ List.replicate (l.length - (i + 1)) z := by
  rw [List.take_succ_eq_append_getElem h, show l.length - i = (l.length - (i + 1)) + 1 by omega, List.replicate_succ]
  have h1 : (l.take i).length = i := by rw [List.length_take]; omega
  rw [List.set_append_right _ _ (by omega), h1, Nat.sub_self, List.set_cons_zero, List.append_assoc]
  rfl

theorem toIntA2_eq (a b : Int) : laws_toIntA2.f a b = some (a, b) := rfl

theorem toIntA2S_ev (l : List S93) (hl : l.length ≤ 17592186044416) : Ev (fun k => laws_toIntA2S.f k l) l := by
  unfold laws_toIntA2S.f
  rw [Ev.ite_iff, if_pos (by omega), Ev.ite_iff, if_pos (by omega), Int.toNat_natCast]
  have H := down l.length (fun i => Ev (fun k => laws_toIntA2S.l0 k l (l.take i ++ List.replicate (l.length - i) z93) i) l) ?_ ?_ 0 (by omega)
  · simpa using H
  · show Ev _ _
    rw [Ev.iff_succ]
    simp [laws_toIntA2S.l0, Ev.now_iff]
  · intro i hi ih
    show Ev _ _
    rw [Ev.iff_succ]
    have h1 : (i : Int) < l.length := by omega
    have h2 : (0 : Int) ≤ i := by omega
    have h3 : (i : Int) < ((l.take i ++ List.replicate (l.length - i) z93).length : Int) := by
      rw [List.length_append, List.length_take, List.length_replicate]; omega
    have h4 : rd_T93 l i = l[i] := by simp [rd_T93, hi]
    simp only [laws_toIntA2S.l0, Ev.ite_iff, h1, h2, ↓reduceIte, toIntA2_eq, Option.bind_some, h3, w64_succ i (by omega), h4, Int.toNat_natCast]
    rw [set_fill l _ i hi]
    exact ih

theorem toGraph_ev (n : Int) (es : List S93) (hl : es.length ≤ 17592186044416) : Ev (fun k => laws_toGraph.f k n es) (n, es) := by
  unfold laws_toGraph.f
  rw [Ev.bind_iff (toIntA2S_ev es hl), Ev.now_iff]

theorem eqIntS_refl (l : List Int) (hl : l.length ≤ 9223372036854775807) : Ev (fun k => laws_eqIntS.f k l l) true := by
  unfold laws_eqIntS.f
  rw [Ev.ite_iff, if_pos rfl]
  have H := down l.length (fun i => Ev (fun k => laws_eqIntS.l0 k l l i) true) ?_ ?_ 0 (by omega)
  · simpa using H
  · show Ev _ _
    rw [Ev.iff_succ]
    simp [laws_eqIntS.l0, Ev.now_iff]
  · intro i hi ih
    show Ev _ _
    rw [Ev.iff_succ]
    have h1 : (i : Int) < l.length := by omega
    have h2 : (0 : Int) ≤ i := by omega
    simp only [laws_eqIntS.l0, Ev.ite_iff, h1, h2, ↓reduceIte, w64_succ i (by omega)]
    exact ih

theorem eqIntA2_refl (a b : Int) : laws_eqIntA2.f a b a b = some true := by simp [laws_eqIntA2.f]

theorem eqGraph_refl (n : Int) (es : List S93) (hl : es.length ≤ 9223372036854775807) : Ev (fun k => laws_eqGraph.f k n es n es) true := by
  have H0 : Ev (fun k => laws_eqIntA2S.f k es es) true := by
    unfold laws_eqIntA2S.f
    rw [Ev.ite_iff, if_pos rfl]
    have H := down es.length (fun i => Ev (fun k => laws_eqIntA2S.l0 k es es i) true) ?_ ?_ 0 (by omega)
    · simpa using H
    · show Ev _ _
      rw [Ev.iff_succ]
      simp [laws_eqIntA2S.l0, Ev.now_iff]
    · intro i hi ih
      show Ev _ _
      rw [Ev.iff_succ]
      have h1 : (i : Int) < es.length := by omega
      have h2 : (0 : Int) ≤ i := by omega
      simp only [laws_eqIntA2S.l0, Ev.ite_iff, h1, h2, ↓reduceIte, w64_succ i (by omega), eqIntA2_refl, Option.bind_some]
      exact ih
  unfold laws_eqGraph.f
  rw [Ev.ite_iff, if_pos rfl, Ev.bind_iff H0, Ev.ite_iff, if_pos rfl, Ev.now_iff]

theorem szGraph_eq (n : Int) (es : List S93) (hl : es.length ≤ 9223372036854775807) : laws_szGraph.f n es 1048576 = some (if es.length ≤ 1048576 then 1048576 - (es.length : Int) else -1) := by
  unfold laws_szGraph.f laws_szIntA2S.f
  rw [w64 (by omega) (by omega)]
  by_cases h : es.length ≤ 1048576
  · rw [if_neg (by omega), if_pos h, Option.bind_some, if_neg (by omega)]
  · rw [if_pos (by omega), if_neg h, Option.bind_some, if_pos (by omega)]

theorem l2Good_eq (n : Int) (es : List S93) : spec_l2Good.f n es = some (okG n es) := rfl

theorem IsGraph_eq (n : Int) (es : List S93) : impl_IsGraph.f n es = some (okG n es) := rfl

/-- Numbers one behind the other. -/
def upF (a : Int) (c : Nat) : List Int := (List.range c).map (fun i : Nat => a + (i : Int))

theorem upF_len (a : Int) (c : Nat) : (upF a c).length = c := by simp [upF]

theorem upF_succ (a : Int) (c : Nat) : upF a (c + 1) = upF a c ++ [a + (c : Int)] := by simp [upF, List.range_succ]

theorem upF_rd {a : Int} {c i : Nat} (h : i < c) : rd (upF a c) i = a + (i : Int) := by rw [rd_lt _ i (by rw [upF_len]; exact h)]; simp [upF]

theorem markIntS_ev (l : List Int) (a : Int) (ha : 0 ≤ a) (h : a + l.length < 9223372036854775807) : Ev (fun k => laws_markIntS.f k l a) (a + (l.length : Int), upF a l.length) := by
  have H := down l.length (fun i => Ev (fun k => laws_markIntS.l0 k (upF a i ++ l.drop i) (a + (i : Int)) i) (a + (l.length : Int), upF a l.length)) ?_ ?_ 0 (by omega)
  · simpa [laws_markIntS.f, upF] using H
  · show Ev _ _
    rw [Ev.iff_succ]
    simp [laws_markIntS.l0, Ev.now_iff, upF_len]
  · intro i hi ih
    show Ev _ _
    rw [Ev.iff_succ]
    have h0 : ((upF a i ++ l.drop i).length : Int) = l.length := by rw [List.length_append, upF_len, List.length_drop]; omega
    have h1 : (i : Int) < l.length := by omega
    have h2 : (0 : Int) ≤ i := by omega
    have h3 : (upF a i ++ l.drop i).set i (a + (i : Int)) = upF a (i + 1) ++ l.drop (i + 1) := by
      rw [List.drop_eq_getElem_cons hi, List.set_append_right _ _ (by rw [upF_len]; omega), upF_len, Nat.sub_self, List.set_cons_zero, upF_succ, List.append_assoc]; rfl
    have h4 : wrap64 (a + (i : Int) + 1) = a + ((i + 1 : Nat) : Int) := by rw [w64] <;> omega
    simp only [laws_markIntS.l0, Ev.ite_iff, h0, h1, h2, ↓reduceIte, w64_succ i (by omega), Int.toNat_natCast, h3, h4]
    exact ih

theorem heldIntS_ev (a : Int) (c : Nat) (ha : 0 ≤ a) (h : a + c < 9223372036854775807) : Ev (fun k => laws_heldIntS.f k (upF a c) a) (a + (c : Int)) := by
  have H := down c (fun i => Ev (fun k => laws_heldIntS.l0 k (upF a c) (a + (i : Int)) i) (a + (c : Int))) ?_ ?_ 0 (by omega)
  · simpa [laws_heldIntS.f] using H
  · show Ev _ _
    rw [Ev.iff_succ]
    simp [laws_heldIntS.l0, Ev.now_iff, upF_len]
  · intro i hi ih
    show Ev _ _
    rw [Ev.iff_succ]
    have h1 : (i : Int) < (c : Int) := by omega
    have h2 : (0 : Int) ≤ i := by omega
    have h4 : wrap64 (a + (i : Int) + 1) = a + ((i + 1 : Nat) : Int) := by rw [w64] <;> omega
    simp only [laws_heldIntS.l0, Ev.ite_iff, upF_len, h1, h2, ↓reduceIte, w64_succ i (by omega), upF_rd hi, h4]
    exact ih

theorem markIntA2S_l0 (M : Int) (hM : M = 9223372036854775807) (d : Nat) : ∀ (l : List S93) (a : Int) (i : Nat), l.length = i + d → (l.length : Int) < M → 0 ≤ a → a + 2 * (d : Int) < M → ∃ r, laws_markIntA2S.l0 (d + 1) l a i = some (a + 2 * (d : Int), r) := by
  induction d with
  | zero =>
    intro l a i h _ _ _
    refine ⟨l, ?_⟩
    rw [laws_markIntA2S.l0, if_neg (by omega)]
    simp
  | succ d ih =>
    intro l a i h hl h0 h1
    have e1 : wrap64 (a + 1) = a + 1 := by rw [w64] <;> omega
    have e2 : wrap64 (a + 1 + 1) = a + 1 + 1 := by rw [w64] <;> omega
    have e3 : (i : Int) < (l.length : Int) := by omega
    have e4 : (0 : Int) ≤ i := by omega
    rw [laws_markIntA2S.l0, if_pos e3, if_pos e4, e1, e2, w64_succ i (by omega)]
    obtain ⟨r, hr⟩ := ih (l.set (i : Int).toNat ⟨a, a + 1⟩) (a + 1 + 1) (i + 1) (by rw [List.length_set]; omega) (by rw [List.length_set]; exact hl) (by omega) (by omega)
    exact ⟨r, by rw [hr]; congr 2; omega⟩

theorem markGraph_eq (n : Int) (l : List S93) (a : Int) (ha : 0 ≤ a) (h : a + 2 * (l.length : Int) < 9223372036854775807) : ∃ r, laws_markGraph.f n l a = some (a + 2 * (l.length : Int), r) := by
  obtain ⟨r, hr⟩ := markIntA2S_l0 _ rfl l.length l a 0 (by omega) (by omega) ha h
  exact ⟨r, by simp only [laws_markGraph.f, laws_markIntA2S.f]; rw [show ((0 : Nat) : Int) = 0 from rfl] at hr; rw [hr]; rfl⟩

theorem setOf_ev (n m : Nat) (hn : n ≤ 8) (hm : m < 2 ^ n) : Ev (fun k => impl_setOf.f k m) (bl n m) := by
  obtain ⟨t, ht⟩ : ∃ t, t = 9 := ⟨_, rfl⟩
  have hs : ∀ i, n ≤ i → m >>> i = 0 := fun i hi => by
    rw [Nat.shiftRight_eq_div_pow]; exact Nat.div_eq_of_lt (Nat.lt_of_lt_of_le hm (Nat.pow_le_pow_right (by decide) hi))
  have H := down n (fun i => Ev (fun k => impl_setOf.l0 k m (bl i m) i) (bl n m)) ?_ ?_ 0 (by omega)
  · simpa [impl_setOf.f, bl] using H
  · show Ev _ _
    rw [Ev.iff_succ]
    have h2 : (0 : Int) ≤ n := by omega
    simp [impl_setOf.l0, Ev.now_iff, h2, shr_nat m n (by omega), hs n (Nat.le_refl _)]
  · intro i hi ih
    show Ev _ _
    rw [Ev.iff_succ]
    have h2 : (0 : Int) ≤ i := by omega
    have h3 := bl_len_le i m
    have h4 : (bl i m).length < 17592186044416 := by omega
    have e3 := shr_bit m i (lt62 hn hm) (by omega)
    rw [bl_step hi] at ih
    simp only [impl_setOf.l0, Ev.ite_iff, h2, h4, ↓reduceIte, w64_succ i (by omega), e3]
    by_cases c : shr .i64 (m : Int) (i : Int) = 0
    · rw [if_pos c, Ev.now_iff]
      rw [shr_nat m i (by omega)] at c
      have c' : m >>> i = 0 := by omega
      have hb : ∀ j, i ≤ j → m.testBit j = false := fun j hj => by
        have : (m >>> i).testBit (j - i) = false := by rw [c']; simp
        rw [Nat.testBit_shiftRight] at this
        rwa [show i + (j - i) = j by omega] at this
      refine asc_ext (bl_asc _ _) (bl_asc _ _) (fun x => ?_)
      rw [mem_bl, mem_bl]
      constructor
      · rintro ⟨j, h1, h2, rfl⟩; exact ⟨j, by omega, h2, rfl⟩
      · rintro ⟨j, h1, h2, rfl⟩
        refine ⟨j, ?_, h2, rfl⟩
        by_cases hj : i ≤ j
        · rw [hb j hj] at h2; cases h2
        · omega
    · rw [if_neg c]
      cases c2 : m.testBit i
      · rw [c2] at ih; simpa using ih
      · rw [c2] at ih; simpa using ih

theorem l2Bits_ev (n m : Nat) (hn : n ≤ 8) (hm : m < 2 ^ n) : Ev (fun k => spec_l2Bits.f k n m) (bl n m) := by
  have H := down n (fun i => Ev (fun k => spec_l2Bits.l0 k n m (bl i m) i) (bl n m)) ?_ ?_ 0 (by omega)
  · simpa [spec_l2Bits.f, bl] using H
  · show Ev _ _
    rw [Ev.iff_succ]
    simp [spec_l2Bits.l0, Ev.now_iff]
  · intro i hi ih
    show Ev _ _
    rw [Ev.iff_succ]
    have h1 : (i : Int) < (n : Int) := by omega
    have h2 : (0 : Int) ≤ i := by omega
    have h3 := bl_len_le i m
    have h4 : (bl i m).length < 17592186044416 := by omega
    have e3 := shr_bit m i (lt62 hn hm) (by omega)
    rw [bl_step hi] at ih
    simp only [spec_l2Bits.l0, Ev.ite_iff, h1, h2, h4, ↓reduceIte, w64_succ i (by omega), e3]
    cases c : m.testBit i
    · rw [c] at ih; simpa using ih
    · rw [c] at ih; simpa using ih

theorem okG_use {n : Int} {es : List S93} (h : okG n es = true) : ∃ N : Nat, n = N ∧ N ≤ 8 := by
  simp only [okG, Bool.and_eq_true, decide_eq_true_eq] at h
  exact ⟨n.toNat, by omega, by omega⟩

theorem l2All_ev {es : List S93} {n : Nat} (hn : n ≤ 8) : Ev (fun k => spec_l2All.f k n es) (bl n (2 ^ n - 1)) := by
  unfold spec_l2All.f
  rw [Ev.ite_iff, if_pos (by omega), mask_all n hn, Ev.bind_iff (l2Bits_ev n _ hn (by have := Nat.two_pow_pos n; omega)), Ev.now_iff]

/-- All ways to choose so many of a list, in order. -/
def cho : List Int → Nat → List (List Int)
  | _, 0 => [[]]
  | [], _ + 1 => []
  | x :: s, k + 1 => (cho s k).map (fun t => x :: t) ++ cho s (k + 1)

theorem cho_zero (l : List Int) : cho l 0 = [[]] := by cases l <;> rfl

theorem cho_cons (x : Int) (s : List Int) (k : Nat) : cho (x :: s) (k + 1) = (cho s k).map (fun t => x :: t) ++ cho s (k + 1) := rfl

theorem cho_nil : ∀ (l : List Int) (k : Nat), l.length < k → cho l k = []
  | [], k + 1, _ => rfl
  | x :: s, k + 1, h => by
    rw [cho_cons, cho_nil s k (by simp at h; omega), cho_nil s (k + 1) (by simp at h; omega)]; rfl
  | l, 0, h => by omega

theorem cho_len : ∀ (l : List Int) (k : Nat), (cho l k).length ≤ 2 ^ l.length
  | l, 0 => by rw [cho_zero]; exact Nat.one_le_two_pow
  | [], k + 1 => by simp [cho]
  | x :: s, k + 1 => by
    rw [cho_cons, List.length_append, List.length_map, List.length_cons, Nat.pow_succ]
    have := cho_len s k; have := cho_len s (k + 1); omega

theorem cho_mem_len : ∀ (l : List Int) (k : Nat), ∀ t ∈ cho l k, t.length = k
  | l, 0 => by rw [cho_zero]; simp
  | [], k + 1 => by simp [cho]
  | x :: s, k + 1 => by
    rw [cho_cons]
    intro t ht
    rcases List.mem_append.1 ht with h | h
    · obtain ⟨u, hu, rfl⟩ := List.mem_map.1 h
      rw [List.length_cons, cho_mem_len s k u hu]
    · exact cho_mem_len s (k + 1) t h

theorem rdL2_lt (l : List (List Int)) (i : Nat) (h : i < l.length) : rd_L2 l (i : Int) = l[i] := by simp [rd_L2, h]

end Go.Proofs.Ytldenbmaifogeaa.QGuardSets
