import Derived.Test.YtldenbmaifogeaaQIsCliqueCover0
import Derived.Test.YtldenbmaifogeaaQIsCliqueCover10
import Derived.Test.YtldenbmaifogeaaQIsCliqueCover4
import Derived.Test.YtldenbmaifogeaaQIsCliqueCover5
import Derived.Test.YtldenbmaifogeaaQIsCliqueCover6
import Derived.Test.YtldenbmaifogeaaQIsCliqueCover8
import Derived.Test.YtldenbmaifogeaaQIsCliqueCover9
import Derived.Test.YtldenbmaifogeaaQIsCliqueCoverA1
namespace Go.Proofs.Ytldenbmaifogeaa.QIsCliqueCover
open Go.RowKit Go.Proofs.YtldenbmaifogeaaW.PrintWords Go.Proofs.YtldenbmaifogeaaW.PrintLast Go.Proofs.YtldenbmaifogeaaW.PrintMore
attribute [local go_sem] max2_int min2_int max_two min_two max_three min_three max_four min_four   -- for this text's walks alone
set_option linter.unusedVariables false
set_option linter.unusedSimpArgs false
theorem l10Alike_ev (n : Nat) (es : List S93) (l : List Int) (b : Bool) (hl : l.length ≤ 1048576) (he : es.length ≤ 9223372036854775807) : Ev (fun k => spec_l10Alike.f k n es l b) (alikeB es b l) := by
  have H := down l.length (fun i => Ev (fun k => spec_l10Alike.l0 k l b i n es) (((List.range l.length).drop i).all fun i => (List.range i).all fun k => near es (rd l (i : Int)) (rd l (k : Int)) == b)) ?_ ?_ 0 (by omega)
  · simpa [spec_l10Alike.f, alikeB] using H
  · show Ev _ _
    rw [Ev.iff_succ]
    simp only [spec_l10Alike.l0, Int.lt_irrefl, ↓reduceIte, Ev.now_iff]
    rw [List.drop_eq_nil_iff.2 (by simp)]
    rfl
  · intro i hi ih
    show Ev _ _
    rw [Ev.iff_succ]
    have h1 : (i : Int) < l.length := by omega
    have h2 : (0 : Int) ≤ i := by omega
    rw [drop_range hi, List.all_cons]
    simp only [spec_l10Alike.l0, h1, ↓reduceIte]
    have G := down i (fun j => Ev (fun k => spec_l10Alike.l1 k l b i j n es) ((((List.range i).drop j).all fun k => near es (rd l (i : Int)) (rd l (k : Int)) == b) && ((List.range l.length).drop (i + 1)).all fun i => (List.range i).all fun k => near es (rd l (i : Int)) (rd l (k : Int)) == b)) ?_ ?_ 0 (by omega)
    · simpa using G
    · show Ev _ _
      rw [Ev.iff_succ, List.drop_eq_nil_iff.2 (show (List.range i).length ≤ i by simp), List.all_nil, Bool.true_and]
      simp only [spec_l10Alike.l1, Int.lt_irrefl, ↓reduceIte, w64_succ i (show i < 9223372036854775807 by omega)]
      exact ih
    · intro j hj jh
      show Ev _ _
      rw [Ev.iff_succ, drop_range hj, List.all_cons]
      have g1 : (j : Int) < (i : Int) := by omega
      have g2 : (0 : Int) ≤ j := by omega
      have g3 : (j : Int) < l.length := by omega
      simp only [spec_l10Alike.l1, Ev.ite_iff, g1, g2, g3, h1, h2, ↓reduceIte]
      rw [Ev.bind_iff (l2Near_ev n es _ _ he), Ev.ite_iff]
      by_cases c : near es (rd l (i : Int)) (rd l (j : Int)) = b
      · rw [if_neg (by simp [c]), w64_succ j (by omega)]
        simpa [c] using jh
      · rw [if_pos (by simpa using c), Ev.now_iff]
        simp [c]

/-- Each node of a set is joined with all others of it. -/
def cliqueB (es : List S93) (n m : Nat) : Bool := !(bl n m).any fun x => decide (mns m (nb es n x.toNat ||| 2 ^ x.toNat) ≠ 0)

theorem cliqueB_iff {es : List S93} {n m : Nat} (hm : m < 2 ^ n) : cliqueB es n m = true ↔ ∀ x y : Nat, x < n → y < n → m.testBit x = true → m.testBit y = true → x ≠ y → near es x y = true := by
  unfold cliqueB
  simp only [Bool.not_eq_true', List.any_eq_false, decide_eq_true_eq]
  constructor
  · intro h x y hx hy bx hb hne
    have h1 := h (x : Int) (mem_bl_nat.2 ⟨hx, bx⟩)
    simp only [Int.toNat_natCast, ne_eq, Classical.not_not] at h1
    have h2 := congrArg (fun z => z.testBit y) h1
    simp only [mns_bit, hb, Bool.true_and, Nat.zero_testBit, Nat.testBit_or, nb_bit, hy, decide_true, Nat.testBit_two_pow, Bool.not_eq_false', Bool.or_eq_true, decide_eq_true_eq] at h2
    rcases h2 with e | e
    · exact e
    · exact absurd e hne
  · intro h x hx
    obtain ⟨i, h1, h2, rfl⟩ := mem_bl.1 hx
    simp only [ne_eq, Classical.not_not]
    refine Nat.eq_of_testBit_eq fun y => ?_
    rw [mns_bit, Nat.zero_testBit]
    cases hb : m.testBit y
    · rfl
    · have hy : y < n := by
        refine Classical.byContradiction fun hn => ?_
        rw [bit_lt hm (by omega)] at hb; cases hb
      by_cases e : i = y
      · subst e; simp [Nat.testBit_or, Nat.testBit_two_pow]
      · have := h i y h1 hy h2 hb e
        simp [Nat.testBit_or, nb_bit, hy, this]

theorem alike_bl {es : List S93} {n m : Nat} (hm : m < 2 ^ n) : alikeB es true (bl n m) = cliqueB es n m := by
  rw [Bool.eq_iff_iff, cliqueB_iff hm]
  have hp := List.pairwise_iff_getElem.1 (bl_pairwise n m)
  unfold alikeB
  simp only [List.all_eq_true, List.mem_range, beq_iff_eq]
  constructor
  · intro h x y hx hy bx hb hne
    obtain ⟨i, hi, e1⟩ := List.getElem_of_mem (mem_bl_nat.2 ⟨hx, bx⟩ : (x : Int) ∈ bl n m)
    obtain ⟨j, hj, e2⟩ := List.getElem_of_mem (mem_bl_nat.2 ⟨hy, hb⟩ : (y : Int) ∈ bl n m)
    rcases Nat.lt_trichotomy i j with c | c | c
    · have := h j hj i c
      rw [rd_lt _ j hj, rd_lt _ i hi, e1, e2, near_comm] at this
      exact this
    · subst c; rw [e1] at e2; omega
    · have := h i hi j c
      rw [rd_lt _ i hi, rd_lt _ j hj, e1, e2] at this
      exact this
  · intro h i hi k hk
    have hki : k < (bl n m).length := by omega
    rw [rd_lt _ i hi, rd_lt _ k hki]
    obtain ⟨a, a1, a2, ae⟩ := mem_bl.1 (List.getElem_mem hi)
    obtain ⟨c, c1, c2, ce⟩ := mem_bl.1 (List.getElem_mem hki)
    have hlt := hp k i hki hi hk
    rw [ae, ce]
    exact h a c a1 c1 a2 c2 (by intro e; subst e; rw [ae, ce] at hlt; omega)

theorem closed_eq {es : List S93} {n x : Nat} (hn : n ≤ 8) (hx : x < n) : impl_net_closed.f (nets es n) (x : Int) = some (((nb es n x ||| 2 ^ x : Nat)) : Int) := by
  unfold impl_net_closed.f
  rw [if_pos (by omega), if_pos (by rw [nets_len]; omega), nets_rd hx, shl_one (by omega), gor _ _ (lt62 hn (nb_lt es n x)) (lt62 hn (Nat.pow_lt_pow_right (by decide) hx))]

theorem isClique_ev {es : List S93} {n m : Nat} (hn : n ≤ 8) (hm : m < 2 ^ n) : Ev (fun k => impl_net_isClique.f k (nets es n) m) (cliqueB es n m) := by
  unfold impl_net_isClique.f
  rw [Ev.bind_iff (setOf_ev n m hn hm)]
  have hoff : ∀ x ∈ bl n m, (impl_net_closed.f (nets es n) x).isSome = true ∧ offClique (nets es n) m x = decide (mns m (nb es n x.toNat ||| 2 ^ x.toNat) ≠ 0) := fun x hx => by
    obtain ⟨i, h1, h2, rfl⟩ := mem_bl.1 hx
    have hc := closed_eq (es := es) hn h1
    have hlt : nb es n i ||| 2 ^ i < 2 ^ n := Nat.or_lt_two_pow (nb_lt es n i) (Nat.pow_lt_pow_right (by decide) h1)
    refine ⟨by rw [hc]; rfl, ?_⟩
    unfold offClique
    rw [hc]
    simp only [Int.toNat_natCast]
    rw [gandn _ _ (lt62 hn hm) (lt62 hn hlt), Bool.eq_iff_iff]
    simp only [bne_iff_ne, decide_eq_true_eq]
    omega
  have hany : (bl n m).any (offClique (nets es n) m) = (bl n m).any fun x => decide (mns m (nb es n x.toNat ||| 2 ^ x.toNat) ≠ 0) := by
    rw [Bool.eq_iff_iff, List.any_eq_true, List.any_eq_true]
    constructor
    · rintro ⟨x, hx, h⟩; exact ⟨x, hx, by rw [← (hoff x hx).2]; exact h⟩
    · rintro ⟨x, hx, h⟩; exact ⟨x, hx, by rw [(hoff x hx).2]; exact h⟩
  have hn2 : notClique (nets es n) m (bl n m) = some ((bl n m).any fun x => decide (mns m (nb es n x.toNat ||| 2 ^ x.toNat) ≠ 0)) := by
    unfold notClique
    rw [if_pos (fun x hx => (hoff x hx).1), hany]
  rw [hn2]
  simp only [Option.bind_some, Ev.now_iff]
  rfl

/-- Lists cover a graph's nodes by cliques, some nodes being covered already. -/
def coverB (es : List S93) (n : Nat) : List (List Int) → Nat → Bool
  | [], c => decide (c = 2 ^ n - 1)
  | s :: t, c => (allIn 0 ((n : Int) - 1) s && ascB none s) && (decide (s ≠ []) && (cliqueB es n (mL s) && (decide (mL s &&& c = 0) && coverB es n t (c ||| mL s))))

theorem bl_zero (n : Nat) : bl n 0 = [] := List.eq_nil_iff_forall_not_mem.2 (fun x hx => by obtain ⟨i, _, h2, _⟩ := mem_bl.1 hx; simp at h2)

theorem setL {n : Nat} {s : List Int} (h : (allIn 0 ((n : Int) - 1) s && ascB none s) = true) : mL s < 2 ^ n ∧ s = bl n (mL s) ∧ ∀ x ∈ s, 0 ≤ x ∧ x < (n : Int) := by
  simp only [Bool.and_eq_true] at h
  have h5 : ∀ x ∈ s, 0 ≤ x ∧ x < (n : Int) := fun x hx => by
    have h2 := h.1
    simp only [allIn, List.all_eq_true, decide_eq_true_eq] at h2
    have := h2 x hx
    omega
  exact ⟨mL_lt h5, bl_of_asc h.1 h.2, h5⟩

theorem disj_len {n a b : Nat} (h : b &&& a = 0) : (bl n (a ||| b)).length = (bl n a).length + (bl n b).length := by
  have hb : ∀ i, (b.testBit i && a.testBit i) = false := fun i => by have := congrArg (fun z => z.testBit i) h; simpa [Nat.testBit_and] using this
  rw [bl_split n (a ||| b) a]
  have e1 : (a ||| b) &&& a = a := Nat.eq_of_testBit_eq fun i => by rw [Nat.testBit_and, Nat.testBit_or]; cases a.testBit i <;> simp
  have e2 : mns (a ||| b) a = b := Nat.eq_of_testBit_eq fun i => by rw [mns_bit, Nat.testBit_or]; have := hb i; cases ha : a.testBit i <;> cases hb2 : b.testBit i <;> simp_all
  rw [e1, e2]

theorem l10Cover_ev {es : List S93} {n : Nat} (hn : n ≤ 8) (he : es.length ≤ 9223372036854775807) (L : List (List Int)) (hL : L.length ≤ 1048576) (hr : ∀ r ∈ L, r.length ≤ 1048576) : Ev (fun k => spec_l10Cover.f k n es L) (coverB es n L 0) := by
  have H := down L.length (fun i => ∀ seen : List Int, (∀ x ∈ seen, 0 ≤ x ∧ x < (n : Int)) → seen.length = (bl n (mL seen)).length → Ev (fun k => spec_l10Cover.l0 k L seen i n es) (coverB es n (L.drop i) (mL seen))) ?_ ?_ 0 (by omega) [] (by simp) (by rw [show mL ([] : List Int) = 0 from rfl, bl_zero])
  · simpa [spec_l10Cover.f, mL] using H
  · intro seen hs hlen
    rw [Ev.iff_succ, List.drop_length, coverB]
    simp only [spec_l10Cover.l0, Int.lt_irrefl, ↓reduceIte, Ev.now_iff]
    have := bl_len_full n hn (mL seen) (mL_lt hs)
    rw [Bool.eq_iff_iff]
    simp only [beq_iff_eq, decide_eq_true_eq]
    omega
  · intro i hi ih seen hs hlen
    rw [Ev.iff_succ]
    have h1 : (i : Int) < L.length := by omega
    have h2 : (0 : Int) ≤ i := by omega
    have hri := hr L[i] (List.getElem_mem hi)
    have hbl := bl_len_le n (mL seen)
    rw [List.drop_eq_getElem_cons hi, coverB]
    simp only [spec_l10Cover.l0, Ev.ite_iff, h1, h2, ↓reduceIte, rdL2_lt L i hi]
    have hrd := rdL2_lt L i hi
    generalize hrow : L[i] = s at hri hrd ⊢
    have bad : Ev (fun k => spec_l10Cover.j1 k L seen i true n es) false := by
      rw [Ev.iff_succ]
      simp only [spec_l10Cover.j1, ↓reduceIte, Ev.now_iff]
    have h4 := l2Set_ev n es s (by omega)
    rw [w64 (by omega) (by omega)] at h4
    rw [Ev.bind_iff h4, Ev.ite_iff]
    by_cases c1 : (allIn 0 ((n : Int) - 1) s && ascB none s) = true
    case neg => rw [if_neg c1, Bool.eq_false_iff.2 c1, Bool.false_and]; exact bad
    obtain ⟨hm, hsb, hsn⟩ := setL c1
    rw [if_pos c1, c1, Bool.true_and]
    by_cases c2 : s = []
    · subst c2; rw [Ev.ite_iff, if_pos (by simp)]; simpa using bad
    have hs0 : s.length ≠ 0 := fun e => c2 (List.eq_nil_of_length_eq_zero e)
    rw [Ev.ite_iff, if_neg (by omega), Ev.bind_iff (l10Alike_ev n es s true hri he), show decide (s ≠ []) = true by simp [c2], Bool.true_and]
    have hal : alikeB es true s = cliqueB es n (mL s) := by rw [hsb]; rw [alike_bl hm, ← hsb]
    rw [hal]
    cases c3 : cliqueB es n (mL s)
    · rw [Bool.false_and]; exact bad
    rw [Bool.true_and, Ev.iff_succ]
    simp only [spec_l10Cover.j1, Bool.not_true, Bool.false_eq_true, ↓reduceIte]
    have hpw := List.pairwise_iff_getElem.1 (bl_pairwise n (mL s))
    rw [← hsb] at hpw
    have hseen : ∀ x : Int, 0 ≤ x → (x ∈ seen ↔ (mL seen).testBit x.toNat = true) := fun x hx => by
      rw [mL_bit (fun y hy => (hs y hy).1), decide_eq_true_eq, Int.toNat_of_nonneg hx]
    -- one list of nodes, one behind the other
    have G := down s.length (fun j => (∀ x ∈ s.take j, x ∉ seen) → Ev (fun k => spec_l10Cover.l1 k L (seen ++ s.take j) i j n es) (((s.drop j).all fun x => !decide (x ∈ seen)) && coverB es n (L.drop (i + 1)) (mL seen ||| mL s))) ?_ ?_ 0 (by omega) (by simp)
    · have e : decide (mL s &&& mL seen = 0) = s.all fun x => !decide (x ∈ seen) := by
        rw [Bool.eq_iff_iff, decide_eq_true_eq, List.all_eq_true]
        have := apart_iff (n := n) (b := mL seen) (f := 0) hsn hn
        simp only [Nat.or_zero, Nat.zero_testBit, and_true] at this
        rw [this]
        constructor
        · intro h x hx; have := h x hx; have h6 := hseen x (hsn x hx).1; simp [h6, this]
        · intro h x hx; have := h x hx; have h6 := hseen x (hsn x hx).1
          simp only [Bool.not_eq_true', decide_eq_false_iff_not] at this
          rw [h6] at this; simpa using this
      rw [e]
      simpa using G
    · intro hd
      show Ev _ _
      rw [List.take_length] at hd
      rw [Ev.iff_succ, List.drop_length, List.all_nil, Bool.true_and, List.take_length]
      simp only [spec_l10Cover.l1, Ev.ite_iff, h1, h2, hrd, Int.lt_irrefl, ↓reduceIte, w64_succ i (show i < 9223372036854775807 by omega)]
      rw [← mL_append]
      refine ih (seen ++ s) (fun x hx => ?_) ?_
      · rcases List.mem_append.1 hx with h | h
        · exact hs x h
        · exact hsn x h
      · have hz : mL s &&& mL seen = 0 := by
          have := apart_iff (n := n) (b := mL seen) (f := 0) hsn hn
          simp only [Nat.or_zero, Nat.zero_testBit, and_true] at this
          refine this.2 fun x hx => ?_
          have h6 := hseen x (hsn x hx).1
          have h7 := hd x hx
          rw [h6] at h7; simpa using h7
        rw [List.length_append, mL_append, disj_len hz, ← hsb, hlen]
    · intro j hj jh hd
      show Ev _ _
      rw [Ev.iff_succ]
      have g1 : (j : Int) < s.length := by omega
      have g2 : (0 : Int) ≤ j := by omega
      have hbs := bl_len_le n (mL s)
      rw [← hsb] at hbs
      have g3 : (seen ++ s.take j).length < 17592186044416 := by rw [List.length_append, List.length_take]; omega
      have hnt : s[j] ∉ s.take j := fun h => by
        obtain ⟨q, hq, e⟩ := List.getElem_of_mem h
        rw [List.length_take] at hq
        rw [List.getElem_take] at e
        have := hpw q j (by omega) hj (by omega)
        omega
      rw [List.drop_eq_getElem_cons hj, List.all_cons]
      simp only [spec_l10Cover.l1, Ev.ite_iff, h1, h2, g1, g2, g3, hrd, ↓reduceIte, rd_lt s j hj]
      rw [Ev.bind_iff (l1Has_ev (seen ++ s.take j) s[j] (by omega)), Ev.ite_iff]
      by_cases c : s[j] ∈ seen
      · rw [if_pos (by simp [c]), Ev.now_iff]; simp [c]
      · rw [if_neg (by simp [c, hnt]), w64_succ j (by omega), List.append_assoc, ← List.take_succ_eq_append_getElem hj]
        have := jh (fun x hx => by
          rw [List.take_succ_eq_append_getElem hj, List.mem_append] at hx
          rcases hx with h | h
          · exact hd x h
          · simp only [List.mem_singleton] at h; subst h; exact c)
        simpa [c] using this

theorem isCliqueCover_ev {es : List S93} {n : Nat} (hn : n ≤ 8) (hg : okG n es = true) (L : List (List Int)) (hL : L.length ≤ 1048576) (hr : ∀ r ∈ L, r.length ≤ 1048576) : Ev (fun k => impl_isCliqueCover.f k n es L) (coverB es n L 0) := by
  unfold impl_isCliqueCover.f
  rw [netOf_eq hg]
  simp only [Option.bind_some]
  have H := down L.length (fun i => ∀ c : Nat, c < 2 ^ n → Ev (fun k => impl_isCliqueCover.l0 k c L L.length i n es (nets es n)) (coverB es n (L.drop i) c)) ?_ ?_ 0 (by omega) 0 (Nat.two_pow_pos n)
  · exact H
  · intro c hc
    rw [Ev.iff_succ, List.drop_length, coverB]
    simp only [impl_isCliqueCover.l0, Int.lt_irrefl, ↓reduceIte, all_eq hn, Option.bind_some, Ev.now_iff]
    rw [Bool.eq_iff_iff]
    simp only [beq_iff_eq, decide_eq_true_eq]
    omega
  · intro i hi ih c hc
    rw [Ev.iff_succ]
    have h1 : (i : Int) < L.length := by omega
    have h2 : (0 : Int) ≤ i := by omega
    have hri := hr L[i] (List.getElem_mem hi)
    rw [List.drop_eq_getElem_cons hi, coverB]
    simp only [impl_isCliqueCover.l0, Ev.ite_iff, h1, h2, ↓reduceIte, rdL2_lt L i hi]
    generalize L[i] = s at hri ⊢
    have bad : Ev (fun k => impl_isCliqueCover.j1 k c s 0 L L.length i false n es (nets es n)) false := by
      rw [Ev.iff_succ]
      simp only [impl_isCliqueCover.j1, Bool.false_eq_true, ↓reduceIte, Ev.now_iff]
    by_cases c2 : s = []
    · subst c2; rw [if_neg (by simp)]; simpa [allIn, ascB] using bad
    have hs0 : s.length ≠ 0 := fun e => c2 (List.eq_nil_of_length_eq_zero e)
    rw [if_pos (by omega), Ev.bind_iff (isSet_ev n es s (by omega)), setB, hg, w64 (by omega) (by omega), Bool.true_and]
    by_cases c1 : (allIn 0 ((n : Int) - 1) s && ascB none s) = true
    case neg => rw [Bool.eq_false_iff.2 c1, Bool.false_and]; exact bad
    obtain ⟨hm, hsb, hsn⟩ := setL c1
    rw [c1, Bool.true_and, show decide (s ≠ []) = true by simp [c2], Bool.true_and, Ev.iff_succ]
    simp only [impl_isCliqueCover.j1, ↓reduceIte]
    rw [Ev.bind_iff (maskOf_ev s (by omega) (fun y hy => by have := hsn y hy; omega)), Ev.ite_iff]
    have hmz : mL s ≠ 0 := fun e => hs0 (by have := (bl_zero_iff hm).2 e; rwa [← hsb] at this)
    rw [if_neg (by omega), Ev.ite_iff, gand _ _ (lt62 hn hm) (lt62 hn hc)]
    by_cases c3 : mL s &&& c = 0
    case neg => rw [if_neg (by omega), Ev.now_iff]; simp [c3]
    rw [if_pos (by omega), Ev.bind_iff (isClique_ev hn hm), Ev.ite_iff]
    cases c4 : cliqueB es n (mL s)
    · simp [Ev.now_iff]
    · rw [if_pos rfl, gor _ _ (lt62 hn hc) (lt62 hn hm), w64_succ i (by omega)]
      simpa [c3] using ih _ (Nat.or_lt_two_pow hc hm)

def isCliqueCoverR (n : Int) (es : List S93) (L : List (List Int)) : Bool × Bool := if okG n es then (coverB es n.toNat L 0, true) else (false, false)

theorem specIsCliqueCover_ev (n : Int) (es : List S93) (L : List (List Int)) (hL : L.length ≤ 1048576) (hr : ∀ r ∈ L, r.length ≤ 1048576) (he : es.length ≤ 9223372036854775807) : Ev (fun k => spec_IsCliqueCover.f k n es L) (isCliqueCoverR n es L) := by
  unfold spec_IsCliqueCover.f isCliqueCoverR
  rw [l2Good_eq]
  simp only [Option.bind_some, Ev.ite_iff]
  by_cases h : okG n es = true
  · obtain ⟨N, rfl, hN⟩ := okG_use h
    rw [if_pos h, if_pos h, Ev.bind_iff (l10Cover_ev hN he L hL hr), Ev.now_iff]
    simp only [Int.toNat_natCast]
  · rw [if_neg h, if_neg h, Ev.now_iff]

theorem implIsCliqueCover_ev (n : Int) (es : List S93) (L : List (List Int)) (hL : L.length ≤ 1048576) (hr : ∀ r ∈ L, r.length ≤ 1048576) : Ev (fun k => impl_IsCliqueCover.f k n es L) (isCliqueCoverR n es L) := by
  unfold impl_IsCliqueCover.f isCliqueCoverR
  rw [IsGraph_eq]
  simp only [Option.bind_some, Ev.ite_iff]
  by_cases h : okG n es = true
  · obtain ⟨N, rfl, hN⟩ := okG_use h
    rw [if_pos h, if_pos h, Ev.bind_iff (isCliqueCover_ev hN h L hL hr), Ev.now_iff]
    simp only [Int.toNat_natCast]
  · rw [if_neg h, if_neg h, Ev.now_iff]

theorem FnExactIsCliqueCover_pure (n : Int) (es : List S93) (L : List (List Int)) (he : es.length ≤ 9223372036854775807) (hL : L.length ≤ 9223372036854775807) (hr : ∀ r ∈ L, r.length ≤ 9223372036854775807) : Ev (fun k => laws_FnExactIsCliqueCover.f k n es L) true := by
  unfold laws_FnExactIsCliqueCover.f
  rw [szGraph_eq n es (by omega)]
  simp only [Option.bind_some, Ev.ite_iff]
  by_cases hs : es.length ≤ 1048576
  case neg => rw [if_neg hs, if_pos (by omega), Ev.now_iff]
  rw [if_pos hs, if_neg (by omega)]
  obtain ⟨zL, hzL, hyL⟩ := szIntSS_ev L (1048576 - es.length) (by omega) hL hr
  rw [show (1048576 - (es.length : Int)) = ((1048576 - es.length : Nat) : Int) by omega, Ev.bind_iff hzL, Ev.ite_iff]
  by_cases hnL : zL < 0
  · rw [if_pos hnL, Ev.now_iff]
  rw [if_neg hnL]
  have hxL := hyL.resolve_left hnL
  have hjL := toIntSS_ev L hxL.2.1 hxL.2.2
  have hg := toGraph_ev n es (by omega)
  have hS := specIsCliqueCover_ev n es L hxL.2.1 hxL.2.2 (by omega)
  have hI := implIsCliqueCover_ev n es L hxL.2.1 hxL.2.2
  generalize isCliqueCoverR n es L = R at hS hI
  rw [Ev.bind_iff hg, Ev.bind_iff hjL, Ev.bind_iff hS, Ev.bind_iff hg, Ev.bind_iff hjL, Ev.bind_iff hI]
  simp only [bne_self_eq_false, Bool.false_eq_true, ↓reduceIte]
  rw [Ev.iff_succ]
  simp only [laws_FnExactIsCliqueCover.j0, Bool.false_eq_true, ↓reduceIte]
  rw [Ev.bind_iff hg, Ev.bind_iff (eqGraph_refl n es he)]
  simp only [↓reduceIte]
  rw [Ev.bind_iff hjL, Ev.bind_iff (eqIntSS_refl L hL hr)]
  simp only [↓reduceIte]
  rw [Ev.now_iff]

end Go.Proofs.Ytldenbmaifogeaa.QIsCliqueCover
