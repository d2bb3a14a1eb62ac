import Derived.Test.YtaddgielnfhhpaaQLeastCliqueCover0
import Derived.Test.YtaddgielnfhhpaaQLeastCliqueCover11
import Derived.Test.YtaddgielnfhhpaaQLeastCliqueCover4
import Derived.Test.YtaddgielnfhhpaaQLeastCliqueCover7
import Derived.Test.YtaddgielnfhhpaaQLeastCliqueCover8
import Derived.Test.YtaddgielnfhhpaaQLeastCliqueCoverA0
namespace Go.Proofs.Ytaddgielnfhhpaa.QLeastCliqueCover
open Go.RowKit Go.Proofs.YtaddgielnfhhpaaW.PrintWords Go.Proofs.YtaddgielnfhhpaaW.PrintLast Go.Proofs.YtaddgielnfhhpaaW.PrintMore
attribute [local go_sem] max2_int min2_int max_two min_two max_three min_three max_four min_four   -- for this text's walks alone
set_option linter.unusedVariables false
set_option linter.unusedSimpArgs false
theorem upF_rd {a : Int} {c i : Nat} (h : i < c) : rd (upF a c) i = a + (i : Int) := by rw [rd_lt _ i (by rw [upF_len]; exact h)]; simp [upF]

theorem markIntS_ev (l : List Int) (a : Int) (ha : 0 ≤ a) (h : a + l.length < 9223372036854775807) : Ev (fun k => laws_markIntS.f k l a) (a + (l.length : Int), upF a l.length) := by
 have H := down l.length (fun i => Ev (fun k => laws_markIntS.l0 k (upF a i ++ l.drop i) (a + (i : Int)) i) (a + (l.length : Int), upF a l.length)) ?_ ?_ 0 (by omega)
 ·simpa [laws_markIntS.f, upF] using H
 ·show Ev _ _
  rw [Ev.iff_succ]
  simp [laws_markIntS.l0, Ev.now_iff, upF_len]
 ·intro i hi ih
  show Ev _ _
  rw [Ev.iff_succ]
  have h0 : ((upF a i ++ l.drop i).length : Int) = l.length := by rw [List.length_append, upF_len, List.length_drop];omega
  have h1 : (i : Int) < l.length := by omega
  have h2 : (0 : Int) ≤ i := by omega
  have h3 : (upF a i ++ l.drop i).set i (a + (i : Int)) = upF a (i + 1) ++ l.drop (i + 1) := by
   rw [List.drop_eq_getElem_cons hi, List.set_append_right _ _ (by rw [upF_len];omega), upF_len, Nat.sub_self, List.set_cons_zero, upF_succ, List.append_assoc];rfl
  have h4 : wrap64 (a + (i : Int) + 1) = a + ((i + 1 : Nat) : Int) := by rw [w64] <;> omega
  simp only [laws_markIntS.l0, Ev.ite_iff, h0, h1, h2, ↓reduceIte, w64_succ i (by omega), Int.toNat_natCast, h3, h4]
  exact ih

theorem heldIntS_ev (a : Int) (c : Nat) (ha : 0 ≤ a) (h : a + c < 9223372036854775807) : Ev (fun k => laws_heldIntS.f k (upF a c) a) (a + (c : Int)) := by
 have H := down c (fun i => Ev (fun k => laws_heldIntS.l0 k (upF a c) (a + (i : Int)) i) (a + (c : Int))) ?_ ?_ 0 (by omega)
 ·simpa [laws_heldIntS.f] using H
 ·show Ev _ _
  rw [Ev.iff_succ]
  simp [laws_heldIntS.l0, Ev.now_iff, upF_len]
 ·intro i hi ih
  show Ev _ _
  rw [Ev.iff_succ]
  have h1 : (i : Int) < (c : Int) := by omega
  have h2 : (0 : Int) ≤ i := by omega
  have h4 : wrap64 (a + (i : Int) + 1) = a + ((i + 1 : Nat) : Int) := by rw [w64] <;> omega
  simp only [laws_heldIntS.l0, Ev.ite_iff, upF_len, h1, h2, ↓reduceIte, w64_succ i (by omega), upF_rd hi, h4]
  exact ih

theorem markIntA2S_l0 (M : Int) (hM : M = 9223372036854775807) (d : Nat) : ∀ (l : List S80) (a : Int) (i : Nat), l.length = i + d → (l.length : Int) < M → 0 ≤ a → a + 2 * (d : Int) < M → ∃ r, laws_markIntA2S.l0 (d + 1) l a i = some (a + 2 * (d : Int), r) := by
 induction d with
 | zero =>
  intro l a i h _ _ _
  refine ⟨l, ?_⟩
  rw [laws_markIntA2S.l0, if_neg (by omega)]
  simp
 | succ d ih =>
  intro l a i h hl h0 h1
  have e1 : wrap64 (a + 1) = a + 1 := by rw [w64] <;> omega
  have e2 : wrap64 (a + 1 + 1) = a + 1 + 1 := by rw [w64] <;> omega
  have e3 : (i : Int) < (l.length : Int) := by omega
  have e4 : (0 : Int) ≤ i := by omega
  rw [laws_markIntA2S.l0, if_pos e3, if_pos e4, e1, e2, w64_succ i (by omega)]
  obtain ⟨r, hr⟩ := ih (l.set (i : Int).toNat ⟨a, a + 1⟩) (a + 1 + 1) (i + 1) (by rw [List.length_set];omega) (by rw [List.length_set];exact hl) (by omega) (by omega)
  exact ⟨r, by rw [hr];congr 2;omega⟩

theorem markGraph_eq (n : Int) (l : List S80) (a : Int) (ha : 0 ≤ a) (h : a + 2 * (l.length : Int) < 9223372036854775807) : ∃ r, laws_markGraph.f n l a = some (a + 2 * (l.length : Int), r) := by
 obtain ⟨r, hr⟩ := markIntA2S_l0 _ rfl l.length l a 0 (by omega) (by omega) ha h
 exact ⟨r, by simp only [laws_markGraph.f, laws_markIntA2S.f];rw [show ((0 : Nat) : Int) = 0 from rfl] at hr;rw [hr];rfl⟩

theorem setOf_ev (n m : Nat) (hn : n ≤ 8) (hm : m < 2 ^ n) : Ev (fun k => impl_setOf.f k m) (bl n m) := by
 obtain ⟨t, ht⟩ : ∃ t, t = 9 := ⟨_, rfl⟩
 have hs : ∀ i, n ≤ i → m >>> i = 0 := fun i hi => by
  rw [Nat.shiftRight_eq_div_pow];exact Nat.div_eq_of_lt (Nat.lt_of_lt_of_le hm (Nat.pow_le_pow_right (by decide) hi))
 have H := down n (fun i => Ev (fun k => impl_setOf.l0 k m (bl i m) i) (bl n m)) ?_ ?_ 0 (by omega)
 ·simpa [impl_setOf.f, bl] using H
 ·show Ev _ _
  rw [Ev.iff_succ]
  have h2 : (0 : Int) ≤ n := by omega
  simp [impl_setOf.l0, Ev.now_iff, h2, shr_nat m n (by omega), hs n (Nat.le_refl _)]
 ·intro i hi ih
  show Ev _ _
  rw [Ev.iff_succ]
  have h2 : (0 : Int) ≤ i := by omega
  have h3 := bl_len_le i m
  have h4 : (bl i m).length < 17592186044416 := by omega
  have e3 := shr_bit m i (lt62 hn hm) (by omega)
  rw [bl_step hi] at ih
  simp only [impl_setOf.l0, Ev.ite_iff, h2, h4, ↓reduceIte, w64_succ i (by omega), e3]
  by_cases c : shr .i64 (m : Int) (i : Int) = 0
  ·rw [if_pos c, Ev.now_iff]
   rw [shr_nat m i (by omega)] at c
   have c' : m >>> i = 0 := by omega
   have hb : ∀ j, i ≤ j → m.testBit j = false := fun j hj => by
    have : (m >>> i).testBit (j - i) = false := by rw [c'];simp
    rw [Nat.testBit_shiftRight] at this
    rwa [show i + (j - i) = j by omega] at this
   refine asc_ext (bl_asc _ _) (bl_asc _ _) (fun x => ?_)
   rw [mem_bl, mem_bl]
   constructor
   ·rintro ⟨j, h1, h2, rfl⟩;exact ⟨j, by omega, h2, rfl⟩
   ·rintro ⟨j, h1, h2, rfl⟩
    refine ⟨j, ?_, h2, rfl⟩
    by_cases hj : i ≤ j
    ·rw [hb j hj] at h2;cases h2
    ·omega
  ·rw [if_neg c]
   cases c2 : m.testBit i
   ·rw [c2] at ih;simpa using ih
   ·rw [c2] at ih;simpa using ih

theorem okG_use {n : Int} {es : List S80} (h : okG n es = true) : ∃ N : Nat, n = N ∧ N ≤ 8 := by
 simp only [okG, Bool.and_eq_true, decide_eq_true_eq] at h
 exact ⟨n.toNat, by omega, by omega⟩

theorem rdL2_lt (l : List (List Int)) (i : Nat) (h : i < l.length) : rd_L2 l (i : Int) = l[i] := by simp [rd_L2, h]

theorem eqIntSS_refl (L : List (List Int)) (hL : L.length ≤ 9223372036854775807) (hr : ∀ r ∈ L, r.length ≤ 9223372036854775807) : Ev (fun k => laws_eqIntSS.f k L L) true := by
 unfold laws_eqIntSS.f
 rw [Ev.ite_iff, if_pos rfl]
 have H := down L.length (fun i => Ev (fun k => laws_eqIntSS.l0 k L L i) true) ?_ ?_ 0 (by omega)
 ·simpa using H
 ·show Ev _ _
  rw [Ev.iff_succ]
  simp [laws_eqIntSS.l0, Ev.now_iff]
 ·intro i hi ih
  show Ev _ _
  rw [Ev.iff_succ]
  have h1 : (i : Int) < L.length := by omega
  have h2 : (0 : Int) ≤ i := by omega
  have hri := hr L[i] (List.getElem_mem hi)
  simp only [laws_eqIntSS.l0, Ev.ite_iff, h1, h2, ↓reduceIte, w64_succ i (by omega), rdL2_lt L i hi]
  rw [Ev.bind_iff (eqIntS_refl L[i] hri)]
  simp only [↓reduceIte]
  exact ih

/-- Rows of numbers one behind the other, as long as told. -/
def upSS : Int → List Nat → List (List Int)
 | _, [] => []
 | a, c :: cs => upF a c :: upSS (a + (c : Int)) cs

theorem upSS_len : ∀ (cs : List Nat) (a : Int), (upSS a cs).length = cs.length
 | [], _ => rfl
 | c :: cs, a => by simp [upSS, upSS_len cs]

theorem upSS_snoc : ∀ (cs : List Nat) (a : Int) (c : Nat), upSS a (cs ++ [c]) = upSS a cs ++ [upF (a + (cs.sum : Nat)) c]
 | [], a, c => by simp [upSS]
 | d :: cs, a, c => by
  rw [List.cons_append, upSS, upSS, upSS_snoc cs, List.sum_cons, List.cons_append]
  rw [show a + (d : Int) + ((cs.sum : Nat) : Int) = a + ((d + cs.sum : Nat) : Int) by omega]

theorem upSS_get : ∀ (cs : List Nat) (a : Int) (i : Nat) (h : i < cs.length) (h' : i < (upSS a cs).length), (upSS a cs)[i] = upF (a + ((cs.take i).sum : Nat)) cs[i]
 | c :: cs, a, 0, h, h' => by simp [upSS]
 | c :: cs, a, i + 1, h, h' => by
  simp only [upSS, List.getElem_cons_succ, List.take_succ_cons, List.sum_cons]
  rw [upSS_get cs (a + c) i (by simpa using h) (by rw [upSS_len];simpa using h)]
  rw [show a + (c : Int) + (((cs.take i).sum : Nat) : Int) = a + ((c + (cs.take i).sum : Nat) : Int) by omega]

theorem sum_take_succ (cs : List Nat) (i : Nat) (h : i < cs.length) : (cs.take (i + 1)).sum = (cs.take i).sum + cs[i] := by
 rw [List.take_succ_eq_append_getElem h, List.sum_append];simp

theorem sum_take_le (cs : List Nat) : ∀ i : Nat, (cs.take i).sum ≤ cs.sum := by
 intro i
 have h := List.take_append_drop i cs
 have h2 := congrArg List.sum h
 rw [List.sum_append] at h2
 omega

theorem markIntSS_ev (L : List (List Int)) (a : Int) (ha : 0 ≤ a) (hL : L.length < 9223372036854775807) (h : a + ((L.map List.length).sum : Nat) < 9223372036854775807) :
  Ev (fun k => laws_markIntSS.f k L a) (a + ((L.map List.length).sum : Nat), upSS a (L.map List.length)) := by
 have hcl : (L.map List.length).length = L.length := by simp
 have hcg : ∀ i (hi : i < L.length), (L.map List.length)[i]'(by rw [hcl];exact hi) = L[i].length := fun i hi => by simp
 generalize hcs : L.map List.length = cs at h hcl hcg ⊢
 have H := down L.length (fun i => Ev (fun k => laws_markIntSS.l0 k (upSS a (cs.take i) ++ L.drop i) (a + ((cs.take i).sum : Nat)) i) (a + (cs.sum : Nat), upSS a cs)) ?_ ?_ 0 (by omega)
 ·simpa [laws_markIntSS.f, upSS] using H
 ·show Ev _ _
  rw [Ev.iff_succ]
  simp only [List.drop_length, List.append_nil, List.take_of_length_le (show cs.length ≤ L.length by omega), laws_markIntSS.l0, upSS_len, hcl, Int.lt_irrefl, ↓reduceIte, Ev.now_iff]
 ·intro i hi ih
  show Ev _ _
  rw [Ev.iff_succ]
  have hic : i < cs.length := by omega
  have hut : (upSS a (cs.take i)).length = i := by rw [upSS_len, List.length_take];omega
  have h0 : ((upSS a (cs.take i) ++ L.drop i).length : Int) = L.length := by rw [List.length_append, hut, List.length_drop];omega
  have h1 : (i : Int) < L.length := by omega
  have h2 : (0 : Int) ≤ i := by omega
  have h3 : rd_L2 (upSS a (cs.take i) ++ L.drop i) i = L[i] := by
   rw [rdL2_lt _ i (by rw [List.length_append, hut, List.length_drop];omega), List.getElem_append_right (by omega)]
   simp [hut]
  have hs := sum_take_succ cs i hic
  have hsl := sum_take_le cs (i + 1)
  have hli := hcg i hi
  have h5 : (upSS a (cs.take i) ++ L.drop i).set i (upF (a + ((cs.take i).sum : Nat)) L[i].length) = upSS a (cs.take (i + 1)) ++ L.drop (i + 1) := by
   rw [List.drop_eq_getElem_cons hi, List.set_append_right _ _ (by omega), hut, Nat.sub_self, List.set_cons_zero, List.take_succ_eq_append_getElem hic, upSS_snoc, List.append_assoc, hli];rfl
  simp only [laws_markIntSS.l0, Ev.ite_iff, h0, h1, h2, ↓reduceIte, h3]
  rw [Ev.bind_iff (markIntS_ev L[i] _ (by omega) (by omega))]
  simp only [w64_succ i (show i < 9223372036854775807 by omega), Int.toNat_natCast, h5]
  rw [show a + ((cs.take i).sum : Nat) + ((L[i].length : Nat) : Int) = a + ((cs.take (i + 1)).sum : Nat) by omega]
  exact ih

theorem heldIntSS_ev (a : Int) (cs : List Nat) (ha : 0 ≤ a) (hl : cs.length < 9223372036854775807) (h : a + (cs.sum : Nat) < 9223372036854775807) : Ev (fun k => laws_heldIntSS.f k (upSS a cs) a) (a + (cs.sum : Nat)) := by
 have H := down cs.length (fun i => Ev (fun k => laws_heldIntSS.l0 k (upSS a cs) (a + ((cs.take i).sum : Nat)) i) (a + (cs.sum : Nat))) ?_ ?_ 0 (by omega)
 ·simpa [laws_heldIntSS.f] using H
 ·show Ev _ _
  rw [Ev.iff_succ]
  simp only [List.take_length]
  simp [laws_heldIntSS.l0, Ev.now_iff, upSS_len]
 ·intro i hi ih
  show Ev _ _
  rw [Ev.iff_succ]
  have h1 : (i : Int) < ((upSS a cs).length : Int) := by rw [upSS_len];omega
  have h2 : (0 : Int) ≤ i := by omega
  have hs := sum_take_succ cs i hi
  have hsl := sum_take_le cs (i + 1)
  have h3 : rd_L2 (upSS a cs) i = upF (a + ((cs.take i).sum : Nat)) cs[i] := by
   rw [rdL2_lt _ i (by rw [upSS_len];exact hi), upSS_get cs a i hi]
  simp only [laws_heldIntSS.l0, Ev.ite_iff, h1, h2, ↓reduceIte, h3]
  rw [Ev.bind_iff (heldIntS_ev _ cs[i] (by omega) (by omega)), Ev.ite_iff, if_neg (by omega)]
  rw [w64_succ i (by omega), show a + ((cs.take i).sum : Nat) + ((cs[i] : Nat) : Int) = a + ((cs.take (i + 1)).sum : Nat) by omega]
  exact ih

theorem sum_le_mul : ∀ (L : List (List Int)) (c : Nat), (∀ r ∈ L, r.length ≤ c) → (L.map List.length).sum ≤ L.length * c
 | [], _, _ => by simp
 | r :: L, c, h => by
  have h1 := sum_le_mul L c (fun s hs => h s (by simp [hs]))
  have h2 := h r (by simp)
  rw [List.map_cons, List.sum_cons, List.length_cons, Nat.succ_mul]
  omega

/-- All pairs of a list are joined, or none. -/
def alikeB (es : List S80) (b : Bool) (l : List Int) : Bool := (List.range l.length).all fun i => (List.range i).all fun k => near es (rd l (i : Int)) (rd l (k : Int)) == b

theorem drop_range {n i : Nat} (h : i < n) : (List.range n).drop i = i :: (List.range n).drop (i + 1) := by rw [List.drop_eq_getElem_cons (by simpa using h), List.getElem_range]

theorem l10Alike_ev (n : Nat) (es : List S80) (l : List Int) (b : Bool) (hl : l.length ≤ 1048576) (he : es.length ≤ 9223372036854775807) : Ev (fun k => spec_l10Alike.f k n es l b) (alikeB es b l) := by
 have H := down l.length (fun i => Ev (fun k => spec_l10Alike.l0 k l b i n es) (((List.range l.length).drop i).all fun i => (List.range i).all fun k => near es (rd l (i : Int)) (rd l (k : Int)) == b)) ?_ ?_ 0 (by omega)
 ·simpa [spec_l10Alike.f, alikeB] using H
 ·show Ev _ _
  rw [Ev.iff_succ]
  simp only [spec_l10Alike.l0, Int.lt_irrefl, ↓reduceIte, Ev.now_iff]
  rw [List.drop_eq_nil_iff.2 (by simp)]
  rfl
 ·intro i hi ih
  show Ev _ _
  rw [Ev.iff_succ]
  have h1 : (i : Int) < l.length := by omega
  have h2 : (0 : Int) ≤ i := by omega
  rw [drop_range hi, List.all_cons]
  simp only [spec_l10Alike.l0, h1, ↓reduceIte]
  have G := down i (fun j => Ev (fun k => spec_l10Alike.l1 k l b i j n es) ((((List.range i).drop j).all fun k => near es (rd l (i : Int)) (rd l (k : Int)) == b) && ((List.range l.length).drop (i + 1)).all fun i => (List.range i).all fun k => near es (rd l (i : Int)) (rd l (k : Int)) == b)) ?_ ?_ 0 (by omega)
  ·simpa using G
  ·show Ev _ _
   rw [Ev.iff_succ, List.drop_eq_nil_iff.2 (show (List.range i).length ≤ i by simp), List.all_nil, Bool.true_and]
   simp only [spec_l10Alike.l1, Int.lt_irrefl, ↓reduceIte, w64_succ i (show i < 9223372036854775807 by omega)]
   exact ih
  ·intro j hj jh
   show Ev _ _
   rw [Ev.iff_succ, drop_range hj, List.all_cons]
   have g1 : (j : Int) < (i : Int) := by omega
   have g2 : (0 : Int) ≤ j := by omega
   have g3 : (j : Int) < l.length := by omega
   simp only [spec_l10Alike.l1, Ev.ite_iff, g1, g2, g3, h1, h2, ↓reduceIte]
   rw [Ev.bind_iff (l2Near_ev n es _ _ he), Ev.ite_iff]
   by_cases c : near es (rd l (i : Int)) (rd l (j : Int)) = b
   ·rw [if_neg (by simp [c]), w64_succ j (by omega)]
    simpa [c] using jh
   ·rw [if_pos (by simpa using c), Ev.now_iff]
    simp [c]

/-- Each node of a set is joined with all others of it. -/
def cliqueB (es : List S80) (n m : Nat) : Bool := !(bl n m).any fun x => decide (mns m (nb es n x.toNat ||| 2 ^ x.toNat) ≠ 0)

theorem cliqueB_iff {es : List S80} {n m : Nat} (hm : m < 2 ^ n) : cliqueB es n m = true ↔ ∀ x y : Nat, x < n → y < n → m.testBit x = true → m.testBit y = true → x ≠ y → near es x y = true := by
 unfold cliqueB
 simp only [Bool.not_eq_true', List.any_eq_false, decide_eq_true_eq]
 constructor
 ·intro h x y hx hy bx hb hne
  have h1 := h (x : Int) (mem_bl_nat.2 ⟨hx, bx⟩)
  simp only [Int.toNat_natCast, ne_eq, Classical.not_not] at h1
  have h2 := congrArg (fun z => z.testBit y) h1
  simp only [mns_bit, hb, Bool.true_and, Nat.zero_testBit, Nat.testBit_or, nb_bit, hy, decide_true, Nat.testBit_two_pow, Bool.not_eq_false', Bool.or_eq_true, decide_eq_true_eq] at h2
  rcases h2 with e | e
  ·exact e
  ·exact absurd e hne
 ·intro h x hx
  obtain ⟨i, h1, h2, rfl⟩ := mem_bl.1 hx
  simp only [ne_eq, Classical.not_not]
  refine Nat.eq_of_testBit_eq fun y => ?_
  rw [mns_bit, Nat.zero_testBit]
  cases hb : m.testBit y
  ·rfl
  ·have hy : y < n := by
    refine Classical.byContradiction fun hn => ?_
    rw [bit_lt hm (by omega)] at hb;cases hb
   by_cases e : i = y
   ·subst e;simp [Nat.testBit_or, Nat.testBit_two_pow]
   ·have := h i y h1 hy h2 hb e
    simp [Nat.testBit_or, nb_bit, hy, this]

theorem alike_bl {es : List S80} {n m : Nat} (hm : m < 2 ^ n) : alikeB es true (bl n m) = cliqueB es n m := by
 rw [Bool.eq_iff_iff, cliqueB_iff hm]
 have hp := List.pairwise_iff_getElem.1 (bl_pairwise n m)
 unfold alikeB
 simp only [List.all_eq_true, List.mem_range, beq_iff_eq]
 constructor
 ·intro h x y hx hy bx hb hne
  obtain ⟨i, hi, e1⟩ := List.getElem_of_mem (mem_bl_nat.2 ⟨hx, bx⟩ : (x : Int) ∈ bl n m)
  obtain ⟨j, hj, e2⟩ := List.getElem_of_mem (mem_bl_nat.2 ⟨hy, hb⟩ : (y : Int) ∈ bl n m)
  rcases Nat.lt_trichotomy i j with c | c | c
  ·have := h j hj i c
   rw [rd_lt _ j hj, rd_lt _ i hi, e1, e2, near_comm] at this
   exact this
  ·subst c;rw [e1] at e2;omega
  ·have := h i hi j c
   rw [rd_lt _ i hi, rd_lt _ j hj, e1, e2] at this
   exact this
 ·intro h i hi k hk
  have hki : k < (bl n m).length := by omega
  rw [rd_lt _ i hi, rd_lt _ k hki]
  obtain ⟨a, a1, a2, ae⟩ := mem_bl.1 (List.getElem_mem hi)
  obtain ⟨c, c1, c2, ce⟩ := mem_bl.1 (List.getElem_mem hki)
  have hlt := hp k i hki hi hk
  rw [ae, ce]
  exact h a c a1 c1 a2 c2 (by intro e;subst e;rw [ae, ce] at hlt;omega)

theorem closed_eq {es : List S80} {n x : Nat} (hn : n ≤ 8) (hx : x < n) : impl_net_closed.f (nets es n) (x : Int) = some (((nb es n x ||| 2 ^ x : Nat)) : Int) := by
 unfold impl_net_closed.f
 rw [if_pos (by omega), if_pos (by rw [nets_len];omega), nets_rd hx, shl_one (by omega), gor _ _ (lt62 hn (nb_lt es n x)) (lt62 hn (Nat.pow_lt_pow_right (by decide) hx))]

theorem isClique_ev {es : List S80} {n m : Nat} (hn : n ≤ 8) (hm : m < 2 ^ n) : Ev (fun k => impl_net_isClique.f k (nets es n) m) (cliqueB es n m) := by
 unfold impl_net_isClique.f
 rw [Ev.bind_iff (setOf_ev n m hn hm)]
 have hoff : ∀ x ∈ bl n m, (impl_net_closed.f (nets es n) x).isSome = true ∧ offClique (nets es n) m x = decide (mns m (nb es n x.toNat ||| 2 ^ x.toNat) ≠ 0) := fun x hx => by
  obtain ⟨i, h1, h2, rfl⟩ := mem_bl.1 hx
  have hc := closed_eq (es := es) hn h1
  have hlt : nb es n i ||| 2 ^ i < 2 ^ n := Nat.or_lt_two_pow (nb_lt es n i) (Nat.pow_lt_pow_right (by decide) h1)
  refine ⟨by rw [hc];rfl, ?_⟩
  unfold offClique
  rw [hc]
  simp only [Int.toNat_natCast]
  rw [gandn _ _ (lt62 hn hm) (lt62 hn hlt), Bool.eq_iff_iff]
  simp only [bne_iff_ne, decide_eq_true_eq]
  omega
 have hany : (bl n m).any (offClique (nets es n) m) = (bl n m).any fun x => decide (mns m (nb es n x.toNat ||| 2 ^ x.toNat) ≠ 0) := by
  rw [Bool.eq_iff_iff, List.any_eq_true, List.any_eq_true]
  constructor
  ·rintro ⟨x, hx, h⟩;exact ⟨x, hx, by rw [← (hoff x hx).2];exact h⟩
  ·rintro ⟨x, hx, h⟩;exact ⟨x, hx, by rw [(hoff x hx).2];exact h⟩
 have hn2 : notClique (nets es n) m (bl n m) = some ((bl n m).any fun x => decide (mns m (nb es n x.toNat ||| 2 ^ x.toNat) ≠ 0)) := by
  unfold notClique
  rw [if_pos (fun x hx => (hoff x hx).1), hany]
 rw [hn2]
 simp only [Option.bind_some, Ev.now_iff]
 rfl

/-- The greatest number of edges of a list no two of which have a common node, or a node of u. -/
def eL : List S80 → List Int → Nat
 | [], _ => 0
 | e :: L, u => if e.f0 ∈ u ∨ e.f1 ∈ u then eL L u else max (1 + eL L (u ++ [e.f0, e.f1])) (eL L u)

theorem cloneI_eq {l : List Int} (h : l.length < 17592186044416) : slices_Clone_int_int.f l = some l := by
 unfold slices_Clone_int_int.f
 simp only [Option.bind_some, List.length_nil, List.nil_append, Nat.zero_add, h, ↓reduceIte]

/-- The cliques, a node given to the i-th one (or to a new one). -/
def nxtC (x : Nat) (cs : List Nat) (i : Nat) : List Nat := if i = cs.length then cs ++ [2 ^ x] else cs.set i (cs.getD i 0 ||| 2 ^ x)

/-- The first cover by at most m cliques that begins with these; F nodes are left. -/
def filC (es : List S80) (n m : Nat) : Nat → List Nat → Option (List Nat)
 | 0, cs => some cs
 | F + 1, cs => (List.range (min m (cs.length + 1))).findSome? fun i => if cliqueB es n ((nxtC (n - (F + 1)) cs i).getD i 0) then filC es n m F (nxtC (n - (F + 1)) cs i) else none

def rowsC (n : Nat) (cs : List Nat) : List (List Int) := cs.map (bl n)

def outC (n : Nat) : Option (List Nat) → List (List Int) × Bool
 | some cs => (rowsC n cs, true)
 | none => ([], false)

def maskC : Option (List Nat) → List Int × Bool
 | some cs => (cs.map fun (c : Nat) => (c : Int), true)
 | none => ([], false)

structure Cov (x : Nat) (cs : List Nat) : Prop where
 len : cs.length ≤ x
 lt : ∀ c ∈ cs, c < 2 ^ x

theorem nxtC_cov {x i : Nat} {cs : List Nat} (h : Cov x cs) : Cov (x + 1) (nxtC x cs i) := by
 have hp : 2 ^ x < 2 ^ (x + 1) := Nat.pow_lt_pow_right (by decide) (by omega)
 unfold nxtC
 split
 ·refine ⟨by have := h.len;rw [List.length_append, List.length_singleton];omega, fun c hc => ?_⟩
  rcases List.mem_append.1 hc with hc | hc
  ·exact Nat.lt_trans (h.lt c hc) hp
  ·rw [List.mem_singleton.1 hc];exact hp
 ·refine ⟨by have := h.len;rw [List.length_set];omega, fun c hc => ?_⟩
  rcases List.mem_or_eq_of_mem_set hc with hc | rfl
  ·exact Nat.lt_trans (h.lt c hc) hp
  ·refine Nat.or_lt_two_pow (Nat.lt_trans ?_ hp) hp
   rw [List.getD_eq_getElem?_getD]
   rcases Nat.lt_or_ge i cs.length with hi | hi
   ·rw [List.getElem?_eq_getElem hi];exact h.lt _ (List.getElem_mem hi)
   ·rw [List.getElem?_eq_none hi];exact Nat.two_pow_pos x

theorem nxtC_len {x i : Nat} {cs : List Nat} (hi : i ≤ cs.length) : i < (nxtC x cs i).length := by
 unfold nxtC
 split
 ·rename_i e;rw [List.length_append, List.length_singleton];omega
 ·rw [List.length_set];omega

end Go.Proofs.Ytaddgielnfhhpaa.QLeastCliqueCover
