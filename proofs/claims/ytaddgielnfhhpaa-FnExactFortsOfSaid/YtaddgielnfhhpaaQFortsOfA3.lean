import Derived.Test.YtaddgielnfhhpaaQFortsOf0
import Derived.Test.YtaddgielnfhhpaaQFortsOf12
import Derived.Test.YtaddgielnfhhpaaQFortsOf4
import Derived.Test.YtaddgielnfhhpaaQFortsOf8
import Derived.Test.YtaddgielnfhhpaaQFortsOf9
import Derived.Test.YtaddgielnfhhpaaQFortsOfA2
namespace Go.Proofs.Ytaddgielnfhhpaa.QFortsOf
open Go.RowKit Go.Proofs.YtaddgielnfhhpaaW.PrintWords Go.Proofs.YtaddgielnfhhpaaW.PrintLast Go.Proofs.YtaddgielnfhhpaaW.PrintMore
attribute [local go_sem] max2_int min2_int max_two min_two max_three min_three max_four min_four   -- for this text's walks alone
set_option linter.unusedVariables false
set_option linter.unusedSimpArgs false
theorem setsC_ints {n : Nat} (hn : n ≤ 8) : ordL (upL (2 ^ n)) = isI (setsC n) := by
 unfold isI setsC
 rw [List.map_map]
 symm
 refine (List.map_congr_left (g := id) fun x hx => ?_).trans (List.map_id _)
 obtain ⟨i, _, rfl⟩ := (ordL_mem hn).1 hx
 simp

theorem setsC_mem {n m : Nat} (hn : n ≤ 8) : m ∈ setsC n ↔ m < 2 ^ n := by
 unfold setsC
 rw [List.mem_map]
 constructor
 ·rintro ⟨x, hx, rfl⟩
  obtain ⟨i, hi, rfl⟩ := (ordL_mem hn).1 hx
  rwa [Int.toNat_natCast]
 ·intro h
  exact ⟨(m : Int), (ordL_mem hn).2 ⟨m, h, rfl⟩, Int.toNat_natCast m⟩

theorem setsC_len (n : Nat) : (setsC n).length = 2 ^ n := by simp [setsC, ordL, ordF, upL]

theorem setsC_nodup {n : Nat} (hn : n ≤ 8) : (setsC n).Pairwise (fun a b => a ≠ b) := by
 have h8 := p8 hn
 unfold setsC ordL ordF
 rw [List.pairwise_map, List.pairwise_map]
 have h : ((upL (2 ^ n)).map f256).Pairwise (fun a b => ((a.val : Nat) : Int).toNat ≠ ((b.val : Nat) : Int).toNat) := by
  unfold upL
  rw [List.pairwise_map, List.pairwise_map]
  refine (List.nodup_range (n := 2 ^ n)).imp_of_mem (fun {a b} ha hb hab e => hab ?_)
  have ha := List.mem_range.1 ha
  have hb := List.mem_range.1 hb
  simp only [f256, Int.toNat_natCast] at e
  rw [Nat.mod_eq_of_lt (by omega), Nat.mod_eq_of_lt (by omega)] at e
  exact e
 exact ((List.mergeSort_perm _ _).pairwise_iff (fun {_ _} g e => g e.symm)).2 h

theorem setsC_strict {n : Nat} (hn : n ≤ 8) : (setsC n).Pairwise (fun a b => betM n a b = true) := by
 have h1 : (setsC n).Pairwise (fun a b => betM 8 b a = false) := by unfold setsC;rw [List.pairwise_map];exact ordL_sorted _
 refine (h1.and (setsC_nodup hn)).imp_of_mem (fun {a b} ha hb h => ?_)
 have ha := (setsC_mem hn).1 ha
 have hb := (setsC_mem hn).1 hb
 cases g : betM n a b with
 | true => rfl
 | false => exact absurd (betM_tot ha hb g (by rw [betM_wide hn hb ha];exact h.1)) h.2

theorem strict_ext {n : Nat} : ∀ {l m : List Nat}, l.Pairwise (fun a b => betM n a b = true) → m.Pairwise (fun a b => betM n a b = true) → (∀ x, x ∈ l ↔ x ∈ m) → l = m
 | [], [], _, _, _ => rfl
 | [], b :: _, _, _, h => absurd ((h b).2 (List.mem_cons_self)) List.not_mem_nil
 | a :: _, [], _, _, h => absurd ((h a).1 (List.mem_cons_self)) List.not_mem_nil
 | a :: s, b :: t, h1, h2, h => by
  rw [List.pairwise_cons] at h1 h2
  have hirr : ∀ x, betM n x x ≠ true := fun x e => by rw [betM_irr] at e;cases e
  have e : a = b := by
   rcases List.mem_cons.1 ((h a).1 List.mem_cons_self) with e | e
   ·exact e
   ·rcases List.mem_cons.1 ((h b).2 List.mem_cons_self) with g | g
    ·exact g.symm
    ·exact absurd (betM_trans (h2.1 a e) (h1.1 b g)) (hirr b)
  subst e
  rw [strict_ext h1.2 h2.2 (fun x => ?_)]
  constructor
  ·intro hx
   rcases List.mem_cons.1 ((h x).1 (List.mem_cons_of_mem _ hx)) with e | e
   ·subst e;exact absurd (h1.1 x hx) (hirr x)
   ·exact e
  ·intro hx
   rcases List.mem_cons.1 ((h x).2 (List.mem_cons_of_mem _ hx)) with e | e
   ·subst e;exact absurd (h2.1 x hx) (hirr x)
   ·exact e

def selC (n many code m : Nat) : Bool := decide ((bl n m).length < many ∨ ((bl n m).length = many ∧ m < code))

def partC (n many code : Nat) : List Nat := (setsC n).filter (selC n many code)

theorem partC_mem {n many code m : Nat} (hn : n ≤ 8) : m ∈ partC n many code ↔ m < 2 ^ n ∧ ((bl n m).length < many ∨ ((bl n m).length = many ∧ m < code)) := by
 unfold partC selC
 rw [List.mem_filter, setsC_mem hn, decide_eq_true_eq]

theorem partC_strict {n many code : Nat} (hn : n ≤ 8) : (partC n many code).Pairwise (fun a b => betM n a b = true) := (setsC_strict hn).sublist (List.filter_sublist)

theorem partC_len {n many code : Nat} (hn : n ≤ 8) : (partC n many code).length ≤ 256 := by
 have h1 := List.length_filter_le (selC n many code) (setsC n)
 rw [setsC_len] at h1
 have := p8 hn
 unfold partC
 omega

theorem ins_strict {n c p : Nat} {M : List Nat} (hM : M.Pairwise (fun a b => betM n a b = true)) (ht : ∀ x ∈ M.take p, betM n x c = true) (hd : ∀ x ∈ M.drop p, betM n c x = true) :
  (M.take p ++ [c] ++ M.drop p).Pairwise (fun a b => betM n a b = true) := by
 rw [List.append_assoc, List.pairwise_append]
 refine ⟨hM.sublist (List.take_sublist _ _), ?_, ?_⟩
 ·rw [List.singleton_append, List.pairwise_cons]
  exact ⟨hd, hM.sublist (List.drop_sublist _ _)⟩
 ·intro x hx y hy
  rw [List.singleton_append] at hy
  rcases List.mem_cons.1 hy with e | e
  ·subst e;exact ht x hx
  ·exact betM_trans (ht x hx) (hd y e)

theorem ins_part {n many c p : Nat} (hn : n ≤ 8) (hc : c < 2 ^ n) (hl : (bl n c).length = many) (ht : ∀ x ∈ (partC n many c).take p, betM n x c = true) (hd : ∀ x ∈ (partC n many c).drop p, betM n c x = true) :
  (partC n many c).take p ++ [c] ++ (partC n many c).drop p = partC n many (c + 1) := by
 refine strict_ext (ins_strict (partC_strict hn) ht hd) (partC_strict hn) (fun x => ?_)
 have e : x ∈ (partC n many c).take p ++ [c] ++ (partC n many c).drop p ↔ x = c ∨ x ∈ partC n many c := by
  conv => rhs;rw [← List.take_append_drop p (partC n many c)]
  simp only [List.mem_append, List.mem_singleton]
  constructor
  ·rintro ((h | h) | h)
   ·exact .inr (.inl h)
   ·exact .inl h
   ·exact .inr (.inr h)
  ·rintro (h | h | h)
   ·exact .inl (.inr h)
   ·exact .inl (.inl h)
   ·exact .inr h
 rw [e, partC_mem hn, partC_mem hn]
 constructor
 ·rintro (h | ⟨h1, h2⟩)
  ·subst h;exact ⟨hc, .inr ⟨hl, by omega⟩⟩
  ·exact ⟨h1, by omega⟩
 ·rintro ⟨h1, h2⟩
  by_cases e : x = c
  ·exact .inl e
  ·exact .inr ⟨h1, by omega⟩

theorem take_before {n c p : Nat} {M : List Nat} (hM : M.Pairwise (fun a b => betM n a b = true)) (hp : p < M.length) (h : betM n M[p] c = true) : ∀ x ∈ M.take (p + 1), betM n x c = true := by
 intro x hx
 have h1 := hM.sublist (List.take_sublist (p + 1) M)
 rw [List.take_succ_eq_append_getElem hp] at h1 hx
 rw [List.pairwise_append] at h1
 rcases List.mem_append.1 hx with e | e
 ·exact betM_trans (h1.2.2 x e _ (List.mem_singleton_self _)) h
 ·rw [List.mem_singleton.1 e];exact h

theorem l5Sets_l2 {es : List S80} {n many c : Nat} {K : List (List Int)} (hn : n ≤ 8) (hc : c < 2 ^ n) (hl : (bl n c).length = many)
  (hK : Ev (fun g => spec_l5Sets.l1 g ((n + 1 : Nat) : Int) ((partC n many (c + 1)).map (bl n)) many ((c + 1 : Nat) : Int) n es) K) :
  ∀ p, p ≤ (partC n many c).length → (∀ x ∈ (partC n many c).drop p, betM n c x = true) →
  Ev (fun g => spec_l5Sets.l2 g ((n + 1 : Nat) : Int) ((partC n many c).map (bl n)) many c (bl n c) p n es) K := by
 have hM := partC_strict (n := n) (many := many) (code := c) hn
 have hML := partC_len (n := n) (many := many) (code := c) hn
 have h8 := p8 hn
 have hins : ∀ p, p ≤ (partC n many c).length → (∀ x ∈ (partC n many c).drop p, betM n c x = true) → (∀ x ∈ (partC n many c).take p, betM n x c = true) →
   Ev (fun g => spec_l5Sets.l1 g ((n + 1 : Nat) : Int) (([] ++ ((partC n many c).map (bl n)).take p ++ [bl n c]) ++ ((partC n many c).map (bl n)).drop p) many ((c + 1 : Nat) : Int) n es) K := by
  intro p hp hd ht
  have e : ([] ++ ((partC n many c).map (bl n)).take p ++ [bl n c]) ++ ((partC n many c).map (bl n)).drop p = (partC n many (c + 1)).map (bl n) := by
   rw [← ins_part hn hc hl ht hd, List.map_append, List.map_append, List.map_take, List.map_drop, List.nil_append];rfl
  rw [e];exact hK
 have hlen : ((partC n many c).map (bl n)).length = (partC n many c).length := List.length_map _
 intro p
 induction p with
 | zero =>
  intro hp hd
  rw [Ev.iff_succ]
  simp only [spec_l5Sets.l2, Option.bind_some, Int.toNat_natCast, w64_succ c (show c < 9223372036854775807 by omega)]
  rw [Ev.ite_iff, if_neg (by omega), Ev.ite_iff, if_pos (by omega), Ev.ite_iff, if_pos (by omega), Ev.ite_iff, if_pos (by simp), Ev.ite_iff, if_pos (by simp), Ev.ite_iff, if_pos (by simp;omega)]
  exact hins 0 hp hd (fun x hx => by simp at hx)
 | succ p ih =>
  intro hp hd
  have hpl : p < (partC n many c).length := by omega
  have hw : wrap64 (((p + 1 : Nat) : Int) - 1) = (p : Int) := by rw [w64 (by omega) (by omega)];omega
  have hrd : rd_L2 ((partC n many c).map (bl n)) (p : Int) = bl n (partC n many c)[p] := by simp [rd_L2, hpl]
  have htl : (((partC n many c).map (bl n)).take (p + 1)).length ≤ 256 := by rw [List.length_take];omega
  have hdl : (((partC n many c).map (bl n)).drop (p + 1)).length ≤ 256 := by rw [List.length_drop];omega
  have hmem := (partC_mem hn).1 (List.getElem_mem hpl)
  have hdrop := List.drop_eq_getElem_cons hpl
  have hbl1 := bl_len_le n c
  have hbl2 := bl_len_le n (partC n many c)[p]
  have hb : ∀ h : betM n c (partC n many c)[p] = false, ∀ x ∈ (partC n many c).take (p + 1), betM n x c = true := fun h => take_before hM hpl (by
   cases g : betM n (partC n many c)[p] c with
   | true => rfl
   | false =>
    have e := betM_tot hc hmem.1 h g
    rw [← e] at hmem
    omega)
  generalize (partC n many c)[p] = y at hrd hmem hdrop hb hbl2
  rw [Ev.iff_succ]
  simp only [spec_l5Sets.l2, Option.bind_some, Int.toNat_natCast, w64_succ c (show c < 9223372036854775807 by omega), hw, hrd]
  rw [Ev.ite_iff, if_pos (by omega), Ev.ite_iff, if_pos (by omega), Ev.ite_iff, if_pos (by omega), Ev.ite_iff]
  by_cases hy : (bl n y).length = many
  ·rw [if_pos (by omega), Ev.bind_iff (l5Less_ev _ _ (by omega) (by omega)), Ev.ite_iff]
   cases hle : lexLt (bl n c) (bl n y) with
   | true =>
    rw [if_pos rfl]
    refine ih (by omega) (fun x hx => ?_)
    rw [hdrop] at hx
    rcases List.mem_cons.1 hx with e | e
    ·subst e;simp [betM, hl, hy, hle]
    ·exact hd x e
   | false =>
    rw [if_neg (by decide), Ev.ite_iff, if_pos (by omega), Ev.ite_iff, if_pos (by omega), Ev.ite_iff, if_pos (by simp only [List.length_nil];omega), Ev.ite_iff, if_pos (by simp only [List.length_append, List.length_nil, List.length_cons];omega), Ev.ite_iff, if_pos (by simp only [List.length_append, List.length_nil, List.length_cons];omega)]
    exact hins (p + 1) hp hd (hb (by simp [betM, hl, hy, hle]))
  ·rw [if_neg (by omega), Ev.ite_iff, if_pos (by omega), Ev.ite_iff, if_pos (by omega), Ev.ite_iff, if_pos (by simp only [List.length_nil];omega), Ev.ite_iff, if_pos (by simp only [List.length_append, List.length_nil, List.length_cons];omega), Ev.ite_iff, if_pos (by simp only [List.length_append, List.length_nil, List.length_cons];omega)]
   have h3 : ¬ (bl n c).length < (bl n y).length := by omega
   have h4 : ¬ (bl n c).length = (bl n y).length := by omega
   exact hins (p + 1) hp hd (hb (by simp [betM, h3, h4]))

theorem partC_done {n : Nat} (hn : n ≤ 8) : partC n (n + 1) 0 = setsC n := strict_ext (partC_strict hn) (setsC_strict hn) fun x => by
 rw [partC_mem hn, setsC_mem hn]
 have := bl_len_le n x
 exact ⟨fun h => h.1, fun h => ⟨h, .inl (by omega)⟩⟩

theorem partC_next {n many : Nat} (hn : n ≤ 8) : partC n many (2 ^ n) = partC n (many + 1) 0 := strict_ext (partC_strict hn) (partC_strict hn) fun x => by
 rw [partC_mem hn, partC_mem hn]
 constructor
 ·rintro ⟨h1, h2⟩;exact ⟨h1, .inl (by omega)⟩
 ·rintro ⟨h1, h2⟩;exact ⟨h1, by omega⟩

theorem partC_skip {n many c : Nat} (hn : n ≤ 8) (h : (bl n c).length ≠ many) : partC n many c = partC n many (c + 1) := strict_ext (partC_strict hn) (partC_strict hn) fun x => by
 rw [partC_mem hn, partC_mem hn]
 constructor
 ·rintro ⟨h1, h2⟩;exact ⟨h1, by omega⟩
 ·rintro ⟨h1, h2⟩
  refine ⟨h1, ?_⟩
  by_cases e : x = c
  ·subst e;omega
  ·omega

theorem l5Sets_ev (es : List S80) {n : Nat} (hn : n ≤ 8) : Ev (fun g => spec_l5Sets.f g n es ((n + 1 : Nat) : Int)) ((setsC n).map (bl n)) := by
 have h8 := p8 hn
 have H := down (n + 1) (fun many => Ev (fun g => spec_l5Sets.l0 g ((n + 1 : Nat) : Int) ((partC n many 0).map (bl n)) many n es) ((setsC n).map (bl n))) ?_ ?_ 0 (by omega)
 ·have e : partC n 0 0 = [] := List.eq_nil_iff_forall_not_mem.2 (fun x hx => by have := (partC_mem hn).1 hx;omega)
  rw [e] at H
  exact H
 ·show Ev _ _
  rw [partC_done hn, Ev.iff_succ]
  simp only [spec_l5Sets.l0, Int.lt_irrefl, ↓reduceIte, Ev.now_iff]
 ·intro many hm ih
  show Ev _ _
  rw [Ev.iff_succ]
  simp only [spec_l5Sets.l0]
  rw [Ev.ite_iff, if_pos (by omega)]
  have G := down (2 ^ n) (fun c => Ev (fun g => spec_l5Sets.l1 g ((n + 1 : Nat) : Int) ((partC n many c).map (bl n)) many c n es) ((setsC n).map (bl n))) ?_ ?_ 0 (Nat.zero_le _)
  ·exact G
  ·show Ev _ _
   rw [partC_next hn, Ev.iff_succ]
   simp only [spec_l5Sets.l1, shl_one (show n < 62 by omega), Int.lt_irrefl, ↓reduceIte]
   rw [Ev.ite_iff, if_pos (by omega), w64_succ many (by omega)]
   exact ih
  ·intro c hc jh
   show Ev _ _
   rw [Ev.iff_succ]
   have hc9 : c < 9223372036854775807 := Nat.lt_of_lt_of_le hc (Nat.le_trans h8 (by decide))
   simp only [spec_l5Sets.l1, shl_one (show n < 62 by omega)]
   rw [Ev.ite_iff, if_pos (by omega), Ev.ite_iff, if_pos (by omega), Ev.bind_iff (l2Bits_ev n c hn hc), Ev.ite_iff]
   by_cases e : (bl n c).length = many
   ·rw [if_pos (by omega), List.length_map]
    exact l5Sets_l2 hn hc e jh _ (Nat.le_refl _) (fun x hx => by rw [List.drop_eq_nil_of_le (Nat.le_refl _)] at hx;cases hx)
   ·rw [if_neg (by omega), w64_succ c hc9, partC_skip hn e]
    exact jh

theorem part_iff {n a b : Nat} (ha : a < 2 ^ n) : ((bl n a).all fun x => decide (x ∈ bl n b)) = decide (mns a b = 0) := by
 rw [Bool.eq_iff_iff, List.all_eq_true, decide_eq_true_eq]
 constructor
 ·intro h
  refine mask_ext (mns_lt b ha) (Nat.two_pow_pos n) (fun i hi => ?_)
  rw [mns_bit, Nat.zero_testBit]
  cases e : a.testBit i with
  | false => rfl
  | true =>
   have := of_decide_eq_true (h (i : Int) (mem_bl_nat.2 ⟨hi, e⟩))
   rw [(mem_bl_nat.1 this).2];rfl
 ·intro h x hx
  obtain ⟨i, h1, h2, rfl⟩ := mem_bl.1 hx
  have h3 := congrArg (fun z => z.testBit i) h
  simp only [mns_bit, h2, Nat.zero_testBit, Bool.true_and, Bool.not_eq_false'] at h3
  exact decide_eq_true (mem_bl_nat.2 ⟨h1, h3⟩)

theorem l7Part_ev {n a b : Nat} (hn : n ≤ 8) (ha : a < 2 ^ n) : Ev (fun k => spec_l7Part.f k (bl n a) (bl n b)) (decide (mns a b = 0)) := by
 have h1 := bl_len_le n a
 have h2 := bl_len_le n b
 have H := down (bl n a).length (fun i => Ev (fun k => spec_l7Part.l0 k (bl n a) (bl n b) i) (((bl n a).drop i).all fun x => decide (x ∈ bl n b))) ?_ ?_ 0 (by omega)
 ·rw [List.drop_zero, part_iff ha] at H
  exact H
 ·show Ev _ _
  rw [Ev.iff_succ]
  simp only [spec_l7Part.l0, Int.lt_irrefl, ↓reduceIte, Ev.now_iff]
  rw [List.drop_eq_nil_of_le (Nat.le_refl _)];rfl
 ·intro i hi ih
  show Ev _ _
  rw [Ev.iff_succ]
  simp only [spec_l7Part.l0]
  rw [Ev.ite_iff, if_pos (by omega), Ev.ite_iff, if_pos (by omega), Ev.bind_iff (l1Has_ev (bl n b) _ (by omega)), rd_lt _ i hi, List.drop_eq_getElem_cons hi, List.all_cons, w64_succ i (by omega)]
  by_cases e : (bl n a)[i] ∈ bl n b
  ·rw [Ev.ite_iff, if_pos (decide_eq_true e), decide_eq_true e, Bool.true_and];exact ih
  ·rw [Ev.ite_iff, if_neg (by rw [decide_eq_true_eq];exact e), decide_eq_false e, Bool.false_and, Ev.now_iff]

def okF (acc : List Nat) (s : Nat) : Bool := acc.all fun f => !decide (mns f s = 0)

def fortS (es : List S80) (n : Nat) (acc : List Nat) (s : Nat) : List Nat := if (fortB es n s && okF acc s) = true then acc ++ [s] else acc

def fortL (es : List S80) (n : Nat) (acc l : List Nat) : List Nat := l.foldl (fortS es n) acc

theorem fortL_drop {es : List S80} {n i : Nat} {acc l : List Nat} (h : i < l.length) : fortL es n acc (l.drop i) = fortL es n (fortS es n acc l[i]) (l.drop (i + 1)) := by
 rw [List.drop_eq_getElem_cons h];rfl

theorem fortS_len (es : List S80) (n : Nat) (acc : List Nat) (s : Nat) : (fortS es n acc s).length ≤ acc.length + 1 := by
 unfold fortS;split
 ·simp
 ·omega

theorem fortS_lt {es : List S80} {n s : Nat} {acc : List Nat} (h : ∀ f ∈ acc, f < 2 ^ n) (hs : s < 2 ^ n) : ∀ f ∈ fortS es n acc s, f < 2 ^ n := by
 intro f hf
 unfold fortS at hf
 split at hf
 ·rcases List.mem_append.1 hf with e | e
  ·exact h f e
  ·rw [List.mem_singleton.1 e];exact hs
 ·exact h f hf

theorem fortL_len {es : List S80} {n : Nat} : ∀ (l acc : List Nat), (fortL es n acc l).length ≤ acc.length + l.length
 | [], acc => Nat.le_refl _
 | s :: l, acc => by
  have h1 := fortL_len (es := es) (n := n) l (fortS es n acc s)
  have h2 := fortS_len es n acc s
  rw [List.length_cons]
  show (fortL es n (fortS es n acc s) l).length ≤ _
  omega

def fortsOfR (n : Int) (es : List S80) : List (List Int) × Bool := if okG n es then ((fortL es n.toNat [] (setsC n.toNat)).map (bl n.toNat), true) else ([], false)

theorem fortsOfR_len (n : Int) (es : List S80) : (fortsOfR n es).1.length ≤ 1048576 ∧ (∀ r ∈ (fortsOfR n es).1, r.length ≤ 1048576) ∧ ((fortsOfR n es).1.map List.length).sum ≤ 1099511627776 := by
 unfold fortsOfR
 split
 ·rename_i h
  obtain ⟨N, rfl, hN⟩ := okG_use h
  rw [Int.toNat_natCast]
  have h1 := fortL_len (es := es) (n := N) (setsC N) []
  have h8 := p8 hN
  rw [setsC_len] at h1
  simp only [List.length_nil] at h1
  generalize fortL es N [] (setsC N) = L at h1
  refine ⟨by simp only [List.length_map];omega, fun r hr => ?_, ?_⟩
  ·obtain ⟨x, _, rfl⟩ := List.mem_map.1 hr
   have := bl_len_le N x;omega
  ·have : ∀ l : List Nat, (((l.map (bl N)).map List.length).sum) ≤ l.length * 8 := by
    intro l
    induction l with
    | nil => simp
    | cons a l ih =>
     have := bl_len_le N a
     simp only [List.map_cons, List.sum_cons, List.length_cons];omega
   have := this L
   show ((L.map (bl N)).map List.length).sum ≤ _
   omega
 ·simp

theorem specFortsOf_ev (n : Int) (es : List S80) (he : es.length ≤ 9223372036854775807) : Ev (fun k => spec_FortsOf.f k n es) (fortsOfR n es) := by
 unfold spec_FortsOf.f fortsOfR
 simp only [Option.bind_some, l2Good_eq]
 rw [Ev.ite_iff]
 by_cases h : okG n es = true
 ·obtain ⟨N, rfl, hN⟩ := okG_use h
  have h8 := p8 hN
  rw [if_pos h, if_pos h, w64_succ N (by omega), Ev.bind_iff (l5Sets_ev es hN), Int.toNat_natCast]
  have hcl := setsC_len N
  have hml : ((setsC N).map (bl N)).length = (setsC N).length := List.length_map _
  have H := down (setsC N).length (fun i => ∀ acc : List Nat, acc.length ≤ i → (∀ f ∈ acc, f < 2 ^ N) → Ev (fun k => spec_FortsOf.l0 k (acc.map (bl N)) ((setsC N).map (bl N)) i N es) ((fortL es N acc ((setsC N).drop i)).map (bl N), true)) ?_ ?_ 0 (by omega)
  ·exact H [] (Nat.le_refl _) (fun f hf => by cases hf)
  ·intro acc _ _
   show Ev _ _
   rw [List.drop_eq_nil_of_le (Nat.le_refl _), Ev.iff_succ]
   simp only [spec_FortsOf.l0, hml, Int.lt_irrefl, ↓reduceIte, Ev.now_iff]
   rfl
  ·intro i hi ih acc hal hac
   show Ev _ _
   have hs := (setsC_mem hN).1 (List.getElem_mem hi)
   have hrd : rd_L2 ((setsC N).map (bl N)) (i : Int) = bl N (setsC N)[i] := by simp [rd_L2, hi]
   rw [fortL_drop hi]
   generalize (setsC N)[i] = s at hs hrd
   have ih := ih (fortS es N acc s) (by have := fortS_len es N acc s;omega) (fortS_lt hac hs)
   rw [Ev.iff_succ]
   simp only [spec_FortsOf.l0, hml, hrd]
   rw [Ev.ite_iff, if_pos (by omega), Ev.ite_iff, if_pos (by omega), Ev.bind_iff (l9Fort_ev hN hs he)]
   have hal2 : (acc.map (bl N)).length = acc.length := List.length_map _
   have G := down acc.length (fun j => ∀ b : Bool, (b && (acc.drop j).all fun f => !decide (mns f s = 0)) = (fortB es N s && okF acc s) → Ev (fun k => spec_FortsOf.l1 k (acc.map (bl N)) ((setsC N).map (bl N)) i b j N es) ((fortL es N (fortS es N acc s) ((setsC N).drop (i + 1))).map (bl N), true)) ?_ ?_ 0 (by omega)
   ·exact G _ (by rw [List.drop_zero];rfl)
   ·intro b hb
    show Ev _ _
    rw [List.drop_eq_nil_of_le (Nat.le_refl _), List.all_nil, Bool.and_true] at hb
    rw [Ev.iff_succ]
    simp only [spec_FortsOf.l1, hal2, hml, hrd, Int.lt_irrefl, ↓reduceIte, w64_succ i (show i < 9223372036854775807 by omega)]
    unfold fortS at ih ⊢
    rw [Ev.ite_iff]
    rw [← hb] at ih ⊢
    cases b with
    | true =>
     simp only [↓reduceIte] at ih ⊢
     rw [Ev.ite_iff, if_pos (by omega), Ev.ite_iff, if_pos (by omega), Ev.ite_iff, if_pos (by omega)]
     rw [List.map_append] at ih
     exact ih
    | false =>
     simp only [Bool.false_eq_true, ↓reduceIte] at ih ⊢
     exact ih
   ·intro j hj jh b hb
    show Ev _ _
    have hf := hac _ (List.getElem_mem hj)
    have hrf : rd_L2 (acc.map (bl N)) (j : Int) = bl N acc[j] := by simp [rd_L2, hj]
    rw [List.drop_eq_getElem_cons hj, List.all_cons] at hb
    generalize acc[j] = f at hf hrf hb
    rw [Ev.iff_succ]
    simp only [spec_FortsOf.l1, hal2, hml, hrd, hrf, w64_succ i (show i < 9223372036854775807 by omega)]
    rw [Ev.ite_iff, if_pos (by omega), Ev.ite_iff]
    cases b with
    | true =>
     rw [if_pos rfl, Ev.ite_iff, if_pos (by omega), Ev.ite_iff, if_pos (by omega), Ev.ite_iff, if_pos (by omega), Ev.bind_iff (l7Part_ev hN hf), w64_succ j (by omega)]
     exact jh _ (by rw [← hb, Bool.true_and])
    | false =>
     rw [if_neg (by decide)]
     unfold fortS at ih ⊢
     rw [← hb] at ih ⊢
     simp only [Bool.false_and, Bool.false_eq_true, ↓reduceIte] at ih ⊢
     exact ih
 ·rw [if_neg h, if_neg h, Ev.now_iff]

end Go.Proofs.Ytaddgielnfhhpaa.QFortsOf
