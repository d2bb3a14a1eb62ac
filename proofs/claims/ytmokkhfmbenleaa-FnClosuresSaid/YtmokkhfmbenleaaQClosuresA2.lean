import Derived.Test.YtmokkhfmbenleaaQClosures0
import Derived.Test.YtmokkhfmbenleaaQClosures13
import Derived.Test.YtmokkhfmbenleaaQClosures15
import Derived.Test.YtmokkhfmbenleaaQClosures16
import Derived.Test.YtmokkhfmbenleaaQClosures17
import Derived.Test.YtmokkhfmbenleaaQClosures18
import Derived.Test.YtmokkhfmbenleaaQClosures3
import Derived.Test.YtmokkhfmbenleaaQClosures4
import Derived.Test.YtmokkhfmbenleaaQClosures5
import Derived.Test.YtmokkhfmbenleaaQClosuresA1
namespace Go.Proofs.Ytmokkhfmbenleaa.QClosures
open Go.RowKit Go.Proofs.YtmokkhfmbenleaaW.PrintWords Go.Proofs.YtmokkhfmbenleaaW.PrintLast Go.Proofs.YtmokkhfmbenleaaW.PrintMore
attribute [local go_sem] max2_int min2_int max_two min_two max_three min_three max_four min_four   -- for this text's walks alone
set_option linter.unusedVariables false
set_option linter.unusedSimpArgs false
theorem l9All_ev (es : List S119) (n : Nat) (skew : Bool) (hn : n ≤ 8) (hl : es.length ≤ 9223372036854775807) : ∀ m, m < 2 ^ n → Ev (fun k => spec_l9All.f k n es (bl n m) skew) (bl n (closM es n skew m)) := by
 intro m hm
 have hb := bl_len_le n m
 unfold spec_l9All.f
 rw [l1Own_eq (by omega)]
 simp only [Option.bind_some]
 clear hb
 obtain ⟨d, hd⟩ : ∃ d, d = 2 ^ n - m := ⟨_, rfl⟩
 induction d using Nat.strongRecOn generalizing m with
 | _ d ih =>
  rw [Ev.iff_succ]
  simp only [spec_l9All.l0]
  rw [Ev.bind_iff (l9Once_ev es n m skew hn hm hl), Ev.ite_iff]
  unfold closM
  by_cases c : onceM es n m skew = m
  ·rw [if_pos (by rw [c]), dif_neg (by simp [c]), Ev.now_iff]
  ·have h1 := onceM_le es n m skew
   have h2 := onceM_lt (es := es) (skew := skew) hm
   have h3 : ¬ (bl n (onceM es n m skew)).length = (bl n m).length := fun h => c ((onceM_len (es := es) (skew := skew) hm).1 h)
   rw [if_neg (by omega), dif_pos ⟨hm, c⟩]
   exact ih _ (by omega) _ h2 rfl

/-- A set and its neighbors. -/
def aStep (es : List S119) (n m : Nat) (acc x : Nat) : Nat := if m.testBit x then acc ||| nb es n x else acc

def aroM (es : List S119) (n m : Nat) : Nat := (List.range n).foldl (aStep es n m) m

theorem aStep_lt {es : List S119} {n m acc x : Nat} (h : acc < 2 ^ n) : aStep es n m acc x < 2 ^ n := by
 unfold aStep; split
 ·exact Nat.or_lt_two_pow h (nb_lt _ _ _)
 ·exact h

theorem aFold_lt {es : List S119} {n m acc : Nat} (h : acc < 2 ^ n) : ∀ i, (List.range i).foldl (aStep es n m) acc < 2 ^ n
 | 0 => h
 | i + 1 => by rw [fold_range_succ]; exact aStep_lt (aFold_lt h i)

theorem aroM_lt {es : List S119} {n m : Nat} (h : m < 2 ^ n) : aroM es n m < 2 ^ n := aFold_lt h n

theorem aFold_bit (es : List S119) (n m acc y : Nat) : ∀ i, ((List.range i).foldl (aStep es n m) acc).testBit y = true ↔ acc.testBit y = true ∨ ∃ x, x < i ∧ m.testBit x = true ∧ (nb es n x).testBit y = true
 | 0 => by simp
 | i + 1 => by
  rw [fold_range_succ]
  have ih := aFold_bit es n m acc y i
  generalize (List.range i).foldl (aStep es n m) acc = b at ih ⊢
  unfold aStep
  have key : (∃ x, x < i + 1 ∧ m.testBit x = true ∧ (nb es n x).testBit y = true) ↔ (∃ x, x < i ∧ m.testBit x = true ∧ (nb es n x).testBit y = true) ∨ (m.testBit i = true ∧ (nb es n i).testBit y = true) := by
   constructor
   ·rintro ⟨x, h1, h2⟩
    by_cases e : x = i
    ·subst e; exact .inr h2
    ·exact .inl ⟨x, by omega, h2⟩
   ·rintro (⟨x, h1, h2⟩ | h2)
    ·exact ⟨x, by omega, h2⟩
    ·exact ⟨i, by omega, h2⟩
  rw [key]
  by_cases c : m.testBit i = true
  ·rw [if_pos c, Nat.testBit_or, Bool.or_eq_true, ih]; simp only [c, true_and, or_assoc]
  ·rw [if_neg c, ih]; simp only [c, false_and, or_false]; simp

theorem aroM_bit (es : List S119) (n m y : Nat) : (aroM es n m).testBit y = true ↔ m.testBit y = true ∨ ∃ x, x < n ∧ m.testBit x = true ∧ (nb es n x).testBit y = true := aFold_bit es n m m y n

theorem around_ev (es : List S119) (n m : Nat) (hn : n ≤ 8) (hm : m < 2 ^ n) : Ev (fun k => impl_net_around.f k (nets es n) m) ((aroM es n m : Nat) : Int) := by
 have H := down n (fun i => Ev (fun k => impl_net_around.l0 k m (((List.range i).foldl (aStep es n m) m : Nat) : Int) (nets es n) n i) ((aroM es n m : Nat) : Int)) ?_ ?_ 0 (by omega)
 ·simpa [impl_net_around.f, nets_len] using H
 ·show Ev _ _
  rw [Ev.iff_succ]
  simp [impl_net_around.l0, Ev.now_iff, aroM]
 ·intro i hi ih
  show Ev _ _
  rw [Ev.iff_succ]
  have h1 : (i : Int) < (n : Int) := by omega
  have h2 : (0 : Int) ≤ i := by omega
  have h3 : (i : Int) < ((nets es n).length : Int) := by rw [nets_len]; omega
  have hacc := aFold_lt (es := es) (m := m) hm i
  have hb := nb_lt es n i
  have e2 : ∀ acc : Nat, acc < 2 ^ n → Go.bits .or .i64 (acc : Int) ((nb es n i : Nat) : Int) = ((acc ||| nb es n i : Nat) : Int) := fun acc ha => gor _ _ (lt62 hn ha) (lt62 hn hb)
  rw [fold_range_succ] at ih
  generalize (List.range i).foldl (aStep es n m) m = acc at hacc ih ⊢
  unfold aStep at ih
  have e3 := shr_bit m i (lt62 hn hm) (by omega)
  simp only [impl_net_around.l0, Ev.ite_iff, h1, h2, h3, ↓reduceIte, w64_succ i (by omega), nets_rd hi, e3, e2 acc hacc]
  cases c : m.testBit i
  ·rw [c] at ih; simpa using ih
  ·rw [c] at ih; simpa using ih

theorem rd_bl {n m j : Nat} (h : j < (bl n m).length) : ∃ y, y < n ∧ m.testBit y = true ∧ (bl n m)[j] = (y : Int) := by
 obtain ⟨y, h1, h2, h3⟩ := mem_bl.1 (List.getElem_mem h)
 exact ⟨y, h1, h2, h3⟩

theorem l2Ball_ev (n : Nat) (es : List S119) (x : Nat) (hn : n ≤ 8) (hx : x < n) (hl : es.length ≤ 9223372036854775807) : Ev (fun k => spec_l2Ball.f k n es x) (bl n (nb es n x ||| 2 ^ x)) := by
 unfold spec_l2Ball.f
 rw [Ev.bind_iff (l2Neighbors_ev n es x hn hl), l1Put_bl hn hx]
 simp only [Option.bind_some, Ev.now_iff]

def powL (es : List S119) (n : Nat) : List Int → Nat → Nat
 | [], acc => acc
 | x :: s, acc => powL es n s (acc ||| (nb es n x.toNat ||| 2 ^ x.toNat))

theorem powL_lt (es : List S119) (n : Nat) : ∀ (l : List Int) (acc : Nat), (∀ x ∈ l, 0 ≤ x ∧ x < n) → acc < 2 ^ n → powL es n l acc < 2 ^ n
 | [], _, _, h => h
 | x :: s, acc, hl, h => by
  have hx := hl x (by simp)
  exact powL_lt es n s _ (fun y hy => hl y (by simp [hy])) (Nat.or_lt_two_pow h (Nat.or_lt_two_pow (nb_lt _ _ _) (Nat.pow_lt_pow_right (by decide) (by omega))))

theorem powL_bit (es : List S119) (n y : Nat) : ∀ (l : List Int) (acc : Nat), (powL es n l acc).testBit y = true ↔ acc.testBit y = true ∨ ∃ x ∈ l, (nb es n x.toNat).testBit y = true ∨ x.toNat = y
 | [], acc => by simp [powL]
 | x :: s, acc => by
  rw [powL, powL_bit es n y s, Nat.testBit_or, Nat.testBit_or, Nat.testBit_two_pow]
  simp only [Bool.or_eq_true, decide_eq_true_eq, List.mem_cons, exists_eq_or_imp, or_assoc]

theorem powL_aro {es : List S119} {n m : Nat} (hm : m < 2 ^ n) : powL es n (bl n m) 0 = aroM es n m := by
 refine mask_ext (n := n) (powL_lt es n _ _ (fun x hx => by obtain ⟨i, h1, _, rfl⟩ := mem_bl.1 hx; omega) (Nat.two_pow_pos n)) (aroM_lt hm) (fun y hy => ?_)
 rw [Bool.eq_iff_iff, powL_bit, aroM_bit]
 simp only [Nat.zero_testBit, Bool.false_eq_true, false_or]
 constructor
 ·rintro ⟨x, hx, h⟩
  obtain ⟨i, h1, h2, rfl⟩ := mem_bl.1 hx
  rw [Int.toNat_natCast] at h
  rcases h with h | h
  ·exact .inr ⟨i, h1, h2, h⟩
  ·subst h; exact .inl h2
 ·rintro (h | ⟨x, h1, h2, h3⟩)
  ·exact ⟨(y : Int), mem_bl_nat.2 ⟨hy, h⟩, .inr (by simp)⟩
  ·exact ⟨(x : Int), mem_bl_nat.2 ⟨h1, h2⟩, .inl (by simpa using h3)⟩

theorem l9Power_ev (es : List S119) (n m : Nat) (hn : n ≤ 8) (hm : m < 2 ^ n) (hl : es.length ≤ 9223372036854775807) : Ev (fun k => spec_l9Power.f k n es (bl n m)) (bl n (closM es n false (aroM es n m))) := by
 have hb := bl_len_le n m
 have H := down (bl n m).length (fun i => ∀ acc : Nat, acc < 2 ^ n → Ev (fun k => spec_l9Power.l0 k (bl n m) (bl n acc) i n es) (bl n (closM es n false (powL es n ((bl n m).drop i) acc)))) ?_ ?_ 0 (by omega) 0 (Nat.two_pow_pos n)
 ·have e : bl n 0 = [] := List.eq_nil_iff_forall_not_mem.2 (fun x hx => by obtain ⟨i, _, h2, _⟩ := mem_bl.1 hx; simp at h2)
  rw [List.drop_zero, powL_aro hm, e] at H
  exact H
 ·intro acc ha
  rw [Ev.iff_succ]
  simp only [spec_l9Power.l0, Int.lt_irrefl, ↓reduceIte]
  rw [Ev.bind_iff (l9All_ev es n false hn hl acc ha), Ev.now_iff]
  simp [powL]
 ·intro i hi ih acc ha
  rw [Ev.iff_succ]
  have h1 : (i : Int) < (bl n m).length := by omega
  have h2 : (0 : Int) ≤ i := by omega
  obtain ⟨x, hx, _, hxe⟩ := rd_bl hi
  simp only [spec_l9Power.l0, Ev.ite_iff, h1, h2, ↓reduceIte, rd_lt _ i hi, hxe]
  rw [Ev.bind_iff (l2Ball_ev n es x hn hx hl), List.drop_eq_getElem_cons hi, hxe, powL, Int.toNat_natCast]
  have hB : nb es n x ||| 2 ^ x < 2 ^ n := Nat.or_lt_two_pow (nb_lt _ _ _) (Nat.pow_lt_pow_right (by decide) hx)
  generalize nb es n x ||| 2 ^ x = B at hB ⊢
  have hbB := bl_len_le n B
  have G := down (bl n B).length (fun j => ∀ acc : Nat, acc < 2 ^ n → Ev (fun k => spec_l9Power.l1 k (bl n m) (bl n acc) i (bl n B) j n es) (bl n (closM es n false (powL es n ((bl n m).drop (i + 1)) (acc ||| mL ((bl n B).drop j)))))) ?_ ?_ 0 (by omega) acc ha
  ·rw [List.drop_zero, mL_bl hB] at G; exact G
  ·intro acc ha
   rw [Ev.iff_succ]
   simp only [spec_l9Power.l1, Int.lt_irrefl, ↓reduceIte, w64_succ i (by omega), List.drop_length, mL, Nat.or_zero]
   exact ih acc ha
  ·intro j hj jh acc ha
   rw [Ev.iff_succ]
   have g1 : (j : Int) < (bl n B).length := by omega
   have g2 : (0 : Int) ≤ j := by omega
   obtain ⟨y, hy, _, hye⟩ := rd_bl hj
   simp only [spec_l9Power.l1, Ev.ite_iff, g1, g2, ↓reduceIte, rd_lt _ j hj, hye, l1Put_bl hn hy, Option.bind_some, w64_succ j (by omega)]
   have := jh (acc ||| 2 ^ y) (Nat.or_lt_two_pow ha (Nat.pow_lt_pow_right (by decide) hy))
   rw [List.drop_eq_getElem_cons hj, hye, mL, Int.toNat_natCast, ← Nat.or_assoc]
   exact this

/-- A graph is valid and a list is a set of its nodes. -/
def setB (n : Int) (es : List S119) (l : List Int) : Bool := okG n es && (allIn 0 (wrap64 (n - 1)) l && ascB none l)

theorem setB_use {n : Int} {es : List S119} {l : List Int} (h : setB n es l = true) : ∃ N m : Nat, n = N ∧ N ≤ 8 ∧ okG N es = true ∧ (∀ e ∈ es, edgeOk N e = true) ∧ m < 2 ^ N ∧ l = bl N m ∧ mL l = m := by
 simp only [setB, Bool.and_eq_true] at h
 obtain ⟨h1, h2, h3⟩ := h
 have h4 := h1
 simp only [okG, Bool.and_eq_true, decide_eq_true_eq] at h4
 obtain ⟨N, rfl⟩ : ∃ N : Nat, n = N := ⟨n.toNat, by omega⟩
 rw [w64 (by omega) (by omega)] at h2
 have h5 : ∀ x ∈ l, 0 ≤ x ∧ x < (N : Int) := fun x hx => by
  simp only [allIn, List.all_eq_true, decide_eq_true_eq] at h2
  have := h2 x hx
  omega
 exact ⟨N, mL l, rfl, by omega, h1, goodL_all h4.2, mL_lt h5, bl_of_asc h2 h3, rfl⟩

theorem l2Good_eq (n : Int) (es : List S119) : spec_l2Good.f n es = some (okG n es) := rfl

theorem IsGraph_eq (n : Int) (es : List S119) : impl_IsGraph.f n es = some (okG n es) := rfl

theorem l2Set_ev (n : Int) (es : List S119) (l : List Int) (hl : l.length ≤ 9223372036854775807) : Ev (fun k => spec_l2Set.f k n es l) (allIn 0 (wrap64 (n - 1)) l && ascB none l) := by
 unfold spec_l2Set.f
 rw [Ev.bind_iff (l1Rising_ev l 0 _ hl), Ev.now_iff]

theorem l9Both_ev (n : Int) (es : List S119) (l : List Int) (hl : l.length ≤ 9223372036854775807) : Ev (fun k => spec_l9Both.f k n es l) (setB n es l) := by
 unfold spec_l9Both.f
 rw [l2Good_eq]
 simp only [Option.bind_some, Ev.ite_iff]
 split
 ·rename_i h
  rw [Ev.bind_iff (l2Set_ev n es l hl), Ev.now_iff, setB, h, Bool.true_and]
 ·rename_i h
  rw [Ev.now_iff, setB, Bool.eq_false_iff.2 h, Bool.false_and]

theorem hasNodes_ev (n : Int) (es : List S119) (l : List Int) (hl : l.length ≤ 9223372036854775807) : Ev (fun k => impl_hasNodes.f k n es l) (okG n es && allIn 0 (wrap64 (n - 1)) l) := by
 unfold impl_hasNodes.f
 rw [IsGraph_eq]
 simp only [Option.bind_some, Ev.ite_iff]
 split
 ·rename_i h
  rw [Ev.bind_iff (allWithin_ev l 0 _ hl), Ev.now_iff, h, Bool.true_and]
 ·rename_i h
  rw [Ev.now_iff, Bool.eq_false_iff.2 h, Bool.false_and]

theorem isSet_ev (n : Int) (es : List S119) (l : List Int) (hl : l.length ≤ 9223372036854775807) : Ev (fun k => impl_isSet.f k n es l) (setB n es l) := by
 unfold impl_isSet.f
 rw [Ev.bind_iff (hasNodes_ev n es l hl), Ev.ite_iff]
 unfold setB
 split
 ·rename_i h
  rw [Ev.bind_iff (increasing_ev l hl), Ev.now_iff, ← Bool.and_assoc, h, Bool.true_and]
 ·rename_i h
  rw [Ev.now_iff, ← Bool.and_assoc, Bool.eq_false_iff.2 h, Bool.false_and]

theorem maskOf_ev (l : List Int) (hl : l.length ≤ 9223372036854775807) (h : ∀ x ∈ l, 0 ≤ x ∧ x < 8) : Ev (fun k => impl_maskOf.f k l) ((mL l : Nat) : Int) := by
 have hm : ∀ s : List Int, (∀ x ∈ s, 0 ≤ x ∧ x < 8) → mL s < 2 ^ 8 := fun s hs => mL_lt (n := 8) hs
 have H := down l.length (fun i => ∀ acc : Nat, acc < 2 ^ 8 → Ev (fun k => impl_maskOf.l0 k acc l l.length i) ((acc ||| mL (l.drop i) : Nat) : Int)) ?_ ?_ 0 (by omega) 0 (by decide)
 ·simpa [impl_maskOf.f] using H
 ·intro acc _
  rw [Ev.iff_succ]
  simp [impl_maskOf.l0, Ev.now_iff, mL]
 ·intro i hi ih acc ha
  rw [Ev.iff_succ]
  have h1 : (i : Int) < l.length := by omega
  have h2 : (0 : Int) ≤ i := by omega
  have hx := h l[i] (List.getElem_mem hi)
  obtain ⟨a, s, e1, e2, e3, e4⟩ := dropc l i hi
  rw [e4] at hx
  obtain ⟨x, rfl⟩ : ∃ x : Nat, a = x := ⟨a.toNat, by omega⟩
  have hp : 2 ^ x < 2 ^ 8 := Nat.pow_lt_pow_right (by decide) (by omega)
  have h62 : ∀ {c : Nat}, c < 2 ^ 8 → c < 2 ^ 62 := fun h => by omega
  simp only [impl_maskOf.l0, Ev.ite_iff, h1, h2, hx.1, ↓reduceIte, w64_succ i (by omega), e3]
  rw [shl_one (by omega), gor _ _ (h62 ha) (h62 hp)]
  have := ih (acc ||| 2 ^ x) (Nat.or_lt_two_pow ha hp)
  rw [e2] at this
  rw [e1, mL, Int.toNat_natCast, ← Nat.or_assoc]
  exact this

theorem all_eq {es : List S119} {n : Nat} (h : n ≤ 8) : impl_net_all.f (nets es n) = some ((2 ^ n - 1 : Nat) : Int) := by
 unfold impl_net_all.f
 rw [nets_len, mask_all n h]

theorem bl_range {n m : Nat} (hn : n ≤ 8) : ∀ x ∈ bl n m, 0 ≤ x ∧ x < 8 := fun x hx => by
 obtain ⟨i, h1, _, rfl⟩ := mem_bl.1 hx; omega

theorem setOf_ev (n m : Nat) (hn : n ≤ 8) (hm : m < 2 ^ n) : Ev (fun k => impl_setOf.f k m) (bl n m) := by
 obtain ⟨t, ht⟩ : ∃ t, t = 9 := ⟨_, rfl⟩
 have hs : ∀ i, n ≤ i → m >>> i = 0 := fun i hi => by
  rw [Nat.shiftRight_eq_div_pow]; exact Nat.div_eq_of_lt (Nat.lt_of_lt_of_le hm (Nat.pow_le_pow_right (by decide) hi))
 have H := down n (fun i => Ev (fun k => impl_setOf.l0 k m (bl i m) i) (bl n m)) ?_ ?_ 0 (by omega)
 ·simpa [impl_setOf.f, bl] using H
 ·show Ev _ _
  rw [Ev.iff_succ]
  have h2 : (0 : Int) ≤ n := by omega
  simp [impl_setOf.l0, Ev.now_iff, h2, shr_nat m n (by omega), hs n (Nat.le_refl _)]
 ·intro i hi ih
  show Ev _ _
  rw [Ev.iff_succ]
  have h2 : (0 : Int) ≤ i := by omega
  have h3 := bl_len_le i m
  have h4 : (bl i m).length < 17592186044416 := by omega
  have e3 := shr_bit m i (lt62 hn hm) (by omega)
  rw [bl_step hi] at ih
  simp only [impl_setOf.l0, Ev.ite_iff, h2, h4, ↓reduceIte, w64_succ i (by omega), e3]
  by_cases c : shr .i64 (m : Int) (i : Int) = 0
  ·rw [if_pos c, Ev.now_iff]
   rw [shr_nat m i (by omega)] at c
   have c' : m >>> i = 0 := by omega
   have hb : ∀ j, i ≤ j → m.testBit j = false := fun j hj => by
    have : (m >>> i).testBit (j - i) = false := by rw [c']; simp
    rw [Nat.testBit_shiftRight] at this
    rwa [show i + (j - i) = j by omega] at this
   refine asc_ext (bl_asc _ _) (bl_asc _ _) (fun x => ?_)
   rw [mem_bl, mem_bl]
   constructor
   ·rintro ⟨j, h1, h2, rfl⟩; exact ⟨j, by omega, h2, rfl⟩
   ·rintro ⟨j, h1, h2, rfl⟩
    refine ⟨j, ?_, h2, rfl⟩
    by_cases hj : i ≤ j
    ·rw [hb j hj] at h2; cases h2
    ·omega
  ·rw [if_neg c]
   cases c2 : m.testBit i
   ·rw [c2] at ih; simpa using ih
   ·rw [c2] at ih; simpa using ih

def dominatingR (n : Int) (es : List S119) (l : List Int) : Bool × Bool := if setB n es l then (decide (aroM es n.toNat (mL l) = 2 ^ n.toNat - 1), true) else (false, false)

theorem implIsDominating_ev (n : Int) (es : List S119) (l : List Int) (hl : l.length ≤ 9223372036854775807) : Ev (fun k => impl_IsDominating.f k n es l) (dominatingR n es l) := by
 unfold impl_IsDominating.f dominatingR
 rw [Ev.bind_iff (isSet_ev n es l hl), Ev.ite_iff]
 split
 ·rename_i h
  obtain ⟨N, m, rfl, hN, hg, hok, hm, hlm, hml⟩ := setB_use h
  have hr : ∀ x ∈ l, 0 ≤ x ∧ x < 8 := by rw [hlm]; exact bl_range hN
  rw [netOf_eq hg]
  simp only [Option.bind_some]
  rw [Ev.bind_iff (maskOf_ev l hl hr), hml, Ev.bind_iff (around_ev es N m hN hm), all_eq hN]
  simp only [Option.bind_some, Ev.now_iff, Int.toNat_natCast]
  congr 1
  rw [Bool.eq_iff_iff]
  simp only [beq_iff_eq, decide_eq_true_eq]
  omega
 ·rw [Ev.now_iff]

def forceAllR (skew : Bool) (n : Int) (es : List S119) (l : List Int) : List Int × Bool := if setB n es l then (bl n.toNat (closM es n.toNat skew (mL l)), true) else ([], false)

theorem forceAllR_len (skew : Bool) (n : Int) (es : List S119) (l : List Int) : (forceAllR skew n es l).1.length ≤ 1048576 := by
 unfold forceAllR
 split
 ·rename_i h
  obtain ⟨N, m, rfl, hN, _⟩ := setB_use h
  have := bl_len_le N (closM es N skew (mL l))
  simp only [Int.toNat_natCast]; omega
 ·simp

theorem implForceAll_ev (n : Int) (es : List S119) (l : List Int) (hl : l.length ≤ 9223372036854775807) : Ev (fun k => impl_ForceAll.f k n es l) (forceAllR false n es l) := by
 unfold impl_ForceAll.f forceAllR
 rw [Ev.bind_iff (isSet_ev n es l hl), Ev.ite_iff]
 split
 ·rename_i h
  obtain ⟨N, m, rfl, hN, hg, hok, hm, hlm, hml⟩ := setB_use h
  have hr : ∀ x ∈ l, 0 ≤ x ∧ x < 8 := by rw [hlm]; exact bl_range hN
  rw [netOf_eq hg]
  simp only [Option.bind_some]
  rw [Ev.bind_iff (maskOf_ev l hl hr), hml, Ev.bind_iff (forceAll_ev es N false hN m hm), Ev.bind_iff (setOf_ev N _ hN (closM_lt hm)), Ev.now_iff, Int.toNat_natCast]
 ·rw [Ev.now_iff]

theorem specSkewAll_ev (n : Int) (es : List S119) (l : List Int) (hl : l.length ≤ 9223372036854775807) (he : es.length ≤ 9223372036854775807) : Ev (fun k => spec_SkewAll.f k n es l) (forceAllR true n es l) := by
 unfold spec_SkewAll.f forceAllR
 rw [Ev.bind_iff (l9Both_ev n es l hl), Ev.ite_iff]
 split
 ·rename_i h
  obtain ⟨N, m, rfl, hN, hg, hok, hm, rfl, hml⟩ := setB_use h
  rw [Ev.bind_iff (l9All_ev es N true hN he m hm), Ev.now_iff, hml, Int.toNat_natCast]
 ·rw [Ev.now_iff]

theorem implSkewAll_ev (n : Int) (es : List S119) (l : List Int) (hl : l.length ≤ 9223372036854775807) : Ev (fun k => impl_SkewAll.f k n es l) (forceAllR true n es l) := by
 unfold impl_SkewAll.f forceAllR
 rw [Ev.bind_iff (isSet_ev n es l hl), Ev.ite_iff]
 split
 ·rename_i h
  obtain ⟨N, m, rfl, hN, hg, hok, hm, hlm, hml⟩ := setB_use h
  have hr : ∀ x ∈ l, 0 ≤ x ∧ x < 8 := by rw [hlm]; exact bl_range hN
  rw [netOf_eq hg]
  simp only [Option.bind_some]
  rw [Ev.bind_iff (maskOf_ev l hl hr), hml, Ev.bind_iff (forceAll_ev es N true hN m hm), Ev.bind_iff (setOf_ev N _ hN (closM_lt hm)), Ev.now_iff, Int.toNat_natCast]
 ·rw [Ev.now_iff]

def powerAllR (n : Int) (es : List S119) (l : List Int) : List Int × Bool := if setB n es l then (bl n.toNat (closM es n.toNat false (aroM es n.toNat (mL l))), true) else ([], false)

theorem powerAllR_len (n : Int) (es : List S119) (l : List Int) : (powerAllR n es l).1.length ≤ 1048576 := by
 unfold powerAllR
 split
 ·rename_i h
  obtain ⟨N, m, rfl, hN, _⟩ := setB_use h
  have := bl_len_le N (closM es N false (aroM es N (mL l)))
  simp only [Int.toNat_natCast]; omega
 ·simp

theorem specPowerAll_ev (n : Int) (es : List S119) (l : List Int) (hl : l.length ≤ 9223372036854775807) (he : es.length ≤ 9223372036854775807) : Ev (fun k => spec_PowerAll.f k n es l) (powerAllR n es l) := by
 unfold spec_PowerAll.f powerAllR
 rw [Ev.bind_iff (l9Both_ev n es l hl), Ev.ite_iff]
 split
 ·rename_i h
  obtain ⟨N, m, rfl, hN, hg, hok, hm, rfl, hml⟩ := setB_use h
  rw [Ev.bind_iff (l9Power_ev es N m hN hm he), Ev.now_iff, hml, Int.toNat_natCast]
 ·rw [Ev.now_iff]

theorem implPowerAll_ev (n : Int) (es : List S119) (l : List Int) (hl : l.length ≤ 9223372036854775807) : Ev (fun k => impl_PowerAll.f k n es l) (powerAllR n es l) := by
 unfold impl_PowerAll.f powerAllR
 rw [Ev.bind_iff (isSet_ev n es l hl), Ev.ite_iff]
 split
 ·rename_i h
  obtain ⟨N, m, rfl, hN, hg, hok, hm, hlm, hml⟩ := setB_use h
  have hr : ∀ x ∈ l, 0 ≤ x ∧ x < 8 := by rw [hlm]; exact bl_range hN
  rw [netOf_eq hg]
  simp only [Option.bind_some]
  rw [Ev.bind_iff (maskOf_ev l hl hr), hml, Ev.bind_iff (around_ev es N m hN hm), Ev.bind_iff (forceAll_ev es N false hN _ (aroM_lt hm)), Ev.bind_iff (setOf_ev N _ hN (closM_lt (aroM_lt hm))), Ev.now_iff, Int.toNat_natCast]
 ·rw [Ev.now_iff]

theorem closM_stop {es : List S119} {n m : Nat} {skew : Bool} (g : onceM es n m skew = m) : closM es n skew m = m := by unfold closM; rw [dif_neg (by simp [g])]

theorem closM_once {es : List S119} {n m : Nat} {skew : Bool} (hm : m < 2 ^ n) : closM es n skew (onceM es n m skew) = closM es n skew m := by
 by_cases g : onceM es n m skew = m
 ·rw [g]
 ·conv => rhs; unfold closM
  rw [dif_pos ⟨hm, g⟩]

theorem once_sub {es : List S119} {n m : Nat} {skew : Bool} {i : Nat} (h : m.testBit i = true) : (onceM es n m skew).testBit i = true := fold_bits h n

theorem clos_sub {es : List S119} {n m i : Nat} {skew : Bool} (hm : m < 2 ^ n) (h : m.testBit i = true) : (closM es n skew m).testBit i = true := by
 obtain ⟨d, hd⟩ : ∃ d, d = 2 ^ n - m := ⟨_, rfl⟩
 induction d using Nat.strongRecOn generalizing m with
 | _ d ih =>
  have h1 := onceM_le es n m skew
  have h2 := onceM_lt (es := es) (skew := skew) hm
  by_cases g : onceM es n m skew = m
  ·rw [closM_stop g]; exact h
  ·rw [← closM_once hm]
   exact ih _ (by omega) h2 (once_sub h) rfl

theorem closM_full (es : List S119) (n : Nat) (skew : Bool) : closM es n skew (2 ^ n - 1) = 2 ^ n - 1 := by
 have hp := Nat.two_pow_pos n
 have h1 := onceM_lt (es := es) (skew := skew) (show 2 ^ n - 1 < 2 ^ n by omega)
 have h2 := onceM_le es n (2 ^ n - 1) skew
 exact closM_stop (by omega)

/-- A number is a byte's. -/
def byteOk (x : Int) : Prop := 0 ≤ x ∧ x < 256

end Go.Proofs.Ytmokkhfmbenleaa.QClosures
