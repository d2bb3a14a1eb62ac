import Derived.Test.YtmokkhfmbenleaaQSavedSum0
import Derived.Test.YtmokkhfmbenleaaQSavedSum1
import Derived.Test.YtmokkhfmbenleaaQSavedSum10
import Derived.Test.YtmokkhfmbenleaaQSavedSum2
import Derived.Test.YtmokkhfmbenleaaQSavedSum3
import Derived.Test.YtmokkhfmbenleaaQSavedSum8
import Derived.Test.YtmokkhfmbenleaaQSavedSumA0
namespace Go.Proofs.Ytmokkhfmbenleaa.QSavedSum
open Go.RowKit Go.Proofs.YtmokkhfmbenleaaW.PrintWords Go.Proofs.YtmokkhfmbenleaaW.PrintLast Go.Proofs.YtmokkhfmbenleaaW.PrintMore
attribute [local go_sem] max2_int min2_int max_two min_two max_three min_three max_four min_four   -- for this text's walks alone
set_option linter.unusedVariables false
set_option linter.unusedSimpArgs false
theorem shr_bit (a x : Nat) (ha : a < 2 ^ 62) (h : x < 62) : Go.bits .and .i64 (shr .i64 (a : Int) (x : Int)) 1 = if a.testBit x then 1 else 0 := by
 have h1 : a >>> x < 2 ^ 62 := Nat.lt_of_le_of_lt (Nat.shiftRight_le a x) ha
 rw [shr_nat a x h, show (1 : Int) = ((1 : Nat) : Int) from rfl, gand _ _ h1 (by decide)]
 simp only [Nat.testBit, bne_iff_ne, ne_eq]
 rw [Nat.and_comm 1, Nat.and_one_is_mod]
 have := Nat.mod_two_eq_zero_or_one (a >>> x)
 rcases this with h | h <;> simp [h]

theorem mask_all (n : Nat) (h : n ≤ 8) : wrap64 (shl .i64 1 (n : Int) - 1) = ((2 ^ n - 1 : Nat) : Int) := by
 rw [shl_one (by omega)]
 have h1 := p8 h
 have h2 : 0 < 2 ^ n := Nat.two_pow_pos n
 rw [w64 (by omega) (by omega)]
 omega

theorem fold_range_succ {α : Type} (n : Nat) (f : α → Nat → α) (a : α) : (List.range (n + 1)).foldl f a = f ((List.range n).foldl f a) n := by
 rw [List.range_succ, List.foldl_append];rfl

theorem l1Own_eq {l : List Int} (h : l.length < 17592186044416) : spec_l1Own.f l = some l := by simp [spec_l1Own.f, h]

theorem l1Put_bl {n m i : Nat} (hn : n ≤ 8) (hi : i < n) : spec_l1Put.f (bl n m) (i : Int) = some (bl n (m ||| 2 ^ i)) := by
 have := bl_len_le n m
 rw [spec_l1Put.f, if_pos (by omega), ins_bl hi]

theorem cnt_mono {p q : Nat → Bool} : ∀ n, (∀ i, i < n → p i = true → q i = true) → ((List.range n).filter p).length ≤ ((List.range n).filter q).length ∧
  (((List.range n).filter q).length ≤ ((List.range n).filter p).length → ∀ i, i < n → q i = true → p i = true)
 | 0, _ => ⟨Nat.le_refl _, fun _ i hi => by omega⟩
 | n + 1, h => by
  obtain ⟨h1, h2⟩ := cnt_mono n (fun i hi => h i (by omega))
  have h3 := h n (by omega)
  rw [filter_range_succ, filter_range_succ, List.length_append, List.length_append]
  cases hp : p n <;> cases hq : q n
  ·simp only [Bool.false_eq_true, ↓reduceIte, List.length_nil, Nat.add_zero]
   refine ⟨h1, fun hle i hi hqi => ?_⟩
   by_cases e : i = n
   ·subst e;rw [hq] at hqi;cases hqi
   ·exact h2 hle i (by omega) hqi
  ·simp only [Bool.false_eq_true, ↓reduceIte, List.length_nil, Nat.add_zero, List.length_cons]
   exact ⟨by omega, fun hle => by omega⟩
  ·rw [h3 hp] at hq;cases hq
  ·simp only [↓reduceIte, List.length_cons, List.length_nil]
   refine ⟨by omega, fun hle i hi hqi => ?_⟩
   by_cases e : i = n
   ·subst e;exact hp
   ·exact h2 (by omega) i (by omega) hqi

theorem bl_len (n m : Nat) : (bl n m).length = ((List.range n).filter (fun x => m.testBit x)).length := by simp [bl]

theorem sub_len {n a b : Nat} (ha : a < 2 ^ n) (hb : b < 2 ^ n) (h : ∀ i, i < n → a.testBit i = true → b.testBit i = true) (hl : (bl n b).length ≤ (bl n a).length) : b = a := by
 rw [bl_len, bl_len] at hl
 have h2 := (cnt_mono n h).2 hl
 exact mask_ext hb ha (fun i hi => by rw [Bool.eq_iff_iff];exact ⟨h2 i hi, h i hi⟩)

def aStep (es : List S119) (n m : Nat) (acc x : Nat) : Nat := if m.testBit x then acc ||| nb es n x else acc

def aroM (es : List S119) (n m : Nat) : Nat := (List.range n).foldl (aStep es n m) m

theorem aStep_lt {es : List S119} {n m acc x : Nat} (h : acc < 2 ^ n) : aStep es n m acc x < 2 ^ n := by
 unfold aStep;split
 ·exact Nat.or_lt_two_pow h (nb_lt _ _ _)
 ·exact h

theorem aFold_lt {es : List S119} {n m acc : Nat} (h : acc < 2 ^ n) : ∀ i, (List.range i).foldl (aStep es n m) acc < 2 ^ n
 | 0 => h
 | i + 1 => by rw [fold_range_succ];exact aStep_lt (aFold_lt h i)

theorem aroM_lt {es : List S119} {n m : Nat} (h : m < 2 ^ n) : aroM es n m < 2 ^ n := aFold_lt h n

theorem aFold_bit (es : List S119) (n m acc y : Nat) : ∀ i, ((List.range i).foldl (aStep es n m) acc).testBit y = true ↔ acc.testBit y = true ∨ ∃ x, x < i ∧ m.testBit x = true ∧ (nb es n x).testBit y = true
 | 0 => by simp
 | i + 1 => by
  rw [fold_range_succ]
  have ih := aFold_bit es n m acc y i
  generalize (List.range i).foldl (aStep es n m) acc = b at ih ⊢
  unfold aStep
  have key : (∃ x, x < i + 1 ∧ m.testBit x = true ∧ (nb es n x).testBit y = true) ↔ (∃ x, x < i ∧ m.testBit x = true ∧ (nb es n x).testBit y = true) ∨ (m.testBit i = true ∧ (nb es n i).testBit y = true) := by
   constructor
   ·rintro ⟨x, h1, h2⟩
    by_cases e : x = i
    ·subst e;exact .inr h2
    ·exact .inl ⟨x, by omega, h2⟩
   ·rintro (⟨x, h1, h2⟩ | h2)
    ·exact ⟨x, by omega, h2⟩
    ·exact ⟨i, by omega, h2⟩
  rw [key]
  by_cases c : m.testBit i = true
  ·rw [if_pos c, Nat.testBit_or, Bool.or_eq_true, ih];simp only [c, true_and, or_assoc]
  ·rw [if_neg c, ih];simp only [c, false_and, or_false];simp

theorem aroM_bit (es : List S119) (n m y : Nat) : (aroM es n m).testBit y = true ↔ m.testBit y = true ∨ ∃ x, x < n ∧ m.testBit x = true ∧ (nb es n x).testBit y = true := aFold_bit es n m m y n

theorem around_ev (es : List S119) (n m : Nat) (hn : n ≤ 8) (hm : m < 2 ^ n) : Ev (fun k => impl_net_around.f k (nets es n) m) ((aroM es n m : Nat) : Int) := by
 have H := down n (fun i => Ev (fun k => impl_net_around.l0 k m (((List.range i).foldl (aStep es n m) m : Nat) : Int) (nets es n) n i) ((aroM es n m : Nat) : Int)) ?_ ?_ 0 (by omega)
 ·simpa [impl_net_around.f, nets_len] using H
 ·show Ev _ _
  rw [Ev.iff_succ]
  simp [impl_net_around.l0, Ev.now_iff, aroM]
 ·intro i hi ih
  show Ev _ _
  rw [Ev.iff_succ]
  have h1 : (i : Int) < (n : Int) := by omega
  have h2 : (0 : Int) ≤ i := by omega
  have h3 : (i : Int) < ((nets es n).length : Int) := by rw [nets_len];omega
  have hacc := aFold_lt (es := es) (m := m) hm i
  have hb := nb_lt es n i
  have e2 : ∀ acc : Nat, acc < 2 ^ n → Go.bits .or .i64 (acc : Int) ((nb es n i : Nat) : Int) = ((acc ||| nb es n i : Nat) : Int) := fun acc ha => gor _ _ (lt62 hn ha) (lt62 hn hb)
  rw [fold_range_succ] at ih
  generalize (List.range i).foldl (aStep es n m) m = acc at hacc ih ⊢
  unfold aStep at ih
  have e3 := shr_bit m i (lt62 hn hm) (by omega)
  simp only [impl_net_around.l0, Ev.ite_iff, h1, h2, h3, ↓reduceIte, w64_succ i (by omega), nets_rd hi, e3, e2 acc hacc]
  cases c : m.testBit i
  ·rw [c] at ih;simpa using ih
  ·rw [c] at ih;simpa using ih

theorem rd_bl {n m j : Nat} (h : j < (bl n m).length) : ∃ y, y < n ∧ m.testBit y = true ∧ (bl n m)[j] = (y : Int) := by
 obtain ⟨y, h1, h2, h3⟩ := mem_bl.1 (List.getElem_mem h)
 exact ⟨y, h1, h2, h3⟩

theorem u64_wrap_id (m : Nat) (h : m < 2 ^ 62) : IntKind.u64.wrap (m : Int) = (m : Int) := by rw [IntKind.wrap_u64]; omega

theorem ones_small : ∀ n : Nat, n ≤ 8 → ∀ m : Nat, m < 2 ^ n → bits_OnesCount.f (m : Int) = some (((bl n m).length : Nat) : Int) := by decide +kernel

theorem ones_bl {n m : Nat} (hn : n ≤ 8) (hm : m < 2 ^ n) : bits_OnesCount.f (IntKind.u64.wrap (m : Int)) = some (((bl n m).length : Nat) : Int) := by
 rw [u64_wrap_id m (lt62 hn hm), ones_small n hn m hm]

theorem l2Good_eq (n : Int) (es : List S119) : spec_l2Good.f n es = some (okG n es) := rfl

theorem IsGraph_eq (n : Int) (es : List S119) : impl_IsGraph.f n es = some (okG n es) := rfl

theorem hasNodes_ev (n : Int) (es : List S119) (l : List Int) (hl : l.length ≤ 9223372036854775807) : Ev (fun k => impl_hasNodes.f k n es l) (okG n es && allIn 0 (wrap64 (n - 1)) l) := by
 unfold impl_hasNodes.f
 rw [IsGraph_eq]
 simp only [Option.bind_some, Ev.ite_iff]
 split
 ·rename_i h
  rw [Ev.bind_iff (allWithin_ev l 0 _ hl), Ev.now_iff, h, Bool.true_and]
 ·rename_i h
  rw [Ev.now_iff, Bool.eq_false_iff.2 h, Bool.false_and]

theorem maskOf_ev (l : List Int) (hl : l.length ≤ 9223372036854775807) (h : ∀ x ∈ l, 0 ≤ x ∧ x < 8) : Ev (fun k => impl_maskOf.f k l) ((mL l : Nat) : Int) := by
 have hm : ∀ s : List Int, (∀ x ∈ s, 0 ≤ x ∧ x < 8) → mL s < 2 ^ 8 := fun s hs => mL_lt (n := 8) hs
 have H := down l.length (fun i => ∀ acc : Nat, acc < 2 ^ 8 → Ev (fun k => impl_maskOf.l0 k acc l l.length i) ((acc ||| mL (l.drop i) : Nat) : Int)) ?_ ?_ 0 (by omega) 0 (by decide)
 ·simpa [impl_maskOf.f] using H
 ·intro acc _
  rw [Ev.iff_succ]
  simp [impl_maskOf.l0, Ev.now_iff, mL]
 ·intro i hi ih acc ha
  rw [Ev.iff_succ]
  have h1 : (i : Int) < l.length := by omega
  have h2 : (0 : Int) ≤ i := by omega
  have hx := h l[i] (List.getElem_mem hi)
  obtain ⟨a, s, e1, e2, e3, e4⟩ := dropc l i hi
  rw [e4] at hx
  obtain ⟨x, rfl⟩ : ∃ x : Nat, a = x := ⟨a.toNat, by omega⟩
  have hp : 2 ^ x < 2 ^ 8 := Nat.pow_lt_pow_right (by decide) (by omega)
  have h62 : ∀ {c : Nat}, c < 2 ^ 8 → c < 2 ^ 62 := fun h => by omega
  simp only [impl_maskOf.l0, Ev.ite_iff, h1, h2, hx.1, ↓reduceIte, w64_succ i (by omega), e3]
  rw [shl_one (by omega), gor _ _ (h62 ha) (h62 hp)]
  have := ih (acc ||| 2 ^ x) (Nat.or_lt_two_pow ha hp)
  rw [e2] at this
  rw [e1, mL, Int.toNat_natCast, ← Nat.or_assoc]
  exact this

theorem all_eq {es : List S119} {n : Nat} (h : n ≤ 8) : impl_net_all.f (nets es n) = some ((2 ^ n - 1 : Nat) : Int) := by
 unfold impl_net_all.f
 rw [nets_len, mask_all n h]

theorem setOf_ev (n m : Nat) (hn : n ≤ 8) (hm : m < 2 ^ n) : Ev (fun k => impl_setOf.f k m) (bl n m) := by
 obtain ⟨t, ht⟩ : ∃ t, t = 9 := ⟨_, rfl⟩
 have hs : ∀ i, n ≤ i → m >>> i = 0 := fun i hi => by
  rw [Nat.shiftRight_eq_div_pow];exact Nat.div_eq_of_lt (Nat.lt_of_lt_of_le hm (Nat.pow_le_pow_right (by decide) hi))
 have H := down n (fun i => Ev (fun k => impl_setOf.l0 k m (bl i m) i) (bl n m)) ?_ ?_ 0 (by omega)
 ·simpa [impl_setOf.f, bl] using H
 ·show Ev _ _
  rw [Ev.iff_succ]
  have h2 : (0 : Int) ≤ n := by omega
  simp [impl_setOf.l0, Ev.now_iff, h2, shr_nat m n (by omega), hs n (Nat.le_refl _)]
 ·intro i hi ih
  show Ev _ _
  rw [Ev.iff_succ]
  have h2 : (0 : Int) ≤ i := by omega
  have h3 := bl_len_le i m
  have h4 : (bl i m).length < 17592186044416 := by omega
  have e3 := shr_bit m i (lt62 hn hm) (by omega)
  rw [bl_step hi] at ih
  simp only [impl_setOf.l0, Ev.ite_iff, h2, h4, ↓reduceIte, w64_succ i (by omega), e3]
  by_cases c : shr .i64 (m : Int) (i : Int) = 0
  ·rw [if_pos c, Ev.now_iff]
   rw [shr_nat m i (by omega)] at c
   have c' : m >>> i = 0 := by omega
   have hb : ∀ j, i ≤ j → m.testBit j = false := fun j hj => by
    have : (m >>> i).testBit (j - i) = false := by rw [c'];simp
    rw [Nat.testBit_shiftRight] at this
    rwa [show i + (j - i) = j by omega] at this
   refine asc_ext (bl_asc _ _) (bl_asc _ _) (fun x => ?_)
   rw [mem_bl, mem_bl]
   constructor
   ·rintro ⟨j, h1, h2, rfl⟩;exact ⟨j, by omega, h2, rfl⟩
   ·rintro ⟨j, h1, h2, rfl⟩
    refine ⟨j, ?_, h2, rfl⟩
    by_cases hj : i ≤ j
    ·rw [hb j hj] at h2;cases h2
    ·omega
  ·rw [if_neg c]
   cases c2 : m.testBit i
   ·rw [c2] at ih;simpa using ih
   ·rw [c2] at ih;simpa using ih

theorem l1Least_eq (a b : Int) : spec_l1Least.f a b = some (if a < b then a else b) := by unfold spec_l1Least.f; split <;> rfl

theorem okG_use {n : Int} {es : List S119} (h : okG n es = true) : ∃ N : Nat, n = N ∧ N ≤ 8 := by
 simp only [okG, Bool.and_eq_true, decide_eq_true_eq] at h
 exact ⟨n.toNat, by omega, by omega⟩

def cho : List Int → Nat → List (List Int)
 | _, 0 => [[]]
 | [], _ + 1 => []
 | x :: s, k + 1 => (cho s k).map (fun t => x :: t) ++ cho s (k + 1)

theorem cho_zero (l : List Int) : cho l 0 = [[]] := by cases l <;> rfl

theorem cho_cons (x : Int) (s : List Int) (k : Nat) : cho (x :: s) (k + 1) = (cho s k).map (fun t => x :: t) ++ cho s (k + 1) := rfl

theorem cho_nil : ∀ (l : List Int) (k : Nat), l.length < k → cho l k = []
 | [], k + 1, _ => rfl
 | x :: s, k + 1, h => by
  rw [cho_cons, cho_nil s k (by simp at h;omega), cho_nil s (k + 1) (by simp at h;omega)];rfl
 | l, 0, h => by omega

theorem cho_len : ∀ (l : List Int) (k : Nat), (cho l k).length ≤ 2 ^ l.length
 | l, 0 => by rw [cho_zero];exact Nat.one_le_two_pow
 | [], k + 1 => by simp [cho]
 | x :: s, k + 1 => by
  rw [cho_cons, List.length_append, List.length_map, List.length_cons, Nat.pow_succ]
  have := cho_len s k;have := cho_len s (k + 1);omega

theorem cho_mem_len : ∀ (l : List Int) (k : Nat), ∀ t ∈ cho l k, t.length = k
 | l, 0 => by rw [cho_zero];simp
 | [], k + 1 => by simp [cho]
 | x :: s, k + 1 => by
  rw [cho_cons]
  intro t ht
  rcases List.mem_append.1 ht with h | h
  ·obtain ⟨u, hu, rfl⟩ := List.mem_map.1 h
   rw [List.length_cons, cho_mem_len s k u hu]
  ·exact cho_mem_len s (k + 1) t h

theorem cho_mem_in : ∀ (l : List Int) (k : Nat), ∀ t ∈ cho l k, ∀ x ∈ t, x ∈ l
 | l, 0 => by rw [cho_zero];simp
 | [], k + 1 => by simp [cho]
 | x :: s, k + 1 => by
  rw [cho_cons]
  intro t ht y hy
  rcases List.mem_append.1 ht with h | h
  ·obtain ⟨u, hu, rfl⟩ := List.mem_map.1 h
   rcases List.mem_cons.1 hy with e | e
   ·simp [e]
   ·simp [cho_mem_in s k u hu y e]
  ·simp [cho_mem_in s (k + 1) t h y hy]

theorem rdL2_lt (l : List (List Int)) (i : Nat) (h : i < l.length) : rd_L3 l (i : Int) = l[i] := by simp [rd_L3, h]

theorem subsetsOf_ev : ∀ (m : Nat) (l : List Int) (k : Nat), l.length ≤ m → m ≤ 8 → k ≤ 8 → Ev (fun g => impl_subsetsOf.f g l k) (cho l k) := by
 intro m
 induction m using Nat.strongRecOn with
 | _ m IH =>
 intro l k hlm hm hk
 rw [Ev.iff_succ]
 simp only [impl_subsetsOf.f]
 cases k with
 | zero => rw [Ev.ite_iff, if_pos (by omega), Ev.now_iff, cho_zero]
 | succ k =>
 rw [Ev.ite_iff, if_neg (by omega)]
 have hp : 2 ^ l.length ≤ 256 := p8 (by omega)
 have H := down l.length (fun i => ∀ acc : List (List Int), acc.length + (cho (l.drop i) (k + 1)).length ≤ 256 → Ev (fun g => impl_subsetsOf.l0 g l ((k + 1 : Nat) : Int) acc l.length i) (acc ++ cho (l.drop i) (k + 1))) ?_ ?_ 0 (by omega) [] (by have := cho_len l (k + 1);simp;omega)
 ·simpa using H
 ·intro acc _
  rw [Ev.iff_succ]
  simp only [impl_subsetsOf.l0, Int.lt_irrefl, ↓reduceIte, Ev.now_iff, List.drop_length, cho, List.append_nil]
 ·intro i hi ih acc ha
  rw [Ev.iff_succ]
  have h1 : (i : Int) < l.length := by omega
  have h2 : (0 : Int) ≤ i := by omega
  have h3 : (0 : Int) ≤ ((i + 1 : Nat) : Int) := by omega
  have h4 : ((i + 1 : Nat) : Int) ≤ l.length := by omega
  have e1 : wrap64 (((k + 1 : Nat) : Int) - 1) = (k : Int) := by rw [w64] <;> omega
  have hrec := IH (l.length - (i + 1)) (by omega) (l.drop (i + 1)) k (by rw [List.length_drop];omega) (by omega) (by omega)
  have hd := List.drop_eq_getElem_cons hi
  rw [hd, cho_cons, List.length_append, List.length_map] at ha
  rw [hd, cho_cons]
  simp only [impl_subsetsOf.l0, Ev.ite_iff, h1, h3, h4, ↓reduceIte, w64_succ i (show i < 9223372036854775807 by omega), e1, Int.toNat_natCast]
  rw [Ev.bind_iff hrec]
  have hml := cho_mem_len (l.drop (i + 1)) k
  generalize cho (l.drop (i + 1)) k = T at ha hml ⊢
  have G := down T.length (fun j => Ev (fun g => impl_subsetsOf.l1 g l ((k + 1 : Nat) : Int) (acc ++ (T.take j).map (fun t => l[i] :: t)) i l.length i T T.length j) (acc ++ (T.map (fun t => l[i] :: t) ++ cho (l.drop (i + 1)) (k + 1)))) ?_ ?_ 0 (by omega)
  ·simpa using G
  ·show Ev _ _
   rw [Ev.iff_succ]
   simp only [impl_subsetsOf.l1, Int.lt_irrefl, ↓reduceIte, w64_succ i (show i < 9223372036854775807 by omega), List.take_length]
   rw [← List.append_assoc]
   exact ih _ (by rw [List.length_append, List.length_map];omega)
  ·intro j hj jh
   show Ev _ _
   rw [Ev.iff_succ]
   have g1 : (j : Int) < T.length := by omega
   have g2 : (0 : Int) ≤ j := by omega
   have hTl := hml T[j] (List.getElem_mem hj)
   have g3 : [l[i]].length + T[j].length < 17592186044416 := by simp;omega
   have g4 : (acc ++ (T.take j).map (fun t => l[i] :: t)).length < 5864062014805 := by
    rw [List.length_append, List.length_map, List.length_take];omega
   rw [List.take_succ_eq_append_getElem hj, List.map_append, ← List.append_assoc] at jh
   simp only [impl_subsetsOf.l1, Ev.ite_iff, g1, g2, h1, h2, ↓reduceIte, Option.bind_some, rd_lt l i hi, rdL2_lt T j hj, g3, g4, w64_succ j (show j < 9223372036854775807 by omega)]
   exact jh

theorem l8Choices_ev : ∀ (m : Nat) (l : List Int) (k : Nat), l.length ≤ m → m ≤ 8 → k ≤ l.length → Ev (fun g => spec_l8Choices.f g l k) (cho l k) := by
 intro m
 induction m using Nat.strongRecOn with
 | _ m IH =>
 intro l k hlm hm hk
 rw [Ev.iff_succ]
 simp only [spec_l8Choices.f]
 cases k with
 | zero => rw [Ev.ite_iff, if_pos (by omega), Ev.now_iff, cho_zero]
 | succ k =>
 rw [Ev.ite_iff, if_neg (by omega)]
 have hp : 2 ^ l.length ≤ 256 := p8 (by omega)
 have H := down (l.length - k) (fun i => ∀ acc : List (List Int), acc.length + (cho (l.drop i) (k + 1)).length ≤ 256 → Ev (fun g => spec_l8Choices.l0 g l ((k + 1 : Nat) : Int) acc i) (acc ++ cho (l.drop i) (k + 1))) ?_ ?_ 0 (by omega) [] (by have := cho_len l (k + 1);simp;omega)
 ·simpa using H
 ·intro acc _
  rw [Ev.iff_succ]
  have e0 : wrap64 (((l.length - k : Nat) : Int) + ((k + 1 : Nat) : Int)) = (l.length : Int) + 1 := by rw [w64] <;> omega
  simp only [spec_l8Choices.l0, e0, Ev.ite_iff, Ev.now_iff]
  rw [if_neg (by omega), cho_nil _ _ (by rw [List.length_drop];omega), List.append_nil]
 ·intro i hi ih acc ha
  rw [Ev.iff_succ]
  have hil : i < l.length := by omega
  have h1 : (i : Int) < l.length := by omega
  have h2 : (0 : Int) ≤ i := by omega
  have h3 : (0 : Int) ≤ ((i + 1 : Nat) : Int) := by omega
  have h4 : ((i + 1 : Nat) : Int) ≤ l.length := by omega
  have e0 : wrap64 ((i : Int) + ((k + 1 : Nat) : Int)) = (i : Int) + ((k + 1 : Nat) : Int) := by rw [w64] <;> omega
  have h5 : (i : Int) + ((k + 1 : Nat) : Int) ≤ (l.length : Int) := by omega
  have e1 : wrap64 (((k + 1 : Nat) : Int) - 1) = (k : Int) := by rw [w64] <;> omega
  have hrec := IH (l.length - (i + 1)) (by omega) (l.drop (i + 1)) k (by rw [List.length_drop];omega) (by omega) (by rw [List.length_drop];omega)
  have hd := List.drop_eq_getElem_cons hil
  rw [hd, cho_cons, List.length_append, List.length_map] at ha
  rw [hd, cho_cons]
  simp only [spec_l8Choices.l0, e0, Ev.ite_iff, h3, h4, h5, ↓reduceIte, w64_succ i (show i < 9223372036854775807 by omega), e1, Int.toNat_natCast]
  rw [Ev.bind_iff hrec]
  have hml := cho_mem_len (l.drop (i + 1)) k
  generalize cho (l.drop (i + 1)) k = T at ha hml ⊢
  have G := down T.length (fun j => Ev (fun g => spec_l8Choices.l1 g l ((k + 1 : Nat) : Int) (acc ++ (T.take j).map (fun t => l[i] :: t)) i T j) (acc ++ (T.map (fun t => l[i] :: t) ++ cho (l.drop (i + 1)) (k + 1)))) ?_ ?_ 0 (by omega)
  ·simpa using G
  ·show Ev _ _
   rw [Ev.iff_succ]
   simp only [spec_l8Choices.l1, Int.lt_irrefl, ↓reduceIte, w64_succ i (show i < 9223372036854775807 by omega), List.take_length]
   rw [← List.append_assoc]
   exact ih _ (by rw [List.length_append, List.length_map];omega)
  ·intro j hj jh
   show Ev _ _
   rw [Ev.iff_succ]
   have g1 : (j : Int) < T.length := by omega
   have g2 : (0 : Int) ≤ j := by omega
   have hTl := hml T[j] (List.getElem_mem hj)
   have g3 : [l[i]].length + T[j].length < 17592186044416 := by simp;omega
   have g4 : (acc ++ (T.take j).map (fun t => l[i] :: t)).length < 5864062014805 := by
    rw [List.length_append, List.length_map, List.length_take];omega
   rw [List.take_succ_eq_append_getElem hj, List.map_append, ← List.append_assoc] at jh
   simp only [spec_l8Choices.l1, Ev.ite_iff, g1, g2, h1, h2, ↓reduceIte, Option.bind_some, rd_lt l i hil, rdL2_lt T j hj, g3, g4, w64_succ j (show j < 9223372036854775807 by omega)]
   exact jh

def thrM (es : List S119) (n b f : Nat) : Nat := mns (mns (aroM es n b) b) f

theorem thrM_lt {es : List S119} {n b : Nat} (f : Nat) (hb : b < 2 ^ n) : thrM es n b f < 2 ^ n := mns_lt _ (mns_lt _ (aroM_lt hb))

theorem thrM_bit {es : List S119} {n b f y : Nat} (hy : y < n) : (thrM es n b f).testBit y = (!b.testBit y && !f.testBit y && (bl n b).any (fun u => near es u y)) := by
 have h : (bl n b).any (fun u => near es u y) = true ↔ ∃ x, x < n ∧ b.testBit x = true ∧ (nb es n x).testBit y = true := by
  rw [List.any_eq_true]
  constructor
  ·rintro ⟨u, hu, hn⟩
   obtain ⟨i, h1, h2, rfl⟩ := mem_bl.1 hu
   exact ⟨i, h1, h2, by rw [nb_bit];simp [hy, hn]⟩
  ·rintro ⟨x, h1, h2, h3⟩
   rw [nb_bit] at h3
   simp only [Bool.and_eq_true, decide_eq_true_eq] at h3
   exact ⟨(x : Int), mem_bl_nat.2 ⟨h1, h2⟩, h3.2⟩
 unfold thrM
 rw [mns_bit, mns_bit]
 have hA := aroM_bit es n b y
 rw [← h] at hA
 cases hb : b.testBit y
 ·cases hf : f.testBit y
  ·simp only [Bool.not_false, Bool.and_true, Bool.true_and]
   rw [Bool.eq_iff_iff, hA, hb];simp
  ·simp
 ·simp

theorem mk_succ_bl {n i : Nat} {p : Nat → Bool} : mk (i + 1) p = if p i then mk i p ||| 2 ^ i else mk i p := by
 rw [mk];split <;> simp

theorem mk_self {n m : Nat} (h : m < 2 ^ n) : mk n (fun y => m.testBit y) = m := mask_ext (mk_lt _ _) h (fun i hi => by rw [mk_bit]; simp [hi])

end Go.Proofs.Ytmokkhfmbenleaa.QSavedSum
