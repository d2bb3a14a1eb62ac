import Derived.Test.YthbjajppdomhhaaDoorQEternalNumber0
import Derived.Test.YthbjajppdomhhaaDoorQEternalNumber1
import Derived.Test.YthbjajppdomhhaaDoorQEternalNumber12
import Derived.Test.YthbjajppdomhhaaDoorQEternalNumber13
import Derived.Test.YthbjajppdomhhaaDoorQEternalNumber14
import Derived.Test.YthbjajppdomhhaaDoorQEternalNumber16
import Derived.Test.YthbjajppdomhhaaDoorQEternalNumber2
import Derived.Test.YthbjajppdomhhaaDoorQEternalNumber3
import Derived.Test.YthbjajppdomhhaaDoorQEternalNumber4
import Derived.Test.YthbjajppdomhhaaDoorQEternalNumberA0
namespace Go.Proofs.YthbjajppdomhhaaDoor.QEternalNumber
open Go.RowKit Go.Proofs.YthbjajppdomhhaaDoorW.PrintWords Go.Proofs.YthbjajppdomhhaaDoorW.PrintLast Go.Proofs.YthbjajppdomhhaaDoorW.PrintMore
attribute [local go_sem] max2_int min2_int max_two min_two max_three min_three max_four min_four   -- for this text's walks alone
set_option linter.unusedVariables false
set_option linter.unusedSimpArgs false
theorem toIntA2S_ev (l : List S92) (hl : l.length ≤ 17592186044416) : Ev (fun k => laws_toIntA2S.f k l) l := by
 unfold laws_toIntA2S.f
 rw [Ev.ite_iff, if_pos (by omega), Ev.ite_iff, if_pos (by omega), Int.toNat_natCast]
 have H := down l.length (fun i => Ev (fun k => laws_toIntA2S.l0 k l (l.take i ++ List.replicate (l.length - i) z92) i) l) ?_ ?_ 0 (by omega)
 ·simpa using H
 ·show Ev _ _
  rw [Ev.iff_succ]
  simp [laws_toIntA2S.l0, Ev.now_iff]
 ·intro i hi ih
  show Ev _ _
  rw [Ev.iff_succ]
  have h1 : (i : Int) < l.length := by omega
  have h2 : (0 : Int) ≤ i := by omega
  have h3 : (i : Int) < ((l.take i ++ List.replicate (l.length - i) z92).length : Int) := by
   rw [List.length_append, List.length_take, List.length_replicate];omega
  have h4 : rd_T92 l i = l[i] := by simp [rd_T92, hi]
  simp only [laws_toIntA2S.l0, Ev.ite_iff, h1, h2, ↓reduceIte, toIntA2_eq, Option.bind_some, h3, w64_succ i (by omega), h4, Int.toNat_natCast]
  rw [set_fill l _ i hi]
  exact ih

theorem toGraph_ev (n : Int) (es : List S92) (hl : es.length ≤ 17592186044416) : Ev (fun k => laws_toGraph.f k n es) (n, es) := by
 unfold laws_toGraph.f
 rw [Ev.bind_iff (toIntA2S_ev es hl), Ev.now_iff]

theorem eqIntA2_refl (a b : Int) : laws_eqIntA2.f a b a b = some true := by simp [laws_eqIntA2.f]

theorem eqGraph_refl (n : Int) (es : List S92) (hl : es.length ≤ 9223372036854775807) : Ev (fun k => laws_eqGraph.f k n es n es) true := by
 have H0 : Ev (fun k => laws_eqIntA2S.f k es es) true := by
  unfold laws_eqIntA2S.f
  rw [Ev.ite_iff, if_pos rfl]
  have H := down es.length (fun i => Ev (fun k => laws_eqIntA2S.l0 k es es i) true) ?_ ?_ 0 (by omega)
  ·simpa using H
  ·show Ev _ _
   rw [Ev.iff_succ]
   simp [laws_eqIntA2S.l0, Ev.now_iff]
  ·intro i hi ih
   show Ev _ _
   rw [Ev.iff_succ]
   have h1 : (i : Int) < es.length := by omega
   have h2 : (0 : Int) ≤ i := by omega
   simp only [laws_eqIntA2S.l0, Ev.ite_iff, h1, h2, ↓reduceIte, w64_succ i (by omega), eqIntA2_refl, Option.bind_some]
   exact ih
 unfold laws_eqGraph.f
 rw [Ev.ite_iff, if_pos rfl, Ev.bind_iff H0, Ev.ite_iff, if_pos rfl, Ev.now_iff]

theorem szGraph_eq (n : Int) (es : List S92) (hl : es.length ≤ 9223372036854775807) : laws_szGraph.f n es 1048576 = some (if es.length ≤ 1048576 then 1048576 - (es.length : Int) else -1) := by
 unfold laws_szGraph.f laws_szIntA2S.f
 rw [w64 (by omega) (by omega)]
 by_cases h : es.length ≤ 1048576
 ·rw [if_neg (by omega), if_pos h, Option.bind_some, if_neg (by omega)]
 ·rw [if_pos (by omega), if_neg h, Option.bind_some, if_pos (by omega)]

theorem l2Good_eq (n : Int) (es : List S92) : spec_l2Good.f n es = some (okG n es) := rfl

theorem IsGraph_eq (n : Int) (es : List S92) : impl_IsGraph.f n es = some (okG n es) := rfl

theorem maskOf_ev (l : List Int) (hl : l.length ≤ 9223372036854775807) (h : ∀ x ∈ l, 0 ≤ x ∧ x < 8) : Ev (fun k => impl_maskOf.f k l) ((mL l : Nat) : Int) := by
 have hm : ∀ s : List Int, (∀ x ∈ s, 0 ≤ x ∧ x < 8) → mL s < 2 ^ 8 := fun s hs => mL_lt (n := 8) hs
 have H := down l.length (fun i => ∀ acc : Nat, acc < 2 ^ 8 → Ev (fun k => impl_maskOf.l0 k acc l l.length i) ((acc ||| mL (l.drop i) : Nat) : Int)) ?_ ?_ 0 (by omega) 0 (by decide)
 ·simpa [impl_maskOf.f] using H
 ·intro acc _
  rw [Ev.iff_succ]
  simp [impl_maskOf.l0, Ev.now_iff, mL]
 ·intro i hi ih acc ha
  rw [Ev.iff_succ]
  have h1 : (i : Int) < l.length := by omega
  have h2 : (0 : Int) ≤ i := by omega
  have hx := h l[i] (List.getElem_mem hi)
  obtain ⟨a, s, e1, e2, e3, e4⟩ := dropc l i hi
  rw [e4] at hx
  obtain ⟨x, rfl⟩ : ∃ x : Nat, a = x := ⟨a.toNat, by omega⟩
  have hp : 2 ^ x < 2 ^ 8 := Nat.pow_lt_pow_right (by decide) (by omega)
  have h62 : ∀ {c : Nat}, c < 2 ^ 8 → c < 2 ^ 62 := fun h => by omega
  simp only [impl_maskOf.l0, Ev.ite_iff, h1, h2, hx.1, ↓reduceIte, w64_succ i (by omega), e3]
  rw [shl_one (by omega), gor _ _ (h62 ha) (h62 hp)]
  have := ih (acc ||| 2 ^ x) (Nat.or_lt_two_pow ha hp)
  rw [e2] at this
  rw [e1, mL, Int.toNat_natCast, ← Nat.or_assoc]
  exact this

theorem setOf_ev (n m : Nat) (hn : n ≤ 8) (hm : m < 2 ^ n) : Ev (fun k => impl_setOf.f k m) (bl n m) := by
 obtain ⟨t, ht⟩ : ∃ t, t = 9 := ⟨_, rfl⟩
 have hs : ∀ i, n ≤ i → m >>> i = 0 := fun i hi => by
  rw [Nat.shiftRight_eq_div_pow];exact Nat.div_eq_of_lt (Nat.lt_of_lt_of_le hm (Nat.pow_le_pow_right (by decide) hi))
 have H := down n (fun i => Ev (fun k => impl_setOf.l0 k m (bl i m) i) (bl n m)) ?_ ?_ 0 (by omega)
 ·simpa [impl_setOf.f, bl] using H
 ·show Ev _ _
  rw [Ev.iff_succ]
  have h2 : (0 : Int) ≤ n := by omega
  simp [impl_setOf.l0, Ev.now_iff, h2, shr_nat m n (by omega), hs n (Nat.le_refl _)]
 ·intro i hi ih
  show Ev _ _
  rw [Ev.iff_succ]
  have h2 : (0 : Int) ≤ i := by omega
  have h3 := bl_len_le i m
  have h4 : (bl i m).length < 17592186044416 := by omega
  have e3 := shr_bit m i (lt62 hn hm) (by omega)
  rw [bl_step hi] at ih
  simp only [impl_setOf.l0, Ev.ite_iff, h2, h4, ↓reduceIte, w64_succ i (by omega), e3]
  by_cases c : shr .i64 (m : Int) (i : Int) = 0
  ·rw [if_pos c, Ev.now_iff]
   rw [shr_nat m i (by omega)] at c
   have c' : m >>> i = 0 := by omega
   have hb : ∀ j, i ≤ j → m.testBit j = false := fun j hj => by
    have : (m >>> i).testBit (j - i) = false := by rw [c'];simp
    rw [Nat.testBit_shiftRight] at this
    rwa [show i + (j - i) = j by omega] at this
   refine asc_ext (bl_asc _ _) (bl_asc _ _) (fun x => ?_)
   rw [mem_bl, mem_bl]
   constructor
   ·rintro ⟨j, h1, h2, rfl⟩;exact ⟨j, by omega, h2, rfl⟩
   ·rintro ⟨j, h1, h2, rfl⟩
    refine ⟨j, ?_, h2, rfl⟩
    by_cases hj : i ≤ j
    ·rw [hb j hj] at h2;cases h2
    ·omega
  ·rw [if_neg c]
   cases c2 : m.testBit i
   ·rw [c2] at ih;simpa using ih
   ·rw [c2] at ih;simpa using ih

theorem l2Bits_ev (n m : Nat) (hn : n ≤ 8) (hm : m < 2 ^ n) : Ev (fun k => spec_l2Bits.f k n m) (bl n m) := by
 have H := down n (fun i => Ev (fun k => spec_l2Bits.l0 k n m (bl i m) i) (bl n m)) ?_ ?_ 0 (by omega)
 ·simpa [spec_l2Bits.f, bl] using H
 ·show Ev _ _
  rw [Ev.iff_succ]
  simp [spec_l2Bits.l0, Ev.now_iff]
 ·intro i hi ih
  show Ev _ _
  rw [Ev.iff_succ]
  have h1 : (i : Int) < (n : Int) := by omega
  have h2 : (0 : Int) ≤ i := by omega
  have h3 := bl_len_le i m
  have h4 : (bl i m).length < 17592186044416 := by omega
  have e3 := shr_bit m i (lt62 hn hm) (by omega)
  rw [bl_step hi] at ih
  simp only [spec_l2Bits.l0, Ev.ite_iff, h1, h2, h4, ↓reduceIte, w64_succ i (by omega), e3]
  cases c : m.testBit i
  ·rw [c] at ih;simpa using ih
  ·rw [c] at ih;simpa using ih

/-- A row of numbers by places. -/
def rowF (n : Nat) (f : Nat → Int) : List Int := (List.range n).map f

theorem rowF_len (n : Nat) (f : Nat → Int) : (rowF n f).length = n := by simp [rowF]

theorem rowF_rd {n : Nat} {f : Nat → Int} {i : Nat} (h : i < n) : rd (rowF n f) i = f i := by simp [rd, rowF, h]

theorem rowF_set {n : Nat} {f : Nat → Int} {i : Nat} {v : Int} (_ : i < n) : (rowF n f).set i v = rowF n (fun x => if x = i then v else f x) := by
 apply List.ext_getElem
 ·simp [rowF]
 ·intro j h1 h2
  simp only [List.getElem_set, rowF, List.getElem_map, List.getElem_range]
  by_cases e : i = j
  ·subst e;simp
  ·simp [e, show ¬ j = i from fun h => e h.symm]

theorem rowF_ext {n : Nat} {f g : Nat → Int} (h : ∀ x, x < n → f x = g x) : rowF n f = rowF n g := by
 unfold rowF
 exact List.map_congr_left (fun x hx => h x (List.mem_range.1 hx))

theorem l1Most_eq (a b : Int) : spec_l1Most.f a b = some (if a > b then a else b) := by unfold spec_l1Most.f; split <;> rfl

theorem okG_use {n : Int} {es : List S92} (h : okG n es = true) : ∃ N : Nat, n = N ∧ N ≤ 8 := by
 simp only [okG, Bool.and_eq_true, decide_eq_true_eq] at h
 exact ⟨n.toNat, by omega, by omega⟩

theorem l2All_ev {es : List S92} {n : Nat} (hn : n ≤ 8) : Ev (fun k => spec_l2All.f k n es) (bl n (2 ^ n - 1)) := by
 unfold spec_l2All.f
 rw [Ev.ite_iff, if_pos (by omega), mask_all n hn, Ev.bind_iff (l2Bits_ev n _ hn (by have := Nat.two_pow_pos n;omega)), Ev.now_iff]

/-- All ways to choose so many of a list, in order. -/
def cho : List Int → Nat → List (List Int)
 | _, 0 => [[]]
 | [], _ + 1 => []
 | x :: s, k + 1 => (cho s k).map (fun t => x :: t) ++ cho s (k + 1)

theorem cho_zero (l : List Int) : cho l 0 = [[]] := by cases l <;> rfl

theorem cho_cons (x : Int) (s : List Int) (k : Nat) : cho (x :: s) (k + 1) = (cho s k).map (fun t => x :: t) ++ cho s (k + 1) := rfl

theorem cho_nil : ∀ (l : List Int) (k : Nat), l.length < k → cho l k = []
 | [], k + 1, _ => rfl
 | x :: s, k + 1, h => by
  rw [cho_cons, cho_nil s k (by simp at h;omega), cho_nil s (k + 1) (by simp at h;omega)];rfl
 | l, 0, h => by omega

theorem cho_len : ∀ (l : List Int) (k : Nat), (cho l k).length ≤ 2 ^ l.length
 | l, 0 => by rw [cho_zero];exact Nat.one_le_two_pow
 | [], k + 1 => by simp [cho]
 | x :: s, k + 1 => by
  rw [cho_cons, List.length_append, List.length_map, List.length_cons, Nat.pow_succ]
  have := cho_len s k;have := cho_len s (k + 1);omega

theorem cho_mem_len : ∀ (l : List Int) (k : Nat), ∀ t ∈ cho l k, t.length = k
 | l, 0 => by rw [cho_zero];simp
 | [], k + 1 => by simp [cho]
 | x :: s, k + 1 => by
  rw [cho_cons]
  intro t ht
  rcases List.mem_append.1 ht with h | h
  ·obtain ⟨u, hu, rfl⟩ := List.mem_map.1 h
   rw [List.length_cons, cho_mem_len s k u hu]
  ·exact cho_mem_len s (k + 1) t h

theorem rdL2_lt (l : List (List Int)) (i : Nat) (h : i < l.length) : rd_L2 l (i : Int) = l[i] := by simp [rd_L2, h]

theorem subsetsOf_ev : ∀ (m : Nat) (l : List Int) (k : Nat), l.length ≤ m → m ≤ 8 → k ≤ 8 → Ev (fun g => impl_subsetsOf.f g l k) (cho l k) := by
 intro m
 induction m using Nat.strongRecOn with
 | _ m IH =>
 intro l k hlm hm hk
 rw [Ev.iff_succ]
 simp only [impl_subsetsOf.f]
 cases k with
 | zero => rw [Ev.ite_iff, if_pos (by omega), Ev.now_iff, cho_zero]
 | succ k =>
 rw [Ev.ite_iff, if_neg (by omega)]
 have hp : 2 ^ l.length ≤ 256 := p8 (by omega)
 have H := down l.length (fun i => ∀ acc : List (List Int), acc.length + (cho (l.drop i) (k + 1)).length ≤ 256 → Ev (fun g => impl_subsetsOf.l0 g l ((k + 1 : Nat) : Int) acc l.length i) (acc ++ cho (l.drop i) (k + 1))) ?_ ?_ 0 (by omega) [] (by have := cho_len l (k + 1);simp;omega)
 ·simpa using H
 ·intro acc _
  rw [Ev.iff_succ]
  simp only [impl_subsetsOf.l0, Int.lt_irrefl, ↓reduceIte, Ev.now_iff, List.drop_length, cho, List.append_nil]
 ·intro i hi ih acc ha
  rw [Ev.iff_succ]
  have h1 : (i : Int) < l.length := by omega
  have h2 : (0 : Int) ≤ i := by omega
  have h3 : (0 : Int) ≤ ((i + 1 : Nat) : Int) := by omega
  have h4 : ((i + 1 : Nat) : Int) ≤ l.length := by omega
  have e1 : wrap64 (((k + 1 : Nat) : Int) - 1) = (k : Int) := by rw [w64] <;> omega
  have hrec := IH (l.length - (i + 1)) (by omega) (l.drop (i + 1)) k (by rw [List.length_drop];omega) (by omega) (by omega)
  have hd := List.drop_eq_getElem_cons hi
  rw [hd, cho_cons, List.length_append, List.length_map] at ha
  rw [hd, cho_cons]
  simp only [impl_subsetsOf.l0, Ev.ite_iff, h1, h3, h4, ↓reduceIte, w64_succ i (show i < 9223372036854775807 by omega), e1, Int.toNat_natCast]
  rw [Ev.bind_iff hrec]
  have hml := cho_mem_len (l.drop (i + 1)) k
  generalize cho (l.drop (i + 1)) k = T at ha hml ⊢
  have G := down T.length (fun j => Ev (fun g => impl_subsetsOf.l1 g l ((k + 1 : Nat) : Int) (acc ++ (T.take j).map (fun t => l[i] :: t)) i l.length i T T.length j) (acc ++ (T.map (fun t => l[i] :: t) ++ cho (l.drop (i + 1)) (k + 1)))) ?_ ?_ 0 (by omega)
  ·simpa using G
  ·show Ev _ _
   rw [Ev.iff_succ]
   simp only [impl_subsetsOf.l1, Int.lt_irrefl, ↓reduceIte, w64_succ i (show i < 9223372036854775807 by omega), List.take_length]
   rw [← List.append_assoc]
   exact ih _ (by rw [List.length_append, List.length_map];omega)
  ·intro j hj jh
   show Ev _ _
   rw [Ev.iff_succ]
   have g1 : (j : Int) < T.length := by omega
   have g2 : (0 : Int) ≤ j := by omega
   have hTl := hml T[j] (List.getElem_mem hj)
   have g3 : [l[i]].length + T[j].length < 17592186044416 := by simp;omega
   have g4 : (acc ++ (T.take j).map (fun t => l[i] :: t)).length < 5864062014805 := by
    rw [List.length_append, List.length_map, List.length_take];omega
   rw [List.take_succ_eq_append_getElem hj, List.map_append, ← List.append_assoc] at jh
   simp only [impl_subsetsOf.l1, Ev.ite_iff, g1, g2, h1, h2, ↓reduceIte, Option.bind_some, rd_lt l i hi, rdL2_lt T j hj, g3, g4, w64_succ j (show j < 9223372036854775807 by omega)]
   exact jh

theorem l8Choices_ev : ∀ (m : Nat) (l : List Int) (k : Nat), l.length ≤ m → m ≤ 8 → k ≤ l.length → Ev (fun g => spec_l8Choices.f g l k) (cho l k) := by
 intro m
 induction m using Nat.strongRecOn with
 | _ m IH =>
 intro l k hlm hm hk
 rw [Ev.iff_succ]
 simp only [spec_l8Choices.f]
 cases k with
 | zero => rw [Ev.ite_iff, if_pos (by omega), Ev.now_iff, cho_zero]
 | succ k =>
 rw [Ev.ite_iff, if_neg (by omega)]
 have hp : 2 ^ l.length ≤ 256 := p8 (by omega)
 have H := down (l.length - k) (fun i => ∀ acc : List (List Int), acc.length + (cho (l.drop i) (k + 1)).length ≤ 256 → Ev (fun g => spec_l8Choices.l0 g l ((k + 1 : Nat) : Int) acc i) (acc ++ cho (l.drop i) (k + 1))) ?_ ?_ 0 (by omega) [] (by have := cho_len l (k + 1);simp;omega)
 ·simpa using H
 ·intro acc _
  rw [Ev.iff_succ]
  have e0 : wrap64 (((l.length - k : Nat) : Int) + ((k + 1 : Nat) : Int)) = (l.length : Int) + 1 := by rw [w64] <;> omega
  simp only [spec_l8Choices.l0, e0, Ev.ite_iff, Ev.now_iff]
  rw [if_neg (by omega), cho_nil _ _ (by rw [List.length_drop];omega), List.append_nil]
 ·intro i hi ih acc ha
  rw [Ev.iff_succ]
  have hil : i < l.length := by omega
  have h1 : (i : Int) < l.length := by omega
  have h2 : (0 : Int) ≤ i := by omega
  have h3 : (0 : Int) ≤ ((i + 1 : Nat) : Int) := by omega
  have h4 : ((i + 1 : Nat) : Int) ≤ l.length := by omega
  have e0 : wrap64 ((i : Int) + ((k + 1 : Nat) : Int)) = (i : Int) + ((k + 1 : Nat) : Int) := by rw [w64] <;> omega
  have h5 : (i : Int) + ((k + 1 : Nat) : Int) ≤ (l.length : Int) := by omega
  have e1 : wrap64 (((k + 1 : Nat) : Int) - 1) = (k : Int) := by rw [w64] <;> omega
  have hrec := IH (l.length - (i + 1)) (by omega) (l.drop (i + 1)) k (by rw [List.length_drop];omega) (by omega) (by rw [List.length_drop];omega)
  have hd := List.drop_eq_getElem_cons hil
  rw [hd, cho_cons, List.length_append, List.length_map] at ha
  rw [hd, cho_cons]
  simp only [spec_l8Choices.l0, e0, Ev.ite_iff, h3, h4, h5, ↓reduceIte, w64_succ i (show i < 9223372036854775807 by omega), e1, Int.toNat_natCast]
  rw [Ev.bind_iff hrec]
  have hml := cho_mem_len (l.drop (i + 1)) k
  generalize cho (l.drop (i + 1)) k = T at ha hml ⊢
  have G := down T.length (fun j => Ev (fun g => spec_l8Choices.l1 g l ((k + 1 : Nat) : Int) (acc ++ (T.take j).map (fun t => l[i] :: t)) i T j) (acc ++ (T.map (fun t => l[i] :: t) ++ cho (l.drop (i + 1)) (k + 1)))) ?_ ?_ 0 (by omega)
  ·simpa using G
  ·show Ev _ _
   rw [Ev.iff_succ]
   simp only [spec_l8Choices.l1, Int.lt_irrefl, ↓reduceIte, w64_succ i (show i < 9223372036854775807 by omega), List.take_length]
   rw [← List.append_assoc]
   exact ih _ (by rw [List.length_append, List.length_map];omega)
  ·intro j hj jh
   show Ev _ _
   rw [Ev.iff_succ]
   have g1 : (j : Int) < T.length := by omega
   have g2 : (0 : Int) ≤ j := by omega
   have hTl := hml T[j] (List.getElem_mem hj)
   have g3 : [l[i]].length + T[j].length < 17592186044416 := by simp;omega
   have g4 : (acc ++ (T.take j).map (fun t => l[i] :: t)).length < 5864062014805 := by
    rw [List.length_append, List.length_map, List.length_take];omega
   rw [List.take_succ_eq_append_getElem hj, List.map_append, ← List.append_assoc] at jh
   simp only [spec_l8Choices.l1, Ev.ite_iff, g1, g2, h1, h2, ↓reduceIte, Option.bind_some, rd_lt l i hil, rdL2_lt T j hj, g3, g4, w64_succ j (show j < 9223372036854775807 by omega)]
   exact jh

theorem closed_eq {es : List S92} {n x : Nat} (hn : n ≤ 8) (hx : x < n) : impl_net_closed.f (nets es n) (x : Int) = some (((nb es n x ||| 2 ^ x : Nat)) : Int) := by
 unfold impl_net_closed.f
 rw [if_pos (by omega), if_pos (by rw [nets_len];omega), nets_rd hx, shl_one (by omega), gor _ _ (lt62 hn (nb_lt es n x)) (lt62 hn (Nat.pow_lt_pow_right (by decide) hx))]

/-- The least node of a set that is not empty. -/
def lowM (n S : Nat) : Nat := (List.range n).findIdx (fun x => S.testBit x)

theorem lowM_use {n S : Nat} (h : S < 2 ^ n) (h0 : S ≠ 0) : lowM n S < n ∧ S.testBit (lowM n S) = true := by
 have hex : ∃ x ∈ List.range n, S.testBit x = true := by
  apply Classical.byContradiction
  intro hn
  apply h0
  refine Nat.eq_of_testBit_eq (fun i => ?_)
  rw [Nat.zero_testBit, Bool.eq_false_iff]
  intro hb
  by_cases hi : i < n
  ·exact hn ⟨i, List.mem_range.2 hi, hb⟩
  ·rw [bit_lt h (by omega)] at hb;cases hb
 have hlt := List.findIdx_lt_length.2 hex
 have hg := List.findIdx_getElem (w := hlt)
 rw [List.length_range] at hlt
 simp only [List.getElem_range] at hg
 exact ⟨hlt, hg⟩

theorem tz_low : ∀ n : Nat, n ≤ 8 → ∀ m : Nat, m < 2 ^ n → m ≠ 0 → Go.Lib.ctz 64 m = lowM n m := by decide +kernel

theorem tz_ev {n m : Nat} (hn : n ≤ 8) (hm : m < 2 ^ n) (h0 : m ≠ 0) : bits_TrailingZeros.f (IntKind.u64.wrap (m : Int)) = some ((lowM n m : Nat) : Int) := by
 have h8 := p8 hn
 rw [u64_wrap_id m (lt62 hn hm)]
 unfold bits_TrailingZeros.f
 rw [if_pos ⟨by omega, by omega⟩, Int.toNat_natCast, tz_low n hn m hm h0]

/-- Each one of some guards can stay or go to a node of a set, no two to the same one. -/
def canM (es : List S92) (n : Nat) : List Nat → Nat → Bool
 | [], _ => true
 | g :: gs, S => (bl n ((nb es n g ||| 2 ^ g) &&& S)).any (fun x => canM es n gs (mns S (2 ^ x.toNat)))

theorem idxAny {q : Nat → Int → Option Bool} {p : Int → Bool} : ∀ (l : List Int) (i : Nat), (∀ x ∈ l, Ev (fun k => q k x) (p x)) → ∃ j : Int, Ev (fun k => idxO (q k) l (i : Int)) j ∧ decide (0 ≤ j) = l.any p
 | [], _, _ => ⟨-1, by simp only [idxO];exact Ev.now _, rfl⟩
 | x :: l, i, hq => by
  cases hp : p x with
  | true =>
   refine ⟨(i : Int), ?_, by rw [List.any_cons, hp, Bool.true_or];exact decide_eq_true (by omega)⟩
   simp only [idxO]
   rw [Ev.bind_iff (hq x (by simp)), hp, Ev.ite_iff, if_pos rfl, Ev.now_iff]
  | false =>
   obtain ⟨j, h1, h2⟩ := idxAny l (i + 1) (fun y hy => hq y (by simp [hy]))
   refine ⟨j, ?_, by rw [List.any_cons, hp, Bool.false_or];exact h2⟩
   simp only [idxO]
   rw [Ev.bind_iff (hq x (by simp)), hp, Ev.ite_iff, if_neg (by decide)]
   rw [show ((i + 1 : Nat) : Int) = (i : Int) + 1 by omega] at h1
   exact h1

theorem canMatch_ev {es : List S92} {n : Nat} (hn : n ≤ 8) : ∀ (gs : List Nat) (S : Nat), (∀ g ∈ gs, g < n) → S < 2 ^ n → Ev (fun k => impl_net_canMatch.f k (nets es n) (gs.map fun g : Nat => (g : Int)) (S : Int)) (canM es n gs S)
 | [], S, _, _ => by simp only [List.map_nil, impl_net_canMatch.f, canM];exact Ev.now _
 | g :: gs, S, hg, hS => by
  have hgn := hg g (by simp)
  have hpg : 2 ^ g < 2 ^ n := Nat.pow_lt_pow_right (by decide) hgn
  have hcl : nb es n g ||| 2 ^ g < 2 ^ n := Nat.or_lt_two_pow (nb_lt es n g) hpg
  have hl : (nb es n g ||| 2 ^ g) &&& S < 2 ^ n := Nat.and_lt_two_pow _ hS
  simp only [List.map_cons, impl_net_canMatch.f, canM]
  rw [closed_eq hn hgn]
  simp only [Option.bind_some]
  rw [gand _ _ (lt62 hn hcl) (lt62 hn hS), Ev.bind_iff (setOf_ev n _ hn hl)]
  obtain ⟨j, h1, h2⟩ := idxAny (q := fun k x => if 0 ≤ x then impl_net_canMatch.f k (nets es n) (gs.map fun g : Nat => (g : Int)) (Go.bits .andNot .i64 (S : Int) (shl .i64 1 x)) else none) (p := fun x => canM es n gs (mns S (2 ^ x.toNat))) (bl n ((nb es n g ||| 2 ^ g) &&& S)) 0 (fun x hx => by
   obtain ⟨i, hi, _, rfl⟩ := mem_bl.1 hx
   have hpi : 2 ^ i < 2 ^ 62 := Nat.pow_lt_pow_right (by decide) (by omega)
   rw [Ev.ite_iff, if_pos (by omega), Int.toNat_natCast, shl_one (by omega), gandn _ _ (lt62 hn hS) hpi]
   exact canMatch_ev hn gs _ (fun y hy => hg y (by simp [hy])) (mns_lt _ hS))
  rw [Ev.bind_iff (show Ev (fun k => idxO _ _ 0) j from h1), Ev.now_iff, h2]

theorem any_bl {n m : Nat} {p : Int → Bool} : (bl n m).any p = true ↔ ∃ i, i < n ∧ m.testBit i = true ∧ p (i : Int) = true := by
 rw [List.any_eq_true]
 constructor
 ·rintro ⟨x, hx, hp⟩
  obtain ⟨i, h1, h2, rfl⟩ := mem_bl.1 hx
  exact ⟨i, h1, h2, hp⟩
 ·rintro ⟨i, h1, h2, hp⟩
  exact ⟨(i : Int), mem_bl.2 ⟨i, h1, h2, rfl⟩, hp⟩

end Go.Proofs.YthbjajppdomhhaaDoor.QEternalNumber
