import Derived.Test.YthbjajppdomhhaaDoorQChainsOf0
import Derived.Test.YthbjajppdomhhaaDoorQChainsOf11
import Derived.Test.YthbjajppdomhhaaDoorQChainsOf12
import Derived.Test.YthbjajppdomhhaaDoorQChainsOfA2
namespace Go.Proofs.YthbjajppdomhhaaDoor.QChainsOf
open Go.RowKit Go.Proofs.YthbjajppdomhhaaDoorW.PrintWords Go.Proofs.YthbjajppdomhhaaDoorW.PrintLast Go.Proofs.YthbjajppdomhhaaDoorW.PrintMore
attribute [local go_sem] max2_int min2_int max_two min_two max_three min_three max_four min_four   -- for this text's walks alone
set_option linter.unusedVariables false
set_option linter.unusedSimpArgs false
theorem tz_low : ∀ n : Nat, n ≤ 8 → ∀ m : Nat, m < 2 ^ n → m ≠ 0 → Go.Lib.ctz 64 m = lowM n m := by decide +kernel

theorem tz_ev {n m : Nat} (hn : n ≤ 8) (hm : m < 2 ^ n) (h0 : m ≠ 0) : bits_TrailingZeros.f (IntKind.u64.wrap (m : Int)) = some ((lowM n m : Nat) : Int) := by
 have h8 := p8 hn
 rw [u64_wrap_id m (lt62 hn hm)]
 unfold bits_TrailingZeros.f
 rw [if_pos ⟨by omega, by omega⟩, Int.toNat_natCast, tz_low n hn m hm h0]

theorem fold_bit_iff {es : List S92} {n m nx : Nat} {skew : Bool} {y : Nat} : ∀ i, ((List.range i).foldl (fStep es n m skew) nx).testBit y = true ↔ nx.testBit y = true ∨ ∃ x, x < i ∧ ((skew || m.testBit x) && isPow (opM es n m x)) = true ∧ (opM es n m x).testBit y = true
 | 0 => by simp
 | i + 1 => by
  rw [fold_range_succ]
  have ih := fold_bit_iff (es := es) (n := n) (m := m) (nx := nx) (skew := skew) (y := y) i
  generalize (List.range i).foldl (fStep es n m skew) nx = acc at ih ⊢
  unfold fStep
  constructor
  ·intro h
   by_cases c : ((skew || m.testBit i) && isPow (opM es n m i)) = true
   ·rw [if_pos c, Nat.testBit_or, Bool.or_eq_true, ih] at h
    rcases h with (h | ⟨x, hx, h⟩) | h
    ·exact .inl h
    ·exact .inr ⟨x, by omega, h⟩
    ·exact .inr ⟨i, by omega, c, h⟩
   ·rw [if_neg c, ih] at h
    rcases h with h | ⟨x, hx, h⟩
    ·exact .inl h
    ·exact .inr ⟨x, by omega, h⟩
  ·intro h
   have h' : acc.testBit y = true ∨ ((skew || m.testBit i) && isPow (opM es n m i)) = true ∧ (opM es n m i).testBit y = true := by
    rcases h with h | ⟨x, hx, h⟩
    ·exact .inl (ih.2 (.inl h))
    ·by_cases e : x = i
     ·subst e;exact .inr h
     ·exact .inl (ih.2 (.inr ⟨x, by omega, h⟩))
   split
   ·rw [Nat.testBit_or, Bool.or_eq_true]
    rcases h' with h' | h'
    ·exact .inl h'
    ·exact .inr h'.2
   ·rename_i c
    rcases h' with h' | h'
    ·exact h'
    ·exact absurd h'.1 c

theorem once_in {es : List S92} {n m C : Nat} {skew skew2 : Bool} (hn : n ≤ 8) (hs : skew = true → skew2 = true) (hsub : ∀ i, m.testBit i = true → C.testBit i = true) (hst : onceM es n C skew2 = C) {y : Nat} (h : (onceM es n m skew).testBit y = true) : C.testBit y = true := by
 rcases (fold_bit_iff n).1 h with h | ⟨x, hx, hc, hy⟩
 ·exact hsub y h
 ·by_cases g : C.testBit y = true
  ·exact g
  ·rw [Bool.and_eq_true, Bool.or_eq_true] at hc
   obtain ⟨j, hj, he⟩ := isPow_spec n hn _ (opM_lt es n m x) hc.2
   have hyj : j = y := by rw [he, Nat.testBit_two_pow] at hy;simpa using hy
   subst hyj
   have heq : opM es n C x = opM es n m x := by
    refine Nat.eq_of_testBit_eq (fun i => ?_)
    by_cases e : i = j
    ·subst e
     rw [hy]
     unfold opM at hy ⊢
     rw [mns_bit, Bool.and_eq_true] at hy
     rw [mns_bit, hy.1]
     simp [g]
    ·have h1 : (opM es n m x).testBit i = false := by rw [he, Nat.testBit_two_pow];simp;omega
     rw [h1]
     unfold opM at h1 ⊢
     rw [mns_bit] at h1 ⊢
     rw [Bool.and_eq_false_iff] at h1
     rcases h1 with h1 | h1
     ·rw [h1];rfl
     ·have h2 : m.testBit i = true := by simpa using h1
      rw [hsub i h2];simp
   rw [← hst]
   refine (fold_bit_iff n).2 (.inr ⟨x, hx, ?_, by rw [heq];exact hy⟩)
   rw [heq, hc.2, Bool.and_true, Bool.or_eq_true]
   rcases hc.1 with h1 | h1
   ·exact .inl (hs h1)
   ·exact .inr (hsub x h1)

theorem clos_in {es : List S92} {n C : Nat} {skew skew2 : Bool} (hn : n ≤ 8) (hs : skew = true → skew2 = true) (hst : onceM es n C skew2 = C) : ∀ m, m < 2 ^ n → (∀ i, m.testBit i = true → C.testBit i = true) → ∀ y, (closM es n skew m).testBit y = true → C.testBit y = true := by
 intro m
 obtain ⟨d, hd⟩ : ∃ d, d = 2 ^ n - m := ⟨_, rfl⟩
 induction d using Nat.strongRecOn generalizing m with
 | _ d ih =>
  intro hm hsub y hy
  unfold closM at hy
  by_cases c : onceM es n m skew = m
  ·rw [dif_neg (by simp [c])] at hy
   exact hsub y hy
  ·have h1 := onceM_le es n m skew
   have h2 := onceM_lt (es := es) (skew := skew) hm
   rw [dif_pos ⟨hm, c⟩] at hy
   exact ih _ (by omega) _ rfl h2 (fun i hi => once_in hn hs hsub hst hi) y hy

/-- A closure stands. -/
theorem clos_stable {es : List S92} {n : Nat} {skew : Bool} : ∀ m, m < 2 ^ n → onceM es n (closM es n skew m) skew = closM es n skew m := by
 intro m
 obtain ⟨d, hd⟩ : ∃ d, d = 2 ^ n - m := ⟨_, rfl⟩
 induction d using Nat.strongRecOn generalizing m with
 | _ d ih =>
  intro hm
  by_cases c : onceM es n m skew = m
  ·rw [closM_stop c];exact c
  ·have h1 := onceM_le es n m skew
   have h2 := onceM_lt (es := es) (skew := skew) hm
   rw [← closM_once hm]
   exact ih _ (by omega) _ rfl h2

/-- A closure grows with its set. -/
theorem clos_mono {es : List S92} {n m m' : Nat} {skew skew2 : Bool} (hn : n ≤ 8) (hs : skew = true → skew2 = true) (hm : m < 2 ^ n) (hm' : m' < 2 ^ n) (h : ∀ i, m.testBit i = true → m'.testBit i = true) {y : Nat} (hy : (closM es n skew m).testBit y = true) : (closM es n skew2 m').testBit y = true :=
 clos_in hn hs (clos_stable m' hm') m hm (fun i hi => clos_sub hm' (h i hi)) y hy

/-- The first coloured node with just one neighbor that is not coloured. -/
def stepX (es : List S92) (n m : Nat) : Option Nat := (List.range n).find? (fun x => m.testBit x && isPow (opM es n m x))

def stepY (es : List S92) (n m x : Nat) : Nat := (opM es n m x).log2

def updF (F : Nat → Int) (x y : Nat) : Nat → Int := fun z => if z = x then (y : Int) else F z

/-- What forces which node, when all that can be coloured one by one is. -/
def runC (es : List S92) (n : Nat) : Nat → Nat → (Nat → Int) → Option (Nat → Int)
 | 0, _, _ => none
 | d + 1, m, F => if m = 2 ^ n - 1 then some F else match stepX es n m with
  | none => none
  | some x => runC es n d (m ||| 2 ^ stepY es n m x) (updF F x (stepY es n m x))

theorem stepX_some {es : List S92} {n m x : Nat} (hn : n ≤ 8) (h : stepX es n m = some x) : x < n ∧ m.testBit x = true ∧ stepY es n m x < n ∧ opM es n m x = 2 ^ stepY es n m x ∧ m.testBit (stepY es n m x) = false := by
 have h1 := List.mem_of_find?_eq_some h
 have h2 := List.find?_some h
 rw [List.mem_range] at h1
 simp only [Bool.and_eq_true] at h2
 obtain ⟨y, hy, he⟩ := isPow_spec n hn _ (opM_lt es n m x) h2.2
 have hs : stepY es n m x = y := by unfold stepY;rw [he, Nat.log2_two_pow]
 rw [hs]
 refine ⟨h1, h2.1, hy, he, ?_⟩
 have hb : (opM es n m x).testBit y = true := by rw [he, Nat.testBit_two_pow];simp
 unfold opM at hb
 rw [mns_bit, Bool.and_eq_true] at hb
 simpa using hb.2

theorem stepX_none {es : List S92} {n m : Nat} (hm : m < 2 ^ n) (h : stepX es n m = none) : onceM es n m false = m := by
 have hno := List.find?_eq_none.1 h
 refine mask_ext (n := n) (onceM_lt hm) hm (fun i hi => ?_)
 rw [Bool.eq_iff_iff]
 refine ⟨fun hb => ?_, fun hb => (fold_bit_iff n).2 (.inl hb)⟩
 rcases (fold_bit_iff n).1 hb with hb | ⟨x, hx, hc, _⟩
 ·exact hb
 ·exact absurd (by simpa using hc) (by simpa using hno x (List.mem_range.2 hx))

theorem or_pow_lt {n m y : Nat} (hm : m < 2 ^ n) (hy : y < n) : m ||| 2 ^ y < 2 ^ n := Nat.or_lt_two_pow hm (Nat.pow_lt_pow_right (by decide) hy)

theorem or_pow_bit {m y i : Nat} : (m ||| 2 ^ y).testBit i = true ↔ m.testBit i = true ∨ i = y := by
 rw [Nat.testBit_or, Bool.or_eq_true, Nat.testBit_two_pow]
 simp only [decide_eq_true_eq]
 exact ⟨fun h => h.imp id Eq.symm, fun h => h.imp id Eq.symm⟩

/-- A node more that can be coloured changes no closure. -/
theorem clos_step {es : List S92} {n m x : Nat} (hn : n ≤ 8) (hm : m < 2 ^ n) (h : stepX es n m = some x) : closM es n false (m ||| 2 ^ stepY es n m x) = closM es n false m := by
 obtain ⟨h1, h2, h3, h4, h5⟩ := stepX_some hn h
 have h6 := or_pow_lt hm h3
 have hy : (onceM es n m false).testBit (stepY es n m x) = true := by
  refine (fold_bit_iff n).2 (.inr ⟨x, h1, ?_, ?_⟩)
  ·have h7 := List.find?_some h
   simpa using h7
  ·rw [h4, Nat.testBit_two_pow];simp
 have hyc : (closM es n false m).testBit (stepY es n m x) = true := by rw [← closM_once hm];exact clos_sub (onceM_lt hm) hy
 refine mask_ext (n := n) (closM_lt h6) (closM_lt hm) (fun i _ => ?_)
 rw [Bool.eq_iff_iff]
 constructor
 ·intro hb
  refine clos_in hn (fun h => h) (clos_stable m hm) _ h6 (fun j hj => ?_) i hb
  rcases or_pow_bit.1 hj with hj | rfl
  ·exact clos_sub hm hj
  ·exact hyc
 ·intro hb
  exact clos_mono hn (fun h => h) hm h6 (fun j hj => or_pow_bit.2 (.inl hj)) hb

theorem bl_more {n m y : Nat} (hy : y < n) (h : m.testBit y = false) : (bl n (m ||| 2 ^ y)).length = (bl n m).length + 1 := by
 rw [bl_len, bl_len]
 have H : ∀ i : Nat, ((List.range i).filter (fun x => (m ||| 2 ^ y).testBit x)).length = ((List.range i).filter (fun x => m.testBit x)).length + (if y < i then 1 else 0) := by
  intro i
  induction i with
  | zero => rfl
  | succ i ih =>
   rw [filter_range_succ, filter_range_succ, List.length_append, List.length_append, ih]
   by_cases e : i = y
   ·subst e
    have e1 : (m ||| 2 ^ i).testBit i = true := or_pow_bit.2 (.inr rfl)
    rw [e1, h]
    simp
   ·have e1 : (m ||| 2 ^ y).testBit i = m.testBit i := by
     rw [Bool.eq_iff_iff, or_pow_bit]
     simp [e]
    rw [e1]
    have : (y < i + 1) ↔ (y < i) := by omega
    simp only [this]
    omega
 rw [H n, if_pos hy]

/-- With enough rounds: told just if the closure has all nodes. -/
theorem runC_some {es : List S92} {n : Nat} (hn : n ≤ 8) : ∀ (d m : Nat) (F : Nat → Int), m < 2 ^ n → n < (bl n m).length + d → ((runC es n d m F).isSome = decide (closM es n false m = 2 ^ n - 1))
 | 0, m, F, hm, h => by have := bl_len_le n m;omega
 | d + 1, m, F, hm, h => by
  unfold runC
  by_cases c : m = 2 ^ n - 1
  ·rw [if_pos c, c, closM_full];simp
  ·rw [if_neg c]
   cases hs : stepX es n m with
   | none =>
    rw [closM_stop (stepX_none hm hs)]
    simp [c]
   | some x =>
    obtain ⟨h1, h2, h3, h4, h5⟩ := stepX_some hn hs
    have h6 := bl_more h3 h5
    have := runC_some (es := es) hn d (m ||| 2 ^ stepY es n m x) (updF F x (stepY es n m x)) (or_pow_lt hm h3) (by omega)
    rw [clos_step hn hm hs] at this
    exact this

/-- A chain of a table of forces. -/
def isCh (F : Nat → Int) : List Nat → Prop
 | [] => False
 | [x] => F x = -1
 | x :: y :: t => F x = (y : Int) ∧ isCh F (y :: t)

def lastN : List Nat → Nat
 | [] => 0
 | [x] => x
 | _ :: y :: t => lastN (y :: t)

theorem isCh_upd {F : Nat → Int} {x y : Nat} (hx : F x = -1) (hy : F y = -1) (hxy : y ≠ x) : ∀ l : List Nat, isCh F l → y ∉ l → (lastN l = x → isCh (updF F x y) (l ++ [y])) ∧ (lastN l ≠ x → isCh (updF F x y) l)
 | [], h, _ => h.elim
 | [z], h, hz => by
  refine ⟨fun e => ?_, fun e => ?_⟩
  ·have e' : z = x := e
   subst e'
   exact ⟨by simp [updF], by simp [isCh, updF, hxy, hy]⟩
  ·have e' : z ≠ x := e
   simp only [isCh, updF, if_neg e']
   exact h
 | z :: w :: t, h, hz => by
  obtain ⟨h1, h2⟩ := h
  have hzx : z ≠ x := fun e => by rw [e, hx] at h1;omega
  have ih := isCh_upd hx hy hxy (w :: t) h2 (fun hm => hz (List.mem_cons_of_mem _ hm))
  refine ⟨fun e => ⟨by simp only [updF, if_neg hzx];exact h1, ih.1 e⟩, fun e => ⟨by simp only [updF, if_neg hzx];exact h1, ih.2 e⟩⟩

/-- What is kept while nodes are forced one by one. -/
structure ChInv (es : List S92) (n m : Nat) (F : Nat → Int) (S : List Nat) (L : List (List Nat)) : Prop where
 forces : ∀ z, F z = -1 ∨ (0 ≤ F z ∧ m.testBit z = true ∧ opM es n m z = 0)
 small : ∀ z, F z < (n : Int)
 len : L.length = S.length
 starts : ∀ i (h : i < S.length), ∃ t, L[i]'(by omega) = S[i] :: t
 chain : ∀ l ∈ L, isCh F l
 coloured : ∀ l ∈ L, ∀ z ∈ l, z < n ∧ m.testBit z = true
 short : ∀ l ∈ L, l.length ≤ (bl n m).length + 1

def grow (x y : Nat) (l : List Nat) : List Nat := if lastN l = x then l ++ [y] else l

theorem ChInv_step {es : List S92} {n m x : Nat} {F : Nat → Int} {S : List Nat} {L : List (List Nat)} (hn : n ≤ 8) (h : ChInv es n m F S L) (hs : stepX es n m = some x) :
  ChInv es n (m ||| 2 ^ stepY es n m x) (updF F x (stepY es n m x)) S (L.map (grow x (stepY es n m x))) := by
 obtain ⟨h1, h2, h3, h4, h5⟩ := stepX_some hn hs
 generalize hye : stepY es n m x = y at h3 h4 h5 ⊢
 have hFx : F x = -1 := by
  rcases h.forces x with e | ⟨_, _, e⟩
  ·exact e
  ·rw [h4] at e;have := Nat.two_pow_pos y;omega
 have hFy : F y = -1 := by
  rcases h.forces y with e | ⟨_, e, _⟩
  ·exact e
  ·rw [h5] at e;cases e
 have hxy : y ≠ x := fun e => by rw [e, h2] at h5;cases h5
 have hsub : ∀ z, opM es n m z = 0 → opM es n (m ||| 2 ^ y) z = 0 := fun z hz => by
  refine Nat.eq_of_testBit_eq (fun i => ?_)
  have := congrArg (fun q => q.testBit i) hz
  simp only [opM, mns_bit, Nat.zero_testBit] at this ⊢
  cases hb : (nb es n z).testBit i
  ·simp
  ·rw [hb] at this
   simp only [Bool.true_and, Bool.not_eq_eq_eq_not, Bool.not_false] at this
   rw [or_pow_bit.2 (.inl this)];rfl
 have hx0 : opM es n (m ||| 2 ^ y) x = 0 := by
  refine Nat.eq_of_testBit_eq (fun i => ?_)
  have := congrArg (fun q => q.testBit i) h4
  simp only [opM, mns_bit, Nat.zero_testBit, Nat.testBit_two_pow] at this ⊢
  cases hb : (nb es n x).testBit i
  ·simp
  ·rw [hb] at this
   by_cases e : i = y
   ·rw [or_pow_bit.2 (.inr e)];rfl
   ·simp only [Bool.true_and] at this
    have h7 : m.testBit i = true := by
     cases hq : m.testBit i
     ·rw [hq] at this;simp at this;omega
     ·rfl
    rw [or_pow_bit.2 (.inl h7)];rfl
 have hbl := bl_more h3 h5
 have hny : ∀ l ∈ L, y ∉ l := fun l hl hm => by have := (h.coloured l hl y hm).2;rw [h5] at this;cases this
 refine ⟨fun z => ?_, fun z => ?_, by rw [List.length_map];exact h.len, fun i hi => ?_, fun l hl => ?_, fun l hl => ?_, fun l hl => ?_⟩
 ·by_cases e : z = x
  ·subst e
   refine .inr ⟨by simp [updF], or_pow_bit.2 (.inl h2), hx0⟩
  ·simp only [updF, if_neg e]
   rcases h.forces z with g | ⟨g1, g2, g3⟩
   ·exact .inl g
   ·exact .inr ⟨g1, or_pow_bit.2 (.inl g2), hsub z g3⟩
 ·unfold updF
  split
  ·omega
  ·exact h.small z
 ·obtain ⟨t, ht⟩ := h.starts i hi
  rw [List.getElem_map, ht]
  unfold grow
  split
  ·exact ⟨t ++ [y], rfl⟩
  ·exact ⟨t, rfl⟩
 ·obtain ⟨k, hk, rfl⟩ := List.mem_map.1 hl
  have := isCh_upd hFx hFy hxy k (h.chain k hk) (hny k hk)
  unfold grow
  split
  ·rename_i e;exact this.1 e
  ·rename_i e;exact this.2 e
 ·obtain ⟨k, hk, rfl⟩ := List.mem_map.1 hl
  intro z hz
  unfold grow at hz
  split at hz
  ·rcases List.mem_append.1 hz with hz | hz
   ·exact ⟨(h.coloured k hk z hz).1, or_pow_bit.2 (.inl (h.coloured k hk z hz).2)⟩
   ·rw [List.mem_singleton.1 hz];exact ⟨h3, or_pow_bit.2 (.inr rfl)⟩
  ·exact ⟨(h.coloured k hk z hz).1, or_pow_bit.2 (.inl (h.coloured k hk z hz).2)⟩
 ·obtain ⟨k, hk, rfl⟩ := List.mem_map.1 hl
  have := h.short k hk
  unfold grow
  split
  ·rw [List.length_append, List.length_singleton];omega
  ·omega

/-- At first. -/
theorem ChInv_start {es : List S92} {n m : Nat} {S : List Nat} (hS : ∀ z ∈ S, z < n ∧ m.testBit z = true) : ChInv es n m (fun _ => -1) S (S.map fun z => [z]) := by
 refine ⟨fun _ => .inl rfl, fun _ => by omega, by simp, fun i hi => ⟨[], by simp⟩, fun l hl => ?_, fun l hl => ?_, fun l hl => ?_⟩
 ·obtain ⟨k, _, rfl⟩ := List.mem_map.1 hl
  rfl
 ·obtain ⟨k, hk, rfl⟩ := List.mem_map.1 hl
  intro z hz
  rw [List.mem_singleton.1 hz];exact hS k hk
 ·obtain ⟨k, _, rfl⟩ := List.mem_map.1 hl
  simp

/-- The chains of the reference's way, and the table of the program's, kept together. -/
def runL (es : List S92) (n : Nat) : Nat → Nat → List (List Nat) → List (List Nat)
 | 0, _, L => L
 | d + 1, m, L => if m = 2 ^ n - 1 then L else match stepX es n m with
  | none => L
  | some x => runL es n d (m ||| 2 ^ stepY es n m x) (L.map (grow x (stepY es n m x)))

theorem run_inv {es : List S92} {n : Nat} (hn : n ≤ 8) {S : List Nat} : ∀ (d m : Nat) (F : Nat → Int) (L : List (List Nat)), m < 2 ^ n → ChInv es n m F S L → ∀ G, runC es n d m F = some G → ∃ m', ChInv es n m' G S (runL es n d m L)
 | 0, m, F, L, hm, h, G, hG => by simp [runC] at hG
 | d + 1, m, F, L, hm, h, G, hG => by
  unfold runC at hG
  unfold runL
  by_cases c : m = 2 ^ n - 1
  ·rw [if_pos c] at hG ⊢
   obtain rfl := Option.some.inj hG
   exact ⟨m, h⟩
  ·rw [if_neg c] at hG ⊢
   cases hs : stepX es n m with
   | none => rw [hs] at hG;cases hG
   | some x =>
    rw [hs] at hG
    exact run_inv hn d _ _ _ (or_pow_lt hm (stepX_some hn hs).2.2.1) (ChInv_step hn h hs) G hG

def nI (l : List Nat) : List Int := l.map (fun z : Nat => (z : Int))

def nII (L : List (List Nat)) : List (List Int) := L.map nI

def blN (n m : Nat) : List Nat := (List.range n).filter (fun x => m.testBit x)

theorem bl_blN (n m : Nat) : bl n m = nI (blN n m) := rfl

theorem nI_len (l : List Nat) : (nI l).length = l.length := by simp [nI]

theorem nII_len (L : List (List Nat)) : (nII L).length = L.length := by simp [nII]

theorem blN_mem {n m z : Nat} : z ∈ blN n m ↔ z < n ∧ m.testBit z = true := by simp [blN]

theorem blN_len (n m : Nat) : (blN n m).length = (bl n m).length := by rw [bl_blN, nI_len]

theorem rd_nI (l : List Nat) (i : Nat) (h : i < l.length) : rd (nI l) (i : Int) = ((l[i] : Nat) : Int) := by
 rw [rd_lt _ i (by rw [nI_len];exact h)];simp [nI]

theorem rdL_nII (L : List (List Nat)) (i : Nat) (h : i < L.length) : rd_L2 (nII L) (i : Int) = nI L[i] := by
 rw [rdL2_lt _ i (by rw [nII_len];exact h)];simp [nII]

theorem last_nI : ∀ (l : List Nat), l ≠ [] → rd (nI l) ((l.length - 1 : Nat) : Int) = ((lastN l : Nat) : Int)
 | [], h => absurd rfl h
 | [z], _ => by rw [rd_nI _ _ (by simp)];rfl
 | z :: w :: t, _ => by
  have ih := last_nI (w :: t) (by simp)
  rw [rd_nI _ _ (by simp)] at ih ⊢
  rw [← show lastN (w :: t) = lastN (z :: w :: t) from rfl, ← ih]
  simp

theorem find_blN (p : Nat → Bool) (n m : Nat) : (blN n m).find? p = (List.range n).find? (fun x => m.testBit x && p x) := by
 unfold blN
 rw [List.find?_filter]
 congr 1
 funext a
 cases m.testBit a <;> cases p a <;> rfl

theorem idxO_find (q : Int → Option Bool) (p : Nat → Bool) : ∀ (S : List Nat) (i : Nat), (∀ z ∈ S, q (z : Int) = some (p z)) →
  ∃ ix, idxO q (nI S) (i : Int) = some ix ∧ (S.find? p = none → ix = -1) ∧ ∀ x, S.find? p = some x → ∃ j : Nat, ix = ((i + j : Nat) : Int) ∧ ∃ h : j < S.length, S[j] = x
 | [], i, _ => ⟨-1, rfl, fun _ => rfl, fun x h => by simp at h⟩
 | z :: S, i, hq => by
  have hz := hq z (by simp)
  cases hp : p z with
  | true =>
   refine ⟨(i : Int), ?_, fun h => ?_, fun x h => ⟨0, by simp, by simp, ?_⟩⟩
   ·show (q (z : Int)).bind _ = _
    rw [hz, hp];rfl
   ·rw [List.find?_cons, hp] at h;cases h
   ·rw [List.find?_cons, hp] at h
    simpa using Option.some.inj h
  | false =>
   obtain ⟨ix, h1, h2, h3⟩ := idxO_find q p S (i + 1) (fun y hy => hq y (List.mem_cons_of_mem _ hy))
   refine ⟨ix, ?_, fun h => h2 ?_, fun x h => ?_⟩
   ·show (q (z : Int)).bind _ = _
    rw [hz, hp]
    simp only [Option.bind_some, Bool.false_eq_true, ↓reduceIte]
    exact h1
   ·rw [List.find?_cons, hp] at h;exact h
   ·rw [List.find?_cons, hp] at h
    obtain ⟨j, e, hj, g⟩ := h3 x h
    exact ⟨j + 1, by rw [e];congr 1;omega, by simpa using hj, by simpa using g⟩

theorem chQ_eq {es : List S92} {n m x : Nat} (hn : n ≤ 8) (hm : m < 2 ^ n) (hx : x < n) : chQ (nets es n) m (x : Int) = some (isPow (opM es n m x)) := by
 unfold chQ
 rw [if_pos ⟨by omega, by rw [nets_len];omega⟩, nets_rd hx, gandn _ _ (lt62 hn (nb_lt es n x)) (lt62 hn hm), ones_bl hn (mns_lt _ (nb_lt es n x)), isPow_len n hn _ (opM_lt es n m x)]
 simp only [Option.bind_some]
 rw [show bl n (mns (nb es n x) m) = bl n (opM es n m x) from rfl]
 congr 1
 rw [Bool.eq_iff_iff]
 simp only [decide_eq_true_eq]
 omega

theorem low_pow {n y : Nat} (hn : n ≤ 8) (hy : y < n) : lowM n (2 ^ y) = y := by
 have h1 : 2 ^ y < 2 ^ n := Nat.pow_lt_pow_right (by decide) hy
 have h2 : 2 ^ y ≠ 0 := by have := Nat.two_pow_pos y;omega
 have h3 := tz_low n hn _ h1 h2
 rw [← h3]
 have : ∀ y : Nat, y < 8 → Go.Lib.ctz 64 (2 ^ y) = y := by decide +kernel
 exact this y (by omega)

end Go.Proofs.YthbjajppdomhhaaDoor.QChainsOf
