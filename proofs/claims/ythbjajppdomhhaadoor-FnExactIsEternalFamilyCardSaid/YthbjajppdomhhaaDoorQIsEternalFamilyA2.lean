import Derived.Test.YthbjajppdomhhaaDoorQIsEternalFamily0
import Derived.Test.YthbjajppdomhhaaDoorQIsEternalFamily10
import Derived.Test.YthbjajppdomhhaaDoorQIsEternalFamily11
import Derived.Test.YthbjajppdomhhaaDoorQIsEternalFamily4
import Derived.Test.YthbjajppdomhhaaDoorQIsEternalFamily5
import Derived.Test.YthbjajppdomhhaaDoorQIsEternalFamilyA1
namespace Go.Proofs.YthbjajppdomhhaaDoor.QIsEternalFamily
open Go.RowKit Go.Proofs.YthbjajppdomhhaaDoorW.PrintWords Go.Proofs.YthbjajppdomhhaaDoorW.PrintLast Go.Proofs.YthbjajppdomhhaaDoorW.PrintMore
attribute [local go_sem] max2_int min2_int max_two min_two max_three min_three max_four min_four   -- for this text's walks alone
set_option linter.unusedVariables false
set_option linter.unusedSimpArgs false
theorem idxAny {q : Nat → Int → Option Bool} {p : Int → Bool} : ∀ (l : List Int) (i : Nat), (∀ x ∈ l, Ev (fun k => q k x) (p x)) → ∃ j : Int, Ev (fun k => idxO (q k) l (i : Int)) j ∧ decide (0 ≤ j) = l.any p
 | [], _, _ => ⟨-1, by simp only [idxO];exact Ev.now _, rfl⟩
 | x :: l, i, hq => by
  cases hp : p x with
  | true =>
   refine ⟨(i : Int), ?_, by rw [List.any_cons, hp, Bool.true_or];exact decide_eq_true (by omega)⟩
   simp only [idxO]
   rw [Ev.bind_iff (hq x (by simp)), hp, Ev.ite_iff, if_pos rfl, Ev.now_iff]
  | false =>
   obtain ⟨j, h1, h2⟩ := idxAny l (i + 1) (fun y hy => hq y (by simp [hy]))
   refine ⟨j, ?_, by rw [List.any_cons, hp, Bool.false_or];exact h2⟩
   simp only [idxO]
   rw [Ev.bind_iff (hq x (by simp)), hp, Ev.ite_iff, if_neg (by decide)]
   rw [show ((i + 1 : Nat) : Int) = (i : Int) + 1 by omega] at h1
   exact h1

theorem canMatch_ev {es : List S92} {n : Nat} (hn : n ≤ 8) : ∀ (gs : List Nat) (S : Nat), (∀ g ∈ gs, g < n) → S < 2 ^ n → Ev (fun k => impl_net_canMatch.f k (nets es n) (gs.map fun g : Nat => (g : Int)) (S : Int)) (canM es n gs S)
 | [], S, _, _ => by simp only [List.map_nil, impl_net_canMatch.f, canM];exact Ev.now _
 | g :: gs, S, hg, hS => by
  have hgn := hg g (by simp)
  have hpg : 2 ^ g < 2 ^ n := Nat.pow_lt_pow_right (by decide) hgn
  have hcl : nb es n g ||| 2 ^ g < 2 ^ n := Nat.or_lt_two_pow (nb_lt es n g) hpg
  have hl : (nb es n g ||| 2 ^ g) &&& S < 2 ^ n := Nat.and_lt_two_pow _ hS
  simp only [List.map_cons, impl_net_canMatch.f, canM]
  rw [closed_eq hn hgn]
  simp only [Option.bind_some]
  rw [gand _ _ (lt62 hn hcl) (lt62 hn hS), Ev.bind_iff (setOf_ev n _ hn hl)]
  obtain ⟨j, h1, h2⟩ := idxAny (q := fun k x => if 0 ≤ x then impl_net_canMatch.f k (nets es n) (gs.map fun g : Nat => (g : Int)) (Go.bits .andNot .i64 (S : Int) (shl .i64 1 x)) else none) (p := fun x => canM es n gs (mns S (2 ^ x.toNat))) (bl n ((nb es n g ||| 2 ^ g) &&& S)) 0 (fun x hx => by
   obtain ⟨i, hi, _, rfl⟩ := mem_bl.1 hx
   have hpi : 2 ^ i < 2 ^ 62 := Nat.pow_lt_pow_right (by decide) (by omega)
   rw [Ev.ite_iff, if_pos (by omega), Int.toNat_natCast, shl_one (by omega), gandn _ _ (lt62 hn hS) hpi]
   exact canMatch_ev hn gs _ (fun y hy => hg y (by simp [hy])) (mns_lt _ hS))
  rw [Ev.bind_iff (show Ev (fun k => idxO _ _ 0) j from h1), Ev.now_iff, h2]

theorem any_bl {n m : Nat} {p : Int → Bool} : (bl n m).any p = true ↔ ∃ i, i < n ∧ m.testBit i = true ∧ p (i : Int) = true := by
 rw [List.any_eq_true]
 constructor
 ·rintro ⟨x, hx, hp⟩
  obtain ⟨i, h1, h2, rfl⟩ := mem_bl.1 hx
  exact ⟨i, h1, h2, hp⟩
 ·rintro ⟨i, h1, h2, hp⟩
  exact ⟨(i : Int), mem_bl.2 ⟨i, h1, h2, rfl⟩, hp⟩

theorem l10Matches_ev {es : List S92} {n : Nat} (hn : n ≤ 8) (he : es.length ≤ 9223372036854775807) (fl : List Nat) (t : Nat) (hfl : ∀ g ∈ fl, g < n) (hft : fl.length ≤ 8) : ∀ (d a : Nat) (u : List Int) (S : Nat), a + d = fl.length → u.length ≤ a → S < 2 ^ n → (∀ i, i < n → (S.testBit i = true ↔ t.testBit i = true ∧ (i : Int) ∉ u)) →
  Ev (fun k => spec_l10Matches.f k n es (fl.map fun g : Nat => (g : Int)) (bl n t) (a : Int) u) (canM es n (fl.drop a) S) := by
 intro d
 induction d with
 | zero =>
  intro a u S ha hu hS hrel
  rw [Ev.iff_succ]
  simp only [spec_l10Matches.f, List.length_map]
  rw [Ev.ite_iff, if_pos (by omega), Ev.now_iff, List.drop_eq_nil_of_le (by omega)]
  rfl
 | succ d ih =>
  intro a u S ha hu hS hrel
  have hal : a < fl.length := by omega
  have hbl := bl_len_le n t
  rw [Ev.iff_succ]
  simp only [spec_l10Matches.f, List.length_map]
  rw [Ev.ite_iff, if_neg (by omega), List.drop_eq_getElem_cons hal]
  have hgn := hfl fl[a] (List.getElem_mem hal)
  have hgr : rd (fl.map fun g : Nat => (g : Int)) (a : Int) = ((fl[a] : Nat) : Int) := by rw [rd_lt _ _ (by rw [List.length_map];exact hal), List.getElem_map]
  generalize fl[a] = g at hgn hgr
  have key : ∀ e i, i + e = (bl n t).length → Ev (fun k => spec_l10Matches.l0 k (fl.map fun g : Nat => (g : Int)) (bl n t) (a : Int) u (i : Int) n es) (((bl n t).drop i).any (fun x => !decide (x ∈ u) && (decide (x = (g : Int)) || near es g x) && canM es n (fl.drop (a + 1)) (mns S (2 ^ x.toNat)))) := by
   intro e
   induction e with
   | zero =>
    intro i hi
    rw [Ev.iff_succ]
    simp only [spec_l10Matches.l0]
    rw [Ev.ite_iff, if_neg (by omega), Ev.now_iff, List.drop_eq_nil_of_le (by omega)]
    rfl
   | succ e ihe =>
    intro i hi
    have hil : i < (bl n t).length := by omega
    obtain ⟨x, hxn, hxb, hxe⟩ := mem_bl.1 (List.getElem_mem hil)
    have ih0 := ihe (i + 1) (by omega)
    have g1 : (i : Int) < ((bl n t).length : Int) := by omega
    have g2 : (0 : Int) ≤ (i : Int) := by omega
    have g3 : (0 : Int) ≤ (a : Int) := by omega
    have g4 : (a : Int) < ((fl.map fun g : Nat => (g : Int)).length : Int) := by rw [List.length_map];omega
    have e1 : rd (bl n t) (i : Int) = (x : Int) := by rw [rd_lt _ _ hil, hxe]
    rw [Ev.iff_succ, List.drop_eq_getElem_cons hil, hxe, List.any_cons]
    simp only [spec_l10Matches.l0, Ev.ite_iff, g1, g2, g3, g4, e1, hgr, ↓reduceIte, Int.toNat_natCast]
    rw [Ev.bind_iff (l1Has_ev u (x : Int) (by omega)), Ev.ite_iff]
    have skip : Ev (fun k => spec_l10Matches.j1 k (fl.map fun g : Nat => (g : Int)) (bl n t) (a : Int) u (i : Int) true n es) (((bl n t).drop (i + 1)).any (fun x => !decide (x ∈ u) && (decide (x = (g : Int)) || near es g x) && canM es n (fl.drop (a + 1)) (mns S (2 ^ x.toNat)))) := by
     rw [Ev.iff_succ]
     simp only [spec_l10Matches.j1, ↓reduceIte, w64_succ i (show i < 9223372036854775807 by omega)]
     exact ih0
    by_cases c : (x : Int) ∈ u
    ·rw [if_pos (by simpa using c)]
     simp only [c, decide_true, Bool.not_true, Bool.false_and, Bool.false_or]
     exact skip
    ·rw [if_neg (by simpa using c)]
     simp only [c, decide_false, Bool.not_false, Bool.true_and]
     have take : ∀ b : Bool, (b = true → True) → Ev (fun k => spec_l10Matches.j1 k (fl.map fun g : Nat => (g : Int)) (bl n t) (a : Int) u (i : Int) false n es) (canM es n (fl.drop (a + 1)) (mns S (2 ^ x)) || ((bl n t).drop (i + 1)).any (fun x => !decide (x ∈ u) && (decide (x = (g : Int)) || near es g x) && canM es n (fl.drop (a + 1)) (mns S (2 ^ x.toNat)))) := by
      intro _ _
      rw [Ev.iff_succ]
      have hf := ih (a + 1) (u ++ [(x : Int)]) (mns S (2 ^ x)) (by omega) (by rw [List.length_append];simp only [List.length_cons, List.length_nil];omega) (mns_lt _ hS) (fun j hj => by
       rw [mns_bit, Nat.testBit_two_pow]
       simp only [Bool.and_eq_true, Bool.not_eq_true', decide_eq_false_iff_not, hrel j hj, List.mem_append, List.mem_cons, List.not_mem_nil, or_false, not_or]
       constructor
       ·rintro ⟨⟨h1, h2⟩, h3⟩;exact ⟨h1, h2, by omega⟩
       ·rintro ⟨h1, h2, h3⟩;exact ⟨⟨h1, h2⟩, by omega⟩)
      simp only [spec_l10Matches.j1, Bool.false_eq_true, ↓reduceIte, l1Own_eq (show u.length < 17592186044416 by omega), Option.bind_some, g1, g2, e1, List.length_cons, List.length_nil, w64_succ i (show i < 9223372036854775807 by omega), w64_succ a (show a < 9223372036854775807 by omega), Ev.ite_iff]
      rw [if_pos (by omega), Ev.bind_iff hf]
      simp only [Ev.ite_iff]
      cases canM es n (fl.drop (a + 1)) (mns S (2 ^ x)) with
      | true => simp only [↓reduceIte, Bool.true_or];exact Ev.now _
      | false => simp only [Bool.false_eq_true, ↓reduceIte, Bool.false_or];exact ih0
     by_cases cg : (x : Int) = (g : Int)
     ·rw [Ev.ite_iff, if_pos cg]
      simp only [cg, decide_true, Bool.true_or, Bool.true_and]
      have := take true (fun _ => trivial)
      rwa [show x = g by omega] at this ⊢
     ·rw [Ev.ite_iff, if_neg cg, Ev.bind_iff (l2Near_ev n es g x he)]
      simp only [cg, decide_false, Bool.false_or]
      cases hnr : near es g x with
      | true => simp only [Bool.not_true, Bool.true_and];exact take true (fun _ => trivial)
      | false => simp only [Bool.not_false, Bool.false_and, Bool.false_or];exact skip
  have hk := key (bl n t).length 0 (by omega)
  rw [List.drop_zero] at hk
  have hfin : (bl n t).any (fun x => !decide (x ∈ u) && (decide (x = (g : Int)) || near es g x) && canM es n (fl.drop (a + 1)) (mns S (2 ^ x.toNat))) = canM es n (g :: fl.drop (a + 1)) S := by
   rw [canM, Bool.eq_iff_iff, any_bl, any_bl]
   constructor
   ·rintro ⟨i, h1, h2, h3⟩
    simp only [Bool.and_eq_true, Bool.not_eq_true', decide_eq_false_iff_not, Bool.or_eq_true, decide_eq_true_eq, Int.toNat_natCast] at h3
    refine ⟨i, h1, ?_, by rw [Int.toNat_natCast];exact h3.2⟩
    rw [Nat.testBit_and, (hrel i h1).2 ⟨h2, h3.1.1⟩, Bool.and_true, Nat.testBit_or, nb_bit, Nat.testBit_two_pow]
    rcases h3.1.2 with h | h
    ·have : g = i := by omega
     simp [this]
    ·simp [h1, h]
   ·rintro ⟨i, h1, h2, h3⟩
    rw [Nat.testBit_and, Bool.and_eq_true, Nat.testBit_or, Bool.or_eq_true, nb_bit, Nat.testBit_two_pow] at h2
    have hr := (hrel i h1).1 h2.2
    refine ⟨i, h1, hr.1, ?_⟩
    simp only [Int.toNat_natCast] at h3 ⊢
    simp only [hr.2, decide_false, Bool.not_false, Bool.true_and, h3, Bool.and_true, Bool.or_eq_true, decide_eq_true_eq]
    rcases h2.1 with h | h
    ·right;simp only [Bool.and_eq_true] at h;exact h.2
    ·left;have := of_decide_eq_true h;omega
  rw [hfin] at hk
  exact hk

def movesM (es : List S92) (n f t : Nat) (all : Bool) : Bool :=
 if all then canM es n ((List.range n).filter fun x => f.testBit x) t else decide ((bl n (mns f t)).length = 1) && near es (rd (bl n (mns f t)) 0) (rd (bl n (mns t f)) 0)

theorem bl_map (n m : Nat) : bl n m = ((List.range n).filter fun x => m.testBit x).map fun g : Nat => (g : Int) := rfl

theorem bl_out {n f t : Nat} : (bl n f).filter (fun x => !decide (x ∈ bl n t)) = bl n (mns f t) := by
 refine asc_ext (asc_of_pairwise (p := none) ((bl_pairwise n f).filter _) (fun q hq => by cases hq)) (bl_asc n _) (fun x => ?_)
 rw [List.mem_filter]
 constructor
 ·rintro ⟨h, h3⟩
  obtain ⟨i, h1, h2, rfl⟩ := mem_bl.1 h
  refine mem_bl.2 ⟨i, h1, ?_, rfl⟩
  simp only [mem_bl_nat, h1, true_and, Bool.not_eq_true', decide_eq_false_iff_not, Bool.not_eq_true] at h3
  rw [mns_bit, h2, h3];rfl
 ·intro h
  obtain ⟨i, h1, h2, rfl⟩ := mem_bl.1 h
  rw [mns_bit, Bool.and_eq_true, Bool.not_eq_true'] at h2
  refine ⟨mem_bl.2 ⟨i, h1, h2.1, rfl⟩, ?_⟩
  simp only [mem_bl_nat, h1, true_and, h2.2];rfl

theorem bl_in2 {n f t : Nat} : (bl n f).filter (fun x => decide (x ∈ bl n t)) = bl n (f &&& t) := by
 refine asc_ext (asc_of_pairwise (p := none) ((bl_pairwise n f).filter _) (fun q hq => by cases hq)) (bl_asc n _) (fun x => ?_)
 rw [List.mem_filter]
 constructor
 ·rintro ⟨h, h3⟩
  obtain ⟨i, h1, h2, rfl⟩ := mem_bl.1 h
  refine mem_bl.2 ⟨i, h1, ?_, rfl⟩
  simp only [mem_bl_nat, h1, true_and, decide_eq_true_eq] at h3
  rw [Nat.testBit_and, h2, h3];rfl
 ·intro h
  obtain ⟨i, h1, h2, rfl⟩ := mem_bl.1 h
  rw [Nat.testBit_and, Bool.and_eq_true] at h2
  refine ⟨mem_bl.2 ⟨i, h1, h2.1, rfl⟩, ?_⟩
  simp only [mem_bl_nat, h1, true_and, h2.2];rfl

theorem len_parts {α : Type} (p : α → Bool) : ∀ l : List α, l.length = (l.filter p).length + (l.filter fun x => !p x).length
 | [] => rfl
 | x :: l => by
  have := len_parts p l
  rw [List.filter_cons, List.filter_cons]
  cases p x <;> simp <;> omega

theorem out_len {n f t : Nat} : (bl n f).length = (bl n (f &&& t)).length + (bl n (mns f t)).length := by
 rw [← bl_in2, ← bl_out]
 exact len_parts (fun x => decide (x ∈ bl n t)) (bl n f)

theorem out_same {n f t : Nat} (h : (bl n f).length = (bl n t).length) : (bl n (mns f t)).length = (bl n (mns t f)).length := by
 have h1 := out_len (n := n) (f := f) (t := t)
 have h2 := out_len (n := n) (f := t) (t := f)
 rw [Nat.and_comm t f] at h2
 omega

theorem l10Moves_l0 {es : List S92} {n f t : Nat} (he : es.length ≤ 9223372036854775807) (hn : n ≤ 8) (hlen : (bl n f).length = (bl n t).length) : ∀ (d i : Nat) (gone come : List Int), i + d = (bl n f).length → gone.length ≤ i → come.length ≤ i →
  gone ++ ((bl n f).drop i).filter (fun x => !decide (x ∈ bl n t)) = bl n (mns f t) → come ++ ((bl n t).drop i).filter (fun x => !decide (x ∈ bl n f)) = bl n (mns t f) →
  Ev (fun k => spec_l10Moves.l0 k (bl n f) (bl n t) gone come (i : Int) n es) (decide ((bl n (mns f t)).length = 1) && near es (rd (bl n (mns f t)) 0) (rd (bl n (mns t f)) 0)) := by
 have hb1 := bl_len_le n f
 have hb2 := bl_len_le n t
 have hb3 : (bl n f).length ≤ 9223372036854775807 := Nat.le_trans hb1 (Nat.le_trans hn (by decide))
 have hb4 : (bl n t).length ≤ 9223372036854775807 := Nat.le_trans hb2 (Nat.le_trans hn (by decide))
 intro d
 induction d with
 | zero =>
  intro i gone come hi _ _ hg hc
  rw [List.drop_eq_nil_of_le (by omega), List.filter_nil, List.append_nil] at hg hc
  have hs := out_same hlen
  rw [Ev.iff_succ]
  simp only [spec_l10Moves.l0, hg, hc]
  rw [Ev.ite_iff, if_neg (by omega), Ev.ite_iff]
  by_cases h1 : (bl n (mns f t)).length = 1
  ·rw [if_pos (by omega), Ev.ite_iff, if_pos (by omega), Ev.ite_iff, if_pos (by omega), Ev.bind_iff (l2Near_ev n es _ _ he), Ev.now_iff, decide_eq_true h1, Bool.true_and]
  ·rw [if_neg (by omega), Ev.now_iff, decide_eq_false h1, Bool.false_and]
 | succ d ih =>
  intro i gone come hi hgl hcl hg hc
  have hif : i < (bl n f).length := by omega
  have hit : i < (bl n t).length := by omega
  have e1 := rd_lt (bl n f) i hif
  have e2 := rd_lt (bl n t) i hit
  rw [List.drop_eq_getElem_cons hif, List.filter_cons] at hg
  rw [List.drop_eq_getElem_cons hit, List.filter_cons] at hc
  generalize (bl n f)[i] = x at e1 hg
  generalize (bl n t)[i] = y at e2 hc
  have g1 : (i : Int) < ((bl n f).length : Int) := by omega
  have g1t : (i : Int) < ((bl n t).length : Int) := by omega
  have g2 : (0 : Int) ≤ (i : Int) := by omega
  have g3 : gone.length < 17592186044416 := by omega
  have g4 : come.length < 17592186044416 := by omega
  have hi7 : i < 9223372036854775807 := by omega
  rw [Ev.iff_succ]
  simp only [spec_l10Moves.l0, Ev.ite_iff, g1, g1t, g2, g3, g4, ↓reduceIte, e1, e2, w64_succ i hi7, Option.bind_some]
  clear e1 e2 g1 g1t g2 g3 g4 hi7
  rw [Ev.bind_iff (l1Has_ev (bl n t) x hb4), Ev.ite_iff]
  by_cases cx : x ∈ bl n t
  ·rw [if_pos (by simpa using cx), Ev.bind_iff (l1Has_ev (bl n f) y hb3), Ev.ite_iff]
   rw [if_neg (by simpa using cx)] at hg
   by_cases cy : y ∈ bl n f
   ·rw [if_pos (by simpa using cy)]
    rw [if_neg (by simpa using cy)] at hc
    exact ih (i + 1) gone come (by omega) (by omega) (by omega) hg hc
   ·rw [if_neg (by simpa using cy)]
    rw [if_pos (by simpa using cy)] at hc
    exact ih (i + 1) gone (come ++ [y]) (by omega) (by omega) (by rw [List.length_append];simp only [List.length_cons, List.length_nil];omega) hg (by rw [List.append_assoc];exact hc)
  ·rw [if_neg (by simpa using cx), Ev.bind_iff (l1Has_ev (bl n f) y hb3), Ev.ite_iff]
   rw [if_pos (by simpa using cx)] at hg
   by_cases cy : y ∈ bl n f
   ·rw [if_pos (by simpa using cy)]
    rw [if_neg (by simpa using cy)] at hc
    exact ih (i + 1) (gone ++ [x]) come (by omega) (by rw [List.length_append];simp only [List.length_cons, List.length_nil];omega) (by omega) (by rw [List.append_assoc];exact hg) hc
   ·rw [if_neg (by simpa using cy)]
    rw [if_pos (by simpa using cy)] at hc
    exact ih (i + 1) (gone ++ [x]) (come ++ [y]) (by omega) (by rw [List.length_append];simp only [List.length_cons, List.length_nil];omega) (by rw [List.length_append];simp only [List.length_cons, List.length_nil];omega) (by rw [List.append_assoc];exact hg) (by rw [List.append_assoc];exact hc)

theorem l10Moves_ev {es : List S92} {n f t : Nat} (he : es.length ≤ 9223372036854775807) (hn : n ≤ 8) (ht : t < 2 ^ n) (all : Bool) (hlen : (bl n f).length = (bl n t).length) : Ev (fun k => spec_l10Moves.f k n es (bl n f) (bl n t) all) (movesM es n f t all) := by
 unfold spec_l10Moves.f movesM
 cases all with
 | true =>
  simp only [↓reduceIte]
  have h8 := bl_len_le n f
  rw [bl_map n f, List.length_map] at h8
  have := l10Matches_ev (es := es) hn he ((List.range n).filter fun x => f.testBit x) t (fun g hg => List.mem_range.1 (List.mem_filter.1 hg).1) (by omega) ((List.range n).filter fun x => f.testBit x).length 0 [] t (by omega) (by simp) ht (fun i hi => by simp)
  rw [List.drop_zero] at this
  rw [Ev.bind_iff (show Ev (fun k => spec_l10Matches.f k n es (bl n f) (bl n t) 0 []) _ from this), Ev.now_iff]
 | false =>
  simp only [Bool.false_eq_true, ↓reduceIte]
  exact l10Moves_l0 he hn hlen (bl n f).length 0 [] [] (by omega) (by simp) (by simp) (by rw [List.drop_zero, List.nil_append];exact bl_out) (by rw [List.drop_zero, List.nil_append];exact bl_out)

theorem one_of_len {n m : Nat} (hm : m < 2 ^ n) (h : (bl n m).length = 1) : bl n m = [((lowM n m : Nat) : Int)] := by
 have h0 : m ≠ 0 := by
  intro e;subst e
  have : bl n 0 = [] := by unfold bl;simp
  rw [this] at h;simp at h
 obtain ⟨h1, h2⟩ := lowM_use hm h0
 have hin := mem_bl_nat.2 ⟨h1, h2⟩
 obtain ⟨a, ha⟩ := List.length_eq_one_iff.1 h
 rw [ha] at hin ⊢
 rw [List.mem_singleton.1 hin]

theorem canMoveGuards_ev {es : List S92} {n f t : Nat} (hn : n ≤ 8) (hf : f < 2 ^ n) (ht : t < 2 ^ n) (all : Bool) (hlen : (bl n f).length = (bl n t).length) : Ev (fun k => impl_net_canMoveGuards.f k (nets es n) (f : Int) (t : Int) all) (movesM es n f t all) := by
 unfold impl_net_canMoveGuards.f movesM
 cases all with
 | true =>
  simp only [↓reduceIte]
  rw [Ev.bind_iff (setOf_ev n f hn hf), bl_map n f, Ev.bind_iff (canMatch_ev hn _ t (fun g hg => List.mem_range.1 (List.mem_filter.1 hg).1) ht), Ev.now_iff]
 | false =>
  have hgl := mns_lt (n := n) t hf
  have hcl := mns_lt (n := n) f ht
  simp only [Bool.false_eq_true, ↓reduceIte]
  rw [gandn _ _ (lt62 hn hf) (lt62 hn ht), gandn _ _ (lt62 hn ht) (lt62 hn hf), ones_bl hn hgl]
  simp only [Option.bind_some, Ev.ite_iff]
  by_cases h1 : (bl n (mns f t)).length = 1
  ·have hg := one_of_len hgl h1
   have hc := one_of_len hcl (by rw [← out_same hlen];exact h1)
   have h0 : mns f t ≠ 0 := by
    intro e;rw [e] at h1
    have : bl n 0 = [] := by unfold bl;simp
    rw [this] at h1;simp at h1
   have h0c : mns t f ≠ 0 := by
    intro e;rw [e] at hc
    have : bl n 0 = [] := by unfold bl;simp
    rw [this] at hc;simp at hc
   obtain ⟨hgn, hgb⟩ := lowM_use hgl h0
   obtain ⟨hcn, hcb⟩ := lowM_use hcl h0c
   rw [if_pos (by omega), tz_ev hn hgl h0]
   simp only [Option.bind_some, Ev.ite_iff, nets_len]
   rw [if_pos (by omega), if_pos (by omega), Ev.now_iff, nets_rd hgn, gand _ _ (lt62 hn (nb_lt _ _ _)) (lt62 hn hcl), decide_eq_true h1, Bool.true_and, hg, hc]
   show (((nb es n (lowM n (mns f t)) &&& mns t f : Nat) : Int) != 0) = near es (lowM n (mns f t) : Nat) (lowM n (mns t f) : Nat)
   have hbit := nb_bit es n (lowM n (mns f t)) (lowM n (mns t f))
   cases hnr : near es (lowM n (mns f t) : Nat) (lowM n (mns t f) : Nat) with
   | true =>
    have : nb es n (lowM n (mns f t)) &&& mns t f ≠ 0 := by
     intro e
     have h3 := congrArg (fun z => z.testBit (lowM n (mns t f))) e
     simp only [Nat.testBit_and, hbit, hnr, hcb, Nat.zero_testBit, Bool.and_true] at h3
     simp [hcn] at h3
    simp only [bne_iff_ne, ne_eq];omega
   | false =>
    have : nb es n (lowM n (mns f t)) &&& mns t f = 0 := by
     refine Nat.eq_of_testBit_eq (fun i => ?_)
     rw [Nat.testBit_and, Nat.zero_testBit]
     by_cases hi : (mns t f).testBit i = true
     ·have hin : i < n := by
       rcases Nat.lt_or_ge i n with g | g
       ·exact g
       ·rw [bit_lt hcl g] at hi;cases hi
      have hm := mem_bl_nat.2 ⟨hin, hi⟩
      rw [hc, List.mem_singleton] at hm
      have : i = lowM n (mns t f) := by omega
      rw [this, hbit, hnr];simp
     ·rw [Bool.eq_false_iff.2 hi, Bool.and_false]
    rw [this];rfl
  ·rw [if_neg (by omega), Ev.now_iff, decide_eq_false h1, Bool.false_and]

def grd (L : List (List Int)) (i : Nat) : List Int := L.getD i []

theorem rdL2_nat (L : List (List Int)) (i : Nat) : rd_L2 L (i : Int) = grd L i := rfl

theorem grd_lt {L : List (List Int)} {i : Nat} (h : i < L.length) : grd L i = L[i] := by simp [grd, h]

def hasG (L : List (List Int)) (j : Nat) (x : Int) : Bool := decide (x ∈ grd L j)

def mvG (es : List S92) (n : Nat) (all : Bool) (L : List (List Int)) (i j : Nat) : Bool := movesM es n (mL (grd L i)) (mL (grd L j)) all

theorem range_drop {n x : Nat} (h : x < n) : (List.range n).drop x = x :: (List.range n).drop (x + 1) := by
 rw [List.drop_eq_getElem_cons (by simpa using h), List.getElem_range]

end Go.Proofs.YthbjajppdomhhaaDoor.QIsEternalFamily
