import Derived.Test.YtbhkimopcliepaaQForceRounds0
import Derived.Test.YtbhkimopcliepaaQForceRounds10
import Derived.Test.YtbhkimopcliepaaQForceRounds11
import Derived.Test.YtbhkimopcliepaaQForceRounds12
import Derived.Test.YtbhkimopcliepaaQForceRounds7
import Derived.Test.YtbhkimopcliepaaQForceRounds8
import Derived.Test.YtbhkimopcliepaaQForceRoundsA2
namespace Go.Proofs.Ytbhkimopcliepaa.QForceRounds
open Go.RowKit Go.Proofs.YtbhkimopcliepaaW.PrintWords Go.Proofs.YtbhkimopcliepaaW.PrintLast Go.Proofs.YtbhkimopcliepaaW.PrintMore
attribute [local go_sem] max2_int min2_int max_two min_two max_three min_three max_four min_four   -- for this text's walks alone
set_option linter.unusedVariables false
set_option linter.unusedSimpArgs false
theorem l9Rounds_evg (es : List S100) (n m : Nat) (hn : n ≤ 8) (hm : m < 2 ^ n) (hl : es.length ≤ 9223372036854775807) : Ev (fun k => spec_l9Rounds.f k n es (bl n m)) (roundsRow es n m) := by
  have hb := bl_len_le n m
  unfold spec_l9Rounds.f
  rw [Ev.ite_iff, if_pos (by omega), Ev.ite_iff, if_pos (by omega), Int.toNat_natCast, rowF_zero]
  have H := down n (fun i => Ev (fun k => spec_l9Rounds.l0 k (bl n m) (rowF n (fun x => if x < i then (if m.testBit x then 0 else -1) else 0)) (bl n m) i n es) (roundsRow es n m)) ?_ ?_ 0 (by omega)
  · simpa using H
  · show Ev _ _
    rw [Ev.iff_succ]
    simp only [spec_l9Rounds.l0, Int.lt_irrefl, ↓reduceIte]
    have e : rowF n (fun x => if x < n then (if m.testBit x then (0 : Int) else -1) else 0) = rowF n (rndF (fun x => rkM es n x m) m) := rowF_ext (fun x hx => by
      unfold rndF
      rw [if_pos hx]
      by_cases c : m.testBit x = true
      · rw [if_pos c, if_pos c]; show (0 : Int) = ((rkM es n x m : Nat) : Int); rw [rkM_in c]; rfl
      · rw [if_neg c, if_neg c])
    rw [e]
    exact l9Rounds_l1g (R := fun x => rkM es n x m) hn hl n 0 m (by omega) hm rfl (.inr (by omega)) (fun x _ _ _ => by omega)
  · intro i hi ih
    show Ev _ _
    rw [Ev.iff_succ]
    have h1 : (i : Int) < (n : Int) := by omega
    have h2 : (0 : Int) ≤ i := by omega
    simp only [spec_l9Rounds.l0, Ev.ite_iff, h1, h2, ↓reduceIte, Ev.bind_iff (l1Has_ev (bl n m) i (by omega)), l3Sign_eq, Option.bind_some, rowF_len, w64_succ i (by omega), Int.toNat_natCast, rowF_set hi, mem_bl_nat, hi, true_and]
    have e : rowF n (fun x => if x < i + 1 then (if m.testBit x then (0 : Int) else -1) else 0) = rowF n (fun x => if x = i then (if decide (m.testBit i = true) = true then 0 else -1) else if x < i then (if m.testBit x then 0 else -1) else 0) := rowF_ext (fun x _ => by
      by_cases e : x = i
      · subst e; simp
      · rw [if_neg e]
        by_cases c : x < i
        · rw [if_pos c, if_pos (by omega)]
        · rw [if_neg c, if_neg (by omega)])
    rw [e] at ih; exact ih

theorem implRounds_l2 {es : List S100} {n : Nat} {R : Nat → Nat} {now nx : Nat} {r : Nat} {res : List Int × Bool} (hn : n ≤ 8) (hs : ∀ x, now.testBit x = true → nx.testBit x = true)
    (hR : ∀ x, x < n → now.testBit x = false → nx.testBit x = true → R x = r)
    (hend : Ev (fun k => impl_ForceRounds.l1 k nx (rowF n (rndF R nx)) (wrap64 ((r : Int) + 1)) (nets es n)) res) :
    Ev (fun k => impl_ForceRounds.l2 k (rowF n (rndF R now)) r nx (bl n (mns nx now)) ((bl n (mns nx now)).length : Int) 0 (nets es n)) res := by
  obtain ⟨D, hD⟩ : ∃ D, D = mns nx now := ⟨_, rfl⟩
  have hDb : ∀ x, D.testBit x = (nx.testBit x && !now.testBit x) := fun x => by rw [hD, mns_bit]
  rw [← hD]
  have hb := bl_len_le n D
  have H := down (bl n D).length (fun j => Ev (fun k => impl_ForceRounds.l2 k (rowF n (fun x => if now.testBit x || decide ((x : Int) ∈ (bl n D).take j) then (R x : Int) else -1)) r nx (bl n D) ((bl n D).length : Int) j (nets es n)) res) ?_ ?_ 0 (by omega)
  · have e : rowF n (rndF R now) = rowF n (fun x => if now.testBit x || decide ((x : Int) ∈ (bl n D).take 0) then (R x : Int) else -1) := rowF_ext (fun x _ => by simp [rndF])
    rw [e]; exact H
  · show Ev _ _
    rw [Ev.iff_succ]
    simp only [impl_ForceRounds.l2, Int.lt_irrefl, ↓reduceIte, List.take_length]
    have e : rowF n (rndF R nx) = rowF n (fun x => if now.testBit x || decide ((x : Int) ∈ bl n D) then (R x : Int) else -1) := rowF_ext (fun x hx => by
      unfold rndF
      congr 1
      rw [eq_iff_iff, Bool.or_eq_true, decide_eq_true_eq, mem_bl_nat, hDb]
      constructor
      · intro h
        cases c : now.testBit x
        · exact .inr ⟨hx, by simp [h]⟩
        · exact .inl rfl
      · rintro (h | h)
        · exact hs x h
        · have := h.2; simp at this; exact this.1)
    rw [← e]; exact hend
  · intro j hj ih
    show Ev _ _
    rw [Ev.iff_succ]
    have h1 : (j : Int) < ((bl n D).length : Int) := by omega
    have h2 : (0 : Int) ≤ j := by omega
    obtain ⟨y, hy, hyb, hye⟩ := rd_bl hj
    have h3 : (0 : Int) ≤ y := by omega
    have h4 : (y : Int) < (n : Int) := by omega
    have ht : ∀ x : Nat, ((x : Int) ∈ (bl n D).take (j + 1)) ↔ ((x : Int) ∈ (bl n D).take j ∨ x = y) := fun x => by
      rw [List.take_succ_eq_append_getElem hj, List.mem_append, List.mem_singleton, hye]
      constructor
      · rintro (h | h)
        · exact .inl h
        · exact .inr (by omega)
      · rintro (h | h)
        · exact .inl h
        · exact .inr (by omega)
    simp only [impl_ForceRounds.l2, Ev.ite_iff, h1, h2, ↓reduceIte, rd_lt _ j hj, hye, h3, rowF_len, h4, w64_succ j (by omega), Int.toNat_natCast, rowF_set hy]
    rw [hDb] at hyb
    have c1 : now.testBit y = false := by cases h : now.testBit y <;> simp [h] at hyb ⊢
    have c2 : nx.testBit y = true := by cases h : nx.testBit y <;> simp [h] at hyb ⊢
    have e : rowF n (fun x => if now.testBit x || decide ((x : Int) ∈ (bl n D).take (j + 1)) then (R x : Int) else -1) = rowF n (fun x => if x = y then (r : Int) else if now.testBit x || decide ((x : Int) ∈ (bl n D).take j) then (R x : Int) else -1) := rowF_ext (fun x hx => by
      by_cases e : x = y
      · subst e
        rw [if_pos rfl, if_pos (by rw [Bool.or_eq_true, decide_eq_true_eq, ht]; exact .inr (.inr rfl)), hR x hy c1 c2]
      · rw [if_neg e]
        congr 1
        rw [eq_iff_iff, Bool.or_eq_true, Bool.or_eq_true, decide_eq_true_eq, decide_eq_true_eq, ht]
        simp [e])
    rw [e] at ih; exact ih

theorem implRounds_l1 {es : List S100} {n C : Nat} {R : Nat → Nat} (hn : n ≤ 8) : ∀ (d i now : Nat), d = 2 ^ n - now → now < 2 ^ n → closM es n false now = C → i ≤ (bl n now).length → (∀ x, x < n → now.testBit x = false → C.testBit x = true → R x = i + rkM es n x now) →
    Ev (fun k => impl_ForceRounds.l1 k now (rowF n (rndF R now)) ((i + 1 : Nat) : Int) (nets es n)) (rowF n (rndF R C), true) := by
  intro d
  induction d using Nat.strongRecOn with
  | _ d ih =>
    intro i now hd hm hf hlen hR
    have hlt := bl_len_le n now
    have h1 := onceM_le es n now false
    have h2 := onceM_lt (es := es) (skew := false) hm
    rw [Ev.iff_succ]
    simp only [impl_ForceRounds.l1]
    rw [Ev.bind_iff (forced_ev es n now false hn hm), Ev.ite_iff]
    by_cases g : onceM es n now false = now
    · rw [if_pos (by rw [g]), Ev.now_iff, ← hf, closM_stop g]
    · rw [if_neg (by omega)]
      have p8 : 2 ^ n ≤ 2 ^ 8 := Nat.pow_le_pow_right (by decide) hn
      rw [gandn _ _ (by omega) (by omega), Ev.bind_iff (setOf_ev n _ hn (mns_lt _ h2))]
      have hgo : ∀ x, now.testBit x = false → C.testBit x = true → onceM es n now false ≠ now := fun _ _ _ => g
      have hsub : ∀ x, (onceM es n now false).testBit x = true → C.testBit x = true := fun x h => by
        rw [← hf, ← closM_once hm]; exact clos_sub h2 h
      refine implRounds_l2 hn (fun x h => once_sub h) (fun x hx hb hc => ?_) ?_
      · rw [hR x hx hb (hsub x hc), rkM_go hm hb g, rkM_in hc]
      · rw [w64_succ (i + 1) (by omega)]
        refine ih (2 ^ n - onceM es n now false) (by omega) (i + 1) _ rfl h2 (by rw [closM_once hm]; exact hf) ?_ (fun x hx hb hc => ?_)
        · have h4 : (bl n now).length ≤ (bl n (onceM es n now false)).length := by
            rw [bl_len, bl_len]; exact (cnt_mono n (fun i _ hi => once_sub hi)).1
          by_cases e : (bl n (onceM es n now false)).length ≤ (bl n now).length
          · exact absurd (sub_len hm h2 (fun i _ hi => once_sub hi) e) g
          · omega
        · have hb0 : now.testBit x = false := by
            cases h : now.testBit x
            · rfl
            · rw [once_sub h] at hb; cases hb
          rw [hR x hx hb0 hc, rkM_go hm hb0 g]; omega

theorem implRounds_l0 {es : List S100} {n m : Nat} (hn : n ≤ 8) (hm : m < 2 ^ n) :
    Ev (fun k => impl_ForceRounds.l0 k m (rowF n (fun _ => -1)) (bl n m) ((bl n m).length : Int) 0 (nets es n)) (roundsRow es n m, true) := by
  have hb := bl_len_le n m
  have H := down (bl n m).length (fun j => Ev (fun k => impl_ForceRounds.l0 k m (rowF n (fun x => if (x : Int) ∈ (bl n m).take j then 0 else -1)) (bl n m) ((bl n m).length : Int) j (nets es n)) (roundsRow es n m, true)) ?_ ?_ 0 (by omega)
  · simpa using H
  · show Ev _ _
    rw [Ev.iff_succ]
    simp only [impl_ForceRounds.l0, Int.lt_irrefl, ↓reduceIte, List.take_length]
    have e : rowF n (fun x => if (x : Int) ∈ bl n m then (0 : Int) else -1) = rowF n (rndF (fun x => rkM es n x m) m) := rowF_ext (fun x hx => by
      unfold rndF
      by_cases c : m.testBit x = true
      · rw [if_pos (mem_bl_nat.2 ⟨hx, c⟩), if_pos c]; show (0 : Int) = ((rkM es n x m : Nat) : Int); rw [rkM_in c]; rfl
      · rw [if_neg (fun h => c (mem_bl_nat.1 h).2), if_neg c])
    rw [e]
    exact implRounds_l1 (R := fun x => rkM es n x m) hn _ 0 m rfl hm rfl (by omega) (fun x _ _ _ => by omega)
  · intro j hj ih
    show Ev _ _
    rw [Ev.iff_succ]
    have h1 : (j : Int) < ((bl n m).length : Int) := by omega
    have h2 : (0 : Int) ≤ j := by omega
    obtain ⟨y, hy, hyb, hye⟩ := rd_bl hj
    have h3 : (0 : Int) ≤ y := by omega
    have h4 : (y : Int) < (n : Int) := by omega
    simp only [impl_ForceRounds.l0, Ev.ite_iff, h1, h2, ↓reduceIte, rd_lt _ j hj, hye, h3, rowF_len, h4, w64_succ j (by omega), Int.toNat_natCast, rowF_set hy]
    have ht : ∀ x : Nat, ((x : Int) ∈ (bl n m).take (j + 1)) ↔ ((x : Int) ∈ (bl n m).take j ∨ x = y) := fun x => by
      rw [List.take_succ_eq_append_getElem hj, List.mem_append, List.mem_singleton, hye]
      constructor
      · rintro (h | h)
        · exact .inl h
        · exact .inr (by omega)
      · rintro (h | h)
        · exact .inl h
        · exact .inr (by omega)
    have e : rowF n (fun x => if (x : Int) ∈ (bl n m).take (j + 1) then (0 : Int) else -1) = rowF n (fun x => if x = y then (0 : Int) else if (x : Int) ∈ (bl n m).take j then 0 else -1) := rowF_ext (fun x hx => by
      by_cases e : x = y
      · rw [if_pos ((ht x).2 (.inr e)), if_pos e]
      · rw [if_neg e]
        by_cases c : (x : Int) ∈ (bl n m).take j
        · rw [if_pos c, if_pos ((ht x).2 (.inl c))]
        · rw [if_neg c, if_neg (fun h => ((ht x).1 h).elim c e)])
    rw [e] at ih; exact ih

def forceRoundsR (n : Int) (es : List S100) (l : List Int) : List Int × Bool := if setB n es l then (roundsRow es n.toNat (mL l), true) else ([], false)

theorem forceRoundsR_len (n : Int) (es : List S100) (l : List Int) : (forceRoundsR n es l).1.length ≤ 1048576 := by
  unfold forceRoundsR
  split
  · rename_i h
    obtain ⟨N, m, rfl, hN, _⟩ := setB_use h
    simp only [roundsRow, rowF_len, Int.toNat_natCast]; omega
  · simp

theorem specForceRounds_ev (n : Int) (es : List S100) (l : List Int) (hl : l.length ≤ 9223372036854775807) (he : es.length ≤ 9223372036854775807) : Ev (fun k => spec_ForceRounds.f k n es l) (forceRoundsR n es l) := by
  unfold spec_ForceRounds.f forceRoundsR
  rw [Ev.bind_iff (l9Both_ev n es l hl), Ev.ite_iff]
  split
  · rename_i h
    obtain ⟨N, m, rfl, hN, hg, hok, hm, rfl, hml⟩ := setB_use h
    rw [Ev.bind_iff (l9Rounds_evg es N m hN hm he), Ev.now_iff, hml, Int.toNat_natCast]
  · rw [Ev.now_iff]

theorem implForceRounds_ev (n : Int) (es : List S100) (l : List Int) (hl : l.length ≤ 9223372036854775807) : Ev (fun k => impl_ForceRounds.f k n es l) (forceRoundsR n es l) := by
  unfold impl_ForceRounds.f forceRoundsR
  rw [Ev.bind_iff (isSet_ev n es l hl), Ev.ite_iff]
  split
  · rename_i h
    obtain ⟨N, m, rfl, hN, hg, hok, hm, hlm, hml⟩ := setB_use h
    have hr : ∀ x ∈ l, 0 ≤ x ∧ x < 8 := by rw [hlm]; exact bl_range hN
    rw [netOf_eq hg]
    simp only [Option.bind_some]
    rw [Ev.bind_iff (maskOf_ev l hl hr), hml]
    have hrep : slices_Repeat_int_int.f ([(-1)] : List Int) (N : Int) = some (rowF N (fun _ => -1)) := by
      unfold slices_Repeat_int_int.f
      rw [if_pos ⟨rfl, by omega, by omega⟩, Int.toNat_natCast]
      congr 1
      unfold rowF
      rw [List.map_const', List.length_range]; rfl
    rw [hrep]
    simp only [Option.bind_some]
    subst hlm
    rw [Int.toNat_natCast]
    exact implRounds_l0 hN hm
  · rw [Ev.now_iff]

theorem FnExactForceRounds_pure (n : Int) (es : List S100) (l : List Int) (he : es.length ≤ 9223372036854775807) (hl : l.length ≤ 9223372036854775807) : Ev (fun k => laws_FnExactForceRounds.f k n es l) true := by
  unfold laws_FnExactForceRounds.f
  rw [Ev.ite_iff]
  by_cases h1 : (l.length : Int) > 1048576
  · rw [if_pos h1, Ev.now_iff]
  rw [if_neg h1]
  rw [szGraph_eq n es (by omega)]
  simp only [Option.bind_some, Ev.ite_iff]
  by_cases hs : es.length ≤ 1048576
  case neg => rw [if_neg hs, if_pos (by omega), Ev.now_iff]
  rw [if_pos hs, if_neg (by omega)]
  have hg := toGraph_ev n es (by omega)
  have hi := toIntS_ev l (by omega)
  have hq9 := forceRoundsR_len n es l
  have hS := specForceRounds_ev n es l (by omega) (by omega)
  have hI := implForceRounds_ev n es l (by omega)
  generalize forceRoundsR n es l = R at hq9 hS hI
  rw [Ev.bind_iff hg, Ev.bind_iff hi, Ev.bind_iff hS, Ev.bind_iff hg, Ev.bind_iff hi, Ev.bind_iff hI]
  rw [Ev.bind_iff (eqIntS_refl R.1 (by omega))]
  simp only [bne_self_eq_false, Bool.false_eq_true, ↓reduceIte]
  rw [Ev.iff_succ]
  simp only [laws_FnExactForceRounds.j0, Bool.false_eq_true, ↓reduceIte]
  rw [Ev.bind_iff hg, Ev.bind_iff (eqGraph_refl n es he)]
  simp only [↓reduceIte]
  rw [Ev.bind_iff hi, Ev.bind_iff (eqIntS_refl l hl)]
  simp only [↓reduceIte]
  obtain ⟨rm, hm⟩ := markGraph_eq n es 1 (by omega) (by omega)
  rw [hm]
  simp only [Option.bind_some]
  rw [Ev.bind_iff (markIntS_ev l (1 + 2 * (es.length : Int)) (by omega) (by omega))]
  simp only []
  rw [Ev.ite_iff, if_neg (by omega), Ev.bind_iff (eqIntS_refl R.1 (by omega))]
  simp only [bne_self_eq_false, ↓reduceIte]
  rw [Ev.iff_succ]
  simp only [laws_FnExactForceRounds.j1, Bool.false_eq_true, ↓reduceIte]
  rw [Ev.bind_iff (markIntS_ev R.1 1 (by omega) (by omega))]
  simp only []
  rw [Ev.bind_iff (heldIntS_ev 1 R.1.length (by omega) (by omega)), Ev.ite_iff, if_neg (by omega)]
  simp only [↓reduceIte]
  rw [Ev.bind_iff hg, Ev.bind_iff hi, Ev.bind_iff hI, Ev.bind_iff (eqIntS_refl R.1 (by omega))]
  simp only [bne_self_eq_false, ↓reduceIte]
  rw [Ev.iff_succ]
  simp only [laws_FnExactForceRounds.j2, Bool.false_eq_true, ↓reduceIte]
  rw [Ev.bind_iff (heldIntS_ev 1 R.1.length (by omega) (by omega)), Ev.ite_iff, if_neg (by omega)]
  simp only [↓reduceIte, Ev.now_iff]

end Go.Proofs.Ytbhkimopcliepaa.QForceRounds
