import Derived.Test.YtgahlimikndecaaDoorQWorstAttack0
import Derived.Test.YtgahlimikndecaaDoorQWorstAttack1
import Derived.Test.YtgahlimikndecaaDoorQWorstAttack6
import Derived.Test.YtgahlimikndecaaDoorQWorstAttack8
import Derived.Test.YtgahlimikndecaaDoorQWorstAttackA1
namespace Go.Proofs.YtgahlimikndecaaDoor.QWorstAttack
open Go.RowKit Go.Proofs.YtgahlimikndecaaDoorW.PrintWords Go.Proofs.YtgahlimikndecaaDoorW.PrintLast Go.Proofs.YtgahlimikndecaaDoorW.PrintMore
attribute [local go_sem] max2_int min2_int max_two min_two max_three min_three max_four min_four   -- for this text's walks alone
set_option linter.unusedVariables false
set_option linter.unusedSimpArgs false
set_option maxRecDepth 100000
set_option maxHeartbeats 8000000
theorem subsetsOf_ev : ∀ (m : Nat) (l : List Int) (k : Nat), l.length ≤ m → m ≤ 8 → k ≤ 8 → Ev (fun g => impl_subsetsOf.f g l k) (cho l k) := by
 intro m
 induction m using Nat.strongRecOn with
 | _ m IH =>
 intro l k hlm hm hk
 rw [Ev.iff_succ]
 simp only [impl_subsetsOf.f]
 cases k with
 | zero => rw [Ev.ite_iff, if_pos (by omega), Ev.now_iff, cho_zero]
 | succ k =>
 rw [Ev.ite_iff, if_neg (by omega)]
 have hp : 2 ^ l.length ≤ 256 := p8 (by omega)
 have H := down l.length (fun i => ∀ acc : List (List Int), acc.length + (cho (l.drop i) (k + 1)).length ≤ 256 → Ev (fun g => impl_subsetsOf.l0 g l ((k + 1 : Nat) : Int) acc l.length i) (acc ++ cho (l.drop i) (k + 1))) ?_ ?_ 0 (by omega) [] (by have := cho_len l (k + 1);simp;omega)
 ·simpa using H
 ·intro acc _
  rw [Ev.iff_succ]
  simp only [impl_subsetsOf.l0, Int.lt_irrefl, ↓reduceIte, Ev.now_iff, List.drop_length, cho, List.append_nil]
 ·intro i hi ih acc ha
  rw [Ev.iff_succ]
  have h1 : (i : Int) < l.length := by omega
  have h2 : (0 : Int) ≤ i := by omega
  have h3 : (0 : Int) ≤ ((i + 1 : Nat) : Int) := by omega
  have h4 : ((i + 1 : Nat) : Int) ≤ l.length := by omega
  have e1 : wrap64 (((k + 1 : Nat) : Int) - 1) = (k : Int) := by rw [w64] <;> omega
  have hrec := IH (l.length - (i + 1)) (by omega) (l.drop (i + 1)) k (by rw [List.length_drop];omega) (by omega) (by omega)
  have hd := List.drop_eq_getElem_cons hi
  rw [hd, cho_cons, List.length_append, List.length_map] at ha
  rw [hd, cho_cons]
  simp only [impl_subsetsOf.l0, Ev.ite_iff, h1, h3, h4, ↓reduceIte, w64_succ i (show i < 9223372036854775807 by omega), e1, Int.toNat_natCast]
  rw [Ev.bind_iff hrec]
  have hml := cho_mem_len (l.drop (i + 1)) k
  generalize cho (l.drop (i + 1)) k = T at ha hml ⊢
  have G := down T.length (fun j => Ev (fun g => impl_subsetsOf.l1 g l ((k + 1 : Nat) : Int) (acc ++ (T.take j).map (fun t => l[i] :: t)) i l.length i T T.length j) (acc ++ (T.map (fun t => l[i] :: t) ++ cho (l.drop (i + 1)) (k + 1)))) ?_ ?_ 0 (by omega)
  ·simpa using G
  ·show Ev _ _
   rw [Ev.iff_succ]
   simp only [impl_subsetsOf.l1, Int.lt_irrefl, ↓reduceIte, w64_succ i (show i < 9223372036854775807 by omega), List.take_length]
   rw [← List.append_assoc]
   exact ih _ (by rw [List.length_append, List.length_map];omega)
  ·intro j hj jh
   show Ev _ _
   rw [Ev.iff_succ]
   have g1 : (j : Int) < T.length := by omega
   have g2 : (0 : Int) ≤ j := by omega
   have hTl := hml T[j] (List.getElem_mem hj)
   have g3 : [l[i]].length + T[j].length < 17592186044416 := by simp;omega
   have g4 : (acc ++ (T.take j).map (fun t => l[i] :: t)).length < 5864062014805 := by
    rw [List.length_append, List.length_map, List.length_take];omega
   rw [List.take_succ_eq_append_getElem hj, List.map_append, ← List.append_assoc] at jh
   simp only [impl_subsetsOf.l1, Ev.ite_iff, g1, g2, h1, h2, ↓reduceIte, Option.bind_some, rd_lt l i hi, rdL2_lt T j hj, g3, g4, w64_succ j (show j < 9223372036854775807 by omega)]
   exact jh

theorem l8Choices_ev : ∀ (m : Nat) (l : List Int) (k : Nat), l.length ≤ m → m ≤ 8 → k ≤ l.length → Ev (fun g => spec_l8Choices.f g l k) (cho l k) := by
 intro m
 induction m using Nat.strongRecOn with
 | _ m IH =>
 intro l k hlm hm hk
 rw [Ev.iff_succ]
 simp only [spec_l8Choices.f]
 cases k with
 | zero => rw [Ev.ite_iff, if_pos (by omega), Ev.now_iff, cho_zero]
 | succ k =>
 rw [Ev.ite_iff, if_neg (by omega)]
 have hp : 2 ^ l.length ≤ 256 := p8 (by omega)
 have H := down (l.length - k) (fun i => ∀ acc : List (List Int), acc.length + (cho (l.drop i) (k + 1)).length ≤ 256 → Ev (fun g => spec_l8Choices.l0 g l ((k + 1 : Nat) : Int) acc i) (acc ++ cho (l.drop i) (k + 1))) ?_ ?_ 0 (by omega) [] (by have := cho_len l (k + 1);simp;omega)
 ·simpa using H
 ·intro acc _
  rw [Ev.iff_succ]
  have e0 : wrap64 (((l.length - k : Nat) : Int) + ((k + 1 : Nat) : Int)) = (l.length : Int) + 1 := by rw [w64] <;> omega
  simp only [spec_l8Choices.l0, e0, Ev.ite_iff, Ev.now_iff]
  rw [if_neg (by omega), cho_nil _ _ (by rw [List.length_drop];omega), List.append_nil]
 ·intro i hi ih acc ha
  rw [Ev.iff_succ]
  have hil : i < l.length := by omega
  have h1 : (i : Int) < l.length := by omega
  have h2 : (0 : Int) ≤ i := by omega
  have h3 : (0 : Int) ≤ ((i + 1 : Nat) : Int) := by omega
  have h4 : ((i + 1 : Nat) : Int) ≤ l.length := by omega
  have e0 : wrap64 ((i : Int) + ((k + 1 : Nat) : Int)) = (i : Int) + ((k + 1 : Nat) : Int) := by rw [w64] <;> omega
  have h5 : (i : Int) + ((k + 1 : Nat) : Int) ≤ (l.length : Int) := by omega
  have e1 : wrap64 (((k + 1 : Nat) : Int) - 1) = (k : Int) := by rw [w64] <;> omega
  have hrec := IH (l.length - (i + 1)) (by omega) (l.drop (i + 1)) k (by rw [List.length_drop];omega) (by omega) (by rw [List.length_drop];omega)
  have hd := List.drop_eq_getElem_cons hil
  rw [hd, cho_cons, List.length_append, List.length_map] at ha
  rw [hd, cho_cons]
  simp only [spec_l8Choices.l0, e0, Ev.ite_iff, h3, h4, h5, ↓reduceIte, w64_succ i (show i < 9223372036854775807 by omega), e1, Int.toNat_natCast]
  rw [Ev.bind_iff hrec]
  have hml := cho_mem_len (l.drop (i + 1)) k
  generalize cho (l.drop (i + 1)) k = T at ha hml ⊢
  have G := down T.length (fun j => Ev (fun g => spec_l8Choices.l1 g l ((k + 1 : Nat) : Int) (acc ++ (T.take j).map (fun t => l[i] :: t)) i T j) (acc ++ (T.map (fun t => l[i] :: t) ++ cho (l.drop (i + 1)) (k + 1)))) ?_ ?_ 0 (by omega)
  ·simpa using G
  ·show Ev _ _
   rw [Ev.iff_succ]
   simp only [spec_l8Choices.l1, Int.lt_irrefl, ↓reduceIte, w64_succ i (show i < 9223372036854775807 by omega), List.take_length]
   rw [← List.append_assoc]
   exact ih _ (by rw [List.length_append, List.length_map];omega)
  ·intro j hj jh
   show Ev _ _
   rw [Ev.iff_succ]
   have g1 : (j : Int) < T.length := by omega
   have g2 : (0 : Int) ≤ j := by omega
   have hTl := hml T[j] (List.getElem_mem hj)
   have g3 : [l[i]].length + T[j].length < 17592186044416 := by simp;omega
   have g4 : (acc ++ (T.take j).map (fun t => l[i] :: t)).length < 5864062014805 := by
    rw [List.length_append, List.length_map, List.length_take];omega
   rw [List.take_succ_eq_append_getElem hj, List.map_append, ← List.append_assoc] at jh
   simp only [spec_l8Choices.l1, Ev.ite_iff, g1, g2, h1, h2, ↓reduceIte, Option.bind_some, rd_lt l i hil, rdL2_lt T j hj, g3, g4, w64_succ j (show j < 9223372036854775807 by omega)]
   exact jh

theorem closed_eq {es : List S78} {n x : Nat} (hn : n ≤ 8) (hx : x < n) : impl_net_closed.f (nets es n) (x : Int) = some (((nb es n x ||| 2 ^ x : Nat)) : Int) := by
 unfold impl_net_closed.f
 rw [if_pos (by omega), if_pos (by rw [nets_len];omega), nets_rd hx, shl_one (by omega), gor _ _ (lt62 hn (nb_lt es n x)) (lt62 hn (Nat.pow_lt_pow_right (by decide) hx))]

def cmpG : List Int → List Int → Int
 | [], [] => 0
 | [], _ :: _ => -1
 | _ :: _, [] => 1
 | a :: s, b :: t => if a = b then cmpG s t else if a < b then -1 else 1

theorem cmpG_eq : ∀ (l m : List Int), l.length = m.length → cmpG l m = cmpL l m
 | [], [], _ => rfl
 | [], _ :: _, h => by simp at h
 | _ :: _, [], h => by simp at h
 | a :: s, b :: t, h => by
  have := cmpG_eq s t (by simpa using h)
  simp only [cmpG, cmpL, this]

theorem sliceCompareG_ev (l m : List Int) (hl : l.length ≤ 9223372036854775806) : Ev (fun k => slices_Compare_int_int.f k l m) (cmpG l m) := by
 have H : ∀ d i, i + d = l.length → i ≤ m.length → Ev (fun k => slices_Compare_int_int.l0 k l m l l.length i) (cmpG (l.drop i) (m.drop i)) := by
  intro d
  induction d with
  | zero =>
   intro i hi him
   obtain rfl : i = l.length := by omega
   rw [Ev.iff_succ]
   simp only [slices_Compare_int_int.l0, Int.lt_irrefl, ↓reduceIte, Ev.ite_iff, Ev.now_iff, List.drop_length]
   by_cases g : l.length < m.length
   ·rw [if_pos (by omega), List.drop_eq_getElem_cons g];rfl
   ·rw [if_neg (by omega), List.drop_eq_nil_of_le (by omega)];rfl
  | succ d ih =>
   intro i hi him
   have hil : i < l.length := by omega
   rw [Ev.iff_succ]
   have h1 : (i : Int) < l.length := by omega
   have h2 : (0 : Int) ≤ i := by omega
   have e1 := rd_lt l i hil
   rw [List.drop_eq_getElem_cons hil]
   by_cases hm : i < m.length
   ·have h1' : (i : Int) < m.length := by omega
    have h1n : ¬ (i : Int) ≥ m.length := by omega
    have e2 := rd_lt m i hm
    have ih1 := ih (i + 1) (by omega) (by omega)
    rw [List.drop_eq_getElem_cons hm]
    generalize l[i] = a at e1 ⊢
    generalize m[i] = b at e2 ⊢
    simp only [slices_Compare_int_int.l0, Ev.ite_iff, h1, h1', h1n, h2, ↓reduceIte, w64_succ i (by omega), e1, e2, cmpInt_eq, Option.bind_some, cmpG]
    by_cases e : a = b
    ·subst e
     simp only [Int.lt_irrefl, ↓reduceIte, show ¬ a > a by omega]
     exact ih1
    ·by_cases g : a < b
     ·simp only [g, e, ↓reduceIte, Ev.now_iff];simp
     ·have g2 : a > b := by omega
      simp only [g, g2, e, ↓reduceIte, Ev.now_iff];simp
   ·have h1n : (i : Int) ≥ m.length := by omega
    rw [show m.drop i = [] from List.drop_eq_nil_of_le (by omega)]
    simp only [slices_Compare_int_int.l0, Ev.ite_iff, h1, h1n, h2, ↓reduceIte, Ev.now_iff, cmpG]
 have := H l.length 0 (by omega) (by omega)
 simpa [slices_Compare_int_int.f] using this

theorem lexLt_irr : ∀ l : List Int, lexLt l l = false
 | [] => rfl
 | a :: s => by rw [lexLt_cons, if_pos rfl];exact lexLt_irr s

theorem lexLt_trans : ∀ {a b c : List Int}, lexLt a b = true → lexLt b c = true → lexLt a c = true
 | [], _, _, h, _ => by simp [lexLt] at h
 | _ :: _, [], _, h, _ => by simp [lexLt] at h
 | _ :: _, _ :: _, [], _, h => by simp [lexLt] at h
 | x :: s, y :: t, z :: u, h1, h2 => by
  rw [lexLt_cons] at *
  by_cases e1 : x = y
  ·subst e1
   rw [if_pos rfl] at h1
   by_cases e2 : x = z
   ·rw [if_pos e2] at h2 ⊢;exact lexLt_trans h1 h2
   ·rw [if_neg e2] at h2 ⊢;exact h2
  ·rw [if_neg e1] at h1
   have h1' := of_decide_eq_true h1
   by_cases e2 : y = z
   ·subst e2;rw [if_neg e1];exact h1
   ·rw [if_neg e2] at h2
    have h2' := of_decide_eq_true h2
    rw [if_neg (by omega)];exact decide_eq_true (by omega)

def lowM (n S : Nat) : Nat := (List.range n).findIdx (fun x => S.testBit x)

theorem lowM_use {n S : Nat} (h : S < 2 ^ n) (h0 : S ≠ 0) : lowM n S < n ∧ S.testBit (lowM n S) = true := by
 have hex : ∃ x ∈ List.range n, S.testBit x = true := by
  apply Classical.byContradiction
  intro hn
  apply h0
  refine Nat.eq_of_testBit_eq (fun i => ?_)
  rw [Nat.zero_testBit, Bool.eq_false_iff]
  intro hb
  by_cases hi : i < n
  ·exact hn ⟨i, List.mem_range.2 hi, hb⟩
  ·rw [bit_lt h (by omega)] at hb;cases hb
 have hlt := List.findIdx_lt_length.2 hex
 have hg := List.findIdx_getElem (w := hlt)
 rw [List.length_range] at hlt
 simp only [List.getElem_range] at hg
 exact ⟨hlt, hg⟩

theorem mns_sub_lt {S x : Nat} (h : S.testBit x = true) : mns S (2 ^ x) < S := by
 have hle : mns S (2 ^ x) ≤ S := by
  have : mns S (2 ^ x) &&& S = mns S (2 ^ x) := by
   refine Nat.eq_of_testBit_eq (fun i => ?_)
   rw [Nat.testBit_and, mns_bit]
   cases S.testBit i <;> simp
  rw [← this];exact Nat.and_le_right
 have hne : mns S (2 ^ x) ≠ S := by
  intro e
  have := mns_bit S (2 ^ x) x
  rw [e, h] at this
  simp at this
 omega

def mm (es : List S78) (n : Nat) (S : Nat) : Nat :=
 if h : S < 2 ^ n ∧ S ≠ 0 then
  (List.range n).attach.foldl (fun acc y => if hy : (nb es n (lowM n S) &&& S).testBit y.val = true then max acc (mm es n (mns (mns S (2 ^ lowM n S)) (2 ^ y.val)) + 1) else acc) (mm es n (mns S (2 ^ lowM n S)))
 else 0
 termination_by S
 decreasing_by
 ·have h1 := mns_sub_lt (lowM_use h.1 h.2).2
  have hle : ∀ a b : Nat, mns a b ≤ a := fun a b => by
   have : mns a b &&& a = mns a b := by
    refine Nat.eq_of_testBit_eq (fun i => ?_)
    rw [Nat.testBit_and, mns_bit]
    cases a.testBit i <;> simp
   rw [← this];exact Nat.and_le_right
  exact Nat.lt_of_le_of_lt (hle _ _) h1
 ·exact mns_sub_lt (lowM_use h.1 h.2).2

theorem tz_low : ∀ n : Nat, n ≤ 8 → ∀ m : Nat, m < 2 ^ n → m ≠ 0 → Go.Lib.ctz 64 m = lowM n m := by decide +kernel

theorem tz_ev {n m : Nat} (hn : n ≤ 8) (hm : m < 2 ^ n) (h0 : m ≠ 0) : bits_TrailingZeros.f (IntKind.u64.wrap (m : Int)) = some ((lowM n m : Nat) : Int) := by
 have h8 := p8 hn
 rw [u64_wrap_id m (lt62 hn hm)]
 unfold bits_TrailingZeros.f
 rw [if_pos ⟨by omega, by omega⟩, Int.toNat_natCast, tz_low n hn m hm h0]

def canM (es : List S78) (n : Nat) : List Nat → Nat → Bool
 | [], _ => true
 | g :: gs, S => (bl n ((nb es n g ||| 2 ^ g) &&& S)).any (fun x => canM es n gs (mns S (2 ^ x.toNat)))

theorem idxAny {q : Nat → Int → Option Bool} {p : Int → Bool} : ∀ (l : List Int) (i : Nat), (∀ x ∈ l, Ev (fun k => q k x) (p x)) → ∃ j : Int, Ev (fun k => idxO (q k) l (i : Int)) j ∧ decide (0 ≤ j) = l.any p
 | [], _, _ => ⟨-1, by simp only [idxO];exact Ev.now _, rfl⟩
 | x :: l, i, hq => by
  cases hp : p x with
  | true =>
   refine ⟨(i : Int), ?_, by rw [List.any_cons, hp, Bool.true_or];exact decide_eq_true (by omega)⟩
   simp only [idxO]
   rw [Ev.bind_iff (hq x (by simp)), hp, Ev.ite_iff, if_pos rfl, Ev.now_iff]
  | false =>
   obtain ⟨j, h1, h2⟩ := idxAny l (i + 1) (fun y hy => hq y (by simp [hy]))
   refine ⟨j, ?_, by rw [List.any_cons, hp, Bool.false_or];exact h2⟩
   simp only [idxO]
   rw [Ev.bind_iff (hq x (by simp)), hp, Ev.ite_iff, if_neg (by decide)]
   rw [show ((i + 1 : Nat) : Int) = (i : Int) + 1 by omega] at h1
   exact h1

theorem canMatch_ev {es : List S78} {n : Nat} (hn : n ≤ 8) : ∀ (gs : List Nat) (S : Nat), (∀ g ∈ gs, g < n) → S < 2 ^ n → Ev (fun k => impl_net_canMatch.f k (nets es n) (gs.map fun g : Nat => (g : Int)) (S : Int)) (canM es n gs S)
 | [], S, _, _ => by simp only [List.map_nil, impl_net_canMatch.f, canM];exact Ev.now _
 | g :: gs, S, hg, hS => by
  have hgn := hg g (by simp)
  have hpg : 2 ^ g < 2 ^ n := Nat.pow_lt_pow_right (by decide) hgn
  have hcl : nb es n g ||| 2 ^ g < 2 ^ n := Nat.or_lt_two_pow (nb_lt es n g) hpg
  have hl : (nb es n g ||| 2 ^ g) &&& S < 2 ^ n := Nat.and_lt_two_pow _ hS
  simp only [List.map_cons, impl_net_canMatch.f, canM]
  rw [closed_eq hn hgn]
  simp only [Option.bind_some]
  rw [gand _ _ (lt62 hn hcl) (lt62 hn hS), Ev.bind_iff (setOf_ev n _ hn hl)]
  obtain ⟨j, h1, h2⟩ := idxAny (q := fun k x => if 0 ≤ x then impl_net_canMatch.f k (nets es n) (gs.map fun g : Nat => (g : Int)) (Go.bits .andNot .i64 (S : Int) (shl .i64 1 x)) else none) (p := fun x => canM es n gs (mns S (2 ^ x.toNat))) (bl n ((nb es n g ||| 2 ^ g) &&& S)) 0 (fun x hx => by
   obtain ⟨i, hi, _, rfl⟩ := mem_bl.1 hx
   have hpi : 2 ^ i < 2 ^ 62 := Nat.pow_lt_pow_right (by decide) (by omega)
   rw [Ev.ite_iff, if_pos (by omega), Int.toNat_natCast, shl_one (by omega), gandn _ _ (lt62 hn hS) hpi]
   exact canMatch_ev hn gs _ (fun y hy => hg y (by simp [hy])) (mns_lt _ hS))
  rw [Ev.bind_iff (show Ev (fun k => idxO _ _ 0) j from h1), Ev.now_iff, h2]

theorem any_bl {n m : Nat} {p : Int → Bool} : (bl n m).any p = true ↔ ∃ i, i < n ∧ m.testBit i = true ∧ p (i : Int) = true := by
 rw [List.any_eq_true]
 constructor
 ·rintro ⟨x, hx, hp⟩
  obtain ⟨i, h1, h2, rfl⟩ := mem_bl.1 hx
  exact ⟨i, h1, h2, hp⟩
 ·rintro ⟨i, h1, h2, hp⟩
  exact ⟨(i : Int), mem_bl.2 ⟨i, h1, h2, rfl⟩, hp⟩

end Go.Proofs.YtgahlimikndecaaDoor.QWorstAttack
