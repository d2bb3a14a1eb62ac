import Derived.Test.YtaddgielnfhhpaaQFortsOf0
import Derived.Test.YtaddgielnfhhpaaQFortsOf10
import Derived.Test.YtaddgielnfhhpaaQFortsOf11
import Derived.Test.YtaddgielnfhhpaaQFortsOf12
import Derived.Test.YtaddgielnfhhpaaQFortsOf13
import Derived.Test.YtaddgielnfhhpaaQFortsOf3
import Derived.Test.YtaddgielnfhhpaaQFortsOf7
import Derived.Test.YtaddgielnfhhpaaQFortsOfA1
namespace Go.Proofs.Ytaddgielnfhhpaa.QFortsOf
open Go.RowKit Go.Proofs.YtaddgielnfhhpaaW.PrintWords Go.Proofs.YtaddgielnfhhpaaW.PrintLast Go.Proofs.YtaddgielnfhhpaaW.PrintMore
attribute [local go_sem] max2_int min2_int max_two min_two max_three min_three max_four min_four   -- for this text's walks alone
set_option linter.unusedVariables false
set_option linter.unusedSimpArgs false
def fortB (es : List S80) (n m : Nat) : Bool := (List.range n).all (fun x => decide (fortP es n m x)) && decide (m ≠ 0)

theorem filter_split {p q : Nat → Bool} : ∀ l : List Nat, (l.filter p).length = (l.filter (fun i => p i && q i)).length + (l.filter (fun i => p i && !q i)).length
 | [] => rfl
 | a :: l => by
  have := filter_split (p := p) (q := q) l
  simp only [List.filter_cons]
  cases p a <;> cases q a <;> simp <;> omega

theorem bl_split (n a m : Nat) : (bl n a).length = (bl n (a &&& m)).length + (bl n (mns a m)).length := by
 rw [bl_len, bl_len, bl_len]
 have h1 : (fun i => (a &&& m).testBit i) = (fun i => a.testBit i && m.testBit i) := funext fun i => by rw [Nat.testBit_and]
 have h2 : (fun i => (mns a m).testBit i) = (fun i => a.testBit i && !m.testBit i) := funext fun i => mns_bit a m i
 rw [h1, h2]
 exact filter_split _

theorem l9Fort_ev {es : List S80} {n m : Nat} (hn : n ≤ 8) (hm : m < 2 ^ n) (he : es.length ≤ 9223372036854775807) : Ev (fun k => spec_l9Fort.f k n es (bl n m)) (fortB es n m) := by
 have hbm := bl_len_le n m
 have H := down n (fun i => Ev (fun k => spec_l9Fort.l0 k (bl n m) i n es) (((List.range n).drop i).all (fun x => decide (fortP es n m x)) && decide (m ≠ 0))) ?_ ?_ 0 (by omega)
 ·simpa [spec_l9Fort.f, fortB] using H
 ·show Ev _ _
  rw [Ev.iff_succ]
  have h1 : (((bl n m).length : Int) > 0) ↔ m ≠ 0 := by have := bl_zero_iff hm;omega
  simp only [spec_l9Fort.l0, Int.lt_irrefl, ↓reduceIte, Ev.now_iff, h1]
  rw [List.drop_eq_nil_iff.2 (by simp)]
  simp
 ·intro i hi ih
  show Ev _ _
  rw [Ev.iff_succ]
  have h1 : (i : Int) < (n : Int) := by omega
  rw [List.drop_eq_getElem_cons (by simpa using hi), List.getElem_range, List.all_cons]
  simp only [spec_l9Fort.l0, h1, ↓reduceIte]
  rw [Ev.bind_iff (l1Has_ev (bl n m) i (by omega)), Ev.ite_iff]
  simp only [mem_bl_nat, hi, true_and, w64_succ i (show i < 9223372036854775807 by omega)]
  cases c : m.testBit i
  ·rw [if_neg (by simp), Ev.bind_iff (l2Neighbors_ev n es i hn he), Ev.bind_iff (l9Open_ev es n m i hn he), Ev.ite_iff]
   have hs := bl_split n (nb es n i) m
   have hl1 := bl_len_le n (nb es n i)
   have hw : wrap64 (((bl n (nb es n i)).length : Int) - ((bl n (opM es n m i)).length : Int)) = (cntM es n m i : Int) := by
    unfold opM cntM;rw [w64] <;> omega
   rw [hw]
   by_cases d : cntM es n m i = 1
   ·rw [if_pos (by omega), Ev.now_iff]
    simp [fortP, c, d]
   ·rw [if_neg (by omega)]
    simpa [fortP, c, d] using ih
  ·rw [if_pos (by simp)]
   simpa [fortP, c] using ih

theorem isFort_ev {es : List S80} {n m : Nat} (hn : n ≤ 8) (hm : m < 2 ^ n) : Ev (fun k => impl_net_isFort.f k (nets es n) m) (fortB es n m) := by
 unfold impl_net_isFort.f
 have hf : 2 ^ n - 1 < 2 ^ n := by have := Nat.two_pow_pos n;omega
 rw [Ev.ite_iff]
 by_cases c : m = 0
 ·subst c
  rw [if_pos (by omega), Ev.now_iff]
  simp [fortB]
 rw [if_neg (by omega), all_eq hn]
 simp only [Option.bind_some]
 rw [gandn _ _ (lt62 hn hf) (lt62 hn hm), Ev.bind_iff (setOf_ev n _ hn (mns_lt _ hf))]
 have hone : ∀ i : Nat, i < n → bits_OnesCount.f (IntKind.u64.wrap (Go.bits .and .i64 (rd (nets es n) (i : Int)) m)) = some ((cntM es n m i : Nat) : Int) := fun i hi => by
  rw [nets_rd hi, gand (nb es n i) m (lt62 hn (nb_lt _ _ _)) (lt62 hn hm), ones_bl hn (and_lt_left m (nb_lt es n i))];rfl
 have hbad : isFortBad (nets es n) m (bl n (mns (2 ^ n - 1) m)) = some ((bl n (mns (2 ^ n - 1) m)).any (oneIn (nets es n) m)) := by
  unfold isFortBad
  rw [if_pos]
  intro x hx
  obtain ⟨i, h1, _, rfl⟩ := mem_bl.1 hx
  exact ⟨⟨by omega, by rw [nets_len];omega⟩, by rw [hone i h1];rfl⟩
 rw [hbad]
 simp only [Option.bind_some, Ev.now_iff]
 unfold fortB
 rw [Bool.eq_iff_iff]
 simp only [Bool.not_eq_true', List.any_eq_false, Bool.and_eq_true, List.all_eq_true, List.mem_range, decide_eq_true_eq]
 constructor
 ·intro h
  refine ⟨fun x hx => ?_, c⟩
  by_cases b : m.testBit x = true
  ·exact .inl b
  ·refine .inr fun e => ?_
   refine h (x : Int) (mem_bl_nat.2 ⟨hx, ?_⟩) ?_
   ·rw [mns_bit, Nat.testBit_two_pow_sub_one];simp [hx, b]
   ·unfold oneIn;rw [hone x hx, e];simp
 ·rintro ⟨h, _⟩ x hx
  obtain ⟨i, h1, h2, rfl⟩ := mem_bl.1 hx
  rw [mns_bit, Nat.testBit_two_pow_sub_one] at h2
  simp only [h1, decide_true, Bool.true_and, Bool.not_eq_true'] at h2
  rcases h i h1 with e | e
  ·rw [h2] at e;cases e
  ·unfold oneIn
   rw [hone i h1]
   simp only [Option.some.injEq, decide_eq_true_eq]
   omega

/-- How two lists compare, number by number, then by their lengths. -/
def cmpG : List Int → List Int → Int
 | [], [] => 0
 | [], _ :: _ => -1
 | _ :: _, [] => 1
 | a :: s, b :: t => if a = b then cmpG s t else if a < b then -1 else 1

theorem cmpG_eq : ∀ (l m : List Int), l.length = m.length → cmpG l m = cmpL l m
 | [], [], _ => rfl
 | [], _ :: _, h => by simp at h
 | _ :: _, [], h => by simp at h
 | a :: s, b :: t, h => by
  have := cmpG_eq s t (by simpa using h)
  simp only [cmpG, cmpL, this]

theorem sliceCompareG_ev (l m : List Int) (hl : l.length ≤ 9223372036854775806) : Ev (fun k => slices_Compare_int_int.f k l m) (cmpG l m) := by
 have H : ∀ d i, i + d = l.length → i ≤ m.length → Ev (fun k => slices_Compare_int_int.l0 k l m l l.length i) (cmpG (l.drop i) (m.drop i)) := by
  intro d
  induction d with
  | zero =>
   intro i hi him
   obtain rfl : i = l.length := by omega
   rw [Ev.iff_succ]
   simp only [slices_Compare_int_int.l0, Int.lt_irrefl, ↓reduceIte, Ev.ite_iff, Ev.now_iff, List.drop_length]
   by_cases g : l.length < m.length
   ·rw [if_pos (by omega), List.drop_eq_getElem_cons g];rfl
   ·rw [if_neg (by omega), List.drop_eq_nil_of_le (by omega)];rfl
  | succ d ih =>
   intro i hi him
   have hil : i < l.length := by omega
   rw [Ev.iff_succ]
   have h1 : (i : Int) < l.length := by omega
   have h2 : (0 : Int) ≤ i := by omega
   have e1 := rd_lt l i hil
   rw [List.drop_eq_getElem_cons hil]
   by_cases hm : i < m.length
   ·have h1' : (i : Int) < m.length := by omega
    have h1n : ¬ (i : Int) ≥ m.length := by omega
    have e2 := rd_lt m i hm
    have ih1 := ih (i + 1) (by omega) (by omega)
    rw [List.drop_eq_getElem_cons hm]
    generalize l[i] = a at e1 ⊢
    generalize m[i] = b at e2 ⊢
    simp only [slices_Compare_int_int.l0, Ev.ite_iff, h1, h1', h1n, h2, ↓reduceIte, w64_succ i (by omega), e1, e2, cmpInt_eq, Option.bind_some, cmpG]
    by_cases e : a = b
    ·subst e
     simp only [Int.lt_irrefl, ↓reduceIte, show ¬ a > a by omega]
     exact ih1
    ·by_cases g : a < b
     ·simp only [g, e, ↓reduceIte, Ev.now_iff];simp
     ·have g2 : a > b := by omega
      simp only [g, g2, e, ↓reduceIte, Ev.now_iff];simp
   ·have h1n : (i : Int) ≥ m.length := by omega
    rw [show m.drop i = [] from List.drop_eq_nil_of_le (by omega)]
    simp only [slices_Compare_int_int.l0, Ev.ite_iff, h1, h1n, h2, ↓reduceIte, Ev.now_iff, cmpG]
 have := H l.length 0 (by omega) (by omega)
 simpa [slices_Compare_int_int.f] using this

theorem cmpOr_ev (a b : Int) : Ev (fun k => cmp_Or_int.f k [a, b]) (if a = 0 then b else a) := by
 unfold cmp_Or_int.f
 have r0 : rd [a, b] 0 = a := rfl
 have r1 : rd [a, b] 1 = b := rfl
 have w1 : wrap64 (0 + 1) = 1 := by rw [w64 (by omega) (by omega)];rfl
 have w2 : wrap64 (1 + 1) = 2 := by rw [w64 (by omega) (by omega)];rfl
 have hl : (([a, b] : List Int).length : Int) = 2 := rfl
 rw [hl, Ev.iff_succ]
 simp only [cmp_Or_int.l0, hl, r0, w1, Ev.ite_iff]
 rw [if_pos (by omega), if_pos (by omega), if_pos (by omega)]
 by_cases h : a = 0
 ·rw [if_pos h, if_pos h, Ev.iff_succ]
  simp only [cmp_Or_int.l0, hl, r1, w2, Ev.ite_iff]
  rw [if_pos (by omega), if_pos (by omega), if_pos (by omega)]
  by_cases g : b = 0
  ·rw [if_pos g, Ev.iff_succ]
   simp only [cmp_Or_int.l0, Ev.ite_iff]
   rw [if_neg (by omega), Ev.now_iff, g]
  ·rw [if_neg g, Ev.now_iff]
 ·rw [if_neg h, if_neg h, Ev.now_iff]

theorem lexLt_irr : ∀ l : List Int, lexLt l l = false
 | [] => rfl
 | a :: s => by rw [lexLt_cons, if_pos rfl];exact lexLt_irr s

theorem lexLt_trans : ∀ {a b c : List Int}, lexLt a b = true → lexLt b c = true → lexLt a c = true
 | [], _, _, h, _ => by simp [lexLt] at h
 | _ :: _, [], _, h, _ => by simp [lexLt] at h
 | _ :: _, _ :: _, [], _, h => by simp [lexLt] at h
 | x :: s, y :: t, z :: u, h1, h2 => by
  rw [lexLt_cons] at *
  by_cases e1 : x = y
  ·subst e1
   rw [if_pos rfl] at h1
   by_cases e2 : x = z
   ·rw [if_pos e2] at h2 ⊢;exact lexLt_trans h1 h2
   ·rw [if_neg e2] at h2 ⊢;exact h2
  ·rw [if_neg e1] at h1
   have h1' := of_decide_eq_true h1
   by_cases e2 : y = z
   ·subst e2;rw [if_neg e1];exact h1
   ·rw [if_neg e2] at h2
    have h2' := of_decide_eq_true h2
    rw [if_neg (by omega)];exact decide_eq_true (by omega)

theorem lexLt_tot : ∀ {a b : List Int}, a.length = b.length → lexLt a b = false → lexLt b a = false → a = b
 | [], [], _, _, _ => rfl
 | [], _ :: _, h, _, _ => by simp at h
 | _ :: _, [], h, _, _ => by simp at h
 | x :: s, y :: t, h, h1, h2 => by
  rw [lexLt_cons] at h1 h2
  by_cases e : x = y
  ·subst e
   rw [if_pos rfl] at h1 h2
   rw [lexLt_tot (by simpa using h) h1 h2]
  ·rw [if_neg e] at h1
   rw [if_neg (fun h => e h.symm)] at h2
   have := of_decide_eq_false h1
   have := of_decide_eq_false h2
   omega

theorem betM_irr (n a : Nat) : betM n a a = false := by simp [betM, lexLt_irr]

theorem betM_trans {n a b c : Nat} (h1 : betM n a b = true) (h2 : betM n b c = true) : betM n a c = true := by
 simp only [betM, Bool.or_eq_true, Bool.and_eq_true, decide_eq_true_eq] at *
 rcases h1 with h1 | ⟨h1, g1⟩ <;> rcases h2 with h2 | ⟨h2, g2⟩
 ·left;omega
 ·left;omega
 ·left;omega
 ·right;exact ⟨by omega, lexLt_trans g1 g2⟩

theorem betM_tot {n a b : Nat} (ha : a < 2 ^ n) (hb : b < 2 ^ n) (h1 : betM n a b = false) (h2 : betM n b a = false) : a = b := by
 simp only [betM, Bool.or_eq_false_iff, Bool.and_eq_false_iff, decide_eq_false_iff_not] at h1 h2
 have hl : (bl n a).length = (bl n b).length := by omega
 refine bl_inj ha hb (lexLt_tot hl ?_ ?_)
 ·rcases h1.2 with h | h;exact absurd hl h;exact h
 ·rcases h2.2 with h | h;exact absurd hl.symm h;exact h

theorem betM_ntrans {n a b c : Nat} (ha : a < 2 ^ n) (hb : b < 2 ^ n) (h1 : betM n a b = false) (h2 : betM n b c = false) : betM n a c = false := by
 rw [Bool.eq_false_iff]
 intro h
 cases hba : betM n b a with
 | true => rw [betM_trans hba h] at h2;cases h2
 | false => rw [betM_tot ha hb h1 hba] at h;rw [h] at h2;cases h2

theorem bl_wide {n m : Nat} (hn : n ≤ 8) (hm : m < 2 ^ n) : bl n m = bl 8 m := by
 refine asc_ext (bl_asc n m) (bl_asc 8 m) (fun x => ?_)
 rw [mem_bl, mem_bl]
 constructor
 ·rintro ⟨i, h1, h2, h3⟩;exact ⟨i, by omega, h2, h3⟩
 ·rintro ⟨i, h1, h2, h3⟩
  refine ⟨i, ?_, h2, h3⟩
  rcases Nat.lt_or_ge i n with g | g
  ·exact g
  ·rw [bit_lt hm g] at h2;cases h2

theorem betM_wide {n a b : Nat} (hn : n ≤ 8) (ha : a < 2 ^ n) (hb : b < 2 ^ n) : betM n a b = betM 8 a b := by unfold betM; rw [bl_wide hn ha, bl_wide hn hb]

def cmpM (x y : Nat) : Int := if (bl 8 x).length < (bl 8 y).length then -1 else if (bl 8 x).length > (bl 8 y).length then 1 else cmpL (bl 8 x) (bl 8 y)

theorem cmpM_lt (x y : Nat) : decide (cmpM x y < 0) = betM 8 x y := by
 unfold cmpM betM
 by_cases h : (bl 8 x).length < (bl 8 y).length
 ·simp [h]
 ·rw [if_neg h]
  by_cases g : (bl 8 x).length > (bl 8 y).length
  ·rw [if_pos g]
   have : ¬ (bl 8 x).length = (bl 8 y).length := by omega
   simp [h, this]
  ·rw [if_neg g]
   have e : (bl 8 x).length = (bl 8 y).length := by omega
   have := cmpL_lt (bl 8 x) (bl 8 y)
   simp only [e, Nat.lt_irrefl, decide_false, decide_true, Bool.false_or, Bool.true_and]
   cases hx : lexLt (bl 8 x) (bl 8 y)
   ·rw [hx] at this;exact decide_eq_false (by rw [this];simp)
   ·rw [hx] at this;exact decide_eq_true (by rw [this])

theorem ordC1_ev (x y : Nat) (hx : x < 256) (hy : y < 256) : Ev (fun k => impl_net_setsInOrderC1.f k (x : Int) (y : Int)) (cmpM x y) := by
 unfold impl_net_setsInOrderC1.f
 have h8 : (8 : Nat) ≤ 8 := Nat.le_refl _
 have l1 := bl_len_le 8 x
 have l2 := bl_len_le 8 y
 rw [ones_bl (n := 8) h8 hx, ones_bl (n := 8) h8 hy]
 simp only [Option.bind_some, cmpInt_eq]
 rw [Ev.bind_iff (setOf_ev 8 x h8 hx), Ev.bind_iff (setOf_ev 8 y h8 hy), Ev.bind_iff (sliceCompareG_ev _ _ (by omega)), Ev.bind_iff (cmpOr_ev _ _), Ev.now_iff]
 unfold cmpM
 by_cases h : (bl 8 x).length < (bl 8 y).length
 ·have e : (if ((bl 8 x).length : Int) < ((bl 8 y).length : Int) then (-1 : Int) else if ((bl 8 x).length : Int) > ((bl 8 y).length : Int) then 1 else 0) = -1 := if_pos (by omega)
  rw [e, if_pos h, if_neg (by decide)]
 ·rw [if_neg h]
  by_cases g : (bl 8 x).length > (bl 8 y).length
  ·have e : (if ((bl 8 x).length : Int) < ((bl 8 y).length : Int) then (-1 : Int) else if ((bl 8 x).length : Int) > ((bl 8 y).length : Int) then 1 else 0) = 1 := by rw [if_neg (by omega), if_pos (by omega)]
   rw [e, if_pos g, if_neg (by decide)]
  ·have e : (if ((bl 8 x).length : Int) < ((bl 8 y).length : Int) then (-1 : Int) else if ((bl 8 x).length : Int) > ((bl 8 y).length : Int) then 1 else 0) = 0 := by rw [if_neg (by omega), if_neg (by omega)]
   rw [e, if_neg g, if_pos rfl, cmpG_eq _ _ (by omega)]

theorem ev_all (P : Nat → Nat → Prop) : ∀ n, (∀ x, x < n → ∃ K, ∀ k, K ≤ k → P x k) → ∃ K, ∀ k, K ≤ k → ∀ x, x < n → P x k
 | 0, _ => ⟨0, fun _ _ x hx => absurd hx (Nat.not_lt_zero _)⟩
 | n + 1, h => by
  obtain ⟨K, hK⟩ := ev_all P n (fun x hx => h x (by omega))
  obtain ⟨J, hJ⟩ := h n (by omega)
  refine ⟨K + J, fun k hk x hx => ?_⟩
  by_cases e : x = n
  ·subst e;exact hJ k (by omega)
  ·exact hK k (by omega) x (by omega)

theorem sortOk_ev : ∃ K, ∀ k, K ≤ k → SortOk k ∧ ∀ x y : Fin 256, cfS k x y = cmpM x.val y.val := by
 obtain ⟨K, hK⟩ := ev_all (fun (x k : Nat) => ∀ y : Nat, y < 256 → impl_net_setsInOrderC1.f k (x : Int) (y : Int) = some (cmpM x y)) 256 (fun x hx =>
  ev_all (fun (y k : Nat) => impl_net_setsInOrderC1.f k (x : Int) (y : Int) = some (cmpM x y)) 256 (fun y hy => ordC1_ev x y hx hy))
 refine ⟨K, fun k hk => ?_⟩
 have h := hK k hk
 have e : ∀ x y : Fin 256, cfS k x y = cmpM x.val y.val := fun x y => by unfold cfS;rw [h x.val x.isLt y.val y.isLt];rfl
 have e2 : ∀ x y : Fin 256, Go.Proofs.ltOf (cfS k) x y = betM 8 x.val y.val := fun x y => by unfold Go.Proofs.ltOf;rw [e, cmpM_lt]
 refine ⟨⟨fun x y => by rw [h x.val x.isLt y.val y.isLt];rfl, fun x => by rw [e2, betM_irr], fun x y z h1 h2 => ?_, fun x y z h1 h2 => ?_, fun x y h1 h2 => ?_⟩, e⟩
 ·rw [e2] at *;exact betM_trans h1 h2
 ·rw [e2] at *;exact betM_ntrans (n := 8) x.isLt y.isLt h1 h2
 ·rw [e2] at h1 h2;exact Fin.ext (betM_tot (n := 8) x.isLt y.isLt h1 h2)

/-- Sets in order: by their numbers of nodes, then by their lists. -/
def ordF (l : List (Fin 256)) : List (Fin 256) := l.mergeSort fun x y => !betM 8 y.val x.val

def ordL (l : List Int) : List Int := (ordF (l.map f256)).map fun x => (x.val : Int)

theorem finS_ev {l : List Int} (h0 : l ≠ [] ∧ l.length ≤ 256) (h1 : ∀ x ∈ l, 0 ≤ x ∧ x < 256) : Ev (fun k => finS k l) (ordL l) := by
 obtain ⟨K, hK⟩ := sortOk_ev
 refine ⟨K, fun k hk => ?_⟩
 obtain ⟨h2, h3⟩ := hK k hk
 show finS k l = some (ordL l)
 unfold finS
 rw [if_pos ⟨h0, h1, h2⟩]
 unfold sortS ordL ordF
 have : (fun x y : Fin 256 => !(Go.Proofs.ltOf (cfS k)) y x) = fun x y => !betM 8 y.val x.val := by
  funext x y
  unfold Go.Proofs.ltOf
  rw [h3, cmpM_lt]
 rw [this]

def upL (N : Nat) : List Int := (List.range N).map fun x : Nat => (x : Int)

theorem upL_len (N : Nat) : (upL N).length = N := by simp [upL]

theorem setsInOrder_l0 {N : Nat} (h0 : 0 < N) (h8 : N ≤ 256) : Ev (fun k => impl_net_setsInOrder.l0 k (List.replicate N 0) (N : Int) 0) (ordL (upL N)) := by
 have hu := upL_len N
 generalize hU : upL N = U at hu ⊢
 have hR : ∀ x ∈ U, 0 ≤ x ∧ x < 256 := fun x hx => by
  rw [← hU] at hx
  simp only [upL, List.mem_map, List.mem_range] at hx
  obtain ⟨i, hi, rfl⟩ := hx
  exact ⟨by omega, by omega⟩
 have hE : ∀ (i : Nat) (hi : i < U.length), U[i] = (i : Int) := fun i hi => by subst hU;simp [upL]
 clear hU
 have H : ∀ d i : Nat, i + d = N → Ev (fun k => impl_net_setsInOrder.l0 k (U.take i ++ List.replicate (U.length - i) 0) (N : Int) (i : Int)) (ordL U) := by
  intro d
  induction d with
  | zero =>
   intro i hi
   obtain rfl : i = N := by omega
   rw [Ev.iff_succ]
   simp only [impl_net_setsInOrder.l0, Int.lt_irrefl, ↓reduceIte]
   have e : U.take i ++ List.replicate (U.length - i) 0 = U := by
    rw [hu, Nat.sub_self, List.replicate_zero, List.append_nil, List.take_of_length_le (by omega)]
   rw [e]
   exact finS_ev ⟨fun h => by rw [h] at hu;simp at hu;omega, by omega⟩ hR
  | succ d ih =>
   intro i hi
   have hlen : (U.take i ++ List.replicate (U.length - i) (0 : Int)).length = N := by
    rw [List.length_append, List.length_take, List.length_replicate];omega
   have hs := set_fill U 0 i (by omega)
   rw [hE i (by omega)] at hs
   have ih1 := ih (i + 1) (by omega)
   rw [← hs] at ih1
   generalize U.take i ++ List.replicate (U.length - i) (0 : Int) = V at hlen ih1 ⊢
   have h1 : (i : Int) < (N : Int) := by omega
   have h2 : (0 : Int) ≤ i := by omega
   have h3 : (i : Int) < (V.length : Int) := by omega
   rw [Ev.iff_succ]
   simp only [impl_net_setsInOrder.l0, Ev.ite_iff, h1, h2, h3, ↓reduceIte, Int.toNat_natCast, w64_succ i (by omega)]
   exact ih1
 have := H N 0 (by omega)
 rw [List.take_zero, List.nil_append, Nat.sub_zero, hu] at this
 exact this

theorem setsInOrder_at {near : List Int} {N : Nat} (h8 : N ≤ 256) (hp : 0 < N) (h1 : impl_net_all.f near = some ((N - 1 : Nat) : Int)) (k : Nat) : impl_net_setsInOrder.f k near = impl_net_setsInOrder.l0 k (List.replicate N 0) (N : Int) 0 := by
 have h2 : wrap64 (((N - 1 : Nat) : Int) + 1) = (N : Int) := by rw [w64_succ _ (by omega), show N - 1 + 1 = N by omega]
 have h3 : (0 : Int) ≤ (N : Int) := by omega
 have h4 : ((N : Int)).toNat ≤ 35184372088832 := by omega
 unfold impl_net_setsInOrder.f
 rw [h1, Option.bind_some, h2, if_pos h3, if_pos h4, Int.toNat_natCast, Option.bind_some, List.length_replicate]

theorem setsInOrder_ev {es : List S80} {n : Nat} (hn : n ≤ 8) : Ev (fun k => impl_net_setsInOrder.f k (nets es n)) (ordL (upL (2 ^ n))) := by
 have h := setsInOrder_l0 (Nat.two_pow_pos n) (p8 hn)
 have e : (fun k => impl_net_setsInOrder.f k (nets es n)) = fun k => impl_net_setsInOrder.l0 k (List.replicate (2 ^ n) 0) ((2 ^ n : Nat) : Int) 0 := funext fun k => setsInOrder_at (p8 hn) (Nat.two_pow_pos n) (all_eq hn) k
 rw [e]
 exact h

theorem ordL_mem {n : Nat} (hn : n ≤ 8) {x : Int} : x ∈ ordL (upL (2 ^ n)) ↔ ∃ i : Nat, i < 2 ^ n ∧ x = (i : Int) := by
 have h8 := p8 hn
 unfold ordL ordF
 simp only [List.mem_map, List.mem_mergeSort, upL, List.map_map, List.mem_range, Function.comp]
 constructor
 ·rintro ⟨y, ⟨i, hi, rfl⟩, rfl⟩
  refine ⟨i, hi, ?_⟩
  simp only [f256, Int.toNat_natCast]
  rw [Nat.mod_eq_of_lt (by omega)]
 ·rintro ⟨i, hi, rfl⟩
  refine ⟨f256 i, ⟨i, hi, rfl⟩, ?_⟩
  simp only [f256, Int.toNat_natCast]
  rw [Nat.mod_eq_of_lt (by omega)]

theorem ordL_sorted (l : List Int) : (ordL l).Pairwise (fun a b => betM 8 b.toNat a.toNat = false) := by
 unfold ordL ordF
 rw [List.pairwise_map]
 have h := List.pairwise_mergeSort (le := fun x y : Fin 256 => !betM 8 y.val x.val) (fun a b c h1 h2 => ?_) (fun a b => ?_) (l.map f256)
 ·refine h.imp (fun {a b} h => ?_)
  simpa using h
 ·simp only [Bool.not_eq_true'] at *
  exact betM_ntrans (n := 8) c.isLt b.isLt h2 h1
 ·cases h : betM 8 b.val a.val with
  | false => rfl
  | true =>
   cases g : betM 8 a.val b.val with
   | false => rfl
   | true => have := betM_trans h g;rw [betM_irr] at this;cases this

theorem l5Less_ev (l m : List Int) (he : l.length = m.length) (hl : l.length ≤ 9223372036854775806) : Ev (fun k => spec_l5Less.f k l m) (lexLt l m) := by
 have H := down l.length (fun i => Ev (fun k => spec_l5Less.l0 k l m i) (lexLt (l.drop i) (m.drop i))) ?_ ?_ 0 (by omega)
 ·simpa [spec_l5Less.f] using H
 ·show Ev _ _
  rw [Ev.iff_succ]
  simp only [spec_l5Less.l0, Int.lt_irrefl, ↓reduceIte]
  rw [Ev.iff_succ]
  simp only [spec_l5Less.j1, Bool.false_eq_true, ↓reduceIte, Ev.now_iff, List.drop_length, lexLt_nil]
  exact decide_eq_false (by omega)
 ·intro i hi ih
  show Ev _ _
  rw [Ev.iff_succ]
  have h1 : (i : Int) < l.length := by omega
  have h1' : (i : Int) < m.length := by omega
  have h2 : (0 : Int) ≤ i := by omega
  simp only [spec_l5Less.l0, h1, ↓reduceIte]
  rw [Ev.iff_succ]
  simp only [spec_l5Less.j1, decide_true, h1', Ev.ite_iff, h2, h1, ↓reduceIte, w64_succ i (by omega), rd_lt l i hi, rd_lt m i (by omega), Ev.now_iff, List.drop_eq_getElem_cons hi, List.drop_eq_getElem_cons (show i < m.length by omega), lexLt_cons]
  by_cases c : l[i] = m[i]'(by omega)
  ·simp only [c, ↓reduceIte];exact ih
  ·simp only [c, ↓reduceIte]

/-- All sets of nodes, in order. -/
def setsC (n : Nat) : List Nat := (ordL (upL (2 ^ n))).map Int.toNat

def isI (l : List Nat) : List Int := l.map fun (x : Nat) => (x : Int)

theorem isI_len (l : List Nat) : (isI l).length = l.length := List.length_map _

theorem isI_rd {l : List Nat} {i : Nat} (h : i < l.length) : rd (isI l) (i : Int) = (l[i] : Int) := by simp [rd, isI, h]

end Go.Proofs.Ytaddgielnfhhpaa.QFortsOf
