import Derived.Test.YthbjajppdomhhaaDoorQMatchingNumber0
import Derived.Test.YthbjajppdomhhaaDoorQMatchingNumber1
import Derived.Test.YthbjajppdomhhaaDoorQMatchingNumber2
import Derived.Test.YthbjajppdomhhaaDoorQMatchingNumber3
import Derived.Test.YthbjajppdomhhaaDoorQMatchingNumberA0
namespace Go.Proofs.YthbjajppdomhhaaDoor.QMatchingNumber
open Go.RowKit Go.Proofs.YthbjajppdomhhaaDoorW.PrintWords Go.Proofs.YthbjajppdomhhaaDoorW.PrintLast Go.Proofs.YthbjajppdomhhaaDoorW.PrintMore
attribute [local go_sem] max2_int min2_int max_two min_two max_three min_three max_four min_four   -- for this text's walks alone
set_option linter.unusedVariables false
set_option linter.unusedSimpArgs false
theorem okG_use {n : Int} {es : List S92} (h : okG n es = true) : ∃ N : Nat, n = N ∧ N ≤ 8 := by
  simp only [okG, Bool.and_eq_true, decide_eq_true_eq] at h
  exact ⟨n.toNat, by omega, by omega⟩

/-- Two edges without a common node. -/
def Dis (e f : S92) : Prop := e.f0 ≠ f.f0 ∧ e.f0 ≠ f.f1 ∧ e.f1 ≠ f.f0 ∧ e.f1 ≠ f.f1

theorem Dis.symm {e f : S92} (h : Dis e f) : Dis f e := ⟨fun g => h.1 g.symm, fun g => h.2.2.1 g.symm, fun g => h.2.1 g.symm, fun g => h.2.2.2 g.symm⟩

theorem take_out {α : Type} {a : α} {M : List α} (h : a ∈ M) : ∃ R, List.Perm M (a :: R) := by
  obtain ⟨s, t, rfl⟩ := List.append_of_mem h
  exact ⟨s ++ t, List.perm_middle⟩

/-- The greatest number of edges of a list no two of which have a common node, or a node of u. -/
def eL : List S92 → List Int → Nat
  | [], _ => 0
  | e :: L, u => if e.f0 ∈ u ∨ e.f1 ∈ u then eL L u else max (1 + eL L (u ++ [e.f0, e.f1])) (eL L u)

theorem eL_ub : ∀ (L : List S92) (u : List Int) (M : List S92), M.Pairwise Dis → (∀ e ∈ M, e ∈ L ∧ e.f0 ∉ u ∧ e.f1 ∉ u) → M.length ≤ eL L u
  | [], _, M, _, h => by
    cases M with
    | nil => exact Nat.le_refl _
    | cons e M => exact absurd (h e (by simp)).1 (by simp)
  | a :: L, u, M, hd, h => by
    rw [eL]
    by_cases c : a ∈ M
    · have ha := h a c
      rw [if_neg (by intro g; rcases g with g | g; exact ha.2.1 g; exact ha.2.2 g)]
      obtain ⟨R, hp⟩ := take_out c
      have hd2 : (a :: R).Pairwise Dis := (hp.pairwise_iff (fun h => Dis.symm h)).1 hd
      rw [List.pairwise_cons] at hd2
      have hle := eL_ub L (u ++ [a.f0, a.f1]) R hd2.2 (fun e he => by
        have he2 := h e (hp.mem_iff.2 (List.mem_cons_of_mem _ he))
        have hde := hd2.1 e he
        refine ⟨?_, ?_, ?_⟩
        · rcases List.mem_cons.1 he2.1 with g | g
          · subst g; exact absurd rfl hde.1
          · exact g
        · intro g
          simp only [List.mem_append, List.mem_cons, List.not_mem_nil, or_false] at g
          rcases g with g | g | g
          · exact he2.2.1 g
          · exact hde.1 g.symm
          · exact hde.2.2.1 g.symm
        · intro g
          simp only [List.mem_append, List.mem_cons, List.not_mem_nil, or_false] at g
          rcases g with g | g | g
          · exact he2.2.2 g
          · exact hde.2.1 g.symm
          · exact hde.2.2.2 g.symm)
      have hl := hp.length_eq
      simp only [List.length_cons] at hl
      have := Nat.le_max_left (1 + eL L (u ++ [a.f0, a.f1])) (eL L u)
      omega
    · have hle := eL_ub L u M hd (fun e he => by
        have he2 := h e he
        refine ⟨?_, he2.2⟩
        rcases List.mem_cons.1 he2.1 with g | g
        · subst g; exact absurd he c
        · exact g)
      split
      · exact hle
      · have := Nat.le_max_right (1 + eL L (u ++ [a.f0, a.f1])) (eL L u)
        omega

theorem eL_at : ∀ (L : List S92) (u : List Int), ∃ M : List S92, M.Pairwise Dis ∧ (∀ e ∈ M, e ∈ L ∧ e.f0 ∉ u ∧ e.f1 ∉ u) ∧ M.length = eL L u
  | [], _ => ⟨[], List.Pairwise.nil, fun _ h => absurd h (by simp), rfl⟩
  | a :: L, u => by
    rw [eL]
    obtain ⟨M, h1, h2, h3⟩ := eL_at L u
    have keep : ∃ M : List S92, M.Pairwise Dis ∧ (∀ e ∈ M, e ∈ a :: L ∧ e.f0 ∉ u ∧ e.f1 ∉ u) ∧ M.length = eL L u := ⟨M, h1, fun e he => ⟨List.mem_cons_of_mem _ (h2 e he).1, (h2 e he).2⟩, h3⟩
    by_cases c : a.f0 ∈ u ∨ a.f1 ∈ u
    · rw [if_pos c]; exact keep
    · rw [if_neg c]
      rcases Nat.le_total (1 + eL L (u ++ [a.f0, a.f1])) (eL L u) with g | g
      · rw [Nat.max_eq_right g]; exact keep
      · rw [Nat.max_eq_left g]
        obtain ⟨M2, g1, g2, g3⟩ := eL_at L (u ++ [a.f0, a.f1])
        simp only [List.mem_append, List.mem_cons, List.not_mem_nil, or_false, not_or] at g2 c
        refine ⟨a :: M2, List.pairwise_cons.2 ⟨fun e he => ?_, g1⟩, fun e he => ?_, by simp [g3]; omega⟩
        · have := g2 e he
          exact ⟨fun h => this.2.1.2.1 h.symm, fun h => this.2.2.2.1 h.symm, fun h => this.2.1.2.2 h.symm, fun h => this.2.2.2.2 h.symm⟩
        · rcases List.mem_cons.1 he with h | h
          · subst h; exact ⟨by simp, c⟩
          · have := g2 e h
            exact ⟨List.mem_cons_of_mem _ this.1, this.2.1.1, this.2.2.1⟩

/-- The least node of a set that is not empty. -/
def lowM (n S : Nat) : Nat := (List.range n).findIdx (fun x => S.testBit x)

theorem lowM_use {n S : Nat} (h : S < 2 ^ n) (h0 : S ≠ 0) : lowM n S < n ∧ S.testBit (lowM n S) = true := by
  have hex : ∃ x ∈ List.range n, S.testBit x = true := by
    apply Classical.byContradiction
    intro hn
    apply h0
    refine Nat.eq_of_testBit_eq (fun i => ?_)
    rw [Nat.zero_testBit, Bool.eq_false_iff]
    intro hb
    by_cases hi : i < n
    · exact hn ⟨i, List.mem_range.2 hi, hb⟩
    · rw [bit_lt h (by omega)] at hb; cases hb
  have hlt := List.findIdx_lt_length.2 hex
  have hg := List.findIdx_getElem (w := hlt)
  rw [List.length_range] at hlt
  simp only [List.getElem_range] at hg
  exact ⟨hlt, hg⟩

theorem mns_sub_lt {S x : Nat} (h : S.testBit x = true) : mns S (2 ^ x) < S := by
  have hle : mns S (2 ^ x) ≤ S := by
    have : mns S (2 ^ x) &&& S = mns S (2 ^ x) := by
      refine Nat.eq_of_testBit_eq (fun i => ?_)
      rw [Nat.testBit_and, mns_bit]
      cases S.testBit i <;> simp
    rw [← this]; exact Nat.and_le_right
  have hne : mns S (2 ^ x) ≠ S := by
    intro e
    have := mns_bit S (2 ^ x) x
    rw [e, h] at this
    simp at this
  omega

/-- The greatest number of edges within a set no two of which have a common node. -/
def mm (es : List S92) (n : Nat) (S : Nat) : Nat :=
  if h : S < 2 ^ n ∧ S ≠ 0 then
    (List.range n).attach.foldl (fun acc y => if hy : (nb es n (lowM n S) &&& S).testBit y.val = true then max acc (mm es n (mns (mns S (2 ^ lowM n S)) (2 ^ y.val)) + 1) else acc) (mm es n (mns S (2 ^ lowM n S)))
  else 0
  termination_by S
  decreasing_by
  · have h1 := mns_sub_lt (lowM_use h.1 h.2).2
    have hle : ∀ a b : Nat, mns a b ≤ a := fun a b => by
      have : mns a b &&& a = mns a b := by
        refine Nat.eq_of_testBit_eq (fun i => ?_)
        rw [Nat.testBit_and, mns_bit]
        cases a.testBit i <;> simp
      rw [← this]; exact Nat.and_le_right
    exact Nat.lt_of_le_of_lt (hle _ _) h1
  · exact mns_sub_lt (lowM_use h.1 h.2).2

def mmFold (es : List S92) (n S x : Nat) (acc : Nat) (ys : List Nat) : Nat := ys.foldl (fun acc y => if (nb es n x &&& S).testBit y = true then max acc (mm es n (mns (mns S (2 ^ x)) (2 ^ y)) + 1) else acc) acc

theorem mm_eq {es : List S92} {n S : Nat} (h : S < 2 ^ n) (h0 : S ≠ 0) : mm es n S = mmFold es n S (lowM n S) (mm es n (mns S (2 ^ lowM n S))) (List.range n) := by
  rw [mm, dif_pos ⟨h, h0⟩]
  unfold mmFold
  have := List.foldl_attach (l := List.range n) (f := fun (acc : Nat) (y : Nat) => if (nb es n (lowM n S) &&& S).testBit y = true then max acc (mm es n (mns (mns S (2 ^ lowM n S)) (2 ^ y)) + 1) else acc) (b := mm es n (mns S (2 ^ lowM n S)))
  rw [← this]
  congr 1

theorem mm_zero (es : List S92) (n : Nat) : mm es n 0 = 0 := by rw [mm, dif_neg (by simp)]

theorem mmFold_le {es : List S92} {n S x : Nat} : ∀ (ys : List Nat) (acc : Nat), acc ≤ mmFold es n S x acc ys
  | [], _ => Nat.le_refl _
  | y :: ys, acc => by
    unfold mmFold
    rw [List.foldl_cons]
    refine Nat.le_trans ?_ (mmFold_le ys _)
    split
    · exact Nat.le_max_left _ _
    · exact Nat.le_refl _

theorem mmFold_hit {es : List S92} {n S x : Nat} : ∀ (ys : List Nat) (acc y : Nat), y ∈ ys → (nb es n x &&& S).testBit y = true → mm es n (mns (mns S (2 ^ x)) (2 ^ y)) + 1 ≤ mmFold es n S x acc ys
  | [], _, _, h, _ => absurd h (by simp)
  | z :: ys, acc, y, h, hb => by
    unfold mmFold
    rw [List.foldl_cons]
    rcases List.mem_cons.1 h with e | h
    · subst e
      rw [if_pos hb]
      exact Nat.le_trans (Nat.le_max_right _ _) (mmFold_le ys _)
    · exact mmFold_hit ys _ y h hb

theorem mmFold_or {es : List S92} {n S x : Nat} : ∀ (ys : List Nat) (acc : Nat), mmFold es n S x acc ys = acc ∨ ∃ y ∈ ys, (nb es n x &&& S).testBit y = true ∧ mmFold es n S x acc ys = mm es n (mns (mns S (2 ^ x)) (2 ^ y)) + 1
  | [], _ => .inl rfl
  | z :: ys, acc => by
    unfold mmFold
    rw [List.foldl_cons]
    have step := mmFold_or (es := es) (n := n) (S := S) (x := x) ys
    by_cases c : (nb es n x &&& S).testBit z = true
    · rw [if_pos c]
      rcases step (max acc (mm es n (mns (mns S (2 ^ x)) (2 ^ z)) + 1)) with h | ⟨y, hy, hb, h⟩
      · unfold mmFold at h
        rcases Nat.le_total acc (mm es n (mns (mns S (2 ^ x)) (2 ^ z)) + 1) with g | g
        · rw [Nat.max_eq_right g] at h ⊢
          exact .inr ⟨z, by simp, c, h⟩
        · rw [Nat.max_eq_left g] at h ⊢
          exact .inl h
      · unfold mmFold at h
        exact .inr ⟨y, by simp [hy], hb, h⟩
    · rw [if_neg c]
      rcases step acc with h | ⟨y, hy, hb, h⟩
      · exact .inl h
      · exact .inr ⟨y, by simp [hy], hb, h⟩

def inS (S : Nat) (M : List S92) : Prop := ∀ e ∈ M, S.testBit e.f0.toNat = true ∧ S.testBit e.f1.toNat = true

theorem two_pow_bit (x i : Nat) : (2 ^ x).testBit i = decide (x = i) := Nat.testBit_two_pow

theorem mm_ub {es : List S92} {n : Nat} (hok : ∀ e ∈ es, edgeOk n e = true) : ∀ (S : Nat), S < 2 ^ n → ∀ M : List S92, M.Pairwise Dis → (∀ e ∈ M, e ∈ es) → inS S M → M.length ≤ mm es n S := by
  intro S
  induction S using Nat.strongRecOn with
  | _ S ih =>
    intro hS M hd hM hin
    have hok2 : ∀ e ∈ M, 0 ≤ e.f0 ∧ e.f0 < e.f1 ∧ e.f1 < n := fun e he => by simpa [edgeOk] using hok e (hM e he)
    by_cases h0 : S = 0
    · subst h0
      cases M with
      | nil => simp
      | cons e M => have := (hin e (by simp)).1; simp at this
    · rw [mm_eq hS h0]
      obtain ⟨hxn, hxb⟩ := lowM_use hS h0
      generalize lowM n S = x at hxn hxb ⊢
      have hlt := mns_sub_lt hxb
      by_cases c : ∃ e ∈ M, e.f0 = (x : Int) ∨ e.f1 = (x : Int)
      · obtain ⟨e, he, hx⟩ := c
        obtain ⟨R, hp⟩ := take_out he
        have hd2 : (e :: R).Pairwise Dis := (hp.pairwise_iff (fun h => Dis.symm h)).1 hd
        rw [List.pairwise_cons] at hd2
        have hoe := hok2 e he
        obtain ⟨y, hyn, hnear, hyb, hyx, hyd⟩ : ∃ y : Nat, y < n ∧ near es x y = true ∧ S.testBit y = true ∧ y ≠ x ∧ ∀ f, Dis e f → f.f0 ≠ (x : Int) ∧ f.f1 ≠ (x : Int) ∧ f.f0 ≠ (y : Int) ∧ f.f1 ≠ (y : Int) := by
          rcases hx with hx | hx
          · refine ⟨e.f1.toNat, by omega, ?_, (hin e he).2, by omega, fun f hf => ?_⟩
            · simp only [near, List.any_eq_true, decide_eq_true_eq]
              exact ⟨e, hM e he, .inl ⟨hx, by omega⟩⟩
            · have h1 : ((e.f1.toNat : Nat) : Int) = e.f1 := by omega
              rw [h1, ← hx]
              exact ⟨fun g => hf.1 g.symm, fun g => hf.2.1 g.symm, fun g => hf.2.2.1 g.symm, fun g => hf.2.2.2 g.symm⟩
          · refine ⟨e.f0.toNat, by omega, ?_, (hin e he).1, by omega, fun f hf => ?_⟩
            · simp only [near, List.any_eq_true, decide_eq_true_eq]
              exact ⟨e, hM e he, .inr ⟨by omega, hx⟩⟩
            · have h1 : ((e.f0.toNat : Nat) : Int) = e.f0 := by omega
              rw [h1, ← hx]
              exact ⟨fun g => hf.2.2.1 g.symm, fun g => hf.2.2.2 g.symm, fun g => hf.1 g.symm, fun g => hf.2.1 g.symm⟩
        have hle : mns (mns S (2 ^ x)) (2 ^ y) < S := by
          have h1 : (mns S (2 ^ x)).testBit y = true := by rw [mns_bit, hyb, two_pow_bit]; simpa using fun g => hyx g.symm
          have := mns_sub_lt h1
          omega
        have h1 := ih _ hle (Nat.lt_trans hle hS) R hd2.2 (fun f hf => hM f (hp.mem_iff.2 (List.mem_cons_of_mem _ hf))) (fun f hf => by
          have hfm := hp.mem_iff.2 (List.mem_cons_of_mem _ hf)
          have hof := hok2 f hfm
          have h3 := hyd f (hd2.1 f hf)
          have h4 := hin f hfm
          simp only [mns_bit, two_pow_bit, h4.1, h4.2, Bool.true_and, Bool.and_eq_true, Bool.not_eq_true', decide_eq_false_iff_not]
          exact ⟨⟨by omega, by omega⟩, ⟨by omega, by omega⟩⟩)
        have h2 := mmFold_hit (es := es) (n := n) (S := S) (x := x) (List.range n) (mm es n (mns S (2 ^ x))) y (List.mem_range.2 hyn) (by rw [Nat.testBit_and, nb_bit, hnear, hyb]; simpa using hyn)
        have hl := hp.length_eq
        simp only [List.length_cons] at hl
        omega
      · have h1 := ih _ hlt (Nat.lt_trans hlt hS) M hd hM (fun f hf => by
          have h4 := hin f hf
          have hof := hok2 f hf
          have h5 : f.f0 ≠ (x : Int) ∧ f.f1 ≠ (x : Int) := ⟨fun g => c ⟨f, hf, .inl g⟩, fun g => c ⟨f, hf, .inr g⟩⟩
          simp only [mns_bit, two_pow_bit, h4.1, h4.2, Bool.true_and, Bool.not_eq_true', decide_eq_false_iff_not]
          exact ⟨by omega, by omega⟩)
        exact Nat.le_trans h1 (mmFold_le _ _)

theorem mm_at {es : List S92} {n : Nat} (hok : ∀ e ∈ es, edgeOk n e = true) : ∀ (S : Nat), S < 2 ^ n → ∃ M : List S92, M.Pairwise Dis ∧ (∀ e ∈ M, e ∈ es) ∧ inS S M ∧ M.length = mm es n S := by
  intro S
  induction S using Nat.strongRecOn with
  | _ S ih =>
    intro hS
    by_cases h0 : S = 0
    · subst h0
      exact ⟨[], List.Pairwise.nil, fun _ h => absurd h (by simp), fun _ h => absurd h (by simp), by rw [mm_zero]; rfl⟩
    · rw [mm_eq hS h0]
      obtain ⟨hxn, hxb⟩ := lowM_use hS h0
      generalize lowM n S = x at hxn hxb ⊢
      have hlt := mns_sub_lt hxb
      rcases mmFold_or (es := es) (n := n) (S := S) (x := x) (List.range n) (mm es n (mns S (2 ^ x))) with h | ⟨y, hy, hb, h⟩
      · obtain ⟨M, h1, h2, h3, h4⟩ := ih _ hlt (Nat.lt_trans hlt hS)
        refine ⟨M, h1, h2, fun e he => ?_, by rw [h]; exact h4⟩
        have := h3 e he
        simp only [mns_bit, Bool.and_eq_true] at this
        exact ⟨this.1.1, this.2.1⟩
      · rw [Nat.testBit_and, nb_bit] at hb
        simp only [Bool.and_eq_true, decide_eq_true_eq] at hb
        obtain ⟨⟨hyn, hnear⟩, hyb⟩ := hb
        simp only [near, List.any_eq_true, decide_eq_true_eq] at hnear
        obtain ⟨e, he, hxy⟩ := hnear
        have hoe : 0 ≤ e.f0 ∧ e.f0 < e.f1 ∧ e.f1 < n := by simpa [edgeOk] using hok e he
        have hyx : y ≠ x := by rcases hxy with g | g <;> omega
        have hle : mns (mns S (2 ^ x)) (2 ^ y) < S := by
          have h1 : (mns S (2 ^ x)).testBit y = true := by rw [mns_bit, hyb, two_pow_bit]; simpa using fun g => hyx g.symm
          have := mns_sub_lt h1
          omega
        obtain ⟨M, h1, h2, h3, h4⟩ := ih _ hle (Nat.lt_trans hle hS)
        refine ⟨e :: M, List.pairwise_cons.2 ⟨fun f hf => ?_, h1⟩, fun f hf => ?_, fun f hf => ?_, by rw [h, List.length_cons, h4]⟩
        · have h5 := h3 f hf
          have hof : 0 ≤ f.f0 ∧ f.f0 < f.f1 ∧ f.f1 < n := by simpa [edgeOk] using hok f (h2 f hf)
          simp only [mns_bit, two_pow_bit, Bool.and_eq_true, Bool.not_eq_true', decide_eq_false_iff_not] at h5
          obtain ⟨⟨⟨_, a1⟩, a2⟩, ⟨⟨_, b1⟩, b2⟩⟩ := h5
          rcases hxy with g | g
          · exact ⟨by omega, by omega, by omega, by omega⟩
          · exact ⟨by omega, by omega, by omega, by omega⟩
        · rcases List.mem_cons.1 hf with g | g
          · subst g; exact he
          · exact h2 f g
        · rcases List.mem_cons.1 hf with g | g
          · subst g
            rcases hxy with ⟨g1, g2⟩ | ⟨g1, g2⟩
            · rw [g1, g2, Int.toNat_natCast, Int.toNat_natCast]; exact ⟨hxb, hyb⟩
            · rw [g1, g2, Int.toNat_natCast, Int.toNat_natCast]; exact ⟨hyb, hxb⟩
          · have := h3 f g
            simp only [mns_bit, Bool.and_eq_true] at this
            exact ⟨this.1.1.1, this.2.1.1⟩

theorem mm_eL {es : List S92} {n : Nat} (hok : ∀ e ∈ es, edgeOk n e = true) : mm es n (2 ^ n - 1) = eL es [] := by
  have hp := Nat.two_pow_pos n
  apply Nat.le_antisymm
  · obtain ⟨M, h1, h2, _, h4⟩ := mm_at hok (2 ^ n - 1) (by omega)
    rw [← h4]
    exact eL_ub es [] M h1 (fun e he => ⟨h2 e he, by simp, by simp⟩)
  · obtain ⟨M, h1, h2, h3⟩ := eL_at es []
    rw [← h3]
    refine mm_ub hok (2 ^ n - 1) (by omega) M h1 (fun e he => (h2 e he).1) (fun e he => ?_)
    have hoe : 0 ≤ e.f0 ∧ e.f0 < e.f1 ∧ e.f1 < n := by simpa [edgeOk] using hok e (h2 e he).1
    simp only [Nat.testBit_two_pow_sub_one, decide_eq_true_eq]
    omega

theorem eL_le : ∀ (L : List S92) (u : List Int), eL L u ≤ L.length
  | [], _ => Nat.le_refl _
  | e :: L, u => by
    rw [eL]
    have h1 := eL_le L (u ++ [e.f0, e.f1])
    have h2 := eL_le L u
    simp only [List.length_cons]
    split <;> omega

theorem mostNat (a b : Nat) : (if (a : Int) > (b : Int) then (a : Int) else (b : Int)) = ((max a b : Nat) : Int) := by
  by_cases h : a > b
  · rw [if_pos (by omega), Nat.max_eq_left (by omega)]
  · rw [if_neg (by omega), Nat.max_eq_right (by omega)]

theorem l9Match_ev {es : List S92} (n : Int) (he : es.length ≤ 1048576) : ∀ (d i : Nat) (u : List Int), i + d = es.length → u.length + 2 * d ≤ 4194304 → Ev (fun k => spec_l9Match.f k n es (i : Int) u) ((eL (es.drop i) u : Nat) : Int) := by
  intro d
  induction d using Nat.strongRecOn with
  | _ d IH =>
    have loop : ∀ (d2 i best : Nat) (u : List Int), d2 ≤ d → i + d2 = es.length → u.length + 2 * d2 ≤ 4194304 → Ev (fun k => spec_l9Match.l0 k u (best : Int) (i : Int) n es) ((max best (eL (es.drop i) u) : Nat) : Int) := by
      intro d2
      induction d2 with
      | zero =>
        intro i best u _ hi hu
        rw [Ev.iff_succ]
        have : es.drop i = [] := List.drop_eq_nil_of_le (by omega)
        simp only [spec_l9Match.l0]
        rw [Ev.ite_iff, if_neg (by omega), Ev.now_iff, this, eL, Nat.max_eq_left (Nat.zero_le _)]
      | succ d2 ih =>
        intro i best u hd hi hu
        have hil : i < es.length := by omega
        have h1 : (i : Int) < (es.length : Int) := by omega
        have h2 : (0 : Int) ≤ (i : Int) := by omega
        have e1 : rd_T92 es (i : Int) = es[i] := by simp [rd_T92, hil]
        rw [Ev.iff_succ, List.drop_eq_getElem_cons hil, eL]
        simp only [spec_l9Match.l0, Ev.ite_iff, h1, h2, ↓reduceIte, e1]
        generalize es[i] = e
        have ih0 := fun b => ih (i + 1) b u (by omega) (by omega) (by omega)
        rw [Ev.bind_iff (l1Has_ev u e.f0 (by omega)), Ev.ite_iff]
        have skip : Ev (fun k => spec_l9Match.j1 k u (best : Int) (i : Int) e.f0 e.f1 false n es) ((max best (eL (es.drop (i + 1)) u) : Nat) : Int) := by
          rw [Ev.iff_succ]
          simp only [spec_l9Match.j1, Bool.false_eq_true, ↓reduceIte, w64_succ i (show i < 9223372036854775807 by omega)]
          exact ih0 best
        by_cases c0 : e.f0 ∈ u
        · rw [if_pos (by simpa using c0), if_pos (.inl c0)]; exact skip
        · rw [if_neg (by simpa using c0), Ev.bind_iff (l1Has_ev u e.f1 (by omega))]
          by_cases c1 : e.f1 ∈ u
          · rw [if_pos (.inr c1)]
            simp only [c1, decide_true, Bool.not_true]; exact skip
          · rw [if_neg (by simp [c0, c1])]
            simp only [c1, decide_false, Bool.not_false]
            rw [Ev.iff_succ]
            have hb := eL_le (es.drop (i + 1)) (u ++ [e.f0, e.f1])
            rw [List.length_drop] at hb
            have hf := IH d2 (by omega) (i + 1) (u ++ [e.f0, e.f1]) (by omega) (by rw [List.length_append]; simp only [List.length_cons, List.length_nil]; omega)
            have hw : wrap64 (1 + ((eL (es.drop (i + 1)) (u ++ [e.f0, e.f1]) : Nat) : Int)) = ((1 + eL (es.drop (i + 1)) (u ++ [e.f0, e.f1]) : Nat) : Int) := by rw [w64 (by omega) (by omega)]; omega
            have hap : u ++ [e.f0] ++ [e.f1] = u ++ [e.f0, e.f1] := by simp
            simp only [spec_l9Match.j1, ↓reduceIte, l1Own_eq (show u.length < 17592186044416 by omega), Option.bind_some, List.length_append, List.length_cons, List.length_nil, w64_succ i (show i < 9223372036854775807 by omega), hap, Ev.ite_iff]
            rw [if_pos (by omega), if_pos (by omega), Ev.bind_iff hf]
            simp only [hw, l1Most_eq, Option.bind_some, mostNat]
            have := ih0 (max best (1 + eL (es.drop (i + 1)) (u ++ [e.f0, e.f1])))
            rw [Nat.max_assoc] at this
            exact this
    intro i u hi hu
    rw [Ev.iff_succ]
    simp only [spec_l9Match.f]
    have := loop d i 0 u (Nat.le_refl _) hi hu
    rw [Nat.max_eq_right (Nat.zero_le _)] at this
    exact this

def matchingNumberR (n : Int) (es : List S92) : Int × Bool := if okG n es = true then ((eL es [] : Nat), true) else (0, false)

theorem specMatchingNumber_ev (n : Int) (es : List S92) (he : es.length ≤ 1048576) : Ev (fun k => spec_MatchingNumber.f k n es) (matchingNumberR n es) := by
  unfold spec_MatchingNumber.f matchingNumberR
  rw [l2Good_eq]
  simp only [Option.bind_some, Ev.ite_iff]
  by_cases h : okG n es = true
  · rw [if_pos h, if_pos h]
    have := l9Match_ev (es := es) n he es.length 0 [] (by omega) (by simp only [List.length_nil]; omega)
    rw [Ev.bind_iff (show Ev (fun k => spec_l9Match.f k n es 0 []) _ from this), Ev.now_iff, List.drop_zero]
  · rw [if_neg h, if_neg h, Ev.now_iff]

theorem tz_low : ∀ n : Nat, n ≤ 8 → ∀ m : Nat, m < 2 ^ n → m ≠ 0 → Go.Lib.ctz 64 m = lowM n m := by decide +kernel

theorem tz_ev {n m : Nat} (hn : n ≤ 8) (hm : m < 2 ^ n) (h0 : m ≠ 0) : bits_TrailingZeros.f (IntKind.u64.wrap (m : Int)) = some ((lowM n m : Nat) : Int) := by
  have h8 := p8 hn
  rw [u64_wrap_id m (lt62 hn hm)]
  unfold bits_TrailingZeros.f
  rw [if_pos ⟨by omega, by omega⟩, Int.toNat_natCast, tz_low n hn m hm h0]

end Go.Proofs.YthbjajppdomhhaaDoor.QMatchingNumber
