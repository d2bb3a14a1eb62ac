import Derived.Test.YtbhkimopcliepaaQForceRounds0
import Derived.Test.YtbhkimopcliepaaQForceRounds1
import Derived.Test.YtbhkimopcliepaaQForceRounds10
import Derived.Test.YtbhkimopcliepaaQForceRounds2
import Derived.Test.YtbhkimopcliepaaQForceRounds3
import Derived.Test.YtbhkimopcliepaaQForceRounds7
import Derived.Test.YtbhkimopcliepaaQForceRounds8
import Derived.Test.YtbhkimopcliepaaQForceRounds9
import Derived.Test.YtbhkimopcliepaaQForceRoundsA1
namespace Go.Proofs.Ytbhkimopcliepaa.QForceRounds
open Go.RowKit Go.Proofs.YtbhkimopcliepaaW.PrintWords Go.Proofs.YtbhkimopcliepaaW.PrintLast Go.Proofs.YtbhkimopcliepaaW.PrintMore
attribute [local go_sem] max2_int min2_int max_two min_two max_three min_three max_four min_four   -- for this text's walks alone
set_option linter.unusedVariables false
set_option linter.unusedSimpArgs false
theorem eqIntS_refl (l : List Int) (hl : l.length ≤ 9223372036854775807) : Ev (fun k => laws_eqIntS.f k l l) true := by
  unfold laws_eqIntS.f
  rw [Ev.ite_iff, if_pos rfl]
  have H := down l.length (fun i => Ev (fun k => laws_eqIntS.l0 k l l i) true) ?_ ?_ 0 (by omega)
  · simpa using H
  · show Ev _ _
    rw [Ev.iff_succ]
    simp [laws_eqIntS.l0, Ev.now_iff]
  · intro i hi ih
    show Ev _ _
    rw [Ev.iff_succ]
    have h1 : (i : Int) < l.length := by omega
    have h2 : (0 : Int) ≤ i := by omega
    simp only [laws_eqIntS.l0, Ev.ite_iff, h1, h2, ↓reduceIte, w64_succ i (by omega)]
    exact ih

theorem eqIntA2_refl (a b : Int) : laws_eqIntA2.f a b a b = some true := by simp [laws_eqIntA2.f]

theorem eqGraph_refl (n : Int) (es : List S100) (hl : es.length ≤ 9223372036854775807) : Ev (fun k => laws_eqGraph.f k n es n es) true := by
  have H0 : Ev (fun k => laws_eqIntA2S.f k es es) true := by
    unfold laws_eqIntA2S.f
    rw [Ev.ite_iff, if_pos rfl]
    have H := down es.length (fun i => Ev (fun k => laws_eqIntA2S.l0 k es es i) true) ?_ ?_ 0 (by omega)
    · simpa using H
    · show Ev _ _
      rw [Ev.iff_succ]
      simp [laws_eqIntA2S.l0, Ev.now_iff]
    · intro i hi ih
      show Ev _ _
      rw [Ev.iff_succ]
      have h1 : (i : Int) < es.length := by omega
      have h2 : (0 : Int) ≤ i := by omega
      simp only [laws_eqIntA2S.l0, Ev.ite_iff, h1, h2, ↓reduceIte, w64_succ i (by omega), eqIntA2_refl, Option.bind_some]
      exact ih
  unfold laws_eqGraph.f
  rw [Ev.ite_iff, if_pos rfl, Ev.bind_iff H0, Ev.ite_iff, if_pos rfl, Ev.now_iff]

theorem szGraph_eq (n : Int) (es : List S100) (hl : es.length ≤ 9223372036854775807) : laws_szGraph.f n es 1048576 = some (if es.length ≤ 1048576 then 1048576 - (es.length : Int) else -1) := by
  unfold laws_szGraph.f laws_szIntA2S.f
  rw [w64 (by omega) (by omega)]
  by_cases h : es.length ≤ 1048576
  · rw [if_neg (by omega), if_pos h, Option.bind_some, if_neg (by omega)]
  · rw [if_pos (by omega), if_neg h, Option.bind_some, if_pos (by omega)]

/-- A graph is valid and a list is a set of its nodes. -/
def setB (n : Int) (es : List S100) (l : List Int) : Bool := okG n es && (allIn 0 (wrap64 (n - 1)) l && ascB none l)

theorem setB_use {n : Int} {es : List S100} {l : List Int} (h : setB n es l = true) : ∃ N m : Nat, n = N ∧ N ≤ 8 ∧ okG N es = true ∧ (∀ e ∈ es, edgeOk N e = true) ∧ m < 2 ^ N ∧ l = bl N m ∧ mL l = m := by
  simp only [setB, Bool.and_eq_true] at h
  obtain ⟨h1, h2, h3⟩ := h
  have h4 := h1
  simp only [okG, Bool.and_eq_true, decide_eq_true_eq] at h4
  obtain ⟨N, rfl⟩ : ∃ N : Nat, n = N := ⟨n.toNat, by omega⟩
  rw [w64 (by omega) (by omega)] at h2
  have h5 : ∀ x ∈ l, 0 ≤ x ∧ x < (N : Int) := fun x hx => by
    simp only [allIn, List.all_eq_true, decide_eq_true_eq] at h2
    have := h2 x hx
    omega
  exact ⟨N, mL l, rfl, by omega, h1, goodL_all h4.2, mL_lt h5, bl_of_asc h2 h3, rfl⟩

theorem l2Good_eq (n : Int) (es : List S100) : spec_l2Good.f n es = some (okG n es) := rfl

theorem IsGraph_eq (n : Int) (es : List S100) : impl_IsGraph.f n es = some (okG n es) := rfl

theorem l2Set_ev (n : Int) (es : List S100) (l : List Int) (hl : l.length ≤ 9223372036854775807) : Ev (fun k => spec_l2Set.f k n es l) (allIn 0 (wrap64 (n - 1)) l && ascB none l) := by
  unfold spec_l2Set.f
  rw [Ev.bind_iff (l1Rising_ev l 0 _ hl), Ev.now_iff]

theorem l9Both_ev (n : Int) (es : List S100) (l : List Int) (hl : l.length ≤ 9223372036854775807) : Ev (fun k => spec_l9Both.f k n es l) (setB n es l) := by
  unfold spec_l9Both.f
  rw [l2Good_eq]
  simp only [Option.bind_some, Ev.ite_iff]
  split
  · rename_i h
    rw [Ev.bind_iff (l2Set_ev n es l hl), Ev.now_iff, setB, h, Bool.true_and]
  · rename_i h
    rw [Ev.now_iff, setB, Bool.eq_false_iff.2 h, Bool.false_and]

theorem hasNodes_ev (n : Int) (es : List S100) (l : List Int) (hl : l.length ≤ 9223372036854775807) : Ev (fun k => impl_hasNodes.f k n es l) (okG n es && allIn 0 (wrap64 (n - 1)) l) := by
  unfold impl_hasNodes.f
  rw [IsGraph_eq]
  simp only [Option.bind_some, Ev.ite_iff]
  split
  · rename_i h
    rw [Ev.bind_iff (allWithin_ev l 0 _ hl), Ev.now_iff, h, Bool.true_and]
  · rename_i h
    rw [Ev.now_iff, Bool.eq_false_iff.2 h, Bool.false_and]

theorem isSet_ev (n : Int) (es : List S100) (l : List Int) (hl : l.length ≤ 9223372036854775807) : Ev (fun k => impl_isSet.f k n es l) (setB n es l) := by
  unfold impl_isSet.f
  rw [Ev.bind_iff (hasNodes_ev n es l hl), Ev.ite_iff]
  unfold setB
  split
  · rename_i h
    rw [Ev.bind_iff (increasing_ev l hl), Ev.now_iff, ← Bool.and_assoc, h, Bool.true_and]
  · rename_i h
    rw [Ev.now_iff, ← Bool.and_assoc, Bool.eq_false_iff.2 h, Bool.false_and]

theorem maskOf_ev (l : List Int) (hl : l.length ≤ 9223372036854775807) (h : ∀ x ∈ l, 0 ≤ x ∧ x < 8) : Ev (fun k => impl_maskOf.f k l) ((mL l : Nat) : Int) := by
  have hm : ∀ s : List Int, (∀ x ∈ s, 0 ≤ x ∧ x < 8) → mL s < 2 ^ 8 := fun s hs => mL_lt (n := 8) hs
  have H := down l.length (fun i => ∀ acc : Nat, acc < 2 ^ 8 → Ev (fun k => impl_maskOf.l0 k acc l l.length i) ((acc ||| mL (l.drop i) : Nat) : Int)) ?_ ?_ 0 (by omega) 0 (by decide)
  · simpa [impl_maskOf.f] using H
  · intro acc _
    rw [Ev.iff_succ]
    simp [impl_maskOf.l0, Ev.now_iff, mL]
  · intro i hi ih acc ha
    rw [Ev.iff_succ]
    have h1 : (i : Int) < l.length := by omega
    have h2 : (0 : Int) ≤ i := by omega
    have hx := h l[i] (List.getElem_mem hi)
    obtain ⟨a, s, e1, e2, e3, e4⟩ := dropc l i hi
    rw [e4] at hx
    obtain ⟨x, rfl⟩ : ∃ x : Nat, a = x := ⟨a.toNat, by omega⟩
    have hp : 2 ^ x < 2 ^ 8 := Nat.pow_lt_pow_right (by decide) (by omega)
    have h62 : ∀ {c : Nat}, c < 2 ^ 8 → c < 2 ^ 62 := fun h => by omega
    simp only [impl_maskOf.l0, Ev.ite_iff, h1, h2, hx.1, ↓reduceIte, w64_succ i (by omega), e3]
    rw [shl_one (by omega), gor _ _ (h62 ha) (h62 hp)]
    have := ih (acc ||| 2 ^ x) (Nat.or_lt_two_pow ha hp)
    rw [e2] at this
    rw [e1, mL, Int.toNat_natCast, ← Nat.or_assoc]
    exact this

theorem bl_range {n m : Nat} (hn : n ≤ 8) : ∀ x ∈ bl n m, 0 ≤ x ∧ x < 8 := fun x hx => by
  obtain ⟨i, h1, _, rfl⟩ := mem_bl.1 hx; omega

/-- Numbers one behind the other. -/
def upF (a : Int) (c : Nat) : List Int := (List.range c).map (fun i : Nat => a + (i : Int))

theorem upF_len (a : Int) (c : Nat) : (upF a c).length = c := by simp [upF]

theorem upF_succ (a : Int) (c : Nat) : upF a (c + 1) = upF a c ++ [a + (c : Int)] := by simp [upF, List.range_succ]

theorem upF_rd {a : Int} {c i : Nat} (h : i < c) : rd (upF a c) i = a + (i : Int) := by rw [rd_lt _ i (by rw [upF_len]; exact h)]; simp [upF]

theorem markIntS_ev (l : List Int) (a : Int) (ha : 0 ≤ a) (h : a + l.length < 9223372036854775807) : Ev (fun k => laws_markIntS.f k l a) (a + (l.length : Int), upF a l.length) := by
  have H := down l.length (fun i => Ev (fun k => laws_markIntS.l0 k (upF a i ++ l.drop i) (a + (i : Int)) i) (a + (l.length : Int), upF a l.length)) ?_ ?_ 0 (by omega)
  · simpa [laws_markIntS.f, upF] using H
  · show Ev _ _
    rw [Ev.iff_succ]
    simp [laws_markIntS.l0, Ev.now_iff, upF_len]
  · intro i hi ih
    show Ev _ _
    rw [Ev.iff_succ]
    have h0 : ((upF a i ++ l.drop i).length : Int) = l.length := by rw [List.length_append, upF_len, List.length_drop]; omega
    have h1 : (i : Int) < l.length := by omega
    have h2 : (0 : Int) ≤ i := by omega
    have h3 : (upF a i ++ l.drop i).set i (a + (i : Int)) = upF a (i + 1) ++ l.drop (i + 1) := by
      rw [List.drop_eq_getElem_cons hi, List.set_append_right _ _ (by rw [upF_len]; omega), upF_len, Nat.sub_self, List.set_cons_zero, upF_succ, List.append_assoc]; rfl
    have h4 : wrap64 (a + (i : Int) + 1) = a + ((i + 1 : Nat) : Int) := by rw [w64] <;> omega
    simp only [laws_markIntS.l0, Ev.ite_iff, h0, h1, h2, ↓reduceIte, w64_succ i (by omega), Int.toNat_natCast, h3, h4]
    exact ih

theorem heldIntS_ev (a : Int) (c : Nat) (ha : 0 ≤ a) (h : a + c < 9223372036854775807) : Ev (fun k => laws_heldIntS.f k (upF a c) a) (a + (c : Int)) := by
  have H := down c (fun i => Ev (fun k => laws_heldIntS.l0 k (upF a c) (a + (i : Int)) i) (a + (c : Int))) ?_ ?_ 0 (by omega)
  · simpa [laws_heldIntS.f] using H
  · show Ev _ _
    rw [Ev.iff_succ]
    simp [laws_heldIntS.l0, Ev.now_iff, upF_len]
  · intro i hi ih
    show Ev _ _
    rw [Ev.iff_succ]
    have h1 : (i : Int) < (c : Int) := by omega
    have h2 : (0 : Int) ≤ i := by omega
    have h4 : wrap64 (a + (i : Int) + 1) = a + ((i + 1 : Nat) : Int) := by rw [w64] <;> omega
    simp only [laws_heldIntS.l0, Ev.ite_iff, upF_len, h1, h2, ↓reduceIte, w64_succ i (by omega), upF_rd hi, h4]
    exact ih

theorem markIntA2S_l0 (M : Int) (hM : M = 9223372036854775807) (d : Nat) : ∀ (l : List S100) (a : Int) (i : Nat), l.length = i + d → (l.length : Int) < M → 0 ≤ a → a + 2 * (d : Int) < M → ∃ r, laws_markIntA2S.l0 (d + 1) l a i = some (a + 2 * (d : Int), r) := by
  induction d with
  | zero =>
    intro l a i h _ _ _
    refine ⟨l, ?_⟩
    rw [laws_markIntA2S.l0, if_neg (by omega)]
    simp
  | succ d ih =>
    intro l a i h hl h0 h1
    have e1 : wrap64 (a + 1) = a + 1 := by rw [w64] <;> omega
    have e2 : wrap64 (a + 1 + 1) = a + 1 + 1 := by rw [w64] <;> omega
    have e3 : (i : Int) < (l.length : Int) := by omega
    have e4 : (0 : Int) ≤ i := by omega
    rw [laws_markIntA2S.l0, if_pos e3, if_pos e4, e1, e2, w64_succ i (by omega)]
    obtain ⟨r, hr⟩ := ih (l.set (i : Int).toNat ⟨a, a + 1⟩) (a + 1 + 1) (i + 1) (by rw [List.length_set]; omega) (by rw [List.length_set]; exact hl) (by omega) (by omega)
    exact ⟨r, by rw [hr]; congr 2; omega⟩

theorem markGraph_eq (n : Int) (l : List S100) (a : Int) (ha : 0 ≤ a) (h : a + 2 * (l.length : Int) < 9223372036854775807) : ∃ r, laws_markGraph.f n l a = some (a + 2 * (l.length : Int), r) := by
  obtain ⟨r, hr⟩ := markIntA2S_l0 _ rfl l.length l a 0 (by omega) (by omega) ha h
  exact ⟨r, by simp only [laws_markGraph.f, laws_markIntA2S.f]; rw [show ((0 : Nat) : Int) = 0 from rfl] at hr; rw [hr]; rfl⟩

theorem setOf_ev (n m : Nat) (hn : n ≤ 8) (hm : m < 2 ^ n) : Ev (fun k => impl_setOf.f k m) (bl n m) := by
  obtain ⟨t, ht⟩ : ∃ t, t = 9 := ⟨_, rfl⟩
  have hs : ∀ i, n ≤ i → m >>> i = 0 := fun i hi => by
    rw [Nat.shiftRight_eq_div_pow]; exact Nat.div_eq_of_lt (Nat.lt_of_lt_of_le hm (Nat.pow_le_pow_right (by decide) hi))
  have H := down n (fun i => Ev (fun k => impl_setOf.l0 k m (bl i m) i) (bl n m)) ?_ ?_ 0 (by omega)
  · simpa [impl_setOf.f, bl] using H
  · show Ev _ _
    rw [Ev.iff_succ]
    have h2 : (0 : Int) ≤ n := by omega
    simp [impl_setOf.l0, Ev.now_iff, h2, shr_nat m n (by omega), hs n (Nat.le_refl _)]
  · intro i hi ih
    show Ev _ _
    rw [Ev.iff_succ]
    have h2 : (0 : Int) ≤ i := by omega
    have h3 := bl_len_le i m
    have h4 : (bl i m).length < 17592186044416 := by omega
    have e3 := shr_bit m i (lt62 hn hm) (by omega)
    rw [bl_step hi] at ih
    simp only [impl_setOf.l0, Ev.ite_iff, h2, h4, ↓reduceIte, w64_succ i (by omega), e3]
    by_cases c : shr .i64 (m : Int) (i : Int) = 0
    · rw [if_pos c, Ev.now_iff]
      rw [shr_nat m i (by omega)] at c
      have c' : m >>> i = 0 := by omega
      have hb : ∀ j, i ≤ j → m.testBit j = false := fun j hj => by
        have : (m >>> i).testBit (j - i) = false := by rw [c']; simp
        rw [Nat.testBit_shiftRight] at this
        rwa [show i + (j - i) = j by omega] at this
      refine asc_ext (bl_asc _ _) (bl_asc _ _) (fun x => ?_)
      rw [mem_bl, mem_bl]
      constructor
      · rintro ⟨j, h1, h2, rfl⟩; exact ⟨j, by omega, h2, rfl⟩
      · rintro ⟨j, h1, h2, rfl⟩
        refine ⟨j, ?_, h2, rfl⟩
        by_cases hj : i ≤ j
        · rw [hb j hj] at h2; cases h2
        · omega
    · rw [if_neg c]
      cases c2 : m.testBit i
      · rw [c2] at ih; simpa using ih
      · rw [c2] at ih; simpa using ih

theorem closM_stop {es : List S100} {n m : Nat} {skew : Bool} (g : onceM es n m skew = m) : closM es n skew m = m := by unfold closM; rw [dif_neg (by simp [g])]

theorem closM_once {es : List S100} {n m : Nat} {skew : Bool} (hm : m < 2 ^ n) : closM es n skew (onceM es n m skew) = closM es n skew m := by
  by_cases g : onceM es n m skew = m
  · rw [g]
  · conv => rhs; unfold closM
    rw [dif_pos ⟨hm, g⟩]

/-- The round in which a node is coloured. -/
def rkM (es : List S100) (n : Nat) (x : Nat) (m : Nat) : Nat :=
  if m.testBit x then 0 else if h : m < 2 ^ n ∧ onceM es n m false ≠ m then rkM es n x (onceM es n m false) + 1 else 0
  termination_by 2 ^ n - m
  decreasing_by
  have := onceM_le es n m false
  have := onceM_lt (es := es) (skew := false) h.1
  omega

theorem rkM_in {es : List S100} {n x m : Nat} (h : m.testBit x = true) : rkM es n x m = 0 := by unfold rkM; rw [if_pos h]

theorem rkM_go {es : List S100} {n x m : Nat} (hm : m < 2 ^ n) (h : m.testBit x = false) (g : onceM es n m false ≠ m) : rkM es n x m = rkM es n x (onceM es n m false) + 1 := by rw [rkM, if_neg (by simp [h]), dif_pos ⟨hm, g⟩]

theorem once_sub {es : List S100} {n m : Nat} {skew : Bool} {i : Nat} (h : m.testBit i = true) : (onceM es n m skew).testBit i = true := fold_bits h n

/-- A row of numbers by places. -/
def rowF (n : Nat) (f : Nat → Int) : List Int := (List.range n).map f

theorem rowF_len (n : Nat) (f : Nat → Int) : (rowF n f).length = n := by simp [rowF]

theorem rowF_rd {n : Nat} {f : Nat → Int} {i : Nat} (h : i < n) : rd (rowF n f) i = f i := by simp [rd, rowF, h]

theorem rowF_set {n : Nat} {f : Nat → Int} {i : Nat} {v : Int} (_ : i < n) : (rowF n f).set i v = rowF n (fun x => if x = i then v else f x) := by
  apply List.ext_getElem
  · simp [rowF]
  · intro j h1 h2
    simp only [List.getElem_set, rowF, List.getElem_map, List.getElem_range]
    by_cases e : i = j
    · subst e; simp
    · simp [e, show ¬ j = i from fun h => e h.symm]

theorem rowF_ext {n : Nat} {f g : Nat → Int} (h : ∀ x, x < n → f x = g x) : rowF n f = rowF n g := by
  unfold rowF
  exact List.map_congr_left (fun x hx => h x (List.mem_range.1 hx))

theorem rowF_zero (n : Nat) : List.replicate n (0 : Int) = rowF n (fun _ => 0) := by
  apply List.ext_getElem
  · simp [rowF]
  · intro i h1 h2; simp [rowF]

theorem l3Sign_eq (b : Bool) : spec_l3Sign.f b = some (if b then 0 else -1) := by cases b <;> rfl

/-- The numbers of rounds so far: of those coloured their rounds, of the others -1. -/
def rndF (R : Nat → Nat) (now : Nat) (x : Nat) : Int := if now.testBit x then (R x : Int) else -1

theorem l9Rounds_l2 {es : List S100} {n : Nat} {R : Nat → Nat} {now nx : Nat} {r : Nat} {res : List Int} (hn : n ≤ 8) (hnx : nx < 2 ^ n) (hs : ∀ x, now.testBit x = true → nx.testBit x = true)
    (hR : ∀ x, x < n → now.testBit x = false → nx.testBit x = true → R x = r)
    (hend : Ev (fun k => spec_l9Rounds.l1 k (rowF n (rndF R nx)) (bl n nx) (wrap64 ((r : Int) + 1)) n es) res) :
    Ev (fun k => spec_l9Rounds.l2 k (rowF n (rndF R now)) r (bl n nx) 0 n es) res := by
  have hb := bl_len_le n nx
  have H := down (bl n nx).length (fun j => Ev (fun k => spec_l9Rounds.l2 k (rowF n (fun x => if now.testBit x || decide ((x : Int) ∈ (bl n nx).take j) then (R x : Int) else -1)) r (bl n nx) j n es) res) ?_ ?_ 0 (by omega)
  · have e : rowF n (rndF R now) = rowF n (fun x => if now.testBit x || decide ((x : Int) ∈ (bl n nx).take 0) then (R x : Int) else -1) := rowF_ext (fun x _ => by simp [rndF])
    rw [e]; exact H
  · show Ev _ _
    rw [Ev.iff_succ]
    simp only [spec_l9Rounds.l2, Int.lt_irrefl, ↓reduceIte, List.take_length]
    have e : rowF n (rndF R nx) = rowF n (fun x => if now.testBit x || decide ((x : Int) ∈ bl n nx) then (R x : Int) else -1) := rowF_ext (fun x hx => by
      unfold rndF
      congr 1
      rw [eq_iff_iff, Bool.or_eq_true, decide_eq_true_eq, mem_bl_nat]
      constructor
      · intro h; exact .inr ⟨hx, h⟩
      · rintro (h | h)
        · exact hs x h
        · exact h.2)
    rw [← e]; exact hend
  · intro j hj ih
    show Ev _ _
    rw [Ev.iff_succ]
    have h1 : (j : Int) < ((bl n nx).length : Int) := by omega
    have h2 : (0 : Int) ≤ j := by omega
    obtain ⟨y, hy, hyb, hye⟩ := rd_bl hj
    have h3 : (0 : Int) ≤ y := by omega
    have h4 : (y : Int) < (n : Int) := by omega
    have ht : ∀ x : Nat, ((x : Int) ∈ (bl n nx).take (j + 1)) ↔ ((x : Int) ∈ (bl n nx).take j ∨ x = y) := fun x => by
      rw [List.take_succ_eq_append_getElem hj, List.mem_append, List.mem_singleton, hye]
      constructor
      · rintro (h | h)
        · exact .inl h
        · exact .inr (by omega)
      · rintro (h | h)
        · exact .inl h
        · exact .inr (by omega)
    simp only [spec_l9Rounds.l2, Ev.ite_iff, h1, h2, ↓reduceIte, rd_lt _ j hj, hye, h3, rowF_len, h4, rowF_rd hy, w64_succ j (by omega), Int.toNat_natCast, rowF_set hy]
    by_cases c : (now.testBit y || decide ((y : Int) ∈ (bl n nx).take j)) = true
    · rw [if_pos c, if_neg (by omega)]
      have e : rowF n (fun x => if now.testBit x || decide ((x : Int) ∈ (bl n nx).take (j + 1)) then (R x : Int) else -1) = rowF n (fun x => if now.testBit x || decide ((x : Int) ∈ (bl n nx).take j) then (R x : Int) else -1) := rowF_ext (fun x _ => by
        congr 1
        rw [eq_iff_iff, Bool.or_eq_true, Bool.or_eq_true, decide_eq_true_eq, decide_eq_true_eq, ht]
        constructor
        · rintro (h | h | h)
          · exact .inl h
          · exact .inr h
          · subst h; simpa using c
        · rintro (h | h)
          · exact .inl h
          · exact .inr (.inl h))
      rw [e] at ih; exact ih
    · rw [if_neg c, if_pos (by omega)]
      have c1 : now.testBit y = false := by cases h : now.testBit y <;> simp [h] at c ⊢
      have e : rowF n (fun x => if now.testBit x || decide ((x : Int) ∈ (bl n nx).take (j + 1)) then (R x : Int) else -1) = rowF n (fun x => if x = y then (r : Int) else if now.testBit x || decide ((x : Int) ∈ (bl n nx).take j) then (R x : Int) else -1) := rowF_ext (fun x hx => by
        by_cases e : x = y
        · subst e
          rw [if_pos rfl, if_pos (by rw [Bool.or_eq_true, decide_eq_true_eq, ht]; exact .inr (.inr rfl)), hR x hy c1 hyb]
        · rw [if_neg e]
          congr 1
          rw [eq_iff_iff, Bool.or_eq_true, Bool.or_eq_true, decide_eq_true_eq, decide_eq_true_eq, ht]
          simp [e])
      rw [e] at ih; exact ih

theorem clos_sub {es : List S100} {n m i : Nat} {skew : Bool} (hm : m < 2 ^ n) (h : m.testBit i = true) : (closM es n skew m).testBit i = true := by
  obtain ⟨d, hd⟩ : ∃ d, d = 2 ^ n - m := ⟨_, rfl⟩
  induction d using Nat.strongRecOn generalizing m with
  | _ d ih =>
    have h1 := onceM_le es n m skew
    have h2 := onceM_lt (es := es) (skew := skew) hm
    by_cases g : onceM es n m skew = m
    · rw [closM_stop g]; exact h
    · rw [← closM_once hm]
      exact ih _ (by omega) h2 (once_sub h) rfl

theorem l9Rounds_l1g {es : List S100} {n C : Nat} {R : Nat → Nat} (hn : n ≤ 8) (hl : es.length ≤ 9223372036854775807) : ∀ (d i now : Nat), n = i + d → now < 2 ^ n → closM es n false now = C → (onceM es n now false = now ∨ i ≤ (bl n now).length) → (∀ x, x < n → now.testBit x = false → C.testBit x = true → R x = i + rkM es n x now) →
    Ev (fun k => spec_l9Rounds.l1 k (rowF n (rndF R now)) (bl n now) ((i + 1 : Nat) : Int) n es) (rowF n (rndF R C))
  | 0, i, now, hd, hm, hf, hlen, hR => by
    rw [Ev.iff_succ]
    have h1 : ¬ ((i + 1 : Nat) : Int) ≤ (n : Int) := by omega
    simp only [spec_l9Rounds.l1, h1, ↓reduceIte, Ev.now_iff]
    have hst : onceM es n now false = now := by
      rcases hlen with h | h
      · exact h
      · have hful := (bl_len_full n hn now hm).1 (by have := bl_len_le n now; omega)
        have h1 := onceM_le es n now false
        have h2 := onceM_lt (es := es) (skew := false) hm
        omega
    rw [← hf, closM_stop hst]
  | d + 1, i, now, hd, hm, hf, hlen, hR => by
    rw [Ev.iff_succ]
    have h1 : ((i + 1 : Nat) : Int) ≤ (n : Int) := by omega
    simp only [spec_l9Rounds.l1, h1, ↓reduceIte]
    rw [Ev.bind_iff (l9Once_ev es n now false hn hm hl)]
    have h2 := onceM_lt (es := es) (skew := false) hm
    have hgo : ∀ x, now.testBit x = false → C.testBit x = true → onceM es n now false ≠ now := fun x hb hc g => by
      rw [closM_stop g] at hf
      rw [hf, hc] at hb; cases hb
    have hsub : ∀ x, (onceM es n now false).testBit x = true → C.testBit x = true := fun x h => by
      rw [← hf, ← closM_once hm]; exact clos_sub h2 h
    refine l9Rounds_l2 hn h2 (fun x h => once_sub h) (fun x hx hb hc => ?_) ?_
    · rw [hR x hx hb (hsub x hc), rkM_go hm hb (hgo x hb (hsub x hc)), rkM_in hc]
    · rw [w64_succ (i + 1) (by omega)]
      refine l9Rounds_l1g hn hl d (i + 1) _ (by omega) h2 (by rw [closM_once hm]; exact hf) ?_ (fun x hx hb hc => ?_)
      · by_cases g : onceM es n now false = now
        · left; rw [g, g]
        · rcases hlen with h | h
          · exact absurd h g
          · right
            have h4 : (bl n now).length ≤ (bl n (onceM es n now false)).length := by
              rw [bl_len, bl_len]; exact (cnt_mono n (fun i _ hi => once_sub hi)).1
            by_cases e : (bl n (onceM es n now false)).length ≤ (bl n now).length
            · exact absurd (sub_len hm h2 (fun i _ hi => once_sub hi) e) g
            · omega
      · have hb0 : now.testBit x = false := by
          cases h : now.testBit x
          · rfl
          · rw [once_sub h] at hb; cases hb
        rw [hR x hx hb0 hc, rkM_go hm hb0 (hgo x hb0 hc)]; omega

def roundsRow (es : List S100) (n m : Nat) : List Int := rowF n (rndF (fun x => rkM es n x m) (closM es n false m))

end Go.Proofs.Ytbhkimopcliepaa.QForceRounds
