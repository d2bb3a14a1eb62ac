import Derived.Test.YtheplhphonfckaaA0
namespace Go.Proofs.Ytheplhphonfckaa.Q
open Go.RowKit Go.Proofs.YtheplhphonfckaaW.PrintWords Go.Proofs.YtheplhphonfckaaW.PrintLast Go.Proofs.YtheplhphonfckaaW.PrintMore
attribute [local go_sem] max2_int min2_int max_two min_two max_three min_three max_four min_four   -- for this text's walks alone
set_option linter.unusedVariables false
set_option linter.unusedSimpArgs false
--# near
/-- Are two numbers an edge, in either order? -/
def near (es : List S72) (a b : Int) : Bool := es.any fun e => decide (e.f0 = a ∧ e.f1 = b ∨ e.f0 = b ∧ e.f1 = a)
/-- The neighbors of a node, as a set. -/
def nb (es : List S72) (n x : Nat) : Nat := mk n (fun y => near es x y)
theorem nb_lt (es : List S72) (n x : Nat) : nb es n x < 2 ^ n := mk_lt _ _
theorem nb_bit (es : List S72) (n x y : Nat) : (nb es n x).testBit y = (decide (y < n) && near es x y) := mk_bit _ _ _
theorem near_comm (es : List S72) (a b : Int) : near es a b = near es b a := by
  unfold near; congr 1; funext e; congr 1; rw [eq_iff_iff]; exact Or.comm
theorem dropE (es : List S72) (i : Nat) (h : i < es.length) : ∃ a s, es.drop i = a :: s ∧ es.drop (i + 1) = s ∧ rd_T72 es i = a ∧ es[i] = a :=
  ⟨es[i], es.drop (i + 1), List.drop_eq_getElem_cons h, rfl, by simp [rd_T72, h], rfl⟩
theorem near_irr {n : Int} {es : List S72} (h : ∀ e ∈ es, edgeOk n e = true) (a : Int) : near es a a = false := by
  simp only [near, List.any_eq_false]
  intro e he
  have := h e he
  simp only [edgeOk, decide_eq_true_eq] at this
  simp only [decide_eq_true_eq]; omega
theorem near_in {n : Int} {es : List S72} (h : ∀ e ∈ es, edgeOk n e = true) {a b : Int} (hn : near es a b = true) : 0 ≤ a ∧ a < n ∧ 0 ≤ b ∧ b < n := by
  simp only [near, List.any_eq_true] at hn
  obtain ⟨e, he, h2⟩ := hn
  have := h e he
  simp only [edgeOk, decide_eq_true_eq] at this
  simp only [decide_eq_true_eq] at h2
  omega

--# l2Near
theorem l2Near_ev (n : Int) (es : List S72) (a b : Int) (hl : es.length ≤ 9223372036854775807) : Ev (fun k => spec_l2Near.f k n es a b) (near es a b) := by
  have H := down es.length (fun i => Ev (fun k => spec_l2Near.l0 k a b i n es) (near (es.drop i) a b)) ?_ ?_ 0 (by omega)
  · simpa [spec_l2Near.f] using H
  · show Ev _ _
    rw [Ev.iff_succ]
    simp [spec_l2Near.l0, Ev.now_iff, near]
  · intro i hi ih
    show Ev _ _
    rw [Ev.iff_succ]
    have h1 : (i : Int) < es.length := by omega
    have h2 : (0 : Int) ≤ i := by omega
    obtain ⟨e, s, e1, e2, e3, e4⟩ := dropE es i hi
    rw [e1]; rw [e2] at ih
    simp only [spec_l2Near.l0, Ev.ite_iff, h1, h2, ↓reduceIte, w64_succ i (by omega), Ev.now_iff, Ev.none_iff, e3]
    by_cases h : e.f0 = a ∧ e.f1 = b ∨ e.f0 = b ∧ e.f1 = a
    · have hn : near (e :: s) a b = true := by simp only [near, List.any_cons, h, decide_true, Bool.true_or]
      rw [hn]
      split
      · split
        · rfl
        · split
          · split
            · rfl
            · omega
          · omega
      · split
        · split
          · rfl
          · omega
        · omega
    · have hn : near (e :: s) a b = near s a b := by simp only [near, List.any_cons, h, decide_false, Bool.false_or]
      rw [hn]
      split
      · split
        · omega
        · split
          · split
            · omega
            · exact ih
          · exact ih
      · split
        · split
          · omega
          · exact ih
        · exact ih

--# l2Neighbors
theorem filter_range_succ (n : Nat) (p : Nat → Bool) : ((List.range (n + 1)).filter p) = (List.range n).filter p ++ (if p n then [n] else []) := by
  rw [List.range_succ, List.filter_append]; congr 1; simp [List.filter_cons]
theorem bl_step {n m i : Nat} (hi : i < n) : bl (i + 1) m = bl i m ++ (if m.testBit i then [(i : Int)] else []) := by
  unfold bl
  rw [filter_range_succ]
  split <;> simp_all
theorem l2Neighbors_ev (n : Nat) (es : List S72) (x : Nat) (hn : n ≤ 8) (hl : es.length ≤ 9223372036854775807) : Ev (fun k => spec_l2Neighbors.f k n es x) (bl n (nb es n x)) := by
  have H := down n (fun i => Ev (fun k => spec_l2Neighbors.l0 k x (bl i (nb es n x)) i n es) (bl n (nb es n x))) ?_ ?_ 0 (by omega)
  · simpa [spec_l2Neighbors.f, bl] using H
  · show Ev _ _
    rw [Ev.iff_succ]
    simp [spec_l2Neighbors.l0, Ev.now_iff]
  · intro i hi ih
    show Ev _ _
    rw [Ev.iff_succ]
    have h1 : (i : Int) < (n : Int) := by omega
    have h3 := bl_len_le i (nb es n x)
    have h2 : (bl i (nb es n x)).length < 17592186044416 := by omega
    rw [bl_step hi, nb_bit] at ih
    simp only [spec_l2Neighbors.l0, Ev.ite_iff, h1, ↓reduceIte, w64_succ i (by omega), Ev.bind_iff (l2Near_ev n es x i hl), h2]
    split
    · rename_i c; simpa [c, hi] using ih
    · rename_i c; simpa [c, hi] using ih

--# l5Among
/-- The numbers of a list that another one lacks. -/
def lack (set l : List Int) : List Int := l.filter (fun y => !decide (y ∈ set))
theorem l5Among_ev (n : Nat) (es : List S72) (set : List Int) (x : Nat) (hn : n ≤ 8) (hl : es.length ≤ 9223372036854775807) (hs : set.length ≤ 9223372036854775807) :
    Ev (fun k => spec_l5Among.f k n es set x) (lack set (bl n (nb es n x))) := by
  have hlen := bl_len_le n (nb es n x)
  unfold spec_l5Among.f
  rw [Ev.bind_iff (l2Neighbors_ev n es x hn hl)]
  generalize bl n (nb es n x) = l at hlen ⊢
  have H := down l.length (fun i => Ev (fun k => spec_l5Among.l0 k set (lack set (l.take i)) l i) (lack set l)) ?_ ?_ 0 (by omega)
  · simpa [lack] using H
  · show Ev _ _
    rw [Ev.iff_succ]
    simp [spec_l5Among.l0, Ev.now_iff]
  · intro i hi ih
    show Ev _ _
    rw [Ev.iff_succ]
    have h1 : (i : Int) < l.length := by omega
    have h2 : (0 : Int) ≤ i := by omega
    have h3 : (lack set (l.take i)).length < 17592186044416 := by
      have := List.length_filter_le (fun y => !decide (y ∈ set)) (l.take i)
      have h4 : (l.take i).length ≤ i := List.length_take_le _ _
      simp only [lack]; omega
    have h5 : lack set (l.take (i + 1)) = lack set (l.take i) ++ (if decide (l[i] ∈ set) then [] else [l[i]]) := by
      rw [List.take_succ_eq_append_getElem hi]
      simp only [lack, List.filter_append]
      congr 1
      by_cases c : l[i] ∈ set <;> simp [c]
    rw [h5] at ih
    simp only [spec_l5Among.l0, Ev.ite_iff, h1, h2, h3, ↓reduceIte, w64_succ i (by omega), Ev.bind_iff (l1Has_ev set _ hs), rd_lt l i hi]
    split
    · rename_i c; simpa [c] using ih
    · rename_i c; simpa [c] using ih
theorem lack_bl {n m s : Nat} : lack (bl n s) (bl n m) = bl n (mk n fun y => m.testBit y && !s.testBit y) := by
  refine asc_ext (asc_of_pairwise (p := none) ((bl_pairwise n m).filter _) (fun q hq => by cases hq)) (bl_asc n _) (fun x => ?_)
  simp only [lack, List.mem_filter, mem_bl, mk_bit]
  constructor
  · rintro ⟨⟨i, h1, h2, rfl⟩, h3⟩
    refine ⟨i, h1, ?_, rfl⟩
    simp only [Bool.not_eq_true', decide_eq_false_iff_not] at h3
    have : s.testBit i = false := by
      cases hs : s.testBit i with
      | false => rfl
      | true => exact absurd ⟨i, h1, hs, rfl⟩ h3
    simp [h1, h2, this]
  · rintro ⟨i, h1, h2, rfl⟩
    simp only [Bool.and_eq_true, decide_eq_true_eq, Bool.not_eq_true'] at h2
    refine ⟨⟨i, h1, h2.2.1, rfl⟩, ?_⟩
    simp only [Bool.not_eq_true', decide_eq_false_iff_not]
    rintro ⟨j, _, hj, e⟩
    obtain rfl : i = j := by omega
    rw [h2.2.2] at hj; exact absurd hj (by simp)

--# netOf
/-- The rows of a net: of each node the set of those that q tells. -/
def netW (n : Nat) (q : Nat → Nat → Bool) : List Int := (List.range n).map (fun x => Int.ofNat (mk n (q x)))
theorem netW_len (n : Nat) (q : Nat → Nat → Bool) : (netW n q).length = n := by simp [netW]
theorem netW_rd {n : Nat} {q : Nat → Nat → Bool} {i : Nat} (h : i < n) : rd (netW n q) i = (mk n (q i) : Nat) := by simp [rd, netW, h]
theorem netW_set {n : Nat} {q : Nat → Nat → Bool} {i : Nat} {p : Nat → Bool} (_ : i < n) : (netW n q).set i (Int.ofNat (mk n p)) = netW n (fun x => if x = i then p else q x) := by
  apply List.ext_getElem
  · simp [netW]
  · intro j h1 h2
    simp only [List.getElem_set, netW, List.getElem_map, List.getElem_range]
    by_cases e : i = j
    · subst e; simp
    · simp [e, show ¬ j = i from fun h => e h.symm]
theorem shl_one {j : Nat} (h : j < 62) : shl .i64 1 (j : Int) = ((2 ^ j : Nat) : Int) := by
  unfold shl
  have hb : IntKind.bits .i64 = 64 := rfl
  have h1 : (2 : Nat) ^ j < 2 ^ 62 := Nat.pow_lt_pow_right (by decide) h
  rw [Int.toNat_natCast, hb, Nat.min_eq_left (by omega), Int.one_mul, i64_wrap_id]
  · simp
  · exact Int.pow_nonneg (by decide)
  · exact_mod_cast h1
theorem mk_or_pow {n : Nat} {p : Nat → Bool} {j : Nat} (h : j < n) : mk n p ||| 2 ^ j = mk n (fun y => p y || y == j) := by
  refine mask_ext (n := n) (Nat.or_lt_two_pow (mk_lt _ _) (Nat.pow_lt_pow_right (by decide) h)) (mk_lt _ _) (fun i hi => ?_)
  rw [Nat.testBit_or, mk_bit, mk_bit, Nat.testBit_two_pow]
  by_cases e : j = i
  · subst e; simp [hi]
  · simp [hi, e, show ¬ i = j from fun h => e h.symm]
theorem mk_lt62 {n : Nat} (p : Nat → Bool) (hn : n ≤ 8) : mk n p < 2 ^ 62 := Nat.lt_of_lt_of_le (mk_lt n p) (Nat.pow_le_pow_right (by decide) (by omega))
theorem netStep_W {n : Nat} {q : Nat → Nat → Bool} {e : S72} (hn : n ≤ 8) (he : edgeOk n e = true) :
    netStep (netW n q) e = netW n (fun x y => q x y || decide (e.f0 = (x : Int) ∧ e.f1 = (y : Int) ∨ e.f0 = (y : Int) ∧ e.f1 = (x : Int))) := by
  simp only [edgeOk, decide_eq_true_eq] at he
  obtain ⟨a, b⟩ := e
  simp only at he
  obtain ⟨i, rfl⟩ : ∃ i : Nat, a = i := ⟨a.toNat, by omega⟩
  obtain ⟨j, rfl⟩ : ∃ j : Nat, b = j := ⟨b.toNat, by omega⟩
  have hi : i < n := by omega
  have hj : j < n := by omega
  have hp : ∀ {k : Nat}, k < n → 2 ^ k < 2 ^ 62 := fun h => Nat.pow_lt_pow_right (by decide) (by omega)
  simp only [netStep, Int.toNat_natCast]
  rw [netW_rd hi, shl_one (by omega), gor _ _ (mk_lt62 _ hn) (hp hj), mk_or_pow hj]
  rw [show ((mk n fun y => q i y || y == j : Nat) : Int) = Int.ofNat (mk n fun y => q i y || y == j) from rfl, netW_set hi]
  rw [netW_rd hj, shl_one (by omega), gor _ _ (mk_lt62 _ hn) (hp hi), mk_or_pow hi]
  rw [show ∀ z : Nat, (z : Int) = Int.ofNat z from fun _ => rfl, netW_set hj]
  congr 1
  funext x y
  have hij : i ≠ j := by omega
  rw [Bool.eq_iff_iff]
  by_cases e1 : x = j
  · subst e1
    rw [if_pos rfl, if_neg (Ne.symm hij)]
    simp only [Bool.or_eq_true, beq_iff_eq, decide_eq_true_eq, and_true, true_and]
    constructor
    · rintro (h | h)
      · exact .inl h
      · right; omega
    · rintro (h | h)
      · exact .inl h
      · right; omega
  · rw [if_neg e1]
    by_cases e3 : x = i
    · subst e3
      rw [if_pos rfl]
      simp only [Bool.or_eq_true, beq_iff_eq, decide_eq_true_eq, and_true, true_and]
      constructor
      · rintro (h | h)
        · exact .inl h
        · right; omega
      · rintro (h | h)
        · exact .inl h
        · right; omega
    · rw [if_neg e3]
      simp only [Bool.or_eq_true, decide_eq_true_eq]
      constructor
      · exact .inl
      · rintro (h | h)
        · exact h
        · omega
theorem netW_fold {n : Nat} (hn : n ≤ 8) : ∀ (es : List S72) (q : Nat → Nat → Bool), (∀ e ∈ es, edgeOk n e = true) → es.foldl netStep (netW n q) = netW n (fun x y => q x y || near es x y)
  | [], q, _ => by simp [near]
  | e :: es, q, h => by
    rw [List.foldl_cons, netStep_W hn (h e (by simp)), netW_fold hn es _ (fun x hx => h x (by simp [hx]))]
    congr 1
    funext x y
    simp only [near, List.any_cons, Bool.or_assoc]
/-- The rows of the net of a graph. -/
def nets (es : List S72) (n : Nat) : List Int := (List.range n).map (fun x => Int.ofNat (nb es n x))
theorem nets_len (es : List S72) (n : Nat) : (nets es n).length = n := by simp [nets]
theorem nets_rd {es : List S72} {n i : Nat} (h : i < n) : rd (nets es n) i = (nb es n i : Nat) := by simp [rd, nets, h]
def okG (n : Int) (es : List S72) : Bool := decide (0 ≤ n ∧ n ≤ 8) && goodL n none es
theorem netOf_eq {n : Nat} {es : List S72} (h : okG n es = true) : impl_netOf.f n es = some (nets es n) := by
  have h2 := h
  simp only [okG, Bool.and_eq_true, decide_eq_true_eq] at h2
  have hn : n ≤ 8 := by omega
  have hz : List.replicate n (0 : Int) = netW n (fun _ _ => false) := by
    apply List.ext_getElem
    · simp [netW]
    · intro i h1 h3
      have hm : mk n (fun _ => false) = 0 := mask_ext (n := n) (mk_lt _ _) (Nat.two_pow_pos n) (fun i _ => by rw [mk_bit]; simp)
      simp [netW, hm]
  show (if okG n es = true then some (es.foldl netStep (List.replicate (n : Int).toNat 0)) else none) = _
  rw [if_pos h, Int.toNat_natCast, hz, netW_fold hn es _ (goodL_all h2.2)]
  simp [netW, nets, nb]

end Go.Proofs.Ytheplhphonfckaa.Q
