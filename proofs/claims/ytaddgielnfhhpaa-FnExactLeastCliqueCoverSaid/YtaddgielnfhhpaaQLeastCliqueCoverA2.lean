import Derived.Test.YtaddgielnfhhpaaQLeastCliqueCover0
import Derived.Test.YtaddgielnfhhpaaQLeastCliqueCover5
import Derived.Test.YtaddgielnfhhpaaQLeastCliqueCover6
import Derived.Test.YtaddgielnfhhpaaQLeastCliqueCover7
import Derived.Test.YtaddgielnfhhpaaQLeastCliqueCover9
import Derived.Test.YtaddgielnfhhpaaQLeastCliqueCoverA1
namespace Go.Proofs.Ytaddgielnfhhpaa.QLeastCliqueCover
open Go.RowKit Go.Proofs.YtaddgielnfhhpaaW.PrintWords Go.Proofs.YtaddgielnfhhpaaW.PrintLast Go.Proofs.YtaddgielnfhhpaaW.PrintMore
attribute [local go_sem] max2_int min2_int max_two min_two max_three min_three max_four min_four   -- for this text's walks alone
set_option linter.unusedVariables false
set_option linter.unusedSimpArgs false
theorem bl_add {n x c : Nat} (hx : x < n) (hc : c < 2 ^ x) : bl n (c ||| 2 ^ x) = bl n c ++ [(x : Int)] := by
 have hlow : ∀ i, i ≤ x → bl i (c ||| 2 ^ x) = bl i c := by
  intro i
  induction i with
  | zero => intro _;rfl
  | succ i ih =>
   intro hi
   rw [bl_step (Nat.lt_succ_self i), bl_step (Nat.lt_succ_self i), ih (by omega)]
   have : (c ||| 2 ^ x).testBit i = c.testBit i := by rw [Nat.testBit_or, Nat.testBit_two_pow];simp;omega
   rw [this]
 have hhi : ∀ d, bl (x + 1 + d) (c ||| 2 ^ x) = bl (x + 1 + d) c ++ [(x : Int)] := by
  intro d
  induction d with
  | zero =>
   rw [Nat.add_zero, bl_step (Nat.lt_succ_self x), bl_step (Nat.lt_succ_self x), hlow x (Nat.le_refl x)]
   have h1 : (c ||| 2 ^ x).testBit x = true := by simp [Nat.testBit_or, Nat.testBit_two_pow]
   have h2 : c.testBit x = false := Nat.testBit_lt_two_pow hc
   simp [h1, h2]
  | succ d ih =>
   rw [← Nat.add_assoc, bl_step (Nat.lt_succ_self _), bl_step (Nat.lt_succ_self _), ih]
   have h1 : (c ||| 2 ^ x).testBit (x + 1 + d) = false := by
    rw [Nat.testBit_or, Nat.testBit_two_pow]
    have : c.testBit (x + 1 + d) = false := Nat.testBit_lt_two_pow (Nat.lt_of_lt_of_le hc (Nat.pow_le_pow_right (by decide) (by omega)))
    rw [this];simp;omega
   have h2 : c.testBit (x + 1 + d) = false := Nat.testBit_lt_two_pow (Nat.lt_of_lt_of_le hc (Nat.pow_le_pow_right (by decide) (by omega)))
   simp [h1, h2]
 have := hhi (n - (x + 1))
 rwa [show x + 1 + (n - (x + 1)) = n by omega] at this

theorem rowsC_nxt {n x i : Nat} {cs : List Nat} (hn : n ≤ 8) (hx : x < n) (h : Cov x cs) (hi : i ≤ cs.length) :
  rowsC n (nxtC x cs i) = if i = cs.length then rowsC n cs ++ [[(x : Int)]] else (rowsC n cs).set i (rd_L2 (rowsC n cs) (i : Int) ++ [(x : Int)]) := by
 unfold nxtC rowsC
 split
 ·rw [List.map_append]
  simp only [List.map_cons, List.map_nil]
  rw [bl_pow n hn x hx];rfl
 ·have hl : i < cs.length := by omega
  rw [List.map_set, rdL2_lt _ i (by rw [List.length_map];exact hl), List.getElem_map, List.getD_eq_getElem?_getD, List.getElem?_eq_getElem hl]
  simp only [Option.getD_some]
  rw [bl_add hx (h.lt _ (List.getElem_mem hl))]

theorem rowsC_rd {n x i : Nat} {cs : List Nat} (hi : i ≤ cs.length) : rd_L2 (rowsC n (nxtC x cs i)) (i : Int) = bl n ((nxtC x cs i).getD i 0) := by
 have hl := nxtC_len (x := x) hi
 rw [rdL2_lt _ i (by rw [rowsC, List.length_map];exact hl), List.getD_eq_getElem?_getD, List.getElem?_eq_getElem hl]
 simp [rowsC]

theorem findSome_drop {β : Type} {N i : Nat} (h : i < N) (f : Nat → Option β) : ((List.range N).drop i).findSome? f = (f i).or (((List.range N).drop (i + 1)).findSome? f) := by
 rw [drop_range h, List.findSome?_cons]
 cases f i <;> rfl

theorem l10Fill_ev {es : List S80} {n m : Nat} (hn : n ≤ 8) (hm : m ≤ 8) (he : es.length ≤ 9223372036854775807) : ∀ (F : Nat) (cs : List Nat), F ≤ n → Cov (n - F) cs →
  Ev (fun k => spec_l10Fill.f k n es (rowsC n cs) ((n - F : Nat) : Int) m) (outC n (filC es n m F cs))
 | 0, cs, _, h => by
  rw [Ev.iff_succ]
  simp only [spec_l10Fill.f, filC, outC, Nat.sub_zero, ↓reduceIte, Ev.now_iff]
 | F + 1, cs, hF, h => by
  obtain ⟨x, hx⟩ : ∃ x, x = n - (F + 1) := ⟨_, rfl⟩
  have hxn : x < n := by omega
  rw [← hx] at h ⊢
  have hcl : cs.length ≤ 8 := Nat.le_trans h.len (by omega)
  rw [Ev.iff_succ]
  simp only [spec_l10Fill.f]
  rw [Ev.ite_iff, if_neg (by omega)]
  unfold filC
  rw [← hx]
  have hrl : (rowsC n cs).length = cs.length := by rw [rowsC, List.length_map]
  have H := down (min m (cs.length + 1)) (fun i => Ev (fun k => spec_l10Fill.l0 k (rowsC n cs) x m i n es) (outC n (((List.range (min m (cs.length + 1))).drop i).findSome? fun i => if cliqueB es n ((nxtC x cs i).getD i 0) then filC es n m F (nxtC x cs i) else none))) ?_ ?_ 0 (by omega)
  ·exact H
  ·show Ev _ _
   rw [List.drop_eq_nil_of_le (by rw [List.length_range];exact Nat.le_refl _), Ev.iff_succ]
   simp only [spec_l10Fill.l0, hrl, List.findSome?_nil, outC]
   rw [Ev.ite_iff]
   by_cases c : ((min m (cs.length + 1) : Nat) : Int) ≤ (cs.length : Int)
   ·rw [if_pos c, Ev.iff_succ]
    simp only [spec_l10Fill.j1]
    rw [Ev.ite_iff, if_neg (by simp;omega), Ev.now_iff]
   ·rw [if_neg c, Ev.iff_succ]
    simp only [spec_l10Fill.j1, Bool.false_eq_true, ↓reduceIte, Ev.now_iff]
  ·intro i hi ih
   show Ev _ _
   have hil : i ≤ cs.length := by omega
   have him : i < m := by omega
   rw [findSome_drop hi, Ev.iff_succ]
   simp only [spec_l10Fill.l0, hrl]
   rw [Ev.ite_iff, if_pos (by omega), Ev.iff_succ]
   simp only [spec_l10Fill.j1]
   rw [Ev.ite_iff, if_pos (by simp;omega)]
   -- the copy
   have G := down cs.length (fun j => Ev (fun k => spec_l10Fill.l1 k (rowsC n cs) x m i ((rowsC n cs).take j) j n es) (outC n ((if cliqueB es n ((nxtC x cs i).getD i 0) then filC es n m F (nxtC x cs i) else none).or (((List.range (min m (cs.length + 1))).drop (i + 1)).findSome? fun i => if cliqueB es n ((nxtC x cs i).getD i 0) then filC es n m F (nxtC x cs i) else none)))) ?_ ?_ 0 (by omega)
   ·exact G
   ·show Ev _ _
    rw [List.take_of_length_le (by rw [hrl];exact Nat.le_refl _), Ev.iff_succ]
    simp only [spec_l10Fill.l1, hrl, Int.lt_irrefl, ↓reduceIte]
    have J : Ev (fun k => spec_l10Fill.j3 k (rowsC n cs) x m i (rowsC n (nxtC x cs i)) n es) (outC n ((if cliqueB es n ((nxtC x cs i).getD i 0) then filC es n m F (nxtC x cs i) else none).or (((List.range (min m (cs.length + 1))).drop (i + 1)).findSome? fun i => if cliqueB es n ((nxtC x cs i).getD i 0) then filC es n m F (nxtC x cs i) else none))) := by
     have hcv := nxtC_cov (i := i) h
     have hcn : Cov (n - F) (nxtC x cs i) := by rw [show n - F = x + 1 by omega];exact hcv
     have hlt : (nxtC x cs i).getD i 0 < 2 ^ n := by
      have hl := nxtC_len (x := x) hil
      rw [List.getD_eq_getElem?_getD, List.getElem?_eq_getElem hl]
      exact Nat.lt_of_lt_of_le (hcv.lt _ (List.getElem_mem hl)) (Nat.pow_le_pow_right (by decide) (by omega))
     have hbl := bl_len_le n ((nxtC x cs i).getD i 0)
     have hrec := l10Fill_ev hn hm he F (nxtC x cs i) (by omega) hcn
     rw [show n - F = x + 1 by omega] at hrec
     rw [Ev.iff_succ]
     simp only [spec_l10Fill.j3]
     have hl2 : (i : Int) < ((rowsC n (nxtC x cs i)).length : Int) := by rw [rowsC, List.length_map];have := nxtC_len (x := x) hil;omega
     rw [Ev.ite_iff, if_pos (by omega), Ev.ite_iff, if_pos hl2, rowsC_rd hil, Ev.bind_iff (l10Alike_ev n es _ true (by omega) he), alike_bl hlt, Ev.ite_iff]
     by_cases cc : cliqueB es n ((nxtC x cs i).getD i 0) = true
     ·rw [if_pos cc, if_pos cc, w64_succ x (by omega), Ev.bind_iff hrec]
      cases hf : filC es n m F (nxtC x cs i) with
      | some r => simp only [outC, Option.some_or, ↓reduceIte, Ev.now_iff]
      | none =>
       simp only [outC, Option.none_or, Bool.false_eq_true, ↓reduceIte]
       rw [w64_succ i (by omega)]
       exact ih
     ·rw [if_neg cc, if_neg cc, w64_succ i (by omega), Option.none_or]
      exact ih
    have e1 := rowsC_nxt hn hxn h hil
    rw [Ev.ite_iff]
    by_cases c : i = cs.length
    ·rw [if_pos (by omega), Ev.ite_iff, if_pos (by omega)]
     rw [if_pos c] at e1
     rw [← e1];exact J
    ·rw [if_neg (by omega), Ev.ite_iff, if_pos (by omega), Ev.ite_iff, if_pos (by omega)]
     have hbl : (rd_L2 (rowsC n cs) (i : Int)).length ≤ 8 := by
      rw [rdL2_lt _ i (by omega)]
      have := bl_len_le n (cs[i]'(by omega))
      simp only [rowsC, List.getElem_map];omega
     rw [Ev.ite_iff, if_pos (by omega)]
     rw [if_neg c] at e1
     rw [Int.toNat_natCast, ← e1];exact J
   ·intro j hj jh
    show Ev _ _
    rw [Ev.iff_succ]
    simp only [spec_l10Fill.l1, hrl]
    have hjl : j < (rowsC n cs).length := by omega
    have hrow : rd_L2 (rowsC n cs) (j : Int) = (rowsC n cs)[j] := rdL2_lt _ j hjl
    have hbl : ((rowsC n cs)[j]).length ≤ 8 := by
     have := bl_len_le n (cs[j])
     simp only [rowsC, List.getElem_map];omega
    rw [Ev.ite_iff, if_pos (by omega), Ev.ite_iff, if_pos (by omega), hrow, l1Own_eq (by omega)]
    simp only [Option.bind_some]
    rw [Ev.ite_iff, if_pos (by rw [List.length_take];omega), w64_succ j (by omega), List.take_append_getElem hjl]
    exact jh

theorem net_size (es : List S80) (n : Nat) : impl_net_size.f (nets es n) = some (n : Int) := by unfold impl_net_size.f; rw [nets_len]

theorem intsC_rd {cs : List Nat} {i : Nat} (hi : i < cs.length) : rd (cs.map fun (c : Nat) => (c : Int)) (i : Int) = (cs.getD i 0 : Nat) := by
 rw [rd_lt _ i (by rw [List.length_map];exact hi), List.getD_eq_getElem?_getD, List.getElem?_eq_getElem hi]
 simp

theorem coverBy_ev {es : List S80} {n m : Nat} (hn : n ≤ 8) (hm : m ≤ 8) : ∀ (F : Nat) (cs : List Nat), F ≤ n → Cov (n - F) cs →
  Ev (fun k => impl_net_coverBy.f k (nets es n) m ((n - F : Nat) : Int) (cs.map fun (c : Nat) => (c : Int))) (maskC (filC es n m F cs))
 | 0, cs, _, h => by
  rw [Ev.iff_succ]
  simp only [impl_net_coverBy.f, net_size, Option.bind_some, filC, maskC, Nat.sub_zero, ↓reduceIte, Ev.now_iff]
 | F + 1, cs, hF, h => by
  obtain ⟨x, hx⟩ : ∃ x, x = n - (F + 1) := ⟨_, rfl⟩
  have hxn : x < n := by omega
  rw [← hx] at h ⊢
  have hcl : cs.length ≤ 8 := Nat.le_trans h.len (by omega)
  have hil0 : (cs.map fun (c : Nat) => (c : Int)).length = cs.length := List.length_map _
  rw [Ev.iff_succ]
  simp only [impl_net_coverBy.f, net_size, Option.bind_some]
  rw [Ev.ite_iff, if_neg (by omega), hil0, w64_succ _ (by omega), show mn (m : Int) ((cs.length + 1 : Nat) : Int) = ((min m (cs.length + 1) : Nat) : Int) from by unfold mn;split <;> omega]
  unfold filC
  rw [← hx]
  have H := down (min m (cs.length + 1)) (fun i => Ev (fun k => impl_net_coverBy.l0 k m x (cs.map fun (c : Nat) => (c : Int)) ((min m (cs.length + 1) : Nat) : Int) i (nets es n)) (maskC (((List.range (min m (cs.length + 1))).drop i).findSome? fun i => if cliqueB es n ((nxtC x cs i).getD i 0) then filC es n m F (nxtC x cs i) else none))) ?_ ?_ 0 (by omega)
  ·exact H
  ·show Ev _ _
   rw [List.drop_eq_nil_of_le (by rw [List.length_range];exact Nat.le_refl _), Ev.iff_succ]
   simp only [impl_net_coverBy.l0, Int.lt_irrefl, ↓reduceIte, List.findSome?_nil, maskC, Ev.now_iff]
  ·intro i hi ih
   show Ev _ _
   have hil : i ≤ cs.length := by omega
   have hcv := nxtC_cov (i := i) h
   have hcn : Cov (n - F) (nxtC x cs i) := by rw [show n - F = x + 1 by omega];exact hcv
   have hl := nxtC_len (x := x) hil
   have hlt : (nxtC x cs i).getD i 0 < 2 ^ n := by
    rw [List.getD_eq_getElem?_getD, List.getElem?_eq_getElem hl]
    exact Nat.lt_of_lt_of_le (hcv.lt _ (List.getElem_mem hl)) (Nat.pow_le_pow_right (by decide) (by omega))
   have hrec := coverBy_ev (es := es) hn hm F (nxtC x cs i) (by omega) hcn
   rw [show n - F = x + 1 by omega] at hrec
   have J : ∀ (L : List Int), i < L.length → L.set i (Go.bits .or .i64 (rd L (i : Int)) ((2 ^ x : Nat) : Int)) = ((nxtC x cs i).map fun (c : Nat) => (c : Int)) →
     Ev (fun k => impl_net_coverBy.j1 k m x (cs.map fun (c : Nat) => (c : Int)) i L ((min m (cs.length + 1) : Nat) : Int) i (nets es n)) (maskC ((if cliqueB es n ((nxtC x cs i).getD i 0) then filC es n m F (nxtC x cs i) else none).or (((List.range (min m (cs.length + 1))).drop (i + 1)).findSome? fun i => if cliqueB es n ((nxtC x cs i).getD i 0) then filC es n m F (nxtC x cs i) else none))) := by
    intro L hL eL
    rw [Ev.iff_succ]
    simp only [impl_net_coverBy.j1, Option.bind_some]
    rw [Ev.ite_iff, if_pos (by omega), Ev.ite_iff, if_pos (by omega), Ev.ite_iff, if_pos (by omega), shl_one (by omega), Int.toNat_natCast, eL, intsC_rd hl, Ev.bind_iff (isClique_ev hn hlt), Ev.ite_iff]
    by_cases cc : cliqueB es n ((nxtC x cs i).getD i 0) = true
    ·rw [if_pos cc, if_pos cc, w64_succ x (by omega), Ev.bind_iff hrec]
     cases hf : filC es n m F (nxtC x cs i) with
     | some r => simp only [maskC, Option.some_or, ↓reduceIte, Ev.now_iff]
     | none =>
      simp only [maskC, Option.none_or, Bool.false_eq_true, ↓reduceIte]
      rw [w64_succ i (by omega)]
      exact ih
    ·rw [if_neg cc, if_neg cc, w64_succ i (by omega), Option.none_or]
     exact ih
   rw [findSome_drop hi, Ev.iff_succ]
   simp only [impl_net_coverBy.l0]
   rw [Ev.ite_iff, if_pos (by omega), cloneI_eq (by omega)]
   simp only [Option.bind_some, hil0]
   rw [Ev.ite_iff]
   have hpx : 2 ^ x < 2 ^ 62 := Nat.pow_lt_pow_right (by decide) (by omega)
   by_cases c : i = cs.length
   ·rw [if_pos (by omega), Ev.ite_iff, if_pos (by omega)]
    refine J _ (by rw [List.length_append, hil0, List.length_singleton];omega) ?_
    rw [show (i : Int) = (((cs.map fun (c : Nat) => (c : Int)).length : Nat) : Int) by rw [hil0, c]]
    have e0 : rd ((cs.map fun (c : Nat) => (c : Int)) ++ [0]) (((cs.map fun (c : Nat) => (c : Int)).length : Nat) : Int) = ((0 : Nat) : Int) := by
     rw [rd_lt _ _ (by rw [List.length_append, List.length_singleton];omega)];simp
    rw [e0, gor 0 _ (by decide) hpx, Nat.zero_or]
    unfold nxtC
    rw [if_pos c, List.map_append, c, ← hil0, List.set_append_right _ _ (Nat.le_refl _)]
    simp
   ·rw [if_neg (by omega)]
    refine J _ (by omega) ?_
    have hi' : i < cs.length := by omega
    have hci : cs.getD i 0 < 2 ^ 62 := by
     rw [List.getD_eq_getElem?_getD, List.getElem?_eq_getElem hi']
     exact Nat.lt_of_lt_of_le (h.lt _ (List.getElem_mem hi')) (Nat.pow_le_pow_right (by decide) (by omega))
    rw [intsC_rd hi', gor _ _ hci hpx]
    unfold nxtC
    rw [if_neg c, List.map_set]

/-- A cover by singletons is always found. -/
theorem cliqueB_pow {es : List S80} {n x : Nat} (hx : x < n) : cliqueB es n (2 ^ x) = true := by
 rw [cliqueB_iff (Nat.pow_lt_pow_right (by decide) hx)]
 intro a b _ _ ha hb hne
 rw [Nat.testBit_two_pow] at ha hb
 simp only [decide_eq_true_eq] at ha hb
 omega

theorem filC_some {es : List S80} {n m : Nat} : ∀ (F : Nat) (cs : List Nat), F ≤ n → cs.length + F ≤ m → (filC es n m F cs).isSome = true
 | 0, cs, _, _ => rfl
 | F + 1, cs, hF, h => by
  unfold filC
  rw [List.findSome?_isSome_iff]
  refine ⟨cs.length, List.mem_range.2 (by omega), ?_⟩
  have e : nxtC (n - (F + 1)) cs cs.length = cs ++ [2 ^ (n - (F + 1))] := by unfold nxtC;rw [if_pos rfl]
  have e2 : (cs ++ [2 ^ (n - (F + 1))]).getD cs.length 0 = 2 ^ (n - (F + 1)) := by rw [List.getD_eq_getElem?_getD];simp
  rw [e, e2, if_pos (cliqueB_pow (by omega))]
  exact filC_some F _ (by omega) (by rw [List.length_append, List.length_singleton];omega)

theorem filC_len {es : List S80} {n m : Nat} : ∀ (F : Nat) (cs r : List Nat), filC es n m F cs = some r → r.length ≤ cs.length + F
 | 0, cs, r, h => by
  unfold filC at h;injection h with h;rw [h];omega
 | F + 1, cs, r, h => by
  unfold filC at h
  obtain ⟨i, _, h2⟩ := List.exists_of_findSome?_eq_some h
  split at h2
  ·have h3 := filC_len F _ r h2
   have h4 : (nxtC (n - (F + 1)) cs i).length ≤ cs.length + 1 := by
    unfold nxtC;split
    ·rw [List.length_append, List.length_singleton];omega
    ·rw [List.length_set];omega
   omega
  ·cases h2

theorem filC_lt {es : List S80} {n m : Nat} : ∀ (F : Nat) (cs r : List Nat), F ≤ n → Cov (n - F) cs → filC es n m F cs = some r → ∀ c ∈ r, c < 2 ^ n
 | 0, cs, r, _, h, hr => by
  unfold filC at hr;injection hr with hr;subst hr;exact h.lt
 | F + 1, cs, r, hF, h, hr => by
  unfold filC at hr
  obtain ⟨i, _, h2⟩ := List.exists_of_findSome?_eq_some hr
  split at h2
  ·refine filC_lt F _ r (by omega) ?_ h2
   have := nxtC_cov (i := i) h
   rwa [show n - (F + 1) + 1 = n - F by omega] at this
  ·cases h2

def coverC (es : List S80) (n : Nat) : Option (List Nat) := (List.range (n + 1)).findSome? fun m => filC es n m n []

def leastCliqueCoverR (n : Int) (es : List S80) : List (List Int) × Bool := if okG n es = true then (rowsC n.toNat ((coverC es n.toNat).getD []), true) else ([], false)

theorem coverC_len {es : List S80} {n : Nat} : ((coverC es n).getD []).length ≤ n := by
 unfold coverC
 cases h : (List.range (n + 1)).findSome? fun m => filC es n m n [] with
 | none => simp
 | some r =>
  obtain ⟨m, _, h2⟩ := List.exists_of_findSome?_eq_some h
  have := filC_len n [] r h2
  simpa using this

theorem leastCliqueCoverR_len (n : Int) (es : List S80) : (leastCliqueCoverR n es).1.length ≤ 1048576 ∧ (∀ r ∈ (leastCliqueCoverR n es).1, r.length ≤ 1048576) ∧ ((leastCliqueCoverR n es).1.map List.length).sum ≤ 1099511627776 := by
 unfold leastCliqueCoverR
 split
 ·rename_i h
  obtain ⟨N, rfl, hN⟩ := okG_use h
  simp only [Int.toNat_natCast]
  have h1 := coverC_len (es := es) (n := N)
  have h0 : (rowsC N ((coverC es N).getD [])).length = ((coverC es N).getD []).length := by rw [rowsC, List.length_map]
  have h2 : ∀ r ∈ rowsC N ((coverC es N).getD []), r.length ≤ 8 := fun r hr => by
   obtain ⟨c, _, rfl⟩ := List.mem_map.1 hr
   have := bl_len_le N c;omega
  have h4 := sum_le_mul _ 8 h2
  exact ⟨by omega, fun r hr => by have := h2 r hr;omega, by omega⟩
 ·simp

theorem cov_nil (x : Nat) : Cov x [] := ⟨Nat.zero_le _, fun c hc => by simp at hc⟩

theorem coverC_drop {es : List S80} {n m : Nat} (h : m < n + 1) : (((List.range (n + 1)).drop m).findSome? fun m => filC es n m n []) = (filC es n m n []).or (((List.range (n + 1)).drop (m + 1)).findSome? fun m => filC es n m n []) := findSome_drop h _

theorem specLeastCliqueCover_ev (n : Int) (es : List S80) (he : es.length ≤ 9223372036854775807) : Ev (fun k => spec_LeastCliqueCover.f k n es) (leastCliqueCoverR n es) := by
 unfold spec_LeastCliqueCover.f leastCliqueCoverR
 rw [l2Good_eq]
 simp only [Option.bind_some, Ev.ite_iff]
 by_cases h : okG n es = true
 ·obtain ⟨N, rfl, hN⟩ := okG_use h
  rw [if_pos h, if_pos h]
  have H := down N (fun m => Ev (fun k => spec_l10Cliques.l0 k m N es) (rowsC N ((((List.range (N + 1)).drop m).findSome? fun m => filC es N m N []).getD []))) ?_ ?_ 0 (by omega)
  ·have H' : Ev (fun k => spec_l10Cliques.f k N es) (rowsC N ((coverC es N).getD [])) := by simpa [spec_l10Cliques.f, coverC] using H
   rw [Ev.bind_iff H', Ev.now_iff]
   simp only [Int.toNat_natCast]
  ·show Ev _ _
   have hF := l10Fill_ev (es := es) (n := N) (m := N) hN hN he N [] (Nat.le_refl _) (cov_nil _)
   have hs := filC_some (es := es) (n := N) (m := N) N [] (Nat.le_refl _) (by simp)
   rw [Nat.sub_self] at hF
   replace hF : Ev (fun k => spec_l10Fill.f k N es [] 0 N) (outC N (filC es N N N [])) := hF
   rw [coverC_drop (Nat.lt_succ_self N), Ev.iff_succ]
   simp only [spec_l10Cliques.l0]
   rw [Ev.bind_iff hF]
   cases hc : filC es N N N [] with
   | none => rw [hc] at hs;cases hs
   | some r => simp only [outC, Option.some_or, Option.getD_some, ↓reduceIte, Ev.now_iff]
  ·intro m hm ih
   show Ev _ _
   have hF := l10Fill_ev (es := es) (n := N) (m := m) hN (by omega) he N [] (Nat.le_refl _) (cov_nil _)
   rw [Nat.sub_self] at hF
   replace hF : Ev (fun k => spec_l10Fill.f k N es [] 0 m) (outC N (filC es N m N [])) := hF
   rw [coverC_drop (by omega), Ev.iff_succ]
   simp only [spec_l10Cliques.l0]
   rw [Ev.bind_iff hF]
   cases hc : filC es N m N [] with
   | none =>
    simp only [outC, Option.none_or, Bool.false_eq_true, ↓reduceIte]
    rw [w64_succ m (by omega)]
    exact ih
   | some r => simp only [outC, Option.some_or, Option.getD_some, ↓reduceIte, Ev.now_iff]
 ·rw [if_neg h, if_neg h, Ev.now_iff]

end Go.Proofs.Ytaddgielnfhhpaa.QLeastCliqueCover
