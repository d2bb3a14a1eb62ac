import Derived.Test.YthbjajppdomhhaaDoorQGuardAnswers0
import Derived.Test.YthbjajppdomhhaaDoorQGuardAnswers10
import Derived.Test.YthbjajppdomhhaaDoorQGuardAnswers13
import Derived.Test.YthbjajppdomhhaaDoorQGuardAnswers15
import Derived.Test.YthbjajppdomhhaaDoorQGuardAnswers16
import Derived.Test.YthbjajppdomhhaaDoorQGuardAnswers17
import Derived.Test.YthbjajppdomhhaaDoorQGuardAnswers18
import Derived.Test.YthbjajppdomhhaaDoorQGuardAnswers5
import Derived.Test.YthbjajppdomhhaaDoorQGuardAnswers8
import Derived.Test.YthbjajppdomhhaaDoorQGuardAnswers9
import Derived.Test.YthbjajppdomhhaaDoorQGuardAnswersA3
namespace Go.Proofs.YthbjajppdomhhaaDoor.QGuardAnswers
open Go.RowKit Go.Proofs.YthbjajppdomhhaaDoorW.PrintWords Go.Proofs.YthbjajppdomhhaaDoorW.PrintLast Go.Proofs.YthbjajppdomhhaaDoorW.PrintMore
attribute [local go_sem] max2_int min2_int max_two min_two max_three min_three max_four min_four   -- for this text's walks alone
set_option linter.unusedVariables false
set_option linter.unusedSimpArgs false
theorem cho_sublist : ∀ (l : List Int) (k : Nat), ∀ t ∈ cho l k, List.Sublist t l
 | l, 0 => by rw [cho_zero];intro t ht;rw [List.mem_singleton.1 ht];exact List.nil_sublist _
 | [], k + 1 => by simp [cho]
 | x :: s, k + 1 => by
  intro t ht
  rw [cho_cons, List.mem_append, List.mem_map] at ht
  rcases ht with ⟨u, hu, rfl⟩ | ht
  ·exact (cho_sublist s k u hu).cons_cons x
  ·exact (cho_sublist s (k + 1) t ht).cons x

theorem sub_bl {n : Nat} {t : List Int} (h : List.Sublist t (bl n (2 ^ n - 1))) : mL t < 2 ^ n ∧ t = bl n (mL t) := by
 have h1 : ∀ x ∈ t, 0 ≤ x ∧ x < n := fun x hx => by
  obtain ⟨i, hi, _, rfl⟩ := mem_bl.1 (h.subset hx)
  omega
 have h2 : allIn 0 ((n : Int) - 1) t = true := by
  unfold allIn
  rw [List.all_eq_true]
  intro x hx
  have := h1 x hx
  simp only [decide_eq_true_eq]
  omega
 exact ⟨mL_lt h1, bl_of_asc h2 (asc_of_pairwise (p := none) ((bl_pairwise n _).sublist h) (fun q hq => by cases hq))⟩

def gsL (n k : Nat) : List (List Int) := cho (bl n (2 ^ n - 1)) k

theorem gsL_gm {es : List S92} {n : Nat} (hn : n ≤ 8) (k : Nat) : Gm es n (gsL n k) := by
 have hb := bl_len_le n (2 ^ n - 1)
 have hm : ∀ i, i < (gsL n k).length → grd (gsL n k) i ∈ gsL n k := fun i hi => by rw [grd_lt hi];exact List.getElem_mem hi
 refine ⟨hn, ?_, fun i hi => ⟨_, sub_bl (cho_sublist _ _ _ (hm i hi))⟩, fun i j hi hj => ?_⟩
 ·have h1 := cho_len (bl n (2 ^ n - 1)) k
  have h2 := p8 (show (bl n (2 ^ n - 1)).length ≤ 8 by omega)
  unfold gsL
  omega
 ·rw [cho_mem_len _ _ _ (hm i hi), cho_mem_len _ _ _ (hm j hj)]

theorem gm_spec {es : List S92} {n : Nat} {L : List (List Int)} (G : Gm es n L) (he : es.length ≤ 9223372036854775807) (all : Bool) {i j : Nat} (hi : i < L.length) (hj : j < L.length) : Ev (fun k => spec_l10Moves.f k n es (grd L i) (grd L j) all) (mvG es n all L i j) := by
 obtain ⟨f, hf, e1⟩ := G.row i hi
 obtain ⟨t, ht, e2⟩ := G.row j hj
 have hs := G.same i j hi hj
 unfold mvG
 rw [e1, e2] at hs ⊢
 rw [mL_bl hf, mL_bl ht]
 exact l10Moves_ev he G.hn ht all hs

theorem gm_impl {es : List S92} {n : Nat} {L : List (List Int)} (G : Gm es n L) (all : Bool) {i j : Nat} (hi : i < L.length) (hj : j < L.length) : Ev (fun k => impl_net_canMoveGuards.f k (nets es n) ((mL (grd L i) : Nat) : Int) ((mL (grd L j) : Nat) : Int) all) (mvG es n all L i j) := by
 obtain ⟨f, hf, e1⟩ := G.row i hi
 obtain ⟨t, ht, e2⟩ := G.row j hj
 have hs := G.same i j hi hj
 unfold mvG
 rw [e1, e2] at hs ⊢
 rw [mL_bl hf, mL_bl ht]
 exact canMoveGuards_ev G.hn hf ht all hs

theorem l10Answers_ev {es : List S92} {n : Nat} {L : List (List Int)} (G : Gm es n L) (he : es.length ≤ 9223372036854775807) (all : Bool) {i : Nat} (hi : i < L.length) (x : Int) : Ev (fun k => spec_l10Answers.f k n es L i x all) (nI (ansG es n all L i x)) := by
 unfold spec_l10Answers.f
 have hm := G.len
 have H := down L.length (fun j => Ev (fun k => spec_l10Answers.l0 k L i x all (nI ((List.range j).filter fun j => hasG L j x && mvG es n all L i j)) j n es) (nI (ansG es n all L i x))) ?_ ?_ 0 (by omega)
 ·exact H
 ·show Ev _ _
  rw [Ev.iff_succ]
  simp only [spec_l10Answers.l0, Int.lt_irrefl, ↓reduceIte, Ev.now_iff]
  rfl
 ·intro j hj ih
  show Ev _ _
  rw [Ev.iff_succ]
  have h1 : (j : Int) < (L.length : Int) := by omega
  have h2 : (0 : Int) ≤ (j : Int) := by omega
  have h3 : (i : Int) < (L.length : Int) := by omega
  have h4 : (0 : Int) ≤ (i : Int) := by omega
  have h5 : (nI ((List.range j).filter fun j => hasG L j x && mvG es n all L i j)).length < 17592186044416 := by
   have := nI_filter_len j (fun j => hasG L j x && mvG es n all L i j);omega
  have hs := gm_short G hj
  rw [filter_range_succ, nI_app] at ih
  simp only [spec_l10Answers.l0, Ev.ite_iff, h1, h2, h3, h4, h5, ↓reduceIte, rdL2_nat, w64_succ j (show j < 9223372036854775807 by omega)]
  rw [Ev.bind_iff (l1Has_ev (grd L j) x (by omega)), Ev.ite_iff]
  by_cases c : x ∈ grd L j
  ·rw [if_pos (by simpa using c), Ev.bind_iff (gm_spec G he all hi hj), Ev.ite_iff]
   have hc : hasG L j x = true := decide_eq_true c
   rw [hc, Bool.true_and] at ih
   cases hv : mvG es n all L i j with
   | true => rw [if_pos rfl];rw [hv, if_pos rfl] at ih;exact ih
   | false => rw [if_neg (by decide)];rw [hv, if_neg (by decide), show nI ([] : List Nat) = [] from rfl, List.append_nil] at ih;exact ih
  ·rw [if_neg (by simpa using c)]
   have hc : hasG L j x = false := decide_eq_false c
   rw [hc, Bool.false_and, if_neg (by decide), show nI ([] : List Nat) = [] from rfl, List.append_nil] at ih
   exact ih

theorem ansG_in {es : List S92} {n : Nat} {all : Bool} {L : List (List Int)} {i : Nat} {x : Int} : ∀ j ∈ ansG es n all L i x, j < L.length := fun j hj => List.mem_range.1 (List.mem_filter.1 hj).1

theorem ansG_len {es : List S92} {n : Nat} {all : Bool} {L : List (List Int)} {i : Nat} {x : Int} : (ansG es n all L i x).length ≤ L.length := by
 have := List.length_filter_le (fun j => hasG L j x && mvG es n all L i j) (List.range L.length)
 rw [List.length_range] at this
 exact this

def gamG (es : List S92) (n : Nat) (all : Bool) (L : List (List Int)) (q : Nat) : List (List Int) := (List.range q).map fun i => nI (mvsG es n all L i)

theorem gamG_len (es : List S92) (n : Nat) (all : Bool) (L : List (List Int)) (q : Nat) : (gamG es n all L q).length = q := by simp [gamG]

theorem gamG_rd {es : List S92} {n : Nat} {all : Bool} {L : List (List Int)} {q i : Nat} (h : i < q) : rd_L2 (gamG es n all L q) (i : Int) = nI (mvsG es n all L i) := by simp [rd_L2, gamG, h]

theorem implGuardSets2_ev {n k : Nat} (hn : n ≤ 8) (hk : k ≤ n) : Ev (fun f => impl_guardSets.f f n k) (gsL n k) := by
 have hbl := bl_len_le n (2 ^ n - 1)
 unfold impl_guardSets.f gsL
 rw [Ev.ite_iff, if_pos (by omega), mask_all n hn, Ev.bind_iff (setOf_ev n _ hn (by have := Nat.two_pow_pos n;omega)), Ev.bind_iff (subsetsOf_ev 8 _ k (by omega) (by omega) (by omega)), Ev.now_iff]

theorem specGuardSets2_ev {es : List S92} {n k : Nat} (hn : n ≤ 8) (hk : k ≤ n) : Ev (fun f => spec_l10Sets.f f n es k) (gsL n k) := by
 have hf := (bl_len_full n hn (2 ^ n - 1) (by have := Nat.two_pow_pos n;omega)).2 rfl
 unfold spec_l10Sets.f gsL
 rw [Ev.bind_iff (l2All_ev (es := es) hn), Ev.bind_iff (l8Choices_ev n _ k (by omega) hn (by omega)), Ev.now_iff]

theorem gm_mask {es : List S92} {n : Nat} {L : List (List Int)} (G : Gm es n L) {i : Nat} (hi : i < L.length) : Ev (fun k => impl_maskOf.f k (grd L i)) ((mL (grd L i) : Nat) : Int) := by
 obtain ⟨f, hf, e1⟩ := G.row i hi
 have hs := gm_short G hi
 have hn := G.hn
 refine maskOf_ev (grd L i) (by omega) (fun x hx => ?_)
 rw [e1] at hx
 obtain ⟨j, hj, _, rfl⟩ := mem_bl.1 hx
 omega

theorem guardGame_ev {es : List S92} {n k : Nat} (hn : n ≤ 8) (hk : k ≤ n) (all : Bool) : Ev (fun f => impl_net_guardGame.f f (nets es n) k all) ((n : Int), gsL n k, gamG es n all (gsL n k) (gsL n k).length) := by
 have G := gsL_gm (es := es) hn k
 have hs : impl_net_size.f (nets es n) = some (n : Int) := by unfold impl_net_size.f;rw [nets_len]
 unfold impl_net_guardGame.f
 simp only [hs, Option.bind_some]
 rw [Ev.bind_iff (implGuardSets2_ev hn hk)]
 generalize gsL n k = L at G ⊢
 have hm := G.len
 have H := down L.length (fun i => Ev (fun f => impl_net_guardGame.l0 f all L (L.length : Int) i (nets es n) n L (gamG es n all L i)) ((n : Int), L, gamG es n all L L.length)) ?_ ?_ 0 (by omega)
 ·exact H
 ·show Ev _ _
  rw [Ev.iff_succ]
  simp only [impl_net_guardGame.l0, Int.lt_irrefl, ↓reduceIte, Ev.now_iff]
 ·intro i hi ih
  show Ev _ _
  rw [Ev.iff_succ]
  have h1 : (i : Int) < (L.length : Int) := by omega
  have h2 : (0 : Int) ≤ (i : Int) := by omega
  simp only [impl_net_guardGame.l0, Ev.ite_iff, h1, h2, ↓reduceIte, rdL2_nat]
  have H2 := down L.length (fun j => Ev (fun f => impl_net_guardGame.l1 f all (grd L i) (nI ((List.range j).filter fun j => mvG es n all L i j)) L (L.length : Int) i L (L.length : Int) j (nets es n) n L (gamG es n all L i)) ((n : Int), L, gamG es n all L L.length)) ?_ ?_ 0 (by omega)
  ·exact H2
  ·show Ev _ _
   rw [Ev.iff_succ]
   have h3 : (gamG es n all L i).length < 5864062014805 := by rw [gamG_len];omega
   have h4 : gamG es n all L i ++ [nI ((List.range L.length).filter fun j => mvG es n all L i j)] = gamG es n all L (i + 1) := by simp [gamG, List.range_succ, mvsG]
   simp only [impl_net_guardGame.l1, Int.lt_irrefl, ↓reduceIte, h3, h4, w64_succ i (show i < 9223372036854775807 by omega)]
   exact ih
  ·intro j hj ih2
   show Ev _ _
   rw [Ev.iff_succ]
   have h3 : (j : Int) < (L.length : Int) := by omega
   have h4 : (0 : Int) ≤ (j : Int) := by omega
   have h5 : (nI ((List.range j).filter fun j => mvG es n all L i j)).length < 17592186044416 := by
    have := nI_filter_len j (fun j => mvG es n all L i j);omega
   rw [filter_range_succ, nI_app] at ih2
   simp only [impl_net_guardGame.l1, Ev.ite_iff, h3, h4, ↓reduceIte, rdL2_nat, w64_succ j (show j < 9223372036854775807 by omega)]
   rw [Ev.bind_iff (gm_mask G hi), Ev.bind_iff (gm_mask G hj), Ev.bind_iff (gm_impl G all hi hj)]
   simp only [Ev.ite_iff, h5, ↓reduceIte]
   cases hv : mvG es n all L i j with
   | true => rw [if_pos rfl];rw [hv, if_pos rfl] at ih2;exact ih2
   | false => rw [if_neg (by decide)];rw [hv, if_neg (by decide), show nI ([] : List Nat) = [] from rfl, List.append_nil] at ih2;exact ih2

theorem slicesContains_ev (l : List Int) (x : Int) (hl : l.length ≤ 9223372036854775807) : Ev (fun k => slices_Contains_int_int.f k l x) (decide (x ∈ l)) := by
 unfold slices_Contains_int_int.f slices_Index_int_int.f
 have H := down l.length (fun i => ∃ j : Int, Ev (fun k => slices_Index_int_int.l0 k l x (l.length : Int) i) j ∧ (j ≥ 0 ↔ x ∈ l.drop i)) ?_ ?_ 0 (by omega)
 ·obtain ⟨j, h1, h2⟩ := H
  rw [Ev.bind_iff (show Ev (fun k => slices_Index_int_int.l0 k l x (l.length : Int) 0) j from h1), Ev.now_iff, decide_eq_decide, h2, List.drop_zero]
 ·refine ⟨-1, ?_, by simp⟩
  rw [Ev.iff_succ]
  simp only [slices_Index_int_int.l0, Int.lt_irrefl, ↓reduceIte, Ev.now_iff]
 ·intro i hi ih
  obtain ⟨j, h1, h2⟩ := ih
  have g1 : (i : Int) < (l.length : Int) := by omega
  have g2 : (0 : Int) ≤ (i : Int) := by omega
  by_cases c : x = l[i]
  ·refine ⟨i, ?_, ⟨fun _ => by rw [c, List.drop_eq_getElem_cons hi];exact List.mem_cons_self, fun _ => by omega⟩⟩
   rw [Ev.iff_succ]
   simp only [slices_Index_int_int.l0, Ev.ite_iff, g1, g2, ↓reduceIte, rd_lt l i hi]
   rw [if_pos c, Ev.now_iff]
  ·refine ⟨j, ?_, by rw [h2, List.drop_eq_getElem_cons hi, List.mem_cons];simp [c]⟩
   rw [Ev.iff_succ]
   simp only [slices_Index_int_int.l0, Ev.ite_iff, g1, g2, ↓reduceIte, rd_lt l i hi, w64_succ i (show i < 9223372036854775807 by omega)]
   rw [if_neg c]
   exact h1

theorem answers_eq {es : List S92} {n : Nat} {L : List (List Int)} (G : Gm es n L) (all : Bool) {i : Nat} (hi : i < L.length) (x q : Int) : impl_guardGame_answers.f q L (gamG es n all L L.length) i x = some (nI (ansG es n all L i x), q) := by
 have hm := G.len
 unfold impl_guardGame_answers.f
 have h1 : (mvsG es n all L i).length ≤ L.length := by
  have := List.length_filter_le (fun j => mvG es n all L i j) (List.range L.length)
  rw [List.length_range] at this;exact this
 have h2 : slices_Clone_int_int.f (nI (mvsG es n all L i)) = some (nI (mvsG es n all L i)) := by
  unfold slices_Clone_int_int.f
  simp only [Option.bind_some, List.length_nil, List.nil_append, nI_len]
  rw [if_pos (by omega)]
 rw [if_pos (by omega), if_pos (by rw [gamG_len];omega), gamG_rd hi, h2]
 simp only [Option.bind_some]
 unfold delF
 rw [if_pos]
 ·simp only [Option.bind_some]
  congr 2
  unfold ansG mvsG nI
  rw [List.filter_map, List.filter_filter]
  congr 1
  refine List.filter_congr fun j _ => ?_
  simp only [Function.comp_apply, rdL2_nat, hasG, List.contains_eq_mem]
  rfl
 ·intro y hy
  unfold nI at hy
  obtain ⟨j, hj, rfl⟩ := List.mem_map.1 hy
  have := List.mem_range.1 (List.mem_filter.1 hj).1
  omega

theorem cloneI_eq {l : List Int} (h : l.length < 17592186044416) : slices_Clone_int_int.f l = some l := by
 unfold slices_Clone_int_int.f
 simp only [Option.bind_some, List.length_nil, List.nil_append, Nat.zero_add, h, ↓reduceIte]

theorem cho_sorted : ∀ (l : List Int) (k : Nat), l.Pairwise (· < ·) → (cho l k).Pairwise (fun a b => lexLt a b = true)
 | l, 0, _ => by rw [cho_zero];exact List.pairwise_singleton _ _
 | [], k + 1, _ => by simp [cho]
 | x :: s, k + 1, h => by
  rw [cho_cons, List.pairwise_append]
  have hs := (List.pairwise_cons.1 h)
  refine ⟨?_, cho_sorted s (k + 1) hs.2, ?_⟩
  ·rw [List.pairwise_map]
   exact (cho_sorted s k hs.2).imp (fun {a b} hab => by rw [lexLt_cons, if_pos rfl];exact hab)
  ·intro a ha b hb
   obtain ⟨t, _, rfl⟩ := List.mem_map.1 ha
   have hl := cho_mem_len s (k + 1) b hb
   match b, hl, hb with
   | y :: u, _, hb =>
    have hy := cho_mem_in s (k + 1) _ hb y (by simp)
    have := hs.1 y hy
    rw [lexLt_cons, if_neg (by omega)]
    exact decide_eq_true this

theorem cho_of_sublist {t l : List Int} (h : List.Sublist t l) : t ∈ cho l t.length := by
 induction h with
 | slnil => simp [cho_zero]
 | @cons t s x _ ih =>
  match t, ih with
  | [], _ => simp [cho_zero]
  | a :: u, ih => rw [List.length_cons, cho_cons, List.mem_append];exact .inr ih
 | @cons_cons t s x _ ih => rw [List.length_cons, cho_cons, List.mem_append];exact .inl (List.mem_map.2 ⟨_, ih, rfl⟩)

theorem bl_sublist {n m : Nat} : List.Sublist (bl n m) (bl n (2 ^ n - 1)) := by
 unfold bl
 refine List.Sublist.map _ ?_
 have : (List.range n).filter (fun x => (2 ^ n - 1).testBit x) = List.range n := List.filter_eq_self.2 (fun x hx => by rw [Nat.testBit_two_pow_sub_one];simpa using hx)
 rw [this]
 exact List.filter_sublist

def plcG (n : Nat) (l : List Int) : Nat := (gsL n l.length).idxOf l

theorem plcG_use {n m : Nat} {l : List Int} (h : l = bl n m) : plcG n l < (gsL n l.length).length ∧ grd (gsL n l.length) (plcG n l) = l := by
 have hm : l ∈ gsL n l.length := cho_of_sublist (by rw [h];exact bl_sublist)
 have h1 : plcG n l < (gsL n l.length).length := List.idxOf_lt_length_of_mem hm
 refine ⟨h1, ?_⟩
 rw [grd_lt h1]
 exact List.getElem_idxOf h1

theorem gsL_lt {n k i j : Nat} (hj : j < (gsL n k).length) (h : i < j) : lexLt (grd (gsL n k) i) (grd (gsL n k) j) = true := by
 rw [grd_lt (by omega), grd_lt hj]
 exact List.pairwise_iff_getElem.1 (cho_sorted _ k (bl_pairwise n _)) i j (Nat.lt_trans h hj) hj h

theorem gsL_cmp {n k i j : Nat} (hi : i < (gsL n k).length) (hj : j < (gsL n k).length) : (cmpG (grd (gsL n k) i) (grd (gsL n k) j) < 0 ↔ i < j) := by
 have hm : ∀ q, q < (gsL n k).length → (grd (gsL n k) q).length = k := fun q hq => cho_mem_len _ _ _ (by rw [grd_lt hq];exact List.getElem_mem hq)
 rw [cmpG_eq _ _ (by rw [hm i hi, hm j hj]), cmpL_lt]
 constructor
 ·intro h
  rcases Nat.lt_trichotomy i j with g | g | g
  ·exact g
  ·rw [g, lexLt_irr] at h;cases h
  ·have := lexLt_trans h (gsL_lt hi g)
   rw [lexLt_irr] at this;cases this
 ·exact gsL_lt hj

theorem cmpG_self : ∀ l : List Int, cmpG l l = 0
 | [] => rfl
 | a :: s => by rw [cmpG, if_pos rfl];exact cmpG_self s

theorem mid_eq {lo hi : Nat} (h1 : lo ≤ 256) (h2 : hi ≤ 256) : wrap64 ((IntKind.u64.wrap (wrap64 ((lo : Int) + (hi : Int)))) / 2) = (((lo + hi) / 2 : Nat) : Int) := by
 rw [show wrap64 ((lo : Int) + (hi : Int)) = ((lo + hi : Nat) : Int) by rw [w64] <;> omega, u64_wrap_id (lo + hi) (by omega)]
 rw [w64] <;> omega

theorem search_l0 {n K i : Nat} (hn : n ≤ 8) (hi : i < (gsL n K).length) : ∀ (d lo hi' : Nat), hi' - lo ≤ d → lo ≤ i → i ≤ hi' → hi' ≤ (gsL n K).length → Ev (fun k => slices_BinarySearchFunc_int_int_int.l0 k (gsL n K) (grd (gsL n K) i) ((gsL n K).length : Int) lo hi') ((i : Int), true) := by
 have G := gsL_gm (es := []) hn K
 have hm := G.len
 intro d
 induction d with
 | zero =>
  intro lo hi' h1 h2 h3 h4
  have : lo = i := by omega
  have : hi' = i := by omega
  subst lo hi'
  have g1 : (i : Int) < ((gsL n K).length : Int) := by omega
  have g2 : (0 : Int) ≤ (i : Int) := by omega
  rw [Ev.iff_succ]
  simp only [slices_BinarySearchFunc_int_int_int.l0, Int.lt_irrefl, ↓reduceIte, g1, g2, rdL2_nat]
  have hs := gm_short G hi
  rw [Ev.bind_iff (sliceCompareG_ev _ _ (by omega)), Ev.now_iff, cmpG_self]
  rfl
 | succ d ih =>
  intro lo hi' h1 h2 h3 h4
  by_cases c : lo < hi'
  ·have g1 : (lo : Int) < (hi' : Int) := by omega
   have hmid : (lo + hi') / 2 < (gsL n K).length := by omega
   have g2 : (0 : Int) ≤ (((lo + hi') / 2 : Nat) : Int) := by omega
   have g3 : (((lo + hi') / 2 : Nat) : Int) < ((gsL n K).length : Int) := by omega
   rw [Ev.iff_succ]
   simp only [slices_BinarySearchFunc_int_int_int.l0, g1, ↓reduceIte, mid_eq (show lo ≤ 256 by omega) (show hi' ≤ 256 by omega), g2, g3, rdL2_nat, w64_succ ((lo + hi') / 2) (show (lo + hi') / 2 < 9223372036854775807 by omega)]
   have hs := gm_short G hmid
   rw [Ev.bind_iff (sliceCompareG_ev _ _ (by omega)), Ev.ite_iff]
   have hc := gsL_cmp hmid hi
   have m1 : lo ≤ (lo + hi') / 2 := by omega
   have m2 : (lo + hi') / 2 < hi' := by omega
   generalize (lo + hi') / 2 = md at hc hmid g2 g3 hs m1 m2 ⊢
   by_cases cc : cmpG (grd (gsL n K) md) (grd (gsL n K) i) < 0
   ·rw [if_pos cc]
    exact ih (md + 1) hi' (by omega) (by have := hc.1 cc;omega) h3 h4
   ·rw [if_neg cc]
    exact ih lo md (by omega) h2 (by have : ¬ md < i := fun h => cc (hc.2 h);omega) (by omega)
  ·exact ih lo hi' (by omega) h2 h3 h4

theorem valPlace_ev {n m : Nat} {l : List Int} (hn : n ≤ 8) (h : l = bl n m) (q : Int) (mm : List (List Int)) : Ev (fun k => impl_valPlace.f k q (gsL n l.length) mm l) ((plcG n l : Nat) : Int) := by
 obtain ⟨h1, h2⟩ := plcG_use h
 have H := search_l0 hn h1 (gsL n l.length).length 0 (gsL n l.length).length (by omega) (by omega) (by omega) (Nat.le_refl _)
 rw [h2] at H
 unfold impl_valPlace.f slices_BinarySearchFunc_int_int_int.f
 rw [Ev.bind_iff (show Ev (fun k => slices_BinarySearchFunc_int_int_int.l0 k (gsL n l.length) l ((gsL n l.length).length : Int) 0 ((gsL n l.length).length : Int)) _ from H), Ev.now_iff]

theorem l1Same_ev (a b : List Int) (ha : a.length ≤ 9223372036854775807) : Ev (fun k => spec_l1Same.f k a b) (decide (a = b)) := by
 unfold spec_l1Same.f
 rw [Ev.ite_iff]
 by_cases h : a.length = b.length
 ·rw [if_pos (by omega)]
  have H := down a.length (fun i => Ev (fun k => spec_l1Same.l0 k a b i) (decide (a.drop i = b.drop i))) ?_ ?_ 0 (by omega)
  ·exact H
  ·show Ev _ _
   rw [Ev.iff_succ]
   simp only [spec_l1Same.l0, Int.lt_irrefl, ↓reduceIte, Ev.now_iff]
   rw [List.drop_length, List.drop_eq_nil_of_le (by omega)]
   rfl
  ·intro i hi ih
   show Ev _ _
   rw [Ev.iff_succ]
   have g1 : (i : Int) < (a.length : Int) := by omega
   have g2 : (i : Int) < (b.length : Int) := by omega
   have g3 : (0 : Int) ≤ (i : Int) := by omega
   simp only [spec_l1Same.l0, Ev.ite_iff, g1, g2, g3, ↓reduceIte, rd_lt a i hi, rd_lt b i (by omega), w64_succ i (show i < 9223372036854775807 by omega)]
   rw [List.drop_eq_getElem_cons hi, List.drop_eq_getElem_cons (show i < b.length by omega)]
   by_cases c : a[i] = b[i]
   ·rw [if_pos c, c]
    rw [show decide (b[i] :: a.drop (i + 1) = b[i] :: b.drop (i + 1)) = decide (a.drop (i + 1) = b.drop (i + 1)) from decide_eq_decide.2 ⟨fun e => (List.cons.inj e).2, fun e => by rw [e]⟩]
    exact ih
   ·rw [if_neg c, Ev.now_iff, decide_eq_false (fun e => c (List.cons.inj e).1)]
 ·rw [if_neg (by omega), Ev.now_iff, decide_eq_false (fun e => h (by rw [e]))]

theorem l4At_ev {n m : Nat} {l : List Int} (hn : n ≤ 8) (h : l = bl n m) : Ev (fun k => spec_l4At.f k (gsL n l.length) l) ((plcG n l : Nat) : Int) := by
 obtain ⟨h1, h2⟩ := plcG_use h
 have G := gsL_gm (es := []) hn l.length
 have hm := G.len
 unfold spec_l4At.f
 have H := down (plcG n l) (fun j => Ev (fun k => spec_l4At.l0 k (gsL n l.length) l j) ((plcG n l : Nat) : Int)) ?_ ?_ 0 (by omega)
 ·exact H
 ·show Ev _ _
  rw [Ev.iff_succ]
  have g1 : ((plcG n l : Nat) : Int) < ((gsL n l.length).length : Int) := by omega
  have g2 : (0 : Int) ≤ ((plcG n l : Nat) : Int) := by omega
  simp only [spec_l4At.l0, g1, g2, ↓reduceIte, rdL2_nat, h2]
  have hs := gm_short G h1
  rw [Ev.bind_iff (l1Same_ev l l (by rw [h2] at hs;omega)), Ev.ite_iff, if_pos (by simp), Ev.now_iff]
 ·intro j hj ih
  show Ev _ _
  rw [Ev.iff_succ]
  have hjl : j < (gsL n l.length).length := by omega
  have g1 : (j : Int) < ((gsL n l.length).length : Int) := by omega
  have g2 : (0 : Int) ≤ (j : Int) := by omega
  have hs := gm_short G hjl
  have hne : grd (gsL n l.length) j ≠ l := fun e => by
   have := gsL_lt h1 hj
   rw [h2, e, lexLt_irr] at this;cases this
  simp only [spec_l4At.l0, g1, g2, ↓reduceIte, rdL2_nat, w64_succ j (show j < 9223372036854775807 by omega)]
  rw [Ev.bind_iff (l1Same_ev _ l (by omega)), Ev.ite_iff, if_neg (by simp [hne])]
  exact ih

def atkB (n : Int) (es : List S92) (l : List Int) (a : Int) : Bool := setB n es l && (decide (0 ≤ a ∧ a ≤ wrap64 (n - 1)) && !decide (a ∈ l))

end Go.Proofs.YthbjajppdomhhaaDoor.QGuardAnswers
