import Derived.Test.YthbjajppdomhhaaDoorQResistances0
import Derived.Test.YthbjajppdomhhaaDoorQResistances10
import Derived.Test.YthbjajppdomhhaaDoorQResistances11
import Derived.Test.YthbjajppdomhhaaDoorQResistances13
import Derived.Test.YthbjajppdomhhaaDoorQResistances14
import Derived.Test.YthbjajppdomhhaaDoorQResistances15
import Derived.Test.YthbjajppdomhhaaDoorQResistances16
import Derived.Test.YthbjajppdomhhaaDoorQResistances17
import Derived.Test.YthbjajppdomhhaaDoorQResistances18
import Derived.Test.YthbjajppdomhhaaDoorQResistances19
import Derived.Test.YthbjajppdomhhaaDoorQResistances2
import Derived.Test.YthbjajppdomhhaaDoorQResistances4
import Derived.Test.YthbjajppdomhhaaDoorQResistances5
import Derived.Test.YthbjajppdomhhaaDoorQResistancesA3
namespace Go.Proofs.YthbjajppdomhhaaDoor.QResistances
open Go.RowKit Go.Proofs.YthbjajppdomhhaaDoorW.PrintWords Go.Proofs.YthbjajppdomhhaaDoorW.PrintLast Go.Proofs.YthbjajppdomhhaaDoorW.PrintMore
attribute [local go_sem] max2_int min2_int max_two min_two max_three min_three max_four min_four   -- for this text's walks alone
set_option linter.unusedVariables false
set_option linter.unusedSimpArgs false
theorem l10Resist_l1 {es : List S92} {n : Nat} {L : List (List Int)} (G : Gm es n L) (all : Bool) : ∀ (d t : Nat) (T : Nat → Int), t + d ≤ 1000 → negG T L.length ≤ d → Ev (fun k => spec_l10Resist.l1 k L (tblG es n all L L.length) (rowF L.length T) (t : Int)) (rowF L.length (rndG es n all L d t T)) := by
 intro d
 have hm := G.len
 induction d with
 | zero => ?_
 | succ d ihd => ?_
 all_goals
  intro t T ht hN
  rw [Ev.iff_succ]
  simp only [spec_l10Resist.l1, l1Own_eq (show (rowF L.length T).length < 17592186044416 by rw [rowF_len];omega), Option.bind_some]
  have H : ∀ R, Ev (fun k => if grewG es n all L T L.length = true then spec_l10Resist.l1 k L (tblG es n all L L.length) (rowF L.length (nxtG es n all L T t)) (wrap64 ((t : Int) + 1)) else some (rowF L.length (nxtG es n all L T t))) R →
    Ev (fun k => spec_l10Resist.l2 k L (tblG es n all L L.length) (rowF L.length T) (t : Int) (rowF L.length T) false 0) R := by
   intro R hR
   have H2 := down L.length (fun i => Ev (fun k => spec_l10Resist.l2 k L (tblG es n all L L.length) (rowF L.length T) (t : Int) (midG es n all L T t i) (grewG es n all L T i) i) R) ?_ ?_ 0 (by omega)
   ·rw [midG_zero] at H2;exact H2
   ·show Ev _ _
    rw [Ev.iff_succ]
    simp only [spec_l10Resist.l2, Int.lt_irrefl, ↓reduceIte, midG_end]
    exact hR
   ·intro i hi ih
    show Ev _ _
    rw [Ev.iff_succ]
    have h1 : (i : Int) < (L.length : Int) := by omega
    have h2 : (0 : Int) ≤ (i : Int) := by omega
    rw [grewG_succ] at ih
    simp only [spec_l10Resist.l2, Ev.ite_iff, h1, h2, ↓reduceIte, rowF_len, rowF_rd hi, tblG_len, rdL2_nat, tblG_rd hi, w64_succ i (show i < 9223372036854775807 by omega), Int.toNat_natCast, show (midG es n all L T t i).length = L.length from rowF_len _ _]
    by_cases c : T i < 0
    ·rw [if_pos c, Ev.bind_iff (l10Falls_ev G all T hi)]
     simp only [Ev.ite_iff, h1, ↓reduceIte]
     rw [decide_eq_true c, Bool.true_and] at ih
     cases cf : fallG es n all L T i with
     | true => rw [if_pos rfl, midG_put hi c cf];rw [cf, Bool.or_true] at ih;exact ih
     | false => rw [if_neg (by decide), midG_keep (by simp [cf])];rw [cf, Bool.or_false] at ih;exact ih
    ·rw [if_neg c, midG_keep (by simp [c])]
     rw [decide_eq_false c, Bool.false_and, Bool.or_false] at ih
     exact ih
  refine H _ ?_
  clear H
 ·rw [grewG_zero hN, Ev.ite_iff, if_neg (by decide), Ev.now_iff, grewG_no (grewG_zero hN)]
  rfl
 ·rw [Ev.ite_iff]
  unfold rndG
  cases hg : grewG es n all L T L.length with
  | true =>
   have h := negG_nxt (es := es) (n := n) (all := all) (L := L) (T := T) (t := t) L.length
   rw [hg, if_pos rfl] at h
   simp only [↓reduceIte, w64_succ t (show t < 9223372036854775807 by omega)]
   exact ihd (t + 1) _ (by omega) (by omega)
  | false =>
   rw [if_neg (by decide), if_neg (by decide), Ev.now_iff, grewG_no hg]

theorem l10Resist_ev {es : List S92} {n : Nat} {L : List (List Int)} (G : Gm es n L) (all : Bool) : Ev (fun k => spec_l10Resist.f k L (tblG es n all L L.length)) (rowF L.length (rndG es n all L L.length 0 fun _ => -1)) := by
 unfold spec_l10Resist.f
 have hm := G.len
 have H := down L.length (fun i => Ev (fun k => spec_l10Resist.l0 k L (tblG es n all L L.length) (rowF i fun _ => -1) i) (rowF L.length (rndG es n all L L.length 0 fun _ => -1))) ?_ ?_ 0 (by omega)
 ·exact H
 ·show Ev _ _
  rw [Ev.iff_succ]
  simp only [spec_l10Resist.l0, Int.lt_irrefl, ↓reduceIte]
  exact l10Resist_l1 G all L.length 0 _ (by omega) (negG_le _ _)
 ·intro i hi ih
  show Ev _ _
  rw [Ev.iff_succ]
  have h1 : (i : Int) < (L.length : Int) := by omega
  have h2 : (rowF i fun _ => -1).length < 17592186044416 := by rw [rowF_len];omega
  have h3 : (rowF i fun _ => (-1 : Int)) ++ [-1] = rowF (i + 1) fun _ => -1 := by simp [rowF, List.range_succ]
  simp only [spec_l10Resist.l0, h1, h2, h3, ↓reduceIte, w64_succ i (show i < 9223372036854775807 by omega)]
  exact ih

def gamG (es : List S92) (n : Nat) (all : Bool) (L : List (List Int)) (q : Nat) : List (List Int) := (List.range q).map fun i => nI (mvsG es n all L i)

theorem gamG_len (es : List S92) (n : Nat) (all : Bool) (L : List (List Int)) (q : Nat) : (gamG es n all L q).length = q := by simp [gamG]

theorem gamG_rd {es : List S92} {n : Nat} {all : Bool} {L : List (List Int)} {q i : Nat} (h : i < q) : rd_L2 (gamG es n all L q) (i : Int) = nI (mvsG es n all L i) := by simp [rd_L2, gamG, h]

theorem implGuardSets2_ev {n k : Nat} (hn : n ≤ 8) (hk : k ≤ n) : Ev (fun f => impl_guardSets.f f n k) (gsL n k) := by
 have hbl := bl_len_le n (2 ^ n - 1)
 unfold impl_guardSets.f gsL
 rw [Ev.ite_iff, if_pos (by omega), mask_all n hn, Ev.bind_iff (setOf_ev n _ hn (by have := Nat.two_pow_pos n;omega)), Ev.bind_iff (subsetsOf_ev 8 _ k (by omega) (by omega) (by omega)), Ev.now_iff]

theorem specGuardSets2_ev {es : List S92} {n k : Nat} (hn : n ≤ 8) (hk : k ≤ n) : Ev (fun f => spec_l10Sets.f f n es k) (gsL n k) := by
 have hf := (bl_len_full n hn (2 ^ n - 1) (by have := Nat.two_pow_pos n;omega)).2 rfl
 unfold spec_l10Sets.f gsL
 rw [Ev.bind_iff (l2All_ev (es := es) hn), Ev.bind_iff (l8Choices_ev n _ k (by omega) hn (by omega)), Ev.now_iff]

theorem gm_mask {es : List S92} {n : Nat} {L : List (List Int)} (G : Gm es n L) {i : Nat} (hi : i < L.length) : Ev (fun k => impl_maskOf.f k (grd L i)) ((mL (grd L i) : Nat) : Int) := by
 obtain ⟨f, hf, e1⟩ := G.row i hi
 have hs := gm_short G hi
 have hn := G.hn
 refine maskOf_ev (grd L i) (by omega) (fun x hx => ?_)
 rw [e1] at hx
 obtain ⟨j, hj, _, rfl⟩ := mem_bl.1 hx
 omega

theorem guardGame_ev {es : List S92} {n k : Nat} (hn : n ≤ 8) (hk : k ≤ n) (all : Bool) : Ev (fun f => impl_net_guardGame.f f (nets es n) k all) ((n : Int), gsL n k, gamG es n all (gsL n k) (gsL n k).length) := by
 have G := gsL_gm (es := es) hn k
 have hs : impl_net_size.f (nets es n) = some (n : Int) := by unfold impl_net_size.f;rw [nets_len]
 unfold impl_net_guardGame.f
 simp only [hs, Option.bind_some]
 rw [Ev.bind_iff (implGuardSets2_ev hn hk)]
 generalize gsL n k = L at G ⊢
 have hm := G.len
 have H := down L.length (fun i => Ev (fun f => impl_net_guardGame.l0 f all L (L.length : Int) i (nets es n) n L (gamG es n all L i)) ((n : Int), L, gamG es n all L L.length)) ?_ ?_ 0 (by omega)
 ·exact H
 ·show Ev _ _
  rw [Ev.iff_succ]
  simp only [impl_net_guardGame.l0, Int.lt_irrefl, ↓reduceIte, Ev.now_iff]
 ·intro i hi ih
  show Ev _ _
  rw [Ev.iff_succ]
  have h1 : (i : Int) < (L.length : Int) := by omega
  have h2 : (0 : Int) ≤ (i : Int) := by omega
  simp only [impl_net_guardGame.l0, Ev.ite_iff, h1, h2, ↓reduceIte, rdL2_nat]
  have H2 := down L.length (fun j => Ev (fun f => impl_net_guardGame.l1 f all (grd L i) (nI ((List.range j).filter fun j => mvG es n all L i j)) L (L.length : Int) i L (L.length : Int) j (nets es n) n L (gamG es n all L i)) ((n : Int), L, gamG es n all L L.length)) ?_ ?_ 0 (by omega)
  ·exact H2
  ·show Ev _ _
   rw [Ev.iff_succ]
   have h3 : (gamG es n all L i).length < 5864062014805 := by rw [gamG_len];omega
   have h4 : gamG es n all L i ++ [nI ((List.range L.length).filter fun j => mvG es n all L i j)] = gamG es n all L (i + 1) := by simp [gamG, List.range_succ, mvsG]
   simp only [impl_net_guardGame.l1, Int.lt_irrefl, ↓reduceIte, h3, h4, w64_succ i (show i < 9223372036854775807 by omega)]
   exact ih
  ·intro j hj ih2
   show Ev _ _
   rw [Ev.iff_succ]
   have h3 : (j : Int) < (L.length : Int) := by omega
   have h4 : (0 : Int) ≤ (j : Int) := by omega
   have h5 : (nI ((List.range j).filter fun j => mvG es n all L i j)).length < 17592186044416 := by
    have := nI_filter_len j (fun j => mvG es n all L i j);omega
   rw [filter_range_succ, nI_app] at ih2
   simp only [impl_net_guardGame.l1, Ev.ite_iff, h3, h4, ↓reduceIte, rdL2_nat, w64_succ j (show j < 9223372036854775807 by omega)]
   rw [Ev.bind_iff (gm_mask G hi), Ev.bind_iff (gm_mask G hj), Ev.bind_iff (gm_impl G all hi hj)]
   simp only [Ev.ite_iff, h5, ↓reduceIte]
   cases hv : mvG es n all L i j with
   | true => rw [if_pos rfl];rw [hv, if_pos rfl] at ih2;exact ih2
   | false => rw [if_neg (by decide)];rw [hv, if_neg (by decide), show nI ([] : List Nat) = [] from rfl, List.append_nil] at ih2;exact ih2

theorem slicesContains_ev (l : List Int) (x : Int) (hl : l.length ≤ 9223372036854775807) : Ev (fun k => slices_Contains_int_int.f k l x) (decide (x ∈ l)) := by
 unfold slices_Contains_int_int.f slices_Index_int_int.f
 have H := down l.length (fun i => ∃ j : Int, Ev (fun k => slices_Index_int_int.l0 k l x (l.length : Int) i) j ∧ (j ≥ 0 ↔ x ∈ l.drop i)) ?_ ?_ 0 (by omega)
 ·obtain ⟨j, h1, h2⟩ := H
  rw [Ev.bind_iff (show Ev (fun k => slices_Index_int_int.l0 k l x (l.length : Int) 0) j from h1), Ev.now_iff, decide_eq_decide, h2, List.drop_zero]
 ·refine ⟨-1, ?_, by simp⟩
  rw [Ev.iff_succ]
  simp only [slices_Index_int_int.l0, Int.lt_irrefl, ↓reduceIte, Ev.now_iff]
 ·intro i hi ih
  obtain ⟨j, h1, h2⟩ := ih
  have g1 : (i : Int) < (l.length : Int) := by omega
  have g2 : (0 : Int) ≤ (i : Int) := by omega
  by_cases c : x = l[i]
  ·refine ⟨i, ?_, ⟨fun _ => by rw [c, List.drop_eq_getElem_cons hi];exact List.mem_cons_self, fun _ => by omega⟩⟩
   rw [Ev.iff_succ]
   simp only [slices_Index_int_int.l0, Ev.ite_iff, g1, g2, ↓reduceIte, rd_lt l i hi]
   rw [if_pos c, Ev.now_iff]
  ·refine ⟨j, ?_, by rw [h2, List.drop_eq_getElem_cons hi, List.mem_cons];simp [c]⟩
   rw [Ev.iff_succ]
   simp only [slices_Index_int_int.l0, Ev.ite_iff, g1, g2, ↓reduceIte, rd_lt l i hi, w64_succ i (show i < 9223372036854775807 by omega)]
   rw [if_neg c]
   exact h1

theorem answers_eq {es : List S92} {n : Nat} {L : List (List Int)} (G : Gm es n L) (all : Bool) {i : Nat} (hi : i < L.length) (x q : Int) : impl_guardGame_answers.f q L (gamG es n all L L.length) i x = some (nI (ansG es n all L i x), q) := by
 have hm := G.len
 unfold impl_guardGame_answers.f
 have h1 : (mvsG es n all L i).length ≤ L.length := by
  have := List.length_filter_le (fun j => mvG es n all L i j) (List.range L.length)
  rw [List.length_range] at this;exact this
 have h2 : slices_Clone_int_int.f (nI (mvsG es n all L i)) = some (nI (mvsG es n all L i)) := by
  unfold slices_Clone_int_int.f
  simp only [Option.bind_some, List.length_nil, List.nil_append, nI_len]
  rw [if_pos (by omega)]
 rw [if_pos (by omega), if_pos (by rw [gamG_len];omega), gamG_rd hi, h2]
 simp only [Option.bind_some]
 unfold delF
 rw [if_pos]
 ·simp only [Option.bind_some]
  congr 2
  unfold ansG mvsG nI
  rw [List.filter_map, List.filter_filter]
  congr 1
  refine List.filter_congr fun j _ => ?_
  simp only [Function.comp_apply, rdL2_nat, hasG, List.contains_eq_mem]
  rfl
 ·intro y hy
  unfold nI at hy
  obtain ⟨j, hj, rfl⟩ := List.mem_map.1 hy
  have := List.mem_range.1 (List.mem_filter.1 hj).1
  omega

theorem hasNeg_eq {m : Nat} {T : Nat → Int} {l : List Nat} (h : ∀ j ∈ l, j < m) : hasNeg (rowF m T) (nI l) = some (!(l.all fun j => decide (0 ≤ T j))) := by
 unfold hasNeg
 rw [if_pos]
 ·congr 1
  induction l with
  | nil => rfl
  | cons j l ih =>
   have ih := ih (fun i hi => h i (List.mem_cons_of_mem _ hi))
   unfold nI at ih ⊢
   rw [List.map_cons, List.any_cons, ih, List.all_cons, rowF_rd (h j (by simp)), Bool.not_and]
   congr 1
   by_cases c : T j < 0
   ·rw [decide_eq_true c, decide_eq_false (by omega)];rfl
   ·rw [decide_eq_false c, decide_eq_true (by omega)];rfl
 ·intro y hy
  unfold nI at hy
  obtain ⟨j, hj, rfl⟩ := List.mem_map.1 hy
  have := h j hj
  rw [rowF_len]
  omega

theorem cloneI_eq {l : List Int} (h : l.length < 17592186044416) : slices_Clone_int_int.f l = some l := by
 unfold slices_Clone_int_int.f
 simp only [Option.bind_some, List.length_nil, List.nil_append, Nat.zero_add, h, ↓reduceIte]

theorem resist_l0 {es : List S92} {n : Nat} {L : List (List Int)} (G : Gm es n L) (all : Bool) : ∀ (d t : Nat) (T : Nat → Int), t + d ≤ 1000 → negG T L.length ≤ d → Ev (fun k => impl_guardGame_resist.l0 k (rowF L.length T) (t : Int) true (n : Int) L (gamG es n all L L.length)) (rowF L.length (rndG es n all L d t T), (n : Int)) := by
 intro d
 have hm := G.len
 have hn := G.hn
 induction d with
 | zero => ?_
 | succ d ihd => ?_
 all_goals
  intro t T ht hN
  rw [Ev.iff_succ]
  simp only [impl_guardGame_resist.l0, ↓reduceIte, cloneI_eq (show (rowF L.length T).length < 17592186044416 by rw [rowF_len];omega), Option.bind_some]
  have H : ∀ R, Ev (fun k => impl_guardGame_resist.l0 k (rowF L.length (nxtG es n all L T t)) (wrap64 ((t : Int) + 1)) (grewG es n all L T L.length) (n : Int) L (gamG es n all L L.length)) R →
    Ev (fun k => impl_guardGame_resist.l1 k (rowF L.length T) (t : Int) false L (L.length : Int) 0 (n : Int) L (gamG es n all L L.length) (rowF L.length T)) R := by
   intro R hR
   have H2 := down L.length (fun i => Ev (fun k => impl_guardGame_resist.l1 k (midG es n all L T t i) (t : Int) (grewG es n all L T i) L (L.length : Int) i (n : Int) L (gamG es n all L L.length) (rowF L.length T)) R) ?_ ?_ 0 (by omega)
   ·rw [midG_zero] at H2;exact H2
   ·show Ev _ _
    rw [Ev.iff_succ]
    simp only [impl_guardGame_resist.l1, Int.lt_irrefl, ↓reduceIte, midG_end]
    exact hR
   ·intro i hi ih
    show Ev _ _
    rw [Ev.iff_succ]
    have h1 : (i : Int) < (L.length : Int) := by omega
    have h2 : (0 : Int) ≤ (i : Int) := by omega
    rw [grewG_succ] at ih
    simp only [impl_guardGame_resist.l1, Ev.ite_iff, h1, h2, ↓reduceIte, rowF_len, rowF_rd hi, rdL2_nat, w64_succ i (show i < 9223372036854775807 by omega)]
    by_cases c : T i < 0
    case neg =>
     rw [if_pos (by omega), midG_keep (by simp [c])]
     rw [decide_eq_false c, Bool.false_and, Bool.or_false] at ih
     exact ih
    rw [if_neg (by omega)]
    rw [decide_eq_true c, Bool.true_and] at ih
    have hs := gm_short G hi
    have H3 := down n (fun x => (((List.range n).drop x).any fun x => !hasG L i (x : Int) && (ansG es n all L i (x : Int)).all fun j => decide (0 ≤ T j)) = fallG es n all L T i →
     Ev (fun k => impl_guardGame_resist.l2 k (midG es n all L T t i) (t : Int) (grewG es n all L T i) i (grd L i) L (L.length : Int) i (n : Int) x (n : Int) L (gamG es n all L L.length) (rowF L.length T)) R) ?_ ?_ 0 (by omega) rfl
    ·exact H3
    ·intro hf
     rw [List.drop_eq_nil_of_le (by simp)] at hf
     have hf' : fallG es n all L T i = false := hf.symm
     rw [Ev.iff_succ]
     simp only [impl_guardGame_resist.l2, Int.lt_irrefl, ↓reduceIte, w64_succ i (show i < 9223372036854775807 by omega)]
     rw [midG_keep (by simp [hf'])]
     rw [hf', Bool.or_false] at ih
     exact ih
    ·intro x hx ih3 hf
     rw [range_drop hx, List.any_cons] at hf
     rw [Ev.iff_succ]
     have h3 : (x : Int) < (n : Int) := by omega
     simp only [impl_guardGame_resist.l2, h3, ↓reduceIte, w64_succ x (show x < 9223372036854775807 by omega), w64_succ i (show i < 9223372036854775807 by omega)]
     rw [Ev.bind_iff (slicesContains_ev (grd L i) x (by omega)), Ev.ite_iff]
     by_cases cc : (x : Int) ∈ grd L i
     ·rw [if_pos (by simpa using cc)]
      have hc : hasG L i (x : Int) = true := decide_eq_true cc
      rw [hc, Bool.not_true, Bool.false_and, Bool.false_or] at hf
      exact ih3 hf
     ·rw [if_neg (by simpa using cc), answers_eq G all hi]
      have hc : hasG L i (x : Int) = false := decide_eq_false cc
      simp only [Option.bind_some, hasNeg_eq ansG_in, Ev.ite_iff]
      rw [hc, Bool.not_false, Bool.true_and] at hf
      cases ca : (ansG es n all L i (x : Int)).all fun j => decide (0 ≤ T j) with
      | false =>
       rw [if_pos (by decide)]
       rw [ca, Bool.false_or] at hf
       exact ih3 hf
      | true =>
       rw [ca, Bool.true_or] at hf
       rw [if_neg (by decide), if_pos h2, if_pos (by rw [show (midG es n all L T t i).length = L.length from rowF_len _ _];exact h1), Int.toNat_natCast, midG_put hi c hf.symm]
       rw [← hf, Bool.or_true] at ih
       exact ih
  refine H _ ?_
  clear H
 ·rw [grewG_zero hN, grewG_no (grewG_zero hN), Ev.iff_succ]
  simp only [impl_guardGame_resist.l0, Bool.false_eq_true, ↓reduceIte, Ev.now_iff]
  rfl
 ·unfold rndG
  cases hg : grewG es n all L T L.length with
  | true =>
   have h := negG_nxt (es := es) (n := n) (all := all) (L := L) (T := T) (t := t) L.length
   rw [hg, if_pos rfl] at h
   simp only [↓reduceIte, w64_succ t (show t < 9223372036854775807 by omega)]
   exact ihd (t + 1) _ (by omega) (by omega)
  | false =>
   rw [grewG_no hg, Ev.iff_succ]
   simp only [impl_guardGame_resist.l0, Bool.false_eq_true, ↓reduceIte, Ev.now_iff]

/-- The resistances. -/
def rsG (es : List S92) (n : Nat) (all : Bool) (L : List (List Int)) : Nat → Int := rndG es n all L L.length 0 fun _ => -1

theorem resist_ev {es : List S92} {n : Nat} {L : List (List Int)} (G : Gm es n L) (all : Bool) : Ev (fun k => impl_guardGame_resist.f k (n : Int) L (gamG es n all L L.length)) (rowF L.length (rsG es n all L), (n : Int)) := by
 have hm := G.len
 have hrep : slices_Repeat_int_int.f ([(-1)] : List Int) (L.length : Int) = some (rowF L.length (fun _ => -1)) := by
  unfold slices_Repeat_int_int.f
  rw [if_pos ⟨rfl, by omega, by omega⟩, Int.toNat_natCast]
  congr 1
  apply List.ext_getElem <;> simp [rowF, rd]
 unfold impl_guardGame_resist.f
 rw [hrep]
 exact resist_l0 G all L.length 0 _ (by omega) (negG_le _ _)

theorem gameResist_ev {es : List S92} {n k : Nat} (hn : n ≤ 8) (hk : k ≤ n) (all : Bool) : Ev (fun f => impl_gameResist.f f (nets es n) k all) (rowF (gsL n k).length (rsG es n all (gsL n k))) := by
 unfold impl_gameResist.f
 rw [Ev.bind_iff (guardGame_ev hn hk all)]
 rw [Ev.bind_iff (resist_ev (gsL_gm (es := es) hn k) all), Ev.now_iff]

theorem l10Known_ev {es : List S92} {n k : Nat} (hn : n ≤ 8) (he : es.length ≤ 9223372036854775807) (hk : k ≤ n) (all : Bool) : Ev (fun f => spec_l10Known.f f n es k all) (rowF (gsL n k).length (rsG es n all (gsL n k))) := by
 have G := gsL_gm (es := es) hn k
 unfold spec_l10Known.f
 rw [Ev.bind_iff (specGuardSets2_ev hn hk), Ev.bind_iff (l10Table_ev G he all), Ev.bind_iff (l10Resist_ev G all), Ev.now_iff]
 rfl

theorem l10Good_eq (n : Int) (es : List S92) (a : Int) : spec_l10Good.f n es a = some (okG n es && decide (0 ≤ a ∧ a ≤ n)) := by
 unfold spec_l10Good.f
 rw [l2Good_eq]
 simp only [Option.bind_some, l1In_eq]
 cases okG n es <;> simp

def resistancesR (n : Int) (es : List S92) (a : Int) (b : Bool) : List Int × Bool := if (okG n es && decide (0 ≤ a ∧ a ≤ n)) = true then (rowF (gsL n.toNat a.toNat).length (rsG es n.toNat b (gsL n.toNat a.toNat)), true) else ([], false)

theorem resistancesR_len (n : Int) (es : List S92) (a : Int) (b : Bool) : (resistancesR n es a b).1.length ≤ 1048576 := by
 unfold resistancesR
 split
 ·rename_i h
  simp only [Bool.and_eq_true, decide_eq_true_eq] at h
  obtain ⟨N, rfl, hN⟩ := okG_use h.1
  rw [rowF_len, Int.toNat_natCast]
  have := (gsL_gm (es := []) hN a.toNat).len
  omega
 ·simp

theorem specResistances_ev (n : Int) (es : List S92) (a : Int) (b : Bool) (_ : (Lit.int .i64 a).wf = true) (he : es.length ≤ 9223372036854775807) : Ev (fun k => spec_Resistances.f k n es a b) (resistancesR n es a b) := by
 unfold spec_Resistances.f resistancesR
 rw [l10Good_eq]
 simp only [Option.bind_some, Ev.ite_iff]
 by_cases h : (okG n es && decide (0 ≤ a ∧ a ≤ n)) = true
 ·rw [if_pos h, if_pos h]
  simp only [Bool.and_eq_true, decide_eq_true_eq] at h
  obtain ⟨N, rfl, hN⟩ := okG_use h.1
  obtain ⟨K, rfl⟩ : ∃ K : Nat, a = K := ⟨a.toNat, by omega⟩
  rw [Ev.bind_iff (l10Known_ev hN he (by omega) b), Ev.now_iff]
  simp only [Int.toNat_natCast]
 ·rw [if_neg h, if_neg h, Ev.now_iff]

theorem implResistances_ev (n : Int) (es : List S92) (a : Int) (b : Bool) (_ : (Lit.int .i64 a).wf = true) : Ev (fun k => impl_Resistances.f k n es a b) (resistancesR n es a b) := by
 unfold impl_Resistances.f resistancesR
 rw [IsGraph_eq]
 simp only [Option.bind_some, Ev.ite_iff]
 by_cases hg : okG n es = true
 case neg =>
  rw [if_neg hg, if_neg (by simp [hg]), Ev.iff_succ]
  simp only [impl_Resistances.j0, ↓reduceIte, Ev.now_iff]
 rw [if_pos hg, within_eq]
 simp only [Option.bind_some]
 rw [Ev.iff_succ]
 by_cases hd : 0 ≤ a ∧ a ≤ n
 case neg =>
  rw [if_neg (by simp [hd])]
  simp only [impl_Resistances.j0, decide_eq_false hd, Bool.not_false, ↓reduceIte, Ev.now_iff]
 rw [if_pos (by simp [hg, hd])]
 obtain ⟨N, rfl, hN⟩ := okG_use hg
 obtain ⟨K, rfl⟩ : ∃ K : Nat, a = K := ⟨a.toNat, by omega⟩
 simp only [impl_Resistances.j0, decide_eq_true hd, Bool.not_true, Bool.false_eq_true, ↓reduceIte, netOf_eq hg, Option.bind_some]
 rw [Ev.bind_iff (gameResist_ev hN (by omega) b), Ev.now_iff]
 simp only [Int.toNat_natCast]

end Go.Proofs.YthbjajppdomhhaaDoor.QResistances
