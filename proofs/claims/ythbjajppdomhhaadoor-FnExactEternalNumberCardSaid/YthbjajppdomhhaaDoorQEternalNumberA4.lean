import Derived.Test.YthbjajppdomhhaaDoorQEternalNumber0
import Derived.Test.YthbjajppdomhhaaDoorQEternalNumber10
import Derived.Test.YthbjajppdomhhaaDoorQEternalNumber11
import Derived.Test.YthbjajppdomhhaaDoorQEternalNumber12
import Derived.Test.YthbjajppdomhhaaDoorQEternalNumber13
import Derived.Test.YthbjajppdomhhaaDoorQEternalNumber17
import Derived.Test.YthbjajppdomhhaaDoorQEternalNumber18
import Derived.Test.YthbjajppdomhhaaDoorQEternalNumber19
import Derived.Test.YthbjajppdomhhaaDoorQEternalNumber20
import Derived.Test.YthbjajppdomhhaaDoorQEternalNumberA3
namespace Go.Proofs.YthbjajppdomhhaaDoor.QEternalNumber
open Go.RowKit Go.Proofs.YthbjajppdomhhaaDoorW.PrintWords Go.Proofs.YthbjajppdomhhaaDoorW.PrintLast Go.Proofs.YthbjajppdomhhaaDoorW.PrintMore
attribute [local go_sem] max2_int min2_int max_two min_two max_three min_three max_four min_four   -- for this text's walks alone
set_option linter.unusedVariables false
set_option linter.unusedSimpArgs false
theorem guardGame_ev {es : List S92} {n k : Nat} (hn : n ≤ 8) (hk : k ≤ n) (all : Bool) : Ev (fun f => impl_net_guardGame.f f (nets es n) k all) ((n : Int), gsL n k, gamG es n all (gsL n k) (gsL n k).length) := by
 have G := gsL_gm (es := es) hn k
 have hs : impl_net_size.f (nets es n) = some (n : Int) := by unfold impl_net_size.f;rw [nets_len]
 unfold impl_net_guardGame.f
 simp only [hs, Option.bind_some]
 rw [Ev.bind_iff (implGuardSets2_ev hn hk)]
 generalize gsL n k = L at G ⊢
 have hm := G.len
 have H := down L.length (fun i => Ev (fun f => impl_net_guardGame.l0 f all L (L.length : Int) i (nets es n) n L (gamG es n all L i)) ((n : Int), L, gamG es n all L L.length)) ?_ ?_ 0 (by omega)
 ·exact H
 ·show Ev _ _
  rw [Ev.iff_succ]
  simp only [impl_net_guardGame.l0, Int.lt_irrefl, ↓reduceIte, Ev.now_iff]
 ·intro i hi ih
  show Ev _ _
  rw [Ev.iff_succ]
  have h1 : (i : Int) < (L.length : Int) := by omega
  have h2 : (0 : Int) ≤ (i : Int) := by omega
  simp only [impl_net_guardGame.l0, Ev.ite_iff, h1, h2, ↓reduceIte, rdL2_nat]
  have H2 := down L.length (fun j => Ev (fun f => impl_net_guardGame.l1 f all (grd L i) (nI ((List.range j).filter fun j => mvG es n all L i j)) L (L.length : Int) i L (L.length : Int) j (nets es n) n L (gamG es n all L i)) ((n : Int), L, gamG es n all L L.length)) ?_ ?_ 0 (by omega)
  ·exact H2
  ·show Ev _ _
   rw [Ev.iff_succ]
   have h3 : (gamG es n all L i).length < 5864062014805 := by rw [gamG_len];omega
   have h4 : gamG es n all L i ++ [nI ((List.range L.length).filter fun j => mvG es n all L i j)] = gamG es n all L (i + 1) := by simp [gamG, List.range_succ, mvsG]
   simp only [impl_net_guardGame.l1, Int.lt_irrefl, ↓reduceIte, h3, h4, w64_succ i (show i < 9223372036854775807 by omega)]
   exact ih
  ·intro j hj ih2
   show Ev _ _
   rw [Ev.iff_succ]
   have h3 : (j : Int) < (L.length : Int) := by omega
   have h4 : (0 : Int) ≤ (j : Int) := by omega
   have h5 : (nI ((List.range j).filter fun j => mvG es n all L i j)).length < 17592186044416 := by
    have := nI_filter_len j (fun j => mvG es n all L i j);omega
   rw [filter_range_succ, nI_app] at ih2
   simp only [impl_net_guardGame.l1, Ev.ite_iff, h3, h4, ↓reduceIte, rdL2_nat, w64_succ j (show j < 9223372036854775807 by omega)]
   rw [Ev.bind_iff (gm_mask G hi), Ev.bind_iff (gm_mask G hj), Ev.bind_iff (gm_impl G all hi hj)]
   simp only [Ev.ite_iff, h5, ↓reduceIte]
   cases hv : mvG es n all L i j with
   | true => rw [if_pos rfl];rw [hv, if_pos rfl] at ih2;exact ih2
   | false => rw [if_neg (by decide)];rw [hv, if_neg (by decide), show nI ([] : List Nat) = [] from rfl, List.append_nil] at ih2;exact ih2

theorem slicesContains_ev (l : List Int) (x : Int) (hl : l.length ≤ 9223372036854775807) : Ev (fun k => slices_Contains_int_int.f k l x) (decide (x ∈ l)) := by
 unfold slices_Contains_int_int.f slices_Index_int_int.f
 have H := down l.length (fun i => ∃ j : Int, Ev (fun k => slices_Index_int_int.l0 k l x (l.length : Int) i) j ∧ (j ≥ 0 ↔ x ∈ l.drop i)) ?_ ?_ 0 (by omega)
 ·obtain ⟨j, h1, h2⟩ := H
  rw [Ev.bind_iff (show Ev (fun k => slices_Index_int_int.l0 k l x (l.length : Int) 0) j from h1), Ev.now_iff, decide_eq_decide, h2, List.drop_zero]
 ·refine ⟨-1, ?_, by simp⟩
  rw [Ev.iff_succ]
  simp only [slices_Index_int_int.l0, Int.lt_irrefl, ↓reduceIte, Ev.now_iff]
 ·intro i hi ih
  obtain ⟨j, h1, h2⟩ := ih
  have g1 : (i : Int) < (l.length : Int) := by omega
  have g2 : (0 : Int) ≤ (i : Int) := by omega
  by_cases c : x = l[i]
  ·refine ⟨i, ?_, ⟨fun _ => by rw [c, List.drop_eq_getElem_cons hi];exact List.mem_cons_self, fun _ => by omega⟩⟩
   rw [Ev.iff_succ]
   simp only [slices_Index_int_int.l0, Ev.ite_iff, g1, g2, ↓reduceIte, rd_lt l i hi]
   rw [if_pos c, Ev.now_iff]
  ·refine ⟨j, ?_, by rw [h2, List.drop_eq_getElem_cons hi, List.mem_cons];simp [c]⟩
   rw [Ev.iff_succ]
   simp only [slices_Index_int_int.l0, Ev.ite_iff, g1, g2, ↓reduceIte, rd_lt l i hi, w64_succ i (show i < 9223372036854775807 by omega)]
   rw [if_neg c]
   exact h1

theorem answers_eq {es : List S92} {n : Nat} {L : List (List Int)} (G : Gm es n L) (all : Bool) {i : Nat} (hi : i < L.length) (x q : Int) : impl_guardGame_answers.f q L (gamG es n all L L.length) i x = some (nI (ansG es n all L i x), q) := by
 have hm := G.len
 unfold impl_guardGame_answers.f
 have h1 : (mvsG es n all L i).length ≤ L.length := by
  have := List.length_filter_le (fun j => mvG es n all L i j) (List.range L.length)
  rw [List.length_range] at this;exact this
 have h2 : slices_Clone_int_int.f (nI (mvsG es n all L i)) = some (nI (mvsG es n all L i)) := by
  unfold slices_Clone_int_int.f
  simp only [Option.bind_some, List.length_nil, List.nil_append, nI_len]
  rw [if_pos (by omega)]
 rw [if_pos (by omega), if_pos (by rw [gamG_len];omega), gamG_rd hi, h2]
 simp only [Option.bind_some]
 unfold delF
 rw [if_pos]
 ·simp only [Option.bind_some]
  congr 2
  unfold ansG mvsG nI
  rw [List.filter_map, List.filter_filter]
  congr 1
  refine List.filter_congr fun j _ => ?_
  simp only [Function.comp_apply, rdL2_nat, hasG, List.contains_eq_mem]
  rfl
 ·intro y hy
  unfold nI at hy
  obtain ⟨j, hj, rfl⟩ := List.mem_map.1 hy
  have := List.mem_range.1 (List.mem_filter.1 hj).1
  omega

theorem hasNeg_eq {m : Nat} {T : Nat → Int} {l : List Nat} (h : ∀ j ∈ l, j < m) : hasNeg (rowF m T) (nI l) = some (!(l.all fun j => decide (0 ≤ T j))) := by
 unfold hasNeg
 rw [if_pos]
 ·congr 1
  induction l with
  | nil => rfl
  | cons j l ih =>
   have ih := ih (fun i hi => h i (List.mem_cons_of_mem _ hi))
   unfold nI at ih ⊢
   rw [List.map_cons, List.any_cons, ih, List.all_cons, rowF_rd (h j (by simp)), Bool.not_and]
   congr 1
   by_cases c : T j < 0
   ·rw [decide_eq_true c, decide_eq_false (by omega)];rfl
   ·rw [decide_eq_false c, decide_eq_true (by omega)];rfl
 ·intro y hy
  unfold nI at hy
  obtain ⟨j, hj, rfl⟩ := List.mem_map.1 hy
  have := h j hj
  rw [rowF_len]
  omega

theorem cloneI_eq {l : List Int} (h : l.length < 17592186044416) : slices_Clone_int_int.f l = some l := by
 unfold slices_Clone_int_int.f
 simp only [Option.bind_some, List.length_nil, List.nil_append, Nat.zero_add, h, ↓reduceIte]

theorem resist_l0 {es : List S92} {n : Nat} {L : List (List Int)} (G : Gm es n L) (all : Bool) : ∀ (d t : Nat) (T : Nat → Int), t + d ≤ 1000 → negG T L.length ≤ d → Ev (fun k => impl_guardGame_resist.l0 k (rowF L.length T) (t : Int) true (n : Int) L (gamG es n all L L.length)) (rowF L.length (rndG es n all L d t T), (n : Int)) := by
 intro d
 have hm := G.len
 have hn := G.hn
 induction d with
 | zero => ?_
 | succ d ihd => ?_
 all_goals
  intro t T ht hN
  rw [Ev.iff_succ]
  simp only [impl_guardGame_resist.l0, ↓reduceIte, cloneI_eq (show (rowF L.length T).length < 17592186044416 by rw [rowF_len];omega), Option.bind_some]
  have H : ∀ R, Ev (fun k => impl_guardGame_resist.l0 k (rowF L.length (nxtG es n all L T t)) (wrap64 ((t : Int) + 1)) (grewG es n all L T L.length) (n : Int) L (gamG es n all L L.length)) R →
    Ev (fun k => impl_guardGame_resist.l1 k (rowF L.length T) (t : Int) false L (L.length : Int) 0 (n : Int) L (gamG es n all L L.length) (rowF L.length T)) R := by
   intro R hR
   have H2 := down L.length (fun i => Ev (fun k => impl_guardGame_resist.l1 k (midG es n all L T t i) (t : Int) (grewG es n all L T i) L (L.length : Int) i (n : Int) L (gamG es n all L L.length) (rowF L.length T)) R) ?_ ?_ 0 (by omega)
   ·rw [midG_zero] at H2;exact H2
   ·show Ev _ _
    rw [Ev.iff_succ]
    simp only [impl_guardGame_resist.l1, Int.lt_irrefl, ↓reduceIte, midG_end]
    exact hR
   ·intro i hi ih
    show Ev _ _
    rw [Ev.iff_succ]
    have h1 : (i : Int) < (L.length : Int) := by omega
    have h2 : (0 : Int) ≤ (i : Int) := by omega
    rw [grewG_succ] at ih
    simp only [impl_guardGame_resist.l1, Ev.ite_iff, h1, h2, ↓reduceIte, rowF_len, rowF_rd hi, rdL2_nat, w64_succ i (show i < 9223372036854775807 by omega)]
    by_cases c : T i < 0
    case neg =>
     rw [if_pos (by omega), midG_keep (by simp [c])]
     rw [decide_eq_false c, Bool.false_and, Bool.or_false] at ih
     exact ih
    rw [if_neg (by omega)]
    rw [decide_eq_true c, Bool.true_and] at ih
    have hs := gm_short G hi
    have H3 := down n (fun x => (((List.range n).drop x).any fun x => !hasG L i (x : Int) && (ansG es n all L i (x : Int)).all fun j => decide (0 ≤ T j)) = fallG es n all L T i →
     Ev (fun k => impl_guardGame_resist.l2 k (midG es n all L T t i) (t : Int) (grewG es n all L T i) i (grd L i) L (L.length : Int) i (n : Int) x (n : Int) L (gamG es n all L L.length) (rowF L.length T)) R) ?_ ?_ 0 (by omega) rfl
    ·exact H3
    ·intro hf
     rw [List.drop_eq_nil_of_le (by simp)] at hf
     have hf' : fallG es n all L T i = false := hf.symm
     rw [Ev.iff_succ]
     simp only [impl_guardGame_resist.l2, Int.lt_irrefl, ↓reduceIte, w64_succ i (show i < 9223372036854775807 by omega)]
     rw [midG_keep (by simp [hf'])]
     rw [hf', Bool.or_false] at ih
     exact ih
    ·intro x hx ih3 hf
     rw [range_drop hx, List.any_cons] at hf
     rw [Ev.iff_succ]
     have h3 : (x : Int) < (n : Int) := by omega
     simp only [impl_guardGame_resist.l2, h3, ↓reduceIte, w64_succ x (show x < 9223372036854775807 by omega), w64_succ i (show i < 9223372036854775807 by omega)]
     rw [Ev.bind_iff (slicesContains_ev (grd L i) x (by omega)), Ev.ite_iff]
     by_cases cc : (x : Int) ∈ grd L i
     ·rw [if_pos (by simpa using cc)]
      have hc : hasG L i (x : Int) = true := decide_eq_true cc
      rw [hc, Bool.not_true, Bool.false_and, Bool.false_or] at hf
      exact ih3 hf
     ·rw [if_neg (by simpa using cc), answers_eq G all hi]
      have hc : hasG L i (x : Int) = false := decide_eq_false cc
      simp only [Option.bind_some, hasNeg_eq ansG_in, Ev.ite_iff]
      rw [hc, Bool.not_false, Bool.true_and] at hf
      cases ca : (ansG es n all L i (x : Int)).all fun j => decide (0 ≤ T j) with
      | false =>
       rw [if_pos (by decide)]
       rw [ca, Bool.false_or] at hf
       exact ih3 hf
      | true =>
       rw [ca, Bool.true_or] at hf
       rw [if_neg (by decide), if_pos h2, if_pos (by rw [show (midG es n all L T t i).length = L.length from rowF_len _ _];exact h1), Int.toNat_natCast, midG_put hi c hf.symm]
       rw [← hf, Bool.or_true] at ih
       exact ih
  refine H _ ?_
  clear H
 ·rw [grewG_zero hN, grewG_no (grewG_zero hN), Ev.iff_succ]
  simp only [impl_guardGame_resist.l0, Bool.false_eq_true, ↓reduceIte, Ev.now_iff]
  rfl
 ·unfold rndG
  cases hg : grewG es n all L T L.length with
  | true =>
   have h := negG_nxt (es := es) (n := n) (all := all) (L := L) (T := T) (t := t) L.length
   rw [hg, if_pos rfl] at h
   simp only [↓reduceIte, w64_succ t (show t < 9223372036854775807 by omega)]
   exact ihd (t + 1) _ (by omega) (by omega)
  | false =>
   rw [grewG_no hg, Ev.iff_succ]
   simp only [impl_guardGame_resist.l0, Bool.false_eq_true, ↓reduceIte, Ev.now_iff]

/-- The resistances. -/
def rsG (es : List S92) (n : Nat) (all : Bool) (L : List (List Int)) : Nat → Int := rndG es n all L L.length 0 fun _ => -1

theorem resist_ev {es : List S92} {n : Nat} {L : List (List Int)} (G : Gm es n L) (all : Bool) : Ev (fun k => impl_guardGame_resist.f k (n : Int) L (gamG es n all L L.length)) (rowF L.length (rsG es n all L), (n : Int)) := by
 have hm := G.len
 have hrep : slices_Repeat_int_int.f ([(-1)] : List Int) (L.length : Int) = some (rowF L.length (fun _ => -1)) := by
  unfold slices_Repeat_int_int.f
  rw [if_pos ⟨rfl, by omega, by omega⟩, Int.toNat_natCast]
  congr 1
  apply List.ext_getElem <;> simp [rowF, rd]
 unfold impl_guardGame_resist.f
 rw [hrep]
 exact resist_l0 G all L.length 0 _ (by omega) (negG_le _ _)

theorem gameResist_ev {es : List S92} {n k : Nat} (hn : n ≤ 8) (hk : k ≤ n) (all : Bool) : Ev (fun f => impl_gameResist.f f (nets es n) k all) (rowF (gsL n k).length (rsG es n all (gsL n k))) := by
 unfold impl_gameResist.f
 rw [Ev.bind_iff (guardGame_ev hn hk all)]
 rw [Ev.bind_iff (resist_ev (gsL_gm (es := es) hn k) all), Ev.now_iff]

theorem l10Known_ev {es : List S92} {n k : Nat} (hn : n ≤ 8) (he : es.length ≤ 9223372036854775807) (hk : k ≤ n) (all : Bool) : Ev (fun f => spec_l10Known.f f n es k all) (rowF (gsL n k).length (rsG es n all (gsL n k))) := by
 have G := gsL_gm (es := es) hn k
 unfold spec_l10Known.f
 rw [Ev.bind_iff (specGuardSets2_ev hn hk), Ev.bind_iff (l10Table_ev G he all), Ev.bind_iff (l10Resist_ev G all), Ev.now_iff]
 rfl

/-- The sets of the greatest eternal family. -/
def famG (es : List S92) (n : Nat) (all : Bool) (L : List (List Int)) (q : Nat) : List (List Int) := ((List.range q).filter fun i => decide (rsG es n all L i < 0)).map (grd L)

theorem famG_len (es : List S92) (n : Nat) (all : Bool) (L : List (List Int)) (q : Nat) : (famG es n all L q).length ≤ q := by
 have := List.length_filter_le (fun i => decide (rsG es n all L i < 0)) (List.range q)
 rw [List.length_range] at this
 unfold famG
 rw [List.length_map];exact this

theorem famG_succ (es : List S92) (n : Nat) (all : Bool) (L : List (List Int)) (q : Nat) : famG es n all L (q + 1) = famG es n all L q ++ (if rsG es n all L q < 0 then [grd L q] else []) := by
 unfold famG
 rw [filter_range_succ, List.map_append]
 by_cases c : rsG es n all L q < 0 <;> simp [c]

theorem l10Family_ev {es : List S92} {n k : Nat} (hn : n ≤ 8) (he : es.length ≤ 9223372036854775807) (hk : k ≤ n) (all : Bool) : Ev (fun f => spec_l10Family.f f n es k all) (famG es n all (gsL n k) (gsL n k).length) := by
 have G := gsL_gm (es := es) hn k
 unfold spec_l10Family.f
 rw [Ev.bind_iff (specGuardSets2_ev hn hk), Ev.bind_iff (l10Known_ev hn he hk all)]
 generalize gsL n k = L at G ⊢
 have hm := G.len
 have H := down L.length (fun i => Ev (fun f => spec_l10Family.l0 f (famG es n all L i) L (rowF L.length (rsG es n all L)) i) (famG es n all L L.length)) ?_ ?_ 0 (by omega)
 ·exact H
 ·show Ev _ _
  rw [Ev.iff_succ]
  simp only [spec_l10Family.l0, Int.lt_irrefl, ↓reduceIte, Ev.now_iff]
 ·intro i hi ih
  show Ev _ _
  rw [Ev.iff_succ]
  have h1 : (i : Int) < (L.length : Int) := by omega
  have h2 : (0 : Int) ≤ (i : Int) := by omega
  have h3 : (famG es n all L i).length < 5864062014805 := by have := famG_len es n all L i;omega
  rw [famG_succ] at ih
  simp only [spec_l10Family.l0, Ev.ite_iff, h1, h2, h3, ↓reduceIte, rowF_len, rowF_rd hi, rdL2_nat, w64_succ i (show i < 9223372036854775807 by omega)]
  by_cases c : rsG es n all L i < 0
  ·rw [if_pos c];rw [if_pos c] at ih;exact ih
  ·rw [if_neg c];rw [if_neg c, List.append_nil] at ih;exact ih

theorem rndG_ge (es : List S92) (n : Nat) (all : Bool) (L : List (List Int)) : ∀ (d t : Nat) (T : Nat → Int), (∀ i, -1 ≤ T i) → ∀ i, -1 ≤ rndG es n all L d t T i
 | 0, _, _, h, i => h i
 | d + 1, t, T, h, i => by
  unfold rndG
  split
  ·refine rndG_ge es n all L d (t + 1) _ (fun j => ?_) i
   unfold nxtG
   have := h j
   split <;> omega
  ·exact h i

theorem rsG_ge (es : List S92) (n : Nat) (all : Bool) (L : List (List Int)) (i : Nat) : -1 ≤ rsG es n all L i := rndG_ge es n all L _ _ _ (fun _ => by omega) i

/-- What no attack can make fall keeps -1. -/
theorem rndG_keep {es : List S92} {n : Nat} {all : Bool} {L : List (List Int)} {i : Nat} (h : ∀ T, fallG es n all L T i = false) : ∀ (d t : Nat) (T : Nat → Int), T i = -1 → rndG es n all L d t T i = -1
 | 0, _, _, hT => hT
 | d + 1, t, T, hT => by
  unfold rndG
  split
  ·refine rndG_keep h d (t + 1) _ ?_
   unfold nxtG
   rw [if_neg (by simp [h]), hT]
  ·exact hT

theorem cho_all (l : List Int) : cho l l.length = [l] := by
 induction l with
 | nil => rfl
 | cons x l ih => rw [List.length_cons, cho_cons, ih, cho_nil l (l.length + 1) (by omega)];rfl

theorem famG_full {es : List S92} {n : Nat} (hn : n ≤ 8) (all : Bool) : famG es n all (gsL n n) (gsL n n).length ≠ [] := by
 have hf := (bl_len_full n hn (2 ^ n - 1) (by have := Nat.two_pow_pos n;omega)).2 rfl
 have hg : gsL n n = [bl n (2 ^ n - 1)] := by
  have := cho_all (bl n (2 ^ n - 1))
  rw [hf] at this
  exact this
 have hr : rsG es n all (gsL n n) 0 = -1 := rndG_keep (fun T => by
  unfold fallG
  rw [List.any_eq_false]
  intro x hx
  have hx := List.mem_range.1 hx
  have : hasG (gsL n n) 0 (x : Int) = true := by
   unfold hasG grd
   rw [hg]
   exact decide_eq_true (mem_bl_nat.2 ⟨hx, by rw [Nat.testBit_two_pow_sub_one];simpa using hx⟩)
  rw [this]
  simp) _ _ _ rfl
 unfold famG
 rw [hg] at hr ⊢
 simp [hr]

def hasE (es : List S92) (n : Nat) (all : Bool) (k : Nat) : Bool := decide (famG es n all (gsL n k) (gsL n k).length ≠ [])

def firstE (p : Nat → Bool) : Nat → Nat → Nat
 | 0, k => k
 | d + 1, k => if p k then k else firstE p d (k + 1)

def eternalNumberR (n : Int) (es : List S92) (b : Bool) : Int × Bool := if okG n es = true then ((firstE (hasE es n.toNat b) n.toNat 0 : Nat), true) else (0, false)

theorem hasE_row (es : List S92) (n : Nat) (all : Bool) (L : List (List Int)) : decide ((-1 : Int) ∈ rowF L.length (rsG es n all L)) = decide (famG es n all L L.length ≠ []) := by
 rw [decide_eq_decide]
 unfold famG rowF
 rw [List.mem_map, Ne, List.map_eq_nil_iff, List.filter_eq_nil_iff]
 constructor
 ·rintro ⟨i, hi, h⟩ hno
  exact hno i hi (by rw [decide_eq_true_eq, h];omega)
 ·intro h
  simp only [Classical.not_forall, decide_eq_true_eq, Classical.not_not, exists_prop] at h
  obtain ⟨i, hi, h⟩ := h
  have := rsG_ge es n all L i
  exact ⟨i, hi, by omega⟩

theorem l10Number_ev {es : List S92} {n : Nat} (hn : n ≤ 8) (he : es.length ≤ 9223372036854775807) (all : Bool) : ∀ (d k : Nat), k + d = n → Ev (fun f => spec_l10Number.l0 f all k n es) ((firstE (hasE es n all) d k : Nat) : Int)
 | 0, k, h => by
  have hkn : k = n := by omega
  subst hkn
  rw [Ev.iff_succ]
  have hf := famG_full (es := es) hn all
  simp only [spec_l10Number.l0]
  rw [Ev.bind_iff (l10Family_ev hn he (by omega) all), Ev.ite_iff, if_neg (by simpa using hf), Ev.now_iff]
  rfl
 | d + 1, k, h => by
  rw [Ev.iff_succ]
  simp only [spec_l10Number.l0]
  rw [Ev.bind_iff (l10Family_ev hn he (by omega) all), Ev.ite_iff]
  unfold firstE
  by_cases c : famG es n all (gsL n k) (gsL n k).length = []
  ·rw [if_pos (by rw [c];rfl), if_neg (by simp [hasE, c])]
   simp only [w64_succ k (show k < 9223372036854775807 by omega)]
   exact l10Number_ev hn he all d (k + 1) (by omega)
  ·rw [if_neg (by simpa using c), if_pos (by simp [hasE, c]), Ev.now_iff]

theorem eternalNumber_l0 {es : List S92} {n : Nat} (hn : n ≤ 8) (hg : okG n es = true) (all : Bool) : ∀ (d k : Nat), k + d = n → Ev (fun f => impl_EternalNumber.l0 f all ((n + 1 : Nat) : Int) k n es) (((firstE (hasE es n all) d k : Nat) : Int), true)
 | 0, k, h => by
  have hkn : k = n := by omega
  subst hkn
  rw [Ev.iff_succ]
  have hf := famG_full (es := es) hn all
  have h1 : (k : Int) < ((k + 1 : Nat) : Int) := by omega
  have hr := gameResist_ev (es := es) hn (Nat.le_refl k) all
  simp only [impl_EternalNumber.l0, h1, ↓reduceIte, netOf_eq hg, Option.bind_some]
  have hl := (gsL_gm (es := es) hn k).len
  rw [Ev.bind_iff hr, Ev.bind_iff (slicesContains_ev _ (-1) (by rw [rowF_len];omega)), hasE_row, Ev.ite_iff, if_pos (decide_eq_true hf), Ev.now_iff]
  rfl
 | d + 1, k, h => by
  rw [Ev.iff_succ]
  have h1 : (k : Int) < ((n + 1 : Nat) : Int) := by omega
  have hr := gameResist_ev (es := es) hn (show k ≤ n by omega) all
  simp only [impl_EternalNumber.l0, h1, ↓reduceIte, netOf_eq hg, Option.bind_some, w64_succ k (show k < 9223372036854775807 by omega)]
  have hl := (gsL_gm (es := es) hn k).len
  rw [Ev.bind_iff hr, Ev.bind_iff (slicesContains_ev _ (-1) (by rw [rowF_len];omega)), hasE_row, Ev.ite_iff]
  unfold firstE
  by_cases c : famG es n all (gsL n k) (gsL n k).length = []
  ·rw [if_neg (by simpa using c), if_neg (by simp [hasE, c])]
   exact eternalNumber_l0 hn hg all d (k + 1) (by omega)
  ·rw [if_pos (by simpa using c), if_pos (by simp [hasE, c]), Ev.now_iff]

theorem specEternalNumber_ev (n : Int) (es : List S92) (b : Bool) (he : es.length ≤ 9223372036854775807) : Ev (fun k => spec_EternalNumber.f k n es b) (eternalNumberR n es b) := by
 unfold spec_EternalNumber.f eternalNumberR
 rw [l2Good_eq]
 simp only [Option.bind_some, Ev.ite_iff]
 by_cases h : okG n es = true
 ·rw [if_pos h, if_pos h]
  obtain ⟨N, rfl, hN⟩ := okG_use h
  unfold spec_l10Number.f
  rw [Ev.bind_iff (show Ev (fun k => spec_l10Number.l0 k b 0 N es) _ from l10Number_ev hN he b N 0 (by omega)), Ev.now_iff]
  simp only [Int.toNat_natCast]
 ·rw [if_neg h, if_neg h, Ev.now_iff]

theorem implEternalNumber_ev (n : Int) (es : List S92) (b : Bool) : Ev (fun k => impl_EternalNumber.f k n es b) (eternalNumberR n es b) := by
 unfold impl_EternalNumber.f eternalNumberR
 rw [IsGraph_eq]
 simp only [Option.bind_some, Ev.ite_iff]
 by_cases h : okG n es = true
 ·rw [if_pos h, if_pos h]
  obtain ⟨N, rfl, hN⟩ := okG_use h
  rw [w64_succ N (by omega)]
  simp only [Int.toNat_natCast]
  exact eternalNumber_l0 hN h b N 0 (by omega)
 ·rw [if_neg h, if_neg h, Ev.now_iff]

end Go.Proofs.YthbjajppdomhhaaDoor.QEternalNumber
