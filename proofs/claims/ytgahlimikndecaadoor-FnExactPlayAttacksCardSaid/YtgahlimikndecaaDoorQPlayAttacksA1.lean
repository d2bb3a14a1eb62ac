import Derived.Test.YtgahlimikndecaaDoorQPlayAttacks0
import Derived.Test.YtgahlimikndecaaDoorQPlayAttacks1
import Derived.Test.YtgahlimikndecaaDoorQPlayAttacks10
import Derived.Test.YtgahlimikndecaaDoorQPlayAttacks11
import Derived.Test.YtgahlimikndecaaDoorQPlayAttacks3
import Derived.Test.YtgahlimikndecaaDoorQPlayAttacks4
import Derived.Test.YtgahlimikndecaaDoorQPlayAttacks5
import Derived.Test.YtgahlimikndecaaDoorQPlayAttacks6
import Derived.Test.YtgahlimikndecaaDoorQPlayAttacks7
import Derived.Test.YtgahlimikndecaaDoorQPlayAttacks8
import Derived.Test.YtgahlimikndecaaDoorQPlayAttacks9
import Derived.Test.YtgahlimikndecaaDoorQPlayAttacksA0
namespace Go.Proofs.YtgahlimikndecaaDoor.QPlayAttacks
open Go.RowKit Go.Proofs.YtgahlimikndecaaDoorW.PrintWords Go.Proofs.YtgahlimikndecaaDoorW.PrintLast Go.Proofs.YtgahlimikndecaaDoorW.PrintMore
attribute [local go_sem] max2_int min2_int max_two min_two max_three min_three max_four min_four   -- for this text's walks alone
set_option linter.unusedVariables false
set_option linter.unusedSimpArgs false
set_option maxRecDepth 100000
set_option maxHeartbeats 8000000
theorem bl_out {n f t : Nat} : (bl n f).filter (fun x => !decide (x ∈ bl n t)) = bl n (mns f t) := by
 refine asc_ext (asc_of_pairwise (p := none) ((bl_pairwise n f).filter _) (fun q hq => by cases hq)) (bl_asc n _) (fun x => ?_)
 rw [List.mem_filter]
 constructor
 ·rintro ⟨h, h3⟩
  obtain ⟨i, h1, h2, rfl⟩ := mem_bl.1 h
  refine mem_bl.2 ⟨i, h1, ?_, rfl⟩
  simp only [mem_bl_nat, h1, true_and, Bool.not_eq_true', decide_eq_false_iff_not, Bool.not_eq_true] at h3
  rw [mns_bit, h2, h3];rfl
 ·intro h
  obtain ⟨i, h1, h2, rfl⟩ := mem_bl.1 h
  rw [mns_bit, Bool.and_eq_true, Bool.not_eq_true'] at h2
  refine ⟨mem_bl.2 ⟨i, h1, h2.1, rfl⟩, ?_⟩
  simp only [mem_bl_nat, h1, true_and, h2.2];rfl

theorem bl_in2 {n f t : Nat} : (bl n f).filter (fun x => decide (x ∈ bl n t)) = bl n (f &&& t) := by
 refine asc_ext (asc_of_pairwise (p := none) ((bl_pairwise n f).filter _) (fun q hq => by cases hq)) (bl_asc n _) (fun x => ?_)
 rw [List.mem_filter]
 constructor
 ·rintro ⟨h, h3⟩
  obtain ⟨i, h1, h2, rfl⟩ := mem_bl.1 h
  refine mem_bl.2 ⟨i, h1, ?_, rfl⟩
  simp only [mem_bl_nat, h1, true_and, decide_eq_true_eq] at h3
  rw [Nat.testBit_and, h2, h3];rfl
 ·intro h
  obtain ⟨i, h1, h2, rfl⟩ := mem_bl.1 h
  rw [Nat.testBit_and, Bool.and_eq_true] at h2
  refine ⟨mem_bl.2 ⟨i, h1, h2.1, rfl⟩, ?_⟩
  simp only [mem_bl_nat, h1, true_and, h2.2];rfl

theorem len_parts {α : Type} (p : α → Bool) : ∀ l : List α, l.length = (l.filter p).length + (l.filter fun x => !p x).length
 | [] => rfl
 | x :: l => by
  have := len_parts p l
  rw [List.filter_cons, List.filter_cons]
  cases p x <;> simp <;> omega

theorem out_len {n f t : Nat} : (bl n f).length = (bl n (f &&& t)).length + (bl n (mns f t)).length := by
 rw [← bl_in2, ← bl_out]
 exact len_parts (fun x => decide (x ∈ bl n t)) (bl n f)

theorem out_same {n f t : Nat} (h : (bl n f).length = (bl n t).length) : (bl n (mns f t)).length = (bl n (mns t f)).length := by
 have h1 := out_len (n := n) (f := f) (t := t)
 have h2 := out_len (n := n) (f := t) (t := f)
 rw [Nat.and_comm t f] at h2
 omega

theorem l10Moves_l0 {es : List S78} {n f t : Nat} (he : es.length ≤ 9223372036854775807) (hn : n ≤ 8) (hlen : (bl n f).length = (bl n t).length) : ∀ (d i : Nat) (gone come : List Int), i + d = (bl n f).length → gone.length ≤ i → come.length ≤ i →
  gone ++ ((bl n f).drop i).filter (fun x => !decide (x ∈ bl n t)) = bl n (mns f t) → come ++ ((bl n t).drop i).filter (fun x => !decide (x ∈ bl n f)) = bl n (mns t f) →
  Ev (fun k => spec_l10Moves.l0 k (bl n f) (bl n t) gone come (i : Int) n es) (decide ((bl n (mns f t)).length = 1) && near es (rd (bl n (mns f t)) 0) (rd (bl n (mns t f)) 0)) := by
 have hb1 := bl_len_le n f
 have hb2 := bl_len_le n t
 have hb3 : (bl n f).length ≤ 9223372036854775807 := Nat.le_trans hb1 (Nat.le_trans hn (by decide))
 have hb4 : (bl n t).length ≤ 9223372036854775807 := Nat.le_trans hb2 (Nat.le_trans hn (by decide))
 intro d
 induction d with
 | zero =>
  intro i gone come hi _ _ hg hc
  rw [List.drop_eq_nil_of_le (by omega), List.filter_nil, List.append_nil] at hg hc
  have hs := out_same hlen
  rw [Ev.iff_succ]
  simp only [spec_l10Moves.l0, hg, hc]
  rw [Ev.ite_iff, if_neg (by omega), Ev.ite_iff]
  by_cases h1 : (bl n (mns f t)).length = 1
  ·rw [if_pos (by omega), Ev.ite_iff, if_pos (by omega), Ev.ite_iff, if_pos (by omega), Ev.bind_iff (l2Near_ev n es _ _ he), Ev.now_iff, decide_eq_true h1, Bool.true_and]
  ·rw [if_neg (by omega), Ev.now_iff, decide_eq_false h1, Bool.false_and]
 | succ d ih =>
  intro i gone come hi hgl hcl hg hc
  have hif : i < (bl n f).length := by omega
  have hit : i < (bl n t).length := by omega
  have e1 := rd_lt (bl n f) i hif
  have e2 := rd_lt (bl n t) i hit
  rw [List.drop_eq_getElem_cons hif, List.filter_cons] at hg
  rw [List.drop_eq_getElem_cons hit, List.filter_cons] at hc
  generalize (bl n f)[i] = x at e1 hg
  generalize (bl n t)[i] = y at e2 hc
  have g1 : (i : Int) < ((bl n f).length : Int) := by omega
  have g1t : (i : Int) < ((bl n t).length : Int) := by omega
  have g2 : (0 : Int) ≤ (i : Int) := by omega
  have g3 : gone.length < 17592186044416 := by omega
  have g4 : come.length < 17592186044416 := by omega
  have hi7 : i < 9223372036854775807 := by omega
  rw [Ev.iff_succ]
  simp only [spec_l10Moves.l0, Ev.ite_iff, g1, g1t, g2, g3, g4, ↓reduceIte, e1, e2, w64_succ i hi7, Option.bind_some]
  clear e1 e2 g1 g1t g2 g3 g4 hi7
  rw [Ev.bind_iff (l1Has_ev (bl n t) x hb4), Ev.ite_iff]
  by_cases cx : x ∈ bl n t
  ·rw [if_pos (by simpa using cx), Ev.bind_iff (l1Has_ev (bl n f) y hb3), Ev.ite_iff]
   rw [if_neg (by simpa using cx)] at hg
   by_cases cy : y ∈ bl n f
   ·rw [if_pos (by simpa using cy)]
    rw [if_neg (by simpa using cy)] at hc
    exact ih (i + 1) gone come (by omega) (by omega) (by omega) hg hc
   ·rw [if_neg (by simpa using cy)]
    rw [if_pos (by simpa using cy)] at hc
    exact ih (i + 1) gone (come ++ [y]) (by omega) (by omega) (by rw [List.length_append];simp only [List.length_cons, List.length_nil];omega) hg (by rw [List.append_assoc];exact hc)
  ·rw [if_neg (by simpa using cx), Ev.bind_iff (l1Has_ev (bl n f) y hb3), Ev.ite_iff]
   rw [if_pos (by simpa using cx)] at hg
   by_cases cy : y ∈ bl n f
   ·rw [if_pos (by simpa using cy)]
    rw [if_neg (by simpa using cy)] at hc
    exact ih (i + 1) (gone ++ [x]) come (by omega) (by rw [List.length_append];simp only [List.length_cons, List.length_nil];omega) (by omega) (by rw [List.append_assoc];exact hg) hc
   ·rw [if_neg (by simpa using cy)]
    rw [if_pos (by simpa using cy)] at hc
    exact ih (i + 1) (gone ++ [x]) (come ++ [y]) (by omega) (by rw [List.length_append];simp only [List.length_cons, List.length_nil];omega) (by rw [List.length_append];simp only [List.length_cons, List.length_nil];omega) (by rw [List.append_assoc];exact hg) (by rw [List.append_assoc];exact hc)

theorem l10Moves_ev {es : List S78} {n f t : Nat} (he : es.length ≤ 9223372036854775807) (hn : n ≤ 8) (ht : t < 2 ^ n) (all : Bool) (hlen : (bl n f).length = (bl n t).length) : Ev (fun k => spec_l10Moves.f k n es (bl n f) (bl n t) all) (movesM es n f t all) := by
 unfold spec_l10Moves.f movesM
 cases all with
 | true =>
  simp only [↓reduceIte]
  have h8 := bl_len_le n f
  rw [bl_map n f, List.length_map] at h8
  have := l10Matches_ev (es := es) hn he ((List.range n).filter fun x => f.testBit x) t (fun g hg => List.mem_range.1 (List.mem_filter.1 hg).1) (by omega) ((List.range n).filter fun x => f.testBit x).length 0 [] t (by omega) (by simp) ht (fun i hi => by simp)
  rw [List.drop_zero] at this
  rw [Ev.bind_iff (show Ev (fun k => spec_l10Matches.f k n es (bl n f) (bl n t) 0 []) _ from this), Ev.now_iff]
 | false =>
  simp only [Bool.false_eq_true, ↓reduceIte]
  exact l10Moves_l0 he hn hlen (bl n f).length 0 [] [] (by omega) (by simp) (by simp) (by rw [List.drop_zero, List.nil_append];exact bl_out) (by rw [List.drop_zero, List.nil_append];exact bl_out)

theorem one_of_len {n m : Nat} (hm : m < 2 ^ n) (h : (bl n m).length = 1) : bl n m = [((lowM n m : Nat) : Int)] := by
 have h0 : m ≠ 0 := by
  intro e;subst e
  have : bl n 0 = [] := by unfold bl;simp
  rw [this] at h;simp at h
 obtain ⟨h1, h2⟩ := lowM_use hm h0
 have hin := mem_bl_nat.2 ⟨h1, h2⟩
 obtain ⟨a, ha⟩ := List.length_eq_one_iff.1 h
 rw [ha] at hin ⊢
 rw [List.mem_singleton.1 hin]

theorem canMoveGuards_ev {es : List S78} {n f t : Nat} (hn : n ≤ 8) (hf : f < 2 ^ n) (ht : t < 2 ^ n) (all : Bool) (hlen : (bl n f).length = (bl n t).length) : Ev (fun k => impl_net_canMoveGuards.f k (nets es n) (f : Int) (t : Int) all) (movesM es n f t all) := by
 unfold impl_net_canMoveGuards.f movesM
 cases all with
 | true =>
  simp only [↓reduceIte]
  rw [Ev.bind_iff (setOf_ev n f hn hf), bl_map n f, Ev.bind_iff (canMatch_ev hn _ t (fun g hg => List.mem_range.1 (List.mem_filter.1 hg).1) ht), Ev.now_iff]
 | false =>
  have hgl := mns_lt (n := n) t hf
  have hcl := mns_lt (n := n) f ht
  simp only [Bool.false_eq_true, ↓reduceIte]
  rw [gandn _ _ (lt62 hn hf) (lt62 hn ht), gandn _ _ (lt62 hn ht) (lt62 hn hf), ones_bl hn hgl]
  simp only [Option.bind_some, Ev.ite_iff]
  by_cases h1 : (bl n (mns f t)).length = 1
  ·have hg := one_of_len hgl h1
   have hc := one_of_len hcl (by rw [← out_same hlen];exact h1)
   have h0 : mns f t ≠ 0 := by
    intro e;rw [e] at h1
    have : bl n 0 = [] := by unfold bl;simp
    rw [this] at h1;simp at h1
   have h0c : mns t f ≠ 0 := by
    intro e;rw [e] at hc
    have : bl n 0 = [] := by unfold bl;simp
    rw [this] at hc;simp at hc
   obtain ⟨hgn, hgb⟩ := lowM_use hgl h0
   obtain ⟨hcn, hcb⟩ := lowM_use hcl h0c
   rw [if_pos (by omega), tz_ev hn hgl h0]
   simp only [Option.bind_some, Ev.ite_iff, nets_len]
   rw [if_pos (by omega), if_pos (by omega), Ev.now_iff, nets_rd hgn, gand _ _ (lt62 hn (nb_lt _ _ _)) (lt62 hn hcl), decide_eq_true h1, Bool.true_and, hg, hc]
   show (((nb es n (lowM n (mns f t)) &&& mns t f : Nat) : Int) != 0) = near es (lowM n (mns f t) : Nat) (lowM n (mns t f) : Nat)
   have hbit := nb_bit es n (lowM n (mns f t)) (lowM n (mns t f))
   cases hnr : near es (lowM n (mns f t) : Nat) (lowM n (mns t f) : Nat) with
   | true =>
    have : nb es n (lowM n (mns f t)) &&& mns t f ≠ 0 := by
     intro e
     have h3 := congrArg (fun z => z.testBit (lowM n (mns t f))) e
     simp only [Nat.testBit_and, hbit, hnr, hcb, Nat.zero_testBit, Bool.and_true] at h3
     simp [hcn] at h3
    simp only [bne_iff_ne, ne_eq];omega
   | false =>
    have : nb es n (lowM n (mns f t)) &&& mns t f = 0 := by
     refine Nat.eq_of_testBit_eq (fun i => ?_)
     rw [Nat.testBit_and, Nat.zero_testBit]
     by_cases hi : (mns t f).testBit i = true
     ·have hin : i < n := by
       rcases Nat.lt_or_ge i n with g | g
       ·exact g
       ·rw [bit_lt hcl g] at hi;cases hi
      have hm := mem_bl_nat.2 ⟨hin, hi⟩
      rw [hc, List.mem_singleton] at hm
      have : i = lowM n (mns t f) := by omega
      rw [this, hbit, hnr];simp
     ·rw [Bool.eq_false_iff.2 hi, Bool.and_false]
    rw [this];rfl
  ·rw [if_neg (by omega), Ev.now_iff, decide_eq_false h1, Bool.false_and]

def nI (l : List Nat) : List Int := l.map (fun z : Nat => (z : Int))

theorem nI_len (l : List Nat) : (nI l).length = l.length := by simp [nI]

theorem rd_nI (l : List Nat) (i : Nat) (h : i < l.length) : rd (nI l) (i : Int) = ((l[i] : Nat) : Int) := by
 rw [rd_lt _ i (by rw [nI_len];exact h)];simp [nI]

def grd (L : List (List Int)) (i : Nat) : List Int := L.getD i []

theorem rdL2_nat (L : List (List Int)) (i : Nat) : rd_L2 L (i : Int) = grd L i := rfl

theorem grd_lt {L : List (List Int)} {i : Nat} (h : i < L.length) : grd L i = L[i] := by simp [grd, h]

def hasG (L : List (List Int)) (j : Nat) (x : Int) : Bool := decide (x ∈ grd L j)

def mvG (es : List S78) (n : Nat) (all : Bool) (L : List (List Int)) (i j : Nat) : Bool := movesM es n (mL (grd L i)) (mL (grd L j)) all

def ansG (es : List S78) (n : Nat) (all : Bool) (L : List (List Int)) (i : Nat) (x : Int) : List Nat := (List.range L.length).filter fun j => hasG L j x && mvG es n all L i j

def mvsG (es : List S78) (n : Nat) (all : Bool) (L : List (List Int)) (i : Nat) : List Nat := (List.range L.length).filter fun j => mvG es n all L i j

structure Gm (es : List S78) (n : Nat) (L : List (List Int)) : Prop where
 hn : n ≤ 8
 len : L.length ≤ 256
 row : ∀ i, i < L.length → ∃ m, m < 2 ^ n ∧ grd L i = bl n m
 same : ∀ i j, i < L.length → j < L.length → (grd L i).length = (grd L j).length

theorem gm_short {es : List S78} {n : Nat} {L : List (List Int)} (G : Gm es n L) {i : Nat} (hi : i < L.length) : (grd L i).length ≤ 8 := by
 obtain ⟨m, _, h⟩ := G.row i hi
 have := bl_len_le n m
 have := G.hn
 rw [h];omega

theorem nI_app (l m : List Nat) : nI (l ++ m) = nI l ++ nI m := by simp [nI]

theorem nI_filter_len (m : Nat) (p : Nat → Bool) : (nI ((List.range m).filter p)).length ≤ m := by
 have := List.length_filter_le p (List.range m)
 rw [List.length_range] at this
 rw [nI_len];exact this

theorem cho_sublist : ∀ (l : List Int) (k : Nat), ∀ t ∈ cho l k, List.Sublist t l
 | l, 0 => by rw [cho_zero];intro t ht;rw [List.mem_singleton.1 ht];exact List.nil_sublist _
 | [], k + 1 => by simp [cho]
 | x :: s, k + 1 => by
  intro t ht
  rw [cho_cons, List.mem_append, List.mem_map] at ht
  rcases ht with ⟨u, hu, rfl⟩ | ht
  ·exact (cho_sublist s k u hu).cons_cons x
  ·exact (cho_sublist s (k + 1) t ht).cons x

theorem sub_bl {n : Nat} {t : List Int} (h : List.Sublist t (bl n (2 ^ n - 1))) : mL t < 2 ^ n ∧ t = bl n (mL t) := by
 have h1 : ∀ x ∈ t, 0 ≤ x ∧ x < n := fun x hx => by
  obtain ⟨i, hi, _, rfl⟩ := mem_bl.1 (h.subset hx)
  omega
 have h2 : allIn 0 ((n : Int) - 1) t = true := by
  unfold allIn
  rw [List.all_eq_true]
  intro x hx
  have := h1 x hx
  simp only [decide_eq_true_eq]
  omega
 exact ⟨mL_lt h1, bl_of_asc h2 (asc_of_pairwise (p := none) ((bl_pairwise n _).sublist h) (fun q hq => by cases hq))⟩

def gsL (n k : Nat) : List (List Int) := cho (bl n (2 ^ n - 1)) k

theorem gsL_gm {es : List S78} {n : Nat} (hn : n ≤ 8) (k : Nat) : Gm es n (gsL n k) := by
 have hb := bl_len_le n (2 ^ n - 1)
 have hm : ∀ i, i < (gsL n k).length → grd (gsL n k) i ∈ gsL n k := fun i hi => by rw [grd_lt hi];exact List.getElem_mem hi
 refine ⟨hn, ?_, fun i hi => ⟨_, sub_bl (cho_sublist _ _ _ (hm i hi))⟩, fun i j hi hj => ?_⟩
 ·have h1 := cho_len (bl n (2 ^ n - 1)) k
  have h2 := p8 (show (bl n (2 ^ n - 1)).length ≤ 8 by omega)
  unfold gsL
  omega
 ·rw [cho_mem_len _ _ _ (hm i hi), cho_mem_len _ _ _ (hm j hj)]

theorem gm_spec {es : List S78} {n : Nat} {L : List (List Int)} (G : Gm es n L) (he : es.length ≤ 9223372036854775807) (all : Bool) {i j : Nat} (hi : i < L.length) (hj : j < L.length) : Ev (fun k => spec_l10Moves.f k n es (grd L i) (grd L j) all) (mvG es n all L i j) := by
 obtain ⟨f, hf, e1⟩ := G.row i hi
 obtain ⟨t, ht, e2⟩ := G.row j hj
 have hs := G.same i j hi hj
 unfold mvG
 rw [e1, e2] at hs ⊢
 rw [mL_bl hf, mL_bl ht]
 exact l10Moves_ev he G.hn ht all hs

theorem gm_impl {es : List S78} {n : Nat} {L : List (List Int)} (G : Gm es n L) (all : Bool) {i j : Nat} (hi : i < L.length) (hj : j < L.length) : Ev (fun k => impl_net_canMoveGuards.f k (nets es n) ((mL (grd L i) : Nat) : Int) ((mL (grd L j) : Nat) : Int) all) (mvG es n all L i j) := by
 obtain ⟨f, hf, e1⟩ := G.row i hi
 obtain ⟨t, ht, e2⟩ := G.row j hj
 have hs := G.same i j hi hj
 unfold mvG
 rw [e1, e2] at hs ⊢
 rw [mL_bl hf, mL_bl ht]
 exact canMoveGuards_ev G.hn hf ht all hs

theorem l10Answers_ev {es : List S78} {n : Nat} {L : List (List Int)} (G : Gm es n L) (he : es.length ≤ 9223372036854775807) (all : Bool) {i : Nat} (hi : i < L.length) (x : Int) : Ev (fun k => spec_l10Answers.f k n es L i x all) (nI (ansG es n all L i x)) := by
 unfold spec_l10Answers.f
 have hm := G.len
 have H := down L.length (fun j => Ev (fun k => spec_l10Answers.l0 k L i x all (nI ((List.range j).filter fun j => hasG L j x && mvG es n all L i j)) j n es) (nI (ansG es n all L i x))) ?_ ?_ 0 (by omega)
 ·exact H
 ·show Ev _ _
  rw [Ev.iff_succ]
  simp only [spec_l10Answers.l0, Int.lt_irrefl, ↓reduceIte, Ev.now_iff]
  rfl
 ·intro j hj ih
  show Ev _ _
  rw [Ev.iff_succ]
  have h1 : (j : Int) < (L.length : Int) := by omega
  have h2 : (0 : Int) ≤ (j : Int) := by omega
  have h3 : (i : Int) < (L.length : Int) := by omega
  have h4 : (0 : Int) ≤ (i : Int) := by omega
  have h5 : (nI ((List.range j).filter fun j => hasG L j x && mvG es n all L i j)).length < 17592186044416 := by
   have := nI_filter_len j (fun j => hasG L j x && mvG es n all L i j);omega
  have hs := gm_short G hj
  rw [filter_range_succ, nI_app] at ih
  simp only [spec_l10Answers.l0, Ev.ite_iff, h1, h2, h3, h4, h5, ↓reduceIte, rdL2_nat, w64_succ j (show j < 9223372036854775807 by omega)]
  rw [Ev.bind_iff (l1Has_ev (grd L j) x (by omega)), Ev.ite_iff]
  by_cases c : x ∈ grd L j
  ·rw [if_pos (by simpa using c), Ev.bind_iff (gm_spec G he all hi hj), Ev.ite_iff]
   have hc : hasG L j x = true := decide_eq_true c
   rw [hc, Bool.true_and] at ih
   cases hv : mvG es n all L i j with
   | true => rw [if_pos rfl];rw [hv, if_pos rfl] at ih;exact ih
   | false => rw [if_neg (by decide)];rw [hv, if_neg (by decide), show nI ([] : List Nat) = [] from rfl, List.append_nil] at ih;exact ih
  ·rw [if_neg (by simpa using c)]
   have hc : hasG L j x = false := decide_eq_false c
   rw [hc, Bool.false_and, if_neg (by decide), show nI ([] : List Nat) = [] from rfl, List.append_nil] at ih
   exact ih

def tblRow (es : List S78) (n : Nat) (all : Bool) (L : List (List Int)) (i q : Nat) : List (List Int) := (List.range q).map fun x : Nat => if hasG L i (x : Int) then [] else nI (ansG es n all L i (x : Int))

def tblG (es : List S78) (n : Nat) (all : Bool) (L : List (List Int)) (q : Nat) : List (List (List Int)) := (List.range q).map fun i => tblRow es n all L i n

theorem tblRow_len (es : List S78) (n : Nat) (all : Bool) (L : List (List Int)) (i q : Nat) : (tblRow es n all L i q).length = q := by simp [tblRow]

theorem tblG_len (es : List S78) (n : Nat) (all : Bool) (L : List (List Int)) (q : Nat) : (tblG es n all L q).length = q := by simp [tblG]

theorem tblG_rd {es : List S78} {n : Nat} {all : Bool} {L : List (List Int)} {q i : Nat} (h : i < q) : rd_L3 (tblG es n all L q) (i : Int) = tblRow es n all L i n := by simp [rd_L3, tblG, h]

theorem tblRow_rd {es : List S78} {n : Nat} {all : Bool} {L : List (List Int)} {i q x : Nat} (h : x < q) (hc : hasG L i (x : Int) = false) : rd_L2 (tblRow es n all L i q) (x : Int) = nI (ansG es n all L i (x : Int)) := by simp [rd_L2, tblRow, h, hc]

theorem l10Table_ev {es : List S78} {n : Nat} {L : List (List Int)} (G : Gm es n L) (he : es.length ≤ 9223372036854775807) (all : Bool) : Ev (fun k => spec_l10Table.f k n es L all) (tblG es n all L L.length) := by
 unfold spec_l10Table.f
 have hm := G.len
 have hn := G.hn
 have H := down L.length (fun i => Ev (fun k => spec_l10Table.l0 k L all (tblG es n all L i) i n es) (tblG es n all L L.length)) ?_ ?_ 0 (by omega)
 ·exact H
 ·show Ev _ _
  rw [Ev.iff_succ]
  simp only [spec_l10Table.l0, Int.lt_irrefl, ↓reduceIte, Ev.now_iff]
 ·intro i hi ih
  show Ev _ _
  rw [Ev.iff_succ]
  have h1 : (i : Int) < (L.length : Int) := by omega
  simp only [spec_l10Table.l0, h1, ↓reduceIte]
  have H2 := down n (fun x => Ev (fun k => spec_l10Table.l1 k L all (tblG es n all L i) i (tblRow es n all L i x) x n es) (tblG es n all L L.length)) ?_ ?_ 0 (by omega)
  ·exact H2
  ·show Ev _ _
   rw [Ev.iff_succ]
   have h2 : (tblG es n all L i).length < 5864062014805 := by rw [tblG_len];omega
   have h3 : tblG es n all L i ++ [tblRow es n all L i n] = tblG es n all L (i + 1) := by simp [tblG, List.range_succ]
   simp only [spec_l10Table.l1, Int.lt_irrefl, ↓reduceIte, h2, h3, w64_succ i (show i < 9223372036854775807 by omega)]
   exact ih
  ·intro x hx ih2
   show Ev _ _
   rw [Ev.iff_succ]
   have h2 : (x : Int) < (n : Int) := by omega
   have h3 : (0 : Int) ≤ (i : Int) := by omega
   have h4 : (tblRow es n all L i x).length < 5864062014805 := by rw [tblRow_len];omega
   have hs := gm_short G hi
   have h5 : tblRow es n all L i (x + 1) = tblRow es n all L i x ++ [if hasG L i (x : Int) then [] else nI (ansG es n all L i (x : Int))] := by simp [tblRow, List.range_succ]
   rw [h5] at ih2
   simp only [spec_l10Table.l1, Ev.ite_iff, h1, h2, h3, h4, ↓reduceIte, rdL2_nat, w64_succ x (show x < 9223372036854775807 by omega)]
   rw [Ev.bind_iff (l1Has_ev (grd L i) x (by omega)), Ev.ite_iff]
   by_cases c : (x : Int) ∈ grd L i
   ·rw [if_pos (by simpa using c)]
    have hc : hasG L i (x : Int) = true := decide_eq_true c
    rw [hc, if_pos rfl] at ih2
    exact ih2
   ·rw [if_neg (by simpa using c), Ev.bind_iff (l10Answers_ev G he all hi x)]
    have hc : hasG L i (x : Int) = false := decide_eq_false c
    rw [hc, if_neg (by decide)] at ih2
    exact ih2

def aftG (T : Nat → Int) : Int → List Nat → Int
 | b, [] => b
 | b, j :: l => if T j < 0 then -1 else aftG T (if b > T j then b else T j) l

theorem l10After_ev {m : Nat} {T : Nat → Int} {l : List Nat} (hm : m ≤ 256) (hl : l.length ≤ 256) (h : ∀ j ∈ l, j < m) : Ev (fun k => spec_l10After.f k (nI l) (rowF m T)) (aftG T 0 l, decide (0 < l.length)) := by
 unfold spec_l10After.f
 have H := down l.length (fun i => ∀ b, Ev (fun k => spec_l10After.l0 k (nI l) (rowF m T) b i) (aftG T b (l.drop i), decide (0 < l.length))) ?_ ?_ 0 (by omega) 0
 ·simpa using H
 ·intro b
  rw [Ev.iff_succ]
  simp only [spec_l10After.l0, nI_len, Int.lt_irrefl, ↓reduceIte, Ev.now_iff, List.drop_length, aftG, Prod.mk.injEq, true_and]
  rw [decide_eq_decide];omega
 ·intro i hi ih b
  rw [Ev.iff_succ]
  have hj := h l[i] (List.getElem_mem hi)
  have h1 : (i : Int) < ((nI l).length : Int) := by rw [nI_len];omega
  have h2 : (0 : Int) ≤ (i : Int) := by omega
  have h3 : ((l[i] : Nat) : Int) < ((rowF m T).length : Int) := by rw [rowF_len];omega
  have h4 : (0 : Int) ≤ ((l[i] : Nat) : Int) := by omega
  rw [List.drop_eq_getElem_cons hi, aftG]
  simp only [spec_l10After.l0, Ev.ite_iff, h1, h2, h3, h4, ↓reduceIte, rd_nI l i hi, rowF_rd hj, l1Most_eq, Option.bind_some, w64_succ i (show i < 9223372036854775807 by omega)]
  by_cases c : T l[i] < 0
  ·rw [if_pos c, if_pos c, Ev.now_iff, decide_eq_true (by omega)]
  ·rw [if_neg c, if_neg c]
   exact ih _

theorem aftG_nonneg {T : Nat → Int} : ∀ (l : List Nat) (b : Int), 0 ≤ b → (decide (0 ≤ aftG T b l) = l.all fun j => decide (0 ≤ T j))
 | [], b, hb => by simp [aftG, hb]
 | j :: l, b, hb => by
  rw [aftG, List.all_cons]
  by_cases c : T j < 0
  ·rw [if_pos c, decide_eq_false (show ¬ (0 : Int) ≤ T j by omega), Bool.false_and];rfl
  ·rw [if_neg c, decide_eq_true (show (0 : Int) ≤ T j by omega), Bool.true_and]
   exact aftG_nonneg l _ (by split <;> omega)

def fallG (es : List S78) (n : Nat) (all : Bool) (L : List (List Int)) (T : Nat → Int) (i : Nat) : Bool := (List.range n).any fun x => !hasG L i (x : Int) && (ansG es n all L i (x : Int)).all fun j => decide (0 ≤ T j)

theorem range_drop {n x : Nat} (h : x < n) : (List.range n).drop x = x :: (List.range n).drop (x + 1) := by
 rw [List.drop_eq_getElem_cons (by simpa using h), List.getElem_range]

theorem ansG_in {es : List S78} {n : Nat} {all : Bool} {L : List (List Int)} {i : Nat} {x : Int} : ∀ j ∈ ansG es n all L i x, j < L.length := fun j hj => List.mem_range.1 (List.mem_filter.1 hj).1

theorem ansG_len {es : List S78} {n : Nat} {all : Bool} {L : List (List Int)} {i : Nat} {x : Int} : (ansG es n all L i x).length ≤ L.length := by
 have := List.length_filter_le (fun j => hasG L j x && mvG es n all L i j) (List.range L.length)
 rw [List.length_range] at this
 exact this

theorem l10Falls_ev {es : List S78} {n : Nat} {L : List (List Int)} (G : Gm es n L) (all : Bool) (T : Nat → Int) {i : Nat} (hi : i < L.length) : Ev (fun k => spec_l10Falls.f k (grd L i) (tblRow es n all L i n) (rowF L.length T)) (fallG es n all L T i) := by
 unfold spec_l10Falls.f
 have hn := G.hn
 have hm := G.len
 have hs := gm_short G hi
 have H := down n (fun x => Ev (fun k => spec_l10Falls.l0 k (grd L i) (tblRow es n all L i n) (rowF L.length T) x) (((List.range n).drop x).any fun x => !hasG L i (x : Int) && (ansG es n all L i (x : Int)).all fun j => decide (0 ≤ T j))) ?_ ?_ 0 (by omega)
 ·exact H
 ·show Ev _ _
  rw [Ev.iff_succ]
  simp only [spec_l10Falls.l0, tblRow_len, Int.lt_irrefl, ↓reduceIte, Ev.now_iff]
  rw [List.drop_eq_nil_of_le (by simp)]
  rfl
 ·intro x hx ih
  show Ev _ _
  rw [Ev.iff_succ]
  have h1 : (x : Int) < ((tblRow es n all L i n).length : Int) := by rw [tblRow_len];omega
  have h2 : (0 : Int) ≤ (x : Int) := by omega
  rw [range_drop hx, List.any_cons]
  simp only [spec_l10Falls.l0, h1, h2, ↓reduceIte, w64_succ x (show x < 9223372036854775807 by omega)]
  rw [Ev.bind_iff (l1Has_ev (grd L i) x (by omega)), Ev.ite_iff]
  by_cases c : (x : Int) ∈ grd L i
  ·rw [if_pos (by simpa using c)]
   have hc : hasG L i (x : Int) = true := decide_eq_true c
   rw [hc, Bool.not_true, Bool.false_and, Bool.false_or]
   exact ih
  ·rw [if_neg (by simpa using c)]
   have hc : hasG L i (x : Int) = false := decide_eq_false c
   rw [tblRow_rd hx hc, hc, Bool.not_false, Bool.true_and, Ev.bind_iff (l10After_ev hm (Nat.le_trans ansG_len hm) ansG_in)]
   have ha := aftG_nonneg (T := T) (ansG es n all L i (x : Int)) 0 (by omega)
   rw [← ha]
   simp only [Ev.ite_iff]
   by_cases c1 : 0 < (ansG es n all L i (x : Int)).length
   ·rw [if_pos (decide_eq_true c1)]
    by_cases c2 : 0 ≤ aftG T 0 (ansG es n all L i (x : Int))
    ·rw [if_pos c2, Ev.now_iff, decide_eq_true c2, Bool.true_or]
    ·rw [if_neg (by omega), decide_eq_false c2, Bool.false_or]
     exact ih
   ·rw [if_neg (by simpa using c1)]
    rw [ha, List.length_eq_zero_iff.1 (Nat.eq_zero_of_not_pos c1)]
    simp [Ev.now_iff]

def grewG (es : List S78) (n : Nat) (all : Bool) (L : List (List Int)) (T : Nat → Int) (q : Nat) : Bool := (List.range q).any fun i => decide (T i < 0) && fallG es n all L T i

def nxtG (es : List S78) (n : Nat) (all : Bool) (L : List (List Int)) (T : Nat → Int) (t : Nat) : Nat → Int := fun i => if T i < 0 ∧ fallG es n all L T i = true then (t : Int) else T i

def rndG (es : List S78) (n : Nat) (all : Bool) (L : List (List Int)) : Nat → Nat → (Nat → Int) → Nat → Int
 | 0, _, T => T
 | d + 1, t, T => if grewG es n all L T L.length then rndG es n all L d (t + 1) (nxtG es n all L T t) else T

def negG (T : Nat → Int) (m : Nat) : Nat := ((List.range m).filter fun i => decide (T i < 0)).length

theorem negG_le (T : Nat → Int) (m : Nat) : negG T m ≤ m := by
 have := List.length_filter_le (fun i => decide (T i < 0)) (List.range m)
 rw [List.length_range] at this
 exact this

theorem negG_succ (T : Nat → Int) (m : Nat) : negG T (m + 1) = negG T m + (if T m < 0 then 1 else 0) := by
 unfold negG
 rw [filter_range_succ, List.length_append]
 by_cases c : T m < 0 <;> simp [c]

theorem negG_nxt {es : List S78} {n : Nat} {all : Bool} {L : List (List Int)} {T : Nat → Int} {t : Nat} : ∀ q, negG (nxtG es n all L T t) q + (if grewG es n all L T q then 1 else 0) ≤ negG T q
 | 0 => by simp [negG, grewG]
 | q + 1 => by
  have ih := negG_nxt (es := es) (n := n) (all := all) (L := L) (T := T) (t := t) q
  have hg : grewG es n all L T (q + 1) = (grewG es n all L T q || (decide (T q < 0) && fallG es n all L T q)) := by simp [grewG, List.range_succ]
  rw [negG_succ, negG_succ, hg]
  unfold nxtG at *
  by_cases c1 : T q < 0 <;> by_cases c2 : fallG es n all L T q = true
  ·simp only [c1, c2, and_self, ↓reduceIte, decide_true, Bool.and_self, Bool.or_true]
   have : ¬ ((t : Int) < 0) := by omega
   simp only [this, ↓reduceIte]
   split at ih <;> omega
  ·simp only [c1, c2, and_false, ↓reduceIte, decide_true, Bool.true_and, Bool.or_false]
   split at ih <;> simp_all <;> omega
  ·simp only [c1, false_and, ↓reduceIte, decide_false, Bool.false_and, Bool.or_false]
   simpa using ih
  ·simp only [c1, false_and, ↓reduceIte, decide_false, Bool.false_and, Bool.or_false]
   simpa using ih

theorem grewG_no {es : List S78} {n : Nat} {all : Bool} {L : List (List Int)} {T : Nat → Int} {t m : Nat} (h : grewG es n all L T m = false) : rowF m (nxtG es n all L T t) = rowF m T := rowF_ext fun i hi => by
 unfold grewG at h
 rw [List.any_eq_false] at h
 have := h i (List.mem_range.2 hi)
 unfold nxtG
 rw [if_neg]
 rintro ⟨h1, h2⟩
 exact this (by rw [h2, decide_eq_true h1];rfl)

theorem grewG_zero {es : List S78} {n : Nat} {all : Bool} {L : List (List Int)} {T : Nat → Int} {m : Nat} (h : negG T m ≤ 0) : grewG es n all L T m = false := by
 have := negG_nxt (es := es) (n := n) (all := all) (L := L) (T := T) (t := 0) m
 cases hg : grewG es n all L T m with
 | false => rfl
 | true => rw [hg, if_pos rfl] at this;omega

theorem grewG_succ {es : List S78} {n : Nat} {all : Bool} {L : List (List Int)} {T : Nat → Int} {q : Nat} : grewG es n all L T (q + 1) = (grewG es n all L T q || (decide (T q < 0) && fallG es n all L T q)) := by simp [grewG, List.range_succ]

def midG (es : List S78) (n : Nat) (all : Bool) (L : List (List Int)) (T : Nat → Int) (t i : Nat) : List Int := rowF L.length fun j => if j < i then nxtG es n all L T t j else T j

theorem midG_zero {es : List S78} {n : Nat} {all : Bool} {L : List (List Int)} {T : Nat → Int} {t : Nat} : midG es n all L T t 0 = rowF L.length T := rowF_ext fun i _ => by rw [if_neg (by omega)]

theorem midG_end {es : List S78} {n : Nat} {all : Bool} {L : List (List Int)} {T : Nat → Int} {t : Nat} : midG es n all L T t L.length = rowF L.length (nxtG es n all L T t) := rowF_ext fun i hi => by rw [if_pos hi]

theorem midG_put {es : List S78} {n : Nat} {all : Bool} {L : List (List Int)} {T : Nat → Int} {t i : Nat} (hi : i < L.length) (h1 : T i < 0) (h2 : fallG es n all L T i = true) : (midG es n all L T t i).set i (t : Int) = midG es n all L T t (i + 1) := by
 unfold midG
 rw [rowF_set hi]
 refine rowF_ext fun j _ => ?_
 by_cases c : j = i
 ·subst c
  simp [nxtG, h1, h2]
 ·have : (j < i + 1) ↔ (j < i) := by omega
  simp only [c, this, ↓reduceIte]

theorem midG_keep {es : List S78} {n : Nat} {all : Bool} {L : List (List Int)} {T : Nat → Int} {t i : Nat} (h : ¬ (T i < 0 ∧ fallG es n all L T i = true)) : midG es n all L T t i = midG es n all L T t (i + 1) := by
 refine rowF_ext fun j _ => ?_
 by_cases c : j = i
 ·subst c
  simp [nxtG, h]
 ·have : (j < i + 1) ↔ (j < i) := by omega
  simp only [this]

theorem l10Resist_l1 {es : List S78} {n : Nat} {L : List (List Int)} (G : Gm es n L) (all : Bool) : ∀ (d t : Nat) (T : Nat → Int), t + d ≤ 1000 → negG T L.length ≤ d → Ev (fun k => spec_l10Resist.l1 k L (tblG es n all L L.length) (rowF L.length T) (t : Int)) (rowF L.length (rndG es n all L d t T)) := by
 intro d
 have hm := G.len
 induction d with
 | zero => ?_
 | succ d ihd => ?_
 all_goals
  intro t T ht hN
  rw [Ev.iff_succ]
  simp only [spec_l10Resist.l1, l1Own_eq (show (rowF L.length T).length < 17592186044416 by rw [rowF_len];omega), Option.bind_some]
  have H : ∀ R, Ev (fun k => if grewG es n all L T L.length = true then spec_l10Resist.l1 k L (tblG es n all L L.length) (rowF L.length (nxtG es n all L T t)) (wrap64 ((t : Int) + 1)) else some (rowF L.length (nxtG es n all L T t))) R →
    Ev (fun k => spec_l10Resist.l2 k L (tblG es n all L L.length) (rowF L.length T) (t : Int) (rowF L.length T) false 0) R := by
   intro R hR
   have H2 := down L.length (fun i => Ev (fun k => spec_l10Resist.l2 k L (tblG es n all L L.length) (rowF L.length T) (t : Int) (midG es n all L T t i) (grewG es n all L T i) i) R) ?_ ?_ 0 (by omega)
   ·rw [midG_zero] at H2;exact H2
   ·show Ev _ _
    rw [Ev.iff_succ]
    simp only [spec_l10Resist.l2, Int.lt_irrefl, ↓reduceIte, midG_end]
    exact hR
   ·intro i hi ih
    show Ev _ _
    rw [Ev.iff_succ]
    have h1 : (i : Int) < (L.length : Int) := by omega
    have h2 : (0 : Int) ≤ (i : Int) := by omega
    rw [grewG_succ] at ih
    simp only [spec_l10Resist.l2, Ev.ite_iff, h1, h2, ↓reduceIte, rowF_len, rowF_rd hi, tblG_len, rdL2_nat, tblG_rd hi, w64_succ i (show i < 9223372036854775807 by omega), Int.toNat_natCast, show (midG es n all L T t i).length = L.length from rowF_len _ _]
    by_cases c : T i < 0
    ·rw [if_pos c, Ev.bind_iff (l10Falls_ev G all T hi)]
     simp only [Ev.ite_iff, h1, ↓reduceIte]
     rw [decide_eq_true c, Bool.true_and] at ih
     cases cf : fallG es n all L T i with
     | true => rw [if_pos rfl, midG_put hi c cf];rw [cf, Bool.or_true] at ih;exact ih
     | false => rw [if_neg (by decide), midG_keep (by simp [cf])];rw [cf, Bool.or_false] at ih;exact ih
    ·rw [if_neg c, midG_keep (by simp [c])]
     rw [decide_eq_false c, Bool.false_and, Bool.or_false] at ih
     exact ih
  refine H _ ?_
  clear H
 ·rw [grewG_zero hN, Ev.ite_iff, if_neg (by decide), Ev.now_iff, grewG_no (grewG_zero hN)]
  rfl
 ·rw [Ev.ite_iff]
  unfold rndG
  cases hg : grewG es n all L T L.length with
  | true =>
   have h := negG_nxt (es := es) (n := n) (all := all) (L := L) (T := T) (t := t) L.length
   rw [hg, if_pos rfl] at h
   simp only [↓reduceIte, w64_succ t (show t < 9223372036854775807 by omega)]
   exact ihd (t + 1) _ (by omega) (by omega)
  | false =>
   rw [if_neg (by decide), if_neg (by decide), Ev.now_iff, grewG_no hg]

theorem l10Resist_ev {es : List S78} {n : Nat} {L : List (List Int)} (G : Gm es n L) (all : Bool) : Ev (fun k => spec_l10Resist.f k L (tblG es n all L L.length)) (rowF L.length (rndG es n all L L.length 0 fun _ => -1)) := by
 unfold spec_l10Resist.f
 have hm := G.len
 have H := down L.length (fun i => Ev (fun k => spec_l10Resist.l0 k L (tblG es n all L L.length) (rowF i fun _ => -1) i) (rowF L.length (rndG es n all L L.length 0 fun _ => -1))) ?_ ?_ 0 (by omega)
 ·exact H
 ·show Ev _ _
  rw [Ev.iff_succ]
  simp only [spec_l10Resist.l0, Int.lt_irrefl, ↓reduceIte]
  exact l10Resist_l1 G all L.length 0 _ (by omega) (negG_le _ _)
 ·intro i hi ih
  show Ev _ _
  rw [Ev.iff_succ]
  have h1 : (i : Int) < (L.length : Int) := by omega
  have h2 : (rowF i fun _ => -1).length < 17592186044416 := by rw [rowF_len];omega
  have h3 : (rowF i fun _ => (-1 : Int)) ++ [-1] = rowF (i + 1) fun _ => -1 := by simp [rowF, List.range_succ]
  simp only [spec_l10Resist.l0, h1, h2, h3, ↓reduceIte, w64_succ i (show i < 9223372036854775807 by omega)]
  exact ih

def gamG (es : List S78) (n : Nat) (all : Bool) (L : List (List Int)) (q : Nat) : List (List Int) := (List.range q).map fun i => nI (mvsG es n all L i)

theorem gamG_len (es : List S78) (n : Nat) (all : Bool) (L : List (List Int)) (q : Nat) : (gamG es n all L q).length = q := by simp [gamG]

theorem gamG_rd {es : List S78} {n : Nat} {all : Bool} {L : List (List Int)} {q i : Nat} (h : i < q) : rd_L2 (gamG es n all L q) (i : Int) = nI (mvsG es n all L i) := by simp [rd_L2, gamG, h]

theorem implGuardSets2_ev {n k : Nat} (hn : n ≤ 8) (hk : k ≤ n) : Ev (fun f => impl_guardSets.f f n k) (gsL n k) := by
 have hbl := bl_len_le n (2 ^ n - 1)
 unfold impl_guardSets.f gsL
 rw [Ev.ite_iff, if_pos (by omega), mask_all n hn, Ev.bind_iff (setOf_ev n _ hn (by have := Nat.two_pow_pos n;omega)), Ev.bind_iff (subsetsOf_ev 8 _ k (by omega) (by omega) (by omega)), Ev.now_iff]

theorem specGuardSets2_ev {es : List S78} {n k : Nat} (hn : n ≤ 8) (hk : k ≤ n) : Ev (fun f => spec_l10Sets.f f n es k) (gsL n k) := by
 have hf := (bl_len_full n hn (2 ^ n - 1) (by have := Nat.two_pow_pos n;omega)).2 rfl
 unfold spec_l10Sets.f gsL
 rw [Ev.bind_iff (l2All_ev (es := es) hn), Ev.bind_iff (l8Choices_ev n _ k (by omega) hn (by omega)), Ev.now_iff]

theorem gm_mask {es : List S78} {n : Nat} {L : List (List Int)} (G : Gm es n L) {i : Nat} (hi : i < L.length) : Ev (fun k => impl_maskOf.f k (grd L i)) ((mL (grd L i) : Nat) : Int) := by
 obtain ⟨f, hf, e1⟩ := G.row i hi
 have hs := gm_short G hi
 have hn := G.hn
 refine maskOf_ev (grd L i) (by omega) (fun x hx => ?_)
 rw [e1] at hx
 obtain ⟨j, hj, _, rfl⟩ := mem_bl.1 hx
 omega

theorem guardGame_ev {es : List S78} {n k : Nat} (hn : n ≤ 8) (hk : k ≤ n) (all : Bool) : Ev (fun f => impl_net_guardGame.f f (nets es n) k all) ((n : Int), gsL n k, gamG es n all (gsL n k) (gsL n k).length) := by
 have G := gsL_gm (es := es) hn k
 have hs : impl_net_size.f (nets es n) = some (n : Int) := by unfold impl_net_size.f;rw [nets_len]
 unfold impl_net_guardGame.f
 simp only [hs, Option.bind_some]
 rw [Ev.bind_iff (implGuardSets2_ev hn hk)]
 generalize gsL n k = L at G ⊢
 have hm := G.len
 have H := down L.length (fun i => Ev (fun f => impl_net_guardGame.l0 f all L (L.length : Int) i (nets es n) n L (gamG es n all L i)) ((n : Int), L, gamG es n all L L.length)) ?_ ?_ 0 (by omega)
 ·exact H
 ·show Ev _ _
  rw [Ev.iff_succ]
  simp only [impl_net_guardGame.l0, Int.lt_irrefl, ↓reduceIte, Ev.now_iff]
 ·intro i hi ih
  show Ev _ _
  rw [Ev.iff_succ]
  have h1 : (i : Int) < (L.length : Int) := by omega
  have h2 : (0 : Int) ≤ (i : Int) := by omega
  simp only [impl_net_guardGame.l0, Ev.ite_iff, h1, h2, ↓reduceIte, rdL2_nat]
  have H2 := down L.length (fun j => Ev (fun f => impl_net_guardGame.l1 f all (grd L i) (nI ((List.range j).filter fun j => mvG es n all L i j)) L (L.length : Int) i L (L.length : Int) j (nets es n) n L (gamG es n all L i)) ((n : Int), L, gamG es n all L L.length)) ?_ ?_ 0 (by omega)
  ·exact H2
  ·show Ev _ _
   rw [Ev.iff_succ]
   have h3 : (gamG es n all L i).length < 5864062014805 := by rw [gamG_len];omega
   have h4 : gamG es n all L i ++ [nI ((List.range L.length).filter fun j => mvG es n all L i j)] = gamG es n all L (i + 1) := by simp [gamG, List.range_succ, mvsG]
   simp only [impl_net_guardGame.l1, Int.lt_irrefl, ↓reduceIte, h3, h4, w64_succ i (show i < 9223372036854775807 by omega)]
   exact ih
  ·intro j hj ih2
   show Ev _ _
   rw [Ev.iff_succ]
   have h3 : (j : Int) < (L.length : Int) := by omega
   have h4 : (0 : Int) ≤ (j : Int) := by omega
   have h5 : (nI ((List.range j).filter fun j => mvG es n all L i j)).length < 17592186044416 := by
    have := nI_filter_len j (fun j => mvG es n all L i j);omega
   rw [filter_range_succ, nI_app] at ih2
   simp only [impl_net_guardGame.l1, Ev.ite_iff, h3, h4, ↓reduceIte, rdL2_nat, w64_succ j (show j < 9223372036854775807 by omega)]
   rw [Ev.bind_iff (gm_mask G hi), Ev.bind_iff (gm_mask G hj), Ev.bind_iff (gm_impl G all hi hj)]
   simp only [Ev.ite_iff, h5, ↓reduceIte]
   cases hv : mvG es n all L i j with
   | true => rw [if_pos rfl];rw [hv, if_pos rfl] at ih2;exact ih2
   | false => rw [if_neg (by decide)];rw [hv, if_neg (by decide), show nI ([] : List Nat) = [] from rfl, List.append_nil] at ih2;exact ih2

theorem slicesContains_ev (l : List Int) (x : Int) (hl : l.length ≤ 9223372036854775807) : Ev (fun k => slices_Contains_int_int.f k l x) (decide (x ∈ l)) := by
 unfold slices_Contains_int_int.f slices_Index_int_int.f
 have H := down l.length (fun i => ∃ j : Int, Ev (fun k => slices_Index_int_int.l0 k l x (l.length : Int) i) j ∧ (j ≥ 0 ↔ x ∈ l.drop i)) ?_ ?_ 0 (by omega)
 ·obtain ⟨j, h1, h2⟩ := H
  rw [Ev.bind_iff (show Ev (fun k => slices_Index_int_int.l0 k l x (l.length : Int) 0) j from h1), Ev.now_iff, decide_eq_decide, h2, List.drop_zero]
 ·refine ⟨-1, ?_, by simp⟩
  rw [Ev.iff_succ]
  simp only [slices_Index_int_int.l0, Int.lt_irrefl, ↓reduceIte, Ev.now_iff]
 ·intro i hi ih
  obtain ⟨j, h1, h2⟩ := ih
  have g1 : (i : Int) < (l.length : Int) := by omega
  have g2 : (0 : Int) ≤ (i : Int) := by omega
  by_cases c : x = l[i]
  ·refine ⟨i, ?_, ⟨fun _ => by rw [c, List.drop_eq_getElem_cons hi];exact List.mem_cons_self, fun _ => by omega⟩⟩
   rw [Ev.iff_succ]
   simp only [slices_Index_int_int.l0, Ev.ite_iff, g1, g2, ↓reduceIte, rd_lt l i hi]
   rw [if_pos c, Ev.now_iff]
  ·refine ⟨j, ?_, by rw [h2, List.drop_eq_getElem_cons hi, List.mem_cons];simp [c]⟩
   rw [Ev.iff_succ]
   simp only [slices_Index_int_int.l0, Ev.ite_iff, g1, g2, ↓reduceIte, rd_lt l i hi, w64_succ i (show i < 9223372036854775807 by omega)]
   rw [if_neg c]
   exact h1

theorem answers_eq {es : List S78} {n : Nat} {L : List (List Int)} (G : Gm es n L) (all : Bool) {i : Nat} (hi : i < L.length) (x q : Int) : impl_guardGame_answers.f q L (gamG es n all L L.length) i x = some (nI (ansG es n all L i x), q) := by
 have hm := G.len
 unfold impl_guardGame_answers.f
 have h1 : (mvsG es n all L i).length ≤ L.length := by
  have := List.length_filter_le (fun j => mvG es n all L i j) (List.range L.length)
  rw [List.length_range] at this;exact this
 have h2 : slices_Clone_int_int.f (nI (mvsG es n all L i)) = some (nI (mvsG es n all L i)) := by
  unfold slices_Clone_int_int.f
  simp only [Option.bind_some, List.length_nil, List.nil_append, nI_len]
  rw [if_pos (by omega)]
 rw [if_pos (by omega), if_pos (by rw [gamG_len];omega), gamG_rd hi, h2]
 simp only [Option.bind_some]
 unfold delF
 rw [if_pos]
 ·simp only [Option.bind_some]
  congr 2
  unfold ansG mvsG nI
  rw [List.filter_map, List.filter_filter]
  congr 1
  refine List.filter_congr fun j _ => ?_
  simp only [Function.comp_apply, rdL2_nat, hasG, List.contains_eq_mem]
  rfl
 ·intro y hy
  unfold nI at hy
  obtain ⟨j, hj, rfl⟩ := List.mem_map.1 hy
  have := List.mem_range.1 (List.mem_filter.1 hj).1
  omega

theorem hasNeg_eq {m : Nat} {T : Nat → Int} {l : List Nat} (h : ∀ j ∈ l, j < m) : hasNeg (rowF m T) (nI l) = some (!(l.all fun j => decide (0 ≤ T j))) := by
 unfold hasNeg
 rw [if_pos]
 ·congr 1
  induction l with
  | nil => rfl
  | cons j l ih =>
   have ih := ih (fun i hi => h i (List.mem_cons_of_mem _ hi))
   unfold nI at ih ⊢
   rw [List.map_cons, List.any_cons, ih, List.all_cons, rowF_rd (h j (by simp)), Bool.not_and]
   congr 1
   by_cases c : T j < 0
   ·rw [decide_eq_true c, decide_eq_false (by omega)];rfl
   ·rw [decide_eq_false c, decide_eq_true (by omega)];rfl
 ·intro y hy
  unfold nI at hy
  obtain ⟨j, hj, rfl⟩ := List.mem_map.1 hy
  have := h j hj
  rw [rowF_len]
  omega

theorem cloneI_eq {l : List Int} (h : l.length < 17592186044416) : slices_Clone_int_int.f l = some l := by
 unfold slices_Clone_int_int.f
 simp only [Option.bind_some, List.length_nil, List.nil_append, Nat.zero_add, h, ↓reduceIte]

theorem resist_l0 {es : List S78} {n : Nat} {L : List (List Int)} (G : Gm es n L) (all : Bool) : ∀ (d t : Nat) (T : Nat → Int), t + d ≤ 1000 → negG T L.length ≤ d → Ev (fun k => impl_guardGame_resist.l0 k (rowF L.length T) (t : Int) true (n : Int) L (gamG es n all L L.length)) (rowF L.length (rndG es n all L d t T), (n : Int)) := by
 intro d
 have hm := G.len
 have hn := G.hn
 induction d with
 | zero => ?_
 | succ d ihd => ?_
 all_goals
  intro t T ht hN
  rw [Ev.iff_succ]
  simp only [impl_guardGame_resist.l0, ↓reduceIte, cloneI_eq (show (rowF L.length T).length < 17592186044416 by rw [rowF_len];omega), Option.bind_some]
  have H : ∀ R, Ev (fun k => impl_guardGame_resist.l0 k (rowF L.length (nxtG es n all L T t)) (wrap64 ((t : Int) + 1)) (grewG es n all L T L.length) (n : Int) L (gamG es n all L L.length)) R →
    Ev (fun k => impl_guardGame_resist.l1 k (rowF L.length T) (t : Int) false L (L.length : Int) 0 (n : Int) L (gamG es n all L L.length) (rowF L.length T)) R := by
   intro R hR
   have H2 := down L.length (fun i => Ev (fun k => impl_guardGame_resist.l1 k (midG es n all L T t i) (t : Int) (grewG es n all L T i) L (L.length : Int) i (n : Int) L (gamG es n all L L.length) (rowF L.length T)) R) ?_ ?_ 0 (by omega)
   ·rw [midG_zero] at H2;exact H2
   ·show Ev _ _
    rw [Ev.iff_succ]
    simp only [impl_guardGame_resist.l1, Int.lt_irrefl, ↓reduceIte, midG_end]
    exact hR
   ·intro i hi ih
    show Ev _ _
    rw [Ev.iff_succ]
    have h1 : (i : Int) < (L.length : Int) := by omega
    have h2 : (0 : Int) ≤ (i : Int) := by omega
    rw [grewG_succ] at ih
    simp only [impl_guardGame_resist.l1, Ev.ite_iff, h1, h2, ↓reduceIte, rowF_len, rowF_rd hi, rdL2_nat, w64_succ i (show i < 9223372036854775807 by omega)]
    by_cases c : T i < 0
    case neg =>
     rw [if_pos (by omega), midG_keep (by simp [c])]
     rw [decide_eq_false c, Bool.false_and, Bool.or_false] at ih
     exact ih
    rw [if_neg (by omega)]
    rw [decide_eq_true c, Bool.true_and] at ih
    have hs := gm_short G hi
    have H3 := down n (fun x => (((List.range n).drop x).any fun x => !hasG L i (x : Int) && (ansG es n all L i (x : Int)).all fun j => decide (0 ≤ T j)) = fallG es n all L T i →
     Ev (fun k => impl_guardGame_resist.l2 k (midG es n all L T t i) (t : Int) (grewG es n all L T i) i (grd L i) L (L.length : Int) i (n : Int) x (n : Int) L (gamG es n all L L.length) (rowF L.length T)) R) ?_ ?_ 0 (by omega) rfl
    ·exact H3
    ·intro hf
     rw [List.drop_eq_nil_of_le (by simp)] at hf
     have hf' : fallG es n all L T i = false := hf.symm
     rw [Ev.iff_succ]
     simp only [impl_guardGame_resist.l2, Int.lt_irrefl, ↓reduceIte, w64_succ i (show i < 9223372036854775807 by omega)]
     rw [midG_keep (by simp [hf'])]
     rw [hf', Bool.or_false] at ih
     exact ih
    ·intro x hx ih3 hf
     rw [range_drop hx, List.any_cons] at hf
     rw [Ev.iff_succ]
     have h3 : (x : Int) < (n : Int) := by omega
     simp only [impl_guardGame_resist.l2, h3, ↓reduceIte, w64_succ x (show x < 9223372036854775807 by omega), w64_succ i (show i < 9223372036854775807 by omega)]
     rw [Ev.bind_iff (slicesContains_ev (grd L i) x (by omega)), Ev.ite_iff]
     by_cases cc : (x : Int) ∈ grd L i
     ·rw [if_pos (by simpa using cc)]
      have hc : hasG L i (x : Int) = true := decide_eq_true cc
      rw [hc, Bool.not_true, Bool.false_and, Bool.false_or] at hf
      exact ih3 hf
     ·rw [if_neg (by simpa using cc), answers_eq G all hi]
      have hc : hasG L i (x : Int) = false := decide_eq_false cc
      simp only [Option.bind_some, hasNeg_eq ansG_in, Ev.ite_iff]
      rw [hc, Bool.not_false, Bool.true_and] at hf
      cases ca : (ansG es n all L i (x : Int)).all fun j => decide (0 ≤ T j) with
      | false =>
       rw [if_pos (by decide)]
       rw [ca, Bool.false_or] at hf
       exact ih3 hf
      | true =>
       rw [ca, Bool.true_or] at hf
       rw [if_neg (by decide), if_pos h2, if_pos (by rw [show (midG es n all L T t i).length = L.length from rowF_len _ _];exact h1), Int.toNat_natCast, midG_put hi c hf.symm]
       rw [← hf, Bool.or_true] at ih
       exact ih
  refine H _ ?_
  clear H
 ·rw [grewG_zero hN, grewG_no (grewG_zero hN), Ev.iff_succ]
  simp only [impl_guardGame_resist.l0, Bool.false_eq_true, ↓reduceIte, Ev.now_iff]
  rfl
 ·unfold rndG
  cases hg : grewG es n all L T L.length with
  | true =>
   have h := negG_nxt (es := es) (n := n) (all := all) (L := L) (T := T) (t := t) L.length
   rw [hg, if_pos rfl] at h
   simp only [↓reduceIte, w64_succ t (show t < 9223372036854775807 by omega)]
   exact ihd (t + 1) _ (by omega) (by omega)
  | false =>
   rw [grewG_no hg, Ev.iff_succ]
   simp only [impl_guardGame_resist.l0, Bool.false_eq_true, ↓reduceIte, Ev.now_iff]

def rsG (es : List S78) (n : Nat) (all : Bool) (L : List (List Int)) : Nat → Int := rndG es n all L L.length 0 fun _ => -1

theorem resist_ev {es : List S78} {n : Nat} {L : List (List Int)} (G : Gm es n L) (all : Bool) : Ev (fun k => impl_guardGame_resist.f k (n : Int) L (gamG es n all L L.length)) (rowF L.length (rsG es n all L), (n : Int)) := by
 have hm := G.len
 have hrep : slices_Repeat_int_int.f ([(-1)] : List Int) (L.length : Int) = some (rowF L.length (fun _ => -1)) := by
  unfold slices_Repeat_int_int.f
  rw [if_pos ⟨rfl, by omega, by omega⟩, Int.toNat_natCast]
  congr 1
  apply List.ext_getElem <;> simp [rowF, rd]
 unfold impl_guardGame_resist.f
 rw [hrep]
 exact resist_l0 G all L.length 0 _ (by omega) (negG_le _ _)

theorem cho_sorted : ∀ (l : List Int) (k : Nat), l.Pairwise (· < ·) → (cho l k).Pairwise (fun a b => lexLt a b = true)
 | l, 0, _ => by rw [cho_zero];exact List.pairwise_singleton _ _
 | [], k + 1, _ => by simp [cho]
 | x :: s, k + 1, h => by
  rw [cho_cons, List.pairwise_append]
  have hs := (List.pairwise_cons.1 h)
  refine ⟨?_, cho_sorted s (k + 1) hs.2, ?_⟩
  ·rw [List.pairwise_map]
   exact (cho_sorted s k hs.2).imp (fun {a b} hab => by rw [lexLt_cons, if_pos rfl];exact hab)
  ·intro a ha b hb
   obtain ⟨t, _, rfl⟩ := List.mem_map.1 ha
   have hl := cho_mem_len s (k + 1) b hb
   match b, hl, hb with
   | y :: u, _, hb =>
    have hy := cho_mem_in s (k + 1) _ hb y (by simp)
    have := hs.1 y hy
    rw [lexLt_cons, if_neg (by omega)]
    exact decide_eq_true this

theorem cho_of_sublist {t l : List Int} (h : List.Sublist t l) : t ∈ cho l t.length := by
 induction h with
 | slnil => simp [cho_zero]
 | @cons t s x _ ih =>
  match t, ih with
  | [], _ => simp [cho_zero]
  | a :: u, ih => rw [List.length_cons, cho_cons, List.mem_append];exact .inr ih
 | @cons_cons t s x _ ih => rw [List.length_cons, cho_cons, List.mem_append];exact .inl (List.mem_map.2 ⟨_, ih, rfl⟩)

theorem bl_sublist {n m : Nat} : List.Sublist (bl n m) (bl n (2 ^ n - 1)) := by
 unfold bl
 refine List.Sublist.map _ ?_
 have : (List.range n).filter (fun x => (2 ^ n - 1).testBit x) = List.range n := List.filter_eq_self.2 (fun x hx => by rw [Nat.testBit_two_pow_sub_one];simpa using hx)
 rw [this]
 exact List.filter_sublist

def plcG (n : Nat) (l : List Int) : Nat := (gsL n l.length).idxOf l

theorem plcG_use {n m : Nat} {l : List Int} (h : l = bl n m) : plcG n l < (gsL n l.length).length ∧ grd (gsL n l.length) (plcG n l) = l := by
 have hm : l ∈ gsL n l.length := cho_of_sublist (by rw [h];exact bl_sublist)
 have h1 : plcG n l < (gsL n l.length).length := List.idxOf_lt_length_of_mem hm
 refine ⟨h1, ?_⟩
 rw [grd_lt h1]
 exact List.getElem_idxOf h1

theorem gsL_lt {n k i j : Nat} (hj : j < (gsL n k).length) (h : i < j) : lexLt (grd (gsL n k) i) (grd (gsL n k) j) = true := by
 rw [grd_lt (by omega), grd_lt hj]
 exact List.pairwise_iff_getElem.1 (cho_sorted _ k (bl_pairwise n _)) i j (Nat.lt_trans h hj) hj h

theorem gsL_cmp {n k i j : Nat} (hi : i < (gsL n k).length) (hj : j < (gsL n k).length) : (cmpG (grd (gsL n k) i) (grd (gsL n k) j) < 0 ↔ i < j) := by
 have hm : ∀ q, q < (gsL n k).length → (grd (gsL n k) q).length = k := fun q hq => cho_mem_len _ _ _ (by rw [grd_lt hq];exact List.getElem_mem hq)
 rw [cmpG_eq _ _ (by rw [hm i hi, hm j hj]), cmpL_lt]
 constructor
 ·intro h
  rcases Nat.lt_trichotomy i j with g | g | g
  ·exact g
  ·rw [g, lexLt_irr] at h;cases h
  ·have := lexLt_trans h (gsL_lt hi g)
   rw [lexLt_irr] at this;cases this
 ·exact gsL_lt hj

theorem cmpG_self : ∀ l : List Int, cmpG l l = 0
 | [] => rfl
 | a :: s => by rw [cmpG, if_pos rfl];exact cmpG_self s

theorem mid_eq {lo hi : Nat} (h1 : lo ≤ 256) (h2 : hi ≤ 256) : wrap64 ((IntKind.u64.wrap (wrap64 ((lo : Int) + (hi : Int)))) / 2) = (((lo + hi) / 2 : Nat) : Int) := by
 rw [show wrap64 ((lo : Int) + (hi : Int)) = ((lo + hi : Nat) : Int) by rw [w64] <;> omega, u64_wrap_id (lo + hi) (by omega)]
 rw [w64] <;> omega

theorem search_l0 {n K i : Nat} (hn : n ≤ 8) (hi : i < (gsL n K).length) : ∀ (d lo hi' : Nat), hi' - lo ≤ d → lo ≤ i → i ≤ hi' → hi' ≤ (gsL n K).length → Ev (fun k => slices_BinarySearchFunc_int_int_int.l0 k (gsL n K) (grd (gsL n K) i) ((gsL n K).length : Int) lo hi') ((i : Int), true) := by
 have G := gsL_gm (es := []) hn K
 have hm := G.len
 intro d
 induction d with
 | zero =>
  intro lo hi' h1 h2 h3 h4
  have : lo = i := by omega
  have : hi' = i := by omega
  subst lo hi'
  have g1 : (i : Int) < ((gsL n K).length : Int) := by omega
  have g2 : (0 : Int) ≤ (i : Int) := by omega
  rw [Ev.iff_succ]
  simp only [slices_BinarySearchFunc_int_int_int.l0, Int.lt_irrefl, ↓reduceIte, g1, g2, rdL2_nat]
  have hs := gm_short G hi
  rw [Ev.bind_iff (sliceCompareG_ev _ _ (by omega)), Ev.now_iff, cmpG_self]
  rfl
 | succ d ih =>
  intro lo hi' h1 h2 h3 h4
  by_cases c : lo < hi'
  ·have g1 : (lo : Int) < (hi' : Int) := by omega
   have hmid : (lo + hi') / 2 < (gsL n K).length := by omega
   have g2 : (0 : Int) ≤ (((lo + hi') / 2 : Nat) : Int) := by omega
   have g3 : (((lo + hi') / 2 : Nat) : Int) < ((gsL n K).length : Int) := by omega
   rw [Ev.iff_succ]
   simp only [slices_BinarySearchFunc_int_int_int.l0, g1, ↓reduceIte, mid_eq (show lo ≤ 256 by omega) (show hi' ≤ 256 by omega), g2, g3, rdL2_nat, w64_succ ((lo + hi') / 2) (show (lo + hi') / 2 < 9223372036854775807 by omega)]
   have hs := gm_short G hmid
   rw [Ev.bind_iff (sliceCompareG_ev _ _ (by omega)), Ev.ite_iff]
   have hc := gsL_cmp hmid hi
   have m1 : lo ≤ (lo + hi') / 2 := by omega
   have m2 : (lo + hi') / 2 < hi' := by omega
   generalize (lo + hi') / 2 = md at hc hmid g2 g3 hs m1 m2 ⊢
   by_cases cc : cmpG (grd (gsL n K) md) (grd (gsL n K) i) < 0
   ·rw [if_pos cc]
    exact ih (md + 1) hi' (by omega) (by have := hc.1 cc;omega) h3 h4
   ·rw [if_neg cc]
    exact ih lo md (by omega) h2 (by have : ¬ md < i := fun h => cc (hc.2 h);omega) (by omega)
  ·exact ih lo hi' (by omega) h2 h3 h4

theorem valPlace_ev {n m : Nat} {l : List Int} (hn : n ≤ 8) (h : l = bl n m) (q : Int) (mm : List (List Int)) : Ev (fun k => impl_valPlace.f k q (gsL n l.length) mm l) ((plcG n l : Nat) : Int) := by
 obtain ⟨h1, h2⟩ := plcG_use h
 have H := search_l0 hn h1 (gsL n l.length).length 0 (gsL n l.length).length (by omega) (by omega) (by omega) (Nat.le_refl _)
 rw [h2] at H
 unfold impl_valPlace.f slices_BinarySearchFunc_int_int_int.f
 rw [Ev.bind_iff (show Ev (fun k => slices_BinarySearchFunc_int_int_int.l0 k (gsL n l.length) l ((gsL n l.length).length : Int) 0 ((gsL n l.length).length : Int)) _ from H), Ev.now_iff]

theorem l1Same_ev (a b : List Int) (ha : a.length ≤ 9223372036854775807) : Ev (fun k => spec_l1Same.f k a b) (decide (a = b)) := by
 unfold spec_l1Same.f
 rw [Ev.ite_iff]
 by_cases h : a.length = b.length
 ·rw [if_pos (by omega)]
  have H := down a.length (fun i => Ev (fun k => spec_l1Same.l0 k a b i) (decide (a.drop i = b.drop i))) ?_ ?_ 0 (by omega)
  ·exact H
  ·show Ev _ _
   rw [Ev.iff_succ]
   simp only [spec_l1Same.l0, Int.lt_irrefl, ↓reduceIte, Ev.now_iff]
   rw [List.drop_length, List.drop_eq_nil_of_le (by omega)]
   rfl
  ·intro i hi ih
   show Ev _ _
   rw [Ev.iff_succ]
   have g1 : (i : Int) < (a.length : Int) := by omega
   have g2 : (i : Int) < (b.length : Int) := by omega
   have g3 : (0 : Int) ≤ (i : Int) := by omega
   simp only [spec_l1Same.l0, Ev.ite_iff, g1, g2, g3, ↓reduceIte, rd_lt a i hi, rd_lt b i (by omega), w64_succ i (show i < 9223372036854775807 by omega)]
   rw [List.drop_eq_getElem_cons hi, List.drop_eq_getElem_cons (show i < b.length by omega)]
   by_cases c : a[i] = b[i]
   ·rw [if_pos c, c]
    rw [show decide (b[i] :: a.drop (i + 1) = b[i] :: b.drop (i + 1)) = decide (a.drop (i + 1) = b.drop (i + 1)) from decide_eq_decide.2 ⟨fun e => (List.cons.inj e).2, fun e => by rw [e]⟩]
    exact ih
   ·rw [if_neg c, Ev.now_iff, decide_eq_false (fun e => c (List.cons.inj e).1)]
 ·rw [if_neg (by omega), Ev.now_iff, decide_eq_false (fun e => h (by rw [e]))]

theorem l4At_ev {n m : Nat} {l : List Int} (hn : n ≤ 8) (h : l = bl n m) : Ev (fun k => spec_l4At.f k (gsL n l.length) l) ((plcG n l : Nat) : Int) := by
 obtain ⟨h1, h2⟩ := plcG_use h
 have G := gsL_gm (es := []) hn l.length
 have hm := G.len
 unfold spec_l4At.f
 have H := down (plcG n l) (fun j => Ev (fun k => spec_l4At.l0 k (gsL n l.length) l j) ((plcG n l : Nat) : Int)) ?_ ?_ 0 (by omega)
 ·exact H
 ·show Ev _ _
  rw [Ev.iff_succ]
  have g1 : ((plcG n l : Nat) : Int) < ((gsL n l.length).length : Int) := by omega
  have g2 : (0 : Int) ≤ ((plcG n l : Nat) : Int) := by omega
  simp only [spec_l4At.l0, g1, g2, ↓reduceIte, rdL2_nat, h2]
  have hs := gm_short G h1
  rw [Ev.bind_iff (l1Same_ev l l (by rw [h2] at hs;omega)), Ev.ite_iff, if_pos (by simp), Ev.now_iff]
 ·intro j hj ih
  show Ev _ _
  rw [Ev.iff_succ]
  have hjl : j < (gsL n l.length).length := by omega
  have g1 : (j : Int) < ((gsL n l.length).length : Int) := by omega
  have g2 : (0 : Int) ≤ (j : Int) := by omega
  have hs := gm_short G hjl
  have hne : grd (gsL n l.length) j ≠ l := fun e => by
   have := gsL_lt h1 hj
   rw [h2, e, lexLt_irr] at this;cases this
  simp only [spec_l4At.l0, g1, g2, ↓reduceIte, rdL2_nat, w64_succ j (show j < 9223372036854775807 by omega)]
  rw [Ev.bind_iff (l1Same_ev _ l (by omega)), Ev.ite_iff, if_neg (by simp [hne])]
  exact ih

theorem bl_len8 {n m : Nat} {l : List Int} (hn : n ≤ 8) (h : l = bl n m) : l.length ≤ n := by rw [h]; exact bl_len_le n m

theorem rndG_le (es : List S78) (n : Nat) (all : Bool) (L : List (List Int)) : ∀ (d t : Nat) (T : Nat → Int), (∀ i, T i ≤ t) → ∀ i, rndG es n all L d t T i ≤ ((t + d : Nat) : Int)
 | 0, t, _, h, i => h i
 | d + 1, t, T, h, i => by
  unfold rndG
  split
  ·have := rndG_le es n all L d (t + 1) (nxtG es n all L T t) (fun j => by
    unfold nxtG
    have := h j
    split <;> omega) i
   omega
  ·have := h i;omega

theorem rsG_le (es : List S78) (n : Nat) (all : Bool) (L : List (List Int)) (i : Nat) : rsG es n all L i ≤ (L.length : Int) := by
 have := rndG_le es n all L L.length 0 (fun _ => -1) (fun _ => by omega) i
 unfold rsG
 omega

def bstG (T : Nat → Int) : Option Nat → List Nat → Option Nat
 | b, [] => b
 | none, j :: l => bstG T (some j) l
 | some c, j :: l => bstG T (if 0 ≤ T c ∧ (T j < 0 ∨ T c < T j) then some j else some c) l

def optI : Option Nat → Int
 | none => -1
 | some j => (j : Int)

theorem bstG_in {T : Nat → Int} : ∀ (l : List Nat) (b : Option Nat) (c : Nat), bstG T b l = some c → b = some c ∨ c ∈ l
 | [], b, c, h => by cases b <;> exact .inl h
 | j :: l, none, c, h => by
  rcases bstG_in l (some j) c h with h | h
  ·exact .inr (by rw [Option.some.inj h];simp)
  ·exact .inr (List.mem_cons_of_mem _ h)
 | j :: l, some q, c, h => by
  unfold bstG at h
  rcases bstG_in l _ c h with h | h
  ·split at h
   ·exact .inr (by rw [Option.some.inj h];simp)
   ·exact .inl h
  ·exact .inr (List.mem_cons_of_mem _ h)

def endlessI (r : Int) : Int := if r < 0 then 1000000 else r

theorem endless_gt {a b : Int} (ha : a ≤ 1000) (hb : b ≤ 1000) : (endlessI a > endlessI b) ↔ (0 ≤ b ∧ (a < 0 ∨ b < a)) := by
 unfold endlessI
 split <;> split <;> omega

def playG (es : List S78) (n : Nat) (all : Bool) (L : List (List Int)) (T : Nat → Int) : Nat → List Int → List (List Int)
 | _, [] => []
 | p, a :: t => if 0 ≤ a ∧ a < (n : Int) then (if hasG L p a = true then grd L p :: playG es n all L T p t else match bstG T none (ansG es n all L p a) with
   | none => []
   | some q => grd L q :: playG es n all L T q t) else []

theorem l10Best_l0 {m : Nat} {T : Nat → Int} {l : List Nat} (hm : m ≤ 256) (hl : l.length ≤ 256) (h : ∀ j ∈ l, j < m) : Ev (fun k => spec_l10Best.l0 k (rowF m T) (-1) (nI l) 0) (optI (bstG T none l)) := by
 have H := down l.length (fun i => ∀ b, (∀ c, b = some c → c < m) → Ev (fun k => spec_l10Best.l0 k (rowF m T) (optI b) (nI l) i) (optI (bstG T b (l.drop i)))) ?_ ?_ 0 (by omega) none (fun _ h => by cases h)
 ·rw [List.drop_zero] at H
  exact H
 ·intro b _
  rw [Ev.iff_succ]
  simp only [spec_l10Best.l0, nI_len, Int.lt_irrefl, ↓reduceIte, Ev.now_iff, List.drop_length]
  cases b <;> rfl
 ·intro i hi ih b hb
  have hj := h l[i] (List.getElem_mem hi)
  have h1 : (i : Int) < ((nI l).length : Int) := by rw [nI_len];omega
  have h2 : (0 : Int) ≤ (i : Int) := by omega
  have h3 : ((l[i] : Nat) : Int) < ((rowF m T).length : Int) := by rw [rowF_len];omega
  have h4 : (0 : Int) ≤ ((l[i] : Nat) : Int) := by omega
  rw [Ev.iff_succ, List.drop_eq_getElem_cons hi]
  cases b with
  | none =>
   have g1 : optI none < 0 := by decide
   simp only [spec_l10Best.l0, h1, h2, g1, ↓reduceIte, rd_nI l i hi, w64_succ i (show i < 9223372036854775807 by omega)]
   exact ih (some l[i]) (fun c hc => by rw [← Option.some.inj hc];exact hj)
  | some c =>
   have hc := hb c rfl
   have g1 : ¬ (optI (some c) < 0) := by show ¬ ((c : Int) < 0);omega
   have g2 : (0 : Int) ≤ optI (some c) := by show (0 : Int) ≤ (c : Int);omega
   have g3 : optI (some c) < ((rowF m T).length : Int) := by rw [rowF_len];show (c : Int) < m;omega
   have g4 : rd (rowF m T) (optI (some c)) = T c := rowF_rd hc
   unfold bstG
   have take := ih (some l[i]) (fun c hc => by rw [← Option.some.inj hc];exact hj)
   have keep := ih (some c) hb
   simp only [spec_l10Best.l0, Ev.ite_iff, h1, h2, h3, h4, g1, g2, g3, g4, ↓reduceIte, rd_nI l i hi, rowF_rd hj, w64_succ i (show i < 9223372036854775807 by omega)]
   by_cases c1 : T c ≥ 0
   ·rw [if_pos c1]
    by_cases c2 : T l[i] < 0
    ·rw [if_pos c2, if_pos ⟨c1, .inl c2⟩];exact take
    ·rw [if_neg c2]
     by_cases c3 : T l[i] > T c
     ·rw [if_pos c3, if_pos ⟨c1, .inr c3⟩];exact take
     ·rw [if_neg c3, if_neg (by omega)];exact keep
   ·rw [if_neg c1, if_neg (by omega)];exact keep

theorem l10Best_ev {es : List S78} {n : Nat} {L : List (List Int)} (G : Gm es n L) (all : Bool) (T : Nat → Int) {p x : Nat} (hp : p < L.length) (hx : x < n) (hc : hasG L p (x : Int) = false) : Ev (fun k => spec_l10Best.f k (tblG es n all L L.length) (rowF L.length T) (p : Int) (x : Int)) (optI (bstG T none (ansG es n all L p (x : Int)))) := by
 have hm := G.len
 unfold spec_l10Best.f
 rw [Ev.ite_iff, if_pos (by omega), Ev.ite_iff, if_pos (by rw [tblG_len];omega), Ev.ite_iff, if_pos (by omega), tblG_rd hp, Ev.ite_iff, if_pos (by rw [tblRow_len];omega), tblRow_rd hx hc]
 exact l10Best_l0 hm (Nat.le_trans ansG_len hm) ansG_in

theorem endless_eq (r : Int) : impl_endless.f r = some (endlessI r) := by
 unfold impl_endless.f endlessI
 split <;> rfl

theorem bestAnswer_l0 {m : Nat} {T : Nat → Int} {l : List Nat} (hm : m ≤ 256) (hT : ∀ j, T j ≤ 1000) (hl : l.length ≤ 256) (h : ∀ j ∈ l, j < m) (q : Int) (s t : List (List Int)) : Ev (fun k => impl_guardGame_bestAnswer.l0 k (rowF m T) (-1) (nI l) ((nI l).length : Int) 0 q s t) (optI (bstG T none l), q) := by
 have H := down l.length (fun i => ∀ b, (∀ c, b = some c → c < m) → Ev (fun k => impl_guardGame_bestAnswer.l0 k (rowF m T) (optI b) (nI l) ((nI l).length : Int) i q s t) (optI (bstG T b (l.drop i)), q)) ?_ ?_ 0 (by omega) none (fun _ h => by cases h)
 ·rw [List.drop_zero] at H
  exact H
 ·intro b _
  rw [Ev.iff_succ]
  simp only [impl_guardGame_bestAnswer.l0, nI_len, Int.lt_irrefl, ↓reduceIte, Ev.now_iff, List.drop_length]
  cases b <;> rfl
 ·intro i hi ih b hb
  have hj := h l[i] (List.getElem_mem hi)
  have h1 : (i : Int) < ((nI l).length : Int) := by rw [nI_len];omega
  have h2 : (0 : Int) ≤ (i : Int) := by omega
  have h3 : ((l[i] : Nat) : Int) < ((rowF m T).length : Int) := by rw [rowF_len];omega
  have h4 : (0 : Int) ≤ ((l[i] : Nat) : Int) := by omega
  rw [Ev.iff_succ, List.drop_eq_getElem_cons hi]
  cases b with
  | none =>
   have g1 : optI none < 0 := by decide
   simp only [impl_guardGame_bestAnswer.l0, h1, h2, g1, ↓reduceIte, rd_nI l i hi, w64_succ i (show i < 9223372036854775807 by omega)]
   exact ih (some l[i]) (fun c hc => by rw [← Option.some.inj hc];exact hj)
  | some c =>
   have hc := hb c rfl
   have g1 : ¬ (optI (some c) < 0) := by show ¬ ((c : Int) < 0);omega
   have g2 : (0 : Int) ≤ optI (some c) := by show (0 : Int) ≤ (c : Int);omega
   have g3 : optI (some c) < ((rowF m T).length : Int) := by rw [rowF_len];show (c : Int) < m;omega
   have g4 : rd (rowF m T) (optI (some c)) = T c := rowF_rd hc
   unfold bstG
   have take := ih (some l[i]) (fun c hc => by rw [← Option.some.inj hc];exact hj)
   have keep := ih (some c) hb
   have hg := endless_gt (hT l[i]) (hT c)
   simp only [impl_guardGame_bestAnswer.l0, Ev.ite_iff, h1, h2, h3, h4, g1, g2, g3, g4, ↓reduceIte, rd_nI l i hi, rowF_rd hj, endless_eq, Option.bind_some, w64_succ i (show i < 9223372036854775807 by omega)]
   by_cases c1 : endlessI (T l[i]) > endlessI (T c)
   ·rw [if_pos c1, if_pos (hg.1 c1)];exact take
   ·rw [if_neg c1, if_neg (fun h => c1 (hg.2 h))];exact keep

theorem valBest_ev {es : List S78} {n : Nat} {L : List (List Int)} (G : Gm es n L) (all : Bool) {T : Nat → Int} (hT : ∀ j, T j ≤ 1000) {p : Nat} (hp : p < L.length) (x q : Int) : Ev (fun k => impl_valBest.f k q L (gamG es n all L L.length) (rowF L.length T) (p : Int) x) (optI (bstG T none (ansG es n all L p x))) := by
 have hm := G.len
 unfold impl_valBest.f impl_guardGame_bestAnswer.f
 simp only [answers_eq G all hp, Option.bind_some]
 rw [Ev.bind_iff (bestAnswer_l0 hm hT (Nat.le_trans ansG_len hm) ansG_in q L _), Ev.now_iff]

theorem valResist_ev {es : List S78} {n : Nat} {L : List (List Int)} (G : Gm es n L) (all : Bool) : Ev (fun k => impl_valResist.f k (n : Int) L (gamG es n all L L.length)) (rowF L.length (rsG es n all L)) := by
 unfold impl_valResist.f
 rw [Ev.bind_iff (resist_ev G all), Ev.now_iff]

theorem rsG_small {es : List S78} {n : Nat} {L : List (List Int)} (G : Gm es n L) (all : Bool) (j : Nat) : rsG es n all L j ≤ 1000 := by
 have := rsG_le es n all L j
 have := G.len
 omega

theorem playG_len (es : List S78) (n : Nat) (all : Bool) (L : List (List Int)) (T : Nat → Int) : ∀ (l : List Int) (p : Nat), (playG es n all L T p l).length ≤ l.length
 | [], _ => Nat.le_refl _
 | a :: t, p => by
  unfold playG
  split
  ·split
   ·have := playG_len es n all L T t p
    simp only [List.length_cons];omega
   ·split
    ·simp
    ·rename_i q _
     have := playG_len es n all L T t q
     simp only [List.length_cons];omega
  ·simp

theorem playG_row {es : List S78} {n : Nat} {L : List (List Int)} (G : Gm es n L) (all : Bool) (T : Nat → Int) : ∀ (l : List Int) (p : Nat), p < L.length → ∀ r ∈ playG es n all L T p l, r.length ≤ 8
 | [], _, _ => by simp [playG]
 | a :: t, p, hp => by
  intro r hr
  unfold playG at hr
  split at hr
  ·split at hr
   ·rcases List.mem_cons.1 hr with rfl | hr
    ·exact gm_short G hp
    ·exact playG_row G all T t p hp r hr
   ·split at hr
    ·simp at hr
    ·rename_i q hq
     have hql : q < L.length := by
      rcases bstG_in _ _ _ hq with h | h
      ·cases h
      ·exact ansG_in q h
     rcases List.mem_cons.1 hr with rfl | hr
     ·exact gm_short G hql
     ·exact playG_row G all T t q hql r hr
  ·simp at hr

def playAttacksR (n : Int) (es : List S78) (l m : List Int) (b : Bool) : List (List Int) × Bool := if setB n es l = true ∧ m.length ≤ 30 then (playG es n.toNat b (gsL n.toNat l.length) (rsG es n.toNat b (gsL n.toNat l.length)) (plcG n.toNat l) m, true) else ([], false)

theorem playAttacksR_len (n : Int) (es : List S78) (l m : List Int) (b : Bool) : (playAttacksR n es l m b).1.length ≤ 1048576 ∧ (∀ r ∈ (playAttacksR n es l m b).1, r.length ≤ 1048576) ∧ ((playAttacksR n es l m b).1.map List.length).sum ≤ 1099511627776 := by
 unfold playAttacksR
 split
 ·rename_i h
  obtain ⟨N, q, rfl, hN, hg, _, _, hlb, _⟩ := setB_use h.1
  have G := gsL_gm (es := es) hN l.length
  obtain ⟨p1, p2⟩ := plcG_use hlb
  simp only [Int.toNat_natCast]
  have h1 := playG_len es N b (gsL N l.length) (rsG es N b (gsL N l.length)) m (plcG N l)
  have h3 := playG_row G b (rsG es N b (gsL N l.length)) m (plcG N l) p1
  have h4 := sum_le_mul _ 8 h3
  exact ⟨by omega, fun r hr => by have := h3 r hr;omega, by omega⟩
 ·simp

theorem specPlay_l0 {es : List S78} {n : Nat} {L : List (List Int)} (G : Gm es n L) (all : Bool) (T : Nat → Int) (m : List Int) (hm : m.length ≤ 30) {p : Nat} (hp : p < L.length) : Ev (fun k => spec_PlayAttacks.l0 k m [] L (tblG es n all L L.length) (rowF L.length T) (p : Int) 0 (n : Int) es) (playG es n all L T p m, true) := by
 have hn := G.hn
 have H := down m.length (fun i => ∀ (acc : List (List Int)) (p : Nat), acc.length ≤ i → p < L.length → Ev (fun k => spec_PlayAttacks.l0 k m acc L (tblG es n all L L.length) (rowF L.length T) (p : Int) i (n : Int) es) (acc ++ playG es n all L T p (m.drop i), true)) ?_ ?_ 0 (by omega) [] p (by simp) hp
 ·rw [List.drop_zero, List.nil_append] at H;exact H
 ·intro acc p _ _
  rw [Ev.iff_succ]
  simp only [spec_PlayAttacks.l0, Int.lt_irrefl, ↓reduceIte, Ev.now_iff, List.drop_length, playG, List.append_nil]
 ·intro i hi ih acc p hacc hp
  have g1 : (i : Int) < (m.length : Int) := by omega
  have g2 : (0 : Int) ≤ (i : Int) := by omega
  have g3 : (0 : Int) ≤ (p : Int) := by omega
  have g4 : (p : Int) < (L.length : Int) := by omega
  have g5 : ¬ ((p : Int) < 0) := by omega
  have g6 : acc.length < 5864062014805 := by omega
  have hs := gm_short G hp
  have hw : wrap64 ((n : Int) - 1) = (n : Int) - 1 := by rw [w64] <;> omega
  rw [Ev.iff_succ, List.drop_eq_getElem_cons hi]
  unfold playG
  have e1 := rd_lt m i hi
  generalize m[i] = a at e1 ⊢
  simp only [spec_PlayAttacks.l0, g1, g2, ↓reduceIte, e1, spec_l2Node.f, l1In_eq, Option.bind_some, hw, Ev.ite_iff, decide_eq_true_eq, rdL2_nat, w64_succ i (show i < 9223372036854775807 by omega)]
  by_cases c : 0 ≤ a ∧ a ≤ (n : Int) - 1
  case neg => rw [if_neg c, if_neg (by omega), List.append_nil, Ev.now_iff]
  rw [if_pos c, if_pos (by omega : 0 ≤ a ∧ a < (n : Int)), if_pos g3, if_pos g4, Ev.bind_iff (l1Has_ev (grd L p) a (by omega)), Ev.ite_iff]
  obtain ⟨x, rfl⟩ : ∃ x : Nat, a = x := ⟨a.toNat, by omega⟩
  have hx : x < n := by omega
  by_cases cc : (x : Int) ∈ grd L p
  ·have hc : hasG L p (x : Int) = true := decide_eq_true cc
   rw [if_pos (by simpa using cc), if_pos hc, Ev.ite_iff, if_neg g5, l1Own_eq (show (grd L p).length < 17592186044416 by omega)]
   simp only [Option.bind_some, g6, ↓reduceIte]
   have := ih (acc ++ [grd L p]) p (by rw [List.length_append, List.length_singleton];omega) hp
   rw [List.append_assoc] at this
   exact this
  ·have hc : hasG L p (x : Int) = false := decide_eq_false cc
   rw [if_neg (by simpa using cc), if_neg (by rw [hc];decide), Ev.bind_iff (l10Best_ev G all T hp hx hc)]
   cases hq : bstG T none (ansG es n all L p (x : Int)) with
   | none =>
    have e : optI none < 0 := by decide
    simp only [e, ↓reduceIte, List.append_nil]
    exact Ev.now _
   | some q =>
    have hql : q < L.length := by
     rcases bstG_in _ _ _ hq with h | h
     ·cases h
     ·exact ansG_in q h
    have hsq := gm_short G hql
    have e1 : ¬ ((q : Int) < 0) := by omega
    have e2 : (0 : Int) ≤ (q : Int) := by omega
    have e3 : (q : Int) < (L.length : Int) := by omega
    simp only [optI, e1, e2, e3, ↓reduceIte, rdL2_nat, l1Own_eq (show (grd L q).length < 17592186044416 by omega), Option.bind_some, g6]
    have := ih (acc ++ [grd L q]) q (by rw [List.length_append, List.length_singleton];omega) hql
    rw [List.append_assoc] at this
    exact this

theorem specPlayAttacks_ev (n : Int) (es : List S78) (l m : List Int) (b : Bool) (hl : l.length ≤ 9223372036854775807) (_ : m.length ≤ 9223372036854775807) (he : es.length ≤ 9223372036854775807) : Ev (fun k => spec_PlayAttacks.f k n es l m b) (playAttacksR n es l m b) := by
 unfold spec_PlayAttacks.f playAttacksR
 have no : Ev (fun k => spec_PlayAttacks.j0 k l m b [] true n es) ([], false) := by
  rw [Ev.iff_succ];simp only [spec_PlayAttacks.j0, ↓reduceIte];exact Ev.now _
 rw [l2Good_eq]
 simp only [Option.bind_some, Ev.ite_iff]
 by_cases h1 : okG n es = true
 case neg => rw [if_neg h1, if_neg (by simp [setB, h1])];exact no
 rw [if_pos h1, Ev.bind_iff (l2Set_ev n es l hl), Ev.ite_iff]
 by_cases h2 : setB n es l = true
 case neg =>
  have h2' : ¬ (allIn 0 (wrap64 (n - 1)) l && ascB none l) = true := by simpa only [setB, h1, Bool.true_and] using h2
  rw [if_neg h2', if_neg (fun h => h2 h.1)];exact no
 have h2' := h2
 simp only [setB, h1, Bool.true_and] at h2'
 rw [if_pos h2']
 by_cases h3 : m.length ≤ 30
 case neg => rw [decide_eq_true (by omega), if_neg (fun h => h3 h.2)];exact no
 rw [decide_eq_false (by omega), if_pos ⟨h2, h3⟩, Ev.iff_succ]
 obtain ⟨N, q, rfl, hN, hg, _, _, hlb, _⟩ := setB_use h2
 have hlen := bl_len8 hN hlb
 have G := gsL_gm (es := es) hN l.length
 obtain ⟨p1, p2⟩ := plcG_use hlb
 simp only [spec_PlayAttacks.j0, Bool.false_eq_true, ↓reduceIte]
 rw [Ev.bind_iff (specGuardSets2_ev hN hlen), Ev.bind_iff (l10Table_ev G he b), Ev.bind_iff (l10Resist_ev G b), Ev.bind_iff (l4At_ev hN hlb)]
 simp only [Int.toNat_natCast]
 exact specPlay_l0 G b _ m h3 p1

end Go.Proofs.YtgahlimikndecaaDoor.QPlayAttacks
