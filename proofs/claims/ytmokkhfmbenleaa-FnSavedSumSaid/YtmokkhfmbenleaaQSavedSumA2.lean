import Derived.Test.YtmokkhfmbenleaaQSavedSum0
import Derived.Test.YtmokkhfmbenleaaQSavedSum1
import Derived.Test.YtmokkhfmbenleaaQSavedSum10
import Derived.Test.YtmokkhfmbenleaaQSavedSum11
import Derived.Test.YtmokkhfmbenleaaQSavedSum2
import Derived.Test.YtmokkhfmbenleaaQSavedSum3
import Derived.Test.YtmokkhfmbenleaaQSavedSum8
import Derived.Test.YtmokkhfmbenleaaQSavedSum9
import Derived.Test.YtmokkhfmbenleaaQSavedSumA1
namespace Go.Proofs.Ytmokkhfmbenleaa.QSavedSum
open Go.RowKit Go.Proofs.YtmokkhfmbenleaaW.PrintWords Go.Proofs.YtmokkhfmbenleaaW.PrintLast Go.Proofs.YtmokkhfmbenleaaW.PrintMore
attribute [local go_sem] max2_int min2_int max_two min_two max_three min_three max_four min_four   -- for this text's walks alone
set_option linter.unusedVariables false
set_option linter.unusedSimpArgs false
theorem l8Next_l1 {es : List S119} {n : Nat} {L F : List Int} {acc i : Nat} {res : List Int} (hn : n ≤ 8) (hl : es.length ≤ 9223372036854775807) (hL : L.length ≤ 8) (hi : i < n)
  (hend : Ev (fun k => spec_l8Next.l0 k (bl n (if L.any (fun u => near es u i) then acc ||| 2 ^ i else acc)) ((i + 1 : Nat) : Int) n es L F) res) :
  Ev (fun k => spec_l8Next.l1 k (bl n acc) i 0 n es L F) res := by
 have H := down L.length (fun j => Ev (fun k => spec_l8Next.l1 k (bl n (if (L.take j).any (fun u => near es u i) then acc ||| 2 ^ i else acc)) i j n es L F) res) ?_ ?_ 0 (by omega)
 ·simpa using H
 ·show Ev _ _
  rw [Ev.iff_succ]
  simp only [spec_l8Next.l1, Int.lt_irrefl, ↓reduceIte, w64_succ i (by omega), List.take_length]
  exact hend
 ·intro j hj jh
  show Ev _ _
  rw [Ev.iff_succ]
  have g1 : (j : Int) < L.length := by omega
  have g2 : (0 : Int) ≤ j := by omega
  rw [List.take_succ_eq_append_getElem hj, List.any_append] at jh
  simp only [List.any_cons, List.any_nil, Bool.or_false] at jh
  simp only [spec_l8Next.l1, Ev.ite_iff, g1, g2, ↓reduceIte, Ev.bind_iff (l2Near_ev n es _ i hl), rd_lt L j hj, w64_succ j (by omega), l1Put_bl hn hi, Option.bind_some]
  generalize (L.take j).any (fun u => near es u i) = q at jh ⊢
  by_cases c : near es L[j] i = true
  ·rw [if_pos c]
   rw [c, Bool.or_true, if_pos rfl] at jh
   cases q
   ·exact jh
   ·simp only [↓reduceIte, Nat.or_assoc, Nat.or_self];exact jh
  ·rw [if_neg c]
   rw [Bool.eq_false_iff.2 c, Bool.or_false] at jh
   exact jh

theorem l8Next_ev (es : List S119) (n b f : Nat) (hn : n ≤ 8) (hb : b < 2 ^ n) (hl : es.length ≤ 9223372036854775807) : Ev (fun k => spec_l8Next.f k n es (bl n b) (bl n f)) (bl n (thrM es n b f)) := by
 have hbb := bl_len_le n b
 have hbf := bl_len_le n f
 have e0 : bl n 0 = [] := List.eq_nil_iff_forall_not_mem.2 (fun x hx => by obtain ⟨i, _, h2, _⟩ := mem_bl.1 hx;simp at h2)
 have H := down n (fun i => Ev (fun k => spec_l8Next.l0 k (bl n (mk i (fun y => (thrM es n b f).testBit y))) i n es (bl n b) (bl n f)) (bl n (thrM es n b f))) ?_ ?_ 0 (by omega)
 ·rw [mk, e0] at H;exact H
 ·show Ev _ _
  rw [Ev.iff_succ]
  simp only [spec_l8Next.l0, Int.lt_irrefl, ↓reduceIte, Ev.now_iff, mk_self (thrM_lt f hb)]
 ·intro i hi ih
  show Ev _ _
  rw [Ev.iff_succ]
  have h1 : (i : Int) < (n : Int) := by omega
  rw [mk_succ_bl (n := n), thrM_bit hi] at ih
  simp only [spec_l8Next.l0, h1, ↓reduceIte]
  rw [Ev.bind_iff (l1Has_ev (bl n b) i (by omega)), Ev.ite_iff]
  simp only [mem_bl_nat, hi, true_and]
  cases cb : b.testBit i
  ·rw [if_neg (by simp), Ev.bind_iff (l1Has_ev (bl n f) i (by omega)), Ev.iff_succ]
   simp only [spec_l8Next.j1, Ev.ite_iff, mem_bl_nat, hi, true_and]
   cases cf : f.testBit i
   ·rw [if_neg (by simp)]
    rw [cb, cf] at ih
    simp only [Bool.not_false, Bool.true_and] at ih
    exact l8Next_l1 hn hl (by omega) hi ih
   ·rw [if_pos (by simp), w64_succ i (by omega)]
    rw [cf] at ih
    simpa using ih
  ·rw [if_pos (by simp), Ev.iff_succ]
   simp only [spec_l8Next.j1, ↓reduceIte, w64_succ i (by omega)]
   rw [cb] at ih
   simpa using ih

theorem l8Free_ev (es : List S119) (n b f : Nat) (hn : n ≤ 8) : Ev (fun k => spec_l8Free.f k n es (bl n b) (bl n f)) (bl n (mns (mns (2 ^ n - 1) b) f)) := by
 have hbb := bl_len_le n b
 have hbf := bl_len_le n f
 have H := down n (fun i => Ev (fun k => spec_l8Free.l0 k (bl i (mns (mns (2 ^ n - 1) b) f)) i n es (bl n b) (bl n f)) (bl n (mns (mns (2 ^ n - 1) b) f))) ?_ ?_ 0 (by omega)
 ·simpa [spec_l8Free.f, bl] using H
 ·show Ev _ _
  rw [Ev.iff_succ]
  simp [spec_l8Free.l0, Ev.now_iff]
 ·intro i hi ih
  show Ev _ _
  rw [Ev.iff_succ]
  have h1 : (i : Int) < (n : Int) := by omega
  have h3 := bl_len_le i (mns (mns (2 ^ n - 1) b) f)
  have h4 : (bl i (mns (mns (2 ^ n - 1) b) f)).length < 17592186044416 := by omega
  have h5 : (mns (mns (2 ^ n - 1) b) f).testBit i = (!b.testBit i && !f.testBit i) := by rw [mns_bit, mns_bit, Nat.testBit_two_pow_sub_one];simp [hi]
  rw [bl_step hi, h5] at ih
  simp only [spec_l8Free.l0, Ev.ite_iff, h1, h4, ↓reduceIte, w64_succ i (by omega), Ev.bind_iff (l1Has_ev (bl n b) i (by omega)), Ev.bind_iff (l1Has_ev (bl n f) i (by omega)), mem_bl_nat, hi, true_and]
  cases c : b.testBit i <;> cases d : f.testBit i <;> rw [c, d] at ih <;> simpa using ih

theorem l8Round_ev (es : List S119) (n b f : Nat) (l : List Int) (hn : n ≤ 8) (hb : b < 2 ^ n) (hf : f < 2 ^ n) (hl : l.length ≤ 8) (hr : ∀ x ∈ l, 0 ≤ x ∧ x < n) (he : es.length ≤ 9223372036854775807) :
  Ev (fun k => spec_l8Round.f k n es (bl n b) (bl n f) l) (bl n (b ||| thrM es n b (f ||| mL l)), bl n (f ||| mL l)) := by
 have hbb := bl_len_le n b
 have hbf := bl_len_le n f
 unfold spec_l8Round.f
 rw [l1Own_eq (by omega)]
 simp only [Option.bind_some]
 rw [l1Own_eq (by omega)]
 simp only [Option.bind_some]
 have H := down l.length (fun i => ∀ f : Nat, f < 2 ^ n → Ev (fun k => spec_l8Round.l0 k l i n es (bl n b) (bl n f)) (bl n (b ||| thrM es n b (f ||| mL (l.drop i))), bl n (f ||| mL (l.drop i)))) ?_ ?_ 0 (by omega) f hf
 ·simpa using H
 ·intro f hf
  rw [Ev.iff_succ]
  simp only [spec_l8Round.l0, Int.lt_irrefl, ↓reduceIte, List.drop_length, mL, Nat.or_zero]
  rw [Ev.bind_iff (l8Next_ev es n b f hn hb he)]
  have ht := thrM_lt (es := es) f hb
  generalize thrM es n b f = T at ht ⊢
  have hbT := bl_len_le n T
  have G := down (bl n T).length (fun j => ∀ b : Nat, b < 2 ^ n → Ev (fun k => spec_l8Round.l1 k (bl n T) j (bl n b) (bl n f)) (bl n (b ||| mL ((bl n T).drop j)), bl n f)) ?_ ?_ 0 (by omega) b hb
  ·rw [List.drop_zero, mL_bl ht] at G;exact G
  ·intro b _
   rw [Ev.iff_succ]
   simp only [spec_l8Round.l1, Int.lt_irrefl, ↓reduceIte, List.drop_length, mL, Nat.or_zero, Ev.now_iff]
  ·intro j hj jh b hb
   rw [Ev.iff_succ]
   have g1 : (j : Int) < (bl n T).length := by omega
   have g2 : (0 : Int) ≤ j := by omega
   obtain ⟨y, hy, _, hye⟩ := rd_bl hj
   simp only [spec_l8Round.l1, Ev.ite_iff, g1, g2, ↓reduceIte, rd_lt _ j hj, hye, l1Put_bl hn hy, Option.bind_some, w64_succ j (by omega)]
   have := jh (b ||| 2 ^ y) (Nat.or_lt_two_pow hb (Nat.pow_lt_pow_right (by decide) hy))
   rw [List.drop_eq_getElem_cons hj, hye, mL, Int.toNat_natCast, ← Nat.or_assoc]
   exact this
 ·intro i hi ih f hf
  rw [Ev.iff_succ]
  have g1 : (i : Int) < l.length := by omega
  have g2 : (0 : Int) ≤ i := by omega
  obtain ⟨a, s, e1, e2, e3, e4⟩ := dropc l i hi
  have hra := hr a (by rw [← e4];exact List.getElem_mem hi)
  obtain ⟨x, rfl⟩ : ∃ x : Nat, a = x := ⟨a.toNat, by omega⟩
  have hx : x < n := by omega
  rw [e1, mL, Int.toNat_natCast, ← Nat.or_assoc];rw [e2] at ih
  simp only [spec_l8Round.l0, Ev.ite_iff, g1, g2, ↓reduceIte, e3, l1Put_bl hn hx, Option.bind_some, w64_succ i (by omega)]
  exact ih _ (Nat.or_lt_two_pow hf (Nat.pow_lt_pow_right (by decide) hx))

theorem threatened_ev (es : List S119) (n b f : Nat) (hn : n ≤ 8) (hb : b < 2 ^ n) (hf : f < 2 ^ n) : Ev (fun k => impl_net_threatened.f k (nets es n) b f) ((thrM es n b f : Nat) : Int) := by
 unfold impl_net_threatened.f
 have h1 := aroM_lt (es := es) hb
 rw [Ev.bind_iff (around_ev es n b hn hb), Ev.now_iff, gandn _ _ (lt62 hn h1) (lt62 hn hb), gandn _ _ (lt62 hn (mns_lt _ h1)) (lt62 hn hf)]
 rfl

def fgtStep (es : List S119) (n b f : Nat) (rec : Nat → Nat → Int × List (List Int)) (st : Int × List (List Int)) (s : List Int) : Int × List (List Int) :=
 if (rec (b ||| thrM es n b (f ||| mL s)) (f ||| mL s)).1 > st.1 then ((rec (b ||| thrM es n b (f ||| mL s)) (f ||| mL s)).1, s :: (rec (b ||| thrM es n b (f ||| mL s)) (f ||| mL s)).2) else st

def freeM (n b f : Nat) : Nat := mns (mns (2 ^ n - 1) b) f

def chosM (n d b f : Nat) : List (List Int) := cho (bl n (freeM n b f)) (min d (bl n (freeM n b f)).length)

def fgt (es : List S119) (n d : Nat) : Nat → Nat → Nat → Int × List (List Int)
 | 0, _, _ => (0, [])
 | F + 1, b, f => if thrM es n b f = 0 then ((n : Int) - ((bl n b).length : Int), []) else (chosM n d b f).foldl (fgtStep es n b f (fgt es n d F)) (-1, [])

theorem freeM_lt {n b f : Nat} : freeM n b f < 2 ^ n := mns_lt _ (mns_lt _ (by have := Nat.two_pow_pos n; omega))

theorem freeM_bit {n b f i : Nat} (hi : i < n) : (freeM n b f).testBit i = (!b.testBit i && !f.testBit i) := by unfold freeM; rw [mns_bit, mns_bit, Nat.testBit_two_pow_sub_one]; simp [hi]

theorem fold_inv {α β : Type} (P : β → Prop) (g : β → α → β) : ∀ (l : List α) (b : β), P b → (∀ b, P b → ∀ a ∈ l, P (g b a)) → P (l.foldl g b)
 | [], _, h, _ => h
 | a :: l, b, h, hg => fold_inv P g l _ (hg b h a (by simp)) (fun b hb c hc => hg b hb c (by simp [hc]))

theorem fgt_bd {es : List S119} {n d : Nat} : ∀ (F b f : Nat), (fgt es n d F b f).2.length ≤ F ∧ -1 ≤ (fgt es n d F b f).1 ∧ (fgt es n d F b f).1 ≤ n
 | 0, b, f => by simp only [fgt, List.length_nil];omega
 | F + 1, b, f => by
  unfold fgt
  split
  ·have := bl_len_le n b
   simp only [List.length_nil];omega
  ·refine fold_inv (fun st : Int × List (List Int) => st.2.length ≤ F + 1 ∧ -1 ≤ st.1 ∧ st.1 ≤ n) _ _ _ (by simp only [List.length_nil];omega) (fun st hst s _ => ?_)
   unfold fgtStep
   have ih := fgt_bd (es := es) (n := n) (d := d) F (b ||| thrM es n b (f ||| mL s)) (f ||| mL s)
   split
   ·simp only [List.length_cons];omega
   ·exact hst

theorem chosM_mem {n d b f : Nat} {s : List Int} (h : s ∈ chosM n d b f) : s.length = min d (bl n (freeM n b f)).length ∧ (∀ x ∈ s, 0 ≤ x ∧ x < n) ∧ ∀ x ∈ s, b.testBit x.toNat = false ∧ f.testBit x.toNat = false := by
 refine ⟨cho_mem_len _ _ s h, fun x hx => ?_, fun x hx => ?_⟩
 ·obtain ⟨i, h1, h2, rfl⟩ := mem_bl.1 (cho_mem_in _ _ s h x hx);omega
 ·obtain ⟨i, h1, h2, rfl⟩ := mem_bl.1 (cho_mem_in _ _ s h x hx)
  rw [freeM_bit h1] at h2
  simpa using h2

theorem fgt_grow {es : List S119} {n d b f : Nat} {s : List Int} (hb : b < 2 ^ n) (hf : f < 2 ^ n) (ht : thrM es n b f ≠ 0) (hs : s ∈ chosM n d b f) :
  (bl n (b ||| f)).length + 1 ≤ (bl n ((b ||| thrM es n b (f ||| mL s)) ||| (f ||| mL s))).length := by
 obtain ⟨h1, h2, h3⟩ := chosM_mem hs
 have hS : mL s < 2 ^ n := mL_lt h2
 have hf' : f ||| mL s < 2 ^ n := Nat.or_lt_two_pow hf hS
 have hlt : (b ||| thrM es n b (f ||| mL s)) ||| (f ||| mL s) < 2 ^ n := Nat.or_lt_two_pow (Nat.or_lt_two_pow hb (thrM_lt _ hb)) hf'
 have hsub : ∀ i, i < n → (b ||| f).testBit i = true → ((b ||| thrM es n b (f ||| mL s)) ||| (f ||| mL s)).testBit i = true := fun i _ hi => by
  simp only [Nat.testBit_or, Bool.or_eq_true] at hi ⊢
  rcases hi with h | h
  ·exact .inl (.inl h)
  ·exact .inr (.inl h)
 have hle : (bl n (b ||| f)).length ≤ (bl n ((b ||| thrM es n b (f ||| mL s)) ||| (f ||| mL s))).length := by rw [bl_len, bl_len];exact (cnt_mono n hsub).1
 by_cases e : (bl n ((b ||| thrM es n b (f ||| mL s)) ||| (f ||| mL s))).length ≤ (bl n (b ||| f)).length
 ·exfalso
  have he := sub_len (Nat.or_lt_two_pow hb hf) hlt hsub e
  -- a node that is new
  by_cases c : s = []
  ·subst c
   simp only [mL, Nat.or_zero] at he
   obtain ⟨y, hy⟩ : ∃ y, (thrM es n b f).testBit y = true := by
    refine Classical.byContradiction fun hn => ht (Nat.eq_of_testBit_eq fun i => ?_)
    rw [Nat.zero_testBit]
    exact Bool.eq_false_iff.2 (fun h => hn ⟨i, h⟩)
   have hyn : y < n := by
    refine Classical.byContradiction fun hn => ?_
    rw [bit_lt (thrM_lt f hb) (by omega)] at hy;cases hy
   have h4 := hy
   rw [thrM_bit hyn] at h4
   simp only [Bool.and_eq_true, Bool.not_eq_true'] at h4
   have h5 := congrArg (fun z => z.testBit y) he
   simp only [Nat.testBit_or, hy, h4.1.1, h4.1.2] at h5
   simp at h5
  ·obtain ⟨x, t, rfl⟩ := List.exists_cons_of_ne_nil c
   have hx := h3 x (by simp)
   have hx2 := h2 x (by simp)
   have h5 := congrArg (fun z => z.testBit x.toNat) he
   have h6 : (mL (x :: t)).testBit x.toNat = true := by rw [mL_bit (fun y hy => (h2 y hy).1)];simp;left;omega
   simp only [Nat.testBit_or, h6, hx.1, hx.2] at h5
   simp at h5
 ·omega

theorem bl_zero_iff {n T : Nat} (h : T < 2 ^ n) : (bl n T).length = 0 ↔ T = 0 := by
 constructor
 ·intro e
  have e2 := List.eq_nil_of_length_eq_zero e
  rw [← mL_bl h, e2];rfl
 ·rintro rfl
  have e0 : bl n 0 = [] := List.eq_nil_iff_forall_not_mem.2 (fun x hx => by obtain ⟨i, _, h2, _⟩ := mem_bl.1 hx;simp at h2)
  rw [e0];rfl

theorem minI (a b : Nat) : (if (a : Int) < (b : Int) then (a : Int) else (b : Int)) = ((min a b : Nat) : Int) := by split <;> omega

theorem l8Best_ev {es : List S119} {n d : Nat} (hn : n ≤ 8) (hd : d ≤ 3) (he : es.length ≤ 9223372036854775807) : ∀ (F b f : Nat), F ≤ 100 → b < 2 ^ n → f < 2 ^ n → n < (bl n (b ||| f)).length + F →
  Ev (fun k => spec_l8Best.f k n es (bl n b) (bl n f) d) ((fgt es n d F b f).2, (fgt es n d F b f).1)
 | 0, b, f, _, _, _, h => by have := bl_len_le n (b ||| f);omega
 | F + 1, b, f, hF, hb, hf, h => by
  have hbb := bl_len_le n b
  have hT := thrM_lt (es := es) f hb
  have hfr := bl_len_le n (freeM n b f)
  rw [Ev.iff_succ]
  simp only [spec_l8Best.f]
  rw [Ev.bind_iff (l8Next_ev es n b f hn hb he), Ev.ite_iff]
  unfold fgt
  by_cases c : thrM es n b f = 0
  ·rw [if_pos (by have := (bl_zero_iff hT).2 c;omega), if_pos c, Ev.now_iff, w64 (by omega) (by omega)]
  ·rw [if_neg (by have := mt (bl_zero_iff hT).1 c;omega), if_neg c]
   rw [Ev.bind_iff (l8Free_ev es n b f hn), l1Least_eq]
   simp only [Option.bind_some]
   rw [show mns (mns (2 ^ n - 1) b) f = freeM n b f from rfl, minI, Ev.bind_iff (l8Choices_ev (bl n (freeM n b f)).length _ _ (Nat.le_refl _) (by omega) (Nat.min_le_right _ _))]
   rw [show cho (bl n (freeM n b f)) (min d (bl n (freeM n b f)).length) = chosM n d b f from rfl]
   have hmem : ∀ s ∈ chosM n d b f, s.length = min d (bl n (freeM n b f)).length ∧ (∀ x ∈ s, 0 ≤ x ∧ x < n) ∧ ∀ x ∈ s, b.testBit x.toNat = false ∧ f.testBit x.toNat = false := fun s hs => chosM_mem hs
   have hgr : ∀ s ∈ chosM n d b f, _ := fun s hs => fgt_grow hb hf c hs
   have hClen : (chosM n d b f).length ≤ 256 := Nat.le_trans (cho_len _ _) (p8 (by omega))
   generalize chosM n d b f = C at hmem hgr hClen ⊢
   have H := down C.length (fun i => ∀ st : Int × List (List Int), Ev (fun k => spec_l8Best.l0 k d st.2 st.1 C i n es (bl n b) (bl n f)) (((C.drop i).foldl (fgtStep es n b f (fgt es n d F)) st).2, ((C.drop i).foldl (fgtStep es n b f (fgt es n d F)) st).1)) ?_ ?_ 0 (by omega) (-1, [])
   ·exact H
   ·intro st
    rw [Ev.iff_succ]
    simp only [spec_l8Best.l0, Int.lt_irrefl, ↓reduceIte, Ev.now_iff, List.drop_length, List.foldl_nil]
   ·intro i hi ih st
    rw [Ev.iff_succ]
    have g1 : (i : Int) < C.length := by omega
    have g2 : (0 : Int) ≤ i := by omega
    have hs := hmem C[i] (List.getElem_mem hi)
    have hg := hgr C[i] (List.getElem_mem hi)
    have hS : mL C[i] < 2 ^ n := mL_lt hs.2.1
    have hf' : f ||| mL C[i] < 2 ^ n := Nat.or_lt_two_pow hf hS
    have hb' : b ||| thrM es n b (f ||| mL C[i]) < 2 ^ n := Nat.or_lt_two_pow hb (thrM_lt _ hb)
    have hrec := l8Best_ev hn hd he F _ _ (by omega) hb' hf' (by omega)
    have hbd := fgt_bd (es := es) (n := n) (d := d) F (b ||| thrM es n b (f ||| mL C[i])) (f ||| mL C[i])
    rw [List.drop_eq_getElem_cons hi, List.foldl_cons]
    simp only [spec_l8Best.l0, Ev.ite_iff, g1, g2, ↓reduceIte, rdL2_lt C i hi]
    rw [Ev.bind_iff (l8Round_ev es n b f C[i] hn hb hf (by omega) hs.2.1 he), Ev.bind_iff hrec]
    simp only [Ev.ite_iff, Option.bind_some, w64_succ i (show i < 9223372036854775807 by omega)]
    have ih' := ih (fgtStep es n b f (fgt es n d F) st C[i])
    unfold fgtStep at ih' ⊢
    generalize fgt es n d F (b ||| thrM es n b (f ||| mL C[i])) (f ||| mL C[i]) = R at hbd ih' ⊢
    by_cases q : R.1 > st.1
    ·rw [if_pos q, if_pos (by simp;omega)]
     rw [if_pos q] at ih' ⊢
     exact ih'
    ·rw [if_neg q]
     rw [if_neg q] at ih' ⊢
     exact ih'

theorem fightFire_ev {es : List S119} {n d : Nat} (hn : n ≤ 8) (hd : d ≤ 3) : ∀ (F b f : Nat), F ≤ 100 → b < 2 ^ n → f < 2 ^ n → n < (bl n (b ||| f)).length + F →
  Ev (fun k => impl_net_fightFire.f k (nets es n) b f d) (fgt es n d F b f)
 | 0, b, f, _, _, _, h => by have := bl_len_le n (b ||| f);omega
 | F + 1, b, f, hF, hb, hf, h => by
  have hbb := bl_len_le n b
  have hT := thrM_lt (es := es) f hb
  have hfr := bl_len_le n (freeM n b f)
  have hful : 2 ^ n - 1 < 2 ^ n := by have := Nat.two_pow_pos n;omega
  rw [Ev.iff_succ]
  simp only [impl_net_fightFire.f]
  rw [Ev.bind_iff (threatened_ev es n b f hn hb hf), Ev.ite_iff]
  unfold fgt
  by_cases c : thrM es n b f = 0
  ·rw [if_pos (by omega), if_pos c, ones_bl hn hb]
   simp only [impl_net_size.f, nets_len, Option.bind_some, Ev.now_iff]
   rw [w64 (by omega) (by omega)]
  ·rw [if_neg (by omega), if_neg c, all_eq hn]
   simp only [Option.bind_some]
   rw [gandn _ _ (lt62 hn hful) (lt62 hn hb), gandn _ _ (lt62 hn (mns_lt _ hful)) (lt62 hn hf)]
   rw [show mns (mns (2 ^ n - 1) b) f = freeM n b f from rfl, Ev.bind_iff (setOf_ev n _ hn freeM_lt)]
   have hmn : mn (d : Int) ((bl n (freeM n b f)).length : Int) = ((min d (bl n (freeM n b f)).length : Nat) : Int) := by unfold mn;split <;> omega
   rw [hmn, Ev.bind_iff (subsetsOf_ev 8 _ _ (by omega) (by omega) (by omega))]
   rw [show cho (bl n (freeM n b f)) (min d (bl n (freeM n b f)).length) = chosM n d b f from rfl]
   have hmem : ∀ s ∈ chosM n d b f, s.length = min d (bl n (freeM n b f)).length ∧ (∀ x ∈ s, 0 ≤ x ∧ x < n) ∧ ∀ x ∈ s, b.testBit x.toNat = false ∧ f.testBit x.toNat = false := fun s hs => chosM_mem hs
   have hgr : ∀ s ∈ chosM n d b f, _ := fun s hs => fgt_grow hb hf c hs
   have hClen : (chosM n d b f).length ≤ 256 := Nat.le_trans (cho_len _ _) (p8 (by omega))
   generalize chosM n d b f = C at hmem hgr hClen ⊢
   have H := down C.length (fun i => ∀ st : Int × List (List Int), Ev (fun k => impl_net_fightFire.l0 k d st.1 st.2 C C.length i (nets es n) b f) ((C.drop i).foldl (fgtStep es n b f (fgt es n d F)) st)) ?_ ?_ 0 (by omega) (-1, [])
   ·exact H
   ·intro st
    rw [Ev.iff_succ]
    simp only [impl_net_fightFire.l0, Int.lt_irrefl, ↓reduceIte, Ev.now_iff, List.drop_length, List.foldl_nil]
   ·intro i hi ih st
    rw [Ev.iff_succ]
    have g1 : (i : Int) < C.length := by omega
    have g2 : (0 : Int) ≤ i := by omega
    have hs := hmem C[i] (List.getElem_mem hi)
    have hg := hgr C[i] (List.getElem_mem hi)
    have hS : mL C[i] < 2 ^ n := mL_lt hs.2.1
    have hf' : f ||| mL C[i] < 2 ^ n := Nat.or_lt_two_pow hf hS
    have ht' := thrM_lt (es := es) (f ||| mL C[i]) hb
    have hb' : b ||| thrM es n b (f ||| mL C[i]) < 2 ^ n := Nat.or_lt_two_pow hb ht'
    have hrec := fightFire_ev (es := es) hn hd F _ _ (by omega) hb' hf' (by omega)
    have hbd := fgt_bd (es := es) (n := n) (d := d) F (b ||| thrM es n b (f ||| mL C[i])) (f ||| mL C[i])
    rw [List.drop_eq_getElem_cons hi, List.foldl_cons]
    simp only [impl_net_fightFire.l0, Ev.ite_iff, g1, g2, ↓reduceIte, rdL2_lt C i hi]
    rw [Ev.bind_iff (maskOf_ev C[i] (by omega) (fun x hx => by have := hs.2.1 x hx;omega)), gor _ _ (lt62 hn hf) (lt62 hn hS), Ev.bind_iff (threatened_ev es n b _ hn hb hf'), gor _ _ (lt62 hn hb) (lt62 hn ht'), Ev.bind_iff hrec]
    simp only [Ev.ite_iff, Option.bind_some, w64_succ i (show i < 9223372036854775807 by omega)]
    have ih' := ih (fgtStep es n b f (fgt es n d F) st C[i])
    unfold fgtStep at ih' ⊢
    generalize fgt es n d F (b ||| thrM es n b (f ||| mL C[i])) (f ||| mL C[i]) = R at hbd ih' ⊢
    by_cases q : R.1 > st.1
    ·rw [if_pos q, if_pos (by simp;omega)]
     rw [if_pos q] at ih' ⊢
     exact ih'
    ·rw [if_neg q]
     rw [if_neg q] at ih' ⊢
     exact ih'

def fireB (n : Int) (es : List S119) (a d : Int) : Bool := okG n es && (decide (0 ≤ a ∧ a ≤ wrap64 (n - 1)) && decide (0 ≤ d ∧ d ≤ 3))

theorem fireB_use {n : Int} {es : List S119} {a d : Int} (h : fireB n es a d = true) : ∃ N x D : Nat, n = N ∧ a = x ∧ d = D ∧ N ≤ 8 ∧ okG N es = true ∧ x < N ∧ D ≤ 3 := by
 simp only [fireB, Bool.and_eq_true, decide_eq_true_eq] at h
 obtain ⟨h1, h2, h3⟩ := h
 obtain ⟨N, rfl, hN⟩ := okG_use h1
 rw [w64 (by omega) (by omega)] at h2
 exact ⟨N, a.toNat, d.toNat, rfl, by omega, by omega, hN, h1, by omega, by omega⟩

def mostSavedR (n : Int) (es : List S119) (a d : Int) : Int × Bool := if fireB n es a d then ((fgt es n.toNat d.toNat 9 (2 ^ a.toNat) 0).1, true) else (0, false)

theorem l8Good_eq (n : Int) (es : List S119) (a d : Int) : spec_l8Good.f n es a d = some (fireB n es a d) := by
 unfold spec_l8Good.f spec_l2Node.f fireB
 simp only [l2Good_eq, l1In_eq, Option.bind_some]
 by_cases h1 : okG n es = true
 ·rw [if_pos h1, h1, Bool.true_and]
  by_cases h2 : 0 ≤ a ∧ a ≤ wrap64 (n - 1)
  ·rw [if_pos (by simpa using h2)];simp [h2]
  ·rw [if_neg (by simpa using h2)];simp only [h2, decide_false, Bool.false_and]
 ·rw [if_neg h1, Bool.eq_false_iff.2 h1, Bool.false_and]

end Go.Proofs.Ytmokkhfmbenleaa.QSavedSum
