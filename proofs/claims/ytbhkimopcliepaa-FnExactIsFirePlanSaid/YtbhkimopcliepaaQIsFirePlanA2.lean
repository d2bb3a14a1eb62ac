import Derived.Test.YtbhkimopcliepaaQIsFirePlan0
import Derived.Test.YtbhkimopcliepaaQIsFirePlan1
import Derived.Test.YtbhkimopcliepaaQIsFirePlan10
import Derived.Test.YtbhkimopcliepaaQIsFirePlan11
import Derived.Test.YtbhkimopcliepaaQIsFirePlan13
import Derived.Test.YtbhkimopcliepaaQIsFirePlan15
import Derived.Test.YtbhkimopcliepaaQIsFirePlan2
import Derived.Test.YtbhkimopcliepaaQIsFirePlan5
import Derived.Test.YtbhkimopcliepaaQIsFirePlan7
import Derived.Test.YtbhkimopcliepaaQIsFirePlan8
import Derived.Test.YtbhkimopcliepaaQIsFirePlanA1
namespace Go.Proofs.Ytbhkimopcliepaa.QIsFirePlan
open Go.RowKit Go.Proofs.YtbhkimopcliepaaW.PrintWords Go.Proofs.YtbhkimopcliepaaW.PrintLast Go.Proofs.YtbhkimopcliepaaW.PrintMore
attribute [local go_sem] max2_int min2_int max_two min_two max_three min_three max_four min_four   -- for this text's walks alone
set_option linter.unusedVariables false
set_option linter.unusedSimpArgs false
theorem mk_self {n m : Nat} (h : m < 2 ^ n) : mk n (fun y => m.testBit y) = m := mask_ext (mk_lt _ _) h (fun i hi => by rw [mk_bit]; simp [hi])

theorem l8Next_l1 {es : List S100} {n : Nat} {L F : List Int} {acc i : Nat} {res : List Int} (hn : n ≤ 8) (hl : es.length ≤ 9223372036854775807) (hL : L.length ≤ 8) (hi : i < n)
    (hend : Ev (fun k => spec_l8Next.l0 k (bl n (if L.any (fun u => near es u i) then acc ||| 2 ^ i else acc)) ((i + 1 : Nat) : Int) n es L F) res) :
    Ev (fun k => spec_l8Next.l1 k (bl n acc) i 0 n es L F) res := by
  have H := down L.length (fun j => Ev (fun k => spec_l8Next.l1 k (bl n (if (L.take j).any (fun u => near es u i) then acc ||| 2 ^ i else acc)) i j n es L F) res) ?_ ?_ 0 (by omega)
  · simpa using H
  · show Ev _ _
    rw [Ev.iff_succ]
    simp only [spec_l8Next.l1, Int.lt_irrefl, ↓reduceIte, w64_succ i (by omega), List.take_length]
    exact hend
  · intro j hj jh
    show Ev _ _
    rw [Ev.iff_succ]
    have g1 : (j : Int) < L.length := by omega
    have g2 : (0 : Int) ≤ j := by omega
    rw [List.take_succ_eq_append_getElem hj, List.any_append] at jh
    simp only [List.any_cons, List.any_nil, Bool.or_false] at jh
    simp only [spec_l8Next.l1, Ev.ite_iff, g1, g2, ↓reduceIte, Ev.bind_iff (l2Near_ev n es _ i hl), rd_lt L j hj, w64_succ j (by omega), l1Put_bl hn hi, Option.bind_some]
    generalize (L.take j).any (fun u => near es u i) = q at jh ⊢
    by_cases c : near es L[j] i = true
    · rw [if_pos c]
      rw [c, Bool.or_true, if_pos rfl] at jh
      cases q
      · exact jh
      · simp only [↓reduceIte, Nat.or_assoc, Nat.or_self]; exact jh
    · rw [if_neg c]
      rw [Bool.eq_false_iff.2 c, Bool.or_false] at jh
      exact jh

theorem l8Next_ev (es : List S100) (n b f : Nat) (hn : n ≤ 8) (hb : b < 2 ^ n) (hl : es.length ≤ 9223372036854775807) : Ev (fun k => spec_l8Next.f k n es (bl n b) (bl n f)) (bl n (thrM es n b f)) := by
  have hbb := bl_len_le n b
  have hbf := bl_len_le n f
  have e0 : bl n 0 = [] := List.eq_nil_iff_forall_not_mem.2 (fun x hx => by obtain ⟨i, _, h2, _⟩ := mem_bl.1 hx; simp at h2)
  have H := down n (fun i => Ev (fun k => spec_l8Next.l0 k (bl n (mk i (fun y => (thrM es n b f).testBit y))) i n es (bl n b) (bl n f)) (bl n (thrM es n b f))) ?_ ?_ 0 (by omega)
  · rw [mk, e0] at H; exact H
  · show Ev _ _
    rw [Ev.iff_succ]
    simp only [spec_l8Next.l0, Int.lt_irrefl, ↓reduceIte, Ev.now_iff, mk_self (thrM_lt f hb)]
  · intro i hi ih
    show Ev _ _
    rw [Ev.iff_succ]
    have h1 : (i : Int) < (n : Int) := by omega
    rw [mk_succ_bl (n := n), thrM_bit hi] at ih
    simp only [spec_l8Next.l0, h1, ↓reduceIte]
    rw [Ev.bind_iff (l1Has_ev (bl n b) i (by omega)), Ev.ite_iff]
    simp only [mem_bl_nat, hi, true_and]
    cases cb : b.testBit i
    · rw [if_neg (by simp), Ev.bind_iff (l1Has_ev (bl n f) i (by omega)), Ev.iff_succ]
      simp only [spec_l8Next.j1, Ev.ite_iff, mem_bl_nat, hi, true_and]
      cases cf : f.testBit i
      · rw [if_neg (by simp)]
        rw [cb, cf] at ih
        simp only [Bool.not_false, Bool.true_and] at ih
        exact l8Next_l1 hn hl (by omega) hi ih
      · rw [if_pos (by simp), w64_succ i (by omega)]
        rw [cf] at ih
        simpa using ih
    · rw [if_pos (by simp), Ev.iff_succ]
      simp only [spec_l8Next.j1, ↓reduceIte, w64_succ i (by omega)]
      rw [cb] at ih
      simpa using ih

theorem l8Round_ev (es : List S100) (n b f : Nat) (l : List Int) (hn : n ≤ 8) (hb : b < 2 ^ n) (hf : f < 2 ^ n) (hl : l.length ≤ 8) (hr : ∀ x ∈ l, 0 ≤ x ∧ x < n) (he : es.length ≤ 9223372036854775807) :
    Ev (fun k => spec_l8Round.f k n es (bl n b) (bl n f) l) (bl n (b ||| thrM es n b (f ||| mL l)), bl n (f ||| mL l)) := by
  have hbb := bl_len_le n b
  have hbf := bl_len_le n f
  unfold spec_l8Round.f
  rw [l1Own_eq (by omega)]
  simp only [Option.bind_some]
  rw [l1Own_eq (by omega)]
  simp only [Option.bind_some]
  have H := down l.length (fun i => ∀ f : Nat, f < 2 ^ n → Ev (fun k => spec_l8Round.l0 k l i n es (bl n b) (bl n f)) (bl n (b ||| thrM es n b (f ||| mL (l.drop i))), bl n (f ||| mL (l.drop i)))) ?_ ?_ 0 (by omega) f hf
  · simpa using H
  · intro f hf
    rw [Ev.iff_succ]
    simp only [spec_l8Round.l0, Int.lt_irrefl, ↓reduceIte, List.drop_length, mL, Nat.or_zero]
    rw [Ev.bind_iff (l8Next_ev es n b f hn hb he)]
    have ht := thrM_lt (es := es) f hb
    generalize thrM es n b f = T at ht ⊢
    have hbT := bl_len_le n T
    have G := down (bl n T).length (fun j => ∀ b : Nat, b < 2 ^ n → Ev (fun k => spec_l8Round.l1 k (bl n T) j (bl n b) (bl n f)) (bl n (b ||| mL ((bl n T).drop j)), bl n f)) ?_ ?_ 0 (by omega) b hb
    · rw [List.drop_zero, mL_bl ht] at G; exact G
    · intro b _
      rw [Ev.iff_succ]
      simp only [spec_l8Round.l1, Int.lt_irrefl, ↓reduceIte, List.drop_length, mL, Nat.or_zero, Ev.now_iff]
    · intro j hj jh b hb
      rw [Ev.iff_succ]
      have g1 : (j : Int) < (bl n T).length := by omega
      have g2 : (0 : Int) ≤ j := by omega
      obtain ⟨y, hy, _, hye⟩ := rd_bl hj
      simp only [spec_l8Round.l1, Ev.ite_iff, g1, g2, ↓reduceIte, rd_lt _ j hj, hye, l1Put_bl hn hy, Option.bind_some, w64_succ j (by omega)]
      have := jh (b ||| 2 ^ y) (Nat.or_lt_two_pow hb (Nat.pow_lt_pow_right (by decide) hy))
      rw [List.drop_eq_getElem_cons hj, hye, mL, Int.toNat_natCast, ← Nat.or_assoc]
      exact this
  · intro i hi ih f hf
    rw [Ev.iff_succ]
    have g1 : (i : Int) < l.length := by omega
    have g2 : (0 : Int) ≤ i := by omega
    obtain ⟨a, s, e1, e2, e3, e4⟩ := dropc l i hi
    have hra := hr a (by rw [← e4]; exact List.getElem_mem hi)
    obtain ⟨x, rfl⟩ : ∃ x : Nat, a = x := ⟨a.toNat, by omega⟩
    have hx : x < n := by omega
    rw [e1, mL, Int.toNat_natCast, ← Nat.or_assoc]; rw [e2] at ih
    simp only [spec_l8Round.l0, Ev.ite_iff, g1, g2, ↓reduceIte, e3, l1Put_bl hn hx, Option.bind_some, w64_succ i (by omega)]
    exact ih _ (Nat.or_lt_two_pow hf (Nat.pow_lt_pow_right (by decide) hx))

theorem threatened_ev (es : List S100) (n b f : Nat) (hn : n ≤ 8) (hb : b < 2 ^ n) (hf : f < 2 ^ n) : Ev (fun k => impl_net_threatened.f k (nets es n) b f) ((thrM es n b f : Nat) : Int) := by
  unfold impl_net_threatened.f
  have h1 := aroM_lt (es := es) hb
  rw [Ev.bind_iff (around_ev es n b hn hb), Ev.now_iff, gandn _ _ (lt62 hn h1) (lt62 hn hb), gandn _ _ (lt62 hn (mns_lt _ h1)) (lt62 hn hf)]
  rfl

def freeM (n b f : Nat) : Nat := mns (mns (2 ^ n - 1) b) f

def chosM (n d b f : Nat) : List (List Int) := cho (bl n (freeM n b f)) (min d (bl n (freeM n b f)).length)

theorem freeM_bit {n b f i : Nat} (hi : i < n) : (freeM n b f).testBit i = (!b.testBit i && !f.testBit i) := by unfold freeM; rw [mns_bit, mns_bit, Nat.testBit_two_pow_sub_one]; simp [hi]

theorem chosM_mem {n d b f : Nat} {s : List Int} (h : s ∈ chosM n d b f) : s.length = min d (bl n (freeM n b f)).length ∧ (∀ x ∈ s, 0 ≤ x ∧ x < n) ∧ ∀ x ∈ s, b.testBit x.toNat = false ∧ f.testBit x.toNat = false := by
  refine ⟨cho_mem_len _ _ s h, fun x hx => ?_, fun x hx => ?_⟩
  · obtain ⟨i, h1, h2, rfl⟩ := mem_bl.1 (cho_mem_in _ _ s h x hx); omega
  · obtain ⟨i, h1, h2, rfl⟩ := mem_bl.1 (cho_mem_in _ _ s h x hx)
    rw [freeM_bit h1] at h2
    simpa using h2

/-- A round makes more nodes burning or defended. -/
theorem fgt_grow {es : List S100} {n d b f : Nat} {s : List Int} (hb : b < 2 ^ n) (hf : f < 2 ^ n) (ht : thrM es n b f ≠ 0) (hs : s ∈ chosM n d b f) :
    (bl n (b ||| f)).length + 1 ≤ (bl n ((b ||| thrM es n b (f ||| mL s)) ||| (f ||| mL s))).length := by
  obtain ⟨h1, h2, h3⟩ := chosM_mem hs
  have hS : mL s < 2 ^ n := mL_lt h2
  have hf' : f ||| mL s < 2 ^ n := Nat.or_lt_two_pow hf hS
  have hlt : (b ||| thrM es n b (f ||| mL s)) ||| (f ||| mL s) < 2 ^ n := Nat.or_lt_two_pow (Nat.or_lt_two_pow hb (thrM_lt _ hb)) hf'
  have hsub : ∀ i, i < n → (b ||| f).testBit i = true → ((b ||| thrM es n b (f ||| mL s)) ||| (f ||| mL s)).testBit i = true := fun i _ hi => by
    simp only [Nat.testBit_or, Bool.or_eq_true] at hi ⊢
    rcases hi with h | h
    · exact .inl (.inl h)
    · exact .inr (.inl h)
  have hle : (bl n (b ||| f)).length ≤ (bl n ((b ||| thrM es n b (f ||| mL s)) ||| (f ||| mL s))).length := by rw [bl_len, bl_len]; exact (cnt_mono n hsub).1
  by_cases e : (bl n ((b ||| thrM es n b (f ||| mL s)) ||| (f ||| mL s))).length ≤ (bl n (b ||| f)).length
  · exfalso
    have he := sub_len (Nat.or_lt_two_pow hb hf) hlt hsub e
    -- a node that is new
    by_cases c : s = []
    · subst c
      simp only [mL, Nat.or_zero] at he
      obtain ⟨y, hy⟩ : ∃ y, (thrM es n b f).testBit y = true := by
        refine Classical.byContradiction fun hn => ht (Nat.eq_of_testBit_eq fun i => ?_)
        rw [Nat.zero_testBit]
        exact Bool.eq_false_iff.2 (fun h => hn ⟨i, h⟩)
      have hyn : y < n := by
        refine Classical.byContradiction fun hn => ?_
        rw [bit_lt (thrM_lt f hb) (by omega)] at hy; cases hy
      have h4 := hy
      rw [thrM_bit hyn] at h4
      simp only [Bool.and_eq_true, Bool.not_eq_true'] at h4
      have h5 := congrArg (fun z => z.testBit y) he
      simp only [Nat.testBit_or, hy, h4.1.1, h4.1.2] at h5
      simp at h5
    · obtain ⟨x, t, rfl⟩ := List.exists_cons_of_ne_nil c
      have hx := h3 x (by simp)
      have hx2 := h2 x (by simp)
      have h5 := congrArg (fun z => z.testBit x.toNat) he
      have h6 : (mL (x :: t)).testBit x.toNat = true := by rw [mL_bit (fun y hy => (h2 y hy).1)]; simp; left; omega
      simp only [Nat.testBit_or, h6, hx.1, hx.2] at h5
      simp at h5
  · omega

/-- May a fire break out there, with so many defenders? -/
def fireB (n : Int) (es : List S100) (a d : Int) : Bool := okG n es && (decide (0 ≤ a ∧ a ≤ wrap64 (n - 1)) && decide (0 ≤ d ∧ d ≤ 3))

theorem fireB_use {n : Int} {es : List S100} {a d : Int} (h : fireB n es a d = true) : ∃ N x D : Nat, n = N ∧ a = x ∧ d = D ∧ N ≤ 8 ∧ okG N es = true ∧ x < N ∧ D ≤ 3 := by
  simp only [fireB, Bool.and_eq_true, decide_eq_true_eq] at h
  obtain ⟨h1, h2, h3⟩ := h
  obtain ⟨N, rfl, hN⟩ := okG_use h1
  rw [w64 (by omega) (by omega)] at h2
  exact ⟨N, a.toNat, d.toNat, rfl, by omega, by omega, hN, h1, by omega, by omega⟩

theorem l8Good_eq (n : Int) (es : List S100) (a d : Int) : spec_l8Good.f n es a d = some (fireB n es a d) := by
  unfold spec_l8Good.f spec_l2Node.f fireB
  simp only [l2Good_eq, l1In_eq, Option.bind_some]
  by_cases h1 : okG n es = true
  · rw [if_pos h1, h1, Bool.true_and]
    by_cases h2 : 0 ≤ a ∧ a ≤ wrap64 (n - 1)
    · rw [if_pos (by simpa using h2)]; simp [h2]
    · rw [if_neg (by simpa using h2)]; simp only [h2, decide_false, Bool.false_and]
  · rw [if_neg h1, Bool.eq_false_iff.2 h1, Bool.false_and]

theorem isFire_ev (n : Int) (es : List S100) (a d : Int) : Ev (fun k => impl_isFire.f k n es a d) (fireB n es a d) := by
  unfold impl_isFire.f
  rw [Ev.bind_iff (hasNodes_ev n es [a] (by simp)), Ev.ite_iff, within_eq]
  simp only [Option.bind_some, Ev.now_iff, allIn, List.all_cons, List.all_nil, Bool.and_true, fireB]
  cases okG n es
  · simp
  · by_cases h2 : 0 ≤ a ∧ a ≤ wrap64 (n - 1)
    · rw [if_pos (by simpa using h2)]; simp [h2]
    · rw [if_neg (by simpa using h2)]; simp only [h2, decide_false, Bool.false_and, Bool.true_and]

/-- Lists of lists: their size is told, or is too great. -/
theorem szIntSS_ev : ∀ (L : List (List Int)) (a : Nat), a ≤ 1048576 → L.length ≤ 9223372036854775807 → (∀ r ∈ L, r.length ≤ 9223372036854775807) →
    ∃ z : Int, Ev (fun k => laws_szIntSS.f k L (a : Int)) z ∧ (z < 0 ∨ (0 ≤ z ∧ L.length ≤ 1048576 ∧ ∀ r ∈ L, r.length ≤ 1048576)) := by
  intro L a ha hL hr
  unfold laws_szIntSS.f
  by_cases c : (L.length : Int) ≤ a
  case neg => exact ⟨-1, by rw [Ev.ite_iff, if_pos (by rw [w64] <;> omega), Ev.now_iff], .inl (by decide)⟩
  have hw : wrap64 ((a : Int) - (L.length : Int)) = ((a - L.length : Nat) : Int) := by rw [w64] <;> omega
  have H := down L.length (fun i => ∀ b : Nat, b ≤ 1048576 → ∃ z : Int, Ev (fun k => laws_szIntSS.l0 k L (b : Int) i) z ∧ (z < 0 ∨ (0 ≤ z ∧ ∀ r ∈ L.drop i, r.length ≤ 1048576))) ?_ ?_ 0 (by omega) (a - L.length) (by omega)
  · obtain ⟨z, h1, h2⟩ := H
    refine ⟨z, ?_, ?_⟩
    · rw [Ev.ite_iff, hw, if_neg (by omega)]; exact h1
    · rcases h2 with h | ⟨h, h'⟩
      · exact .inl h
      · exact .inr ⟨h, by omega, by simpa using h'⟩
  · intro b _
    refine ⟨b, ?_, .inr ⟨by omega, by simp⟩⟩
    rw [Ev.iff_succ]
    simp only [laws_szIntSS.l0, Int.lt_irrefl, ↓reduceIte, Ev.now_iff]
  · intro i hi ih b hb
    have h1 : (i : Int) < L.length := by omega
    have h2 : (0 : Int) ≤ i := by omega
    have hri := hr L[i] (List.getElem_mem hi)
    by_cases d : (L[i].length : Int) ≤ b
    case neg =>
      refine ⟨-1, ?_, .inl (by decide)⟩
      rw [Ev.iff_succ]
      have hw : wrap64 ((b : Int) - (L[i].length : Int)) < 0 := by rw [w64] <;> omega
      simp only [laws_szIntSS.l0, Ev.ite_iff, h1, h2, ↓reduceIte, rdL2_lt L i hi, laws_szIntS.f, hw, Option.bind_some, Ev.now_iff]
      rw [if_pos (by decide)]; trivial
    have hw : wrap64 ((b : Int) - (L[i].length : Int)) = ((b - L[i].length : Nat) : Int) := by rw [w64] <;> omega
    obtain ⟨z, h3, h4⟩ := ih (b - L[i].length) (by omega)
    refine ⟨z, ?_, ?_⟩
    · rw [Ev.iff_succ]
      simp only [laws_szIntSS.l0, Ev.ite_iff, h1, h2, ↓reduceIte, rdL2_lt L i hi, laws_szIntS.f, hw, show ¬ (((b - L[i].length : Nat) : Int) < 0) by omega, Option.bind_some, w64_succ i (show i < 9223372036854775807 by omega)]
      exact h3
    · rcases h4 with h | ⟨h, h'⟩
      · exact .inl h
      · refine .inr ⟨h, fun r hr => ?_⟩
        rw [List.drop_eq_getElem_cons hi] at hr
        rcases List.mem_cons.1 hr with e | e
        · subst e; omega
        · exact h' r e

theorem toIntSS_ev (L : List (List Int)) (hL : L.length ≤ 1048576) (hr : ∀ r ∈ L, r.length ≤ 1048576) : Ev (fun k => laws_toIntSS.f k L) L := by
  unfold laws_toIntSS.f
  rw [Ev.ite_iff, if_pos (by omega), Ev.ite_iff, if_pos (by omega), Int.toNat_natCast]
  have H := down L.length (fun i => Ev (fun k => laws_toIntSS.l0 k L (L.take i ++ List.replicate (L.length - i) []) i) L) ?_ ?_ 0 (by omega)
  · simpa using H
  · show Ev _ _
    rw [Ev.iff_succ]
    simp [laws_toIntSS.l0, Ev.now_iff]
  · intro i hi ih
    show Ev _ _
    rw [Ev.iff_succ]
    have h1 : (i : Int) < L.length := by omega
    have h2 : (0 : Int) ≤ i := by omega
    have h3 : (i : Int) < ((L.take i ++ List.replicate (L.length - i) ([] : List Int)).length : Int) := by
      rw [List.length_append, List.length_take, List.length_replicate]; omega
    have hri := hr L[i] (List.getElem_mem hi)
    simp only [laws_toIntSS.l0, Ev.ite_iff, h1, h2, ↓reduceIte, w64_succ i (by omega), rdL2_lt L i hi, Int.toNat_natCast]
    rw [Ev.bind_iff (toIntS_ev L[i] (by omega))]
    simp only [Ev.ite_iff, h3, ↓reduceIte]
    rw [set_fill L [] i hi]
    exact ih

theorem eqIntSS_refl (L : List (List Int)) (hL : L.length ≤ 9223372036854775807) (hr : ∀ r ∈ L, r.length ≤ 9223372036854775807) : Ev (fun k => laws_eqIntSS.f k L L) true := by
  unfold laws_eqIntSS.f
  rw [Ev.ite_iff, if_pos rfl]
  have H := down L.length (fun i => Ev (fun k => laws_eqIntSS.l0 k L L i) true) ?_ ?_ 0 (by omega)
  · simpa using H
  · show Ev _ _
    rw [Ev.iff_succ]
    simp [laws_eqIntSS.l0, Ev.now_iff]
  · intro i hi ih
    show Ev _ _
    rw [Ev.iff_succ]
    have h1 : (i : Int) < L.length := by omega
    have h2 : (0 : Int) ≤ i := by omega
    have hri := hr L[i] (List.getElem_mem hi)
    simp only [laws_eqIntSS.l0, Ev.ite_iff, h1, h2, ↓reduceIte, w64_succ i (by omega), rdL2_lt L i hi]
    rw [Ev.bind_iff (eqIntS_refl L[i] hri)]
    simp only [↓reduceIte]
    exact ih

/-- A set that may be defended: of so many nodes, none of them burning or defended. -/
def okS (n D b f : Nat) (s : List Int) : Bool := (allIn 0 ((n : Int) - 1) s && ascB none s) && (decide (s.length ≤ D) && decide (mL s &&& (b ||| f) = 0))

/-- A fire plan from a fire on. -/
def fpB (es : List S100) (n D : Nat) : List (List Int) → Nat → Nat → Bool
  | [], _, _ => true
  | s :: t, b, f => okS n D b f s && fpB es n D t (b ||| thrM es n b (f ||| mL s)) (f ||| mL s)

theorem apart_iff {n b f : Nat} {s : List Int} (hs : ∀ x ∈ s, 0 ≤ x ∧ x < (n : Int)) (hn : n ≤ 8) : (mL s &&& (b ||| f) = 0) ↔ ∀ x ∈ s, b.testBit x.toNat = false ∧ f.testBit x.toNat = false := by
  have hbit := fun i => mL_bit (fun x hx => (hs x hx).1) i
  constructor
  · intro h x hx
    have h1 := congrArg (fun z => z.testBit x.toNat) h
    have h2 : (mL s).testBit x.toNat = true := by rw [hbit]; have := hs x hx; simp; rwa [show max x 0 = x by omega]
    simp only [Nat.testBit_and, Nat.testBit_or, h2, Bool.true_and, Nat.zero_testBit] at h1
    simpa using h1
  · intro h
    apply Nat.eq_of_testBit_eq
    intro i
    rw [Nat.testBit_and, Nat.testBit_or, Nat.zero_testBit, hbit]
    by_cases hi : (i : Int) ∈ s
    · have := h _ hi
      simp only [Int.toNat_natCast] at this
      simp [this]
    · simp [hi]

theorem l8Apart_ev {n : Nat} (b f : Nat) (s : List Int) (hn : n ≤ 8) (hl : s.length ≤ 9223372036854775807) (hs : ∀ x ∈ s, 0 ≤ x ∧ x < (n : Int)) :
    Ev (fun k => spec_l8Apart.f k (bl n b) (bl n f) s) (decide (mL s &&& (b ||| f) = 0)) := by
  have hbb := bl_len_le n b
  have hbf := bl_len_le n f
  unfold spec_l8Apart.f
  rw [show decide (mL s &&& (b ||| f) = 0) = s.all (fun x => !b.testBit x.toNat && !f.testBit x.toNat) by
    rw [Bool.eq_iff_iff, decide_eq_true_eq, apart_iff hs hn, List.all_eq_true]; simp]
  have H := down s.length (fun i => Ev (fun k => spec_l8Apart.l0 k s i (bl n b) (bl n f)) ((s.drop i).all (fun x => !b.testBit x.toNat && !f.testBit x.toNat))) ?_ ?_ 0 (by omega)
  · simpa using H
  · show Ev _ _
    rw [Ev.iff_succ]
    simp only [spec_l8Apart.l0, Int.lt_irrefl, ↓reduceIte, Ev.now_iff, List.drop_length, List.all_nil]
  · intro i hi ih
    show Ev _ _
    rw [Ev.iff_succ]
    have h1 : (i : Int) < s.length := by omega
    have h2 : (0 : Int) ≤ i := by omega
    obtain ⟨a, t, e1, e2, e3, e4⟩ := dropc s i hi
    have ha := hs a (by rw [← e4]; exact List.getElem_mem hi)
    obtain ⟨y, rfl⟩ : ∃ y : Nat, a = y := ⟨a.toNat, by omega⟩
    have hy : y < n := by omega
    rw [e1]; rw [e2] at ih
    simp only [spec_l8Apart.l0, Ev.ite_iff, h1, h2, ↓reduceIte, e3, List.all_cons, Int.toNat_natCast]
    rw [Ev.bind_iff (l1Has_ev (bl n b) y (by omega)), Ev.ite_iff]
    simp only [mem_bl_nat, hy, true_and]
    cases cb : b.testBit y
    · rw [if_neg (by simp), Ev.bind_iff (l1Has_ev (bl n f) y (by omega)), Ev.ite_iff]
      simp only [mem_bl_nat, hy, true_and]
      cases cf : f.testBit y
      · rw [if_neg (by simp), w64_succ i (by omega)]
        simpa using ih
      · simp [Ev.now_iff]
    · simp [Ev.now_iff]

end Go.Proofs.Ytbhkimopcliepaa.QIsFirePlan
