import Derived.Test.YtmokkhfmbenleaaQSavedNodes0
import Derived.Test.YtmokkhfmbenleaaQSavedNodes1
import Derived.Test.YtmokkhfmbenleaaQSavedNodes11
import Derived.Test.YtmokkhfmbenleaaQSavedNodes13
import Derived.Test.YtmokkhfmbenleaaQSavedNodes15
import Derived.Test.YtmokkhfmbenleaaQSavedNodes17
import Derived.Test.YtmokkhfmbenleaaQSavedNodes5
import Derived.Test.YtmokkhfmbenleaaQSavedNodes6
import Derived.Test.YtmokkhfmbenleaaQSavedNodesA1
namespace Go.Proofs.Ytmokkhfmbenleaa.QSavedNodes
open Go.RowKit Go.Proofs.YtmokkhfmbenleaaW.PrintWords Go.Proofs.YtmokkhfmbenleaaW.PrintLast Go.Proofs.YtmokkhfmbenleaaW.PrintMore
attribute [local go_sem] max2_int min2_int max_two min_two max_three min_three max_four min_four   -- for this text's walks alone
set_option linter.unusedVariables false
set_option linter.unusedSimpArgs false
theorem heldIntS_ev (a : Int) (c : Nat) (ha : 0 ≤ a) (h : a + c < 9223372036854775807) : Ev (fun k => laws_heldIntS.f k (upF a c) a) (a + (c : Int)) := by
 have H := down c (fun i => Ev (fun k => laws_heldIntS.l0 k (upF a c) (a + (i : Int)) i) (a + (c : Int))) ?_ ?_ 0 (by omega)
 ·simpa [laws_heldIntS.f] using H
 ·show Ev _ _
  rw [Ev.iff_succ]
  simp [laws_heldIntS.l0, Ev.now_iff, upF_len]
 ·intro i hi ih
  show Ev _ _
  rw [Ev.iff_succ]
  have h1 : (i : Int) < (c : Int) := by omega
  have h2 : (0 : Int) ≤ i := by omega
  have h4 : wrap64 (a + (i : Int) + 1) = a + ((i + 1 : Nat) : Int) := by rw [w64] <;> omega
  simp only [laws_heldIntS.l0, Ev.ite_iff, upF_len, h1, h2, ↓reduceIte, w64_succ i (by omega), upF_rd hi, h4]
  exact ih

theorem markIntA2S_l0 (M : Int) (hM : M = 9223372036854775807) (d : Nat) : ∀ (l : List S119) (a : Int) (i : Nat), l.length = i + d → (l.length : Int) < M → 0 ≤ a → a + 2 * (d : Int) < M → ∃ r, laws_markIntA2S.l0 (d + 1) l a i = some (a + 2 * (d : Int), r) := by
 induction d with
 | zero =>
  intro l a i h _ _ _
  refine ⟨l, ?_⟩
  rw [laws_markIntA2S.l0, if_neg (by omega)]
  simp
 | succ d ih =>
  intro l a i h hl h0 h1
  have e1 : wrap64 (a + 1) = a + 1 := by rw [w64] <;> omega
  have e2 : wrap64 (a + 1 + 1) = a + 1 + 1 := by rw [w64] <;> omega
  have e3 : (i : Int) < (l.length : Int) := by omega
  have e4 : (0 : Int) ≤ i := by omega
  rw [laws_markIntA2S.l0, if_pos e3, if_pos e4, e1, e2, w64_succ i (by omega)]
  obtain ⟨r, hr⟩ := ih (l.set (i : Int).toNat ⟨a, a + 1⟩) (a + 1 + 1) (i + 1) (by rw [List.length_set];omega) (by rw [List.length_set];exact hl) (by omega) (by omega)
  exact ⟨r, by rw [hr];congr 2;omega⟩

theorem markGraph_eq (n : Int) (l : List S119) (a : Int) (ha : 0 ≤ a) (h : a + 2 * (l.length : Int) < 9223372036854775807) : ∃ r, laws_markGraph.f n l a = some (a + 2 * (l.length : Int), r) := by
 obtain ⟨r, hr⟩ := markIntA2S_l0 _ rfl l.length l a 0 (by omega) (by omega) ha h
 exact ⟨r, by simp only [laws_markGraph.f, laws_markIntA2S.f];rw [show ((0 : Nat) : Int) = 0 from rfl] at hr;rw [hr];rfl⟩

theorem setOf_ev (n m : Nat) (hn : n ≤ 8) (hm : m < 2 ^ n) : Ev (fun k => impl_setOf.f k m) (bl n m) := by
 obtain ⟨t, ht⟩ : ∃ t, t = 9 := ⟨_, rfl⟩
 have hs : ∀ i, n ≤ i → m >>> i = 0 := fun i hi => by
  rw [Nat.shiftRight_eq_div_pow];exact Nat.div_eq_of_lt (Nat.lt_of_lt_of_le hm (Nat.pow_le_pow_right (by decide) hi))
 have H := down n (fun i => Ev (fun k => impl_setOf.l0 k m (bl i m) i) (bl n m)) ?_ ?_ 0 (by omega)
 ·simpa [impl_setOf.f, bl] using H
 ·show Ev _ _
  rw [Ev.iff_succ]
  have h2 : (0 : Int) ≤ n := by omega
  simp [impl_setOf.l0, Ev.now_iff, h2, shr_nat m n (by omega), hs n (Nat.le_refl _)]
 ·intro i hi ih
  show Ev _ _
  rw [Ev.iff_succ]
  have h2 : (0 : Int) ≤ i := by omega
  have h3 := bl_len_le i m
  have h4 : (bl i m).length < 17592186044416 := by omega
  have e3 := shr_bit m i (lt62 hn hm) (by omega)
  rw [bl_step hi] at ih
  simp only [impl_setOf.l0, Ev.ite_iff, h2, h4, ↓reduceIte, w64_succ i (by omega), e3]
  by_cases c : shr .i64 (m : Int) (i : Int) = 0
  ·rw [if_pos c, Ev.now_iff]
   rw [shr_nat m i (by omega)] at c
   have c' : m >>> i = 0 := by omega
   have hb : ∀ j, i ≤ j → m.testBit j = false := fun j hj => by
    have : (m >>> i).testBit (j - i) = false := by rw [c'];simp
    rw [Nat.testBit_shiftRight] at this
    rwa [show i + (j - i) = j by omega] at this
   refine asc_ext (bl_asc _ _) (bl_asc _ _) (fun x => ?_)
   rw [mem_bl, mem_bl]
   constructor
   ·rintro ⟨j, h1, h2, rfl⟩;exact ⟨j, by omega, h2, rfl⟩
   ·rintro ⟨j, h1, h2, rfl⟩
    refine ⟨j, ?_, h2, rfl⟩
    by_cases hj : i ≤ j
    ·rw [hb j hj] at h2;cases h2
    ·omega
  ·rw [if_neg c]
   cases c2 : m.testBit i
   ·rw [c2] at ih;simpa using ih
   ·rw [c2] at ih;simpa using ih

theorem okG_use {n : Int} {es : List S119} (h : okG n es = true) : ∃ N : Nat, n = N ∧ N ≤ 8 := by
 simp only [okG, Bool.and_eq_true, decide_eq_true_eq] at h
 exact ⟨n.toNat, by omega, by omega⟩

/-- All ways to choose so many of a list, in order. -/
def cho : List Int → Nat → List (List Int)
 | _, 0 => [[]]
 | [], _ + 1 => []
 | x :: s, k + 1 => (cho s k).map (fun t => x :: t) ++ cho s (k + 1)

theorem cho_zero (l : List Int) : cho l 0 = [[]] := by cases l <;> rfl

theorem cho_cons (x : Int) (s : List Int) (k : Nat) : cho (x :: s) (k + 1) = (cho s k).map (fun t => x :: t) ++ cho s (k + 1) := rfl

theorem cho_mem_len : ∀ (l : List Int) (k : Nat), ∀ t ∈ cho l k, t.length = k
 | l, 0 => by rw [cho_zero];simp
 | [], k + 1 => by simp [cho]
 | x :: s, k + 1 => by
  rw [cho_cons]
  intro t ht
  rcases List.mem_append.1 ht with h | h
  ·obtain ⟨u, hu, rfl⟩ := List.mem_map.1 h
   rw [List.length_cons, cho_mem_len s k u hu]
  ·exact cho_mem_len s (k + 1) t h

theorem cho_mem_in : ∀ (l : List Int) (k : Nat), ∀ t ∈ cho l k, ∀ x ∈ t, x ∈ l
 | l, 0 => by rw [cho_zero];simp
 | [], k + 1 => by simp [cho]
 | x :: s, k + 1 => by
  rw [cho_cons]
  intro t ht y hy
  rcases List.mem_append.1 ht with h | h
  ·obtain ⟨u, hu, rfl⟩ := List.mem_map.1 h
   rcases List.mem_cons.1 hy with e | e
   ·simp [e]
   ·simp [cho_mem_in s k u hu y e]
  ·simp [cho_mem_in s (k + 1) t h y hy]

theorem rdL2_lt (l : List (List Int)) (i : Nat) (h : i < l.length) : rd_L2 l (i : Int) = l[i] := by simp [rd_L2, h]

/-- What burns next. -/
def thrM (es : List S119) (n b f : Nat) : Nat := mns (mns (aroM es n b) b) f

theorem thrM_lt {es : List S119} {n b : Nat} (f : Nat) (hb : b < 2 ^ n) : thrM es n b f < 2 ^ n := mns_lt _ (mns_lt _ (aroM_lt hb))

theorem thrM_bit {es : List S119} {n b f y : Nat} (hy : y < n) : (thrM es n b f).testBit y = (!b.testBit y && !f.testBit y && (bl n b).any (fun u => near es u y)) := by
 have h : (bl n b).any (fun u => near es u y) = true ↔ ∃ x, x < n ∧ b.testBit x = true ∧ (nb es n x).testBit y = true := by
  rw [List.any_eq_true]
  constructor
  ·rintro ⟨u, hu, hn⟩
   obtain ⟨i, h1, h2, rfl⟩ := mem_bl.1 hu
   exact ⟨i, h1, h2, by rw [nb_bit];simp [hy, hn]⟩
  ·rintro ⟨x, h1, h2, h3⟩
   rw [nb_bit] at h3
   simp only [Bool.and_eq_true, decide_eq_true_eq] at h3
   exact ⟨(x : Int), mem_bl_nat.2 ⟨h1, h2⟩, h3.2⟩
 unfold thrM
 rw [mns_bit, mns_bit]
 have hA := aroM_bit es n b y
 rw [← h] at hA
 cases hb : b.testBit y
 ·cases hf : f.testBit y
  ·simp only [Bool.not_false, Bool.and_true, Bool.true_and]
   rw [Bool.eq_iff_iff, hA, hb];simp
  ·simp
 ·simp

theorem mk_succ_bl {n i : Nat} {p : Nat → Bool} : mk (i + 1) p = if p i then mk i p ||| 2 ^ i else mk i p := by
 rw [mk];split <;> simp

theorem mk_self {n m : Nat} (h : m < 2 ^ n) : mk n (fun y => m.testBit y) = m := mask_ext (mk_lt _ _) h (fun i hi => by rw [mk_bit]; simp [hi])

theorem l8Next_l1 {es : List S119} {n : Nat} {L F : List Int} {acc i : Nat} {res : List Int} (hn : n ≤ 8) (hl : es.length ≤ 9223372036854775807) (hL : L.length ≤ 8) (hi : i < n)
  (hend : Ev (fun k => spec_l8Next.l0 k (bl n (if L.any (fun u => near es u i) then acc ||| 2 ^ i else acc)) ((i + 1 : Nat) : Int) n es L F) res) :
  Ev (fun k => spec_l8Next.l1 k (bl n acc) i 0 n es L F) res := by
 have H := down L.length (fun j => Ev (fun k => spec_l8Next.l1 k (bl n (if (L.take j).any (fun u => near es u i) then acc ||| 2 ^ i else acc)) i j n es L F) res) ?_ ?_ 0 (by omega)
 ·simpa using H
 ·show Ev _ _
  rw [Ev.iff_succ]
  simp only [spec_l8Next.l1, Int.lt_irrefl, ↓reduceIte, w64_succ i (by omega), List.take_length]
  exact hend
 ·intro j hj jh
  show Ev _ _
  rw [Ev.iff_succ]
  have g1 : (j : Int) < L.length := by omega
  have g2 : (0 : Int) ≤ j := by omega
  rw [List.take_succ_eq_append_getElem hj, List.any_append] at jh
  simp only [List.any_cons, List.any_nil, Bool.or_false] at jh
  simp only [spec_l8Next.l1, Ev.ite_iff, g1, g2, ↓reduceIte, Ev.bind_iff (l2Near_ev n es _ i hl), rd_lt L j hj, w64_succ j (by omega), l1Put_bl hn hi, Option.bind_some]
  generalize (L.take j).any (fun u => near es u i) = q at jh ⊢
  by_cases c : near es L[j] i = true
  ·rw [if_pos c]
   rw [c, Bool.or_true, if_pos rfl] at jh
   cases q
   ·exact jh
   ·simp only [↓reduceIte, Nat.or_assoc, Nat.or_self];exact jh
  ·rw [if_neg c]
   rw [Bool.eq_false_iff.2 c, Bool.or_false] at jh
   exact jh

theorem l8Next_ev (es : List S119) (n b f : Nat) (hn : n ≤ 8) (hb : b < 2 ^ n) (hl : es.length ≤ 9223372036854775807) : Ev (fun k => spec_l8Next.f k n es (bl n b) (bl n f)) (bl n (thrM es n b f)) := by
 have hbb := bl_len_le n b
 have hbf := bl_len_le n f
 have e0 : bl n 0 = [] := List.eq_nil_iff_forall_not_mem.2 (fun x hx => by obtain ⟨i, _, h2, _⟩ := mem_bl.1 hx;simp at h2)
 have H := down n (fun i => Ev (fun k => spec_l8Next.l0 k (bl n (mk i (fun y => (thrM es n b f).testBit y))) i n es (bl n b) (bl n f)) (bl n (thrM es n b f))) ?_ ?_ 0 (by omega)
 ·rw [mk, e0] at H;exact H
 ·show Ev _ _
  rw [Ev.iff_succ]
  simp only [spec_l8Next.l0, Int.lt_irrefl, ↓reduceIte, Ev.now_iff, mk_self (thrM_lt f hb)]
 ·intro i hi ih
  show Ev _ _
  rw [Ev.iff_succ]
  have h1 : (i : Int) < (n : Int) := by omega
  rw [mk_succ_bl (n := n), thrM_bit hi] at ih
  simp only [spec_l8Next.l0, h1, ↓reduceIte]
  rw [Ev.bind_iff (l1Has_ev (bl n b) i (by omega)), Ev.ite_iff]
  simp only [mem_bl_nat, hi, true_and]
  cases cb : b.testBit i
  ·rw [if_neg (by simp), Ev.bind_iff (l1Has_ev (bl n f) i (by omega)), Ev.iff_succ]
   simp only [spec_l8Next.j1, Ev.ite_iff, mem_bl_nat, hi, true_and]
   cases cf : f.testBit i
   ·rw [if_neg (by simp)]
    rw [cb, cf] at ih
    simp only [Bool.not_false, Bool.true_and] at ih
    exact l8Next_l1 hn hl (by omega) hi ih
   ·rw [if_pos (by simp), w64_succ i (by omega)]
    rw [cf] at ih
    simpa using ih
  ·rw [if_pos (by simp), Ev.iff_succ]
   simp only [spec_l8Next.j1, ↓reduceIte, w64_succ i (by omega)]
   rw [cb] at ih
   simpa using ih

theorem l8Round_ev (es : List S119) (n b f : Nat) (l : List Int) (hn : n ≤ 8) (hb : b < 2 ^ n) (hf : f < 2 ^ n) (hl : l.length ≤ 8) (hr : ∀ x ∈ l, 0 ≤ x ∧ x < n) (he : es.length ≤ 9223372036854775807) :
  Ev (fun k => spec_l8Round.f k n es (bl n b) (bl n f) l) (bl n (b ||| thrM es n b (f ||| mL l)), bl n (f ||| mL l)) := by
 have hbb := bl_len_le n b
 have hbf := bl_len_le n f
 unfold spec_l8Round.f
 rw [l1Own_eq (by omega)]
 simp only [Option.bind_some]
 rw [l1Own_eq (by omega)]
 simp only [Option.bind_some]
 have H := down l.length (fun i => ∀ f : Nat, f < 2 ^ n → Ev (fun k => spec_l8Round.l0 k l i n es (bl n b) (bl n f)) (bl n (b ||| thrM es n b (f ||| mL (l.drop i))), bl n (f ||| mL (l.drop i)))) ?_ ?_ 0 (by omega) f hf
 ·simpa using H
 ·intro f hf
  rw [Ev.iff_succ]
  simp only [spec_l8Round.l0, Int.lt_irrefl, ↓reduceIte, List.drop_length, mL, Nat.or_zero]
  rw [Ev.bind_iff (l8Next_ev es n b f hn hb he)]
  have ht := thrM_lt (es := es) f hb
  generalize thrM es n b f = T at ht ⊢
  have hbT := bl_len_le n T
  have G := down (bl n T).length (fun j => ∀ b : Nat, b < 2 ^ n → Ev (fun k => spec_l8Round.l1 k (bl n T) j (bl n b) (bl n f)) (bl n (b ||| mL ((bl n T).drop j)), bl n f)) ?_ ?_ 0 (by omega) b hb
  ·rw [List.drop_zero, mL_bl ht] at G;exact G
  ·intro b _
   rw [Ev.iff_succ]
   simp only [spec_l8Round.l1, Int.lt_irrefl, ↓reduceIte, List.drop_length, mL, Nat.or_zero, Ev.now_iff]
  ·intro j hj jh b hb
   rw [Ev.iff_succ]
   have g1 : (j : Int) < (bl n T).length := by omega
   have g2 : (0 : Int) ≤ j := by omega
   obtain ⟨y, hy, _, hye⟩ := rd_bl hj
   simp only [spec_l8Round.l1, Ev.ite_iff, g1, g2, ↓reduceIte, rd_lt _ j hj, hye, l1Put_bl hn hy, Option.bind_some, w64_succ j (by omega)]
   have := jh (b ||| 2 ^ y) (Nat.or_lt_two_pow hb (Nat.pow_lt_pow_right (by decide) hy))
   rw [List.drop_eq_getElem_cons hj, hye, mL, Int.toNat_natCast, ← Nat.or_assoc]
   exact this
 ·intro i hi ih f hf
  rw [Ev.iff_succ]
  have g1 : (i : Int) < l.length := by omega
  have g2 : (0 : Int) ≤ i := by omega
  obtain ⟨a, s, e1, e2, e3, e4⟩ := dropc l i hi
  have hra := hr a (by rw [← e4];exact List.getElem_mem hi)
  obtain ⟨x, rfl⟩ : ∃ x : Nat, a = x := ⟨a.toNat, by omega⟩
  have hx : x < n := by omega
  rw [e1, mL, Int.toNat_natCast, ← Nat.or_assoc];rw [e2] at ih
  simp only [spec_l8Round.l0, Ev.ite_iff, g1, g2, ↓reduceIte, e3, l1Put_bl hn hx, Option.bind_some, w64_succ i (by omega)]
  exact ih _ (Nat.or_lt_two_pow hf (Nat.pow_lt_pow_right (by decide) hx))

theorem threatened_ev (es : List S119) (n b f : Nat) (hn : n ≤ 8) (hb : b < 2 ^ n) (hf : f < 2 ^ n) : Ev (fun k => impl_net_threatened.f k (nets es n) b f) ((thrM es n b f : Nat) : Int) := by
 unfold impl_net_threatened.f
 have h1 := aroM_lt (es := es) hb
 rw [Ev.bind_iff (around_ev es n b hn hb), Ev.now_iff, gandn _ _ (lt62 hn h1) (lt62 hn hb), gandn _ _ (lt62 hn (mns_lt _ h1)) (lt62 hn hf)]
 rfl

def freeM (n b f : Nat) : Nat := mns (mns (2 ^ n - 1) b) f

def chosM (n d b f : Nat) : List (List Int) := cho (bl n (freeM n b f)) (min d (bl n (freeM n b f)).length)

theorem freeM_bit {n b f i : Nat} (hi : i < n) : (freeM n b f).testBit i = (!b.testBit i && !f.testBit i) := by unfold freeM; rw [mns_bit, mns_bit, Nat.testBit_two_pow_sub_one]; simp [hi]

theorem chosM_mem {n d b f : Nat} {s : List Int} (h : s ∈ chosM n d b f) : s.length = min d (bl n (freeM n b f)).length ∧ (∀ x ∈ s, 0 ≤ x ∧ x < n) ∧ ∀ x ∈ s, b.testBit x.toNat = false ∧ f.testBit x.toNat = false := by
 refine ⟨cho_mem_len _ _ s h, fun x hx => ?_, fun x hx => ?_⟩
 ·obtain ⟨i, h1, h2, rfl⟩ := mem_bl.1 (cho_mem_in _ _ s h x hx);omega
 ·obtain ⟨i, h1, h2, rfl⟩ := mem_bl.1 (cho_mem_in _ _ s h x hx)
  rw [freeM_bit h1] at h2
  simpa using h2

/-- A round makes more nodes burning or defended. -/
theorem fgt_grow {es : List S119} {n d b f : Nat} {s : List Int} (hb : b < 2 ^ n) (hf : f < 2 ^ n) (ht : thrM es n b f ≠ 0) (hs : s ∈ chosM n d b f) :
  (bl n (b ||| f)).length + 1 ≤ (bl n ((b ||| thrM es n b (f ||| mL s)) ||| (f ||| mL s))).length := by
 obtain ⟨h1, h2, h3⟩ := chosM_mem hs
 have hS : mL s < 2 ^ n := mL_lt h2
 have hf' : f ||| mL s < 2 ^ n := Nat.or_lt_two_pow hf hS
 have hlt : (b ||| thrM es n b (f ||| mL s)) ||| (f ||| mL s) < 2 ^ n := Nat.or_lt_two_pow (Nat.or_lt_two_pow hb (thrM_lt _ hb)) hf'
 have hsub : ∀ i, i < n → (b ||| f).testBit i = true → ((b ||| thrM es n b (f ||| mL s)) ||| (f ||| mL s)).testBit i = true := fun i _ hi => by
  simp only [Nat.testBit_or, Bool.or_eq_true] at hi ⊢
  rcases hi with h | h
  ·exact .inl (.inl h)
  ·exact .inr (.inl h)
 have hle : (bl n (b ||| f)).length ≤ (bl n ((b ||| thrM es n b (f ||| mL s)) ||| (f ||| mL s))).length := by rw [bl_len, bl_len];exact (cnt_mono n hsub).1
 by_cases e : (bl n ((b ||| thrM es n b (f ||| mL s)) ||| (f ||| mL s))).length ≤ (bl n (b ||| f)).length
 ·exfalso
  have he := sub_len (Nat.or_lt_two_pow hb hf) hlt hsub e
  -- a node that is new
  by_cases c : s = []
  ·subst c
   simp only [mL, Nat.or_zero] at he
   obtain ⟨y, hy⟩ : ∃ y, (thrM es n b f).testBit y = true := by
    refine Classical.byContradiction fun hn => ht (Nat.eq_of_testBit_eq fun i => ?_)
    rw [Nat.zero_testBit]
    exact Bool.eq_false_iff.2 (fun h => hn ⟨i, h⟩)
   have hyn : y < n := by
    refine Classical.byContradiction fun hn => ?_
    rw [bit_lt (thrM_lt f hb) (by omega)] at hy;cases hy
   have h4 := hy
   rw [thrM_bit hyn] at h4
   simp only [Bool.and_eq_true, Bool.not_eq_true'] at h4
   have h5 := congrArg (fun z => z.testBit y) he
   simp only [Nat.testBit_or, hy, h4.1.1, h4.1.2] at h5
   simp at h5
  ·obtain ⟨x, t, rfl⟩ := List.exists_cons_of_ne_nil c
   have hx := h3 x (by simp)
   have hx2 := h2 x (by simp)
   have h5 := congrArg (fun z => z.testBit x.toNat) he
   have h6 : (mL (x :: t)).testBit x.toNat = true := by rw [mL_bit (fun y hy => (h2 y hy).1)];simp;left;omega
   simp only [Nat.testBit_or, h6, hx.1, hx.2] at h5
   simp at h5
 ·omega

theorem bl_zero_iff {n T : Nat} (h : T < 2 ^ n) : (bl n T).length = 0 ↔ T = 0 := by
 constructor
 ·intro e
  have e2 := List.eq_nil_of_length_eq_zero e
  rw [← mL_bl h, e2];rfl
 ·rintro rfl
  have e0 : bl n 0 = [] := List.eq_nil_iff_forall_not_mem.2 (fun x hx => by obtain ⟨i, _, h2, _⟩ := mem_bl.1 hx;simp at h2)
  rw [e0];rfl

/-- May a fire break out there, with so many defenders? -/
def fireB (n : Int) (es : List S119) (a d : Int) : Bool := okG n es && (decide (0 ≤ a ∧ a ≤ wrap64 (n - 1)) && decide (0 ≤ d ∧ d ≤ 3))

theorem fireB_use {n : Int} {es : List S119} {a d : Int} (h : fireB n es a d = true) : ∃ N x D : Nat, n = N ∧ a = x ∧ d = D ∧ N ≤ 8 ∧ okG N es = true ∧ x < N ∧ D ≤ 3 := by
 simp only [fireB, Bool.and_eq_true, decide_eq_true_eq] at h
 obtain ⟨h1, h2, h3⟩ := h
 obtain ⟨N, rfl, hN⟩ := okG_use h1
 rw [w64 (by omega) (by omega)] at h2
 exact ⟨N, a.toNat, d.toNat, rfl, by omega, by omega, hN, h1, by omega, by omega⟩

theorem l8Good_eq (n : Int) (es : List S119) (a d : Int) : spec_l8Good.f n es a d = some (fireB n es a d) := by
 unfold spec_l8Good.f spec_l2Node.f fireB
 simp only [l2Good_eq, l1In_eq, Option.bind_some]
 by_cases h1 : okG n es = true
 ·rw [if_pos h1, h1, Bool.true_and]
  by_cases h2 : 0 ≤ a ∧ a ≤ wrap64 (n - 1)
  ·rw [if_pos (by simpa using h2)];simp [h2]
  ·rw [if_neg (by simpa using h2)];simp only [h2, decide_false, Bool.false_and]
 ·rw [if_neg h1, Bool.eq_false_iff.2 h1, Bool.false_and]

theorem isFire_ev (n : Int) (es : List S119) (a d : Int) : Ev (fun k => impl_isFire.f k n es a d) (fireB n es a d) := by
 unfold impl_isFire.f
 rw [Ev.bind_iff (hasNodes_ev n es [a] (by simp)), Ev.ite_iff, within_eq]
 simp only [Option.bind_some, Ev.now_iff, allIn, List.all_cons, List.all_nil, Bool.and_true, fireB]
 cases okG n es
 ·simp
 ·by_cases h2 : 0 ≤ a ∧ a ≤ wrap64 (n - 1)
  ·rw [if_pos (by simpa using h2)];simp [h2]
  ·rw [if_neg (by simpa using h2)];simp only [h2, decide_false, Bool.false_and, Bool.true_and]

/-- Lists of lists: their size is told, or is too great. -/
theorem szIntSS_ev : ∀ (L : List (List Int)) (a : Nat), a ≤ 1048576 → L.length ≤ 9223372036854775807 → (∀ r ∈ L, r.length ≤ 9223372036854775807) →
  ∃ z : Int, Ev (fun k => laws_szIntSS.f k L (a : Int)) z ∧ (z < 0 ∨ (0 ≤ z ∧ L.length ≤ 1048576 ∧ (∀ r ∈ L, r.length ≤ 1048576) ∧ (L.map List.length).sum ≤ 1048576)) := by
 intro L a ha hL hr
 unfold laws_szIntSS.f
 by_cases c : (L.length : Int) ≤ a
 case neg => exact ⟨-1, by rw [Ev.ite_iff, if_pos (by rw [w64] <;> omega), Ev.now_iff], .inl (by decide)⟩
 have hw : wrap64 ((a : Int) - (L.length : Int)) = ((a - L.length : Nat) : Int) := by rw [w64] <;> omega
 have H := down L.length (fun i => ∀ b : Nat, b ≤ 1048576 → ∃ z : Int, Ev (fun k => laws_szIntSS.l0 k L (b : Int) i) z ∧ (z < 0 ∨ (0 ≤ z ∧ (∀ r ∈ L.drop i, r.length ≤ 1048576) ∧ ((L.drop i).map List.length).sum ≤ b))) ?_ ?_ 0 (by omega) (a - L.length) (by omega)
 ·obtain ⟨z, h1, h2⟩ := H
  refine ⟨z, ?_, ?_⟩
  ·rw [Ev.ite_iff, hw, if_neg (by omega)];exact h1
  ·rcases h2 with h | ⟨h, h'⟩
   ·exact .inl h
   ·exact .inr ⟨h, by omega, by simpa using h'.1, by have := h'.2;rw [List.drop_zero] at this;omega⟩
 ·intro b _
  refine ⟨b, ?_, .inr ⟨by omega, by simp, by simp⟩⟩
  rw [Ev.iff_succ]
  simp only [laws_szIntSS.l0, Int.lt_irrefl, ↓reduceIte, Ev.now_iff]
 ·intro i hi ih b hb
  have h1 : (i : Int) < L.length := by omega
  have h2 : (0 : Int) ≤ i := by omega
  have hri := hr L[i] (List.getElem_mem hi)
  by_cases d : (L[i].length : Int) ≤ b
  case neg =>
   refine ⟨-1, ?_, .inl (by decide)⟩
   rw [Ev.iff_succ]
   have hw : wrap64 ((b : Int) - (L[i].length : Int)) < 0 := by rw [w64] <;> omega
   simp only [laws_szIntSS.l0, Ev.ite_iff, h1, h2, ↓reduceIte, rdL2_lt L i hi, laws_szIntS.f, hw, Option.bind_some, Ev.now_iff]
   rw [if_pos (by decide)];trivial
  have hw : wrap64 ((b : Int) - (L[i].length : Int)) = ((b - L[i].length : Nat) : Int) := by rw [w64] <;> omega
  obtain ⟨z, h3, h4⟩ := ih (b - L[i].length) (by omega)
  refine ⟨z, ?_, ?_⟩
  ·rw [Ev.iff_succ]
   simp only [laws_szIntSS.l0, Ev.ite_iff, h1, h2, ↓reduceIte, rdL2_lt L i hi, laws_szIntS.f, hw, show ¬ (((b - L[i].length : Nat) : Int) < 0) by omega, Option.bind_some, w64_succ i (show i < 9223372036854775807 by omega)]
   exact h3
  ·rcases h4 with h | ⟨h, h'⟩
   ·exact .inl h
   ·refine .inr ⟨h, fun r hr => ?_, ?_⟩
    ·rw [List.drop_eq_getElem_cons hi] at hr
     rcases List.mem_cons.1 hr with e | e
     ·subst e;omega
     ·exact h'.1 r e
    ·rw [List.drop_eq_getElem_cons hi, List.map_cons, List.sum_cons]
     have := h'.2
     omega

end Go.Proofs.Ytmokkhfmbenleaa.QSavedNodes
