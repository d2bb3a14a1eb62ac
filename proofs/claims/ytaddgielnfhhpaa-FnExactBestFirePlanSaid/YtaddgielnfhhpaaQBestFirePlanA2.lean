import Derived.Test.YtaddgielnfhhpaaQBestFirePlan0
import Derived.Test.YtaddgielnfhhpaaQBestFirePlan13
import Derived.Test.YtaddgielnfhhpaaQBestFirePlan14
import Derived.Test.YtaddgielnfhhpaaQBestFirePlan6
import Derived.Test.YtaddgielnfhhpaaQBestFirePlan7
import Derived.Test.YtaddgielnfhhpaaQBestFirePlan8
import Derived.Test.YtaddgielnfhhpaaQBestFirePlan9
import Derived.Test.YtaddgielnfhhpaaQBestFirePlanA1
namespace Go.Proofs.Ytaddgielnfhhpaa.QBestFirePlan
open Go.RowKit Go.Proofs.YtaddgielnfhhpaaW.PrintWords Go.Proofs.YtaddgielnfhhpaaW.PrintLast Go.Proofs.YtaddgielnfhhpaaW.PrintMore
attribute [local go_sem] max2_int min2_int max_two min_two max_three min_three max_four min_four   -- for this text's walks alone
set_option linter.unusedVariables false
set_option linter.unusedSimpArgs false
theorem subsetsOf_ev : ∀ (m : Nat) (l : List Int) (k : Nat), l.length ≤ m → m ≤ 8 → k ≤ 8 → Ev (fun g => impl_subsetsOf.f g l k) (cho l k) := by
 intro m
 induction m using Nat.strongRecOn with
 | _ m IH =>
 intro l k hlm hm hk
 rw [Ev.iff_succ]
 simp only [impl_subsetsOf.f]
 cases k with
 | zero => rw [Ev.ite_iff, if_pos (by omega), Ev.now_iff, cho_zero]
 | succ k =>
 rw [Ev.ite_iff, if_neg (by omega)]
 have hp : 2 ^ l.length ≤ 256 := p8 (by omega)
 have H := down l.length (fun i => ∀ acc : List (List Int), acc.length + (cho (l.drop i) (k + 1)).length ≤ 256 → Ev (fun g => impl_subsetsOf.l0 g l ((k + 1 : Nat) : Int) acc l.length i) (acc ++ cho (l.drop i) (k + 1))) ?_ ?_ 0 (by omega) [] (by have := cho_len l (k + 1);simp;omega)
 ·simpa using H
 ·intro acc _
  rw [Ev.iff_succ]
  simp only [impl_subsetsOf.l0, Int.lt_irrefl, ↓reduceIte, Ev.now_iff, List.drop_length, cho, List.append_nil]
 ·intro i hi ih acc ha
  rw [Ev.iff_succ]
  have h1 : (i : Int) < l.length := by omega
  have h2 : (0 : Int) ≤ i := by omega
  have h3 : (0 : Int) ≤ ((i + 1 : Nat) : Int) := by omega
  have h4 : ((i + 1 : Nat) : Int) ≤ l.length := by omega
  have e1 : wrap64 (((k + 1 : Nat) : Int) - 1) = (k : Int) := by rw [w64] <;> omega
  have hrec := IH (l.length - (i + 1)) (by omega) (l.drop (i + 1)) k (by rw [List.length_drop];omega) (by omega) (by omega)
  have hd := List.drop_eq_getElem_cons hi
  rw [hd, cho_cons, List.length_append, List.length_map] at ha
  rw [hd, cho_cons]
  simp only [impl_subsetsOf.l0, Ev.ite_iff, h1, h3, h4, ↓reduceIte, w64_succ i (show i < 9223372036854775807 by omega), e1, Int.toNat_natCast]
  rw [Ev.bind_iff hrec]
  have hml := cho_mem_len (l.drop (i + 1)) k
  generalize cho (l.drop (i + 1)) k = T at ha hml ⊢
  have G := down T.length (fun j => Ev (fun g => impl_subsetsOf.l1 g l ((k + 1 : Nat) : Int) (acc ++ (T.take j).map (fun t => l[i] :: t)) i l.length i T T.length j) (acc ++ (T.map (fun t => l[i] :: t) ++ cho (l.drop (i + 1)) (k + 1)))) ?_ ?_ 0 (by omega)
  ·simpa using G
  ·show Ev _ _
   rw [Ev.iff_succ]
   simp only [impl_subsetsOf.l1, Int.lt_irrefl, ↓reduceIte, w64_succ i (show i < 9223372036854775807 by omega), List.take_length]
   rw [← List.append_assoc]
   exact ih _ (by rw [List.length_append, List.length_map];omega)
  ·intro j hj jh
   show Ev _ _
   rw [Ev.iff_succ]
   have g1 : (j : Int) < T.length := by omega
   have g2 : (0 : Int) ≤ j := by omega
   have hTl := hml T[j] (List.getElem_mem hj)
   have g3 : [l[i]].length + T[j].length < 17592186044416 := by simp;omega
   have g4 : (acc ++ (T.take j).map (fun t => l[i] :: t)).length < 5864062014805 := by
    rw [List.length_append, List.length_map, List.length_take];omega
   rw [List.take_succ_eq_append_getElem hj, List.map_append, ← List.append_assoc] at jh
   simp only [impl_subsetsOf.l1, Ev.ite_iff, g1, g2, h1, h2, ↓reduceIte, Option.bind_some, rd_lt l i hi, rdL2_lt T j hj, g3, g4, w64_succ j (show j < 9223372036854775807 by omega)]
   exact jh

theorem l8Choices_ev : ∀ (m : Nat) (l : List Int) (k : Nat), l.length ≤ m → m ≤ 8 → k ≤ l.length → Ev (fun g => spec_l8Choices.f g l k) (cho l k) := by
 intro m
 induction m using Nat.strongRecOn with
 | _ m IH =>
 intro l k hlm hm hk
 rw [Ev.iff_succ]
 simp only [spec_l8Choices.f]
 cases k with
 | zero => rw [Ev.ite_iff, if_pos (by omega), Ev.now_iff, cho_zero]
 | succ k =>
 rw [Ev.ite_iff, if_neg (by omega)]
 have hp : 2 ^ l.length ≤ 256 := p8 (by omega)
 have H := down (l.length - k) (fun i => ∀ acc : List (List Int), acc.length + (cho (l.drop i) (k + 1)).length ≤ 256 → Ev (fun g => spec_l8Choices.l0 g l ((k + 1 : Nat) : Int) acc i) (acc ++ cho (l.drop i) (k + 1))) ?_ ?_ 0 (by omega) [] (by have := cho_len l (k + 1);simp;omega)
 ·simpa using H
 ·intro acc _
  rw [Ev.iff_succ]
  have e0 : wrap64 (((l.length - k : Nat) : Int) + ((k + 1 : Nat) : Int)) = (l.length : Int) + 1 := by rw [w64] <;> omega
  simp only [spec_l8Choices.l0, e0, Ev.ite_iff, Ev.now_iff]
  rw [if_neg (by omega), cho_nil _ _ (by rw [List.length_drop];omega), List.append_nil]
 ·intro i hi ih acc ha
  rw [Ev.iff_succ]
  have hil : i < l.length := by omega
  have h1 : (i : Int) < l.length := by omega
  have h2 : (0 : Int) ≤ i := by omega
  have h3 : (0 : Int) ≤ ((i + 1 : Nat) : Int) := by omega
  have h4 : ((i + 1 : Nat) : Int) ≤ l.length := by omega
  have e0 : wrap64 ((i : Int) + ((k + 1 : Nat) : Int)) = (i : Int) + ((k + 1 : Nat) : Int) := by rw [w64] <;> omega
  have h5 : (i : Int) + ((k + 1 : Nat) : Int) ≤ (l.length : Int) := by omega
  have e1 : wrap64 (((k + 1 : Nat) : Int) - 1) = (k : Int) := by rw [w64] <;> omega
  have hrec := IH (l.length - (i + 1)) (by omega) (l.drop (i + 1)) k (by rw [List.length_drop];omega) (by omega) (by rw [List.length_drop];omega)
  have hd := List.drop_eq_getElem_cons hil
  rw [hd, cho_cons, List.length_append, List.length_map] at ha
  rw [hd, cho_cons]
  simp only [spec_l8Choices.l0, e0, Ev.ite_iff, h3, h4, h5, ↓reduceIte, w64_succ i (show i < 9223372036854775807 by omega), e1, Int.toNat_natCast]
  rw [Ev.bind_iff hrec]
  have hml := cho_mem_len (l.drop (i + 1)) k
  generalize cho (l.drop (i + 1)) k = T at ha hml ⊢
  have G := down T.length (fun j => Ev (fun g => spec_l8Choices.l1 g l ((k + 1 : Nat) : Int) (acc ++ (T.take j).map (fun t => l[i] :: t)) i T j) (acc ++ (T.map (fun t => l[i] :: t) ++ cho (l.drop (i + 1)) (k + 1)))) ?_ ?_ 0 (by omega)
  ·simpa using G
  ·show Ev _ _
   rw [Ev.iff_succ]
   simp only [spec_l8Choices.l1, Int.lt_irrefl, ↓reduceIte, w64_succ i (show i < 9223372036854775807 by omega), List.take_length]
   rw [← List.append_assoc]
   exact ih _ (by rw [List.length_append, List.length_map];omega)
  ·intro j hj jh
   show Ev _ _
   rw [Ev.iff_succ]
   have g1 : (j : Int) < T.length := by omega
   have g2 : (0 : Int) ≤ j := by omega
   have hTl := hml T[j] (List.getElem_mem hj)
   have g3 : [l[i]].length + T[j].length < 17592186044416 := by simp;omega
   have g4 : (acc ++ (T.take j).map (fun t => l[i] :: t)).length < 5864062014805 := by
    rw [List.length_append, List.length_map, List.length_take];omega
   rw [List.take_succ_eq_append_getElem hj, List.map_append, ← List.append_assoc] at jh
   simp only [spec_l8Choices.l1, Ev.ite_iff, g1, g2, h1, h2, ↓reduceIte, Option.bind_some, rd_lt l i hil, rdL2_lt T j hj, g3, g4, w64_succ j (show j < 9223372036854775807 by omega)]
   exact jh

/-- What burns next. -/
def thrM (es : List S80) (n b f : Nat) : Nat := mns (mns (aroM es n b) b) f

theorem thrM_lt {es : List S80} {n b : Nat} (f : Nat) (hb : b < 2 ^ n) : thrM es n b f < 2 ^ n := mns_lt _ (mns_lt _ (aroM_lt hb))

theorem thrM_bit {es : List S80} {n b f y : Nat} (hy : y < n) : (thrM es n b f).testBit y = (!b.testBit y && !f.testBit y && (bl n b).any (fun u => near es u y)) := by
 have h : (bl n b).any (fun u => near es u y) = true ↔ ∃ x, x < n ∧ b.testBit x = true ∧ (nb es n x).testBit y = true := by
  rw [List.any_eq_true]
  constructor
  ·rintro ⟨u, hu, hn⟩
   obtain ⟨i, h1, h2, rfl⟩ := mem_bl.1 hu
   exact ⟨i, h1, h2, by rw [nb_bit];simp [hy, hn]⟩
  ·rintro ⟨x, h1, h2, h3⟩
   rw [nb_bit] at h3
   simp only [Bool.and_eq_true, decide_eq_true_eq] at h3
   exact ⟨(x : Int), mem_bl_nat.2 ⟨h1, h2⟩, h3.2⟩
 unfold thrM
 rw [mns_bit, mns_bit]
 have hA := aroM_bit es n b y
 rw [← h] at hA
 cases hb : b.testBit y
 ·cases hf : f.testBit y
  ·simp only [Bool.not_false, Bool.and_true, Bool.true_and]
   rw [Bool.eq_iff_iff, hA, hb];simp
  ·simp
 ·simp

theorem mk_succ_bl {n i : Nat} {p : Nat → Bool} : mk (i + 1) p = if p i then mk i p ||| 2 ^ i else mk i p := by
 rw [mk];split <;> simp

theorem mk_self {n m : Nat} (h : m < 2 ^ n) : mk n (fun y => m.testBit y) = m := mask_ext (mk_lt _ _) h (fun i hi => by rw [mk_bit]; simp [hi])

theorem l8Next_l1 {es : List S80} {n : Nat} {L F : List Int} {acc i : Nat} {res : List Int} (hn : n ≤ 8) (hl : es.length ≤ 9223372036854775807) (hL : L.length ≤ 8) (hi : i < n)
  (hend : Ev (fun k => spec_l8Next.l0 k (bl n (if L.any (fun u => near es u i) then acc ||| 2 ^ i else acc)) ((i + 1 : Nat) : Int) n es L F) res) :
  Ev (fun k => spec_l8Next.l1 k (bl n acc) i 0 n es L F) res := by
 have H := down L.length (fun j => Ev (fun k => spec_l8Next.l1 k (bl n (if (L.take j).any (fun u => near es u i) then acc ||| 2 ^ i else acc)) i j n es L F) res) ?_ ?_ 0 (by omega)
 ·simpa using H
 ·show Ev _ _
  rw [Ev.iff_succ]
  simp only [spec_l8Next.l1, Int.lt_irrefl, ↓reduceIte, w64_succ i (by omega), List.take_length]
  exact hend
 ·intro j hj jh
  show Ev _ _
  rw [Ev.iff_succ]
  have g1 : (j : Int) < L.length := by omega
  have g2 : (0 : Int) ≤ j := by omega
  rw [List.take_succ_eq_append_getElem hj, List.any_append] at jh
  simp only [List.any_cons, List.any_nil, Bool.or_false] at jh
  simp only [spec_l8Next.l1, Ev.ite_iff, g1, g2, ↓reduceIte, Ev.bind_iff (l2Near_ev n es _ i hl), rd_lt L j hj, w64_succ j (by omega), l1Put_bl hn hi, Option.bind_some]
  generalize (L.take j).any (fun u => near es u i) = q at jh ⊢
  by_cases c : near es L[j] i = true
  ·rw [if_pos c]
   rw [c, Bool.or_true, if_pos rfl] at jh
   cases q
   ·exact jh
   ·simp only [↓reduceIte, Nat.or_assoc, Nat.or_self];exact jh
  ·rw [if_neg c]
   rw [Bool.eq_false_iff.2 c, Bool.or_false] at jh
   exact jh

theorem l8Next_ev (es : List S80) (n b f : Nat) (hn : n ≤ 8) (hb : b < 2 ^ n) (hl : es.length ≤ 9223372036854775807) : Ev (fun k => spec_l8Next.f k n es (bl n b) (bl n f)) (bl n (thrM es n b f)) := by
 have hbb := bl_len_le n b
 have hbf := bl_len_le n f
 have e0 : bl n 0 = [] := List.eq_nil_iff_forall_not_mem.2 (fun x hx => by obtain ⟨i, _, h2, _⟩ := mem_bl.1 hx;simp at h2)
 have H := down n (fun i => Ev (fun k => spec_l8Next.l0 k (bl n (mk i (fun y => (thrM es n b f).testBit y))) i n es (bl n b) (bl n f)) (bl n (thrM es n b f))) ?_ ?_ 0 (by omega)
 ·rw [mk, e0] at H;exact H
 ·show Ev _ _
  rw [Ev.iff_succ]
  simp only [spec_l8Next.l0, Int.lt_irrefl, ↓reduceIte, Ev.now_iff, mk_self (thrM_lt f hb)]
 ·intro i hi ih
  show Ev _ _
  rw [Ev.iff_succ]
  have h1 : (i : Int) < (n : Int) := by omega
  rw [mk_succ_bl (n := n), thrM_bit hi] at ih
  simp only [spec_l8Next.l0, h1, ↓reduceIte]
  rw [Ev.bind_iff (l1Has_ev (bl n b) i (by omega)), Ev.ite_iff]
  simp only [mem_bl_nat, hi, true_and]
  cases cb : b.testBit i
  ·rw [if_neg (by simp), Ev.bind_iff (l1Has_ev (bl n f) i (by omega)), Ev.iff_succ]
   simp only [spec_l8Next.j1, Ev.ite_iff, mem_bl_nat, hi, true_and]
   cases cf : f.testBit i
   ·rw [if_neg (by simp)]
    rw [cb, cf] at ih
    simp only [Bool.not_false, Bool.true_and] at ih
    exact l8Next_l1 hn hl (by omega) hi ih
   ·rw [if_pos (by simp), w64_succ i (by omega)]
    rw [cf] at ih
    simpa using ih
  ·rw [if_pos (by simp), Ev.iff_succ]
   simp only [spec_l8Next.j1, ↓reduceIte, w64_succ i (by omega)]
   rw [cb] at ih
   simpa using ih

theorem l8Free_ev (es : List S80) (n b f : Nat) (hn : n ≤ 8) : Ev (fun k => spec_l8Free.f k n es (bl n b) (bl n f)) (bl n (mns (mns (2 ^ n - 1) b) f)) := by
 have hbb := bl_len_le n b
 have hbf := bl_len_le n f
 have H := down n (fun i => Ev (fun k => spec_l8Free.l0 k (bl i (mns (mns (2 ^ n - 1) b) f)) i n es (bl n b) (bl n f)) (bl n (mns (mns (2 ^ n - 1) b) f))) ?_ ?_ 0 (by omega)
 ·simpa [spec_l8Free.f, bl] using H
 ·show Ev _ _
  rw [Ev.iff_succ]
  simp [spec_l8Free.l0, Ev.now_iff]
 ·intro i hi ih
  show Ev _ _
  rw [Ev.iff_succ]
  have h1 : (i : Int) < (n : Int) := by omega
  have h3 := bl_len_le i (mns (mns (2 ^ n - 1) b) f)
  have h4 : (bl i (mns (mns (2 ^ n - 1) b) f)).length < 17592186044416 := by omega
  have h5 : (mns (mns (2 ^ n - 1) b) f).testBit i = (!b.testBit i && !f.testBit i) := by rw [mns_bit, mns_bit, Nat.testBit_two_pow_sub_one];simp [hi]
  rw [bl_step hi, h5] at ih
  simp only [spec_l8Free.l0, Ev.ite_iff, h1, h4, ↓reduceIte, w64_succ i (by omega), Ev.bind_iff (l1Has_ev (bl n b) i (by omega)), Ev.bind_iff (l1Has_ev (bl n f) i (by omega)), mem_bl_nat, hi, true_and]
  cases c : b.testBit i <;> cases d : f.testBit i <;> rw [c, d] at ih <;> simpa using ih

theorem l8Round_ev (es : List S80) (n b f : Nat) (l : List Int) (hn : n ≤ 8) (hb : b < 2 ^ n) (hf : f < 2 ^ n) (hl : l.length ≤ 8) (hr : ∀ x ∈ l, 0 ≤ x ∧ x < n) (he : es.length ≤ 9223372036854775807) :
  Ev (fun k => spec_l8Round.f k n es (bl n b) (bl n f) l) (bl n (b ||| thrM es n b (f ||| mL l)), bl n (f ||| mL l)) := by
 have hbb := bl_len_le n b
 have hbf := bl_len_le n f
 unfold spec_l8Round.f
 rw [l1Own_eq (by omega)]
 simp only [Option.bind_some]
 rw [l1Own_eq (by omega)]
 simp only [Option.bind_some]
 have H := down l.length (fun i => ∀ f : Nat, f < 2 ^ n → Ev (fun k => spec_l8Round.l0 k l i n es (bl n b) (bl n f)) (bl n (b ||| thrM es n b (f ||| mL (l.drop i))), bl n (f ||| mL (l.drop i)))) ?_ ?_ 0 (by omega) f hf
 ·simpa using H
 ·intro f hf
  rw [Ev.iff_succ]
  simp only [spec_l8Round.l0, Int.lt_irrefl, ↓reduceIte, List.drop_length, mL, Nat.or_zero]
  rw [Ev.bind_iff (l8Next_ev es n b f hn hb he)]
  have ht := thrM_lt (es := es) f hb
  generalize thrM es n b f = T at ht ⊢
  have hbT := bl_len_le n T
  have G := down (bl n T).length (fun j => ∀ b : Nat, b < 2 ^ n → Ev (fun k => spec_l8Round.l1 k (bl n T) j (bl n b) (bl n f)) (bl n (b ||| mL ((bl n T).drop j)), bl n f)) ?_ ?_ 0 (by omega) b hb
  ·rw [List.drop_zero, mL_bl ht] at G;exact G
  ·intro b _
   rw [Ev.iff_succ]
   simp only [spec_l8Round.l1, Int.lt_irrefl, ↓reduceIte, List.drop_length, mL, Nat.or_zero, Ev.now_iff]
  ·intro j hj jh b hb
   rw [Ev.iff_succ]
   have g1 : (j : Int) < (bl n T).length := by omega
   have g2 : (0 : Int) ≤ j := by omega
   obtain ⟨y, hy, _, hye⟩ := rd_bl hj
   simp only [spec_l8Round.l1, Ev.ite_iff, g1, g2, ↓reduceIte, rd_lt _ j hj, hye, l1Put_bl hn hy, Option.bind_some, w64_succ j (by omega)]
   have := jh (b ||| 2 ^ y) (Nat.or_lt_two_pow hb (Nat.pow_lt_pow_right (by decide) hy))
   rw [List.drop_eq_getElem_cons hj, hye, mL, Int.toNat_natCast, ← Nat.or_assoc]
   exact this
 ·intro i hi ih f hf
  rw [Ev.iff_succ]
  have g1 : (i : Int) < l.length := by omega
  have g2 : (0 : Int) ≤ i := by omega
  obtain ⟨a, s, e1, e2, e3, e4⟩ := dropc l i hi
  have hra := hr a (by rw [← e4];exact List.getElem_mem hi)
  obtain ⟨x, rfl⟩ : ∃ x : Nat, a = x := ⟨a.toNat, by omega⟩
  have hx : x < n := by omega
  rw [e1, mL, Int.toNat_natCast, ← Nat.or_assoc];rw [e2] at ih
  simp only [spec_l8Round.l0, Ev.ite_iff, g1, g2, ↓reduceIte, e3, l1Put_bl hn hx, Option.bind_some, w64_succ i (by omega)]
  exact ih _ (Nat.or_lt_two_pow hf (Nat.pow_lt_pow_right (by decide) hx))

theorem threatened_ev (es : List S80) (n b f : Nat) (hn : n ≤ 8) (hb : b < 2 ^ n) (hf : f < 2 ^ n) : Ev (fun k => impl_net_threatened.f k (nets es n) b f) ((thrM es n b f : Nat) : Int) := by
 unfold impl_net_threatened.f
 have h1 := aroM_lt (es := es) hb
 rw [Ev.bind_iff (around_ev es n b hn hb), Ev.now_iff, gandn _ _ (lt62 hn h1) (lt62 hn hb), gandn _ _ (lt62 hn (mns_lt _ h1)) (lt62 hn hf)]
 rfl

/-- A choice tried in a fire: the better of what was known and what it brings. -/
def fgtStep (es : List S80) (n b f : Nat) (rec : Nat → Nat → Int × List (List Int)) (st : Int × List (List Int)) (s : List Int) : Int × List (List Int) :=
 if (rec (b ||| thrM es n b (f ||| mL s)) (f ||| mL s)).1 > st.1 then ((rec (b ||| thrM es n b (f ||| mL s)) (f ||| mL s)).1, s :: (rec (b ||| thrM es n b (f ||| mL s)) (f ||| mL s)).2) else st

def freeM (n b f : Nat) : Nat := mns (mns (2 ^ n - 1) b) f

def chosM (n d b f : Nat) : List (List Int) := cho (bl n (freeM n b f)) (min d (bl n (freeM n b f)).length)

/-- The most nodes saved from a fire on, and the first full plan that saves them. -/
def fgt (es : List S80) (n d : Nat) : Nat → Nat → Nat → Int × List (List Int)
 | 0, _, _ => (0, [])
 | F + 1, b, f => if thrM es n b f = 0 then ((n : Int) - ((bl n b).length : Int), []) else (chosM n d b f).foldl (fgtStep es n b f (fgt es n d F)) (-1, [])

theorem freeM_lt {n b f : Nat} : freeM n b f < 2 ^ n := mns_lt _ (mns_lt _ (by have := Nat.two_pow_pos n; omega))

theorem freeM_bit {n b f i : Nat} (hi : i < n) : (freeM n b f).testBit i = (!b.testBit i && !f.testBit i) := by unfold freeM; rw [mns_bit, mns_bit, Nat.testBit_two_pow_sub_one]; simp [hi]

theorem fold_inv {α β : Type} (P : β → Prop) (g : β → α → β) : ∀ (l : List α) (b : β), P b → (∀ b, P b → ∀ a ∈ l, P (g b a)) → P (l.foldl g b)
 | [], _, h, _ => h
 | a :: l, b, h, hg => fold_inv P g l _ (hg b h a (by simp)) (fun b hb c hc => hg b hb c (by simp [hc]))

theorem fgt_bd {es : List S80} {n d : Nat} : ∀ (F b f : Nat), (fgt es n d F b f).2.length ≤ F ∧ -1 ≤ (fgt es n d F b f).1 ∧ (fgt es n d F b f).1 ≤ n
 | 0, b, f => by simp only [fgt, List.length_nil];omega
 | F + 1, b, f => by
  unfold fgt
  split
  ·have := bl_len_le n b
   simp only [List.length_nil];omega
  ·refine fold_inv (fun st : Int × List (List Int) => st.2.length ≤ F + 1 ∧ -1 ≤ st.1 ∧ st.1 ≤ n) _ _ _ (by simp only [List.length_nil];omega) (fun st hst s _ => ?_)
   unfold fgtStep
   have ih := fgt_bd (es := es) (n := n) (d := d) F (b ||| thrM es n b (f ||| mL s)) (f ||| mL s)
   split
   ·simp only [List.length_cons];omega
   ·exact hst

theorem chosM_mem {n d b f : Nat} {s : List Int} (h : s ∈ chosM n d b f) : s.length = min d (bl n (freeM n b f)).length ∧ (∀ x ∈ s, 0 ≤ x ∧ x < n) ∧ ∀ x ∈ s, b.testBit x.toNat = false ∧ f.testBit x.toNat = false := by
 refine ⟨cho_mem_len _ _ s h, fun x hx => ?_, fun x hx => ?_⟩
 ·obtain ⟨i, h1, h2, rfl⟩ := mem_bl.1 (cho_mem_in _ _ s h x hx);omega
 ·obtain ⟨i, h1, h2, rfl⟩ := mem_bl.1 (cho_mem_in _ _ s h x hx)
  rw [freeM_bit h1] at h2
  simpa using h2

/-- A round makes more nodes burning or defended. -/
theorem fgt_grow {es : List S80} {n d b f : Nat} {s : List Int} (hb : b < 2 ^ n) (hf : f < 2 ^ n) (ht : thrM es n b f ≠ 0) (hs : s ∈ chosM n d b f) :
  (bl n (b ||| f)).length + 1 ≤ (bl n ((b ||| thrM es n b (f ||| mL s)) ||| (f ||| mL s))).length := by
 obtain ⟨h1, h2, h3⟩ := chosM_mem hs
 have hS : mL s < 2 ^ n := mL_lt h2
 have hf' : f ||| mL s < 2 ^ n := Nat.or_lt_two_pow hf hS
 have hlt : (b ||| thrM es n b (f ||| mL s)) ||| (f ||| mL s) < 2 ^ n := Nat.or_lt_two_pow (Nat.or_lt_two_pow hb (thrM_lt _ hb)) hf'
 have hsub : ∀ i, i < n → (b ||| f).testBit i = true → ((b ||| thrM es n b (f ||| mL s)) ||| (f ||| mL s)).testBit i = true := fun i _ hi => by
  simp only [Nat.testBit_or, Bool.or_eq_true] at hi ⊢
  rcases hi with h | h
  ·exact .inl (.inl h)
  ·exact .inr (.inl h)
 have hle : (bl n (b ||| f)).length ≤ (bl n ((b ||| thrM es n b (f ||| mL s)) ||| (f ||| mL s))).length := by rw [bl_len, bl_len];exact (cnt_mono n hsub).1
 by_cases e : (bl n ((b ||| thrM es n b (f ||| mL s)) ||| (f ||| mL s))).length ≤ (bl n (b ||| f)).length
 ·exfalso
  have he := sub_len (Nat.or_lt_two_pow hb hf) hlt hsub e
  -- a node that is new
  by_cases c : s = []
  ·subst c
   simp only [mL, Nat.or_zero] at he
   obtain ⟨y, hy⟩ : ∃ y, (thrM es n b f).testBit y = true := by
    refine Classical.byContradiction fun hn => ht (Nat.eq_of_testBit_eq fun i => ?_)
    rw [Nat.zero_testBit]
    exact Bool.eq_false_iff.2 (fun h => hn ⟨i, h⟩)
   have hyn : y < n := by
    refine Classical.byContradiction fun hn => ?_
    rw [bit_lt (thrM_lt f hb) (by omega)] at hy;cases hy
   have h4 := hy
   rw [thrM_bit hyn] at h4
   simp only [Bool.and_eq_true, Bool.not_eq_true'] at h4
   have h5 := congrArg (fun z => z.testBit y) he
   simp only [Nat.testBit_or, hy, h4.1.1, h4.1.2] at h5
   simp at h5
  ·obtain ⟨x, t, rfl⟩ := List.exists_cons_of_ne_nil c
   have hx := h3 x (by simp)
   have hx2 := h2 x (by simp)
   have h5 := congrArg (fun z => z.testBit x.toNat) he
   have h6 : (mL (x :: t)).testBit x.toNat = true := by rw [mL_bit (fun y hy => (h2 y hy).1)];simp;left;omega
   simp only [Nat.testBit_or, h6, hx.1, hx.2] at h5
   simp at h5
 ·omega

theorem bl_zero_iff {n T : Nat} (h : T < 2 ^ n) : (bl n T).length = 0 ↔ T = 0 := by
 constructor
 ·intro e
  have e2 := List.eq_nil_of_length_eq_zero e
  rw [← mL_bl h, e2];rfl
 ·rintro rfl
  have e0 : bl n 0 = [] := List.eq_nil_iff_forall_not_mem.2 (fun x hx => by obtain ⟨i, _, h2, _⟩ := mem_bl.1 hx;simp at h2)
  rw [e0];rfl

theorem minI (a b : Nat) : (if (a : Int) < (b : Int) then (a : Int) else (b : Int)) = ((min a b : Nat) : Int) := by split <;> omega

end Go.Proofs.Ytaddgielnfhhpaa.QBestFirePlan
