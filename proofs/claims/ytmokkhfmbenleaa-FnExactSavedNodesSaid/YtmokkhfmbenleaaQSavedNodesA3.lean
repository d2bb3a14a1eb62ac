import Derived.Test.YtmokkhfmbenleaaQSavedNodes0
import Derived.Test.YtmokkhfmbenleaaQSavedNodes1
import Derived.Test.YtmokkhfmbenleaaQSavedNodes10
import Derived.Test.YtmokkhfmbenleaaQSavedNodes14
import Derived.Test.YtmokkhfmbenleaaQSavedNodes17
import Derived.Test.YtmokkhfmbenleaaQSavedNodes2
import Derived.Test.YtmokkhfmbenleaaQSavedNodes7
import Derived.Test.YtmokkhfmbenleaaQSavedNodesA2
namespace Go.Proofs.Ytmokkhfmbenleaa.QSavedNodes
open Go.RowKit Go.Proofs.YtmokkhfmbenleaaW.PrintWords Go.Proofs.YtmokkhfmbenleaaW.PrintLast Go.Proofs.YtmokkhfmbenleaaW.PrintMore
attribute [local go_sem] max2_int min2_int max_two min_two max_three min_three max_four min_four   -- for this text's walks alone
set_option linter.unusedVariables false
set_option linter.unusedSimpArgs false
theorem toIntSS_ev (L : List (List Int)) (hL : L.length ≤ 1048576) (hr : ∀ r ∈ L, r.length ≤ 1048576) : Ev (fun k => laws_toIntSS.f k L) L := by
 unfold laws_toIntSS.f
 rw [Ev.ite_iff, if_pos (by omega), Ev.ite_iff, if_pos (by omega), Int.toNat_natCast]
 have H := down L.length (fun i => Ev (fun k => laws_toIntSS.l0 k L (L.take i ++ List.replicate (L.length - i) []) i) L) ?_ ?_ 0 (by omega)
 ·simpa using H
 ·show Ev _ _
  rw [Ev.iff_succ]
  simp [laws_toIntSS.l0, Ev.now_iff]
 ·intro i hi ih
  show Ev _ _
  rw [Ev.iff_succ]
  have h1 : (i : Int) < L.length := by omega
  have h2 : (0 : Int) ≤ i := by omega
  have h3 : (i : Int) < ((L.take i ++ List.replicate (L.length - i) ([] : List Int)).length : Int) := by
   rw [List.length_append, List.length_take, List.length_replicate];omega
  have hri := hr L[i] (List.getElem_mem hi)
  simp only [laws_toIntSS.l0, Ev.ite_iff, h1, h2, ↓reduceIte, w64_succ i (by omega), rdL2_lt L i hi, Int.toNat_natCast]
  rw [Ev.bind_iff (toIntS_ev L[i] (by omega))]
  simp only [Ev.ite_iff, h3, ↓reduceIte]
  rw [set_fill L [] i hi]
  exact ih

theorem eqIntSS_refl (L : List (List Int)) (hL : L.length ≤ 9223372036854775807) (hr : ∀ r ∈ L, r.length ≤ 9223372036854775807) : Ev (fun k => laws_eqIntSS.f k L L) true := by
 unfold laws_eqIntSS.f
 rw [Ev.ite_iff, if_pos rfl]
 have H := down L.length (fun i => Ev (fun k => laws_eqIntSS.l0 k L L i) true) ?_ ?_ 0 (by omega)
 ·simpa using H
 ·show Ev _ _
  rw [Ev.iff_succ]
  simp [laws_eqIntSS.l0, Ev.now_iff]
 ·intro i hi ih
  show Ev _ _
  rw [Ev.iff_succ]
  have h1 : (i : Int) < L.length := by omega
  have h2 : (0 : Int) ≤ i := by omega
  have hri := hr L[i] (List.getElem_mem hi)
  simp only [laws_eqIntSS.l0, Ev.ite_iff, h1, h2, ↓reduceIte, w64_succ i (by omega), rdL2_lt L i hi]
  rw [Ev.bind_iff (eqIntS_refl L[i] hri)]
  simp only [↓reduceIte]
  exact ih

/-- A set that may be defended: of so many nodes, none of them burning or defended. -/
def okS (n D b f : Nat) (s : List Int) : Bool := (allIn 0 ((n : Int) - 1) s && ascB none s) && (decide (s.length ≤ D) && decide (mL s &&& (b ||| f) = 0))

/-- A fire plan from a fire on. -/
def fpB (es : List S119) (n D : Nat) : List (List Int) → Nat → Nat → Bool
 | [], _, _ => true
 | s :: t, b, f => okS n D b f s && fpB es n D t (b ||| thrM es n b (f ||| mL s)) (f ||| mL s)

theorem okS_in {n D b f : Nat} {s : List Int} (h : okS n D b f s = true) : (∀ x ∈ s, 0 ≤ x ∧ x < n) ∧ s.length ≤ D ∧ mL s < 2 ^ n := by
 simp only [okS, Bool.and_eq_true, decide_eq_true_eq] at h
 have h1 : ∀ x ∈ s, 0 ≤ x ∧ x < (n : Int) := fun x hx => by
  have h2 := h.1.1
  simp only [allIn, List.all_eq_true, decide_eq_true_eq] at h2
  have := h2 x hx
  omega
 exact ⟨h1, h.2.1, mL_lt h1⟩

theorem apart_iff {n b f : Nat} {s : List Int} (hs : ∀ x ∈ s, 0 ≤ x ∧ x < (n : Int)) (hn : n ≤ 8) : (mL s &&& (b ||| f) = 0) ↔ ∀ x ∈ s, b.testBit x.toNat = false ∧ f.testBit x.toNat = false := by
 have hbit := fun i => mL_bit (fun x hx => (hs x hx).1) i
 constructor
 ·intro h x hx
  have h1 := congrArg (fun z => z.testBit x.toNat) h
  have h2 : (mL s).testBit x.toNat = true := by rw [hbit];have := hs x hx;simp;rwa [show max x 0 = x by omega]
  simp only [Nat.testBit_and, Nat.testBit_or, h2, Bool.true_and, Nat.zero_testBit] at h1
  simpa using h1
 ·intro h
  apply Nat.eq_of_testBit_eq
  intro i
  rw [Nat.testBit_and, Nat.testBit_or, Nat.zero_testBit, hbit]
  by_cases hi : (i : Int) ∈ s
  ·have := h _ hi
   simp only [Int.toNat_natCast] at this
   simp [this]
  ·simp [hi]

theorem l8Apart_ev {n : Nat} (b f : Nat) (s : List Int) (hn : n ≤ 8) (hl : s.length ≤ 9223372036854775807) (hs : ∀ x ∈ s, 0 ≤ x ∧ x < (n : Int)) :
  Ev (fun k => spec_l8Apart.f k (bl n b) (bl n f) s) (decide (mL s &&& (b ||| f) = 0)) := by
 have hbb := bl_len_le n b
 have hbf := bl_len_le n f
 unfold spec_l8Apart.f
 rw [show decide (mL s &&& (b ||| f) = 0) = s.all (fun x => !b.testBit x.toNat && !f.testBit x.toNat) by
  rw [Bool.eq_iff_iff, decide_eq_true_eq, apart_iff hs hn, List.all_eq_true];simp]
 have H := down s.length (fun i => Ev (fun k => spec_l8Apart.l0 k s i (bl n b) (bl n f)) ((s.drop i).all (fun x => !b.testBit x.toNat && !f.testBit x.toNat))) ?_ ?_ 0 (by omega)
 ·simpa using H
 ·show Ev _ _
  rw [Ev.iff_succ]
  simp only [spec_l8Apart.l0, Int.lt_irrefl, ↓reduceIte, Ev.now_iff, List.drop_length, List.all_nil]
 ·intro i hi ih
  show Ev _ _
  rw [Ev.iff_succ]
  have h1 : (i : Int) < s.length := by omega
  have h2 : (0 : Int) ≤ i := by omega
  obtain ⟨a, t, e1, e2, e3, e4⟩ := dropc s i hi
  have ha := hs a (by rw [← e4];exact List.getElem_mem hi)
  obtain ⟨y, rfl⟩ : ∃ y : Nat, a = y := ⟨a.toNat, by omega⟩
  have hy : y < n := by omega
  rw [e1];rw [e2] at ih
  simp only [spec_l8Apart.l0, Ev.ite_iff, h1, h2, ↓reduceIte, e3, List.all_cons, Int.toNat_natCast]
  rw [Ev.bind_iff (l1Has_ev (bl n b) y (by omega)), Ev.ite_iff]
  simp only [mem_bl_nat, hy, true_and]
  cases cb : b.testBit y
  ·rw [if_neg (by simp), Ev.bind_iff (l1Has_ev (bl n f) y (by omega)), Ev.ite_iff]
   simp only [mem_bl_nat, hy, true_and]
   cases cf : f.testBit y
   ·rw [if_neg (by simp), w64_succ i (by omega)]
    simpa using ih
   ·simp [Ev.now_iff]
  ·simp [Ev.now_iff]

theorem l8Plan_ev {es : List S119} {n D x : Nat} (hn : n ≤ 8) (hx : x < n) (hD : D ≤ 3) (he : es.length ≤ 9223372036854775807) (L : List (List Int)) (hL : L.length ≤ 1048576) (hr : ∀ r ∈ L, r.length ≤ 1048576) :
  Ev (fun k => spec_l8Plan.f k n es x D L) (decide (L.length ≤ 8) && fpB es n D L (2 ^ x) 0) := by
 unfold spec_l8Plan.f
 have e0 : bl n 0 = [] := List.eq_nil_iff_forall_not_mem.2 (fun x hx => by obtain ⟨i, _, h2, _⟩ := mem_bl.1 hx;simp at h2)
 have H := down (min L.length 8) (fun i => ∀ b f : Nat, b < 2 ^ n → f < 2 ^ n → Ev (fun k => spec_l8Plan.l0 k D L i n es (bl n b) (bl n f)) (decide (L.length ≤ 8) && fpB es n D (L.drop i) b f)) ?_ ?_ 0 (by omega) (2 ^ x) 0 (Nat.pow_lt_pow_right (by decide) hx) (Nat.two_pow_pos n)
 ·rw [e0, bl_pow n hn x hx] at H;exact H
 ·intro b f _ _
  rw [Ev.iff_succ]
  by_cases c : L.length ≤ 8
  ·have h1 : ¬ (((min L.length 8 : Nat) : Int) < L.length) := by omega
   simp only [spec_l8Plan.l0, h1, ↓reduceIte]
   rw [Ev.iff_succ]
   rw [show L.drop (min L.length 8) = [] from List.drop_eq_nil_iff.2 (by omega)]
   simp only [spec_l8Plan.j1, Bool.false_eq_true, ↓reduceIte, Ev.now_iff, fpB, Bool.and_true, decide_eq_decide]
   omega
  ·have h1 : ((min L.length 8 : Nat) : Int) < L.length := by omega
   have h2 : ¬ (((min L.length 8 : Nat) : Int) < 8) := by omega
   simp only [spec_l8Plan.l0, h1, h2, decide_false, ↓reduceIte]
   rw [Ev.iff_succ]
   simp only [spec_l8Plan.j1, Bool.false_eq_true, ↓reduceIte, Ev.now_iff, c, decide_false, Bool.false_and, decide_eq_false_iff_not]
   omega
 ·intro i hi ih b f hb hf
  rw [Ev.iff_succ]
  have hiL : i < L.length := by omega
  have h1 : (i : Int) < L.length := by omega
  have h2 : (0 : Int) ≤ i := by omega
  have h3 : (i : Int) < 8 := by omega
  have hri := hr L[i] (List.getElem_mem hiL)
  simp only [spec_l8Plan.l0, h1, h3, decide_true, ↓reduceIte]
  rw [Ev.iff_succ]
  rw [List.drop_eq_getElem_cons hiL, fpB]
  simp only [spec_l8Plan.j1, Ev.ite_iff, h1, h2, ↓reduceIte, rdL2_lt L i hiL]
  generalize L[i] = s at hri ⊢
  have hset : Ev (fun k => spec_l8Set.f k n es s D) ((allIn 0 ((n : Int) - 1) s && ascB none s) && decide (s.length ≤ D)) := by
   unfold spec_l8Set.f
   have h4 := l2Set_ev n es s (by omega)
   rw [w64 (by omega) (by omega)] at h4
   rw [Ev.bind_iff h4, Ev.ite_iff]
   cases (allIn 0 ((n : Int) - 1) s && ascB none s)
   ·simp [Ev.now_iff]
   ·simp [Ev.now_iff]
  rw [Ev.bind_iff hset, Ev.ite_iff]
  cases c1 : (allIn 0 ((n : Int) - 1) s && ascB none s)
  ·simp [Ev.now_iff, okS, c1]
  by_cases c2 : s.length ≤ D
  case neg => simp [Ev.now_iff, okS, c1, c2]
  have hsn : ∀ y ∈ s, 0 ≤ y ∧ y < (n : Int) := fun y hy => by
   simp only [Bool.and_eq_true] at c1
   have h5 := c1.1
   simp only [allIn, List.all_eq_true, decide_eq_true_eq] at h5
   have := h5 y hy
   omega
  rw [if_pos (by simp [c2]), Ev.bind_iff (l8Apart_ev b f s hn (by omega) hsn), Ev.ite_iff]
  by_cases c3 : mL s &&& (b ||| f) = 0
  case neg => simp [Ev.now_iff, okS, c1, c2, c3]
  rw [if_pos (by simp [c3])]
  have hS : mL s < 2 ^ n := mL_lt hsn
  have hf' : f ||| mL s < 2 ^ n := Nat.or_lt_two_pow hf hS
  rw [Ev.bind_iff (l8Round_ev es n b f s hn hb hf (by omega) hsn he)]
  simp only [w64_succ i (show i < 9223372036854775807 by omega), okS, c1, c2, c3, decide_true, Bool.and_self, Bool.true_and]
  exact ih _ _ (Nat.or_lt_two_pow hb (thrM_lt _ hb)) hf'

/-- Rounds without a set, until the fire stops. -/
def fpT (es : List S119) (n : Nat) : Nat → Nat → Nat → List Int → List Int × Int × Int × Bool
 | 0, b, f, acc => (acc, (b : Nat), (f : Nat), true)
 | F + 1, b, f, acc => if thrM es n b f = 0 then (acc, (b : Nat), (f : Nat), true) else fpT es n F (b ||| thrM es n b f) f (acc ++ [((b ||| thrM es n b f : Nat) : Int)])

/-- What the program's firePlan answers: what burns at first and after each round, the last state, and whether each list was one of a plan. -/
def fpI (es : List S119) (n D : Nat) : List (List Int) → Nat → Nat → List Int → List Int × Int × Int × Bool
 | [], b, f, acc => fpT es n 9 b f acc
 | s :: t, b, f, acc => if okS n D b f s then fpI es n D t (b ||| thrM es n b (f ||| mL s)) (f ||| mL s) (acc ++ [((b ||| thrM es n b (f ||| mL s) : Nat) : Int)]) else ([], (b : Nat), (f : Nat), false)

theorem fpT_ok {es : List S119} {n : Nat} : ∀ (F b f : Nat) (acc : List Int), (fpT es n F b f acc).2.2.2 = true
  | 0, _, _, _ => rfl
  | F + 1, b, f, acc => by unfold fpT; split; · rfl
                           · exact fpT_ok F _ _ _

theorem fpI_ok {es : List S119} {n D : Nat} : ∀ (L : List (List Int)) (b f : Nat) (acc : List Int), (fpI es n D L b f acc).2.2.2 = fpB es n D L b f
 | [], b, f, acc => by unfold fpI fpB;exact fpT_ok 9 b f acc
 | s :: t, b, f, acc => by
  unfold fpI fpB
  cases okS n D b f s
  ·simp
  ·simp [fpI_ok t]

theorem grow_thr {es : List S119} {n b f : Nat} (hb : b < 2 ^ n) (hf : f < 2 ^ n) (ht : thrM es n b f ≠ 0) : (bl n (b ||| f)).length + 1 ≤ (bl n ((b ||| thrM es n b f) ||| f)).length := by
 have h := fgt_grow (d := 0) (s := []) hb hf ht (by unfold chosM;rw [Nat.zero_min, cho_zero];simp)
 simpa [mL] using h

theorem firePlan_tail {es : List S119} {n : Nat} (hn : n ≤ 8) (d : Int) (L : List (List Int)) : ∀ (F i b f : Nat) (acc : List Int), L.length ≤ i → i + F ≤ 2000000 → acc.length + F ≤ 2000000 → b < 2 ^ n → f < 2 ^ n → n < (bl n (b ||| f)).length + F →
  Ev (fun k => impl_firePlan.l0 k d L acc i n es (nets es n) b f) (fpT es n F b f acc)
 | 0, i, b, f, acc, _, _, _, _, _, h => by have := bl_len_le n (b ||| f);omega
 | F + 1, i, b, f, acc, hi, hF, hA, hb, hf, h => by
  rw [Ev.iff_succ]
  have h1 : ¬ ((i : Int) < L.length) := by omega
  have hT := thrM_lt (es := es) f hb
  simp only [impl_firePlan.l0, h1, ↓reduceIte]
  rw [Ev.bind_iff (threatened_ev es n b f hn hb hf), Ev.iff_succ]
  unfold fpT
  by_cases c : thrM es n b f = 0
  ·simp only [impl_firePlan.j1, c, Int.natCast_zero, bne_self_eq_false, Bool.false_eq_true, ↓reduceIte, Ev.now_iff]
  ·have h2 : ((thrM es n b f : Int) != 0) = true := by simp;omega
   have hT' := hT
   simp only [impl_firePlan.j1, h2, h1, ↓reduceIte, c]
   rw [Ev.bind_iff (threatened_ev es n b f hn hb hf)]
   simp only [Ev.ite_iff, show acc.length < 17592186044416 by omega, ↓reduceIte, w64_succ i (show i < 9223372036854775807 by omega), gor _ _ (lt62 hn hb) (lt62 hn hT)]
   exact firePlan_tail hn d L F (i + 1) _ f _ (by omega) (by omega) (by simp;omega) (Nat.or_lt_two_pow hb hT) hf (by have := grow_thr hb hf c;omega)

theorem firePlan_ev {es : List S119} {n D x : Nat} (hn : n ≤ 8) (hg : okG n es = true) (hx : x < n) (hD : D ≤ 3) (L : List (List Int)) (hr : ∀ r ∈ L, r.length ≤ 1048576) :
  Ev (fun k => impl_firePlan.f k n es x D L) (if L.length ≤ 8 then fpI es n D L (2 ^ x) 0 [((2 ^ x : Nat) : Int)] else ([], ((2 ^ x : Nat) : Int), 0, false)) := by
 unfold impl_firePlan.f
 rw [netOf_eq hg]
 simp only [Option.bind_some, Ev.ite_iff, show (0 : Int) ≤ x by omega, ↓reduceIte, shl_one (show x < 62 by omega)]
 by_cases c : L.length ≤ 8
 case neg => rw [if_pos (by omega), if_neg c, Ev.now_iff]
 rw [if_neg (by omega), if_pos c]
 have H := down L.length (fun i => ∀ (b f : Nat) (acc : List Int), acc.length ≤ i + 1 → b < 2 ^ n → f < 2 ^ n → Ev (fun k => impl_firePlan.l0 k D L acc i n es (nets es n) b f) (fpI es n D (L.drop i) b f acc)) ?_ ?_ 0 (by omega) (2 ^ x) 0 [((2 ^ x : Nat) : Int)] (by simp) (Nat.pow_lt_pow_right (by decide) hx) (Nat.two_pow_pos n)
 ·exact H
 ·intro b f acc ha hb hf
  rw [List.drop_length, fpI]
  exact firePlan_tail hn D L 9 L.length b f acc (Nat.le_refl _) (by omega) (by omega) hb hf (by omega)
 ·intro i hi ih b f acc ha hb hf
  rw [Ev.iff_succ]
  have h1 : (i : Int) < L.length := by omega
  have h2 : (0 : Int) ≤ i := by omega
  have hri := hr L[i] (List.getElem_mem hi)
  simp only [impl_firePlan.l0, h1, ↓reduceIte]
  rw [Ev.iff_succ]
  rw [List.drop_eq_getElem_cons hi, fpI]
  simp only [impl_firePlan.j1, Ev.ite_iff, h1, h2, ↓reduceIte, rdL2_lt L i hi]
  generalize L[i] = s at hri ⊢
  have bad : Ev (fun k => impl_firePlan.j2 k D L acc i s true n es (nets es n) b f) ([], (b : Int), (f : Int), false) := by
   rw [Ev.iff_succ]
   simp only [impl_firePlan.j2, ↓reduceIte, Ev.now_iff]
  by_cases c2 : s.length ≤ D
  case neg => rw [if_pos (by omega), if_neg (by simp [okS, c2])];exact bad
  rw [if_neg (by omega), Ev.bind_iff (isSet_ev n es s (by omega)), Ev.ite_iff, setB, hg, w64 (by omega) (by omega), Bool.true_and]
  cases c1 : (allIn 0 ((n : Int) - 1) s && ascB none s)
  ·rw [if_neg (by simp), if_neg (by simp [okS, c1])];exact bad
  have hsn : ∀ y ∈ s, 0 ≤ y ∧ y < (n : Int) := fun y hy => by
   simp only [Bool.and_eq_true] at c1
   have h5 := c1.1
   simp only [allIn, List.all_eq_true, decide_eq_true_eq] at h5
   have := h5 y hy
   omega
  have hS : mL s < 2 ^ n := mL_lt hsn
  have hf' : f ||| mL s < 2 ^ n := Nat.or_lt_two_pow hf hS
  have hbf : b ||| f < 2 ^ n := Nat.or_lt_two_pow hb hf
  have ht' := thrM_lt (es := es) (f ||| mL s) hb
  rw [if_pos rfl, Ev.bind_iff (maskOf_ev s (by omega) (fun y hy => by have := hsn y hy;omega))]
  rw [gor _ _ (lt62 hn hb) (lt62 hn hf), gand _ _ (lt62 hn hS) (lt62 hn hbf)]
  by_cases c3 : mL s &&& (b ||| f) = 0
  case neg =>
   rw [if_neg (by simp [okS, c3]), show (((mL s &&& (b ||| f) : Nat) : Int) != 0) = true by simp;omega]
   exact bad
  rw [c3, if_pos (by simp [okS, c1, c2, c3])]
  rw [show (((0 : Nat) : Int) != 0) = false from rfl, Ev.iff_succ]
  simp only [impl_firePlan.j2, Bool.false_eq_true, ↓reduceIte]
  rw [Ev.bind_iff (maskOf_ev s (by omega) (fun y hy => by have := hsn y hy;omega)), gor _ _ (lt62 hn hf) (lt62 hn hS), Ev.bind_iff (threatened_ev es n b _ hn hb hf'), gor _ _ (lt62 hn hb) (lt62 hn ht')]
  simp only [Ev.ite_iff, show acc.length < 17592186044416 by omega, ↓reduceIte, w64_succ i (show i < 9223372036854775807 by omega)]
  exact ih _ _ _ (by simp;omega) (Nat.or_lt_two_pow hb ht') hf'

/-- Rows of numbers one behind the other, as long as told. -/
def upSS : Int → List Nat → List (List Int)
 | _, [] => []
 | a, c :: cs => upF a c :: upSS (a + (c : Int)) cs

theorem upSS_len : ∀ (cs : List Nat) (a : Int), (upSS a cs).length = cs.length
 | [], _ => rfl
 | c :: cs, a => by simp [upSS, upSS_len cs]

theorem upSS_snoc : ∀ (cs : List Nat) (a : Int) (c : Nat), upSS a (cs ++ [c]) = upSS a cs ++ [upF (a + (cs.sum : Nat)) c]
 | [], a, c => by simp [upSS]
 | d :: cs, a, c => by
  rw [List.cons_append, upSS, upSS, upSS_snoc cs, List.sum_cons, List.cons_append]
  rw [show a + (d : Int) + ((cs.sum : Nat) : Int) = a + ((d + cs.sum : Nat) : Int) by omega]

theorem sum_take_succ (cs : List Nat) (i : Nat) (h : i < cs.length) : (cs.take (i + 1)).sum = (cs.take i).sum + cs[i] := by
 rw [List.take_succ_eq_append_getElem h, List.sum_append];simp

theorem sum_take_le (cs : List Nat) : ∀ i : Nat, (cs.take i).sum ≤ cs.sum := by
 intro i
 have h := List.take_append_drop i cs
 have h2 := congrArg List.sum h
 rw [List.sum_append] at h2
 omega

theorem markIntSS_ev (L : List (List Int)) (a : Int) (ha : 0 ≤ a) (hL : L.length < 9223372036854775807) (h : a + ((L.map List.length).sum : Nat) < 9223372036854775807) :
  Ev (fun k => laws_markIntSS.f k L a) (a + ((L.map List.length).sum : Nat), upSS a (L.map List.length)) := by
 have hcl : (L.map List.length).length = L.length := by simp
 have hcg : ∀ i (hi : i < L.length), (L.map List.length)[i]'(by rw [hcl];exact hi) = L[i].length := fun i hi => by simp
 generalize hcs : L.map List.length = cs at h hcl hcg ⊢
 have H := down L.length (fun i => Ev (fun k => laws_markIntSS.l0 k (upSS a (cs.take i) ++ L.drop i) (a + ((cs.take i).sum : Nat)) i) (a + (cs.sum : Nat), upSS a cs)) ?_ ?_ 0 (by omega)
 ·simpa [laws_markIntSS.f, upSS] using H
 ·show Ev _ _
  rw [Ev.iff_succ]
  simp only [List.drop_length, List.append_nil, List.take_of_length_le (show cs.length ≤ L.length by omega), laws_markIntSS.l0, upSS_len, hcl, Int.lt_irrefl, ↓reduceIte, Ev.now_iff]
 ·intro i hi ih
  show Ev _ _
  rw [Ev.iff_succ]
  have hic : i < cs.length := by omega
  have hut : (upSS a (cs.take i)).length = i := by rw [upSS_len, List.length_take];omega
  have h0 : ((upSS a (cs.take i) ++ L.drop i).length : Int) = L.length := by rw [List.length_append, hut, List.length_drop];omega
  have h1 : (i : Int) < L.length := by omega
  have h2 : (0 : Int) ≤ i := by omega
  have h3 : rd_L2 (upSS a (cs.take i) ++ L.drop i) i = L[i] := by
   rw [rdL2_lt _ i (by rw [List.length_append, hut, List.length_drop];omega), List.getElem_append_right (by omega)]
   simp [hut]
  have hs := sum_take_succ cs i hic
  have hsl := sum_take_le cs (i + 1)
  have hli := hcg i hi
  have h5 : (upSS a (cs.take i) ++ L.drop i).set i (upF (a + ((cs.take i).sum : Nat)) L[i].length) = upSS a (cs.take (i + 1)) ++ L.drop (i + 1) := by
   rw [List.drop_eq_getElem_cons hi, List.set_append_right _ _ (by omega), hut, Nat.sub_self, List.set_cons_zero, List.take_succ_eq_append_getElem hic, upSS_snoc, List.append_assoc, hli];rfl
  simp only [laws_markIntSS.l0, Ev.ite_iff, h0, h1, h2, ↓reduceIte, h3]
  rw [Ev.bind_iff (markIntS_ev L[i] _ (by omega) (by omega))]
  simp only [w64_succ i (show i < 9223372036854775807 by omega), Int.toNat_natCast, h5]
  rw [show a + ((cs.take i).sum : Nat) + ((L[i].length : Nat) : Int) = a + ((cs.take (i + 1)).sum : Nat) by omega]
  exact ih

/-- The fires behind a fire: a round a list, then until it stops. -/
def tailS (es : List S119) (n : Nat) : Nat → Nat → Nat → List (Nat × Nat)
 | 0, _, _ => []
 | F + 1, b, f => if thrM es n b f = 0 then [] else (b ||| thrM es n b f, f) :: tailS es n F (b ||| thrM es n b f) f

def runS (es : List S119) (n : Nat) : List (List Int) → Nat → Nat → List (Nat × Nat)
 | [], b, f => tailS es n 9 b f
 | s :: t, b, f => (b ||| thrM es n b (f ||| mL s), f ||| mL s) :: runS es n t (b ||| thrM es n b (f ||| mL s)) (f ||| mL s)

theorem tailS_len {es : List S119} {n : Nat} : ∀ F b f, (tailS es n F b f).length ≤ F
 | 0, _, _ => by simp [tailS]
 | F + 1, b, f => by
  unfold tailS
  split
  ·simp
  ·have := tailS_len (es := es) (n := n) F (b ||| thrM es n b f) f
   simp only [List.length_cons];omega

theorem runS_len {es : List S119} {n : Nat} : ∀ L b f, (runS es n L b f).length ≤ L.length + 9
 | [], b, f => by unfold runS;have := tailS_len (es := es) (n := n) 9 b f;simpa using this
 | s :: t, b, f => by
  unfold runS
  have := runS_len (es := es) (n := n) t (b ||| thrM es n b (f ||| mL s)) (f ||| mL s)
  simp only [List.length_cons];omega

theorem tailS_lt {es : List S119} {n : Nat} : ∀ F b f, b < 2 ^ n → f < 2 ^ n → ∀ s ∈ tailS es n F b f, s.1 < 2 ^ n
 | 0, _, _, _, _ => by simp [tailS]
 | F + 1, b, f, hb, hf => by
  have h1 := Nat.or_lt_two_pow hb (thrM_lt (es := es) f hb)
  unfold tailS
  split
  ·simp
  ·intro s hs
   rcases List.mem_cons.1 hs with e | e
   ·subst e;exact h1
   ·exact tailS_lt F _ _ h1 hf s e

theorem runS_lt {es : List S119} {n D : Nat} : ∀ L b f, b < 2 ^ n → f < 2 ^ n → fpB es n D L b f = true → ∀ s ∈ runS es n L b f, s.1 < 2 ^ n
 | [], b, f, hb, hf, _ => by unfold runS;exact tailS_lt 9 b f hb hf
 | s :: t, b, f, hb, hf, h => by
  unfold fpB at h
  simp only [Bool.and_eq_true] at h
  have hf' : f ||| mL s < 2 ^ n := Nat.or_lt_two_pow hf (okS_in h.1).2.2
  have hb' := Nat.or_lt_two_pow hb (thrM_lt (es := es) (f ||| mL s) hb)
  unfold runS
  intro x hx
  rcases List.mem_cons.1 hx with e | e
  ·subst e;exact hb'
  ·exact runS_lt t _ _ hb' hf' h.2 x e

theorem fpT_run {es : List S119} {n : Nat} : ∀ (F b f : Nat) (acc : List Int), (fpT es n F b f acc).1 = acc ++ (tailS es n F b f).map (fun s => ((s.1 : Nat) : Int))
 | 0, b, f, acc => by simp [fpT, tailS]
 | F + 1, b, f, acc => by
  unfold fpT tailS
  split
  ·simp
  ·rw [fpT_run F];simp

theorem fpI_run {es : List S119} {n D : Nat} : ∀ (L : List (List Int)) (b f : Nat) (acc : List Int), fpB es n D L b f = true → (fpI es n D L b f acc).1 = acc ++ (runS es n L b f).map (fun s => ((s.1 : Nat) : Int))
 | [], b, f, acc, _ => by unfold fpI runS;exact fpT_run 9 b f acc
 | s :: t, b, f, acc, h => by
  unfold fpB at h
  simp only [Bool.and_eq_true] at h
  unfold fpI runS
  rw [if_pos h.1, fpI_run t _ _ _ h.2];simp

end Go.Proofs.Ytmokkhfmbenleaa.QSavedNodes
