import Derived.Test.YtbhkimopcliepaaQIsFirePlan0
import Derived.Test.YtbhkimopcliepaaQIsFirePlan10
import Derived.Test.YtbhkimopcliepaaQIsFirePlan14
import Derived.Test.YtbhkimopcliepaaQIsFirePlan15
import Derived.Test.YtbhkimopcliepaaQIsFirePlan16
import Derived.Test.YtbhkimopcliepaaQIsFirePlan8
import Derived.Test.YtbhkimopcliepaaQIsFirePlan9
import Derived.Test.YtbhkimopcliepaaQIsFirePlanA2
namespace Go.Proofs.Ytbhkimopcliepaa.QIsFirePlan
open Go.RowKit Go.Proofs.YtbhkimopcliepaaW.PrintWords Go.Proofs.YtbhkimopcliepaaW.PrintLast Go.Proofs.YtbhkimopcliepaaW.PrintMore
attribute [local go_sem] max2_int min2_int max_two min_two max_three min_three max_four min_four   -- for this text's walks alone
set_option linter.unusedVariables false
set_option linter.unusedSimpArgs false
theorem l8Plan_ev {es : List S100} {n D x : Nat} (hn : n ≤ 8) (hx : x < n) (hD : D ≤ 3) (he : es.length ≤ 9223372036854775807) (L : List (List Int)) (hL : L.length ≤ 1048576) (hr : ∀ r ∈ L, r.length ≤ 1048576) :
    Ev (fun k => spec_l8Plan.f k n es x D L) (decide (L.length ≤ 8) && fpB es n D L (2 ^ x) 0) := by
  unfold spec_l8Plan.f
  have e0 : bl n 0 = [] := List.eq_nil_iff_forall_not_mem.2 (fun x hx => by obtain ⟨i, _, h2, _⟩ := mem_bl.1 hx; simp at h2)
  have H := down (min L.length 8) (fun i => ∀ b f : Nat, b < 2 ^ n → f < 2 ^ n → Ev (fun k => spec_l8Plan.l0 k D L i n es (bl n b) (bl n f)) (decide (L.length ≤ 8) && fpB es n D (L.drop i) b f)) ?_ ?_ 0 (by omega) (2 ^ x) 0 (Nat.pow_lt_pow_right (by decide) hx) (Nat.two_pow_pos n)
  · rw [e0, bl_pow n hn x hx] at H; exact H
  · intro b f _ _
    rw [Ev.iff_succ]
    by_cases c : L.length ≤ 8
    · have h1 : ¬ (((min L.length 8 : Nat) : Int) < L.length) := by omega
      simp only [spec_l8Plan.l0, h1, ↓reduceIte]
      rw [Ev.iff_succ]
      rw [show L.drop (min L.length 8) = [] from List.drop_eq_nil_iff.2 (by omega)]
      simp only [spec_l8Plan.j1, Bool.false_eq_true, ↓reduceIte, Ev.now_iff, fpB, Bool.and_true, decide_eq_decide]
      omega
    · have h1 : ((min L.length 8 : Nat) : Int) < L.length := by omega
      have h2 : ¬ (((min L.length 8 : Nat) : Int) < 8) := by omega
      simp only [spec_l8Plan.l0, h1, h2, decide_false, ↓reduceIte]
      rw [Ev.iff_succ]
      simp only [spec_l8Plan.j1, Bool.false_eq_true, ↓reduceIte, Ev.now_iff, c, decide_false, Bool.false_and, decide_eq_false_iff_not]
      omega
  · intro i hi ih b f hb hf
    rw [Ev.iff_succ]
    have hiL : i < L.length := by omega
    have h1 : (i : Int) < L.length := by omega
    have h2 : (0 : Int) ≤ i := by omega
    have h3 : (i : Int) < 8 := by omega
    have hri := hr L[i] (List.getElem_mem hiL)
    simp only [spec_l8Plan.l0, h1, h3, decide_true, ↓reduceIte]
    rw [Ev.iff_succ]
    rw [List.drop_eq_getElem_cons hiL, fpB]
    simp only [spec_l8Plan.j1, Ev.ite_iff, h1, h2, ↓reduceIte, rdL2_lt L i hiL]
    generalize L[i] = s at hri ⊢
    have hset : Ev (fun k => spec_l8Set.f k n es s D) ((allIn 0 ((n : Int) - 1) s && ascB none s) && decide (s.length ≤ D)) := by
      unfold spec_l8Set.f
      have h4 := l2Set_ev n es s (by omega)
      rw [w64 (by omega) (by omega)] at h4
      rw [Ev.bind_iff h4, Ev.ite_iff]
      cases (allIn 0 ((n : Int) - 1) s && ascB none s)
      · simp [Ev.now_iff]
      · simp [Ev.now_iff]
    rw [Ev.bind_iff hset, Ev.ite_iff]
    cases c1 : (allIn 0 ((n : Int) - 1) s && ascB none s)
    · simp [Ev.now_iff, okS, c1]
    by_cases c2 : s.length ≤ D
    case neg => simp [Ev.now_iff, okS, c1, c2]
    have hsn : ∀ y ∈ s, 0 ≤ y ∧ y < (n : Int) := fun y hy => by
      simp only [Bool.and_eq_true] at c1
      have h5 := c1.1
      simp only [allIn, List.all_eq_true, decide_eq_true_eq] at h5
      have := h5 y hy
      omega
    rw [if_pos (by simp [c2]), Ev.bind_iff (l8Apart_ev b f s hn (by omega) hsn), Ev.ite_iff]
    by_cases c3 : mL s &&& (b ||| f) = 0
    case neg => simp [Ev.now_iff, okS, c1, c2, c3]
    rw [if_pos (by simp [c3])]
    have hS : mL s < 2 ^ n := mL_lt hsn
    have hf' : f ||| mL s < 2 ^ n := Nat.or_lt_two_pow hf hS
    rw [Ev.bind_iff (l8Round_ev es n b f s hn hb hf (by omega) hsn he)]
    simp only [w64_succ i (show i < 9223372036854775807 by omega), okS, c1, c2, c3, decide_true, Bool.and_self, Bool.true_and]
    exact ih _ _ (Nat.or_lt_two_pow hb (thrM_lt _ hb)) hf'

/-- Rounds without a set, until the fire stops. -/
def fpT (es : List S100) (n : Nat) : Nat → Nat → Nat → List Int → List Int × Int × Int × Bool
  | 0, b, f, acc => (acc, (b : Nat), (f : Nat), true)
  | F + 1, b, f, acc => if thrM es n b f = 0 then (acc, (b : Nat), (f : Nat), true) else fpT es n F (b ||| thrM es n b f) f (acc ++ [((b ||| thrM es n b f : Nat) : Int)])

/-- What the program's firePlan answers: what burns at first and after each round, the last state, and whether each list was one of a plan. -/
def fpI (es : List S100) (n D : Nat) : List (List Int) → Nat → Nat → List Int → List Int × Int × Int × Bool
  | [], b, f, acc => fpT es n 9 b f acc
  | s :: t, b, f, acc => if okS n D b f s then fpI es n D t (b ||| thrM es n b (f ||| mL s)) (f ||| mL s) (acc ++ [((b ||| thrM es n b (f ||| mL s) : Nat) : Int)]) else ([], (b : Nat), (f : Nat), false)

theorem fpT_ok {es : List S100} {n : Nat} : ∀ (F b f : Nat) (acc : List Int), (fpT es n F b f acc).2.2.2 = true
  | 0, _, _, _ => rfl
  | F + 1, b, f, acc => by unfold fpT; split; · rfl
                           · exact fpT_ok F _ _ _

theorem fpI_ok {es : List S100} {n D : Nat} : ∀ (L : List (List Int)) (b f : Nat) (acc : List Int), (fpI es n D L b f acc).2.2.2 = fpB es n D L b f
  | [], b, f, acc => by unfold fpI fpB; exact fpT_ok 9 b f acc
  | s :: t, b, f, acc => by
    unfold fpI fpB
    cases okS n D b f s
    · simp
    · simp [fpI_ok t]

theorem grow_thr {es : List S100} {n b f : Nat} (hb : b < 2 ^ n) (hf : f < 2 ^ n) (ht : thrM es n b f ≠ 0) : (bl n (b ||| f)).length + 1 ≤ (bl n ((b ||| thrM es n b f) ||| f)).length := by
  have h := fgt_grow (d := 0) (s := []) hb hf ht (by unfold chosM; rw [Nat.zero_min, cho_zero]; simp)
  simpa [mL] using h

theorem firePlan_tail {es : List S100} {n : Nat} (hn : n ≤ 8) (d : Int) (L : List (List Int)) : ∀ (F i b f : Nat) (acc : List Int), L.length ≤ i → i + F ≤ 2000000 → acc.length + F ≤ 2000000 → b < 2 ^ n → f < 2 ^ n → n < (bl n (b ||| f)).length + F →
    Ev (fun k => impl_firePlan.l0 k d L acc i n es (nets es n) b f) (fpT es n F b f acc)
  | 0, i, b, f, acc, _, _, _, _, _, h => by have := bl_len_le n (b ||| f); omega
  | F + 1, i, b, f, acc, hi, hF, hA, hb, hf, h => by
    rw [Ev.iff_succ]
    have h1 : ¬ ((i : Int) < L.length) := by omega
    have hT := thrM_lt (es := es) f hb
    simp only [impl_firePlan.l0, h1, ↓reduceIte]
    rw [Ev.bind_iff (threatened_ev es n b f hn hb hf), Ev.iff_succ]
    unfold fpT
    by_cases c : thrM es n b f = 0
    · simp only [impl_firePlan.j1, c, Int.natCast_zero, bne_self_eq_false, Bool.false_eq_true, ↓reduceIte, Ev.now_iff]
    · have h2 : ((thrM es n b f : Int) != 0) = true := by simp; omega
      have hT' := hT
      simp only [impl_firePlan.j1, h2, h1, ↓reduceIte, c]
      rw [Ev.bind_iff (threatened_ev es n b f hn hb hf)]
      simp only [Ev.ite_iff, show acc.length < 17592186044416 by omega, ↓reduceIte, w64_succ i (show i < 9223372036854775807 by omega), gor _ _ (lt62 hn hb) (lt62 hn hT)]
      exact firePlan_tail hn d L F (i + 1) _ f _ (by omega) (by omega) (by simp; omega) (Nat.or_lt_two_pow hb hT) hf (by have := grow_thr hb hf c; omega)

theorem firePlan_ev {es : List S100} {n D x : Nat} (hn : n ≤ 8) (hg : okG n es = true) (hx : x < n) (hD : D ≤ 3) (L : List (List Int)) (hr : ∀ r ∈ L, r.length ≤ 1048576) :
    Ev (fun k => impl_firePlan.f k n es x D L) (if L.length ≤ 8 then fpI es n D L (2 ^ x) 0 [((2 ^ x : Nat) : Int)] else ([], ((2 ^ x : Nat) : Int), 0, false)) := by
  unfold impl_firePlan.f
  rw [netOf_eq hg]
  simp only [Option.bind_some, Ev.ite_iff, show (0 : Int) ≤ x by omega, ↓reduceIte, shl_one (show x < 62 by omega)]
  by_cases c : L.length ≤ 8
  case neg => rw [if_pos (by omega), if_neg c, Ev.now_iff]
  rw [if_neg (by omega), if_pos c]
  have H := down L.length (fun i => ∀ (b f : Nat) (acc : List Int), acc.length ≤ i + 1 → b < 2 ^ n → f < 2 ^ n → Ev (fun k => impl_firePlan.l0 k D L acc i n es (nets es n) b f) (fpI es n D (L.drop i) b f acc)) ?_ ?_ 0 (by omega) (2 ^ x) 0 [((2 ^ x : Nat) : Int)] (by simp) (Nat.pow_lt_pow_right (by decide) hx) (Nat.two_pow_pos n)
  · exact H
  · intro b f acc ha hb hf
    rw [List.drop_length, fpI]
    exact firePlan_tail hn D L 9 L.length b f acc (Nat.le_refl _) (by omega) (by omega) hb hf (by omega)
  · intro i hi ih b f acc ha hb hf
    rw [Ev.iff_succ]
    have h1 : (i : Int) < L.length := by omega
    have h2 : (0 : Int) ≤ i := by omega
    have hri := hr L[i] (List.getElem_mem hi)
    simp only [impl_firePlan.l0, h1, ↓reduceIte]
    rw [Ev.iff_succ]
    rw [List.drop_eq_getElem_cons hi, fpI]
    simp only [impl_firePlan.j1, Ev.ite_iff, h1, h2, ↓reduceIte, rdL2_lt L i hi]
    generalize L[i] = s at hri ⊢
    have bad : Ev (fun k => impl_firePlan.j2 k D L acc i s true n es (nets es n) b f) ([], (b : Int), (f : Int), false) := by
      rw [Ev.iff_succ]
      simp only [impl_firePlan.j2, ↓reduceIte, Ev.now_iff]
    by_cases c2 : s.length ≤ D
    case neg => rw [if_pos (by omega), if_neg (by simp [okS, c2])]; exact bad
    rw [if_neg (by omega), Ev.bind_iff (isSet_ev n es s (by omega)), Ev.ite_iff, setB, hg, w64 (by omega) (by omega), Bool.true_and]
    cases c1 : (allIn 0 ((n : Int) - 1) s && ascB none s)
    · rw [if_neg (by simp), if_neg (by simp [okS, c1])]; exact bad
    have hsn : ∀ y ∈ s, 0 ≤ y ∧ y < (n : Int) := fun y hy => by
      simp only [Bool.and_eq_true] at c1
      have h5 := c1.1
      simp only [allIn, List.all_eq_true, decide_eq_true_eq] at h5
      have := h5 y hy
      omega
    have hS : mL s < 2 ^ n := mL_lt hsn
    have hf' : f ||| mL s < 2 ^ n := Nat.or_lt_two_pow hf hS
    have hbf : b ||| f < 2 ^ n := Nat.or_lt_two_pow hb hf
    have ht' := thrM_lt (es := es) (f ||| mL s) hb
    rw [if_pos rfl, Ev.bind_iff (maskOf_ev s (by omega) (fun y hy => by have := hsn y hy; omega))]
    rw [gor _ _ (lt62 hn hb) (lt62 hn hf), gand _ _ (lt62 hn hS) (lt62 hn hbf)]
    by_cases c3 : mL s &&& (b ||| f) = 0
    case neg =>
      rw [if_neg (by simp [okS, c3]), show (((mL s &&& (b ||| f) : Nat) : Int) != 0) = true by simp; omega]
      exact bad
    rw [c3, if_pos (by simp [okS, c1, c2, c3])]
    rw [show (((0 : Nat) : Int) != 0) = false from rfl, Ev.iff_succ]
    simp only [impl_firePlan.j2, Bool.false_eq_true, ↓reduceIte]
    rw [Ev.bind_iff (maskOf_ev s (by omega) (fun y hy => by have := hsn y hy; omega)), gor _ _ (lt62 hn hf) (lt62 hn hS), Ev.bind_iff (threatened_ev es n b _ hn hb hf'), gor _ _ (lt62 hn hb) (lt62 hn ht')]
    simp only [Ev.ite_iff, show acc.length < 17592186044416 by omega, ↓reduceIte, w64_succ i (show i < 9223372036854775807 by omega)]
    exact ih _ _ _ (by simp; omega) (Nat.or_lt_two_pow hb ht') hf'

def isFirePlanR (n : Int) (es : List S100) (a d : Int) (L : List (List Int)) : Bool × Bool := if fireB n es a d then (decide (L.length ≤ 8) && fpB es n.toNat d.toNat L (2 ^ a.toNat) 0, true) else (false, false)

theorem specIsFirePlan_ev (n : Int) (es : List S100) (a d : Int) (L : List (List Int)) (_ : (Lit.int .i64 a).wf = true) (_ : (Lit.int .i64 d).wf = true) (hL : L.length ≤ 1048576) (hr : ∀ r ∈ L, r.length ≤ 1048576) (he : es.length ≤ 9223372036854775807) : Ev (fun k => spec_IsFirePlan.f k n es a d L) (isFirePlanR n es a d L) := by
  unfold spec_IsFirePlan.f isFirePlanR
  rw [l8Good_eq]
  simp only [Option.bind_some, Ev.ite_iff]
  by_cases h : fireB n es a d = true
  · obtain ⟨N, x, D, rfl, rfl, rfl, hN, hg, hx, hD⟩ := fireB_use h
    rw [if_pos h, if_pos h, Ev.bind_iff (l8Plan_ev hN hx hD he L hL hr), Ev.now_iff]
    simp only [Int.toNat_natCast]
  · rw [if_neg h, if_neg h, Ev.now_iff]

theorem implIsFirePlan_ev (n : Int) (es : List S100) (a d : Int) (L : List (List Int)) (_ : (Lit.int .i64 a).wf = true) (_ : (Lit.int .i64 d).wf = true) (hL : L.length ≤ 1048576) (hr : ∀ r ∈ L, r.length ≤ 1048576) : Ev (fun k => impl_IsFirePlan.f k n es a d L) (isFirePlanR n es a d L) := by
  unfold impl_IsFirePlan.f isFirePlanR
  rw [Ev.bind_iff (isFire_ev n es a d), Ev.ite_iff]
  by_cases h : fireB n es a d = true
  · obtain ⟨N, x, D, rfl, rfl, rfl, hN, hg, hx, hD⟩ := fireB_use h
    rw [if_pos h, if_pos h, Ev.bind_iff (firePlan_ev hN hg hx hD L hr), Ev.now_iff]
    simp only [Int.toNat_natCast]
    by_cases c : L.length ≤ 8
    · rw [if_pos c, fpI_ok]; simp [c]
    · rw [if_neg c]; simp [c]
  · rw [if_neg h, if_neg h, Ev.now_iff]

theorem FnExactIsFirePlan_pure (n : Int) (es : List S100) (a0 : Int) (a1 : Int) (L : List (List Int)) (he : es.length ≤ 9223372036854775807) (ha0 : (Lit.int .i64 a0).wf = true) (ha1 : (Lit.int .i64 a1).wf = true) (hL : L.length ≤ 9223372036854775807) (hr : ∀ r ∈ L, r.length ≤ 9223372036854775807) : Ev (fun k => laws_FnExactIsFirePlan.f k n es a0 a1 L) true := by
  unfold laws_FnExactIsFirePlan.f
  rw [szGraph_eq n es (by omega)]
  simp only [Option.bind_some, Ev.ite_iff]
  by_cases hs : es.length ≤ 1048576
  case neg => rw [if_neg hs, if_pos (by omega), Ev.now_iff]
  rw [if_pos hs, if_neg (by omega)]
  obtain ⟨zL, hzL, hyL⟩ := szIntSS_ev L (1048576 - es.length) (by omega) hL hr
  rw [show (1048576 - (es.length : Int)) = ((1048576 - es.length : Nat) : Int) by omega, Ev.bind_iff hzL, Ev.ite_iff]
  by_cases hnL : zL < 0
  · rw [if_pos hnL, Ev.now_iff]
  rw [if_neg hnL]
  have hxL := hyL.resolve_left hnL
  have hjL := toIntSS_ev L hxL.2.1 hxL.2.2
  have hg := toGraph_ev n es (by omega)
  have hS := specIsFirePlan_ev n es a0 a1 L ha0 ha1 hxL.2.1 hxL.2.2 (by omega)
  have hI := implIsFirePlan_ev n es a0 a1 L ha0 ha1 hxL.2.1 hxL.2.2
  generalize isFirePlanR n es a0 a1 L = R at hS hI
  rw [Ev.bind_iff hg, Ev.bind_iff hjL, Ev.bind_iff hS, Ev.bind_iff hg, Ev.bind_iff hjL, Ev.bind_iff hI]
  simp only [bne_self_eq_false, Bool.false_eq_true, ↓reduceIte]
  rw [Ev.iff_succ]
  simp only [laws_FnExactIsFirePlan.j0, Bool.false_eq_true, ↓reduceIte]
  rw [Ev.bind_iff hg, Ev.bind_iff (eqGraph_refl n es he)]
  simp only [↓reduceIte]
  rw [Ev.bind_iff hjL, Ev.bind_iff (eqIntSS_refl L hL hr)]
  simp only [↓reduceIte]
  rw [Ev.now_iff]

end Go.Proofs.Ytbhkimopcliepaa.QIsFirePlan
