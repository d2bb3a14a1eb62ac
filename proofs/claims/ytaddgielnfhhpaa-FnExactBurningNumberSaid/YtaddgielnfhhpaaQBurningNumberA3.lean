import Derived.Test.YtaddgielnfhhpaaQBurningNumber0
import Derived.Test.YtaddgielnfhhpaaQBurningNumber10
import Derived.Test.YtaddgielnfhhpaaQBurningNumber11
import Derived.Test.YtaddgielnfhhpaaQBurningNumber12
import Derived.Test.YtaddgielnfhhpaaQBurningNumber13
import Derived.Test.YtaddgielnfhhpaaQBurningNumber8
import Derived.Test.YtaddgielnfhhpaaQBurningNumber9
import Derived.Test.YtaddgielnfhhpaaQBurningNumberA2
namespace Go.Proofs.Ytaddgielnfhhpaa.QBurningNumber
open Go.RowKit Go.Proofs.YtaddgielnfhhpaaW.PrintWords Go.Proofs.YtaddgielnfhhpaaW.PrintLast Go.Proofs.YtaddgielnfhhpaaW.PrintMore
attribute [local go_sem] max2_int min2_int max_two min_two max_three min_three max_four min_four   -- for this text's walks alone
set_option linter.unusedVariables false
set_option linter.unusedSimpArgs false
theorem l8First_ev {es : List S80} {n : Nat} (hn : n ≤ 8) (he : es.length ≤ 9223372036854775807) : Ev (fun g => spec_l8First.f g n es) (burnR es n) := by
 have hbl : (ballsL es n).length = n := by simp [ballsL]
 have H := down n (fun x => Ev (fun g => spec_l8First.l0 g ((ballsL es n).take x) x n es) (burnR es n)) ?_ ?_ 0 (by omega)
 ·exact H
 ·show Ev _ _
  rw [List.take_of_length_le (by omega), Ev.iff_succ]
  simp only [spec_l8First.l0, Int.lt_irrefl, ↓reduceIte]
  rw [Ev.bind_iff (l8Room_ev hn)]
  have K := down n (fun m => Ev (fun g => spec_l8First.l2 g (ballsL es n) (roomL es n (n + 1)) m) (intsN ((((List.range (n + 1)).drop m).findSome? fun k => burnF es n k 0).getD []))) ?_ ?_ 0 (by omega)
  ·exact K
  ·show Ev _ _
   have hC := l8Complete_ev (es := es) (k := n) hn (Nat.le_refl _) n 0 [] (Nat.two_pow_pos n) (by simp)
   rw [bl_zero' n] at hC
   have hs := burn_last (es := es) hn
   rw [burnR_drop (Nat.lt_succ_self n), Ev.iff_succ]
   simp only [spec_l8First.l2]
   rw [Ev.bind_iff hC]
   cases hc : burnF es n n 0 with
   | none => rw [hc] at hs;cases hs
   | some r => simp only [outF, List.nil_append, Option.some_or, Option.getD_some, ↓reduceIte, Ev.now_iff]
  ·intro m hm ih
   show Ev _ _
   have hC := l8Complete_ev (es := es) (k := m) hn (by omega) m 0 [] (Nat.two_pow_pos n) (by simp)
   rw [bl_zero' n] at hC
   rw [burnR_drop (by omega), Ev.iff_succ]
   simp only [spec_l8First.l2]
   rw [Ev.bind_iff hC]
   cases hc : burnF es n m 0 with
   | none =>
    simp only [outF, Option.none_or, Bool.false_eq_true, ↓reduceIte]
    rw [w64_succ m (by omega)]
    exact ih
   | some r => simp only [outF, List.nil_append, Option.some_or, Option.getD_some, ↓reduceIte, Ev.now_iff]
 ·intro x hx ih
  show Ev _ _
  rw [Ev.iff_succ]
  simp only [spec_l8First.l0]
  rw [Ev.ite_iff, if_pos (by omega)]
  have hrl : ((List.range n).map fun r => bl n (ballM es n x r)).length = n := by simp
  have G := down n (fun r => Ev (fun g => spec_l8First.l1 g ((ballsL es n).take x) x (((List.range n).map fun r => bl n (ballM es n x r)).take r) r n es) (burnR es n)) ?_ ?_ 0 (by omega)
  ·exact G
  ·show Ev _ _
   rw [List.take_of_length_le (l := (List.range n).map fun r => bl n (ballM es n x r)) (by omega), Ev.iff_succ]
   simp only [spec_l8First.l1, Int.lt_irrefl, ↓reduceIte]
   have hxl : x < (ballsL es n).length := by omega
   rw [Ev.ite_iff, if_pos (by rw [List.length_take];omega), w64_succ x (by omega), show ((List.range n).map fun r => bl n (ballM es n x r)) = (ballsL es n)[x] by simp [ballsL], List.take_append_getElem hxl]
   exact ih
  ·intro r hr jh
   show Ev _ _
   rw [Ev.iff_succ]
   simp only [spec_l8First.l1]
   have hrl2 : r < ((List.range n).map fun r => bl n (ballM es n x r)).length := by omega
   rw [Ev.ite_iff, if_pos (by omega), Ev.bind_iff (l2Within_ev es n x r hn hx (by omega) he), Ev.ite_iff, if_pos (by rw [List.length_take];omega), w64_succ r (by omega), show bl n (ballM es n x r) = ((List.range n).map fun r => bl n (ballM es n x r))[r] by simp, List.take_append_getElem hrl2]
   exact jh

/-- What is known to have failed has no burning. -/
def InvB (es : List S80) (n : Nat) (s : Int) : Prop := ∀ k c : Nat, k ≤ 8 → c < 256 → hasK s k c = true → burnF es n k c = none

def workB (n : Nat) : Nat → Nat
 | 0 => 0
 | k + 1 => n * workB n k + 1

theorem workB_le {n : Nat} (hn : n ≤ 8) : ∀ k, workB n k ≤ 9 ^ k
 | 0 => by simp [workB]
 | k + 1 => by
  have h1 := workB_le hn k
  have h2 : 0 < 9 ^ k := Nat.pos_of_ne_zero (by simp)
  have h3 := Nat.mul_le_mul hn h1
  rw [workB, Nat.pow_succ];omega

theorem kOk_small {k c : Nat} (hk : k ≤ 8) (hc : c < 256) : kOk (k : Int) (c : Int) = true := by
 unfold kOk
 simp only [Bool.and_eq_true, decide_eq_true_eq];omega

theorem burnAll_ev {es : List S80} {n : Nat} (hn : n ≤ 8) : ∀ (k c : Nat) (s t : Int), k ≤ 8 → c < 2 ^ n → InvB es n s → 0 ≤ t → t + workB n k < 4611686018427387904 →
  ∃ s' t' : Int, Ev (fun g => impl_net_burnAll.f g (nets es n) k c s t) ((outF [] (burnF es n k c)).1, (outF [] (burnF es n k c)).2, s', t') ∧ InvB es n s' ∧ t ≤ t' ∧ t' ≤ t + workB n k
 | 0, c, s, t, _, hc, hI, ht, _ => by
  refine ⟨s, t, ?_, hI, by omega, by omega⟩
  rw [Ev.iff_succ]
  simp only [impl_net_burnAll.f, all_eq hn, Option.bind_some]
  rw [Ev.ite_iff, if_pos (by rfl), Ev.now_iff]
  unfold burnF
  by_cases e : c = 2 ^ n - 1
  ·rw [if_pos e];simp [outF, intsN, e]
  ·rw [if_neg e]
   have : ((c : Int) == ((2 ^ n - 1 : Nat) : Int)) = false := by rw [beq_eq_false_iff_ne];omega
   simp [outF, this]
 | k + 1, c, s, t, hk, hc, hI, ht, hw => by
  have hp8 := p8 hn
  have hc8 : c < 256 := by omega
  have ok := kOk_small hk hc8
  by_cases hh : hasK s ((k + 1 : Nat) : Int) (c : Int) = true
  ·refine ⟨s, t, ?_, hI, by omega, by omega⟩
   rw [hI (k + 1) c hk hc8 hh, Ev.iff_succ]
   simp only [impl_net_burnAll.f]
   rw [Ev.ite_iff, if_neg (by omega), Ev.ite_iff, if_pos ok, Ev.ite_iff, if_pos hh, Ev.now_iff]
   simp [outF]
  ·have e0 : burnF es n (k + 1) c = (List.range n).findSome? fun x => (burnF es n k (c ||| ballM es n x k)).map (x :: ·) := rfl
   have H := down n (fun x => ∀ s t : Int, burnF es n (k + 1) c = ((List.range n).drop x).findSome? (fun x => (burnF es n k (c ||| ballM es n x k)).map (x :: ·)) → InvB es n s → 0 ≤ t → t + ((n - x) * workB n k + 1 : Nat) < 4611686018427387904 →
    ∃ s' t' : Int, Ev (fun g => impl_net_burnAll.l0 g ((k + 1 : Nat) : Int) c (n : Int) x s t (nets es n)) ((outF [] (burnF es n (k + 1) c)).1, (outF [] (burnF es n (k + 1) c)).2, s', t') ∧ InvB es n s' ∧ t ≤ t' ∧ t' ≤ t + ((n - x) * workB n k + 1 : Nat)) ?_ ?_ 0 (by omega)
   ·obtain ⟨s', t', hE, h1, h2, h3⟩ := H s t e0 hI ht (by rw [Nat.sub_zero];exact hw)
    refine ⟨s', t', ?_, h1, h2, by rw [Nat.sub_zero] at h3;exact h3⟩
    rw [Ev.iff_succ]
    simp only [impl_net_burnAll.f, nets_len]
    rw [Ev.ite_iff, if_neg (by omega), Ev.ite_iff, if_pos ok, Ev.ite_iff, if_neg hh]
    exact hE
   ·intro s t hb hI ht hw
    rw [List.drop_eq_nil_of_le (by rw [List.length_range];exact Nat.le_refl _), List.findSome?_nil] at hb
    refine ⟨putK s ((k + 1 : Nat) : Int) c, t + 1, ?_, ?_, by omega, by omega⟩
    ·rw [hb, Ev.iff_succ]
     simp only [impl_net_burnAll.l0, Int.lt_irrefl, ↓reduceIte]
     rw [Ev.ite_iff, if_pos ok, Ev.ite_iff, if_pos (by omega), Ev.now_iff]
     simp [outF]
    ·intro k' c' hk' hc' h'
     rw [hasK_put ok (kOk_small hk' hc')] at h'
     simp only [Bool.or_eq_true, decide_eq_true_eq] at h'
     rcases h' with h' | h'
     ·have e1 : k' = k + 1 := by omega
      have e2 : c' = c := by omega
      rw [e1, e2];exact hb
     ·exact hI k' c' hk' hc' h'
   ·intro x hx ih s t hb hI ht hw
    have hB := ballM_lt (es := es) hx k
    have hcB : c ||| ballM es n x k < 2 ^ n := Nat.or_lt_two_pow hc hB
    have hwx : (n - x) * workB n k = (n - (x + 1)) * workB n k + workB n k := by rw [show n - x = (n - (x + 1)) + 1 by omega, Nat.succ_mul]
    rw [hwx] at hw ⊢
    obtain ⟨s1, t1, hE1, hI1, h1, h2⟩ := burnAll_ev hn k (c ||| ballM es n x k) s t (by omega) hcB hI ht (by omega)
    rw [findSome_drop2 hx] at hb
    have hgor : Go.bits .or .i64 (c : Int) ((ballM es n x k : Nat) : Int) = ((c ||| ballM es n x k : Nat) : Int) := gor _ _ (lt62 hn hc) (lt62 hn hB)
    have ek : wrap64 (((k + 1 : Nat) : Int) - 1) = (k : Int) := by rw [w64 (by omega) (by omega)];omega
    have hball := ball_ev es n x k hn hx (by omega)
    cases hf : burnF es n k (c ||| ballM es n x k) with
    | some r =>
     rw [hf] at hE1 hb
     simp only [Option.map_some, Option.some_or] at hb
     replace hE1 : Ev (fun g => impl_net_burnAll.f g (nets es n) k ((c ||| ballM es n x k : Nat) : Int) s t) (intsN r, true, s1, t1) := hE1
     have hrl := burnF_len k _ r hf
     refine ⟨s1, t1, ?_, hI1, h1, by omega⟩
     rw [hb, Ev.iff_succ]
     simp only [impl_net_burnAll.l0]
     rw [Ev.ite_iff, if_pos (by omega), ek, Ev.bind_iff hball, hgor, Ev.bind_iff hE1]
     simp only [↓reduceIte, Option.bind_some]
     rw [Ev.ite_iff, if_pos (by simp [intsN];omega), Ev.now_iff]
     simp [intsN, outF]
    | none =>
     rw [hf] at hE1 hb
     simp only [Option.map_none, Option.none_or] at hb
     replace hE1 : Ev (fun g => impl_net_burnAll.f g (nets es n) k ((c ||| ballM es n x k : Nat) : Int) s t) ([], false, s1, t1) := hE1
     obtain ⟨s2, t2, hE2, hI2, h3, h4⟩ := ih s1 t1 hb hI1 (by omega) (by omega)
     refine ⟨s2, t2, ?_, hI2, by omega, by omega⟩
     rw [Ev.iff_succ]
     simp only [impl_net_burnAll.l0]
     rw [Ev.ite_iff, if_pos (by omega), ek, Ev.bind_iff hball, hgor, Ev.bind_iff hE1]
     simp only [Bool.false_eq_true, ↓reduceIte]
     rw [w64_succ x (by omega)]
     exact hE2

def bestBurningR (n : Int) (es : List S80) : List Int × Bool := if okG n es = true then (burnR es n.toNat, true) else ([], false)

theorem implBestBurning_ev (n : Int) (es : List S80) : Ev (fun k => impl_BestBurning.f k n es) (bestBurningR n es) := by
 unfold impl_BestBurning.f bestBurningR
 rw [IsGraph_eq]
 simp only [Option.bind_some, Ev.ite_iff]
 by_cases h : okG n es = true
 ·have hnet := netOf_eq (n := n.toNat) (es := es) (by obtain ⟨N, rfl, hN⟩ := okG_use h;simpa using h)
  obtain ⟨N, rfl, hN⟩ := okG_use h
  rw [Int.toNat_natCast] at hnet
  rw [if_pos h, if_pos h, hnet]
  simp only [Option.bind_some, Int.toNat_natCast]
  rw [w64_succ N (by omega)]
  have inv0 : InvB es N 0 := fun k c _ _ h => by rw [hasK_zero] at h;cases h
  have hw : ∀ m, m ≤ 8 → workB N m < 4611686018427387904 := fun m hm => by
   have h1 := workB_le hN m
   have h2 : 9 ^ m ≤ 9 ^ 8 := Nat.pow_le_pow_right (by decide) hm
   have h3 : 9 ^ 8 = 43046721 := by decide
   omega
  have H := down N (fun m => Ev (fun k => impl_BestBurning.l0 k ((N + 1 : Nat) : Int) m (nets es N)) (intsN ((((List.range (N + 1)).drop m).findSome? fun k => burnF es N k 0).getD []), true)) ?_ ?_ 0 (by omega)
  ·exact H
  ·show Ev _ _
   obtain ⟨s', t', hE, _, _, _⟩ := burnAll_ev (es := es) hN N 0 0 0 hN (Nat.two_pow_pos N) inv0 (Int.le_refl 0) (by have := hw N hN;omega)
   replace hE : Ev (fun g => impl_net_burnAll.f g (nets es N) N 0 0 0) ((outF [] (burnF es N N 0)).1, (outF [] (burnF es N N 0)).2, s', t') := hE
   have hs := burn_last (es := es) hN
   rw [burnR_drop (Nat.lt_succ_self N), Ev.iff_succ]
   simp only [impl_BestBurning.l0, impl_newMap.f, Option.bind_some]
   rw [Ev.ite_iff, if_pos (by omega), Ev.bind_iff hE]
   cases hc : burnF es N N 0 with
   | none => rw [hc] at hs;cases hs
   | some r => simp only [outF, List.nil_append, Option.some_or, Option.getD_some, ↓reduceIte, Ev.now_iff]
  ·intro m hm ih
   show Ev _ _
   obtain ⟨s', t', hE, _, _, _⟩ := burnAll_ev (es := es) hN m 0 0 0 (by omega) (Nat.two_pow_pos N) inv0 (Int.le_refl 0) (by have := hw m (by omega);omega)
   replace hE : Ev (fun g => impl_net_burnAll.f g (nets es N) m 0 0 0) ((outF [] (burnF es N m 0)).1, (outF [] (burnF es N m 0)).2, s', t') := hE
   rw [burnR_drop (by omega), Ev.iff_succ]
   simp only [impl_BestBurning.l0, impl_newMap.f, Option.bind_some]
   rw [Ev.ite_iff, if_pos (by omega), Ev.bind_iff hE]
   cases hc : burnF es N m 0 with
   | none =>
    simp only [outF, Option.none_or, Bool.false_eq_true, ↓reduceIte]
    rw [w64_succ m (by omega)]
    exact ih
   | some r => simp only [outF, List.nil_append, Option.some_or, Option.getD_some, ↓reduceIte, Ev.now_iff]
 ·rw [if_neg h, if_neg h, Ev.now_iff]

def burningNumberR (n : Int) (es : List S80) : Int × Bool := if okG n es = true then (((burnR es n.toNat).length : Int), true) else (0, false)

theorem specBurningNumber_ev (n : Int) (es : List S80) (he : es.length ≤ 9223372036854775807) : Ev (fun k => spec_BurningNumber.f k n es) (burningNumberR n es) := by
 unfold spec_BurningNumber.f burningNumberR
 rw [l2Good_eq]
 simp only [Option.bind_some, Ev.ite_iff]
 by_cases h : okG n es = true
 ·obtain ⟨N, rfl, hN⟩ := okG_use h
  rw [if_pos h, if_pos h, Ev.bind_iff (l8First_ev hN he), Ev.now_iff]
  simp only [Int.toNat_natCast]
 ·rw [if_neg h, if_neg h, Ev.now_iff]

theorem implBurningNumber_ev (n : Int) (es : List S80) : Ev (fun k => impl_BurningNumber.f k n es) (burningNumberR n es) := by
 unfold impl_BurningNumber.f burningNumberR
 have h := implBestBurning_ev n es
 unfold bestBurningR at h
 rw [Ev.bind_iff h, Ev.now_iff]
 split <;> simp

theorem FnExactBurningNumber_pure (n : Int) (es : List S80) (he : es.length ≤ 9223372036854775807) : Ev (fun k => laws_FnExactBurningNumber.f k n es) true := by
 unfold laws_FnExactBurningNumber.f
 rw [szGraph_eq n es (by omega)]
 simp only [Option.bind_some, Ev.ite_iff]
 by_cases hs : es.length ≤ 1048576
 case neg => rw [if_neg hs, if_pos (by omega), Ev.now_iff]
 rw [if_pos hs, if_neg (by omega)]
 have hg := toGraph_ev n es (by omega)
 have hS := specBurningNumber_ev n es  (by omega)
 have hI := implBurningNumber_ev n es 
 generalize burningNumberR n es = R at hS hI
 rw [Ev.bind_iff hg, Ev.bind_iff hS, Ev.bind_iff hg, Ev.bind_iff hI]
 simp only [bne_self_eq_false, Bool.false_eq_true, ↓reduceIte]
 rw [Ev.iff_succ]
 simp only [laws_FnExactBurningNumber.j0, Bool.false_eq_true, ↓reduceIte]
 rw [Ev.bind_iff hg, Ev.bind_iff (eqGraph_refl n es he)]
 simp only [↓reduceIte]
 rw [Ev.now_iff]

end Go.Proofs.Ytaddgielnfhhpaa.QBurningNumber
