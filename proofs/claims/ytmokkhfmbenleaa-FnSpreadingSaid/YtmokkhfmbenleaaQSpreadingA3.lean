import Derived.Test.YtmokkhfmbenleaaQSpreading0
import Derived.Test.YtmokkhfmbenleaaQSpreading10
import Derived.Test.YtmokkhfmbenleaaQSpreading2
import Derived.Test.YtmokkhfmbenleaaQSpreading3
import Derived.Test.YtmokkhfmbenleaaQSpreading4
import Derived.Test.YtmokkhfmbenleaaQSpreading5
import Derived.Test.YtmokkhfmbenleaaQSpreadingA2
namespace Go.Proofs.Ytmokkhfmbenleaa.QSpreading
open Go.RowKit Go.Proofs.YtmokkhfmbenleaaW.PrintWords Go.Proofs.YtmokkhfmbenleaaW.PrintLast Go.Proofs.YtmokkhfmbenleaaW.PrintMore
attribute [local go_sem] max2_int min2_int max_two min_two max_three min_three max_four min_four   -- for this text's walks alone
set_option linter.unusedVariables false
set_option linter.unusedSimpArgs false
theorem implLeastSpreading_l0 {es : List S119} {n : Nat} {r : Int} (hn : n ≤ 8) : ∀ (d c b : Nat) (f : Bool), 2 ^ n = c + d → b < 2 ^ n → (f = true ∨ b = 2 ^ n - 1 ∧ 0 < d) →
  Ev (fun k => impl_LeastSpreading.l0 k r (if f then bl n b else []) f ((2 ^ n : Nat) : Int) c (nets es n)) (bl n (bestF (sprP es n r) n d c b), true)
 | 0, c, b, f, hd, hb, hf => by
  have : f = true := by rcases hf with h | h;exact h;exact absurd h.2 (by omega)
  subst this
  rw [Ev.iff_succ]
  simp only [impl_LeastSpreading.l0, Ev.ite_iff]
  rw [if_neg (by omega), Ev.now_iff, bestF];simp
 | d + 1, c, b, f, hd, hb, hf => by
  rw [Ev.iff_succ]
  have hc : c < 2 ^ n := by omega
  have h8 := p8 hn
  have hbl := bl_len_le n c
  have hs := (spreadM_least (es := es) (r := r) hc).1
  have ih1 := implLeastSpreading_l0 (es := es) (r := r) hn d (c + 1) c true (by omega) hc (.inl rfl)
  rw [if_pos rfl] at ih1
  simp only [impl_LeastSpreading.l0, Ev.ite_iff]
  rw [if_pos (by omega), Ev.bind_iff (setOf_ev n c hn hc), Ev.bind_iff (spread_ev es n r hn c hc), all_eq hn]
  simp only [Option.bind_some, Ev.ite_iff, w64_succ c (show c < 9223372036854775807 by omega), bestF]
  by_cases g : spreadM es n r c = 2 ^ n - 1
  ·have hp : sprP es n r c = true := by simp [sprP, g]
   rw [if_pos (by rw [g]), hp, Bool.true_and]
   unfold betM
   cases f with
   | true =>
    have ih0 := implLeastSpreading_l0 (es := es) (r := r) hn d (c + 1) b true (by omega) hb (.inl rfl)
    simp only [↓reduceIte] at ih0 ⊢
    by_cases g1 : (bl n c).length < (bl n b).length
    ·rw [if_pos (by omega), if_pos (by simp [g1])];exact ih1
    ·rw [if_neg (by omega)]
     by_cases g2 : (bl n c).length = (bl n b).length
     ·have hz := sliceCompare_ev _ _ g2 (by omega)
      have hz2 := cmpL_lt (bl n c) (bl n b)
      rw [if_pos (by omega), Ev.bind_iff hz, Ev.ite_iff]
      cases g3 : lexLt (bl n c) (bl n b)
      ·rw [if_neg (by rw [hz2, g3];simp), if_neg (by simp [g1])];exact ih0
      ·rw [if_pos (by rw [hz2, g3]), if_pos (by simp [g2])];exact ih1
     ·rw [if_neg (by omega), if_neg (by simp [g1, g2])];exact ih0
   | false =>
    obtain ⟨hbf, _⟩ : b = 2 ^ n - 1 ∧ 0 < d + 1 := by rcases hf with h | h;exact absurd h (by simp);exact h
    simp only [Bool.false_eq_true, ↓reduceIte]
    have hlb : (bl n b).length = n := (bl_len_full n hn b hb).2 hbf
    by_cases g1 : c = 2 ^ n - 1
    ·have e : c = b := by omega
     subst e
     simp only [ite_self];exact ih1
    ·have := mt (bl_len_full n hn c hc).1 g1
     rw [if_pos (by simp only [hlb, Bool.or_eq_true, decide_eq_true_eq];left;omega)];exact ih1
  ·have hp : sprP es n r c = false := by simp [sprP, g]
   rw [if_neg (by omega), hp, Bool.false_and, if_neg (show ¬ (false = true) by simp)]
   refine implLeastSpreading_l0 hn d (c + 1) b f (by omega) hb ?_
   rcases hf with h | ⟨h, _⟩
   ·exact .inl h
   ·right
    refine ⟨h, ?_⟩
    by_cases e : d = 0
    ·exfalso
     have hcf : c = 2 ^ n - 1 := by omega
     refine g (mask_ext (n := n) hs (by omega) (fun i hi => ?_))
     have := (spreadM_least (es := es) (r := r) hc).2.1 i hi (by rw [hcf, Nat.testBit_two_pow_sub_one];simp [hi])
     rw [this, Nat.testBit_two_pow_sub_one];simp [hi]
    ·omega

theorem implLeastSpreading_ev (n : Int) (es : List S119) (r : Int) (_ : (Lit.int .i64 r).wf = true) : Ev (fun k => impl_LeastSpreading.f k n es r) (leastSpreadingR n es r) := by
 unfold impl_LeastSpreading.f leastSpreadingR
 rw [IsGraph_eq]
 simp only [Option.bind_some, Ev.ite_iff, within_eq]
 by_cases h : okG n es = true
 ·obtain ⟨N, rfl, hN⟩ := okG_use h
  have hp := Nat.two_pow_pos N
  have h8 := p8 hN
  rw [if_pos h, Ev.iff_succ]
  simp only [impl_LeastSpreading.j0, Ev.ite_iff, Bool.not_eq_true', decide_eq_false_iff_not, h, true_and, Int.toNat_natCast]
  by_cases h3 : 1 ≤ r ∧ r ≤ 8
  ·rw [if_neg (by simp [h3]), if_pos h3, netOf_eq h]
   simp only [Option.bind_some, all_eq hN]
   rw [w64_succ _ (by omega), show 2 ^ N - 1 + 1 = 2 ^ N by omega]
   have := implLeastSpreading_l0 (es := es) (r := r) hN (2 ^ N) 0 (2 ^ N - 1) false (by omega) (by omega) (.inr ⟨rfl, hp⟩)
   simpa using this
  ·rw [if_pos h3, if_neg h3, Ev.now_iff]
 ·rw [if_neg h, Ev.iff_succ]
  simp only [impl_LeastSpreading.j0, ↓reduceIte, Ev.now_iff, h, false_and, Bool.false_eq_true]

theorem bl_zero_iff {n T : Nat} (h : T < 2 ^ n) : (bl n T).length = 0 ↔ T = 0 := by
 constructor
 ·intro e
  have e2 := List.eq_nil_of_length_eq_zero e
  rw [← mL_bl h, e2];rfl
 ·rintro rfl
  have e0 : bl n 0 = [] := List.eq_nil_iff_forall_not_mem.2 (fun x hx => by obtain ⟨i, _, h2, _⟩ := mem_bl.1 hx;simp at h2)
  rw [e0];rfl

def byteOk (x : Int) : Prop := 0 ≤ x ∧ x < 256

theorem u64_and255 (x : Int) : byteOk (wrap64 (Go.bits .and .u64 (IntKind.u64.wrap x / 1099511627776) 255)) := by
 have h0 : 0 ≤ IntKind.u64.wrap x ∧ IntKind.u64.wrap x < 18446744073709551616 := by rw [IntKind.wrap_u64];omega
 generalize IntKind.u64.wrap x = y at h0
 obtain ⟨m, hm⟩ : ∃ m : Nat, y / 1099511627776 = (m : Int) := ⟨(y / 1099511627776).toNat, by omega⟩
 have hm2 : m < 2 ^ 62 := by omega
 have e := (bits_nat .u64 62 (by decide) (fun n h1 h2 => by rw [IntKind.wrap_u64];omega) m 255 hm2 (by decide)).1
 rw [hm, show (255 : Int) = ((255 : Nat) : Int) from rfl, e]
 have h3 : m &&& 255 < 256 := Nat.and_lt_two_pow m (show 255 < 2 ^ 8 by decide)
 rw [w64 (by omega) (by omega)]
 constructor <;> omega

theorem next_ok {l : List Int} (hb : ∀ x ∈ l, byteOk x) {a : Int} (s : Int) {b : Nat} (h0 : 0 ≤ a) (h1 : a ≤ b) (h2 : b < 9223372036854775000) : ∃ r a' s', spec_l1Cur_next.f l a s = some (r, a', s') ∧ byteOk r ∧ 0 ≤ a' ∧ a' ≤ ((b + 1 : Nat) : Int) := by
 have hw : wrap64 (a + 1) = a + 1 := w64 (by omega) (by omega)
 unfold spec_l1Cur_next.f
 rw [hw]
 by_cases c : a < (l.length : Int)
 ·rw [if_pos c, if_pos h0]
  have hr : byteOk (wrap64 (rd l a)) := by
   obtain ⟨i, rfl⟩ : ∃ i : Nat, a = i := ⟨a.toNat, by omega⟩
   have hx := hb l[i] (List.getElem_mem (show i < l.length by omega))
   rw [rd_lt l i (by omega), w64 (by have := hx.1;omega) (by have := hx.2;omega)]
   exact hx
  by_cases g : a + 1 ≤ (l.length : Int)
  ·rw [if_pos g];exact ⟨_, _, _, rfl, hr, by omega, by omega⟩
  ·rw [if_neg g];exact ⟨_, _, _, rfl, u64_and255 _, by omega, by omega⟩
 ·rw [if_neg c]
  by_cases g : a + 1 ≤ (l.length : Int)
  ·rw [if_pos g];exact ⟨_, _, _, rfl, ⟨by decide, by decide⟩, by omega, by omega⟩
  ·rw [if_neg g];exact ⟨_, _, _, rfl, u64_and255 _, by omega, by omega⟩

theorem tmod_ok {x n : Int} (h : 0 ≤ x) (hn : 1 ≤ n) : 0 ≤ Int.tmod x n ∧ Int.tmod x n < n := by
 rw [Int.tmod_eq_emod_of_nonneg h]
 exact ⟨Int.emod_nonneg _ (by omega), Int.emod_lt_of_pos _ (by omega)⟩

theorem pick_ok {l : List Int} (hb : ∀ x ∈ l, byteOk x) {a : Int} (s : Int) {b : Nat} (n : Int) (h0 : 0 ≤ a) (h1 : a ≤ b) (h2 : b < 9223372036854774000) : ∃ r a' s', spec_l1Cur_pick.f l a s n = some (r, a', s') ∧ 0 ≤ r ∧ (1 ≤ n → r < n) ∧ 0 ≤ a' ∧ a' ≤ ((b + 2 : Nat) : Int) := by
 unfold spec_l1Cur_pick.f
 by_cases c : n ≤ 1
 ·rw [if_pos c];exact ⟨_, _, _, rfl, Int.le_refl _, fun h => by omega, h0, by omega⟩
 ·rw [if_neg c]
  obtain ⟨r, a', s', e, hr, h3, h4⟩ := next_ok hb s h0 h1 (by omega)
  rw [e]
  simp only [Option.bind_some]
  by_cases g : n > 200
  ·rw [if_pos g]
   obtain ⟨r2, a2, s2, e2, hr2, h5, h6⟩ := next_ok hb s' h3 h4 (by omega)
   rw [e2]
   simp only [Option.bind_some]
   rw [if_neg (by omega)]
   have hr1 := hr.1;have hr3 := hr.2;have hr4 := hr2.1;have hr5 := hr2.2
   have hw : wrap64 (r * 256) = r * 256 := w64 (by omega) (by omega)
   have hw2 : wrap64 (r * 256 + r2) = r * 256 + r2 := w64 (by omega) (by omega)
   rw [hw, hw2]
   have := tmod_ok (x := r * 256 + r2) (n := n) (by omega) (by omega)
   exact ⟨_, _, _, rfl, this.1, fun _ => this.2, h5, by omega⟩
  ·rw [if_neg g, if_neg (by omega)]
   have := tmod_ok (x := r) (n := n) hr.1 (by omega)
   exact ⟨_, _, _, rfl, this.1, fun _ => this.2, h3, by omega⟩

theorem among_ok {l : List Int} (hb : ∀ x ∈ l, byteOk x) {a : Int} (s : Int) {b : Nat} (m : List Int) (hm : m ≠ []) (h0 : 0 ≤ a) (h1 : a ≤ b) (h2 : b < 9223372036854774000) : ∃ r a' s', spec_l1Cur_among.f l a s m = some (r, a', s') ∧ r ∈ m ∧ 0 ≤ a' ∧ a' ≤ ((b + 2 : Nat) : Int) := by
 have hl := List.length_pos_iff.2 hm
 obtain ⟨r, a', s', e, hr, h3, h4, h5⟩ := pick_ok hb s (m.length : Int) h0 h1 h2
 have h3' := h3 (by omega)
 unfold spec_l1Cur_among.f
 rw [e]
 simp only [Option.bind_some]
 rw [if_pos hr, if_pos h3']
 obtain ⟨i, rfl⟩ : ∃ i : Nat, r = i := ⟨r.toNat, by omega⟩
 rw [rd_lt m i (by omega)]
 exact ⟨_, _, _, rfl, List.getElem_mem _, h4, h5⟩

theorem one_ok {l : List Int} (hb : ∀ x ∈ l, byteOk x) {a : Int} (s : Int) {b : Nat} (n : Int) (h0 : 0 ≤ a) (h1 : a ≤ b) (h2 : b < 9223372036854774000) : ∃ r a' s', spec_l1Cur_one.f l a s n = some (r, a', s') ∧ 0 ≤ a' ∧ a' ≤ ((b + 2 : Nat) : Int) := by
 obtain ⟨r, a', s', e, _, _, h4, h5⟩ := pick_ok hb s n h0 h1 h2
 unfold spec_l1Cur_one.f
 rw [e]
 exact ⟨_, _, _, rfl, h4, h5⟩

theorem l2Put_ok (l : List S119) (x y : Int) (hl : l.length ≤ 8000000000000) : ∃ m, Ev (fun k => spec_l2Put.f k l x y) m ∧ m.length = l.length + 1 := by
 have H := down l.length (fun i => ∃ m, Ev (fun k => spec_l2Put.l0 k l i x y) m ∧ m.length = l.length + 1) ?_ ?_ 0 (by omega)
 ·exact H
 ·refine ⟨([] ++ l.take ((l.length : Int)).toNat) ++ [⟨x, y⟩] ++ l.drop ((l.length : Int)).toNat, ?_, by simp⟩
  show Ev _ _
  rw [Ev.iff_succ]
  have g1 : (([] : List S119).length + (l.take l.length).length < 8796093022208) = True := eq_true (by simp;omega)
  simp only [spec_l2Put.l0, Int.lt_irrefl, ↓reduceIte, Option.bind_some, Int.toNat_natCast, g1, Int.le_refl, show (0 : Int) ≤ (l.length : Int) by omega, List.nil_append, List.take_length, List.drop_length, List.append_nil, List.length_append, List.length_cons, List.length_nil]
  rw [Ev.ite_iff, if_pos (by omega), Ev.ite_iff, if_pos (by omega), Ev.ite_iff, if_pos (by omega), Ev.now_iff]
 ·rintro i hi ⟨m, ih, hm⟩
  have h1 : (i : Int) < l.length := by omega
  have h2 : (0 : Int) ≤ i := by omega
  have hb : ∃ b, spec_l2Before.f (rd_T119 l (i : Int)).f0 (rd_T119 l (i : Int)).f1 x y = some b := by
   unfold spec_l2Before.f
   split
   ·exact ⟨_, rfl⟩
   ·split <;> exact ⟨_, rfl⟩
  obtain ⟨b, hb⟩ := hb
  cases b with
  | true =>
   refine ⟨m, ?_, hm⟩
   show Ev _ _
   rw [Ev.iff_succ]
   simp only [spec_l2Put.l0, h1, h2, ↓reduceIte, hb, Option.bind_some, w64_succ i (show i < 9223372036854775807 by omega)]
   exact ih
  | false =>
   refine ⟨l.take i ++ [⟨x, y⟩] ++ l.drop i, ?_, by simp;omega⟩
   show Ev _ _
   rw [Ev.iff_succ]
   have h3 : (i : Int) ≤ l.length := by omega
   simp only [spec_l2Put.l0, h1, h2, h3, ↓reduceIte, hb, Option.bind_some, Bool.false_eq_true, Int.toNat_natCast, List.nil_append, List.length_append, List.length_cons, List.length_nil, List.length_take, List.length_drop]
   rw [Ev.ite_iff, if_pos (by omega), Ev.ite_iff, if_pos (by omega), Ev.ite_iff, if_pos (by omega), Ev.now_iff]

theorem l2Path_ok (n : Int) (hn : n ≤ 8) : ∃ m, Ev (fun k => spec_l2Path.f k n) (n, m) ∧ m.length ≤ 8 := by
 have H : ∀ (d x : Nat) (l : List S119), n ≤ x + d → l.length ≤ x → x ≤ 8 → ∃ m, Ev (fun k => spec_l2Path.l0 k n (x : Int) n l) (n, m) ∧ m.length ≤ 8 := by
  intro d
  induction d with
  | zero =>
   intro x l h1 h2 h3
   refine ⟨l, ?_, by omega⟩
   rw [Ev.iff_succ]
   simp only [spec_l2Path.l0, w64_succ x (show x < 9223372036854775807 by omega)]
   rw [Ev.ite_iff, if_neg (by omega), Ev.now_iff]
  | succ d ih =>
   intro x l h1 h2 h3
   by_cases c : ((x + 1 : Nat) : Int) < n
   ·obtain ⟨m, h4, h5⟩ := ih (x + 1) (l ++ [⟨(x : Int), ((x + 1 : Nat) : Int)⟩]) (by omega) (by simp;omega) (by omega)
    refine ⟨m, ?_, h5⟩
    rw [Ev.iff_succ]
    simp only [spec_l2Path.l0, w64_succ x (show x < 9223372036854775807 by omega)]
    rw [Ev.ite_iff, if_pos c, Ev.ite_iff, if_pos (by omega)]
    exact h4
   ·refine ⟨l, ?_, by omega⟩
    rw [Ev.iff_succ]
    simp only [spec_l2Path.l0, w64_succ x (show x < 9223372036854775807 by omega)]
    rw [Ev.ite_iff, if_neg c, Ev.now_iff]
 exact H 8 0 [] (by omega) (by simp) (by omega)

theorem l2Cycle_ok (n : Int) (hn : n ≤ 8) : ∃ m, Ev (fun k => spec_l2Cycle.f k n) (n, m) ∧ m.length ≤ 9 := by
 obtain ⟨m, h1, h2⟩ := l2Path_ok n hn
 obtain ⟨m2, h3, h4⟩ := l2Put_ok m 0 (wrap64 (n - 1)) (by omega)
 refine ⟨m2, ?_, by omega⟩
 unfold spec_l2Cycle.f
 rw [Ev.bind_iff h1, Ev.bind_iff h3, Ev.now_iff]

theorem l2Complete_ok (n : Int) (hn : n ≤ 8) : ∃ m, Ev (fun k => spec_l2Complete.f k n) (n, m) ∧ m.length ≤ 100 := by
 have inner : ∀ (x : Nat), x ≤ 8 → (∀ l : List S119, l.length ≤ 9 * (x + 1) → ∃ m, Ev (fun k => spec_l2Complete.l0 k n ((x + 1 : Nat) : Int) n l) (n, m) ∧ m.length ≤ 100) →
   ∀ (d y : Nat) (l : List S119), n ≤ y + d → y ≤ 9 → l.length ≤ 9 * x + y → ∃ m, Ev (fun k => spec_l2Complete.l1 k n (x : Int) (y : Int) n l) (n, m) ∧ m.length ≤ 100 := by
  intro x hx ho d
  induction d with
  | zero =>
   intro y l h1 h2 h3
   obtain ⟨m, h4, h5⟩ := ho l (by omega)
   refine ⟨m, ?_, h5⟩
   rw [Ev.iff_succ]
   simp only [spec_l2Complete.l1, w64_succ x (show x < 9223372036854775807 by omega)]
   rw [Ev.ite_iff, if_neg (by omega)]
   exact h4
  | succ d ih =>
   intro y l h1 h2 h3
   by_cases c : (y : Int) < n
   ·obtain ⟨m, h4, h5⟩ := ih (y + 1) (l ++ [⟨(x : Int), (y : Int)⟩]) (by omega) (by omega) (by simp;omega)
    refine ⟨m, ?_, h5⟩
    rw [Ev.iff_succ]
    simp only [spec_l2Complete.l1, w64_succ y (show y < 9223372036854775807 by omega)]
    rw [Ev.ite_iff, if_pos c, Ev.ite_iff, if_pos (by omega)]
    exact h4
   ·obtain ⟨m, h4, h5⟩ := ho l (by omega)
    refine ⟨m, ?_, h5⟩
    rw [Ev.iff_succ]
    simp only [spec_l2Complete.l1, w64_succ x (show x < 9223372036854775807 by omega)]
    rw [Ev.ite_iff, if_neg c]
    exact h4
 have H : ∀ (d x : Nat) (l : List S119), n ≤ x + d → x ≤ 8 → l.length ≤ 9 * x → ∃ m, Ev (fun k => spec_l2Complete.l0 k n (x : Int) n l) (n, m) ∧ m.length ≤ 100 := by
  intro d
  induction d with
  | zero =>
   intro x l h1 h2 h3
   refine ⟨l, ?_, by omega⟩
   rw [Ev.iff_succ]
   simp only [spec_l2Complete.l0]
   rw [Ev.ite_iff, if_neg (by omega), Ev.now_iff]
  | succ d ih =>
   intro x l h1 h2 h3
   by_cases c : (x : Int) < n
   ·obtain ⟨m, h4, h5⟩ := inner x h2 (fun l' hl' => by
     by_cases e : x + 1 ≤ 8
     ·exact ih (x + 1) l' (by omega) e hl'
     ·refine ⟨l', ?_, by omega⟩
      rw [Ev.iff_succ]
      simp only [spec_l2Complete.l0]
      rw [Ev.ite_iff, if_neg (by omega), Ev.now_iff]) 8 (x + 1) l (by omega) (by omega) (by omega)
    refine ⟨m, ?_, h5⟩
    rw [Ev.iff_succ]
    simp only [spec_l2Complete.l0, w64_succ x (show x < 9223372036854775807 by omega)]
    rw [Ev.ite_iff, if_pos c]
    exact h4
   ·refine ⟨l, ?_, by omega⟩
    rw [Ev.iff_succ]
    simp only [spec_l2Complete.l0]
    rw [Ev.ite_iff, if_neg c, Ev.now_iff]
 exact H 8 0 [] (by omega) (by omega) (by simp)

theorem marred_ok {l : List Int} (hb : ∀ x ∈ l, byteOk x) {a : Int} (s : Int) {b : Nat} (n : Int) (es : List S119) (h0 : 0 ≤ a) (h1 : a ≤ b) (h2 : b < 9223372036854770000) (he : es.length ≤ 1000) :
  ∃ n' es' a' s', spec_l1Cur_marred.f l a s n es = some (n', es', a', s') ∧ es'.length ≤ 1001 ∧ 0 ≤ a' ∧ a' ≤ ((b + 6 : Nat) : Int) := by
 obtain ⟨r, a1, s1, e, hr, _, h4, h5⟩ := pick_ok hb s 50 h0 h1 (by omega)
 unfold spec_l1Cur_marred.f
 rw [e]
 simp only [Option.bind_some]
 by_cases c0 : r = 0
 ·rw [if_pos c0]
  obtain ⟨r2, a2, s2, e2, _, h6, h7⟩ := among_ok hb s1 [(-1), 8, 9, 0, 4611686018427387904] (by simp) h4 h5 (by omega)
  rw [e2]
  simp only [Option.bind_some]
  exact ⟨_, _, _, _, rfl, by omega, h6, by omega⟩
 ·rw [if_neg c0]
  by_cases c1 : r = 1
  ·rw [if_pos c1]
   obtain ⟨r2, a2, s2, e2, _, _, h6, h7⟩ := pick_ok hb s1 4 h4 h5 (by omega)
   rw [e2]
   simp only [Option.bind_some]
   obtain ⟨r3, a3, s3, e3, _, _, h8, h9⟩ := pick_ok hb s2 9 h6 h7 (by omega)
   rw [e3]
   simp only [Option.bind_some]
   rw [if_pos (by omega)]
   exact ⟨_, _, _, _, rfl, by simp;omega, h8, by omega⟩
  ·rw [if_neg c1]
   by_cases c2 : r = 2
   ·rw [if_pos c2]
    by_cases c3 : (es.length : Int) > 0
    ·rw [if_pos c3]
     obtain ⟨r2, a2, s2, e2, g1, g2, h6, h7⟩ := pick_ok hb s1 (es.length : Int) h4 h5 (by omega)
     rw [e2]
     simp only [Option.bind_some]
     rw [if_pos g1, if_pos (g2 (by omega)), if_pos (by omega)]
     exact ⟨_, _, _, _, rfl, by simp;omega, h6, by omega⟩
    ·rw [if_neg c3];exact ⟨_, _, _, _, rfl, by omega, h4, by omega⟩
   ·rw [if_neg c2];exact ⟨_, _, _, _, rfl, by omega, h4, by omega⟩

def Drawn (l : List Int) (b : Nat) (g : Nat → Option (Int × (List S119) × Int × Int)) : Prop := ∃ n' es' a' s', Ev g (n', es', a', s') ∧ es'.length ≤ 1001 ∧ 0 ≤ a' ∧ a' ≤ ((b : Nat) : Int)

end Go.Proofs.Ytmokkhfmbenleaa.QSpreading
