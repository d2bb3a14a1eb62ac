import Derived.Test.YtmokkhfmbenleaaQClosures0
import Derived.Test.YtmokkhfmbenleaaQClosures10
import Derived.Test.YtmokkhfmbenleaaQClosures5
import Derived.Test.YtmokkhfmbenleaaQClosures6
import Derived.Test.YtmokkhfmbenleaaQClosures7
import Derived.Test.YtmokkhfmbenleaaQClosures8
import Derived.Test.YtmokkhfmbenleaaQClosures9
import Derived.Test.YtmokkhfmbenleaaQClosuresA2
namespace Go.Proofs.Ytmokkhfmbenleaa.QClosures
open Go.RowKit Go.Proofs.YtmokkhfmbenleaaW.PrintWords Go.Proofs.YtmokkhfmbenleaaW.PrintLast Go.Proofs.YtmokkhfmbenleaaW.PrintMore
attribute [local go_sem] max2_int min2_int max_two min_two max_three min_three max_four min_four   -- for this text's walks alone
set_option linter.unusedVariables false
set_option linter.unusedSimpArgs false
theorem u64_and255 (x : Int) : byteOk (wrap64 (Go.bits .and .u64 (IntKind.u64.wrap x / 1099511627776) 255)) := by
 have h0 : 0 ≤ IntKind.u64.wrap x ∧ IntKind.u64.wrap x < 18446744073709551616 := by rw [IntKind.wrap_u64]; omega
 generalize IntKind.u64.wrap x = y at h0
 obtain ⟨m, hm⟩ : ∃ m : Nat, y / 1099511627776 = (m : Int) := ⟨(y / 1099511627776).toNat, by omega⟩
 have hm2 : m < 2 ^ 62 := by omega
 have e := (bits_nat .u64 62 (by decide) (fun n h1 h2 => by rw [IntKind.wrap_u64]; omega) m 255 hm2 (by decide)).1
 rw [hm, show (255 : Int) = ((255 : Nat) : Int) from rfl, e]
 have h3 : m &&& 255 < 256 := Nat.and_lt_two_pow m (show 255 < 2 ^ 8 by decide)
 rw [w64 (by omega) (by omega)]
 constructor <;> omega

theorem next_ok {l : List Int} (hb : ∀ x ∈ l, byteOk x) {a : Int} (s : Int) {b : Nat} (h0 : 0 ≤ a) (h1 : a ≤ b) (h2 : b < 9223372036854775000) : ∃ r a' s', spec_l1Cur_next.f l a s = some (r, a', s') ∧ byteOk r ∧ 0 ≤ a' ∧ a' ≤ ((b + 1 : Nat) : Int) := by
 have hw : wrap64 (a + 1) = a + 1 := w64 (by omega) (by omega)
 unfold spec_l1Cur_next.f
 rw [hw]
 by_cases c : a < (l.length : Int)
 ·rw [if_pos c, if_pos h0]
  have hr : byteOk (wrap64 (rd l a)) := by
   obtain ⟨i, rfl⟩ : ∃ i : Nat, a = i := ⟨a.toNat, by omega⟩
   have hx := hb l[i] (List.getElem_mem (show i < l.length by omega))
   rw [rd_lt l i (by omega), w64 (by have := hx.1; omega) (by have := hx.2; omega)]
   exact hx
  by_cases g : a + 1 ≤ (l.length : Int)
  ·rw [if_pos g]; exact ⟨_, _, _, rfl, hr, by omega, by omega⟩
  ·rw [if_neg g]; exact ⟨_, _, _, rfl, u64_and255 _, by omega, by omega⟩
 ·rw [if_neg c]
  by_cases g : a + 1 ≤ (l.length : Int)
  ·rw [if_pos g]; exact ⟨_, _, _, rfl, ⟨by decide, by decide⟩, by omega, by omega⟩
  ·rw [if_neg g]; exact ⟨_, _, _, rfl, u64_and255 _, by omega, by omega⟩

theorem tmod_ok {x n : Int} (h : 0 ≤ x) (hn : 1 ≤ n) : 0 ≤ Int.tmod x n ∧ Int.tmod x n < n := by
 rw [Int.tmod_eq_emod_of_nonneg h]
 exact ⟨Int.emod_nonneg _ (by omega), Int.emod_lt_of_pos _ (by omega)⟩

theorem pick_ok {l : List Int} (hb : ∀ x ∈ l, byteOk x) {a : Int} (s : Int) {b : Nat} (n : Int) (h0 : 0 ≤ a) (h1 : a ≤ b) (h2 : b < 9223372036854774000) : ∃ r a' s', spec_l1Cur_pick.f l a s n = some (r, a', s') ∧ 0 ≤ r ∧ (1 ≤ n → r < n) ∧ 0 ≤ a' ∧ a' ≤ ((b + 2 : Nat) : Int) := by
 unfold spec_l1Cur_pick.f
 by_cases c : n ≤ 1
 ·rw [if_pos c]; exact ⟨_, _, _, rfl, Int.le_refl _, fun h => by omega, h0, by omega⟩
 ·rw [if_neg c]
  obtain ⟨r, a', s', e, hr, h3, h4⟩ := next_ok hb s h0 h1 (by omega)
  rw [e]
  simp only [Option.bind_some]
  by_cases g : n > 200
  ·rw [if_pos g]
   obtain ⟨r2, a2, s2, e2, hr2, h5, h6⟩ := next_ok hb s' h3 h4 (by omega)
   rw [e2]
   simp only [Option.bind_some]
   rw [if_neg (by omega)]
   have hr1 := hr.1; have hr3 := hr.2; have hr4 := hr2.1; have hr5 := hr2.2
   have hw : wrap64 (r * 256) = r * 256 := w64 (by omega) (by omega)
   have hw2 : wrap64 (r * 256 + r2) = r * 256 + r2 := w64 (by omega) (by omega)
   rw [hw, hw2]
   have := tmod_ok (x := r * 256 + r2) (n := n) (by omega) (by omega)
   exact ⟨_, _, _, rfl, this.1, fun _ => this.2, h5, by omega⟩
  ·rw [if_neg g, if_neg (by omega)]
   have := tmod_ok (x := r) (n := n) hr.1 (by omega)
   exact ⟨_, _, _, rfl, this.1, fun _ => this.2, h3, by omega⟩

theorem among_ok {l : List Int} (hb : ∀ x ∈ l, byteOk x) {a : Int} (s : Int) {b : Nat} (m : List Int) (hm : m ≠ []) (h0 : 0 ≤ a) (h1 : a ≤ b) (h2 : b < 9223372036854774000) : ∃ r a' s', spec_l1Cur_among.f l a s m = some (r, a', s') ∧ r ∈ m ∧ 0 ≤ a' ∧ a' ≤ ((b + 2 : Nat) : Int) := by
 have hl := List.length_pos_iff.2 hm
 obtain ⟨r, a', s', e, hr, h3, h4, h5⟩ := pick_ok hb s (m.length : Int) h0 h1 h2
 have h3' := h3 (by omega)
 unfold spec_l1Cur_among.f
 rw [e]
 simp only [Option.bind_some]
 rw [if_pos hr, if_pos h3']
 obtain ⟨i, rfl⟩ : ∃ i : Nat, r = i := ⟨r.toNat, by omega⟩
 rw [rd_lt m i (by omega)]
 exact ⟨_, _, _, rfl, List.getElem_mem _, h4, h5⟩

theorem one_ok {l : List Int} (hb : ∀ x ∈ l, byteOk x) {a : Int} (s : Int) {b : Nat} (n : Int) (h0 : 0 ≤ a) (h1 : a ≤ b) (h2 : b < 9223372036854774000) : ∃ r a' s', spec_l1Cur_one.f l a s n = some (r, a', s') ∧ 0 ≤ a' ∧ a' ≤ ((b + 2 : Nat) : Int) := by
 obtain ⟨r, a', s', e, _, _, h4, h5⟩ := pick_ok hb s n h0 h1 h2
 unfold spec_l1Cur_one.f
 rw [e]
 exact ⟨_, _, _, rfl, h4, h5⟩

theorem l2Put_ok (l : List S119) (x y : Int) (hl : l.length ≤ 8000000000000) : ∃ m, Ev (fun k => spec_l2Put.f k l x y) m ∧ m.length = l.length + 1 := by
 have H := down l.length (fun i => ∃ m, Ev (fun k => spec_l2Put.l0 k l i x y) m ∧ m.length = l.length + 1) ?_ ?_ 0 (by omega)
 ·exact H
 ·refine ⟨([] ++ l.take ((l.length : Int)).toNat) ++ [⟨x, y⟩] ++ l.drop ((l.length : Int)).toNat, ?_, by simp⟩
  show Ev _ _
  rw [Ev.iff_succ]
  have g1 : (([] : List S119).length + (l.take l.length).length < 8796093022208) = True := eq_true (by simp; omega)
  simp only [spec_l2Put.l0, Int.lt_irrefl, ↓reduceIte, Option.bind_some, Int.toNat_natCast, g1, Int.le_refl, show (0 : Int) ≤ (l.length : Int) by omega, List.nil_append, List.take_length, List.drop_length, List.append_nil, List.length_append, List.length_cons, List.length_nil]
  rw [Ev.ite_iff, if_pos (by omega), Ev.ite_iff, if_pos (by omega), Ev.ite_iff, if_pos (by omega), Ev.now_iff]
 ·rintro i hi ⟨m, ih, hm⟩
  have h1 : (i : Int) < l.length := by omega
  have h2 : (0 : Int) ≤ i := by omega
  have hb : ∃ b, spec_l2Before.f (rd_T119 l (i : Int)).f0 (rd_T119 l (i : Int)).f1 x y = some b := by
   unfold spec_l2Before.f
   split
   ·exact ⟨_, rfl⟩
   ·split <;> exact ⟨_, rfl⟩
  obtain ⟨b, hb⟩ := hb
  cases b with
  | true =>
   refine ⟨m, ?_, hm⟩
   show Ev _ _
   rw [Ev.iff_succ]
   simp only [spec_l2Put.l0, h1, h2, ↓reduceIte, hb, Option.bind_some, w64_succ i (show i < 9223372036854775807 by omega)]
   exact ih
  | false =>
   refine ⟨l.take i ++ [⟨x, y⟩] ++ l.drop i, ?_, by simp; omega⟩
   show Ev _ _
   rw [Ev.iff_succ]
   have h3 : (i : Int) ≤ l.length := by omega
   simp only [spec_l2Put.l0, h1, h2, h3, ↓reduceIte, hb, Option.bind_some, Bool.false_eq_true, Int.toNat_natCast, List.nil_append, List.length_append, List.length_cons, List.length_nil, List.length_take, List.length_drop]
   rw [Ev.ite_iff, if_pos (by omega), Ev.ite_iff, if_pos (by omega), Ev.ite_iff, if_pos (by omega), Ev.now_iff]

theorem l2Path_ok (n : Int) (hn : n ≤ 8) : ∃ m, Ev (fun k => spec_l2Path.f k n) (n, m) ∧ m.length ≤ 8 := by
 have H : ∀ (d x : Nat) (l : List S119), n ≤ x + d → l.length ≤ x → x ≤ 8 → ∃ m, Ev (fun k => spec_l2Path.l0 k n (x : Int) n l) (n, m) ∧ m.length ≤ 8 := by
  intro d
  induction d with
  | zero =>
   intro x l h1 h2 h3
   refine ⟨l, ?_, by omega⟩
   rw [Ev.iff_succ]
   simp only [spec_l2Path.l0, w64_succ x (show x < 9223372036854775807 by omega)]
   rw [Ev.ite_iff, if_neg (by omega), Ev.now_iff]
  | succ d ih =>
   intro x l h1 h2 h3
   by_cases c : ((x + 1 : Nat) : Int) < n
   ·obtain ⟨m, h4, h5⟩ := ih (x + 1) (l ++ [⟨(x : Int), ((x + 1 : Nat) : Int)⟩]) (by omega) (by simp; omega) (by omega)
    refine ⟨m, ?_, h5⟩
    rw [Ev.iff_succ]
    simp only [spec_l2Path.l0, w64_succ x (show x < 9223372036854775807 by omega)]
    rw [Ev.ite_iff, if_pos c, Ev.ite_iff, if_pos (by omega)]
    exact h4
   ·refine ⟨l, ?_, by omega⟩
    rw [Ev.iff_succ]
    simp only [spec_l2Path.l0, w64_succ x (show x < 9223372036854775807 by omega)]
    rw [Ev.ite_iff, if_neg c, Ev.now_iff]
 exact H 8 0 [] (by omega) (by simp) (by omega)

theorem l2Cycle_ok (n : Int) (hn : n ≤ 8) : ∃ m, Ev (fun k => spec_l2Cycle.f k n) (n, m) ∧ m.length ≤ 9 := by
 obtain ⟨m, h1, h2⟩ := l2Path_ok n hn
 obtain ⟨m2, h3, h4⟩ := l2Put_ok m 0 (wrap64 (n - 1)) (by omega)
 refine ⟨m2, ?_, by omega⟩
 unfold spec_l2Cycle.f
 rw [Ev.bind_iff h1, Ev.bind_iff h3, Ev.now_iff]

theorem l2Complete_ok (n : Int) (hn : n ≤ 8) : ∃ m, Ev (fun k => spec_l2Complete.f k n) (n, m) ∧ m.length ≤ 100 := by
 have inner : ∀ (x : Nat), x ≤ 8 → (∀ l : List S119, l.length ≤ 9 * (x + 1) → ∃ m, Ev (fun k => spec_l2Complete.l0 k n ((x + 1 : Nat) : Int) n l) (n, m) ∧ m.length ≤ 100) →
   ∀ (d y : Nat) (l : List S119), n ≤ y + d → y ≤ 9 → l.length ≤ 9 * x + y → ∃ m, Ev (fun k => spec_l2Complete.l1 k n (x : Int) (y : Int) n l) (n, m) ∧ m.length ≤ 100 := by
  intro x hx ho d
  induction d with
  | zero =>
   intro y l h1 h2 h3
   obtain ⟨m, h4, h5⟩ := ho l (by omega)
   refine ⟨m, ?_, h5⟩
   rw [Ev.iff_succ]
   simp only [spec_l2Complete.l1, w64_succ x (show x < 9223372036854775807 by omega)]
   rw [Ev.ite_iff, if_neg (by omega)]
   exact h4
  | succ d ih =>
   intro y l h1 h2 h3
   by_cases c : (y : Int) < n
   ·obtain ⟨m, h4, h5⟩ := ih (y + 1) (l ++ [⟨(x : Int), (y : Int)⟩]) (by omega) (by omega) (by simp; omega)
    refine ⟨m, ?_, h5⟩
    rw [Ev.iff_succ]
    simp only [spec_l2Complete.l1, w64_succ y (show y < 9223372036854775807 by omega)]
    rw [Ev.ite_iff, if_pos c, Ev.ite_iff, if_pos (by omega)]
    exact h4
   ·obtain ⟨m, h4, h5⟩ := ho l (by omega)
    refine ⟨m, ?_, h5⟩
    rw [Ev.iff_succ]
    simp only [spec_l2Complete.l1, w64_succ x (show x < 9223372036854775807 by omega)]
    rw [Ev.ite_iff, if_neg c]
    exact h4
 have H : ∀ (d x : Nat) (l : List S119), n ≤ x + d → x ≤ 8 → l.length ≤ 9 * x → ∃ m, Ev (fun k => spec_l2Complete.l0 k n (x : Int) n l) (n, m) ∧ m.length ≤ 100 := by
  intro d
  induction d with
  | zero =>
   intro x l h1 h2 h3
   refine ⟨l, ?_, by omega⟩
   rw [Ev.iff_succ]
   simp only [spec_l2Complete.l0]
   rw [Ev.ite_iff, if_neg (by omega), Ev.now_iff]
  | succ d ih =>
   intro x l h1 h2 h3
   by_cases c : (x : Int) < n
   ·obtain ⟨m, h4, h5⟩ := inner x h2 (fun l' hl' => by
     by_cases e : x + 1 ≤ 8
     ·exact ih (x + 1) l' (by omega) e hl'
     ·refine ⟨l', ?_, by omega⟩
      rw [Ev.iff_succ]
      simp only [spec_l2Complete.l0]
      rw [Ev.ite_iff, if_neg (by omega), Ev.now_iff]) 8 (x + 1) l (by omega) (by omega) (by omega)
    refine ⟨m, ?_, h5⟩
    rw [Ev.iff_succ]
    simp only [spec_l2Complete.l0, w64_succ x (show x < 9223372036854775807 by omega)]
    rw [Ev.ite_iff, if_pos c]
    exact h4
   ·refine ⟨l, ?_, by omega⟩
    rw [Ev.iff_succ]
    simp only [spec_l2Complete.l0]
    rw [Ev.ite_iff, if_neg c, Ev.now_iff]
 exact H 8 0 [] (by omega) (by omega) (by simp)

theorem marred_ok {l : List Int} (hb : ∀ x ∈ l, byteOk x) {a : Int} (s : Int) {b : Nat} (n : Int) (es : List S119) (h0 : 0 ≤ a) (h1 : a ≤ b) (h2 : b < 9223372036854770000) (he : es.length ≤ 1000) :
  ∃ n' es' a' s', spec_l1Cur_marred.f l a s n es = some (n', es', a', s') ∧ es'.length ≤ 1001 ∧ 0 ≤ a' ∧ a' ≤ ((b + 6 : Nat) : Int) := by
 obtain ⟨r, a1, s1, e, hr, _, h4, h5⟩ := pick_ok hb s 50 h0 h1 (by omega)
 unfold spec_l1Cur_marred.f
 rw [e]
 simp only [Option.bind_some]
 by_cases c0 : r = 0
 ·rw [if_pos c0]
  obtain ⟨r2, a2, s2, e2, _, h6, h7⟩ := among_ok hb s1 [(-1), 8, 9, 0, 4611686018427387904] (by simp) h4 h5 (by omega)
  rw [e2]
  simp only [Option.bind_some]
  exact ⟨_, _, _, _, rfl, by omega, h6, by omega⟩
 ·rw [if_neg c0]
  by_cases c1 : r = 1
  ·rw [if_pos c1]
   obtain ⟨r2, a2, s2, e2, _, _, h6, h7⟩ := pick_ok hb s1 4 h4 h5 (by omega)
   rw [e2]
   simp only [Option.bind_some]
   obtain ⟨r3, a3, s3, e3, _, _, h8, h9⟩ := pick_ok hb s2 9 h6 h7 (by omega)
   rw [e3]
   simp only [Option.bind_some]
   rw [if_pos (by omega)]
   exact ⟨_, _, _, _, rfl, by simp; omega, h8, by omega⟩
  ·rw [if_neg c1]
   by_cases c2 : r = 2
   ·rw [if_pos c2]
    by_cases c3 : (es.length : Int) > 0
    ·rw [if_pos c3]
     obtain ⟨r2, a2, s2, e2, g1, g2, h6, h7⟩ := pick_ok hb s1 (es.length : Int) h4 h5 (by omega)
     rw [e2]
     simp only [Option.bind_some]
     rw [if_pos g1, if_pos (g2 (by omega)), if_pos (by omega)]
     exact ⟨_, _, _, _, rfl, by simp; omega, h6, by omega⟩
    ·rw [if_neg c3]; exact ⟨_, _, _, _, rfl, by omega, h4, by omega⟩
   ·rw [if_neg c2]; exact ⟨_, _, _, _, rfl, by omega, h4, by omega⟩

def Drawn (l : List Int) (b : Nat) (g : Nat → Option (Int × (List S119) × Int × Int)) : Prop := ∃ n' es' a' s', Ev g (n', es', a', s') ∧ es'.length ≤ 1001 ∧ 0 ≤ a' ∧ a' ≤ ((b : Nat) : Int)

theorem some_l0 {l : List Int} (hb : ∀ x ∈ l, byteOk x) (n : Int) (hn : n ≤ 8) (p : Int) (q : Bool) : ∀ (d x : Nat) (es : List S119) (a s : Int) (b : Nat), n ≤ x + d → x ≤ 8 → es.length ≤ 10 * x → 0 ≤ a → a ≤ ((b + 30 * x : Nat) : Int) → b < 9223372036854000000 →
  Drawn l (b + 300) (fun k => spec_l1Cur_someGraph.l0 k n p q (x : Int) l a s n es) := by
 intro d
 have done : ∀ (x : Nat) (es : List S119) (a s : Int) (b : Nat), ¬ (x : Int) < n → x ≤ 9 → es.length ≤ 10 * x → 0 ≤ a → a ≤ ((b + 30 * x : Nat) : Int) → b < 9223372036854000000 → Drawn l (b + 300) (fun k => spec_l1Cur_someGraph.l0 k n p q (x : Int) l a s n es) := by
  intro x es a s b hx h9 he h0 h1 h2
  obtain ⟨n', es', a', s', e, g1, g2, g3⟩ := marred_ok hb s n es h0 h1 (by omega) (by omega)
  refine ⟨n', es', a', s', ?_, g1, g2, by omega⟩
  rw [Ev.iff_succ]
  simp only [spec_l1Cur_someGraph.l0, e, Option.bind_some]
  rw [Ev.ite_iff, if_neg hx, Ev.now_iff]
 induction d with
 | zero =>
  intro x es a s b hx h8 he h0 h1 h2
  exact done x es a s b (by omega) (by omega) he h0 h1 h2
 | succ d ih =>
  intro x es a s b hx h8 he h0 h1 h2
  by_cases c : (x : Int) < n
  ·have next : ∀ (es : List S119) (a s : Int), es.length ≤ 10 * (x + 1) → 0 ≤ a → a ≤ ((b + 30 * (x + 1) : Nat) : Int) → Drawn l (b + 300) (fun k => spec_l1Cur_someGraph.l0 k n p q ((x + 1 : Nat) : Int) l a s n es) := by
    intro es a s he h0 h1
    by_cases g : x + 1 ≤ 8
    ·exact ih (x + 1) es a s b (by omega) g he h0 h1 h2
    ·exact done (x + 1) es a s b (by omega) (by omega) he h0 h1 h2
   have hx0 : x < 9223372036854775807 := by omega
   have inner : ∀ (e y : Nat) (es : List S119) (a s : Int), n ≤ y + e → y ≤ 9 → es.length ≤ 10 * x + y → 0 ≤ a → a ≤ ((b + 30 * x + 2 * y : Nat) : Int) → Drawn l (b + 300) (fun k => spec_l1Cur_someGraph.l1 k n p q (x : Int) (y : Int) l a s n es) := by
    intro e
    have out : ∀ (y : Nat) (es : List S119) (a s : Int), ¬ (y : Int) < n → y ≤ 9 → es.length ≤ 10 * x + y → 0 ≤ a → a ≤ ((b + 30 * x + 2 * y : Nat) : Int) → Drawn l (b + 300) (fun k => spec_l1Cur_someGraph.l1 k n p q (x : Int) (y : Int) l a s n es) := by
     intro y es a s hy h9 he h0 h1
     obtain ⟨t, ht⟩ : ∃ t, spec_l1Most.f (x : Int) 1 = some t := by
      unfold spec_l1Most.f
      split <;> exact ⟨_, rfl⟩
     obtain ⟨r, a1, s1, e1, g1, _, g3, g4⟩ := pick_ok hb s t h0 h1 (by omega)
     have go : ∀ es' : List S119, es'.length ≤ 10 * (x + 1) → Drawn l (b + 300) (fun k => spec_l1Cur_someGraph.l0 k n p q ((x + 1 : Nat) : Int) l a1 s1 n es') := fun es' h => next es' a1 s1 h g3 (by omega)
     by_cases cx : (x : Int) > 0
     ·cases hq : q with
      | true =>
       subst hq
       obtain ⟨n', es', a', s', k1, k2, k3, k4⟩ := go es (by omega)
       refine ⟨n', es', a', s', ?_, k2, k3, k4⟩
       rw [Ev.iff_succ]
       simp only [spec_l1Cur_someGraph.l1, hy, cx, ↓reduceIte, ht, e1, Option.bind_some, w64_succ x hx0]
       exact k1
      | false =>
       subst hq
       cases hn : near es (x : Int) r with
       | true =>
        obtain ⟨n', es', a', s', k1, k2, k3, k4⟩ := go es (by omega)
        refine ⟨n', es', a', s', ?_, k2, k3, k4⟩
        rw [Ev.iff_succ]
        simp only [spec_l1Cur_someGraph.l1, hy, cx, ↓reduceIte, ht, e1, Option.bind_some, w64_succ x hx0, Bool.false_eq_true]
        rw [Ev.bind_iff (l2Near_ev n es (x : Int) r (by omega)), hn, Ev.ite_iff, if_pos rfl]
        exact k1
       | false =>
        obtain ⟨m, hm, hml⟩ := l2Put_ok es r (x : Int) (by omega)
        obtain ⟨n', es', a', s', k1, k2, k3, k4⟩ := go m (by omega)
        refine ⟨n', es', a', s', ?_, k2, k3, k4⟩
        rw [Ev.iff_succ]
        simp only [spec_l1Cur_someGraph.l1, hy, cx, ↓reduceIte, ht, e1, Option.bind_some, w64_succ x hx0, Bool.false_eq_true]
        rw [Ev.bind_iff (l2Near_ev n es (x : Int) r (by omega)), hn, Ev.ite_iff, if_neg (by decide), Ev.bind_iff hm]
        exact k1
     ·obtain ⟨n', es', a', s', k1, k2, k3, k4⟩ := go es (by omega)
      refine ⟨n', es', a', s', ?_, k2, k3, k4⟩
      rw [Ev.iff_succ]
      simp only [spec_l1Cur_someGraph.l1, hy, cx, ↓reduceIte, ht, e1, Option.bind_some, w64_succ x hx0]
      exact k1
    induction e with
    | zero => intro y es a s h1 h2 h3 h4 h5; exact out y es a s (by omega) h2 h3 h4 h5
    | succ e ihe =>
     intro y es a s h1' h2' h3 h4 h5
     by_cases cy : (y : Int) < n
     ·obtain ⟨r, a1, s1, e1, g1, _, g3, g4⟩ := pick_ok hb s p h4 h5 (by omega)
      have hy0 : y < 9223372036854775807 := by omega
      by_cases cr : r = 0
      ·obtain ⟨m, hm, hml⟩ := l2Put_ok es (x : Int) (y : Int) (by omega)
       obtain ⟨n', es', a', s', k1, k2, k3, k4⟩ := ihe (y + 1) m a1 s1 (by omega) (by omega) (by omega) g3 (by omega)
       refine ⟨n', es', a', s', ?_, k2, k3, k4⟩
       rw [Ev.iff_succ]
       simp only [spec_l1Cur_someGraph.l1, cy, ↓reduceIte, e1, Option.bind_some, w64_succ y hy0, cr]
       rw [Ev.bind_iff hm]
       exact k1
      ·obtain ⟨n', es', a', s', k1, k2, k3, k4⟩ := ihe (y + 1) es a1 s1 (by omega) (by omega) (by omega) g3 (by omega)
       refine ⟨n', es', a', s', ?_, k2, k3, k4⟩
       rw [Ev.iff_succ]
       simp only [spec_l1Cur_someGraph.l1, cy, ↓reduceIte, e1, Option.bind_some, w64_succ y hy0, cr]
       exact k1
     ·exact out y es a s cy h2' h3 h4 h5
   obtain ⟨n', es', a', s', k1, k2, k3, k4⟩ := inner 8 (x + 1) es a s (by omega) (by omega) (by omega) h0 (by omega)
   refine ⟨n', es', a', s', ?_, k2, k3, k4⟩
   rw [Ev.iff_succ]
   simp only [spec_l1Cur_someGraph.l0, c, ↓reduceIte, w64_succ x hx0]
   exact k1
  ·exact done x es a s b c (by omega) he h0 h1 h2

theorem some_j1 {l : List Int} (hb : ∀ x ∈ l, byteOk x) (m : Int) (hm : m ≤ 8) (n a s : Int) {b : Nat} (h0 : 0 ≤ a) (h1 : a ≤ b) (h2 : b < 9223372036853000000) : Drawn l (b + 400) (fun k => spec_l1Cur_someGraph.j1 k m n l a s) := by
 obtain ⟨t, ht, ht8⟩ : ∃ t, spec_l1Least.f n m = some t ∧ t ≤ 8 := by
  unfold spec_l1Least.f
  by_cases c : n < m
  ·rw [if_pos c]; exact ⟨_, rfl, by omega⟩
  ·rw [if_neg c]; exact ⟨_, rfl, by omega⟩
 obtain ⟨r, a1, s1, e1, g1, _, g3, g4⟩ := pick_ok hb s 8 h0 h1 (by omega)
 have fin : ∀ es : List S119, es.length ≤ 100 → ∃ n' es' a' s', spec_l1Cur_marred.f l a1 s1 t es = some (n', es', a', s') ∧ es'.length ≤ 1001 ∧ 0 ≤ a' ∧ a' ≤ ((b + 400 : Nat) : Int) := by
  intro es he
  obtain ⟨n', es', a', s', k1, k2, k3, k4⟩ := marred_ok hb s1 t es g3 g4 (by omega) (by omega)
  exact ⟨n', es', a', s', k1, k2, k3, by omega⟩
 by_cases c0 : r = 0
 ·obtain ⟨es, p1, p2⟩ := l2Path_ok t ht8
  obtain ⟨n', es', a', s', k1, k2, k3, k4⟩ := fin es (by omega)
  refine ⟨n', es', a', s', ?_, k2, k3, k4⟩
  rw [Ev.iff_succ]
  simp only [spec_l1Cur_someGraph.j1, ht, e1, Option.bind_some, c0, ↓reduceIte]
  rw [Ev.bind_iff p1, k1]
  exact Ev.now _
 by_cases c1 : r = 1
 ·subst c1
  by_cases c3 : t > 2
  ·obtain ⟨es, p1, p2⟩ := l2Cycle_ok t ht8
   obtain ⟨n', es', a', s', k1, k2, k3, k4⟩ := fin es (by omega)
   refine ⟨n', es', a', s', ?_, k2, k3, k4⟩
   rw [Ev.iff_succ]
   simp only [spec_l1Cur_someGraph.j1, ht, e1, Option.bind_some, c0, c3, ↓reduceIte]
   rw [Ev.bind_iff p1, k1]
   exact Ev.now _
  ·obtain ⟨n', es', a', s', k1, k2, k3, k4⟩ := fin [] (by simp)
   refine ⟨n', es', a', s', ?_, k2, k3, k4⟩
   rw [Ev.iff_succ]
   simp only [spec_l1Cur_someGraph.j1, ht, e1, Option.bind_some, c0, c3, ↓reduceIte, k1]
   exact Ev.now _
 by_cases c2 : r = 2
 ·subst c2
  obtain ⟨es, p1, p2⟩ := l2Complete_ok t ht8
  obtain ⟨n', es', a', s', k1, k2, k3, k4⟩ := fin es (by omega)
  refine ⟨n', es', a', s', ?_, k2, k3, k4⟩
  rw [Ev.iff_succ]
  simp only [spec_l1Cur_someGraph.j1, ht, e1, Option.bind_some, c0, c1, ↓reduceIte]
  rw [Ev.bind_iff p1, k1]
  exact Ev.now _
 obtain ⟨p, a2, s2, e2, _, g6, g7⟩ := among_ok hb s1 [3, 4, 6] (by simp) g3 g4 (by omega)
 obtain ⟨q, a3, s3, e3, g8, g9⟩ := one_ok hb s2 6 g6 g7 (by omega)
 obtain ⟨n', es', a', s', k1, k2, k3, k4⟩ := some_l0 hb t ht8 p q 8 0 [] a3 s3 (b + 2 + 2 + 2) (by omega) (by omega) (by simp) g8 (by omega) (by omega)
 refine ⟨n', es', a', s', ?_, k2, k3, by omega⟩
 rw [Ev.iff_succ]
 simp only [spec_l1Cur_someGraph.j1, ht, e1, Option.bind_some, c0, c1, c2, ↓reduceIte, e2, e3]
 exact k1

end Go.Proofs.Ytmokkhfmbenleaa.QClosures
