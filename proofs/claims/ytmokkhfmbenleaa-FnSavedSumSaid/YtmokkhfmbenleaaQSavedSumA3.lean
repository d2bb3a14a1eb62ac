import Derived.Test.YtmokkhfmbenleaaQSavedSum0
import Derived.Test.YtmokkhfmbenleaaQSavedSum10
import Derived.Test.YtmokkhfmbenleaaQSavedSum11
import Derived.Test.YtmokkhfmbenleaaQSavedSum12
import Derived.Test.YtmokkhfmbenleaaQSavedSum3
import Derived.Test.YtmokkhfmbenleaaQSavedSum4
import Derived.Test.YtmokkhfmbenleaaQSavedSum5
import Derived.Test.YtmokkhfmbenleaaQSavedSum6
import Derived.Test.YtmokkhfmbenleaaQSavedSum9
import Derived.Test.YtmokkhfmbenleaaQSavedSumA2
namespace Go.Proofs.Ytmokkhfmbenleaa.QSavedSum
open Go.RowKit Go.Proofs.YtmokkhfmbenleaaW.PrintWords Go.Proofs.YtmokkhfmbenleaaW.PrintLast Go.Proofs.YtmokkhfmbenleaaW.PrintMore
attribute [local go_sem] max2_int min2_int max_two min_two max_three min_three max_four min_four   -- for this text's walks alone
set_option linter.unusedVariables false
set_option linter.unusedSimpArgs false
theorem isFire_ev (n : Int) (es : List S119) (a d : Int) : Ev (fun k => impl_isFire.f k n es a d) (fireB n es a d) := by
 unfold impl_isFire.f
 rw [Ev.bind_iff (hasNodes_ev n es [a] (by simp)), Ev.ite_iff, within_eq]
 simp only [Option.bind_some, Ev.now_iff, allIn, List.all_cons, List.all_nil, Bool.and_true, fireB]
 cases okG n es
 ·simp
 ·by_cases h2 : 0 ≤ a ∧ a ≤ wrap64 (n - 1)
  ·rw [if_pos (by simpa using h2)];simp [h2]
  ·rw [if_neg (by simpa using h2)];simp only [h2, decide_false, Bool.false_and, Bool.true_and]

theorem specMostSaved_ev (n : Int) (es : List S119) (a d : Int) (_ : (Lit.int .i64 a).wf = true) (_ : (Lit.int .i64 d).wf = true) (he : es.length ≤ 9223372036854775807) : Ev (fun k => spec_MostSaved.f k n es a d) (mostSavedR n es a d) := by
 unfold spec_MostSaved.f mostSavedR
 rw [l8Good_eq]
 simp only [Option.bind_some, Ev.ite_iff]
 by_cases h : fireB n es a d = true
 ·obtain ⟨N, x, D, rfl, rfl, rfl, hN, hg, hx, hD⟩ := fireB_use h
  have e0 : bl N 0 = [] := List.eq_nil_iff_forall_not_mem.2 (fun x hx => by obtain ⟨i, _, h2, _⟩ := mem_bl.1 hx;simp at h2)
  have hB := l8Best_ev (es := es) (d := D) hN hD he 9 (2 ^ x) 0 (by omega) (Nat.pow_lt_pow_right (by decide) hx) (Nat.two_pow_pos N) (by omega)
  rw [e0, bl_pow N hN x hx] at hB
  replace hB : Ev (fun k => spec_l8Best.f k N es [(x : Int)] [] D) ((fgt es N D 9 (2 ^ x) 0).2, (fgt es N D 9 (2 ^ x) 0).1) := hB
  rw [if_pos h, if_pos h, Ev.bind_iff hB, Ev.now_iff]
  simp only [Int.toNat_natCast]
 ·rw [if_neg h, if_neg h, Ev.now_iff]

theorem implMostSaved_ev (n : Int) (es : List S119) (a d : Int) (_ : (Lit.int .i64 a).wf = true) (_ : (Lit.int .i64 d).wf = true) : Ev (fun k => impl_MostSaved.f k n es a d) (mostSavedR n es a d) := by
 unfold impl_MostSaved.f mostSavedR
 rw [Ev.bind_iff (isFire_ev n es a d), Ev.ite_iff]
 by_cases h : fireB n es a d = true
 ·obtain ⟨N, x, D, rfl, rfl, rfl, hN, hg, hx, hD⟩ := fireB_use h
  have hB := fightFire_ev (es := es) (d := D) hN hD 9 (2 ^ x) 0 (by omega) (Nat.pow_lt_pow_right (by decide) hx) (Nat.two_pow_pos N) (by omega)
  replace hB : Ev (fun k => impl_net_fightFire.f k (nets es N) ((2 ^ x : Nat) : Int) 0 D) (fgt es N D 9 (2 ^ x) 0) := hB
  rw [if_pos h, if_pos h, netOf_eq hg]
  simp only [Option.bind_some]
  rw [Ev.ite_iff, if_pos (by omega), shl_one (by omega), Ev.bind_iff hB, Ev.now_iff]
  simp only [Int.toNat_natCast]
 ·rw [if_neg h, if_neg h, Ev.now_iff]

def savedSumM (es : List S119) (n D : Nat) : Nat → Int
 | 0 => 0
 | i + 1 => savedSumM es n D i + (fgt es n D 9 (2 ^ i) 0).1

theorem savedSumM_bd {es : List S119} {n D : Nat} : ∀ i : Nat, -(i : Int) ≤ savedSumM es n D i ∧ savedSumM es n D i ≤ (n : Int) * i
 | 0 => by simp [savedSumM]
 | i + 1 => by
  have h1 := savedSumM_bd (es := es) (n := n) (D := D) i
  have h2 := fgt_bd (es := es) (n := n) (d := D) 9 (2 ^ i) 0
  have h3 : (n : Int) * ((i + 1 : Nat) : Int) = (n : Int) * i + n := by rw [Int.natCast_add, Int.mul_add];simp
  rw [savedSumM, h3]
  omega

def savedSumR (n : Int) (es : List S119) (d : Int) : Int × Bool := if (okG n es && decide (0 ≤ d ∧ d ≤ 3)) = true then (savedSumM es n.toNat d.toNat n.toNat, true) else (0, false)

theorem savedSum_step {es : List S119} {n D i : Nat} (hn : n ≤ 8) (hi : i < n) : wrap64 (savedSumM es n D i + (fgt es n D 9 (2 ^ i) 0).1) = savedSumM es n D (i + 1) := by
 have h1 := savedSumM_bd (es := es) (n := n) (D := D) i
 have h2 := fgt_bd (es := es) (n := n) (d := D) 9 (2 ^ i) 0
 have h3 : (n : Int) * (i : Int) ≤ 8 * 8 := by
  have : (n : Int) * (i : Int) = ((n * i : Nat) : Int) := by simp
  rw [this]
  have : n * i ≤ 8 * 8 := Nat.mul_le_mul hn (by omega)
  omega
 rw [w64] <;> first | rfl | omega

theorem specSavedSum_ev (n : Int) (es : List S119) (d : Int) (_ : (Lit.int .i64 d).wf = true) (he : es.length ≤ 9223372036854775807) : Ev (fun k => spec_SavedSum.f k n es d) (savedSumR n es d) := by
 unfold spec_SavedSum.f savedSumR
 rw [l2Good_eq]
 simp only [Option.bind_some, Ev.ite_iff]
 by_cases hg : okG n es = true
 case neg =>
  rw [if_neg hg, if_neg (by simp [hg]), Ev.iff_succ]
  simp only [spec_SavedSum.j0, ↓reduceIte, Ev.now_iff]
 rw [if_pos hg, l1In_eq]
 simp only [Option.bind_some]
 rw [Ev.iff_succ]
 by_cases hd : 0 ≤ d ∧ d ≤ 3
 case neg =>
  rw [if_neg (by simp [hd])]
  simp only [spec_SavedSum.j0, hd, decide_false, Bool.not_false, ↓reduceIte, Ev.now_iff]
 rw [if_pos (by simp [hg, hd])]
 simp only [spec_SavedSum.j0, hd, and_self, decide_true, Bool.not_true, Bool.false_eq_true, ↓reduceIte]
 obtain ⟨N, rfl, hN⟩ := okG_use hg
 obtain ⟨D, rfl⟩ : ∃ D : Nat, d = D := ⟨d.toNat, by omega⟩
 have hD : D ≤ 3 := by omega
 have e0 : bl N 0 = [] := List.eq_nil_iff_forall_not_mem.2 (fun x hx => by obtain ⟨i, _, h2, _⟩ := mem_bl.1 hx;simp at h2)
 simp only [Int.toNat_natCast]
 refine down N (fun i => Ev (fun k => spec_SavedSum.l0 k D (savedSumM es N D i) i N es) (savedSumM es N D N, true)) ?_ ?_ 0 (by omega)
 ·show Ev _ _
  rw [Ev.iff_succ]
  simp only [spec_SavedSum.l0, Int.lt_irrefl, ↓reduceIte, Ev.now_iff]
 ·intro i hi ih
  show Ev _ _
  rw [Ev.iff_succ]
  have h1 : (i : Int) < (N : Int) := by omega
  have hB := l8Best_ev (es := es) (d := D) hN hD he 9 (2 ^ i) 0 (by omega) (Nat.pow_lt_pow_right (by decide) hi) (Nat.two_pow_pos N) (by omega)
  rw [e0, bl_pow N hN i hi] at hB
  replace hB : Ev (fun k => spec_l8Best.f k N es [(i : Int)] [] D) ((fgt es N D 9 (2 ^ i) 0).2, (fgt es N D 9 (2 ^ i) 0).1) := hB
  simp only [spec_SavedSum.l0, h1, ↓reduceIte]
  rw [Ev.bind_iff hB]
  simp only [savedSum_step hN hi, w64_succ i (by omega)]
  exact ih

theorem implSavedSum_ev (n : Int) (es : List S119) (d : Int) (_ : (Lit.int .i64 d).wf = true) : Ev (fun k => impl_SavedSum.f k n es d) (savedSumR n es d) := by
 unfold impl_SavedSum.f savedSumR
 rw [IsGraph_eq]
 simp only [Option.bind_some, Ev.ite_iff]
 by_cases hg : okG n es = true
 case neg =>
  rw [if_neg hg, if_neg (by simp [hg]), Ev.iff_succ]
  simp only [impl_SavedSum.j0, ↓reduceIte, Ev.now_iff]
 rw [if_pos hg, within_eq]
 simp only [Option.bind_some]
 rw [Ev.iff_succ]
 by_cases hd : 0 ≤ d ∧ d ≤ 3
 case neg =>
  rw [if_neg (by simp [hd])]
  simp only [impl_SavedSum.j0, hd, decide_false, Bool.not_false, ↓reduceIte, Ev.now_iff]
 rw [if_pos (by simp [hg, hd])]
 simp only [impl_SavedSum.j0, hd, and_self, decide_true, Bool.not_true, Bool.false_eq_true, ↓reduceIte]
 obtain ⟨N, rfl, hN⟩ := okG_use hg
 obtain ⟨D, rfl⟩ : ∃ D : Nat, d = D := ⟨d.toNat, by omega⟩
 have hD : D ≤ 3 := by omega
 simp only [Int.toNat_natCast]
 refine down N (fun i => Ev (fun k => impl_SavedSum.l0 k D (savedSumM es N D i) N i N es) (savedSumM es N D N, true)) ?_ ?_ 0 (by omega)
 ·show Ev _ _
  rw [Ev.iff_succ]
  simp only [impl_SavedSum.l0, Int.lt_irrefl, ↓reduceIte, Ev.now_iff]
 ·intro i hi ih
  show Ev _ _
  rw [Ev.iff_succ]
  have h1 : (i : Int) < (N : Int) := by omega
  have h2 : (0 : Int) ≤ i := by omega
  have hB := fightFire_ev (es := es) (d := D) hN hD 9 (2 ^ i) 0 (by omega) (Nat.pow_lt_pow_right (by decide) hi) (Nat.two_pow_pos N) (by omega)
  replace hB : Ev (fun k => impl_net_fightFire.f k (nets es N) ((2 ^ i : Nat) : Int) 0 D) (fgt es N D 9 (2 ^ i) 0) := hB
  simp only [impl_SavedSum.l0, h1, ↓reduceIte, netOf_eq hg, Option.bind_some, Ev.ite_iff, h2, shl_one (show i < 62 by omega)]
  rw [Ev.bind_iff hB]
  simp only [savedSum_step hN hi, w64_succ i (by omega)]
  exact ih

def byteOk (x : Int) : Prop := 0 ≤ x ∧ x < 256

theorem u64_and255 (x : Int) : byteOk (wrap64 (Go.bits .and .u64 (IntKind.u64.wrap x / 1099511627776) 255)) := by
 have h0 : 0 ≤ IntKind.u64.wrap x ∧ IntKind.u64.wrap x < 18446744073709551616 := by rw [IntKind.wrap_u64];omega
 generalize IntKind.u64.wrap x = y at h0
 obtain ⟨m, hm⟩ : ∃ m : Nat, y / 1099511627776 = (m : Int) := ⟨(y / 1099511627776).toNat, by omega⟩
 have hm2 : m < 2 ^ 62 := by omega
 have e := (bits_nat .u64 62 (by decide) (fun n h1 h2 => by rw [IntKind.wrap_u64];omega) m 255 hm2 (by decide)).1
 rw [hm, show (255 : Int) = ((255 : Nat) : Int) from rfl, e]
 have h3 : m &&& 255 < 256 := Nat.and_lt_two_pow m (show 255 < 2 ^ 8 by decide)
 rw [w64 (by omega) (by omega)]
 constructor <;> omega

theorem next_ok {l : List Int} (hb : ∀ x ∈ l, byteOk x) {a : Int} (s : Int) {b : Nat} (h0 : 0 ≤ a) (h1 : a ≤ b) (h2 : b < 9223372036854775000) : ∃ r a' s', spec_l1Cur_next.f l a s = some (r, a', s') ∧ byteOk r ∧ 0 ≤ a' ∧ a' ≤ ((b + 1 : Nat) : Int) := by
 have hw : wrap64 (a + 1) = a + 1 := w64 (by omega) (by omega)
 unfold spec_l1Cur_next.f
 rw [hw]
 by_cases c : a < (l.length : Int)
 ·rw [if_pos c, if_pos h0]
  have hr : byteOk (wrap64 (rd l a)) := by
   obtain ⟨i, rfl⟩ : ∃ i : Nat, a = i := ⟨a.toNat, by omega⟩
   have hx := hb l[i] (List.getElem_mem (show i < l.length by omega))
   rw [rd_lt l i (by omega), w64 (by have := hx.1;omega) (by have := hx.2;omega)]
   exact hx
  by_cases g : a + 1 ≤ (l.length : Int)
  ·rw [if_pos g];exact ⟨_, _, _, rfl, hr, by omega, by omega⟩
  ·rw [if_neg g];exact ⟨_, _, _, rfl, u64_and255 _, by omega, by omega⟩
 ·rw [if_neg c]
  by_cases g : a + 1 ≤ (l.length : Int)
  ·rw [if_pos g];exact ⟨_, _, _, rfl, ⟨by decide, by decide⟩, by omega, by omega⟩
  ·rw [if_neg g];exact ⟨_, _, _, rfl, u64_and255 _, by omega, by omega⟩

theorem tmod_ok {x n : Int} (h : 0 ≤ x) (hn : 1 ≤ n) : 0 ≤ Int.tmod x n ∧ Int.tmod x n < n := by
 rw [Int.tmod_eq_emod_of_nonneg h]
 exact ⟨Int.emod_nonneg _ (by omega), Int.emod_lt_of_pos _ (by omega)⟩

theorem pick_ok {l : List Int} (hb : ∀ x ∈ l, byteOk x) {a : Int} (s : Int) {b : Nat} (n : Int) (h0 : 0 ≤ a) (h1 : a ≤ b) (h2 : b < 9223372036854774000) : ∃ r a' s', spec_l1Cur_pick.f l a s n = some (r, a', s') ∧ 0 ≤ r ∧ (1 ≤ n → r < n) ∧ 0 ≤ a' ∧ a' ≤ ((b + 2 : Nat) : Int) := by
 unfold spec_l1Cur_pick.f
 by_cases c : n ≤ 1
 ·rw [if_pos c];exact ⟨_, _, _, rfl, Int.le_refl _, fun h => by omega, h0, by omega⟩
 ·rw [if_neg c]
  obtain ⟨r, a', s', e, hr, h3, h4⟩ := next_ok hb s h0 h1 (by omega)
  rw [e]
  simp only [Option.bind_some]
  by_cases g : n > 200
  ·rw [if_pos g]
   obtain ⟨r2, a2, s2, e2, hr2, h5, h6⟩ := next_ok hb s' h3 h4 (by omega)
   rw [e2]
   simp only [Option.bind_some]
   rw [if_neg (by omega)]
   have hr1 := hr.1;have hr3 := hr.2;have hr4 := hr2.1;have hr5 := hr2.2
   have hw : wrap64 (r * 256) = r * 256 := w64 (by omega) (by omega)
   have hw2 : wrap64 (r * 256 + r2) = r * 256 + r2 := w64 (by omega) (by omega)
   rw [hw, hw2]
   have := tmod_ok (x := r * 256 + r2) (n := n) (by omega) (by omega)
   exact ⟨_, _, _, rfl, this.1, fun _ => this.2, h5, by omega⟩
  ·rw [if_neg g, if_neg (by omega)]
   have := tmod_ok (x := r) (n := n) hr.1 (by omega)
   exact ⟨_, _, _, rfl, this.1, fun _ => this.2, h3, by omega⟩

theorem among_ok {l : List Int} (hb : ∀ x ∈ l, byteOk x) {a : Int} (s : Int) {b : Nat} (m : List Int) (hm : m ≠ []) (h0 : 0 ≤ a) (h1 : a ≤ b) (h2 : b < 9223372036854774000) : ∃ r a' s', spec_l1Cur_among.f l a s m = some (r, a', s') ∧ r ∈ m ∧ 0 ≤ a' ∧ a' ≤ ((b + 2 : Nat) : Int) := by
 have hl := List.length_pos_iff.2 hm
 obtain ⟨r, a', s', e, hr, h3, h4, h5⟩ := pick_ok hb s (m.length : Int) h0 h1 h2
 have h3' := h3 (by omega)
 unfold spec_l1Cur_among.f
 rw [e]
 simp only [Option.bind_some]
 rw [if_pos hr, if_pos h3']
 obtain ⟨i, rfl⟩ : ∃ i : Nat, r = i := ⟨r.toNat, by omega⟩
 rw [rd_lt m i (by omega)]
 exact ⟨_, _, _, rfl, List.getElem_mem _, h4, h5⟩

theorem one_ok {l : List Int} (hb : ∀ x ∈ l, byteOk x) {a : Int} (s : Int) {b : Nat} (n : Int) (h0 : 0 ≤ a) (h1 : a ≤ b) (h2 : b < 9223372036854774000) : ∃ r a' s', spec_l1Cur_one.f l a s n = some (r, a', s') ∧ 0 ≤ a' ∧ a' ≤ ((b + 2 : Nat) : Int) := by
 obtain ⟨r, a', s', e, _, _, h4, h5⟩ := pick_ok hb s n h0 h1 h2
 unfold spec_l1Cur_one.f
 rw [e]
 exact ⟨_, _, _, rfl, h4, h5⟩

theorem l2Put_ok (l : List S119) (x y : Int) (hl : l.length ≤ 8000000000000) : ∃ m, Ev (fun k => spec_l2Put.f k l x y) m ∧ m.length = l.length + 1 := by
 have H := down l.length (fun i => ∃ m, Ev (fun k => spec_l2Put.l0 k l i x y) m ∧ m.length = l.length + 1) ?_ ?_ 0 (by omega)
 ·exact H
 ·refine ⟨([] ++ l.take ((l.length : Int)).toNat) ++ [⟨x, y⟩] ++ l.drop ((l.length : Int)).toNat, ?_, by simp⟩
  show Ev _ _
  rw [Ev.iff_succ]
  have g1 : (([] : List S119).length + (l.take l.length).length < 8796093022208) = True := eq_true (by simp;omega)
  simp only [spec_l2Put.l0, Int.lt_irrefl, ↓reduceIte, Option.bind_some, Int.toNat_natCast, g1, Int.le_refl, show (0 : Int) ≤ (l.length : Int) by omega, List.nil_append, List.take_length, List.drop_length, List.append_nil, List.length_append, List.length_cons, List.length_nil]
  rw [Ev.ite_iff, if_pos (by omega), Ev.ite_iff, if_pos (by omega), Ev.ite_iff, if_pos (by omega), Ev.now_iff]
 ·rintro i hi ⟨m, ih, hm⟩
  have h1 : (i : Int) < l.length := by omega
  have h2 : (0 : Int) ≤ i := by omega
  have hb : ∃ b, spec_l2Before.f (rd_T119 l (i : Int)).f0 (rd_T119 l (i : Int)).f1 x y = some b := by
   unfold spec_l2Before.f
   split
   ·exact ⟨_, rfl⟩
   ·split <;> exact ⟨_, rfl⟩
  obtain ⟨b, hb⟩ := hb
  cases b with
  | true =>
   refine ⟨m, ?_, hm⟩
   show Ev _ _
   rw [Ev.iff_succ]
   simp only [spec_l2Put.l0, h1, h2, ↓reduceIte, hb, Option.bind_some, w64_succ i (show i < 9223372036854775807 by omega)]
   exact ih
  | false =>
   refine ⟨l.take i ++ [⟨x, y⟩] ++ l.drop i, ?_, by simp;omega⟩
   show Ev _ _
   rw [Ev.iff_succ]
   have h3 : (i : Int) ≤ l.length := by omega
   simp only [spec_l2Put.l0, h1, h2, h3, ↓reduceIte, hb, Option.bind_some, Bool.false_eq_true, Int.toNat_natCast, List.nil_append, List.length_append, List.length_cons, List.length_nil, List.length_take, List.length_drop]
   rw [Ev.ite_iff, if_pos (by omega), Ev.ite_iff, if_pos (by omega), Ev.ite_iff, if_pos (by omega), Ev.now_iff]

theorem l2Path_ok (n : Int) (hn : n ≤ 8) : ∃ m, Ev (fun k => spec_l2Path.f k n) (n, m) ∧ m.length ≤ 8 := by
 have H : ∀ (d x : Nat) (l : List S119), n ≤ x + d → l.length ≤ x → x ≤ 8 → ∃ m, Ev (fun k => spec_l2Path.l0 k n (x : Int) n l) (n, m) ∧ m.length ≤ 8 := by
  intro d
  induction d with
  | zero =>
   intro x l h1 h2 h3
   refine ⟨l, ?_, by omega⟩
   rw [Ev.iff_succ]
   simp only [spec_l2Path.l0, w64_succ x (show x < 9223372036854775807 by omega)]
   rw [Ev.ite_iff, if_neg (by omega), Ev.now_iff]
  | succ d ih =>
   intro x l h1 h2 h3
   by_cases c : ((x + 1 : Nat) : Int) < n
   ·obtain ⟨m, h4, h5⟩ := ih (x + 1) (l ++ [⟨(x : Int), ((x + 1 : Nat) : Int)⟩]) (by omega) (by simp;omega) (by omega)
    refine ⟨m, ?_, h5⟩
    rw [Ev.iff_succ]
    simp only [spec_l2Path.l0, w64_succ x (show x < 9223372036854775807 by omega)]
    rw [Ev.ite_iff, if_pos c, Ev.ite_iff, if_pos (by omega)]
    exact h4
   ·refine ⟨l, ?_, by omega⟩
    rw [Ev.iff_succ]
    simp only [spec_l2Path.l0, w64_succ x (show x < 9223372036854775807 by omega)]
    rw [Ev.ite_iff, if_neg c, Ev.now_iff]
 exact H 8 0 [] (by omega) (by simp) (by omega)

theorem l2Cycle_ok (n : Int) (hn : n ≤ 8) : ∃ m, Ev (fun k => spec_l2Cycle.f k n) (n, m) ∧ m.length ≤ 9 := by
 obtain ⟨m, h1, h2⟩ := l2Path_ok n hn
 obtain ⟨m2, h3, h4⟩ := l2Put_ok m 0 (wrap64 (n - 1)) (by omega)
 refine ⟨m2, ?_, by omega⟩
 unfold spec_l2Cycle.f
 rw [Ev.bind_iff h1, Ev.bind_iff h3, Ev.now_iff]

theorem l2Complete_ok (n : Int) (hn : n ≤ 8) : ∃ m, Ev (fun k => spec_l2Complete.f k n) (n, m) ∧ m.length ≤ 100 := by
 have inner : ∀ (x : Nat), x ≤ 8 → (∀ l : List S119, l.length ≤ 9 * (x + 1) → ∃ m, Ev (fun k => spec_l2Complete.l0 k n ((x + 1 : Nat) : Int) n l) (n, m) ∧ m.length ≤ 100) →
   ∀ (d y : Nat) (l : List S119), n ≤ y + d → y ≤ 9 → l.length ≤ 9 * x + y → ∃ m, Ev (fun k => spec_l2Complete.l1 k n (x : Int) (y : Int) n l) (n, m) ∧ m.length ≤ 100 := by
  intro x hx ho d
  induction d with
  | zero =>
   intro y l h1 h2 h3
   obtain ⟨m, h4, h5⟩ := ho l (by omega)
   refine ⟨m, ?_, h5⟩
   rw [Ev.iff_succ]
   simp only [spec_l2Complete.l1, w64_succ x (show x < 9223372036854775807 by omega)]
   rw [Ev.ite_iff, if_neg (by omega)]
   exact h4
  | succ d ih =>
   intro y l h1 h2 h3
   by_cases c : (y : Int) < n
   ·obtain ⟨m, h4, h5⟩ := ih (y + 1) (l ++ [⟨(x : Int), (y : Int)⟩]) (by omega) (by omega) (by simp;omega)
    refine ⟨m, ?_, h5⟩
    rw [Ev.iff_succ]
    simp only [spec_l2Complete.l1, w64_succ y (show y < 9223372036854775807 by omega)]
    rw [Ev.ite_iff, if_pos c, Ev.ite_iff, if_pos (by omega)]
    exact h4
   ·obtain ⟨m, h4, h5⟩ := ho l (by omega)
    refine ⟨m, ?_, h5⟩
    rw [Ev.iff_succ]
    simp only [spec_l2Complete.l1, w64_succ x (show x < 9223372036854775807 by omega)]
    rw [Ev.ite_iff, if_neg c]
    exact h4
 have H : ∀ (d x : Nat) (l : List S119), n ≤ x + d → x ≤ 8 → l.length ≤ 9 * x → ∃ m, Ev (fun k => spec_l2Complete.l0 k n (x : Int) n l) (n, m) ∧ m.length ≤ 100 := by
  intro d
  induction d with
  | zero =>
   intro x l h1 h2 h3
   refine ⟨l, ?_, by omega⟩
   rw [Ev.iff_succ]
   simp only [spec_l2Complete.l0]
   rw [Ev.ite_iff, if_neg (by omega), Ev.now_iff]
  | succ d ih =>
   intro x l h1 h2 h3
   by_cases c : (x : Int) < n
   ·obtain ⟨m, h4, h5⟩ := inner x h2 (fun l' hl' => by
     by_cases e : x + 1 ≤ 8
     ·exact ih (x + 1) l' (by omega) e hl'
     ·refine ⟨l', ?_, by omega⟩
      rw [Ev.iff_succ]
      simp only [spec_l2Complete.l0]
      rw [Ev.ite_iff, if_neg (by omega), Ev.now_iff]) 8 (x + 1) l (by omega) (by omega) (by omega)
    refine ⟨m, ?_, h5⟩
    rw [Ev.iff_succ]
    simp only [spec_l2Complete.l0, w64_succ x (show x < 9223372036854775807 by omega)]
    rw [Ev.ite_iff, if_pos c]
    exact h4
   ·refine ⟨l, ?_, by omega⟩
    rw [Ev.iff_succ]
    simp only [spec_l2Complete.l0]
    rw [Ev.ite_iff, if_neg c, Ev.now_iff]
 exact H 8 0 [] (by omega) (by omega) (by simp)

theorem marred_ok {l : List Int} (hb : ∀ x ∈ l, byteOk x) {a : Int} (s : Int) {b : Nat} (n : Int) (es : List S119) (h0 : 0 ≤ a) (h1 : a ≤ b) (h2 : b < 9223372036854770000) (he : es.length ≤ 1000) :
  ∃ n' es' a' s', spec_l1Cur_marred.f l a s n es = some (n', es', a', s') ∧ es'.length ≤ 1001 ∧ 0 ≤ a' ∧ a' ≤ ((b + 6 : Nat) : Int) := by
 obtain ⟨r, a1, s1, e, hr, _, h4, h5⟩ := pick_ok hb s 50 h0 h1 (by omega)
 unfold spec_l1Cur_marred.f
 rw [e]
 simp only [Option.bind_some]
 by_cases c0 : r = 0
 ·rw [if_pos c0]
  obtain ⟨r2, a2, s2, e2, _, h6, h7⟩ := among_ok hb s1 [(-1), 8, 9, 0, 4611686018427387904] (by simp) h4 h5 (by omega)
  rw [e2]
  simp only [Option.bind_some]
  exact ⟨_, _, _, _, rfl, by omega, h6, by omega⟩
 ·rw [if_neg c0]
  by_cases c1 : r = 1
  ·rw [if_pos c1]
   obtain ⟨r2, a2, s2, e2, _, _, h6, h7⟩ := pick_ok hb s1 4 h4 h5 (by omega)
   rw [e2]
   simp only [Option.bind_some]
   obtain ⟨r3, a3, s3, e3, _, _, h8, h9⟩ := pick_ok hb s2 9 h6 h7 (by omega)
   rw [e3]
   simp only [Option.bind_some]
   rw [if_pos (by omega)]
   exact ⟨_, _, _, _, rfl, by simp;omega, h8, by omega⟩
  ·rw [if_neg c1]
   by_cases c2 : r = 2
   ·rw [if_pos c2]
    by_cases c3 : (es.length : Int) > 0
    ·rw [if_pos c3]
     obtain ⟨r2, a2, s2, e2, g1, g2, h6, h7⟩ := pick_ok hb s1 (es.length : Int) h4 h5 (by omega)
     rw [e2]
     simp only [Option.bind_some]
     rw [if_pos g1, if_pos (g2 (by omega)), if_pos (by omega)]
     exact ⟨_, _, _, _, rfl, by simp;omega, h6, by omega⟩
    ·rw [if_neg c3];exact ⟨_, _, _, _, rfl, by omega, h4, by omega⟩
   ·rw [if_neg c2];exact ⟨_, _, _, _, rfl, by omega, h4, by omega⟩

def Drawn (l : List Int) (b : Nat) (g : Nat → Option (Int × (List S119) × Int × Int)) : Prop := ∃ n' es' a' s', Ev g (n', es', a', s') ∧ es'.length ≤ 1001 ∧ 0 ≤ a' ∧ a' ≤ ((b : Nat) : Int)

end Go.Proofs.Ytmokkhfmbenleaa.QSavedSum
