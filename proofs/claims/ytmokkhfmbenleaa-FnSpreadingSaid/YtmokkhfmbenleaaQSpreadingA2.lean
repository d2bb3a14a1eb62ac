import Derived.Test.YtmokkhfmbenleaaQSpreading0
import Derived.Test.YtmokkhfmbenleaaQSpreading1
import Derived.Test.YtmokkhfmbenleaaQSpreading11
import Derived.Test.YtmokkhfmbenleaaQSpreading2
import Derived.Test.YtmokkhfmbenleaaQSpreading7
import Derived.Test.YtmokkhfmbenleaaQSpreading8
import Derived.Test.YtmokkhfmbenleaaQSpreadingA1
namespace Go.Proofs.Ytmokkhfmbenleaa.QSpreading
open Go.RowKit Go.Proofs.YtmokkhfmbenleaaW.PrintWords Go.Proofs.YtmokkhfmbenleaaW.PrintLast Go.Proofs.YtmokkhfmbenleaaW.PrintMore
attribute [local go_sem] max2_int min2_int max_two min_two max_three min_three max_four min_four   -- for this text's walks alone
set_option linter.unusedVariables false
set_option linter.unusedSimpArgs false
theorem sweeps_least {es : List S119} {n : Nat} {r : Int} (hn : n ≤ 8) : ∀ (j m : Nat), m < 2 ^ n → n ≤ (bl n m).length + j → leastR es n r m (sweeps es n r j m)
 | 0, m, hm, hj => by
  have hf : m = 2 ^ n - 1 := (bl_len_full n hn m hm).1 (by have := bl_len_le n m;omega)
  refine ⟨hm, subM_refl _ _, fun x hx _ => ?_, fun d _ hs _ => hs⟩
  rw [sweeps, hf, Nat.testBit_two_pow_sub_one];simp [hx]
 | j + 1, m, hm, hj => by
  rw [sweeps]
  have h1 := sweep_lt (es := es) (r := r) hm n (Nat.le_refl _)
  have h2 := sweep_sub (es := es) (n := n) (r := r) (m := m) n
  by_cases c : sweep es n r n m = m
  ·rw [c]
   have hcl := closed_of_sweep c
   have hfix : ∀ j, sweeps es n r j m = m := fun j => by
    induction j with
    | zero => rfl
    | succ j ih => rw [sweeps, c];exact ih
   rw [hfix]
   exact ⟨hm, subM_refl _ _, hcl, fun d _ hs _ => hs⟩
  ·have h3 : (bl n m).length + 1 ≤ (bl n (sweep es n r n m)).length := by
    have h4 := len_sub h2
    by_cases e : (bl n (sweep es n r n m)).length ≤ (bl n m).length
    ·exact absurd (sub_len hm h1 h2 e) c
    ·omega
   obtain ⟨g1, g2, g3, g4⟩ := sweeps_least hn j _ h1 (by omega)
   exact ⟨g1, subM_trans h2 g2, g3, fun d hd hs hc => g4 d hd (sweep_in hs hc n (Nat.le_refl _)) hc⟩

theorem l8Spread_ev (es : List S119) (n m : Nat) (r : Int) (hn : n ≤ 8) (hm : m < 2 ^ n) (hl : es.length ≤ 9223372036854775807) : Ev (fun k => spec_l8Spread.f k n es (bl n m) r) (bl n (spreadM es n r m)) := by
 have hb := bl_len_le n m
 have he : sweeps es n r n m = spreadM es n r m := leastR_unique (sweeps_least hn n m hm (by omega)) (spreadM_least hm)
 unfold spec_l8Spread.f
 rw [l1Own_eq (by omega), ← he]
 simp only [Option.bind_some]
 have H := down n (fun i => ∀ m : Nat, m < 2 ^ n → Ev (fun k => spec_l8Spread.l0 k r (bl n m) i n es) (bl n (sweeps es n r (n - i) m))) ?_ ?_ 0 (by omega) m hm
 ·simpa using H
 ·intro m _
  rw [Ev.iff_succ]
  simp only [spec_l8Spread.l0, Int.lt_irrefl, ↓reduceIte, Ev.now_iff, Nat.sub_self, sweeps]
 ·intro i hi ih m hm
  rw [Ev.iff_succ]
  have h1 : (i : Int) < (n : Int) := by omega
  simp only [spec_l8Spread.l0, h1, ↓reduceIte]
  rw [show n - i = (n - (i + 1)) + 1 by omega, sweeps]
  have G := down n (fun x => Ev (fun k => spec_l8Spread.l1 k r (bl n (sweep es n r x m)) i x n es) (bl n (sweeps es n r (n - (i + 1)) (sweep es n r n m)))) ?_ ?_ 0 (by omega)
  ·simpa [sweep] using G
  ·show Ev _ _
   rw [Ev.iff_succ]
   simp only [spec_l8Spread.l1, Int.lt_irrefl, ↓reduceIte, w64_succ i (by omega)]
   exact ih _ (sweep_lt hm n (Nat.le_refl _))
  ·intro x hx jh
   show Ev _ _
   rw [Ev.iff_succ]
   have g1 : (x : Int) < (n : Int) := by omega
   have hbx := bl_len_le n (sweep es n r x m)
   rw [sweep_succ] at jh
   generalize sweep es n r x m = acc at hbx jh ⊢
   unfold swStep at jh
   simp only [spec_l8Spread.l1, Ev.ite_iff, g1, ↓reduceIte, w64_succ x (by omega), Ev.bind_iff (l8Inside_ev n es (bl n acc) x (by omega) hl), inside_cnt, l1Put_bl hn hx, Option.bind_some]
   by_cases c : (cntM es n acc x : Int) ≥ r
   ·rw [if_pos c];rw [if_pos c] at jh;exact jh
   ·rw [if_neg c];rw [if_neg c] at jh;exact jh

def setB (n : Int) (es : List S119) (l : List Int) : Bool := okG n es && (allIn 0 (wrap64 (n - 1)) l && ascB none l)

theorem setB_use {n : Int} {es : List S119} {l : List Int} (h : setB n es l = true) : ∃ N m : Nat, n = N ∧ N ≤ 8 ∧ okG N es = true ∧ (∀ e ∈ es, edgeOk N e = true) ∧ m < 2 ^ N ∧ l = bl N m ∧ mL l = m := by
 simp only [setB, Bool.and_eq_true] at h
 obtain ⟨h1, h2, h3⟩ := h
 have h4 := h1
 simp only [okG, Bool.and_eq_true, decide_eq_true_eq] at h4
 obtain ⟨N, rfl⟩ : ∃ N : Nat, n = N := ⟨n.toNat, by omega⟩
 rw [w64 (by omega) (by omega)] at h2
 have h5 : ∀ x ∈ l, 0 ≤ x ∧ x < (N : Int) := fun x hx => by
  simp only [allIn, List.all_eq_true, decide_eq_true_eq] at h2
  have := h2 x hx
  omega
 exact ⟨N, mL l, rfl, by omega, h1, goodL_all h4.2, mL_lt h5, bl_of_asc h2 h3, rfl⟩

theorem l2Good_eq (n : Int) (es : List S119) : spec_l2Good.f n es = some (okG n es) := rfl

theorem IsGraph_eq (n : Int) (es : List S119) : impl_IsGraph.f n es = some (okG n es) := rfl

theorem l2Set_ev (n : Int) (es : List S119) (l : List Int) (hl : l.length ≤ 9223372036854775807) : Ev (fun k => spec_l2Set.f k n es l) (allIn 0 (wrap64 (n - 1)) l && ascB none l) := by
 unfold spec_l2Set.f
 rw [Ev.bind_iff (l1Rising_ev l 0 _ hl), Ev.now_iff]

theorem hasNodes_ev (n : Int) (es : List S119) (l : List Int) (hl : l.length ≤ 9223372036854775807) : Ev (fun k => impl_hasNodes.f k n es l) (okG n es && allIn 0 (wrap64 (n - 1)) l) := by
 unfold impl_hasNodes.f
 rw [IsGraph_eq]
 simp only [Option.bind_some, Ev.ite_iff]
 split
 ·rename_i h
  rw [Ev.bind_iff (allWithin_ev l 0 _ hl), Ev.now_iff, h, Bool.true_and]
 ·rename_i h
  rw [Ev.now_iff, Bool.eq_false_iff.2 h, Bool.false_and]

theorem isSet_ev (n : Int) (es : List S119) (l : List Int) (hl : l.length ≤ 9223372036854775807) : Ev (fun k => impl_isSet.f k n es l) (setB n es l) := by
 unfold impl_isSet.f
 rw [Ev.bind_iff (hasNodes_ev n es l hl), Ev.ite_iff]
 unfold setB
 split
 ·rename_i h
  rw [Ev.bind_iff (increasing_ev l hl), Ev.now_iff, ← Bool.and_assoc, h, Bool.true_and]
 ·rename_i h
  rw [Ev.now_iff, ← Bool.and_assoc, Bool.eq_false_iff.2 h, Bool.false_and]

theorem maskOf_ev (l : List Int) (hl : l.length ≤ 9223372036854775807) (h : ∀ x ∈ l, 0 ≤ x ∧ x < 8) : Ev (fun k => impl_maskOf.f k l) ((mL l : Nat) : Int) := by
 have hm : ∀ s : List Int, (∀ x ∈ s, 0 ≤ x ∧ x < 8) → mL s < 2 ^ 8 := fun s hs => mL_lt (n := 8) hs
 have H := down l.length (fun i => ∀ acc : Nat, acc < 2 ^ 8 → Ev (fun k => impl_maskOf.l0 k acc l l.length i) ((acc ||| mL (l.drop i) : Nat) : Int)) ?_ ?_ 0 (by omega) 0 (by decide)
 ·simpa [impl_maskOf.f] using H
 ·intro acc _
  rw [Ev.iff_succ]
  simp [impl_maskOf.l0, Ev.now_iff, mL]
 ·intro i hi ih acc ha
  rw [Ev.iff_succ]
  have h1 : (i : Int) < l.length := by omega
  have h2 : (0 : Int) ≤ i := by omega
  have hx := h l[i] (List.getElem_mem hi)
  obtain ⟨a, s, e1, e2, e3, e4⟩ := dropc l i hi
  rw [e4] at hx
  obtain ⟨x, rfl⟩ : ∃ x : Nat, a = x := ⟨a.toNat, by omega⟩
  have hp : 2 ^ x < 2 ^ 8 := Nat.pow_lt_pow_right (by decide) (by omega)
  have h62 : ∀ {c : Nat}, c < 2 ^ 8 → c < 2 ^ 62 := fun h => by omega
  simp only [impl_maskOf.l0, Ev.ite_iff, h1, h2, hx.1, ↓reduceIte, w64_succ i (by omega), e3]
  rw [shl_one (by omega), gor _ _ (h62 ha) (h62 hp)]
  have := ih (acc ||| 2 ^ x) (Nat.or_lt_two_pow ha hp)
  rw [e2] at this
  rw [e1, mL, Int.toNat_natCast, ← Nat.or_assoc]
  exact this

theorem all_eq {es : List S119} {n : Nat} (h : n ≤ 8) : impl_net_all.f (nets es n) = some ((2 ^ n - 1 : Nat) : Int) := by
 unfold impl_net_all.f
 rw [nets_len, mask_all n h]

theorem bl_range {n m : Nat} (hn : n ≤ 8) : ∀ x ∈ bl n m, 0 ≤ x ∧ x < 8 := fun x hx => by
 obtain ⟨i, h1, _, rfl⟩ := mem_bl.1 hx;omega

theorem setOf_ev (n m : Nat) (hn : n ≤ 8) (hm : m < 2 ^ n) : Ev (fun k => impl_setOf.f k m) (bl n m) := by
 obtain ⟨t, ht⟩ : ∃ t, t = 9 := ⟨_, rfl⟩
 have hs : ∀ i, n ≤ i → m >>> i = 0 := fun i hi => by
  rw [Nat.shiftRight_eq_div_pow];exact Nat.div_eq_of_lt (Nat.lt_of_lt_of_le hm (Nat.pow_le_pow_right (by decide) hi))
 have H := down n (fun i => Ev (fun k => impl_setOf.l0 k m (bl i m) i) (bl n m)) ?_ ?_ 0 (by omega)
 ·simpa [impl_setOf.f, bl] using H
 ·show Ev _ _
  rw [Ev.iff_succ]
  have h2 : (0 : Int) ≤ n := by omega
  simp [impl_setOf.l0, Ev.now_iff, h2, shr_nat m n (by omega), hs n (Nat.le_refl _)]
 ·intro i hi ih
  show Ev _ _
  rw [Ev.iff_succ]
  have h2 : (0 : Int) ≤ i := by omega
  have h3 := bl_len_le i m
  have h4 : (bl i m).length < 17592186044416 := by omega
  have e3 := shr_bit m i (lt62 hn hm) (by omega)
  rw [bl_step hi] at ih
  simp only [impl_setOf.l0, Ev.ite_iff, h2, h4, ↓reduceIte, w64_succ i (by omega), e3]
  by_cases c : shr .i64 (m : Int) (i : Int) = 0
  ·rw [if_pos c, Ev.now_iff]
   rw [shr_nat m i (by omega)] at c
   have c' : m >>> i = 0 := by omega
   have hb : ∀ j, i ≤ j → m.testBit j = false := fun j hj => by
    have : (m >>> i).testBit (j - i) = false := by rw [c'];simp
    rw [Nat.testBit_shiftRight] at this
    rwa [show i + (j - i) = j by omega] at this
   refine asc_ext (bl_asc _ _) (bl_asc _ _) (fun x => ?_)
   rw [mem_bl, mem_bl]
   constructor
   ·rintro ⟨j, h1, h2, rfl⟩;exact ⟨j, by omega, h2, rfl⟩
   ·rintro ⟨j, h1, h2, rfl⟩
    refine ⟨j, ?_, h2, rfl⟩
    by_cases hj : i ≤ j
    ·rw [hb j hj] at h2;cases h2
    ·omega
  ·rw [if_neg c]
   cases c2 : m.testBit i
   ·rw [c2] at ih;simpa using ih
   ·rw [c2] at ih;simpa using ih

def spreadOfR (n : Int) (es : List S119) (l : List Int) (r : Int) : List Int × Bool := if setB n es l = true ∧ (1 ≤ r ∧ r ≤ 8) then (bl n.toNat (spreadM es n.toNat r (mL l)), true) else ([], false)

theorem spreadOfR_len (n : Int) (es : List S119) (l : List Int) (r : Int) : (spreadOfR n es l r).1.length ≤ 1048576 := by
 unfold spreadOfR
 split
 ·rename_i h
  obtain ⟨N, m, rfl, hN, _⟩ := setB_use h.1
  have := bl_len_le N (spreadM es N r (mL l))
  simp only [Int.toNat_natCast];omega
 ·simp

theorem specSpreadOf_ev (n : Int) (es : List S119) (l : List Int) (r : Int) (hl : l.length ≤ 9223372036854775807) (_ : (Lit.int .i64 r).wf = true) (he : es.length ≤ 9223372036854775807) : Ev (fun k => spec_SpreadOf.f k n es l r) (spreadOfR n es l r) := by
 unfold spec_SpreadOf.f spreadOfR
 rw [l2Good_eq]
 simp only [Option.bind_some, Ev.ite_iff, Ev.bind_iff (l2Set_ev n es l hl), Ev.now_iff, spec_l8Number.f, l1In_eq, decide_eq_true_eq]
 by_cases h1 : okG n es = true
 ·by_cases h2 : (allIn 0 (wrap64 (n - 1)) l && ascB none l) = true
  ·have h : setB n es l = true := by simp only [setB, h1, h2, Bool.and_self]
   simp only [h, h1, h2, ↓reduceIte, true_and]
   by_cases h3 : 1 ≤ r ∧ r ≤ 8
   ·obtain ⟨N, m, rfl, hN, hg, hok, hm, rfl, hml⟩ := setB_use h
    rw [if_pos h3, if_pos h3, Ev.bind_iff (l8Spread_ev es N m r hN hm he), Ev.now_iff, hml, Int.toNat_natCast]
   ·rw [if_neg h3, if_neg h3]
  ·have h : ¬ setB n es l = true := by simp only [setB, h1, h2, Bool.true_and, Bool.false_eq_true, not_false_eq_true]
   simp only [h, h1, h2, Bool.false_eq_true, ↓reduceIte, false_and]
 ·have h : ¬ setB n es l = true := by simp only [setB, h1, Bool.false_and, Bool.false_eq_true, not_false_eq_true]
  simp only [h, h1, Bool.false_eq_true, ↓reduceIte, false_and]

theorem implSpreadOf_ev (n : Int) (es : List S119) (l : List Int) (r : Int) (hl : l.length ≤ 9223372036854775807) (_ : (Lit.int .i64 r).wf = true) : Ev (fun k => impl_SpreadOf.f k n es l r) (spreadOfR n es l r) := by
 unfold impl_SpreadOf.f spreadOfR
 rw [Ev.bind_iff (isSet_ev n es l hl), Ev.ite_iff]
 by_cases h : setB n es l = true
 ·obtain ⟨N, m, rfl, hN, hg, hok, hm, hlm, hml⟩ := setB_use h
  have hr : ∀ x ∈ l, 0 ≤ x ∧ x < 8 := by rw [hlm];exact bl_range hN
  rw [if_pos h, within_eq]
  simp only [Option.bind_some, h, true_and]
  rw [Ev.iff_succ]
  simp only [impl_SpreadOf.j0, Ev.ite_iff, netOf_eq hg, Option.bind_some, Bool.not_eq_true', decide_eq_false_iff_not]
  by_cases h3 : 1 ≤ r ∧ r ≤ 8
  ·rw [if_neg (by simp [h3]), if_pos h3, Ev.bind_iff (maskOf_ev l hl hr), hml, Ev.bind_iff (spread_ev es N r hN m hm), Ev.bind_iff (setOf_ev N _ hN (spreadM_least hm).1), Ev.now_iff, Int.toNat_natCast]
  ·rw [if_pos h3, if_neg h3, Ev.now_iff]
 ·rw [if_neg h, Ev.iff_succ]
  simp only [impl_SpreadOf.j0, ↓reduceIte, Ev.now_iff, h, false_and, Bool.false_eq_true]

theorem l2Bits_ev (n m : Nat) (hn : n ≤ 8) (hm : m < 2 ^ n) : Ev (fun k => spec_l2Bits.f k n m) (bl n m) := by
 have H := down n (fun i => Ev (fun k => spec_l2Bits.l0 k n m (bl i m) i) (bl n m)) ?_ ?_ 0 (by omega)
 ·simpa [spec_l2Bits.f, bl] using H
 ·show Ev _ _
  rw [Ev.iff_succ]
  simp [spec_l2Bits.l0, Ev.now_iff]
 ·intro i hi ih
  show Ev _ _
  rw [Ev.iff_succ]
  have h1 : (i : Int) < (n : Int) := by omega
  have h2 : (0 : Int) ≤ i := by omega
  have h3 := bl_len_le i m
  have h4 : (bl i m).length < 17592186044416 := by omega
  have e3 := shr_bit m i (lt62 hn hm) (by omega)
  rw [bl_step hi] at ih
  simp only [spec_l2Bits.l0, Ev.ite_iff, h1, h2, h4, ↓reduceIte, w64_succ i (by omega), e3]
  cases c : m.testBit i
  ·rw [c] at ih;simpa using ih
  ·rw [c] at ih;simpa using ih

def lexLt : List Int → List Int → Bool
 | a :: s, b :: t => if a = b then lexLt s t else decide (a < b)
 | _, _ => false

theorem lexLt_nil (l : List Int) : lexLt [] l = false := by cases l <;> rfl

theorem lexLt_cons (a b : Int) (s t : List Int) : lexLt (a :: s) (b :: t) = if a = b then lexLt s t else decide (a < b) := rfl

theorem l4Less_ev (l m : List Int) (he : l.length = m.length) (hl : l.length ≤ 9223372036854775806) : Ev (fun k => spec_l4Less.f k l m) (lexLt l m) := by
 have H := down l.length (fun i => Ev (fun k => spec_l4Less.l0 k l m i) (lexLt (l.drop i) (m.drop i))) ?_ ?_ 0 (by omega)
 ·simpa [spec_l4Less.f] using H
 ·show Ev _ _
  rw [Ev.iff_succ]
  simp only [spec_l4Less.l0, Int.lt_irrefl, ↓reduceIte, Ev.now_iff, List.drop_length, lexLt_nil]
 ·intro i hi ih
  show Ev _ _
  rw [Ev.iff_succ]
  have h1 : (i : Int) < l.length := by omega
  have h1' : (i : Int) < m.length := by omega
  have h2 : (0 : Int) ≤ i := by omega
  simp only [spec_l4Less.l0, Ev.ite_iff, h1, h1', h2, ↓reduceIte, w64_succ i (by omega), rd_lt l i hi, rd_lt m i (by omega), Ev.now_iff, List.drop_eq_getElem_cons hi, List.drop_eq_getElem_cons (show i < m.length by omega), lexLt_cons]
  by_cases c : l[i] = m[i]'(by omega)
  ·simp only [c, ↓reduceIte];exact ih
  ·simp only [c, ↓reduceIte]

theorem cmpInt_eq (a b : Int) : cmp_Compare_int.f a b = some (if a < b then -1 else if a > b then 1 else 0) := by
 simp only [cmp_Compare_int.f, cmp_isNaN_int.f, bne_self_eq_false, Option.bind_some, Bool.false_eq_true, ↓reduceIte]
 split
 ·rfl
 ·split <;> rfl

def cmpL : List Int → List Int → Int
 | a :: s, b :: t => if a = b then cmpL s t else if a < b then -1 else 1
 | _, _ => 0

theorem cmpL_cons (a b : Int) (s t : List Int) : cmpL (a :: s) (b :: t) = if a = b then cmpL s t else if a < b then -1 else 1 := rfl

theorem cmpL_lt : ∀ (l m : List Int), cmpL l m < 0 ↔ lexLt l m = true
 | [], _ => by simp [cmpL, lexLt]
 | _ :: _, [] => by simp [cmpL, lexLt]
 | a :: s, b :: t => by
  rw [cmpL_cons, lexLt_cons]
  by_cases e : a = b
  ·rw [if_pos e, if_pos e];exact cmpL_lt s t
  ·rw [if_neg e, if_neg e]
   by_cases g : a < b
   ·rw [if_pos g];simp [g]
   ·rw [if_neg g];simp [g]

theorem sliceCompare_ev (l m : List Int) (he : l.length = m.length) (hl : l.length ≤ 9223372036854775806) : Ev (fun k => slices_Compare_int_int.f k l m) (cmpL l m) := by
 have H := down l.length (fun i => Ev (fun k => slices_Compare_int_int.l0 k l m l l.length i) (cmpL (l.drop i) (m.drop i))) ?_ ?_ 0 (by omega)
 ·exact H
 ·show Ev _ _
  rw [Ev.iff_succ]
  simp only [slices_Compare_int_int.l0, Int.lt_irrefl, ↓reduceIte, Ev.ite_iff, Ev.now_iff]
  rw [if_neg (by omega), List.drop_length];rfl
 ·intro i hi ih
  show Ev _ _
  rw [Ev.iff_succ]
  have h1 : (i : Int) < l.length := by omega
  have h1' : (i : Int) < m.length := by omega
  have h1n : ¬ (i : Int) ≥ m.length := by omega
  have h2 : (0 : Int) ≤ i := by omega
  have e1 := rd_lt l i hi
  have e2 := rd_lt m i (by omega)
  rw [List.drop_eq_getElem_cons hi, List.drop_eq_getElem_cons (show i < m.length by omega), cmpL_cons]
  generalize l[i] = a at e1 ⊢
  generalize m[i]'(by omega) = b at e2 ⊢
  simp only [slices_Compare_int_int.l0, Ev.ite_iff, h1, h1', h1n, h2, ↓reduceIte, w64_succ i (by omega), e1, e2, cmpInt_eq, Option.bind_some]
  by_cases e : a = b
  ·subst e
   simp only [Int.lt_irrefl, ↓reduceIte, show ¬ a > a by omega]
   exact ih
  ·by_cases g : a < b
   ·simp only [g, e, ↓reduceIte, Ev.now_iff];simp
   ·have g2 : a > b := by omega
    simp only [g, g2, e, ↓reduceIte, Ev.now_iff];simp

def betM (n a b : Nat) : Bool := decide ((bl n a).length < (bl n b).length) || (decide ((bl n a).length = (bl n b).length) && lexLt (bl n a) (bl n b))

def bestF (p : Nat → Bool) (n : Nat) : Nat → Nat → Nat → Nat
 | 0, _, b => b
 | d + 1, c, b => bestF p n d (c + 1) (if p c && betM n c b then c else b)

theorem bestF_lt {p : Nat → Bool} {n : Nat} : ∀ (d c b : Nat), 2 ^ n = c + d → b < 2 ^ n → bestF p n d c b < 2 ^ n
 | 0, _, _, _, h => h
 | d + 1, c, b, hd, h => by
  rw [bestF]
  refine bestF_lt d (c + 1) _ (by omega) ?_
  split
  ·omega
  ·exact h

def sprP (es : List S119) (n : Nat) (r : Int) (c : Nat) : Bool := decide (spreadM es n r c = 2 ^ n - 1)

def leastSpreadingR (n : Int) (es : List S119) (r : Int) : List Int × Bool := if okG n es = true ∧ (1 ≤ r ∧ r ≤ 8) then (bl n.toNat (bestF (sprP es n.toNat r) n.toNat (2 ^ n.toNat) 0 (2 ^ n.toNat - 1)), true) else ([], false)

theorem okG_use {n : Int} {es : List S119} (h : okG n es = true) : ∃ N : Nat, n = N ∧ N ≤ 8 := by
 simp only [okG, Bool.and_eq_true, decide_eq_true_eq] at h
 exact ⟨n.toNat, by omega, by omega⟩

theorem leastSpreadingR_len (n : Int) (es : List S119) (r : Int) : (leastSpreadingR n es r).1.length ≤ 1048576 := by
 unfold leastSpreadingR
 split
 ·rename_i h
  obtain ⟨N, rfl, hN⟩ := okG_use h.1
  have := bl_len_le N (bestF (sprP es N r) N (2 ^ N) 0 (2 ^ N - 1))
  simp only [Int.toNat_natCast];omega
 ·simp

theorem l2All_ev {es : List S119} {n : Nat} (hn : n ≤ 8) : Ev (fun k => spec_l2All.f k n es) (bl n (2 ^ n - 1)) := by
 unfold spec_l2All.f
 rw [Ev.ite_iff, if_pos (by omega), mask_all n hn, Ev.bind_iff (l2Bits_ev n _ hn (by have := Nat.two_pow_pos n;omega)), Ev.now_iff]

theorem specLeastSpreading_l0 {es : List S119} {n : Nat} {r : Int} (hn : n ≤ 8) (hl : es.length ≤ 9223372036854775807) : ∀ (d c b : Nat), 2 ^ n = c + d → b < 2 ^ n →
  Ev (fun k => spec_LeastSpreading.l0 k r (bl n b) c n es) (bl n (bestF (sprP es n r) n d c b), true)
 | 0, c, b, hd, hb => by
  rw [Ev.iff_succ]
  have h2 : (0 : Int) ≤ n := by omega
  simp only [spec_LeastSpreading.l0, h2, ↓reduceIte, shl_one (show n < 62 by omega), Ev.ite_iff]
  rw [if_neg (by omega), Ev.now_iff, bestF]
 | d + 1, c, b, hd, hb => by
  rw [Ev.iff_succ]
  have h2 : (0 : Int) ≤ n := by omega
  have hc : c < 2 ^ n := by omega
  have h8 := p8 hn
  have hbl := bl_len_le n c
  have hs := (spreadM_least (es := es) (r := r) hc).1
  have hfull := bl_len_full n hn _ hs
  have hsl := bl_len_le n (spreadM es n r c)
  have ih0 := specLeastSpreading_l0 (es := es) (r := r) hn hl d (c + 1) b (by omega) hb
  have ih1 := specLeastSpreading_l0 (es := es) (r := r) hn hl d (c + 1) c (by omega) hc
  simp only [spec_LeastSpreading.l0, h2, ↓reduceIte, shl_one (show n < 62 by omega), Ev.ite_iff]
  rw [if_pos (by omega), Ev.bind_iff (l2Bits_ev n c hn hc), Ev.bind_iff (l8Spread_ev es n c r hn hc hl)]
  simp only [Ev.ite_iff, w64_succ c (show c < 9223372036854775807 by omega), bestF]
  by_cases f : spreadM es n r c = 2 ^ n - 1
  ·have hp : sprP es n r c = true := by simp [sprP, f]
   rw [if_neg (by omega), hp, Bool.true_and]
   unfold betM
   by_cases g1 : (bl n c).length < (bl n b).length
   ·rw [if_pos (by omega), if_pos (by simp [g1])];exact ih1
   ·rw [if_neg (by omega)]
    by_cases g2 : (bl n c).length = (bl n b).length
    ·rw [if_pos (by omega), Ev.bind_iff (l4Less_ev _ _ g2 (by omega)), Ev.ite_iff]
     cases g3 : lexLt (bl n c) (bl n b)
     ·rw [if_neg (by simp), if_neg (by simp [g1])];exact ih0
     ·rw [if_pos rfl, if_pos (by simp [g2])];exact ih1
    ·rw [if_neg (by omega), if_neg (by simp [g1, g2])];exact ih0
  ·have hp : sprP es n r c = false := by simp [sprP, f]
   rw [if_pos (by omega), hp, Bool.false_and, if_neg (by simp)];exact ih0

theorem specLeastSpreading_ev (n : Int) (es : List S119) (r : Int) (_ : (Lit.int .i64 r).wf = true) (he : es.length ≤ 9223372036854775807) : Ev (fun k => spec_LeastSpreading.f k n es r) (leastSpreadingR n es r) := by
 unfold spec_LeastSpreading.f leastSpreadingR
 rw [l2Good_eq]
 simp only [Option.bind_some, Ev.ite_iff, spec_l8Number.f, l1In_eq]
 by_cases h : okG n es = true
 ·obtain ⟨N, rfl, hN⟩ := okG_use h
  rw [if_pos h, Ev.iff_succ]
  simp only [spec_LeastSpreading.j0, Ev.ite_iff, Bool.not_eq_true', decide_eq_false_iff_not, h, true_and, Int.toNat_natCast]
  by_cases h3 : 1 ≤ r ∧ r ≤ 8
  ·rw [if_neg (by simp [h3]), if_pos h3, Ev.bind_iff (l2All_ev hN)]
   exact specLeastSpreading_l0 hN he (2 ^ N) 0 _ (by omega) (by have := Nat.two_pow_pos N;omega)
  ·rw [if_pos h3, if_neg h3, Ev.now_iff]
 ·rw [if_neg h, Ev.iff_succ]
  simp only [spec_LeastSpreading.j0, ↓reduceIte, Ev.now_iff, h, false_and, Bool.false_eq_true]

end Go.Proofs.Ytmokkhfmbenleaa.QSpreading
