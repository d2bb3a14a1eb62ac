import Derived.Test.YtfeaddkaommpgabQLeastSpreading0
import Derived.Test.YtfeaddkaommpgabQLeastSpreading1
import Derived.Test.YtfeaddkaommpgabQLeastSpreading2
import Derived.Test.YtfeaddkaommpgabQLeastSpreading6
import Derived.Test.YtfeaddkaommpgabQLeastSpreading9
import Derived.Test.YtfeaddkaommpgabQLeastSpreadingA0
namespace Go.Proofs.Ytfeaddkaommpgab.QLeastSpreading
open Go.RowKit Go.Proofs.YtfeaddkaommpgabW.PrintWords Go.Proofs.YtfeaddkaommpgabW.PrintLast Go.Proofs.YtfeaddkaommpgabW.PrintMore
attribute [local go_sem] max2_int min2_int max_two min_two max_three min_three max_four min_four   -- for this text's walks alone
set_option linter.unusedVariables false
set_option linter.unusedSimpArgs false
theorem ones_bl {n m : Nat} (hn : n ≤ 8) (hm : m < 2 ^ n) : bits_OnesCount.f (IntKind.u64.wrap (m : Int)) = some (((bl n m).length : Nat) : Int) := by
  rw [u64_wrap_id m (lt62 hn hm), ones_small n hn m hm]

/-- How many neighbors of a node a set has. -/
def cntM (es : List S70) (n m x : Nat) : Nat := (bl n (nb es n x &&& m)).length

theorem and_lt_left {n a : Nat} (b : Nat) (h : a < 2 ^ n) : a &&& b < 2 ^ n := lt_of_bits fun i hi => by rw [Nat.testBit_and, bit_lt h hi]; rfl

theorem inside_cnt {es : List S70} {n m x : Nat} : ((bl n m).filter (fun y => near es y x)).length = cntM es n m x := by
  unfold cntM
  congr 1
  refine asc_ext (p := none) (q := none) (asc_of_pairwise ((bl_pairwise n m).filter _) (fun q hq => by cases hq)) (bl_asc _ _) (fun y => ?_)
  rw [List.mem_filter, mem_bl, mem_bl]
  constructor
  · rintro ⟨⟨i, h1, h2, rfl⟩, h3⟩
    refine ⟨i, h1, ?_, rfl⟩
    rw [Nat.testBit_and, nb_bit, h2, near_comm]; simp [h1, h3]
  · rintro ⟨i, h1, h2, rfl⟩
    rw [Nat.testBit_and, nb_bit] at h2
    simp only [Bool.and_eq_true, decide_eq_true_eq] at h2
    exact ⟨⟨i, h1, h2.2, rfl⟩, by rw [near_comm]; exact h2.1.2⟩

theorem cnt_le {es : List S70} {n a b x : Nat} (h : ∀ i, i < n → a.testBit i = true → b.testBit i = true) : cntM es n a x ≤ cntM es n b x := by
  unfold cntM
  rw [bl_len, bl_len]
  refine (cnt_mono n (fun i hi ha => ?_)).1
  rw [Nat.testBit_and, Bool.and_eq_true] at ha ⊢
  exact ⟨ha.1, h i hi ha.2⟩

/-- Nothing more is reached: each node with r neighbors in the set is in it. -/
def closedR (es : List S70) (n : Nat) (r : Int) (m : Nat) : Prop := ∀ x, x < n → (cntM es n m x : Int) ≥ r → m.testBit x = true

def subM (n a b : Nat) : Prop := ∀ i, i < n → a.testBit i = true → b.testBit i = true

theorem subM_refl (n a : Nat) : subM n a a := fun _ _ h => h

theorem subM_trans {n a b c : Nat} (h : subM n a b) (g : subM n b c) : subM n a c := fun i hi ha => g i hi (h i hi ha)

theorem subM_or {n a b : Nat} : subM n a (a ||| b) := fun i _ h => by rw [Nat.testBit_or, h]; rfl

/-- The least closed set that holds a set. -/
def leastR (es : List S70) (n : Nat) (r : Int) (m c : Nat) : Prop := c < 2 ^ n ∧ subM n m c ∧ closedR es n r c ∧ ∀ d, d < 2 ^ n → subM n m d → closedR es n r d → subM n c d

theorem leastR_unique {es : List S70} {n : Nat} {r : Int} {m c d : Nat} (h : leastR es n r m c) (g : leastR es n r m d) : c = d :=
  mask_ext h.1 g.1 fun i hi => by rw [Bool.eq_iff_iff]; exact ⟨h.2.2.2 d g.1 g.2.1 g.2.2.1 i hi, g.2.2.2 c h.1 h.2.1 h.2.2.1 i hi⟩

/-- One round of the program's spread: all nodes with r neighbors in the set join. -/
def spStep (es : List S70) (n : Nat) (r : Int) (m : Nat) (nx x : Nat) : Nat := if (cntM es n m x : Int) ≥ r then nx ||| 2 ^ x else nx

def spOnce (es : List S70) (n : Nat) (r : Int) (m : Nat) : Nat := (List.range n).foldl (spStep es n r m) m

theorem spFold_lt {es : List S70} {n m nx : Nat} {r : Int} (h : nx < 2 ^ n) : ∀ i, i ≤ n → (List.range i).foldl (spStep es n r m) nx < 2 ^ n
  | 0, _ => h
  | i + 1, hi => by
    rw [fold_range_succ]
    have := spFold_lt (es := es) (m := m) (r := r) h i (by omega)
    unfold spStep; split
    · exact Nat.or_lt_two_pow this (Nat.pow_lt_pow_right (by decide) (by omega))
    · exact this

theorem spFold_bit {es : List S70} {n m nx y : Nat} {r : Int} : ∀ i, ((List.range i).foldl (spStep es n r m) nx).testBit y = true ↔ nx.testBit y = true ∨ (y < i ∧ (cntM es n m y : Int) ≥ r)
  | 0 => by simp
  | i + 1 => by
    rw [fold_range_succ]
    have ih := spFold_bit (es := es) (n := n) (m := m) (nx := nx) (y := y) (r := r) i
    generalize (List.range i).foldl (spStep es n r m) nx = b at ih ⊢
    unfold spStep
    by_cases c : (cntM es n m i : Int) ≥ r
    · rw [if_pos c, Nat.testBit_or, Bool.or_eq_true, ih, Nat.testBit_two_pow, decide_eq_true_eq]
      constructor
      · rintro ((h | h) | h)
        · exact .inl h
        · exact .inr ⟨by omega, h.2⟩
        · subst h; exact .inr ⟨by omega, c⟩
      · rintro (h | h)
        · exact .inl (.inl h)
        · by_cases e : i = y
          · exact .inr e
          · exact .inl (.inr ⟨by omega, h.2⟩)
    · rw [if_neg c, ih]
      constructor
      · rintro (h | h)
        · exact .inl h
        · exact .inr ⟨by omega, h.2⟩
      · rintro (h | h)
        · exact .inl h
        · by_cases e : i = y
          · subst e; exact absurd h.2 c
          · exact .inr ⟨by omega, h.2⟩

theorem spOnce_lt {es : List S70} {n m : Nat} {r : Int} (h : m < 2 ^ n) : spOnce es n r m < 2 ^ n := spFold_lt h n (Nat.le_refl _)

theorem spOnce_bit {es : List S70} {n m y : Nat} {r : Int} : (spOnce es n r m).testBit y = true ↔ m.testBit y = true ∨ (y < n ∧ (cntM es n m y : Int) ≥ r) := spFold_bit n

theorem sub_le {n a b : Nat} (ha : a < 2 ^ n) (hb : b < 2 ^ n) (h : subM n a b) : a ≤ b := by
  have e : a ||| b = b := mask_ext (Nat.or_lt_two_pow ha hb) hb (fun i hi => by
    rw [Nat.testBit_or]
    cases hA : a.testBit i
    · simp
    · rw [h i hi hA]; rfl)
  rw [← e]; exact Nat.left_le_or

/-- The program's spread. -/
def spreadM (es : List S70) (n : Nat) (r : Int) (m : Nat) : Nat :=
  if h : m < 2 ^ n ∧ spOnce es n r m ≠ m then spreadM es n r (spOnce es n r m) else m
  termination_by 2 ^ n - m
  decreasing_by
  have h1 := spOnce_lt (es := es) (r := r) h.1
  have h2 := sub_le h.1 h1 (fun i _ hi => spOnce_bit.2 (.inl hi))
  omega

theorem spreadM_least {es : List S70} {n : Nat} {r : Int} {m : Nat} (hm : m < 2 ^ n) : leastR es n r m (spreadM es n r m) := by
  obtain ⟨d, hd⟩ : ∃ d, d = 2 ^ n - m := ⟨_, rfl⟩
  induction d using Nat.strongRecOn generalizing m with
  | _ d ih =>
    unfold spreadM
    have h1 := spOnce_lt (es := es) (r := r) hm
    have h3 : subM n m (spOnce es n r m) := fun i _ hi => spOnce_bit.2 (.inl hi)
    have h2 := sub_le hm h1 h3
    by_cases c : spOnce es n r m = m
    · rw [dif_neg (by simp [c])]
      refine ⟨hm, subM_refl _ _, fun x hx hc => ?_, fun d _ hs _ => hs⟩
      rw [← c]; exact spOnce_bit.2 (.inr ⟨hx, hc⟩)
    · rw [dif_pos ⟨hm, c⟩]
      obtain ⟨g1, g2, g3, g4⟩ := ih _ (by omega) h1 rfl
      refine ⟨g1, subM_trans h3 g2, g3, fun d hdl hs hc => g4 d hdl (fun i hi hb => ?_) hc⟩
      rcases spOnce_bit.1 hb with h | h
      · exact hs i hi h
      · refine hc i hi ?_
        have := cnt_le (es := es) (x := i) hs
        omega

theorem spread_ev (es : List S70) (n : Nat) (r : Int) (hn : n ≤ 8) : ∀ m : Nat, m < 2 ^ n → Ev (fun k => impl_net_spread.f k (nets es n) m r) ((spreadM es n r m : Nat) : Int) := by
  intro m hm
  unfold impl_net_spread.f
  obtain ⟨d, hd⟩ : ∃ d, d = 2 ^ n - m := ⟨_, rfl⟩
  induction d using Nat.strongRecOn generalizing m with
  | _ d ih =>
    rw [Ev.iff_succ]
    simp only [impl_net_spread.l0, nets_len]
    have H := down n (fun i => Ev (fun k => impl_net_spread.l1 k m r (((List.range i).foldl (spStep es n r m) m : Nat) : Int) (nets es n) n i (nets es n)) ((spreadM es n r m : Nat) : Int)) ?_ ?_ 0 (by omega)
    · simpa using H
    · show Ev _ _
      rw [Ev.iff_succ]
      simp only [impl_net_spread.l1, Int.lt_irrefl, ↓reduceIte, Ev.ite_iff]
      have h1 := spOnce_lt (es := es) (r := r) hm
      have h2 := sub_le hm h1 (fun i _ hi => spOnce_bit.2 (.inl hi))
      rw [show (List.range n).foldl (spStep es n r m) m = spOnce es n r m from rfl]
      unfold spreadM
      by_cases c : spOnce es n r m = m
      · rw [if_pos (by rw [c]), dif_neg (by simp [c]), Ev.now_iff]
      · rw [if_neg (by omega), dif_pos ⟨hm, c⟩]
        exact ih _ (by omega) _ h1 rfl
    · intro i hi jh
      show Ev _ _
      rw [Ev.iff_succ]
      have h1 : (i : Int) < (n : Int) := by omega
      have h2 : (0 : Int) ≤ i := by omega
      have h3 : (i : Int) < ((nets es n).length : Int) := by rw [nets_len]; omega
      have hacc := spFold_lt (es := es) (r := r) (m := m) hm i (by omega)
      have hp : 2 ^ i < 2 ^ n := Nat.pow_lt_pow_right (by decide) hi
      have e1 := gand (nb es n i) m (lt62 hn (nb_lt _ _ _)) (lt62 hn hm)
      have e2 := ones_bl (n := n) hn (and_lt_left m (nb_lt es n i))
      have e3 : ∀ acc : Nat, acc < 2 ^ n → Go.bits .or .i64 (acc : Int) (shl .i64 1 (i : Int)) = ((acc ||| 2 ^ i : Nat) : Int) := fun acc ha => by
        rw [shl_one (by omega)]; exact gor _ _ (lt62 hn ha) (lt62 hn hp)
      rw [fold_range_succ] at jh
      generalize (List.range i).foldl (spStep es n r m) m = acc at hacc jh ⊢
      unfold spStep cntM at jh
      simp only [impl_net_spread.l1, Ev.ite_iff, h1, h2, h3, ↓reduceIte, w64_succ i (by omega), nets_rd hi, e1, e2, Option.bind_some, e3 acc hacc]
      by_cases c : (((bl n (nb es n i &&& m)).length : Nat) : Int) ≥ r
      · rw [if_pos c]; rw [if_pos c] at jh; exact jh
      · rw [if_neg c]; rw [if_neg c] at jh; exact jh

/-- One sweep of the reference: nodes join one behind the other. -/
def swStep (es : List S70) (n : Nat) (r : Int) (m x : Nat) : Nat := if (cntM es n m x : Int) ≥ r then m ||| 2 ^ x else m

def sweep (es : List S70) (n : Nat) (r : Int) (i m : Nat) : Nat := (List.range i).foldl (swStep es n r) m

theorem sweep_succ (es : List S70) (n : Nat) (r : Int) (i m : Nat) : sweep es n r (i + 1) m = swStep es n r (sweep es n r i m) i := fold_range_succ _ _ _

theorem swStep_sub {es : List S70} {n : Nat} {r : Int} {m x : Nat} : subM n m (swStep es n r m x) := by
  unfold swStep; split
  · exact subM_or
  · exact subM_refl _ _

theorem sweep_lt {es : List S70} {n m : Nat} {r : Int} (h : m < 2 ^ n) : ∀ i, i ≤ n → sweep es n r i m < 2 ^ n
  | 0, _ => h
  | i + 1, hi => by
    rw [sweep_succ]
    have := sweep_lt (es := es) (r := r) h i (by omega)
    unfold swStep; split
    · exact Nat.or_lt_two_pow this (Nat.pow_lt_pow_right (by decide) (by omega))
    · exact this

theorem sweep_sub {es : List S70} {n : Nat} {r : Int} {m : Nat} : ∀ i, subM n m (sweep es n r i m)
  | 0 => subM_refl _ _
  | i + 1 => by rw [sweep_succ]; exact subM_trans (sweep_sub i) swStep_sub

theorem sweep_in {es : List S70} {n : Nat} {r : Int} {m d : Nat} (hs : subM n m d) (hc : closedR es n r d) : ∀ i, i ≤ n → subM n (sweep es n r i m) d
  | 0, _ => hs
  | i + 1, hi => by
    have ih := sweep_in hs hc i (by omega)
    rw [sweep_succ]
    unfold swStep; split
    · rename_i c
      intro j hj hb
      rw [Nat.testBit_or, Bool.or_eq_true, Nat.testBit_two_pow, decide_eq_true_eq] at hb
      rcases hb with h | h
      · exact ih j hj h
      · subst h
        refine hc i hj ?_
        have := cnt_le (es := es) (x := i) ih
        omega
    · exact ih

/-- Behind a sweep each node that had r neighbors ahead of it is in the set. -/
theorem sweep_has {es : List S70} {n : Nat} {r : Int} {m x : Nat} (hx : x < n) (hc : (cntM es n m x : Int) ≥ r) : ∀ i, x < i → (sweep es n r i m).testBit x = true
  | 0, h => by omega
  | i + 1, h => by
    rw [sweep_succ]
    by_cases e : x = i
    · subst e
      unfold swStep
      have := cnt_le (es := es) (x := x) (sweep_sub (es := es) (n := n) (r := r) (m := m) x)
      rw [if_pos (by omega), Nat.testBit_or, Nat.testBit_two_pow]; simp
    · exact swStep_sub x hx (sweep_has hx hc i (by omega))

/-- The set behind some sweeps. -/
def sweeps (es : List S70) (n : Nat) (r : Int) : Nat → Nat → Nat
  | 0, m => m
  | j + 1, m => sweeps es n r j (sweep es n r n m)

theorem len_sub {n a b : Nat} (h : subM n a b) : (bl n a).length ≤ (bl n b).length := by rw [bl_len, bl_len]; exact (cnt_mono n h).1

theorem closed_of_sweep {es : List S70} {n : Nat} {r : Int} {m : Nat} (h : sweep es n r n m = m) : closedR es n r m := fun x hx hc => by rw [← h]; exact sweep_has hx hc n hx

theorem sweeps_least {es : List S70} {n : Nat} {r : Int} (hn : n ≤ 8) : ∀ (j m : Nat), m < 2 ^ n → n ≤ (bl n m).length + j → leastR es n r m (sweeps es n r j m)
  | 0, m, hm, hj => by
    have hf : m = 2 ^ n - 1 := (bl_len_full n hn m hm).1 (by have := bl_len_le n m; omega)
    refine ⟨hm, subM_refl _ _, fun x hx _ => ?_, fun d _ hs _ => hs⟩
    rw [sweeps, hf, Nat.testBit_two_pow_sub_one]; simp [hx]
  | j + 1, m, hm, hj => by
    rw [sweeps]
    have h1 := sweep_lt (es := es) (r := r) hm n (Nat.le_refl _)
    have h2 := sweep_sub (es := es) (n := n) (r := r) (m := m) n
    by_cases c : sweep es n r n m = m
    · rw [c]
      have hcl := closed_of_sweep c
      have hfix : ∀ j, sweeps es n r j m = m := fun j => by
        induction j with
        | zero => rfl
        | succ j ih => rw [sweeps, c]; exact ih
      rw [hfix]
      exact ⟨hm, subM_refl _ _, hcl, fun d _ hs _ => hs⟩
    · have h3 : (bl n m).length + 1 ≤ (bl n (sweep es n r n m)).length := by
        have h4 := len_sub h2
        by_cases e : (bl n (sweep es n r n m)).length ≤ (bl n m).length
        · exact absurd (sub_len hm h1 h2 e) c
        · omega
      obtain ⟨g1, g2, g3, g4⟩ := sweeps_least hn j _ h1 (by omega)
      exact ⟨g1, subM_trans h2 g2, g3, fun d hd hs hc => g4 d hd (sweep_in hs hc n (Nat.le_refl _)) hc⟩

theorem l8Spread_ev (es : List S70) (n m : Nat) (r : Int) (hn : n ≤ 8) (hm : m < 2 ^ n) (hl : es.length ≤ 9223372036854775807) : Ev (fun k => spec_l8Spread.f k n es (bl n m) r) (bl n (spreadM es n r m)) := by
  have hb := bl_len_le n m
  have he : sweeps es n r n m = spreadM es n r m := leastR_unique (sweeps_least hn n m hm (by omega)) (spreadM_least hm)
  unfold spec_l8Spread.f
  rw [l1Own_eq (by omega), ← he]
  simp only [Option.bind_some]
  have H := down n (fun i => ∀ m : Nat, m < 2 ^ n → Ev (fun k => spec_l8Spread.l0 k r (bl n m) i n es) (bl n (sweeps es n r (n - i) m))) ?_ ?_ 0 (by omega) m hm
  · simpa using H
  · intro m _
    rw [Ev.iff_succ]
    simp only [spec_l8Spread.l0, Int.lt_irrefl, ↓reduceIte, Ev.now_iff, Nat.sub_self, sweeps]
  · intro i hi ih m hm
    rw [Ev.iff_succ]
    have h1 : (i : Int) < (n : Int) := by omega
    simp only [spec_l8Spread.l0, h1, ↓reduceIte]
    rw [show n - i = (n - (i + 1)) + 1 by omega, sweeps]
    have G := down n (fun x => Ev (fun k => spec_l8Spread.l1 k r (bl n (sweep es n r x m)) i x n es) (bl n (sweeps es n r (n - (i + 1)) (sweep es n r n m)))) ?_ ?_ 0 (by omega)
    · simpa [sweep] using G
    · show Ev _ _
      rw [Ev.iff_succ]
      simp only [spec_l8Spread.l1, Int.lt_irrefl, ↓reduceIte, w64_succ i (by omega)]
      exact ih _ (sweep_lt hm n (Nat.le_refl _))
    · intro x hx jh
      show Ev _ _
      rw [Ev.iff_succ]
      have g1 : (x : Int) < (n : Int) := by omega
      have hbx := bl_len_le n (sweep es n r x m)
      rw [sweep_succ] at jh
      generalize sweep es n r x m = acc at hbx jh ⊢
      unfold swStep at jh
      simp only [spec_l8Spread.l1, Ev.ite_iff, g1, ↓reduceIte, w64_succ x (by omega), Ev.bind_iff (l8Inside_ev n es (bl n acc) x (by omega) hl), inside_cnt, l1Put_bl hn hx, Option.bind_some]
      by_cases c : (cntM es n acc x : Int) ≥ r
      · rw [if_pos c]; rw [if_pos c] at jh; exact jh
      · rw [if_neg c]; rw [if_neg c] at jh; exact jh

theorem set_fill {α : Type} (l : List α) (z : α) (i : Nat) (h : i < l.length) : (l.take i ++ List.replicate (l.length - i) z).set i l[i] = l.take (i + 1) ++ List.replicate (l.length - (i + 1)) z := by
  rw [List.take_succ_eq_append_getElem h, show l.length - i = (l.length - (i + 1)) + 1 by omega, List.replicate_succ]
  have h1 : (l.take i).length = i := by rw [List.length_take]; omega
  rw [List.set_append_right _ _ (by omega), h1, Nat.sub_self, List.set_cons_zero, List.append_assoc]
  rfl

theorem toIntA2_eq (a b : Int) : laws_toIntA2.f a b = some (a, b) := rfl

theorem toIntA2S_ev (l : List S70) (hl : l.length ≤ 17592186044416) : Ev (fun k => laws_toIntA2S.f k l) l := by
  unfold laws_toIntA2S.f
  rw [Ev.ite_iff, if_pos (by omega), Ev.ite_iff, if_pos (by omega), Int.toNat_natCast]
  have H := down l.length (fun i => Ev (fun k => laws_toIntA2S.l0 k l (l.take i ++ List.replicate (l.length - i) z70) i) l) ?_ ?_ 0 (by omega)
  · simpa using H
  · show Ev _ _
    rw [Ev.iff_succ]
    simp [laws_toIntA2S.l0, Ev.now_iff]
  · intro i hi ih
    show Ev _ _
    rw [Ev.iff_succ]
    have h1 : (i : Int) < l.length := by omega
    have h2 : (0 : Int) ≤ i := by omega
    have h3 : (i : Int) < ((l.take i ++ List.replicate (l.length - i) z70).length : Int) := by
      rw [List.length_append, List.length_take, List.length_replicate]; omega
    have h4 : rd_T70 l i = l[i] := by simp [rd_T70, hi]
    simp only [laws_toIntA2S.l0, Ev.ite_iff, h1, h2, ↓reduceIte, toIntA2_eq, Option.bind_some, h3, w64_succ i (by omega), h4, Int.toNat_natCast]
    rw [set_fill l _ i hi]
    exact ih

theorem toGraph_ev (n : Int) (es : List S70) (hl : es.length ≤ 17592186044416) : Ev (fun k => laws_toGraph.f k n es) (n, es) := by
  unfold laws_toGraph.f
  rw [Ev.bind_iff (toIntA2S_ev es hl), Ev.now_iff]

theorem eqIntS_refl (l : List Int) (hl : l.length ≤ 9223372036854775807) : Ev (fun k => laws_eqIntS.f k l l) true := by
  unfold laws_eqIntS.f
  rw [Ev.ite_iff, if_pos rfl]
  have H := down l.length (fun i => Ev (fun k => laws_eqIntS.l0 k l l i) true) ?_ ?_ 0 (by omega)
  · simpa using H
  · show Ev _ _
    rw [Ev.iff_succ]
    simp [laws_eqIntS.l0, Ev.now_iff]
  · intro i hi ih
    show Ev _ _
    rw [Ev.iff_succ]
    have h1 : (i : Int) < l.length := by omega
    have h2 : (0 : Int) ≤ i := by omega
    simp only [laws_eqIntS.l0, Ev.ite_iff, h1, h2, ↓reduceIte, w64_succ i (by omega)]
    exact ih

theorem eqIntA2_refl (a b : Int) : laws_eqIntA2.f a b a b = some true := by simp [laws_eqIntA2.f]

theorem eqGraph_refl (n : Int) (es : List S70) (hl : es.length ≤ 9223372036854775807) : Ev (fun k => laws_eqGraph.f k n es n es) true := by
  have H0 : Ev (fun k => laws_eqIntA2S.f k es es) true := by
    unfold laws_eqIntA2S.f
    rw [Ev.ite_iff, if_pos rfl]
    have H := down es.length (fun i => Ev (fun k => laws_eqIntA2S.l0 k es es i) true) ?_ ?_ 0 (by omega)
    · simpa using H
    · show Ev _ _
      rw [Ev.iff_succ]
      simp [laws_eqIntA2S.l0, Ev.now_iff]
    · intro i hi ih
      show Ev _ _
      rw [Ev.iff_succ]
      have h1 : (i : Int) < es.length := by omega
      have h2 : (0 : Int) ≤ i := by omega
      simp only [laws_eqIntA2S.l0, Ev.ite_iff, h1, h2, ↓reduceIte, w64_succ i (by omega), eqIntA2_refl, Option.bind_some]
      exact ih
  unfold laws_eqGraph.f
  rw [Ev.ite_iff, if_pos rfl, Ev.bind_iff H0, Ev.ite_iff, if_pos rfl, Ev.now_iff]

theorem szGraph_eq (n : Int) (es : List S70) (hl : es.length ≤ 9223372036854775807) : laws_szGraph.f n es 1048576 = some (if es.length ≤ 1048576 then 1048576 - (es.length : Int) else -1) := by
  unfold laws_szGraph.f laws_szIntA2S.f
  rw [w64 (by omega) (by omega)]
  by_cases h : es.length ≤ 1048576
  · rw [if_neg (by omega), if_pos h, Option.bind_some, if_neg (by omega)]
  · rw [if_pos (by omega), if_neg h, Option.bind_some, if_pos (by omega)]

theorem l2Good_eq (n : Int) (es : List S70) : spec_l2Good.f n es = some (okG n es) := rfl

theorem IsGraph_eq (n : Int) (es : List S70) : impl_IsGraph.f n es = some (okG n es) := rfl

theorem all_eq {es : List S70} {n : Nat} (h : n ≤ 8) : impl_net_all.f (nets es n) = some ((2 ^ n - 1 : Nat) : Int) := by
  unfold impl_net_all.f
  rw [nets_len, mask_all n h]

/-- Numbers one behind the other. -/
def upF (a : Int) (c : Nat) : List Int := (List.range c).map (fun i : Nat => a + (i : Int))

theorem upF_len (a : Int) (c : Nat) : (upF a c).length = c := by simp [upF]

theorem upF_succ (a : Int) (c : Nat) : upF a (c + 1) = upF a c ++ [a + (c : Int)] := by simp [upF, List.range_succ]

theorem upF_rd {a : Int} {c i : Nat} (h : i < c) : rd (upF a c) i = a + (i : Int) := by rw [rd_lt _ i (by rw [upF_len]; exact h)]; simp [upF]

theorem markIntS_ev (l : List Int) (a : Int) (ha : 0 ≤ a) (h : a + l.length < 9223372036854775807) : Ev (fun k => laws_markIntS.f k l a) (a + (l.length : Int), upF a l.length) := by
  have H := down l.length (fun i => Ev (fun k => laws_markIntS.l0 k (upF a i ++ l.drop i) (a + (i : Int)) i) (a + (l.length : Int), upF a l.length)) ?_ ?_ 0 (by omega)
  · simpa [laws_markIntS.f, upF] using H
  · show Ev _ _
    rw [Ev.iff_succ]
    simp [laws_markIntS.l0, Ev.now_iff, upF_len]
  · intro i hi ih
    show Ev _ _
    rw [Ev.iff_succ]
    have h0 : ((upF a i ++ l.drop i).length : Int) = l.length := by rw [List.length_append, upF_len, List.length_drop]; omega
    have h1 : (i : Int) < l.length := by omega
    have h2 : (0 : Int) ≤ i := by omega
    have h3 : (upF a i ++ l.drop i).set i (a + (i : Int)) = upF a (i + 1) ++ l.drop (i + 1) := by
      rw [List.drop_eq_getElem_cons hi, List.set_append_right _ _ (by rw [upF_len]; omega), upF_len, Nat.sub_self, List.set_cons_zero, upF_succ, List.append_assoc]; rfl
    have h4 : wrap64 (a + (i : Int) + 1) = a + ((i + 1 : Nat) : Int) := by rw [w64] <;> omega
    simp only [laws_markIntS.l0, Ev.ite_iff, h0, h1, h2, ↓reduceIte, w64_succ i (by omega), Int.toNat_natCast, h3, h4]
    exact ih

theorem heldIntS_ev (a : Int) (c : Nat) (ha : 0 ≤ a) (h : a + c < 9223372036854775807) : Ev (fun k => laws_heldIntS.f k (upF a c) a) (a + (c : Int)) := by
  have H := down c (fun i => Ev (fun k => laws_heldIntS.l0 k (upF a c) (a + (i : Int)) i) (a + (c : Int))) ?_ ?_ 0 (by omega)
  · simpa [laws_heldIntS.f] using H
  · show Ev _ _
    rw [Ev.iff_succ]
    simp [laws_heldIntS.l0, Ev.now_iff, upF_len]
  · intro i hi ih
    show Ev _ _
    rw [Ev.iff_succ]
    have h1 : (i : Int) < (c : Int) := by omega
    have h2 : (0 : Int) ≤ i := by omega
    have h4 : wrap64 (a + (i : Int) + 1) = a + ((i + 1 : Nat) : Int) := by rw [w64] <;> omega
    simp only [laws_heldIntS.l0, Ev.ite_iff, upF_len, h1, h2, ↓reduceIte, w64_succ i (by omega), upF_rd hi, h4]
    exact ih

end Go.Proofs.Ytfeaddkaommpgab.QLeastSpreading
