import Derived.Test.YtmokkhfmbenleaaQLeastDominating0
import Derived.Test.YtmokkhfmbenleaaQLeastDominating10
import Derived.Test.YtmokkhfmbenleaaQLeastDominating11
import Derived.Test.YtmokkhfmbenleaaQLeastDominating7
import Derived.Test.YtmokkhfmbenleaaQLeastDominating8
import Derived.Test.YtmokkhfmbenleaaQLeastDominating9
import Derived.Test.YtmokkhfmbenleaaQLeastDominatingA1
namespace Go.Proofs.Ytmokkhfmbenleaa.QLeastDominating
open Go.RowKit Go.Proofs.YtmokkhfmbenleaaW.PrintWords Go.Proofs.YtmokkhfmbenleaaW.PrintLast Go.Proofs.YtmokkhfmbenleaaW.PrintMore
attribute [local go_sem] max2_int min2_int max_two min_two max_three min_three max_four min_four   -- for this text's walks alone
set_option linter.unusedVariables false
set_option linter.unusedSimpArgs false
theorem sliceCompareG_ev (l m : List Int) (hl : l.length ≤ 9223372036854775806) : Ev (fun k => slices_Compare_int_int.f k l m) (cmpG l m) := by
  have H : ∀ d i, i + d = l.length → i ≤ m.length → Ev (fun k => slices_Compare_int_int.l0 k l m l l.length i) (cmpG (l.drop i) (m.drop i)) := by
    intro d
    induction d with
    | zero =>
      intro i hi him
      obtain rfl : i = l.length := by omega
      rw [Ev.iff_succ]
      simp only [slices_Compare_int_int.l0, Int.lt_irrefl, ↓reduceIte, Ev.ite_iff, Ev.now_iff, List.drop_length]
      by_cases g : l.length < m.length
      · rw [if_pos (by omega), List.drop_eq_getElem_cons g]; rfl
      · rw [if_neg (by omega), List.drop_eq_nil_of_le (by omega)]; rfl
    | succ d ih =>
      intro i hi him
      have hil : i < l.length := by omega
      rw [Ev.iff_succ]
      have h1 : (i : Int) < l.length := by omega
      have h2 : (0 : Int) ≤ i := by omega
      have e1 := rd_lt l i hil
      rw [List.drop_eq_getElem_cons hil]
      by_cases hm : i < m.length
      · have h1' : (i : Int) < m.length := by omega
        have h1n : ¬ (i : Int) ≥ m.length := by omega
        have e2 := rd_lt m i hm
        have ih1 := ih (i + 1) (by omega) (by omega)
        rw [List.drop_eq_getElem_cons hm]
        generalize l[i] = a at e1 ⊢
        generalize m[i] = b at e2 ⊢
        simp only [slices_Compare_int_int.l0, Ev.ite_iff, h1, h1', h1n, h2, ↓reduceIte, w64_succ i (by omega), e1, e2, cmpInt_eq, Option.bind_some, cmpG]
        by_cases e : a = b
        · subst e
          simp only [Int.lt_irrefl, ↓reduceIte, show ¬ a > a by omega]
          exact ih1
        · by_cases g : a < b
          · simp only [g, e, ↓reduceIte, Ev.now_iff]; simp
          · have g2 : a > b := by omega
            simp only [g, g2, e, ↓reduceIte, Ev.now_iff]; simp
      · have h1n : (i : Int) ≥ m.length := by omega
        rw [show m.drop i = [] from List.drop_eq_nil_of_le (by omega)]
        simp only [slices_Compare_int_int.l0, Ev.ite_iff, h1, h1n, h2, ↓reduceIte, Ev.now_iff, cmpG]
  have := H l.length 0 (by omega) (by omega)
  simpa [slices_Compare_int_int.f] using this

theorem cmpOr_ev (a b : Int) : Ev (fun k => cmp_Or_int.f k [a, b]) (if a = 0 then b else a) := by
  unfold cmp_Or_int.f
  have r0 : rd [a, b] 0 = a := rfl
  have r1 : rd [a, b] 1 = b := rfl
  have w1 : wrap64 (0 + 1) = 1 := by rw [w64 (by omega) (by omega)]; rfl
  have w2 : wrap64 (1 + 1) = 2 := by rw [w64 (by omega) (by omega)]; rfl
  have hl : (([a, b] : List Int).length : Int) = 2 := rfl
  rw [hl, Ev.iff_succ]
  simp only [cmp_Or_int.l0, hl, r0, w1, Ev.ite_iff]
  rw [if_pos (by omega), if_pos (by omega), if_pos (by omega)]
  by_cases h : a = 0
  · rw [if_pos h, if_pos h, Ev.iff_succ]
    simp only [cmp_Or_int.l0, hl, r1, w2, Ev.ite_iff]
    rw [if_pos (by omega), if_pos (by omega), if_pos (by omega)]
    by_cases g : b = 0
    · rw [if_pos g, Ev.iff_succ]
      simp only [cmp_Or_int.l0, Ev.ite_iff]
      rw [if_neg (by omega), Ev.now_iff, g]
    · rw [if_neg g, Ev.now_iff]
  · rw [if_neg h, if_neg h, Ev.now_iff]

theorem lexLt_irr : ∀ l : List Int, lexLt l l = false
  | [] => rfl
  | a :: s => by rw [lexLt_cons, if_pos rfl]; exact lexLt_irr s

theorem lexLt_trans : ∀ {a b c : List Int}, lexLt a b = true → lexLt b c = true → lexLt a c = true
  | [], _, _, h, _ => by simp [lexLt] at h
  | _ :: _, [], _, h, _ => by simp [lexLt] at h
  | _ :: _, _ :: _, [], _, h => by simp [lexLt] at h
  | x :: s, y :: t, z :: u, h1, h2 => by
    rw [lexLt_cons] at *
    by_cases e1 : x = y
    · subst e1
      rw [if_pos rfl] at h1
      by_cases e2 : x = z
      · rw [if_pos e2] at h2 ⊢; exact lexLt_trans h1 h2
      · rw [if_neg e2] at h2 ⊢; exact h2
    · rw [if_neg e1] at h1
      have h1' := of_decide_eq_true h1
      by_cases e2 : y = z
      · subst e2; rw [if_neg e1]; exact h1
      · rw [if_neg e2] at h2
        have h2' := of_decide_eq_true h2
        rw [if_neg (by omega)]; exact decide_eq_true (by omega)

theorem lexLt_tot : ∀ {a b : List Int}, a.length = b.length → lexLt a b = false → lexLt b a = false → a = b
  | [], [], _, _, _ => rfl
  | [], _ :: _, h, _, _ => by simp at h
  | _ :: _, [], h, _, _ => by simp at h
  | x :: s, y :: t, h, h1, h2 => by
    rw [lexLt_cons] at h1 h2
    by_cases e : x = y
    · subst e
      rw [if_pos rfl] at h1 h2
      rw [lexLt_tot (by simpa using h) h1 h2]
    · rw [if_neg e] at h1
      rw [if_neg (fun h => e h.symm)] at h2
      have := of_decide_eq_false h1
      have := of_decide_eq_false h2
      omega

theorem betM_irr (n a : Nat) : betM n a a = false := by simp [betM, lexLt_irr]

theorem betM_trans {n a b c : Nat} (h1 : betM n a b = true) (h2 : betM n b c = true) : betM n a c = true := by
  simp only [betM, Bool.or_eq_true, Bool.and_eq_true, decide_eq_true_eq] at *
  rcases h1 with h1 | ⟨h1, g1⟩ <;> rcases h2 with h2 | ⟨h2, g2⟩
  · left; omega
  · left; omega
  · left; omega
  · right; exact ⟨by omega, lexLt_trans g1 g2⟩

theorem betM_tot {n a b : Nat} (ha : a < 2 ^ n) (hb : b < 2 ^ n) (h1 : betM n a b = false) (h2 : betM n b a = false) : a = b := by
  simp only [betM, Bool.or_eq_false_iff, Bool.and_eq_false_iff, decide_eq_false_iff_not] at h1 h2
  have hl : (bl n a).length = (bl n b).length := by omega
  refine bl_inj ha hb (lexLt_tot hl ?_ ?_)
  · rcases h1.2 with h | h; exact absurd hl h; exact h
  · rcases h2.2 with h | h; exact absurd hl.symm h; exact h

theorem betM_ntrans {n a b c : Nat} (ha : a < 2 ^ n) (hb : b < 2 ^ n) (h1 : betM n a b = false) (h2 : betM n b c = false) : betM n a c = false := by
  rw [Bool.eq_false_iff]
  intro h
  cases hba : betM n b a with
  | true => rw [betM_trans hba h] at h2; cases h2
  | false => rw [betM_tot ha hb h1 hba] at h; rw [h] at h2; cases h2

theorem bl_wide {n m : Nat} (hn : n ≤ 8) (hm : m < 2 ^ n) : bl n m = bl 8 m := by
  refine asc_ext (bl_asc n m) (bl_asc 8 m) (fun x => ?_)
  rw [mem_bl, mem_bl]
  constructor
  · rintro ⟨i, h1, h2, h3⟩; exact ⟨i, by omega, h2, h3⟩
  · rintro ⟨i, h1, h2, h3⟩
    refine ⟨i, ?_, h2, h3⟩
    rcases Nat.lt_or_ge i n with g | g
    · exact g
    · rw [bit_lt hm g] at h2; cases h2

theorem betM_wide {n a b : Nat} (hn : n ≤ 8) (ha : a < 2 ^ n) (hb : b < 2 ^ n) : betM n a b = betM 8 a b := by unfold betM; rw [bl_wide hn ha, bl_wide hn hb]

def cmpM (x y : Nat) : Int := if (bl 8 x).length < (bl 8 y).length then -1 else if (bl 8 x).length > (bl 8 y).length then 1 else cmpL (bl 8 x) (bl 8 y)

theorem cmpM_lt (x y : Nat) : decide (cmpM x y < 0) = betM 8 x y := by
  unfold cmpM betM
  by_cases h : (bl 8 x).length < (bl 8 y).length
  · simp [h]
  · rw [if_neg h]
    by_cases g : (bl 8 x).length > (bl 8 y).length
    · rw [if_pos g]
      have : ¬ (bl 8 x).length = (bl 8 y).length := by omega
      simp [h, this]
    · rw [if_neg g]
      have e : (bl 8 x).length = (bl 8 y).length := by omega
      have := cmpL_lt (bl 8 x) (bl 8 y)
      simp only [e, Nat.lt_irrefl, decide_false, decide_true, Bool.false_or, Bool.true_and]
      cases hx : lexLt (bl 8 x) (bl 8 y)
      · rw [hx] at this; exact decide_eq_false (by rw [this]; simp)
      · rw [hx] at this; exact decide_eq_true (by rw [this])

theorem ordC1_ev (x y : Nat) (hx : x < 256) (hy : y < 256) : Ev (fun k => impl_net_setsInOrderC1.f k (x : Int) (y : Int)) (cmpM x y) := by
  unfold impl_net_setsInOrderC1.f
  have h8 : (8 : Nat) ≤ 8 := Nat.le_refl _
  have l1 := bl_len_le 8 x
  have l2 := bl_len_le 8 y
  rw [ones_bl (n := 8) h8 hx, ones_bl (n := 8) h8 hy]
  simp only [Option.bind_some, cmpInt_eq]
  rw [Ev.bind_iff (setOf_ev 8 x h8 hx), Ev.bind_iff (setOf_ev 8 y h8 hy), Ev.bind_iff (sliceCompareG_ev _ _ (by omega)), Ev.bind_iff (cmpOr_ev _ _), Ev.now_iff]
  unfold cmpM
  by_cases h : (bl 8 x).length < (bl 8 y).length
  · have e : (if ((bl 8 x).length : Int) < ((bl 8 y).length : Int) then (-1 : Int) else if ((bl 8 x).length : Int) > ((bl 8 y).length : Int) then 1 else 0) = -1 := if_pos (by omega)
    rw [e, if_pos h, if_neg (by decide)]
  · rw [if_neg h]
    by_cases g : (bl 8 x).length > (bl 8 y).length
    · have e : (if ((bl 8 x).length : Int) < ((bl 8 y).length : Int) then (-1 : Int) else if ((bl 8 x).length : Int) > ((bl 8 y).length : Int) then 1 else 0) = 1 := by rw [if_neg (by omega), if_pos (by omega)]
      rw [e, if_pos g, if_neg (by decide)]
    · have e : (if ((bl 8 x).length : Int) < ((bl 8 y).length : Int) then (-1 : Int) else if ((bl 8 x).length : Int) > ((bl 8 y).length : Int) then 1 else 0) = 0 := by rw [if_neg (by omega), if_neg (by omega)]
      rw [e, if_neg g, if_pos rfl, cmpG_eq _ _ (by omega)]

theorem ev_all (P : Nat → Nat → Prop) : ∀ n, (∀ x, x < n → ∃ K, ∀ k, K ≤ k → P x k) → ∃ K, ∀ k, K ≤ k → ∀ x, x < n → P x k
  | 0, _ => ⟨0, fun _ _ x hx => absurd hx (Nat.not_lt_zero _)⟩
  | n + 1, h => by
    obtain ⟨K, hK⟩ := ev_all P n (fun x hx => h x (by omega))
    obtain ⟨J, hJ⟩ := h n (by omega)
    refine ⟨K + J, fun k hk x hx => ?_⟩
    by_cases e : x = n
    · subst e; exact hJ k (by omega)
    · exact hK k (by omega) x (by omega)

theorem sortOk_ev : ∃ K, ∀ k, K ≤ k → SortOk k ∧ ∀ x y : Fin 256, cfS k x y = cmpM x.val y.val := by
  obtain ⟨K, hK⟩ := ev_all (fun (x k : Nat) => ∀ y : Nat, y < 256 → impl_net_setsInOrderC1.f k (x : Int) (y : Int) = some (cmpM x y)) 256 (fun x hx =>
    ev_all (fun (y k : Nat) => impl_net_setsInOrderC1.f k (x : Int) (y : Int) = some (cmpM x y)) 256 (fun y hy => ordC1_ev x y hx hy))
  refine ⟨K, fun k hk => ?_⟩
  have h := hK k hk
  have e : ∀ x y : Fin 256, cfS k x y = cmpM x.val y.val := fun x y => by unfold cfS; rw [h x.val x.isLt y.val y.isLt]; rfl
  have e2 : ∀ x y : Fin 256, Go.Proofs.ltOf (cfS k) x y = betM 8 x.val y.val := fun x y => by unfold Go.Proofs.ltOf; rw [e, cmpM_lt]
  refine ⟨⟨fun x y => by rw [h x.val x.isLt y.val y.isLt]; rfl, fun x => by rw [e2, betM_irr], fun x y z h1 h2 => ?_, fun x y z h1 h2 => ?_, fun x y h1 h2 => ?_⟩, e⟩
  · rw [e2] at *; exact betM_trans h1 h2
  · rw [e2] at *; exact betM_ntrans (n := 8) x.isLt y.isLt h1 h2
  · rw [e2] at h1 h2; exact Fin.ext (betM_tot (n := 8) x.isLt y.isLt h1 h2)

/-- Sets in order: by their numbers of nodes, then by their lists. -/
def ordF (l : List (Fin 256)) : List (Fin 256) := l.mergeSort fun x y => !betM 8 y.val x.val

def ordL (l : List Int) : List Int := (ordF (l.map f256)).map fun x => (x.val : Int)

theorem finS_ev {l : List Int} (h0 : l ≠ [] ∧ l.length ≤ 256) (h1 : ∀ x ∈ l, 0 ≤ x ∧ x < 256) : Ev (fun k => finS k l) (ordL l) := by
  obtain ⟨K, hK⟩ := sortOk_ev
  refine ⟨K, fun k hk => ?_⟩
  obtain ⟨h2, h3⟩ := hK k hk
  show finS k l = some (ordL l)
  unfold finS
  rw [if_pos ⟨h0, h1, h2⟩]
  unfold sortS ordL ordF
  have : (fun x y : Fin 256 => !(Go.Proofs.ltOf (cfS k)) y x) = fun x y => !betM 8 y.val x.val := by
    funext x y
    unfold Go.Proofs.ltOf
    rw [h3, cmpM_lt]
  rw [this]

def upL (N : Nat) : List Int := (List.range N).map fun x : Nat => (x : Int)

theorem upL_len (N : Nat) : (upL N).length = N := by simp [upL]

theorem setsInOrder_l0 {N : Nat} (h0 : 0 < N) (h8 : N ≤ 256) : Ev (fun k => impl_net_setsInOrder.l0 k (List.replicate N 0) (N : Int) 0) (ordL (upL N)) := by
  have hu := upL_len N
  generalize hU : upL N = U at hu ⊢
  have hR : ∀ x ∈ U, 0 ≤ x ∧ x < 256 := fun x hx => by
    rw [← hU] at hx
    simp only [upL, List.mem_map, List.mem_range] at hx
    obtain ⟨i, hi, rfl⟩ := hx
    exact ⟨by omega, by omega⟩
  have hE : ∀ (i : Nat) (hi : i < U.length), U[i] = (i : Int) := fun i hi => by subst hU; simp [upL]
  clear hU
  have H : ∀ d i : Nat, i + d = N → Ev (fun k => impl_net_setsInOrder.l0 k (U.take i ++ List.replicate (U.length - i) 0) (N : Int) (i : Int)) (ordL U) := by
    intro d
    induction d with
    | zero =>
      intro i hi
      obtain rfl : i = N := by omega
      rw [Ev.iff_succ]
      simp only [impl_net_setsInOrder.l0, Int.lt_irrefl, ↓reduceIte]
      have e : U.take i ++ List.replicate (U.length - i) 0 = U := by
        rw [hu, Nat.sub_self, List.replicate_zero, List.append_nil, List.take_of_length_le (by omega)]
      rw [e]
      exact finS_ev ⟨fun h => by rw [h] at hu; simp at hu; omega, by omega⟩ hR
    | succ d ih =>
      intro i hi
      have hlen : (U.take i ++ List.replicate (U.length - i) (0 : Int)).length = N := by
        rw [List.length_append, List.length_take, List.length_replicate]; omega
      have hs := set_fill U 0 i (by omega)
      rw [hE i (by omega)] at hs
      have ih1 := ih (i + 1) (by omega)
      rw [← hs] at ih1
      generalize U.take i ++ List.replicate (U.length - i) (0 : Int) = V at hlen ih1 ⊢
      have h1 : (i : Int) < (N : Int) := by omega
      have h2 : (0 : Int) ≤ i := by omega
      have h3 : (i : Int) < (V.length : Int) := by omega
      rw [Ev.iff_succ]
      simp only [impl_net_setsInOrder.l0, Ev.ite_iff, h1, h2, h3, ↓reduceIte, Int.toNat_natCast, w64_succ i (by omega)]
      exact ih1
  have := H N 0 (by omega)
  rw [List.take_zero, List.nil_append, Nat.sub_zero, hu] at this
  exact this

theorem setsInOrder_at {near : List Int} {N : Nat} (h8 : N ≤ 256) (hp : 0 < N) (h1 : impl_net_all.f near = some ((N - 1 : Nat) : Int)) (k : Nat) : impl_net_setsInOrder.f k near = impl_net_setsInOrder.l0 k (List.replicate N 0) (N : Int) 0 := by
  have h2 : wrap64 (((N - 1 : Nat) : Int) + 1) = (N : Int) := by rw [w64_succ _ (by omega), show N - 1 + 1 = N by omega]
  have h3 : (0 : Int) ≤ (N : Int) := by omega
  have h4 : ((N : Int)).toNat ≤ 35184372088832 := by omega
  unfold impl_net_setsInOrder.f
  rw [h1, Option.bind_some, h2, if_pos h3, if_pos h4, Int.toNat_natCast, Option.bind_some, List.length_replicate]

theorem setsInOrder_ev {es : List S119} {n : Nat} (hn : n ≤ 8) : Ev (fun k => impl_net_setsInOrder.f k (nets es n)) (ordL (upL (2 ^ n))) := by
  have h := setsInOrder_l0 (Nat.two_pow_pos n) (p8 hn)
  have e : (fun k => impl_net_setsInOrder.f k (nets es n)) = fun k => impl_net_setsInOrder.l0 k (List.replicate (2 ^ n) 0) ((2 ^ n : Nat) : Int) 0 := funext fun k => setsInOrder_at (p8 hn) (Nat.two_pow_pos n) (all_eq hn) k
  rw [e]
  exact h

theorem ordL_mem {n : Nat} (hn : n ≤ 8) {x : Int} : x ∈ ordL (upL (2 ^ n)) ↔ ∃ i : Nat, i < 2 ^ n ∧ x = (i : Int) := by
  have h8 := p8 hn
  unfold ordL ordF
  simp only [List.mem_map, List.mem_mergeSort, upL, List.map_map, List.mem_range, Function.comp]
  constructor
  · rintro ⟨y, ⟨i, hi, rfl⟩, rfl⟩
    refine ⟨i, hi, ?_⟩
    simp only [f256, Int.toNat_natCast]
    rw [Nat.mod_eq_of_lt (by omega)]
  · rintro ⟨i, hi, rfl⟩
    refine ⟨f256 i, ⟨i, hi, rfl⟩, ?_⟩
    simp only [f256, Int.toNat_natCast]
    rw [Nat.mod_eq_of_lt (by omega)]

theorem ordL_sorted (l : List Int) : (ordL l).Pairwise (fun a b => betM 8 b.toNat a.toNat = false) := by
  unfold ordL ordF
  rw [List.pairwise_map]
  have h := List.pairwise_mergeSort (le := fun x y : Fin 256 => !betM 8 y.val x.val) (fun a b c h1 h2 => ?_) (fun a b => ?_) (l.map f256)
  · refine h.imp (fun {a b} h => ?_)
    simpa using h
  · simp only [Bool.not_eq_true'] at *
    exact betM_ntrans (n := 8) c.isLt b.isLt h2 h1
  · cases h : betM 8 b.val a.val with
    | false => rfl
    | true =>
      cases g : betM 8 a.val b.val with
      | false => rfl
      | true => have := betM_trans h g; rw [betM_irr] at this; cases this

theorem bestF_least {p : Nat → Bool} {n : Nat} : ∀ (d c b : Nat), 2 ^ n = c + d → b < 2 ^ n → p b = true → (∀ y, y < c → p y = true → betM n y b = false) →
    p (bestF p n d c b) = true ∧ ∀ y, y < 2 ^ n → p y = true → betM n y (bestF p n d c b) = false
  | 0, c, b, hd, hb, hp, hl => by
    rw [bestF]
    exact ⟨hp, fun y hy => hl y (by omega)⟩
  | d + 1, c, b, hd, hb, hp, hl => by
    rw [bestF]
    by_cases g : (p c && betM n c b) = true
    · rw [if_pos g]
      rw [Bool.and_eq_true] at g
      refine bestF_least d (c + 1) c (by omega) (by omega) g.1 (fun y hy hpy => ?_)
      by_cases e : y = c
      · subst e; exact betM_irr n y
      · rw [Bool.eq_false_iff]
        intro hyc
        have := hl y (by omega) hpy
        rw [betM_trans hyc g.2] at this
        cases this
    · rw [if_neg g]
      refine bestF_least d (c + 1) b (by omega) hb hp (fun y hy hpy => ?_)
      by_cases e : y = c
      · subst e
        rw [hpy, Bool.true_and] at g
        exact Bool.eq_false_iff.2 g
      · exact hl y (by omega) hpy

/-- The least of the sets that p tells. -/
def leastM (p : Nat → Bool) (n : Nat) : Nat := bestF p n (2 ^ n) 0 (2 ^ n - 1)

theorem leastM_use {p : Nat → Bool} {n : Nat} (hf : p (2 ^ n - 1) = true) : leastM p n < 2 ^ n ∧ p (leastM p n) = true ∧ ∀ y, y < 2 ^ n → p y = true → betM n y (leastM p n) = false := by
  have hp := Nat.two_pow_pos n
  have h := bestF_least (p := p) (n := n) (2 ^ n) 0 (2 ^ n - 1) (by omega) (by omega) hf (fun y hy => absurd hy (Nat.not_lt_zero _))
  exact ⟨bestF_lt (2 ^ n) 0 (2 ^ n - 1) (by omega) (by omega), h⟩

theorem leastM_eq {p : Nat → Bool} {n b : Nat} (hf : p (2 ^ n - 1) = true) (hb : b < 2 ^ n) (hp : p b = true) (hl : ∀ y, y < 2 ^ n → p y = true → betM n y b = false) : b = leastM p n := by
  obtain ⟨h1, h2, h3⟩ := leastM_use hf
  exact betM_tot hb h1 (h3 b hb hp) (hl _ h1 h2)

theorem idxO_ev {q : Nat → Int → Option Bool} {p : Int → Bool} : ∀ (l : List Int) (i : Nat), (∀ x ∈ l, Ev (fun k => q k x) (p x)) → (∃ x ∈ l, p x = true) → Ev (fun k => idxO (q k) l (i : Int)) ((i + l.findIdx p : Nat) : Int)
  | [], _, _, h => by obtain ⟨x, hx, _⟩ := h; cases hx
  | x :: l, i, hq, h => by
    simp only [idxO]
    rw [Ev.bind_iff (hq x (by simp)), Ev.ite_iff, List.findIdx_cons]
    cases hp : p x with
    | true => simp [Ev.now_iff]
    | false =>
      simp only [Bool.false_eq_true, ↓reduceIte, cond_false]
      have h2 : ∃ y ∈ l, p y = true := by
        obtain ⟨y, hy, hpy⟩ := h
        rcases List.mem_cons.1 hy with e | hy
        · subst e; rw [hp] at hpy; cases hpy
        · exact ⟨y, hy, hpy⟩
      have := idxO_ev l (i + 1) (fun y hy => hq y (by simp [hy])) h2
      rw [show ((i + 1 : Nat) : Int) = (i : Int) + 1 by omega] at this
      rw [show i + (l.findIdx p + 1) = i + 1 + l.findIdx p by omega]
      exact this

theorem first_least {n : Nat} (hn : n ≤ 8) {p : Nat → Bool} (hf : p (2 ^ n - 1) = true) :
    (∃ x ∈ ordL (upL (2 ^ n)), p x.toNat = true) ∧ (ordL (upL (2 ^ n))).findIdx (fun x => p x.toNat) < (ordL (upL (2 ^ n))).length ∧ rd (ordL (upL (2 ^ n))) (((ordL (upL (2 ^ n))).findIdx (fun x => p x.toNat) : Nat) : Int) = ((leastM p n : Nat) : Int) := by
  have hp2 := Nat.two_pow_pos n
  have hex : ∃ x ∈ ordL (upL (2 ^ n)), p x.toNat = true := ⟨((2 ^ n - 1 : Nat) : Int), (ordL_mem hn).2 ⟨2 ^ n - 1, by omega, rfl⟩, by rw [Int.toNat_natCast]; exact hf⟩
  have hlt : (ordL (upL (2 ^ n))).findIdx (fun x => p x.toNat) < (ordL (upL (2 ^ n))).length := List.findIdx_lt_length.2 hex
  refine ⟨hex, hlt, ?_⟩
  rw [rd_lt _ _ hlt]
  have hpe := List.findIdx_getElem (w := hlt)
  have hnot := fun (j : Nat) (hj : j < (ordL (upL (2 ^ n))).findIdx (fun x => p x.toNat)) => List.not_of_lt_findIdx hj
  obtain ⟨e, he, hee⟩ := (ordL_mem hn).1 (List.getElem_mem hlt)
  rw [hee] at hpe ⊢
  simp only [Int.toNat_natCast] at hpe
  congr 1
  refine leastM_eq hf he hpe (fun y hy hpy => ?_)
  obtain ⟨j, hj, hjy⟩ := List.getElem_of_mem ((ordL_mem hn).2 ⟨y, hy, rfl⟩)
  rw [betM_wide hn hy he]
  rcases Nat.lt_trichotomy j ((ordL (upL (2 ^ n))).findIdx (fun x => p x.toNat)) with h | h | h
  · have := hnot j h
    rw [hjy] at this
    simp only [Int.toNat_natCast, hpy] at this
    exact absurd this (by simp)
  · subst h
    rw [hee] at hjy
    have : e = y := by omega
    subst this
    exact betM_irr 8 e
  · have := List.pairwise_iff_getElem.1 (ordL_sorted (upL (2 ^ n))) _ j hlt hj h
    rw [hee, hjy] at this
    simpa using this

theorem leastSet_ev {es : List S119} {n : Nat} (hn : n ≤ 8) {q : Nat → List Int → Int → Option Bool} {p : Nat → Bool} (hq : ∀ x : Nat, x < 2 ^ n → Ev (fun k => q k (nets es n) (x : Int)) (p x)) (hf : p (2 ^ n - 1) = true) :
    Ev (fun k => impl_net_leastSet.f q k (nets es n)) (bl n (leastM p n)) := by
  unfold impl_net_leastSet.f
  obtain ⟨hex, hlt, hrd⟩ := first_least hn hf
  rw [Ev.bind_iff (setsInOrder_ev hn)]
  have hi := idxO_ev (q := fun k => q k (nets es n)) (p := fun x => p x.toNat) (ordL (upL (2 ^ n))) 0 (fun x hx => by
    obtain ⟨i, hi, rfl⟩ := (ordL_mem hn).1 hx
    simp only [Int.toNat_natCast]
    exact hq i hi) hex
  rw [Nat.zero_add] at hi
  rw [Ev.bind_iff (show Ev (fun k => idxO (q k (nets es n)) (ordL (upL (2 ^ n))) 0) _ from hi)]
  generalize (ordL (upL (2 ^ n))).findIdx (fun x => p x.toNat) = j at hlt hrd ⊢
  have hm : mx 0 (j : Int) = (j : Int) := by unfold mx; split <;> omega
  rw [hm, Ev.ite_iff, if_pos (by omega), Ev.ite_iff, if_pos (by omega), hrd, Ev.bind_iff (setOf_ev n _ hn (leastM_use hf).1), Ev.now_iff]

theorem aroM_full (es : List S119) (n : Nat) : aroM es n (2 ^ n - 1) = 2 ^ n - 1 := by
  have hp := Nat.two_pow_pos n
  refine mask_ext (n := n) (aroM_lt (by omega)) (by omega) (fun i hi => ?_)
  have h1 : (2 ^ n - 1).testBit i = true := by rw [Nat.testBit_two_pow_sub_one]; simpa using hi
  rw [h1, aroM_bit]
  exact .inl h1

theorem beq_nat (a b : Nat) : (((a : Nat) : Int) == ((b : Nat) : Int)) = decide (a = b) := by
  by_cases g : a = b
  · rw [decide_eq_true g, g]; exact beq_self_eq_true _
  · rw [decide_eq_false g]; exact beq_eq_false_iff_ne.2 (by omega)

def domP (es : List S119) (n m : Nat) : Bool := decide (aroM es n m = 2 ^ n - 1)

theorem domP_full (es : List S119) (n : Nat) : domP es n (2 ^ n - 1) = true := by unfold domP; rw [aroM_full]; simp

def leastDominatingR (n : Int) (es : List S119) : List Int × Bool := if okG n es = true then (bl n.toNat (leastM (domP es n.toNat) n.toNat), true) else ([], false)

theorem leastDominatingR_len (n : Int) (es : List S119) : (leastDominatingR n es).1.length ≤ 1048576 := by
  unfold leastDominatingR
  split
  · rename_i h
    obtain ⟨N, rfl, hN⟩ := okG_use h
    have := bl_len_le N (leastM (domP es N) N)
    simp only [Int.toNat_natCast]; omega
  · simp

end Go.Proofs.Ytmokkhfmbenleaa.QLeastDominating
