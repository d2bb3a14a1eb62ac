import Derived.Test.YtfeaddkaommpgacQLeastSum0
import Derived.Test.YtfeaddkaommpgacQLeastSum11
import Derived.Test.YtfeaddkaommpgacQLeastSum12
import Derived.Test.YtfeaddkaommpgacQLeastSum6
import Derived.Test.YtfeaddkaommpgacQLeastSum7
import Derived.Test.YtfeaddkaommpgacQLeastSum8
import Derived.Test.YtfeaddkaommpgacQLeastSumA1
namespace Go.Proofs.Ytfeaddkaommpgac.QLeastSum
open Go.RowKit Go.Proofs.YtfeaddkaommpgacW.PrintWords Go.Proofs.YtfeaddkaommpgacW.PrintLast Go.Proofs.YtfeaddkaommpgacW.PrintMore
attribute [local go_sem] max2_int min2_int max_two min_two max_three min_three max_four min_four   -- for this text's walks alone
set_option linter.unusedVariables false
set_option linter.unusedSimpArgs false
/-- The round in which a node is coloured. -/
def rkM (es : List S81) (n : Nat) (x : Nat) (m : Nat) : Nat :=
  if m.testBit x then 0 else if h : m < 2 ^ n ∧ onceM es n m false ≠ m then rkM es n x (onceM es n m false) + 1 else 0
  termination_by 2 ^ n - m
  decreasing_by
  have := onceM_le es n m false
  have := onceM_lt (es := es) (skew := false) h.1
  omega

theorem rkM_in {es : List S81} {n x m : Nat} (h : m.testBit x = true) : rkM es n x m = 0 := by unfold rkM; rw [if_pos h]

theorem rkM_go {es : List S81} {n x m : Nat} (hm : m < 2 ^ n) (h : m.testBit x = false) (g : onceM es n m false ≠ m) : rkM es n x m = rkM es n x (onceM es n m false) + 1 := by rw [rkM, if_neg (by simp [h]), dif_pos ⟨hm, g⟩]

theorem once_sub {es : List S81} {n m : Nat} {skew : Bool} {i : Nat} (h : m.testBit i = true) : (onceM es n m skew).testBit i = true := fold_bits h n

theorem not_full {n m : Nat} (hm : m < 2 ^ n) (h : m ≠ 2 ^ n - 1) : ∃ x, x < n ∧ m.testBit x = false := by
  by_cases c : ∃ x, x < n ∧ m.testBit x = false
  · exact c
  · refine absurd (mask_ext (n := n) hm (by have := Nat.two_pow_pos n; omega) (fun i hi => ?_)) h
    rw [Nat.testBit_two_pow_sub_one]
    cases hb : m.testBit i
    · exact absurd ⟨i, hi, hb⟩ c
    · simp [hi]

theorem steps_rk {es : List S81} {n m : Nat} (hm : m < 2 ^ n) (hf : closM es n false m = 2 ^ n - 1) : (∀ x, x < n → rkM es n x m ≤ stepsM es n m) ∧ (stepsM es n m = 0 ∨ ∃ x, x < n ∧ rkM es n x m = stepsM es n m) := by
  obtain ⟨d, hd⟩ : ∃ d, d = 2 ^ n - m := ⟨_, rfl⟩
  induction d using Nat.strongRecOn generalizing m with
  | _ d ih =>
    have h1 := onceM_le es n m false
    have h2 := onceM_lt (es := es) (skew := false) hm
    by_cases f : m = 2 ^ n - 1
    · subst f
      refine ⟨fun x hx => ?_, .inl (stepsM_full _ _)⟩
      rw [rkM_in (by rw [Nat.testBit_two_pow_sub_one]; simp [hx])]; omega
    · have g : onceM es n m false ≠ m := fun g => f (by rw [← hf, closM_stop g])
      obtain ⟨i1, i2⟩ := ih _ (by omega) h2 (by rw [closM_once hm]; exact hf) rfl
      rw [stepsM_go hm f g]
      constructor
      · intro x hx
        cases c : m.testBit x
        · rw [rkM_go hm c g]; have := i1 x hx; omega
        · rw [rkM_in c]; omega
      · right
        rcases i2 with z | ⟨x, hx, e⟩
        · obtain ⟨x, hx, c⟩ := not_full hm f
          refine ⟨x, hx, ?_⟩
          rw [rkM_go hm c g]; have := i1 x hx; omega
        · by_cases z : stepsM es n (onceM es n m false) = 0
          · obtain ⟨x, hx, c⟩ := not_full hm f
            refine ⟨x, hx, ?_⟩
            rw [rkM_go hm c g]; have := i1 x hx; omega
          · refine ⟨x, hx, ?_⟩
            cases c : m.testBit x
            · rw [rkM_go hm c g]; omega
            · exfalso
              rw [rkM_in (once_sub c)] at e; omega

/-- A row of numbers by places. -/
def rowF (n : Nat) (f : Nat → Int) : List Int := (List.range n).map f

theorem rowF_len (n : Nat) (f : Nat → Int) : (rowF n f).length = n := by simp [rowF]

theorem rowF_rd {n : Nat} {f : Nat → Int} {i : Nat} (h : i < n) : rd (rowF n f) i = f i := by simp [rd, rowF, h]

theorem rowF_set {n : Nat} {f : Nat → Int} {i : Nat} {v : Int} (_ : i < n) : (rowF n f).set i v = rowF n (fun x => if x = i then v else f x) := by
  apply List.ext_getElem
  · simp [rowF]
  · intro j h1 h2
    simp only [List.getElem_set, rowF, List.getElem_map, List.getElem_range]
    by_cases e : i = j
    · subst e; simp
    · simp [e, show ¬ j = i from fun h => e h.symm]

theorem rowF_ext {n : Nat} {f g : Nat → Int} (h : ∀ x, x < n → f x = g x) : rowF n f = rowF n g := by
  unfold rowF
  exact List.map_congr_left (fun x hx => h x (List.mem_range.1 hx))

theorem rowF_zero (n : Nat) : List.replicate n (0 : Int) = rowF n (fun _ => 0) := by
  apply List.ext_getElem
  · simp [rowF]
  · intro i h1 h2; simp [rowF]

theorem l3Sign_eq (b : Bool) : spec_l3Sign.f b = some (if b then 0 else -1) := by cases b <;> rfl

/-- The numbers of rounds so far: of those coloured their rounds, of the others -1. -/
def rndF (R : Nat → Nat) (now : Nat) (x : Nat) : Int := if now.testBit x then (R x : Int) else -1

theorem l9Rounds_l2 {es : List S81} {n : Nat} {R : Nat → Nat} {now nx : Nat} {r : Nat} {res : List Int} (hn : n ≤ 8) (hnx : nx < 2 ^ n) (hs : ∀ x, now.testBit x = true → nx.testBit x = true)
    (hR : ∀ x, x < n → now.testBit x = false → nx.testBit x = true → R x = r)
    (hend : Ev (fun k => spec_l9Rounds.l1 k (rowF n (rndF R nx)) (bl n nx) (wrap64 ((r : Int) + 1)) n es) res) :
    Ev (fun k => spec_l9Rounds.l2 k (rowF n (rndF R now)) r (bl n nx) 0 n es) res := by
  have hb := bl_len_le n nx
  have H := down (bl n nx).length (fun j => Ev (fun k => spec_l9Rounds.l2 k (rowF n (fun x => if now.testBit x || decide ((x : Int) ∈ (bl n nx).take j) then (R x : Int) else -1)) r (bl n nx) j n es) res) ?_ ?_ 0 (by omega)
  · have e : rowF n (rndF R now) = rowF n (fun x => if now.testBit x || decide ((x : Int) ∈ (bl n nx).take 0) then (R x : Int) else -1) := rowF_ext (fun x _ => by simp [rndF])
    rw [e]; exact H
  · show Ev _ _
    rw [Ev.iff_succ]
    simp only [spec_l9Rounds.l2, Int.lt_irrefl, ↓reduceIte, List.take_length]
    have e : rowF n (rndF R nx) = rowF n (fun x => if now.testBit x || decide ((x : Int) ∈ bl n nx) then (R x : Int) else -1) := rowF_ext (fun x hx => by
      unfold rndF
      congr 1
      rw [eq_iff_iff, Bool.or_eq_true, decide_eq_true_eq, mem_bl_nat]
      constructor
      · intro h; exact .inr ⟨hx, h⟩
      · rintro (h | h)
        · exact hs x h
        · exact h.2)
    rw [← e]; exact hend
  · intro j hj ih
    show Ev _ _
    rw [Ev.iff_succ]
    have h1 : (j : Int) < ((bl n nx).length : Int) := by omega
    have h2 : (0 : Int) ≤ j := by omega
    obtain ⟨y, hy, hyb, hye⟩ := rd_bl hj
    have h3 : (0 : Int) ≤ y := by omega
    have h4 : (y : Int) < (n : Int) := by omega
    have ht : ∀ x : Nat, ((x : Int) ∈ (bl n nx).take (j + 1)) ↔ ((x : Int) ∈ (bl n nx).take j ∨ x = y) := fun x => by
      rw [List.take_succ_eq_append_getElem hj, List.mem_append, List.mem_singleton, hye]
      constructor
      · rintro (h | h)
        · exact .inl h
        · exact .inr (by omega)
      · rintro (h | h)
        · exact .inl h
        · exact .inr (by omega)
    simp only [spec_l9Rounds.l2, Ev.ite_iff, h1, h2, ↓reduceIte, rd_lt _ j hj, hye, h3, rowF_len, h4, rowF_rd hy, w64_succ j (by omega), Int.toNat_natCast, rowF_set hy]
    by_cases c : (now.testBit y || decide ((y : Int) ∈ (bl n nx).take j)) = true
    · rw [if_pos c, if_neg (by omega)]
      have e : rowF n (fun x => if now.testBit x || decide ((x : Int) ∈ (bl n nx).take (j + 1)) then (R x : Int) else -1) = rowF n (fun x => if now.testBit x || decide ((x : Int) ∈ (bl n nx).take j) then (R x : Int) else -1) := rowF_ext (fun x _ => by
        congr 1
        rw [eq_iff_iff, Bool.or_eq_true, Bool.or_eq_true, decide_eq_true_eq, decide_eq_true_eq, ht]
        constructor
        · rintro (h | h | h)
          · exact .inl h
          · exact .inr h
          · subst h; simpa using c
        · rintro (h | h)
          · exact .inl h
          · exact .inr (.inl h))
      rw [e] at ih; exact ih
    · rw [if_neg c, if_pos (by omega)]
      have c1 : now.testBit y = false := by cases h : now.testBit y <;> simp [h] at c ⊢
      have e : rowF n (fun x => if now.testBit x || decide ((x : Int) ∈ (bl n nx).take (j + 1)) then (R x : Int) else -1) = rowF n (fun x => if x = y then (r : Int) else if now.testBit x || decide ((x : Int) ∈ (bl n nx).take j) then (R x : Int) else -1) := rowF_ext (fun x hx => by
        by_cases e : x = y
        · subst e
          rw [if_pos rfl, if_pos (by rw [Bool.or_eq_true, decide_eq_true_eq, ht]; exact .inr (.inr rfl)), hR x hy c1 hyb]
        · rw [if_neg e]
          congr 1
          rw [eq_iff_iff, Bool.or_eq_true, Bool.or_eq_true, decide_eq_true_eq, decide_eq_true_eq, ht]
          simp [e])
      rw [e] at ih; exact ih

theorem l9Rounds_l1 {es : List S81} {n : Nat} {R : Nat → Nat} (hn : n ≤ 8) (hl : es.length ≤ 9223372036854775807) : ∀ (d i now : Nat), n = i + d → now < 2 ^ n → closM es n false now = 2 ^ n - 1 → (now = 2 ^ n - 1 ∨ i ≤ (bl n now).length) → (∀ x, x < n → now.testBit x = false → R x = i + rkM es n x now) →
    Ev (fun k => spec_l9Rounds.l1 k (rowF n (rndF R now)) (bl n now) ((i + 1 : Nat) : Int) n es) (rowF n (fun x => (R x : Int)))
  | 0, i, now, hd, hm, hf, hlen, hR => by
    rw [Ev.iff_succ]
    have h1 : ¬ ((i + 1 : Nat) : Int) ≤ (n : Int) := by omega
    simp only [spec_l9Rounds.l1, h1, ↓reduceIte, Ev.now_iff]
    have hful : now = 2 ^ n - 1 := by
      rcases hlen with h | h
      · exact h
      · exact (bl_len_full n hn now hm).1 (by have := bl_len_le n now; omega)
    refine rowF_ext (fun x hx => ?_)
    unfold rndF
    rw [if_pos (by rw [hful, Nat.testBit_two_pow_sub_one]; simp [hx])]
  | d + 1, i, now, hd, hm, hf, hlen, hR => by
    rw [Ev.iff_succ]
    have h1 : ((i + 1 : Nat) : Int) ≤ (n : Int) := by omega
    simp only [spec_l9Rounds.l1, h1, ↓reduceIte]
    rw [Ev.bind_iff (l9Once_ev es n now false hn hm hl)]
    have h2 := onceM_lt (es := es) (skew := false) hm
    have hgo : ∀ x, x < n → now.testBit x = false → onceM es n now false ≠ now := fun x hx hb g => by
      have : now = 2 ^ n - 1 := by rw [← hf, closM_stop g]
      rw [this, Nat.testBit_two_pow_sub_one] at hb; simp [hx] at hb
    refine l9Rounds_l2 hn h2 (fun x h => once_sub h) (fun x hx hb hc => ?_) ?_
    · rw [hR x hx hb, rkM_go hm hb (hgo x hx hb), rkM_in hc]
    · rw [w64_succ (i + 1) (by omega)]
      refine l9Rounds_l1 hn hl d (i + 1) _ (by omega) h2 (by rw [closM_once hm]; exact hf) ?_ (fun x hx hb => ?_)
      · by_cases g : onceM es n now false = now
        · left; rw [g, ← hf, closM_stop g]
        · rcases hlen with h | h
          · exact absurd (by have := onceM_le es n now false; omega) g
          · right
            have h4 : (bl n now).length ≤ (bl n (onceM es n now false)).length := by
              rw [bl_len, bl_len]; exact (cnt_mono n (fun i _ hi => once_sub hi)).1
            by_cases e : (bl n (onceM es n now false)).length ≤ (bl n now).length
            · exact absurd (sub_len hm h2 (fun i _ hi => once_sub hi) e) g
            · omega
      · have hb0 : now.testBit x = false := by
          cases h : now.testBit x
          · rfl
          · rw [once_sub h] at hb; cases hb
        rw [hR x hx hb0, rkM_go hm hb0 (hgo x hx hb0)]; omega

theorem l9Rounds_ev (es : List S81) (n m : Nat) (hn : n ≤ 8) (hm : m < 2 ^ n) (hl : es.length ≤ 9223372036854775807) (hf : closM es n false m = 2 ^ n - 1) : Ev (fun k => spec_l9Rounds.f k n es (bl n m)) (rowF n (fun x => (rkM es n x m : Int))) := by
  have hb := bl_len_le n m
  unfold spec_l9Rounds.f
  rw [Ev.ite_iff, if_pos (by omega), Ev.ite_iff, if_pos (by omega), Int.toNat_natCast, rowF_zero]
  have H := down n (fun i => Ev (fun k => spec_l9Rounds.l0 k (bl n m) (rowF n (fun x => if x < i then (if m.testBit x then 0 else -1) else 0)) (bl n m) i n es) (rowF n (fun x => (rkM es n x m : Int)))) ?_ ?_ 0 (by omega)
  · simpa using H
  · show Ev _ _
    rw [Ev.iff_succ]
    simp only [spec_l9Rounds.l0, Int.lt_irrefl, ↓reduceIte]
    have e : rowF n (fun x => if x < n then (if m.testBit x then (0 : Int) else -1) else 0) = rowF n (rndF (fun x => rkM es n x m) m) := rowF_ext (fun x hx => by
      unfold rndF
      rw [if_pos hx]
      by_cases c : m.testBit x = true
      · rw [if_pos c, if_pos c]; show (0 : Int) = ((rkM es n x m : Nat) : Int); rw [rkM_in c]; rfl
      · rw [if_neg c, if_neg c])
    rw [e]
    exact l9Rounds_l1 (R := fun x => rkM es n x m) hn hl n 0 m (by omega) hm hf (.inr (by omega)) (fun x _ _ => by omega)
  · intro i hi ih
    show Ev _ _
    rw [Ev.iff_succ]
    have h1 : (i : Int) < (n : Int) := by omega
    have h2 : (0 : Int) ≤ i := by omega
    simp only [spec_l9Rounds.l0, Ev.ite_iff, h1, h2, ↓reduceIte, Ev.bind_iff (l1Has_ev (bl n m) i (by omega)), l3Sign_eq, Option.bind_some, rowF_len, w64_succ i (by omega), Int.toNat_natCast, rowF_set hi, mem_bl_nat, hi, true_and]
    have e : rowF n (fun x => if x < i + 1 then (if m.testBit x then (0 : Int) else -1) else 0) = rowF n (fun x => if x = i then (if decide (m.testBit i = true) = true then 0 else -1) else if x < i then (if m.testBit x then 0 else -1) else 0) := rowF_ext (fun x _ => by
      by_cases e : x = i
      · subst e; simp
      · rw [if_neg e]
        by_cases c : x < i
        · rw [if_pos c, if_pos (by omega)]
        · rw [if_neg c, if_neg (by omega)])
    rw [e] at ih; exact ih

theorem l1Most_eq (a b : Int) : spec_l1Most.f a b = some (if a > b then a else b) := by unfold spec_l1Most.f; split <;> rfl

theorem l7Greatest_ev (l : List Int) (hl : l.length ≤ 9223372036854775806) (G : Int) (h1 : ∀ x ∈ l, x ≤ G) (h0 : 0 ≤ G) (h2 : G = 0 ∨ G ∈ l) : Ev (fun k => spec_l7Greatest.f k l) G := by
  have H := down l.length (fun i => ∀ a : Int, a ≤ G → (G = a ∨ G ∈ l.drop i) → Ev (fun k => spec_l7Greatest.l0 k l a i) G) ?_ ?_ 0 (by omega) 0 h0 (by simpa using h2)
  · exact H
  · intro a _ ha
    rw [Ev.iff_succ]
    simp only [spec_l7Greatest.l0, Int.lt_irrefl, ↓reduceIte, Ev.now_iff]
    rcases ha with h | h
    · exact h.symm
    · simp at h
  · intro i hi ih a ha hg
    rw [Ev.iff_succ]
    have g1 : (i : Int) < l.length := by omega
    have g2 : (0 : Int) ≤ i := by omega
    have hx := h1 l[i] (List.getElem_mem hi)
    simp only [spec_l7Greatest.l0, Ev.ite_iff, g1, g2, ↓reduceIte, rd_lt l i hi, l1Most_eq, Option.bind_some, w64_succ i (by omega)]
    rw [List.drop_eq_getElem_cons hi, List.mem_cons] at hg
    refine ih _ (by split <;> omega) ?_
    rcases hg with h | h | h
    · left; split <;> omega
    · left; split <;> omega
    · exact .inr h

theorem l1Least_eq (a b : Int) : spec_l1Least.f a b = some (if a < b then a else b) := by unfold spec_l1Least.f; split <;> rfl

def lsM (es : List S81) (n c : Nat) : Nat := (bl n c).length + stepsM es n c

/-- The least sum behind some sets. -/
def lsF (es : List S81) (n : Nat) : Nat → Nat → Nat → Nat
  | 0, _, best => best
  | d + 1, c, best => lsF es n d (c + 1) (min best (lsM es n c))

theorem stepsM_bd {es : List S81} {n m : Nat} (hm : m < 2 ^ n) : stepsM es n m ≤ (2 ^ n - m) + 8 := by
  obtain ⟨d, hd⟩ : ∃ d, d = 2 ^ n - m := ⟨_, rfl⟩
  induction d using Nat.strongRecOn generalizing m with
  | _ d ih =>
    have h1 := onceM_le es n m false
    have h2 := onceM_lt (es := es) (skew := false) hm
    by_cases f : m = 2 ^ n - 1
    · rw [f, stepsM_full]; omega
    · by_cases g : onceM es n m false = m
      · rw [stepsM_stop f g]; omega
      · rw [stepsM_go hm f g]
        have := ih _ (by omega) h2 rfl
        omega

def leastSumR (n : Int) (es : List S81) : Int × Bool := if okG n es then ((lsF es n.toNat (2 ^ n.toNat) 0 n.toNat : Nat), true) else (0, false)

theorem specLeastSum_l0 {es : List S81} {n : Nat} (hn : n ≤ 8) (hl : es.length ≤ 9223372036854775807) : ∀ (d c best : Nat), 2 ^ n = c + d → best ≤ n → Ev (fun k => spec_LeastSum.l0 k best c n es) (((lsF es n d c best : Nat) : Int), true)
  | 0, c, best, hd, hb => by
    rw [Ev.iff_succ]
    have h2 : (0 : Int) ≤ n := by omega
    simp only [spec_LeastSum.l0, h2, ↓reduceIte, shl_one (show n < 62 by omega), Ev.ite_iff]
    rw [if_neg (by omega), Ev.now_iff, lsF]
  | d + 1, c, best, hd, hb => by
    rw [Ev.iff_succ]
    have h2 : (0 : Int) ≤ n := by omega
    have hc : c < 2 ^ n := by omega
    have h8 := p8 hn
    have hbl := bl_len_le n c
    simp only [spec_LeastSum.l0, h2, ↓reduceIte, shl_one (show n < 62 by omega), Ev.ite_iff]
    rw [if_pos (by omega), Ev.bind_iff (l2Bits_ev n c hn hc), Ev.bind_iff (l9Forces_ev es n c hn hc hl), Ev.ite_iff, lsF]
    by_cases f : closM es n false c = 2 ^ n - 1
    · obtain ⟨g1, g2⟩ := steps_rk hc f
      have hbd := stepsM_bd (es := es) hc
      have hG := l7Greatest_ev (rowF n (fun x => (rkM es n x c : Int))) (by rw [rowF_len]; omega) ((stepsM es n c : Nat) : Int)
        (fun x hx => by
          simp only [rowF, List.mem_map, List.mem_range] at hx
          obtain ⟨y, hy, rfl⟩ := hx
          have := g1 y hy; omega) (by omega)
        (by
          rcases g2 with h | ⟨x, hx, h⟩
          · left; omega
          · right
            simp only [rowF, List.mem_map, List.mem_range]
            exact ⟨x, hx, by omega⟩)
      rw [if_pos (by simp [f]), Ev.bind_iff (l9Rounds_ev es n c hn hc hl f), Ev.bind_iff hG, l1Least_eq]
      simp only [Option.bind_some]
      rw [w64 (by omega) (by omega), w64_succ c (by omega)]
      have := specLeastSum_l0 hn hl d (c + 1) (min best (lsM es n c)) (by omega) (by omega)
      have e : (if (best : Int) < ((bl n c).length : Int) + ((stepsM es n c : Nat) : Int) then (best : Int) else ((bl n c).length : Int) + ((stepsM es n c : Nat) : Int)) = ((min best (lsM es n c) : Nat) : Int) := by
        unfold lsM; split <;> omega
      rw [e]; exact this
    · have h8' := stepsM_never hc f
      rw [if_neg (by simp [f]), w64_succ c (by omega)]
      have := specLeastSum_l0 hn hl d (c + 1) (min best (lsM es n c)) (by omega) (by omega)
      have e : min best (lsM es n c) = best := by unfold lsM; omega
      rw [e] at this ⊢; exact this

theorem specLeastSum_ev (n : Int) (es : List S81) (he : es.length ≤ 9223372036854775807) : Ev (fun k => spec_LeastSum.f k n es) (leastSumR n es) := by
  unfold spec_LeastSum.f leastSumR
  rw [l2Good_eq]
  simp only [Option.bind_some, Ev.ite_iff]
  by_cases h : okG n es = true
  · have h2 := h
    simp only [okG, Bool.and_eq_true, decide_eq_true_eq] at h2
    obtain ⟨N, rfl⟩ : ∃ N : Nat, n = N := ⟨n.toNat, by omega⟩
    rw [if_pos h, if_pos h, Int.toNat_natCast]
    exact specLeastSum_l0 (by omega) he (2 ^ N) 0 N (by omega) (Nat.le_refl _)
  · rw [if_neg h, if_neg h, Ev.now_iff]

theorem implLeastSum_l1 {es : List S81} {n : Nat} (hn : n ≤ 8) (best W c : Int) (res : Int × Bool) : ∀ (m : Nat), m < 2 ^ n → ∀ s : Nat, s + (2 ^ n - m) ≤ 1000 →
    Ev (fun k => impl_LeastSum.l0 k (mn best ((s + stepsM es n m : Nat) : Int)) W (wrap64 (c + 1)) (nets es n)) res → Ev (fun k => impl_LeastSum.l1 k best s m W c (nets es n)) res := by
  intro m hm
  obtain ⟨d, hd⟩ : ∃ d, d = 2 ^ n - m := ⟨_, rfl⟩
  induction d using Nat.strongRecOn generalizing m with
  | _ d ih =>
    intro s hs hend
    rw [Ev.iff_succ]
    have h1 := onceM_le es n m false
    have h2 := onceM_lt (es := es) (skew := false) hm
    simp only [impl_LeastSum.l1, all_eq hn, Option.bind_some, Ev.ite_iff]
    by_cases f : m = 2 ^ n - 1
    · rw [if_pos (by rw [f])]
      rw [f, stepsM_full] at hend; exact hend
    · rw [if_neg (by omega), Ev.bind_iff (forced_ev es n m false hn hm), Ev.ite_iff]
      by_cases g : onceM es n m false = m
      · rw [if_pos (by rw [g]), w64 (by omega) (by omega)]
        rw [stepsM_stop f g] at hend
        exact hend
      · rw [if_neg (by omega), w64_succ s (by omega)]
        refine ih _ (by omega) _ h2 rfl (s + 1) (by omega) ?_
        rw [stepsM_go hm f g] at hend
        rw [show s + 1 + stepsM es n (onceM es n m false) = s + (stepsM es n (onceM es n m false) + 1) by omega]
        exact hend

theorem implLeastSum_l0 {es : List S81} {n : Nat} (hn : n ≤ 8) : ∀ (d c best : Nat), 2 ^ n = c + d → best ≤ n → Ev (fun k => impl_LeastSum.l0 k best ((2 ^ n : Nat) : Int) c (nets es n)) (((lsF es n d c best : Nat) : Int), true)
  | 0, c, best, hd, hb => by
    rw [Ev.iff_succ]
    simp only [impl_LeastSum.l0, Ev.ite_iff]
    rw [if_neg (by omega), Ev.now_iff, lsF]
  | d + 1, c, best, hd, hb => by
    rw [Ev.iff_succ]
    have hc : c < 2 ^ n := by omega
    have h8 := p8 hn
    have hbl := bl_len_le n c
    simp only [impl_LeastSum.l0, Ev.ite_iff]
    rw [if_pos (by omega), ones_bl hn hc]
    simp only [Option.bind_some]
    refine implLeastSum_l1 hn best _ c _ c hc (bl n c).length (by omega) ?_
    rw [w64_succ c (by omega), lsF]
    have := implLeastSum_l0 (es := es) hn d (c + 1) (min best (lsM es n c)) (by omega) (by omega)
    have e : mn (best : Int) (((bl n c).length + stepsM es n c : Nat) : Int) = ((min best (lsM es n c) : Nat) : Int) := by
      unfold mn lsM; split <;> omega
    rw [e]; exact this

theorem implLeastSum_ev (n : Int) (es : List S81) : Ev (fun k => impl_LeastSum.f k n es) (leastSumR n es) := by
  unfold impl_LeastSum.f leastSumR
  rw [IsGraph_eq]
  simp only [Option.bind_some, Ev.ite_iff]
  by_cases h : okG n es = true
  · have h2 := h
    simp only [okG, Bool.and_eq_true, decide_eq_true_eq] at h2
    obtain ⟨N, rfl⟩ : ∃ N : Nat, n = N := ⟨n.toNat, by omega⟩
    have h8 := p8 (show N ≤ 8 by omega)
    have hp := Nat.two_pow_pos N
    rw [if_pos h, if_pos h, netOf_eq h]
    simp only [Option.bind_some, all_eq (show N ≤ 8 by omega)]
    rw [w64_succ _ (by omega), show 2 ^ N - 1 + 1 = 2 ^ N by omega, Int.toNat_natCast]
    exact implLeastSum_l0 (by omega) (2 ^ N) 0 N (by omega) (Nat.le_refl _)
  · rw [if_neg h, if_neg h, Ev.now_iff]

theorem FnExactLeastSum_pure (n : Int) (es : List S81) (he : es.length ≤ 9223372036854775807) : Ev (fun k => laws_FnExactLeastSum.f k n es) true := by
  unfold laws_FnExactLeastSum.f
  rw [szGraph_eq n es (by omega)]
  simp only [Option.bind_some, Ev.ite_iff]
  by_cases hs : es.length ≤ 1048576
  case neg => rw [if_neg hs, if_pos (by omega), Ev.now_iff]
  rw [if_pos hs, if_neg (by omega)]
  have hg := toGraph_ev n es (by omega)
  have hS := specLeastSum_ev n es  (by omega)
  have hI := implLeastSum_ev n es 
  generalize leastSumR n es = R at hS hI
  rw [Ev.bind_iff hg, Ev.bind_iff hS, Ev.bind_iff hg, Ev.bind_iff hI]
  simp only [bne_self_eq_false, Bool.false_eq_true, ↓reduceIte]
  rw [Ev.iff_succ]
  simp only [laws_FnExactLeastSum.j0, Bool.false_eq_true, ↓reduceIte]
  rw [Ev.bind_iff hg, Ev.bind_iff (eqGraph_refl n es he)]
  simp only [↓reduceIte]
  rw [Ev.now_iff]

end Go.Proofs.Ytfeaddkaommpgac.QLeastSum
