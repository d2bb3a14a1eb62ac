import Derived.Test.YtbhkimopcliepaaQBurntBy0
import Derived.Test.YtbhkimopcliepaaQBurntBy10
import Derived.Test.YtbhkimopcliepaaQBurntBy2
import Derived.Test.YtbhkimopcliepaaQBurntBy4
import Derived.Test.YtbhkimopcliepaaQBurntBy5
import Derived.Test.YtbhkimopcliepaaQBurntBy7
import Derived.Test.YtbhkimopcliepaaQBurntByA1
namespace Go.Proofs.Ytbhkimopcliepaa.QBurntBy
open Go.RowKit Go.Proofs.YtbhkimopcliepaaW.PrintWords Go.Proofs.YtbhkimopcliepaaW.PrintLast Go.Proofs.YtbhkimopcliepaaW.PrintMore
attribute [local go_sem] max2_int min2_int max_two min_two max_three min_three max_four min_four   -- for this text's walks alone
set_option linter.unusedVariables false
set_option linter.unusedSimpArgs false
def newP (es : List S100) (n x d : Nat) : Nat → Nat → Bool
  | 0, _ => false
  | y + 1, z => newP es n x d y z || (layD es n x d y && near es y z)

theorem newP_iff {es : List S100} {n x d z : Nat} : ∀ y, newP es n x d y z = true ↔ ∃ u, u < y ∧ layD es n x d u = true ∧ near es u z = true
  | 0 => by simp [newP]
  | y + 1 => by
    rw [newP, Bool.or_eq_true, Bool.and_eq_true, newP_iff y]
    constructor
    · rintro (⟨u, h, g⟩ | g)
      · exact ⟨u, by omega, g⟩
      · exact ⟨y, by omega, g⟩
    · rintro ⟨u, h, g⟩
      by_cases e : u = y
      · subst e; exact .inr g
      · exact .inl ⟨u, by omega, g⟩

theorem rowP_end {es : List S100} {n x d : Nat} (hx : x < n) : rowF n (rowP es n x d (newP es n x d n)) = rowF n (rowD es n x (d + 1)) := by
  refine rowF_ext (fun z hz => ?_)
  unfold rowP rowD
  cases c : (ballM es n x d).testBit z
  · have key : (ballM es n x (d + 1)).testBit z = newP es n x d n z := by
      rw [Bool.eq_iff_iff, newP_iff]
      show (aroM es n (ballM es n x d)).testBit z = true ↔ _
      rw [aroM_bit]
      constructor
      · rintro (h | ⟨u, h1, h2, h3⟩)
        · rw [c] at h; cases h
        · rw [nb_bit] at h3
          simp only [Bool.and_eq_true, decide_eq_true_eq] at h3
          refine ⟨u, h1, ?_, h3.2⟩
          unfold layD
          rw [h2, Bool.true_and, decide_eq_true_eq, lvD_eq]
          by_cases e : d = 0
          · exact .inl e
          · right
            cases g : (ballM es n x (d - 1)).testBit u
            · rfl
            · exfalso
              have : (ballM es n x (d - 1 + 1)).testBit z = true := (aroM_bit _ _ _ _).2 (.inr ⟨u, h1, g, by rw [nb_bit]; simp [hz, h3.2]⟩)
              rw [show d - 1 + 1 = d by omega, c] at this; cases this
      · rintro ⟨u, h1, h2, h3⟩
        unfold layD at h2
        rw [Bool.and_eq_true] at h2
        exact .inr ⟨u, h1, h2.1, by rw [nb_bit]; simp [hz, h3]⟩
    rw [key]
    simp only [Bool.false_eq_true, ↓reduceIte]
    cases newP es n x d n z
    · rfl
    · simp only [↓reduceIte, lvD, c, Bool.false_eq_true]; omega
  · have h1 : (ballM es n x (d + 1)).testBit z = true := ballM_mono c
    simp only [h1, ↓reduceIte, lvD, c]

theorem rowP_begin {es : List S100} {n x d : Nat} : rowF n (rowD es n x d) = rowF n (rowP es n x d (newP es n x d 0)) := by
  refine rowF_ext (fun z _ => ?_)
  unfold rowP rowD
  simp [newP]

def distL (es : List S100) (n : Nat) : List (List Int) := (List.range n).map (fun x => rowF n (rowD es n x n))

theorem l2Dist_l4 {es : List S100} {n x d y : Nat} {acc : List (List Int)} {res : List (List Int)} (hn : n ≤ 8) (hl : es.length ≤ 9223372036854775807) (hd : d < n) (hy : y < n)
    (hend : Ev (fun k => spec_l2Dist.l3 k acc x (rowF n (rowP es n x d (newP es n x d (y + 1)))) d ((y + 1 : Nat) : Int) n es) res) :
    Ev (fun k => spec_l2Dist.l4 k acc x (rowF n (rowP es n x d (newP es n x d y))) d y 0 n es) res := by
  have H := down n (fun z => Ev (fun k => spec_l2Dist.l4 k acc x (rowF n (rowP es n x d (fun u => newP es n x d y u || (decide (u < z) && (layD es n x d y && near es y u))))) d y z n es) res) ?_ ?_ 0 (by omega)
  · have e : rowF n (rowP es n x d (newP es n x d y)) = rowF n (rowP es n x d (fun u => newP es n x d y u || (decide (u < 0) && (layD es n x d y && near es y u)))) := rowF_ext (fun u _ => by unfold rowP; simp)
    rw [e]; exact H
  · show Ev _ _
    rw [Ev.iff_succ]
    simp only [spec_l2Dist.l4, Int.lt_irrefl, ↓reduceIte, w64_succ y (by omega)]
    have e : rowF n (rowP es n x d (fun u => newP es n x d y u || (decide (u < n) && (layD es n x d y && near es y u)))) = rowF n (rowP es n x d (newP es n x d (y + 1))) := rowF_ext (fun u hu => by unfold rowP; simp [newP, hu])
    rw [e]; exact hend
  · intro z hz ih
    show Ev _ _
    rw [Ev.iff_succ]
    have h1 : (z : Int) < (n : Int) := by omega
    have h2 : (0 : Int) ≤ y := by omega
    have h3 : (y : Int) < (n : Int) := by omega
    have h4 : (0 : Int) ≤ z := by omega
    simp only [spec_l2Dist.l4, Ev.ite_iff, h1, h2, h3, h4, ↓reduceIte, rowF_len, rowF_rd hy, rowF_rd hz, Ev.bind_iff (l2Near_ev n es y z hl), w64_succ z (by omega), w64_succ d (by omega), Int.toNat_natCast, rowF_set hz]
    have hlay : rowP es n x d (fun u => newP es n x d y u || (decide (u < z) && (layD es n x d y && near es y u))) y = (d : Int) ↔ layD es n x d y = true := by
      unfold rowP layD
      cases c : (ballM es n x d).testBit y
      · simp only [Bool.false_eq_true, ↓reduceIte, Bool.false_and, iff_false]
        split <;> omega
      · simp only [↓reduceIte, Bool.true_and, decide_eq_true_eq]; omega
    by_cases cl : layD es n x d y = true
    · rw [if_pos (hlay.2 cl)]
      rw [cl] at ih ⊢
      simp only [Bool.true_and] at ih ⊢
      by_cases c : rowP es n x d (fun u => newP es n x d y u || (decide (u < z) && near es y u)) z < 0
      · rw [if_pos c]
        have hb : (ballM es n x d).testBit z = false := by
          cases hb : (ballM es n x d).testBit z
          · rfl
          · unfold rowP at c; rw [hb] at c; simp only [↓reduceIte] at c; omega
        cases hnr : near es y z
        · rw [if_neg (by simp)]
          have e : rowF n (rowP es n x d (fun u => newP es n x d y u || (decide (u < z + 1) && near es y u))) = rowF n (rowP es n x d (fun u => newP es n x d y u || (decide (u < z) && near es y u))) := rowF_ext (fun u _ => by
            unfold rowP
            by_cases eu : u = z
            · subst eu; simp [hnr]
            · have : decide (u < z + 1) = decide (u < z) := by rw [decide_eq_decide]; omega
              simp only [this])
          rw [e] at ih; exact ih
        · rw [if_pos rfl]
          have e : rowF n (rowP es n x d (fun u => newP es n x d y u || (decide (u < z + 1) && near es y u))) = rowF n (fun u => if u = z then ((d + 1 : Nat) : Int) else rowP es n x d (fun u => newP es n x d y u || (decide (u < z) && near es y u)) u) := rowF_ext (fun u _ => by
            unfold rowP
            by_cases eu : u = z
            · subst eu; simp [hnr, hb]
            · have : decide (u < z + 1) = decide (u < z) := by rw [decide_eq_decide]; omega
              simp only [this, eu, ↓reduceIte])
          rw [e] at ih; exact ih
      · rw [if_neg c]
        have e : rowF n (rowP es n x d (fun u => newP es n x d y u || (decide (u < z + 1) && near es y u))) = rowF n (rowP es n x d (fun u => newP es n x d y u || (decide (u < z) && near es y u))) := rowF_ext (fun u _ => by
          by_cases eu : u = z
          · subst eu
            unfold rowP at c ⊢
            cases hb : (ballM es n x d).testBit u
            · rw [hb] at c
              simp only [Bool.false_eq_true, ↓reduceIte, Nat.lt_irrefl, decide_false, Bool.false_and, Bool.or_false] at c ⊢
              by_cases hp : newP es n x d y u = true
              · simp [hp]
              · rw [if_neg hp] at c; exact absurd (by decide : (-1 : Int) < 0) c
            · simp
          · unfold rowP
            have : decide (u < z + 1) = decide (u < z) := by rw [decide_eq_decide]; omega
            simp only [this])
        rw [e] at ih; exact ih
    · rw [if_neg (fun h => cl (hlay.1 h))]
      have cl' : layD es n x d y = false := Bool.eq_false_iff.2 cl
      rw [cl'] at ih ⊢
      simp only [Bool.false_and, Bool.and_false, Bool.or_false] at ih ⊢
      exact ih

theorem l2Dist_l3 {es : List S100} {n x d : Nat} {acc : List (List Int)} {res : List (List Int)} (hn : n ≤ 8) (hl : es.length ≤ 9223372036854775807) (hx : x < n) (hd : d < n)
    (hend : Ev (fun k => spec_l2Dist.l2 k acc x (rowF n (rowD es n x (d + 1))) ((d + 1 : Nat) : Int) n es) res) :
    Ev (fun k => spec_l2Dist.l3 k acc x (rowF n (rowD es n x d)) d 0 n es) res := by
  have H := down n (fun y => Ev (fun k => spec_l2Dist.l3 k acc x (rowF n (rowP es n x d (newP es n x d y))) d y n es) res) ?_ ?_ 0 (by omega)
  · rw [rowP_begin]; exact H
  · show Ev _ _
    rw [Ev.iff_succ]
    simp only [spec_l2Dist.l3, Int.lt_irrefl, ↓reduceIte, w64_succ d (by omega), rowP_end hx]
    exact hend
  · intro y hy ih
    show Ev _ _
    rw [Ev.iff_succ]
    have h1 : (y : Int) < (n : Int) := by omega
    simp only [spec_l2Dist.l3, h1, ↓reduceIte]
    exact l2Dist_l4 hn hl hd hy ih

theorem l2Dist_l2 {es : List S100} {n x : Nat} {acc : List (List Int)} {res : List (List Int)} (hn : n ≤ 8) (hl : es.length ≤ 9223372036854775807) (hx : x < n) (ha : acc.length < 1000)
    (hend : Ev (fun k => spec_l2Dist.l0 k (acc ++ [rowF n (rowD es n x n)]) ((x + 1 : Nat) : Int) n es) res) :
    Ev (fun k => spec_l2Dist.l2 k acc x (rowF n (rowD es n x 0)) 0 n es) res := by
  refine down n (fun d => Ev (fun k => spec_l2Dist.l2 k acc x (rowF n (rowD es n x d)) d n es) res) ?_ ?_ 0 (by omega)
  · show Ev _ _
    rw [Ev.iff_succ]
    have h1 : acc.length < 5864062014805 := by omega
    simp only [spec_l2Dist.l2, Int.lt_irrefl, ↓reduceIte, w64_succ x (by omega), h1]
    exact hend
  · intro d hd ih
    show Ev _ _
    rw [Ev.iff_succ]
    have h1 : (d : Int) < (n : Int) := by omega
    simp only [spec_l2Dist.l2, h1, ↓reduceIte]
    exact l2Dist_l3 hn hl hx hd ih

theorem l2Dist_l1 {es : List S100} {n x : Nat} {acc : List (List Int)} {res : List (List Int)} (hn : n ≤ 8) (hl : es.length ≤ 9223372036854775807) (hx : x < n) (ha : acc.length < 1000)
    (hend : Ev (fun k => spec_l2Dist.l0 k (acc ++ [rowF n (rowD es n x n)]) ((x + 1 : Nat) : Int) n es) res) :
    Ev (fun k => spec_l2Dist.l1 k acc x [] 0 n es) res := by
  have H := down n (fun i => Ev (fun k => spec_l2Dist.l1 k acc x (List.replicate i (-1)) i n es) res) ?_ ?_ 0 (by omega)
  · exact H
  · show Ev _ _
    rw [Ev.iff_succ]
    have h2 : (0 : Int) ≤ x := by omega
    have h3 : (x : Int) < (n : Int) := by omega
    simp only [spec_l2Dist.l1, Int.lt_irrefl, ↓reduceIte, h2, List.length_replicate, h3, Int.toNat_natCast]
    have e : (List.replicate n (-1 : Int)).set x 0 = rowF n (rowD es n x 0) := by
      have e1 : List.replicate n (-1 : Int) = rowF n (fun _ => -1) := by
        apply List.ext_getElem
        · simp [rowF]
        · intro i h1 h2; simp [rowF]
      rw [e1, rowF_set hx]
      refine rowF_ext (fun y _ => ?_)
      unfold rowD
      simp only [ballM, lvD, Nat.testBit_two_pow]
      by_cases e : y = x
      · subst e; simp
      · rw [if_neg e, if_neg (by simp only [decide_eq_true_eq]; omega)]
    rw [e]
    exact l2Dist_l2 hn hl hx ha hend
  · intro i hi ih
    show Ev _ _
    rw [Ev.iff_succ]
    have h1 : (i : Int) < (n : Int) := by omega
    have h4 : i < 17592186044416 := by omega
    simp only [spec_l2Dist.l1, h1, ↓reduceIte, List.length_replicate, h4, w64_succ i (by omega)]
    rw [List.replicate_succ'] at ih
    exact ih

theorem l2Dist_ev (es : List S100) (n : Nat) (hn : n ≤ 8) (hl : es.length ≤ 9223372036854775807) : Ev (fun k => spec_l2Dist.f k n es) (distL es n) := by
  have H := down n (fun x => Ev (fun k => spec_l2Dist.l0 k ((List.range x).map (fun x => rowF n (rowD es n x n))) x n es) (distL es n)) ?_ ?_ 0 (by omega)
  · exact H
  · show Ev _ _
    rw [Ev.iff_succ]
    simp only [spec_l2Dist.l0, Int.lt_irrefl, ↓reduceIte, Ev.now_iff, distL]
  · intro x hx ih
    show Ev _ _
    rw [Ev.iff_succ]
    have h1 : (x : Int) < (n : Int) := by omega
    simp only [spec_l2Dist.l0, h1, ↓reduceIte]
    refine l2Dist_l1 hn hl hx (by simp; omega) ?_
    rw [List.range_succ, List.map_append] at ih
    exact ih

theorem distL_rd {es : List S100} {n x : Nat} (h : x < n) : rd_L2 (distL es n) x = rowF n (rowD es n x n) := by simp [rd_L2, distL, h]

theorem l2Within_ev (es : List S100) (n x r : Nat) (hn : n ≤ 8) (hx : x < n) (hr : r < 1000) (hl : es.length ≤ 9223372036854775807) : Ev (fun k => spec_l2Within.f k n es x r) (bl n (ballM es n x r)) := by
  have h2 : (0 : Int) ≤ x := by omega
  have h3 : (x : Int) < ((distL es n).length : Int) := by simp [distL]; omega
  unfold spec_l2Within.f
  rw [Ev.bind_iff (l2Dist_ev es n hn hl)]
  simp only [h2, h3, ↓reduceIte, distL_rd hx]
  have hin : ∀ y, y < n → ((0 ≤ rowD es n x n y ∧ rowD es n x n y ≤ (r : Int)) ↔ (ballM es n x r).testBit y = true) := fun y hy => by
    unfold rowD
    cases c : (ballM es n x n).testBit y
    · simp only [Bool.false_eq_true, ↓reduceIte]
      constructor
      · intro h; omega
      · intro h
        exfalso
        by_cases e : r ≤ n
        · have := ballM_le h (n - r)
          rw [show r + (n - r) = n by omega, c] at this; cases this
        · rw [show r = n + (r - n) by omega, ballM_end hx, c] at h; cases h
    · simp only [↓reduceIte]
      have := lvD_in (es := es) (r := r) n c
      constructor
      · intro h
        rcases this.1 (by omega) with g | g
        · have g2 := ballM_le c (r - n)
          rwa [show n + (r - n) = r by omega] at g2
        · exact g
      · intro h
        have := this.2 (.inr h)
        omega
  have H := down n (fun i => Ev (fun k => spec_l2Within.l0 k r (bl i (ballM es n x r)) (rowF n (rowD es n x n)) i n es) (bl n (ballM es n x r))) ?_ ?_ 0 (by omega)
  · simpa [bl] using H
  · show Ev _ _
    rw [Ev.iff_succ]
    simp [spec_l2Within.l0, Ev.now_iff]
  · intro i hi ih
    show Ev _ _
    rw [Ev.iff_succ]
    have g1 : (i : Int) < (n : Int) := by omega
    have g2 : (0 : Int) ≤ i := by omega
    have g3 := bl_len_le i (ballM es n x r)
    have g4 : (bl i (ballM es n x r)).length < 17592186044416 := by omega
    have hii := hin i hi
    rw [bl_step hi] at ih
    simp only [spec_l2Within.l0, Ev.ite_iff, g1, g2, g4, ↓reduceIte, rowF_len, rowF_rd hi, l1In_eq, Option.bind_some, w64_succ i (by omega), decide_eq_true_eq, hii]
    cases c : (ballM es n x r).testBit i
    · rw [c] at ih; simpa using ih
    · rw [c] at ih; simpa using ih

/-- What a burning covers. -/
def burnM (es : List S100) (n c : Nat) : List Int → Nat → Nat → Nat
  | [], _, acc => acc
  | x :: s, i, acc => burnM es n c s (i + 1) (acc ||| ballM es n x.toNat (c - 1 - i))

def nodesB (n : Int) (l : List Int) : Bool := allIn 0 (wrap64 (n - 1)) l

theorem l8Burning_ev (n : Int) (es : List S100) (l : List Int) (hl : l.length ≤ 9223372036854775806) : Ev (fun k => spec_l8Burning.f k n es l) (nodesB n l && decide (l.length ≤ 8)) := by
  have H := down l.length (fun i => Ev (fun k => spec_l8Burning.l0 k l i n es) (allIn 0 (wrap64 (n - 1)) (l.drop i) && decide (l.length ≤ 8))) ?_ ?_ 0 (by omega)
  · simpa [spec_l8Burning.f, nodesB] using H
  · show Ev _ _
    rw [Ev.iff_succ]
    simp only [spec_l8Burning.l0, Int.lt_irrefl, ↓reduceIte, Ev.now_iff, List.drop_length, allIn, List.all_nil, Bool.true_and]
    rw [decide_eq_decide]; omega
  · intro i hi ih
    show Ev _ _
    rw [Ev.iff_succ]
    have h1 : (i : Int) < l.length := by omega
    have h2 : (0 : Int) ≤ i := by omega
    obtain ⟨a, s, e1, e2, e3, e4⟩ := dropc l i hi
    rw [e1]; rw [e2] at ih
    simp only [spec_l8Burning.l0, Ev.ite_iff, h1, h2, ↓reduceIte, spec_l2Node.f, l1In_eq, Option.bind_some, e3, w64_succ i (by omega), decide_eq_true_eq]
    by_cases c : 0 ≤ a ∧ a ≤ wrap64 (n - 1)
    · rw [if_pos c]; simpa [allIn, c] using ih
    · rw [if_neg c, Ev.now_iff]; simp only [allIn, List.all_cons, c, decide_false, Bool.false_and]

theorem l8Burnt_ev (es : List S100) (n : Nat) (l : List Int) (hn : n ≤ 8) (hl : l.length ≤ 8) (hr : ∀ x ∈ l, 0 ≤ x ∧ x < n) (he : es.length ≤ 9223372036854775807) : Ev (fun k => spec_l8Burnt.f k n es l) (bl n (burnM es n l.length l 0 0)) := by
  have e0 : bl n 0 = [] := List.eq_nil_iff_forall_not_mem.2 (fun x hx => by obtain ⟨i, _, h2, _⟩ := mem_bl.1 hx; simp at h2)
  have H := down l.length (fun i => ∀ acc : Nat, acc < 2 ^ n → Ev (fun k => spec_l8Burnt.l0 k l (bl n acc) i n es) (bl n (burnM es n l.length (l.drop i) i acc))) ?_ ?_ 0 (by omega) 0 (Nat.two_pow_pos n)
  · rw [e0] at H; exact H
  · intro acc _
    rw [Ev.iff_succ]
    simp only [spec_l8Burnt.l0, Int.lt_irrefl, ↓reduceIte, Ev.now_iff, List.drop_length, burnM]
  · intro i hi ih acc ha
    rw [Ev.iff_succ]
    have h1 : (i : Int) < l.length := by omega
    have h2 : (0 : Int) ≤ i := by omega
    obtain ⟨a, s, e1, e2, e3, e4⟩ := dropc l i hi
    have hra := hr a (by rw [← e4]; exact List.getElem_mem hi)
    obtain ⟨x, rfl⟩ : ∃ x : Nat, a = x := ⟨a.toNat, by omega⟩
    have hx : x < n := by omega
    rw [e1, burnM, Int.toNat_natCast]; rw [e2] at ih
    have w1 : wrap64 (wrap64 ((l.length : Int) - 1) - (i : Int)) = ((l.length - 1 - i : Nat) : Int) := by
      rw [w64 (x := (l.length : Int) - 1) (by omega) (by omega), w64 (by omega) (by omega)]; omega
    simp only [spec_l8Burnt.l0, Ev.ite_iff, h1, h2, ↓reduceIte, e3, w1]
    rw [Ev.bind_iff (l2Within_ev es n x (l.length - 1 - i) hn hx (by omega) he)]
    have hB := ballM_lt (es := es) hx (l.length - 1 - i)
    generalize ballM es n x (l.length - 1 - i) = B at hB ⊢
    have hbB := bl_len_le n B
    have G := down (bl n B).length (fun j => ∀ acc : Nat, acc < 2 ^ n → Ev (fun k => spec_l8Burnt.l1 k l (bl n acc) i (bl n B) j n es) (bl n (burnM es n l.length s (i + 1) (acc ||| mL ((bl n B).drop j))))) ?_ ?_ 0 (by omega) acc ha
    · rw [List.drop_zero, mL_bl hB] at G; exact G
    · intro acc ha
      rw [Ev.iff_succ]
      simp only [spec_l8Burnt.l1, Int.lt_irrefl, ↓reduceIte, w64_succ i (by omega), List.drop_length, mL, Nat.or_zero]
      exact ih acc ha
    · intro j hj jh acc ha
      rw [Ev.iff_succ]
      have g1 : (j : Int) < (bl n B).length := by omega
      have g2 : (0 : Int) ≤ j := by omega
      obtain ⟨y, hy, _, hye⟩ := rd_bl hj
      simp only [spec_l8Burnt.l1, Ev.ite_iff, g1, g2, ↓reduceIte, rd_lt _ j hj, hye, l1Put_bl hn hy, Option.bind_some, w64_succ j (by omega)]
      have := jh (acc ||| 2 ^ y) (Nat.or_lt_two_pow ha (Nat.pow_lt_pow_right (by decide) hy))
      rw [List.drop_eq_getElem_cons hj, hye, mL, Int.toNat_natCast, ← Nat.or_assoc]
      exact this

def burntByR (n : Int) (es : List S100) (l : List Int) : List Int × Bool := if okG n es = true ∧ (nodesB n l = true ∧ l.length ≤ 8) then (bl n.toNat (burnM es n.toNat l.length l 0 0), true) else ([], false)

theorem burntByR_len (n : Int) (es : List S100) (l : List Int) : (burntByR n es l).1.length ≤ 1048576 := by
  unfold burntByR
  split
  · rename_i h
    obtain ⟨N, rfl, hN⟩ := okG_use h.1
    have := bl_len_le N (burnM es N l.length l 0 0)
    simp only [Int.toNat_natCast]; omega
  · simp

theorem nodesB_use {N : Nat} {l : List Int} (hN : N ≤ 8) (h : nodesB N l = true) : ∀ x ∈ l, 0 ≤ x ∧ x < (N : Int) := fun x hx => by
  unfold nodesB at h
  rw [w64 (by omega) (by omega)] at h
  simp only [allIn, List.all_eq_true, decide_eq_true_eq] at h
  have := h x hx
  omega

theorem specBurntBy_ev (n : Int) (es : List S100) (l : List Int) (hl : l.length ≤ 9223372036854775806) (he : es.length ≤ 9223372036854775807) : Ev (fun k => spec_BurntBy.f k n es l) (burntByR n es l) := by
  unfold spec_BurntBy.f burntByR
  rw [l2Good_eq]
  simp only [Option.bind_some, Ev.ite_iff, Ev.bind_iff (l8Burning_ev n es l hl), Ev.now_iff]
  by_cases h : okG n es = true
  · by_cases h2 : nodesB n l = true ∧ l.length ≤ 8
    · obtain ⟨N, rfl, hN⟩ := okG_use h
      rw [if_pos h, if_pos (by simp [h2]), if_pos ⟨h, h2⟩, Ev.bind_iff (l8Burnt_ev es N l hN h2.2 (nodesB_use hN h2.1) he), Ev.now_iff, Int.toNat_natCast]
    · rw [if_pos h, if_neg (by simpa using h2), if_neg (fun c => h2 c.2)]
  · rw [if_neg h, if_neg (fun c => h c.1)]

theorem implBurntBy_l0 {es : List S100} {n : Nat} {l : List Int} (hn : n ≤ 8) (hl : l.length ≤ 8) (hr : ∀ x ∈ l, 0 ≤ x ∧ x < n) : Ev (fun k => impl_BurntBy.l0 k l 0 l l.length 0 (nets es n)) (bl n (burnM es n l.length l 0 0), true) := by
  have H := down l.length (fun i => ∀ acc : Nat, acc < 2 ^ n → Ev (fun k => impl_BurntBy.l0 k l acc l l.length i (nets es n)) (bl n (burnM es n l.length (l.drop i) i acc), true)) ?_ ?_ 0 (by omega) 0 (Nat.two_pow_pos n)
  · exact H
  · intro acc ha
    rw [Ev.iff_succ]
    simp only [impl_BurntBy.l0, Int.lt_irrefl, ↓reduceIte, List.drop_length, burnM]
    rw [Ev.bind_iff (setOf_ev n acc hn ha), Ev.now_iff]
  · intro i hi ih acc ha
    rw [Ev.iff_succ]
    have h1 : (i : Int) < l.length := by omega
    have h2 : (0 : Int) ≤ i := by omega
    obtain ⟨a, s, e1, e2, e3, e4⟩ := dropc l i hi
    have hra := hr a (by rw [← e4]; exact List.getElem_mem hi)
    obtain ⟨x, rfl⟩ : ∃ x : Nat, a = x := ⟨a.toNat, by omega⟩
    have hx : x < n := by omega
    rw [e1, burnM, Int.toNat_natCast]; rw [e2] at ih
    have w1 : wrap64 (wrap64 ((l.length : Int) - 1) - (i : Int)) = ((l.length - 1 - i : Nat) : Int) := by
      rw [w64 (x := (l.length : Int) - 1) (by omega) (by omega), w64 (by omega) (by omega)]; omega
    have hB := ballM_lt (es := es) hx (l.length - 1 - i)
    simp only [impl_BurntBy.l0, Ev.ite_iff, h1, h2, ↓reduceIte, e3, w1]
    rw [Ev.bind_iff (ball_ev es n x (l.length - 1 - i) hn hx (by omega)), gor _ _ (lt62 hn ha) (lt62 hn hB), w64_succ i (by omega)]
    exact ih _ (Nat.or_lt_two_pow ha hB)

theorem implBurntBy_ev (n : Int) (es : List S100) (l : List Int) (hl : l.length ≤ 9223372036854775807) : Ev (fun k => impl_BurntBy.f k n es l) (burntByR n es l) := by
  unfold impl_BurntBy.f burntByR
  rw [Ev.bind_iff (hasNodes_ev n es l hl), Ev.ite_iff]
  by_cases h : okG n es = true
  · by_cases h2 : nodesB n l = true
    · rw [if_pos (by rw [h, Bool.true_and]; exact h2), Ev.iff_succ]
      simp only [impl_BurntBy.j0, Ev.ite_iff, decide_eq_true_eq]
      by_cases h3 : l.length ≤ 8
      · obtain ⟨N, rfl, hN⟩ := okG_use h
        rw [if_neg (by omega), if_pos ⟨h, h2, h3⟩, netOf_eq h]
        simp only [Option.bind_some, Int.toNat_natCast]
        exact implBurntBy_l0 hN h3 (nodesB_use hN h2)
      · rw [if_pos (by omega), if_neg (fun c => h3 c.2.2), Ev.now_iff]
    · rw [if_neg (by rw [h, Bool.true_and]; exact h2), if_neg (fun c => h2 c.2.1), Ev.iff_succ]
      simp only [impl_BurntBy.j0, ↓reduceIte, Ev.now_iff]
  · rw [if_neg (by rw [Bool.eq_false_iff.2 h, Bool.false_and]; simp), if_neg (fun c => h c.1), Ev.iff_succ]
    simp only [impl_BurntBy.j0, ↓reduceIte, Ev.now_iff]

end Go.Proofs.Ytbhkimopcliepaa.QBurntBy
