import Derived.Test.YtlbnpdkhghcejaaQLargestFarSet0
import Derived.Test.YtlbnpdkhghcejaaQLargestFarSet10
import Derived.Test.YtlbnpdkhghcejaaQLargestFarSet11
import Derived.Test.YtlbnpdkhghcejaaQLargestFarSet2
import Derived.Test.YtlbnpdkhghcejaaQLargestFarSet4
import Derived.Test.YtlbnpdkhghcejaaQLargestFarSet5
import Derived.Test.YtlbnpdkhghcejaaQLargestFarSet8
import Derived.Test.YtlbnpdkhghcejaaQLargestFarSet9
import Derived.Test.YtlbnpdkhghcejaaQLargestFarSetA1
namespace Go.Proofs.Ytlbnpdkhghcejaa.QLargestFarSet
open Go.RowKit Go.Proofs.YtlbnpdkhghcejaaW.PrintWords Go.Proofs.YtlbnpdkhghcejaaW.PrintLast Go.Proofs.YtlbnpdkhghcejaaW.PrintMore
attribute [local go_sem] max2_int min2_int max_two min_two max_three min_three max_four min_four   -- for this text's walks alone
set_option linter.unusedVariables false
set_option linter.unusedSimpArgs false
theorem l2Dist_l4 {es : List S75} {n x d y : Nat} {acc : List (List Int)} {res : List (List Int)} (hn : n ≤ 8) (hl : es.length ≤ 9223372036854775807) (hd : d < n) (hy : y < n)
    (hend : Ev (fun k => spec_l2Dist.l3 k acc x (rowF n (rowP es n x d (newP es n x d (y + 1)))) d ((y + 1 : Nat) : Int) n es) res) :
    Ev (fun k => spec_l2Dist.l4 k acc x (rowF n (rowP es n x d (newP es n x d y))) d y 0 n es) res := by
  have H := down n (fun z => Ev (fun k => spec_l2Dist.l4 k acc x (rowF n (rowP es n x d (fun u => newP es n x d y u || (decide (u < z) && (layD es n x d y && near es y u))))) d y z n es) res) ?_ ?_ 0 (by omega)
  · have e : rowF n (rowP es n x d (newP es n x d y)) = rowF n (rowP es n x d (fun u => newP es n x d y u || (decide (u < 0) && (layD es n x d y && near es y u)))) := rowF_ext (fun u _ => by unfold rowP; simp)
    rw [e]; exact H
  · show Ev _ _
    rw [Ev.iff_succ]
    simp only [spec_l2Dist.l4, Int.lt_irrefl, ↓reduceIte, w64_succ y (by omega)]
    have e : rowF n (rowP es n x d (fun u => newP es n x d y u || (decide (u < n) && (layD es n x d y && near es y u)))) = rowF n (rowP es n x d (newP es n x d (y + 1))) := rowF_ext (fun u hu => by unfold rowP; simp [newP, hu])
    rw [e]; exact hend
  · intro z hz ih
    show Ev _ _
    rw [Ev.iff_succ]
    have h1 : (z : Int) < (n : Int) := by omega
    have h2 : (0 : Int) ≤ y := by omega
    have h3 : (y : Int) < (n : Int) := by omega
    have h4 : (0 : Int) ≤ z := by omega
    simp only [spec_l2Dist.l4, Ev.ite_iff, h1, h2, h3, h4, ↓reduceIte, rowF_len, rowF_rd hy, rowF_rd hz, Ev.bind_iff (l2Near_ev n es y z hl), w64_succ z (by omega), w64_succ d (by omega), Int.toNat_natCast, rowF_set hz]
    have hlay : rowP es n x d (fun u => newP es n x d y u || (decide (u < z) && (layD es n x d y && near es y u))) y = (d : Int) ↔ layD es n x d y = true := by
      unfold rowP layD
      cases c : (ballM es n x d).testBit y
      · simp only [Bool.false_eq_true, ↓reduceIte, Bool.false_and, iff_false]
        split <;> omega
      · simp only [↓reduceIte, Bool.true_and, decide_eq_true_eq]; omega
    by_cases cl : layD es n x d y = true
    · rw [if_pos (hlay.2 cl)]
      rw [cl] at ih ⊢
      simp only [Bool.true_and] at ih ⊢
      by_cases c : rowP es n x d (fun u => newP es n x d y u || (decide (u < z) && near es y u)) z < 0
      · rw [if_pos c]
        have hb : (ballM es n x d).testBit z = false := by
          cases hb : (ballM es n x d).testBit z
          · rfl
          · unfold rowP at c; rw [hb] at c; simp only [↓reduceIte] at c; omega
        cases hnr : near es y z
        · rw [if_neg (by simp)]
          have e : rowF n (rowP es n x d (fun u => newP es n x d y u || (decide (u < z + 1) && near es y u))) = rowF n (rowP es n x d (fun u => newP es n x d y u || (decide (u < z) && near es y u))) := rowF_ext (fun u _ => by
            unfold rowP
            by_cases eu : u = z
            · subst eu; simp [hnr]
            · have : decide (u < z + 1) = decide (u < z) := by rw [decide_eq_decide]; omega
              simp only [this])
          rw [e] at ih; exact ih
        · rw [if_pos rfl]
          have e : rowF n (rowP es n x d (fun u => newP es n x d y u || (decide (u < z + 1) && near es y u))) = rowF n (fun u => if u = z then ((d + 1 : Nat) : Int) else rowP es n x d (fun u => newP es n x d y u || (decide (u < z) && near es y u)) u) := rowF_ext (fun u _ => by
            unfold rowP
            by_cases eu : u = z
            · subst eu; simp [hnr, hb]
            · have : decide (u < z + 1) = decide (u < z) := by rw [decide_eq_decide]; omega
              simp only [this, eu, ↓reduceIte])
          rw [e] at ih; exact ih
      · rw [if_neg c]
        have e : rowF n (rowP es n x d (fun u => newP es n x d y u || (decide (u < z + 1) && near es y u))) = rowF n (rowP es n x d (fun u => newP es n x d y u || (decide (u < z) && near es y u))) := rowF_ext (fun u _ => by
          by_cases eu : u = z
          · subst eu
            unfold rowP at c ⊢
            cases hb : (ballM es n x d).testBit u
            · rw [hb] at c
              simp only [Bool.false_eq_true, ↓reduceIte, Nat.lt_irrefl, decide_false, Bool.false_and, Bool.or_false] at c ⊢
              by_cases hp : newP es n x d y u = true
              · simp [hp]
              · rw [if_neg hp] at c; exact absurd (by decide : (-1 : Int) < 0) c
            · simp
          · unfold rowP
            have : decide (u < z + 1) = decide (u < z) := by rw [decide_eq_decide]; omega
            simp only [this])
        rw [e] at ih; exact ih
    · rw [if_neg (fun h => cl (hlay.1 h))]
      have cl' : layD es n x d y = false := Bool.eq_false_iff.2 cl
      rw [cl'] at ih ⊢
      simp only [Bool.false_and, Bool.and_false, Bool.or_false] at ih ⊢
      exact ih

theorem l2Dist_l3 {es : List S75} {n x d : Nat} {acc : List (List Int)} {res : List (List Int)} (hn : n ≤ 8) (hl : es.length ≤ 9223372036854775807) (hx : x < n) (hd : d < n)
    (hend : Ev (fun k => spec_l2Dist.l2 k acc x (rowF n (rowD es n x (d + 1))) ((d + 1 : Nat) : Int) n es) res) :
    Ev (fun k => spec_l2Dist.l3 k acc x (rowF n (rowD es n x d)) d 0 n es) res := by
  have H := down n (fun y => Ev (fun k => spec_l2Dist.l3 k acc x (rowF n (rowP es n x d (newP es n x d y))) d y n es) res) ?_ ?_ 0 (by omega)
  · rw [rowP_begin]; exact H
  · show Ev _ _
    rw [Ev.iff_succ]
    simp only [spec_l2Dist.l3, Int.lt_irrefl, ↓reduceIte, w64_succ d (by omega), rowP_end hx]
    exact hend
  · intro y hy ih
    show Ev _ _
    rw [Ev.iff_succ]
    have h1 : (y : Int) < (n : Int) := by omega
    simp only [spec_l2Dist.l3, h1, ↓reduceIte]
    exact l2Dist_l4 hn hl hd hy ih

theorem l2Dist_l2 {es : List S75} {n x : Nat} {acc : List (List Int)} {res : List (List Int)} (hn : n ≤ 8) (hl : es.length ≤ 9223372036854775807) (hx : x < n) (ha : acc.length < 1000)
    (hend : Ev (fun k => spec_l2Dist.l0 k (acc ++ [rowF n (rowD es n x n)]) ((x + 1 : Nat) : Int) n es) res) :
    Ev (fun k => spec_l2Dist.l2 k acc x (rowF n (rowD es n x 0)) 0 n es) res := by
  refine down n (fun d => Ev (fun k => spec_l2Dist.l2 k acc x (rowF n (rowD es n x d)) d n es) res) ?_ ?_ 0 (by omega)
  · show Ev _ _
    rw [Ev.iff_succ]
    have h1 : acc.length < 5864062014805 := by omega
    simp only [spec_l2Dist.l2, Int.lt_irrefl, ↓reduceIte, w64_succ x (by omega), h1]
    exact hend
  · intro d hd ih
    show Ev _ _
    rw [Ev.iff_succ]
    have h1 : (d : Int) < (n : Int) := by omega
    simp only [spec_l2Dist.l2, h1, ↓reduceIte]
    exact l2Dist_l3 hn hl hx hd ih

theorem l2Dist_l1 {es : List S75} {n x : Nat} {acc : List (List Int)} {res : List (List Int)} (hn : n ≤ 8) (hl : es.length ≤ 9223372036854775807) (hx : x < n) (ha : acc.length < 1000)
    (hend : Ev (fun k => spec_l2Dist.l0 k (acc ++ [rowF n (rowD es n x n)]) ((x + 1 : Nat) : Int) n es) res) :
    Ev (fun k => spec_l2Dist.l1 k acc x [] 0 n es) res := by
  have H := down n (fun i => Ev (fun k => spec_l2Dist.l1 k acc x (List.replicate i (-1)) i n es) res) ?_ ?_ 0 (by omega)
  · exact H
  · show Ev _ _
    rw [Ev.iff_succ]
    have h2 : (0 : Int) ≤ x := by omega
    have h3 : (x : Int) < (n : Int) := by omega
    simp only [spec_l2Dist.l1, Int.lt_irrefl, ↓reduceIte, h2, List.length_replicate, h3, Int.toNat_natCast]
    have e : (List.replicate n (-1 : Int)).set x 0 = rowF n (rowD es n x 0) := by
      have e1 : List.replicate n (-1 : Int) = rowF n (fun _ => -1) := by
        apply List.ext_getElem
        · simp [rowF]
        · intro i h1 h2; simp [rowF]
      rw [e1, rowF_set hx]
      refine rowF_ext (fun y _ => ?_)
      unfold rowD
      simp only [ballM, lvD, Nat.testBit_two_pow]
      by_cases e : y = x
      · subst e; simp
      · rw [if_neg e, if_neg (by simp only [decide_eq_true_eq]; omega)]
    rw [e]
    exact l2Dist_l2 hn hl hx ha hend
  · intro i hi ih
    show Ev _ _
    rw [Ev.iff_succ]
    have h1 : (i : Int) < (n : Int) := by omega
    have h4 : i < 17592186044416 := by omega
    simp only [spec_l2Dist.l1, h1, ↓reduceIte, List.length_replicate, h4, w64_succ i (by omega)]
    rw [List.replicate_succ'] at ih
    exact ih

theorem l2Dist_ev (es : List S75) (n : Nat) (hn : n ≤ 8) (hl : es.length ≤ 9223372036854775807) : Ev (fun k => spec_l2Dist.f k n es) (distL es n) := by
  have H := down n (fun x => Ev (fun k => spec_l2Dist.l0 k ((List.range x).map (fun x => rowF n (rowD es n x n))) x n es) (distL es n)) ?_ ?_ 0 (by omega)
  · exact H
  · show Ev _ _
    rw [Ev.iff_succ]
    simp only [spec_l2Dist.l0, Int.lt_irrefl, ↓reduceIte, Ev.now_iff, distL]
  · intro x hx ih
    show Ev _ _
    rw [Ev.iff_succ]
    have h1 : (x : Int) < (n : Int) := by omega
    simp only [spec_l2Dist.l0, h1, ↓reduceIte]
    refine l2Dist_l1 hn hl hx (by simp; omega) ?_
    rw [List.range_succ, List.map_append] at ih
    exact ih

theorem distL_rd {es : List S75} {n x : Nat} (h : x < n) : rd_L2 (distL es n) x = rowF n (rowD es n x n) := by simp [rd_L2, distL, h]

theorem bl_zero (n : Nat) : bl n 0 = [] := List.eq_nil_iff_forall_not_mem.2 (fun x hx => by obtain ⟨i, _, h2, _⟩ := mem_bl.1 hx; simp at h2)

/-- Is a set the better one: more nodes, or as many and it comes before? -/
def betG (n a b : Nat) : Bool := decide ((bl n a).length > (bl n b).length) || (decide ((bl n a).length = (bl n b).length) && lexLt (bl n a) (bl n b))

def bestG (p : Nat → Bool) (n : Nat) : Nat → Nat → Nat → Nat
  | 0, _, b => b
  | d + 1, c, b => bestG p n d (c + 1) (if p c && betG n c b then c else b)

theorem isBetter_ev {n b c : Nat} (hn : n ≤ 8) : Ev (fun k => impl_isBetterSet.f k (bl n b) (bl n c)) (betG n c b) := by
  unfold impl_isBetterSet.f betG
  have hbl := bl_len_le n c
  rw [Ev.ite_iff]
  by_cases g1 : (bl n c).length > (bl n b).length
  · rw [if_pos (by omega), Ev.now_iff]; simp [g1]
  · rw [if_neg (by omega), Ev.ite_iff]
    by_cases g2 : (bl n c).length = (bl n b).length
    · rw [if_pos (by omega), Ev.bind_iff (sliceCompare_ev _ _ g2 (by omega)), Ev.now_iff]
      have := cmpL_lt (bl n c) (bl n b)
      rw [Bool.eq_iff_iff]
      simp [g1, g2, this]
    · rw [if_neg (by omega), Ev.now_iff]; simp [g1, g2]

theorem rdL_set {L : List (List Int)} {x : Nat} {a : List Int} (h : x < L.length) : rd_L2 (L.set x a) (x : Int) = a := by simp [rd_L2, h]

theorem implDist_l2 {es : List S75} {n x r D : Nat} {L : List (List Int)} {f : Nat → Int} {res : List (List Int)} (hn : n ≤ 8) (hx : x < n) (hL : L.length = n)
    (hend : Ev (fun k => impl_net_distances.l1 k (L.set x (rowF n (fun y => if D.testBit y then (r : Int) else f y))) x (wrap64 ((r : Int) - 1)) n x (nets es n)) res) :
    Ev (fun k => impl_net_distances.l2 k (L.set x (rowF n f)) x r n x (bl n D) ((bl n D).length : Int) 0 (nets es n)) res := by
  have hb := bl_len_le n D
  have H := down (bl n D).length (fun j => Ev (fun k => impl_net_distances.l2 k (L.set x (rowF n (fun y => if (y : Int) ∈ (bl n D).take j then (r : Int) else f y))) x r n x (bl n D) ((bl n D).length : Int) j (nets es n)) res) ?_ ?_ 0 (by omega)
  · simpa using H
  · show Ev _ _
    rw [Ev.iff_succ]
    simp only [impl_net_distances.l2, Int.lt_irrefl, ↓reduceIte, List.take_length]
    have e : rowF n (fun y => if (y : Int) ∈ bl n D then (r : Int) else f y) = rowF n (fun y => if D.testBit y then (r : Int) else f y) := rowF_ext (fun y hy => by
      by_cases c : D.testBit y = true
      · rw [if_pos (mem_bl_nat.2 ⟨hy, c⟩), if_pos c]
      · rw [if_neg (fun h => c (mem_bl_nat.1 h).2), if_neg c])
    rw [e]; exact hend
  · intro j hj ih
    show Ev _ _
    rw [Ev.iff_succ]
    have h1 : (j : Int) < ((bl n D).length : Int) := by omega
    have h2 : (0 : Int) ≤ j := by omega
    obtain ⟨y, hy, hyb, hye⟩ := rd_bl hj
    have h3 : (0 : Int) ≤ y := by omega
    have h4 : (y : Int) < (n : Int) := by omega
    have h5 : (0 : Int) ≤ x := by omega
    have h6 : (x : Int) < (n : Int) := by omega
    simp only [impl_net_distances.l2, Ev.ite_iff, h1, h2, ↓reduceIte, rd_lt _ j hj, hye, h3, h5, List.length_set, hL, h6, rdL_set (show x < L.length by omega), rowF_len, h4, w64_succ j (by omega), Int.toNat_natCast, rowF_set hy, List.set_set]
    have ht : ∀ z : Nat, ((z : Int) ∈ (bl n D).take (j + 1)) ↔ ((z : Int) ∈ (bl n D).take j ∨ z = y) := fun z => by
      rw [List.take_succ_eq_append_getElem hj, List.mem_append, List.mem_singleton, hye]
      constructor
      · rintro (h | h)
        · exact .inl h
        · exact .inr (by omega)
      · rintro (h | h)
        · exact .inl h
        · exact .inr (by omega)
    have e : rowF n (fun z => if (z : Int) ∈ (bl n D).take (j + 1) then (r : Int) else f z) = rowF n (fun z => if z = y then (r : Int) else if (z : Int) ∈ (bl n D).take j then (r : Int) else f z) := rowF_ext (fun z hz => by
      by_cases e : z = y
      · rw [if_pos ((ht z).2 (.inr e)), if_pos e]
      · rw [if_neg e]
        by_cases c : (z : Int) ∈ (bl n D).take j
        · rw [if_pos c, if_pos ((ht z).2 (.inl c))]
        · rw [if_neg c, if_neg (fun h => ((ht z).1 h).elim c e)])
    rw [e] at ih; exact ih

/-- The row of distances, when the radii from s on are done. -/
def rowK (es : List S75) (n x s y : Nat) : Int := if (ballM es n x n).testBit y && decide (s ≤ n) then ((max (lvD es n x y n) s : Nat) : Int) else -1

theorem rowK_step {es : List S75} {n x r : Nat} (hr : r ≤ n) : rowF n (fun y => if (ballM es n x r).testBit y then (r : Int) else rowK es n x (r + 1) y) = rowF n (rowK es n x r) := rowF_ext (fun y _ => by
  unfold rowK
  cases c : (ballM es n x n).testBit y
  · have : (ballM es n x r).testBit y = false := by
      cases h : (ballM es n x r).testBit y
      · rfl
      · have := ballM_le h (n - r)
        rw [show r + (n - r) = n by omega, c] at this; cases this
    simp [this]
  · have hl := lvD_in (r := r) n c
    have hle := lvD_le (es := es) (n := n) (x := x) (y := y) n
    simp only [Bool.true_and, decide_eq_true_eq, hr, ↓reduceIte]
    cases h : (ballM es n x r).testBit y
    · rw [h] at hl
      have hrn : r ≠ n := fun e => by rw [e, c] at h; cases h
      have : ¬ lvD es n x y n ≤ r := fun g => by
        rcases hl.1 g with g | g
        · omega
        · cases g
      rw [if_neg (by simp), if_pos (by omega)]
      congr 1; omega
    · rw [if_pos rfl]
      have : lvD es n x y n ≤ r := hl.2 (.inr h)
      congr 1; omega)

theorem rowK_zero {es : List S75} {n x : Nat} : rowF n (rowK es n x 0) = rowF n (rowD es n x n) := rowF_ext (fun y _ => by
  unfold rowK rowD
  cases (ballM es n x n).testBit y <;> simp)

theorem rowK_none {es : List S75} {n x : Nat} : rowF n (rowK es n x (n + 1)) = rowF n (fun _ => -1) := rowF_ext (fun y _ => by
  unfold rowK
  rw [if_neg (by simp)])

theorem implDist_l1 {es : List S75} {n x : Nat} {L : List (List Int)} {res : List (List Int)} (hn : n ≤ 8) (hx : x < n) (hL : L.length = n)
    (hend : Ev (fun k => impl_net_distances.l0 k (L.set x (rowF n (rowD es n x n))) n (wrap64 ((x : Int) + 1)) (nets es n)) res) : ∀ r : Nat, r ≤ n →
    Ev (fun k => impl_net_distances.l1 k (L.set x (rowF n (rowK es n x (r + 1)))) x r n x (nets es n)) res := by
  intro r
  induction r with
  | zero =>
    intro hr
    rw [Ev.iff_succ]
    have h1 : ((0 : Nat) : Int) ≥ 0 := by omega
    simp only [impl_net_distances.l1, Ev.ite_iff, h1, ↓reduceIte]
    rw [Ev.bind_iff (ball_ev es n x 0 hn hx (by omega)), Ev.bind_iff (setOf_ev n _ hn (ballM_lt hx 0))]
    refine implDist_l2 hn hx hL ?_
    rw [rowK_step hr, rowK_zero, Ev.iff_succ]
    have h2 : ¬ wrap64 (((0 : Nat) : Int) - 1) ≥ 0 := by decide +kernel
    simp only [impl_net_distances.l1, Ev.ite_iff, h2, ↓reduceIte]
    exact hend
  | succ r ih =>
    intro hr
    rw [Ev.iff_succ]
    have h1 : ((r + 1 : Nat) : Int) ≥ 0 := by omega
    simp only [impl_net_distances.l1, Ev.ite_iff, h1, ↓reduceIte]
    rw [Ev.bind_iff (ball_ev es n x (r + 1) hn hx (by omega)), Ev.bind_iff (setOf_ev n _ hn (ballM_lt hx _))]
    refine implDist_l2 hn hx hL ?_
    rw [rowK_step hr, show wrap64 (((r + 1 : Nat) : Int) - 1) = (r : Int) by rw [w64] <;> omega]
    exact ih (by omega)

theorem repeat_eq (a n : Int) (h0 : 0 ≤ n) (h1 : n ≤ 1048576) : slices_Repeat_int_int.f [a] n = some (List.replicate n.toNat a) := by
  unfold slices_Repeat_int_int.f
  rw [if_pos ⟨rfl, h0, h1⟩]; rfl

theorem implDist_ev (es : List S75) (n : Nat) (hn : n ≤ 8) : Ev (fun k => impl_net_distances.f k (nets es n)) (distL es n) := by
  unfold impl_net_distances.f impl_net_size.f
  simp only [Option.bind_some, nets_len]
  rw [Ev.ite_iff, if_pos (by omega), Ev.ite_iff, if_pos (by omega)]
  simp only [Int.toNat_natCast, List.length_replicate]
  have H := down n (fun x => Ev (fun k => impl_net_distances.l0 k ((List.range x).map (fun x => rowF n (rowD es n x n)) ++ List.replicate (n - x) []) n x (nets es n)) (distL es n)) ?_ ?_ 0 (by omega)
  · simpa using H
  · show Ev _ _
    rw [Ev.iff_succ]
    simp only [impl_net_distances.l0, Int.lt_irrefl, ↓reduceIte, Ev.now_iff, distL, Nat.sub_self, List.replicate_zero, List.append_nil]
  · intro x hx ih
    show Ev _ _
    rw [Ev.iff_succ]
    have h1 : (x : Int) < (n : Int) := by omega
    have h2 : (0 : Int) ≤ x := by omega
    have hlen : ((List.range x).map (fun x => rowF n (rowD es n x n)) ++ List.replicate (n - x) ([] : List Int)).length = n := by simp; omega
    simp only [impl_net_distances.l0, Ev.ite_iff, h1, ↓reduceIte, impl_net_size.f, nets_len, Option.bind_some, repeat_eq (-1) (n : Int) (by omega) (by omega), h2, hlen, Int.toNat_natCast]
    have hr : List.replicate n (-1 : Int) = rowF n (rowK es n x (n + 1)) := by
      rw [rowK_none]
      unfold rowF
      rw [List.map_const', List.length_range]
    rw [hr]
    refine implDist_l1 hn hx hlen ?_ n (Nat.le_refl _)
    have hs : ((List.range x).map (fun x => rowF n (rowD es n x n)) ++ List.replicate (n - x) ([] : List Int)).set x (rowF n (rowD es n x n)) = (List.range (x + 1)).map (fun x => rowF n (rowD es n x n)) ++ List.replicate (n - (x + 1)) [] := by
      rw [List.set_append_right _ _ (by simp), List.range_succ, List.map_append, List.append_assoc]
      congr 1
      simp only [List.length_map, List.length_range, Nat.sub_self]
      rw [show n - x = (n - (x + 1)) + 1 by omega, List.replicate_succ]; rfl
    rw [hs, w64_succ x (by omega)]
    exact ih

/-- Is a list far: no two nodes too near? -/
def farR (dist : List (List Int)) (kk : Int) : List Int → List Int → Bool
  | _, [] => true
  | pre, x :: rest => !(pre.any (farHit dist kk x)) && farR dist kk (pre ++ [x]) rest

theorem farGo_eq {es : List S75} {n : Nat} {kk : Int} : ∀ (rest pre : List Int), (∀ x ∈ pre ++ rest, 0 ≤ x ∧ x < (n : Int)) → farGo (distL es n) kk pre rest = some (farR (distL es n) kk pre rest)
  | [], pre, _ => by unfold farGo farR; rfl
  | x :: rest, pre, h => by
    unfold farGo farR
    have hx := h x (by simp)
    rw [if_pos (fun y hy => by
      have hy := h y (by simp [hy])
      obtain ⟨X, rfl⟩ := Int.eq_ofNat_of_zero_le hx.1
      rw [distL_rd (by omega), rowF_len]
      exact ⟨⟨hx.1, by simp [distL]; omega⟩, hy⟩)]
    cases hp : pre.any (farHit (distL es n) kk x)
    · rw [if_neg (by simp), farGo_eq rest (pre ++ [x]) (fun z hz => h z (by simpa using hz))]; simp
    · rw [if_pos rfl]; simp

theorem farHit_eq {dist : List (List Int)} {kk x y : Int} (hk : 1 ≤ kk ∧ kk ≤ 8) : farHit dist kk x y = decide (0 ≤ rd (rd_L2 dist x) y ∧ rd (rd_L2 dist x) y ≤ 2 * kk - 2) := by
  unfold farHit
  rw [w64 (x := 2 * kk) (by omega) (by omega), w64 (by omega) (by omega), Bool.eq_iff_iff]
  simp only [Bool.and_eq_true, decide_eq_true_eq]
  omega

theorem l8Far_l1 {es : List S75} {n : Nat} {kk : Int} {l : List Int} {i : Nat} {r : Bool} (hk : 1 ≤ kk ∧ kk ≤ 8) (hl : l.length ≤ 9223372036854775806) (hr : ∀ x ∈ l, 0 ≤ x ∧ x < (n : Int)) (hi : i < l.length)
    (hend : Ev (fun k => spec_l8Far.l0 k (distL es n) l kk ((i + 1 : Nat) : Int)) r) :
    Ev (fun k => spec_l8Far.l1 k (distL es n) l kk i 0) (!((l.take i).any (farHit (distL es n) kk l[i])) && r) := by
  have hxi := hr _ (List.getElem_mem hi)
  have H := down i (fun j => Ev (fun k => spec_l8Far.l1 k (distL es n) l kk i j) (!(((l.take i).drop j).any (farHit (distL es n) kk l[i])) && r)) ?_ ?_ 0 (by omega)
  · exact H
  · show Ev _ _
    rw [Ev.iff_succ]
    simp only [spec_l8Far.l1, Int.lt_irrefl, ↓reduceIte, w64_succ i (by omega)]
    rw [List.drop_of_length_le (by rw [List.length_take]; exact Nat.min_le_left _ _)]
    simpa using hend
  · intro j hj ih
    show Ev _ _
    rw [Ev.iff_succ]
    have h1 : (j : Int) < (i : Int) := by omega
    have h2 : (0 : Int) ≤ i := by omega
    have h3 : (i : Int) < (l.length : Int) := by omega
    have h4 : (0 : Int) ≤ j := by omega
    have h5 : (j : Int) < (l.length : Int) := by omega
    have hj' : j < l.length := by omega
    have hyj := hr _ (List.getElem_mem hj')
    have hd : ((distL es n).length : Int) = n := by simp [distL]
    have hrow : rd_L2 (distL es n) l[i] = rowF n (rowD es n l[i].toNat n) := by
      obtain ⟨X, hX⟩ := Int.eq_ofNat_of_zero_le hxi.1
      rw [hX, distL_rd (by omega), Int.toNat_natCast]
    have e2 : wrap64 (wrap64 (2 * kk) - 2) = 2 * kk - 2 := by rw [w64 (x := 2 * kk) (by omega) (by omega), w64 (by omega) (by omega)]
    simp only [spec_l8Far.l1, Ev.ite_iff, h1, h2, h3, h4, h5, ↓reduceIte, rd_lt _ i hi, rd_lt _ j hj', hxi.1, hd, hxi.2, hyj.1, hrow, rowF_len, hyj.2, l1In_eq, e2, Option.bind_some, decide_eq_true_eq, w64_succ j (by omega)]
    have hdr : (l.take i).drop j = l[j] :: (l.take i).drop (j + 1) := by
      rw [List.drop_eq_getElem_cons (by simp; omega)]; simp
    rw [hdr, List.any_cons, farHit_eq hk, hrow]
    by_cases c : 0 ≤ rd (rowF n (rowD es n l[i].toNat n)) l[j] ∧ rd (rowF n (rowD es n l[i].toNat n)) l[j] ≤ 2 * kk - 2
    · rw [if_pos c, Ev.now_iff]; simp [c]
    · rw [if_neg c]
      simp only [c, decide_false, Bool.false_or]
      exact ih

end Go.Proofs.Ytlbnpdkhghcejaa.QLargestFarSet
