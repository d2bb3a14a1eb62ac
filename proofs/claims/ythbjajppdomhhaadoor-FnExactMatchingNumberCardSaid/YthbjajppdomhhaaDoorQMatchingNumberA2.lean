import Derived.Test.YthbjajppdomhhaaDoorQMatchingNumber0
import Derived.Test.YthbjajppdomhhaaDoorQMatchingNumber3
import Derived.Test.YthbjajppdomhhaaDoorQMatchingNumber5
import Derived.Test.YthbjajppdomhhaaDoorQMatchingNumber7
import Derived.Test.YthbjajppdomhhaaDoorQMatchingNumberA1
namespace Go.Proofs.YthbjajppdomhhaaDoor.QMatchingNumber
open Go.RowKit Go.Proofs.YthbjajppdomhhaaDoorW.PrintWords Go.Proofs.YthbjajppdomhhaaDoorW.PrintLast Go.Proofs.YthbjajppdomhhaaDoorW.PrintMore
attribute [local go_sem] max2_int min2_int max_two min_two max_three min_three max_four min_four   -- for this text's walks alone
set_option linter.unusedVariables false
set_option linter.unusedSimpArgs false
theorem mm_le {es : List S92} {n : Nat} : ∀ S, mm es n S ≤ S := by
  intro S
  induction S using Nat.strongRecOn with
  | _ S ih =>
    by_cases h : S < 2 ^ n ∧ S ≠ 0
    · rw [mm_eq h.1 h.2]
      obtain ⟨hxn, hxb⟩ := lowM_use h.1 h.2
      generalize lowM n S = x at hxn hxb ⊢
      have hlt := mns_sub_lt hxb
      have h1 := ih _ hlt
      rcases mmFold_or (es := es) (n := n) (S := S) (x := x) (List.range n) (mm es n (mns S (2 ^ x))) with g | ⟨y, _, hb, g⟩
      · omega
      · have hle : mns (mns S (2 ^ x)) (2 ^ y) ≤ mns S (2 ^ x) := by
          by_cases c : (mns S (2 ^ x)).testBit y = true
          · exact Nat.le_of_lt (mns_sub_lt c)
          · refine Nat.le_of_eq (Nat.eq_of_testBit_eq (fun i => ?_))
            rw [mns_bit _ _ i, two_pow_bit]
            by_cases e : y = i
            · subst e; simp [Bool.eq_false_iff.2 c]
            · simp [e]
        have h2 := ih _ (Nat.lt_of_le_of_lt hle hlt)
        omega
    · rw [mm, dif_neg h]; exact Nat.zero_le _

def mmL (es : List S92) (n S x acc : Nat) (l : List Int) : Nat := l.foldl (fun acc y => max acc (mm es n (mns (mns S (2 ^ x)) (2 ^ y.toNat)) + 1)) acc

theorem mmFold_mmL {es : List S92} {n S x acc : Nat} : mmFold es n S x acc (List.range n) = mmL es n S x acc (bl n (nb es n x &&& S)) := by
  unfold mmFold mmL bl
  rw [List.foldl_map, List.foldl_filter]
  rfl

theorem mx_nat (a b : Nat) : mx (a : Int) (b : Int) = ((max a b : Nat) : Int) := by
  unfold mx
  by_cases h : a < b
  · rw [if_pos (by omega), Nat.max_eq_right (by omega)]
  · rw [if_neg (by omega), Nat.max_eq_left (by omega)]

theorem rd_set (T : List Int) (i j : Nat) (v : Int) (hi : i < T.length) : rd (T.set i v) (j : Int) = if i = j then v else rd T (j : Int) := by
  unfold rd
  simp only [Int.toNat_natCast]
  rw [List.getD_eq_getElem?_getD, List.getD_eq_getElem?_getD, List.getElem?_set]
  by_cases e : i = j
  · subst e; simp [hi]
  · simp [e]

theorem matching_l1 {es : List S92} {n s x : Nat} (hn : n ≤ 8) (hs : s < 2 ^ n) (hxn : x < n) (hxb : s.testBit x = true) (r : Int × Bool)
    (next : ∀ T : List Int, T.length = 2 ^ n → (∀ i, i < s → rd T (i : Int) = ((mm es n i : Nat) : Int)) → rd T (s : Int) = ((mmL es n s x (mm es n (mns s (2 ^ x))) (bl n (nb es n x &&& s)) : Nat) : Int) → Ev (fun k => impl_MatchingNumber.l0 k T ((s + 1 : Nat) : Int) (nets es n)) r) :
    ∀ (d j acc : Nat) (T : List Int), j + d = (bl n (nb es n x &&& s)).length → T.length = 2 ^ n → (∀ i, i < s → rd T (i : Int) = ((mm es n i : Nat) : Int)) → rd T (s : Int) = (acc : Int) → acc ≤ s + 1 →
      mmL es n s x acc ((bl n (nb es n x &&& s)).drop j) = mmL es n s x (mm es n (mns s (2 ^ x))) (bl n (nb es n x &&& s)) →
      Ev (fun k => impl_MatchingNumber.l1 k T (s : Int) (x : Int) (bl n (nb es n x &&& s)) ((bl n (nb es n x &&& s)).length : Int) (j : Int) (nets es n)) r := by
  have h8 := p8 hn
  intro d
  induction d with
  | zero =>
    intro j acc T hj hT hi ha _ hfin
    rw [Ev.iff_succ]
    simp only [impl_MatchingNumber.l1]
    rw [Ev.ite_iff, if_neg (by omega), w64_succ s (by omega)]
    refine next T hT hi ?_
    rw [ha, ← hfin, List.drop_eq_nil_of_le (by omega)]
    rfl
  | succ d ih =>
    intro j acc T hj hT hi ha hacc hfin
    have hjl : j < (bl n (nb es n x &&& s)).length := by omega
    have hbl := bl_len_le n (nb es n x &&& s)
    obtain ⟨y, hyn, hyb, hye⟩ := mem_bl.1 (List.getElem_mem hjl)
    have hlt := mns_sub_lt hxb
    have hle : mns (mns s (2 ^ x)) (2 ^ y) ≤ mns s (2 ^ x) := by
      by_cases c : (mns s (2 ^ x)).testBit y = true
      · exact Nat.le_of_lt (mns_sub_lt c)
      · refine Nat.le_of_eq (Nat.eq_of_testBit_eq (fun i => ?_))
        rw [mns_bit _ _ i, two_pow_bit]
        by_cases e : y = i
        · subst e; simp [Bool.eq_false_iff.2 c]
        · simp [e]
    have hz : mns (mns s (2 ^ x)) (2 ^ y) < s := by omega
    have hm := mm_le (es := es) (n := n) (mns (mns s (2 ^ x)) (2 ^ y))
    rw [List.drop_eq_getElem_cons hjl, hye] at hfin
    have hfin2 : mmL es n s x (max acc (mm es n (mns (mns s (2 ^ x)) (2 ^ y)) + 1)) ((bl n (nb es n x &&& s)).drop (j + 1)) = mmL es n s x (mm es n (mns s (2 ^ x))) (bl n (nb es n x &&& s)) := by
      rw [← hfin]
      conv => rhs; unfold mmL
      rw [List.foldl_cons, Int.toNat_natCast]
      rfl
    have hpx : 2 ^ x < 2 ^ 62 := Nat.pow_lt_pow_right (by decide) (by omega)
    have hpy : 2 ^ y < 2 ^ 62 := Nat.pow_lt_pow_right (by decide) (by omega)
    have g1 : (j : Int) < ((bl n (nb es n x &&& s)).length : Int) := by omega
    have g2 : (0 : Int) ≤ (j : Int) := by omega
    have g3 : (0 : Int) ≤ (s : Int) := by omega
    have g4 : (s : Int) < (T.length : Int) := by rw [hT]; omega
    have g5 : (0 : Int) ≤ (x : Int) := by omega
    have g6 : (0 : Int) ≤ (y : Int) := by omega
    have g7 : (0 : Int) ≤ ((mns (mns s (2 ^ x)) (2 ^ y) : Nat) : Int) := by omega
    have g8 : ((mns (mns s (2 ^ x)) (2 ^ y) : Nat) : Int) < (T.length : Int) := by rw [hT]; omega
    have e1 : rd (bl n (nb es n x &&& s)) (j : Int) = (y : Int) := by rw [rd_lt _ _ hjl, hye]
    have e2 : Go.bits .andNot .i64 (Go.bits .andNot .i64 (s : Int) (shl .i64 1 (x : Int))) (shl .i64 1 (y : Int)) = ((mns (mns s (2 ^ x)) (2 ^ y) : Nat) : Int) := by
      rw [shl_one (by omega), shl_one (by omega), gandn _ _ (lt62 hn hs) hpx, gandn _ _ (by omega) hpy]
    have e3 : rd T ((mns (mns s (2 ^ x)) (2 ^ y) : Nat) : Int) = ((mm es n (mns (mns s (2 ^ x)) (2 ^ y)) : Nat) : Int) := hi _ hz
    have e4 : mx (rd T (s : Int)) (wrap64 (rd T ((mns (mns s (2 ^ x)) (2 ^ y) : Nat) : Int) + 1)) = ((max acc (mm es n (mns (mns s (2 ^ x)) (2 ^ y)) + 1) : Nat) : Int) := by
      rw [ha, e3, w64_succ _ (by omega), mx_nat]
    rw [Ev.iff_succ]
    simp only [impl_MatchingNumber.l1, Ev.ite_iff, g1, g2, g3, g4, g5, e1, g6, e2, g7, g8, e4, ↓reduceIte, w64_succ j (show j < 9223372036854775807 by omega), Int.toNat_natCast]
    have hsT : s < T.length := by rw [hT]; exact hs
    refine ih (j + 1) (max acc (mm es n (mns (mns s (2 ^ x)) (2 ^ y)) + 1)) _ (by omega) (by rw [List.length_set, hT]) (fun i hii => ?_) ?_ ?_ hfin2
    · rw [rd_set T s i _ hsT, if_neg (by omega)]; exact hi i hii
    · rw [rd_set T s s _ hsT, if_pos rfl]
    · rcases Nat.le_total acc (mm es n (mns (mns s (2 ^ x)) (2 ^ y)) + 1) with g | g
      · rw [Nat.max_eq_right g]; omega
      · rw [Nat.max_eq_left g]; omega

theorem matching_l0 {es : List S92} {n : Nat} (hn : n ≤ 8) : ∀ (d s : Nat) (T : List Int), s + d = 2 ^ n → 1 ≤ s → T.length = 2 ^ n → (∀ i, i < s → rd T (i : Int) = ((mm es n i : Nat) : Int)) →
    Ev (fun k => impl_MatchingNumber.l0 k T (s : Int) (nets es n)) (((mm es n (2 ^ n - 1) : Nat) : Int), true) := by
  have h8 := p8 hn
  have hp := Nat.two_pow_pos n
  intro d
  induction d with
  | zero =>
    intro s T hs h1 hT hi
    rw [Ev.iff_succ]
    simp only [impl_MatchingNumber.l0, all_eq hn, Option.bind_some, Ev.ite_iff]
    rw [if_neg (by omega), if_pos (by omega), if_pos (by omega), Ev.now_iff, hi _ (by omega)]
  | succ d ih =>
    intro s T hs h1 hT hi
    have hsl : s < 2 ^ n := by omega
    obtain ⟨hxn, hxb⟩ := lowM_use hsl (by omega)
    have hmm := mm_eq (es := es) hsl (by omega)
    rw [Ev.iff_succ]
    have htz := tz_ev hn hsl (by omega)
    simp only [impl_MatchingNumber.l0, htz, Option.bind_some]
    generalize lowM n s = x at hxn hxb hmm
    have hlt := mns_sub_lt hxb
    have hpx : 2 ^ x < 2 ^ 62 := Nat.pow_lt_pow_right (by decide) (by omega)
    have e2 : Go.bits .andNot .i64 (s : Int) (shl .i64 1 (x : Int)) = ((mns s (2 ^ x) : Nat) : Int) := by rw [shl_one (by omega), gandn _ _ (lt62 hn hsl) hpx]
    have e3 := hi _ hlt
    have hnbs : nb es n x &&& s < 2 ^ n := Nat.and_lt_two_pow _ hsl
    have hxe : rd (nets es n) (x : Int) = ((nb es n x : Nat) : Int) := nets_rd hxn
    simp only [e2, Ev.ite_iff, hxe, gand _ _ (lt62 hn (nb_lt es n x)) (lt62 hn hsl), nets_len, e3]
    rw [if_pos (by omega), if_pos (by omega), if_pos (by omega), if_pos (by omega), if_pos (by omega), if_pos (by omega), Ev.bind_iff (setOf_ev n _ hn hnbs), Int.toNat_natCast]
    have hsT : s < T.length := by omega
    have := matching_l1 (es := es) hn hsl hxn hxb (((mm es n (2 ^ n - 1) : Nat) : Int), true) (fun T' hT' hi' hs' => ?_) (bl n (nb es n x &&& s)).length 0 (mm es n (mns s (2 ^ x))) (T.set s ((mm es n (mns s (2 ^ x)) : Nat) : Int)) (by omega) (by rw [List.length_set, hT]) (fun i hii => ?_) ?_ ?_ rfl
    · exact this
    · refine ih (s + 1) T' (by omega) (by omega) hT' (fun i hii => ?_)
      by_cases e : i = s
      · subst e; rw [hs', hmm, mmFold_mmL]
      · exact hi' i (by omega)
    · rw [rd_set T s i _ hsT, if_neg (by omega)]; exact hi i hii
    · rw [rd_set T s s _ hsT, if_pos rfl]
    · have := mm_le (es := es) (n := n) (mns s (2 ^ x)); omega

theorem implMatching_at {near : List Int} {N : Nat} (h8 : N ≤ 256) (hp : 0 < N) (n : Int) (es : List S92) (hg : impl_IsGraph.f n es = some true) (hn : impl_netOf.f n es = some near) (h1 : impl_net_all.f near = some ((N - 1 : Nat) : Int)) (k : Nat) : impl_MatchingNumber.f k n es = impl_MatchingNumber.l0 k (List.replicate N 0) 1 near := by
  have h2 : wrap64 (((N - 1 : Nat) : Int) + 1) = (N : Int) := by rw [w64_succ _ (by omega), show N - 1 + 1 = N by omega]
  have h3 : (0 : Int) ≤ (N : Int) := by omega
  have h4 : ((N : Int)).toNat ≤ 35184372088832 := by omega
  unfold impl_MatchingNumber.f
  rw [hg, Option.bind_some, if_pos rfl, hn, Option.bind_some, h1, Option.bind_some, h2, if_pos h3, if_pos h4, Int.toNat_natCast]

theorem implMatchingNumber_ev (n : Int) (es : List S92) : Ev (fun k => impl_MatchingNumber.f k n es) (matchingNumberR n es) := by
  unfold matchingNumberR
  by_cases h : okG n es = true
  · obtain ⟨N, rfl, hN⟩ := okG_use h
    have hp := Nat.two_pow_pos N
    have hok : ∀ e ∈ es, edgeOk N e = true := by
      simp only [okG, Bool.and_eq_true] at h
      exact goodL_all h.2
    rw [if_pos h, ← mm_eL hok]
    have e : (fun k => impl_MatchingNumber.f k N es) = fun k => impl_MatchingNumber.l0 k (List.replicate (2 ^ N) 0) 1 (nets es N) := funext fun k => implMatching_at (p8 hN) hp N es (by rw [IsGraph_eq, h]) (netOf_eq h) (all_eq hN) k
    rw [e]
    refine matching_l0 hN (2 ^ N - 1) 1 _ (by omega) (Nat.le_refl _) List.length_replicate (fun i hi => ?_)
    obtain rfl : i = 0 := by omega
    rw [mm_zero, rd_lt _ _ (by rw [List.length_replicate]; exact hp)]
    simp
  · unfold impl_MatchingNumber.f
    rw [if_neg h, IsGraph_eq]
    simp only [Option.bind_some, Ev.ite_iff]
    rw [if_neg h, Ev.now_iff]

theorem FnExactMatchingNumber_pure (n : Int) (es : List S92) (he : es.length ≤ 9223372036854775807) : Ev (fun k => laws_FnExactMatchingNumber.f k n es) true := by
  unfold laws_FnExactMatchingNumber.f
  rw [szGraph_eq n es (by omega)]
  simp only [Option.bind_some, Ev.ite_iff]
  by_cases hs : es.length ≤ 1048576
  case neg => rw [if_neg hs, if_pos (by omega), Ev.now_iff]
  rw [if_pos hs, if_neg (by omega)]
  have hg := toGraph_ev n es (by omega)
  have hS := specMatchingNumber_ev n es  (by omega)
  have hI := implMatchingNumber_ev n es 
  generalize matchingNumberR n es = R at hS hI
  rw [Ev.bind_iff hg, Ev.bind_iff hS, Ev.bind_iff hg, Ev.bind_iff hI]
  simp only [bne_self_eq_false, Bool.false_eq_true, ↓reduceIte]
  rw [Ev.iff_succ]
  simp only [laws_FnExactMatchingNumber.j0, Bool.false_eq_true, ↓reduceIte]
  rw [Ev.bind_iff hg, Ev.bind_iff (eqGraph_refl n es he)]
  simp only [↓reduceIte]
  rw [Ev.now_iff]

end Go.Proofs.YthbjajppdomhhaaDoor.QMatchingNumber
