import Derived.Test.YthbjajppdomhhaaDoorQChainsOf0
import Derived.Test.YthbjajppdomhhaaDoorQChainsOf11
import Derived.Test.YthbjajppdomhhaaDoorQChainsOf12
import Derived.Test.YthbjajppdomhhaaDoorQChainsOf13
import Derived.Test.YthbjajppdomhhaaDoorQChainsOf6
import Derived.Test.YthbjajppdomhhaaDoorQChainsOf8
import Derived.Test.YthbjajppdomhhaaDoorQChainsOf9
import Derived.Test.YthbjajppdomhhaaDoorQChainsOfA3
namespace Go.Proofs.YthbjajppdomhhaaDoor.QChainsOf
open Go.RowKit Go.Proofs.YthbjajppdomhhaaDoorW.PrintWords Go.Proofs.YthbjajppdomhhaaDoorW.PrintLast Go.Proofs.YthbjajppdomhhaaDoorW.PrintMore
attribute [local go_sem] max2_int min2_int max_two min_two max_three min_three max_four min_four   -- for this text's walks alone
set_option linter.unusedVariables false
set_option linter.unusedSimpArgs false
/-- The program's chains of a table. -/
theorem implChains_l1 {n : Nat} {G : Nat → Int} {S : List Nat} {L : List (List Nat)} (hn : n ≤ 8) (hS : S.length ≤ 8) (hlen : L.length = S.length) (hst : ∀ i (h : i < S.length), ∃ t, L[i]'(by omega) = S[i] :: t)
  (hch : ∀ l ∈ L, isCh G l) (hco : ∀ l ∈ L, ∀ z ∈ l, z < n) (hsh : ∀ l ∈ L, l.length ≤ 100) :
  Ev (fun k => impl_net_chains.l1 k (rowF n G) [] (nI S) (S.length : Int) 0) (nII L, true) := by
 have l2 : ∀ (t : List Nat) (x : Nat) (pre : List Int) (out : List (List Int)) (i : Nat) (r : List (List Int) × Bool), isCh G (x :: t) → (∀ z ∈ x :: t, z < n) → pre.length + (x :: t).length ≤ 200 → out.length ≤ 100 → i < 100 →
   Ev (fun k => impl_net_chains.l1 k (rowF n G) (out ++ [pre ++ nI (x :: t)]) (nI S) (S.length : Int) ((i + 1 : Nat) : Int)) r →
   Ev (fun k => impl_net_chains.l2 k (rowF n G) out (x : Int) pre (nI S) (S.length : Int) (i : Int)) r := by
  intro t
  induction t with
  | nil =>
   intro x pre out i r hc hz hl ho hi hr
   have hx := hz x (by simp)
   rw [Ev.iff_succ]
   have h1 : (x : Int) ≥ 0 := by omega
   have h2 : pre.length < 17592186044416 := by omega
   have h3 : (0 : Int) ≤ (x : Int) := by omega
   have h4 : (x : Int) < ((rowF n G).length : Int) := by rw [rowF_len];omega
   have h5 : G x = -1 := hc
   have h6 : ¬ ((-1 : Int) ≥ 0) := by omega
   have h7 : out.length < 5864062014805 := by omega
   simp only [impl_net_chains.l2, h1, h2, h3, h4, ↓reduceIte, rowF_rd hx, h5]
   rw [Ev.iff_succ]
   simp only [impl_net_chains.l2, h6, h7, ↓reduceIte, w64_succ i (show i < 9223372036854775807 by omega)]
   exact hr
  | cons y t ih =>
   intro x pre out i r hc hz hl ho hi hr
   have hx := hz x (by simp)
   rw [Ev.iff_succ]
   have h1 : (x : Int) ≥ 0 := by omega
   have h2 : pre.length < 17592186044416 := by omega
   have h3 : (0 : Int) ≤ (x : Int) := by omega
   have h4 : (x : Int) < ((rowF n G).length : Int) := by rw [rowF_len];omega
   have h5 : G x = (y : Int) := hc.1
   simp only [impl_net_chains.l2, h1, h2, h3, h4, ↓reduceIte, rowF_rd hx, h5]
   refine ih y (pre ++ [(x : Int)]) out i r hc.2 (fun z hm => hz z (List.mem_cons_of_mem _ hm)) (by simp only [List.length_append, List.length_cons, List.length_nil] at hl ⊢;omega) ho hi ?_
   rw [show pre ++ [(x : Int)] ++ nI (y :: t) = pre ++ nI (x :: y :: t) by simp [nI]]
   exact hr
 have H := down S.length (fun i => Ev (fun k => impl_net_chains.l1 k (rowF n G) (nII (L.take i)) (nI S) (S.length : Int) i) (nII L, true)) ?_ ?_ 0 (by omega)
 ·simpa [nII] using H
 ·show Ev _ _
  rw [Ev.iff_succ]
  simp only [impl_net_chains.l1, Int.lt_irrefl, ↓reduceIte, Ev.now_iff]
  rw [← hlen, List.take_length]
 ·intro i hi ih
  show Ev _ _
  rw [Ev.iff_succ]
  have h1 : (i : Int) < (S.length : Int) := by omega
  have h2 : (0 : Int) ≤ i := by omega
  have h3 : (i : Int) < ((nI S).length : Int) := by rw [nI_len];omega
  obtain ⟨t, ht⟩ := hst i hi
  have hmem : L[i]'(by omega) ∈ L := List.getElem_mem _
  have hc := hch _ hmem
  have hz := hco _ hmem
  have hl := hsh _ hmem
  rw [ht] at hc hz hl
  simp only [impl_net_chains.l1, h1, h2, h3, ↓reduceIte, rd_nI S i hi]
  refine l2 t S[i] [] (nII (L.take i)) i _ hc hz (by simpa using (by omega : (S[i] :: t).length ≤ 200)) (by rw [nII_len, List.length_take];omega) (by omega) ?_
  rw [List.take_succ_eq_append_getElem (by omega : i < L.length), nII, List.map_append, ht] at ih
  exact ih

theorem implChains_ev {es : List S92} {n m : Nat} (hn : n ≤ 8) (hm : m < 2 ^ n) :
  Ev (fun k => impl_net_chains.f k (nets es n) (bl n m)) (if closM es n false m = 2 ^ n - 1 then (nII (runL es n 9 m ((blN n m).map fun z => [z])), true) else ([], false)) := by
 have hbl := bl_len_le n m
 have hr : ∀ x ∈ bl n m, 0 ≤ x ∧ x < 8 := bl_range hn
 unfold impl_net_chains.f impl_net_size.f
 rw [Ev.bind_iff (maskOf_ev (bl n m) (by omega) hr), mL_bl hm, nets_len]
 simp only [Option.bind_some]
 have hrep : slices_Repeat_int_int.f ([(-1)] : List Int) (n : Int) = some (rowF n (fun _ => -1)) := by
  unfold slices_Repeat_int_int.f
  rw [if_pos ⟨rfl, by omega, by omega⟩, Int.toNat_natCast]
  congr 1
  unfold rowF
  rw [List.map_const', List.length_range];rfl
 rw [hrep]
 simp only [Option.bind_some]
 have hgo : ∀ (d c : Nat) (F : Nat → Int) (res : List (List Int) × Bool), c < 2 ^ n → n < (bl n c).length + d →
   (∀ G, runC es n d c F = some G → Ev (fun k => impl_net_chains.l1 k (rowF n G) [] (bl n m) ((bl n m).length : Int) 0) res) → (runC es n d c F = none → res = ([], false)) →
   Ev (fun k => impl_net_chains.l0 k (bl n m) c (rowF n F) (nets es n)) res := by
  intro d
  induction d with
  | zero => intro c F res hc h;have := bl_len_le n c;omega
  | succ d ih =>
   intro c F res hc h hs hnone
   rw [Ev.iff_succ]
   simp only [impl_net_chains.l0, all_eq hn, Option.bind_some]
   rw [Ev.ite_iff]
   unfold runC at hs hnone
   by_cases cf : c = 2 ^ n - 1
   ·rw [if_pos (by rw [cf])]
    rw [if_pos cf] at hs
    exact hs F rfl
   ·rw [if_neg (by omega), Ev.bind_iff (setOf_ev n c hn hc)]
    rw [if_neg cf] at hs hnone
    obtain ⟨ix, h1, h2, h3⟩ := idxO_find (chQ (nets es n) c) (fun x => isPow (opM es n c x)) (blN n c) 0 (fun z hz => chQ_eq hn hc (blN_mem.1 hz).1)
    rw [find_blN] at h2 h3
    rw [bl_blN n c, show ((0 : Nat) : Int) = (0 : Int) from rfl] at *
    rw [h1]
    simp only [Option.bind_some]
    cases hst : stepX es n c with
    | none =>
     rw [hst] at hnone
     have : ix = -1 := h2 hst
     rw [Ev.ite_iff, if_pos (by omega), Ev.now_iff, hnone rfl]
    | some x =>
     rw [hst] at hs hnone
     replace hs : ∀ G, runC es n d (c ||| 2 ^ stepY es n c x) (updF F x (stepY es n c x)) = some G → Ev (fun k => impl_net_chains.l1 k (rowF n G) [] (bl n m) ((bl n m).length : Int) 0) res := hs
     replace hnone : runC es n d (c ||| 2 ^ stepY es n c x) (updF F x (stepY es n c x)) = none → res = ([], false) := hnone
     obtain ⟨j, e, hj, hx⟩ := h3 x hst
     rw [Nat.zero_add] at e
     obtain ⟨g1, g2, g3, g4, g5⟩ := stepX_some hn hst
     generalize hye : stepY es n c x = y at g3 g4 g5 hs hnone
     have hset := setOf_ev n c hn hc
     rw [bl_blN n c] at hset
     have hrd : rd (nI (blN n c)) (j : Int) = (x : Int) := by rw [rd_nI _ j hj, hx]
     have htz : bits_TrailingZeros.f (IntKind.u64.wrap (Go.bits .andNot .i64 (rd (nets es n) (x : Int)) c)) = some ((y : Nat) : Int) := by
      rw [nets_rd g1, gandn _ _ (lt62 hn (nb_lt es n x)) (lt62 hn hc)]
      have : mns (nb es n x) c = 2 ^ y := g4
      rw [this, tz_ev hn (Nat.pow_lt_pow_right (by decide) g3) (by have := Nat.two_pow_pos y;omega), low_pow hn g3]
     have hsetr : (rowF n F).set ((x : Int)).toNat ((y : Nat) : Int) = rowF n (updF F x y) := by rw [Int.toNat_natCast, rowF_set g1];rfl
     have q1 : ¬ ((j : Int) < 0) := by omega
     have q2 : (0 : Int) ≤ (j : Int) := by omega
     have q3 : (j : Int) < ((nI (blN n c)).length : Int) := by rw [nI_len];omega
     have q4 : (0 : Int) ≤ (x : Int) := by omega
     have q5 : (x : Int) < ((nets es n).length : Int) := by rw [nets_len];omega
     have q6 : (x : Int) < ((rowF n F).length : Int) := by rw [rowF_len];omega
     have q7 : rd (rowF n (updF F x y)) (x : Int) = (y : Int) := by rw [rowF_rd g1];simp [updF]
     have q8 : (0 : Int) ≤ (y : Int) := by omega
     rw [e, Ev.ite_iff, if_neg q1, Ev.bind_iff hset, Ev.ite_iff, if_pos q2, Ev.ite_iff, if_pos q3, hrd, Ev.ite_iff, if_pos q4, Ev.ite_iff, if_pos q5, htz]
     simp only [Option.bind_some]
     rw [Ev.ite_iff, if_pos q6, hsetr, q7, Ev.ite_iff, if_pos q8, shl_one (show y < 62 by omega), gor _ _ (lt62 hn hc) (Nat.pow_lt_pow_right (by decide) (show y < 62 by omega))]
     have hb := bl_more g3 g5
     rw [← bl_blN n c] at *
     exact ih (c ||| 2 ^ y) (updF F x y) res (or_pow_lt hc g3) (by omega) hs hnone
 have hS : ∀ z ∈ blN n m, z < n ∧ m.testBit z = true := fun z hz => blN_mem.1 hz
 have hsome := runC_some (es := es) hn 9 m (fun _ => -1) hm (by omega)
 refine hgo 9 m (fun _ => -1) _ hm (by omega) (fun G hG => ?_) (fun hN => ?_)
 ·rw [hG] at hsome
  have hc : closM es n false m = 2 ^ n - 1 := by simpa using hsome.symm
  rw [if_pos hc]
  obtain ⟨m', hI⟩ := run_inv hn 9 m _ _ hm (ChInv_start hS) G hG
  have hb' := bl_len_le n m'
  have := implChains_l1 (G := G) (S := blN n m) hn (by rw [blN_len];omega) hI.len hI.starts hI.chain (fun l hl z hz => (hI.coloured l hl z hz).1) (fun l hl => by have := hI.short l hl;omega)
  rw [blN_len] at this
  exact this
 ·rw [hN] at hsome
  have hc : ¬ closM es n false m = 2 ^ n - 1 := by simpa using hsome.symm
  rw [if_neg hc]

/-- The reference's chains. -/
theorem specChains_l3 {es : List S92} {n c x y : Nat} (hn : n ≤ 8) (hy : y < n) {L : List (List Nat)} (hL : L.length ≤ 100) (hne : ∀ l ∈ L, l ≠ [] ∧ l.length ≤ 100) (r : List (List Int))
  (hr : Ev (fun k => spec_l9Chains.l1 k (nII (L.map (grow x y))) (bl n (c ||| 2 ^ y)) n es) r) :
  Ev (fun k => spec_l9Chains.l3 k (nII L) (bl n c) (x : Int) (y : Int) 0 n es) r := by
 have H := down L.length (fun i => Ev (fun k => spec_l9Chains.l3 k (nII ((L.take i).map (grow x y) ++ L.drop i)) (bl n c) (x : Int) (y : Int) i n es) r) ?_ ?_ 0 (by omega)
 ·simpa using H
 ·show Ev _ _
  rw [List.take_length, List.drop_length, List.append_nil, Ev.iff_succ]
  have h0 : ¬ ((L.length : Int) < ((nII (L.map (grow x y))).length : Int)) := by rw [nII_len, List.length_map];omega
  simp only [spec_l9Chains.l3, h0, ↓reduceIte, l1Put_bl hn hy, Option.bind_some]
  exact hr
 ·intro i hi ih
  show Ev _ _
  rw [Ev.iff_succ]
  have hlen : ((L.take i).map (grow x y) ++ L.drop i).length = L.length := by simp;omega
  have h1 : (i : Int) < ((nII ((L.take i).map (grow x y) ++ L.drop i)).length : Int) := by rw [nII_len, hlen];omega
  have h2 : (0 : Int) ≤ i := by omega
  have he : ((L.take i).map (grow x y) ++ L.drop i)[i]'(by omega) = L[i] := by
   rw [List.getElem_append_right (by simp;omega), List.getElem_drop]
   congr 1
   simp;omega
  have h3 : rd_L2 (nII ((L.take i).map (grow x y) ++ L.drop i)) (i : Int) = nI L[i] := by rw [rdL_nII _ i (by omega), he]
  obtain ⟨g1, g2⟩ := hne _ (List.getElem_mem hi)
  have g3 := List.length_pos_iff.2 g1
  have h4 : wrap64 (((nI L[i]).length : Int) - 1) = ((L[i].length - 1 : Nat) : Int) := by rw [nI_len, w64 (by omega) (by omega)];omega
  have h5 : (0 : Int) ≤ ((L[i].length - 1 : Nat) : Int) := by omega
  have h6 : ((L[i].length - 1 : Nat) : Int) < ((nI L[i]).length : Int) := by rw [nI_len];omega
  have h7 := last_nI L[i] g1
  have h8 : (nI L[i]).length < 17592186044416 := by rw [nI_len];omega
  simp only [spec_l9Chains.l3, h1, h2, h3, h4, h5, h6, h7, h8, ↓reduceIte]
  clear h4
  rw [Ev.ite_iff]
  have hnext : nII ((L.take (i + 1)).map (grow x y) ++ L.drop (i + 1)) = (nII ((L.take i).map (grow x y) ++ L.drop i)).set i (nI (grow x y L[i])) := by
   unfold nII
   rw [List.take_succ_eq_append_getElem hi, List.map_append, List.map_append, List.drop_eq_getElem_cons hi, List.map_append, List.map_append, List.map_cons, List.set_append_right _ _ (by simp;omega)]
   simp [show i - min i L.length = 0 by omega]
   rw [List.drop_eq_getElem_cons (show i < (L.map nI).length by simpa using hi), List.set_cons_zero]
  by_cases e : lastN L[i] = x
  ·rw [if_pos (by rw [e])]
   have hg : nI L[i] ++ [(y : Int)] = nI (grow x y L[i]) := by unfold grow;rw [if_pos e];simp [nI]
   simp only [Int.toNat_natCast, hg, w64_succ i (show i < 9223372036854775807 by omega)]
   rw [← hnext]
   exact ih
  ·rw [if_neg (by omega)]
   have hg : grow x y L[i] = L[i] := by unfold grow;rw [if_neg e]
   simp only [w64_succ i (show i < 9223372036854775807 by omega)]
   have hsame : nII ((L.take (i + 1)).map (grow x y) ++ L.drop (i + 1)) = nII ((L.take i).map (grow x y) ++ L.drop i) := by
    rw [hnext, hg]
    refine List.ext_getElem (by simp) (fun j h1' h2' => ?_)
    rw [List.getElem_set]
    split
    ·rename_i ej
     subst ej
     simp only [nII, List.getElem_map, he]
    ·rfl
   rw [← hsame]
   exact ih

theorem specChains_l1 {es : List S92} {n : Nat} (hn : n ≤ 8) (he : es.length ≤ 9223372036854775807) : ∀ (d c : Nat) (L : List (List Nat)), c < 2 ^ n → n < (bl n c).length + d → closM es n false c = 2 ^ n - 1 → L.length ≤ 100 → (∀ l ∈ L, l ≠ [] ∧ l.length + d ≤ 100) →
  Ev (fun k => spec_l9Chains.l1 k (nII L) (bl n c) n es) (nII (runL es n d c L)) := by
 intro d
 induction d with
 | zero => intro c L hc h;have := bl_len_le n c;omega
 | succ d ih =>
  intro c L hc h hcl hL hne
  rw [Ev.iff_succ]
  simp only [spec_l9Chains.l1]
  rw [Ev.ite_iff]
  unfold runL
  have hfull := bl_len_full n hn c hc
  have hle := bl_len_le n c
  by_cases cf : c = 2 ^ n - 1
  ·have := hfull.2 cf
   rw [if_neg (by omega), if_pos cf, Ev.now_iff]
  ·have hlt : (bl n c).length < n := by have := mt hfull.1 cf;omega
   rw [if_pos (by omega), if_neg cf]
   cases hst : stepX es n c with
   | none => exact absurd (by rw [← hcl, closM_stop (stepX_none hc hst)]) cf
   | some x =>
    obtain ⟨g1, g2, g3, g4, g5⟩ := stepX_some hn hst
    have hfind := (List.find?_range_eq_some).1 hst
    have hmin := hfind.2.2
    have hstep := clos_step hn hc hst
    have hb := bl_more g3 g5
    simp only []
    generalize hye : stepY es n c x = y at g3 g4 g5 hb hstep ⊢
    have hmap : ∀ l ∈ L.map (grow x y), l ≠ [] ∧ l.length + d ≤ 100 := fun l hl => by
     obtain ⟨k, hk, rfl⟩ := List.mem_map.1 hl
     obtain ⟨a1, a2⟩ := hne k hk
     unfold grow
     split
     ·exact ⟨by simp, by rw [List.length_append, List.length_singleton];omega⟩
     ·exact ⟨a1, by omega⟩
    have hnext := ih (c ||| 2 ^ y) (L.map (grow x y)) (or_pow_lt hc g3) (by omega) (by rw [hstep];exact hcl) (by rw [List.length_map];exact hL) hmap
    have hl3 := specChains_l3 (es := es) (c := c) (x := x) hn g3 hL (fun l hl => ⟨(hne l hl).1, by have := (hne l hl).2;omega⟩) _ hnext
    have H := down x (fun z => Ev (fun k => spec_l9Chains.l2 k (nII L) (bl n c) z n es) (nII (runL es n d (c ||| 2 ^ y) (L.map (grow x y))))) ?_ ?_ 0 (by omega)
    ·exact H
    ·show Ev _ _
     rw [Ev.iff_succ]
     have e1 : Ev (fun k => spec_l9Open.f k n es (bl n c) x) [(y : Int)] := by
      have := l9Open_ev es n c x hn he
      rw [g4, bl_pow n hn y g3] at this
      exact this
     have e2 : (x : Int) ∈ bl n c := mem_bl_nat.2 ⟨g1, g2⟩
     simp only [spec_l9Chains.l2]
     rw [Ev.bind_iff (l1Has_ev (bl n c) x (by omega)), Ev.ite_iff, if_pos (decide_eq_true e2), Ev.bind_iff e1, Ev.ite_iff, if_pos (by simp), Ev.bind_iff e1, Ev.ite_iff, if_pos (by simp)]
     exact hl3
    ·intro z hz ihz
     show Ev _ _
     rw [Ev.iff_succ]
     simp only [spec_l9Chains.l2]
     have hno := hmin z hz
     have hzn : z < n := by omega
     rw [Ev.bind_iff (l1Has_ev (bl n c) z (by omega)), Ev.ite_iff]
     simp only [w64_succ z (show z < 9223372036854775807 by omega)]
     by_cases hbz : c.testBit z = true
     ·have hp : isPow (opM es n c z) = false := by simpa [hbz] using hno
      rw [isPow_len n hn _ (opM_lt es n c z)] at hp
      rw [if_pos (decide_eq_true (mem_bl_nat.2 ⟨hzn, hbz⟩)), Ev.bind_iff (l9Open_ev es n c z hn he), Ev.ite_iff, if_neg (by simp only [decide_eq_false_iff_not] at hp;omega)]
      exact ihz
     ·rw [if_neg (by simp only [decide_eq_true_eq, mem_bl_nat, hzn, true_and];exact hbz)]
      exact ihz

theorem specChains_ev {es : List S92} {n m : Nat} (hn : n ≤ 8) (he : es.length ≤ 9223372036854775807) (hm : m < 2 ^ n) (hcl : closM es n false m = 2 ^ n - 1) :
  Ev (fun k => spec_l9Chains.f k n es (bl n m)) (nII (runL es n 9 m ((blN n m).map fun z => [z]))) := by
 unfold spec_l9Chains.f
 have hbl := bl_len_le n m
 have hlen := blN_len n m
 have h1 := specChains_l1 hn he 9 m ((blN n m).map fun z => [z]) hm (by omega) hcl (by rw [List.length_map];omega) (fun l hl => by obtain ⟨k, _, rfl⟩ := List.mem_map.1 hl;simp)
 generalize runL es n 9 m ((blN n m).map fun z => [z]) = R at h1 ⊢
 have H := down (blN n m).length (fun i => Ev (fun k => spec_l9Chains.l0 k (bl n m) (nII (((blN n m).take i).map fun z => [z])) i n es) (nII R)) ?_ ?_ 0 (by omega)
 ·simpa [nII] using H
 ·show Ev _ _
  rw [Ev.iff_succ]
  have h0 : ¬ (((blN n m).length : Int) < ((bl n m).length : Int)) := by omega
  simp only [spec_l9Chains.l0, h0, ↓reduceIte, l1Own_eq (show (bl n m).length < 17592186044416 by omega), Option.bind_some, List.take_length]
  exact h1
 ·intro i hi ih
  show Ev _ _
  rw [Ev.iff_succ]
  have g1 : (i : Int) < ((bl n m).length : Int) := by omega
  have g2 : (0 : Int) ≤ i := by omega
  have g3 : (nII (((blN n m).take i).map fun z => [z])).length < 5864062014805 := by rw [nII_len, List.length_map, List.length_take];omega
  simp only [spec_l9Chains.l0, g1, g2, g3, ↓reduceIte, w64_succ i (show i < 9223372036854775807 by omega)]
  rw [bl_blN n m, rd_nI _ i hi, ← bl_blN n m]
  rw [List.take_succ_eq_append_getElem hi, List.map_append, nII, List.map_append] at ih
  exact ih

theorem lastN_mem : ∀ l : List Nat, l ≠ [] → lastN l ∈ l
 | [], h => absurd rfl h
 | [z], _ => by simp [lastN]
 | z :: w :: t, _ => List.mem_cons_of_mem _ (lastN_mem (w :: t) (by simp))

theorem chL_ok {es : List S92} {n m : Nat} (hn : n ≤ 8) (hm : m < 2 ^ n) (hcl : closM es n false m = 2 ^ n - 1) : (runL es n 9 m ((blN n m).map fun z => [z])).length ≤ 8 ∧ ∀ l ∈ runL es n 9 m ((blN n m).map fun z => [z]), l ≠ [] ∧ l.length ≤ 100 ∧ lastN l < n := by
 have hbl := bl_len_le n m
 have hsome := runC_some (es := es) hn 9 m (fun _ => -1) hm (by omega)
 rw [hcl] at hsome
 obtain ⟨G, hG⟩ := Option.isSome_iff_exists.1 (hsome.trans (by simp))
 obtain ⟨m', hI⟩ := run_inv hn 9 m _ _ hm (ChInv_start (S := blN n m) (fun z hz => blN_mem.1 hz)) G hG
 have hb' := bl_len_le n m'
 refine ⟨by rw [hI.len, blN_len];omega, fun l hl => ?_⟩
 have hne : l ≠ [] := fun e => by have := hI.chain l hl;rw [e] at this;exact this
 have := hI.short l hl
 exact ⟨hne, by omega, (hI.coloured l hl _ (lastN_mem l hne)).1⟩

def chainsOfR (n : Int) (es : List S92) (l : List Int) : List (List Int) × Bool := if setB n es l = true ∧ closM es n.toNat false (mL l) = 2 ^ n.toNat - 1 then (nII (runL es n.toNat 9 (mL l) ((blN n.toNat (mL l)).map fun z => [z])), true) else ([], false)

theorem chainsOfR_len (n : Int) (es : List S92) (l : List Int) : (chainsOfR n es l).1.length ≤ 1048576 ∧ (∀ r ∈ (chainsOfR n es l).1, r.length ≤ 1048576) ∧ ((chainsOfR n es l).1.map List.length).sum ≤ 1099511627776 := by
 unfold chainsOfR
 split
 ·rename_i h
  obtain ⟨N, m, rfl, hN, hg, hok, hm, rfl, hml⟩ := setB_use h.1
  have hc := h.2
  rw [hml, Int.toNat_natCast] at hc ⊢
  obtain ⟨hL, hA⟩ := chL_ok (es := es) hN hm hc
  generalize runL es N 9 m ((blN N m).map fun z => [z]) = L at hL hA
  have h3 : ∀ r ∈ nII L, r.length ≤ 100 := fun r hr => by
   obtain ⟨k, hk, rfl⟩ := List.mem_map.1 hr
   rw [nI_len];exact (hA k hk).2.1
  have h4 := sum_le_mul _ 100 h3
  rw [nII_len] at h4
  exact ⟨by rw [nII_len];omega, fun r hr => by have := h3 r hr;omega, by show ((nII L).map List.length).sum ≤ _;omega⟩
 ·simp

theorem specChainsOf_ev (n : Int) (es : List S92) (l : List Int) (hl : l.length ≤ 9223372036854775807) (he : es.length ≤ 9223372036854775807) : Ev (fun k => spec_ChainsOf.f k n es l) (chainsOfR n es l) := by
 unfold spec_ChainsOf.f chainsOfR
 rw [Ev.bind_iff (l9Both_ev n es l hl), Ev.ite_iff]
 by_cases h : setB n es l = true
 case neg => rw [if_neg h, if_neg (fun g => h g.1), Ev.now_iff]
 obtain ⟨N, m, rfl, hN, hg, hok, hm, rfl, hml⟩ := setB_use h
 rw [if_pos h, Ev.bind_iff (l9Forces_ev es N m hN hm he), hml, Int.toNat_natCast, Ev.ite_iff]
 by_cases c : closM es N false m = 2 ^ N - 1
 ·rw [if_pos (decide_eq_true c), if_pos ⟨h, c⟩, Ev.bind_iff (specChains_ev hN he hm c), Ev.now_iff]
 ·rw [if_neg (by simp [c]), if_neg (fun g => c g.2), Ev.now_iff]

theorem implChainsOf_ev (n : Int) (es : List S92) (l : List Int) (hl : l.length ≤ 9223372036854775807) : Ev (fun k => impl_ChainsOf.f k n es l) (chainsOfR n es l) := by
 unfold impl_ChainsOf.f chainsOfR
 rw [Ev.bind_iff (isSet_ev n es l hl), Ev.ite_iff]
 by_cases h : setB n es l = true
 case neg => rw [if_neg h, if_neg (fun g => h g.1), Ev.now_iff]
 obtain ⟨N, m, rfl, hN, hg, hok, hm, rfl, hml⟩ := setB_use h
 rw [if_pos h, netOf_eq hg, hml, Int.toNat_natCast]
 simp only [Option.bind_some]
 rw [Ev.bind_iff (implChains_ev (es := es) hN hm)]
 by_cases c : closM es N false m = 2 ^ N - 1
 ·rw [if_pos c, if_pos ⟨h, c⟩, Ev.now_iff]
 ·rw [if_neg c, if_neg (fun g => c g.2), Ev.now_iff]

end Go.Proofs.YthbjajppdomhhaaDoor.QChainsOf
