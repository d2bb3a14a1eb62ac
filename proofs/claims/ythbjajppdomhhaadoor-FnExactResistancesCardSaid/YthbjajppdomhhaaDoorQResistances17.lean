import Derived.Test.YthbjajppdomhhaaDoorQResistances0
import Derived.Test.YthbjajppdomhhaaDoorQResistances16
import Derived.Shelf.SlicesE.DeleteFunc
import Derived.Lib.RowBridge
import Derived.Ground.SlgfProg
namespace Go.Proofs.YthbjajppdomhhaaDoor.QResistances
open Go.RowKit Go.Proofs.YthbjajppdomhhaaDoorW.PrintWords Go.Proofs.YthbjajppdomhhaaDoorW.PrintLast Go.Proofs.YthbjajppdomhhaaDoorW.PrintMore
attribute [local go_sem] max2_int min2_int max_two min_two max_three min_three max_four min_four   -- for this text's walks alone
set_option linter.unusedVariables false
set_option linter.unusedSimpArgs false
/-! ### impl_guardGame_answers: by hand -/
/-! #### slices.IndexFunc at []int, a predicate that may lay blocks, told up to the first that is wanted: by hand -/
def idxD (q : Int → Option Bool) : List Int → Int → Option Int
 | [], _ => some (-1)
 | x :: l, i => (q x).bind fun b => if b = true then some i else idxD q l (i + 1)
theorem idxD_mono {q q' : Int → Option Bool} (h : ∀ x, LeO (q x) (q' x)) : ∀ (l : List Int) (i : Int), LeO (idxD q l i) (idxD q' l i)
 | [], _ => LeO.refl _
 | x :: l, i => by
  unfold idxD
  refine LeO.bind (h x) (fun b => ?_)
  refine LeO.ite (LeO.refl _) (idxD_mono h l _)
theorem idxD_use {q : Int → Option Bool} {l : List Int} {kk : Nat} {r : Int} (hi : kk < l.length) (h : idxD q (l.drop kk) (kk : Int) = some r) :
  ∃ b, q (rd l (kk : Int)) = some b ∧ ((b = true ∧ r = (kk : Int)) ∨ (b = false ∧ idxD q (l.drop (kk + 1)) ((kk + 1 : Nat) : Int) = some r)) := by
 have e : rd l (kk : Int) = l[kk] := by simp [rd, hi]
 rw [List.drop_eq_getElem_cons hi] at h
 unfold idxD at h
 obtain ⟨b, hb, h⟩ := Option.bind_eq_some_iff.1 h
 refine ⟨b, by rw [e];exact hb, ?_⟩
 cases b with
 | true => rw [if_pos rfl] at h;exact .inl ⟨rfl, (Option.some.inj h).symm⟩
 | false => rw [if_neg (by decide)] at h;exact .inr ⟨rfl, by rw [← h];rfl⟩
set_option maxHeartbeats 1600000 in
set_option maxRecDepth 100000 in
theorem indexFuncD_calls (g : Nat) (lb : Array Value) (eg : ∀ args w, (callFunc g args).run Tryd.prog w = .ok (.enter g args) w) (q : Int → Option Bool) (A : Option Addr) (c : Nat) (l : List Int) (w : World) (hr : Kd.C (Kd.int .i64) w A l.length l) (r : Int) (h : idxD q l 0 = some r)
  (hp : ∀ x b W, q x = some b → Below w.heap.size w W → Calls Tryd.prog g (#[.int .i64 x] ++ lb) W fun e w' => e = .returned (.bool b) ∧ Below W.heap.size W w') :
  Calls Tryd.prog 104 #[.slice A l.length c, .func (.func g) #[] lb] w fun e w' => e = .returned (.int .i64 r) ∧ Below w.heap.size w w' := by
 have HR := Aside0.mk hr
 have HP := Aside0.mk hp
 have hL := hr.2.1
 have HI := Aside0.mk (show idxD q (l.drop 0) ((0 : Nat) : Int) = some r from h)
 clear hr hp h
 go_enter Tryd.func104, Tryd.ntmps104
 go_wp2
 go_loopg [5, 8] l.length (fun gg _ s8 wr => ∃ kk : Nat, kk ≤ l.length ∧ l.length - kk ≤ gg ∧ s8 = .int .i64 (kk : Int) ∧ Aside0 (Below w.heap.size w wr) ∧ Aside0 (idxD q (l.drop kk) (kk : Int) = some r))
 case atStart => exact ⟨0, Nat.zero_le _, by omega, rfl, ⟨Below.refl _ _⟩, HI⟩
 case round =>
  clear HI
  obtain ⟨kk, hkk, hg, rfl, HB, NY⟩ := hrel
  by_cases hlt : kk < l.length
  ·have hltz : (kk : Int) < (l.length : Int) := by omega
   have hk0 : (0 : Int) ≤ (kk : Int) := by omega
   obtain ⟨ad, rfl, hcell⟩ := Kd.at_int (Kd.C_below HR.out HB.out) (kk : Int) hk0 hltz
   rw [Int.toNat_natCast] at hcell
   obtain ⟨b, hq, hcs⟩ := idxD_use hlt NY.out
   have hcall := HP.out (rd l (kk : Int)) b wr hq HB.out
   clear hq NY
   have HC := Aside0.mk hcs
   clear hcs
   generalize hx : rd l (kk : Int) = x at hcell hcall
   clear hx
   cases b with
   | true =>
    obtain rfl : r = (kk : Int) := by rcases HC.out with h | h;exact h.2;exact absurd h.1 (by decide)
    clear HC
    go_wp2_with (go_at_fn g;refine hcall.mono ?_;rintro e w' ⟨rfl, hb⟩)
    go_ret
    exact ⟨rfl, below_step HB.out hb⟩
   | false =>
    have NY := Aside0.mk (show idxD q (l.drop (kk + 1)) ((kk + 1 : Nat) : Int) = some r by rcases HC.out with h | h;exact absurd h.1 (by decide);exact h.2)
    clear HC
    go_wp2_with (go_at_fn g;refine hcall.mono ?_;rintro e w' ⟨rfl, hb⟩)
    go_roundg (l.length - (kk + 1))
    case measure => omega
    case rel => exact ⟨kk + 1, by omega, by omega, by first | rfl | go_num, ⟨below_step HB.out hb⟩, NY⟩
  ·have hltz : ¬ (kk : Int) < (l.length : Int) := by omega
   obtain rfl : kk = l.length := by omega
   obtain rfl : r = -1 := by have h := NY.out;rw [List.drop_length] at h;exact (Option.some.inj h).symm
   go_wp2
   go_ret
   exact ⟨rfl, HB.out⟩

/-! #### slices.DeleteFunc at this program -/
section
open Go.Shelf
def Tryd.delL_ren : Go.Shelf.Ren := ⟨fun | 10 => 114 | 6 => 104 | n => n, fun | 22 => 32 | 23 => 3 | 25 => 111 | 3 => 3 | 4 => 4 | 0 => 0 | n => n, fun | n => n⟩
theorem Tryd.delL : Go.Proofs.SlLaysH.n10 Tryd.prog Tryd.delL_ren := {
 mixed := by kernel_rfl
 f6 := ⟨Tryd.f104.name, by decide, Tryd.func104.trans (congrArg some (by kernel_rfl))⟩
 f10 := ⟨Tryd.f114.name, by decide, Tryd.func114.trans (congrArg some (by kernel_rfl))⟩
 t0 := Tryd.underlying0
 a0 := Tryd.isAgg0
 z0 := Tryd.sizeOf0
 v0 := Tryd.zeroValue0
 t3 := Tryd.underlying3
 a3 := Tryd.isAgg3
 z3 := Tryd.sizeOf3
 v3 := Tryd.zeroValue3
 t4 := Tryd.underlying4
 a4 := Tryd.isAgg4
 z4 := Tryd.sizeOf4
 v4 := Tryd.zeroValue4
 t22 := Tryd.underlying32
 a22 := Tryd.isAgg32
 z22 := Tryd.sizeOf32
 v22 := Tryd.zeroValue32
 a23 := Tryd.isAgg3
 z23 := Tryd.sizeOf3
 t25 := Tryd.underlying111
 a25 := Tryd.isAgg111
 z25 := Tryd.sizeOf111
 v25 := Tryd.zeroValue111 }

end
def clipN (N x : Int) : Int := if 0 ≤ x ∧ x < N then x else 0
theorem clipN_in {N x : Int} (h : 0 ≤ x ∧ x < N) : clipN N x = x := if_pos h
theorem clipN_ok {N : Int} (x : Int) (hN : 0 < N) : 0 ≤ clipN N x ∧ clipN N x < N := by
 unfold clipN
 split
 ·assumption
 ·exact ⟨Int.le_refl _, hN⟩
def delF (sets : List (List Int)) (attack : Int) (l : List Int) : Option (List Int) := if ∀ x ∈ l, 0 ≤ x ∧ x < (sets.length : Int) then some (l.filter fun x => (rd_L2 sets x).contains attack) else none
theorem delF_use {sets : List (List Int)} {attack : Int} {l r : List Int} (h : delF sets attack l = some r) : (∀ x ∈ l, 0 ≤ x ∧ x < (sets.length : Int)) ∧ (l.filter fun x => (rd_L2 sets x).contains attack) = r := by
 unfold delF at h
 split at h
 ·rename_i hv;exact ⟨hv, Option.some.inj h⟩
 ·cases h
theorem index_told (l : List Int) (x : Int) (hl : l.length ≤ 9223372036854775807) : ∀ (m i : Nat), l.length - i = m → i ≤ l.length → ∃ j, slices_Index_int_int.l0 (m + 1) l x (l.length : Int) (i : Int) = some j ∧ decide (j ≥ 0) = (l.drop i).contains x
 | 0, i, hm, hi => by
  have hn : ¬ ((i : Int) < (l.length : Int)) := by omega
  refine ⟨-1, ?_, ?_⟩
  ·unfold slices_Index_int_int.l0
   rw [if_neg hn]
  ·rw [List.drop_of_length_le (by omega)]
   rfl
 | m + 1, i, hm, hi => by
  have hlt : i < l.length := by omega
  have e : rd l (i : Int) = l[i] := by simp [rd, hlt]
  unfold slices_Index_int_int.l0
  rw [if_pos (by omega), if_pos (by omega), if_pos (by omega), e, List.drop_eq_getElem_cons hlt, List.contains_cons]
  by_cases hx : x = l[i]
  ·rw [if_pos hx]
   refine ⟨_, rfl, ?_⟩
   rw [show (x == l[i]) = true from beq_iff_eq.2 hx, Bool.true_or]
   exact decide_eq_true (by omega)
  ·rw [if_neg hx, show (x == l[i]) = false from beq_eq_false_iff_ne.2 hx, Bool.false_or]
   rw [show wrap64 ((i : Int) + 1) = ((i + 1 : Nat) : Int) by unfold wrap64;omega]
   exact index_told l x hl m (i + 1) (by omega) (by omega)
theorem contains_told (l : List Int) (x : Int) (hl : l.length ≤ 9223372036854775807) : ∃ k, slices_Contains_int_int.f k l x = some (l.contains x) := by
 obtain ⟨j, hj, hd⟩ := index_told l x hl l.length 0 (by omega) (Nat.zero_le _)
 refine ⟨l.length + 1, ?_⟩
 unfold slices_Contains_int_int.f slices_Index_int_int.f
 rw [show ((0 : Nat) : Int) = 0 from rfl] at hj
 rw [hj, Option.bind_some, hd, List.drop_zero]
set_option maxHeartbeats 1600000 in
theorem ans_fn (gP gA g : Nat) (A1 : Option Addr) (c1 : Nat) (sets : List (List Int)) (attack x : Int) (W : World) (hP : W.cell? ⟨gP, 0, none⟩ = some (.pointer (some ⟨g, 0, none⟩))) (hA : W.cell? ⟨gA, 0, none⟩ = some (.int .i64 attack)) (hS : W.cell? ⟨g, 1, none⟩ = some (.slice A1 sets.length c1))
  (hC : Kd.C (Kd.slice 3 (Kd.int .i64)) W A1 sets.length sets) (h0 : 0 ≤ x) (h1 : x < (sets.length : Int)) :
  Calls Tryd.prog 115 (#[.int .i64 x] ++ #[.pointer (some ⟨gP, 0, none⟩), .pointer (some ⟨gA, 0, none⟩)]) W fun e w' => e = .returned (.bool (!((rd_L2 sets x).contains attack))) ∧ ∃ q, w' = W.drewN q := by
 obtain ⟨ad, A, c, rfl, hx, hl, hi⟩ := at_L2 hC x h0 h1
 have hlen : (rd_L2 sets x).length ≤ 9223372036854775807 := hi.2.1
 obtain ⟨k, hk⟩ := contains_told (rd_L2 sets x) attack hlen
 have hcall : ∀ q, Calls Tryd.prog 65 #[.slice A (rd_L2 sets x).length c, .int .i64 attack] (W.drewN q) fun e w' => e = .returned (.bool ((rd_L2 sets x).contains attack)) ∧ Drawn0 (W.drewN q) w' := fun q => slices_Contains_int_int.calls k A c (rd_L2 sets x) attack _ _ (Kd.C_drewN hi q) hl hk
 clear hk hlen hC hi hl
 have p0 : (0 ≤ x) = True := eq_true h0
 have p1 : (x < (sets.length : Int)) = True := eq_true h1
 clear h0 h1
 generalize rd_L2 sets x = row at hx hcall ⊢
 show Calls Tryd.prog 115 #[.int .i64 x, .pointer (some ⟨gP, 0, none⟩), .pointer (some ⟨gA, 0, none⟩)] W _
 go_enter Tryd.func115, Tryd.ntmps115
 go_wp2
 go_quiet ((go_at_call 65;refine (hcall _).mono ?_;rintro e w' ⟨rfl, ⟨nd, rfl⟩⟩;exact ⟨rfl, _, World.drewN_drewN _ _ _⟩))
 go_wp2
 go_ret
 exact ⟨by first | rfl | simp, _, by first | rfl | exact World.drewN_drewN _ _ _⟩
theorem below_grow' (w : World) (os : Array Obj) : Below w.heap.size w (Go.Sort.grow w os) :=
 ⟨rfl, rfl, rfl, by show w.heap.size ≤ (w.heap ++ os).size;simp, fun k hk => by show (w.heap ++ os)[k]? = _;rw [Array.getElem?_append_left hk]⟩
theorem below_sortW {α : Type} [Inhabited α] {enc : α → Value} {w W : World} {blk off m : Nat} {dk : Array α} {os : Array Obj} (hB : Below w.heap.size w W) (hblk : w.heap.size ≤ blk) : Below w.heap.size w (Go.Proofs.sortWorld enc W blk off m dk os) := by
 refine ⟨hB.os, hB.tape, hB.output, ?_, fun k hk => ?_⟩
 ·have h1 := hB.size
  have h2 := (below_grow' (Go.Sort.putRow enc (Go.Sort.ahead W m) blk off dk) os).size
  have h3 : (Go.Sort.putRow enc (Go.Sort.ahead W m) blk off dk).heap.size = W.heap.size := Go.Sort.size_putRow enc (Go.Sort.ahead W m) blk off dk
  show w.heap.size ≤ (Go.Sort.grow (Go.Sort.putRow enc (Go.Sort.ahead W m) blk off dk) os).heap.size
  omega
 ·have h3 : (Go.Sort.putRow enc (Go.Sort.ahead W m) blk off dk).heap.size = W.heap.size := Go.Sort.size_putRow enc (Go.Sort.ahead W m) blk off dk
  have h1 := hB.size
  have h4 := (below_grow' (Go.Sort.putRow enc (Go.Sort.ahead W m) blk off dk) os).block k (by omega)
  refine h4.trans ?_
  have h5 : (Go.Sort.putRow enc (Go.Sort.ahead W m) blk off dk).heap[k]? = W.heap[k]? := by
   unfold Go.Sort.putRow Go.Sort.mapBlock
   show (W.heap.modify blk _)[k]? = W.heap[k]?
   rw [Array.getElem?_modify, if_neg (by omega)]
  rw [h5]
  exact hB.block k hk
theorem cell_sortW {α : Type} [Inhabited α] {enc : α → Value} {W : World} {blk off m : Nat} {dk : Array α} {os : Array Obj} {g : Nat} {v : Value} (hne : g ≠ blk) (h : W.cell? ⟨g, 0, none⟩ = some v) : (Go.Proofs.sortWorld enc W blk off m dk os).cell? ⟨g, 0, none⟩ = some v := by
 have hg : g < W.heap.size := World.block_lt_of_cell? _ _ h
 unfold Go.Proofs.sortWorld
 rw [Go.Sort.cell?_grow _ _ _ (by show g < (Go.Sort.putRow enc (Go.Sort.ahead W m) blk off dk).heap.size;rw [Go.Sort.size_putRow];exact hg), Go.Sort.cell?_putRow_other _ _ blk off _ _ (Or.inl hne)]
 exact h
theorem R_setCellsD {base g n cap : Nat} {ok : Nat → Prop} : ∀ (ys : List Int) (i : Nat) (W : World) (xs : List Int), Kd.R (Kd.int .i64) 3 W base ok (.slice (some ⟨g, 0, none⟩) n cap) xs → i + ys.length ≤ xs.length →
  Kd.R (Kd.int .i64) 3 (W.setCells g i (ys.map (Value.int .i64))) base ok (.slice (some ⟨g, 0, none⟩) n cap) (xs.take i ++ ys ++ xs.drop (i + ys.length))
 | [], i, W, xs, h, _ => by
  have e : xs.take i ++ [] ++ xs.drop (i + ([] : List Int).length) = xs := by simp
  rw [e];exact h
 | y :: ys, i, W, xs, h, hl => by
  have h1 := Kd.R_putn h (i : Int) y
  simp only [Int.toNat_natCast] at h1
  have h2 := R_setCellsD ys (i + 1) _ _ h1 (by simp only [List.length_set, List.length_cons] at hl ⊢;omega)
  simp only [List.length_cons] at hl
  have e : (xs.set i y).take (i + 1) ++ ys ++ (xs.set i y).drop (i + 1 + ys.length) = xs.take i ++ (y :: ys) ++ xs.drop (i + (y :: ys).length) := by
   rw [List.drop_set_of_lt (by omega), List.take_succ_eq_append_getElem (by rw [List.length_set];omega), List.take_set_of_le (by omega)]
   simp only [List.getElem_set_self, List.length_cons, List.append_assoc, List.singleton_append]
   rw [show i + 1 + ys.length = i + (ys.length + 1) by omega]
  rw [e] at h2
  exact h2
theorem below_setCellsD {w : World} {g : Nat} : ∀ (vs : List Value) (i : Nat) (W : World), Below w.heap.size w W → w.heap.size ≤ g → Below w.heap.size w (W.setCells g i vs)
 | [], _, _, h, _ => h
 | v :: vs, i, W, h, hg => below_setCellsD vs (i + 1) _ (h.setCell (p := ⟨g, i, none⟩) hg v) hg
theorem R_front {W : World} {base g cap : Nat} {ok : Nat → Prop} {xs : List Int} (ys zs : List Int) (he : xs = ys ++ zs) (h : Kd.R (Kd.int .i64) 3 W base ok (.slice (some ⟨g, 0, none⟩) xs.length cap) xs) : Kd.R (Kd.int .i64) 3 W base ok (.slice (some ⟨g, 0, none⟩) ys.length cap) ys := by
 subst he
 have hok := h.1
 have ho := Kd.own_of_R h
 refine Kd.R_of_own (enc := Value.int .i64) (h1 := fun _ => rfl) ?_ (fun k hk => hok k hk)
 obtain ⟨h0, h1 | ⟨g', cap', cur, e, hb, hg, hn, hc, hs, ht⟩⟩ := ho
 ·exact absurd h1.1 (by simp)
 ·refine ⟨by simp [encs], .inr ⟨g', cap', cur, ?_, hb, hg, ?_, hc, hs, ?_⟩⟩
  ·injection e with e1 e2 e3
   rw [e1, e3]
  ·rw [List.length_append] at hn;omega
  ·rw [Nat.mul_one] at ht ⊢
   have h2 := congrArg (List.take ys.length) ht
   rw [List.take_take, List.length_append, Nat.min_eq_left (by omega)] at h2
   rw [h2]
   simp [encs]
set_option maxHeartbeats 1600000 in
theorem deleteFunc_calls (gP gA g : Nat) (A1 : Option Addr) (c1 : Nat) (sets : List (List Int)) (attack : Int) (w W : World) (Ao : Option Addr) (co : Nat) (l r : List Int) (h : delF sets attack l = some r) (hB : Below w.heap.size w W) (hR : Kd.R (Kd.int .i64) 3 W w.heap.size (fun k => k ≠ gP ∧ k ≠ gA) (.slice Ao l.length co) l)
  (hg : g < w.heap.size) (hP : W.cell? ⟨gP, 0, none⟩ = some (.pointer (some ⟨g, 0, none⟩))) (hA : W.cell? ⟨gA, 0, none⟩ = some (.int .i64 attack)) (hS : w.cell? ⟨g, 1, none⟩ = some (.slice A1 sets.length c1)) (hC : Kd.C (Kd.slice 3 (Kd.int .i64)) w A1 sets.length sets) :
  Calls Tryd.prog 114 #[.slice Ao l.length co, .func (.func 115) #[] #[.pointer (some ⟨gP, 0, none⟩), .pointer (some ⟨gA, 0, none⟩)]] W fun e w' => ∃ v : Value, e = .returned v ∧ Kd.R (Kd.int .i64) 3 w' w.heap.size (fun _ => True) v r ∧ Below w.heap.size w w' := by
 obtain ⟨hin, rfl⟩ := delF_use h
 clear h
 have eg : ∀ args w, (callFunc 115 args).run Tryd.prog w = .ok (.enter 115 args) w := enters_of Tryd.func115 (by kernel_rfl) rfl
 cases l with
 | nil =>
  have hidx := indexFuncD_calls 115 #[.pointer (some ⟨gP, 0, none⟩), .pointer (some ⟨gA, 0, none⟩)] eg (fun _ => none) Ao co [] W (Kd.R_reads' hR).2.2 (-1) rfl (fun x b W h => by cases h)
  have HR := Aside0.mk hR
  have HB := Aside0.mk hB
  have HI := Aside0.mk hidx
  clear hR hB hidx hin hP hA hS hC
  go_enter Tryd.func114, Tryd.ntmps114
  go_wp2_with (go_at_call 104;refine HI.out.mono ?_;rintro e w' ⟨rfl, hb⟩;have n0_ := Aside0.mk (Kd.R_below HR.out hb);have n1_ := Aside0.mk (HB.out.trans ⟨hb.os, hb.tape, hb.output, hb.size, fun k hk => hb.block k (Nat.lt_of_lt_of_le hk HB.out.size)⟩);clear HR HB hb HI)
  go_ret
  exact ⟨_, rfl, Kd.R_mono n0_.out (fun _ _ => trivial), n1_.out⟩
 | cons x0 l0 =>
  generalize hl : x0 :: l0 = l at *
  have hne : 0 < l.length := by rw [← hl];simp
  have hx0 : x0 ∈ l := by rw [← hl];simp
  have hN : (0 : Int) < (sets.length : Int) := by have := hin x0 hx0;omega
  obtain ⟨gb, cap, e, hgb, hlt, _⟩ := Kd.R_form hR hne
  injection e with e1 e2 e3
  subst e1
  subst e3
  have hok := hR.1 gb rfl
  have hcap := (Kd.R_reads' hR).2.1
  have hlen := (Kd.R_reads' hR).2.2.2.1
  have hH : Go.Sort.Holds (fun x : Int => Value.int .i64 (clipN (sets.length : Int) x)) W gb 0 l.toArray := by
   intro j hj
   have hj' : j < l.length := by simpa using hj
   obtain ⟨h1, h2⟩ := Kd.R_celln 0 hR (j : Int) (by omega) (by omega)
   rw [Int.toNat_natCast] at h1 h2
   refine ⟨?_, by rw [Nat.zero_add];exact h2⟩
   rw [Nat.zero_add, h1]
   have e1 : rdOf 0 l (j : Int) = l[j] := by simp [rdOf, hj']
   have e2 : l.toArray[j]! = l[j] := by rw [getElem!_pos _ j hj];simp
   rw [e1, e2]
   show _ = some (Value.int .i64 (clipN (sets.length : Int) l[j]))
   rw [clipN_in (hin _ (List.getElem_mem hj'))]
  have hcl : ∀ (W' : World) (x : Int), Below w.heap.size w W' → W'.cell? ⟨gP, 0, none⟩ = some (.pointer (some ⟨g, 0, none⟩)) → W'.cell? ⟨gA, 0, none⟩ = some (.int .i64 attack) →
    Go.Proofs.FnGives Tryd.prog 115 #[.pointer (some ⟨gP, 0, none⟩), .pointer (some ⟨gA, 0, none⟩)] #[.int .i64 (clipN (sets.length : Int) x)] (.bool (!((rd_L2 sets (clipN (sets.length : Int) x)).contains attack))) W' :=
   fun W' x hb hp ha => ans_fn gP gA g A1 c1 sets attack (clipN (sets.length : Int) x) W' hp ha ((hb.cell hg).trans hS) (Kd.C_below hC hb) (clipN_ok x hN).1 (clipN_ok x hN).2
  have hat : Go.Proofs.PredAt Tryd.prog 115 #[.pointer (some ⟨gP, 0, none⟩), .pointer (some ⟨gA, 0, none⟩)] (fun x : Int => Value.int .i64 (clipN (sets.length : Int) x)) (fun x => !((rd_L2 sets (clipN (sets.length : Int) x)).contains attack)) W := by
   intro W' x hb
   have hb2 : Below w.heap.size w W' := hB.trans ⟨hb.os, hb.tape, hb.output, hb.size, fun k hk => hb.block k (Nat.lt_of_lt_of_le hk hB.size)⟩
   exact hcl W' x hb2 ((hb.cell (World.block_lt_of_cell? _ _ hP)).trans hP) ((hb.cell (World.block_lt_of_cell? _ _ hA)).trans hA)
  have hov : Go.Proofs.PredOver Tryd.prog 115 #[.pointer (some ⟨gP, 0, none⟩), .pointer (some ⟨gA, 0, none⟩)] (fun x : Int => Value.int .i64 (clipN (sets.length : Int) x)) (fun x => !((rd_L2 sets (clipN (sets.length : Int) x)).contains attack)) gb 0 l.toArray.size W :=
   fun n os dk x _ => hcl _ x (below_sortW hB hgb) (cell_sortW hok.1.symm hP) (cell_sortW hok.2.symm hA)
  have hcon := Go.Proofs.AnyE.slices_DeleteFunc Tryd.delL (fun x : Int => Value.int .i64 (clipN (sets.length : Int) x)) (fun _ => rfl) (fun x => !((rd_L2 sets (clipN (sets.length : Int) x)).contains attack)) 115 #[.pointer (some ⟨gP, 0, none⟩), .pointer (some ⟨gA, 0, none⟩)] eg 0
   (fun w => by rw [clipN_in ⟨Int.le_refl _, hN⟩];exact Tryd.zeroValue3 w) gb 0 co l.toArray W hat hov hH (by simpa using hlen) (by simpa using hcap)
  change Calls Tryd.prog 114 _ _ _ at hcon
  simp only [List.size_toArray, Bool.not_not] at hcon
  have hf : (l.filter fun x => (rd_L2 sets (clipN (sets.length : Int) x)).contains attack) = l.filter fun x => (rd_L2 sets x).contains attack := List.filter_congr fun x hx => by rw [clipN_in (hin x hx)]
  rw [hf] at hcon
  refine hcon.mono ?_
  have hfl : (l.filter fun x => (rd_L2 sets x).contains attack).length ≤ l.length := List.length_filter_le _ _
  have hmem : ∀ x ∈ l.filter (fun x => (rd_L2 sets x).contains attack), x ∈ l := fun x hx => (List.mem_filter.1 hx).1
  generalize (l.filter fun x => (rd_L2 sets x).contains attack) = f at hfl hmem ⊢
  rintro e w' ⟨rfl, q, rfl⟩
  have hq := Go.Lib.putRow_eq_setCells (fun x : Int => Value.int .i64 (clipN (sets.length : Int) x)) W gb 0 l.toArray (f ++ List.replicate (l.length - f.length) 0) q hH (by simp;omega)
  rw [hq]
  have hm : ((f ++ List.replicate (l.length - f.length) 0).map fun x : Int => Value.int .i64 (clipN (sets.length : Int) x)) = (f ++ List.replicate (l.length - f.length) 0).map (Value.int .i64) := by
   refine List.map_congr_left fun x hx => ?_
   rcases List.mem_append.1 hx with hx | hx
   ·rw [clipN_in (hin x (hmem x hx))]
   ·rw [(List.mem_replicate.1 hx).2, clipN_in ⟨Int.le_refl _, hN⟩]
  rw [hm]
  refine ⟨_, rfl, ?_, below_setCellsD _ 0 _ (pw_below_drewN hB q) hgb⟩
  have h1 := R_setCellsD (f ++ List.replicate (l.length - f.length) 0) 0 (W.drewN q) l (Kd.R_drewN hR q) (by simp;omega)
  have hll : (f ++ List.replicate (l.length - f.length) 0).length = l.length := by simp;omega
  simp only [List.take_zero, List.nil_append, Nat.zero_add, hll, List.drop_length, List.append_nil] at h1
  exact Kd.R_mono (R_front f (List.replicate (l.length - f.length) 0) rfl (by rw [hll];exact h1)) (fun _ _ => trivial)

def impl_guardGame_answers.f (s0_0 : Int) (s0_1 : List (List Int)) (s0_2 : List (List Int)) (a1 : Int) (a2 : Int) : Option (List Int × Int) := if 0 ≤ a1 then (if a1 < (s0_2.length : Int) then ((slices_Clone_int_int.f (rd_L2 s0_2 a1)).bind fun t1 => ((delF s0_1 a2 t1).bind fun t2 => (some (t2, s0_0)))) else (none)) else (none)
set_option maxHeartbeats 1600000 in
set_option maxRecDepth 100000 in
theorem impl_guardGame_answers.calls (g : Nat) (s0_0 : Int) (s0_1 : List (List Int)) (s0_2 : List (List Int)) (a1 : Int) (a2 : Int) (r1 : List Int) (r2 : Int) (w0 w : World) (hI : IsS89 w0 w g s0_0 s0_1 s0_2) (hB : Below w0.heap.size w0 w) (h : impl_guardGame_answers.f s0_0 s0_1 s0_2 a1 a2 = some (r1, r2)) :
    Calls Tryd.prog 74 #[.pointer (some ⟨g, 0, none⟩), .int .i64 a1, .int .i64 a2] w fun e w' => ∃ v0_ : Value, e = .returned (v0_) ∧ Kd.R (Kd.int .i64) 3 w' w.heap.size (fun _ => True) v0_ r1 ∧ IsS89 w0 w' g r2 s0_1 s0_2 ∧ Below w0.heap.size w0 w' ∧ KeepBut w w' g none := by
  unfold impl_guardGame_answers.f at h
  split at h
  case isFalse => cases h
  case isTrue p0 =>
  split at h
  case isFalse => cases h
  case isTrue p1 =>
  obtain ⟨t1, ht1, h⟩ := Option.bind_eq_some_iff.1 h
  obtain ⟨t2, ht2, h⟩ := Option.bind_eq_some_iff.1 h
  simp only [Option.some.injEq, Prod.mk.injEq] at h
  obtain ⟨rfl, rfl⟩ := h
  have hlt := hI.lt
  have hI0 := hI
  obtain ⟨A1, c1, A2, c2, hG, hg, hS1, hS2⟩ := hI
  have hz1 := cellS89_1 hG
  have hz2 := cellS89_2 hG
  obtain ⟨ad, Ar, cr, rfl, hx, hl, hi⟩ := at_L2 hS2 a1 p0 p1
  have hxw := (pw_cell_below hB hx)
  have hiw := Kd.C_below hi hB
  have hSw := Kd.C_below hS1 hB
  have HI := Aside0.mk hI0
  have HB := Aside0.mk hB
  have HW := Aside0.mk (Below.refl w.heap.size w)
  have A1_ := Aside0.mk ht1
  have A2_ := Aside0.mk ht2
  have HLT := Aside0.mk hlt
  have HZ1 := Aside0.mk hz1
  have HZ2 := Aside0.mk hz2
  have HX := Aside0.mk hxw
  have HL := Aside0.mk hl
  have HC := Aside0.mk hiw
  have HS := Aside0.mk hSw
  clear hI0 hB ht1 ht2 hlt hz1 hz2 hx hxw hl hi hiw hSw hG hg hS1 hS2
  replace p0 := eq_true p0
  replace p1 := eq_true p1
  go_enter Tryd.func74, Tryd.ntmps74
  go_wp2_with (first
    | ((with_reducible refine gate_dst (N := 3) rfl ?_); refine box_event ?hg (N := 3) ?hd (cs := #[.pointer (some ⟨g, 0, none⟩)]) (t := 79) ?hr ?_; (case hd => rfl); (case hg => rfl); (case hr => first | (go_simp; done) | (go_simp; rfl)); intro gP hgP wP hboxP hbP; have HWP := Aside0.mk hbP; have BKP := Aside0.mk hboxP; have GP := Aside0.mk (show w.heap.size ≤ gP by rw [hgP]; exact Nat.le_refl _); clear hbP hboxP hgP)
    | ((with_reducible refine gate_dst (N := 5) rfl ?_); refine box_event ?hg (N := 5) ?hd (cs := #[.int .i64 a2]) (t := 3) ?hr ?_; (case hd => rfl); (case hg => rfl); (case hr => first | (go_simp; done) | (go_simp; rfl)); intro gA hgA wA hboxA hbA; have GA := Aside0.mk (show w.heap.size ≤ gA by rw [hgA]; exact HWP.out.size); have BKQ := Aside0.mk (blk_below BKP.out hbA); have BKA := Aside0.mk hboxA; have HWA := Aside0.mk (below_step HWP.out hbA); clear hbA hboxA hgA BKP HWP;
       have hcP := (blk_cell BKQ.out 0).trans (show (#[Value.pointer (some ⟨g, 0, none⟩)] : Array Value)[0]? = some (.pointer (some ⟨g, 0, none⟩)) from rfl); have hfP := blk_frozen BKQ.out 0; have hc2 := (HWA.out.cell (p := ⟨g, 2, none⟩) HLT.out).trans HZ2.out; have hcr := pw_cell_below HWA.out HX.out)
    | ((with_reducible refine gate_callee (f := 76) rfl ?_); refine goesL_ (some 14) rfl rfl Tryd.func76 (by kernel_rfl) rfl #[.slice Ar (rd_L2 s0_2 a1).length cr] rfl (by (try simp only [List.map_toArray, List.map_cons, List.map_nil]); first | done | rfl) ?_;
       (with_reducible refine (slices_Clone_int_int.calls _ _ (rd_L2 s0_2 a1) t1 _ ?side1 ?side2 A1_.out).mono ?_); (case side1 => exact Kd.C_below HC.out HWA.out); (case side2 => exact HL.out); rintro e wC ⟨vC, rfl, hoC, hbC⟩; refine ⟨_, rfl, ?_⟩;
       obtain ⟨Ao, co, eo⟩ := Kd.R_slice hoC; subst eo; have HOC := Aside0.mk (Kd.R_lower (Kd.R_mono (ok' := fun k => k ≠ gP ∧ k ≠ gA) (Kd.R_bound hoC) (fun k hk => ⟨fun e_ => Nat.not_le.2 (blk_lt BKQ.out) (e_ ▸ hk.2.1), fun e_ => Nat.not_le.2 (blk_lt BKA.out) (e_ ▸ hk.2.1)⟩)) HWA.out.size);
       have BKP2 := Aside0.mk (blk_below BKQ.out hbC); have BKA2 := Aside0.mk (blk_below BKA.out hbC); have HWC := Aside0.mk (below_step HWA.out hbC); clear hoC hbC BKQ BKA HWA hcP hfP hc2 hcr)
    | (go_at_call 114; refine (deleteFunc_calls gP gA g A1 c1 s0_1 a2 w _ Ao co t1 t2 A2_.out HWC.out HOC.out HLT.out ((blk_cell BKP2.out 0).trans rfl) ((blk_cell BKA2.out 0).trans rfl) HZ1.out HS.out).mono ?_; rintro e wD ⟨vD, rfl, hoD, hbD⟩; have HOD := Aside0.mk hoD; have HWD := Aside0.mk hbD; clear hoD hbD HOC BKP2 BKA2 HWC))
  go_ret
  exact ⟨_, rfl, HOD.out, HI.out.below HWD.out, below_step HB.out HWD.out, KeepBut.of_below HWD.out g none⟩

/-! ### bits_Mul64: function 135 -/
def bits_Mul64.f (a0 : Int) (a1 : Int) : Option (Int × Int) := some (IntKind.u64.wrap ((IntKind.u64.wrap ((IntKind.u64.wrap ((a0 / 4294967296) * (a1 / 4294967296))) + ((IntKind.u64.wrap ((IntKind.u64.wrap ((a0 / 4294967296) * (Go.bits .and .u64 a1 4294967295))) + ((IntKind.u64.wrap ((Go.bits .and .u64 a0 4294967295) * (Go.bits .and .u64 a1 4294967295))) / 4294967296))) / 4294967296))) + ((IntKind.u64.wrap ((Go.bits .and .u64 (IntKind.u64.wrap ((IntKind.u64.wrap ((a0 / 4294967296) * (Go.bits .and .u64 a1 4294967295))) + ((IntKind.u64.wrap ((Go.bits .and .u64 a0 4294967295) * (Go.bits .and .u64 a1 4294967295))) / 4294967296))) 4294967295) + (IntKind.u64.wrap ((Go.bits .and .u64 a0 4294967295) * (a1 / 4294967296))))) / 4294967296)), IntKind.u64.wrap (a0 * a1))
set_option maxHeartbeats 8000000 in
set_option maxRecDepth 100000 in
theorem bits_Mul64.calls (a0 : Int) (a1 : Int) (r1 : Int) (r2 : Int) (w : World) (h : bits_Mul64.f a0 a1 = some (r1, r2)) :
  Calls Tryd.prog 135 #[.int .u64 a0, .int .u64 a1] w fun e w' => e = .returned (.tuple #[.int .u64 r1, .int .u64 r2]) ∧ Drawn0 w w' := by
 have H : (some (IntKind.u64.wrap ((IntKind.u64.wrap ((IntKind.u64.wrap ((a0 / 4294967296) * (a1 / 4294967296))) + ((IntKind.u64.wrap ((IntKind.u64.wrap ((a0 / 4294967296) * (Go.bits .and .u64 a1 4294967295))) + ((IntKind.u64.wrap ((Go.bits .and .u64 a0 4294967295) * (Go.bits .and .u64 a1 4294967295))) / 4294967296))) / 4294967296))) + ((IntKind.u64.wrap ((Go.bits .and .u64 (IntKind.u64.wrap ((IntKind.u64.wrap ((a0 / 4294967296) * (Go.bits .and .u64 a1 4294967295))) + ((IntKind.u64.wrap ((Go.bits .and .u64 a0 4294967295) * (Go.bits .and .u64 a1 4294967295))) / 4294967296))) 4294967295) + (IntKind.u64.wrap ((Go.bits .and .u64 a0 4294967295) * (a1 / 4294967296))))) / 4294967296)), IntKind.u64.wrap (a0 * a1))) = some (r1, r2) := h
 clear h
 simp only [Option.some.injEq, Prod.mk.injEq] at H
 obtain ⟨rfl, rfl⟩ := H
 go_enter Tryd.func135, Tryd.ntmps135
 go_wp2
 go_ret2
 exact ⟨by first | rfl | (simp;done) | (simp [*];done), by repeat (first | exact Drawn0.refl _ | apply Drawn0.step)⟩


/-! ### bits_Mul: function 128 -/
def bits_Mul.f (a0 : Int) (a1 : Int) : Option (Int × Int) := (bits_Mul64.f a0 a1).bind fun bt486 => (some (bt486.1, bt486.2))
set_option maxHeartbeats 8000000 in
set_option maxRecDepth 100000 in
theorem bits_Mul.calls (a0 : Int) (a1 : Int) (r1 : Int) (r2 : Int) (w : World) (h : bits_Mul.f a0 a1 = some (r1, r2)) :
  Calls Tryd.prog 128 #[.int .u64 a0, .int .u64 a1] w fun e w' => e = .returned (.tuple #[.int .u64 r1, .int .u64 r2]) ∧ Drawn0 w w' := by
 have H : ((bits_Mul64.f a0 a1).bind fun bt486 => (some (bt486.1, bt486.2))) = some (r1, r2) := h
 clear h
 replace H := Option.bind_eq_some_iff.mp H
 obtain ⟨⟨t486, t487⟩, A30, H⟩ := H
 replace H : (some (t486, t487)) = some (r1, r2) := H
 have A3 := Aside0.mk A30
 clear A30
 simp only [Option.some.injEq, Prod.mk.injEq] at H
 obtain ⟨rfl, rfl⟩ := H
 go_enter Tryd.func128, Tryd.ntmps128
 go_wp2_with (first | ((with_reducible refine gate_callee (f := 135) rfl ?_);refine goesL_ (some 25) rfl rfl Tryd.func135 (by kernel_rfl) rfl #[.int .u64 a0, .int .u64 a1] rfl mM ?_;(with_reducible refine (bits_Mul64.calls a0 a1 t486 t487 _ A3.out).mono ?_);rintro e w' ⟨rfl, ⟨nd, rfl⟩⟩;refine ⟨_, rfl, ?_⟩))
 go_ret2
 exact ⟨by first | rfl | (simp;done) | (simp [*];done), by repeat (first | exact Drawn0.refl _ | apply Drawn0.step)⟩


/-! ### slices_Repeat_int_int: by hand -/
def slices_Repeat_int_int.f (l0 : List Int) (a1 : Int) : Option (List Int) := if l0.length = 1 ∧ 0 ≤ a1 ∧ a1 ≤ 1048576 then some (List.replicate a1.toNat (rd l0 0)) else none
theorem bits_Mul_one (a : Int) (h0 : 0 ≤ a) (h1 : a ≤ 1048576) : bits_Mul.f 1 a = some (0, a) := by
 have e : Go.bits .and .u64 a 4294967295 = a := by
  obtain ⟨n, rfl⟩ := Int.eq_ofNat_of_zero_le h0
  have := bits_and_u64_nat n 4294967295 (by omega) (by omega)
  rw [show n &&& 4294967295 = n % 4294967296 from Nat.and_two_pow_sub_one_eq_mod n 32, Nat.mod_eq_of_lt (by omega)] at this
  exact this
 have e1 : Go.bits .and .u64 1 4294967295 = 1 := by decide +kernel
 have d1 : (1 : Int) / 4294967296 = 0 := by decide
 have d2 : a / 4294967296 = 0 := by omega
 have w0 : IntKind.u64.wrap (0 : Int) = 0 := by decide +kernel
 have e0 : Go.bits .and .u64 0 4294967295 = 0 := by decide +kernel
 have wa : IntKind.u64.wrap a = a := by rw [IntKind.wrap_u64];omega
 simp only [bits_Mul.f, bits_Mul64.f, e, e0, w0, e1, d1, d2, Int.zero_mul, Int.mul_zero, Int.one_mul, wa, w0, Int.zero_add, Int.zero_ediv, Option.bind_some]
theorem madeCells_int (n : Nat) : madeCells (Value.int .i64 0).cells (n * 1) = (List.replicate n (Value.int .i64 0)).toArray := by
 apply Array.ext
 ·simp [madeCells]
 ·intro i h1 h2
  simp [madeCells, Value.cells, Nat.mod_one]
theorem make_raw {P : Program} {w : World} {ops : Array Oper} {rest : List Oper} {o : Oper} {a : Act} {Q : Exit → Act → World → Prop} (hgd : o.guard = none) (t e : TypeId) (x y : Operand) (ho : o.op = .makeSlice t x y) (n : Nat) (cs : List Value) (hx : a.eval x = .int .i64 (n : Int)) (hy : a.eval y = .int .i64 (n : Int))
  (hmk : (Instr.makeSlice t (.int .i64 (n : Int)) (.int .i64 (n : Int))).run P w = .ok (.slice (some ⟨w.heap.size, 0, none⟩) n n) (w.alloc (.cells cs.toArray e)))
  (h : ∀ w1, Hid (w1.heap[w.heap.size]? = some (.cells cs.toArray e (0, 0))) → Below w.heap.size w w1 → wpList P ops Q rest (a.put o.dst (.slice (some ⟨w.heap.size, 0, none⟩) n n)) w1) : wpList P ops Q (o :: rest) a w := by
 refine wpList_plain hgd fun K hK => ?_
 unfold Oper.wp
 simp [execOp, ho, hx, hy, hmk, Result.andThen]
 exact hK _ _ (h _ (show _ = _ from by show (w.heap.push _)[w.heap.size]? = _;exact Array.getElem?_push_size) (below_alloc (Below.refl _ _) _))
theorem still_tail_drewR {P : Program} {id : Nat} {Q : Exit → Act → World → Prop} {a : Act} {w : World} {l : List Oper} (n : Nat) (hm : P.follows .mixedOrders = true) (hB : Region.lexTailB .any l.toArray n = true)
  (h : wpStill P l.toArray w.drew (fun a' => wpList P l.toArray Q (l.drop n) a' w.drew) (l.take n) a) : (Code.region id l.toArray true).wp P Q a w := wp_region_still_tail n hm hB h
theorem rep_own {w : World} {base gb n e : Nat} {x : Int} (hb : base ≤ gb) (hn : n ≤ 1048576) (h : w.heap[gb]? = some (.cells (List.replicate n (Value.int .i64 x) ++ List.replicate (n - n) (Value.int .i64 0)).toArray e (0, 0))) : Kd.R (Kd.int .i64) e w base (fun _ => True) (.slice (some ⟨gb, 0, none⟩) n n) (List.replicate n x) := by
 refine Kd.R_of_own (enc := Value.int .i64) (h1 := fun _ => rfl) ⟨?_, .inr ⟨gb, n, _, ?_, hb, h, ?_, ?_, ?_, ?_⟩⟩ (fun _ _ => trivial)
 ·simp [encs]
 ·simp
 ·simp
 ·simp [maxLen];omega
 ·simp
 ·simp [encs]
theorem rep_one {n : Nat} (x : Int) : ∀ v ∈ List.replicate n (Value.int .i64 x), v.oneCell' = true := fun v hv => by rw [(List.mem_replicate.1 hv).2]; rfl
theorem rep_cells {w : World} {ad : Addr} {n : Nat} {x : Value} (hn : n ≤ 1) (h : w.cell? (ad.add 0) = some x) : ∀ j v, (List.replicate n x)[j]? = some v → w.cell? (ad.add j) = some v := by
 intro j v hj
 rw [List.getElem?_replicate] at hj
 split at hj
 case isTrue hlt =>
  obtain rfl : j = 0 := by omega
  rw [h];exact hj
 case isFalse => cases hj
theorem rep_cells2 {w : World} {gb kk m c e : Nat} {x y : Value} (hc : c ≤ kk) (h : w.heap[gb]? = some (.cells (List.replicate kk x ++ List.replicate m y).toArray e (0, 0))) : ∀ j v, (List.replicate c x)[j]? = some v → w.cell? ((⟨gb, 0, none⟩ : Addr).add j) = some v := by
 intro j v hj
 rw [List.getElem?_replicate] at hj
 split at hj
 case isTrue hlt =>
  rw [add_plain]
  rw [blk_cell h j]
  rw [← hj]
  simp only [List.getElem?_toArray]
  rw [List.getElem?_append_left (by rw [List.length_replicate];omega), List.getElem?_replicate, if_pos (by omega)]
 case isFalse => cases hj
theorem splice_rep (n k c : Nat) (x z : Value) (h : k + c ≤ n) : splice (List.replicate k x ++ List.replicate (n - k) z) k (List.replicate c x) = List.replicate (k + c) x ++ List.replicate (n - (k + c)) z := by
 unfold splice
 rw [List.take_append_of_le_length (by simp), List.take_of_length_le (by simp), List.length_replicate, List.drop_append, List.drop_of_length_le (by simp), List.nil_append, List.length_replicate, List.drop_replicate, ← List.append_assoc, List.replicate_append_replicate]
 congr 2
 omega
set_option maxHeartbeats 1600000 in
set_option maxRecDepth 100000 in
theorem slices_Repeat_int_int.calls (A0 : Option Addr) (c0 : Nat) (l0 : List Int) (a1 : Int) (r : List Int) (w : World) (hr0 : Kd.C (Kd.int .i64) w A0 l0.length l0) (hc0 : l0.length ≤ c0) (h : slices_Repeat_int_int.f l0 a1 = some r) :
  Calls Tryd.prog 102 #[.slice A0 l0.length c0, .int .i64 a1] w fun e w' => ∃ v0_ : Value, e = .returned (v0_) ∧ Kd.R (Kd.int .i64) 3 w' w.heap.size (fun _ => True) v0_ r ∧ Below w.heap.size w w' := by
 unfold slices_Repeat_int_int.f at h
 split at h
 case isFalse => exact absurd h (by simp)
 case isTrue hc =>
  obtain ⟨hl, h0, h1⟩ := hc
  obtain rfl := Option.some.inj h
  clear h
  obtain ⟨n, rfl⟩ := Int.eq_ofNat_of_zero_le h0
  have h1' : n ≤ 1048576 := by omega
  simp only [Int.toNat_natCast]
  have hM := Aside0.mk (bits_Mul_one (n : Int) h0 h1)
  obtain ⟨ad, rfl, hcell⟩ := Kd.at_int hr0 0 (by omega) (by omega)
  rw [hl] at *
  have hcell0 : w.cell? ad = some (.int .i64 (rd l0 0)) := hcell
  have HC0 := Aside0.mk hcell0
  clear hcell hr0 hc0 hcell0
  generalize hx : rd l0 0 = x at HC0 ⊢
  have hu := Tryd.underlying32
  have hsz : ((Tryd.prog).info? 3).map (·.size) = some 1 := by
   have h := info3
   simp only [Option.map_eq_some_iff] at h ⊢
   obtain ⟨i, hi, he⟩ := h
   exact ⟨i, hi, (Prod.mk.inj (Prod.mk.inj he).2).1⟩
  have hmk : ∀ W : World, (Instr.makeSlice 32 (.int .i64 (n : Int)) (.int .i64 (n : Int))).run Tryd.prog W = .ok (.slice (some ⟨W.heap.size, 0, none⟩) n n) (W.alloc (.cells (List.replicate n (Value.int .i64 0)).toArray 3)) := by
   intro W
   have h := info3
   simp only [Option.map_eq_some_iff] at h
   obtain ⟨i, hi, he⟩ := h
   simp only [Prod.mk.injEq] at he
   have hr := run_make (P := Tryd.prog) W 32 3 i (.int .i64 0) hu hi he.1 .i64 .i64 (n : Int) (n : Int) (by omega) (by omega) (by rw [he.2.2];omega) (by omega)
   rw [he.2.1, Int.toNat_natCast, madeCells_int] at hr
   exact hr
  have HMK := Aside0.mk hmk
  clear hmk
  go_enter Tryd.func102, Tryd.ntmps102
  have hc0 : decide ((n : Int) < 0) = false := by simp
  have hw1 : IntKind.u64.wrap (n : Int) = (n : Int) := by rw [IntKind.wrap_u64];omega
  have hw2 : IntKind.i64.wrap (n : Int) = (n : Int) := by rw [IntKind.wrap_i64];omega
  have hg : decide ((n : Int) > 9223372036854775807) = false := by simp;omega
  go_wp2_with (first | (with_reducible refine gate_dst (N := 30) rfl ?_);fail)
  refine (bits_Mul.calls 1 (n : Int) 0 (n : Int) _ hM.out).mono ?_
  rintro e w' ⟨rfl, ⟨nd, rfl⟩⟩
  obtain ⟨k, hk⟩ : ∃ k, k = Nat.min 1 n := ⟨_, rfl⟩
  have hkn : k ≤ n := by rw [hk];exact Nat.min_le_right 1 n
  have hk1 : k ≤ 1 := by rw [hk];exact Nat.min_le_left 1 n
  have hk2 : 0 < n → 0 < k := by rw [hk];intro h;exact Nat.lt_min.2 ⟨Nat.one_pos, h⟩
  have HKE := Aside0.mk hk
  clear hk
  go_wp2_with (first | ((with_reducible refine gate_dst (N := 30) rfl ?_);refine make_raw rfl 32 3 _ _ rfl n _ rfl rfl (HMK.out _) ?_;intro w1 HG1 hB1;have HB1 := Aside0.mk (show Below w.heap.size w w1 from (pw_below_drewN (Below.refl _ _) nd).trans hB1);clear hB1;replace HG1 : Hid (w1.heap[w.heap.size]? = _) := HG1;rw [show (w.drewN nd).heap.size = w.heap.size from rfl];generalize hgb : w.heap.size = gb at *) | ((with_reducible refine gate_dst (N := 33) rfl ?_);refine wpList_copy_splice rfl _ _ 32 32 rfl 3 hu hsz _ _ n n 1 c0 rfl rfl gb 0 (List.replicate 0 (Value.int .i64 x) ++ List.replicate (n - 0) (Value.int .i64 0)) 3 ?ha (List.replicate k (Value.int .i64 x)) ?hb ?hpos ?hc ?hd gb w HB1.out ?he ?hf;(case ha => exact HG1.out);(case hb => exact (List.length_replicate).trans HKE.out);(case hpos => exact fun _ => ⟨rfl, ad, rfl, rep_cells hk1 (pw_cell_below (by rw [hgb];exact HB1.out) HC0.out)⟩);(case hc => simp only [List.length_append, List.length_replicate];omega);(case hd => exact rep_one _);(case he => exact Nat.le_refl _);rw [splice_rep n 0 k _ _ (by omega), List.length_replicate, Nat.zero_add];intro w2 HG2 hB2;have HB2 := Aside0.mk hB2;clear hB2 HG1 HB1))
  clear HMK hM hx
  go_loopg [8] n (fun gg v8 wr => ∃ kk : Nat, v8 = .int .i64 (kk : Int) ∧ Aside0 (kk ≤ n ∧ (0 < n → 0 < kk) ∧ n - kk ≤ gg) ∧ Aside0 (wr.heap[gb]? = some (.cells (List.replicate kk (Value.int .i64 x) ++ List.replicate (n - kk) (Value.int .i64 0)).toArray 3 (0, 0))) ∧ Aside0 (Below gb w wr))
  case atStart => exact ⟨k, rfl, ⟨hkn, hk2, by omega⟩, ⟨HG2.out⟩, HB2⟩
  case round =>
   obtain ⟨kk, rfl, HN, HG, HB⟩ := hrel
   clear HG2 HB2 hk1 hk2 hkn HKE
   by_cases hlt : kk < n
   ·have hltz : (kk : Int) < (n : Int) := by omega
    obtain ⟨hka, hkb, hkc⟩ := HN.out
    have hkp : 0 < kk := hkb (by omega)
    obtain ⟨c, hc⟩ : ∃ c, c = Nat.min kk (n - kk) := ⟨_, rfl⟩
    have hc1 : c ≤ n - kk := by rw [hc];exact Nat.min_le_right _ _
    have hc2 : c ≤ kk := by rw [hc];exact Nat.min_le_left _ _
    have hc3 : 0 < c := by rw [hc];exact Nat.lt_min.2 ⟨hkp, by omega⟩
    have HC := Aside0.mk hc
    clear hc
    have hne : ¬ n = kk := by omega
    have hw3 : IntKind.i64.wrap ((kk : Int) + (c : Int)) = ((kk + c : Nat) : Int) := by rw [IntKind.wrap_i64];omega
    have i0 : ((0 : Int) ≤ (kk : Int)) = True := by simp
    have i1 : ((kk : Int) ≤ (n : Int)) = True := by simp;omega
    go_wp2
    have HGd : Aside0 (wr.drew.heap[gb]? = some (.cells (List.replicate kk (Value.int .i64 x) ++ List.replicate (n - kk) (Value.int .i64 0)).toArray 3 (0, 0))) := ⟨HG.out⟩
    have HBd : Aside0 (Below gb w wr.drew) := ⟨below_drew HB.out⟩
    go_region_law (refine step_copy_splice rfl (.tmp 41) (.tmp 44) 32 32 rfl 3 hu hsz (some ⟨gb, kk, none⟩) (some ⟨gb, 0, none⟩) (n - kk) (n - kk) kk n (by simp [Act.eval, Act.put, hne]) (by simp [Act.eval, Act.put]) gb kk (List.replicate kk (Value.int .i64 x) ++ List.replicate (n - kk) (Value.int .i64 0)) 3 HGd.out (List.replicate c (Value.int .i64 x)) (List.length_replicate.trans HC.out) (fun _ => ⟨rfl, _, rfl, rep_cells2 hc2 HGd.out⟩) (by simp only [List.length_append, List.length_replicate];omega) (rep_one _) gb w HBd.out (Nat.le_refl _) ?_;rw [splice_rep n kk c _ _ (by omega), List.length_replicate];intro w3 HG3 hB3;have HB3 := Aside0.mk hB3;clear hB3)
    go_wp2
    go_roundg (n - (kk + c))
    case measure => omega
    case rel => exact ⟨kk + c, by first | rfl | (rw [← hw3];rfl) | simp [hw3], ⟨by omega, fun _ => by omega, Nat.le_refl _⟩, ⟨HG3.out⟩, HB3⟩
   ·have hltz : ¬ (kk : Int) < (n : Int) := by omega
    obtain rfl : kk = n := by have := HN.out;omega
    go_wp2
    go_ret
    exact ⟨_, rfl, rep_own (Nat.le_refl _) h1' HG.out, HB.out⟩

end Go.Proofs.YthbjajppdomhhaaDoor.QResistances
