import Derived.Test.YtgahlimikndecaaDoorQPlayAttacks0
import Derived.Test.YtgahlimikndecaaDoorQPlayAttacks9
import Derived.Shelf.SlicesE.DeleteFunc
import Derived.Lib.RowBridge
import Derived.Ground.SlgfProg
namespace Go.Proofs.YtgahlimikndecaaDoor.QPlayAttacks
open Go.RowKit Go.Proofs.YtgahlimikndecaaDoorW.PrintWords Go.Proofs.YtgahlimikndecaaDoorW.PrintLast Go.Proofs.YtgahlimikndecaaDoorW.PrintMore
attribute [local go_sem] max2_int min2_int max_two min_two max_three min_three max_four min_four
set_option linter.unusedVariables false
set_option linter.unusedSimpArgs false
set_option maxRecDepth 100000
set_option maxHeartbeats 8000000
/-! ### impl_guardGame_answers: by hand -/
def idxD (q : Int → Option Bool) : List Int → Int → Option Int
 | [], _ => some (-1)
 | x :: l, i => (q x).bind fun b => if b = true then some i else idxD q l (i + 1)
theorem idxD_mono {q q' : Int → Option Bool} (h : ∀ x, LeO (q x) (q' x)) : ∀ (l : List Int) (i : Int), LeO (idxD q l i) (idxD q' l i)
 | [], _ => LeO.refl _
 | x :: l, i => by
  unfold idxD
  refine LeO.bind (h x) (fun b => ?_)
  refine LeO.ite (LeO.refl _) (idxD_mono h l _)
theorem idxD_use {q : Int → Option Bool} {l : List Int} {kk : Nat} {r : Int} (hi : kk < l.length) (h : idxD q (l.drop kk) (kk : Int) = some r) :
  ∃ b, q (rd l (kk : Int)) = some b ∧ ((b = true ∧ r = (kk : Int)) ∨ (b = false ∧ idxD q (l.drop (kk + 1)) ((kk + 1 : Nat) : Int) = some r)) := by
 have e : rd l (kk : Int) = l[kk] := by simp [rd, hi]
 rw [List.drop_eq_getElem_cons hi] at h
 unfold idxD at h
 obtain ⟨b, hb, h⟩ := Option.bind_eq_some_iff.1 h
 refine ⟨b, by rw [e];exact hb, ?_⟩
 cases b with
 | true => rw [if_pos rfl] at h;exact .inl ⟨rfl, (Option.some.inj h).symm⟩
 | false => rw [if_neg (by decide)] at h;exact .inr ⟨rfl, by rw [← h];rfl⟩
theorem indexFuncD_calls (g : Nat) (lb : Array Value) (eg : ∀ args w, (callFunc g args).run Tryd.prog w = .ok (.enter g args) w) (q : Int → Option Bool) (A : Option Addr) (c : Nat) (l : List Int) (w : World) (hr : Kd.C (Kd.int .i64) w A l.length l) (r : Int) (h : idxD q l 0 = some r)
  (hp : ∀ x b W, q x = some b → Below w.heap.size w W → Calls Tryd.prog g (#[.int .i64 x] ++ lb) W fun e w' => e = .returned (.bool b) ∧ Below W.heap.size W w') :
  Calls Tryd.prog 89 #[.slice A l.length c, .func (.func g) #[] lb] w fun e w' => e = .returned (.int .i64 r) ∧ Below w.heap.size w w' := by
 have HR := Aside0.mk hr
 have HP := Aside0.mk hp
 have hL := hr.2.1
 have HI := aM (show idxD q (l.drop 0) ((0 : Nat) : Int) = some r from h)
 clear hr hp h
 go_enter Tryd.func89, Tryd.ntmps89
 go_wp2
 go_loopg [5, 8] l.length (fun gg _ s8 wr => ∃ kk : Nat, kk ≤ l.length ∧ l.length - kk ≤ gg ∧ s8 = .int .i64 (kk : Int) ∧ Aside0 (Below w.heap.size w wr) ∧ Aside0 (idxD q (l.drop kk) (kk : Int) = some r))
 case atStart => exact ⟨0, Nat.zero_le _, by omega, rfl, ⟨Below.refl _ _⟩, HI⟩
 case round =>
  clear HI
  obtain ⟨kk, hkk, hg, rfl, HB, NY⟩ := hrel
  by_cases hlt : kk < l.length
  ·have hltz : (kk : Int) < (l.length : Int) := by omega
   have hk0 : (0 : Int) ≤ (kk : Int) := by omega
   obtain ⟨ad, rfl, hcell⟩ := Kd.at_int (Kd.C_below HR.out HB.out) (kk : Int) hk0 hltz
   rw [Int.toNat_natCast] at hcell
   obtain ⟨b, hq, hcs⟩ := idxD_use hlt NY.out
   have hcall := HP.out (rd l (kk : Int)) b wr hq HB.out
   clear hq NY
   have HC := Aside0.mk hcs
   clear hcs
   generalize hx : rd l (kk : Int) = x at hcell hcall
   clear hx
   cases b with
   | true =>
    obtain rfl : r = (kk : Int) := by rcases HC.out with h | h;exact h.2;exact absurd h.1 (by decide)
    clear HC
    go_wp2_with (go_at_fn g;refine hcall.mono ?_;rintro e w' ⟨rfl, hb⟩)
    go_ret
    exact ⟨rfl, below_step HB.out hb⟩
   | false =>
    have NY := aM (show idxD q (l.drop (kk + 1)) ((kk + 1 : Nat) : Int) = some r by rcases HC.out with h | h;exact absurd h.1 (by decide);exact h.2)
    clear HC
    go_wp2_with (go_at_fn g;refine hcall.mono ?_;rintro e w' ⟨rfl, hb⟩)
    go_roundg (l.length - (kk + 1))
    case measure => omega
    case rel => exact ⟨kk + 1, by omega, by omega, by first | rfl | go_num, ⟨below_step HB.out hb⟩, NY⟩
  ·have hltz : ¬ (kk : Int) < (l.length : Int) := by omega
   obtain rfl : kk = l.length := by omega
   obtain rfl : r = -1 := by have h := NY.out;rw [List.drop_length] at h;exact (Option.some.inj h).symm
   go_wp2
   go_ret
   exact ⟨rfl, HB.out⟩

section
open Go.Shelf
def Tryd.delL_ren : Go.Shelf.Ren := ⟨fun | 10 => 80 | 6 => 89 | n => n, fun | 22 => 36 | 23 => 3 | 25 => 86 | 3 => 3 | 4 => 4 | 0 => 0 | n => n, fun | n => n⟩
theorem Tryd.delL : Go.Proofs.SlLaysH.n10 Tryd.prog Tryd.delL_ren := {
 mixed := by kernel_rfl
 f6 := ⟨Tryd.f89.name, by decide, Tryd.func89.trans (congrArg some kR)⟩
 f10 := ⟨Tryd.f80.name, by decide, Tryd.func80.trans (congrArg some kR)⟩
 t0 := Tryd.underlying0
 a0 := Tryd.isAgg0
 z0 := Tryd.sizeOf0
 v0 := Tryd.zeroValue0
 t3 := Tryd.underlying3
 a3 := Tryd.isAgg3
 z3 := Tryd.sizeOf3
 v3 := Tryd.zeroValue3
 t4 := Tryd.underlying4
 a4 := Tryd.isAgg4
 z4 := Tryd.sizeOf4
 v4 := Tryd.zeroValue4
 t22 := Tryd.underlying36
 a22 := Tryd.isAgg36
 z22 := Tryd.sizeOf36
 v22 := Tryd.zeroValue36
 a23 := Tryd.isAgg3
 z23 := Tryd.sizeOf3
 t25 := Tryd.underlying86
 a25 := Tryd.isAgg86
 z25 := Tryd.sizeOf86
 v25 := Tryd.zeroValue86 }

end
def clipN (N x : Int) : Int := if 0 ≤ x ∧ x < N then x else 0
theorem clipN_in {N x : Int} (h : 0 ≤ x ∧ x < N) : clipN N x = x := if_pos h
theorem clipN_ok {N : Int} (x : Int) (hN : 0 < N) : 0 ≤ clipN N x ∧ clipN N x < N := by
 unfold clipN
 split
 ·assumption
 ·exact ⟨Int.le_refl _, hN⟩
def delF (sets : List (List Int)) (attack : Int) (l : List Int) : Option (List Int) := if ∀ x ∈ l, 0 ≤ x ∧ x < (sets.length : Int) then some (l.filter fun x => (rd_L2 sets x).contains attack) else none
theorem delF_use {sets : List (List Int)} {attack : Int} {l r : List Int} (h : delF sets attack l = some r) : (∀ x ∈ l, 0 ≤ x ∧ x < (sets.length : Int)) ∧ (l.filter fun x => (rd_L2 sets x).contains attack) = r := by
 unfold delF at h
 split at h
 ·rename_i hv;exact ⟨hv, Option.some.inj h⟩
 ·cases h
theorem index_told (l : List Int) (x : Int) (hl : l.length ≤ 9223372036854775807) : ∀ (m i : Nat), l.length - i = m → i ≤ l.length → ∃ j, slices_Index_int_int.l0 (m + 1) l x (l.length : Int) (i : Int) = some j ∧ decide (j ≥ 0) = (l.drop i).contains x
 | 0, i, hm, hi => by
  have hn : ¬ ((i : Int) < (l.length : Int)) := by omega
  refine ⟨-1, ?_, ?_⟩
  ·unfold slices_Index_int_int.l0
   rw [if_neg hn]
  ·rw [List.drop_of_length_le (by omega)]
   rfl
 | m + 1, i, hm, hi => by
  have hlt : i < l.length := by omega
  have e : rd l (i : Int) = l[i] := by simp [rd, hlt]
  unfold slices_Index_int_int.l0
  rw [if_pos (by omega), if_pos (by omega), if_pos (by omega), e, List.drop_eq_getElem_cons hlt, List.contains_cons]
  by_cases hx : x = l[i]
  ·rw [if_pos hx]
   refine ⟨_, rfl, ?_⟩
   rw [show (x == l[i]) = true from beq_iff_eq.2 hx, Bool.true_or]
   exact decide_eq_true (by omega)
  ·rw [if_neg hx, show (x == l[i]) = false from beq_eq_false_iff_ne.2 hx, Bool.false_or]
   rw [show wrap64 ((i : Int) + 1) = ((i + 1 : Nat) : Int) by unfold wrap64;omega]
   exact index_told l x hl m (i + 1) (by omega) (by omega)
theorem contains_told (l : List Int) (x : Int) (hl : l.length ≤ 9223372036854775807) : ∃ k, slices_Contains_int_int.f k l x = some (l.contains x) := by
 obtain ⟨j, hj, hd⟩ := index_told l x hl l.length 0 (by omega) (Nat.zero_le _)
 refine ⟨l.length + 1, ?_⟩
 unfold slices_Contains_int_int.f slices_Index_int_int.f
 rw [show ((0 : Nat) : Int) = 0 from rfl] at hj
 rw [hj, Option.bind_some, hd, List.drop_zero]
theorem ans_fn (gP gA g : Nat) (A1 : Option Addr) (c1 : Nat) (sets : List (List Int)) (attack x : Int) (W : World) (hP : W.cell? ⟨gP, 0, none⟩ = some (.pointer (some ⟨g, 0, none⟩))) (hA : W.cell? ⟨gA, 0, none⟩ = some (.int .i64 attack)) (hS : W.cell? ⟨g, 1, none⟩ = some (.slice A1 sets.length c1))
  (hC : Kd.C (Kd.slice 3 (Kd.int .i64)) W A1 sets.length sets) (h0 : 0 ≤ x) (h1 : x < (sets.length : Int)) :
  Calls Tryd.prog 81 (#[.int .i64 x] ++ #[.pointer (some ⟨gP, 0, none⟩), .pointer (some ⟨gA, 0, none⟩)]) W fun e w' => e = .returned (.bool (!((rd_L2 sets x).contains attack))) ∧ ∃ q, w' = W.drewN q := by
 obtain ⟨ad, A, c, rfl, hx, hl, hi⟩ := at_L2 hC x h0 h1
 have hlen : (rd_L2 sets x).length ≤ 9223372036854775807 := hi.2.1
 obtain ⟨k, hk⟩ := contains_told (rd_L2 sets x) attack hlen
 have hcall : ∀ q, Calls Tryd.prog 47 #[.slice A (rd_L2 sets x).length c, .int .i64 attack] (W.drewN q) fun e w' => e = .returned (.bool ((rd_L2 sets x).contains attack)) ∧ Drawn0 (W.drewN q) w' := fun q => slices_Contains_int_int.calls k A c (rd_L2 sets x) attack _ _ (Kd.C_drewN hi q) hl hk
 clear hk hlen hC hi hl
 have p0 : (0 ≤ x) = True := eq_true h0
 have p1 : (x < (sets.length : Int)) = True := eq_true h1
 clear h0 h1
 generalize rd_L2 sets x = row at hx hcall ⊢
 show Calls Tryd.prog 81 #[.int .i64 x, .pointer (some ⟨gP, 0, none⟩), .pointer (some ⟨gA, 0, none⟩)] W _
 go_enter Tryd.func81, Tryd.ntmps81
 go_wp2
 go_quiet ((go_at_call 47;refine (hcall _).mono ?_;rintro e w' ⟨rfl, ⟨nd, rfl⟩⟩;exact ⟨rfl, _, World.drewN_drewN _ _ _⟩))
 go_wp2
 go_ret
 exact ⟨by first | rfl | simp, _, by first | rfl | exact World.drewN_drewN _ _ _⟩
theorem below_grow' (w : World) (os : Array Obj) : Below w.heap.size w (Go.Sort.grow w os) :=
 ⟨rfl, rfl, rfl, by show w.heap.size ≤ (w.heap ++ os).size;simp, fun k hk => by show (w.heap ++ os)[k]? = _;rw [Array.getElem?_append_left hk]⟩
theorem below_sortW {α : Type} [Inhabited α] {enc : α → Value} {w W : World} {blk off m : Nat} {dk : Array α} {os : Array Obj} (hB : Below w.heap.size w W) (hblk : w.heap.size ≤ blk) : Below w.heap.size w (Go.Proofs.sortWorld enc W blk off m dk os) := by
 refine ⟨hB.os, hB.tape, hB.output, ?_, fun k hk => ?_⟩
 ·have h1 := hB.size
  have h2 := (below_grow' (Go.Sort.putRow enc (Go.Sort.ahead W m) blk off dk) os).size
  have h3 : (Go.Sort.putRow enc (Go.Sort.ahead W m) blk off dk).heap.size = W.heap.size := Go.Sort.size_putRow enc (Go.Sort.ahead W m) blk off dk
  show w.heap.size ≤ (Go.Sort.grow (Go.Sort.putRow enc (Go.Sort.ahead W m) blk off dk) os).heap.size
  omega
 ·have h3 : (Go.Sort.putRow enc (Go.Sort.ahead W m) blk off dk).heap.size = W.heap.size := Go.Sort.size_putRow enc (Go.Sort.ahead W m) blk off dk
  have h1 := hB.size
  have h4 := (below_grow' (Go.Sort.putRow enc (Go.Sort.ahead W m) blk off dk) os).block k (by omega)
  refine h4.trans ?_
  have h5 : (Go.Sort.putRow enc (Go.Sort.ahead W m) blk off dk).heap[k]? = W.heap[k]? := by
   unfold Go.Sort.putRow Go.Sort.mapBlock
   show (W.heap.modify blk _)[k]? = W.heap[k]?
   rw [Array.getElem?_modify, if_neg (by omega)]
  rw [h5]
  exact hB.block k hk
theorem cell_sortW {α : Type} [Inhabited α] {enc : α → Value} {W : World} {blk off m : Nat} {dk : Array α} {os : Array Obj} {g : Nat} {v : Value} (hne : g ≠ blk) (h : W.cell? ⟨g, 0, none⟩ = some v) : (Go.Proofs.sortWorld enc W blk off m dk os).cell? ⟨g, 0, none⟩ = some v := by
 have hg : g < W.heap.size := World.block_lt_of_cell? _ _ h
 unfold Go.Proofs.sortWorld
 rw [Go.Sort.cell?_grow _ _ _ (by show g < (Go.Sort.putRow enc (Go.Sort.ahead W m) blk off dk).heap.size;rw [Go.Sort.size_putRow];exact hg), Go.Sort.cell?_putRow_other _ _ blk off _ _ (Or.inl hne)]
 exact h
theorem R_setCellsD {base g n cap : Nat} {ok : Nat → Prop} : ∀ (ys : List Int) (i : Nat) (W : World) (xs : List Int), Kd.R (Kd.int .i64) 3 W base ok (.slice (some ⟨g, 0, none⟩) n cap) xs → i + ys.length ≤ xs.length →
  Kd.R (Kd.int .i64) 3 (W.setCells g i (ys.map (Value.int .i64))) base ok (.slice (some ⟨g, 0, none⟩) n cap) (xs.take i ++ ys ++ xs.drop (i + ys.length))
 | [], i, W, xs, h, _ => by
  have e : xs.take i ++ [] ++ xs.drop (i + ([] : List Int).length) = xs := by simp
  rw [e];exact h
 | y :: ys, i, W, xs, h, hl => by
  have h1 := Kd.R_putn h (i : Int) y
  simp only [Int.toNat_natCast] at h1
  have h2 := R_setCellsD ys (i + 1) _ _ h1 (by simp only [List.length_set, List.length_cons] at hl ⊢;omega)
  simp only [List.length_cons] at hl
  have e : (xs.set i y).take (i + 1) ++ ys ++ (xs.set i y).drop (i + 1 + ys.length) = xs.take i ++ (y :: ys) ++ xs.drop (i + (y :: ys).length) := by
   rw [List.drop_set_of_lt (by omega), List.take_succ_eq_append_getElem (by rw [List.length_set];omega), List.take_set_of_le (by omega)]
   simp only [List.getElem_set_self, List.length_cons, List.append_assoc, List.singleton_append]
   rw [show i + 1 + ys.length = i + (ys.length + 1) by omega]
  rw [e] at h2
  exact h2
theorem below_setCellsD {w : World} {g : Nat} : ∀ (vs : List Value) (i : Nat) (W : World), Below w.heap.size w W → w.heap.size ≤ g → Below w.heap.size w (W.setCells g i vs)
 | [], _, _, h, _ => h
 | v :: vs, i, W, h, hg => below_setCellsD vs (i + 1) _ (h.setCell (p := ⟨g, i, none⟩) hg v) hg
theorem R_front {W : World} {base g cap : Nat} {ok : Nat → Prop} {xs : List Int} (ys zs : List Int) (he : xs = ys ++ zs) (h : Kd.R (Kd.int .i64) 3 W base ok (.slice (some ⟨g, 0, none⟩) xs.length cap) xs) : Kd.R (Kd.int .i64) 3 W base ok (.slice (some ⟨g, 0, none⟩) ys.length cap) ys := by
 subst he
 have hok := h.1
 have ho := Kd.own_of_R h
 refine Kd.R_of_own (enc := Value.int .i64) (h1 := fun _ => rfl) ?_ (fun k hk => hok k hk)
 obtain ⟨h0, h1 | ⟨g', cap', cur, e, hb, hg, hn, hc, hs, ht⟩⟩ := ho
 ·exact absurd h1.1 (by simp)
 ·refine ⟨by simp [encs], .inr ⟨g', cap', cur, ?_, hb, hg, ?_, hc, hs, ?_⟩⟩
  ·injection e with e1 e2 e3
   rw [e1, e3]
  ·rw [List.length_append] at hn;omega
  ·rw [Nat.mul_one] at ht ⊢
   have h2 := congrArg (List.take ys.length) ht
   rw [List.take_take, List.length_append, Nat.min_eq_left (by omega)] at h2
   rw [h2]
   simp [encs]
theorem deleteFunc_calls (gP gA g : Nat) (A1 : Option Addr) (c1 : Nat) (sets : List (List Int)) (attack : Int) (w W : World) (Ao : Option Addr) (co : Nat) (l r : List Int) (h : delF sets attack l = some r) (hB : Below w.heap.size w W) (hR : Kd.R (Kd.int .i64) 3 W w.heap.size (fun k => k ≠ gP ∧ k ≠ gA) (.slice Ao l.length co) l)
  (hg : g < w.heap.size) (hP : W.cell? ⟨gP, 0, none⟩ = some (.pointer (some ⟨g, 0, none⟩))) (hA : W.cell? ⟨gA, 0, none⟩ = some (.int .i64 attack)) (hS : w.cell? ⟨g, 1, none⟩ = some (.slice A1 sets.length c1)) (hC : Kd.C (Kd.slice 3 (Kd.int .i64)) w A1 sets.length sets) :
  Calls Tryd.prog 80 #[.slice Ao l.length co, .func (.func 81) #[] #[.pointer (some ⟨gP, 0, none⟩), .pointer (some ⟨gA, 0, none⟩)]] W fun e w' => ∃ v : Value, e = .returned v ∧ Kd.R (Kd.int .i64) 3 w' w.heap.size (fun _ => True) v r ∧ Below w.heap.size w w' := by
 obtain ⟨hin, rfl⟩ := delF_use h
 clear h
 have eg : ∀ args w, (callFunc 81 args).run Tryd.prog w = .ok (.enter 81 args) w := enters_of Tryd.func81 kR rfl
 cases l with
 | nil =>
  have hidx := indexFuncD_calls 81 #[.pointer (some ⟨gP, 0, none⟩), .pointer (some ⟨gA, 0, none⟩)] eg (fun _ => none) Ao co [] W (Kd.R_reads' hR).2.2 (-1) rfl (fun x b W h => by cases h)
  have HR := Aside0.mk hR
  have HB := Aside0.mk hB
  have HI := Aside0.mk hidx
  clear hR hB hidx hin hP hA hS hC
  go_enter Tryd.func80, Tryd.ntmps80
  go_wp2_with (go_at_call 89;refine HI.out.mono ?_;rintro e w' ⟨rfl, hb⟩;have n0_ := aM (Kd.R_below HR.out hb);have n1_ := aM (HB.out.trans ⟨hb.os, hb.tape, hb.output, hb.size, fun k hk => hb.block k (Nat.lt_of_lt_of_le hk HB.out.size)⟩);clear HR HB hb HI)
  go_ret
  exact ⟨_, rfl, Kd.R_mono n0_.out (fun _ _ => trivial), n1_.out⟩
 | cons x0 l0 =>
  generalize hl : x0 :: l0 = l at *
  have hne : 0 < l.length := by rw [← hl];simp
  have hx0 : x0 ∈ l := by rw [← hl];simp
  have hN : (0 : Int) < (sets.length : Int) := by have := hin x0 hx0;omega
  obtain ⟨gb, cap, e, hgb, hlt, _⟩ := Kd.R_form hR hne
  injection e with e1 e2 e3
  subst e1
  subst e3
  have hok := hR.1 gb rfl
  have hcap := (Kd.R_reads' hR).2.1
  have hlen := (Kd.R_reads' hR).2.2.2.1
  have hH : Go.Sort.Holds (fun x : Int => Value.int .i64 (clipN (sets.length : Int) x)) W gb 0 l.toArray := by
   intro j hj
   have hj' : j < l.length := by simpa using hj
   obtain ⟨h1, h2⟩ := Kd.R_celln 0 hR (j : Int) (by omega) (by omega)
   rw [Int.toNat_natCast] at h1 h2
   refine ⟨?_, by rw [Nat.zero_add];exact h2⟩
   rw [Nat.zero_add, h1]
   have e1 : rdOf 0 l (j : Int) = l[j] := by simp [rdOf, hj']
   have e2 : l.toArray[j]! = l[j] := by rw [getElem!_pos _ j hj];simp
   rw [e1, e2]
   show _ = some (Value.int .i64 (clipN (sets.length : Int) l[j]))
   rw [clipN_in (hin _ (List.getElem_mem hj'))]
  have hcl : ∀ (W' : World) (x : Int), Below w.heap.size w W' → W'.cell? ⟨gP, 0, none⟩ = some (.pointer (some ⟨g, 0, none⟩)) → W'.cell? ⟨gA, 0, none⟩ = some (.int .i64 attack) →
    Go.Proofs.FnGives Tryd.prog 81 #[.pointer (some ⟨gP, 0, none⟩), .pointer (some ⟨gA, 0, none⟩)] #[.int .i64 (clipN (sets.length : Int) x)] (.bool (!((rd_L2 sets (clipN (sets.length : Int) x)).contains attack))) W' :=
   fun W' x hb hp ha => ans_fn gP gA g A1 c1 sets attack (clipN (sets.length : Int) x) W' hp ha ((hb.cell hg).trans hS) (Kd.C_below hC hb) (clipN_ok x hN).1 (clipN_ok x hN).2
  have hat : Go.Proofs.PredAt Tryd.prog 81 #[.pointer (some ⟨gP, 0, none⟩), .pointer (some ⟨gA, 0, none⟩)] (fun x : Int => Value.int .i64 (clipN (sets.length : Int) x)) (fun x => !((rd_L2 sets (clipN (sets.length : Int) x)).contains attack)) W := by
   intro W' x hb
   have hb2 : Below w.heap.size w W' := hB.trans ⟨hb.os, hb.tape, hb.output, hb.size, fun k hk => hb.block k (Nat.lt_of_lt_of_le hk hB.size)⟩
   exact hcl W' x hb2 ((hb.cell (World.block_lt_of_cell? _ _ hP)).trans hP) ((hb.cell (World.block_lt_of_cell? _ _ hA)).trans hA)
  have hov : Go.Proofs.PredOver Tryd.prog 81 #[.pointer (some ⟨gP, 0, none⟩), .pointer (some ⟨gA, 0, none⟩)] (fun x : Int => Value.int .i64 (clipN (sets.length : Int) x)) (fun x => !((rd_L2 sets (clipN (sets.length : Int) x)).contains attack)) gb 0 l.toArray.size W :=
   fun n os dk x _ => hcl _ x (below_sortW hB hgb) (cell_sortW hok.1.symm hP) (cell_sortW hok.2.symm hA)
  have hcon := Go.Proofs.AnyE.slices_DeleteFunc Tryd.delL (fun x : Int => Value.int .i64 (clipN (sets.length : Int) x)) (fun _ => rfl) (fun x => !((rd_L2 sets (clipN (sets.length : Int) x)).contains attack)) 81 #[.pointer (some ⟨gP, 0, none⟩), .pointer (some ⟨gA, 0, none⟩)] eg 0
   (fun w => by rw [clipN_in ⟨Int.le_refl _, hN⟩];exact Tryd.zeroValue3 w) gb 0 co l.toArray W hat hov hH (by simpa using hlen) (by simpa using hcap)
  change Calls Tryd.prog 80 _ _ _ at hcon
  simp only [List.size_toArray, Bool.not_not] at hcon
  have hf : (l.filter fun x => (rd_L2 sets (clipN (sets.length : Int) x)).contains attack) = l.filter fun x => (rd_L2 sets x).contains attack := List.filter_congr fun x hx => by rw [clipN_in (hin x hx)]
  rw [hf] at hcon
  refine hcon.mono ?_
  have hfl : (l.filter fun x => (rd_L2 sets x).contains attack).length ≤ l.length := List.length_filter_le _ _
  have hmem : ∀ x ∈ l.filter (fun x => (rd_L2 sets x).contains attack), x ∈ l := fun x hx => (List.mem_filter.1 hx).1
  generalize (l.filter fun x => (rd_L2 sets x).contains attack) = f at hfl hmem ⊢
  rintro e w' ⟨rfl, q, rfl⟩
  have hq := Go.Lib.putRow_eq_setCells (fun x : Int => Value.int .i64 (clipN (sets.length : Int) x)) W gb 0 l.toArray (f ++ List.replicate (l.length - f.length) 0) q hH (by simp;omega)
  rw [hq]
  have hm : ((f ++ List.replicate (l.length - f.length) 0).map fun x : Int => Value.int .i64 (clipN (sets.length : Int) x)) = (f ++ List.replicate (l.length - f.length) 0).map (Value.int .i64) := by
   refine List.map_congr_left fun x hx => ?_
   rcases List.mem_append.1 hx with hx | hx
   ·rw [clipN_in (hin x (hmem x hx))]
   ·rw [(List.mem_replicate.1 hx).2, clipN_in ⟨Int.le_refl _, hN⟩]
  rw [hm]
  refine ⟨_, rfl, ?_, below_setCellsD _ 0 _ (pw_below_drewN hB q) hgb⟩
  have h1 := R_setCellsD (f ++ List.replicate (l.length - f.length) 0) 0 (W.drewN q) l (Kd.R_drewN hR q) (by simp;omega)
  have hll : (f ++ List.replicate (l.length - f.length) 0).length = l.length := by simp;omega
  simp only [List.take_zero, List.nil_append, Nat.zero_add, hll, List.drop_length, List.append_nil] at h1
  exact Kd.R_mono (R_front f (List.replicate (l.length - f.length) 0) rfl (by rw [hll];exact h1)) (fun _ _ => trivial)

def impl_guardGame_answers.f (s0_0 : Int) (s0_1 : List (List Int)) (s0_2 : List (List Int)) (a1 : Int) (a2 : Int) : Option (List Int × Int) := if 0 ≤ a1 then (if a1 < (s0_2.length : Int) then ((slices_Clone_int_int.f (rd_L2 s0_2 a1)).bind fun t1 => ((delF s0_1 a2 t1).bind fun t2 => (some (t2, s0_0)))) else (none)) else (none)
theorem impl_guardGame_answers.calls (g : Nat) (s0_0 : Int) (s0_1 : List (List Int)) (s0_2 : List (List Int)) (a1 : Int) (a2 : Int) (r1 : List Int) (r2 : Int) (w0 w : World) (hI : IsS61 w0 w g s0_0 s0_1 s0_2) (hB : Below w0.heap.size w0 w) (h : impl_guardGame_answers.f s0_0 s0_1 s0_2 a1 a2 = some (r1, r2)) :
    Calls Tryd.prog 48 #[.pointer (some ⟨g, 0, none⟩), .int .i64 a1, .int .i64 a2] w fun e w' => ∃ v0_ : Value, e = .returned (v0_) ∧ Kd.R (Kd.int .i64) 3 w' w.heap.size (fun _ => True) v0_ r1 ∧ IsS61 w0 w' g r2 s0_1 s0_2 ∧ Below w0.heap.size w0 w' ∧ KeepBut w w' g none := by
  unfold impl_guardGame_answers.f at h
  split at h
  case isFalse => cases h
  case isTrue p0 =>
  split at h
  case isFalse => cases h
  case isTrue p1 =>
  obtain ⟨t1, ht1, h⟩ := Option.bind_eq_some_iff.1 h
  obtain ⟨t2, ht2, h⟩ := Option.bind_eq_some_iff.1 h
  simp only [Option.some.injEq, Prod.mk.injEq] at h
  obtain ⟨rfl, rfl⟩ := h
  have hlt := hI.lt
  have hI0 := hI
  obtain ⟨A1, c1, A2, c2, hG, hg, hS1, hS2⟩ := hI
  have hz1 := cellS61_1 hG
  have hz2 := cellS61_2 hG
  obtain ⟨ad, Ar, cr, rfl, hx, hl, hi⟩ := at_L2 hS2 a1 p0 p1
  have hxw := (pw_cell_below hB hx)
  have hiw := Kd.C_below hi hB
  have hSw := Kd.C_below hS1 hB
  have HI := Aside0.mk hI0
  have HB := Aside0.mk hB
  have HW := aM (Below.refl w.heap.size w)
  have A1_ := Aside0.mk ht1
  have A2_ := Aside0.mk ht2
  have HLT := Aside0.mk hlt
  have HZ1 := Aside0.mk hz1
  have HZ2 := Aside0.mk hz2
  have HX := Aside0.mk hxw
  have HL := Aside0.mk hl
  have HC := Aside0.mk hiw
  have HS := Aside0.mk hSw
  clear hI0 hB ht1 ht2 hlt hz1 hz2 hx hxw hl hi hiw hSw hG hg hS1 hS2
  replace p0 := eq_true p0
  replace p1 := eq_true p1
  go_enter Tryd.func48, Tryd.ntmps48
  go_wp2_with (first
    | ((with_reducible refine gate_dst (N := 3) rfl ?_); refine box_event ?hg (N := 3) ?hd (cs := #[.pointer (some ⟨g, 0, none⟩)]) (t := 54) ?hr ?_; (case hd => rfl); (case hg => rfl); (case hr => exact gS); intro gP hgP wP hboxP hbP; have HWP := Aside0.mk hbP; have BKP := Aside0.mk hboxP; have GP := aM (show w.heap.size ≤ gP by rw [hgP]; exact Nat.le_refl _); clear hbP hboxP hgP)
    | ((with_reducible refine gate_dst (N := 5) rfl ?_); refine box_event ?hg (N := 5) ?hd (cs := #[.int .i64 a2]) (t := 3) ?hr ?_; (case hd => rfl); (case hg => rfl); (case hr => exact gS); intro gA hgA wA hboxA hbA; have GA := aM (show w.heap.size ≤ gA by rw [hgA]; exact HWP.out.size); have BKQ := aM (blk_below BKP.out hbA); have BKA := Aside0.mk hboxA; have HWA := aM (below_step HWP.out hbA); clear hbA hboxA hgA BKP HWP;
       have hcP := (blk_cell BKQ.out 0).trans (show (#[Value.pointer (some ⟨g, 0, none⟩)] : Array Value)[0]? = some (.pointer (some ⟨g, 0, none⟩)) from rfl); have hfP := blk_frozen BKQ.out 0; have hc2 := (HWA.out.cell (p := ⟨g, 2, none⟩) HLT.out).trans HZ2.out; have hcr := pw_cell_below HWA.out HX.out)
    | ((with_reducible refine gate_callee (f := 55) rfl ?_); refine goesL_ (some 14) rfl rfl Tryd.func55 kR rfl #[.slice Ar (rd_L2 s0_2 a1).length cr] rfl (by (try simp only [List.map_toArray, List.map_cons, List.map_nil]); first | done | rfl) ?_;
       (with_reducible refine (slices_Clone_int_int.calls _ _ (rd_L2 s0_2 a1) t1 _ ?side1 ?side2 A1_.out).mono ?_); (case side1 => exact Kd.C_below HC.out HWA.out); (case side2 => exact HL.out); rintro e wC ⟨vC, rfl, hoC, hbC⟩; refine ⟨_, rfl, ?_⟩;
       obtain ⟨Ao, co, eo⟩ := Kd.R_slice hoC; subst eo; have HOC := aM (Kd.R_lower (Kd.R_mono (ok' := fun k => k ≠ gP ∧ k ≠ gA) (Kd.R_bound hoC) (fun k hk => ⟨fun e_ => Nat.not_le.2 (blk_lt BKQ.out) (e_ ▸ hk.2.1), fun e_ => Nat.not_le.2 (blk_lt BKA.out) (e_ ▸ hk.2.1)⟩)) HWA.out.size);
       have BKP2 := aM (blk_below BKQ.out hbC); have BKA2 := aM (blk_below BKA.out hbC); have HWC := aM (below_step HWA.out hbC); clear hoC hbC BKQ BKA HWA hcP hfP hc2 hcr)
    | (go_at_call 80; refine (deleteFunc_calls gP gA g A1 c1 s0_1 a2 w _ Ao co t1 t2 A2_.out HWC.out HOC.out HLT.out ((blk_cell BKP2.out 0).trans rfl) ((blk_cell BKA2.out 0).trans rfl) HZ1.out HS.out).mono ?_; rintro e wD ⟨vD, rfl, hoD, hbD⟩; have HOD := Aside0.mk hoD; have HWD := Aside0.mk hbD; clear hoD hbD HOC BKP2 BKA2 HWC))
  go_ret
  exact ⟨_, rfl, HOD.out, HI.out.below HWD.out, below_step HB.out HWD.out, KeepBut.of_below HWD.out g none⟩

/-! ### bits_Mul64: function 101 -/
def bits_Mul64.f (a0 : Int) (a1 : Int) : Option (Int × Int) := some (IntKind.u64.wrap ((IntKind.u64.wrap ((IntKind.u64.wrap ((a0 / 4294967296) * (a1 / 4294967296))) + ((IntKind.u64.wrap ((IntKind.u64.wrap ((a0 / 4294967296) * (Go.bits .and .u64 a1 4294967295))) + ((IntKind.u64.wrap ((Go.bits .and .u64 a0 4294967295) * (Go.bits .and .u64 a1 4294967295))) / 4294967296))) / 4294967296))) + ((IntKind.u64.wrap ((Go.bits .and .u64 (IntKind.u64.wrap ((IntKind.u64.wrap ((a0 / 4294967296) * (Go.bits .and .u64 a1 4294967295))) + ((IntKind.u64.wrap ((Go.bits .and .u64 a0 4294967295) * (Go.bits .and .u64 a1 4294967295))) / 4294967296))) 4294967295) + (IntKind.u64.wrap ((Go.bits .and .u64 a0 4294967295) * (a1 / 4294967296))))) / 4294967296)), IntKind.u64.wrap (a0 * a1))
theorem bits_Mul64.calls (a0 : Int) (a1 : Int) (r1 : Int) (r2 : Int) (w : World) (h : bits_Mul64.f a0 a1 = some (r1, r2)) :
  Calls Tryd.prog 101 #[.int .u64 a0, .int .u64 a1] w fun e w' => e = .returned (.tuple #[.int .u64 r1, .int .u64 r2]) ∧ Drawn0 w w' := by
 have H : (some (IntKind.u64.wrap ((IntKind.u64.wrap ((IntKind.u64.wrap ((a0 / 4294967296) * (a1 / 4294967296))) + ((IntKind.u64.wrap ((IntKind.u64.wrap ((a0 / 4294967296) * (Go.bits .and .u64 a1 4294967295))) + ((IntKind.u64.wrap ((Go.bits .and .u64 a0 4294967295) * (Go.bits .and .u64 a1 4294967295))) / 4294967296))) / 4294967296))) + ((IntKind.u64.wrap ((Go.bits .and .u64 (IntKind.u64.wrap ((IntKind.u64.wrap ((a0 / 4294967296) * (Go.bits .and .u64 a1 4294967295))) + ((IntKind.u64.wrap ((Go.bits .and .u64 a0 4294967295) * (Go.bits .and .u64 a1 4294967295))) / 4294967296))) 4294967295) + (IntKind.u64.wrap ((Go.bits .and .u64 a0 4294967295) * (a1 / 4294967296))))) / 4294967296)), IntKind.u64.wrap (a0 * a1))) = some (r1, r2) := h
 clear h
 simp only [Option.some.injEq, Prod.mk.injEq] at H
 obtain ⟨rfl, rfl⟩ := H
 go_enter Tryd.func101, Tryd.ntmps101
 go_wp2
 go_ret2
 exact ⟨eF, dR⟩


/-! ### bits_Mul: function 88 -/
def bits_Mul.f (a0 : Int) (a1 : Int) : Option (Int × Int) := (bits_Mul64.f a0 a1).bind fun bt509 => (some (bt509.1, bt509.2))
theorem bits_Mul.calls (a0 : Int) (a1 : Int) (r1 : Int) (r2 : Int) (w : World) (h : bits_Mul.f a0 a1 = some (r1, r2)) :
  Calls Tryd.prog 88 #[.int .u64 a0, .int .u64 a1] w fun e w' => e = .returned (.tuple #[.int .u64 r1, .int .u64 r2]) ∧ Drawn0 w w' := by
 have H : ((bits_Mul64.f a0 a1).bind fun bt509 => (some (bt509.1, bt509.2))) = some (r1, r2) := h
 clear h
 replace H := bE H
 obtain ⟨⟨t509, t510⟩, A30, H⟩ := H
 try dsimp only at H
 have A3 := Aside0.mk A30
 clear A30
 simp only [Option.some.injEq, Prod.mk.injEq] at H
 obtain ⟨rfl, rfl⟩ := H
 go_enter Tryd.func88, Tryd.ntmps88
 go_wp2_with (first | ((with_reducible refine gate_callee (f := 101) rfl ?_);refine goesL_ (some 25) rfl rfl Tryd.func101 kR rfl #[.int .u64 a0, .int .u64 a1] rfl mM ?_;(with_reducible refine (bits_Mul64.calls a0 a1 t509 t510 _ A3.out).mono ?_);rintro e w' ⟨rfl, ⟨nd, rfl⟩⟩;refine ⟨_, rfl, ?_⟩))
 go_ret2
 exact ⟨eF, dR⟩


/-! ### slices_Repeat_int_int: by hand -/
def slices_Repeat_int_int.f (l0 : List Int) (a1 : Int) : Option (List Int) := if l0.length = 1 ∧ 0 ≤ a1 ∧ a1 ≤ 1048576 then some (List.replicate a1.toNat (rd l0 0)) else none
theorem bits_Mul_one (a : Int) (h0 : 0 ≤ a) (h1 : a ≤ 1048576) : bits_Mul.f 1 a = some (0, a) := by
 have e : Go.bits .and .u64 a 4294967295 = a := by
  obtain ⟨n, rfl⟩ := Int.eq_ofNat_of_zero_le h0
  have := bits_and_u64_nat n 4294967295 (by omega) (by omega)
  rw [show n &&& 4294967295 = n % 4294967296 from Nat.and_two_pow_sub_one_eq_mod n 32, Nat.mod_eq_of_lt (by omega)] at this
  exact this
 have e1 : Go.bits .and .u64 1 4294967295 = 1 := by decide +kernel
 have d1 : (1 : Int) / 4294967296 = 0 := by decide
 have d2 : a / 4294967296 = 0 := by omega
 have w0 : IntKind.u64.wrap (0 : Int) = 0 := by decide +kernel
 have e0 : Go.bits .and .u64 0 4294967295 = 0 := by decide +kernel
 have wa : IntKind.u64.wrap a = a := by rw [IntKind.wrap_u64];omega
 simp only [bits_Mul.f, bits_Mul64.f, e, e0, w0, e1, d1, d2, Int.zero_mul, Int.mul_zero, Int.one_mul, wa, w0, Int.zero_add, Int.zero_ediv, Option.bind_some]
theorem madeCells_int (n : Nat) : madeCells (Value.int .i64 0).cells (n * 1) = (List.replicate n (Value.int .i64 0)).toArray := by
 apply Array.ext
 ·simp [madeCells]
 ·intro i h1 h2
  simp [madeCells, Value.cells, Nat.mod_one]
theorem make_raw {P : Program} {w : World} {ops : Array Oper} {rest : List Oper} {o : Oper} {a : Act} {Q : Exit → Act → World → Prop} (hgd : o.guard = none) (t e : TypeId) (x y : Operand) (ho : o.op = .makeSlice t x y) (n : Nat) (cs : List Value) (hx : a.eval x = .int .i64 (n : Int)) (hy : a.eval y = .int .i64 (n : Int))
  (hmk : (Instr.makeSlice t (.int .i64 (n : Int)) (.int .i64 (n : Int))).run P w = .ok (.slice (some ⟨w.heap.size, 0, none⟩) n n) (w.alloc (.cells cs.toArray e)))
  (h : ∀ w1, Hid (w1.heap[w.heap.size]? = some (.cells cs.toArray e (0, 0))) → Below w.heap.size w w1 → wpList P ops Q rest (a.put o.dst (.slice (some ⟨w.heap.size, 0, none⟩) n n)) w1) : wpList P ops Q (o :: rest) a w := by
 refine wpList_plain hgd fun K hK => ?_
 unfold Oper.wp
 simp [execOp, ho, hx, hy, hmk, Result.andThen]
 exact hK _ _ (h _ (show _ = _ from by show (w.heap.push _)[w.heap.size]? = _;exact Array.getElem?_push_size) (below_alloc (Below.refl _ _) _))
theorem still_tail_drewR {P : Program} {id : Nat} {Q : Exit → Act → World → Prop} {a : Act} {w : World} {l : List Oper} (n : Nat) (hm : P.follows .mixedOrders = true) (hB : Region.lexTailB .any l.toArray n = true)
  (h : wpStill P l.toArray w.drew (fun a' => wpList P l.toArray Q (l.drop n) a' w.drew) (l.take n) a) : (Code.region id l.toArray true).wp P Q a w := wp_region_still_tail n hm hB h
theorem rep_own {w : World} {base gb n e : Nat} {x : Int} (hb : base ≤ gb) (hn : n ≤ 1048576) (h : w.heap[gb]? = some (.cells (List.replicate n (Value.int .i64 x) ++ List.replicate (n - n) (Value.int .i64 0)).toArray e (0, 0))) : Kd.R (Kd.int .i64) e w base (fun _ => True) (.slice (some ⟨gb, 0, none⟩) n n) (List.replicate n x) := by
 refine Kd.R_of_own (enc := Value.int .i64) (h1 := fun _ => rfl) ⟨?_, .inr ⟨gb, n, _, ?_, hb, h, ?_, ?_, ?_, ?_⟩⟩ (fun _ _ => trivial)
 ·simp [encs]
 ·simp
 ·simp
 ·simp [maxLen];omega
 ·simp
 ·simp [encs]
theorem rep_one {n : Nat} (x : Int) : ∀ v ∈ List.replicate n (Value.int .i64 x), v.oneCell' = true := fun v hv => by rw [(List.mem_replicate.1 hv).2]; rfl
theorem rep_cells {w : World} {ad : Addr} {n : Nat} {x : Value} (hn : n ≤ 1) (h : w.cell? (ad.add 0) = some x) : ∀ j v, (List.replicate n x)[j]? = some v → w.cell? (ad.add j) = some v := by
 intro j v hj
 rw [List.getElem?_replicate] at hj
 split at hj
 case isTrue hlt =>
  obtain rfl : j = 0 := by omega
  rw [h];exact hj
 case isFalse => cases hj
theorem rep_cells2 {w : World} {gb kk m c e : Nat} {x y : Value} (hc : c ≤ kk) (h : w.heap[gb]? = some (.cells (List.replicate kk x ++ List.replicate m y).toArray e (0, 0))) : ∀ j v, (List.replicate c x)[j]? = some v → w.cell? ((⟨gb, 0, none⟩ : Addr).add j) = some v := by
 intro j v hj
 rw [List.getElem?_replicate] at hj
 split at hj
 case isTrue hlt =>
  rw [add_plain]
  rw [blk_cell h j]
  rw [← hj]
  simp only [List.getElem?_toArray]
  rw [List.getElem?_append_left (by rw [List.length_replicate];omega), List.getElem?_replicate, if_pos (by omega)]
 case isFalse => cases hj
theorem splice_rep (n k c : Nat) (x z : Value) (h : k + c ≤ n) : splice (List.replicate k x ++ List.replicate (n - k) z) k (List.replicate c x) = List.replicate (k + c) x ++ List.replicate (n - (k + c)) z := by
 unfold splice
 rw [List.take_append_of_le_length (by simp), List.take_of_length_le (by simp), List.length_replicate, List.drop_append, List.drop_of_length_le (by simp), List.nil_append, List.length_replicate, List.drop_replicate, ← List.append_assoc, List.replicate_append_replicate]
 congr 2
 omega
theorem slices_Repeat_int_int.calls (A0 : Option Addr) (c0 : Nat) (l0 : List Int) (a1 : Int) (r : List Int) (w : World) (hr0 : Kd.C (Kd.int .i64) w A0 l0.length l0) (hc0 : l0.length ≤ c0) (h : slices_Repeat_int_int.f l0 a1 = some r) :
  Calls Tryd.prog 64 #[.slice A0 l0.length c0, .int .i64 a1] w fun e w' => ∃ v0_ : Value, e = .returned (v0_) ∧ Kd.R (Kd.int .i64) 3 w' w.heap.size (fun _ => True) v0_ r ∧ Below w.heap.size w w' := by
 unfold slices_Repeat_int_int.f at h
 split at h
 case isFalse => exact absurd h (by simp)
 case isTrue hc =>
  obtain ⟨hl, h0, h1⟩ := hc
  obtain rfl := Option.some.inj h
  clear h
  obtain ⟨n, rfl⟩ := Int.eq_ofNat_of_zero_le h0
  have h1' : n ≤ 1048576 := by omega
  simp only [Int.toNat_natCast]
  have hM := aM (bits_Mul_one (n : Int) h0 h1)
  obtain ⟨ad, rfl, hcell⟩ := Kd.at_int hr0 0 (by omega) (by omega)
  rw [hl] at *
  have hcell0 : w.cell? ad = some (.int .i64 (rd l0 0)) := hcell
  have HC0 := Aside0.mk hcell0
  clear hcell hr0 hc0 hcell0
  generalize hx : rd l0 0 = x at HC0 ⊢
  have hu := Tryd.underlying36
  have hsz : ((Tryd.prog).info? 3).map (·.size) = some 1 := by
   have h := info3
   simp only [Option.map_eq_some_iff] at h ⊢
   obtain ⟨i, hi, he⟩ := h
   exact ⟨i, hi, (Prod.mk.inj (Prod.mk.inj he).2).1⟩
  have hmk : ∀ W : World, (Instr.makeSlice 36 (.int .i64 (n : Int)) (.int .i64 (n : Int))).run Tryd.prog W = .ok (.slice (some ⟨W.heap.size, 0, none⟩) n n) (W.alloc (.cells (List.replicate n (Value.int .i64 0)).toArray 3)) := by
   intro W
   have h := info3
   simp only [Option.map_eq_some_iff] at h
   obtain ⟨i, hi, he⟩ := h
   simp only [Prod.mk.injEq] at he
   have hr := run_make (P := Tryd.prog) W 36 3 i (.int .i64 0) hu hi he.1 .i64 .i64 (n : Int) (n : Int) (by omega) (by omega) (by rw [he.2.2];omega) (by omega)
   rw [he.2.1, Int.toNat_natCast, madeCells_int] at hr
   exact hr
  have HMK := Aside0.mk hmk
  clear hmk
  go_enter Tryd.func64, Tryd.ntmps64
  have hc0 : decide ((n : Int) < 0) = false := by simp
  have hw1 : IntKind.u64.wrap (n : Int) = (n : Int) := by rw [IntKind.wrap_u64];omega
  have hw2 : IntKind.i64.wrap (n : Int) = (n : Int) := by rw [IntKind.wrap_i64];omega
  have hg : decide ((n : Int) > 9223372036854775807) = false := by simp;omega
  go_wp2_with (first | (with_reducible refine gate_dst (N := 30) rfl ?_);fail)
  refine (bits_Mul.calls 1 (n : Int) 0 (n : Int) _ hM.out).mono ?_
  rintro e w' ⟨rfl, ⟨nd, rfl⟩⟩
  obtain ⟨k, hk⟩ : ∃ k, k = Nat.min 1 n := ⟨_, rfl⟩
  have hkn : k ≤ n := by rw [hk];exact Nat.min_le_right 1 n
  have hk1 : k ≤ 1 := by rw [hk];exact Nat.min_le_left 1 n
  have hk2 : 0 < n → 0 < k := by rw [hk];intro h;exact Nat.lt_min.2 ⟨Nat.one_pos, h⟩
  have HKE := Aside0.mk hk
  clear hk
  go_wp2_with (first | ((with_reducible refine gate_dst (N := 30) rfl ?_);refine make_raw rfl 36 3 _ _ rfl n _ rfl rfl (HMK.out _) ?_;intro w1 HG1 hB1;have HB1 := aM (show Below w.heap.size w w1 from (pw_below_drewN (Below.refl _ _) nd).trans hB1);clear hB1;replace HG1 : Hid (w1.heap[w.heap.size]? = _) := HG1;rw [show (w.drewN nd).heap.size = w.heap.size from rfl];generalize hgb : w.heap.size = gb at *) | ((with_reducible refine gate_dst (N := 33) rfl ?_);refine wpList_copy_splice rfl _ _ 36 36 rfl 3 hu hsz _ _ n n 1 c0 rfl rfl gb 0 (List.replicate 0 (Value.int .i64 x) ++ List.replicate (n - 0) (Value.int .i64 0)) 3 ?ha (List.replicate k (Value.int .i64 x)) ?hb ?hpos ?hc ?hd gb w HB1.out ?he ?hf;(case ha => exact HG1.out);(case hb => exact (List.length_replicate).trans HKE.out);(case hpos => exact fun _ => ⟨rfl, ad, rfl, rep_cells hk1 (pw_cell_below (by rw [hgb];exact HB1.out) HC0.out)⟩);(case hc => simp only [List.length_append, List.length_replicate];omega);(case hd => exact rep_one _);(case he => exact Nat.le_refl _);rw [splice_rep n 0 k _ _ (by omega), List.length_replicate, Nat.zero_add];intro w2 HG2 hB2;have HB2 := Aside0.mk hB2;clear hB2 HG1 HB1))
  clear HMK hM hx
  go_loopg [8] n (fun gg v8 wr => ∃ kk : Nat, v8 = .int .i64 (kk : Int) ∧ Aside0 (kk ≤ n ∧ (0 < n → 0 < kk) ∧ n - kk ≤ gg) ∧ Aside0 (wr.heap[gb]? = some (.cells (List.replicate kk (Value.int .i64 x) ++ List.replicate (n - kk) (Value.int .i64 0)).toArray 3 (0, 0))) ∧ Aside0 (Below gb w wr))
  case atStart => exact ⟨k, rfl, ⟨hkn, hk2, by omega⟩, ⟨HG2.out⟩, HB2⟩
  case round =>
   obtain ⟨kk, rfl, HN, HG, HB⟩ := hrel
   clear HG2 HB2 hk1 hk2 hkn HKE
   by_cases hlt : kk < n
   ·have hltz : (kk : Int) < (n : Int) := by omega
    obtain ⟨hka, hkb, hkc⟩ := HN.out
    have hkp : 0 < kk := hkb (by omega)
    obtain ⟨c, hc⟩ : ∃ c, c = Nat.min kk (n - kk) := ⟨_, rfl⟩
    have hc1 : c ≤ n - kk := by rw [hc];exact Nat.min_le_right _ _
    have hc2 : c ≤ kk := by rw [hc];exact Nat.min_le_left _ _
    have hc3 : 0 < c := by rw [hc];exact Nat.lt_min.2 ⟨hkp, by omega⟩
    have HC := Aside0.mk hc
    clear hc
    have hne : ¬ n = kk := by omega
    have hw3 : IntKind.i64.wrap ((kk : Int) + (c : Int)) = ((kk + c : Nat) : Int) := by rw [IntKind.wrap_i64];omega
    have i0 : ((0 : Int) ≤ (kk : Int)) = True := by simp
    have i1 : ((kk : Int) ≤ (n : Int)) = True := by simp;omega
    go_wp2
    have HGd : Aside0 (wr.drew.heap[gb]? = some (.cells (List.replicate kk (Value.int .i64 x) ++ List.replicate (n - kk) (Value.int .i64 0)).toArray 3 (0, 0))) := ⟨HG.out⟩
    have HBd : Aside0 (Below gb w wr.drew) := ⟨below_drew HB.out⟩
    go_region_law (refine step_copy_splice rfl (.tmp 41) (.tmp 44) 36 36 rfl 3 hu hsz (some ⟨gb, kk, none⟩) (some ⟨gb, 0, none⟩) (n - kk) (n - kk) kk n (by simp [Act.eval, Act.put, hne]) (by simp [Act.eval, Act.put]) gb kk (List.replicate kk (Value.int .i64 x) ++ List.replicate (n - kk) (Value.int .i64 0)) 3 HGd.out (List.replicate c (Value.int .i64 x)) (List.length_replicate.trans HC.out) (fun _ => ⟨rfl, _, rfl, rep_cells2 hc2 HGd.out⟩) (by simp only [List.length_append, List.length_replicate];omega) (rep_one _) gb w HBd.out (Nat.le_refl _) ?_;rw [splice_rep n kk c _ _ (by omega), List.length_replicate];intro w3 HG3 hB3;have HB3 := Aside0.mk hB3;clear hB3)
    go_wp2
    go_roundg (n - (kk + c))
    case measure => omega
    case rel => exact ⟨kk + c, by first | rfl | (rw [← hw3];rfl) | simp [hw3], ⟨by omega, fun _ => by omega, Nat.le_refl _⟩, ⟨HG3.out⟩, HB3⟩
   ·have hltz : ¬ (kk : Int) < (n : Int) := by omega
    obtain rfl : kk = n := by have := HN.out;omega
    go_wp2
    go_ret
    exact ⟨_, rfl, rep_own (Nat.le_refl _) h1' HG.out, HB.out⟩

/-! ### impl_guardGame_resist: function 34 -/
def notYet (p : Int → Bool) (l : List Int) (i : Nat) : Prop := ∀ j, j < i → ∀ x, l[j]? = some x → p x = false
theorem notYet_all {p : Int → Bool} {l : List Int} (h : notYet p l l.length) : l.any p = false := by
 rw [List.any_eq_false]
 intro x hx
 obtain ⟨j, hj, rfl⟩ := List.getElem_of_mem hx
 simp [h j hj _ (List.getElem?_eq_getElem hj)]
theorem notYet_hit {p : Int → Bool} {l : List Int} {i : Nat} (hi : i < l.length) (h : p (rd l (i : Int)) = true) : l.any p = true := by
 rw [List.any_eq_true]
 refine ⟨l[i], List.getElem_mem hi, ?_⟩
 have : rd l (i : Int) = l[i] := by simp [rd, hi]
 rwa [← this]
theorem notYet_succ {p : Int → Bool} {l : List Int} {i : Nat} (hi : i < l.length) (h : notYet p l i) (hp : p (rd l (i : Int)) = false) : notYet p l (i + 1) := by
 intro j hj x hx
 by_cases e : j = i
 ·subst e
  have : rd l (j : Int) = x := by simp [rd, hx]
  rwa [← this]
 ·exact h j (by omega) x hx
theorem indexFunc_calls (g : Nat) (lb : Array Value) (eg : ∀ args w, (callFunc g args).run Tryd.prog w = .ok (.enter g args) w) (p : Int → Bool) (A : Option Addr) (c : Nat) (l : List Int) (w : World) (hr : Kd.C (Kd.int .i64) w A l.length l)
  (hp : ∀ x ∈ l, ∀ W, Below w.heap.size w W → Calls Tryd.prog g (#[.int .i64 x] ++ lb) W fun e w' => e = .returned (.bool (p x)) ∧ ∃ q, w' = W.drewN q) :
  Calls Tryd.prog 89 #[.slice A l.length c, .func (.func g) #[] lb] w fun e w' => (∃ j : Int, e = .returned (.int .i64 j) ∧ decide (0 ≤ j) = l.any p) ∧ ∃ q, w' = w.drewN q := by
 have HR := Aside0.mk hr
 have HP := Aside0.mk hp
 have hL := hr.2.1
 clear hr hp
 go_enter Tryd.func89, Tryd.ntmps89
 go_wp2
 go_loopg [5, 8] l.length (fun gg _ s8 wr => ∃ kk q : Nat, kk ≤ l.length ∧ l.length - kk ≤ gg ∧ s8 = .int .i64 (kk : Int) ∧ wr = w.drewN q ∧ Aside0 (notYet p l kk))
 case atStart => exact ⟨0, 0, Nat.zero_le _, by omega, rfl, rfl, ⟨fun j hj => absurd hj (Nat.not_lt_zero _)⟩⟩
 case round =>
  obtain ⟨kk, q, hkk, hg, rfl, rfl, NY⟩ := hrel
  by_cases hlt : kk < l.length
  ·have hltz : (kk : Int) < (l.length : Int) := by omega
   have hk0 : (0 : Int) ≤ (kk : Int) := by omega
   obtain ⟨ad, rfl, hcell⟩ := Kd.at_int HR.out (kk : Int) hk0 hltz
   rw [Int.toNat_natCast] at hcell
   have hmem : rd l (kk : Int) ∈ l := by
    have : rd l (kk : Int) = l[kk] := by simp [rd, hlt]
    rw [this];exact List.getElem_mem hlt
   have hcall := HP.out (rd l (kk : Int)) hmem (w.drewN q) (pw_below_drewN (Below.refl _ _) q)
   generalize hx : rd l (kk : Int) = x at hcell hcall
   have HX := Aside0.mk hx
   clear hx hmem
   cases hq : p x with
   | true =>
    rw [hq] at hcall
    go_wp2_with (go_at_fn g;refine hcall.mono ?_;rintro e w' ⟨rfl, q', rfl⟩)
    go_ret
    exact ⟨⟨_, rfl, by rw [notYet_hit hlt (by rw [HX.out];exact hq)];simp⟩, _, rfl⟩
   | false =>
    rw [hq] at hcall
    go_wp2_with (go_at_fn g;refine hcall.mono ?_;rintro e w' ⟨rfl, q', rfl⟩)
    go_roundg (l.length - (kk + 1))
    case measure => omega
    case rel => exact ⟨kk + 1, _, by omega, by omega, by first | rfl | go_num, rfl, ⟨notYet_succ hlt NY.out (by rw [HX.out];exact hq)⟩⟩
  ·have hltz : ¬ (kk : Int) < (l.length : Int) := by omega
   obtain rfl : kk = l.length := by omega
   go_wp2
   go_ret
   exact ⟨⟨-1, rfl, by rw [notYet_all NY.out];rfl⟩, q, rfl⟩
theorem containsFunc_calls (g : Nat) (lb : Array Value) (eg : ∀ args w, (callFunc g args).run Tryd.prog w = .ok (.enter g args) w) (p : Int → Bool) (A : Option Addr) (c : Nat) (l : List Int) (w : World) (hr : Kd.C (Kd.int .i64) w A l.length l)
  (hp : ∀ x ∈ l, ∀ W, Below w.heap.size w W → Calls Tryd.prog g (#[.int .i64 x] ++ lb) W fun e w' => e = .returned (.bool (p x)) ∧ ∃ q, w' = W.drewN q) :
  Calls Tryd.prog 65 #[.slice A l.length c, .func (.func g) #[] lb] w fun e w' => e = .returned (.bool (l.any p)) ∧ ∃ q, w' = w.drewN q := by
 have hcon := indexFunc_calls g lb eg p A c l w hr hp
 go_enter Tryd.func65, Tryd.ntmps65
 go_wp2_with (go_at_call 89;refine hcon.mono ?_;rintro e w' ⟨⟨j, rfl, hj⟩, q, rfl⟩)
 go_ret
 exact ⟨rfl, q, rfl⟩

def hasNeg (before : List Int) (l : List Int) : Option Bool := if ∀ x ∈ l, 0 ≤ x ∧ x < (before.length : Int) then some (l.any fun x => decide (rd before x < 0)) else none
theorem hasNeg_use {before l : List Int} {b : Bool} (h : hasNeg before l = some b) : (∀ x ∈ l, 0 ≤ x ∧ x < (before.length : Int)) ∧ (l.any fun x => decide (rd before x < 0)) = b := by
 unfold hasNeg at h
 split at h
 ·rename_i hv;exact ⟨hv, Option.some.inj h⟩
 ·cases h
theorem neg_fn (gB : Nat) (A : Option Addr) (c : Nat) (before : List Int) (x : Int) (W : World) (hB : W.cell? ⟨gB, 0, none⟩ = some (.slice A before.length c)) (hC : Kd.C (Kd.int .i64) W A before.length before) (h0 : 0 ≤ x) (h1 : x < (before.length : Int)) :
  Calls Tryd.prog 66 (#[.int .i64 x] ++ #[.pointer (some ⟨gB, 0, none⟩)]) W fun e w' => e = .returned (.bool (decide (rd before x < 0))) ∧ ∃ q, w' = W.drewN q := by
 obtain ⟨ad, rfl, hx⟩ := Kd.at_int hC x h0 h1
 have p0 : (0 ≤ x) = True := eq_true h0
 have p1 : (x < (before.length : Int)) = True := eq_true h1
 clear hC h0 h1
 generalize rd before x = y at hx ⊢
 show Calls Tryd.prog 66 #[.int .i64 x, .pointer (some ⟨gB, 0, none⟩)] W _
 go_enter Tryd.func66, Tryd.ntmps66
 go_wp2
 go_ret
 exact ⟨rfl, 0, rfl⟩

theorem stop_at {W0 W : World} (hb : Below W0.heap.size W0 W) {p : Addr} {v : Value} (h : W0.cell? p = some v) : W.cell? p = some v := (hb.cell (World.block_lt_of_cell? _ _ h)).trans h
mutual
def impl_guardGame_resist.l0 : Nat → List Int → Int → Bool → Int → List (List Int) → List (List Int) → Option (List Int × Int)
 | 0, _, _, _, _, _, _ => none
 | k + 1, x3, x4, x5, x1000, x1001, x1002 => if x5 = true then ((slices_Clone_int_int.f x3).bind fun t520 => (impl_guardGame_resist.l1 k x3 x4 false x1001 (x1001.length : Int) 0 x1000 x1001 x1002 t520)) else (some (x3, x1000))
def impl_guardGame_resist.l1 : Nat → List Int → Int → Bool → List (List Int) → Int → Int → Int → List (List Int) → List (List Int) → List Int → Option (List Int × Int)
 | 0, _, _, _, _, _, _, _, _, _, _ => none
 | k + 1, x3, x4, x5, x25, x26, x27, x1000, x1001, x1002, x524000 => if x27 < x26 then (if 0 ≤ x27 then (if x27 < (x25.length : Int) then (if x27 < (x524000.length : Int) then (if (rd x524000 x27) ≥ 0 then (impl_guardGame_resist.l1 k x3 x4 x5 x25 x26 (wrap64 (x27 + 1)) x1000 x1001 x1002 x524000) else (impl_guardGame_resist.l2 k x3 x4 x5 x27 (rd_L2 x25 x27) x25 x26 x27 x1000 0 x1000 x1001 x1002 x524000)) else (none)) else (none)) else (none)) else (impl_guardGame_resist.l0 k x3 (wrap64 (x4 + 1)) x5 x1000 x1001 x1002)
def impl_guardGame_resist.l2 : Nat → List Int → Int → Bool → Int → List Int → List (List Int) → Int → Int → Int → Int → Int → List (List Int) → List (List Int) → List Int → Option (List Int × Int)
 | 0, _, _, _, _, _, _, _, _, _, _, _, _, _, _ => none
 | k + 1, x3, x4, x5, x7, x8, x25, x26, x27, x40, x41, x1000, x1001, x1002, x524000 => if x41 < x40 then ((slices_Contains_int_int.f k x8 x41).bind fun t526 => (if t526 = true then (impl_guardGame_resist.l2 k x3 x4 x5 x7 x8 x25 x26 x27 x40 (wrap64 (x41 + 1)) x1000 x1001 x1002 x524000) else ((impl_guardGame_answers.f x1000 x1001 x1002 x7 x41).bind fun bt527 => ((hasNeg x524000 bt527.1).bind fun t531 => (if t531 = true then (impl_guardGame_resist.l2 k x3 x4 x5 x7 x8 x25 x26 x27 x40 (wrap64 (x41 + 1)) bt527.2 x1001 x1002 x524000) else (if 0 ≤ x7 then (if x7 < (x3.length : Int) then (impl_guardGame_resist.l1 k (x3.set (x7 : Int).toNat x4) x4 true x25 x26 (wrap64 (x27 + 1)) bt527.2 x1001 x1002 x524000) else (none)) else (none))))))) else (impl_guardGame_resist.l1 k x3 x4 x5 x25 x26 (wrap64 (x27 + 1)) x1000 x1001 x1002 x524000)
end
def impl_guardGame_resist.f (k : Nat) (s0_0 : Int) (s0_1 : List (List Int)) (s0_2 : List (List Int)) : Option (List Int × Int) := (slices_Repeat_int_int.f (([(-1)] : List Int)) (s0_1.length : Int)).bind fun t517 => (impl_guardGame_resist.l0 k t517 0 true s0_0 s0_1 s0_2)
theorem impl_guardGame_resist.mono_l : ∀ k, (∀ y0 y1 y2 y3 y4 y5, LeO (impl_guardGame_resist.l0 k y0 y1 y2 y3 y4 y5) (impl_guardGame_resist.l0 (k + 1) y0 y1 y2 y3 y4 y5)) ∧ (∀ y0 y1 y2 y3 y4 y5 y6 y7 y8 y9, LeO (impl_guardGame_resist.l1 k y0 y1 y2 y3 y4 y5 y6 y7 y8 y9) (impl_guardGame_resist.l1 (k + 1) y0 y1 y2 y3 y4 y5 y6 y7 y8 y9)) ∧ (∀ y0 y1 y2 y3 y4 y5 y6 y7 y8 y9 y10 y11 y12 y13, LeO (impl_guardGame_resist.l2 k y0 y1 y2 y3 y4 y5 y6 y7 y8 y9 y10 y11 y12 y13) (impl_guardGame_resist.l2 (k + 1) y0 y1 y2 y3 y4 y5 y6 y7 y8 y9 y10 y11 y12 y13))
 | 0 => ⟨fun _ _ _ _ _ _ r h => by simp [impl_guardGame_resist.l0] at h, fun _ _ _ _ _ _ _ _ _ _ r h => by simp [impl_guardGame_resist.l1] at h, fun _ _ _ _ _ _ _ _ _ _ _ _ _ _ r h => by simp [impl_guardGame_resist.l2] at h⟩
 | k + 1 => by
  obtain ⟨ih0, ih1, ih2⟩ := impl_guardGame_resist.mono_l k
  refine ⟨?_, ?_, ?_⟩
  ·intro y0 y1 y2 y3 y4 y5
   unfold impl_guardGame_resist.l0
   have q0 := slices_Contains_int_int.mono
   exact lM
  ·intro y0 y1 y2 y3 y4 y5 y6 y7 y8 y9
   unfold impl_guardGame_resist.l1
   have q0 := slices_Contains_int_int.mono
   exact lM
  ·intro y0 y1 y2 y3 y4 y5 y6 y7 y8 y9 y10 y11 y12 y13
   unfold impl_guardGame_resist.l2
   have q0 := slices_Contains_int_int.mono
   exact lM
theorem impl_guardGame_resist.mono : ∀ a0 a1 a2 k, LeO (impl_guardGame_resist.f k a0 a1 a2) (impl_guardGame_resist.f (k + 1) a0 a1 a2) := by
 intro a0 a1 a2 k
 obtain ⟨ih0, ih1, ih2⟩ := impl_guardGame_resist.mono_l k
 unfold impl_guardGame_resist.f
 have q0 := slices_Contains_int_int.mono
 exact lM
theorem impl_guardGame_resist.calls (k : Nat) (g : Nat) (s0_0 : Int) (s0_1 : List (List Int)) (s0_2 : List (List Int)) (r1 : List Int) (r2 : Int) (w0 w : World) (hI : IsS61 w0 w g s0_0 s0_1 s0_2) (hB : Below w0.heap.size w0 w) (h : impl_guardGame_resist.f k s0_0 s0_1 s0_2 = some (r1, r2)) :
  Calls Tryd.prog 34 #[.pointer (some ⟨g, 0, none⟩)] w fun e w' => ∃ v0_ : Value, e = .returned (v0_) ∧ Kd.R (Kd.int .i64) 3 w' w.heap.size (fun _ => True) v0_ r1 ∧ IsS61 w0 w' g r2 s0_1 s0_2 ∧ Below w0.heap.size w0 w' ∧ KeepBut w w' g none := by
 have hu56 := Tryd.underlying56
 have HI0 := Aside0.mk hI
 have HK := aM (KeepBut.refl w g none)
 have HL := Aside0.mk hB.size
 clear hI
 have HW0 := Aside0.mk hB.size
 have HB := Aside0.mk hB
 clear hB
 have H : ((slices_Repeat_int_int.f (([(-1)] : List Int)) (s0_1.length : Int)).bind fun t517 => (impl_guardGame_resist.l0 k t517 0 true s0_0 s0_1 s0_2)) = some (r1, r2) := h
 clear h
 obtain ⟨y514, hy514⟩ : ∃ y_ : List Int, y_ = (([(-1)] : List Int)) := ⟨_, rfl⟩
 replace H : ((slices_Repeat_int_int.f y514 (s0_1.length : Int)).bind fun t517 => (impl_guardGame_resist.l0 k t517 0 true s0_0 s0_1 s0_2)) = some (r1, r2) := by first | (rw [hy514];with_reducible exact H) | (rw [hy514];with_reducible exact hB H) | with_reducible exact hB H | with_reducible exact H | (rw [hy514];exact H) | exact H
 have Ny514 := Aside0.mk hy514
 clear hy514
 replace H := bE H
 obtain ⟨t517, A20, H⟩ := H
 try dsimp only at H
 have A2 := Aside0.mk A20
 clear A20
 have H' := Aside0.mk H
 clear H
 go_enter Tryd.func34, Tryd.ntmps34
 go_wp2_with (first | ((with_reducible refine gate_dst (N := 10) rfl ?_);refine Kd.R_lit (Kd.int .i64) _ 3 ?hg (N := 10) ?hd (xs := ([(-1)] : List Int)) (inner := [.int .i64 (-1)]) (ok := fun _ => True) (okp := fun _ => True) ?hr ?hp (fun _ hk => hk) trivial (Below.refl _ _) (Nat.le_refl _) (by simp) ?_;(case hd => rfl);(case hg => rfl);(case hr => exact gS);(case hp => exact (Reps.one (show Kd.M (Kd.int .i64) _ _ _ (-1) [.int .i64 (-1)] from rfl) (Reps.none _ _)));intro v515 w3 ho4 hb hg_ hnew_;clear hg_ hnew_;(first | rw [← Ny514.out] at ho4 | (simp only [Int.reduceToNat] at ho4;rw [← Ny514.out] at ho4));have n0_ := aM (Kd.R_lower ho4 (keep_size (w := w) (g := g) (row := none) (by exact kK)));have n1_ := aM (IsS61.below (by repeat (first | (with_reducible first | exact HI0.out | apply IsS61.alloc | apply IsS61.drewN | apply IsS61.drew | apply IsS61.set_0) | exact HI0.out)) hb);have n2_ := aM (KeepBut.trans (by exact kK) (KeepBut.of_below hb g none) (.inl rfl));have n3_ := aM (below_step (by exact bB) hb);clear HI0 HK HB;have HO516 := n0_;have HI0 := n1_;have HK := n2_;have HB := n3_;clear n0_ n1_ n2_ n3_ hb ho4;obtain ⟨ASz5_1, cSz5_1, ASz5_2, cSz5_2, HGz5, hgz5, HSz5_1, HSz5_2⟩ := HI0.out;have hcz5_0 := cellS61_0 HGz5;have hcz5_1 := cellS61_1 HGz5;have hcz5_2 := cellS61_2 HGz5;have hfz5_0 := blk_frozen HGz5 0;clear HGz5 hgz5;obtain ⟨Ao6, co6, eo6⟩ := Kd.R_slice HO516.out;subst eo6) | ((with_reducible refine gate_callee (f := 64) rfl ?_);refine goesL_ (some 16) rfl rfl Tryd.func64 kR rfl #[.slice Ao6 y514.length co6, .int .i64 (s0_1.length : Int)] rfl mM ?_;(with_reducible refine (slices_Repeat_int_int.calls _ _ y514 (s0_1.length : Int) t517 _ ?side1 ?side2 A2.out).mono ?_);(case side1 => exact cP (Kd.R_reads' HO516.out).2.2);(case side2 => exact (Kd.R_reads' HO516.out).2.1);rintro e w7 ⟨v518, rfl, ho0, hb⟩;refine ⟨_, rfl, ?_⟩;have n0_ := aM (Kd.R_elder' (by exact rP HO516.out) (Kd.R_base ho0) hb);have n1_ := aM (Kd.R_lower (Kd.R_new' ho0 (Kd.R_lt (by exact rP HO516.out))) (keep_size (w := w) (g := g) (row := none) (by exact kK)));have n2_ := aM (IsS61.below (by repeat (first | (with_reducible first | exact HI0.out | apply IsS61.alloc | apply IsS61.drewN | apply IsS61.drew | apply IsS61.set_0) | exact HI0.out)) hb);have n3_ := aM (KeepBut.trans (by exact kK) (KeepBut.of_below hb g none) (.inl rfl));have n4_ := aM (below_step (by exact bB) hb);clear HO516 HI0 HK HB;have HO516 := n0_;have HO519 := n1_;have HI0 := n2_;have HK := n3_;have HB := n4_;clear n0_ n1_ n2_ n3_ n4_;(try clear hb);(try clear ho0)))
 go_loopg [4, 5] k (fun kq v4 v5 w' => ∃ (x3_1 : List Int) (x4_1 : Int) (x5_1 : Bool) (x1000_1 : Int), v4 = .int .i64 x4_1 ∧ v5 = .bool x5_1 ∧ Aside0 (impl_guardGame_resist.l0 kq x3_1 x4_1 x5_1 x1000_1 s0_1 s0_2 = some (r1, r2)) ∧ Aside0 (kq ≤ k) ∧ Aside0 (Kd.R (Kd.int .i64) 3 w' w.heap.size (fun _ => True) v518 x3_1) ∧ Aside0 (IsS61 w0 w' g x1000_1 s0_1 s0_2) ∧ Aside0 (KeepBut w w' g none) ∧ Aside0 (Below w0.heap.size w0 w'))
 case atStart => exact ⟨(t517), (0), (true), (s0_0), eF, eF, H', ⟨Nat.le_refl _⟩, ⟨by refine rP ?_;exact Kd.R_mono HO519.out (fun _ hk => trivial)⟩, ⟨by exact sS⟩, ⟨by exact kK⟩, ⟨by exact bB⟩⟩
 case round =>
  clear H'
  try clear p2
  try clear c3
  try clear c6
  try clear hcz5_0
  try clear hcz5_1
  try clear hcz5_2
  try clear hfz5_0
  obtain ⟨x3_1, x4_1, x5_1, x1000_1, rfl, rfl, HA, HK1, HO_3, HI0, HK, HB⟩ := hrel
  cases gk with
  | zero => exact absurd HA.out (by simp [impl_guardGame_resist.l0])
  | succ k1 =>
   have H := HA.out
   clear HA
   simp only [impl_guardGame_resist.l0] at H
   by_cases c8 : x5_1 = true
   rotate_left
   ·replace c8 := Bool.eq_false_iff.mpr c8
    subst c8
    rw [if_neg fF] at H
    simp only [Option.some.injEq, Prod.mk.injEq] at H
    obtain ⟨rfl, rfl⟩ := H
    go_wp2
    go_ret
    exact ⟨_, eW, by exact rP HO_3.out, by exact sS, by exact bB, by exact kK⟩
   subst c8
   rw [if_pos rfl] at H
   replace H := bE H
   obtain ⟨t520, A90, H⟩ := H
   try dsimp only at H
   have A9 := Aside0.mk A90
   clear A90
   have H' := Aside0.mk H
   clear H
   obtain ⟨Ao10, co10, eo10⟩ := Kd.R_slice HO_3.out
   subst eo10
   go_wp2_with (first | ((with_reducible refine gate_callee (f := 55) rfl ?_);refine goesL_ (some 21) rfl rfl Tryd.func55 kR rfl #[.slice Ao10 x3_1.length co10] rfl mM ?_;(with_reducible refine (slices_Clone_int_int.calls _ _ x3_1 t520 _ ?side1 ?side2 A9.out).mono ?_);(case side1 => exact cP (Kd.R_reads' HO_3.out).2.2);(case side2 => exact (Kd.R_reads' HO_3.out).2.1);rintro e w11 ⟨v521, rfl, ho0, hb⟩;refine ⟨_, rfl, ?_⟩;have n0_ := aM (Kd.R_elder' (by exact rP HO_3.out) (Kd.R_base ho0) hb);have n1_ := aM (Kd.R_lower (Kd.R_new' ho0 (Kd.R_lt (by exact rP HO_3.out))) (keep_size (w := w) (g := g) (row := none) (by exact kK)));have n2_ := aM (IsS61.below (by repeat (first | (with_reducible first | exact HI0.out | apply IsS61.alloc | apply IsS61.drewN | apply IsS61.drew | apply IsS61.set_0) | exact HI0.out)) hb);have n3_ := aM (KeepBut.trans (by exact kK) (KeepBut.of_below hb g none) (.inl rfl));have n4_ := aM (below_step (by exact bB) hb);clear HO_3 HI0 HK HB;have HO_3 := n0_;have HO522 := n1_;have HI0 := n2_;have HK := n3_;have HB := n4_;clear n0_ n1_ n2_ n3_ n4_;(try clear hb);(try clear ho0)) | ((with_reducible refine gate_dst (N := 6) rfl ?_);refine box_event ?hg (N := 6) ?hd (cs := #[.slice none 0 0]) (t := 36) ?hr ?_;(case hd => rfl);(case hg => rfl);(case hr => exact gS);intro gb523 hg w12 hbox hb;have n0_ := aM (Kd.R_below (by exact rP HO_3.out) hb);have n1_ := aM (Kd.R_below (by exact rP HO522.out) hb);have n2_ := aM (IsS61.below (by repeat (first | (with_reducible first | exact HI0.out | apply IsS61.alloc | apply IsS61.drewN | apply IsS61.drew | apply IsS61.set_0) | exact HI0.out)) hb);have n3_ := aM (KeepBut.trans (by exact kK) (KeepBut.of_below hb g none) (.inl rfl));have n4_ := aM (below_step (by exact bB) hb);have n5_ := aM (hbox);have n6_ := aM ((by rw [hg];exact (keep_size (w := w) (g := g) (row := none) (by exact kK)) : w.heap.size ≤ gb523));have n7_ := aM ((Nat.le_trans HW0.out (by rw [hg];exact (keep_size (w := w) (g := g) (row := none) (by exact kK)) : w.heap.size ≤ gb523) : w0.heap.size ≤ gb523));have n8_ := aM ((by rw [hg];exact Nat.ne_of_lt (IsS61.lt (show IsS61 w0 _ g x1000_1 s0_1 s0_2 from by exact sS)) : g ≠ gb523));have n9_ := aM ((by rw [hg];exact Nat.ne_of_gt (IsS61.lt (show IsS61 w0 _ g x1000_1 s0_1 s0_2 from by exact sS)) : gb523 ≠ g));clear HO_3 HO522 HI0 HK HB;have HO_3 := n0_;have HO522 := n1_;have HI0 := n2_;have HK := n3_;have HB := n4_;have BK523 := n5_;have GW523 := n6_;have GE523 := n7_;have NB0_523 := n8_;have NB523_0 := n9_;clear n0_ n1_ n2_ n3_ n4_ n5_ n6_ n7_ n8_ n9_ hb hbox hg;obtain ⟨Ao13, co13, eo13⟩ := Kd.R_slice HO522.out;subst eo13;have hnb14 := NB523_0.out;have hnc14 := NB0_523.out;have hcz15_0 := bC0 BK523.out;have hfz15_0 := blk_frozen BK523.out 0;obtain ⟨ASz16_1, cSz16_1, ASz16_2, cSz16_2, HGz16, hgz16, HSz16_1, HSz16_2⟩ := HI0.out;have hcz16_0 := cellS61_0 HGz16;have hcz16_1 := cellS61_1 HGz16;have hcz16_2 := cellS61_2 HGz16;have hfz16_0 := blk_frozen HGz16 0;clear HGz16 hgz16))
   go_loopg [5, 27] k1 (fun kq v5 v27 w' => ∃ (x3_2 : List Int) (x5_2 : Bool) (x27_2 : Int) (x1000_2 : Int), v5 = .bool x5_2 ∧ v27 = .int .i64 x27_2 ∧ Aside0 (impl_guardGame_resist.l1 kq x3_2 x4_1 x5_2 s0_1 (s0_1.length : Int) x27_2 x1000_2 s0_1 s0_2 t520 = some (r1, r2)) ∧ Aside0 (kq ≤ k1) ∧ Aside0 (Kd.R (Kd.int .i64) 3 w' w.heap.size (fun k_ => some k_ ≠ ((.slice Ao13 t520.length co13) : Value).ownBlock) (.slice Ao10 x3_1.length co10) x3_2) ∧ Aside0 (Kd.R (Kd.int .i64) 3 w' w.heap.size (fun k_ => some k_ ≠ ((.slice Ao10 x3_1.length co10) : Value).ownBlock) (.slice Ao13 t520.length co13) t520) ∧ Aside0 (w'.heap[gb523]? = some (.cells #[(.slice Ao13 t520.length co13)] 36 (0, 0))) ∧ Aside0 (IsS61 w0 w' g x1000_2 s0_1 s0_2) ∧ Aside0 (KeepBut w w' g none) ∧ Aside0 (Below w0.heap.size w0 w'))
   case atStart => exact ⟨(x3_1), (false), (0), (x1000_1), eF, eF, H', ⟨Nat.le_refl _⟩, ⟨by refine rP ?_;exact Kd.R_mono (Kd.R_far (p := ⟨gb523, 0, none⟩) (Kd.R_types HO_3.out BK523.out (by decide)) (fun _ hk => hk.2) (.slice Ao13 t520.length co13)) (fun _ hk => hk.1.2)⟩, ⟨by refine rP ?_;exact Kd.R_mono (Kd.R_far (p := ⟨gb523, 0, none⟩) (Kd.R_types HO522.out BK523.out (by decide)) (fun _ hk => hk.2) (.slice Ao13 t520.length co13)) (fun _ hk => hk.1.2)⟩, ⟨by refine kP ?_;refine blk_put (cs := #[.slice none 0 0]) ?_ 0 _ rfl;exact kP BK523.out⟩, ⟨by exact sS⟩, ⟨by exact kK⟩, ⟨by exact bB⟩⟩
   case round =>
    clear H'
    try clear c1
    try clear p2
    try clear c3
    try clear c5
    try clear c6
    try clear c8
    try clear c14
    try clear hcz15_0
    try clear hcz16_0
    try clear hcz16_1
    try clear hcz16_2
    try clear hcz5_0
    try clear hcz5_1
    try clear hcz5_2
    try clear hfz15_0
    try clear hfz16_0
    try clear hfz5_0
    try clear p2
    obtain ⟨x3_2, x5_2, x27_2, x1000_2, rfl, rfl, HA, HK2, HO_3, HO_524000, BK523, HI0, HK, HB⟩ := hrel
    have hl3_2 := (Kd.R_reads' HO_3.out).1
    rw [hl3_2] at HO_3
    (try simp only [hl3_2])
    (try simp only [hl3_2] at BK523)
    (try simp only [hl3_2] at HO_524000)
    cases gk with
    | zero => exact absurd HA.out (by simp [impl_guardGame_resist.l1])
    | succ k2 =>
     have H := HA.out
     clear HA
     simp only [impl_guardGame_resist.l1] at H
     by_cases c17 : x27_2 < (s0_1.length : Int)
     rotate_left
     ·rw [if_neg c17] at H
      have c17b0 : decide (x27_2 < (s0_1.length : Int)) = false := decide_eq_false c17
      (try simp only [hl3_2] at c17b0)
      clear c17
      have H' := Aside0.mk H
      clear H
      go_wp2
      (try simp only [← hl3_2])
      go_roundg k2
      case measure => have := HK1.out;have := HK2.out;omega
      case rel => exact ⟨(x3_2), (wrap64 (x4_1 + 1)), (x5_2), (x1000_2), eF, eF, H', ⟨by have := HK1.out;have := HK2.out;omega⟩, ⟨by (try simp only [hl3_2]);refine rP ?_;exact Kd.R_mono HO_3.out (fun _ hk => trivial)⟩, ⟨by exact sS⟩, ⟨by exact kK⟩, ⟨by exact bB⟩⟩
     rw [if_pos c17] at H
     have c17b0 : decide (x27_2 < (s0_1.length : Int)) = true := decide_eq_true c17
     clear c17
     by_cases c18 : 0 ≤ x27_2
     rotate_left
     ·rw [if_neg c18] at H
      exact absurd H (by simp)
     rw [if_pos c18] at H
     have c18b0 : decide (0 ≤ x27_2) = true := decide_eq_true c18
     clear c18
     by_cases c19 : x27_2 < (s0_1.length : Int)
     rotate_left
     ·rw [if_neg c19] at H
      exact absurd H (by simp)
     rw [if_pos c19] at H
     have c19b0 : decide (x27_2 < (s0_1.length : Int)) = true := decide_eq_true c19
     clear c19
     by_cases c20 : x27_2 < (t520.length : Int)
     rotate_left
     ·rw [if_neg c20] at H
      exact absurd H (by simp)
     rw [if_pos c20] at H
     have c20b0 : decide (x27_2 < (t520.length : Int)) = true := decide_eq_true c20
     clear c20
     by_cases c21 : (rd t520 x27_2) ≥ 0
     ·rw [if_pos c21] at H
      have c21b0 : decide (0 ≤ (rd t520 x27_2)) = true := decide_eq_true c21
      clear c21
      have H' := Aside0.mk H
      clear H
      obtain ⟨ASz22_1, cSz22_1, ASz22_2, cSz22_2, HGz22, hgz22, HSz22_1, HSz22_2⟩ := HI0.out
      have hcz22_0 := cellS61_0 HGz22
      have hcz22_1 := cellS61_1 HGz22
      have hcz22_2 := cellS61_2 HGz22
      have hfz22_0 := blk_frozen HGz22 0
      clear HGz22 hgz22
      have p524 : 0 ≤ (x27_2 : Int) := oA
      have q524 : x27_2 < (s0_1.length : Int) := oA
      obtain ⟨ad524, A524_0, c524_0, e524, hx524_0, hl524_0, hi524_0⟩ := at_L2 HSz16_1 x27_2 p524 q524
      cases e524
      replace hx524_0 := pw_cell_below HB.out hx524_0
      have HR524_0 := Aside0.mk hi524_0
      have HC524_0 := Aside0.mk hl524_0
      clear hi524_0 hl524_0
      replace p524 := eq_true p524
      replace q524 := eq_true q524
      have hnb23 := NB523_0.out
      have hnc23 := NB0_523.out
      have hcz24_0 := bC0 BK523.out
      have hfz24_0 := blk_frozen BK523.out 0
      have p525 : 0 ≤ (x27_2 : Int) := oA
      have q525 : x27_2 < (t520.length : Int) := oA
      obtain ⟨ad525, e525, hx525_0⟩ := Kd.at_int (Kd.R_reads' HO_524000.out).2.2 x27_2 p525 q525
      cases e525
      replace p525 := eq_true p525
      replace q525 := eq_true q525
      go_wp2
      (try simp only [← hl3_2])
      go_roundg k2
      case measure => have := HK1.out;have := HK2.out;omega
      case rel => exact ⟨(x3_2), (x5_2), (wrap64 (x27_2 + 1)), (x1000_2), eF, eF, H', ⟨by have := HK1.out;have := HK2.out;omega⟩, ⟨by (try simp only [hl3_2]);exact rP HO_3.out⟩, ⟨by (try simp only [hl3_2]);exact rP HO_524000.out⟩, ⟨by (try simp only [hl3_2]);exact kP BK523.out⟩, ⟨by exact sS⟩, ⟨by exact kK⟩, ⟨by exact bB⟩⟩
     rw [if_neg c21] at H
     have c21b0 : decide (0 ≤ (rd t520 x27_2)) = false := decide_eq_false c21
     clear c21
     have H' := Aside0.mk H
     clear H
     obtain ⟨ASz25_1, cSz25_1, ASz25_2, cSz25_2, HGz25, hgz25, HSz25_1, HSz25_2⟩ := HI0.out
     have hcz25_0 := cellS61_0 HGz25
     have hcz25_1 := cellS61_1 HGz25
     have hcz25_2 := cellS61_2 HGz25
     have hfz25_0 := blk_frozen HGz25 0
     clear HGz25 hgz25
     have p524 : 0 ≤ (x27_2 : Int) := oA
     have q524 : x27_2 < (s0_1.length : Int) := oA
     obtain ⟨ad524, A524_0, c524_0, e524, hx524_0, hl524_0, hi524_0⟩ := at_L2 HSz16_1 x27_2 p524 q524
     cases e524
     replace hx524_0 := pw_cell_below HB.out hx524_0
     have HR524_0 := Aside0.mk hi524_0
     have HC524_0 := Aside0.mk hl524_0
     clear hi524_0 hl524_0
     replace p524 := eq_true p524
     replace q524 := eq_true q524
     have hnb26 := NB523_0.out
     have hnc26 := NB0_523.out
     have hcz27_0 := bC0 BK523.out
     have hfz27_0 := blk_frozen BK523.out 0
     have p525 : 0 ≤ (x27_2 : Int) := oA
     have q525 : x27_2 < (t520.length : Int) := oA
     obtain ⟨ad525, e525, hx525_0⟩ := Kd.at_int (Kd.R_reads' HO_524000.out).2.2 x27_2 p525 q525
     cases e525
     replace p525 := eq_true p525
     replace q525 := eq_true q525
     go_wp2
     go_loopg [5, 41] k2 (fun kq v5 v41 w' => ∃ (x3_3 : List Int) (x5_3 : Bool) (x41_3 : Int) (x1000_3 : Int), v5 = .bool x5_3 ∧ v41 = .int .i64 x41_3 ∧ Aside0 (impl_guardGame_resist.l2 kq x3_3 x4_1 x5_3 x27_2 (rd_L2 s0_1 x27_2) s0_1 (s0_1.length : Int) x27_2 x1000_2 x41_3 x1000_3 s0_1 s0_2 t520 = some (r1, r2)) ∧ Aside0 (kq ≤ k2) ∧ Aside0 (Kd.R (Kd.int .i64) 3 w' w.heap.size (fun k_ => some k_ ≠ ((.slice (some ad525) t520.length co13) : Value).ownBlock) (.slice Ao10 x3_2.length co10) x3_3) ∧ Aside0 (Kd.R (Kd.int .i64) 3 w' w.heap.size (fun k_ => some k_ ≠ ((.slice Ao10 x3_2.length co10) : Value).ownBlock) (.slice (some ad525) t520.length co13) t520) ∧ Aside0 (w'.heap[gb523]? = some (.cells #[(.slice (some ad525) t520.length co13)] 36 (0, 0))) ∧ Aside0 (IsS61 w0 w' g x1000_3 s0_1 s0_2) ∧ Aside0 (KeepBut w w' g none) ∧ Aside0 (Below w0.heap.size w0 w'))
     case atStart => exact ⟨(x3_2), (x5_2), (0), (x1000_2), eF, eF, H', ⟨Nat.le_refl _⟩, ⟨by (try simp only [hl3_2]);exact rP HO_3.out⟩, ⟨by (try simp only [hl3_2]);exact rP HO_524000.out⟩, ⟨by (try simp only [hl3_2]);exact kP BK523.out⟩, ⟨by exact sS⟩, ⟨by exact kK⟩, ⟨by exact bB⟩⟩
     case round =>
      clear H'
      try clear c1
      try clear c2
      try clear p2
      try clear c3
      try clear c5
      try clear p5
      try clear q5
      try clear hx5
      try clear c6
      try clear p6
      try clear c8
      try clear c14
      try clear c17
      try clear c17b0
      try clear c18
      try clear c18b0
      try clear c19
      try clear c19b0
      try clear c20
      try clear c20b0
      try clear c21
      try clear c21b0
      try clear c23
      try clear c26
      try clear hcz15_0
      try clear hcz16_0
      try clear hcz16_1
      try clear hcz16_2
      try clear hcz22_0
      try clear hcz22_1
      try clear hcz22_2
      try clear hcz24_0
      try clear hcz25_0
      try clear hcz25_1
      try clear hcz25_2
      try clear hcz27_0
      try clear hcz5_0
      try clear hcz5_1
      try clear hcz5_2
      try clear hfz15_0
      try clear hfz16_0
      try clear hfz22_0
      try clear hfz24_0
      try clear hfz25_0
      try clear hfz27_0
      try clear hfz5_0
      try clear hx524_0
      try clear hx525_0
      try clear p2
      try clear p524
      try clear p525
      try clear q524
      try clear q525
      obtain ⟨x3_3, x5_3, x41_3, x1000_3, rfl, rfl, HA, HK3, HO_3, HO_524000, BK523, HI0, HK, HB⟩ := hrel
      have hl3_3 := (Kd.R_reads' HO_3.out).1
      rw [hl3_3] at HO_3
      (try simp only [hl3_3])
      (try simp only [hl3_3] at BK523)
      (try simp only [hl3_3] at HO_524000)
      cases gk with
      | zero => exact absurd HA.out (by simp [impl_guardGame_resist.l2])
      | succ k3 =>
       have H := HA.out
       clear HA
       simp only [impl_guardGame_resist.l2] at H
       by_cases c28 : x41_3 < x1000_2
       rotate_left
       ·rw [if_neg c28] at H
        have c28b0 : decide (x41_3 < x1000_2) = false := decide_eq_false c28
        clear c28
        have H' := Aside0.mk H
        clear H
        go_wp2
        (try simp only [← hl3_2, ← hl3_3])
        go_roundg k3
        case measure => have := HK1.out;have := HK2.out;have := HK3.out;omega
        case rel => exact ⟨(x3_3), (x5_3), (wrap64 (x27_2 + 1)), (x1000_3), eF, eF, H', ⟨by have := HK1.out;have := HK2.out;have := HK3.out;omega⟩, ⟨by (try simp only [hl3_2]);(try simp only [hl3_3]);exact rP HO_3.out⟩, ⟨by (try simp only [hl3_2]);(try simp only [hl3_3]);exact rP HO_524000.out⟩, ⟨by (try simp only [hl3_2]);(try simp only [hl3_3]);exact kP BK523.out⟩, ⟨by exact sS⟩, ⟨by exact kK⟩, ⟨by exact bB⟩⟩
       rw [if_pos c28] at H
       have c28b0 : decide (x41_3 < x1000_2) = true := decide_eq_true c28
       clear c28
       replace H := bE H
       obtain ⟨t526, A290, H⟩ := H
       try dsimp only at H
       have A29 := Aside0.mk A290
       clear A290
       by_cases c30 : t526 = true
       ·subst c30
        rw [if_pos rfl] at H
        have H' := Aside0.mk H
        clear H
        go_wp2_with (first | ((with_reducible refine gate_callee (f := 47) rfl ?_);refine goesL_ (some 46) rfl rfl Tryd.func47 kR rfl #[.slice A524_0 (rd_L2 s0_1 x27_2).length c524_0, .int .i64 x41_3] rfl mM ?_;(with_reducible refine (slices_Contains_int_int.calls k3 _ _ (rd_L2 s0_1 x27_2) x41_3 true _ ?side1 ?side2 A29.out).mono ?_);(case side1 => exact cP (Kd.C_below HR524_0.out HB.out));(case side2 => exact HC524_0.out);rintro e w' ⟨rfl, ⟨nd, rfl⟩⟩;refine ⟨_, rfl, ?_⟩))
        (try simp only [← hl3_3])
        go_roundg k3
        case measure => have := HK1.out;have := HK2.out;have := HK3.out;omega
        case rel => exact ⟨(x3_3), (x5_3), (wrap64 (x41_3 + 1)), (x1000_3), eF, eF, H', ⟨by have := HK1.out;have := HK2.out;have := HK3.out;omega⟩, ⟨by (try simp only [hl3_2]);(try simp only [hl3_3]);exact rP HO_3.out⟩, ⟨by (try simp only [hl3_2]);(try simp only [hl3_3]);exact rP HO_524000.out⟩, ⟨by (try simp only [hl3_2]);(try simp only [hl3_3]);exact kP BK523.out⟩, ⟨by exact sS⟩, ⟨by exact kK⟩, ⟨by exact bB⟩⟩
       replace c30 := Bool.eq_false_iff.mpr c30
       subst c30
       rw [if_neg fF] at H
       replace H := bE H
       obtain ⟨⟨t527, t530⟩, A310, H⟩ := H
       try dsimp only at H
       have A31 := Aside0.mk A310
       clear A310
       replace H := bE H
       obtain ⟨t531, A320, H⟩ := H
       try dsimp only at H
       have A32 := Aside0.mk A320
       clear A320
       by_cases c33 : t531 = true
       ·subst c33
        rw [if_pos rfl] at H
        have H' := Aside0.mk H
        clear H
        go_wp2_with (first | ((with_reducible refine gate_callee (f := 47) rfl ?_);refine goesL_ (some 46) rfl rfl Tryd.func47 kR rfl #[.slice A524_0 (rd_L2 s0_1 x27_2).length c524_0, .int .i64 x41_3] rfl mM ?_;(with_reducible refine (slices_Contains_int_int.calls k3 _ _ (rd_L2 s0_1 x27_2) x41_3 false _ ?side1 ?side2 A29.out).mono ?_);(case side1 => exact cP (Kd.C_below HR524_0.out HB.out));(case side2 => exact HC524_0.out);rintro e w' ⟨rfl, ⟨nd, rfl⟩⟩;refine ⟨_, rfl, ?_⟩) | (go_at_call 48;(with_reducible refine (impl_guardGame_answers.calls g x1000_3 s0_1 s0_2 x27_2 x41_3 t527 t530 w0 _ ?side1 ?side2 A31.out).mono ?_);(case side1 => exact sS);(case side2 => exact bB);rintro e w34 ⟨v528, rfl, ho0, hi, hb, hk⟩;have n0_ := aM (Kd.R_mono (Kd.R_told (Kd.R_oldK (IsS61.apart (show IsS61 w0 _ g x1000_3 s0_1 s0_2 from by exact sS) (by exact rP HO_3.out) (by decide)) hk) (Kd.R_base ho0)) (fun _ h_ => h_.1));have n1_ := aM (Kd.R_mono (Kd.R_told (Kd.R_oldK (IsS61.apart (show IsS61 w0 _ g x1000_3 s0_1 s0_2 from by exact sS) (by exact rP HO_524000.out) (by decide)) hk) (Kd.R_base ho0)) (fun _ h_ => h_.1));have n2_ := aM (KeepBut.blk hk (g' := gb523) (o := .cells #[.slice (some ad525) t520.length co13] 36 (0, 0)) (by exact kP BK523.out) NB523_0.out (by simp));have n3_ := aM (Kd.R_lower (Kd.R_new' (Kd.R_new' ho0 (Kd.R_lt (by exact rP HO_3.out))) (Kd.R_lt (by exact rP HO_524000.out))) (keep_size (w := w) (g := g) (row := none) (by exact kK)));have n4_ := aM (KeepBut.trans (by exact kK) hk (.inl rfl));have n5_ := aM (hb);have n6_ := aM (hi);clear HO_3 HO_524000 BK523 HK HB HI0;have HO_3 := n0_;have HO_524000 := n1_;have BK523 := n2_;have HO529 := n3_;have HK := n4_;have HB := n5_;have HI0 := n6_;clear n0_ n1_ n2_ n3_ n4_ n5_ n6_;(try clear hb);(try clear hk);(try clear hi);(try clear ho0);obtain ⟨Ao35, co35, eo35⟩ := Kd.R_slice HO529.out;subst eo35) | (go_at_call 65;obtain ⟨hv_, hw_⟩ := hasNeg_use A32.out;refine (containsFunc_calls 66 _ (enters_of Tryd.func66 kR rfl) (fun x => decide (rd t520 x < 0)) _ _ t527 _ ?side1 ?side2).mono ?_;(case side1 => exact cP (Kd.R_reads' HO529.out).2.2);(case side2 => intro x hx W_ hb_;exact neg_fn gb523 (some ad525) co13 t520 x W_ (stop_at hb_ ((blk_cell BK523.out 0).trans rfl)) (Kd.C_below (Kd.R_reads' HO_524000.out).2.2 hb_) (hv_ x hx).1 (hv_ x hx).2);rintro e w' ⟨he_, ⟨nd, rfl⟩⟩;rw [hw_] at he_;subst he_))
        (try simp only [← hl3_3])
        go_roundg k3
        case measure => have := HK1.out;have := HK2.out;have := HK3.out;omega
        case rel => exact ⟨(x3_3), (x5_3), (wrap64 (x41_3 + 1)), (t530), eF, eF, H', ⟨by have := HK1.out;have := HK2.out;have := HK3.out;omega⟩, ⟨by (try simp only [hl3_2]);(try simp only [hl3_3]);refine rP ?_;exact Kd.R_mono HO_3.out (fun _ hk => hk.1)⟩, ⟨by (try simp only [hl3_2]);(try simp only [hl3_3]);refine rP ?_;exact Kd.R_mono HO_524000.out (fun _ hk => hk.1)⟩, ⟨by (try simp only [hl3_2]);(try simp only [hl3_3]);exact kP BK523.out⟩, ⟨by exact sS⟩, ⟨by exact kK⟩, ⟨by exact bB⟩⟩
       replace c33 := Bool.eq_false_iff.mpr c33
       subst c33
       rw [if_neg fF] at H
       by_cases c36 : 0 ≤ x27_2
       rotate_left
       ·rw [if_neg c36] at H
        exact absurd H (by simp)
       rw [if_pos c36] at H
       have c36b0 : decide (0 ≤ x27_2) = true := decide_eq_true c36
       clear c36
       by_cases c37 : x27_2 < (x3_3.length : Int)
       rotate_left
       ·rw [if_neg c37] at H
        exact absurd H (by simp)
       rw [if_pos c37] at H
       have c37b0 : decide (x27_2 < (x3_3.length : Int)) = true := decide_eq_true c37
       clear c37
       obtain ⟨y532, hy532⟩ : ∃ y_ : List Int, y_ = (x3_3.set (x27_2 : Int).toNat x4_1) := ⟨_, rfl⟩
       replace H : (impl_guardGame_resist.l1 k3 y532 x4_1 true s0_1 (s0_1.length : Int) (wrap64 (x27_2 + 1)) t530 s0_1 s0_2 t520) = some (r1, r2) := by first | (rw [hy532];with_reducible exact H) | (rw [hy532];with_reducible exact hB H) | with_reducible exact hB H | with_reducible exact H | (rw [hy532];exact H) | exact H
       have Ny532 := Aside0.mk hy532
       clear hy532
       have H' := Aside0.mk H
       clear H
       go_wp2_with (first | ((with_reducible refine gate_callee (f := 47) rfl ?_);refine goesL_ (some 46) rfl rfl Tryd.func47 kR rfl #[.slice A524_0 (rd_L2 s0_1 x27_2).length c524_0, .int .i64 x41_3] rfl mM ?_;(with_reducible refine (slices_Contains_int_int.calls k3 _ _ (rd_L2 s0_1 x27_2) x41_3 false _ ?side1 ?side2 A29.out).mono ?_);(case side1 => exact cP (Kd.C_below HR524_0.out HB.out));(case side2 => exact HC524_0.out);rintro e w' ⟨rfl, ⟨nd, rfl⟩⟩;refine ⟨_, rfl, ?_⟩;(try (rw [drewN_self wr];generalize hq_ : World.drewN wr _ = wr;have n0_ : Aside0 (Kd.R (Kd.int .i64) 3 wr w.heap.size (fun k_ => some k_ ≠ (.slice (some ad525) t520.length co13 : Value).ownBlock) (.slice Ao10 x3_3.length co10) x3_3) := ⟨by rw [← hq_];exact (by exact rP HO_3.out)⟩;have n1_ : Aside0 (Kd.R (Kd.int .i64) 3 wr w.heap.size (fun k_ => some k_ ≠ (.slice Ao10 x3_3.length co10 : Value).ownBlock) (.slice (some ad525) t520.length co13) t520) := ⟨by rw [← hq_];exact (by exact rP HO_524000.out)⟩;have n2_ : Aside0 (wr.heap[gb523]? = some (.cells #[.slice (some ad525) t520.length co13] 36 (0, 0))) := ⟨by rw [← hq_];exact (by exact kP BK523.out)⟩;have n3_ : Aside0 (IsS61 w0 wr g x1000_3 s0_1 s0_2) := ⟨by rw [← hq_];exact (by exact sS)⟩;have n4_ : Aside0 (KeepBut w wr g none) := ⟨by rw [← hq_];exact (by exact kK)⟩;have n5_ : Aside0 (Below w0.heap.size w0 wr) := ⟨by rw [← hq_];exact (by exact bB)⟩;clear HO_3 HO_524000 BK523 HI0 HK HB hq_;have HO_3 := n0_;have HO_524000 := n1_;have BK523 := n2_;have HI0 := n3_;have HK := n4_;have HB := n5_;clear n0_ n1_ n2_ n3_ n4_ n5_))) | (go_at_call 48;(with_reducible refine (impl_guardGame_answers.calls g x1000_3 s0_1 s0_2 x27_2 x41_3 t527 t530 w0 _ ?side1 ?side2 A31.out).mono ?_);(case side1 => exact sS);(case side2 => exact bB);rintro e w39 ⟨v528, rfl, ho0, hi, hb, hk⟩;have n0_ := aM (Kd.R_mono (Kd.R_told (Kd.R_oldK (IsS61.apart (show IsS61 w0 _ g x1000_3 s0_1 s0_2 from by exact sS) (by exact rP HO_3.out) (by decide)) hk) (Kd.R_base ho0)) (fun _ h_ => h_.1));have n1_ := aM (Kd.R_mono (Kd.R_told (Kd.R_oldK (IsS61.apart (show IsS61 w0 _ g x1000_3 s0_1 s0_2 from by exact sS) (by exact rP HO_524000.out) (by decide)) hk) (Kd.R_base ho0)) (fun _ h_ => h_.1));have n2_ := aM (KeepBut.blk hk (g' := gb523) (o := .cells #[.slice (some ad525) t520.length co13] 36 (0, 0)) (by exact kP BK523.out) NB523_0.out (by simp));have n3_ := aM (Kd.R_lower (Kd.R_new' (Kd.R_new' ho0 (Kd.R_lt (by exact rP HO_3.out))) (Kd.R_lt (by exact rP HO_524000.out))) (keep_size (w := w) (g := g) (row := none) (by exact kK)));have n4_ := aM (KeepBut.trans (by exact kK) hk (.inl rfl));have n5_ := aM (hb);have n6_ := aM (hi);clear HO_3 HO_524000 BK523 HK HB HI0;have HO_3 := n0_;have HO_524000 := n1_;have BK523 := n2_;have HO529 := n3_;have HK := n4_;have HB := n5_;have HI0 := n6_;clear n0_ n1_ n2_ n3_ n4_ n5_ n6_;(try clear hb);(try clear hk);(try clear hi);(try clear ho0);obtain ⟨Ao40, co40, eo40⟩ := Kd.R_slice HO529.out;subst eo40) | (go_at_call 65;obtain ⟨hv_, hw_⟩ := hasNeg_use A32.out;refine (containsFunc_calls 66 _ (enters_of Tryd.func66 kR rfl) (fun x => decide (rd t520 x < 0)) _ _ t527 _ ?side1 ?side2).mono ?_;(case side1 => exact cP (Kd.R_reads' HO529.out).2.2);(case side2 => intro x hx W_ hb_;exact neg_fn gb523 (some ad525) co13 t520 x W_ (stop_at hb_ ((blk_cell BK523.out 0).trans rfl)) (Kd.C_below (Kd.R_reads' HO_524000.out).2.2 hb_) (hv_ x hx).1 (hv_ x hx).2);rintro e w' ⟨he_, ⟨nd, rfl⟩⟩;rw [hw_] at he_;subst he_;(try (rw [drewN_self w39];generalize hq_ : World.drewN w39 _ = w39;have n0_ : Aside0 (Kd.R (Kd.int .i64) 3 w39 w.heap.size (fun k_ => some k_ ≠ (.slice Ao10 x3_3.length co10 : Value).ownBlock ∧ some k_ ≠ (.slice (some ad525) t520.length co13 : Value).ownBlock) (.slice Ao40 t527.length co40) t527) := ⟨by rw [← hq_];exact (by refine rP ?_;exact Kd.R_mono HO529.out (fun _ hk => ⟨hk.1.2, hk.2⟩))⟩;have n1_ : Aside0 (Kd.R (Kd.int .i64) 3 w39 w.heap.size (fun k_ => some k_ ≠ (.slice Ao40 t527.length co40 : Value).ownBlock ∧ some k_ ≠ (.slice (some ad525) t520.length co13 : Value).ownBlock) (.slice Ao10 x3_3.length co10) x3_3) := ⟨by rw [← hq_];exact (by refine rP ?_;exact Kd.R_mono HO_3.out (fun _ hk => ⟨hk.2, hk.1⟩))⟩;have n2_ : Aside0 (Kd.R (Kd.int .i64) 3 w39 w.heap.size (fun k_ => some k_ ≠ (.slice Ao40 t527.length co40 : Value).ownBlock ∧ some k_ ≠ (.slice Ao10 x3_3.length co10 : Value).ownBlock) (.slice (some ad525) t520.length co13) t520) := ⟨by rw [← hq_];exact (by refine rP ?_;exact Kd.R_mono HO_524000.out (fun _ hk => ⟨hk.2, hk.1⟩))⟩;have n3_ : Aside0 (w39.heap[gb523]? = some (.cells #[.slice (some ad525) t520.length co13] 36 (0, 0))) := ⟨by rw [← hq_];exact (by exact kP BK523.out)⟩;have n4_ : Aside0 (IsS61 w0 w39 g t530 s0_1 s0_2) := ⟨by rw [← hq_];exact (by exact sS)⟩;have n5_ : Aside0 (KeepBut w w39 g none) := ⟨by rw [← hq_];exact (by exact kK)⟩;have n6_ : Aside0 (Below w0.heap.size w0 w39) := ⟨by rw [← hq_];exact (by exact bB)⟩;clear HO529 HO_3 HO_524000 BK523 HI0 HK HB hq_;have HO529 := n0_;have HO_3 := n1_;have HO_524000 := n2_;have BK523 := n3_;have HI0 := n4_;have HK := n5_;have HB := n6_;clear n0_ n1_ n2_ n3_ n4_ n5_ n6_));have p38 : 0 ≤ (x27_2 : Int) := oA;have q38 : (x27_2 : Int) < ((x3_3.length : Int) : Int) := oA;obtain ⟨go38, co38, eo38, gb38, gl38, cl38, HG38⟩ := Kd.R_form HO_3.out (by omega);(first | cases eo38 | (injection eo38 with ea_ en_ ec_;(first | subst ea_ | (injection ea_ with ea_;subst ea_));subst ec_;clear en_));have GB38 := Aside0.mk gb38;have GG38 := Aside0.mk HG38;clear gb38 gl38 HG38;obtain ⟨hx38_0, hf38_0⟩ := Kd.R_celln 0 HO_3.out (x27_2 : Int) p38 q38;replace p38 := eq_true p38;replace q38 := eq_true q38;obtain ⟨hy41_, hz41_⟩ := Kd.R_celln 0 HO_3.out (x27_2 : Int) (oA) (oA);have HP41 := Kd.R_putg HO_3.out (x27_2 : Int) x4_1) | ((with_reducible refine gate_store (t := 3) (p := 58) rfl ?_);refine store_event (t := 3) (p := 58) (v := ?vo_w42) (w1 := (w39.setCell ⟨go38, (x27_2 : Int).toNat, none⟩ (.int .i64 x4_1))) ?hg ?ho ?hn ?hr ?_;(case ho => rfl);(case hg => rfl);(case hn => rfl);(case hr => exact gS);intro w42 hw;have hg : w39.grownBy w42 (some go38) := (by rw [hw];exact HP41.2);have hp_ : Kd.R (Kd.int .i64) 3 w42 w.heap.size (fun k_ => some k_ ≠ (.slice (some ad525) t520.length co13 : Value).ownBlock ∧ some k_ ≠ (.slice Ao40 t527.length co40 : Value).ownBlock) (.slice (some ⟨go38, 0, none⟩) x3_3.length co10) y532 := (by rw [hw, Ny532.out];first | exact HP41.1 | exact Kd.R_mono HP41.1 (fun _ hk => ⟨hk.2, hk.1⟩));clear HP41;have n0_ := aM (hp_);have n1_ := aM (Kd.R_after (v := (.slice (some ⟨go38, 0, none⟩) x3_3.length co10)) (v1 := (.slice (some ⟨go38, 0, none⟩) x3_3.length co10)) (ok := (fun k_ => some k_ ≠ (.slice Ao40 t527.length co40 : Value).ownBlock)) (by exact rP (Kd.R_mono HO_524000.out (fun _ hk => by first | exact ⟨hk.2, hk.1⟩ | exact ⟨hk.2, hk.1.2⟩ | exact hk | exact hk.1 | exact hk.2 | exact ⟨hk.1.2, hk.2⟩))) hg (.inl rfl));have n2_ := aM (blk_grown (g := gb523) (o := .cells #[.slice (some ad525) t520.length co13] 36 (0, 0)) (by exact kP BK523.out) hg (Kd.R_ne HO_3.out BK523.out (by decide)));have n3_ := aM (IsS61.grown (by exact sS) hg (IsS61.own_ne HI0.out HO_3.out (by decide)));have n4_ := aM (Kd.R_after (v := (.slice (some ⟨go38, 0, none⟩) x3_3.length co10)) (v1 := (.slice (some ⟨go38, 0, none⟩) x3_3.length co10)) (ok := (fun k_ => some k_ ≠ (.slice (some ad525) t520.length co13 : Value).ownBlock)) (by exact rP (Kd.R_mono HO529.out (fun _ hk => by first | exact ⟨hk.2, hk.1⟩ | exact ⟨hk.2, hk.1.2⟩ | exact hk | exact hk.1 | exact hk.2 | exact ⟨hk.1.2, hk.2⟩))) hg (.inl rfl));have n5_ := aM ((by rw [hw];exact below_set (HB.out) (Nat.le_trans HL.out GB38.out) : Below w0.heap.size w0 w42));have n6_ := aM (KeepBut.trans (by exact kK) (KeepBut.of_grown hg g) (Kd.R_base2 HO_3.out));clear HO_3 HO_524000 BK523 HI0 HO529 HB HK;have HO_3 := n0_;have HO_524000 := n1_;have BK523 := n2_;have HI0 := n3_;have HO529 := n4_;have HB := n5_;have HK := n6_;clear n0_ n1_ n2_ n3_ n4_ n5_ n6_ hg hw hp_))
       (try simp only [← hl3_2, ← hl3_3])
       go_roundg k3
       case measure => have := HK1.out;have := HK2.out;have := HK3.out;omega
       case rel => exact ⟨(y532), (true), (wrap64 (x27_2 + 1)), (t530), eF, eF, H', ⟨by have := HK1.out;have := HK2.out;have := HK3.out;omega⟩, ⟨by (try simp only [hl3_2]);(try simp only [hl3_3]);refine rP ?_;exact Kd.R_mono HO_3.out (fun _ hk => by first | exact ⟨hk.2, hk.1⟩ | exact ⟨hk.2, hk.1.2⟩ | exact hk | exact hk.1 | exact hk.2 | exact ⟨hk.1.2, hk.2⟩)⟩, ⟨by (try simp only [hl3_2]);(try simp only [hl3_3]);refine rP ?_;exact Kd.R_mono HO_524000.out (fun _ hk => by first | exact ⟨hk.2, hk.1⟩ | exact ⟨hk.2, hk.1.2⟩ | exact hk | exact hk.1 | exact hk.2 | exact ⟨hk.1.2, hk.2⟩)⟩, ⟨by (try simp only [hl3_2]);(try simp only [hl3_3]);exact kP BK523.out⟩, ⟨by exact sS⟩, ⟨by exact kK⟩, ⟨by exact bB⟩⟩


/-! ### impl_within: function 31 -/
def impl_within.f (a0 : Int) (a1 : Int) (a2 : Int) : Option (Bool) := if a0 ≥ a1 then (some (decide (a0 ≤ a2))) else (some false)
theorem impl_within.calls (a0 : Int) (a1 : Int) (a2 : Int) (r : Bool) (w : World) (h : impl_within.f a0 a1 a2 = some r) :
  Calls Tryd.prog 31 #[.int .i64 a0, .int .i64 a1, .int .i64 a2] w fun e w' => e = .returned (.bool r) ∧ Drawn0 w w' := by
 have H : (if a0 ≥ a1 then (some (decide (a0 ≤ a2))) else (some false)) = some r := h
 clear h
 by_cases c4 : a0 ≥ a1
 rotate_left
 ·rw [if_neg c4] at H
  have c4b0 : decide (a1 ≤ a0) = false := decide_eq_false c4
  clear c4
  obtain rfl := sI H
  go_enter Tryd.func31, Tryd.ntmps31
  go_wp2
  go_ret
  exact ⟨eF, dR⟩
 rw [if_pos c4] at H
 have c4b0 : decide (a1 ≤ a0) = true := decide_eq_true c4
 clear c4
 obtain rfl := sI H
 go_enter Tryd.func31, Tryd.ntmps31
 go_wp2
 go_ret
 exact ⟨eF, dR⟩


/-! ### cmp_isNaN_int: function 93 -/
def cmp_isNaN_int.f (a0 : Int) : Option (Bool) := some (a0 != a0)
theorem cmp_isNaN_int.calls (a0 : Int) (r : Bool) (w : World) (h : cmp_isNaN_int.f a0 = some r) :
  Calls Tryd.prog 93 #[.int .i64 a0] w fun e w' => e = .returned (.bool r) ∧ Drawn0 w w' := by
 have H : (some (a0 != a0)) = some r := h
 clear h
 obtain rfl := sI H
 go_enter Tryd.func93, Tryd.ntmps93
 go_wp2
 go_ret
 exact ⟨eF, dR⟩


/-! ### cmp_Compare_int: function 82 -/
def cmp_Compare_int.f (a0 : Int) (a1 : Int) : Option (Int) := (cmp_isNaN_int.f a0).bind fun t533 => ((cmp_isNaN_int.f a1).bind fun t534 => (if t533 = true then (if t534 = true then (some 0) else (some (-1))) else (if t534 = true then (some 1) else (if a0 < a1 then (some (-1)) else (if a0 > a1 then (some 1) else (some 0))))))
theorem cmp_Compare_int.calls (a0 : Int) (a1 : Int) (r : Int) (w : World) (h : cmp_Compare_int.f a0 a1 = some r) :
  Calls Tryd.prog 82 #[.int .i64 a0, .int .i64 a1] w fun e w' => e = .returned (.int .i64 r) ∧ Drawn0 w w' := by
 have H : ((cmp_isNaN_int.f a0).bind fun t533 => ((cmp_isNaN_int.f a1).bind fun t534 => (if t533 = true then (if t534 = true then (some 0) else (some (-1))) else (if t534 = true then (some 1) else (if a0 < a1 then (some (-1)) else (if a0 > a1 then (some 1) else (some 0))))))) = some r := h
 clear h
 replace H := bE H
 obtain ⟨t533, A30, H⟩ := H
 try dsimp only at H
 have A3 := Aside0.mk A30
 clear A30
 replace H := bE H
 obtain ⟨t534, A40, H⟩ := H
 try dsimp only at H
 have A4 := Aside0.mk A40
 clear A40
 by_cases c5 : t533 = true
 ·subst c5
  rw [if_pos rfl] at H
  by_cases c6 : t534 = true
  ·subst c6
   rw [if_pos rfl] at H
   obtain rfl := sI H
   go_enter Tryd.func82, Tryd.ntmps82
   go_wp2_with (first | ((with_reducible refine gate_callee (f := 93) rfl ?_);refine goesL_ (some 8) rfl rfl Tryd.func93 kR rfl #[.int .i64 a0] rfl mM ?_;(with_reducible refine (cmp_isNaN_int.calls a0 true _ A3.out).mono ?_);rintro e w' ⟨rfl, ⟨nd, rfl⟩⟩;refine ⟨_, rfl, ?_⟩) | ((with_reducible refine gate_callee (f := 93) rfl ?_);refine goesL_ (some 10) rfl rfl Tryd.func93 kR rfl #[.int .i64 a1] rfl mM ?_;(with_reducible refine (cmp_isNaN_int.calls a1 true _ A4.out).mono ?_);rintro e w' ⟨rfl, ⟨nd, rfl⟩⟩;refine ⟨_, rfl, ?_⟩))
   go_ret
   exact ⟨eF, dR⟩
  replace c6 := Bool.eq_false_iff.mpr c6
  subst c6
  rw [if_neg fF] at H
  obtain rfl := sI H
  go_enter Tryd.func82, Tryd.ntmps82
  go_wp2_with (first | ((with_reducible refine gate_callee (f := 93) rfl ?_);refine goesL_ (some 8) rfl rfl Tryd.func93 kR rfl #[.int .i64 a0] rfl mM ?_;(with_reducible refine (cmp_isNaN_int.calls a0 true _ A3.out).mono ?_);rintro e w' ⟨rfl, ⟨nd, rfl⟩⟩;refine ⟨_, rfl, ?_⟩) | ((with_reducible refine gate_callee (f := 93) rfl ?_);refine goesL_ (some 10) rfl rfl Tryd.func93 kR rfl #[.int .i64 a1] rfl mM ?_;(with_reducible refine (cmp_isNaN_int.calls a1 false _ A4.out).mono ?_);rintro e w' ⟨rfl, ⟨nd, rfl⟩⟩;refine ⟨_, rfl, ?_⟩))
  go_ret
  exact ⟨eF, dR⟩
 replace c5 := Bool.eq_false_iff.mpr c5
 subst c5
 rw [if_neg fF] at H
 by_cases c7 : t534 = true
 ·subst c7
  rw [if_pos rfl] at H
  obtain rfl := sI H
  go_enter Tryd.func82, Tryd.ntmps82
  go_wp2_with (first | ((with_reducible refine gate_callee (f := 93) rfl ?_);refine goesL_ (some 8) rfl rfl Tryd.func93 kR rfl #[.int .i64 a0] rfl mM ?_;(with_reducible refine (cmp_isNaN_int.calls a0 false _ A3.out).mono ?_);rintro e w' ⟨rfl, ⟨nd, rfl⟩⟩;refine ⟨_, rfl, ?_⟩) | ((with_reducible refine gate_callee (f := 93) rfl ?_);refine goesL_ (some 10) rfl rfl Tryd.func93 kR rfl #[.int .i64 a1] rfl mM ?_;(with_reducible refine (cmp_isNaN_int.calls a1 true _ A4.out).mono ?_);rintro e w' ⟨rfl, ⟨nd, rfl⟩⟩;refine ⟨_, rfl, ?_⟩))
  go_ret
  exact ⟨eF, dR⟩
 replace c7 := Bool.eq_false_iff.mpr c7
 subst c7
 rw [if_neg fF] at H
 by_cases c8 : a0 < a1
 ·rw [if_pos c8] at H
  have c8b0 : decide (a0 < a1) = true := decide_eq_true c8
  clear c8
  obtain rfl := sI H
  go_enter Tryd.func82, Tryd.ntmps82
  go_wp2_with (first | ((with_reducible refine gate_callee (f := 93) rfl ?_);refine goesL_ (some 8) rfl rfl Tryd.func93 kR rfl #[.int .i64 a0] rfl mM ?_;(with_reducible refine (cmp_isNaN_int.calls a0 false _ A3.out).mono ?_);rintro e w' ⟨rfl, ⟨nd, rfl⟩⟩;refine ⟨_, rfl, ?_⟩) | ((with_reducible refine gate_callee (f := 93) rfl ?_);refine goesL_ (some 10) rfl rfl Tryd.func93 kR rfl #[.int .i64 a1] rfl mM ?_;(with_reducible refine (cmp_isNaN_int.calls a1 false _ A4.out).mono ?_);rintro e w' ⟨rfl, ⟨nd, rfl⟩⟩;refine ⟨_, rfl, ?_⟩))
  go_ret
  exact ⟨eF, dR⟩
 rw [if_neg c8] at H
 have c8b0 : decide (a0 < a1) = false := decide_eq_false c8
 clear c8
 by_cases c9 : a0 > a1
 rotate_left
 ·rw [if_neg c9] at H
  have c9b0 : decide (a1 < a0) = false := decide_eq_false c9
  clear c9
  obtain rfl := sI H
  go_enter Tryd.func82, Tryd.ntmps82
  go_wp2_with (first | ((with_reducible refine gate_callee (f := 93) rfl ?_);refine goesL_ (some 8) rfl rfl Tryd.func93 kR rfl #[.int .i64 a0] rfl mM ?_;(with_reducible refine (cmp_isNaN_int.calls a0 false _ A3.out).mono ?_);rintro e w' ⟨rfl, ⟨nd, rfl⟩⟩;refine ⟨_, rfl, ?_⟩) | ((with_reducible refine gate_callee (f := 93) rfl ?_);refine goesL_ (some 10) rfl rfl Tryd.func93 kR rfl #[.int .i64 a1] rfl mM ?_;(with_reducible refine (cmp_isNaN_int.calls a1 false _ A4.out).mono ?_);rintro e w' ⟨rfl, ⟨nd, rfl⟩⟩;refine ⟨_, rfl, ?_⟩))
  go_ret
  exact ⟨eF, dR⟩
 rw [if_pos c9] at H
 have c9b0 : decide (a1 < a0) = true := decide_eq_true c9
 clear c9
 obtain rfl := sI H
 go_enter Tryd.func82, Tryd.ntmps82
 go_wp2_with (first | ((with_reducible refine gate_callee (f := 93) rfl ?_);refine goesL_ (some 8) rfl rfl Tryd.func93 kR rfl #[.int .i64 a0] rfl mM ?_;(with_reducible refine (cmp_isNaN_int.calls a0 false _ A3.out).mono ?_);rintro e w' ⟨rfl, ⟨nd, rfl⟩⟩;refine ⟨_, rfl, ?_⟩) | ((with_reducible refine gate_callee (f := 93) rfl ?_);refine goesL_ (some 10) rfl rfl Tryd.func93 kR rfl #[.int .i64 a1] rfl mM ?_;(with_reducible refine (cmp_isNaN_int.calls a1 false _ A4.out).mono ?_);rintro e w' ⟨rfl, ⟨nd, rfl⟩⟩;refine ⟨_, rfl, ?_⟩))
 go_ret
 exact ⟨eF, dR⟩


/-! ### slices_Compare_int_int: function 59 -/
def slices_Compare_int_int.l0 : Nat → List Int → List Int → List Int → Int → Int → Option (Int)
 | 0, _, _, _, _, _ => none
 | k + 1, x0, x1, x9, x10, x11 => if x11 < x10 then (if 0 ≤ x11 then (if x11 < (x9.length : Int) then (if x11 ≥ (x1.length : Int) then (some 1) else (if x11 < (x1.length : Int) then ((cmp_Compare_int.f (rd x9 x11) (rd x1 x11)).bind fun t537 => (if t537 = 0 then (slices_Compare_int_int.l0 k x0 x1 x9 x10 (wrap64 (x11 + 1))) else (some t537))) else (none))) else (none)) else (none)) else (if (x0.length : Int) < (x1.length : Int) then (some (-1)) else (some 0))
def slices_Compare_int_int.f (k : Nat) (l0 : List Int) (l1 : List Int) : Option (Int) := slices_Compare_int_int.l0 k l0 l1 l0 (l0.length : Int) 0
theorem slices_Compare_int_int.mono_l : ∀ k, (∀ y0 y1 y2 y3 y4, LeO (slices_Compare_int_int.l0 k y0 y1 y2 y3 y4) (slices_Compare_int_int.l0 (k + 1) y0 y1 y2 y3 y4))
 | 0 => fun _ _ _ _ _ r h => by simp [slices_Compare_int_int.l0] at h
 | k + 1 => by
  have ih0 := slices_Compare_int_int.mono_l k
  ·intro y0 y1 y2 y3 y4
   unfold slices_Compare_int_int.l0
   exact lM
theorem slices_Compare_int_int.mono : ∀ a0 a1 k, LeO (slices_Compare_int_int.f k a0 a1) (slices_Compare_int_int.f (k + 1) a0 a1) := by
 intro a0 a1 k
 have ih0 := slices_Compare_int_int.mono_l k
 unfold slices_Compare_int_int.f
 exact lM
theorem slices_Compare_int_int.calls (k : Nat) (A0 : Option Addr) (c0 : Nat) (l0 : List Int) (A1 : Option Addr) (c1 : Nat) (l1 : List Int) (r : Int) (w : World) (hr0 : Kd.C (Kd.int .i64) w A0 l0.length l0) (hc0 : l0.length ≤ c0) (hr1 : Kd.C (Kd.int .i64) w A1 l1.length l1) (hc1 : l1.length ≤ c1) (h : slices_Compare_int_int.f k l0 l1 = some r) :
  Calls Tryd.prog 59 #[.slice A0 l0.length c0, .slice A1 l1.length c1] w fun e w' => e = .returned (.int .i64 r) ∧ Drawn0 w w' := by
 have HR0 := Aside0.mk hr0
 have HC0 := Aside0.mk hc0
 clear hr0 hc0
 have HR1 := Aside0.mk hr1
 have HC1 := Aside0.mk hc1
 clear hr1 hc1
 have H : (slices_Compare_int_int.l0 k l0 l1 l0 (l0.length : Int) 0) = some r := h
 clear h
 have H' := Aside0.mk H
 clear H
 go_enter Tryd.func59, Tryd.ntmps59
 go_wp2
 go_loopg [11] k (fun kq v11 w' => ∃ (x11_1 : Int), v11 = .int .i64 x11_1 ∧ Aside0 (slices_Compare_int_int.l0 kq l0 l1 l0 (l0.length : Int) x11_1 = some r) ∧ Aside0 (kq ≤ k) ∧ Drawn0 w w')
 case atStart => exact ⟨(0), eF, H', ⟨Nat.le_refl _⟩, dR⟩
 case round =>
  clear H'
  try clear c1
  try clear p2
  obtain ⟨x11_1, rfl, HA, HK1, ⟨m1, rfl⟩⟩ := hrel
  cases gk with
  | zero => exact absurd HA.out (by simp [slices_Compare_int_int.l0])
  | succ k1 =>
   have H := HA.out
   clear HA
   simp only [slices_Compare_int_int.l0] at H
   by_cases c3 : x11_1 < (l0.length : Int)
   rotate_left
   ·rw [if_neg c3] at H
    have c3b0 : decide (x11_1 < (l0.length : Int)) = false := decide_eq_false c3
    clear c3
    by_cases c10 : (l0.length : Int) < (l1.length : Int)
    rotate_left
    ·rw [if_neg c10] at H
     have c10b0 : decide ((l0.length : Int) < (l1.length : Int)) = false := decide_eq_false c10
     have c10b1 : decide (l0.length < l1.length) = false := decide_eq_false (fun h => c10 (Int.ofNat_lt.mpr h))
     clear c10
     obtain rfl := sI H
     go_wp2
     go_ret
     exact ⟨eF, dR⟩
    rw [if_pos c10] at H
    have c10b0 : decide ((l0.length : Int) < (l1.length : Int)) = true := decide_eq_true c10
    have c10b1 : decide (l0.length < l1.length) = true := decide_eq_true (Int.ofNat_lt.mp c10)
    clear c10
    obtain rfl := sI H
    go_wp2
    go_ret
    exact ⟨eF, dR⟩
   rw [if_pos c3] at H
   have c3b0 : decide (x11_1 < (l0.length : Int)) = true := decide_eq_true c3
   clear c3
   by_cases c4 : 0 ≤ x11_1
   rotate_left
   ·rw [if_neg c4] at H
    exact absurd H (by simp)
   rw [if_pos c4] at H
   have c4b0 : decide (0 ≤ x11_1) = true := decide_eq_true c4
   clear c4
   by_cases c5 : x11_1 < (l0.length : Int)
   rotate_left
   ·rw [if_neg c5] at H
    exact absurd H (by simp)
   rw [if_pos c5] at H
   have c5b0 : decide (x11_1 < (l0.length : Int)) = true := decide_eq_true c5
   clear c5
   by_cases c6 : x11_1 ≥ (l1.length : Int)
   ·rw [if_pos c6] at H
    have c6b0 : decide ((l1.length : Int) ≤ x11_1) = true := decide_eq_true c6
    clear c6
    obtain rfl := sI H
    have p535 : 0 ≤ (x11_1 : Int) := oA
    have q535 : x11_1 < (l0.length : Int) := oA
    obtain ⟨ad535, e535, hx535_0⟩ := Kd.at_int HR0.out x11_1 p535 q535
    cases e535
    replace p535 := eq_true p535
    replace q535 := eq_true q535
    go_wp2
    go_ret
    exact ⟨eF, dR⟩
   rw [if_neg c6] at H
   have c6b0 : decide ((l1.length : Int) ≤ x11_1) = false := decide_eq_false c6
   clear c6
   by_cases c7 : x11_1 < (l1.length : Int)
   rotate_left
   ·rw [if_neg c7] at H
    exact absurd H (by simp)
   rw [if_pos c7] at H
   have c7b0 : decide (x11_1 < (l1.length : Int)) = true := decide_eq_true c7
   clear c7
   replace H := bE H
   obtain ⟨t537, A80, H⟩ := H
   try dsimp only at H
   have A8 := Aside0.mk A80
   clear A80
   by_cases c9 : t537 = 0
   rotate_left
   ·rw [if_neg c9] at H
    have c9b0 : (t537 == 0) = false := beq_eq_false_iff_ne.mpr c9
    have c9b1 : (t537 != 0) = true := bne_iff_ne.mpr c9
    obtain rfl := sI H
    have p535 : 0 ≤ (x11_1 : Int) := oA
    have q535 : x11_1 < (l0.length : Int) := oA
    obtain ⟨ad535, e535, hx535_0⟩ := Kd.at_int HR0.out x11_1 p535 q535
    cases e535
    replace p535 := eq_true p535
    replace q535 := eq_true q535
    have p536 : 0 ≤ (x11_1 : Int) := oA
    have q536 : x11_1 < (l1.length : Int) := oA
    obtain ⟨ad536, e536, hx536_0⟩ := Kd.at_int HR1.out x11_1 p536 q536
    cases e536
    replace p536 := eq_true p536
    replace q536 := eq_true q536
    go_wp2_with (first | ((with_reducible refine gate_callee (f := 82) rfl ?_);refine goesL_ (some 26) rfl rfl Tryd.func82 kR rfl #[.int .i64 (rd l0 x11_1), .int .i64 (rd l1 x11_1)] rfl mM ?_;(with_reducible refine (cmp_Compare_int.calls (rd l0 x11_1) (rd l1 x11_1) t537 _ A8.out).mono ?_);rintro e w' ⟨rfl, ⟨nd, rfl⟩⟩;refine ⟨_, rfl, ?_⟩))
    go_ret
    exact ⟨eF, dR⟩
   rw [if_pos c9] at H
   have c9b0 : (t537 == 0) = true := beq_iff_eq.mpr c9
   have c9b1 : (t537 != 0) = false := bne_eq_false_iff_eq.mpr c9
   clear c9
   have H' := Aside0.mk H
   clear H
   have p535 : 0 ≤ (x11_1 : Int) := oA
   have q535 : x11_1 < (l0.length : Int) := oA
   obtain ⟨ad535, e535, hx535_0⟩ := Kd.at_int HR0.out x11_1 p535 q535
   cases e535
   replace p535 := eq_true p535
   replace q535 := eq_true q535
   have p536 : 0 ≤ (x11_1 : Int) := oA
   have q536 : x11_1 < (l1.length : Int) := oA
   obtain ⟨ad536, e536, hx536_0⟩ := Kd.at_int HR1.out x11_1 p536 q536
   cases e536
   replace p536 := eq_true p536
   replace q536 := eq_true q536
   go_wp2_with (first | ((with_reducible refine gate_callee (f := 82) rfl ?_);refine goesL_ (some 26) rfl rfl Tryd.func82 kR rfl #[.int .i64 (rd l0 x11_1), .int .i64 (rd l1 x11_1)] rfl mM ?_;(with_reducible refine (cmp_Compare_int.calls (rd l0 x11_1) (rd l1 x11_1) t537 _ A8.out).mono ?_);rintro e w' ⟨rfl, ⟨nd, rfl⟩⟩;refine ⟨_, rfl, ?_⟩))
   go_roundg k1
   case measure => have := HK1.out;omega
   case rel => exact ⟨(wrap64 (x11_1 + 1)), eF, H', ⟨by have := HK1.out;omega⟩, dR⟩


end Go.Proofs.YtgahlimikndecaaDoor.QPlayAttacks
