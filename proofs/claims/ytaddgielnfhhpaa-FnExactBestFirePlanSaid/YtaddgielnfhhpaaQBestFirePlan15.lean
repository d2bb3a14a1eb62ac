import Derived.Test.YtaddgielnfhhpaaQBestFirePlan0
import Derived.Test.YtaddgielnfhhpaaQBestFirePlan13
import Derived.Test.YtaddgielnfhhpaaQBestFirePlan14
namespace Go.Proofs.Ytaddgielnfhhpaa.QBestFirePlan
open Go.RowKit Go.Proofs.YtaddgielnfhhpaaW.PrintWords Go.Proofs.YtaddgielnfhhpaaW.PrintLast Go.Proofs.YtaddgielnfhhpaaW.PrintMore
attribute [local go_sem] max2_int min2_int max_two min_two max_three min_three max_four min_four   -- for this text's walks alone
set_option linter.unusedVariables false
set_option linter.unusedSimpArgs false
/-! ### impl_net_fightFire: function 52 -/
section
open Classical
variable {P : Program} {ops : Array Oper} {rest : List Oper} {o : Oper} {a : Act} {Q : Exit → Act → World → Prop} {Kc : Act → World → Prop} {α : Type}
/-- A list of one row: the row's blocks are okp. -/
theorem S_lit1 (d : Kd α) {W : World} (base e : Nat) (hgd : o.guard = none) {N' : Tmp} (_hd : o.dst = some N') {xs : List α} {inner : List Value} {ok okp : Nat → Prop}
  (hrun : (execOp a.eval o).run P W = .ok (.value (.slice (some ⟨W.heap.size, 0, none⟩) xs.length xs.length)) (W.alloc (.cells inner.toArray e)))
  (hrep : Reps (d.M W base okp) d.sz xs inner) (h1 : xs.length = 1) (hok : ∀ k, okp k → ok k) (hfresh : ok W.heap.size) (hbase : base ≤ W.heap.size)
  (h : ∀ v1 w1, Kd.S d e w1 base ok v1 xs → Below W.heap.size W w1 → (∀ k, v1.ownBlock = some k → W.heap.size ≤ k) → wpList P ops Q rest (a.put o.dst v1) w1) : wpList P ops Q (o :: rest) a W := by
 refine Kd.R_lit (Kd.tag (fun _ => 0) d) base e hgd _hd (xs := xs.zipIdx) (inner := inner) (ok := ok) (okp := okp) (by rw [List.length_zipIdx];exact hrun) ⟨by rw [List.length_zipIdx];exact hrep.1, fun j p hj => ?_⟩ hok hfresh (w0 := W) (Below.refl _ _) hbase (by rw [List.length_zipIdx];omega) (fun v1 w1 hr hb hg hn => h v1 w1 ⟨_, hr⟩ ⟨hg.os, hg.tape, hg.output, hg.size, fun k hk => hg.block k hk (by simp)⟩ (fun k hk => by obtain ⟨b, h2, h3⟩ := hn;rw [h2] at hk;injection hk with hk;omega))
 rw [List.getElem?_zipIdx, Nat.zero_add] at hj
 obtain ⟨x, hx, rfl⟩ := Option.map_eq_some_iff.1 hj
 have hl : j < xs.length := (List.getElem?_eq_some_iff.1 hx).1
 exact d.M_mono (fun k hk => ⟨hk, by show 0 = j;omega⟩) (hrep.2 j x hx)
/-- append(v, ys...) where ys is the call's own, too, and its blocks are none of v's. -/
theorem S_append_own (d : Kd α) {w0 W : World} (base : Nat) (hgd : o.guard = none) (s x : Operand) (t e : TypeId) (z : Value) (bytes : Nat)
  (ho : o.op = .call { callee := .builtin .append, args := #[s, x], argTypes := #[t, t] })
  (ht : P.underlying t = some (.slice e)) (hinfo : (P.info? e).map (fun i => (i.zero, i.size, i.bytes)) = some (some z, d.sz, bytes)) (hz : z.cells.size = d.sz) (hs0 : 0 < d.sz) (hb0 : 0 < bytes)
  (v : Value) (xs ys : List α) (A : Option Addr) (m c : Nat) (ok okp : Nat → Prop) (hs : a.eval s = v) (hx : a.eval x = .slice A m c)
  (HO : Kd.S d e W base (fun k => ok k ∧ ¬ okp k) v xs) (HU : Kd.S d e W base okp (.slice A m c) ys) (hokp : ∀ k, okp k → ok k) (hfresh : ∀ k, W.heap.size ≤ k → ok k)
  (HB : Below base w0 W) (hbase : base ≤ W.heap.size) (hl : (xs.length + m) * bytes ≤ 140737488355328)
  (h : ∀ v1 w1, Kd.S d e w1 base ok v1 (xs ++ ys) → Below base w0 w1 → W.grownBy w1 v.ownBlock → (v1.ownBlock = v.ownBlock ∨ ∃ b, v1.ownBlock = some b ∧ W.heap.size ≤ b) → wpList P ops Q rest (a.put o.dst v1) w1) :
  wpList P ops Q (o :: rest) a W := by
 obtain ⟨f, hf⟩ := HO
 obtain ⟨g, hg⟩ := HU
 have h1 : (Kd.tag (fun k => if okp k then xs.length + g k else f k) d).R e W base ok v xs.zipIdx := Kd.R_mono (Kd.R_tag hf (fun k hk _ => if_neg hk.2)) (fun _ hk => hk.1)
 have hv : ∀ k, okp k → some k ≠ v.ownBlock := fun k hk he => (hf.1 k he.symm).2 hk
 obtain ⟨A', c', he, _, hr⟩ := OwnRow.reads hg.2
 injection he with hA hm hc
 subst hA hc
 rw [List.length_zipIdx] at hm hr
 subst hm
 refine Kd.R_append_rows (Kd.tag (fun k => if okp k then xs.length + g k else f k) d) (Rr := (Kd.tag (fun k => if okp k then xs.length + g k else f k) d).M W base okp) base hgd s x t e z bytes ho ht hinfo hz hs0 hb0 v xs.zipIdx (ys.zipIdx xs.length) A ys.length c ok okp hs hx h1
  ⟨by rw [List.length_zipIdx], hr.2.1, fun hn => ?_⟩ (fun _ _ hM => hM) (fun k hk => ⟨hokp k hk, hv k hk⟩) hfresh HB hbase (by rw [List.length_zipIdx];exact hl) (fun v1 w1 hr1 => ?_)
 ·obtain ⟨ad, e1, hc1⟩ := hr.2.2 hn
  refine ⟨ad, e1, fun j p hj => ?_⟩
  rw [List.getElem?_zipIdx] at hj
  obtain ⟨y, hy, rfl⟩ := Option.map_eq_some_iff.1 hj
  obtain ⟨cs, h2, h3, h4⟩ := hc1 j (y, j) (Kd.zip_at hy)
  exact ⟨cs, h2, d.M_mono (fun k hk => ⟨hk.1.1, by show (if okp k then xs.length + g k else f k) = xs.length + j;rw [if_pos hk.1.1];have : g k = j := hk.2;omega⟩) h3, h4⟩
 ·rw [show xs.zipIdx ++ ys.zipIdx xs.length = (xs ++ ys).zipIdx from by rw [List.zipIdx_append, Nat.zero_add]] at hr1
  exact h v1 w1 ⟨_, hr1⟩
end
section
variable {P : Program} {ops : Array Oper} {rest : List Oper} {o : Oper} {a : Act} {Q : Exit → Act → World → Prop} {α β : Type}
theorem plan_split {d : Kd α} {d' : Kd β} {e e' base : Nat} {ok okl : Nat → Prop} {W w1 : World} {v u : Value} {r : List α} {row : List β} (ho : Kd.S d e w1 W.heap.size ok v r) (hl : d'.R e' W base okl u row) (hb : Below W.heap.size W w1) (hle : base ≤ W.heap.size) :
  ∃ b0 b1 : Nat, b0 = W.heap.size ∧ Kd.S d e w1 base (fun k => b0 ≤ k ∧ k < b1) v r ∧ d'.R e' w1 base (fun k => okl k ∧ k < b0) u row ∧ b1 = w1.heap.size :=
 ⟨W.heap.size, w1.heap.size, rfl, Kd.S_lower (Kd.S_mono (Kd.S_bound ho) (fun _ hk => ⟨hk.2.1, hk.2.2.1⟩)) hle, Kd.R_below (Kd.R_mono (Kd.R_bound hl) (fun _ hk => ⟨hk.1, hk.2.2.1⟩)) hb, rfl⟩
theorem M_slice_open {d : Kd α} {e base : Nat} {ok : Nat → Prop} {w : World} {l : List α} {cs : List Value} (h : (Kd.slice e d).M w base ok l cs) : ∃ A c, cs = [.slice A l.length c] ∧ l.length ≤ c ∧ d.R e w base ok (.slice A l.length c) l := by
 obtain ⟨v, rfl, h⟩ := h
 obtain ⟨A, c, rfl, hl, _⟩ := Kd.R_reads h
 exact ⟨A, c, rfl, hl, h⟩
theorem Kd.S_afterv {d : Kd α} {e base : Nat} {ok : Nat → Prop} {W w1 : World} {u v v1 : Value} {xs : List α} (h : Kd.S d e W base (fun k => ok k ∧ some k ≠ v.ownBlock) u xs) (hg : W.grownBy w1 v.ownBlock) (hat : v1.ownBlock = v.ownBlock ∨ ∃ b, v1.ownBlock = some b ∧ W.heap.size ≤ b) : Kd.S d e w1 base (fun k => ok k ∧ some k ≠ v1.ownBlock) u xs := Kd.S_after h hg hat
theorem Kd.R_afterv {d : Kd α} {e base : Nat} {ok : Nat → Prop} {W w1 : World} {u v v1 : Value} {xs : List α} (h : d.R e W base (fun k => ok k ∧ some k ≠ v.ownBlock) u xs) (hg : W.grownBy w1 v.ownBlock) (hat : v1.ownBlock = v.ownBlock ∨ ∃ b, v1.ownBlock = some b ∧ W.heap.size ≤ b) : d.R e w1 base (fun k => ok k ∧ some k ≠ v1.ownBlock) u xs := Kd.R_after h hg hat
end

mutual
def impl_net_fightFire.l0 : Nat → Int → Int → List (List Int) → List (List Int) → Int → Int → List Int → Int → Int → Option (Int × (List (List Int)))
 | 0, _, _, _, _, _, _, _, _, _ => none
 | k + 1, x2, x9, x10, x41, x42, x43, x330000, x331000, x331001 => if x43 < x42 then (if 0 ≤ x43 then (if x43 < (x41.length : Int) then ((impl_maskOf.f k (rd_L2 x41 x43)).bind fun t342 => ((impl_net_threatened.f k x330000 x331000 (Go.bits .or .i64 x331001 t342)).bind fun t344 => ((impl_net_fightFire.f k x330000 (Go.bits .or .i64 x331000 t344) (Go.bits .or .i64 x331001 t342) x2).bind fun bt345 => (if bt345.1 > x9 then ((some (([rd_L2 x41 x43] : List (List Int)) : List (List Int))).bind fun y349 => (if y349.length + bt345.2.length < 5864062014805 then (impl_net_fightFire.l0 k x2 bt345.1 (y349 ++ bt345.2) x41 x42 (wrap64 (x43 + 1)) x330000 x331000 x331001) else (none))) else (impl_net_fightFire.l0 k x2 x9 x10 x41 x42 (wrap64 (x43 + 1)) x330000 x331000 x331001))))) else (none)) else (none)) else (some (x9, x10))
def impl_net_fightFire.f : Nat → List Int → Int → Int → Int → Option (Int × (List (List Int)))
 | 0, _, _, _, _ => none
 | k + 1, l0_0, a1_0, a1_1, a2 => (impl_net_threatened.f k l0_0 a1_0 a1_1).bind fun t331 => (if t331 = 0 then ((impl_net_size.f l0_0).bind fun t332 => ((bits_OnesCount.f (IntKind.u64.wrap (a1_0))).bind fun t333 => (some (wrap64 (t332 - t333), ([] : List (List Int)))))) else ((impl_net_all.f l0_0).bind fun t334 => ((impl_setOf.f k (Go.bits .andNot .i64 (Go.bits .andNot .i64 t334 a1_0) a1_1)).bind fun t335 => ((impl_subsetsOf.f k t335 (mn a2 (t335.length : Int))).bind fun t338 => (impl_net_fightFire.l0 k a2 (-1) ([] : List (List Int)) t338 (t338.length : Int) 0 l0_0 a1_0 a1_1)))))
end
theorem impl_net_fightFire.mono_l : ∀ k, (∀ y0 y1 y2 y3, LeO (impl_net_fightFire.f k y0 y1 y2 y3) (impl_net_fightFire.f (k + 1) y0 y1 y2 y3)) ∧ (∀ y0 y1 y2 y3 y4 y5 y6 y7 y8, LeO (impl_net_fightFire.l0 k y0 y1 y2 y3 y4 y5 y6 y7 y8) (impl_net_fightFire.l0 (k + 1) y0 y1 y2 y3 y4 y5 y6 y7 y8))
 | 0 => ⟨fun _ _ _ _ r h => by simp [impl_net_fightFire.f] at h, fun _ _ _ _ _ _ _ _ _ r h => by simp [impl_net_fightFire.l0] at h⟩
 | k + 1 => by
  obtain ⟨ih0, ih1⟩ := impl_net_fightFire.mono_l k
  refine ⟨?_, ?_⟩
  ·intro y0 y1 y2 y3
   unfold impl_net_fightFire.f
   repeat' first
   | (with_reducible exact ih0 _ _ _ _)
   | (with_reducible exact ih1 _ _ _ _ _ _ _ _ _)
   | (with_reducible exact impl_maskOf.mono _ _)
   | (with_reducible exact impl_net_threatened.mono _ _ _ _)
   | (with_reducible exact impl_setOf.mono _ _)
   | (with_reducible exact impl_subsetsOf.mono _ _ _)
   | (with_reducible exact LeO.refl _)
   | (with_reducible exact LeO.none _)
   | (with_reducible refine LeO.ite ?_ ?_)
   | (with_reducible refine LeO.bind ?_ (fun _ => ?_))
   | exact ih0 _ _ _ _
   | exact ih1 _ _ _ _ _ _ _ _ _
   | exact impl_maskOf.mono _ _
   | exact impl_net_threatened.mono _ _ _ _
   | exact impl_setOf.mono _ _
   | exact impl_subsetsOf.mono _ _ _
   | exact LeO.none _
   | refine LeO.ite ?_ ?_
   | refine LeO.bind ?_ (fun _ => ?_)
  ·intro y0 y1 y2 y3 y4 y5 y6 y7 y8
   unfold impl_net_fightFire.l0
   repeat' first
   | (with_reducible exact ih0 _ _ _ _)
   | (with_reducible exact ih1 _ _ _ _ _ _ _ _ _)
   | (with_reducible exact impl_maskOf.mono _ _)
   | (with_reducible exact impl_net_threatened.mono _ _ _ _)
   | (with_reducible exact impl_setOf.mono _ _)
   | (with_reducible exact impl_subsetsOf.mono _ _ _)
   | (with_reducible exact LeO.refl _)
   | (with_reducible exact LeO.none _)
   | (with_reducible refine LeO.ite ?_ ?_)
   | (with_reducible refine LeO.bind ?_ (fun _ => ?_))
   | exact ih0 _ _ _ _
   | exact ih1 _ _ _ _ _ _ _ _ _
   | exact impl_maskOf.mono _ _
   | exact impl_net_threatened.mono _ _ _ _
   | exact impl_setOf.mono _ _
   | exact impl_subsetsOf.mono _ _ _
   | exact LeO.none _
   | refine LeO.ite ?_ ?_
   | refine LeO.bind ?_ (fun _ => ?_)
theorem impl_net_fightFire.mono : ∀ a0 a1 a2 a3 k, LeO (impl_net_fightFire.f k a0 a1 a2 a3) (impl_net_fightFire.f (k + 1) a0 a1 a2 a3) := by
 intro a0 a1 a2 a3 k
 obtain ⟨ih0, ih1⟩ := impl_net_fightFire.mono_l k
 exact ih0 a0 a1 a2 a3
def impl_net_fightFire.T2 : Bool × List (List Nat × List Nat) := (true, [([], []), ([0], [0]), ([], []), ([2], [2]), ([3], [3]), ([4, 1], [4]), ([1, 5], [1, 5]), ([6, 5, 0, 1, 2, 3, 4, 5, 6], [6]), ([7, 0, 1, 2, 3, 4, 5, 6, 7], [])])
def impl_net_fightFire.B2 : List Nat := [0, 1, 0, 4, 12, 31, 63, 127, 255]
theorem impl_net_fightFire.tab2 : rtab .any (opsOf Try.f52 2) = impl_net_fightFire.T2 := by kernel_rfl
theorem impl_net_fightFire.bits2 : waitsOk impl_net_fightFire.T2.2 impl_net_fightFire.B2 = true := by kernel_rfl
def impl_net_fightFire.T3 : Bool × List (List Nat × List Nat) := (true, [([], []), ([0], [0]), ([], []), ([2], [2]), ([1, 3], [1, 3]), ([], []), ([5], [5]), ([4, 6], [4, 6]), ([7, 1], [7]), ([8, 8, 0, 1, 2, 3, 4, 5, 6, 7, 8], [8])])
def impl_net_fightFire.B3 : List Nat := [0, 1, 0, 4, 15, 0, 32, 127, 255, 511]
theorem impl_net_fightFire.tab3 : rtab .any (opsOf Try.f52 3) = impl_net_fightFire.T3 := by kernel_rfl
theorem impl_net_fightFire.bits3 : waitsOk impl_net_fightFire.T3.2 impl_net_fightFire.B3 = true := by kernel_rfl
def impl_net_fightFire.T8 : Bool × List (List Nat × List Nat) := (true, [([], []), ([0], [0]), ([], []), ([2], [2]), ([], []), ([4], [4]), ([3, 5], [3, 5]), ([1, 6], [1, 6]), ([], []), ([8, 7, 5, 0, 1, 2, 3, 4, 5, 6, 7, 8], [7, 8])])
def impl_net_fightFire.B8 : List Nat := [0, 1, 0, 4, 0, 16, 60, 127, 0, 511]
theorem impl_net_fightFire.tab8 : rtab .any (opsOf Try.f52 8) = impl_net_fightFire.T8 := by kernel_rfl
theorem impl_net_fightFire.bits8 : waitsOk impl_net_fightFire.T8.2 impl_net_fightFire.B8 = true := by kernel_rfl
def impl_net_fightFire.T9 : Bool × List (List Nat × List Nat) := (true, [([], []), ([0], [0]), ([], []), ([], []), ([2, 3], [2, 3]), ([1, 4], [1, 4]), ([0, 1, 2, 3, 4, 5], []), ([6, 5, 4, 0, 1, 2, 3, 4, 5], [5, 6])])
def impl_net_fightFire.B9 : List Nat := [0, 1, 0, 0, 12, 31, 63, 127]
theorem impl_net_fightFire.tab9 : rtab .any (opsOf Try.f52 9) = impl_net_fightFire.T9 := by kernel_rfl
theorem impl_net_fightFire.bits9 : waitsOk impl_net_fightFire.T9.2 impl_net_fightFire.B9 = true := by kernel_rfl
set_option maxHeartbeats 8000000 in
set_option maxRecDepth 100000 in
theorem impl_net_fightFire.calls (k : Nat) : ∀ (A0_0 : Option Addr) (c0_0 : Nat) (l0_0 : List Int) (a1_0 : Int) (a1_1 : Int) (a2 : Int) (r1 : Int) (r2 : List (List Int)) (w : World) (hr0_0 : Kd.C (Kd.int .i64) w A0_0 l0_0.length l0_0) (hc0_0 : l0_0.length ≤ c0_0) (h : impl_net_fightFire.f k l0_0 a1_0 a1_1 a2 = some (r1, r2)),
  Calls Try.prog 52 #[.agg #[.slice A0_0 l0_0.length c0_0], .agg #[.int .i64 a1_0, .int .i64 a1_1], .int .i64 a2] w fun e w' => ∃ v1_ : Value, e = .returned (.tuple #[.int .i64 r1, v1_]) ∧ Kd.S (Kd.slice 3 (Kd.int .i64)) 25 w' w.heap.size (fun k_ => (w.heap.size ≤ k_)) v1_ r2 ∧ Below w.heap.size w w' := by
 induction k using Nat.strongRecOn with
 | _ k ih =>
 intro A0_0 c0_0 l0_0 a1_0 a1_1 a2 r1 r2 w hr0_0 hc0_0 h
 cases k with
 | zero => exact absurd h (by simp [impl_net_fightFire.f])
 | succ k =>
 simp only [impl_net_fightFire.f] at h
 have hu56 := Try.underlying56
 have hu74 := Try.underlying74
 have HR0_0 := Aside0.mk hr0_0
 have HC0_0 := Aside0.mk hc0_0
 clear hr0_0 hc0_0
 have HB := Aside0.mk (Below.refl w.heap.size w)
 have H : ((impl_net_threatened.f k l0_0 a1_0 a1_1).bind fun t331 => (if t331 = 0 then ((impl_net_size.f l0_0).bind fun t332 => ((bits_OnesCount.f (IntKind.u64.wrap (a1_0))).bind fun t333 => (some (wrap64 (t332 - t333), ([] : List (List Int)))))) else ((impl_net_all.f l0_0).bind fun t334 => ((impl_setOf.f k (Go.bits .andNot .i64 (Go.bits .andNot .i64 t334 a1_0) a1_1)).bind fun t335 => ((impl_subsetsOf.f k t335 (mn a2 (t335.length : Int))).bind fun t338 => (impl_net_fightFire.l0 k a2 (-1) ([] : List (List Int)) t338 (t338.length : Int) 0 l0_0 a1_0 a1_1)))))) = some (r1, r2) := h
 clear h
 replace H := Option.bind_eq_some_iff.mp H
 obtain ⟨t331, A40, H⟩ := H
 replace H : (if t331 = 0 then ((impl_net_size.f l0_0).bind fun t332 => ((bits_OnesCount.f (IntKind.u64.wrap (a1_0))).bind fun t333 => (some (wrap64 (t332 - t333), ([] : List (List Int)))))) else ((impl_net_all.f l0_0).bind fun t334 => ((impl_setOf.f k (Go.bits .andNot .i64 (Go.bits .andNot .i64 t334 a1_0) a1_1)).bind fun t335 => ((impl_subsetsOf.f k t335 (mn a2 (t335.length : Int))).bind fun t338 => (impl_net_fightFire.l0 k a2 (-1) ([] : List (List Int)) t338 (t338.length : Int) 0 l0_0 a1_0 a1_1))))) = some (r1, r2) := H
 have A4 := Aside0.mk A40
 clear A40
 by_cases c5 : t331 = 0
 ·rw [if_pos c5] at H
  have c5b0 : (t331 == 0) = true := beq_iff_eq.mpr c5
  have c5b1 : (t331 != 0) = false := bne_eq_false_iff_eq.mpr c5
  clear c5
  replace H := Option.bind_eq_some_iff.mp H
  obtain ⟨t332, A60, H⟩ := H
  replace H : ((bits_OnesCount.f (IntKind.u64.wrap (a1_0))).bind fun t333 => (some (wrap64 (t332 - t333), ([] : List (List Int))))) = some (r1, r2) := H
  have A6 := Aside0.mk A60
  clear A60
  replace H := Option.bind_eq_some_iff.mp H
  obtain ⟨t333, A70, H⟩ := H
  replace H : (some (wrap64 (t332 - t333), ([] : List (List Int)))) = some (r1, r2) := H
  have A7 := Aside0.mk A70
  clear A70
  simp only [Option.some.injEq, Prod.mk.injEq] at H
  obtain ⟨rfl, rfl⟩ := H
  go_enter Try.func52, Try.ntmps52
  try go_wp2_with (first | ((with_reducible refine gate_dst (N := 3) rfl ?_);refine box_event ?hg (N := 3) ?hd (cs := #[.slice A0_0 l0_0.length c0_0]) (t := 56) ?hr ?_;(case hd => rfl);(case hg => rfl);(case hr => first | (go_simp;done) | (go_simp;rfl));intro gb329 hg w8 hbox hb;have n0_ := Aside0.mk (below_step (by exact bB) hb);have n1_ := Aside0.mk (hbox);have n2_ := Aside0.mk ((by rw [hg];exact (below_size (by exact bB)) : w.heap.size ≤ gb329));have n3_ := Aside0.mk ((by rw [hg];exact (below_size (by exact bB)) : w.heap.size ≤ gb329));clear HB;have HB := n0_;have BK329 := n1_;have GW329 := n2_;have GE329 := n3_;clear n0_ n1_ n2_ n3_;clear hb hbox hg) | ((with_reducible refine gate_dst (N := 4) rfl ?_);refine box_event ?hg (N := 4) ?hd (cs := #[.int .i64 a1_0, .int .i64 a1_1]) (t := 74) ?hr ?_;(case hd => rfl);(case hg => rfl);(case hr => first | (go_simp;done) | (go_simp;rfl));intro gb330 hg w9 hbox hb;have n0_ := Aside0.mk (blk_below (g := gb329) (o := .cells #[.slice A0_0 l0_0.length c0_0] 56 (0, 0)) (by exact kP BK329.out) hb);have n1_ := Aside0.mk (below_step (by exact bB) hb);have n2_ := Aside0.mk (hbox);have n3_ := Aside0.mk ((by rw [hg];exact (below_size (by exact bB)) : w.heap.size ≤ gb330));have n4_ := Aside0.mk ((by rw [hg];exact (below_size (by exact bB)) : w.heap.size ≤ gb330));have n5_ := Aside0.mk ((by rw [hg];exact Nat.ne_of_lt (blk_lt (g := gb329) (o := .cells #[.slice A0_0 l0_0.length c0_0] 56 (0, 0)) (by exact kP BK329.out)) : gb329 ≠ gb330));have n6_ := Aside0.mk ((by rw [hg];exact Nat.ne_of_gt (blk_lt (g := gb329) (o := .cells #[.slice A0_0 l0_0.length c0_0] 56 (0, 0)) (by exact kP BK329.out)) : gb330 ≠ gb329));clear BK329;clear HB;have BK329 := n0_;have HB := n1_;have BK330 := n2_;have GW330 := n3_;have GE330 := n4_;have NB329_330 := n5_;have NB330_329 := n6_;clear n0_ n1_ n2_ n3_ n4_ n5_ n6_;clear hb hbox hg;have hnb10 := NB329_330.out;have hnc10 := NB330_329.out;have hcz11_0 : w9.cell? ⟨gb329, 0, none⟩ = some (.slice A0_0 l0_0.length c0_0) := (blk_cell BK329.out 0).trans rfl;have hfz11_0 := blk_frozen BK329.out 0;have hcz12_0 : w9.cell? ⟨gb330, 0, none⟩ = some (.int .i64 a1_0) := (blk_cell BK330.out 0).trans rfl;have hcz12_1 : w9.cell? ⟨gb330, 1, none⟩ = some (.int .i64 a1_1) := (blk_cell BK330.out 1).trans rfl;have hfz12_0 := blk_frozen BK330.out 0;have hfz12_1 := blk_frozen BK330.out 1) | ((with_reducible refine gate_callee (f := 87) rfl ?_);refine goesL_ (some 18) rfl rfl Try.func87 (by kernel_rfl) rfl #[.agg #[.slice A0_0 l0_0.length c0_0], .agg #[.int .i64 a1_0, .int .i64 a1_1]] rfl mM ?_;(with_reducible refine (impl_net_threatened.calls k _ _ l0_0 a1_0 a1_1 t331 _ ?side1 ?side2 A4.out).mono ?_);(case side1 => exact cP (Kd.C_below HR0_0.out HB.out));(case side2 => exact HC0_0.out);rintro e w13 ⟨rfl, hb⟩;refine ⟨_, rfl, ?_⟩;have n0_ := Aside0.mk (blk_below (g := gb329) (o := .cells #[.slice A0_0 l0_0.length c0_0] 56 (0, 0)) (by exact kP BK329.out) hb);have n1_ := Aside0.mk (blk_below (g := gb330) (o := .cells #[.int .i64 a1_0, .int .i64 a1_1] 74 (0, 0)) (by exact kP BK330.out) hb);have n2_ := Aside0.mk (below_step (by exact bB) hb);clear BK329;clear BK330;clear HB;have BK329 := n0_;have BK330 := n1_;have HB := n2_;clear n0_ n1_ n2_;(try clear hb);(try clear hb2);(try clear hk);(try clear hi)))
  have n0_ := Aside0.mk (blk_drew BK329.out)
  have n1_ := Aside0.mk (blk_drew BK330.out)
  have n2_ := Aside0.mk (below_drew1 HB.out)
  clear BK329
  clear BK330
  clear HB
  have BK329 := n0_
  have BK330 := n1_
  have HB := n2_
  clear n0_ n1_ n2_
  refine start_ (n := 9) (S := fun w' => w'.cell? ⟨gb329, 0, none⟩ = some (.slice A0_0 l0_0.length c0_0) ∧ w'.cell? ⟨gb330, 0, none⟩ = some (.int .i64 a1_0) ∧ w'.cell? ⟨gb330, 1, none⟩ = some (.int .i64 a1_1)) (ds := []) #[false,false,false,false,false,false,false,false,false] (by kernel_rfl) rfl rfl ⟨(blk_cell BK329.out 0).trans rfl, (blk_cell BK330.out 0).trans rfl, (blk_cell BK330.out 1).trans rfl⟩ (fun hHeld => ?_);refine with_tabW impl_net_fightFire.tab2 impl_net_fightFire.bits2 (fun HT_ HW_ => ?_)
  generalize w13.drew = w14 at BK329 BK330 HB hHeld ⊢
  refine pure_ (i := 2) (N := some 22) (v := ?_) (a' := ?_) #[false,false,true,false,false,false,false,false,false] rfl rfl (any_of HT_.out (by kernel_rfl)) (fun _ _ _ h => h) (Or.inl ⟨by rfl, ?_⟩) ?_ ?_
  rotate_left
  ·intro w'
   go_simp
   with_reducible rfl
  rotate_left
  ·simp only [Act.put, List.setIfInBounds_toArray, List.set_cons_zero, List.set_cons_succ, i64_w, i32_w]
   rfl
  refine take_ (i := 0) (N := some 20) (v := ?_) (a' := ?_) #[true,false,true,false,false,false,false,false,false] rfl rfl (take_ofW HT_.out HW_.out (by kernel_rfl)) (fun _ _ _ h => h) (Or.inl ⟨by rfl, ?_⟩) hHeld ?_ ?_
  rotate_left
  ·rintro w' ⟨s0, s1, s2⟩
   go_simp
   with_reducible rfl
  rotate_left
  ·simp only [Act.put, List.setIfInBounds_toArray, List.set_cons_zero, List.set_cons_succ, i64_w, i32_w]
   rfl
  refine take_ (i := 3) (N := some 23) (v := ?_) (a' := ?_) #[true,false,true,true,false,false,false,false,false] rfl rfl (take_ofW HT_.out HW_.out (by kernel_rfl)) (fun _ _ _ h => h) (Or.inl ⟨by rfl, ?_⟩) hHeld ?_ ?_
  rotate_left
  ·rintro w' ⟨s0, s1, s2⟩
   go_simp
   with_reducible rfl
  rotate_left
  ·simp only [Act.put, List.setIfInBounds_toArray, List.set_cons_zero, List.set_cons_succ, i64_w, i32_w]
   rfl
  refine pure_ (i := 4) (N := some 24) (v := ?_) (a' := ?_) #[true,false,true,true,true,false,false,false,false] rfl rfl (any_of HT_.out (by kernel_rfl)) (fun _ _ _ h => h) (Or.inl ⟨by rfl, ?_⟩) ?_ ?_
  rotate_left
  ·intro w'
   go_simp
   with_reducible rfl
  rotate_left
  ·simp only [Act.put, List.setIfInBounds_toArray, List.set_cons_zero, List.set_cons_succ, i64_w, i32_w]
   rfl
  refine one_ (i := 1) (N := some 21) #[true,true,true,true,true,false,false,false,false] rfl rfl (one_of HT_.out (by kernel_rfl)) (by decide) (fun K hK => ?_)
  refine goes_ Try.func67 (by kernel_rfl) rfl #[.agg #[.slice A0_0 l0_0.length c0_0]] (by rfl) rfl rfl mM ?_
  with_reducible refine (impl_net_size.calls _ _ l0_0 t332 _ ?side1 ?side2 A6.out).mono ?_
  (case side1 => exact cP (Kd.C_below HR0_0.out HB.out))
  (case side2 => exact HC0_0.out)
  rintro e w15 ⟨rfl, hb⟩
  refine ⟨_, rfl, ?_⟩
  have n0_ := Aside0.mk (blk_below (g := gb329) (o := .cells #[.slice A0_0 l0_0.length c0_0] 56 (0, 0)) (by exact kP BK329.out) hb)
  have n1_ := Aside0.mk (blk_below (g := gb330) (o := .cells #[.int .i64 a1_0, .int .i64 a1_1] 74 (0, 0)) (by exact kP BK330.out) hb)
  have n2_ := Aside0.mk (below_step (by exact bB) hb)
  clear BK329
  clear BK330
  clear HB
  have BK329 := n0_
  have BK330 := n1_
  have HB := n2_
  clear n0_ n1_ n2_
  (try clear hb)
  (try clear hb2)
  (try clear hk)
  (try clear hi)
  refine hK.out _ _ ⟨(blk_cell BK329.out 0).trans rfl, (blk_cell BK330.out 0).trans rfl, (blk_cell BK330.out 1).trans rfl⟩ (fun hHeld => ?_)
  clear hK K
  refine norm_ (a' := ?_) ?_ ?_
  rotate_left
  ·show Act.put _ (some 21) _ = _
   simp only [Act.put, List.setIfInBounds_toArray, List.set_cons_zero, List.set_cons_succ, i64_w, i32_w]
   rfl
  refine one_ (i := 5) (N := some 25) #[true,true,true,true,true,true,false,false,false] rfl rfl (one_of HT_.out (by kernel_rfl)) (by decide) (fun K hK => ?_)
  refine goes_ Try.func88 (by kernel_rfl) rfl #[.int .u64 (IntKind.u64.wrap (a1_0))] (by rfl) rfl rfl mM ?_
  with_reducible refine (bits_OnesCount.calls (IntKind.u64.wrap (a1_0)) t333 _ A7.out).mono ?_
  rintro e w' ⟨rfl, ⟨nd, rfl⟩⟩
  refine ⟨_, rfl, ?_⟩
  refine hK.out _ _ ⟨(blk_cell BK329.out 0).trans rfl, (blk_cell BK330.out 0).trans rfl, (blk_cell BK330.out 1).trans rfl⟩ (fun hHeld => ?_)
  clear hK K
  refine norm_ (a' := ?_) ?_ ?_
  rotate_left
  ·show Act.put _ (some 25) _ = _
   simp only [Act.put, List.setIfInBounds_toArray, List.set_cons_zero, List.set_cons_succ, i64_w, i32_w]
   rfl
  refine pure_ (i := 6) (N := some 26) (v := ?_) (a' := ?_) #[true,true,true,true,true,true,true,false,false] rfl rfl (any_of HT_.out (by kernel_rfl)) (fun _ _ _ h => h) (Or.inl ⟨by rfl, ?_⟩) ?_ ?_
  rotate_left
  ·intro w'
   go_simp
   with_reducible rfl
  rotate_left
  ·simp only [Act.put, List.setIfInBounds_toArray, List.set_cons_zero, List.set_cons_succ, i64_w, i32_w]
   rfl
  refine pure_ (i := 7) (N := some 6) (v := ?_) (a' := ?_) #[true,true,true,true,true,true,true,true,false] rfl rfl (any_of HT_.out (by kernel_rfl)) (fun _ _ _ h => h) (Or.inl ⟨by rfl, ?_⟩) ?_ ?_
  rotate_left
  ·intro w'
   go_simp
   with_reducible rfl
  rotate_left
  ·simp only [Act.put, List.setIfInBounds_toArray, List.set_cons_zero, List.set_cons_succ, i64_w, i32_w]
   rfl
  refine pure_ (i := 8) (N := some 7) (v := ?_) (a' := ?_) #[true,true,true,true,true,true,true,true,true] rfl rfl (any_of HT_.out (by kernel_rfl)) (fun _ _ _ h => h) (Or.inl ⟨by rfl, ?_⟩) ?_ ?_
  rotate_left
  ·intro w'
   go_simp
   with_reducible rfl
  rotate_left
  ·simp only [Act.put, List.setIfInBounds_toArray, List.set_cons_zero, List.set_cons_succ, i64_w, i32_w]
   rfl
  refine done_ (done_of HT_.out (by kernel_rfl)) ?_
  try go_wp2
  go_ret2
  exact ⟨_, by first | rfl | (simp [errW_none, errW_some] <;> rfl) | (simp [*, errW_none, errW_some] <;> rfl), by first | exact Kd.S_nil _ _ _ _ _ | exact Kd.S_nil _ _ _ _ _ | exact Kd.R_nil _ _ _ _ _ | exact Kd.Q_nil _ _ _ _ _ | exact Kd.R_nil _ _ _ _ _, by exact bB⟩
 ·rw [if_neg c5] at H
  have c5b0 : (t331 == 0) = false := beq_eq_false_iff_ne.mpr c5
  have c5b1 : (t331 != 0) = true := bne_iff_ne.mpr c5
  replace H := Option.bind_eq_some_iff.mp H
  obtain ⟨t334, A160, H⟩ := H
  replace H : ((impl_setOf.f k (Go.bits .andNot .i64 (Go.bits .andNot .i64 t334 a1_0) a1_1)).bind fun t335 => ((impl_subsetsOf.f k t335 (mn a2 (t335.length : Int))).bind fun t338 => (impl_net_fightFire.l0 k a2 (-1) ([] : List (List Int)) t338 (t338.length : Int) 0 l0_0 a1_0 a1_1))) = some (r1, r2) := H
  have A16 := Aside0.mk A160
  clear A160
  replace H := Option.bind_eq_some_iff.mp H
  obtain ⟨t335, A170, H⟩ := H
  replace H : ((impl_subsetsOf.f k t335 (mn a2 (t335.length : Int))).bind fun t338 => (impl_net_fightFire.l0 k a2 (-1) ([] : List (List Int)) t338 (t338.length : Int) 0 l0_0 a1_0 a1_1)) = some (r1, r2) := H
  have A17 := Aside0.mk A170
  clear A170
  obtain ⟨ji18, hji18⟩ : ∃ j_ : Int, (mn a2 (t335.length : Int)) = j_ := ⟨_, rfl⟩
  replace H : ((impl_subsetsOf.f k t335 (ji18)).bind fun t338 => (impl_net_fightFire.l0 k a2 (-1) ([] : List (List Int)) t338 (t338.length : Int) 0 l0_0 a1_0 a1_1)) = some (r1, r2) := by first | (rw [hji18] at H;exact H) | (simp only [hji18] at H ⊢;exact H)
  (try rw [hji18] at A4)
  (try rw [hji18] at A16)
  (try rw [hji18] at A17)
  have hji18_ : (if (t335.length : Int) < a2 then (t335.length : Int) else a2) = ji18 := hji18
  replace H := Option.bind_eq_some_iff.mp H
  obtain ⟨t338, A190, H⟩ := H
  replace H : (impl_net_fightFire.l0 k a2 (-1) ([] : List (List Int)) t338 (t338.length : Int) 0 l0_0 a1_0 a1_1) = some (r1, r2) := H
  have A19 := Aside0.mk A190
  clear A190
  have H' := Aside0.mk H
  clear H
  go_enter Try.func52, Try.ntmps52
  try go_wp2_with (first | ((with_reducible refine gate_dst (N := 3) rfl ?_);refine box_event ?hg (N := 3) ?hd (cs := #[.slice A0_0 l0_0.length c0_0]) (t := 56) ?hr ?_;(case hd => rfl);(case hg => rfl);(case hr => first | (go_simp;done) | (go_simp;rfl));intro gb329 hg w20 hbox hb;have n0_ := Aside0.mk (below_step (by exact bB) hb);have n1_ := Aside0.mk (hbox);have n2_ := Aside0.mk ((by rw [hg];exact (below_size (by exact bB)) : w.heap.size ≤ gb329));have n3_ := Aside0.mk ((by rw [hg];exact (below_size (by exact bB)) : w.heap.size ≤ gb329));clear HB;have HB := n0_;have BK329 := n1_;have GW329 := n2_;have GE329 := n3_;clear n0_ n1_ n2_ n3_;clear hb hbox hg) | ((with_reducible refine gate_dst (N := 4) rfl ?_);refine box_event ?hg (N := 4) ?hd (cs := #[.int .i64 a1_0, .int .i64 a1_1]) (t := 74) ?hr ?_;(case hd => rfl);(case hg => rfl);(case hr => first | (go_simp;done) | (go_simp;rfl));intro gb330 hg w21 hbox hb;have n0_ := Aside0.mk (blk_below (g := gb329) (o := .cells #[.slice A0_0 l0_0.length c0_0] 56 (0, 0)) (by exact kP BK329.out) hb);have n1_ := Aside0.mk (below_step (by exact bB) hb);have n2_ := Aside0.mk (hbox);have n3_ := Aside0.mk ((by rw [hg];exact (below_size (by exact bB)) : w.heap.size ≤ gb330));have n4_ := Aside0.mk ((by rw [hg];exact (below_size (by exact bB)) : w.heap.size ≤ gb330));have n5_ := Aside0.mk ((by rw [hg];exact Nat.ne_of_lt (blk_lt (g := gb329) (o := .cells #[.slice A0_0 l0_0.length c0_0] 56 (0, 0)) (by exact kP BK329.out)) : gb329 ≠ gb330));have n6_ := Aside0.mk ((by rw [hg];exact Nat.ne_of_gt (blk_lt (g := gb329) (o := .cells #[.slice A0_0 l0_0.length c0_0] 56 (0, 0)) (by exact kP BK329.out)) : gb330 ≠ gb329));clear BK329;clear HB;have BK329 := n0_;have HB := n1_;have BK330 := n2_;have GW330 := n3_;have GE330 := n4_;have NB329_330 := n5_;have NB330_329 := n6_;clear n0_ n1_ n2_ n3_ n4_ n5_ n6_;clear hb hbox hg;have hnb22 := NB329_330.out;have hnc22 := NB330_329.out;have hcz23_0 : w21.cell? ⟨gb329, 0, none⟩ = some (.slice A0_0 l0_0.length c0_0) := (blk_cell BK329.out 0).trans rfl;have hfz23_0 := blk_frozen BK329.out 0;have hcz24_0 : w21.cell? ⟨gb330, 0, none⟩ = some (.int .i64 a1_0) := (blk_cell BK330.out 0).trans rfl;have hcz24_1 : w21.cell? ⟨gb330, 1, none⟩ = some (.int .i64 a1_1) := (blk_cell BK330.out 1).trans rfl;have hfz24_0 := blk_frozen BK330.out 0;have hfz24_1 := blk_frozen BK330.out 1) | ((with_reducible refine gate_callee (f := 87) rfl ?_);refine goesL_ (some 18) rfl rfl Try.func87 (by kernel_rfl) rfl #[.agg #[.slice A0_0 l0_0.length c0_0], .agg #[.int .i64 a1_0, .int .i64 a1_1]] rfl mM ?_;(with_reducible refine (impl_net_threatened.calls k _ _ l0_0 a1_0 a1_1 t331 _ ?side1 ?side2 A4.out).mono ?_);(case side1 => exact cP (Kd.C_below HR0_0.out HB.out));(case side2 => exact HC0_0.out);rintro e w25 ⟨rfl, hb⟩;refine ⟨_, rfl, ?_⟩;have n0_ := Aside0.mk (blk_below (g := gb329) (o := .cells #[.slice A0_0 l0_0.length c0_0] 56 (0, 0)) (by exact kP BK329.out) hb);have n1_ := Aside0.mk (blk_below (g := gb330) (o := .cells #[.int .i64 a1_0, .int .i64 a1_1] 74 (0, 0)) (by exact kP BK330.out) hb);have n2_ := Aside0.mk (below_step (by exact bB) hb);clear BK329;clear BK330;clear HB;have BK329 := n0_;have BK330 := n1_;have HB := n2_;clear n0_ n1_ n2_;(try clear hb);(try clear hb2);(try clear hk);(try clear hi)))
  have n0_ := Aside0.mk (blk_drew BK329.out)
  have n1_ := Aside0.mk (blk_drew BK330.out)
  have n2_ := Aside0.mk (below_drew1 HB.out)
  clear BK329
  clear BK330
  clear HB
  have BK329 := n0_
  have BK330 := n1_
  have HB := n2_
  clear n0_ n1_ n2_
  refine start_ (n := 10) (S := fun w' => w'.cell? ⟨gb329, 0, none⟩ = some (.slice A0_0 l0_0.length c0_0) ∧ w'.cell? ⟨gb330, 0, none⟩ = some (.int .i64 a1_0) ∧ w'.cell? ⟨gb330, 1, none⟩ = some (.int .i64 a1_1)) (ds := []) #[false,false,false,false,false,false,false,false,false,false] (by kernel_rfl) rfl rfl ⟨(blk_cell BK329.out 0).trans rfl, (blk_cell BK330.out 0).trans rfl, (blk_cell BK330.out 1).trans rfl⟩ (fun hHeld => ?_);refine with_tabW impl_net_fightFire.tab3 impl_net_fightFire.bits3 (fun HT_ HW_ => ?_)
  generalize w25.drew = w26 at BK329 BK330 HB hHeld ⊢
  refine pure_ (i := 2) (N := some 29) (v := ?_) (a' := ?_) #[false,false,true,false,false,false,false,false,false,false] rfl rfl (any_of HT_.out (by kernel_rfl)) (fun _ _ _ h => h) (Or.inl ⟨by rfl, ?_⟩) ?_ ?_
  rotate_left
  ·intro w'
   go_simp
   with_reducible rfl
  rotate_left
  ·simp only [Act.put, List.setIfInBounds_toArray, List.set_cons_zero, List.set_cons_succ, i64_w, i32_w]
   rfl
  refine pure_ (i := 5) (N := some 32) (v := ?_) (a' := ?_) #[false,false,true,false,false,true,false,false,false,false] rfl rfl (any_of HT_.out (by kernel_rfl)) (fun _ _ _ h => h) (Or.inl ⟨by rfl, ?_⟩) ?_ ?_
  rotate_left
  ·intro w'
   go_simp
   with_reducible rfl
  rotate_left
  ·simp only [Act.put, List.setIfInBounds_toArray, List.set_cons_zero, List.set_cons_succ, i64_w, i32_w]
   rfl
  refine take_ (i := 0) (N := some 27) (v := ?_) (a' := ?_) #[true,false,true,false,false,true,false,false,false,false] rfl rfl (take_ofW HT_.out HW_.out (by kernel_rfl)) (fun _ _ _ h => h) (Or.inl ⟨by rfl, ?_⟩) hHeld ?_ ?_
  rotate_left
  ·rintro w' ⟨s0, s1, s2⟩
   go_simp
   with_reducible rfl
  rotate_left
  ·simp only [Act.put, List.setIfInBounds_toArray, List.set_cons_zero, List.set_cons_succ, i64_w, i32_w]
   rfl
  refine take_ (i := 3) (N := some 30) (v := ?_) (a' := ?_) #[true,false,true,true,false,true,false,false,false,false] rfl rfl (take_ofW HT_.out HW_.out (by kernel_rfl)) (fun _ _ _ h => h) (Or.inl ⟨by rfl, ?_⟩) hHeld ?_ ?_
  rotate_left
  ·rintro w' ⟨s0, s1, s2⟩
   go_simp
   with_reducible rfl
  rotate_left
  ·simp only [Act.put, List.setIfInBounds_toArray, List.set_cons_zero, List.set_cons_succ, i64_w, i32_w]
   rfl
  refine take_ (i := 6) (N := some 33) (v := ?_) (a' := ?_) #[true,false,true,true,false,true,true,false,false,false] rfl rfl (take_ofW HT_.out HW_.out (by kernel_rfl)) (fun _ _ _ h => h) (Or.inl ⟨by rfl, ?_⟩) hHeld ?_ ?_
  rotate_left
  ·rintro w' ⟨s0, s1, s2⟩
   go_simp
   with_reducible rfl
  rotate_left
  ·simp only [Act.put, List.setIfInBounds_toArray, List.set_cons_zero, List.set_cons_succ, i64_w, i32_w]
   rfl
  refine one_ (i := 1) (N := some 28) #[true,true,true,true,false,true,true,false,false,false] rfl rfl (one_of HT_.out (by kernel_rfl)) (by decide) (fun K hK => ?_)
  refine goes_ Try.func78 (by kernel_rfl) rfl #[.agg #[.slice A0_0 l0_0.length c0_0]] (by rfl) rfl rfl mM ?_
  with_reducible refine (impl_net_all.calls _ _ l0_0 t334 _ ?side1 ?side2 A16.out).mono ?_
  (case side1 => exact cP (Kd.C_below HR0_0.out HB.out))
  (case side2 => exact HC0_0.out)
  rintro e w27 ⟨rfl, hb⟩
  refine ⟨_, rfl, ?_⟩
  have n0_ := Aside0.mk (blk_below (g := gb329) (o := .cells #[.slice A0_0 l0_0.length c0_0] 56 (0, 0)) (by exact kP BK329.out) hb)
  have n1_ := Aside0.mk (blk_below (g := gb330) (o := .cells #[.int .i64 a1_0, .int .i64 a1_1] 74 (0, 0)) (by exact kP BK330.out) hb)
  have n2_ := Aside0.mk (below_step (by exact bB) hb)
  clear BK329
  clear BK330
  clear HB
  have BK329 := n0_
  have BK330 := n1_
  have HB := n2_
  clear n0_ n1_ n2_
  (try clear hb)
  (try clear hb2)
  (try clear hk)
  (try clear hi)
  refine hK.out _ _ ⟨(blk_cell BK329.out 0).trans rfl, (blk_cell BK330.out 0).trans rfl, (blk_cell BK330.out 1).trans rfl⟩ (fun hHeld => ?_)
  clear hK K
  refine norm_ (a' := ?_) ?_ ?_
  rotate_left
  ·show Act.put _ (some 28) _ = _
   simp only [Act.put, List.setIfInBounds_toArray, List.set_cons_zero, List.set_cons_succ, i64_w, i32_w]
   rfl
  refine pure_ (i := 4) (N := some 31) (v := ?_) (a' := ?_) #[true,true,true,true,true,true,true,false,false,false] rfl rfl (any_of HT_.out (by kernel_rfl)) (fun _ _ _ h => h) (Or.inl ⟨by rfl, ?_⟩) ?_ ?_
  rotate_left
  ·intro w'
   go_simp
   with_reducible rfl
  rotate_left
  ·simp only [Act.put, List.setIfInBounds_toArray, List.set_cons_zero, List.set_cons_succ, i64_w, i32_w]
   rfl
  refine pure_ (i := 7) (N := some 34) (v := ?_) (a' := ?_) #[true,true,true,true,true,true,true,true,false,false] rfl rfl (any_of HT_.out (by kernel_rfl)) (fun _ _ _ h => h) (Or.inl ⟨by rfl, ?_⟩) ?_ ?_
  rotate_left
  ·intro w'
   go_simp
   with_reducible rfl
  rotate_left
  ·simp only [Act.put, List.setIfInBounds_toArray, List.set_cons_zero, List.set_cons_succ, i64_w, i32_w]
   rfl
  refine one_ (i := 8) (N := some 35) #[true,true,true,true,true,true,true,true,true,false] rfl rfl (one_of HT_.out (by kernel_rfl)) (by decide) (fun K hK => ?_)
  refine goes_ Try.func46 (by kernel_rfl) rfl #[.int .i64 (Go.bits .andNot .i64 (Go.bits .andNot .i64 t334 a1_0) a1_1)] (by rfl) rfl rfl mM ?_
  with_reducible refine (impl_setOf.calls k (Go.bits .andNot .i64 (Go.bits .andNot .i64 t334 a1_0) a1_1) t335 _ A17.out).mono ?_
  rintro e w28 ⟨v336, rfl, ho0, hb⟩
  refine ⟨_, rfl, ?_⟩
  have n0_ := Aside0.mk (Kd.R_lower (Kd.R_newM (M := fun k_ => (w.heap.size ≤ k_)) ho0 (below_size (by exact bB)) (fun k_ h_ => h_)) (below_size (by exact bB)))
  have n1_ := Aside0.mk (blk_below (g := gb329) (o := .cells #[.slice A0_0 l0_0.length c0_0] 56 (0, 0)) (by exact kP BK329.out) hb)
  have n2_ := Aside0.mk (blk_below (g := gb330) (o := .cells #[.int .i64 a1_0, .int .i64 a1_1] 74 (0, 0)) (by exact kP BK330.out) hb)
  have n3_ := Aside0.mk (below_step (by exact bB) hb)
  clear BK329
  clear BK330
  clear HB
  have HO337 := n0_
  have BK329 := n1_
  have BK330 := n2_
  have HB := n3_
  clear n0_ n1_ n2_ n3_
  (try clear hb)
  (try clear hb2)
  (try clear hk)
  (try clear hi)
  (try clear ho0)
  refine hK.out _ _ ⟨(blk_cell BK329.out 0).trans rfl, (blk_cell BK330.out 0).trans rfl, (blk_cell BK330.out 1).trans rfl⟩ (fun hHeld => ?_)
  clear hK K
  refine norm_ (a' := ?_) ?_ ?_
  rotate_left
  ·show Act.put _ (some 35) _ = _
   simp only [Act.put, List.setIfInBounds_toArray, List.set_cons_zero, List.set_cons_succ, i64_w, i32_w]
   rfl
  refine pure_ (i := 9) (N := some 8) (v := ?_) (a' := ?_) #[true,true,true,true,true,true,true,true,true,true] rfl rfl (any_of HT_.out (by kernel_rfl)) (fun _ _ _ h => h) (Or.inl ⟨by rfl, ?_⟩) ?_ ?_
  rotate_left
  ·intro w'
   go_simp
   with_reducible rfl
  rotate_left
  ·simp only [Act.put, List.setIfInBounds_toArray, List.set_cons_zero, List.set_cons_succ, i64_w, i32_w]
   rfl
  refine done_ (done_of HT_.out (by kernel_rfl)) ?_
  obtain ⟨Ao29, co29, eo29⟩ := Kd.R_slice HO337.out
  subst eo29
  try go_wp2_with (first | ((with_reducible refine gate_callee (f := 89) rfl ?_);refine goesL_ (some 41) rfl rfl Try.func89 (by kernel_rfl) rfl #[.slice Ao29 t335.length co29, .int .i64 ji18] rfl (by (try simp only [List.map_toArray, List.map_cons, List.map_nil]);first | done | (simp only [hji18];rfl) | rfl | (simp only [List.length_drop, List.length_take];rfl)) ?_;(with_reducible refine (impl_subsetsOf.calls k _ _ t335 ji18 t338 _ ?side1 ?side2 A19.out).mono ?_);(case side1 => exact cP (Kd.R_reads' HO337.out).2.2);(case side2 => exact (Kd.R_reads' HO337.out).2.1);rintro e w30 ⟨v339, rfl, ho0, hb⟩;refine ⟨_, rfl, ?_⟩;have n0_ := Aside0.mk (Kd.R_below (by exact rP HO337.out) hb);have n1_ := Aside0.mk (Kd.S_lower (Kd.S_mono (ok' := fun k_ => (w.heap.size ≤ k_) ∧ some k_ ≠ (.slice Ao29 t335.length co29 : Value).ownBlock ∧ k_ ≠ gb329 ∧ k_ ≠ gb330) (id (Kd.S_bound ho0)) (fun k_ hk_ => ⟨(Nat.le_trans (below_size (by exact bB)) hk_.2.1), (Kd.fresh' (Kd.R_lt (by exact rP HO337.out)) k_ hk_.2.1), (Kd.freshB (g := gb329) (o := .cells #[.slice A0_0 l0_0.length c0_0] 56 (0, 0)) (by exact kP BK329.out) k_ hk_.2.1), (Kd.freshB (g := gb330) (o := .cells #[.int .i64 a1_0, .int .i64 a1_1] 74 (0, 0)) (by exact kP BK330.out) k_ hk_.2.1)⟩)) (below_size (by exact bB)));have n2_ := Aside0.mk (blk_below (g := gb329) (o := .cells #[.slice A0_0 l0_0.length c0_0] 56 (0, 0)) (by exact kP BK329.out) hb);have n3_ := Aside0.mk (blk_below (g := gb330) (o := .cells #[.int .i64 a1_0, .int .i64 a1_1] 74 (0, 0)) (by exact kP BK330.out) hb);have n4_ := Aside0.mk (below_step (by exact bB) hb);clear HO337;clear BK329;clear BK330;clear HB;have HO337 := n0_;have HO340 := n1_;have BK329 := n2_;have BK330 := n3_;have HB := n4_;clear n0_ n1_ n2_ n3_ n4_;(try clear hb);(try clear hb2);(try clear hk);(try clear hi);(try clear ho0);obtain ⟨Ao31, co31, eo31⟩ := Kd.S_slice HO340.out;subst eo31))
  go_loopg [9, 10, 43] k (fun kq v9 v10 v43 w' => ∃ (x9_1 : Int) (x10_1 : List (List Int)) (x43_1 : Int), v9 = .int .i64 x9_1 ∧ v43 = .int .i64 x43_1 ∧ Aside0 (impl_net_fightFire.l0 kq a2 x9_1 x10_1 t338 (t338.length : Int) x43_1 l0_0 a1_0 a1_1 = some (r1, r2)) ∧ Aside0 (kq ≤ k) ∧ Aside0 (Kd.S (Kd.slice 3 (Kd.int .i64)) 25 w' w.heap.size (fun k_ => (w.heap.size ≤ k_) ∧ some k_ ≠ ((.slice Ao31 t338.length co31) : Value).ownBlock ∧ k_ ≠ gb329 ∧ k_ ≠ gb330) v10 x10_1) ∧ Aside0 (Kd.S (Kd.slice 3 (Kd.int .i64)) 25 w' w.heap.size (fun k_ => (w.heap.size ≤ k_) ∧ some k_ ≠ (v10 : Value).ownBlock ∧ k_ ≠ gb329 ∧ k_ ≠ gb330) (.slice Ao31 t338.length co31) t338) ∧ Aside0 (w'.heap[gb329]? = some (.cells #[(.slice A0_0 l0_0.length c0_0)] 56 (0, 0))) ∧ Aside0 (w'.heap[gb330]? = some (.cells #[.int .i64 a1_0, .int .i64 a1_1] 74 (0, 0))) ∧ Aside0 (Below w.heap.size w w'))
  case atStart => exact ⟨((-1)), (([] : List (List Int))), (0), (by first | rfl | (simp;done) | (simp [*];done)), (by first | rfl | (simp;done) | (simp [*];done)), H', ⟨Nat.le_refl _⟩, ⟨by first | exact Kd.S_nil _ _ _ _ _ | exact Kd.S_nil _ _ _ _ _ | exact Kd.R_nil _ _ _ _ _ | exact Kd.Q_nil _ _ _ _ _ | exact Kd.R_nil _ _ _ _ _⟩, ⟨by (with_reducible repeat (first | apply Kd.S_alloc | apply Kd.S_drewN | apply Kd.S_drew));exact Kd.S_mono HO340.out (fun _ hk => ⟨hk.1, ⟨(by simp [Value.ownBlock]), ⟨hk.2.2.1, hk.2.2.2⟩⟩⟩)⟩, ⟨by exact kP BK329.out⟩, ⟨by exact kP BK330.out⟩, ⟨by exact bB⟩⟩
  case round =>
   clear H'
   try clear c1
   try clear c2
   try clear p2
   try clear c4
   try clear c5
   try clear c5b0
   try clear c5b1
   try clear c6
   try clear p6
   try clear c7
   try clear c8
   try clear c10
   try clear c22
   try clear hcz11_0
   try clear hcz12_0
   try clear hcz12_1
   try clear hcz23_0
   try clear hcz24_0
   try clear hcz24_1
   try clear hfz11_0
   try clear hfz12_0
   try clear hfz12_1
   try clear hfz23_0
   try clear hfz24_0
   try clear hfz24_1
   obtain ⟨x9_1, x10_1, x43_1, rfl, rfl, HA, HK1, HO_10, HO_41, BK329, BK330, HB⟩ := hrel
   cases gk with
   | zero => exact absurd HA.out (by simp [impl_net_fightFire.l0])
   | succ k1 =>
    have H := HA.out
    clear HA
    simp only [impl_net_fightFire.l0] at H
    by_cases c32 : x43_1 < (t338.length : Int)
    ·rw [if_pos c32] at H
     have c32b0 : decide (x43_1 < (t338.length : Int)) = true := decide_eq_true c32
     clear c32
     by_cases c33 : 0 ≤ x43_1
     ·rw [if_pos c33] at H
      have c33b0 : decide (0 ≤ x43_1) = true := decide_eq_true c33
      clear c33
      by_cases c34 : x43_1 < (t338.length : Int)
      ·rw [if_pos c34] at H
       have c34b0 : decide (x43_1 < (t338.length : Int)) = true := decide_eq_true c34
       clear c34
       replace H := Option.bind_eq_some_iff.mp H
       obtain ⟨t342, A350, H⟩ := H
       replace H : ((impl_net_threatened.f k1 l0_0 a1_0 (Go.bits .or .i64 a1_1 t342)).bind fun t344 => ((impl_net_fightFire.f k1 l0_0 (Go.bits .or .i64 a1_0 t344) (Go.bits .or .i64 a1_1 t342) a2).bind fun bt345 => (if bt345.1 > x9_1 then ((some (([rd_L2 t338 x43_1] : List (List Int)) : List (List Int))).bind fun y349 => (if y349.length + bt345.2.length < 5864062014805 then (impl_net_fightFire.l0 k1 a2 bt345.1 (y349 ++ bt345.2) t338 (t338.length : Int) (wrap64 (x43_1 + 1)) l0_0 a1_0 a1_1) else (none))) else (impl_net_fightFire.l0 k1 a2 x9_1 x10_1 t338 (t338.length : Int) (wrap64 (x43_1 + 1)) l0_0 a1_0 a1_1)))) = some (r1, r2) := H
       have A35 := Aside0.mk A350
       clear A350
       replace H := Option.bind_eq_some_iff.mp H
       obtain ⟨t344, A360, H⟩ := H
       replace H : ((impl_net_fightFire.f k1 l0_0 (Go.bits .or .i64 a1_0 t344) (Go.bits .or .i64 a1_1 t342) a2).bind fun bt345 => (if bt345.1 > x9_1 then ((some (([rd_L2 t338 x43_1] : List (List Int)) : List (List Int))).bind fun y349 => (if y349.length + bt345.2.length < 5864062014805 then (impl_net_fightFire.l0 k1 a2 bt345.1 (y349 ++ bt345.2) t338 (t338.length : Int) (wrap64 (x43_1 + 1)) l0_0 a1_0 a1_1) else (none))) else (impl_net_fightFire.l0 k1 a2 x9_1 x10_1 t338 (t338.length : Int) (wrap64 (x43_1 + 1)) l0_0 a1_0 a1_1))) = some (r1, r2) := H
       have A36 := Aside0.mk A360
       clear A360
       replace H := Option.bind_eq_some_iff.mp H
       obtain ⟨⟨t345, t346⟩, A370, H⟩ := H
       replace H : (if t345 > x9_1 then ((some (([rd_L2 t338 x43_1] : List (List Int)) : List (List Int))).bind fun y349 => (if y349.length + t346.length < 5864062014805 then (impl_net_fightFire.l0 k1 a2 t345 (y349 ++ t346) t338 (t338.length : Int) (wrap64 (x43_1 + 1)) l0_0 a1_0 a1_1) else (none))) else (impl_net_fightFire.l0 k1 a2 x9_1 x10_1 t338 (t338.length : Int) (wrap64 (x43_1 + 1)) l0_0 a1_0 a1_1)) = some (r1, r2) := H
       have A37 := Aside0.mk A370
       clear A370
       by_cases c38 : t345 > x9_1
       ·rw [if_pos c38] at H
        have c38b0 : decide (x9_1 < t345) = true := decide_eq_true c38
        clear c38
        obtain ⟨y349, hy349⟩ : ∃ y_ : List (List Int), y_ = (([rd_L2 t338 x43_1] : List (List Int))) := ⟨_, rfl⟩
        replace H : (if y349.length + t346.length < 5864062014805 then (impl_net_fightFire.l0 k1 a2 t345 (y349 ++ t346) t338 (t338.length : Int) (wrap64 (x43_1 + 1)) l0_0 a1_0 a1_1) else (none)) = some (r1, r2) := by first | (rw [hy349];with_reducible exact H) | (have H2_ := (Option.bind_some _ _).symm.trans H;rw [hy349];with_reducible exact H2_) | (have H2_ := (Option.bind_some _ _).symm.trans H;with_reducible exact H2_) | with_reducible exact H | (rw [hy349];exact H) | exact H
        have Ny349 := Aside0.mk hy349
        clear hy349
        by_cases c39 : y349.length + t346.length < 5864062014805
        ·rw [if_pos c39] at H
         have LMc39 := Aside0.mk c39
         clear c39
         obtain ⟨y352, hy352⟩ : ∃ y_ : List (List Int), y_ = (y349 ++ t346) := ⟨_, rfl⟩
         replace H : (impl_net_fightFire.l0 k1 a2 t345 y352 t338 (t338.length : Int) (wrap64 (x43_1 + 1)) l0_0 a1_0 a1_1) = some (r1, r2) := by first | (rw [hy352];with_reducible exact H) | (have H2_ := (Option.bind_some _ _).symm.trans H;rw [hy352];with_reducible exact H2_) | (have H2_ := (Option.bind_some _ _).symm.trans H;with_reducible exact H2_) | with_reducible exact H | (rw [hy352];exact H) | exact H
         have Ny352 := Aside0.mk hy352
         clear hy352
         have H' := Aside0.mk H
         clear H
         have p341 : 0 ≤ (x43_1 : Int) := oA
         have q341 : x43_1 < (t338.length : Int) := oA
         obtain ⟨ad341, A341_0, c341_0, e341, hx341_0, hl341_0, hi341_0⟩ := at_L2 (Kd.S_reads' HO_41.out).2.2 x43_1 p341 q341
         cases e341
         obtain ⟨ce341, hce341, hMe341, hcc341⟩ := Kd.S_get HO_41.out [] x43_1 p341 (by first | exact q341 | exact oA | (have e_ := (Kd.S_reads' HO_41.out).1;omega))
         obtain ⟨ua341_0, uc341_0, rfl, ul341_0, ge341_0⟩ := M_slice_open hMe341
         have hv341_0 := hcc341 0 _ rfl
         rw [Nat.add_zero, show ((Kd.slice 3 (Kd.int .i64))).sz = 1 from rfl, Nat.mul_one] at hv341_0
         replace hv341_0 := Option.some.inj (hv341_0.symm.trans hx341_0)
         injection hv341_0 with hva_ hvn_ hvc_
         rw [hva_, hvc_] at ge341_0
         rw [hvc_] at ul341_0
         have HL341_0 := Aside0.mk (show Kd.R (Kd.int .i64) 3 _ w.heap.size _ _ (rd_L2 t338 x43_1) from ge341_0)
         clear hva_ hvn_ hvc_ ge341_0 ul341_0
         clear hcc341 hce341
         have HR341_0 := Aside0.mk hi341_0
         have HC341_0 := Aside0.mk hl341_0
         clear hi341_0 hl341_0
         replace p341 := eq_true p341
         replace q341 := eq_true q341
         try go_wp2
         have n0_ := Aside0.mk (Kd.S_drew HO_10.out)
         have n1_ := Aside0.mk (Kd.S_drew HO_41.out)
         have n2_ := Aside0.mk (Kd.R_drew HL341_0.out)
         have n3_ := Aside0.mk (blk_drew BK329.out)
         have n4_ := Aside0.mk (blk_drew BK330.out)
         have n5_ := Aside0.mk (Kd.C_drew HR341_0.out)
         have n6_ := Aside0.mk (below_drew1 HB.out)
         clear HO_10
         clear HO_41
         clear HL341_0
         clear BK329
         clear BK330
         clear HR341_0
         clear HB
         have HO_10 := n0_
         have HO_41 := n1_
         have HL341_0 := n2_
         have BK329 := n3_
         have BK330 := n4_
         have HR341_0 := n5_
         have HB := n6_
         clear n0_ n1_ n2_ n3_ n4_ n5_ n6_
         refine start_ (n := 10) (S := fun w' => w'.cell? ⟨gb330, 0, none⟩ = some (.int .i64 a1_0) ∧ w'.cell? ⟨gb330, 1, none⟩ = some (.int .i64 a1_1)) (ds := []) #[false,false,false,false,false,false,false,false,false,false] (by kernel_rfl) rfl rfl ⟨(blk_cell BK330.out 0).trans rfl, (blk_cell BK330.out 1).trans rfl⟩ (fun hHeld => ?_);refine with_tabW impl_net_fightFire.tab8 impl_net_fightFire.bits8 (fun HT_ HW_ => ?_)
         generalize wr.drew = w40 at HO_10 HO_41 HL341_0 BK329 BK330 HR341_0 HB hHeld ⊢
         refine pure_ (i := 0) (N := some 47) (v := ?_) (a' := ?_) #[true,false,false,false,false,false,false,false,false,false] rfl rfl (any_of HT_.out (by kernel_rfl)) (fun _ _ _ h => h) (Or.inl ⟨by rfl, ?_⟩) ?_ ?_
         rotate_left
         ·intro w'
          go_simp
          with_reducible rfl
         rotate_left
         ·simp only [Act.put, List.setIfInBounds_toArray, List.set_cons_zero, List.set_cons_succ, i64_w, i32_w]
          rfl
         refine pure_ (i := 2) (N := some 49) (v := ?_) (a' := ?_) #[true,false,true,false,false,false,false,false,false,false] rfl rfl (any_of HT_.out (by kernel_rfl)) (fun _ _ _ h => h) (Or.inl ⟨by rfl, ?_⟩) ?_ ?_
         rotate_left
         ·intro w'
          go_simp
          with_reducible rfl
         rotate_left
         ·simp only [Act.put, List.setIfInBounds_toArray, List.set_cons_zero, List.set_cons_succ, i64_w, i32_w]
          rfl
         refine pure_ (i := 4) (N := some 51) (v := ?_) (a' := ?_) #[true,false,true,false,true,false,false,false,false,false] rfl rfl (any_of HT_.out (by kernel_rfl)) (fun _ _ _ h => h) (Or.inl ⟨by rfl, ?_⟩) ?_ ?_
         rotate_left
         ·intro w'
          go_simp
          with_reducible rfl
         rotate_left
         ·simp only [Act.put, List.setIfInBounds_toArray, List.set_cons_zero, List.set_cons_succ, i64_w, i32_w]
          rfl
         refine take_ (i := 1) (N := some 48) (v := ?_) (a' := ?_) #[true,true,true,false,true,false,false,false,false,false] rfl rfl (take_ofW HT_.out HW_.out (by kernel_rfl)) (fun _ _ _ h => h) (Or.inl ⟨by rfl, ?_⟩) hHeld ?_ ?_
         rotate_left
         ·rintro w' ⟨s0, s1⟩
          go_simp
          with_reducible rfl
         rotate_left
         ·simp only [Act.put, List.setIfInBounds_toArray, List.set_cons_zero, List.set_cons_succ, i64_w, i32_w]
          rfl
         refine take_ (i := 3) (N := some 50) (v := ?_) (a' := ?_) #[true,true,true,true,true,false,false,false,false,false] rfl rfl (take_ofW HT_.out HW_.out (by kernel_rfl)) (fun _ _ _ h => h) (Or.inl ⟨by rfl, ?_⟩) hHeld ?_ ?_
         rotate_left
         ·rintro w' ⟨s0, s1⟩
          go_simp
          with_reducible rfl
         rotate_left
         ·simp only [Act.put, List.setIfInBounds_toArray, List.set_cons_zero, List.set_cons_succ, i64_w, i32_w]
          rfl
         refine join_ (σ := Nat) 1 #[true,true,true,true,true,true,true,true,true,false] (fun s_ => [(52, .int .i64 t342), (13, .pointer (some ⟨s_, 0, none⟩)), (53, .int .i64 (Go.bits .or .i64 a1_1 t342)), (54, .agg #[.int .i64 a1_0, .int .i64 (Go.bits .or .i64 a1_1 t342)])]) (fun s_ w' => (w'.cell? ⟨gb330, 0, none⟩ = some (.int .i64 a1_0) ∧ w'.cell? ⟨gb330, 1, none⟩ = some (.int .i64 a1_1)) ∧ (Kd.R (Kd.int .i64) 3 w' w.heap.size (fun k_ => (w.heap.size ≤ k_) ∧ some k_ ≠ (u10 : Value).ownBlock ∧ some k_ ≠ (.slice (some ad341) t338.length co31 : Value).ownBlock ∧ k_ ≠ gb329 ∧ k_ ≠ gb330 ∧ k_ ≠ s_) (.slice A341_0 (rd_L2 t338 x43_1).length c341_0) (rd_L2 t338 x43_1)) ∧ (Kd.S (Kd.slice 3 (Kd.int .i64)) 25 w' w.heap.size (fun k_ => (w.heap.size ≤ k_) ∧ some k_ ≠ (.slice (some ad341) t338.length co31 : Value).ownBlock ∧ k_ ≠ gb329 ∧ k_ ≠ gb330 ∧ k_ ≠ s_) u10 x10_1) ∧ (Kd.S (Kd.slice 3 (Kd.int .i64)) 25 w' w.heap.size (fun k_ => (w.heap.size ≤ k_) ∧ some k_ ≠ (u10 : Value).ownBlock ∧ k_ ≠ gb329 ∧ k_ ≠ gb330 ∧ k_ ≠ s_) (.slice (some ad341) t338.length co31) t338) ∧ (w'.heap[gb329]? = some (.cells #[.slice A0_0 l0_0.length c0_0] 56 (0, 0))) ∧ (w'.heap[gb330]? = some (.cells #[.int .i64 a1_0, .int .i64 a1_1] 74 (0, 0))) ∧ (w'.heap[s_]? = some (.cells #[.int .i64 0, .int .i64 0] 74 (0, 0))) ∧ (w.heap.size ≤ s_) ∧ (w.heap.size ≤ s_) ∧ (gb329 ≠ s_) ∧ (s_ ≠ gb329) ∧ (gb330 ≠ s_) ∧ (s_ ≠ gb330) ∧ (Below w.heap.size w w')) ?_ ?_
         rotate_left
         ·intro hCont
          refine two_ (i := 5) (j := 8) (Ni := some 52) (Nj := some 13) #[true,true,true,true,true,true,false,false,false,false] #[true,true,true,true,true,false,false,false,true,false] rfl rfl rfl rfl (two_of HT_.out (by kernel_rfl)) (by decide) (by decide) (fun K hK => ?_) (fun K hK => ?_)
          ·skip
           refine goes_ Try.func90 (by kernel_rfl) rfl #[.slice A341_0 (rd_L2 t338 x43_1).length c341_0] (by rfl) rfl rfl mM ?_
           with_reducible refine (impl_maskOf.calls k1 _ _ (rd_L2 t338 x43_1) t342 _ ?side1 ?side2 A35.out).mono ?_
           (case side1 => exact cP (by repeat (first | (with_reducible exact HR341_0.out) | (with_reducible refine Kd.C_alloc ?_ _) | (with_reducible refine Kd.C_drewN ?_ _) | (with_reducible refine Kd.C_drew ?_) | exact HR341_0.out)))
           (case side2 => exact HC341_0.out)
           rintro e w' ⟨rfl, ⟨nd, rfl⟩⟩
           refine ⟨_, rfl, ?_⟩
           refine hK.out _ _ ⟨(blk_cell BK330.out 0).trans rfl, (blk_cell BK330.out 1).trans rfl⟩ (fun hHeld => ?_)
           clear hK K
           refine norm_ (a' := ?_) ?_ ?_
           rotate_left
           ·show Act.put _ (some 52) _ = _
            simp only [Act.put, List.setIfInBounds_toArray, List.set_cons_zero, List.set_cons_succ, i64_w, i32_w]
            rfl
           refine pure_ (i := 6) (N := some 53) (v := ?_) (a' := ?_) #[true,true,true,true,true,true,true,false,false,false] rfl rfl (any_of HT_.out (by kernel_rfl)) (fun _ _ _ h => h) (Or.inl ⟨by rfl, ?_⟩) ?_ ?_
           rotate_left
           ·intro w'
            go_simp
            with_reducible rfl
           rotate_left
           ·simp only [Act.put, List.setIfInBounds_toArray, List.set_cons_zero, List.set_cons_succ, i64_w, i32_w]
            rfl
           refine pure_ (i := 7) (N := some 54) (v := ?_) (a' := ?_) #[true,true,true,true,true,true,true,true,false,false] rfl rfl (any_of HT_.out (by kernel_rfl)) (fun _ _ _ h => h) (Or.inl ⟨by rfl, ?_⟩) ?_ ?_
           rotate_left
           ·intro w'
            go_simp
            with_reducible rfl
           rotate_left
           ·simp only [Act.put, List.setIfInBounds_toArray, List.set_cons_zero, List.set_cons_succ, i64_w, i32_w]
            rfl
           refine one_ (i := 8) (N := some 13) #[true,true,true,true,true,true,true,true,true,false] rfl rfl (one_of HT_.out (by kernel_rfl)) (by decide) (fun K hK => ?_)
           refine box_step ?hg (N := 13) ?hd (cs := #[.int .i64 0, .int .i64 0]) (t := 74) ?hr ?_;(case hd => rfl);(case hg => rfl);(case hr => first | (go_simp;done) | (go_simp;rfl))
           intro gb343 hg w41 hbox hb
           have n0_ := Aside0.mk (Kd.S_below (Kd.S_elderB (by (with_reducible repeat (first | apply Kd.S_alloc | apply Kd.S_drewN | apply Kd.S_drew));exact HO_10.out) gb343 (Nat.le_of_eq hg.symm)) hb)
           have n1_ := Aside0.mk (Kd.S_below (Kd.S_elderB (by (with_reducible repeat (first | apply Kd.S_alloc | apply Kd.S_drewN | apply Kd.S_drew));exact HO_41.out) gb343 (Nat.le_of_eq hg.symm)) hb)
           have n2_ := Aside0.mk (Kd.R_below (Kd.R_elderB (by exact rP HL341_0.out) gb343 (Nat.le_of_eq hg.symm)) hb)
           have n3_ := Aside0.mk (blk_below (g := gb329) (o := .cells #[.slice A0_0 l0_0.length c0_0] 56 (0, 0)) (by exact kP BK329.out) hb)
           have n4_ := Aside0.mk (blk_below (g := gb330) (o := .cells #[.int .i64 a1_0, .int .i64 a1_1] 74 (0, 0)) (by exact kP BK330.out) hb)
           have n5_ := Aside0.mk (Kd.C_below (by repeat (first | (with_reducible exact HR341_0.out) | (with_reducible refine Kd.C_alloc ?_ _) | (with_reducible refine Kd.C_drewN ?_ _) | (with_reducible refine Kd.C_drew ?_) | exact HR341_0.out)) hb)
           have n6_ := Aside0.mk (below_step (by exact bB) hb)
           have n7_ := Aside0.mk (hbox)
           have n8_ := Aside0.mk ((by rw [hg];exact (below_size (by exact bB)) : w.heap.size ≤ gb343))
           have n9_ := Aside0.mk ((by rw [hg];exact (below_size (by exact bB)) : w.heap.size ≤ gb343))
           have n10_ := Aside0.mk ((by rw [hg];exact Nat.ne_of_lt (blk_lt (g := gb329) (o := .cells #[.slice A0_0 l0_0.length c0_0] 56 (0, 0)) (by exact kP BK329.out)) : gb329 ≠ gb343))
           have n11_ := Aside0.mk ((by rw [hg];exact Nat.ne_of_gt (blk_lt (g := gb329) (o := .cells #[.slice A0_0 l0_0.length c0_0] 56 (0, 0)) (by exact kP BK329.out)) : gb343 ≠ gb329))
           have n12_ := Aside0.mk ((by rw [hg];exact Nat.ne_of_lt (blk_lt (g := gb330) (o := .cells #[.int .i64 a1_0, .int .i64 a1_1] 74 (0, 0)) (by exact kP BK330.out)) : gb330 ≠ gb343))
           have n13_ := Aside0.mk ((by rw [hg];exact Nat.ne_of_gt (blk_lt (g := gb330) (o := .cells #[.int .i64 a1_0, .int .i64 a1_1] 74 (0, 0)) (by exact kP BK330.out)) : gb343 ≠ gb330))
           clear HO_10
           clear HO_41
           clear HL341_0
           clear BK329
           clear BK330
           clear HR341_0
           clear HB
           have HO_10 := n0_
           have HO_41 := n1_
           have HL341_0 := n2_
           have BK329 := n3_
           have BK330 := n4_
           have HR341_0 := n5_
           have HB := n6_
           have BK343 := n7_
           have GW343 := n8_
           have GE343 := n9_
           have NB329_343 := n10_
           have NB343_329 := n11_
           have NB330_343 := n12_
           have NB343_330 := n13_
           clear n0_ n1_ n2_ n3_ n4_ n5_ n6_ n7_ n8_ n9_ n10_ n11_ n12_ n13_
           clear hb hbox hg
           refine hK.out _ _ ⟨(blk_cell BK330.out 0).trans rfl, (blk_cell BK330.out 1).trans rfl⟩ (fun hHeld => ?_)
           clear hK K
           refine norm_ (a' := ?_) ?_ ?_
           rotate_left
           ·show Act.put _ (some 13) _ = _
            simp only [Act.put, List.setIfInBounds_toArray, List.set_cons_zero, List.set_cons_succ, i64_w, i32_w]
            rfl
           exact norm_ (by simp only [putAll, Act.put, List.setIfInBounds_toArray, List.set_cons_zero, List.set_cons_succ]) (hCont (gb343) _ ⟨hHeld, (by refine rP ?_;exact Kd.R_mono HL341_0.out (fun _ hk => ⟨hk.1.1.1, ⟨hk.1.1.2.1, ⟨hk.1.2, ⟨hk.1.1.2.2.1, ⟨hk.1.1.2.2.2, hk.2⟩⟩⟩⟩⟩)), (by (with_reducible repeat (first | apply Kd.S_alloc | apply Kd.S_drewN | apply Kd.S_drew));exact Kd.S_mono HO_10.out (fun _ hk => ⟨hk.1.1, ⟨hk.1.2.1, ⟨hk.1.2.2.1, ⟨hk.1.2.2.2, hk.2⟩⟩⟩⟩)), (by (with_reducible repeat (first | apply Kd.S_alloc | apply Kd.S_drewN | apply Kd.S_drew));exact Kd.S_mono HO_41.out (fun _ hk => ⟨hk.1.1, ⟨hk.1.2.1, ⟨hk.1.2.2.1, ⟨hk.1.2.2.2, hk.2⟩⟩⟩⟩)), (by exact kP BK329.out), (by exact kP BK330.out), (by exact kP BK343.out), GW343.out, GE343.out, NB329_343.out, NB343_329.out, NB330_343.out, NB343_330.out, (by exact bB)⟩)
          ·skip
           refine box_step ?hg (N := 13) ?hd (cs := #[.int .i64 0, .int .i64 0]) (t := 74) ?hr ?_;(case hd => rfl);(case hg => rfl);(case hr => first | (go_simp;done) | (go_simp;rfl))
           intro gb343 hg w41 hbox hb
           have n0_ := Aside0.mk (Kd.S_below (Kd.S_elderB (by (with_reducible repeat (first | apply Kd.S_alloc | apply Kd.S_drewN | apply Kd.S_drew));exact HO_10.out) gb343 (Nat.le_of_eq hg.symm)) hb)
           have n1_ := Aside0.mk (Kd.S_below (Kd.S_elderB (by (with_reducible repeat (first | apply Kd.S_alloc | apply Kd.S_drewN | apply Kd.S_drew));exact HO_41.out) gb343 (Nat.le_of_eq hg.symm)) hb)
           have n2_ := Aside0.mk (Kd.R_below (Kd.R_elderB (by exact rP HL341_0.out) gb343 (Nat.le_of_eq hg.symm)) hb)
           have n3_ := Aside0.mk (blk_below (g := gb329) (o := .cells #[.slice A0_0 l0_0.length c0_0] 56 (0, 0)) (by exact kP BK329.out) hb)
           have n4_ := Aside0.mk (blk_below (g := gb330) (o := .cells #[.int .i64 a1_0, .int .i64 a1_1] 74 (0, 0)) (by exact kP BK330.out) hb)
           have n5_ := Aside0.mk (Kd.C_below (by repeat (first | (with_reducible exact HR341_0.out) | (with_reducible refine Kd.C_alloc ?_ _) | (with_reducible refine Kd.C_drewN ?_ _) | (with_reducible refine Kd.C_drew ?_) | exact HR341_0.out)) hb)
           have n6_ := Aside0.mk (below_step (by exact bB) hb)
           have n7_ := Aside0.mk (hbox)
           have n8_ := Aside0.mk ((by rw [hg];exact (below_size (by exact bB)) : w.heap.size ≤ gb343))
           have n9_ := Aside0.mk ((by rw [hg];exact (below_size (by exact bB)) : w.heap.size ≤ gb343))
           have n10_ := Aside0.mk ((by rw [hg];exact Nat.ne_of_lt (blk_lt (g := gb329) (o := .cells #[.slice A0_0 l0_0.length c0_0] 56 (0, 0)) (by exact kP BK329.out)) : gb329 ≠ gb343))
           have n11_ := Aside0.mk ((by rw [hg];exact Nat.ne_of_gt (blk_lt (g := gb329) (o := .cells #[.slice A0_0 l0_0.length c0_0] 56 (0, 0)) (by exact kP BK329.out)) : gb343 ≠ gb329))
           have n12_ := Aside0.mk ((by rw [hg];exact Nat.ne_of_lt (blk_lt (g := gb330) (o := .cells #[.int .i64 a1_0, .int .i64 a1_1] 74 (0, 0)) (by exact kP BK330.out)) : gb330 ≠ gb343))
           have n13_ := Aside0.mk ((by rw [hg];exact Nat.ne_of_gt (blk_lt (g := gb330) (o := .cells #[.int .i64 a1_0, .int .i64 a1_1] 74 (0, 0)) (by exact kP BK330.out)) : gb343 ≠ gb330))
           clear HO_10
           clear HO_41
           clear HL341_0
           clear BK329
           clear BK330
           clear HR341_0
           clear HB
           have HO_10 := n0_
           have HO_41 := n1_
           have HL341_0 := n2_
           have BK329 := n3_
           have BK330 := n4_
           have HR341_0 := n5_
           have HB := n6_
           have BK343 := n7_
           have GW343 := n8_
           have GE343 := n9_
           have NB329_343 := n10_
           have NB343_329 := n11_
           have NB330_343 := n12_
           have NB343_330 := n13_
           clear n0_ n1_ n2_ n3_ n4_ n5_ n6_ n7_ n8_ n9_ n10_ n11_ n12_ n13_
           clear hb hbox hg
           refine hK.out _ _ ⟨(blk_cell BK330.out 0).trans rfl, (blk_cell BK330.out 1).trans rfl⟩ (fun hHeld => ?_)
           clear hK K
           refine norm_ (a' := ?_) ?_ ?_
           rotate_left
           ·show Act.put _ (some 13) _ = _
            simp only [Act.put, List.setIfInBounds_toArray, List.set_cons_zero, List.set_cons_succ, i64_w, i32_w]
            rfl
           refine one_ (i := 5) (N := some 52) #[true,true,true,true,true,true,false,false,true,false] rfl rfl (one_of HT_.out (by kernel_rfl)) (by decide) (fun K hK => ?_)
           refine goes_ Try.func90 (by kernel_rfl) rfl #[.slice A341_0 (rd_L2 t338 x43_1).length c341_0] (by rfl) rfl rfl mM ?_
           with_reducible refine (impl_maskOf.calls k1 _ _ (rd_L2 t338 x43_1) t342 _ ?side1 ?side2 A35.out).mono ?_
           (case side1 => exact cP (by repeat (first | (with_reducible exact HR341_0.out) | (with_reducible refine Kd.C_alloc ?_ _) | (with_reducible refine Kd.C_drewN ?_ _) | (with_reducible refine Kd.C_drew ?_) | exact HR341_0.out)))
           (case side2 => exact HC341_0.out)
           rintro e w' ⟨rfl, ⟨nd, rfl⟩⟩
           refine ⟨_, rfl, ?_⟩
           refine hK.out _ _ ⟨(blk_cell BK330.out 0).trans rfl, (blk_cell BK330.out 1).trans rfl⟩ (fun hHeld => ?_)
           clear hK K
           refine norm_ (a' := ?_) ?_ ?_
           rotate_left
           ·show Act.put _ (some 52) _ = _
            simp only [Act.put, List.setIfInBounds_toArray, List.set_cons_zero, List.set_cons_succ, i64_w, i32_w]
            rfl
           refine pure_ (i := 6) (N := some 53) (v := ?_) (a' := ?_) #[true,true,true,true,true,true,true,false,true,false] rfl rfl (any_of HT_.out (by kernel_rfl)) (fun _ _ _ h => h) (Or.inl ⟨by rfl, ?_⟩) ?_ ?_
           rotate_left
           ·intro w'
            go_simp
            with_reducible rfl
           rotate_left
           ·simp only [Act.put, List.setIfInBounds_toArray, List.set_cons_zero, List.set_cons_succ, i64_w, i32_w]
            rfl
           refine pure_ (i := 7) (N := some 54) (v := ?_) (a' := ?_) #[true,true,true,true,true,true,true,true,true,false] rfl rfl (any_of HT_.out (by kernel_rfl)) (fun _ _ _ h => h) (Or.inl ⟨by rfl, ?_⟩) ?_ ?_
           rotate_left
           ·intro w'
            go_simp
            with_reducible rfl
           rotate_left
           ·simp only [Act.put, List.setIfInBounds_toArray, List.set_cons_zero, List.set_cons_succ, i64_w, i32_w]
            rfl
           exact norm_ (by simp only [putAll, Act.put, List.setIfInBounds_toArray, List.set_cons_zero, List.set_cons_succ]) (hCont (gb343) _ ⟨hHeld, (by refine rP ?_;exact Kd.R_mono HL341_0.out (fun _ hk => ⟨hk.1.1.1, ⟨hk.1.1.2.1, ⟨hk.1.2, ⟨hk.1.1.2.2.1, ⟨hk.1.1.2.2.2, hk.2⟩⟩⟩⟩⟩)), (by (with_reducible repeat (first | apply Kd.S_alloc | apply Kd.S_drewN | apply Kd.S_drew));exact Kd.S_mono HO_10.out (fun _ hk => ⟨hk.1.1, ⟨hk.1.2.1, ⟨hk.1.2.2.1, ⟨hk.1.2.2.2, hk.2⟩⟩⟩⟩)), (by (with_reducible repeat (first | apply Kd.S_alloc | apply Kd.S_drewN | apply Kd.S_drew));exact Kd.S_mono HO_41.out (fun _ hk => ⟨hk.1.1, ⟨hk.1.2.1, ⟨hk.1.2.2.1, ⟨hk.1.2.2.2, hk.2⟩⟩⟩⟩)), (by exact kP BK329.out), (by exact kP BK330.out), (by exact kP BK343.out), GW343.out, GE343.out, NB329_343.out, NB343_329.out, NB330_343.out, NB343_330.out, (by exact bB)⟩)
         rintro gb343 w42 ⟨hS_, h0_, h1_, h2_, h3_, h4_, h5_, h6_, h7_, h8_, h9_, h10_, h11_, h12_⟩
         have n0_ : Aside0 (Kd.R (Kd.int .i64) 3 w42 w.heap.size (fun k_ => (w.heap.size ≤ k_) ∧ some k_ ≠ (u10 : Value).ownBlock ∧ some k_ ≠ (.slice (some ad341) t338.length co31 : Value).ownBlock ∧ k_ ≠ gb329 ∧ k_ ≠ gb330 ∧ k_ ≠ gb343) (.slice A341_0 (rd_L2 t338 x43_1).length c341_0) (rd_L2 t338 x43_1)) := ⟨h0_⟩
         have n1_ : Aside0 (Kd.S (Kd.slice 3 (Kd.int .i64)) 25 w42 w.heap.size (fun k_ => (w.heap.size ≤ k_) ∧ some k_ ≠ (.slice (some ad341) t338.length co31 : Value).ownBlock ∧ k_ ≠ gb329 ∧ k_ ≠ gb330 ∧ k_ ≠ gb343) u10 x10_1) := ⟨h1_⟩
         have n2_ : Aside0 (Kd.S (Kd.slice 3 (Kd.int .i64)) 25 w42 w.heap.size (fun k_ => (w.heap.size ≤ k_) ∧ some k_ ≠ (u10 : Value).ownBlock ∧ k_ ≠ gb329 ∧ k_ ≠ gb330 ∧ k_ ≠ gb343) (.slice (some ad341) t338.length co31) t338) := ⟨h2_⟩
         have n3_ : Aside0 (w42.heap[gb329]? = some (.cells #[.slice A0_0 l0_0.length c0_0] 56 (0, 0))) := ⟨h3_⟩
         have n4_ : Aside0 (w42.heap[gb330]? = some (.cells #[.int .i64 a1_0, .int .i64 a1_1] 74 (0, 0))) := ⟨h4_⟩
         have n5_ : Aside0 (w42.heap[gb343]? = some (.cells #[.int .i64 0, .int .i64 0] 74 (0, 0))) := ⟨h5_⟩
         have n6_ : Aside0 (w.heap.size ≤ gb343) := ⟨h6_⟩
         have n7_ : Aside0 (w.heap.size ≤ gb343) := ⟨h7_⟩
         have n8_ : Aside0 (gb329 ≠ gb343) := ⟨h8_⟩
         have n9_ : Aside0 (gb343 ≠ gb329) := ⟨h9_⟩
         have n10_ : Aside0 (gb330 ≠ gb343) := ⟨h10_⟩
         have n11_ : Aside0 (gb343 ≠ gb330) := ⟨h11_⟩
         have n12_ : Aside0 (Below w.heap.size w w42) := ⟨h12_⟩
         clear HO_10
         clear HO_41
         clear HL341_0
         clear BK329
         clear BK330
         clear HR341_0
         clear HB
         clear h0_ h1_ h2_ h3_ h4_ h5_ h6_ h7_ h8_ h9_ h10_ h11_ h12_
         have HL341_0 := n0_
         have HO_10 := n1_
         have HO_41 := n2_
         have BK329 := n3_
         have BK330 := n4_
         have BK343 := n5_
         have GW343 := n6_
         have GE343 := n7_
         have NB329_343 := n8_
         have NB343_329 := n9_
         have NB330_343 := n10_
         have NB343_330 := n11_
         have HB := n12_
         clear n0_ n1_ n2_ n3_ n4_ n5_ n6_ n7_ n8_ n9_ n10_ n11_ n12_
         have hHeld : w42.cell? ⟨gb330, 0, none⟩ = some (.int .i64 a1_0) ∧ w42.cell? ⟨gb330, 1, none⟩ = some (.int .i64 a1_1) := hS_
         refine norm_ (a' := ?_) ?_ ?_
         rotate_left
         ·simp only [putAll, Act.put, List.setIfInBounds_toArray, List.set_cons_zero, List.set_cons_succ]
          rfl
         refine one_ (i := 9) (N := none) #[true,true,true,true,true,true,true,true,true,true] rfl rfl (one_of HT_.out (by kernel_rfl)) (by decide) (fun K hK => ?_)
         have hs43 : w42.cell? ⟨gb343, 0, none⟩ = some (.int .i64 0) := (blk_cell BK343.out 0).trans rfl
         have hfs43 := blk_frozen BK343.out 0
         have hns43_0 := NB329_343.out
         have hns43_1 := NB330_343.out
         have hms43_0 := NB343_329.out
         have hms43_1 := NB343_330.out
         have hs44 : w42.cell? ⟨gb343, 1, none⟩ = some (.int .i64 0) := (blk_cell BK343.out 1).trans rfl
         have hfs44 := blk_frozen BK343.out 1
         have hns44_0 := NB329_343.out
         have hns44_1 := NB330_343.out
         have hms44_0 := NB343_329.out
         have hms44_1 := NB343_330.out
         refine skip_ (w1 := ?_) (by rfl) rfl ?_ ?_
         rotate_left
         ·go_simp
          rfl
         refine hK.out _ _ ⟨((cell_far (p := ⟨gb343, _, none⟩) NB330_343.out _).trans (((cell_far (p := ⟨gb343, _, none⟩) NB330_343.out _).trans (hHeld.1)))), ((cell_far (p := ⟨gb343, _, none⟩) NB330_343.out _).trans (((cell_far (p := ⟨gb343, _, none⟩) NB330_343.out _).trans (hHeld.2))))⟩ (fun hHeld => ?_)
         clear hK K
         refine done_ (done_of HT_.out (by kernel_rfl)) ?_
         try go_wp2
         have n0_ : Aside0 (Kd.S (Kd.slice 3 (Kd.int .i64)) 25 ((w42.setCell ⟨gb343, 0, none⟩ (.int .i64 a1_0)).setCell ⟨gb343, 1, none⟩ (.int .i64 (Go.bits .or .i64 a1_1 t342))) w.heap.size (fun k_ => (w.heap.size ≤ k_) ∧ some k_ ≠ (.slice (some ad341) t338.length co31 : Value).ownBlock ∧ k_ ≠ gb329 ∧ k_ ≠ gb330 ∧ k_ ≠ gb343) u10 x10_1) := ⟨by (with_reducible repeat (first | apply Kd.S_alloc | apply Kd.S_drewN | apply Kd.S_drew));exact Kd.S_mono (Kd.S_far (p := ⟨gb343, 1, none⟩) (Kd.S_far (p := ⟨gb343, 0, none⟩) (Kd.S_mono HO_10.out (fun k_ hk => (⟨hk, hk.2.2.2.2⟩ : _ ∧ k_ ≠ gb343))) (fun _ hk => hk.2) (.int .i64 a1_0)) (fun _ hk => hk.2) (.int .i64 (Go.bits .or .i64 a1_1 t342))) (fun _ hk => ⟨hk.1.1, ⟨hk.1.2.1, ⟨hk.1.2.2.1, ⟨hk.1.2.2.2.1, hk.1.2.2.2.2⟩⟩⟩⟩)⟩
         have n1_ : Aside0 (Kd.S (Kd.slice 3 (Kd.int .i64)) 25 ((w42.setCell ⟨gb343, 0, none⟩ (.int .i64 a1_0)).setCell ⟨gb343, 1, none⟩ (.int .i64 (Go.bits .or .i64 a1_1 t342))) w.heap.size (fun k_ => (w.heap.size ≤ k_) ∧ some k_ ≠ (u10 : Value).ownBlock ∧ k_ ≠ gb329 ∧ k_ ≠ gb330 ∧ k_ ≠ gb343) (.slice (some ad341) t338.length co31) t338) := ⟨by (with_reducible repeat (first | apply Kd.S_alloc | apply Kd.S_drewN | apply Kd.S_drew));exact Kd.S_mono (Kd.S_far (p := ⟨gb343, 1, none⟩) (Kd.S_far (p := ⟨gb343, 0, none⟩) (Kd.S_mono HO_41.out (fun k_ hk => (⟨hk, hk.2.2.2.2⟩ : _ ∧ k_ ≠ gb343))) (fun _ hk => hk.2) (.int .i64 a1_0)) (fun _ hk => hk.2) (.int .i64 (Go.bits .or .i64 a1_1 t342))) (fun _ hk => ⟨hk.1.1, ⟨hk.1.2.1, ⟨hk.1.2.2.1, ⟨hk.1.2.2.2.1, hk.1.2.2.2.2⟩⟩⟩⟩)⟩
         have n2_ : Aside0 (Kd.R (Kd.int .i64) 3 ((w42.setCell ⟨gb343, 0, none⟩ (.int .i64 a1_0)).setCell ⟨gb343, 1, none⟩ (.int .i64 (Go.bits .or .i64 a1_1 t342))) w.heap.size (fun k_ => (w.heap.size ≤ k_) ∧ some k_ ≠ (u10 : Value).ownBlock ∧ some k_ ≠ (.slice (some ad341) t338.length co31 : Value).ownBlock ∧ k_ ≠ gb329 ∧ k_ ≠ gb330 ∧ k_ ≠ gb343) (.slice A341_0 (rd_L2 t338 x43_1).length c341_0) (rd_L2 t338 x43_1)) := ⟨by refine rP ?_;exact Kd.R_mono (Kd.R_far (p := ⟨gb343, 1, none⟩) (Kd.R_far (p := ⟨gb343, 0, none⟩) (Kd.R_mono HL341_0.out (fun k_ hk => (⟨hk, hk.2.2.2.2.2⟩ : _ ∧ k_ ≠ gb343))) (fun _ hk => hk.2) (.int .i64 a1_0)) (fun _ hk => hk.2) (.int .i64 (Go.bits .or .i64 a1_1 t342))) (fun _ hk => ⟨hk.1.1, ⟨hk.1.2.1, ⟨hk.1.2.2.1, ⟨hk.1.2.2.2.1, ⟨hk.1.2.2.2.2.1, hk.1.2.2.2.2.2⟩⟩⟩⟩⟩)⟩
         have n3_ : Aside0 (((w42.setCell ⟨gb343, 0, none⟩ (.int .i64 a1_0)).setCell ⟨gb343, 1, none⟩ (.int .i64 (Go.bits .or .i64 a1_1 t342))).heap[gb329]? = some (.cells #[.slice A0_0 l0_0.length c0_0] 56 (0, 0))) := ⟨by refine kP ?_;refine blk_far ?_ NB329_343.out _;refine kP ?_;refine blk_far ?_ NB329_343.out _;exact kP BK329.out⟩
         have n4_ : Aside0 (((w42.setCell ⟨gb343, 0, none⟩ (.int .i64 a1_0)).setCell ⟨gb343, 1, none⟩ (.int .i64 (Go.bits .or .i64 a1_1 t342))).heap[gb330]? = some (.cells #[.int .i64 a1_0, .int .i64 a1_1] 74 (0, 0))) := ⟨by refine kP ?_;refine blk_far ?_ NB330_343.out _;refine kP ?_;refine blk_far ?_ NB330_343.out _;exact kP BK330.out⟩
         have n5_ : Aside0 (((w42.setCell ⟨gb343, 0, none⟩ (.int .i64 a1_0)).setCell ⟨gb343, 1, none⟩ (.int .i64 (Go.bits .or .i64 a1_1 t342))).heap[gb343]? = some (.cells #[.int .i64 a1_0, .int .i64 (Go.bits .or .i64 a1_1 t342)] 74 (0, 0))) := ⟨by refine kP ?_;refine blk_put (cs := #[.int .i64 a1_0, .int .i64 0]) ?_ 1 _ rfl;refine kP ?_;refine blk_put (cs := #[.int .i64 0, .int .i64 0]) ?_ 0 _ rfl;exact kP BK343.out⟩
         have n6_ : Aside0 (Below w.heap.size w ((w42.setCell ⟨gb343, 0, none⟩ (.int .i64 a1_0)).setCell ⟨gb343, 1, none⟩ (.int .i64 (Go.bits .or .i64 a1_1 t342)))) := ⟨by exact bB⟩
         (try clear HO_10)
         (try clear HO_41)
         (try clear HL341_0)
         (try clear BK329)
         (try clear BK330)
         (try clear BK343)
         (try clear HB)
         generalize ((w42.setCell ⟨gb343, 0, none⟩ (.int .i64 a1_0)).setCell ⟨gb343, 1, none⟩ (.int .i64 (Go.bits .or .i64 a1_1 t342))) = w45 at n0_ n1_ n2_ n3_ n4_ n5_ n6_ ⊢
         have HO_10 := n0_
         have HO_41 := n1_
         have HL341_0 := n2_
         have BK329 := n3_
         have BK330 := n4_
         have BK343 := n5_
         have HB := n6_
         clear n0_ n1_ n2_ n3_ n4_ n5_ n6_
         have n0_ := Aside0.mk (Kd.S_drew HO_10.out)
         have n1_ := Aside0.mk (Kd.S_drew HO_41.out)
         have n2_ := Aside0.mk (Kd.R_drew HL341_0.out)
         have n3_ := Aside0.mk (blk_drew BK329.out)
         have n4_ := Aside0.mk (blk_drew BK330.out)
         have n5_ := Aside0.mk (blk_drew BK343.out)
         have n6_ := Aside0.mk (below_drew1 HB.out)
         clear HO_10
         clear HO_41
         clear HL341_0
         clear BK329
         clear BK330
         clear BK343
         clear HB
         have HO_10 := n0_
         have HO_41 := n1_
         have HL341_0 := n2_
         have BK329 := n3_
         have BK330 := n4_
         have BK343 := n5_
         have HB := n6_
         clear n0_ n1_ n2_ n3_ n4_ n5_ n6_
         refine start_ (n := 8) (S := fun w' => w'.cell? ⟨gb343, 0, none⟩ = some (.int .i64 a1_0) ∧ w'.cell? ⟨gb343, 1, none⟩ = some (.int .i64 (Go.bits .or .i64 a1_1 t342)) ∧ w'.cell? ⟨gb329, 0, none⟩ = some (.slice A0_0 l0_0.length c0_0)) (ds := [7]) #[false,false,false,false,false,false,false,false] (by kernel_rfl) rfl rfl ⟨(blk_cell BK343.out 0).trans rfl, (blk_cell BK343.out 1).trans rfl, (blk_cell BK329.out 0).trans rfl⟩ (fun hHeld => ?_);refine with_tabW impl_net_fightFire.tab9 impl_net_fightFire.bits9 (fun HT_ HW_ => ?_)
         generalize w45.drew = w46 at HO_10 HO_41 HL341_0 BK329 BK330 BK343 HB hHeld ⊢
         refine pure_ (i := 0) (N := some 55) (v := ?_) (a' := ?_) #[true,false,false,false,false,false,false,false] rfl rfl (any_of HT_.out (by kernel_rfl)) (fun _ _ _ h => h) (Or.inl ⟨by rfl, ?_⟩) ?_ ?_
         rotate_left
         ·intro w'
          go_simp
          with_reducible rfl
         rotate_left
         ·simp only [Act.put, List.setIfInBounds_toArray, List.set_cons_zero, List.set_cons_succ, i64_w, i32_w]
          rfl
         refine take_ (i := 1) (N := some 56) (v := ?_) (a' := ?_) #[true,true,false,false,false,false,false,false] rfl rfl (take_ofW HT_.out HW_.out (by kernel_rfl)) (fun _ _ _ h => h) (Or.inl ⟨by rfl, ?_⟩) hHeld ?_ ?_
         rotate_left
         ·rintro w' ⟨s0, s1, s2⟩
          go_simp
          with_reducible rfl
         rotate_left
         ·simp only [Act.put, List.setIfInBounds_toArray, List.set_cons_zero, List.set_cons_succ, i64_w, i32_w]
          rfl
         refine take_ (i := 2) (N := some 57) (v := ?_) (a' := ?_) #[true,true,true,false,false,false,false,false] rfl rfl (take_ofW HT_.out HW_.out (by kernel_rfl)) (fun _ _ _ h => h) (Or.inl ⟨by rfl, ?_⟩) hHeld ?_ ?_
         rotate_left
         ·rintro w' ⟨s0, s1, s2⟩
          go_simp
          with_reducible rfl
         rotate_left
         ·simp only [Act.put, List.setIfInBounds_toArray, List.set_cons_zero, List.set_cons_succ, i64_w, i32_w]
          rfl
         refine take_ (i := 3) (N := some 58) (v := ?_) (a' := ?_) #[true,true,true,true,false,false,false,false] rfl rfl (take_ofW HT_.out HW_.out (by kernel_rfl)) (fun _ _ _ h => h) (Or.inl ⟨by rfl, ?_⟩) hHeld ?_ ?_
         rotate_left
         ·rintro w' ⟨s0, s1, s2⟩
          go_simp
          with_reducible rfl
         rotate_left
         ·simp only [Act.put, List.setIfInBounds_toArray, List.set_cons_zero, List.set_cons_succ, i64_w, i32_w]
          rfl
         refine one_ (i := 4) (N := some 59) #[true,true,true,true,true,false,false,false] rfl rfl (one_of HT_.out (by kernel_rfl)) (by decide) (fun K hK => ?_)
         refine goes_ Try.func87 (by kernel_rfl) rfl #[.agg #[.slice A0_0 l0_0.length c0_0], .agg #[.int .i64 a1_0, .int .i64 (Go.bits .or .i64 a1_1 t342)]] (by rfl) rfl rfl mM ?_
         with_reducible refine (impl_net_threatened.calls k1 _ _ l0_0 a1_0 (Go.bits .or .i64 a1_1 t342) t344 _ ?side1 ?side2 A36.out).mono ?_
         (case side1 => exact cP (Kd.C_below HR0_0.out HB.out))
         (case side2 => exact HC0_0.out)
         rintro e w47 ⟨rfl, hb⟩
         refine ⟨_, rfl, ?_⟩
         have n0_ := Aside0.mk (Kd.S_below (by (with_reducible repeat (first | apply Kd.S_alloc | apply Kd.S_drewN | apply Kd.S_drew));exact HO_10.out) hb)
         have n1_ := Aside0.mk (Kd.S_below (by (with_reducible repeat (first | apply Kd.S_alloc | apply Kd.S_drewN | apply Kd.S_drew));exact HO_41.out) hb)
         have n2_ := Aside0.mk (Kd.R_below (by exact rP HL341_0.out) hb)
         have n3_ := Aside0.mk (blk_below (g := gb329) (o := .cells #[.slice A0_0 l0_0.length c0_0] 56 (0, 0)) (by exact kP BK329.out) hb)
         have n4_ := Aside0.mk (blk_below (g := gb330) (o := .cells #[.int .i64 a1_0, .int .i64 a1_1] 74 (0, 0)) (by exact kP BK330.out) hb)
         have n5_ := Aside0.mk (blk_below (g := gb343) (o := .cells #[.int .i64 a1_0, .int .i64 (Go.bits .or .i64 a1_1 t342)] 74 (0, 0)) (by exact kP BK343.out) hb)
         have n6_ := Aside0.mk (below_step (by exact bB) hb)
         clear HO_10
         clear HO_41
         clear HL341_0
         clear BK329
         clear BK330
         clear BK343
         clear HB
         have HO_10 := n0_
         have HO_41 := n1_
         have HL341_0 := n2_
         have BK329 := n3_
         have BK330 := n4_
         have BK343 := n5_
         have HB := n6_
         clear n0_ n1_ n2_ n3_ n4_ n5_ n6_
         (try clear hb)
         (try clear hb2)
         (try clear hk)
         (try clear hi)
         refine hK.out _ _ ⟨(blk_cell BK343.out 0).trans rfl, (blk_cell BK343.out 1).trans rfl, (blk_cell BK329.out 0).trans rfl⟩ (fun hHeld => ?_)
         clear hK K
         refine norm_ (a' := ?_) ?_ ?_
         rotate_left
         ·show Act.put _ (some 59) _ = _
          simp only [Act.put, List.setIfInBounds_toArray, List.set_cons_zero, List.set_cons_succ, i64_w, i32_w]
          rfl
         refine pure_ (i := 5) (N := some 60) (v := ?_) (a' := ?_) #[true,true,true,true,true,true,false,false] rfl rfl (any_of HT_.out (by kernel_rfl)) (fun _ _ _ h => h) (Or.inl ⟨by rfl, ?_⟩) ?_ ?_
         rotate_left
         ·intro w'
          go_simp
          with_reducible rfl
         rotate_left
         ·simp only [Act.put, List.setIfInBounds_toArray, List.set_cons_zero, List.set_cons_succ, i64_w, i32_w]
          rfl
         refine pure_ (i := 6) (N := some 61) (v := ?_) (a' := ?_) #[true,true,true,true,true,true,true,false] rfl rfl (any_of HT_.out (by kernel_rfl)) (fun _ _ _ h => h) (Or.inl ⟨by rfl, ?_⟩) ?_ ?_
         rotate_left
         ·intro w'
          go_simp
          with_reducible rfl
         rotate_left
         ·simp only [Act.put, List.setIfInBounds_toArray, List.set_cons_zero, List.set_cons_succ, i64_w, i32_w]
          rfl
         refine last_ (i := 7) (N := none) #[true,true,true,true,true,true,true,true] rfl rfl (one_of HT_.out (by kernel_rfl)) (by decide) (fun K hK => ?_)
         have hs48 : w47.cell? ⟨gb343, 0, none⟩ = some (.int .i64 a1_0) := (blk_cell BK343.out 0).trans rfl
         have hfs48 := blk_frozen BK343.out 0
         have hns48_0 := NB329_343.out
         have hns48_1 := NB330_343.out
         have hms48_0 := NB343_329.out
         have hms48_1 := NB343_330.out
         refine skip_ (w1 := ?_) (by rfl) rfl ?_ ?_
         rotate_left
         ·go_simp
          rfl
         refine hK.out _ _ ?_
         clear hK K
         refine done_ (done_of HT_.out (by kernel_rfl)) ?_
         have hnb49 := NB329_330.out
         have hnc49 := NB330_329.out
         have hnb50 := NB329_343.out
         have hnc50 := NB343_329.out
         have hcz51_0 : w47.cell? ⟨gb329, 0, none⟩ = some (.slice A0_0 l0_0.length c0_0) := (blk_cell BK329.out 0).trans rfl
         have hfz51_0 := blk_frozen BK329.out 0
         have hnb52 := NB343_330.out
         have hnc52 := NB330_343.out
         have hcz53_0 : w47.cell? ⟨gb343, 0, none⟩ = some (.int .i64 a1_0) := (blk_cell BK343.out 0).trans rfl
         have hcz53_1 : w47.cell? ⟨gb343, 1, none⟩ = some (.int .i64 (Go.bits .or .i64 a1_1 t342)) := (blk_cell BK343.out 1).trans rfl
         have hfz53_0 := blk_frozen BK343.out 0
         have hfz53_1 := blk_frozen BK343.out 1
         try go_wp2_with (first | ((with_reducible refine gate_callee (f := 52) rfl ?_);refine goesL_ (some 66) rfl rfl Try.func52 (by kernel_rfl) rfl #[.agg #[.slice A0_0 l0_0.length c0_0], .agg #[.int .i64 (Go.bits .or .i64 a1_0 t344), .int .i64 (Go.bits .or .i64 a1_1 t342)], .int .i64 a2] rfl mM ?_;(with_reducible refine (ih k1 (by have := HK1.out;omega) _ _ l0_0 (Go.bits .or .i64 a1_0 t344) (Go.bits .or .i64 a1_1 t342) a2 t345 t346 _ ?side1 ?side2 A37.out).mono ?_);(case side1 => exact Kd.C_below HR0_0.out (by exact bB));(case side2 => exact HC0_0.out);rintro e w54 ⟨v347, rfl, ho0, hb⟩;refine ⟨_, rfl, ?_⟩;obtain ⟨b0_, b1_, hx0_, hx1_, hx2_, hx3_⟩ := plan_split ho0 (Kd.R_mono (Kd.R_far (p := ⟨gb343, 0, none⟩) (Kd.R_mono HL341_0.out (fun k_ hk => (⟨hk, hk.2.2.2.2.2⟩ : _ ∧ k_ ≠ gb343))) (fun _ hk => hk.2) (.int .i64 (Go.bits .or .i64 a1_0 t344))) (fun _ h_ => h_.1)) hb (below_size (by exact bB));have HX4 : Aside0 (∀ k_, b0_ ≤ k_ → (fun k_ => (w.heap.size ≤ k_) ∧ some k_ ≠ (u10 : Value).ownBlock ∧ some k_ ≠ (.slice (some ad341) t338.length co31 : Value).ownBlock ∧ k_ ≠ gb329 ∧ k_ ≠ gb330 ∧ k_ ≠ gb343) k_) := ⟨fun k_ hk0_ => by have hk_ := Nat.le_trans (Nat.le_of_eq hx0_.symm) hk0_;exact ⟨(Nat.le_trans (below_size (by exact bB)) hk_), (Kd.fresh' (Kd.S_lt (by (with_reducible repeat (first | apply Kd.S_alloc | apply Kd.S_drewN | apply Kd.S_drew));exact (Kd.S_mono (Kd.S_far (p := ⟨gb343, 0, none⟩) (Kd.S_mono HO_10.out (fun k_ hk => (⟨hk, hk.2.2.2.2⟩ : _ ∧ k_ ≠ gb343))) (fun _ hk => hk.2) (.int .i64 (Go.bits .or .i64 a1_0 t344))) (fun _ h_ => h_.1)))) k_ hk_), (Kd.fresh' (Kd.S_lt (by (with_reducible repeat (first | apply Kd.S_alloc | apply Kd.S_drewN | apply Kd.S_drew));exact (Kd.S_mono (Kd.S_far (p := ⟨gb343, 0, none⟩) (Kd.S_mono HO_41.out (fun k_ hk => (⟨hk, hk.2.2.2.2⟩ : _ ∧ k_ ≠ gb343))) (fun _ hk => hk.2) (.int .i64 (Go.bits .or .i64 a1_0 t344))) (fun _ h_ => h_.1)))) k_ hk_), (Kd.freshB (g := gb329) (o := .cells #[.slice A0_0 l0_0.length c0_0] 56 (0, 0)) (by refine kP ?_;refine blk_far ?_ NB329_343.out _;exact kP BK329.out) k_ hk_), (Kd.freshB (g := gb330) (o := .cells #[.int .i64 a1_0, .int .i64 a1_1] 74 (0, 0)) (by refine kP ?_;refine blk_far ?_ NB330_343.out _;exact kP BK330.out) k_ hk_), (Kd.freshB (g := gb343) (o := .cells #[.int .i64 (Go.bits .or .i64 a1_0 t344), .int .i64 (Go.bits .or .i64 a1_1 t342)] 74 (0, 0)) (by refine kP ?_;refine blk_put (cs := #[.int .i64 a1_0, .int .i64 (Go.bits .or .i64 a1_1 t342)]) ?_ 0 _ rfl;exact kP BK343.out) k_ hk_)⟩⟩;have HX1 := Aside0.mk hx1_;have HX2 := Aside0.mk hx2_;have HX3 := Aside0.mk hx3_;clear hx0_ hx1_ hx2_ hx3_;have n0_ := Aside0.mk (Kd.S_elder' (by (with_reducible repeat (first | apply Kd.S_alloc | apply Kd.S_drewN | apply Kd.S_drew));exact (Kd.S_mono (Kd.S_far (p := ⟨gb343, 0, none⟩) (Kd.S_mono HO_10.out (fun k_ hk => (⟨hk, hk.2.2.2.2⟩ : _ ∧ k_ ≠ gb343))) (fun _ hk => hk.2) (.int .i64 (Go.bits .or .i64 a1_0 t344))) (fun _ h_ => h_.1))) (Kd.S_base ho0) hb);have n1_ := Aside0.mk (Kd.S_elder' (by (with_reducible repeat (first | apply Kd.S_alloc | apply Kd.S_drewN | apply Kd.S_drew));exact (Kd.S_mono (Kd.S_far (p := ⟨gb343, 0, none⟩) (Kd.S_mono HO_41.out (fun k_ hk => (⟨hk, hk.2.2.2.2⟩ : _ ∧ k_ ≠ gb343))) (fun _ hk => hk.2) (.int .i64 (Go.bits .or .i64 a1_0 t344))) (fun _ h_ => h_.1))) (Kd.S_base ho0) hb);have n2_ := Aside0.mk (Kd.R_elder' (by exact rP ((Kd.R_mono (Kd.R_far (p := ⟨gb343, 0, none⟩) (Kd.R_mono HL341_0.out (fun k_ hk => (⟨hk, hk.2.2.2.2.2⟩ : _ ∧ k_ ≠ gb343))) (fun _ hk => hk.2) (.int .i64 (Go.bits .or .i64 a1_0 t344))) (fun _ h_ => h_.1)))) (Kd.S_base ho0) hb);have n3_ := Aside0.mk (Kd.S_lower (Kd.S_mono (ok' := fun k_ => (w.heap.size ≤ k_) ∧ some k_ ≠ (u10 : Value).ownBlock ∧ some k_ ≠ (.slice (some ad341) t338.length co31 : Value).ownBlock ∧ k_ ≠ gb329 ∧ k_ ≠ gb330 ∧ k_ ≠ gb343) ho0 (fun k_ hk_ => ⟨(Nat.le_trans (below_size (by exact bB)) hk_), (Kd.fresh' (Kd.S_lt (by (with_reducible repeat (first | apply Kd.S_alloc | apply Kd.S_drewN | apply Kd.S_drew));exact (Kd.S_mono (Kd.S_far (p := ⟨gb343, 0, none⟩) (Kd.S_mono HO_10.out (fun k_ hk => (⟨hk, hk.2.2.2.2⟩ : _ ∧ k_ ≠ gb343))) (fun _ hk => hk.2) (.int .i64 (Go.bits .or .i64 a1_0 t344))) (fun _ h_ => h_.1)))) k_ hk_), (Kd.fresh' (Kd.S_lt (by (with_reducible repeat (first | apply Kd.S_alloc | apply Kd.S_drewN | apply Kd.S_drew));exact (Kd.S_mono (Kd.S_far (p := ⟨gb343, 0, none⟩) (Kd.S_mono HO_41.out (fun k_ hk => (⟨hk, hk.2.2.2.2⟩ : _ ∧ k_ ≠ gb343))) (fun _ hk => hk.2) (.int .i64 (Go.bits .or .i64 a1_0 t344))) (fun _ h_ => h_.1)))) k_ hk_), (Kd.freshB (g := gb329) (o := .cells #[.slice A0_0 l0_0.length c0_0] 56 (0, 0)) (by refine kP ?_;refine blk_far ?_ NB329_343.out _;exact kP BK329.out) k_ hk_), (Kd.freshB (g := gb330) (o := .cells #[.int .i64 a1_0, .int .i64 a1_1] 74 (0, 0)) (by refine kP ?_;refine blk_far ?_ NB330_343.out _;exact kP BK330.out) k_ hk_), (Kd.freshB (g := gb343) (o := .cells #[.int .i64 (Go.bits .or .i64 a1_0 t344), .int .i64 (Go.bits .or .i64 a1_1 t342)] 74 (0, 0)) (by refine kP ?_;refine blk_put (cs := #[.int .i64 a1_0, .int .i64 (Go.bits .or .i64 a1_1 t342)]) ?_ 0 _ rfl;exact kP BK343.out) k_ hk_)⟩)) (below_size (by exact bB)));have n4_ := Aside0.mk (blk_below (g := gb329) (o := .cells #[.slice A0_0 l0_0.length c0_0] 56 (0, 0)) (by refine kP ?_;refine blk_far ?_ NB329_343.out _;exact kP BK329.out) hb);have n5_ := Aside0.mk (blk_below (g := gb330) (o := .cells #[.int .i64 a1_0, .int .i64 a1_1] 74 (0, 0)) (by refine kP ?_;refine blk_far ?_ NB330_343.out _;exact kP BK330.out) hb);have n6_ := Aside0.mk (blk_below (g := gb343) (o := .cells #[.int .i64 (Go.bits .or .i64 a1_0 t344), .int .i64 (Go.bits .or .i64 a1_1 t342)] 74 (0, 0)) (by refine kP ?_;refine blk_put (cs := #[.int .i64 a1_0, .int .i64 (Go.bits .or .i64 a1_1 t342)]) ?_ 0 _ rfl;exact kP BK343.out) hb);have n7_ := Aside0.mk (below_step (by exact bB) hb);clear HO_10;clear HO_41;clear HL341_0;clear BK329;clear BK330;clear BK343;clear HB;have HO_10 := n0_;have HO_41 := n1_;have HL341_0 := n2_;have HO348 := n3_;have BK329 := n4_;have BK330 := n5_;have BK343 := n6_;have HB := n7_;clear n0_ n1_ n2_ n3_ n4_ n5_ n6_ n7_;(try clear hb);(try clear hb2);(try clear hk);(try clear hi);(try clear ho0)) | ((with_reducible refine gate_dst (N := 74) rfl ?_);refine S_lit1 (Kd.slice 3 (Kd.int .i64)) w.heap.size 25 ?hg (N' := 74) ?hd (xs := ([rd_L2 t338 x43_1] : List (List Int))) (inner := [.slice A341_0 (rd_L2 t338 x43_1).length c341_0]) (ok := (fun k_ => (fun k_ => (w.heap.size ≤ k_) ∧ some k_ ≠ (u10 : Value).ownBlock ∧ some k_ ≠ (.slice (some ad341) t338.length co31 : Value).ownBlock ∧ k_ ≠ gb329 ∧ k_ ≠ gb330 ∧ k_ ≠ gb343) k_ ∧ ¬ (b0_ ≤ k_ ∧ k_ < b1_))) (okp := (fun k_ => (fun k_ => (w.heap.size ≤ k_) ∧ some k_ ≠ (u10 : Value).ownBlock ∧ some k_ ≠ (.slice (some ad341) t338.length co31 : Value).ownBlock ∧ k_ ≠ gb329 ∧ k_ ≠ gb330 ∧ k_ ≠ gb343) k_ ∧ ¬ (b0_ ≤ k_ ∧ k_ < b1_))) ?hr ?hp rfl (fun _ hk => hk) ?hf (below_size (by exact bB)) ?_;(case hf => exact ⟨(by obtain ⟨hf0_, hf1_, hf2_, hf3_, hf4_, hf5_, hf6_⟩ := ((show ∀ k_, w54.heap.size ≤ k_ → (fun k_ => (w.heap.size ≤ k_) ∧ some k_ ≠ (u10 : Value).ownBlock ∧ some k_ ≠ (.slice (some ad341) t338.length co31 : Value).ownBlock ∧ some k_ ≠ (v347 : Value).ownBlock ∧ k_ ≠ gb329 ∧ k_ ≠ gb330 ∧ k_ ≠ gb343) k_ from fun k_ hk => ⟨(Nat.le_trans (below_size (by exact bB)) hk), Kd.fresh' (Kd.S_lt (by (with_reducible repeat (first | apply Kd.S_alloc | apply Kd.S_drewN | apply Kd.S_drew));exact HO_10.out)) k_ hk, Kd.fresh' (Kd.S_lt (by (with_reducible repeat (first | apply Kd.S_alloc | apply Kd.S_drewN | apply Kd.S_drew));exact HO_41.out)) k_ hk, Kd.fresh' (Kd.S_lt (by (with_reducible repeat (first | apply Kd.S_alloc | apply Kd.S_drewN | apply Kd.S_drew));exact HO348.out)) k_ hk, Kd.freshB (g := gb329) (o := .cells #[.slice A0_0 l0_0.length c0_0] 56 (0, 0)) (by exact kP BK329.out) k_ hk, Kd.freshB (g := gb330) (o := .cells #[.int .i64 a1_0, .int .i64 a1_1] 74 (0, 0)) (by exact kP BK330.out) k_ hk, Kd.freshB (g := gb343) (o := .cells #[.int .i64 (Go.bits .or .i64 a1_0 t344), .int .i64 (Go.bits .or .i64 a1_1 t342)] 74 (0, 0)) (by exact kP BK343.out) k_ hk⟩) _ (Nat.le_refl _));exact ⟨hf0_, hf1_, hf2_, hf4_, hf5_, hf6_⟩), fun h_ => Nat.not_lt.2 (Nat.le_of_eq HX3.out) h_.2⟩);(case hd => rfl);(case hg => rfl);(case hr => first | (go_simp;done) | (go_simp;rfl));(case hp => exact Reps.one (show (Kd.slice 3 (Kd.int .i64)).M _ _ _ (rd_L2 t338 x43_1) [.slice A341_0 (rd_L2 t338 x43_1).length c341_0] from ⟨_, rfl, Kd.R_mono HX2.out (fun k_ hk => ⟨hk.1, fun h_ => Nat.not_lt.2 h_.1 hk.2⟩)⟩) (Reps.none _ _));intro v350 w55 ho56 hb hnew_;(first | rw [← Ny349.out] at ho56 | (simp only [Int.reduceToNat] at ho56;rw [← Ny349.out] at ho56));have n0_ := Aside0.mk (Kd.S_elder' (by (with_reducible repeat (first | apply Kd.S_alloc | apply Kd.S_drewN | apply Kd.S_drew));exact HO_10.out) hnew_ hb);have n1_ := Aside0.mk (Kd.S_elder' (by (with_reducible repeat (first | apply Kd.S_alloc | apply Kd.S_drewN | apply Kd.S_drew));exact HO_41.out) hnew_ hb);have n2_ := Aside0.mk (Kd.R_elder' (by exact rP HL341_0.out) hnew_ hb);have n3_ := Aside0.mk (Kd.S_elder' (by (with_reducible repeat (first | apply Kd.S_alloc | apply Kd.S_drewN | apply Kd.S_drew));exact HO348.out) hnew_ hb);have n4_ := Aside0.mk ho56;have n5_ := Aside0.mk (blk_below (g := gb329) (o := .cells #[.slice A0_0 l0_0.length c0_0] 56 (0, 0)) (by exact kP BK329.out) hb);have n6_ := Aside0.mk (blk_below (g := gb330) (o := .cells #[.int .i64 a1_0, .int .i64 a1_1] 74 (0, 0)) (by exact kP BK330.out) hb);have n7_ := Aside0.mk (blk_below (g := gb343) (o := .cells #[.int .i64 (Go.bits .or .i64 a1_0 t344), .int .i64 (Go.bits .or .i64 a1_1 t342)] 74 (0, 0)) (by exact kP BK343.out) hb);have n8_ := Aside0.mk (below_step (by exact bB) hb);clear HO_10;clear HO_41;clear HL341_0;clear HO348;clear BK329;clear BK330;clear BK343;clear HB;have HO_10 := n0_;have HO_41 := n1_;have HL341_0 := n2_;have HO348 := n3_;have HO351 := n4_;have BK329 := n5_;have BK330 := n6_;have BK343 := n7_;have HB := n8_;clear n0_ n1_ n2_ n3_ n4_ n5_ n6_ n7_ n8_;have HX1_ := Aside0.mk (Kd.S_below HX1.out hb);clear HX1;have HX1 := HX1_;clear HX1_;clear HX2 hnew_;clear hb ho56;obtain ⟨Ao58, co58, eo58⟩ := Kd.S_slice HO348.out;subst eo58) | ((with_reducible refine gate_builtin (b := .append) (xs := #[.tmp 74, .tmp 75]) rfl ?_);at_builtin;refine S_append_own (Kd.slice 3 (Kd.int .i64)) (w0 := w) w.heap.size rfl (.tmp 74) (.tmp 75) 37 25 (.slice none 0 0) 24 rfl Try.underlying37 info25 rfl (by decide) (by omega) v350 y349 t346 _ _ _ (fun k_ => (w.heap.size ≤ k_) ∧ some k_ ≠ (u10 : Value).ownBlock ∧ some k_ ≠ (.slice (some ad341) t338.length co31 : Value).ownBlock ∧ k_ ≠ gb329 ∧ k_ ≠ gb330 ∧ k_ ≠ gb343) (fun k_ => b0_ ≤ k_ ∧ k_ < b1_) rfl rfl ?aO ?aR ?aP ?aF ?aB ?aS ?aL ?_;(case aR => exact HX1.out);(case aP => exact fun k_ hk_ => HX4.out k_ hk_.1);(case aB => exact (by exact bB));(case aF => exact (fun k_ hk => ⟨(Nat.le_trans (below_size (by exact bB)) hk), Kd.fresh' (Kd.S_lt (by (with_reducible repeat (first | apply Kd.S_alloc | apply Kd.S_drewN | apply Kd.S_drew));exact HO_10.out)) k_ hk, Kd.fresh' (Kd.S_lt (by (with_reducible repeat (first | apply Kd.S_alloc | apply Kd.S_drewN | apply Kd.S_drew));exact HO_41.out)) k_ hk, Kd.freshB (g := gb329) (o := .cells #[.slice A0_0 l0_0.length c0_0] 56 (0, 0)) (by exact kP BK329.out) k_ hk, Kd.freshB (g := gb330) (o := .cells #[.int .i64 a1_0, .int .i64 a1_1] 74 (0, 0)) (by exact kP BK330.out) k_ hk, Kd.freshB (g := gb343) (o := .cells #[.int .i64 (Go.bits .or .i64 a1_0 t344), .int .i64 (Go.bits .or .i64 a1_1 t342)] 74 (0, 0)) (by exact kP BK343.out) k_ hk⟩));(case aO => exact HO351.out);(case aS => exact (below_size (by exact bB)));(case aL => have := LMc39.out;omega);intro v353 w57 ho hb hg hat;rw [← Ny352.out] at ho;have n0_ := Aside0.mk (Kd.S_afterv (ok := (fun k_ => (w.heap.size ≤ k_) ∧ some k_ ≠ (.slice (some ad341) t338.length co31 : Value).ownBlock ∧ some k_ ≠ (.slice Ao58 t346.length co58 : Value).ownBlock ∧ k_ ≠ gb329 ∧ k_ ≠ gb330 ∧ k_ ≠ gb343)) (by (with_reducible repeat (first | apply Kd.S_alloc | apply Kd.S_drewN | apply Kd.S_drew));exact Kd.S_mono HO_10.out (fun _ hk => ⟨⟨hk.1.1.1, ⟨hk.1.1.2.1, ⟨hk.1.2, ⟨hk.1.1.2.2.1, ⟨hk.1.1.2.2.2.1, hk.1.1.2.2.2.2⟩⟩⟩⟩⟩, hk.2⟩)) hg hat);have n1_ := Aside0.mk (Kd.S_afterv (ok := (fun k_ => (w.heap.size ≤ k_) ∧ some k_ ≠ (u10 : Value).ownBlock ∧ some k_ ≠ (.slice Ao58 t346.length co58 : Value).ownBlock ∧ k_ ≠ gb329 ∧ k_ ≠ gb330 ∧ k_ ≠ gb343)) (by (with_reducible repeat (first | apply Kd.S_alloc | apply Kd.S_drewN | apply Kd.S_drew));exact Kd.S_mono HO_41.out (fun _ hk => ⟨⟨hk.1.1.1, ⟨hk.1.1.2.1, ⟨hk.1.2, ⟨hk.1.1.2.2.1, ⟨hk.1.1.2.2.2.1, hk.1.1.2.2.2.2⟩⟩⟩⟩⟩, hk.2⟩)) hg hat);have n2_ := Aside0.mk (blk_grown (g := gb329) (o := .cells #[.slice A0_0 l0_0.length c0_0] 56 (0, 0)) (by exact kP BK329.out) hg (Kd.S_ne HO351.out BK329.out (by decide)));have n3_ := Aside0.mk (blk_grown (g := gb330) (o := .cells #[.int .i64 a1_0, .int .i64 a1_1] 74 (0, 0)) (by exact kP BK330.out) hg (Kd.S_ne HO351.out BK330.out (by decide)));have n4_ := Aside0.mk (Kd.R_afterv (ok := (fun k_ => (w.heap.size ≤ k_) ∧ some k_ ≠ (u10 : Value).ownBlock ∧ some k_ ≠ (.slice (some ad341) t338.length co31 : Value).ownBlock ∧ some k_ ≠ (.slice Ao58 t346.length co58 : Value).ownBlock ∧ k_ ≠ gb329 ∧ k_ ≠ gb330 ∧ k_ ≠ gb343)) (by exact rP (Kd.R_mono HL341_0.out (fun _ hk => ⟨⟨hk.1.1.1, ⟨hk.1.1.2.1, ⟨hk.1.1.2.2.1, ⟨hk.1.2, ⟨hk.1.1.2.2.2.1, ⟨hk.1.1.2.2.2.2.1, hk.1.1.2.2.2.2.2⟩⟩⟩⟩⟩⟩, hk.2⟩))) hg hat);have n5_ := Aside0.mk (blk_grown (g := gb343) (o := .cells #[.int .i64 (Go.bits .or .i64 a1_0 t344), .int .i64 (Go.bits .or .i64 a1_1 t342)] 74 (0, 0)) (by exact kP BK343.out) hg (Kd.S_ne HO351.out BK343.out (by decide)));have n6_ := Aside0.mk (Kd.S_afterv (ok := (fun k_ => (w.heap.size ≤ k_) ∧ some k_ ≠ (u10 : Value).ownBlock ∧ some k_ ≠ (.slice (some ad341) t338.length co31 : Value).ownBlock ∧ k_ ≠ gb329 ∧ k_ ≠ gb330 ∧ k_ ≠ gb343)) (by (with_reducible repeat (first | apply Kd.S_alloc | apply Kd.S_drewN | apply Kd.S_drew));exact HO348.out) hg hat);have n7_ := Aside0.mk (hb);have n8_ := Aside0.mk (ho);clear HO_10;clear HO_41;clear BK329;clear BK330;clear HL341_0;clear BK343;clear HO348;clear HB;clear HO351;have HO_10 := n0_;have HO_41 := n1_;have BK329 := n2_;have BK330 := n3_;have HL341_0 := n4_;have BK343 := n5_;have HO348 := n6_;have HB := n7_;have HO354 := n8_;clear n0_ n1_ n2_ n3_ n4_ n5_ n6_ n7_ n8_;clear ho hb hg hat))
         go_roundg k1
         case measure => have := HK1.out;omega
         case rel => exact ⟨(t345), (y352), (wrap64 (x43_1 + 1)), (by first | rfl | (simp;done) | (simp [*];done)), (by first | rfl | (simp;done) | (simp [*];done)), H', ⟨by have := HK1.out;omega⟩, ⟨by (with_reducible repeat (first | apply Kd.S_alloc | apply Kd.S_drewN | apply Kd.S_drew));exact Kd.S_mono HO354.out (fun _ hk => ⟨hk.1, ⟨hk.2.2.1, ⟨hk.2.2.2.1, hk.2.2.2.2.1⟩⟩⟩)⟩, ⟨by (with_reducible repeat (first | apply Kd.S_alloc | apply Kd.S_drewN | apply Kd.S_drew));exact Kd.S_mono HO_41.out (fun _ hk => ⟨hk.1.1, ⟨hk.2, ⟨hk.1.2.2.2.1, hk.1.2.2.2.2.1⟩⟩⟩)⟩, ⟨by exact kP BK329.out⟩, ⟨by exact kP BK330.out⟩, ⟨by exact bB⟩⟩
        ·rw [if_neg c39] at H
         exact absurd H (by simp)
       ·rw [if_neg c38] at H
        have c38b0 : decide (x9_1 < t345) = false := decide_eq_false c38
        clear c38
        have H' := Aside0.mk H
        clear H
        have p341 : 0 ≤ (x43_1 : Int) := oA
        have q341 : x43_1 < (t338.length : Int) := oA
        obtain ⟨ad341, A341_0, c341_0, e341, hx341_0, hl341_0, hi341_0⟩ := at_L2 (Kd.S_reads' HO_41.out).2.2 x43_1 p341 q341
        cases e341
        obtain ⟨ce341, hce341, hMe341, hcc341⟩ := Kd.S_get HO_41.out [] x43_1 p341 (by first | exact q341 | exact oA | (have e_ := (Kd.S_reads' HO_41.out).1;omega))
        obtain ⟨ua341_0, uc341_0, rfl, ul341_0, ge341_0⟩ := M_slice_open hMe341
        have hv341_0 := hcc341 0 _ rfl
        rw [Nat.add_zero, show ((Kd.slice 3 (Kd.int .i64))).sz = 1 from rfl, Nat.mul_one] at hv341_0
        replace hv341_0 := Option.some.inj (hv341_0.symm.trans hx341_0)
        injection hv341_0 with hva_ hvn_ hvc_
        rw [hva_, hvc_] at ge341_0
        rw [hvc_] at ul341_0
        have HL341_0 := Aside0.mk (show Kd.R (Kd.int .i64) 3 _ w.heap.size _ _ (rd_L2 t338 x43_1) from ge341_0)
        clear hva_ hvn_ hvc_ ge341_0 ul341_0
        clear hcc341 hce341
        have HR341_0 := Aside0.mk hi341_0
        have HC341_0 := Aside0.mk hl341_0
        clear hi341_0 hl341_0
        replace p341 := eq_true p341
        replace q341 := eq_true q341
        try go_wp2
        have n0_ := Aside0.mk (Kd.S_drew HO_10.out)
        have n1_ := Aside0.mk (Kd.S_drew HO_41.out)
        have n2_ := Aside0.mk (Kd.R_drew HL341_0.out)
        have n3_ := Aside0.mk (blk_drew BK329.out)
        have n4_ := Aside0.mk (blk_drew BK330.out)
        have n5_ := Aside0.mk (Kd.C_drew HR341_0.out)
        have n6_ := Aside0.mk (below_drew1 HB.out)
        clear HO_10
        clear HO_41
        clear HL341_0
        clear BK329
        clear BK330
        clear HR341_0
        clear HB
        have HO_10 := n0_
        have HO_41 := n1_
        have HL341_0 := n2_
        have BK329 := n3_
        have BK330 := n4_
        have HR341_0 := n5_
        have HB := n6_
        clear n0_ n1_ n2_ n3_ n4_ n5_ n6_
        refine start_ (n := 10) (S := fun w' => w'.cell? ⟨gb330, 0, none⟩ = some (.int .i64 a1_0) ∧ w'.cell? ⟨gb330, 1, none⟩ = some (.int .i64 a1_1)) (ds := []) #[false,false,false,false,false,false,false,false,false,false] (by kernel_rfl) rfl rfl ⟨(blk_cell BK330.out 0).trans rfl, (blk_cell BK330.out 1).trans rfl⟩ (fun hHeld => ?_);refine with_tabW impl_net_fightFire.tab8 impl_net_fightFire.bits8 (fun HT_ HW_ => ?_)
        generalize wr.drew = w59 at HO_10 HO_41 HL341_0 BK329 BK330 HR341_0 HB hHeld ⊢
        refine pure_ (i := 0) (N := some 47) (v := ?_) (a' := ?_) #[true,false,false,false,false,false,false,false,false,false] rfl rfl (any_of HT_.out (by kernel_rfl)) (fun _ _ _ h => h) (Or.inl ⟨by rfl, ?_⟩) ?_ ?_
        rotate_left
        ·intro w'
         go_simp
         with_reducible rfl
        rotate_left
        ·simp only [Act.put, List.setIfInBounds_toArray, List.set_cons_zero, List.set_cons_succ, i64_w, i32_w]
         rfl
        refine pure_ (i := 2) (N := some 49) (v := ?_) (a' := ?_) #[true,false,true,false,false,false,false,false,false,false] rfl rfl (any_of HT_.out (by kernel_rfl)) (fun _ _ _ h => h) (Or.inl ⟨by rfl, ?_⟩) ?_ ?_
        rotate_left
        ·intro w'
         go_simp
         with_reducible rfl
        rotate_left
        ·simp only [Act.put, List.setIfInBounds_toArray, List.set_cons_zero, List.set_cons_succ, i64_w, i32_w]
         rfl
        refine pure_ (i := 4) (N := some 51) (v := ?_) (a' := ?_) #[true,false,true,false,true,false,false,false,false,false] rfl rfl (any_of HT_.out (by kernel_rfl)) (fun _ _ _ h => h) (Or.inl ⟨by rfl, ?_⟩) ?_ ?_
        rotate_left
        ·intro w'
         go_simp
         with_reducible rfl
        rotate_left
        ·simp only [Act.put, List.setIfInBounds_toArray, List.set_cons_zero, List.set_cons_succ, i64_w, i32_w]
         rfl
        refine take_ (i := 1) (N := some 48) (v := ?_) (a' := ?_) #[true,true,true,false,true,false,false,false,false,false] rfl rfl (take_ofW HT_.out HW_.out (by kernel_rfl)) (fun _ _ _ h => h) (Or.inl ⟨by rfl, ?_⟩) hHeld ?_ ?_
        rotate_left
        ·rintro w' ⟨s0, s1⟩
         go_simp
         with_reducible rfl
        rotate_left
        ·simp only [Act.put, List.setIfInBounds_toArray, List.set_cons_zero, List.set_cons_succ, i64_w, i32_w]
         rfl
        refine take_ (i := 3) (N := some 50) (v := ?_) (a' := ?_) #[true,true,true,true,true,false,false,false,false,false] rfl rfl (take_ofW HT_.out HW_.out (by kernel_rfl)) (fun _ _ _ h => h) (Or.inl ⟨by rfl, ?_⟩) hHeld ?_ ?_
        rotate_left
        ·rintro w' ⟨s0, s1⟩
         go_simp
         with_reducible rfl
        rotate_left
        ·simp only [Act.put, List.setIfInBounds_toArray, List.set_cons_zero, List.set_cons_succ, i64_w, i32_w]
         rfl
        refine join_ (σ := Nat) 1 #[true,true,true,true,true,true,true,true,true,false] (fun s_ => [(52, .int .i64 t342), (13, .pointer (some ⟨s_, 0, none⟩)), (53, .int .i64 (Go.bits .or .i64 a1_1 t342)), (54, .agg #[.int .i64 a1_0, .int .i64 (Go.bits .or .i64 a1_1 t342)])]) (fun s_ w' => (w'.cell? ⟨gb330, 0, none⟩ = some (.int .i64 a1_0) ∧ w'.cell? ⟨gb330, 1, none⟩ = some (.int .i64 a1_1)) ∧ (Kd.R (Kd.int .i64) 3 w' w.heap.size (fun k_ => (w.heap.size ≤ k_) ∧ some k_ ≠ (u10 : Value).ownBlock ∧ some k_ ≠ (.slice (some ad341) t338.length co31 : Value).ownBlock ∧ k_ ≠ gb329 ∧ k_ ≠ gb330 ∧ k_ ≠ s_) (.slice A341_0 (rd_L2 t338 x43_1).length c341_0) (rd_L2 t338 x43_1)) ∧ (Kd.S (Kd.slice 3 (Kd.int .i64)) 25 w' w.heap.size (fun k_ => (w.heap.size ≤ k_) ∧ some k_ ≠ (.slice (some ad341) t338.length co31 : Value).ownBlock ∧ k_ ≠ gb329 ∧ k_ ≠ gb330 ∧ k_ ≠ s_) u10 x10_1) ∧ (Kd.S (Kd.slice 3 (Kd.int .i64)) 25 w' w.heap.size (fun k_ => (w.heap.size ≤ k_) ∧ some k_ ≠ (u10 : Value).ownBlock ∧ k_ ≠ gb329 ∧ k_ ≠ gb330 ∧ k_ ≠ s_) (.slice (some ad341) t338.length co31) t338) ∧ (w'.heap[gb329]? = some (.cells #[.slice A0_0 l0_0.length c0_0] 56 (0, 0))) ∧ (w'.heap[gb330]? = some (.cells #[.int .i64 a1_0, .int .i64 a1_1] 74 (0, 0))) ∧ (w'.heap[s_]? = some (.cells #[.int .i64 0, .int .i64 0] 74 (0, 0))) ∧ (w.heap.size ≤ s_) ∧ (w.heap.size ≤ s_) ∧ (gb329 ≠ s_) ∧ (s_ ≠ gb329) ∧ (gb330 ≠ s_) ∧ (s_ ≠ gb330) ∧ (Below w.heap.size w w')) ?_ ?_
        rotate_left
        ·intro hCont
         refine two_ (i := 5) (j := 8) (Ni := some 52) (Nj := some 13) #[true,true,true,true,true,true,false,false,false,false] #[true,true,true,true,true,false,false,false,true,false] rfl rfl rfl rfl (two_of HT_.out (by kernel_rfl)) (by decide) (by decide) (fun K hK => ?_) (fun K hK => ?_)
         ·skip
          refine goes_ Try.func90 (by kernel_rfl) rfl #[.slice A341_0 (rd_L2 t338 x43_1).length c341_0] (by rfl) rfl rfl mM ?_
          with_reducible refine (impl_maskOf.calls k1 _ _ (rd_L2 t338 x43_1) t342 _ ?side1 ?side2 A35.out).mono ?_
          (case side1 => exact cP (by repeat (first | (with_reducible exact HR341_0.out) | (with_reducible refine Kd.C_alloc ?_ _) | (with_reducible refine Kd.C_drewN ?_ _) | (with_reducible refine Kd.C_drew ?_) | exact HR341_0.out)))
          (case side2 => exact HC341_0.out)
          rintro e w' ⟨rfl, ⟨nd, rfl⟩⟩
          refine ⟨_, rfl, ?_⟩
          refine hK.out _ _ ⟨(blk_cell BK330.out 0).trans rfl, (blk_cell BK330.out 1).trans rfl⟩ (fun hHeld => ?_)
          clear hK K
          refine norm_ (a' := ?_) ?_ ?_
          rotate_left
          ·show Act.put _ (some 52) _ = _
           simp only [Act.put, List.setIfInBounds_toArray, List.set_cons_zero, List.set_cons_succ, i64_w, i32_w]
           rfl
          refine pure_ (i := 6) (N := some 53) (v := ?_) (a' := ?_) #[true,true,true,true,true,true,true,false,false,false] rfl rfl (any_of HT_.out (by kernel_rfl)) (fun _ _ _ h => h) (Or.inl ⟨by rfl, ?_⟩) ?_ ?_
          rotate_left
          ·intro w'
           go_simp
           with_reducible rfl
          rotate_left
          ·simp only [Act.put, List.setIfInBounds_toArray, List.set_cons_zero, List.set_cons_succ, i64_w, i32_w]
           rfl
          refine pure_ (i := 7) (N := some 54) (v := ?_) (a' := ?_) #[true,true,true,true,true,true,true,true,false,false] rfl rfl (any_of HT_.out (by kernel_rfl)) (fun _ _ _ h => h) (Or.inl ⟨by rfl, ?_⟩) ?_ ?_
          rotate_left
          ·intro w'
           go_simp
           with_reducible rfl
          rotate_left
          ·simp only [Act.put, List.setIfInBounds_toArray, List.set_cons_zero, List.set_cons_succ, i64_w, i32_w]
           rfl
          refine one_ (i := 8) (N := some 13) #[true,true,true,true,true,true,true,true,true,false] rfl rfl (one_of HT_.out (by kernel_rfl)) (by decide) (fun K hK => ?_)
          refine box_step ?hg (N := 13) ?hd (cs := #[.int .i64 0, .int .i64 0]) (t := 74) ?hr ?_;(case hd => rfl);(case hg => rfl);(case hr => first | (go_simp;done) | (go_simp;rfl))
          intro gb343 hg w60 hbox hb
          have n0_ := Aside0.mk (Kd.S_below (Kd.S_elderB (by (with_reducible repeat (first | apply Kd.S_alloc | apply Kd.S_drewN | apply Kd.S_drew));exact HO_10.out) gb343 (Nat.le_of_eq hg.symm)) hb)
          have n1_ := Aside0.mk (Kd.S_below (Kd.S_elderB (by (with_reducible repeat (first | apply Kd.S_alloc | apply Kd.S_drewN | apply Kd.S_drew));exact HO_41.out) gb343 (Nat.le_of_eq hg.symm)) hb)
          have n2_ := Aside0.mk (Kd.R_below (Kd.R_elderB (by exact rP HL341_0.out) gb343 (Nat.le_of_eq hg.symm)) hb)
          have n3_ := Aside0.mk (blk_below (g := gb329) (o := .cells #[.slice A0_0 l0_0.length c0_0] 56 (0, 0)) (by exact kP BK329.out) hb)
          have n4_ := Aside0.mk (blk_below (g := gb330) (o := .cells #[.int .i64 a1_0, .int .i64 a1_1] 74 (0, 0)) (by exact kP BK330.out) hb)
          have n5_ := Aside0.mk (Kd.C_below (by repeat (first | (with_reducible exact HR341_0.out) | (with_reducible refine Kd.C_alloc ?_ _) | (with_reducible refine Kd.C_drewN ?_ _) | (with_reducible refine Kd.C_drew ?_) | exact HR341_0.out)) hb)
          have n6_ := Aside0.mk (below_step (by exact bB) hb)
          have n7_ := Aside0.mk (hbox)
          have n8_ := Aside0.mk ((by rw [hg];exact (below_size (by exact bB)) : w.heap.size ≤ gb343))
          have n9_ := Aside0.mk ((by rw [hg];exact (below_size (by exact bB)) : w.heap.size ≤ gb343))
          have n10_ := Aside0.mk ((by rw [hg];exact Nat.ne_of_lt (blk_lt (g := gb329) (o := .cells #[.slice A0_0 l0_0.length c0_0] 56 (0, 0)) (by exact kP BK329.out)) : gb329 ≠ gb343))
          have n11_ := Aside0.mk ((by rw [hg];exact Nat.ne_of_gt (blk_lt (g := gb329) (o := .cells #[.slice A0_0 l0_0.length c0_0] 56 (0, 0)) (by exact kP BK329.out)) : gb343 ≠ gb329))
          have n12_ := Aside0.mk ((by rw [hg];exact Nat.ne_of_lt (blk_lt (g := gb330) (o := .cells #[.int .i64 a1_0, .int .i64 a1_1] 74 (0, 0)) (by exact kP BK330.out)) : gb330 ≠ gb343))
          have n13_ := Aside0.mk ((by rw [hg];exact Nat.ne_of_gt (blk_lt (g := gb330) (o := .cells #[.int .i64 a1_0, .int .i64 a1_1] 74 (0, 0)) (by exact kP BK330.out)) : gb343 ≠ gb330))
          clear HO_10
          clear HO_41
          clear HL341_0
          clear BK329
          clear BK330
          clear HR341_0
          clear HB
          have HO_10 := n0_
          have HO_41 := n1_
          have HL341_0 := n2_
          have BK329 := n3_
          have BK330 := n4_
          have HR341_0 := n5_
          have HB := n6_
          have BK343 := n7_
          have GW343 := n8_
          have GE343 := n9_
          have NB329_343 := n10_
          have NB343_329 := n11_
          have NB330_343 := n12_
          have NB343_330 := n13_
          clear n0_ n1_ n2_ n3_ n4_ n5_ n6_ n7_ n8_ n9_ n10_ n11_ n12_ n13_
          clear hb hbox hg
          refine hK.out _ _ ⟨(blk_cell BK330.out 0).trans rfl, (blk_cell BK330.out 1).trans rfl⟩ (fun hHeld => ?_)
          clear hK K
          refine norm_ (a' := ?_) ?_ ?_
          rotate_left
          ·show Act.put _ (some 13) _ = _
           simp only [Act.put, List.setIfInBounds_toArray, List.set_cons_zero, List.set_cons_succ, i64_w, i32_w]
           rfl
          exact norm_ (by simp only [putAll, Act.put, List.setIfInBounds_toArray, List.set_cons_zero, List.set_cons_succ]) (hCont (gb343) _ ⟨hHeld, (by refine rP ?_;exact Kd.R_mono HL341_0.out (fun _ hk => ⟨hk.1.1.1, ⟨hk.1.1.2.1, ⟨hk.1.2, ⟨hk.1.1.2.2.1, ⟨hk.1.1.2.2.2, hk.2⟩⟩⟩⟩⟩)), (by (with_reducible repeat (first | apply Kd.S_alloc | apply Kd.S_drewN | apply Kd.S_drew));exact Kd.S_mono HO_10.out (fun _ hk => ⟨hk.1.1, ⟨hk.1.2.1, ⟨hk.1.2.2.1, ⟨hk.1.2.2.2, hk.2⟩⟩⟩⟩)), (by (with_reducible repeat (first | apply Kd.S_alloc | apply Kd.S_drewN | apply Kd.S_drew));exact Kd.S_mono HO_41.out (fun _ hk => ⟨hk.1.1, ⟨hk.1.2.1, ⟨hk.1.2.2.1, ⟨hk.1.2.2.2, hk.2⟩⟩⟩⟩)), (by exact kP BK329.out), (by exact kP BK330.out), (by exact kP BK343.out), GW343.out, GE343.out, NB329_343.out, NB343_329.out, NB330_343.out, NB343_330.out, (by exact bB)⟩)
         ·skip
          refine box_step ?hg (N := 13) ?hd (cs := #[.int .i64 0, .int .i64 0]) (t := 74) ?hr ?_;(case hd => rfl);(case hg => rfl);(case hr => first | (go_simp;done) | (go_simp;rfl))
          intro gb343 hg w60 hbox hb
          have n0_ := Aside0.mk (Kd.S_below (Kd.S_elderB (by (with_reducible repeat (first | apply Kd.S_alloc | apply Kd.S_drewN | apply Kd.S_drew));exact HO_10.out) gb343 (Nat.le_of_eq hg.symm)) hb)
          have n1_ := Aside0.mk (Kd.S_below (Kd.S_elderB (by (with_reducible repeat (first | apply Kd.S_alloc | apply Kd.S_drewN | apply Kd.S_drew));exact HO_41.out) gb343 (Nat.le_of_eq hg.symm)) hb)
          have n2_ := Aside0.mk (Kd.R_below (Kd.R_elderB (by exact rP HL341_0.out) gb343 (Nat.le_of_eq hg.symm)) hb)
          have n3_ := Aside0.mk (blk_below (g := gb329) (o := .cells #[.slice A0_0 l0_0.length c0_0] 56 (0, 0)) (by exact kP BK329.out) hb)
          have n4_ := Aside0.mk (blk_below (g := gb330) (o := .cells #[.int .i64 a1_0, .int .i64 a1_1] 74 (0, 0)) (by exact kP BK330.out) hb)
          have n5_ := Aside0.mk (Kd.C_below (by repeat (first | (with_reducible exact HR341_0.out) | (with_reducible refine Kd.C_alloc ?_ _) | (with_reducible refine Kd.C_drewN ?_ _) | (with_reducible refine Kd.C_drew ?_) | exact HR341_0.out)) hb)
          have n6_ := Aside0.mk (below_step (by exact bB) hb)
          have n7_ := Aside0.mk (hbox)
          have n8_ := Aside0.mk ((by rw [hg];exact (below_size (by exact bB)) : w.heap.size ≤ gb343))
          have n9_ := Aside0.mk ((by rw [hg];exact (below_size (by exact bB)) : w.heap.size ≤ gb343))
          have n10_ := Aside0.mk ((by rw [hg];exact Nat.ne_of_lt (blk_lt (g := gb329) (o := .cells #[.slice A0_0 l0_0.length c0_0] 56 (0, 0)) (by exact kP BK329.out)) : gb329 ≠ gb343))
          have n11_ := Aside0.mk ((by rw [hg];exact Nat.ne_of_gt (blk_lt (g := gb329) (o := .cells #[.slice A0_0 l0_0.length c0_0] 56 (0, 0)) (by exact kP BK329.out)) : gb343 ≠ gb329))
          have n12_ := Aside0.mk ((by rw [hg];exact Nat.ne_of_lt (blk_lt (g := gb330) (o := .cells #[.int .i64 a1_0, .int .i64 a1_1] 74 (0, 0)) (by exact kP BK330.out)) : gb330 ≠ gb343))
          have n13_ := Aside0.mk ((by rw [hg];exact Nat.ne_of_gt (blk_lt (g := gb330) (o := .cells #[.int .i64 a1_0, .int .i64 a1_1] 74 (0, 0)) (by exact kP BK330.out)) : gb343 ≠ gb330))
          clear HO_10
          clear HO_41
          clear HL341_0
          clear BK329
          clear BK330
          clear HR341_0
          clear HB
          have HO_10 := n0_
          have HO_41 := n1_
          have HL341_0 := n2_
          have BK329 := n3_
          have BK330 := n4_
          have HR341_0 := n5_
          have HB := n6_
          have BK343 := n7_
          have GW343 := n8_
          have GE343 := n9_
          have NB329_343 := n10_
          have NB343_329 := n11_
          have NB330_343 := n12_
          have NB343_330 := n13_
          clear n0_ n1_ n2_ n3_ n4_ n5_ n6_ n7_ n8_ n9_ n10_ n11_ n12_ n13_
          clear hb hbox hg
          refine hK.out _ _ ⟨(blk_cell BK330.out 0).trans rfl, (blk_cell BK330.out 1).trans rfl⟩ (fun hHeld => ?_)
          clear hK K
          refine norm_ (a' := ?_) ?_ ?_
          rotate_left
          ·show Act.put _ (some 13) _ = _
           simp only [Act.put, List.setIfInBounds_toArray, List.set_cons_zero, List.set_cons_succ, i64_w, i32_w]
           rfl
          refine one_ (i := 5) (N := some 52) #[true,true,true,true,true,true,false,false,true,false] rfl rfl (one_of HT_.out (by kernel_rfl)) (by decide) (fun K hK => ?_)
          refine goes_ Try.func90 (by kernel_rfl) rfl #[.slice A341_0 (rd_L2 t338 x43_1).length c341_0] (by rfl) rfl rfl mM ?_
          with_reducible refine (impl_maskOf.calls k1 _ _ (rd_L2 t338 x43_1) t342 _ ?side1 ?side2 A35.out).mono ?_
          (case side1 => exact cP (by repeat (first | (with_reducible exact HR341_0.out) | (with_reducible refine Kd.C_alloc ?_ _) | (with_reducible refine Kd.C_drewN ?_ _) | (with_reducible refine Kd.C_drew ?_) | exact HR341_0.out)))
          (case side2 => exact HC341_0.out)
          rintro e w' ⟨rfl, ⟨nd, rfl⟩⟩
          refine ⟨_, rfl, ?_⟩
          refine hK.out _ _ ⟨(blk_cell BK330.out 0).trans rfl, (blk_cell BK330.out 1).trans rfl⟩ (fun hHeld => ?_)
          clear hK K
          refine norm_ (a' := ?_) ?_ ?_
          rotate_left
          ·show Act.put _ (some 52) _ = _
           simp only [Act.put, List.setIfInBounds_toArray, List.set_cons_zero, List.set_cons_succ, i64_w, i32_w]
           rfl
          refine pure_ (i := 6) (N := some 53) (v := ?_) (a' := ?_) #[true,true,true,true,true,true,true,false,true,false] rfl rfl (any_of HT_.out (by kernel_rfl)) (fun _ _ _ h => h) (Or.inl ⟨by rfl, ?_⟩) ?_ ?_
          rotate_left
          ·intro w'
           go_simp
           with_reducible rfl
          rotate_left
          ·simp only [Act.put, List.setIfInBounds_toArray, List.set_cons_zero, List.set_cons_succ, i64_w, i32_w]
           rfl
          refine pure_ (i := 7) (N := some 54) (v := ?_) (a' := ?_) #[true,true,true,true,true,true,true,true,true,false] rfl rfl (any_of HT_.out (by kernel_rfl)) (fun _ _ _ h => h) (Or.inl ⟨by rfl, ?_⟩) ?_ ?_
          rotate_left
          ·intro w'
           go_simp
           with_reducible rfl
          rotate_left
          ·simp only [Act.put, List.setIfInBounds_toArray, List.set_cons_zero, List.set_cons_succ, i64_w, i32_w]
           rfl
          exact norm_ (by simp only [putAll, Act.put, List.setIfInBounds_toArray, List.set_cons_zero, List.set_cons_succ]) (hCont (gb343) _ ⟨hHeld, (by refine rP ?_;exact Kd.R_mono HL341_0.out (fun _ hk => ⟨hk.1.1.1, ⟨hk.1.1.2.1, ⟨hk.1.2, ⟨hk.1.1.2.2.1, ⟨hk.1.1.2.2.2, hk.2⟩⟩⟩⟩⟩)), (by (with_reducible repeat (first | apply Kd.S_alloc | apply Kd.S_drewN | apply Kd.S_drew));exact Kd.S_mono HO_10.out (fun _ hk => ⟨hk.1.1, ⟨hk.1.2.1, ⟨hk.1.2.2.1, ⟨hk.1.2.2.2, hk.2⟩⟩⟩⟩)), (by (with_reducible repeat (first | apply Kd.S_alloc | apply Kd.S_drewN | apply Kd.S_drew));exact Kd.S_mono HO_41.out (fun _ hk => ⟨hk.1.1, ⟨hk.1.2.1, ⟨hk.1.2.2.1, ⟨hk.1.2.2.2, hk.2⟩⟩⟩⟩)), (by exact kP BK329.out), (by exact kP BK330.out), (by exact kP BK343.out), GW343.out, GE343.out, NB329_343.out, NB343_329.out, NB330_343.out, NB343_330.out, (by exact bB)⟩)
        rintro gb343 w61 ⟨hS_, h0_, h1_, h2_, h3_, h4_, h5_, h6_, h7_, h8_, h9_, h10_, h11_, h12_⟩
        have n0_ : Aside0 (Kd.R (Kd.int .i64) 3 w61 w.heap.size (fun k_ => (w.heap.size ≤ k_) ∧ some k_ ≠ (u10 : Value).ownBlock ∧ some k_ ≠ (.slice (some ad341) t338.length co31 : Value).ownBlock ∧ k_ ≠ gb329 ∧ k_ ≠ gb330 ∧ k_ ≠ gb343) (.slice A341_0 (rd_L2 t338 x43_1).length c341_0) (rd_L2 t338 x43_1)) := ⟨h0_⟩
        have n1_ : Aside0 (Kd.S (Kd.slice 3 (Kd.int .i64)) 25 w61 w.heap.size (fun k_ => (w.heap.size ≤ k_) ∧ some k_ ≠ (.slice (some ad341) t338.length co31 : Value).ownBlock ∧ k_ ≠ gb329 ∧ k_ ≠ gb330 ∧ k_ ≠ gb343) u10 x10_1) := ⟨h1_⟩
        have n2_ : Aside0 (Kd.S (Kd.slice 3 (Kd.int .i64)) 25 w61 w.heap.size (fun k_ => (w.heap.size ≤ k_) ∧ some k_ ≠ (u10 : Value).ownBlock ∧ k_ ≠ gb329 ∧ k_ ≠ gb330 ∧ k_ ≠ gb343) (.slice (some ad341) t338.length co31) t338) := ⟨h2_⟩
        have n3_ : Aside0 (w61.heap[gb329]? = some (.cells #[.slice A0_0 l0_0.length c0_0] 56 (0, 0))) := ⟨h3_⟩
        have n4_ : Aside0 (w61.heap[gb330]? = some (.cells #[.int .i64 a1_0, .int .i64 a1_1] 74 (0, 0))) := ⟨h4_⟩
        have n5_ : Aside0 (w61.heap[gb343]? = some (.cells #[.int .i64 0, .int .i64 0] 74 (0, 0))) := ⟨h5_⟩
        have n6_ : Aside0 (w.heap.size ≤ gb343) := ⟨h6_⟩
        have n7_ : Aside0 (w.heap.size ≤ gb343) := ⟨h7_⟩
        have n8_ : Aside0 (gb329 ≠ gb343) := ⟨h8_⟩
        have n9_ : Aside0 (gb343 ≠ gb329) := ⟨h9_⟩
        have n10_ : Aside0 (gb330 ≠ gb343) := ⟨h10_⟩
        have n11_ : Aside0 (gb343 ≠ gb330) := ⟨h11_⟩
        have n12_ : Aside0 (Below w.heap.size w w61) := ⟨h12_⟩
        clear HO_10
        clear HO_41
        clear HL341_0
        clear BK329
        clear BK330
        clear HR341_0
        clear HB
        clear h0_ h1_ h2_ h3_ h4_ h5_ h6_ h7_ h8_ h9_ h10_ h11_ h12_
        have HL341_0 := n0_
        have HO_10 := n1_
        have HO_41 := n2_
        have BK329 := n3_
        have BK330 := n4_
        have BK343 := n5_
        have GW343 := n6_
        have GE343 := n7_
        have NB329_343 := n8_
        have NB343_329 := n9_
        have NB330_343 := n10_
        have NB343_330 := n11_
        have HB := n12_
        clear n0_ n1_ n2_ n3_ n4_ n5_ n6_ n7_ n8_ n9_ n10_ n11_ n12_
        have hHeld : w61.cell? ⟨gb330, 0, none⟩ = some (.int .i64 a1_0) ∧ w61.cell? ⟨gb330, 1, none⟩ = some (.int .i64 a1_1) := hS_
        refine norm_ (a' := ?_) ?_ ?_
        rotate_left
        ·simp only [putAll, Act.put, List.setIfInBounds_toArray, List.set_cons_zero, List.set_cons_succ]
         rfl
        refine one_ (i := 9) (N := none) #[true,true,true,true,true,true,true,true,true,true] rfl rfl (one_of HT_.out (by kernel_rfl)) (by decide) (fun K hK => ?_)
        have hs62 : w61.cell? ⟨gb343, 0, none⟩ = some (.int .i64 0) := (blk_cell BK343.out 0).trans rfl
        have hfs62 := blk_frozen BK343.out 0
        have hns62_0 := NB329_343.out
        have hns62_1 := NB330_343.out
        have hms62_0 := NB343_329.out
        have hms62_1 := NB343_330.out
        have hs63 : w61.cell? ⟨gb343, 1, none⟩ = some (.int .i64 0) := (blk_cell BK343.out 1).trans rfl
        have hfs63 := blk_frozen BK343.out 1
        have hns63_0 := NB329_343.out
        have hns63_1 := NB330_343.out
        have hms63_0 := NB343_329.out
        have hms63_1 := NB343_330.out
        refine skip_ (w1 := ?_) (by rfl) rfl ?_ ?_
        rotate_left
        ·go_simp
         rfl
        refine hK.out _ _ ⟨((cell_far (p := ⟨gb343, _, none⟩) NB330_343.out _).trans (((cell_far (p := ⟨gb343, _, none⟩) NB330_343.out _).trans (hHeld.1)))), ((cell_far (p := ⟨gb343, _, none⟩) NB330_343.out _).trans (((cell_far (p := ⟨gb343, _, none⟩) NB330_343.out _).trans (hHeld.2))))⟩ (fun hHeld => ?_)
        clear hK K
        refine done_ (done_of HT_.out (by kernel_rfl)) ?_
        try go_wp2
        have n0_ : Aside0 (Kd.S (Kd.slice 3 (Kd.int .i64)) 25 ((w61.setCell ⟨gb343, 0, none⟩ (.int .i64 a1_0)).setCell ⟨gb343, 1, none⟩ (.int .i64 (Go.bits .or .i64 a1_1 t342))) w.heap.size (fun k_ => (w.heap.size ≤ k_) ∧ some k_ ≠ (.slice (some ad341) t338.length co31 : Value).ownBlock ∧ k_ ≠ gb329 ∧ k_ ≠ gb330 ∧ k_ ≠ gb343) u10 x10_1) := ⟨by (with_reducible repeat (first | apply Kd.S_alloc | apply Kd.S_drewN | apply Kd.S_drew));exact Kd.S_mono (Kd.S_far (p := ⟨gb343, 1, none⟩) (Kd.S_far (p := ⟨gb343, 0, none⟩) (Kd.S_mono HO_10.out (fun k_ hk => (⟨hk, hk.2.2.2.2⟩ : _ ∧ k_ ≠ gb343))) (fun _ hk => hk.2) (.int .i64 a1_0)) (fun _ hk => hk.2) (.int .i64 (Go.bits .or .i64 a1_1 t342))) (fun _ hk => ⟨hk.1.1, ⟨hk.1.2.1, ⟨hk.1.2.2.1, ⟨hk.1.2.2.2.1, hk.1.2.2.2.2⟩⟩⟩⟩)⟩
        have n1_ : Aside0 (Kd.S (Kd.slice 3 (Kd.int .i64)) 25 ((w61.setCell ⟨gb343, 0, none⟩ (.int .i64 a1_0)).setCell ⟨gb343, 1, none⟩ (.int .i64 (Go.bits .or .i64 a1_1 t342))) w.heap.size (fun k_ => (w.heap.size ≤ k_) ∧ some k_ ≠ (u10 : Value).ownBlock ∧ k_ ≠ gb329 ∧ k_ ≠ gb330 ∧ k_ ≠ gb343) (.slice (some ad341) t338.length co31) t338) := ⟨by (with_reducible repeat (first | apply Kd.S_alloc | apply Kd.S_drewN | apply Kd.S_drew));exact Kd.S_mono (Kd.S_far (p := ⟨gb343, 1, none⟩) (Kd.S_far (p := ⟨gb343, 0, none⟩) (Kd.S_mono HO_41.out (fun k_ hk => (⟨hk, hk.2.2.2.2⟩ : _ ∧ k_ ≠ gb343))) (fun _ hk => hk.2) (.int .i64 a1_0)) (fun _ hk => hk.2) (.int .i64 (Go.bits .or .i64 a1_1 t342))) (fun _ hk => ⟨hk.1.1, ⟨hk.1.2.1, ⟨hk.1.2.2.1, ⟨hk.1.2.2.2.1, hk.1.2.2.2.2⟩⟩⟩⟩)⟩
        have n2_ : Aside0 (Kd.R (Kd.int .i64) 3 ((w61.setCell ⟨gb343, 0, none⟩ (.int .i64 a1_0)).setCell ⟨gb343, 1, none⟩ (.int .i64 (Go.bits .or .i64 a1_1 t342))) w.heap.size (fun k_ => (w.heap.size ≤ k_) ∧ some k_ ≠ (u10 : Value).ownBlock ∧ some k_ ≠ (.slice (some ad341) t338.length co31 : Value).ownBlock ∧ k_ ≠ gb329 ∧ k_ ≠ gb330 ∧ k_ ≠ gb343) (.slice A341_0 (rd_L2 t338 x43_1).length c341_0) (rd_L2 t338 x43_1)) := ⟨by refine rP ?_;exact Kd.R_mono (Kd.R_far (p := ⟨gb343, 1, none⟩) (Kd.R_far (p := ⟨gb343, 0, none⟩) (Kd.R_mono HL341_0.out (fun k_ hk => (⟨hk, hk.2.2.2.2.2⟩ : _ ∧ k_ ≠ gb343))) (fun _ hk => hk.2) (.int .i64 a1_0)) (fun _ hk => hk.2) (.int .i64 (Go.bits .or .i64 a1_1 t342))) (fun _ hk => ⟨hk.1.1, ⟨hk.1.2.1, ⟨hk.1.2.2.1, ⟨hk.1.2.2.2.1, ⟨hk.1.2.2.2.2.1, hk.1.2.2.2.2.2⟩⟩⟩⟩⟩)⟩
        have n3_ : Aside0 (((w61.setCell ⟨gb343, 0, none⟩ (.int .i64 a1_0)).setCell ⟨gb343, 1, none⟩ (.int .i64 (Go.bits .or .i64 a1_1 t342))).heap[gb329]? = some (.cells #[.slice A0_0 l0_0.length c0_0] 56 (0, 0))) := ⟨by refine kP ?_;refine blk_far ?_ NB329_343.out _;refine kP ?_;refine blk_far ?_ NB329_343.out _;exact kP BK329.out⟩
        have n4_ : Aside0 (((w61.setCell ⟨gb343, 0, none⟩ (.int .i64 a1_0)).setCell ⟨gb343, 1, none⟩ (.int .i64 (Go.bits .or .i64 a1_1 t342))).heap[gb330]? = some (.cells #[.int .i64 a1_0, .int .i64 a1_1] 74 (0, 0))) := ⟨by refine kP ?_;refine blk_far ?_ NB330_343.out _;refine kP ?_;refine blk_far ?_ NB330_343.out _;exact kP BK330.out⟩
        have n5_ : Aside0 (((w61.setCell ⟨gb343, 0, none⟩ (.int .i64 a1_0)).setCell ⟨gb343, 1, none⟩ (.int .i64 (Go.bits .or .i64 a1_1 t342))).heap[gb343]? = some (.cells #[.int .i64 a1_0, .int .i64 (Go.bits .or .i64 a1_1 t342)] 74 (0, 0))) := ⟨by refine kP ?_;refine blk_put (cs := #[.int .i64 a1_0, .int .i64 0]) ?_ 1 _ rfl;refine kP ?_;refine blk_put (cs := #[.int .i64 0, .int .i64 0]) ?_ 0 _ rfl;exact kP BK343.out⟩
        have n6_ : Aside0 (Below w.heap.size w ((w61.setCell ⟨gb343, 0, none⟩ (.int .i64 a1_0)).setCell ⟨gb343, 1, none⟩ (.int .i64 (Go.bits .or .i64 a1_1 t342)))) := ⟨by exact bB⟩
        (try clear HO_10)
        (try clear HO_41)
        (try clear HL341_0)
        (try clear BK329)
        (try clear BK330)
        (try clear BK343)
        (try clear HB)
        generalize ((w61.setCell ⟨gb343, 0, none⟩ (.int .i64 a1_0)).setCell ⟨gb343, 1, none⟩ (.int .i64 (Go.bits .or .i64 a1_1 t342))) = w64 at n0_ n1_ n2_ n3_ n4_ n5_ n6_ ⊢
        have HO_10 := n0_
        have HO_41 := n1_
        have HL341_0 := n2_
        have BK329 := n3_
        have BK330 := n4_
        have BK343 := n5_
        have HB := n6_
        clear n0_ n1_ n2_ n3_ n4_ n5_ n6_
        have n0_ := Aside0.mk (Kd.S_drew HO_10.out)
        have n1_ := Aside0.mk (Kd.S_drew HO_41.out)
        have n2_ := Aside0.mk (Kd.R_drew HL341_0.out)
        have n3_ := Aside0.mk (blk_drew BK329.out)
        have n4_ := Aside0.mk (blk_drew BK330.out)
        have n5_ := Aside0.mk (blk_drew BK343.out)
        have n6_ := Aside0.mk (below_drew1 HB.out)
        clear HO_10
        clear HO_41
        clear HL341_0
        clear BK329
        clear BK330
        clear BK343
        clear HB
        have HO_10 := n0_
        have HO_41 := n1_
        have HL341_0 := n2_
        have BK329 := n3_
        have BK330 := n4_
        have BK343 := n5_
        have HB := n6_
        clear n0_ n1_ n2_ n3_ n4_ n5_ n6_
        refine start_ (n := 8) (S := fun w' => w'.cell? ⟨gb343, 0, none⟩ = some (.int .i64 a1_0) ∧ w'.cell? ⟨gb343, 1, none⟩ = some (.int .i64 (Go.bits .or .i64 a1_1 t342)) ∧ w'.cell? ⟨gb329, 0, none⟩ = some (.slice A0_0 l0_0.length c0_0)) (ds := [7]) #[false,false,false,false,false,false,false,false] (by kernel_rfl) rfl rfl ⟨(blk_cell BK343.out 0).trans rfl, (blk_cell BK343.out 1).trans rfl, (blk_cell BK329.out 0).trans rfl⟩ (fun hHeld => ?_);refine with_tabW impl_net_fightFire.tab9 impl_net_fightFire.bits9 (fun HT_ HW_ => ?_)
        generalize w64.drew = w65 at HO_10 HO_41 HL341_0 BK329 BK330 BK343 HB hHeld ⊢
        refine pure_ (i := 0) (N := some 55) (v := ?_) (a' := ?_) #[true,false,false,false,false,false,false,false] rfl rfl (any_of HT_.out (by kernel_rfl)) (fun _ _ _ h => h) (Or.inl ⟨by rfl, ?_⟩) ?_ ?_
        rotate_left
        ·intro w'
         go_simp
         with_reducible rfl
        rotate_left
        ·simp only [Act.put, List.setIfInBounds_toArray, List.set_cons_zero, List.set_cons_succ, i64_w, i32_w]
         rfl
        refine take_ (i := 1) (N := some 56) (v := ?_) (a' := ?_) #[true,true,false,false,false,false,false,false] rfl rfl (take_ofW HT_.out HW_.out (by kernel_rfl)) (fun _ _ _ h => h) (Or.inl ⟨by rfl, ?_⟩) hHeld ?_ ?_
        rotate_left
        ·rintro w' ⟨s0, s1, s2⟩
         go_simp
         with_reducible rfl
        rotate_left
        ·simp only [Act.put, List.setIfInBounds_toArray, List.set_cons_zero, List.set_cons_succ, i64_w, i32_w]
         rfl
        refine take_ (i := 2) (N := some 57) (v := ?_) (a' := ?_) #[true,true,true,false,false,false,false,false] rfl rfl (take_ofW HT_.out HW_.out (by kernel_rfl)) (fun _ _ _ h => h) (Or.inl ⟨by rfl, ?_⟩) hHeld ?_ ?_
        rotate_left
        ·rintro w' ⟨s0, s1, s2⟩
         go_simp
         with_reducible rfl
        rotate_left
        ·simp only [Act.put, List.setIfInBounds_toArray, List.set_cons_zero, List.set_cons_succ, i64_w, i32_w]
         rfl
        refine take_ (i := 3) (N := some 58) (v := ?_) (a' := ?_) #[true,true,true,true,false,false,false,false] rfl rfl (take_ofW HT_.out HW_.out (by kernel_rfl)) (fun _ _ _ h => h) (Or.inl ⟨by rfl, ?_⟩) hHeld ?_ ?_
        rotate_left
        ·rintro w' ⟨s0, s1, s2⟩
         go_simp
         with_reducible rfl
        rotate_left
        ·simp only [Act.put, List.setIfInBounds_toArray, List.set_cons_zero, List.set_cons_succ, i64_w, i32_w]
         rfl
        refine one_ (i := 4) (N := some 59) #[true,true,true,true,true,false,false,false] rfl rfl (one_of HT_.out (by kernel_rfl)) (by decide) (fun K hK => ?_)
        refine goes_ Try.func87 (by kernel_rfl) rfl #[.agg #[.slice A0_0 l0_0.length c0_0], .agg #[.int .i64 a1_0, .int .i64 (Go.bits .or .i64 a1_1 t342)]] (by rfl) rfl rfl mM ?_
        with_reducible refine (impl_net_threatened.calls k1 _ _ l0_0 a1_0 (Go.bits .or .i64 a1_1 t342) t344 _ ?side1 ?side2 A36.out).mono ?_
        (case side1 => exact cP (Kd.C_below HR0_0.out HB.out))
        (case side2 => exact HC0_0.out)
        rintro e w66 ⟨rfl, hb⟩
        refine ⟨_, rfl, ?_⟩
        have n0_ := Aside0.mk (Kd.S_below (by (with_reducible repeat (first | apply Kd.S_alloc | apply Kd.S_drewN | apply Kd.S_drew));exact HO_10.out) hb)
        have n1_ := Aside0.mk (Kd.S_below (by (with_reducible repeat (first | apply Kd.S_alloc | apply Kd.S_drewN | apply Kd.S_drew));exact HO_41.out) hb)
        have n2_ := Aside0.mk (Kd.R_below (by exact rP HL341_0.out) hb)
        have n3_ := Aside0.mk (blk_below (g := gb329) (o := .cells #[.slice A0_0 l0_0.length c0_0] 56 (0, 0)) (by exact kP BK329.out) hb)
        have n4_ := Aside0.mk (blk_below (g := gb330) (o := .cells #[.int .i64 a1_0, .int .i64 a1_1] 74 (0, 0)) (by exact kP BK330.out) hb)
        have n5_ := Aside0.mk (blk_below (g := gb343) (o := .cells #[.int .i64 a1_0, .int .i64 (Go.bits .or .i64 a1_1 t342)] 74 (0, 0)) (by exact kP BK343.out) hb)
        have n6_ := Aside0.mk (below_step (by exact bB) hb)
        clear HO_10
        clear HO_41
        clear HL341_0
        clear BK329
        clear BK330
        clear BK343
        clear HB
        have HO_10 := n0_
        have HO_41 := n1_
        have HL341_0 := n2_
        have BK329 := n3_
        have BK330 := n4_
        have BK343 := n5_
        have HB := n6_
        clear n0_ n1_ n2_ n3_ n4_ n5_ n6_
        (try clear hb)
        (try clear hb2)
        (try clear hk)
        (try clear hi)
        refine hK.out _ _ ⟨(blk_cell BK343.out 0).trans rfl, (blk_cell BK343.out 1).trans rfl, (blk_cell BK329.out 0).trans rfl⟩ (fun hHeld => ?_)
        clear hK K
        refine norm_ (a' := ?_) ?_ ?_
        rotate_left
        ·show Act.put _ (some 59) _ = _
         simp only [Act.put, List.setIfInBounds_toArray, List.set_cons_zero, List.set_cons_succ, i64_w, i32_w]
         rfl
        refine pure_ (i := 5) (N := some 60) (v := ?_) (a' := ?_) #[true,true,true,true,true,true,false,false] rfl rfl (any_of HT_.out (by kernel_rfl)) (fun _ _ _ h => h) (Or.inl ⟨by rfl, ?_⟩) ?_ ?_
        rotate_left
        ·intro w'
         go_simp
         with_reducible rfl
        rotate_left
        ·simp only [Act.put, List.setIfInBounds_toArray, List.set_cons_zero, List.set_cons_succ, i64_w, i32_w]
         rfl
        refine pure_ (i := 6) (N := some 61) (v := ?_) (a' := ?_) #[true,true,true,true,true,true,true,false] rfl rfl (any_of HT_.out (by kernel_rfl)) (fun _ _ _ h => h) (Or.inl ⟨by rfl, ?_⟩) ?_ ?_
        rotate_left
        ·intro w'
         go_simp
         with_reducible rfl
        rotate_left
        ·simp only [Act.put, List.setIfInBounds_toArray, List.set_cons_zero, List.set_cons_succ, i64_w, i32_w]
         rfl
        refine last_ (i := 7) (N := none) #[true,true,true,true,true,true,true,true] rfl rfl (one_of HT_.out (by kernel_rfl)) (by decide) (fun K hK => ?_)
        have hs67 : w66.cell? ⟨gb343, 0, none⟩ = some (.int .i64 a1_0) := (blk_cell BK343.out 0).trans rfl
        have hfs67 := blk_frozen BK343.out 0
        have hns67_0 := NB329_343.out
        have hns67_1 := NB330_343.out
        have hms67_0 := NB343_329.out
        have hms67_1 := NB343_330.out
        refine skip_ (w1 := ?_) (by rfl) rfl ?_ ?_
        rotate_left
        ·go_simp
         rfl
        refine hK.out _ _ ?_
        clear hK K
        refine done_ (done_of HT_.out (by kernel_rfl)) ?_
        have hnb68 := NB329_330.out
        have hnc68 := NB330_329.out
        have hnb69 := NB329_343.out
        have hnc69 := NB343_329.out
        have hcz70_0 : w66.cell? ⟨gb329, 0, none⟩ = some (.slice A0_0 l0_0.length c0_0) := (blk_cell BK329.out 0).trans rfl
        have hfz70_0 := blk_frozen BK329.out 0
        have hnb71 := NB343_330.out
        have hnc71 := NB330_343.out
        have hcz72_0 : w66.cell? ⟨gb343, 0, none⟩ = some (.int .i64 a1_0) := (blk_cell BK343.out 0).trans rfl
        have hcz72_1 : w66.cell? ⟨gb343, 1, none⟩ = some (.int .i64 (Go.bits .or .i64 a1_1 t342)) := (blk_cell BK343.out 1).trans rfl
        have hfz72_0 := blk_frozen BK343.out 0
        have hfz72_1 := blk_frozen BK343.out 1
        try go_wp2_with (first | ((with_reducible refine gate_callee (f := 52) rfl ?_);refine goesL_ (some 66) rfl rfl Try.func52 (by kernel_rfl) rfl #[.agg #[.slice A0_0 l0_0.length c0_0], .agg #[.int .i64 (Go.bits .or .i64 a1_0 t344), .int .i64 (Go.bits .or .i64 a1_1 t342)], .int .i64 a2] rfl mM ?_;(with_reducible refine (ih k1 (by have := HK1.out;omega) _ _ l0_0 (Go.bits .or .i64 a1_0 t344) (Go.bits .or .i64 a1_1 t342) a2 t345 t346 _ ?side1 ?side2 A37.out).mono ?_);(case side1 => exact Kd.C_below HR0_0.out (by exact bB));(case side2 => exact HC0_0.out);rintro e w73 ⟨v347, rfl, ho0, hb⟩;refine ⟨_, rfl, ?_⟩;have n0_ := Aside0.mk (Kd.S_elder' (by (with_reducible repeat (first | apply Kd.S_alloc | apply Kd.S_drewN | apply Kd.S_drew));exact (Kd.S_mono (Kd.S_far (p := ⟨gb343, 0, none⟩) (Kd.S_mono HO_10.out (fun k_ hk => (⟨hk, hk.2.2.2.2⟩ : _ ∧ k_ ≠ gb343))) (fun _ hk => hk.2) (.int .i64 (Go.bits .or .i64 a1_0 t344))) (fun _ h_ => h_.1))) (Kd.S_base ho0) hb);have n1_ := Aside0.mk (Kd.S_elder' (by (with_reducible repeat (first | apply Kd.S_alloc | apply Kd.S_drewN | apply Kd.S_drew));exact (Kd.S_mono (Kd.S_far (p := ⟨gb343, 0, none⟩) (Kd.S_mono HO_41.out (fun k_ hk => (⟨hk, hk.2.2.2.2⟩ : _ ∧ k_ ≠ gb343))) (fun _ hk => hk.2) (.int .i64 (Go.bits .or .i64 a1_0 t344))) (fun _ h_ => h_.1))) (Kd.S_base ho0) hb);have n2_ := Aside0.mk (Kd.R_elder' (by exact rP ((Kd.R_mono (Kd.R_far (p := ⟨gb343, 0, none⟩) (Kd.R_mono HL341_0.out (fun k_ hk => (⟨hk, hk.2.2.2.2.2⟩ : _ ∧ k_ ≠ gb343))) (fun _ hk => hk.2) (.int .i64 (Go.bits .or .i64 a1_0 t344))) (fun _ h_ => h_.1)))) (Kd.S_base ho0) hb);have n3_ := Aside0.mk (Kd.S_lower (Kd.S_mono (ok' := fun k_ => (w.heap.size ≤ k_) ∧ some k_ ≠ (u10 : Value).ownBlock ∧ some k_ ≠ (.slice (some ad341) t338.length co31 : Value).ownBlock ∧ k_ ≠ gb329 ∧ k_ ≠ gb330 ∧ k_ ≠ gb343) ho0 (fun k_ hk_ => ⟨(Nat.le_trans (below_size (by exact bB)) hk_), (Kd.fresh' (Kd.S_lt (by (with_reducible repeat (first | apply Kd.S_alloc | apply Kd.S_drewN | apply Kd.S_drew));exact (Kd.S_mono (Kd.S_far (p := ⟨gb343, 0, none⟩) (Kd.S_mono HO_10.out (fun k_ hk => (⟨hk, hk.2.2.2.2⟩ : _ ∧ k_ ≠ gb343))) (fun _ hk => hk.2) (.int .i64 (Go.bits .or .i64 a1_0 t344))) (fun _ h_ => h_.1)))) k_ hk_), (Kd.fresh' (Kd.S_lt (by (with_reducible repeat (first | apply Kd.S_alloc | apply Kd.S_drewN | apply Kd.S_drew));exact (Kd.S_mono (Kd.S_far (p := ⟨gb343, 0, none⟩) (Kd.S_mono HO_41.out (fun k_ hk => (⟨hk, hk.2.2.2.2⟩ : _ ∧ k_ ≠ gb343))) (fun _ hk => hk.2) (.int .i64 (Go.bits .or .i64 a1_0 t344))) (fun _ h_ => h_.1)))) k_ hk_), (Kd.freshB (g := gb329) (o := .cells #[.slice A0_0 l0_0.length c0_0] 56 (0, 0)) (by refine kP ?_;refine blk_far ?_ NB329_343.out _;exact kP BK329.out) k_ hk_), (Kd.freshB (g := gb330) (o := .cells #[.int .i64 a1_0, .int .i64 a1_1] 74 (0, 0)) (by refine kP ?_;refine blk_far ?_ NB330_343.out _;exact kP BK330.out) k_ hk_), (Kd.freshB (g := gb343) (o := .cells #[.int .i64 (Go.bits .or .i64 a1_0 t344), .int .i64 (Go.bits .or .i64 a1_1 t342)] 74 (0, 0)) (by refine kP ?_;refine blk_put (cs := #[.int .i64 a1_0, .int .i64 (Go.bits .or .i64 a1_1 t342)]) ?_ 0 _ rfl;exact kP BK343.out) k_ hk_)⟩)) (below_size (by exact bB)));have n4_ := Aside0.mk (blk_below (g := gb329) (o := .cells #[.slice A0_0 l0_0.length c0_0] 56 (0, 0)) (by refine kP ?_;refine blk_far ?_ NB329_343.out _;exact kP BK329.out) hb);have n5_ := Aside0.mk (blk_below (g := gb330) (o := .cells #[.int .i64 a1_0, .int .i64 a1_1] 74 (0, 0)) (by refine kP ?_;refine blk_far ?_ NB330_343.out _;exact kP BK330.out) hb);have n6_ := Aside0.mk (blk_below (g := gb343) (o := .cells #[.int .i64 (Go.bits .or .i64 a1_0 t344), .int .i64 (Go.bits .or .i64 a1_1 t342)] 74 (0, 0)) (by refine kP ?_;refine blk_put (cs := #[.int .i64 a1_0, .int .i64 (Go.bits .or .i64 a1_1 t342)]) ?_ 0 _ rfl;exact kP BK343.out) hb);have n7_ := Aside0.mk (below_step (by exact bB) hb);clear HO_10;clear HO_41;clear HL341_0;clear BK329;clear BK330;clear BK343;clear HB;have HO_10 := n0_;have HO_41 := n1_;have HL341_0 := n2_;have HO348 := n3_;have BK329 := n4_;have BK330 := n5_;have BK343 := n6_;have HB := n7_;clear n0_ n1_ n2_ n3_ n4_ n5_ n6_ n7_;(try clear hb);(try clear hb2);(try clear hk);(try clear hi);(try clear ho0)))
        go_roundg k1
        case measure => have := HK1.out;omega
        case rel => exact ⟨(x9_1), (x10_1), (wrap64 (x43_1 + 1)), (by first | rfl | (simp;done) | (simp [*];done)), (by first | rfl | (simp;done) | (simp [*];done)), H', ⟨by have := HK1.out;omega⟩, ⟨by (with_reducible repeat (first | apply Kd.S_alloc | apply Kd.S_drewN | apply Kd.S_drew));exact Kd.S_mono HO_10.out (fun _ hk => ⟨hk.1.1, ⟨hk.1.2.1, ⟨hk.1.2.2.1, hk.1.2.2.2.1⟩⟩⟩)⟩, ⟨by (with_reducible repeat (first | apply Kd.S_alloc | apply Kd.S_drewN | apply Kd.S_drew));exact Kd.S_mono HO_41.out (fun _ hk => ⟨hk.1.1, ⟨hk.1.2.1, ⟨hk.1.2.2.1, hk.1.2.2.2.1⟩⟩⟩)⟩, ⟨by exact kP BK329.out⟩, ⟨by exact kP BK330.out⟩, ⟨by exact bB⟩⟩
      ·rw [if_neg c34] at H
       exact absurd H (by simp)
     ·rw [if_neg c33] at H
      exact absurd H (by simp)
    ·rw [if_neg c32] at H
     have c32b0 : decide (x43_1 < (t338.length : Int)) = false := decide_eq_false c32
     clear c32
     simp only [Option.some.injEq, Prod.mk.injEq] at H
     obtain ⟨rfl, rfl⟩ := H
     go_wp2
     go_ret2
     exact ⟨_, by first | rfl | (simp [errW_none, errW_some] <;> rfl) | (simp only [← hji18];first | rfl | (simp [errW_none, errW_some] <;> rfl)) | (simp [*, errW_none, errW_some] <;> rfl), by (with_reducible repeat (first | apply Kd.S_alloc | apply Kd.S_drewN | apply Kd.S_drew));exact Kd.S_mono HO_10.out (fun _ hk => hk.1), by exact bB⟩




end Go.Proofs.Ytaddgielnfhhpaa.QBestFirePlan
