import Derived.Test.YtaddgielnfhhpaaQLeastCliqueCover0
import Derived.Test.YtaddgielnfhhpaaQLeastCliqueCover2
import Derived.Test.YtaddgielnfhhpaaQLeastCliqueCover4
namespace Go.Proofs.Ytaddgielnfhhpaa.QLeastCliqueCover
open Go.RowKit Go.Proofs.YtaddgielnfhhpaaW.PrintWords Go.Proofs.YtaddgielnfhhpaaW.PrintLast Go.Proofs.YtaddgielnfhhpaaW.PrintMore
attribute [local go_sem] max2_int min2_int max_two min_two max_three min_three max_four min_four   -- for this text's walks alone
set_option linter.unusedVariables false
set_option linter.unusedSimpArgs false
/-! ### spec_l10Fill: function 75 -/
section
variable {α : Type} {d : Kd α} {e base base' n c g : Nat} {ok ok' S : Nat → Prop} {w W w1 : World} {A : Option Addr} {ad : Addr} {u v v1 : Value} {xs : List α}
/-- A row that is only read, and its own block lies in the world. -/
def VL {α : Type} (d : Kd α) (e : Nat) (W : World) (base : Nat) (ok : Nat → Prop) (v : Value) (xs : List α) : Prop := Kd.V d e W base ok v xs ∧ ∀ k, v.ownBlock = some k → k < W.heap.size
theorem VL_nil (d : Kd α) (e : Nat) (W : World) (base : Nat) (ok : Nat → Prop) : VL d e W base ok (.slice none 0 0) [] := ⟨Kd.V_nil _ _ _ _ _, fun k hk => by simp [Value.ownBlock] at hk⟩
theorem VL_S (h : Kd.S d e W base ok v xs) : VL d e W base' ok v xs := ⟨Kd.S_V h, Kd.S_lt h⟩
theorem VL_lt (h : VL d e W base ok v xs) : ∀ k, v.ownBlock = some k → k < W.heap.size := h.2
theorem VL_slice (h : VL d e W base ok v xs) : ∃ A c, v = .slice A xs.length c := Kd.V_slice h.1
theorem VL_reads' (h : VL d e W base ok (.slice A n c) xs) : n = xs.length ∧ n ≤ c ∧ d.C W A xs.length xs := Kd.V_reads' h.1
theorem VL_F (h : VL d e W base ok (.slice A n c) xs) : Kd.F d W ok A n xs := Kd.V_F h.1
theorem VL_get (h : VL d e W base ok (.slice (some ad) n c) xs) (z : α) (i : Int) (h0 : 0 ≤ i) (h1 : i < n) :
  ∃ cs, cs.length = d.sz ∧ Kd.FK d W ok (xs.getD i.toNat z) cs ∧ ∀ j u, cs[j]? = some u → W.cell? (ad.add (i.toNat * d.sz + j)) = some u := Kd.V_get h.1 z i h0 h1
theorem VL_mono (h : VL d e W base ok v xs) (hok : ∀ k, ok k → ok' k) : VL d e W base ok' v xs := ⟨Kd.V_mono h.1 hok, h.2⟩
theorem VL_lower (h : VL d e W base ok v xs) (hb : base' ≤ base) : VL d e W base' ok v xs := ⟨Kd.V_lower h.1 hb, h.2⟩
theorem VL_below (h : VL d e W base ok v xs) (hb : Below W.heap.size W w1) : VL d e w1 base ok v xs := ⟨Kd.V_below h.1 hb, fun k hk => Nat.lt_of_lt_of_le (h.2 k hk) hb.size⟩
theorem VL_alloc (h : VL d e W base ok v xs) (o : Obj) : VL d e (W.alloc o) base ok v xs := VL_below h (below_alloc (Below.refl _ _) o)
theorem VL_drew (h : VL d e W base ok v xs) : VL d e W.drew base ok v xs := VL_below h (below_drew (Below.refl _ _))
theorem VL_drewN (h : VL d e W base ok v xs) (m : Nat) : VL d e (W.drewN m) base ok v xs := VL_below h (pw_below_drewN (Below.refl _ _) m)
theorem VL_grown (h : VL d e W base ok v xs) {row : Option Nat} (hg : W.grownBy w1 row) (hok : ∀ k, ok k → some k ≠ row) : VL d e w1 base ok v xs := ⟨Kd.V_grown h.1 hg hok, fun k hk => Nat.lt_of_lt_of_le (h.2 k hk) hg.size⟩
theorem VL_far (h : VL d e W base ok v xs) {p : Addr} (hok : ∀ k, ok k → k ≠ p.block) (u : Value) : VL d e (W.setCell p u) base ok v xs := ⟨Kd.V_far h.1 hok u, fun k hk => by simpa [World.setCell] using h.2 k hk⟩
theorem VL_kept (h : VL d e W base ok v xs) (hk : Kept W w1 S) (hok : ∀ k, ok k → ¬ S k) : VL d e w1 base ok v xs := ⟨Kd.V_kept h.1 hk hok, fun k h2 => Nat.lt_of_lt_of_le (h.2 k h2) hk.1⟩
theorem VL_keptB (h : VL d e W base ok v xs) (hk : Kept W w1 S) (hne : ∀ k, ok k → ¬ S k) : VL d e w1 base (fun k => ok k ∧ (¬ S k ∧ k < W.heap.size)) v xs := ⟨Kd.V_keptB h.1 hk hne, fun k h2 => Nat.lt_of_lt_of_le (h.2 k h2) hk.1⟩
theorem VL_afterv (h : VL d e W base (fun k => ok k ∧ some k ≠ v.ownBlock) u xs) (hg : W.grownBy w1 v.ownBlock) (hat : v1.ownBlock = v.ownBlock ∨ ∃ b, v1.ownBlock = some b ∧ W.heap.size ≤ b) : VL d e w1 base (fun k => ok k ∧ some k ≠ v1.ownBlock) u xs := ⟨Kd.V_afterv h.1 hg hat, fun k hk => Nat.lt_of_lt_of_le (h.2 k hk) hg.size⟩
theorem VL_elder' (h : VL d e W base ok v xs) (hbase : ∀ k, u.ownBlock = some k → W.heap.size ≤ k) (hb : Below W.heap.size W w1) : VL d e w1 base (fun k => ok k ∧ some k ≠ u.ownBlock) v xs := ⟨Kd.V_elder' h.1 hbase hb, fun k hk => Nat.lt_of_lt_of_le (h.2 k hk) hb.size⟩
theorem VL_elderB (h : VL d e W base ok v xs) (a : Nat) (ha : W.heap.size ≤ a) : VL d e W base (fun k => ok k ∧ k ≠ a) v xs := ⟨Kd.V_elderB h.1 a ha, h.2⟩
theorem VL_old (h : VL d e W base ok v xs) (hb : Below W.heap.size W w1) : VL d e w1 base (fun k => ok k ∧ k < W.heap.size) v xs := ⟨Kd.V_old h.1 hb, fun k hk => Nat.lt_of_lt_of_le (h.2 k hk) hb.size⟩
theorem VL_apart_nil (h : VL d e W base ok v xs) : VL d e W base (fun k => ok k ∧ some k ≠ (Value.slice none 0 0).ownBlock) v xs := ⟨Kd.V_apart_nil h.1, h.2⟩
end

mutual
def spec_l10Fill.l0 : Nat → List (List Int) → Int → Int → Int → Int → List (S80) → Option ((List (List Int)) × Bool)
 | 0, _, _, _, _, _, _ => none
 | k + 1, x1, x2, x3, x10, x143000, x143001 => if x10 ≤ (x1.length : Int) then (spec_l10Fill.j1 k x1 x2 x3 x10 (decide (x10 < x3)) x143000 x143001) else (spec_l10Fill.j1 k x1 x2 x3 x10 false x143000 x143001)
def spec_l10Fill.j1 : Nat → List (List Int) → Int → Int → Int → Bool → Int → List (S80) → Option ((List (List Int)) × Bool)
 | 0, _, _, _, _, _, _, _ => none
 | k + 1, x1, x2, x3, x10, x28, x143000, x143001 => if x28 = true then (spec_l10Fill.l1 k x1 x2 x3 x10 (([] : List (List Int))) 0 x143000 x143001) else (some ((([] : List (List Int))), false))
def spec_l10Fill.l1 : Nat → List (List Int) → Int → Int → Int → List (List Int) → Int → Int → List (S80) → Option ((List (List Int)) × Bool)
 | 0, _, _, _, _, _, _, _, _ => none
 | k + 1, x1, x2, x3, x10, x11, x12, x143000, x143001 => if x12 < (x1.length : Int) then (if 0 ≤ x12 then ((spec_l1Own.f (rd_L2 x1 x12)).bind fun t150 => (if x11.length < 5864062014805 then (spec_l10Fill.l1 k x1 x2 x3 x10 (x11 ++ [t150]) (wrap64 (x12 + 1)) x143000 x143001) else (none))) else (none)) else (if x10 = (x1.length : Int) then (if x11.length < 5864062014805 then (spec_l10Fill.j3 k x1 x2 x3 x10 (x11 ++ [(([x2] : List Int))]) x143000 x143001) else (none)) else (if 0 ≤ x10 then (if x10 < (x11.length : Int) then (if (rd_L2 x11 x10).length < 17592186044416 then (spec_l10Fill.j3 k x1 x2 x3 x10 (x11.set (x10 : Int).toNat ((rd_L2 x11 x10) ++ [x2])) x143000 x143001) else (none)) else (none)) else (none)))
def spec_l10Fill.j3 : Nat → List (List Int) → Int → Int → Int → List (List Int) → Int → List (S80) → Option ((List (List Int)) × Bool)
 | 0, _, _, _, _, _, _, _ => none
 | k + 1, x1, x2, x3, x10, x11, x143000, x143001 => if 0 ≤ x10 then (if x10 < (x11.length : Int) then ((spec_l10Alike.f k x143000 x143001 (rd_L2 x11 x10) true).bind fun t169 => (if t169 = true then ((spec_l10Fill.f k x143000 x143001 x11 (wrap64 (x2 + 1)) x3).bind fun bt170 => (if bt170.2 = true then (some (bt170.1, true)) else (spec_l10Fill.l0 k x1 x2 x3 (wrap64 (x10 + 1)) x143000 x143001))) else (spec_l10Fill.l0 k x1 x2 x3 (wrap64 (x10 + 1)) x143000 x143001))) else (none)) else (none)
def spec_l10Fill.f : Nat → Int → List (S80) → List (List Int) → Int → Int → Option ((List (List Int)) × Bool)
 | 0, _, _, _, _, _ => none
 | k + 1, a0_0, l0_1, l1, a2, a3 => if a2 = a0_0 then (some (l1, true)) else (spec_l10Fill.l0 k l1 a2 a3 0 a0_0 l0_1)
end
theorem spec_l10Fill.mono_l : ∀ k, (∀ y0 y1 y2 y3 y4, LeO (spec_l10Fill.f k y0 y1 y2 y3 y4) (spec_l10Fill.f (k + 1) y0 y1 y2 y3 y4)) ∧ (∀ y0 y1 y2 y3 y4 y5, LeO (spec_l10Fill.l0 k y0 y1 y2 y3 y4 y5) (spec_l10Fill.l0 (k + 1) y0 y1 y2 y3 y4 y5)) ∧ (∀ y0 y1 y2 y3 y4 y5 y6, LeO (spec_l10Fill.j1 k y0 y1 y2 y3 y4 y5 y6) (spec_l10Fill.j1 (k + 1) y0 y1 y2 y3 y4 y5 y6)) ∧ (∀ y0 y1 y2 y3 y4 y5 y6 y7, LeO (spec_l10Fill.l1 k y0 y1 y2 y3 y4 y5 y6 y7) (spec_l10Fill.l1 (k + 1) y0 y1 y2 y3 y4 y5 y6 y7)) ∧ (∀ y0 y1 y2 y3 y4 y5 y6, LeO (spec_l10Fill.j3 k y0 y1 y2 y3 y4 y5 y6) (spec_l10Fill.j3 (k + 1) y0 y1 y2 y3 y4 y5 y6))
 | 0 => ⟨fun _ _ _ _ _ r h => by simp [spec_l10Fill.f] at h, fun _ _ _ _ _ _ r h => by simp [spec_l10Fill.l0] at h, fun _ _ _ _ _ _ _ r h => by simp [spec_l10Fill.j1] at h, fun _ _ _ _ _ _ _ _ r h => by simp [spec_l10Fill.l1] at h, fun _ _ _ _ _ _ _ r h => by simp [spec_l10Fill.j3] at h⟩
 | k + 1 => by
  obtain ⟨ih0, ih1, ih2, ih3, ih4⟩ := spec_l10Fill.mono_l k
  refine ⟨?_, ?_, ?_, ?_, ?_⟩
  ·intro y0 y1 y2 y3 y4
   unfold spec_l10Fill.f
   repeat' first
   | (with_reducible exact ih0 _ _ _ _ _)
   | (with_reducible exact ih1 _ _ _ _ _ _)
   | (with_reducible exact ih2 _ _ _ _ _ _ _)
   | (with_reducible exact ih3 _ _ _ _ _ _ _ _)
   | (with_reducible exact ih4 _ _ _ _ _ _ _)
   | (with_reducible exact spec_l10Alike.mono _ _ _ _ _)
   | (with_reducible exact LeO.refl _)
   | (with_reducible exact LeO.none _)
   | (with_reducible refine LeO.ite ?_ ?_)
   | (with_reducible refine LeO.bind ?_ (fun _ => ?_))
   | exact ih0 _ _ _ _ _
   | exact ih1 _ _ _ _ _ _
   | exact ih2 _ _ _ _ _ _ _
   | exact ih3 _ _ _ _ _ _ _ _
   | exact ih4 _ _ _ _ _ _ _
   | exact spec_l10Alike.mono _ _ _ _ _
   | exact LeO.none _
   | refine LeO.ite ?_ ?_
   | refine LeO.bind ?_ (fun _ => ?_)
  ·intro y0 y1 y2 y3 y4 y5
   unfold spec_l10Fill.l0
   repeat' first
   | (with_reducible exact ih0 _ _ _ _ _)
   | (with_reducible exact ih1 _ _ _ _ _ _)
   | (with_reducible exact ih2 _ _ _ _ _ _ _)
   | (with_reducible exact ih3 _ _ _ _ _ _ _ _)
   | (with_reducible exact ih4 _ _ _ _ _ _ _)
   | (with_reducible exact spec_l10Alike.mono _ _ _ _ _)
   | (with_reducible exact LeO.refl _)
   | (with_reducible exact LeO.none _)
   | (with_reducible refine LeO.ite ?_ ?_)
   | (with_reducible refine LeO.bind ?_ (fun _ => ?_))
   | exact ih0 _ _ _ _ _
   | exact ih1 _ _ _ _ _ _
   | exact ih2 _ _ _ _ _ _ _
   | exact ih3 _ _ _ _ _ _ _ _
   | exact ih4 _ _ _ _ _ _ _
   | exact spec_l10Alike.mono _ _ _ _ _
   | exact LeO.none _
   | refine LeO.ite ?_ ?_
   | refine LeO.bind ?_ (fun _ => ?_)
  ·intro y0 y1 y2 y3 y4 y5 y6
   unfold spec_l10Fill.j1
   repeat' first
   | (with_reducible exact ih0 _ _ _ _ _)
   | (with_reducible exact ih1 _ _ _ _ _ _)
   | (with_reducible exact ih2 _ _ _ _ _ _ _)
   | (with_reducible exact ih3 _ _ _ _ _ _ _ _)
   | (with_reducible exact ih4 _ _ _ _ _ _ _)
   | (with_reducible exact spec_l10Alike.mono _ _ _ _ _)
   | (with_reducible exact LeO.refl _)
   | (with_reducible exact LeO.none _)
   | (with_reducible refine LeO.ite ?_ ?_)
   | (with_reducible refine LeO.bind ?_ (fun _ => ?_))
   | exact ih0 _ _ _ _ _
   | exact ih1 _ _ _ _ _ _
   | exact ih2 _ _ _ _ _ _ _
   | exact ih3 _ _ _ _ _ _ _ _
   | exact ih4 _ _ _ _ _ _ _
   | exact spec_l10Alike.mono _ _ _ _ _
   | exact LeO.none _
   | refine LeO.ite ?_ ?_
   | refine LeO.bind ?_ (fun _ => ?_)
  ·intro y0 y1 y2 y3 y4 y5 y6 y7
   unfold spec_l10Fill.l1
   repeat' first
   | (with_reducible exact ih0 _ _ _ _ _)
   | (with_reducible exact ih1 _ _ _ _ _ _)
   | (with_reducible exact ih2 _ _ _ _ _ _ _)
   | (with_reducible exact ih3 _ _ _ _ _ _ _ _)
   | (with_reducible exact ih4 _ _ _ _ _ _ _)
   | (with_reducible exact spec_l10Alike.mono _ _ _ _ _)
   | (with_reducible exact LeO.refl _)
   | (with_reducible exact LeO.none _)
   | (with_reducible refine LeO.ite ?_ ?_)
   | (with_reducible refine LeO.bind ?_ (fun _ => ?_))
   | exact ih0 _ _ _ _ _
   | exact ih1 _ _ _ _ _ _
   | exact ih2 _ _ _ _ _ _ _
   | exact ih3 _ _ _ _ _ _ _ _
   | exact ih4 _ _ _ _ _ _ _
   | exact spec_l10Alike.mono _ _ _ _ _
   | exact LeO.none _
   | refine LeO.ite ?_ ?_
   | refine LeO.bind ?_ (fun _ => ?_)
  ·intro y0 y1 y2 y3 y4 y5 y6
   unfold spec_l10Fill.j3
   repeat' first
   | (with_reducible exact ih0 _ _ _ _ _)
   | (with_reducible exact ih1 _ _ _ _ _ _)
   | (with_reducible exact ih2 _ _ _ _ _ _ _)
   | (with_reducible exact ih3 _ _ _ _ _ _ _ _)
   | (with_reducible exact ih4 _ _ _ _ _ _ _)
   | (with_reducible exact spec_l10Alike.mono _ _ _ _ _)
   | (with_reducible exact LeO.refl _)
   | (with_reducible exact LeO.none _)
   | (with_reducible refine LeO.ite ?_ ?_)
   | (with_reducible refine LeO.bind ?_ (fun _ => ?_))
   | exact ih0 _ _ _ _ _
   | exact ih1 _ _ _ _ _ _
   | exact ih2 _ _ _ _ _ _ _
   | exact ih3 _ _ _ _ _ _ _ _
   | exact ih4 _ _ _ _ _ _ _
   | exact spec_l10Alike.mono _ _ _ _ _
   | exact LeO.none _
   | refine LeO.ite ?_ ?_
   | refine LeO.bind ?_ (fun _ => ?_)
theorem spec_l10Fill.mono : ∀ a0 a1 a2 a3 a4 k, LeO (spec_l10Fill.f k a0 a1 a2 a3 a4) (spec_l10Fill.f (k + 1) a0 a1 a2 a3 a4) := by
 intro a0 a1 a2 a3 a4 k
 obtain ⟨ih0, ih1, ih2, ih3, ih4⟩ := spec_l10Fill.mono_l k
 exact ih0 a0 a1 a2 a3 a4
set_option maxHeartbeats 8000000 in
set_option maxRecDepth 100000 in
theorem spec_l10Fill.calls (k : Nat) : ∀ (a0_0 : Int) (A0_1 : Option Addr) (c0_1 : Nat) (l0_1 : List (S80)) (P1_ : Nat → Prop) (A1 : Option Addr) (c1 : Nat) (l1 : List (List Int)) (a2 : Int) (a3 : Int) (r1 : List (List Int)) (r2 : Bool) (w : World) (hr0_1 : Kd.C k80 w A0_1 l0_1.length l0_1) (hc0_1 : l0_1.length ≤ c0_1) (hs1 : VL (Kd.slice 3 (Kd.int .i64)) 25 w w.heap.size (fun k_ => P1_ k_) (.slice A1 l1.length c1) l1) (h : spec_l10Fill.f k a0_0 l0_1 l1 a2 a3 = some (r1, r2)),
  Calls Try.prog 75 #[.agg #[.int .i64 a0_0, .slice A0_1 l0_1.length c0_1], .slice A1 l1.length c1, .int .i64 a2, .int .i64 a3] w fun e w' => ∃ v0_ : Value, e = .returned (.tuple #[v0_, .bool r2]) ∧ VL (Kd.slice 3 (Kd.int .i64)) 25 w' w.heap.size (fun k_ => (P1_ k_ ∨ w.heap.size ≤ k_)) v0_ r1 ∧ Below w.heap.size w w' := by
 induction k using Nat.strongRecOn with
 | _ k ih =>
 intro a0_0 A0_1 c0_1 l0_1 P1_ A1 c1 l1 a2 a3 r1 r2 w hr0_1 hc0_1 hs1 h
 cases k with
 | zero => exact absurd h (by simp [spec_l10Fill.f])
 | succ k =>
 simp only [spec_l10Fill.f] at h
 have hu29 := Try.underlying29
 have HR0_1 := Aside0.mk hr0_1
 have HC0_1 := Aside0.mk hc0_1
 clear hr0_1 hc0_1
 have HO1 := Aside0.mk (show VL (Kd.slice 3 (Kd.int .i64)) 25 w w.heap.size (fun k_ => (P1_ k_ ∨ w.heap.size ≤ k_)) (.slice A1 l1.length c1) l1 from VL_mono hs1 (fun k_ hk => .inl hk))
 have HB := Aside0.mk (Below.refl w.heap.size w)
 have H : (if a2 = a0_0 then (some (l1, true)) else (spec_l10Fill.l0 k l1 a2 a3 0 a0_0 l0_1)) = some (r1, r2) := h
 clear h
 by_cases c5 : a2 = a0_0
 ·rw [if_pos c5] at H
  have c5b0 : (a2 == a0_0) = true := beq_iff_eq.mpr c5
  have c5b1 : (a2 != a0_0) = false := bne_eq_false_iff_eq.mpr c5
  clear c5
  simp only [Option.some.injEq, Prod.mk.injEq] at H
  obtain ⟨rfl, rfl⟩ := H
  go_enter Try.func75, Try.ntmps75
  go_wp2_with (first | ((with_reducible refine gate_dst (N := 4) rfl ?_);refine box_event ?hg (N := 4) ?hd (cs := #[.int .i64 a0_0, .slice A0_1 l0_1.length c0_1]) (t := 29) ?hr ?_;(case hd => rfl);(case hg => rfl);(case hr => first | (go_simp;done) | (go_simp;rfl));intro gb142 hg w6 hbox hb;have n0_ := Aside0.mk (VL_below (VL_elderB (by (with_reducible repeat (first | apply VL_alloc | apply VL_drewN | apply VL_drew));exact HO1.out) gb142 (Nat.le_of_eq hg.symm)) hb);have n1_ := Aside0.mk (below_step (by exact bB) hb);have n2_ := Aside0.mk (hbox);have n3_ := Aside0.mk ((by rw [hg];exact (below_size (by exact bB)) : w.heap.size ≤ gb142));have n4_ := Aside0.mk ((by rw [hg];exact (below_size (by exact bB)) : w.heap.size ≤ gb142));clear HO1;clear HB;have HO1 := n0_;have HB := n1_;have BK142 := n2_;have GW142 := n3_;have GE142 := n4_;clear n0_ n1_ n2_ n3_ n4_;clear hb hbox hg;have hcz7_0 : w6.cell? ⟨gb142, 0, none⟩ = some (.int .i64 a0_0) := (blk_cell BK142.out 0).trans rfl;have hcz7_1 : w6.cell? ⟨gb142, 1, none⟩ = some (.slice A0_1 l0_1.length c0_1) := (blk_cell BK142.out 1).trans rfl;have hfz7_0 := blk_frozen BK142.out 0;have hfz7_1 := blk_frozen BK142.out 1))
  go_ret2
  exact ⟨_, by first | rfl | (simp [errW_none, errW_some] <;> rfl) | (simp [*, errW_none, errW_some] <;> rfl), by (with_reducible repeat (first | apply VL_alloc | apply VL_drewN | apply VL_drew));exact VL_mono HO1.out (fun _ hk => hk.1), by exact bB⟩
 ·rw [if_neg c5] at H
  have c5b0 : (a2 == a0_0) = false := beq_eq_false_iff_ne.mpr c5
  have c5b1 : (a2 != a0_0) = true := bne_iff_ne.mpr c5
  have H' := Aside0.mk H
  clear H
  go_enter Try.func75, Try.ntmps75
  go_wp2_with (first | ((with_reducible refine gate_dst (N := 4) rfl ?_);refine box_event ?hg (N := 4) ?hd (cs := #[.int .i64 a0_0, .slice A0_1 l0_1.length c0_1]) (t := 29) ?hr ?_;(case hd => rfl);(case hg => rfl);(case hr => first | (go_simp;done) | (go_simp;rfl));intro gb142 hg w8 hbox hb;have n0_ := Aside0.mk (VL_below (VL_elderB (by (with_reducible repeat (first | apply VL_alloc | apply VL_drewN | apply VL_drew));exact HO1.out) gb142 (Nat.le_of_eq hg.symm)) hb);have n1_ := Aside0.mk (below_step (by exact bB) hb);have n2_ := Aside0.mk (hbox);have n3_ := Aside0.mk ((by rw [hg];exact (below_size (by exact bB)) : w.heap.size ≤ gb142));have n4_ := Aside0.mk ((by rw [hg];exact (below_size (by exact bB)) : w.heap.size ≤ gb142));clear HO1;clear HB;have HO1 := n0_;have HB := n1_;have BK142 := n2_;have GW142 := n3_;have GE142 := n4_;clear n0_ n1_ n2_ n3_ n4_;clear hb hbox hg;have hcz9_0 : w8.cell? ⟨gb142, 0, none⟩ = some (.int .i64 a0_0) := (blk_cell BK142.out 0).trans rfl;have hcz9_1 : w8.cell? ⟨gb142, 1, none⟩ = some (.slice A0_1 l0_1.length c0_1) := (blk_cell BK142.out 1).trans rfl;have hfz9_0 := blk_frozen BK142.out 0;have hfz9_1 := blk_frozen BK142.out 1))
  go_loopg [10] k (fun kq v10 w' => ∃ (x10_1 : Int), v10 = .int .i64 x10_1 ∧ Aside0 (spec_l10Fill.l0 kq l1 a2 a3 x10_1 a0_0 l0_1 = some (r1, r2)) ∧ Aside0 (kq ≤ k) ∧ Aside0 (VL (Kd.slice 3 (Kd.int .i64)) 25 w' w.heap.size (fun k_ => (P1_ k_ ∨ w.heap.size ≤ k_) ∧ k_ ≠ gb142) (.slice A1 l1.length c1) l1) ∧ Aside0 (w'.heap[gb142]? = some (.cells #[.int .i64 a0_0, (.slice A0_1 l0_1.length c0_1)] 29 (0, 0))) ∧ Aside0 (Below w.heap.size w w'))
  case atStart => exact ⟨(0), (by first | rfl | (simp;done) | (simp [*];done)), H', ⟨Nat.le_refl _⟩, ⟨by (with_reducible repeat (first | apply VL_alloc | apply VL_drewN | apply VL_drew));exact HO1.out⟩, ⟨by exact kP BK142.out⟩, ⟨by exact bB⟩⟩
  case round =>
   clear H'
   try clear c1
   try clear p2
   try clear c5
   try clear c5b0
   try clear c5b1
   try clear c7
   try clear hcz7_0
   try clear hcz7_1
   try clear hcz9_0
   try clear hcz9_1
   try clear hfz7_0
   try clear hfz7_1
   try clear hfz9_0
   try clear hfz9_1
   obtain ⟨x10_1, rfl, HA, HK1, HO_1, BK142, HB⟩ := hrel
   cases gk with
   | zero => exact absurd HA.out (by simp [spec_l10Fill.l0])
   | succ k1 =>
    have H := HA.out
    clear HA
    simp only [spec_l10Fill.l0] at H
    have HC10 := Aside0.mk H
    clear H
    go_upto_region 4 with (fail)
    go_cut [28] (fun v28 wc => ∃ (kq : Nat) (x28_9 : Bool), v28 = .bool x28_9 ∧ Aside0 (spec_l10Fill.j1 kq l1 a2 a3 x10_1 x28_9 a0_0 l0_1 = some (r1, r2)) ∧ Aside0 (kq ≤ k1) ∧ Aside0 (VL (Kd.slice 3 (Kd.int .i64)) 25 wc w.heap.size (fun k_ => (P1_ k_ ∨ w.heap.size ≤ k_) ∧ k_ ≠ gb142) (.slice A1 l1.length c1) l1) ∧ Aside0 (wc.heap[gb142]? = some (.cells #[.int .i64 a0_0, (.slice A0_1 l0_1.length c0_1)] 29 (0, 0))) ∧ Aside0 (Below w.heap.size w wc))
    case first =>
     have H := HC10.out
     clear HC10
     by_cases c11 : x10_1 ≤ (l1.length : Int)
     ·rw [if_pos c11] at H
      have c11b0 : decide (x10_1 ≤ (l1.length : Int)) = true := decide_eq_true c11
      clear c11
      (first | rw [c11b0] | (simp only [i64_w, i32_w];rw [c11b0]) | skip)
      have H' := Aside0.mk H
      clear H
      go_wp2
      go_meet
      case rel => exact ⟨_, (decide (x10_1 < a3)), (by first | rfl | (simp;done) | (simp [*];done)), H', ⟨by have := HK1.out;first | omega | exact Nat.le_refl _⟩, ⟨by (with_reducible repeat (first | apply VL_alloc | apply VL_drewN | apply VL_drew));exact HO_1.out⟩, ⟨by exact kP BK142.out⟩, ⟨by exact bB⟩⟩
     ·rw [if_neg c11] at H
      have c11b0 : decide (x10_1 ≤ (l1.length : Int)) = false := decide_eq_false c11
      clear c11
      (first | rw [c11b0] | (simp only [i64_w, i32_w];rw [c11b0]) | skip)
      have H' := Aside0.mk H
      clear H
      go_wp2
      go_meet
      case rel => exact ⟨_, (false), (by first | rfl | (simp;done) | (simp [*];done)), H', ⟨by have := HK1.out;first | omega | exact Nat.le_refl _⟩, ⟨by (with_reducible repeat (first | apply VL_alloc | apply VL_drewN | apply VL_drew));exact HO_1.out⟩, ⟨by exact kP BK142.out⟩, ⟨by exact bB⟩⟩
    case rest =>
     clear HC10
     try clear c1
     try clear p2
     try clear c5
     try clear c5b0
     try clear c5b1
     try clear c7
     try clear c11
     try clear c11b0
     try clear hcz7_0
     try clear hcz7_1
     try clear hcz9_0
     try clear hcz9_1
     try clear hfz7_0
     try clear hfz7_1
     try clear hfz9_0
     try clear hfz9_1
     try clear p2
     obtain ⟨kq, x28_9, rfl, HA, HJ9, HO_1, BK142, HB⟩ := hcut
     cases kq with
     | zero => exact absurd HA.out (by simp [spec_l10Fill.j1])
     | succ kj9 =>
      have H := HA.out
      clear HA
      simp only [spec_l10Fill.j1] at H
      by_cases c12 : x28_9 = true
      ·subst c12
       have H1 : (spec_l10Fill.l1 kj9 l1 a2 a3 x10_1 (([] : List (List Int))) 0 a0_0 l0_1) = some (r1, r2) := by rw [if_pos rfl] at H;exact H
       clear H
       have H := H1
       clear H1
       obtain ⟨y146, hy146⟩ : ∃ y_ : List (List Int), y_ = (([] : List (List Int))) := ⟨_, rfl⟩
       replace H : (spec_l10Fill.l1 kj9 l1 a2 a3 x10_1 y146 0 a0_0 l0_1) = some (r1, r2) := by first | (rw [hy146];with_reducible exact H) | (have H2_ := (Option.bind_some _ _).symm.trans H;rw [hy146];with_reducible exact H2_) | (have H2_ := (Option.bind_some _ _).symm.trans H;with_reducible exact H2_) | with_reducible exact H | (rw [hy146];exact H) | exact H
       have Ny146 := Aside0.mk hy146
       clear hy146
       have H' := Aside0.mk H
       clear H
       go_wp2_with (first | ((with_reducible refine gate_dst (N := 31) rfl ?_);refine Kd.S_lit (Kd.slice 3 (Kd.int .i64)) _ 25 ?hg (N := 31) ?hd (xs := ([] : List (List Int))) (inner := []) (ok := fun _ => True) (okp := fun _ => True) ?hr ?hp (fun _ hk => hk) trivial (Below.refl _ _) (Nat.le_refl _) (by simp) ?_;(case hd => rfl);(case hg => rfl);(case hr => first | (go_simp;done) | (go_simp;rfl));(case hp => exact (Reps.none _ _));intro v147 w13 ho14 hb hg_ hnew_;clear hg_ hnew_;(first | rw [← Ny146.out] at ho14 | (simp only [Int.reduceToNat] at ho14;rw [← Ny146.out] at ho14));have n0_ := Aside0.mk (VL_elder' (by (with_reducible repeat (first | apply VL_alloc | apply VL_drewN | apply VL_drew));exact HO_1.out) (Kd.S_base ho14) hb);have n1_ := Aside0.mk (Kd.S_lower (Kd.S_newM (M := fun k_ => (w.heap.size ≤ k_)) ho14 (below_size (by exact bB)) (fun k_ h_ => h_)) (below_size (by exact bB)));have n2_ := Aside0.mk (blk_below (g := gb142) (o := .cells #[.int .i64 a0_0, .slice A0_1 l0_1.length c0_1] 29 (0, 0)) (by exact kP BK142.out) hb);have n3_ := Aside0.mk (below_step (by exact bB) hb);clear HO_1;clear BK142;clear HB;have HO_1 := n0_;have HO148 := n1_;have BK142 := n2_;have HB := n3_;clear n0_ n1_ n2_ n3_;clear hb ho14))
       go_loopg [11, 12] kj9 (fun kq v11 v12 w' => ∃ (x11_3 : List (List Int)) (x12_3 : Int), v12 = .int .i64 x12_3 ∧ Aside0 (spec_l10Fill.l1 kq l1 a2 a3 x10_1 x11_3 x12_3 a0_0 l0_1 = some (r1, r2)) ∧ Aside0 (kq ≤ kj9) ∧ Aside0 (VL (Kd.slice 3 (Kd.int .i64)) 25 w' w.heap.size (fun k_ => (P1_ k_ ∨ w.heap.size ≤ k_) ∧ some k_ ≠ (v11 : Value).ownBlock ∧ k_ ≠ gb142) (.slice A1 l1.length c1) l1) ∧ Aside0 (Kd.S (Kd.slice 3 (Kd.int .i64)) 25 w' w.heap.size (fun k_ => (w.heap.size ≤ k_)) v11 x11_3) ∧ Aside0 (w'.heap[gb142]? = some (.cells #[.int .i64 a0_0, (.slice A0_1 l0_1.length c0_1)] 29 (0, 0))) ∧ Aside0 (Below w.heap.size w w'))
       case atStart => exact ⟨(y146), (0), (by first | rfl | (simp;done) | (simp [*];done)), H', ⟨Nat.le_refl _⟩, ⟨by (with_reducible repeat (first | apply VL_alloc | apply VL_drewN | apply VL_drew));exact VL_mono HO_1.out (fun _ hk => ⟨hk.1.1, ⟨hk.2, hk.1.2⟩⟩)⟩, ⟨by (with_reducible repeat (first | apply Kd.S_alloc | apply Kd.S_drewN | apply Kd.S_drew));exact Kd.S_mono HO148.out (fun _ hk => hk.1)⟩, ⟨by exact kP BK142.out⟩, ⟨by exact bB⟩⟩
       case round =>
        clear H'
        try clear c1
        try clear p2
        try clear c5
        try clear c5b0
        try clear c5b1
        try clear c7
        try clear c11
        try clear c11b0
        try clear c12
        try clear hcz7_0
        try clear hcz7_1
        try clear hcz9_0
        try clear hcz9_1
        try clear hfz7_0
        try clear hfz7_1
        try clear hfz9_0
        try clear hfz9_1
        try clear p2
        obtain ⟨x11_3, x12_3, rfl, HA, HK3, HO_1, HO_11, BK142, HB⟩ := hrel
        cases gk with
        | zero => exact absurd HA.out (by simp [spec_l10Fill.l1])
        | succ k3 =>
         have H := HA.out
         clear HA
         simp only [spec_l10Fill.l1] at H
         by_cases c15 : x12_3 < (l1.length : Int)
         ·rw [if_pos c15] at H
          have c15b0 : decide (x12_3 < (l1.length : Int)) = true := decide_eq_true c15
          clear c15
          by_cases c16 : 0 ≤ x12_3
          ·rw [if_pos c16] at H
           have c16b0 : decide (0 ≤ x12_3) = true := decide_eq_true c16
           clear c16
           replace H := Option.bind_eq_some_iff.mp H
           obtain ⟨t150, A170, H⟩ := H
           replace H : (if x11_3.length < 5864062014805 then (spec_l10Fill.l1 k3 l1 a2 a3 x10_1 (x11_3 ++ [t150]) (wrap64 (x12_3 + 1)) a0_0 l0_1) else (none)) = some (r1, r2) := H
           have A17 := Aside0.mk A170
           clear A170
           by_cases c18 : x11_3.length < 5864062014805
           ·rw [if_pos c18] at H
            have LMc18 := Aside0.mk c18
            clear c18
            obtain ⟨y153, hy153⟩ : ∃ y_ : List (List Int), y_ = (x11_3 ++ [t150]) := ⟨_, rfl⟩
            replace H : (spec_l10Fill.l1 k3 l1 a2 a3 x10_1 y153 (wrap64 (x12_3 + 1)) a0_0 l0_1) = some (r1, r2) := by first | (rw [hy153];with_reducible exact H) | (have H2_ := (Option.bind_some _ _).symm.trans H;rw [hy153];with_reducible exact H2_) | (have H2_ := (Option.bind_some _ _).symm.trans H;with_reducible exact H2_) | with_reducible exact H | (rw [hy153];exact H) | exact H
            have Ny153 := Aside0.mk hy153
            clear hy153
            have H' := Aside0.mk H
            clear H
            have p149 : 0 ≤ (x12_3 : Int) := oA
            have q149 : x12_3 < (l1.length : Int) := oA
            obtain ⟨ad149, A149_0, c149_0, e149, hx149_0, hl149_0, hi149_0⟩ := at_L2 (VL_reads' HO_1.out).2.2 x12_3 p149 q149
            cases e149
            obtain ⟨ce149, hce149, hMe149, hcc149⟩ := VL_get HO_1.out [] x12_3 p149 (by first | exact q149 | exact oA | (have e_ := (VL_reads' HO_1.out).1;omega))
            obtain ⟨ua149_0, uc149_0, rfl, ul149_0, ge149_0⟩ := Kd.FK_slice_open hMe149
            have hv149_0 := hcc149 0 _ rfl
            rw [Nat.add_zero, show ((Kd.slice 3 (Kd.int .i64))).sz = 1 from rfl, Nat.mul_one] at hv149_0
            replace hv149_0 := Option.some.inj (hv149_0.symm.trans hx149_0)
            injection hv149_0 with hva_ hvn_ hvc_
            rw [hva_] at ge149_0
            rw [hvc_] at ul149_0
            have HL149_0 := Aside0.mk (show Kd.V (Kd.int .i64) 3 _ w.heap.size _ _ (rd_L2 l1 x12_3) from Kd.V_mk ul149_0 ge149_0)
            clear hva_ hvn_ hvc_ ge149_0 ul149_0
            clear hcc149 hce149
            have HR149_0 := Aside0.mk hi149_0
            have HC149_0 := Aside0.mk hl149_0
            clear hi149_0 hl149_0
            replace p149 := eq_true p149
            replace q149 := eq_true q149
            go_wp2_with (first | ((with_reducible refine gate_callee (f := 104) rfl ?_);refine goesL_ (some 43) rfl rfl Try.func104 (by kernel_rfl) rfl #[.slice A149_0 (rd_L2 l1 x12_3).length c149_0] rfl mM ?_;(with_reducible refine (spec_l1Own.calls _ _ (rd_L2 l1 x12_3) t150 _ ?side1 ?side2 A17.out).mono ?_);(case side1 => exact cP (by repeat (first | (with_reducible exact HR149_0.out) | (with_reducible refine Kd.C_alloc ?_ _) | (with_reducible refine Kd.C_drewN ?_ _) | (with_reducible refine Kd.C_drew ?_) | exact HR149_0.out)));(case side2 => exact HC149_0.out);rintro e w19 ⟨v151, rfl, ho0, hb⟩;refine ⟨_, rfl, ?_⟩;have n0_ := Aside0.mk (VL_elder' (by (with_reducible repeat (first | apply VL_alloc | apply VL_drewN | apply VL_drew));exact HO_1.out) (Kd.R_base ho0) hb);have n1_ := Aside0.mk (Kd.S_elder' (by (with_reducible repeat (first | apply Kd.S_alloc | apply Kd.S_drewN | apply Kd.S_drew));exact HO_11.out) (Kd.R_base ho0) hb);have n2_ := Aside0.mk (Kd.V_elder' (by (with_reducible repeat (first | apply Kd.V_alloc | apply Kd.V_drewN | apply Kd.V_drew));exact HL149_0.out) (Kd.R_base ho0) hb);have n3_ := Aside0.mk (Kd.R_lower (Kd.R_newM (M := fun k_ => (w.heap.size ≤ k_)) ho0 (below_size (by exact bB)) (fun k_ h_ => h_)) (below_size (by exact bB)));have n4_ := Aside0.mk (blk_below (g := gb142) (o := .cells #[.int .i64 a0_0, .slice A0_1 l0_1.length c0_1] 29 (0, 0)) (by exact kP BK142.out) hb);have n5_ := Aside0.mk (Kd.C_below (by repeat (first | (with_reducible exact HR149_0.out) | (with_reducible refine Kd.C_alloc ?_ _) | (with_reducible refine Kd.C_drewN ?_ _) | (with_reducible refine Kd.C_drew ?_) | exact HR149_0.out)) hb);have n6_ := Aside0.mk (below_step (by exact bB) hb);clear HO_1;clear HO_11;clear HL149_0;clear BK142;clear HR149_0;clear HB;have HO_1 := n0_;have HO_11 := n1_;have HL149_0 := n2_;have HO152 := n3_;have BK142 := n4_;have HR149_0 := n5_;have HB := n6_;clear n0_ n1_ n2_ n3_ n4_ n5_ n6_;(try clear hb);(try clear hb2);(try clear hk);(try clear hi);(try clear ho0);obtain ⟨Ao21, co21, eo21⟩ := Kd.R_slice HO152.out;subst eo21) | ((with_reducible refine gate_builtin (b := .append) (xs := #[.tmp 38, .tmp 44]) rfl ?_);at_builtin;refine Kd.S_append (Kd.slice 3 (Kd.int .i64)) (w0 := w) w.heap.size rfl (.tmp 38) (.tmp 44) 37 25 (.slice none 0 0) 24 rfl Try.underlying37 info25 rfl (by decide) (by omega) u11 x11_3 t150 [.slice Ao21 t150.length co21] (fun k_ => (w.heap.size ≤ k_)) (fun k_ => some k_ = (.slice Ao21 t150.length co21 : Value).ownBlock) rfl rfl ?aP (fun k_ hk_ => ((Kd.R_mono (ok' := fun k_ => ((fun k_ => (w.heap.size ≤ k_))) k_ ∧ some k_ ≠ (u11 : Value).ownBlock) (Kd.R_apart' (HO152.out) (Kd.S_typed HO_11.out) (by decide)) (fun k_ hk => ⟨hk.1.1, hk.2⟩))).1 k_ hk_.symm) ?aF ?aO ?aB ?aS ?aL ?_;(case aP => exact Kd.M_row (Kd.R_mono (Kd.R_tight rfl (Kd.R_mono (ok' := fun k_ => ((fun k_ => (w.heap.size ≤ k_))) k_ ∧ some k_ ≠ (u11 : Value).ownBlock) (Kd.R_apart' (HO152.out) (Kd.S_typed HO_11.out) (by decide)) (fun k_ hk => ⟨hk.1.1, hk.2⟩))) (fun _ h_ => h_)));(case aB => exact (by exact bB));(case aF => exact (fun k_ hk => (Nat.le_trans (below_size (by exact bB)) hk)));(case aO => exact (by (with_reducible repeat (first | apply Kd.S_alloc | apply Kd.S_drewN | apply Kd.S_drew));exact Kd.S_mono HO_11.out (fun k_ hk => ⟨hk.1, fun e_ => hk.2 e_⟩)));(case aS => exact (below_size (by exact bB)));(case aL => have := LMc18.out;omega);intro v154 w20 ho hb hg hat;rw [← Ny153.out] at ho;have n0_ := Aside0.mk (VL_afterv (ok := (fun k_ => (P1_ k_ ∨ w.heap.size ≤ k_) ∧ some k_ ≠ (.slice Ao21 t150.length co21 : Value).ownBlock ∧ k_ ≠ gb142)) (by (with_reducible repeat (first | apply VL_alloc | apply VL_drewN | apply VL_drew));exact VL_mono HO_1.out (fun _ hk => ⟨⟨hk.1.1, ⟨hk.2, hk.1.2.2⟩⟩, hk.1.2.1⟩)) hg hat);have n1_ := Aside0.mk (blk_grown (g := gb142) (o := .cells #[.int .i64 a0_0, .slice A0_1 l0_1.length c0_1] 29 (0, 0)) (by exact kP BK142.out) hg (Kd.S_ne HO_11.out BK142.out (by decide)));have n2_ := Aside0.mk (Kd.V_afterv (ok := (fun k_ => (P1_ k_ ∨ w.heap.size ≤ k_) ∧ some k_ ≠ (.slice Ao21 t150.length co21 : Value).ownBlock ∧ k_ ≠ gb142)) (by (with_reducible repeat (first | apply Kd.V_alloc | apply Kd.V_drewN | apply Kd.V_drew));exact Kd.V_mono HL149_0.out (fun _ hk => ⟨⟨hk.1.1, ⟨hk.2, hk.1.2.2⟩⟩, hk.1.2.1⟩)) hg hat);have n3_ := Aside0.mk (hb);have n4_ := Aside0.mk (ho);clear HO_1;clear BK142;clear HL149_0;clear HB;clear HO_11;clear HO152;have HO_1 := n0_;have BK142 := n1_;have HL149_0 := n2_;have HB := n3_;have HO155 := n4_;clear n0_ n1_ n2_ n3_ n4_;clear ho hb hg hat))
            go_roundg k3
            case measure => have := HK1.out;have := HJ9.out;have := HK3.out;omega
            case rel => exact ⟨(y153), (wrap64 (x12_3 + 1)), (by first | rfl | (simp;done) | (simp [*];done)), H', ⟨by have := HK1.out;have := HJ9.out;have := HK3.out;omega⟩, ⟨by (with_reducible repeat (first | apply VL_alloc | apply VL_drewN | apply VL_drew));exact VL_mono HO_1.out (fun _ hk => ⟨hk.1.1, ⟨hk.2, hk.1.2.2⟩⟩)⟩, ⟨by (with_reducible repeat (first | apply Kd.S_alloc | apply Kd.S_drewN | apply Kd.S_drew));exact HO155.out⟩, ⟨by exact kP BK142.out⟩, ⟨by exact bB⟩⟩
           ·rw [if_neg c18] at H
            exact absurd H (by simp)
          ·rw [if_neg c16] at H
           exact absurd H (by simp)
         ·rw [if_neg c15] at H
          have c15b0 : decide (x12_3 < (l1.length : Int)) = false := decide_eq_false c15
          clear c15
          have HC22 := Aside0.mk H
          clear H
          go_upto_if 49 with (fail)
          go_cut [11] (fun v11 wc => ∃ (kq : Nat) (x11_21 : List (List Int)), Aside0 (spec_l10Fill.j3 kq l1 a2 a3 x10_1 x11_21 a0_0 l0_1 = some (r1, r2)) ∧ Aside0 (kq ≤ k3) ∧ Aside0 (VL (Kd.slice 3 (Kd.int .i64)) 25 wc w.heap.size (fun k_ => (P1_ k_ ∨ w.heap.size ≤ k_) ∧ some k_ ≠ (v11 : Value).ownBlock ∧ k_ ≠ gb142) (.slice A1 l1.length c1) l1) ∧ Aside0 (Kd.S (Kd.slice 3 (Kd.int .i64)) 25 wc w.heap.size (fun k_ => (w.heap.size ≤ k_)) v11 x11_21) ∧ Aside0 (wc.heap[gb142]? = some (.cells #[.int .i64 a0_0, (.slice A0_1 l0_1.length c0_1)] 29 (0, 0))) ∧ Aside0 (Below w.heap.size w wc))
          case first =>
           have H := HC22.out
           clear HC22
           by_cases c23 : x10_1 = (l1.length : Int)
           ·rw [if_pos c23] at H
            have c23b0 : (x10_1 == (l1.length : Int)) = true := beq_iff_eq.mpr c23
            have c23b1 : (x10_1 != (l1.length : Int)) = false := bne_eq_false_iff_eq.mpr c23
            clear c23
            (first | rw [c23b0] | (simp only [i64_w, i32_w];rw [c23b0]) | skip)
            obtain ⟨y156, hy156⟩ : ∃ y_ : List Int, y_ = (([a2] : List Int)) := ⟨_, rfl⟩
            replace H : (if x11_3.length < 5864062014805 then (spec_l10Fill.j3 k3 l1 a2 a3 x10_1 (x11_3 ++ [y156]) a0_0 l0_1) else (none)) = some (r1, r2) := by first | (rw [hy156];with_reducible exact H) | (have H2_ := (Option.bind_some _ _).symm.trans H;rw [hy156];with_reducible exact H2_) | (have H2_ := (Option.bind_some _ _).symm.trans H;with_reducible exact H2_) | with_reducible exact H | (rw [hy156];exact H) | exact H
            have Ny156 := Aside0.mk hy156
            clear hy156
            by_cases c24 : x11_3.length < 5864062014805
            ·rw [if_pos c24] at H
             have LMc24 := Aside0.mk c24
             clear c24
             obtain ⟨y159, hy159⟩ : ∃ y_ : List (List Int), y_ = (x11_3 ++ [y156]) := ⟨_, rfl⟩
             replace H : (spec_l10Fill.j3 k3 l1 a2 a3 x10_1 y159 a0_0 l0_1) = some (r1, r2) := by first | (rw [hy159];with_reducible exact H) | (have H2_ := (Option.bind_some _ _).symm.trans H;rw [hy159];with_reducible exact H2_) | (have H2_ := (Option.bind_some _ _).symm.trans H;with_reducible exact H2_) | with_reducible exact H | (rw [hy159];exact H) | exact H
             have Ny159 := Aside0.mk hy159
             clear hy159
             have H' := Aside0.mk H
             clear H
             go_wp2_with (first | ((with_reducible refine gate_dst (N := 52) rfl ?_);refine Kd.R_lit (Kd.int .i64) _ 3 ?hg (N := 52) ?hd (xs := ([a2] : List Int)) (inner := [.int .i64 a2]) (ok := fun _ => True) (okp := fun _ => True) ?hr ?hp (fun _ hk => hk) trivial (Below.refl _ _) (Nat.le_refl _) (by simp) ?_;(case hd => rfl);(case hg => rfl);(case hr => first | (go_simp;done) | (go_simp;rfl));(case hp => exact (Reps.one (show Kd.M (Kd.int .i64) _ _ _ a2 [.int .i64 a2] from rfl) (Reps.none _ _)));intro v157 w25 ho26 hb hg_ hnew_;clear hg_ hnew_;(first | rw [← Ny156.out] at ho26 | (simp only [Int.reduceToNat] at ho26;rw [← Ny156.out] at ho26));have n0_ := Aside0.mk (VL_elder' (by (with_reducible repeat (first | apply VL_alloc | apply VL_drewN | apply VL_drew));exact HO_1.out) (Kd.R_base ho26) hb);have n1_ := Aside0.mk (Kd.S_elder' (by (with_reducible repeat (first | apply Kd.S_alloc | apply Kd.S_drewN | apply Kd.S_drew));exact HO_11.out) (Kd.R_base ho26) hb);have n2_ := Aside0.mk (Kd.R_lower (Kd.R_newM (M := fun k_ => (w.heap.size ≤ k_)) ho26 (below_size (by exact bB)) (fun k_ h_ => h_)) (below_size (by exact bB)));have n3_ := Aside0.mk (blk_below (g := gb142) (o := .cells #[.int .i64 a0_0, .slice A0_1 l0_1.length c0_1] 29 (0, 0)) (by exact kP BK142.out) hb);have n4_ := Aside0.mk (below_step (by exact bB) hb);clear HO_1;clear HO_11;clear BK142;clear HB;have HO_1 := n0_;have HO_11 := n1_;have HO158 := n2_;have BK142 := n3_;have HB := n4_;clear n0_ n1_ n2_ n3_ n4_;clear hb ho26;obtain ⟨Ao28, co28, eo28⟩ := Kd.R_slice HO158.out;subst eo28) | ((with_reducible refine gate_builtin (b := .append) (xs := #[.tmp 50, .tmp 53]) rfl ?_);at_builtin;refine Kd.S_append (Kd.slice 3 (Kd.int .i64)) (w0 := w) w.heap.size rfl (.tmp 50) (.tmp 53) 37 25 (.slice none 0 0) 24 rfl Try.underlying37 info25 rfl (by decide) (by omega) u11 x11_3 y156 [.slice Ao28 y156.length co28] (fun k_ => (w.heap.size ≤ k_)) (fun k_ => some k_ = (.slice Ao28 y156.length co28 : Value).ownBlock) rfl rfl ?aP (fun k_ hk_ => ((Kd.R_mono (ok' := fun k_ => ((fun k_ => (w.heap.size ≤ k_))) k_ ∧ some k_ ≠ (u11 : Value).ownBlock) (Kd.R_apart' (HO158.out) (Kd.S_typed HO_11.out) (by decide)) (fun k_ hk => ⟨hk.1.1, hk.2⟩))).1 k_ hk_.symm) ?aF ?aO ?aB ?aS ?aL ?_;(case aP => exact Kd.M_row (Kd.R_mono (Kd.R_tight rfl (Kd.R_mono (ok' := fun k_ => ((fun k_ => (w.heap.size ≤ k_))) k_ ∧ some k_ ≠ (u11 : Value).ownBlock) (Kd.R_apart' (HO158.out) (Kd.S_typed HO_11.out) (by decide)) (fun k_ hk => ⟨hk.1.1, hk.2⟩))) (fun _ h_ => h_)));(case aB => exact (by exact bB));(case aF => exact (fun k_ hk => (Nat.le_trans (below_size (by exact bB)) hk)));(case aO => exact (by (with_reducible repeat (first | apply Kd.S_alloc | apply Kd.S_drewN | apply Kd.S_drew));exact Kd.S_mono HO_11.out (fun k_ hk => ⟨hk.1, fun e_ => hk.2 e_⟩)));(case aS => exact (below_size (by exact bB)));(case aL => have := LMc24.out;omega);intro v160 w27 ho hb hg hat;rw [← Ny159.out] at ho;have n0_ := Aside0.mk (VL_afterv (ok := (fun k_ => (P1_ k_ ∨ w.heap.size ≤ k_) ∧ some k_ ≠ (.slice Ao28 y156.length co28 : Value).ownBlock ∧ k_ ≠ gb142)) (by (with_reducible repeat (first | apply VL_alloc | apply VL_drewN | apply VL_drew));exact VL_mono HO_1.out (fun _ hk => ⟨⟨hk.1.1, ⟨hk.2, hk.1.2.2⟩⟩, hk.1.2.1⟩)) hg hat);have n1_ := Aside0.mk (blk_grown (g := gb142) (o := .cells #[.int .i64 a0_0, .slice A0_1 l0_1.length c0_1] 29 (0, 0)) (by exact kP BK142.out) hg (Kd.S_ne HO_11.out BK142.out (by decide)));have n2_ := Aside0.mk (hb);have n3_ := Aside0.mk (ho);clear HO_1;clear BK142;clear HB;clear HO_11;clear HO158;have HO_1 := n0_;have BK142 := n1_;have HB := n2_;have HO161 := n3_;clear n0_ n1_ n2_ n3_;clear ho hb hg hat))
             go_meet
             case rel => exact ⟨_, (y159), H', ⟨by have := HK1.out;have := HJ9.out;have := HK3.out;first | omega | exact Nat.le_refl _⟩, ⟨by (with_reducible repeat (first | apply VL_alloc | apply VL_drewN | apply VL_drew));exact VL_mono HO_1.out (fun _ hk => ⟨hk.1.1, ⟨hk.2, hk.1.2.2⟩⟩)⟩, ⟨by (with_reducible repeat (first | apply Kd.S_alloc | apply Kd.S_drewN | apply Kd.S_drew));exact HO161.out⟩, ⟨by exact kP BK142.out⟩, ⟨by exact bB⟩⟩
            ·rw [if_neg c24] at H
             exact absurd H (by simp)
           ·rw [if_neg c23] at H
            have c23b0 : (x10_1 == (l1.length : Int)) = false := beq_eq_false_iff_ne.mpr c23
            have c23b1 : (x10_1 != (l1.length : Int)) = true := bne_iff_ne.mpr c23
            (first | rw [c23b0] | (simp only [i64_w, i32_w];rw [c23b0]) | skip)
            by_cases c28 : 0 ≤ x10_1
            ·rw [if_pos c28] at H
             have c28b0 : decide (0 ≤ x10_1) = true := decide_eq_true c28
             clear c28
             by_cases c29 : x10_1 < (x11_3.length : Int)
             ·rw [if_pos c29] at H
              have c29b0 : decide (x10_1 < (x11_3.length : Int)) = true := decide_eq_true c29
              clear c29
              by_cases c30 : (rd_L2 x11_3 x10_1).length < 17592186044416
              ·rw [if_pos c30] at H
               have LMc30 := Aside0.mk c30
               clear c30
               obtain ⟨y162, hy162⟩ : ∃ y_ : List Int, y_ = ((rd_L2 x11_3 x10_1) ++ [a2]) := ⟨_, rfl⟩
               replace H : (spec_l10Fill.j3 k3 l1 a2 a3 x10_1 (x11_3.set (x10_1 : Int).toNat y162) a0_0 l0_1) = some (r1, r2) := by first | (rw [hy162];with_reducible exact H) | (have H2_ := (Option.bind_some _ _).symm.trans H;rw [hy162];with_reducible exact H2_) | (have H2_ := (Option.bind_some _ _).symm.trans H;with_reducible exact H2_) | with_reducible exact H | (rw [hy162];exact H) | exact H
               have Ny162 := Aside0.mk hy162
               clear hy162
               obtain ⟨y165, hy165⟩ : ∃ y_ : List (List Int), y_ = (x11_3.set (x10_1 : Int).toNat y162) := ⟨_, rfl⟩
               replace H : (spec_l10Fill.j3 k3 l1 a2 a3 x10_1 y165 a0_0 l0_1) = some (r1, r2) := by first | (rw [hy165];with_reducible exact H) | (have H2_ := (Option.bind_some _ _).symm.trans H;rw [hy165];with_reducible exact H2_) | (have H2_ := (Option.bind_some _ _).symm.trans H;with_reducible exact H2_) | with_reducible exact H | (rw [hy165];exact H) | exact H
               have Ny165 := Aside0.mk hy165
               clear hy165
               have H' := Aside0.mk H
               clear H
               obtain ⟨Ao32, co32, eo32⟩ := Kd.S_slice HO_11.out
               subst eo32
               have p161 : 0 ≤ (x10_1 : Int) := oA
               have q161 : x10_1 < (x11_3.length : Int) := oA
               obtain ⟨ad161, A161_0, c161_0, e161, hx161_0, hl161_0, hi161_0⟩ := at_L2 (Kd.S_reads' HO_11.out).2.2 x10_1 p161 q161
               cases e161
               obtain ⟨ce161, hce161, hMe161, hcc161⟩ := Kd.S_get HO_11.out [] x10_1 p161 (by first | exact q161 | exact oA | (have e_ := (Kd.S_reads' HO_11.out).1;omega))
               obtain ⟨ve161_0, rfl, ge161_0⟩ := hMe161
               have hv161_0 := hcc161 0 _ rfl
               rw [Nat.add_zero, show ((Kd.slice 3 (Kd.int .i64))).sz = 1 from rfl, Nat.mul_one] at hv161_0
               replace hv161_0 := Option.some.inj (hv161_0.symm.trans hx161_0)
               rw [hv161_0] at ge161_0
               have HL161_0 := Aside0.mk (show Kd.R (Kd.int .i64) 3 _ _ _ _ (rd_L2 x11_3 x10_1) from ge161_0)
               clear hv161_0 ge161_0
               have HX161_0 := Aside0.mk hx161_0
               clear hcc161 hce161
               have HR161_0 := Aside0.mk hi161_0
               have HC161_0 := Aside0.mk hl161_0
               clear hi161_0 hl161_0
               replace p161 := eq_true p161
               replace q161 := eq_true q161
               obtain ⟨go33, co33, eo33, gb33, gl33, cl33, HG33⟩ := Kd.S_form HO_11.out (by have h_ : (x10_1 : Int) < ((x11_3.length : Int) : Int) := oA;have h2_ : 0 ≤ (x10_1 : Int) := (oA);omega)
               (first | cases eo33 | (injection eo33 with ea_ en_ ec_;(first | subst ea_ | (injection ea_ with ea_;subst ea_));subst ec_;clear en_))
               have GB33 := Aside0.mk gb33
               have GG33 := Aside0.mk HG33
               clear gb33 gl33 HG33
               (first | simp only [add_plain] at hx161_0 | skip)
               obtain ⟨oki33, ce33, hcl33, hM33, hcc33, _, _, hH33⟩ := Kd.S_elem HO_11.out [] (x10_1 : Int) (oA) (by have h_ : (x10_1 : Int) < ((x11_3.length : Int) : Int) := oA;first | exact h_ | (have e_ := (Kd.S_reads' HO_11.out).1;omega) | simpa using h_)
               obtain ⟨ve33_0, rfl, ge33_0⟩ := hM33
               have hv33 := hcc33 0 _ rfl
               have hX33 := HX161_0.out
               (try simp only [add_plain] at hX33)
               (try simp only [Nat.add_zero] at hv33)
               (try rw [show ((Kd.slice 3 (Kd.int .i64))).sz = 1 from rfl, Nat.mul_one] at hv33)
               replace hv33 := Option.some.inj (hv33.symm.trans hX33)
               subst hv33
               clear hX33 hcc33 hcl33
               have UU33 := Aside0.mk (show Kd.R (Kd.int .i64) 3 _ w.heap.size oki33 (.slice A161_0 (rd_L2 x11_3 x10_1).length c161_0) (rd_L2 x11_3 x10_1) from ge33_0)
               have HH33 := Aside0.mk hH33
               have HN33 := Aside0.mk (Kd.S_reads' HO_11.out).1
               clear hH33 ge33_0
               go_wp2_with (first | ((with_reducible refine gate_builtin (b := .append) (xs := #[.tmp 60, .tmp 62]) rfl ?_);at_builtin;refine Kd.R_append (Kd.int .i64) (w0 := w) w.heap.size rfl (.tmp 60) (.tmp 62) 25 3 (.int .i64 0) 8 rfl Try.underlying25 info3 rfl (by decide) (by omega) (.slice A161_0 (rd_L2 x11_3 x10_1).length c161_0) (rd_L2 x11_3 x10_1) a2 [.int .i64 a2] (fun k_ => oki33 k_ ∨ ((fun k_ => (w.heap.size ≤ k_))) k_ ∧ wr.heap.size ≤ k_) (fun _ => False) rfl rfl ?aP (fun _ hk => hk.elim) ?aF ?aO ?aB ?aS ?aL ?_;(case aP => exact rfl);(case aB => exact (by exact bB));(case aF => exact (fun k_ hk => .inr ⟨Nat.le_trans (below_size (by exact bB)) hk, hk⟩));(case aO => exact (by refine rP ?_;exact Kd.R_mono UU33.out (fun _ hk => .inl hk)));(case aS => exact (below_size (by exact bB)));(case aL => have := LMc30.out;omega);intro v163 w34 ho hb hg hat;rw [← Ny162.out] at ho;have n0_ := Aside0.mk (blk_grown (g := gb142) (o := .cells #[.int .i64 a0_0, .slice A0_1 l0_1.length c0_1] 29 (0, 0)) (by exact kP BK142.out) hg (Kd.R_ne HL161_0.out BK142.out (by decide)));have n1_ := Aside0.mk (hb);have n2_ := Aside0.mk (Kd.H_grown (Kd.H_widen (by repeat (first | exact HH33.out | refine Kd.H_alloc ?_ _ | refine Kd.H_drewN ?_ _ | refine Kd.H_drew ?_))) hg (fun k_ e_ => .inl (UU33.out.1 k_ e_)));have n3_ := Aside0.mk (ho);clear BK142;clear HB;clear HH33;clear HO_11;clear UU33;clear HL161_0;have BK142 := n0_;have HB := n1_;have HH33 := n2_;have HO164 := n3_;clear n0_ n1_ n2_ n3_;clear ho hb hg hat;have p31 : 0 ≤ (x10_1 : Int) := oA;have q31 : (x10_1 : Int) < ((x11_3.length : Int) : Int) := oA;replace p31 := eq_true p31;replace q31 := eq_true q31;obtain ⟨Ao37, co37, eo37⟩ := Kd.R_slice HO164.out;subst eo37;obtain ⟨_, _, hraw35, _, _, hcc35, _⟩ := Kd.H_raw HH33.out (oA) (by have h_ : (x10_1 : Int) < ((x11_3.length : Int) : Int) := oA;first | exact h_ | (have e_ := (HN33.out);omega) | simpa using h_);obtain ⟨_, hfr35⟩ := Kd.H_at HH33.out (oA) (by have h_ : (x10_1 : Int) < ((x11_3.length : Int) : Int) := oA;first | exact h_ | (have e_ := (HN33.out);omega) | simpa using h_);have hx35_0 := hcc35 0 _ rfl;have hf35_0 := hfr35 0;(try simp only [Nat.add_zero] at hx35_0 hf35_0);(try rw [show ((Kd.slice 3 (Kd.int .i64))).sz = 1 from rfl, Nat.mul_one] at hx35_0);(try rw [show ((Kd.slice 3 (Kd.int .i64))).sz = 1 from rfl, Nat.mul_one] at hf35_0);have HP35 := Kd.S_seg0 HH33.out (oA) (by have h_ : (x10_1 : Int) < ((x11_3.length : Int) : Int) := oA;first | exact h_ | (have e_ := (HN33.out);omega) | simpa using h_) (seg := [.slice Ao37 y162.length co37]) (j := 0) (show 1 ≤ 1 from by decide) (x' := y162) (Kd.M_row HO164.out) (fun _ hk => hk);(try simp only [show ((Kd.slice 3 (Kd.int .i64))).sz = 1 from rfl, Nat.mul_one, Nat.add_zero] at HP35);clear hcc35 hfr35) | ((with_reducible refine gate_store (t := 25) (p := 64) rfl ?_);refine store_event (t := 25) (p := 64) (v := ?vo_w36) (w1 := (w34.setCell ⟨go33, (x10_1 : Int).toNat, none⟩ (.slice Ao37 y162.length co37))) ?hg ?ho ?hn ?hr ?_;(case ho => rfl);(case hg => rfl);(case hn => rfl);(case hr => first | (go_simp;done) | (go_simp;rfl));intro w36 hw;have hg : w34.grownBy w36 (some go33) := (by rw [hw];exact HP35.2);have hp_ : Kd.S (Kd.slice 3 (Kd.int .i64)) 25 w36 w.heap.size (fun k_ => (w.heap.size ≤ k_)) (.slice (some ⟨go33, 0, none⟩) x11_3.length co32) y165 := (by rw [hw, Ny165.out];exact HP35.1);clear HP35;have n0_ := Aside0.mk (blk_grown (g := gb142) (o := .cells #[.int .i64 a0_0, .slice A0_1 l0_1.length c0_1] 29 (0, 0)) (by exact kP BK142.out) hg (Kd.R_ne hraw35 BK142.out (by decide)));have n1_ := Aside0.mk ((by rw [hw];exact below_set HB.out GB33.out : Below w.heap.size w w36));have n2_ := Aside0.mk (hp_);clear BK142;clear HB;clear HO164;clear HH33;have BK142 := n0_;have HB := n1_;have HO_11 := n2_;clear n0_ n1_ n2_;clear hg hw hp_ hraw35))
               go_meet
               case rel => exact ⟨_, (y165), H', ⟨by have := HK1.out;have := HJ9.out;have := HK3.out;first | omega | exact Nat.le_refl _⟩, ⟨by have hb_ := HB.out;exact VL_mono (VL_old hs1 (by exact bB)) (fun k_ hk => ⟨.inl hk.1, fun he => absurd (Kd.S_base HO_11.out k_ he.symm) (Nat.not_le.2 hk.2), fun he => absurd GE142.out (Nat.not_le.2 (by rw [← he];exact hk.2))⟩)⟩, ⟨by (with_reducible repeat (first | apply Kd.S_alloc | apply Kd.S_drewN | apply Kd.S_drew));exact HO_11.out⟩, ⟨by exact kP BK142.out⟩, ⟨by exact bB⟩⟩
              ·rw [if_neg c30] at H
               exact absurd H (by simp)
             ·rw [if_neg c29] at H
              exact absurd H (by simp)
            ·rw [if_neg c28] at H
             exact absurd H (by simp)
          case rest =>
           clear HC22
           try clear c1
           try clear p1
           try clear q1
           try clear hx1
           try clear c2
           try clear p2
           try clear c5
           try clear c5b0
           try clear c5b1
           try clear p6
           try clear c7
           try clear c10
           try clear c11
           try clear c11b0
           try clear c12
           try clear c14
           try clear p14
           try clear q14
           try clear hx14
           try clear c15
           try clear c15b0
           try clear c16
           try clear c16b0
           try clear c18
           try clear c23
           try clear c23b0
           try clear c23b1
           try clear c24
           try clear c29
           try clear hcz7_0
           try clear hcz7_1
           try clear hcz9_0
           try clear hcz9_1
           try clear hfz7_0
           try clear hfz7_1
           try clear hfz9_0
           try clear hfz9_1
           try clear hx149_0
           try clear p149
           try clear p2
           try clear q149
           obtain ⟨kq, x11_21, HA, HJ21, HO_1, HO_11, BK142, HB⟩ := hcut
           cases kq with
           | zero => exact absurd HA.out (by simp [spec_l10Fill.j3])
           | succ kj21 =>
            have H := HA.out
            clear HA
            simp only [spec_l10Fill.j3] at H
            by_cases c34 : 0 ≤ x10_1
            ·rw [if_pos c34] at H
             have c34b0 : decide (0 ≤ x10_1) = true := decide_eq_true c34
             clear c34
             by_cases c35 : x10_1 < (x11_21.length : Int)
             ·rw [if_pos c35] at H
              have c35b0 : decide (x10_1 < (x11_21.length : Int)) = true := decide_eq_true c35
              clear c35
              replace H := Option.bind_eq_some_iff.mp H
              obtain ⟨t169, A360, H⟩ := H
              replace H : (if t169 = true then ((spec_l10Fill.f kj21 a0_0 l0_1 x11_21 (wrap64 (a2 + 1)) a3).bind fun bt170 => (if bt170.2 = true then (some (bt170.1, true)) else (spec_l10Fill.l0 kj21 l1 a2 a3 (wrap64 (x10_1 + 1)) a0_0 l0_1))) else (spec_l10Fill.l0 kj21 l1 a2 a3 (wrap64 (x10_1 + 1)) a0_0 l0_1)) = some (r1, r2) := H
              have A36 := Aside0.mk A360
              clear A360
              by_cases c37 : t169 = true
              ·subst c37
               have H1 : ((spec_l10Fill.f kj21 a0_0 l0_1 x11_21 (wrap64 (a2 + 1)) a3).bind fun bt170 => (if bt170.2 = true then (some (bt170.1, true)) else (spec_l10Fill.l0 kj21 l1 a2 a3 (wrap64 (x10_1 + 1)) a0_0 l0_1))) = some (r1, r2) := by rw [if_pos rfl] at H;exact H
               clear H
               have H := H1
               clear H1
               replace H := Option.bind_eq_some_iff.mp H
               obtain ⟨⟨t170, t173⟩, A380, H⟩ := H
               replace H : (if t173 = true then (some (t170, true)) else (spec_l10Fill.l0 kj21 l1 a2 a3 (wrap64 (x10_1 + 1)) a0_0 l0_1)) = some (r1, r2) := H
               have A38 := Aside0.mk A380
               clear A380
               by_cases c39 : t173 = true
               ·subst c39
                have H1 : (some (t170, true)) = some (r1, r2) := by rw [if_pos rfl] at H;exact H
                clear H
                have H := H1
                clear H1
                simp only [Option.some.injEq, Prod.mk.injEq] at H
                obtain ⟨rfl, rfl⟩ := H
                try go_wp2
                have n0_ := Aside0.mk (VL_drew HO_1.out)
                have n1_ := Aside0.mk (Kd.S_drew HO_11.out)
                have n2_ := Aside0.mk (blk_drew BK142.out)
                have n3_ := Aside0.mk (below_drew1 HB.out)
                clear HO_1
                clear HO_11
                clear BK142
                clear HB
                have HO_1 := n0_
                have HO_11 := n1_
                have BK142 := n2_
                have HB := n3_
                clear n0_ n1_ n2_ n3_
                obtain ⟨Ao43, co43, eoX⟩ := Kd.S_slice HO_11.out
                subst eoX
                have p168 : 0 ≤ (x10_1 : Int) := oA
                have q168 : x10_1 < (x11_21.length : Int) := oA
                obtain ⟨ad168, A168_0, c168_0, e168, hx168_0, hl168_0, hi168_0⟩ := at_L2 (Kd.S_reads' HO_11.out).2.2 x10_1 p168 q168
                cases e168
                obtain ⟨ce168, hce168, hMe168, hcc168⟩ := Kd.N_get (Kd.S_N HO_11.out) [] x10_1 p168 (by first | exact q168 | exact oA | (have e_ := (Kd.S_reads' HO_11.out).1;omega))
                obtain ⟨ua168_0, uc168_0, rfl, ul168_0, ge168_0⟩ := Kd.FK_slice_open hMe168
                have hv168_0 := hcc168 0 _ rfl
                rw [Nat.add_zero, show ((Kd.slice 3 (Kd.int .i64))).sz = 1 from rfl, Nat.mul_one] at hv168_0
                replace hv168_0 := Option.some.inj (hv168_0.symm.trans hx168_0)
                injection hv168_0 with hva_ hvn_ hvc_
                rw [hva_] at ge168_0
                rw [hvc_] at ul168_0
                have HL168_0 := Aside0.mk (show Kd.V (Kd.int .i64) 3 _ w.heap.size _ _ (rd_L2 x11_21 x10_1) from Kd.V_mk ul168_0 ge168_0)
                clear hva_ hvn_ hvc_ ge168_0 ul168_0
                clear hcc168 hce168
                have HR168_0 := Aside0.mk hi168_0
                have HC168_0 := Aside0.mk hl168_0
                clear hi168_0 hl168_0
                replace p168 := eq_true p168
                replace q168 := eq_true q168
                refine start_ (n := 7) (S := fun w' => w'.cell? ⟨gb142, 0, none⟩ = some (.int .i64 a0_0) ∧ w'.cell? ⟨gb142, 1, none⟩ = some (.slice A0_1 l0_1.length c0_1) ∧ w'.cell? (ad168.add (x10_1).toNat) = some (.slice A168_0 (rd_L2 x11_21 x10_1).length c168_0)) (ds := []) #[false,false,false,false,false,false,false] (by kernel_rfl) rfl rfl ⟨(blk_cell BK142.out 0).trans rfl, (blk_cell BK142.out 1).trans rfl, hx168_0⟩ (fun hHeld => ?_)
                generalize wc.drew = w40 at HO_1 HO_11 BK142 HB HL168_0 HR168_0 hx168_0 hHeld ⊢
                refine pure_ (i := 1) (N := some 66) (v := ?_) (a' := ?_) #[false,true,false,false,false,false,false] rfl rfl (by kernel_rfl) (fun _ _ _ h => h) (Or.inl ⟨by rfl, ?_⟩) ?_ ?_
                rotate_left
                ·intro w'
                 go_simp
                 with_reducible rfl
                rotate_left
                ·simp only [Act.put, List.setIfInBounds_toArray, List.set_cons_zero, List.set_cons_succ, i64_w, i32_w]
                 rfl
                refine pure_ (i := 2) (N := some 67) (v := ?_) (a' := ?_) #[false,true,true,false,false,false,false] rfl rfl (by kernel_rfl) (fun _ _ _ h => h) (Or.inl ⟨by rfl, ?_⟩) ?_ ?_
                rotate_left
                ·intro w'
                 go_simp
                 with_reducible rfl
                rotate_left
                ·simp only [Act.put, List.setIfInBounds_toArray, List.set_cons_zero, List.set_cons_succ, i64_w, i32_w]
                 rfl
                refine pure_ (i := 3) (N := some 68) (v := ?_) (a' := ?_) #[false,true,true,true,false,false,false] rfl rfl (by kernel_rfl) (fun _ _ _ h => h) (Or.inl ⟨by rfl, ?_⟩) ?_ ?_
                rotate_left
                ·intro w'
                 go_simp
                 with_reducible rfl
                rotate_left
                ·simp only [Act.put, List.setIfInBounds_toArray, List.set_cons_zero, List.set_cons_succ, i64_w, i32_w]
                 rfl
                refine take_ (i := 0) (N := some 65) (v := ?_) (a' := ?_) #[true,true,true,true,false,false,false] rfl rfl (by kernel_rfl) (fun _ _ _ h => h) (Or.inl ⟨by rfl, ?_⟩) hHeld ?_ ?_
                rotate_left
                ·rintro w' ⟨s0, s1, s2⟩
                 go_simp
                 with_reducible rfl
                rotate_left
                ·simp only [Act.put, List.setIfInBounds_toArray, List.set_cons_zero, List.set_cons_succ, i64_w, i32_w]
                 rfl
                refine take_ (i := 4) (N := some 69) (v := ?_) (a' := ?_) #[true,true,true,true,true,false,false] rfl rfl (by kernel_rfl) (fun _ _ _ h => h) (Or.inl ⟨by rfl, ?_⟩) hHeld ?_ ?_
                rotate_left
                ·rintro w' ⟨s0, s1, s2⟩
                 go_simp
                 with_reducible rfl
                rotate_left
                ·simp only [Act.put, List.setIfInBounds_toArray, List.set_cons_zero, List.set_cons_succ, i64_w, i32_w]
                 rfl
                refine one_ (i := 5) (N := some 70) #[true,true,true,true,true,true,false] rfl rfl (by kernel_rfl) (by decide) (fun K hK => ?_)
                refine goes_ Try.func106 (by kernel_rfl) rfl #[.agg #[.int .i64 a0_0, .slice A0_1 l0_1.length c0_1], .slice A168_0 (rd_L2 x11_21 x10_1).length c168_0, .bool true] (by rfl) rfl rfl mM ?_
                with_reducible refine (spec_l10Alike.calls kj21 a0_0 _ _ l0_1 _ _ (rd_L2 x11_21 x10_1) true true _ ?side1 ?side2 ?side3 ?side4 A36.out).mono ?_
                (case side1 => exact cP (Kd.C_below HR0_1.out HB.out))
                (case side2 => exact HC0_1.out)
                (case side3 => exact cP (by repeat (first | (with_reducible exact HR168_0.out) | (with_reducible refine Kd.C_alloc ?_ _) | (with_reducible refine Kd.C_drewN ?_ _) | (with_reducible refine Kd.C_drew ?_) | exact HR168_0.out)))
                (case side4 => exact HC168_0.out)
                rintro e w41 ⟨rfl, hb⟩
                have HS2_ := (hb.cell (World.block_lt_of_cell? _ _ (hHeld.2.2))).trans (hHeld.2.2)
                refine ⟨_, rfl, ?_⟩
                have n0_ := Aside0.mk (VL_below (by (with_reducible repeat (first | apply VL_alloc | apply VL_drewN | apply VL_drew));exact HO_1.out) hb)
                have n1_ := Aside0.mk (Kd.S_below (by (with_reducible repeat (first | apply Kd.S_alloc | apply Kd.S_drewN | apply Kd.S_drew));exact HO_11.out) hb)
                have n2_ := Aside0.mk (Kd.V_below (by (with_reducible repeat (first | apply Kd.V_alloc | apply Kd.V_drewN | apply Kd.V_drew));exact HL168_0.out) hb)
                have n3_ := Aside0.mk (blk_below (g := gb142) (o := .cells #[.int .i64 a0_0, .slice A0_1 l0_1.length c0_1] 29 (0, 0)) (by exact kP BK142.out) hb)
                have n4_ := Aside0.mk (Kd.C_below (by repeat (first | (with_reducible exact HR168_0.out) | (with_reducible refine Kd.C_alloc ?_ _) | (with_reducible refine Kd.C_drewN ?_ _) | (with_reducible refine Kd.C_drew ?_) | exact HR168_0.out)) hb)
                have n5_ := Aside0.mk (below_step (by exact bB) hb)
                clear HO_1
                clear HO_11
                clear HL168_0
                clear BK142
                clear HR168_0
                clear HB
                have HO_1 := n0_
                have HO_11 := n1_
                have HL168_0 := n2_
                have BK142 := n3_
                have HR168_0 := n4_
                have HB := n5_
                clear n0_ n1_ n2_ n3_ n4_ n5_
                (try clear hb)
                (try clear hb2)
                (try clear hk)
                (try clear hi)
                refine hK.out _ _ ⟨(blk_cell BK142.out 0).trans rfl, (blk_cell BK142.out 1).trans rfl, HS2_⟩ (fun hHeld => ?_)
                clear hK K
                refine norm_ (a' := ?_) ?_ ?_
                rotate_left
                ·show Act.put _ (some 70) _ = _
                 simp only [Act.put, List.setIfInBounds_toArray, List.set_cons_zero, List.set_cons_succ, i64_w, i32_w]
                 rfl
                refine pure_ (i := 6) (N := some 71) (v := ?_) (a' := ?_) #[true,true,true,true,true,true,true] rfl rfl (by kernel_rfl) (fun _ _ _ h => h) (Or.inl ⟨by rfl, ?_⟩) ?_ ?_
                rotate_left
                ·intro w'
                 go_simp
                 with_reducible rfl
                rotate_left
                ·simp only [Act.put, List.setIfInBounds_toArray, List.set_cons_zero, List.set_cons_succ, i64_w, i32_w]
                 rfl
                refine done_ (by kernel_rfl) ?_
                have hcz42_0 : w41.cell? ⟨gb142, 0, none⟩ = some (.int .i64 a0_0) := (blk_cell BK142.out 0).trans rfl
                have hcz42_1 : w41.cell? ⟨gb142, 1, none⟩ = some (.slice A0_1 l0_1.length c0_1) := (blk_cell BK142.out 1).trans rfl
                have hfz42_0 := blk_frozen BK142.out 0
                have hfz42_1 := blk_frozen BK142.out 1
                try go_wp2_with (first | ((with_reducible refine gate_callee (f := 75) rfl ?_);refine goesL_ (some 78) rfl rfl Try.func75 (by kernel_rfl) rfl #[.agg #[.int .i64 a0_0, .slice A0_1 l0_1.length c0_1], .slice (some ad168) x11_21.length co43, .int .i64 (wrap64 (a2 + 1)), .int .i64 a3] rfl mM ?_;(with_reducible refine (ih kj21 (by have := HK1.out;have := HJ9.out;have := HK3.out;have := HJ21.out;omega) a0_0 _ _ l0_1 (fun k_ => ((w.heap.size ≤ k_) ∧ k_ ≠ gb142)) _ _ x11_21 (wrap64 (a2 + 1)) a3 t170 true _ ?side1 ?side2 ?side3 A38.out).mono ?_);(case side1 => exact cP (Kd.C_below HR0_1.out HB.out));(case side2 => exact HC0_1.out);(case side3 => exact VL_S (Kd.S_types (HO_11.out) BK142.out (by decide)));rintro e w44 ⟨v171, rfl, ho0, hb⟩;refine ⟨_, rfl, ?_⟩;have n0_ := Aside0.mk (VL_below (by (with_reducible repeat (first | apply VL_alloc | apply VL_drewN | apply VL_drew));exact HO_1.out) hb);have n1_ := Aside0.mk (Kd.S_below (by (with_reducible repeat (first | apply Kd.S_alloc | apply Kd.S_drewN | apply Kd.S_drew));exact HO_11.out) hb);have n2_ := Aside0.mk (Kd.V_below (by (with_reducible repeat (first | apply Kd.V_alloc | apply Kd.V_drewN | apply Kd.V_drew));exact HL168_0.out) hb);have n3_ := Aside0.mk (VL_lower (VL_mono (ok' := fun k_ => (P1_ k_ ∨ w.heap.size ≤ k_) ∧ k_ ≠ gb142) ho0 (fun k_ hk_ => ⟨Or.elim hk_ (fun hs_ => (.inr (hs_.1))) (fun hn_ => (.inr (Nat.le_trans (below_size (by exact bB)) hn_))), Or.elim hk_ (fun hs_ => hs_.2) (fun hn_ => (Kd.freshB (g := gb142) (o := .cells #[.int .i64 a0_0, .slice A0_1 l0_1.length c0_1] 29 (0, 0)) (by exact kP BK142.out) k_ hn_))⟩)) (below_size (by exact bB)));have n4_ := Aside0.mk (blk_below (g := gb142) (o := .cells #[.int .i64 a0_0, .slice A0_1 l0_1.length c0_1] 29 (0, 0)) (by exact kP BK142.out) hb);have n5_ := Aside0.mk (Kd.C_below (by repeat (first | (with_reducible exact HR168_0.out) | (with_reducible refine Kd.C_alloc ?_ _) | (with_reducible refine Kd.C_drewN ?_ _) | (with_reducible refine Kd.C_drew ?_) | exact HR168_0.out)) hb);have n6_ := Aside0.mk (below_step (by exact bB) hb);clear HO_1;clear HO_11;clear HL168_0;clear BK142;clear HR168_0;clear HB;have HO_1 := n0_;have HO_11 := n1_;have HL168_0 := n2_;have HO172 := n3_;have BK142 := n4_;have HR168_0 := n5_;have HB := n6_;clear n0_ n1_ n2_ n3_ n4_ n5_ n6_;(try clear hb);(try clear hb2);(try clear hk);(try clear hi);(try clear ho0)))
                go_ret2
                exact ⟨_, by first | rfl | (simp [errW_none, errW_some] <;> rfl) | (simp [*, errW_none, errW_some] <;> rfl), by (with_reducible repeat (first | apply VL_alloc | apply VL_drewN | apply VL_drew));exact VL_mono HO172.out (fun _ hk => hk.1), by exact bB⟩
               ·replace c39 := Bool.eq_false_iff.mpr c39
                subst c39
                have H1 : (spec_l10Fill.l0 kj21 l1 a2 a3 (wrap64 (x10_1 + 1)) a0_0 l0_1) = some (r1, r2) := by rw [if_neg (show ¬ (false = true) by decide)] at H;exact H
                clear H
                have H := H1
                clear H1
                have H' := Aside0.mk H
                clear H
                try go_wp2
                have n0_ := Aside0.mk (VL_drew HO_1.out)
                have n1_ := Aside0.mk (Kd.S_drew HO_11.out)
                have n2_ := Aside0.mk (blk_drew BK142.out)
                have n3_ := Aside0.mk (below_drew1 HB.out)
                clear HO_1
                clear HO_11
                clear BK142
                clear HB
                have HO_1 := n0_
                have HO_11 := n1_
                have BK142 := n2_
                have HB := n3_
                clear n0_ n1_ n2_ n3_
                obtain ⟨Ao48, co48, eoX⟩ := Kd.S_slice HO_11.out
                subst eoX
                have p168 : 0 ≤ (x10_1 : Int) := oA
                have q168 : x10_1 < (x11_21.length : Int) := oA
                obtain ⟨ad168, A168_0, c168_0, e168, hx168_0, hl168_0, hi168_0⟩ := at_L2 (Kd.S_reads' HO_11.out).2.2 x10_1 p168 q168
                cases e168
                obtain ⟨ce168, hce168, hMe168, hcc168⟩ := Kd.N_get (Kd.S_N HO_11.out) [] x10_1 p168 (by first | exact q168 | exact oA | (have e_ := (Kd.S_reads' HO_11.out).1;omega))
                obtain ⟨ua168_0, uc168_0, rfl, ul168_0, ge168_0⟩ := Kd.FK_slice_open hMe168
                have hv168_0 := hcc168 0 _ rfl
                rw [Nat.add_zero, show ((Kd.slice 3 (Kd.int .i64))).sz = 1 from rfl, Nat.mul_one] at hv168_0
                replace hv168_0 := Option.some.inj (hv168_0.symm.trans hx168_0)
                injection hv168_0 with hva_ hvn_ hvc_
                rw [hva_] at ge168_0
                rw [hvc_] at ul168_0
                have HL168_0 := Aside0.mk (show Kd.V (Kd.int .i64) 3 _ w.heap.size _ _ (rd_L2 x11_21 x10_1) from Kd.V_mk ul168_0 ge168_0)
                clear hva_ hvn_ hvc_ ge168_0 ul168_0
                clear hcc168 hce168
                have HR168_0 := Aside0.mk hi168_0
                have HC168_0 := Aside0.mk hl168_0
                clear hi168_0 hl168_0
                replace p168 := eq_true p168
                replace q168 := eq_true q168
                refine start_ (n := 7) (S := fun w' => w'.cell? ⟨gb142, 0, none⟩ = some (.int .i64 a0_0) ∧ w'.cell? ⟨gb142, 1, none⟩ = some (.slice A0_1 l0_1.length c0_1) ∧ w'.cell? (ad168.add (x10_1).toNat) = some (.slice A168_0 (rd_L2 x11_21 x10_1).length c168_0)) (ds := []) #[false,false,false,false,false,false,false] (by kernel_rfl) rfl rfl ⟨(blk_cell BK142.out 0).trans rfl, (blk_cell BK142.out 1).trans rfl, hx168_0⟩ (fun hHeld => ?_)
                generalize wc.drew = w45 at HO_1 HO_11 BK142 HB HL168_0 HR168_0 hx168_0 hHeld ⊢
                refine pure_ (i := 1) (N := some 66) (v := ?_) (a' := ?_) #[false,true,false,false,false,false,false] rfl rfl (by kernel_rfl) (fun _ _ _ h => h) (Or.inl ⟨by rfl, ?_⟩) ?_ ?_
                rotate_left
                ·intro w'
                 go_simp
                 with_reducible rfl
                rotate_left
                ·simp only [Act.put, List.setIfInBounds_toArray, List.set_cons_zero, List.set_cons_succ, i64_w, i32_w]
                 rfl
                refine pure_ (i := 2) (N := some 67) (v := ?_) (a' := ?_) #[false,true,true,false,false,false,false] rfl rfl (by kernel_rfl) (fun _ _ _ h => h) (Or.inl ⟨by rfl, ?_⟩) ?_ ?_
                rotate_left
                ·intro w'
                 go_simp
                 with_reducible rfl
                rotate_left
                ·simp only [Act.put, List.setIfInBounds_toArray, List.set_cons_zero, List.set_cons_succ, i64_w, i32_w]
                 rfl
                refine pure_ (i := 3) (N := some 68) (v := ?_) (a' := ?_) #[false,true,true,true,false,false,false] rfl rfl (by kernel_rfl) (fun _ _ _ h => h) (Or.inl ⟨by rfl, ?_⟩) ?_ ?_
                rotate_left
                ·intro w'
                 go_simp
                 with_reducible rfl
                rotate_left
                ·simp only [Act.put, List.setIfInBounds_toArray, List.set_cons_zero, List.set_cons_succ, i64_w, i32_w]
                 rfl
                refine take_ (i := 0) (N := some 65) (v := ?_) (a' := ?_) #[true,true,true,true,false,false,false] rfl rfl (by kernel_rfl) (fun _ _ _ h => h) (Or.inl ⟨by rfl, ?_⟩) hHeld ?_ ?_
                rotate_left
                ·rintro w' ⟨s0, s1, s2⟩
                 go_simp
                 with_reducible rfl
                rotate_left
                ·simp only [Act.put, List.setIfInBounds_toArray, List.set_cons_zero, List.set_cons_succ, i64_w, i32_w]
                 rfl
                refine take_ (i := 4) (N := some 69) (v := ?_) (a' := ?_) #[true,true,true,true,true,false,false] rfl rfl (by kernel_rfl) (fun _ _ _ h => h) (Or.inl ⟨by rfl, ?_⟩) hHeld ?_ ?_
                rotate_left
                ·rintro w' ⟨s0, s1, s2⟩
                 go_simp
                 with_reducible rfl
                rotate_left
                ·simp only [Act.put, List.setIfInBounds_toArray, List.set_cons_zero, List.set_cons_succ, i64_w, i32_w]
                 rfl
                refine one_ (i := 5) (N := some 70) #[true,true,true,true,true,true,false] rfl rfl (by kernel_rfl) (by decide) (fun K hK => ?_)
                refine goes_ Try.func106 (by kernel_rfl) rfl #[.agg #[.int .i64 a0_0, .slice A0_1 l0_1.length c0_1], .slice A168_0 (rd_L2 x11_21 x10_1).length c168_0, .bool true] (by rfl) rfl rfl mM ?_
                with_reducible refine (spec_l10Alike.calls kj21 a0_0 _ _ l0_1 _ _ (rd_L2 x11_21 x10_1) true true _ ?side1 ?side2 ?side3 ?side4 A36.out).mono ?_
                (case side1 => exact cP (Kd.C_below HR0_1.out HB.out))
                (case side2 => exact HC0_1.out)
                (case side3 => exact cP (by repeat (first | (with_reducible exact HR168_0.out) | (with_reducible refine Kd.C_alloc ?_ _) | (with_reducible refine Kd.C_drewN ?_ _) | (with_reducible refine Kd.C_drew ?_) | exact HR168_0.out)))
                (case side4 => exact HC168_0.out)
                rintro e w46 ⟨rfl, hb⟩
                have HS2_ := (hb.cell (World.block_lt_of_cell? _ _ (hHeld.2.2))).trans (hHeld.2.2)
                refine ⟨_, rfl, ?_⟩
                have n0_ := Aside0.mk (VL_below (by (with_reducible repeat (first | apply VL_alloc | apply VL_drewN | apply VL_drew));exact HO_1.out) hb)
                have n1_ := Aside0.mk (Kd.S_below (by (with_reducible repeat (first | apply Kd.S_alloc | apply Kd.S_drewN | apply Kd.S_drew));exact HO_11.out) hb)
                have n2_ := Aside0.mk (Kd.V_below (by (with_reducible repeat (first | apply Kd.V_alloc | apply Kd.V_drewN | apply Kd.V_drew));exact HL168_0.out) hb)
                have n3_ := Aside0.mk (blk_below (g := gb142) (o := .cells #[.int .i64 a0_0, .slice A0_1 l0_1.length c0_1] 29 (0, 0)) (by exact kP BK142.out) hb)
                have n4_ := Aside0.mk (Kd.C_below (by repeat (first | (with_reducible exact HR168_0.out) | (with_reducible refine Kd.C_alloc ?_ _) | (with_reducible refine Kd.C_drewN ?_ _) | (with_reducible refine Kd.C_drew ?_) | exact HR168_0.out)) hb)
                have n5_ := Aside0.mk (below_step (by exact bB) hb)
                clear HO_1
                clear HO_11
                clear HL168_0
                clear BK142
                clear HR168_0
                clear HB
                have HO_1 := n0_
                have HO_11 := n1_
                have HL168_0 := n2_
                have BK142 := n3_
                have HR168_0 := n4_
                have HB := n5_
                clear n0_ n1_ n2_ n3_ n4_ n5_
                (try clear hb)
                (try clear hb2)
                (try clear hk)
                (try clear hi)
                refine hK.out _ _ ⟨(blk_cell BK142.out 0).trans rfl, (blk_cell BK142.out 1).trans rfl, HS2_⟩ (fun hHeld => ?_)
                clear hK K
                refine norm_ (a' := ?_) ?_ ?_
                rotate_left
                ·show Act.put _ (some 70) _ = _
                 simp only [Act.put, List.setIfInBounds_toArray, List.set_cons_zero, List.set_cons_succ, i64_w, i32_w]
                 rfl
                refine pure_ (i := 6) (N := some 71) (v := ?_) (a' := ?_) #[true,true,true,true,true,true,true] rfl rfl (by kernel_rfl) (fun _ _ _ h => h) (Or.inl ⟨by rfl, ?_⟩) ?_ ?_
                rotate_left
                ·intro w'
                 go_simp
                 with_reducible rfl
                rotate_left
                ·simp only [Act.put, List.setIfInBounds_toArray, List.set_cons_zero, List.set_cons_succ, i64_w, i32_w]
                 rfl
                refine done_ (by kernel_rfl) ?_
                have hcz47_0 : w46.cell? ⟨gb142, 0, none⟩ = some (.int .i64 a0_0) := (blk_cell BK142.out 0).trans rfl
                have hcz47_1 : w46.cell? ⟨gb142, 1, none⟩ = some (.slice A0_1 l0_1.length c0_1) := (blk_cell BK142.out 1).trans rfl
                have hfz47_0 := blk_frozen BK142.out 0
                have hfz47_1 := blk_frozen BK142.out 1
                try go_wp2_with (first | ((with_reducible refine gate_callee (f := 75) rfl ?_);refine goesL_ (some 78) rfl rfl Try.func75 (by kernel_rfl) rfl #[.agg #[.int .i64 a0_0, .slice A0_1 l0_1.length c0_1], .slice (some ad168) x11_21.length co48, .int .i64 (wrap64 (a2 + 1)), .int .i64 a3] rfl mM ?_;(with_reducible refine (ih kj21 (by have := HK1.out;have := HJ9.out;have := HK3.out;have := HJ21.out;omega) a0_0 _ _ l0_1 (fun k_ => ((w.heap.size ≤ k_) ∧ k_ ≠ gb142)) _ _ x11_21 (wrap64 (a2 + 1)) a3 t170 false _ ?side1 ?side2 ?side3 A38.out).mono ?_);(case side1 => exact cP (Kd.C_below HR0_1.out HB.out));(case side2 => exact HC0_1.out);(case side3 => exact VL_S (Kd.S_types (HO_11.out) BK142.out (by decide)));rintro e w49 ⟨v171, rfl, ho0, hb⟩;refine ⟨_, rfl, ?_⟩;have n0_ := Aside0.mk (VL_below (by (with_reducible repeat (first | apply VL_alloc | apply VL_drewN | apply VL_drew));exact HO_1.out) hb);have n1_ := Aside0.mk (Kd.S_below (by (with_reducible repeat (first | apply Kd.S_alloc | apply Kd.S_drewN | apply Kd.S_drew));exact HO_11.out) hb);have n2_ := Aside0.mk (Kd.V_below (by (with_reducible repeat (first | apply Kd.V_alloc | apply Kd.V_drewN | apply Kd.V_drew));exact HL168_0.out) hb);have n3_ := Aside0.mk (VL_lower (VL_mono (ok' := fun k_ => (P1_ k_ ∨ w.heap.size ≤ k_) ∧ k_ ≠ gb142) ho0 (fun k_ hk_ => ⟨Or.elim hk_ (fun hs_ => (.inr (hs_.1))) (fun hn_ => (.inr (Nat.le_trans (below_size (by exact bB)) hn_))), Or.elim hk_ (fun hs_ => hs_.2) (fun hn_ => (Kd.freshB (g := gb142) (o := .cells #[.int .i64 a0_0, .slice A0_1 l0_1.length c0_1] 29 (0, 0)) (by exact kP BK142.out) k_ hn_))⟩)) (below_size (by exact bB)));have n4_ := Aside0.mk (blk_below (g := gb142) (o := .cells #[.int .i64 a0_0, .slice A0_1 l0_1.length c0_1] 29 (0, 0)) (by exact kP BK142.out) hb);have n5_ := Aside0.mk (Kd.C_below (by repeat (first | (with_reducible exact HR168_0.out) | (with_reducible refine Kd.C_alloc ?_ _) | (with_reducible refine Kd.C_drewN ?_ _) | (with_reducible refine Kd.C_drew ?_) | exact HR168_0.out)) hb);have n6_ := Aside0.mk (below_step (by exact bB) hb);clear HO_1;clear HO_11;clear HL168_0;clear BK142;clear HR168_0;clear HB;have HO_1 := n0_;have HO_11 := n1_;have HL168_0 := n2_;have HO172 := n3_;have BK142 := n4_;have HR168_0 := n5_;have HB := n6_;clear n0_ n1_ n2_ n3_ n4_ n5_ n6_;(try clear hb);(try clear hb2);(try clear hk);(try clear hi);(try clear ho0)))
                go_roundg kj21
                case measure => have := HK1.out;have := HJ9.out;have := HK3.out;have := HJ21.out;omega
                case rel => exact ⟨(wrap64 (x10_1 + 1)), (by first | rfl | (simp;done) | (simp [*];done)), H', ⟨by have := HK1.out;have := HJ9.out;have := HK3.out;have := HJ21.out;omega⟩, ⟨by (with_reducible repeat (first | apply VL_alloc | apply VL_drewN | apply VL_drew));exact VL_mono HO_1.out (fun _ hk => ⟨hk.1, hk.2.2⟩)⟩, ⟨by exact kP BK142.out⟩, ⟨by exact bB⟩⟩
              ·replace c37 := Bool.eq_false_iff.mpr c37
               subst c37
               have H1 : (spec_l10Fill.l0 kj21 l1 a2 a3 (wrap64 (x10_1 + 1)) a0_0 l0_1) = some (r1, r2) := by rw [if_neg (show ¬ (false = true) by decide)] at H;exact H
               clear H
               have H := H1
               clear H1
               have H' := Aside0.mk H
               clear H
               try go_wp2
               have n0_ := Aside0.mk (VL_drew HO_1.out)
               have n1_ := Aside0.mk (Kd.S_drew HO_11.out)
               have n2_ := Aside0.mk (blk_drew BK142.out)
               have n3_ := Aside0.mk (below_drew1 HB.out)
               clear HO_1
               clear HO_11
               clear BK142
               clear HB
               have HO_1 := n0_
               have HO_11 := n1_
               have BK142 := n2_
               have HB := n3_
               clear n0_ n1_ n2_ n3_
               obtain ⟨AoX, coX, eoX⟩ := Kd.S_slice HO_11.out
               subst eoX
               have p168 : 0 ≤ (x10_1 : Int) := oA
               have q168 : x10_1 < (x11_21.length : Int) := oA
               obtain ⟨ad168, A168_0, c168_0, e168, hx168_0, hl168_0, hi168_0⟩ := at_L2 (Kd.S_reads' HO_11.out).2.2 x10_1 p168 q168
               cases e168
               obtain ⟨ce168, hce168, hMe168, hcc168⟩ := Kd.N_get (Kd.S_N HO_11.out) [] x10_1 p168 (by first | exact q168 | exact oA | (have e_ := (Kd.S_reads' HO_11.out).1;omega))
               obtain ⟨ua168_0, uc168_0, rfl, ul168_0, ge168_0⟩ := Kd.FK_slice_open hMe168
               have hv168_0 := hcc168 0 _ rfl
               rw [Nat.add_zero, show ((Kd.slice 3 (Kd.int .i64))).sz = 1 from rfl, Nat.mul_one] at hv168_0
               replace hv168_0 := Option.some.inj (hv168_0.symm.trans hx168_0)
               injection hv168_0 with hva_ hvn_ hvc_
               rw [hva_] at ge168_0
               rw [hvc_] at ul168_0
               have HL168_0 := Aside0.mk (show Kd.V (Kd.int .i64) 3 _ w.heap.size _ _ (rd_L2 x11_21 x10_1) from Kd.V_mk ul168_0 ge168_0)
               clear hva_ hvn_ hvc_ ge168_0 ul168_0
               clear hcc168 hce168
               have HR168_0 := Aside0.mk hi168_0
               have HC168_0 := Aside0.mk hl168_0
               clear hi168_0 hl168_0
               replace p168 := eq_true p168
               replace q168 := eq_true q168
               refine start_ (n := 7) (S := fun w' => w'.cell? ⟨gb142, 0, none⟩ = some (.int .i64 a0_0) ∧ w'.cell? ⟨gb142, 1, none⟩ = some (.slice A0_1 l0_1.length c0_1) ∧ w'.cell? (ad168.add (x10_1).toNat) = some (.slice A168_0 (rd_L2 x11_21 x10_1).length c168_0)) (ds := []) #[false,false,false,false,false,false,false] (by kernel_rfl) rfl rfl ⟨(blk_cell BK142.out 0).trans rfl, (blk_cell BK142.out 1).trans rfl, hx168_0⟩ (fun hHeld => ?_)
               generalize wc.drew = w50 at HO_1 HO_11 BK142 HB HL168_0 HR168_0 hx168_0 hHeld ⊢
               refine pure_ (i := 1) (N := some 66) (v := ?_) (a' := ?_) #[false,true,false,false,false,false,false] rfl rfl (by kernel_rfl) (fun _ _ _ h => h) (Or.inl ⟨by rfl, ?_⟩) ?_ ?_
               rotate_left
               ·intro w'
                go_simp
                with_reducible rfl
               rotate_left
               ·simp only [Act.put, List.setIfInBounds_toArray, List.set_cons_zero, List.set_cons_succ, i64_w, i32_w]
                rfl
               refine pure_ (i := 2) (N := some 67) (v := ?_) (a' := ?_) #[false,true,true,false,false,false,false] rfl rfl (by kernel_rfl) (fun _ _ _ h => h) (Or.inl ⟨by rfl, ?_⟩) ?_ ?_
               rotate_left
               ·intro w'
                go_simp
                with_reducible rfl
               rotate_left
               ·simp only [Act.put, List.setIfInBounds_toArray, List.set_cons_zero, List.set_cons_succ, i64_w, i32_w]
                rfl
               refine pure_ (i := 3) (N := some 68) (v := ?_) (a' := ?_) #[false,true,true,true,false,false,false] rfl rfl (by kernel_rfl) (fun _ _ _ h => h) (Or.inl ⟨by rfl, ?_⟩) ?_ ?_
               rotate_left
               ·intro w'
                go_simp
                with_reducible rfl
               rotate_left
               ·simp only [Act.put, List.setIfInBounds_toArray, List.set_cons_zero, List.set_cons_succ, i64_w, i32_w]
                rfl
               refine take_ (i := 0) (N := some 65) (v := ?_) (a' := ?_) #[true,true,true,true,false,false,false] rfl rfl (by kernel_rfl) (fun _ _ _ h => h) (Or.inl ⟨by rfl, ?_⟩) hHeld ?_ ?_
               rotate_left
               ·rintro w' ⟨s0, s1, s2⟩
                go_simp
                with_reducible rfl
               rotate_left
               ·simp only [Act.put, List.setIfInBounds_toArray, List.set_cons_zero, List.set_cons_succ, i64_w, i32_w]
                rfl
               refine take_ (i := 4) (N := some 69) (v := ?_) (a' := ?_) #[true,true,true,true,true,false,false] rfl rfl (by kernel_rfl) (fun _ _ _ h => h) (Or.inl ⟨by rfl, ?_⟩) hHeld ?_ ?_
               rotate_left
               ·rintro w' ⟨s0, s1, s2⟩
                go_simp
                with_reducible rfl
               rotate_left
               ·simp only [Act.put, List.setIfInBounds_toArray, List.set_cons_zero, List.set_cons_succ, i64_w, i32_w]
                rfl
               refine one_ (i := 5) (N := some 70) #[true,true,true,true,true,true,false] rfl rfl (by kernel_rfl) (by decide) (fun K hK => ?_)
               refine goes_ Try.func106 (by kernel_rfl) rfl #[.agg #[.int .i64 a0_0, .slice A0_1 l0_1.length c0_1], .slice A168_0 (rd_L2 x11_21 x10_1).length c168_0, .bool true] (by rfl) rfl rfl mM ?_
               with_reducible refine (spec_l10Alike.calls kj21 a0_0 _ _ l0_1 _ _ (rd_L2 x11_21 x10_1) true false _ ?side1 ?side2 ?side3 ?side4 A36.out).mono ?_
               (case side1 => exact cP (Kd.C_below HR0_1.out HB.out))
               (case side2 => exact HC0_1.out)
               (case side3 => exact cP (by repeat (first | (with_reducible exact HR168_0.out) | (with_reducible refine Kd.C_alloc ?_ _) | (with_reducible refine Kd.C_drewN ?_ _) | (with_reducible refine Kd.C_drew ?_) | exact HR168_0.out)))
               (case side4 => exact HC168_0.out)
               rintro e w51 ⟨rfl, hb⟩
               have HS2_ := (hb.cell (World.block_lt_of_cell? _ _ (hHeld.2.2))).trans (hHeld.2.2)
               refine ⟨_, rfl, ?_⟩
               have n0_ := Aside0.mk (VL_below (by (with_reducible repeat (first | apply VL_alloc | apply VL_drewN | apply VL_drew));exact HO_1.out) hb)
               have n1_ := Aside0.mk (Kd.S_below (by (with_reducible repeat (first | apply Kd.S_alloc | apply Kd.S_drewN | apply Kd.S_drew));exact HO_11.out) hb)
               have n2_ := Aside0.mk (Kd.V_below (by (with_reducible repeat (first | apply Kd.V_alloc | apply Kd.V_drewN | apply Kd.V_drew));exact HL168_0.out) hb)
               have n3_ := Aside0.mk (blk_below (g := gb142) (o := .cells #[.int .i64 a0_0, .slice A0_1 l0_1.length c0_1] 29 (0, 0)) (by exact kP BK142.out) hb)
               have n4_ := Aside0.mk (Kd.C_below (by repeat (first | (with_reducible exact HR168_0.out) | (with_reducible refine Kd.C_alloc ?_ _) | (with_reducible refine Kd.C_drewN ?_ _) | (with_reducible refine Kd.C_drew ?_) | exact HR168_0.out)) hb)
               have n5_ := Aside0.mk (below_step (by exact bB) hb)
               clear HO_1
               clear HO_11
               clear HL168_0
               clear BK142
               clear HR168_0
               clear HB
               have HO_1 := n0_
               have HO_11 := n1_
               have HL168_0 := n2_
               have BK142 := n3_
               have HR168_0 := n4_
               have HB := n5_
               clear n0_ n1_ n2_ n3_ n4_ n5_
               (try clear hb)
               (try clear hb2)
               (try clear hk)
               (try clear hi)
               refine hK.out _ _ ⟨(blk_cell BK142.out 0).trans rfl, (blk_cell BK142.out 1).trans rfl, HS2_⟩ (fun hHeld => ?_)
               clear hK K
               refine norm_ (a' := ?_) ?_ ?_
               rotate_left
               ·show Act.put _ (some 70) _ = _
                simp only [Act.put, List.setIfInBounds_toArray, List.set_cons_zero, List.set_cons_succ, i64_w, i32_w]
                rfl
               refine pure_ (i := 6) (N := some 71) (v := ?_) (a' := ?_) #[true,true,true,true,true,true,true] rfl rfl (by kernel_rfl) (fun _ _ _ h => h) (Or.inl ⟨by rfl, ?_⟩) ?_ ?_
               rotate_left
               ·intro w'
                go_simp
                with_reducible rfl
               rotate_left
               ·simp only [Act.put, List.setIfInBounds_toArray, List.set_cons_zero, List.set_cons_succ, i64_w, i32_w]
                rfl
               refine done_ (by kernel_rfl) ?_
               try go_wp2
               go_roundg kj21
               case measure => have := HK1.out;have := HJ9.out;have := HK3.out;have := HJ21.out;omega
               case rel => exact ⟨(wrap64 (x10_1 + 1)), (by first | rfl | (simp;done) | (simp [*];done)), H', ⟨by have := HK1.out;have := HJ9.out;have := HK3.out;have := HJ21.out;omega⟩, ⟨by (with_reducible repeat (first | apply VL_alloc | apply VL_drewN | apply VL_drew));exact VL_mono HO_1.out (fun _ hk => ⟨hk.1, hk.2.2⟩)⟩, ⟨by exact kP BK142.out⟩, ⟨by exact bB⟩⟩
             ·rw [if_neg c35] at H
              exact absurd H (by simp)
            ·rw [if_neg c34] at H
             exact absurd H (by simp)
      ·replace c12 := Bool.eq_false_iff.mpr c12
       subst c12
       have H1 : (some ((([] : List (List Int))), false)) = some (r1, r2) := by rw [if_neg (show ¬ (false = true) by decide)] at H;exact H
       clear H
       have H := H1
       clear H1
       obtain ⟨y143, hy143⟩ : ∃ y_ : List (List Int), y_ = (([] : List (List Int))) := ⟨_, rfl⟩
       replace H : (some (y143, false)) = some (r1, r2) := by first | (rw [hy143];with_reducible exact H) | (have H2_ := (Option.bind_some _ _).symm.trans H;rw [hy143];with_reducible exact H2_) | (have H2_ := (Option.bind_some _ _).symm.trans H;with_reducible exact H2_) | with_reducible exact H | (rw [hy143];exact H) | exact H
       have Ny143 := Aside0.mk hy143
       clear hy143
       simp only [Option.some.injEq, Prod.mk.injEq] at H
       obtain ⟨rfl, rfl⟩ := H
       go_wp2_with (first | ((with_reducible refine gate_dst (N := 83) rfl ?_);refine Kd.S_lit (Kd.slice 3 (Kd.int .i64)) _ 25 ?hg (N := 83) ?hd (xs := ([] : List (List Int))) (inner := []) (ok := fun _ => True) (okp := fun _ => True) ?hr ?hp (fun _ hk => hk) trivial (Below.refl _ _) (Nat.le_refl _) (by simp) ?_;(case hd => rfl);(case hg => rfl);(case hr => first | (go_simp;done) | (go_simp;rfl));(case hp => exact (Reps.none _ _));intro v144 w52 ho53 hb hg_ hnew_;clear hg_ hnew_;(first | rw [← Ny143.out] at ho53 | (simp only [Int.reduceToNat] at ho53;rw [← Ny143.out] at ho53));have n0_ := Aside0.mk (VL_elder' (by (with_reducible repeat (first | apply VL_alloc | apply VL_drewN | apply VL_drew));exact HO_1.out) (Kd.S_base ho53) hb);have n1_ := Aside0.mk (Kd.S_lower (Kd.S_newM (M := fun k_ => (w.heap.size ≤ k_)) ho53 (below_size (by exact bB)) (fun k_ h_ => h_)) (below_size (by exact bB)));have n2_ := Aside0.mk (blk_below (g := gb142) (o := .cells #[.int .i64 a0_0, .slice A0_1 l0_1.length c0_1] 29 (0, 0)) (by exact kP BK142.out) hb);have n3_ := Aside0.mk (below_step (by exact bB) hb);clear HO_1;clear BK142;clear HB;have HO_1 := n0_;have HO145 := n1_;have BK142 := n2_;have HB := n3_;clear n0_ n1_ n2_ n3_;clear hb ho53))
       go_ret2
       exact ⟨_, by first | rfl | (simp [errW_none, errW_some] <;> rfl) | (simp [*, errW_none, errW_some] <;> rfl), VL_mono (VL_S (by (with_reducible repeat (first | apply Kd.S_alloc | apply Kd.S_drewN | apply Kd.S_drew));exact Kd.S_mono HO145.out (fun _ hk => hk.1))) (fun k_ hk => by first | exact ⟨(.inr (hk.1)), hk.2⟩ | exact (.inr (hk))), by exact bB⟩




end Go.Proofs.Ytaddgielnfhhpaa.QLeastCliqueCover
