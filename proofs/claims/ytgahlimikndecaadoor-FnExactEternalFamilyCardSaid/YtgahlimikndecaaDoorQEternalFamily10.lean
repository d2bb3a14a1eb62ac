import Derived.Test.YtgahlimikndecaaDoorQEternalFamily0
import Derived.Test.YtgahlimikndecaaDoorQEternalFamily6
import Derived.Test.YtgahlimikndecaaDoorQEternalFamily8
import Derived.Test.YtgahlimikndecaaDoorQEternalFamily9
namespace Go.Proofs.YtgahlimikndecaaDoor.QEternalFamily
open Go.RowKit Go.Proofs.YtgahlimikndecaaDoorW.PrintWords Go.Proofs.YtgahlimikndecaaDoorW.PrintLast Go.Proofs.YtgahlimikndecaaDoorW.PrintMore
attribute [local go_sem] max2_int min2_int max_two min_two max_three min_three max_four min_four   -- for this text's walks alone
set_option linter.unusedVariables false
set_option linter.unusedSimpArgs false
set_option maxRecDepth 100000
set_option maxHeartbeats 8000000
/-! ### impl_EternalFamily: function 10 -/
section
variable {P : Program} {ops : Array Oper} {rest : List Oper} {o : Oper} {a : Act} {Q : Exit → Act → World → Prop} {α : Type} {d : Kd α} {f : Nat → Nat} {m m' : Int} {e base : Nat} {ok ok' : Nat → Prop} {w w1 W : World} {v : Value} {xs : List α}
def Fam {α : Type} (d : Kd α) (f : Nat → Nat) (m : Int) (e : Nat) (w : World) (base : Nat) (ok : Nat → Prop) (v : Value) (xs : List α) : Prop :=
 ∃ ys : List (α × Nat), ys.map Prod.fst = xs ∧ ys.Pairwise (fun a b => a.2 < b.2) ∧ (∀ y ∈ ys, (y.2 : Int) < m) ∧ (Kd.tag f d).R e w base ok v ys
theorem Fam_nil (d : Kd α) (f : Nat → Nat) (m : Int) (e : Nat) (w : World) (base : Nat) (ok : Nat → Prop) : Fam d f m e w base ok (.slice none 0 0) [] := ⟨[], rfl, List.Pairwise.nil, fun _ h => by simp at h, Kd.R_nil _ _ _ _ _⟩
theorem Fam_mono (h : Fam d f m e w base ok v xs) (hok : ∀ k, ok k → ok' k) : Fam d f m e w base ok' v xs := by
 obtain ⟨ys, h1, h2, h3, h4⟩ := h
 exact ⟨ys, h1, h2, h3, Kd.R_mono h4 hok⟩
theorem Fam_to (h : Fam d f m e w base ok v xs) (hm : m ≤ m') : Fam d f m' e w base ok v xs := by
 obtain ⟨ys, h1, h2, h3, h4⟩ := h
 exact ⟨ys, h1, h2, fun y hy => Int.lt_of_lt_of_le (h3 y hy) hm, h4⟩
theorem Fam_alloc (h : Fam d f m e w base ok v xs) (o : Obj) : Fam d f m e (w.alloc o) base ok v xs := by
 obtain ⟨ys, h1, h2, h3, h4⟩ := h
 exact ⟨ys, h1, h2, h3, Kd.R_alloc h4 o⟩
theorem Fam_drew (h : Fam d f m e w base ok v xs) : Fam d f m e w.drew base ok v xs := by
 obtain ⟨ys, h1, h2, h3, h4⟩ := h
 exact ⟨ys, h1, h2, h3, Kd.R_drew h4⟩
theorem Fam_drewN (h : Fam d f m e w base ok v xs) (n : Nat) : Fam d f m e (w.drewN n) base ok v xs := by
 obtain ⟨ys, h1, h2, h3, h4⟩ := h
 exact ⟨ys, h1, h2, h3, Kd.R_drewN h4 n⟩
theorem Fam_slice (h : Fam d f m e w base ok v xs) : ∃ A c, v = .slice A xs.length c := by
 obtain ⟨ys, rfl, h2, h3, h4⟩ := h
 obtain ⟨A, c, rfl⟩ := Kd.R_slice h4
 exact ⟨A, c, by rw [List.length_map]⟩
theorem Fam_typed (h : Fam d f m e w base ok v xs) : ∀ k, v.ownBlock = some k → ∃ cells, w.heap[k]? = some (.cells cells e (0, 0)) := by
 obtain ⟨ys, _, _, _, h4⟩ := h
 exact Kd.R_typed h4
theorem Fam_ne (h : Fam d f m e w base ok v xs) {g t : Nat} {cells : Array Value} (hb : w.heap[g]? = some (.cells cells t (0, 0))) (ht : e ≠ t) : some g ≠ v.ownBlock := by
 obtain ⟨ys, _, _, _, h4⟩ := h
 exact Kd.R_ne h4 hb ht
theorem Fam_S (h : Fam d f m e w base ok v xs) : Kd.S d e w base ok v xs := by
 obtain ⟨ys, rfl, hp, -, h0, inner, ho, hr⟩ := h
 have hinj : ∀ (j : Nat) (y : α × Nat), ys[j]? = some y → ys.findIdx (fun z => z.2 == y.2) = j := by
  intro j y hj
  obtain ⟨hl, hy⟩ := List.getElem?_eq_some_iff.1 hj
  rw [List.findIdx_eq hl]
  refine ⟨by rw [hy];simp, fun i hi => ?_⟩
  have := List.pairwise_iff_getElem.1 hp i j (by omega) hl hi
  rw [hy] at this
  simp only [beq_eq_false_iff_ne, ne_eq]
  omega
 refine ⟨fun k => ys.findIdx (fun z => z.2 == f k), h0, inner, by rw [List.length_zipIdx, List.length_map];exact ho, by rw [List.length_zipIdx, List.length_map];exact hr.1, fun j p hj => ?_⟩
 rw [List.getElem?_zipIdx, Nat.zero_add, List.getElem?_map] at hj
 obtain ⟨x, hx, rfl⟩ := Option.map_eq_some_iff.1 hj
 obtain ⟨y, hy, rfl⟩ := Option.map_eq_some_iff.1 hx
 have hM := hr.2 j y hy
 exact d.M_mono (fun k hk => ⟨hk.1, by show ys.findIdx (fun z => z.2 == f k) = j;rw [show f k = y.2 from hk.2];exact hinj j y hy⟩) hM
theorem Fam_append (d : Kd α) {f : Nat → Nat} {q : Int} {w0 W : World} (base : Nat) (hgd : o.guard = none) (s x : Operand) (t e : TypeId) (z : Value) (bytes : Nat)
  (ho : o.op = .call { callee := .builtin .append, args := #[s, x], argTypes := #[t, t] })
  (ht : P.underlying t = some (.slice e)) (hinfo : (P.info? e).map (fun i => (i.zero, i.size, i.bytes)) = some (some z, d.sz, bytes)) (hz : z.cells.size = d.sz) (hs0 : 0 < d.sz) (hb0 : 0 < bytes)
  (v : Value) (xs : List α) (p : α) (cs : List Value) (ok okp : Nat → Prop) (hs : a.eval s = v) (hx : a.eval x = .slice (some ⟨W.heap.size, 0, none⟩) 1 1) (hp : d.M W base (fun k => okp k ∧ f k = q.toNat) p cs) (hokp : ∀ k, okp k → ok k ∧ some k ≠ v.ownBlock) (hfresh : ∀ k, W.heap.size ≤ k → ok k)
  (HO : Fam d f q e W base ok v xs) (h0 : 0 ≤ q) (HB : Below base w0 W) (hbase : base ≤ W.heap.size) (hl : (xs.length + 1) * bytes ≤ 140737488355328)
  (h : ∀ v1 w1, Fam d f (q + 1) e w1 base ok v1 (xs ++ [p]) → Below base w0 w1 → W.grownBy w1 v.ownBlock → (v1.ownBlock = v.ownBlock ∨ ∃ b, v1.ownBlock = some b ∧ W.heap.size ≤ b) → wpList P ops Q rest (a.put o.dst v1) w1) :
  wpList P ops Q (o :: rest) a (W.alloc (.cells cs.toArray e)) := by
 obtain ⟨ys, rfl, hpw, hlt, hR⟩ := HO
 rw [List.length_map] at hl
 refine Kd.R_append (Kd.tag f d) base hgd s x t e z bytes ho ht hinfo hz hs0 hb0 v ys (p, q.toNat) cs ok okp hs hx hp hokp hfresh hR HB hbase hl (fun v1 w1 hr => h v1 w1 ⟨ys ++ [(p, q.toNat)], by simp, ?_, ?_, hr⟩)
 ·rw [List.pairwise_append]
  refine ⟨hpw, List.pairwise_singleton _ _, fun a ha b hb => ?_⟩
  rw [List.mem_singleton.1 hb]
  have := hlt a ha
  show a.2 < q.toNat
  omega
 ·intro y hy
  rcases List.mem_append.1 hy with hy | hy
  ·have := hlt y hy;omega
  ·rw [List.mem_singleton.1 hy]
   show ((q.toNat : Nat) : Int) < q + 1
   omega
theorem Tg_S (h : (Kd.tag f d).R e w base ok v xs.zipIdx) : Kd.S d e w base ok v xs := ⟨f, h⟩
theorem Tg_types {zs : List (α × Nat)} (h : (Kd.tag f d).R e w base ok v zs) {g t : Nat} {cells : Array Value} (hb : w.heap[g]? = some (.cells cells t (0, 0))) (ht : ∀ q, q ∈ e :: d.E → q ≠ t) : (Kd.tag f d).R e w base (fun k => ok k ∧ k ≠ g) v zs := Kd.R_types h hb ht
theorem Tg_slice (h : (Kd.tag f d).R e w base ok v xs.zipIdx) : ∃ A c, v = .slice A xs.length c := Kd.S_slice (Tg_S h)
theorem Tg_get {ad : Addr} {n cap : Nat} (h : (Kd.tag f d).R e W base ok (.slice (some ad) n cap) xs.zipIdx) (z : α) (i : Int) (h0 : 0 ≤ i) (h1 : i < n) :
  ∃ c, c.length = d.sz ∧ d.M W base (fun k => (ok k ∧ some k ≠ (Value.slice (some ad) n cap).ownBlock) ∧ f k = i.toNat) (xs.getD i.toNat z) c ∧ ∀ j u, c[j]? = some u → W.cell? (ad.add (i.toNat * d.sz + j)) = some u := by
 have hn := (Kd.R_reads' h).1
 rw [List.length_zipIdx] at hn
 obtain ⟨c, h2, h3, h4⟩ := Kd.R_getA h (z, 0) i h0 h1
 have hlt : i.toNat < xs.length := by omega
 have e1 : xs.zipIdx.getD i.toNat (z, 0) = (xs.getD i.toNat z, i.toNat) := by
  rw [List.getD_eq_getElem?_getD, List.getD_eq_getElem?_getD, List.getElem?_zipIdx, List.getElem?_eq_getElem hlt];simp
 rw [e1] at h3
 exact ⟨c, h2, h3, h4⟩
theorem M_slice_open {d : Kd α} {e base : Nat} {ok : Nat → Prop} {w : World} {l : List α} {cs : List Value} (h : (Kd.slice e d).M w base ok l cs) : ∃ A c, cs = [.slice A l.length c] ∧ l.length ≤ c ∧ d.R e w base ok (.slice A l.length c) l := by
 obtain ⟨v, rfl, h⟩ := h
 obtain ⟨A, c, rfl, hl, _⟩ := Kd.R_reads h
 exact ⟨A, c, rfl, hl, h⟩
theorem Kd.R_afterv {d : Kd α} {e base : Nat} {ok : Nat → Prop} {W w1 : World} {u v v1 : Value} {xs : List α} (h : d.R e W base (fun k => ok k ∧ some k ≠ v.ownBlock) u xs) (hg : W.grownBy w1 v.ownBlock) (hat : v1.ownBlock = v.ownBlock ∨ ∃ b, v1.ownBlock = some b ∧ W.heap.size ≤ b) : d.R e w1 base (fun k => ok k ∧ some k ≠ v1.ownBlock) u xs := Kd.R_after h hg hat
theorem fam_w {x : Int} {n : Nat} (h0 : 0 ≤ x) (h1 : x < n) (hn : n ≤ 9223372036854775807) : x + 1 ≤ wrap64 (x + 1) := by
 have h2 : (n : Int) ≤ 9223372036854775807 := by omega
 unfold wrap64;omega
end

mutual
def impl_EternalFamily.j0 : Nat → Int → Bool → Bool → Int → List (S78) → Option ((List (List Int)) × Bool)
 | 0, _, _, _, _, _ => none
 | k + 1, x1, x2, x21, x566000, x566001 => if x21 = true then (some (([] : List (List Int)), false)) else ((impl_netOf.f x566000 x566001).bind fun t568 => ((impl_net_guardGame.f k t568 x1 x2).bind fun bt571 => ((impl_valResist.f k bt571.1 bt571.2.1 bt571.2.2).bind fun t579 => (impl_EternalFamily.l0 k ([] : List (List Int)) t579 (t579.length : Int) 0 bt571.1 bt571.2.1 bt571.2.2))))
def impl_EternalFamily.l0 : Nat → List (List Int) → List Int → Int → Int → Int → List (List Int) → List (List Int) → Option ((List (List Int)) × Bool)
 | 0, _, _, _, _, _, _, _ => none
 | k + 1, x9, x28, x29, x30, x579000, x579001, x579002 => if x30 < x29 then (if 0 ≤ x30 then (if x30 < (x28.length : Int) then (if (rd x28 x30) < 0 then (if x30 < (x579001.length : Int) then (if x9.length < 5864062014805 then (impl_EternalFamily.l0 k (x9 ++ [rd_L2 x579001 x30]) x28 x29 (wrap64 (x30 + 1)) x579000 x579001 x579002) else (none)) else (none)) else (impl_EternalFamily.l0 k x9 x28 x29 (wrap64 (x30 + 1)) x579000 x579001 x579002)) else (none)) else (none)) else (some (x9, decide ((x9.length : Int) > 0)))
end
def impl_EternalFamily.f (k : Nat) (a0_0 : Int) (l0_1 : List (S78)) (a1 : Int) (a2 : Bool) : Option ((List (List Int)) × Bool) := (impl_IsGraph.f a0_0 l0_1).bind fun t566 => (if t566 = true then ((impl_within.f a1 0 a0_0).bind fun t567 => (impl_EternalFamily.j0 k a1 a2 (!t567) a0_0 l0_1)) else (impl_EternalFamily.j0 k a1 a2 true a0_0 l0_1))
theorem impl_EternalFamily.mono_l : ∀ k, (∀ y0 y1 y2 y3 y4, LeO (impl_EternalFamily.j0 k y0 y1 y2 y3 y4) (impl_EternalFamily.j0 (k + 1) y0 y1 y2 y3 y4)) ∧ (∀ y0 y1 y2 y3 y4 y5 y6, LeO (impl_EternalFamily.l0 k y0 y1 y2 y3 y4 y5 y6) (impl_EternalFamily.l0 (k + 1) y0 y1 y2 y3 y4 y5 y6))
 | 0 => ⟨fun _ _ _ _ _ r h => by simp [impl_EternalFamily.j0] at h, fun _ _ _ _ _ _ _ r h => by simp [impl_EternalFamily.l0] at h⟩
 | k + 1 => by
  obtain ⟨ih0, ih1⟩ := impl_EternalFamily.mono_l k
  refine ⟨?_, ?_⟩
  ·intro y0 y1 y2 y3 y4
   unfold impl_EternalFamily.j0
   have q0 := impl_net_guardGame.mono
   have q1 := impl_valResist.mono
   exact lM
  ·intro y0 y1 y2 y3 y4 y5 y6
   unfold impl_EternalFamily.l0
   have q0 := impl_net_guardGame.mono
   have q1 := impl_valResist.mono
   exact lM
theorem impl_EternalFamily.mono : ∀ a0 a1 a2 a3 k, LeO (impl_EternalFamily.f k a0 a1 a2 a3) (impl_EternalFamily.f (k + 1) a0 a1 a2 a3) := by
 intro a0 a1 a2 a3 k
 obtain ⟨ih0, ih1⟩ := impl_EternalFamily.mono_l k
 unfold impl_EternalFamily.f
 have q0 := impl_net_guardGame.mono
 have q1 := impl_valResist.mono
 exact lM
theorem impl_EternalFamily.calls (k : Nat) (a0_0 : Int) (A0_1 : Option Addr) (c0_1 : Nat) (l0_1 : List (S78)) (a1 : Int) (a2 : Bool) (r1 : List (List Int)) (r2 : Bool) (w : World) (hT : TabG w) (hr0_1 : Kd.C k78 w A0_1 l0_1.length l0_1) (hc0_1 : l0_1.length ≤ c0_1) (h : impl_EternalFamily.f k a0_0 l0_1 a1 a2 = some (r1, r2)) :
  Calls Tryd.prog 10 #[.agg #[.int .i64 a0_0, .slice A0_1 l0_1.length c0_1], .int .i64 a1, .bool a2] w fun e w' => ∃ v0_ : Value, e = .returned (.tuple #[v0_, .bool r2]) ∧ Kd.S (Kd.slice 3 (Kd.int .i64)) 36 w' w.heap.size (fun k_ => (w.heap.size ≤ k_)) v0_ r1 ∧ Below w.heap.size w w' := by
 have hu29 := Tryd.underlying29
 have hu61 := Tryd.underlying61
 have HR0_1 := Aside0.mk hr0_1
 have HC0_1 := Aside0.mk hc0_1
 clear hr0_1 hc0_1
 have HB := aM (Below.refl w.heap.size w)
 have HT := Aside0.mk hT
 clear hT
 have H : ((impl_IsGraph.f a0_0 l0_1).bind fun t566 => (if t566 = true then ((impl_within.f a1 0 a0_0).bind fun t567 => (impl_EternalFamily.j0 k a1 a2 (!t567) a0_0 l0_1)) else (impl_EternalFamily.j0 k a1 a2 true a0_0 l0_1))) = some (r1, r2) := h
 clear h
 have HC4 := Aside0.mk H
 clear H
 go_enter Tryd.func10, Tryd.ntmps10
 go_upto_region 1 with (first | ((with_reducible refine gate_dst (N := 3) rfl ?_);refine box_event ?hg (N := 3) ?hd (cs := #[.int .i64 a0_0, .slice A0_1 l0_1.length c0_1]) (t := 29) ?hr ?_;(case hd => rfl);(case hg => rfl);(case hr => exact gS);intro gb565 hg w5 hbox hb;have n0_ := aM (below_step (by exact bB) hb);have n1_ := aM (hbox);have n2_ := aM (sW hg : w.heap.size ≤ gb565);have n3_ := aM (sW hg : w.heap.size ≤ gb565);clear HB;have HB := n0_;have BK565 := n1_;have GW565 := n2_;have GE565 := n3_;clear n0_ n1_ n2_ n3_;clear hb hbox hg))
 (try simp only [Act.put, List.setIfInBounds_toArray, List.set_cons_zero, List.set_cons_succ])
 go_cut [21] (fun v21 wc => ∃ (kq : Nat) (x21_3 : Bool), v21 = .bool x21_3 ∧ Aside0 (impl_EternalFamily.j0 kq a1 a2 x21_3 a0_0 l0_1 = some (r1, r2)) ∧ Aside0 (kq ≤ k) ∧ Aside0 (wc.heap[gb565]? = some (.cells #[.int .i64 a0_0, (.slice A0_1 l0_1.length c0_1)] 29 (0, 0))) ∧ Aside0 (Below w.heap.size w wc))
 case first =>
  have H := HC4.out
  clear HC4
  replace H := Option.bind_eq_some_iff.mp H
  obtain ⟨t566, A60, H⟩ := H
  try dsimp only at H
  have A6 := Aside0.mk A60
  clear A60
  by_cases c7 : t566 = true
  rotate_left
  ·replace c7 := Bool.eq_false_iff.mpr c7
   subst c7
   rw [if_neg (show ¬ (false = true) by decide)] at H
   have H' := Aside0.mk H
   clear H
   have hcz12_0 := bC0 BK565.out
   have hcz12_1 := bC1 BK565.out
   have hfz12_0 := blk_frozen BK565.out 0
   have hfz12_1 := blk_frozen BK565.out 1
   go_wp2_with (first | ((with_reducible refine gate_callee (f := 30) rfl ?_);refine goesL_ (some 13) rfl rfl Tryd.func30 (by kernel_rfl) rfl #[.agg #[.int .i64 a0_0, .slice A0_1 l0_1.length c0_1]] rfl mM ?_;(with_reducible refine (impl_IsGraph.calls a0_0 _ _ l0_1 false _ ?side1 ?side2 A6.out).mono ?_);(case side1 => exact cP (Kd.C_below HR0_1.out HB.out));(case side2 => exact HC0_1.out);rintro e w13 ⟨rfl, hb⟩;refine ⟨_, rfl, ?_⟩;have n0_ := aM (kB hb BK565.out);have n1_ := aM (below_step (by exact bB) hb);clear BK565;clear HB;have BK565 := n0_;have HB := n1_;clear n0_ n1_;(try clear hb)))
   go_meet
   case rel => exact ⟨_, (true), eF, H', ⟨by first | omega | exact Nat.le_refl _⟩, ⟨by exact kP BK565.out⟩, ⟨by exact bB⟩⟩
  subst c7
  rw [if_pos rfl] at H
  replace H := Option.bind_eq_some_iff.mp H
  obtain ⟨t567, A80, H⟩ := H
  try dsimp only at H
  have A8 := Aside0.mk A80
  clear A80
  have H' := Aside0.mk H
  clear H
  have hcz9_0 := bC0 BK565.out
  have hcz9_1 := bC1 BK565.out
  have hfz9_0 := blk_frozen BK565.out 0
  have hfz9_1 := blk_frozen BK565.out 1
  go_wp2_with (first | ((with_reducible refine gate_callee (f := 30) rfl ?_);refine goesL_ (some 13) rfl rfl Tryd.func30 (by kernel_rfl) rfl #[.agg #[.int .i64 a0_0, .slice A0_1 l0_1.length c0_1]] rfl mM ?_;(with_reducible refine (impl_IsGraph.calls a0_0 _ _ l0_1 true _ ?side1 ?side2 A6.out).mono ?_);(case side1 => exact cP (Kd.C_below HR0_1.out HB.out));(case side2 => exact HC0_1.out);rintro e w10 ⟨rfl, hb⟩;refine ⟨_, rfl, ?_⟩;have n0_ := aM (kB hb BK565.out);have n1_ := aM (below_step (by exact bB) hb);clear BK565;clear HB;have BK565 := n0_;have HB := n1_;clear n0_ n1_;(try clear hb);have hcz11_0 := bC0 BK565.out;have hcz11_1 := bC1 BK565.out;have hfz11_0 := blk_frozen BK565.out 0;have hfz11_1 := blk_frozen BK565.out 1) | (go_at_call 31;(with_reducible refine (impl_within.calls a1 0 a0_0 t567 _ A8.out).mono ?_);rintro e w' ⟨rfl, ⟨nd, rfl⟩⟩))
  go_meet
  case rel => exact ⟨_, (!t567), eF, H', ⟨by first | omega | exact Nat.le_refl _⟩, ⟨by exact kP BK565.out⟩, ⟨by exact bB⟩⟩
 case rest =>
  clear HC4
  try clear c1
  try clear p2
  try clear c3
  try clear c7
  try clear c10
  try clear hcz11_0
  try clear hcz11_1
  try clear hcz12_0
  try clear hcz12_1
  try clear hcz9_0
  try clear hcz9_1
  try clear hfz11_0
  try clear hfz11_1
  try clear hfz12_0
  try clear hfz12_1
  try clear hfz9_0
  try clear hfz9_1
  obtain ⟨kq, x21_3, rfl, HA, HJ3, BK565, HB⟩ := hcut
  cases kq with
  | zero => exact absurd HA.out (by simp [impl_EternalFamily.j0])
  | succ kj3 =>
   have H := HA.out
   clear HA
   simp only [impl_EternalFamily.j0] at H
   by_cases c14 : x21_3 = true
   ·subst c14
    rw [if_pos rfl] at H
    simp only [Option.some.injEq, Prod.mk.injEq] at H
    obtain ⟨rfl, rfl⟩ := H
    go_wp2
    go_ret2
    exact ⟨_, eW, by first | exact Kd.S_nil _ _ _ _ _ | exact Kd.N_nil _ _ _ _ _ | exact Kd.V_nil _ _ _ _ _ | exact Kd.Q_nil _ _ _ _ _ | exact Kd.R_nil _ _ _ _ _, by exact bB⟩
   replace c14 := Bool.eq_false_iff.mpr c14
   subst c14
   rw [if_neg (show ¬ (false = true) by decide)] at H
   replace H := Option.bind_eq_some_iff.mp H
   obtain ⟨t568, A150, H⟩ := H
   try dsimp only at H
   have A15 := Aside0.mk A150
   clear A150
   replace H := Option.bind_eq_some_iff.mp H
   obtain ⟨⟨t571, t572, t575⟩, A160, H⟩ := H
   try dsimp only at H
   have A16 := Aside0.mk A160
   clear A160
   replace H := Option.bind_eq_some_iff.mp H
   obtain ⟨t579, A170, H⟩ := H
   try dsimp only at H
   have A17 := Aside0.mk A170
   clear A170
   have H' := Aside0.mk H
   clear H
   have hcz18_0 := bC0 BK565.out
   have hcz18_1 := bC1 BK565.out
   have hfz18_0 := blk_frozen BK565.out 0
   have hfz18_1 := blk_frozen BK565.out 1
   go_wp2_with (first | ((with_reducible refine gate_callee (f := 32) rfl ?_);refine goesL_ (some 23) rfl rfl Tryd.func32 (by kernel_rfl) rfl #[.agg #[.int .i64 a0_0, .slice A0_1 l0_1.length c0_1]] rfl mM ?_;(with_reducible refine (impl_netOf.calls a0_0 _ _ l0_1 t568 _ ?side1 ?side2 A15.out).mono ?_);(case side1 => exact cP (Kd.C_below HR0_1.out HB.out));(case side2 => exact HC0_1.out);rintro e w19 ⟨v569, rfl, ho0, hb⟩;refine ⟨_, rfl, ?_⟩;have n0_ := aM (Kd.R_lower (Kd.R_newM (M := fun k_ => (w.heap.size ≤ k_)) ho0 (below_size (by exact bB)) (fun k_ h_ => h_)) (below_size (by exact bB)));have n1_ := aM (kB hb BK565.out);have n2_ := aM (below_step (by exact bB) hb);clear BK565;clear HB;have HO570 := n0_;have BK565 := n1_;have HB := n2_;clear n0_ n1_ n2_;(try clear hb);(try clear ho0);obtain ⟨Ao20, co20, eo20⟩ := Kd.R_slice HO570.out;subst eo20) | ((with_reducible refine gate_callee (f := 33) rfl ?_);refine goesL_ (some 26) rfl rfl Tryd.func33 (by kernel_rfl) rfl #[.agg #[.slice Ao20 t568.length co20], .int .i64 a1, .bool a2] rfl mM ?_;(with_reducible refine (impl_net_guardGame.calls kj3 _ _ t568 a1 a2 t571 t572 t575 _ ?sideT ?side1 ?side2 A16.out).mono ?_);(case sideT => exact tabG_below HT.out (by exact bB));(case side1 => exact cP (Kd.R_reads' HO570.out).2.2);(case side2 => exact (Kd.R_reads' HO570.out).2.1);rintro e w21 ⟨gb578, v573, v576, rfl, hbx, hge, ⟨f_, ho0⟩, ho1, hb⟩;refine ⟨_, rfl, ?_⟩;have GW578 := aM (Nat.le_trans (below_size (by exact bB)) hge);have GE578 := GW578;have NB565_578 : Aside0 (gb565 ≠ gb578) := ⟨Nat.ne_of_lt (Nat.lt_of_lt_of_le (blk_lt (g := gb565) (o := .cells #[.int .i64 a0_0, .slice A0_1 l0_1.length c0_1] 29 (0, 0)) (by exact kP BK565.out)) hge)⟩;have NB578_565 : Aside0 (gb578 ≠ gb565) := ⟨Nat.ne_of_gt (Nat.lt_of_lt_of_le (blk_lt (g := gb565) (o := .cells #[.int .i64 a0_0, .slice A0_1 l0_1.length c0_1] 29 (0, 0)) (by exact kP BK565.out)) hge)⟩;have n0_ := aM (Kd.R_below (by exact rP HO570.out) hb);have n1_ := aM (Kd.R_lower (Kd.R_mono (ok' := fun k_ => ((w.heap.size ≤ k_) ∧ some k_ ≠ (v576 : Value).ownBlock ∧ some k_ ≠ (.slice Ao20 t568.length co20 : Value).ownBlock ∧ k_ ≠ gb565) ∧ k_ ≠ gb578) (Tg_types (Kd.R_bound ho0) hbx (by decide)) (fun k_ hk0_ => ⟨by have hk_ := hk0_.1;exact ⟨(Nat.le_trans (below_size (by exact bB)) hk_.2.1), hk_.1, (Kd.fresh' (Kd.R_lt (by exact rP HO570.out)) k_ hk_.2.1), (Kd.freshB (g := gb565) (o := .cells #[.int .i64 a0_0, .slice A0_1 l0_1.length c0_1] 29 (0, 0)) (by exact kP BK565.out) k_ hk_.2.1)⟩, hk0_.2⟩)) (below_size (by exact bB)));have n2_ := aM (Kd.N_lower (Kd.N_mono (ok' := fun k_ => ((w.heap.size ≤ k_) ∧ some k_ ≠ (v573 : Value).ownBlock ∧ some k_ ≠ (.slice Ao20 t568.length co20 : Value).ownBlock ∧ k_ ≠ gb565) ∧ k_ ≠ gb578) (Kd.S_N (Kd.S_types (Kd.S_bound ho1) hbx (by decide))) (fun k_ hk0_ => ⟨by have hk_ := hk0_.1;exact ⟨(Nat.le_trans (below_size (by exact bB)) hk_.2.1), hk_.1, (Kd.fresh' (Kd.R_lt (by exact rP HO570.out)) k_ hk_.2.1), (Kd.freshB (g := gb565) (o := .cells #[.int .i64 a0_0, .slice A0_1 l0_1.length c0_1] 29 (0, 0)) (by exact kP BK565.out) k_ hk_.2.1)⟩, hk0_.2⟩)) (below_size (by exact bB)));have n3_ := aM (kB hb BK565.out);have n4_ := aM (below_step (by exact bB) hb);clear HO570;clear BK565;clear HB;have HO570 := n0_;have HO574 := n1_;have HO577 := n2_;have BK565 := n3_;have HB := n4_;clear n0_ n1_ n2_ n3_ n4_;(try clear hb);(try clear ho0);(try clear ho1);obtain ⟨Ao22, co22, eo22⟩ := Tg_slice HO574.out;subst eo22;obtain ⟨Ao23, co23, eo23⟩ := Kd.N_slice HO577.out;subst eo23;have BK578 := Aside0.mk hbx;clear hbx hge;have hnb25 := NB578_565.out;have hnc25 := NB565_578.out;have hcz26_0 := bC0 BK578.out;have hcz26_1 := bC1 BK578.out;have hcz26_2 := bC2 BK578.out;have hfz26_0 := blk_frozen BK578.out 0;have hfz26_1 := blk_frozen BK578.out 1;have hfz26_2 := blk_frozen BK578.out 2) | ((with_reducible refine gate_callee (f := 34) rfl ?_);refine goesL_ (some 28) rfl rfl Tryd.func34 (by kernel_rfl) rfl #[.pointer (some ⟨gb578, 0, none⟩)] rfl mM ?_;(with_reducible refine (impl_valResist.calls gb578 kj3 t571 Ao22 co22 t572 Ao23 co23 t575 t579 _ ?side1 ?side2 ?side3 ?side4 A17.out ?sideG).mono ?_);(case sideG => exact kP BK578.out);(case side1 => exact cP (Kd.S_reads' (Tg_S HO574.out)).2.2);(case side2 => exact (Kd.S_reads' (Tg_S HO574.out)).2.1);(case side3 => exact cP (Kd.N_reads' HO577.out).2.2);(case side4 => exact (Kd.N_reads' HO577.out).2.1);rintro e w27 ⟨v580, rfl, ho0, hb⟩;refine ⟨_, rfl, ?_⟩;have n0_ := aM (Kd.R_elder' (by exact rP HO570.out) (Kd.R_base ho0) hb);have n1_ := aM (Kd.R_elder' (by exact rP HO574.out) (Kd.R_base ho0) hb);have n2_ := aM (Kd.N_elder' (by exact uP HO577.out) (Kd.R_base ho0) hb);have n3_ := aM (Kd.R_lower (Kd.R_new' (Kd.R_newM (M := fun k_ => (w.heap.size ≤ k_)) ho0 (below_size (by exact bB)) (fun k_ h_ => h_)) (Kd.R_lt (by exact rP HO570.out))) (below_size (by exact bB)));have n4_ := aM (kB hb BK565.out);have n5_ := aM (kB hb BK578.out);have n6_ := aM (below_step (by exact bB) hb);clear HO570;clear HO574;clear HO577;clear BK565;clear BK578;clear HB;have HO570 := n0_;have HO574 := n1_;have HO577 := n2_;have HO581 := n3_;have BK565 := n4_;have BK578 := n5_;have HB := n6_;clear n0_ n1_ n2_ n3_ n4_ n5_ n6_;(try clear hb);(try clear ho0);obtain ⟨Ao28, co28, eo28⟩ := Kd.R_slice HO581.out;subst eo28))
   go_loopg [9, 30] kj3 (fun kq v9 v30 w' => ∃ (x9_2 : List (List Int)) (x30_2 : Int), v30 = .int .i64 x30_2 ∧ Aside0 (impl_EternalFamily.l0 kq x9_2 t579 (t579.length : Int) x30_2 t571 t572 t575 = some (r1, r2)) ∧ Aside0 (kq ≤ kj3) ∧ Aside0 (Fam (Kd.slice 3 (Kd.int .i64)) f_ x30_2 36 w' w.heap.size (fun k_ => (w.heap.size ≤ k_) ∧ some k_ ≠ ((.slice Ao28 t579.length co28) : Value).ownBlock ∧ some k_ ≠ ((.slice Ao22 t572.length co22) : Value).ownBlock ∧ some k_ ≠ ((.slice Ao23 t575.length co23) : Value).ownBlock ∧ k_ ≠ gb565 ∧ k_ ≠ gb578) v9 x9_2) ∧ Aside0 (Kd.R (Kd.int .i64) 3 w' w.heap.size (fun k_ => (w.heap.size ≤ k_)) (.slice Ao28 t579.length co28) t579) ∧ Aside0 (Kd.R (Kd.tag f_ (Kd.slice 3 (Kd.int .i64))) 36 w' w.heap.size (fun k_ => (w.heap.size ≤ k_) ∧ some k_ ≠ (v9 : Value).ownBlock ∧ some k_ ≠ ((.slice Ao28 t579.length co28) : Value).ownBlock ∧ some k_ ≠ ((.slice Ao23 t575.length co23) : Value).ownBlock ∧ k_ ≠ gb565 ∧ k_ ≠ gb578) (.slice Ao22 t572.length co22) t572.zipIdx) ∧ Aside0 (Kd.N (Kd.slice 3 (Kd.int .i64)) 36 w' w.heap.size (fun k_ => (w.heap.size ≤ k_) ∧ some k_ ≠ (v9 : Value).ownBlock ∧ some k_ ≠ ((.slice Ao28 t579.length co28) : Value).ownBlock ∧ some k_ ≠ ((.slice Ao22 t572.length co22) : Value).ownBlock ∧ k_ ≠ gb565 ∧ k_ ≠ gb578) (.slice Ao23 t575.length co23) t575) ∧ Aside0 (w'.heap[gb565]? = some (.cells #[.int .i64 a0_0, (.slice A0_1 l0_1.length c0_1)] 29 (0, 0))) ∧ Aside0 (w'.heap[gb578]? = some (.cells #[.int .i64 t571, (.slice Ao22 t572.length co22), (.slice Ao23 t575.length co23)] 61 (0, 0))) ∧ Aside0 (Below w.heap.size w w'))
   case atStart => exact ⟨(([] : List (List Int))), (0), eF, H', ⟨Nat.le_refl _⟩, ⟨by exact Fam_nil _ _ _ _ _ _ _⟩, ⟨by refine rP ?_;exact Kd.R_mono HO581.out (fun _ hk => hk.1.1)⟩, ⟨by refine rP ?_;exact Kd.R_mono HO574.out (fun _ hk => ⟨hk.1.1.1, ⟨(by simp [Value.ownBlock]), ⟨hk.2, ⟨hk.1.1.2.1, ⟨hk.1.1.2.2.2, hk.1.2⟩⟩⟩⟩⟩)⟩, ⟨by (with_reducible repeat (first | apply Kd.N_alloc | apply Kd.N_drewN | apply Kd.N_drew));exact Kd.N_mono HO577.out (fun _ hk => ⟨hk.1.1.1, ⟨(by simp [Value.ownBlock]), ⟨hk.2, ⟨hk.1.1.2.1, ⟨hk.1.1.2.2.2, hk.1.2⟩⟩⟩⟩⟩)⟩, ⟨by exact kP BK565.out⟩, ⟨by exact kP BK578.out⟩, ⟨by exact bB⟩⟩
   case round =>
    clear H'
    try clear c1
    try clear c2
    try clear p2
    try clear c3
    try clear c6
    try clear c7
    try clear c10
    try clear c14
    try clear c25
    try clear hcz11_0
    try clear hcz11_1
    try clear hcz12_0
    try clear hcz12_1
    try clear hcz18_0
    try clear hcz18_1
    try clear hcz26_0
    try clear hcz26_1
    try clear hcz26_2
    try clear hcz9_0
    try clear hcz9_1
    try clear hfz11_0
    try clear hfz11_1
    try clear hfz12_0
    try clear hfz12_1
    try clear hfz18_0
    try clear hfz18_1
    try clear hfz26_0
    try clear hfz26_1
    try clear hfz26_2
    try clear hfz9_0
    try clear hfz9_1
    try clear p2
    obtain ⟨x9_2, x30_2, rfl, HA, HK2, HO_9, HO_28, HO_579001, HO_579002, BK565, BK578, HB⟩ := hrel
    cases gk with
    | zero => exact absurd HA.out (by simp [impl_EternalFamily.l0])
    | succ k2 =>
     have H := HA.out
     clear HA
     simp only [impl_EternalFamily.l0] at H
     by_cases c29 : x30_2 < (t579.length : Int)
     rotate_left
     ·rw [if_neg c29] at H
      have c29b0 : decide (x30_2 < (t579.length : Int)) = false := decide_eq_false c29
      clear c29
      simp only [Option.some.injEq, Prod.mk.injEq] at H
      obtain ⟨rfl, rfl⟩ := H
      obtain ⟨Ao38, co38, eo38⟩ := Fam_slice HO_9.out
      subst eo38
      go_wp2
      go_ret2
      exact ⟨_, eW, by (with_reducible repeat (first | apply Kd.S_alloc | apply Kd.S_drewN | apply Kd.S_drew));exact Fam_S (Fam_mono HO_9.out (fun _ hk => hk.1)), by exact bB⟩
     rw [if_pos c29] at H
     have c29b0 : decide (x30_2 < (t579.length : Int)) = true := decide_eq_true c29
     clear c29
     by_cases c30 : 0 ≤ x30_2
     rotate_left
     ·rw [if_neg c30] at H
      exact absurd H (by simp)
     rw [if_pos c30] at H
     have c30b0 : decide (0 ≤ x30_2) = true := decide_eq_true c30
     clear c30
     by_cases c31 : x30_2 < (t579.length : Int)
     rotate_left
     ·rw [if_neg c31] at H
      exact absurd H (by simp)
     rw [if_pos c31] at H
     have c31b0 : decide (x30_2 < (t579.length : Int)) = true := decide_eq_true c31
     clear c31
     by_cases c32 : (rd t579 x30_2) < 0
     rotate_left
     ·rw [if_neg c32] at H
      have c32b0 : decide ((rd t579 x30_2) < 0) = false := decide_eq_false c32
      clear c32
      have H' := Aside0.mk H
      clear H
      have p582 : 0 ≤ (x30_2 : Int) := oA
      have q582 : x30_2 < (t579.length : Int) := oA
      obtain ⟨ad582, e582, hx582_0⟩ := Kd.at_int (Kd.R_reads' HO_28.out).2.2 x30_2 p582 q582
      cases e582
      replace p582 := eq_true p582
      replace q582 := eq_true q582
      go_wp2
      go_roundg k2
      case measure => have := HJ3.out;have := HK2.out;omega
      case rel => exact ⟨(x9_2), (wrap64 (x30_2 + 1)), eF, H', ⟨by have := HJ3.out;have := HK2.out;omega⟩, ⟨by (with_reducible repeat (first | apply Fam_alloc | apply Fam_drewN | apply Fam_drew));exact Fam_to HO_9.out (Int.le_trans (Int.le_of_lt (Int.lt_succ _)) (fam_w (of_eq_true (by assumption)) (of_eq_true (by assumption)) (Kd.R_reads' HO_28.out).2.2.2.1))⟩, ⟨by exact rP HO_28.out⟩, ⟨by exact rP HO_579001.out⟩, ⟨by (with_reducible repeat (first | apply Kd.N_alloc | apply Kd.N_drewN | apply Kd.N_drew));exact HO_579002.out⟩, ⟨by exact kP BK565.out⟩, ⟨by exact kP BK578.out⟩, ⟨by exact bB⟩⟩
     rw [if_pos c32] at H
     have c32b0 : decide ((rd t579 x30_2) < 0) = true := decide_eq_true c32
     clear c32
     by_cases c33 : x30_2 < (t572.length : Int)
     rotate_left
     ·rw [if_neg c33] at H
      exact absurd H (by simp)
     rw [if_pos c33] at H
     have c33b0 : decide (x30_2 < (t572.length : Int)) = true := decide_eq_true c33
     clear c33
     by_cases c34 : x9_2.length < 5864062014805
     rotate_left
     ·rw [if_neg c34] at H
      exact absurd H (by simp)
     rw [if_pos c34] at H
     have LMc34 := Aside0.mk c34
     clear c34
     obtain ⟨y584, hy584⟩ : ∃ y_ : List (List Int), y_ = (x9_2 ++ [rd_L2 t572 x30_2]) := ⟨_, rfl⟩
     replace H : (impl_EternalFamily.l0 k2 y584 t579 (t579.length : Int) (wrap64 (x30_2 + 1)) t571 t572 t575) = some (r1, r2) := by first | (rw [hy584];with_reducible exact H) | (have H2_ := (Option.bind_some _ _).symm.trans H;rw [hy584];with_reducible exact H2_) | (have H2_ := (Option.bind_some _ _).symm.trans H;with_reducible exact H2_) | with_reducible exact H | (rw [hy584];exact H) | exact H
     have Ny584 := Aside0.mk hy584
     clear hy584
     have H' := Aside0.mk H
     clear H
     have p582 : 0 ≤ (x30_2 : Int) := oA
     have q582 : x30_2 < (t579.length : Int) := oA
     obtain ⟨ad582, e582, hx582_0⟩ := Kd.at_int (Kd.R_reads' HO_28.out).2.2 x30_2 p582 q582
     cases e582
     replace p582 := eq_true p582
     replace q582 := eq_true q582
     have hnb35 := NB578_565.out
     have hnc35 := NB565_578.out
     have hcz36_0 := bC0 BK578.out
     have hcz36_1 := bC1 BK578.out
     have hcz36_2 := bC2 BK578.out
     have hfz36_0 := blk_frozen BK578.out 0
     have hfz36_1 := blk_frozen BK578.out 1
     have hfz36_2 := blk_frozen BK578.out 2
     have p583 : 0 ≤ (x30_2 : Int) := oA
     have q583 : x30_2 < (t572.length : Int) := oA
     obtain ⟨ad583, A583_0, c583_0, e583, hx583_0, hl583_0, hi583_0⟩ := at_L2 (Kd.S_reads' (Tg_S HO_579001.out)).2.2 x30_2 p583 q583
     cases e583
     obtain ⟨ce583, hce583, hMe583, hcc583⟩ := Tg_get HO_579001.out [] x30_2 p583 (by first | exact q583 | exact oA | (have e_ := (Kd.S_reads' (Tg_S HO_579001.out)).1;omega))
     obtain ⟨ua583_0, uc583_0, rfl, ul583_0, ge583_0⟩ := M_slice_open hMe583
     have hv583_0 := hcc583 0 _ rfl
     rw [Nat.add_zero, show ((Kd.slice 3 (Kd.int .i64))).sz = 1 from rfl, Nat.mul_one] at hv583_0
     replace hv583_0 := Option.some.inj (hv583_0.symm.trans hx583_0)
     injection hv583_0 with hva_ hvn_ hvc_
     rw [hva_, hvc_] at ge583_0
     rw [hvc_] at ul583_0
     have HL583_0 := aM (show Kd.R (Kd.int .i64) 3 _ w.heap.size _ _ (rd_L2 t572 x30_2) from ge583_0)
     clear hva_ hvn_ hvc_ ge583_0 ul583_0
     clear hcc583 hce583
     have HR583_0 := Aside0.mk hi583_0
     have HC583_0 := Aside0.mk hl583_0
     clear hi583_0 hl583_0
     replace p583 := eq_true p583
     replace q583 := eq_true q583
     go_wp2_with (first | ((with_reducible refine gate_builtin (b := .append) (xs := #[.tmp 37, .tmp 45]) rfl ?_);at_builtin;refine Fam_append (f := f_) (q := x30_2) (Kd.slice 3 (Kd.int .i64)) (w0 := w) w.heap.size rfl (.tmp 37) (.tmp 45) 26 36 (.slice none 0 0) 24 rfl Tryd.underlying26 info36 rfl (by decide) (by omega) u9 x9_2 (rd_L2 t572 x30_2) [.slice A583_0 (rd_L2 t572 x30_2).length c583_0] (fun k_ => (w.heap.size ≤ k_) ∧ some k_ ≠ (.slice (some ad582) t579.length co28 : Value).ownBlock ∧ some k_ ≠ (.slice (some ad583) t572.length co22 : Value).ownBlock ∧ some k_ ≠ (.slice Ao23 t575.length co23 : Value).ownBlock ∧ k_ ≠ gb565 ∧ k_ ≠ gb578) (fun k_ => ((fun k_ => (w.heap.size ≤ k_) ∧ some k_ ≠ (.slice (some ad582) t579.length co28 : Value).ownBlock ∧ some k_ ≠ (.slice (some ad583) t572.length co22 : Value).ownBlock ∧ some k_ ≠ (.slice Ao23 t575.length co23 : Value).ownBlock ∧ k_ ≠ gb565 ∧ k_ ≠ gb578)) k_ ∧ some k_ ≠ (u9 : Value).ownBlock) rfl rfl ?aP (fun _ hk => hk) ?aF ?aO ?aQ ?aB ?aS ?aL ?_;(case aQ => exact of_eq_true (by assumption));(case aP => exact ⟨_, rfl, Kd.R_mono HL583_0.out (fun k_ hk0_ => ⟨by have hk := hk0_.1;exact ⟨⟨hk.1.1, ⟨hk.1.2.2.1, ⟨hk.2, ⟨hk.1.2.2.2.1, ⟨hk.1.2.2.2.2.1, hk.1.2.2.2.2.2⟩⟩⟩⟩⟩, hk.1.2.1⟩, hk0_.2⟩)⟩);(case aB => exact (by exact bB));(case aF => exact (fun k_ hk => ⟨(Nat.le_trans (below_size (by exact bB)) hk), Kd.fresh' (Kd.R_lt (by exact rP HO_28.out)) k_ hk, Kd.fresh' (Kd.R_lt (by exact rP HO_579001.out)) k_ hk, Kd.fresh' (Kd.N_lt (by exact uP HO_579002.out)) k_ hk, Kd.freshB (g := gb565) (o := .cells #[.int .i64 a0_0, .slice A0_1 l0_1.length c0_1] 29 (0, 0)) (by exact kP BK565.out) k_ hk, Kd.freshB (g := gb578) (o := .cells #[.int .i64 t571, .slice (some ad583) t572.length co22, .slice Ao23 t575.length co23] 61 (0, 0)) (by exact kP BK578.out) k_ hk⟩));(case aO => exact (by (with_reducible repeat (first | apply Fam_alloc | apply Fam_drewN | apply Fam_drew));exact HO_9.out));(case aS => exact (below_size (by exact bB)));(case aL => have := LMc34.out;omega);intro v585 w37 ho hb hg hat;rw [← Ny584.out] at ho;have n0_ := aM (Kd.R_over' (by exact rP HO_28.out) (Fam_typed (by (with_reducible repeat (first | apply Fam_alloc | apply Fam_drewN | apply Fam_drew));exact HO_9.out)) (by decide) hg);have n1_ := aM (Kd.R_afterv (ok := (fun k_ => (w.heap.size ≤ k_) ∧ some k_ ≠ (.slice (some ad582) t579.length co28 : Value).ownBlock ∧ some k_ ≠ (.slice Ao23 t575.length co23 : Value).ownBlock ∧ k_ ≠ gb565 ∧ k_ ≠ gb578)) (by exact rP (Kd.R_mono HO_579001.out (fun _ hk => ⟨⟨hk.1, ⟨hk.2.2.1, ⟨hk.2.2.2.1, ⟨hk.2.2.2.2.1, hk.2.2.2.2.2⟩⟩⟩⟩, hk.2.1⟩))) hg hat);have n2_ := aM (Kd.N_afterv (ok := (fun k_ => (w.heap.size ≤ k_) ∧ some k_ ≠ (.slice (some ad582) t579.length co28 : Value).ownBlock ∧ some k_ ≠ (.slice (some ad583) t572.length co22 : Value).ownBlock ∧ k_ ≠ gb565 ∧ k_ ≠ gb578)) (by (with_reducible repeat (first | apply Kd.N_alloc | apply Kd.N_drewN | apply Kd.N_drew));exact Kd.N_mono HO_579002.out (fun _ hk => ⟨⟨hk.1, ⟨hk.2.2.1, ⟨hk.2.2.2.1, ⟨hk.2.2.2.2.1, hk.2.2.2.2.2⟩⟩⟩⟩, hk.2.1⟩)) hg hat);have n3_ := aM (blk_grown (g := gb565) (o := .cells #[.int .i64 a0_0, .slice A0_1 l0_1.length c0_1] 29 (0, 0)) (by exact kP BK565.out) hg (Fam_ne HO_9.out BK565.out (by decide)));have n4_ := aM (blk_grown (g := gb578) (o := .cells #[.int .i64 t571, .slice (some ad583) t572.length co22, .slice Ao23 t575.length co23] 61 (0, 0)) (by exact kP BK578.out) hg (Fam_ne HO_9.out BK578.out (by decide)));have n5_ := aM (Kd.R_afterv (ok := (fun k_ => (w.heap.size ≤ k_) ∧ some k_ ≠ (.slice (some ad582) t579.length co28 : Value).ownBlock ∧ some k_ ≠ (.slice (some ad583) t572.length co22 : Value).ownBlock ∧ some k_ ≠ (.slice Ao23 t575.length co23 : Value).ownBlock ∧ k_ ≠ gb565 ∧ k_ ≠ gb578)) (by exact rP (Kd.R_mono HL583_0.out (fun _ hk0_ => by have hk := hk0_.1;exact ⟨⟨hk.1.1, ⟨hk.1.2.2.1, ⟨hk.2, ⟨hk.1.2.2.2.1, ⟨hk.1.2.2.2.2.1, hk.1.2.2.2.2.2⟩⟩⟩⟩⟩, hk.1.2.1⟩))) hg hat);have n6_ := aM (hb);have n7_ := aM (ho);clear HO_28;clear HO_579001;clear HO_579002;clear BK565;clear BK578;clear HL583_0;clear HB;clear HO_9;have HO_28 := n0_;have HO_579001 := n1_;have HO_579002 := n2_;have BK565 := n3_;have BK578 := n4_;have HL583_0 := n5_;have HB := n6_;have HO586 := n7_;clear n0_ n1_ n2_ n3_ n4_ n5_ n6_ n7_;clear ho hb hg hat))
     go_roundg k2
     case measure => have := HJ3.out;have := HK2.out;omega
     case rel => exact ⟨(y584), (wrap64 (x30_2 + 1)), eF, H', ⟨by have := HJ3.out;have := HK2.out;omega⟩, ⟨by (with_reducible repeat (first | apply Fam_alloc | apply Fam_drewN | apply Fam_drew));exact Fam_to HO586.out (fam_w (of_eq_true (by assumption)) (of_eq_true (by assumption)) (Kd.R_reads' HO_28.out).2.2.2.1)⟩, ⟨by exact rP HO_28.out⟩, ⟨by refine rP ?_;exact Kd.R_mono HO_579001.out (fun _ hk => ⟨hk.1.1, ⟨hk.2, ⟨hk.1.2.1, ⟨hk.1.2.2.1, ⟨hk.1.2.2.2.1, hk.1.2.2.2.2⟩⟩⟩⟩⟩)⟩, ⟨by (with_reducible repeat (first | apply Kd.N_alloc | apply Kd.N_drewN | apply Kd.N_drew));exact Kd.N_mono HO_579002.out (fun _ hk => ⟨hk.1.1, ⟨hk.2, ⟨hk.1.2.1, ⟨hk.1.2.2.1, ⟨hk.1.2.2.2.1, hk.1.2.2.2.2⟩⟩⟩⟩⟩)⟩, ⟨by exact kP BK565.out⟩, ⟨by exact kP BK578.out⟩, ⟨by exact bB⟩⟩


end Go.Proofs.YtgahlimikndecaaDoor.QEternalFamily
