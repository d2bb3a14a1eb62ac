import Derived.Test.YtgahlimikndecaaDoorQPlayAttacks0
import Derived.Shelf.Spec.TrailingZeros
import Derived.Ground.Names7Prog
namespace Go.Proofs.YtgahlimikndecaaDoor.QPlayAttacks
open Go.RowKit Go.Proofs.YtgahlimikndecaaDoorW.PrintWords Go.Proofs.YtgahlimikndecaaDoorW.PrintLast Go.Proofs.YtgahlimikndecaaDoorW.PrintMore
attribute [local go_sem] max2_int min2_int max_two min_two max_three min_three max_four min_four
set_option linter.unusedVariables false
set_option linter.unusedSimpArgs false
set_option maxRecDepth 100000
set_option maxHeartbeats 8000000
/-! ### impl_netOf: by hand -/
def netStep (w : List Int) (e : S78) : List Int :=
 let w1 := w.set e.f0.toNat (Go.bits .or .i64 (rd w e.f0) (shl .i64 1 e.f1))
 w1.set e.f1.toNat (Go.bits .or .i64 (rd w1 e.f1) (shl .i64 1 e.f0))
def impl_netOf.f (a0_0 : Int) (l0_1 : List S78) : Option (List Int) := if decide (0 ≤ a0_0 ∧ a0_0 ≤ 8) && goodL a0_0 none l0_1 then some (l0_1.foldl netStep (List.replicate a0_0.toNat 0)) else none
theorem impl_netOf.calls (a0_0 : Int) (A0_1 : Option Addr) (c0_1 : Nat) (l0_1 : List (S78)) (r : List Int) (w : World) (hr0_1 : Kd.C k78 w A0_1 l0_1.length l0_1) (hc0_1 : l0_1.length ≤ c0_1) (h : impl_netOf.f a0_0 l0_1 = some r) :
  Calls Tryd.prog 32 #[.agg #[.int .i64 a0_0, .slice A0_1 l0_1.length c0_1]] w fun e w' => ∃ v0_ : Value, e = .returned (.agg #[v0_]) ∧ Kd.R (Kd.int .i64) 3 w' w.heap.size (fun _ => True) v0_ r ∧ Below w.heap.size w w' := by
 have hu29 := Tryd.underlying29
 have hu53 := Tryd.underlying56
 have hu72 := Tryd.underlying78
 have HR0_1 := Aside0.mk hr0_1
 have HC0_1 := Aside0.mk hc0_1
 clear hr0_1 hc0_1
 have HB := aM (Below.refl w.heap.size w)
 unfold impl_netOf.f at h
 by_cases hg : (decide (0 ≤ a0_0 ∧ a0_0 ≤ 8) && goodL a0_0 none l0_1) = true
 case neg => rw [if_neg hg] at h;cases h
 rw [if_pos hg] at h
 simp only [Bool.and_eq_true, decide_eq_true_eq] at hg
 obtain ⟨⟨hn0, hn8⟩, hg2⟩ := hg
 have HE := aM (goodL_all hg2)
 have c2b0 := eq_true hn0
 have c2b1 : decide (0 ≤ a0_0) = true := decide_eq_true hn0
 have hn35 : a0_0.toNat ≤ 35184372088832 := by omega
 have c3b0 := eq_true hn35
 have c3b1 : decide ((a0_0 : Int).toNat ≤ 35184372088832) = true := decide_eq_true hn35
 obtain ⟨y238, hy238⟩ : ∃ y_ : List Int, y_ = (List.replicate (a0_0 : Int).toNat 0) := ⟨_, rfl⟩
 rw [← hy238] at h
 have HN := aM (And.intro hn0 hn8)
 have HYL : Aside0 (y238.length = a0_0.toNat) := ⟨by rw [hy238];simp⟩
 have H' := aM (Option.some.inj h)
 have Ny238 := Aside0.mk hy238
 clear hy238 h hg2 hn0 hn8 hn35
 go_enter Tryd.func32, Tryd.ntmps32
 go_wp2_with (first | ((with_reducible refine gate_dst (N := 1) rfl ?_);refine box_event ?hg (N := 1) ?hd (cs := #[.int .i64 a0_0, .slice A0_1 l0_1.length c0_1]) (t := 29) ?hr ?_;(case hd => rfl);(case hg => rfl);(case hr => exact gS);intro gb236 hg w4 hbox hb;have n0_ := aM (below_step (by exact bB) hb);have n1_ := aM (hbox);have n2_ := aM (sW hg : w.heap.size ≤ gb236);have n3_ := aM (sW hg : w.heap.size ≤ gb236);clear HB;have HB := n0_;have BK236 := n1_;have GW236 := n2_;have GE236 := n3_;clear n0_ n1_ n2_ n3_ hb hbox hg) | ((with_reducible refine gate_dst (N := 2) rfl ?_);refine box_event ?hg (N := 2) ?hd (cs := #[.slice none 0 0]) (t := 56) ?hr ?_;(case hd => rfl);(case hg => rfl);(case hr => exact gS);intro gb237 hg w5 hbox hb;have n0_ := aM (kB hb BK236.out);have n1_ := aM (below_step (by exact bB) hb);have n2_ := aM (hbox);have n3_ := aM (sW hg : w.heap.size ≤ gb237);have n4_ := aM (sW hg : w.heap.size ≤ gb237);have n5_ := aM (nL hg (kP BK236.out));have n6_ := aM (nG hg (kP BK236.out));clear BK236 HB;have BK236 := n0_;have HB := n1_;have BK237 := n2_;have GW237 := n3_;have GE237 := n4_;have NB236_237 := n5_;have NB237_236 := n6_;clear n0_ n1_ n2_ n3_ n4_ n5_ n6_ hb hbox hg;have hnb6 := NB236_237.out;have hnc6 := NB237_236.out;have hcz7_0 := bC0 BK236.out;have hcz7_1 := bC1 BK236.out;have hfz7_0 := blk_frozen BK236.out 0;have hfz7_1 := blk_frozen BK236.out 1) | ((with_reducible refine gate_dst (N := 8) rfl ?_);refine Kd.R_make (Kd.int .i64) _ 3 rfl (N := 8) rfl 36 _ _ rfl a0_0 rfl rfl Tryd.underlying36 (.int .i64 0) 8 infoInt rfl (by decide) (by omega) 0 (ok := fun _ => True) (okp := fun _ => True) rfl (fun _ hk => hk) trivial (oA) (Nat.le_trans (Nat.mul_le_mul_right _ (oA : a0_0.toNat ≤ 35184372088832)) (by omega)) (Below.refl _ _) (Nat.le_refl _) ?_;intro v239 w8 ho9 hb hg_ hnew_;clear hg_ hnew_;(first | rw [← Ny238.out] at ho9 | (simp only [Int.reduceToNat] at ho9;rw [← Ny238.out] at ho9));have n0_ := aM (Kd.R_lower ho9 (below_size (by exact bB)));have n1_ := aM (kB hb BK236.out);have n2_ := aM (kB hb BK237.out);have n3_ := aM (below_step (by exact bB) hb);clear BK236 BK237 HB;have HO240 := n0_;have BK236 := n1_;have BK237 := n2_;have HB := n3_;clear n0_ n1_ n2_ n3_ hb ho9;obtain ⟨Ao10, co10, eo10⟩ := Kd.R_slice HO240.out;subst eo10) | ((with_reducible refine gate_dst (N := 3) rfl ?_);refine box_event ?hg (N := 3) ?hd (cs := #[.slice none 0 0]) (t := 56) ?hr ?_;(case hd => rfl);(case hg => rfl);(case hr => exact gS);intro gb241 hg w11 hbox hb;have n0_ := aM (Kd.R_below (by exact rP HO240.out) hb);have n1_ := aM (kB hb BK236.out);have n2_ := aM (kB hb BK237.out);have n3_ := aM (below_step (by exact bB) hb);have n4_ := aM (hbox);have n5_ := aM (sW hg : w.heap.size ≤ gb241);have n6_ := aM (sW hg : w.heap.size ≤ gb241);have n7_ := aM (nL hg (kP BK236.out));have n8_ := aM (nG hg (kP BK236.out));have n9_ := aM (nL hg (kP BK237.out));have n10_ := aM (nG hg (kP BK237.out));clear HO240 BK236 BK237 HB;have HO240 := n0_;have BK236 := n1_;have BK237 := n2_;have HB := n3_;have BK241 := n4_;have GW241 := n5_;have GE241 := n6_;have NB236_241 := n7_;have NB241_236 := n8_;have NB237_241 := n9_;have NB241_237 := n10_;clear n0_ n1_ n2_ n3_ n4_ n5_ n6_ n7_ n8_ n9_ n10_ hb hbox hg;have hnb12 := NB241_236.out;have hnc12 := NB236_241.out;have hnb13 := NB241_237.out;have hnc13 := NB237_241.out;have hcz14_0 := bC0 BK241.out;have hfz14_0 := blk_frozen BK241.out 0;have hcz15_0 := bC0 BK236.out;have hcz15_1 := bC1 BK236.out;have hfz15_0 := blk_frozen BK236.out 0;have hfz15_1 := blk_frozen BK236.out 1))
 go_loopw [13] (fun v13 w' => ∃ (x13_1 : Int) (x242000_1 : List Int) (u242000 : Value), v13 = .int .i64 x13_1 ∧ Aside0 (0 ≤ x13_1 ∧ x13_1 ≤ l0_1.length) ∧ Aside0 ((l0_1.drop x13_1.toNat).foldl netStep x242000_1 = r) ∧ Aside0 (x242000_1.length = a0_0.toNat) ∧ Aside0 (Kd.R (Kd.int .i64) 3 w' w.heap.size (fun _ => True) u242000 x242000_1) ∧ Aside0 (w'.heap[gb236]? = some (.cells #[.int .i64 a0_0, (.slice A0_1 l0_1.length c0_1)] 29 (0, 0))) ∧ Aside0 (w'.heap[gb237]? = some (.cells #[(.slice none 0 0)] 56 (0, 0))) ∧ Aside0 (w'.heap[gb241]? = some (.cells #[u242000] 56 (0, 0))) ∧ Aside0 (Below w.heap.size w w')) (fun v _ => l0_1.length - (intOf v).toNat)
 case atStart => exact ⟨(0), (y238), (.slice Ao10 y238.length co10), rfl, ⟨by omega, by omega⟩, ⟨H'.out⟩, HYL, ⟨by refine rP ?_;exact Kd.R_mono (Kd.R_far (p := ⟨gb241, 0, none⟩) (Kd.R_types HO240.out BK241.out (by decide)) (fun _ hk => hk.2) (.slice Ao10 y238.length co10)) (fun _ hk => trivial)⟩, ⟨by refine kP ?_;refine blk_far ?_ NB236_241.out _;exact kP BK236.out⟩, ⟨by refine kP ?_;refine blk_far ?_ NB237_241.out _;exact kP BK237.out⟩, ⟨by refine kP ?_;refine blk_put (cs := #[.slice none 0 0]) ?_ 0 _ rfl;exact kP BK241.out⟩, ⟨by exact bB⟩⟩
 case round =>
  clear H' HYL Ny238 HO240
  try clear c2
  try clear c2b0
  try clear c2b1
  try clear c3b0
  try clear c3b1
  obtain ⟨x13_1, x242000_1, u242000, rfl, HX, HF, HYL, HO_242000, BK236, BK237, BK241, HB⟩ := hrel
  by_cases hlt : x13_1 < (l0_1.length : Int)
  ·have hlt' : decide (x13_1 < (l0_1.length : Int)) = true := decide_eq_true hlt
   have p0 : 0 ≤ x13_1 := HX.out.1
   obtain ⟨ad, e, hx0, hx1⟩ := at_T78 HR0_1.out x13_1 p0 hlt
   cases e
   replace hx0 := cB HB.out hx0
   replace hx1 := cB HB.out hx1
   have HL := Aside0.mk hlt
   have hok := HE.out (rd_T78 l0_1 x13_1) (rd_mem p0 hlt)
   have HF2 : Aside0 ((l0_1.drop (x13_1 + 1).toNat).foldl netStep (netStep x242000_1 (rd_T78 l0_1 x13_1)) = r) := ⟨by rw [← HF.out];exact (foldl_at p0 hlt netStep x242000_1).symm⟩
   have HW1 : Aside0 (wrap64 (x13_1 + 1) = x13_1 + 1) := ⟨by have := HR0_1.out.2.1;unfold wrap64;omega⟩
   obtain ⟨e, he⟩ : ∃ e, e = rd_T78 l0_1 x13_1 := ⟨_, rfl⟩
   rw [← he] at hx0 hx1 hok HF2
   simp only [edgeOk, decide_eq_true_eq] at hok
   have hN := HN.out
   have hYL := HYL.out
   have i0 : 0 ≤ e.f0 := hok.1
   have i1 : e.f0 < (x242000_1.length : Int) := by omega
   have j0 : 0 ≤ e.f1 := by omega
   have j1 : e.f1 < (x242000_1.length : Int) := by omega
   have HOK := aM (show 0 ≤ e.f0 ∧ e.f0 < 8 ∧ 0 ≤ e.f1 ∧ e.f1 < 8 by omega)
   obtain ⟨f0, hf0⟩ : ∃ z, z = e.f0 := ⟨_, rfl⟩
   obtain ⟨f1, hf1⟩ : ∃ z, z = e.f1 := ⟨_, rfl⟩
   have HST : Aside0 (netStep x242000_1 e = ((x242000_1.set f0.toNat (Go.bits .or .i64 (rd x242000_1 f0) (shl .i64 1 f1))).set f1.toNat (Go.bits .or .i64 (rd (x242000_1.set f0.toNat (Go.bits .or .i64 (rd x242000_1 f0) (shl .i64 1 f1))) f1) (shl .i64 1 f0)))) := ⟨by rw [hf0, hf1];rfl⟩
   rw [← hf0] at hx0 i0 i1 HOK
   rw [← hf1] at hx1 j0 j1 HOK
   clear he hok hf0 hf1
   obtain ⟨go, co, eo, gb, gl, cl, HG⟩ := Kd.R_form HO_242000.out (by omega)
   cases eo
   have gne : go ≠ gb241 := fun hE => by
    have h1 := HG;rw [hE, BK241.out] at h1;simp at h1
   have gne' : gb241 ≠ go := fun hE => gne hE.symm
   have hcz3 := bC0 BK241.out
   have hb241 : gb241 < wr.heap.size := blk_lt BK241.out
   have GB := Aside0.mk gb
   have GL := Aside0.mk gl
   clear hN hYL hlt HG gb gl
   replace p0 := eq_true p0
   have hq0 := eq_true HL.out
   go_wp2
   generalize hw1 : (World.alloc wr _) = w1
   have BN : Aside0 (w1.heap[wr.heap.size]? = some (.cells #[.int .i64 f0, .int .i64 f1] 78 (0, 0))) := ⟨by rw [← hw1];exact blk_new wr _⟩
   have HB1 : Aside0 (Below w.heap.size w w1) := ⟨by rw [← hw1];exact below_alloc HB.out _⟩
   have BK1 : Aside0 (w1.heap[gb236]? = some (.cells #[.int .i64 a0_0, (.slice (some ad) l0_1.length c0_1)] 29 (0, 0))) := ⟨by rw [← hw1];exact blk_alloc BK236.out _⟩
   have BK2 : Aside0 (w1.heap[gb237]? = some (.cells #[(.slice none 0 0)] 56 (0, 0))) := ⟨by rw [← hw1];exact blk_alloc BK237.out _⟩
   have BK3 : Aside0 (w1.heap[gb241]? = some (.cells #[.slice (some ⟨go, 0, none⟩) x242000_1.length co] 56 (0, 0))) := ⟨by rw [← hw1];exact blk_alloc BK241.out _⟩
   have HO1 : Aside0 (Kd.R (Kd.int .i64) 3 w1 w.heap.size (fun _ => True) (.slice (some ⟨go, 0, none⟩) x242000_1.length co) x242000_1) := ⟨by rw [← hw1];exact Kd.R_alloc HO_242000.out _⟩
   have hbn : wr.heap.size ≠ go := by have := GL.out;omega
   have hbn' : go ≠ wr.heap.size := fun h => hbn h.symm
   have hbn3 : wr.heap.size ≠ gb241 := by omega
   generalize wr.heap.size = gn at BN hbn hbn' hbn3 ⊢
   clear hw1 hcz3 hx0 hx1 HO_242000 BK236 BK237 BK241 HB hb241
   have hb3 : gb241 < w1.heap.size := blk_lt BK3.out
   have c30 : w1.cell? ⟨gb241, 0, none⟩ = some (.slice (some ⟨go, 0, none⟩) x242000_1.length co) := (blk_cell BK3.out 0).trans rfl
   have cn0 : w1.cell? ⟨gn, 0, none⟩ = some (.int .i64 f0) := (blk_cell BN.out 0).trans rfl
   have cn1 : w1.cell? ⟨gn, 1, none⟩ = some (.int .i64 f1) := (blk_cell BN.out 1).trans rfl
   obtain ⟨cx0, cf0⟩ := Kd.R_celln 0 HO1.out f0 i0 i1
   have HP0 := Kd.R_putg HO1.out f0 (Go.bits .or .i64 (rd x242000_1 f0) (shl .i64 1 f1))
   refine still_tail_drew 11 kR kR ?_
   simp only [List.take_succ_cons, List.take_zero, List.drop_succ_cons, List.drop_zero]
   replace i0 := eq_true i0
   replace i1 := eq_true i1
   replace j0 := eq_true j0
   replace j1 := eq_true j1
   repeat still_step
   refine wpStill_nil ?_
   have hx1 := eq_true HL.out
   generalize hV0 : Go.bits .or .i64 (rdOf 0 x242000_1 f0) (IntKind.i64.wrap (2 ^ min f1.toNat 64)) = V0
   have HV0 := Aside0.mk hV0
   have HP := aM (Kd.R_putg HO1.out f0 V0).1
   clear hV0 HP0
   go_wp2
   generalize hw3 : (World.setCell _ _ _) = w3
   obtain ⟨ys, hys⟩ : ∃ ys, ys = x242000_1.set f0.toNat V0 := ⟨_, rfl⟩
   have HYS := Aside0.mk hys
   have HO3 : Aside0 (Kd.R (Kd.int .i64) 3 w3 w.heap.size (fun _ => True) (.slice (some ⟨go, 0, none⟩) ys.length co) ys) := ⟨by rw [← hw3, hys];have := HP.out;rw [List.length_set];exact this⟩
   have hyl : ys.length = x242000_1.length := by rw [hys];simp
   have HYL3 := Aside0.mk hyl
   have B3N : Aside0 (w3.heap[gn]? = some (.cells #[.int .i64 f0, .int .i64 f1] 78 (0, 0))) := ⟨by rw [← hw3];exact blk_far BN.out hbn _⟩
   have g236 : gb236 ≠ go := fun hE => by
    have h1 := HO1.out;have h2 := Kd.R_form h1 (by have := of_eq_true i1;have := of_eq_true i0;omega)
    obtain ⟨g', c', e', _, _, cl', hh'⟩ := h2;cases e';rw [← hE, BK1.out] at hh';simp at hh'
   have g237 : gb237 ≠ go := fun hE => by
    have h1 := HO1.out;have h2 := Kd.R_form h1 (by have := of_eq_true i1;have := of_eq_true i0;omega)
    obtain ⟨g', c', e', _, _, cl', hh'⟩ := h2;cases e';rw [← hE, BK2.out] at hh';simp at hh'
   have B31 : Aside0 (w3.heap[gb236]? = some (.cells #[.int .i64 a0_0, (.slice (some ad) l0_1.length c0_1)] 29 (0, 0))) := ⟨by rw [← hw3];exact blk_far BK1.out g236 _⟩
   have B32 : Aside0 (w3.heap[gb237]? = some (.cells #[(.slice none 0 0)] 56 (0, 0))) := ⟨by rw [← hw3];exact blk_far BK2.out g237 _⟩
   have B33 : Aside0 (w3.heap[gb241]? = some (.cells #[.slice (some ⟨go, 0, none⟩) ys.length co] 56 (0, 0))) := ⟨by rw [← hw3, hyl];exact blk_far BK3.out gne' _⟩
   have HB3 : Aside0 (Below w.heap.size w w3) := ⟨by rw [← hw3];exact below_set HB1.out GB.out⟩
   clear hw3 HP HO1 BN BK1 BK2 BK3 HB1 c30 cn0 cn1 cx0 cf0 hb3
   generalize hw4 : World.drew w3 = w4
   replace B3N : Aside0 (w4.heap[gn]? = some (.cells #[.int .i64 f0, .int .i64 f1] 78 (0, 0))) := ⟨by rw [← hw4];exact B3N.out⟩
   replace B31 : Aside0 (w4.heap[gb236]? = some (.cells #[.int .i64 a0_0, (.slice (some ad) l0_1.length c0_1)] 29 (0, 0))) := ⟨by rw [← hw4];exact B31.out⟩
   replace B32 : Aside0 (w4.heap[gb237]? = some (.cells #[(.slice none 0 0)] 56 (0, 0))) := ⟨by rw [← hw4];exact B32.out⟩
   replace B33 : Aside0 (w4.heap[gb241]? = some (.cells #[.slice (some ⟨go, 0, none⟩) ys.length co] 56 (0, 0))) := ⟨by rw [← hw4];exact B33.out⟩
   replace HB3 : Aside0 (Below w.heap.size w w4) := ⟨by rw [← hw4];exact below_drew HB3.out⟩
   replace HO3 : Aside0 (Kd.R (Kd.int .i64) 3 w4 w.heap.size (fun _ => True) (.slice (some ⟨go, 0, none⟩) ys.length co) ys) := ⟨by rw [← hw4];exact Kd.R_drew HO3.out⟩
   clear hw4 hys
   rw [← hyl] at i1 j1
   have hb3 : gb241 < w4.heap.size := blk_lt B33.out
   have c30 : w4.cell? ⟨gb241, 0, none⟩ = some (.slice (some ⟨go, 0, none⟩) ys.length co) := (blk_cell B33.out 0).trans rfl
   have cn0 : w4.cell? ⟨gn, 0, none⟩ = some (.int .i64 f0) := (blk_cell B3N.out 0).trans rfl
   have cn1 : w4.cell? ⟨gn, 1, none⟩ = some (.int .i64 f1) := (blk_cell B3N.out 1).trans rfl
   obtain ⟨cx0, cf0⟩ := Kd.R_celln 0 HO3.out f1 (of_eq_true j0) (of_eq_true j1)
   clear hyl
   refine still_tail_drew 11 kR kR ?_
   simp only [List.take_succ_cons, List.take_zero, List.drop_succ_cons, List.drop_zero]
   repeat still_step
   refine wpStill_nil ?_
   generalize hV1 : Go.bits .or .i64 (rdOf 0 ys f1) (IntKind.i64.wrap (2 ^ min f0.toNat 64)) = V1
   have HV1 := Aside0.mk hV1
   have HP := aM (Kd.R_putg HO3.out f1 V1).1
   clear hV1
   go_wp2
   go_roundw
   case rel =>
    refine ⟨x13_1 + 1, ys.set f1.toNat V1, _, by rw [HW1.out], ⟨by have := HX.out;have := HL.out;omega⟩, ⟨?_⟩, ⟨by rw [List.length_set, HYL3.out];exact HYL.out⟩, ⟨Kd.R_drew HP.out⟩, ⟨blk_drew (blk_far B31.out g236 _)⟩, ⟨blk_drew (blk_far B32.out g237 _)⟩, ⟨blk_drew (blk_far B33.out gne' _)⟩, ⟨below_drew (below_set HB3.out GB.out)⟩⟩
    rw [← HF2.out, HST.out, ← HV1.out, HYS.out, ← HV0.out]
    simp only [shl, Int.one_mul]
    rfl
   case measure => have := HL.out;have := HX.out;rw [HW1.out];simp [intOf];omega
  ·have hlt' : decide (x13_1 < (l0_1.length : Int)) = false := decide_eq_false hlt
   obtain rfl : x242000_1 = r := by have := HF.out;rw [List.drop_eq_nil_of_le (by omega)] at this;exact this
   clear hlt
   have hnb40 := NB241_236.out
   have hnc40 := NB236_241.out
   have hnb41 := NB241_237.out
   have hnc41 := NB237_241.out
   have hcz42_0 := bC0 BK241.out
   have hfz42_0 := blk_frozen BK241.out 0
   obtain ⟨Ao43, co43, eo43⟩ := Kd.R_slice HO_242000.out
   subst eo43
   have hnb44 := NB237_236.out
   have hnc44 := NB236_237.out
   have hcz45_0 := bC0 BK237.out
   have hfz45_0 := blk_frozen BK237.out 0
   go_wp2
   refine bodyPost_ret (results_cell_row rfl _ _ gb237 56 #[.slice Ao43 x242000_1.length co43] (0, 0) _ rfl (by refine kP ?_;refine blk_put (cs := #[.slice none 0 0]) ?_ 0 _ rfl;exact kP BK237.out) Tryd.underlying56 rfl kR) rfl ?_
   exact ⟨_, eW, by refine rP ?_;exact Kd.R_mono (Kd.R_far (p := ⟨gb237, 0, none⟩) (Kd.R_types HO_242000.out BK237.out (by decide)) (fun _ hk => hk.2) (.slice Ao43 x242000_1.length co43)) (fun _ hk => trivial), by exact bB⟩

/-! ### impl_net_size: function 60 -/
def impl_net_size.f (l0_0 : List Int) : Option (Int) := some (l0_0.length : Int)
theorem impl_net_size.calls (A0_0 : Option Addr) (c0_0 : Nat) (l0_0 : List Int) (r : Int) (w : World) (hr0_0 : Kd.C (Kd.int .i64) w A0_0 l0_0.length l0_0) (hc0_0 : l0_0.length ≤ c0_0) (h : impl_net_size.f l0_0 = some r) :
  Calls Tryd.prog 60 #[.agg #[.slice A0_0 l0_0.length c0_0]] w fun e w' => e = .returned (.int .i64 r) ∧ Below w.heap.size w w' := by
 have hu56 := Tryd.underlying56
 have HR0_0 := Aside0.mk hr0_0
 have HC0_0 := Aside0.mk hc0_0
 clear hr0_0 hc0_0
 have HB := aM (Below.refl w.heap.size w)
 have H : (some (l0_0.length : Int)) = some r := h
 clear h
 obtain rfl := sI H
 go_enter Tryd.func60, Tryd.ntmps60
 go_wp2_with (first | ((with_reducible refine gate_dst (N := 1) rfl ?_);refine box_event ?hg (N := 1) ?hd (cs := #[.slice A0_0 l0_0.length c0_0]) (t := 56) ?hr ?_;(case hd => rfl);(case hg => rfl);(case hr => exact gS);intro gb429 hg w2 hbox hb;have n0_ := aM (below_step (by exact bB) hb);have n1_ := aM (hbox);have n2_ := aM (sW hg : w.heap.size ≤ gb429);have n3_ := aM (sW hg : w.heap.size ≤ gb429);clear HB;have HB := n0_;have BK429 := n1_;have GW429 := n2_;have GE429 := n3_;clear n0_ n1_ n2_ n3_ hb hbox hg;have hcz3_0 := bC0 BK429.out;have hfz3_0 := blk_frozen BK429.out 0))
 go_ret
 exact ⟨eW, by exact bB⟩


/-! ### impl_subsetsOf: function 83 -/
mutual
def impl_subsetsOf.l0 : Nat → List Int → Int → List (List Int) → Int → Int → Option ((List (List Int)))
 | 0, _, _, _, _, _ => none
 | k + 1, x0, x1, x5, x13, x14 => if x14 < x13 then (if 0 ≤ (wrap64 (x14 + 1)) then (if (wrap64 (x14 + 1)) ≤ (x0.length : Int) then ((impl_subsetsOf.f k (x0.drop ((wrap64 (x14 + 1)) : Int).toNat) (wrap64 (x1 - 1))).bind fun t434 => (impl_subsetsOf.l1 k x0 x1 x5 x14 x13 x14 t434 (t434.length : Int) 0)) else (none)) else (none)) else (some x5)
def impl_subsetsOf.l1 : Nat → List Int → Int → List (List Int) → Int → Int → Int → List (List Int) → Int → Int → Option ((List (List Int)))
 | 0, _, _, _, _, _, _, _, _, _ => none
 | k + 1, x0, x1, x5, x6, x13, x14, x23, x24, x25 => if x25 < x24 then (if 0 ≤ x25 then (if x25 < (x23.length : Int) then (if 0 ≤ x6 then (if x6 < (x0.length : Int) then ((some (([rd x0 x6] : List Int) : List Int)).bind fun y439 => (if y439.length + (rd_L2 x23 x25).length < 17592186044416 then (if x5.length < 5864062014805 then (impl_subsetsOf.l1 k x0 x1 (x5 ++ [(y439 ++ (rd_L2 x23 x25))]) x6 x13 x14 x23 x24 (wrap64 (x25 + 1))) else (none)) else (none))) else (none)) else (none)) else (none)) else (none)) else (impl_subsetsOf.l0 k x0 x1 x5 x13 (wrap64 (x14 + 1)))
def impl_subsetsOf.f : Nat → List Int → Int → Option ((List (List Int)))
 | 0, _, _ => none
 | k + 1, l0, a1 => if a1 = 0 then (some (([[]] : List (List Int)))) else (impl_subsetsOf.l0 k l0 a1 ([] : List (List Int)) (l0.length : Int) 0)
end
theorem impl_subsetsOf.mono_l : ∀ k, (∀ y0 y1, LeO (impl_subsetsOf.f k y0 y1) (impl_subsetsOf.f (k + 1) y0 y1)) ∧ (∀ y0 y1 y2 y3 y4, LeO (impl_subsetsOf.l0 k y0 y1 y2 y3 y4) (impl_subsetsOf.l0 (k + 1) y0 y1 y2 y3 y4)) ∧ (∀ y0 y1 y2 y3 y4 y5 y6 y7 y8, LeO (impl_subsetsOf.l1 k y0 y1 y2 y3 y4 y5 y6 y7 y8) (impl_subsetsOf.l1 (k + 1) y0 y1 y2 y3 y4 y5 y6 y7 y8))
 | 0 => ⟨fun _ _ r h => by simp [impl_subsetsOf.f] at h, fun _ _ _ _ _ r h => by simp [impl_subsetsOf.l0] at h, fun _ _ _ _ _ _ _ _ _ r h => by simp [impl_subsetsOf.l1] at h⟩
 | k + 1 => by
  obtain ⟨ih0, ih1, ih2⟩ := impl_subsetsOf.mono_l k
  refine ⟨?_, ?_, ?_⟩
  ·intro y0 y1
   unfold impl_subsetsOf.f
   exact lM
  ·intro y0 y1 y2 y3 y4
   unfold impl_subsetsOf.l0
   exact lM
  ·intro y0 y1 y2 y3 y4 y5 y6 y7 y8
   unfold impl_subsetsOf.l1
   exact lM
theorem impl_subsetsOf.mono : ∀ a0 a1 k, LeO (impl_subsetsOf.f k a0 a1) (impl_subsetsOf.f (k + 1) a0 a1) := by
 intro a0 a1 k
 obtain ⟨ih0, ih1, ih2⟩ := impl_subsetsOf.mono_l k
 exact ih0 a0 a1
theorem impl_subsetsOf.calls (k : Nat) : ∀ (A0 : Option Addr) (c0 : Nat) (l0 : List Int) (a1 : Int) (r : List (List Int)) (w : World) (hr0 : Kd.C (Kd.int .i64) w A0 l0.length l0) (hc0 : l0.length ≤ c0) (h : impl_subsetsOf.f k l0 a1 = some r),
  Calls Tryd.prog 83 #[.slice A0 l0.length c0, .int .i64 a1] w fun e w' => ∃ v0_ : Value, e = .returned (v0_) ∧ Kd.S (Kd.slice 3 (Kd.int .i64)) 36 w' w.heap.size (fun _ => True) v0_ r ∧ Below w.heap.size w w' := by
 induction k using Nat.strongRecOn with
 | _ k ih =>
 intro A0 c0 l0 a1 r w hr0 hc0 h
 cases k with
 | zero => exact absurd h (by simp [impl_subsetsOf.f])
 | succ k =>
 simp only [impl_subsetsOf.f] at h
 have HR0 := Aside0.mk hr0
 have HC0 := Aside0.mk hc0
 clear hr0 hc0
 have HB := aM (Below.refl w.heap.size w)
 have H : (if a1 = 0 then (some (([[]] : List (List Int)))) else (impl_subsetsOf.l0 k l0 a1 ([] : List (List Int)) (l0.length : Int) 0)) = some r := h
 clear h
 by_cases c3 : a1 = 0
 ·rw [if_pos c3] at H
  have c3b0 : (a1 == 0) = true := beq_iff_eq.mpr c3
  have c3b1 : (a1 != 0) = false := bne_eq_false_iff_eq.mpr c3
  clear c3
  obtain ⟨y430, hy430⟩ : ∃ y_ : List (List Int), y_ = (([[]] : List (List Int))) := ⟨_, rfl⟩
  replace H : (some y430) = some r := by first | (rw [hy430];with_reducible exact H) | (rw [hy430];with_reducible exact hB H) | with_reducible exact hB H | with_reducible exact H | (rw [hy430];exact H) | exact H
  have Ny430 := Aside0.mk hy430
  clear hy430
  obtain rfl := sI H
  go_enter Tryd.func83, Tryd.ntmps83
  go_wp2_with (first | ((with_reducible refine gate_dst (N := 11) rfl ?_);refine Kd.S_lit (Kd.slice 3 (Kd.int .i64)) _ 36 ?hg (N := 11) ?hd (xs := ([[]] : List (List Int))) (inner := [.slice none 0 0]) (ok := fun _ => True) (okp := fun _ => True) ?hr ?hp (fun _ hk => hk) trivial (Below.refl _ _) (Nat.le_refl _) (by simp) ?_;(case hd => rfl);(case hg => rfl);(case hr => exact gS);(case hp => exact (Reps.one (show Kd.M (Kd.slice 3 (Kd.int .i64)) _ _ _ [] [.slice none 0 0] from ⟨_, rfl, Kd.R_nil _ _ _ _ _⟩) (Reps.none _ _)));intro v431 w4 ho5 hb hg_ hnew_;clear hg_ hnew_;(first | rw [← Ny430.out] at ho5 | (simp only [Int.reduceToNat] at ho5;rw [← Ny430.out] at ho5));have n0_ := aM (Kd.S_lower ho5 (below_size (by exact bB)));have n1_ := aM (below_step (by exact bB) hb);clear HB;have HO432 := n0_;have HB := n1_;clear n0_ n1_ hb ho5))
  go_ret
  exact ⟨_, eW, by (with_reducible repeat (first | apply Kd.S_alloc | apply Kd.S_drewN | apply Kd.S_drew));exact HO432.out, by exact bB⟩
 rw [if_neg c3] at H
 have c3b0 : (a1 == 0) = false := beq_eq_false_iff_ne.mpr c3
 have c3b1 : (a1 != 0) = true := bne_iff_ne.mpr c3
 have H' := Aside0.mk H
 clear H
 go_enter Tryd.func83, Tryd.ntmps83
 go_wp2
 go_loopg [5, 14] k (fun kq v5 v14 w' => ∃ (x5_1 : List (List Int)) (x14_1 : Int), v14 = .int .i64 x14_1 ∧ Aside0 (impl_subsetsOf.l0 kq l0 a1 x5_1 (l0.length : Int) x14_1 = some r) ∧ Aside0 (kq ≤ k) ∧ Aside0 (Kd.S (Kd.slice 3 (Kd.int .i64)) 36 w' w.heap.size (fun _ => True) v5 x5_1) ∧ Aside0 (Below w.heap.size w w'))
 case atStart => exact ⟨(([] : List (List Int))), (0), eF, H', ⟨Nat.le_refl _⟩, ⟨by first | exact Kd.S_nil _ _ _ _ _ | exact Kd.N_nil _ _ _ _ _ | exact Kd.V_nil _ _ _ _ _ | exact Kd.Q_nil _ _ _ _ _ | exact Kd.R_nil _ _ _ _ _⟩, ⟨by exact bB⟩⟩
 case round =>
  clear H'
  try clear p2
  try clear c3
  try clear c3b0
  try clear c3b1
  obtain ⟨x5_1, x14_1, rfl, HA, HK1, HO_5, HB⟩ := hrel
  cases gk with
  | zero => exact absurd HA.out (by simp [impl_subsetsOf.l0])
  | succ k1 =>
   have H := HA.out
   clear HA
   simp only [impl_subsetsOf.l0] at H
   by_cases c6 : x14_1 < (l0.length : Int)
   rotate_left
   ·rw [if_neg c6] at H
    have c6b0 : decide (x14_1 < (l0.length : Int)) = false := decide_eq_false c6
    clear c6
    obtain rfl := sI H
    go_wp2
    go_ret
    exact ⟨_, eW, by (with_reducible repeat (first | apply Kd.S_alloc | apply Kd.S_drewN | apply Kd.S_drew));exact HO_5.out, by exact bB⟩
   rw [if_pos c6] at H
   have c6b0 : decide (x14_1 < (l0.length : Int)) = true := decide_eq_true c6
   clear c6
   obtain ⟨ji7, hji7⟩ : ∃ j_ : Int, (wrap64 (x14_1 + 1)) = j_ := ⟨_, rfl⟩
   replace H : (if 0 ≤ (ji7) then (if (ji7) ≤ (l0.length : Int) then ((impl_subsetsOf.f k1 (l0.drop ((ji7) : Int).toNat) (wrap64 (a1 - 1))).bind fun t434 => (impl_subsetsOf.l1 k1 l0 a1 x5_1 x14_1 (l0.length : Int) x14_1 t434 (t434.length : Int) 0)) else (none)) else (none)) = some r := by first | (rw [hji7] at H;exact H) | (simp only [hji7] at H ⊢;exact H)
   have hji7w : (IntKind.i64.wrap (x14_1 + 1)) = ji7 := (i64_w _).trans hji7
   by_cases c8 : 0 ≤ (ji7)
   rotate_left
   ·rw [if_neg c8] at H
    exact absurd H (by simp)
   rw [if_pos c8] at H
   have c8b0 := eq_true c8
   have c8b1 : decide (0 ≤ (ji7)) = true := decide_eq_true c8
   clear c8
   by_cases c9 : (ji7) ≤ (l0.length : Int)
   rotate_left
   ·rw [if_neg c9] at H
    exact absurd H (by simp)
   rw [if_pos c9] at H
   have c9b0 := eq_true c9
   have c9b1 : decide ((ji7) ≤ (l0.length : Int)) = true := decide_eq_true c9
   clear c9
   replace H := bE H
   obtain ⟨t434, A100, H⟩ := H
   try dsimp only at H
   have A10 := Aside0.mk A100
   clear A100
   have H' := Aside0.mk H
   clear H
   obtain ⟨i011, hi011, _, hsz11, _⟩ := info_parts info3
   obtain ⟨A11, hcut11, hA11, hC11⟩ := print_drop_of (P := Tryd.prog) (Value.int .i64) 0 36 3 .i64 Tryd.underlying36 hi011 hsz11 A0 c0 l0 (ji7) (oA) (oA) HC0.out
   have HR433 := aM (Kd.C_of_reads (h1 := fun _ => rfl) (hA11 _ (Kd.reads_of_C HR0.out)))
   have HC433 := Aside0.mk hC11
   clear hA11 hC11 hi011 hsz11
   go_wp2_with (first | ((with_reducible refine gate_callee (f := 83) rfl ?_);refine goesL_ (some 23) rfl rfl Tryd.func83 kR rfl #[.slice A11 (l0.drop ((ji7) : Int).toNat).length (c0 - (ji7).toNat), .int .i64 (wrap64 (a1 - 1))] rfl (by (try simp only [List.map_toArray, List.map_cons, List.map_nil]);first | done | (rw [show (l0.drop ((ji7) : Int).toNat).length = (l0.length - (ji7).toNat) from List.length_drop] <;> rfl) | (simp only [hji7];rfl) | rfl | (simp only [List.length_drop, List.length_take];rfl)) ?_;(with_reducible refine (ih k1 (by have := HK1.out;omega) _ _ (l0.drop ((ji7) : Int).toNat) (wrap64 (a1 - 1)) t434 _ ?side1 ?side2 A10.out).mono ?_);(case side1 => exact cP (Kd.C_below HR433.out HB.out));(case side2 => exact HC433.out);rintro e w12 ⟨v435, rfl, ho0, hb⟩;refine ⟨_, rfl, ?_⟩;have n0_ := aM (Kd.S_elder' (by exact tP HO_5.out) (Kd.S_base ho0) hb);have n1_ := aM (Kd.S_lower (Kd.S_new' ho0 (Kd.S_lt (by exact tP HO_5.out))) (below_size (by exact bB)));have n2_ := aM (below_step (by exact bB) hb);clear HO_5 HB;have HO_5 := n0_;have HO436 := n1_;have HB := n2_;clear n0_ n1_ n2_;(try clear hb);(try clear ho0);obtain ⟨Ao13, co13, eo13⟩ := Kd.S_slice HO436.out;subst eo13))
   go_loopg [5, 25] k1 (fun kq v5 v25 w' => ∃ (x5_2 : List (List Int)) (x25_2 : Int), v25 = .int .i64 x25_2 ∧ Aside0 (impl_subsetsOf.l1 kq l0 a1 x5_2 x14_1 (l0.length : Int) x14_1 t434 (t434.length : Int) x25_2 = some r) ∧ Aside0 (kq ≤ k1) ∧ Aside0 (Kd.S (Kd.slice 3 (Kd.int .i64)) 36 w' w.heap.size (fun k_ => some k_ ≠ ((.slice Ao13 t434.length co13) : Value).ownBlock) v5 x5_2) ∧ Aside0 (Kd.S (Kd.slice 3 (Kd.int .i64)) 36 w' w.heap.size (fun k_ => some k_ ≠ (v5 : Value).ownBlock) (.slice Ao13 t434.length co13) t434) ∧ Aside0 (Below w.heap.size w w'))
   case atStart => exact ⟨(x5_1), (0), eF, H', ⟨Nat.le_refl _⟩, ⟨by (with_reducible repeat (first | apply Kd.S_alloc | apply Kd.S_drewN | apply Kd.S_drew));exact Kd.S_mono HO_5.out (fun _ hk => hk.2)⟩, ⟨by (with_reducible repeat (first | apply Kd.S_alloc | apply Kd.S_drewN | apply Kd.S_drew));exact Kd.S_mono HO436.out (fun _ hk => hk.2)⟩, ⟨by exact bB⟩⟩
   case round =>
    clear H'
    try clear p2
    try clear c3
    try clear c3b0
    try clear c3b1
    try clear c6
    try clear c6b0
    try clear p6
    try clear c8
    try clear c8b0
    try clear c8b1
    try clear c9
    try clear c9b0
    try clear c9b1
    try clear p2
    obtain ⟨x5_2, x25_2, rfl, HA, HK2, HO_5, HO_23, HB⟩ := hrel
    cases gk with
    | zero => exact absurd HA.out (by simp [impl_subsetsOf.l1])
    | succ k2 =>
     have H := HA.out
     clear HA
     simp only [impl_subsetsOf.l1] at H
     by_cases c14 : x25_2 < (t434.length : Int)
     rotate_left
     ·rw [if_neg c14] at H
      have c14b0 : decide (x25_2 < (t434.length : Int)) = false := decide_eq_false c14
      clear c14
      have H' := Aside0.mk H
      clear H
      go_wp2
      go_roundg k2
      case measure => have := HK1.out;have := HK2.out;omega
      case rel => exact ⟨(x5_2), (wrap64 (x14_1 + 1)), eF, H', ⟨by have := HK1.out;have := HK2.out;omega⟩, ⟨by (with_reducible repeat (first | apply Kd.S_alloc | apply Kd.S_drewN | apply Kd.S_drew));exact Kd.S_mono HO_5.out (fun _ hk => trivial)⟩, ⟨by exact bB⟩⟩
     rw [if_pos c14] at H
     have c14b0 : decide (x25_2 < (t434.length : Int)) = true := decide_eq_true c14
     clear c14
     by_cases c15 : 0 ≤ x25_2
     rotate_left
     ·rw [if_neg c15] at H
      exact absurd H (by simp)
     rw [if_pos c15] at H
     have c15b0 : decide (0 ≤ x25_2) = true := decide_eq_true c15
     clear c15
     by_cases c16 : x25_2 < (t434.length : Int)
     rotate_left
     ·rw [if_neg c16] at H
      exact absurd H (by simp)
     rw [if_pos c16] at H
     have c16b0 : decide (x25_2 < (t434.length : Int)) = true := decide_eq_true c16
     clear c16
     by_cases c17 : 0 ≤ x14_1
     rotate_left
     ·rw [if_neg c17] at H
      exact absurd H (by simp)
     rw [if_pos c17] at H
     have c17b0 : decide (0 ≤ x14_1) = true := decide_eq_true c17
     clear c17
     by_cases c18 : x14_1 < (l0.length : Int)
     rotate_left
     ·rw [if_neg c18] at H
      exact absurd H (by simp)
     rw [if_pos c18] at H
     have c18b0 : decide (x14_1 < (l0.length : Int)) = true := decide_eq_true c18
     clear c18
     obtain ⟨y439, hy439⟩ : ∃ y_ : List Int, y_ = (([rd l0 x14_1] : List Int)) := ⟨_, rfl⟩
     replace H : (if y439.length + (rd_L2 t434 x25_2).length < 17592186044416 then (if x5_2.length < 5864062014805 then (impl_subsetsOf.l1 k2 l0 a1 (x5_2 ++ [(y439 ++ (rd_L2 t434 x25_2))]) x14_1 (l0.length : Int) x14_1 t434 (t434.length : Int) (wrap64 (x25_2 + 1))) else (none)) else (none)) = some r := by first | (rw [hy439];with_reducible exact H) | (rw [hy439];with_reducible exact hB H) | with_reducible exact hB H | with_reducible exact H | (rw [hy439];exact H) | exact H
     have Ny439 := Aside0.mk hy439
     clear hy439
     by_cases c19 : y439.length + (rd_L2 t434 x25_2).length < 17592186044416
     rotate_left
     ·rw [if_neg c19] at H
      exact absurd H (by simp)
     rw [if_pos c19] at H
     have LMc19 := Aside0.mk c19
     clear c19
     obtain ⟨y442, hy442⟩ : ∃ y_ : List Int, y_ = (y439 ++ (rd_L2 t434 x25_2)) := ⟨_, rfl⟩
     replace H : (if x5_2.length < 5864062014805 then (impl_subsetsOf.l1 k2 l0 a1 (x5_2 ++ [y442]) x14_1 (l0.length : Int) x14_1 t434 (t434.length : Int) (wrap64 (x25_2 + 1))) else (none)) = some r := by first | (rw [hy442];with_reducible exact H) | (rw [hy442];with_reducible exact hB H) | with_reducible exact hB H | with_reducible exact H | (rw [hy442];exact H) | exact H
     have Ny442 := Aside0.mk hy442
     clear hy442
     by_cases c20 : x5_2.length < 5864062014805
     rotate_left
     ·rw [if_neg c20] at H
      exact absurd H (by simp)
     rw [if_pos c20] at H
     have LMc20 := Aside0.mk c20
     clear c20
     obtain ⟨y445, hy445⟩ : ∃ y_ : List (List Int), y_ = (x5_2 ++ [y442]) := ⟨_, rfl⟩
     replace H : (impl_subsetsOf.l1 k2 l0 a1 y445 x14_1 (l0.length : Int) x14_1 t434 (t434.length : Int) (wrap64 (x25_2 + 1))) = some r := by first | (rw [hy445];with_reducible exact H) | (rw [hy445];with_reducible exact hB H) | with_reducible exact hB H | with_reducible exact H | (rw [hy445];exact H) | exact H
     have Ny445 := Aside0.mk hy445
     clear hy445
     have H' := Aside0.mk H
     clear H
     have p437 : 0 ≤ (x25_2 : Int) := oA
     have q437 : x25_2 < (t434.length : Int) := oA
     obtain ⟨ad437, A437_0, c437_0, e437, hx437_0, hl437_0, hi437_0⟩ := at_L2 (Kd.S_reads' HO_23.out).2.2 x25_2 p437 q437
     cases e437
     obtain ⟨ce437, hce437, hMe437, hcc437⟩ := Kd.S_get HO_23.out [] x25_2 p437 (by first | exact q437 | exact oA | (have e_ := (Kd.S_reads' HO_23.out).1;omega))
     obtain ⟨ve437_0, rfl, ge437_0⟩ := hMe437
     have hv437_0 := hcc437 0 _ rfl
     rw [Nat.add_zero, show ((Kd.slice 3 (Kd.int .i64))).sz = 1 from rfl, Nat.mul_one] at hv437_0
     replace hv437_0 := Option.some.inj (hv437_0.symm.trans hx437_0)
     rw [hv437_0] at ge437_0
     have HL437_0 := aM (show Kd.R (Kd.int .i64) 3 _ _ _ _ (rd_L2 t434 x25_2) from ge437_0)
     clear hv437_0 ge437_0 hcc437 hce437
     have HR437_0 := Aside0.mk hi437_0
     have HC437_0 := Aside0.mk hl437_0
     clear hi437_0 hl437_0
     replace p437 := eq_true p437
     replace q437 := eq_true q437
     have p438 : 0 ≤ (x14_1 : Int) := oA
     have q438 : x14_1 < (l0.length : Int) := oA
     obtain ⟨ad438, e438, hx438_0⟩ := Kd.at_int HR0.out x14_1 p438 q438
     cases e438
     replace hx438_0 := cB HB.out hx438_0
     replace p438 := eq_true p438
     replace q438 := eq_true q438
     go_wp2_with (first | ((with_reducible refine gate_dst (N := 34) rfl ?_);refine Kd.R_lit (Kd.int .i64) _ 3 ?hg (N := 34) ?hd (xs := ([rd l0 x14_1] : List Int)) (inner := [.int .i64 (rd l0 x14_1)]) (ok := fun _ => True) (okp := fun _ => True) ?hr ?hp (fun _ hk => hk) trivial (Below.refl _ _) (Nat.le_refl _) (by simp) ?_;(case hd => rfl);(case hg => rfl);(case hr => exact gS);(case hp => exact (Reps.one (show Kd.M (Kd.int .i64) _ _ _ (rd l0 x14_1) [.int .i64 (rd l0 x14_1)] from rfl) (Reps.none _ _)));intro v440 w21 ho22 hb hg_ hnew_;clear hg_ hnew_;(first | rw [← Ny439.out] at ho22 | (simp only [Int.reduceToNat] at ho22;rw [← Ny439.out] at ho22));have n0_ := aM (Kd.S_elder' (by exact tP HO_5.out) (Kd.R_base ho22) hb);have n1_ := aM (Kd.S_elder' (by exact tP HO_23.out) (Kd.R_base ho22) hb);have n2_ := aM (Kd.R_elder' (by exact rP HL437_0.out) (Kd.R_base ho22) hb);have n3_ := aM (Kd.R_lower (Kd.R_new' ho22 (Kd.R_lt (by exact rP HL437_0.out))) (below_size (by exact bB)));have n4_ := aM (Kd.C_below (by repeat (first | (with_reducible exact HR437_0.out) | (with_reducible refine Kd.C_alloc ?_ _) | (with_reducible refine Kd.C_drewN ?_ _) | (with_reducible refine Kd.C_drew ?_) | exact HR437_0.out)) hb);have n5_ := aM (below_step (by exact bB) hb);clear HO_5 HO_23 HL437_0 HR437_0 HB;have HO_5 := n0_;have HO_23 := n1_;have HL437_0 := n2_;have HO441 := n3_;have HR437_0 := n4_;have HB := n5_;clear n0_ n1_ n2_ n3_ n4_ n5_ hb ho22) | ((with_reducible refine gate_builtin (b := .append) (xs := #[.tmp 34, .tmp 35]) rfl ?_);at_builtin;refine Kd.R_append_rows (Kd.int .i64) (w0 := w) w.heap.size rfl (.tmp 34) (.tmp 35) 36 3 (.int .i64 0) 8 rfl Tryd.underlying36 info3 rfl (by decide) (by omega) v440 y439 (rd_L2 t434 x25_2) _ _ _ (fun k_ => some k_ ≠ (.slice A437_0 (rd_L2 t434 x25_2).length c437_0 : Value).ownBlock) (fun _ => False) rfl rfl ?aO ?aR (fun _ _ h => h) (fun _ h => h.elim) ?aF ?aB ?aS ?aL ?_;(case aR => exact cP (by repeat (first | (with_reducible exact HR437_0.out) | (with_reducible refine Kd.C_alloc ?_ _) | (with_reducible refine Kd.C_drewN ?_ _) | (with_reducible refine Kd.C_drew ?_) | exact HR437_0.out)));(case aB => exact (by exact bB));(case aF => exact (fun k_ hk => Kd.fresh' (Kd.R_lt (by exact rP HL437_0.out)) k_ hk));(case aO => exact (by refine rP ?_;exact Kd.R_mono HO441.out (fun _ hk => hk.2)));(case aS => exact (below_size (by exact bB)));(case aL => have := LMc19.out;omega);intro v443 w23 ho hb hg hat;rw [← Ny442.out] at ho;have n0_ := aM (Kd.S_after (ok := (fun k_ => some k_ ≠ (.slice (some ad437) t434.length co13 : Value).ownBlock)) (by exact tP HO_5.out) hg hat);have n1_ := aM (Kd.S_after (ok := (fun k_ => some k_ ≠ (u5 : Value).ownBlock)) (by exact tP HO_23.out) hg hat);have n2_ := aM (Kd.R_after (ok := (fun k_ => some k_ ≠ (u5 : Value).ownBlock ∧ some k_ ≠ (.slice (some ad437) t434.length co13 : Value).ownBlock)) (by exact rP HL437_0.out) hg hat);have n3_ := aM (hb);have n4_ := aM (ho);clear HO_5 HO_23 HL437_0 HB HO441;have HO_5 := n0_;have HO_23 := n1_;have HL437_0 := n2_;have HB := n3_;have HO444 := n4_;clear n0_ n1_ n2_ n3_ n4_ ho hb hg hat;obtain ⟨Ao25, co25, eo25⟩ := Kd.R_slice HO444.out;subst eo25) | ((with_reducible refine gate_builtin (b := .append) (xs := #[.tmp 29, .tmp 37]) rfl ?_);at_builtin;refine Kd.S_append (Kd.slice 3 (Kd.int .i64)) (w0 := w) w.heap.size rfl (.tmp 29) (.tmp 37) 26 36 (.slice none 0 0) 24 rfl Tryd.underlying26 info36 rfl (by decide) (by omega) u5 x5_2 y442 [.slice Ao25 y442.length co25] (fun k_ => some k_ ≠ (.slice (some ad437) t434.length co13 : Value).ownBlock) (fun k_ => some k_ = (.slice Ao25 y442.length co25 : Value).ownBlock) rfl rfl ?aP (fun k_ hk_ => ((Kd.R_mono (ok' := fun k_ => ((fun k_ => some k_ ≠ (.slice (some ad437) t434.length co13 : Value).ownBlock)) k_ ∧ some k_ ≠ (u5 : Value).ownBlock) (Kd.R_apart' (Kd.R_apart' (HO444.out) (Kd.S_typed HO_23.out) (by decide)) (Kd.S_typed HO_5.out) (by decide)) (fun k_ hk => ⟨hk.1.2, hk.2⟩))).1 k_ hk_.symm) ?aF ?aO ?aB ?aS ?aL ?_;(case aP => exact Kd.M_row (Kd.R_mono (Kd.R_tight rfl (Kd.R_mono (ok' := fun k_ => ((fun k_ => some k_ ≠ (.slice (some ad437) t434.length co13 : Value).ownBlock)) k_ ∧ some k_ ≠ (u5 : Value).ownBlock) (Kd.R_apart' (Kd.R_apart' (HO444.out) (Kd.S_typed HO_23.out) (by decide)) (Kd.S_typed HO_5.out) (by decide)) (fun k_ hk => ⟨hk.1.2, hk.2⟩))) (fun _ h_ => h_)));(case aB => exact (by exact bB));(case aF => exact (fun k_ hk => Kd.fresh' (Kd.S_lt (by exact tP HO_23.out)) k_ hk));(case aO => exact (by (with_reducible repeat (first | apply Kd.S_alloc | apply Kd.S_drewN | apply Kd.S_drew));exact Kd.S_mono HO_5.out (fun k_ hk => ⟨hk.1, fun e_ => hk.2 e_⟩)));(case aS => exact (below_size (by exact bB)));(case aL => have := LMc20.out;omega);intro v446 w24 ho hb hg hat;rw [← Ny445.out] at ho;have n0_ := aM (Kd.S_after (ok := (fun k_ => some k_ ≠ (.slice Ao25 y442.length co25 : Value).ownBlock)) (by (with_reducible repeat (first | apply Kd.S_alloc | apply Kd.S_drewN | apply Kd.S_drew));exact Kd.S_mono HO_23.out (fun _ hk => ⟨hk.2, hk.1⟩)) hg hat);have n1_ := aM (Kd.R_after (ok := (fun k_ => some k_ ≠ (.slice (some ad437) t434.length co13 : Value).ownBlock ∧ some k_ ≠ (.slice Ao25 y442.length co25 : Value).ownBlock)) (by exact rP (Kd.R_mono HL437_0.out (fun _ hk => ⟨⟨hk.1.2, hk.2⟩, hk.1.1⟩))) hg hat);have n2_ := aM (hb);have n3_ := aM (ho);clear HO_23 HL437_0 HB HO_5 HO444;have HO_23 := n0_;have HL437_0 := n1_;have HB := n2_;have HO447 := n3_;clear n0_ n1_ n2_ n3_ ho hb hg hat))
     go_roundg k2
     case measure => have := HK1.out;have := HK2.out;omega
     case rel => exact ⟨(y445), (wrap64 (x25_2 + 1)), eF, H', ⟨by have := HK1.out;have := HK2.out;omega⟩, ⟨by (with_reducible repeat (first | apply Kd.S_alloc | apply Kd.S_drewN | apply Kd.S_drew));exact HO447.out⟩, ⟨by (with_reducible repeat (first | apply Kd.S_alloc | apply Kd.S_drewN | apply Kd.S_drew));exact Kd.S_mono HO_23.out (fun _ hk => hk.2)⟩, ⟨by exact bB⟩⟩


/-! ### impl_setOf: function 84 -/
def impl_setOf.l0 : Nat → Int → List Int → Int → Option (List Int)
 | 0, _, _, _ => none
 | k + 1, x0, x3, x4 => if 0 ≤ x4 then (if (shr .i64 x0 x4) = 0 then (some x3) else (if (Go.bits .and .i64 (shr .i64 x0 x4) 1) = 1 then (if x3.length < 17592186044416 then (impl_setOf.l0 k x0 (x3 ++ [x4]) (wrap64 (x4 + 1))) else (none)) else (impl_setOf.l0 k x0 x3 (wrap64 (x4 + 1))))) else (none)
def impl_setOf.f (k : Nat) (a0 : Int) : Option (List Int) := impl_setOf.l0 k a0 ([] : List Int) 0
theorem impl_setOf.mono_l : ∀ k, (∀ y0 y1 y2, LeO (impl_setOf.l0 k y0 y1 y2) (impl_setOf.l0 (k + 1) y0 y1 y2))
 | 0 => fun _ _ _ r h => by simp [impl_setOf.l0] at h
 | k + 1 => by
  have ih0 := impl_setOf.mono_l k
  ·intro y0 y1 y2
   unfold impl_setOf.l0
   exact lM
theorem impl_setOf.mono : ∀ a0 k, LeO (impl_setOf.f k a0) (impl_setOf.f (k + 1) a0) := by
 intro a0 k
 have ih0 := impl_setOf.mono_l k
 unfold impl_setOf.f
 exact lM
theorem impl_setOf.calls (k : Nat) (a0 : Int) (r : List Int) (w : World) (h : impl_setOf.f k a0 = some r) :
  Calls Tryd.prog 84 #[.int .i64 a0] w fun e w' => ∃ v0_ : Value, e = .returned (v0_) ∧ Kd.R (Kd.int .i64) 3 w' w.heap.size (fun _ => True) v0_ r ∧ Below w.heap.size w w' := by
 have HB := aM (Below.refl w.heap.size w)
 have H : (impl_setOf.l0 k a0 ([] : List Int) 0) = some r := h
 clear h
 have H' := Aside0.mk H
 clear H
 go_enter Tryd.func84, Tryd.ntmps84
 go_wp2
 go_loopg [3, 4] k (fun kq v3 v4 w' => ∃ (x3_1 : List Int) (x4_1 : Int), v4 = .int .i64 x4_1 ∧ Aside0 (impl_setOf.l0 kq a0 x3_1 x4_1 = some r) ∧ Aside0 (kq ≤ k) ∧ Aside0 (Kd.R (Kd.int .i64) 3 w' w.heap.size (fun _ => True) v3 x3_1) ∧ Aside0 (Below w.heap.size w w'))
 case atStart => exact ⟨(([] : List Int)), (0), eF, H', ⟨Nat.le_refl _⟩, ⟨by first | exact Kd.R_nil _ _ _ _ _ | exact Kd.N_nil _ _ _ _ _ | exact Kd.V_nil _ _ _ _ _ | exact Kd.Q_nil _ _ _ _ _ | exact Kd.S_nil _ _ _ _ _⟩, ⟨by exact bB⟩⟩
 case round =>
  clear H'
  obtain ⟨x3_1, x4_1, rfl, HA, HK1, HO_3, HB⟩ := hrel
  cases gk with
  | zero => exact absurd HA.out (by simp [impl_setOf.l0])
  | succ k1 =>
   have H := HA.out
   clear HA
   simp only [impl_setOf.l0] at H
   by_cases c2 : 0 ≤ x4_1
   rotate_left
   ·rw [if_neg c2] at H
    exact absurd H (by simp)
   rw [if_pos c2] at H
   have c2b0 := eq_true c2
   have c2b1 : decide (0 ≤ x4_1) = true := decide_eq_true c2
   clear c2
   obtain ⟨ji3, hji3⟩ : ∃ j_ : Int, (shr .i64 a0 x4_1) = j_ := ⟨_, rfl⟩
   replace H : (if (ji3) = 0 then (some x3_1) else (if (Go.bits .and .i64 (ji3) 1) = 1 then (if x3_1.length < 17592186044416 then (impl_setOf.l0 k1 a0 (x3_1 ++ [x4_1]) (wrap64 (x4_1 + 1))) else (none)) else (impl_setOf.l0 k1 a0 x3_1 (wrap64 (x4_1 + 1))))) = some r := by first | (rw [hji3] at H;exact H) | (simp only [hji3] at H ⊢;exact H)
   have hji3_ : (a0 / 2 ^ min x4_1.toNat 64) = ji3 := hji3
   have hji3z : x4_1 ≤ 64 → (a0 / 2 ^ x4_1.toNat) = ji3 := shr_small hji3
   by_cases c4 : (ji3) = 0
   ·rw [if_pos c4] at H
    have c4b0 : ((ji3) == 0) = true := beq_iff_eq.mpr c4
    have c4b1 : ((ji3) != 0) = false := bne_eq_false_iff_eq.mpr c4
    clear c4
    obtain rfl := sI H
    go_wp2
    go_ret
    exact ⟨_, by first | rfl | (simp [errW_none, errW_some] <;> rfl) | (simp only [← hji3];first | rfl | (simp [errW_none, errW_some] <;> rfl)) | (simp [*, errW_none, errW_some] <;> rfl), by exact rP HO_3.out, by exact bB⟩
   rw [if_neg c4] at H
   have c4b0 : ((ji3) == 0) = false := beq_eq_false_iff_ne.mpr c4
   have c4b1 : ((ji3) != 0) = true := bne_iff_ne.mpr c4
   have c5b0 := eq_true (oA : 0 ≤ x4_1)
   by_cases c7 : (Go.bits .and .i64 (ji3) 1) = 1
   rotate_left
   ·rw [if_neg c7] at H
    have c7b0 : ((Go.bits .and .i64 (ji3) 1) == 1) = false := beq_eq_false_iff_ne.mpr c7
    have c7b1 : ((Go.bits .and .i64 (ji3) 1) != 1) = true := bne_iff_ne.mpr c7
    have H' := Aside0.mk H
    clear H
    go_wp2
    go_roundg k1
    case measure => have := HK1.out;omega
    case rel => exact ⟨(x3_1), (wrap64 (x4_1 + 1)), eF, H', ⟨by have := HK1.out;omega⟩, ⟨by exact rP HO_3.out⟩, ⟨by exact bB⟩⟩
   rw [if_pos c7] at H
   have c7b0 : ((Go.bits .and .i64 (ji3) 1) == 1) = true := beq_iff_eq.mpr c7
   have c7b1 : ((Go.bits .and .i64 (ji3) 1) != 1) = false := bne_eq_false_iff_eq.mpr c7
   clear c7
   by_cases c8 : x3_1.length < 17592186044416
   rotate_left
   ·rw [if_neg c8] at H
    exact absurd H (by simp)
   rw [if_pos c8] at H
   have LMc8 := Aside0.mk c8
   clear c8
   obtain ⟨y448, hy448⟩ : ∃ y_ : List Int, y_ = (x3_1 ++ [x4_1]) := ⟨_, rfl⟩
   replace H : (impl_setOf.l0 k1 a0 y448 (wrap64 (x4_1 + 1))) = some r := by first | (rw [hy448];with_reducible exact H) | (rw [hy448];with_reducible exact hB H) | with_reducible exact hB H | with_reducible exact H | (rw [hy448];exact H) | exact H
   have Ny448 := Aside0.mk hy448
   clear hy448
   have H' := Aside0.mk H
   clear H
   go_wp2_with (first | ((with_reducible refine gate_builtin (b := .append) (xs := #[.tmp 16, .tmp 18]) rfl ?_);at_builtin;refine Kd.R_append (Kd.int .i64) (w0 := w) w.heap.size rfl (.tmp 16) (.tmp 18) 36 3 (.int .i64 0) 8 rfl Tryd.underlying36 info3 rfl (by decide) (by omega) u3 x3_1 x4_1 [.int .i64 x4_1] (fun _ => True) (fun _ => False) rfl rfl ?aP (fun _ hk => hk.elim) ?aF ?aO ?aB ?aS ?aL ?_;(case aP => exact rfl);(case aB => exact (by exact bB));(case aF => exact (fun _ _ => trivial));(case aO => exact (by exact rP HO_3.out));(case aS => exact (below_size (by exact bB)));(case aL => have := LMc8.out;omega);intro v449 w9 ho hb hg hat;rw [← Ny448.out] at ho;have n0_ := aM (hb);have n1_ := aM (ho);clear HB HO_3;have HB := n0_;have HO450 := n1_;clear n0_ n1_ ho hb hg hat))
   go_roundg k1
   case measure => have := HK1.out;omega
   case rel => exact ⟨(y448), (wrap64 (x4_1 + 1)), eF, H', ⟨by have := HK1.out;omega⟩, ⟨by exact rP HO450.out⟩, ⟨by exact bB⟩⟩


/-! ### impl_guardSets: function 61 -/
def impl_guardSets.f (k : Nat) (a0 : Int) (a1 : Int) : Option ((List (List Int))) := if 0 ≤ a0 then ((impl_setOf.f k (wrap64 ((shl .i64 1 a0) - 1))).bind fun t451 => ((impl_subsetsOf.f k t451 a1).bind fun t454 => (some t454))) else (none)
theorem impl_guardSets.mono : ∀ a0 a1 k, LeO (impl_guardSets.f k a0 a1) (impl_guardSets.f (k + 1) a0 a1) := by
 intro a0 a1 k
 unfold impl_guardSets.f
 have q0 := impl_setOf.mono
 have q1 := impl_subsetsOf.mono
 exact lM
theorem impl_guardSets.calls (k : Nat) (a0 : Int) (a1 : Int) (r : List (List Int)) (w : World) (h : impl_guardSets.f k a0 a1 = some r) :
  Calls Tryd.prog 61 #[.int .i64 a0, .int .i64 a1] w fun e w' => ∃ v0_ : Value, e = .returned (v0_) ∧ Kd.S (Kd.slice 3 (Kd.int .i64)) 36 w' w.heap.size (fun _ => True) v0_ r ∧ Below w.heap.size w w' := by
 have HB := aM (Below.refl w.heap.size w)
 have H : (if 0 ≤ a0 then ((impl_setOf.f k (wrap64 ((shl .i64 1 a0) - 1))).bind fun t451 => ((impl_subsetsOf.f k t451 a1).bind fun t454 => (some t454))) else (none)) = some r := h
 clear h
 by_cases c3 : 0 ≤ a0
 rotate_left
 ·rw [if_neg c3] at H
  exact absurd H (by simp)
 rw [if_pos c3] at H
 have c3b0 := eq_true c3
 have c3b1 : decide (0 ≤ a0) = true := decide_eq_true c3
 clear c3
 obtain ⟨ji4, hji4⟩ : ∃ j_ : Int, (shl .i64 1 a0) = j_ := ⟨_, rfl⟩
 replace H : ((impl_setOf.f k (wrap64 ((ji4) - 1))).bind fun t451 => ((impl_subsetsOf.f k t451 a1).bind fun t454 => (some t454))) = some r := by first | (rw [hji4] at H;exact H) | (simp only [hji4] at H ⊢;exact H)
 have hji4_ : (IntKind.i64.wrap (1 * 2 ^ min a0.toNat 64)) = ji4 := hji4
 have hji4z : a0 ≤ 64 → (IntKind.i64.wrap (1 * 2 ^ a0.toNat)) = ji4 := shl_small hji4
 have hji4u : (IntKind.i64.wrap (2 ^ min a0.toNat 64)) = ji4 := by have h_ := hji4_;rw [Int.one_mul] at h_;exact h_
 have hji4v : a0 ≤ 64 → (IntKind.i64.wrap (2 ^ a0.toNat)) = ji4 := fun hle_ => by have h_ := hji4z hle_;rw [Int.one_mul] at h_;exact h_
 have hji4y : (wrap64 (1 * 2 ^ min a0.toNat 64)) = ji4 := (i64_w _).symm.trans hji4_
 have hji4x : a0 ≤ 64 → (wrap64 (1 * 2 ^ a0.toNat)) = ji4 := fun h_ => (i64_w _).symm.trans (hji4z h_)
 replace H := bE H
 obtain ⟨t451, A50, H⟩ := H
 try dsimp only at H
 have A5 := Aside0.mk A50
 clear A50
 replace H := bE H
 obtain ⟨t454, A60, H⟩ := H
 try dsimp only at H
 have A6 := Aside0.mk A60
 clear A60
 obtain rfl := sI H
 go_enter Tryd.func61, Tryd.ntmps61
 go_wp2_with (first | ((with_reducible refine gate_callee (f := 84) rfl ?_);refine goesL_ (some 8) rfl rfl Tryd.func84 kR rfl #[.int .i64 (wrap64 ((ji4) - 1))] rfl (by (try simp only [List.map_toArray, List.map_cons, List.map_nil]);first | done | (simp only [hji4];rfl) | rfl | (simp only [List.length_drop, List.length_take];rfl)) ?_;(with_reducible refine (impl_setOf.calls k (wrap64 ((ji4) - 1)) t451 _ A5.out).mono ?_);rintro e w7 ⟨v452, rfl, ho0, hb⟩;refine ⟨_, rfl, ?_⟩;have n0_ := aM (Kd.R_lower ho0 (below_size (by exact bB)));have n1_ := aM (below_step (by exact bB) hb);clear HB;have HO453 := n0_;have HB := n1_;clear n0_ n1_;(try clear hb);(try clear ho0);obtain ⟨Ao8, co8, eo8⟩ := Kd.R_slice HO453.out;subst eo8) | ((with_reducible refine gate_callee (f := 83) rfl ?_);refine goesL_ (some 10) rfl rfl Tryd.func83 kR rfl #[.slice Ao8 t451.length co8, .int .i64 a1] rfl mM ?_;(with_reducible refine (impl_subsetsOf.calls k _ _ t451 a1 t454 _ ?side1 ?side2 A6.out).mono ?_);(case side1 => exact cP (Kd.R_reads' HO453.out).2.2);(case side2 => exact (Kd.R_reads' HO453.out).2.1);rintro e w9 ⟨v455, rfl, ho0, hb⟩;refine ⟨_, rfl, ?_⟩;have n0_ := aM (Kd.R_below (by exact rP HO453.out) hb);have n1_ := aM (Kd.S_lower (Kd.S_new' ho0 (Kd.R_lt (by exact rP HO453.out))) (below_size (by exact bB)));have n2_ := aM (below_step (by exact bB) hb);clear HO453 HB;have HO453 := n0_;have HO456 := n1_;have HB := n2_;clear n0_ n1_ n2_;(try clear hb);(try clear ho0)))
 go_ret
 exact ⟨_, by first | rfl | (simp [errW_none, errW_some] <;> rfl) | (simp only [← hji4];first | rfl | (simp [errW_none, errW_some] <;> rfl)) | (simp [*, errW_none, errW_some] <;> rfl), by (with_reducible repeat (first | apply Kd.S_alloc | apply Kd.S_drewN | apply Kd.S_drew));exact Kd.S_mono HO456.out (fun _ hk => trivial), by exact bB⟩


/-! ### bits_OnesCount64: function 95 -/
def bits_OnesCount64.f (a0 : Int) : Option (Int) := some (Go.bits .and .i64 (wrap64 (IntKind.u64.wrap ((IntKind.u64.wrap ((IntKind.u64.wrap ((Go.bits .and .u64 (IntKind.u64.wrap (((IntKind.u64.wrap ((Go.bits .and .u64 ((IntKind.u64.wrap ((Go.bits .and .u64 (a0 / 2) 6148914691236517205) + (Go.bits .and .u64 a0 6148914691236517205))) / 4) 3689348814741910323) + (Go.bits .and .u64 (IntKind.u64.wrap ((Go.bits .and .u64 (a0 / 2) 6148914691236517205) + (Go.bits .and .u64 a0 6148914691236517205))) 3689348814741910323))) / 16) + (IntKind.u64.wrap ((Go.bits .and .u64 ((IntKind.u64.wrap ((Go.bits .and .u64 (a0 / 2) 6148914691236517205) + (Go.bits .and .u64 a0 6148914691236517205))) / 4) 3689348814741910323) + (Go.bits .and .u64 (IntKind.u64.wrap ((Go.bits .and .u64 (a0 / 2) 6148914691236517205) + (Go.bits .and .u64 a0 6148914691236517205))) 3689348814741910323))))) 1085102592571150095) + ((Go.bits .and .u64 (IntKind.u64.wrap (((IntKind.u64.wrap ((Go.bits .and .u64 ((IntKind.u64.wrap ((Go.bits .and .u64 (a0 / 2) 6148914691236517205) + (Go.bits .and .u64 a0 6148914691236517205))) / 4) 3689348814741910323) + (Go.bits .and .u64 (IntKind.u64.wrap ((Go.bits .and .u64 (a0 / 2) 6148914691236517205) + (Go.bits .and .u64 a0 6148914691236517205))) 3689348814741910323))) / 16) + (IntKind.u64.wrap ((Go.bits .and .u64 ((IntKind.u64.wrap ((Go.bits .and .u64 (a0 / 2) 6148914691236517205) + (Go.bits .and .u64 a0 6148914691236517205))) / 4) 3689348814741910323) + (Go.bits .and .u64 (IntKind.u64.wrap ((Go.bits .and .u64 (a0 / 2) 6148914691236517205) + (Go.bits .and .u64 a0 6148914691236517205))) 3689348814741910323))))) 1085102592571150095) / 256))) + ((IntKind.u64.wrap ((Go.bits .and .u64 (IntKind.u64.wrap (((IntKind.u64.wrap ((Go.bits .and .u64 ((IntKind.u64.wrap ((Go.bits .and .u64 (a0 / 2) 6148914691236517205) + (Go.bits .and .u64 a0 6148914691236517205))) / 4) 3689348814741910323) + (Go.bits .and .u64 (IntKind.u64.wrap ((Go.bits .and .u64 (a0 / 2) 6148914691236517205) + (Go.bits .and .u64 a0 6148914691236517205))) 3689348814741910323))) / 16) + (IntKind.u64.wrap ((Go.bits .and .u64 ((IntKind.u64.wrap ((Go.bits .and .u64 (a0 / 2) 6148914691236517205) + (Go.bits .and .u64 a0 6148914691236517205))) / 4) 3689348814741910323) + (Go.bits .and .u64 (IntKind.u64.wrap ((Go.bits .and .u64 (a0 / 2) 6148914691236517205) + (Go.bits .and .u64 a0 6148914691236517205))) 3689348814741910323))))) 1085102592571150095) + ((Go.bits .and .u64 (IntKind.u64.wrap (((IntKind.u64.wrap ((Go.bits .and .u64 ((IntKind.u64.wrap ((Go.bits .and .u64 (a0 / 2) 6148914691236517205) + (Go.bits .and .u64 a0 6148914691236517205))) / 4) 3689348814741910323) + (Go.bits .and .u64 (IntKind.u64.wrap ((Go.bits .and .u64 (a0 / 2) 6148914691236517205) + (Go.bits .and .u64 a0 6148914691236517205))) 3689348814741910323))) / 16) + (IntKind.u64.wrap ((Go.bits .and .u64 ((IntKind.u64.wrap ((Go.bits .and .u64 (a0 / 2) 6148914691236517205) + (Go.bits .and .u64 a0 6148914691236517205))) / 4) 3689348814741910323) + (Go.bits .and .u64 (IntKind.u64.wrap ((Go.bits .and .u64 (a0 / 2) 6148914691236517205) + (Go.bits .and .u64 a0 6148914691236517205))) 3689348814741910323))))) 1085102592571150095) / 256))) / 65536))) + ((IntKind.u64.wrap ((IntKind.u64.wrap ((Go.bits .and .u64 (IntKind.u64.wrap (((IntKind.u64.wrap ((Go.bits .and .u64 ((IntKind.u64.wrap ((Go.bits .and .u64 (a0 / 2) 6148914691236517205) + (Go.bits .and .u64 a0 6148914691236517205))) / 4) 3689348814741910323) + (Go.bits .and .u64 (IntKind.u64.wrap ((Go.bits .and .u64 (a0 / 2) 6148914691236517205) + (Go.bits .and .u64 a0 6148914691236517205))) 3689348814741910323))) / 16) + (IntKind.u64.wrap ((Go.bits .and .u64 ((IntKind.u64.wrap ((Go.bits .and .u64 (a0 / 2) 6148914691236517205) + (Go.bits .and .u64 a0 6148914691236517205))) / 4) 3689348814741910323) + (Go.bits .and .u64 (IntKind.u64.wrap ((Go.bits .and .u64 (a0 / 2) 6148914691236517205) + (Go.bits .and .u64 a0 6148914691236517205))) 3689348814741910323))))) 1085102592571150095) + ((Go.bits .and .u64 (IntKind.u64.wrap (((IntKind.u64.wrap ((Go.bits .and .u64 ((IntKind.u64.wrap ((Go.bits .and .u64 (a0 / 2) 6148914691236517205) + (Go.bits .and .u64 a0 6148914691236517205))) / 4) 3689348814741910323) + (Go.bits .and .u64 (IntKind.u64.wrap ((Go.bits .and .u64 (a0 / 2) 6148914691236517205) + (Go.bits .and .u64 a0 6148914691236517205))) 3689348814741910323))) / 16) + (IntKind.u64.wrap ((Go.bits .and .u64 ((IntKind.u64.wrap ((Go.bits .and .u64 (a0 / 2) 6148914691236517205) + (Go.bits .and .u64 a0 6148914691236517205))) / 4) 3689348814741910323) + (Go.bits .and .u64 (IntKind.u64.wrap ((Go.bits .and .u64 (a0 / 2) 6148914691236517205) + (Go.bits .and .u64 a0 6148914691236517205))) 3689348814741910323))))) 1085102592571150095) / 256))) + ((IntKind.u64.wrap ((Go.bits .and .u64 (IntKind.u64.wrap (((IntKind.u64.wrap ((Go.bits .and .u64 ((IntKind.u64.wrap ((Go.bits .and .u64 (a0 / 2) 6148914691236517205) + (Go.bits .and .u64 a0 6148914691236517205))) / 4) 3689348814741910323) + (Go.bits .and .u64 (IntKind.u64.wrap ((Go.bits .and .u64 (a0 / 2) 6148914691236517205) + (Go.bits .and .u64 a0 6148914691236517205))) 3689348814741910323))) / 16) + (IntKind.u64.wrap ((Go.bits .and .u64 ((IntKind.u64.wrap ((Go.bits .and .u64 (a0 / 2) 6148914691236517205) + (Go.bits .and .u64 a0 6148914691236517205))) / 4) 3689348814741910323) + (Go.bits .and .u64 (IntKind.u64.wrap ((Go.bits .and .u64 (a0 / 2) 6148914691236517205) + (Go.bits .and .u64 a0 6148914691236517205))) 3689348814741910323))))) 1085102592571150095) + ((Go.bits .and .u64 (IntKind.u64.wrap (((IntKind.u64.wrap ((Go.bits .and .u64 ((IntKind.u64.wrap ((Go.bits .and .u64 (a0 / 2) 6148914691236517205) + (Go.bits .and .u64 a0 6148914691236517205))) / 4) 3689348814741910323) + (Go.bits .and .u64 (IntKind.u64.wrap ((Go.bits .and .u64 (a0 / 2) 6148914691236517205) + (Go.bits .and .u64 a0 6148914691236517205))) 3689348814741910323))) / 16) + (IntKind.u64.wrap ((Go.bits .and .u64 ((IntKind.u64.wrap ((Go.bits .and .u64 (a0 / 2) 6148914691236517205) + (Go.bits .and .u64 a0 6148914691236517205))) / 4) 3689348814741910323) + (Go.bits .and .u64 (IntKind.u64.wrap ((Go.bits .and .u64 (a0 / 2) 6148914691236517205) + (Go.bits .and .u64 a0 6148914691236517205))) 3689348814741910323))))) 1085102592571150095) / 256))) / 65536))) / 4294967296)))) 127)
theorem bits_OnesCount64.calls (a0 : Int) (r : Int) (w : World) (h : bits_OnesCount64.f a0 = some r) :
  Calls Tryd.prog 95 #[.int .u64 a0] w fun e w' => e = .returned (.int .i64 r) ∧ Drawn0 w w' := by
 have H := h
 unfold bits_OnesCount64.f at H
 clear h
 obtain rfl := sI H
 go_enter Tryd.func95, Tryd.ntmps95
 go_wp2
 go_ret
 exact ⟨eF, dR⟩


/-! ### bits_OnesCount: function 85 -/
def bits_OnesCount.f (a0 : Int) : Option (Int) := (bits_OnesCount64.f a0).bind fun t457 => (some t457)
theorem bits_OnesCount.calls (a0 : Int) (r : Int) (w : World) (h : bits_OnesCount.f a0 = some r) :
  Calls Tryd.prog 85 #[.int .u64 a0] w fun e w' => e = .returned (.int .i64 r) ∧ Drawn0 w w' := by
 have H : ((bits_OnesCount64.f a0).bind fun t457 => (some t457)) = some r := h
 clear h
 replace H := bE H
 obtain ⟨t457, A20, H⟩ := H
 try dsimp only at H
 have A2 := Aside0.mk A20
 clear A20
 obtain rfl := sI H
 go_enter Tryd.func85, Tryd.ntmps85
 go_wp2_with (first | ((with_reducible refine gate_callee (f := 95) rfl ?_);refine goesL_ (some 7) rfl rfl Tryd.func95 kR rfl #[.int .u64 a0] rfl mM ?_;(with_reducible refine (bits_OnesCount64.calls a0 t457 _ A2.out).mono ?_);rintro e w' ⟨rfl, ⟨nd, rfl⟩⟩;refine ⟨_, rfl, ?_⟩))
 go_ret
 exact ⟨eF, dR⟩


/-! ### bits_TrailingZeros: function 86 -/
section
open Go.Shelf
def Tryd.lays27_ren : Go.Shelf.Ren := ⟨fun | 27 => 86 | 28 => 96 | 29 => 97 | n => n, fun | 25 => 100 | 3 => 3 | 27 => 106 | 22 => 108 | 4 => 4 | 53 => 115 | 0 => 0 | 5 => 5 | 54 => 116 | n => n, fun | 0 => 0 | 1 => 1 | n => n⟩
theorem Tryd.lays27 : Go.Proofs.Lays7.n27 Tryd.prog Tryd.lays27_ren := {
 mixed := by kernel_rfl
 f27 := Tryd.func86.trans (congrArg some kR)
 f28 := Tryd.func96.trans (congrArg some kR)
 f29 := Tryd.func97.trans (congrArg some kR)
 t0 := Tryd.underlying0
 a0 := Tryd.isAgg0
 z0 := Tryd.sizeOf0
 v0 := Tryd.zeroValue0
 i0 := by kernel_rfl
 t3 := Tryd.underlying3
 a3 := Tryd.isAgg3
 z3 := Tryd.sizeOf3
 v3 := Tryd.zeroValue3
 i3 := by kernel_rfl
 t4 := Tryd.underlying4
 a4 := Tryd.isAgg4
 z4 := Tryd.sizeOf4
 v4 := Tryd.zeroValue4
 i4 := by kernel_rfl
 t5 := Tryd.underlying5
 a5 := Tryd.isAgg5
 z5 := Tryd.sizeOf5
 v5 := Tryd.zeroValue5
 i5 := by kernel_rfl
 t22 := Tryd.underlying108
 a22 := Tryd.isAgg108
 z22 := Tryd.sizeOf108
 v22 := Tryd.zeroValue108
 i22 := by kernel_rfl
 t25 := Tryd.underlying100
 a25 := Tryd.isAgg100
 z25 := Tryd.sizeOf100
 v25 := Tryd.zeroValue100
 i25 := by kernel_rfl
 t27 := Tryd.underlying106
 a27 := Tryd.isAgg106
 z27 := Tryd.sizeOf106
 v27 := Tryd.zeroValue106
 i27 := by kernel_rfl
 t53 := Tryd.underlying115
 a53 := Tryd.isAgg115
 z53 := Tryd.sizeOf115
 v53 := Tryd.zeroValue115
 i53 := by kernel_rfl
 t54 := Tryd.underlying116
 a54 := Tryd.isAgg116
 z54 := Tryd.sizeOf116
 g0 := by kernel_rfl
 g1 := by kernel_rfl }

end
def TabG (w : World) : Prop := Go.Proofs.TabAt 1 Go.Lib.deBruijn64tab w
theorem tabG_below {w w1 : World} (h : TabG w) (hb : Below w.heap.size w w1) : TabG w1 := fun j hj => pw_cell_below hb (h j hj)
def bits_TrailingZeros.f (a0 : Int) : Option (Int) := if 0 ≤ a0 ∧ a0 < 18446744073709551616 then some ((Go.Lib.ctz 64 a0.toNat : Nat) : Int) else none
theorem bits_TrailingZeros.calls (a0 : Int) (r : Int) (w : World) (hT : TabG w) (h : bits_TrailingZeros.f a0 = some r) :
  Calls Tryd.prog 86 #[.int .u64 a0] w fun e w' => e = .returned (.int .i64 r) ∧ Below w.heap.size w w' := by
 unfold bits_TrailingZeros.f at h
 split at h
 ·rename_i hc
  obtain rfl := Option.some.inj h
  have hcon := Go.Proofs.Any7.bits_TrailingZeros Tryd.lays27 a0.toNat (by omega) w (fun _ => hT)
  change Calls Tryd.prog 86 _ _ _ at hcon
  rw [show ((a0.toNat : Nat) : Int) = a0 by omega] at hcon
  refine hcon.mono ?_
  rintro e w' ⟨rfl, rfl⟩
  exact ⟨rfl, Below.refl _ _⟩
 ·cases h

/-! ### impl_net_closed: function 98 -/
def impl_net_closed.f (l0_0 : List Int) (a1 : Int) : Option (Int) := if 0 ≤ a1 then (if a1 < (l0_0.length : Int) then (some (Go.bits .or .i64 (rd l0_0 a1) (shl .i64 1 a1))) else (none)) else (none)
theorem impl_net_closed.calls (A0_0 : Option Addr) (c0_0 : Nat) (l0_0 : List Int) (a1 : Int) (r : Int) (w : World) (hr0_0 : Kd.C (Kd.int .i64) w A0_0 l0_0.length l0_0) (hc0_0 : l0_0.length ≤ c0_0) (h : impl_net_closed.f l0_0 a1 = some r) :
  Calls Tryd.prog 98 #[.agg #[.slice A0_0 l0_0.length c0_0], .int .i64 a1] w fun e w' => e = .returned (.int .i64 r) ∧ Below w.heap.size w w' := by
 have hu56 := Tryd.underlying56
 have HR0_0 := Aside0.mk hr0_0
 have HC0_0 := Aside0.mk hc0_0
 clear hr0_0 hc0_0
 have HB := aM (Below.refl w.heap.size w)
 have H : (if 0 ≤ a1 then (if a1 < (l0_0.length : Int) then (some (Go.bits .or .i64 (rd l0_0 a1) (shl .i64 1 a1))) else (none)) else (none)) = some r := h
 clear h
 by_cases c3 : 0 ≤ a1
 rotate_left
 ·rw [if_neg c3] at H
  exact absurd H (by simp)
 rw [if_pos c3] at H
 have c3b0 : decide (0 ≤ a1) = true := decide_eq_true c3
 clear c3
 by_cases c4 : a1 < (l0_0.length : Int)
 rotate_left
 ·rw [if_neg c4] at H
  exact absurd H (by simp)
 rw [if_pos c4] at H
 have c4b0 : decide (a1 < (l0_0.length : Int)) = true := decide_eq_true c4
 clear c4
 have c5b0 := eq_true (oA : 0 ≤ a1)
 obtain ⟨ji6, hji6⟩ : ∃ j_ : Int, (shl .i64 1 a1) = j_ := ⟨_, rfl⟩
 replace H : (some (Go.bits .or .i64 (rd l0_0 a1) (ji6))) = some r := by first | (rw [hji6] at H;exact H) | (simp only [hji6] at H ⊢;exact H)
 have hji6_ : (IntKind.i64.wrap (1 * 2 ^ min a1.toNat 64)) = ji6 := hji6
 have hji6z : a1 ≤ 64 → (IntKind.i64.wrap (1 * 2 ^ a1.toNat)) = ji6 := shl_small hji6
 have hji6u : (IntKind.i64.wrap (2 ^ min a1.toNat 64)) = ji6 := by have h_ := hji6_;rw [Int.one_mul] at h_;exact h_
 have hji6v : a1 ≤ 64 → (IntKind.i64.wrap (2 ^ a1.toNat)) = ji6 := fun hle_ => by have h_ := hji6z hle_;rw [Int.one_mul] at h_;exact h_
 have hji6y : (wrap64 (1 * 2 ^ min a1.toNat 64)) = ji6 := (i64_w _).symm.trans hji6_
 have hji6x : a1 ≤ 64 → (wrap64 (1 * 2 ^ a1.toNat)) = ji6 := fun h_ => (i64_w _).symm.trans (hji6z h_)
 obtain rfl := sI H
 go_enter Tryd.func98, Tryd.ntmps98
 go_wp2_with (first | ((with_reducible refine gate_dst (N := 2) rfl ?_);refine box_event ?hg (N := 2) ?hd (cs := #[.slice A0_0 l0_0.length c0_0]) (t := 56) ?hr ?_;(case hd => rfl);(case hg => rfl);(case hr => exact gS);intro gb461 hg w7 hbox hb;have n0_ := aM (below_step (by exact bB) hb);have n1_ := aM (hbox);have n2_ := aM (sW hg : w.heap.size ≤ gb461);have n3_ := aM (sW hg : w.heap.size ≤ gb461);clear HB;have HB := n0_;have BK461 := n1_;have GW461 := n2_;have GE461 := n3_;clear n0_ n1_ n2_ n3_ hb hbox hg;have hcz8_0 := bC0 BK461.out;have hfz8_0 := blk_frozen BK461.out 0;have p462 : 0 ≤ (a1 : Int) := oA;have q462 : a1 < (l0_0.length : Int) := oA;obtain ⟨ad462, e462, hx462_0⟩ := Kd.at_int HR0_0.out a1 p462 q462;cases e462;replace hx462_0 := cB HB.out hx462_0;replace p462 := eq_true p462;replace q462 := eq_true q462))
 repeat (go_quiet (first | ((with_reducible refine gate_dst (N := 2) rfl ?_);refine box_event ?hg (N := 2) ?hd (cs := #[.slice A0_0 l0_0.length c0_0]) (t := 56) ?hr ?_;(case hd => rfl);(case hg => rfl);(case hr => exact gS);intro gb461 hg w7 hbox hb;have n0_ := aM (below_step (by exact bB) hb);have n1_ := aM (hbox);have n2_ := aM (sW hg : w.heap.size ≤ gb461);have n3_ := aM (sW hg : w.heap.size ≤ gb461);clear HB;have HB := n0_;have BK461 := n1_;have GW461 := n2_;have GE461 := n3_;clear n0_ n1_ n2_ n3_ hb hbox hg;have hcz8_0 := bC0 BK461.out;have hfz8_0 := blk_frozen BK461.out 0;have p462 : 0 ≤ (a1 : Int) := oA;have q462 : a1 < (l0_0.length : Int) := oA;obtain ⟨ad462, e462, hx462_0⟩ := Kd.at_int HR0_0.out a1 p462 q462;cases e462;replace hx462_0 := cB HB.out hx462_0;replace p462 := eq_true p462;replace q462 := eq_true q462));try go_wp2_with (first | ((with_reducible refine gate_dst (N := 2) rfl ?_);refine box_event ?hg (N := 2) ?hd (cs := #[.slice A0_0 l0_0.length c0_0]) (t := 56) ?hr ?_;(case hd => rfl);(case hg => rfl);(case hr => exact gS);intro gb461 hg w7 hbox hb;have n0_ := aM (below_step (by exact bB) hb);have n1_ := aM (hbox);have n2_ := aM (sW hg : w.heap.size ≤ gb461);have n3_ := aM (sW hg : w.heap.size ≤ gb461);clear HB;have HB := n0_;have BK461 := n1_;have GW461 := n2_;have GE461 := n3_;clear n0_ n1_ n2_ n3_ hb hbox hg;have hcz8_0 := bC0 BK461.out;have hfz8_0 := blk_frozen BK461.out 0;have p462 : 0 ≤ (a1 : Int) := oA;have q462 : a1 < (l0_0.length : Int) := oA;obtain ⟨ad462, e462, hx462_0⟩ := Kd.at_int HR0_0.out a1 p462 q462;cases e462;replace hx462_0 := cB HB.out hx462_0;replace p462 := eq_true p462;replace q462 := eq_true q462)))
 go_ret
 exact ⟨by first | rfl | (simp [errW_none, errW_some] <;> rfl) | (simp only [← hji6];first | rfl | (simp [errW_none, errW_some] <;> rfl)) | (simp [*, errW_none, errW_some] <;> rfl), by exact bB⟩


/-! ### impl_net_canMatch: function 87 -/
def idxO (q : Int → Option Bool) : List Int → Int → Option Int
 | [], _ => some (-1)
 | x :: l, i => (q x).bind fun b => if b = true then some i else idxO q l (i + 1)
theorem idxO_mono {q q' : Int → Option Bool} (h : ∀ x, LeO (q x) (q' x)) : ∀ (l : List Int) (i : Int), LeO (idxO q l i) (idxO q' l i)
 | [], _ => LeO.refl _
 | x :: l, i => by
  unfold idxO
  refine LeO.bind (h x) (fun b => ?_)
  refine LeO.ite (LeO.refl _) (idxO_mono h l _)
theorem idxO_use {q : Int → Option Bool} {l : List Int} {kk : Nat} {r : Int} (hi : kk < l.length) (h : idxO q (l.drop kk) (kk : Int) = some r) :
  ∃ b, q (rd l (kk : Int)) = some b ∧ ((b = true ∧ r = (kk : Int)) ∨ (b = false ∧ idxO q (l.drop (kk + 1)) ((kk + 1 : Nat) : Int) = some r)) := by
 have e : rd l (kk : Int) = l[kk] := by simp [rd, hi]
 rw [List.drop_eq_getElem_cons hi] at h
 unfold idxO at h
 obtain ⟨b, hb, h⟩ := Option.bind_eq_some_iff.1 h
 refine ⟨b, by rw [e];exact hb, ?_⟩
 cases b with
 | true => rw [if_pos rfl] at h;exact .inl ⟨rfl, (Option.some.inj h).symm⟩
 | false => rw [if_neg (by decide)] at h;exact .inr ⟨rfl, by rw [← h];rfl⟩
theorem indexFuncO_calls (g : Nat) (lb : Array Value) (eg : ∀ args w, (callFunc g args).run Tryd.prog w = .ok (.enter g args) w) (q : Int → Option Bool) (A : Option Addr) (c : Nat) (l : List Int) (w : World) (hr : Kd.C (Kd.int .i64) w A l.length l) (r : Int) (h : idxO q l 0 = some r)
  (hp : ∀ x b W, q x = some b → Below w.heap.size w W → Calls Tryd.prog g (#[.int .i64 x] ++ lb) W fun e w' => e = .returned (.bool b) ∧ Below W.heap.size W w') :
  Calls Tryd.prog 89 #[.slice A l.length c, .func (.func g) #[] lb] w fun e w' => e = .returned (.int .i64 r) ∧ Below w.heap.size w w' := by
 have HR := Aside0.mk hr
 have HP := Aside0.mk hp
 have hL := hr.2.1
 have HI := aM (show idxO q (l.drop 0) ((0 : Nat) : Int) = some r from h)
 clear hr hp h
 go_enter Tryd.func89, Tryd.ntmps89
 go_wp2
 go_loopg [5, 8] l.length (fun gg _ s8 wr => ∃ kk : Nat, kk ≤ l.length ∧ l.length - kk ≤ gg ∧ s8 = .int .i64 (kk : Int) ∧ Aside0 (Below w.heap.size w wr) ∧ Aside0 (idxO q (l.drop kk) (kk : Int) = some r))
 case atStart => exact ⟨0, Nat.zero_le _, by omega, rfl, ⟨Below.refl _ _⟩, HI⟩
 case round =>
  clear HI
  obtain ⟨kk, hkk, hg, rfl, HB, NY⟩ := hrel
  by_cases hlt : kk < l.length
  ·have hltz : (kk : Int) < (l.length : Int) := by omega
   have hk0 : (0 : Int) ≤ (kk : Int) := by omega
   obtain ⟨ad, rfl, hcell⟩ := Kd.at_int (Kd.C_below HR.out HB.out) (kk : Int) hk0 hltz
   rw [Int.toNat_natCast] at hcell
   obtain ⟨b, hq, hcs⟩ := idxO_use hlt NY.out
   have hcall := HP.out (rd l (kk : Int)) b wr hq HB.out
   clear hq NY
   have HC := Aside0.mk hcs
   clear hcs
   generalize hx : rd l (kk : Int) = x at hcell hcall
   clear hx
   cases b with
   | true =>
    obtain rfl : r = (kk : Int) := by rcases HC.out with h | h;exact h.2;exact absurd h.1 (by decide)
    clear HC
    go_wp2_with (go_at_fn g;refine hcall.mono ?_;rintro e w' ⟨rfl, hb⟩)
    go_ret
    exact ⟨rfl, below_step HB.out hb⟩
   | false =>
    have NY := aM (show idxO q (l.drop (kk + 1)) ((kk + 1 : Nat) : Int) = some r by rcases HC.out with h | h;exact absurd h.1 (by decide);exact h.2)
    clear HC
    go_wp2_with (go_at_fn g;refine hcall.mono ?_;rintro e w' ⟨rfl, hb⟩)
    go_roundg (l.length - (kk + 1))
    case measure => omega
    case rel => exact ⟨kk + 1, by omega, by omega, by first | rfl | go_num, ⟨below_step HB.out hb⟩, NY⟩
  ·have hltz : ¬ (kk : Int) < (l.length : Int) := by omega
   obtain rfl : kk = l.length := by omega
   obtain rfl : r = -1 := by have h := NY.out;rw [List.drop_length] at h;exact (Option.some.inj h).symm
   go_wp2
   go_ret
   exact ⟨rfl, HB.out⟩

theorem containsFuncO_calls (g : Nat) (lb : Array Value) (eg : ∀ args w, (callFunc g args).run Tryd.prog w = .ok (.enter g args) w) (q : Int → Option Bool) (A : Option Addr) (c : Nat) (l : List Int) (w : World) (hr : Kd.C (Kd.int .i64) w A l.length l) (r : Int) (h : idxO q l 0 = some r)
  (hp : ∀ x b W, q x = some b → Below w.heap.size w W → Calls Tryd.prog g (#[.int .i64 x] ++ lb) W fun e w' => e = .returned (.bool b) ∧ Below W.heap.size W w') :
  Calls Tryd.prog 65 #[.slice A l.length c, .func (.func g) #[] lb] w fun e w' => e = .returned (.bool (decide (0 ≤ r))) ∧ Below w.heap.size w w' := by
 have hcon := indexFuncO_calls g lb eg q A c l w hr r h hp
 go_enter Tryd.func65, Tryd.ntmps65
 go_wp2_with (go_at_call 89;refine hcon.mono ?_;rintro e w' ⟨rfl, hb⟩)
 go_ret
 exact ⟨rfl, hb⟩

def impl_net_canMatch.f (k : Nat) (near : List Int) : List Int → Int → Option Bool
 | [], _ => some true
 | g :: gs, tt => (impl_net_closed.f near g).bind fun cl => ((impl_setOf.f k (Go.bits .and .i64 cl tt)).bind fun l => ((idxO (fun x => if 0 ≤ x then impl_net_canMatch.f k near gs (Go.bits .andNot .i64 tt (shl .i64 1 x)) else none) l 0).bind fun j => some (decide (0 ≤ j))))
theorem impl_net_canMatch.mono : ∀ a0 a1 a2 k, LeO (impl_net_canMatch.f k a0 a1 a2) (impl_net_canMatch.f (k + 1) a0 a1 a2) := by
 intro near gs
 induction gs with
 | nil => intro tt k;exact LeO.refl _
 | cons g gs ih =>
  intro tt k
  unfold impl_net_canMatch.f
  refine LeO.bind (LeO.refl _) (fun cl => ?_)
  refine LeO.bind (impl_setOf.mono _ _) (fun l => ?_)
  refine LeO.bind (idxO_mono (fun x => ?_) _ _) (fun j => LeO.refl _)
  exact LeO.ite (ih _ _) (LeO.none _)
def CanMatchIH (k : Nat) (near gs : List Int) : Prop := ∀ (A0 : Option Addr) (c0 : Nat) (A1 : Option Addr) (c1 : Nat) (tt : Int) (r : Bool) (w : World), Kd.C (Kd.int .i64) w A0 near.length near → near.length ≤ c0 → Kd.C (Kd.int .i64) w A1 gs.length gs → gs.length ≤ c1 → impl_net_canMatch.f k near gs tt = some r →
  Calls Tryd.prog 87 #[.agg #[.slice A0 near.length c0], .slice A1 gs.length c1, .int .i64 tt] w fun e w' => e = .returned (.bool r) ∧ Below w.heap.size w w'
def canMatch_fn.T1 : Bool × List (List Nat × List Nat) := (true, [([], []), ([], []), ([1], [1]), ([], []), ([], []), ([4], [4]), ([3, 5], [3, 5]), ([0, 2, 6], [0, 2, 6]), ([7, 7, 0, 1, 2, 3, 4, 5, 6, 7], [7])])
def canMatch_fn.B1 : List Nat := [0, 0, 2, 0, 0, 16, 56, 127, 255]
theorem canMatch_fn.tab1 : rtab .any (opsOf Tryd.f99 1) = canMatch_fn.T1 := by kernel_rfl
theorem canMatch_fn.bits1 : waitsOk canMatch_fn.T1.2 canMatch_fn.B1 = true := by kernel_rfl
theorem canMatch_fn (k : Nat) (near : List Int) (g : Int) (gs : List Int) (m : Nat) (hm : (g :: gs).length = m) (tt x : Int) (b : Bool) (gN gG gT : Nat) (A : Option Addr) (c : Nat) (A1 : Option Addr) (c1 : Nat) (W : World)
  (hN : W.cell? ⟨gN, 0, none⟩ = some (.slice A near.length c)) (hG : W.cell? ⟨gG, 0, none⟩ = some (.slice A1 m c1)) (hT : W.cell? ⟨gT, 0, none⟩ = some (.int .i64 tt))
  (hC : Kd.C (Kd.int .i64) W A near.length near) (hc : near.length ≤ c) (hC1 : Kd.C (Kd.int .i64) W A1 m (g :: gs)) (hc1 : m ≤ c1) (h0 : 0 ≤ x) (h : impl_net_canMatch.f k near gs (Go.bits .andNot .i64 tt (shl .i64 1 x)) = some b) (IH : CanMatchIH k near gs) :
  Calls Tryd.prog 99 (#[.int .i64 x] ++ #[.pointer (some ⟨gN, 0, none⟩), .pointer (some ⟨gG, 0, none⟩), .pointer (some ⟨gT, 0, none⟩)]) W fun e w' => e = .returned (.bool b) ∧ Below W.heap.size W w' := by
 have HIH := Aside0.mk IH
 obtain ⟨i0, hi0, _, hsz0, _⟩ := info_parts info3
 have hcl : (g :: gs).length ≤ c1 := by omega
 have h1l : (1 : Int) ≤ ((g :: gs).length : Int) := by simp only [List.length_cons];omega
 obtain ⟨A2, hcut, hA2, hC2⟩ := print_drop_of (P := Tryd.prog) (Value.int .i64) 0 36 3 .i64 Tryd.underlying36 hi0 hsz0 A1 c1 (g :: gs) 1 (by decide) h1l hcl
 rw [← hm] at hC1
 have hRG := Kd.C_of_reads (h1 := fun _ => rfl) (hA2 _ (Kd.reads_of_C hC1))
 have hdrop : (g :: gs).drop (1 : Int).toNat = gs := rfl
 rw [hdrop] at hcut hC2 hRG
 rw [hm] at hcut
 have HRG := Aside0.mk hRG
 have HCG := Aside0.mk hC2
 have HR := Aside0.mk hC
 have HCC := Aside0.mk hc
 have HB := aM (below_drew1 (Below.refl W.heap.size W))
 generalize hji : shl .i64 1 x = ji at h
 have hji_ : (IntKind.i64.wrap (1 * 2 ^ min x.toNat 64)) = ji := hji
 have hjiz : x ≤ 64 → (IntKind.i64.wrap (1 * 2 ^ x.toNat)) = ji := shl_small hji
 have hjiu : (IntKind.i64.wrap (2 ^ min x.toNat 64)) = ji := by have h_ := hji_;rw [Int.one_mul] at h_;exact h_
 have hjiv : x ≤ 64 → (IntKind.i64.wrap (2 ^ x.toNat)) = ji := fun hle_ => by have h_ := hjiz hle_;rw [Int.one_mul] at h_;exact h_
 have hjiy : (wrap64 (1 * 2 ^ min x.toNat 64)) = ji := (i64_w _).symm.trans hji_
 have hjix : x ≤ 64 → (wrap64 (1 * 2 ^ x.toNat)) = ji := fun h_ => (i64_w _).symm.trans (hjiz h_)
 have HF := Aside0.mk h
 have p0 : (0 ≤ x) = True := eq_true h0
 have p1 : (x < 0) = False := eq_false (by omega)
 have p2 : decide (0 ≤ x) = true := decide_eq_true h0
 have p3 : decide (x < 0) = false := decide_eq_false (by omega)
 clear h IH hC hc hC1 hc1 h0 hRG hC2 hA2 hm hcl h1l hi0 hsz0 hdrop
 show Calls Tryd.prog 99 #[.int .i64 x, .pointer (some ⟨gN, 0, none⟩), .pointer (some ⟨gG, 0, none⟩), .pointer (some ⟨gT, 0, none⟩)] W _
 go_enter Tryd.func99, Tryd.ntmps99
 try go_wp2
 refine start_ (n := 9) (S := fun w' => w'.cell? ⟨gN, 0, none⟩ = some (.slice A near.length c) ∧ w'.cell? ⟨gG, 0, none⟩ = some (.slice A1 m c1) ∧ w'.cell? ⟨gT, 0, none⟩ = some (.int .i64 tt)) (ds := []) (pT 0 9) kR rfl rfl ⟨hN, hG, hT⟩ (fun hHeld => ?_);refine with_tabW canMatch_fn.tab1 canMatch_fn.bits1 (fun HT_ HW_ => ?_)
 have HR' := aM (Kd.C_drew HR.out)
 have HRG' := aM (Kd.C_drew HRG.out)
 clear HR HRG hN hG hT
 generalize W.drew = w6 at HB HR' HRG' hHeld ⊢
 refine pure_ (i := 4) (N := some 10) (v := ?_) (a' := ?_) (qT [0,4,1,4]) rfl rfl (any_of HT_.out kR) (fun _ _ _ h => h) (Or.inl ⟨by rfl, ?_⟩) ?_ ?_
 rotate_left
 ·exact gW
 rotate_left
 ·exact aP
 refine take_ (i := 0) (N := some 6) (v := ?_) (a' := ?_) (qT [1,3,1,4]) rfl rfl (take_ofW HT_.out HW_.out kR) (fun _ _ _ h => h) (Or.inl ⟨by rfl, ?_⟩) hHeld ?_ ?_
 rotate_left
 ·rintro w' ⟨s0, s1, s2⟩
  go_simp
  with_reducible rfl
 rotate_left
 ·exact aP
 refine take_ (i := 1) (N := some 7) (v := ?_) (a' := ?_) (qT [2,2,1,4]) rfl rfl (take_ofW HT_.out HW_.out kR) (fun _ _ _ h => h) (Or.inl ⟨by rfl, ?_⟩) hHeld ?_ ?_
 rotate_left
 ·rintro w' ⟨s0, s1, s2⟩
  go_simp
  with_reducible rfl
 rotate_left
 ·exact aP
 refine take_ (i := 3) (N := some 9) (v := ?_) (a' := ?_) (qT [2,1,2,4]) rfl rfl (take_ofW HT_.out HW_.out kR) (fun _ _ _ h => h) (Or.inl ⟨by rfl, ?_⟩) hHeld ?_ ?_
 rotate_left
 ·rintro w' ⟨s0, s1, s2⟩
  go_simp
  with_reducible rfl
 rotate_left
 ·exact aP
 refine pure_ (i := 2) (N := some 8) (v := ?_) (a' := ?_) (pT 5 4) rfl rfl (any_of HT_.out kR) (fun _ _ _ h => h) (Or.inl ⟨by rfl, ?_⟩) ?_ ?_
 rotate_left
 ·exact gW
 rotate_left
 ·exact aP
 refine pure_ (i := 5) (N := some 11) (v := ?_) (a' := ?_) (pT 6 3) rfl rfl (any_of HT_.out kR) (fun _ _ _ h => h) (Or.inl ⟨by rfl, ?_⟩) ?_ ?_
 rotate_left
 ·exact gW
 rotate_left
 ·exact aP
 refine pure_ (i := 6) (N := some 12) (v := ?_) (a' := ?_) (pT 7 2) rfl rfl (any_of HT_.out kR) (fun _ _ _ h => h) (Or.inl ⟨by rfl, ?_⟩) ?_ ?_
 rotate_left
 ·exact gW
 rotate_left
 ·exact aP
 refine one_ (i := 7) (N := some 13) (pT 8 1) rfl rfl (one_of HT_.out kR) (by decide) (fun K hK => ?_)
 refine goes_ Tryd.func87 kR rfl #[.agg #[.slice A near.length c], .slice A2 gs.length (c1 - (1 : Int).toNat), .int .i64 (Go.bits .andNot .i64 tt ji)] (by rfl) rfl rfl mM ?_
 refine (HIH.out A c A2 _ _ b w6 HR'.out HCC.out HRG'.out HCG.out HF.out).mono ?_
 rintro e w13 ⟨rfl, hb⟩
 refine ⟨_, rfl, ?_⟩
 have hs0 := (hb.cell (World.block_lt_of_cell? _ _ hHeld.1)).trans hHeld.1
 have hs1 := (hb.cell (World.block_lt_of_cell? _ _ hHeld.2.1)).trans hHeld.2.1
 have hs2 := (hb.cell (World.block_lt_of_cell? _ _ hHeld.2.2)).trans hHeld.2.2
 have HB2 := aM (below_step HB.out hb)
 refine hK.out _ _ ⟨hs0, hs1, hs2⟩ (fun hHeld => ?_)
 clear hs0 hs1 hs2 hb hK K
 refine norm_ (a' := ?_) ?_ ?_
 rotate_left
 ·show Act.put _ (some 13) _ = _
  simp only [Act.put, List.setIfInBounds_toArray, List.set_cons_zero, List.set_cons_succ, i64_w, i32_w]
  rfl
 refine pure_ (i := 8) (N := some 5) (v := ?_) (a' := ?_) (pT 9 0) rfl rfl (any_of HT_.out kR) (fun _ _ _ h => h) (Or.inl ⟨by rfl, ?_⟩) ?_ ?_
 rotate_left
 ·exact gW
 rotate_left
 ·exact aP
 refine done_ (done_of HT_.out kR) ?_
 try go_wp2
 go_ret
 exact ⟨by first | rfl | simp, HB2.out⟩
def impl_net_canMatch.T3 : Bool × List (List Nat × List Nat) := (true, [([], []), ([], []), ([1], [1]), ([2], [2]), ([0, 3], [0, 3]), ([], []), ([4, 5], [4, 5]), ([6, 4], [6]), ([], []), ([7, 8, 7], [7, 8]), ([9, 9, 0, 1, 2, 3, 4, 5, 6, 7, 8, 9], [9])])
def impl_net_canMatch.B3 : List Nat := [0, 0, 2, 6, 15, 0, 63, 127, 0, 511, 1023]
theorem impl_net_canMatch.tab3 : rtab .any (opsOf Tryd.f87 3) = impl_net_canMatch.T3 := by kernel_rfl
theorem impl_net_canMatch.bits3 : waitsOk impl_net_canMatch.T3.2 impl_net_canMatch.B3 = true := by kernel_rfl
theorem impl_net_canMatch.step (k : Nat) (g : Int) (gs : List Int) (l0_0 : List Int) (IH : CanMatchIH k l0_0 gs) : CanMatchIH k l0_0 (g :: gs) := by
 intro A0_0 c0_0 A1 c1 a2 r w hr0_0 hc0_0 hr1 hc1 h
 have H : ((impl_net_closed.f l0_0 g).bind fun cl => ((impl_setOf.f k (Go.bits .and .i64 cl a2)).bind fun l => ((idxO (fun x => if 0 ≤ x then impl_net_canMatch.f k l0_0 gs (Go.bits .andNot .i64 a2 (shl .i64 1 x)) else none) l 0).bind fun j => some (decide (0 ≤ j))))) = some r := h
 clear h
 obtain ⟨cl, A3, H1⟩ := Option.bind_eq_some_iff.mp H
 clear H
 obtain ⟨l, A4, H2⟩ := Option.bind_eq_some_iff.mp H1
 clear H1
 obtain ⟨j, A5, H3⟩ := Option.bind_eq_some_iff.mp H2
 clear H2
 obtain rfl := sI H3
 clear H3
 have hm : (g :: gs).length = gs.length + 1 := rfl
 obtain ⟨ad, had, hx0⟩ := Kd.at_int hr1 (0 : Int) (by decide) (by rw [hm];omega)
 generalize hmm : (g :: gs).length = m at hr1 hc1 hm
 have hrd : rd (g :: gs) (0 : Int) = g := rfl
 rw [hrd, Int.toNat_zero] at hx0
 have hadd : ad.add 0 = ad := by unfold Addr.add;first | rfl | (split <;> rfl) | (split <;> simp_all) | simp
 rw [hadd] at hx0
 clear hadd hrd
 have hmz : ((m : Int) = 0) = False := eq_false (by omega)
 have hmz2 : ((m : Int) == 0) = false := by rw [beq_eq_false_iff_ne];omega
 have hmz3 : decide ((m : Int) = 0) = false := decide_eq_false (by omega)
 have hm1 : ((0 : Int) < (m : Int)) = True := eq_true (by omega)
 have hm2 : (0 < m) = True := eq_true (by omega)
 have hm3 : decide ((0 : Int) < (m : Int)) = true := decide_eq_true (by omega)
 subst had
 have HA3 := Aside0.mk A3;have HA4 := Aside0.mk A4;have HA5 := Aside0.mk A5;have HIH := Aside0.mk IH
 have HR0 := Aside0.mk hr0_0;have HC0 := Aside0.mk hc0_0;have HR1 := Aside0.mk hr1;have HC1 := Aside0.mk hc1;have HM := Aside0.mk hmm;have HX := Aside0.mk hx0
 clear A3 A4 A5 IH hr0_0 hc0_0 hr1 hc1 hm hmm hx0
 have HB := aM (Below.refl w.heap.size w)
 have hu1 := Tryd.underlying56
 have hu2 := Tryd.underlying36
 go_enter Tryd.func87, Tryd.ntmps87
 go_wp2_with (first | ((with_reducible refine gate_dst (N := 3) rfl ?_);refine box_event ?hg (N := 3) ?hd (cs := #[.slice A0_0 l0_0.length c0_0]) (t := 56) ?hr ?_;(case hd => rfl);(case hg => rfl);(case hr => exact gS);intro gbN hg w3 hbox hb;have n0_ := aM (below_step HB.out hb);have n9_ := Aside0.mk hbox;clear HB;have HB := n0_;have BKgbN := n9_;clear n0_ n9_ hb hbox hg) | ((with_reducible refine gate_dst (N := 4) rfl ?_);refine box_event ?hg (N := 4) ?hd (cs := #[.slice (some ad) m c1]) (t := 36) ?hr ?_;(case hd => rfl);(case hg => rfl);(case hr => exact gS);intro gbG hg w4 hbox hb;have n0_ := aM (below_step HB.out hb);have mgbN_ := aM (blk_below (g := gbN) (o := .cells #[.slice A0_0 l0_0.length c0_0] 56 (0, 0)) BKgbN.out hb);clear BKgbN;have BKgbN := mgbN_;clear mgbN_;have n9_ := Aside0.mk hbox;clear HB;have HB := n0_;have BKgbG := n9_;clear n0_ n9_ hb hbox hg) | ((with_reducible refine gate_dst (N := 5) rfl ?_);refine box_event ?hg (N := 5) ?hd (cs := #[.int .i64 a2]) (t := 3) ?hr ?_;(case hd => rfl);(case hg => rfl);(case hr => exact gS);intro gbT hg w5 hbox hb;have n0_ := aM (below_step HB.out hb);have mgbN_ := aM (blk_below (g := gbN) (o := .cells #[.slice A0_0 l0_0.length c0_0] 56 (0, 0)) BKgbN.out hb);clear BKgbN;have BKgbN := mgbN_;clear mgbN_;have mgbG_ := aM (blk_below (g := gbG) (o := .cells #[.slice (some ad) m c1] 36 (0, 0)) BKgbG.out hb);clear BKgbG;have BKgbG := mgbG_;clear mgbG_;have n9_ := Aside0.mk hbox;clear HB;have HB := n0_;have BKgbT := n9_;clear n0_ n9_ hb hbox hg;have hcN := (blk_cell BKgbN.out 0).trans rfl;have hcG := (blk_cell BKgbG.out 0).trans rfl;have hcT := (blk_cell BKgbT.out 0).trans rfl))
 try go_wp2
 have hx1 := pw_cell_below HB.out HX.out
 refine start_ (n := 11) (S := fun w' => w'.cell? ⟨gbN, 0, none⟩ = some (.slice A0_0 l0_0.length c0_0) ∧ w'.cell? ⟨gbG, 0, none⟩ = some (.slice (some ad) m c1) ∧ w'.cell? ⟨gbT, 0, none⟩ = some (.int .i64 a2) ∧ w'.cell? ad = some (.int .i64 g)) (ds := []) (pT 0 11) kR rfl rfl ⟨hcN, hcG, hcT, hx1⟩ (fun hHeld => ?_);refine with_tabW impl_net_canMatch.tab3 impl_net_canMatch.bits3 (fun HT_ HW_ => ?_)
 have HB1 := aM (below_drew1 HB.out)
 have HR' := aM (Kd.C_drew (Kd.C_below HR0.out HB.out))
 have HR1' := aM (Kd.C_drew (Kd.C_below HR1.out HB.out))
 have BN := aM (blk_drew BKgbN.out)
 have BG := aM (blk_drew BKgbG.out)
 have BT := aM (blk_drew BKgbT.out)
 clear HR0 HR1 HB BKgbN BKgbG BKgbT hcN hcG hcT HX hx1
 generalize w5.drew = w6 at HB1 HR' HR1' BN BG BT hHeld ⊢
 refine pure_ (i := 8) (N := some 18) (v := ?_) (a' := ?_) (qT [0,8,1,2]) rfl rfl (any_of HT_.out kR) (fun _ _ _ h => h) (Or.inl ⟨by rfl, ?_⟩) ?_ ?_
 rotate_left
 ·exact gW
 rotate_left
 ·exact aP
 refine take_ (i := 0) (N := some 10) (v := ?_) (a' := ?_) (qT [1,7,1,2]) rfl rfl (take_ofW HT_.out HW_.out kR) (fun _ _ _ h => h) (Or.inl ⟨by rfl, ?_⟩) hHeld ?_ ?_
 rotate_left
 ·rintro w' ⟨s0, s1, s2, s3⟩
  go_simp
  with_reducible rfl
 rotate_left
 ·exact aP
 refine take_ (i := 1) (N := some 11) (v := ?_) (a' := ?_) (qT [2,6,1,2]) rfl rfl (take_ofW HT_.out HW_.out kR) (fun _ _ _ h => h) (Or.inl ⟨by rfl, ?_⟩) hHeld ?_ ?_
 rotate_left
 ·rintro w' ⟨s0, s1, s2, s3⟩
  go_simp
  with_reducible rfl
 rotate_left
 ·exact aP
 refine take_ (i := 5) (N := some 15) (v := ?_) (a' := ?_) (qT [2,3,1,2,1,2]) rfl rfl (take_ofW HT_.out HW_.out kR) (fun _ _ _ h => h) (Or.inl ⟨by rfl, ?_⟩) hHeld ?_ ?_
 rotate_left
 ·rintro w' ⟨s0, s1, s2, s3⟩
  go_simp
  with_reducible rfl
 rotate_left
 ·exact aP
 refine pure_ (i := 2) (N := some 12) (v := ?_) (a' := ?_) (qT [3,2,1,2,1,2]) rfl rfl (any_of HT_.out kR) (fun _ _ _ h => h) (Or.inl ⟨by rfl, ?_⟩) ?_ ?_
 rotate_left
 ·exact gW
 rotate_left
 ·exact aP
 refine take_ (i := 3) (N := some 13) (v := ?_) (a' := ?_) (qT [4,1,1,2,1,2]) rfl rfl (take_ofW HT_.out HW_.out kR) (fun _ _ _ h => h) (Or.inl ⟨by rfl, ?_⟩) hHeld ?_ ?_
 rotate_left
 ·rintro w' ⟨s0, s1, s2, s3⟩
  go_simp
  with_reducible rfl
 rotate_left
 ·exact aP
 refine one_ (i := 4) (N := some 14) (qT [6,2,1,2]) rfl rfl (one_of HT_.out kR) (by decide) (fun K hK => ?_)
 refine goes_ Tryd.func98 kR rfl #[.agg #[.slice A0_0 l0_0.length c0_0], .int .i64 g] (by rfl) rfl rfl mM ?_
 refine (impl_net_closed.calls _ _ l0_0 g cl _ HR'.out HC0.out HA3.out).mono ?_
 rintro e w7 ⟨rfl, hb⟩
 refine ⟨_, rfl, ?_⟩
 have hs0 := (hb.cell (World.block_lt_of_cell? _ _ hHeld.1)).trans hHeld.1
 have hs1 := (hb.cell (World.block_lt_of_cell? _ _ hHeld.2.1)).trans hHeld.2.1
 have hs2 := (hb.cell (World.block_lt_of_cell? _ _ hHeld.2.2.1)).trans hHeld.2.2.1
 have hs3 := (hb.cell (World.block_lt_of_cell? _ _ hHeld.2.2.2)).trans hHeld.2.2.2
 have n0_ := aM (below_step HB1.out hb)
 have n1_ := aM (Kd.C_below HR'.out hb)
 have n2_ := aM (Kd.C_below HR1'.out hb)
 have n3_ := aM (blk_below BN.out hb)
 have n4_ := aM (blk_below BG.out hb)
 have n5_ := aM (blk_below BT.out hb)
 clear HB1 HR' HR1' BN BG BT
 have HB1 := n0_
 have HR' := n1_
 have HR1' := n2_
 have BN := n3_
 have BG := n4_
 have BT := n5_
 clear n0_ n1_ n2_ n3_ n4_ n5_
 refine hK.out _ _ ⟨hs0, hs1, hs2, hs3⟩ (fun hHeld => ?_)
 clear hs0 hs1 hs2 hs3 hb hK K
 refine norm_ (a' := ?_) ?_ ?_
 rotate_left
 ·show Act.put _ (some 14) _ = _
  simp only [Act.put, List.setIfInBounds_toArray, List.set_cons_zero, List.set_cons_succ, i64_w, i32_w]
  rfl
 refine pure_ (i := 6) (N := some 16) (v := ?_) (a' := ?_) (qT [7,1,1,2]) rfl rfl (any_of HT_.out kR) (fun _ _ _ h => h) (Or.inl ⟨by rfl, ?_⟩) ?_ ?_
 rotate_left
 ·exact gW
 rotate_left
 ·exact aP
 refine one_ (i := 7) (N := some 17) (pT 9 2) rfl rfl (one_of HT_.out kR) (by decide) (fun K hK => ?_)
 refine goes_ Tryd.func84 kR rfl #[.int .i64 (Go.bits .and .i64 cl a2)] (by rfl) rfl rfl mM ?_
 refine (impl_setOf.calls k _ l _ HA4.out).mono ?_
 rintro e w8 ⟨v8, rfl, ho0, hb⟩
 refine ⟨_, rfl, ?_⟩
 have hs0 := (hb.cell (World.block_lt_of_cell? _ _ hHeld.1)).trans hHeld.1
 have hs1 := (hb.cell (World.block_lt_of_cell? _ _ hHeld.2.1)).trans hHeld.2.1
 have hs2 := (hb.cell (World.block_lt_of_cell? _ _ hHeld.2.2.1)).trans hHeld.2.2.1
 have hs3 := (hb.cell (World.block_lt_of_cell? _ _ hHeld.2.2.2)).trans hHeld.2.2.2
 have n0_ := aM (below_step HB1.out hb)
 have n1_ := aM (Kd.C_below HR'.out hb)
 have n2_ := aM (Kd.C_below HR1'.out hb)
 have n3_ := aM (blk_below BN.out hb)
 have n4_ := aM (blk_below BG.out hb)
 have n5_ := aM (blk_below BT.out hb)
 clear HB1 HR' HR1' BN BG BT
 have HB1 := n0_
 have HR' := n1_
 have HR1' := n2_
 have BN := n3_
 have BG := n4_
 have BT := n5_
 clear n0_ n1_ n2_ n3_ n4_ n5_
 have HL := Aside0.mk ho0
 refine hK.out _ _ ⟨hs0, hs1, hs2, hs3⟩ (fun hHeld => ?_)
 clear hs0 hs1 hs2 hs3 hb hK K
 refine norm_ (a' := ?_) ?_ ?_
 rotate_left
 ·show Act.put _ (some 17) _ = _
  simp only [Act.put, List.setIfInBounds_toArray, List.set_cons_zero, List.set_cons_succ, i64_w, i32_w]
  rfl
 obtain ⟨Ao9, co9, eo9⟩ := Kd.R_slice HL.out
 subst eo9
 refine one_ (i := 9) (N := some 19) (pT 10 1) rfl rfl (one_of HT_.out kR) (by decide) (fun K hK => ?_)
 refine goes_ Tryd.func65 kR rfl #[.slice Ao9 l.length co9, .func (.func 99) #[] #[.pointer (some ⟨gbN, 0, none⟩), .pointer (some ⟨gbG, 0, none⟩), .pointer (some ⟨gbT, 0, none⟩)]] (by rfl) rfl rfl mM ?_
 refine (containsFuncO_calls 99 _ (enters_of Tryd.func99 kR rfl) _ _ _ l _ (Kd.R_reads' HL.out).2.2 j HA5.out (fun x b W hq hbw => by split at hq;(rename_i h0x;exact canMatch_fn k l0_0 g gs m HM.out a2 x b gbN gbG gbT A0_0 c0_0 (some ad) c1 W ((blk_cell (blk_below BN.out hbw) 0).trans rfl) ((blk_cell (blk_below BG.out hbw) 0).trans rfl) ((blk_cell (blk_below BT.out hbw) 0).trans rfl) (Kd.C_below HR'.out hbw) HC0.out (Kd.C_below HR1'.out hbw) HC1.out h0x hq HIH.out);cases hq)).mono ?_
 rintro e w9 ⟨rfl, hb⟩
 refine ⟨_, rfl, ?_⟩
 have hs0 := (hb.cell (World.block_lt_of_cell? _ _ hHeld.1)).trans hHeld.1
 have hs1 := (hb.cell (World.block_lt_of_cell? _ _ hHeld.2.1)).trans hHeld.2.1
 have hs2 := (hb.cell (World.block_lt_of_cell? _ _ hHeld.2.2.1)).trans hHeld.2.2.1
 have hs3 := (hb.cell (World.block_lt_of_cell? _ _ hHeld.2.2.2)).trans hHeld.2.2.2
 have n0_ := aM (below_step HB1.out hb)
 have n1_ := aM (Kd.C_below HR'.out hb)
 have n2_ := aM (Kd.C_below HR1'.out hb)
 have n3_ := aM (blk_below BN.out hb)
 have n4_ := aM (blk_below BG.out hb)
 have n5_ := aM (blk_below BT.out hb)
 clear HB1 HR' HR1' BN BG BT
 have HB1 := n0_
 have HR' := n1_
 have HR1' := n2_
 have BN := n3_
 have BG := n4_
 have BT := n5_
 clear n0_ n1_ n2_ n3_ n4_ n5_
 refine hK.out _ _ ⟨hs0, hs1, hs2, hs3⟩ (fun hHeld => ?_)
 clear hs0 hs1 hs2 hs3 hb hK K
 refine norm_ (a' := ?_) ?_ ?_
 rotate_left
 ·show Act.put _ (some 19) _ = _
  simp only [Act.put, List.setIfInBounds_toArray, List.set_cons_zero, List.set_cons_succ, i64_w, i32_w]
  rfl
 refine pure_ (i := 10) (N := some 6) (v := ?_) (a' := ?_) (pT 11 0) rfl rfl (any_of HT_.out kR) (fun _ _ _ h => h) (Or.inl ⟨by rfl, ?_⟩) ?_ ?_
 rotate_left
 ·exact gW
 rotate_left
 ·exact aP
 refine done_ (done_of HT_.out kR) ?_
 try go_wp2
 go_ret
 exact ⟨by first | rfl | simp, HB1.out⟩
theorem impl_net_canMatch.none_ (k : Nat) (l0_0 : List Int) : CanMatchIH k l0_0 [] := by
 intro A0_0 c0_0 A1 c1 a2 r w hr0_0 hc0_0 hr1 hc1 h
 obtain rfl : r = true := (Option.some.inj h).symm
 clear h hr0_0 hc0_0 hr1 hc1
 have HB := aM (Below.refl w.heap.size w)
 have hu1 := Tryd.underlying56
 have hu2 := Tryd.underlying36
 show Calls Tryd.prog 87 #[.agg #[.slice A0_0 l0_0.length c0_0], .slice A1 0 c1, .int .i64 a2] w _
 go_enter Tryd.func87, Tryd.ntmps87
 go_wp2_with (first | ((with_reducible refine gate_dst (N := 3) rfl ?_);refine box_event ?hg (N := 3) ?hd (cs := #[.slice A0_0 l0_0.length c0_0]) (t := 56) ?hr ?_;(case hd => rfl);(case hg => rfl);(case hr => exact gS);intro gbN hg w3 hbox hb;have n0_ := aM (below_step HB.out hb);have n9_ := Aside0.mk hbox;clear HB;have HB := n0_;have BKgbN := n9_;clear n0_ n9_ hb hbox hg) | ((with_reducible refine gate_dst (N := 4) rfl ?_);refine box_event ?hg (N := 4) ?hd (cs := #[.slice A1 0 c1]) (t := 36) ?hr ?_;(case hd => rfl);(case hg => rfl);(case hr => exact gS);intro gbG hg w4 hbox hb;have n0_ := aM (below_step HB.out hb);have mgbN_ := aM (blk_below (g := gbN) (o := .cells #[.slice A0_0 l0_0.length c0_0] 56 (0, 0)) BKgbN.out hb);clear BKgbN;have BKgbN := mgbN_;clear mgbN_;have n9_ := Aside0.mk hbox;clear HB;have HB := n0_;have BKgbG := n9_;clear n0_ n9_ hb hbox hg) | ((with_reducible refine gate_dst (N := 5) rfl ?_);refine box_event ?hg (N := 5) ?hd (cs := #[.int .i64 a2]) (t := 3) ?hr ?_;(case hd => rfl);(case hg => rfl);(case hr => exact gS);intro gbT hg w5 hbox hb;have n0_ := aM (below_step HB.out hb);have mgbN_ := aM (blk_below (g := gbN) (o := .cells #[.slice A0_0 l0_0.length c0_0] 56 (0, 0)) BKgbN.out hb);clear BKgbN;have BKgbN := mgbN_;clear mgbN_;have mgbG_ := aM (blk_below (g := gbG) (o := .cells #[.slice A1 0 c1] 36 (0, 0)) BKgbG.out hb);clear BKgbG;have BKgbG := mgbG_;clear mgbG_;have n9_ := Aside0.mk hbox;clear HB;have HB := n0_;have BKgbT := n9_;clear n0_ n9_ hb hbox hg;have hcN := (blk_cell BKgbN.out 0).trans rfl;have hcG := (blk_cell BKgbG.out 0).trans rfl;have hcT := (blk_cell BKgbT.out 0).trans rfl))
 go_ret
 exact ⟨by first | rfl | simp, HB.out⟩
theorem impl_net_canMatch.calls (k : Nat) (A0_0 : Option Addr) (c0_0 : Nat) (l0_0 : List Int) (A1 : Option Addr) (c1 : Nat) (l1 : List Int) (a2 : Int) (r : Bool) (w : World) (hr0_0 : Kd.C (Kd.int .i64) w A0_0 l0_0.length l0_0) (hc0_0 : l0_0.length ≤ c0_0) (hr1 : Kd.C (Kd.int .i64) w A1 l1.length l1) (hc1 : l1.length ≤ c1) (h : impl_net_canMatch.f k l0_0 l1 a2 = some r) :
  Calls Tryd.prog 87 #[.agg #[.slice A0_0 l0_0.length c0_0], .slice A1 l1.length c1, .int .i64 a2] w fun e w' => e = .returned (.bool r) ∧ Below w.heap.size w w' := by
 have H : ∀ gs, CanMatchIH k l0_0 gs := fun gs => by
  induction gs with
  | nil => exact impl_net_canMatch.none_ k l0_0
  | cons g gs ih => exact impl_net_canMatch.step k g gs l0_0 ih
 exact H l1 A0_0 c0_0 A1 c1 a2 r w hr0_0 hc0_0 hr1 hc1 h

end Go.Proofs.YtgahlimikndecaaDoor.QPlayAttacks
