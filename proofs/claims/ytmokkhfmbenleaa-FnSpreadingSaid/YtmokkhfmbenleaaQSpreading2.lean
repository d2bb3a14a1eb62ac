import Derived.Test.YtmokkhfmbenleaaQSpreading0
import Derived.Test.YtmokkhfmbenleaaQSpreading1
namespace Go.Proofs.Ytmokkhfmbenleaa.QSpreading
open Go.RowKit Go.Proofs.YtmokkhfmbenleaaW.PrintWords Go.Proofs.YtmokkhfmbenleaaW.PrintLast Go.Proofs.YtmokkhfmbenleaaW.PrintMore
attribute [local go_sem] max2_int min2_int max_two min_two max_three min_three max_four min_four   -- for this text's walks alone
set_option linter.unusedVariables false
set_option linter.unusedSimpArgs false
/-! ### impl_netOf: by hand -/
def netStep (w : List Int) (e : S119) : List Int :=
 let w1 := w.set e.f0.toNat (Go.bits .or .i64 (rd w e.f0) (shl .i64 1 e.f1))
 w1.set e.f1.toNat (Go.bits .or .i64 (rd w1 e.f1) (shl .i64 1 e.f0))
def impl_netOf.f (a0_0 : Int) (l0_1 : List S119) : Option (List Int) := if decide (0 ≤ a0_0 ∧ a0_0 ≤ 8) && goodL a0_0 none l0_1 then some (l0_1.foldl netStep (List.replicate a0_0.toNat 0)) else none
set_option maxHeartbeats 1600000 in
set_option maxRecDepth 100000 in
theorem impl_netOf.calls (a0_0 : Int) (A0_1 : Option Addr) (c0_1 : Nat) (l0_1 : List (S119)) (r : List Int) (w : World) (hr0_1 : Kd.C k119 w A0_1 l0_1.length l0_1) (hc0_1 : l0_1.length ≤ c0_1) (h : impl_netOf.f a0_0 l0_1 = some r) :
  Calls Try.prog 72 #[.agg #[.int .i64 a0_0, .slice A0_1 l0_1.length c0_1]] w fun e w' => ∃ v0_ : Value, e = .returned (.agg #[v0_]) ∧ Kd.R (Kd.int .i64) 3 w' w.heap.size (fun _ => True) v0_ r ∧ Below w.heap.size w w' := by
 have hu29 := Try.underlying31
 have hu53 := Try.underlying80
 have hu72 := Try.underlying119
 have HR0_1 := Aside0.mk hr0_1
 have HC0_1 := Aside0.mk hc0_1
 clear hr0_1 hc0_1
 have HB := aM (Below.refl w.heap.size w)
 unfold impl_netOf.f at h
 by_cases hg : (decide (0 ≤ a0_0 ∧ a0_0 ≤ 8) && goodL a0_0 none l0_1) = true
 case neg => rw [if_neg hg] at h;cases h
 rw [if_pos hg] at h
 simp only [Bool.and_eq_true, decide_eq_true_eq] at hg
 obtain ⟨⟨hn0, hn8⟩, hg2⟩ := hg
 have HE := aM (goodL_all hg2)
 have c2b0 := eq_true hn0
 have c2b1 : decide (0 ≤ a0_0) = true := decide_eq_true hn0
 have hn35 : a0_0.toNat ≤ 35184372088832 := by omega
 have c3b0 := eq_true hn35
 have c3b1 : decide ((a0_0 : Int).toNat ≤ 35184372088832) = true := decide_eq_true hn35
 obtain ⟨y238, hy238⟩ : ∃ y_ : List Int, y_ = (List.replicate (a0_0 : Int).toNat 0) := ⟨_, rfl⟩
 rw [← hy238] at h
 have HN := aM (And.intro hn0 hn8)
 have HYL : Aside0 (y238.length = a0_0.toNat) := ⟨by rw [hy238];simp⟩
 have H' := aM (Option.some.inj h)
 have Ny238 := Aside0.mk hy238
 clear hy238 h hg2 hn0 hn8 hn35
 go_enter Try.func72, Try.ntmps72
 go_wp2_with (first | ((with_reducible refine gate_dst (N := 1) rfl ?_);refine box_event ?hg (N := 1) ?hd (cs := #[.int .i64 a0_0, .slice A0_1 l0_1.length c0_1]) (t := 31) ?hr ?_;(case hd => rfl);(case hg => rfl);(case hr => first | (go_simp;done) | (go_simp;rfl));intro gb236 hg w4 hbox hb;have n0_ := aM (below_step (by exact bB) hb);have n1_ := aM (hbox);have n2_ := aM (sW hg : w.heap.size ≤ gb236);have n3_ := aM (sW hg : w.heap.size ≤ gb236);clear HB;have HB := n0_;have BK236 := n1_;have GW236 := n2_;have GE236 := n3_;clear n0_ n1_ n2_ n3_;clear hb hbox hg) | ((with_reducible refine gate_dst (N := 2) rfl ?_);refine box_event ?hg (N := 2) ?hd (cs := #[.slice none 0 0]) (t := 80) ?hr ?_;(case hd => rfl);(case hg => rfl);(case hr => first | (go_simp;done) | (go_simp;rfl));intro gb237 hg w5 hbox hb;have n0_ := aM (kB hb BK236.out);have n1_ := aM (below_step (by exact bB) hb);have n2_ := aM (hbox);have n3_ := aM (sW hg : w.heap.size ≤ gb237);have n4_ := aM (sW hg : w.heap.size ≤ gb237);have n5_ := aM (nL hg (kP BK236.out));have n6_ := aM (nG hg (kP BK236.out));clear BK236;clear HB;have BK236 := n0_;have HB := n1_;have BK237 := n2_;have GW237 := n3_;have GE237 := n4_;have NB236_237 := n5_;have NB237_236 := n6_;clear n0_ n1_ n2_ n3_ n4_ n5_ n6_;clear hb hbox hg;have hnb6 := NB236_237.out;have hnc6 := NB237_236.out;have hcz7_0 := bC0 BK236.out;have hcz7_1 := bC1 BK236.out;have hfz7_0 := blk_frozen BK236.out 0;have hfz7_1 := blk_frozen BK236.out 1) | ((with_reducible refine gate_dst (N := 8) rfl ?_);refine Kd.R_make (Kd.int .i64) _ 3 rfl (N := 8) rfl 28 _ _ rfl a0_0 rfl rfl Try.underlying28 (.int .i64 0) 8 infoInt rfl (by decide) (by omega) 0 (ok := fun _ => True) (okp := fun _ => True) rfl (fun _ hk => hk) trivial (oA) (Nat.le_trans (Nat.mul_le_mul_right _ (oA : a0_0.toNat ≤ 35184372088832)) (by omega)) (Below.refl _ _) (Nat.le_refl _) ?_;intro v239 w8 ho9 hb hg_ hnew_;clear hg_ hnew_;(first | rw [← Ny238.out] at ho9 | (simp only [Int.reduceToNat] at ho9;rw [← Ny238.out] at ho9));have n0_ := aM (Kd.R_lower ho9 (below_size (by exact bB)));have n1_ := aM (kB hb BK236.out);have n2_ := aM (kB hb BK237.out);have n3_ := aM (below_step (by exact bB) hb);clear BK236;clear BK237;clear HB;have HO240 := n0_;have BK236 := n1_;have BK237 := n2_;have HB := n3_;clear n0_ n1_ n2_ n3_;clear hb ho9;obtain ⟨Ao10, co10, eo10⟩ := Kd.R_slice HO240.out;subst eo10) | ((with_reducible refine gate_dst (N := 3) rfl ?_);refine box_event ?hg (N := 3) ?hd (cs := #[.slice none 0 0]) (t := 80) ?hr ?_;(case hd => rfl);(case hg => rfl);(case hr => first | (go_simp;done) | (go_simp;rfl));intro gb241 hg w11 hbox hb;have n0_ := aM (Kd.R_below (by exact rP HO240.out) hb);have n1_ := aM (kB hb BK236.out);have n2_ := aM (kB hb BK237.out);have n3_ := aM (below_step (by exact bB) hb);have n4_ := aM (hbox);have n5_ := aM (sW hg : w.heap.size ≤ gb241);have n6_ := aM (sW hg : w.heap.size ≤ gb241);have n7_ := aM (nL hg (kP BK236.out));have n8_ := aM (nG hg (kP BK236.out));have n9_ := aM (nL hg (kP BK237.out));have n10_ := aM (nG hg (kP BK237.out));clear HO240;clear BK236;clear BK237;clear HB;have HO240 := n0_;have BK236 := n1_;have BK237 := n2_;have HB := n3_;have BK241 := n4_;have GW241 := n5_;have GE241 := n6_;have NB236_241 := n7_;have NB241_236 := n8_;have NB237_241 := n9_;have NB241_237 := n10_;clear n0_ n1_ n2_ n3_ n4_ n5_ n6_ n7_ n8_ n9_ n10_;clear hb hbox hg;have hnb12 := NB241_236.out;have hnc12 := NB236_241.out;have hnb13 := NB241_237.out;have hnc13 := NB237_241.out;have hcz14_0 := bC0 BK241.out;have hfz14_0 := blk_frozen BK241.out 0;have hcz15_0 := bC0 BK236.out;have hcz15_1 := bC1 BK236.out;have hfz15_0 := blk_frozen BK236.out 0;have hfz15_1 := blk_frozen BK236.out 1))
 go_loopw [13] (fun v13 w' => ∃ (x13_1 : Int) (x242000_1 : List Int) (u242000 : Value), v13 = .int .i64 x13_1 ∧ Aside0 (0 ≤ x13_1 ∧ x13_1 ≤ l0_1.length) ∧ Aside0 ((l0_1.drop x13_1.toNat).foldl netStep x242000_1 = r) ∧ Aside0 (x242000_1.length = a0_0.toNat) ∧ Aside0 (Kd.R (Kd.int .i64) 3 w' w.heap.size (fun _ => True) u242000 x242000_1) ∧ Aside0 (w'.heap[gb236]? = some (.cells #[.int .i64 a0_0, (.slice A0_1 l0_1.length c0_1)] 31 (0, 0))) ∧ Aside0 (w'.heap[gb237]? = some (.cells #[(.slice none 0 0)] 80 (0, 0))) ∧ Aside0 (w'.heap[gb241]? = some (.cells #[u242000] 80 (0, 0))) ∧ Aside0 (Below w.heap.size w w')) (fun v _ => l0_1.length - (intOf v).toNat)
 case atStart => exact ⟨(0), (y238), (.slice Ao10 y238.length co10), rfl, ⟨by omega, by omega⟩, ⟨H'.out⟩, HYL, ⟨by refine rP ?_;exact Kd.R_mono (Kd.R_far (p := ⟨gb241, 0, none⟩) (Kd.R_types HO240.out BK241.out (by decide)) (fun _ hk => hk.2) (.slice Ao10 y238.length co10)) (fun _ hk => trivial)⟩, ⟨by refine kP ?_;refine blk_far ?_ NB236_241.out _;exact kP BK236.out⟩, ⟨by refine kP ?_;refine blk_far ?_ NB237_241.out _;exact kP BK237.out⟩, ⟨by refine kP ?_;refine blk_put (cs := #[.slice none 0 0]) ?_ 0 _ rfl;exact kP BK241.out⟩, ⟨by exact bB⟩⟩
 case round =>
  clear H' HYL Ny238 HO240
  try clear c2
  try clear c2b0
  try clear c2b1
  try clear c3b0
  try clear c3b1
  obtain ⟨x13_1, x242000_1, u242000, rfl, HX, HF, HYL, HO_242000, BK236, BK237, BK241, HB⟩ := hrel
  by_cases hlt : x13_1 < (l0_1.length : Int)
  ·have hlt' : decide (x13_1 < (l0_1.length : Int)) = true := decide_eq_true hlt
   have p0 : 0 ≤ x13_1 := HX.out.1
   obtain ⟨ad, e, hx0, hx1⟩ := at_T119 HR0_1.out x13_1 p0 hlt
   cases e
   replace hx0 := (HB.out.cell (World.block_lt_of_cell? w _ hx0)).trans hx0
   replace hx1 := (HB.out.cell (World.block_lt_of_cell? w _ hx1)).trans hx1
   have HL := Aside0.mk hlt
   have hok := HE.out (rd_T119 l0_1 x13_1) (rd_mem p0 hlt)
   have HF2 : Aside0 ((l0_1.drop (x13_1 + 1).toNat).foldl netStep (netStep x242000_1 (rd_T119 l0_1 x13_1)) = r) := ⟨by rw [← HF.out];exact (foldl_at p0 hlt netStep x242000_1).symm⟩
   have HW1 : Aside0 (wrap64 (x13_1 + 1) = x13_1 + 1) := ⟨by have := HR0_1.out.2.1;unfold wrap64;omega⟩
   obtain ⟨e, he⟩ : ∃ e, e = rd_T119 l0_1 x13_1 := ⟨_, rfl⟩
   rw [← he] at hx0 hx1 hok HF2
   simp only [edgeOk, decide_eq_true_eq] at hok
   have hN := HN.out
   have hYL := HYL.out
   have i0 : 0 ≤ e.f0 := hok.1
   have i1 : e.f0 < (x242000_1.length : Int) := by omega
   have j0 : 0 ≤ e.f1 := by omega
   have j1 : e.f1 < (x242000_1.length : Int) := by omega
   have HOK := aM (show 0 ≤ e.f0 ∧ e.f0 < 8 ∧ 0 ≤ e.f1 ∧ e.f1 < 8 by omega)
   obtain ⟨f0, hf0⟩ : ∃ z, z = e.f0 := ⟨_, rfl⟩
   obtain ⟨f1, hf1⟩ : ∃ z, z = e.f1 := ⟨_, rfl⟩
   have HST : Aside0 (netStep x242000_1 e = ((x242000_1.set f0.toNat (Go.bits .or .i64 (rd x242000_1 f0) (shl .i64 1 f1))).set f1.toNat (Go.bits .or .i64 (rd (x242000_1.set f0.toNat (Go.bits .or .i64 (rd x242000_1 f0) (shl .i64 1 f1))) f1) (shl .i64 1 f0)))) := ⟨by rw [hf0, hf1];rfl⟩
   rw [← hf0] at hx0 i0 i1 HOK
   rw [← hf1] at hx1 j0 j1 HOK
   clear he hok hf0 hf1
   obtain ⟨go, co, eo, gb, gl, cl, HG⟩ := Kd.R_form HO_242000.out (by omega)
   cases eo
   have gne : go ≠ gb241 := fun hE => by
    have h1 := HG;rw [hE, BK241.out] at h1;simp at h1
   have gne' : gb241 ≠ go := fun hE => gne hE.symm
   have hcz3 := bC0 BK241.out
   have hb241 : gb241 < wr.heap.size := blk_lt BK241.out
   have GB := Aside0.mk gb
   have GL := Aside0.mk gl
   clear hN hYL hlt HG gb gl
   replace p0 := eq_true p0
   have hq0 := eq_true HL.out
   go_wp2
   generalize hw1 : (World.alloc wr _) = w1
   have BN : Aside0 (w1.heap[wr.heap.size]? = some (.cells #[.int .i64 f0, .int .i64 f1] 119 (0, 0))) := ⟨by rw [← hw1];exact blk_new wr _⟩
   have HB1 : Aside0 (Below w.heap.size w w1) := ⟨by rw [← hw1];exact below_alloc HB.out _⟩
   have BK1 : Aside0 (w1.heap[gb236]? = some (.cells #[.int .i64 a0_0, (.slice (some ad) l0_1.length c0_1)] 31 (0, 0))) := ⟨by rw [← hw1];exact blk_alloc BK236.out _⟩
   have BK2 : Aside0 (w1.heap[gb237]? = some (.cells #[(.slice none 0 0)] 80 (0, 0))) := ⟨by rw [← hw1];exact blk_alloc BK237.out _⟩
   have BK3 : Aside0 (w1.heap[gb241]? = some (.cells #[.slice (some ⟨go, 0, none⟩) x242000_1.length co] 80 (0, 0))) := ⟨by rw [← hw1];exact blk_alloc BK241.out _⟩
   have HO1 : Aside0 (Kd.R (Kd.int .i64) 3 w1 w.heap.size (fun _ => True) (.slice (some ⟨go, 0, none⟩) x242000_1.length co) x242000_1) := ⟨by rw [← hw1];exact Kd.R_alloc HO_242000.out _⟩
   have hbn : wr.heap.size ≠ go := by have := GL.out;omega
   have hbn' : go ≠ wr.heap.size := fun h => hbn h.symm
   have hbn3 : wr.heap.size ≠ gb241 := by omega
   generalize wr.heap.size = gn at BN hbn hbn' hbn3 ⊢
   clear hw1 hcz3 hx0 hx1 HO_242000 BK236 BK237 BK241 HB hb241
   have hb3 : gb241 < w1.heap.size := blk_lt BK3.out
   have c30 : w1.cell? ⟨gb241, 0, none⟩ = some (.slice (some ⟨go, 0, none⟩) x242000_1.length co) := (blk_cell BK3.out 0).trans rfl
   have cn0 : w1.cell? ⟨gn, 0, none⟩ = some (.int .i64 f0) := (blk_cell BN.out 0).trans rfl
   have cn1 : w1.cell? ⟨gn, 1, none⟩ = some (.int .i64 f1) := (blk_cell BN.out 1).trans rfl
   obtain ⟨cx0, cf0⟩ := Kd.R_celln 0 HO1.out f0 i0 i1
   have HP0 := Kd.R_putg HO1.out f0 (Go.bits .or .i64 (rd x242000_1 f0) (shl .i64 1 f1))
   refine still_tail_drew 11 (by kernel_rfl) (by kernel_rfl) ?_
   simp only [List.take_succ_cons, List.take_zero, List.drop_succ_cons, List.drop_zero]
   replace i0 := eq_true i0
   replace i1 := eq_true i1
   replace j0 := eq_true j0
   replace j1 := eq_true j1
   repeat still_step
   refine wpStill_nil ?_
   have hx1 := eq_true HL.out
   generalize hV0 : Go.bits .or .i64 (rdOf 0 x242000_1 f0) (IntKind.i64.wrap (2 ^ min f1.toNat 64)) = V0
   have HV0 := Aside0.mk hV0
   have HP := aM (Kd.R_putg HO1.out f0 V0).1
   clear hV0 HP0
   go_wp2
   generalize hw3 : (World.setCell _ _ _) = w3
   obtain ⟨ys, hys⟩ : ∃ ys, ys = x242000_1.set f0.toNat V0 := ⟨_, rfl⟩
   have HYS := Aside0.mk hys
   have HO3 : Aside0 (Kd.R (Kd.int .i64) 3 w3 w.heap.size (fun _ => True) (.slice (some ⟨go, 0, none⟩) ys.length co) ys) := ⟨by rw [← hw3, hys];have := HP.out;rw [List.length_set];exact this⟩
   have hyl : ys.length = x242000_1.length := by rw [hys];simp
   have HYL3 := Aside0.mk hyl
   have B3N : Aside0 (w3.heap[gn]? = some (.cells #[.int .i64 f0, .int .i64 f1] 119 (0, 0))) := ⟨by rw [← hw3];exact blk_far BN.out hbn _⟩
   have g236 : gb236 ≠ go := fun hE => by
    have h1 := HO1.out;have h2 := Kd.R_form h1 (by have := of_eq_true i1;have := of_eq_true i0;omega)
    obtain ⟨g', c', e', _, _, cl', hh'⟩ := h2;cases e';rw [← hE, BK1.out] at hh';simp at hh'
   have g237 : gb237 ≠ go := fun hE => by
    have h1 := HO1.out;have h2 := Kd.R_form h1 (by have := of_eq_true i1;have := of_eq_true i0;omega)
    obtain ⟨g', c', e', _, _, cl', hh'⟩ := h2;cases e';rw [← hE, BK2.out] at hh';simp at hh'
   have B31 : Aside0 (w3.heap[gb236]? = some (.cells #[.int .i64 a0_0, (.slice (some ad) l0_1.length c0_1)] 31 (0, 0))) := ⟨by rw [← hw3];exact blk_far BK1.out g236 _⟩
   have B32 : Aside0 (w3.heap[gb237]? = some (.cells #[(.slice none 0 0)] 80 (0, 0))) := ⟨by rw [← hw3];exact blk_far BK2.out g237 _⟩
   have B33 : Aside0 (w3.heap[gb241]? = some (.cells #[.slice (some ⟨go, 0, none⟩) ys.length co] 80 (0, 0))) := ⟨by rw [← hw3, hyl];exact blk_far BK3.out gne' _⟩
   have HB3 : Aside0 (Below w.heap.size w w3) := ⟨by rw [← hw3];exact below_set HB1.out GB.out⟩
   clear hw3 HP HO1 BN BK1 BK2 BK3 HB1 c30 cn0 cn1 cx0 cf0 hb3
   generalize hw4 : World.drew w3 = w4
   replace B3N : Aside0 (w4.heap[gn]? = some (.cells #[.int .i64 f0, .int .i64 f1] 119 (0, 0))) := ⟨by rw [← hw4];exact B3N.out⟩
   replace B31 : Aside0 (w4.heap[gb236]? = some (.cells #[.int .i64 a0_0, (.slice (some ad) l0_1.length c0_1)] 31 (0, 0))) := ⟨by rw [← hw4];exact B31.out⟩
   replace B32 : Aside0 (w4.heap[gb237]? = some (.cells #[(.slice none 0 0)] 80 (0, 0))) := ⟨by rw [← hw4];exact B32.out⟩
   replace B33 : Aside0 (w4.heap[gb241]? = some (.cells #[.slice (some ⟨go, 0, none⟩) ys.length co] 80 (0, 0))) := ⟨by rw [← hw4];exact B33.out⟩
   replace HB3 : Aside0 (Below w.heap.size w w4) := ⟨by rw [← hw4];exact below_drew HB3.out⟩
   replace HO3 : Aside0 (Kd.R (Kd.int .i64) 3 w4 w.heap.size (fun _ => True) (.slice (some ⟨go, 0, none⟩) ys.length co) ys) := ⟨by rw [← hw4];exact Kd.R_drew HO3.out⟩
   clear hw4 hys
   rw [← hyl] at i1 j1
   have hb3 : gb241 < w4.heap.size := blk_lt B33.out
   have c30 : w4.cell? ⟨gb241, 0, none⟩ = some (.slice (some ⟨go, 0, none⟩) ys.length co) := (blk_cell B33.out 0).trans rfl
   have cn0 : w4.cell? ⟨gn, 0, none⟩ = some (.int .i64 f0) := (blk_cell B3N.out 0).trans rfl
   have cn1 : w4.cell? ⟨gn, 1, none⟩ = some (.int .i64 f1) := (blk_cell B3N.out 1).trans rfl
   obtain ⟨cx0, cf0⟩ := Kd.R_celln 0 HO3.out f1 (of_eq_true j0) (of_eq_true j1)
   clear hyl
   refine still_tail_drew 11 (by kernel_rfl) (by kernel_rfl) ?_
   simp only [List.take_succ_cons, List.take_zero, List.drop_succ_cons, List.drop_zero]
   repeat still_step
   refine wpStill_nil ?_
   generalize hV1 : Go.bits .or .i64 (rdOf 0 ys f1) (IntKind.i64.wrap (2 ^ min f0.toNat 64)) = V1
   have HV1 := Aside0.mk hV1
   have HP := aM (Kd.R_putg HO3.out f1 V1).1
   clear hV1
   go_wp2
   go_roundw
   case rel =>
    refine ⟨x13_1 + 1, ys.set f1.toNat V1, _, by rw [HW1.out], ⟨by have := HX.out;have := HL.out;omega⟩, ⟨?_⟩, ⟨by rw [List.length_set, HYL3.out];exact HYL.out⟩, ⟨Kd.R_drew HP.out⟩, ⟨blk_drew (blk_far B31.out g236 _)⟩, ⟨blk_drew (blk_far B32.out g237 _)⟩, ⟨blk_drew (blk_far B33.out gne' _)⟩, ⟨below_drew (below_set HB3.out GB.out)⟩⟩
    rw [← HF2.out, HST.out, ← HV1.out, HYS.out, ← HV0.out]
    simp only [shl, Int.one_mul]
    rfl
   case measure => have := HL.out;have := HX.out;rw [HW1.out];simp [intOf];omega
  ·have hlt' : decide (x13_1 < (l0_1.length : Int)) = false := decide_eq_false hlt
   obtain rfl : x242000_1 = r := by have := HF.out;rw [List.drop_eq_nil_of_le (by omega)] at this;exact this
   clear hlt
   have hnb40 := NB241_236.out
   have hnc40 := NB236_241.out
   have hnb41 := NB241_237.out
   have hnc41 := NB237_241.out
   have hcz42_0 := bC0 BK241.out
   have hfz42_0 := blk_frozen BK241.out 0
   obtain ⟨Ao43, co43, eo43⟩ := Kd.R_slice HO_242000.out
   subst eo43
   have hnb44 := NB237_236.out
   have hnc44 := NB236_237.out
   have hcz45_0 := bC0 BK237.out
   have hfz45_0 := blk_frozen BK237.out 0
   go_wp2
   refine bodyPost_ret (results_cell_row rfl _ _ gb237 80 #[.slice Ao43 x242000_1.length co43] (0, 0) _ rfl (by refine kP ?_;refine blk_put (cs := #[.slice none 0 0]) ?_ 0 _ rfl;exact kP BK237.out) Try.underlying80 rfl (by kernel_rfl)) rfl ?_
   exact ⟨_, by first | rfl | (simp [errW_none, errW_some] <;> rfl) | (simp [*, errW_none, errW_some] <;> rfl), by refine rP ?_;exact Kd.R_mono (Kd.R_far (p := ⟨gb237, 0, none⟩) (Kd.R_types HO_242000.out BK237.out (by decide)) (fun _ hk => hk.2) (.slice Ao43 x242000_1.length co43)) (fun _ hk => trivial), by exact bB⟩

/-! ### impl_increasing: function 141 -/
def impl_increasing.l0 : Nat → List Int → Int → Option (Bool)
 | 0, _, _ => none
 | k + 1, x0, x3 => if x3 < (x0.length : Int) then (if 0 ≤ (wrap64 (x3 - 1)) then (if (wrap64 (x3 - 1)) < (x0.length : Int) then (if 0 ≤ x3 then (if (rd x0 (wrap64 (x3 - 1))) ≥ (rd x0 x3) then (some false) else (impl_increasing.l0 k x0 (wrap64 (x3 + 1)))) else (none)) else (none)) else (none)) else (some true)
def impl_increasing.f (k : Nat) (l0 : List Int) : Option (Bool) := impl_increasing.l0 k l0 1
theorem impl_increasing.mono_l : ∀ k, (∀ y0 y1, LeO (impl_increasing.l0 k y0 y1) (impl_increasing.l0 (k + 1) y0 y1))
 | 0 => fun _ _ r h => by simp [impl_increasing.l0] at h
 | k + 1 => by
  have ih0 := impl_increasing.mono_l k
  ·intro y0 y1
   unfold impl_increasing.l0
   repeat' first
   | (with_reducible exact ih0 _ _)
   | (with_reducible exact LeO.refl _)
   | (with_reducible exact LeO.none _)
   | (with_reducible refine LeO.ite ?_ ?_)
   | (with_reducible refine LeO.bind ?_ (fun _ => ?_))
   | exact LeO.none _
   | refine LeO.ite ?_ ?_
   | refine LeO.bind ?_ (fun _ => ?_)
theorem impl_increasing.mono : ∀ a0 k, LeO (impl_increasing.f k a0) (impl_increasing.f (k + 1) a0) := by
 intro a0 k
 have ih0 := impl_increasing.mono_l k
 unfold impl_increasing.f
 repeat' first
   | (with_reducible exact ih0 _ _)
   | (with_reducible exact LeO.refl _)
   | (with_reducible exact LeO.none _)
   | (with_reducible refine LeO.ite ?_ ?_)
   | (with_reducible refine LeO.bind ?_ (fun _ => ?_))
   | exact LeO.none _
   | refine LeO.ite ?_ ?_
   | refine LeO.bind ?_ (fun _ => ?_)
set_option maxHeartbeats 8000000 in
set_option maxRecDepth 100000 in
theorem impl_increasing.calls (k : Nat) (A0 : Option Addr) (c0 : Nat) (l0 : List Int) (r : Bool) (w : World) (hr0 : Kd.C (Kd.int .i64) w A0 l0.length l0) (hc0 : l0.length ≤ c0) (h : impl_increasing.f k l0 = some r) :
  Calls Try.prog 141 #[.slice A0 l0.length c0] w fun e w' => e = .returned (.bool r) ∧ Drawn0 w w' := by
 have HR0 := Aside0.mk hr0
 have HC0 := Aside0.mk hc0
 clear hr0 hc0
 have H : (impl_increasing.l0 k l0 1) = some r := h
 clear h
 have H' := Aside0.mk H
 clear H
 go_enter Try.func141, Try.ntmps141
 go_wp2
 repeat (go_quiet (fail);try go_wp2)
 go_loopg [3] k (fun kq v3 w' => ∃ (x3_1 : Int), v3 = .int .i64 x3_1 ∧ Aside0 (impl_increasing.l0 kq l0 x3_1 = some r) ∧ Aside0 (kq ≤ k) ∧ Drawn0 w w')
 case atStart => exact ⟨(1), (by first | rfl | (simp;done) | (simp [*];done)), H', ⟨Nat.le_refl _⟩, by repeat (first | exact Drawn0.refl _ | apply Drawn0.step)⟩
 case round =>
  clear H'
  try clear c1
  obtain ⟨x3_1, rfl, HA, HK1, ⟨m1, rfl⟩⟩ := hrel
  cases gk with
  | zero => exact absurd HA.out (by simp [impl_increasing.l0])
  | succ k1 =>
   have H := HA.out
   clear HA
   simp only [impl_increasing.l0] at H
   by_cases c2 : x3_1 < (l0.length : Int)
   rotate_left
   ·rw [if_neg c2] at H
    have c2b0 : decide (x3_1 < (l0.length : Int)) = false := decide_eq_false c2
    clear c2
    obtain rfl := Option.some.inj H
    go_wp2
    repeat (go_quiet (fail);try go_wp2)
    go_ret
    exact ⟨by first | rfl | (simp;done) | (simp [*];done), by repeat (first | exact Drawn0.refl _ | apply Drawn0.step)⟩
   rw [if_pos c2] at H
   have c2b0 : decide (x3_1 < (l0.length : Int)) = true := decide_eq_true c2
   clear c2
   obtain ⟨ji3, hji3⟩ : ∃ j_ : Int, (wrap64 (x3_1 - 1)) = j_ := ⟨_, rfl⟩
   replace H : (if 0 ≤ (ji3) then (if (ji3) < (l0.length : Int) then (if 0 ≤ x3_1 then (if (rd l0 (ji3)) ≥ (rd l0 x3_1) then (some false) else (impl_increasing.l0 k1 l0 (wrap64 (x3_1 + 1)))) else (none)) else (none)) else (none)) = some r := by first | (rw [hji3] at H;exact H) | (simp only [hji3] at H ⊢;exact H)
   have hji3w : (IntKind.i64.wrap (x3_1 - 1)) = ji3 := (i64_w _).trans hji3
   by_cases c4 : 0 ≤ (ji3)
   rotate_left
   ·rw [if_neg c4] at H
    exact absurd H (by simp)
   rw [if_pos c4] at H
   have c4b0 : decide (0 ≤ (ji3)) = true := decide_eq_true c4
   clear c4
   by_cases c5 : (ji3) < (l0.length : Int)
   rotate_left
   ·rw [if_neg c5] at H
    exact absurd H (by simp)
   rw [if_pos c5] at H
   have c5b0 : decide ((ji3) < (l0.length : Int)) = true := decide_eq_true c5
   clear c5
   by_cases c6 : 0 ≤ x3_1
   rotate_left
   ·rw [if_neg c6] at H
    exact absurd H (by simp)
   rw [if_pos c6] at H
   have c6b0 : decide (0 ≤ x3_1) = true := decide_eq_true c6
   clear c6
   by_cases c7 : (rd l0 (ji3)) ≥ (rd l0 x3_1)
   ·rw [if_pos c7] at H
    have c7b0 : decide ((rd l0 x3_1) ≤ (rd l0 (ji3))) = true := decide_eq_true c7
    clear c7
    obtain rfl := Option.some.inj H
    have p288 : 0 ≤ ((ji3) : Int) := oA
    have q288 : (ji3) < (l0.length : Int) := oA
    obtain ⟨ad288, e288, hx288_0⟩ := Kd.at_int HR0.out (ji3) p288 q288
    cases e288
    replace p288 := eq_true p288
    replace q288 := eq_true q288
    have p289 : 0 ≤ (x3_1 : Int) := oA
    have q289 : x3_1 < (l0.length : Int) := oA
    obtain ⟨ad289, e289, hx289_0⟩ := Kd.at_int HR0.out x3_1 p289 q289
    obtain rfl : ad288 = ad289 := (by injection e289)
    replace p289 := eq_true p289
    replace q289 := eq_true q289
    go_wp2
    repeat (go_quiet (fail);try go_wp2)
    go_ret
    exact ⟨by first | rfl | (simp;done) | (simp only [← hji3] <;> (first | rfl | simp)) | (simp [*];done), by repeat (first | exact Drawn0.refl _ | apply Drawn0.step)⟩
   rw [if_neg c7] at H
   have c7b0 : decide ((rd l0 x3_1) ≤ (rd l0 (ji3))) = false := decide_eq_false c7
   clear c7
   have H' := Aside0.mk H
   clear H
   have p288 : 0 ≤ ((ji3) : Int) := oA
   have q288 : (ji3) < (l0.length : Int) := oA
   obtain ⟨ad288, e288, hx288_0⟩ := Kd.at_int HR0.out (ji3) p288 q288
   cases e288
   replace p288 := eq_true p288
   replace q288 := eq_true q288
   have p289 : 0 ≤ (x3_1 : Int) := oA
   have q289 : x3_1 < (l0.length : Int) := oA
   obtain ⟨ad289, e289, hx289_0⟩ := Kd.at_int HR0.out x3_1 p289 q289
   obtain rfl : ad288 = ad289 := (by injection e289)
   replace p289 := eq_true p289
   replace q289 := eq_true q289
   go_wp2
   repeat (go_quiet (fail);try go_wp2)
   go_roundg k1
   case measure => have := HK1.out;omega
   case rel => exact ⟨(wrap64 (x3_1 + 1)), (by first | rfl | (simp;done) | (simp [*];done)), H', ⟨by have := HK1.out;omega⟩, by repeat (first | exact Drawn0.refl _ | apply Drawn0.step)⟩


/-! ### impl_isSet: function 86 -/
def impl_isSet.f (k : Nat) (a0_0 : Int) (l0_1 : List (S119)) (l1 : List Int) : Option (Bool) := (impl_hasNodes.f k a0_0 l0_1 l1).bind fun t291 => (if t291 = true then ((impl_increasing.f k l1).bind fun t292 => (some t292)) else (some false))
theorem impl_isSet.mono : ∀ a0 a1 a2 k, LeO (impl_isSet.f k a0 a1 a2) (impl_isSet.f (k + 1) a0 a1 a2) := by
 intro a0 a1 a2 k
 unfold impl_isSet.f
 repeat' first
   | (with_reducible exact impl_hasNodes.mono _ _ _ _)
   | (with_reducible exact impl_increasing.mono _ _)
   | (with_reducible exact LeO.refl _)
   | (with_reducible exact LeO.none _)
   | (with_reducible refine LeO.ite ?_ ?_)
   | (with_reducible refine LeO.bind ?_ (fun _ => ?_))
   | exact LeO.none _
   | refine LeO.ite ?_ ?_
   | refine LeO.bind ?_ (fun _ => ?_)
set_option maxHeartbeats 8000000 in
set_option maxRecDepth 100000 in
theorem impl_isSet.calls (k : Nat) (a0_0 : Int) (A0_1 : Option Addr) (c0_1 : Nat) (l0_1 : List (S119)) (A1 : Option Addr) (c1 : Nat) (l1 : List Int) (r : Bool) (w : World) (hr0_1 : Kd.C k119 w A0_1 l0_1.length l0_1) (hc0_1 : l0_1.length ≤ c0_1) (hr1 : Kd.C (Kd.int .i64) w A1 l1.length l1) (hc1 : l1.length ≤ c1) (h : impl_isSet.f k a0_0 l0_1 l1 = some r) :
  Calls Try.prog 86 #[.agg #[.int .i64 a0_0, .slice A0_1 l0_1.length c0_1], .slice A1 l1.length c1] w fun e w' => e = .returned (.bool r) ∧ Below w.heap.size w w' := by
 have hu31 := Try.underlying31
 have HR0_1 := Aside0.mk hr0_1
 have HC0_1 := Aside0.mk hc0_1
 clear hr0_1 hc0_1
 have HR1 := Aside0.mk hr1
 have HC1 := Aside0.mk hc1
 clear hr1 hc1
 have HB := aM (Below.refl w.heap.size w)
 have H : ((impl_hasNodes.f k a0_0 l0_1 l1).bind fun t291 => (if t291 = true then ((impl_increasing.f k l1).bind fun t292 => (some t292)) else (some false))) = some r := h
 clear h
 replace H := Option.bind_eq_some_iff.mp H
 obtain ⟨t291, A30, H⟩ := H
 replace H : (if t291 = true then ((impl_increasing.f k l1).bind fun t292 => (some t292)) else (some false)) = some r := H
 have A3 := Aside0.mk A30
 clear A30
 by_cases c4 : t291 = true
 rotate_left
 ·replace c4 := Bool.eq_false_iff.mpr c4
  subst c4
  have H1 : (some false) = some r := by rw [if_neg (show ¬ (false = true) by decide)] at H;exact H
  clear H
  have H := H1
  clear H1
  obtain rfl := Option.some.inj H
  go_enter Try.func86, Try.ntmps86
  go_wp2_with (first | ((with_reducible refine gate_dst (N := 2) rfl ?_);refine box_event ?hg (N := 2) ?hd (cs := #[.int .i64 a0_0, .slice A0_1 l0_1.length c0_1]) (t := 31) ?hr ?_;(case hd => rfl);(case hg => rfl);(case hr => first | (go_simp;done) | (go_simp;rfl));intro gb290 hg w9 hbox hb;have n0_ := aM (below_step (by exact bB) hb);have n1_ := aM (hbox);have n2_ := aM (sW hg : w.heap.size ≤ gb290);have n3_ := aM (sW hg : w.heap.size ≤ gb290);clear HB;have HB := n0_;have BK290 := n1_;have GW290 := n2_;have GE290 := n3_;clear n0_ n1_ n2_ n3_;clear hb hbox hg;have hcz10_0 := bC0 BK290.out;have hcz10_1 := bC1 BK290.out;have hfz10_0 := blk_frozen BK290.out 0;have hfz10_1 := blk_frozen BK290.out 1) | ((with_reducible refine gate_callee (f := 121) rfl ?_);refine goesL_ (some 7) rfl rfl Try.func121 (by kernel_rfl) rfl #[.agg #[.int .i64 a0_0, .slice A0_1 l0_1.length c0_1], .slice A1 l1.length c1] rfl mM ?_;(with_reducible refine (impl_hasNodes.calls k a0_0 _ _ l0_1 _ _ l1 false _ ?side1 ?side2 ?side3 ?side4 A3.out).mono ?_);(case side1 => exact cP (Kd.C_below HR0_1.out HB.out));(case side2 => exact HC0_1.out);(case side3 => exact cP (Kd.C_below HR1.out HB.out));(case side4 => exact HC1.out);rintro e w11 ⟨rfl, hb⟩;refine ⟨_, rfl, ?_⟩;have n0_ := aM (kB hb BK290.out);have n1_ := aM (below_step (by exact bB) hb);clear BK290;clear HB;have BK290 := n0_;have HB := n1_;clear n0_ n1_;(try clear hb);(try clear hb2);(try clear hk);(try clear hi)))
  go_ret
  exact ⟨by first | rfl | (simp [errW_none, errW_some] <;> rfl) | (simp [*, errW_none, errW_some] <;> rfl), by exact bB⟩
 subst c4
 have H1 : ((impl_increasing.f k l1).bind fun t292 => (some t292)) = some r := by rw [if_pos rfl] at H;exact H
 clear H
 have H := H1
 clear H1
 replace H := Option.bind_eq_some_iff.mp H
 obtain ⟨t292, A50, H⟩ := H
 replace H : (some t292) = some r := H
 have A5 := Aside0.mk A50
 clear A50
 obtain rfl := Option.some.inj H
 go_enter Try.func86, Try.ntmps86
 go_wp2_with (first | ((with_reducible refine gate_dst (N := 2) rfl ?_);refine box_event ?hg (N := 2) ?hd (cs := #[.int .i64 a0_0, .slice A0_1 l0_1.length c0_1]) (t := 31) ?hr ?_;(case hd => rfl);(case hg => rfl);(case hr => first | (go_simp;done) | (go_simp;rfl));intro gb290 hg w6 hbox hb;have n0_ := aM (below_step (by exact bB) hb);have n1_ := aM (hbox);have n2_ := aM (sW hg : w.heap.size ≤ gb290);have n3_ := aM (sW hg : w.heap.size ≤ gb290);clear HB;have HB := n0_;have BK290 := n1_;have GW290 := n2_;have GE290 := n3_;clear n0_ n1_ n2_ n3_;clear hb hbox hg;have hcz7_0 := bC0 BK290.out;have hcz7_1 := bC1 BK290.out;have hfz7_0 := blk_frozen BK290.out 0;have hfz7_1 := blk_frozen BK290.out 1) | ((with_reducible refine gate_callee (f := 121) rfl ?_);refine goesL_ (some 7) rfl rfl Try.func121 (by kernel_rfl) rfl #[.agg #[.int .i64 a0_0, .slice A0_1 l0_1.length c0_1], .slice A1 l1.length c1] rfl mM ?_;(with_reducible refine (impl_hasNodes.calls k a0_0 _ _ l0_1 _ _ l1 true _ ?side1 ?side2 ?side3 ?side4 A3.out).mono ?_);(case side1 => exact cP (Kd.C_below HR0_1.out HB.out));(case side2 => exact HC0_1.out);(case side3 => exact cP (Kd.C_below HR1.out HB.out));(case side4 => exact HC1.out);rintro e w8 ⟨rfl, hb⟩;refine ⟨_, rfl, ?_⟩;have n0_ := aM (kB hb BK290.out);have n1_ := aM (below_step (by exact bB) hb);clear BK290;clear HB;have BK290 := n0_;have HB := n1_;clear n0_ n1_;(try clear hb);(try clear hb2);(try clear hk);(try clear hi)) | (go_at_call 141;(with_reducible refine (impl_increasing.calls k _ _ l1 t292 _ ?side1 ?side2 A5.out).mono ?_);(case side1 => exact cP (Kd.C_below HR1.out HB.out));(case side2 => exact HC1.out);rintro e w' ⟨rfl, ⟨nd, rfl⟩⟩))
 go_ret
 exact ⟨by first | rfl | (simp [errW_none, errW_some] <;> rfl) | (simp [*, errW_none, errW_some] <;> rfl), by exact bB⟩


/-! ### impl_maskOf: function 89 -/
def impl_maskOf.l0 : Nat → Int → List Int → Int → Int → Option (Int)
 | 0, _, _, _, _ => none
 | k + 1, x3, x6, x7, x8 => if x8 < x7 then (if 0 ≤ x8 then (if x8 < (x6.length : Int) then (if 0 ≤ (rd x6 x8) then (impl_maskOf.l0 k (Go.bits .or .i64 x3 (shl .i64 1 (rd x6 x8))) x6 x7 (wrap64 (x8 + 1))) else (none)) else (none)) else (none)) else (some x3)
def impl_maskOf.f (k : Nat) (l0 : List Int) : Option (Int) := impl_maskOf.l0 k 0 l0 (l0.length : Int) 0
theorem impl_maskOf.mono_l : ∀ k, (∀ y0 y1 y2 y3, LeO (impl_maskOf.l0 k y0 y1 y2 y3) (impl_maskOf.l0 (k + 1) y0 y1 y2 y3))
 | 0 => fun _ _ _ _ r h => by simp [impl_maskOf.l0] at h
 | k + 1 => by
  have ih0 := impl_maskOf.mono_l k
  ·intro y0 y1 y2 y3
   unfold impl_maskOf.l0
   repeat' first
   | (with_reducible exact ih0 _ _ _ _)
   | (with_reducible exact LeO.refl _)
   | (with_reducible exact LeO.none _)
   | (with_reducible refine LeO.ite ?_ ?_)
   | (with_reducible refine LeO.bind ?_ (fun _ => ?_))
   | exact LeO.none _
   | refine LeO.ite ?_ ?_
   | refine LeO.bind ?_ (fun _ => ?_)
theorem impl_maskOf.mono : ∀ a0 k, LeO (impl_maskOf.f k a0) (impl_maskOf.f (k + 1) a0) := by
 intro a0 k
 have ih0 := impl_maskOf.mono_l k
 unfold impl_maskOf.f
 repeat' first
   | (with_reducible exact ih0 _ _ _ _)
   | (with_reducible exact LeO.refl _)
   | (with_reducible exact LeO.none _)
   | (with_reducible refine LeO.ite ?_ ?_)
   | (with_reducible refine LeO.bind ?_ (fun _ => ?_))
   | exact LeO.none _
   | refine LeO.ite ?_ ?_
   | refine LeO.bind ?_ (fun _ => ?_)
set_option maxHeartbeats 8000000 in
set_option maxRecDepth 100000 in
theorem impl_maskOf.calls (k : Nat) (A0 : Option Addr) (c0 : Nat) (l0 : List Int) (r : Int) (w : World) (hr0 : Kd.C (Kd.int .i64) w A0 l0.length l0) (hc0 : l0.length ≤ c0) (h : impl_maskOf.f k l0 = some r) :
  Calls Try.prog 89 #[.slice A0 l0.length c0] w fun e w' => e = .returned (.int .i64 r) ∧ Drawn0 w w' := by
 have HR0 := Aside0.mk hr0
 have HC0 := Aside0.mk hc0
 clear hr0 hc0
 have H : (impl_maskOf.l0 k 0 l0 (l0.length : Int) 0) = some r := h
 clear h
 have H' := Aside0.mk H
 clear H
 go_enter Try.func89, Try.ntmps89
 go_wp2
 go_loopg [3, 8] k (fun kq v3 v8 w' => ∃ (x3_1 : Int) (x8_1 : Int), v3 = .int .i64 x3_1 ∧ v8 = .int .i64 x8_1 ∧ Aside0 (impl_maskOf.l0 kq x3_1 l0 (l0.length : Int) x8_1 = some r) ∧ Aside0 (kq ≤ k) ∧ Drawn0 w w')
 case atStart => exact ⟨(0), (0), (by first | rfl | (simp;done) | (simp [*];done)), (by first | rfl | (simp;done) | (simp [*];done)), H', ⟨Nat.le_refl _⟩, by repeat (first | exact Drawn0.refl _ | apply Drawn0.step)⟩
 case round =>
  clear H'
  obtain ⟨x3_1, x8_1, rfl, rfl, HA, HK1, ⟨m1, rfl⟩⟩ := hrel
  cases gk with
  | zero => exact absurd HA.out (by simp [impl_maskOf.l0])
  | succ k1 =>
   have H := HA.out
   clear HA
   simp only [impl_maskOf.l0] at H
   by_cases c2 : x8_1 < (l0.length : Int)
   rotate_left
   ·rw [if_neg c2] at H
    have c2b0 : decide (x8_1 < (l0.length : Int)) = false := decide_eq_false c2
    clear c2
    obtain rfl := Option.some.inj H
    go_wp2
    go_ret
    exact ⟨by first | rfl | (simp;done) | (simp [*];done), by repeat (first | exact Drawn0.refl _ | apply Drawn0.step)⟩
   rw [if_pos c2] at H
   have c2b0 : decide (x8_1 < (l0.length : Int)) = true := decide_eq_true c2
   clear c2
   by_cases c3 : 0 ≤ x8_1
   rotate_left
   ·rw [if_neg c3] at H
    exact absurd H (by simp)
   rw [if_pos c3] at H
   have c3b0 : decide (0 ≤ x8_1) = true := decide_eq_true c3
   clear c3
   by_cases c4 : x8_1 < (l0.length : Int)
   rotate_left
   ·rw [if_neg c4] at H
    exact absurd H (by simp)
   rw [if_pos c4] at H
   have c4b0 : decide (x8_1 < (l0.length : Int)) = true := decide_eq_true c4
   clear c4
   by_cases c5 : 0 ≤ (rd l0 x8_1)
   rotate_left
   ·rw [if_neg c5] at H
    exact absurd H (by simp)
   rw [if_pos c5] at H
   have c5b0 := eq_true c5
   have c5b1 : decide (0 ≤ (rd l0 x8_1)) = true := decide_eq_true c5
   clear c5
   obtain ⟨ji6, hji6⟩ : ∃ j_ : Int, (shl .i64 1 (rd l0 x8_1)) = j_ := ⟨_, rfl⟩
   replace H : (impl_maskOf.l0 k1 (Go.bits .or .i64 x3_1 (ji6)) l0 (l0.length : Int) (wrap64 (x8_1 + 1))) = some r := by first | (rw [hji6] at H;exact H) | (simp only [hji6] at H ⊢;exact H)
   have hji6_ : (IntKind.i64.wrap (1 * 2 ^ min (rd l0 x8_1).toNat 64)) = ji6 := hji6
   have hji6z : (rd l0 x8_1) ≤ 64 → (IntKind.i64.wrap (1 * 2 ^ (rd l0 x8_1).toNat)) = ji6 := shl_small hji6
   have hji6u : (IntKind.i64.wrap (2 ^ min (rd l0 x8_1).toNat 64)) = ji6 := by have h_ := hji6_;rw [Int.one_mul] at h_;exact h_
   have hji6v : (rd l0 x8_1) ≤ 64 → (IntKind.i64.wrap (2 ^ (rd l0 x8_1).toNat)) = ji6 := fun hle_ => by have h_ := hji6z hle_;rw [Int.one_mul] at h_;exact h_
   have hji6y : (wrap64 (1 * 2 ^ min (rd l0 x8_1).toNat 64)) = ji6 := (i64_w _).symm.trans hji6_
   have hji6x : (rd l0 x8_1) ≤ 64 → (wrap64 (1 * 2 ^ (rd l0 x8_1).toNat)) = ji6 := fun h_ => (i64_w _).symm.trans (hji6z h_)
   have H' := Aside0.mk H
   clear H
   have p293 : 0 ≤ (x8_1 : Int) := oA
   have q293 : x8_1 < (l0.length : Int) := oA
   obtain ⟨ad293, e293, hx293_0⟩ := Kd.at_int HR0.out x8_1 p293 q293
   cases e293
   replace p293 := eq_true p293
   replace q293 := eq_true q293
   go_wp2
   go_roundg k1
   case measure => have := HK1.out;omega
   case rel => exact ⟨(Go.bits .or .i64 x3_1 (ji6)), (wrap64 (x8_1 + 1)), (by first | rfl | (simp;done) | (simp only [← hji6] <;> (first | rfl | simp)) | (simp [*];done)), (by first | rfl | (simp;done) | (simp [*];done)), H', ⟨by have := HK1.out;omega⟩, by repeat (first | exact Drawn0.refl _ | apply Drawn0.step)⟩


/-! ### impl_setOf: function 71 -/
def impl_setOf.l0 : Nat → Int → List Int → Int → Option (List Int)
 | 0, _, _, _ => none
 | k + 1, x0, x3, x4 => if 0 ≤ x4 then (if (shr .i64 x0 x4) = 0 then (some x3) else (if (Go.bits .and .i64 (shr .i64 x0 x4) 1) = 1 then (if x3.length < 17592186044416 then (impl_setOf.l0 k x0 (x3 ++ [x4]) (wrap64 (x4 + 1))) else (none)) else (impl_setOf.l0 k x0 x3 (wrap64 (x4 + 1))))) else (none)
def impl_setOf.f (k : Nat) (a0 : Int) : Option (List Int) := impl_setOf.l0 k a0 ([] : List Int) 0
theorem impl_setOf.mono_l : ∀ k, (∀ y0 y1 y2, LeO (impl_setOf.l0 k y0 y1 y2) (impl_setOf.l0 (k + 1) y0 y1 y2))
 | 0 => fun _ _ _ r h => by simp [impl_setOf.l0] at h
 | k + 1 => by
  have ih0 := impl_setOf.mono_l k
  ·intro y0 y1 y2
   unfold impl_setOf.l0
   repeat' first
   | (with_reducible exact ih0 _ _ _)
   | (with_reducible exact LeO.refl _)
   | (with_reducible exact LeO.none _)
   | (with_reducible refine LeO.ite ?_ ?_)
   | (with_reducible refine LeO.bind ?_ (fun _ => ?_))
   | exact LeO.none _
   | refine LeO.ite ?_ ?_
   | refine LeO.bind ?_ (fun _ => ?_)
theorem impl_setOf.mono : ∀ a0 k, LeO (impl_setOf.f k a0) (impl_setOf.f (k + 1) a0) := by
 intro a0 k
 have ih0 := impl_setOf.mono_l k
 unfold impl_setOf.f
 repeat' first
   | (with_reducible exact ih0 _ _ _)
   | (with_reducible exact LeO.refl _)
   | (with_reducible exact LeO.none _)
   | (with_reducible refine LeO.ite ?_ ?_)
   | (with_reducible refine LeO.bind ?_ (fun _ => ?_))
   | exact LeO.none _
   | refine LeO.ite ?_ ?_
   | refine LeO.bind ?_ (fun _ => ?_)
set_option maxHeartbeats 8000000 in
set_option maxRecDepth 100000 in
theorem impl_setOf.calls (k : Nat) (a0 : Int) (r : List Int) (w : World) (h : impl_setOf.f k a0 = some r) :
  Calls Try.prog 71 #[.int .i64 a0] w fun e w' => ∃ v0_ : Value, e = .returned (v0_) ∧ Kd.R (Kd.int .i64) 3 w' w.heap.size (fun _ => True) v0_ r ∧ Below w.heap.size w w' := by
 have HB := aM (Below.refl w.heap.size w)
 have H : (impl_setOf.l0 k a0 ([] : List Int) 0) = some r := h
 clear h
 have H' := Aside0.mk H
 clear H
 go_enter Try.func71, Try.ntmps71
 go_wp2
 go_loopg [3, 4] k (fun kq v3 v4 w' => ∃ (x3_1 : List Int) (x4_1 : Int), v4 = .int .i64 x4_1 ∧ Aside0 (impl_setOf.l0 kq a0 x3_1 x4_1 = some r) ∧ Aside0 (kq ≤ k) ∧ Aside0 (Kd.R (Kd.int .i64) 3 w' w.heap.size (fun _ => True) v3 x3_1) ∧ Aside0 (Below w.heap.size w w'))
 case atStart => exact ⟨(([] : List Int)), (0), (by first | rfl | (simp;done) | (simp [*];done)), H', ⟨Nat.le_refl _⟩, ⟨by first | exact Kd.R_nil _ _ _ _ _ | exact Kd.N_nil _ _ _ _ _ | exact Kd.V_nil _ _ _ _ _ | exact Kd.Q_nil _ _ _ _ _ | exact Kd.S_nil _ _ _ _ _⟩, ⟨by exact bB⟩⟩
 case round =>
  clear H'
  obtain ⟨x3_1, x4_1, rfl, HA, HK1, HO_3, HB⟩ := hrel
  cases gk with
  | zero => exact absurd HA.out (by simp [impl_setOf.l0])
  | succ k1 =>
   have H := HA.out
   clear HA
   simp only [impl_setOf.l0] at H
   by_cases c2 : 0 ≤ x4_1
   rotate_left
   ·rw [if_neg c2] at H
    exact absurd H (by simp)
   rw [if_pos c2] at H
   have c2b0 := eq_true c2
   have c2b1 : decide (0 ≤ x4_1) = true := decide_eq_true c2
   clear c2
   obtain ⟨ji3, hji3⟩ : ∃ j_ : Int, (shr .i64 a0 x4_1) = j_ := ⟨_, rfl⟩
   replace H : (if (ji3) = 0 then (some x3_1) else (if (Go.bits .and .i64 (ji3) 1) = 1 then (if x3_1.length < 17592186044416 then (impl_setOf.l0 k1 a0 (x3_1 ++ [x4_1]) (wrap64 (x4_1 + 1))) else (none)) else (impl_setOf.l0 k1 a0 x3_1 (wrap64 (x4_1 + 1))))) = some r := by first | (rw [hji3] at H;exact H) | (simp only [hji3] at H ⊢;exact H)
   have hji3_ : (a0 / 2 ^ min x4_1.toNat 64) = ji3 := hji3
   have hji3z : x4_1 ≤ 64 → (a0 / 2 ^ x4_1.toNat) = ji3 := shr_small hji3
   by_cases c4 : (ji3) = 0
   ·rw [if_pos c4] at H
    have c4b0 : ((ji3) == 0) = true := beq_iff_eq.mpr c4
    have c4b1 : ((ji3) != 0) = false := bne_eq_false_iff_eq.mpr c4
    clear c4
    obtain rfl := Option.some.inj H
    go_wp2
    go_ret
    exact ⟨_, by first | rfl | (simp [errW_none, errW_some] <;> rfl) | (simp only [← hji3];first | rfl | (simp [errW_none, errW_some] <;> rfl)) | (simp [*, errW_none, errW_some] <;> rfl), by exact rP HO_3.out, by exact bB⟩
   rw [if_neg c4] at H
   have c4b0 : ((ji3) == 0) = false := beq_eq_false_iff_ne.mpr c4
   have c4b1 : ((ji3) != 0) = true := bne_iff_ne.mpr c4
   have c5b0 := eq_true (oA : 0 ≤ x4_1)
   by_cases c7 : (Go.bits .and .i64 (ji3) 1) = 1
   rotate_left
   ·rw [if_neg c7] at H
    have c7b0 : ((Go.bits .and .i64 (ji3) 1) == 1) = false := beq_eq_false_iff_ne.mpr c7
    have c7b1 : ((Go.bits .and .i64 (ji3) 1) != 1) = true := bne_iff_ne.mpr c7
    have H' := Aside0.mk H
    clear H
    go_wp2
    go_roundg k1
    case measure => have := HK1.out;omega
    case rel => exact ⟨(x3_1), (wrap64 (x4_1 + 1)), (by first | rfl | (simp;done) | (simp [*];done)), H', ⟨by have := HK1.out;omega⟩, ⟨by exact rP HO_3.out⟩, ⟨by exact bB⟩⟩
   rw [if_pos c7] at H
   have c7b0 : ((Go.bits .and .i64 (ji3) 1) == 1) = true := beq_iff_eq.mpr c7
   have c7b1 : ((Go.bits .and .i64 (ji3) 1) != 1) = false := bne_eq_false_iff_eq.mpr c7
   clear c7
   by_cases c8 : x3_1.length < 17592186044416
   rotate_left
   ·rw [if_neg c8] at H
    exact absurd H (by simp)
   rw [if_pos c8] at H
   have LMc8 := Aside0.mk c8
   clear c8
   obtain ⟨y322, hy322⟩ : ∃ y_ : List Int, y_ = (x3_1 ++ [x4_1]) := ⟨_, rfl⟩
   replace H : (impl_setOf.l0 k1 a0 y322 (wrap64 (x4_1 + 1))) = some r := by first | (rw [hy322];with_reducible exact H) | (have H2_ := (Option.bind_some _ _).symm.trans H;rw [hy322];with_reducible exact H2_) | (have H2_ := (Option.bind_some _ _).symm.trans H;with_reducible exact H2_) | with_reducible exact H | (rw [hy322];exact H) | exact H
   have Ny322 := Aside0.mk hy322
   clear hy322
   have H' := Aside0.mk H
   clear H
   go_wp2_with (first | ((with_reducible refine gate_builtin (b := .append) (xs := #[.tmp 16, .tmp 18]) rfl ?_);at_builtin;refine Kd.R_append (Kd.int .i64) (w0 := w) w.heap.size rfl (.tmp 16) (.tmp 18) 28 3 (.int .i64 0) 8 rfl Try.underlying28 info3 rfl (by decide) (by omega) u3 x3_1 x4_1 [.int .i64 x4_1] (fun _ => True) (fun _ => False) rfl rfl ?aP (fun _ hk => hk.elim) ?aF ?aO ?aB ?aS ?aL ?_;(case aP => exact rfl);(case aB => exact (by exact bB));(case aF => exact (fun _ _ => trivial));(case aO => exact (by exact rP HO_3.out));(case aS => exact (below_size (by exact bB)));(case aL => have := LMc8.out;omega);intro v323 w9 ho hb hg hat;rw [← Ny322.out] at ho;have n0_ := aM (hb);have n1_ := aM (ho);clear HB;clear HO_3;have HB := n0_;have HO324 := n1_;clear n0_ n1_;clear ho hb hg hat))
   go_roundg k1
   case measure => have := HK1.out;omega
   case rel => exact ⟨(y322), (wrap64 (x4_1 + 1)), (by first | rfl | (simp;done) | (simp [*];done)), H', ⟨by have := HK1.out;omega⟩, ⟨by exact rP HO324.out⟩, ⟨by exact bB⟩⟩


/-! ### impl_net_all: function 73 -/
def impl_net_all.f (l0_0 : List Int) : Option (Int) := some (wrap64 ((shl .i64 1 (l0_0.length : Int)) - 1))
set_option maxHeartbeats 8000000 in
set_option maxRecDepth 100000 in
theorem impl_net_all.calls (A0_0 : Option Addr) (c0_0 : Nat) (l0_0 : List Int) (r : Int) (w : World) (hr0_0 : Kd.C (Kd.int .i64) w A0_0 l0_0.length l0_0) (hc0_0 : l0_0.length ≤ c0_0) (h : impl_net_all.f l0_0 = some r) :
  Calls Try.prog 73 #[.agg #[.slice A0_0 l0_0.length c0_0]] w fun e w' => e = .returned (.int .i64 r) ∧ Below w.heap.size w w' := by
 have hu80 := Try.underlying80
 have HR0_0 := Aside0.mk hr0_0
 have HC0_0 := Aside0.mk hc0_0
 clear hr0_0 hc0_0
 have HB := aM (Below.refl w.heap.size w)
 have H : (some (wrap64 ((shl .i64 1 (l0_0.length : Int)) - 1))) = some r := h
 clear h
 obtain ⟨ji2, hji2⟩ : ∃ j_ : Int, (shl .i64 1 (l0_0.length : Int)) = j_ := ⟨_, rfl⟩
 replace H : (some (wrap64 ((ji2) - 1))) = some r := by first | (rw [hji2] at H;exact H) | (simp only [hji2] at H ⊢;exact H)
 have hji2_ : (IntKind.i64.wrap (1 * 2 ^ min (l0_0.length : Int).toNat 64)) = ji2 := hji2
 have hji2z : (l0_0.length : Int) ≤ 64 → (IntKind.i64.wrap (1 * 2 ^ (l0_0.length : Int).toNat)) = ji2 := shl_small hji2
 have hji2p : (IntKind.i64.wrap (1 * 2 ^ min l0_0.length 64)) = ji2 := hji2_
 have hji2q : (l0_0.length : Int) ≤ 64 → (IntKind.i64.wrap (1 * 2 ^ l0_0.length)) = ji2 := hji2z
 have hji2r : (IntKind.i64.wrap (2 ^ min l0_0.length 64)) = ji2 := by have h_ := hji2p;rw [Int.one_mul] at h_;exact h_
 have hji2s : (l0_0.length : Int) ≤ 64 → (IntKind.i64.wrap (2 ^ l0_0.length)) = ji2 := fun hle_ => by have h_ := hji2q hle_;rw [Int.one_mul] at h_;exact h_
 have hji2u : (IntKind.i64.wrap (2 ^ min (l0_0.length : Int).toNat 64)) = ji2 := by have h_ := hji2_;rw [Int.one_mul] at h_;exact h_
 have hji2v : (l0_0.length : Int) ≤ 64 → (IntKind.i64.wrap (2 ^ (l0_0.length : Int).toNat)) = ji2 := fun hle_ => by have h_ := hji2z hle_;rw [Int.one_mul] at h_;exact h_
 have hji2y : (wrap64 (1 * 2 ^ min (l0_0.length : Int).toNat 64)) = ji2 := (i64_w _).symm.trans hji2_
 have hji2x : (l0_0.length : Int) ≤ 64 → (wrap64 (1 * 2 ^ (l0_0.length : Int).toNat)) = ji2 := fun h_ => (i64_w _).symm.trans (hji2z h_)
 obtain rfl := Option.some.inj H
 go_enter Try.func73, Try.ntmps73
 go_wp2_with (first | ((with_reducible refine gate_dst (N := 1) rfl ?_);refine box_event ?hg (N := 1) ?hd (cs := #[.slice A0_0 l0_0.length c0_0]) (t := 80) ?hr ?_;(case hd => rfl);(case hg => rfl);(case hr => first | (go_simp;done) | (go_simp;rfl));intro gb325 hg w3 hbox hb;have n0_ := aM (below_step (by exact bB) hb);have n1_ := aM (hbox);have n2_ := aM (sW hg : w.heap.size ≤ gb325);have n3_ := aM (sW hg : w.heap.size ≤ gb325);clear HB;have HB := n0_;have BK325 := n1_;have GW325 := n2_;have GE325 := n3_;clear n0_ n1_ n2_ n3_;clear hb hbox hg;have hcz4_0 := bC0 BK325.out;have hfz4_0 := blk_frozen BK325.out 0))
 go_ret
 exact ⟨by first | rfl | (simp [errW_none, errW_some] <;> rfl) | (simp only [← hji2];first | rfl | (simp [errW_none, errW_some] <;> rfl)) | (simp [*, errW_none, errW_some] <;> rfl), by exact bB⟩


/-! ### spec_newCur: function 3 -/
def spec_newCur.f (l0 : List Int) : Option (List Int × Int × Int) := some (l0, 0, 0)

/-! ### spec_l1Least: function 126 -/
def spec_l1Least.f (a0 : Int) (a1 : Int) : Option (Int) := if a0 < a1 then (some a0) else (some a1)
set_option maxHeartbeats 8000000 in
set_option maxRecDepth 100000 in
theorem spec_l1Least.calls (a0 : Int) (a1 : Int) (r : Int) (w : World) (h : spec_l1Least.f a0 a1 = some r) :
  Calls Try.prog 126 #[.int .i64 a0, .int .i64 a1] w fun e w' => e = .returned (.int .i64 r) ∧ Drawn0 w w' := by
 have H : (if a0 < a1 then (some a0) else (some a1)) = some r := h
 clear h
 by_cases c3 : a0 < a1
 rotate_left
 ·rw [if_neg c3] at H
  have c3b0 : decide (a0 < a1) = false := decide_eq_false c3
  clear c3
  obtain rfl := Option.some.inj H
  go_enter Try.func126, Try.ntmps126
  go_wp2
  go_ret
  exact ⟨by first | rfl | (simp;done) | (simp [*];done), by repeat (first | exact Drawn0.refl _ | apply Drawn0.step)⟩
 rw [if_pos c3] at H
 have c3b0 : decide (a0 < a1) = true := decide_eq_true c3
 clear c3
 obtain rfl := Option.some.inj H
 go_enter Try.func126, Try.ntmps126
 go_wp2
 go_ret
 exact ⟨by first | rfl | (simp;done) | (simp [*];done), by repeat (first | exact Drawn0.refl _ | apply Drawn0.step)⟩


/-! ### spec_l1Cur_next: function 155 -/
def spec_l1Cur_next.f (s0_0 : List Int) (s0_1 : Int) (s0_2 : Int) : Option (Int × Int × Int) := if s0_1 < (s0_0.length : Int) then (if 0 ≤ s0_1 then (if (wrap64 (s0_1 + 1)) ≤ (s0_0.length : Int) then (some (wrap64 (rd s0_0 s0_1), wrap64 (s0_1 + 1), IntKind.u64.wrap ((IntKind.u64.wrap ((IntKind.u64.wrap (s0_2 * 6364136223846793005)) + (IntKind.u64.wrap (wrap64 (rd s0_0 s0_1))))) + 462197))) else (some (wrap64 (Go.bits .and .u64 ((IntKind.u64.wrap ((IntKind.u64.wrap ((IntKind.u64.wrap (s0_2 * 6364136223846793005)) + (IntKind.u64.wrap (wrap64 (rd s0_0 s0_1))))) + 462197)) / 1099511627776) 255), wrap64 (s0_1 + 1), IntKind.u64.wrap ((IntKind.u64.wrap ((IntKind.u64.wrap (s0_2 * 6364136223846793005)) + (IntKind.u64.wrap (wrap64 (rd s0_0 s0_1))))) + 462197)))) else (none)) else (if (wrap64 (s0_1 + 1)) ≤ (s0_0.length : Int) then (some (0, wrap64 (s0_1 + 1), IntKind.u64.wrap ((IntKind.u64.wrap ((IntKind.u64.wrap (s0_2 * 6364136223846793005)) + 0)) + 462197))) else (some (wrap64 (Go.bits .and .u64 ((IntKind.u64.wrap ((IntKind.u64.wrap ((IntKind.u64.wrap (s0_2 * 6364136223846793005)) + 0)) + 462197)) / 1099511627776) 255), wrap64 (s0_1 + 1), IntKind.u64.wrap ((IntKind.u64.wrap ((IntKind.u64.wrap (s0_2 * 6364136223846793005)) + 0)) + 462197))))
set_option maxHeartbeats 8000000 in
set_option maxRecDepth 100000 in
theorem spec_l1Cur_next.calls (g : Nat) (s0_0 : List Int) (s0_1 : Int) (s0_2 : Int) (r1 : Int) (r2 : Int) (r3 : Int) (w0 w : World) (hI : IsS91 w0 w g s0_0 s0_1 s0_2) (hB : Below w0.heap.size w0 w) (h : spec_l1Cur_next.f s0_0 s0_1 s0_2 = some (r1, r2, r3)) :
  Calls Try.prog 155 #[.pointer (some ⟨g, 0, none⟩)] w fun e w' => e = .returned (.int .i64 r1) ∧ IsS91 w0 w' g s0_0 r2 r3 ∧ Below w0.heap.size w0 w' ∧ KeepBut w w' g none := by
 have HI0 := Aside0.mk hI
 have HK := aM (KeepBut.refl w g none)
 have HL := Aside0.mk hB.size
 clear hI
 have HW0 := Aside0.mk hB.size
 have HB := Aside0.mk hB
 clear hB
 have H : (if s0_1 < (s0_0.length : Int) then (if 0 ≤ s0_1 then (if (wrap64 (s0_1 + 1)) ≤ (s0_0.length : Int) then (some (wrap64 (rd s0_0 s0_1), wrap64 (s0_1 + 1), IntKind.u64.wrap ((IntKind.u64.wrap ((IntKind.u64.wrap (s0_2 * 6364136223846793005)) + (IntKind.u64.wrap (wrap64 (rd s0_0 s0_1))))) + 462197))) else (some (wrap64 (Go.bits .and .u64 ((IntKind.u64.wrap ((IntKind.u64.wrap ((IntKind.u64.wrap (s0_2 * 6364136223846793005)) + (IntKind.u64.wrap (wrap64 (rd s0_0 s0_1))))) + 462197)) / 1099511627776) 255), wrap64 (s0_1 + 1), IntKind.u64.wrap ((IntKind.u64.wrap ((IntKind.u64.wrap (s0_2 * 6364136223846793005)) + (IntKind.u64.wrap (wrap64 (rd s0_0 s0_1))))) + 462197)))) else (none)) else (if (wrap64 (s0_1 + 1)) ≤ (s0_0.length : Int) then (some (0, wrap64 (s0_1 + 1), IntKind.u64.wrap ((IntKind.u64.wrap ((IntKind.u64.wrap (s0_2 * 6364136223846793005)) + 0)) + 462197))) else (some (wrap64 (Go.bits .and .u64 ((IntKind.u64.wrap ((IntKind.u64.wrap ((IntKind.u64.wrap (s0_2 * 6364136223846793005)) + 0)) + 462197)) / 1099511627776) 255), wrap64 (s0_1 + 1), IntKind.u64.wrap ((IntKind.u64.wrap ((IntKind.u64.wrap (s0_2 * 6364136223846793005)) + 0)) + 462197))))) = some (r1, r2, r3) := h
 clear h
 by_cases c2 : s0_1 < (s0_0.length : Int)
 rotate_left
 ·rw [if_neg c2] at H
  have c2b0 : decide (s0_1 < (s0_0.length : Int)) = false := decide_eq_false c2
  clear c2
  by_cases c7 : (wrap64 (s0_1 + 1)) ≤ (s0_0.length : Int)
  rotate_left
  ·rw [if_neg c7] at H
   have c7b0 : decide ((wrap64 (s0_1 + 1)) ≤ (s0_0.length : Int)) = false := decide_eq_false c7
   clear c7
   simp only [Option.some.injEq, Prod.mk.injEq] at H
   obtain ⟨rfl, rfl, rfl⟩ := H
   obtain ⟨ASz9_0, cSz9_0, HGz9, hgz9, HSz9_0⟩ := HI0.out
   have hcz9_0 := cellS91_0 HGz9
   have hcz9_1 := cellS91_1 HGz9
   have hcz9_2 := cellS91_2 HGz9
   have hfz9_1 := blk_frozen HGz9 1
   have hfz9_2 := blk_frozen HGz9 2
   clear HGz9 hgz9
   go_enter Try.func155, Try.ntmps155
   go_wp2
   repeat (go_quiet (fail);try go_wp2)
   go_ret
   exact ⟨by first | rfl | (simp [errW_none, errW_some] <;> rfl) | (simp [*, errW_none, errW_some] <;> rfl), by (try simp only [Int.add_zero]);exact sS, by exact bB, by exact kK⟩
  rw [if_pos c7] at H
  have c7b0 : decide ((wrap64 (s0_1 + 1)) ≤ (s0_0.length : Int)) = true := decide_eq_true c7
  clear c7
  simp only [Option.some.injEq, Prod.mk.injEq] at H
  obtain ⟨rfl, rfl, rfl⟩ := H
  obtain ⟨ASz8_0, cSz8_0, HGz8, hgz8, HSz8_0⟩ := HI0.out
  have hcz8_0 := cellS91_0 HGz8
  have hcz8_1 := cellS91_1 HGz8
  have hcz8_2 := cellS91_2 HGz8
  have hfz8_1 := blk_frozen HGz8 1
  have hfz8_2 := blk_frozen HGz8 2
  clear HGz8 hgz8
  go_enter Try.func155, Try.ntmps155
  go_wp2
  repeat (go_quiet (fail);try go_wp2)
  go_ret
  exact ⟨by first | rfl | (simp [errW_none, errW_some] <;> rfl) | (simp [*, errW_none, errW_some] <;> rfl), by (try simp only [Int.add_zero]);exact sS, by exact bB, by exact kK⟩
 rw [if_pos c2] at H
 have c2b0 : decide (s0_1 < (s0_0.length : Int)) = true := decide_eq_true c2
 clear c2
 by_cases c3 : 0 ≤ s0_1
 rotate_left
 ·rw [if_neg c3] at H
  exact absurd H (by simp)
 rw [if_pos c3] at H
 have c3b0 : decide (0 ≤ s0_1) = true := decide_eq_true c3
 clear c3
 by_cases c4 : (wrap64 (s0_1 + 1)) ≤ (s0_0.length : Int)
 rotate_left
 ·rw [if_neg c4] at H
  have c4b0 : decide ((wrap64 (s0_1 + 1)) ≤ (s0_0.length : Int)) = false := decide_eq_false c4
  clear c4
  simp only [Option.some.injEq, Prod.mk.injEq] at H
  obtain ⟨rfl, rfl, rfl⟩ := H
  obtain ⟨ASz6_0, cSz6_0, HGz6, hgz6, HSz6_0⟩ := HI0.out
  have hcz6_0 := cellS91_0 HGz6
  have hcz6_1 := cellS91_1 HGz6
  have hcz6_2 := cellS91_2 HGz6
  have hfz6_1 := blk_frozen HGz6 1
  have hfz6_2 := blk_frozen HGz6 2
  clear HGz6 hgz6
  have p366 : 0 ≤ (s0_1 : Int) := oA
  have q366 : s0_1 < (s0_0.length : Int) := oA
  obtain ⟨ad366, e366, hx366_0⟩ := Kd.at_int HSz6_0 s0_1 p366 q366
  cases e366
  replace hx366_0 := pw_cell_below HB.out hx366_0
  replace p366 := eq_true p366
  replace q366 := eq_true q366
  go_enter Try.func155, Try.ntmps155
  go_wp2
  repeat (go_quiet (fail);try go_wp2)
  go_ret
  exact ⟨by first | rfl | (simp [errW_none, errW_some] <;> rfl) | (simp [*, errW_none, errW_some] <;> rfl), by (try simp only [Int.add_zero]);exact sS, by exact bB, by exact kK⟩
 rw [if_pos c4] at H
 have c4b0 : decide ((wrap64 (s0_1 + 1)) ≤ (s0_0.length : Int)) = true := decide_eq_true c4
 clear c4
 simp only [Option.some.injEq, Prod.mk.injEq] at H
 obtain ⟨rfl, rfl, rfl⟩ := H
 obtain ⟨ASz5_0, cSz5_0, HGz5, hgz5, HSz5_0⟩ := HI0.out
 have hcz5_0 := cellS91_0 HGz5
 have hcz5_1 := cellS91_1 HGz5
 have hcz5_2 := cellS91_2 HGz5
 have hfz5_1 := blk_frozen HGz5 1
 have hfz5_2 := blk_frozen HGz5 2
 clear HGz5 hgz5
 have p366 : 0 ≤ (s0_1 : Int) := oA
 have q366 : s0_1 < (s0_0.length : Int) := oA
 obtain ⟨ad366, e366, hx366_0⟩ := Kd.at_int HSz5_0 s0_1 p366 q366
 cases e366
 replace hx366_0 := pw_cell_below HB.out hx366_0
 replace p366 := eq_true p366
 replace q366 := eq_true q366
 go_enter Try.func155, Try.ntmps155
 go_wp2
 repeat (go_quiet (fail);try go_wp2)
 go_ret
 exact ⟨by first | rfl | (simp [errW_none, errW_some] <;> rfl) | (simp [*, errW_none, errW_some] <;> rfl), by (try simp only [Int.add_zero]);exact sS, by exact bB, by exact kK⟩


/-! ### spec_l1Cur_pick: function 131 -/
def spec_l1Cur_pick.f (s0_0 : List Int) (s0_1 : Int) (s0_2 : Int) (a1 : Int) : Option (Int × Int × Int) := if a1 ≤ 1 then (some (0, s0_1, s0_2)) else ((spec_l1Cur_next.f s0_0 s0_1 s0_2).bind fun bt367 => (if a1 > 200 then ((spec_l1Cur_next.f s0_0 bt367.2.1 bt367.2.2).bind fun bt370 => (if a1 = 0 then (none) else (some (Int.tmod (wrap64 ((wrap64 (bt367.1 * 256)) + bt370.1)) a1, bt370.2.1, bt370.2.2)))) else (if a1 = 0 then (none) else (some (Int.tmod bt367.1 a1, bt367.2.1, bt367.2.2)))))
set_option maxHeartbeats 8000000 in
set_option maxRecDepth 100000 in
theorem spec_l1Cur_pick.calls (g : Nat) (s0_0 : List Int) (s0_1 : Int) (s0_2 : Int) (a1 : Int) (r1 : Int) (r2 : Int) (r3 : Int) (w0 w : World) (hI : IsS91 w0 w g s0_0 s0_1 s0_2) (hB : Below w0.heap.size w0 w) (h : spec_l1Cur_pick.f s0_0 s0_1 s0_2 a1 = some (r1, r2, r3)) :
  Calls Try.prog 131 #[.pointer (some ⟨g, 0, none⟩), .int .i64 a1] w fun e w' => e = .returned (.int .i64 r1) ∧ IsS91 w0 w' g s0_0 r2 r3 ∧ Below w0.heap.size w0 w' ∧ KeepBut w w' g none := by
 have HI0 := Aside0.mk hI
 have HK := aM (KeepBut.refl w g none)
 have HL := Aside0.mk hB.size
 clear hI
 have HW0 := Aside0.mk hB.size
 have HB := Aside0.mk hB
 clear hB
 have H : (if a1 ≤ 1 then (some (0, s0_1, s0_2)) else ((spec_l1Cur_next.f s0_0 s0_1 s0_2).bind fun bt367 => (if a1 > 200 then ((spec_l1Cur_next.f s0_0 bt367.2.1 bt367.2.2).bind fun bt370 => (if a1 = 0 then (none) else (some (Int.tmod (wrap64 ((wrap64 (bt367.1 * 256)) + bt370.1)) a1, bt370.2.1, bt370.2.2)))) else (if a1 = 0 then (none) else (some (Int.tmod bt367.1 a1, bt367.2.1, bt367.2.2)))))) = some (r1, r2, r3) := h
 clear h
 by_cases c3 : a1 ≤ 1
 ·rw [if_pos c3] at H
  have c3b0 : decide (a1 ≤ 1) = true := decide_eq_true c3
  clear c3
  simp only [Option.some.injEq, Prod.mk.injEq] at H
  obtain ⟨rfl, rfl, rfl⟩ := H
  go_enter Try.func131, Try.ntmps131
  go_wp2
  go_ret
  exact ⟨by first | rfl | (simp [errW_none, errW_some] <;> rfl) | (simp [*, errW_none, errW_some] <;> rfl), by exact sS, by exact bB, by exact kK⟩
 rw [if_neg c3] at H
 have c3b0 : decide (a1 ≤ 1) = false := decide_eq_false c3
 clear c3
 replace H := Option.bind_eq_some_iff.mp H
 obtain ⟨⟨t367, t368, t369⟩, A40, H⟩ := H
 replace H : (if a1 > 200 then ((spec_l1Cur_next.f s0_0 t368 t369).bind fun bt370 => (if a1 = 0 then (none) else (some (Int.tmod (wrap64 ((wrap64 (t367 * 256)) + bt370.1)) a1, bt370.2.1, bt370.2.2)))) else (if a1 = 0 then (none) else (some (Int.tmod t367 a1, t368, t369)))) = some (r1, r2, r3) := H
 have A4 := Aside0.mk A40
 clear A40
 by_cases c5 : a1 > 200
 rotate_left
 ·rw [if_neg c5] at H
  have c5b0 : decide (200 < a1) = false := decide_eq_false c5
  clear c5
  by_cases c10 : a1 = 0
  ·rw [if_pos c10] at H
   exact absurd H (by simp)
  rw [if_neg c10] at H
  have c10b0 : (a1 == 0) = false := beq_eq_false_iff_ne.mpr c10
  have c10b1 : (a1 != 0) = true := bne_iff_ne.mpr c10
  simp only [Option.some.injEq, Prod.mk.injEq] at H
  obtain ⟨rfl, rfl, rfl⟩ := H
  go_enter Try.func131, Try.ntmps131
  go_wp2_with (first | ((with_reducible refine gate_callee (f := 155) rfl ?_);refine goesL_ (some 9) rfl rfl Try.func155 (by kernel_rfl) rfl #[.pointer (some ⟨g, 0, none⟩)] rfl mM ?_;(with_reducible refine (spec_l1Cur_next.calls g s0_0 s0_1 s0_2 t367 t368 t369 w0 _ ?side1 ?side2 A4.out).mono ?_);(case side1 => exact sS);(case side2 => exact bB);rintro e w11 ⟨rfl, hi, hb, hk⟩;refine ⟨_, rfl, ?_⟩;have n0_ := aM (KeepBut.trans (by exact kK) hk (.inl rfl));have n1_ := aM (hb);have n2_ := aM (hi);clear HK;clear HB;clear HI0;have HK := n0_;have HB := n1_;have HI0 := n2_;clear n0_ n1_ n2_;(try clear hb);(try clear hb2);(try clear hk);(try clear hi)))
  go_ret
  exact ⟨by first | rfl | (simp [errW_none, errW_some] <;> rfl) | (simp [*, errW_none, errW_some] <;> rfl), by exact sS, by exact bB, by exact kK⟩
 rw [if_pos c5] at H
 have c5b0 : decide (200 < a1) = true := decide_eq_true c5
 clear c5
 replace H := Option.bind_eq_some_iff.mp H
 obtain ⟨⟨t370, t371, t372⟩, A60, H⟩ := H
 replace H : (if a1 = 0 then (none) else (some (Int.tmod (wrap64 ((wrap64 (t367 * 256)) + t370)) a1, t371, t372))) = some (r1, r2, r3) := H
 have A6 := Aside0.mk A60
 clear A60
 by_cases c7 : a1 = 0
 ·rw [if_pos c7] at H
  exact absurd H (by simp)
 rw [if_neg c7] at H
 have c7b0 : (a1 == 0) = false := beq_eq_false_iff_ne.mpr c7
 have c7b1 : (a1 != 0) = true := bne_iff_ne.mpr c7
 simp only [Option.some.injEq, Prod.mk.injEq] at H
 obtain ⟨rfl, rfl, rfl⟩ := H
 go_enter Try.func131, Try.ntmps131
 go_wp2_with (first | ((with_reducible refine gate_callee (f := 155) rfl ?_);refine goesL_ (some 9) rfl rfl Try.func155 (by kernel_rfl) rfl #[.pointer (some ⟨g, 0, none⟩)] rfl mM ?_;(with_reducible refine (spec_l1Cur_next.calls g s0_0 s0_1 s0_2 t367 t368 t369 w0 _ ?side1 ?side2 A4.out).mono ?_);(case side1 => exact sS);(case side2 => exact bB);rintro e w8 ⟨rfl, hi, hb, hk⟩;refine ⟨_, rfl, ?_⟩;have n0_ := aM (KeepBut.trans (by exact kK) hk (.inl rfl));have n1_ := aM (hb);have n2_ := aM (hi);clear HK;clear HB;clear HI0;have HK := n0_;have HB := n1_;have HI0 := n2_;clear n0_ n1_ n2_;(try clear hb);(try clear hb2);(try clear hk);(try clear hi)) | ((with_reducible refine gate_callee (f := 155) rfl ?_);refine goesL_ (some 15) rfl rfl Try.func155 (by kernel_rfl) rfl #[.pointer (some ⟨g, 0, none⟩)] rfl mM ?_;(with_reducible refine (spec_l1Cur_next.calls g s0_0 t368 t369 t370 t371 t372 w0 _ ?side1 ?side2 A6.out).mono ?_);(case side1 => exact sS);(case side2 => exact bB);rintro e w9 ⟨rfl, hi, hb, hk⟩;refine ⟨_, rfl, ?_⟩;have n0_ := aM (KeepBut.trans (by exact kK) hk (.inl rfl));have n1_ := aM (hb);have n2_ := aM (hi);clear HK;clear HB;clear HI0;have HK := n0_;have HB := n1_;have HI0 := n2_;clear n0_ n1_ n2_;(try clear hb);(try clear hb2);(try clear hk);(try clear hi)))
 go_ret
 exact ⟨by first | rfl | (simp [errW_none, errW_some] <;> rfl) | (simp [*, errW_none, errW_some] <;> rfl), by exact sS, by exact bB, by exact kK⟩


/-! ### spec_l1Cur_among: function 129 -/
def spec_l1Cur_among.f (s0_0 : List Int) (s0_1 : Int) (s0_2 : Int) (l1 : List Int) : Option (Int × Int × Int) := (spec_l1Cur_pick.f s0_0 s0_1 s0_2 (l1.length : Int)).bind fun bt373 => (if 0 ≤ bt373.1 then (if bt373.1 < (l1.length : Int) then (some (rd l1 bt373.1, bt373.2.1, bt373.2.2)) else (none)) else (none))
set_option maxHeartbeats 8000000 in
set_option maxRecDepth 100000 in
theorem spec_l1Cur_among.calls (g : Nat) (s0_0 : List Int) (s0_1 : Int) (s0_2 : Int) (A1 : Option Addr) (c1 : Nat) (l1 : List Int) (r1 : Int) (r2 : Int) (r3 : Int) (w0 w : World) (hI : IsS91 w0 w g s0_0 s0_1 s0_2) (hB : Below w0.heap.size w0 w) (hr1 : Kd.C (Kd.int .i64) w A1 l1.length l1) (hc1 : l1.length ≤ c1) (hf1 : ∀ ad, A1 = some ad → 0 < l1.length → ad.block ≠ g) (h : spec_l1Cur_among.f s0_0 s0_1 s0_2 l1 = some (r1, r2, r3)) :
  Calls Try.prog 129 #[.pointer (some ⟨g, 0, none⟩), .slice A1 l1.length c1] w fun e w' => e = .returned (.int .i64 r1) ∧ IsS91 w0 w' g s0_0 r2 r3 ∧ Below w0.heap.size w0 w' ∧ KeepBut w w' g none := by
 have HR1 := Aside0.mk hr1
 have HC1 := Aside0.mk hc1
 clear hr1 hc1
 have HI0 := Aside0.mk hI
 have HK := aM (KeepBut.refl w g none)
 have HL := Aside0.mk hB.size
 clear hI
 have HW0 := Aside0.mk hB.size
 have HB := Aside0.mk hB
 clear hB
 have H : ((spec_l1Cur_pick.f s0_0 s0_1 s0_2 (l1.length : Int)).bind fun bt373 => (if 0 ≤ bt373.1 then (if bt373.1 < (l1.length : Int) then (some (rd l1 bt373.1, bt373.2.1, bt373.2.2)) else (none)) else (none))) = some (r1, r2, r3) := h
 clear h
 replace H := Option.bind_eq_some_iff.mp H
 obtain ⟨⟨t373, t374, t375⟩, A30, H⟩ := H
 replace H : (if 0 ≤ t373 then (if t373 < (l1.length : Int) then (some (rd l1 t373, t374, t375)) else (none)) else (none)) = some (r1, r2, r3) := H
 have A3 := Aside0.mk A30
 clear A30
 by_cases c4 : 0 ≤ t373
 rotate_left
 ·rw [if_neg c4] at H
  exact absurd H (by simp)
 rw [if_pos c4] at H
 have c4b0 : decide (0 ≤ t373) = true := decide_eq_true c4
 clear c4
 by_cases c5 : t373 < (l1.length : Int)
 rotate_left
 ·rw [if_neg c5] at H
  exact absurd H (by simp)
 rw [if_pos c5] at H
 have c5b0 : decide (t373 < (l1.length : Int)) = true := decide_eq_true c5
 clear c5
 simp only [Option.some.injEq, Prod.mk.injEq] at H
 obtain ⟨rfl, rfl, rfl⟩ := H
 go_enter Try.func129, Try.ntmps129
 go_wp2_with (first | ((with_reducible refine gate_callee (f := 131) rfl ?_);refine goesL_ (some 9) rfl rfl Try.func131 (by kernel_rfl) rfl #[.pointer (some ⟨g, 0, none⟩), .int .i64 (l1.length : Int)] rfl mM ?_;(with_reducible refine (spec_l1Cur_pick.calls g s0_0 s0_1 s0_2 (l1.length : Int) t373 t374 t375 w0 _ ?side1 ?side2 A3.out).mono ?_);(case side1 => exact sS);(case side2 => exact bB);rintro e w6 ⟨rfl, hi, hb, hk⟩;refine ⟨_, rfl, ?_⟩;have n0_ := aM (KeepBut.trans (by exact kK) hk (.inl rfl));have n1_ := aM (hb);have n2_ := aM (hi);clear HK;clear HB;clear HI0;have HK := n0_;have HB := n1_;have HI0 := n2_;clear n0_ n1_ n2_;(try clear hb);(try clear hb2);(try clear hk);(try clear hi);have p376 : 0 ≤ (t373 : Int) := oA;have q376 : t373 < (l1.length : Int) := oA;obtain ⟨ad376, e376, hx376_0⟩ := Kd.at_int HR1.out t373 p376 q376;cases e376;replace hx376_0 := keep_cell HK.out hx376_0 (by first | (rw [add_block];exact hf1 _ rfl (by omega)) | exact hf1 _ rfl (by omega) | exact hf1 ad376 rfl (by omega));replace p376 := eq_true p376;replace q376 := eq_true q376))
 go_ret
 exact ⟨by first | rfl | (simp [errW_none, errW_some] <;> rfl) | (simp [*, errW_none, errW_some] <;> rfl), by exact sS, by exact bB, by exact kK⟩


/-! ### spec_l1Cur_one: function 130 -/
def spec_l1Cur_one.f (s0_0 : List Int) (s0_1 : Int) (s0_2 : Int) (a1 : Int) : Option (Bool × Int × Int) := (spec_l1Cur_pick.f s0_0 s0_1 s0_2 a1).bind fun bt377 => (some ((bt377.1 == 0), bt377.2.1, bt377.2.2))
set_option maxHeartbeats 8000000 in
set_option maxRecDepth 100000 in
theorem spec_l1Cur_one.calls (g : Nat) (s0_0 : List Int) (s0_1 : Int) (s0_2 : Int) (a1 : Int) (r1 : Bool) (r2 : Int) (r3 : Int) (w0 w : World) (hI : IsS91 w0 w g s0_0 s0_1 s0_2) (hB : Below w0.heap.size w0 w) (h : spec_l1Cur_one.f s0_0 s0_1 s0_2 a1 = some (r1, r2, r3)) :
  Calls Try.prog 130 #[.pointer (some ⟨g, 0, none⟩), .int .i64 a1] w fun e w' => e = .returned (.bool r1) ∧ IsS91 w0 w' g s0_0 r2 r3 ∧ Below w0.heap.size w0 w' ∧ KeepBut w w' g none := by
 have HI0 := Aside0.mk hI
 have HK := aM (KeepBut.refl w g none)
 have HL := Aside0.mk hB.size
 clear hI
 have HW0 := Aside0.mk hB.size
 have HB := Aside0.mk hB
 clear hB
 have H : ((spec_l1Cur_pick.f s0_0 s0_1 s0_2 a1).bind fun bt377 => (some ((bt377.1 == 0), bt377.2.1, bt377.2.2))) = some (r1, r2, r3) := h
 clear h
 replace H := Option.bind_eq_some_iff.mp H
 obtain ⟨⟨t377, t378, t379⟩, A30, H⟩ := H
 replace H : (some ((t377 == 0), t378, t379)) = some (r1, r2, r3) := H
 have A3 := Aside0.mk A30
 clear A30
 simp only [Option.some.injEq, Prod.mk.injEq] at H
 obtain ⟨rfl, rfl, rfl⟩ := H
 go_enter Try.func130, Try.ntmps130
 go_wp2_with (first | ((with_reducible refine gate_callee (f := 131) rfl ?_);refine goesL_ (some 7) rfl rfl Try.func131 (by kernel_rfl) rfl #[.pointer (some ⟨g, 0, none⟩), .int .i64 a1] rfl mM ?_;(with_reducible refine (spec_l1Cur_pick.calls g s0_0 s0_1 s0_2 a1 t377 t378 t379 w0 _ ?side1 ?side2 A3.out).mono ?_);(case side1 => exact sS);(case side2 => exact bB);rintro e w4 ⟨rfl, hi, hb, hk⟩;refine ⟨_, rfl, ?_⟩;have n0_ := aM (KeepBut.trans (by exact kK) hk (.inl rfl));have n1_ := aM (hb);have n2_ := aM (hi);clear HK;clear HB;clear HI0;have HK := n0_;have HB := n1_;have HI0 := n2_;clear n0_ n1_ n2_;(try clear hb);(try clear hb2);(try clear hk);(try clear hi)))
 go_ret
 exact ⟨by first | rfl | (simp [errW_none, errW_some] <;> rfl) | (simp [*, errW_none, errW_some] <;> rfl), by exact sS, by exact bB, by exact kK⟩


/-! ### spec_l2Path: function 132 -/
def spec_l2Path.l0 : Nat → Int → Int → Int → List (S119) → Option (Int × (List (S119)))
 | 0, _, _, _, _ => none
 | k + 1, x0, x4, x385000, x385001 => if (wrap64 (x4 + 1)) < x0 then (if x385001.length < 8796093022208 then (spec_l2Path.l0 k x0 (wrap64 (x4 + 1)) x385000 (x385001 ++ [(⟨x4, wrap64 (x4 + 1)⟩ : S119)])) else (none)) else (some (x385000, x385001))
def spec_l2Path.f (k : Nat) (a0 : Int) : Option (Int × (List (S119))) := spec_l2Path.l0 k a0 0 a0 (([] : List (S119)))
theorem spec_l2Path.mono_l : ∀ k, (∀ y0 y1 y2 y3, LeO (spec_l2Path.l0 k y0 y1 y2 y3) (spec_l2Path.l0 (k + 1) y0 y1 y2 y3))
 | 0 => fun _ _ _ _ r h => by simp [spec_l2Path.l0] at h
 | k + 1 => by
  have ih0 := spec_l2Path.mono_l k
  ·intro y0 y1 y2 y3
   unfold spec_l2Path.l0
   repeat' first
   | (with_reducible exact ih0 _ _ _ _)
   | (with_reducible exact LeO.refl _)
   | (with_reducible exact LeO.none _)
   | (with_reducible refine LeO.ite ?_ ?_)
   | (with_reducible refine LeO.bind ?_ (fun _ => ?_))
   | exact LeO.none _
   | refine LeO.ite ?_ ?_
   | refine LeO.bind ?_ (fun _ => ?_)
theorem spec_l2Path.mono : ∀ a0 k, LeO (spec_l2Path.f k a0) (spec_l2Path.f (k + 1) a0) := by
 intro a0 k
 have ih0 := spec_l2Path.mono_l k
 unfold spec_l2Path.f
 repeat' first
   | (with_reducible exact ih0 _ _ _ _)
   | (with_reducible exact LeO.refl _)
   | (with_reducible exact LeO.none _)
   | (with_reducible refine LeO.ite ?_ ?_)
   | (with_reducible refine LeO.bind ?_ (fun _ => ?_))
   | exact LeO.none _
   | refine LeO.ite ?_ ?_
   | refine LeO.bind ?_ (fun _ => ?_)
set_option maxHeartbeats 8000000 in
set_option maxRecDepth 100000 in
theorem spec_l2Path.calls (k : Nat) (a0 : Int) (r1 : Int) (r2 : List (S119)) (w : World) (h : spec_l2Path.f k a0 = some (r1, r2)) :
  Calls Try.prog 132 #[.int .i64 a0] w fun e w' => ∃ v1_ : Value, e = .returned (.agg #[.int .i64 r1, v1_]) ∧ Kd.R k119 119 w' w.heap.size (fun _ => True) v1_ r2 ∧ Below w.heap.size w w' := by
 have hu31 := Try.underlying31
 have hu119 := Try.underlying119
 have HB := aM (Below.refl w.heap.size w)
 have H : (spec_l2Path.l0 k a0 0 a0 (([] : List (S119)))) = some (r1, r2) := h
 clear h
 obtain ⟨y381, hy381⟩ : ∃ y_ : List (S119), y_ = (([] : List (S119))) := ⟨_, rfl⟩
 replace H : (spec_l2Path.l0 k a0 0 a0 y381) = some (r1, r2) := by first | (rw [hy381];with_reducible exact H) | (have H2_ := (Option.bind_some _ _).symm.trans H;rw [hy381];with_reducible exact H2_) | (have H2_ := (Option.bind_some _ _).symm.trans H;with_reducible exact H2_) | with_reducible exact H | (rw [hy381];exact H) | exact H
 have Ny381 := Aside0.mk hy381
 clear hy381
 have H' := Aside0.mk H
 clear H
 go_enter Try.func132, Try.ntmps132
 go_wp2_with (first | ((with_reducible refine gate_dst (N := 2) rfl ?_);refine box_event ?hg (N := 2) ?hd (cs := #[.int .i64 0, .slice none 0 0]) (t := 31) ?hr ?_;(case hd => rfl);(case hg => rfl);(case hr => first | (go_simp;done) | (go_simp;rfl));intro gb380 hg w2 hbox hb;have n0_ := aM (below_step (by exact bB) hb);have n1_ := aM (hbox);have n2_ := aM (sW hg : w.heap.size ≤ gb380);have n3_ := aM (sW hg : w.heap.size ≤ gb380);clear HB;have HB := n0_;have BK380 := n1_;have GW380 := n2_;have GE380 := n3_;clear n0_ n1_ n2_ n3_;clear hb hbox hg) | ((with_reducible refine gate_dst (N := 6) rfl ?_);refine Kd.R_lit k119 _ 119 ?hg (N := 6) ?hd (xs := ([] : List (S119))) (inner := []) (ok := fun _ => True) (okp := fun _ => True) ?hr ?hp (fun _ hk => hk) trivial (Below.refl _ _) (Nat.le_refl _) (by simp) ?_;(case hd => rfl);(case hg => rfl);(case hr => first | (go_simp;done) | (go_simp;rfl));(case hp => exact (Reps.none _ _));intro v382 w3 ho4 hb hg_ hnew_;clear hg_ hnew_;(first | rw [← Ny381.out] at ho4 | (simp only [Int.reduceToNat] at ho4;rw [← Ny381.out] at ho4));have n0_ := aM (Kd.R_lower ho4 (below_size (by exact bB)));have n1_ := aM (kB hb BK380.out);have n2_ := aM (below_step (by exact bB) hb);clear BK380;clear HB;have HO383 := n0_;have BK380 := n1_;have HB := n2_;clear n0_ n1_ n2_;clear hb ho4;obtain ⟨Ao5, co5, eo5⟩ := Kd.R_slice HO383.out;subst eo5) | ((with_reducible refine gate_dst (N := 3) rfl ?_);refine box_event ?hg (N := 3) ?hd (cs := #[.int .i64 0, .slice none 0 0]) (t := 31) ?hr ?_;(case hd => rfl);(case hg => rfl);(case hr => first | (go_simp;done) | (go_simp;rfl));intro gb384 hg w6 hbox hb;have n0_ := aM (Kd.R_below (by exact rP HO383.out) hb);have n1_ := aM (kB hb BK380.out);have n2_ := aM (below_step (by exact bB) hb);have n3_ := aM (hbox);have n4_ := aM (sW hg : w.heap.size ≤ gb384);have n5_ := aM (sW hg : w.heap.size ≤ gb384);have n6_ := aM (nL hg (kP BK380.out));have n7_ := aM (nG hg (kP BK380.out));clear HO383;clear BK380;clear HB;have HO383 := n0_;have BK380 := n1_;have HB := n2_;have BK384 := n3_;have GW384 := n4_;have GE384 := n5_;have NB380_384 := n6_;have NB384_380 := n7_;clear n0_ n1_ n2_ n3_ n4_ n5_ n6_ n7_;clear hb hbox hg;have hnb7 := NB384_380.out;have hnc7 := NB380_384.out;have hcz8_0 := bC0 BK384.out;have hcz8_1 := bC1 BK384.out;have hfz8_0 := blk_frozen BK384.out 0;have hfz8_1 := blk_frozen BK384.out 1))
 go_loopg [4] k (fun kq v4 w' => ∃ (x4_1 : Int) (x385001_1 : List (S119)) (u385001 : Value), v4 = .int .i64 x4_1 ∧ Aside0 (spec_l2Path.l0 kq a0 x4_1 a0 x385001_1 = some (r1, r2)) ∧ Aside0 (kq ≤ k) ∧ Aside0 (Kd.R k119 119 w' w.heap.size (fun _ => True) u385001 x385001_1) ∧ Aside0 (w'.heap[gb380]? = some (.cells #[.int .i64 0, (.slice none 0 0)] 31 (0, 0))) ∧ Aside0 (w'.heap[gb384]? = some (.cells #[.int .i64 a0, u385001] 31 (0, 0))) ∧ Aside0 (Below w.heap.size w w'))
 case atStart => exact ⟨(0), (y381), (.slice Ao5 y381.length co5), (by first | rfl | (simp;done) | (simp [*];done)), H', ⟨Nat.le_refl _⟩, ⟨by refine rP ?_;exact Kd.R_mono (Kd.R_far (p := ⟨gb384, 1, none⟩) (Kd.R_far (p := ⟨gb384, 0, none⟩) (Kd.R_types HO383.out BK384.out (by decide)) (fun _ hk => hk.2) (.int .i64 a0)) (fun _ hk => hk.2) (.slice Ao5 y381.length co5)) (fun _ hk => trivial)⟩, ⟨by refine kP ?_;refine blk_far ?_ NB380_384.out _;refine kP ?_;refine blk_far ?_ NB380_384.out _;exact kP BK380.out⟩, ⟨by refine kP ?_;refine blk_put (cs := #[.int .i64 a0, .slice none 0 0]) ?_ 1 _ rfl;refine kP ?_;refine blk_put (cs := #[.int .i64 0, .slice none 0 0]) ?_ 0 _ rfl;exact kP BK384.out⟩, ⟨by exact bB⟩⟩
 case round =>
  clear H'
  try clear c1
  try clear p2
  try clear c7
  try clear hcz8_0
  try clear hcz8_1
  try clear hfz8_0
  try clear hfz8_1
  obtain ⟨x4_1, x385001_1, u385001, rfl, HA, HK1, HO_385001, BK380, BK384, HB⟩ := hrel
  cases gk with
  | zero => exact absurd HA.out (by simp [spec_l2Path.l0])
  | succ k1 =>
   have H := HA.out
   clear HA
   simp only [spec_l2Path.l0] at H
   by_cases c9 : (wrap64 (x4_1 + 1)) < a0
   rotate_left
   ·rw [if_neg c9] at H
    have c9b0 : decide ((wrap64 (x4_1 + 1)) < a0) = false := decide_eq_false c9
    clear c9
    simp only [Option.some.injEq, Prod.mk.injEq] at H
    obtain ⟨rfl, rfl⟩ := H
    have hnb16 := NB384_380.out
    have hnc16 := NB380_384.out
    have hcz17_0 := bC0 BK384.out
    have hcz17_1 := bC1 BK384.out
    have hfz17_0 := blk_frozen BK384.out 0
    have hfz17_1 := blk_frozen BK384.out 1
    have hcz18_0 := bC0 BK380.out
    have hcz18_1 := bC1 BK380.out
    have hfz18_0 := blk_frozen BK380.out 0
    have hfz18_1 := blk_frozen BK380.out 1
    obtain ⟨Ao19, co19, eo19⟩ := Kd.R_slice HO_385001.out
    subst eo19
    go_wp2
    refine bodyPost_ret (results_cell_row rfl _ _ gb380 31 #[.int .i64 a0, .slice Ao19 x385001_1.length co19] (0, 0) _ rfl (by refine kP ?_;refine blk_put (cs := #[.int .i64 a0, .slice none 0 0]) ?_ 1 _ rfl;refine kP ?_;refine blk_put (cs := #[.int .i64 0, .slice none 0 0]) ?_ 0 _ rfl;exact kP BK380.out) Try.underlying31 rfl (by kernel_rfl)) rfl ?_
    exact ⟨_, by first | rfl | (simp [errW_none, errW_some] <;> rfl) | (simp [*, errW_none, errW_some] <;> rfl), by refine rP ?_;exact Kd.R_mono (Kd.R_far (p := ⟨gb380, 1, none⟩) (Kd.R_far (p := ⟨gb380, 0, none⟩) (Kd.R_types HO_385001.out BK380.out (by decide)) (fun _ hk => hk.2) (.int .i64 a0)) (fun _ hk => hk.2) (.slice Ao19 x385001_1.length co19)) (fun _ hk => trivial), by exact bB⟩
   rw [if_pos c9] at H
   have c9b0 : decide ((wrap64 (x4_1 + 1)) < a0) = true := decide_eq_true c9
   clear c9
   by_cases c10 : x385001_1.length < 8796093022208
   rotate_left
   ·rw [if_neg c10] at H
    exact absurd H (by simp)
   rw [if_pos c10] at H
   have LMc10 := Aside0.mk c10
   clear c10
   obtain ⟨y385, hy385⟩ : ∃ y_ : List (S119), y_ = (x385001_1 ++ [(⟨x4_1, wrap64 (x4_1 + 1)⟩ : S119)]) := ⟨_, rfl⟩
   replace H : (spec_l2Path.l0 k1 a0 (wrap64 (x4_1 + 1)) a0 y385) = some (r1, r2) := by first | (rw [hy385];with_reducible exact H) | (have H2_ := (Option.bind_some _ _).symm.trans H;rw [hy385];with_reducible exact H2_) | (have H2_ := (Option.bind_some _ _).symm.trans H;with_reducible exact H2_) | with_reducible exact H | (rw [hy385];exact H) | exact H
   have Ny385 := Aside0.mk hy385
   clear hy385
   have H' := Aside0.mk H
   clear H
   have hnb11 := NB384_380.out
   have hnc11 := NB380_384.out
   have hcz12_0 := bC0 BK384.out
   have hcz12_1 := bC1 BK384.out
   have hfz12_0 := blk_frozen BK384.out 0
   have hfz12_1 := blk_frozen BK384.out 1
   go_wp2_with (first | ((with_reducible refine gate_builtin (b := .append) (xs := #[.tmp 15, .tmp 20]) rfl ?_);at_builtin;refine Kd.R_append k119 (w0 := w) w.heap.size rfl (.tmp 15) (.tmp 20) 22 119 (.agg #[(.int .i64 0), (.int .i64 0)]) 16 rfl Try.underlying22 info119 rfl (by decide) (by omega) u385001 x385001_1 (⟨x4_1, wrap64 (x4_1 + 1)⟩ : S119) [.int .i64 x4_1, .int .i64 (wrap64 (x4_1 + 1))] (fun _ => True) (fun _ => False) rfl rfl ?aP (fun _ hk => hk.elim) ?aF ?aO ?aB ?aS ?aL ?_;(case aP => exact k119_mkM _ _ _ (⟨x4_1, wrap64 (x4_1 + 1)⟩ : S119));(case aB => exact (by exact bB));(case aF => exact (fun _ _ => trivial));(case aO => exact (by exact rP HO_385001.out));(case aS => exact (below_size (by exact bB)));(case aL => have := LMc10.out;omega);intro v386 w13 ho hb hg hat;rw [← Ny385.out] at ho;have n0_ := aM (blk_grown (g := gb380) (o := .cells #[.int .i64 0, .slice none 0 0] 31 (0, 0)) (by exact kP BK380.out) hg (Kd.R_ne HO_385001.out BK380.out (by decide)));have n1_ := aM (blk_grown (g := gb384) (o := .cells #[.int .i64 a0, u385001] 31 (0, 0)) (by exact kP BK384.out) hg (Kd.R_ne HO_385001.out BK384.out (by decide)));have n2_ := aM (hb);have n3_ := aM (ho);clear BK380;clear BK384;clear HB;clear HO_385001;have BK380 := n0_;have BK384 := n1_;have HB := n2_;have HO387 := n3_;clear n0_ n1_ n2_ n3_;clear ho hb hg hat;obtain ⟨Ao14, co14, eo14⟩ := Kd.R_slice HO387.out;subst eo14;have hcz15_0 := bC0 BK384.out;have hcz15_1 := bC1 BK384.out;have hfz15_0 := blk_frozen BK384.out 0;have hfz15_1 := blk_frozen BK384.out 1))
   go_roundg k1
   case measure => have := HK1.out;omega
   case rel => exact ⟨(wrap64 (x4_1 + 1)), (y385), (.slice Ao14 y385.length co14), (by first | rfl | (simp;done) | (simp [*];done)), H', ⟨by have := HK1.out;omega⟩, ⟨by refine rP ?_;exact Kd.R_mono (Kd.R_far (p := ⟨gb384, 1, none⟩) (Kd.R_types HO387.out BK384.out (by decide)) (fun _ hk => hk.2) (.slice Ao14 y385.length co14)) (fun _ hk => trivial)⟩, ⟨by refine kP ?_;refine blk_far ?_ NB380_384.out _;exact kP BK380.out⟩, ⟨by refine kP ?_;refine blk_put (cs := #[.int .i64 a0, u385001]) ?_ 1 _ rfl;exact kP BK384.out⟩, ⟨by exact bB⟩⟩


end Go.Proofs.Ytmokkhfmbenleaa.QSpreading
