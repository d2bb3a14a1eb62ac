import Derived.Test.YtmokkhfmbenleaaQSavedNodes0
import Derived.Test.YtmokkhfmbenleaaQSavedNodes1
import Derived.Test.YtmokkhfmbenleaaQSavedNodes2
import Derived.Test.YtmokkhfmbenleaaQSavedNodes6
namespace Go.Proofs.Ytmokkhfmbenleaa.QSavedNodes
open Go.RowKit Go.Proofs.YtmokkhfmbenleaaW.PrintWords Go.Proofs.YtmokkhfmbenleaaW.PrintLast Go.Proofs.YtmokkhfmbenleaaW.PrintMore
attribute [local go_sem] max2_int min2_int max_two min_two max_three min_three max_four min_four   -- for this text's walks alone
set_option linter.unusedVariables false
set_option linter.unusedSimpArgs false
/-! ### spec_l8Plan: function 64 -/
mutual
def spec_l8Plan.l0 : Nat → Int → List (List Int) → Int → Int → List (S119) → List Int → List Int → Option (Bool)
 | 0, _, _, _, _, _, _, _ => none
 | k + 1, x2, x3, x10, x174000, x174001, x178000, x178001 => if x10 < (x3.length : Int) then (spec_l8Plan.j1 k x2 x3 x10 (decide (x10 < 8)) x174000 x174001 x178000 x178001) else (spec_l8Plan.j1 k x2 x3 x10 false x174000 x174001 x178000 x178001)
def spec_l8Plan.j1 : Nat → Int → List (List Int) → Int → Bool → Int → List (S119) → List Int → List Int → Option (Bool)
 | 0, _, _, _, _, _, _, _, _ => none
 | k + 1, x2, x3, x10, x21, x174000, x174001, x178000, x178001 => if x21 = true then (if 0 ≤ x10 then (if x10 < (x3.length : Int) then ((spec_l8Set.f k x174000 x174001 (rd_L2 x3 x10) x2).bind fun t179 => (if t179 = true then ((spec_l8Apart.f k x178000 x178001 (rd_L2 x3 x10)).bind fun t181 => (if t181 = true then ((spec_l8Round.f k x174000 x174001 x178000 x178001 (rd_L2 x3 x10)).bind fun bt183 => (spec_l8Plan.l0 k x2 x3 (wrap64 (x10 + 1)) x174000 x174001 bt183.1 bt183.2)) else (some false))) else (some false))) else (none)) else (none)) else (some (decide ((x3.length : Int) ≤ 8)))
end
def spec_l8Plan.f (k : Nat) (a0_0 : Int) (l0_1 : List (S119)) (a1 : Int) (a2 : Int) (l3 : List (List Int)) : Option (Bool) := spec_l8Plan.l0 k a2 l3 0 a0_0 l0_1 (([a1] : List Int)) ([] : List Int)
theorem spec_l8Plan.mono_l : ∀ k, (∀ y0 y1 y2 y3 y4 y5 y6, LeO (spec_l8Plan.l0 k y0 y1 y2 y3 y4 y5 y6) (spec_l8Plan.l0 (k + 1) y0 y1 y2 y3 y4 y5 y6)) ∧ (∀ y0 y1 y2 y3 y4 y5 y6 y7, LeO (spec_l8Plan.j1 k y0 y1 y2 y3 y4 y5 y6 y7) (spec_l8Plan.j1 (k + 1) y0 y1 y2 y3 y4 y5 y6 y7))
 | 0 => ⟨fun _ _ _ _ _ _ _ r h => by simp [spec_l8Plan.l0] at h, fun _ _ _ _ _ _ _ _ r h => by simp [spec_l8Plan.j1] at h⟩
 | k + 1 => by
  obtain ⟨ih0, ih1⟩ := spec_l8Plan.mono_l k
  refine ⟨?_, ?_⟩
  ·intro y0 y1 y2 y3 y4 y5 y6
   unfold spec_l8Plan.l0
   repeat' first
   | (with_reducible exact ih0 _ _ _ _ _ _ _)
   | (with_reducible exact ih1 _ _ _ _ _ _ _ _)
   | (with_reducible exact spec_l8Apart.mono _ _ _ _)
   | (with_reducible exact spec_l8Round.mono _ _ _ _ _ _)
   | (with_reducible exact spec_l8Set.mono _ _ _ _ _)
   | (with_reducible exact LeO.refl _)
   | (with_reducible exact LeO.none _)
   | (with_reducible refine LeO.ite ?_ ?_)
   | (with_reducible refine LeO.bind ?_ (fun _ => ?_))
   | exact ih0 _ _ _ _ _ _ _
   | exact ih1 _ _ _ _ _ _ _ _
   | exact spec_l8Apart.mono _ _ _ _
   | exact spec_l8Round.mono _ _ _ _ _ _
   | exact spec_l8Set.mono _ _ _ _ _
   | exact LeO.none _
   | refine LeO.ite ?_ ?_
   | refine LeO.bind ?_ (fun _ => ?_)
  ·intro y0 y1 y2 y3 y4 y5 y6 y7
   unfold spec_l8Plan.j1
   repeat' first
   | (with_reducible exact ih0 _ _ _ _ _ _ _)
   | (with_reducible exact ih1 _ _ _ _ _ _ _ _)
   | (with_reducible exact spec_l8Apart.mono _ _ _ _)
   | (with_reducible exact spec_l8Round.mono _ _ _ _ _ _)
   | (with_reducible exact spec_l8Set.mono _ _ _ _ _)
   | (with_reducible exact LeO.refl _)
   | (with_reducible exact LeO.none _)
   | (with_reducible refine LeO.ite ?_ ?_)
   | (with_reducible refine LeO.bind ?_ (fun _ => ?_))
   | exact ih0 _ _ _ _ _ _ _
   | exact ih1 _ _ _ _ _ _ _ _
   | exact spec_l8Apart.mono _ _ _ _
   | exact spec_l8Round.mono _ _ _ _ _ _
   | exact spec_l8Set.mono _ _ _ _ _
   | exact LeO.none _
   | refine LeO.ite ?_ ?_
   | refine LeO.bind ?_ (fun _ => ?_)
theorem spec_l8Plan.mono : ∀ a0 a1 a2 a3 a4 k, LeO (spec_l8Plan.f k a0 a1 a2 a3 a4) (spec_l8Plan.f (k + 1) a0 a1 a2 a3 a4) := by
 intro a0 a1 a2 a3 a4 k
 obtain ⟨ih0, ih1⟩ := spec_l8Plan.mono_l k
 unfold spec_l8Plan.f
 repeat' first
   | (with_reducible exact ih0 _ _ _ _ _ _ _)
   | (with_reducible exact ih1 _ _ _ _ _ _ _ _)
   | (with_reducible exact spec_l8Apart.mono _ _ _ _)
   | (with_reducible exact spec_l8Round.mono _ _ _ _ _ _)
   | (with_reducible exact spec_l8Set.mono _ _ _ _ _)
   | (with_reducible exact LeO.refl _)
   | (with_reducible exact LeO.none _)
   | (with_reducible refine LeO.ite ?_ ?_)
   | (with_reducible refine LeO.bind ?_ (fun _ => ?_))
   | exact ih0 _ _ _ _ _ _ _
   | exact ih1 _ _ _ _ _ _ _ _
   | exact spec_l8Apart.mono _ _ _ _
   | exact spec_l8Round.mono _ _ _ _ _ _
   | exact spec_l8Set.mono _ _ _ _ _
   | exact LeO.none _
   | refine LeO.ite ?_ ?_
   | refine LeO.bind ?_ (fun _ => ?_)
def spec_l8Plan.T5 : Bool × List (List Nat × List Nat) := (true, [([], []), ([], []), ([], []), ([1, 2], [1, 2]), ([3], [3]), ([], []), ([0, 4, 5], [0, 4, 5]), ([6], [6]), ([7, 6], [7]), ([8], [8]), ([8], [8]), ([8], [8]), ([10, 11, 8], [8, 10, 11]), ([12, 8], [8, 12]), ([9, 13, 8, 8], [8, 9, 13]), ([14, 8], [8, 14]), ([8, 15], [8, 15])])
def spec_l8Plan.B5 : List Nat := [0, 0, 0, 6, 14, 0, 63, 127, 255, 511, 511, 511, 3583, 7679, 16383, 32767, 65535]
theorem spec_l8Plan.tab5 : rtab .any (opsOf Try.f64 5) = spec_l8Plan.T5 := by kernel_rfl
theorem spec_l8Plan.bits5 : waitsOk spec_l8Plan.T5.2 spec_l8Plan.B5 = true := by kernel_rfl
def spec_l8Plan.T7 : Bool × List (List Nat × List Nat) := (true, [([], []), ([], []), ([], []), ([], []), ([2, 3], [2, 3]), ([4], [4]), ([0, 1, 5], [0, 1, 5]), ([6, 6, 0, 1, 2, 3, 4, 5, 6], [6])])
def spec_l8Plan.B7 : List Nat := [0, 0, 0, 0, 12, 28, 63, 127]
theorem spec_l8Plan.tab7 : rtab .any (opsOf Try.f64 7) = spec_l8Plan.T7 := by kernel_rfl
theorem spec_l8Plan.bits7 : waitsOk spec_l8Plan.T7.2 spec_l8Plan.B7 = true := by kernel_rfl
set_option maxHeartbeats 8000000 in
set_option maxRecDepth 100000 in
theorem spec_l8Plan.calls (k : Nat) (a0_0 : Int) (A0_1 : Option Addr) (c0_1 : Nat) (l0_1 : List (S119)) (a1 : Int) (a2 : Int) (A3 : Option Addr) (c3 : Nat) (l3 : List (List Int)) (r : Bool) (w : World) (hr0_1 : Kd.C k119 w A0_1 l0_1.length l0_1) (hc0_1 : l0_1.length ≤ c0_1) (hr3 : Kd.C (Kd.slice 3 (Kd.int .i64)) w A3 l3.length l3) (hc3 : l3.length ≤ c3) (h : spec_l8Plan.f k a0_0 l0_1 a1 a2 l3 = some r) :
  Calls Try.prog 64 #[.agg #[.int .i64 a0_0, .slice A0_1 l0_1.length c0_1], .int .i64 a1, .int .i64 a2, .slice A3 l3.length c3] w fun e w' => e = .returned (.bool r) ∧ Below w.heap.size w w' := by
 have hu31 := Try.underlying31
 have hu71 := Try.underlying71
 have HR0_1 := Aside0.mk hr0_1
 have HC0_1 := Aside0.mk hc0_1
 clear hr0_1 hc0_1
 have HR3 := Aside0.mk hr3
 have HC3 := Aside0.mk hc3
 clear hr3 hc3
 have HB := Aside0.mk (Below.refl w.heap.size w)
 have H : (spec_l8Plan.l0 k a2 l3 0 a0_0 l0_1 (([a1] : List Int)) ([] : List Int)) = some r := h
 clear h
 obtain ⟨y174, hy174⟩ : ∃ y_ : List Int, y_ = (([a1] : List Int)) := ⟨_, rfl⟩
 replace H : (spec_l8Plan.l0 k a2 l3 0 a0_0 l0_1 y174 ([] : List Int)) = some r := by first | (rw [hy174];with_reducible exact H) | (have H2_ := (Option.bind_some _ _).symm.trans H;rw [hy174];with_reducible exact H2_) | (have H2_ := (Option.bind_some _ _).symm.trans H;with_reducible exact H2_) | with_reducible exact H | (rw [hy174];exact H) | exact H
 have Ny174 := Aside0.mk hy174
 clear hy174
 have H' := Aside0.mk H
 clear H
 go_enter Try.func64, Try.ntmps64
 go_wp2_with (first | ((with_reducible refine gate_dst (N := 4) rfl ?_);refine box_event ?hg (N := 4) ?hd (cs := #[.int .i64 a0_0, .slice A0_1 l0_1.length c0_1]) (t := 31) ?hr ?_;(case hd => rfl);(case hg => rfl);(case hr => first | (go_simp;done) | (go_simp;rfl));intro gb173 hg w5 hbox hb;have n0_ := Aside0.mk (below_step (by exact bB) hb);have n1_ := Aside0.mk (hbox);have n2_ := Aside0.mk ((by rw [hg];exact (below_size (by exact bB)) : w.heap.size ≤ gb173));have n3_ := Aside0.mk ((by rw [hg];exact (below_size (by exact bB)) : w.heap.size ≤ gb173));clear HB;have HB := n0_;have BK173 := n1_;have GW173 := n2_;have GE173 := n3_;clear n0_ n1_ n2_ n3_;clear hb hbox hg) | ((with_reducible refine gate_dst (N := 12) rfl ?_);refine Kd.R_lit (Kd.int .i64) _ 3 ?hg (N := 12) ?hd (xs := ([a1] : List Int)) (inner := [.int .i64 a1]) (ok := fun _ => True) (okp := fun _ => True) ?hr ?hp (fun _ hk => hk) trivial (Below.refl _ _) (Nat.le_refl _) (by simp) ?_;(case hd => rfl);(case hg => rfl);(case hr => first | (go_simp;done) | (go_simp;rfl));(case hp => exact (Reps.one (show Kd.M (Kd.int .i64) _ _ _ a1 [.int .i64 a1] from rfl) (Reps.none _ _)));intro v175 w6 ho7 hb hg_ hnew_;clear hg_ hnew_;(first | rw [← Ny174.out] at ho7 | (simp only [Int.reduceToNat] at ho7;rw [← Ny174.out] at ho7));have n0_ := Aside0.mk (Kd.R_lower ho7 (below_size (by exact bB)));have n1_ := Aside0.mk (blk_below (g := gb173) (o := .cells #[.int .i64 a0_0, .slice A0_1 l0_1.length c0_1] 31 (0, 0)) (by exact kP BK173.out) hb);have n2_ := Aside0.mk (below_step (by exact bB) hb);clear BK173;clear HB;have HO176 := n0_;have BK173 := n1_;have HB := n2_;clear n0_ n1_ n2_;clear hb ho7;obtain ⟨Ao8, co8, eo8⟩ := Kd.R_slice HO176.out;subst eo8) | ((with_reducible refine gate_dst (N := 9) rfl ?_);refine box_event ?hg (N := 9) ?hd (cs := #[.slice none 0 0, .slice none 0 0]) (t := 71) ?hr ?_;(case hd => rfl);(case hg => rfl);(case hr => first | (go_simp;done) | (go_simp;rfl));intro gb177 hg w9 hbox hb;have n0_ := Aside0.mk (Kd.R_below (by exact rP HO176.out) hb);have n1_ := Aside0.mk (blk_below (g := gb173) (o := .cells #[.int .i64 a0_0, .slice A0_1 l0_1.length c0_1] 31 (0, 0)) (by exact kP BK173.out) hb);have n2_ := Aside0.mk (below_step (by exact bB) hb);have n3_ := Aside0.mk (hbox);have n4_ := Aside0.mk ((by rw [hg];exact (below_size (by exact bB)) : w.heap.size ≤ gb177));have n5_ := Aside0.mk ((by rw [hg];exact (below_size (by exact bB)) : w.heap.size ≤ gb177));have n6_ := Aside0.mk ((by rw [hg];exact Nat.ne_of_lt (blk_lt (g := gb173) (o := .cells #[.int .i64 a0_0, .slice A0_1 l0_1.length c0_1] 31 (0, 0)) (by exact kP BK173.out)) : gb173 ≠ gb177));have n7_ := Aside0.mk ((by rw [hg];exact Nat.ne_of_gt (blk_lt (g := gb173) (o := .cells #[.int .i64 a0_0, .slice A0_1 l0_1.length c0_1] 31 (0, 0)) (by exact kP BK173.out)) : gb177 ≠ gb173));clear HO176;clear BK173;clear HB;have HO176 := n0_;have BK173 := n1_;have HB := n2_;have BK177 := n3_;have GW177 := n4_;have GE177 := n5_;have NB173_177 := n6_;have NB177_173 := n7_;clear n0_ n1_ n2_ n3_ n4_ n5_ n6_ n7_;clear hb hbox hg;have hnb10 := NB177_173.out;have hnc10 := NB173_177.out;have hcz11_0 : w9.cell? ⟨gb177, 0, none⟩ = some (.slice none 0 0) := (blk_cell BK177.out 0).trans rfl;have hcz11_1 : w9.cell? ⟨gb177, 1, none⟩ = some (.slice none 0 0) := (blk_cell BK177.out 1).trans rfl;have hfz11_0 := blk_frozen BK177.out 0;have hfz11_1 := blk_frozen BK177.out 1))
 go_loopg [10] k (fun kq v10 w' => ∃ (x10_1 : Int) (x178000_1 : List Int) (x178001_1 : List Int) (u178000 : Value) (u178001 : Value), v10 = .int .i64 x10_1 ∧ Aside0 (spec_l8Plan.l0 kq a2 l3 x10_1 a0_0 l0_1 x178000_1 x178001_1 = some r) ∧ Aside0 (kq ≤ k) ∧ Aside0 (Kd.R (Kd.int .i64) 3 w' w.heap.size (fun k_ => some k_ ≠ (u178001 : Value).ownBlock) u178000 x178000_1) ∧ Aside0 (Kd.R (Kd.int .i64) 3 w' w.heap.size (fun k_ => some k_ ≠ (u178000 : Value).ownBlock) u178001 x178001_1) ∧ Aside0 (w'.heap[gb173]? = some (.cells #[.int .i64 a0_0, (.slice A0_1 l0_1.length c0_1)] 31 (0, 0))) ∧ Aside0 (w'.heap[gb177]? = some (.cells #[u178000, u178001] 71 (0, 0))) ∧ Aside0 (Below w.heap.size w w'))
 case atStart => exact ⟨(0), (y174), (([] : List Int)), (.slice Ao8 y174.length co8), (.slice none 0 0), (by first | rfl | (simp;done) | (simp [*];done)), H', ⟨Nat.le_refl _⟩, ⟨by refine rP ?_;exact Kd.R_mono (Kd.R_far (p := ⟨gb177, 1, none⟩) (Kd.R_far (p := ⟨gb177, 0, none⟩) (Kd.R_types HO176.out BK177.out (by decide)) (fun _ hk => hk.2) (.slice Ao8 y174.length co8)) (fun _ hk => hk.2) (.slice none 0 0)) (fun _ hk => (by simp [Value.ownBlock]))⟩, ⟨by first | exact Kd.R_nil _ _ _ _ _ | exact Kd.N_nil _ _ _ _ _ | exact Kd.V_nil _ _ _ _ _ | exact Kd.Q_nil _ _ _ _ _ | exact Kd.S_nil _ _ _ _ _⟩, ⟨by refine kP ?_;refine blk_far ?_ NB173_177.out _;refine kP ?_;refine blk_far ?_ NB173_177.out _;exact kP BK173.out⟩, ⟨by refine kP ?_;refine blk_put (cs := #[.slice Ao8 y174.length co8, .slice none 0 0]) ?_ 1 _ rfl;refine kP ?_;refine blk_put (cs := #[.slice none 0 0, .slice none 0 0]) ?_ 0 _ rfl;exact kP BK177.out⟩, ⟨by exact bB⟩⟩
 case round =>
  clear H'
  try clear c1
  try clear p2
  try clear c3
  try clear c6
  try clear c10
  try clear hcz11_0
  try clear hcz11_1
  try clear hfz11_0
  try clear hfz11_1
  obtain ⟨x10_1, x178000_1, x178001_1, u178000, u178001, rfl, HA, HK1, HO_178000, HO_178001, BK173, BK177, HB⟩ := hrel
  cases gk with
  | zero => exact absurd HA.out (by simp [spec_l8Plan.l0])
  | succ k1 =>
   have H := HA.out
   clear HA
   simp only [spec_l8Plan.l0] at H
   have HC12 := Aside0.mk H
   clear H
   go_upto_region 3 with (fail)
   go_cut [21] (fun v21 wc => ∃ (kq : Nat) (x21_11 : Bool), v21 = .bool x21_11 ∧ Aside0 (spec_l8Plan.j1 kq a2 l3 x10_1 x21_11 a0_0 l0_1 x178000_1 x178001_1 = some r) ∧ Aside0 (kq ≤ k1) ∧ Aside0 (Kd.R (Kd.int .i64) 3 wc w.heap.size (fun k_ => some k_ ≠ (u178001 : Value).ownBlock) u178000 x178000_1) ∧ Aside0 (Kd.R (Kd.int .i64) 3 wc w.heap.size (fun k_ => some k_ ≠ (u178000 : Value).ownBlock) u178001 x178001_1) ∧ Aside0 (wc.heap[gb173]? = some (.cells #[.int .i64 a0_0, (.slice A0_1 l0_1.length c0_1)] 31 (0, 0))) ∧ Aside0 (wc.heap[gb177]? = some (.cells #[u178000, u178001] 71 (0, 0))) ∧ Aside0 (Below w.heap.size w wc))
   case first =>
    have H := HC12.out
    clear HC12
    by_cases c13 : x10_1 < (l3.length : Int)
    ·rw [if_pos c13] at H
     have c13b0 : decide (x10_1 < (l3.length : Int)) = true := decide_eq_true c13
     clear c13
     (first | rw [c13b0] | (simp only [i64_w, i32_w];rw [c13b0]) | skip)
     have H' := Aside0.mk H
     clear H
     go_wp2
     go_meet
     case rel => exact ⟨_, (decide (x10_1 < 8)), (by first | rfl | (simp;done) | (simp [*];done)), H', ⟨by have := HK1.out;first | omega | exact Nat.le_refl _⟩, ⟨by exact rP HO_178000.out⟩, ⟨by exact rP HO_178001.out⟩, ⟨by exact kP BK173.out⟩, ⟨by exact kP BK177.out⟩, ⟨by exact bB⟩⟩
    ·rw [if_neg c13] at H
     have c13b0 : decide (x10_1 < (l3.length : Int)) = false := decide_eq_false c13
     clear c13
     (first | rw [c13b0] | (simp only [i64_w, i32_w];rw [c13b0]) | skip)
     have H' := Aside0.mk H
     clear H
     go_wp2
     go_meet
     case rel => exact ⟨_, (false), (by first | rfl | (simp;done) | (simp [*];done)), H', ⟨by have := HK1.out;first | omega | exact Nat.le_refl _⟩, ⟨by exact rP HO_178000.out⟩, ⟨by exact rP HO_178001.out⟩, ⟨by exact kP BK173.out⟩, ⟨by exact kP BK177.out⟩, ⟨by exact bB⟩⟩
   case rest =>
    clear HC12
    try clear c1
    try clear p2
    try clear c3
    try clear c6
    try clear c10
    try clear c13
    try clear c13b0
    try clear hcz11_0
    try clear hcz11_1
    try clear hfz11_0
    try clear hfz11_1
    try clear p2
    obtain ⟨kq, x21_11, rfl, HA, HJ11, HO_178000, HO_178001, BK173, BK177, HB⟩ := hcut
    cases kq with
    | zero => exact absurd HA.out (by simp [spec_l8Plan.j1])
    | succ kj11 =>
     have H := HA.out
     clear HA
     simp only [spec_l8Plan.j1] at H
     by_cases c14 : x21_11 = true
     ·subst c14
      have H1 : (if 0 ≤ x10_1 then (if x10_1 < (l3.length : Int) then ((spec_l8Set.f kj11 a0_0 l0_1 (rd_L2 l3 x10_1) a2).bind fun t179 => (if t179 = true then ((spec_l8Apart.f kj11 x178000_1 x178001_1 (rd_L2 l3 x10_1)).bind fun t181 => (if t181 = true then ((spec_l8Round.f kj11 a0_0 l0_1 x178000_1 x178001_1 (rd_L2 l3 x10_1)).bind fun bt183 => (spec_l8Plan.l0 kj11 a2 l3 (wrap64 (x10_1 + 1)) a0_0 l0_1 bt183.1 bt183.2)) else (some false))) else (some false))) else (none)) else (none)) = some r := by rw [if_pos rfl] at H;exact H
      clear H
      have H := H1
      clear H1
      by_cases c15 : 0 ≤ x10_1
      ·rw [if_pos c15] at H
       have c15b0 : decide (0 ≤ x10_1) = true := decide_eq_true c15
       clear c15
       by_cases c16 : x10_1 < (l3.length : Int)
       ·rw [if_pos c16] at H
        have c16b0 : decide (x10_1 < (l3.length : Int)) = true := decide_eq_true c16
        clear c16
        replace H := Option.bind_eq_some_iff.mp H
        obtain ⟨t179, A170, H⟩ := H
        replace H : (if t179 = true then ((spec_l8Apart.f kj11 x178000_1 x178001_1 (rd_L2 l3 x10_1)).bind fun t181 => (if t181 = true then ((spec_l8Round.f kj11 a0_0 l0_1 x178000_1 x178001_1 (rd_L2 l3 x10_1)).bind fun bt183 => (spec_l8Plan.l0 kj11 a2 l3 (wrap64 (x10_1 + 1)) a0_0 l0_1 bt183.1 bt183.2)) else (some false))) else (some false)) = some r := H
        have A17 := Aside0.mk A170
        clear A170
        by_cases c18 : t179 = true
        ·subst c18
         have H1 : ((spec_l8Apart.f kj11 x178000_1 x178001_1 (rd_L2 l3 x10_1)).bind fun t181 => (if t181 = true then ((spec_l8Round.f kj11 a0_0 l0_1 x178000_1 x178001_1 (rd_L2 l3 x10_1)).bind fun bt183 => (spec_l8Plan.l0 kj11 a2 l3 (wrap64 (x10_1 + 1)) a0_0 l0_1 bt183.1 bt183.2)) else (some false))) = some r := by rw [if_pos rfl] at H;exact H
         clear H
         have H := H1
         clear H1
         replace H := Option.bind_eq_some_iff.mp H
         obtain ⟨t181, A190, H⟩ := H
         replace H : (if t181 = true then ((spec_l8Round.f kj11 a0_0 l0_1 x178000_1 x178001_1 (rd_L2 l3 x10_1)).bind fun bt183 => (spec_l8Plan.l0 kj11 a2 l3 (wrap64 (x10_1 + 1)) a0_0 l0_1 bt183.1 bt183.2)) else (some false)) = some r := H
         have A19 := Aside0.mk A190
         clear A190
         by_cases c20 : t181 = true
         ·subst c20
          have H1 : ((spec_l8Round.f kj11 a0_0 l0_1 x178000_1 x178001_1 (rd_L2 l3 x10_1)).bind fun bt183 => (spec_l8Plan.l0 kj11 a2 l3 (wrap64 (x10_1 + 1)) a0_0 l0_1 bt183.1 bt183.2)) = some r := by rw [if_pos rfl] at H;exact H
          clear H
          have H := H1
          clear H1
          replace H := Option.bind_eq_some_iff.mp H
          obtain ⟨⟨t183, t186⟩, A210, H⟩ := H
          replace H : (spec_l8Plan.l0 kj11 a2 l3 (wrap64 (x10_1 + 1)) a0_0 l0_1 t183 t186) = some r := H
          have A21 := Aside0.mk A210
          clear A210
          have H' := Aside0.mk H
          clear H
          try go_wp2
          have n0_ := Aside0.mk (Kd.R_drew HO_178000.out)
          have n1_ := Aside0.mk (Kd.R_drew HO_178001.out)
          have n2_ := Aside0.mk (blk_drew BK173.out)
          have n3_ := Aside0.mk (blk_drew BK177.out)
          have n4_ := Aside0.mk (below_drew1 HB.out)
          clear HO_178000
          clear HO_178001
          clear BK173
          clear BK177
          clear HB
          have HO_178000 := n0_
          have HO_178001 := n1_
          have BK173 := n2_
          have BK177 := n3_
          have HB := n4_
          clear n0_ n1_ n2_ n3_ n4_
          have p178 : 0 ≤ (x10_1 : Int) := oA
          have q178 : x10_1 < (l3.length : Int) := oA
          obtain ⟨ad178, A178_0, c178_0, e178, hx178_0, hl178_0, hi178_0⟩ := at_L2 HR3.out x10_1 p178 q178
          have hw178_0 := hx178_0
          cases e178
          replace hx178_0 := (HB.out.cell (World.block_lt_of_cell? w _ hx178_0)).trans hx178_0
          have HR178_0 := Aside0.mk hi178_0
          have HC178_0 := Aside0.mk hl178_0
          clear hi178_0 hl178_0
          replace p178 := eq_true p178
          replace q178 := eq_true q178
          have p180 : 0 ≤ (x10_1 : Int) := oA
          have q180 : x10_1 < (l3.length : Int) := oA
          obtain ⟨ad180, A180_0, c180_0, e180, hx180_0, hl180_0, hi180_0⟩ := at_L2 HR3.out x10_1 p180 q180
          have hw180_0 := hx180_0
          obtain rfl : ad178 = ad180 := (by injection e180)
          (first | (have h_ := hx180_0.symm.trans hx178_0;obtain ⟨rfl, rfl⟩ : A180_0 = A178_0 ∧ c180_0 = c178_0 := (by simpa using h_)) | (have h_ := hx180_0.symm.trans hw178_0;obtain ⟨rfl, rfl⟩ : A180_0 = A178_0 ∧ c180_0 = c178_0 := (by simpa using h_)) | (have h_ := hx180_0.symm.trans HS0_;obtain ⟨rfl, rfl⟩ : A180_0 = A178_0 ∧ c180_0 = c178_0 := (by simpa using h_)) | (have h_ := hx180_0.symm.trans HS1_;obtain ⟨rfl, rfl⟩ : A180_0 = A178_0 ∧ c180_0 = c178_0 := (by simpa using h_)) | (have h_ := hx180_0.symm.trans HS2_;obtain ⟨rfl, rfl⟩ : A180_0 = A178_0 ∧ c180_0 = c178_0 := (by simpa using h_)) | (have h_ := hx180_0.symm.trans HS3_;obtain ⟨rfl, rfl⟩ : A180_0 = A178_0 ∧ c180_0 = c178_0 := (by simpa using h_)) | (have h_ := hx180_0.symm.trans HS4_;obtain ⟨rfl, rfl⟩ : A180_0 = A178_0 ∧ c180_0 = c178_0 := (by simpa using h_)) | (have h_ := hx180_0.symm.trans HS5_;obtain ⟨rfl, rfl⟩ : A180_0 = A178_0 ∧ c180_0 = c178_0 := (by simpa using h_)) | (have h_ := hx180_0.symm.trans HS6_;obtain ⟨rfl, rfl⟩ : A180_0 = A178_0 ∧ c180_0 = c178_0 := (by simpa using h_)) | (have h_ := hx180_0.symm.trans HS7_;obtain ⟨rfl, rfl⟩ : A180_0 = A178_0 ∧ c180_0 = c178_0 := (by simpa using h_)) | (have h_ := hx180_0.symm.trans HS8_;obtain ⟨rfl, rfl⟩ : A180_0 = A178_0 ∧ c180_0 = c178_0 := (by simpa using h_)) | (have h_ := hx180_0.symm.trans HS9_;obtain ⟨rfl, rfl⟩ : A180_0 = A178_0 ∧ c180_0 = c178_0 := (by simpa using h_)))
          replace hx180_0 := (HB.out.cell (World.block_lt_of_cell? w _ hx180_0)).trans hx180_0
          have HR180_0 := Aside0.mk hi180_0
          have HC180_0 := Aside0.mk hl180_0
          clear hi180_0 hl180_0
          replace p180 := eq_true p180
          replace q180 := eq_true q180
          refine start_ (n := 17) (S := fun w' => w'.cell? ⟨gb173, 0, none⟩ = some (.int .i64 a0_0) ∧ w'.cell? ⟨gb173, 1, none⟩ = some (.slice A0_1 l0_1.length c0_1) ∧ w'.cell? ⟨gb177, 0, none⟩ = some (u178000) ∧ w'.cell? ⟨gb177, 1, none⟩ = some (u178001) ∧ w'.cell? (ad178.add (x10_1).toNat) = some (.slice A180_0 (rd_L2 l3 x10_1).length c180_0) ∧ w'.cell? (ad178.add (x10_1).toNat) = some (.slice A180_0 (rd_L2 l3 x10_1).length c180_0)) (ds := []) #[false,false,false,false,false,false,false,false,false,false,false,false,false,false,false,false,false] (by kernel_rfl) rfl rfl ⟨(blk_cell BK173.out 0).trans rfl, (blk_cell BK173.out 1).trans rfl, (blk_cell BK177.out 0).trans rfl, (blk_cell BK177.out 1).trans rfl, ((HB.out.cell (World.block_lt_of_cell? w _ hw178_0)).trans hw178_0), ((HB.out.cell (World.block_lt_of_cell? w _ hw180_0)).trans hw180_0)⟩ (fun hHeld => ?_);refine with_tabW spec_l8Plan.tab5 spec_l8Plan.bits5 (fun HT_ HW_ => ?_)
          generalize wc.drew = w22 at HO_178000 HO_178001 BK173 BK177 HB HR178_0 HR180_0 hx178_0 hx180_0 hHeld ⊢
          refine pure_ (i := 1) (N := some 25) (v := ?_) (a' := ?_) #[false,true,false,false,false,false,false,false,false,false,false,false,false,false,false,false,false] rfl rfl (any_of HT_.out (by kernel_rfl)) (fun _ _ _ h => h) (Or.inl ⟨by rfl, ?_⟩) ?_ ?_
          rotate_left
          ·intro w'
           go_simp
           with_reducible rfl
          rotate_left
          ·simp only [Act.put, List.setIfInBounds_toArray, List.set_cons_zero, List.set_cons_succ, i64_w, i32_w]
           rfl
          refine pure_ (i := 2) (N := some 26) (v := ?_) (a' := ?_) #[false,true,true,false,false,false,false,false,false,false,false,false,false,false,false,false,false] rfl rfl (any_of HT_.out (by kernel_rfl)) (fun _ _ _ h => h) (Or.inl ⟨by rfl, ?_⟩) ?_ ?_
          rotate_left
          ·intro w'
           go_simp
           with_reducible rfl
          rotate_left
          ·simp only [Act.put, List.setIfInBounds_toArray, List.set_cons_zero, List.set_cons_succ, i64_w, i32_w]
           rfl
          refine pure_ (i := 3) (N := some 27) (v := ?_) (a' := ?_) #[false,true,true,true,false,false,false,false,false,false,false,false,false,false,false,false,false] rfl rfl (any_of HT_.out (by kernel_rfl)) (fun _ _ _ h => h) (Or.inl ⟨by rfl, ?_⟩) ?_ ?_
          rotate_left
          ·intro w'
           go_simp
           with_reducible rfl
          rotate_left
          ·simp only [Act.put, List.setIfInBounds_toArray, List.set_cons_zero, List.set_cons_succ, i64_w, i32_w]
           rfl
          refine pure_ (i := 5) (N := some 29) (v := ?_) (a' := ?_) #[false,true,true,true,false,true,false,false,false,false,false,false,false,false,false,false,false] rfl rfl (any_of HT_.out (by kernel_rfl)) (fun _ _ _ h => h) (Or.inl ⟨by rfl, ?_⟩) ?_ ?_
          rotate_left
          ·intro w'
           go_simp
           with_reducible rfl
          rotate_left
          ·simp only [Act.put, List.setIfInBounds_toArray, List.set_cons_zero, List.set_cons_succ, i64_w, i32_w]
           rfl
          refine take_ (i := 0) (N := some 24) (v := ?_) (a' := ?_) #[true,true,true,true,false,true,false,false,false,false,false,false,false,false,false,false,false] rfl rfl (take_ofW HT_.out HW_.out (by kernel_rfl)) (fun _ _ _ h => h) (Or.inl ⟨by rfl, ?_⟩) hHeld ?_ ?_
          rotate_left
          ·rintro w' ⟨s0, s1, s2, s3, s4, s5⟩
           go_simp
           with_reducible rfl
          rotate_left
          ·simp only [Act.put, List.setIfInBounds_toArray, List.set_cons_zero, List.set_cons_succ, i64_w, i32_w]
           rfl
          refine take_ (i := 4) (N := some 28) (v := ?_) (a' := ?_) #[true,true,true,true,true,true,false,false,false,false,false,false,false,false,false,false,false] rfl rfl (take_ofW HT_.out HW_.out (by kernel_rfl)) (fun _ _ _ h => h) (Or.inl ⟨by rfl, ?_⟩) hHeld ?_ ?_
          rotate_left
          ·rintro w' ⟨s0, s1, s2, s3, s4, s5⟩
           go_simp
           with_reducible rfl
          rotate_left
          ·simp only [Act.put, List.setIfInBounds_toArray, List.set_cons_zero, List.set_cons_succ, i64_w, i32_w]
           rfl
          refine one_ (i := 6) (N := some 30) #[true,true,true,true,true,true,true,false,false,false,false,false,false,false,false,false,false] rfl rfl (one_of HT_.out (by kernel_rfl)) (by decide) (fun K hK => ?_)
          refine goes_ Try.func116 (by kernel_rfl) rfl #[.agg #[.int .i64 a0_0, .slice A0_1 l0_1.length c0_1], .slice A180_0 (rd_L2 l3 x10_1).length c180_0, .int .i64 a2] (by rfl) rfl rfl mM ?_
          with_reducible refine (spec_l8Set.calls kj11 a0_0 _ _ l0_1 _ _ (rd_L2 l3 x10_1) a2 true _ ?side1 ?side2 ?side3 ?side4 A17.out).mono ?_
          (case side1 => exact cP (Kd.C_below HR0_1.out HB.out))
          (case side2 => exact HC0_1.out)
          (case side3 => exact cP (Kd.C_below HR178_0.out HB.out))
          (case side4 => exact HC178_0.out)
          rintro e w23 ⟨rfl, hb⟩
          refine ⟨_, rfl, ?_⟩
          have n0_ := Aside0.mk (Kd.R_below (by exact rP HO_178000.out) hb)
          have n1_ := Aside0.mk (Kd.R_below (by exact rP HO_178001.out) hb)
          have n2_ := Aside0.mk (blk_below (g := gb173) (o := .cells #[.int .i64 a0_0, .slice A0_1 l0_1.length c0_1] 31 (0, 0)) (by exact kP BK173.out) hb)
          have n3_ := Aside0.mk (blk_below (g := gb177) (o := .cells #[u178000, u178001] 71 (0, 0)) (by exact kP BK177.out) hb)
          have n4_ := Aside0.mk (below_step (by exact bB) hb)
          clear HO_178000
          clear HO_178001
          clear BK173
          clear BK177
          clear HB
          have HO_178000 := n0_
          have HO_178001 := n1_
          have BK173 := n2_
          have BK177 := n3_
          have HB := n4_
          clear n0_ n1_ n2_ n3_ n4_
          (try clear hb)
          (try clear hb2)
          (try clear hk)
          (try clear hi)
          obtain ⟨Ao24, co24, eo24⟩ := Kd.R_slice HO_178000.out
          (first | subst eo24 | (injection eo24 with f1_ f2_ f3_;have f4_ := f1_.symm;have f5_ := f3_.symm;clear f1_ f2_ f3_;subst f4_;subst f5_))
          obtain ⟨Ao25, co25, eo25⟩ := Kd.R_slice HO_178001.out
          (first | subst eo25 | (injection eo25 with f1_ f2_ f3_;have f4_ := f1_.symm;have f5_ := f3_.symm;clear f1_ f2_ f3_;subst f4_;subst f5_))
          refine hK.out _ _ ⟨(blk_cell BK173.out 0).trans rfl, (blk_cell BK173.out 1).trans rfl, (blk_cell BK177.out 0).trans rfl, (blk_cell BK177.out 1).trans rfl, ((HB.out.cell (World.block_lt_of_cell? w _ hw178_0)).trans hw178_0), ((HB.out.cell (World.block_lt_of_cell? w _ hw180_0)).trans hw180_0)⟩ (fun hHeld => ?_)
          clear hK K
          refine norm_ (a' := ?_) ?_ ?_
          rotate_left
          ·show Act.put _ (some 30) _ = _
           simp only [Act.put, List.setIfInBounds_toArray, List.set_cons_zero, List.set_cons_succ, i64_w, i32_w]
           rfl
          refine pure_ (i := 7) (N := some 31) (v := ?_) (a' := ?_) #[true,true,true,true,true,true,true,true,false,false,false,false,false,false,false,false,false] rfl rfl (any_of HT_.out (by kernel_rfl)) (fun _ _ _ h => h) (Or.inl ⟨by rfl, ?_⟩) ?_ ?_
          rotate_left
          ·intro w'
           go_simp
           with_reducible rfl
          rotate_left
          ·simp only [Act.put, List.setIfInBounds_toArray, List.set_cons_zero, List.set_cons_succ, i64_w, i32_w]
           rfl
          refine pure_ (i := 8) (N := some 32) (v := ?_) (a' := ?_) #[true,true,true,true,true,true,true,true,true,false,false,false,false,false,false,false,false] rfl rfl (any_of HT_.out (by kernel_rfl)) (fun _ _ _ h => h) (Or.inl ⟨by rfl, ?_⟩) ?_ ?_
          rotate_left
          ·intro w'
           go_simp
           with_reducible rfl
          rotate_left
          ·simp only [Act.put, List.setIfInBounds_toArray, List.set_cons_zero, List.set_cons_succ, i64_w, i32_w]
           rfl
          refine pure_ (i := 10) (N := some 34) (v := ?_) (a' := ?_) #[true,true,true,true,true,true,true,true,true,false,true,false,false,false,false,false,false] rfl rfl (any_of HT_.out (by kernel_rfl)) (fun _ _ _ h => h) (Or.inl ⟨by rfl, ?_⟩) ?_ ?_
          rotate_left
          ·intro w'
           go_simp
           with_reducible rfl
          rotate_left
          ·simp only [Act.put, List.setIfInBounds_toArray, List.set_cons_zero, List.set_cons_succ, i64_w, i32_w]
           rfl
          refine pure_ (i := 11) (N := some 35) (v := ?_) (a' := ?_) #[true,true,true,true,true,true,true,true,true,false,true,true,false,false,false,false,false] rfl rfl (any_of HT_.out (by kernel_rfl)) (fun _ _ _ h => h) (Or.inl ⟨by rfl, ?_⟩) ?_ ?_
          rotate_left
          ·intro w'
           go_simp
           with_reducible rfl
          rotate_left
          ·simp only [Act.put, List.setIfInBounds_toArray, List.set_cons_zero, List.set_cons_succ, i64_w, i32_w]
           rfl
          refine pure_ (i := 12) (N := some 36) (v := ?_) (a' := ?_) #[true,true,true,true,true,true,true,true,true,false,true,true,true,false,false,false,false] rfl rfl (any_of HT_.out (by kernel_rfl)) (fun _ _ _ h => h) (Or.inl ⟨by rfl, ?_⟩) ?_ ?_
          rotate_left
          ·intro w'
           go_simp
           with_reducible rfl
          rotate_left
          ·simp only [Act.put, List.setIfInBounds_toArray, List.set_cons_zero, List.set_cons_succ, i64_w, i32_w]
           rfl
          refine take_ (i := 9) (N := some 33) (v := ?_) (a' := ?_) #[true,true,true,true,true,true,true,true,true,true,true,true,true,false,false,false,false] rfl rfl (take_ofW HT_.out HW_.out (by kernel_rfl)) (fun _ _ _ h => h) (Or.inl ⟨by rfl, ?_⟩) hHeld ?_ ?_
          rotate_left
          ·rintro w' ⟨s0, s1, s2, s3, s4, s5⟩
           go_simp
           with_reducible rfl
          rotate_left
          ·simp only [Act.put, List.setIfInBounds_toArray, List.set_cons_zero, List.set_cons_succ, i64_w, i32_w]
           rfl
          refine take_ (i := 13) (N := some 37) (v := ?_) (a' := ?_) #[true,true,true,true,true,true,true,true,true,true,true,true,true,true,false,false,false] rfl rfl (take_ofW HT_.out HW_.out (by kernel_rfl)) (fun _ _ _ h => h) (Or.inl ⟨by rfl, ?_⟩) hHeld ?_ ?_
          rotate_left
          ·rintro w' ⟨s0, s1, s2, s3, s4, s5⟩
           go_simp
           with_reducible rfl
          rotate_left
          ·simp only [Act.put, List.setIfInBounds_toArray, List.set_cons_zero, List.set_cons_succ, i64_w, i32_w]
           rfl
          refine one_ (i := 14) (N := some 38) #[true,true,true,true,true,true,true,true,true,true,true,true,true,true,true,false,false] rfl rfl (one_of HT_.out (by kernel_rfl)) (by decide) (fun K hK => ?_)
          refine goes_ Try.func117 (by kernel_rfl) rfl #[.agg #[.slice Ao24 x178000_1.length co24, .slice Ao25 x178001_1.length co25], .slice A180_0 (rd_L2 l3 x10_1).length c180_0] (by rfl) rfl rfl mM ?_
          with_reducible refine (spec_l8Apart.calls kj11 _ _ x178000_1 _ _ x178001_1 _ _ (rd_L2 l3 x10_1) true _ ?side1 ?side2 ?side3 ?side4 ?side5 ?side6 A19.out).mono ?_
          (case side1 => exact cP (Kd.R_reads' HO_178000.out).2.2)
          (case side2 => exact (Kd.R_reads' HO_178000.out).2.1)
          (case side3 => exact cP (Kd.R_reads' HO_178001.out).2.2)
          (case side4 => exact (Kd.R_reads' HO_178001.out).2.1)
          (case side5 => exact cP (Kd.C_below HR180_0.out HB.out))
          (case side6 => exact HC180_0.out)
          rintro e w26 ⟨rfl, hb⟩
          refine ⟨_, rfl, ?_⟩
          have n0_ := Aside0.mk (Kd.R_below (by exact rP HO_178000.out) hb)
          have n1_ := Aside0.mk (Kd.R_below (by exact rP HO_178001.out) hb)
          have n2_ := Aside0.mk (blk_below (g := gb173) (o := .cells #[.int .i64 a0_0, .slice A0_1 l0_1.length c0_1] 31 (0, 0)) (by exact kP BK173.out) hb)
          have n3_ := Aside0.mk (blk_below (g := gb177) (o := .cells #[.slice Ao24 x178000_1.length co24, .slice Ao25 x178001_1.length co25] 71 (0, 0)) (by exact kP BK177.out) hb)
          have n4_ := Aside0.mk (below_step (by exact bB) hb)
          clear HO_178000
          clear HO_178001
          clear BK173
          clear BK177
          clear HB
          have HO_178000 := n0_
          have HO_178001 := n1_
          have BK173 := n2_
          have BK177 := n3_
          have HB := n4_
          clear n0_ n1_ n2_ n3_ n4_
          (try clear hb)
          (try clear hb2)
          (try clear hk)
          (try clear hi)
          refine hK.out _ _ ⟨(blk_cell BK173.out 0).trans rfl, (blk_cell BK173.out 1).trans rfl, (blk_cell BK177.out 0).trans rfl, (blk_cell BK177.out 1).trans rfl, ((HB.out.cell (World.block_lt_of_cell? w _ hw178_0)).trans hw178_0), ((HB.out.cell (World.block_lt_of_cell? w _ hw180_0)).trans hw180_0)⟩ (fun hHeld => ?_)
          clear hK K
          refine norm_ (a' := ?_) ?_ ?_
          rotate_left
          ·show Act.put _ (some 38) _ = _
           simp only [Act.put, List.setIfInBounds_toArray, List.set_cons_zero, List.set_cons_succ, i64_w, i32_w]
           rfl
          refine pure_ (i := 15) (N := some 39) (v := ?_) (a' := ?_) #[true,true,true,true,true,true,true,true,true,true,true,true,true,true,true,true,false] rfl rfl (any_of HT_.out (by kernel_rfl)) (fun _ _ _ h => h) (Or.inl ⟨by rfl, ?_⟩) ?_ ?_
          rotate_left
          ·intro w'
           go_simp
           with_reducible rfl
          rotate_left
          ·simp only [Act.put, List.setIfInBounds_toArray, List.set_cons_zero, List.set_cons_succ, i64_w, i32_w]
           rfl
          refine pure_ (i := 16) (N := some 40) (v := ?_) (a' := ?_) #[true,true,true,true,true,true,true,true,true,true,true,true,true,true,true,true,true] rfl rfl (any_of HT_.out (by kernel_rfl)) (fun _ _ _ h => h) (Or.inl ⟨by rfl, ?_⟩) ?_ ?_
          rotate_left
          ·intro w'
           go_simp
           with_reducible rfl
          rotate_left
          ·simp only [Act.put, List.setIfInBounds_toArray, List.set_cons_zero, List.set_cons_succ, i64_w, i32_w]
           rfl
          refine done_ (done_of HT_.out (by kernel_rfl)) ?_
          try go_wp2
          have n0_ := Aside0.mk (Kd.R_drew HO_178000.out)
          have n1_ := Aside0.mk (Kd.R_drew HO_178001.out)
          have n2_ := Aside0.mk (blk_drew BK173.out)
          have n3_ := Aside0.mk (blk_drew BK177.out)
          have n4_ := Aside0.mk (below_drew1 HB.out)
          clear HO_178000
          clear HO_178001
          clear BK173
          clear BK177
          clear HB
          have HO_178000 := n0_
          have HO_178001 := n1_
          have BK173 := n2_
          have BK177 := n3_
          have HB := n4_
          clear n0_ n1_ n2_ n3_ n4_
          have p182 : 0 ≤ (x10_1 : Int) := oA
          have q182 : x10_1 < (l3.length : Int) := oA
          obtain ⟨ad182, A182_0, c182_0, e182, hx182_0, hl182_0, hi182_0⟩ := at_L2 HR3.out x10_1 p182 q182
          have hw182_0 := hx182_0
          obtain rfl : ad178 = ad182 := (by injection e182)
          (first | (have h_ := hx182_0.symm.trans hx178_0;obtain ⟨rfl, rfl⟩ : A182_0 = A180_0 ∧ c182_0 = c180_0 := (by simpa using h_)) | (have h_ := hx182_0.symm.trans hw178_0;obtain ⟨rfl, rfl⟩ : A182_0 = A180_0 ∧ c182_0 = c180_0 := (by simpa using h_)) | (have h_ := hx182_0.symm.trans HS0_;obtain ⟨rfl, rfl⟩ : A182_0 = A180_0 ∧ c182_0 = c180_0 := (by simpa using h_)) | (have h_ := hx182_0.symm.trans HS1_;obtain ⟨rfl, rfl⟩ : A182_0 = A180_0 ∧ c182_0 = c180_0 := (by simpa using h_)) | (have h_ := hx182_0.symm.trans HS2_;obtain ⟨rfl, rfl⟩ : A182_0 = A180_0 ∧ c182_0 = c180_0 := (by simpa using h_)) | (have h_ := hx182_0.symm.trans HS3_;obtain ⟨rfl, rfl⟩ : A182_0 = A180_0 ∧ c182_0 = c180_0 := (by simpa using h_)) | (have h_ := hx182_0.symm.trans HS4_;obtain ⟨rfl, rfl⟩ : A182_0 = A180_0 ∧ c182_0 = c180_0 := (by simpa using h_)) | (have h_ := hx182_0.symm.trans HS5_;obtain ⟨rfl, rfl⟩ : A182_0 = A180_0 ∧ c182_0 = c180_0 := (by simpa using h_)) | (have h_ := hx182_0.symm.trans HS6_;obtain ⟨rfl, rfl⟩ : A182_0 = A180_0 ∧ c182_0 = c180_0 := (by simpa using h_)) | (have h_ := hx182_0.symm.trans HS7_;obtain ⟨rfl, rfl⟩ : A182_0 = A180_0 ∧ c182_0 = c180_0 := (by simpa using h_)) | (have h_ := hx182_0.symm.trans HS8_;obtain ⟨rfl, rfl⟩ : A182_0 = A180_0 ∧ c182_0 = c180_0 := (by simpa using h_)) | (have h_ := hx182_0.symm.trans HS9_;obtain ⟨rfl, rfl⟩ : A182_0 = A180_0 ∧ c182_0 = c180_0 := (by simpa using h_)))
          replace hx182_0 := (HB.out.cell (World.block_lt_of_cell? w _ hx182_0)).trans hx182_0
          have HR182_0 := Aside0.mk hi182_0
          have HC182_0 := Aside0.mk hl182_0
          clear hi182_0 hl182_0
          replace p182 := eq_true p182
          replace q182 := eq_true q182
          refine start_ (n := 8) (S := fun w' => w'.cell? ⟨gb173, 0, none⟩ = some (.int .i64 a0_0) ∧ w'.cell? ⟨gb173, 1, none⟩ = some (.slice A0_1 l0_1.length c0_1) ∧ w'.cell? ⟨gb177, 0, none⟩ = some (.slice Ao24 x178000_1.length co24) ∧ w'.cell? ⟨gb177, 1, none⟩ = some (.slice Ao25 x178001_1.length co25) ∧ w'.cell? (ad178.add (x10_1).toNat) = some (.slice A182_0 (rd_L2 l3 x10_1).length c182_0)) (ds := [7]) #[false,false,false,false,false,false,false,false] (by kernel_rfl) rfl rfl ⟨(blk_cell BK173.out 0).trans rfl, (blk_cell BK173.out 1).trans rfl, (blk_cell BK177.out 0).trans rfl, (blk_cell BK177.out 1).trans rfl, ((HB.out.cell (World.block_lt_of_cell? w _ hw182_0)).trans hw182_0)⟩ (fun hHeld => ?_);refine with_tabW spec_l8Plan.tab7 spec_l8Plan.bits7 (fun HT_ HW_ => ?_)
          generalize w26.drew = w27 at HO_178000 HO_178001 BK173 BK177 HB HR182_0 hx182_0 hHeld ⊢
          refine pure_ (i := 2) (N := some 43) (v := ?_) (a' := ?_) #[false,false,true,false,false,false,false,false] rfl rfl (any_of HT_.out (by kernel_rfl)) (fun _ _ _ h => h) (Or.inl ⟨by rfl, ?_⟩) ?_ ?_
          rotate_left
          ·intro w'
           go_simp
           with_reducible rfl
          rotate_left
          ·simp only [Act.put, List.setIfInBounds_toArray, List.set_cons_zero, List.set_cons_succ, i64_w, i32_w]
           rfl
          refine pure_ (i := 3) (N := some 44) (v := ?_) (a' := ?_) #[false,false,true,true,false,false,false,false] rfl rfl (any_of HT_.out (by kernel_rfl)) (fun _ _ _ h => h) (Or.inl ⟨by rfl, ?_⟩) ?_ ?_
          rotate_left
          ·intro w'
           go_simp
           with_reducible rfl
          rotate_left
          ·simp only [Act.put, List.setIfInBounds_toArray, List.set_cons_zero, List.set_cons_succ, i64_w, i32_w]
           rfl
          refine pure_ (i := 4) (N := some 45) (v := ?_) (a' := ?_) #[false,false,true,true,true,false,false,false] rfl rfl (any_of HT_.out (by kernel_rfl)) (fun _ _ _ h => h) (Or.inl ⟨by rfl, ?_⟩) ?_ ?_
          rotate_left
          ·intro w'
           go_simp
           with_reducible rfl
          rotate_left
          ·simp only [Act.put, List.setIfInBounds_toArray, List.set_cons_zero, List.set_cons_succ, i64_w, i32_w]
           rfl
          refine take_ (i := 0) (N := some 41) (v := ?_) (a' := ?_) #[true,false,true,true,true,false,false,false] rfl rfl (take_ofW HT_.out HW_.out (by kernel_rfl)) (fun _ _ _ h => h) (Or.inl ⟨by rfl, ?_⟩) hHeld ?_ ?_
          rotate_left
          ·rintro w' ⟨s0, s1, s2, s3, s4⟩
           go_simp
           with_reducible rfl
          rotate_left
          ·simp only [Act.put, List.setIfInBounds_toArray, List.set_cons_zero, List.set_cons_succ, i64_w, i32_w]
           rfl
          refine take_ (i := 1) (N := some 42) (v := ?_) (a' := ?_) #[true,true,true,true,true,false,false,false] rfl rfl (take_ofW HT_.out HW_.out (by kernel_rfl)) (fun _ _ _ h => h) (Or.inl ⟨by rfl, ?_⟩) hHeld ?_ ?_
          rotate_left
          ·rintro w' ⟨s0, s1, s2, s3, s4⟩
           go_simp
           with_reducible rfl
          rotate_left
          ·simp only [Act.put, List.setIfInBounds_toArray, List.set_cons_zero, List.set_cons_succ, i64_w, i32_w]
           rfl
          refine take_ (i := 5) (N := some 46) (v := ?_) (a' := ?_) #[true,true,true,true,true,true,false,false] rfl rfl (take_ofW HT_.out HW_.out (by kernel_rfl)) (fun _ _ _ h => h) (Or.inl ⟨by rfl, ?_⟩) hHeld ?_ ?_
          rotate_left
          ·rintro w' ⟨s0, s1, s2, s3, s4⟩
           go_simp
           with_reducible rfl
          rotate_left
          ·simp only [Act.put, List.setIfInBounds_toArray, List.set_cons_zero, List.set_cons_succ, i64_w, i32_w]
           rfl
          refine one_ (i := 6) (N := some 47) #[true,true,true,true,true,true,true,false] rfl rfl (one_of HT_.out (by kernel_rfl)) (by decide) (fun K hK => ?_)
          refine goes_ Try.func118 (by kernel_rfl) rfl #[.agg #[.int .i64 a0_0, .slice A0_1 l0_1.length c0_1], .agg #[.slice Ao24 x178000_1.length co24, .slice Ao25 x178001_1.length co25], .slice A182_0 (rd_L2 l3 x10_1).length c182_0] (by rfl) rfl rfl mM ?_
          with_reducible refine (spec_l8Round.calls kj11 a0_0 _ _ l0_1 _ _ x178000_1 _ _ x178001_1 _ _ (rd_L2 l3 x10_1) t183 t186 _ ?side1 ?side2 ?side3 ?side4 ?side5 ?side6 ?side7 ?side8 A21.out).mono ?_
          (case side1 => exact cP (Kd.C_below HR0_1.out HB.out))
          (case side2 => exact HC0_1.out)
          (case side3 => exact cP (Kd.R_reads' HO_178000.out).2.2)
          (case side4 => exact (Kd.R_reads' HO_178000.out).2.1)
          (case side5 => exact cP (Kd.R_reads' HO_178001.out).2.2)
          (case side6 => exact (Kd.R_reads' HO_178001.out).2.1)
          (case side7 => exact cP (Kd.C_below HR182_0.out HB.out))
          (case side8 => exact HC182_0.out)
          rintro e w28 ⟨v184, v187, rfl, ho0, ho1, hb⟩
          refine ⟨_, rfl, ?_⟩
          have n0_ := Aside0.mk (Kd.R_mono (Kd.R_told (Kd.R_told (Kd.R_old (by exact rP HO_178000.out) hb) (Kd.R_base ho0)) (Kd.R_base ho1)) (fun _ h_ => h_.1))
          have n1_ := Aside0.mk (Kd.R_mono (Kd.R_told (Kd.R_told (Kd.R_old (by exact rP HO_178001.out) hb) (Kd.R_base ho0)) (Kd.R_base ho1)) (fun _ h_ => h_.1))
          have n2_ := Aside0.mk (Kd.R_lower (Kd.R_new' (Kd.R_new' ho0 (Kd.R_lt (by exact rP HO_178000.out))) (Kd.R_lt (by exact rP HO_178001.out))) (below_size (by exact bB)))
          have n3_ := Aside0.mk (Kd.R_lower (Kd.R_new' (Kd.R_new' ho1 (Kd.R_lt (by exact rP HO_178000.out))) (Kd.R_lt (by exact rP HO_178001.out))) (below_size (by exact bB)))
          have n4_ := Aside0.mk (blk_below (g := gb173) (o := .cells #[.int .i64 a0_0, .slice A0_1 l0_1.length c0_1] 31 (0, 0)) (by exact kP BK173.out) hb)
          have n5_ := Aside0.mk (blk_below (g := gb177) (o := .cells #[.slice Ao24 x178000_1.length co24, .slice Ao25 x178001_1.length co25] 71 (0, 0)) (by exact kP BK177.out) hb)
          have n6_ := Aside0.mk (below_step (by exact bB) hb)
          clear HO_178000
          clear HO_178001
          clear BK173
          clear BK177
          clear HB
          have HO_178000 := n0_
          have HO_178001 := n1_
          have HO185 := n2_
          have HO188 := n3_
          have BK173 := n4_
          have BK177 := n5_
          have HB := n6_
          clear n0_ n1_ n2_ n3_ n4_ n5_ n6_
          (try clear hb)
          (try clear hb2)
          (try clear hk)
          (try clear hi)
          (try clear ho0)
          (try clear ho1)
          obtain ⟨Ao29, co29, eo29⟩ := Kd.R_slice HO185.out
          (first | subst eo29 | (injection eo29 with f1_ f2_ f3_;have f4_ := f1_.symm;have f5_ := f3_.symm;clear f1_ f2_ f3_;subst f4_;subst f5_))
          obtain ⟨Ao31, co31, eo31⟩ := Kd.R_slice HO188.out
          (first | subst eo31 | (injection eo31 with f1_ f2_ f3_;have f4_ := f1_.symm;have f5_ := f3_.symm;clear f1_ f2_ f3_;subst f4_;subst f5_))
          refine hK.out _ _ ⟨(blk_cell BK173.out 0).trans rfl, (blk_cell BK173.out 1).trans rfl, (blk_cell BK177.out 0).trans rfl, (blk_cell BK177.out 1).trans rfl, ((HB.out.cell (World.block_lt_of_cell? w _ hw182_0)).trans hw182_0)⟩ (fun hHeld => ?_)
          clear hK K
          refine norm_ (a' := ?_) ?_ ?_
          rotate_left
          ·show Act.put _ (some 47) _ = _
           simp only [Act.put, List.setIfInBounds_toArray, List.set_cons_zero, List.set_cons_succ, i64_w, i32_w]
           rfl
          refine last_ (i := 7) (N := none) #[true,true,true,true,true,true,true,true] rfl rfl (one_of HT_.out (by kernel_rfl)) (by decide) (fun K hK => ?_)
          have hs30 : w28.cell? ⟨gb177, 0, none⟩ = some (.slice Ao24 x178000_1.length co24) := (blk_cell BK177.out 0).trans rfl
          have hfs30 := blk_frozen BK177.out 0
          have hns30_0 := NB173_177.out
          have hms30_0 := NB177_173.out
          have hs32 : w28.cell? ⟨gb177, 1, none⟩ = some (.slice Ao25 x178001_1.length co25) := (blk_cell BK177.out 1).trans rfl
          have hfs32 := blk_frozen BK177.out 1
          have hns32_0 := NB173_177.out
          have hms32_0 := NB177_173.out
          refine skip_ (w1 := ?_) (by rfl) rfl ?_ ?_
          rotate_left
          ·go_simp
           rfl
          refine hK.out _ _ ?_
          clear hK K
          refine done_ (done_of HT_.out (by kernel_rfl)) ?_
          try go_wp2
          go_roundg kj11
          case measure => have := HK1.out;have := HJ11.out;omega
          case rel => exact ⟨(wrap64 (x10_1 + 1)), (t183), (t186), (.slice Ao29 t183.length co29), (.slice Ao31 t186.length co31), (by first | rfl | (simp;done) | (simp [*];done)), H', ⟨by have := HK1.out;have := HJ11.out;omega⟩, ⟨by refine rP ?_;exact Kd.R_mono (Kd.R_far (p := ⟨gb177, 1, none⟩) (Kd.R_far (p := ⟨gb177, 0, none⟩) (Kd.R_types HO185.out BK177.out (by decide)) (fun _ hk => hk.2) (.slice Ao29 t183.length co29)) (fun _ hk => hk.2) (.slice Ao31 t186.length co31)) (fun _ hk => hk.1.1.1)⟩, ⟨by refine rP ?_;exact Kd.R_mono (Kd.R_far (p := ⟨gb177, 1, none⟩) (Kd.R_far (p := ⟨gb177, 0, none⟩) (Kd.R_types HO188.out BK177.out (by decide)) (fun _ hk => hk.2) (.slice Ao29 t183.length co29)) (fun _ hk => hk.2) (.slice Ao31 t186.length co31)) (fun _ hk => hk.1.1.1)⟩, ⟨by refine kP ?_;refine blk_far ?_ NB173_177.out _;refine kP ?_;refine blk_far ?_ NB173_177.out _;exact kP BK173.out⟩, ⟨by refine kP ?_;refine blk_put (cs := #[.slice Ao29 t183.length co29, .slice Ao25 x178001_1.length co25]) ?_ 1 _ rfl;refine kP ?_;refine blk_put (cs := #[.slice Ao24 x178000_1.length co24, .slice Ao25 x178001_1.length co25]) ?_ 0 _ rfl;exact kP BK177.out⟩, ⟨by exact bB⟩⟩
         ·replace c20 := Bool.eq_false_iff.mpr c20
          subst c20
          have H1 : (some false) = some r := by rw [if_neg (show ¬ (false = true) by decide)] at H;exact H
          clear H
          have H := H1
          clear H1
          obtain rfl := Option.some.inj H
          try go_wp2
          have n0_ := Aside0.mk (Kd.R_drew HO_178000.out)
          have n1_ := Aside0.mk (Kd.R_drew HO_178001.out)
          have n2_ := Aside0.mk (blk_drew BK173.out)
          have n3_ := Aside0.mk (blk_drew BK177.out)
          have n4_ := Aside0.mk (below_drew1 HB.out)
          clear HO_178000
          clear HO_178001
          clear BK173
          clear BK177
          clear HB
          have HO_178000 := n0_
          have HO_178001 := n1_
          have BK173 := n2_
          have BK177 := n3_
          have HB := n4_
          clear n0_ n1_ n2_ n3_ n4_
          have p178 : 0 ≤ (x10_1 : Int) := oA
          have q178 : x10_1 < (l3.length : Int) := oA
          obtain ⟨ad178, A178_0, c178_0, e178, hx178_0, hl178_0, hi178_0⟩ := at_L2 HR3.out x10_1 p178 q178
          have hw178_0 := hx178_0
          cases e178
          replace hx178_0 := (HB.out.cell (World.block_lt_of_cell? w _ hx178_0)).trans hx178_0
          have HR178_0 := Aside0.mk hi178_0
          have HC178_0 := Aside0.mk hl178_0
          clear hi178_0 hl178_0
          replace p178 := eq_true p178
          replace q178 := eq_true q178
          have p180 : 0 ≤ (x10_1 : Int) := oA
          have q180 : x10_1 < (l3.length : Int) := oA
          obtain ⟨ad180, A180_0, c180_0, e180, hx180_0, hl180_0, hi180_0⟩ := at_L2 HR3.out x10_1 p180 q180
          have hw180_0 := hx180_0
          obtain rfl : ad178 = ad180 := (by injection e180)
          (first | (have h_ := hx180_0.symm.trans hx178_0;obtain ⟨rfl, rfl⟩ : A180_0 = A178_0 ∧ c180_0 = c178_0 := (by simpa using h_)) | (have h_ := hx180_0.symm.trans hw178_0;obtain ⟨rfl, rfl⟩ : A180_0 = A178_0 ∧ c180_0 = c178_0 := (by simpa using h_)) | (have h_ := hx180_0.symm.trans HS0_;obtain ⟨rfl, rfl⟩ : A180_0 = A178_0 ∧ c180_0 = c178_0 := (by simpa using h_)) | (have h_ := hx180_0.symm.trans HS1_;obtain ⟨rfl, rfl⟩ : A180_0 = A178_0 ∧ c180_0 = c178_0 := (by simpa using h_)) | (have h_ := hx180_0.symm.trans HS2_;obtain ⟨rfl, rfl⟩ : A180_0 = A178_0 ∧ c180_0 = c178_0 := (by simpa using h_)) | (have h_ := hx180_0.symm.trans HS3_;obtain ⟨rfl, rfl⟩ : A180_0 = A178_0 ∧ c180_0 = c178_0 := (by simpa using h_)) | (have h_ := hx180_0.symm.trans HS4_;obtain ⟨rfl, rfl⟩ : A180_0 = A178_0 ∧ c180_0 = c178_0 := (by simpa using h_)) | (have h_ := hx180_0.symm.trans HS5_;obtain ⟨rfl, rfl⟩ : A180_0 = A178_0 ∧ c180_0 = c178_0 := (by simpa using h_)) | (have h_ := hx180_0.symm.trans HS6_;obtain ⟨rfl, rfl⟩ : A180_0 = A178_0 ∧ c180_0 = c178_0 := (by simpa using h_)) | (have h_ := hx180_0.symm.trans HS7_;obtain ⟨rfl, rfl⟩ : A180_0 = A178_0 ∧ c180_0 = c178_0 := (by simpa using h_)) | (have h_ := hx180_0.symm.trans HS8_;obtain ⟨rfl, rfl⟩ : A180_0 = A178_0 ∧ c180_0 = c178_0 := (by simpa using h_)) | (have h_ := hx180_0.symm.trans HS9_;obtain ⟨rfl, rfl⟩ : A180_0 = A178_0 ∧ c180_0 = c178_0 := (by simpa using h_)))
          replace hx180_0 := (HB.out.cell (World.block_lt_of_cell? w _ hx180_0)).trans hx180_0
          have HR180_0 := Aside0.mk hi180_0
          have HC180_0 := Aside0.mk hl180_0
          clear hi180_0 hl180_0
          replace p180 := eq_true p180
          replace q180 := eq_true q180
          refine start_ (n := 17) (S := fun w' => w'.cell? ⟨gb173, 0, none⟩ = some (.int .i64 a0_0) ∧ w'.cell? ⟨gb173, 1, none⟩ = some (.slice A0_1 l0_1.length c0_1) ∧ w'.cell? ⟨gb177, 0, none⟩ = some (u178000) ∧ w'.cell? ⟨gb177, 1, none⟩ = some (u178001) ∧ w'.cell? (ad178.add (x10_1).toNat) = some (.slice A180_0 (rd_L2 l3 x10_1).length c180_0) ∧ w'.cell? (ad178.add (x10_1).toNat) = some (.slice A180_0 (rd_L2 l3 x10_1).length c180_0)) (ds := []) #[false,false,false,false,false,false,false,false,false,false,false,false,false,false,false,false,false] (by kernel_rfl) rfl rfl ⟨(blk_cell BK173.out 0).trans rfl, (blk_cell BK173.out 1).trans rfl, (blk_cell BK177.out 0).trans rfl, (blk_cell BK177.out 1).trans rfl, ((HB.out.cell (World.block_lt_of_cell? w _ hw178_0)).trans hw178_0), ((HB.out.cell (World.block_lt_of_cell? w _ hw180_0)).trans hw180_0)⟩ (fun hHeld => ?_);refine with_tabW spec_l8Plan.tab5 spec_l8Plan.bits5 (fun HT_ HW_ => ?_)
          generalize wc.drew = w33 at HO_178000 HO_178001 BK173 BK177 HB HR178_0 HR180_0 hx178_0 hx180_0 hHeld ⊢
          refine pure_ (i := 1) (N := some 25) (v := ?_) (a' := ?_) #[false,true,false,false,false,false,false,false,false,false,false,false,false,false,false,false,false] rfl rfl (any_of HT_.out (by kernel_rfl)) (fun _ _ _ h => h) (Or.inl ⟨by rfl, ?_⟩) ?_ ?_
          rotate_left
          ·intro w'
           go_simp
           with_reducible rfl
          rotate_left
          ·simp only [Act.put, List.setIfInBounds_toArray, List.set_cons_zero, List.set_cons_succ, i64_w, i32_w]
           rfl
          refine pure_ (i := 2) (N := some 26) (v := ?_) (a' := ?_) #[false,true,true,false,false,false,false,false,false,false,false,false,false,false,false,false,false] rfl rfl (any_of HT_.out (by kernel_rfl)) (fun _ _ _ h => h) (Or.inl ⟨by rfl, ?_⟩) ?_ ?_
          rotate_left
          ·intro w'
           go_simp
           with_reducible rfl
          rotate_left
          ·simp only [Act.put, List.setIfInBounds_toArray, List.set_cons_zero, List.set_cons_succ, i64_w, i32_w]
           rfl
          refine pure_ (i := 3) (N := some 27) (v := ?_) (a' := ?_) #[false,true,true,true,false,false,false,false,false,false,false,false,false,false,false,false,false] rfl rfl (any_of HT_.out (by kernel_rfl)) (fun _ _ _ h => h) (Or.inl ⟨by rfl, ?_⟩) ?_ ?_
          rotate_left
          ·intro w'
           go_simp
           with_reducible rfl
          rotate_left
          ·simp only [Act.put, List.setIfInBounds_toArray, List.set_cons_zero, List.set_cons_succ, i64_w, i32_w]
           rfl
          refine pure_ (i := 5) (N := some 29) (v := ?_) (a' := ?_) #[false,true,true,true,false,true,false,false,false,false,false,false,false,false,false,false,false] rfl rfl (any_of HT_.out (by kernel_rfl)) (fun _ _ _ h => h) (Or.inl ⟨by rfl, ?_⟩) ?_ ?_
          rotate_left
          ·intro w'
           go_simp
           with_reducible rfl
          rotate_left
          ·simp only [Act.put, List.setIfInBounds_toArray, List.set_cons_zero, List.set_cons_succ, i64_w, i32_w]
           rfl
          refine take_ (i := 0) (N := some 24) (v := ?_) (a' := ?_) #[true,true,true,true,false,true,false,false,false,false,false,false,false,false,false,false,false] rfl rfl (take_ofW HT_.out HW_.out (by kernel_rfl)) (fun _ _ _ h => h) (Or.inl ⟨by rfl, ?_⟩) hHeld ?_ ?_
          rotate_left
          ·rintro w' ⟨s0, s1, s2, s3, s4, s5⟩
           go_simp
           with_reducible rfl
          rotate_left
          ·simp only [Act.put, List.setIfInBounds_toArray, List.set_cons_zero, List.set_cons_succ, i64_w, i32_w]
           rfl
          refine take_ (i := 4) (N := some 28) (v := ?_) (a' := ?_) #[true,true,true,true,true,true,false,false,false,false,false,false,false,false,false,false,false] rfl rfl (take_ofW HT_.out HW_.out (by kernel_rfl)) (fun _ _ _ h => h) (Or.inl ⟨by rfl, ?_⟩) hHeld ?_ ?_
          rotate_left
          ·rintro w' ⟨s0, s1, s2, s3, s4, s5⟩
           go_simp
           with_reducible rfl
          rotate_left
          ·simp only [Act.put, List.setIfInBounds_toArray, List.set_cons_zero, List.set_cons_succ, i64_w, i32_w]
           rfl
          refine one_ (i := 6) (N := some 30) #[true,true,true,true,true,true,true,false,false,false,false,false,false,false,false,false,false] rfl rfl (one_of HT_.out (by kernel_rfl)) (by decide) (fun K hK => ?_)
          refine goes_ Try.func116 (by kernel_rfl) rfl #[.agg #[.int .i64 a0_0, .slice A0_1 l0_1.length c0_1], .slice A180_0 (rd_L2 l3 x10_1).length c180_0, .int .i64 a2] (by rfl) rfl rfl mM ?_
          with_reducible refine (spec_l8Set.calls kj11 a0_0 _ _ l0_1 _ _ (rd_L2 l3 x10_1) a2 true _ ?side1 ?side2 ?side3 ?side4 A17.out).mono ?_
          (case side1 => exact cP (Kd.C_below HR0_1.out HB.out))
          (case side2 => exact HC0_1.out)
          (case side3 => exact cP (Kd.C_below HR178_0.out HB.out))
          (case side4 => exact HC178_0.out)
          rintro e w34 ⟨rfl, hb⟩
          refine ⟨_, rfl, ?_⟩
          have n0_ := Aside0.mk (Kd.R_below (by exact rP HO_178000.out) hb)
          have n1_ := Aside0.mk (Kd.R_below (by exact rP HO_178001.out) hb)
          have n2_ := Aside0.mk (blk_below (g := gb173) (o := .cells #[.int .i64 a0_0, .slice A0_1 l0_1.length c0_1] 31 (0, 0)) (by exact kP BK173.out) hb)
          have n3_ := Aside0.mk (blk_below (g := gb177) (o := .cells #[u178000, u178001] 71 (0, 0)) (by exact kP BK177.out) hb)
          have n4_ := Aside0.mk (below_step (by exact bB) hb)
          clear HO_178000
          clear HO_178001
          clear BK173
          clear BK177
          clear HB
          have HO_178000 := n0_
          have HO_178001 := n1_
          have BK173 := n2_
          have BK177 := n3_
          have HB := n4_
          clear n0_ n1_ n2_ n3_ n4_
          (try clear hb)
          (try clear hb2)
          (try clear hk)
          (try clear hi)
          obtain ⟨Ao35, co35, eo35⟩ := Kd.R_slice HO_178000.out
          (first | subst eo35 | (injection eo35 with f1_ f2_ f3_;have f4_ := f1_.symm;have f5_ := f3_.symm;clear f1_ f2_ f3_;subst f4_;subst f5_))
          obtain ⟨Ao36, co36, eo36⟩ := Kd.R_slice HO_178001.out
          (first | subst eo36 | (injection eo36 with f1_ f2_ f3_;have f4_ := f1_.symm;have f5_ := f3_.symm;clear f1_ f2_ f3_;subst f4_;subst f5_))
          refine hK.out _ _ ⟨(blk_cell BK173.out 0).trans rfl, (blk_cell BK173.out 1).trans rfl, (blk_cell BK177.out 0).trans rfl, (blk_cell BK177.out 1).trans rfl, ((HB.out.cell (World.block_lt_of_cell? w _ hw178_0)).trans hw178_0), ((HB.out.cell (World.block_lt_of_cell? w _ hw180_0)).trans hw180_0)⟩ (fun hHeld => ?_)
          clear hK K
          refine norm_ (a' := ?_) ?_ ?_
          rotate_left
          ·show Act.put _ (some 30) _ = _
           simp only [Act.put, List.setIfInBounds_toArray, List.set_cons_zero, List.set_cons_succ, i64_w, i32_w]
           rfl
          refine pure_ (i := 7) (N := some 31) (v := ?_) (a' := ?_) #[true,true,true,true,true,true,true,true,false,false,false,false,false,false,false,false,false] rfl rfl (any_of HT_.out (by kernel_rfl)) (fun _ _ _ h => h) (Or.inl ⟨by rfl, ?_⟩) ?_ ?_
          rotate_left
          ·intro w'
           go_simp
           with_reducible rfl
          rotate_left
          ·simp only [Act.put, List.setIfInBounds_toArray, List.set_cons_zero, List.set_cons_succ, i64_w, i32_w]
           rfl
          refine pure_ (i := 8) (N := some 32) (v := ?_) (a' := ?_) #[true,true,true,true,true,true,true,true,true,false,false,false,false,false,false,false,false] rfl rfl (any_of HT_.out (by kernel_rfl)) (fun _ _ _ h => h) (Or.inl ⟨by rfl, ?_⟩) ?_ ?_
          rotate_left
          ·intro w'
           go_simp
           with_reducible rfl
          rotate_left
          ·simp only [Act.put, List.setIfInBounds_toArray, List.set_cons_zero, List.set_cons_succ, i64_w, i32_w]
           rfl
          refine pure_ (i := 10) (N := some 34) (v := ?_) (a' := ?_) #[true,true,true,true,true,true,true,true,true,false,true,false,false,false,false,false,false] rfl rfl (any_of HT_.out (by kernel_rfl)) (fun _ _ _ h => h) (Or.inl ⟨by rfl, ?_⟩) ?_ ?_
          rotate_left
          ·intro w'
           go_simp
           with_reducible rfl
          rotate_left
          ·simp only [Act.put, List.setIfInBounds_toArray, List.set_cons_zero, List.set_cons_succ, i64_w, i32_w]
           rfl
          refine pure_ (i := 11) (N := some 35) (v := ?_) (a' := ?_) #[true,true,true,true,true,true,true,true,true,false,true,true,false,false,false,false,false] rfl rfl (any_of HT_.out (by kernel_rfl)) (fun _ _ _ h => h) (Or.inl ⟨by rfl, ?_⟩) ?_ ?_
          rotate_left
          ·intro w'
           go_simp
           with_reducible rfl
          rotate_left
          ·simp only [Act.put, List.setIfInBounds_toArray, List.set_cons_zero, List.set_cons_succ, i64_w, i32_w]
           rfl
          refine pure_ (i := 12) (N := some 36) (v := ?_) (a' := ?_) #[true,true,true,true,true,true,true,true,true,false,true,true,true,false,false,false,false] rfl rfl (any_of HT_.out (by kernel_rfl)) (fun _ _ _ h => h) (Or.inl ⟨by rfl, ?_⟩) ?_ ?_
          rotate_left
          ·intro w'
           go_simp
           with_reducible rfl
          rotate_left
          ·simp only [Act.put, List.setIfInBounds_toArray, List.set_cons_zero, List.set_cons_succ, i64_w, i32_w]
           rfl
          refine take_ (i := 9) (N := some 33) (v := ?_) (a' := ?_) #[true,true,true,true,true,true,true,true,true,true,true,true,true,false,false,false,false] rfl rfl (take_ofW HT_.out HW_.out (by kernel_rfl)) (fun _ _ _ h => h) (Or.inl ⟨by rfl, ?_⟩) hHeld ?_ ?_
          rotate_left
          ·rintro w' ⟨s0, s1, s2, s3, s4, s5⟩
           go_simp
           with_reducible rfl
          rotate_left
          ·simp only [Act.put, List.setIfInBounds_toArray, List.set_cons_zero, List.set_cons_succ, i64_w, i32_w]
           rfl
          refine take_ (i := 13) (N := some 37) (v := ?_) (a' := ?_) #[true,true,true,true,true,true,true,true,true,true,true,true,true,true,false,false,false] rfl rfl (take_ofW HT_.out HW_.out (by kernel_rfl)) (fun _ _ _ h => h) (Or.inl ⟨by rfl, ?_⟩) hHeld ?_ ?_
          rotate_left
          ·rintro w' ⟨s0, s1, s2, s3, s4, s5⟩
           go_simp
           with_reducible rfl
          rotate_left
          ·simp only [Act.put, List.setIfInBounds_toArray, List.set_cons_zero, List.set_cons_succ, i64_w, i32_w]
           rfl
          refine one_ (i := 14) (N := some 38) #[true,true,true,true,true,true,true,true,true,true,true,true,true,true,true,false,false] rfl rfl (one_of HT_.out (by kernel_rfl)) (by decide) (fun K hK => ?_)
          refine goes_ Try.func117 (by kernel_rfl) rfl #[.agg #[.slice Ao35 x178000_1.length co35, .slice Ao36 x178001_1.length co36], .slice A180_0 (rd_L2 l3 x10_1).length c180_0] (by rfl) rfl rfl mM ?_
          with_reducible refine (spec_l8Apart.calls kj11 _ _ x178000_1 _ _ x178001_1 _ _ (rd_L2 l3 x10_1) false _ ?side1 ?side2 ?side3 ?side4 ?side5 ?side6 A19.out).mono ?_
          (case side1 => exact cP (Kd.R_reads' HO_178000.out).2.2)
          (case side2 => exact (Kd.R_reads' HO_178000.out).2.1)
          (case side3 => exact cP (Kd.R_reads' HO_178001.out).2.2)
          (case side4 => exact (Kd.R_reads' HO_178001.out).2.1)
          (case side5 => exact cP (Kd.C_below HR180_0.out HB.out))
          (case side6 => exact HC180_0.out)
          rintro e w37 ⟨rfl, hb⟩
          refine ⟨_, rfl, ?_⟩
          have n0_ := Aside0.mk (Kd.R_below (by exact rP HO_178000.out) hb)
          have n1_ := Aside0.mk (Kd.R_below (by exact rP HO_178001.out) hb)
          have n2_ := Aside0.mk (blk_below (g := gb173) (o := .cells #[.int .i64 a0_0, .slice A0_1 l0_1.length c0_1] 31 (0, 0)) (by exact kP BK173.out) hb)
          have n3_ := Aside0.mk (blk_below (g := gb177) (o := .cells #[.slice Ao35 x178000_1.length co35, .slice Ao36 x178001_1.length co36] 71 (0, 0)) (by exact kP BK177.out) hb)
          have n4_ := Aside0.mk (below_step (by exact bB) hb)
          clear HO_178000
          clear HO_178001
          clear BK173
          clear BK177
          clear HB
          have HO_178000 := n0_
          have HO_178001 := n1_
          have BK173 := n2_
          have BK177 := n3_
          have HB := n4_
          clear n0_ n1_ n2_ n3_ n4_
          (try clear hb)
          (try clear hb2)
          (try clear hk)
          (try clear hi)
          refine hK.out _ _ ⟨(blk_cell BK173.out 0).trans rfl, (blk_cell BK173.out 1).trans rfl, (blk_cell BK177.out 0).trans rfl, (blk_cell BK177.out 1).trans rfl, ((HB.out.cell (World.block_lt_of_cell? w _ hw178_0)).trans hw178_0), ((HB.out.cell (World.block_lt_of_cell? w _ hw180_0)).trans hw180_0)⟩ (fun hHeld => ?_)
          clear hK K
          refine norm_ (a' := ?_) ?_ ?_
          rotate_left
          ·show Act.put _ (some 38) _ = _
           simp only [Act.put, List.setIfInBounds_toArray, List.set_cons_zero, List.set_cons_succ, i64_w, i32_w]
           rfl
          refine pure_ (i := 15) (N := some 39) (v := ?_) (a' := ?_) #[true,true,true,true,true,true,true,true,true,true,true,true,true,true,true,true,false] rfl rfl (any_of HT_.out (by kernel_rfl)) (fun _ _ _ h => h) (Or.inl ⟨by rfl, ?_⟩) ?_ ?_
          rotate_left
          ·intro w'
           go_simp
           with_reducible rfl
          rotate_left
          ·simp only [Act.put, List.setIfInBounds_toArray, List.set_cons_zero, List.set_cons_succ, i64_w, i32_w]
           rfl
          refine pure_ (i := 16) (N := some 40) (v := ?_) (a' := ?_) #[true,true,true,true,true,true,true,true,true,true,true,true,true,true,true,true,true] rfl rfl (any_of HT_.out (by kernel_rfl)) (fun _ _ _ h => h) (Or.inl ⟨by rfl, ?_⟩) ?_ ?_
          rotate_left
          ·intro w'
           go_simp
           with_reducible rfl
          rotate_left
          ·simp only [Act.put, List.setIfInBounds_toArray, List.set_cons_zero, List.set_cons_succ, i64_w, i32_w]
           rfl
          refine done_ (done_of HT_.out (by kernel_rfl)) ?_
          try go_wp2
          go_ret
          exact ⟨by first | rfl | (simp [errW_none, errW_some] <;> rfl) | (simp [*, errW_none, errW_some] <;> rfl), by exact bB⟩
        ·replace c18 := Bool.eq_false_iff.mpr c18
         subst c18
         have H1 : (some false) = some r := by rw [if_neg (show ¬ (false = true) by decide)] at H;exact H
         clear H
         have H := H1
         clear H1
         obtain rfl := Option.some.inj H
         try go_wp2
         have n0_ := Aside0.mk (Kd.R_drew HO_178000.out)
         have n1_ := Aside0.mk (Kd.R_drew HO_178001.out)
         have n2_ := Aside0.mk (blk_drew BK173.out)
         have n3_ := Aside0.mk (blk_drew BK177.out)
         have n4_ := Aside0.mk (below_drew1 HB.out)
         clear HO_178000
         clear HO_178001
         clear BK173
         clear BK177
         clear HB
         have HO_178000 := n0_
         have HO_178001 := n1_
         have BK173 := n2_
         have BK177 := n3_
         have HB := n4_
         clear n0_ n1_ n2_ n3_ n4_
         have p178 : 0 ≤ (x10_1 : Int) := oA
         have q178 : x10_1 < (l3.length : Int) := oA
         obtain ⟨ad178, A178_0, c178_0, e178, hx178_0, hl178_0, hi178_0⟩ := at_L2 HR3.out x10_1 p178 q178
         have hw178_0 := hx178_0
         cases e178
         replace hx178_0 := (HB.out.cell (World.block_lt_of_cell? w _ hx178_0)).trans hx178_0
         have HR178_0 := Aside0.mk hi178_0
         have HC178_0 := Aside0.mk hl178_0
         clear hi178_0 hl178_0
         replace p178 := eq_true p178
         replace q178 := eq_true q178
         refine start_ (n := 17) (S := fun w' => w'.cell? ⟨gb173, 0, none⟩ = some (.int .i64 a0_0) ∧ w'.cell? ⟨gb173, 1, none⟩ = some (.slice A0_1 l0_1.length c0_1) ∧ w'.cell? (ad178.add (x10_1).toNat) = some (.slice A178_0 (rd_L2 l3 x10_1).length c178_0)) (ds := []) #[false,false,false,false,false,false,false,false,false,false,false,false,false,false,false,false,false] (by kernel_rfl) rfl rfl ⟨(blk_cell BK173.out 0).trans rfl, (blk_cell BK173.out 1).trans rfl, ((HB.out.cell (World.block_lt_of_cell? w _ hw178_0)).trans hw178_0)⟩ (fun hHeld => ?_);refine with_tabW spec_l8Plan.tab5 spec_l8Plan.bits5 (fun HT_ HW_ => ?_)
         generalize wc.drew = w38 at HO_178000 HO_178001 BK173 BK177 HB HR178_0 hx178_0 hHeld ⊢
         refine pure_ (i := 1) (N := some 25) (v := ?_) (a' := ?_) #[false,true,false,false,false,false,false,false,false,false,false,false,false,false,false,false,false] rfl rfl (any_of HT_.out (by kernel_rfl)) (fun _ _ _ h => h) (Or.inl ⟨by rfl, ?_⟩) ?_ ?_
         rotate_left
         ·intro w'
          go_simp
          with_reducible rfl
         rotate_left
         ·simp only [Act.put, List.setIfInBounds_toArray, List.set_cons_zero, List.set_cons_succ, i64_w, i32_w]
          rfl
         refine pure_ (i := 2) (N := some 26) (v := ?_) (a' := ?_) #[false,true,true,false,false,false,false,false,false,false,false,false,false,false,false,false,false] rfl rfl (any_of HT_.out (by kernel_rfl)) (fun _ _ _ h => h) (Or.inl ⟨by rfl, ?_⟩) ?_ ?_
         rotate_left
         ·intro w'
          go_simp
          with_reducible rfl
         rotate_left
         ·simp only [Act.put, List.setIfInBounds_toArray, List.set_cons_zero, List.set_cons_succ, i64_w, i32_w]
          rfl
         refine pure_ (i := 3) (N := some 27) (v := ?_) (a' := ?_) #[false,true,true,true,false,false,false,false,false,false,false,false,false,false,false,false,false] rfl rfl (any_of HT_.out (by kernel_rfl)) (fun _ _ _ h => h) (Or.inl ⟨by rfl, ?_⟩) ?_ ?_
         rotate_left
         ·intro w'
          go_simp
          with_reducible rfl
         rotate_left
         ·simp only [Act.put, List.setIfInBounds_toArray, List.set_cons_zero, List.set_cons_succ, i64_w, i32_w]
          rfl
         refine pure_ (i := 5) (N := some 29) (v := ?_) (a' := ?_) #[false,true,true,true,false,true,false,false,false,false,false,false,false,false,false,false,false] rfl rfl (any_of HT_.out (by kernel_rfl)) (fun _ _ _ h => h) (Or.inl ⟨by rfl, ?_⟩) ?_ ?_
         rotate_left
         ·intro w'
          go_simp
          with_reducible rfl
         rotate_left
         ·simp only [Act.put, List.setIfInBounds_toArray, List.set_cons_zero, List.set_cons_succ, i64_w, i32_w]
          rfl
         refine take_ (i := 0) (N := some 24) (v := ?_) (a' := ?_) #[true,true,true,true,false,true,false,false,false,false,false,false,false,false,false,false,false] rfl rfl (take_ofW HT_.out HW_.out (by kernel_rfl)) (fun _ _ _ h => h) (Or.inl ⟨by rfl, ?_⟩) hHeld ?_ ?_
         rotate_left
         ·rintro w' ⟨s0, s1, s2⟩
          go_simp
          with_reducible rfl
         rotate_left
         ·simp only [Act.put, List.setIfInBounds_toArray, List.set_cons_zero, List.set_cons_succ, i64_w, i32_w]
          rfl
         refine take_ (i := 4) (N := some 28) (v := ?_) (a' := ?_) #[true,true,true,true,true,true,false,false,false,false,false,false,false,false,false,false,false] rfl rfl (take_ofW HT_.out HW_.out (by kernel_rfl)) (fun _ _ _ h => h) (Or.inl ⟨by rfl, ?_⟩) hHeld ?_ ?_
         rotate_left
         ·rintro w' ⟨s0, s1, s2⟩
          go_simp
          with_reducible rfl
         rotate_left
         ·simp only [Act.put, List.setIfInBounds_toArray, List.set_cons_zero, List.set_cons_succ, i64_w, i32_w]
          rfl
         refine one_ (i := 6) (N := some 30) #[true,true,true,true,true,true,true,false,false,false,false,false,false,false,false,false,false] rfl rfl (one_of HT_.out (by kernel_rfl)) (by decide) (fun K hK => ?_)
         refine goes_ Try.func116 (by kernel_rfl) rfl #[.agg #[.int .i64 a0_0, .slice A0_1 l0_1.length c0_1], .slice A178_0 (rd_L2 l3 x10_1).length c178_0, .int .i64 a2] (by rfl) rfl rfl mM ?_
         with_reducible refine (spec_l8Set.calls kj11 a0_0 _ _ l0_1 _ _ (rd_L2 l3 x10_1) a2 false _ ?side1 ?side2 ?side3 ?side4 A17.out).mono ?_
         (case side1 => exact cP (Kd.C_below HR0_1.out HB.out))
         (case side2 => exact HC0_1.out)
         (case side3 => exact cP (Kd.C_below HR178_0.out HB.out))
         (case side4 => exact HC178_0.out)
         rintro e w39 ⟨rfl, hb⟩
         refine ⟨_, rfl, ?_⟩
         have n0_ := Aside0.mk (Kd.R_below (by exact rP HO_178000.out) hb)
         have n1_ := Aside0.mk (Kd.R_below (by exact rP HO_178001.out) hb)
         have n2_ := Aside0.mk (blk_below (g := gb173) (o := .cells #[.int .i64 a0_0, .slice A0_1 l0_1.length c0_1] 31 (0, 0)) (by exact kP BK173.out) hb)
         have n3_ := Aside0.mk (blk_below (g := gb177) (o := .cells #[u178000, u178001] 71 (0, 0)) (by exact kP BK177.out) hb)
         have n4_ := Aside0.mk (below_step (by exact bB) hb)
         clear HO_178000
         clear HO_178001
         clear BK173
         clear BK177
         clear HB
         have HO_178000 := n0_
         have HO_178001 := n1_
         have BK173 := n2_
         have BK177 := n3_
         have HB := n4_
         clear n0_ n1_ n2_ n3_ n4_
         (try clear hb)
         (try clear hb2)
         (try clear hk)
         (try clear hi)
         refine hK.out _ _ ⟨(blk_cell BK173.out 0).trans rfl, (blk_cell BK173.out 1).trans rfl, ((HB.out.cell (World.block_lt_of_cell? w _ hw178_0)).trans hw178_0)⟩ (fun hHeld => ?_)
         clear hK K
         refine norm_ (a' := ?_) ?_ ?_
         rotate_left
         ·show Act.put _ (some 30) _ = _
          simp only [Act.put, List.setIfInBounds_toArray, List.set_cons_zero, List.set_cons_succ, i64_w, i32_w]
          rfl
         refine pure_ (i := 7) (N := some 31) (v := ?_) (a' := ?_) #[true,true,true,true,true,true,true,true,false,false,false,false,false,false,false,false,false] rfl rfl (any_of HT_.out (by kernel_rfl)) (fun _ _ _ h => h) (Or.inl ⟨by rfl, ?_⟩) ?_ ?_
         rotate_left
         ·intro w'
          go_simp
          with_reducible rfl
         rotate_left
         ·simp only [Act.put, List.setIfInBounds_toArray, List.set_cons_zero, List.set_cons_succ, i64_w, i32_w]
          rfl
         refine pure_ (i := 8) (N := some 32) (v := ?_) (a' := ?_) #[true,true,true,true,true,true,true,true,true,false,false,false,false,false,false,false,false] rfl rfl (any_of HT_.out (by kernel_rfl)) (fun _ _ _ h => h) (Or.inl ⟨by rfl, ?_⟩) ?_ ?_
         rotate_left
         ·intro w'
          go_simp
          with_reducible rfl
         rotate_left
         ·simp only [Act.put, List.setIfInBounds_toArray, List.set_cons_zero, List.set_cons_succ, i64_w, i32_w]
          rfl
         refine pure_ (i := 9) (N := some 33) (v := undef) (a' := ?_) #[true,true,true,true,true,true,true,true,true,true,false,false,false,false,false,false,false] rfl rfl (any_of HT_.out (by kernel_rfl)) (fun _ _ _ h => h) (Or.inr ⟨by rfl, rfl⟩) ?_ ?_
         rotate_left
         ·simp only [Act.put, List.setIfInBounds_toArray, List.set_cons_zero, List.set_cons_succ, i64_w, i32_w]
          rfl
         refine pure_ (i := 10) (N := some 34) (v := undef) (a' := ?_) #[true,true,true,true,true,true,true,true,true,true,true,false,false,false,false,false,false] rfl rfl (any_of HT_.out (by kernel_rfl)) (fun _ _ _ h => h) (Or.inr ⟨by rfl, rfl⟩) ?_ ?_
         rotate_left
         ·simp only [Act.put, List.setIfInBounds_toArray, List.set_cons_zero, List.set_cons_succ, i64_w, i32_w]
          rfl
         refine pure_ (i := 11) (N := some 35) (v := undef) (a' := ?_) #[true,true,true,true,true,true,true,true,true,true,true,true,false,false,false,false,false] rfl rfl (any_of HT_.out (by kernel_rfl)) (fun _ _ _ h => h) (Or.inr ⟨by rfl, rfl⟩) ?_ ?_
         rotate_left
         ·simp only [Act.put, List.setIfInBounds_toArray, List.set_cons_zero, List.set_cons_succ, i64_w, i32_w]
          rfl
         refine pure_ (i := 12) (N := some 36) (v := undef) (a' := ?_) #[true,true,true,true,true,true,true,true,true,true,true,true,true,false,false,false,false] rfl rfl (any_of HT_.out (by kernel_rfl)) (fun _ _ _ h => h) (Or.inr ⟨by rfl, rfl⟩) ?_ ?_
         rotate_left
         ·simp only [Act.put, List.setIfInBounds_toArray, List.set_cons_zero, List.set_cons_succ, i64_w, i32_w]
          rfl
         refine pure_ (i := 13) (N := some 37) (v := undef) (a' := ?_) #[true,true,true,true,true,true,true,true,true,true,true,true,true,true,false,false,false] rfl rfl (any_of HT_.out (by kernel_rfl)) (fun _ _ _ h => h) (Or.inr ⟨by rfl, rfl⟩) ?_ ?_
         rotate_left
         ·simp only [Act.put, List.setIfInBounds_toArray, List.set_cons_zero, List.set_cons_succ, i64_w, i32_w]
          rfl
         refine pure_ (i := 14) (N := some 38) (v := undef) (a' := ?_) #[true,true,true,true,true,true,true,true,true,true,true,true,true,true,true,false,false] rfl rfl (any_of HT_.out (by kernel_rfl)) (fun _ _ _ h => h) (Or.inr ⟨by rfl, rfl⟩) ?_ ?_
         rotate_left
         ·simp only [Act.put, List.setIfInBounds_toArray, List.set_cons_zero, List.set_cons_succ, i64_w, i32_w]
          rfl
         refine pure_ (i := 15) (N := some 39) (v := undef) (a' := ?_) #[true,true,true,true,true,true,true,true,true,true,true,true,true,true,true,true,false] rfl rfl (any_of HT_.out (by kernel_rfl)) (fun _ _ _ h => h) (Or.inr ⟨by rfl, rfl⟩) ?_ ?_
         rotate_left
         ·simp only [Act.put, List.setIfInBounds_toArray, List.set_cons_zero, List.set_cons_succ, i64_w, i32_w]
          rfl
         refine pure_ (i := 16) (N := some 40) (v := ?_) (a' := ?_) #[true,true,true,true,true,true,true,true,true,true,true,true,true,true,true,true,true] rfl rfl (any_of HT_.out (by kernel_rfl)) (fun _ _ _ h => h) (Or.inl ⟨by rfl, ?_⟩) ?_ ?_
         rotate_left
         ·intro w'
          go_simp
          with_reducible rfl
         rotate_left
         ·simp only [Act.put, List.setIfInBounds_toArray, List.set_cons_zero, List.set_cons_succ, i64_w, i32_w]
          rfl
         refine done_ (done_of HT_.out (by kernel_rfl)) ?_
         try go_wp2
         go_ret
         exact ⟨by first | rfl | (simp [errW_none, errW_some] <;> rfl) | (simp [*, errW_none, errW_some] <;> rfl), by exact bB⟩
       ·rw [if_neg c16] at H
        exact absurd H (by simp)
      ·rw [if_neg c15] at H
       exact absurd H (by simp)
     ·replace c14 := Bool.eq_false_iff.mpr c14
      subst c14
      have H1 : (some (decide ((l3.length : Int) ≤ 8))) = some r := by rw [if_neg (show ¬ (false = true) by decide)] at H;exact H
      clear H
      have H := H1
      clear H1
      obtain rfl := Option.some.inj H
      go_wp2
      go_ret
      exact ⟨by first | rfl | (simp [errW_none, errW_some] <;> rfl) | (simp [*, errW_none, errW_some] <;> rfl), by exact bB⟩




end Go.Proofs.Ytmokkhfmbenleaa.QSavedNodes
