import Derived.Test.YtmokkhfmbenleaaQSpreading0
import Derived.Test.YtmokkhfmbenleaaQSpreading2
import Derived.Test.YtmokkhfmbenleaaQSpreading3
namespace Go.Proofs.Ytmokkhfmbenleaa.QSpreading
open Go.RowKit Go.Proofs.YtmokkhfmbenleaaW.PrintWords Go.Proofs.YtmokkhfmbenleaaW.PrintLast Go.Proofs.YtmokkhfmbenleaaW.PrintMore
attribute [local go_sem] max2_int min2_int max_two min_two max_three min_three max_four min_four   -- for this text's walks alone
set_option linter.unusedVariables false
set_option linter.unusedSimpArgs false
/-! ### spec_l2Cycle: function 133 -/
def spec_l2Cycle.f (k : Nat) (a0 : Int) : Option (Int × (List (S119))) := (spec_l2Path.f k a0).bind fun bt438 => ((spec_l2Put.f k bt438.2 0 (wrap64 (a0 - 1))).bind fun t443 => (some (bt438.1, t443)))
theorem spec_l2Cycle.mono : ∀ a0 k, LeO (spec_l2Cycle.f k a0) (spec_l2Cycle.f (k + 1) a0) := by
 intro a0 k
 unfold spec_l2Cycle.f
 repeat' first
   | (with_reducible exact spec_l2Path.mono _ _)
   | (with_reducible exact spec_l2Put.mono _ _ _ _)
   | (with_reducible exact LeO.refl _)
   | (with_reducible exact LeO.none _)
   | (with_reducible refine LeO.ite ?_ ?_)
   | (with_reducible refine LeO.bind ?_ (fun _ => ?_))
   | exact LeO.none _
   | refine LeO.ite ?_ ?_
   | refine LeO.bind ?_ (fun _ => ?_)
set_option maxHeartbeats 8000000 in
set_option maxRecDepth 100000 in
theorem spec_l2Cycle.calls (k : Nat) (a0 : Int) (r1 : Int) (r2 : List (S119)) (w : World) (h : spec_l2Cycle.f k a0 = some (r1, r2)) :
  Calls Try.prog 133 #[.int .i64 a0] w fun e w' => ∃ v1_ : Value, e = .returned (.agg #[.int .i64 r1, v1_]) ∧ Kd.R k119 119 w' w.heap.size (fun _ => True) v1_ r2 ∧ Below w.heap.size w w' := by
 have hu31 := Try.underlying31
 have hu119 := Try.underlying119
 have HB := aM (Below.refl w.heap.size w)
 have H : ((spec_l2Path.f k a0).bind fun bt438 => ((spec_l2Put.f k bt438.2 0 (wrap64 (a0 - 1))).bind fun t443 => (some (bt438.1, t443)))) = some (r1, r2) := h
 clear h
 replace H := Option.bind_eq_some_iff.mp H
 obtain ⟨⟨t438, t439⟩, A20, H⟩ := H
 replace H : ((spec_l2Put.f k t439 0 (wrap64 (a0 - 1))).bind fun t443 => (some (t438, t443))) = some (r1, r2) := H
 have A2 := Aside0.mk A20
 clear A20
 replace H := Option.bind_eq_some_iff.mp H
 obtain ⟨t443, A30, H⟩ := H
 replace H : (some (t438, t443)) = some (r1, r2) := H
 have A3 := Aside0.mk A30
 clear A30
 simp only [Option.some.injEq, Prod.mk.injEq] at H
 obtain ⟨rfl, rfl⟩ := H
 go_enter Try.func133, Try.ntmps133
 go_wp2_with (first | ((with_reducible refine gate_dst (N := 2) rfl ?_);refine box_event ?hg (N := 2) ?hd (cs := #[.int .i64 0, .slice none 0 0]) (t := 31) ?hr ?_;(case hd => rfl);(case hg => rfl);(case hr => first | (go_simp;done) | (go_simp;rfl));intro gb437 hg w4 hbox hb;have n0_ := aM (below_step (by exact bB) hb);have n1_ := aM (hbox);have n2_ := aM (sW hg : w.heap.size ≤ gb437);have n3_ := aM (sW hg : w.heap.size ≤ gb437);clear HB;have HB := n0_;have BK437 := n1_;have GW437 := n2_;have GE437 := n3_;clear n0_ n1_ n2_ n3_;clear hb hbox hg) | ((with_reducible refine gate_callee (f := 132) rfl ?_);refine goesL_ (some 5) rfl rfl Try.func132 (by kernel_rfl) rfl #[.int .i64 a0] rfl mM ?_;(with_reducible refine (spec_l2Path.calls k a0 t438 t439 _ A2.out).mono ?_);rintro e w5 ⟨v440, rfl, ho0, hb⟩;refine ⟨_, rfl, ?_⟩;have n0_ := aM (Kd.R_lower ho0 (below_size (by exact bB)));have n1_ := aM (kB hb BK437.out);have n2_ := aM (below_step (by exact bB) hb);clear BK437;clear HB;have HO441 := n0_;have BK437 := n1_;have HB := n2_;clear n0_ n1_ n2_;(try clear hb);(try clear hb2);(try clear hk);(try clear hi);(try clear ho0)) | ((with_reducible refine gate_dst (N := 3) rfl ?_);refine box_event ?hg (N := 3) ?hd (cs := #[.int .i64 0, .slice none 0 0]) (t := 31) ?hr ?_;(case hd => rfl);(case hg => rfl);(case hr => first | (go_simp;done) | (go_simp;rfl));intro gb442 hg w6 hbox hb;have n0_ := aM (Kd.R_below (by exact rP HO441.out) hb);have n1_ := aM (kB hb BK437.out);have n2_ := aM (below_step (by exact bB) hb);have n3_ := aM (hbox);have n4_ := aM (sW hg : w.heap.size ≤ gb442);have n5_ := aM (sW hg : w.heap.size ≤ gb442);have n6_ := aM (nL hg (kP BK437.out));have n7_ := aM (nG hg (kP BK437.out));clear HO441;clear BK437;clear HB;have HO441 := n0_;have BK437 := n1_;have HB := n2_;have BK442 := n3_;have GW442 := n4_;have GE442 := n5_;have NB437_442 := n6_;have NB442_437 := n7_;clear n0_ n1_ n2_ n3_ n4_ n5_ n6_ n7_;clear hb hbox hg;have hnb7 := NB442_437.out;have hnc7 := NB437_442.out;have hcz8_0 := bC0 BK442.out;have hcz8_1 := bC1 BK442.out;have hfz8_0 := blk_frozen BK442.out 0;have hfz8_1 := blk_frozen BK442.out 1;obtain ⟨Ao9, co9, eo9⟩ := Kd.R_slice HO441.out;subst eo9) | ((with_reducible refine gate_callee (f := 135) rfl ?_);refine goesL_ (some 11) rfl rfl Try.func135 (by kernel_rfl) rfl #[.slice Ao9 t439.length co9, .agg #[.int .i64 0, .int .i64 (wrap64 (a0 - 1))]] rfl mM ?_;(with_reducible refine (spec_l2Put.calls k _ _ t439 0 (wrap64 (a0 - 1)) t443 _ ?side1 ?side2 A3.out).mono ?_);(case side1 => refine (Kd.R_reads' (e := 119) (base := w.heap.size) (ok := fun k_ => True) (n := t439.length) (c := co9) ?_).2.2;exact (by refine rP ?_;exact (Kd.R_mono (Kd.R_far (p := ⟨gb442, 1, none⟩) (Kd.R_far (p := ⟨gb442, 0, none⟩) (Kd.R_types HO441.out BK442.out (by decide)) (fun _ hk => hk.2) (.int .i64 t438)) (fun _ hk => hk.2) (.slice Ao9 t439.length co9)) (fun _ h_ => h_.1))));(case side2 => exact (Kd.R_reads' HO441.out).2.1);rintro e w10 ⟨v444, rfl, ho0, hb⟩;refine ⟨_, rfl, ?_⟩;have n0_ := aM (Kd.R_elder' (by exact rP ((Kd.R_mono (Kd.R_far (p := ⟨gb442, 1, none⟩) (Kd.R_far (p := ⟨gb442, 0, none⟩) (Kd.R_types HO441.out BK442.out (by decide)) (fun _ hk => hk.2) (.int .i64 t438)) (fun _ hk => hk.2) (.slice Ao9 t439.length co9)) (fun _ h_ => h_.1)))) (Kd.R_base ho0) hb);have n1_ := aM (Kd.R_lower (Kd.R_new' ho0 (Kd.R_lt (by exact rP ((Kd.R_mono (Kd.R_far (p := ⟨gb442, 1, none⟩) (Kd.R_far (p := ⟨gb442, 0, none⟩) (Kd.R_types HO441.out BK442.out (by decide)) (fun _ hk => hk.2) (.int .i64 t438)) (fun _ hk => hk.2) (.slice Ao9 t439.length co9)) (fun _ h_ => h_.1)))))) (below_size (by exact bB)));have n2_ := aM (blk_below (g := gb437) (o := .cells #[.int .i64 0, .slice none 0 0] 31 (0, 0)) (by refine kP ?_;refine blk_far ?_ NB437_442.out _;refine kP ?_;refine blk_far ?_ NB437_442.out _;exact kP BK437.out) hb);have n3_ := aM (blk_below (g := gb442) (o := .cells #[.int .i64 t438, .slice Ao9 t439.length co9] 31 (0, 0)) (by refine kP ?_;refine blk_put (cs := #[.int .i64 t438, .slice none 0 0]) ?_ 1 _ rfl;refine kP ?_;refine blk_put (cs := #[.int .i64 0, .slice none 0 0]) ?_ 0 _ rfl;exact kP BK442.out) hb);have n4_ := aM (below_step (by exact bB) hb);clear HO441;clear BK437;clear BK442;clear HB;have HO441 := n0_;have HO445 := n1_;have BK437 := n2_;have BK442 := n3_;have HB := n4_;clear n0_ n1_ n2_ n3_ n4_;(try clear hb);(try clear hb2);(try clear hk);(try clear hi);(try clear ho0);obtain ⟨Ao11, co11, eo11⟩ := Kd.R_slice HO445.out;subst eo11;have hcz12_0 := bC0 BK442.out;have hcz12_1 := bC1 BK442.out;have hfz12_0 := blk_frozen BK442.out 0;have hfz12_1 := blk_frozen BK442.out 1;have hcz13_0 := bC0 BK437.out;have hcz13_1 := bC1 BK437.out;have hfz13_0 := blk_frozen BK437.out 0;have hfz13_1 := blk_frozen BK437.out 1))
 refine bodyPost_ret (results_cell_row rfl _ _ gb437 31 #[.int .i64 t438, .slice Ao11 t443.length co11] (0, 0) _ rfl (by refine kP ?_;refine blk_put (cs := #[.int .i64 t438, .slice none 0 0]) ?_ 1 _ rfl;refine kP ?_;refine blk_put (cs := #[.int .i64 0, .slice none 0 0]) ?_ 0 _ rfl;refine kP ?_;refine blk_far ?_ NB437_442.out _;exact kP BK437.out) Try.underlying31 rfl (by kernel_rfl)) rfl ?_
 exact ⟨_, by first | rfl | (simp [errW_none, errW_some] <;> rfl) | (simp [*, errW_none, errW_some] <;> rfl), by refine rP ?_;exact Kd.R_mono (Kd.R_far (p := ⟨gb437, 1, none⟩) (Kd.R_far (p := ⟨gb437, 0, none⟩) (Kd.R_far (p := ⟨gb442, 1, none⟩) (Kd.R_types (Kd.R_types HO445.out BK442.out (by decide)) BK437.out (by decide)) (fun _ hk => hk.1.2) (.slice Ao11 t443.length co11)) (fun _ hk => hk.2) (.int .i64 t438)) (fun _ hk => hk.2) (.slice Ao11 t443.length co11)) (fun _ hk => trivial), by exact bB⟩


/-! ### spec_l2Complete: function 134 -/
mutual
def spec_l2Complete.l0 : Nat → Int → Int → Int → List (S119) → Option (Int × (List (S119)))
 | 0, _, _, _, _ => none
 | k + 1, x0, x4, x451000, x451001 => if x4 < x0 then (spec_l2Complete.l1 k x0 x4 (wrap64 (x4 + 1)) x451000 x451001) else (some (x451000, x451001))
def spec_l2Complete.l1 : Nat → Int → Int → Int → Int → List (S119) → Option (Int × (List (S119)))
 | 0, _, _, _, _, _ => none
 | k + 1, x0, x4, x5, x451000, x451001 => if x5 < x0 then (if x451001.length < 8796093022208 then (spec_l2Complete.l1 k x0 x4 (wrap64 (x5 + 1)) x451000 (x451001 ++ [(⟨x4, x5⟩ : S119)])) else (none)) else (spec_l2Complete.l0 k x0 (wrap64 (x4 + 1)) x451000 x451001)
end
def spec_l2Complete.f (k : Nat) (a0 : Int) : Option (Int × (List (S119))) := spec_l2Complete.l0 k a0 0 a0 (([] : List (S119)))
theorem spec_l2Complete.mono_l : ∀ k, (∀ y0 y1 y2 y3, LeO (spec_l2Complete.l0 k y0 y1 y2 y3) (spec_l2Complete.l0 (k + 1) y0 y1 y2 y3)) ∧ (∀ y0 y1 y2 y3 y4, LeO (spec_l2Complete.l1 k y0 y1 y2 y3 y4) (spec_l2Complete.l1 (k + 1) y0 y1 y2 y3 y4))
 | 0 => ⟨fun _ _ _ _ r h => by simp [spec_l2Complete.l0] at h, fun _ _ _ _ _ r h => by simp [spec_l2Complete.l1] at h⟩
 | k + 1 => by
  obtain ⟨ih0, ih1⟩ := spec_l2Complete.mono_l k
  refine ⟨?_, ?_⟩
  ·intro y0 y1 y2 y3
   unfold spec_l2Complete.l0
   repeat' first
   | (with_reducible exact ih0 _ _ _ _)
   | (with_reducible exact ih1 _ _ _ _ _)
   | (with_reducible exact LeO.refl _)
   | (with_reducible exact LeO.none _)
   | (with_reducible refine LeO.ite ?_ ?_)
   | (with_reducible refine LeO.bind ?_ (fun _ => ?_))
   | exact LeO.none _
   | refine LeO.ite ?_ ?_
   | refine LeO.bind ?_ (fun _ => ?_)
  ·intro y0 y1 y2 y3 y4
   unfold spec_l2Complete.l1
   repeat' first
   | (with_reducible exact ih0 _ _ _ _)
   | (with_reducible exact ih1 _ _ _ _ _)
   | (with_reducible exact LeO.refl _)
   | (with_reducible exact LeO.none _)
   | (with_reducible refine LeO.ite ?_ ?_)
   | (with_reducible refine LeO.bind ?_ (fun _ => ?_))
   | exact LeO.none _
   | refine LeO.ite ?_ ?_
   | refine LeO.bind ?_ (fun _ => ?_)
theorem spec_l2Complete.mono : ∀ a0 k, LeO (spec_l2Complete.f k a0) (spec_l2Complete.f (k + 1) a0) := by
 intro a0 k
 obtain ⟨ih0, ih1⟩ := spec_l2Complete.mono_l k
 unfold spec_l2Complete.f
 repeat' first
   | (with_reducible exact ih0 _ _ _ _)
   | (with_reducible exact ih1 _ _ _ _ _)
   | (with_reducible exact LeO.refl _)
   | (with_reducible exact LeO.none _)
   | (with_reducible refine LeO.ite ?_ ?_)
   | (with_reducible refine LeO.bind ?_ (fun _ => ?_))
   | exact LeO.none _
   | refine LeO.ite ?_ ?_
   | refine LeO.bind ?_ (fun _ => ?_)
set_option maxHeartbeats 8000000 in
set_option maxRecDepth 100000 in
theorem spec_l2Complete.calls (k : Nat) (a0 : Int) (r1 : Int) (r2 : List (S119)) (w : World) (h : spec_l2Complete.f k a0 = some (r1, r2)) :
  Calls Try.prog 134 #[.int .i64 a0] w fun e w' => ∃ v1_ : Value, e = .returned (.agg #[.int .i64 r1, v1_]) ∧ Kd.R k119 119 w' w.heap.size (fun _ => True) v1_ r2 ∧ Below w.heap.size w w' := by
 have hu31 := Try.underlying31
 have hu119 := Try.underlying119
 have HB := aM (Below.refl w.heap.size w)
 have H : (spec_l2Complete.l0 k a0 0 a0 (([] : List (S119)))) = some (r1, r2) := h
 clear h
 obtain ⟨y447, hy447⟩ : ∃ y_ : List (S119), y_ = (([] : List (S119))) := ⟨_, rfl⟩
 replace H : (spec_l2Complete.l0 k a0 0 a0 y447) = some (r1, r2) := by first | (rw [hy447];with_reducible exact H) | (have H2_ := (Option.bind_some _ _).symm.trans H;rw [hy447];with_reducible exact H2_) | (have H2_ := (Option.bind_some _ _).symm.trans H;with_reducible exact H2_) | with_reducible exact H | (rw [hy447];exact H) | exact H
 have Ny447 := Aside0.mk hy447
 clear hy447
 have H' := Aside0.mk H
 clear H
 go_enter Try.func134, Try.ntmps134
 go_wp2_with (first | ((with_reducible refine gate_dst (N := 2) rfl ?_);refine box_event ?hg (N := 2) ?hd (cs := #[.int .i64 0, .slice none 0 0]) (t := 31) ?hr ?_;(case hd => rfl);(case hg => rfl);(case hr => first | (go_simp;done) | (go_simp;rfl));intro gb446 hg w2 hbox hb;have n0_ := aM (below_step (by exact bB) hb);have n1_ := aM (hbox);have n2_ := aM (sW hg : w.heap.size ≤ gb446);have n3_ := aM (sW hg : w.heap.size ≤ gb446);clear HB;have HB := n0_;have BK446 := n1_;have GW446 := n2_;have GE446 := n3_;clear n0_ n1_ n2_ n3_;clear hb hbox hg) | ((with_reducible refine gate_dst (N := 7) rfl ?_);refine Kd.R_lit k119 _ 119 ?hg (N := 7) ?hd (xs := ([] : List (S119))) (inner := []) (ok := fun _ => True) (okp := fun _ => True) ?hr ?hp (fun _ hk => hk) trivial (Below.refl _ _) (Nat.le_refl _) (by simp) ?_;(case hd => rfl);(case hg => rfl);(case hr => first | (go_simp;done) | (go_simp;rfl));(case hp => exact (Reps.none _ _));intro v448 w3 ho4 hb hg_ hnew_;clear hg_ hnew_;(first | rw [← Ny447.out] at ho4 | (simp only [Int.reduceToNat] at ho4;rw [← Ny447.out] at ho4));have n0_ := aM (Kd.R_lower ho4 (below_size (by exact bB)));have n1_ := aM (kB hb BK446.out);have n2_ := aM (below_step (by exact bB) hb);clear BK446;clear HB;have HO449 := n0_;have BK446 := n1_;have HB := n2_;clear n0_ n1_ n2_;clear hb ho4;obtain ⟨Ao5, co5, eo5⟩ := Kd.R_slice HO449.out;subst eo5) | ((with_reducible refine gate_dst (N := 3) rfl ?_);refine box_event ?hg (N := 3) ?hd (cs := #[.int .i64 0, .slice none 0 0]) (t := 31) ?hr ?_;(case hd => rfl);(case hg => rfl);(case hr => first | (go_simp;done) | (go_simp;rfl));intro gb450 hg w6 hbox hb;have n0_ := aM (Kd.R_below (by exact rP HO449.out) hb);have n1_ := aM (kB hb BK446.out);have n2_ := aM (below_step (by exact bB) hb);have n3_ := aM (hbox);have n4_ := aM (sW hg : w.heap.size ≤ gb450);have n5_ := aM (sW hg : w.heap.size ≤ gb450);have n6_ := aM (nL hg (kP BK446.out));have n7_ := aM (nG hg (kP BK446.out));clear HO449;clear BK446;clear HB;have HO449 := n0_;have BK446 := n1_;have HB := n2_;have BK450 := n3_;have GW450 := n4_;have GE450 := n5_;have NB446_450 := n6_;have NB450_446 := n7_;clear n0_ n1_ n2_ n3_ n4_ n5_ n6_ n7_;clear hb hbox hg;have hnb7 := NB450_446.out;have hnc7 := NB446_450.out;have hcz8_0 := bC0 BK450.out;have hcz8_1 := bC1 BK450.out;have hfz8_0 := blk_frozen BK450.out 0;have hfz8_1 := blk_frozen BK450.out 1))
 go_loopg [4] k (fun kq v4 w' => ∃ (x4_1 : Int) (x451001_1 : List (S119)) (u451001 : Value), v4 = .int .i64 x4_1 ∧ Aside0 (spec_l2Complete.l0 kq a0 x4_1 a0 x451001_1 = some (r1, r2)) ∧ Aside0 (kq ≤ k) ∧ Aside0 (Kd.R k119 119 w' w.heap.size (fun _ => True) u451001 x451001_1) ∧ Aside0 (w'.heap[gb446]? = some (.cells #[.int .i64 0, (.slice none 0 0)] 31 (0, 0))) ∧ Aside0 (w'.heap[gb450]? = some (.cells #[.int .i64 a0, u451001] 31 (0, 0))) ∧ Aside0 (Below w.heap.size w w'))
 case atStart => exact ⟨(0), (y447), (.slice Ao5 y447.length co5), (by first | rfl | (simp;done) | (simp [*];done)), H', ⟨Nat.le_refl _⟩, ⟨by refine rP ?_;exact Kd.R_mono (Kd.R_far (p := ⟨gb450, 1, none⟩) (Kd.R_far (p := ⟨gb450, 0, none⟩) (Kd.R_types HO449.out BK450.out (by decide)) (fun _ hk => hk.2) (.int .i64 a0)) (fun _ hk => hk.2) (.slice Ao5 y447.length co5)) (fun _ hk => trivial)⟩, ⟨by refine kP ?_;refine blk_far ?_ NB446_450.out _;refine kP ?_;refine blk_far ?_ NB446_450.out _;exact kP BK446.out⟩, ⟨by refine kP ?_;refine blk_put (cs := #[.int .i64 a0, .slice none 0 0]) ?_ 1 _ rfl;refine kP ?_;refine blk_put (cs := #[.int .i64 0, .slice none 0 0]) ?_ 0 _ rfl;exact kP BK450.out⟩, ⟨by exact bB⟩⟩
 case round =>
  clear H'
  try clear c1
  try clear p2
  try clear c7
  try clear hcz8_0
  try clear hcz8_1
  try clear hfz8_0
  try clear hfz8_1
  obtain ⟨x4_1, x451001_1, u451001, rfl, HA, HK1, HO_451001, BK446, BK450, HB⟩ := hrel
  cases gk with
  | zero => exact absurd HA.out (by simp [spec_l2Complete.l0])
  | succ k1 =>
   have H := HA.out
   clear HA
   simp only [spec_l2Complete.l0] at H
   by_cases c9 : x4_1 < a0
   rotate_left
   ·rw [if_neg c9] at H
    have c9b0 : decide (x4_1 < a0) = false := decide_eq_false c9
    clear c9
    simp only [Option.some.injEq, Prod.mk.injEq] at H
    obtain ⟨rfl, rfl⟩ := H
    have hnb17 := NB450_446.out
    have hnc17 := NB446_450.out
    have hcz18_0 := bC0 BK450.out
    have hcz18_1 := bC1 BK450.out
    have hfz18_0 := blk_frozen BK450.out 0
    have hfz18_1 := blk_frozen BK450.out 1
    have hcz19_0 := bC0 BK446.out
    have hcz19_1 := bC1 BK446.out
    have hfz19_0 := blk_frozen BK446.out 0
    have hfz19_1 := blk_frozen BK446.out 1
    obtain ⟨Ao20, co20, eo20⟩ := Kd.R_slice HO_451001.out
    subst eo20
    go_wp2
    refine bodyPost_ret (results_cell_row rfl _ _ gb446 31 #[.int .i64 a0, .slice Ao20 x451001_1.length co20] (0, 0) _ rfl (by refine kP ?_;refine blk_put (cs := #[.int .i64 a0, .slice none 0 0]) ?_ 1 _ rfl;refine kP ?_;refine blk_put (cs := #[.int .i64 0, .slice none 0 0]) ?_ 0 _ rfl;exact kP BK446.out) Try.underlying31 rfl (by kernel_rfl)) rfl ?_
    exact ⟨_, by first | rfl | (simp [errW_none, errW_some] <;> rfl) | (simp [*, errW_none, errW_some] <;> rfl), by refine rP ?_;exact Kd.R_mono (Kd.R_far (p := ⟨gb446, 1, none⟩) (Kd.R_far (p := ⟨gb446, 0, none⟩) (Kd.R_types HO_451001.out BK446.out (by decide)) (fun _ hk => hk.2) (.int .i64 a0)) (fun _ hk => hk.2) (.slice Ao20 x451001_1.length co20)) (fun _ hk => trivial), by exact bB⟩
   rw [if_pos c9] at H
   have c9b0 : decide (x4_1 < a0) = true := decide_eq_true c9
   clear c9
   have H' := Aside0.mk H
   clear H
   go_wp2
   go_loopg [5] k1 (fun kq v5 w' => ∃ (x5_2 : Int) (x451001_2 : List (S119)) (u451001 : Value), v5 = .int .i64 x5_2 ∧ Aside0 (spec_l2Complete.l1 kq a0 x4_1 x5_2 a0 x451001_2 = some (r1, r2)) ∧ Aside0 (kq ≤ k1) ∧ Aside0 (Kd.R k119 119 w' w.heap.size (fun _ => True) u451001 x451001_2) ∧ Aside0 (w'.heap[gb446]? = some (.cells #[.int .i64 0, (.slice none 0 0)] 31 (0, 0))) ∧ Aside0 (w'.heap[gb450]? = some (.cells #[.int .i64 a0, u451001] 31 (0, 0))) ∧ Aside0 (Below w.heap.size w w'))
   case atStart => exact ⟨(wrap64 (x4_1 + 1)), (x451001_1), (u451001), (by first | rfl | (simp;done) | (simp [*];done)), H', ⟨Nat.le_refl _⟩, ⟨by exact rP HO_451001.out⟩, ⟨by exact kP BK446.out⟩, ⟨by exact kP BK450.out⟩, ⟨by exact bB⟩⟩
   case round =>
    clear H'
    try clear c1
    try clear p2
    try clear p6
    try clear c7
    try clear c9
    try clear c9b0
    try clear hcz8_0
    try clear hcz8_1
    try clear hfz8_0
    try clear hfz8_1
    try clear p2
    obtain ⟨x5_2, x451001_2, u451001, rfl, HA, HK2, HO_451001, BK446, BK450, HB⟩ := hrel
    cases gk with
    | zero => exact absurd HA.out (by simp [spec_l2Complete.l1])
    | succ k2 =>
     have H := HA.out
     clear HA
     simp only [spec_l2Complete.l1] at H
     by_cases c10 : x5_2 < a0
     rotate_left
     ·rw [if_neg c10] at H
      have c10b0 : decide (x5_2 < a0) = false := decide_eq_false c10
      clear c10
      have H' := Aside0.mk H
      clear H
      go_wp2
      go_roundg k2
      case measure => have := HK1.out;have := HK2.out;omega
      case rel => exact ⟨(wrap64 (x4_1 + 1)), (x451001_2), (u451001), (by first | rfl | (simp;done) | (simp [*];done)), H', ⟨by have := HK1.out;have := HK2.out;omega⟩, ⟨by exact rP HO_451001.out⟩, ⟨by exact kP BK446.out⟩, ⟨by exact kP BK450.out⟩, ⟨by exact bB⟩⟩
     rw [if_pos c10] at H
     have c10b0 : decide (x5_2 < a0) = true := decide_eq_true c10
     clear c10
     by_cases c11 : x451001_2.length < 8796093022208
     rotate_left
     ·rw [if_neg c11] at H
      exact absurd H (by simp)
     rw [if_pos c11] at H
     have LMc11 := Aside0.mk c11
     clear c11
     obtain ⟨y451, hy451⟩ : ∃ y_ : List (S119), y_ = (x451001_2 ++ [(⟨x4_1, x5_2⟩ : S119)]) := ⟨_, rfl⟩
     replace H : (spec_l2Complete.l1 k2 a0 x4_1 (wrap64 (x5_2 + 1)) a0 y451) = some (r1, r2) := by first | (rw [hy451];with_reducible exact H) | (have H2_ := (Option.bind_some _ _).symm.trans H;rw [hy451];with_reducible exact H2_) | (have H2_ := (Option.bind_some _ _).symm.trans H;with_reducible exact H2_) | with_reducible exact H | (rw [hy451];exact H) | exact H
     have Ny451 := Aside0.mk hy451
     clear hy451
     have H' := Aside0.mk H
     clear H
     have hnb12 := NB450_446.out
     have hnc12 := NB446_450.out
     have hcz13_0 := bC0 BK450.out
     have hcz13_1 := bC1 BK450.out
     have hfz13_0 := blk_frozen BK450.out 0
     have hfz13_1 := blk_frozen BK450.out 1
     go_wp2_with (first | ((with_reducible refine gate_builtin (b := .append) (xs := #[.tmp 22, .tmp 26]) rfl ?_);at_builtin;refine Kd.R_append k119 (w0 := w) w.heap.size rfl (.tmp 22) (.tmp 26) 22 119 (.agg #[(.int .i64 0), (.int .i64 0)]) 16 rfl Try.underlying22 info119 rfl (by decide) (by omega) u451001 x451001_2 (⟨x4_1, x5_2⟩ : S119) [.int .i64 x4_1, .int .i64 x5_2] (fun _ => True) (fun _ => False) rfl rfl ?aP (fun _ hk => hk.elim) ?aF ?aO ?aB ?aS ?aL ?_;(case aP => exact k119_mkM _ _ _ (⟨x4_1, x5_2⟩ : S119));(case aB => exact (by exact bB));(case aF => exact (fun _ _ => trivial));(case aO => exact (by exact rP HO_451001.out));(case aS => exact (below_size (by exact bB)));(case aL => have := LMc11.out;omega);intro v452 w14 ho hb hg hat;rw [← Ny451.out] at ho;have n0_ := aM (blk_grown (g := gb446) (o := .cells #[.int .i64 0, .slice none 0 0] 31 (0, 0)) (by exact kP BK446.out) hg (Kd.R_ne HO_451001.out BK446.out (by decide)));have n1_ := aM (blk_grown (g := gb450) (o := .cells #[.int .i64 a0, u451001] 31 (0, 0)) (by exact kP BK450.out) hg (Kd.R_ne HO_451001.out BK450.out (by decide)));have n2_ := aM (hb);have n3_ := aM (ho);clear BK446;clear BK450;clear HB;clear HO_451001;have BK446 := n0_;have BK450 := n1_;have HB := n2_;have HO453 := n3_;clear n0_ n1_ n2_ n3_;clear ho hb hg hat;obtain ⟨Ao15, co15, eo15⟩ := Kd.R_slice HO453.out;subst eo15;have hcz16_0 := bC0 BK450.out;have hcz16_1 := bC1 BK450.out;have hfz16_0 := blk_frozen BK450.out 0;have hfz16_1 := blk_frozen BK450.out 1))
     go_roundg k2
     case measure => have := HK1.out;have := HK2.out;omega
     case rel => exact ⟨(wrap64 (x5_2 + 1)), (y451), (.slice Ao15 y451.length co15), (by first | rfl | (simp;done) | (simp [*];done)), H', ⟨by have := HK1.out;have := HK2.out;omega⟩, ⟨by refine rP ?_;exact Kd.R_mono (Kd.R_far (p := ⟨gb450, 1, none⟩) (Kd.R_types HO453.out BK450.out (by decide)) (fun _ hk => hk.2) (.slice Ao15 y451.length co15)) (fun _ hk => trivial)⟩, ⟨by refine kP ?_;refine blk_far ?_ NB446_450.out _;exact kP BK446.out⟩, ⟨by refine kP ?_;refine blk_put (cs := #[.int .i64 a0, u451001]) ?_ 1 _ rfl;exact kP BK450.out⟩, ⟨by exact bB⟩⟩


/-! ### spec_l1Most: function 136 -/
def spec_l1Most.f (a0 : Int) (a1 : Int) : Option (Int) := if a0 > a1 then (some a0) else (some a1)
set_option maxHeartbeats 8000000 in
set_option maxRecDepth 100000 in
theorem spec_l1Most.calls (a0 : Int) (a1 : Int) (r : Int) (w : World) (h : spec_l1Most.f a0 a1 = some r) :
  Calls Try.prog 136 #[.int .i64 a0, .int .i64 a1] w fun e w' => e = .returned (.int .i64 r) ∧ Drawn0 w w' := by
 have H : (if a0 > a1 then (some a0) else (some a1)) = some r := h
 clear h
 by_cases c3 : a0 > a1
 rotate_left
 ·rw [if_neg c3] at H
  have c3b0 : decide (a1 < a0) = false := decide_eq_false c3
  clear c3
  obtain rfl := Option.some.inj H
  go_enter Try.func136, Try.ntmps136
  go_wp2
  go_ret
  exact ⟨by first | rfl | (simp;done) | (simp [*];done), by repeat (first | exact Drawn0.refl _ | apply Drawn0.step)⟩
 rw [if_pos c3] at H
 have c3b0 : decide (a1 < a0) = true := decide_eq_true c3
 clear c3
 obtain rfl := Option.some.inj H
 go_enter Try.func136, Try.ntmps136
 go_wp2
 go_ret
 exact ⟨by first | rfl | (simp;done) | (simp [*];done), by repeat (first | exact Drawn0.refl _ | apply Drawn0.step)⟩


end Go.Proofs.Ytmokkhfmbenleaa.QSpreading
