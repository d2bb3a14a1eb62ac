import Derived.Test.YtmokkhfmbenleaaQClosures0
import Derived.Test.YtmokkhfmbenleaaQClosures4
import Derived.Test.YtmokkhfmbenleaaQClosures5
namespace Go.Proofs.Ytmokkhfmbenleaa.QClosures
open Go.RowKit Go.Proofs.YtmokkhfmbenleaaW.PrintWords Go.Proofs.YtmokkhfmbenleaaW.PrintLast Go.Proofs.YtmokkhfmbenleaaW.PrintMore
attribute [local go_sem] max2_int min2_int max_two min_two max_three min_three max_four min_four   -- for this text's walks alone
set_option linter.unusedVariables false
set_option linter.unusedSimpArgs false
/-! ### impl_IsDominating: function 46 -/
def impl_IsDominating.f (k : Nat) (a0_0 : Int) (l0_1 : List (S119)) (l1 : List Int) : Option (Bool × Bool) := (impl_isSet.f k a0_0 l0_1 l1).bind fun t785 => (if t785 = true then ((impl_netOf.f a0_0 l0_1).bind fun t786 => ((impl_maskOf.f k l1).bind fun t790 => ((impl_net_around.f k t786 t790).bind fun t791 => ((impl_net_all.f t786).bind fun t792 => (some ((t791 == t792), true)))))) else (some (false, false)))
theorem impl_IsDominating.mono : ∀ a0 a1 a2 k, LeO (impl_IsDominating.f k a0 a1 a2) (impl_IsDominating.f (k + 1) a0 a1 a2) := by
 intro a0 a1 a2 k
 unfold impl_IsDominating.f
 repeat' first
   | (with_reducible exact impl_isSet.mono _ _ _ _)
   | (with_reducible exact impl_maskOf.mono _ _)
   | (with_reducible exact impl_net_around.mono _ _ _)
   | (with_reducible exact LeO.refl _)
   | (with_reducible exact LeO.none _)
   | (with_reducible refine LeO.ite ?_ ?_)
   | (with_reducible refine LeO.bind ?_ (fun _ => ?_))
   | exact impl_isSet.mono _ _ _ _
   | exact impl_maskOf.mono _ _
   | exact impl_net_around.mono _ _ _
   | exact LeO.none _
   | refine LeO.ite ?_ ?_
   | refine LeO.bind ?_ (fun _ => ?_)
def impl_IsDominating.T4 : Bool × List (List Nat × List Nat) := (true, [([], []), ([], []), ([1], [1]), ([0, 2, 2], [0, 2]), ([], []), ([4, 3], [4]), ([3, 5], [3, 5]), ([6, 5, 0, 1, 2, 3, 4, 5, 6], [6]), ([7, 0, 1, 2, 3, 4, 5, 6, 7], [])])
def impl_IsDominating.B4 : List Nat := [0, 0, 2, 7, 0, 31, 63, 127, 255]
theorem impl_IsDominating.tab4 : rtab .any (opsOf Try.f46 4) = impl_IsDominating.T4 := by kernel_rfl
theorem impl_IsDominating.bits4 : waitsOk impl_IsDominating.T4.2 impl_IsDominating.B4 = true := by kernel_rfl
set_option maxHeartbeats 8000000 in
set_option maxRecDepth 100000 in
theorem impl_IsDominating.calls (k : Nat) (a0_0 : Int) (A0_1 : Option Addr) (c0_1 : Nat) (l0_1 : List (S119)) (A1 : Option Addr) (c1 : Nat) (l1 : List Int) (r1 : Bool) (r2 : Bool) (w : World) (hr0_1 : Kd.C k119 w A0_1 l0_1.length l0_1) (hc0_1 : l0_1.length ≤ c0_1) (hr1 : Kd.C (Kd.int .i64) w A1 l1.length l1) (hc1 : l1.length ≤ c1) (h : impl_IsDominating.f k a0_0 l0_1 l1 = some (r1, r2)) :
  Calls Try.prog 46 #[.agg #[.int .i64 a0_0, .slice A0_1 l0_1.length c0_1], .slice A1 l1.length c1] w fun e w' => e = .returned (.tuple #[.bool r1, .bool r2]) ∧ Below w.heap.size w w' := by
 have hu31 := Try.underlying31
 have hu80 := Try.underlying80
 have HR0_1 := Aside0.mk hr0_1
 have HC0_1 := Aside0.mk hc0_1
 clear hr0_1 hc0_1
 have HR1 := Aside0.mk hr1
 have HC1 := Aside0.mk hc1
 clear hr1 hc1
 have HB := Aside0.mk (Below.refl w.heap.size w)
 have H : ((impl_isSet.f k a0_0 l0_1 l1).bind fun t785 => (if t785 = true then ((impl_netOf.f a0_0 l0_1).bind fun t786 => ((impl_maskOf.f k l1).bind fun t790 => ((impl_net_around.f k t786 t790).bind fun t791 => ((impl_net_all.f t786).bind fun t792 => (some ((t791 == t792), true)))))) else (some (false, false)))) = some (r1, r2) := h
 clear h
 replace H := Option.bind_eq_some_iff.mp H
 obtain ⟨t785, A30, H⟩ := H
 replace H : (if t785 = true then ((impl_netOf.f a0_0 l0_1).bind fun t786 => ((impl_maskOf.f k l1).bind fun t790 => ((impl_net_around.f k t786 t790).bind fun t791 => ((impl_net_all.f t786).bind fun t792 => (some ((t791 == t792), true)))))) else (some (false, false))) = some (r1, r2) := H
 have A3 := Aside0.mk A30
 clear A30
 by_cases c4 : t785 = true
 ·subst c4
  have H1 : ((impl_netOf.f a0_0 l0_1).bind fun t786 => ((impl_maskOf.f k l1).bind fun t790 => ((impl_net_around.f k t786 t790).bind fun t791 => ((impl_net_all.f t786).bind fun t792 => (some ((t791 == t792), true)))))) = some (r1, r2) := by rw [if_pos rfl] at H; exact H
  clear H
  have H := H1
  clear H1
  replace H := Option.bind_eq_some_iff.mp H
  obtain ⟨t786, A50, H⟩ := H
  replace H : ((impl_maskOf.f k l1).bind fun t790 => ((impl_net_around.f k t786 t790).bind fun t791 => ((impl_net_all.f t786).bind fun t792 => (some ((t791 == t792), true))))) = some (r1, r2) := H
  have A5 := Aside0.mk A50
  clear A50
  replace H := Option.bind_eq_some_iff.mp H
  obtain ⟨t790, A60, H⟩ := H
  replace H : ((impl_net_around.f k t786 t790).bind fun t791 => ((impl_net_all.f t786).bind fun t792 => (some ((t791 == t792), true)))) = some (r1, r2) := H
  have A6 := Aside0.mk A60
  clear A60
  replace H := Option.bind_eq_some_iff.mp H
  obtain ⟨t791, A70, H⟩ := H
  replace H : ((impl_net_all.f t786).bind fun t792 => (some ((t791 == t792), true))) = some (r1, r2) := H
  have A7 := Aside0.mk A70
  clear A70
  replace H := Option.bind_eq_some_iff.mp H
  obtain ⟨t792, A80, H⟩ := H
  replace H : (some ((t791 == t792), true)) = some (r1, r2) := H
  have A8 := Aside0.mk A80
  clear A80
  simp only [Option.some.injEq, Prod.mk.injEq] at H
  obtain ⟨rfl, rfl⟩ := H
  go_enter Try.func46, Try.ntmps46
  try go_wp2_with (first | ((with_reducible refine gate_dst (N := 2) rfl ?_); refine box_event ?hg (N := 2) ?hd (cs := #[.int .i64 a0_0, .slice A0_1 l0_1.length c0_1]) (t := 31) ?hr ?_; (case hd => rfl); (case hg => rfl); (case hr => first | (go_simp; done) | (go_simp; rfl)); intro gb784 hg w9 hbox hb; have n0_ := Aside0.mk (below_step (by exact bB) hb); have n1_ := Aside0.mk (hbox); have n2_ := Aside0.mk ((by rw [hg]; exact (below_size (by exact bB)) : w.heap.size ≤ gb784)); have n3_ := Aside0.mk ((by rw [hg]; exact (below_size (by exact bB)) : w.heap.size ≤ gb784)); clear HB; have HB := n0_; have BK784 := n1_; have GW784 := n2_; have GE784 := n3_; clear n0_ n1_ n2_ n3_; clear hb hbox hg; have hcz10_0 : w9.cell? ⟨gb784, 0, none⟩ = some (.int .i64 a0_0) := (blk_cell BK784.out 0).trans rfl; have hcz10_1 : w9.cell? ⟨gb784, 1, none⟩ = some (.slice A0_1 l0_1.length c0_1) := (blk_cell BK784.out 1).trans rfl; have hfz10_0 := blk_frozen BK784.out 0; have hfz10_1 := blk_frozen BK784.out 1) | ((with_reducible refine gate_callee (f := 86) rfl ?_); refine goesL_ (some 9) rfl rfl Try.func86 (by kernel_rfl) rfl #[.agg #[.int .i64 a0_0, .slice A0_1 l0_1.length c0_1], .slice A1 l1.length c1] rfl (by (try simp only [List.map_toArray, List.map_cons, List.map_nil]); first | done | rfl | (simp only [List.length_drop, List.length_take]; rfl)) ?_; (with_reducible refine (impl_isSet.calls k a0_0 _ _ l0_1 _ _ l1 true _ ?side1 ?side2 ?side3 ?side4 A3.out).mono ?_); (case side1 => exact cP (Kd.C_below HR0_1.out HB.out)); (case side2 => exact HC0_1.out); (case side3 => exact cP (Kd.C_below HR1.out HB.out)); (case side4 => exact HC1.out); rintro e w11 ⟨rfl, hb⟩; refine ⟨_, rfl, ?_⟩; have n0_ := Aside0.mk (blk_below (g := gb784) (o := .cells #[.int .i64 a0_0, .slice A0_1 l0_1.length c0_1] 31 (0, 0)) (by exact kP BK784.out) hb); have n1_ := Aside0.mk (below_step (by exact bB) hb); clear BK784; clear HB; have BK784 := n0_; have HB := n1_; clear n0_ n1_; (try clear hb); (try clear hb2); (try clear hk); (try clear hi); have hcz12_0 : w11.cell? ⟨gb784, 0, none⟩ = some (.int .i64 a0_0) := (blk_cell BK784.out 0).trans rfl; have hcz12_1 : w11.cell? ⟨gb784, 1, none⟩ = some (.slice A0_1 l0_1.length c0_1) := (blk_cell BK784.out 1).trans rfl; have hfz12_0 := blk_frozen BK784.out 0; have hfz12_1 := blk_frozen BK784.out 1) | ((with_reducible refine gate_callee (f := 72) rfl ?_); refine goesL_ (some 12) rfl rfl Try.func72 (by kernel_rfl) rfl #[.agg #[.int .i64 a0_0, .slice A0_1 l0_1.length c0_1]] rfl (by (try simp only [List.map_toArray, List.map_cons, List.map_nil]); first | done | rfl | (simp only [List.length_drop, List.length_take]; rfl)) ?_; (with_reducible refine (impl_netOf.calls a0_0 _ _ l0_1 t786 _ ?side1 ?side2 A5.out).mono ?_); (case side1 => exact cP (Kd.C_below HR0_1.out HB.out)); (case side2 => exact HC0_1.out); rintro e w13 ⟨v787, rfl, ho0, hb⟩; refine ⟨_, rfl, ?_⟩; have n0_ := Aside0.mk (Kd.R_lower ho0 (below_size (by exact bB))); have n1_ := Aside0.mk (blk_below (g := gb784) (o := .cells #[.int .i64 a0_0, .slice A0_1 l0_1.length c0_1] 31 (0, 0)) (by exact kP BK784.out) hb); have n2_ := Aside0.mk (below_step (by exact bB) hb); clear BK784; clear HB; have HO788 := n0_; have BK784 := n1_; have HB := n2_; clear n0_ n1_ n2_; (try clear hb); (try clear hb2); (try clear hk); (try clear hi); (try clear ho0)) | ((with_reducible refine gate_dst (N := 6) rfl ?_); refine box_event ?hg (N := 6) ?hd (cs := #[.slice none 0 0]) (t := 80) ?hr ?_; (case hd => rfl); (case hg => rfl); (case hr => first | (go_simp; done) | (go_simp; rfl)); intro gb789 hg w14 hbox hb; have n0_ := Aside0.mk (Kd.R_below (by exact rP HO788.out) hb); have n1_ := Aside0.mk (blk_below (g := gb784) (o := .cells #[.int .i64 a0_0, .slice A0_1 l0_1.length c0_1] 31 (0, 0)) (by exact kP BK784.out) hb); have n2_ := Aside0.mk (below_step (by exact bB) hb); have n3_ := Aside0.mk (hbox); have n4_ := Aside0.mk ((by rw [hg]; exact (below_size (by exact bB)) : w.heap.size ≤ gb789)); have n5_ := Aside0.mk ((by rw [hg]; exact (below_size (by exact bB)) : w.heap.size ≤ gb789)); have n6_ := Aside0.mk ((by rw [hg]; exact Nat.ne_of_lt (blk_lt (g := gb784) (o := .cells #[.int .i64 a0_0, .slice A0_1 l0_1.length c0_1] 31 (0, 0)) (by exact kP BK784.out)) : gb784 ≠ gb789)); have n7_ := Aside0.mk ((by rw [hg]; exact Nat.ne_of_gt (blk_lt (g := gb784) (o := .cells #[.int .i64 a0_0, .slice A0_1 l0_1.length c0_1] 31 (0, 0)) (by exact kP BK784.out)) : gb789 ≠ gb784)); clear HO788; clear BK784; clear HB; have HO788 := n0_; have BK784 := n1_; have HB := n2_; have BK789 := n3_; have GW789 := n4_; have GE789 := n5_; have NB784_789 := n6_; have NB789_784 := n7_; clear n0_ n1_ n2_ n3_ n4_ n5_ n6_ n7_; clear hb hbox hg; obtain ⟨Ao15, co15, eo15⟩ := Kd.R_slice HO788.out; subst eo15; have hnb16 := NB789_784.out; have hnc16 := NB784_789.out; have hcz17_0 : w14.cell? ⟨gb789, 0, none⟩ = some (.slice none 0 0) := (blk_cell BK789.out 0).trans rfl; have hfz17_0 := blk_frozen BK789.out 0))
  have n0_ : Aside0 (Kd.R (Kd.int .i64) 3 (w14.setCell ⟨gb789, 0, none⟩ (.slice Ao15 t786.length co15)) w.heap.size (fun _ => True) (.slice Ao15 t786.length co15) t786) := ⟨by refine rP ?_; exact Kd.R_mono (Kd.R_far (p := ⟨gb789, 0, none⟩) (Kd.R_types HO788.out BK789.out (by decide)) (fun _ hk => hk.2) (.slice Ao15 t786.length co15)) (fun _ hk => trivial)⟩
  have n1_ : Aside0 ((w14.setCell ⟨gb789, 0, none⟩ (.slice Ao15 t786.length co15)).heap[gb784]? = some (.cells #[.int .i64 a0_0, .slice A0_1 l0_1.length c0_1] 31 (0, 0))) := ⟨by refine kP ?_; refine blk_far ?_ NB784_789.out _; exact kP BK784.out⟩
  have n2_ : Aside0 ((w14.setCell ⟨gb789, 0, none⟩ (.slice Ao15 t786.length co15)).heap[gb789]? = some (.cells #[.slice Ao15 t786.length co15] 80 (0, 0))) := ⟨by refine kP ?_; refine blk_put (cs := #[.slice none 0 0]) ?_ 0 _ rfl; exact kP BK789.out⟩
  have n3_ : Aside0 (Below w.heap.size w (w14.setCell ⟨gb789, 0, none⟩ (.slice Ao15 t786.length co15))) := ⟨by exact bB⟩
  (try clear HO788)
  (try clear BK784)
  (try clear BK789)
  (try clear HB)
  generalize (w14.setCell ⟨gb789, 0, none⟩ (.slice Ao15 t786.length co15)) = w18 at n0_ n1_ n2_ n3_ ⊢
  have HO788 := n0_
  have BK784 := n1_
  have BK789 := n2_
  have HB := n3_
  clear n0_ n1_ n2_ n3_
  have n0_ := Aside0.mk (Kd.R_drew HO788.out)
  have n1_ := Aside0.mk (blk_drew BK784.out)
  have n2_ := Aside0.mk (blk_drew BK789.out)
  have n3_ := Aside0.mk (below_drew1 HB.out)
  clear HO788
  clear BK784
  clear BK789
  clear HB
  have HO788 := n0_
  have BK784 := n1_
  have BK789 := n2_
  have HB := n3_
  clear n0_ n1_ n2_ n3_
  refine start_ (n := 9) (S := fun w' => w'.cell? ⟨gb789, 0, none⟩ = some (.slice Ao15 t786.length co15)) (ds := []) #[false, false, false, false, false, false, false, false, false] (by kernel_rfl) rfl rfl ((blk_cell BK789.out 0).trans rfl) (fun hHeld => ?_); refine with_tabW impl_IsDominating.tab4 impl_IsDominating.bits4 (fun HT_ HW_ => ?_)
  generalize w18.drew = w19 at HO788 BK784 BK789 HB hHeld ⊢
  refine pure_ (i := 1) (N := some 14) (v := ?_) (a' := ?_) #[false, true, false, false, false, false, false, false, false] rfl rfl (any_of HT_.out (by kernel_rfl)) (fun _ _ _ h => h) (Or.inl ⟨by rfl, ?_⟩) ?_ ?_
  rotate_left
  ·intro w'
   go_simp
   with_reducible rfl
  rotate_left
  ·simp only [Act.put, List.setIfInBounds_toArray, List.set_cons_zero, List.set_cons_succ, i64_w, i32_w]
   rfl
  refine take_ (i := 0) (N := some 13) (v := ?_) (a' := ?_) #[true, true, false, false, false, false, false, false, false] rfl rfl (take_ofW HT_.out HW_.out (by kernel_rfl)) (fun _ _ _ h => h) (Or.inl ⟨by rfl, ?_⟩) hHeld ?_ ?_
  rotate_left
  ·intro w' s0
   go_simp
   with_reducible rfl
  rotate_left
  ·simp only [Act.put, List.setIfInBounds_toArray, List.set_cons_zero, List.set_cons_succ, i64_w, i32_w]
   rfl
  refine take_ (i := 4) (N := some 17) (v := ?_) (a' := ?_) #[true, true, false, false, true, false, false, false, false] rfl rfl (take_ofW HT_.out HW_.out (by kernel_rfl)) (fun _ _ _ h => h) (Or.inl ⟨by rfl, ?_⟩) hHeld ?_ ?_
  rotate_left
  ·intro w' s0
   go_simp
   with_reducible rfl
  rotate_left
  ·simp only [Act.put, List.setIfInBounds_toArray, List.set_cons_zero, List.set_cons_succ, i64_w, i32_w]
   rfl
  refine one_ (i := 2) (N := some 15) #[true, true, true, false, true, false, false, false, false] rfl rfl (one_of HT_.out (by kernel_rfl)) (by decide) (fun K hK => ?_)
  refine goes_ Try.func89 (by kernel_rfl) rfl #[.slice A1 l1.length c1] (by rfl) rfl rfl (by (try simp only [List.map_toArray, List.map_cons, List.map_nil]); first | done | rfl | (simp only [List.length_drop, List.length_take]; rfl)) ?_
  with_reducible refine (impl_maskOf.calls k _ _ l1 t790 _ ?side1 ?side2 A6.out).mono ?_
  (case side1 => exact cP (Kd.C_below HR1.out HB.out))
  (case side2 => exact HC1.out)
  rintro e w' ⟨rfl, ⟨nd, rfl⟩⟩
  refine ⟨_, rfl, ?_⟩
  refine hK.out _ _ ((blk_cell BK789.out 0).trans rfl) (fun hHeld => ?_)
  clear hK K
  refine norm_ (a' := ?_) ?_ ?_
  rotate_left
  ·show Act.put _ (some 15) _ = _
   simp only [Act.put, List.setIfInBounds_toArray, List.set_cons_zero, List.set_cons_succ, i64_w, i32_w]
   rfl
  refine one_ (i := 3) (N := some 16) #[true, true, true, true, true, false, false, false, false] rfl rfl (one_of HT_.out (by kernel_rfl)) (by decide) (fun K hK => ?_)
  refine goes_ Try.func88 (by kernel_rfl) rfl #[.agg #[.slice Ao15 t786.length co15], .int .i64 t790] (by rfl) rfl rfl (by (try simp only [List.map_toArray, List.map_cons, List.map_nil]); first | done | rfl | (simp only [List.length_drop, List.length_take]; rfl)) ?_
  with_reducible refine (impl_net_around.calls k _ _ t786 t790 t791 _ ?side1 ?side2 A7.out).mono ?_
  (case side1 => exact cP (Kd.R_reads' HO788.out).2.2)
  (case side2 => exact (Kd.R_reads' HO788.out).2.1)
  rintro e w20 ⟨rfl, hb⟩
  refine ⟨_, rfl, ?_⟩
  have n0_ := Aside0.mk (Kd.R_below (by exact rP HO788.out) hb)
  have n1_ := Aside0.mk (blk_below (g := gb784) (o := .cells #[.int .i64 a0_0, .slice A0_1 l0_1.length c0_1] 31 (0, 0)) (by exact kP BK784.out) hb)
  have n2_ := Aside0.mk (blk_below (g := gb789) (o := .cells #[.slice Ao15 t786.length co15] 80 (0, 0)) (by exact kP BK789.out) hb)
  have n3_ := Aside0.mk (below_step (by exact bB) hb)
  clear HO788
  clear BK784
  clear BK789
  clear HB
  have HO788 := n0_
  have BK784 := n1_
  have BK789 := n2_
  have HB := n3_
  clear n0_ n1_ n2_ n3_
  (try clear hb)
  (try clear hb2)
  (try clear hk)
  (try clear hi)
  refine hK.out _ _ ((blk_cell BK789.out 0).trans rfl) (fun hHeld => ?_)
  clear hK K
  refine norm_ (a' := ?_) ?_ ?_
  rotate_left
  ·show Act.put _ (some 16) _ = _
   simp only [Act.put, List.setIfInBounds_toArray, List.set_cons_zero, List.set_cons_succ, i64_w, i32_w]
   rfl
  refine one_ (i := 5) (N := some 18) #[true, true, true, true, true, true, false, false, false] rfl rfl (one_of HT_.out (by kernel_rfl)) (by decide) (fun K hK => ?_)
  refine goes_ Try.func73 (by kernel_rfl) rfl #[.agg #[.slice Ao15 t786.length co15]] (by rfl) rfl rfl (by (try simp only [List.map_toArray, List.map_cons, List.map_nil]); first | done | rfl | (simp only [List.length_drop, List.length_take]; rfl)) ?_
  with_reducible refine (impl_net_all.calls _ _ t786 t792 _ ?side1 ?side2 A8.out).mono ?_
  (case side1 => exact cP (Kd.R_reads' HO788.out).2.2)
  (case side2 => exact (Kd.R_reads' HO788.out).2.1)
  rintro e w21 ⟨rfl, hb⟩
  refine ⟨_, rfl, ?_⟩
  have n0_ := Aside0.mk (Kd.R_below (by exact rP HO788.out) hb)
  have n1_ := Aside0.mk (blk_below (g := gb784) (o := .cells #[.int .i64 a0_0, .slice A0_1 l0_1.length c0_1] 31 (0, 0)) (by exact kP BK784.out) hb)
  have n2_ := Aside0.mk (blk_below (g := gb789) (o := .cells #[.slice Ao15 t786.length co15] 80 (0, 0)) (by exact kP BK789.out) hb)
  have n3_ := Aside0.mk (below_step (by exact bB) hb)
  clear HO788
  clear BK784
  clear BK789
  clear HB
  have HO788 := n0_
  have BK784 := n1_
  have BK789 := n2_
  have HB := n3_
  clear n0_ n1_ n2_ n3_
  (try clear hb)
  (try clear hb2)
  (try clear hk)
  (try clear hi)
  refine hK.out _ _ ((blk_cell BK789.out 0).trans rfl) (fun hHeld => ?_)
  clear hK K
  refine norm_ (a' := ?_) ?_ ?_
  rotate_left
  ·show Act.put _ (some 18) _ = _
   simp only [Act.put, List.setIfInBounds_toArray, List.set_cons_zero, List.set_cons_succ, i64_w, i32_w]
   rfl
  refine pure_ (i := 6) (N := some 19) (v := ?_) (a' := ?_) #[true, true, true, true, true, true, true, false, false] rfl rfl (any_of HT_.out (by kernel_rfl)) (fun _ _ _ h => h) (Or.inl ⟨by rfl, ?_⟩) ?_ ?_
  rotate_left
  ·intro w'
   go_simp
   with_reducible rfl
  rotate_left
  ·simp only [Act.put, List.setIfInBounds_toArray, List.set_cons_zero, List.set_cons_succ, i64_w, i32_w]
   rfl
  refine pure_ (i := 7) (N := some 4) (v := ?_) (a' := ?_) #[true, true, true, true, true, true, true, true, false] rfl rfl (any_of HT_.out (by kernel_rfl)) (fun _ _ _ h => h) (Or.inl ⟨by rfl, ?_⟩) ?_ ?_
  rotate_left
  ·intro w'
   go_simp
   with_reducible rfl
  rotate_left
  ·simp only [Act.put, List.setIfInBounds_toArray, List.set_cons_zero, List.set_cons_succ, i64_w, i32_w]
   rfl
  refine pure_ (i := 8) (N := some 5) (v := ?_) (a' := ?_) #[true, true, true, true, true, true, true, true, true] rfl rfl (any_of HT_.out (by kernel_rfl)) (fun _ _ _ h => h) (Or.inl ⟨by rfl, ?_⟩) ?_ ?_
  rotate_left
  ·intro w'
   go_simp
   with_reducible rfl
  rotate_left
  ·simp only [Act.put, List.setIfInBounds_toArray, List.set_cons_zero, List.set_cons_succ, i64_w, i32_w]
   rfl
  refine done_ (done_of HT_.out (by kernel_rfl)) ?_
  try go_wp2
  go_ret2
  exact ⟨by first | rfl | (simp [errW_none, errW_some] <;> rfl) | (simp [*, errW_none, errW_some] <;> rfl), by exact bB⟩
 ·replace c4 := Bool.eq_false_iff.mpr c4
  subst c4
  have H1 : (some (false, false)) = some (r1, r2) := by rw [if_neg (show ¬ (false = true) by decide)] at H; exact H
  clear H
  have H := H1
  clear H1
  simp only [Option.some.injEq, Prod.mk.injEq] at H
  obtain ⟨rfl, rfl⟩ := H
  go_enter Try.func46, Try.ntmps46
  go_wp2_with (first | ((with_reducible refine gate_dst (N := 2) rfl ?_); refine box_event ?hg (N := 2) ?hd (cs := #[.int .i64 a0_0, .slice A0_1 l0_1.length c0_1]) (t := 31) ?hr ?_; (case hd => rfl); (case hg => rfl); (case hr => first | (go_simp; done) | (go_simp; rfl)); intro gb784 hg w22 hbox hb; have n0_ := Aside0.mk (below_step (by exact bB) hb); have n1_ := Aside0.mk (hbox); have n2_ := Aside0.mk ((by rw [hg]; exact (below_size (by exact bB)) : w.heap.size ≤ gb784)); have n3_ := Aside0.mk ((by rw [hg]; exact (below_size (by exact bB)) : w.heap.size ≤ gb784)); clear HB; have HB := n0_; have BK784 := n1_; have GW784 := n2_; have GE784 := n3_; clear n0_ n1_ n2_ n3_; clear hb hbox hg; have hcz23_0 : w22.cell? ⟨gb784, 0, none⟩ = some (.int .i64 a0_0) := (blk_cell BK784.out 0).trans rfl; have hcz23_1 : w22.cell? ⟨gb784, 1, none⟩ = some (.slice A0_1 l0_1.length c0_1) := (blk_cell BK784.out 1).trans rfl; have hfz23_0 := blk_frozen BK784.out 0; have hfz23_1 := blk_frozen BK784.out 1) | ((with_reducible refine gate_callee (f := 86) rfl ?_); refine goesL_ (some 9) rfl rfl Try.func86 (by kernel_rfl) rfl #[.agg #[.int .i64 a0_0, .slice A0_1 l0_1.length c0_1], .slice A1 l1.length c1] rfl (by (try simp only [List.map_toArray, List.map_cons, List.map_nil]); first | done | rfl | (simp only [List.length_drop, List.length_take]; rfl)) ?_; (with_reducible refine (impl_isSet.calls k a0_0 _ _ l0_1 _ _ l1 false _ ?side1 ?side2 ?side3 ?side4 A3.out).mono ?_); (case side1 => exact cP (Kd.C_below HR0_1.out HB.out)); (case side2 => exact HC0_1.out); (case side3 => exact cP (Kd.C_below HR1.out HB.out)); (case side4 => exact HC1.out); rintro e w24 ⟨rfl, hb⟩; refine ⟨_, rfl, ?_⟩; have n0_ := Aside0.mk (blk_below (g := gb784) (o := .cells #[.int .i64 a0_0, .slice A0_1 l0_1.length c0_1] 31 (0, 0)) (by exact kP BK784.out) hb); have n1_ := Aside0.mk (below_step (by exact bB) hb); clear BK784; clear HB; have BK784 := n0_; have HB := n1_; clear n0_ n1_; (try clear hb); (try clear hb2); (try clear hk); (try clear hi)))
  go_ret2
  exact ⟨by first | rfl | (simp [errW_none, errW_some] <;> rfl) | (simp [*, errW_none, errW_some] <;> rfl), by exact bB⟩




end Go.Proofs.Ytmokkhfmbenleaa.QClosures
