import Derived.Test.YtmokkhfmbenleaaQClosures0
import Derived.Test.YtmokkhfmbenleaaQClosures11
import Derived.Test.YtmokkhfmbenleaaQClosures13
import Derived.Test.YtmokkhfmbenleaaQClosures16
import Derived.Test.YtmokkhfmbenleaaQClosures17
import Derived.Test.YtmokkhfmbenleaaQClosures18
namespace Go.Proofs.Ytmokkhfmbenleaa.QClosures
open Go.RowKit Go.Proofs.YtmokkhfmbenleaaW.PrintWords Go.Proofs.YtmokkhfmbenleaaW.PrintLast Go.Proofs.YtmokkhfmbenleaaW.PrintMore
attribute [local go_sem] max2_int min2_int max_two min_two max_three min_three max_four min_four   -- for this text's walks alone
set_option linter.unusedVariables false
set_option linter.unusedSimpArgs false
/-! ### laws_FnClosures: function 7 -/
mutual
def laws_FnClosures.j0 : Nat → List Int → List Int → Bool → List Int → List Int → Bool → Bool → Int → List (S119) → Int → List (S119) → Option (Bool)
 | 0, _, _, _, _, _, _, _, _, _, _, _ => none
 | k + 1, x4, x5, x6, x10, x11, x12, x79, x802000, x802001, x821000, x821001 => if x79 = true then (some false) else (if x12 = true then ((impl_ForceAll.f k x821000 x821001 x10).bind fun bt831 => ((impl_SkewAll.f k x821000 x821001 x11).bind fun bt835 => ((laws_vPart.f k bt831.1 x11).bind fun t839 => (if t839 = true then ((laws_vInts.f k bt835.1 x11).bind fun t840 => (if t840 = true then (laws_FnClosures.j1 k x4 x5 x6 x802000 x802001) else (some false))) else (some false))))) else (laws_FnClosures.j1 k x4 x5 x6 x802000 x802001))
def laws_FnClosures.j1 : Nat → List Int → List Int → Bool → Int → List (S119) → Option (Bool)
 | 0, _, _, _, _, _ => none
 | k + 1, x4, x5, x6, x802000, x802001 => if x6 = true then ((impl_ForceAll.f k x802000 x802001 x4).bind fun bt841 => ((impl_IsDominating.f k x802000 x802001 x4).bind fun bt845 => ((laws_vPart.f k bt841.1 x5).bind fun t847 => (if t847 = true then (if bt845.2 = true then (if bt845.1 = true then (some ((x5.length : Int) == x802000)) else (some true)) else (some true)) else (some false))))) else (some true)
end
def laws_FnClosures.f (k : Nat) (l0 : List Int) : Option (Bool) := (laws_vBig.f l0).bind fun t793 => (if t793 = true then (some true) else ((spec_DrawPowerAll.f k l0).bind fun bt794 => ((impl_PowerAll.f k bt794.1 bt794.2.1 bt794.2.2).bind fun bt802 => ((spec_PowerAll.f k bt794.1 bt794.2.1 bt794.2.2).bind fun bt806 => ((laws_vCut.f l0 1).bind fun t810 => ((spec_DrawSkewAll.f k t810).bind fun bt813 => ((impl_SkewAll.f k bt813.1 bt813.2.1 bt813.2.2).bind fun bt821 => ((spec_SkewAll.f k bt813.1 bt813.2.1 bt813.2.2).bind fun bt825 => (if (bt802.2 != bt806.2) = true then (laws_FnClosures.j0 k bt794.2.2 bt802.1 bt802.2 bt813.2.2 bt821.1 bt821.2 true bt794.1 bt794.2.1 bt813.1 bt813.2.1) else ((laws_vInts.f k bt802.1 bt806.1).bind fun t829 => (if t829 = true then (if (bt821.2 != bt825.2) = true then (laws_FnClosures.j0 k bt794.2.2 bt802.1 bt802.2 bt813.2.2 bt821.1 bt821.2 true bt794.1 bt794.2.1 bt813.1 bt813.2.1) else ((laws_vInts.f k bt821.1 bt825.1).bind fun t830 => (laws_FnClosures.j0 k bt794.2.2 bt802.1 bt802.2 bt813.2.2 bt821.1 bt821.2 (!t830) bt794.1 bt794.2.1 bt813.1 bt813.2.1))) else (laws_FnClosures.j0 k bt794.2.2 bt802.1 bt802.2 bt813.2.2 bt821.1 bt821.2 true bt794.1 bt794.2.1 bt813.1 bt813.2.1))))))))))))
theorem laws_FnClosures.mono_l : ∀ k, (∀ y0 y1 y2 y3 y4 y5 y6 y7 y8 y9 y10, LeO (laws_FnClosures.j0 k y0 y1 y2 y3 y4 y5 y6 y7 y8 y9 y10) (laws_FnClosures.j0 (k + 1) y0 y1 y2 y3 y4 y5 y6 y7 y8 y9 y10)) ∧ (∀ y0 y1 y2 y3 y4, LeO (laws_FnClosures.j1 k y0 y1 y2 y3 y4) (laws_FnClosures.j1 (k + 1) y0 y1 y2 y3 y4))
 | 0 => ⟨fun _ _ _ _ _ _ _ _ _ _ _ r h => by simp [laws_FnClosures.j0] at h, fun _ _ _ _ _ r h => by simp [laws_FnClosures.j1] at h⟩
 | k + 1 => by
  obtain ⟨ih0, ih1⟩ := laws_FnClosures.mono_l k
  refine ⟨?_, ?_⟩
  ·intro y0 y1 y2 y3 y4 y5 y6 y7 y8 y9 y10
   unfold laws_FnClosures.j0
   repeat' first
   | (with_reducible exact ih0 _ _ _ _ _ _ _ _ _ _ _)
   | (with_reducible exact ih1 _ _ _ _ _)
   | (with_reducible exact impl_ForceAll.mono _ _ _ _)
   | (with_reducible exact impl_IsDominating.mono _ _ _ _)
   | (with_reducible exact impl_PowerAll.mono _ _ _ _)
   | (with_reducible exact impl_SkewAll.mono _ _ _ _)
   | (with_reducible exact laws_vInts.mono _ _ _)
   | (with_reducible exact laws_vPart.mono _ _ _)
   | (with_reducible exact spec_DrawPowerAll.mono _ _)
   | (with_reducible exact spec_DrawSkewAll.mono _ _)
   | (with_reducible exact spec_PowerAll.mono _ _ _ _)
   | (with_reducible exact spec_SkewAll.mono _ _ _ _)
   | (with_reducible exact LeO.refl _)
   | (with_reducible exact LeO.none _)
   | (with_reducible refine LeO.ite ?_ ?_)
   | (with_reducible refine LeO.bind ?_ (fun _ => ?_))
   | exact ih0 _ _ _ _ _ _ _ _ _ _ _
   | exact ih1 _ _ _ _ _
   | exact impl_ForceAll.mono _ _ _ _
   | exact impl_IsDominating.mono _ _ _ _
   | exact impl_PowerAll.mono _ _ _ _
   | exact impl_SkewAll.mono _ _ _ _
   | exact laws_vInts.mono _ _ _
   | exact laws_vPart.mono _ _ _
   | exact spec_DrawPowerAll.mono _ _
   | exact spec_DrawSkewAll.mono _ _
   | exact spec_PowerAll.mono _ _ _ _
   | exact spec_SkewAll.mono _ _ _ _
   | exact LeO.none _
   | refine LeO.ite ?_ ?_
   | refine LeO.bind ?_ (fun _ => ?_)
  ·intro y0 y1 y2 y3 y4
   unfold laws_FnClosures.j1
   repeat' first
   | (with_reducible exact ih0 _ _ _ _ _ _ _ _ _ _ _)
   | (with_reducible exact ih1 _ _ _ _ _)
   | (with_reducible exact impl_ForceAll.mono _ _ _ _)
   | (with_reducible exact impl_IsDominating.mono _ _ _ _)
   | (with_reducible exact impl_PowerAll.mono _ _ _ _)
   | (with_reducible exact impl_SkewAll.mono _ _ _ _)
   | (with_reducible exact laws_vInts.mono _ _ _)
   | (with_reducible exact laws_vPart.mono _ _ _)
   | (with_reducible exact spec_DrawPowerAll.mono _ _)
   | (with_reducible exact spec_DrawSkewAll.mono _ _)
   | (with_reducible exact spec_PowerAll.mono _ _ _ _)
   | (with_reducible exact spec_SkewAll.mono _ _ _ _)
   | (with_reducible exact LeO.refl _)
   | (with_reducible exact LeO.none _)
   | (with_reducible refine LeO.ite ?_ ?_)
   | (with_reducible refine LeO.bind ?_ (fun _ => ?_))
   | exact ih0 _ _ _ _ _ _ _ _ _ _ _
   | exact ih1 _ _ _ _ _
   | exact impl_ForceAll.mono _ _ _ _
   | exact impl_IsDominating.mono _ _ _ _
   | exact impl_PowerAll.mono _ _ _ _
   | exact impl_SkewAll.mono _ _ _ _
   | exact laws_vInts.mono _ _ _
   | exact laws_vPart.mono _ _ _
   | exact spec_DrawPowerAll.mono _ _
   | exact spec_DrawSkewAll.mono _ _
   | exact spec_PowerAll.mono _ _ _ _
   | exact spec_SkewAll.mono _ _ _ _
   | exact LeO.none _
   | refine LeO.ite ?_ ?_
   | refine LeO.bind ?_ (fun _ => ?_)
theorem laws_FnClosures.mono : ∀ a0 k, LeO (laws_FnClosures.f k a0) (laws_FnClosures.f (k + 1) a0) := by
 intro a0 k
 obtain ⟨ih0, ih1⟩ := laws_FnClosures.mono_l k
 unfold laws_FnClosures.f
 repeat' first
   | (with_reducible exact ih0 _ _ _ _ _ _ _ _ _ _ _)
   | (with_reducible exact ih1 _ _ _ _ _)
   | (with_reducible exact impl_ForceAll.mono _ _ _ _)
   | (with_reducible exact impl_IsDominating.mono _ _ _ _)
   | (with_reducible exact impl_PowerAll.mono _ _ _ _)
   | (with_reducible exact impl_SkewAll.mono _ _ _ _)
   | (with_reducible exact laws_vInts.mono _ _ _)
   | (with_reducible exact laws_vPart.mono _ _ _)
   | (with_reducible exact spec_DrawPowerAll.mono _ _)
   | (with_reducible exact spec_DrawSkewAll.mono _ _)
   | (with_reducible exact spec_PowerAll.mono _ _ _ _)
   | (with_reducible exact spec_SkewAll.mono _ _ _ _)
   | (with_reducible exact LeO.refl _)
   | (with_reducible exact LeO.none _)
   | (with_reducible refine LeO.ite ?_ ?_)
   | (with_reducible refine LeO.bind ?_ (fun _ => ?_))
   | exact ih0 _ _ _ _ _ _ _ _ _ _ _
   | exact ih1 _ _ _ _ _
   | exact impl_ForceAll.mono _ _ _ _
   | exact impl_IsDominating.mono _ _ _ _
   | exact impl_PowerAll.mono _ _ _ _
   | exact impl_SkewAll.mono _ _ _ _
   | exact laws_vInts.mono _ _ _
   | exact laws_vPart.mono _ _ _
   | exact spec_DrawPowerAll.mono _ _
   | exact spec_DrawSkewAll.mono _ _
   | exact spec_PowerAll.mono _ _ _ _
   | exact spec_SkewAll.mono _ _ _ _
   | exact LeO.none _
   | refine LeO.ite ?_ ?_
   | refine LeO.bind ?_ (fun _ => ?_)
set_option maxHeartbeats 8000000 in
set_option maxRecDepth 100000 in
theorem laws_FnClosures.calls (k : Nat) (A0 : Option Addr) (c0 : Nat) (l0 : List Int) (r : Bool) (w : World) (hr0 : Kd.C (Kd.int .u8) w A0 l0.length l0) (hc0 : l0.length ≤ c0) (h : laws_FnClosures.f k l0 = some r) :
  Calls Try.prog 7 #[.slice A0 l0.length c0] w fun e w' => e = .returned (.bool r) ∧ Below w.heap.size w w' := by
 have hu31 := Try.underlying31
 have HR0 := Aside0.mk hr0
 have HC0 := Aside0.mk hc0
 clear hr0 hc0
 have HB := Aside0.mk (Below.refl w.heap.size w)
 have H : ((laws_vBig.f l0).bind fun t793 => (if t793 = true then (some true) else ((spec_DrawPowerAll.f k l0).bind fun bt794 => ((impl_PowerAll.f k bt794.1 bt794.2.1 bt794.2.2).bind fun bt802 => ((spec_PowerAll.f k bt794.1 bt794.2.1 bt794.2.2).bind fun bt806 => ((laws_vCut.f l0 1).bind fun t810 => ((spec_DrawSkewAll.f k t810).bind fun bt813 => ((impl_SkewAll.f k bt813.1 bt813.2.1 bt813.2.2).bind fun bt821 => ((spec_SkewAll.f k bt813.1 bt813.2.1 bt813.2.2).bind fun bt825 => (if (bt802.2 != bt806.2) = true then (laws_FnClosures.j0 k bt794.2.2 bt802.1 bt802.2 bt813.2.2 bt821.1 bt821.2 true bt794.1 bt794.2.1 bt813.1 bt813.2.1) else ((laws_vInts.f k bt802.1 bt806.1).bind fun t829 => (if t829 = true then (if (bt821.2 != bt825.2) = true then (laws_FnClosures.j0 k bt794.2.2 bt802.1 bt802.2 bt813.2.2 bt821.1 bt821.2 true bt794.1 bt794.2.1 bt813.1 bt813.2.1) else ((laws_vInts.f k bt821.1 bt825.1).bind fun t830 => (laws_FnClosures.j0 k bt794.2.2 bt802.1 bt802.2 bt813.2.2 bt821.1 bt821.2 (!t830) bt794.1 bt794.2.1 bt813.1 bt813.2.1))) else (laws_FnClosures.j0 k bt794.2.2 bt802.1 bt802.2 bt813.2.2 bt821.1 bt821.2 true bt794.1 bt794.2.1 bt813.1 bt813.2.1))))))))))))) = some r := h
 clear h
 replace H := Option.bind_eq_some_iff.mp H
 obtain ⟨t793, A20, H⟩ := H
 replace H : (if t793 = true then (some true) else ((spec_DrawPowerAll.f k l0).bind fun bt794 => ((impl_PowerAll.f k bt794.1 bt794.2.1 bt794.2.2).bind fun bt802 => ((spec_PowerAll.f k bt794.1 bt794.2.1 bt794.2.2).bind fun bt806 => ((laws_vCut.f l0 1).bind fun t810 => ((spec_DrawSkewAll.f k t810).bind fun bt813 => ((impl_SkewAll.f k bt813.1 bt813.2.1 bt813.2.2).bind fun bt821 => ((spec_SkewAll.f k bt813.1 bt813.2.1 bt813.2.2).bind fun bt825 => (if (bt802.2 != bt806.2) = true then (laws_FnClosures.j0 k bt794.2.2 bt802.1 bt802.2 bt813.2.2 bt821.1 bt821.2 true bt794.1 bt794.2.1 bt813.1 bt813.2.1) else ((laws_vInts.f k bt802.1 bt806.1).bind fun t829 => (if t829 = true then (if (bt821.2 != bt825.2) = true then (laws_FnClosures.j0 k bt794.2.2 bt802.1 bt802.2 bt813.2.2 bt821.1 bt821.2 true bt794.1 bt794.2.1 bt813.1 bt813.2.1) else ((laws_vInts.f k bt821.1 bt825.1).bind fun t830 => (laws_FnClosures.j0 k bt794.2.2 bt802.1 bt802.2 bt813.2.2 bt821.1 bt821.2 (!t830) bt794.1 bt794.2.1 bt813.1 bt813.2.1))) else (laws_FnClosures.j0 k bt794.2.2 bt802.1 bt802.2 bt813.2.2 bt821.1 bt821.2 true bt794.1 bt794.2.1 bt813.1 bt813.2.1)))))))))))) = some r := H
 have A2 := Aside0.mk A20
 clear A20
 by_cases c3 : t793 = true
 ·subst c3
  have H1 : (some true) = some r := by rw [if_pos rfl] at H; exact H
  clear H
  have H := H1
  clear H1
  obtain rfl := Option.some.inj H
  go_enter Try.func7, Try.ntmps7
  go_wp2_with (first | ((with_reducible refine gate_callee (f := 35) rfl ?_); refine goesL_ (some 24) rfl rfl Try.func35 (by kernel_rfl) rfl #[.slice A0 l0.length c0] rfl (by (try simp only [List.map_toArray, List.map_cons, List.map_nil]); first | done | rfl | (simp only [List.length_drop, List.length_take]; rfl)) ?_; (with_reducible refine (laws_vBig.calls _ _ l0 true _ ?side1 ?side2 A2.out).mono ?_); (case side1 => exact cP HR0.out); (case side2 => exact HC0.out); rintro e w' ⟨rfl, ⟨nd, rfl⟩⟩; refine ⟨_, rfl, ?_⟩))
  go_ret
  exact ⟨by first | rfl | (simp [errW_none, errW_some] <;> rfl) | (simp [*, errW_none, errW_some] <;> rfl), by exact bB⟩
 ·replace c3 := Bool.eq_false_iff.mpr c3
  subst c3
  have H1 : ((spec_DrawPowerAll.f k l0).bind fun bt794 => ((impl_PowerAll.f k bt794.1 bt794.2.1 bt794.2.2).bind fun bt802 => ((spec_PowerAll.f k bt794.1 bt794.2.1 bt794.2.2).bind fun bt806 => ((laws_vCut.f l0 1).bind fun t810 => ((spec_DrawSkewAll.f k t810).bind fun bt813 => ((impl_SkewAll.f k bt813.1 bt813.2.1 bt813.2.2).bind fun bt821 => ((spec_SkewAll.f k bt813.1 bt813.2.1 bt813.2.2).bind fun bt825 => (if (bt802.2 != bt806.2) = true then (laws_FnClosures.j0 k bt794.2.2 bt802.1 bt802.2 bt813.2.2 bt821.1 bt821.2 true bt794.1 bt794.2.1 bt813.1 bt813.2.1) else ((laws_vInts.f k bt802.1 bt806.1).bind fun t829 => (if t829 = true then (if (bt821.2 != bt825.2) = true then (laws_FnClosures.j0 k bt794.2.2 bt802.1 bt802.2 bt813.2.2 bt821.1 bt821.2 true bt794.1 bt794.2.1 bt813.1 bt813.2.1) else ((laws_vInts.f k bt821.1 bt825.1).bind fun t830 => (laws_FnClosures.j0 k bt794.2.2 bt802.1 bt802.2 bt813.2.2 bt821.1 bt821.2 (!t830) bt794.1 bt794.2.1 bt813.1 bt813.2.1))) else (laws_FnClosures.j0 k bt794.2.2 bt802.1 bt802.2 bt813.2.2 bt821.1 bt821.2 true bt794.1 bt794.2.1 bt813.1 bt813.2.1))))))))))) = some r := by rw [if_neg (show ¬ (false = true) by decide)] at H; exact H
  clear H
  have H := H1
  clear H1
  replace H := Option.bind_eq_some_iff.mp H
  obtain ⟨⟨t794, t795, t798⟩, A40, H⟩ := H
  replace H : ((impl_PowerAll.f k t794 t795 t798).bind fun bt802 => ((spec_PowerAll.f k t794 t795 t798).bind fun bt806 => ((laws_vCut.f l0 1).bind fun t810 => ((spec_DrawSkewAll.f k t810).bind fun bt813 => ((impl_SkewAll.f k bt813.1 bt813.2.1 bt813.2.2).bind fun bt821 => ((spec_SkewAll.f k bt813.1 bt813.2.1 bt813.2.2).bind fun bt825 => (if (bt802.2 != bt806.2) = true then (laws_FnClosures.j0 k t798 bt802.1 bt802.2 bt813.2.2 bt821.1 bt821.2 true t794 t795 bt813.1 bt813.2.1) else ((laws_vInts.f k bt802.1 bt806.1).bind fun t829 => (if t829 = true then (if (bt821.2 != bt825.2) = true then (laws_FnClosures.j0 k t798 bt802.1 bt802.2 bt813.2.2 bt821.1 bt821.2 true t794 t795 bt813.1 bt813.2.1) else ((laws_vInts.f k bt821.1 bt825.1).bind fun t830 => (laws_FnClosures.j0 k t798 bt802.1 bt802.2 bt813.2.2 bt821.1 bt821.2 (!t830) t794 t795 bt813.1 bt813.2.1))) else (laws_FnClosures.j0 k t798 bt802.1 bt802.2 bt813.2.2 bt821.1 bt821.2 true t794 t795 bt813.1 bt813.2.1)))))))))) = some r := H
  have A4 := Aside0.mk A40
  clear A40
  replace H := Option.bind_eq_some_iff.mp H
  obtain ⟨⟨t802, t805⟩, A50, H⟩ := H
  replace H : ((spec_PowerAll.f k t794 t795 t798).bind fun bt806 => ((laws_vCut.f l0 1).bind fun t810 => ((spec_DrawSkewAll.f k t810).bind fun bt813 => ((impl_SkewAll.f k bt813.1 bt813.2.1 bt813.2.2).bind fun bt821 => ((spec_SkewAll.f k bt813.1 bt813.2.1 bt813.2.2).bind fun bt825 => (if (t805 != bt806.2) = true then (laws_FnClosures.j0 k t798 t802 t805 bt813.2.2 bt821.1 bt821.2 true t794 t795 bt813.1 bt813.2.1) else ((laws_vInts.f k t802 bt806.1).bind fun t829 => (if t829 = true then (if (bt821.2 != bt825.2) = true then (laws_FnClosures.j0 k t798 t802 t805 bt813.2.2 bt821.1 bt821.2 true t794 t795 bt813.1 bt813.2.1) else ((laws_vInts.f k bt821.1 bt825.1).bind fun t830 => (laws_FnClosures.j0 k t798 t802 t805 bt813.2.2 bt821.1 bt821.2 (!t830) t794 t795 bt813.1 bt813.2.1))) else (laws_FnClosures.j0 k t798 t802 t805 bt813.2.2 bt821.1 bt821.2 true t794 t795 bt813.1 bt813.2.1))))))))) = some r := H
  have A5 := Aside0.mk A50
  clear A50
  replace H := Option.bind_eq_some_iff.mp H
  obtain ⟨⟨t806, t809⟩, A60, H⟩ := H
  replace H : ((laws_vCut.f l0 1).bind fun t810 => ((spec_DrawSkewAll.f k t810).bind fun bt813 => ((impl_SkewAll.f k bt813.1 bt813.2.1 bt813.2.2).bind fun bt821 => ((spec_SkewAll.f k bt813.1 bt813.2.1 bt813.2.2).bind fun bt825 => (if (t805 != t809) = true then (laws_FnClosures.j0 k t798 t802 t805 bt813.2.2 bt821.1 bt821.2 true t794 t795 bt813.1 bt813.2.1) else ((laws_vInts.f k t802 t806).bind fun t829 => (if t829 = true then (if (bt821.2 != bt825.2) = true then (laws_FnClosures.j0 k t798 t802 t805 bt813.2.2 bt821.1 bt821.2 true t794 t795 bt813.1 bt813.2.1) else ((laws_vInts.f k bt821.1 bt825.1).bind fun t830 => (laws_FnClosures.j0 k t798 t802 t805 bt813.2.2 bt821.1 bt821.2 (!t830) t794 t795 bt813.1 bt813.2.1))) else (laws_FnClosures.j0 k t798 t802 t805 bt813.2.2 bt821.1 bt821.2 true t794 t795 bt813.1 bt813.2.1)))))))) = some r := H
  have A6 := Aside0.mk A60
  clear A60
  replace H := Option.bind_eq_some_iff.mp H
  obtain ⟨t810, A70, H⟩ := H
  replace H : ((spec_DrawSkewAll.f k t810).bind fun bt813 => ((impl_SkewAll.f k bt813.1 bt813.2.1 bt813.2.2).bind fun bt821 => ((spec_SkewAll.f k bt813.1 bt813.2.1 bt813.2.2).bind fun bt825 => (if (t805 != t809) = true then (laws_FnClosures.j0 k t798 t802 t805 bt813.2.2 bt821.1 bt821.2 true t794 t795 bt813.1 bt813.2.1) else ((laws_vInts.f k t802 t806).bind fun t829 => (if t829 = true then (if (bt821.2 != bt825.2) = true then (laws_FnClosures.j0 k t798 t802 t805 bt813.2.2 bt821.1 bt821.2 true t794 t795 bt813.1 bt813.2.1) else ((laws_vInts.f k bt821.1 bt825.1).bind fun t830 => (laws_FnClosures.j0 k t798 t802 t805 bt813.2.2 bt821.1 bt821.2 (!t830) t794 t795 bt813.1 bt813.2.1))) else (laws_FnClosures.j0 k t798 t802 t805 bt813.2.2 bt821.1 bt821.2 true t794 t795 bt813.1 bt813.2.1))))))) = some r := H
  have A7 := Aside0.mk A70
  clear A70
  replace H := Option.bind_eq_some_iff.mp H
  obtain ⟨⟨t813, t814, t817⟩, A80, H⟩ := H
  replace H : ((impl_SkewAll.f k t813 t814 t817).bind fun bt821 => ((spec_SkewAll.f k t813 t814 t817).bind fun bt825 => (if (t805 != t809) = true then (laws_FnClosures.j0 k t798 t802 t805 t817 bt821.1 bt821.2 true t794 t795 t813 t814) else ((laws_vInts.f k t802 t806).bind fun t829 => (if t829 = true then (if (bt821.2 != bt825.2) = true then (laws_FnClosures.j0 k t798 t802 t805 t817 bt821.1 bt821.2 true t794 t795 t813 t814) else ((laws_vInts.f k bt821.1 bt825.1).bind fun t830 => (laws_FnClosures.j0 k t798 t802 t805 t817 bt821.1 bt821.2 (!t830) t794 t795 t813 t814))) else (laws_FnClosures.j0 k t798 t802 t805 t817 bt821.1 bt821.2 true t794 t795 t813 t814)))))) = some r := H
  have A8 := Aside0.mk A80
  clear A80
  replace H := Option.bind_eq_some_iff.mp H
  obtain ⟨⟨t821, t824⟩, A90, H⟩ := H
  replace H : ((spec_SkewAll.f k t813 t814 t817).bind fun bt825 => (if (t805 != t809) = true then (laws_FnClosures.j0 k t798 t802 t805 t817 t821 t824 true t794 t795 t813 t814) else ((laws_vInts.f k t802 t806).bind fun t829 => (if t829 = true then (if (t824 != bt825.2) = true then (laws_FnClosures.j0 k t798 t802 t805 t817 t821 t824 true t794 t795 t813 t814) else ((laws_vInts.f k t821 bt825.1).bind fun t830 => (laws_FnClosures.j0 k t798 t802 t805 t817 t821 t824 (!t830) t794 t795 t813 t814))) else (laws_FnClosures.j0 k t798 t802 t805 t817 t821 t824 true t794 t795 t813 t814))))) = some r := H
  have A9 := Aside0.mk A90
  clear A90
  replace H := Option.bind_eq_some_iff.mp H
  obtain ⟨⟨t825, t828⟩, A100, H⟩ := H
  replace H : (if (t805 != t809) = true then (laws_FnClosures.j0 k t798 t802 t805 t817 t821 t824 true t794 t795 t813 t814) else ((laws_vInts.f k t802 t806).bind fun t829 => (if t829 = true then (if (t824 != t828) = true then (laws_FnClosures.j0 k t798 t802 t805 t817 t821 t824 true t794 t795 t813 t814) else ((laws_vInts.f k t821 t825).bind fun t830 => (laws_FnClosures.j0 k t798 t802 t805 t817 t821 t824 (!t830) t794 t795 t813 t814))) else (laws_FnClosures.j0 k t798 t802 t805 t817 t821 t824 true t794 t795 t813 t814)))) = some r := H
  have A10 := Aside0.mk A100
  clear A100
  have HC11 := Aside0.mk H
  clear H
  go_enter Try.func7, Try.ntmps7
  go_upto_region 9 with (first | ((with_reducible refine gate_callee (f := 35) rfl ?_); refine goesL_ (some 24) rfl rfl Try.func35 (by kernel_rfl) rfl #[.slice A0 l0.length c0] rfl (by (try simp only [List.map_toArray, List.map_cons, List.map_nil]); first | done | rfl | (simp only [List.length_drop, List.length_take]; rfl)) ?_; (with_reducible refine (laws_vBig.calls _ _ l0 false _ ?side1 ?side2 A2.out).mono ?_); (case side1 => exact cP HR0.out); (case side2 => exact HC0.out); rintro e w' ⟨rfl, ⟨nd, rfl⟩⟩; refine ⟨_, rfl, ?_⟩) | ((with_reducible refine gate_callee (f := 36) rfl ?_); refine goesL_ (some 27) rfl rfl Try.func36 (by kernel_rfl) rfl #[.slice A0 l0.length c0] rfl (by (try simp only [List.map_toArray, List.map_cons, List.map_nil]); first | done | rfl | (simp only [List.length_drop, List.length_take]; rfl)) ?_; (with_reducible refine (spec_DrawPowerAll.calls k _ _ l0 t794 t795 t798 _ ?side1 ?side2 A4.out).mono ?_); (case side1 => exact cP HR0.out); (case side2 => exact HC0.out); rintro e w12 ⟨v796, v799, rfl, ho0, ho1, hb⟩; refine ⟨_, rfl, ?_⟩; have n0_ := Aside0.mk (Kd.R_lower ho0 (below_size (by exact bB))); have n1_ := Aside0.mk (Kd.R_lower ho1 (below_size (by exact bB))); have n2_ := Aside0.mk (below_step (by exact bB) hb); clear HB; have HO797 := n0_; have HO800 := n1_; have HB := n2_; clear n0_ n1_ n2_; (try clear hb); (try clear hb2); (try clear hk); (try clear hi); (try clear ho0); (try clear ho1)) | ((with_reducible refine gate_dst (N := 3) rfl ?_); (try (refine gate_guard (by rfl) ?_; dsimp only)); refine box_event ?hg (N := 3) ?hd (cs := #[.int .i64 0, .slice none 0 0]) (t := 31) ?hr ?_; (case hd => rfl); (case hg => rfl); (case hr => first | (go_simp; done) | (go_simp; rfl)); intro gb801 hg w13 hbox hb; have n0_ := Aside0.mk (Kd.R_below (by exact rP HO797.out) hb); have n1_ := Aside0.mk (Kd.R_below (by exact rP HO800.out) hb); have n2_ := Aside0.mk (below_step (by exact bB) hb); have n3_ := Aside0.mk (hbox); have n4_ := Aside0.mk ((by rw [hg]; exact (below_size (by exact bB)) : w.heap.size ≤ gb801)); have n5_ := Aside0.mk ((by rw [hg]; exact (below_size (by exact bB)) : w.heap.size ≤ gb801)); clear HO797; clear HO800; clear HB; have HO797 := n0_; have HO800 := n1_; have HB := n2_; have BK801 := n3_; have GW801 := n4_; have GE801 := n5_; clear n0_ n1_ n2_ n3_ n4_ n5_; clear hb hbox hg; have hcz14_0 : w13.cell? ⟨gb801, 0, none⟩ = some (.int .i64 0) := (blk_cell BK801.out 0).trans rfl; have hcz14_1 : w13.cell? ⟨gb801, 1, none⟩ = some (.slice none 0 0) := (blk_cell BK801.out 1).trans rfl; have hfz14_0 := blk_frozen BK801.out 0; have hfz14_1 := blk_frozen BK801.out 1; obtain ⟨Ao15, co15, eo15⟩ := Kd.R_slice HO797.out; subst eo15; obtain ⟨Ao16, co16, eo16⟩ := Kd.R_slice HO800.out; subst eo16) | ((with_reducible refine gate_callee (f := 37) rfl ?_); refine goesL_ (some 33) rfl rfl Try.func37 (by kernel_rfl) rfl #[.agg #[.int .i64 t794, .slice Ao15 t795.length co15], .slice Ao16 t798.length co16] rfl (by (try simp only [List.map_toArray, List.map_cons, List.map_nil]); first | done | rfl | (simp only [List.length_drop, List.length_take]; rfl)) ?_; (with_reducible refine (impl_PowerAll.calls k t794 _ _ t795 _ _ t798 t802 t805 _ ?side1 ?side2 ?side3 ?side4 A5.out).mono ?_); (case side1 => refine (Kd.R_reads' (e := 119) (base := w.heap.size) (ok := fun k_ => True) (n := t795.length) (c := co15) ?_).2.2; exact (by refine rP ?_; exact (Kd.R_mono (Kd.R_far (p := ⟨gb801, 1, none⟩) (Kd.R_far (p := ⟨gb801, 0, none⟩) (Kd.R_types HO797.out BK801.out (by decide)) (fun _ hk => hk.2) (.int .i64 t794)) (fun _ hk => hk.2) (.slice Ao15 t795.length co15)) (fun _ h_ => h_.1)))); (case side2 => exact (Kd.R_reads' HO797.out).2.1); (case side3 => refine (Kd.R_reads' (e := 3) (base := w.heap.size) (ok := fun k_ => True) (n := t798.length) (c := co16) ?_).2.2; exact (by refine rP ?_; exact (Kd.R_mono (Kd.R_far (p := ⟨gb801, 1, none⟩) (Kd.R_far (p := ⟨gb801, 0, none⟩) (Kd.R_types HO800.out BK801.out (by decide)) (fun _ hk => hk.2) (.int .i64 t794)) (fun _ hk => hk.2) (.slice Ao15 t795.length co15)) (fun _ h_ => h_.1)))); (case side4 => exact (Kd.R_reads' HO800.out).2.1); rintro e w17 ⟨v803, rfl, ho0, hb⟩; refine ⟨_, rfl, ?_⟩; have n0_ := Aside0.mk (Kd.R_below (by exact rP ((Kd.R_mono (Kd.R_far (p := ⟨gb801, 1, none⟩) (Kd.R_far (p := ⟨gb801, 0, none⟩) (Kd.R_types HO797.out BK801.out (by decide)) (fun _ hk => hk.2) (.int .i64 t794)) (fun _ hk => hk.2) (.slice Ao15 t795.length co15)) (fun _ h_ => h_.1)))) hb); have n1_ := Aside0.mk (Kd.R_elder' (by exact rP ((Kd.R_mono (Kd.R_far (p := ⟨gb801, 1, none⟩) (Kd.R_far (p := ⟨gb801, 0, none⟩) (Kd.R_types HO800.out BK801.out (by decide)) (fun _ hk => hk.2) (.int .i64 t794)) (fun _ hk => hk.2) (.slice Ao15 t795.length co15)) (fun _ h_ => h_.1)))) (Kd.R_base ho0) hb); have n2_ := Aside0.mk (Kd.R_lower (Kd.R_new' ho0 (Kd.R_lt (by exact rP ((Kd.R_mono (Kd.R_far (p := ⟨gb801, 1, none⟩) (Kd.R_far (p := ⟨gb801, 0, none⟩) (Kd.R_types HO800.out BK801.out (by decide)) (fun _ hk => hk.2) (.int .i64 t794)) (fun _ hk => hk.2) (.slice Ao15 t795.length co15)) (fun _ h_ => h_.1)))))) (below_size (by exact bB))); have n3_ := Aside0.mk (blk_below (g := gb801) (o := .cells #[.int .i64 t794, .slice Ao15 t795.length co15] 31 (0, 0)) (by refine kP ?_; refine blk_put (cs := #[.int .i64 t794, .slice none 0 0]) ?_ 1 _ rfl; refine kP ?_; refine blk_put (cs := #[.int .i64 0, .slice none 0 0]) ?_ 0 _ rfl; exact kP BK801.out) hb); have n4_ := Aside0.mk (below_step (by exact bB) hb); clear HO797; clear HO800; clear BK801; clear HB; have HO797 := n0_; have HO800 := n1_; have HO804 := n2_; have BK801 := n3_; have HB := n4_; clear n0_ n1_ n2_ n3_ n4_; (try clear hb); (try clear hb2); (try clear hk); (try clear hi); (try clear ho0); have hcz18_0 : w17.cell? ⟨gb801, 0, none⟩ = some (.int .i64 t794) := (blk_cell BK801.out 0).trans rfl; have hcz18_1 : w17.cell? ⟨gb801, 1, none⟩ = some (.slice Ao15 t795.length co15) := (blk_cell BK801.out 1).trans rfl; have hfz18_0 := blk_frozen BK801.out 0; have hfz18_1 := blk_frozen BK801.out 1) | ((with_reducible refine gate_callee (f := 38) rfl ?_); refine goesL_ (some 39) rfl rfl Try.func38 (by kernel_rfl) rfl #[.agg #[.int .i64 t794, .slice Ao15 t795.length co15], .slice Ao16 t798.length co16] rfl (by (try simp only [List.map_toArray, List.map_cons, List.map_nil]); first | done | rfl | (simp only [List.length_drop, List.length_take]; rfl)) ?_; (with_reducible refine (spec_PowerAll.calls k t794 _ _ t795 _ _ t798 t806 t809 _ ?side1 ?side2 ?side3 ?side4 A6.out).mono ?_); (case side1 => exact cP (Kd.R_reads' HO797.out).2.2); (case side2 => exact (Kd.R_reads' HO797.out).2.1); (case side3 => exact cP (Kd.R_reads' HO800.out).2.2); (case side4 => exact (Kd.R_reads' HO800.out).2.1); rintro e w19 ⟨v807, rfl, ho0, hb⟩; refine ⟨_, rfl, ?_⟩; have n0_ := Aside0.mk (Kd.R_below (by exact rP HO797.out) hb); have n1_ := Aside0.mk (Kd.R_elder' (by exact rP HO800.out) (Kd.R_base ho0) hb); have n2_ := Aside0.mk (Kd.R_elder' (by exact rP HO804.out) (Kd.R_base ho0) hb); have n3_ := Aside0.mk (Kd.R_lower (Kd.R_new' (Kd.R_new' ho0 (Kd.R_lt (by exact rP HO800.out))) (Kd.R_lt (by exact rP HO804.out))) (below_size (by exact bB))); have n4_ := Aside0.mk (blk_below (g := gb801) (o := .cells #[.int .i64 t794, .slice Ao15 t795.length co15] 31 (0, 0)) (by exact kP BK801.out) hb); have n5_ := Aside0.mk (below_step (by exact bB) hb); clear HO797; clear HO800; clear HO804; clear BK801; clear HB; have HO797 := n0_; have HO800 := n1_; have HO804 := n2_; have HO808 := n3_; have BK801 := n4_; have HB := n5_; clear n0_ n1_ n2_ n3_ n4_ n5_; (try clear hb); (try clear hb2); (try clear hk); (try clear hi); (try clear ho0)) | ((with_reducible refine gate_callee (f := 40) rfl ?_); refine goesL_ (some 44) rfl rfl Try.func40 (by kernel_rfl) rfl #[.slice A0 l0.length c0, .int .i64 1] rfl (by (try simp only [List.map_toArray, List.map_cons, List.map_nil]); first | done | rfl | (simp only [List.length_drop, List.length_take]; rfl)) ?_; (with_reducible refine (laws_vCut.calls _ _ l0 1 t810 _ ?side1 ?side2 A7.out).mono ?_); (case side1 => exact cP (Kd.C_below HR0.out HB.out)); (case side2 => exact HC0.out); rintro e w20 ⟨v811, rfl, ho0, hb⟩; refine ⟨_, rfl, ?_⟩; have n0_ := Aside0.mk (Kd.R_below (by exact rP HO797.out) hb); have n1_ := Aside0.mk (Kd.R_below (by exact rP HO800.out) hb); have n2_ := Aside0.mk (Kd.R_below (by exact rP HO804.out) hb); have n3_ := Aside0.mk (Kd.R_below (by exact rP HO808.out) hb); have n4_ := Aside0.mk (Kd.R_lower ho0 (below_size (by exact bB))); have n5_ := Aside0.mk (blk_below (g := gb801) (o := .cells #[.int .i64 t794, .slice Ao15 t795.length co15] 31 (0, 0)) (by exact kP BK801.out) hb); have n6_ := Aside0.mk (below_step (by exact bB) hb); clear HO797; clear HO800; clear HO804; clear HO808; clear BK801; clear HB; have HO797 := n0_; have HO800 := n1_; have HO804 := n2_; have HO808 := n3_; have HO812 := n4_; have BK801 := n5_; have HB := n6_; clear n0_ n1_ n2_ n3_ n4_ n5_ n6_; (try clear hb); (try clear hb2); (try clear hk); (try clear hi); (try clear ho0); obtain ⟨Ao21, co21, eo21⟩ := Kd.R_slice HO812.out; subst eo21) | ((with_reducible refine gate_callee (f := 39) rfl ?_); refine goesL_ (some 45) rfl rfl Try.func39 (by kernel_rfl) rfl #[.slice Ao21 t810.length co21] rfl (by (try simp only [List.map_toArray, List.map_cons, List.map_nil]); first | done | rfl | (simp only [List.length_drop, List.length_take]; rfl)) ?_; (with_reducible refine (spec_DrawSkewAll.calls k _ _ t810 t813 t814 t817 _ ?side1 ?side2 A8.out).mono ?_); (case side1 => exact cP (Kd.R_reads' HO812.out).2.2); (case side2 => exact (Kd.R_reads' HO812.out).2.1); rintro e w22 ⟨v815, v818, rfl, ho0, ho1, hb⟩; refine ⟨_, rfl, ?_⟩; have n0_ := Aside0.mk (Kd.R_elder' (by exact rP HO797.out) (Kd.R_base ho0) hb); have n1_ := Aside0.mk (Kd.R_elder' (by exact rP HO800.out) (Kd.R_base ho1) hb); have n2_ := Aside0.mk (Kd.R_elder' (by exact rP HO804.out) (Kd.R_base ho1) hb); have n3_ := Aside0.mk (Kd.R_elder' (by exact rP HO808.out) (Kd.R_base ho1) hb); have n4_ := Aside0.mk (Kd.R_below (by exact rP HO812.out) hb); have n5_ := Aside0.mk (Kd.R_lower (Kd.R_new' ho0 (Kd.R_lt (by exact rP HO797.out))) (below_size (by exact bB))); have n6_ := Aside0.mk (Kd.R_lower (Kd.R_new' (Kd.R_new' (Kd.R_new' ho1 (Kd.R_lt (by exact rP HO800.out))) (Kd.R_lt (by exact rP HO804.out))) (Kd.R_lt (by exact rP HO808.out))) (below_size (by exact bB))); have n7_ := Aside0.mk (blk_below (g := gb801) (o := .cells #[.int .i64 t794, .slice Ao15 t795.length co15] 31 (0, 0)) (by exact kP BK801.out) hb); have n8_ := Aside0.mk (below_step (by exact bB) hb); clear HO797; clear HO800; clear HO804; clear HO808; clear HO812; clear BK801; clear HB; have HO797 := n0_; have HO800 := n1_; have HO804 := n2_; have HO808 := n3_; have HO812 := n4_; have HO816 := n5_; have HO819 := n6_; have BK801 := n7_; have HB := n8_; clear n0_ n1_ n2_ n3_ n4_ n5_ n6_ n7_ n8_; (try clear hb); (try clear hb2); (try clear hk); (try clear hi); (try clear ho0); (try clear ho1)) | ((with_reducible refine gate_dst (N := 9) rfl ?_); (try (refine gate_guard (by rfl) ?_; dsimp only)); refine box_event ?hg (N := 9) ?hd (cs := #[.int .i64 0, .slice none 0 0]) (t := 31) ?hr ?_; (case hd => rfl); (case hg => rfl); (case hr => first | (go_simp; done) | (go_simp; rfl)); intro gb820 hg w23 hbox hb; have n0_ := Aside0.mk (Kd.R_below (by exact rP HO797.out) hb); have n1_ := Aside0.mk (Kd.R_below (by exact rP HO800.out) hb); have n2_ := Aside0.mk (Kd.R_below (by exact rP HO804.out) hb); have n3_ := Aside0.mk (Kd.R_below (by exact rP HO808.out) hb); have n4_ := Aside0.mk (Kd.R_below (by exact rP HO812.out) hb); have n5_ := Aside0.mk (Kd.R_below (by exact rP HO816.out) hb); have n6_ := Aside0.mk (Kd.R_below (by exact rP HO819.out) hb); have n7_ := Aside0.mk (blk_below (g := gb801) (o := .cells #[.int .i64 t794, .slice Ao15 t795.length co15] 31 (0, 0)) (by exact kP BK801.out) hb); have n8_ := Aside0.mk (below_step (by exact bB) hb); have n9_ := Aside0.mk (hbox); have n10_ := Aside0.mk ((by rw [hg]; exact (below_size (by exact bB)) : w.heap.size ≤ gb820)); have n11_ := Aside0.mk ((by rw [hg]; exact (below_size (by exact bB)) : w.heap.size ≤ gb820)); have n12_ := Aside0.mk ((by rw [hg]; exact Nat.ne_of_lt (blk_lt (g := gb801) (o := .cells #[.int .i64 t794, .slice Ao15 t795.length co15] 31 (0, 0)) (by exact kP BK801.out)) : gb801 ≠ gb820)); have n13_ := Aside0.mk ((by rw [hg]; exact Nat.ne_of_gt (blk_lt (g := gb801) (o := .cells #[.int .i64 t794, .slice Ao15 t795.length co15] 31 (0, 0)) (by exact kP BK801.out)) : gb820 ≠ gb801)); clear HO797; clear HO800; clear HO804; clear HO808; clear HO812; clear HO816; clear HO819; clear BK801; clear HB; have HO797 := n0_; have HO800 := n1_; have HO804 := n2_; have HO808 := n3_; have HO812 := n4_; have HO816 := n5_; have HO819 := n6_; have BK801 := n7_; have HB := n8_; have BK820 := n9_; have GW820 := n10_; have GE820 := n11_; have NB801_820 := n12_; have NB820_801 := n13_; clear n0_ n1_ n2_ n3_ n4_ n5_ n6_ n7_ n8_ n9_ n10_ n11_ n12_ n13_; clear hb hbox hg; have hnb24 := NB820_801.out; have hnc24 := NB801_820.out; have hcz25_0 : w23.cell? ⟨gb820, 0, none⟩ = some (.int .i64 0) := (blk_cell BK820.out 0).trans rfl; have hcz25_1 : w23.cell? ⟨gb820, 1, none⟩ = some (.slice none 0 0) := (blk_cell BK820.out 1).trans rfl; have hfz25_0 := blk_frozen BK820.out 0; have hfz25_1 := blk_frozen BK820.out 1; obtain ⟨Ao26, co26, eo26⟩ := Kd.R_slice HO816.out; subst eo26; obtain ⟨Ao27, co27, eo27⟩ := Kd.R_slice HO819.out; subst eo27) | ((with_reducible refine gate_callee (f := 41) rfl ?_); refine goesL_ (some 51) rfl rfl Try.func41 (by kernel_rfl) rfl #[.agg #[.int .i64 t813, .slice Ao26 t814.length co26], .slice Ao27 t817.length co27] rfl (by (try simp only [List.map_toArray, List.map_cons, List.map_nil]); first | done | rfl | (simp only [List.length_drop, List.length_take]; rfl)) ?_; (with_reducible refine (impl_SkewAll.calls k t813 _ _ t814 _ _ t817 t821 t824 _ ?side1 ?side2 ?side3 ?side4 A9.out).mono ?_); (case side1 => refine (Kd.R_reads' (e := 119) (base := w.heap.size) (ok := fun k_ => (True ∧ some k_ ≠ (.slice Ao15 t795.length co15 : Value).ownBlock)) (n := t814.length) (c := co26) ?_).2.2; exact (by refine rP ?_; exact (Kd.R_mono (Kd.R_far (p := ⟨gb820, 1, none⟩) (Kd.R_far (p := ⟨gb820, 0, none⟩) (Kd.R_types HO816.out BK820.out (by decide)) (fun _ hk => hk.2) (.int .i64 t813)) (fun _ hk => hk.2) (.slice Ao26 t814.length co26)) (fun _ h_ => h_.1)))); (case side2 => exact (Kd.R_reads' HO816.out).2.1); (case side3 => refine (Kd.R_reads' (e := 3) (base := w.heap.size) (ok := fun k_ => (((True ∧ some k_ ≠ (.slice Ao16 t798.length co16 : Value).ownBlock) ∧ some k_ ≠ (v803 : Value).ownBlock) ∧ some k_ ≠ (v807 : Value).ownBlock)) (n := t817.length) (c := co27) ?_).2.2; exact (by refine rP ?_; exact (Kd.R_mono (Kd.R_far (p := ⟨gb820, 1, none⟩) (Kd.R_far (p := ⟨gb820, 0, none⟩) (Kd.R_types HO819.out BK820.out (by decide)) (fun _ hk => hk.2) (.int .i64 t813)) (fun _ hk => hk.2) (.slice Ao26 t814.length co26)) (fun _ h_ => h_.1)))); (case side4 => exact (Kd.R_reads' HO819.out).2.1); rintro e w28 ⟨v822, rfl, ho0, hb⟩; refine ⟨_, rfl, ?_⟩; have n0_ := Aside0.mk (Kd.R_below (by exact rP ((Kd.R_mono (Kd.R_far (p := ⟨gb820, 1, none⟩) (Kd.R_far (p := ⟨gb820, 0, none⟩) (Kd.R_types HO797.out BK820.out (by decide)) (fun _ hk => hk.2) (.int .i64 t813)) (fun _ hk => hk.2) (.slice Ao26 t814.length co26)) (fun _ h_ => h_.1)))) hb); have n1_ := Aside0.mk (Kd.R_elder' (by exact rP ((Kd.R_mono (Kd.R_far (p := ⟨gb820, 1, none⟩) (Kd.R_far (p := ⟨gb820, 0, none⟩) (Kd.R_types HO800.out BK820.out (by decide)) (fun _ hk => hk.2) (.int .i64 t813)) (fun _ hk => hk.2) (.slice Ao26 t814.length co26)) (fun _ h_ => h_.1)))) (Kd.R_base ho0) hb); have n2_ := Aside0.mk (Kd.R_elder' (by exact rP ((Kd.R_mono (Kd.R_far (p := ⟨gb820, 1, none⟩) (Kd.R_far (p := ⟨gb820, 0, none⟩) (Kd.R_types HO804.out BK820.out (by decide)) (fun _ hk => hk.2) (.int .i64 t813)) (fun _ hk => hk.2) (.slice Ao26 t814.length co26)) (fun _ h_ => h_.1)))) (Kd.R_base ho0) hb); have n3_ := Aside0.mk (Kd.R_elder' (by exact rP ((Kd.R_mono (Kd.R_far (p := ⟨gb820, 1, none⟩) (Kd.R_far (p := ⟨gb820, 0, none⟩) (Kd.R_types HO808.out BK820.out (by decide)) (fun _ hk => hk.2) (.int .i64 t813)) (fun _ hk => hk.2) (.slice Ao26 t814.length co26)) (fun _ h_ => h_.1)))) (Kd.R_base ho0) hb); have n4_ := Aside0.mk (Kd.R_below (by exact rP ((Kd.R_mono (Kd.R_far (p := ⟨gb820, 1, none⟩) (Kd.R_far (p := ⟨gb820, 0, none⟩) (Kd.R_types HO812.out BK820.out (by decide)) (fun _ hk => hk.2) (.int .i64 t813)) (fun _ hk => hk.2) (.slice Ao26 t814.length co26)) (fun _ h_ => h_.1)))) hb); have n5_ := Aside0.mk (Kd.R_below (by exact rP ((Kd.R_mono (Kd.R_far (p := ⟨gb820, 1, none⟩) (Kd.R_far (p := ⟨gb820, 0, none⟩) (Kd.R_types HO816.out BK820.out (by decide)) (fun _ hk => hk.2) (.int .i64 t813)) (fun _ hk => hk.2) (.slice Ao26 t814.length co26)) (fun _ h_ => h_.1)))) hb); have n6_ := Aside0.mk (Kd.R_elder' (by exact rP ((Kd.R_mono (Kd.R_far (p := ⟨gb820, 1, none⟩) (Kd.R_far (p := ⟨gb820, 0, none⟩) (Kd.R_types HO819.out BK820.out (by decide)) (fun _ hk => hk.2) (.int .i64 t813)) (fun _ hk => hk.2) (.slice Ao26 t814.length co26)) (fun _ h_ => h_.1)))) (Kd.R_base ho0) hb); have n7_ := Aside0.mk (Kd.R_lower (Kd.R_new' (Kd.R_new' (Kd.R_new' (Kd.R_new' ho0 (Kd.R_lt (by exact rP ((Kd.R_mono (Kd.R_far (p := ⟨gb820, 1, none⟩) (Kd.R_far (p := ⟨gb820, 0, none⟩) (Kd.R_types HO800.out BK820.out (by decide)) (fun _ hk => hk.2) (.int .i64 t813)) (fun _ hk => hk.2) (.slice Ao26 t814.length co26)) (fun _ h_ => h_.1)))))) (Kd.R_lt (by exact rP ((Kd.R_mono (Kd.R_far (p := ⟨gb820, 1, none⟩) (Kd.R_far (p := ⟨gb820, 0, none⟩) (Kd.R_types HO804.out BK820.out (by decide)) (fun _ hk => hk.2) (.int .i64 t813)) (fun _ hk => hk.2) (.slice Ao26 t814.length co26)) (fun _ h_ => h_.1)))))) (Kd.R_lt (by exact rP ((Kd.R_mono (Kd.R_far (p := ⟨gb820, 1, none⟩) (Kd.R_far (p := ⟨gb820, 0, none⟩) (Kd.R_types HO808.out BK820.out (by decide)) (fun _ hk => hk.2) (.int .i64 t813)) (fun _ hk => hk.2) (.slice Ao26 t814.length co26)) (fun _ h_ => h_.1)))))) (Kd.R_lt (by exact rP ((Kd.R_mono (Kd.R_far (p := ⟨gb820, 1, none⟩) (Kd.R_far (p := ⟨gb820, 0, none⟩) (Kd.R_types HO819.out BK820.out (by decide)) (fun _ hk => hk.2) (.int .i64 t813)) (fun _ hk => hk.2) (.slice Ao26 t814.length co26)) (fun _ h_ => h_.1)))))) (below_size (by exact bB))); have n8_ := Aside0.mk (blk_below (g := gb801) (o := .cells #[.int .i64 t794, .slice Ao15 t795.length co15] 31 (0, 0)) (by refine kP ?_; refine blk_far ?_ NB801_820.out _; refine kP ?_; refine blk_far ?_ NB801_820.out _; exact kP BK801.out) hb); have n9_ := Aside0.mk (blk_below (g := gb820) (o := .cells #[.int .i64 t813, .slice Ao26 t814.length co26] 31 (0, 0)) (by refine kP ?_; refine blk_put (cs := #[.int .i64 t813, .slice none 0 0]) ?_ 1 _ rfl; refine kP ?_; refine blk_put (cs := #[.int .i64 0, .slice none 0 0]) ?_ 0 _ rfl; exact kP BK820.out) hb); have n10_ := Aside0.mk (below_step (by exact bB) hb); clear HO797; clear HO800; clear HO804; clear HO808; clear HO812; clear HO816; clear HO819; clear BK801; clear BK820; clear HB; have HO797 := n0_; have HO800 := n1_; have HO804 := n2_; have HO808 := n3_; have HO812 := n4_; have HO816 := n5_; have HO819 := n6_; have HO823 := n7_; have BK801 := n8_; have BK820 := n9_; have HB := n10_; clear n0_ n1_ n2_ n3_ n4_ n5_ n6_ n7_ n8_ n9_ n10_; (try clear hb); (try clear hb2); (try clear hk); (try clear hi); (try clear ho0); have hcz29_0 : w28.cell? ⟨gb820, 0, none⟩ = some (.int .i64 t813) := (blk_cell BK820.out 0).trans rfl; have hcz29_1 : w28.cell? ⟨gb820, 1, none⟩ = some (.slice Ao26 t814.length co26) := (blk_cell BK820.out 1).trans rfl; have hfz29_0 := blk_frozen BK820.out 0; have hfz29_1 := blk_frozen BK820.out 1) | ((with_reducible refine gate_callee (f := 42) rfl ?_); refine goesL_ (some 57) rfl rfl Try.func42 (by kernel_rfl) rfl #[.agg #[.int .i64 t813, .slice Ao26 t814.length co26], .slice Ao27 t817.length co27] rfl (by (try simp only [List.map_toArray, List.map_cons, List.map_nil]); first | done | rfl | (simp only [List.length_drop, List.length_take]; rfl)) ?_; (with_reducible refine (spec_SkewAll.calls k t813 _ _ t814 _ _ t817 t825 t828 _ ?side1 ?side2 ?side3 ?side4 A10.out).mono ?_); (case side1 => exact cP (Kd.R_reads' HO816.out).2.2); (case side2 => exact (Kd.R_reads' HO816.out).2.1); (case side3 => exact cP (Kd.R_reads' HO819.out).2.2); (case side4 => exact (Kd.R_reads' HO819.out).2.1); rintro e w30 ⟨v826, rfl, ho0, hb⟩; refine ⟨_, rfl, ?_⟩; have n0_ := Aside0.mk (Kd.R_below (by exact rP HO797.out) hb); have n1_ := Aside0.mk (Kd.R_elder' (by exact rP HO800.out) (Kd.R_base ho0) hb); have n2_ := Aside0.mk (Kd.R_elder' (by exact rP HO804.out) (Kd.R_base ho0) hb); have n3_ := Aside0.mk (Kd.R_elder' (by exact rP HO808.out) (Kd.R_base ho0) hb); have n4_ := Aside0.mk (Kd.R_below (by exact rP HO812.out) hb); have n5_ := Aside0.mk (Kd.R_below (by exact rP HO816.out) hb); have n6_ := Aside0.mk (Kd.R_elder' (by exact rP HO819.out) (Kd.R_base ho0) hb); have n7_ := Aside0.mk (Kd.R_elder' (by exact rP HO823.out) (Kd.R_base ho0) hb); have n8_ := Aside0.mk (Kd.R_lower (Kd.R_new' (Kd.R_new' (Kd.R_new' (Kd.R_new' (Kd.R_new' ho0 (Kd.R_lt (by exact rP HO800.out))) (Kd.R_lt (by exact rP HO804.out))) (Kd.R_lt (by exact rP HO808.out))) (Kd.R_lt (by exact rP HO819.out))) (Kd.R_lt (by exact rP HO823.out))) (below_size (by exact bB))); have n9_ := Aside0.mk (blk_below (g := gb801) (o := .cells #[.int .i64 t794, .slice Ao15 t795.length co15] 31 (0, 0)) (by exact kP BK801.out) hb); have n10_ := Aside0.mk (blk_below (g := gb820) (o := .cells #[.int .i64 t813, .slice Ao26 t814.length co26] 31 (0, 0)) (by exact kP BK820.out) hb); have n11_ := Aside0.mk (below_step (by exact bB) hb); clear HO797; clear HO800; clear HO804; clear HO808; clear HO812; clear HO816; clear HO819; clear HO823; clear BK801; clear BK820; clear HB; have HO797 := n0_; have HO800 := n1_; have HO804 := n2_; have HO808 := n3_; have HO812 := n4_; have HO816 := n5_; have HO819 := n6_; have HO823 := n7_; have HO827 := n8_; have BK801 := n9_; have BK820 := n10_; have HB := n11_; clear n0_ n1_ n2_ n3_ n4_ n5_ n6_ n7_ n8_ n9_ n10_ n11_; (try clear hb); (try clear hb2); (try clear hk); (try clear hi); (try clear ho0)))
  (try simp only [Act.put, List.setIfInBounds_toArray, List.set_cons_zero, List.set_cons_succ])
  go_cut [79] (fun v79 wc => ∃ (kq : Nat) (x79_10 : Bool), v79 = .bool x79_10 ∧ Aside0 (laws_FnClosures.j0 kq t798 t802 t805 t817 t821 t824 x79_10 t794 t795 t813 t814 = some r) ∧ Aside0 (kq ≤ k) ∧ Aside0 (Kd.R (Kd.int .i64) 3 wc w.heap.size (fun k_ => some k_ ≠ (v803 : Value).ownBlock ∧ some k_ ≠ ((.slice Ao27 t817.length co27) : Value).ownBlock ∧ some k_ ≠ (v822 : Value).ownBlock) (.slice Ao16 t798.length co16) t798) ∧ Aside0 (Kd.R (Kd.int .i64) 3 wc w.heap.size (fun k_ => some k_ ≠ ((.slice Ao16 t798.length co16) : Value).ownBlock ∧ some k_ ≠ ((.slice Ao27 t817.length co27) : Value).ownBlock ∧ some k_ ≠ (v822 : Value).ownBlock) v803 t802) ∧ Aside0 (Kd.R (Kd.int .i64) 3 wc w.heap.size (fun k_ => some k_ ≠ ((.slice Ao16 t798.length co16) : Value).ownBlock ∧ some k_ ≠ (v803 : Value).ownBlock ∧ some k_ ≠ (v822 : Value).ownBlock) (.slice Ao27 t817.length co27) t817) ∧ Aside0 (Kd.R (Kd.int .i64) 3 wc w.heap.size (fun k_ => some k_ ≠ ((.slice Ao16 t798.length co16) : Value).ownBlock ∧ some k_ ≠ (v803 : Value).ownBlock ∧ some k_ ≠ ((.slice Ao27 t817.length co27) : Value).ownBlock) v822 t821) ∧ Aside0 (Kd.R k119 119 wc w.heap.size (fun k_ => some k_ ≠ ((.slice Ao26 t814.length co26) : Value).ownBlock) (.slice Ao15 t795.length co15) t795) ∧ Aside0 (Kd.R k119 119 wc w.heap.size (fun k_ => some k_ ≠ ((.slice Ao15 t795.length co15) : Value).ownBlock) (.slice Ao26 t814.length co26) t814) ∧ Aside0 (wc.heap[gb801]? = some (.cells #[.int .i64 t794, (.slice Ao15 t795.length co15)] 31 (0, 0))) ∧ Aside0 (wc.heap[gb820]? = some (.cells #[.int .i64 t813, (.slice Ao26 t814.length co26)] 31 (0, 0))) ∧ Aside0 (Below w.heap.size w wc))
  case first =>
   have H := HC11.out
   clear HC11
   by_cases c31 : (t805 != t809) = true
   ·rw [if_pos c31] at H
    have c31b0 : (t805 != t809) = true := c31
    (try (have c31b1 : decide (t805 = t809) = false := by simpa using c31))
    (try (have c31b2 : (t805 == t809) = false := by simpa using c31))
    (try (have c31b3 : ¬ (t805 = t809) := by simpa using c31))
    clear c31
    (first | rw [c31b0] | (simp only [i64_w, i32_w]; rw [c31b0]) | skip)
    have H' := Aside0.mk H
    clear H
    go_wp2
    go_meet
    case rel => exact ⟨_, (true), (by first | rfl | (simp; done) | (simp [*]; done)), H', ⟨by first | omega | exact Nat.le_refl _⟩, ⟨by refine rP ?_; exact Kd.R_mono HO800.out (fun _ hk => ⟨hk.1.1.1.1.2, ⟨hk.1.1.2, hk.1.2⟩⟩)⟩, ⟨by refine rP ?_; exact Kd.R_mono HO804.out (fun _ hk => ⟨hk.1.1.1.1.2, ⟨hk.1.1.2, hk.1.2⟩⟩)⟩, ⟨by refine rP ?_; exact Kd.R_mono HO819.out (fun _ hk => ⟨hk.1.1.1.1.2, ⟨hk.1.1.1.2, hk.1.2⟩⟩)⟩, ⟨by refine rP ?_; exact Kd.R_mono HO823.out (fun _ hk => ⟨hk.1.1.1.1.2, ⟨hk.1.1.1.2, hk.1.2⟩⟩)⟩, ⟨by refine rP ?_; exact Kd.R_mono HO797.out (fun _ hk => hk.2)⟩, ⟨by refine rP ?_; exact Kd.R_mono HO816.out (fun _ hk => hk.2)⟩, ⟨by exact kP BK801.out⟩, ⟨by exact kP BK820.out⟩, ⟨by exact bB⟩⟩
   ·rw [if_neg c31] at H
    have c31b0 : (t805 != t809) = false := by simpa using c31
    (try (have c31b1 : decide (t805 = t809) = true := by simpa using c31))
    (try (have c31b2 : (t805 == t809) = true := by simpa using c31))
    clear c31
    (first | rw [c31b0] | (simp only [i64_w, i32_w]; rw [c31b0]) | skip)
    replace H := Option.bind_eq_some_iff.mp H
    obtain ⟨t829, A320, H⟩ := H
    replace H : (if t829 = true then (if (t824 != t828) = true then (laws_FnClosures.j0 k t798 t802 t805 t817 t821 t824 true t794 t795 t813 t814) else ((laws_vInts.f k t821 t825).bind fun t830 => (laws_FnClosures.j0 k t798 t802 t805 t817 t821 t824 (!t830) t794 t795 t813 t814))) else (laws_FnClosures.j0 k t798 t802 t805 t817 t821 t824 true t794 t795 t813 t814)) = some r := H
    have A32 := Aside0.mk A320
    clear A320
    by_cases c33 : t829 = true
    ·subst c33
     have H1 : (if (t824 != t828) = true then (laws_FnClosures.j0 k t798 t802 t805 t817 t821 t824 true t794 t795 t813 t814) else ((laws_vInts.f k t821 t825).bind fun t830 => (laws_FnClosures.j0 k t798 t802 t805 t817 t821 t824 (!t830) t794 t795 t813 t814))) = some r := by rw [if_pos rfl] at H; exact H
     clear H
     have H := H1
     clear H1
     by_cases c34 : (t824 != t828) = true
     ·rw [if_pos c34] at H
      have c34b0 : (t824 != t828) = true := c34
      (try (have c34b1 : decide (t824 = t828) = false := by simpa using c34))
      (try (have c34b2 : (t824 == t828) = false := by simpa using c34))
      (try (have c34b3 : ¬ (t824 = t828) := by simpa using c34))
      clear c34
      have H' := Aside0.mk H
      clear H
      obtain ⟨Ao35, co35, eo35⟩ := Kd.R_slice HO804.out
      subst eo35
      obtain ⟨Ao36, co36, eo36⟩ := Kd.R_slice HO808.out
      subst eo36
      go_wp2_with (first | (go_at_call 43; (with_reducible refine (laws_vInts.calls k _ _ t802 _ _ t806 true _ ?side1 ?side2 ?side3 ?side4 A32.out).mono ?_); (case side1 => exact cP (Kd.R_reads' HO804.out).2.2); (case side2 => exact (Kd.R_reads' HO804.out).2.1); (case side3 => exact cP (Kd.R_reads' HO808.out).2.2); (case side4 => exact (Kd.R_reads' HO808.out).2.1); rintro e w' ⟨rfl, ⟨nd, rfl⟩⟩))
      go_meet
      case rel => exact ⟨_, (true), (by first | rfl | (simp; done) | (simp [*]; done)), H', ⟨by first | omega | exact Nat.le_refl _⟩, ⟨by refine rP ?_; exact Kd.R_mono HO800.out (fun _ hk => ⟨hk.1.1.1.1.2, ⟨hk.1.1.2, hk.1.2⟩⟩)⟩, ⟨by refine rP ?_; exact Kd.R_mono HO804.out (fun _ hk => ⟨hk.1.1.1.1.2, ⟨hk.1.1.2, hk.1.2⟩⟩)⟩, ⟨by refine rP ?_; exact Kd.R_mono HO819.out (fun _ hk => ⟨hk.1.1.1.1.2, ⟨hk.1.1.1.2, hk.1.2⟩⟩)⟩, ⟨by refine rP ?_; exact Kd.R_mono HO823.out (fun _ hk => ⟨hk.1.1.1.1.2, ⟨hk.1.1.1.2, hk.1.2⟩⟩)⟩, ⟨by refine rP ?_; exact Kd.R_mono HO797.out (fun _ hk => hk.2)⟩, ⟨by refine rP ?_; exact Kd.R_mono HO816.out (fun _ hk => hk.2)⟩, ⟨by exact kP BK801.out⟩, ⟨by exact kP BK820.out⟩, ⟨by exact bB⟩⟩
     ·rw [if_neg c34] at H
      have c34b0 : (t824 != t828) = false := by simpa using c34
      (try (have c34b1 : decide (t824 = t828) = true := by simpa using c34))
      (try (have c34b2 : (t824 == t828) = true := by simpa using c34))
      clear c34
      replace H := Option.bind_eq_some_iff.mp H
      obtain ⟨t830, A370, H⟩ := H
      replace H : (laws_FnClosures.j0 k t798 t802 t805 t817 t821 t824 (!t830) t794 t795 t813 t814) = some r := H
      have A37 := Aside0.mk A370
      clear A370
      have H' := Aside0.mk H
      clear H
      obtain ⟨Ao38, co38, eo38⟩ := Kd.R_slice HO804.out
      subst eo38
      obtain ⟨Ao39, co39, eo39⟩ := Kd.R_slice HO808.out
      subst eo39
      go_wp2_with (first | (go_at_call 43; (with_reducible refine (laws_vInts.calls k _ _ t802 _ _ t806 true _ ?side1 ?side2 ?side3 ?side4 A32.out).mono ?_); (case side1 => exact cP (Kd.R_reads' HO804.out).2.2); (case side2 => exact (Kd.R_reads' HO804.out).2.1); (case side3 => exact cP (Kd.R_reads' HO808.out).2.2); (case side4 => exact (Kd.R_reads' HO808.out).2.1); rintro e w' ⟨rfl, ⟨nd, rfl⟩⟩; obtain ⟨Ao40, co40, eo40⟩ := Kd.R_slice HO823.out; subst eo40; obtain ⟨Ao41, co41, eo41⟩ := Kd.R_slice HO827.out; subst eo41) | (go_at_call 43; (with_reducible refine (laws_vInts.calls k _ _ t821 _ _ t825 t830 _ ?side1 ?side2 ?side3 ?side4 A37.out).mono ?_); (case side1 => exact cP (Kd.R_reads' HO823.out).2.2); (case side2 => exact (Kd.R_reads' HO823.out).2.1); (case side3 => exact cP (Kd.R_reads' HO827.out).2.2); (case side4 => exact (Kd.R_reads' HO827.out).2.1); rintro e w' ⟨rfl, ⟨nd, rfl⟩⟩))
      go_meet
      case rel => exact ⟨_, (!t830), (by first | rfl | (simp; done) | (simp [*]; done)), H', ⟨by first | omega | exact Nat.le_refl _⟩, ⟨by refine rP ?_; exact Kd.R_mono HO800.out (fun _ hk => ⟨hk.1.1.1.1.2, ⟨hk.1.1.2, hk.1.2⟩⟩)⟩, ⟨by refine rP ?_; exact Kd.R_mono HO804.out (fun _ hk => ⟨hk.1.1.1.1.2, ⟨hk.1.1.2, hk.1.2⟩⟩)⟩, ⟨by refine rP ?_; exact Kd.R_mono HO819.out (fun _ hk => ⟨hk.1.1.1.1.2, ⟨hk.1.1.1.2, hk.1.2⟩⟩)⟩, ⟨by refine rP ?_; exact Kd.R_mono HO823.out (fun _ hk => ⟨hk.1.1.1.1.2, ⟨hk.1.1.1.2, hk.1.2⟩⟩)⟩, ⟨by refine rP ?_; exact Kd.R_mono HO797.out (fun _ hk => hk.2)⟩, ⟨by refine rP ?_; exact Kd.R_mono HO816.out (fun _ hk => hk.2)⟩, ⟨by exact kP BK801.out⟩, ⟨by exact kP BK820.out⟩, ⟨by exact bB⟩⟩
    ·replace c33 := Bool.eq_false_iff.mpr c33
     subst c33
     have H1 : (laws_FnClosures.j0 k t798 t802 t805 t817 t821 t824 true t794 t795 t813 t814) = some r := by rw [if_neg (show ¬ (false = true) by decide)] at H; exact H
     clear H
     have H := H1
     clear H1
     have H' := Aside0.mk H
     clear H
     obtain ⟨Ao42, co42, eo42⟩ := Kd.R_slice HO804.out
     subst eo42
     obtain ⟨Ao43, co43, eo43⟩ := Kd.R_slice HO808.out
     subst eo43
     go_wp2_with (first | (go_at_call 43; (with_reducible refine (laws_vInts.calls k _ _ t802 _ _ t806 false _ ?side1 ?side2 ?side3 ?side4 A32.out).mono ?_); (case side1 => exact cP (Kd.R_reads' HO804.out).2.2); (case side2 => exact (Kd.R_reads' HO804.out).2.1); (case side3 => exact cP (Kd.R_reads' HO808.out).2.2); (case side4 => exact (Kd.R_reads' HO808.out).2.1); rintro e w' ⟨rfl, ⟨nd, rfl⟩⟩))
     go_meet
     case rel => exact ⟨_, (true), (by first | rfl | (simp; done) | (simp [*]; done)), H', ⟨by first | omega | exact Nat.le_refl _⟩, ⟨by refine rP ?_; exact Kd.R_mono HO800.out (fun _ hk => ⟨hk.1.1.1.1.2, ⟨hk.1.1.2, hk.1.2⟩⟩)⟩, ⟨by refine rP ?_; exact Kd.R_mono HO804.out (fun _ hk => ⟨hk.1.1.1.1.2, ⟨hk.1.1.2, hk.1.2⟩⟩)⟩, ⟨by refine rP ?_; exact Kd.R_mono HO819.out (fun _ hk => ⟨hk.1.1.1.1.2, ⟨hk.1.1.1.2, hk.1.2⟩⟩)⟩, ⟨by refine rP ?_; exact Kd.R_mono HO823.out (fun _ hk => ⟨hk.1.1.1.1.2, ⟨hk.1.1.1.2, hk.1.2⟩⟩)⟩, ⟨by refine rP ?_; exact Kd.R_mono HO797.out (fun _ hk => hk.2)⟩, ⟨by refine rP ?_; exact Kd.R_mono HO816.out (fun _ hk => hk.2)⟩, ⟨by exact kP BK801.out⟩, ⟨by exact kP BK820.out⟩, ⟨by exact bB⟩⟩
  case rest =>
   clear HC11
   try clear c2
   try clear p2
   try clear c3
   try clear c4
   try clear c7
   try clear c24
   try clear c31
   try clear c31b0
   try clear c31b1
   try clear c31b2
   try clear c33
   try clear c34
   try clear c34b0
   try clear c34b1
   try clear c34b2
   try clear c35
   try clear c36
   try clear c37
   try clear c38
   try clear c39
   try clear c40
   try clear c41
   try clear c42
   try clear hcz14_0
   try clear hcz14_1
   try clear hcz18_0
   try clear hcz18_1
   try clear hcz25_0
   try clear hcz25_1
   try clear hcz29_0
   try clear hcz29_1
   try clear hfz14_0
   try clear hfz14_1
   try clear hfz18_0
   try clear hfz18_1
   try clear hfz25_0
   try clear hfz25_1
   try clear hfz29_0
   try clear hfz29_1
   obtain ⟨kq, x79_10, rfl, HA, HJ10, HO_4, HO_5, HO_10, HO_11, HO_802001, HO_821001, BK801, BK820, HB⟩ := hcut
   cases kq with
   | zero => exact absurd HA.out (by simp [laws_FnClosures.j0])
   | succ kj10 =>
    have H := HA.out
    clear HA
    simp only [laws_FnClosures.j0] at H
    by_cases c44 : x79_10 = true
    ·subst c44
     have H1 : (some false) = some r := by rw [if_pos rfl] at H; exact H
     clear H
     have H := H1
     clear H1
     obtain rfl := Option.some.inj H
     go_wp2
     go_ret
     exact ⟨by first | rfl | (simp [errW_none, errW_some] <;> rfl) | (simp [*, errW_none, errW_some] <;> rfl), by exact bB⟩
    ·replace c44 := Bool.eq_false_iff.mpr c44
     subst c44
     have H1 : (if t824 = true then ((impl_ForceAll.f kj10 t813 t814 t817).bind fun bt831 => ((impl_SkewAll.f kj10 t813 t814 t821).bind fun bt835 => ((laws_vPart.f kj10 bt831.1 t821).bind fun t839 => (if t839 = true then ((laws_vInts.f kj10 bt835.1 t821).bind fun t840 => (if t840 = true then (laws_FnClosures.j1 kj10 t798 t802 t805 t794 t795) else (some false))) else (some false))))) else (laws_FnClosures.j1 kj10 t798 t802 t805 t794 t795)) = some r := by rw [if_neg (show ¬ (false = true) by decide)] at H; exact H
     clear H
     have H := H1
     clear H1
     have HC45 := Aside0.mk H
     clear H
     go_upto_if 80 with (fail)
     go_cut [] (fun wc => ∃ (kq : Nat), Aside0 (laws_FnClosures.j1 kq t798 t802 t805 t794 t795 = some r) ∧ Aside0 (kq ≤ kj10) ∧ Aside0 (Kd.R (Kd.int .i64) 3 wc w.heap.size (fun k_ => some k_ ≠ (v803 : Value).ownBlock) (.slice Ao16 t798.length co16) t798) ∧ Aside0 (Kd.R (Kd.int .i64) 3 wc w.heap.size (fun k_ => some k_ ≠ ((.slice Ao16 t798.length co16) : Value).ownBlock) v803 t802) ∧ Aside0 (Kd.R k119 119 wc w.heap.size (fun k_ => some k_ ≠ ((.slice Ao26 t814.length co26) : Value).ownBlock) (.slice Ao15 t795.length co15) t795) ∧ Aside0 (Kd.R k119 119 wc w.heap.size (fun k_ => some k_ ≠ ((.slice Ao15 t795.length co15) : Value).ownBlock) (.slice Ao26 t814.length co26) t814) ∧ Aside0 (wc.heap[gb801]? = some (.cells #[.int .i64 t794, (.slice Ao15 t795.length co15)] 31 (0, 0))) ∧ Aside0 (wc.heap[gb820]? = some (.cells #[.int .i64 t813, (.slice Ao26 t814.length co26)] 31 (0, 0))) ∧ Aside0 (Below w.heap.size w wc))
     case first =>
      have H := HC45.out
      clear HC45
      by_cases c46 : t824 = true
      ·subst c46
       have H1 : ((impl_ForceAll.f kj10 t813 t814 t817).bind fun bt831 => ((impl_SkewAll.f kj10 t813 t814 t821).bind fun bt835 => ((laws_vPart.f kj10 bt831.1 t821).bind fun t839 => (if t839 = true then ((laws_vInts.f kj10 bt835.1 t821).bind fun t840 => (if t840 = true then (laws_FnClosures.j1 kj10 t798 t802 t805 t794 t795) else (some false))) else (some false))))) = some r := by rw [if_pos rfl] at H; exact H
       clear H
       have H := H1
       clear H1
       replace H := Option.bind_eq_some_iff.mp H
       obtain ⟨⟨t831, t834⟩, A470, H⟩ := H
       replace H : ((impl_SkewAll.f kj10 t813 t814 t821).bind fun bt835 => ((laws_vPart.f kj10 t831 t821).bind fun t839 => (if t839 = true then ((laws_vInts.f kj10 bt835.1 t821).bind fun t840 => (if t840 = true then (laws_FnClosures.j1 kj10 t798 t802 t805 t794 t795) else (some false))) else (some false)))) = some r := H
       have A47 := Aside0.mk A470
       clear A470
       replace H := Option.bind_eq_some_iff.mp H
       obtain ⟨⟨t835, t838⟩, A480, H⟩ := H
       replace H : ((laws_vPart.f kj10 t831 t821).bind fun t839 => (if t839 = true then ((laws_vInts.f kj10 t835 t821).bind fun t840 => (if t840 = true then (laws_FnClosures.j1 kj10 t798 t802 t805 t794 t795) else (some false))) else (some false))) = some r := H
       have A48 := Aside0.mk A480
       clear A480
       replace H := Option.bind_eq_some_iff.mp H
       obtain ⟨t839, A490, H⟩ := H
       replace H : (if t839 = true then ((laws_vInts.f kj10 t835 t821).bind fun t840 => (if t840 = true then (laws_FnClosures.j1 kj10 t798 t802 t805 t794 t795) else (some false))) else (some false)) = some r := H
       have A49 := Aside0.mk A490
       clear A490
       by_cases c50 : t839 = true
       ·subst c50
        have H1 : ((laws_vInts.f kj10 t835 t821).bind fun t840 => (if t840 = true then (laws_FnClosures.j1 kj10 t798 t802 t805 t794 t795) else (some false))) = some r := by rw [if_pos rfl] at H; exact H
        clear H
        have H := H1
        clear H1
        replace H := Option.bind_eq_some_iff.mp H
        obtain ⟨t840, A510, H⟩ := H
        replace H : (if t840 = true then (laws_FnClosures.j1 kj10 t798 t802 t805 t794 t795) else (some false)) = some r := H
        have A51 := Aside0.mk A510
        clear A510
        by_cases c52 : t840 = true
        ·subst c52
         have H1 : (laws_FnClosures.j1 kj10 t798 t802 t805 t794 t795) = some r := by rw [if_pos rfl] at H; exact H
         clear H
         have H := H1
         clear H1
         have H' := Aside0.mk H
         clear H
         have hnb53 := NB820_801.out
         have hnc53 := NB801_820.out
         have hcz54_0 : wc.cell? ⟨gb820, 0, none⟩ = some (.int .i64 t813) := (blk_cell BK820.out 0).trans rfl
         have hcz54_1 : wc.cell? ⟨gb820, 1, none⟩ = some (.slice Ao26 t814.length co26) := (blk_cell BK820.out 1).trans rfl
         have hfz54_0 := blk_frozen BK820.out 0
         have hfz54_1 := blk_frozen BK820.out 1
         go_wp2_with (first | ((with_reducible refine gate_callee (f := 44) rfl ?_); refine goesL_ (some 84) rfl rfl Try.func44 (by kernel_rfl) rfl #[.agg #[.int .i64 t813, .slice Ao26 t814.length co26], .slice Ao27 t817.length co27] rfl (by (try simp only [List.map_toArray, List.map_cons, List.map_nil]); first | done | rfl | (simp only [List.length_drop, List.length_take]; rfl)) ?_; (with_reducible refine (impl_ForceAll.calls kj10 t813 _ _ t814 _ _ t817 t831 t834 _ ?side1 ?side2 ?side3 ?side4 A47.out).mono ?_); (case side1 => exact cP (Kd.R_reads' HO_821001.out).2.2); (case side2 => exact (Kd.R_reads' HO_821001.out).2.1); (case side3 => exact cP (Kd.R_reads' HO_10.out).2.2); (case side4 => exact (Kd.R_reads' HO_10.out).2.1); rintro e w55 ⟨v832, rfl, ho0, hb⟩; refine ⟨_, rfl, ?_⟩; have n0_ := Aside0.mk (Kd.R_elder' (by exact rP HO_4.out) (Kd.R_base ho0) hb); have n1_ := Aside0.mk (Kd.R_elder' (by exact rP HO_5.out) (Kd.R_base ho0) hb); have n2_ := Aside0.mk (Kd.R_elder' (by exact rP HO_10.out) (Kd.R_base ho0) hb); have n3_ := Aside0.mk (Kd.R_elder' (by exact rP HO_11.out) (Kd.R_base ho0) hb); have n4_ := Aside0.mk (Kd.R_below (by exact rP HO_802001.out) hb); have n5_ := Aside0.mk (Kd.R_below (by exact rP HO_821001.out) hb); have n6_ := Aside0.mk (Kd.R_lower (Kd.R_new' (Kd.R_new' (Kd.R_new' (Kd.R_new' ho0 (Kd.R_lt (by exact rP HO_4.out))) (Kd.R_lt (by exact rP HO_5.out))) (Kd.R_lt (by exact rP HO_10.out))) (Kd.R_lt (by exact rP HO_11.out))) (below_size (by exact bB))); have n7_ := Aside0.mk (blk_below (g := gb801) (o := .cells #[.int .i64 t794, .slice Ao15 t795.length co15] 31 (0, 0)) (by exact kP BK801.out) hb); have n8_ := Aside0.mk (blk_below (g := gb820) (o := .cells #[.int .i64 t813, .slice Ao26 t814.length co26] 31 (0, 0)) (by exact kP BK820.out) hb); have n9_ := Aside0.mk (below_step (by exact bB) hb); clear HO_4; clear HO_5; clear HO_10; clear HO_11; clear HO_802001; clear HO_821001; clear BK801; clear BK820; clear HB; have HO_4 := n0_; have HO_5 := n1_; have HO_10 := n2_; have HO_11 := n3_; have HO_802001 := n4_; have HO_821001 := n5_; have HO833 := n6_; have BK801 := n7_; have BK820 := n8_; have HB := n9_; clear n0_ n1_ n2_ n3_ n4_ n5_ n6_ n7_ n8_ n9_; (try clear hb); (try clear hb2); (try clear hk); (try clear hi); (try clear ho0); have hcz56_0 : w55.cell? ⟨gb820, 0, none⟩ = some (.int .i64 t813) := (blk_cell BK820.out 0).trans rfl; have hcz56_1 : w55.cell? ⟨gb820, 1, none⟩ = some (.slice Ao26 t814.length co26) := (blk_cell BK820.out 1).trans rfl; have hfz56_0 := blk_frozen BK820.out 0; have hfz56_1 := blk_frozen BK820.out 1; obtain ⟨Ao57, co57, eo57⟩ := Kd.R_slice HO_11.out; subst eo57) | ((with_reducible refine gate_callee (f := 41) rfl ?_); refine goesL_ (some 90) rfl rfl Try.func41 (by kernel_rfl) rfl #[.agg #[.int .i64 t813, .slice Ao26 t814.length co26], .slice Ao57 t821.length co57] rfl (by (try simp only [List.map_toArray, List.map_cons, List.map_nil]); first | done | rfl | (simp only [List.length_drop, List.length_take]; rfl)) ?_; (with_reducible refine (impl_SkewAll.calls kj10 t813 _ _ t814 _ _ t821 t835 t838 _ ?side1 ?side2 ?side3 ?side4 A48.out).mono ?_); (case side1 => exact cP (Kd.R_reads' HO_821001.out).2.2); (case side2 => exact (Kd.R_reads' HO_821001.out).2.1); (case side3 => exact cP (Kd.R_reads' HO_11.out).2.2); (case side4 => exact (Kd.R_reads' HO_11.out).2.1); rintro e w58 ⟨v836, rfl, ho0, hb⟩; refine ⟨_, rfl, ?_⟩; have n0_ := Aside0.mk (Kd.R_elder' (by exact rP HO_4.out) (Kd.R_base ho0) hb); have n1_ := Aside0.mk (Kd.R_elder' (by exact rP HO_5.out) (Kd.R_base ho0) hb); have n2_ := Aside0.mk (Kd.R_elder' (by exact rP HO_10.out) (Kd.R_base ho0) hb); have n3_ := Aside0.mk (Kd.R_elder' (by exact rP HO_11.out) (Kd.R_base ho0) hb); have n4_ := Aside0.mk (Kd.R_below (by exact rP HO_802001.out) hb); have n5_ := Aside0.mk (Kd.R_below (by exact rP HO_821001.out) hb); have n6_ := Aside0.mk (Kd.R_elder' (by exact rP HO833.out) (Kd.R_base ho0) hb); have n7_ := Aside0.mk (Kd.R_lower (Kd.R_new' (Kd.R_new' (Kd.R_new' (Kd.R_new' (Kd.R_new' ho0 (Kd.R_lt (by exact rP HO_4.out))) (Kd.R_lt (by exact rP HO_5.out))) (Kd.R_lt (by exact rP HO_10.out))) (Kd.R_lt (by exact rP HO_11.out))) (Kd.R_lt (by exact rP HO833.out))) (below_size (by exact bB))); have n8_ := Aside0.mk (blk_below (g := gb801) (o := .cells #[.int .i64 t794, .slice Ao15 t795.length co15] 31 (0, 0)) (by exact kP BK801.out) hb); have n9_ := Aside0.mk (blk_below (g := gb820) (o := .cells #[.int .i64 t813, .slice Ao26 t814.length co26] 31 (0, 0)) (by exact kP BK820.out) hb); have n10_ := Aside0.mk (below_step (by exact bB) hb); clear HO_4; clear HO_5; clear HO_10; clear HO_11; clear HO_802001; clear HO_821001; clear HO833; clear BK801; clear BK820; clear HB; have HO_4 := n0_; have HO_5 := n1_; have HO_10 := n2_; have HO_11 := n3_; have HO_802001 := n4_; have HO_821001 := n5_; have HO833 := n6_; have HO837 := n7_; have BK801 := n8_; have BK820 := n9_; have HB := n10_; clear n0_ n1_ n2_ n3_ n4_ n5_ n6_ n7_ n8_ n9_ n10_; (try clear hb); (try clear hb2); (try clear hk); (try clear hi); (try clear ho0); obtain ⟨Ao59, co59, eo59⟩ := Kd.R_slice HO833.out; subst eo59) | ((with_reducible refine gate_callee (f := 45) rfl ?_); refine goesL_ (some 95) rfl rfl Try.func45 (by kernel_rfl) rfl #[.slice Ao59 t831.length co59, .slice Ao57 t821.length co57] rfl (by (try simp only [List.map_toArray, List.map_cons, List.map_nil]); first | done | rfl | (simp only [List.length_drop, List.length_take]; rfl)) ?_; (with_reducible refine (laws_vPart.calls kj10 _ _ t831 _ _ t821 true _ ?side1 ?side2 ?side3 ?side4 A49.out).mono ?_); (case side1 => exact cP (Kd.R_reads' HO833.out).2.2); (case side2 => exact (Kd.R_reads' HO833.out).2.1); (case side3 => exact cP (Kd.R_reads' HO_11.out).2.2); (case side4 => exact (Kd.R_reads' HO_11.out).2.1); rintro e w' ⟨rfl, ⟨nd, rfl⟩⟩; refine ⟨_, rfl, ?_⟩; obtain ⟨Ao60, co60, eo60⟩ := Kd.R_slice HO837.out; subst eo60) | (go_at_call 43; (with_reducible refine (laws_vInts.calls kj10 _ _ t835 _ _ t821 true _ ?side1 ?side2 ?side3 ?side4 A51.out).mono ?_); (case side1 => exact cP (Kd.R_reads' HO837.out).2.2); (case side2 => exact (Kd.R_reads' HO837.out).2.1); (case side3 => exact cP (Kd.R_reads' HO_11.out).2.2); (case side4 => exact (Kd.R_reads' HO_11.out).2.1); rintro e w' ⟨rfl, ⟨nd, rfl⟩⟩))
         go_meet
         case rel => exact ⟨_, H', ⟨by have := HJ10.out; first | omega | exact Nat.le_refl _⟩, ⟨by refine rP ?_; exact Kd.R_mono HO_4.out (fun _ hk => hk.1.1.1)⟩, ⟨by refine rP ?_; exact Kd.R_mono HO_5.out (fun _ hk => hk.1.1.1)⟩, ⟨by exact rP HO_802001.out⟩, ⟨by exact rP HO_821001.out⟩, ⟨by exact kP BK801.out⟩, ⟨by exact kP BK820.out⟩, ⟨by exact bB⟩⟩
        ·replace c52 := Bool.eq_false_iff.mpr c52
         subst c52
         have H1 : (some false) = some r := by rw [if_neg (show ¬ (false = true) by decide)] at H; exact H
         clear H
         have H := H1
         clear H1
         obtain rfl := Option.some.inj H
         have hnb61 := NB820_801.out
         have hnc61 := NB801_820.out
         have hcz62_0 : wc.cell? ⟨gb820, 0, none⟩ = some (.int .i64 t813) := (blk_cell BK820.out 0).trans rfl
         have hcz62_1 : wc.cell? ⟨gb820, 1, none⟩ = some (.slice Ao26 t814.length co26) := (blk_cell BK820.out 1).trans rfl
         have hfz62_0 := blk_frozen BK820.out 0
         have hfz62_1 := blk_frozen BK820.out 1
         go_wp2_with (first | ((with_reducible refine gate_callee (f := 44) rfl ?_); refine goesL_ (some 84) rfl rfl Try.func44 (by kernel_rfl) rfl #[.agg #[.int .i64 t813, .slice Ao26 t814.length co26], .slice Ao27 t817.length co27] rfl (by (try simp only [List.map_toArray, List.map_cons, List.map_nil]); first | done | rfl | (simp only [List.length_drop, List.length_take]; rfl)) ?_; (with_reducible refine (impl_ForceAll.calls kj10 t813 _ _ t814 _ _ t817 t831 t834 _ ?side1 ?side2 ?side3 ?side4 A47.out).mono ?_); (case side1 => exact cP (Kd.R_reads' HO_821001.out).2.2); (case side2 => exact (Kd.R_reads' HO_821001.out).2.1); (case side3 => exact cP (Kd.R_reads' HO_10.out).2.2); (case side4 => exact (Kd.R_reads' HO_10.out).2.1); rintro e w63 ⟨v832, rfl, ho0, hb⟩; refine ⟨_, rfl, ?_⟩; have n0_ := Aside0.mk (Kd.R_elder' (by exact rP HO_4.out) (Kd.R_base ho0) hb); have n1_ := Aside0.mk (Kd.R_elder' (by exact rP HO_5.out) (Kd.R_base ho0) hb); have n2_ := Aside0.mk (Kd.R_elder' (by exact rP HO_10.out) (Kd.R_base ho0) hb); have n3_ := Aside0.mk (Kd.R_elder' (by exact rP HO_11.out) (Kd.R_base ho0) hb); have n4_ := Aside0.mk (Kd.R_below (by exact rP HO_802001.out) hb); have n5_ := Aside0.mk (Kd.R_below (by exact rP HO_821001.out) hb); have n6_ := Aside0.mk (Kd.R_lower (Kd.R_new' (Kd.R_new' (Kd.R_new' (Kd.R_new' ho0 (Kd.R_lt (by exact rP HO_4.out))) (Kd.R_lt (by exact rP HO_5.out))) (Kd.R_lt (by exact rP HO_10.out))) (Kd.R_lt (by exact rP HO_11.out))) (below_size (by exact bB))); have n7_ := Aside0.mk (blk_below (g := gb801) (o := .cells #[.int .i64 t794, .slice Ao15 t795.length co15] 31 (0, 0)) (by exact kP BK801.out) hb); have n8_ := Aside0.mk (blk_below (g := gb820) (o := .cells #[.int .i64 t813, .slice Ao26 t814.length co26] 31 (0, 0)) (by exact kP BK820.out) hb); have n9_ := Aside0.mk (below_step (by exact bB) hb); clear HO_4; clear HO_5; clear HO_10; clear HO_11; clear HO_802001; clear HO_821001; clear BK801; clear BK820; clear HB; have HO_4 := n0_; have HO_5 := n1_; have HO_10 := n2_; have HO_11 := n3_; have HO_802001 := n4_; have HO_821001 := n5_; have HO833 := n6_; have BK801 := n7_; have BK820 := n8_; have HB := n9_; clear n0_ n1_ n2_ n3_ n4_ n5_ n6_ n7_ n8_ n9_; (try clear hb); (try clear hb2); (try clear hk); (try clear hi); (try clear ho0); have hcz64_0 : w63.cell? ⟨gb820, 0, none⟩ = some (.int .i64 t813) := (blk_cell BK820.out 0).trans rfl; have hcz64_1 : w63.cell? ⟨gb820, 1, none⟩ = some (.slice Ao26 t814.length co26) := (blk_cell BK820.out 1).trans rfl; have hfz64_0 := blk_frozen BK820.out 0; have hfz64_1 := blk_frozen BK820.out 1; obtain ⟨Ao65, co65, eo65⟩ := Kd.R_slice HO_11.out; subst eo65) | ((with_reducible refine gate_callee (f := 41) rfl ?_); refine goesL_ (some 90) rfl rfl Try.func41 (by kernel_rfl) rfl #[.agg #[.int .i64 t813, .slice Ao26 t814.length co26], .slice Ao65 t821.length co65] rfl (by (try simp only [List.map_toArray, List.map_cons, List.map_nil]); first | done | rfl | (simp only [List.length_drop, List.length_take]; rfl)) ?_; (with_reducible refine (impl_SkewAll.calls kj10 t813 _ _ t814 _ _ t821 t835 t838 _ ?side1 ?side2 ?side3 ?side4 A48.out).mono ?_); (case side1 => exact cP (Kd.R_reads' HO_821001.out).2.2); (case side2 => exact (Kd.R_reads' HO_821001.out).2.1); (case side3 => exact cP (Kd.R_reads' HO_11.out).2.2); (case side4 => exact (Kd.R_reads' HO_11.out).2.1); rintro e w66 ⟨v836, rfl, ho0, hb⟩; refine ⟨_, rfl, ?_⟩; have n0_ := Aside0.mk (Kd.R_elder' (by exact rP HO_4.out) (Kd.R_base ho0) hb); have n1_ := Aside0.mk (Kd.R_elder' (by exact rP HO_5.out) (Kd.R_base ho0) hb); have n2_ := Aside0.mk (Kd.R_elder' (by exact rP HO_10.out) (Kd.R_base ho0) hb); have n3_ := Aside0.mk (Kd.R_elder' (by exact rP HO_11.out) (Kd.R_base ho0) hb); have n4_ := Aside0.mk (Kd.R_below (by exact rP HO_802001.out) hb); have n5_ := Aside0.mk (Kd.R_below (by exact rP HO_821001.out) hb); have n6_ := Aside0.mk (Kd.R_elder' (by exact rP HO833.out) (Kd.R_base ho0) hb); have n7_ := Aside0.mk (Kd.R_lower (Kd.R_new' (Kd.R_new' (Kd.R_new' (Kd.R_new' (Kd.R_new' ho0 (Kd.R_lt (by exact rP HO_4.out))) (Kd.R_lt (by exact rP HO_5.out))) (Kd.R_lt (by exact rP HO_10.out))) (Kd.R_lt (by exact rP HO_11.out))) (Kd.R_lt (by exact rP HO833.out))) (below_size (by exact bB))); have n8_ := Aside0.mk (blk_below (g := gb801) (o := .cells #[.int .i64 t794, .slice Ao15 t795.length co15] 31 (0, 0)) (by exact kP BK801.out) hb); have n9_ := Aside0.mk (blk_below (g := gb820) (o := .cells #[.int .i64 t813, .slice Ao26 t814.length co26] 31 (0, 0)) (by exact kP BK820.out) hb); have n10_ := Aside0.mk (below_step (by exact bB) hb); clear HO_4; clear HO_5; clear HO_10; clear HO_11; clear HO_802001; clear HO_821001; clear HO833; clear BK801; clear BK820; clear HB; have HO_4 := n0_; have HO_5 := n1_; have HO_10 := n2_; have HO_11 := n3_; have HO_802001 := n4_; have HO_821001 := n5_; have HO833 := n6_; have HO837 := n7_; have BK801 := n8_; have BK820 := n9_; have HB := n10_; clear n0_ n1_ n2_ n3_ n4_ n5_ n6_ n7_ n8_ n9_ n10_; (try clear hb); (try clear hb2); (try clear hk); (try clear hi); (try clear ho0); obtain ⟨Ao67, co67, eo67⟩ := Kd.R_slice HO833.out; subst eo67) | ((with_reducible refine gate_callee (f := 45) rfl ?_); refine goesL_ (some 95) rfl rfl Try.func45 (by kernel_rfl) rfl #[.slice Ao67 t831.length co67, .slice Ao65 t821.length co65] rfl (by (try simp only [List.map_toArray, List.map_cons, List.map_nil]); first | done | rfl | (simp only [List.length_drop, List.length_take]; rfl)) ?_; (with_reducible refine (laws_vPart.calls kj10 _ _ t831 _ _ t821 true _ ?side1 ?side2 ?side3 ?side4 A49.out).mono ?_); (case side1 => exact cP (Kd.R_reads' HO833.out).2.2); (case side2 => exact (Kd.R_reads' HO833.out).2.1); (case side3 => exact cP (Kd.R_reads' HO_11.out).2.2); (case side4 => exact (Kd.R_reads' HO_11.out).2.1); rintro e w' ⟨rfl, ⟨nd, rfl⟩⟩; refine ⟨_, rfl, ?_⟩; obtain ⟨Ao68, co68, eo68⟩ := Kd.R_slice HO837.out; subst eo68) | (go_at_call 43; (with_reducible refine (laws_vInts.calls kj10 _ _ t835 _ _ t821 false _ ?side1 ?side2 ?side3 ?side4 A51.out).mono ?_); (case side1 => exact cP (Kd.R_reads' HO837.out).2.2); (case side2 => exact (Kd.R_reads' HO837.out).2.1); (case side3 => exact cP (Kd.R_reads' HO_11.out).2.2); (case side4 => exact (Kd.R_reads' HO_11.out).2.1); rintro e w' ⟨rfl, ⟨nd, rfl⟩⟩))
         go_ret
         exact ⟨by first | rfl | (simp [errW_none, errW_some] <;> rfl) | (simp [*, errW_none, errW_some] <;> rfl), by exact bB⟩
       ·replace c50 := Bool.eq_false_iff.mpr c50
        subst c50
        have H1 : (some false) = some r := by rw [if_neg (show ¬ (false = true) by decide)] at H; exact H
        clear H
        have H := H1
        clear H1
        obtain rfl := Option.some.inj H
        have hnb69 := NB820_801.out
        have hnc69 := NB801_820.out
        have hcz70_0 : wc.cell? ⟨gb820, 0, none⟩ = some (.int .i64 t813) := (blk_cell BK820.out 0).trans rfl
        have hcz70_1 : wc.cell? ⟨gb820, 1, none⟩ = some (.slice Ao26 t814.length co26) := (blk_cell BK820.out 1).trans rfl
        have hfz70_0 := blk_frozen BK820.out 0
        have hfz70_1 := blk_frozen BK820.out 1
        go_wp2_with (first | ((with_reducible refine gate_callee (f := 44) rfl ?_); refine goesL_ (some 84) rfl rfl Try.func44 (by kernel_rfl) rfl #[.agg #[.int .i64 t813, .slice Ao26 t814.length co26], .slice Ao27 t817.length co27] rfl (by (try simp only [List.map_toArray, List.map_cons, List.map_nil]); first | done | rfl | (simp only [List.length_drop, List.length_take]; rfl)) ?_; (with_reducible refine (impl_ForceAll.calls kj10 t813 _ _ t814 _ _ t817 t831 t834 _ ?side1 ?side2 ?side3 ?side4 A47.out).mono ?_); (case side1 => exact cP (Kd.R_reads' HO_821001.out).2.2); (case side2 => exact (Kd.R_reads' HO_821001.out).2.1); (case side3 => exact cP (Kd.R_reads' HO_10.out).2.2); (case side4 => exact (Kd.R_reads' HO_10.out).2.1); rintro e w71 ⟨v832, rfl, ho0, hb⟩; refine ⟨_, rfl, ?_⟩; have n0_ := Aside0.mk (Kd.R_elder' (by exact rP HO_4.out) (Kd.R_base ho0) hb); have n1_ := Aside0.mk (Kd.R_elder' (by exact rP HO_5.out) (Kd.R_base ho0) hb); have n2_ := Aside0.mk (Kd.R_elder' (by exact rP HO_10.out) (Kd.R_base ho0) hb); have n3_ := Aside0.mk (Kd.R_elder' (by exact rP HO_11.out) (Kd.R_base ho0) hb); have n4_ := Aside0.mk (Kd.R_below (by exact rP HO_802001.out) hb); have n5_ := Aside0.mk (Kd.R_below (by exact rP HO_821001.out) hb); have n6_ := Aside0.mk (Kd.R_lower (Kd.R_new' (Kd.R_new' (Kd.R_new' (Kd.R_new' ho0 (Kd.R_lt (by exact rP HO_4.out))) (Kd.R_lt (by exact rP HO_5.out))) (Kd.R_lt (by exact rP HO_10.out))) (Kd.R_lt (by exact rP HO_11.out))) (below_size (by exact bB))); have n7_ := Aside0.mk (blk_below (g := gb801) (o := .cells #[.int .i64 t794, .slice Ao15 t795.length co15] 31 (0, 0)) (by exact kP BK801.out) hb); have n8_ := Aside0.mk (blk_below (g := gb820) (o := .cells #[.int .i64 t813, .slice Ao26 t814.length co26] 31 (0, 0)) (by exact kP BK820.out) hb); have n9_ := Aside0.mk (below_step (by exact bB) hb); clear HO_4; clear HO_5; clear HO_10; clear HO_11; clear HO_802001; clear HO_821001; clear BK801; clear BK820; clear HB; have HO_4 := n0_; have HO_5 := n1_; have HO_10 := n2_; have HO_11 := n3_; have HO_802001 := n4_; have HO_821001 := n5_; have HO833 := n6_; have BK801 := n7_; have BK820 := n8_; have HB := n9_; clear n0_ n1_ n2_ n3_ n4_ n5_ n6_ n7_ n8_ n9_; (try clear hb); (try clear hb2); (try clear hk); (try clear hi); (try clear ho0); have hcz72_0 : w71.cell? ⟨gb820, 0, none⟩ = some (.int .i64 t813) := (blk_cell BK820.out 0).trans rfl; have hcz72_1 : w71.cell? ⟨gb820, 1, none⟩ = some (.slice Ao26 t814.length co26) := (blk_cell BK820.out 1).trans rfl; have hfz72_0 := blk_frozen BK820.out 0; have hfz72_1 := blk_frozen BK820.out 1; obtain ⟨Ao73, co73, eo73⟩ := Kd.R_slice HO_11.out; subst eo73) | ((with_reducible refine gate_callee (f := 41) rfl ?_); refine goesL_ (some 90) rfl rfl Try.func41 (by kernel_rfl) rfl #[.agg #[.int .i64 t813, .slice Ao26 t814.length co26], .slice Ao73 t821.length co73] rfl (by (try simp only [List.map_toArray, List.map_cons, List.map_nil]); first | done | rfl | (simp only [List.length_drop, List.length_take]; rfl)) ?_; (with_reducible refine (impl_SkewAll.calls kj10 t813 _ _ t814 _ _ t821 t835 t838 _ ?side1 ?side2 ?side3 ?side4 A48.out).mono ?_); (case side1 => exact cP (Kd.R_reads' HO_821001.out).2.2); (case side2 => exact (Kd.R_reads' HO_821001.out).2.1); (case side3 => exact cP (Kd.R_reads' HO_11.out).2.2); (case side4 => exact (Kd.R_reads' HO_11.out).2.1); rintro e w74 ⟨v836, rfl, ho0, hb⟩; refine ⟨_, rfl, ?_⟩; have n0_ := Aside0.mk (Kd.R_elder' (by exact rP HO_4.out) (Kd.R_base ho0) hb); have n1_ := Aside0.mk (Kd.R_elder' (by exact rP HO_5.out) (Kd.R_base ho0) hb); have n2_ := Aside0.mk (Kd.R_elder' (by exact rP HO_10.out) (Kd.R_base ho0) hb); have n3_ := Aside0.mk (Kd.R_elder' (by exact rP HO_11.out) (Kd.R_base ho0) hb); have n4_ := Aside0.mk (Kd.R_below (by exact rP HO_802001.out) hb); have n5_ := Aside0.mk (Kd.R_below (by exact rP HO_821001.out) hb); have n6_ := Aside0.mk (Kd.R_elder' (by exact rP HO833.out) (Kd.R_base ho0) hb); have n7_ := Aside0.mk (Kd.R_lower (Kd.R_new' (Kd.R_new' (Kd.R_new' (Kd.R_new' (Kd.R_new' ho0 (Kd.R_lt (by exact rP HO_4.out))) (Kd.R_lt (by exact rP HO_5.out))) (Kd.R_lt (by exact rP HO_10.out))) (Kd.R_lt (by exact rP HO_11.out))) (Kd.R_lt (by exact rP HO833.out))) (below_size (by exact bB))); have n8_ := Aside0.mk (blk_below (g := gb801) (o := .cells #[.int .i64 t794, .slice Ao15 t795.length co15] 31 (0, 0)) (by exact kP BK801.out) hb); have n9_ := Aside0.mk (blk_below (g := gb820) (o := .cells #[.int .i64 t813, .slice Ao26 t814.length co26] 31 (0, 0)) (by exact kP BK820.out) hb); have n10_ := Aside0.mk (below_step (by exact bB) hb); clear HO_4; clear HO_5; clear HO_10; clear HO_11; clear HO_802001; clear HO_821001; clear HO833; clear BK801; clear BK820; clear HB; have HO_4 := n0_; have HO_5 := n1_; have HO_10 := n2_; have HO_11 := n3_; have HO_802001 := n4_; have HO_821001 := n5_; have HO833 := n6_; have HO837 := n7_; have BK801 := n8_; have BK820 := n9_; have HB := n10_; clear n0_ n1_ n2_ n3_ n4_ n5_ n6_ n7_ n8_ n9_ n10_; (try clear hb); (try clear hb2); (try clear hk); (try clear hi); (try clear ho0); obtain ⟨Ao75, co75, eo75⟩ := Kd.R_slice HO833.out; subst eo75) | ((with_reducible refine gate_callee (f := 45) rfl ?_); refine goesL_ (some 95) rfl rfl Try.func45 (by kernel_rfl) rfl #[.slice Ao75 t831.length co75, .slice Ao73 t821.length co73] rfl (by (try simp only [List.map_toArray, List.map_cons, List.map_nil]); first | done | rfl | (simp only [List.length_drop, List.length_take]; rfl)) ?_; (with_reducible refine (laws_vPart.calls kj10 _ _ t831 _ _ t821 false _ ?side1 ?side2 ?side3 ?side4 A49.out).mono ?_); (case side1 => exact cP (Kd.R_reads' HO833.out).2.2); (case side2 => exact (Kd.R_reads' HO833.out).2.1); (case side3 => exact cP (Kd.R_reads' HO_11.out).2.2); (case side4 => exact (Kd.R_reads' HO_11.out).2.1); rintro e w' ⟨rfl, ⟨nd, rfl⟩⟩; refine ⟨_, rfl, ?_⟩))
        go_ret
        exact ⟨by first | rfl | (simp [errW_none, errW_some] <;> rfl) | (simp [*, errW_none, errW_some] <;> rfl), by exact bB⟩
      ·replace c46 := Bool.eq_false_iff.mpr c46
       subst c46
       have H1 : (laws_FnClosures.j1 kj10 t798 t802 t805 t794 t795) = some r := by rw [if_neg (show ¬ (false = true) by decide)] at H; exact H
       clear H
       have H := H1
       clear H1
       have H' := Aside0.mk H
       clear H
       go_wp2
       go_meet
       case rel => exact ⟨_, H', ⟨by have := HJ10.out; first | omega | exact Nat.le_refl _⟩, ⟨by refine rP ?_; exact Kd.R_mono HO_4.out (fun _ hk => hk.1)⟩, ⟨by refine rP ?_; exact Kd.R_mono HO_5.out (fun _ hk => hk.1)⟩, ⟨by exact rP HO_802001.out⟩, ⟨by exact rP HO_821001.out⟩, ⟨by exact kP BK801.out⟩, ⟨by exact kP BK820.out⟩, ⟨by exact bB⟩⟩
     case rest =>
      clear HC45
      try clear c2
      try clear p2
      try clear c3
      try clear c4
      try clear c5
      try clear c6
      try clear c7
      try clear c24
      try clear c31
      try clear c31b0
      try clear c31b1
      try clear c31b2
      try clear c33
      try clear c34
      try clear c34b0
      try clear c34b1
      try clear c34b2
      try clear c35
      try clear c36
      try clear c37
      try clear c38
      try clear c39
      try clear c40
      try clear c41
      try clear c42
      try clear c44
      try clear c45
      try clear c46
      try clear c50
      try clear c52
      try clear c53
      try clear c61
      try clear c69
      try clear hcz14_0
      try clear hcz14_1
      try clear hcz18_0
      try clear hcz18_1
      try clear hcz25_0
      try clear hcz25_1
      try clear hcz29_0
      try clear hcz29_1
      try clear hcz54_0
      try clear hcz54_1
      try clear hcz56_0
      try clear hcz56_1
      try clear hcz62_0
      try clear hcz62_1
      try clear hcz64_0
      try clear hcz64_1
      try clear hcz70_0
      try clear hcz70_1
      try clear hcz72_0
      try clear hcz72_1
      try clear hfz14_0
      try clear hfz14_1
      try clear hfz18_0
      try clear hfz18_1
      try clear hfz25_0
      try clear hfz25_1
      try clear hfz29_0
      try clear hfz29_1
      try clear hfz54_0
      try clear hfz54_1
      try clear hfz56_0
      try clear hfz56_1
      try clear hfz62_0
      try clear hfz62_1
      try clear hfz64_0
      try clear hfz64_1
      try clear hfz70_0
      try clear hfz70_1
      try clear hfz72_0
      try clear hfz72_1
      try clear p2
      obtain ⟨kq, HA, HJ44, HO_4, HO_5, HO_802001, HO_821001, BK801, BK820, HB⟩ := hcut
      cases kq with
      | zero => exact absurd HA.out (by simp [laws_FnClosures.j1])
      | succ kj44 =>
       have H := HA.out
       clear HA
       simp only [laws_FnClosures.j1] at H
       by_cases c76 : t805 = true
       ·subst c76
        have H1 : ((impl_ForceAll.f kj44 t794 t795 t798).bind fun bt841 => ((impl_IsDominating.f kj44 t794 t795 t798).bind fun bt845 => ((laws_vPart.f kj44 bt841.1 t802).bind fun t847 => (if t847 = true then (if bt845.2 = true then (if bt845.1 = true then (some ((t802.length : Int) == t794)) else (some true)) else (some true)) else (some false))))) = some r := by rw [if_pos rfl] at H; exact H
        clear H
        have H := H1
        clear H1
        replace H := Option.bind_eq_some_iff.mp H
        obtain ⟨⟨t841, t844⟩, A770, H⟩ := H
        replace H : ((impl_IsDominating.f kj44 t794 t795 t798).bind fun bt845 => ((laws_vPart.f kj44 t841 t802).bind fun t847 => (if t847 = true then (if bt845.2 = true then (if bt845.1 = true then (some ((t802.length : Int) == t794)) else (some true)) else (some true)) else (some false)))) = some r := H
        have A77 := Aside0.mk A770
        clear A770
        replace H := Option.bind_eq_some_iff.mp H
        obtain ⟨⟨t845, t846⟩, A780, H⟩ := H
        replace H : ((laws_vPart.f kj44 t841 t802).bind fun t847 => (if t847 = true then (if t846 = true then (if t845 = true then (some ((t802.length : Int) == t794)) else (some true)) else (some true)) else (some false))) = some r := H
        have A78 := Aside0.mk A780
        clear A780
        replace H := Option.bind_eq_some_iff.mp H
        obtain ⟨t847, A790, H⟩ := H
        replace H : (if t847 = true then (if t846 = true then (if t845 = true then (some ((t802.length : Int) == t794)) else (some true)) else (some true)) else (some false)) = some r := H
        have A79 := Aside0.mk A790
        clear A790
        by_cases c80 : t847 = true
        ·subst c80
         have H1 : (if t846 = true then (if t845 = true then (some ((t802.length : Int) == t794)) else (some true)) else (some true)) = some r := by rw [if_pos rfl] at H; exact H
         clear H
         have H := H1
         clear H1
         by_cases c81 : t846 = true
         ·subst c81
          have H1 : (if t845 = true then (some ((t802.length : Int) == t794)) else (some true)) = some r := by rw [if_pos rfl] at H; exact H
          clear H
          have H := H1
          clear H1
          by_cases c82 : t845 = true
          ·subst c82
           have H1 : (some ((t802.length : Int) == t794)) = some r := by rw [if_pos rfl] at H; exact H
           clear H
           have H := H1
           clear H1
           obtain rfl := Option.some.inj H
           have hnb83 := NB801_820.out
           have hnc83 := NB820_801.out
           have hcz84_0 : wc.cell? ⟨gb801, 0, none⟩ = some (.int .i64 t794) := (blk_cell BK801.out 0).trans rfl
           have hcz84_1 : wc.cell? ⟨gb801, 1, none⟩ = some (.slice Ao15 t795.length co15) := (blk_cell BK801.out 1).trans rfl
           have hfz84_0 := blk_frozen BK801.out 0
           have hfz84_1 := blk_frozen BK801.out 1
           go_wp2_with (first | ((with_reducible refine gate_callee (f := 44) rfl ?_); refine goesL_ (some 108) rfl rfl Try.func44 (by kernel_rfl) rfl #[.agg #[.int .i64 t794, .slice Ao15 t795.length co15], .slice Ao16 t798.length co16] rfl (by (try simp only [List.map_toArray, List.map_cons, List.map_nil]); first | done | rfl | (simp only [List.length_drop, List.length_take]; rfl)) ?_; (with_reducible refine (impl_ForceAll.calls kj44 t794 _ _ t795 _ _ t798 t841 t844 _ ?side1 ?side2 ?side3 ?side4 A77.out).mono ?_); (case side1 => exact cP (Kd.R_reads' HO_802001.out).2.2); (case side2 => exact (Kd.R_reads' HO_802001.out).2.1); (case side3 => exact cP (Kd.R_reads' HO_4.out).2.2); (case side4 => exact (Kd.R_reads' HO_4.out).2.1); rintro e w85 ⟨v842, rfl, ho0, hb⟩; refine ⟨_, rfl, ?_⟩; have n0_ := Aside0.mk (Kd.R_elder' (by exact rP HO_4.out) (Kd.R_base ho0) hb); have n1_ := Aside0.mk (Kd.R_elder' (by exact rP HO_5.out) (Kd.R_base ho0) hb); have n2_ := Aside0.mk (Kd.R_below (by exact rP HO_802001.out) hb); have n3_ := Aside0.mk (Kd.R_below (by exact rP HO_821001.out) hb); have n4_ := Aside0.mk (Kd.R_lower (Kd.R_new' (Kd.R_new' ho0 (Kd.R_lt (by exact rP HO_4.out))) (Kd.R_lt (by exact rP HO_5.out))) (below_size (by exact bB))); have n5_ := Aside0.mk (blk_below (g := gb801) (o := .cells #[.int .i64 t794, .slice Ao15 t795.length co15] 31 (0, 0)) (by exact kP BK801.out) hb); have n6_ := Aside0.mk (blk_below (g := gb820) (o := .cells #[.int .i64 t813, .slice Ao26 t814.length co26] 31 (0, 0)) (by exact kP BK820.out) hb); have n7_ := Aside0.mk (below_step (by exact bB) hb); clear HO_4; clear HO_5; clear HO_802001; clear HO_821001; clear BK801; clear BK820; clear HB; have HO_4 := n0_; have HO_5 := n1_; have HO_802001 := n2_; have HO_821001 := n3_; have HO843 := n4_; have BK801 := n5_; have BK820 := n6_; have HB := n7_; clear n0_ n1_ n2_ n3_ n4_ n5_ n6_ n7_; (try clear hb); (try clear hb2); (try clear hk); (try clear hi); (try clear ho0); have hcz86_0 : w85.cell? ⟨gb801, 0, none⟩ = some (.int .i64 t794) := (blk_cell BK801.out 0).trans rfl; have hcz86_1 : w85.cell? ⟨gb801, 1, none⟩ = some (.slice Ao15 t795.length co15) := (blk_cell BK801.out 1).trans rfl; have hfz86_0 := blk_frozen BK801.out 0; have hfz86_1 := blk_frozen BK801.out 1) | ((with_reducible refine gate_callee (f := 46) rfl ?_); refine goesL_ (some 114) rfl rfl Try.func46 (by kernel_rfl) rfl #[.agg #[.int .i64 t794, .slice Ao15 t795.length co15], .slice Ao16 t798.length co16] rfl (by (try simp only [List.map_toArray, List.map_cons, List.map_nil]); first | done | rfl | (simp only [List.length_drop, List.length_take]; rfl)) ?_; (with_reducible refine (impl_IsDominating.calls kj44 t794 _ _ t795 _ _ t798 true true _ ?side1 ?side2 ?side3 ?side4 A78.out).mono ?_); (case side1 => exact cP (Kd.R_reads' HO_802001.out).2.2); (case side2 => exact (Kd.R_reads' HO_802001.out).2.1); (case side3 => exact cP (Kd.R_reads' HO_4.out).2.2); (case side4 => exact (Kd.R_reads' HO_4.out).2.1); rintro e w87 ⟨rfl, hb⟩; refine ⟨_, rfl, ?_⟩; have n0_ := Aside0.mk (Kd.R_below (by exact rP HO_4.out) hb); have n1_ := Aside0.mk (Kd.R_below (by exact rP HO_5.out) hb); have n2_ := Aside0.mk (Kd.R_below (by exact rP HO_802001.out) hb); have n3_ := Aside0.mk (Kd.R_below (by exact rP HO_821001.out) hb); have n4_ := Aside0.mk (Kd.R_below (by exact rP HO843.out) hb); have n5_ := Aside0.mk (blk_below (g := gb801) (o := .cells #[.int .i64 t794, .slice Ao15 t795.length co15] 31 (0, 0)) (by exact kP BK801.out) hb); have n6_ := Aside0.mk (blk_below (g := gb820) (o := .cells #[.int .i64 t813, .slice Ao26 t814.length co26] 31 (0, 0)) (by exact kP BK820.out) hb); have n7_ := Aside0.mk (below_step (by exact bB) hb); clear HO_4; clear HO_5; clear HO_802001; clear HO_821001; clear HO843; clear BK801; clear BK820; clear HB; have HO_4 := n0_; have HO_5 := n1_; have HO_802001 := n2_; have HO_821001 := n3_; have HO843 := n4_; have BK801 := n5_; have BK820 := n6_; have HB := n7_; clear n0_ n1_ n2_ n3_ n4_ n5_ n6_ n7_; (try clear hb); (try clear hb2); (try clear hk); (try clear hi); obtain ⟨Ao88, co88, eo88⟩ := Kd.R_slice HO843.out; subst eo88; obtain ⟨Ao89, co89, eo89⟩ := Kd.R_slice HO_5.out; subst eo89) | ((with_reducible refine gate_callee (f := 45) rfl ?_); refine goesL_ (some 119) rfl rfl Try.func45 (by kernel_rfl) rfl #[.slice Ao88 t841.length co88, .slice Ao89 t802.length co89] rfl (by (try simp only [List.map_toArray, List.map_cons, List.map_nil]); first | done | rfl | (simp only [List.length_drop, List.length_take]; rfl)) ?_; (with_reducible refine (laws_vPart.calls kj44 _ _ t841 _ _ t802 true _ ?side1 ?side2 ?side3 ?side4 A79.out).mono ?_); (case side1 => exact cP (Kd.R_reads' HO843.out).2.2); (case side2 => exact (Kd.R_reads' HO843.out).2.1); (case side3 => exact cP (Kd.R_reads' HO_5.out).2.2); (case side4 => exact (Kd.R_reads' HO_5.out).2.1); rintro e w' ⟨rfl, ⟨nd, rfl⟩⟩; refine ⟨_, rfl, ?_⟩; have hcz90_0 : w87.cell? ⟨gb801, 0, none⟩ = some (.int .i64 t794) := (blk_cell BK801.out 0).trans rfl; have hcz90_1 : w87.cell? ⟨gb801, 1, none⟩ = some (.slice Ao15 t795.length co15) := (blk_cell BK801.out 1).trans rfl; have hfz90_0 := blk_frozen BK801.out 0; have hfz90_1 := blk_frozen BK801.out 1))
           go_ret
           exact ⟨by first | rfl | (simp [errW_none, errW_some] <;> rfl) | (simp [*, errW_none, errW_some] <;> rfl), by exact bB⟩
          ·replace c82 := Bool.eq_false_iff.mpr c82
           subst c82
           have H1 : (some true) = some r := by rw [if_neg (show ¬ (false = true) by decide)] at H; exact H
           clear H
           have H := H1
           clear H1
           obtain rfl := Option.some.inj H
           have hnb91 := NB801_820.out
           have hnc91 := NB820_801.out
           have hcz92_0 : wc.cell? ⟨gb801, 0, none⟩ = some (.int .i64 t794) := (blk_cell BK801.out 0).trans rfl
           have hcz92_1 : wc.cell? ⟨gb801, 1, none⟩ = some (.slice Ao15 t795.length co15) := (blk_cell BK801.out 1).trans rfl
           have hfz92_0 := blk_frozen BK801.out 0
           have hfz92_1 := blk_frozen BK801.out 1
           go_wp2_with (first | ((with_reducible refine gate_callee (f := 44) rfl ?_); refine goesL_ (some 108) rfl rfl Try.func44 (by kernel_rfl) rfl #[.agg #[.int .i64 t794, .slice Ao15 t795.length co15], .slice Ao16 t798.length co16] rfl (by (try simp only [List.map_toArray, List.map_cons, List.map_nil]); first | done | rfl | (simp only [List.length_drop, List.length_take]; rfl)) ?_; (with_reducible refine (impl_ForceAll.calls kj44 t794 _ _ t795 _ _ t798 t841 t844 _ ?side1 ?side2 ?side3 ?side4 A77.out).mono ?_); (case side1 => exact cP (Kd.R_reads' HO_802001.out).2.2); (case side2 => exact (Kd.R_reads' HO_802001.out).2.1); (case side3 => exact cP (Kd.R_reads' HO_4.out).2.2); (case side4 => exact (Kd.R_reads' HO_4.out).2.1); rintro e w93 ⟨v842, rfl, ho0, hb⟩; refine ⟨_, rfl, ?_⟩; have n0_ := Aside0.mk (Kd.R_elder' (by exact rP HO_4.out) (Kd.R_base ho0) hb); have n1_ := Aside0.mk (Kd.R_elder' (by exact rP HO_5.out) (Kd.R_base ho0) hb); have n2_ := Aside0.mk (Kd.R_below (by exact rP HO_802001.out) hb); have n3_ := Aside0.mk (Kd.R_below (by exact rP HO_821001.out) hb); have n4_ := Aside0.mk (Kd.R_lower (Kd.R_new' (Kd.R_new' ho0 (Kd.R_lt (by exact rP HO_4.out))) (Kd.R_lt (by exact rP HO_5.out))) (below_size (by exact bB))); have n5_ := Aside0.mk (blk_below (g := gb801) (o := .cells #[.int .i64 t794, .slice Ao15 t795.length co15] 31 (0, 0)) (by exact kP BK801.out) hb); have n6_ := Aside0.mk (blk_below (g := gb820) (o := .cells #[.int .i64 t813, .slice Ao26 t814.length co26] 31 (0, 0)) (by exact kP BK820.out) hb); have n7_ := Aside0.mk (below_step (by exact bB) hb); clear HO_4; clear HO_5; clear HO_802001; clear HO_821001; clear BK801; clear BK820; clear HB; have HO_4 := n0_; have HO_5 := n1_; have HO_802001 := n2_; have HO_821001 := n3_; have HO843 := n4_; have BK801 := n5_; have BK820 := n6_; have HB := n7_; clear n0_ n1_ n2_ n3_ n4_ n5_ n6_ n7_; (try clear hb); (try clear hb2); (try clear hk); (try clear hi); (try clear ho0); have hcz94_0 : w93.cell? ⟨gb801, 0, none⟩ = some (.int .i64 t794) := (blk_cell BK801.out 0).trans rfl; have hcz94_1 : w93.cell? ⟨gb801, 1, none⟩ = some (.slice Ao15 t795.length co15) := (blk_cell BK801.out 1).trans rfl; have hfz94_0 := blk_frozen BK801.out 0; have hfz94_1 := blk_frozen BK801.out 1) | ((with_reducible refine gate_callee (f := 46) rfl ?_); refine goesL_ (some 114) rfl rfl Try.func46 (by kernel_rfl) rfl #[.agg #[.int .i64 t794, .slice Ao15 t795.length co15], .slice Ao16 t798.length co16] rfl (by (try simp only [List.map_toArray, List.map_cons, List.map_nil]); first | done | rfl | (simp only [List.length_drop, List.length_take]; rfl)) ?_; (with_reducible refine (impl_IsDominating.calls kj44 t794 _ _ t795 _ _ t798 false true _ ?side1 ?side2 ?side3 ?side4 A78.out).mono ?_); (case side1 => exact cP (Kd.R_reads' HO_802001.out).2.2); (case side2 => exact (Kd.R_reads' HO_802001.out).2.1); (case side3 => exact cP (Kd.R_reads' HO_4.out).2.2); (case side4 => exact (Kd.R_reads' HO_4.out).2.1); rintro e w95 ⟨rfl, hb⟩; refine ⟨_, rfl, ?_⟩; have n0_ := Aside0.mk (Kd.R_below (by exact rP HO_4.out) hb); have n1_ := Aside0.mk (Kd.R_below (by exact rP HO_5.out) hb); have n2_ := Aside0.mk (Kd.R_below (by exact rP HO_802001.out) hb); have n3_ := Aside0.mk (Kd.R_below (by exact rP HO_821001.out) hb); have n4_ := Aside0.mk (Kd.R_below (by exact rP HO843.out) hb); have n5_ := Aside0.mk (blk_below (g := gb801) (o := .cells #[.int .i64 t794, .slice Ao15 t795.length co15] 31 (0, 0)) (by exact kP BK801.out) hb); have n6_ := Aside0.mk (blk_below (g := gb820) (o := .cells #[.int .i64 t813, .slice Ao26 t814.length co26] 31 (0, 0)) (by exact kP BK820.out) hb); have n7_ := Aside0.mk (below_step (by exact bB) hb); clear HO_4; clear HO_5; clear HO_802001; clear HO_821001; clear HO843; clear BK801; clear BK820; clear HB; have HO_4 := n0_; have HO_5 := n1_; have HO_802001 := n2_; have HO_821001 := n3_; have HO843 := n4_; have BK801 := n5_; have BK820 := n6_; have HB := n7_; clear n0_ n1_ n2_ n3_ n4_ n5_ n6_ n7_; (try clear hb); (try clear hb2); (try clear hk); (try clear hi); obtain ⟨Ao96, co96, eo96⟩ := Kd.R_slice HO843.out; subst eo96; obtain ⟨Ao97, co97, eo97⟩ := Kd.R_slice HO_5.out; subst eo97) | ((with_reducible refine gate_callee (f := 45) rfl ?_); refine goesL_ (some 119) rfl rfl Try.func45 (by kernel_rfl) rfl #[.slice Ao96 t841.length co96, .slice Ao97 t802.length co97] rfl (by (try simp only [List.map_toArray, List.map_cons, List.map_nil]); first | done | rfl | (simp only [List.length_drop, List.length_take]; rfl)) ?_; (with_reducible refine (laws_vPart.calls kj44 _ _ t841 _ _ t802 true _ ?side1 ?side2 ?side3 ?side4 A79.out).mono ?_); (case side1 => exact cP (Kd.R_reads' HO843.out).2.2); (case side2 => exact (Kd.R_reads' HO843.out).2.1); (case side3 => exact cP (Kd.R_reads' HO_5.out).2.2); (case side4 => exact (Kd.R_reads' HO_5.out).2.1); rintro e w' ⟨rfl, ⟨nd, rfl⟩⟩; refine ⟨_, rfl, ?_⟩))
           go_ret
           exact ⟨by first | rfl | (simp [errW_none, errW_some] <;> rfl) | (simp [*, errW_none, errW_some] <;> rfl), by exact bB⟩
         ·replace c81 := Bool.eq_false_iff.mpr c81
          subst c81
          have H1 : (some true) = some r := by rw [if_neg (show ¬ (false = true) by decide)] at H; exact H
          clear H
          have H := H1
          clear H1
          obtain rfl := Option.some.inj H
          have hnb98 := NB801_820.out
          have hnc98 := NB820_801.out
          have hcz99_0 : wc.cell? ⟨gb801, 0, none⟩ = some (.int .i64 t794) := (blk_cell BK801.out 0).trans rfl
          have hcz99_1 : wc.cell? ⟨gb801, 1, none⟩ = some (.slice Ao15 t795.length co15) := (blk_cell BK801.out 1).trans rfl
          have hfz99_0 := blk_frozen BK801.out 0
          have hfz99_1 := blk_frozen BK801.out 1
          go_wp2_with (first | ((with_reducible refine gate_callee (f := 44) rfl ?_); refine goesL_ (some 108) rfl rfl Try.func44 (by kernel_rfl) rfl #[.agg #[.int .i64 t794, .slice Ao15 t795.length co15], .slice Ao16 t798.length co16] rfl (by (try simp only [List.map_toArray, List.map_cons, List.map_nil]); first | done | rfl | (simp only [List.length_drop, List.length_take]; rfl)) ?_; (with_reducible refine (impl_ForceAll.calls kj44 t794 _ _ t795 _ _ t798 t841 t844 _ ?side1 ?side2 ?side3 ?side4 A77.out).mono ?_); (case side1 => exact cP (Kd.R_reads' HO_802001.out).2.2); (case side2 => exact (Kd.R_reads' HO_802001.out).2.1); (case side3 => exact cP (Kd.R_reads' HO_4.out).2.2); (case side4 => exact (Kd.R_reads' HO_4.out).2.1); rintro e w100 ⟨v842, rfl, ho0, hb⟩; refine ⟨_, rfl, ?_⟩; have n0_ := Aside0.mk (Kd.R_elder' (by exact rP HO_4.out) (Kd.R_base ho0) hb); have n1_ := Aside0.mk (Kd.R_elder' (by exact rP HO_5.out) (Kd.R_base ho0) hb); have n2_ := Aside0.mk (Kd.R_below (by exact rP HO_802001.out) hb); have n3_ := Aside0.mk (Kd.R_below (by exact rP HO_821001.out) hb); have n4_ := Aside0.mk (Kd.R_lower (Kd.R_new' (Kd.R_new' ho0 (Kd.R_lt (by exact rP HO_4.out))) (Kd.R_lt (by exact rP HO_5.out))) (below_size (by exact bB))); have n5_ := Aside0.mk (blk_below (g := gb801) (o := .cells #[.int .i64 t794, .slice Ao15 t795.length co15] 31 (0, 0)) (by exact kP BK801.out) hb); have n6_ := Aside0.mk (blk_below (g := gb820) (o := .cells #[.int .i64 t813, .slice Ao26 t814.length co26] 31 (0, 0)) (by exact kP BK820.out) hb); have n7_ := Aside0.mk (below_step (by exact bB) hb); clear HO_4; clear HO_5; clear HO_802001; clear HO_821001; clear BK801; clear BK820; clear HB; have HO_4 := n0_; have HO_5 := n1_; have HO_802001 := n2_; have HO_821001 := n3_; have HO843 := n4_; have BK801 := n5_; have BK820 := n6_; have HB := n7_; clear n0_ n1_ n2_ n3_ n4_ n5_ n6_ n7_; (try clear hb); (try clear hb2); (try clear hk); (try clear hi); (try clear ho0); have hcz101_0 : w100.cell? ⟨gb801, 0, none⟩ = some (.int .i64 t794) := (blk_cell BK801.out 0).trans rfl; have hcz101_1 : w100.cell? ⟨gb801, 1, none⟩ = some (.slice Ao15 t795.length co15) := (blk_cell BK801.out 1).trans rfl; have hfz101_0 := blk_frozen BK801.out 0; have hfz101_1 := blk_frozen BK801.out 1) | ((with_reducible refine gate_callee (f := 46) rfl ?_); refine goesL_ (some 114) rfl rfl Try.func46 (by kernel_rfl) rfl #[.agg #[.int .i64 t794, .slice Ao15 t795.length co15], .slice Ao16 t798.length co16] rfl (by (try simp only [List.map_toArray, List.map_cons, List.map_nil]); first | done | rfl | (simp only [List.length_drop, List.length_take]; rfl)) ?_; (with_reducible refine (impl_IsDominating.calls kj44 t794 _ _ t795 _ _ t798 t845 false _ ?side1 ?side2 ?side3 ?side4 A78.out).mono ?_); (case side1 => exact cP (Kd.R_reads' HO_802001.out).2.2); (case side2 => exact (Kd.R_reads' HO_802001.out).2.1); (case side3 => exact cP (Kd.R_reads' HO_4.out).2.2); (case side4 => exact (Kd.R_reads' HO_4.out).2.1); rintro e w102 ⟨rfl, hb⟩; refine ⟨_, rfl, ?_⟩; have n0_ := Aside0.mk (Kd.R_below (by exact rP HO_4.out) hb); have n1_ := Aside0.mk (Kd.R_below (by exact rP HO_5.out) hb); have n2_ := Aside0.mk (Kd.R_below (by exact rP HO_802001.out) hb); have n3_ := Aside0.mk (Kd.R_below (by exact rP HO_821001.out) hb); have n4_ := Aside0.mk (Kd.R_below (by exact rP HO843.out) hb); have n5_ := Aside0.mk (blk_below (g := gb801) (o := .cells #[.int .i64 t794, .slice Ao15 t795.length co15] 31 (0, 0)) (by exact kP BK801.out) hb); have n6_ := Aside0.mk (blk_below (g := gb820) (o := .cells #[.int .i64 t813, .slice Ao26 t814.length co26] 31 (0, 0)) (by exact kP BK820.out) hb); have n7_ := Aside0.mk (below_step (by exact bB) hb); clear HO_4; clear HO_5; clear HO_802001; clear HO_821001; clear HO843; clear BK801; clear BK820; clear HB; have HO_4 := n0_; have HO_5 := n1_; have HO_802001 := n2_; have HO_821001 := n3_; have HO843 := n4_; have BK801 := n5_; have BK820 := n6_; have HB := n7_; clear n0_ n1_ n2_ n3_ n4_ n5_ n6_ n7_; (try clear hb); (try clear hb2); (try clear hk); (try clear hi); obtain ⟨Ao103, co103, eo103⟩ := Kd.R_slice HO843.out; subst eo103; obtain ⟨Ao104, co104, eo104⟩ := Kd.R_slice HO_5.out; subst eo104) | ((with_reducible refine gate_callee (f := 45) rfl ?_); refine goesL_ (some 119) rfl rfl Try.func45 (by kernel_rfl) rfl #[.slice Ao103 t841.length co103, .slice Ao104 t802.length co104] rfl (by (try simp only [List.map_toArray, List.map_cons, List.map_nil]); first | done | rfl | (simp only [List.length_drop, List.length_take]; rfl)) ?_; (with_reducible refine (laws_vPart.calls kj44 _ _ t841 _ _ t802 true _ ?side1 ?side2 ?side3 ?side4 A79.out).mono ?_); (case side1 => exact cP (Kd.R_reads' HO843.out).2.2); (case side2 => exact (Kd.R_reads' HO843.out).2.1); (case side3 => exact cP (Kd.R_reads' HO_5.out).2.2); (case side4 => exact (Kd.R_reads' HO_5.out).2.1); rintro e w' ⟨rfl, ⟨nd, rfl⟩⟩; refine ⟨_, rfl, ?_⟩))
          go_ret
          exact ⟨by first | rfl | (simp [errW_none, errW_some] <;> rfl) | (simp [*, errW_none, errW_some] <;> rfl), by exact bB⟩
        ·replace c80 := Bool.eq_false_iff.mpr c80
         subst c80
         have H1 : (some false) = some r := by rw [if_neg (show ¬ (false = true) by decide)] at H; exact H
         clear H
         have H := H1
         clear H1
         obtain rfl := Option.some.inj H
         have hnb105 := NB801_820.out
         have hnc105 := NB820_801.out
         have hcz106_0 : wc.cell? ⟨gb801, 0, none⟩ = some (.int .i64 t794) := (blk_cell BK801.out 0).trans rfl
         have hcz106_1 : wc.cell? ⟨gb801, 1, none⟩ = some (.slice Ao15 t795.length co15) := (blk_cell BK801.out 1).trans rfl
         have hfz106_0 := blk_frozen BK801.out 0
         have hfz106_1 := blk_frozen BK801.out 1
         go_wp2_with (first | ((with_reducible refine gate_callee (f := 44) rfl ?_); refine goesL_ (some 108) rfl rfl Try.func44 (by kernel_rfl) rfl #[.agg #[.int .i64 t794, .slice Ao15 t795.length co15], .slice Ao16 t798.length co16] rfl (by (try simp only [List.map_toArray, List.map_cons, List.map_nil]); first | done | rfl | (simp only [List.length_drop, List.length_take]; rfl)) ?_; (with_reducible refine (impl_ForceAll.calls kj44 t794 _ _ t795 _ _ t798 t841 t844 _ ?side1 ?side2 ?side3 ?side4 A77.out).mono ?_); (case side1 => exact cP (Kd.R_reads' HO_802001.out).2.2); (case side2 => exact (Kd.R_reads' HO_802001.out).2.1); (case side3 => exact cP (Kd.R_reads' HO_4.out).2.2); (case side4 => exact (Kd.R_reads' HO_4.out).2.1); rintro e w107 ⟨v842, rfl, ho0, hb⟩; refine ⟨_, rfl, ?_⟩; have n0_ := Aside0.mk (Kd.R_elder' (by exact rP HO_4.out) (Kd.R_base ho0) hb); have n1_ := Aside0.mk (Kd.R_elder' (by exact rP HO_5.out) (Kd.R_base ho0) hb); have n2_ := Aside0.mk (Kd.R_below (by exact rP HO_802001.out) hb); have n3_ := Aside0.mk (Kd.R_below (by exact rP HO_821001.out) hb); have n4_ := Aside0.mk (Kd.R_lower (Kd.R_new' (Kd.R_new' ho0 (Kd.R_lt (by exact rP HO_4.out))) (Kd.R_lt (by exact rP HO_5.out))) (below_size (by exact bB))); have n5_ := Aside0.mk (blk_below (g := gb801) (o := .cells #[.int .i64 t794, .slice Ao15 t795.length co15] 31 (0, 0)) (by exact kP BK801.out) hb); have n6_ := Aside0.mk (blk_below (g := gb820) (o := .cells #[.int .i64 t813, .slice Ao26 t814.length co26] 31 (0, 0)) (by exact kP BK820.out) hb); have n7_ := Aside0.mk (below_step (by exact bB) hb); clear HO_4; clear HO_5; clear HO_802001; clear HO_821001; clear BK801; clear BK820; clear HB; have HO_4 := n0_; have HO_5 := n1_; have HO_802001 := n2_; have HO_821001 := n3_; have HO843 := n4_; have BK801 := n5_; have BK820 := n6_; have HB := n7_; clear n0_ n1_ n2_ n3_ n4_ n5_ n6_ n7_; (try clear hb); (try clear hb2); (try clear hk); (try clear hi); (try clear ho0); have hcz108_0 : w107.cell? ⟨gb801, 0, none⟩ = some (.int .i64 t794) := (blk_cell BK801.out 0).trans rfl; have hcz108_1 : w107.cell? ⟨gb801, 1, none⟩ = some (.slice Ao15 t795.length co15) := (blk_cell BK801.out 1).trans rfl; have hfz108_0 := blk_frozen BK801.out 0; have hfz108_1 := blk_frozen BK801.out 1) | ((with_reducible refine gate_callee (f := 46) rfl ?_); refine goesL_ (some 114) rfl rfl Try.func46 (by kernel_rfl) rfl #[.agg #[.int .i64 t794, .slice Ao15 t795.length co15], .slice Ao16 t798.length co16] rfl (by (try simp only [List.map_toArray, List.map_cons, List.map_nil]); first | done | rfl | (simp only [List.length_drop, List.length_take]; rfl)) ?_; (with_reducible refine (impl_IsDominating.calls kj44 t794 _ _ t795 _ _ t798 t845 t846 _ ?side1 ?side2 ?side3 ?side4 A78.out).mono ?_); (case side1 => exact cP (Kd.R_reads' HO_802001.out).2.2); (case side2 => exact (Kd.R_reads' HO_802001.out).2.1); (case side3 => exact cP (Kd.R_reads' HO_4.out).2.2); (case side4 => exact (Kd.R_reads' HO_4.out).2.1); rintro e w109 ⟨rfl, hb⟩; refine ⟨_, rfl, ?_⟩; have n0_ := Aside0.mk (Kd.R_below (by exact rP HO_4.out) hb); have n1_ := Aside0.mk (Kd.R_below (by exact rP HO_5.out) hb); have n2_ := Aside0.mk (Kd.R_below (by exact rP HO_802001.out) hb); have n3_ := Aside0.mk (Kd.R_below (by exact rP HO_821001.out) hb); have n4_ := Aside0.mk (Kd.R_below (by exact rP HO843.out) hb); have n5_ := Aside0.mk (blk_below (g := gb801) (o := .cells #[.int .i64 t794, .slice Ao15 t795.length co15] 31 (0, 0)) (by exact kP BK801.out) hb); have n6_ := Aside0.mk (blk_below (g := gb820) (o := .cells #[.int .i64 t813, .slice Ao26 t814.length co26] 31 (0, 0)) (by exact kP BK820.out) hb); have n7_ := Aside0.mk (below_step (by exact bB) hb); clear HO_4; clear HO_5; clear HO_802001; clear HO_821001; clear HO843; clear BK801; clear BK820; clear HB; have HO_4 := n0_; have HO_5 := n1_; have HO_802001 := n2_; have HO_821001 := n3_; have HO843 := n4_; have BK801 := n5_; have BK820 := n6_; have HB := n7_; clear n0_ n1_ n2_ n3_ n4_ n5_ n6_ n7_; (try clear hb); (try clear hb2); (try clear hk); (try clear hi); obtain ⟨Ao110, co110, eo110⟩ := Kd.R_slice HO843.out; subst eo110; obtain ⟨Ao111, co111, eo111⟩ := Kd.R_slice HO_5.out; subst eo111) | ((with_reducible refine gate_callee (f := 45) rfl ?_); refine goesL_ (some 119) rfl rfl Try.func45 (by kernel_rfl) rfl #[.slice Ao110 t841.length co110, .slice Ao111 t802.length co111] rfl (by (try simp only [List.map_toArray, List.map_cons, List.map_nil]); first | done | rfl | (simp only [List.length_drop, List.length_take]; rfl)) ?_; (with_reducible refine (laws_vPart.calls kj44 _ _ t841 _ _ t802 false _ ?side1 ?side2 ?side3 ?side4 A79.out).mono ?_); (case side1 => exact cP (Kd.R_reads' HO843.out).2.2); (case side2 => exact (Kd.R_reads' HO843.out).2.1); (case side3 => exact cP (Kd.R_reads' HO_5.out).2.2); (case side4 => exact (Kd.R_reads' HO_5.out).2.1); rintro e w' ⟨rfl, ⟨nd, rfl⟩⟩; refine ⟨_, rfl, ?_⟩))
         go_ret
         exact ⟨by first | rfl | (simp [errW_none, errW_some] <;> rfl) | (simp [*, errW_none, errW_some] <;> rfl), by exact bB⟩
       ·replace c76 := Bool.eq_false_iff.mpr c76
        subst c76
        have H1 : (some true) = some r := by rw [if_neg (show ¬ (false = true) by decide)] at H; exact H
        clear H
        have H := H1
        clear H1
        obtain rfl := Option.some.inj H
        go_wp2
        go_ret
        exact ⟨by first | rfl | (simp [errW_none, errW_some] <;> rfl) | (simp [*, errW_none, errW_some] <;> rfl), by exact bB⟩

/-- THE ONE PURE STATEMENT of laws_FnClosures: yours. -/
def laws_FnClosures.Pure : Prop := ∀ (l0 : List Int), l0.length ≤ maxLen → l0.length * 1 ≤ 140737488351232 → (∀ x ∈ l0, (Lit.int .u8 x).wf = true) → ∃ k, laws_FnClosures.f k l0 = some true
theorem laws_FnClosures.walk (P : laws_FnClosures.Pure) (a0 : Option Addr) (len0 cap0 : Nat) (z0 : List Int) (w : World) (w0 : (a0 = none ∧ len0 = 0 ∧ cap0 = 0 ∧ z0 = []) ∨ ∃ x, a0 = some x ∧ len0 ≤ cap0 ∧ cap0 ≤ maxLen ∧ z0.length = cap0 ∧ (∀ i, i < z0.length → w.cell? (x.add i) = some (.int .u8 (z0.getD i 0))) ∧ ∀ n ∈ z0, (Lit.int .u8 n).wf = true) (y0 : len0 * 1 ≤ 140737488351232) :
  Calls Try.prog 7 #[.slice a0 len0 cap0] w fun e w' => e = .returned (.bool true) ∧ Below w.heap.size w w' := by
 obtain ⟨l0, rfl, hr0, hm0, hw0, hc0⟩ := ReadsInt.ofRowC w0
 obtain ⟨k, h⟩ := P l0 hm0 y0 hw0
 refine (laws_FnClosures.calls k _ _ l0 true w (Kd.C_of_reads (d := (0 : Int)) (h1 := fun _ => rfl) hr0) hc0 h).mono ?_
 rintro e w' ⟨rfl, hd⟩
 exact ⟨rfl, hd⟩


end Go.Proofs.Ytmokkhfmbenleaa.QClosures
