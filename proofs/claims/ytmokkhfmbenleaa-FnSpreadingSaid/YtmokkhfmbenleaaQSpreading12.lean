import Derived.Test.YtmokkhfmbenleaaQSpreading0
import Derived.Test.YtmokkhfmbenleaaQSpreading7
import Derived.Test.YtmokkhfmbenleaaQSpreading8
import Derived.Test.YtmokkhfmbenleaaQSpreading9
import Derived.Test.YtmokkhfmbenleaaQSpreading10
import Derived.Test.YtmokkhfmbenleaaQSpreading11
namespace Go.Proofs.Ytmokkhfmbenleaa.QSpreading
open Go.RowKit Go.Proofs.YtmokkhfmbenleaaW.PrintWords Go.Proofs.YtmokkhfmbenleaaW.PrintLast Go.Proofs.YtmokkhfmbenleaaW.PrintMore
attribute [local go_sem] max2_int min2_int max_two min_two max_three min_three max_four min_four   -- for this text's walks alone
set_option linter.unusedVariables false
set_option linter.unusedSimpArgs false
/-! ### laws_FnSpreading: function 8 -/
mutual
def laws_FnSpreading.j0 : Nat → List Int → Int → List Int → Bool → Bool → Int → List (S119) → Option (Bool)
 | 0, _, _, _, _, _, _, _ => none
 | k + 1, x4, x5, x6, x7, x57, x761000, x761001 => if x57 = true then (some false) else ((impl_IsStopping.f k x761000 x761001 x4 x5).bind fun bt770 => ((spec_IsStopping.f k x761000 x761001 x4 x5).bind fun bt772 => (if (bt770.1 != bt772.1) = true then (laws_FnSpreading.j1 k x4 x5 x6 x7 bt770.1 true x761000 x761001) else (if (bt770.2 != bt772.2) = true then (laws_FnSpreading.j1 k x4 x5 x6 x7 bt770.1 true x761000 x761001) else (laws_FnSpreading.j1 k x4 x5 x6 x7 bt770.1 (bt770.2 != x7) x761000 x761001)))))
def laws_FnSpreading.j1 : Nat → List Int → Int → List Int → Bool → Bool → Bool → Int → List (S119) → Option (Bool)
 | 0, _, _, _, _, _, _, _, _ => none
 | k + 1, x4, x5, x6, x7, x10, x84, x761000, x761001 => if x84 = true then (some false) else ((impl_LeastSpreading.f k x761000 x761001 x5).bind fun bt774 => ((spec_LeastSpreading.f k x761000 x761001 x5).bind fun bt778 => (if (bt774.2 != bt778.2) = true then (laws_FnSpreading.j2 k x4 x5 x6 x7 x10 bt774.1 bt774.2 true x761000 x761001) else ((laws_rInts.f k bt774.1 bt778.1).bind fun t782 => (laws_FnSpreading.j2 k x4 x5 x6 x7 x10 bt774.1 bt774.2 (!t782) x761000 x761001)))))
def laws_FnSpreading.j2 : Nat → List Int → Int → List Int → Bool → Bool → List Int → Bool → Bool → Int → List (S119) → Option (Bool)
 | 0, _, _, _, _, _, _, _, _, _, _ => none
 | k + 1, x4, x5, x6, x7, x10, x14, x15, x105, x761000, x761001 => if x105 = true then (some false) else (if x7 = true then ((impl_SpreadOf.f k x761000 x761001 x6 x5).bind fun bt783 => ((impl_SpreadOf.f k x761000 x761001 x14 x5).bind fun bt787 => (if bt783.2 = true then (if bt787.2 = true then (if x15 = true then ((laws_rInts.f k bt783.1 x6).bind fun t791 => (if t791 = true then (if (bt787.1.length : Int) = x761000 then ((laws_rPart.f k x4 x6).bind fun t792 => (laws_FnSpreading.j3 k x4 x5 x6 x10 x14 (!t792) x761000 x761001)) else (laws_FnSpreading.j3 k x4 x5 x6 x10 x14 true x761000 x761001)) else (laws_FnSpreading.j3 k x4 x5 x6 x10 x14 true x761000 x761001))) else (laws_FnSpreading.j3 k x4 x5 x6 x10 x14 true x761000 x761001)) else (laws_FnSpreading.j3 k x4 x5 x6 x10 x14 true x761000 x761001)) else (laws_FnSpreading.j3 k x4 x5 x6 x10 x14 true x761000 x761001)))) else (some true))
def laws_FnSpreading.j3 : Nat → List Int → Int → List Int → Bool → List Int → Bool → Int → List (S119) → Option (Bool)
 | 0, _, _, _, _, _, _, _, _ => none
 | k + 1, x4, x5, x6, x10, x14, x150, x761000, x761001 => if x150 = true then (some false) else (if (x6.length : Int) = x761000 then (laws_FnSpreading.j4 k x4 x5 x6 x10 x14 (decide ((x4.length : Int) < (x14.length : Int))) x761000 x761001) else (laws_FnSpreading.j4 k x4 x5 x6 x10 x14 false x761000 x761001))
def laws_FnSpreading.j4 : Nat → List Int → Int → List Int → Bool → List Int → Bool → Int → List (S119) → Option (Bool)
 | 0, _, _, _, _, _, _, _, _ => none
 | k + 1, x4, x5, x6, x10, x14, x162, x761000, x761001 => if x162 = true then (some false) else (laws_FnSpreading.l0 k x4 x5 x6 x10 x14 (([] : List Int)) 0 x761000 x761001)
def laws_FnSpreading.l0 : Nat → List Int → Int → List Int → Bool → List Int → List Int → Int → Int → List (S119) → Option (Bool)
 | 0, _, _, _, _, _, _, _, _, _ => none
 | k + 1, x4, x5, x6, x10, x14, x22, x23, x761000, x761001 => if x23 < x761000 then ((laws_rHas.f k x6 x23).bind fun t796 => (if t796 = true then (laws_FnSpreading.l0 k x4 x5 x6 x10 x14 x22 (wrap64 (x23 + 1)) x761000 x761001) else (if x22.length < 17592186044416 then (laws_FnSpreading.l0 k x4 x5 x6 x10 x14 (x22 ++ [x23]) (wrap64 (x23 + 1)) x761000 x761001) else (none)))) else ((impl_IsStopping.f k x761000 x761001 x22 x5).bind fun bt800 => (if bt800.2 = true then (laws_FnSpreading.j6 k x4 x10 x14 (bt800.1 != (decide ((x22.length : Int) > 0)))) else (laws_FnSpreading.j6 k x4 x10 x14 true)))
def laws_FnSpreading.j6 : Nat → List Int → Bool → List Int → Bool → Option (Bool)
 | 0, _, _, _, _ => none
 | k + 1, x4, x10, x14, x193 => if x193 = true then (some false) else (if x10 = true then (laws_FnSpreading.l1 k x4 x14 0) else (some true))
def laws_FnSpreading.l1 : Nat → List Int → List Int → Int → Option (Bool)
 | 0, _, _, _ => none
 | k + 1, x4, x14, x26 => if x26 < (x4.length : Int) then (if 0 ≤ x26 then ((laws_rHas.f k x14 (rd x4 x26)).bind fun t803 => (if t803 = true then (some true) else (laws_FnSpreading.l1 k x4 x14 (wrap64 (x26 + 1))))) else (none)) else (some false)
end
def laws_FnSpreading.f (k : Nat) (l0 : List Int) : Option (Bool) := (laws_rBig.f l0).bind fun t751 => (if t751 = true then (some true) else ((spec_DrawSpreadOf.f k l0).bind fun bt752 => ((impl_SpreadOf.f k bt752.1 bt752.2.1 bt752.2.2.1 bt752.2.2.2).bind fun bt761 => ((spec_SpreadOf.f k bt752.1 bt752.2.1 bt752.2.2.1 bt752.2.2.2).bind fun bt765 => (if (bt761.2 != bt765.2) = true then (laws_FnSpreading.j0 k bt752.2.2.1 bt752.2.2.2 bt761.1 bt761.2 true bt752.1 bt752.2.1) else ((laws_rInts.f k bt761.1 bt765.1).bind fun t769 => (laws_FnSpreading.j0 k bt752.2.2.1 bt752.2.2.2 bt761.1 bt761.2 (!t769) bt752.1 bt752.2.1)))))))
theorem laws_FnSpreading.mono_l : ∀ k, (∀ y0 y1 y2 y3 y4 y5 y6, LeO (laws_FnSpreading.j0 k y0 y1 y2 y3 y4 y5 y6) (laws_FnSpreading.j0 (k + 1) y0 y1 y2 y3 y4 y5 y6)) ∧ (∀ y0 y1 y2 y3 y4 y5 y6 y7, LeO (laws_FnSpreading.j1 k y0 y1 y2 y3 y4 y5 y6 y7) (laws_FnSpreading.j1 (k + 1) y0 y1 y2 y3 y4 y5 y6 y7)) ∧ (∀ y0 y1 y2 y3 y4 y5 y6 y7 y8 y9, LeO (laws_FnSpreading.j2 k y0 y1 y2 y3 y4 y5 y6 y7 y8 y9) (laws_FnSpreading.j2 (k + 1) y0 y1 y2 y3 y4 y5 y6 y7 y8 y9)) ∧ (∀ y0 y1 y2 y3 y4 y5 y6 y7, LeO (laws_FnSpreading.j3 k y0 y1 y2 y3 y4 y5 y6 y7) (laws_FnSpreading.j3 (k + 1) y0 y1 y2 y3 y4 y5 y6 y7)) ∧ (∀ y0 y1 y2 y3 y4 y5 y6 y7, LeO (laws_FnSpreading.j4 k y0 y1 y2 y3 y4 y5 y6 y7) (laws_FnSpreading.j4 (k + 1) y0 y1 y2 y3 y4 y5 y6 y7)) ∧ (∀ y0 y1 y2 y3 y4 y5 y6 y7 y8, LeO (laws_FnSpreading.l0 k y0 y1 y2 y3 y4 y5 y6 y7 y8) (laws_FnSpreading.l0 (k + 1) y0 y1 y2 y3 y4 y5 y6 y7 y8)) ∧ (∀ y0 y1 y2 y3, LeO (laws_FnSpreading.j6 k y0 y1 y2 y3) (laws_FnSpreading.j6 (k + 1) y0 y1 y2 y3)) ∧ (∀ y0 y1 y2, LeO (laws_FnSpreading.l1 k y0 y1 y2) (laws_FnSpreading.l1 (k + 1) y0 y1 y2))
 | 0 => ⟨fun _ _ _ _ _ _ _ r h => by simp [laws_FnSpreading.j0] at h, fun _ _ _ _ _ _ _ _ r h => by simp [laws_FnSpreading.j1] at h, fun _ _ _ _ _ _ _ _ _ _ r h => by simp [laws_FnSpreading.j2] at h, fun _ _ _ _ _ _ _ _ r h => by simp [laws_FnSpreading.j3] at h, fun _ _ _ _ _ _ _ _ r h => by simp [laws_FnSpreading.j4] at h, fun _ _ _ _ _ _ _ _ _ r h => by simp [laws_FnSpreading.l0] at h, fun _ _ _ _ r h => by simp [laws_FnSpreading.j6] at h, fun _ _ _ r h => by simp [laws_FnSpreading.l1] at h⟩
 | k + 1 => by
  obtain ⟨ih0, ih1, ih2, ih3, ih4, ih5, ih6, ih7⟩ := laws_FnSpreading.mono_l k
  refine ⟨?_, ?_, ?_, ?_, ?_, ?_, ?_, ?_⟩
  ·intro y0 y1 y2 y3 y4 y5 y6
   unfold laws_FnSpreading.j0
   repeat' first
   | (with_reducible exact ih0 _ _ _ _ _ _ _)
   | (with_reducible exact ih1 _ _ _ _ _ _ _ _)
   | (with_reducible exact ih2 _ _ _ _ _ _ _ _ _ _)
   | (with_reducible exact ih3 _ _ _ _ _ _ _ _)
   | (with_reducible exact ih4 _ _ _ _ _ _ _ _)
   | (with_reducible exact ih5 _ _ _ _ _ _ _ _ _)
   | (with_reducible exact ih6 _ _ _ _)
   | (with_reducible exact ih7 _ _ _)
   | (with_reducible exact impl_IsStopping.mono _ _ _ _ _)
   | (with_reducible exact impl_LeastSpreading.mono _ _ _ _)
   | (with_reducible exact impl_SpreadOf.mono _ _ _ _ _)
   | (with_reducible exact laws_rHas.mono _ _ _)
   | (with_reducible exact laws_rInts.mono _ _ _)
   | (with_reducible exact laws_rPart.mono _ _ _)
   | (with_reducible exact spec_DrawSpreadOf.mono _ _)
   | (with_reducible exact spec_IsStopping.mono _ _ _ _ _)
   | (with_reducible exact spec_LeastSpreading.mono _ _ _ _)
   | (with_reducible exact spec_SpreadOf.mono _ _ _ _ _)
   | (with_reducible exact LeO.refl _)
   | (with_reducible exact LeO.none _)
   | (with_reducible refine LeO.ite ?_ ?_)
   | (with_reducible refine LeO.bind ?_ (fun _ => ?_))
   | exact LeO.none _
   | refine LeO.ite ?_ ?_
   | refine LeO.bind ?_ (fun _ => ?_)
  ·intro y0 y1 y2 y3 y4 y5 y6 y7
   unfold laws_FnSpreading.j1
   repeat' first
   | (with_reducible exact ih0 _ _ _ _ _ _ _)
   | (with_reducible exact ih1 _ _ _ _ _ _ _ _)
   | (with_reducible exact ih2 _ _ _ _ _ _ _ _ _ _)
   | (with_reducible exact ih3 _ _ _ _ _ _ _ _)
   | (with_reducible exact ih4 _ _ _ _ _ _ _ _)
   | (with_reducible exact ih5 _ _ _ _ _ _ _ _ _)
   | (with_reducible exact ih6 _ _ _ _)
   | (with_reducible exact ih7 _ _ _)
   | (with_reducible exact impl_IsStopping.mono _ _ _ _ _)
   | (with_reducible exact impl_LeastSpreading.mono _ _ _ _)
   | (with_reducible exact impl_SpreadOf.mono _ _ _ _ _)
   | (with_reducible exact laws_rHas.mono _ _ _)
   | (with_reducible exact laws_rInts.mono _ _ _)
   | (with_reducible exact laws_rPart.mono _ _ _)
   | (with_reducible exact spec_DrawSpreadOf.mono _ _)
   | (with_reducible exact spec_IsStopping.mono _ _ _ _ _)
   | (with_reducible exact spec_LeastSpreading.mono _ _ _ _)
   | (with_reducible exact spec_SpreadOf.mono _ _ _ _ _)
   | (with_reducible exact LeO.refl _)
   | (with_reducible exact LeO.none _)
   | (with_reducible refine LeO.ite ?_ ?_)
   | (with_reducible refine LeO.bind ?_ (fun _ => ?_))
   | exact LeO.none _
   | refine LeO.ite ?_ ?_
   | refine LeO.bind ?_ (fun _ => ?_)
  ·intro y0 y1 y2 y3 y4 y5 y6 y7 y8 y9
   unfold laws_FnSpreading.j2
   repeat' first
   | (with_reducible exact ih0 _ _ _ _ _ _ _)
   | (with_reducible exact ih1 _ _ _ _ _ _ _ _)
   | (with_reducible exact ih2 _ _ _ _ _ _ _ _ _ _)
   | (with_reducible exact ih3 _ _ _ _ _ _ _ _)
   | (with_reducible exact ih4 _ _ _ _ _ _ _ _)
   | (with_reducible exact ih5 _ _ _ _ _ _ _ _ _)
   | (with_reducible exact ih6 _ _ _ _)
   | (with_reducible exact ih7 _ _ _)
   | (with_reducible exact impl_IsStopping.mono _ _ _ _ _)
   | (with_reducible exact impl_LeastSpreading.mono _ _ _ _)
   | (with_reducible exact impl_SpreadOf.mono _ _ _ _ _)
   | (with_reducible exact laws_rHas.mono _ _ _)
   | (with_reducible exact laws_rInts.mono _ _ _)
   | (with_reducible exact laws_rPart.mono _ _ _)
   | (with_reducible exact spec_DrawSpreadOf.mono _ _)
   | (with_reducible exact spec_IsStopping.mono _ _ _ _ _)
   | (with_reducible exact spec_LeastSpreading.mono _ _ _ _)
   | (with_reducible exact spec_SpreadOf.mono _ _ _ _ _)
   | (with_reducible exact LeO.refl _)
   | (with_reducible exact LeO.none _)
   | (with_reducible refine LeO.ite ?_ ?_)
   | (with_reducible refine LeO.bind ?_ (fun _ => ?_))
   | exact LeO.none _
   | refine LeO.ite ?_ ?_
   | refine LeO.bind ?_ (fun _ => ?_)
  ·intro y0 y1 y2 y3 y4 y5 y6 y7
   unfold laws_FnSpreading.j3
   repeat' first
   | (with_reducible exact ih0 _ _ _ _ _ _ _)
   | (with_reducible exact ih1 _ _ _ _ _ _ _ _)
   | (with_reducible exact ih2 _ _ _ _ _ _ _ _ _ _)
   | (with_reducible exact ih3 _ _ _ _ _ _ _ _)
   | (with_reducible exact ih4 _ _ _ _ _ _ _ _)
   | (with_reducible exact ih5 _ _ _ _ _ _ _ _ _)
   | (with_reducible exact ih6 _ _ _ _)
   | (with_reducible exact ih7 _ _ _)
   | (with_reducible exact impl_IsStopping.mono _ _ _ _ _)
   | (with_reducible exact impl_LeastSpreading.mono _ _ _ _)
   | (with_reducible exact impl_SpreadOf.mono _ _ _ _ _)
   | (with_reducible exact laws_rHas.mono _ _ _)
   | (with_reducible exact laws_rInts.mono _ _ _)
   | (with_reducible exact laws_rPart.mono _ _ _)
   | (with_reducible exact spec_DrawSpreadOf.mono _ _)
   | (with_reducible exact spec_IsStopping.mono _ _ _ _ _)
   | (with_reducible exact spec_LeastSpreading.mono _ _ _ _)
   | (with_reducible exact spec_SpreadOf.mono _ _ _ _ _)
   | (with_reducible exact LeO.refl _)
   | (with_reducible exact LeO.none _)
   | (with_reducible refine LeO.ite ?_ ?_)
   | (with_reducible refine LeO.bind ?_ (fun _ => ?_))
   | exact LeO.none _
   | refine LeO.ite ?_ ?_
   | refine LeO.bind ?_ (fun _ => ?_)
  ·intro y0 y1 y2 y3 y4 y5 y6 y7
   unfold laws_FnSpreading.j4
   repeat' first
   | (with_reducible exact ih0 _ _ _ _ _ _ _)
   | (with_reducible exact ih1 _ _ _ _ _ _ _ _)
   | (with_reducible exact ih2 _ _ _ _ _ _ _ _ _ _)
   | (with_reducible exact ih3 _ _ _ _ _ _ _ _)
   | (with_reducible exact ih4 _ _ _ _ _ _ _ _)
   | (with_reducible exact ih5 _ _ _ _ _ _ _ _ _)
   | (with_reducible exact ih6 _ _ _ _)
   | (with_reducible exact ih7 _ _ _)
   | (with_reducible exact impl_IsStopping.mono _ _ _ _ _)
   | (with_reducible exact impl_LeastSpreading.mono _ _ _ _)
   | (with_reducible exact impl_SpreadOf.mono _ _ _ _ _)
   | (with_reducible exact laws_rHas.mono _ _ _)
   | (with_reducible exact laws_rInts.mono _ _ _)
   | (with_reducible exact laws_rPart.mono _ _ _)
   | (with_reducible exact spec_DrawSpreadOf.mono _ _)
   | (with_reducible exact spec_IsStopping.mono _ _ _ _ _)
   | (with_reducible exact spec_LeastSpreading.mono _ _ _ _)
   | (with_reducible exact spec_SpreadOf.mono _ _ _ _ _)
   | (with_reducible exact LeO.refl _)
   | (with_reducible exact LeO.none _)
   | (with_reducible refine LeO.ite ?_ ?_)
   | (with_reducible refine LeO.bind ?_ (fun _ => ?_))
   | exact LeO.none _
   | refine LeO.ite ?_ ?_
   | refine LeO.bind ?_ (fun _ => ?_)
  ·intro y0 y1 y2 y3 y4 y5 y6 y7 y8
   unfold laws_FnSpreading.l0
   repeat' first
   | (with_reducible exact ih0 _ _ _ _ _ _ _)
   | (with_reducible exact ih1 _ _ _ _ _ _ _ _)
   | (with_reducible exact ih2 _ _ _ _ _ _ _ _ _ _)
   | (with_reducible exact ih3 _ _ _ _ _ _ _ _)
   | (with_reducible exact ih4 _ _ _ _ _ _ _ _)
   | (with_reducible exact ih5 _ _ _ _ _ _ _ _ _)
   | (with_reducible exact ih6 _ _ _ _)
   | (with_reducible exact ih7 _ _ _)
   | (with_reducible exact impl_IsStopping.mono _ _ _ _ _)
   | (with_reducible exact impl_LeastSpreading.mono _ _ _ _)
   | (with_reducible exact impl_SpreadOf.mono _ _ _ _ _)
   | (with_reducible exact laws_rHas.mono _ _ _)
   | (with_reducible exact laws_rInts.mono _ _ _)
   | (with_reducible exact laws_rPart.mono _ _ _)
   | (with_reducible exact spec_DrawSpreadOf.mono _ _)
   | (with_reducible exact spec_IsStopping.mono _ _ _ _ _)
   | (with_reducible exact spec_LeastSpreading.mono _ _ _ _)
   | (with_reducible exact spec_SpreadOf.mono _ _ _ _ _)
   | (with_reducible exact LeO.refl _)
   | (with_reducible exact LeO.none _)
   | (with_reducible refine LeO.ite ?_ ?_)
   | (with_reducible refine LeO.bind ?_ (fun _ => ?_))
   | exact LeO.none _
   | refine LeO.ite ?_ ?_
   | refine LeO.bind ?_ (fun _ => ?_)
  ·intro y0 y1 y2 y3
   unfold laws_FnSpreading.j6
   repeat' first
   | (with_reducible exact ih0 _ _ _ _ _ _ _)
   | (with_reducible exact ih1 _ _ _ _ _ _ _ _)
   | (with_reducible exact ih2 _ _ _ _ _ _ _ _ _ _)
   | (with_reducible exact ih3 _ _ _ _ _ _ _ _)
   | (with_reducible exact ih4 _ _ _ _ _ _ _ _)
   | (with_reducible exact ih5 _ _ _ _ _ _ _ _ _)
   | (with_reducible exact ih6 _ _ _ _)
   | (with_reducible exact ih7 _ _ _)
   | (with_reducible exact impl_IsStopping.mono _ _ _ _ _)
   | (with_reducible exact impl_LeastSpreading.mono _ _ _ _)
   | (with_reducible exact impl_SpreadOf.mono _ _ _ _ _)
   | (with_reducible exact laws_rHas.mono _ _ _)
   | (with_reducible exact laws_rInts.mono _ _ _)
   | (with_reducible exact laws_rPart.mono _ _ _)
   | (with_reducible exact spec_DrawSpreadOf.mono _ _)
   | (with_reducible exact spec_IsStopping.mono _ _ _ _ _)
   | (with_reducible exact spec_LeastSpreading.mono _ _ _ _)
   | (with_reducible exact spec_SpreadOf.mono _ _ _ _ _)
   | (with_reducible exact LeO.refl _)
   | (with_reducible exact LeO.none _)
   | (with_reducible refine LeO.ite ?_ ?_)
   | (with_reducible refine LeO.bind ?_ (fun _ => ?_))
   | exact LeO.none _
   | refine LeO.ite ?_ ?_
   | refine LeO.bind ?_ (fun _ => ?_)
  ·intro y0 y1 y2
   unfold laws_FnSpreading.l1
   repeat' first
   | (with_reducible exact ih0 _ _ _ _ _ _ _)
   | (with_reducible exact ih1 _ _ _ _ _ _ _ _)
   | (with_reducible exact ih2 _ _ _ _ _ _ _ _ _ _)
   | (with_reducible exact ih3 _ _ _ _ _ _ _ _)
   | (with_reducible exact ih4 _ _ _ _ _ _ _ _)
   | (with_reducible exact ih5 _ _ _ _ _ _ _ _ _)
   | (with_reducible exact ih6 _ _ _ _)
   | (with_reducible exact ih7 _ _ _)
   | (with_reducible exact impl_IsStopping.mono _ _ _ _ _)
   | (with_reducible exact impl_LeastSpreading.mono _ _ _ _)
   | (with_reducible exact impl_SpreadOf.mono _ _ _ _ _)
   | (with_reducible exact laws_rHas.mono _ _ _)
   | (with_reducible exact laws_rInts.mono _ _ _)
   | (with_reducible exact laws_rPart.mono _ _ _)
   | (with_reducible exact spec_DrawSpreadOf.mono _ _)
   | (with_reducible exact spec_IsStopping.mono _ _ _ _ _)
   | (with_reducible exact spec_LeastSpreading.mono _ _ _ _)
   | (with_reducible exact spec_SpreadOf.mono _ _ _ _ _)
   | (with_reducible exact LeO.refl _)
   | (with_reducible exact LeO.none _)
   | (with_reducible refine LeO.ite ?_ ?_)
   | (with_reducible refine LeO.bind ?_ (fun _ => ?_))
   | exact LeO.none _
   | refine LeO.ite ?_ ?_
   | refine LeO.bind ?_ (fun _ => ?_)
theorem laws_FnSpreading.mono : ∀ a0 k, LeO (laws_FnSpreading.f k a0) (laws_FnSpreading.f (k + 1) a0) := by
 intro a0 k
 obtain ⟨ih0, ih1, ih2, ih3, ih4, ih5, ih6, ih7⟩ := laws_FnSpreading.mono_l k
 unfold laws_FnSpreading.f
 repeat' first
   | (with_reducible exact ih0 _ _ _ _ _ _ _)
   | (with_reducible exact ih1 _ _ _ _ _ _ _ _)
   | (with_reducible exact ih2 _ _ _ _ _ _ _ _ _ _)
   | (with_reducible exact ih3 _ _ _ _ _ _ _ _)
   | (with_reducible exact ih4 _ _ _ _ _ _ _ _)
   | (with_reducible exact ih5 _ _ _ _ _ _ _ _ _)
   | (with_reducible exact ih6 _ _ _ _)
   | (with_reducible exact ih7 _ _ _)
   | (with_reducible exact impl_IsStopping.mono _ _ _ _ _)
   | (with_reducible exact impl_LeastSpreading.mono _ _ _ _)
   | (with_reducible exact impl_SpreadOf.mono _ _ _ _ _)
   | (with_reducible exact laws_rHas.mono _ _ _)
   | (with_reducible exact laws_rInts.mono _ _ _)
   | (with_reducible exact laws_rPart.mono _ _ _)
   | (with_reducible exact spec_DrawSpreadOf.mono _ _)
   | (with_reducible exact spec_IsStopping.mono _ _ _ _ _)
   | (with_reducible exact spec_LeastSpreading.mono _ _ _ _)
   | (with_reducible exact spec_SpreadOf.mono _ _ _ _ _)
   | (with_reducible exact LeO.refl _)
   | (with_reducible exact LeO.none _)
   | (with_reducible refine LeO.ite ?_ ?_)
   | (with_reducible refine LeO.bind ?_ (fun _ => ?_))
   | exact LeO.none _
   | refine LeO.ite ?_ ?_
   | refine LeO.bind ?_ (fun _ => ?_)
set_option maxHeartbeats 8000000 in
set_option maxRecDepth 100000 in
theorem laws_FnSpreading.calls (k : Nat) (A0 : Option Addr) (c0 : Nat) (l0 : List Int) (w : World) (hr0 : Kd.C (Kd.int .u8) w A0 l0.length l0) (hc0 : l0.length ≤ c0) (h : laws_FnSpreading.f k l0 = some true) :
  Calls Try.prog 8 #[.slice A0 l0.length c0] w fun e w' => e = .returned (.bool true) ∧ Below w.heap.size w w' := by
 have hu31 := Try.underlying31
 have HR0 := Aside0.mk hr0
 have HC0 := Aside0.mk hc0
 clear hr0 hc0
 have HB := aM (Below.refl w.heap.size w)
 have H : ((laws_rBig.f l0).bind fun t751 => (if t751 = true then (some true) else ((spec_DrawSpreadOf.f k l0).bind fun bt752 => ((impl_SpreadOf.f k bt752.1 bt752.2.1 bt752.2.2.1 bt752.2.2.2).bind fun bt761 => ((spec_SpreadOf.f k bt752.1 bt752.2.1 bt752.2.2.1 bt752.2.2.2).bind fun bt765 => (if (bt761.2 != bt765.2) = true then (laws_FnSpreading.j0 k bt752.2.2.1 bt752.2.2.2 bt761.1 bt761.2 true bt752.1 bt752.2.1) else ((laws_rInts.f k bt761.1 bt765.1).bind fun t769 => (laws_FnSpreading.j0 k bt752.2.2.1 bt752.2.2.2 bt761.1 bt761.2 (!t769) bt752.1 bt752.2.1)))))))) = some true := h
 clear h
 replace H := Option.bind_eq_some_iff.mp H
 obtain ⟨t751, A20, H⟩ := H
 replace H : (if t751 = true then (some true) else ((spec_DrawSpreadOf.f k l0).bind fun bt752 => ((impl_SpreadOf.f k bt752.1 bt752.2.1 bt752.2.2.1 bt752.2.2.2).bind fun bt761 => ((spec_SpreadOf.f k bt752.1 bt752.2.1 bt752.2.2.1 bt752.2.2.2).bind fun bt765 => (if (bt761.2 != bt765.2) = true then (laws_FnSpreading.j0 k bt752.2.2.1 bt752.2.2.2 bt761.1 bt761.2 true bt752.1 bt752.2.1) else ((laws_rInts.f k bt761.1 bt765.1).bind fun t769 => (laws_FnSpreading.j0 k bt752.2.2.1 bt752.2.2.2 bt761.1 bt761.2 (!t769) bt752.1 bt752.2.1))))))) = some true := H
 have A2 := Aside0.mk A20
 clear A20
 by_cases c3 : t751 = true
 ·subst c3
  have H1 : (some true) = some true := rfl
  clear H
  have H := H1
  clear H1
  clear H
  go_enter Try.func8, Try.ntmps8
  go_wp2_with (first | ((with_reducible refine gate_callee (f := 29) rfl ?_);refine goesL_ (some 28) rfl rfl Try.func29 (by kernel_rfl) rfl #[.slice A0 l0.length c0] rfl mM ?_;(with_reducible refine (laws_rBig.calls _ _ l0 true _ ?side1 ?side2 A2.out).mono ?_);(case side1 => exact cP HR0.out);(case side2 => exact HC0.out);rintro e w' ⟨rfl, ⟨nd, rfl⟩⟩;refine ⟨_, rfl, ?_⟩))
  go_ret
  exact ⟨by first | rfl | (simp [errW_none, errW_some] <;> rfl) | (simp [*, errW_none, errW_some] <;> rfl), by exact bB⟩
 replace c3 := Bool.eq_false_iff.mpr c3
 subst c3
 have H1 : ((spec_DrawSpreadOf.f k l0).bind fun bt752 => ((impl_SpreadOf.f k bt752.1 bt752.2.1 bt752.2.2.1 bt752.2.2.2).bind fun bt761 => ((spec_SpreadOf.f k bt752.1 bt752.2.1 bt752.2.2.1 bt752.2.2.2).bind fun bt765 => (if (bt761.2 != bt765.2) = true then (laws_FnSpreading.j0 k bt752.2.2.1 bt752.2.2.2 bt761.1 bt761.2 true bt752.1 bt752.2.1) else ((laws_rInts.f k bt761.1 bt765.1).bind fun t769 => (laws_FnSpreading.j0 k bt752.2.2.1 bt752.2.2.2 bt761.1 bt761.2 (!t769) bt752.1 bt752.2.1)))))) = some true := by rw [if_neg (show ¬ (false = true) by decide)] at H;exact H
 clear H
 have H := H1
 clear H1
 replace H := Option.bind_eq_some_iff.mp H
 obtain ⟨⟨t752, t753, t756, t759⟩, A40, H⟩ := H
 replace H : ((impl_SpreadOf.f k t752 t753 t756 t759).bind fun bt761 => ((spec_SpreadOf.f k t752 t753 t756 t759).bind fun bt765 => (if (bt761.2 != bt765.2) = true then (laws_FnSpreading.j0 k t756 t759 bt761.1 bt761.2 true t752 t753) else ((laws_rInts.f k bt761.1 bt765.1).bind fun t769 => (laws_FnSpreading.j0 k t756 t759 bt761.1 bt761.2 (!t769) t752 t753))))) = some true := H
 have A4 := Aside0.mk A40
 clear A40
 replace H := Option.bind_eq_some_iff.mp H
 obtain ⟨⟨t761, t764⟩, A50, H⟩ := H
 replace H : ((spec_SpreadOf.f k t752 t753 t756 t759).bind fun bt765 => (if (t764 != bt765.2) = true then (laws_FnSpreading.j0 k t756 t759 t761 t764 true t752 t753) else ((laws_rInts.f k t761 bt765.1).bind fun t769 => (laws_FnSpreading.j0 k t756 t759 t761 t764 (!t769) t752 t753)))) = some true := H
 have A5 := Aside0.mk A50
 clear A50
 replace H := Option.bind_eq_some_iff.mp H
 obtain ⟨⟨t765, t768⟩, A60, H⟩ := H
 replace H : (if (t764 != t768) = true then (laws_FnSpreading.j0 k t756 t759 t761 t764 true t752 t753) else ((laws_rInts.f k t761 t765).bind fun t769 => (laws_FnSpreading.j0 k t756 t759 t761 t764 (!t769) t752 t753))) = some true := H
 have A6 := Aside0.mk A60
 clear A60
 have HC7 := Aside0.mk H
 clear H
 go_enter Try.func8, Try.ntmps8
 go_upto_region 6 with (first | ((with_reducible refine gate_callee (f := 29) rfl ?_);refine goesL_ (some 28) rfl rfl Try.func29 (by kernel_rfl) rfl #[.slice A0 l0.length c0] rfl mM ?_;(with_reducible refine (laws_rBig.calls _ _ l0 false _ ?side1 ?side2 A2.out).mono ?_);(case side1 => exact cP HR0.out);(case side2 => exact HC0.out);rintro e w' ⟨rfl, ⟨nd, rfl⟩⟩;refine ⟨_, rfl, ?_⟩) | ((with_reducible refine gate_callee (f := 47) rfl ?_);refine goesL_ (some 31) rfl rfl Try.func47 (by kernel_rfl) rfl #[.slice A0 l0.length c0] rfl mM ?_;(with_reducible refine (spec_DrawSpreadOf.calls k _ _ l0 t752 t753 t756 t759 _ ?side1 ?side2 A4.out).mono ?_);(case side1 => exact cP HR0.out);(case side2 => exact HC0.out);rintro e w8 ⟨v754, v757, rfl, ho0, ho1, hb⟩;refine ⟨_, rfl, ?_⟩;have n0_ := aM (Kd.R_lower ho0 (below_size (by exact bB)));have n1_ := aM (Kd.R_lower ho1 (below_size (by exact bB)));have n2_ := aM (below_step (by exact bB) hb);clear HB;have HO755 := n0_;have HO758 := n1_;have HB := n2_;clear n0_ n1_ n2_;(try clear hb);(try clear hb2);(try clear hk);(try clear hi);(try clear ho0);(try clear ho1)) | ((with_reducible refine gate_dst (N := 3) rfl ?_);(try (refine gate_guard (by rfl) ?_;dsimp only));refine box_event ?hg (N := 3) ?hd (cs := #[.int .i64 0, .slice none 0 0]) (t := 31) ?hr ?_;(case hd => rfl);(case hg => rfl);(case hr => first | (go_simp;done) | (go_simp;rfl));intro gb760 hg w9 hbox hb;have n0_ := aM (Kd.R_below (by exact rP HO755.out) hb);have n1_ := aM (Kd.R_below (by exact rP HO758.out) hb);have n2_ := aM (below_step (by exact bB) hb);have n3_ := aM (hbox);have n4_ := aM (sW hg : w.heap.size ≤ gb760);have n5_ := aM (sW hg : w.heap.size ≤ gb760);clear HO755;clear HO758;clear HB;have HO755 := n0_;have HO758 := n1_;have HB := n2_;have BK760 := n3_;have GW760 := n4_;have GE760 := n5_;clear n0_ n1_ n2_ n3_ n4_ n5_;clear hb hbox hg;have hcz10_0 := bC0 BK760.out;have hcz10_1 := bC1 BK760.out;have hfz10_0 := blk_frozen BK760.out 0;have hfz10_1 := blk_frozen BK760.out 1;obtain ⟨Ao11, co11, eo11⟩ := Kd.R_slice HO755.out;subst eo11;obtain ⟨Ao12, co12, eo12⟩ := Kd.R_slice HO758.out;subst eo12) | ((with_reducible refine gate_callee (f := 48) rfl ?_);refine goesL_ (some 39) rfl rfl Try.func48 (by kernel_rfl) rfl #[.agg #[.int .i64 t752, .slice Ao11 t753.length co11], .slice Ao12 t756.length co12, .int .i64 t759] rfl mM ?_;(with_reducible refine (impl_SpreadOf.calls k t752 _ _ t753 _ _ t756 t759 t761 t764 _ ?side1 ?side2 ?side3 ?side4 A5.out).mono ?_);(case side1 => refine (Kd.R_reads' (e := 119) (base := w.heap.size) (ok := fun k_ => True) (n := t753.length) (c := co11) ?_).2.2;exact (by refine rP ?_;exact (Kd.R_mono (Kd.R_far (p := ⟨gb760, 1, none⟩) (Kd.R_far (p := ⟨gb760, 0, none⟩) (Kd.R_types HO755.out BK760.out (by decide)) (fun _ hk => hk.2) (.int .i64 t752)) (fun _ hk => hk.2) (.slice Ao11 t753.length co11)) (fun _ h_ => h_.1))));(case side2 => exact (Kd.R_reads' HO755.out).2.1);(case side3 => refine (Kd.R_reads' (e := 3) (base := w.heap.size) (ok := fun k_ => True) (n := t756.length) (c := co12) ?_).2.2;exact (by refine rP ?_;exact (Kd.R_mono (Kd.R_far (p := ⟨gb760, 1, none⟩) (Kd.R_far (p := ⟨gb760, 0, none⟩) (Kd.R_types HO758.out BK760.out (by decide)) (fun _ hk => hk.2) (.int .i64 t752)) (fun _ hk => hk.2) (.slice Ao11 t753.length co11)) (fun _ h_ => h_.1))));(case side4 => exact (Kd.R_reads' HO758.out).2.1);rintro e w13 ⟨v762, rfl, ho0, hb⟩;refine ⟨_, rfl, ?_⟩;have n0_ := aM (Kd.R_below (by exact rP ((Kd.R_mono (Kd.R_far (p := ⟨gb760, 1, none⟩) (Kd.R_far (p := ⟨gb760, 0, none⟩) (Kd.R_types HO755.out BK760.out (by decide)) (fun _ hk => hk.2) (.int .i64 t752)) (fun _ hk => hk.2) (.slice Ao11 t753.length co11)) (fun _ h_ => h_.1)))) hb);have n1_ := aM (Kd.R_elder' (by exact rP ((Kd.R_mono (Kd.R_far (p := ⟨gb760, 1, none⟩) (Kd.R_far (p := ⟨gb760, 0, none⟩) (Kd.R_types HO758.out BK760.out (by decide)) (fun _ hk => hk.2) (.int .i64 t752)) (fun _ hk => hk.2) (.slice Ao11 t753.length co11)) (fun _ h_ => h_.1)))) (Kd.R_base ho0) hb);have n2_ := aM (Kd.R_lower (Kd.R_new' ho0 (Kd.R_lt (by exact rP ((Kd.R_mono (Kd.R_far (p := ⟨gb760, 1, none⟩) (Kd.R_far (p := ⟨gb760, 0, none⟩) (Kd.R_types HO758.out BK760.out (by decide)) (fun _ hk => hk.2) (.int .i64 t752)) (fun _ hk => hk.2) (.slice Ao11 t753.length co11)) (fun _ h_ => h_.1)))))) (below_size (by exact bB)));have n3_ := aM (blk_below (g := gb760) (o := .cells #[.int .i64 t752, .slice Ao11 t753.length co11] 31 (0, 0)) (by refine kP ?_;refine blk_put (cs := #[.int .i64 t752, .slice none 0 0]) ?_ 1 _ rfl;refine kP ?_;refine blk_put (cs := #[.int .i64 0, .slice none 0 0]) ?_ 0 _ rfl;exact kP BK760.out) hb);have n4_ := aM (below_step (by exact bB) hb);clear HO755;clear HO758;clear BK760;clear HB;have HO755 := n0_;have HO758 := n1_;have HO763 := n2_;have BK760 := n3_;have HB := n4_;clear n0_ n1_ n2_ n3_ n4_;(try clear hb);(try clear hb2);(try clear hk);(try clear hi);(try clear ho0);have hcz14_0 := bC0 BK760.out;have hcz14_1 := bC1 BK760.out;have hfz14_0 := blk_frozen BK760.out 0;have hfz14_1 := blk_frozen BK760.out 1) | ((with_reducible refine gate_callee (f := 49) rfl ?_);refine goesL_ (some 46) rfl rfl Try.func49 (by kernel_rfl) rfl #[.agg #[.int .i64 t752, .slice Ao11 t753.length co11], .slice Ao12 t756.length co12, .int .i64 t759] rfl mM ?_;(with_reducible refine (spec_SpreadOf.calls k t752 _ _ t753 _ _ t756 t759 t765 t768 _ ?side1 ?side2 ?side3 ?side4 A6.out).mono ?_);(case side1 => exact cP (Kd.R_reads' HO755.out).2.2);(case side2 => exact (Kd.R_reads' HO755.out).2.1);(case side3 => exact cP (Kd.R_reads' HO758.out).2.2);(case side4 => exact (Kd.R_reads' HO758.out).2.1);rintro e w15 ⟨v766, rfl, ho0, hb⟩;refine ⟨_, rfl, ?_⟩;have n0_ := aM (Kd.R_below (by exact rP HO755.out) hb);have n1_ := aM (Kd.R_elder' (by exact rP HO758.out) (Kd.R_base ho0) hb);have n2_ := aM (Kd.R_elder' (by exact rP HO763.out) (Kd.R_base ho0) hb);have n3_ := aM (Kd.R_lower (Kd.R_new' (Kd.R_new' ho0 (Kd.R_lt (by exact rP HO758.out))) (Kd.R_lt (by exact rP HO763.out))) (below_size (by exact bB)));have n4_ := aM (kB hb BK760.out);have n5_ := aM (below_step (by exact bB) hb);clear HO755;clear HO758;clear HO763;clear BK760;clear HB;have HO755 := n0_;have HO758 := n1_;have HO763 := n2_;have HO767 := n3_;have BK760 := n4_;have HB := n5_;clear n0_ n1_ n2_ n3_ n4_ n5_;(try clear hb);(try clear hb2);(try clear hk);(try clear hi);(try clear ho0)))
 (try simp only [Act.put, List.setIfInBounds_toArray, List.set_cons_zero, List.set_cons_succ])
 go_cut [57] (fun v57 wc => ∃ (kq : Nat) (x57_6 : Bool), v57 = .bool x57_6 ∧ Aside0 (laws_FnSpreading.j0 kq t756 t759 t761 t764 x57_6 t752 t753 = some true) ∧ Aside0 (kq ≤ k) ∧ Aside0 (Kd.R (Kd.int .i64) 3 wc w.heap.size (fun k_ => some k_ ≠ (v762 : Value).ownBlock) (.slice Ao12 t756.length co12) t756) ∧ Aside0 (Kd.R (Kd.int .i64) 3 wc w.heap.size (fun k_ => some k_ ≠ ((.slice Ao12 t756.length co12) : Value).ownBlock) v762 t761) ∧ Aside0 (Kd.R k119 119 wc w.heap.size (fun _ => True) (.slice Ao11 t753.length co11) t753) ∧ Aside0 (wc.heap[gb760]? = some (.cells #[.int .i64 t752, (.slice Ao11 t753.length co11)] 31 (0, 0))) ∧ Aside0 (Below w.heap.size w wc))
 case first =>
  have H := HC7.out
  clear HC7
  by_cases c16 : (t764 != t768) = true
  ·rw [if_pos c16] at H
   have c16b0 : (t764 != t768) = true := c16
   (try (have c16b1 : decide (t764 = t768) = false := by simpa using c16))
   (try (have c16b2 : (t764 == t768) = false := by simpa using c16))
   (try (have c16b3 : ¬ (t764 = t768) := by simpa using c16))
   clear c16
   (first | rw [c16b0] | (simp only [i64_w, i32_w];rw [c16b0]) | skip)
   exact absurd H (by rcases k with _ | k_ <;> simp [laws_FnSpreading.j0])
  rw [if_neg c16] at H
  have c16b0 : (t764 != t768) = false := by simpa using c16
  (try (have c16b1 : decide (t764 = t768) = true := by simpa using c16))
  (try (have c16b2 : (t764 == t768) = true := by simpa using c16))
  clear c16
  (first | rw [c16b0] | (simp only [i64_w, i32_w];rw [c16b0]) | skip)
  replace H := Option.bind_eq_some_iff.mp H
  obtain ⟨t769, A170, H⟩ := H
  replace H : (laws_FnSpreading.j0 k t756 t759 t761 t764 (!t769) t752 t753) = some true := H
  have A17 := Aside0.mk A170
  clear A170
  have H' := Aside0.mk H
  clear H
  obtain ⟨Ao18, co18, eo18⟩ := Kd.R_slice HO763.out
  subst eo18
  obtain ⟨Ao19, co19, eo19⟩ := Kd.R_slice HO767.out
  subst eo19
  go_wp2_with (first | (go_at_call 50;(with_reducible refine (laws_rInts.calls k _ _ t761 _ _ t765 t769 _ ?side1 ?side2 ?side3 ?side4 A17.out).mono ?_);(case side1 => exact cP (Kd.R_reads' HO763.out).2.2);(case side2 => exact (Kd.R_reads' HO763.out).2.1);(case side3 => exact cP (Kd.R_reads' HO767.out).2.2);(case side4 => exact (Kd.R_reads' HO767.out).2.1);rintro e w' ⟨rfl, ⟨nd, rfl⟩⟩))
  go_meet
  case rel => exact ⟨_, (!t769), (by first | rfl | (simp;done) | (simp [*];done)), H', ⟨by first | omega | exact Nat.le_refl _⟩, ⟨by refine rP ?_;exact Kd.R_mono HO758.out (fun _ hk => hk.1.2)⟩, ⟨by refine rP ?_;exact Kd.R_mono HO763.out (fun _ hk => hk.1.2)⟩, ⟨by exact rP HO755.out⟩, ⟨by exact kP BK760.out⟩, ⟨by exact bB⟩⟩
 case rest =>
  clear HC7
  try clear c1
  try clear c2
  try clear p2
  try clear c3
  try clear c4
  try clear c8
  try clear c16
  try clear c16b0
  try clear c16b1
  try clear c16b2
  try clear hcz10_0
  try clear hcz10_1
  try clear hcz14_0
  try clear hcz14_1
  try clear hfz10_0
  try clear hfz10_1
  try clear hfz14_0
  try clear hfz14_1
  obtain ⟨kq, x57_6, rfl, HA, HJ6, HO_4, HO_6, HO_761001, BK760, HB⟩ := hcut
  cases kq with
  | zero => exact absurd HA.out (by simp [laws_FnSpreading.j0])
  | succ kj6 =>
   have H := HA.out
   clear HA
   simp only [laws_FnSpreading.j0] at H
   by_cases c20 : x57_6 = true
   ·subst c20
    have H1 : (some false) = some true := by rw [if_pos rfl] at H;exact H
    clear H
    have H := H1
    clear H1
    exact absurd (Option.some.inj H) (by decide)
   replace c20 := Bool.eq_false_iff.mpr c20
   subst c20
   have H1 : ((impl_IsStopping.f kj6 t752 t753 t756 t759).bind fun bt770 => ((spec_IsStopping.f kj6 t752 t753 t756 t759).bind fun bt772 => (if (bt770.1 != bt772.1) = true then (laws_FnSpreading.j1 kj6 t756 t759 t761 t764 bt770.1 true t752 t753) else (if (bt770.2 != bt772.2) = true then (laws_FnSpreading.j1 kj6 t756 t759 t761 t764 bt770.1 true t752 t753) else (laws_FnSpreading.j1 kj6 t756 t759 t761 t764 bt770.1 (bt770.2 != t764) t752 t753))))) = some true := by rw [if_neg (show ¬ (false = true) by decide)] at H;exact H
   clear H
   have H := H1
   clear H1
   replace H := Option.bind_eq_some_iff.mp H
   obtain ⟨⟨t770, t771⟩, A210, H⟩ := H
   replace H : ((spec_IsStopping.f kj6 t752 t753 t756 t759).bind fun bt772 => (if (t770 != bt772.1) = true then (laws_FnSpreading.j1 kj6 t756 t759 t761 t764 t770 true t752 t753) else (if (t771 != bt772.2) = true then (laws_FnSpreading.j1 kj6 t756 t759 t761 t764 t770 true t752 t753) else (laws_FnSpreading.j1 kj6 t756 t759 t761 t764 t770 (t771 != t764) t752 t753)))) = some true := H
   have A21 := Aside0.mk A210
   clear A210
   replace H := Option.bind_eq_some_iff.mp H
   obtain ⟨⟨t772, t773⟩, A220, H⟩ := H
   replace H : (if (t770 != t772) = true then (laws_FnSpreading.j1 kj6 t756 t759 t761 t764 t770 true t752 t753) else (if (t771 != t773) = true then (laws_FnSpreading.j1 kj6 t756 t759 t761 t764 t770 true t752 t753) else (laws_FnSpreading.j1 kj6 t756 t759 t761 t764 t770 (t771 != t764) t752 t753))) = some true := H
   have A22 := Aside0.mk A220
   clear A220
   have HC23 := Aside0.mk H
   clear H
   have hcz24_0 := bC0 BK760.out
   have hcz24_1 := bC1 BK760.out
   have hfz24_0 := blk_frozen BK760.out 0
   have hfz24_1 := blk_frozen BK760.out 1
   go_upto_region 10 with (first | ((with_reducible refine gate_callee (f := 51) rfl ?_);refine goesL_ (some 62) rfl rfl Try.func51 (by kernel_rfl) rfl #[.agg #[.int .i64 t752, .slice Ao11 t753.length co11], .slice Ao12 t756.length co12, .int .i64 t759] rfl mM ?_;(with_reducible refine (impl_IsStopping.calls kj6 t752 _ _ t753 _ _ t756 t759 t770 t771 _ ?side1 ?side2 ?side3 ?side4 A21.out).mono ?_);(case side1 => exact cP (Kd.R_reads' HO_761001.out).2.2);(case side2 => exact (Kd.R_reads' HO_761001.out).2.1);(case side3 => exact cP (Kd.R_reads' HO_4.out).2.2);(case side4 => exact (Kd.R_reads' HO_4.out).2.1);rintro e w25 ⟨rfl, hb⟩;refine ⟨_, rfl, ?_⟩;have n0_ := aM (Kd.R_below (by exact rP HO_4.out) hb);have n1_ := aM (Kd.R_below (by exact rP HO_6.out) hb);have n2_ := aM (Kd.R_below (by exact rP HO_761001.out) hb);have n3_ := aM (kB hb BK760.out);have n4_ := aM (below_step (by exact bB) hb);clear HO_4;clear HO_6;clear HO_761001;clear BK760;clear HB;have HO_4 := n0_;have HO_6 := n1_;have HO_761001 := n2_;have BK760 := n3_;have HB := n4_;clear n0_ n1_ n2_ n3_ n4_;(try clear hb);(try clear hb2);(try clear hk);(try clear hi);have hcz26_0 := bC0 BK760.out;have hcz26_1 := bC1 BK760.out;have hfz26_0 := blk_frozen BK760.out 0;have hfz26_1 := blk_frozen BK760.out 1) | ((with_reducible refine gate_callee (f := 52) rfl ?_);refine goesL_ (some 69) rfl rfl Try.func52 (by kernel_rfl) rfl #[.agg #[.int .i64 t752, .slice Ao11 t753.length co11], .slice Ao12 t756.length co12, .int .i64 t759] rfl mM ?_;(with_reducible refine (spec_IsStopping.calls kj6 t752 _ _ t753 _ _ t756 t759 t772 t773 _ ?side1 ?side2 ?side3 ?side4 A22.out).mono ?_);(case side1 => exact cP (Kd.R_reads' HO_761001.out).2.2);(case side2 => exact (Kd.R_reads' HO_761001.out).2.1);(case side3 => exact cP (Kd.R_reads' HO_4.out).2.2);(case side4 => exact (Kd.R_reads' HO_4.out).2.1);rintro e w27 ⟨rfl, hb⟩;refine ⟨_, rfl, ?_⟩;have n0_ := aM (Kd.R_below (by exact rP HO_4.out) hb);have n1_ := aM (Kd.R_below (by exact rP HO_6.out) hb);have n2_ := aM (Kd.R_below (by exact rP HO_761001.out) hb);have n3_ := aM (kB hb BK760.out);have n4_ := aM (below_step (by exact bB) hb);clear HO_4;clear HO_6;clear HO_761001;clear BK760;clear HB;have HO_4 := n0_;have HO_6 := n1_;have HO_761001 := n2_;have BK760 := n3_;have HB := n4_;clear n0_ n1_ n2_ n3_ n4_;(try clear hb);(try clear hb2);(try clear hk);(try clear hi)))
   (try simp only [Act.put, List.setIfInBounds_toArray, List.set_cons_zero, List.set_cons_succ])
   go_cut [84] (fun v84 wc => ∃ (kq : Nat) (x84_22 : Bool), v84 = .bool x84_22 ∧ Aside0 (laws_FnSpreading.j1 kq t756 t759 t761 t764 t770 x84_22 t752 t753 = some true) ∧ Aside0 (kq ≤ kj6) ∧ Aside0 (Kd.R (Kd.int .i64) 3 wc w.heap.size (fun k_ => some k_ ≠ (v762 : Value).ownBlock) (.slice Ao12 t756.length co12) t756) ∧ Aside0 (Kd.R (Kd.int .i64) 3 wc w.heap.size (fun k_ => some k_ ≠ ((.slice Ao12 t756.length co12) : Value).ownBlock) v762 t761) ∧ Aside0 (Kd.R k119 119 wc w.heap.size (fun _ => True) (.slice Ao11 t753.length co11) t753) ∧ Aside0 (wc.heap[gb760]? = some (.cells #[.int .i64 t752, (.slice Ao11 t753.length co11)] 31 (0, 0))) ∧ Aside0 (Below w.heap.size w wc))
   case first =>
    have H := HC23.out
    clear HC23
    by_cases c28 : (t770 != t772) = true
    ·rw [if_pos c28] at H
     have c28b0 : (t770 != t772) = true := c28
     (try (have c28b1 : decide (t770 = t772) = false := by simpa using c28))
     (try (have c28b2 : (t770 == t772) = false := by simpa using c28))
     (try (have c28b3 : ¬ (t770 = t772) := by simpa using c28))
     clear c28
     (first | rw [c28b0] | (simp only [i64_w, i32_w];rw [c28b0]) | skip)
     exact absurd H (by rcases kj6 with _ | k_ <;> simp [laws_FnSpreading.j1])
    rw [if_neg c28] at H
    have c28b0 : (t770 != t772) = false := by simpa using c28
    (try (have c28b1 : decide (t770 = t772) = true := by simpa using c28))
    (try (have c28b2 : (t770 == t772) = true := by simpa using c28))
    clear c28
    (first | rw [c28b0] | (simp only [i64_w, i32_w];rw [c28b0]) | skip)
    by_cases c29 : (t771 != t773) = true
    ·rw [if_pos c29] at H
     have c29b0 : (t771 != t773) = true := c29
     (try (have c29b1 : decide (t771 = t773) = false := by simpa using c29))
     (try (have c29b2 : (t771 == t773) = false := by simpa using c29))
     (try (have c29b3 : ¬ (t771 = t773) := by simpa using c29))
     clear c29
     exact absurd H (by rcases kj6 with _ | k_ <;> simp [laws_FnSpreading.j1])
    rw [if_neg c29] at H
    have c29b0 : (t771 != t773) = false := by simpa using c29
    (try (have c29b1 : decide (t771 = t773) = true := by simpa using c29))
    (try (have c29b2 : (t771 == t773) = true := by simpa using c29))
    clear c29
    have H' := Aside0.mk H
    clear H
    go_wp2
    go_meet
    case rel => exact ⟨_, ((t771 != t764)), (by first | rfl | (simp;done) | (simp [*];done)), H', ⟨by have := HJ6.out;first | omega | exact Nat.le_refl _⟩, ⟨by exact rP HO_4.out⟩, ⟨by exact rP HO_6.out⟩, ⟨by exact rP HO_761001.out⟩, ⟨by exact kP BK760.out⟩, ⟨by exact bB⟩⟩
   case rest =>
    clear HC23
    try clear c1
    try clear c2
    try clear p2
    try clear c3
    try clear c4
    try clear c5
    try clear c8
    try clear c16
    try clear c16b0
    try clear c16b1
    try clear c16b2
    try clear c20
    try clear c28
    try clear c28b0
    try clear c28b1
    try clear c28b2
    try clear c29
    try clear c29b0
    try clear c29b1
    try clear c29b2
    try clear hcz10_0
    try clear hcz10_1
    try clear hcz14_0
    try clear hcz14_1
    try clear hcz24_0
    try clear hcz24_1
    try clear hcz26_0
    try clear hcz26_1
    try clear hfz10_0
    try clear hfz10_1
    try clear hfz14_0
    try clear hfz14_1
    try clear hfz24_0
    try clear hfz24_1
    try clear hfz26_0
    try clear hfz26_1
    try clear p2
    obtain ⟨kq, x84_22, rfl, HA, HJ22, HO_4, HO_6, HO_761001, BK760, HB⟩ := hcut
    cases kq with
    | zero => exact absurd HA.out (by simp [laws_FnSpreading.j1])
    | succ kj22 =>
     have H := HA.out
     clear HA
     simp only [laws_FnSpreading.j1] at H
     by_cases c30 : x84_22 = true
     ·subst c30
      have H1 : (some false) = some true := by rw [if_pos rfl] at H;exact H
      clear H
      have H := H1
      clear H1
      exact absurd (Option.some.inj H) (by decide)
     replace c30 := Bool.eq_false_iff.mpr c30
     subst c30
     have H1 : ((impl_LeastSpreading.f kj22 t752 t753 t759).bind fun bt774 => ((spec_LeastSpreading.f kj22 t752 t753 t759).bind fun bt778 => (if (bt774.2 != bt778.2) = true then (laws_FnSpreading.j2 kj22 t756 t759 t761 t764 t770 bt774.1 bt774.2 true t752 t753) else ((laws_rInts.f kj22 bt774.1 bt778.1).bind fun t782 => (laws_FnSpreading.j2 kj22 t756 t759 t761 t764 t770 bt774.1 bt774.2 (!t782) t752 t753))))) = some true := by rw [if_neg (show ¬ (false = true) by decide)] at H;exact H
     clear H
     have H := H1
     clear H1
     replace H := Option.bind_eq_some_iff.mp H
     obtain ⟨⟨t774, t777⟩, A310, H⟩ := H
     replace H : ((spec_LeastSpreading.f kj22 t752 t753 t759).bind fun bt778 => (if (t777 != bt778.2) = true then (laws_FnSpreading.j2 kj22 t756 t759 t761 t764 t770 t774 t777 true t752 t753) else ((laws_rInts.f kj22 t774 bt778.1).bind fun t782 => (laws_FnSpreading.j2 kj22 t756 t759 t761 t764 t770 t774 t777 (!t782) t752 t753)))) = some true := H
     have A31 := Aside0.mk A310
     clear A310
     replace H := Option.bind_eq_some_iff.mp H
     obtain ⟨⟨t778, t781⟩, A320, H⟩ := H
     replace H : (if (t777 != t781) = true then (laws_FnSpreading.j2 kj22 t756 t759 t761 t764 t770 t774 t777 true t752 t753) else ((laws_rInts.f kj22 t774 t778).bind fun t782 => (laws_FnSpreading.j2 kj22 t756 t759 t761 t764 t770 t774 t777 (!t782) t752 t753))) = some true := H
     have A32 := Aside0.mk A320
     clear A320
     have HC33 := Aside0.mk H
     clear H
     have hcz34_0 := bC0 BK760.out
     have hcz34_1 := bC1 BK760.out
     have hfz34_0 := blk_frozen BK760.out 0
     have hfz34_1 := blk_frozen BK760.out 1
     go_upto_region 14 with (first | ((with_reducible refine gate_callee (f := 53) rfl ?_);refine goesL_ (some 88) rfl rfl Try.func53 (by kernel_rfl) rfl #[.agg #[.int .i64 t752, .slice Ao11 t753.length co11], .int .i64 t759] rfl mM ?_;(with_reducible refine (impl_LeastSpreading.calls kj22 t752 _ _ t753 t759 t774 t777 _ ?side1 ?side2 A31.out).mono ?_);(case side1 => exact cP (Kd.R_reads' HO_761001.out).2.2);(case side2 => exact (Kd.R_reads' HO_761001.out).2.1);rintro e w35 ⟨v775, rfl, ho0, hb⟩;refine ⟨_, rfl, ?_⟩;have n0_ := aM (Kd.R_elder' (by exact rP HO_4.out) (Kd.R_base ho0) hb);have n1_ := aM (Kd.R_elder' (by exact rP HO_6.out) (Kd.R_base ho0) hb);have n2_ := aM (Kd.R_below (by exact rP HO_761001.out) hb);have n3_ := aM (Kd.R_lower (Kd.R_new' (Kd.R_new' ho0 (Kd.R_lt (by exact rP HO_4.out))) (Kd.R_lt (by exact rP HO_6.out))) (below_size (by exact bB)));have n4_ := aM (kB hb BK760.out);have n5_ := aM (below_step (by exact bB) hb);clear HO_4;clear HO_6;clear HO_761001;clear BK760;clear HB;have HO_4 := n0_;have HO_6 := n1_;have HO_761001 := n2_;have HO776 := n3_;have BK760 := n4_;have HB := n5_;clear n0_ n1_ n2_ n3_ n4_ n5_;(try clear hb);(try clear hb2);(try clear hk);(try clear hi);(try clear ho0);have hcz36_0 := bC0 BK760.out;have hcz36_1 := bC1 BK760.out;have hfz36_0 := blk_frozen BK760.out 0;have hfz36_1 := blk_frozen BK760.out 1) | ((with_reducible refine gate_callee (f := 54) rfl ?_);refine goesL_ (some 94) rfl rfl Try.func54 (by kernel_rfl) rfl #[.agg #[.int .i64 t752, .slice Ao11 t753.length co11], .int .i64 t759] rfl mM ?_;(with_reducible refine (spec_LeastSpreading.calls kj22 t752 _ _ t753 t759 t778 t781 _ ?side1 ?side2 A32.out).mono ?_);(case side1 => exact cP (Kd.R_reads' HO_761001.out).2.2);(case side2 => exact (Kd.R_reads' HO_761001.out).2.1);rintro e w37 ⟨v779, rfl, ho0, hb⟩;refine ⟨_, rfl, ?_⟩;have n0_ := aM (Kd.R_elder' (by exact rP HO_4.out) (Kd.R_base ho0) hb);have n1_ := aM (Kd.R_elder' (by exact rP HO_6.out) (Kd.R_base ho0) hb);have n2_ := aM (Kd.R_below (by exact rP HO_761001.out) hb);have n3_ := aM (Kd.R_elder' (by exact rP HO776.out) (Kd.R_base ho0) hb);have n4_ := aM (Kd.R_lower (Kd.R_new' (Kd.R_new' (Kd.R_new' ho0 (Kd.R_lt (by exact rP HO_4.out))) (Kd.R_lt (by exact rP HO_6.out))) (Kd.R_lt (by exact rP HO776.out))) (below_size (by exact bB)));have n5_ := aM (kB hb BK760.out);have n6_ := aM (below_step (by exact bB) hb);clear HO_4;clear HO_6;clear HO_761001;clear HO776;clear BK760;clear HB;have HO_4 := n0_;have HO_6 := n1_;have HO_761001 := n2_;have HO776 := n3_;have HO780 := n4_;have BK760 := n5_;have HB := n6_;clear n0_ n1_ n2_ n3_ n4_ n5_ n6_;(try clear hb);(try clear hb2);(try clear hk);(try clear hi);(try clear ho0)))
     (try simp only [Act.put, List.setIfInBounds_toArray, List.set_cons_zero, List.set_cons_succ])
     go_cut [105] (fun v105 wc => ∃ (kq : Nat) (x105_32 : Bool), v105 = .bool x105_32 ∧ Aside0 (laws_FnSpreading.j2 kq t756 t759 t761 t764 t770 t774 t777 x105_32 t752 t753 = some true) ∧ Aside0 (kq ≤ kj22) ∧ Aside0 (Kd.R (Kd.int .i64) 3 wc w.heap.size (fun k_ => some k_ ≠ (v762 : Value).ownBlock ∧ some k_ ≠ (v775 : Value).ownBlock) (.slice Ao12 t756.length co12) t756) ∧ Aside0 (Kd.R (Kd.int .i64) 3 wc w.heap.size (fun k_ => some k_ ≠ ((.slice Ao12 t756.length co12) : Value).ownBlock ∧ some k_ ≠ (v775 : Value).ownBlock) v762 t761) ∧ Aside0 (Kd.R (Kd.int .i64) 3 wc w.heap.size (fun k_ => some k_ ≠ ((.slice Ao12 t756.length co12) : Value).ownBlock ∧ some k_ ≠ (v762 : Value).ownBlock) v775 t774) ∧ Aside0 (Kd.R k119 119 wc w.heap.size (fun _ => True) (.slice Ao11 t753.length co11) t753) ∧ Aside0 (wc.heap[gb760]? = some (.cells #[.int .i64 t752, (.slice Ao11 t753.length co11)] 31 (0, 0))) ∧ Aside0 (Below w.heap.size w wc))
     case first =>
      have H := HC33.out
      clear HC33
      by_cases c38 : (t777 != t781) = true
      ·rw [if_pos c38] at H
       have c38b0 : (t777 != t781) = true := c38
       (try (have c38b1 : decide (t777 = t781) = false := by simpa using c38))
       (try (have c38b2 : (t777 == t781) = false := by simpa using c38))
       (try (have c38b3 : ¬ (t777 = t781) := by simpa using c38))
       clear c38
       (first | rw [c38b0] | (simp only [i64_w, i32_w];rw [c38b0]) | skip)
       exact absurd H (by rcases kj22 with _ | k_ <;> simp [laws_FnSpreading.j2])
      rw [if_neg c38] at H
      have c38b0 : (t777 != t781) = false := by simpa using c38
      (try (have c38b1 : decide (t777 = t781) = true := by simpa using c38))
      (try (have c38b2 : (t777 == t781) = true := by simpa using c38))
      clear c38
      (first | rw [c38b0] | (simp only [i64_w, i32_w];rw [c38b0]) | skip)
      replace H := Option.bind_eq_some_iff.mp H
      obtain ⟨t782, A390, H⟩ := H
      replace H : (laws_FnSpreading.j2 kj22 t756 t759 t761 t764 t770 t774 t777 (!t782) t752 t753) = some true := H
      have A39 := Aside0.mk A390
      clear A390
      have H' := Aside0.mk H
      clear H
      obtain ⟨Ao40, co40, eo40⟩ := Kd.R_slice HO776.out
      subst eo40
      obtain ⟨Ao41, co41, eo41⟩ := Kd.R_slice HO780.out
      subst eo41
      go_wp2_with (first | (go_at_call 50;(with_reducible refine (laws_rInts.calls kj22 _ _ t774 _ _ t778 t782 _ ?side1 ?side2 ?side3 ?side4 A39.out).mono ?_);(case side1 => exact cP (Kd.R_reads' HO776.out).2.2);(case side2 => exact (Kd.R_reads' HO776.out).2.1);(case side3 => exact cP (Kd.R_reads' HO780.out).2.2);(case side4 => exact (Kd.R_reads' HO780.out).2.1);rintro e w' ⟨rfl, ⟨nd, rfl⟩⟩))
      go_meet
      case rel => exact ⟨_, (!t782), (by first | rfl | (simp;done) | (simp [*];done)), H', ⟨by have := HJ6.out;have := HJ22.out;first | omega | exact Nat.le_refl _⟩, ⟨by refine rP ?_;exact Kd.R_mono HO_4.out (fun _ hk => ⟨hk.1.1, hk.1.2⟩)⟩, ⟨by refine rP ?_;exact Kd.R_mono HO_6.out (fun _ hk => ⟨hk.1.1, hk.1.2⟩)⟩, ⟨by refine rP ?_;exact Kd.R_mono HO776.out (fun _ hk => ⟨hk.1.1.2, hk.1.2⟩)⟩, ⟨by exact rP HO_761001.out⟩, ⟨by exact kP BK760.out⟩, ⟨by exact bB⟩⟩
     case rest =>
      clear HC33
      try clear c1
      try clear c2
      try clear p2
      try clear c3
      try clear c4
      try clear c5
      try clear c8
      try clear c16
      try clear c16b0
      try clear c16b1
      try clear c16b2
      try clear c20
      try clear c28
      try clear c28b0
      try clear c28b1
      try clear c28b2
      try clear c29
      try clear c29b0
      try clear c29b1
      try clear c29b2
      try clear c30
      try clear c38
      try clear c38b0
      try clear c38b1
      try clear c38b2
      try clear hcz10_0
      try clear hcz10_1
      try clear hcz14_0
      try clear hcz14_1
      try clear hcz24_0
      try clear hcz24_1
      try clear hcz26_0
      try clear hcz26_1
      try clear hcz34_0
      try clear hcz34_1
      try clear hcz36_0
      try clear hcz36_1
      try clear hfz10_0
      try clear hfz10_1
      try clear hfz14_0
      try clear hfz14_1
      try clear hfz24_0
      try clear hfz24_1
      try clear hfz26_0
      try clear hfz26_1
      try clear hfz34_0
      try clear hfz34_1
      try clear hfz36_0
      try clear hfz36_1
      try clear p2
      obtain ⟨kq, x105_32, rfl, HA, HJ32, HO_4, HO_6, HO_14, HO_761001, BK760, HB⟩ := hcut
      cases kq with
      | zero => exact absurd HA.out (by simp [laws_FnSpreading.j2])
      | succ kj32 =>
       have H := HA.out
       clear HA
       simp only [laws_FnSpreading.j2] at H
       by_cases c42 : x105_32 = true
       ·subst c42
        have H1 : (some false) = some true := by rw [if_pos rfl] at H;exact H
        clear H
        have H := H1
        clear H1
        exact absurd (Option.some.inj H) (by decide)
       replace c42 := Bool.eq_false_iff.mpr c42
       subst c42
       have H1 : (if t764 = true then ((impl_SpreadOf.f kj32 t752 t753 t761 t759).bind fun bt783 => ((impl_SpreadOf.f kj32 t752 t753 t774 t759).bind fun bt787 => (if bt783.2 = true then (if bt787.2 = true then (if t777 = true then ((laws_rInts.f kj32 bt783.1 t761).bind fun t791 => (if t791 = true then (if (bt787.1.length : Int) = t752 then ((laws_rPart.f kj32 t756 t761).bind fun t792 => (laws_FnSpreading.j3 kj32 t756 t759 t761 t770 t774 (!t792) t752 t753)) else (laws_FnSpreading.j3 kj32 t756 t759 t761 t770 t774 true t752 t753)) else (laws_FnSpreading.j3 kj32 t756 t759 t761 t770 t774 true t752 t753))) else (laws_FnSpreading.j3 kj32 t756 t759 t761 t770 t774 true t752 t753)) else (laws_FnSpreading.j3 kj32 t756 t759 t761 t770 t774 true t752 t753)) else (laws_FnSpreading.j3 kj32 t756 t759 t761 t770 t774 true t752 t753)))) else (some true)) = some true := by rw [if_neg (show ¬ (false = true) by decide)] at H;exact H
       clear H
       have H := H1
       clear H1
       by_cases c43 : t764 = true
       rotate_left
       ·replace c43 := Bool.eq_false_iff.mpr c43
        subst c43
        have H1 : (some true) = some true := rfl
        clear H
        have H := H1
        clear H1
        clear H
        go_wp2
        go_ret
        exact ⟨by first | rfl | (simp [errW_none, errW_some] <;> rfl) | (simp [*, errW_none, errW_some] <;> rfl), by exact bB⟩
       subst c43
       have H1 : ((impl_SpreadOf.f kj32 t752 t753 t761 t759).bind fun bt783 => ((impl_SpreadOf.f kj32 t752 t753 t774 t759).bind fun bt787 => (if bt783.2 = true then (if bt787.2 = true then (if t777 = true then ((laws_rInts.f kj32 bt783.1 t761).bind fun t791 => (if t791 = true then (if (bt787.1.length : Int) = t752 then ((laws_rPart.f kj32 t756 t761).bind fun t792 => (laws_FnSpreading.j3 kj32 t756 t759 t761 t770 t774 (!t792) t752 t753)) else (laws_FnSpreading.j3 kj32 t756 t759 t761 t770 t774 true t752 t753)) else (laws_FnSpreading.j3 kj32 t756 t759 t761 t770 t774 true t752 t753))) else (laws_FnSpreading.j3 kj32 t756 t759 t761 t770 t774 true t752 t753)) else (laws_FnSpreading.j3 kj32 t756 t759 t761 t770 t774 true t752 t753)) else (laws_FnSpreading.j3 kj32 t756 t759 t761 t770 t774 true t752 t753)))) = some true := by rw [if_pos rfl] at H;exact H
       clear H
       have H := H1
       clear H1
       replace H := Option.bind_eq_some_iff.mp H
       obtain ⟨⟨t783, t786⟩, A440, H⟩ := H
       replace H : ((impl_SpreadOf.f kj32 t752 t753 t774 t759).bind fun bt787 => (if t786 = true then (if bt787.2 = true then (if t777 = true then ((laws_rInts.f kj32 t783 t761).bind fun t791 => (if t791 = true then (if (bt787.1.length : Int) = t752 then ((laws_rPart.f kj32 t756 t761).bind fun t792 => (laws_FnSpreading.j3 kj32 t756 t759 t761 t770 t774 (!t792) t752 t753)) else (laws_FnSpreading.j3 kj32 t756 t759 t761 t770 t774 true t752 t753)) else (laws_FnSpreading.j3 kj32 t756 t759 t761 t770 t774 true t752 t753))) else (laws_FnSpreading.j3 kj32 t756 t759 t761 t770 t774 true t752 t753)) else (laws_FnSpreading.j3 kj32 t756 t759 t761 t770 t774 true t752 t753)) else (laws_FnSpreading.j3 kj32 t756 t759 t761 t770 t774 true t752 t753))) = some true := H
       have A44 := Aside0.mk A440
       clear A440
       replace H := Option.bind_eq_some_iff.mp H
       obtain ⟨⟨t787, t790⟩, A450, H⟩ := H
       replace H : (if t786 = true then (if t790 = true then (if t777 = true then ((laws_rInts.f kj32 t783 t761).bind fun t791 => (if t791 = true then (if (t787.length : Int) = t752 then ((laws_rPart.f kj32 t756 t761).bind fun t792 => (laws_FnSpreading.j3 kj32 t756 t759 t761 t770 t774 (!t792) t752 t753)) else (laws_FnSpreading.j3 kj32 t756 t759 t761 t770 t774 true t752 t753)) else (laws_FnSpreading.j3 kj32 t756 t759 t761 t770 t774 true t752 t753))) else (laws_FnSpreading.j3 kj32 t756 t759 t761 t770 t774 true t752 t753)) else (laws_FnSpreading.j3 kj32 t756 t759 t761 t770 t774 true t752 t753)) else (laws_FnSpreading.j3 kj32 t756 t759 t761 t770 t774 true t752 t753)) = some true := H
       have A45 := Aside0.mk A450
       clear A450
       have HC46 := Aside0.mk H
       clear H
       have hcz47_0 := bC0 BK760.out
       have hcz47_1 := bC1 BK760.out
       have hfz47_0 := blk_frozen BK760.out 0
       have hfz47_1 := blk_frozen BK760.out 1
       obtain ⟨Ao48, co48, eo48⟩ := Kd.R_slice HO_6.out
       subst eo48
       go_upto_region 20 with (first | ((with_reducible refine gate_callee (f := 48) rfl ?_);refine goesL_ (some 112) rfl rfl Try.func48 (by kernel_rfl) rfl #[.agg #[.int .i64 t752, .slice Ao11 t753.length co11], .slice Ao48 t761.length co48, .int .i64 t759] rfl mM ?_;(with_reducible refine (impl_SpreadOf.calls kj32 t752 _ _ t753 _ _ t761 t759 t783 t786 _ ?side1 ?side2 ?side3 ?side4 A44.out).mono ?_);(case side1 => exact cP (Kd.R_reads' HO_761001.out).2.2);(case side2 => exact (Kd.R_reads' HO_761001.out).2.1);(case side3 => exact cP (Kd.R_reads' HO_6.out).2.2);(case side4 => exact (Kd.R_reads' HO_6.out).2.1);rintro e w49 ⟨v784, rfl, ho0, hb⟩;refine ⟨_, rfl, ?_⟩;have n0_ := aM (Kd.R_elder' (by exact rP HO_4.out) (Kd.R_base ho0) hb);have n1_ := aM (Kd.R_elder' (by exact rP HO_6.out) (Kd.R_base ho0) hb);have n2_ := aM (Kd.R_elder' (by exact rP HO_14.out) (Kd.R_base ho0) hb);have n3_ := aM (Kd.R_below (by exact rP HO_761001.out) hb);have n4_ := aM (Kd.R_lower (Kd.R_new' (Kd.R_new' (Kd.R_new' ho0 (Kd.R_lt (by exact rP HO_4.out))) (Kd.R_lt (by exact rP HO_6.out))) (Kd.R_lt (by exact rP HO_14.out))) (below_size (by exact bB)));have n5_ := aM (kB hb BK760.out);have n6_ := aM (below_step (by exact bB) hb);clear HO_4;clear HO_6;clear HO_14;clear HO_761001;clear BK760;clear HB;have HO_4 := n0_;have HO_6 := n1_;have HO_14 := n2_;have HO_761001 := n3_;have HO785 := n4_;have BK760 := n5_;have HB := n6_;clear n0_ n1_ n2_ n3_ n4_ n5_ n6_;(try clear hb);(try clear hb2);(try clear hk);(try clear hi);(try clear ho0);have hcz50_0 := bC0 BK760.out;have hcz50_1 := bC1 BK760.out;have hfz50_0 := blk_frozen BK760.out 0;have hfz50_1 := blk_frozen BK760.out 1;obtain ⟨Ao51, co51, eo51⟩ := Kd.R_slice HO_14.out;subst eo51) | ((with_reducible refine gate_callee (f := 48) rfl ?_);refine goesL_ (some 119) rfl rfl Try.func48 (by kernel_rfl) rfl #[.agg #[.int .i64 t752, .slice Ao11 t753.length co11], .slice Ao51 t774.length co51, .int .i64 t759] rfl mM ?_;(with_reducible refine (impl_SpreadOf.calls kj32 t752 _ _ t753 _ _ t774 t759 t787 t790 _ ?side1 ?side2 ?side3 ?side4 A45.out).mono ?_);(case side1 => exact cP (Kd.R_reads' HO_761001.out).2.2);(case side2 => exact (Kd.R_reads' HO_761001.out).2.1);(case side3 => exact cP (Kd.R_reads' HO_14.out).2.2);(case side4 => exact (Kd.R_reads' HO_14.out).2.1);rintro e w52 ⟨v788, rfl, ho0, hb⟩;refine ⟨_, rfl, ?_⟩;have n0_ := aM (Kd.R_elder' (by exact rP HO_4.out) (Kd.R_base ho0) hb);have n1_ := aM (Kd.R_elder' (by exact rP HO_6.out) (Kd.R_base ho0) hb);have n2_ := aM (Kd.R_elder' (by exact rP HO_14.out) (Kd.R_base ho0) hb);have n3_ := aM (Kd.R_below (by exact rP HO_761001.out) hb);have n4_ := aM (Kd.R_elder' (by exact rP HO785.out) (Kd.R_base ho0) hb);have n5_ := aM (Kd.R_lower (Kd.R_new' (Kd.R_new' (Kd.R_new' (Kd.R_new' ho0 (Kd.R_lt (by exact rP HO_4.out))) (Kd.R_lt (by exact rP HO_6.out))) (Kd.R_lt (by exact rP HO_14.out))) (Kd.R_lt (by exact rP HO785.out))) (below_size (by exact bB)));have n6_ := aM (kB hb BK760.out);have n7_ := aM (below_step (by exact bB) hb);clear HO_4;clear HO_6;clear HO_14;clear HO_761001;clear HO785;clear BK760;clear HB;have HO_4 := n0_;have HO_6 := n1_;have HO_14 := n2_;have HO_761001 := n3_;have HO785 := n4_;have HO789 := n5_;have BK760 := n6_;have HB := n7_;clear n0_ n1_ n2_ n3_ n4_ n5_ n6_ n7_;(try clear hb);(try clear hb2);(try clear hk);(try clear hi);(try clear ho0)))
       (try simp only [Act.put, List.setIfInBounds_toArray, List.set_cons_zero, List.set_cons_succ])
       go_cut [150] (fun v150 wc => ∃ (kq : Nat) (x150_45 : Bool), v150 = .bool x150_45 ∧ Aside0 (laws_FnSpreading.j3 kq t756 t759 t761 t770 t774 x150_45 t752 t753 = some true) ∧ Aside0 (kq ≤ kj32) ∧ Aside0 (Kd.R (Kd.int .i64) 3 wc w.heap.size (fun k_ => some k_ ≠ ((.slice Ao48 t761.length co48) : Value).ownBlock ∧ some k_ ≠ ((.slice Ao51 t774.length co51) : Value).ownBlock) (.slice Ao12 t756.length co12) t756) ∧ Aside0 (Kd.R (Kd.int .i64) 3 wc w.heap.size (fun k_ => some k_ ≠ ((.slice Ao12 t756.length co12) : Value).ownBlock ∧ some k_ ≠ ((.slice Ao51 t774.length co51) : Value).ownBlock) (.slice Ao48 t761.length co48) t761) ∧ Aside0 (Kd.R (Kd.int .i64) 3 wc w.heap.size (fun k_ => some k_ ≠ ((.slice Ao12 t756.length co12) : Value).ownBlock ∧ some k_ ≠ ((.slice Ao48 t761.length co48) : Value).ownBlock) (.slice Ao51 t774.length co51) t774) ∧ Aside0 (Kd.R k119 119 wc w.heap.size (fun _ => True) (.slice Ao11 t753.length co11) t753) ∧ Aside0 (wc.heap[gb760]? = some (.cells #[.int .i64 t752, (.slice Ao11 t753.length co11)] 31 (0, 0))) ∧ Aside0 (Below w.heap.size w wc))
       case first =>
        have H := HC46.out
        clear HC46
        by_cases c53 : t786 = true
        rotate_left
        ·replace c53 := Bool.eq_false_iff.mpr c53
         subst c53
         have H1 : (laws_FnSpreading.j3 kj32 t756 t759 t761 t770 t774 true t752 t753) = some true := by rw [if_neg (show ¬ (false = true) by decide)] at H;exact H
         clear H
         have H := H1
         clear H1
         exact absurd H (by rcases kj32 with _ | k_ <;> simp [laws_FnSpreading.j3])
        subst c53
        have H1 : (if t790 = true then (if t777 = true then ((laws_rInts.f kj32 t783 t761).bind fun t791 => (if t791 = true then (if (t787.length : Int) = t752 then ((laws_rPart.f kj32 t756 t761).bind fun t792 => (laws_FnSpreading.j3 kj32 t756 t759 t761 t770 t774 (!t792) t752 t753)) else (laws_FnSpreading.j3 kj32 t756 t759 t761 t770 t774 true t752 t753)) else (laws_FnSpreading.j3 kj32 t756 t759 t761 t770 t774 true t752 t753))) else (laws_FnSpreading.j3 kj32 t756 t759 t761 t770 t774 true t752 t753)) else (laws_FnSpreading.j3 kj32 t756 t759 t761 t770 t774 true t752 t753)) = some true := by rw [if_pos rfl] at H;exact H
        clear H
        have H := H1
        clear H1
        by_cases c54 : t790 = true
        rotate_left
        ·replace c54 := Bool.eq_false_iff.mpr c54
         subst c54
         have H1 : (laws_FnSpreading.j3 kj32 t756 t759 t761 t770 t774 true t752 t753) = some true := by rw [if_neg (show ¬ (false = true) by decide)] at H;exact H
         clear H
         have H := H1
         clear H1
         exact absurd H (by rcases kj32 with _ | k_ <;> simp [laws_FnSpreading.j3])
        subst c54
        have H1 : (if t777 = true then ((laws_rInts.f kj32 t783 t761).bind fun t791 => (if t791 = true then (if (t787.length : Int) = t752 then ((laws_rPart.f kj32 t756 t761).bind fun t792 => (laws_FnSpreading.j3 kj32 t756 t759 t761 t770 t774 (!t792) t752 t753)) else (laws_FnSpreading.j3 kj32 t756 t759 t761 t770 t774 true t752 t753)) else (laws_FnSpreading.j3 kj32 t756 t759 t761 t770 t774 true t752 t753))) else (laws_FnSpreading.j3 kj32 t756 t759 t761 t770 t774 true t752 t753)) = some true := by rw [if_pos rfl] at H;exact H
        clear H
        have H := H1
        clear H1
        by_cases c55 : t777 = true
        rotate_left
        ·replace c55 := Bool.eq_false_iff.mpr c55
         subst c55
         have H1 : (laws_FnSpreading.j3 kj32 t756 t759 t761 t770 t774 true t752 t753) = some true := by rw [if_neg (show ¬ (false = true) by decide)] at H;exact H
         clear H
         have H := H1
         clear H1
         exact absurd H (by rcases kj32 with _ | k_ <;> simp [laws_FnSpreading.j3])
        subst c55
        have H1 : ((laws_rInts.f kj32 t783 t761).bind fun t791 => (if t791 = true then (if (t787.length : Int) = t752 then ((laws_rPart.f kj32 t756 t761).bind fun t792 => (laws_FnSpreading.j3 kj32 t756 t759 t761 t770 t774 (!t792) t752 t753)) else (laws_FnSpreading.j3 kj32 t756 t759 t761 t770 t774 true t752 t753)) else (laws_FnSpreading.j3 kj32 t756 t759 t761 t770 t774 true t752 t753))) = some true := by rw [if_pos rfl] at H;exact H
        clear H
        have H := H1
        clear H1
        replace H := Option.bind_eq_some_iff.mp H
        obtain ⟨t791, A560, H⟩ := H
        replace H : (if t791 = true then (if (t787.length : Int) = t752 then ((laws_rPart.f kj32 t756 t761).bind fun t792 => (laws_FnSpreading.j3 kj32 t756 t759 t761 t770 t774 (!t792) t752 t753)) else (laws_FnSpreading.j3 kj32 t756 t759 t761 t770 t774 true t752 t753)) else (laws_FnSpreading.j3 kj32 t756 t759 t761 t770 t774 true t752 t753)) = some true := H
        have A56 := Aside0.mk A560
        clear A560
        by_cases c57 : t791 = true
        rotate_left
        ·replace c57 := Bool.eq_false_iff.mpr c57
         subst c57
         have H1 : (laws_FnSpreading.j3 kj32 t756 t759 t761 t770 t774 true t752 t753) = some true := by rw [if_neg (show ¬ (false = true) by decide)] at H;exact H
         clear H
         have H := H1
         clear H1
         exact absurd H (by rcases kj32 with _ | k_ <;> simp [laws_FnSpreading.j3])
        subst c57
        have H1 : (if (t787.length : Int) = t752 then ((laws_rPart.f kj32 t756 t761).bind fun t792 => (laws_FnSpreading.j3 kj32 t756 t759 t761 t770 t774 (!t792) t752 t753)) else (laws_FnSpreading.j3 kj32 t756 t759 t761 t770 t774 true t752 t753)) = some true := by rw [if_pos rfl] at H;exact H
        clear H
        have H := H1
        clear H1
        by_cases c58 : (t787.length : Int) = t752
        rotate_left
        ·rw [if_neg c58] at H
         have c58b0 : ((t787.length : Int) == t752) = false := beq_eq_false_iff_ne.mpr c58
         have c58b1 : ((t787.length : Int) != t752) = true := bne_iff_ne.mpr c58
         (first | rw [c58b0] | (simp only [i64_w, i32_w];rw [c58b0]) | skip)
         exact absurd H (by rcases kj32 with _ | k_ <;> simp [laws_FnSpreading.j3])
        rw [if_pos c58] at H
        have c58b0 : ((t787.length : Int) == t752) = true := beq_iff_eq.mpr c58
        have c58b1 : ((t787.length : Int) != t752) = false := bne_eq_false_iff_eq.mpr c58
        clear c58
        (first | rw [c58b0] | (simp only [i64_w, i32_w];rw [c58b0]) | skip)
        replace H := Option.bind_eq_some_iff.mp H
        obtain ⟨t792, A590, H⟩ := H
        replace H : (laws_FnSpreading.j3 kj32 t756 t759 t761 t770 t774 (!t792) t752 t753) = some true := H
        have A59 := Aside0.mk A590
        clear A590
        have H' := Aside0.mk H
        clear H
        obtain ⟨Ao60, co60, eo60⟩ := Kd.R_slice HO785.out
        subst eo60
        go_wp2_with (first | (go_at_call 50;(with_reducible refine (laws_rInts.calls kj32 _ _ t783 _ _ t761 true _ ?side1 ?side2 ?side3 ?side4 A56.out).mono ?_);(case side1 => exact cP (Kd.R_reads' HO785.out).2.2);(case side2 => exact (Kd.R_reads' HO785.out).2.1);(case side3 => exact cP (Kd.R_reads' HO_6.out).2.2);(case side4 => exact (Kd.R_reads' HO_6.out).2.1);rintro e w' ⟨rfl, ⟨nd, rfl⟩⟩;obtain ⟨Ao61, co61, eo61⟩ := Kd.R_slice HO789.out;subst eo61;have hcz62_0 := bC0 BK760.out;have hcz62_1 := bC1 BK760.out;have hfz62_0 := blk_frozen BK760.out 0;have hfz62_1 := blk_frozen BK760.out 1) | (go_at_call 55;(with_reducible refine (laws_rPart.calls kj32 _ _ t756 _ _ t761 t792 _ ?side1 ?side2 ?side3 ?side4 A59.out).mono ?_);(case side1 => exact cP (Kd.R_reads' HO_4.out).2.2);(case side2 => exact (Kd.R_reads' HO_4.out).2.1);(case side3 => exact cP (Kd.R_reads' HO_6.out).2.2);(case side4 => exact (Kd.R_reads' HO_6.out).2.1);rintro e w' ⟨rfl, ⟨nd, rfl⟩⟩))
        go_meet
        case rel => exact ⟨_, (!t792), (by first | rfl | (simp;done) | (simp [*];done)), H', ⟨by have := HJ6.out;have := HJ22.out;have := HJ32.out;first | omega | exact Nat.le_refl _⟩, ⟨by refine rP ?_;exact Kd.R_mono HO_4.out (fun _ hk => ⟨hk.1.1.1, hk.1.1.2⟩)⟩, ⟨by refine rP ?_;exact Kd.R_mono HO_6.out (fun _ hk => ⟨hk.1.1.1, hk.1.1.2⟩)⟩, ⟨by refine rP ?_;exact Kd.R_mono HO_14.out (fun _ hk => ⟨hk.1.1.1, hk.1.1.2⟩)⟩, ⟨by exact rP HO_761001.out⟩, ⟨by exact kP BK760.out⟩, ⟨by exact bB⟩⟩
       case rest =>
        clear HC46
        try clear c1
        try clear c2
        try clear p2
        try clear c3
        try clear c4
        try clear c5
        try clear c8
        try clear c16
        try clear c16b0
        try clear c16b1
        try clear c16b2
        try clear c20
        try clear c28
        try clear c28b0
        try clear c28b1
        try clear c28b2
        try clear c29
        try clear c29b0
        try clear c29b1
        try clear c29b2
        try clear c30
        try clear c38
        try clear c38b0
        try clear c38b1
        try clear c38b2
        try clear c42
        try clear c43
        try clear c47
        try clear c48
        try clear c49
        try clear c51
        try clear c52
        try clear c53
        try clear c54
        try clear c55
        try clear c57
        try clear c58
        try clear c58b0
        try clear c58b1
        try clear hcz10_0
        try clear hcz10_1
        try clear hcz14_0
        try clear hcz14_1
        try clear hcz24_0
        try clear hcz24_1
        try clear hcz26_0
        try clear hcz26_1
        try clear hcz34_0
        try clear hcz34_1
        try clear hcz36_0
        try clear hcz36_1
        try clear hcz47_0
        try clear hcz47_1
        try clear hcz50_0
        try clear hcz50_1
        try clear hcz62_0
        try clear hcz62_1
        try clear hcz65_0
        try clear hcz65_1
        try clear hfz10_0
        try clear hfz10_1
        try clear hfz14_0
        try clear hfz14_1
        try clear hfz24_0
        try clear hfz24_1
        try clear hfz26_0
        try clear hfz26_1
        try clear hfz34_0
        try clear hfz34_1
        try clear hfz36_0
        try clear hfz36_1
        try clear hfz47_0
        try clear hfz47_1
        try clear hfz50_0
        try clear hfz50_1
        try clear hfz62_0
        try clear hfz62_1
        try clear hfz65_0
        try clear hfz65_1
        try clear p2
        obtain ⟨kq, x150_45, rfl, HA, HJ45, HO_4, HO_6, HO_14, HO_761001, BK760, HB⟩ := hcut
        cases kq with
        | zero => exact absurd HA.out (by simp [laws_FnSpreading.j3])
        | succ kj45 =>
         have H := HA.out
         clear HA
         simp only [laws_FnSpreading.j3] at H
         by_cases c67 : x150_45 = true
         ·subst c67
          have H1 : (some false) = some true := by rw [if_pos rfl] at H;exact H
          clear H
          have H := H1
          clear H1
          exact absurd (Option.some.inj H) (by decide)
         replace c67 := Bool.eq_false_iff.mpr c67
         subst c67
         have H1 : (if (t761.length : Int) = t752 then (laws_FnSpreading.j4 kj45 t756 t759 t761 t770 t774 (decide ((t756.length : Int) < (t774.length : Int))) t752 t753) else (laws_FnSpreading.j4 kj45 t756 t759 t761 t770 t774 false t752 t753)) = some true := by rw [if_neg (show ¬ (false = true) by decide)] at H;exact H
         clear H
         have H := H1
         clear H1
         have HC68 := Aside0.mk H
         clear H
         go_upto_region 22 with (fail)
         go_cut [162] (fun v162 wc => ∃ (kq : Nat) (x162_67 : Bool), v162 = .bool x162_67 ∧ Aside0 (laws_FnSpreading.j4 kq t756 t759 t761 t770 t774 x162_67 t752 t753 = some true) ∧ Aside0 (kq ≤ kj45) ∧ Aside0 (Kd.R (Kd.int .i64) 3 wc w.heap.size (fun k_ => some k_ ≠ ((.slice Ao48 t761.length co48) : Value).ownBlock ∧ some k_ ≠ ((.slice Ao51 t774.length co51) : Value).ownBlock) (.slice Ao12 t756.length co12) t756) ∧ Aside0 (Kd.R (Kd.int .i64) 3 wc w.heap.size (fun k_ => some k_ ≠ ((.slice Ao12 t756.length co12) : Value).ownBlock ∧ some k_ ≠ ((.slice Ao51 t774.length co51) : Value).ownBlock) (.slice Ao48 t761.length co48) t761) ∧ Aside0 (Kd.R (Kd.int .i64) 3 wc w.heap.size (fun k_ => some k_ ≠ ((.slice Ao12 t756.length co12) : Value).ownBlock ∧ some k_ ≠ ((.slice Ao48 t761.length co48) : Value).ownBlock) (.slice Ao51 t774.length co51) t774) ∧ Aside0 (Kd.R k119 119 wc w.heap.size (fun _ => True) (.slice Ao11 t753.length co11) t753) ∧ Aside0 (wc.heap[gb760]? = some (.cells #[.int .i64 t752, (.slice Ao11 t753.length co11)] 31 (0, 0))) ∧ Aside0 (Below w.heap.size w wc))
         case first =>
          have H := HC68.out
          clear HC68
          by_cases c69 : (t761.length : Int) = t752
          rotate_left
          ·rw [if_neg c69] at H
           have c69b0 : ((t761.length : Int) == t752) = false := beq_eq_false_iff_ne.mpr c69
           have c69b1 : ((t761.length : Int) != t752) = true := bne_iff_ne.mpr c69
           (first | rw [c69b0] | (simp only [i64_w, i32_w];rw [c69b0]) | skip)
           have H' := Aside0.mk H
           clear H
           have hcz71_0 := bC0 BK760.out
           have hcz71_1 := bC1 BK760.out
           have hfz71_0 := blk_frozen BK760.out 0
           have hfz71_1 := blk_frozen BK760.out 1
           go_wp2
           go_meet
           case rel => exact ⟨_, (false), (by first | rfl | (simp;done) | (simp [*];done)), H', ⟨by have := HJ6.out;have := HJ22.out;have := HJ32.out;have := HJ45.out;first | omega | exact Nat.le_refl _⟩, ⟨by exact rP HO_4.out⟩, ⟨by exact rP HO_6.out⟩, ⟨by exact rP HO_14.out⟩, ⟨by exact rP HO_761001.out⟩, ⟨by exact kP BK760.out⟩, ⟨by exact bB⟩⟩
          rw [if_pos c69] at H
          have c69b0 : ((t761.length : Int) == t752) = true := beq_iff_eq.mpr c69
          have c69b1 : ((t761.length : Int) != t752) = false := bne_eq_false_iff_eq.mpr c69
          clear c69
          (first | rw [c69b0] | (simp only [i64_w, i32_w];rw [c69b0]) | skip)
          have H' := Aside0.mk H
          clear H
          have hcz70_0 := bC0 BK760.out
          have hcz70_1 := bC1 BK760.out
          have hfz70_0 := blk_frozen BK760.out 0
          have hfz70_1 := blk_frozen BK760.out 1
          go_wp2
          go_meet
          case rel => exact ⟨_, (decide ((t756.length : Int) < (t774.length : Int))), (by first | rfl | (simp;done) | (simp [*];done)), H', ⟨by have := HJ6.out;have := HJ22.out;have := HJ32.out;have := HJ45.out;first | omega | exact Nat.le_refl _⟩, ⟨by exact rP HO_4.out⟩, ⟨by exact rP HO_6.out⟩, ⟨by exact rP HO_14.out⟩, ⟨by exact rP HO_761001.out⟩, ⟨by exact kP BK760.out⟩, ⟨by exact bB⟩⟩
         case rest =>
          clear HC68
          try clear c1
          try clear c2
          try clear p2
          try clear c3
          try clear c4
          try clear c5
          try clear c6
          try clear c8
          try clear c16
          try clear c16b0
          try clear c16b1
          try clear c16b2
          try clear c20
          try clear c28
          try clear c28b0
          try clear c28b1
          try clear c28b2
          try clear c29
          try clear c29b0
          try clear c29b1
          try clear c29b2
          try clear c30
          try clear c38
          try clear c38b0
          try clear c38b1
          try clear c38b2
          try clear c42
          try clear c43
          try clear c47
          try clear c48
          try clear c49
          try clear c51
          try clear c52
          try clear c53
          try clear c54
          try clear c55
          try clear c57
          try clear c58
          try clear c58b0
          try clear c58b1
          try clear c67
          try clear c69
          try clear c69b0
          try clear c69b1
          try clear hcz10_0
          try clear hcz10_1
          try clear hcz14_0
          try clear hcz14_1
          try clear hcz24_0
          try clear hcz24_1
          try clear hcz26_0
          try clear hcz26_1
          try clear hcz34_0
          try clear hcz34_1
          try clear hcz36_0
          try clear hcz36_1
          try clear hcz47_0
          try clear hcz47_1
          try clear hcz50_0
          try clear hcz50_1
          try clear hcz62_0
          try clear hcz62_1
          try clear hcz65_0
          try clear hcz65_1
          try clear hcz70_0
          try clear hcz70_1
          try clear hcz71_0
          try clear hcz71_1
          try clear hfz10_0
          try clear hfz10_1
          try clear hfz14_0
          try clear hfz14_1
          try clear hfz24_0
          try clear hfz24_1
          try clear hfz26_0
          try clear hfz26_1
          try clear hfz34_0
          try clear hfz34_1
          try clear hfz36_0
          try clear hfz36_1
          try clear hfz47_0
          try clear hfz47_1
          try clear hfz50_0
          try clear hfz50_1
          try clear hfz62_0
          try clear hfz62_1
          try clear hfz65_0
          try clear hfz65_1
          try clear hfz70_0
          try clear hfz70_1
          try clear hfz71_0
          try clear hfz71_1
          try clear p2
          obtain ⟨kq, x162_67, rfl, HA, HJ67, HO_4, HO_6, HO_14, HO_761001, BK760, HB⟩ := hcut
          cases kq with
          | zero => exact absurd HA.out (by simp [laws_FnSpreading.j4])
          | succ kj67 =>
           have H := HA.out
           clear HA
           simp only [laws_FnSpreading.j4] at H
           by_cases c72 : x162_67 = true
           ·subst c72
            have H1 : (some false) = some true := by rw [if_pos rfl] at H;exact H
            clear H
            have H := H1
            clear H1
            exact absurd (Option.some.inj H) (by decide)
           replace c72 := Bool.eq_false_iff.mpr c72
           subst c72
           have H1 : (laws_FnSpreading.l0 kj67 t756 t759 t761 t770 t774 (([] : List Int)) 0 t752 t753) = some true := by rw [if_neg (show ¬ (false = true) by decide)] at H;exact H
           clear H
           have H := H1
           clear H1
           obtain ⟨y793, hy793⟩ : ∃ y_ : List Int, y_ = (([] : List Int)) := ⟨_, rfl⟩
           replace H : (laws_FnSpreading.l0 kj67 t756 t759 t761 t770 t774 y793 0 t752 t753) = some true := by first | (rw [hy793];with_reducible exact H) | (have H2_ := (Option.bind_some _ _).symm.trans H;rw [hy793];with_reducible exact H2_) | (have H2_ := (Option.bind_some _ _).symm.trans H;with_reducible exact H2_) | with_reducible exact H | (rw [hy793];exact H) | exact H
           have Ny793 := Aside0.mk hy793
           clear hy793
           have H' := Aside0.mk H
           clear H
           go_wp2_with (first | ((with_reducible refine gate_dst (N := 163) rfl ?_);(try (refine gate_guard (by rfl) ?_;dsimp only));refine Kd.R_lit (Kd.int .i64) _ 3 ?hg (N := 163) ?hd (xs := ([] : List Int)) (inner := []) (ok := fun _ => True) (okp := fun _ => True) ?hr ?hp (fun _ hk => hk) trivial (Below.refl _ _) (Nat.le_refl _) (by simp) ?_;(case hd => rfl);(case hg => rfl);(case hr => first | (go_simp;done) | (go_simp;rfl));(case hp => exact (Reps.none _ _));intro v794 w73 ho74 hb hg_ hnew_;clear hg_ hnew_;(first | rw [← Ny793.out] at ho74 | (simp only [Int.reduceToNat] at ho74;rw [← Ny793.out] at ho74));have n0_ := aM (Kd.R_elder' (by exact rP HO_4.out) (Kd.R_base ho74) hb);have n1_ := aM (Kd.R_elder' (by exact rP HO_6.out) (Kd.R_base ho74) hb);have n2_ := aM (Kd.R_elder' (by exact rP HO_14.out) (Kd.R_base ho74) hb);have n3_ := aM (Kd.R_below (by exact rP HO_761001.out) hb);have n4_ := aM (Kd.R_lower (Kd.R_new' (Kd.R_new' (Kd.R_new' ho74 (Kd.R_lt (by exact rP HO_4.out))) (Kd.R_lt (by exact rP HO_6.out))) (Kd.R_lt (by exact rP HO_14.out))) (below_size (by exact bB)));have n5_ := aM (kB hb BK760.out);have n6_ := aM (below_step (by exact bB) hb);clear HO_4;clear HO_6;clear HO_14;clear HO_761001;clear BK760;clear HB;have HO_4 := n0_;have HO_6 := n1_;have HO_14 := n2_;have HO_761001 := n3_;have HO795 := n4_;have BK760 := n5_;have HB := n6_;clear n0_ n1_ n2_ n3_ n4_ n5_ n6_;clear hb ho74))
           go_loopg [22, 23] kj67 (fun kq v22 v23 w' => ∃ (x22_6 : List Int) (x23_6 : Int), v23 = .int .i64 x23_6 ∧ Aside0 (laws_FnSpreading.l0 kq t756 t759 t761 t770 t774 x22_6 x23_6 t752 t753 = some true) ∧ Aside0 (kq ≤ kj67) ∧ Aside0 (Kd.R (Kd.int .i64) 3 w' w.heap.size (fun k_ => some k_ ≠ ((.slice Ao48 t761.length co48) : Value).ownBlock ∧ some k_ ≠ ((.slice Ao51 t774.length co51) : Value).ownBlock ∧ some k_ ≠ (v22 : Value).ownBlock) (.slice Ao12 t756.length co12) t756) ∧ Aside0 (Kd.R (Kd.int .i64) 3 w' w.heap.size (fun k_ => some k_ ≠ ((.slice Ao12 t756.length co12) : Value).ownBlock ∧ some k_ ≠ ((.slice Ao51 t774.length co51) : Value).ownBlock ∧ some k_ ≠ (v22 : Value).ownBlock) (.slice Ao48 t761.length co48) t761) ∧ Aside0 (Kd.R (Kd.int .i64) 3 w' w.heap.size (fun k_ => some k_ ≠ ((.slice Ao12 t756.length co12) : Value).ownBlock ∧ some k_ ≠ ((.slice Ao48 t761.length co48) : Value).ownBlock ∧ some k_ ≠ (v22 : Value).ownBlock) (.slice Ao51 t774.length co51) t774) ∧ Aside0 (Kd.R (Kd.int .i64) 3 w' w.heap.size (fun k_ => some k_ ≠ ((.slice Ao12 t756.length co12) : Value).ownBlock ∧ some k_ ≠ ((.slice Ao48 t761.length co48) : Value).ownBlock ∧ some k_ ≠ ((.slice Ao51 t774.length co51) : Value).ownBlock) v22 x22_6) ∧ Aside0 (Kd.R k119 119 w' w.heap.size (fun _ => True) (.slice Ao11 t753.length co11) t753) ∧ Aside0 (w'.heap[gb760]? = some (.cells #[.int .i64 t752, (.slice Ao11 t753.length co11)] 31 (0, 0))) ∧ Aside0 (Below w.heap.size w w'))
           case atStart => exact ⟨(y793), (0), (by first | rfl | (simp;done) | (simp [*];done)), H', ⟨Nat.le_refl _⟩, ⟨by refine rP ?_;exact Kd.R_mono HO_4.out (fun _ hk => ⟨hk.1.1, ⟨hk.1.2, hk.2⟩⟩)⟩, ⟨by refine rP ?_;exact Kd.R_mono HO_6.out (fun _ hk => ⟨hk.1.1, ⟨hk.1.2, hk.2⟩⟩)⟩, ⟨by refine rP ?_;exact Kd.R_mono HO_14.out (fun _ hk => ⟨hk.1.1, ⟨hk.1.2, hk.2⟩⟩)⟩, ⟨by refine rP ?_;exact Kd.R_mono HO795.out (fun _ hk => ⟨hk.1.1.2, ⟨hk.1.2, hk.2⟩⟩)⟩, ⟨by exact rP HO_761001.out⟩, ⟨by exact kP BK760.out⟩, ⟨by exact bB⟩⟩
           case round =>
            clear H'
            try clear c1
            try clear c2
            try clear p2
            try clear c3
            try clear c4
            try clear c5
            try clear c6
            try clear c7
            try clear c8
            try clear c16
            try clear c16b0
            try clear c16b1
            try clear c16b2
            try clear c20
            try clear c28
            try clear c28b0
            try clear c28b1
            try clear c28b2
            try clear c29
            try clear c29b0
            try clear c29b1
            try clear c29b2
            try clear c30
            try clear c38
            try clear c38b0
            try clear c38b1
            try clear c38b2
            try clear c42
            try clear c43
            try clear c47
            try clear c48
            try clear c49
            try clear c51
            try clear c52
            try clear c53
            try clear c54
            try clear c55
            try clear c57
            try clear c58
            try clear c58b0
            try clear c58b1
            try clear c67
            try clear c69
            try clear c69b0
            try clear c69b1
            try clear c72
            try clear hcz10_0
            try clear hcz10_1
            try clear hcz14_0
            try clear hcz14_1
            try clear hcz24_0
            try clear hcz24_1
            try clear hcz26_0
            try clear hcz26_1
            try clear hcz34_0
            try clear hcz34_1
            try clear hcz36_0
            try clear hcz36_1
            try clear hcz47_0
            try clear hcz47_1
            try clear hcz50_0
            try clear hcz50_1
            try clear hcz62_0
            try clear hcz62_1
            try clear hcz65_0
            try clear hcz65_1
            try clear hcz70_0
            try clear hcz70_1
            try clear hcz71_0
            try clear hcz71_1
            try clear hfz10_0
            try clear hfz10_1
            try clear hfz14_0
            try clear hfz14_1
            try clear hfz24_0
            try clear hfz24_1
            try clear hfz26_0
            try clear hfz26_1
            try clear hfz34_0
            try clear hfz34_1
            try clear hfz36_0
            try clear hfz36_1
            try clear hfz47_0
            try clear hfz47_1
            try clear hfz50_0
            try clear hfz50_1
            try clear hfz62_0
            try clear hfz62_1
            try clear hfz65_0
            try clear hfz65_1
            try clear hfz70_0
            try clear hfz70_1
            try clear hfz71_0
            try clear hfz71_1
            try clear p2
            obtain ⟨x22_6, x23_6, rfl, HA, HK6, HO_4, HO_6, HO_14, HO_22, HO_761001, BK760, HB⟩ := hrel
            cases gk with
            | zero => exact absurd HA.out (by simp [laws_FnSpreading.l0])
            | succ k6 =>
             have H := HA.out
             clear HA
             simp only [laws_FnSpreading.l0] at H
             by_cases c75 : x23_6 < t752
             ·rw [if_pos c75] at H
              have c75b0 : decide (x23_6 < t752) = true := decide_eq_true c75
              clear c75
              replace H := Option.bind_eq_some_iff.mp H
              obtain ⟨t796, A760, H⟩ := H
              replace H : (if t796 = true then (laws_FnSpreading.l0 k6 t756 t759 t761 t770 t774 x22_6 (wrap64 (x23_6 + 1)) t752 t753) else (if x22_6.length < 17592186044416 then (laws_FnSpreading.l0 k6 t756 t759 t761 t770 t774 (x22_6 ++ [x23_6]) (wrap64 (x23_6 + 1)) t752 t753) else (none))) = some true := H
              have A76 := Aside0.mk A760
              clear A760
              by_cases c77 : t796 = true
              ·subst c77
               have H1 : (laws_FnSpreading.l0 k6 t756 t759 t761 t770 t774 x22_6 (wrap64 (x23_6 + 1)) t752 t753) = some true := by rw [if_pos rfl] at H;exact H
               clear H
               have H := H1
               clear H1
               have H' := Aside0.mk H
               clear H
               have hcz78_0 := bC0 BK760.out
               have hcz78_1 := bC1 BK760.out
               have hfz78_0 := blk_frozen BK760.out 0
               have hfz78_1 := blk_frozen BK760.out 1
               go_wp2_with (first | ((with_reducible refine gate_callee (f := 56) rfl ?_);refine goesL_ (some 172) rfl rfl Try.func56 (by kernel_rfl) rfl #[.slice Ao48 t761.length co48, .int .i64 x23_6] rfl mM ?_;(with_reducible refine (laws_rHas.calls k6 _ _ t761 x23_6 true _ ?side1 ?side2 A76.out).mono ?_);(case side1 => exact cP (Kd.R_reads' HO_6.out).2.2);(case side2 => exact (Kd.R_reads' HO_6.out).2.1);rintro e w' ⟨rfl, ⟨nd, rfl⟩⟩;refine ⟨_, rfl, ?_⟩))
               go_roundg k6
               case measure => have := HJ6.out;have := HJ22.out;have := HJ32.out;have := HJ45.out;have := HJ67.out;have := HK6.out;omega
               case rel => exact ⟨(x22_6), (wrap64 (x23_6 + 1)), (by first | rfl | (simp;done) | (simp [*];done)), H', ⟨by have := HJ6.out;have := HJ22.out;have := HJ32.out;have := HJ45.out;have := HJ67.out;have := HK6.out;omega⟩, ⟨by exact rP HO_4.out⟩, ⟨by exact rP HO_6.out⟩, ⟨by exact rP HO_14.out⟩, ⟨by exact rP HO_22.out⟩, ⟨by exact rP HO_761001.out⟩, ⟨by exact kP BK760.out⟩, ⟨by exact bB⟩⟩
              replace c77 := Bool.eq_false_iff.mpr c77
              subst c77
              have H1 : (if x22_6.length < 17592186044416 then (laws_FnSpreading.l0 k6 t756 t759 t761 t770 t774 (x22_6 ++ [x23_6]) (wrap64 (x23_6 + 1)) t752 t753) else (none)) = some true := by rw [if_neg (show ¬ (false = true) by decide)] at H;exact H
              clear H
              have H := H1
              clear H1
              by_cases c79 : x22_6.length < 17592186044416
              rotate_left
              ·rw [if_neg c79] at H
               exact absurd H (by simp)
              rw [if_pos c79] at H
              have LMc79 := Aside0.mk c79
              clear c79
              obtain ⟨y797, hy797⟩ : ∃ y_ : List Int, y_ = (x22_6 ++ [x23_6]) := ⟨_, rfl⟩
              replace H : (laws_FnSpreading.l0 k6 t756 t759 t761 t770 t774 y797 (wrap64 (x23_6 + 1)) t752 t753) = some true := by first | (rw [hy797];with_reducible exact H) | (have H2_ := (Option.bind_some _ _).symm.trans H;rw [hy797];with_reducible exact H2_) | (have H2_ := (Option.bind_some _ _).symm.trans H;with_reducible exact H2_) | with_reducible exact H | (rw [hy797];exact H) | exact H
              have Ny797 := Aside0.mk hy797
              clear hy797
              have H' := Aside0.mk H
              clear H
              have hcz80_0 := bC0 BK760.out
              have hcz80_1 := bC1 BK760.out
              have hfz80_0 := blk_frozen BK760.out 0
              have hfz80_1 := blk_frozen BK760.out 1
              go_wp2_with (first | ((with_reducible refine gate_callee (f := 56) rfl ?_);refine goesL_ (some 172) rfl rfl Try.func56 (by kernel_rfl) rfl #[.slice Ao48 t761.length co48, .int .i64 x23_6] rfl mM ?_;(with_reducible refine (laws_rHas.calls k6 _ _ t761 x23_6 false _ ?side1 ?side2 A76.out).mono ?_);(case side1 => exact cP (Kd.R_reads' HO_6.out).2.2);(case side2 => exact (Kd.R_reads' HO_6.out).2.1);rintro e w' ⟨rfl, ⟨nd, rfl⟩⟩;refine ⟨_, rfl, ?_⟩) | ((with_reducible refine gate_builtin (b := .append) (xs := #[.tmp 174, .tmp 176]) rfl ?_);(try (refine gate_guard (by rfl) ?_;dsimp only));at_builtin;refine Kd.R_append (Kd.int .i64) (w0 := w) w.heap.size rfl (.tmp 174) (.tmp 176) 28 3 (.int .i64 0) 8 rfl Try.underlying28 info3 rfl (by decide) (by omega) u22 x22_6 x23_6 [.int .i64 x23_6] (fun k_ => some k_ ≠ (.slice Ao12 t756.length co12 : Value).ownBlock ∧ some k_ ≠ (.slice Ao48 t761.length co48 : Value).ownBlock ∧ some k_ ≠ (.slice Ao51 t774.length co51 : Value).ownBlock) (fun _ => False) rfl rfl ?aP (fun _ hk => hk.elim) ?aF ?aO ?aB ?aS ?aL ?_;(case aP => exact rfl);(case aB => exact (by exact bB));(case aF => exact (fun k_ hk => ⟨Kd.fresh' (Kd.R_lt (by exact rP HO_4.out)) k_ hk, Kd.fresh' (Kd.R_lt (by exact rP HO_6.out)) k_ hk, Kd.fresh' (Kd.R_lt (by exact rP HO_14.out)) k_ hk⟩));(case aO => exact (by exact rP HO_22.out));(case aS => exact (below_size (by exact bB)));(case aL => have := LMc79.out;omega);intro v798 w81 ho hb hg hat;rw [← Ny797.out] at ho;have n0_ := aM (Kd.R_after (ok := (fun k_ => some k_ ≠ (.slice Ao48 t761.length co48 : Value).ownBlock ∧ some k_ ≠ (.slice Ao51 t774.length co51 : Value).ownBlock)) (by exact rP (Kd.R_mono HO_4.out (fun _ hk => ⟨⟨hk.1, hk.2.1⟩, hk.2.2⟩))) hg hat);have n1_ := aM (Kd.R_after (ok := (fun k_ => some k_ ≠ (.slice Ao12 t756.length co12 : Value).ownBlock ∧ some k_ ≠ (.slice Ao51 t774.length co51 : Value).ownBlock)) (by exact rP (Kd.R_mono HO_6.out (fun _ hk => ⟨⟨hk.1, hk.2.1⟩, hk.2.2⟩))) hg hat);have n2_ := aM (Kd.R_after (ok := (fun k_ => some k_ ≠ (.slice Ao12 t756.length co12 : Value).ownBlock ∧ some k_ ≠ (.slice Ao48 t761.length co48 : Value).ownBlock)) (by exact rP (Kd.R_mono HO_14.out (fun _ hk => ⟨⟨hk.1, hk.2.1⟩, hk.2.2⟩))) hg hat);have n3_ := aM (Kd.R_over' (by exact rP HO_761001.out) (Kd.R_typed (by exact rP HO_22.out)) (by decide) hg);have n4_ := aM (blk_grown (g := gb760) (o := .cells #[.int .i64 t752, .slice Ao11 t753.length co11] 31 (0, 0)) (by exact kP BK760.out) hg (Kd.R_ne HO_22.out BK760.out (by decide)));have n5_ := aM (hb);have n6_ := aM (ho);clear HO_4;clear HO_6;clear HO_14;clear HO_761001;clear BK760;clear HB;clear HO_22;have HO_4 := n0_;have HO_6 := n1_;have HO_14 := n2_;have HO_761001 := n3_;have BK760 := n4_;have HB := n5_;have HO799 := n6_;clear n0_ n1_ n2_ n3_ n4_ n5_ n6_;clear ho hb hg hat))
              go_roundg k6
              case measure => have := HJ6.out;have := HJ22.out;have := HJ32.out;have := HJ45.out;have := HJ67.out;have := HK6.out;omega
              case rel => exact ⟨(y797), (wrap64 (x23_6 + 1)), (by first | rfl | (simp;done) | (simp [*];done)), H', ⟨by have := HJ6.out;have := HJ22.out;have := HJ32.out;have := HJ45.out;have := HJ67.out;have := HK6.out;omega⟩, ⟨by refine rP ?_;exact Kd.R_mono HO_4.out (fun _ hk => ⟨hk.1.1, ⟨hk.1.2, hk.2⟩⟩)⟩, ⟨by refine rP ?_;exact Kd.R_mono HO_6.out (fun _ hk => ⟨hk.1.1, ⟨hk.1.2, hk.2⟩⟩)⟩, ⟨by refine rP ?_;exact Kd.R_mono HO_14.out (fun _ hk => ⟨hk.1.1, ⟨hk.1.2, hk.2⟩⟩)⟩, ⟨by exact rP HO799.out⟩, ⟨by exact rP HO_761001.out⟩, ⟨by exact kP BK760.out⟩, ⟨by exact bB⟩⟩
             rw [if_neg c75] at H
             have c75b0 : decide (x23_6 < t752) = false := decide_eq_false c75
             clear c75
             replace H := Option.bind_eq_some_iff.mp H
             obtain ⟨⟨t800, t801⟩, A820, H⟩ := H
             replace H : (if t801 = true then (laws_FnSpreading.j6 k6 t756 t770 t774 (t800 != (decide ((x22_6.length : Int) > 0)))) else (laws_FnSpreading.j6 k6 t756 t770 t774 true)) = some true := H
             have A82 := Aside0.mk A820
             clear A820
             have HC83 := Aside0.mk H
             clear H
             have hcz84_0 := bC0 BK760.out
             have hcz84_1 := bC1 BK760.out
             have hfz84_0 := blk_frozen BK760.out 0
             have hfz84_1 := blk_frozen BK760.out 1
             obtain ⟨Ao85, co85, eo85⟩ := Kd.R_slice HO_22.out
             subst eo85
             go_upto_region 31 with (first | ((with_reducible refine gate_callee (f := 51) rfl ?_);refine goesL_ (some 182) rfl rfl Try.func51 (by kernel_rfl) rfl #[.agg #[.int .i64 t752, .slice Ao11 t753.length co11], .slice Ao85 x22_6.length co85, .int .i64 t759] rfl mM ?_;(with_reducible refine (impl_IsStopping.calls k6 t752 _ _ t753 _ _ x22_6 t759 t800 t801 _ ?side1 ?side2 ?side3 ?side4 A82.out).mono ?_);(case side1 => exact cP (Kd.R_reads' HO_761001.out).2.2);(case side2 => exact (Kd.R_reads' HO_761001.out).2.1);(case side3 => exact cP (Kd.R_reads' HO_22.out).2.2);(case side4 => exact (Kd.R_reads' HO_22.out).2.1);rintro e w86 ⟨rfl, hb⟩;refine ⟨_, rfl, ?_⟩;have n0_ := aM (Kd.R_below (by exact rP HO_4.out) hb);have n1_ := aM (Kd.R_below (by exact rP HO_6.out) hb);have n2_ := aM (Kd.R_below (by exact rP HO_14.out) hb);have n3_ := aM (Kd.R_below (by exact rP HO_22.out) hb);have n4_ := aM (Kd.R_below (by exact rP HO_761001.out) hb);have n5_ := aM (kB hb BK760.out);have n6_ := aM (below_step (by exact bB) hb);clear HO_4;clear HO_6;clear HO_14;clear HO_22;clear HO_761001;clear BK760;clear HB;have HO_4 := n0_;have HO_6 := n1_;have HO_14 := n2_;have HO_22 := n3_;have HO_761001 := n4_;have BK760 := n5_;have HB := n6_;clear n0_ n1_ n2_ n3_ n4_ n5_ n6_;(try clear hb);(try clear hb2);(try clear hk);(try clear hi)))
             (try simp only [Act.put, List.setIfInBounds_toArray, List.set_cons_zero, List.set_cons_succ])
             go_cut [193] (fun v193 wc => ∃ (kq : Nat) (x193_82 : Bool), v193 = .bool x193_82 ∧ Aside0 (laws_FnSpreading.j6 kq t756 t770 t774 x193_82 = some true) ∧ Aside0 (kq ≤ k6) ∧ Aside0 (Kd.R (Kd.int .i64) 3 wc w.heap.size (fun k_ => some k_ ≠ ((.slice Ao51 t774.length co51) : Value).ownBlock) (.slice Ao12 t756.length co12) t756) ∧ Aside0 (Kd.R (Kd.int .i64) 3 wc w.heap.size (fun k_ => some k_ ≠ ((.slice Ao12 t756.length co12) : Value).ownBlock) (.slice Ao51 t774.length co51) t774) ∧ Aside0 (Kd.R k119 119 wc w.heap.size (fun _ => True) (.slice Ao11 t753.length co11) t753) ∧ Aside0 (wc.heap[gb760]? = some (.cells #[.int .i64 t752, (.slice Ao11 t753.length co11)] 31 (0, 0))) ∧ Aside0 (Below w.heap.size w wc))
             case first =>
              have H := HC83.out
              clear HC83
              by_cases c87 : t801 = true
              rotate_left
              ·replace c87 := Bool.eq_false_iff.mpr c87
               subst c87
               have H1 : (laws_FnSpreading.j6 k6 t756 t770 t774 true) = some true := by rw [if_neg (show ¬ (false = true) by decide)] at H;exact H
               clear H
               have H := H1
               clear H1
               exact absurd H (by rcases k6 with _ | k_ <;> simp [laws_FnSpreading.j6])
              subst c87
              have H1 : (laws_FnSpreading.j6 k6 t756 t770 t774 (t800 != (decide ((x22_6.length : Int) > 0)))) = some true := by rw [if_pos rfl] at H;exact H
              clear H
              have H := H1
              clear H1
              have H' := Aside0.mk H
              clear H
              go_wp2
              go_meet
              case rel => exact ⟨_, ((t800 != (decide ((x22_6.length : Int) > 0)))), (by first | rfl | (cases t800 <;> simp <;> done) | (simp;done) | (simp [*];done)), H', ⟨by have := HJ6.out;have := HJ22.out;have := HJ32.out;have := HJ45.out;have := HJ67.out;have := HK6.out;first | omega | exact Nat.le_refl _⟩, ⟨by refine rP ?_;exact Kd.R_mono HO_4.out (fun _ hk => hk.2.1)⟩, ⟨by refine rP ?_;exact Kd.R_mono HO_14.out (fun _ hk => hk.1)⟩, ⟨by exact rP HO_761001.out⟩, ⟨by exact kP BK760.out⟩, ⟨by exact bB⟩⟩
             case rest =>
              clear HC83
              try clear c1
              try clear c2
              try clear p2
              try clear c3
              try clear c4
              try clear c5
              try clear c6
              try clear p6
              try clear c7
              try clear c8
              try clear c16
              try clear c16b0
              try clear c16b1
              try clear c16b2
              try clear c20
              try clear c28
              try clear c28b0
              try clear c28b1
              try clear c28b2
              try clear c29
              try clear c29b0
              try clear c29b1
              try clear c29b2
              try clear c30
              try clear c38
              try clear c38b0
              try clear c38b1
              try clear c38b2
              try clear c42
              try clear c43
              try clear c47
              try clear c48
              try clear c49
              try clear c51
              try clear c52
              try clear c53
              try clear c54
              try clear c55
              try clear c56
              try clear c57
              try clear c58
              try clear c58b0
              try clear c58b1
              try clear p64
              try clear c67
              try clear c69
              try clear c69b0
              try clear c69b1
              try clear c72
              try clear c75
              try clear c75b0
              try clear c77
              try clear c79
              try clear c87
              try clear hcz10_0
              try clear hcz10_1
              try clear hcz14_0
              try clear hcz14_1
              try clear hcz24_0
              try clear hcz24_1
              try clear hcz26_0
              try clear hcz26_1
              try clear hcz34_0
              try clear hcz34_1
              try clear hcz36_0
              try clear hcz36_1
              try clear hcz47_0
              try clear hcz47_1
              try clear hcz50_0
              try clear hcz50_1
              try clear hcz62_0
              try clear hcz62_1
              try clear hcz65_0
              try clear hcz65_1
              try clear hcz70_0
              try clear hcz70_1
              try clear hcz71_0
              try clear hcz71_1
              try clear hcz78_0
              try clear hcz78_1
              try clear hcz80_0
              try clear hcz80_1
              try clear hcz84_0
              try clear hcz84_1
              try clear hfz10_0
              try clear hfz10_1
              try clear hfz14_0
              try clear hfz14_1
              try clear hfz24_0
              try clear hfz24_1
              try clear hfz26_0
              try clear hfz26_1
              try clear hfz34_0
              try clear hfz34_1
              try clear hfz36_0
              try clear hfz36_1
              try clear hfz47_0
              try clear hfz47_1
              try clear hfz50_0
              try clear hfz50_1
              try clear hfz62_0
              try clear hfz62_1
              try clear hfz65_0
              try clear hfz65_1
              try clear hfz70_0
              try clear hfz70_1
              try clear hfz71_0
              try clear hfz71_1
              try clear hfz78_0
              try clear hfz78_1
              try clear hfz80_0
              try clear hfz80_1
              try clear hfz84_0
              try clear hfz84_1
              try clear p2
              obtain ⟨kq, x193_82, rfl, HA, HJ82, HO_4, HO_14, HO_761001, BK760, HB⟩ := hcut
              cases kq with
              | zero => exact absurd HA.out (by simp [laws_FnSpreading.j6])
              | succ kj82 =>
               have H := HA.out
               clear HA
               simp only [laws_FnSpreading.j6] at H
               by_cases c88 : x193_82 = true
               ·subst c88
                have H1 : (some false) = some true := by rw [if_pos rfl] at H;exact H
                clear H
                have H := H1
                clear H1
                exact absurd (Option.some.inj H) (by decide)
               replace c88 := Bool.eq_false_iff.mpr c88
               subst c88
               have H1 : (if t770 = true then (laws_FnSpreading.l1 kj82 t756 t774 0) else (some true)) = some true := by rw [if_neg (show ¬ (false = true) by decide)] at H;exact H
               clear H
               have H := H1
               clear H1
               by_cases c89 : t770 = true
               rotate_left
               ·replace c89 := Bool.eq_false_iff.mpr c89
                subst c89
                have H1 : (some true) = some true := rfl
                clear H
                have H := H1
                clear H1
                clear H
                go_wp2
                go_ret
                exact ⟨by first | rfl | (simp [errW_none, errW_some] <;> rfl) | (simp [*, errW_none, errW_some] <;> rfl), by exact bB⟩
               subst c89
               have H1 : (laws_FnSpreading.l1 kj82 t756 t774 0) = some true := by rw [if_pos rfl] at H;exact H
               clear H
               have H := H1
               clear H1
               have H' := Aside0.mk H
               clear H
               go_wp2
               go_loopg [26] kj82 (fun kq v26 w' => ∃ (x26_8 : Int), v26 = .int .i64 x26_8 ∧ Aside0 (laws_FnSpreading.l1 kq t756 t774 x26_8 = some true) ∧ Aside0 (kq ≤ kj82) ∧ Aside0 (Kd.R (Kd.int .i64) 3 w' w.heap.size (fun k_ => some k_ ≠ ((.slice Ao51 t774.length co51) : Value).ownBlock) (.slice Ao12 t756.length co12) t756) ∧ Aside0 (Kd.R (Kd.int .i64) 3 w' w.heap.size (fun k_ => some k_ ≠ ((.slice Ao12 t756.length co12) : Value).ownBlock) (.slice Ao51 t774.length co51) t774) ∧ Aside0 (Kd.R k119 119 w' w.heap.size (fun _ => True) (.slice Ao11 t753.length co11) t753) ∧ Aside0 (w'.heap[gb760]? = some (.cells #[.int .i64 t752, (.slice Ao11 t753.length co11)] 31 (0, 0))) ∧ Aside0 (Below w.heap.size w w'))
               case atStart => exact ⟨(0), (by first | rfl | (simp;done) | (simp [*];done)), H', ⟨Nat.le_refl _⟩, ⟨by exact rP HO_4.out⟩, ⟨by exact rP HO_14.out⟩, ⟨by exact rP HO_761001.out⟩, ⟨by exact kP BK760.out⟩, ⟨by exact bB⟩⟩
               case round =>
                clear H'
                try clear c1
                try clear c2
                try clear p2
                try clear c3
                try clear c4
                try clear c5
                try clear c6
                try clear p6
                try clear c7
                try clear c8
                try clear c16
                try clear c16b0
                try clear c16b1
                try clear c16b2
                try clear c20
                try clear c28
                try clear c28b0
                try clear c28b1
                try clear c28b2
                try clear c29
                try clear c29b0
                try clear c29b1
                try clear c29b2
                try clear c30
                try clear c38
                try clear c38b0
                try clear c38b1
                try clear c38b2
                try clear c42
                try clear c43
                try clear c47
                try clear c48
                try clear c49
                try clear c51
                try clear c52
                try clear c53
                try clear c54
                try clear c55
                try clear c56
                try clear c57
                try clear c58
                try clear c58b0
                try clear c58b1
                try clear p64
                try clear c67
                try clear c69
                try clear c69b0
                try clear c69b1
                try clear c72
                try clear c75
                try clear c75b0
                try clear c77
                try clear c79
                try clear c87
                try clear c88
                try clear c89
                try clear hcz10_0
                try clear hcz10_1
                try clear hcz14_0
                try clear hcz14_1
                try clear hcz24_0
                try clear hcz24_1
                try clear hcz26_0
                try clear hcz26_1
                try clear hcz34_0
                try clear hcz34_1
                try clear hcz36_0
                try clear hcz36_1
                try clear hcz47_0
                try clear hcz47_1
                try clear hcz50_0
                try clear hcz50_1
                try clear hcz62_0
                try clear hcz62_1
                try clear hcz65_0
                try clear hcz65_1
                try clear hcz70_0
                try clear hcz70_1
                try clear hcz71_0
                try clear hcz71_1
                try clear hcz78_0
                try clear hcz78_1
                try clear hcz80_0
                try clear hcz80_1
                try clear hcz84_0
                try clear hcz84_1
                try clear hfz10_0
                try clear hfz10_1
                try clear hfz14_0
                try clear hfz14_1
                try clear hfz24_0
                try clear hfz24_1
                try clear hfz26_0
                try clear hfz26_1
                try clear hfz34_0
                try clear hfz34_1
                try clear hfz36_0
                try clear hfz36_1
                try clear hfz47_0
                try clear hfz47_1
                try clear hfz50_0
                try clear hfz50_1
                try clear hfz62_0
                try clear hfz62_1
                try clear hfz65_0
                try clear hfz65_1
                try clear hfz70_0
                try clear hfz70_1
                try clear hfz71_0
                try clear hfz71_1
                try clear hfz78_0
                try clear hfz78_1
                try clear hfz80_0
                try clear hfz80_1
                try clear hfz84_0
                try clear hfz84_1
                try clear p2
                try clear p6
                try clear p64
                obtain ⟨x26_8, rfl, HA, HK8, HO_4, HO_14, HO_761001, BK760, HB⟩ := hrel
                cases gk with
                | zero => exact absurd HA.out (by simp [laws_FnSpreading.l1])
                | succ k8 =>
                 have H := HA.out
                 clear HA
                 simp only [laws_FnSpreading.l1] at H
                 by_cases c90 : x26_8 < (t756.length : Int)
                 rotate_left
                 ·rw [if_neg c90] at H
                  have c90b0 : decide (x26_8 < (t756.length : Int)) = false := decide_eq_false c90
                  clear c90
                  (first | exact absurd (Option.some.inj H) (by decide) | (have hr_ := Option.some.inj H;go_wp2;go_ret;exact ⟨by first | rfl | (simp [errW_none, errW_some] <;> rfl) | (simp [*, errW_none, errW_some] <;> rfl), by exact bB⟩))
                 rw [if_pos c90] at H
                 have c90b0 : decide (x26_8 < (t756.length : Int)) = true := decide_eq_true c90
                 clear c90
                 by_cases c91 : 0 ≤ x26_8
                 rotate_left
                 ·rw [if_neg c91] at H
                  exact absurd H (by simp)
                 rw [if_pos c91] at H
                 have c91b0 : decide (0 ≤ x26_8) = true := decide_eq_true c91
                 clear c91
                 replace H := Option.bind_eq_some_iff.mp H
                 obtain ⟨t803, A920, H⟩ := H
                 replace H : (if t803 = true then (some true) else (laws_FnSpreading.l1 k8 t756 t774 (wrap64 (x26_8 + 1)))) = some true := H
                 have A92 := Aside0.mk A920
                 clear A920
                 by_cases c93 : t803 = true
                 ·subst c93
                  have H1 : (some true) = some true := rfl
                  clear H
                  have H := H1
                  clear H1
                  clear H
                  have p802 : 0 ≤ (x26_8 : Int) := oA
                  have q802 : x26_8 < (t756.length : Int) := oA
                  obtain ⟨ad802, e802, hx802_0⟩ := Kd.at_int (Kd.R_reads' HO_4.out).2.2 x26_8 p802 q802
                  cases e802
                  replace p802 := eq_true p802
                  replace q802 := eq_true q802
                  go_wp2_with (first | ((with_reducible refine gate_callee (f := 56) rfl ?_);refine goesL_ (some 207) rfl rfl Try.func56 (by kernel_rfl) rfl #[.slice Ao51 t774.length co51, .int .i64 (rd t756 x26_8)] rfl mM ?_;(with_reducible refine (laws_rHas.calls k8 _ _ t774 (rd t756 x26_8) true _ ?side1 ?side2 A92.out).mono ?_);(case side1 => exact cP (Kd.R_reads' HO_14.out).2.2);(case side2 => exact (Kd.R_reads' HO_14.out).2.1);rintro e w' ⟨rfl, ⟨nd, rfl⟩⟩;refine ⟨_, rfl, ?_⟩))
                  go_ret
                  exact ⟨by first | rfl | (simp [errW_none, errW_some] <;> rfl) | (simp [*, errW_none, errW_some] <;> rfl), by exact bB⟩
                 replace c93 := Bool.eq_false_iff.mpr c93
                 subst c93
                 have H1 : (laws_FnSpreading.l1 k8 t756 t774 (wrap64 (x26_8 + 1))) = some true := by rw [if_neg (show ¬ (false = true) by decide)] at H;exact H
                 clear H
                 have H := H1
                 clear H1
                 have H' := Aside0.mk H
                 clear H
                 have p802 : 0 ≤ (x26_8 : Int) := oA
                 have q802 : x26_8 < (t756.length : Int) := oA
                 obtain ⟨ad802, e802, hx802_0⟩ := Kd.at_int (Kd.R_reads' HO_4.out).2.2 x26_8 p802 q802
                 cases e802
                 replace p802 := eq_true p802
                 replace q802 := eq_true q802
                 go_wp2_with (first | ((with_reducible refine gate_callee (f := 56) rfl ?_);refine goesL_ (some 207) rfl rfl Try.func56 (by kernel_rfl) rfl #[.slice Ao51 t774.length co51, .int .i64 (rd t756 x26_8)] rfl mM ?_;(with_reducible refine (laws_rHas.calls k8 _ _ t774 (rd t756 x26_8) false _ ?side1 ?side2 A92.out).mono ?_);(case side1 => exact cP (Kd.R_reads' HO_14.out).2.2);(case side2 => exact (Kd.R_reads' HO_14.out).2.1);rintro e w' ⟨rfl, ⟨nd, rfl⟩⟩;refine ⟨_, rfl, ?_⟩))
                 go_roundg k8
                 case measure => have := HJ6.out;have := HJ22.out;have := HJ32.out;have := HJ45.out;have := HJ67.out;have := HK6.out;have := HJ82.out;have := HK8.out;omega
                 case rel => exact ⟨(wrap64 (x26_8 + 1)), (by first | rfl | (simp;done) | (simp [*];done)), H', ⟨by have := HJ6.out;have := HJ22.out;have := HJ32.out;have := HJ45.out;have := HJ67.out;have := HK6.out;have := HJ82.out;have := HK8.out;omega⟩, ⟨by exact rP HO_4.out⟩, ⟨by exact rP HO_14.out⟩, ⟨by exact rP HO_761001.out⟩, ⟨by exact kP BK760.out⟩, ⟨by exact bB⟩⟩

def laws_FnSpreading.Pure : Prop := ∀ (l0 : List Int), l0.length ≤ maxLen → l0.length * 1 ≤ 140737488351232 → (∀ x ∈ l0, (Lit.int .u8 x).wf = true) → ∃ k, laws_FnSpreading.f k l0 = some true
theorem laws_FnSpreading.walk (P : laws_FnSpreading.Pure) (a0 : Option Addr) (len0 cap0 : Nat) (z0 : List Int) (w : World) (w0 : (a0 = none ∧ len0 = 0 ∧ cap0 = 0 ∧ z0 = []) ∨ ∃ x, a0 = some x ∧ len0 ≤ cap0 ∧ cap0 ≤ maxLen ∧ z0.length = cap0 ∧ (∀ i, i < z0.length → w.cell? (x.add i) = some (.int .u8 (z0.getD i 0))) ∧ ∀ n ∈ z0, (Lit.int .u8 n).wf = true) (y0 : len0 * 1 ≤ 140737488351232) :
  Calls Try.prog 8 #[.slice a0 len0 cap0] w fun e w' => e = .returned (.bool true) ∧ Below w.heap.size w w' := by
 obtain ⟨l0, rfl, hr0, hm0, hw0, hc0⟩ := ReadsInt.ofRowC w0
 obtain ⟨k, h⟩ := P l0 hm0 y0 hw0
 refine (laws_FnSpreading.calls k _ _ l0 w (Kd.C_of_reads (d := (0 : Int)) (h1 := fun _ => rfl) hr0) hc0 h).mono ?_
 rintro e w' ⟨rfl, hd⟩
 exact ⟨rfl, hd⟩


end Go.Proofs.Ytmokkhfmbenleaa.QSpreading
