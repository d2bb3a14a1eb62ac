/- For every graph, number of guards and kind of move, EternalFamily is handed back by the program just as by the reference; neither panics nor changes its arguments. Conditions: those of the given row. -/
import Derived.Test.YtgahlimikndecaaDoorRows
import Derived.Test.YtgahlimikndecaaDoorCards
import Derived.Test.YtgahlimikndecaaDoorTie
import Derived.Test.YtgahlimikndecaaDoorQEternalFamily11
import Derived.Test.YtgahlimikndecaaDoorQEternalFamilyA1
import Derived.Test.YtgahlimikndecaaDoorQEternalFamilyAO
import Derived.WalkKit
import Derived.LaidMore
import Derived.Stop.Joined
import Derived.SevenTiedAt
import Derived.ProofKit
import Derived.OpenShut
import Derived.ShutString
import Derived.ChangeOld
import Derived.Below
import Derived.SizedLaws
namespace Go.Proofs.YtgahlimikndecaaDoor.fnExactEternalFamily
open Go.ChangeShapes Go.WideShapes Go.ChangeAt Go.RowKit
open Go.ChangeMaps (open_string shut_string)
open Go.Proofs.YtgahlimikndecaaDoor.QEternalFamily Go.Proofs.YtgahlimikndecaaDoorW.PrintWords
set_option linter.unusedVariables false
theorem own : ownKnob Tryd.prog.godebug = none := by kernel_rfl
theorem laidOut : laidOutB Tryd.prog = true := by kernel_rfl
/-- WHAT THE CONDITION GIVES THE WALKS: the cells of the table. -/
def laid2 {H : Type} : List (String × DataW H) := [("math/bits.deBruijn32tab", Rows.laid_math_bits_deBruijn32tab), ("math/bits.deBruijn64tab", Rows.laid_math_bits_deBruijn64tab)]
theorem g32 : Tryd.prog.globalNamed "math/bits.deBruijn32tab" = some 0 := by kernel_rfl
theorem g64 : Tryd.prog.globalNamed "math/bits.deBruijn64tab" = some 1 := by kernel_rfl
theorem ty64 : (Tryd.prog.globals[1]?).map (·.type) = some 116 := by kernel_rfl
theorem tab64 : (Rows.laid_math_bits_deBruijn64tab : DataW Unit) = .agg (Go.Lib.deBruijn64tab.map fun v : Nat => .lit (.int .u8 (v : Int))) := by kernel_rfl
theorem cells64 : ∀ j, j < 64 → ∃ v : Nat, (Go.Lib.deBruijn64tab.getD j 0) = v ∧ ∀ xs : List (DataW Unit), (Rows.laid_math_bits_deBruijn64tab : DataW Unit) = .agg xs → xs[j]? = some (.lit (.int .u8 (v : Int))) := by
  intro j hj
  refine ⟨_, rfl, fun xs hx => ?_⟩
  rw [tab64] at hx
  simp only [DataW.agg.injEq] at hx
  subst hx
  have hl : j < Go.Lib.deBruijn64tab.length := hj
  rw [List.getElem?_map, List.getElem?_eq_getElem hl, List.getD_eq_getElem?_getD, List.getElem?_eq_getElem hl]
  rfl
theorem of_laid {W : World} (h : laidMetH Tryd.prog laid2 W) : TabG W := by
  rw [MakeChecks.laidMetH_plain _ _ _ (by kernel_rfl)] at h
  obtain ⟨ps, ⟨g0, t0, cs0, f0, p0, q0, hg0, ht0, hv0, hd0, ⟨g1, t1, cs1, f1, p1, q1, hg1, ht1, hv1, hd1, _, _⟩, _⟩, _, _⟩ := h
  obtain rfl := Option.some.inj (g64.symm.trans hg1)
  obtain rfl := Option.some.inj (ty64.symm.trans ht1)
  obtain ⟨xs, m1, rfl, hx1, hlen, hn3, hel⟩ := DataW.trod_array Tryd.underlying116 hd1
  have c1 : Tryd.prog.cellsOf 5 = 1 := by kernel_rfl
  have c64 : Tryd.prog.cellsOf 116 = 64 := by kernel_rfl
  simp only [Prod.mk.injEq] at hx1
  intro j hj
  have hj : j < 64 := hj
  have h0 := hel j hj
  obtain ⟨v, hv, hcs⟩ := cells64 j hj
  have h2 := hcs _ hx1.1
  rw [hv]
  have hjx : j < xs.length := by rw [hn3]; exact hj
  rw [List.getElem?_map, List.getElem?_eq_getElem hjx] at h2
  rw [List.getElem?_eq_getElem hjx] at h0
  simp only [Option.map_some, Option.some.injEq] at h2
  generalize xs[j] = x0 at h0 h2
  have hjl : j < cs1.toList.length := by rw [hlen, c64]; exact hj
  rw [c1, Nat.mul_one, List.drop_eq_getElem_cons hjl, List.take_succ_cons, List.take_zero] at h0
  obtain ⟨k, e1, e2, _⟩ := DataW.trod_int Tryd.underlying5 h0
  subst e2
  simp only [DataW.lit.injEq, Lit.int.injEq, true_and] at h2
  subst h2
  have hc := World.var?_cell hg1 hv1 j
  rw [hc, ← Array.getElem?_toList, List.getElem?_eq_getElem hjl]
  exact congrArg some (List.cons.inj e1).1
theorem door_met (os : Os) (args : Array Value) : laidMetH Tryd.prog laid2 ((World.doorLaid Tryd.prog 400 os).forCall (fun _ _ => 0) ⟨#[], args, []⟩).memory :=
  laidMetH_of_parts3 (fuel := 8) (laidMet_of_run' 8 (by kernel_rfl) (by kernel_rfl)) (by kernel_rfl) (by kernel_rfl)
set_option maxRecDepth 100000 in
theorem lifted (os : Os) (started : os.Started) (H : Type) (enc : TypeId × Value → H) :
    ReturnsInHanded {} Tryd.checked os 3 .any (fun w args => (Rows.fnExactEternalFamilySpec.pre enc Tryd.prog Tryd.f3 [] false w args ∧ laidMetH Tryd.prog laid2 w) ∧ sizedMet enc Tryd.prog Tryd.f3 (OpenSpec.ofChange Rows.fnExactEternalFamilySpec) false w args) (Rows.fnExactEternalFamilySpec.post enc Tryd.prog Tryd.f3 false true false false) := by
  refine returnsInHanded_of_change_and (C := Tryd.checked) (X := fun w _ => laidMetH Tryd.prog laid2 w) (fun _ _ _ hh h => h.of_heap hh) own started (by kernel_rfl) Tryd.func3
    (ChangeSpec.witness_shaped (enc := enc) (C := Tryd.checked) (os := os) (X := fun w _ => laidMetH Tryd.prog laid2 w) false (World.doorLaid Tryd.prog 400 os) #[.agg #[.int .i64 0, .slice none 0 0], .int .i64 0, .bool false] 8 rfl (World.shaped_of_RefB (by kernel_rfl) (by kernel_rfl)) (by kernel_rfl) (by kernel_rfl) (by kernel_rfl) (door_met os _)) ?_
  intro W base args ds gs before hval0 hW hcnd _ hL _
  have hval : ∀ (j : Nat) t v, Tryd.f3.params[j]? = some t → args[j]? = some v → Value.okWide Tryd.prog W .any base t v := hval0
  have hW' := hW
  obtain ⟨p, q, hA0, hV, rfl, hfz, hnd⟩ := hW
  have hA : DataW.TrodAll enc Tryd.prog W 0 (fun _ => true) true Tryd.f3.params.toList args.toList ds p := hA0
  rw [Tryd.params3] at hA hval
  obtain ⟨v0, vs0, d0, ds0, p0, q0, hargs, rfl, rfl, h0, r0⟩ := trodAll_cons hA
  obtain ⟨v1, vs1, d1, ds1, p1, q1, rfl, rfl, rfl, h1, r1⟩ := trodAll_cons r0
  obtain ⟨v2, vs2, d2, ds2, p2, q2, rfl, rfl, rfl, h2, r2⟩ := trodAll_cons r1
  obtain ⟨rfl, rfl, rfl⟩ := trodAll_nil r2
  obtain rfl : args = #[v0, v1, v2] := by cases args; simp_all
  obtain ⟨rfl, rfl⟩ := trodVars_none hV
  have k0 := h0
  have lt0 : ∀ x ∈ p0, x.block < W.heap.size := by obtain ⟨m, hm⟩ := k0; exact DataW.trod_lt m _ _ _ hm
  obtain ⟨n0, A0, c0, l0, rfl, wn0, hc0, hr0, we0⟩ := open_graph (hval 0 24 v0 rfl rfl) h0
  obtain ⟨a1, rfl, rfl, rfl, w1⟩ := open_int Tryd.underlying3 (hval 1 3 v1 rfl rfl) h1
  obtain ⟨a2, rfl, rfl, rfl⟩ := open_bool Tryd.underlying4 (hval 2 4 v2 rfl rfl) h2
  clear hA0 hval0
  obtain ⟨k, hk⟩ := (FnExactEternalFamily_pure n0 l0 a1 a2 (len_le hr0) w1).rounds
  refine (laws_FnExactEternalFamily.calls k n0 A0 c0 l0 a1 a2 true W (of_laid hL) hr0 hc0 hk).mono ?_
  rintro e W' ⟨rfl, bel⟩
  exact ⟨_, rfl, _, _, _, [], _, [], hW', trodAll_mk1 (shut_bool Tryd.underlying4 _), (trodAll_cons_mk (Below.trod laidOut (by kernel_rfl) (of_decide_eq_true (by kernel_rfl)) k0 bel lt0) (trodAll_cons_mk (shut_int Tryd.underlying3 w1) (trodAll_cons_mk (shut_bool Tryd.underlying4 _) trodAll_mk0))), rfl, bel.frame _, fun h => by cases h⟩
theorem over : Rows.fnExactEternalFamilyRow.holds Tryd.pinned (OpenSpec.ofChange Rows.fnExactEternalFamilySpec) :=
  OpenClaim.holds_of_wide 3 Tryd.f3 rfl rfl rfl rfl rfl rfl rfl ⟨rfl, rfl, rfl, rfl, rfl⟩ rfl rfl rfl rfl rfl (by kernel_rfl) Tryd.func3 (by kernel_rfl)
    (of_decide_eq_true (by kernel_rfl)) (by unfold Func.isWrapper; first | (rw [if_pos (by decide +kernel)]; kernel_rfl) | (rw [if_neg (by decide +kernel)]; exact ⟨rfl, rfl⟩))
    (fun os started H enc _ => lifted os started H enc)
end Go.Proofs.YtgahlimikndecaaDoor.fnExactEternalFamily
namespace Go.Proofs.YtgahlimikndecaaDoor
theorem fnExactEternalFamily_row : Rows.FnExactEternalFamilySaid := fnExactEternalFamily.over
theorem fnExactEternalFamily_holds : Rows.FnExactEternalFamilyCardSaid :=
  Claim7.holds_tied_plain_at .later [] [.data, .data] true (true, "d988f4d50d99375dcf189df8bab2913408ed6f3bb434e9d231990ffe5b46a2ce") false
    fnExactEternalFamily_row (fun _ h => by cases h) (by kernel_rfl) (fun _ h => by cases h) fnExactEternalFamily_row_tie rfl ⟨rfl, rfl⟩ (by kernel_rfl) rfl
    (fun f fn hf hfn => by
      obtain rfl : f = 3 := Option.some.inj ((show Tryd.prog.funcNamed "loop.example/g01109/laws.FnExactEternalFamily" = some 3 by kernel_rfl).symm.trans hf) |>.symm
      obtain rfl : fn = Tryd.f3 := (Option.some.inj (Tryd.func3.symm.trans hfn)).symm
      exact ⟨by kernel_rfl, fun j t ht => by
        rw [Tryd.params3] at ht
        have hm : t ∈ #[24, 3, 4] := Array.mem_of_getElem? ht
        simp only [List.mem_toArray, List.mem_cons, List.not_mem_nil, or_false] at hm
        rcases hm with rfl | rfl | rfl
        · exact (show Tryd.prog.wantsStandIn 24 = false by kernel_rfl)
        · exact (show Tryd.prog.wantsStandIn 3 = false by kernel_rfl)
        · exact (show Tryd.prog.wantsStandIn 4 = false by kernel_rfl)
      ⟩)
    (by kernel_rfl)
#print axioms fnExactEternalFamily_holds
end Go.Proofs.YtgahlimikndecaaDoor
