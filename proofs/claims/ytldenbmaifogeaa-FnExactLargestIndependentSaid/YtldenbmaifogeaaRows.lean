/-
  No cell of these rows narrows 'for every input' (looked for: loops, veiled, ifaces, maps, wideKeys, modest, calm, conditions, laid).
  DERIVED. THE GIVEN ROWS OF THIS SEAT. 7 by the template 'for every input the law returns true; each argument reads behind the call as it read before'; 0 by the template 'total and deterministic' (their statements: YtldenbmaifogeaaTotals.lean).
  GIVEN WITH THE SEED: the statements are not yours to turn. If you find one false, say at which input.
  Laid BY PROGRAM, IN A SANDBOX (cutbox-rows.mjs): the forced cells as the released guide's own fill.sh prints them over the translation 62200549619e9954… (all of the seat's roots in one cut). By AI agents, Wed Nov 11 2026. No macro, syntax, notation, axiom, sorry.
-/
import Derived.Test.YtldenbmaifogeaaChecked
import GoSem.Claim
import GoSem.ClaimJoined
import GoSem.ClaimMapViews
import Derived.JoinedTies
import Derived.KernelRfl
namespace Go.Proofs.Ytldenbmaifogeaa
/- THE CELL 'sum', in the pinned program and in every row, IS THE sha256 OF THE DUMP (.gsa) THAT YtldenbmaifogeaaProg.lean LOADS. Nothing in Lean hashes anything: it is a label: what it is worth is what the hold of that sum in a sandbox is worth. -/
noncomputable def Try.pinned : Pinned := { name := "ytldenbmaifogeaa", sum := "62200549619e995472e04494b4d4f28d2c75c9d100c85245d1b836f1ae880532", checked := Try.checked }
namespace Rows
def none {H : Type} : Left H := { results := [], args := [] }

/-- 'laws.FnExactSavedNodes': WHATEVER THE INPUT: true; the input reads as it did. -/
def fnExactSavedNodesSpec : ChangeSpec := { name := "fnExactSavedNodes", fn := fun _ => fun
  | [d1, d2, d3, d4] => { results := [.lit (.bool true)], args := [d1, d2, d3, d4] }
  | _ => none }
def fnExactSavedNodesRow : OpenClaim := { program := "ytldenbmaifogeaa", sum := "62200549619e995472e04494b4d4f28d2c75c9d100c85245d1b836f1ae880532", func := "loop.example/g01109/laws.FnExactSavedNodes", spec := "fnExactSavedNodes", apart := false }
def FnExactSavedNodesSaid : Prop := fnExactSavedNodesRow.holds Try.pinned (OpenSpec.ofChange fnExactSavedNodesSpec)

/-- ITS FALSE NEIGHBOUR: 'it returns false'. Refute it at one input. -/
def fnExactSavedNodesWrong : ChangeSpec := { name := "fnExactSavedNodes", fn := fun _ => fun
  | [d1, d2, d3, d4] => { results := [.lit (.bool false)], args := [d1, d2, d3, d4] }
  | _ => none }
def FnExactSavedNodesWrongFalsely : Prop := fnExactSavedNodesRow.holds Try.pinned (OpenSpec.ofChange fnExactSavedNodesWrong)

/-- 'laws.FnExactBestFirePlan': WHATEVER THE INPUT: true; the input reads as it did. -/
def fnExactBestFirePlanSpec : ChangeSpec := { name := "fnExactBestFirePlan", fn := fun _ => fun
  | [d1, d2, d3] => { results := [.lit (.bool true)], args := [d1, d2, d3] }
  | _ => none }
def fnExactBestFirePlanRow : OpenClaim := { program := "ytldenbmaifogeaa", sum := "62200549619e995472e04494b4d4f28d2c75c9d100c85245d1b836f1ae880532", func := "loop.example/g01109/laws.FnExactBestFirePlan", spec := "fnExactBestFirePlan", recurses := true, apart := false }
def FnExactBestFirePlanSaid : Prop := fnExactBestFirePlanRow.holds Try.pinned (OpenSpec.ofChange fnExactBestFirePlanSpec)

/-- ITS FALSE NEIGHBOUR: 'it returns false'. Refute it at one input. -/
def fnExactBestFirePlanWrong : ChangeSpec := { name := "fnExactBestFirePlan", fn := fun _ => fun
  | [d1, d2, d3] => { results := [.lit (.bool false)], args := [d1, d2, d3] }
  | _ => none }
def FnExactBestFirePlanWrongFalsely : Prop := fnExactBestFirePlanRow.holds Try.pinned (OpenSpec.ofChange fnExactBestFirePlanWrong)

/-- 'laws.FnExactBurningSets': WHATEVER THE INPUT: true; the input reads as it did. -/
def fnExactBurningSetsSpec : ChangeSpec := { name := "fnExactBurningSets", fn := fun _ => fun
  | [d1, d2, d3, d4] => { results := [.lit (.bool true)], args := [d1, d2, d3, d4] }
  | _ => none }
def fnExactBurningSetsRow : OpenClaim := { program := "ytldenbmaifogeaa", sum := "62200549619e995472e04494b4d4f28d2c75c9d100c85245d1b836f1ae880532", func := "loop.example/g01109/laws.FnExactBurningSets", spec := "fnExactBurningSets", apart := false }
def FnExactBurningSetsSaid : Prop := fnExactBurningSetsRow.holds Try.pinned (OpenSpec.ofChange fnExactBurningSetsSpec)

/-- ITS FALSE NEIGHBOUR: 'it returns false'. Refute it at one input. -/
def fnExactBurningSetsWrong : ChangeSpec := { name := "fnExactBurningSets", fn := fun _ => fun
  | [d1, d2, d3, d4] => { results := [.lit (.bool false)], args := [d1, d2, d3, d4] }
  | _ => none }
def FnExactBurningSetsWrongFalsely : Prop := fnExactBurningSetsRow.holds Try.pinned (OpenSpec.ofChange fnExactBurningSetsWrong)

/-- 'laws.FnExactGuardSets': WHATEVER THE INPUT: true; the input reads as it did. -/
def fnExactGuardSetsSpec : ChangeSpec := { name := "fnExactGuardSets", fn := fun _ => fun
  | [d1, d2] => { results := [.lit (.bool true)], args := [d1, d2] }
  | _ => none }
def fnExactGuardSetsRow : OpenClaim := { program := "ytldenbmaifogeaa", sum := "62200549619e995472e04494b4d4f28d2c75c9d100c85245d1b836f1ae880532", func := "loop.example/g01109/laws.FnExactGuardSets", spec := "fnExactGuardSets", recurses := true, apart := false }
def FnExactGuardSetsSaid : Prop := fnExactGuardSetsRow.holds Try.pinned (OpenSpec.ofChange fnExactGuardSetsSpec)

/-- ITS FALSE NEIGHBOUR: 'it returns false'. Refute it at one input. -/
def fnExactGuardSetsWrong : ChangeSpec := { name := "fnExactGuardSets", fn := fun _ => fun
  | [d1, d2] => { results := [.lit (.bool false)], args := [d1, d2] }
  | _ => none }
def FnExactGuardSetsWrongFalsely : Prop := fnExactGuardSetsRow.holds Try.pinned (OpenSpec.ofChange fnExactGuardSetsWrong)

/-- 'laws.FnExactIsFort': WHATEVER THE INPUT: true; the input reads as it did. -/
def fnExactIsFortSpec : ChangeSpec := { name := "fnExactIsFort", fn := fun _ => fun
  | [d1, d2] => { results := [.lit (.bool true)], args := [d1, d2] }
  | _ => none }
def fnExactIsFortRow : OpenClaim := { program := "ytldenbmaifogeaa", sum := "62200549619e995472e04494b4d4f28d2c75c9d100c85245d1b836f1ae880532", func := "loop.example/g01109/laws.FnExactIsFort", spec := "fnExactIsFort", unfollowed := true, recurses := true, apart := false }
def FnExactIsFortSaid : Prop := fnExactIsFortRow.holds Try.pinned (OpenSpec.ofChange fnExactIsFortSpec)

/-- ITS FALSE NEIGHBOUR: 'it returns false'. Refute it at one input. -/
def fnExactIsFortWrong : ChangeSpec := { name := "fnExactIsFort", fn := fun _ => fun
  | [d1, d2] => { results := [.lit (.bool false)], args := [d1, d2] }
  | _ => none }
def FnExactIsFortWrongFalsely : Prop := fnExactIsFortRow.holds Try.pinned (OpenSpec.ofChange fnExactIsFortWrong)

/-- 'laws.FnExactIsCliqueCover': WHATEVER THE INPUT: true; the input reads as it did. -/
def fnExactIsCliqueCoverSpec : ChangeSpec := { name := "fnExactIsCliqueCover", fn := fun _ => fun
  | [d1, d2] => { results := [.lit (.bool true)], args := [d1, d2] }
  | _ => none }
def fnExactIsCliqueCoverRow : OpenClaim := { program := "ytldenbmaifogeaa", sum := "62200549619e995472e04494b4d4f28d2c75c9d100c85245d1b836f1ae880532", func := "loop.example/g01109/laws.FnExactIsCliqueCover", spec := "fnExactIsCliqueCover", unfollowed := true, recurses := true, apart := false }
def FnExactIsCliqueCoverSaid : Prop := fnExactIsCliqueCoverRow.holds Try.pinned (OpenSpec.ofChange fnExactIsCliqueCoverSpec)

/-- ITS FALSE NEIGHBOUR: 'it returns false'. Refute it at one input. -/
def fnExactIsCliqueCoverWrong : ChangeSpec := { name := "fnExactIsCliqueCover", fn := fun _ => fun
  | [d1, d2] => { results := [.lit (.bool false)], args := [d1, d2] }
  | _ => none }
def FnExactIsCliqueCoverWrongFalsely : Prop := fnExactIsCliqueCoverRow.holds Try.pinned (OpenSpec.ofChange fnExactIsCliqueCoverWrong)

/-- 'laws.FnExactLargestIndependent': WHATEVER THE INPUT: true; the input reads as it did. -/
def fnExactLargestIndependentSpec : ChangeSpec := { name := "fnExactLargestIndependent", fn := fun _ => fun
  | [d] => { results := [.lit (.bool true)], args := [d] }
  | _ => none }
def fnExactLargestIndependentRow : OpenClaim := { program := "ytldenbmaifogeaa", sum := "62200549619e995472e04494b4d4f28d2c75c9d100c85245d1b836f1ae880532", func := "loop.example/g01109/laws.FnExactLargestIndependent", spec := "fnExactLargestIndependent", unfollowed := true, recurses := true, apart := false }
def FnExactLargestIndependentSaid : Prop := fnExactLargestIndependentRow.holds Try.pinned (OpenSpec.ofChange fnExactLargestIndependentSpec)

/-- ITS FALSE NEIGHBOUR: 'it returns false'. Refute it at one input. -/
def fnExactLargestIndependentWrong : ChangeSpec := { name := "fnExactLargestIndependent", fn := fun _ => fun
  | [d] => { results := [.lit (.bool false)], args := [d] }
  | _ => none }
def FnExactLargestIndependentWrongFalsely : Prop := fnExactLargestIndependentRow.holds Try.pinned (OpenSpec.ofChange fnExactLargestIndependentWrong)

/- THE SECOND FORM. 'bulk': how many values and letters a reading holds, each counted each time it is reached (what is shared counts as often as it is met; a slice's spare places count too). A statement '..UptoSaid' is the law's where the arguments, and the package variables that the reading takes, are together of bulk at most 1048576: NARROWER than '..Said'. Prove '..Said' where nothing that the law and all that it calls make is longer than what came in: it says more and counts as full. Else prove '..UptoSaid'. A law counts once. -/
mutual
def uptoBulk {H : Type} : DataW H → Nat
  | .lit (.string bytes) => bytes.length + 1
  | .lit _ => 1
  | .nil => 1
  | .ptr d => uptoBulk d + 1
  | .slice elems spare => uptoBulkAll elems + uptoBulkAll spare + 1
  | .agg parts => uptoBulkAll parts + 1
  | .iface _ d => uptoBulk d + 1
  | .map entries => uptoBulkEntries entries + 1
  | .held _ => 1
def uptoBulkAll {H : Type} : List (DataW H) → Nat
  | [] => 0
  | d :: r => uptoBulk d + uptoBulkAll r
def uptoBulkEntries {H : Type} : List (Lit × DataW H) → Nat
  | [] => 0
  | x :: r => uptoBulkEntry x + uptoBulkEntries r
def uptoBulkEntry {H : Type} : Lit × DataW H → Nat
  | (.string bytes, d) => bytes.length + uptoBulk d + 1
  | (_, d) => uptoBulk d + 1
 end
def uptoSmall : (H : Type) → List (DataW H) → Bool := fun _ ds => decide (uptoBulkAll ds ≤ 1048576)
def OpenSpec.upto (s : _root_.Go.ChangeSpec) : _root_.Go.OpenSpec := { _root_.Go.OpenSpec.ofChange s with cond := some uptoSmall }

/-- 'laws.FnExactSavedNodes', WHERE WHAT IT READS IS OF BULK AT MOST 1048576: true; the input reads as it did. -/
def fnExactSavedNodesUptoRow : OpenClaim := { program := "ytldenbmaifogeaa", sum := "62200549619e995472e04494b4d4f28d2c75c9d100c85245d1b836f1ae880532", func := "loop.example/g01109/laws.FnExactSavedNodes", spec := "fnExactSavedNodes", apart := false, narrowed := true }
def FnExactSavedNodesUptoSaid : Prop := fnExactSavedNodesUptoRow.holds Try.pinned (OpenSpec.upto fnExactSavedNodesSpec)

/-- 'laws.FnExactBestFirePlan', WHERE WHAT IT READS IS OF BULK AT MOST 1048576: true; the input reads as it did. -/
def fnExactBestFirePlanUptoRow : OpenClaim := { program := "ytldenbmaifogeaa", sum := "62200549619e995472e04494b4d4f28d2c75c9d100c85245d1b836f1ae880532", func := "loop.example/g01109/laws.FnExactBestFirePlan", spec := "fnExactBestFirePlan", recurses := true, apart := false, narrowed := true }
def FnExactBestFirePlanUptoSaid : Prop := fnExactBestFirePlanUptoRow.holds Try.pinned (OpenSpec.upto fnExactBestFirePlanSpec)

/-- 'laws.FnExactBurningSets', WHERE WHAT IT READS IS OF BULK AT MOST 1048576: true; the input reads as it did. -/
def fnExactBurningSetsUptoRow : OpenClaim := { program := "ytldenbmaifogeaa", sum := "62200549619e995472e04494b4d4f28d2c75c9d100c85245d1b836f1ae880532", func := "loop.example/g01109/laws.FnExactBurningSets", spec := "fnExactBurningSets", apart := false, narrowed := true }
def FnExactBurningSetsUptoSaid : Prop := fnExactBurningSetsUptoRow.holds Try.pinned (OpenSpec.upto fnExactBurningSetsSpec)

/-- 'laws.FnExactGuardSets', WHERE WHAT IT READS IS OF BULK AT MOST 1048576: true; the input reads as it did. -/
def fnExactGuardSetsUptoRow : OpenClaim := { program := "ytldenbmaifogeaa", sum := "62200549619e995472e04494b4d4f28d2c75c9d100c85245d1b836f1ae880532", func := "loop.example/g01109/laws.FnExactGuardSets", spec := "fnExactGuardSets", recurses := true, apart := false, narrowed := true }
def FnExactGuardSetsUptoSaid : Prop := fnExactGuardSetsUptoRow.holds Try.pinned (OpenSpec.upto fnExactGuardSetsSpec)

/-- 'laws.FnExactIsFort', WHERE WHAT IT READS IS OF BULK AT MOST 1048576: true; the input reads as it did. -/
def fnExactIsFortUptoRow : OpenClaim := { program := "ytldenbmaifogeaa", sum := "62200549619e995472e04494b4d4f28d2c75c9d100c85245d1b836f1ae880532", func := "loop.example/g01109/laws.FnExactIsFort", spec := "fnExactIsFort", unfollowed := true, recurses := true, apart := false, narrowed := true }
def FnExactIsFortUptoSaid : Prop := fnExactIsFortUptoRow.holds Try.pinned (OpenSpec.upto fnExactIsFortSpec)

/-- 'laws.FnExactIsCliqueCover', WHERE WHAT IT READS IS OF BULK AT MOST 1048576: true; the input reads as it did. -/
def fnExactIsCliqueCoverUptoRow : OpenClaim := { program := "ytldenbmaifogeaa", sum := "62200549619e995472e04494b4d4f28d2c75c9d100c85245d1b836f1ae880532", func := "loop.example/g01109/laws.FnExactIsCliqueCover", spec := "fnExactIsCliqueCover", unfollowed := true, recurses := true, apart := false, narrowed := true }
def FnExactIsCliqueCoverUptoSaid : Prop := fnExactIsCliqueCoverUptoRow.holds Try.pinned (OpenSpec.upto fnExactIsCliqueCoverSpec)

/-- 'laws.FnExactLargestIndependent', WHERE WHAT IT READS IS OF BULK AT MOST 1048576: true; the input reads as it did. -/
def fnExactLargestIndependentUptoRow : OpenClaim := { program := "ytldenbmaifogeaa", sum := "62200549619e995472e04494b4d4f28d2c75c9d100c85245d1b836f1ae880532", func := "loop.example/g01109/laws.FnExactLargestIndependent", spec := "fnExactLargestIndependent", unfollowed := true, recurses := true, apart := false, narrowed := true }
def FnExactLargestIndependentUptoSaid : Prop := fnExactLargestIndependentUptoRow.holds Try.pinned (OpenSpec.upto fnExactLargestIndependentSpec)

end Rows
end Go.Proofs.Ytldenbmaifogeaa
