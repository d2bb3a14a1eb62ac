/-
  No cell of these rows narrows 'for every input' (looked for: loops, veiled, ifaces, maps, wideKeys, modest, calm, conditions, laid).
  DERIVED. THE GIVEN ROWS OF THIS SEAT. 8 by the template 'for every input the law returns true; each argument reads behind the call as it read before'; 0 by the template 'total and deterministic' (their statements: YtmokkhfmbenleaaTotals.lean).
  GIVEN WITH THE SEED: the statements are not yours to turn. If you find one false, say at which input.
  Laid BY PROGRAM, IN A SANDBOX (cutbox-rows.mjs): the forced cells as the released guide's own fill.sh prints them over the translation f882acce08db1f5d… (all of the seat's roots in one cut). By AI agents, Wed Nov 11 2026. No macro, syntax, notation, axiom, sorry.
-/
import Derived.Test.YtmokkhfmbenleaaChecked
import GoSem.Claim
import GoSem.ClaimJoined
import GoSem.ClaimMapViews
import Derived.JoinedTies
import Derived.KernelRfl
namespace Go.Proofs.Ytmokkhfmbenleaa
/- THE CELL 'sum', in the pinned program and in every row, IS THE sha256 OF THE DUMP (.gsa) THAT YtmokkhfmbenleaaProg.lean LOADS. Nothing in Lean hashes anything: it is a label: what it is worth is what the hold of that sum in a sandbox is worth. -/
noncomputable def Try.pinned : Pinned := { name := "ytmokkhfmbenleaa", sum := "f882acce08db1f5d4b53aff0a4ce6fbefd0681901783d9292dc0bca12bf0c2b3", checked := Try.checked }
namespace Rows
def none {H : Type} : Left H := { results := [], args := [] }

/-- 'laws.FnExactSavedNodes': WHATEVER THE INPUT: true; the input reads as it did. -/
def fnExactSavedNodesSpec : ChangeSpec := { name := "fnExactSavedNodes", fn := fun _ => fun
  | [d1, d2, d3, d4] => { results := [.lit (.bool true)], args := [d1, d2, d3, d4] }
  | _ => none }
def fnExactSavedNodesRow : OpenClaim := { program := "ytmokkhfmbenleaa", sum := "f882acce08db1f5d4b53aff0a4ce6fbefd0681901783d9292dc0bca12bf0c2b3", func := "loop.example/g01109/laws.FnExactSavedNodes", spec := "fnExactSavedNodes", apart := false }
def FnExactSavedNodesSaid : Prop := fnExactSavedNodesRow.holds Try.pinned (OpenSpec.ofChange fnExactSavedNodesSpec)

/-- ITS FALSE NEIGHBOUR: 'it returns false'. Refute it at one input. -/
def fnExactSavedNodesWrong : ChangeSpec := { name := "fnExactSavedNodes", fn := fun _ => fun
  | [d1, d2, d3, d4] => { results := [.lit (.bool false)], args := [d1, d2, d3, d4] }
  | _ => none }
def FnExactSavedNodesWrongFalsely : Prop := fnExactSavedNodesRow.holds Try.pinned (OpenSpec.ofChange fnExactSavedNodesWrong)

/-- 'laws.FnExactBestFirePlan': WHATEVER THE INPUT: true; the input reads as it did. -/
def fnExactBestFirePlanSpec : ChangeSpec := { name := "fnExactBestFirePlan", fn := fun _ => fun
  | [d1, d2, d3] => { results := [.lit (.bool true)], args := [d1, d2, d3] }
  | _ => none }
def fnExactBestFirePlanRow : OpenClaim := { program := "ytmokkhfmbenleaa", sum := "f882acce08db1f5d4b53aff0a4ce6fbefd0681901783d9292dc0bca12bf0c2b3", func := "loop.example/g01109/laws.FnExactBestFirePlan", spec := "fnExactBestFirePlan", recurses := true, apart := false }
def FnExactBestFirePlanSaid : Prop := fnExactBestFirePlanRow.holds Try.pinned (OpenSpec.ofChange fnExactBestFirePlanSpec)

/-- ITS FALSE NEIGHBOUR: 'it returns false'. Refute it at one input. -/
def fnExactBestFirePlanWrong : ChangeSpec := { name := "fnExactBestFirePlan", fn := fun _ => fun
  | [d1, d2, d3] => { results := [.lit (.bool false)], args := [d1, d2, d3] }
  | _ => none }
def FnExactBestFirePlanWrongFalsely : Prop := fnExactBestFirePlanRow.holds Try.pinned (OpenSpec.ofChange fnExactBestFirePlanWrong)

/-- 'laws.FnExactBurningSets': WHATEVER THE INPUT: true; the input reads as it did. -/
def fnExactBurningSetsSpec : ChangeSpec := { name := "fnExactBurningSets", fn := fun _ => fun
  | [d1, d2, d3, d4] => { results := [.lit (.bool true)], args := [d1, d2, d3, d4] }
  | _ => none }
def fnExactBurningSetsRow : OpenClaim := { program := "ytmokkhfmbenleaa", sum := "f882acce08db1f5d4b53aff0a4ce6fbefd0681901783d9292dc0bca12bf0c2b3", func := "loop.example/g01109/laws.FnExactBurningSets", spec := "fnExactBurningSets", apart := false }
def FnExactBurningSetsSaid : Prop := fnExactBurningSetsRow.holds Try.pinned (OpenSpec.ofChange fnExactBurningSetsSpec)

/-- ITS FALSE NEIGHBOUR: 'it returns false'. Refute it at one input. -/
def fnExactBurningSetsWrong : ChangeSpec := { name := "fnExactBurningSets", fn := fun _ => fun
  | [d1, d2, d3, d4] => { results := [.lit (.bool false)], args := [d1, d2, d3, d4] }
  | _ => none }
def FnExactBurningSetsWrongFalsely : Prop := fnExactBurningSetsRow.holds Try.pinned (OpenSpec.ofChange fnExactBurningSetsWrong)

/-- 'laws.FnSavedSum': WHATEVER THE INPUT: true; the input reads as it did. -/
def fnSavedSumSpec : ChangeSpec := { name := "fnSavedSum", fn := fun _ => fun
  | [d] => { results := [.lit (.bool true)], args := [d] }
  | _ => none }
def fnSavedSumRow : OpenClaim := { program := "ytmokkhfmbenleaa", sum := "f882acce08db1f5d4b53aff0a4ce6fbefd0681901783d9292dc0bca12bf0c2b3", func := "loop.example/g01109/laws.FnSavedSum", spec := "fnSavedSum", recurses := true, apart := false }
def FnSavedSumSaid : Prop := fnSavedSumRow.holds Try.pinned (OpenSpec.ofChange fnSavedSumSpec)

/-- ITS FALSE NEIGHBOUR: 'it returns false'. Refute it at one input. -/
def fnSavedSumWrong : ChangeSpec := { name := "fnSavedSum", fn := fun _ => fun
  | [d] => { results := [.lit (.bool false)], args := [d] }
  | _ => none }
def FnSavedSumWrongFalsely : Prop := fnSavedSumRow.holds Try.pinned (OpenSpec.ofChange fnSavedSumWrong)

/-- 'laws.FnClosures': WHATEVER THE INPUT: true; the input reads as it did. -/
def fnClosuresSpec : ChangeSpec := { name := "fnClosures", fn := fun _ => fun
  | [d] => { results := [.lit (.bool true)], args := [d] }
  | _ => none }
def fnClosuresRow : OpenClaim := { program := "ytmokkhfmbenleaa", sum := "f882acce08db1f5d4b53aff0a4ce6fbefd0681901783d9292dc0bca12bf0c2b3", func := "loop.example/g01109/laws.FnClosures", spec := "fnClosures", apart := false }
def FnClosuresSaid : Prop := fnClosuresRow.holds Try.pinned (OpenSpec.ofChange fnClosuresSpec)

/-- ITS FALSE NEIGHBOUR: 'it returns false'. Refute it at one input. -/
def fnClosuresWrong : ChangeSpec := { name := "fnClosures", fn := fun _ => fun
  | [d] => { results := [.lit (.bool false)], args := [d] }
  | _ => none }
def FnClosuresWrongFalsely : Prop := fnClosuresRow.holds Try.pinned (OpenSpec.ofChange fnClosuresWrong)

/-- 'laws.FnSpreading': WHATEVER THE INPUT: true; the input reads as it did. -/
def fnSpreadingSpec : ChangeSpec := { name := "fnSpreading", fn := fun _ => fun
  | [d] => { results := [.lit (.bool true)], args := [d] }
  | _ => none }
def fnSpreadingRow : OpenClaim := { program := "ytmokkhfmbenleaa", sum := "f882acce08db1f5d4b53aff0a4ce6fbefd0681901783d9292dc0bca12bf0c2b3", func := "loop.example/g01109/laws.FnSpreading", spec := "fnSpreading", unfollowed := true, recurses := true, apart := false }
def FnSpreadingSaid : Prop := fnSpreadingRow.holds Try.pinned (OpenSpec.ofChange fnSpreadingSpec)

/-- ITS FALSE NEIGHBOUR: 'it returns false'. Refute it at one input. -/
def fnSpreadingWrong : ChangeSpec := { name := "fnSpreading", fn := fun _ => fun
  | [d] => { results := [.lit (.bool false)], args := [d] }
  | _ => none }
def FnSpreadingWrongFalsely : Prop := fnSpreadingRow.holds Try.pinned (OpenSpec.ofChange fnSpreadingWrong)

/-- 'laws.FnExactLeastDominating': WHATEVER THE INPUT: true; the input reads as it did. -/
def fnExactLeastDominatingSpec : ChangeSpec := { name := "fnExactLeastDominating", fn := fun _ => fun
  | [d] => { results := [.lit (.bool true)], args := [d] }
  | _ => none }
def fnExactLeastDominatingRow : OpenClaim := { program := "ytmokkhfmbenleaa", sum := "f882acce08db1f5d4b53aff0a4ce6fbefd0681901783d9292dc0bca12bf0c2b3", func := "loop.example/g01109/laws.FnExactLeastDominating", spec := "fnExactLeastDominating", unfollowed := true, recurses := true, apart := false }
def FnExactLeastDominatingSaid : Prop := fnExactLeastDominatingRow.holds Try.pinned (OpenSpec.ofChange fnExactLeastDominatingSpec)

/-- ITS FALSE NEIGHBOUR: 'it returns false'. Refute it at one input. -/
def fnExactLeastDominatingWrong : ChangeSpec := { name := "fnExactLeastDominating", fn := fun _ => fun
  | [d] => { results := [.lit (.bool false)], args := [d] }
  | _ => none }
def FnExactLeastDominatingWrongFalsely : Prop := fnExactLeastDominatingRow.holds Try.pinned (OpenSpec.ofChange fnExactLeastDominatingWrong)

/-- 'laws.FnExactLeastPower': WHATEVER THE INPUT: true; the input reads as it did. -/
def fnExactLeastPowerSpec : ChangeSpec := { name := "fnExactLeastPower", fn := fun _ => fun
  | [d] => { results := [.lit (.bool true)], args := [d] }
  | _ => none }
def fnExactLeastPowerRow : OpenClaim := { program := "ytmokkhfmbenleaa", sum := "f882acce08db1f5d4b53aff0a4ce6fbefd0681901783d9292dc0bca12bf0c2b3", func := "loop.example/g01109/laws.FnExactLeastPower", spec := "fnExactLeastPower", unfollowed := true, recurses := true, apart := false }
def FnExactLeastPowerSaid : Prop := fnExactLeastPowerRow.holds Try.pinned (OpenSpec.ofChange fnExactLeastPowerSpec)

/-- ITS FALSE NEIGHBOUR: 'it returns false'. Refute it at one input. -/
def fnExactLeastPowerWrong : ChangeSpec := { name := "fnExactLeastPower", fn := fun _ => fun
  | [d] => { results := [.lit (.bool false)], args := [d] }
  | _ => none }
def FnExactLeastPowerWrongFalsely : Prop := fnExactLeastPowerRow.holds Try.pinned (OpenSpec.ofChange fnExactLeastPowerWrong)

/- THE SECOND FORM. 'bulk': how many values and letters a reading holds, each counted each time it is reached (what is shared counts as often as it is met; a slice's spare places count too). A statement '..UptoSaid' is the law's where the arguments, and the package variables that the reading takes, are together of bulk at most 1048576: NARROWER than '..Said'. Prove '..Said' where nothing that the law and all that it calls make is longer than what came in: it says more and counts as full. Else prove '..UptoSaid'. A law counts once. -/
mutual
def uptoBulk {H : Type} : DataW H → Nat
  | .lit (.string bytes) => bytes.length + 1
  | .lit _ => 1
  | .nil => 1
  | .ptr d => uptoBulk d + 1
  | .slice elems spare => uptoBulkAll elems + uptoBulkAll spare + 1
  | .agg parts => uptoBulkAll parts + 1
  | .iface _ d => uptoBulk d + 1
  | .map entries => uptoBulkEntries entries + 1
  | .held _ => 1
def uptoBulkAll {H : Type} : List (DataW H) → Nat
  | [] => 0
  | d :: r => uptoBulk d + uptoBulkAll r
def uptoBulkEntries {H : Type} : List (Lit × DataW H) → Nat
  | [] => 0
  | x :: r => uptoBulkEntry x + uptoBulkEntries r
def uptoBulkEntry {H : Type} : Lit × DataW H → Nat
  | (.string bytes, d) => bytes.length + uptoBulk d + 1
  | (_, d) => uptoBulk d + 1
 end
def uptoSmall : (H : Type) → List (DataW H) → Bool := fun _ ds => decide (uptoBulkAll ds ≤ 1048576)
def OpenSpec.upto (s : _root_.Go.ChangeSpec) : _root_.Go.OpenSpec := { _root_.Go.OpenSpec.ofChange s with cond := some uptoSmall }

/-- 'laws.FnExactSavedNodes', WHERE WHAT IT READS IS OF BULK AT MOST 1048576: true; the input reads as it did. -/
def fnExactSavedNodesUptoRow : OpenClaim := { program := "ytmokkhfmbenleaa", sum := "f882acce08db1f5d4b53aff0a4ce6fbefd0681901783d9292dc0bca12bf0c2b3", func := "loop.example/g01109/laws.FnExactSavedNodes", spec := "fnExactSavedNodes", apart := false, narrowed := true }
def FnExactSavedNodesUptoSaid : Prop := fnExactSavedNodesUptoRow.holds Try.pinned (OpenSpec.upto fnExactSavedNodesSpec)

/-- 'laws.FnExactBestFirePlan', WHERE WHAT IT READS IS OF BULK AT MOST 1048576: true; the input reads as it did. -/
def fnExactBestFirePlanUptoRow : OpenClaim := { program := "ytmokkhfmbenleaa", sum := "f882acce08db1f5d4b53aff0a4ce6fbefd0681901783d9292dc0bca12bf0c2b3", func := "loop.example/g01109/laws.FnExactBestFirePlan", spec := "fnExactBestFirePlan", recurses := true, apart := false, narrowed := true }
def FnExactBestFirePlanUptoSaid : Prop := fnExactBestFirePlanUptoRow.holds Try.pinned (OpenSpec.upto fnExactBestFirePlanSpec)

/-- 'laws.FnExactBurningSets', WHERE WHAT IT READS IS OF BULK AT MOST 1048576: true; the input reads as it did. -/
def fnExactBurningSetsUptoRow : OpenClaim := { program := "ytmokkhfmbenleaa", sum := "f882acce08db1f5d4b53aff0a4ce6fbefd0681901783d9292dc0bca12bf0c2b3", func := "loop.example/g01109/laws.FnExactBurningSets", spec := "fnExactBurningSets", apart := false, narrowed := true }
def FnExactBurningSetsUptoSaid : Prop := fnExactBurningSetsUptoRow.holds Try.pinned (OpenSpec.upto fnExactBurningSetsSpec)

/-- 'laws.FnSavedSum', WHERE WHAT IT READS IS OF BULK AT MOST 1048576: true; the input reads as it did. -/
def fnSavedSumUptoRow : OpenClaim := { program := "ytmokkhfmbenleaa", sum := "f882acce08db1f5d4b53aff0a4ce6fbefd0681901783d9292dc0bca12bf0c2b3", func := "loop.example/g01109/laws.FnSavedSum", spec := "fnSavedSum", recurses := true, apart := false, narrowed := true }
def FnSavedSumUptoSaid : Prop := fnSavedSumUptoRow.holds Try.pinned (OpenSpec.upto fnSavedSumSpec)

/-- 'laws.FnClosures', WHERE WHAT IT READS IS OF BULK AT MOST 1048576: true; the input reads as it did. -/
def fnClosuresUptoRow : OpenClaim := { program := "ytmokkhfmbenleaa", sum := "f882acce08db1f5d4b53aff0a4ce6fbefd0681901783d9292dc0bca12bf0c2b3", func := "loop.example/g01109/laws.FnClosures", spec := "fnClosures", apart := false, narrowed := true }
def FnClosuresUptoSaid : Prop := fnClosuresUptoRow.holds Try.pinned (OpenSpec.upto fnClosuresSpec)

/-- 'laws.FnSpreading', WHERE WHAT IT READS IS OF BULK AT MOST 1048576: true; the input reads as it did. -/
def fnSpreadingUptoRow : OpenClaim := { program := "ytmokkhfmbenleaa", sum := "f882acce08db1f5d4b53aff0a4ce6fbefd0681901783d9292dc0bca12bf0c2b3", func := "loop.example/g01109/laws.FnSpreading", spec := "fnSpreading", unfollowed := true, recurses := true, apart := false, narrowed := true }
def FnSpreadingUptoSaid : Prop := fnSpreadingUptoRow.holds Try.pinned (OpenSpec.upto fnSpreadingSpec)

/-- 'laws.FnExactLeastDominating', WHERE WHAT IT READS IS OF BULK AT MOST 1048576: true; the input reads as it did. -/
def fnExactLeastDominatingUptoRow : OpenClaim := { program := "ytmokkhfmbenleaa", sum := "f882acce08db1f5d4b53aff0a4ce6fbefd0681901783d9292dc0bca12bf0c2b3", func := "loop.example/g01109/laws.FnExactLeastDominating", spec := "fnExactLeastDominating", unfollowed := true, recurses := true, apart := false, narrowed := true }
def FnExactLeastDominatingUptoSaid : Prop := fnExactLeastDominatingUptoRow.holds Try.pinned (OpenSpec.upto fnExactLeastDominatingSpec)

/-- 'laws.FnExactLeastPower', WHERE WHAT IT READS IS OF BULK AT MOST 1048576: true; the input reads as it did. -/
def fnExactLeastPowerUptoRow : OpenClaim := { program := "ytmokkhfmbenleaa", sum := "f882acce08db1f5d4b53aff0a4ce6fbefd0681901783d9292dc0bca12bf0c2b3", func := "loop.example/g01109/laws.FnExactLeastPower", spec := "fnExactLeastPower", unfollowed := true, recurses := true, apart := false, narrowed := true }
def FnExactLeastPowerUptoSaid : Prop := fnExactLeastPowerUptoRow.holds Try.pinned (OpenSpec.upto fnExactLeastPowerSpec)

end Rows
end Go.Proofs.Ytmokkhfmbenleaa
