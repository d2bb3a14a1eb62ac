/-
  No cell of these rows narrows 'for every input' (looked for: loops, veiled, ifaces, maps, wideKeys, modest, calm, conditions, laid).
  DERIVED. THE GIVEN ROWS OF THIS SEAT. 5 by the template 'for every input the law returns true; each argument reads behind the call as it read before'; 0 by the template 'total and deterministic' (their statements: YtheplhphonfckaaTotals.lean).
  GIVEN WITH THE SEED: the statements are not yours to turn. If you find one false, say at which input.
  Laid BY PROGRAM, IN A SANDBOX (cutbox-rows.mjs): the forced cells as the released guide's own fill.sh prints them over the translation b7c001beda6f3725… (all of the seat's roots in one cut). By AI agents, Wed Nov 11 2026. No macro, syntax, notation, axiom, sorry.
-/
import Derived.Test.YtheplhphonfckaaChecked
import GoSem.Claim
import GoSem.ClaimJoined
import GoSem.ClaimMapViews
import Derived.JoinedTies
import Derived.KernelRfl
namespace Go.Proofs.Ytheplhphonfckaa
/- THE CELL 'sum', in the pinned program and in every row, IS THE sha256 OF THE DUMP (.gsa) THAT YtheplhphonfckaaProg.lean LOADS. Nothing in Lean hashes anything: it is a label: what it is worth is what the hold of that sum in a sandbox is worth. -/
noncomputable def Try.pinned : Pinned := { name := "ytheplhphonfckaa", sum := "b7c001beda6f37258c887856ff0060a8c33ae0c62a54357d98989f0ee69947c2", checked := Try.checked }
namespace Rows
def none {H : Type} : Left H := { results := [], args := [] }

/-- 'laws.FnExactIsDominating': WHATEVER THE INPUT: true; the input reads as it did. -/
def fnExactIsDominatingSpec : ChangeSpec := { name := "fnExactIsDominating", fn := fun _ => fun
  | [d1, d2] => { results := [.lit (.bool true)], args := [d1, d2] }
  | _ => none }
def fnExactIsDominatingRow : OpenClaim := { program := "ytheplhphonfckaa", sum := "b7c001beda6f37258c887856ff0060a8c33ae0c62a54357d98989f0ee69947c2", func := "loop.example/g01109/laws.FnExactIsDominating", spec := "fnExactIsDominating", apart := false }
def FnExactIsDominatingSaid : Prop := fnExactIsDominatingRow.holds Try.pinned (OpenSpec.ofChange fnExactIsDominatingSpec)

/-- ITS FALSE NEIGHBOUR: 'it returns false'. Refute it at one input. -/
def fnExactIsDominatingWrong : ChangeSpec := { name := "fnExactIsDominating", fn := fun _ => fun
  | [d1, d2] => { results := [.lit (.bool false)], args := [d1, d2] }
  | _ => none }
def FnExactIsDominatingWrongFalsely : Prop := fnExactIsDominatingRow.holds Try.pinned (OpenSpec.ofChange fnExactIsDominatingWrong)

/-- 'laws.FnExactGuardSets': WHATEVER THE INPUT: true; the input reads as it did. -/
def fnExactGuardSetsSpec : ChangeSpec := { name := "fnExactGuardSets", fn := fun _ => fun
  | [d1, d2] => { results := [.lit (.bool true)], args := [d1, d2] }
  | _ => none }
def fnExactGuardSetsRow : OpenClaim := { program := "ytheplhphonfckaa", sum := "b7c001beda6f37258c887856ff0060a8c33ae0c62a54357d98989f0ee69947c2", func := "loop.example/g01109/laws.FnExactGuardSets", spec := "fnExactGuardSets", recurses := true, apart := false }
def FnExactGuardSetsSaid : Prop := fnExactGuardSetsRow.holds Try.pinned (OpenSpec.ofChange fnExactGuardSetsSpec)

/-- ITS FALSE NEIGHBOUR: 'it returns false'. Refute it at one input. -/
def fnExactGuardSetsWrong : ChangeSpec := { name := "fnExactGuardSets", fn := fun _ => fun
  | [d1, d2] => { results := [.lit (.bool false)], args := [d1, d2] }
  | _ => none }
def FnExactGuardSetsWrongFalsely : Prop := fnExactGuardSetsRow.holds Try.pinned (OpenSpec.ofChange fnExactGuardSetsWrong)

/-- 'laws.FnExactLargestIndependent': WHATEVER THE INPUT: true; the input reads as it did. -/
def fnExactLargestIndependentSpec : ChangeSpec := { name := "fnExactLargestIndependent", fn := fun _ => fun
  | [d] => { results := [.lit (.bool true)], args := [d] }
  | _ => none }
def fnExactLargestIndependentRow : OpenClaim := { program := "ytheplhphonfckaa", sum := "b7c001beda6f37258c887856ff0060a8c33ae0c62a54357d98989f0ee69947c2", func := "loop.example/g01109/laws.FnExactLargestIndependent", spec := "fnExactLargestIndependent", unfollowed := true, recurses := true, apart := false }
def FnExactLargestIndependentSaid : Prop := fnExactLargestIndependentRow.holds Try.pinned (OpenSpec.ofChange fnExactLargestIndependentSpec)

/-- ITS FALSE NEIGHBOUR: 'it returns false'. Refute it at one input. -/
def fnExactLargestIndependentWrong : ChangeSpec := { name := "fnExactLargestIndependent", fn := fun _ => fun
  | [d] => { results := [.lit (.bool false)], args := [d] }
  | _ => none }
def FnExactLargestIndependentWrongFalsely : Prop := fnExactLargestIndependentRow.holds Try.pinned (OpenSpec.ofChange fnExactLargestIndependentWrong)

/-- 'laws.FnExactNullityOf': WHATEVER THE INPUT: true; the input reads as it did. -/
def fnExactNullityOfSpec : ChangeSpec := { name := "fnExactNullityOf", fn := fun _ => fun
  | [d1, d2] => { results := [.lit (.bool true)], args := [d1, d2] }
  | _ => none }
def fnExactNullityOfRow : OpenClaim := { program := "ytheplhphonfckaa", sum := "b7c001beda6f37258c887856ff0060a8c33ae0c62a54357d98989f0ee69947c2", func := "loop.example/g01109/laws.FnExactNullityOf", spec := "fnExactNullityOf", unfollowed := true, recurses := true, apart := false }
def FnExactNullityOfSaid : Prop := fnExactNullityOfRow.holds Try.pinned (OpenSpec.ofChange fnExactNullityOfSpec)

/-- ITS FALSE NEIGHBOUR: 'it returns false'. Refute it at one input. -/
def fnExactNullityOfWrong : ChangeSpec := { name := "fnExactNullityOf", fn := fun _ => fun
  | [d1, d2] => { results := [.lit (.bool false)], args := [d1, d2] }
  | _ => none }
def FnExactNullityOfWrongFalsely : Prop := fnExactNullityOfRow.holds Try.pinned (OpenSpec.ofChange fnExactNullityOfWrong)

/-- 'laws.FnExactIsForcing': WHATEVER THE INPUT: true; the input reads as it did. -/
def fnExactIsForcingSpec : ChangeSpec := { name := "fnExactIsForcing", fn := fun _ => fun
  | [d1, d2] => { results := [.lit (.bool true)], args := [d1, d2] }
  | _ => none }
def fnExactIsForcingRow : OpenClaim := { program := "ytheplhphonfckaa", sum := "b7c001beda6f37258c887856ff0060a8c33ae0c62a54357d98989f0ee69947c2", func := "loop.example/g01109/laws.FnExactIsForcing", spec := "fnExactIsForcing", apart := false }
def FnExactIsForcingSaid : Prop := fnExactIsForcingRow.holds Try.pinned (OpenSpec.ofChange fnExactIsForcingSpec)

/-- ITS FALSE NEIGHBOUR: 'it returns false'. Refute it at one input. -/
def fnExactIsForcingWrong : ChangeSpec := { name := "fnExactIsForcing", fn := fun _ => fun
  | [d1, d2] => { results := [.lit (.bool false)], args := [d1, d2] }
  | _ => none }
def FnExactIsForcingWrongFalsely : Prop := fnExactIsForcingRow.holds Try.pinned (OpenSpec.ofChange fnExactIsForcingWrong)

/- THE SECOND FORM. 'bulk': how many values and letters a reading holds, each counted each time it is reached (what is shared counts as often as it is met; a slice's spare places count too). A statement '..UptoSaid' is the law's where the arguments, and the package variables that the reading takes, are together of bulk at most 1048576: NARROWER than '..Said'. Prove '..Said' where nothing that the law and all that it calls make is longer than what came in: it says more and counts as full. Else prove '..UptoSaid'. A law counts once. -/
mutual
def uptoBulk {H : Type} : DataW H → Nat
  | .lit (.string bytes) => bytes.length + 1
  | .lit _ => 1
  | .nil => 1
  | .ptr d => uptoBulk d + 1
  | .slice elems spare => uptoBulkAll elems + uptoBulkAll spare + 1
  | .agg parts => uptoBulkAll parts + 1
  | .iface _ d => uptoBulk d + 1
  | .map entries => uptoBulkEntries entries + 1
  | .held _ => 1
def uptoBulkAll {H : Type} : List (DataW H) → Nat
  | [] => 0
  | d :: r => uptoBulk d + uptoBulkAll r
def uptoBulkEntries {H : Type} : List (Lit × DataW H) → Nat
  | [] => 0
  | x :: r => uptoBulkEntry x + uptoBulkEntries r
def uptoBulkEntry {H : Type} : Lit × DataW H → Nat
  | (.string bytes, d) => bytes.length + uptoBulk d + 1
  | (_, d) => uptoBulk d + 1
 end
def uptoSmall : (H : Type) → List (DataW H) → Bool := fun _ ds => decide (uptoBulkAll ds ≤ 1048576)
def OpenSpec.upto (s : _root_.Go.ChangeSpec) : _root_.Go.OpenSpec := { _root_.Go.OpenSpec.ofChange s with cond := some uptoSmall }

/-- 'laws.FnExactIsDominating', WHERE WHAT IT READS IS OF BULK AT MOST 1048576: true; the input reads as it did. -/
def fnExactIsDominatingUptoRow : OpenClaim := { program := "ytheplhphonfckaa", sum := "b7c001beda6f37258c887856ff0060a8c33ae0c62a54357d98989f0ee69947c2", func := "loop.example/g01109/laws.FnExactIsDominating", spec := "fnExactIsDominating", apart := false, narrowed := true }
def FnExactIsDominatingUptoSaid : Prop := fnExactIsDominatingUptoRow.holds Try.pinned (OpenSpec.upto fnExactIsDominatingSpec)

/-- 'laws.FnExactGuardSets', WHERE WHAT IT READS IS OF BULK AT MOST 1048576: true; the input reads as it did. -/
def fnExactGuardSetsUptoRow : OpenClaim := { program := "ytheplhphonfckaa", sum := "b7c001beda6f37258c887856ff0060a8c33ae0c62a54357d98989f0ee69947c2", func := "loop.example/g01109/laws.FnExactGuardSets", spec := "fnExactGuardSets", recurses := true, apart := false, narrowed := true }
def FnExactGuardSetsUptoSaid : Prop := fnExactGuardSetsUptoRow.holds Try.pinned (OpenSpec.upto fnExactGuardSetsSpec)

/-- 'laws.FnExactLargestIndependent', WHERE WHAT IT READS IS OF BULK AT MOST 1048576: true; the input reads as it did. -/
def fnExactLargestIndependentUptoRow : OpenClaim := { program := "ytheplhphonfckaa", sum := "b7c001beda6f37258c887856ff0060a8c33ae0c62a54357d98989f0ee69947c2", func := "loop.example/g01109/laws.FnExactLargestIndependent", spec := "fnExactLargestIndependent", unfollowed := true, recurses := true, apart := false, narrowed := true }
def FnExactLargestIndependentUptoSaid : Prop := fnExactLargestIndependentUptoRow.holds Try.pinned (OpenSpec.upto fnExactLargestIndependentSpec)

/-- 'laws.FnExactNullityOf', WHERE WHAT IT READS IS OF BULK AT MOST 1048576: true; the input reads as it did. -/
def fnExactNullityOfUptoRow : OpenClaim := { program := "ytheplhphonfckaa", sum := "b7c001beda6f37258c887856ff0060a8c33ae0c62a54357d98989f0ee69947c2", func := "loop.example/g01109/laws.FnExactNullityOf", spec := "fnExactNullityOf", unfollowed := true, recurses := true, apart := false, narrowed := true }
def FnExactNullityOfUptoSaid : Prop := fnExactNullityOfUptoRow.holds Try.pinned (OpenSpec.upto fnExactNullityOfSpec)

/-- 'laws.FnExactIsForcing', WHERE WHAT IT READS IS OF BULK AT MOST 1048576: true; the input reads as it did. -/
def fnExactIsForcingUptoRow : OpenClaim := { program := "ytheplhphonfckaa", sum := "b7c001beda6f37258c887856ff0060a8c33ae0c62a54357d98989f0ee69947c2", func := "loop.example/g01109/laws.FnExactIsForcing", spec := "fnExactIsForcing", apart := false, narrowed := true }
def FnExactIsForcingUptoSaid : Prop := fnExactIsForcingUptoRow.holds Try.pinned (OpenSpec.upto fnExactIsForcingSpec)

end Rows
end Go.Proofs.Ytheplhphonfckaa
