/-
  No cell of these rows narrows 'for every input' (looked for: loops, veiled, ifaces, maps, wideKeys, modest, calm, conditions, laid).
  DERIVED. THE GIVEN ROWS OF THIS SEAT. 6 by the template 'for every input the law returns true; each argument reads behind the call as it read before'; 0 by the template 'total and deterministic' (their statements: YtfeaddkaommpgaaTotals.lean).
  GIVEN WITH THE SEED: the statements are not yours to turn. If you find one false, say at which input.
  Laid BY PROGRAM, IN A SANDBOX (cutbox-rows.mjs): the forced cells as the released guide's own fill.sh prints them over the translation 77f611aa93c56c1f… (all of the seat's roots in one cut). By AI agents, Wed Nov 11 2026. No macro, syntax, notation, axiom, sorry.
-/
import Derived.Test.YtfeaddkaommpgaaChecked
import GoSem.Claim
import GoSem.ClaimJoined
import GoSem.ClaimMapViews
import Derived.JoinedTies
import Derived.KernelRfl
namespace Go.Proofs.Ytfeaddkaommpgaa
/- THE CELL 'sum', in the pinned program and in every row, IS THE sha256 OF THE DUMP (.gsa) THAT YtfeaddkaommpgaaProg.lean LOADS. Nothing in Lean hashes anything: it is a label: what it is worth is what the hold of that sum in a sandbox is worth. -/
noncomputable def Try.pinned : Pinned := { name := "ytfeaddkaommpgaa", sum := "77f611aa93c56c1f9678524707a7c43ff25e35529646685d6d7ceaf5c74131f8", checked := Try.checked }
namespace Rows
def none {H : Type} : Left H := { results := [], args := [] }

/-- 'laws.FnExactBurningNumber': WHATEVER THE INPUT: true; the input reads as it did. -/
def fnExactBurningNumberSpec : ChangeSpec := { name := "fnExactBurningNumber", fn := fun _ => fun
  | [d] => { results := [.lit (.bool true)], args := [d] }
  | _ => none }
def fnExactBurningNumberRow : OpenClaim := { program := "ytfeaddkaommpgaa", sum := "77f611aa93c56c1f9678524707a7c43ff25e35529646685d6d7ceaf5c74131f8", func := "loop.example/g01109/laws.FnExactBurningNumber", spec := "fnExactBurningNumber", recurses := true, plainKeys := false, apart := false }
def FnExactBurningNumberSaid : Prop := fnExactBurningNumberRow.holds Try.pinned (OpenSpec.ofChange fnExactBurningNumberSpec)

/-- ITS FALSE NEIGHBOUR: 'it returns false'. Refute it at one input. -/
def fnExactBurningNumberWrong : ChangeSpec := { name := "fnExactBurningNumber", fn := fun _ => fun
  | [d] => { results := [.lit (.bool false)], args := [d] }
  | _ => none }
def FnExactBurningNumberWrongFalsely : Prop := fnExactBurningNumberRow.holds Try.pinned (OpenSpec.ofChange fnExactBurningNumberWrong)

/-- 'laws.FnForts': WHATEVER THE INPUT: true; the input reads as it did. -/
def fnFortsSpec : ChangeSpec := { name := "fnForts", fn := fun _ => fun
  | [d] => { results := [.lit (.bool true)], args := [d] }
  | _ => none }
def fnFortsRow : OpenClaim := { program := "ytfeaddkaommpgaa", sum := "77f611aa93c56c1f9678524707a7c43ff25e35529646685d6d7ceaf5c74131f8", func := "loop.example/g01109/laws.FnForts", spec := "fnForts", unfollowed := true, recurses := true, plainKeys := false, apart := false }
def FnFortsSaid : Prop := fnFortsRow.holds Try.pinned (OpenSpec.ofChange fnFortsSpec)

/-- ITS FALSE NEIGHBOUR: 'it returns false'. Refute it at one input. -/
def fnFortsWrong : ChangeSpec := { name := "fnForts", fn := fun _ => fun
  | [d] => { results := [.lit (.bool false)], args := [d] }
  | _ => none }
def FnFortsWrongFalsely : Prop := fnFortsRow.holds Try.pinned (OpenSpec.ofChange fnFortsWrong)

/-- 'laws.FnExactBurntBy': WHATEVER THE INPUT: true; the input reads as it did. -/
def fnExactBurntBySpec : ChangeSpec := { name := "fnExactBurntBy", fn := fun _ => fun
  | [d1, d2] => { results := [.lit (.bool true)], args := [d1, d2] }
  | _ => none }
def fnExactBurntByRow : OpenClaim := { program := "ytfeaddkaommpgaa", sum := "77f611aa93c56c1f9678524707a7c43ff25e35529646685d6d7ceaf5c74131f8", func := "loop.example/g01109/laws.FnExactBurntBy", spec := "fnExactBurntBy", plainKeys := false, apart := false }
def FnExactBurntBySaid : Prop := fnExactBurntByRow.holds Try.pinned (OpenSpec.ofChange fnExactBurntBySpec)

/-- ITS FALSE NEIGHBOUR: 'it returns false'. Refute it at one input. -/
def fnExactBurntByWrong : ChangeSpec := { name := "fnExactBurntBy", fn := fun _ => fun
  | [d1, d2] => { results := [.lit (.bool false)], args := [d1, d2] }
  | _ => none }
def FnExactBurntByWrongFalsely : Prop := fnExactBurntByRow.holds Try.pinned (OpenSpec.ofChange fnExactBurntByWrong)

/-- 'laws.FnExactForceOnce': WHATEVER THE INPUT: true; the input reads as it did. -/
def fnExactForceOnceSpec : ChangeSpec := { name := "fnExactForceOnce", fn := fun _ => fun
  | [d1, d2] => { results := [.lit (.bool true)], args := [d1, d2] }
  | _ => none }
def fnExactForceOnceRow : OpenClaim := { program := "ytfeaddkaommpgaa", sum := "77f611aa93c56c1f9678524707a7c43ff25e35529646685d6d7ceaf5c74131f8", func := "loop.example/g01109/laws.FnExactForceOnce", spec := "fnExactForceOnce", plainKeys := false, apart := false }
def FnExactForceOnceSaid : Prop := fnExactForceOnceRow.holds Try.pinned (OpenSpec.ofChange fnExactForceOnceSpec)

/-- ITS FALSE NEIGHBOUR: 'it returns false'. Refute it at one input. -/
def fnExactForceOnceWrong : ChangeSpec := { name := "fnExactForceOnce", fn := fun _ => fun
  | [d1, d2] => { results := [.lit (.bool false)], args := [d1, d2] }
  | _ => none }
def FnExactForceOnceWrongFalsely : Prop := fnExactForceOnceRow.holds Try.pinned (OpenSpec.ofChange fnExactForceOnceWrong)

/-- 'laws.FnExactIsFort': WHATEVER THE INPUT: true; the input reads as it did. -/
def fnExactIsFortSpec : ChangeSpec := { name := "fnExactIsFort", fn := fun _ => fun
  | [d1, d2] => { results := [.lit (.bool true)], args := [d1, d2] }
  | _ => none }
def fnExactIsFortRow : OpenClaim := { program := "ytfeaddkaommpgaa", sum := "77f611aa93c56c1f9678524707a7c43ff25e35529646685d6d7ceaf5c74131f8", func := "loop.example/g01109/laws.FnExactIsFort", spec := "fnExactIsFort", unfollowed := true, recurses := true, plainKeys := false, apart := false }
def FnExactIsFortSaid : Prop := fnExactIsFortRow.holds Try.pinned (OpenSpec.ofChange fnExactIsFortSpec)

/-- ITS FALSE NEIGHBOUR: 'it returns false'. Refute it at one input. -/
def fnExactIsFortWrong : ChangeSpec := { name := "fnExactIsFort", fn := fun _ => fun
  | [d1, d2] => { results := [.lit (.bool false)], args := [d1, d2] }
  | _ => none }
def FnExactIsFortWrongFalsely : Prop := fnExactIsFortRow.holds Try.pinned (OpenSpec.ofChange fnExactIsFortWrong)

/-- 'laws.FnExactIsCliqueCover': WHATEVER THE INPUT: true; the input reads as it did. -/
def fnExactIsCliqueCoverSpec : ChangeSpec := { name := "fnExactIsCliqueCover", fn := fun _ => fun
  | [d1, d2] => { results := [.lit (.bool true)], args := [d1, d2] }
  | _ => none }
def fnExactIsCliqueCoverRow : OpenClaim := { program := "ytfeaddkaommpgaa", sum := "77f611aa93c56c1f9678524707a7c43ff25e35529646685d6d7ceaf5c74131f8", func := "loop.example/g01109/laws.FnExactIsCliqueCover", spec := "fnExactIsCliqueCover", unfollowed := true, recurses := true, plainKeys := false, apart := false }
def FnExactIsCliqueCoverSaid : Prop := fnExactIsCliqueCoverRow.holds Try.pinned (OpenSpec.ofChange fnExactIsCliqueCoverSpec)

/-- ITS FALSE NEIGHBOUR: 'it returns false'. Refute it at one input. -/
def fnExactIsCliqueCoverWrong : ChangeSpec := { name := "fnExactIsCliqueCover", fn := fun _ => fun
  | [d1, d2] => { results := [.lit (.bool false)], args := [d1, d2] }
  | _ => none }
def FnExactIsCliqueCoverWrongFalsely : Prop := fnExactIsCliqueCoverRow.holds Try.pinned (OpenSpec.ofChange fnExactIsCliqueCoverWrong)

/- THE SECOND FORM. 'bulk': how many values and letters a reading holds, each counted each time it is reached (what is shared counts as often as it is met; a slice's spare places count too). A statement '..UptoSaid' is the law's where the arguments, and the package variables that the reading takes, are together of bulk at most 1048576: NARROWER than '..Said'. Prove '..Said' where nothing that the law and all that it calls make is longer than what came in: it says more and counts as full. Else prove '..UptoSaid'. A law counts once. -/
mutual
def uptoBulk {H : Type} : DataW H → Nat
  | .lit (.string bytes) => bytes.length + 1
  | .lit _ => 1
  | .nil => 1
  | .ptr d => uptoBulk d + 1
  | .slice elems spare => uptoBulkAll elems + uptoBulkAll spare + 1
  | .agg parts => uptoBulkAll parts + 1
  | .iface _ d => uptoBulk d + 1
  | .map entries => uptoBulkEntries entries + 1
  | .held _ => 1
def uptoBulkAll {H : Type} : List (DataW H) → Nat
  | [] => 0
  | d :: r => uptoBulk d + uptoBulkAll r
def uptoBulkEntries {H : Type} : List (Lit × DataW H) → Nat
  | [] => 0
  | x :: r => uptoBulkEntry x + uptoBulkEntries r
def uptoBulkEntry {H : Type} : Lit × DataW H → Nat
  | (.string bytes, d) => bytes.length + uptoBulk d + 1
  | (_, d) => uptoBulk d + 1
 end
def uptoSmall : (H : Type) → List (DataW H) → Bool := fun _ ds => decide (uptoBulkAll ds ≤ 1048576)
def OpenSpec.upto (s : _root_.Go.ChangeSpec) : _root_.Go.OpenSpec := { _root_.Go.OpenSpec.ofChange s with cond := some uptoSmall }

/-- 'laws.FnExactBurningNumber', WHERE WHAT IT READS IS OF BULK AT MOST 1048576: true; the input reads as it did. -/
def fnExactBurningNumberUptoRow : OpenClaim := { program := "ytfeaddkaommpgaa", sum := "77f611aa93c56c1f9678524707a7c43ff25e35529646685d6d7ceaf5c74131f8", func := "loop.example/g01109/laws.FnExactBurningNumber", spec := "fnExactBurningNumber", recurses := true, plainKeys := false, apart := false, narrowed := true }
def FnExactBurningNumberUptoSaid : Prop := fnExactBurningNumberUptoRow.holds Try.pinned (OpenSpec.upto fnExactBurningNumberSpec)

/-- 'laws.FnForts', WHERE WHAT IT READS IS OF BULK AT MOST 1048576: true; the input reads as it did. -/
def fnFortsUptoRow : OpenClaim := { program := "ytfeaddkaommpgaa", sum := "77f611aa93c56c1f9678524707a7c43ff25e35529646685d6d7ceaf5c74131f8", func := "loop.example/g01109/laws.FnForts", spec := "fnForts", unfollowed := true, recurses := true, plainKeys := false, apart := false, narrowed := true }
def FnFortsUptoSaid : Prop := fnFortsUptoRow.holds Try.pinned (OpenSpec.upto fnFortsSpec)

/-- 'laws.FnExactBurntBy', WHERE WHAT IT READS IS OF BULK AT MOST 1048576: true; the input reads as it did. -/
def fnExactBurntByUptoRow : OpenClaim := { program := "ytfeaddkaommpgaa", sum := "77f611aa93c56c1f9678524707a7c43ff25e35529646685d6d7ceaf5c74131f8", func := "loop.example/g01109/laws.FnExactBurntBy", spec := "fnExactBurntBy", plainKeys := false, apart := false, narrowed := true }
def FnExactBurntByUptoSaid : Prop := fnExactBurntByUptoRow.holds Try.pinned (OpenSpec.upto fnExactBurntBySpec)

/-- 'laws.FnExactForceOnce', WHERE WHAT IT READS IS OF BULK AT MOST 1048576: true; the input reads as it did. -/
def fnExactForceOnceUptoRow : OpenClaim := { program := "ytfeaddkaommpgaa", sum := "77f611aa93c56c1f9678524707a7c43ff25e35529646685d6d7ceaf5c74131f8", func := "loop.example/g01109/laws.FnExactForceOnce", spec := "fnExactForceOnce", plainKeys := false, apart := false, narrowed := true }
def FnExactForceOnceUptoSaid : Prop := fnExactForceOnceUptoRow.holds Try.pinned (OpenSpec.upto fnExactForceOnceSpec)

/-- 'laws.FnExactIsFort', WHERE WHAT IT READS IS OF BULK AT MOST 1048576: true; the input reads as it did. -/
def fnExactIsFortUptoRow : OpenClaim := { program := "ytfeaddkaommpgaa", sum := "77f611aa93c56c1f9678524707a7c43ff25e35529646685d6d7ceaf5c74131f8", func := "loop.example/g01109/laws.FnExactIsFort", spec := "fnExactIsFort", unfollowed := true, recurses := true, plainKeys := false, apart := false, narrowed := true }
def FnExactIsFortUptoSaid : Prop := fnExactIsFortUptoRow.holds Try.pinned (OpenSpec.upto fnExactIsFortSpec)

/-- 'laws.FnExactIsCliqueCover', WHERE WHAT IT READS IS OF BULK AT MOST 1048576: true; the input reads as it did. -/
def fnExactIsCliqueCoverUptoRow : OpenClaim := { program := "ytfeaddkaommpgaa", sum := "77f611aa93c56c1f9678524707a7c43ff25e35529646685d6d7ceaf5c74131f8", func := "loop.example/g01109/laws.FnExactIsCliqueCover", spec := "fnExactIsCliqueCover", unfollowed := true, recurses := true, plainKeys := false, apart := false, narrowed := true }
def FnExactIsCliqueCoverUptoSaid : Prop := fnExactIsCliqueCoverUptoRow.holds Try.pinned (OpenSpec.upto fnExactIsCliqueCoverSpec)

end Rows
end Go.Proofs.Ytfeaddkaommpgaa
