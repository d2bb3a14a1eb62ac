/-
  No cell of these rows narrows 'for every input' (looked for: loops, veiled, ifaces, maps, wideKeys, modest, calm, conditions, laid).
  DERIVED. THE GIVEN ROWS OF THIS SEAT. 5 by the template 'for every input the law returns true; each argument reads behind the call as it read before'; 0 by the template 'total and deterministic' (their statements: YtfeaddkaommpgabTotals.lean).
  GIVEN WITH THE SEED: the statements are not yours to turn. If you find one false, say at which input.
  Laid BY PROGRAM, IN A SANDBOX (cutbox-rows.mjs): the forced cells as the released guide's own fill.sh prints them over the translation b97a86b9cbef3175… (all of the seat's roots in one cut). By AI agents, Wed Nov 11 2026. No macro, syntax, notation, axiom, sorry.
-/
import Derived.Test.YtfeaddkaommpgabChecked
import GoSem.Claim
import GoSem.ClaimJoined
import GoSem.ClaimMapViews
import Derived.JoinedTies
import Derived.KernelRfl
namespace Go.Proofs.Ytfeaddkaommpgab
/- THE CELL 'sum', in the pinned program and in every row, IS THE sha256 OF THE DUMP (.gsa) THAT YtfeaddkaommpgabProg.lean LOADS. Nothing in Lean hashes anything: it is a label: what it is worth is what the hold of that sum in a sandbox is worth. -/
noncomputable def Try.pinned : Pinned := { name := "ytfeaddkaommpgab", sum := "b97a86b9cbef317581abf6d599293becf1692193d6fb7dc4bc511e3c6a7ddde7", checked := Try.checked }
namespace Rows
def none {H : Type} : Left H := { results := [], args := [] }

/-- 'laws.FnExactForceAll': WHATEVER THE INPUT: true; the input reads as it did. -/
def fnExactForceAllSpec : ChangeSpec := { name := "fnExactForceAll", fn := fun _ => fun
  | [d1, d2] => { results := [.lit (.bool true)], args := [d1, d2] }
  | _ => none }
def fnExactForceAllRow : OpenClaim := { program := "ytfeaddkaommpgab", sum := "b97a86b9cbef317581abf6d599293becf1692193d6fb7dc4bc511e3c6a7ddde7", func := "loop.example/g01109/laws.FnExactForceAll", spec := "fnExactForceAll", plainKeys := false, apart := false }
def FnExactForceAllSaid : Prop := fnExactForceAllRow.holds Try.pinned (OpenSpec.ofChange fnExactForceAllSpec)

/-- ITS FALSE NEIGHBOUR: 'it returns false'. Refute it at one input. -/
def fnExactForceAllWrong : ChangeSpec := { name := "fnExactForceAll", fn := fun _ => fun
  | [d1, d2] => { results := [.lit (.bool false)], args := [d1, d2] }
  | _ => none }
def FnExactForceAllWrongFalsely : Prop := fnExactForceAllRow.holds Try.pinned (OpenSpec.ofChange fnExactForceAllWrong)

/-- 'laws.FnExactSkewAll': WHATEVER THE INPUT: true; the input reads as it did. -/
def fnExactSkewAllSpec : ChangeSpec := { name := "fnExactSkewAll", fn := fun _ => fun
  | [d1, d2] => { results := [.lit (.bool true)], args := [d1, d2] }
  | _ => none }
def fnExactSkewAllRow : OpenClaim := { program := "ytfeaddkaommpgab", sum := "b97a86b9cbef317581abf6d599293becf1692193d6fb7dc4bc511e3c6a7ddde7", func := "loop.example/g01109/laws.FnExactSkewAll", spec := "fnExactSkewAll", plainKeys := false, apart := false }
def FnExactSkewAllSaid : Prop := fnExactSkewAllRow.holds Try.pinned (OpenSpec.ofChange fnExactSkewAllSpec)

/-- ITS FALSE NEIGHBOUR: 'it returns false'. Refute it at one input. -/
def fnExactSkewAllWrong : ChangeSpec := { name := "fnExactSkewAll", fn := fun _ => fun
  | [d1, d2] => { results := [.lit (.bool false)], args := [d1, d2] }
  | _ => none }
def FnExactSkewAllWrongFalsely : Prop := fnExactSkewAllRow.holds Try.pinned (OpenSpec.ofChange fnExactSkewAllWrong)

/-- 'laws.FnExactLeastSpreading': WHATEVER THE INPUT: true; the input reads as it did. -/
def fnExactLeastSpreadingSpec : ChangeSpec := { name := "fnExactLeastSpreading", fn := fun _ => fun
  | [d1, d2] => { results := [.lit (.bool true)], args := [d1, d2] }
  | _ => none }
def fnExactLeastSpreadingRow : OpenClaim := { program := "ytfeaddkaommpgab", sum := "b97a86b9cbef317581abf6d599293becf1692193d6fb7dc4bc511e3c6a7ddde7", func := "loop.example/g01109/laws.FnExactLeastSpreading", spec := "fnExactLeastSpreading", plainKeys := false, apart := false }
def FnExactLeastSpreadingSaid : Prop := fnExactLeastSpreadingRow.holds Try.pinned (OpenSpec.ofChange fnExactLeastSpreadingSpec)

/-- ITS FALSE NEIGHBOUR: 'it returns false'. Refute it at one input. -/
def fnExactLeastSpreadingWrong : ChangeSpec := { name := "fnExactLeastSpreading", fn := fun _ => fun
  | [d1, d2] => { results := [.lit (.bool false)], args := [d1, d2] }
  | _ => none }
def FnExactLeastSpreadingWrongFalsely : Prop := fnExactLeastSpreadingRow.holds Try.pinned (OpenSpec.ofChange fnExactLeastSpreadingWrong)

/-- 'laws.FnExactLeastCliqueCover': WHATEVER THE INPUT: true; the input reads as it did. -/
def fnExactLeastCliqueCoverSpec : ChangeSpec := { name := "fnExactLeastCliqueCover", fn := fun _ => fun
  | [d] => { results := [.lit (.bool true)], args := [d] }
  | _ => none }
def fnExactLeastCliqueCoverRow : OpenClaim := { program := "ytfeaddkaommpgab", sum := "b97a86b9cbef317581abf6d599293becf1692193d6fb7dc4bc511e3c6a7ddde7", func := "loop.example/g01109/laws.FnExactLeastCliqueCover", spec := "fnExactLeastCliqueCover", unfollowed := true, recurses := true, plainKeys := false, apart := false }
def FnExactLeastCliqueCoverSaid : Prop := fnExactLeastCliqueCoverRow.holds Try.pinned (OpenSpec.ofChange fnExactLeastCliqueCoverSpec)

/-- ITS FALSE NEIGHBOUR: 'it returns false'. Refute it at one input. -/
def fnExactLeastCliqueCoverWrong : ChangeSpec := { name := "fnExactLeastCliqueCover", fn := fun _ => fun
  | [d] => { results := [.lit (.bool false)], args := [d] }
  | _ => none }
def FnExactLeastCliqueCoverWrongFalsely : Prop := fnExactLeastCliqueCoverRow.holds Try.pinned (OpenSpec.ofChange fnExactLeastCliqueCoverWrong)

/-- 'laws.FnExactBestBurning': WHATEVER THE INPUT: true; the input reads as it did. -/
def fnExactBestBurningSpec : ChangeSpec := { name := "fnExactBestBurning", fn := fun _ => fun
  | [d] => { results := [.lit (.bool true)], args := [d] }
  | _ => none }
def fnExactBestBurningRow : OpenClaim := { program := "ytfeaddkaommpgab", sum := "b97a86b9cbef317581abf6d599293becf1692193d6fb7dc4bc511e3c6a7ddde7", func := "loop.example/g01109/laws.FnExactBestBurning", spec := "fnExactBestBurning", recurses := true, plainKeys := false, apart := false }
def FnExactBestBurningSaid : Prop := fnExactBestBurningRow.holds Try.pinned (OpenSpec.ofChange fnExactBestBurningSpec)

/-- ITS FALSE NEIGHBOUR: 'it returns false'. Refute it at one input. -/
def fnExactBestBurningWrong : ChangeSpec := { name := "fnExactBestBurning", fn := fun _ => fun
  | [d] => { results := [.lit (.bool false)], args := [d] }
  | _ => none }
def FnExactBestBurningWrongFalsely : Prop := fnExactBestBurningRow.holds Try.pinned (OpenSpec.ofChange fnExactBestBurningWrong)

/- THE SECOND FORM. 'bulk': how many values and letters a reading holds, each counted each time it is reached (what is shared counts as often as it is met; a slice's spare places count too). A statement '..UptoSaid' is the law's where the arguments, and the package variables that the reading takes, are together of bulk at most 1048576: NARROWER than '..Said'. Prove '..Said' where nothing that the law and all that it calls make is longer than what came in: it says more and counts as full. Else prove '..UptoSaid'. A law counts once. -/
mutual
def uptoBulk {H : Type} : DataW H → Nat
  | .lit (.string bytes) => bytes.length + 1
  | .lit _ => 1
  | .nil => 1
  | .ptr d => uptoBulk d + 1
  | .slice elems spare => uptoBulkAll elems + uptoBulkAll spare + 1
  | .agg parts => uptoBulkAll parts + 1
  | .iface _ d => uptoBulk d + 1
  | .map entries => uptoBulkEntries entries + 1
  | .held _ => 1
def uptoBulkAll {H : Type} : List (DataW H) → Nat
  | [] => 0
  | d :: r => uptoBulk d + uptoBulkAll r
def uptoBulkEntries {H : Type} : List (Lit × DataW H) → Nat
  | [] => 0
  | x :: r => uptoBulkEntry x + uptoBulkEntries r
def uptoBulkEntry {H : Type} : Lit × DataW H → Nat
  | (.string bytes, d) => bytes.length + uptoBulk d + 1
  | (_, d) => uptoBulk d + 1
 end
def uptoSmall : (H : Type) → List (DataW H) → Bool := fun _ ds => decide (uptoBulkAll ds ≤ 1048576)
def OpenSpec.upto (s : _root_.Go.ChangeSpec) : _root_.Go.OpenSpec := { _root_.Go.OpenSpec.ofChange s with cond := some uptoSmall }

/-- 'laws.FnExactForceAll', WHERE WHAT IT READS IS OF BULK AT MOST 1048576: true; the input reads as it did. -/
def fnExactForceAllUptoRow : OpenClaim := { program := "ytfeaddkaommpgab", sum := "b97a86b9cbef317581abf6d599293becf1692193d6fb7dc4bc511e3c6a7ddde7", func := "loop.example/g01109/laws.FnExactForceAll", spec := "fnExactForceAll", plainKeys := false, apart := false, narrowed := true }
def FnExactForceAllUptoSaid : Prop := fnExactForceAllUptoRow.holds Try.pinned (OpenSpec.upto fnExactForceAllSpec)

/-- 'laws.FnExactSkewAll', WHERE WHAT IT READS IS OF BULK AT MOST 1048576: true; the input reads as it did. -/
def fnExactSkewAllUptoRow : OpenClaim := { program := "ytfeaddkaommpgab", sum := "b97a86b9cbef317581abf6d599293becf1692193d6fb7dc4bc511e3c6a7ddde7", func := "loop.example/g01109/laws.FnExactSkewAll", spec := "fnExactSkewAll", plainKeys := false, apart := false, narrowed := true }
def FnExactSkewAllUptoSaid : Prop := fnExactSkewAllUptoRow.holds Try.pinned (OpenSpec.upto fnExactSkewAllSpec)

/-- 'laws.FnExactLeastSpreading', WHERE WHAT IT READS IS OF BULK AT MOST 1048576: true; the input reads as it did. -/
def fnExactLeastSpreadingUptoRow : OpenClaim := { program := "ytfeaddkaommpgab", sum := "b97a86b9cbef317581abf6d599293becf1692193d6fb7dc4bc511e3c6a7ddde7", func := "loop.example/g01109/laws.FnExactLeastSpreading", spec := "fnExactLeastSpreading", plainKeys := false, apart := false, narrowed := true }
def FnExactLeastSpreadingUptoSaid : Prop := fnExactLeastSpreadingUptoRow.holds Try.pinned (OpenSpec.upto fnExactLeastSpreadingSpec)

/-- 'laws.FnExactLeastCliqueCover', WHERE WHAT IT READS IS OF BULK AT MOST 1048576: true; the input reads as it did. -/
def fnExactLeastCliqueCoverUptoRow : OpenClaim := { program := "ytfeaddkaommpgab", sum := "b97a86b9cbef317581abf6d599293becf1692193d6fb7dc4bc511e3c6a7ddde7", func := "loop.example/g01109/laws.FnExactLeastCliqueCover", spec := "fnExactLeastCliqueCover", unfollowed := true, recurses := true, plainKeys := false, apart := false, narrowed := true }
def FnExactLeastCliqueCoverUptoSaid : Prop := fnExactLeastCliqueCoverUptoRow.holds Try.pinned (OpenSpec.upto fnExactLeastCliqueCoverSpec)

/-- 'laws.FnExactBestBurning', WHERE WHAT IT READS IS OF BULK AT MOST 1048576: true; the input reads as it did. -/
def fnExactBestBurningUptoRow : OpenClaim := { program := "ytfeaddkaommpgab", sum := "b97a86b9cbef317581abf6d599293becf1692193d6fb7dc4bc511e3c6a7ddde7", func := "loop.example/g01109/laws.FnExactBestBurning", spec := "fnExactBestBurning", recurses := true, plainKeys := false, apart := false, narrowed := true }
def FnExactBestBurningUptoSaid : Prop := fnExactBestBurningUptoRow.holds Try.pinned (OpenSpec.upto fnExactBestBurningSpec)

end Rows
end Go.Proofs.Ytfeaddkaommpgab
