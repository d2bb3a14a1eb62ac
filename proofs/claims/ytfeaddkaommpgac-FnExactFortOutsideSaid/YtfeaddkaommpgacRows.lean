/-
  No cell of these rows narrows 'for every input' (looked for: loops, veiled, ifaces, maps, wideKeys, modest, calm, conditions, laid).
  DERIVED. THE GIVEN ROWS OF THIS SEAT. 6 by the template 'for every input the law returns true; each argument reads behind the call as it read before'; 0 by the template 'total and deterministic' (their statements: YtfeaddkaommpgacTotals.lean).
  GIVEN WITH THE SEED: the statements are not yours to turn. If you find one false, say at which input.
  Laid BY PROGRAM, IN A SANDBOX (cutbox-rows.mjs): the forced cells as the released guide's own fill.sh prints them over the translation 2248bb98782fa02d… (all of the seat's roots in one cut). By AI agents, Wed Nov 11 2026. No macro, syntax, notation, axiom, sorry.
-/
import Derived.Test.YtfeaddkaommpgacChecked
import GoSem.Claim
import GoSem.ClaimJoined
import GoSem.ClaimMapViews
import Derived.JoinedTies
import Derived.KernelRfl
namespace Go.Proofs.Ytfeaddkaommpgac
/- THE CELL 'sum', in the pinned program and in every row, IS THE sha256 OF THE DUMP (.gsa) THAT YtfeaddkaommpgacProg.lean LOADS. Nothing in Lean hashes anything: it is a label: what it is worth is what the hold of that sum in a sandbox is worth. -/
noncomputable def Try.pinned : Pinned := { name := "ytfeaddkaommpgac", sum := "2248bb98782fa02d72232ef2ad9f02e01f6973f750f1848d7e9fd6e46ffab17c", checked := Try.checked }
namespace Rows
def none {H : Type} : Left H := { results := [], args := [] }

/-- 'laws.FnExactSpreadOf': WHATEVER THE INPUT: true; the input reads as it did. -/
def fnExactSpreadOfSpec : ChangeSpec := { name := "fnExactSpreadOf", fn := fun _ => fun
  | [d1, d2, d3] => { results := [.lit (.bool true)], args := [d1, d2, d3] }
  | _ => none }
def fnExactSpreadOfRow : OpenClaim := { program := "ytfeaddkaommpgac", sum := "2248bb98782fa02d72232ef2ad9f02e01f6973f750f1848d7e9fd6e46ffab17c", func := "loop.example/g01109/laws.FnExactSpreadOf", spec := "fnExactSpreadOf", apart := false }
def FnExactSpreadOfSaid : Prop := fnExactSpreadOfRow.holds Try.pinned (OpenSpec.ofChange fnExactSpreadOfSpec)

/-- ITS FALSE NEIGHBOUR: 'it returns false'. Refute it at one input. -/
def fnExactSpreadOfWrong : ChangeSpec := { name := "fnExactSpreadOf", fn := fun _ => fun
  | [d1, d2, d3] => { results := [.lit (.bool false)], args := [d1, d2, d3] }
  | _ => none }
def FnExactSpreadOfWrongFalsely : Prop := fnExactSpreadOfRow.holds Try.pinned (OpenSpec.ofChange fnExactSpreadOfWrong)

/-- 'laws.FnExactLeastSum': WHATEVER THE INPUT: true; the input reads as it did. -/
def fnExactLeastSumSpec : ChangeSpec := { name := "fnExactLeastSum", fn := fun _ => fun
  | [d] => { results := [.lit (.bool true)], args := [d] }
  | _ => none }
def fnExactLeastSumRow : OpenClaim := { program := "ytfeaddkaommpgac", sum := "2248bb98782fa02d72232ef2ad9f02e01f6973f750f1848d7e9fd6e46ffab17c", func := "loop.example/g01109/laws.FnExactLeastSum", spec := "fnExactLeastSum", apart := false }
def FnExactLeastSumSaid : Prop := fnExactLeastSumRow.holds Try.pinned (OpenSpec.ofChange fnExactLeastSumSpec)

/-- ITS FALSE NEIGHBOUR: 'it returns false'. Refute it at one input. -/
def fnExactLeastSumWrong : ChangeSpec := { name := "fnExactLeastSum", fn := fun _ => fun
  | [d] => { results := [.lit (.bool false)], args := [d] }
  | _ => none }
def FnExactLeastSumWrongFalsely : Prop := fnExactLeastSumRow.holds Try.pinned (OpenSpec.ofChange fnExactLeastSumWrong)

/-- 'laws.FnExactIsFarSet': WHATEVER THE INPUT: true; the input reads as it did. -/
def fnExactIsFarSetSpec : ChangeSpec := { name := "fnExactIsFarSet", fn := fun _ => fun
  | [d1, d2, d3] => { results := [.lit (.bool true)], args := [d1, d2, d3] }
  | _ => none }
def fnExactIsFarSetRow : OpenClaim := { program := "ytfeaddkaommpgac", sum := "2248bb98782fa02d72232ef2ad9f02e01f6973f750f1848d7e9fd6e46ffab17c", func := "loop.example/g01109/laws.FnExactIsFarSet", spec := "fnExactIsFarSet", unfollowed := true, recurses := true, apart := false }
def FnExactIsFarSetSaid : Prop := fnExactIsFarSetRow.holds Try.pinned (OpenSpec.ofChange fnExactIsFarSetSpec)

/-- ITS FALSE NEIGHBOUR: 'it returns false'. Refute it at one input. -/
def fnExactIsFarSetWrong : ChangeSpec := { name := "fnExactIsFarSet", fn := fun _ => fun
  | [d1, d2, d3] => { results := [.lit (.bool false)], args := [d1, d2, d3] }
  | _ => none }
def FnExactIsFarSetWrongFalsely : Prop := fnExactIsFarSetRow.holds Try.pinned (OpenSpec.ofChange fnExactIsFarSetWrong)

/-- 'laws.FnExactFortOutside': WHATEVER THE INPUT: true; the input reads as it did. -/
def fnExactFortOutsideSpec : ChangeSpec := { name := "fnExactFortOutside", fn := fun _ => fun
  | [d1, d2] => { results := [.lit (.bool true)], args := [d1, d2] }
  | _ => none }
def fnExactFortOutsideRow : OpenClaim := { program := "ytfeaddkaommpgac", sum := "2248bb98782fa02d72232ef2ad9f02e01f6973f750f1848d7e9fd6e46ffab17c", func := "loop.example/g01109/laws.FnExactFortOutside", spec := "fnExactFortOutside", apart := false }
def FnExactFortOutsideSaid : Prop := fnExactFortOutsideRow.holds Try.pinned (OpenSpec.ofChange fnExactFortOutsideSpec)

/-- ITS FALSE NEIGHBOUR: 'it returns false'. Refute it at one input. -/
def fnExactFortOutsideWrong : ChangeSpec := { name := "fnExactFortOutside", fn := fun _ => fun
  | [d1, d2] => { results := [.lit (.bool false)], args := [d1, d2] }
  | _ => none }
def FnExactFortOutsideWrongFalsely : Prop := fnExactFortOutsideRow.holds Try.pinned (OpenSpec.ofChange fnExactFortOutsideWrong)

/-- 'laws.FnExactIsFirePlan': WHATEVER THE INPUT: true; the input reads as it did. -/
def fnExactIsFirePlanSpec : ChangeSpec := { name := "fnExactIsFirePlan", fn := fun _ => fun
  | [d1, d2, d3, d4] => { results := [.lit (.bool true)], args := [d1, d2, d3, d4] }
  | _ => none }
def fnExactIsFirePlanRow : OpenClaim := { program := "ytfeaddkaommpgac", sum := "2248bb98782fa02d72232ef2ad9f02e01f6973f750f1848d7e9fd6e46ffab17c", func := "loop.example/g01109/laws.FnExactIsFirePlan", spec := "fnExactIsFirePlan", apart := false }
def FnExactIsFirePlanSaid : Prop := fnExactIsFirePlanRow.holds Try.pinned (OpenSpec.ofChange fnExactIsFirePlanSpec)

/-- ITS FALSE NEIGHBOUR: 'it returns false'. Refute it at one input. -/
def fnExactIsFirePlanWrong : ChangeSpec := { name := "fnExactIsFirePlan", fn := fun _ => fun
  | [d1, d2, d3, d4] => { results := [.lit (.bool false)], args := [d1, d2, d3, d4] }
  | _ => none }
def FnExactIsFirePlanWrongFalsely : Prop := fnExactIsFirePlanRow.holds Try.pinned (OpenSpec.ofChange fnExactIsFirePlanWrong)

/-- 'laws.FnExactPowerAll': WHATEVER THE INPUT: true; the input reads as it did. -/
def fnExactPowerAllSpec : ChangeSpec := { name := "fnExactPowerAll", fn := fun _ => fun
  | [d1, d2] => { results := [.lit (.bool true)], args := [d1, d2] }
  | _ => none }
def fnExactPowerAllRow : OpenClaim := { program := "ytfeaddkaommpgac", sum := "2248bb98782fa02d72232ef2ad9f02e01f6973f750f1848d7e9fd6e46ffab17c", func := "loop.example/g01109/laws.FnExactPowerAll", spec := "fnExactPowerAll", apart := false }
def FnExactPowerAllSaid : Prop := fnExactPowerAllRow.holds Try.pinned (OpenSpec.ofChange fnExactPowerAllSpec)

/-- ITS FALSE NEIGHBOUR: 'it returns false'. Refute it at one input. -/
def fnExactPowerAllWrong : ChangeSpec := { name := "fnExactPowerAll", fn := fun _ => fun
  | [d1, d2] => { results := [.lit (.bool false)], args := [d1, d2] }
  | _ => none }
def FnExactPowerAllWrongFalsely : Prop := fnExactPowerAllRow.holds Try.pinned (OpenSpec.ofChange fnExactPowerAllWrong)

/- THE SECOND FORM. 'bulk': how many values and letters a reading holds, each counted each time it is reached (what is shared counts as often as it is met; a slice's spare places count too). A statement '..UptoSaid' is the law's where the arguments, and the package variables that the reading takes, are together of bulk at most 1048576: NARROWER than '..Said'. Prove '..Said' where nothing that the law and all that it calls make is longer than what came in: it says more and counts as full. Else prove '..UptoSaid'. A law counts once. -/
mutual
def uptoBulk {H : Type} : DataW H → Nat
  | .lit (.string bytes) => bytes.length + 1
  | .lit _ => 1
  | .nil => 1
  | .ptr d => uptoBulk d + 1
  | .slice elems spare => uptoBulkAll elems + uptoBulkAll spare + 1
  | .agg parts => uptoBulkAll parts + 1
  | .iface _ d => uptoBulk d + 1
  | .map entries => uptoBulkEntries entries + 1
  | .held _ => 1
def uptoBulkAll {H : Type} : List (DataW H) → Nat
  | [] => 0
  | d :: r => uptoBulk d + uptoBulkAll r
def uptoBulkEntries {H : Type} : List (Lit × DataW H) → Nat
  | [] => 0
  | x :: r => uptoBulkEntry x + uptoBulkEntries r
def uptoBulkEntry {H : Type} : Lit × DataW H → Nat
  | (.string bytes, d) => bytes.length + uptoBulk d + 1
  | (_, d) => uptoBulk d + 1
 end
def uptoSmall : (H : Type) → List (DataW H) → Bool := fun _ ds => decide (uptoBulkAll ds ≤ 1048576)
def OpenSpec.upto (s : _root_.Go.ChangeSpec) : _root_.Go.OpenSpec := { _root_.Go.OpenSpec.ofChange s with cond := some uptoSmall }

/-- 'laws.FnExactSpreadOf', WHERE WHAT IT READS IS OF BULK AT MOST 1048576: true; the input reads as it did. -/
def fnExactSpreadOfUptoRow : OpenClaim := { program := "ytfeaddkaommpgac", sum := "2248bb98782fa02d72232ef2ad9f02e01f6973f750f1848d7e9fd6e46ffab17c", func := "loop.example/g01109/laws.FnExactSpreadOf", spec := "fnExactSpreadOf", apart := false, narrowed := true }
def FnExactSpreadOfUptoSaid : Prop := fnExactSpreadOfUptoRow.holds Try.pinned (OpenSpec.upto fnExactSpreadOfSpec)

/-- 'laws.FnExactLeastSum', WHERE WHAT IT READS IS OF BULK AT MOST 1048576: true; the input reads as it did. -/
def fnExactLeastSumUptoRow : OpenClaim := { program := "ytfeaddkaommpgac", sum := "2248bb98782fa02d72232ef2ad9f02e01f6973f750f1848d7e9fd6e46ffab17c", func := "loop.example/g01109/laws.FnExactLeastSum", spec := "fnExactLeastSum", apart := false, narrowed := true }
def FnExactLeastSumUptoSaid : Prop := fnExactLeastSumUptoRow.holds Try.pinned (OpenSpec.upto fnExactLeastSumSpec)

/-- 'laws.FnExactIsFarSet', WHERE WHAT IT READS IS OF BULK AT MOST 1048576: true; the input reads as it did. -/
def fnExactIsFarSetUptoRow : OpenClaim := { program := "ytfeaddkaommpgac", sum := "2248bb98782fa02d72232ef2ad9f02e01f6973f750f1848d7e9fd6e46ffab17c", func := "loop.example/g01109/laws.FnExactIsFarSet", spec := "fnExactIsFarSet", unfollowed := true, recurses := true, apart := false, narrowed := true }
def FnExactIsFarSetUptoSaid : Prop := fnExactIsFarSetUptoRow.holds Try.pinned (OpenSpec.upto fnExactIsFarSetSpec)

/-- 'laws.FnExactFortOutside', WHERE WHAT IT READS IS OF BULK AT MOST 1048576: true; the input reads as it did. -/
def fnExactFortOutsideUptoRow : OpenClaim := { program := "ytfeaddkaommpgac", sum := "2248bb98782fa02d72232ef2ad9f02e01f6973f750f1848d7e9fd6e46ffab17c", func := "loop.example/g01109/laws.FnExactFortOutside", spec := "fnExactFortOutside", apart := false, narrowed := true }
def FnExactFortOutsideUptoSaid : Prop := fnExactFortOutsideUptoRow.holds Try.pinned (OpenSpec.upto fnExactFortOutsideSpec)

/-- 'laws.FnExactIsFirePlan', WHERE WHAT IT READS IS OF BULK AT MOST 1048576: true; the input reads as it did. -/
def fnExactIsFirePlanUptoRow : OpenClaim := { program := "ytfeaddkaommpgac", sum := "2248bb98782fa02d72232ef2ad9f02e01f6973f750f1848d7e9fd6e46ffab17c", func := "loop.example/g01109/laws.FnExactIsFirePlan", spec := "fnExactIsFirePlan", apart := false, narrowed := true }
def FnExactIsFirePlanUptoSaid : Prop := fnExactIsFirePlanUptoRow.holds Try.pinned (OpenSpec.upto fnExactIsFirePlanSpec)

/-- 'laws.FnExactPowerAll', WHERE WHAT IT READS IS OF BULK AT MOST 1048576: true; the input reads as it did. -/
def fnExactPowerAllUptoRow : OpenClaim := { program := "ytfeaddkaommpgac", sum := "2248bb98782fa02d72232ef2ad9f02e01f6973f750f1848d7e9fd6e46ffab17c", func := "loop.example/g01109/laws.FnExactPowerAll", spec := "fnExactPowerAll", apart := false, narrowed := true }
def FnExactPowerAllUptoSaid : Prop := fnExactPowerAllUptoRow.holds Try.pinned (OpenSpec.upto fnExactPowerAllSpec)

end Rows
end Go.Proofs.Ytfeaddkaommpgac
