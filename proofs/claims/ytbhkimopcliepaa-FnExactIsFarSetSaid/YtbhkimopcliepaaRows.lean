/-
  No cell of these rows narrows 'for every input' (looked for: loops, veiled, ifaces, maps, wideKeys, modest, calm, conditions, laid).
  DERIVED. THE GIVEN ROWS OF THIS SEAT. 8 by the template 'for every input the law returns true; each argument reads behind the call as it read before'; 0 by the template 'total and deterministic' (their statements: YtbhkimopcliepaaTotals.lean).
  GIVEN WITH THE SEED: the statements are not yours to turn. If you find one false, say at which input.
  Laid BY PROGRAM, IN A SANDBOX (cutbox-rows.mjs): the forced cells as the released guide's own fill.sh prints them over the translation 104f7890fbf9dc1c… (all of the seat's roots in one cut). By AI agents, Wed Nov 11 2026. No macro, syntax, notation, axiom, sorry.
-/
import Derived.Test.YtbhkimopcliepaaChecked
import GoSem.Claim
import GoSem.ClaimJoined
import GoSem.ClaimMapViews
import Derived.JoinedTies
import Derived.KernelRfl
namespace Go.Proofs.Ytbhkimopcliepaa
/- THE CELL 'sum', in the pinned program and in every row, IS THE sha256 OF THE DUMP (.gsa) THAT YtbhkimopcliepaaProg.lean LOADS. Nothing in Lean hashes anything: it is a label: what it is worth is what the hold of that sum in a sandbox is worth. -/
noncomputable def Try.pinned : Pinned := { name := "ytbhkimopcliepaa", sum := "104f7890fbf9dc1cc305a2594b03ae79ae3523c7554b9ae4f1c72d21ad5cabc5", checked := Try.checked }
namespace Rows
def none {H : Type} : Left H := { results := [], args := [] }

/-- 'laws.FnExactMostSaved': WHATEVER THE INPUT: true; the input reads as it did. -/
def fnExactMostSavedSpec : ChangeSpec := { name := "fnExactMostSaved", fn := fun _ => fun
  | [d1, d2, d3] => { results := [.lit (.bool true)], args := [d1, d2, d3] }
  | _ => none }
def fnExactMostSavedRow : OpenClaim := { program := "ytbhkimopcliepaa", sum := "104f7890fbf9dc1cc305a2594b03ae79ae3523c7554b9ae4f1c72d21ad5cabc5", func := "loop.example/g01109/laws.FnExactMostSaved", spec := "fnExactMostSaved", recurses := true, apart := false }
def FnExactMostSavedSaid : Prop := fnExactMostSavedRow.holds Try.pinned (OpenSpec.ofChange fnExactMostSavedSpec)

/-- ITS FALSE NEIGHBOUR: 'it returns false'. Refute it at one input. -/
def fnExactMostSavedWrong : ChangeSpec := { name := "fnExactMostSaved", fn := fun _ => fun
  | [d1, d2, d3] => { results := [.lit (.bool false)], args := [d1, d2, d3] }
  | _ => none }
def FnExactMostSavedWrongFalsely : Prop := fnExactMostSavedRow.holds Try.pinned (OpenSpec.ofChange fnExactMostSavedWrong)

/-- 'laws.FnExactSavedSum': WHATEVER THE INPUT: true; the input reads as it did. -/
def fnExactSavedSumSpec : ChangeSpec := { name := "fnExactSavedSum", fn := fun _ => fun
  | [d1, d2] => { results := [.lit (.bool true)], args := [d1, d2] }
  | _ => none }
def fnExactSavedSumRow : OpenClaim := { program := "ytbhkimopcliepaa", sum := "104f7890fbf9dc1cc305a2594b03ae79ae3523c7554b9ae4f1c72d21ad5cabc5", func := "loop.example/g01109/laws.FnExactSavedSum", spec := "fnExactSavedSum", recurses := true, apart := false }
def FnExactSavedSumSaid : Prop := fnExactSavedSumRow.holds Try.pinned (OpenSpec.ofChange fnExactSavedSumSpec)

/-- ITS FALSE NEIGHBOUR: 'it returns false'. Refute it at one input. -/
def fnExactSavedSumWrong : ChangeSpec := { name := "fnExactSavedSum", fn := fun _ => fun
  | [d1, d2] => { results := [.lit (.bool false)], args := [d1, d2] }
  | _ => none }
def FnExactSavedSumWrongFalsely : Prop := fnExactSavedSumRow.holds Try.pinned (OpenSpec.ofChange fnExactSavedSumWrong)

/-- 'laws.FnSavedSum': WHATEVER THE INPUT: true; the input reads as it did. -/
def fnSavedSumSpec : ChangeSpec := { name := "fnSavedSum", fn := fun _ => fun
  | [d] => { results := [.lit (.bool true)], args := [d] }
  | _ => none }
def fnSavedSumRow : OpenClaim := { program := "ytbhkimopcliepaa", sum := "104f7890fbf9dc1cc305a2594b03ae79ae3523c7554b9ae4f1c72d21ad5cabc5", func := "loop.example/g01109/laws.FnSavedSum", spec := "fnSavedSum", recurses := true, apart := false }
def FnSavedSumSaid : Prop := fnSavedSumRow.holds Try.pinned (OpenSpec.ofChange fnSavedSumSpec)

/-- ITS FALSE NEIGHBOUR: 'it returns false'. Refute it at one input. -/
def fnSavedSumWrong : ChangeSpec := { name := "fnSavedSum", fn := fun _ => fun
  | [d] => { results := [.lit (.bool false)], args := [d] }
  | _ => none }
def FnSavedSumWrongFalsely : Prop := fnSavedSumRow.holds Try.pinned (OpenSpec.ofChange fnSavedSumWrong)

/-- 'laws.FnExactIsFirePlan': WHATEVER THE INPUT: true; the input reads as it did. -/
def fnExactIsFirePlanSpec : ChangeSpec := { name := "fnExactIsFirePlan", fn := fun _ => fun
  | [d1, d2, d3, d4] => { results := [.lit (.bool true)], args := [d1, d2, d3, d4] }
  | _ => none }
def fnExactIsFirePlanRow : OpenClaim := { program := "ytbhkimopcliepaa", sum := "104f7890fbf9dc1cc305a2594b03ae79ae3523c7554b9ae4f1c72d21ad5cabc5", func := "loop.example/g01109/laws.FnExactIsFirePlan", spec := "fnExactIsFirePlan", apart := false }
def FnExactIsFirePlanSaid : Prop := fnExactIsFirePlanRow.holds Try.pinned (OpenSpec.ofChange fnExactIsFirePlanSpec)

/-- ITS FALSE NEIGHBOUR: 'it returns false'. Refute it at one input. -/
def fnExactIsFirePlanWrong : ChangeSpec := { name := "fnExactIsFirePlan", fn := fun _ => fun
  | [d1, d2, d3, d4] => { results := [.lit (.bool false)], args := [d1, d2, d3, d4] }
  | _ => none }
def FnExactIsFirePlanWrongFalsely : Prop := fnExactIsFirePlanRow.holds Try.pinned (OpenSpec.ofChange fnExactIsFirePlanWrong)

/-- 'laws.FnExactBurntBy': WHATEVER THE INPUT: true; the input reads as it did. -/
def fnExactBurntBySpec : ChangeSpec := { name := "fnExactBurntBy", fn := fun _ => fun
  | [d1, d2] => { results := [.lit (.bool true)], args := [d1, d2] }
  | _ => none }
def fnExactBurntByRow : OpenClaim := { program := "ytbhkimopcliepaa", sum := "104f7890fbf9dc1cc305a2594b03ae79ae3523c7554b9ae4f1c72d21ad5cabc5", func := "loop.example/g01109/laws.FnExactBurntBy", spec := "fnExactBurntBy", apart := false }
def FnExactBurntBySaid : Prop := fnExactBurntByRow.holds Try.pinned (OpenSpec.ofChange fnExactBurntBySpec)

/-- ITS FALSE NEIGHBOUR: 'it returns false'. Refute it at one input. -/
def fnExactBurntByWrong : ChangeSpec := { name := "fnExactBurntBy", fn := fun _ => fun
  | [d1, d2] => { results := [.lit (.bool false)], args := [d1, d2] }
  | _ => none }
def FnExactBurntByWrongFalsely : Prop := fnExactBurntByRow.holds Try.pinned (OpenSpec.ofChange fnExactBurntByWrong)

/-- 'laws.FnExactIsFarSet': WHATEVER THE INPUT: true; the input reads as it did. -/
def fnExactIsFarSetSpec : ChangeSpec := { name := "fnExactIsFarSet", fn := fun _ => fun
  | [d1, d2, d3] => { results := [.lit (.bool true)], args := [d1, d2, d3] }
  | _ => none }
def fnExactIsFarSetRow : OpenClaim := { program := "ytbhkimopcliepaa", sum := "104f7890fbf9dc1cc305a2594b03ae79ae3523c7554b9ae4f1c72d21ad5cabc5", func := "loop.example/g01109/laws.FnExactIsFarSet", spec := "fnExactIsFarSet", unfollowed := true, recurses := true, apart := false }
def FnExactIsFarSetSaid : Prop := fnExactIsFarSetRow.holds Try.pinned (OpenSpec.ofChange fnExactIsFarSetSpec)

/-- ITS FALSE NEIGHBOUR: 'it returns false'. Refute it at one input. -/
def fnExactIsFarSetWrong : ChangeSpec := { name := "fnExactIsFarSet", fn := fun _ => fun
  | [d1, d2, d3] => { results := [.lit (.bool false)], args := [d1, d2, d3] }
  | _ => none }
def FnExactIsFarSetWrongFalsely : Prop := fnExactIsFarSetRow.holds Try.pinned (OpenSpec.ofChange fnExactIsFarSetWrong)

/-- 'laws.FnExactFarBound': WHATEVER THE INPUT: true; the input reads as it did. -/
def fnExactFarBoundSpec : ChangeSpec := { name := "fnExactFarBound", fn := fun _ => fun
  | [d] => { results := [.lit (.bool true)], args := [d] }
  | _ => none }
def fnExactFarBoundRow : OpenClaim := { program := "ytbhkimopcliepaa", sum := "104f7890fbf9dc1cc305a2594b03ae79ae3523c7554b9ae4f1c72d21ad5cabc5", func := "loop.example/g01109/laws.FnExactFarBound", spec := "fnExactFarBound", unfollowed := true, recurses := true, apart := false }
def FnExactFarBoundSaid : Prop := fnExactFarBoundRow.holds Try.pinned (OpenSpec.ofChange fnExactFarBoundSpec)

/-- ITS FALSE NEIGHBOUR: 'it returns false'. Refute it at one input. -/
def fnExactFarBoundWrong : ChangeSpec := { name := "fnExactFarBound", fn := fun _ => fun
  | [d] => { results := [.lit (.bool false)], args := [d] }
  | _ => none }
def FnExactFarBoundWrongFalsely : Prop := fnExactFarBoundRow.holds Try.pinned (OpenSpec.ofChange fnExactFarBoundWrong)

/-- 'laws.FnExactForceRounds': WHATEVER THE INPUT: true; the input reads as it did. -/
def fnExactForceRoundsSpec : ChangeSpec := { name := "fnExactForceRounds", fn := fun _ => fun
  | [d1, d2] => { results := [.lit (.bool true)], args := [d1, d2] }
  | _ => none }
def fnExactForceRoundsRow : OpenClaim := { program := "ytbhkimopcliepaa", sum := "104f7890fbf9dc1cc305a2594b03ae79ae3523c7554b9ae4f1c72d21ad5cabc5", func := "loop.example/g01109/laws.FnExactForceRounds", spec := "fnExactForceRounds", apart := false }
def FnExactForceRoundsSaid : Prop := fnExactForceRoundsRow.holds Try.pinned (OpenSpec.ofChange fnExactForceRoundsSpec)

/-- ITS FALSE NEIGHBOUR: 'it returns false'. Refute it at one input. -/
def fnExactForceRoundsWrong : ChangeSpec := { name := "fnExactForceRounds", fn := fun _ => fun
  | [d1, d2] => { results := [.lit (.bool false)], args := [d1, d2] }
  | _ => none }
def FnExactForceRoundsWrongFalsely : Prop := fnExactForceRoundsRow.holds Try.pinned (OpenSpec.ofChange fnExactForceRoundsWrong)

/- THE SECOND FORM. 'bulk': how many values and letters a reading holds, each counted each time it is reached (what is shared counts as often as it is met; a slice's spare places count too). A statement '..UptoSaid' is the law's where the arguments, and the package variables that the reading takes, are together of bulk at most 1048576: NARROWER than '..Said'. Prove '..Said' where nothing that the law and all that it calls make is longer than what came in: it says more and counts as full. Else prove '..UptoSaid'. A law counts once. -/
mutual
def uptoBulk {H : Type} : DataW H → Nat
  | .lit (.string bytes) => bytes.length + 1
  | .lit _ => 1
  | .nil => 1
  | .ptr d => uptoBulk d + 1
  | .slice elems spare => uptoBulkAll elems + uptoBulkAll spare + 1
  | .agg parts => uptoBulkAll parts + 1
  | .iface _ d => uptoBulk d + 1
  | .map entries => uptoBulkEntries entries + 1
  | .held _ => 1
def uptoBulkAll {H : Type} : List (DataW H) → Nat
  | [] => 0
  | d :: r => uptoBulk d + uptoBulkAll r
def uptoBulkEntries {H : Type} : List (Lit × DataW H) → Nat
  | [] => 0
  | x :: r => uptoBulkEntry x + uptoBulkEntries r
def uptoBulkEntry {H : Type} : Lit × DataW H → Nat
  | (.string bytes, d) => bytes.length + uptoBulk d + 1
  | (_, d) => uptoBulk d + 1
 end
def uptoSmall : (H : Type) → List (DataW H) → Bool := fun _ ds => decide (uptoBulkAll ds ≤ 1048576)
def OpenSpec.upto (s : _root_.Go.ChangeSpec) : _root_.Go.OpenSpec := { _root_.Go.OpenSpec.ofChange s with cond := some uptoSmall }

/-- 'laws.FnExactMostSaved', WHERE WHAT IT READS IS OF BULK AT MOST 1048576: true; the input reads as it did. -/
def fnExactMostSavedUptoRow : OpenClaim := { program := "ytbhkimopcliepaa", sum := "104f7890fbf9dc1cc305a2594b03ae79ae3523c7554b9ae4f1c72d21ad5cabc5", func := "loop.example/g01109/laws.FnExactMostSaved", spec := "fnExactMostSaved", recurses := true, apart := false, narrowed := true }
def FnExactMostSavedUptoSaid : Prop := fnExactMostSavedUptoRow.holds Try.pinned (OpenSpec.upto fnExactMostSavedSpec)

/-- 'laws.FnExactSavedSum', WHERE WHAT IT READS IS OF BULK AT MOST 1048576: true; the input reads as it did. -/
def fnExactSavedSumUptoRow : OpenClaim := { program := "ytbhkimopcliepaa", sum := "104f7890fbf9dc1cc305a2594b03ae79ae3523c7554b9ae4f1c72d21ad5cabc5", func := "loop.example/g01109/laws.FnExactSavedSum", spec := "fnExactSavedSum", recurses := true, apart := false, narrowed := true }
def FnExactSavedSumUptoSaid : Prop := fnExactSavedSumUptoRow.holds Try.pinned (OpenSpec.upto fnExactSavedSumSpec)

/-- 'laws.FnSavedSum', WHERE WHAT IT READS IS OF BULK AT MOST 1048576: true; the input reads as it did. -/
def fnSavedSumUptoRow : OpenClaim := { program := "ytbhkimopcliepaa", sum := "104f7890fbf9dc1cc305a2594b03ae79ae3523c7554b9ae4f1c72d21ad5cabc5", func := "loop.example/g01109/laws.FnSavedSum", spec := "fnSavedSum", recurses := true, apart := false, narrowed := true }
def FnSavedSumUptoSaid : Prop := fnSavedSumUptoRow.holds Try.pinned (OpenSpec.upto fnSavedSumSpec)

/-- 'laws.FnExactIsFirePlan', WHERE WHAT IT READS IS OF BULK AT MOST 1048576: true; the input reads as it did. -/
def fnExactIsFirePlanUptoRow : OpenClaim := { program := "ytbhkimopcliepaa", sum := "104f7890fbf9dc1cc305a2594b03ae79ae3523c7554b9ae4f1c72d21ad5cabc5", func := "loop.example/g01109/laws.FnExactIsFirePlan", spec := "fnExactIsFirePlan", apart := false, narrowed := true }
def FnExactIsFirePlanUptoSaid : Prop := fnExactIsFirePlanUptoRow.holds Try.pinned (OpenSpec.upto fnExactIsFirePlanSpec)

/-- 'laws.FnExactBurntBy', WHERE WHAT IT READS IS OF BULK AT MOST 1048576: true; the input reads as it did. -/
def fnExactBurntByUptoRow : OpenClaim := { program := "ytbhkimopcliepaa", sum := "104f7890fbf9dc1cc305a2594b03ae79ae3523c7554b9ae4f1c72d21ad5cabc5", func := "loop.example/g01109/laws.FnExactBurntBy", spec := "fnExactBurntBy", apart := false, narrowed := true }
def FnExactBurntByUptoSaid : Prop := fnExactBurntByUptoRow.holds Try.pinned (OpenSpec.upto fnExactBurntBySpec)

/-- 'laws.FnExactIsFarSet', WHERE WHAT IT READS IS OF BULK AT MOST 1048576: true; the input reads as it did. -/
def fnExactIsFarSetUptoRow : OpenClaim := { program := "ytbhkimopcliepaa", sum := "104f7890fbf9dc1cc305a2594b03ae79ae3523c7554b9ae4f1c72d21ad5cabc5", func := "loop.example/g01109/laws.FnExactIsFarSet", spec := "fnExactIsFarSet", unfollowed := true, recurses := true, apart := false, narrowed := true }
def FnExactIsFarSetUptoSaid : Prop := fnExactIsFarSetUptoRow.holds Try.pinned (OpenSpec.upto fnExactIsFarSetSpec)

/-- 'laws.FnExactFarBound', WHERE WHAT IT READS IS OF BULK AT MOST 1048576: true; the input reads as it did. -/
def fnExactFarBoundUptoRow : OpenClaim := { program := "ytbhkimopcliepaa", sum := "104f7890fbf9dc1cc305a2594b03ae79ae3523c7554b9ae4f1c72d21ad5cabc5", func := "loop.example/g01109/laws.FnExactFarBound", spec := "fnExactFarBound", unfollowed := true, recurses := true, apart := false, narrowed := true }
def FnExactFarBoundUptoSaid : Prop := fnExactFarBoundUptoRow.holds Try.pinned (OpenSpec.upto fnExactFarBoundSpec)

/-- 'laws.FnExactForceRounds', WHERE WHAT IT READS IS OF BULK AT MOST 1048576: true; the input reads as it did. -/
def fnExactForceRoundsUptoRow : OpenClaim := { program := "ytbhkimopcliepaa", sum := "104f7890fbf9dc1cc305a2594b03ae79ae3523c7554b9ae4f1c72d21ad5cabc5", func := "loop.example/g01109/laws.FnExactForceRounds", spec := "fnExactForceRounds", apart := false, narrowed := true }
def FnExactForceRoundsUptoSaid : Prop := fnExactForceRoundsUptoRow.holds Try.pinned (OpenSpec.upto fnExactForceRoundsSpec)

end Rows
end Go.Proofs.Ytbhkimopcliepaa
