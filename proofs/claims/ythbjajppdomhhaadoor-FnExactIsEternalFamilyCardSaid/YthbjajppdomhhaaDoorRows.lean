/-
  NARROWER THAN 'FOR EVERY INPUT', by the rows' own cells (each row's printed sentence says how): FnExactMatchingNumber: laid · FnExactCanMoveGuards: laid · FnExactIsEternalFamily: laid · FnExactReversedSet: laid · FnExactChainsOf: laid · FnExactEternalNumber: laid · FnExactGuardAnswers: laid · FnExactResistances: laid.
  DERIVED. THE GIVEN ROWS OF THIS SEAT. 8 by the template 'for every input the law returns true; each argument reads behind the call as it read before'; 0 by the template 'total and deterministic' (their statements: YthbjajppdomhhaaDoorTotals.lean).
  GIVEN WITH THE SEED: the statements are not yours to turn. If you find one false, say at which input.
  Laid BY PROGRAM, IN A SANDBOX (cutbox-rows.mjs): the forced cells as the released guide's own fill.sh prints them over the translation e6b4dd83dd29da40… (all of the seat's roots in one cut). By AI agents, Wed Nov 11 2026. No macro, syntax, notation, axiom, sorry.
-/
import Derived.Test.YthbjajppdomhhaaDoorChecked
import GoSem.Claim
import GoSem.ClaimJoined
import GoSem.ClaimMapViews
import Derived.JoinedTies
import Derived.KernelRfl
namespace Go.Proofs.YthbjajppdomhhaaDoor
/- THE CELL 'sum', in the pinned program and in every row, IS THE sha256 OF THE DUMP (.gsa) THAT YthbjajppdomhhaaDoorProg.lean LOADS. Nothing in Lean hashes anything: it is a label: what it is worth is what the hold of that sum in a sandbox is worth. -/
noncomputable def Tryd.pinned : Pinned := { name := "ythbjajppdomhhaadoor", sum := "e6b4dd83dd29da401c8957b335edf4bad79c6142523a9a6fdb2b61ac7d5ffc92", checked := Tryd.checked }
namespace Rows
def none {H : Type} : Left H := { results := [], args := [] }

/- WHAT THE LISTED PACKAGE-LEVEL VARIABLES READ AS WHEN THE CALL BEGINS. Each datum BY PROGRAM (the guide's laid-datum.mjs) off the statement by which the dump's own 'gosem.cut.vars' lays the variable. In a bare row this is a premise. The card (YthbjajppdomhhaaDoorCards.lean) ties it to the program's text. -/
def laid_math_bits_deBruijn32tab {H : Type} : DataW H := .agg [.lit (.int .u8 0), .lit (.int .u8 1), .lit (.int .u8 28), .lit (.int .u8 2), .lit (.int .u8 29), .lit (.int .u8 14), .lit (.int .u8 24), .lit (.int .u8 3), .lit (.int .u8 30), .lit (.int .u8 22), .lit (.int .u8 20), .lit (.int .u8 15), .lit (.int .u8 25), .lit (.int .u8 17), .lit (.int .u8 4), .lit (.int .u8 8), .lit (.int .u8 31), .lit (.int .u8 27), .lit (.int .u8 13), .lit (.int .u8 23), .lit (.int .u8 21), .lit (.int .u8 19), .lit (.int .u8 16), .lit (.int .u8 7), .lit (.int .u8 26), .lit (.int .u8 12), .lit (.int .u8 18), .lit (.int .u8 6), .lit (.int .u8 11), .lit (.int .u8 5), .lit (.int .u8 10), .lit (.int .u8 9)]
def laid_math_bits_deBruijn64tab {H : Type} : DataW H := .agg [.lit (.int .u8 0), .lit (.int .u8 1), .lit (.int .u8 56), .lit (.int .u8 2), .lit (.int .u8 57), .lit (.int .u8 49), .lit (.int .u8 28), .lit (.int .u8 3), .lit (.int .u8 61), .lit (.int .u8 58), .lit (.int .u8 42), .lit (.int .u8 50), .lit (.int .u8 38), .lit (.int .u8 29), .lit (.int .u8 17), .lit (.int .u8 4), .lit (.int .u8 62), .lit (.int .u8 47), .lit (.int .u8 59), .lit (.int .u8 36), .lit (.int .u8 45), .lit (.int .u8 43), .lit (.int .u8 51), .lit (.int .u8 22), .lit (.int .u8 53), .lit (.int .u8 39), .lit (.int .u8 33), .lit (.int .u8 30), .lit (.int .u8 24), .lit (.int .u8 18), .lit (.int .u8 12), .lit (.int .u8 5), .lit (.int .u8 63), .lit (.int .u8 55), .lit (.int .u8 48), .lit (.int .u8 27), .lit (.int .u8 60), .lit (.int .u8 41), .lit (.int .u8 37), .lit (.int .u8 16), .lit (.int .u8 46), .lit (.int .u8 35), .lit (.int .u8 44), .lit (.int .u8 21), .lit (.int .u8 52), .lit (.int .u8 32), .lit (.int .u8 23), .lit (.int .u8 11), .lit (.int .u8 54), .lit (.int .u8 26), .lit (.int .u8 40), .lit (.int .u8 15), .lit (.int .u8 34), .lit (.int .u8 20), .lit (.int .u8 31), .lit (.int .u8 10), .lit (.int .u8 25), .lit (.int .u8 14), .lit (.int .u8 19), .lit (.int .u8 9), .lit (.int .u8 13), .lit (.int .u8 8), .lit (.int .u8 7), .lit (.int .u8 6)]

/-- 'laws.FnExactMatchingNumber': WHATEVER THE INPUT: true; the input reads as it did. -/
def fnExactMatchingNumberSpec : ChangeSpec := { name := "fnExactMatchingNumber", fn := fun _ => fun
  | [d] => { results := [.lit (.bool true)], args := [d] }
  | _ => none }
def fnExactMatchingNumberRow : OpenClaim := { program := "ythbjajppdomhhaadoor", sum := "e6b4dd83dd29da401c8957b335edf4bad79c6142523a9a6fdb2b61ac7d5ffc92", func := "loop.example/g01109/laws.FnExactMatchingNumber", spec := "fnExactMatchingNumber", recurses := true, named := ["math/bits.deBruijn32tab", "math/bits.deBruijn64tab"], apart := false, laid := [("math/bits.deBruijn32tab", laid_math_bits_deBruijn32tab), ("math/bits.deBruijn64tab", laid_math_bits_deBruijn64tab)] }
def FnExactMatchingNumberSaid : Prop := fnExactMatchingNumberRow.holds Tryd.pinned (OpenSpec.ofChange fnExactMatchingNumberSpec)

/-- ITS FALSE NEIGHBOUR: 'it returns false'. Refute it at one input. -/
def fnExactMatchingNumberWrong : ChangeSpec := { name := "fnExactMatchingNumber", fn := fun _ => fun
  | [d] => { results := [.lit (.bool false)], args := [d] }
  | _ => none }
def FnExactMatchingNumberWrongFalsely : Prop := fnExactMatchingNumberRow.holds Tryd.pinned (OpenSpec.ofChange fnExactMatchingNumberWrong)

/-- 'laws.FnExactCanMoveGuards': WHATEVER THE INPUT: true; the input reads as it did. -/
def fnExactCanMoveGuardsSpec : ChangeSpec := { name := "fnExactCanMoveGuards", fn := fun _ => fun
  | [d1, d2, d3, d4] => { results := [.lit (.bool true)], args := [d1, d2, d3, d4] }
  | _ => none }
def fnExactCanMoveGuardsRow : OpenClaim := { program := "ythbjajppdomhhaadoor", sum := "e6b4dd83dd29da401c8957b335edf4bad79c6142523a9a6fdb2b61ac7d5ffc92", func := "loop.example/g01109/laws.FnExactCanMoveGuards", spec := "fnExactCanMoveGuards", unfollowed := true, recurses := true, named := ["math/bits.deBruijn32tab", "math/bits.deBruijn64tab"], apart := false, laid := [("math/bits.deBruijn32tab", laid_math_bits_deBruijn32tab), ("math/bits.deBruijn64tab", laid_math_bits_deBruijn64tab)] }
def FnExactCanMoveGuardsSaid : Prop := fnExactCanMoveGuardsRow.holds Tryd.pinned (OpenSpec.ofChange fnExactCanMoveGuardsSpec)

/-- ITS FALSE NEIGHBOUR: 'it returns false'. Refute it at one input. -/
def fnExactCanMoveGuardsWrong : ChangeSpec := { name := "fnExactCanMoveGuards", fn := fun _ => fun
  | [d1, d2, d3, d4] => { results := [.lit (.bool false)], args := [d1, d2, d3, d4] }
  | _ => none }
def FnExactCanMoveGuardsWrongFalsely : Prop := fnExactCanMoveGuardsRow.holds Tryd.pinned (OpenSpec.ofChange fnExactCanMoveGuardsWrong)

/-- 'laws.FnExactIsEternalFamily': WHATEVER THE INPUT: true; the input reads as it did. -/
def fnExactIsEternalFamilySpec : ChangeSpec := { name := "fnExactIsEternalFamily", fn := fun _ => fun
  | [d1, d2, d3] => { results := [.lit (.bool true)], args := [d1, d2, d3] }
  | _ => none }
def fnExactIsEternalFamilyRow : OpenClaim := { program := "ythbjajppdomhhaadoor", sum := "e6b4dd83dd29da401c8957b335edf4bad79c6142523a9a6fdb2b61ac7d5ffc92", func := "loop.example/g01109/laws.FnExactIsEternalFamily", spec := "fnExactIsEternalFamily", unfollowed := true, recurses := true, named := ["math/bits.deBruijn32tab", "math/bits.deBruijn64tab"], apart := false, laid := [("math/bits.deBruijn32tab", laid_math_bits_deBruijn32tab), ("math/bits.deBruijn64tab", laid_math_bits_deBruijn64tab)] }
def FnExactIsEternalFamilySaid : Prop := fnExactIsEternalFamilyRow.holds Tryd.pinned (OpenSpec.ofChange fnExactIsEternalFamilySpec)

/-- ITS FALSE NEIGHBOUR: 'it returns false'. Refute it at one input. -/
def fnExactIsEternalFamilyWrong : ChangeSpec := { name := "fnExactIsEternalFamily", fn := fun _ => fun
  | [d1, d2, d3] => { results := [.lit (.bool false)], args := [d1, d2, d3] }
  | _ => none }
def FnExactIsEternalFamilyWrongFalsely : Prop := fnExactIsEternalFamilyRow.holds Tryd.pinned (OpenSpec.ofChange fnExactIsEternalFamilyWrong)

/-- 'laws.FnExactReversedSet': WHATEVER THE INPUT: true; the input reads as it did. -/
def fnExactReversedSetSpec : ChangeSpec := { name := "fnExactReversedSet", fn := fun _ => fun
  | [d1, d2] => { results := [.lit (.bool true)], args := [d1, d2] }
  | _ => none }
def fnExactReversedSetRow : OpenClaim := { program := "ythbjajppdomhhaadoor", sum := "e6b4dd83dd29da401c8957b335edf4bad79c6142523a9a6fdb2b61ac7d5ffc92", func := "loop.example/g01109/laws.FnExactReversedSet", spec := "fnExactReversedSet", unfollowed := true, recurses := true, named := ["math/bits.deBruijn32tab", "math/bits.deBruijn64tab"], apart := false, laid := [("math/bits.deBruijn32tab", laid_math_bits_deBruijn32tab), ("math/bits.deBruijn64tab", laid_math_bits_deBruijn64tab)] }
def FnExactReversedSetSaid : Prop := fnExactReversedSetRow.holds Tryd.pinned (OpenSpec.ofChange fnExactReversedSetSpec)

/-- ITS FALSE NEIGHBOUR: 'it returns false'. Refute it at one input. -/
def fnExactReversedSetWrong : ChangeSpec := { name := "fnExactReversedSet", fn := fun _ => fun
  | [d1, d2] => { results := [.lit (.bool false)], args := [d1, d2] }
  | _ => none }
def FnExactReversedSetWrongFalsely : Prop := fnExactReversedSetRow.holds Tryd.pinned (OpenSpec.ofChange fnExactReversedSetWrong)

/-- 'laws.FnExactChainsOf': WHATEVER THE INPUT: true; the input reads as it did. -/
def fnExactChainsOfSpec : ChangeSpec := { name := "fnExactChainsOf", fn := fun _ => fun
  | [d1, d2] => { results := [.lit (.bool true)], args := [d1, d2] }
  | _ => none }
def fnExactChainsOfRow : OpenClaim := { program := "ythbjajppdomhhaadoor", sum := "e6b4dd83dd29da401c8957b335edf4bad79c6142523a9a6fdb2b61ac7d5ffc92", func := "loop.example/g01109/laws.FnExactChainsOf", spec := "fnExactChainsOf", unfollowed := true, recurses := true, named := ["math/bits.deBruijn32tab", "math/bits.deBruijn64tab"], apart := false, laid := [("math/bits.deBruijn32tab", laid_math_bits_deBruijn32tab), ("math/bits.deBruijn64tab", laid_math_bits_deBruijn64tab)] }
def FnExactChainsOfSaid : Prop := fnExactChainsOfRow.holds Tryd.pinned (OpenSpec.ofChange fnExactChainsOfSpec)

/-- ITS FALSE NEIGHBOUR: 'it returns false'. Refute it at one input. -/
def fnExactChainsOfWrong : ChangeSpec := { name := "fnExactChainsOf", fn := fun _ => fun
  | [d1, d2] => { results := [.lit (.bool false)], args := [d1, d2] }
  | _ => none }
def FnExactChainsOfWrongFalsely : Prop := fnExactChainsOfRow.holds Tryd.pinned (OpenSpec.ofChange fnExactChainsOfWrong)

/-- 'laws.FnExactEternalNumber': WHATEVER THE INPUT: true; the input reads as it did. -/
def fnExactEternalNumberSpec : ChangeSpec := { name := "fnExactEternalNumber", fn := fun _ => fun
  | [d1, d2] => { results := [.lit (.bool true)], args := [d1, d2] }
  | _ => none }
def fnExactEternalNumberRow : OpenClaim := { program := "ythbjajppdomhhaadoor", sum := "e6b4dd83dd29da401c8957b335edf4bad79c6142523a9a6fdb2b61ac7d5ffc92", func := "loop.example/g01109/laws.FnExactEternalNumber", spec := "fnExactEternalNumber", unfollowed := true, recurses := true, named := ["math/bits.deBruijn32tab", "math/bits.deBruijn64tab"], apart := false, laid := [("math/bits.deBruijn32tab", laid_math_bits_deBruijn32tab), ("math/bits.deBruijn64tab", laid_math_bits_deBruijn64tab)] }
def FnExactEternalNumberSaid : Prop := fnExactEternalNumberRow.holds Tryd.pinned (OpenSpec.ofChange fnExactEternalNumberSpec)

/-- ITS FALSE NEIGHBOUR: 'it returns false'. Refute it at one input. -/
def fnExactEternalNumberWrong : ChangeSpec := { name := "fnExactEternalNumber", fn := fun _ => fun
  | [d1, d2] => { results := [.lit (.bool false)], args := [d1, d2] }
  | _ => none }
def FnExactEternalNumberWrongFalsely : Prop := fnExactEternalNumberRow.holds Tryd.pinned (OpenSpec.ofChange fnExactEternalNumberWrong)

/-- 'laws.FnExactGuardAnswers': WHATEVER THE INPUT: true; the input reads as it did. -/
def fnExactGuardAnswersSpec : ChangeSpec := { name := "fnExactGuardAnswers", fn := fun _ => fun
  | [d1, d2, d3, d4] => { results := [.lit (.bool true)], args := [d1, d2, d3, d4] }
  | _ => none }
def fnExactGuardAnswersRow : OpenClaim := { program := "ythbjajppdomhhaadoor", sum := "e6b4dd83dd29da401c8957b335edf4bad79c6142523a9a6fdb2b61ac7d5ffc92", func := "loop.example/g01109/laws.FnExactGuardAnswers", spec := "fnExactGuardAnswers", unfollowed := true, recurses := true, named := ["math/bits.deBruijn32tab", "math/bits.deBruijn64tab"], apart := false, laid := [("math/bits.deBruijn32tab", laid_math_bits_deBruijn32tab), ("math/bits.deBruijn64tab", laid_math_bits_deBruijn64tab)] }
def FnExactGuardAnswersSaid : Prop := fnExactGuardAnswersRow.holds Tryd.pinned (OpenSpec.ofChange fnExactGuardAnswersSpec)

/-- ITS FALSE NEIGHBOUR: 'it returns false'. Refute it at one input. -/
def fnExactGuardAnswersWrong : ChangeSpec := { name := "fnExactGuardAnswers", fn := fun _ => fun
  | [d1, d2, d3, d4] => { results := [.lit (.bool false)], args := [d1, d2, d3, d4] }
  | _ => none }
def FnExactGuardAnswersWrongFalsely : Prop := fnExactGuardAnswersRow.holds Tryd.pinned (OpenSpec.ofChange fnExactGuardAnswersWrong)

/-- 'laws.FnExactResistances': WHATEVER THE INPUT: true; the input reads as it did. -/
def fnExactResistancesSpec : ChangeSpec := { name := "fnExactResistances", fn := fun _ => fun
  | [d1, d2, d3] => { results := [.lit (.bool true)], args := [d1, d2, d3] }
  | _ => none }
def fnExactResistancesRow : OpenClaim := { program := "ythbjajppdomhhaadoor", sum := "e6b4dd83dd29da401c8957b335edf4bad79c6142523a9a6fdb2b61ac7d5ffc92", func := "loop.example/g01109/laws.FnExactResistances", spec := "fnExactResistances", unfollowed := true, recurses := true, named := ["math/bits.deBruijn32tab", "math/bits.deBruijn64tab"], apart := false, laid := [("math/bits.deBruijn32tab", laid_math_bits_deBruijn32tab), ("math/bits.deBruijn64tab", laid_math_bits_deBruijn64tab)] }
def FnExactResistancesSaid : Prop := fnExactResistancesRow.holds Tryd.pinned (OpenSpec.ofChange fnExactResistancesSpec)

/-- ITS FALSE NEIGHBOUR: 'it returns false'. Refute it at one input. -/
def fnExactResistancesWrong : ChangeSpec := { name := "fnExactResistances", fn := fun _ => fun
  | [d1, d2, d3] => { results := [.lit (.bool false)], args := [d1, d2, d3] }
  | _ => none }
def FnExactResistancesWrongFalsely : Prop := fnExactResistancesRow.holds Tryd.pinned (OpenSpec.ofChange fnExactResistancesWrong)

/- THE SECOND FORM. 'bulk': how many values and letters a reading holds, each counted each time it is reached (what is shared counts as often as it is met; a slice's spare places count too). A statement '..UptoSaid' is the law's where the arguments, and the package variables that the reading takes, are together of bulk at most 1048576: NARROWER than '..Said'. Prove '..Said' where nothing that the law and all that it calls make is longer than what came in: it says more and counts as full. Else prove '..UptoSaid'. A law counts once. -/
mutual
def uptoBulk {H : Type} : DataW H → Nat
  | .lit (.string bytes) => bytes.length + 1
  | .lit _ => 1
  | .nil => 1
  | .ptr d => uptoBulk d + 1
  | .slice elems spare => uptoBulkAll elems + uptoBulkAll spare + 1
  | .agg parts => uptoBulkAll parts + 1
  | .iface _ d => uptoBulk d + 1
  | .map entries => uptoBulkEntries entries + 1
  | .held _ => 1
def uptoBulkAll {H : Type} : List (DataW H) → Nat
  | [] => 0
  | d :: r => uptoBulk d + uptoBulkAll r
def uptoBulkEntries {H : Type} : List (Lit × DataW H) → Nat
  | [] => 0
  | x :: r => uptoBulkEntry x + uptoBulkEntries r
def uptoBulkEntry {H : Type} : Lit × DataW H → Nat
  | (.string bytes, d) => bytes.length + uptoBulk d + 1
  | (_, d) => uptoBulk d + 1
 end
def uptoSmall : (H : Type) → List (DataW H) → Bool := fun _ ds => decide (uptoBulkAll ds ≤ 1048576)
def OpenSpec.upto (s : _root_.Go.ChangeSpec) : _root_.Go.OpenSpec := { _root_.Go.OpenSpec.ofChange s with cond := some uptoSmall }

/-- 'laws.FnExactMatchingNumber', WHERE WHAT IT READS IS OF BULK AT MOST 1048576: true; the input reads as it did. -/
def fnExactMatchingNumberUptoRow : OpenClaim := { program := "ythbjajppdomhhaadoor", sum := "e6b4dd83dd29da401c8957b335edf4bad79c6142523a9a6fdb2b61ac7d5ffc92", func := "loop.example/g01109/laws.FnExactMatchingNumber", spec := "fnExactMatchingNumber", recurses := true, named := ["math/bits.deBruijn32tab", "math/bits.deBruijn64tab"], apart := false, laid := [("math/bits.deBruijn32tab", laid_math_bits_deBruijn32tab), ("math/bits.deBruijn64tab", laid_math_bits_deBruijn64tab)], narrowed := true }
def FnExactMatchingNumberUptoSaid : Prop := fnExactMatchingNumberUptoRow.holds Tryd.pinned (OpenSpec.upto fnExactMatchingNumberSpec)

/-- 'laws.FnExactCanMoveGuards', WHERE WHAT IT READS IS OF BULK AT MOST 1048576: true; the input reads as it did. -/
def fnExactCanMoveGuardsUptoRow : OpenClaim := { program := "ythbjajppdomhhaadoor", sum := "e6b4dd83dd29da401c8957b335edf4bad79c6142523a9a6fdb2b61ac7d5ffc92", func := "loop.example/g01109/laws.FnExactCanMoveGuards", spec := "fnExactCanMoveGuards", unfollowed := true, recurses := true, named := ["math/bits.deBruijn32tab", "math/bits.deBruijn64tab"], apart := false, laid := [("math/bits.deBruijn32tab", laid_math_bits_deBruijn32tab), ("math/bits.deBruijn64tab", laid_math_bits_deBruijn64tab)], narrowed := true }
def FnExactCanMoveGuardsUptoSaid : Prop := fnExactCanMoveGuardsUptoRow.holds Tryd.pinned (OpenSpec.upto fnExactCanMoveGuardsSpec)

/-- 'laws.FnExactIsEternalFamily', WHERE WHAT IT READS IS OF BULK AT MOST 1048576: true; the input reads as it did. -/
def fnExactIsEternalFamilyUptoRow : OpenClaim := { program := "ythbjajppdomhhaadoor", sum := "e6b4dd83dd29da401c8957b335edf4bad79c6142523a9a6fdb2b61ac7d5ffc92", func := "loop.example/g01109/laws.FnExactIsEternalFamily", spec := "fnExactIsEternalFamily", unfollowed := true, recurses := true, named := ["math/bits.deBruijn32tab", "math/bits.deBruijn64tab"], apart := false, laid := [("math/bits.deBruijn32tab", laid_math_bits_deBruijn32tab), ("math/bits.deBruijn64tab", laid_math_bits_deBruijn64tab)], narrowed := true }
def FnExactIsEternalFamilyUptoSaid : Prop := fnExactIsEternalFamilyUptoRow.holds Tryd.pinned (OpenSpec.upto fnExactIsEternalFamilySpec)

/-- 'laws.FnExactReversedSet', WHERE WHAT IT READS IS OF BULK AT MOST 1048576: true; the input reads as it did. -/
def fnExactReversedSetUptoRow : OpenClaim := { program := "ythbjajppdomhhaadoor", sum := "e6b4dd83dd29da401c8957b335edf4bad79c6142523a9a6fdb2b61ac7d5ffc92", func := "loop.example/g01109/laws.FnExactReversedSet", spec := "fnExactReversedSet", unfollowed := true, recurses := true, named := ["math/bits.deBruijn32tab", "math/bits.deBruijn64tab"], apart := false, laid := [("math/bits.deBruijn32tab", laid_math_bits_deBruijn32tab), ("math/bits.deBruijn64tab", laid_math_bits_deBruijn64tab)], narrowed := true }
def FnExactReversedSetUptoSaid : Prop := fnExactReversedSetUptoRow.holds Tryd.pinned (OpenSpec.upto fnExactReversedSetSpec)

/-- 'laws.FnExactChainsOf', WHERE WHAT IT READS IS OF BULK AT MOST 1048576: true; the input reads as it did. -/
def fnExactChainsOfUptoRow : OpenClaim := { program := "ythbjajppdomhhaadoor", sum := "e6b4dd83dd29da401c8957b335edf4bad79c6142523a9a6fdb2b61ac7d5ffc92", func := "loop.example/g01109/laws.FnExactChainsOf", spec := "fnExactChainsOf", unfollowed := true, recurses := true, named := ["math/bits.deBruijn32tab", "math/bits.deBruijn64tab"], apart := false, laid := [("math/bits.deBruijn32tab", laid_math_bits_deBruijn32tab), ("math/bits.deBruijn64tab", laid_math_bits_deBruijn64tab)], narrowed := true }
def FnExactChainsOfUptoSaid : Prop := fnExactChainsOfUptoRow.holds Tryd.pinned (OpenSpec.upto fnExactChainsOfSpec)

/-- 'laws.FnExactEternalNumber', WHERE WHAT IT READS IS OF BULK AT MOST 1048576: true; the input reads as it did. -/
def fnExactEternalNumberUptoRow : OpenClaim := { program := "ythbjajppdomhhaadoor", sum := "e6b4dd83dd29da401c8957b335edf4bad79c6142523a9a6fdb2b61ac7d5ffc92", func := "loop.example/g01109/laws.FnExactEternalNumber", spec := "fnExactEternalNumber", unfollowed := true, recurses := true, named := ["math/bits.deBruijn32tab", "math/bits.deBruijn64tab"], apart := false, laid := [("math/bits.deBruijn32tab", laid_math_bits_deBruijn32tab), ("math/bits.deBruijn64tab", laid_math_bits_deBruijn64tab)], narrowed := true }
def FnExactEternalNumberUptoSaid : Prop := fnExactEternalNumberUptoRow.holds Tryd.pinned (OpenSpec.upto fnExactEternalNumberSpec)

/-- 'laws.FnExactGuardAnswers', WHERE WHAT IT READS IS OF BULK AT MOST 1048576: true; the input reads as it did. -/
def fnExactGuardAnswersUptoRow : OpenClaim := { program := "ythbjajppdomhhaadoor", sum := "e6b4dd83dd29da401c8957b335edf4bad79c6142523a9a6fdb2b61ac7d5ffc92", func := "loop.example/g01109/laws.FnExactGuardAnswers", spec := "fnExactGuardAnswers", unfollowed := true, recurses := true, named := ["math/bits.deBruijn32tab", "math/bits.deBruijn64tab"], apart := false, laid := [("math/bits.deBruijn32tab", laid_math_bits_deBruijn32tab), ("math/bits.deBruijn64tab", laid_math_bits_deBruijn64tab)], narrowed := true }
def FnExactGuardAnswersUptoSaid : Prop := fnExactGuardAnswersUptoRow.holds Tryd.pinned (OpenSpec.upto fnExactGuardAnswersSpec)

/-- 'laws.FnExactResistances', WHERE WHAT IT READS IS OF BULK AT MOST 1048576: true; the input reads as it did. -/
def fnExactResistancesUptoRow : OpenClaim := { program := "ythbjajppdomhhaadoor", sum := "e6b4dd83dd29da401c8957b335edf4bad79c6142523a9a6fdb2b61ac7d5ffc92", func := "loop.example/g01109/laws.FnExactResistances", spec := "fnExactResistances", unfollowed := true, recurses := true, named := ["math/bits.deBruijn32tab", "math/bits.deBruijn64tab"], apart := false, laid := [("math/bits.deBruijn32tab", laid_math_bits_deBruijn32tab), ("math/bits.deBruijn64tab", laid_math_bits_deBruijn64tab)], narrowed := true }
def FnExactResistancesUptoSaid : Prop := fnExactResistancesUptoRow.holds Tryd.pinned (OpenSpec.upto fnExactResistancesSpec)

end Rows
end Go.Proofs.YthbjajppdomhhaaDoor
