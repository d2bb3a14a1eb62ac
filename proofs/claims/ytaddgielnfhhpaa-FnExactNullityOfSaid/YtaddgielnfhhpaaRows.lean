/-
  No cell of these rows narrows 'for every input' (looked for: loops, veiled, ifaces, maps, wideKeys, modest, calm, conditions, laid).
  DERIVED. THE GIVEN ROWS OF THIS SEAT. 6 by the template 'for every input the law returns true; each argument reads behind the call as it read before'; 0 by the template 'total and deterministic' (their statements: YtaddgielnfhhpaaTotals.lean).
  GIVEN WITH THE SEED: the statements are not yours to turn. If you find one false, say at which input.
  Laid BY PROGRAM, IN A SANDBOX (cutbox-rows.mjs): the forced cells as the released guide's own fill.sh prints them over the translation cf09e897b0504327… (all of the seat's roots in one cut). By AI agents, Wed Nov 11 2026. No macro, syntax, notation, axiom, sorry.
-/
import Derived.Test.YtaddgielnfhhpaaChecked
import GoSem.Claim
import GoSem.ClaimJoined
import GoSem.ClaimMapViews
import Derived.JoinedTies
import Derived.KernelRfl
namespace Go.Proofs.Ytaddgielnfhhpaa
/- THE CELL 'sum', in the pinned program and in every row, IS THE sha256 OF THE DUMP (.gsa) THAT YtaddgielnfhhpaaProg.lean LOADS. Nothing in Lean hashes anything: it is a label: what it is worth is what the hold of that sum in a sandbox is worth. -/
noncomputable def Try.pinned : Pinned := { name := "ytaddgielnfhhpaa", sum := "cf09e897b05043276981da7c513f2395c30578c501d07e3cbda49312807a4c92", checked := Try.checked }
namespace Rows
def none {H : Type} : Left H := { results := [], args := [] }

/-- 'laws.FnExactNullityOf': WHATEVER THE INPUT: true; the input reads as it did. -/
def fnExactNullityOfSpec : ChangeSpec := { name := "fnExactNullityOf", fn := fun _ => fun
  | [d1, d2] => { results := [.lit (.bool true)], args := [d1, d2] }
  | _ => none }
def fnExactNullityOfRow : OpenClaim := { program := "ytaddgielnfhhpaa", sum := "cf09e897b05043276981da7c513f2395c30578c501d07e3cbda49312807a4c92", func := "loop.example/g01109/laws.FnExactNullityOf", spec := "fnExactNullityOf", unfollowed := true, recurses := true, plainKeys := false, apart := false }
def FnExactNullityOfSaid : Prop := fnExactNullityOfRow.holds Try.pinned (OpenSpec.ofChange fnExactNullityOfSpec)

/-- ITS FALSE NEIGHBOUR: 'it returns false'. Refute it at one input. -/
def fnExactNullityOfWrong : ChangeSpec := { name := "fnExactNullityOf", fn := fun _ => fun
  | [d1, d2] => { results := [.lit (.bool false)], args := [d1, d2] }
  | _ => none }
def FnExactNullityOfWrongFalsely : Prop := fnExactNullityOfRow.holds Try.pinned (OpenSpec.ofChange fnExactNullityOfWrong)

/-- 'laws.FnExactBurningNumber': WHATEVER THE INPUT: true; the input reads as it did. -/
def fnExactBurningNumberSpec : ChangeSpec := { name := "fnExactBurningNumber", fn := fun _ => fun
  | [d] => { results := [.lit (.bool true)], args := [d] }
  | _ => none }
def fnExactBurningNumberRow : OpenClaim := { program := "ytaddgielnfhhpaa", sum := "cf09e897b05043276981da7c513f2395c30578c501d07e3cbda49312807a4c92", func := "loop.example/g01109/laws.FnExactBurningNumber", spec := "fnExactBurningNumber", recurses := true, plainKeys := false, apart := false }
def FnExactBurningNumberSaid : Prop := fnExactBurningNumberRow.holds Try.pinned (OpenSpec.ofChange fnExactBurningNumberSpec)

/-- ITS FALSE NEIGHBOUR: 'it returns false'. Refute it at one input. -/
def fnExactBurningNumberWrong : ChangeSpec := { name := "fnExactBurningNumber", fn := fun _ => fun
  | [d] => { results := [.lit (.bool false)], args := [d] }
  | _ => none }
def FnExactBurningNumberWrongFalsely : Prop := fnExactBurningNumberRow.holds Try.pinned (OpenSpec.ofChange fnExactBurningNumberWrong)

/-- 'laws.FnExactLeastCliqueCover': WHATEVER THE INPUT: true; the input reads as it did. -/
def fnExactLeastCliqueCoverSpec : ChangeSpec := { name := "fnExactLeastCliqueCover", fn := fun _ => fun
  | [d] => { results := [.lit (.bool true)], args := [d] }
  | _ => none }
def fnExactLeastCliqueCoverRow : OpenClaim := { program := "ytaddgielnfhhpaa", sum := "cf09e897b05043276981da7c513f2395c30578c501d07e3cbda49312807a4c92", func := "loop.example/g01109/laws.FnExactLeastCliqueCover", spec := "fnExactLeastCliqueCover", unfollowed := true, recurses := true, plainKeys := false, apart := false }
def FnExactLeastCliqueCoverSaid : Prop := fnExactLeastCliqueCoverRow.holds Try.pinned (OpenSpec.ofChange fnExactLeastCliqueCoverSpec)

/-- ITS FALSE NEIGHBOUR: 'it returns false'. Refute it at one input. -/
def fnExactLeastCliqueCoverWrong : ChangeSpec := { name := "fnExactLeastCliqueCover", fn := fun _ => fun
  | [d] => { results := [.lit (.bool false)], args := [d] }
  | _ => none }
def FnExactLeastCliqueCoverWrongFalsely : Prop := fnExactLeastCliqueCoverRow.holds Try.pinned (OpenSpec.ofChange fnExactLeastCliqueCoverWrong)

/-- 'laws.FnExactBestBurning': WHATEVER THE INPUT: true; the input reads as it did. -/
def fnExactBestBurningSpec : ChangeSpec := { name := "fnExactBestBurning", fn := fun _ => fun
  | [d] => { results := [.lit (.bool true)], args := [d] }
  | _ => none }
def fnExactBestBurningRow : OpenClaim := { program := "ytaddgielnfhhpaa", sum := "cf09e897b05043276981da7c513f2395c30578c501d07e3cbda49312807a4c92", func := "loop.example/g01109/laws.FnExactBestBurning", spec := "fnExactBestBurning", recurses := true, plainKeys := false, apart := false }
def FnExactBestBurningSaid : Prop := fnExactBestBurningRow.holds Try.pinned (OpenSpec.ofChange fnExactBestBurningSpec)

/-- ITS FALSE NEIGHBOUR: 'it returns false'. Refute it at one input. -/
def fnExactBestBurningWrong : ChangeSpec := { name := "fnExactBestBurning", fn := fun _ => fun
  | [d] => { results := [.lit (.bool false)], args := [d] }
  | _ => none }
def FnExactBestBurningWrongFalsely : Prop := fnExactBestBurningRow.holds Try.pinned (OpenSpec.ofChange fnExactBestBurningWrong)

/-- 'laws.FnExactBestFirePlan': WHATEVER THE INPUT: true; the input reads as it did. -/
def fnExactBestFirePlanSpec : ChangeSpec := { name := "fnExactBestFirePlan", fn := fun _ => fun
  | [d1, d2, d3] => { results := [.lit (.bool true)], args := [d1, d2, d3] }
  | _ => none }
def fnExactBestFirePlanRow : OpenClaim := { program := "ytaddgielnfhhpaa", sum := "cf09e897b05043276981da7c513f2395c30578c501d07e3cbda49312807a4c92", func := "loop.example/g01109/laws.FnExactBestFirePlan", spec := "fnExactBestFirePlan", recurses := true, plainKeys := false, apart := false }
def FnExactBestFirePlanSaid : Prop := fnExactBestFirePlanRow.holds Try.pinned (OpenSpec.ofChange fnExactBestFirePlanSpec)

/-- ITS FALSE NEIGHBOUR: 'it returns false'. Refute it at one input. -/
def fnExactBestFirePlanWrong : ChangeSpec := { name := "fnExactBestFirePlan", fn := fun _ => fun
  | [d1, d2, d3] => { results := [.lit (.bool false)], args := [d1, d2, d3] }
  | _ => none }
def FnExactBestFirePlanWrongFalsely : Prop := fnExactBestFirePlanRow.holds Try.pinned (OpenSpec.ofChange fnExactBestFirePlanWrong)

/-- 'laws.FnExactFortsOf': WHATEVER THE INPUT: true; the input reads as it did. -/
def fnExactFortsOfSpec : ChangeSpec := { name := "fnExactFortsOf", fn := fun _ => fun
  | [d] => { results := [.lit (.bool true)], args := [d] }
  | _ => none }
def fnExactFortsOfRow : OpenClaim := { program := "ytaddgielnfhhpaa", sum := "cf09e897b05043276981da7c513f2395c30578c501d07e3cbda49312807a4c92", func := "loop.example/g01109/laws.FnExactFortsOf", spec := "fnExactFortsOf", unfollowed := true, recurses := true, plainKeys := false, apart := false }
def FnExactFortsOfSaid : Prop := fnExactFortsOfRow.holds Try.pinned (OpenSpec.ofChange fnExactFortsOfSpec)

/-- ITS FALSE NEIGHBOUR: 'it returns false'. Refute it at one input. -/
def fnExactFortsOfWrong : ChangeSpec := { name := "fnExactFortsOf", fn := fun _ => fun
  | [d] => { results := [.lit (.bool false)], args := [d] }
  | _ => none }
def FnExactFortsOfWrongFalsely : Prop := fnExactFortsOfRow.holds Try.pinned (OpenSpec.ofChange fnExactFortsOfWrong)

/- THE SECOND FORM. 'bulk': how many values and letters a reading holds, each counted each time it is reached (what is shared counts as often as it is met; a slice's spare places count too). A statement '..UptoSaid' is the law's where the arguments, and the package variables that the reading takes, are together of bulk at most 1048576: NARROWER than '..Said'. Prove '..Said' where nothing that the law and all that it calls make is longer than what came in: it says more and counts as full. Else prove '..UptoSaid'. A law counts once. -/
mutual
def uptoBulk {H : Type} : DataW H → Nat
  | .lit (.string bytes) => bytes.length + 1
  | .lit _ => 1
  | .nil => 1
  | .ptr d => uptoBulk d + 1
  | .slice elems spare => uptoBulkAll elems + uptoBulkAll spare + 1
  | .agg parts => uptoBulkAll parts + 1
  | .iface _ d => uptoBulk d + 1
  | .map entries => uptoBulkEntries entries + 1
  | .held _ => 1
def uptoBulkAll {H : Type} : List (DataW H) → Nat
  | [] => 0
  | d :: r => uptoBulk d + uptoBulkAll r
def uptoBulkEntries {H : Type} : List (Lit × DataW H) → Nat
  | [] => 0
  | x :: r => uptoBulkEntry x + uptoBulkEntries r
def uptoBulkEntry {H : Type} : Lit × DataW H → Nat
  | (.string bytes, d) => bytes.length + uptoBulk d + 1
  | (_, d) => uptoBulk d + 1
 end
def uptoSmall : (H : Type) → List (DataW H) → Bool := fun _ ds => decide (uptoBulkAll ds ≤ 1048576)
def OpenSpec.upto (s : _root_.Go.ChangeSpec) : _root_.Go.OpenSpec := { _root_.Go.OpenSpec.ofChange s with cond := some uptoSmall }

/-- 'laws.FnExactNullityOf', WHERE WHAT IT READS IS OF BULK AT MOST 1048576: true; the input reads as it did. -/
def fnExactNullityOfUptoRow : OpenClaim := { program := "ytaddgielnfhhpaa", sum := "cf09e897b05043276981da7c513f2395c30578c501d07e3cbda49312807a4c92", func := "loop.example/g01109/laws.FnExactNullityOf", spec := "fnExactNullityOf", unfollowed := true, recurses := true, plainKeys := false, apart := false, narrowed := true }
def FnExactNullityOfUptoSaid : Prop := fnExactNullityOfUptoRow.holds Try.pinned (OpenSpec.upto fnExactNullityOfSpec)

/-- 'laws.FnExactBurningNumber', WHERE WHAT IT READS IS OF BULK AT MOST 1048576: true; the input reads as it did. -/
def fnExactBurningNumberUptoRow : OpenClaim := { program := "ytaddgielnfhhpaa", sum := "cf09e897b05043276981da7c513f2395c30578c501d07e3cbda49312807a4c92", func := "loop.example/g01109/laws.FnExactBurningNumber", spec := "fnExactBurningNumber", recurses := true, plainKeys := false, apart := false, narrowed := true }
def FnExactBurningNumberUptoSaid : Prop := fnExactBurningNumberUptoRow.holds Try.pinned (OpenSpec.upto fnExactBurningNumberSpec)

/-- 'laws.FnExactLeastCliqueCover', WHERE WHAT IT READS IS OF BULK AT MOST 1048576: true; the input reads as it did. -/
def fnExactLeastCliqueCoverUptoRow : OpenClaim := { program := "ytaddgielnfhhpaa", sum := "cf09e897b05043276981da7c513f2395c30578c501d07e3cbda49312807a4c92", func := "loop.example/g01109/laws.FnExactLeastCliqueCover", spec := "fnExactLeastCliqueCover", unfollowed := true, recurses := true, plainKeys := false, apart := false, narrowed := true }
def FnExactLeastCliqueCoverUptoSaid : Prop := fnExactLeastCliqueCoverUptoRow.holds Try.pinned (OpenSpec.upto fnExactLeastCliqueCoverSpec)

/-- 'laws.FnExactBestBurning', WHERE WHAT IT READS IS OF BULK AT MOST 1048576: true; the input reads as it did. -/
def fnExactBestBurningUptoRow : OpenClaim := { program := "ytaddgielnfhhpaa", sum := "cf09e897b05043276981da7c513f2395c30578c501d07e3cbda49312807a4c92", func := "loop.example/g01109/laws.FnExactBestBurning", spec := "fnExactBestBurning", recurses := true, plainKeys := false, apart := false, narrowed := true }
def FnExactBestBurningUptoSaid : Prop := fnExactBestBurningUptoRow.holds Try.pinned (OpenSpec.upto fnExactBestBurningSpec)

/-- 'laws.FnExactBestFirePlan', WHERE WHAT IT READS IS OF BULK AT MOST 1048576: true; the input reads as it did. -/
def fnExactBestFirePlanUptoRow : OpenClaim := { program := "ytaddgielnfhhpaa", sum := "cf09e897b05043276981da7c513f2395c30578c501d07e3cbda49312807a4c92", func := "loop.example/g01109/laws.FnExactBestFirePlan", spec := "fnExactBestFirePlan", recurses := true, plainKeys := false, apart := false, narrowed := true }
def FnExactBestFirePlanUptoSaid : Prop := fnExactBestFirePlanUptoRow.holds Try.pinned (OpenSpec.upto fnExactBestFirePlanSpec)

/-- 'laws.FnExactFortsOf', WHERE WHAT IT READS IS OF BULK AT MOST 1048576: true; the input reads as it did. -/
def fnExactFortsOfUptoRow : OpenClaim := { program := "ytaddgielnfhhpaa", sum := "cf09e897b05043276981da7c513f2395c30578c501d07e3cbda49312807a4c92", func := "loop.example/g01109/laws.FnExactFortsOf", spec := "fnExactFortsOf", unfollowed := true, recurses := true, plainKeys := false, apart := false, narrowed := true }
def FnExactFortsOfUptoSaid : Prop := fnExactFortsOfUptoRow.holds Try.pinned (OpenSpec.upto fnExactFortsOfSpec)

end Rows
end Go.Proofs.Ytaddgielnfhhpaa
