/-
  No cell of these rows narrows 'for every input' (looked for: loops, veiled, ifaces, maps, wideKeys, modest, calm, conditions, laid).
  DERIVED. THE GIVEN ROWS OF THIS SEAT. 7 by the template 'for every input the law returns true; each argument reads behind the call as it read before'; 0 by the template 'total and deterministic' (their statements: YtdjhpejjafleiaaTotals.lean).
  GIVEN WITH THE SEED: the statements are not yours to turn. If you find one false, say at which input.
  Laid BY PROGRAM, IN A SANDBOX (cutbox-rows.mjs): the forced cells as the released guide's own fill.sh prints them over the translation 1c2f301f90041976… (all of the seat's roots in one cut). By AI agents, Wed Nov 11 2026. No macro, syntax, notation, axiom, sorry.
-/
import Derived.Test.YtdjhpejjafleiaaChecked
import GoSem.Claim
import GoSem.ClaimJoined
import GoSem.ClaimMapViews
import Derived.JoinedTies
import Derived.KernelRfl
namespace Go.Proofs.Ytdjhpejjafleiaa
/- THE CELL 'sum', in the pinned program and in every row, IS THE sha256 OF THE DUMP (.gsa) THAT YtdjhpejjafleiaaProg.lean LOADS. Nothing in Lean hashes anything: it is a label: what it is worth is what the hold of that sum in a sandbox is worth. -/
noncomputable def Try.pinned : Pinned := { name := "ytdjhpejjafleiaa", sum := "1c2f301f9004197644fca833fbd83c5477a7f7dd8adbd1750bea4ca6f3eb61dd", checked := Try.checked }
namespace Rows
def none {H : Type} : Left H := { results := [], args := [] }

/-- 'laws.FnExactScanPlan': WHATEVER THE INPUT: true; the input reads as it did. -/
def fnExactScanPlanSpec : ChangeSpec := { name := "fnExactScanPlan", fn := fun _ => fun
  | [d] => { results := [.lit (.bool true)], args := [d] }
  | _ => none }
def fnExactScanPlanRow : OpenClaim := { program := "ytdjhpejjafleiaa", sum := "1c2f301f9004197644fca833fbd83c5477a7f7dd8adbd1750bea4ca6f3eb61dd", func := "loop.example/g01921/laws.FnExactScanPlan", spec := "fnExactScanPlan", apart := false }
def FnExactScanPlanSaid : Prop := fnExactScanPlanRow.holds Try.pinned (OpenSpec.ofChange fnExactScanPlanSpec)

/-- ITS FALSE NEIGHBOUR: 'it returns false'. Refute it at one input. -/
def fnExactScanPlanWrong : ChangeSpec := { name := "fnExactScanPlan", fn := fun _ => fun
  | [d] => { results := [.lit (.bool false)], args := [d] }
  | _ => none }
def FnExactScanPlanWrongFalsely : Prop := fnExactScanPlanRow.holds Try.pinned (OpenSpec.ofChange fnExactScanPlanWrong)

/-- 'laws.FnExactEqualPlans': WHATEVER THE INPUT: true; the input reads as it did. -/
def fnExactEqualPlansSpec : ChangeSpec := { name := "fnExactEqualPlans", fn := fun _ => fun
  | [d1, d2] => { results := [.lit (.bool true)], args := [d1, d2] }
  | _ => none }
def fnExactEqualPlansRow : OpenClaim := { program := "ytdjhpejjafleiaa", sum := "1c2f301f9004197644fca833fbd83c5477a7f7dd8adbd1750bea4ca6f3eb61dd", func := "loop.example/g01921/laws.FnExactEqualPlans", spec := "fnExactEqualPlans", apart := false }
def FnExactEqualPlansSaid : Prop := fnExactEqualPlansRow.holds Try.pinned (OpenSpec.ofChange fnExactEqualPlansSpec)

/-- ITS FALSE NEIGHBOUR: 'it returns false'. Refute it at one input. -/
def fnExactEqualPlansWrong : ChangeSpec := { name := "fnExactEqualPlans", fn := fun _ => fun
  | [d1, d2] => { results := [.lit (.bool false)], args := [d1, d2] }
  | _ => none }
def FnExactEqualPlansWrongFalsely : Prop := fnExactEqualPlansRow.holds Try.pinned (OpenSpec.ofChange fnExactEqualPlansWrong)

/-- 'laws.FnExactEqualOperators': WHATEVER THE INPUT: true; the input reads as it did. -/
def fnExactEqualOperatorsSpec : ChangeSpec := { name := "fnExactEqualOperators", fn := fun _ => fun
  | [d1, d2] => { results := [.lit (.bool true)], args := [d1, d2] }
  | _ => none }
def fnExactEqualOperatorsRow : OpenClaim := { program := "ytdjhpejjafleiaa", sum := "1c2f301f9004197644fca833fbd83c5477a7f7dd8adbd1750bea4ca6f3eb61dd", func := "loop.example/g01921/laws.FnExactEqualOperators", spec := "fnExactEqualOperators", apart := false }
def FnExactEqualOperatorsSaid : Prop := fnExactEqualOperatorsRow.holds Try.pinned (OpenSpec.ofChange fnExactEqualOperatorsSpec)

/-- ITS FALSE NEIGHBOUR: 'it returns false'. Refute it at one input. -/
def fnExactEqualOperatorsWrong : ChangeSpec := { name := "fnExactEqualOperators", fn := fun _ => fun
  | [d1, d2] => { results := [.lit (.bool false)], args := [d1, d2] }
  | _ => none }
def FnExactEqualOperatorsWrongFalsely : Prop := fnExactEqualOperatorsRow.holds Try.pinned (OpenSpec.ofChange fnExactEqualOperatorsWrong)

/-- 'laws.FnExactIsValidOperator': WHATEVER THE INPUT: true; the input reads as it did. -/
def fnExactIsValidOperatorSpec : ChangeSpec := { name := "fnExactIsValidOperator", fn := fun _ => fun
  | [d] => { results := [.lit (.bool true)], args := [d] }
  | _ => none }
def fnExactIsValidOperatorRow : OpenClaim := { program := "ytdjhpejjafleiaa", sum := "1c2f301f9004197644fca833fbd83c5477a7f7dd8adbd1750bea4ca6f3eb61dd", func := "loop.example/g01921/laws.FnExactIsValidOperator", spec := "fnExactIsValidOperator", apart := false }
def FnExactIsValidOperatorSaid : Prop := fnExactIsValidOperatorRow.holds Try.pinned (OpenSpec.ofChange fnExactIsValidOperatorSpec)

/-- ITS FALSE NEIGHBOUR: 'it returns false'. Refute it at one input. -/
def fnExactIsValidOperatorWrong : ChangeSpec := { name := "fnExactIsValidOperator", fn := fun _ => fun
  | [d] => { results := [.lit (.bool false)], args := [d] }
  | _ => none }
def FnExactIsValidOperatorWrongFalsely : Prop := fnExactIsValidOperatorRow.holds Try.pinned (OpenSpec.ofChange fnExactIsValidOperatorWrong)

/-- 'laws.FnExactSortPlan': WHATEVER THE INPUT: true; the input reads as it did. -/
def fnExactSortPlanSpec : ChangeSpec := { name := "fnExactSortPlan", fn := fun _ => fun
  | [d1, d2] => { results := [.lit (.bool true)], args := [d1, d2] }
  | _ => none }
def fnExactSortPlanRow : OpenClaim := { program := "ytdjhpejjafleiaa", sum := "1c2f301f9004197644fca833fbd83c5477a7f7dd8adbd1750bea4ca6f3eb61dd", func := "loop.example/g01921/laws.FnExactSortPlan", spec := "fnExactSortPlan", apart := false }
def FnExactSortPlanSaid : Prop := fnExactSortPlanRow.holds Try.pinned (OpenSpec.ofChange fnExactSortPlanSpec)

/-- ITS FALSE NEIGHBOUR: 'it returns false'. Refute it at one input. -/
def fnExactSortPlanWrong : ChangeSpec := { name := "fnExactSortPlan", fn := fun _ => fun
  | [d1, d2] => { results := [.lit (.bool false)], args := [d1, d2] }
  | _ => none }
def FnExactSortPlanWrongFalsely : Prop := fnExactSortPlanRow.holds Try.pinned (OpenSpec.ofChange fnExactSortPlanWrong)

/-- 'laws.FnExactJoinPlans': WHATEVER THE INPUT: true; the input reads as it did. -/
def fnExactJoinPlansSpec : ChangeSpec := { name := "fnExactJoinPlans", fn := fun _ => fun
  | [d1, d2, d3, d4] => { results := [.lit (.bool true)], args := [d1, d2, d3, d4] }
  | _ => none }
def fnExactJoinPlansRow : OpenClaim := { program := "ytdjhpejjafleiaa", sum := "1c2f301f9004197644fca833fbd83c5477a7f7dd8adbd1750bea4ca6f3eb61dd", func := "loop.example/g01921/laws.FnExactJoinPlans", spec := "fnExactJoinPlans", apart := false }
def FnExactJoinPlansSaid : Prop := fnExactJoinPlansRow.holds Try.pinned (OpenSpec.ofChange fnExactJoinPlansSpec)

/-- ITS FALSE NEIGHBOUR: 'it returns false'. Refute it at one input. -/
def fnExactJoinPlansWrong : ChangeSpec := { name := "fnExactJoinPlans", fn := fun _ => fun
  | [d1, d2, d3, d4] => { results := [.lit (.bool false)], args := [d1, d2, d3, d4] }
  | _ => none }
def FnExactJoinPlansWrongFalsely : Prop := fnExactJoinPlansRow.holds Try.pinned (OpenSpec.ofChange fnExactJoinPlansWrong)

/-- 'laws.FnExactIsValidStream': WHATEVER THE INPUT: true; the input reads as it did. -/
def fnExactIsValidStreamSpec : ChangeSpec := { name := "fnExactIsValidStream", fn := fun _ => fun
  | [d] => { results := [.lit (.bool true)], args := [d] }
  | _ => none }
def fnExactIsValidStreamRow : OpenClaim := { program := "ytdjhpejjafleiaa", sum := "1c2f301f9004197644fca833fbd83c5477a7f7dd8adbd1750bea4ca6f3eb61dd", func := "loop.example/g01921/laws.FnExactIsValidStream", spec := "fnExactIsValidStream", apart := false }
def FnExactIsValidStreamSaid : Prop := fnExactIsValidStreamRow.holds Try.pinned (OpenSpec.ofChange fnExactIsValidStreamSpec)

/-- ITS FALSE NEIGHBOUR: 'it returns false'. Refute it at one input. -/
def fnExactIsValidStreamWrong : ChangeSpec := { name := "fnExactIsValidStream", fn := fun _ => fun
  | [d] => { results := [.lit (.bool false)], args := [d] }
  | _ => none }
def FnExactIsValidStreamWrongFalsely : Prop := fnExactIsValidStreamRow.holds Try.pinned (OpenSpec.ofChange fnExactIsValidStreamWrong)

/- THE SECOND FORM. 'bulk': how many values and letters a reading holds, each counted each time it is reached (what is shared counts as often as it is met; a slice's spare places count too). A statement '..UptoSaid' is the law's where the arguments, and the package variables that the reading takes, are together of bulk at most 1048576: NARROWER than '..Said'. Prove '..Said' where nothing that the law and all that it calls make is longer than what came in: it says more and counts as full. Else prove '..UptoSaid'. A law counts once. -/
mutual
def uptoBulk {H : Type} : DataW H → Nat
  | .lit (.string bytes) => bytes.length + 1
  | .lit _ => 1
  | .nil => 1
  | .ptr d => uptoBulk d + 1
  | .slice elems spare => uptoBulkAll elems + uptoBulkAll spare + 1
  | .agg parts => uptoBulkAll parts + 1
  | .iface _ d => uptoBulk d + 1
  | .map entries => uptoBulkEntries entries + 1
  | .held _ => 1
def uptoBulkAll {H : Type} : List (DataW H) → Nat
  | [] => 0
  | d :: r => uptoBulk d + uptoBulkAll r
def uptoBulkEntries {H : Type} : List (Lit × DataW H) → Nat
  | [] => 0
  | x :: r => uptoBulkEntry x + uptoBulkEntries r
def uptoBulkEntry {H : Type} : Lit × DataW H → Nat
  | (.string bytes, d) => bytes.length + uptoBulk d + 1
  | (_, d) => uptoBulk d + 1
 end
def uptoSmall : (H : Type) → List (DataW H) → Bool := fun _ ds => decide (uptoBulkAll ds ≤ 1048576)
def OpenSpec.upto (s : _root_.Go.ChangeSpec) : _root_.Go.OpenSpec := { _root_.Go.OpenSpec.ofChange s with cond := some uptoSmall }

/-- 'laws.FnExactScanPlan', WHERE WHAT IT READS IS OF BULK AT MOST 1048576: true; the input reads as it did. -/
def fnExactScanPlanUptoRow : OpenClaim := { program := "ytdjhpejjafleiaa", sum := "1c2f301f9004197644fca833fbd83c5477a7f7dd8adbd1750bea4ca6f3eb61dd", func := "loop.example/g01921/laws.FnExactScanPlan", spec := "fnExactScanPlan", apart := false, narrowed := true }
def FnExactScanPlanUptoSaid : Prop := fnExactScanPlanUptoRow.holds Try.pinned (OpenSpec.upto fnExactScanPlanSpec)

/-- 'laws.FnExactEqualPlans', WHERE WHAT IT READS IS OF BULK AT MOST 1048576: true; the input reads as it did. -/
def fnExactEqualPlansUptoRow : OpenClaim := { program := "ytdjhpejjafleiaa", sum := "1c2f301f9004197644fca833fbd83c5477a7f7dd8adbd1750bea4ca6f3eb61dd", func := "loop.example/g01921/laws.FnExactEqualPlans", spec := "fnExactEqualPlans", apart := false, narrowed := true }
def FnExactEqualPlansUptoSaid : Prop := fnExactEqualPlansUptoRow.holds Try.pinned (OpenSpec.upto fnExactEqualPlansSpec)

/-- 'laws.FnExactEqualOperators', WHERE WHAT IT READS IS OF BULK AT MOST 1048576: true; the input reads as it did. -/
def fnExactEqualOperatorsUptoRow : OpenClaim := { program := "ytdjhpejjafleiaa", sum := "1c2f301f9004197644fca833fbd83c5477a7f7dd8adbd1750bea4ca6f3eb61dd", func := "loop.example/g01921/laws.FnExactEqualOperators", spec := "fnExactEqualOperators", apart := false, narrowed := true }
def FnExactEqualOperatorsUptoSaid : Prop := fnExactEqualOperatorsUptoRow.holds Try.pinned (OpenSpec.upto fnExactEqualOperatorsSpec)

/-- 'laws.FnExactIsValidOperator', WHERE WHAT IT READS IS OF BULK AT MOST 1048576: true; the input reads as it did. -/
def fnExactIsValidOperatorUptoRow : OpenClaim := { program := "ytdjhpejjafleiaa", sum := "1c2f301f9004197644fca833fbd83c5477a7f7dd8adbd1750bea4ca6f3eb61dd", func := "loop.example/g01921/laws.FnExactIsValidOperator", spec := "fnExactIsValidOperator", apart := false, narrowed := true }
def FnExactIsValidOperatorUptoSaid : Prop := fnExactIsValidOperatorUptoRow.holds Try.pinned (OpenSpec.upto fnExactIsValidOperatorSpec)

/-- 'laws.FnExactSortPlan', WHERE WHAT IT READS IS OF BULK AT MOST 1048576: true; the input reads as it did. -/
def fnExactSortPlanUptoRow : OpenClaim := { program := "ytdjhpejjafleiaa", sum := "1c2f301f9004197644fca833fbd83c5477a7f7dd8adbd1750bea4ca6f3eb61dd", func := "loop.example/g01921/laws.FnExactSortPlan", spec := "fnExactSortPlan", apart := false, narrowed := true }
def FnExactSortPlanUptoSaid : Prop := fnExactSortPlanUptoRow.holds Try.pinned (OpenSpec.upto fnExactSortPlanSpec)

/-- 'laws.FnExactJoinPlans', WHERE WHAT IT READS IS OF BULK AT MOST 1048576: true; the input reads as it did. -/
def fnExactJoinPlansUptoRow : OpenClaim := { program := "ytdjhpejjafleiaa", sum := "1c2f301f9004197644fca833fbd83c5477a7f7dd8adbd1750bea4ca6f3eb61dd", func := "loop.example/g01921/laws.FnExactJoinPlans", spec := "fnExactJoinPlans", apart := false, narrowed := true }
def FnExactJoinPlansUptoSaid : Prop := fnExactJoinPlansUptoRow.holds Try.pinned (OpenSpec.upto fnExactJoinPlansSpec)

/-- 'laws.FnExactIsValidStream', WHERE WHAT IT READS IS OF BULK AT MOST 1048576: true; the input reads as it did. -/
def fnExactIsValidStreamUptoRow : OpenClaim := { program := "ytdjhpejjafleiaa", sum := "1c2f301f9004197644fca833fbd83c5477a7f7dd8adbd1750bea4ca6f3eb61dd", func := "loop.example/g01921/laws.FnExactIsValidStream", spec := "fnExactIsValidStream", apart := false, narrowed := true }
def FnExactIsValidStreamUptoSaid : Prop := fnExactIsValidStreamUptoRow.holds Try.pinned (OpenSpec.upto fnExactIsValidStreamSpec)

end Rows
end Go.Proofs.Ytdjhpejjafleiaa
