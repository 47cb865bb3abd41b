/- The program's ScanPlan returns what the reference's returns, for all arguments: the law FnExactScanPlan answers true, whatever whole number is handed in. Condition: none but that the argument is an int. -/
import Derived.Test.YtdjhpejjafleiaaPFnExactScanPlanx2
namespace Go.Proofs.Ytdjhpejjafleiaa.Pure
open Go.RowKit Go.Proofs.Ytdjhpejjafleiaa.PFnExactScanPlan Go.Proofs.YtdjhpejjafleiaaW.PrintWords Go.Proofs.YtdjhpejjafleiaaW.PrintLast

/-- YOURS: ∀ (a0 : Int), (Lit.int .i64 a0).wf = true → ∃ k, laws_FnExactScanPlan.f k a0 = some true
What it reaches (each with k first where it has rounds; `.mono`: more rounds tell the same; `.l0`, ..: its loops, with `.mono_l`): spec_ScanPlan.f, impl_ScanPlan.f, laws_eqPlanStep.f, laws_eqPlanStepS.f, laws_eqPlan.f, laws_markPlanStepS.f, laws_markPlan.f, laws_heldPlanStepS.f, laws_heldPlan.f, laws_FnExactScanPlan.f -/
theorem FnExactScanPlan : laws_FnExactScanPlan.Pure := by
  intro a0 _
  refine ⟨5, ?_⟩
  simp [laws_FnExactScanPlan.f, spec_ScanPlan.f, impl_ScanPlan.f, laws_eqPlan.f, laws_eqPlanStepS.f, laws_eqPlanStepS.l0, laws_eqPlanStep.f, laws_markPlan.f, laws_markPlanStepS.f, laws_markPlanStepS.l0, laws_heldPlan.f, laws_heldPlanStepS.f, laws_heldPlanStepS.l0, rd_T62, wrap64]

end Go.Proofs.Ytdjhpejjafleiaa.Pure
