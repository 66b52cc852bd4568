/- The pure statement behind the law FnExactKeyOk: over plain integers, for every argument, the law's Lean function answers true. No condition beyond the number being an int64. -/
import Derived.Test.YtfncapgfhemmnaaPFnExactKeyOkx1
namespace Go.Proofs.Ytfncapgfhemmnaa.Pure
open Go.RowKit Go.Proofs.Ytfncapgfhemmnaa.PFnExactKeyOk Go.Proofs.YtfncapgfhemmnaaW.PrintWords Go.Proofs.YtfncapgfhemmnaaW.PrintLast

theorem FnExactKeyOk : laws_FnExactKeyOk.Pure := by
  intro a0 _
  by_cases h1 : 0 ≤ a0 <;> by_cases h2 : a0 ≤ 3 <;>
    simp [laws_FnExactKeyOk.f, spec_KeyOk.f, spec_l1In.f, impl_KeyOk.f, impl_from.f, h1, h2]

end Go.Proofs.Ytfncapgfhemmnaa.Pure
