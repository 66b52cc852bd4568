/- The pure statement behind the law FnExactClassOf: over plain integers, for every argument, the law's Lean function answers true. No condition beyond the number being an int64. -/
import Derived.Test.YtfncapgfhemmnaaPFnExactClassOfx1
namespace Go.Proofs.Ytfncapgfhemmnaa.Pure
open Go.RowKit Go.Proofs.Ytfncapgfhemmnaa.PFnExactClassOf Go.Proofs.YtfncapgfhemmnaaW.PrintWords Go.Proofs.YtfncapgfhemmnaaW.PrintLast

theorem FnExactClassOf : laws_FnExactClassOf.Pure := by
  intro a0 _
  by_cases h1 : 1 ≤ a0 <;> by_cases h2 : a0 ≤ 6 <;>
    simp [laws_FnExactClassOf.f, spec_ClassOf.f, spec_ValOk.f, spec_l1In.f, impl_ClassOf.f, impl_ValOk.f, impl_from.f, h1, h2]

end Go.Proofs.Ytfncapgfhemmnaa.Pure
