/- The pure statement behind the law FnExactViaAt: over plain integers, for every argument, the law's Lean function answers true. No condition beyond the number being an int64. -/
import Derived.Test.YtfncapgfhemmnaaPFnExactViaAtx1
namespace Go.Proofs.Ytfncapgfhemmnaa.Pure
open Go.RowKit Go.Proofs.Ytfncapgfhemmnaa.PFnExactViaAt Go.Proofs.YtfncapgfhemmnaaW.PrintWords Go.Proofs.YtfncapgfhemmnaaW.PrintLast

theorem FnExactViaAt : laws_FnExactViaAt.Pure := by
  intro a0 _
  by_cases h1 : 1 ≤ a0 <;> by_cases h2 : a0 ≤ 6 <;>
    simp [laws_FnExactViaAt.f, spec_ViaAt.f, spec_StateAt.f, spec_ValOk.f, spec_l1In.f, impl_ViaAt.f, impl_StateAt.f, impl_ValOk.f, impl_from.f, impl_placed.f, h1, h2]

end Go.Proofs.Ytfncapgfhemmnaa.Pure
