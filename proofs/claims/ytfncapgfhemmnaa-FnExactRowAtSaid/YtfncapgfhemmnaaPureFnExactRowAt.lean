/- The pure statement behind the law FnExactRowAt: over plain integers, for every argument, the law's Lean function answers true. No condition beyond the number being an int64. -/
import Derived.Test.YtfncapgfhemmnaaPFnExactRowAtx1
namespace Go.Proofs.Ytfncapgfhemmnaa.Pure
open Go.RowKit Go.Proofs.Ytfncapgfhemmnaa.PFnExactRowAt Go.Proofs.YtfncapgfhemmnaaW.PrintWords Go.Proofs.YtfncapgfhemmnaaW.PrintLast

theorem FnExactRowAt : laws_FnExactRowAt.Pure := by
  intro a0 _
  by_cases h1 : 0 ≤ a0 <;> by_cases h2 : a0 ≤ 3 <;>
    simp [laws_FnExactRowAt.f, spec_RowAt.f, spec_KeyOk.f, spec_l1In.f, impl_RowAt.f, impl_KeyOk.f, impl_from.f, impl_placed.f, h1, h2]

end Go.Proofs.Ytfncapgfhemmnaa.Pure
