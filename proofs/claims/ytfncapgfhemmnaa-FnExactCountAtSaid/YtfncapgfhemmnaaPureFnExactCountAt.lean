/- The pure statement behind the law FnExactCountAt: over plain integers, for every argument, the law's Lean function answers true. No condition beyond the number being an int64. -/
import Derived.Test.YtfncapgfhemmnaaPFnExactCountAtx1
namespace Go.Proofs.Ytfncapgfhemmnaa.Pure
open Go.RowKit Go.Proofs.Ytfncapgfhemmnaa.PFnExactCountAt Go.Proofs.YtfncapgfhemmnaaW.PrintWords Go.Proofs.YtfncapgfhemmnaaW.PrintLast

theorem FnExactCountAt : laws_FnExactCountAt.Pure := by
  intro a0 _
  by_cases h1 : 0 ≤ a0 <;> by_cases h2 : a0 ≤ 2 <;>
    simp [laws_FnExactCountAt.f, spec_CountAt.f, spec_l1In.f, impl_CountAt.f, impl_isClass.f, impl_from.f, impl_placed.f, h1, h2]

end Go.Proofs.Ytfncapgfhemmnaa.Pure
