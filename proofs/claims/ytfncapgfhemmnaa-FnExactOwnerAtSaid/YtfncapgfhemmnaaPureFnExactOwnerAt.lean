/- The pure statement behind the law FnExactOwnerAt: over plain integers, for every argument, the law's Lean function answers true. No condition beyond the number being an int64. -/
import Derived.Test.YtfncapgfhemmnaaPFnExactOwnerAtx1
namespace Go.Proofs.Ytfncapgfhemmnaa.Pure
open Go.RowKit Go.Proofs.Ytfncapgfhemmnaa.PFnExactOwnerAt Go.Proofs.YtfncapgfhemmnaaW.PrintWords Go.Proofs.YtfncapgfhemmnaaW.PrintLast

theorem FnExactOwnerAt : laws_FnExactOwnerAt.Pure := by
  intro a0 _
  by_cases h1 : 1 ≤ a0 <;> by_cases h2 : a0 ≤ 6 <;>
    simp [laws_FnExactOwnerAt.f, spec_OwnerAt.f, spec_ValOk.f, spec_l1In.f, impl_OwnerAt.f, impl_ValOk.f, impl_from.f, impl_placed.f, h1, h2]

end Go.Proofs.Ytfncapgfhemmnaa.Pure
