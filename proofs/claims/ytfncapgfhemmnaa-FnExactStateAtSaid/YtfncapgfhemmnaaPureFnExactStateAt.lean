/- The pure statement behind the law FnExactStateAt: over plain integers, for every argument, the law's Lean function answers true. No condition beyond the number being an int64. -/
import Derived.Test.YtfncapgfhemmnaaPFnExactStateAtx1
namespace Go.Proofs.Ytfncapgfhemmnaa.Pure
open Go.RowKit Go.Proofs.Ytfncapgfhemmnaa.PFnExactStateAt Go.Proofs.YtfncapgfhemmnaaW.PrintWords Go.Proofs.YtfncapgfhemmnaaW.PrintLast

theorem FnExactStateAt : laws_FnExactStateAt.Pure := by
  unfold laws_FnExactStateAt.Pure
  rfl

end Go.Proofs.Ytfncapgfhemmnaa.Pure
