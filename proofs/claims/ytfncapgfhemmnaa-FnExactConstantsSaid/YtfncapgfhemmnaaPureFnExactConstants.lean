/- The pure statement behind the law FnExactConstants: over plain integers, for every argument, the law's Lean function answers true. No condition beyond the number being an int64. -/
import Derived.Test.YtfncapgfhemmnaaPFnExactConstantsx1
namespace Go.Proofs.Ytfncapgfhemmnaa.Pure
open Go.RowKit Go.Proofs.Ytfncapgfhemmnaa.PFnExactConstants Go.Proofs.YtfncapgfhemmnaaW.PrintWords Go.Proofs.YtfncapgfhemmnaaW.PrintLast

theorem FnExactConstants : laws_FnExactConstants.Pure := by
  unfold laws_FnExactConstants.Pure
  rfl

end Go.Proofs.Ytfncapgfhemmnaa.Pure
