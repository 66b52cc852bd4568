/- What the arguments of the law FnExactResSame are, opened: plain values in the words of the printed functions. No condition. -/
import Derived.Test.YtcjkkcjnlcehnaaPFnExactResSamex3
import Derived.Test.YtcjkkcjnlcehnaaOpens
import Derived.WalkKit
namespace Go.Proofs.Ytcjkkcjnlcehnaa.fnExactResSame
open Go.ChangeShapes Go.WideShapes Go.ChangeAt Go.RowKit Go.Proofs.Ytcjkkcjnlcehnaa.Op Go.Proofs.YtcjkkcjnlcehnaaW.PrintWords Go.Proofs.Ytcjkkcjnlcehnaa.PFnExactResSame
set_option linter.unusedVariables false
set_option linter.unusedSimpArgs false
theorem op3 : Opens Try.prog 3 (Kd.int .i64) (fun n : Int => (Lit.int .i64 n).wf = true) := Opens.int Try.underlying3
theorem op22 : Opens Try.prog 22 (Kd.slice 3 (Kd.int .i64)) (fun l : List Int => l.length ≤ maxLen ∧ ∀ x ∈ l, (fun n : Int => (Lit.int .i64 n).wf = true) x) := Opens.slice Try.underlying22 (by kernel_rfl) op3
theorem op42 : Opens Try.prog 42 (Kd.pair (Kd.int .i64) (Kd.slice 3 (Kd.int .i64))) (fun x : (Int × (List Int)) => (fun n : Int => (Lit.int .i64 n).wf = true) x.1 ∧ (fun l : List Int => l.length ≤ maxLen ∧ ∀ x ∈ l, (fun n : Int => (Lit.int .i64 n).wf = true) x) x.2) := by
  refine Opens.struct Try.underlying42 (by kernel_rfl) ?_
  refine OpensF.cons (good := (fun n : Int => (Lit.int .i64 n).wf = true)) (good' := (fun l : List Int => l.length ≤ maxLen ∧ ∀ x ∈ l, (fun n : Int => (Lit.int .i64 n).wf = true) x)) rfl (by kernel_rfl) op3 ?_
  exact OpensF.last rfl (by kernel_rfl) op22
end Go.Proofs.Ytcjkkcjnlcehnaa.fnExactResSame
