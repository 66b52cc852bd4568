/- What the arguments of the law FnExactWordsOf are, opened: plain values in the words of the printed functions. No condition. -/
import Derived.Test.YtcjkkcjnlcehnaaPFnExactWordsOfx7
import Derived.Test.YtcjkkcjnlcehnaaOFnExactWordsOf
import Derived.WalkKit
namespace Go.Proofs.Ytcjkkcjnlcehnaa.fnExactWordsOf
open Go.ChangeShapes Go.WideShapes Go.ChangeAt Go.RowKit Go.Proofs.Ytcjkkcjnlcehnaa.Op Go.Proofs.YtcjkkcjnlcehnaaW.PrintWords Go.Proofs.Ytcjkkcjnlcehnaa.PFnExactWordsOf
set_option linter.unusedVariables false
set_option linter.unusedSimpArgs false
theorem op3 : Opens Try.prog 3 (Kd.int .i64) (fun n : Int => (Lit.int .i64 n).wf = true) := Opens.int Try.underlying3
theorem op22 : Opens Try.prog 22 (Kd.slice 3 (Kd.int .i64)) (fun l : List Int => l.length ≤ maxLen ∧ ∀ x ∈ l, (fun n : Int => (Lit.int .i64 n).wf = true) x) := Opens.slice Try.underlying22 (by kernel_rfl) op3
theorem op37 : Opens Try.prog 37 (Kd.pair (Kd.slice 3 (Kd.int .i64)) (Kd.int .i64)) (fun x : ((List Int) × Int) => (fun l : List Int => l.length ≤ maxLen ∧ ∀ x ∈ l, (fun n : Int => (Lit.int .i64 n).wf = true) x) x.1 ∧ (fun n : Int => (Lit.int .i64 n).wf = true) x.2) := by
  refine Opens.struct Try.underlying37 (by kernel_rfl) ?_
  refine OpensF.cons (good := (fun l : List Int => l.length ≤ maxLen ∧ ∀ x ∈ l, (fun n : Int => (Lit.int .i64 n).wf = true) x)) (good' := (fun n : Int => (Lit.int .i64 n).wf = true)) rfl (by kernel_rfl) op22 ?_
  exact OpensF.last rfl (by kernel_rfl) op3
end Go.Proofs.Ytcjkkcjnlcehnaa.fnExactWordsOf
