/- What the arguments of the law FnExactMemNew are, opened: plain values in the words of the printed functions. No condition. -/
import Derived.Test.YtmkhghbalnadlaaPFnExactMemNewx14
import Derived.Test.YtmkhghbalnadlaaOFnExactMemNew
import Derived.WalkKit
namespace Go.Proofs.Ytmkhghbalnadlaa.fnExactMemNew
open Go.ChangeShapes Go.WideShapes Go.ChangeAt Go.RowKit Go.Proofs.Ytmkhghbalnadlaa.Op Go.Proofs.YtmkhghbalnadlaaW.PrintWords Go.Proofs.Ytmkhghbalnadlaa.PFnExactMemNew
set_option linter.unusedVariables false
set_option linter.unusedSimpArgs false
theorem op3 : Opens Try.prog 3 (Kd.int .i64) (fun n : Int => (Lit.int .i64 n).wf = true) := Opens.int Try.underlying3
theorem op35 : Opens Try.prog 35 (Kd.slice 3 (Kd.int .i64)) (fun l : List Int => l.length ≤ maxLen ∧ ∀ x ∈ l, (fun n : Int => (Lit.int .i64 n).wf = true) x) := Opens.slice Try.underlying35 (by kernel_rfl) op3
theorem op37 : Opens Try.prog 37 (Kd.pair (Kd.slice 3 (Kd.int .i64)) (Kd.int .i64)) (fun x : ((List Int) × Int) => (fun l : List Int => l.length ≤ maxLen ∧ ∀ x ∈ l, (fun n : Int => (Lit.int .i64 n).wf = true) x) x.1 ∧ (fun n : Int => (Lit.int .i64 n).wf = true) x.2) := by
  refine Opens.struct Try.underlying37 (by kernel_rfl) ?_
  refine OpensF.cons (good := (fun l : List Int => l.length ≤ maxLen ∧ ∀ x ∈ l, (fun n : Int => (Lit.int .i64 n).wf = true) x)) (good' := (fun n : Int => (Lit.int .i64 n).wf = true)) rfl (by kernel_rfl) op35 ?_
  exact OpensF.last rfl (by kernel_rfl) op3
end Go.Proofs.Ytmkhghbalnadlaa.fnExactMemNew
