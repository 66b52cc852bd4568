/- What the arguments of the law FnExactAfter are, opened: plain values in the words of the printed functions. No condition. -/
import Derived.Test.YtmkhghbalnadlaaPFnExactAfterx15
import Derived.Test.YtmkhghbalnadlaaOFnExactAfter
import Derived.WalkKit
namespace Go.Proofs.Ytmkhghbalnadlaa.fnExactAfter
open Go.ChangeShapes Go.WideShapes Go.ChangeAt Go.RowKit Go.Proofs.Ytmkhghbalnadlaa.Op Go.Proofs.YtmkhghbalnadlaaW.PrintWords Go.Proofs.Ytmkhghbalnadlaa.PFnExactAfter
set_option linter.unusedVariables false
set_option linter.unusedSimpArgs false
theorem op3 : Opens Try.prog 3 (Kd.int .i64) (fun n : Int => (Lit.int .i64 n).wf = true) := Opens.int Try.underlying3
theorem op35 : Opens Try.prog 35 (Kd.slice 3 (Kd.int .i64)) (fun l : List Int => l.length ≤ maxLen ∧ ∀ x ∈ l, (fun n : Int => (Lit.int .i64 n).wf = true) x) := Opens.slice Try.underlying35 (by kernel_rfl) op3
theorem op37 : Opens Try.prog 37 (Kd.pair (Kd.slice 3 (Kd.int .i64)) (Kd.int .i64)) (fun x : ((List Int) × Int) => (fun l : List Int => l.length ≤ maxLen ∧ ∀ x ∈ l, (fun n : Int => (Lit.int .i64 n).wf = true) x) x.1 ∧ (fun n : Int => (Lit.int .i64 n).wf = true) x.2) := by
  refine Opens.struct Try.underlying37 (by kernel_rfl) ?_
  refine OpensF.cons (good := (fun l : List Int => l.length ≤ maxLen ∧ ∀ x ∈ l, (fun n : Int => (Lit.int .i64 n).wf = true) x)) (good' := (fun n : Int => (Lit.int .i64 n).wf = true)) rfl (by kernel_rfl) op35 ?_
  exact OpensF.last rfl (by kernel_rfl) op3
theorem op39 : Opens Try.prog 39 (Kd.pair (Kd.int .i64) (Kd.pair (Kd.int .i64) (Kd.int .i64))) (fun x : (Int × (Int × Int)) => (fun n : Int => (Lit.int .i64 n).wf = true) x.1 ∧ (fun x : (Int × Int) => (fun n : Int => (Lit.int .i64 n).wf = true) x.1 ∧ (fun n : Int => (Lit.int .i64 n).wf = true) x.2) x.2) := by
  refine Opens.struct Try.underlying39 (by kernel_rfl) ?_
  refine OpensF.cons (good := (fun n : Int => (Lit.int .i64 n).wf = true)) (good' := (fun x : (Int × Int) => (fun n : Int => (Lit.int .i64 n).wf = true) x.1 ∧ (fun n : Int => (Lit.int .i64 n).wf = true) x.2)) rfl (by kernel_rfl) op3 ?_
  refine OpensF.cons (good := (fun n : Int => (Lit.int .i64 n).wf = true)) (good' := (fun n : Int => (Lit.int .i64 n).wf = true)) rfl (by kernel_rfl) op3 ?_
  exact OpensF.last rfl (by kernel_rfl) op3
theorem op41 : Opens Try.prog 41 (Kd.pair (Kd.int .i64) (Kd.slice 3 (Kd.int .i64))) (fun x : (Int × (List Int)) => (fun n : Int => (Lit.int .i64 n).wf = true) x.1 ∧ (fun l : List Int => l.length ≤ maxLen ∧ ∀ x ∈ l, (fun n : Int => (Lit.int .i64 n).wf = true) x) x.2) := by
  refine Opens.struct Try.underlying41 (by kernel_rfl) ?_
  refine OpensF.cons (good := (fun n : Int => (Lit.int .i64 n).wf = true)) (good' := (fun l : List Int => l.length ≤ maxLen ∧ ∀ x ∈ l, (fun n : Int => (Lit.int .i64 n).wf = true) x)) rfl (by kernel_rfl) op3 ?_
  exact OpensF.last rfl (by kernel_rfl) op35
end Go.Proofs.Ytmkhghbalnadlaa.fnExactAfter
