/- What the arguments of the law FnExactAllowed are, opened: plain values in the words of the printed functions. No condition. -/
import Derived.Test.YtblpbhhomocfbaaPFnExactAllowedx12
import Derived.Test.YtblpbhhomocfbaaOFnExactAllowed
import Derived.WalkKit
namespace Go.Proofs.Ytblpbhhomocfbaa.fnExactAllowed
open Go.ChangeShapes Go.WideShapes Go.ChangeAt Go.RowKit Go.Proofs.Ytblpbhhomocfbaa.Op Go.Proofs.YtblpbhhomocfbaaW.PrintWords Go.Proofs.Ytblpbhhomocfbaa.PFnExactAllowed
set_option linter.unusedVariables false
set_option linter.unusedSimpArgs false
theorem op3 : Opens Try.prog 3 (Kd.int .i64) (fun n : Int => (Lit.int .i64 n).wf = true) := Opens.int Try.underlying3
theorem op25 : Opens Try.prog 25 (Kd.slice 3 (Kd.int .i64)) (fun l : List Int => l.length ≤ maxLen ∧ ∀ x ∈ l, (fun n : Int => (Lit.int .i64 n).wf = true) x) := Opens.slice Try.underlying25 (by kernel_rfl) op3
theorem op78 : Opens Try.prog 78 (Kd.pair (Kd.slice 3 (Kd.int .i64)) (Kd.int .i64)) (fun x : ((List Int) × Int) => (fun l : List Int => l.length ≤ maxLen ∧ ∀ x ∈ l, (fun n : Int => (Lit.int .i64 n).wf = true) x) x.1 ∧ (fun n : Int => (Lit.int .i64 n).wf = true) x.2) := by
  refine Opens.struct Try.underlying78 (by kernel_rfl) ?_
  refine OpensF.cons (good := (fun l : List Int => l.length ≤ maxLen ∧ ∀ x ∈ l, (fun n : Int => (Lit.int .i64 n).wf = true) x)) (good' := (fun n : Int => (Lit.int .i64 n).wf = true)) rfl (by kernel_rfl) op25 ?_
  exact OpensF.last rfl (by kernel_rfl) op3
theorem op80 : Opens Try.prog 80 (Kd.pair (Kd.int .i64) (Kd.pair (Kd.int .i64) (Kd.int .i64))) (fun x : (Int × (Int × Int)) => (fun n : Int => (Lit.int .i64 n).wf = true) x.1 ∧ (fun x : (Int × Int) => (fun n : Int => (Lit.int .i64 n).wf = true) x.1 ∧ (fun n : Int => (Lit.int .i64 n).wf = true) x.2) x.2) := by
  refine Opens.struct Try.underlying80 (by kernel_rfl) ?_
  refine OpensF.cons (good := (fun n : Int => (Lit.int .i64 n).wf = true)) (good' := (fun x : (Int × Int) => (fun n : Int => (Lit.int .i64 n).wf = true) x.1 ∧ (fun n : Int => (Lit.int .i64 n).wf = true) x.2)) rfl (by kernel_rfl) op3 ?_
  refine OpensF.cons (good := (fun n : Int => (Lit.int .i64 n).wf = true)) (good' := (fun n : Int => (Lit.int .i64 n).wf = true)) rfl (by kernel_rfl) op3 ?_
  exact OpensF.last rfl (by kernel_rfl) op3
theorem op82 : Opens Try.prog 82 (Kd.pair (Kd.int .i64) (Kd.slice 3 (Kd.int .i64))) (fun x : (Int × (List Int)) => (fun n : Int => (Lit.int .i64 n).wf = true) x.1 ∧ (fun l : List Int => l.length ≤ maxLen ∧ ∀ x ∈ l, (fun n : Int => (Lit.int .i64 n).wf = true) x) x.2) := by
  refine Opens.struct Try.underlying82 (by kernel_rfl) ?_
  refine OpensF.cons (good := (fun n : Int => (Lit.int .i64 n).wf = true)) (good' := (fun l : List Int => l.length ≤ maxLen ∧ ∀ x ∈ l, (fun n : Int => (Lit.int .i64 n).wf = true) x)) rfl (by kernel_rfl) op3 ?_
  exact OpensF.last rfl (by kernel_rfl) op25
end Go.Proofs.Ytblpbhhomocfbaa.fnExactAllowed
