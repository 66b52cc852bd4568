/- What the arguments of the law FnExactThreadNew are, opened: plain values in the words of the printed functions. No condition. -/
import Derived.Test.YtblpbhhomocfbaaPFnExactThreadNewx4
import Derived.Test.YtblpbhhomocfbaaOFnExactThreadNew
import Derived.WalkKit
namespace Go.Proofs.Ytblpbhhomocfbaa.fnExactThreadNew
open Go.ChangeShapes Go.WideShapes Go.ChangeAt Go.RowKit Go.Proofs.Ytblpbhhomocfbaa.Op Go.Proofs.YtblpbhhomocfbaaW.PrintWords Go.Proofs.Ytblpbhhomocfbaa.PFnExactThreadNew
set_option linter.unusedVariables false
set_option linter.unusedSimpArgs false
theorem op3 : Opens Try.prog 3 (Kd.int .i64) (fun n : Int => (Lit.int .i64 n).wf = true) := Opens.int Try.underlying3
theorem op80 : Opens Try.prog 80 (Kd.pair (Kd.int .i64) (Kd.pair (Kd.int .i64) (Kd.int .i64))) (fun x : (Int × (Int × Int)) => (fun n : Int => (Lit.int .i64 n).wf = true) x.1 ∧ (fun x : (Int × Int) => (fun n : Int => (Lit.int .i64 n).wf = true) x.1 ∧ (fun n : Int => (Lit.int .i64 n).wf = true) x.2) x.2) := by
  refine Opens.struct Try.underlying80 (by kernel_rfl) ?_
  refine OpensF.cons (good := (fun n : Int => (Lit.int .i64 n).wf = true)) (good' := (fun x : (Int × Int) => (fun n : Int => (Lit.int .i64 n).wf = true) x.1 ∧ (fun n : Int => (Lit.int .i64 n).wf = true) x.2)) rfl (by kernel_rfl) op3 ?_
  refine OpensF.cons (good := (fun n : Int => (Lit.int .i64 n).wf = true)) (good' := (fun n : Int => (Lit.int .i64 n).wf = true)) rfl (by kernel_rfl) op3 ?_
  exact OpensF.last rfl (by kernel_rfl) op3
def good80 (x : S80) : Prop := (fun x : (Int × (Int × Int)) => (fun n : Int => (Lit.int .i64 n).wf = true) x.1 ∧ (fun x : (Int × Int) => (fun n : Int => (Lit.int .i64 n).wf = true) x.1 ∧ (fun n : Int => (Lit.int .i64 n).wf = true) x.2) x.2) ((x.f0, x.f1, x.f2))
theorem oe80 : Opens Try.prog 80 k80 good80 := Opens.iso (fun x : S80 => (x.f0, x.f1, x.f2)) (fun a => (⟨a.1, a.2.1, a.2.2⟩ : S80)) (fun _ => rfl) op80
theorem op30 : Opens Try.prog 30 (Kd.slice 80 k80) (fun l : List S80 => l.length ≤ maxLen ∧ ∀ x ∈ l, good80 x) := Opens.slice Try.underlying30 (by kernel_rfl) oe80
end Go.Proofs.Ytblpbhhomocfbaa.fnExactThreadNew
