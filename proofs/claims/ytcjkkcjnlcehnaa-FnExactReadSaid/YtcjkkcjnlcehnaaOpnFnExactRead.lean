/- What the arguments of the law FnExactRead are, opened: plain values in the words of the printed functions. No condition. -/
import Derived.Test.YtcjkkcjnlcehnaaPFnExactReadx2
import Derived.Test.YtcjkkcjnlcehnaaOpens
import Derived.WalkKit
namespace Go.Proofs.Ytcjkkcjnlcehnaa.fnExactRead
open Go.ChangeShapes Go.WideShapes Go.ChangeAt Go.RowKit Go.Proofs.Ytcjkkcjnlcehnaa.Op Go.Proofs.YtcjkkcjnlcehnaaW.PrintWords Go.Proofs.Ytcjkkcjnlcehnaa.PFnExactRead
set_option linter.unusedVariables false
set_option linter.unusedSimpArgs false
theorem op3 : Opens Try.prog 3 (Kd.int .i64) (fun n : Int => (Lit.int .i64 n).wf = true) := Opens.int Try.underlying3
theorem op97 : Opens Try.prog 97 (Kd.pair (Kd.int .i64) (Kd.int .i64)) (fun x : (Int × Int) => (fun n : Int => (Lit.int .i64 n).wf = true) x.1 ∧ (fun n : Int => (Lit.int .i64 n).wf = true) x.2) := by
  refine Opens.struct Try.underlying97 (by kernel_rfl) ?_
  refine OpensF.cons (good := (fun n : Int => (Lit.int .i64 n).wf = true)) (good' := (fun n : Int => (Lit.int .i64 n).wf = true)) rfl (by kernel_rfl) op3 ?_
  exact OpensF.last rfl (by kernel_rfl) op3
def good97 (x : S97) : Prop := (fun x : (Int × Int) => (fun n : Int => (Lit.int .i64 n).wf = true) x.1 ∧ (fun n : Int => (Lit.int .i64 n).wf = true) x.2) ((x.f0, x.f1))
theorem oe97 : Opens Try.prog 97 k97 good97 := Opens.iso (fun x : S97 => (x.f0, x.f1)) (fun a => (⟨a.1, a.2⟩ : S97)) (fun _ => rfl) op97
theorem op29 : Opens Try.prog 29 (Kd.slice 97 k97) (fun l : List S97 => l.length ≤ maxLen ∧ ∀ x ∈ l, good97 x) := Opens.slice Try.underlying29 (by kernel_rfl) oe97
end Go.Proofs.Ytcjkkcjnlcehnaa.fnExactRead
