/- What the arguments of the law FnExactDescOk are, opened: plain values in the words of the printed functions. No condition. -/
import Derived.Test.YtcjkkcjnlcehnaaPFnExactDescOkx6
import Derived.Test.YtcjkkcjnlcehnaaOpens
import Derived.WalkKit
namespace Go.Proofs.Ytcjkkcjnlcehnaa.fnExactDescOk
open Go.ChangeShapes Go.WideShapes Go.ChangeAt Go.RowKit Go.Proofs.Ytcjkkcjnlcehnaa.Op Go.Proofs.YtcjkkcjnlcehnaaW.PrintWords Go.Proofs.Ytcjkkcjnlcehnaa.PFnExactDescOk
set_option linter.unusedVariables false
set_option linter.unusedSimpArgs false
theorem op3 : Opens Try.prog 3 (Kd.int .i64) (fun n : Int => (Lit.int .i64 n).wf = true) := Opens.int Try.underlying3
theorem op120 : Opens Try.prog 120 (Kd.pair (Kd.int .i64) (Kd.pair (Kd.int .i64) (Kd.int .i64))) (fun x : (Int × (Int × Int)) => (fun n : Int => (Lit.int .i64 n).wf = true) x.1 ∧ (fun x : (Int × Int) => (fun n : Int => (Lit.int .i64 n).wf = true) x.1 ∧ (fun n : Int => (Lit.int .i64 n).wf = true) x.2) x.2) := by
  refine Opens.struct Try.underlying120 (by kernel_rfl) ?_
  refine OpensF.cons (good := (fun n : Int => (Lit.int .i64 n).wf = true)) (good' := (fun x : (Int × Int) => (fun n : Int => (Lit.int .i64 n).wf = true) x.1 ∧ (fun n : Int => (Lit.int .i64 n).wf = true) x.2)) rfl (by kernel_rfl) op3 ?_
  refine OpensF.cons (good := (fun n : Int => (Lit.int .i64 n).wf = true)) (good' := (fun n : Int => (Lit.int .i64 n).wf = true)) rfl (by kernel_rfl) op3 ?_
  exact OpensF.last rfl (by kernel_rfl) op3
def good120 (x : S120) : Prop := (fun x : (Int × (Int × Int)) => (fun n : Int => (Lit.int .i64 n).wf = true) x.1 ∧ (fun x : (Int × Int) => (fun n : Int => (Lit.int .i64 n).wf = true) x.1 ∧ (fun n : Int => (Lit.int .i64 n).wf = true) x.2) x.2) ((x.f0, x.f1, x.f2))
theorem oe120 : Opens Try.prog 120 k120 good120 := Opens.iso (fun x : S120 => (x.f0, x.f1, x.f2)) (fun a => (⟨a.1, a.2.1, a.2.2⟩ : S120)) (fun _ => rfl) op120
theorem op56 : Opens Try.prog 56 (Kd.slice 120 k120) (fun l : List S120 => l.length ≤ maxLen ∧ ∀ x ∈ l, good120 x) := Opens.slice Try.underlying56 (by kernel_rfl) oe120
theorem op22 : Opens Try.prog 22 (Kd.slice 3 (Kd.int .i64)) (fun l : List Int => l.length ≤ maxLen ∧ ∀ x ∈ l, (fun n : Int => (Lit.int .i64 n).wf = true) x) := Opens.slice Try.underlying22 (by kernel_rfl) op3
theorem op42 : Opens Try.prog 42 (Kd.pair (Kd.int .i64) (Kd.slice 3 (Kd.int .i64))) (fun x : (Int × (List Int)) => (fun n : Int => (Lit.int .i64 n).wf = true) x.1 ∧ (fun l : List Int => l.length ≤ maxLen ∧ ∀ x ∈ l, (fun n : Int => (Lit.int .i64 n).wf = true) x) x.2) := by
  refine Opens.struct Try.underlying42 (by kernel_rfl) ?_
  refine OpensF.cons (good := (fun n : Int => (Lit.int .i64 n).wf = true)) (good' := (fun l : List Int => l.length ≤ maxLen ∧ ∀ x ∈ l, (fun n : Int => (Lit.int .i64 n).wf = true) x)) rfl (by kernel_rfl) op3 ?_
  exact OpensF.last rfl (by kernel_rfl) op22
theorem op58 : Opens Try.prog 58 (Kd.pair (Kd.int .i64) (Kd.pair (Kd.int .i64) (Kd.pair (Kd.slice 120 k120) (Kd.pair (Kd.int .i64) (Kd.slice 3 (Kd.int .i64)))))) (fun x : (Int × (Int × ((List S120) × (Int × (List Int))))) => (fun n : Int => (Lit.int .i64 n).wf = true) x.1 ∧ (fun x : (Int × ((List S120) × (Int × (List Int)))) => (fun n : Int => (Lit.int .i64 n).wf = true) x.1 ∧ (fun x : ((List S120) × (Int × (List Int))) => (fun l : List S120 => l.length ≤ maxLen ∧ ∀ x ∈ l, good120 x) x.1 ∧ (fun x : (Int × (List Int)) => (fun n : Int => (Lit.int .i64 n).wf = true) x.1 ∧ (fun l : List Int => l.length ≤ maxLen ∧ ∀ x ∈ l, (fun n : Int => (Lit.int .i64 n).wf = true) x) x.2) x.2) x.2) x.2) := by
  refine Opens.struct Try.underlying58 (by kernel_rfl) ?_
  refine OpensF.cons (good := (fun n : Int => (Lit.int .i64 n).wf = true)) (good' := (fun x : (Int × ((List S120) × (Int × (List Int)))) => (fun n : Int => (Lit.int .i64 n).wf = true) x.1 ∧ (fun x : ((List S120) × (Int × (List Int))) => (fun l : List S120 => l.length ≤ maxLen ∧ ∀ x ∈ l, good120 x) x.1 ∧ (fun x : (Int × (List Int)) => (fun n : Int => (Lit.int .i64 n).wf = true) x.1 ∧ (fun l : List Int => l.length ≤ maxLen ∧ ∀ x ∈ l, (fun n : Int => (Lit.int .i64 n).wf = true) x) x.2) x.2) x.2)) rfl (by kernel_rfl) op3 ?_
  refine OpensF.cons (good := (fun n : Int => (Lit.int .i64 n).wf = true)) (good' := (fun x : ((List S120) × (Int × (List Int))) => (fun l : List S120 => l.length ≤ maxLen ∧ ∀ x ∈ l, good120 x) x.1 ∧ (fun x : (Int × (List Int)) => (fun n : Int => (Lit.int .i64 n).wf = true) x.1 ∧ (fun l : List Int => l.length ≤ maxLen ∧ ∀ x ∈ l, (fun n : Int => (Lit.int .i64 n).wf = true) x) x.2) x.2)) rfl (by kernel_rfl) op3 ?_
  refine OpensF.cons (good := (fun l : List S120 => l.length ≤ maxLen ∧ ∀ x ∈ l, good120 x)) (good' := (fun x : (Int × (List Int)) => (fun n : Int => (Lit.int .i64 n).wf = true) x.1 ∧ (fun l : List Int => l.length ≤ maxLen ∧ ∀ x ∈ l, (fun n : Int => (Lit.int .i64 n).wf = true) x) x.2)) rfl (by kernel_rfl) op56 ?_
  exact OpensF.last rfl (by kernel_rfl) op42
end Go.Proofs.Ytcjkkcjnlcehnaa.fnExactDescOk
