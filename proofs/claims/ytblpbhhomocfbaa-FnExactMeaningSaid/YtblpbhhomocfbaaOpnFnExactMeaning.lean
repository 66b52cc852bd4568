/- What the arguments of the law FnExactMeaning are, opened: plain values in the words of the printed functions. No condition. -/
import Derived.Test.YtblpbhhomocfbaaPFnExactMeaningx5
import Derived.Test.YtblpbhhomocfbaaOFnExactMeaning
import Derived.WalkKit
namespace Go.Proofs.Ytblpbhhomocfbaa.fnExactMeaning
open Go.ChangeShapes Go.WideShapes Go.ChangeAt Go.RowKit Go.Proofs.Ytblpbhhomocfbaa.Op Go.Proofs.YtblpbhhomocfbaaW.PrintWords Go.Proofs.Ytblpbhhomocfbaa.PFnExactMeaning
set_option linter.unusedVariables false
set_option linter.unusedSimpArgs false
theorem op3 : Opens Try.prog 3 (Kd.int .i64) (fun n : Int => (Lit.int .i64 n).wf = true) := Opens.int Try.underlying3
theorem op128 : Opens Try.prog 128 (Kd.pair (Kd.int .i64) (Kd.pair (Kd.int .i64) (Kd.int .i64))) (fun x : (Int × (Int × Int)) => (fun n : Int => (Lit.int .i64 n).wf = true) x.1 ∧ (fun x : (Int × Int) => (fun n : Int => (Lit.int .i64 n).wf = true) x.1 ∧ (fun n : Int => (Lit.int .i64 n).wf = true) x.2) x.2) := by
  refine Opens.struct Try.underlying128 (by kernel_rfl) ?_
  refine OpensF.cons (good := (fun n : Int => (Lit.int .i64 n).wf = true)) (good' := (fun x : (Int × Int) => (fun n : Int => (Lit.int .i64 n).wf = true) x.1 ∧ (fun n : Int => (Lit.int .i64 n).wf = true) x.2)) rfl (by kernel_rfl) op3 ?_
  refine OpensF.cons (good := (fun n : Int => (Lit.int .i64 n).wf = true)) (good' := (fun n : Int => (Lit.int .i64 n).wf = true)) rfl (by kernel_rfl) op3 ?_
  exact OpensF.last rfl (by kernel_rfl) op3
def good128 (x : S128) : Prop := (fun x : (Int × (Int × Int)) => (fun n : Int => (Lit.int .i64 n).wf = true) x.1 ∧ (fun x : (Int × Int) => (fun n : Int => (Lit.int .i64 n).wf = true) x.1 ∧ (fun n : Int => (Lit.int .i64 n).wf = true) x.2) x.2) ((x.f0, x.f1, x.f2))
theorem oe128 : Opens Try.prog 128 k128 good128 := Opens.iso (fun x : S128 => (x.f0, x.f1, x.f2)) (fun a => (⟨a.1, a.2.1, a.2.2⟩ : S128)) (fun _ => rfl) op128
theorem op44 : Opens Try.prog 44 (Kd.slice 128 k128) (fun l : List S128 => l.length ≤ maxLen ∧ ∀ x ∈ l, good128 x) := Opens.slice Try.underlying44 (by kernel_rfl) oe128
theorem op180 : Opens Try.prog 180 (Kd.pair (Kd.int .i64) (Kd.pair (Kd.int .i64) (Kd.int .i64))) (fun x : (Int × (Int × Int)) => (fun n : Int => (Lit.int .i64 n).wf = true) x.1 ∧ (fun x : (Int × Int) => (fun n : Int => (Lit.int .i64 n).wf = true) x.1 ∧ (fun n : Int => (Lit.int .i64 n).wf = true) x.2) x.2) := by
  refine Opens.struct Try.underlying180 (by kernel_rfl) ?_
  refine OpensF.cons (good := (fun n : Int => (Lit.int .i64 n).wf = true)) (good' := (fun x : (Int × Int) => (fun n : Int => (Lit.int .i64 n).wf = true) x.1 ∧ (fun n : Int => (Lit.int .i64 n).wf = true) x.2)) rfl (by kernel_rfl) op3 ?_
  refine OpensF.cons (good := (fun n : Int => (Lit.int .i64 n).wf = true)) (good' := (fun n : Int => (Lit.int .i64 n).wf = true)) rfl (by kernel_rfl) op3 ?_
  exact OpensF.last rfl (by kernel_rfl) op3
def good180 (x : S180) : Prop := (fun x : (Int × (Int × Int)) => (fun n : Int => (Lit.int .i64 n).wf = true) x.1 ∧ (fun x : (Int × Int) => (fun n : Int => (Lit.int .i64 n).wf = true) x.1 ∧ (fun n : Int => (Lit.int .i64 n).wf = true) x.2) x.2) ((x.f0, x.f1, x.f2))
theorem oe180 : Opens Try.prog 180 k180 good180 := Opens.iso (fun x : S180 => (x.f0, x.f1, x.f2)) (fun a => (⟨a.1, a.2.1, a.2.2⟩ : S180)) (fun _ => rfl) op180
theorem op114 : Opens Try.prog 114 (Kd.slice 180 k180) (fun l : List S180 => l.length ≤ maxLen ∧ ∀ x ∈ l, good180 x) := Opens.slice Try.underlying114 (by kernel_rfl) oe180
theorem op25 : Opens Try.prog 25 (Kd.slice 3 (Kd.int .i64)) (fun l : List Int => l.length ≤ maxLen ∧ ∀ x ∈ l, (fun n : Int => (Lit.int .i64 n).wf = true) x) := Opens.slice Try.underlying25 (by kernel_rfl) op3
theorem op82 : Opens Try.prog 82 (Kd.pair (Kd.int .i64) (Kd.slice 3 (Kd.int .i64))) (fun x : (Int × (List Int)) => (fun n : Int => (Lit.int .i64 n).wf = true) x.1 ∧ (fun l : List Int => l.length ≤ maxLen ∧ ∀ x ∈ l, (fun n : Int => (Lit.int .i64 n).wf = true) x) x.2) := by
  refine Opens.struct Try.underlying82 (by kernel_rfl) ?_
  refine OpensF.cons (good := (fun n : Int => (Lit.int .i64 n).wf = true)) (good' := (fun l : List Int => l.length ≤ maxLen ∧ ∀ x ∈ l, (fun n : Int => (Lit.int .i64 n).wf = true) x)) rfl (by kernel_rfl) op3 ?_
  exact OpensF.last rfl (by kernel_rfl) op25
theorem op116 : Opens Try.prog 116 (Kd.pair (Kd.int .i64) (Kd.pair (Kd.int .i64) (Kd.pair (Kd.slice 180 k180) (Kd.pair (Kd.int .i64) (Kd.slice 3 (Kd.int .i64)))))) (fun x : (Int × (Int × ((List S180) × (Int × (List Int))))) => (fun n : Int => (Lit.int .i64 n).wf = true) x.1 ∧ (fun x : (Int × ((List S180) × (Int × (List Int)))) => (fun n : Int => (Lit.int .i64 n).wf = true) x.1 ∧ (fun x : ((List S180) × (Int × (List Int))) => (fun l : List S180 => l.length ≤ maxLen ∧ ∀ x ∈ l, good180 x) x.1 ∧ (fun x : (Int × (List Int)) => (fun n : Int => (Lit.int .i64 n).wf = true) x.1 ∧ (fun l : List Int => l.length ≤ maxLen ∧ ∀ x ∈ l, (fun n : Int => (Lit.int .i64 n).wf = true) x) x.2) x.2) x.2) x.2) := by
  refine Opens.struct Try.underlying116 (by kernel_rfl) ?_
  refine OpensF.cons (good := (fun n : Int => (Lit.int .i64 n).wf = true)) (good' := (fun x : (Int × ((List S180) × (Int × (List Int)))) => (fun n : Int => (Lit.int .i64 n).wf = true) x.1 ∧ (fun x : ((List S180) × (Int × (List Int))) => (fun l : List S180 => l.length ≤ maxLen ∧ ∀ x ∈ l, good180 x) x.1 ∧ (fun x : (Int × (List Int)) => (fun n : Int => (Lit.int .i64 n).wf = true) x.1 ∧ (fun l : List Int => l.length ≤ maxLen ∧ ∀ x ∈ l, (fun n : Int => (Lit.int .i64 n).wf = true) x) x.2) x.2) x.2)) rfl (by kernel_rfl) op3 ?_
  refine OpensF.cons (good := (fun n : Int => (Lit.int .i64 n).wf = true)) (good' := (fun x : ((List S180) × (Int × (List Int))) => (fun l : List S180 => l.length ≤ maxLen ∧ ∀ x ∈ l, good180 x) x.1 ∧ (fun x : (Int × (List Int)) => (fun n : Int => (Lit.int .i64 n).wf = true) x.1 ∧ (fun l : List Int => l.length ≤ maxLen ∧ ∀ x ∈ l, (fun n : Int => (Lit.int .i64 n).wf = true) x) x.2) x.2)) rfl (by kernel_rfl) op3 ?_
  refine OpensF.cons (good := (fun l : List S180 => l.length ≤ maxLen ∧ ∀ x ∈ l, good180 x)) (good' := (fun x : (Int × (List Int)) => (fun n : Int => (Lit.int .i64 n).wf = true) x.1 ∧ (fun l : List Int => l.length ≤ maxLen ∧ ∀ x ∈ l, (fun n : Int => (Lit.int .i64 n).wf = true) x) x.2)) rfl (by kernel_rfl) op114 ?_
  exact OpensF.last rfl (by kernel_rfl) op82
def good116 (x : S116) : Prop := (fun x : (Int × (Int × ((List S180) × (Int × (List Int))))) => (fun n : Int => (Lit.int .i64 n).wf = true) x.1 ∧ (fun x : (Int × ((List S180) × (Int × (List Int)))) => (fun n : Int => (Lit.int .i64 n).wf = true) x.1 ∧ (fun x : ((List S180) × (Int × (List Int))) => (fun l : List S180 => l.length ≤ maxLen ∧ ∀ x ∈ l, good180 x) x.1 ∧ (fun x : (Int × (List Int)) => (fun n : Int => (Lit.int .i64 n).wf = true) x.1 ∧ (fun l : List Int => l.length ≤ maxLen ∧ ∀ x ∈ l, (fun n : Int => (Lit.int .i64 n).wf = true) x) x.2) x.2) x.2) x.2) ((x.f0, x.f1, x.f2, (x.f3.f0, x.f3.f1)))
theorem oe116 : Opens Try.prog 116 k116 good116 := Opens.iso (fun x : S116 => (x.f0, x.f1, x.f2, (x.f3.f0, x.f3.f1))) (fun a => (⟨a.1, a.2.1, a.2.2.1, ⟨a.2.2.2.1, a.2.2.2.2⟩⟩ : S116)) (fun _ => rfl) op116
theorem op45 : Opens Try.prog 45 (Kd.slice 116 k116) (fun l : List S116 => l.length ≤ maxLen ∧ ∀ x ∈ l, good116 x) := Opens.slice Try.underlying45 (by kernel_rfl) oe116
end Go.Proofs.Ytblpbhhomocfbaa.fnExactMeaning
