/- What the arguments of the law FnExactSwap are, opened: plain values in the words of the printed functions. No condition. -/
import Derived.Test.YtblpbhhomocfbaaPFnExactSwapx8
import Derived.Test.YtblpbhhomocfbaaOFnExactSwap
import Derived.WalkKit
namespace Go.Proofs.Ytblpbhhomocfbaa.fnExactSwap
open Go.ChangeShapes Go.WideShapes Go.ChangeAt Go.RowKit Go.Proofs.Ytblpbhhomocfbaa.Op Go.Proofs.YtblpbhhomocfbaaW.PrintWords Go.Proofs.Ytblpbhhomocfbaa.PFnExactSwap
set_option linter.unusedVariables false
set_option linter.unusedSimpArgs false
theorem op3 : Opens Try.prog 3 (Kd.int .i64) (fun n : Int => (Lit.int .i64 n).wf = true) := Opens.int Try.underlying3
theorem op80 : Opens Try.prog 80 (Kd.pair (Kd.int .i64) (Kd.pair (Kd.int .i64) (Kd.int .i64))) (fun x : (Int × (Int × Int)) => (fun n : Int => (Lit.int .i64 n).wf = true) x.1 ∧ (fun x : (Int × Int) => (fun n : Int => (Lit.int .i64 n).wf = true) x.1 ∧ (fun n : Int => (Lit.int .i64 n).wf = true) x.2) x.2) := by
  refine Opens.struct Try.underlying80 (by kernel_rfl) ?_
  refine OpensF.cons (good := (fun n : Int => (Lit.int .i64 n).wf = true)) (good' := (fun x : (Int × Int) => (fun n : Int => (Lit.int .i64 n).wf = true) x.1 ∧ (fun n : Int => (Lit.int .i64 n).wf = true) x.2)) rfl (by kernel_rfl) op3 ?_
  refine OpensF.cons (good := (fun n : Int => (Lit.int .i64 n).wf = true)) (good' := (fun n : Int => (Lit.int .i64 n).wf = true)) rfl (by kernel_rfl) op3 ?_
  exact OpensF.last rfl (by kernel_rfl) op3
def good80 (x : S80) : Prop := (fun x : (Int × (Int × Int)) => (fun n : Int => (Lit.int .i64 n).wf = true) x.1 ∧ (fun x : (Int × Int) => (fun n : Int => (Lit.int .i64 n).wf = true) x.1 ∧ (fun n : Int => (Lit.int .i64 n).wf = true) x.2) x.2) ((x.f0, x.f1, x.f2))
theorem oe80 : Opens Try.prog 80 k80 good80 := Opens.iso (fun x : S80 => (x.f0, x.f1, x.f2)) (fun a => (⟨a.1, a.2.1, a.2.2⟩ : S80)) (fun _ => rfl) op80
theorem op30 : Opens Try.prog 30 (Kd.slice 80 k80) (fun l : List S80 => l.length ≤ maxLen ∧ ∀ x ∈ l, good80 x) := Opens.slice Try.underlying30 (by kernel_rfl) oe80
theorem op4 : Opens Try.prog 4 Kd.bool (fun _ : Bool => True) := Opens.bool Try.underlying4
theorem op169 : Opens Try.prog 169 (Kd.pair (Kd.int .i64) (Kd.int .i64)) (fun x : (Int × Int) => (fun n : Int => (Lit.int .i64 n).wf = true) x.1 ∧ (fun n : Int => (Lit.int .i64 n).wf = true) x.2) := by
  refine Opens.struct Try.underlying169 (by kernel_rfl) ?_
  refine OpensF.cons (good := (fun n : Int => (Lit.int .i64 n).wf = true)) (good' := (fun n : Int => (Lit.int .i64 n).wf = true)) rfl (by kernel_rfl) op3 ?_
  exact OpensF.last rfl (by kernel_rfl) op3
def good169 (x : S169) : Prop := (fun x : (Int × Int) => (fun n : Int => (Lit.int .i64 n).wf = true) x.1 ∧ (fun n : Int => (Lit.int .i64 n).wf = true) x.2) ((x.f0, x.f1))
theorem oe169 : Opens Try.prog 169 k169 good169 := Opens.iso (fun x : S169 => (x.f0, x.f1)) (fun a => (⟨a.1, a.2⟩ : S169)) (fun _ => rfl) op169
theorem op56 : Opens Try.prog 56 (Kd.slice 169 k169) (fun l : List S169 => l.length ≤ maxLen ∧ ∀ x ∈ l, good169 x) := Opens.slice Try.underlying56 (by kernel_rfl) oe169
theorem op65 : Opens Try.prog 65 (Kd.pair (Kd.int .i64) (Kd.pair (Kd.int .i64) (Kd.pair (Kd.int .i64) (Kd.int .i64)))) (fun x : (Int × (Int × (Int × Int))) => (fun n : Int => (Lit.int .i64 n).wf = true) x.1 ∧ (fun x : (Int × (Int × Int)) => (fun n : Int => (Lit.int .i64 n).wf = true) x.1 ∧ (fun x : (Int × Int) => (fun n : Int => (Lit.int .i64 n).wf = true) x.1 ∧ (fun n : Int => (Lit.int .i64 n).wf = true) x.2) x.2) x.2) := by
  refine Opens.struct Try.underlying65 (by kernel_rfl) ?_
  refine OpensF.cons (good := (fun n : Int => (Lit.int .i64 n).wf = true)) (good' := (fun x : (Int × (Int × Int)) => (fun n : Int => (Lit.int .i64 n).wf = true) x.1 ∧ (fun x : (Int × Int) => (fun n : Int => (Lit.int .i64 n).wf = true) x.1 ∧ (fun n : Int => (Lit.int .i64 n).wf = true) x.2) x.2)) rfl (by kernel_rfl) op3 ?_
  refine OpensF.cons (good := (fun n : Int => (Lit.int .i64 n).wf = true)) (good' := (fun x : (Int × Int) => (fun n : Int => (Lit.int .i64 n).wf = true) x.1 ∧ (fun n : Int => (Lit.int .i64 n).wf = true) x.2)) rfl (by kernel_rfl) op3 ?_
  refine OpensF.cons (good := (fun n : Int => (Lit.int .i64 n).wf = true)) (good' := (fun n : Int => (Lit.int .i64 n).wf = true)) rfl (by kernel_rfl) op3 ?_
  exact OpensF.last rfl (by kernel_rfl) op3
def good65 (x : S65) : Prop := (fun x : (Int × (Int × (Int × Int))) => (fun n : Int => (Lit.int .i64 n).wf = true) x.1 ∧ (fun x : (Int × (Int × Int)) => (fun n : Int => (Lit.int .i64 n).wf = true) x.1 ∧ (fun x : (Int × Int) => (fun n : Int => (Lit.int .i64 n).wf = true) x.1 ∧ (fun n : Int => (Lit.int .i64 n).wf = true) x.2) x.2) x.2) ((x.f0, x.f1, x.f2, x.f3))
theorem oe65 : Opens Try.prog 65 k65 good65 := Opens.iso (fun x : S65 => (x.f0, x.f1, x.f2, x.f3)) (fun a => (⟨a.1, a.2.1, a.2.2.1, a.2.2.2⟩ : S65)) (fun _ => rfl) op65
theorem op57 : Opens Try.prog 57 (Kd.slice 65 k65) (fun l : List S65 => l.length ≤ maxLen ∧ ∀ x ∈ l, good65 x) := Opens.slice Try.underlying57 (by kernel_rfl) oe65
theorem op59 : Opens Try.prog 59 (Kd.pair (Kd.slice 80 k80) (Kd.pair (Kd.int .i64) (Kd.pair Kd.bool (Kd.pair (Kd.slice 169 k169) (Kd.slice 65 k65))))) (fun x : ((List S80) × (Int × (Bool × ((List S169) × (List S65))))) => (fun l : List S80 => l.length ≤ maxLen ∧ ∀ x ∈ l, good80 x) x.1 ∧ (fun x : (Int × (Bool × ((List S169) × (List S65)))) => (fun n : Int => (Lit.int .i64 n).wf = true) x.1 ∧ (fun x : (Bool × ((List S169) × (List S65))) => (fun _ : Bool => True) x.1 ∧ (fun x : ((List S169) × (List S65)) => (fun l : List S169 => l.length ≤ maxLen ∧ ∀ x ∈ l, good169 x) x.1 ∧ (fun l : List S65 => l.length ≤ maxLen ∧ ∀ x ∈ l, good65 x) x.2) x.2) x.2) x.2) := by
  refine Opens.struct Try.underlying59 (by kernel_rfl) ?_
  refine OpensF.cons (good := (fun l : List S80 => l.length ≤ maxLen ∧ ∀ x ∈ l, good80 x)) (good' := (fun x : (Int × (Bool × ((List S169) × (List S65)))) => (fun n : Int => (Lit.int .i64 n).wf = true) x.1 ∧ (fun x : (Bool × ((List S169) × (List S65))) => (fun _ : Bool => True) x.1 ∧ (fun x : ((List S169) × (List S65)) => (fun l : List S169 => l.length ≤ maxLen ∧ ∀ x ∈ l, good169 x) x.1 ∧ (fun l : List S65 => l.length ≤ maxLen ∧ ∀ x ∈ l, good65 x) x.2) x.2) x.2)) rfl (by kernel_rfl) op30 ?_
  refine OpensF.cons (good := (fun n : Int => (Lit.int .i64 n).wf = true)) (good' := (fun x : (Bool × ((List S169) × (List S65))) => (fun _ : Bool => True) x.1 ∧ (fun x : ((List S169) × (List S65)) => (fun l : List S169 => l.length ≤ maxLen ∧ ∀ x ∈ l, good169 x) x.1 ∧ (fun l : List S65 => l.length ≤ maxLen ∧ ∀ x ∈ l, good65 x) x.2) x.2)) rfl (by kernel_rfl) op3 ?_
  refine OpensF.cons (good := (fun _ : Bool => True)) (good' := (fun x : ((List S169) × (List S65)) => (fun l : List S169 => l.length ≤ maxLen ∧ ∀ x ∈ l, good169 x) x.1 ∧ (fun l : List S65 => l.length ≤ maxLen ∧ ∀ x ∈ l, good65 x) x.2)) rfl (by kernel_rfl) op4 ?_
  refine OpensF.cons (good := (fun l : List S169 => l.length ≤ maxLen ∧ ∀ x ∈ l, good169 x)) (good' := (fun l : List S65 => l.length ≤ maxLen ∧ ∀ x ∈ l, good65 x)) rfl (by kernel_rfl) op56 ?_
  exact OpensF.last rfl (by kernel_rfl) op57
end Go.Proofs.Ytblpbhhomocfbaa.fnExactSwap
