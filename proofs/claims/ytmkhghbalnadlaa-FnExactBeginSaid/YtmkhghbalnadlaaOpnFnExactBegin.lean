/- What the arguments of the law FnExactBegin are, opened: plain values in the words of the printed functions. No condition. -/
import Derived.Test.YtmkhghbalnadlaaPFnExactBeginx16
import Derived.Test.YtmkhghbalnadlaaOFnExactBegin
import Derived.WalkKit
namespace Go.Proofs.Ytmkhghbalnadlaa.fnExactBegin
open Go.ChangeShapes Go.WideShapes Go.ChangeAt Go.RowKit Go.Proofs.Ytmkhghbalnadlaa.Op Go.Proofs.YtmkhghbalnadlaaW.PrintWords Go.Proofs.Ytmkhghbalnadlaa.PFnExactBegin
set_option linter.unusedVariables false
set_option linter.unusedSimpArgs false
theorem op3 : Opens Try.prog 3 (Kd.int .i64) (fun n : Int => (Lit.int .i64 n).wf = true) := Opens.int Try.underlying3
theorem op140 : Opens Try.prog 140 (Kd.pair (Kd.int .i64) (Kd.pair (Kd.int .i64) (Kd.int .i64))) (fun x : (Int × (Int × Int)) => (fun n : Int => (Lit.int .i64 n).wf = true) x.1 ∧ (fun x : (Int × Int) => (fun n : Int => (Lit.int .i64 n).wf = true) x.1 ∧ (fun n : Int => (Lit.int .i64 n).wf = true) x.2) x.2) := by
  refine Opens.struct Try.underlying140 (by kernel_rfl) ?_
  refine OpensF.cons (good := (fun n : Int => (Lit.int .i64 n).wf = true)) (good' := (fun x : (Int × Int) => (fun n : Int => (Lit.int .i64 n).wf = true) x.1 ∧ (fun n : Int => (Lit.int .i64 n).wf = true) x.2)) rfl (by kernel_rfl) op3 ?_
  refine OpensF.cons (good := (fun n : Int => (Lit.int .i64 n).wf = true)) (good' := (fun n : Int => (Lit.int .i64 n).wf = true)) rfl (by kernel_rfl) op3 ?_
  exact OpensF.last rfl (by kernel_rfl) op3
def good140 (x : S140) : Prop := (fun x : (Int × (Int × Int)) => (fun n : Int => (Lit.int .i64 n).wf = true) x.1 ∧ (fun x : (Int × Int) => (fun n : Int => (Lit.int .i64 n).wf = true) x.1 ∧ (fun n : Int => (Lit.int .i64 n).wf = true) x.2) x.2) ((x.f0, x.f1, x.f2))
theorem oe140 : Opens Try.prog 140 k140 good140 := Opens.iso (fun x : S140 => (x.f0, x.f1, x.f2)) (fun a => (⟨a.1, a.2.1, a.2.2⟩ : S140)) (fun _ => rfl) op140
theorem op22 : Opens Try.prog 22 (Kd.slice 140 k140) (fun l : List S140 => l.length ≤ maxLen ∧ ∀ x ∈ l, good140 x) := Opens.slice Try.underlying22 (by kernel_rfl) oe140
theorem op124 : Opens Try.prog 124 (Kd.pair (Kd.int .i64) (Kd.pair (Kd.int .i64) (Kd.int .i64))) (fun x : (Int × (Int × Int)) => (fun n : Int => (Lit.int .i64 n).wf = true) x.1 ∧ (fun x : (Int × Int) => (fun n : Int => (Lit.int .i64 n).wf = true) x.1 ∧ (fun n : Int => (Lit.int .i64 n).wf = true) x.2) x.2) := by
  refine Opens.struct Try.underlying124 (by kernel_rfl) ?_
  refine OpensF.cons (good := (fun n : Int => (Lit.int .i64 n).wf = true)) (good' := (fun x : (Int × Int) => (fun n : Int => (Lit.int .i64 n).wf = true) x.1 ∧ (fun n : Int => (Lit.int .i64 n).wf = true) x.2)) rfl (by kernel_rfl) op3 ?_
  refine OpensF.cons (good := (fun n : Int => (Lit.int .i64 n).wf = true)) (good' := (fun n : Int => (Lit.int .i64 n).wf = true)) rfl (by kernel_rfl) op3 ?_
  exact OpensF.last rfl (by kernel_rfl) op3
def good124 (x : S124) : Prop := (fun x : (Int × (Int × Int)) => (fun n : Int => (Lit.int .i64 n).wf = true) x.1 ∧ (fun x : (Int × Int) => (fun n : Int => (Lit.int .i64 n).wf = true) x.1 ∧ (fun n : Int => (Lit.int .i64 n).wf = true) x.2) x.2) ((x.f0, x.f1, x.f2))
theorem oe124 : Opens Try.prog 124 k124 good124 := Opens.iso (fun x : S124 => (x.f0, x.f1, x.f2)) (fun a => (⟨a.1, a.2.1, a.2.2⟩ : S124)) (fun _ => rfl) op124
theorem op71 : Opens Try.prog 71 (Kd.slice 124 k124) (fun l : List S124 => l.length ≤ maxLen ∧ ∀ x ∈ l, good124 x) := Opens.slice Try.underlying71 (by kernel_rfl) oe124
theorem op35 : Opens Try.prog 35 (Kd.slice 3 (Kd.int .i64)) (fun l : List Int => l.length ≤ maxLen ∧ ∀ x ∈ l, (fun n : Int => (Lit.int .i64 n).wf = true) x) := Opens.slice Try.underlying35 (by kernel_rfl) op3
theorem op41 : Opens Try.prog 41 (Kd.pair (Kd.int .i64) (Kd.slice 3 (Kd.int .i64))) (fun x : (Int × (List Int)) => (fun n : Int => (Lit.int .i64 n).wf = true) x.1 ∧ (fun l : List Int => l.length ≤ maxLen ∧ ∀ x ∈ l, (fun n : Int => (Lit.int .i64 n).wf = true) x) x.2) := by
  refine Opens.struct Try.underlying41 (by kernel_rfl) ?_
  refine OpensF.cons (good := (fun n : Int => (Lit.int .i64 n).wf = true)) (good' := (fun l : List Int => l.length ≤ maxLen ∧ ∀ x ∈ l, (fun n : Int => (Lit.int .i64 n).wf = true) x)) rfl (by kernel_rfl) op3 ?_
  exact OpensF.last rfl (by kernel_rfl) op35
theorem op134 : Opens Try.prog 134 (Kd.pair (Kd.int .i64) (Kd.pair (Kd.int .i64) (Kd.pair (Kd.slice 124 k124) (Kd.pair (Kd.int .i64) (Kd.slice 3 (Kd.int .i64)))))) (fun x : (Int × (Int × ((List S124) × (Int × (List Int))))) => (fun n : Int => (Lit.int .i64 n).wf = true) x.1 ∧ (fun x : (Int × ((List S124) × (Int × (List Int)))) => (fun n : Int => (Lit.int .i64 n).wf = true) x.1 ∧ (fun x : ((List S124) × (Int × (List Int))) => (fun l : List S124 => l.length ≤ maxLen ∧ ∀ x ∈ l, good124 x) x.1 ∧ (fun x : (Int × (List Int)) => (fun n : Int => (Lit.int .i64 n).wf = true) x.1 ∧ (fun l : List Int => l.length ≤ maxLen ∧ ∀ x ∈ l, (fun n : Int => (Lit.int .i64 n).wf = true) x) x.2) x.2) x.2) x.2) := by
  refine Opens.struct Try.underlying134 (by kernel_rfl) ?_
  refine OpensF.cons (good := (fun n : Int => (Lit.int .i64 n).wf = true)) (good' := (fun x : (Int × ((List S124) × (Int × (List Int)))) => (fun n : Int => (Lit.int .i64 n).wf = true) x.1 ∧ (fun x : ((List S124) × (Int × (List Int))) => (fun l : List S124 => l.length ≤ maxLen ∧ ∀ x ∈ l, good124 x) x.1 ∧ (fun x : (Int × (List Int)) => (fun n : Int => (Lit.int .i64 n).wf = true) x.1 ∧ (fun l : List Int => l.length ≤ maxLen ∧ ∀ x ∈ l, (fun n : Int => (Lit.int .i64 n).wf = true) x) x.2) x.2) x.2)) rfl (by kernel_rfl) op3 ?_
  refine OpensF.cons (good := (fun n : Int => (Lit.int .i64 n).wf = true)) (good' := (fun x : ((List S124) × (Int × (List Int))) => (fun l : List S124 => l.length ≤ maxLen ∧ ∀ x ∈ l, good124 x) x.1 ∧ (fun x : (Int × (List Int)) => (fun n : Int => (Lit.int .i64 n).wf = true) x.1 ∧ (fun l : List Int => l.length ≤ maxLen ∧ ∀ x ∈ l, (fun n : Int => (Lit.int .i64 n).wf = true) x) x.2) x.2)) rfl (by kernel_rfl) op3 ?_
  refine OpensF.cons (good := (fun l : List S124 => l.length ≤ maxLen ∧ ∀ x ∈ l, good124 x)) (good' := (fun x : (Int × (List Int)) => (fun n : Int => (Lit.int .i64 n).wf = true) x.1 ∧ (fun l : List Int => l.length ≤ maxLen ∧ ∀ x ∈ l, (fun n : Int => (Lit.int .i64 n).wf = true) x) x.2)) rfl (by kernel_rfl) op71 ?_
  exact OpensF.last rfl (by kernel_rfl) op41
def good134 (x : S134) : Prop := (fun x : (Int × (Int × ((List S124) × (Int × (List Int))))) => (fun n : Int => (Lit.int .i64 n).wf = true) x.1 ∧ (fun x : (Int × ((List S124) × (Int × (List Int)))) => (fun n : Int => (Lit.int .i64 n).wf = true) x.1 ∧ (fun x : ((List S124) × (Int × (List Int))) => (fun l : List S124 => l.length ≤ maxLen ∧ ∀ x ∈ l, good124 x) x.1 ∧ (fun x : (Int × (List Int)) => (fun n : Int => (Lit.int .i64 n).wf = true) x.1 ∧ (fun l : List Int => l.length ≤ maxLen ∧ ∀ x ∈ l, (fun n : Int => (Lit.int .i64 n).wf = true) x) x.2) x.2) x.2) x.2) ((x.f0, x.f1, x.f2, (x.f3.f0, x.f3.f1)))
theorem oe134 : Opens Try.prog 134 k134 good134 := Opens.iso (fun x : S134 => (x.f0, x.f1, x.f2, (x.f3.f0, x.f3.f1))) (fun a => (⟨a.1, a.2.1, a.2.2.1, ⟨a.2.2.2.1, a.2.2.2.2⟩⟩ : S134)) (fun _ => rfl) op134
theorem op23 : Opens Try.prog 23 (Kd.slice 134 k134) (fun l : List S134 => l.length ≤ maxLen ∧ ∀ x ∈ l, good134 x) := Opens.slice Try.underlying23 (by kernel_rfl) oe134
theorem op25 : Opens Try.prog 25 (Kd.pair (Kd.slice 140 k140) (Kd.slice 134 k134)) (fun x : ((List S140) × (List S134)) => (fun l : List S140 => l.length ≤ maxLen ∧ ∀ x ∈ l, good140 x) x.1 ∧ (fun l : List S134 => l.length ≤ maxLen ∧ ∀ x ∈ l, good134 x) x.2) := by
  refine Opens.struct Try.underlying25 (by kernel_rfl) ?_
  refine OpensF.cons (good := (fun l : List S140 => l.length ≤ maxLen ∧ ∀ x ∈ l, good140 x)) (good' := (fun l : List S134 => l.length ≤ maxLen ∧ ∀ x ∈ l, good134 x)) rfl (by kernel_rfl) op22 ?_
  exact OpensF.last rfl (by kernel_rfl) op23
end Go.Proofs.Ytmkhghbalnadlaa.fnExactBegin
