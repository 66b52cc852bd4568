/- What the arguments of the law FnExactTop are, opened: plain values in the words of the printed functions. No condition. -/
import Derived.Test.YtcjkkcjnlcehnaaPFnExactTopx4
import Derived.Test.YtcjkkcjnlcehnaaOpens
import Derived.WalkKit
namespace Go.Proofs.Ytcjkkcjnlcehnaa.fnExactTop
open Go.ChangeShapes Go.WideShapes Go.ChangeAt Go.RowKit Go.Proofs.Ytcjkkcjnlcehnaa.Op Go.Proofs.YtcjkkcjnlcehnaaW.PrintWords Go.Proofs.Ytcjkkcjnlcehnaa.PFnExactTop
set_option linter.unusedVariables false
set_option linter.unusedSimpArgs false
theorem op3 : Opens Try.prog 3 (Kd.int .i64) (fun n : Int => (Lit.int .i64 n).wf = true) := Opens.int Try.underlying3
theorem op124 : Opens Try.prog 124 (Kd.pair (Kd.int .i64) (Kd.pair (Kd.int .i64) (Kd.int .i64))) (fun x : (Int × (Int × Int)) => (fun n : Int => (Lit.int .i64 n).wf = true) x.1 ∧ (fun x : (Int × Int) => (fun n : Int => (Lit.int .i64 n).wf = true) x.1 ∧ (fun n : Int => (Lit.int .i64 n).wf = true) x.2) x.2) := by
  refine Opens.struct Try.underlying124 (by kernel_rfl) ?_
  refine OpensF.cons (good := (fun n : Int => (Lit.int .i64 n).wf = true)) (good' := (fun x : (Int × Int) => (fun n : Int => (Lit.int .i64 n).wf = true) x.1 ∧ (fun n : Int => (Lit.int .i64 n).wf = true) x.2)) rfl (by kernel_rfl) op3 ?_
  refine OpensF.cons (good := (fun n : Int => (Lit.int .i64 n).wf = true)) (good' := (fun n : Int => (Lit.int .i64 n).wf = true)) rfl (by kernel_rfl) op3 ?_
  exact OpensF.last rfl (by kernel_rfl) op3
def good124 (x : S124) : Prop := (fun x : (Int × (Int × Int)) => (fun n : Int => (Lit.int .i64 n).wf = true) x.1 ∧ (fun x : (Int × Int) => (fun n : Int => (Lit.int .i64 n).wf = true) x.1 ∧ (fun n : Int => (Lit.int .i64 n).wf = true) x.2) x.2) ((x.f0, x.f1, x.f2))
theorem oe124 : Opens Try.prog 124 k124 good124 := Opens.iso (fun x : S124 => (x.f0, x.f1, x.f2)) (fun a => (⟨a.1, a.2.1, a.2.2⟩ : S124)) (fun _ => rfl) op124
theorem op73 : Opens Try.prog 73 (Kd.slice 124 k124) (fun l : List S124 => l.length ≤ maxLen ∧ ∀ x ∈ l, good124 x) := Opens.slice Try.underlying73 (by kernel_rfl) oe124
theorem op4 : Opens Try.prog 4 Kd.bool (fun _ : Bool => True) := Opens.bool Try.underlying4
theorem op97 : Opens Try.prog 97 (Kd.pair (Kd.int .i64) (Kd.int .i64)) (fun x : (Int × Int) => (fun n : Int => (Lit.int .i64 n).wf = true) x.1 ∧ (fun n : Int => (Lit.int .i64 n).wf = true) x.2) := by
  refine Opens.struct Try.underlying97 (by kernel_rfl) ?_
  refine OpensF.cons (good := (fun n : Int => (Lit.int .i64 n).wf = true)) (good' := (fun n : Int => (Lit.int .i64 n).wf = true)) rfl (by kernel_rfl) op3 ?_
  exact OpensF.last rfl (by kernel_rfl) op3
def good97 (x : S97) : Prop := (fun x : (Int × Int) => (fun n : Int => (Lit.int .i64 n).wf = true) x.1 ∧ (fun n : Int => (Lit.int .i64 n).wf = true) x.2) ((x.f0, x.f1))
theorem oe97 : Opens Try.prog 97 k97 good97 := Opens.iso (fun x : S97 => (x.f0, x.f1)) (fun a => (⟨a.1, a.2⟩ : S97)) (fun _ => rfl) op97
theorem op29 : Opens Try.prog 29 (Kd.slice 97 k97) (fun l : List S97 => l.length ≤ maxLen ∧ ∀ x ∈ l, good97 x) := Opens.slice Try.underlying29 (by kernel_rfl) oe97
theorem op126 : Opens Try.prog 126 (Kd.pair (Kd.int .i64) (Kd.pair (Kd.int .i64) (Kd.pair (Kd.int .i64) (Kd.int .i64)))) (fun x : (Int × (Int × (Int × Int))) => (fun n : Int => (Lit.int .i64 n).wf = true) x.1 ∧ (fun x : (Int × (Int × Int)) => (fun n : Int => (Lit.int .i64 n).wf = true) x.1 ∧ (fun x : (Int × Int) => (fun n : Int => (Lit.int .i64 n).wf = true) x.1 ∧ (fun n : Int => (Lit.int .i64 n).wf = true) x.2) x.2) x.2) := by
  refine Opens.struct Try.underlying126 (by kernel_rfl) ?_
  refine OpensF.cons (good := (fun n : Int => (Lit.int .i64 n).wf = true)) (good' := (fun x : (Int × (Int × Int)) => (fun n : Int => (Lit.int .i64 n).wf = true) x.1 ∧ (fun x : (Int × Int) => (fun n : Int => (Lit.int .i64 n).wf = true) x.1 ∧ (fun n : Int => (Lit.int .i64 n).wf = true) x.2) x.2)) rfl (by kernel_rfl) op3 ?_
  refine OpensF.cons (good := (fun n : Int => (Lit.int .i64 n).wf = true)) (good' := (fun x : (Int × Int) => (fun n : Int => (Lit.int .i64 n).wf = true) x.1 ∧ (fun n : Int => (Lit.int .i64 n).wf = true) x.2)) rfl (by kernel_rfl) op3 ?_
  refine OpensF.cons (good := (fun n : Int => (Lit.int .i64 n).wf = true)) (good' := (fun n : Int => (Lit.int .i64 n).wf = true)) rfl (by kernel_rfl) op3 ?_
  exact OpensF.last rfl (by kernel_rfl) op3
def good126 (x : S126) : Prop := (fun x : (Int × (Int × (Int × Int))) => (fun n : Int => (Lit.int .i64 n).wf = true) x.1 ∧ (fun x : (Int × (Int × Int)) => (fun n : Int => (Lit.int .i64 n).wf = true) x.1 ∧ (fun x : (Int × Int) => (fun n : Int => (Lit.int .i64 n).wf = true) x.1 ∧ (fun n : Int => (Lit.int .i64 n).wf = true) x.2) x.2) x.2) ((x.f0, x.f1, x.f2, x.f3))
theorem oe126 : Opens Try.prog 126 k126 good126 := Opens.iso (fun x : S126 => (x.f0, x.f1, x.f2, x.f3)) (fun a => (⟨a.1, a.2.1, a.2.2.1, a.2.2.2⟩ : S126)) (fun _ => rfl) op126
theorem op74 : Opens Try.prog 74 (Kd.slice 126 k126) (fun l : List S126 => l.length ≤ maxLen ∧ ∀ x ∈ l, good126 x) := Opens.slice Try.underlying74 (by kernel_rfl) oe126
theorem op76 : Opens Try.prog 76 (Kd.pair (Kd.slice 124 k124) (Kd.pair (Kd.int .i64) (Kd.pair Kd.bool (Kd.pair (Kd.slice 97 k97) (Kd.slice 126 k126))))) (fun x : ((List S124) × (Int × (Bool × ((List S97) × (List S126))))) => (fun l : List S124 => l.length ≤ maxLen ∧ ∀ x ∈ l, good124 x) x.1 ∧ (fun x : (Int × (Bool × ((List S97) × (List S126)))) => (fun n : Int => (Lit.int .i64 n).wf = true) x.1 ∧ (fun x : (Bool × ((List S97) × (List S126))) => (fun _ : Bool => True) x.1 ∧ (fun x : ((List S97) × (List S126)) => (fun l : List S97 => l.length ≤ maxLen ∧ ∀ x ∈ l, good97 x) x.1 ∧ (fun l : List S126 => l.length ≤ maxLen ∧ ∀ x ∈ l, good126 x) x.2) x.2) x.2) x.2) := by
  refine Opens.struct Try.underlying76 (by kernel_rfl) ?_
  refine OpensF.cons (good := (fun l : List S124 => l.length ≤ maxLen ∧ ∀ x ∈ l, good124 x)) (good' := (fun x : (Int × (Bool × ((List S97) × (List S126)))) => (fun n : Int => (Lit.int .i64 n).wf = true) x.1 ∧ (fun x : (Bool × ((List S97) × (List S126))) => (fun _ : Bool => True) x.1 ∧ (fun x : ((List S97) × (List S126)) => (fun l : List S97 => l.length ≤ maxLen ∧ ∀ x ∈ l, good97 x) x.1 ∧ (fun l : List S126 => l.length ≤ maxLen ∧ ∀ x ∈ l, good126 x) x.2) x.2) x.2)) rfl (by kernel_rfl) op73 ?_
  refine OpensF.cons (good := (fun n : Int => (Lit.int .i64 n).wf = true)) (good' := (fun x : (Bool × ((List S97) × (List S126))) => (fun _ : Bool => True) x.1 ∧ (fun x : ((List S97) × (List S126)) => (fun l : List S97 => l.length ≤ maxLen ∧ ∀ x ∈ l, good97 x) x.1 ∧ (fun l : List S126 => l.length ≤ maxLen ∧ ∀ x ∈ l, good126 x) x.2) x.2)) rfl (by kernel_rfl) op3 ?_
  refine OpensF.cons (good := (fun _ : Bool => True)) (good' := (fun x : ((List S97) × (List S126)) => (fun l : List S97 => l.length ≤ maxLen ∧ ∀ x ∈ l, good97 x) x.1 ∧ (fun l : List S126 => l.length ≤ maxLen ∧ ∀ x ∈ l, good126 x) x.2)) rfl (by kernel_rfl) op4 ?_
  refine OpensF.cons (good := (fun l : List S97 => l.length ≤ maxLen ∧ ∀ x ∈ l, good97 x)) (good' := (fun l : List S126 => l.length ≤ maxLen ∧ ∀ x ∈ l, good126 x)) rfl (by kernel_rfl) op29 ?_
  exact OpensF.last rfl (by kernel_rfl) op74
end Go.Proofs.Ytcjkkcjnlcehnaa.fnExactTop
