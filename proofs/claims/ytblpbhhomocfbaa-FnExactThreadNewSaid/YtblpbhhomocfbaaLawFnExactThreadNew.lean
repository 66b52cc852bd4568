/- The row of the law FnExactThreadNew: for every input that can be read the law answers true, and each argument reads afterwards as it did. The pure statement is in YtblpbhhomocfbaaPureFnExactThreadNew. No condition. -/
import Derived.Test.YtblpbhhomocfbaaRows
import Derived.Test.YtblpbhhomocfbaaPureFnExactThreadNew
import Derived.WalkKit
import Derived.ProofKit
import Derived.OpenShut
import Derived.ShutString
import Derived.ChangeOld
import Derived.Below
import Derived.Carry
import Derived.SizedLaws
namespace Go.Proofs.Ytblpbhhomocfbaa.fnExactThreadNew
open Go.ChangeShapes Go.WideShapes Go.ChangeAt Go.RowKit Go.Proofs.Ytblpbhhomocfbaa.Op Go.Proofs.YtblpbhhomocfbaaW.PrintWords Go.Proofs.Ytblpbhhomocfbaa.PFnExactThreadNew
set_option linter.unusedVariables false
set_option linter.unusedSimpArgs false
open Go.ChangeMaps (open_string shut_string)
theorem own : ownKnob Try.prog.godebug = none := by kernel_rfl
theorem laidOut : laidOutB Try.prog = true := by kernel_rfl
set_option maxRecDepth 100000 in
theorem lifted (os : Os) (started : os.Started) (H : Type) (enc : TypeId × Value → H) :
    ReturnsInHanded {} Try.checked os 5 .any (Rows.fnExactThreadNewSpec.pre6 enc Try.prog Try.f5 Rows.fnExactThreadNewRow.domain false) (Rows.fnExactThreadNewSpec.post enc Try.prog Try.f5 false true false false) := by
  refine returnsInHanded_of_change_sized (C := Try.checked) own started (by kernel_rfl) Try.func5
    (ChangeSpec.witness6 (enc := enc) (C := Try.checked) false ⟨#[], #[.slice none 0 0], []⟩ 8 (by kernel_rfl) (by kernel_rfl) (by kernel_rfl) (by kernel_rfl)) ?_
  intro W base args ds gs before hval0 hW hcnd hsz0 _
  have hval : ∀ (j : Nat) t v, Try.f5.params[j]? = some t → args[j]? = some v → Value.okWide Try.prog W .any base t v := hval0
  have hW' := hW
  obtain ⟨p, q, hA0, hV, rfl, hfz, hnd⟩ := hW
  have hA : DataW.TrodAll enc Try.prog W 0 (fun _ => true) true Try.f5.params.toList args.toList ds p := hA0
  rw [Try.params5] at hA hval
  obtain ⟨v0, vs0, d0, ds0, p0, q0, hargs, rfl, rfl, h0, r0⟩ := trodAll_cons hA
  obtain ⟨rfl, rfl, rfl⟩ := trodAll_nil r0
  obtain rfl : args = #[v0] := by cases args; simp_all
  obtain ⟨rfl, rfl⟩ := trodVars_none hV
  have hlt0 : ∀ x ∈ p0, x.block < W.heap.size := fun x hx => by simpa using hW'.lt x (by simp [hx])
  obtain ⟨b0, n0, cc0, rfl⟩ := okWide_slice Try.underlying30 (hval 0 30 v0 rfl rfl)
  obtain ⟨l0, ⟨A0, c0, e0, hc0, hr0⟩, gl0⟩ := op30.at h0
  obtain ⟨rfl, rfl, rfl⟩ : A0 = b0 ∧ l0.length = n0 ∧ c0 = cc0 := by have e := e0; simp [Value.cells] at e; exact ⟨e.1.symm, e.2.1.symm, e.2.2.symm⟩
  obtain ⟨k, hP⟩ := Pure.FnExactThreadNew l0 gl0
  refine (laws_FnExactThreadNew.calls k A0 c0 l0 true W hr0 hc0 hP).mono fun e W' hpost => ?_
  obtain ⟨rfl, bel0⟩ := hpost
  have bel : Below W.heap.size W W' := bel0
  exact ⟨_, rfl, _, _, _, [], _, [], hW', trodAll_mk1 (shut_bool Try.underlying4 _), (trodAll_cons_mk (Below.trod laidOut (by kernel_rfl) (of_decide_eq_true (by kernel_rfl)) h0 bel hlt0) trodAll_mk0), rfl, bel.frame _, fun h => by cases h⟩
theorem over : Rows.fnExactThreadNewRow.holds Try.pinned (OpenSpec.ofChange Rows.fnExactThreadNewSpec) :=
  OpenClaim.holds_of_wide 5 Try.f5 rfl rfl rfl rfl rfl rfl rfl ⟨rfl, rfl, rfl, rfl, rfl⟩ rfl rfl rfl rfl rfl (by kernel_rfl) Try.func5 (by kernel_rfl)
    (of_decide_eq_true (by kernel_rfl)) (by unfold Func.isWrapper; first | (rw [if_pos (by decide +kernel)]; kernel_rfl) | (rw [if_neg (by decide +kernel)]; exact ⟨rfl, rfl⟩))
    (fun os started H enc _ => lifted os started H enc)
end Go.Proofs.Ytblpbhhomocfbaa.fnExactThreadNew
namespace Go.Proofs.Ytblpbhhomocfbaa
/-- The row, under a short name, for the claim. -/
theorem fnExactThreadNew_holds : Rows.FnExactThreadNewSaid := fnExactThreadNew.over
end Go.Proofs.Ytblpbhhomocfbaa
