/- The row of the law FnExactAfter: for every input that can be read the law answers true, and each argument reads afterwards as it did. The pure statement is in YtmkhghbalnadlaaPureFnExactAfter. No condition. -/
import Derived.Test.YtmkhghbalnadlaaRows
import Derived.Test.YtmkhghbalnadlaaPureFnExactAfter
import Derived.WalkKit
import Derived.ProofKit
import Derived.OpenShut
import Derived.ShutString
import Derived.ChangeOld
import Derived.Below
import Derived.Carry
import Derived.SizedLaws
namespace Go.Proofs.Ytmkhghbalnadlaa.fnExactAfter
open Go.ChangeShapes Go.WideShapes Go.ChangeAt Go.RowKit Go.Proofs.Ytmkhghbalnadlaa.Op Go.Proofs.YtmkhghbalnadlaaW.PrintWords Go.Proofs.Ytmkhghbalnadlaa.PFnExactAfter
set_option linter.unusedVariables false
set_option linter.unusedSimpArgs false
open Go.ChangeMaps (open_string shut_string)
theorem own : ownKnob Try.prog.godebug = none := by kernel_rfl
theorem laidOut : laidOutB Try.prog = true := by kernel_rfl
set_option maxRecDepth 100000 in
theorem lifted (os : Os) (started : os.Started) (H : Type) (enc : TypeId × Value → H) :
    ReturnsInHanded {} Try.checked os 4 .any (Rows.fnExactAfterSpec.pre6 enc Try.prog Try.f4 Rows.fnExactAfterRow.domain false) (Rows.fnExactAfterSpec.post enc Try.prog Try.f4 false true false false) := by
  refine returnsInHanded_of_change_sized (C := Try.checked) own started (by kernel_rfl) Try.func4
    (ChangeSpec.witness6 (enc := enc) (C := Try.checked) false ⟨#[], #[.agg #[.slice none 0 0, .int .i64 0], .agg #[.int .i64 0, .int .i64 0, .int .i64 0], .agg #[.int .i64 0, .slice none 0 0]], []⟩ 8 (by kernel_rfl) (by kernel_rfl) (by kernel_rfl) (by kernel_rfl)) ?_
  intro W base args ds gs before hval0 hW hcnd hsz0 _
  have hval : ∀ (j : Nat) t v, Try.f4.params[j]? = some t → args[j]? = some v → Value.okWide Try.prog W .any base t v := hval0
  have hW' := hW
  obtain ⟨p, q, hA0, hV, rfl, hfz, hnd⟩ := hW
  have hA : DataW.TrodAll enc Try.prog W 0 (fun _ => true) true Try.f4.params.toList args.toList ds p := hA0
  rw [Try.params4] at hA hval
  obtain ⟨v0, vs0, d0, ds0, p0, q0, hargs, rfl, rfl, h0, r0⟩ := trodAll_cons hA
  obtain ⟨v1, vs1, d1, ds1, p1, q1, rfl, rfl, rfl, h1, r1⟩ := trodAll_cons r0
  obtain ⟨v2, vs2, d2, ds2, p2, q2, rfl, rfl, rfl, h2, r2⟩ := trodAll_cons r1
  obtain ⟨rfl, rfl, rfl⟩ := trodAll_nil r2
  obtain rfl : args = #[v0, v1, v2] := by cases args; simp_all
  obtain ⟨rfl, rfl⟩ := trodVars_none hV
  have hlt0 : ∀ x ∈ p0, x.block < W.heap.size := fun x hx => by simpa using hW'.lt x (by simp [hx])
  have hlt1 : ∀ x ∈ p1, x.block < W.heap.size := fun x hx => by simpa using hW'.lt x (by simp [hx])
  have hlt2 : ∀ x ∈ p2, x.block < W.heap.size := fun x hx => by simpa using hW'.lt x (by simp [hx])
  obtain ⟨z0, rfl, _⟩ := okWide_struct Try.underlying37 (hval 0 37 v0 rfl rfl)
  obtain ⟨⟨l0_0, a0_1⟩, kk0, ⟨gl0_0, ga0_1⟩⟩ := op37.at h0
  obtain ⟨_, _, e0, ⟨A0_0, c0_0, rfl, hc0_0, hr0_0⟩, rfl⟩ := kk0
  obtain rfl : z0 = #[.slice A0_0 l0_0.length c0_0, .int .i64 a0_1] := by cases z0; simpa [Value.cells] using e0
  obtain ⟨z1, rfl, _⟩ := okWide_struct Try.underlying39 (hval 1 39 v1 rfl rfl)
  obtain ⟨⟨a1_0, a1_1, a1_2⟩, kk1, ⟨ga1_0, ga1_1, ga1_2⟩⟩ := op39.at h1
  obtain ⟨_, _, e1, rfl, ⟨_, _, rfl, rfl, rfl⟩⟩ := kk1
  obtain rfl : z1 = #[.int .i64 a1_0, .int .i64 a1_1, .int .i64 a1_2] := by cases z1; simpa [Value.cells] using e1
  obtain ⟨z2, rfl, _⟩ := okWide_struct Try.underlying41 (hval 2 41 v2 rfl rfl)
  obtain ⟨⟨a2_0, l2_1⟩, kk2, ⟨ga2_0, gl2_1⟩⟩ := op41.at h2
  obtain ⟨_, _, e2, rfl, ⟨A2_1, c2_1, rfl, hc2_1, hr2_1⟩⟩ := kk2
  obtain rfl : z2 = #[.int .i64 a2_0, .slice A2_1 l2_1.length c2_1] := by cases z2; simpa [Value.cells] using e2
  obtain ⟨k, hP⟩ := Pure.FnExactAfter l0_0 a0_1 a1_0 a1_1 a1_2 a2_0 l2_1 gl0_0 ga0_1 ga1_0 ga1_1 ga1_2 ga2_0 gl2_1
  refine (laws_FnExactAfter.calls k A0_0 c0_0 l0_0 a0_1 a1_0 a1_1 a1_2 a2_0 A2_1 c2_1 l2_1 true W hr0_0 hc0_0 hr2_1 hc2_1 hP).mono fun e W' hpost => ?_
  obtain ⟨rfl, bel0⟩ := hpost
  have bel : Below W.heap.size W W' := bel0
  exact ⟨_, rfl, _, _, _, [], _, [], hW', trodAll_mk1 (shut_bool Try.underlying4 _), (trodAll_cons_mk (Below.trod laidOut (by kernel_rfl) (of_decide_eq_true (by kernel_rfl)) h0 bel hlt0) (trodAll_cons_mk (Below.trod laidOut (by kernel_rfl) (of_decide_eq_true (by kernel_rfl)) h1 bel hlt1) (trodAll_cons_mk (Below.trod laidOut (by kernel_rfl) (of_decide_eq_true (by kernel_rfl)) h2 bel hlt2) trodAll_mk0))), rfl, bel.frame _, fun h => by cases h⟩
theorem over : Rows.fnExactAfterRow.holds Try.pinned (OpenSpec.ofChange Rows.fnExactAfterSpec) :=
  OpenClaim.holds_of_wide 4 Try.f4 rfl rfl rfl rfl rfl rfl rfl ⟨rfl, rfl, rfl, rfl, rfl⟩ rfl rfl rfl rfl rfl (by kernel_rfl) Try.func4 (by kernel_rfl)
    (of_decide_eq_true (by kernel_rfl)) (by unfold Func.isWrapper; first | (rw [if_pos (by decide +kernel)]; kernel_rfl) | (rw [if_neg (by decide +kernel)]; exact ⟨rfl, rfl⟩))
    (fun os started H enc _ => lifted os started H enc)
end Go.Proofs.Ytmkhghbalnadlaa.fnExactAfter
namespace Go.Proofs.Ytmkhghbalnadlaa
/-- The row, under a short name, for the claim. -/
theorem fnExactAfter_holds : Rows.FnExactAfterSaid := fnExactAfter.over
end Go.Proofs.Ytmkhghbalnadlaa
