/- The pure statement behind the law FnExactOpOk: over plain values. No condition beyond that numbers are of their kind and lengths below 2^63. -/
import Derived.Test.YtfncapgfhemmnaaOpnFnExactOpOk
namespace Go.Proofs.Ytfncapgfhemmnaa.Pure
open Go.RowKit Go.Proofs.Ytfncapgfhemmnaa.Op Go.Proofs.YtfncapgfhemmnaaW.PrintWords Go.Proofs.YtfncapgfhemmnaaW.PrintLast Go.Proofs.Ytfncapgfhemmnaa.PFnExactOpOk Go.Proofs.Ytfncapgfhemmnaa.fnExactOpOk

-- PACKS
set_option linter.unusedVariables false
set_option linter.unusedSimpArgs false
theorem Ev_const {α : Type} {g : Nat → Option α} {r : α} (h : ∀ k, g k = some r) : Ev g r := ⟨0, fun k _ => h k⟩
theorem Ev_at {α : Type} {g : Nat → Option α} {r : α} (n : Nat) (h : ∀ k, g (k + n) = some r) : Ev g r := ⟨n, fun k hk => by
  obtain ⟨m, rfl⟩ : ∃ m, k = m + n := ⟨k - n, by omega⟩
  exact h m⟩
def inR (x lo hi : Int) : Bool := decide (lo ≤ x) && decide (x ≤ hi)
def keyOk (k : Int) : Bool := inR k 0 3
def valOk (v : Int) : Bool := inR v 1 6
def isClass (c : Int) : Bool := inR c 0 2
def classOf (v : Int) : Int := if valOk v then Int.tmod v 3 else -1
theorem spec_l1In_eq (x lo hi : Int) : spec_l1In.f x lo hi = some (inR x lo hi) := by
  unfold spec_l1In.f inR
  by_cases h : lo ≤ x <;> simp [h]
theorem impl_from_eq (x lo hi : Int) : impl_from.f x lo hi = some (inR x lo hi) := by
  unfold impl_from.f inR
  by_cases h : lo ≤ x <;> simp [h]
theorem spec_KeyOk_eq (x : Int) : spec_KeyOk.f x = some (keyOk x) := by simp [spec_KeyOk.f, spec_l1In_eq, keyOk]
theorem impl_KeyOk_eq (x : Int) : impl_KeyOk.f x = some (keyOk x) := by simp [impl_KeyOk.f, impl_from_eq, keyOk]
theorem spec_ValOk_eq (x : Int) : spec_ValOk.f x = some (valOk x) := by simp [spec_ValOk.f, spec_l1In_eq, valOk]
theorem impl_ValOk_eq (x : Int) : impl_ValOk.f x = some (valOk x) := by simp [impl_ValOk.f, impl_from_eq, valOk]
def opOk (o k v : Int) : Bool :=
  if o = 1 ∨ o = 2 then keyOk k && valOk v
  else if o = 3 ∨ o = 4 then keyOk k && v == 0
  else if o = 5 ∨ o = 10 then k == 0 && valOk v
  else if o = 6 then isClass k && v == 0
  else if o = 7 ∨ o = 8 ∨ o = 9 then k == 0 && v == 0
  else false
theorem impl_isClass_eq (x : Int) : impl_isClass.f x = some (isClass x) := by simp [impl_isClass.f, impl_from_eq, isClass]
theorem spec_l4Key_eq (x : Int) : spec_l4Key.f x = some (inR x 1 4) := by simp [spec_l4Key.f, spec_l1In_eq]
theorem op_cases (o : Int) : o = 1 ∨ o = 2 ∨ o = 3 ∨ o = 4 ∨ o = 5 ∨ o = 6 ∨ o = 7 ∨ o = 8 ∨ o = 9 ∨ o = 10 ∨ (o < 1 ∨ 10 < o) := by omega
theorem spec_l4Val_eq (o : Int) : spec_l4Val.f o = some (o == 1 || o == 2 || o == 5 || o == 10) := by
  unfold spec_l4Val.f
  by_cases h1 : o = 1 <;> by_cases h2 : o = 2 <;> by_cases h3 : o = 5 <;> simp [h1, h2, h3]
theorem bsel (a b : Bool) (x : Bool) : (if a = true then (if b = true then some x else some false) else some false) = some (a && b && x) := by cases a <;> cases b <;> rfl
theorem bsel2 (a : Bool) (x : Bool) : (if a = true then some x else some false) = some (a && x) := by cases a <;> rfl
theorem spec_OpOk_eq (o k v : Int) (n : Nat) : spec_OpOk.f (n + 2) o k v = some (opOk o k v) := by
  simp only [spec_OpOk.f, spec_OpOk.j0, spec_OpOk.j1, spec_l1In_eq, spec_l4Key_eq, spec_KeyOk_eq, spec_ValOk_eq, spec_l4Val_eq, Option.bind_some, bsel2, opOk, isClass]
  rcases op_cases o with h | h | h | h | h | h | h | h | h | h | h
  case inr.inr.inr.inr.inr.inr.inr.inr.inr.inr =>
    have e : inR o 1 10 = false := by simp [inR]; omega
    rw [e, if_neg (by simp), if_neg (by omega), if_neg (by omega), if_neg (by omega), if_neg (by omega), if_neg (by omega)]
  all_goals
    subst h
    simp [inR]
theorem impl_OpOk_eq (o k v : Int) (n : Nat) : impl_OpOk.f (n + 3) o k v = some (opOk o k v) := by
  simp only [impl_OpOk.f, impl_OpOk.j0, impl_OpOk.j1, impl_OpOk.j2, impl_from_eq, impl_KeyOk_eq, impl_ValOk_eq, impl_isClass_eq, Option.bind_some, bsel2, opOk]
  rcases op_cases o with h | h | h | h | h | h | h | h | h | h | h
  case inr.inr.inr.inr.inr.inr.inr.inr.inr.inr =>
    have e1 : o ≠ 1 := by omega
    have e2 : o ≠ 2 := by omega
    have e3 : o ≠ 3 := by omega
    have e4 : o ≠ 4 := by omega
    have e5 : o ≠ 5 := by omega
    have e6 : o ≠ 6 := by omega
    have e7 : o ≠ 7 := by omega
    have e8 : o ≠ 8 := by omega
    have e9 : o ≠ 9 := by omega
    have e10 : o ≠ 10 := by omega
    simp [e1, e2, e3, e4, e5, e6, e7, e8, e9, e10]
  all_goals
    subst h
    by_cases h3 : k = 0 <;> simp [h3]

theorem FnExactOpOk (a0_0 : Int) (a0_1 : Int) (a0_2 : Int) (ga0_0 : (fun n : Int => (Lit.int .i64 n).wf = true) a0_0) (ga0_1 : (fun n : Int => (Lit.int .i64 n).wf = true) a0_1) (ga0_2 : (fun n : Int => (Lit.int .i64 n).wf = true) a0_2) : ∃ k, laws_FnExactOpOk.f k a0_0 a0_1 a0_2 = some true := by
  refine ⟨3, ?_⟩
  unfold laws_FnExactOpOk.f
  simp only [laws_toOp.f, Option.bind_some]
  rw [spec_OpOk_eq _ _ _ 1, impl_OpOk_eq _ _ _ 0]
  simp

end Go.Proofs.Ytfncapgfhemmnaa.Pure
