/- The pure statement behind the law FnExactWordOk: over plain values. No condition beyond that numbers are of their kind and lengths below 2^63. -/
import Derived.Test.YtfncapgfhemmnaaOpnFnExactWordOk
namespace Go.Proofs.Ytfncapgfhemmnaa.Pure
open Go.RowKit Go.Proofs.Ytfncapgfhemmnaa.Op Go.Proofs.YtfncapgfhemmnaaW.PrintWords Go.Proofs.YtfncapgfhemmnaaW.PrintLast Go.Proofs.Ytfncapgfhemmnaa.PFnExactWordOk Go.Proofs.Ytfncapgfhemmnaa.fnExactWordOk

-- PACKS
set_option linter.unusedVariables false
set_option linter.unusedSimpArgs false
theorem Ev_const {α : Type} {g : Nat → Option α} {r : α} (h : ∀ k, g k = some r) : Ev g r := ⟨0, fun k _ => h k⟩
theorem Ev_at {α : Type} {g : Nat → Option α} {r : α} (n : Nat) (h : ∀ k, g (k + n) = some r) : Ev g r := ⟨n, fun k hk => by
  obtain ⟨m, rfl⟩ : ∃ m, k = m + n := ⟨k - n, by omega⟩
  exact h m⟩
def inR (x lo hi : Int) : Bool := decide (lo ≤ x) && decide (x ≤ hi)
def keyOk (k : Int) : Bool := inR k 0 3
def valOk (v : Int) : Bool := inR v 1 6
def isClass (c : Int) : Bool := inR c 0 2
def classOf (v : Int) : Int := if valOk v then Int.tmod v 3 else -1
theorem spec_l1In_eq (x lo hi : Int) : spec_l1In.f x lo hi = some (inR x lo hi) := by
  unfold spec_l1In.f inR
  by_cases h : lo ≤ x <;> simp [h]
theorem impl_from_eq (x lo hi : Int) : impl_from.f x lo hi = some (inR x lo hi) := by
  unfold impl_from.f inR
  by_cases h : lo ≤ x <;> simp [h]
def wordOk (n t s th : Int) : Bool := if t = 0 then inR n 0 1000 && s == 0 else n == 0 && inR t 1 th && inR s 1 1000000
theorem spec_WordOk_eq (n t s th : Int) : spec_WordOk.f n t s th = some (wordOk n t s th) := by
  unfold spec_WordOk.f wordOk
  simp only [spec_l1In_eq, Option.bind_some]
  by_cases h1 : t = 0 <;> by_cases h2 : s = 0 <;> by_cases h3 : n = 0 <;> cases h4 : inR t 1 th <;> simp [h1, h2, h3, h4]
theorem impl_WordOk_eq (n t s th : Int) : impl_WordOk.f n t s th = some (wordOk n t s th) := by
  unfold impl_WordOk.f wordOk
  simp only [impl_isWordNum.f, impl_from_eq, Option.bind_some]
  by_cases h1 : t = 0 <;> by_cases h2 : n = 0 <;> cases h3 : inR n 0 1000 <;> cases h4 : inR t 1 th <;> simp_all

theorem FnExactWordOk (a0_0 : Int) (a0_1 : Int) (a0_2 : Int) (a1 : Int) (ga0_0 : (fun n : Int => (Lit.int .i64 n).wf = true) a0_0) (ga0_1 : (fun n : Int => (Lit.int .i64 n).wf = true) a0_1) (ga0_2 : (fun n : Int => (Lit.int .i64 n).wf = true) a0_2) (ga1 : (fun n : Int => (Lit.int .i64 n).wf = true) a1) : laws_FnExactWordOk.f a0_0 a0_1 a0_2 a1 = some true := by
  unfold laws_FnExactWordOk.f
  simp [laws_toWord.f, spec_WordOk_eq, impl_WordOk_eq]

end Go.Proofs.Ytfncapgfhemmnaa.Pure
