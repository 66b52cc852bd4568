/-
  No cell of these rows narrows 'for every input' (looked for: loops, veiled, ifaces, maps, wideKeys, modest, calm, conditions, laid).
  DERIVED. THE GIVEN ROWS OF THIS SEAT. 12 by the template 'for every input the law returns true; each argument reads behind the call as it read before'; 0 by the template 'total and deterministic' (their statements: YtfncapgfhemmnaaTotals.lean).
  GIVEN WITH THE SEED: the statements are not yours to turn. If you find one false, say at which input.
  Laid BY PROGRAM, IN A SANDBOX (cutbox-rows.mjs): the forced cells as the released guide's own fill.sh prints them over the translation 9ef6c2e3d0bb8473… (all of the seat's roots in one cut). By AI agents, Wed Nov 11 2026. No macro, syntax, notation, axiom, sorry.
-/
import Derived.Test.YtfncapgfhemmnaaChecked
import GoSem.Claim
import GoSem.ClaimJoined
import GoSem.ClaimMapViews
import Derived.JoinedTies
import Derived.KernelRfl
namespace Go.Proofs.Ytfncapgfhemmnaa
/- THE CELL 'sum', in the pinned program and in every row, IS THE sha256 OF THE DUMP (.gsa) THAT YtfncapgfhemmnaaProg.lean LOADS. Nothing in Lean hashes anything: it is a label: what it is worth is what the hold of that sum in a sandbox is worth. -/
noncomputable def Try.pinned : Pinned := { name := "ytfncapgfhemmnaa", sum := "9ef6c2e3d0bb8473924147fc34d2677fbf4876dd60e57eb0ea2597e06ac700ab", checked := Try.checked }
namespace Rows
def none {H : Type} : Left H := { results := [], args := [] }

/-- 'laws.FnExactConstants': WHATEVER THE INPUT: true; the input reads as it did. -/
def fnExactConstantsSpec : ChangeSpec := { name := "fnExactConstants", fn := fun _ => fun
  | [] => { results := [.lit (.bool true)], args := [] }
  | _ => none }
def fnExactConstantsRow : OpenClaim := { program := "ytfncapgfhemmnaa", sum := "9ef6c2e3d0bb8473924147fc34d2677fbf4876dd60e57eb0ea2597e06ac700ab", func := "loop.example/g00468/laws.FnExactConstants", spec := "fnExactConstants", apart := false }
def FnExactConstantsSaid : Prop := fnExactConstantsRow.holds Try.pinned (OpenSpec.ofChange fnExactConstantsSpec)

/-- ITS FALSE NEIGHBOUR: 'it returns false'. Refute it at one input. -/
def fnExactConstantsWrong : ChangeSpec := { name := "fnExactConstants", fn := fun _ => fun
  | [] => { results := [.lit (.bool false)], args := [] }
  | _ => none }
def FnExactConstantsWrongFalsely : Prop := fnExactConstantsRow.holds Try.pinned (OpenSpec.ofChange fnExactConstantsWrong)

/-- 'laws.FnExactStateAt': WHATEVER THE INPUT: true; the input reads as it did. -/
def fnExactStateAtSpec : ChangeSpec := { name := "fnExactStateAt", fn := fun _ => fun
  | [] => { results := [.lit (.bool true)], args := [] }
  | _ => none }
def fnExactStateAtRow : OpenClaim := { program := "ytfncapgfhemmnaa", sum := "9ef6c2e3d0bb8473924147fc34d2677fbf4876dd60e57eb0ea2597e06ac700ab", func := "loop.example/g00468/laws.FnExactStateAt", spec := "fnExactStateAt", apart := false }
def FnExactStateAtSaid : Prop := fnExactStateAtRow.holds Try.pinned (OpenSpec.ofChange fnExactStateAtSpec)

/-- ITS FALSE NEIGHBOUR: 'it returns false'. Refute it at one input. -/
def fnExactStateAtWrong : ChangeSpec := { name := "fnExactStateAt", fn := fun _ => fun
  | [] => { results := [.lit (.bool false)], args := [] }
  | _ => none }
def FnExactStateAtWrongFalsely : Prop := fnExactStateAtRow.holds Try.pinned (OpenSpec.ofChange fnExactStateAtWrong)

/-- 'laws.FnExactKeyOk': WHATEVER THE INPUT: true; the input reads as it did. -/
def fnExactKeyOkSpec : ChangeSpec := { name := "fnExactKeyOk", fn := fun _ => fun
  | [d] => { results := [.lit (.bool true)], args := [d] }
  | _ => none }
def fnExactKeyOkRow : OpenClaim := { program := "ytfncapgfhemmnaa", sum := "9ef6c2e3d0bb8473924147fc34d2677fbf4876dd60e57eb0ea2597e06ac700ab", func := "loop.example/g00468/laws.FnExactKeyOk", spec := "fnExactKeyOk", apart := false }
def FnExactKeyOkSaid : Prop := fnExactKeyOkRow.holds Try.pinned (OpenSpec.ofChange fnExactKeyOkSpec)

/-- ITS FALSE NEIGHBOUR: 'it returns false'. Refute it at one input. -/
def fnExactKeyOkWrong : ChangeSpec := { name := "fnExactKeyOk", fn := fun _ => fun
  | [d] => { results := [.lit (.bool false)], args := [d] }
  | _ => none }
def FnExactKeyOkWrongFalsely : Prop := fnExactKeyOkRow.holds Try.pinned (OpenSpec.ofChange fnExactKeyOkWrong)

/-- 'laws.FnExactValOk': WHATEVER THE INPUT: true; the input reads as it did. -/
def fnExactValOkSpec : ChangeSpec := { name := "fnExactValOk", fn := fun _ => fun
  | [d] => { results := [.lit (.bool true)], args := [d] }
  | _ => none }
def fnExactValOkRow : OpenClaim := { program := "ytfncapgfhemmnaa", sum := "9ef6c2e3d0bb8473924147fc34d2677fbf4876dd60e57eb0ea2597e06ac700ab", func := "loop.example/g00468/laws.FnExactValOk", spec := "fnExactValOk", apart := false }
def FnExactValOkSaid : Prop := fnExactValOkRow.holds Try.pinned (OpenSpec.ofChange fnExactValOkSpec)

/-- ITS FALSE NEIGHBOUR: 'it returns false'. Refute it at one input. -/
def fnExactValOkWrong : ChangeSpec := { name := "fnExactValOk", fn := fun _ => fun
  | [d] => { results := [.lit (.bool false)], args := [d] }
  | _ => none }
def FnExactValOkWrongFalsely : Prop := fnExactValOkRow.holds Try.pinned (OpenSpec.ofChange fnExactValOkWrong)

/-- 'laws.FnExactClassOf': WHATEVER THE INPUT: true; the input reads as it did. -/
def fnExactClassOfSpec : ChangeSpec := { name := "fnExactClassOf", fn := fun _ => fun
  | [d] => { results := [.lit (.bool true)], args := [d] }
  | _ => none }
def fnExactClassOfRow : OpenClaim := { program := "ytfncapgfhemmnaa", sum := "9ef6c2e3d0bb8473924147fc34d2677fbf4876dd60e57eb0ea2597e06ac700ab", func := "loop.example/g00468/laws.FnExactClassOf", spec := "fnExactClassOf", apart := false }
def FnExactClassOfSaid : Prop := fnExactClassOfRow.holds Try.pinned (OpenSpec.ofChange fnExactClassOfSpec)

/-- ITS FALSE NEIGHBOUR: 'it returns false'. Refute it at one input. -/
def fnExactClassOfWrong : ChangeSpec := { name := "fnExactClassOf", fn := fun _ => fun
  | [d] => { results := [.lit (.bool false)], args := [d] }
  | _ => none }
def FnExactClassOfWrongFalsely : Prop := fnExactClassOfRow.holds Try.pinned (OpenSpec.ofChange fnExactClassOfWrong)

/-- 'laws.FnExactCountAt': WHATEVER THE INPUT: true; the input reads as it did. -/
def fnExactCountAtSpec : ChangeSpec := { name := "fnExactCountAt", fn := fun _ => fun
  | [d] => { results := [.lit (.bool true)], args := [d] }
  | _ => none }
def fnExactCountAtRow : OpenClaim := { program := "ytfncapgfhemmnaa", sum := "9ef6c2e3d0bb8473924147fc34d2677fbf4876dd60e57eb0ea2597e06ac700ab", func := "loop.example/g00468/laws.FnExactCountAt", spec := "fnExactCountAt", apart := false }
def FnExactCountAtSaid : Prop := fnExactCountAtRow.holds Try.pinned (OpenSpec.ofChange fnExactCountAtSpec)

/-- ITS FALSE NEIGHBOUR: 'it returns false'. Refute it at one input. -/
def fnExactCountAtWrong : ChangeSpec := { name := "fnExactCountAt", fn := fun _ => fun
  | [d] => { results := [.lit (.bool false)], args := [d] }
  | _ => none }
def FnExactCountAtWrongFalsely : Prop := fnExactCountAtRow.holds Try.pinned (OpenSpec.ofChange fnExactCountAtWrong)

/-- 'laws.FnExactOwnerAt': WHATEVER THE INPUT: true; the input reads as it did. -/
def fnExactOwnerAtSpec : ChangeSpec := { name := "fnExactOwnerAt", fn := fun _ => fun
  | [d] => { results := [.lit (.bool true)], args := [d] }
  | _ => none }
def fnExactOwnerAtRow : OpenClaim := { program := "ytfncapgfhemmnaa", sum := "9ef6c2e3d0bb8473924147fc34d2677fbf4876dd60e57eb0ea2597e06ac700ab", func := "loop.example/g00468/laws.FnExactOwnerAt", spec := "fnExactOwnerAt", apart := false }
def FnExactOwnerAtSaid : Prop := fnExactOwnerAtRow.holds Try.pinned (OpenSpec.ofChange fnExactOwnerAtSpec)

/-- ITS FALSE NEIGHBOUR: 'it returns false'. Refute it at one input. -/
def fnExactOwnerAtWrong : ChangeSpec := { name := "fnExactOwnerAt", fn := fun _ => fun
  | [d] => { results := [.lit (.bool false)], args := [d] }
  | _ => none }
def FnExactOwnerAtWrongFalsely : Prop := fnExactOwnerAtRow.holds Try.pinned (OpenSpec.ofChange fnExactOwnerAtWrong)

/-- 'laws.FnExactRowAt': WHATEVER THE INPUT: true; the input reads as it did. -/
def fnExactRowAtSpec : ChangeSpec := { name := "fnExactRowAt", fn := fun _ => fun
  | [d] => { results := [.lit (.bool true)], args := [d] }
  | _ => none }
def fnExactRowAtRow : OpenClaim := { program := "ytfncapgfhemmnaa", sum := "9ef6c2e3d0bb8473924147fc34d2677fbf4876dd60e57eb0ea2597e06ac700ab", func := "loop.example/g00468/laws.FnExactRowAt", spec := "fnExactRowAt", apart := false }
def FnExactRowAtSaid : Prop := fnExactRowAtRow.holds Try.pinned (OpenSpec.ofChange fnExactRowAtSpec)

/-- ITS FALSE NEIGHBOUR: 'it returns false'. Refute it at one input. -/
def fnExactRowAtWrong : ChangeSpec := { name := "fnExactRowAt", fn := fun _ => fun
  | [d] => { results := [.lit (.bool false)], args := [d] }
  | _ => none }
def FnExactRowAtWrongFalsely : Prop := fnExactRowAtRow.holds Try.pinned (OpenSpec.ofChange fnExactRowAtWrong)

/-- 'laws.FnExactViaAt': WHATEVER THE INPUT: true; the input reads as it did. -/
def fnExactViaAtSpec : ChangeSpec := { name := "fnExactViaAt", fn := fun _ => fun
  | [d] => { results := [.lit (.bool true)], args := [d] }
  | _ => none }
def fnExactViaAtRow : OpenClaim := { program := "ytfncapgfhemmnaa", sum := "9ef6c2e3d0bb8473924147fc34d2677fbf4876dd60e57eb0ea2597e06ac700ab", func := "loop.example/g00468/laws.FnExactViaAt", spec := "fnExactViaAt", apart := false }
def FnExactViaAtSaid : Prop := fnExactViaAtRow.holds Try.pinned (OpenSpec.ofChange fnExactViaAtSpec)

/-- ITS FALSE NEIGHBOUR: 'it returns false'. Refute it at one input. -/
def fnExactViaAtWrong : ChangeSpec := { name := "fnExactViaAt", fn := fun _ => fun
  | [d] => { results := [.lit (.bool false)], args := [d] }
  | _ => none }
def FnExactViaAtWrongFalsely : Prop := fnExactViaAtRow.holds Try.pinned (OpenSpec.ofChange fnExactViaAtWrong)

/-- 'laws.FnExactWordOk': WHATEVER THE INPUT: true; the input reads as it did. -/
def fnExactWordOkSpec : ChangeSpec := { name := "fnExactWordOk", fn := fun _ => fun
  | [d1, d2] => { results := [.lit (.bool true)], args := [d1, d2] }
  | _ => none }
def fnExactWordOkRow : OpenClaim := { program := "ytfncapgfhemmnaa", sum := "9ef6c2e3d0bb8473924147fc34d2677fbf4876dd60e57eb0ea2597e06ac700ab", func := "loop.example/g00468/laws.FnExactWordOk", spec := "fnExactWordOk", apart := false }
def FnExactWordOkSaid : Prop := fnExactWordOkRow.holds Try.pinned (OpenSpec.ofChange fnExactWordOkSpec)

/-- ITS FALSE NEIGHBOUR: 'it returns false'. Refute it at one input. -/
def fnExactWordOkWrong : ChangeSpec := { name := "fnExactWordOk", fn := fun _ => fun
  | [d1, d2] => { results := [.lit (.bool false)], args := [d1, d2] }
  | _ => none }
def FnExactWordOkWrongFalsely : Prop := fnExactWordOkRow.holds Try.pinned (OpenSpec.ofChange fnExactWordOkWrong)

/-- 'laws.FnExactDigits': WHATEVER THE INPUT: true; the input reads as it did. -/
def fnExactDigitsSpec : ChangeSpec := { name := "fnExactDigits", fn := fun _ => fun
  | [d] => { results := [.lit (.bool true)], args := [d] }
  | _ => none }
def fnExactDigitsRow : OpenClaim := { program := "ytfncapgfhemmnaa", sum := "9ef6c2e3d0bb8473924147fc34d2677fbf4876dd60e57eb0ea2597e06ac700ab", func := "loop.example/g00468/laws.FnExactDigits", spec := "fnExactDigits", recurses := true, apart := false }
def FnExactDigitsSaid : Prop := fnExactDigitsRow.holds Try.pinned (OpenSpec.ofChange fnExactDigitsSpec)

/-- ITS FALSE NEIGHBOUR: 'it returns false'. Refute it at one input. -/
def fnExactDigitsWrong : ChangeSpec := { name := "fnExactDigits", fn := fun _ => fun
  | [d] => { results := [.lit (.bool false)], args := [d] }
  | _ => none }
def FnExactDigitsWrongFalsely : Prop := fnExactDigitsRow.holds Try.pinned (OpenSpec.ofChange fnExactDigitsWrong)

/-- 'laws.FnExactOpOk': WHATEVER THE INPUT: true; the input reads as it did. -/
def fnExactOpOkSpec : ChangeSpec := { name := "fnExactOpOk", fn := fun _ => fun
  | [d] => { results := [.lit (.bool true)], args := [d] }
  | _ => none }
def fnExactOpOkRow : OpenClaim := { program := "ytfncapgfhemmnaa", sum := "9ef6c2e3d0bb8473924147fc34d2677fbf4876dd60e57eb0ea2597e06ac700ab", func := "loop.example/g00468/laws.FnExactOpOk", spec := "fnExactOpOk", apart := false }
def FnExactOpOkSaid : Prop := fnExactOpOkRow.holds Try.pinned (OpenSpec.ofChange fnExactOpOkSpec)

/-- ITS FALSE NEIGHBOUR: 'it returns false'. Refute it at one input. -/
def fnExactOpOkWrong : ChangeSpec := { name := "fnExactOpOk", fn := fun _ => fun
  | [d] => { results := [.lit (.bool false)], args := [d] }
  | _ => none }
def FnExactOpOkWrongFalsely : Prop := fnExactOpOkRow.holds Try.pinned (OpenSpec.ofChange fnExactOpOkWrong)

/- THE SECOND FORM. 'bulk': how many values and letters a reading holds, each counted each time it is reached (what is shared counts as often as it is met; a slice's spare places count too). A statement '..UptoSaid' is the law's where the arguments, and the package variables that the reading takes, are together of bulk at most 1048576: NARROWER than '..Said'. Prove '..Said' where nothing that the law and all that it calls make is longer than what came in: it says more and counts as full. Else prove '..UptoSaid'. A law counts once. -/
mutual
def uptoBulk {H : Type} : DataW H → Nat
  | .lit (.string bytes) => bytes.length + 1
  | .lit _ => 1
  | .nil => 1
  | .ptr d => uptoBulk d + 1
  | .slice elems spare => uptoBulkAll elems + uptoBulkAll spare + 1
  | .agg parts => uptoBulkAll parts + 1
  | .iface _ d => uptoBulk d + 1
  | .map entries => uptoBulkEntries entries + 1
  | .held _ => 1
def uptoBulkAll {H : Type} : List (DataW H) → Nat
  | [] => 0
  | d :: r => uptoBulk d + uptoBulkAll r
def uptoBulkEntries {H : Type} : List (Lit × DataW H) → Nat
  | [] => 0
  | x :: r => uptoBulkEntry x + uptoBulkEntries r
def uptoBulkEntry {H : Type} : Lit × DataW H → Nat
  | (.string bytes, d) => bytes.length + uptoBulk d + 1
  | (_, d) => uptoBulk d + 1
 end
def uptoSmall : (H : Type) → List (DataW H) → Bool := fun _ ds => decide (uptoBulkAll ds ≤ 1048576)
def OpenSpec.upto (s : _root_.Go.ChangeSpec) : _root_.Go.OpenSpec := { _root_.Go.OpenSpec.ofChange s with cond := some uptoSmall }

/-- 'laws.FnExactConstants', WHERE WHAT IT READS IS OF BULK AT MOST 1048576: true; the input reads as it did. -/
def fnExactConstantsUptoRow : OpenClaim := { program := "ytfncapgfhemmnaa", sum := "9ef6c2e3d0bb8473924147fc34d2677fbf4876dd60e57eb0ea2597e06ac700ab", func := "loop.example/g00468/laws.FnExactConstants", spec := "fnExactConstants", apart := false, narrowed := true }
def FnExactConstantsUptoSaid : Prop := fnExactConstantsUptoRow.holds Try.pinned (OpenSpec.upto fnExactConstantsSpec)

/-- 'laws.FnExactStateAt', WHERE WHAT IT READS IS OF BULK AT MOST 1048576: true; the input reads as it did. -/
def fnExactStateAtUptoRow : OpenClaim := { program := "ytfncapgfhemmnaa", sum := "9ef6c2e3d0bb8473924147fc34d2677fbf4876dd60e57eb0ea2597e06ac700ab", func := "loop.example/g00468/laws.FnExactStateAt", spec := "fnExactStateAt", apart := false, narrowed := true }
def FnExactStateAtUptoSaid : Prop := fnExactStateAtUptoRow.holds Try.pinned (OpenSpec.upto fnExactStateAtSpec)

/-- 'laws.FnExactKeyOk', WHERE WHAT IT READS IS OF BULK AT MOST 1048576: true; the input reads as it did. -/
def fnExactKeyOkUptoRow : OpenClaim := { program := "ytfncapgfhemmnaa", sum := "9ef6c2e3d0bb8473924147fc34d2677fbf4876dd60e57eb0ea2597e06ac700ab", func := "loop.example/g00468/laws.FnExactKeyOk", spec := "fnExactKeyOk", apart := false, narrowed := true }
def FnExactKeyOkUptoSaid : Prop := fnExactKeyOkUptoRow.holds Try.pinned (OpenSpec.upto fnExactKeyOkSpec)

/-- 'laws.FnExactValOk', WHERE WHAT IT READS IS OF BULK AT MOST 1048576: true; the input reads as it did. -/
def fnExactValOkUptoRow : OpenClaim := { program := "ytfncapgfhemmnaa", sum := "9ef6c2e3d0bb8473924147fc34d2677fbf4876dd60e57eb0ea2597e06ac700ab", func := "loop.example/g00468/laws.FnExactValOk", spec := "fnExactValOk", apart := false, narrowed := true }
def FnExactValOkUptoSaid : Prop := fnExactValOkUptoRow.holds Try.pinned (OpenSpec.upto fnExactValOkSpec)

/-- 'laws.FnExactClassOf', WHERE WHAT IT READS IS OF BULK AT MOST 1048576: true; the input reads as it did. -/
def fnExactClassOfUptoRow : OpenClaim := { program := "ytfncapgfhemmnaa", sum := "9ef6c2e3d0bb8473924147fc34d2677fbf4876dd60e57eb0ea2597e06ac700ab", func := "loop.example/g00468/laws.FnExactClassOf", spec := "fnExactClassOf", apart := false, narrowed := true }
def FnExactClassOfUptoSaid : Prop := fnExactClassOfUptoRow.holds Try.pinned (OpenSpec.upto fnExactClassOfSpec)

/-- 'laws.FnExactCountAt', WHERE WHAT IT READS IS OF BULK AT MOST 1048576: true; the input reads as it did. -/
def fnExactCountAtUptoRow : OpenClaim := { program := "ytfncapgfhemmnaa", sum := "9ef6c2e3d0bb8473924147fc34d2677fbf4876dd60e57eb0ea2597e06ac700ab", func := "loop.example/g00468/laws.FnExactCountAt", spec := "fnExactCountAt", apart := false, narrowed := true }
def FnExactCountAtUptoSaid : Prop := fnExactCountAtUptoRow.holds Try.pinned (OpenSpec.upto fnExactCountAtSpec)

/-- 'laws.FnExactOwnerAt', WHERE WHAT IT READS IS OF BULK AT MOST 1048576: true; the input reads as it did. -/
def fnExactOwnerAtUptoRow : OpenClaim := { program := "ytfncapgfhemmnaa", sum := "9ef6c2e3d0bb8473924147fc34d2677fbf4876dd60e57eb0ea2597e06ac700ab", func := "loop.example/g00468/laws.FnExactOwnerAt", spec := "fnExactOwnerAt", apart := false, narrowed := true }
def FnExactOwnerAtUptoSaid : Prop := fnExactOwnerAtUptoRow.holds Try.pinned (OpenSpec.upto fnExactOwnerAtSpec)

/-- 'laws.FnExactRowAt', WHERE WHAT IT READS IS OF BULK AT MOST 1048576: true; the input reads as it did. -/
def fnExactRowAtUptoRow : OpenClaim := { program := "ytfncapgfhemmnaa", sum := "9ef6c2e3d0bb8473924147fc34d2677fbf4876dd60e57eb0ea2597e06ac700ab", func := "loop.example/g00468/laws.FnExactRowAt", spec := "fnExactRowAt", apart := false, narrowed := true }
def FnExactRowAtUptoSaid : Prop := fnExactRowAtUptoRow.holds Try.pinned (OpenSpec.upto fnExactRowAtSpec)

/-- 'laws.FnExactViaAt', WHERE WHAT IT READS IS OF BULK AT MOST 1048576: true; the input reads as it did. -/
def fnExactViaAtUptoRow : OpenClaim := { program := "ytfncapgfhemmnaa", sum := "9ef6c2e3d0bb8473924147fc34d2677fbf4876dd60e57eb0ea2597e06ac700ab", func := "loop.example/g00468/laws.FnExactViaAt", spec := "fnExactViaAt", apart := false, narrowed := true }
def FnExactViaAtUptoSaid : Prop := fnExactViaAtUptoRow.holds Try.pinned (OpenSpec.upto fnExactViaAtSpec)

/-- 'laws.FnExactWordOk', WHERE WHAT IT READS IS OF BULK AT MOST 1048576: true; the input reads as it did. -/
def fnExactWordOkUptoRow : OpenClaim := { program := "ytfncapgfhemmnaa", sum := "9ef6c2e3d0bb8473924147fc34d2677fbf4876dd60e57eb0ea2597e06ac700ab", func := "loop.example/g00468/laws.FnExactWordOk", spec := "fnExactWordOk", apart := false, narrowed := true }
def FnExactWordOkUptoSaid : Prop := fnExactWordOkUptoRow.holds Try.pinned (OpenSpec.upto fnExactWordOkSpec)

/-- 'laws.FnExactDigits', WHERE WHAT IT READS IS OF BULK AT MOST 1048576: true; the input reads as it did. -/
def fnExactDigitsUptoRow : OpenClaim := { program := "ytfncapgfhemmnaa", sum := "9ef6c2e3d0bb8473924147fc34d2677fbf4876dd60e57eb0ea2597e06ac700ab", func := "loop.example/g00468/laws.FnExactDigits", spec := "fnExactDigits", recurses := true, apart := false, narrowed := true }
def FnExactDigitsUptoSaid : Prop := fnExactDigitsUptoRow.holds Try.pinned (OpenSpec.upto fnExactDigitsSpec)

/-- 'laws.FnExactOpOk', WHERE WHAT IT READS IS OF BULK AT MOST 1048576: true; the input reads as it did. -/
def fnExactOpOkUptoRow : OpenClaim := { program := "ytfncapgfhemmnaa", sum := "9ef6c2e3d0bb8473924147fc34d2677fbf4876dd60e57eb0ea2597e06ac700ab", func := "loop.example/g00468/laws.FnExactOpOk", spec := "fnExactOpOk", apart := false, narrowed := true }
def FnExactOpOkUptoSaid : Prop := fnExactOpOkUptoRow.holds Try.pinned (OpenSpec.upto fnExactOpOkSpec)

end Rows
end Go.Proofs.Ytfncapgfhemmnaa
