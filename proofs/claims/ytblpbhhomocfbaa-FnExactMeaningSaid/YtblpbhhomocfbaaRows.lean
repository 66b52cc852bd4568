/-
  No cell of these rows narrows 'for every input' (looked for: loops, veiled, ifaces, maps, wideKeys, modest, calm, conditions, laid).
  DERIVED. THE GIVEN ROWS OF THIS SEAT. 11 by the template 'for every input the law returns true; each argument reads behind the call as it read before'; 0 by the template 'total and deterministic' (their statements: YtblpbhhomocfbaaTotals.lean).
  GIVEN WITH THE SEED: the statements are not yours to turn. If you find one false, say at which input.
  Laid BY PROGRAM, IN A SANDBOX (cutbox-rows.mjs): the forced cells as the released guide's own fill.sh prints them over the translation 5ca697b014342359… (all of the seat's roots in one cut). By AI agents, Wed Nov 11 2026. No macro, syntax, notation, axiom, sorry.
-/
import Derived.Test.YtblpbhhomocfbaaChecked
import GoSem.Claim
import GoSem.ClaimJoined
import GoSem.ClaimMapViews
import Derived.JoinedTies
import Derived.KernelRfl
namespace Go.Proofs.Ytblpbhhomocfbaa
/- THE CELL 'sum', in the pinned program and in every row, IS THE sha256 OF THE DUMP (.gsa) THAT YtblpbhhomocfbaaProg.lean LOADS. Nothing in Lean hashes anything: it is a label: what it is worth is what the hold of that sum in a sandbox is worth. -/
noncomputable def Try.pinned : Pinned := { name := "ytblpbhhomocfbaa", sum := "5ca697b0143423593d3dcc30670a8c9d639a616b06757a0fdaa06053b9f5fc19", checked := Try.checked }
namespace Rows
def none {H : Type} : Left H := { results := [], args := [] }

/-- 'laws.FnExactNumber': WHATEVER THE INPUT: true; the input reads as it did. -/
def fnExactNumberSpec : ChangeSpec := { name := "fnExactNumber", fn := fun _ => fun
  | [d] => { results := [.lit (.bool true)], args := [d] }
  | _ => none }
def fnExactNumberRow : OpenClaim := { program := "ytblpbhhomocfbaa", sum := "5ca697b0143423593d3dcc30670a8c9d639a616b06757a0fdaa06053b9f5fc19", func := "loop.example/g00468/laws.FnExactNumber", spec := "fnExactNumber", recurses := true, apart := false }
def FnExactNumberSaid : Prop := fnExactNumberRow.holds Try.pinned (OpenSpec.ofChange fnExactNumberSpec)

/-- ITS FALSE NEIGHBOUR: 'it returns false'. Refute it at one input. -/
def fnExactNumberWrong : ChangeSpec := { name := "fnExactNumber", fn := fun _ => fun
  | [d] => { results := [.lit (.bool false)], args := [d] }
  | _ => none }
def FnExactNumberWrongFalsely : Prop := fnExactNumberRow.holds Try.pinned (OpenSpec.ofChange fnExactNumberWrong)

/-- 'laws.FnExactNumsText': WHATEVER THE INPUT: true; the input reads as it did. -/
def fnExactNumsTextSpec : ChangeSpec := { name := "fnExactNumsText", fn := fun _ => fun
  | [d] => { results := [.lit (.bool true)], args := [d] }
  | _ => none }
def fnExactNumsTextRow : OpenClaim := { program := "ytblpbhhomocfbaa", sum := "5ca697b0143423593d3dcc30670a8c9d639a616b06757a0fdaa06053b9f5fc19", func := "loop.example/g00468/laws.FnExactNumsText", spec := "fnExactNumsText", inPlace := ["internal/abi.NoEscape", "internal/bytealg.MakeNoZero"], recurses := true, apart := false }
def FnExactNumsTextSaid : Prop := fnExactNumsTextRow.holds Try.pinned (OpenSpec.ofChange fnExactNumsTextSpec)

/-- ITS FALSE NEIGHBOUR: 'it returns false'. Refute it at one input. -/
def fnExactNumsTextWrong : ChangeSpec := { name := "fnExactNumsText", fn := fun _ => fun
  | [d] => { results := [.lit (.bool false)], args := [d] }
  | _ => none }
def FnExactNumsTextWrongFalsely : Prop := fnExactNumsTextRow.holds Try.pinned (OpenSpec.ofChange fnExactNumsTextWrong)

/-- 'laws.FnExactThreadNew': WHATEVER THE INPUT: true; the input reads as it did. -/
def fnExactThreadNewSpec : ChangeSpec := { name := "fnExactThreadNew", fn := fun _ => fun
  | [d] => { results := [.lit (.bool true)], args := [d] }
  | _ => none }
def fnExactThreadNewRow : OpenClaim := { program := "ytblpbhhomocfbaa", sum := "5ca697b0143423593d3dcc30670a8c9d639a616b06757a0fdaa06053b9f5fc19", func := "loop.example/g00468/laws.FnExactThreadNew", spec := "fnExactThreadNew", apart := false }
def FnExactThreadNewSaid : Prop := fnExactThreadNewRow.holds Try.pinned (OpenSpec.ofChange fnExactThreadNewSpec)

/-- ITS FALSE NEIGHBOUR: 'it returns false'. Refute it at one input. -/
def fnExactThreadNewWrong : ChangeSpec := { name := "fnExactThreadNew", fn := fun _ => fun
  | [d] => { results := [.lit (.bool false)], args := [d] }
  | _ => none }
def FnExactThreadNewWrongFalsely : Prop := fnExactThreadNewRow.holds Try.pinned (OpenSpec.ofChange fnExactThreadNewWrong)

/-- 'laws.FnExactValueAt': WHATEVER THE INPUT: true; the input reads as it did. -/
def fnExactValueAtSpec : ChangeSpec := { name := "fnExactValueAt", fn := fun _ => fun
  | [d1, d2, d3] => { results := [.lit (.bool true)], args := [d1, d2, d3] }
  | _ => none }
def fnExactValueAtRow : OpenClaim := { program := "ytblpbhhomocfbaa", sum := "5ca697b0143423593d3dcc30670a8c9d639a616b06757a0fdaa06053b9f5fc19", func := "loop.example/g00468/laws.FnExactValueAt", spec := "fnExactValueAt", apart := false }
def FnExactValueAtSaid : Prop := fnExactValueAtRow.holds Try.pinned (OpenSpec.ofChange fnExactValueAtSpec)

/-- ITS FALSE NEIGHBOUR: 'it returns false'. Refute it at one input. -/
def fnExactValueAtWrong : ChangeSpec := { name := "fnExactValueAt", fn := fun _ => fun
  | [d1, d2, d3] => { results := [.lit (.bool false)], args := [d1, d2, d3] }
  | _ => none }
def FnExactValueAtWrongFalsely : Prop := fnExactValueAtRow.holds Try.pinned (OpenSpec.ofChange fnExactValueAtWrong)

/-- 'laws.FnExactThreadOk': WHATEVER THE INPUT: true; the input reads as it did. -/
def fnExactThreadOkSpec : ChangeSpec := { name := "fnExactThreadOk", fn := fun _ => fun
  | [d1, d2] => { results := [.lit (.bool true)], args := [d1, d2] }
  | _ => none }
def fnExactThreadOkRow : OpenClaim := { program := "ytblpbhhomocfbaa", sum := "5ca697b0143423593d3dcc30670a8c9d639a616b06757a0fdaa06053b9f5fc19", func := "loop.example/g00468/laws.FnExactThreadOk", spec := "fnExactThreadOk", unfollowed := true, recurses := true, apart := false }
def FnExactThreadOkSaid : Prop := fnExactThreadOkRow.holds Try.pinned (OpenSpec.ofChange fnExactThreadOkSpec)

/-- ITS FALSE NEIGHBOUR: 'it returns false'. Refute it at one input. -/
def fnExactThreadOkWrong : ChangeSpec := { name := "fnExactThreadOk", fn := fun _ => fun
  | [d1, d2] => { results := [.lit (.bool false)], args := [d1, d2] }
  | _ => none }
def FnExactThreadOkWrongFalsely : Prop := fnExactThreadOkRow.holds Try.pinned (OpenSpec.ofChange fnExactThreadOkWrong)

/-- 'laws.FnExactPush': WHATEVER THE INPUT: true; the input reads as it did. -/
def fnExactPushSpec : ChangeSpec := { name := "fnExactPush", fn := fun _ => fun
  | [d1, d2] => { results := [.lit (.bool true)], args := [d1, d2] }
  | _ => none }
def fnExactPushRow : OpenClaim := { program := "ytblpbhhomocfbaa", sum := "5ca697b0143423593d3dcc30670a8c9d639a616b06757a0fdaa06053b9f5fc19", func := "loop.example/g00468/laws.FnExactPush", spec := "fnExactPush", apart := false }
def FnExactPushSaid : Prop := fnExactPushRow.holds Try.pinned (OpenSpec.ofChange fnExactPushSpec)

/-- ITS FALSE NEIGHBOUR: 'it returns false'. Refute it at one input. -/
def fnExactPushWrong : ChangeSpec := { name := "fnExactPush", fn := fun _ => fun
  | [d1, d2] => { results := [.lit (.bool false)], args := [d1, d2] }
  | _ => none }
def FnExactPushWrongFalsely : Prop := fnExactPushRow.holds Try.pinned (OpenSpec.ofChange fnExactPushWrong)

/-- 'laws.FnExactPop': WHATEVER THE INPUT: true; the input reads as it did. -/
def fnExactPopSpec : ChangeSpec := { name := "fnExactPop", fn := fun _ => fun
  | [d] => { results := [.lit (.bool true)], args := [d] }
  | _ => none }
def fnExactPopRow : OpenClaim := { program := "ytblpbhhomocfbaa", sum := "5ca697b0143423593d3dcc30670a8c9d639a616b06757a0fdaa06053b9f5fc19", func := "loop.example/g00468/laws.FnExactPop", spec := "fnExactPop", apart := false }
def FnExactPopSaid : Prop := fnExactPopRow.holds Try.pinned (OpenSpec.ofChange fnExactPopSpec)

/-- ITS FALSE NEIGHBOUR: 'it returns false'. Refute it at one input. -/
def fnExactPopWrong : ChangeSpec := { name := "fnExactPop", fn := fun _ => fun
  | [d] => { results := [.lit (.bool false)], args := [d] }
  | _ => none }
def FnExactPopWrongFalsely : Prop := fnExactPopRow.holds Try.pinned (OpenSpec.ofChange fnExactPopWrong)

/-- 'laws.FnExactSwap': WHATEVER THE INPUT: true; the input reads as it did. -/
def fnExactSwapSpec : ChangeSpec := { name := "fnExactSwap", fn := fun _ => fun
  | [d1, d2] => { results := [.lit (.bool true)], args := [d1, d2] }
  | _ => none }
def fnExactSwapRow : OpenClaim := { program := "ytblpbhhomocfbaa", sum := "5ca697b0143423593d3dcc30670a8c9d639a616b06757a0fdaa06053b9f5fc19", func := "loop.example/g00468/laws.FnExactSwap", spec := "fnExactSwap", apart := false }
def FnExactSwapSaid : Prop := fnExactSwapRow.holds Try.pinned (OpenSpec.ofChange fnExactSwapSpec)

/-- ITS FALSE NEIGHBOUR: 'it returns false'. Refute it at one input. -/
def fnExactSwapWrong : ChangeSpec := { name := "fnExactSwap", fn := fun _ => fun
  | [d1, d2] => { results := [.lit (.bool false)], args := [d1, d2] }
  | _ => none }
def FnExactSwapWrongFalsely : Prop := fnExactSwapRow.holds Try.pinned (OpenSpec.ofChange fnExactSwapWrong)

/-- 'laws.FnExactMeaning': WHATEVER THE INPUT: true; the input reads as it did. -/
def fnExactMeaningSpec : ChangeSpec := { name := "fnExactMeaning", fn := fun _ => fun
  | [d1, d2] => { results := [.lit (.bool true)], args := [d1, d2] }
  | _ => none }
def fnExactMeaningRow : OpenClaim := { program := "ytblpbhhomocfbaa", sum := "5ca697b0143423593d3dcc30670a8c9d639a616b06757a0fdaa06053b9f5fc19", func := "loop.example/g00468/laws.FnExactMeaning", spec := "fnExactMeaning", apart := false }
def FnExactMeaningSaid : Prop := fnExactMeaningRow.holds Try.pinned (OpenSpec.ofChange fnExactMeaningSpec)

/-- ITS FALSE NEIGHBOUR: 'it returns false'. Refute it at one input. -/
def fnExactMeaningWrong : ChangeSpec := { name := "fnExactMeaning", fn := fun _ => fun
  | [d1, d2] => { results := [.lit (.bool false)], args := [d1, d2] }
  | _ => none }
def FnExactMeaningWrongFalsely : Prop := fnExactMeaningRow.holds Try.pinned (OpenSpec.ofChange fnExactMeaningWrong)

/-- 'laws.FnExactAllowed': WHATEVER THE INPUT: true; the input reads as it did. -/
def fnExactAllowedSpec : ChangeSpec := { name := "fnExactAllowed", fn := fun _ => fun
  | [d1, d2, d3] => { results := [.lit (.bool true)], args := [d1, d2, d3] }
  | _ => none }
def fnExactAllowedRow : OpenClaim := { program := "ytblpbhhomocfbaa", sum := "5ca697b0143423593d3dcc30670a8c9d639a616b06757a0fdaa06053b9f5fc19", func := "loop.example/g00468/laws.FnExactAllowed", spec := "fnExactAllowed", apart := false }
def FnExactAllowedSaid : Prop := fnExactAllowedRow.holds Try.pinned (OpenSpec.ofChange fnExactAllowedSpec)

/-- ITS FALSE NEIGHBOUR: 'it returns false'. Refute it at one input. -/
def fnExactAllowedWrong : ChangeSpec := { name := "fnExactAllowed", fn := fun _ => fun
  | [d1, d2, d3] => { results := [.lit (.bool false)], args := [d1, d2, d3] }
  | _ => none }
def FnExactAllowedWrongFalsely : Prop := fnExactAllowedRow.holds Try.pinned (OpenSpec.ofChange fnExactAllowedWrong)

/-- 'laws.FnExactMemOk': WHATEVER THE INPUT: true; the input reads as it did. -/
def fnExactMemOkSpec : ChangeSpec := { name := "fnExactMemOk", fn := fun _ => fun
  | [d] => { results := [.lit (.bool true)], args := [d] }
  | _ => none }
def fnExactMemOkRow : OpenClaim := { program := "ytblpbhhomocfbaa", sum := "5ca697b0143423593d3dcc30670a8c9d639a616b06757a0fdaa06053b9f5fc19", func := "loop.example/g00468/laws.FnExactMemOk", spec := "fnExactMemOk", unfollowed := true, recurses := true, apart := false }
def FnExactMemOkSaid : Prop := fnExactMemOkRow.holds Try.pinned (OpenSpec.ofChange fnExactMemOkSpec)

/-- ITS FALSE NEIGHBOUR: 'it returns false'. Refute it at one input. -/
def fnExactMemOkWrong : ChangeSpec := { name := "fnExactMemOk", fn := fun _ => fun
  | [d] => { results := [.lit (.bool false)], args := [d] }
  | _ => none }
def FnExactMemOkWrongFalsely : Prop := fnExactMemOkRow.holds Try.pinned (OpenSpec.ofChange fnExactMemOkWrong)

/- THE SECOND FORM. 'bulk': how many values and letters a reading holds, each counted each time it is reached (what is shared counts as often as it is met; a slice's spare places count too). A statement '..UptoSaid' is the law's where the arguments, and the package variables that the reading takes, are together of bulk at most 1048576: NARROWER than '..Said'. Prove '..Said' where nothing that the law and all that it calls make is longer than what came in: it says more and counts as full. Else prove '..UptoSaid'. A law counts once. -/
mutual
def uptoBulk {H : Type} : DataW H → Nat
  | .lit (.string bytes) => bytes.length + 1
  | .lit _ => 1
  | .nil => 1
  | .ptr d => uptoBulk d + 1
  | .slice elems spare => uptoBulkAll elems + uptoBulkAll spare + 1
  | .agg parts => uptoBulkAll parts + 1
  | .iface _ d => uptoBulk d + 1
  | .map entries => uptoBulkEntries entries + 1
  | .held _ => 1
def uptoBulkAll {H : Type} : List (DataW H) → Nat
  | [] => 0
  | d :: r => uptoBulk d + uptoBulkAll r
def uptoBulkEntries {H : Type} : List (Lit × DataW H) → Nat
  | [] => 0
  | x :: r => uptoBulkEntry x + uptoBulkEntries r
def uptoBulkEntry {H : Type} : Lit × DataW H → Nat
  | (.string bytes, d) => bytes.length + uptoBulk d + 1
  | (_, d) => uptoBulk d + 1
 end
def uptoSmall : (H : Type) → List (DataW H) → Bool := fun _ ds => decide (uptoBulkAll ds ≤ 1048576)
def OpenSpec.upto (s : _root_.Go.ChangeSpec) : _root_.Go.OpenSpec := { _root_.Go.OpenSpec.ofChange s with cond := some uptoSmall }

/-- 'laws.FnExactNumber', WHERE WHAT IT READS IS OF BULK AT MOST 1048576: true; the input reads as it did. -/
def fnExactNumberUptoRow : OpenClaim := { program := "ytblpbhhomocfbaa", sum := "5ca697b0143423593d3dcc30670a8c9d639a616b06757a0fdaa06053b9f5fc19", func := "loop.example/g00468/laws.FnExactNumber", spec := "fnExactNumber", recurses := true, apart := false, narrowed := true }
def FnExactNumberUptoSaid : Prop := fnExactNumberUptoRow.holds Try.pinned (OpenSpec.upto fnExactNumberSpec)

/-- 'laws.FnExactNumsText', WHERE WHAT IT READS IS OF BULK AT MOST 1048576: true; the input reads as it did. -/
def fnExactNumsTextUptoRow : OpenClaim := { program := "ytblpbhhomocfbaa", sum := "5ca697b0143423593d3dcc30670a8c9d639a616b06757a0fdaa06053b9f5fc19", func := "loop.example/g00468/laws.FnExactNumsText", spec := "fnExactNumsText", inPlace := ["internal/abi.NoEscape", "internal/bytealg.MakeNoZero"], recurses := true, apart := false, narrowed := true }
def FnExactNumsTextUptoSaid : Prop := fnExactNumsTextUptoRow.holds Try.pinned (OpenSpec.upto fnExactNumsTextSpec)

/-- 'laws.FnExactThreadNew', WHERE WHAT IT READS IS OF BULK AT MOST 1048576: true; the input reads as it did. -/
def fnExactThreadNewUptoRow : OpenClaim := { program := "ytblpbhhomocfbaa", sum := "5ca697b0143423593d3dcc30670a8c9d639a616b06757a0fdaa06053b9f5fc19", func := "loop.example/g00468/laws.FnExactThreadNew", spec := "fnExactThreadNew", apart := false, narrowed := true }
def FnExactThreadNewUptoSaid : Prop := fnExactThreadNewUptoRow.holds Try.pinned (OpenSpec.upto fnExactThreadNewSpec)

/-- 'laws.FnExactValueAt', WHERE WHAT IT READS IS OF BULK AT MOST 1048576: true; the input reads as it did. -/
def fnExactValueAtUptoRow : OpenClaim := { program := "ytblpbhhomocfbaa", sum := "5ca697b0143423593d3dcc30670a8c9d639a616b06757a0fdaa06053b9f5fc19", func := "loop.example/g00468/laws.FnExactValueAt", spec := "fnExactValueAt", apart := false, narrowed := true }
def FnExactValueAtUptoSaid : Prop := fnExactValueAtUptoRow.holds Try.pinned (OpenSpec.upto fnExactValueAtSpec)

/-- 'laws.FnExactThreadOk', WHERE WHAT IT READS IS OF BULK AT MOST 1048576: true; the input reads as it did. -/
def fnExactThreadOkUptoRow : OpenClaim := { program := "ytblpbhhomocfbaa", sum := "5ca697b0143423593d3dcc30670a8c9d639a616b06757a0fdaa06053b9f5fc19", func := "loop.example/g00468/laws.FnExactThreadOk", spec := "fnExactThreadOk", unfollowed := true, recurses := true, apart := false, narrowed := true }
def FnExactThreadOkUptoSaid : Prop := fnExactThreadOkUptoRow.holds Try.pinned (OpenSpec.upto fnExactThreadOkSpec)

/-- 'laws.FnExactPush', WHERE WHAT IT READS IS OF BULK AT MOST 1048576: true; the input reads as it did. -/
def fnExactPushUptoRow : OpenClaim := { program := "ytblpbhhomocfbaa", sum := "5ca697b0143423593d3dcc30670a8c9d639a616b06757a0fdaa06053b9f5fc19", func := "loop.example/g00468/laws.FnExactPush", spec := "fnExactPush", apart := false, narrowed := true }
def FnExactPushUptoSaid : Prop := fnExactPushUptoRow.holds Try.pinned (OpenSpec.upto fnExactPushSpec)

/-- 'laws.FnExactPop', WHERE WHAT IT READS IS OF BULK AT MOST 1048576: true; the input reads as it did. -/
def fnExactPopUptoRow : OpenClaim := { program := "ytblpbhhomocfbaa", sum := "5ca697b0143423593d3dcc30670a8c9d639a616b06757a0fdaa06053b9f5fc19", func := "loop.example/g00468/laws.FnExactPop", spec := "fnExactPop", apart := false, narrowed := true }
def FnExactPopUptoSaid : Prop := fnExactPopUptoRow.holds Try.pinned (OpenSpec.upto fnExactPopSpec)

/-- 'laws.FnExactSwap', WHERE WHAT IT READS IS OF BULK AT MOST 1048576: true; the input reads as it did. -/
def fnExactSwapUptoRow : OpenClaim := { program := "ytblpbhhomocfbaa", sum := "5ca697b0143423593d3dcc30670a8c9d639a616b06757a0fdaa06053b9f5fc19", func := "loop.example/g00468/laws.FnExactSwap", spec := "fnExactSwap", apart := false, narrowed := true }
def FnExactSwapUptoSaid : Prop := fnExactSwapUptoRow.holds Try.pinned (OpenSpec.upto fnExactSwapSpec)

/-- 'laws.FnExactMeaning', WHERE WHAT IT READS IS OF BULK AT MOST 1048576: true; the input reads as it did. -/
def fnExactMeaningUptoRow : OpenClaim := { program := "ytblpbhhomocfbaa", sum := "5ca697b0143423593d3dcc30670a8c9d639a616b06757a0fdaa06053b9f5fc19", func := "loop.example/g00468/laws.FnExactMeaning", spec := "fnExactMeaning", apart := false, narrowed := true }
def FnExactMeaningUptoSaid : Prop := fnExactMeaningUptoRow.holds Try.pinned (OpenSpec.upto fnExactMeaningSpec)

/-- 'laws.FnExactAllowed', WHERE WHAT IT READS IS OF BULK AT MOST 1048576: true; the input reads as it did. -/
def fnExactAllowedUptoRow : OpenClaim := { program := "ytblpbhhomocfbaa", sum := "5ca697b0143423593d3dcc30670a8c9d639a616b06757a0fdaa06053b9f5fc19", func := "loop.example/g00468/laws.FnExactAllowed", spec := "fnExactAllowed", apart := false, narrowed := true }
def FnExactAllowedUptoSaid : Prop := fnExactAllowedUptoRow.holds Try.pinned (OpenSpec.upto fnExactAllowedSpec)

/-- 'laws.FnExactMemOk', WHERE WHAT IT READS IS OF BULK AT MOST 1048576: true; the input reads as it did. -/
def fnExactMemOkUptoRow : OpenClaim := { program := "ytblpbhhomocfbaa", sum := "5ca697b0143423593d3dcc30670a8c9d639a616b06757a0fdaa06053b9f5fc19", func := "loop.example/g00468/laws.FnExactMemOk", spec := "fnExactMemOk", unfollowed := true, recurses := true, apart := false, narrowed := true }
def FnExactMemOkUptoSaid : Prop := fnExactMemOkUptoRow.holds Try.pinned (OpenSpec.upto fnExactMemOkSpec)

end Rows
end Go.Proofs.Ytblpbhhomocfbaa
