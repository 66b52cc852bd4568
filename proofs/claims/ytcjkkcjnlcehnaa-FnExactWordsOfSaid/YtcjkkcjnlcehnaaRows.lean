/-
  No cell of these rows narrows 'for every input' (looked for: loops, veiled, ifaces, maps, wideKeys, modest, calm, conditions, laid).
  DERIVED. THE GIVEN ROWS OF THIS SEAT. 12 by the template 'for every input the law returns true; each argument reads behind the call as it read before'; 0 by the template 'total and deterministic' (their statements: YtcjkkcjnlcehnaaTotals.lean).
  GIVEN WITH THE SEED: the statements are not yours to turn. If you find one false, say at which input.
  Laid BY PROGRAM, IN A SANDBOX (cutbox-rows.mjs): the forced cells as the released guide's own fill.sh prints them over the translation 5825d7a7dc4e2b1d… (all of the seat's roots in one cut). By AI agents, Wed Nov 11 2026. No macro, syntax, notation, axiom, sorry.
-/
import Derived.Test.YtcjkkcjnlcehnaaChecked
import GoSem.Claim
import GoSem.ClaimJoined
import GoSem.ClaimMapViews
import Derived.JoinedTies
import Derived.KernelRfl
namespace Go.Proofs.Ytcjkkcjnlcehnaa
/- THE CELL 'sum', in the pinned program and in every row, IS THE sha256 OF THE DUMP (.gsa) THAT YtcjkkcjnlcehnaaProg.lean LOADS. Nothing in Lean hashes anything: it is a label: what it is worth is what the hold of that sum in a sandbox is worth. -/
noncomputable def Try.pinned : Pinned := { name := "ytcjkkcjnlcehnaa", sum := "5825d7a7dc4e2b1d70e55bcd74cee37b1452046a15417b0831191fab668798d7", checked := Try.checked }
namespace Rows
def none {H : Type} : Left H := { results := [], args := [] }

/-- 'laws.FnExactRowsNew': WHATEVER THE INPUT: true; the input reads as it did. -/
def fnExactRowsNewSpec : ChangeSpec := { name := "fnExactRowsNew", fn := fun _ => fun
  | [] => { results := [.lit (.bool true)], args := [] }
  | _ => none }
def fnExactRowsNewRow : OpenClaim := { program := "ytcjkkcjnlcehnaa", sum := "5825d7a7dc4e2b1d70e55bcd74cee37b1452046a15417b0831191fab668798d7", func := "loop.example/g00468/laws.FnExactRowsNew", spec := "fnExactRowsNew", apart := false }
def FnExactRowsNewSaid : Prop := fnExactRowsNewRow.holds Try.pinned (OpenSpec.ofChange fnExactRowsNewSpec)

/-- ITS FALSE NEIGHBOUR: 'it returns false'. Refute it at one input. -/
def fnExactRowsNewWrong : ChangeSpec := { name := "fnExactRowsNew", fn := fun _ => fun
  | [] => { results := [.lit (.bool false)], args := [] }
  | _ => none }
def FnExactRowsNewWrongFalsely : Prop := fnExactRowsNewRow.holds Try.pinned (OpenSpec.ofChange fnExactRowsNewWrong)

/-- 'laws.FnExactRead': WHATEVER THE INPUT: true; the input reads as it did. -/
def fnExactReadSpec : ChangeSpec := { name := "fnExactRead", fn := fun _ => fun
  | [d1, d2] => { results := [.lit (.bool true)], args := [d1, d2] }
  | _ => none }
def fnExactReadRow : OpenClaim := { program := "ytcjkkcjnlcehnaa", sum := "5825d7a7dc4e2b1d70e55bcd74cee37b1452046a15417b0831191fab668798d7", func := "loop.example/g00468/laws.FnExactRead", spec := "fnExactRead", apart := false }
def FnExactReadSaid : Prop := fnExactReadRow.holds Try.pinned (OpenSpec.ofChange fnExactReadSpec)

/-- ITS FALSE NEIGHBOUR: 'it returns false'. Refute it at one input. -/
def fnExactReadWrong : ChangeSpec := { name := "fnExactRead", fn := fun _ => fun
  | [d1, d2] => { results := [.lit (.bool false)], args := [d1, d2] }
  | _ => none }
def FnExactReadWrongFalsely : Prop := fnExactReadRow.holds Try.pinned (OpenSpec.ofChange fnExactReadWrong)

/-- 'laws.FnExactKeyOf': WHATEVER THE INPUT: true; the input reads as it did. -/
def fnExactKeyOfSpec : ChangeSpec := { name := "fnExactKeyOf", fn := fun _ => fun
  | [d1, d2] => { results := [.lit (.bool true)], args := [d1, d2] }
  | _ => none }
def fnExactKeyOfRow : OpenClaim := { program := "ytcjkkcjnlcehnaa", sum := "5825d7a7dc4e2b1d70e55bcd74cee37b1452046a15417b0831191fab668798d7", func := "loop.example/g00468/laws.FnExactKeyOf", spec := "fnExactKeyOf", apart := false }
def FnExactKeyOfSaid : Prop := fnExactKeyOfRow.holds Try.pinned (OpenSpec.ofChange fnExactKeyOfSpec)

/-- ITS FALSE NEIGHBOUR: 'it returns false'. Refute it at one input. -/
def fnExactKeyOfWrong : ChangeSpec := { name := "fnExactKeyOf", fn := fun _ => fun
  | [d1, d2] => { results := [.lit (.bool false)], args := [d1, d2] }
  | _ => none }
def FnExactKeyOfWrongFalsely : Prop := fnExactKeyOfRow.holds Try.pinned (OpenSpec.ofChange fnExactKeyOfWrong)

/-- 'laws.FnExactResSame': WHATEVER THE INPUT: true; the input reads as it did. -/
def fnExactResSameSpec : ChangeSpec := { name := "fnExactResSame", fn := fun _ => fun
  | [d1, d2] => { results := [.lit (.bool true)], args := [d1, d2] }
  | _ => none }
def fnExactResSameRow : OpenClaim := { program := "ytcjkkcjnlcehnaa", sum := "5825d7a7dc4e2b1d70e55bcd74cee37b1452046a15417b0831191fab668798d7", func := "loop.example/g00468/laws.FnExactResSame", spec := "fnExactResSame", apart := false }
def FnExactResSameSaid : Prop := fnExactResSameRow.holds Try.pinned (OpenSpec.ofChange fnExactResSameSpec)

/-- ITS FALSE NEIGHBOUR: 'it returns false'. Refute it at one input. -/
def fnExactResSameWrong : ChangeSpec := { name := "fnExactResSame", fn := fun _ => fun
  | [d1, d2] => { results := [.lit (.bool false)], args := [d1, d2] }
  | _ => none }
def FnExactResSameWrongFalsely : Prop := fnExactResSameRow.holds Try.pinned (OpenSpec.ofChange fnExactResSameWrong)

/-- 'laws.FnExactHowMany': WHATEVER THE INPUT: true; the input reads as it did. -/
def fnExactHowManySpec : ChangeSpec := { name := "fnExactHowMany", fn := fun _ => fun
  | [d1, d2] => { results := [.lit (.bool true)], args := [d1, d2] }
  | _ => none }
def fnExactHowManyRow : OpenClaim := { program := "ytcjkkcjnlcehnaa", sum := "5825d7a7dc4e2b1d70e55bcd74cee37b1452046a15417b0831191fab668798d7", func := "loop.example/g00468/laws.FnExactHowMany", spec := "fnExactHowMany", apart := false }
def FnExactHowManySaid : Prop := fnExactHowManyRow.holds Try.pinned (OpenSpec.ofChange fnExactHowManySpec)

/-- ITS FALSE NEIGHBOUR: 'it returns false'. Refute it at one input. -/
def fnExactHowManyWrong : ChangeSpec := { name := "fnExactHowMany", fn := fun _ => fun
  | [d1, d2] => { results := [.lit (.bool false)], args := [d1, d2] }
  | _ => none }
def FnExactHowManyWrongFalsely : Prop := fnExactHowManyRow.holds Try.pinned (OpenSpec.ofChange fnExactHowManyWrong)

/-- 'laws.FnExactRowsOk': WHATEVER THE INPUT: true; the input reads as it did. -/
def fnExactRowsOkSpec : ChangeSpec := { name := "fnExactRowsOk", fn := fun _ => fun
  | [d] => { results := [.lit (.bool true)], args := [d] }
  | _ => none }
def fnExactRowsOkRow : OpenClaim := { program := "ytcjkkcjnlcehnaa", sum := "5825d7a7dc4e2b1d70e55bcd74cee37b1452046a15417b0831191fab668798d7", func := "loop.example/g00468/laws.FnExactRowsOk", spec := "fnExactRowsOk", apart := false }
def FnExactRowsOkSaid : Prop := fnExactRowsOkRow.holds Try.pinned (OpenSpec.ofChange fnExactRowsOkSpec)

/-- ITS FALSE NEIGHBOUR: 'it returns false'. Refute it at one input. -/
def fnExactRowsOkWrong : ChangeSpec := { name := "fnExactRowsOk", fn := fun _ => fun
  | [d] => { results := [.lit (.bool false)], args := [d] }
  | _ => none }
def FnExactRowsOkWrongFalsely : Prop := fnExactRowsOkRow.holds Try.pinned (OpenSpec.ofChange fnExactRowsOkWrong)

/-- 'laws.FnPlaces': WHATEVER THE INPUT: true; the input reads as it did. -/
def fnPlacesSpec : ChangeSpec := { name := "fnPlaces", fn := fun _ => fun
  | [d] => { results := [.lit (.bool true)], args := [d] }
  | _ => none }
def fnPlacesRow : OpenClaim := { program := "ytcjkkcjnlcehnaa", sum := "5825d7a7dc4e2b1d70e55bcd74cee37b1452046a15417b0831191fab668798d7", func := "loop.example/g00468/laws.FnPlaces", spec := "fnPlaces", apart := false }
def FnPlacesSaid : Prop := fnPlacesRow.holds Try.pinned (OpenSpec.ofChange fnPlacesSpec)

/-- ITS FALSE NEIGHBOUR: 'it returns false'. Refute it at one input. -/
def fnPlacesWrong : ChangeSpec := { name := "fnPlaces", fn := fun _ => fun
  | [d] => { results := [.lit (.bool false)], args := [d] }
  | _ => none }
def FnPlacesWrongFalsely : Prop := fnPlacesRow.holds Try.pinned (OpenSpec.ofChange fnPlacesWrong)

/-- 'laws.FnExactEntries': WHATEVER THE INPUT: true; the input reads as it did. -/
def fnExactEntriesSpec : ChangeSpec := { name := "fnExactEntries", fn := fun _ => fun
  | [d1, d2] => { results := [.lit (.bool true)], args := [d1, d2] }
  | _ => none }
def fnExactEntriesRow : OpenClaim := { program := "ytcjkkcjnlcehnaa", sum := "5825d7a7dc4e2b1d70e55bcd74cee37b1452046a15417b0831191fab668798d7", func := "loop.example/g00468/laws.FnExactEntries", spec := "fnExactEntries", apart := false }
def FnExactEntriesSaid : Prop := fnExactEntriesRow.holds Try.pinned (OpenSpec.ofChange fnExactEntriesSpec)

/-- ITS FALSE NEIGHBOUR: 'it returns false'. Refute it at one input. -/
def fnExactEntriesWrong : ChangeSpec := { name := "fnExactEntries", fn := fun _ => fun
  | [d1, d2] => { results := [.lit (.bool false)], args := [d1, d2] }
  | _ => none }
def FnExactEntriesWrongFalsely : Prop := fnExactEntriesRow.holds Try.pinned (OpenSpec.ofChange fnExactEntriesWrong)

/-- 'laws.FnExactDescOk': WHATEVER THE INPUT: true; the input reads as it did. -/
def fnExactDescOkSpec : ChangeSpec := { name := "fnExactDescOk", fn := fun _ => fun
  | [d] => { results := [.lit (.bool true)], args := [d] }
  | _ => none }
def fnExactDescOkRow : OpenClaim := { program := "ytcjkkcjnlcehnaa", sum := "5825d7a7dc4e2b1d70e55bcd74cee37b1452046a15417b0831191fab668798d7", func := "loop.example/g00468/laws.FnExactDescOk", spec := "fnExactDescOk", apart := false }
def FnExactDescOkSaid : Prop := fnExactDescOkRow.holds Try.pinned (OpenSpec.ofChange fnExactDescOkSpec)

/-- ITS FALSE NEIGHBOUR: 'it returns false'. Refute it at one input. -/
def fnExactDescOkWrong : ChangeSpec := { name := "fnExactDescOk", fn := fun _ => fun
  | [d] => { results := [.lit (.bool false)], args := [d] }
  | _ => none }
def FnExactDescOkWrongFalsely : Prop := fnExactDescOkRow.holds Try.pinned (OpenSpec.ofChange fnExactDescOkWrong)

/-- 'laws.FnExactThreadDone': WHATEVER THE INPUT: true; the input reads as it did. -/
def fnExactThreadDoneSpec : ChangeSpec := { name := "fnExactThreadDone", fn := fun _ => fun
  | [d] => { results := [.lit (.bool true)], args := [d] }
  | _ => none }
def fnExactThreadDoneRow : OpenClaim := { program := "ytcjkkcjnlcehnaa", sum := "5825d7a7dc4e2b1d70e55bcd74cee37b1452046a15417b0831191fab668798d7", func := "loop.example/g00468/laws.FnExactThreadDone", spec := "fnExactThreadDone", apart := false }
def FnExactThreadDoneSaid : Prop := fnExactThreadDoneRow.holds Try.pinned (OpenSpec.ofChange fnExactThreadDoneSpec)

/-- ITS FALSE NEIGHBOUR: 'it returns false'. Refute it at one input. -/
def fnExactThreadDoneWrong : ChangeSpec := { name := "fnExactThreadDone", fn := fun _ => fun
  | [d] => { results := [.lit (.bool false)], args := [d] }
  | _ => none }
def FnExactThreadDoneWrongFalsely : Prop := fnExactThreadDoneRow.holds Try.pinned (OpenSpec.ofChange fnExactThreadDoneWrong)

/-- 'laws.FnExactTop': WHATEVER THE INPUT: true; the input reads as it did. -/
def fnExactTopSpec : ChangeSpec := { name := "fnExactTop", fn := fun _ => fun
  | [d] => { results := [.lit (.bool true)], args := [d] }
  | _ => none }
def fnExactTopRow : OpenClaim := { program := "ytcjkkcjnlcehnaa", sum := "5825d7a7dc4e2b1d70e55bcd74cee37b1452046a15417b0831191fab668798d7", func := "loop.example/g00468/laws.FnExactTop", spec := "fnExactTop", apart := false }
def FnExactTopSaid : Prop := fnExactTopRow.holds Try.pinned (OpenSpec.ofChange fnExactTopSpec)

/-- ITS FALSE NEIGHBOUR: 'it returns false'. Refute it at one input. -/
def fnExactTopWrong : ChangeSpec := { name := "fnExactTop", fn := fun _ => fun
  | [d] => { results := [.lit (.bool false)], args := [d] }
  | _ => none }
def FnExactTopWrongFalsely : Prop := fnExactTopRow.holds Try.pinned (OpenSpec.ofChange fnExactTopWrong)

/-- 'laws.FnExactWordsOf': WHATEVER THE INPUT: true; the input reads as it did. -/
def fnExactWordsOfSpec : ChangeSpec := { name := "fnExactWordsOf", fn := fun _ => fun
  | [d] => { results := [.lit (.bool true)], args := [d] }
  | _ => none }
def fnExactWordsOfRow : OpenClaim := { program := "ytcjkkcjnlcehnaa", sum := "5825d7a7dc4e2b1d70e55bcd74cee37b1452046a15417b0831191fab668798d7", func := "loop.example/g00468/laws.FnExactWordsOf", spec := "fnExactWordsOf", apart := false }
def FnExactWordsOfSaid : Prop := fnExactWordsOfRow.holds Try.pinned (OpenSpec.ofChange fnExactWordsOfSpec)

/-- ITS FALSE NEIGHBOUR: 'it returns false'. Refute it at one input. -/
def fnExactWordsOfWrong : ChangeSpec := { name := "fnExactWordsOf", fn := fun _ => fun
  | [d] => { results := [.lit (.bool false)], args := [d] }
  | _ => none }
def FnExactWordsOfWrongFalsely : Prop := fnExactWordsOfRow.holds Try.pinned (OpenSpec.ofChange fnExactWordsOfWrong)

/- THE SECOND FORM. 'bulk': how many values and letters a reading holds, each counted each time it is reached (what is shared counts as often as it is met; a slice's spare places count too). A statement '..UptoSaid' is the law's where the arguments, and the package variables that the reading takes, are together of bulk at most 1048576: NARROWER than '..Said'. Prove '..Said' where nothing that the law and all that it calls make is longer than what came in: it says more and counts as full. Else prove '..UptoSaid'. A law counts once. -/
mutual
def uptoBulk {H : Type} : DataW H → Nat
  | .lit (.string bytes) => bytes.length + 1
  | .lit _ => 1
  | .nil => 1
  | .ptr d => uptoBulk d + 1
  | .slice elems spare => uptoBulkAll elems + uptoBulkAll spare + 1
  | .agg parts => uptoBulkAll parts + 1
  | .iface _ d => uptoBulk d + 1
  | .map entries => uptoBulkEntries entries + 1
  | .held _ => 1
def uptoBulkAll {H : Type} : List (DataW H) → Nat
  | [] => 0
  | d :: r => uptoBulk d + uptoBulkAll r
def uptoBulkEntries {H : Type} : List (Lit × DataW H) → Nat
  | [] => 0
  | x :: r => uptoBulkEntry x + uptoBulkEntries r
def uptoBulkEntry {H : Type} : Lit × DataW H → Nat
  | (.string bytes, d) => bytes.length + uptoBulk d + 1
  | (_, d) => uptoBulk d + 1
 end
def uptoSmall : (H : Type) → List (DataW H) → Bool := fun _ ds => decide (uptoBulkAll ds ≤ 1048576)
def OpenSpec.upto (s : _root_.Go.ChangeSpec) : _root_.Go.OpenSpec := { _root_.Go.OpenSpec.ofChange s with cond := some uptoSmall }

/-- 'laws.FnExactRowsNew', WHERE WHAT IT READS IS OF BULK AT MOST 1048576: true; the input reads as it did. -/
def fnExactRowsNewUptoRow : OpenClaim := { program := "ytcjkkcjnlcehnaa", sum := "5825d7a7dc4e2b1d70e55bcd74cee37b1452046a15417b0831191fab668798d7", func := "loop.example/g00468/laws.FnExactRowsNew", spec := "fnExactRowsNew", apart := false, narrowed := true }
def FnExactRowsNewUptoSaid : Prop := fnExactRowsNewUptoRow.holds Try.pinned (OpenSpec.upto fnExactRowsNewSpec)

/-- 'laws.FnExactRead', WHERE WHAT IT READS IS OF BULK AT MOST 1048576: true; the input reads as it did. -/
def fnExactReadUptoRow : OpenClaim := { program := "ytcjkkcjnlcehnaa", sum := "5825d7a7dc4e2b1d70e55bcd74cee37b1452046a15417b0831191fab668798d7", func := "loop.example/g00468/laws.FnExactRead", spec := "fnExactRead", apart := false, narrowed := true }
def FnExactReadUptoSaid : Prop := fnExactReadUptoRow.holds Try.pinned (OpenSpec.upto fnExactReadSpec)

/-- 'laws.FnExactKeyOf', WHERE WHAT IT READS IS OF BULK AT MOST 1048576: true; the input reads as it did. -/
def fnExactKeyOfUptoRow : OpenClaim := { program := "ytcjkkcjnlcehnaa", sum := "5825d7a7dc4e2b1d70e55bcd74cee37b1452046a15417b0831191fab668798d7", func := "loop.example/g00468/laws.FnExactKeyOf", spec := "fnExactKeyOf", apart := false, narrowed := true }
def FnExactKeyOfUptoSaid : Prop := fnExactKeyOfUptoRow.holds Try.pinned (OpenSpec.upto fnExactKeyOfSpec)

/-- 'laws.FnExactResSame', WHERE WHAT IT READS IS OF BULK AT MOST 1048576: true; the input reads as it did. -/
def fnExactResSameUptoRow : OpenClaim := { program := "ytcjkkcjnlcehnaa", sum := "5825d7a7dc4e2b1d70e55bcd74cee37b1452046a15417b0831191fab668798d7", func := "loop.example/g00468/laws.FnExactResSame", spec := "fnExactResSame", apart := false, narrowed := true }
def FnExactResSameUptoSaid : Prop := fnExactResSameUptoRow.holds Try.pinned (OpenSpec.upto fnExactResSameSpec)

/-- 'laws.FnExactHowMany', WHERE WHAT IT READS IS OF BULK AT MOST 1048576: true; the input reads as it did. -/
def fnExactHowManyUptoRow : OpenClaim := { program := "ytcjkkcjnlcehnaa", sum := "5825d7a7dc4e2b1d70e55bcd74cee37b1452046a15417b0831191fab668798d7", func := "loop.example/g00468/laws.FnExactHowMany", spec := "fnExactHowMany", apart := false, narrowed := true }
def FnExactHowManyUptoSaid : Prop := fnExactHowManyUptoRow.holds Try.pinned (OpenSpec.upto fnExactHowManySpec)

/-- 'laws.FnExactRowsOk', WHERE WHAT IT READS IS OF BULK AT MOST 1048576: true; the input reads as it did. -/
def fnExactRowsOkUptoRow : OpenClaim := { program := "ytcjkkcjnlcehnaa", sum := "5825d7a7dc4e2b1d70e55bcd74cee37b1452046a15417b0831191fab668798d7", func := "loop.example/g00468/laws.FnExactRowsOk", spec := "fnExactRowsOk", apart := false, narrowed := true }
def FnExactRowsOkUptoSaid : Prop := fnExactRowsOkUptoRow.holds Try.pinned (OpenSpec.upto fnExactRowsOkSpec)

/-- 'laws.FnPlaces', WHERE WHAT IT READS IS OF BULK AT MOST 1048576: true; the input reads as it did. -/
def fnPlacesUptoRow : OpenClaim := { program := "ytcjkkcjnlcehnaa", sum := "5825d7a7dc4e2b1d70e55bcd74cee37b1452046a15417b0831191fab668798d7", func := "loop.example/g00468/laws.FnPlaces", spec := "fnPlaces", apart := false, narrowed := true }
def FnPlacesUptoSaid : Prop := fnPlacesUptoRow.holds Try.pinned (OpenSpec.upto fnPlacesSpec)

/-- 'laws.FnExactEntries', WHERE WHAT IT READS IS OF BULK AT MOST 1048576: true; the input reads as it did. -/
def fnExactEntriesUptoRow : OpenClaim := { program := "ytcjkkcjnlcehnaa", sum := "5825d7a7dc4e2b1d70e55bcd74cee37b1452046a15417b0831191fab668798d7", func := "loop.example/g00468/laws.FnExactEntries", spec := "fnExactEntries", apart := false, narrowed := true }
def FnExactEntriesUptoSaid : Prop := fnExactEntriesUptoRow.holds Try.pinned (OpenSpec.upto fnExactEntriesSpec)

/-- 'laws.FnExactDescOk', WHERE WHAT IT READS IS OF BULK AT MOST 1048576: true; the input reads as it did. -/
def fnExactDescOkUptoRow : OpenClaim := { program := "ytcjkkcjnlcehnaa", sum := "5825d7a7dc4e2b1d70e55bcd74cee37b1452046a15417b0831191fab668798d7", func := "loop.example/g00468/laws.FnExactDescOk", spec := "fnExactDescOk", apart := false, narrowed := true }
def FnExactDescOkUptoSaid : Prop := fnExactDescOkUptoRow.holds Try.pinned (OpenSpec.upto fnExactDescOkSpec)

/-- 'laws.FnExactThreadDone', WHERE WHAT IT READS IS OF BULK AT MOST 1048576: true; the input reads as it did. -/
def fnExactThreadDoneUptoRow : OpenClaim := { program := "ytcjkkcjnlcehnaa", sum := "5825d7a7dc4e2b1d70e55bcd74cee37b1452046a15417b0831191fab668798d7", func := "loop.example/g00468/laws.FnExactThreadDone", spec := "fnExactThreadDone", apart := false, narrowed := true }
def FnExactThreadDoneUptoSaid : Prop := fnExactThreadDoneUptoRow.holds Try.pinned (OpenSpec.upto fnExactThreadDoneSpec)

/-- 'laws.FnExactTop', WHERE WHAT IT READS IS OF BULK AT MOST 1048576: true; the input reads as it did. -/
def fnExactTopUptoRow : OpenClaim := { program := "ytcjkkcjnlcehnaa", sum := "5825d7a7dc4e2b1d70e55bcd74cee37b1452046a15417b0831191fab668798d7", func := "loop.example/g00468/laws.FnExactTop", spec := "fnExactTop", apart := false, narrowed := true }
def FnExactTopUptoSaid : Prop := fnExactTopUptoRow.holds Try.pinned (OpenSpec.upto fnExactTopSpec)

/-- 'laws.FnExactWordsOf', WHERE WHAT IT READS IS OF BULK AT MOST 1048576: true; the input reads as it did. -/
def fnExactWordsOfUptoRow : OpenClaim := { program := "ytcjkkcjnlcehnaa", sum := "5825d7a7dc4e2b1d70e55bcd74cee37b1452046a15417b0831191fab668798d7", func := "loop.example/g00468/laws.FnExactWordsOf", spec := "fnExactWordsOf", apart := false, narrowed := true }
def FnExactWordsOfUptoSaid : Prop := fnExactWordsOfUptoRow.holds Try.pinned (OpenSpec.upto fnExactWordsOfSpec)

end Rows
end Go.Proofs.Ytcjkkcjnlcehnaa
