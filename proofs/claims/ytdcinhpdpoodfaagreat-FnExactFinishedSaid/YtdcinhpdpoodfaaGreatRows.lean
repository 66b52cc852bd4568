/-
  No cell of these rows narrows 'for every input' (looked for: loops, veiled, ifaces, maps, wideKeys, modest, calm, conditions, laid).
  DERIVED. THE GIVEN ROWS OF THIS SEAT. 6 by the template 'for every input the law returns true; each argument reads behind the call as it read before'; 0 by the template 'total and deterministic' (their statements: YtdcinhpdpoodfaaGreatTotals.lean).
  GIVEN WITH THE SEED: the statements are not yours to turn. If you find one false, say at which input.
  Laid BY PROGRAM, IN A SANDBOX (cutbox-rows.mjs): the forced cells as the released guide's own fill.sh prints them over the translation 61613422ada81735… (all of the seat's roots in one cut). By AI agents, Wed Nov 11 2026. No macro, syntax, notation, axiom, sorry.
-/
import Derived.Test.YtdcinhpdpoodfaaGreatChecked
import GoSem.Claim
import GoSem.ClaimJoined
import GoSem.ClaimMapViews
import Derived.JoinedTies
import Derived.KernelRfl
namespace Go.Proofs.YtdcinhpdpoodfaaGreat
/- THE CELL 'sum', in the pinned program and in every row, IS THE sha256 OF THE DUMP (.gsa) THAT YtdcinhpdpoodfaaGreatProg.lean LOADS. Nothing in Lean hashes anything: it is a label: what it is worth is what the hold of that sum in a sandbox is worth. -/
noncomputable def Tryz.pinned : Pinned := { name := "ytdcinhpdpoodfaagreat", sum := "61613422ada817356fbcc1fd285bf7ce299705d27bfc17e7bcf11922a4bdda37", checked := Tryz.checked }
namespace Rows
def none {H : Type} : Left H := { results := [], args := [] }

/-- 'laws.FnTwoTries': WHATEVER THE INPUT: true; the input reads as it did. -/
def fnTwoTriesSpec : ChangeSpec := { name := "fnTwoTries", fn := fun _ => fun
  | [d] => { results := [.lit (.bool true)], args := [d] }
  | _ => none }
def fnTwoTriesRow : OpenClaim := { program := "ytdcinhpdpoodfaagreat", sum := "61613422ada817356fbcc1fd285bf7ce299705d27bfc17e7bcf11922a4bdda37", func := "loop.example/g00468/laws.FnTwoTries", spec := "fnTwoTries", unfollowed := true, recurses := true, apart := false }
def FnTwoTriesSaid : Prop := fnTwoTriesRow.holds Tryz.pinned (OpenSpec.ofChange fnTwoTriesSpec)

/-- ITS FALSE NEIGHBOUR: 'it returns false'. Refute it at one input. -/
def fnTwoTriesWrong : ChangeSpec := { name := "fnTwoTries", fn := fun _ => fun
  | [d] => { results := [.lit (.bool false)], args := [d] }
  | _ => none }
def FnTwoTriesWrongFalsely : Prop := fnTwoTriesRow.holds Tryz.pinned (OpenSpec.ofChange fnTwoTriesWrong)

/-- 'laws.FnAssists': WHATEVER THE INPUT: true; the input reads as it did. -/
def fnAssistsSpec : ChangeSpec := { name := "fnAssists", fn := fun _ => fun
  | [d] => { results := [.lit (.bool true)], args := [d] }
  | _ => none }
def fnAssistsRow : OpenClaim := { program := "ytdcinhpdpoodfaagreat", sum := "61613422ada817356fbcc1fd285bf7ce299705d27bfc17e7bcf11922a4bdda37", func := "loop.example/g00468/laws.FnAssists", spec := "fnAssists", unfollowed := true, recurses := true, apart := false }
def FnAssistsSaid : Prop := fnAssistsRow.holds Tryz.pinned (OpenSpec.ofChange fnAssistsSpec)

/-- ITS FALSE NEIGHBOUR: 'it returns false'. Refute it at one input. -/
def fnAssistsWrong : ChangeSpec := { name := "fnAssists", fn := fun _ => fun
  | [d] => { results := [.lit (.bool false)], args := [d] }
  | _ => none }
def FnAssistsWrongFalsely : Prop := fnAssistsRow.holds Tryz.pinned (OpenSpec.ofChange fnAssistsWrong)

/-- 'laws.FnTries': WHATEVER THE INPUT: true; the input reads as it did. -/
def fnTriesSpec : ChangeSpec := { name := "fnTries", fn := fun _ => fun
  | [d] => { results := [.lit (.bool true)], args := [d] }
  | _ => none }
def fnTriesRow : OpenClaim := { program := "ytdcinhpdpoodfaagreat", sum := "61613422ada817356fbcc1fd285bf7ce299705d27bfc17e7bcf11922a4bdda37", func := "loop.example/g00468/laws.FnTries", spec := "fnTries", unfollowed := true, recurses := true, apart := false }
def FnTriesSaid : Prop := fnTriesRow.holds Tryz.pinned (OpenSpec.ofChange fnTriesSpec)

/-- ITS FALSE NEIGHBOUR: 'it returns false'. Refute it at one input. -/
def fnTriesWrong : ChangeSpec := { name := "fnTries", fn := fun _ => fun
  | [d] => { results := [.lit (.bool false)], args := [d] }
  | _ => none }
def FnTriesWrongFalsely : Prop := fnTriesRow.holds Tryz.pinned (OpenSpec.ofChange fnTriesWrong)

/-- 'laws.FnThreads': WHATEVER THE INPUT: true; the input reads as it did. -/
def fnThreadsSpec : ChangeSpec := { name := "fnThreads", fn := fun _ => fun
  | [d] => { results := [.lit (.bool true)], args := [d] }
  | _ => none }
def fnThreadsRow : OpenClaim := { program := "ytdcinhpdpoodfaagreat", sum := "61613422ada817356fbcc1fd285bf7ce299705d27bfc17e7bcf11922a4bdda37", func := "loop.example/g00468/laws.FnThreads", spec := "fnThreads", unfollowed := true, recurses := true, apart := false }
def FnThreadsSaid : Prop := fnThreadsRow.holds Tryz.pinned (OpenSpec.ofChange fnThreadsSpec)

/-- ITS FALSE NEIGHBOUR: 'it returns false'. Refute it at one input. -/
def fnThreadsWrong : ChangeSpec := { name := "fnThreads", fn := fun _ => fun
  | [d] => { results := [.lit (.bool false)], args := [d] }
  | _ => none }
def FnThreadsWrongFalsely : Prop := fnThreadsRow.holds Tryz.pinned (OpenSpec.ofChange fnThreadsWrong)

/-- 'laws.FnExactMachineOk': WHATEVER THE INPUT: true; the input reads as it did. -/
def fnExactMachineOkSpec : ChangeSpec := { name := "fnExactMachineOk", fn := fun _ => fun
  | [d] => { results := [.lit (.bool true)], args := [d] }
  | _ => none }
def fnExactMachineOkRow : OpenClaim := { program := "ytdcinhpdpoodfaagreat", sum := "61613422ada817356fbcc1fd285bf7ce299705d27bfc17e7bcf11922a4bdda37", func := "loop.example/g00468/laws.FnExactMachineOk", spec := "fnExactMachineOk", unfollowed := true, recurses := true, apart := false }
def FnExactMachineOkSaid : Prop := fnExactMachineOkRow.holds Tryz.pinned (OpenSpec.ofChange fnExactMachineOkSpec)

/-- ITS FALSE NEIGHBOUR: 'it returns false'. Refute it at one input. -/
def fnExactMachineOkWrong : ChangeSpec := { name := "fnExactMachineOk", fn := fun _ => fun
  | [d] => { results := [.lit (.bool false)], args := [d] }
  | _ => none }
def FnExactMachineOkWrongFalsely : Prop := fnExactMachineOkRow.holds Tryz.pinned (OpenSpec.ofChange fnExactMachineOkWrong)

/-- 'laws.FnExactFinished': WHATEVER THE INPUT: true; the input reads as it did. -/
def fnExactFinishedSpec : ChangeSpec := { name := "fnExactFinished", fn := fun _ => fun
  | [d] => { results := [.lit (.bool true)], args := [d] }
  | _ => none }
def fnExactFinishedRow : OpenClaim := { program := "ytdcinhpdpoodfaagreat", sum := "61613422ada817356fbcc1fd285bf7ce299705d27bfc17e7bcf11922a4bdda37", func := "loop.example/g00468/laws.FnExactFinished", spec := "fnExactFinished", unfollowed := true, recurses := true, apart := false }
def FnExactFinishedSaid : Prop := fnExactFinishedRow.holds Tryz.pinned (OpenSpec.ofChange fnExactFinishedSpec)

/-- ITS FALSE NEIGHBOUR: 'it returns false'. Refute it at one input. -/
def fnExactFinishedWrong : ChangeSpec := { name := "fnExactFinished", fn := fun _ => fun
  | [d] => { results := [.lit (.bool false)], args := [d] }
  | _ => none }
def FnExactFinishedWrongFalsely : Prop := fnExactFinishedRow.holds Tryz.pinned (OpenSpec.ofChange fnExactFinishedWrong)

/- THE SECOND FORM. 'bulk': how many values and letters a reading holds, each counted each time it is reached (what is shared counts as often as it is met; a slice's spare places count too). A statement '..UptoSaid' is the law's where the arguments, and the package variables that the reading takes, are together of bulk at most 1048576: NARROWER than '..Said'. Prove '..Said' where nothing that the law and all that it calls make is longer than what came in: it says more and counts as full. Else prove '..UptoSaid'. A law counts once. -/
mutual
def uptoBulk {H : Type} : DataW H → Nat
  | .lit (.string bytes) => bytes.length + 1
  | .lit _ => 1
  | .nil => 1
  | .ptr d => uptoBulk d + 1
  | .slice elems spare => uptoBulkAll elems + uptoBulkAll spare + 1
  | .agg parts => uptoBulkAll parts + 1
  | .iface _ d => uptoBulk d + 1
  | .map entries => uptoBulkEntries entries + 1
  | .held _ => 1
def uptoBulkAll {H : Type} : List (DataW H) → Nat
  | [] => 0
  | d :: r => uptoBulk d + uptoBulkAll r
def uptoBulkEntries {H : Type} : List (Lit × DataW H) → Nat
  | [] => 0
  | x :: r => uptoBulkEntry x + uptoBulkEntries r
def uptoBulkEntry {H : Type} : Lit × DataW H → Nat
  | (.string bytes, d) => bytes.length + uptoBulk d + 1
  | (_, d) => uptoBulk d + 1
 end
def uptoSmall : (H : Type) → List (DataW H) → Bool := fun _ ds => decide (uptoBulkAll ds ≤ 1048576)
def OpenSpec.upto (s : _root_.Go.ChangeSpec) : _root_.Go.OpenSpec := { _root_.Go.OpenSpec.ofChange s with cond := some uptoSmall }

/-- 'laws.FnTwoTries', WHERE WHAT IT READS IS OF BULK AT MOST 1048576: true; the input reads as it did. -/
def fnTwoTriesUptoRow : OpenClaim := { program := "ytdcinhpdpoodfaagreat", sum := "61613422ada817356fbcc1fd285bf7ce299705d27bfc17e7bcf11922a4bdda37", func := "loop.example/g00468/laws.FnTwoTries", spec := "fnTwoTries", unfollowed := true, recurses := true, apart := false, narrowed := true }
def FnTwoTriesUptoSaid : Prop := fnTwoTriesUptoRow.holds Tryz.pinned (OpenSpec.upto fnTwoTriesSpec)

/-- 'laws.FnAssists', WHERE WHAT IT READS IS OF BULK AT MOST 1048576: true; the input reads as it did. -/
def fnAssistsUptoRow : OpenClaim := { program := "ytdcinhpdpoodfaagreat", sum := "61613422ada817356fbcc1fd285bf7ce299705d27bfc17e7bcf11922a4bdda37", func := "loop.example/g00468/laws.FnAssists", spec := "fnAssists", unfollowed := true, recurses := true, apart := false, narrowed := true }
def FnAssistsUptoSaid : Prop := fnAssistsUptoRow.holds Tryz.pinned (OpenSpec.upto fnAssistsSpec)

/-- 'laws.FnTries', WHERE WHAT IT READS IS OF BULK AT MOST 1048576: true; the input reads as it did. -/
def fnTriesUptoRow : OpenClaim := { program := "ytdcinhpdpoodfaagreat", sum := "61613422ada817356fbcc1fd285bf7ce299705d27bfc17e7bcf11922a4bdda37", func := "loop.example/g00468/laws.FnTries", spec := "fnTries", unfollowed := true, recurses := true, apart := false, narrowed := true }
def FnTriesUptoSaid : Prop := fnTriesUptoRow.holds Tryz.pinned (OpenSpec.upto fnTriesSpec)

/-- 'laws.FnThreads', WHERE WHAT IT READS IS OF BULK AT MOST 1048576: true; the input reads as it did. -/
def fnThreadsUptoRow : OpenClaim := { program := "ytdcinhpdpoodfaagreat", sum := "61613422ada817356fbcc1fd285bf7ce299705d27bfc17e7bcf11922a4bdda37", func := "loop.example/g00468/laws.FnThreads", spec := "fnThreads", unfollowed := true, recurses := true, apart := false, narrowed := true }
def FnThreadsUptoSaid : Prop := fnThreadsUptoRow.holds Tryz.pinned (OpenSpec.upto fnThreadsSpec)

/-- 'laws.FnExactMachineOk', WHERE WHAT IT READS IS OF BULK AT MOST 1048576: true; the input reads as it did. -/
def fnExactMachineOkUptoRow : OpenClaim := { program := "ytdcinhpdpoodfaagreat", sum := "61613422ada817356fbcc1fd285bf7ce299705d27bfc17e7bcf11922a4bdda37", func := "loop.example/g00468/laws.FnExactMachineOk", spec := "fnExactMachineOk", unfollowed := true, recurses := true, apart := false, narrowed := true }
def FnExactMachineOkUptoSaid : Prop := fnExactMachineOkUptoRow.holds Tryz.pinned (OpenSpec.upto fnExactMachineOkSpec)

/-- 'laws.FnExactFinished', WHERE WHAT IT READS IS OF BULK AT MOST 1048576: true; the input reads as it did. -/
def fnExactFinishedUptoRow : OpenClaim := { program := "ytdcinhpdpoodfaagreat", sum := "61613422ada817356fbcc1fd285bf7ce299705d27bfc17e7bcf11922a4bdda37", func := "loop.example/g00468/laws.FnExactFinished", spec := "fnExactFinished", unfollowed := true, recurses := true, apart := false, narrowed := true }
def FnExactFinishedUptoSaid : Prop := fnExactFinishedUptoRow.holds Tryz.pinned (OpenSpec.upto fnExactFinishedSpec)

end Rows
end Go.Proofs.YtdcinhpdpoodfaaGreat
