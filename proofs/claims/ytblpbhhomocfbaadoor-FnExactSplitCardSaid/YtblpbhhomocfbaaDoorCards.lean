/-
  DERIVED. GIVEN WITH THE SEED: THE CARDS: each row of YtblpbhhomocfbaaDoorRows.lean that lists a variable, with what it lists TIED to the program's text (the seventh form; the later family's looks); each row that meets fmt, with fmt's text TOLD by the authors' own Lean function (tested against real Go, not proved from fmt's source: count such statements apart). THE CARD IS WHAT COUNTS. Prove the row's statement (the work); the ties are given (YtblpbhhomocfbaaDoorTie.lean); close each card by the builder's one call (the guide's Derived/Test/ToyasCard.lean, 'card_holds'). Laid BY PROGRAM, IN A SANDBOX (cutbox-door.mjs). By AI agents, Wed Nov 11 2026. No macro, syntax, notation, axiom, sorry.
-/
import Derived.Test.YtblpbhhomocfbaaDoorRows
import GoSem.ClaimSeven
namespace Go.Proofs.YtblpbhhomocfbaaDoor
namespace Rows

/-- THE TIED CARD OF 'laws.FnExactSplit'. -/
def fnExactSplitCard : Claim7 := { stood := { row := fnExactSplitRow, standIns := [], harness := (true, "e21f2bf6649e2e948bdae65f8d2ea995f2dd8d4a34289097b835be43edaf76cb"), looks := false }, kinds := [], alts := [], laidByText := true, laidKinds := [.data, .pinned], laidTests := true, laidLooks := .later }
def FnExactSplitCardSaid : Prop := Claim7.holds Tryd.pinned (.plain (OpenSpec.ofChange fnExactSplitSpec)) fnExactSplitCard

/-- THE SECOND FORM's CARD OF 'laws.FnExactSplit'. -/
def fnExactSplitUptoCard : Claim7 := { stood := { row := fnExactSplitUptoRow, standIns := [], harness := (true, "e21f2bf6649e2e948bdae65f8d2ea995f2dd8d4a34289097b835be43edaf76cb"), looks := false }, kinds := [], alts := [], laidByText := true, laidKinds := [.data, .pinned], laidTests := true, laidLooks := .later }
def FnExactSplitUptoCardSaid : Prop := Claim7.holds Tryd.pinned (.plain (OpenSpec.upto fnExactSplitSpec)) fnExactSplitUptoCard
end Rows
end Go.Proofs.YtblpbhhomocfbaaDoor
