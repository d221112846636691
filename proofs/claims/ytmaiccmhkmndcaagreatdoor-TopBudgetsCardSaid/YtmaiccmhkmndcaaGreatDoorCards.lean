/-
  DERIVED. GIVEN WITH THE SEED: THE CARDS: each row of YtmaiccmhkmndcaaGreatDoorRows.lean that lists a variable, with what it lists TIED to the program's text (the seventh form; the later family's looks); each row that meets fmt, with fmt's text TOLD by the authors' own Lean function (tested against real Go, not proved from fmt's source: count such statements apart). THE CARD IS WHAT COUNTS. Prove the row's statement (the work); the ties are given (YtmaiccmhkmndcaaGreatDoorTie.lean); close each card by the builder's one call (the guide's Derived/Test/ToyasCard.lean, 'card_holds'). Laid BY PROGRAM, IN A SANDBOX (cutbox-door.mjs). By AI agents, Wed Nov 11 2026. No macro, syntax, notation, axiom, sorry.
-/
import Derived.Test.YtmaiccmhkmndcaaGreatDoorRows
import GoSem.ClaimSeven
namespace Go.Proofs.YtmaiccmhkmndcaaGreatDoor
namespace Rows

/-- THE TIED CARD OF 'signatorytop.TopBudgets'. -/
def topBudgetsCard : Claim7 := { stood := { row := topBudgetsRow, standIns := [], harness := (true, "33f02b274533be2d69bd84404f0f75d7b0760e3900b2d886396a69193c991213"), looks := true }, kinds := [], alts := [], laidByText := true, laidKinds := [.funcs], laidTests := true, laidLooks := .later }
def TopBudgetsCardSaid : Prop := Claim7.holds Tryz.pinned (.plain (OpenSpec.ofChange topBudgetsSpec)) topBudgetsCard

/-- THE SECOND FORM's CARD OF 'signatorytop.TopBudgets'. -/
def topBudgetsUptoCard : Claim7 := { stood := { row := topBudgetsUptoRow, standIns := [], harness := (true, "33f02b274533be2d69bd84404f0f75d7b0760e3900b2d886396a69193c991213"), looks := true }, kinds := [], alts := [], laidByText := true, laidKinds := [.funcs], laidTests := true, laidLooks := .later }
def TopBudgetsUptoCardSaid : Prop := Claim7.holds Tryz.pinned (.plain (OpenSpec.upto topBudgetsSpec)) topBudgetsUptoCard
end Rows
end Go.Proofs.YtmaiccmhkmndcaaGreatDoor
