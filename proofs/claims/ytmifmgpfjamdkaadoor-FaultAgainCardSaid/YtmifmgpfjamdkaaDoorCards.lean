/-
  DERIVED. GIVEN WITH THE SEED: THE CARDS: each row of YtmifmgpfjamdkaaDoorRows.lean that lists a variable, with what it lists TIED to the program's text (the seventh form; the later family's looks); each row that meets fmt, with fmt's text TOLD by the authors' own Lean function (tested against real Go, not proved from fmt's source: count such statements apart). THE CARD IS WHAT COUNTS. Prove the row's statement (the work); the ties are given (YtmifmgpfjamdkaaDoorTie.lean); close each card by the builder's one call (the guide's Derived/Test/ToyasCard.lean, 'card_holds'). Laid BY PROGRAM, IN A SANDBOX (cutbox-door.mjs). By AI agents, Wed Nov 11 2026. No macro, syntax, notation, axiom, sorry.
-/
import Derived.Test.YtmifmgpfjamdkaaDoorRows
import GoSem.ClaimSeven
namespace Go.Proofs.YtmifmgpfjamdkaaDoor
namespace Rows

/-- THE TIED CARD OF 'castellanlaw01.FaultWraps'. -/
def faultWrapsCard : Claim7 := { stood := { row := faultWrapsRow, standIns := [], harness := (true, "7832afa0318dc7ab7bac8ca97e7d5116f2e0b9624518ad439704da1953aa0967"), looks := true }, kinds := [], alts := [], laidByText := true, laidKinds := [.handle], laidTests := true, laidLooks := .later }
def FaultWrapsCardSaid : Prop := Claim7.holds Tryd.pinned (.plain (OpenSpec.ofChange faultWrapsSpec)) faultWrapsCard

/-- THE TIED CARD OF 'castellanlaw01.FaultAgain'. -/
def faultAgainCard : Claim7 := { stood := { row := faultAgainRow, standIns := [], harness := (true, "7832afa0318dc7ab7bac8ca97e7d5116f2e0b9624518ad439704da1953aa0967"), looks := true }, kinds := [], alts := [], laidByText := true, laidKinds := [.handle], laidTests := true, laidLooks := .later }
def FaultAgainCardSaid : Prop := Claim7.holds Tryd.pinned (.plain (OpenSpec.ofChange faultAgainSpec)) faultAgainCard

/-- THE TIED CARD OF 'castellanlaw13.SpansKeeps'. -/
def spansKeepsCard : Claim7 := { stood := { row := spansKeepsRow, standIns := [], harness := (true, "7832afa0318dc7ab7bac8ca97e7d5116f2e0b9624518ad439704da1953aa0967"), looks := true }, kinds := [], alts := [], laidByText := true, laidKinds := [.handle], laidTests := true, laidLooks := .later }
def SpansKeepsCardSaid : Prop := Claim7.holds Tryd.pinned (.plain (OpenSpec.ofChange spansKeepsSpec)) spansKeepsCard

/-- THE SECOND FORM's CARD OF 'castellanlaw01.FaultWraps'. -/
def faultWrapsUptoCard : Claim7 := { stood := { row := faultWrapsUptoRow, standIns := [], harness := (true, "7832afa0318dc7ab7bac8ca97e7d5116f2e0b9624518ad439704da1953aa0967"), looks := true }, kinds := [], alts := [], laidByText := true, laidKinds := [.handle], laidTests := true, laidLooks := .later }
def FaultWrapsUptoCardSaid : Prop := Claim7.holds Tryd.pinned (.plain (OpenSpec.upto faultWrapsSpec)) faultWrapsUptoCard

/-- THE SECOND FORM's CARD OF 'castellanlaw01.FaultAgain'. -/
def faultAgainUptoCard : Claim7 := { stood := { row := faultAgainUptoRow, standIns := [], harness := (true, "7832afa0318dc7ab7bac8ca97e7d5116f2e0b9624518ad439704da1953aa0967"), looks := true }, kinds := [], alts := [], laidByText := true, laidKinds := [.handle], laidTests := true, laidLooks := .later }
def FaultAgainUptoCardSaid : Prop := Claim7.holds Tryd.pinned (.plain (OpenSpec.upto faultAgainSpec)) faultAgainUptoCard

/-- THE SECOND FORM's CARD OF 'castellanlaw13.SpansKeeps'. -/
def spansKeepsUptoCard : Claim7 := { stood := { row := spansKeepsUptoRow, standIns := [], harness := (true, "7832afa0318dc7ab7bac8ca97e7d5116f2e0b9624518ad439704da1953aa0967"), looks := true }, kinds := [], alts := [], laidByText := true, laidKinds := [.handle], laidTests := true, laidLooks := .later }
def SpansKeepsUptoCardSaid : Prop := Claim7.holds Tryd.pinned (.plain (OpenSpec.upto spansKeepsSpec)) spansKeepsUptoCard
end Rows
end Go.Proofs.YtmifmgpfjamdkaaDoor
