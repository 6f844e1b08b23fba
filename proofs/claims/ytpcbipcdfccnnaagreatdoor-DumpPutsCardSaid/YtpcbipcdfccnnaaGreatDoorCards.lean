/-
  DERIVED. GIVEN WITH THE SEED: THE CARDS: each row of YtpcbipcdfccnnaaGreatDoorRows.lean that lists a variable, with what it lists TIED to the program's text (the seventh form; the later family's looks); each row that meets fmt, with fmt's text TOLD by the authors' own Lean function (tested against real Go, not proved from fmt's source: count such statements apart). THE CARD IS WHAT COUNTS. Prove the row's statement (the work); the ties are given (YtpcbipcdfccnnaaGreatDoorTie.lean); close each card by the builder's one call (the guide's Derived/Test/ToyasCard.lean, 'card_holds'). Laid BY PROGRAM, IN A SANDBOX (cutbox-door.mjs). By AI agents, Wed Nov 11 2026. No macro, syntax, notation, axiom, sorry.
-/
import Derived.Test.YtpcbipcdfccnnaaGreatDoorRows
import GoSem.ClaimSeven
namespace Go.Proofs.YtpcbipcdfccnnaaGreatDoor
namespace Rows

/-- THE TIED CARD OF 'castellanlaw16.DumpChecks'. -/
def dumpChecksCard : Claim7 := { stood := { row := dumpChecksRow, standIns := [], harness := (true, "d429b606df52d94c162d9eea2373992b369f17627931ae001652f71522bda324"), looks := true }, kinds := [], alts := [], laidByText := true, laidKinds := [.handle], laidTests := true, laidLooks := .later }
def DumpChecksCardSaid : Prop := Claim7.holds Tryz.pinned (.plain (OpenSpec.ofChange dumpChecksSpec)) dumpChecksCard

/-- THE TIED CARD OF 'castellanlaw16.DumpPuts'. -/
def dumpPutsCard : Claim7 := { stood := { row := dumpPutsRow, standIns := [], harness := (true, "d429b606df52d94c162d9eea2373992b369f17627931ae001652f71522bda324"), looks := true }, kinds := [], alts := [], laidByText := true, laidKinds := [.handle], laidTests := true, laidLooks := .later }
def DumpPutsCardSaid : Prop := Claim7.holds Tryz.pinned (.plain (OpenSpec.ofChange dumpPutsSpec)) dumpPutsCard

/-- THE TIED CARD OF 'castellanlaw16.DumpReads'. -/
def dumpReadsCard : Claim7 := { stood := { row := dumpReadsRow, standIns := [], harness := (true, "d429b606df52d94c162d9eea2373992b369f17627931ae001652f71522bda324"), looks := true }, kinds := [], alts := [], laidByText := true, laidKinds := [.handle], laidTests := true, laidLooks := .later }
def DumpReadsCardSaid : Prop := Claim7.holds Tryz.pinned (.plain (OpenSpec.ofChange dumpReadsSpec)) dumpReadsCard

/-- THE SECOND FORM's CARD OF 'castellanlaw16.DumpChecks'. -/
def dumpChecksUptoCard : Claim7 := { stood := { row := dumpChecksUptoRow, standIns := [], harness := (true, "d429b606df52d94c162d9eea2373992b369f17627931ae001652f71522bda324"), looks := true }, kinds := [], alts := [], laidByText := true, laidKinds := [.handle], laidTests := true, laidLooks := .later }
def DumpChecksUptoCardSaid : Prop := Claim7.holds Tryz.pinned (.plain (OpenSpec.upto dumpChecksSpec)) dumpChecksUptoCard

/-- THE SECOND FORM's CARD OF 'castellanlaw16.DumpPuts'. -/
def dumpPutsUptoCard : Claim7 := { stood := { row := dumpPutsUptoRow, standIns := [], harness := (true, "d429b606df52d94c162d9eea2373992b369f17627931ae001652f71522bda324"), looks := true }, kinds := [], alts := [], laidByText := true, laidKinds := [.handle], laidTests := true, laidLooks := .later }
def DumpPutsUptoCardSaid : Prop := Claim7.holds Tryz.pinned (.plain (OpenSpec.upto dumpPutsSpec)) dumpPutsUptoCard

/-- THE SECOND FORM's CARD OF 'castellanlaw16.DumpReads'. -/
def dumpReadsUptoCard : Claim7 := { stood := { row := dumpReadsUptoRow, standIns := [], harness := (true, "d429b606df52d94c162d9eea2373992b369f17627931ae001652f71522bda324"), looks := true }, kinds := [], alts := [], laidByText := true, laidKinds := [.handle], laidTests := true, laidLooks := .later }
def DumpReadsUptoCardSaid : Prop := Claim7.holds Tryz.pinned (.plain (OpenSpec.upto dumpReadsSpec)) dumpReadsUptoCard
end Rows
end Go.Proofs.YtpcbipcdfccnnaaGreatDoor
