/-
  DERIVED. GIVEN WITH THE SEED: THE CARDS: each row of YtfkmkgpoddbbfaaGreatDoorRows.lean that lists a variable, with what it lists TIED to the program's text (the seventh form; the later family's looks); each row that meets fmt, with fmt's text TOLD by the authors' own Lean function (tested against real Go, not proved from fmt's source: count such statements apart). THE CARD IS WHAT COUNTS. Prove the row's statement (the work); the ties are given (YtfkmkgpoddbbfaaGreatDoorTie.lean); close each card by the builder's one call (the guide's Derived/Test/ToyasCard.lean, 'card_holds'). Laid BY PROGRAM, IN A SANDBOX (cutbox-door.mjs). By AI agents, Wed Nov 11 2026. No macro, syntax, notation, axiom, sorry.
-/
import Derived.Test.YtfkmkgpoddbbfaaGreatDoorRows
import GoSem.ClaimSeven
namespace Go.Proofs.YtfkmkgpoddbbfaaGreatDoor
namespace Rows

/-- THE TIED CARD OF 'castellanlaw16.DumpReads'. -/
def dumpReadsCard : Claim7 := { stood := { row := dumpReadsRow, standIns := [], harness := (true, "de3ba782abc744c22c6f6a999dff7ff29821edae48a705a6cae99fd5a4457f37"), looks := true }, kinds := [], alts := [], laidByText := true, laidKinds := [.handle], laidTests := true, laidLooks := .later }
def DumpReadsCardSaid : Prop := Claim7.holds Tryz.pinned (.plain (OpenSpec.ofChange dumpReadsSpec)) dumpReadsCard

/-- THE SECOND FORM's CARD OF 'castellanlaw16.DumpReads'. -/
def dumpReadsUptoCard : Claim7 := { stood := { row := dumpReadsUptoRow, standIns := [], harness := (true, "de3ba782abc744c22c6f6a999dff7ff29821edae48a705a6cae99fd5a4457f37"), looks := true }, kinds := [], alts := [], laidByText := true, laidKinds := [.handle], laidTests := true, laidLooks := .later }
def DumpReadsUptoCardSaid : Prop := Claim7.holds Tryz.pinned (.plain (OpenSpec.upto dumpReadsSpec)) dumpReadsUptoCard
end Rows
end Go.Proofs.YtfkmkgpoddbbfaaGreatDoor
