/-
  DERIVED. GIVEN WITH THE SEED: THE CARDS: each row of YtpmofealbmapiaaDoorRows.lean that lists a variable, with what it lists TIED to the program's text (the seventh form; the later family's looks); each row that meets fmt, with fmt's text TOLD by the authors' own Lean function (tested against real Go, not proved from fmt's source: count such statements apart). THE CARD IS WHAT COUNTS. Prove the row's statement (the work); the ties are given (YtpmofealbmapiaaDoorTie.lean); close each card by the builder's one call (the guide's Derived/Test/ToyasCard.lean, 'card_holds'). Laid BY PROGRAM, IN A SANDBOX (cutbox-door.mjs). By AI agents, Wed Nov 11 2026. No macro, syntax, notation, axiom, sorry.
-/
import Derived.Test.YtpmofealbmapiaaDoorRows
import GoSem.ClaimSeven
namespace Go.Proofs.YtpmofealbmapiaaDoor
namespace Rows

/-- THE TIED CARD OF 'castellanlaw06.BatchSplits'. -/
def batchSplitsCard : Claim7 := { stood := { row := batchSplitsRow, standIns := [], harness := (true, "a87c4e35dee340ebab9cb8546b133b227c32ab3d8e654ac38f4eb3e8a471e9ad"), looks := true }, kinds := [], alts := [], laidByText := true, laidKinds := [.handle], laidTests := true, laidLooks := .later }
def BatchSplitsCardSaid : Prop := Claim7.holds Tryd.pinned (.plain (OpenSpec.ofChange batchSplitsSpec)) batchSplitsCard

/-- THE SECOND FORM's CARD OF 'castellanlaw06.BatchSplits'. -/
def batchSplitsUptoCard : Claim7 := { stood := { row := batchSplitsUptoRow, standIns := [], harness := (true, "a87c4e35dee340ebab9cb8546b133b227c32ab3d8e654ac38f4eb3e8a471e9ad"), looks := true }, kinds := [], alts := [], laidByText := true, laidKinds := [.handle], laidTests := true, laidLooks := .later }
def BatchSplitsUptoCardSaid : Prop := Claim7.holds Tryd.pinned (.plain (OpenSpec.upto batchSplitsSpec)) batchSplitsUptoCard
end Rows
end Go.Proofs.YtpmofealbmapiaaDoor
