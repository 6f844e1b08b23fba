/-
  DERIVED. GIVEN WITH THE SEED: THE CARDS: each row of YtjiffdgidodebaaGreatDoorRows.lean that lists a variable, with what it lists TIED to the program's text (the seventh form; the later family's looks); each row that meets fmt, with fmt's text TOLD by the authors' own Lean function (tested against real Go, not proved from fmt's source: count such statements apart). THE CARD IS WHAT COUNTS. Prove the row's statement (the work); the ties are given (YtjiffdgidodebaaGreatDoorTie.lean); close each card by the builder's one call (the guide's Derived/Test/ToyasCard.lean, 'card_holds'). Laid BY PROGRAM, IN A SANDBOX (cutbox-door.mjs). By AI agents, Wed Nov 11 2026. No macro, syntax, notation, axiom, sorry.
-/
import Derived.Test.YtjiffdgidodebaaGreatDoorRows
import GoSem.ClaimSeven
namespace Go.Proofs.YtjiffdgidodebaaGreatDoor
namespace Rows

/-- THE TIED CARD OF 'castellanlaw06.BatchChecks'. -/
def batchChecksCard : Claim7 := { stood := { row := batchChecksRow, standIns := [], harness := (true, "0853cefdefb9137a29cae722001cd4bbb6bf91f04365e12e99ed72444eb166a6"), looks := true }, kinds := [], alts := [], laidByText := true, laidKinds := [.handle], laidTests := true, laidLooks := .later }
def BatchChecksCardSaid : Prop := Claim7.holds Tryz.pinned (.plain (OpenSpec.ofChange batchChecksSpec)) batchChecksCard

/-- THE TIED CARD OF 'castellanlaw06.BatchPuts'. -/
def batchPutsCard : Claim7 := { stood := { row := batchPutsRow, standIns := [], harness := (true, "0853cefdefb9137a29cae722001cd4bbb6bf91f04365e12e99ed72444eb166a6"), looks := true }, kinds := [], alts := [], laidByText := true, laidKinds := [.handle], laidTests := true, laidLooks := .later }
def BatchPutsCardSaid : Prop := Claim7.holds Tryz.pinned (.plain (OpenSpec.ofChange batchPutsSpec)) batchPutsCard

/-- THE TIED CARD OF 'castellanlaw06.BatchReads'. -/
def batchReadsCard : Claim7 := { stood := { row := batchReadsRow, standIns := [], harness := (true, "0853cefdefb9137a29cae722001cd4bbb6bf91f04365e12e99ed72444eb166a6"), looks := true }, kinds := [], alts := [], laidByText := true, laidKinds := [.handle], laidTests := true, laidLooks := .later }
def BatchReadsCardSaid : Prop := Claim7.holds Tryz.pinned (.plain (OpenSpec.ofChange batchReadsSpec)) batchReadsCard

/-- THE SECOND FORM's CARD OF 'castellanlaw06.BatchChecks'. -/
def batchChecksUptoCard : Claim7 := { stood := { row := batchChecksUptoRow, standIns := [], harness := (true, "0853cefdefb9137a29cae722001cd4bbb6bf91f04365e12e99ed72444eb166a6"), looks := true }, kinds := [], alts := [], laidByText := true, laidKinds := [.handle], laidTests := true, laidLooks := .later }
def BatchChecksUptoCardSaid : Prop := Claim7.holds Tryz.pinned (.plain (OpenSpec.upto batchChecksSpec)) batchChecksUptoCard

/-- THE SECOND FORM's CARD OF 'castellanlaw06.BatchPuts'. -/
def batchPutsUptoCard : Claim7 := { stood := { row := batchPutsUptoRow, standIns := [], harness := (true, "0853cefdefb9137a29cae722001cd4bbb6bf91f04365e12e99ed72444eb166a6"), looks := true }, kinds := [], alts := [], laidByText := true, laidKinds := [.handle], laidTests := true, laidLooks := .later }
def BatchPutsUptoCardSaid : Prop := Claim7.holds Tryz.pinned (.plain (OpenSpec.upto batchPutsSpec)) batchPutsUptoCard

/-- THE SECOND FORM's CARD OF 'castellanlaw06.BatchReads'. -/
def batchReadsUptoCard : Claim7 := { stood := { row := batchReadsUptoRow, standIns := [], harness := (true, "0853cefdefb9137a29cae722001cd4bbb6bf91f04365e12e99ed72444eb166a6"), looks := true }, kinds := [], alts := [], laidByText := true, laidKinds := [.handle], laidTests := true, laidLooks := .later }
def BatchReadsUptoCardSaid : Prop := Claim7.holds Tryz.pinned (.plain (OpenSpec.upto batchReadsSpec)) batchReadsUptoCard
end Rows
end Go.Proofs.YtjiffdgidodebaaGreatDoor
