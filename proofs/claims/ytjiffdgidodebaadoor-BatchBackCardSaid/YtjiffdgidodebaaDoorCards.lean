/-
  DERIVED. GIVEN WITH THE SEED: THE CARDS: each row of YtjiffdgidodebaaDoorRows.lean that lists a variable, with what it lists TIED to the program's text (the seventh form; the later family's looks); each row that meets fmt, with fmt's text TOLD by the authors' own Lean function (tested against real Go, not proved from fmt's source: count such statements apart). THE CARD IS WHAT COUNTS. Prove the row's statement (the work); the ties are given (YtjiffdgidodebaaDoorTie.lean); close each card by the builder's one call (the guide's Derived/Test/ToyasCard.lean, 'card_holds'). Laid BY PROGRAM, IN A SANDBOX (cutbox-door.mjs). By AI agents, Wed Nov 11 2026. No macro, syntax, notation, axiom, sorry.
-/
import Derived.Test.YtjiffdgidodebaaDoorRows
import GoSem.ClaimSeven
namespace Go.Proofs.YtjiffdgidodebaaDoor
namespace Rows

/-- THE TIED CARD OF 'castellanlaw04.FrameBack'. -/
def frameBackCard : Claim7 := { stood := { row := frameBackRow, standIns := [], harness := (true, "e8afc2b6556892016f77d8cde5538bfa2ddd2dfe914643cabcd464c69a3eeea7"), looks := true }, kinds := [], alts := [], laidByText := true, laidKinds := [.handle], laidTests := true, laidLooks := .later }
def FrameBackCardSaid : Prop := Claim7.holds Tryd.pinned (.plain (OpenSpec.ofChange frameBackSpec)) frameBackCard

/-- THE TIED CARD OF 'castellanlaw04.FrameSpoilt'. -/
def frameSpoiltCard : Claim7 := { stood := { row := frameSpoiltRow, standIns := [], harness := (true, "e8afc2b6556892016f77d8cde5538bfa2ddd2dfe914643cabcd464c69a3eeea7"), looks := true }, kinds := [], alts := [], laidByText := true, laidKinds := [.handle], laidTests := true, laidLooks := .later }
def FrameSpoiltCardSaid : Prop := Claim7.holds Tryd.pinned (.plain (OpenSpec.ofChange frameSpoiltSpec)) frameSpoiltCard

/-- THE TIED CARD OF 'castellanlaw04.FramePuts'. -/
def framePutsCard : Claim7 := { stood := { row := framePutsRow, standIns := [], harness := (true, "e8afc2b6556892016f77d8cde5538bfa2ddd2dfe914643cabcd464c69a3eeea7"), looks := true }, kinds := [], alts := [], laidByText := true, laidKinds := [.handle], laidTests := true, laidLooks := .later }
def FramePutsCardSaid : Prop := Claim7.holds Tryd.pinned (.plain (OpenSpec.ofChange framePutsSpec)) framePutsCard

/-- THE TIED CARD OF 'castellanlaw04.FrameNext'. -/
def frameNextCard : Claim7 := { stood := { row := frameNextRow, standIns := [], harness := (true, "e8afc2b6556892016f77d8cde5538bfa2ddd2dfe914643cabcd464c69a3eeea7"), looks := true }, kinds := [], alts := [], laidByText := true, laidKinds := [.handle], laidTests := true, laidLooks := .later }
def FrameNextCardSaid : Prop := Claim7.holds Tryd.pinned (.plain (OpenSpec.ofChange frameNextSpec)) frameNextCard

/-- THE TIED CARD OF 'castellanlaw04.FrameStreams'. -/
def frameStreamsCard : Claim7 := { stood := { row := frameStreamsRow, standIns := [], harness := (true, "e8afc2b6556892016f77d8cde5538bfa2ddd2dfe914643cabcd464c69a3eeea7"), looks := true }, kinds := [], alts := [], laidByText := true, laidKinds := [.handle], laidTests := true, laidLooks := .later }
def FrameStreamsCardSaid : Prop := Claim7.holds Tryd.pinned (.plain (OpenSpec.ofChange frameStreamsSpec)) frameStreamsCard

/-- THE TIED CARD OF 'castellanlaw06.BatchBack'. -/
def batchBackCard : Claim7 := { stood := { row := batchBackRow, standIns := [], harness := (true, "e8afc2b6556892016f77d8cde5538bfa2ddd2dfe914643cabcd464c69a3eeea7"), looks := true }, kinds := [], alts := [], laidByText := true, laidKinds := [.handle], laidTests := true, laidLooks := .later }
def BatchBackCardSaid : Prop := Claim7.holds Tryd.pinned (.plain (OpenSpec.ofChange batchBackSpec)) batchBackCard

/-- THE TIED CARD OF 'castellanlaw06.BatchSplits'. -/
def batchSplitsCard : Claim7 := { stood := { row := batchSplitsRow, standIns := [], harness := (true, "e8afc2b6556892016f77d8cde5538bfa2ddd2dfe914643cabcd464c69a3eeea7"), looks := true }, kinds := [], alts := [], laidByText := true, laidKinds := [.handle], laidTests := true, laidLooks := .later }
def BatchSplitsCardSaid : Prop := Claim7.holds Tryd.pinned (.plain (OpenSpec.ofChange batchSplitsSpec)) batchSplitsCard

/-- THE SECOND FORM's CARD OF 'castellanlaw04.FrameBack'. -/
def frameBackUptoCard : Claim7 := { stood := { row := frameBackUptoRow, standIns := [], harness := (true, "e8afc2b6556892016f77d8cde5538bfa2ddd2dfe914643cabcd464c69a3eeea7"), looks := true }, kinds := [], alts := [], laidByText := true, laidKinds := [.handle], laidTests := true, laidLooks := .later }
def FrameBackUptoCardSaid : Prop := Claim7.holds Tryd.pinned (.plain (OpenSpec.upto frameBackSpec)) frameBackUptoCard

/-- THE SECOND FORM's CARD OF 'castellanlaw04.FrameSpoilt'. -/
def frameSpoiltUptoCard : Claim7 := { stood := { row := frameSpoiltUptoRow, standIns := [], harness := (true, "e8afc2b6556892016f77d8cde5538bfa2ddd2dfe914643cabcd464c69a3eeea7"), looks := true }, kinds := [], alts := [], laidByText := true, laidKinds := [.handle], laidTests := true, laidLooks := .later }
def FrameSpoiltUptoCardSaid : Prop := Claim7.holds Tryd.pinned (.plain (OpenSpec.upto frameSpoiltSpec)) frameSpoiltUptoCard

/-- THE SECOND FORM's CARD OF 'castellanlaw04.FramePuts'. -/
def framePutsUptoCard : Claim7 := { stood := { row := framePutsUptoRow, standIns := [], harness := (true, "e8afc2b6556892016f77d8cde5538bfa2ddd2dfe914643cabcd464c69a3eeea7"), looks := true }, kinds := [], alts := [], laidByText := true, laidKinds := [.handle], laidTests := true, laidLooks := .later }
def FramePutsUptoCardSaid : Prop := Claim7.holds Tryd.pinned (.plain (OpenSpec.upto framePutsSpec)) framePutsUptoCard

/-- THE SECOND FORM's CARD OF 'castellanlaw04.FrameNext'. -/
def frameNextUptoCard : Claim7 := { stood := { row := frameNextUptoRow, standIns := [], harness := (true, "e8afc2b6556892016f77d8cde5538bfa2ddd2dfe914643cabcd464c69a3eeea7"), looks := true }, kinds := [], alts := [], laidByText := true, laidKinds := [.handle], laidTests := true, laidLooks := .later }
def FrameNextUptoCardSaid : Prop := Claim7.holds Tryd.pinned (.plain (OpenSpec.upto frameNextSpec)) frameNextUptoCard

/-- THE SECOND FORM's CARD OF 'castellanlaw04.FrameStreams'. -/
def frameStreamsUptoCard : Claim7 := { stood := { row := frameStreamsUptoRow, standIns := [], harness := (true, "e8afc2b6556892016f77d8cde5538bfa2ddd2dfe914643cabcd464c69a3eeea7"), looks := true }, kinds := [], alts := [], laidByText := true, laidKinds := [.handle], laidTests := true, laidLooks := .later }
def FrameStreamsUptoCardSaid : Prop := Claim7.holds Tryd.pinned (.plain (OpenSpec.upto frameStreamsSpec)) frameStreamsUptoCard

/-- THE SECOND FORM's CARD OF 'castellanlaw06.BatchBack'. -/
def batchBackUptoCard : Claim7 := { stood := { row := batchBackUptoRow, standIns := [], harness := (true, "e8afc2b6556892016f77d8cde5538bfa2ddd2dfe914643cabcd464c69a3eeea7"), looks := true }, kinds := [], alts := [], laidByText := true, laidKinds := [.handle], laidTests := true, laidLooks := .later }
def BatchBackUptoCardSaid : Prop := Claim7.holds Tryd.pinned (.plain (OpenSpec.upto batchBackSpec)) batchBackUptoCard

/-- THE SECOND FORM's CARD OF 'castellanlaw06.BatchSplits'. -/
def batchSplitsUptoCard : Claim7 := { stood := { row := batchSplitsUptoRow, standIns := [], harness := (true, "e8afc2b6556892016f77d8cde5538bfa2ddd2dfe914643cabcd464c69a3eeea7"), looks := true }, kinds := [], alts := [], laidByText := true, laidKinds := [.handle], laidTests := true, laidLooks := .later }
def BatchSplitsUptoCardSaid : Prop := Claim7.holds Tryd.pinned (.plain (OpenSpec.upto batchSplitsSpec)) batchSplitsUptoCard
end Rows
end Go.Proofs.YtjiffdgidodebaaDoor
