/-
  DERIVED. GIVEN WITH THE SEED: THE CARDS: each row of YtjgnbbakamellaaDoorRows.lean that lists a variable, with what it lists TIED to the program's text (the seventh form; the later family's looks); each row that meets fmt, with fmt's text TOLD by the authors' own Lean function (tested against real Go, not proved from fmt's source: count such statements apart). THE CARD IS WHAT COUNTS. Prove the row's statement (the work); the ties are given (YtjgnbbakamellaaDoorTie.lean); close each card by the builder's one call (the guide's Derived/Test/ToyasCard.lean, 'card_holds'). Laid BY PROGRAM, IN A SANDBOX (cutbox-door.mjs). By AI agents, Wed Nov 11 2026. No macro, syntax, notation, axiom, sorry.
-/
import Derived.Test.YtjgnbbakamellaaDoorRows
import GoSem.ClaimSeven
namespace Go.Proofs.YtjgnbbakamellaaDoor
namespace Rows

/-- THE TIED CARD OF 'castellanlaw04.FrameBack'. -/
def frameBackCard : Claim7 := { stood := { row := frameBackRow, standIns := [], harness := (true, "3f3df9e1de805ca2bbba237003be9a83a2ad0ca40e4c8822c5886a13347d2804"), looks := true }, kinds := [], alts := [], laidByText := true, laidKinds := [.handle], laidTests := true, laidLooks := .later }
def FrameBackCardSaid : Prop := Claim7.holds Tryd.pinned (.plain (OpenSpec.ofChange frameBackSpec)) frameBackCard

/-- THE TIED CARD OF 'castellanlaw04.FrameSpoilt'. -/
def frameSpoiltCard : Claim7 := { stood := { row := frameSpoiltRow, standIns := [], harness := (true, "3f3df9e1de805ca2bbba237003be9a83a2ad0ca40e4c8822c5886a13347d2804"), looks := true }, kinds := [], alts := [], laidByText := true, laidKinds := [.handle], laidTests := true, laidLooks := .later }
def FrameSpoiltCardSaid : Prop := Claim7.holds Tryd.pinned (.plain (OpenSpec.ofChange frameSpoiltSpec)) frameSpoiltCard

/-- THE TIED CARD OF 'castellanlaw04.FramePuts'. -/
def framePutsCard : Claim7 := { stood := { row := framePutsRow, standIns := [], harness := (true, "3f3df9e1de805ca2bbba237003be9a83a2ad0ca40e4c8822c5886a13347d2804"), looks := true }, kinds := [], alts := [], laidByText := true, laidKinds := [.handle], laidTests := true, laidLooks := .later }
def FramePutsCardSaid : Prop := Claim7.holds Tryd.pinned (.plain (OpenSpec.ofChange framePutsSpec)) framePutsCard

/-- THE TIED CARD OF 'castellanlaw04.FrameNext'. -/
def frameNextCard : Claim7 := { stood := { row := frameNextRow, standIns := [], harness := (true, "3f3df9e1de805ca2bbba237003be9a83a2ad0ca40e4c8822c5886a13347d2804"), looks := true }, kinds := [], alts := [], laidByText := true, laidKinds := [.handle], laidTests := true, laidLooks := .later }
def FrameNextCardSaid : Prop := Claim7.holds Tryd.pinned (.plain (OpenSpec.ofChange frameNextSpec)) frameNextCard

/-- THE TIED CARD OF 'castellanlaw04.FrameStreams'. -/
def frameStreamsCard : Claim7 := { stood := { row := frameStreamsRow, standIns := [], harness := (true, "3f3df9e1de805ca2bbba237003be9a83a2ad0ca40e4c8822c5886a13347d2804"), looks := true }, kinds := [], alts := [], laidByText := true, laidKinds := [.handle], laidTests := true, laidLooks := .later }
def FrameStreamsCardSaid : Prop := Claim7.holds Tryd.pinned (.plain (OpenSpec.ofChange frameStreamsSpec)) frameStreamsCard

/-- THE TIED CARD OF 'castellanlaw22.AskChecks'. -/
def askChecksCard : Claim7 := { stood := { row := askChecksRow, standIns := [], harness := (true, "3f3df9e1de805ca2bbba237003be9a83a2ad0ca40e4c8822c5886a13347d2804"), looks := true }, kinds := [], alts := [], laidByText := true, laidKinds := [.handle], laidTests := true, laidLooks := .later }
def AskChecksCardSaid : Prop := Claim7.holds Tryd.pinned (.plain (OpenSpec.ofChange askChecksSpec)) askChecksCard

/-- THE TIED CARD OF 'castellanlaw22.AskPuts'. -/
def askPutsCard : Claim7 := { stood := { row := askPutsRow, standIns := [], harness := (true, "3f3df9e1de805ca2bbba237003be9a83a2ad0ca40e4c8822c5886a13347d2804"), looks := true }, kinds := [], alts := [], laidByText := true, laidKinds := [.handle], laidTests := true, laidLooks := .later }
def AskPutsCardSaid : Prop := Claim7.holds Tryd.pinned (.plain (OpenSpec.ofChange askPutsSpec)) askPutsCard

/-- THE SECOND FORM's CARD OF 'castellanlaw04.FrameBack'. -/
def frameBackUptoCard : Claim7 := { stood := { row := frameBackUptoRow, standIns := [], harness := (true, "3f3df9e1de805ca2bbba237003be9a83a2ad0ca40e4c8822c5886a13347d2804"), looks := true }, kinds := [], alts := [], laidByText := true, laidKinds := [.handle], laidTests := true, laidLooks := .later }
def FrameBackUptoCardSaid : Prop := Claim7.holds Tryd.pinned (.plain (OpenSpec.upto frameBackSpec)) frameBackUptoCard

/-- THE SECOND FORM's CARD OF 'castellanlaw04.FrameSpoilt'. -/
def frameSpoiltUptoCard : Claim7 := { stood := { row := frameSpoiltUptoRow, standIns := [], harness := (true, "3f3df9e1de805ca2bbba237003be9a83a2ad0ca40e4c8822c5886a13347d2804"), looks := true }, kinds := [], alts := [], laidByText := true, laidKinds := [.handle], laidTests := true, laidLooks := .later }
def FrameSpoiltUptoCardSaid : Prop := Claim7.holds Tryd.pinned (.plain (OpenSpec.upto frameSpoiltSpec)) frameSpoiltUptoCard

/-- THE SECOND FORM's CARD OF 'castellanlaw04.FramePuts'. -/
def framePutsUptoCard : Claim7 := { stood := { row := framePutsUptoRow, standIns := [], harness := (true, "3f3df9e1de805ca2bbba237003be9a83a2ad0ca40e4c8822c5886a13347d2804"), looks := true }, kinds := [], alts := [], laidByText := true, laidKinds := [.handle], laidTests := true, laidLooks := .later }
def FramePutsUptoCardSaid : Prop := Claim7.holds Tryd.pinned (.plain (OpenSpec.upto framePutsSpec)) framePutsUptoCard

/-- THE SECOND FORM's CARD OF 'castellanlaw04.FrameNext'. -/
def frameNextUptoCard : Claim7 := { stood := { row := frameNextUptoRow, standIns := [], harness := (true, "3f3df9e1de805ca2bbba237003be9a83a2ad0ca40e4c8822c5886a13347d2804"), looks := true }, kinds := [], alts := [], laidByText := true, laidKinds := [.handle], laidTests := true, laidLooks := .later }
def FrameNextUptoCardSaid : Prop := Claim7.holds Tryd.pinned (.plain (OpenSpec.upto frameNextSpec)) frameNextUptoCard

/-- THE SECOND FORM's CARD OF 'castellanlaw04.FrameStreams'. -/
def frameStreamsUptoCard : Claim7 := { stood := { row := frameStreamsUptoRow, standIns := [], harness := (true, "3f3df9e1de805ca2bbba237003be9a83a2ad0ca40e4c8822c5886a13347d2804"), looks := true }, kinds := [], alts := [], laidByText := true, laidKinds := [.handle], laidTests := true, laidLooks := .later }
def FrameStreamsUptoCardSaid : Prop := Claim7.holds Tryd.pinned (.plain (OpenSpec.upto frameStreamsSpec)) frameStreamsUptoCard

/-- THE SECOND FORM's CARD OF 'castellanlaw22.AskChecks'. -/
def askChecksUptoCard : Claim7 := { stood := { row := askChecksUptoRow, standIns := [], harness := (true, "3f3df9e1de805ca2bbba237003be9a83a2ad0ca40e4c8822c5886a13347d2804"), looks := true }, kinds := [], alts := [], laidByText := true, laidKinds := [.handle], laidTests := true, laidLooks := .later }
def AskChecksUptoCardSaid : Prop := Claim7.holds Tryd.pinned (.plain (OpenSpec.upto askChecksSpec)) askChecksUptoCard

/-- THE SECOND FORM's CARD OF 'castellanlaw22.AskPuts'. -/
def askPutsUptoCard : Claim7 := { stood := { row := askPutsUptoRow, standIns := [], harness := (true, "3f3df9e1de805ca2bbba237003be9a83a2ad0ca40e4c8822c5886a13347d2804"), looks := true }, kinds := [], alts := [], laidByText := true, laidKinds := [.handle], laidTests := true, laidLooks := .later }
def AskPutsUptoCardSaid : Prop := Claim7.holds Tryd.pinned (.plain (OpenSpec.upto askPutsSpec)) askPutsUptoCard
end Rows
end Go.Proofs.YtjgnbbakamellaaDoor
