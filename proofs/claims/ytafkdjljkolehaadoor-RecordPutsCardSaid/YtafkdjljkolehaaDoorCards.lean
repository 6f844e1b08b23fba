/-
  DERIVED. GIVEN WITH THE SEED: THE CARDS: each row of YtafkdjljkolehaaDoorRows.lean that lists a variable, with what it lists TIED to the program's text (the seventh form; the later family's looks); each row that meets fmt, with fmt's text TOLD by the authors' own Lean function (tested against real Go, not proved from fmt's source: count such statements apart). THE CARD IS WHAT COUNTS. Prove the row's statement (the work); the ties are given (YtafkdjljkolehaaDoorTie.lean); close each card by the builder's one call (the guide's Derived/Test/ToyasCard.lean, 'card_holds'). Laid BY PROGRAM, IN A SANDBOX (cutbox-door.mjs). By AI agents, Wed Nov 11 2026. No macro, syntax, notation, axiom, sorry.
-/
import Derived.Test.YtafkdjljkolehaaDoorRows
import GoSem.ClaimSeven
namespace Go.Proofs.YtafkdjljkolehaaDoor
namespace Rows

/-- THE TIED CARD OF 'castellanlaw05.RecordShort'. -/
def recordShortCard : Claim7 := { stood := { row := recordShortRow, standIns := [], harness := (true, "a1f087f543c9484f5ba3afff5d5e7b79272149bc10bd510889e8db7e3e0cd29f"), looks := true }, kinds := [], alts := [], laidByText := true, laidKinds := [.handle], laidTests := true, laidLooks := .later }
def RecordShortCardSaid : Prop := Claim7.holds Tryd.pinned (.plain (OpenSpec.ofChange recordShortSpec)) recordShortCard

/-- THE TIED CARD OF 'castellanlaw05.RecordBack'. -/
def recordBackCard : Claim7 := { stood := { row := recordBackRow, standIns := [], harness := (true, "a1f087f543c9484f5ba3afff5d5e7b79272149bc10bd510889e8db7e3e0cd29f"), looks := true }, kinds := [], alts := [], laidByText := true, laidKinds := [.handle], laidTests := true, laidLooks := .later }
def RecordBackCardSaid : Prop := Claim7.holds Tryd.pinned (.plain (OpenSpec.ofChange recordBackSpec)) recordBackCard

/-- THE TIED CARD OF 'castellanlaw05.RecordChecks'. -/
def recordChecksCard : Claim7 := { stood := { row := recordChecksRow, standIns := [], harness := (true, "a1f087f543c9484f5ba3afff5d5e7b79272149bc10bd510889e8db7e3e0cd29f"), looks := true }, kinds := [], alts := [], laidByText := true, laidKinds := [.handle], laidTests := true, laidLooks := .later }
def RecordChecksCardSaid : Prop := Claim7.holds Tryd.pinned (.plain (OpenSpec.ofChange recordChecksSpec)) recordChecksCard

/-- THE TIED CARD OF 'castellanlaw05.RecordPuts'. -/
def recordPutsCard : Claim7 := { stood := { row := recordPutsRow, standIns := [], harness := (true, "a1f087f543c9484f5ba3afff5d5e7b79272149bc10bd510889e8db7e3e0cd29f"), looks := true }, kinds := [], alts := [], laidByText := true, laidKinds := [.handle], laidTests := true, laidLooks := .later }
def RecordPutsCardSaid : Prop := Claim7.holds Tryd.pinned (.plain (OpenSpec.ofChange recordPutsSpec)) recordPutsCard

/-- THE SECOND FORM's CARD OF 'castellanlaw05.RecordShort'. -/
def recordShortUptoCard : Claim7 := { stood := { row := recordShortUptoRow, standIns := [], harness := (true, "a1f087f543c9484f5ba3afff5d5e7b79272149bc10bd510889e8db7e3e0cd29f"), looks := true }, kinds := [], alts := [], laidByText := true, laidKinds := [.handle], laidTests := true, laidLooks := .later }
def RecordShortUptoCardSaid : Prop := Claim7.holds Tryd.pinned (.plain (OpenSpec.upto recordShortSpec)) recordShortUptoCard

/-- THE SECOND FORM's CARD OF 'castellanlaw05.RecordBack'. -/
def recordBackUptoCard : Claim7 := { stood := { row := recordBackUptoRow, standIns := [], harness := (true, "a1f087f543c9484f5ba3afff5d5e7b79272149bc10bd510889e8db7e3e0cd29f"), looks := true }, kinds := [], alts := [], laidByText := true, laidKinds := [.handle], laidTests := true, laidLooks := .later }
def RecordBackUptoCardSaid : Prop := Claim7.holds Tryd.pinned (.plain (OpenSpec.upto recordBackSpec)) recordBackUptoCard

/-- THE SECOND FORM's CARD OF 'castellanlaw05.RecordChecks'. -/
def recordChecksUptoCard : Claim7 := { stood := { row := recordChecksUptoRow, standIns := [], harness := (true, "a1f087f543c9484f5ba3afff5d5e7b79272149bc10bd510889e8db7e3e0cd29f"), looks := true }, kinds := [], alts := [], laidByText := true, laidKinds := [.handle], laidTests := true, laidLooks := .later }
def RecordChecksUptoCardSaid : Prop := Claim7.holds Tryd.pinned (.plain (OpenSpec.upto recordChecksSpec)) recordChecksUptoCard

/-- THE SECOND FORM's CARD OF 'castellanlaw05.RecordPuts'. -/
def recordPutsUptoCard : Claim7 := { stood := { row := recordPutsUptoRow, standIns := [], harness := (true, "a1f087f543c9484f5ba3afff5d5e7b79272149bc10bd510889e8db7e3e0cd29f"), looks := true }, kinds := [], alts := [], laidByText := true, laidKinds := [.handle], laidTests := true, laidLooks := .later }
def RecordPutsUptoCardSaid : Prop := Claim7.holds Tryd.pinned (.plain (OpenSpec.upto recordPutsSpec)) recordPutsUptoCard
end Rows
end Go.Proofs.YtafkdjljkolehaaDoor
