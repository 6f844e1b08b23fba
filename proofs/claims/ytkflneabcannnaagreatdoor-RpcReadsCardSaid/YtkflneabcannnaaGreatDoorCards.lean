/-
  DERIVED. GIVEN WITH THE SEED: THE CARDS: each row of YtkflneabcannnaaGreatDoorRows.lean that lists a variable, with what it lists TIED to the program's text (the seventh form; the later family's looks); each row that meets fmt, with fmt's text TOLD by the authors' own Lean function (tested against real Go, not proved from fmt's source: count such statements apart). THE CARD IS WHAT COUNTS. Prove the row's statement (the work); the ties are given (YtkflneabcannnaaGreatDoorTie.lean); close each card by the builder's one call (the guide's Derived/Test/ToyasCard.lean, 'card_holds'). Laid BY PROGRAM, IN A SANDBOX (cutbox-door.mjs). By AI agents, Wed Nov 11 2026. No macro, syntax, notation, axiom, sorry.
-/
import Derived.Test.YtkflneabcannnaaGreatDoorRows
import GoSem.ClaimSeven
namespace Go.Proofs.YtkflneabcannnaaGreatDoor
namespace Rows

/-- THE TIED CARD OF 'castellanlaw07.RpcBack'. -/
def rpcBackCard : Claim7 := { stood := { row := rpcBackRow, standIns := [], harness := (true, "ff8807c7023d9e88fa0cb7c3ecf4dfbdfa033f3f04732f9e53ee7f496d22a81f"), looks := true }, kinds := [], alts := [], laidByText := true, laidKinds := [.handle], laidTests := true, laidLooks := .later }
def RpcBackCardSaid : Prop := Claim7.holds Tryz.pinned (.plain (OpenSpec.ofChange rpcBackSpec)) rpcBackCard

/-- THE TIED CARD OF 'castellanlaw07.RpcOnce'. -/
def rpcOnceCard : Claim7 := { stood := { row := rpcOnceRow, standIns := [], harness := (true, "ff8807c7023d9e88fa0cb7c3ecf4dfbdfa033f3f04732f9e53ee7f496d22a81f"), looks := true }, kinds := [], alts := [], laidByText := true, laidKinds := [.handle], laidTests := true, laidLooks := .later }
def RpcOnceCardSaid : Prop := Claim7.holds Tryz.pinned (.plain (OpenSpec.ofChange rpcOnceSpec)) rpcOnceCard

/-- THE TIED CARD OF 'castellanlaw07.RpcChecks'. -/
def rpcChecksCard : Claim7 := { stood := { row := rpcChecksRow, standIns := [], harness := (true, "ff8807c7023d9e88fa0cb7c3ecf4dfbdfa033f3f04732f9e53ee7f496d22a81f"), looks := true }, kinds := [], alts := [], laidByText := true, laidKinds := [.handle], laidTests := true, laidLooks := .later }
def RpcChecksCardSaid : Prop := Claim7.holds Tryz.pinned (.plain (OpenSpec.ofChange rpcChecksSpec)) rpcChecksCard

/-- THE TIED CARD OF 'castellanlaw07.RpcPuts'. -/
def rpcPutsCard : Claim7 := { stood := { row := rpcPutsRow, standIns := [], harness := (true, "ff8807c7023d9e88fa0cb7c3ecf4dfbdfa033f3f04732f9e53ee7f496d22a81f"), looks := true }, kinds := [], alts := [], laidByText := true, laidKinds := [.handle], laidTests := true, laidLooks := .later }
def RpcPutsCardSaid : Prop := Claim7.holds Tryz.pinned (.plain (OpenSpec.ofChange rpcPutsSpec)) rpcPutsCard

/-- THE TIED CARD OF 'castellanlaw07.RpcReads'. -/
def rpcReadsCard : Claim7 := { stood := { row := rpcReadsRow, standIns := [], harness := (true, "ff8807c7023d9e88fa0cb7c3ecf4dfbdfa033f3f04732f9e53ee7f496d22a81f"), looks := true }, kinds := [], alts := [], laidByText := true, laidKinds := [.handle], laidTests := true, laidLooks := .later }
def RpcReadsCardSaid : Prop := Claim7.holds Tryz.pinned (.plain (OpenSpec.ofChange rpcReadsSpec)) rpcReadsCard

/-- THE SECOND FORM's CARD OF 'castellanlaw07.RpcBack'. -/
def rpcBackUptoCard : Claim7 := { stood := { row := rpcBackUptoRow, standIns := [], harness := (true, "ff8807c7023d9e88fa0cb7c3ecf4dfbdfa033f3f04732f9e53ee7f496d22a81f"), looks := true }, kinds := [], alts := [], laidByText := true, laidKinds := [.handle], laidTests := true, laidLooks := .later }
def RpcBackUptoCardSaid : Prop := Claim7.holds Tryz.pinned (.plain (OpenSpec.upto rpcBackSpec)) rpcBackUptoCard

/-- THE SECOND FORM's CARD OF 'castellanlaw07.RpcOnce'. -/
def rpcOnceUptoCard : Claim7 := { stood := { row := rpcOnceUptoRow, standIns := [], harness := (true, "ff8807c7023d9e88fa0cb7c3ecf4dfbdfa033f3f04732f9e53ee7f496d22a81f"), looks := true }, kinds := [], alts := [], laidByText := true, laidKinds := [.handle], laidTests := true, laidLooks := .later }
def RpcOnceUptoCardSaid : Prop := Claim7.holds Tryz.pinned (.plain (OpenSpec.upto rpcOnceSpec)) rpcOnceUptoCard

/-- THE SECOND FORM's CARD OF 'castellanlaw07.RpcChecks'. -/
def rpcChecksUptoCard : Claim7 := { stood := { row := rpcChecksUptoRow, standIns := [], harness := (true, "ff8807c7023d9e88fa0cb7c3ecf4dfbdfa033f3f04732f9e53ee7f496d22a81f"), looks := true }, kinds := [], alts := [], laidByText := true, laidKinds := [.handle], laidTests := true, laidLooks := .later }
def RpcChecksUptoCardSaid : Prop := Claim7.holds Tryz.pinned (.plain (OpenSpec.upto rpcChecksSpec)) rpcChecksUptoCard

/-- THE SECOND FORM's CARD OF 'castellanlaw07.RpcPuts'. -/
def rpcPutsUptoCard : Claim7 := { stood := { row := rpcPutsUptoRow, standIns := [], harness := (true, "ff8807c7023d9e88fa0cb7c3ecf4dfbdfa033f3f04732f9e53ee7f496d22a81f"), looks := true }, kinds := [], alts := [], laidByText := true, laidKinds := [.handle], laidTests := true, laidLooks := .later }
def RpcPutsUptoCardSaid : Prop := Claim7.holds Tryz.pinned (.plain (OpenSpec.upto rpcPutsSpec)) rpcPutsUptoCard

/-- THE SECOND FORM's CARD OF 'castellanlaw07.RpcReads'. -/
def rpcReadsUptoCard : Claim7 := { stood := { row := rpcReadsUptoRow, standIns := [], harness := (true, "ff8807c7023d9e88fa0cb7c3ecf4dfbdfa033f3f04732f9e53ee7f496d22a81f"), looks := true }, kinds := [], alts := [], laidByText := true, laidKinds := [.handle], laidTests := true, laidLooks := .later }
def RpcReadsUptoCardSaid : Prop := Claim7.holds Tryz.pinned (.plain (OpenSpec.upto rpcReadsSpec)) rpcReadsUptoCard
end Rows
end Go.Proofs.YtkflneabcannnaaGreatDoor
