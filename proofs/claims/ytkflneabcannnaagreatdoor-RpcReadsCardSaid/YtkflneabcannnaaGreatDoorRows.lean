/-
  NARROWER THAN 'FOR EVERY INPUT', by the rows' own cells (each row's printed sentence says how): RpcBack: laid · RpcOnce: laid · RpcChecks: laid · RpcPuts: laid · RpcReads: laid.
  DERIVED. THE GIVEN ROWS OF THIS SEAT. 5 by the template 'for every input the law returns true; each argument reads behind the call as it read before'; 0 by the template 'total and deterministic' (their statements: YtkflneabcannnaaGreatDoorTotals.lean).
  GIVEN WITH THE SEED: the statements are not yours to turn. If you find one false, say at which input.
  Laid BY PROGRAM, IN A SANDBOX (cutbox-rows.mjs): the forced cells as the released guide's own fill.sh prints them over the translation 7555334501b945b1… (all of the seat's roots in one cut). By AI agents, Wed Nov 11 2026. No macro, syntax, notation, axiom, sorry.
-/
import Derived.Test.YtkflneabcannnaaGreatDoorChecked
import GoSem.Claim
import GoSem.ClaimJoined
import GoSem.ClaimMapViews
import Derived.JoinedTies
import Derived.KernelRfl
namespace Go.Proofs.YtkflneabcannnaaGreatDoor
/- THE CELL 'sum', in the pinned program and in every row, IS THE sha256 OF THE DUMP (.gsa) THAT YtkflneabcannnaaGreatDoorProg.lean LOADS. Nothing in Lean hashes anything: it is a label: what it is worth is what the hold of that sum in a sandbox is worth. -/
noncomputable def Tryz.pinned : Pinned := { name := "ytkflneabcannnaagreatdoor", sum := "7555334501b945b1cbfecf9a51360490ef523916aca95fe8a5ba5529fb985245", checked := Tryz.checked }
namespace Rows
def none {H : Type} : Left H := { results := [], args := [] }

/- WHAT THE LISTED PACKAGE-LEVEL VARIABLES READ AS WHEN THE CALL BEGINS. Each datum BY PROGRAM (the guide's laid-datum.mjs) off the statement by which the dump's own 'gosem.cut.vars' lays the variable. In a bare row this is a premise. The card (YtkflneabcannnaaGreatDoorCards.lean) ties it to the program's text. -/
def laid_errors_errorType {H : Type} : DataW H := .iface "internal/reflectlite.rtype" (.agg [.ptr (.lit (.string [101, 114, 114, 111, 114]))])

/-- 'castellanlaw07.RpcBack': WHATEVER THE INPUT: true; the input reads as it did. -/
def rpcBackSpec : ChangeSpec := { name := "rpcBack", fn := fun _ => fun
  | [d] => { results := [.lit (.bool true)], args := [d] }
  | _ => none }
def rpcBackRow : OpenClaim := { program := "ytkflneabcannnaagreatdoor", sum := "7555334501b945b1cbfecf9a51360490ef523916aca95fe8a5ba5529fb985245", func := "castellan/castellanlaw07.RpcBack", spec := "rpcBack", inPlace := ["internal/reflectlite.ValueOf", "(internal/reflectlite.Value).Type", "(internal/reflectlite.Value).IsNil", "internal/reflectlite.TypeOf", "(internal/reflectlite.Value).Elem", "(internal/reflectlite.Value).Set"], unfollowed := true, recurses := true, named := ["errors.errorType"], apart := false, laid := [("errors.errorType", laid_errors_errorType)] }
def RpcBackSaid : Prop := rpcBackRow.holds Tryz.pinned (OpenSpec.ofChange rpcBackSpec)

/-- ITS FALSE NEIGHBOUR: 'it returns false'. Refute it at one input. -/
def rpcBackWrong : ChangeSpec := { name := "rpcBack", fn := fun _ => fun
  | [d] => { results := [.lit (.bool false)], args := [d] }
  | _ => none }
def RpcBackWrongFalsely : Prop := rpcBackRow.holds Tryz.pinned (OpenSpec.ofChange rpcBackWrong)

/-- 'castellanlaw07.RpcOnce': WHATEVER THE INPUT: true; the input reads as it did. -/
def rpcOnceSpec : ChangeSpec := { name := "rpcOnce", fn := fun _ => fun
  | [d1, d2] => { results := [.lit (.bool true)], args := [d1, d2] }
  | _ => none }
def rpcOnceRow : OpenClaim := { program := "ytkflneabcannnaagreatdoor", sum := "7555334501b945b1cbfecf9a51360490ef523916aca95fe8a5ba5529fb985245", func := "castellan/castellanlaw07.RpcOnce", spec := "rpcOnce", inPlace := ["internal/reflectlite.ValueOf", "(internal/reflectlite.Value).Type", "(internal/reflectlite.Value).IsNil", "internal/reflectlite.TypeOf", "(internal/reflectlite.Value).Elem", "(internal/reflectlite.Value).Set"], unfollowed := true, recurses := true, named := ["errors.errorType"], apart := false, laid := [("errors.errorType", laid_errors_errorType)] }
def RpcOnceSaid : Prop := rpcOnceRow.holds Tryz.pinned (OpenSpec.ofChange rpcOnceSpec)

/-- ITS FALSE NEIGHBOUR: 'it returns false'. Refute it at one input. -/
def rpcOnceWrong : ChangeSpec := { name := "rpcOnce", fn := fun _ => fun
  | [d1, d2] => { results := [.lit (.bool false)], args := [d1, d2] }
  | _ => none }
def RpcOnceWrongFalsely : Prop := rpcOnceRow.holds Tryz.pinned (OpenSpec.ofChange rpcOnceWrong)

/-- 'castellanlaw07.RpcChecks': WHATEVER THE INPUT: true; the input reads as it did. -/
def rpcChecksSpec : ChangeSpec := { name := "rpcChecks", fn := fun _ => fun
  | [d1, d2] => { results := [.lit (.bool true)], args := [d1, d2] }
  | _ => none }
def rpcChecksRow : OpenClaim := { program := "ytkflneabcannnaagreatdoor", sum := "7555334501b945b1cbfecf9a51360490ef523916aca95fe8a5ba5529fb985245", func := "castellan/castellanlaw07.RpcChecks", spec := "rpcChecks", inPlace := ["internal/reflectlite.ValueOf", "(internal/reflectlite.Value).Type", "(internal/reflectlite.Value).IsNil", "internal/reflectlite.TypeOf", "(internal/reflectlite.Value).Elem", "(internal/reflectlite.Value).Set"], unfollowed := true, recurses := true, named := ["errors.errorType"], apart := false, laid := [("errors.errorType", laid_errors_errorType)] }
def RpcChecksSaid : Prop := rpcChecksRow.holds Tryz.pinned (OpenSpec.ofChange rpcChecksSpec)

/-- ITS FALSE NEIGHBOUR: 'it returns false'. Refute it at one input. -/
def rpcChecksWrong : ChangeSpec := { name := "rpcChecks", fn := fun _ => fun
  | [d1, d2] => { results := [.lit (.bool false)], args := [d1, d2] }
  | _ => none }
def RpcChecksWrongFalsely : Prop := rpcChecksRow.holds Tryz.pinned (OpenSpec.ofChange rpcChecksWrong)

/-- 'castellanlaw07.RpcPuts': WHATEVER THE INPUT: true; the input reads as it did. -/
def rpcPutsSpec : ChangeSpec := { name := "rpcPuts", fn := fun _ => fun
  | [d] => { results := [.lit (.bool true)], args := [d] }
  | _ => none }
def rpcPutsRow : OpenClaim := { program := "ytkflneabcannnaagreatdoor", sum := "7555334501b945b1cbfecf9a51360490ef523916aca95fe8a5ba5529fb985245", func := "castellan/castellanlaw07.RpcPuts", spec := "rpcPuts", inPlace := ["internal/reflectlite.ValueOf", "(internal/reflectlite.Value).Type", "(internal/reflectlite.Value).IsNil", "internal/reflectlite.TypeOf", "(internal/reflectlite.Value).Elem", "(internal/reflectlite.Value).Set"], unfollowed := true, recurses := true, named := ["errors.errorType"], apart := false, laid := [("errors.errorType", laid_errors_errorType)] }
def RpcPutsSaid : Prop := rpcPutsRow.holds Tryz.pinned (OpenSpec.ofChange rpcPutsSpec)

/-- ITS FALSE NEIGHBOUR: 'it returns false'. Refute it at one input. -/
def rpcPutsWrong : ChangeSpec := { name := "rpcPuts", fn := fun _ => fun
  | [d] => { results := [.lit (.bool false)], args := [d] }
  | _ => none }
def RpcPutsWrongFalsely : Prop := rpcPutsRow.holds Tryz.pinned (OpenSpec.ofChange rpcPutsWrong)

/-- 'castellanlaw07.RpcReads': WHATEVER THE INPUT: true; the input reads as it did. -/
def rpcReadsSpec : ChangeSpec := { name := "rpcReads", fn := fun _ => fun
  | [d1, d2] => { results := [.lit (.bool true)], args := [d1, d2] }
  | _ => none }
def rpcReadsRow : OpenClaim := { program := "ytkflneabcannnaagreatdoor", sum := "7555334501b945b1cbfecf9a51360490ef523916aca95fe8a5ba5529fb985245", func := "castellan/castellanlaw07.RpcReads", spec := "rpcReads", inPlace := ["internal/reflectlite.ValueOf", "(internal/reflectlite.Value).Type", "(internal/reflectlite.Value).IsNil", "internal/reflectlite.TypeOf", "(internal/reflectlite.Value).Elem", "(internal/reflectlite.Value).Set"], unfollowed := true, recurses := true, named := ["errors.errorType"], apart := false, laid := [("errors.errorType", laid_errors_errorType)] }
def RpcReadsSaid : Prop := rpcReadsRow.holds Tryz.pinned (OpenSpec.ofChange rpcReadsSpec)

/-- ITS FALSE NEIGHBOUR: 'it returns false'. Refute it at one input. -/
def rpcReadsWrong : ChangeSpec := { name := "rpcReads", fn := fun _ => fun
  | [d1, d2] => { results := [.lit (.bool false)], args := [d1, d2] }
  | _ => none }
def RpcReadsWrongFalsely : Prop := rpcReadsRow.holds Tryz.pinned (OpenSpec.ofChange rpcReadsWrong)

/- THE SECOND FORM. 'bulk': how many values and letters a reading holds, each counted each time it is reached (what is shared counts as often as it is met; a slice's spare places count too). A statement '..UptoSaid' is the law's where the arguments, and the package variables that the reading takes, are together of bulk at most 1048576: NARROWER than '..Said'. Prove '..Said' where nothing that the law and all that it calls make is longer than what came in: it says more and counts as full. Else prove '..UptoSaid'. A law counts once. -/
mutual
def uptoBulk {H : Type} : DataW H → Nat
  | .lit (.string bytes) => bytes.length + 1
  | .lit _ => 1
  | .nil => 1
  | .ptr d => uptoBulk d + 1
  | .slice elems spare => uptoBulkAll elems + uptoBulkAll spare + 1
  | .agg parts => uptoBulkAll parts + 1
  | .iface _ d => uptoBulk d + 1
  | .map entries => uptoBulkEntries entries + 1
  | .held _ => 1
def uptoBulkAll {H : Type} : List (DataW H) → Nat
  | [] => 0
  | d :: r => uptoBulk d + uptoBulkAll r
def uptoBulkEntries {H : Type} : List (Lit × DataW H) → Nat
  | [] => 0
  | x :: r => uptoBulkEntry x + uptoBulkEntries r
def uptoBulkEntry {H : Type} : Lit × DataW H → Nat
  | (.string bytes, d) => bytes.length + uptoBulk d + 1
  | (_, d) => uptoBulk d + 1
 end
def uptoSmall : (H : Type) → List (DataW H) → Bool := fun _ ds => decide (uptoBulkAll ds ≤ 1048576)
def OpenSpec.upto (s : _root_.Go.ChangeSpec) : _root_.Go.OpenSpec := { _root_.Go.OpenSpec.ofChange s with cond := some uptoSmall }

/-- 'castellanlaw07.RpcBack', WHERE WHAT IT READS IS OF BULK AT MOST 1048576: true; the input reads as it did. -/
def rpcBackUptoRow : OpenClaim := { program := "ytkflneabcannnaagreatdoor", sum := "7555334501b945b1cbfecf9a51360490ef523916aca95fe8a5ba5529fb985245", func := "castellan/castellanlaw07.RpcBack", spec := "rpcBack", inPlace := ["internal/reflectlite.ValueOf", "(internal/reflectlite.Value).Type", "(internal/reflectlite.Value).IsNil", "internal/reflectlite.TypeOf", "(internal/reflectlite.Value).Elem", "(internal/reflectlite.Value).Set"], unfollowed := true, recurses := true, named := ["errors.errorType"], apart := false, laid := [("errors.errorType", laid_errors_errorType)], narrowed := true }
def RpcBackUptoSaid : Prop := rpcBackUptoRow.holds Tryz.pinned (OpenSpec.upto rpcBackSpec)

/-- 'castellanlaw07.RpcOnce', WHERE WHAT IT READS IS OF BULK AT MOST 1048576: true; the input reads as it did. -/
def rpcOnceUptoRow : OpenClaim := { program := "ytkflneabcannnaagreatdoor", sum := "7555334501b945b1cbfecf9a51360490ef523916aca95fe8a5ba5529fb985245", func := "castellan/castellanlaw07.RpcOnce", spec := "rpcOnce", inPlace := ["internal/reflectlite.ValueOf", "(internal/reflectlite.Value).Type", "(internal/reflectlite.Value).IsNil", "internal/reflectlite.TypeOf", "(internal/reflectlite.Value).Elem", "(internal/reflectlite.Value).Set"], unfollowed := true, recurses := true, named := ["errors.errorType"], apart := false, laid := [("errors.errorType", laid_errors_errorType)], narrowed := true }
def RpcOnceUptoSaid : Prop := rpcOnceUptoRow.holds Tryz.pinned (OpenSpec.upto rpcOnceSpec)

/-- 'castellanlaw07.RpcChecks', WHERE WHAT IT READS IS OF BULK AT MOST 1048576: true; the input reads as it did. -/
def rpcChecksUptoRow : OpenClaim := { program := "ytkflneabcannnaagreatdoor", sum := "7555334501b945b1cbfecf9a51360490ef523916aca95fe8a5ba5529fb985245", func := "castellan/castellanlaw07.RpcChecks", spec := "rpcChecks", inPlace := ["internal/reflectlite.ValueOf", "(internal/reflectlite.Value).Type", "(internal/reflectlite.Value).IsNil", "internal/reflectlite.TypeOf", "(internal/reflectlite.Value).Elem", "(internal/reflectlite.Value).Set"], unfollowed := true, recurses := true, named := ["errors.errorType"], apart := false, laid := [("errors.errorType", laid_errors_errorType)], narrowed := true }
def RpcChecksUptoSaid : Prop := rpcChecksUptoRow.holds Tryz.pinned (OpenSpec.upto rpcChecksSpec)

/-- 'castellanlaw07.RpcPuts', WHERE WHAT IT READS IS OF BULK AT MOST 1048576: true; the input reads as it did. -/
def rpcPutsUptoRow : OpenClaim := { program := "ytkflneabcannnaagreatdoor", sum := "7555334501b945b1cbfecf9a51360490ef523916aca95fe8a5ba5529fb985245", func := "castellan/castellanlaw07.RpcPuts", spec := "rpcPuts", inPlace := ["internal/reflectlite.ValueOf", "(internal/reflectlite.Value).Type", "(internal/reflectlite.Value).IsNil", "internal/reflectlite.TypeOf", "(internal/reflectlite.Value).Elem", "(internal/reflectlite.Value).Set"], unfollowed := true, recurses := true, named := ["errors.errorType"], apart := false, laid := [("errors.errorType", laid_errors_errorType)], narrowed := true }
def RpcPutsUptoSaid : Prop := rpcPutsUptoRow.holds Tryz.pinned (OpenSpec.upto rpcPutsSpec)

/-- 'castellanlaw07.RpcReads', WHERE WHAT IT READS IS OF BULK AT MOST 1048576: true; the input reads as it did. -/
def rpcReadsUptoRow : OpenClaim := { program := "ytkflneabcannnaagreatdoor", sum := "7555334501b945b1cbfecf9a51360490ef523916aca95fe8a5ba5529fb985245", func := "castellan/castellanlaw07.RpcReads", spec := "rpcReads", inPlace := ["internal/reflectlite.ValueOf", "(internal/reflectlite.Value).Type", "(internal/reflectlite.Value).IsNil", "internal/reflectlite.TypeOf", "(internal/reflectlite.Value).Elem", "(internal/reflectlite.Value).Set"], unfollowed := true, recurses := true, named := ["errors.errorType"], apart := false, laid := [("errors.errorType", laid_errors_errorType)], narrowed := true }
def RpcReadsUptoSaid : Prop := rpcReadsUptoRow.holds Tryz.pinned (OpenSpec.upto rpcReadsSpec)

end Rows
end Go.Proofs.YtkflneabcannnaaGreatDoor
