/-
  NARROWER THAN 'FOR EVERY INPUT', by the rows' own cells (each row's printed sentence says how): DumpChecks: laid · DumpPuts: laid · DumpReads: laid.
  DERIVED. THE GIVEN ROWS OF THIS SEAT. 3 by the template 'for every input the law returns true; each argument reads behind the call as it read before'; 0 by the template 'total and deterministic' (their statements: YtpcbipcdfccnnaaGreatDoorTotals.lean).
  GIVEN WITH THE SEED: the statements are not yours to turn. If you find one false, say at which input.
  Laid BY PROGRAM, IN A SANDBOX (cutbox-rows.mjs): the forced cells as the released guide's own fill.sh prints them over the translation 4c18ca098212ff0c… (all of the seat's roots in one cut). By AI agents, Wed Nov 11 2026. No macro, syntax, notation, axiom, sorry.
-/
import Derived.Test.YtpcbipcdfccnnaaGreatDoorChecked
import GoSem.Claim
import GoSem.ClaimJoined
import GoSem.ClaimMapViews
import Derived.JoinedTies
import Derived.KernelRfl
namespace Go.Proofs.YtpcbipcdfccnnaaGreatDoor
/- THE CELL 'sum', in the pinned program and in every row, IS THE sha256 OF THE DUMP (.gsa) THAT YtpcbipcdfccnnaaGreatDoorProg.lean LOADS. Nothing in Lean hashes anything: it is a label: what it is worth is what the hold of that sum in a sandbox is worth. -/
noncomputable def Tryz.pinned : Pinned := { name := "ytpcbipcdfccnnaagreatdoor", sum := "4c18ca098212ff0cd3bde7c172dc4a533dfd09903684b5a72b165a2b1e5baec7", checked := Tryz.checked }
namespace Rows
def none {H : Type} : Left H := { results := [], args := [] }

/- WHAT THE LISTED PACKAGE-LEVEL VARIABLES READ AS WHEN THE CALL BEGINS. Each datum BY PROGRAM (the guide's laid-datum.mjs) off the statement by which the dump's own 'gosem.cut.vars' lays the variable. In a bare row this is a premise. The card (YtpcbipcdfccnnaaGreatDoorCards.lean) ties it to the program's text. -/
def laid_errors_errorType {H : Type} : DataW H := .iface "internal/reflectlite.rtype" (.agg [.ptr (.lit (.string [101, 114, 114, 111, 114]))])

/-- 'castellanlaw16.DumpChecks': WHATEVER THE INPUT: true; the input reads as it did. -/
def dumpChecksSpec : ChangeSpec := { name := "dumpChecks", fn := fun _ => fun
  | [d] => { results := [.lit (.bool true)], args := [d] }
  | _ => none }
def dumpChecksRow : OpenClaim := { program := "ytpcbipcdfccnnaagreatdoor", sum := "4c18ca098212ff0cd3bde7c172dc4a533dfd09903684b5a72b165a2b1e5baec7", func := "castellan/castellanlaw16.DumpChecks", spec := "dumpChecks", inPlace := ["internal/reflectlite.TypeOf", "internal/reflectlite.ValueOf", "(internal/reflectlite.Value).Type", "(internal/reflectlite.Value).IsNil", "(internal/reflectlite.Value).Elem", "(internal/reflectlite.Value).Set"], unfollowed := true, recurses := true, named := ["errors.errorType"], plainKeys := false, apart := false, laid := [("errors.errorType", laid_errors_errorType)] }
def DumpChecksSaid : Prop := dumpChecksRow.holds Tryz.pinned (OpenSpec.ofChange dumpChecksSpec)

/-- ITS FALSE NEIGHBOUR: 'it returns false'. Refute it at one input. -/
def dumpChecksWrong : ChangeSpec := { name := "dumpChecks", fn := fun _ => fun
  | [d] => { results := [.lit (.bool false)], args := [d] }
  | _ => none }
def DumpChecksWrongFalsely : Prop := dumpChecksRow.holds Tryz.pinned (OpenSpec.ofChange dumpChecksWrong)

/-- 'castellanlaw16.DumpPuts': WHATEVER THE INPUT: true; the input reads as it did. -/
def dumpPutsSpec : ChangeSpec := { name := "dumpPuts", fn := fun _ => fun
  | [d] => { results := [.lit (.bool true)], args := [d] }
  | _ => none }
def dumpPutsRow : OpenClaim := { program := "ytpcbipcdfccnnaagreatdoor", sum := "4c18ca098212ff0cd3bde7c172dc4a533dfd09903684b5a72b165a2b1e5baec7", func := "castellan/castellanlaw16.DumpPuts", spec := "dumpPuts", inPlace := ["internal/reflectlite.TypeOf", "internal/reflectlite.ValueOf", "(internal/reflectlite.Value).Type", "(internal/reflectlite.Value).IsNil", "(internal/reflectlite.Value).Elem", "(internal/reflectlite.Value).Set"], unfollowed := true, recurses := true, named := ["errors.errorType"], plainKeys := false, apart := false, laid := [("errors.errorType", laid_errors_errorType)] }
def DumpPutsSaid : Prop := dumpPutsRow.holds Tryz.pinned (OpenSpec.ofChange dumpPutsSpec)

/-- ITS FALSE NEIGHBOUR: 'it returns false'. Refute it at one input. -/
def dumpPutsWrong : ChangeSpec := { name := "dumpPuts", fn := fun _ => fun
  | [d] => { results := [.lit (.bool false)], args := [d] }
  | _ => none }
def DumpPutsWrongFalsely : Prop := dumpPutsRow.holds Tryz.pinned (OpenSpec.ofChange dumpPutsWrong)

/-- 'castellanlaw16.DumpReads': WHATEVER THE INPUT: true; the input reads as it did. -/
def dumpReadsSpec : ChangeSpec := { name := "dumpReads", fn := fun _ => fun
  | [d] => { results := [.lit (.bool true)], args := [d] }
  | _ => none }
def dumpReadsRow : OpenClaim := { program := "ytpcbipcdfccnnaagreatdoor", sum := "4c18ca098212ff0cd3bde7c172dc4a533dfd09903684b5a72b165a2b1e5baec7", func := "castellan/castellanlaw16.DumpReads", spec := "dumpReads", inPlace := ["internal/reflectlite.TypeOf", "internal/reflectlite.ValueOf", "(internal/reflectlite.Value).Type", "(internal/reflectlite.Value).IsNil", "(internal/reflectlite.Value).Elem", "(internal/reflectlite.Value).Set"], unfollowed := true, recurses := true, named := ["errors.errorType"], plainKeys := false, apart := false, laid := [("errors.errorType", laid_errors_errorType)] }
def DumpReadsSaid : Prop := dumpReadsRow.holds Tryz.pinned (OpenSpec.ofChange dumpReadsSpec)

/-- ITS FALSE NEIGHBOUR: 'it returns false'. Refute it at one input. -/
def dumpReadsWrong : ChangeSpec := { name := "dumpReads", fn := fun _ => fun
  | [d] => { results := [.lit (.bool false)], args := [d] }
  | _ => none }
def DumpReadsWrongFalsely : Prop := dumpReadsRow.holds Tryz.pinned (OpenSpec.ofChange dumpReadsWrong)

/- THE SECOND FORM. 'bulk': how many values and letters a reading holds, each counted each time it is reached (what is shared counts as often as it is met; a slice's spare places count too). A statement '..UptoSaid' is the law's where the arguments, and the package variables that the reading takes, are together of bulk at most 1048576: NARROWER than '..Said'. Prove '..Said' where nothing that the law and all that it calls make is longer than what came in: it says more and counts as full. Else prove '..UptoSaid'. A law counts once. -/
mutual
def uptoBulk {H : Type} : DataW H → Nat
  | .lit (.string bytes) => bytes.length + 1
  | .lit _ => 1
  | .nil => 1
  | .ptr d => uptoBulk d + 1
  | .slice elems spare => uptoBulkAll elems + uptoBulkAll spare + 1
  | .agg parts => uptoBulkAll parts + 1
  | .iface _ d => uptoBulk d + 1
  | .map entries => uptoBulkEntries entries + 1
  | .held _ => 1
def uptoBulkAll {H : Type} : List (DataW H) → Nat
  | [] => 0
  | d :: r => uptoBulk d + uptoBulkAll r
def uptoBulkEntries {H : Type} : List (Lit × DataW H) → Nat
  | [] => 0
  | x :: r => uptoBulkEntry x + uptoBulkEntries r
def uptoBulkEntry {H : Type} : Lit × DataW H → Nat
  | (.string bytes, d) => bytes.length + uptoBulk d + 1
  | (_, d) => uptoBulk d + 1
 end
def uptoSmall : (H : Type) → List (DataW H) → Bool := fun _ ds => decide (uptoBulkAll ds ≤ 1048576)
def OpenSpec.upto (s : _root_.Go.ChangeSpec) : _root_.Go.OpenSpec := { _root_.Go.OpenSpec.ofChange s with cond := some uptoSmall }

/-- 'castellanlaw16.DumpChecks', WHERE WHAT IT READS IS OF BULK AT MOST 1048576: true; the input reads as it did. -/
def dumpChecksUptoRow : OpenClaim := { program := "ytpcbipcdfccnnaagreatdoor", sum := "4c18ca098212ff0cd3bde7c172dc4a533dfd09903684b5a72b165a2b1e5baec7", func := "castellan/castellanlaw16.DumpChecks", spec := "dumpChecks", inPlace := ["internal/reflectlite.TypeOf", "internal/reflectlite.ValueOf", "(internal/reflectlite.Value).Type", "(internal/reflectlite.Value).IsNil", "(internal/reflectlite.Value).Elem", "(internal/reflectlite.Value).Set"], unfollowed := true, recurses := true, named := ["errors.errorType"], plainKeys := false, apart := false, laid := [("errors.errorType", laid_errors_errorType)], narrowed := true }
def DumpChecksUptoSaid : Prop := dumpChecksUptoRow.holds Tryz.pinned (OpenSpec.upto dumpChecksSpec)

/-- 'castellanlaw16.DumpPuts', WHERE WHAT IT READS IS OF BULK AT MOST 1048576: true; the input reads as it did. -/
def dumpPutsUptoRow : OpenClaim := { program := "ytpcbipcdfccnnaagreatdoor", sum := "4c18ca098212ff0cd3bde7c172dc4a533dfd09903684b5a72b165a2b1e5baec7", func := "castellan/castellanlaw16.DumpPuts", spec := "dumpPuts", inPlace := ["internal/reflectlite.TypeOf", "internal/reflectlite.ValueOf", "(internal/reflectlite.Value).Type", "(internal/reflectlite.Value).IsNil", "(internal/reflectlite.Value).Elem", "(internal/reflectlite.Value).Set"], unfollowed := true, recurses := true, named := ["errors.errorType"], plainKeys := false, apart := false, laid := [("errors.errorType", laid_errors_errorType)], narrowed := true }
def DumpPutsUptoSaid : Prop := dumpPutsUptoRow.holds Tryz.pinned (OpenSpec.upto dumpPutsSpec)

/-- 'castellanlaw16.DumpReads', WHERE WHAT IT READS IS OF BULK AT MOST 1048576: true; the input reads as it did. -/
def dumpReadsUptoRow : OpenClaim := { program := "ytpcbipcdfccnnaagreatdoor", sum := "4c18ca098212ff0cd3bde7c172dc4a533dfd09903684b5a72b165a2b1e5baec7", func := "castellan/castellanlaw16.DumpReads", spec := "dumpReads", inPlace := ["internal/reflectlite.TypeOf", "internal/reflectlite.ValueOf", "(internal/reflectlite.Value).Type", "(internal/reflectlite.Value).IsNil", "(internal/reflectlite.Value).Elem", "(internal/reflectlite.Value).Set"], unfollowed := true, recurses := true, named := ["errors.errorType"], plainKeys := false, apart := false, laid := [("errors.errorType", laid_errors_errorType)], narrowed := true }
def DumpReadsUptoSaid : Prop := dumpReadsUptoRow.holds Tryz.pinned (OpenSpec.upto dumpReadsSpec)

end Rows
end Go.Proofs.YtpcbipcdfccnnaaGreatDoor
