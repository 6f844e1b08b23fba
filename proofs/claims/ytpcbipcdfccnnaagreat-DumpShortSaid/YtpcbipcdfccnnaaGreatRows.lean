/-
  No cell of these rows narrows 'for every input' (looked for: loops, veiled, ifaces, maps, wideKeys, modest, calm, conditions, laid).
  DERIVED. THE GIVEN ROWS OF THIS SEAT. 3 by the template 'for every input the law returns true; each argument reads behind the call as it read before'; 0 by the template 'total and deterministic' (their statements: YtpcbipcdfccnnaaGreatTotals.lean).
  GIVEN WITH THE SEED: the statements are not yours to turn. If you find one false, say at which input.
  Laid BY PROGRAM, IN A SANDBOX (cutbox-rows.mjs): the forced cells as the released guide's own fill.sh prints them over the translation 0d54e4401ae71fe8… (all of the seat's roots in one cut). By AI agents, Wed Nov 11 2026. No macro, syntax, notation, axiom, sorry.
-/
import Derived.Test.YtpcbipcdfccnnaaGreatChecked
import GoSem.Claim
import GoSem.ClaimJoined
import GoSem.ClaimMapViews
import Derived.JoinedTies
import Derived.KernelRfl
namespace Go.Proofs.YtpcbipcdfccnnaaGreat
/- THE CELL 'sum', in the pinned program and in every row, IS THE sha256 OF THE DUMP (.gsa) THAT YtpcbipcdfccnnaaGreatProg.lean LOADS. Nothing in Lean hashes anything: it is a label: what it is worth is what the hold of that sum in a sandbox is worth. -/
noncomputable def Tryz.pinned : Pinned := { name := "ytpcbipcdfccnnaagreat", sum := "0d54e4401ae71fe8219586b438a638ab05bccb06e38090f54da4e9db306dd54c", checked := Tryz.checked }
namespace Rows
def none {H : Type} : Left H := { results := [], args := [] }

/-- 'castellanlaw16.DumpWhole': WHATEVER THE INPUT: true; the input reads as it did. -/
def dumpWholeSpec : ChangeSpec := { name := "dumpWhole", fn := fun _ => fun
  | [d] => { results := [.lit (.bool true)], args := [d] }
  | _ => none }
def dumpWholeRow : OpenClaim := { program := "ytpcbipcdfccnnaagreat", sum := "0d54e4401ae71fe8219586b438a638ab05bccb06e38090f54da4e9db306dd54c", func := "castellan/castellanlaw16.DumpWhole", spec := "dumpWhole", inPlace := ["internal/reflectlite.TypeOf"], unfollowed := true, recurses := true, plainKeys := false, apart := false }
def DumpWholeSaid : Prop := dumpWholeRow.holds Tryz.pinned (OpenSpec.ofChange dumpWholeSpec)

/-- ITS FALSE NEIGHBOUR: 'it returns false'. Refute it at one input. -/
def dumpWholeWrong : ChangeSpec := { name := "dumpWhole", fn := fun _ => fun
  | [d] => { results := [.lit (.bool false)], args := [d] }
  | _ => none }
def DumpWholeWrongFalsely : Prop := dumpWholeRow.holds Tryz.pinned (OpenSpec.ofChange dumpWholeWrong)

/-- 'castellanlaw16.DumpGoes': WHATEVER THE INPUT: true; the input reads as it did. -/
def dumpGoesSpec : ChangeSpec := { name := "dumpGoes", fn := fun _ => fun
  | [d1, d2] => { results := [.lit (.bool true)], args := [d1, d2] }
  | _ => none }
def dumpGoesRow : OpenClaim := { program := "ytpcbipcdfccnnaagreat", sum := "0d54e4401ae71fe8219586b438a638ab05bccb06e38090f54da4e9db306dd54c", func := "castellan/castellanlaw16.DumpGoes", spec := "dumpGoes", inPlace := ["internal/reflectlite.TypeOf"], unfollowed := true, recurses := true, plainKeys := false, apart := false }
def DumpGoesSaid : Prop := dumpGoesRow.holds Tryz.pinned (OpenSpec.ofChange dumpGoesSpec)

/-- ITS FALSE NEIGHBOUR: 'it returns false'. Refute it at one input. -/
def dumpGoesWrong : ChangeSpec := { name := "dumpGoes", fn := fun _ => fun
  | [d1, d2] => { results := [.lit (.bool false)], args := [d1, d2] }
  | _ => none }
def DumpGoesWrongFalsely : Prop := dumpGoesRow.holds Tryz.pinned (OpenSpec.ofChange dumpGoesWrong)

/-- 'castellanlaw16.DumpShort': WHATEVER THE INPUT: true; the input reads as it did. -/
def dumpShortSpec : ChangeSpec := { name := "dumpShort", fn := fun _ => fun
  | [d1, d2, d3] => { results := [.lit (.bool true)], args := [d1, d2, d3] }
  | _ => none }
def dumpShortRow : OpenClaim := { program := "ytpcbipcdfccnnaagreat", sum := "0d54e4401ae71fe8219586b438a638ab05bccb06e38090f54da4e9db306dd54c", func := "castellan/castellanlaw16.DumpShort", spec := "dumpShort", inPlace := ["internal/reflectlite.TypeOf"], unfollowed := true, recurses := true, plainKeys := false, apart := false }
def DumpShortSaid : Prop := dumpShortRow.holds Tryz.pinned (OpenSpec.ofChange dumpShortSpec)

/-- ITS FALSE NEIGHBOUR: 'it returns false'. Refute it at one input. -/
def dumpShortWrong : ChangeSpec := { name := "dumpShort", fn := fun _ => fun
  | [d1, d2, d3] => { results := [.lit (.bool false)], args := [d1, d2, d3] }
  | _ => none }
def DumpShortWrongFalsely : Prop := dumpShortRow.holds Tryz.pinned (OpenSpec.ofChange dumpShortWrong)

/- THE SECOND FORM. 'bulk': how many values and letters a reading holds, each counted each time it is reached (what is shared counts as often as it is met; a slice's spare places count too). A statement '..UptoSaid' is the law's where the arguments, and the package variables that the reading takes, are together of bulk at most 1048576: NARROWER than '..Said'. Prove '..Said' where nothing that the law and all that it calls make is longer than what came in: it says more and counts as full. Else prove '..UptoSaid'. A law counts once. -/
mutual
def uptoBulk {H : Type} : DataW H → Nat
  | .lit (.string bytes) => bytes.length + 1
  | .lit _ => 1
  | .nil => 1
  | .ptr d => uptoBulk d + 1
  | .slice elems spare => uptoBulkAll elems + uptoBulkAll spare + 1
  | .agg parts => uptoBulkAll parts + 1
  | .iface _ d => uptoBulk d + 1
  | .map entries => uptoBulkEntries entries + 1
  | .held _ => 1
def uptoBulkAll {H : Type} : List (DataW H) → Nat
  | [] => 0
  | d :: r => uptoBulk d + uptoBulkAll r
def uptoBulkEntries {H : Type} : List (Lit × DataW H) → Nat
  | [] => 0
  | x :: r => uptoBulkEntry x + uptoBulkEntries r
def uptoBulkEntry {H : Type} : Lit × DataW H → Nat
  | (.string bytes, d) => bytes.length + uptoBulk d + 1
  | (_, d) => uptoBulk d + 1
 end
def uptoSmall : (H : Type) → List (DataW H) → Bool := fun _ ds => decide (uptoBulkAll ds ≤ 1048576)
def OpenSpec.upto (s : _root_.Go.ChangeSpec) : _root_.Go.OpenSpec := { _root_.Go.OpenSpec.ofChange s with cond := some uptoSmall }

/-- 'castellanlaw16.DumpWhole', WHERE WHAT IT READS IS OF BULK AT MOST 1048576: true; the input reads as it did. -/
def dumpWholeUptoRow : OpenClaim := { program := "ytpcbipcdfccnnaagreat", sum := "0d54e4401ae71fe8219586b438a638ab05bccb06e38090f54da4e9db306dd54c", func := "castellan/castellanlaw16.DumpWhole", spec := "dumpWhole", inPlace := ["internal/reflectlite.TypeOf"], unfollowed := true, recurses := true, plainKeys := false, apart := false, narrowed := true }
def DumpWholeUptoSaid : Prop := dumpWholeUptoRow.holds Tryz.pinned (OpenSpec.upto dumpWholeSpec)

/-- 'castellanlaw16.DumpGoes', WHERE WHAT IT READS IS OF BULK AT MOST 1048576: true; the input reads as it did. -/
def dumpGoesUptoRow : OpenClaim := { program := "ytpcbipcdfccnnaagreat", sum := "0d54e4401ae71fe8219586b438a638ab05bccb06e38090f54da4e9db306dd54c", func := "castellan/castellanlaw16.DumpGoes", spec := "dumpGoes", inPlace := ["internal/reflectlite.TypeOf"], unfollowed := true, recurses := true, plainKeys := false, apart := false, narrowed := true }
def DumpGoesUptoSaid : Prop := dumpGoesUptoRow.holds Tryz.pinned (OpenSpec.upto dumpGoesSpec)

/-- 'castellanlaw16.DumpShort', WHERE WHAT IT READS IS OF BULK AT MOST 1048576: true; the input reads as it did. -/
def dumpShortUptoRow : OpenClaim := { program := "ytpcbipcdfccnnaagreat", sum := "0d54e4401ae71fe8219586b438a638ab05bccb06e38090f54da4e9db306dd54c", func := "castellan/castellanlaw16.DumpShort", spec := "dumpShort", inPlace := ["internal/reflectlite.TypeOf"], unfollowed := true, recurses := true, plainKeys := false, apart := false, narrowed := true }
def DumpShortUptoSaid : Prop := dumpShortUptoRow.holds Tryz.pinned (OpenSpec.upto dumpShortSpec)

end Rows
end Go.Proofs.YtpcbipcdfccnnaaGreat
