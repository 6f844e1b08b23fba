/-
  No cell of these rows narrows 'for every input' (looked for: loops, veiled, ifaces, maps, wideKeys, modest, calm, conditions, laid).
  DERIVED. THE GIVEN ROWS OF THIS SEAT. 3 by the template 'for every input the law returns true; each argument reads behind the call as it read before'; 0 by the template 'total and deterministic' (their statements: YtdlilclopmhiaaaTotals.lean).
  GIVEN WITH THE SEED: the statements are not yours to turn. If you find one false, say at which input.
  Laid BY PROGRAM, IN A SANDBOX (cutbox-rows.mjs): the forced cells as the released guide's own fill.sh prints them over the translation b6d95f6899be1436… (all of the seat's roots in one cut). By AI agents, Wed Nov 11 2026. No macro, syntax, notation, axiom, sorry.
-/
import Derived.Test.YtdlilclopmhiaaaChecked
import GoSem.Claim
import GoSem.ClaimJoined
import GoSem.ClaimMapViews
import Derived.JoinedTies
import Derived.KernelRfl
namespace Go.Proofs.Ytdlilclopmhiaaa
/- THE CELL 'sum', in the pinned program and in every row, IS THE sha256 OF THE DUMP (.gsa) THAT YtdlilclopmhiaaaProg.lean LOADS. Nothing in Lean hashes anything: it is a label: what it is worth is what the hold of that sum in a sandbox is worth. -/
noncomputable def Try.pinned : Pinned := { name := "ytdlilclopmhiaaa", sum := "b6d95f6899be1436507ffc4823106d9e08c6ab9a8caa3d4dcecec62c45061b9e", checked := Try.checked }
namespace Rows
def none {H : Type} : Left H := { results := [], args := [] }

/-- 'castellanlaw28.ClientStays': WHATEVER THE INPUT: true; the input reads as it did. -/
def clientStaysSpec : ChangeSpec := { name := "clientStays", fn := fun _ => fun
  | [d1, d2, d3] => { results := [.lit (.bool true)], args := [d1, d2, d3] }
  | _ => none }
def clientStaysRow : OpenClaim := { program := "ytdlilclopmhiaaa", sum := "b6d95f6899be1436507ffc4823106d9e08c6ab9a8caa3d4dcecec62c45061b9e", func := "castellan/castellanlaw28.ClientStays", spec := "clientStays", inPlace := ["internal/reflectlite.TypeOf"], unfollowed := true, recurses := true, apart := false }
def ClientStaysSaid : Prop := clientStaysRow.holds Try.pinned (OpenSpec.ofChange clientStaysSpec)

/-- ITS FALSE NEIGHBOUR: 'it returns false'. Refute it at one input. -/
def clientStaysWrong : ChangeSpec := { name := "clientStays", fn := fun _ => fun
  | [d1, d2, d3] => { results := [.lit (.bool false)], args := [d1, d2, d3] }
  | _ => none }
def ClientStaysWrongFalsely : Prop := clientStaysRow.holds Try.pinned (OpenSpec.ofChange clientStaysWrong)

/-- 'castellanlaw28.ClientEnds': WHATEVER THE INPUT: true; the input reads as it did. -/
def clientEndsSpec : ChangeSpec := { name := "clientEnds", fn := fun _ => fun
  | [d1, d2, d3, d4] => { results := [.lit (.bool true)], args := [d1, d2, d3, d4] }
  | _ => none }
def clientEndsRow : OpenClaim := { program := "ytdlilclopmhiaaa", sum := "b6d95f6899be1436507ffc4823106d9e08c6ab9a8caa3d4dcecec62c45061b9e", func := "castellan/castellanlaw28.ClientEnds", spec := "clientEnds", inPlace := ["internal/reflectlite.TypeOf"], unfollowed := true, recurses := true, apart := false }
def ClientEndsSaid : Prop := clientEndsRow.holds Try.pinned (OpenSpec.ofChange clientEndsSpec)

/-- ITS FALSE NEIGHBOUR: 'it returns false'. Refute it at one input. -/
def clientEndsWrong : ChangeSpec := { name := "clientEnds", fn := fun _ => fun
  | [d1, d2, d3, d4] => { results := [.lit (.bool false)], args := [d1, d2, d3, d4] }
  | _ => none }
def ClientEndsWrongFalsely : Prop := clientEndsRow.holds Try.pinned (OpenSpec.ofChange clientEndsWrong)

/-- 'castellanlaw28.ClientFinds': WHATEVER THE INPUT: true; the input reads as it did. -/
def clientFindsSpec : ChangeSpec := { name := "clientFinds", fn := fun _ => fun
  | [d1, d2, d3] => { results := [.lit (.bool true)], args := [d1, d2, d3] }
  | _ => none }
def clientFindsRow : OpenClaim := { program := "ytdlilclopmhiaaa", sum := "b6d95f6899be1436507ffc4823106d9e08c6ab9a8caa3d4dcecec62c45061b9e", func := "castellan/castellanlaw28.ClientFinds", spec := "clientFinds", inPlace := ["internal/reflectlite.TypeOf"], unfollowed := true, recurses := true, apart := false }
def ClientFindsSaid : Prop := clientFindsRow.holds Try.pinned (OpenSpec.ofChange clientFindsSpec)

/-- ITS FALSE NEIGHBOUR: 'it returns false'. Refute it at one input. -/
def clientFindsWrong : ChangeSpec := { name := "clientFinds", fn := fun _ => fun
  | [d1, d2, d3] => { results := [.lit (.bool false)], args := [d1, d2, d3] }
  | _ => none }
def ClientFindsWrongFalsely : Prop := clientFindsRow.holds Try.pinned (OpenSpec.ofChange clientFindsWrong)

/- THE SECOND FORM. 'bulk': how many values and letters a reading holds, each counted each time it is reached (what is shared counts as often as it is met; a slice's spare places count too). A statement '..UptoSaid' is the law's where the arguments, and the package variables that the reading takes, are together of bulk at most 1048576: NARROWER than '..Said'. Prove '..Said' where nothing that the law and all that it calls make is longer than what came in: it says more and counts as full. Else prove '..UptoSaid'. A law counts once. -/
mutual
def uptoBulk {H : Type} : DataW H → Nat
  | .lit (.string bytes) => bytes.length + 1
  | .lit _ => 1
  | .nil => 1
  | .ptr d => uptoBulk d + 1
  | .slice elems spare => uptoBulkAll elems + uptoBulkAll spare + 1
  | .agg parts => uptoBulkAll parts + 1
  | .iface _ d => uptoBulk d + 1
  | .map entries => uptoBulkEntries entries + 1
  | .held _ => 1
def uptoBulkAll {H : Type} : List (DataW H) → Nat
  | [] => 0
  | d :: r => uptoBulk d + uptoBulkAll r
def uptoBulkEntries {H : Type} : List (Lit × DataW H) → Nat
  | [] => 0
  | x :: r => uptoBulkEntry x + uptoBulkEntries r
def uptoBulkEntry {H : Type} : Lit × DataW H → Nat
  | (.string bytes, d) => bytes.length + uptoBulk d + 1
  | (_, d) => uptoBulk d + 1
 end
def uptoSmall : (H : Type) → List (DataW H) → Bool := fun _ ds => decide (uptoBulkAll ds ≤ 1048576)
def OpenSpec.upto (s : _root_.Go.ChangeSpec) : _root_.Go.OpenSpec := { _root_.Go.OpenSpec.ofChange s with cond := some uptoSmall }

/-- 'castellanlaw28.ClientStays', WHERE WHAT IT READS IS OF BULK AT MOST 1048576: true; the input reads as it did. -/
def clientStaysUptoRow : OpenClaim := { program := "ytdlilclopmhiaaa", sum := "b6d95f6899be1436507ffc4823106d9e08c6ab9a8caa3d4dcecec62c45061b9e", func := "castellan/castellanlaw28.ClientStays", spec := "clientStays", inPlace := ["internal/reflectlite.TypeOf"], unfollowed := true, recurses := true, apart := false, narrowed := true }
def ClientStaysUptoSaid : Prop := clientStaysUptoRow.holds Try.pinned (OpenSpec.upto clientStaysSpec)

/-- 'castellanlaw28.ClientEnds', WHERE WHAT IT READS IS OF BULK AT MOST 1048576: true; the input reads as it did. -/
def clientEndsUptoRow : OpenClaim := { program := "ytdlilclopmhiaaa", sum := "b6d95f6899be1436507ffc4823106d9e08c6ab9a8caa3d4dcecec62c45061b9e", func := "castellan/castellanlaw28.ClientEnds", spec := "clientEnds", inPlace := ["internal/reflectlite.TypeOf"], unfollowed := true, recurses := true, apart := false, narrowed := true }
def ClientEndsUptoSaid : Prop := clientEndsUptoRow.holds Try.pinned (OpenSpec.upto clientEndsSpec)

/-- 'castellanlaw28.ClientFinds', WHERE WHAT IT READS IS OF BULK AT MOST 1048576: true; the input reads as it did. -/
def clientFindsUptoRow : OpenClaim := { program := "ytdlilclopmhiaaa", sum := "b6d95f6899be1436507ffc4823106d9e08c6ab9a8caa3d4dcecec62c45061b9e", func := "castellan/castellanlaw28.ClientFinds", spec := "clientFinds", inPlace := ["internal/reflectlite.TypeOf"], unfollowed := true, recurses := true, apart := false, narrowed := true }
def ClientFindsUptoSaid : Prop := clientFindsUptoRow.holds Try.pinned (OpenSpec.upto clientFindsSpec)

end Rows
end Go.Proofs.Ytdlilclopmhiaaa
