/- What the listed variable holds when the call begins; a world in which it holds that. No condition. -/
import Derived.Test.YtfkmkgpoddbbfaaGreatDoorRows
import Derived.Test.YtfkmkgpoddbbfaaGreatDoorKOpen
import Derived.ChangeSame
import Derived.ChangeVars
import Derived.JoinedOf
import Derived.RowKit
import Derived.RowKitTokens
import Derived.LaidLaws
import Derived.LaidHandle
import Derived.Stop.Joined
namespace Go.Proofs.YtfkmkgpoddbbfaaGreatDoor
open Go Go.KK Go.ChangeShapes Go.WideShapes Go.RowKit
def Q06 : List (String × DataW Unit) := [("errors.errorType", Rows.laid_errors_errorType)]
theorem own : ownKnob Tryz.prog.godebug = none := by kernel_rfl
theorem Q5E : laidOutB Tryz.prog = true := by kernel_rfl
theorem hEt : Tryz.prog.globalNamed "errors.errorType" = some 0 := by kernel_rfl
theorem hRt : (Tryz.prog.cutTypes.find? (·.1 == "internal/reflectlite.rtype")).map (·.2) = some 177 := by kernel_rfl
theorem hRow : ((List.range 241).filter fun t => Tryz.prog.rowNamed t [101, 114, 114, 111, 114]) = [31] := by kernel_rfl
theorem Q86 : Tryz.prog.types.size = 241 := by kernel_rfl
theorem Qv0 {W : World} (h : laidMetH Tryz.prog Q06 W) : W.cell? ⟨0, 0, none⟩ = some (.iface 177 (.agg #[.pointer (some ⟨1, 31, none⟩)])) := by
  have h' : laidMet Tryz.prog [] W ∧ handlesMet Tryz.prog Q06 W := h
  obtain ⟨name, u, ty, e1, e2, e3, e4, e5⟩ := h'.2 _ (List.mem_singleton.2 rfl)
  have en : name = [101, 114, 114, 111, 114] := (Option.some.inj e1).symm
  subst en
  obtain rfl := Option.some.inj (hRt.symm.trans e2)
  have hm : ty ∈ (List.range 241).filter fun t => Tryz.prog.rowNamed t [101, 114, 114, 111, 114] := List.mem_filter.2 ⟨List.mem_range.2 (by rw [← Q86]; exact e3), e4⟩
  rw [hRow] at hm
  obtain rfl := List.mem_singleton.1 hm
  have hh : typeHandle Tryz.prog 31 = .pointer (some ⟨1, 31, none⟩) := by kernel_rfl
  rw [hh] at e5
  simpa using World.var?_cell hEt e5 0
noncomputable def QyQ (os : Os) : World :=
  let w0 := World.holding Tryz.prog os ⟨#[], #[], []⟩
  { w0 with heap := w0.heap.modify 0 fun
      | .cells _ t frozen => .cells #[(.iface 177 (.agg #[.pointer (some ⟨1, 31, none⟩)]))] t frozen
      | o => o }
theorem QxI (os : Os) (args : Array Value) : laidMetH Tryz.prog Q06 ((QyQ os).forCall (fun _ _ => 0) ⟨#[], args, []⟩).memory :=
  laidMetH_of_parts (laidMet_nil _ _) (by kernel_rfl)
end Go.Proofs.YtfkmkgpoddbbfaaGreatDoor
