/- What the listed variable holds when the call begins; a world in which it holds that. No condition. -/
import Derived.Test.YtpcbipcdfccnnaaGreatDoorRows
import Derived.Test.YtpcbipcdfccnnaaGreatDoorKOpen
import Derived.ChangeSame
import Derived.ChangeVars
import Derived.JoinedOf
import Derived.RowKit
import Derived.RowKitTokens
import Derived.LaidLaws
import Derived.LaidHandle
import Derived.Stop.Joined
namespace Go.Proofs.YtpcbipcdfccnnaaGreatDoor
open Go Go.KK Go.ChangeShapes Go.WideShapes Go.RowKit
def Q1W : List (String × DataW Unit) := [("errors.errorType", Rows.laid_errors_errorType)]
theorem own : ownKnob Tryz.prog.godebug = none := by kernel_rfl
theorem Q65 : laidOutB Tryz.prog = true := by kernel_rfl
theorem hEt : Tryz.prog.globalNamed "errors.errorType" = some 0 := by kernel_rfl
theorem hRt : (Tryz.prog.cutTypes.find? (·.1 == "internal/reflectlite.rtype")).map (·.2) = some 193 := by kernel_rfl
theorem hRow : ((List.range 249).filter fun t => Tryz.prog.rowNamed t [101, 114, 114, 111, 114]) = [32] := by kernel_rfl
theorem JaS : Tryz.prog.types.size = 249 := by kernel_rfl
theorem Qv3 {W : World} (h : laidMetH Tryz.prog Q1W W) : W.cell? ⟨0, 0, none⟩ = some (.iface 193 (.agg #[.pointer (some ⟨1, 32, none⟩)])) := by
  have h' : laidMet Tryz.prog [] W ∧ handlesMet Tryz.prog Q1W W := h
  obtain ⟨name, u, ty, e1, e2, e3, e4, e5⟩ := h'.2 _ (List.mem_singleton.2 rfl)
  have en : name = [101, 114, 114, 111, 114] := (Option.some.inj e1).symm
  subst en
  obtain rfl := Option.some.inj (hRt.symm.trans e2)
  have hm : ty ∈ (List.range 249).filter fun t => Tryz.prog.rowNamed t [101, 114, 114, 111, 114] := List.mem_filter.2 ⟨List.mem_range.2 (by rw [← JaS]; exact e3), e4⟩
  rw [hRow] at hm
  obtain rfl := List.mem_singleton.1 hm
  have hh : typeHandle Tryz.prog 32 = .pointer (some ⟨1, 32, none⟩) := by kernel_rfl
  rw [hh] at e5
  simpa using World.var?_cell hEt e5 0
noncomputable def Qy5 (os : Os) : World :=
  let w0 := World.holding Tryz.prog os ⟨#[], #[], []⟩
  { w0 with heap := w0.heap.modify 0 fun
      | .cells _ t frozen => .cells #[(.iface 193 (.agg #[.pointer (some ⟨1, 32, none⟩)]))] t frozen
      | o => o }
theorem QxZ (os : Os) (args : Array Value) : laidMetH Tryz.prog Q1W ((Qy5 os).forCall (fun _ _ => 0) ⟨#[], args, []⟩).memory :=
  laidMetH_of_parts (laidMet_nil _ _) (by kernel_rfl)
end Go.Proofs.YtpcbipcdfccnnaaGreatDoor
