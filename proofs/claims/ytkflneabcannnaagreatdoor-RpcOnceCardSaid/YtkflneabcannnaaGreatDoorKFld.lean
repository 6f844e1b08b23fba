/- A struct out of a struct that is a value. -/
import Derived.Test.YtkflneabcannnaaGreatDoorKRefl
namespace Go.KK
open Go
section
variable {P : Program} {ρ : Nat → Value} {M : IM} {H : HL} {d : Option Nat} {ty : TypeId} {pos : String} {af : Array Edge} {g : Option (Nat × Bool)}
theorem PO.fieldA {x : Operand} {T i t off n : Nat} {cs : Array Value} {vs : List Value} (hf : fldAt P T i = some (t, off)) (ht : aggB P t = true) (hz : (P.info? t).map (·.size) = some n) (hx : ev ρ x = .agg cs) (hv : cs.extract off (off + n) = vs.toArray) :
    PO P ⟨d, .field T x i, ty, pos, af, g⟩ ρ M H (.agg vs.toArray) := fun w _ => by
  unfold fldAt at hf
  cases e : P.underlying T with
  | none => rw [e] at hf; cases hf
  | some ds =>
    rw [e] at hf
    cases ds <;> try (cases hf; done)
    rename_i fs
    simp only at hf
    obtain ⟨f, e2, e3⟩ := Option.map_eq_some_iff.1 hf
    cases e3
    have h1 : (Instr.field T (.agg cs) i).run P w = .ok (.agg vs.toArray) w := by
      simp only [Instr.field, Sem.run_bind, run_underlying e, Result.andThen_ok, e2, asAgg, Sem.run_pure, part, run_isAgg_agg ht, if_true, run_sizeOf_some hz, hv]
    simp only [execOp, hx, Sem.run_bind, h1, Result.andThen_ok]; rfl
end
end Go.KK
