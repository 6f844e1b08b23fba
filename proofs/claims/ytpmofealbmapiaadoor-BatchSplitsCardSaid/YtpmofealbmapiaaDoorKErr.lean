/- Errors as values: nothing, a code, a fault about an error, another error. -/
import Derived.Test.YtpmofealbmapiaaDoorKMem5
namespace Go.KK
open Go

inductive GErr where
  | nil
  | code (n : Int)
  | fault (op : ByteArray) (at_ : Int) (e : GErr)
  | other (a : Addr)

instance : Inhabited GErr := ⟨.nil⟩
def GErr.val (tc tf tp : TypeId) : GErr → Value
  | .nil => .nilIface
  | .code n => .iface tc (.int .i64 n)
  | .fault op at_ e => .iface tf (.agg #[.string op, .int .i64 at_, GErr.val tc tf tp e])
  | .other a => .iface tp (.pointer (some a))
def GErr.isNil : GErr → Bool
  | .nil => true
  | _ => false

theorem GErr.val_one (tc tf tp : TypeId) (e : GErr) : (e.val tc tf tp).oneCell' = true := by cases e <;> rfl
theorem GErr.val_cells (tc tf tp : TypeId) (e : GErr) : (e.val tc tf tp).cells = #[e.val tc tf tp] := by cases e <;> rfl
def kdErrOf (tc tf tp : TypeId) : Kd GErr := ⟨1, fun _ cs x => cs = [x.val tc tf tp], fun _ _ _ h => h, fun h => by rw [h]; rfl, fun h v hv => by rw [h] at hv; simp at hv; subst hv; exact GErr.val_one _ _ _ _⟩

section
variable {P : Program} {ρ : Nat → Value} {M : IM} {H : HL} {d : Option Nat} {ty : TypeId} {pos : String} {af : Array Edge} {g : Option (Nat × Bool)}

theorem run_equal_iface_nil {t : TypeId} {ms : Array (String × TypeId)} (ht : P.underlying t = some (.interface ms)) (e : GErr) (tc tf tp : TypeId) (w : World) :
    (Op.equal t (e.val tc tf tp) .nilIface).run P w = .ok e.isNil w := by
  unfold Op.equal
  obtain ⟨n, hn⟩ : ∃ n, Op.maxDepth = n + 1 := ⟨9999, rfl⟩
  rw [hn]
  cases e <;> simp only [Op.equalIn, Sem.run_bind, run_underlying ht, Result.andThen_ok, GErr.val, GErr.isNil] <;> rfl

theorem eqGuard_lit (op : BinOp) (t : TypeId) (x : Operand) (a : Value) : eqGuard op t x (.const .nilIface) a .nilIface = pure () := by
  unfold eqGuard
  cases op <;> cases a <;> simp

theorem PO.errNil {t u : TypeId} {ms : Array (String × TypeId)} {x : Operand} {tc tf tp : TypeId} {e : GErr} (ht : P.underlying t = some (.interface ms)) (hx : ev ρ x = e.val tc tf tp) :
    PO P ⟨d, .binOp .eql t x (.const .nilIface) u, ty, pos, af, g⟩ ρ M H (.bool e.isNil) := fun w _ => by
  have hb : binOp .eql t (e.val tc tf tp) .nilIface = (do pure (.bool (← Op.equal t (e.val tc tf tp) .nilIface))) := by cases e <;> rfl
  simp only [execOp, hx, show ev ρ (.const .nilIface) = .nilIface from rfl, eqGuard_lit, pure_bind, hb, Sem.run_bind, run_equal_iface_nil ht, Result.andThen_ok, Sem.run_pure]
theorem PO.errNotNil {t u : TypeId} {ms : Array (String × TypeId)} {x : Operand} {tc tf tp : TypeId} {e : GErr} (ht : P.underlying t = some (.interface ms)) (hx : ev ρ x = e.val tc tf tp) :
    PO P ⟨d, .binOp .neq t x (.const .nilIface) u, ty, pos, af, g⟩ ρ M H (.bool (!e.isNil)) := fun w _ => by
  have hb : binOp .neq t (e.val tc tf tp) .nilIface = (do pure (.bool (!(← Op.equal t (e.val tc tf tp) .nilIface)))) := by cases e <;> rfl
  simp only [execOp, hx, show ev ρ (.const .nilIface) = .nilIface from rfl, eqGuard_lit, pure_bind, hb, Sem.run_bind, run_equal_iface_nil ht, Result.andThen_ok, Sem.run_pure]

/-- A pointer that is there against nil. -/
theorem run_equal_ptr_nil {t e : TypeId} (ht : P.underlying t = some (.pointer e)) (p : Addr) (w : World) : (Op.equal t (.pointer (some p)) (.pointer none)).run P w = .ok false w := by
  unfold Op.equal
  obtain ⟨n, hn⟩ : ∃ n, Op.maxDepth = n + 1 := ⟨9999, rfl⟩
  rw [hn]
  simp only [Op.equalIn, Sem.run_bind, run_underlying ht, Result.andThen_ok]
  rfl
theorem PO.ptrNil {t u e : TypeId} {x : Operand} {p : Addr} (ht : P.underlying t = some (.pointer e)) (hx : ev ρ x = .pointer (some p)) :
    PO P ⟨d, .binOp .eql t x (.const (.pointer none)) u, ty, pos, af, g⟩ ρ M H (.bool false) := fun w _ => by
  have hb : binOp .eql t (.pointer (some p)) (.pointer none) = (do pure (.bool (← Op.equal t (.pointer (some p)) (.pointer none)))) := rfl
  simp only [execOp, hx, show ev ρ (.const (.pointer none)) = .pointer none from rfl, eqGuard_at_pointer, pure_bind, hb, Sem.run_bind, run_equal_ptr_nil ht, Result.andThen_ok, Sem.run_pure]
theorem PO.ptrNotNil {t u e : TypeId} {x : Operand} {p : Addr} (ht : P.underlying t = some (.pointer e)) (hx : ev ρ x = .pointer (some p)) :
    PO P ⟨d, .binOp .neq t x (.const (.pointer none)) u, ty, pos, af, g⟩ ρ M H (.bool true) := fun w _ => by
  have hb : binOp .neq t (.pointer (some p)) (.pointer none) = (do pure (.bool (!(← Op.equal t (.pointer (some p)) (.pointer none))))) := rfl
  simp only [execOp, hx, show ev ρ (.const (.pointer none)) = .pointer none from rfl, eqGuard_at_pointer, pure_bind, hb, Sem.run_bind, run_equal_ptr_nil ht, Result.andThen_ok, Sem.run_pure]
  rfl
end
end Go.KK
