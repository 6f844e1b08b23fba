/- Structs and arrays compared. -/
import Derived.Test.YtpmofealbmapiaaDoorKRes
set_option linter.unusedSimpArgs false
set_option linter.unusedVariables false
namespace Go.KK
open Go

def andL : List Bool → Bool
  | [] => true
  | b :: r => b && andL r
section
variable {P : Program}
theorem run_part_plain {t : TypeId} {cs : Array Value} {off : Nat} {u : Value} (ht : plainT P t = true) (h : cs[off]? = some u) (w : World) : (part t cs off).run P w = .ok u w := by
  unfold part
  simp only [Sem.run_bind, run_isAgg_plain ht, Result.andThen_ok, Bool.false_eq_true, if_false, h]
  rfl
/-- Two cells of a scalar type. -/
inductive EqC (P : Program) (t : TypeId) : Value → Value → Bool → Prop
  | int {k : IntKind} {a b : Int} (h : P.underlying t = some (.int k)) : EqC P t (.int k a) (.int k b) (decide (a = b))
  | bool {a b : Bool} (h : P.underlying t = some .bool) : EqC P t (.bool a) (.bool b) (a == b)
  | str {a b : ByteArray} (h : P.underlying t = some .string) : EqC P t (.string a) (.string b) (a == b)
theorem EqC.run {t : TypeId} {u v : Value} {b : Bool} (h : EqC P t u v b) (d : Nat) (w : World) : (Op.equalIn (d + 1) t u v).run P w = .ok b w := by
  cases h with
  | int h => simp only [Op.equalIn, Sem.run_bind, run_underlying h, Result.andThen_ok, if_true]; rfl
  | bool h => simp only [Op.equalIn, Sem.run_bind, run_underlying h, Result.andThen_ok]; rfl
  | str h => simp only [Op.equalIn, Sem.run_bind, run_underlying h, Result.andThen_ok]; rfl
inductive EqFs (P : Program) (xs ys : Array Value) : List Field → List Bool → Prop
  | nil : EqFs P xs ys [] []
  | cons {f : Field} {fs : List Field} {u v : Value} {b : Bool} {bs : List Bool} (hn : f.name ≠ "_") (ht : plainT P f.type = true) (hx : xs[f.offset]? = some u) (hy : ys[f.offset]? = some v) (hc : EqC P f.type u v b) (k : EqFs P xs ys fs bs) : EqFs P xs ys (f :: fs) (b :: bs)
theorem EqFs.run {xs ys : Array Value} (d : Nat) (w : World) : ∀ {fs : List Field} {bs : List Bool}, EqFs P xs ys fs bs →
    (forIn (m := Sem) fs ((none : Option Bool), ()) fun f __s =>
                if f.name ≠ "_" then do
                  let __do_lift ← part f.type xs f.offset
                  let __do_lift_1 ← part f.type ys f.offset
                  let __do_lift ← Op.equalIn (d + 1) f.type __do_lift __do_lift_1
                  if (!__do_lift) = true then pure (ForInStep.done (some false, ()))
                    else pure (ForInStep.yield (none, ()))
                else pure (ForInStep.yield (none, ()))).run P w = .ok (if andL bs then (none, ()) else (some false, ())) w
  | _, _, .nil => rfl
  | _, _, .cons (b := b) (bs := bs) hn ht hx hy hc k => by
    rw [List.forIn_cons]
    simp only [Sem.run_bind, if_pos hn, run_part_plain ht hx, run_part_plain ht hy, Result.andThen_ok, hc.run]
    cases b with
    | true =>
      simp only [Bool.not_true, Bool.false_eq_true, if_false, Sem.run_pure, Result.andThen_ok]
      rw [EqFs.run d w k]
      simp [andL]
    | false =>
      simp only [Bool.not_false, if_true, Sem.run_pure, Result.andThen_ok]
      simp [andL]
def eqStruct (P : Program) (t : TypeId) : Bool := !P.stoodInHeld t && !P.eqGuardType P.depth t
theorem run_equal_struct {t : TypeId} {fs : Array Field} {xs ys : Array Value} {bs : List Bool} (ht : P.underlying t = some (.struct fs)) (hg : eqStruct P t = true) (h : EqFs P xs ys fs.toList bs) (w : World) : (Op.equal t (.agg xs) (.agg ys)).run P w = .ok (andL bs) w := by
  obtain ⟨n, hn⟩ : ∃ n, Op.maxDepth = n + 2 := ⟨9998, rfl⟩
  unfold Op.equal
  rw [hn]
  simp only [eqStruct, Bool.and_eq_true, Bool.not_eq_true'] at hg
  have e := h.run n w
  have hp : (program).run P w = .ok P w := rfl
  obtain ⟨m, hm⟩ : ∃ m, m = n + 1 := ⟨_, rfl⟩
  rw [← hm] at e
  rw [show n + 2 = m + 1 by omega]
  simp only [Op.equalIn, Sem.run_bind, run_underlying ht, Result.andThen_ok, hp, hg.1, Bool.false_eq_true, if_false]
  rw [← Array.forIn_toList]
  rw [e]
  cases andL bs <;> rfl
inductive EqIs (P : Program) (e : TypeId) (xs ys : Array Value) : List Nat → List Bool → Prop
  | nil : EqIs P e xs ys [] []
  | cons {i : Nat} {is : List Nat} {u v : Value} {b : Bool} {bs : List Bool} (hx : xs[i]? = some u) (hy : ys[i]? = some v) (hc : EqC P e u v b) (k : EqIs P e xs ys is bs) : EqIs P e xs ys (i :: is) (b :: bs)
theorem EqIs.run {e : TypeId} {xs ys : Array Value} (ht : plainT P e = true) (d : Nat) (w : World) : ∀ {is : List Nat} {bs : List Bool}, EqIs P e xs ys is bs →
    (forIn (m := Sem) is ((none : Option Bool), ()) fun i __s => do
              let __do_lift ← part e xs (i * 1)
              let __do_lift_1 ← part e ys (i * 1)
              let __do_lift ← Op.equalIn (d + 1) e __do_lift __do_lift_1
              if (!__do_lift) = true then pure (ForInStep.done (some false, ())) else pure (ForInStep.yield (none, ()))).run P w = .ok (if andL bs then (none, ()) else (some false, ())) w
  | _, _, .nil => rfl
  | _, _, .cons (i := i) (b := b) (bs := bs) hx hy hc k => by
    rw [List.forIn_cons]
    simp only [Sem.run_bind, Nat.mul_one, run_part_plain ht hx, run_part_plain ht hy, Result.andThen_ok, hc.run]
    cases b with
    | true =>
      simp only [Bool.not_true, Bool.false_eq_true, if_false, Sem.run_pure, Result.andThen_ok]
      have := EqIs.run ht d w k
      simp only [Nat.mul_one] at this
      rw [this]
      simp [andL]
    | false =>
      simp only [Bool.not_false, if_true, Sem.run_pure, Result.andThen_ok]
      simp [andL]
theorem run_equal_array {t e : TypeId} {len : Nat} {xs ys : Array Value} {bs : List Bool} (ht : P.underlying t = some (.array len e)) (hp : plainT P e = true) (hz : (P.info? e).map (·.size) = some 1) (h : EqIs P e xs ys (List.range' 0 len) bs) (w : World) : (Op.equal t (.agg xs) (.agg ys)).run P w = .ok (andL bs) w := by
  obtain ⟨n, hn⟩ : ∃ n, Op.maxDepth = n + 2 := ⟨9998, rfl⟩
  unfold Op.equal
  rw [hn]
  have e2 := h.run hp n w
  obtain ⟨m, hm⟩ : ∃ m, m = n + 1 := ⟨_, rfl⟩
  rw [← hm] at e2
  rw [show n + 2 = m + 1 by omega]
  simp only [Op.equalIn, Sem.run_bind, run_underlying ht, Result.andThen_ok, run_sizeOf_some hz]
  rw [Std.Legacy.Range.forIn_eq_forIn_range']
  simp only [Std.Legacy.Range.size, Nat.sub_zero, Nat.add_sub_cancel, Nat.div_one]
  rw [e2]
  cases andL bs <;> rfl
variable {ρ : Nat → Value} {M : IM} {H : HL} {d : Option Nat} {ty : TypeId} {pos : String} {af : Array Edge} {g : Option (Nat × Bool)}
theorem eqGuard_form {op : BinOp} {t : TypeId} {x y : Operand} {xs ys : Array Value} (D : Value → Value → Sem Bool) (hD : Op.eqGuardIn Op.maxDepth t = D) : eqGuard op t x y (.agg xs) (.agg ys) = pure () ∨ ∃ E : Sem Unit, eqGuard op t x y (.agg xs) (.agg ys) = (program >>= fun p => program >>= fun q => if (!p.eqGuardType q.depth t) = true then pure () else (D (.agg xs) (.agg ys) >>= fun d => if d = true then E else pure ())) := by
  unfold eqGuard
  rw [hD]
  cases op
  case eql => exact .inr ⟨_, rfl⟩
  case neq => exact .inr ⟨_, rfl⟩
  all_goals exact .inl rfl
theorem eqGuard_agg {op : BinOp} {t : TypeId} {x y : Operand} {xs ys : Array Value} (hg : P.eqGuardType P.depth t = false) (w : World) : (eqGuard op t x y (.agg xs) (.agg ys)).run P w = .ok () w := by
  obtain ⟨D, hD⟩ : ∃ D, Op.eqGuardIn Op.maxDepth t = D := ⟨_, rfl⟩
  rcases eqGuard_form (op := op) (x := x) (y := y) (xs := xs) (ys := ys) D hD with h | ⟨E, h⟩
  · rw [h, Sem.run_pure]
  · rw [h]
    generalize D (.agg xs) (.agg ys) = D2
    have hp : (program).run P w = .ok P w := rfl
    rw [Sem.run_bind, hp]
    show Sem.run P (program >>= fun q => if (!P.eqGuardType q.depth t) = true then pure () else _) w = _
    rw [Sem.run_bind, hp]
    show Sem.run P (if (!P.eqGuardType P.depth t) = true then pure () else _) w = _
    rw [hg]
    rfl
theorem PO.eqAgg {t u : TypeId} {x y : Operand} {xs ys : Array Value} {b : Bool} (hg : P.eqGuardType P.depth t = false) (hx : ev ρ x = .agg xs) (hy : ev ρ y = .agg ys) (h : ∀ w, (Op.equal t (.agg xs) (.agg ys)).run P w = .ok b w) :
    PO P ⟨d, .binOp .eql t x y u, ty, pos, af, g⟩ ρ M H (.bool b) := fun w _ => by
  have hb : binOp .eql t (.agg xs) (.agg ys) = (do pure (.bool (← Op.equal t (.agg xs) (.agg ys)))) := rfl
  simp only [execOp, hx, hy, Sem.run_bind, eqGuard_agg hg, Result.andThen_ok, hb, h, Sem.run_pure]
theorem PO.neqAgg {t u : TypeId} {x y : Operand} {xs ys : Array Value} {b : Bool} (hg : P.eqGuardType P.depth t = false) (hx : ev ρ x = .agg xs) (hy : ev ρ y = .agg ys) (h : ∀ w, (Op.equal t (.agg xs) (.agg ys)).run P w = .ok b w) :
    PO P ⟨d, .binOp .neq t x y u, ty, pos, af, g⟩ ρ M H (.bool (!b)) := fun w _ => by
  have hb : binOp .neq t (.agg xs) (.agg ys) = (do pure (.bool (!(← Op.equal t (.agg xs) (.agg ys))))) := rfl
  simp only [execOp, hx, hy, Sem.run_bind, eqGuard_agg hg, Result.andThen_ok, hb, h, Sem.run_pure]
end
end Go.KK
