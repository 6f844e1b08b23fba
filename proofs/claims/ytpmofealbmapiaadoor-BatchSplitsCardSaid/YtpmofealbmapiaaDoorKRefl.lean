/- Calls of functions without a body, methods of interface values, assertions; errors compared; internal/reflectlite as errors.Is and errors.As use it. -/
import Derived.Test.YtpmofealbmapiaaDoorKRes
import Derived.Test.YtpmofealbmapiaaDoorKShort
import Derived.Stop.Asserts
import Derived.Laws.Externs
set_option linter.unusedSimpArgs false
set_option linter.unusedVariables false
namespace Go.KK
open Go

section
variable {P : Program} {ρ : Nat → Value} {M : IM} {H : HL} {d : Option Nat} {ty : TypeId} {pos : String} {af : Array Edge} {g : Option (Nat × Bool)}

/-- A function without a body, served by an entry of the model. -/
def ExtOk (P : Program) (f : FuncId) (e : Array Value → Sem Value) : Prop := ∀ args w, (callFunc f args).run P w = ((e args).run P w).andThen fun v w' => .ok (.value v) w'

theorem EO.ext {xs : Array Operand} {ats : Array TypeId} {f : FuncId} {e : Array Value → Sem Value} {args : Array Value} {post : Value → IM → HL → Prop} (hf : ExtOk P f e) (ha : xs.map (ev ρ) = args)
    (hr : ∀ w, Sat w M H → ∃ v w', (e args).run P w = .ok v w' ∧ ∃ M' H', M.le M' ∧ Sat w' M' H' ∧ post v M' H') :
    EO P ⟨d, .call { callee := .value (.func f), args := xs, argTypes := ats }, ty, pos, af, g⟩ ρ M H post := by
  intro w hs
  obtain ⟨v, w', h1, M', H', hle, hs', hp⟩ := hr w hs
  have h2 : (execOp (ev ρ) ⟨d, .call { callee := .value (.func f), args := xs, argTypes := ats }, ty, pos, af, g⟩).run P w = .ok (.value v) w' := by
    have h3 : args ++ (#[] : Array Value) = args := by simp
    simp only [execOp, resolve, ev, Deferred.ofValue, pure_bind, invoke, ha, Array.append_empty, Array.empty_append, hf args w, h1, Result.andThen_ok]
  rw [h2]
  exact ⟨M', H', hle, hs', hp⟩
/-- One that changes nothing. -/
theorem EO.extP {xs : Array Operand} {ats : Array TypeId} {f : FuncId} {e : Array Value → Sem Value} {args : Array Value} {v : Value} (hf : ExtOk P f e) (ha : xs.map (ev ρ) = args) (hr : ∀ w, (e args).run P w = .ok v w) :
    EO P ⟨d, .call { callee := .value (.func f), args := xs, argTypes := ats }, ty, pos, af, g⟩ ρ M H (fun u M' H' => v = u ∧ M = M' ∧ H = H') :=
  EO.ext hf ha fun w hs => ⟨v, w, hr w, M, H, .refl M, hs, rfl, rfl, rfl⟩

def mdepth (P : Program) : Nat := P.types.size + Made.depth
theorem run_invoke {x : Operand} {name : String} {xs : Array Operand} {ats : Array TypeId} {T : TypeId} {v r : Value} {f : FuncId} {args : Array Value} (hx : ev ρ x = .iface T v) (hm : ∀ w, (method (mdepth P) T v name).run P w = .ok (f, r) w) (ha : #[r] ++ xs.map (ev ρ) = args) (w : World) :
    (execOp (ev ρ) ⟨d, .call { callee := .invoke x name, args := xs, argTypes := ats }, ty, pos, af, g⟩).run P w = (callFunc f args).run P w := by
  have h1 : (Array.map (ev ρ) xs) = (#[Value.iface T v] ++ xs.map (ev ρ)).extract 1 (#[Value.iface T v] ++ xs.map (ev ρ)).size := by
    apply Array.ext'
    simp
    rw [List.take_of_length_le (by simp)]
  have h2 : (callMethod (.iface T v) name (xs.map (ev ρ))).run P w = (callFunc f args).run P w := by
    unfold callMethod
    have := hm w
    unfold mdepth at this
    simp only [Sem.run_bind, run_program, Result.andThen_ok, this, ha]
  simp only [execOp, resolve, hx, pure_bind, invoke]
  rw [← h1]
  have h3 : (#[Value.iface T v] ++ xs.map (ev ρ))[0]? = some (.iface T v) := by
    rw [Array.getElem?_append_left (by simp)]; rfl
  rw [h3]
  exact h2
theorem EO.invE {x : Operand} {name : String} {xs : Array Operand} {ats : Array TypeId} {T : TypeId} {v r u : Value} {f : FuncId} {args : Array Value} {e : Array Value → Sem Value} (hx : ev ρ x = .iface T v) (hm : ∀ w, (method (mdepth P) T v name).run P w = .ok (f, r) w) (hf : ExtOk P f e) (ha : #[r] ++ xs.map (ev ρ) = args) (hr : ∀ w, (e args).run P w = .ok u w) :
    EO P ⟨d, .call { callee := .invoke x name, args := xs, argTypes := ats }, ty, pos, af, g⟩ ρ M H (fun u' M' H' => u = u' ∧ M = M' ∧ H = H') := by
  intro w hs
  rw [run_invoke hx hm ha w, hf args w, hr w]
  exact ⟨M, H, .refl M, hs, rfl, rfl, rfl⟩
theorem EO.invT {x : Operand} {name : String} {xs : Array Operand} {ats : Array TypeId} {T : TypeId} {v r : Value} {f : FuncId} {args : Array Value} {post : Value → IM → HL → Prop} (hx : ev ρ x = .iface T v) (hm : ∀ w, (method (mdepth P) T v name).run P w = .ok (f, r) w) (hf : callOk P f = true) (ha : #[r] ++ xs.map (ev ρ) = args) (h : Tri P f args M [] post) :
    EO P ⟨d, .call { callee := .invoke x name, args := xs, argTypes := ats }, ty, pos, af, g⟩ ρ M H (fun u' M' H'' => ∃ H', post u' M' H' ∧ H' ++ H = H'') := by
  intro w hs
  rw [run_invoke hx hm ha w, run_callFunc hf]
  refine (h w H hs).mono ?_
  rintro e w' ⟨v, M', H', rfl, hle, hs', hp⟩
  exact ⟨M', _, hle, hs', H', hp, rfl⟩

/-- A part of a struct that is a value. -/
def fldAt (P : Program) (T i : Nat) : Option (TypeId × Nat) := match P.underlying T with
  | some (.struct fs) => (fs[i]?).map fun f => (f.type, f.offset)
  | _ => none
theorem PO.field {x : Operand} {T i t off : Nat} {cs : Array Value} {v : Value} (hf : fldAt P T i = some (t, off)) (ht : plainT P t = true) (hx : ev ρ x = .agg cs) (hv : cs[off]? = some v) :
    PO P ⟨d, .field T x i, ty, pos, af, g⟩ ρ M H v := fun w _ => by
  unfold fldAt at hf
  cases e : P.underlying T with
  | none => rw [e] at hf; cases hf
  | some ds =>
    rw [e] at hf
    cases ds <;> try (cases hf; done)
    rename_i fs
    simp only at hf
    obtain ⟨f, e2, e3⟩ := Option.map_eq_some_iff.1 hf
    cases e3
    have h1 : (Instr.field T (.agg cs) i).run P w = .ok v w := by
      simp only [Instr.field, Sem.run_bind, run_underlying e, Result.andThen_ok, e2, asAgg, Sem.run_pure, part, run_isAgg_plain ht, Bool.false_eq_true, if_false, hv]
    simp only [execOp, hx, Sem.run_bind, h1, Result.andThen_ok]; rfl
theorem arrL : ∀ (xs : List Int), xs = (List.range xs.length).map fun (k : Nat) => rd xs (k : Int) := fun xs => by
  apply List.ext_getElem
  · simp
  · intro i h1 h2
    simp [rd, h1]
/-- A store into an array of numbers, at a place that is not known. -/
theorem EO.storeArr {x y : Operand} {t : TypeId} {b n : Nat} {xs : List Int} {i v : Int} {ik : IntKind} {arr arr' : List Value} {T : TypeId} {fr : Nat × Nat} {c : Chunk}
    (hz : (P.info? t).map (·.size) = some 1) (hx : ev ρ x = .pointer (some ⟨b, i.toNat, none⟩)) (hy : ev ρ y = .int ik v) (h0 : 0 ≤ i) (h1 : i < (n : Int)) (hn : xs.length = n) (ha : xs.map (Value.int ik) = arr) (hf : fr.1 = fr.2)
    (he : ((List.range n).map fun (k : Nat) => Value.int ik (rd (xs.set i.toNat v) (k : Int))) = arr') :
    EO P ⟨d, .store t x y, ty, pos, af, g⟩ ρ M (((b, .cells arr.toArray T fr) :: c) :: H) fun _ M' H' => M = M' ∧ H' = ((b, .cells arr'.toArray T fr) :: c) :: H := by
  refine EO.storeL (v := .int ik v) (vl := [.int ik v]) (arr' := arr') rfl hz hx hy (fun u hu => by simp at hu; subst hu; rfl) ?_ hf ?_
  · rw [← ha]
    simp
    omega
  · rw [← he, ← ha]
    show (xs.map (Value.int ik)).set i.toNat (Value.int ik v) = _
    rw [← List.map_set]
    conv => lhs; rw [arrL (xs.set i.toNat v)]
    simp [hn]
theorem IM.has.mono {M M' : IM} {p : Addr} {cs : List Value} (h : M.has p cs) (hle : M.le M') : M'.has p cs := hle.has h
theorem nones {α : Type} {r : α} {p : Prop} (h : (none : Option α) = some r) : p := nomatch h
theorem inv0 {r : Value} : #[r] ++ (#[] : Array Operand).map (ev ρ) = #[r] := by simp
theorem inv1 {r v : Value} {x : Operand} (h : ev ρ x = v) : #[r] ++ (#[x] : Array Operand).map (ev ρ) = #[r, v] := by simp [h]
/-- An assertion to an interface type, told by its run. -/
theorem PO.asserts {x : Operand} {xT t : TypeId} {v r : Value} (hx : ev ρ x = v) (hr : ∀ w, (Instr.typeAssert v xT t true).run P w = .ok r w) : PO P ⟨d, .typeAssert x xT t true, ty, pos, af, g⟩ ρ M H r := fun w _ => by
  simp only [execOp, hx, Sem.run_bind, hr w, Result.andThen_ok]; rfl
theorem run_assert_nil {xT t : TypeId} {z : Value} (hz : (P.info? t).map (·.zero) = some (some z)) {ms : Array (String × TypeId)} (hu : P.underlying t = some (.interface ms)) (w : World) : (Instr.typeAssert .nilIface xT t true).run P w = .ok (.tuple #[z, .bool false]) w := by
  obtain ⟨j, hj, hz'⟩ := Option.map_eq_some_iff.1 hz
  simp [Instr.typeAssert, run_underlying hu, typeInfo, zeroValue, hj, hz']

/-- What stands in a package-level variable. -/
theorem PO.loadG {t : TypeId} {b : Nat} {v : Value} (ht : plainT P t = true) (hc : M.cell ⟨b, 0, none⟩ = some v) : PO P ⟨d, .load t (.global b), ty, pos, af, g⟩ ρ M H v := PO.loadM ht rfl hc

theorem PO.ifcNil {t u : TypeId} {ms : Array (String × TypeId)} {x : Operand} {T : TypeId} {v : Value} (ht : P.underlying t = some (.interface ms)) (hx : ev ρ x = .iface T v) :
    PO P ⟨d, .binOp .eql t x (.const .nilIface) u, ty, pos, af, g⟩ ρ M H (.bool false) := fun w _ => by
  have h0 : ∀ n : Nat, (Op.equalIn (n + 1) t (.iface T v) .nilIface).run P w = .ok false w := fun n => by
    simp [Op.equalIn, run_underlying ht]
  have h1 : (binOp .eql t (.iface T v) .nilIface).run P w = .ok (.bool false) w := by
    simp only [binOp]
    simp [Op.equal, Op.maxDepth, h0 9999]
  simp only [execOp, hx, show ev ρ (.const .nilIface) = .nilIface from rfl, eqGuard_lit, pure_bind, Sem.run_bind, h1, Result.andThen_ok]; rfl
theorem PO.eqlR {x y : Operand} {k : IntKind} {a b : Int} {r : Bool} {t u : TypeId} (hx : ev ρ x = .int k a) (hy : ev ρ y = .int k b) (h : decide (a = b) = r) : PO P ⟨d, .binOp .eql t x y u, ty, pos, af, g⟩ ρ M H (.bool r) := h ▸ PO.eql hx hy
theorem PO.neqR {x y : Operand} {k : IntKind} {a b : Int} {r : Bool} {t u : TypeId} (hx : ev ρ x = .int k a) (hy : ev ρ y = .int k b) (h : decide (a ≠ b) = r) : PO P ⟨d, .binOp .neq t x y u, ty, pos, af, g⟩ ρ M H (.bool r) := h ▸ PO.neq hx hy
/-! ### errors compared -/
theorem guard_iface {op : BinOp} {t : TypeId} {x y : Operand} {a b : Value} (h : a ≠ .nilIface ∨ b ≠ .nilIface) (ha : ∀ l, a ≠ .agg l) : eqGuard op t x y a b = pure () := by
  unfold eqGuard
  cases op <;> simp <;> (split <;> first | rfl | simp_all)
theorem PO.ifaceNe {t u : TypeId} {ms : Array (String × TypeId)} {x y : Operand} {T U : TypeId} {v z : Value} (ht : P.underlying t = some (.interface ms)) (hx : ev ρ x = .iface T v) (hy : ev ρ y = .iface U z) (hne : Nat.beq T U = false) :
    PO P ⟨d, .binOp .eql t x y u, ty, pos, af, g⟩ ρ M H (.bool false) := fun w _ => by
  have h1 := run_eql_iface_types (P := P) T U v z ht (no_beq hne) w
  simp only [execOp, hx, hy, guard_iface (a := .iface T v) (b := .iface U z) (.inl (by simp)) (by simp), pure_bind, Sem.run_bind, h1, Result.andThen_ok]; rfl
theorem PO.nilIfaceNe {t u : TypeId} {ms : Array (String × TypeId)} {x y : Operand} {U : TypeId} {z : Value} (ht : P.underlying t = some (.interface ms)) (hx : ev ρ x = .nilIface) (hy : ev ρ y = .iface U z) :
    PO P ⟨d, .binOp .eql t x y u, ty, pos, af, g⟩ ρ M H (.bool false) := fun w _ => by
  have h1 := run_eql_iface_nil_left (P := P) w U z ht
  simp only [execOp, hx, hy, guard_iface (a := .nilIface) (b := .iface U z) (.inr (by simp)) (by simp), pure_bind, Sem.run_bind, h1, Result.andThen_ok]; rfl
theorem PO.ifaceInt {t u : TypeId} {ms : Array (String × TypeId)} {x y : Operand} {T : TypeId} {a b : Int} (ht : P.underlying t = some (.interface ms)) (hT : P.underlying T = some (.int .i64)) (hc : (P.info? T).map (·.comparable) = some true) (hx : ev ρ x = .iface T (.int .i64 a)) (hy : ev ρ y = .iface T (.int .i64 b)) :
    PO P ⟨d, .binOp .eql t x y u, ty, pos, af, g⟩ ρ M H (.bool (decide (a = b))) := fun w _ => by
  obtain ⟨i, hi, hcmp⟩ := Option.map_eq_some_iff.1 hc
  have e : (a == b) = decide (a = b) := by by_cases h : a = b <;> simp [h]
  have h0 : ∀ n : Nat, (Op.equalIn (n + 2) t (.iface T (.int .i64 a)) (.iface T (.int .i64 b))).run P w = .ok (decide (a = b)) w := fun n => by
    simp [Op.equalIn, run_underlying ht, run_underlying hT, typeInfo, hi, hcmp, e]
  have h1 : (binOp .eql t (.iface T (.int .i64 a)) (.iface T (.int .i64 b))).run P w = .ok (.bool (decide (a = b))) w := by
    simp only [binOp]
    simp [Op.equal, Op.maxDepth, h0 9998]
  simp only [execOp, hx, hy, guard_iface (a := .iface T (.int .i64 a)) (b := .iface T (.int .i64 b)) (.inl (by simp)) (by simp), pure_bind, Sem.run_bind, h1, Result.andThen_ok]; rfl

/-! ### internal/reflectlite -/
open Go.Extern in
theorem EO.valueOf {xs : Array Operand} {ats : Array TypeId} {f : FuncId} {T : TypeId} {v h : Value} {fl : Int} {cs : Array Value} (hf : ExtOk P f (fun args => ReflectliteValue.unpack (args.getD 0 (.tuple #[])))) (ha : xs.map (ev ρ) = #[.iface T v])
    (hr : ∀ w, (ReflectliteValue.unpack (.iface T v)).run P w = .ok (.agg #[h, .pointer (some ⟨w.heap.size, 0, none⟩), .int .u64 fl]) (w.alloc (.cells cs T))) :
    EO P ⟨d, .call { callee := .value (.func f), args := xs, argTypes := ats }, ty, pos, af, g⟩ ρ M H fun u M' H' => M = M' ∧ ∃ b, u = .agg #[h, .pointer (some ⟨b, 0, none⟩), .int .u64 fl] ∧ H' = [(b, .cells cs T (0, 0))] :: H :=
  EO.ext hf ha fun w hs => ⟨_, _, hr w, M, _, .refl M, hs.alloc _, rfl, w.heap.size, rfl, rfl⟩
theorem rlm (z : Sem Value) (f : TypeId → Addr → Nat → Nat → Sem Value) (v : Value) :
    Extern.ReflectliteValue.method z f #[v] = (do match ← Extern.ReflectliteValue.parts v with | none => z | some (t, a, fl) => f t a fl (fl % 32)) := rfl
theorem run_loadPlain {t : TypeId} {p : Addr} {v : Value} (ht : plainT P t = true) {w : World} (hc : w.cell? p = some v) : (loadVar t p).run P w = .ok v w := by
  simp only [loadVar, Sem.run_bind, run_isAgg_plain ht, Result.andThen_ok, Bool.false_eq_true, if_false, run_load, hc]
theorem run_loadAgg {t : TypeId} {p : Addr} {cs : List Value} (ht : aggB P t = true) (hz : (P.info? t).map (·.size) = some cs.length) {w : World} (hc : ∀ j v, cs[j]? = some v → w.cell? (p.add j) = some v) : (loadVar t p).run P w = .ok (.agg cs.toArray) w := by
  simp only [loadVar, Sem.run_bind, run_isAgg_agg ht, Result.andThen_ok, if_true, run_sizeOf_some hz, run_loadCells_list w p cs hc]
  rfl
open Go.Extern in
theorem EO.isNil (k : Nat) {xs : Array Operand} {ats : Array TypeId} {f : FuncId} {T : TypeId} {h : Value} {fl : Int} {fn : Nat} {b : Nat} {p : Addr} (hf : ExtOk P f (ReflectliteValue.method (ReflectliteValue.valueError "reflectlite.Value.IsNil" 0) ReflectliteValue.isNil))
    (hp : ∀ a w, (ReflectliteValue.parts (.agg #[h, .pointer (some a), .int .u64 fl])).run P w = .ok (some (T, a, fn)) w) (hk : fn % 32 = 22) (hT : plainT P T = true)
    (ha : xs.map (ev ρ) = #[.agg #[h, .pointer (some ⟨b, 0, none⟩), .int .u64 fl]]) (hH : H[k]? = some [(b, .cells #[.pointer (some p)] T (0, 0))]) :
    EO P ⟨d, .call { callee := .value (.func f), args := xs, argTypes := ats }, ty, pos, af, g⟩ ρ M H fun u M' H' => .bool false = u ∧ M = M' ∧ H = H' :=
  EO.ext hf ha fun w hs => ⟨.bool false, w, by
    have hc : w.cell? ⟨b, 0, none⟩ = some (.pointer (some p)) := hs.cellC k hH (chunkCell_lit.trans rfl)
    rw [rlm]
    simp only [Sem.run_bind, hp, Result.andThen_ok]
    unfold ReflectliteValue.isNil
    rw [hk]
    simp [run_loadPlain hT hc], M, H, .refl M, hs, rfl, rfl, rfl⟩
open Go.Extern in
theorem EO.rvElem (k : Nat) {xs : Array Operand} {ats : Array TypeId} {f : FuncId} {T E : TypeId} {h : Value} {r : Addr → Value} {fl : Int} {fn : Nat} {b : Nat} {p : Addr} (hf : ExtOk P f (ReflectliteValue.method (ReflectliteValue.valueError "reflectlite.Value.Elem" 0) ReflectliteValue.elem))
    (hp : ∀ a w, (ReflectliteValue.parts (.agg #[h, .pointer (some a), .int .u64 fl])).run P w = .ok (some (T, a, fn)) w) (hk : fn % 32 = 22) (hT : plainT P T = true)
    (he : ∀ w, (Rtype.elem? T).run P w = .ok (some E) w) (hm : ∀ p w, (ReflectliteValue.mk E p ReflectliteValue.flagAddr).run P w = .ok (r p) w)
    (ha : xs.map (ev ρ) = #[.agg #[h, .pointer (some ⟨b, 0, none⟩), .int .u64 fl]]) (hH : H[k]? = some [(b, .cells #[.pointer (some p)] T (0, 0))]) :
    EO P ⟨d, .call { callee := .value (.func f), args := xs, argTypes := ats }, ty, pos, af, g⟩ ρ M H fun u M' H' => r p = u ∧ M = M' ∧ H = H' :=
  EO.ext hf ha fun w hs => ⟨r p, w, by
    have hc : w.cell? ⟨b, 0, none⟩ = some (.pointer (some p)) := hs.cellC k hH (chunkCell_lit.trans rfl)
    rw [rlm]
    simp only [Sem.run_bind, hp, Result.andThen_ok]
    unfold ReflectliteValue.elem
    rw [hk]
    simp [run_loadPlain hT hc, he, hm], M, H, .refl M, hs, rfl, rfl, rfl⟩
theorem rls (v x : Value) : Extern.ReflectliteValue.set #[v, x] = (do
    let (some (dst, a, fl), some (src, b, _)) := (← Extern.ReflectliteValue.parts v, ← Extern.ReflectliteValue.parts x)
      | unsupported (.noEntry "extern/(internal/reflectlite.Value).Set.zeroValue")
    if fl / Extern.ReflectliteValue.flagAddr % 2 == 0 then unsupported (.noEntry "extern/(internal/reflectlite.Value).Set.unaddressable")
    let val ← loadVar src b
    if ← Extern.Rtype.directlyAssignable dst src then storeVar dst a val
    else if ← Extern.Rtype.implements dst src then
      if (← Extern.Rtype.kind src) == 20 then
        match val with
        | .nilIface => unsupported (.noEntry "extern/reflectlite: a nil value of one interface type handed on as a value of another")
        | _ => storeVar dst a val
      else storeVar dst a (.iface src val)
    else panicString ("reflectlite.Set: value of type " ++ (← Extern.Rtype.spelt src) ++ " is not assignable to type " ++ (← Extern.Rtype.spelt dst))
    pure (.tuple #[])) := rfl
open Go.Extern in
/-- What stands in one variable is set into another one (the first piece) of the same type. -/
theorem EO.rvSet {xs : Array Operand} {ats : Array TypeId} {f : FuncId} {T : TypeId} {h : Value} {f1 f2 : Int} {n1 n2 : Nat} {b s : Nat} {v : Value} {vl arr : List Value} {c : Chunk} (hf : ExtOk P f ReflectliteValue.set)
    (hp1 : ∀ a w, (ReflectliteValue.parts (.agg #[h, .pointer (some a), .int .u64 f1])).run P w = .ok (some (T, a, n1)) w) (hp2 : ∀ a w, (ReflectliteValue.parts (.agg #[h, .pointer (some a), .int .u64 f2])).run P w = .ok (some (T, a, n2)) w)
    (hk : (n1 / ReflectliteValue.flagAddr % 2 == 0) = false) (hd : ∀ w, (Rtype.directlyAssignable T T).run P w = .ok true w)
    (ha : xs.map (ev ρ) = #[.agg #[h, .pointer (some ⟨b, 0, none⟩), .int .u64 f1], .agg #[h, .pointer (some ⟨s, 0, none⟩), .int .u64 f2]])
    (hv : ∀ w, Sat w M (((b, .cells arr.toArray T (0, 0)) :: c) :: H) → (loadVar T ⟨s, 0, none⟩).run P w = .ok v w) (hvc : v.cells = vl.toArray) (hz : (P.info? T).map (·.size) = some vl.length) (hl : arr.length = vl.length) (h1 : ∀ u ∈ vl, u.oneCell' = true) :
    EO P ⟨d, .call { callee := .value (.func f), args := xs, argTypes := ats }, ty, pos, af, g⟩ ρ M (((b, .cells arr.toArray T (0, 0)) :: c) :: H) fun u M' H' => .tuple #[] = u ∧ M = M' ∧ ((b, .cells vl.toArray T (0, 0)) :: c) :: H = H' := by
  refine EO.ext hf ha fun w hs => ?_
  have hb := hs.own (b, .cells arr.toArray T (0, 0)) (by simp) rfl
  obtain ⟨w', r1, r2, r3, r4, r5, r6⟩ := run_storeCells_blk (P := P) b 0 T (0, 0) vl 0 arr.toArray w hb (by simpa using Nat.le_of_eq hl.symm) (.inl rfl) h1
  have hst : (storeVar T ⟨b, 0, none⟩ v).run P w = .ok () w' := by
    have hz' : (P.info? T).map (·.size) = some v.cells.size := by rw [hvc]; simpa using hz
    simp only [storeVar, Sem.run_bind, run_sizeOf_some hz', Result.andThen_ok, ne_eq, not_true_eq_false, if_false]
    rw [hvc]; exact r1
  refine ⟨.tuple #[], w', ?_, M, _, .refl M, hs.write r4 r5 r6 (by rw [r2, Nat.add_zero]) r3, rfl, rfl, ?_⟩
  · rw [rls]
    simp only [Sem.run_bind, hp1, hp2, Result.andThen_ok]
    simp only [hk, Bool.false_eq_true, if_false, Sem.run_bind, hv w hs, Result.andThen_ok, hd w, if_true, hst, Sem.run_pure, pure_bind]
  · have : putL arr.toArray 0 vl = vl.toArray := by
      rw [putL_list]
      congr 1
      have key : ∀ (l a : List Value) (pre : List Value), a.length = l.length → setsL (pre ++ a) pre.length l = pre ++ l := by
        intro l
        induction l with
        | nil => intro a pre h; simp at h; subst h; rfl
        | cons x l ih =>
          intro a pre h
          cases a with
          | nil => simp at h
          | cons y a =>
            rw [setsL, List.set_append_right _ _ (Nat.le_refl _), Nat.sub_self, List.set_cons_zero]
            have := ih a (pre ++ [x]) (by simpa using h)
            simpa using this
      simpa using key vl arr [] hl
    rw [this]
end
end Go.KK
