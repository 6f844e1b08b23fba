
/- Structs compared that hold structs. -/
import Derived.Test.YtjgnbbakamellaaGreatDoorKEq
set_option linter.unusedSimpArgs false
set_option linter.unusedVariables false
namespace Go.KK
open Go
section
variable {P : Program}
def PartEq (P : Program) (t : TypeId) (xs ys : Array Value) (off : Nat) (b : Bool) : Prop :=
  ∃ u v, (∀ w, (part t xs off).run P w = .ok u w) ∧ (∀ w, (part t ys off).run P w = .ok v w) ∧ ∀ d w, (Op.equalIn (d + 2) t u v).run P w = .ok b w
theorem PartEq.cell {t : TypeId} {xs ys : Array Value} {off : Nat} {u v : Value} {b : Bool} (ht : plainT P t = true) (hx : xs[off]? = some u) (hy : ys[off]? = some v) (hc : EqC P t u v b) : PartEq P t xs ys off b :=
  ⟨u, v, run_part_plain ht hx, run_part_plain ht hy, fun d w => hc.run (d + 1) w⟩
theorem run_equalIn_struct {t : TypeId} {fs : Array Field} {xs ys : Array Value} {bs : List Bool} (ht : P.underlying t = some (.struct fs)) (hg : eqStruct P t = true) (h : EqFs P xs ys fs.toList bs) (n : Nat) (w : World) : (Op.equalIn (n + 2) t (.agg xs) (.agg ys)).run P w = .ok (andL bs) w := by
  simp only [eqStruct, Bool.and_eq_true, Bool.not_eq_true'] at hg
  have e := h.run n w
  have hp : (program).run P w = .ok P w := rfl
  obtain ⟨m, hm⟩ : ∃ m, m = n + 1 := ⟨_, rfl⟩
  rw [← hm] at e
  rw [show n + 2 = m + 1 by omega]
  simp only [Op.equalIn, Sem.run_bind, run_underlying ht, Result.andThen_ok, hp, hg.1, Bool.false_eq_true, if_false]
  rw [← Array.forIn_toList]
  rw [e]
  cases andL bs <;> rfl
theorem run_part_agg {t : TypeId} {sz : Nat} {cs us : Array Value} {off : Nat} (ha : aggB P t = true) (hz : (P.info? t).map (·.size) = some sz) (hx : cs.extract off (off + sz) = us) (w : World) : (part t cs off).run P w = .ok (.agg us) w := by
  unfold part
  simp only [Sem.run_bind, run_isAgg_agg ha, Result.andThen_ok, if_true, run_sizeOf_some hz, Sem.run_pure, hx]
theorem PartEq.struct {t : TypeId} {fs : Array Field} {sz : Nat} {xs ys us vs : Array Value} {off : Nat} {bs : List Bool} (ha : aggB P t = true) (hz : (P.info? t).map (·.size) = some sz)
    (hx : xs.extract off (off + sz) = us) (hy : ys.extract off (off + sz) = vs) (ht : P.underlying t = some (.struct fs)) (hg : eqStruct P t = true) (h : EqFs P us vs fs.toList bs) : PartEq P t xs ys off (andL bs) :=
  ⟨.agg us, .agg vs, run_part_agg ha hz hx, run_part_agg ha hz hy, run_equalIn_struct ht hg h⟩
inductive EqFs2 (P : Program) (xs ys : Array Value) : List Field → List Bool → Prop
  | nil : EqFs2 P xs ys [] []
  | cons {f : Field} {fs : List Field} {b : Bool} {bs : List Bool} (hn : f.name ≠ "_") (hc : PartEq P f.type xs ys f.offset b) (k : EqFs2 P xs ys fs bs) : EqFs2 P xs ys (f :: fs) (b :: bs)
theorem EqFs2.run {xs ys : Array Value} (d : Nat) (w : World) : ∀ {fs : List Field} {bs : List Bool}, EqFs2 P xs ys fs bs →
    (forIn (m := Sem) fs ((none : Option Bool), ()) fun f __s =>
                if f.name ≠ "_" then do
                  let __do_lift ← part f.type xs f.offset
                  let __do_lift_1 ← part f.type ys f.offset
                  let __do_lift ← Op.equalIn (d + 2) f.type __do_lift __do_lift_1
                  if (!__do_lift) = true then pure (ForInStep.done (some false, ()))
                    else pure (ForInStep.yield (none, ()))
                else pure (ForInStep.yield (none, ()))).run P w = .ok (if andL bs then (none, ()) else (some false, ())) w
  | _, _, .nil => rfl
  | _, _, .cons (b := b) (bs := bs) hn hc k => by
    obtain ⟨u, v, h1, h2, h3⟩ := hc
    rw [List.forIn_cons]
    simp only [Sem.run_bind, if_pos hn, h1, h2, Result.andThen_ok, h3]
    cases b with
    | true =>
      simp only [Bool.not_true, Bool.false_eq_true, if_false, Sem.run_pure, Result.andThen_ok]
      rw [EqFs2.run d w k]
      simp [andL]
    | false =>
      simp only [Bool.not_false, if_true, Sem.run_pure, Result.andThen_ok]
      simp [andL]
theorem run_equal_struct2 {t : TypeId} {fs : Array Field} {xs ys : Array Value} {bs : List Bool} (ht : P.underlying t = some (.struct fs)) (hg : eqStruct P t = true) (h : EqFs2 P xs ys fs.toList bs) (w : World) : (Op.equal t (.agg xs) (.agg ys)).run P w = .ok (andL bs) w := by
  obtain ⟨n, hn⟩ : ∃ n, Op.maxDepth = n + 3 := ⟨9997, rfl⟩
  unfold Op.equal
  rw [hn]
  simp only [eqStruct, Bool.and_eq_true, Bool.not_eq_true'] at hg
  have e := h.run n w
  have hp : (program).run P w = .ok P w := rfl
  obtain ⟨m, hm⟩ : ∃ m, m = n + 2 := ⟨_, rfl⟩
  rw [← hm] at e
  rw [show n + 3 = m + 1 by omega]
  simp only [Op.equalIn, Sem.run_bind, run_underlying ht, Result.andThen_ok, hp, hg.1, Bool.false_eq_true, if_false]
  rw [← Array.forIn_toList]
  rw [e]
  cases andL bs <;> rfl
end
end Go.KK
