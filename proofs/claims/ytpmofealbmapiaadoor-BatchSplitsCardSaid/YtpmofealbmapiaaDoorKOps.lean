/- Rules for single operations in the frame of KCore: numbers, bools, texts, parts of structs, loads and stores, new blocks, calls. -/
import Derived.Test.YtpmofealbmapiaaDoorKCore
import Derived.WalkKit
import Derived.Laws.Rows
import Derived.LaidEql
namespace Go.KK
open Go

section
variable {P : Program} {ρ : Nat → Value} {M : IM} {H : HL} {d : Option Nat} {ty : TypeId} {pos : String} {af : Array Edge} {g : Option (Nat × Bool)}

theorem PO.move {x : Operand} {v : Value} (hx : ev ρ x = v) : PO P ⟨d, .move x, ty, pos, af, g⟩ ρ M H v := fun w _ => by
  show Sem.run P (pure (Next.value (ev ρ x))) w = _
  rw [hx]; rfl
theorem PO.assign {x : Operand} {v : Value} (hx : ev ρ x = v) : PO P ⟨d, .assign x, ty, pos, af, g⟩ ρ M H v := fun w _ => by
  show Sem.run P (pure (Next.value (ev ρ x))) w = _
  rw [hx]; rfl
theorem PO.pickT {c x y : Operand} {v : Value} {b : Bool} (hc : ev ρ c = .bool b) (hb : b = true) (hx : ev ρ x = v) : PO P ⟨d, .pick c x y, ty, pos, af, g⟩ ρ M H v := fun w _ => by
  subst hb; simp only [execOp, hc, asBool, hx]; rfl
theorem PO.pickF {c x y : Operand} {v : Value} {b : Bool} (hc : ev ρ c = .bool b) (hb : b = false) (hy : ev ρ y = v) : PO P ⟨d, .pick c x y, ty, pos, af, g⟩ ρ M H v := fun w _ => by
  subst hb; simp only [execOp, hc, asBool, hy]; rfl
theorem PO.pick {c x y : Operand} {b p q : Bool} (hc : ev ρ c = .bool b) (hx : ev ρ x = .bool p) (hy : ev ρ y = .bool q) : PO P ⟨d, .pick c x y, ty, pos, af, g⟩ ρ M H (.bool (bif b then p else q)) := fun w _ => by
  simp only [execOp, hc, asBool, hx, hy]; cases b <;> rfl

/-! ### numbers -/
def andI (k : IntKind) (a b : Int) : Int := k.wrap ((BitVec.ofInt k.bits a &&& BitVec.ofInt k.bits b).toNat : Int)
def orI (k : IntKind) (a b : Int) : Int := k.wrap ((BitVec.ofInt k.bits a ||| BitVec.ofInt k.bits b).toNat : Int)
def xorI (k : IntKind) (a b : Int) : Int := k.wrap ((BitVec.ofInt k.bits a ^^^ BitVec.ofInt k.bits b).toNat : Int)
def andNotI (k : IntKind) (a b : Int) : Int := k.wrap ((BitVec.ofInt k.bits a &&& ~~~BitVec.ofInt k.bits b).toNat : Int)
def shlI (k : IntKind) (a b : Int) : Int := k.wrap (a * 2 ^ (min b.toNat k.bits))
def shrI (k : IntKind) (a b : Int) : Int := a.fdiv (2 ^ (min b.toNat k.bits))
def notI (k : IntKind) (a : Int) : Int := xorI k (if k.signed then -1 else k.max) a

section
variable {x y : Operand} {k k' : IntKind} {a b : Int} {t u : TypeId}
theorem PO.add (hx : ev ρ x = .int k a) (hy : ev ρ y = .int k b) : PO P ⟨d, .binOp .add t x y u, ty, pos, af, g⟩ ρ M H (.int k (k.wrap (a + b))) := fun w _ => by
  simp [execOp, hx, hy, go_sem, binOp, Op.intArith]
theorem PO.sub (hx : ev ρ x = .int k a) (hy : ev ρ y = .int k b) : PO P ⟨d, .binOp .sub t x y u, ty, pos, af, g⟩ ρ M H (.int k (k.wrap (a - b))) := fun w _ => by
  simp [execOp, hx, hy, go_sem, binOp, Op.intArith]
theorem PO.mul (hx : ev ρ x = .int k a) (hy : ev ρ y = .int k b) : PO P ⟨d, .binOp .mul t x y u, ty, pos, af, g⟩ ρ M H (.int k (k.wrap (a * b))) := fun w _ => by
  simp [execOp, hx, hy, go_sem, binOp, Op.intArith]
theorem PO.and (hx : ev ρ x = .int k a) (hy : ev ρ y = .int k b) : PO P ⟨d, .binOp .and t x y u, ty, pos, af, g⟩ ρ M H (.int k (andI k a b)) := fun w _ => by
  simp only [execOp, hx, hy, eqGuard_and, binOp, ne_eq, not_true_eq_false, if_false, Op.intBits, andI]; rfl
theorem PO.or (hx : ev ρ x = .int k a) (hy : ev ρ y = .int k b) : PO P ⟨d, .binOp .or t x y u, ty, pos, af, g⟩ ρ M H (.int k (orI k a b)) := fun w _ => by
  simp only [execOp, hx, hy, eqGuard_or, binOp, ne_eq, not_true_eq_false, if_false, Op.intBits, orI]; rfl
theorem PO.xor (hx : ev ρ x = .int k a) (hy : ev ρ y = .int k b) : PO P ⟨d, .binOp .xor t x y u, ty, pos, af, g⟩ ρ M H (.int k (xorI k a b)) := fun w _ => by
  simp only [execOp, hx, hy, eqGuard_xor, binOp, ne_eq, not_true_eq_false, if_false, Op.intBits, xorI]; rfl
theorem PO.andNot (hx : ev ρ x = .int k a) (hy : ev ρ y = .int k b) : PO P ⟨d, .binOp .andNot t x y u, ty, pos, af, g⟩ ρ M H (.int k (andNotI k a b)) := fun w _ => by
  simp only [execOp, hx, hy, eqGuard_andNot, binOp, ne_eq, not_true_eq_false, if_false, Op.intBits, andNotI]; rfl
theorem PO.quo (hx : ev ρ x = .int k a) (hy : ev ρ y = .int k b) (h0 : b ≠ 0) : PO P ⟨d, .binOp .quo t x y u, ty, pos, af, g⟩ ρ M H (.int k (k.wrap (a.tdiv b))) := fun w _ => by
  simp [execOp, hx, hy, go_sem, binOp, Op.intDiv, h0]
theorem PO.rem (hx : ev ρ x = .int k a) (hy : ev ρ y = .int k b) (h0 : b ≠ 0) : PO P ⟨d, .binOp .rem t x y u, ty, pos, af, g⟩ ρ M H (.int k (a.tmod b)) := fun w _ => by
  simp [execOp, hx, hy, go_sem, binOp, Op.intDiv, h0]
theorem PO.shl (hx : ev ρ x = .int k a) (hy : ev ρ y = .int k' b) (h0 : 0 ≤ b) : PO P ⟨d, .binOp .shl t x y u, ty, pos, af, g⟩ ρ M H (.int k (shlI k a b)) := fun w _ => by
  simp only [execOp, hx, hy, eqGuard_shl, binOp, Op.shift, if_neg (show ¬ b < 0 by omega), shlI]; rfl
theorem PO.shr (hx : ev ρ x = .int k a) (hy : ev ρ y = .int k' b) (h0 : 0 ≤ b) : PO P ⟨d, .binOp .shr t x y u, ty, pos, af, g⟩ ρ M H (.int k (shrI k a b)) := fun w _ => by
  simp only [execOp, hx, hy, eqGuard_shr, binOp, Op.shift, if_neg (show ¬ b < 0 by omega), shrI]; rfl
theorem PO.lss (hx : ev ρ x = .int k a) (hy : ev ρ y = .int k b) : PO P ⟨d, .binOp .lss t x y u, ty, pos, af, g⟩ ρ M H (.bool (decide (a < b))) := fun w _ => by
  simp [execOp, hx, hy, go_sem, binOp, Op.intCmp]
theorem PO.leq (hx : ev ρ x = .int k a) (hy : ev ρ y = .int k b) : PO P ⟨d, .binOp .leq t x y u, ty, pos, af, g⟩ ρ M H (.bool (decide (a ≤ b))) := fun w _ => by
  simp [execOp, hx, hy, go_sem, binOp, Op.intCmp]
theorem PO.gtr (hx : ev ρ x = .int k a) (hy : ev ρ y = .int k b) : PO P ⟨d, .binOp .gtr t x y u, ty, pos, af, g⟩ ρ M H (.bool (decide (b < a))) := fun w _ => by
  simp [execOp, hx, hy, go_sem, binOp, Op.intCmp]
theorem PO.geq (hx : ev ρ x = .int k a) (hy : ev ρ y = .int k b) : PO P ⟨d, .binOp .geq t x y u, ty, pos, af, g⟩ ρ M H (.bool (decide (b ≤ a))) := fun w _ => by
  simp [execOp, hx, hy, go_sem, binOp, Op.intCmp]
theorem PO.eql (hx : ev ρ x = .int k a) (hy : ev ρ y = .int k b) : PO P ⟨d, .binOp .eql t x y u, ty, pos, af, g⟩ ρ M H (.bool (decide (a = b))) := fun w _ => by
  have e : (a == b) = decide (a = b) := by by_cases h : a = b <;> simp [h]
  simp [execOp, hx, hy, go_sem, binOp, Op.intCmp, e]
theorem PO.neq (hx : ev ρ x = .int k a) (hy : ev ρ y = .int k b) : PO P ⟨d, .binOp .neq t x y u, ty, pos, af, g⟩ ρ M H (.bool (decide (a ≠ b))) := fun w _ => by
  have e : (a != b) = decide (a ≠ b) := by by_cases h : a = b <;> simp [h]
  simp [execOp, hx, hy, go_sem, binOp, Op.intCmp, e]
end
section
variable {x y : Operand} {k : IntKind} {a : Int} {p q : Bool} {s r : ByteArray} {t u : TypeId}
theorem PO.not (hx : ev ρ x = .bool p) : PO P ⟨d, .unOp .not t x, ty, pos, af, g⟩ ρ M H (.bool (!p)) := fun w _ => by
  simp [execOp, hx, go_sem, Op.unary]
theorem PO.neg (hx : ev ρ x = .int k a) : PO P ⟨d, .unOp .neg t x, ty, pos, af, g⟩ ρ M H (.int k (k.wrap (0 - a))) := fun w _ => by
  simp [execOp, hx, go_sem, Op.unary, Op.intArith]
theorem PO.com (hx : ev ρ x = .int k a) : PO P ⟨d, .unOp .xor t x, ty, pos, af, g⟩ ρ M H (.int k (notI k a)) := fun w _ => by
  simp only [execOp, hx, Op.unary, Op.intBits, notI, xorI]; rfl
theorem run_equal_bool (ht : P.underlying t = some .bool) (w : World) : (Op.equal t (.bool p) (.bool q)).run P w = .ok (p == q) w := by
  unfold Op.equal
  obtain ⟨n, hn⟩ : ∃ n, Op.maxDepth = n + 1 := ⟨9999, rfl⟩
  rw [hn]
  simp only [Op.equalIn, Sem.run_bind, run_underlying ht, Result.andThen_ok]
  rfl
theorem binOp_eql_bool : binOp .eql t (.bool p) (.bool q) = (do pure (.bool (← Op.equal t (.bool p) (.bool q)))) := rfl
theorem binOp_neq_bool : binOp .neq t (.bool p) (.bool q) = (do pure (.bool (!(← Op.equal t (.bool p) (.bool q))))) := rfl
theorem PO.beql (ht : P.underlying t = some .bool) (hx : ev ρ x = .bool p) (hy : ev ρ y = .bool q) : PO P ⟨d, .binOp .eql t x y u, ty, pos, af, g⟩ ρ M H (.bool (p == q)) := fun w _ => by
  simp only [execOp, hx, hy, eqGuard_at_bool, pure_bind, binOp_eql_bool, Sem.run_bind, run_equal_bool ht w, Result.andThen_ok, Sem.run_pure]
theorem PO.bneq (ht : P.underlying t = some .bool) (hx : ev ρ x = .bool p) (hy : ev ρ y = .bool q) : PO P ⟨d, .binOp .neq t x y u, ty, pos, af, g⟩ ρ M H (.bool (!(p == q))) := fun w _ => by
  simp only [execOp, hx, hy, eqGuard_at_bool, pure_bind, binOp_neq_bool, Sem.run_bind, run_equal_bool ht w, Result.andThen_ok, Sem.run_pure]
theorem beq_toList (s r : ByteArray) : (s.toList == r.toList) = decide (s = r) := by
  by_cases h : s = r
  · subst h; simp
  · have : s.toList ≠ r.toList := fun e => h (by
      rw [ByteArray.toList_eq, ByteArray.toList_eq] at e
      exact ByteArray.ext (by simpa using e))
    simp [h, this]
theorem PO.seql (hx : ev ρ x = .string s) (hy : ev ρ y = .string r) : PO P ⟨d, .binOp .eql t x y u, ty, pos, af, g⟩ ρ M H (.bool (decide (s = r))) := fun w _ => by
  simp only [execOp, hx, hy, eqGuard_at_string, binOp, Op.stringOp, beq_toList]; rfl
theorem PO.sneq (hx : ev ρ x = .string s) (hy : ev ρ y = .string r) : PO P ⟨d, .binOp .neq t x y u, ty, pos, af, g⟩ ρ M H (.bool (!decide (s = r))) := fun w _ => by
  simp only [execOp, hx, hy, eqGuard_at_string, binOp, Op.stringOp, beq_toList]; rfl
theorem PO.sgeq (hx : ev ρ x = .string s) (hy : ev ρ y = .string r) : PO P ⟨d, .binOp .geq t x y u, ty, pos, af, g⟩ ρ M H (.bool (!Op.bytesLess s.toList r.toList)) := fun w _ => by
  simp only [execOp, hx, hy, eqGuard_at_string, binOp, Op.stringOp]; rfl
theorem PO.conv {k' : IntKind} (hs : (P.underlying t).isSome = true) (hd : P.underlying u = some (.int k')) (hx : ev ρ x = .int k a) : PO P ⟨d, .convert t u x, ty, pos, af, g⟩ ρ M H (.int k' (k'.wrap a)) := fun w _ => by
  obtain ⟨td, hs⟩ := Option.isSome_iff_exists.1 hs
  simp [execOp, hx, go_sem, convert, run_underlying hs, run_underlying hd, Conv.intToInt]
end
end
end Go.KK
