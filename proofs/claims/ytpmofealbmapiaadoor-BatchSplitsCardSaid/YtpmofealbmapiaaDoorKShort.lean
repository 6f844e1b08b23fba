/- Short names for the commonest steps of the printed walks. -/
import Derived.Test.YtpmofealbmapiaaDoorKGen2
namespace Go.KK
open Go
section
variable {P : Program} {ops : Array Oper} {n : Nat} {Q : Exit → Act → World → Prop} {rest : List Oper} {ρ : Nat → Value} {M : IM} {H : HL} {d : Nat} {op : Op} {ty : TypeId} {pos : String} {af : Array Edge} {x : Operand} {y : Code}
theorem Pu (v : Value) (h : PO P ⟨some d, op, ty, pos, af, none⟩ ρ M H v) (hd : dstOk n (some d))
    (k : WL P ops n Q rest (upd ρ d v) M H) : WL P ops n Q (⟨some d, op, ty, pos, af, none⟩ :: rest) ρ M H := WL.pure h hd k
theorem Pm (v : Value) (h : ev ρ x = v) (hd : dstOk n (some d))
    (k : WL P ops n Q rest (upd ρ d v) M H) : WL P ops n Q (⟨some d, .move x, ty, pos, af, none⟩ :: rest) ρ M H := WL.pure (PO.move h) hd k
theorem Pa (v : Value) (h : ev ρ x = v) (hd : dstOk n (some d))
    (k : WL P ops n Q rest (upd ρ d v) M H) : WL P ops n Q (⟨some d, .assign x, ty, pos, af, none⟩ :: rest) ρ M H := WL.pure (PO.assign h) hd k
theorem Of {d : Option Nat} {g : Nat} {want b : Bool} (t : Nat)
    (hg : (ops[g]?).bind (·.dst) = some t) (ht : ρ t = .bool b) (hb : b = !want) (hd : dstOk n d)
    (k : WL P ops n Q rest (updo ρ d undef) M H) : WL P ops n Q (⟨d, op, ty, pos, af, some (g, want)⟩ :: rest) ρ M H := WL.off t hg ht hb hd k
theorem On {d : Option Nat} {g : Nat} {want b : Bool} (t : Nat)
    (hg : (ops[g]?).bind (·.dst) = some t) (ht : ρ t = .bool b) (hb : b = want)
    (k : WL P ops n Q (⟨d, op, ty, pos, af, none⟩ :: rest) ρ M H) : WL P ops n Q (⟨d, op, ty, pos, af, some (g, want)⟩ :: rest) ρ M H := WL.on t hg ht hb k
theorem Sr {id : Nat} {l : List Oper} (h : WL P l.toArray n (Exit.then (y.wp P Q) Q) l ρ M H) : WC P n Q (.seq (.region id l.toArray false) y) ρ M H := WC.seq (WC.region h)
theorem Nt (h : WC P n Q y ρ M H) : WL P ops n (Exit.then (y.wp P Q) Q) [] ρ M H := WL.nil (WQ.thenC h)
theorem Ns {id : Nat} {l : List Oper} (h : WL P l.toArray n (Exit.then (y.wp P Q) Q) l ρ M H) : WL P ops n (Exit.then ((Code.seq (.region id l.toArray false) y).wp P Q) Q) [] ρ M H := Nt (Sr h)
variable {masks : List Nat} {t : Plan} {pend : List Nat} {i : Nat}
theorem Tp (v : Value) (ho : ops[i]? = some ⟨some d, op, ty, pos, af, none⟩) (h : PO P ⟨some d, op, ty, pos, af, none⟩ ρ M H v) (hd : dstOk n (some d))
    (k : WT P ops masks n Q t (i :: pend) (upd ρ d v) M H) : WT P ops masks n Q (.pure i t) pend ρ M H := WT.pure ho h hd k
theorem Tn {g : Nat} (v : Value) {want b : Bool} (s : Nat) (ho : ops[i]? = some ⟨some d, op, ty, pos, af, some (g, want)⟩) (hg : (ops[g]?).bind (·.dst) = some s) (hs : ρ s = .bool b) (hb : b = want)
    (h : PO P ⟨some d, op, ty, pos, af, none⟩ ρ M H v) (hd : dstOk n (some d)) (k : WT P ops masks n Q t (i :: pend) (upd ρ d v) M H) : WT P ops masks n Q (.pure i t) pend ρ M H := WT.pureOn s ho hg hs hb h hd k
end
end Go.KK
