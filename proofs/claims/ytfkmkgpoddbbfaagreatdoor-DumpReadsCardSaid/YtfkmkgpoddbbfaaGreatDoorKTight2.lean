
import Derived.Test.YtfkmkgpoddbbfaaGreatDoorKTight
namespace Go.KK
open Go
abbrev mn (n a:Int):Int:=if n<a then n else a
section
variable {P : Program} {ops : Array Oper} {n : Nat} {Q : Exit → Act → World → Prop} {rest : List Oper} {ρ : Nat → Value} {M : IM} {H : HL} {d : Nat} {op : Op} {ty : TypeId} {pos : String} {af : Array Edge} {x : Operand}
theorem qu (v:Value) (h:PO P ⟨some d,op,ty,pos,af,none⟩ ρ M H v)
  (k:WL P ops n Q rest (upd ρ d v) M H) (hd:QkM n (some d):=by exact rfl):WL P ops n Q (⟨some d,op,ty,pos,af,none⟩::rest) ρ M H:=Pu v h hd k
theorem qm (v:Value) (k:WL P ops n Q rest (upd ρ d v) M H) (h:ev ρ x=v:=by exact rfl) (hd:QkM n (some d):=by exact rfl):WL P ops n Q (⟨some d, .move x,ty,pos,af,none⟩::rest) ρ M H:=Pm v h hd k
theorem qa (v:Value) (k:WL P ops n Q rest (upd ρ d v) M H) (h:ev ρ x=v:=by exact rfl) (hd:QkM n (some d):=by exact rfl):WL P ops n Q (⟨some d, .assign x,ty,pos,af,none⟩::rest) ρ M H:=Pa v h hd k
theorem qM (v:Value) (h:ev ρ x=v) (k:WL P ops n Q rest (upd ρ d v) M H) (hd:QkM n (some d):=by exact rfl):WL P ops n Q (⟨some d, .move x,ty,pos,af,none⟩::rest) ρ M H:=Pm v h hd k
theorem qo {g:Nat}{want b:Bool}(t:Nat) (hb:b=want) (v:Value) (h:PO P ⟨some d,op,ty,pos,af,none⟩ ρ M H v) (k:WL P ops n Q rest (upd ρ d v) M H)
  (hg:(ops[g]?).bind (·.dst)=some t:=by exact rfl) (ht:ρ t= .bool b:=by exact rfl) (hd:QkM n (some d):=by exact rfl):WL P ops n Q (⟨some d,op,ty,pos,af,some (g,want)⟩::rest) ρ M H:=On t hg ht hb (Pu v h hd k)
variable {masks : List Nat} {t : Plan} {pend : List Nat} {i : Nat}
theorem qt (v:Value) (ho:ops[i]?=some ⟨some d,op,ty,pos,af,none⟩) (h:PO P ⟨some d,op,ty,pos,af,none⟩ ρ M H v)
  (k:WT P ops masks n Q t (i::pend) (upd ρ d v) M H) (hd:QkM n (some d):=by exact rfl):WT P ops masks n Q (.pure i t) pend ρ M H:=Tp v ho h hd k
end
theorem Z {α:Sort _}{a:α}:a=a:=rfl
theorem Bi {α:Type}{b:Bool}{A B:Option α}{r:α}(h:(if b=true then A else B)=some r):(b=true∧A=some r)∨(b=false∧B=some r):=by
 cases b
 ·exact .inr ⟨rfl,h⟩
 ·exact .inl ⟨rfl,h⟩
theorem Ch {P:Program}{n:Nat}{Q:Exit→Act→World→Prop}{ρ:Nat→Value}{M:IM}{H:HL}{x y:Code}{c:Operand}{α:Type}{b:Bool}{A B:Option α}{r:α}(h:(if b=true then A else B)=some r) (hc:ev ρ c= .bool b)
  (ht:b=true→A=some r→WC P n Q x ρ M H) (hf:b=false→B=some r→WC P n Q y ρ M H):WC P n Q (.cond c x y) ρ M H:=
 WC.cond hc (fun e=>ht e (Q7D e h)) (fun e=>hf e (Q7E e h))
end Go.KK
