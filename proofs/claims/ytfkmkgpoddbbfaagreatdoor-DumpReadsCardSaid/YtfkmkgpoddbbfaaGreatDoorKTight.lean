
import Derived.Test.YtfkmkgpoddbbfaaGreatDoorKShort
import Derived.Test.YtfkmkgpoddbbfaaGreatDoorKRes
namespace Go.KK
open Go
section
variable {P : Program} {ops : Array Oper} {masks : List Nat} {n i q : Nat} {ρ : Nat → Value} {M : IM} {H : HL}
theorem Sl:∀ {r:List Nat},r.all (QjT masks i)=true→StabL P ops masks n i ρ M H r
 |[],_=>trivial
 |_::r,h=>StabL.anc (by rw [List.all_cons,Bool.and_eq_true] at h;exact h.1) (Sl (by rw [List.all_cons,Bool.and_eq_true] at h;exact h.2))
theorem Sk:∀ (k:Nat){r:List Nat},(r.take k).all (QjT masks i)=true→StabL P ops masks n i ρ M H (r.drop k)→StabL P ops masks n i ρ M H r
 |0,_,_,h=>h
 |_+1,[],_,_=>trivial
 |k+1,_::r,h,g=>StabL.anc (by rw [List.take_succ_cons,List.all_cons,Bool.and_eq_true] at h;exact h.1) (Sk k (by rw [List.take_succ_cons,List.all_cons,Bool.and_eq_true] at h;exact h.2) g)
theorem Ss {r:List Nat}{v:Value}{d:Nat}{op:Op}{ty:TypeId}{pos:String}{af:Array Edge}(ho:ops[q]?=some ⟨some d,op,ty,pos,af,none⟩) (h:PO P ⟨some d,op,ty,pos,af,none⟩ ρ M H v) (hv:ρ d=v)
  (k:StabL P ops masks n i ρ M H r):StabL P ops masks n i ρ M H (q::r):=StabL.st (StabA.of ho h hv) k
theorem Te {P:Program}{f:FuncId}{fn:Func}{c:Code}{args:Array Value}{M:IM}{Hf:HL}{post:Value→IM→HL→Prop}
  (hf:P.funcs[f]?=some fn) (hb:fn.body=some c) (hn:Nat.ble args.size fn.ntmps=true)
  (h:∀ F ρ,(∀ s,ρ s=(args.toList)[s]?.getD undef)→WC P fn.ntmps (RetQ P fn M F post) c ρ M (Hf++F)):Tri P f args M Hf post:=Tri.enter hf hb (Nat.le_of_ble_eq_true hn) h
theorem Es {x y:Operand}{t:TypeId}{b j:Nat}{ty:TypeId}{d:Option Nat}{pos:String}{af:Array Edge}{g:Option (Nat×Bool)}{arr:List Value}{T:TypeId}{fr:Nat×Nat}{c:QaV}(v:Value) (arr':List Value)
  (hvc:v.cells=#[v]) (hz:(P.info? t).map (·.size)=some 1) (hx:ev ρ x= .pointer (some ⟨b,j,none⟩)) (hy:ev ρ y=v) (h1:v.oneCell'=true)
  (hl:Nat.ble (j+1) arr.length=true) (hf:fr.1=fr.2) (he:QuL arr j [v]=arr'):
  EO P ⟨d, .store t x y,ty,pos,af,g⟩ ρ M (((b, .cells arr.toArray T fr)::c)::H) fun _ M' H'=>M=M'∧H'=((b, .cells arr'.toArray T fr)::c)::H:=
 EO.storeL (vl:=[v]) hvc hz hx hy (QaX (Ones.cons h1 Ones.nil)) hl hf he
theorem Pc {i:Nat}{x:Operand}{l:List Value}{pl:List (Nat×Operand)}{vs:List (Nat×List Value)}(v:Value) (h:ev ρ x=v) (hv:v.cells=l.toArray) (k:Parts ρ pl vs):Parts ρ ((i,x)::pl) ((i,l)::vs):=
 .cons ((congrArg Value.cells h).trans hv) k
end
theorem Oc {v:Value}{l:List Value}(h:v.oneCell'=true) (k:Ones l):Ones (v::l):= .cons h k
theorem Oz:Ones []:= .nil
theorem oi {α:Type}{a b:α}(h:some a=some b):a=b:=Option.some.inj h
theorem lr {M:IM}:M.le M:=IM.le.refl M
theorem onb {l:List Value}(h:l.all (·.oneCell')=true):∀ u∈l,u.oneCell'=true:=fun u hu=>List.all_eq_true.1 h u hu
abbrev Fa:=@PO.fieldAddr
abbrev Lb:=@PO.loadB
abbrev Tf:=@WT.pureOff
abbrev Mv:=@PO.move
abbrev We:=@WL.eff
abbrev Xt:=@PO.extract
abbrev Rf:=@WQ.returnsF
abbrev Tj:=@WQ.thenJ
abbrev Nk:=@PO.nilCheck
abbrev Dr:=@WQ.drop
abbrev Tc:=@WQ.thenC
abbrev Ca:=@EO.call0
abbrev Sg:=@EO.storeL
abbrev Tz:=@WT.no
abbrev La:=@PO.loadBA
abbrev Cd:=@WC.cond
abbrev Pf:=@PO.pickF
abbrev Pt:=@PO.pickT
abbrev Ck:=@WC.skip
abbrev Cr:=@WC.ret
abbrev Tr:=@WQ.thenR
abbrev Ta:=@WT.alt
abbrev St:=@StabL.st
abbrev Pz:=@Parts.nil
abbrev Cs:=@WC.seq
abbrev Cg:=@WC.region
abbrev Wz:=@WL.nil
abbrev Tg:=@WT.altOff
abbrev Br:=@WQ.blockR
abbrev Bl:=@PO.buildL
abbrev Al:=@EO.alloc
abbrev Sf:=@StabA.off
abbrev Qa:=@WQ.f1
abbrev Cb:=@EO.call1
abbrev Jf:=@WC.joinF
abbrev Rd:=@WQ.returnsD
abbrev Ti:=@WT.fin
abbrev Bk:=@WC.block
abbrev Qb:=@WQ.f2
abbrev Ow:=@OwnS.one
abbrev Wb:=@WL.f2
abbrev Ag:=@PO.assign
abbrev Rc:=@RV.cellA
abbrev Bn:=@WQ.blockN
abbrev Rs:=@Q2Y
abbrev Iv (n:Int):Value:= .int .i64 n
abbrev Uv (n:Int):Value:= .int .u64 n
abbrev Yv (n:Int):Value:= .int .u8 n
abbrev Sv (s:ByteArray):Value:= .string s
abbrev Bv (b:Bool):Value:= .bool b
abbrev Zs:Value:= .slice none 0 0
end Go.KK
