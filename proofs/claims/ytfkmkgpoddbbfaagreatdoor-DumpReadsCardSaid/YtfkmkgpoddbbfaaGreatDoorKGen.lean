
import Derived.Test.YtfkmkgpoddbbfaaGreatDoorKErr
import Derived.Test.YtfkmkgpoddbbfaaGreatDoorKDraw
set_option linter.unusedVariables false
namespace Go.KK
open Go
theorem QmW {ρ:Nat→Value}:(#[]:Array Operand).map (ev ρ)=#[]:=by simp
theorem Qe3 {ρ:Nat→Value}{f c:Array Value}{r:Array Value}(hr:f++#[]++c=r):f++(#[]:Array Operand).map (ev ρ)++c=r:=by rw [QmW];exact hr
theorem Qb2 {ρ:Nat→Value}{x0:Operand}{v0:Value}(h0:ev ρ x0=v0):(#[x0]:Array Operand).map (ev ρ)=#[v0]:=by simp [h0]
theorem QzS {ρ:Nat→Value}{f c:Array Value}{r:Array Value}{x0:Operand}{v0:Value}(h0:ev ρ x0=v0) (hr:f++#[v0]++c=r):f++(#[x0]:Array Operand).map (ev ρ)++c=r:=by rw [Qb2 h0];exact hr
theorem QaS {ρ:Nat→Value}{x0 x1:Operand}{v0 v1:Value}(h0:ev ρ x0=v0) (h1:ev ρ x1=v1):(#[x0,x1]:Array Operand).map (ev ρ)=#[v0,v1]:=by simp [h0,h1]
theorem QzT {ρ:Nat→Value}{f c:Array Value}{r:Array Value}{x0 x1:Operand}{v0 v1:Value}(h0:ev ρ x0=v0) (h1:ev ρ x1=v1) (hr:f++#[v0,v1]++c=r):f++(#[x0,x1]:Array Operand).map (ev ρ)++c=r:=by rw [QaS h0 h1];exact hr
theorem QcV {ρ:Nat→Value}{x0 x1 x2:Operand}{v0 v1 v2:Value}(h0:ev ρ x0=v0) (h1:ev ρ x1=v1) (h2:ev ρ x2=v2):(#[x0,x1,x2]:Array Operand).map (ev ρ)=#[v0,v1,v2]:=by simp [h0,h1,h2]
theorem QiO {ρ:Nat→Value}{x0 x1 x2 x3:Operand}{v0 v1 v2 v3:Value}(h0:ev ρ x0=v0) (h1:ev ρ x1=v1) (h2:ev ρ x2=v2) (h3:ev ρ x3=v3):(#[x0,x1,x2,x3]:Array Operand).map (ev ρ)=#[v0,v1,v2,v3]:=by simp [h0,h1,h2,h3]
theorem appB {n bytes:Nat}(hb:Nat.ble bytes 512=true) (h:n≤274877906944):2*n*bytes≤281474976710656:=by
 have h1:bytes≤512:=Nat.le_of_ble_eq_true hb
 calc 2*n*bytes≤2*n*512:=Nat.mul_le_mul_left _ h1
  _≤_:=by omega
theorem Q31 {ρ:Nat→Value}{l:Nat}(h:l=0):QuG ρ none 0 l:=h
theorem QwS {ρ:Nat→Value}{l n:Nat}(h:l=n):QuG ρ none n l:=h
theorem Qe4 {h:Int}{n:Nat}(k:h≤(n:Int)):h.toNat≤n:=by omega
def btAt (s:ByteArray) (i:Int):Int:=(((s[i.toNat]?).getD 0).toNat:Int)
theorem Q5G {s:ByteArray}{i:Int}(h:0≤i∧i<s.size):s[i.toNat]?=some ((s[i.toNat]?).getD 0):=by
 have h1:i.toNat<s.size:=by omega
 rw [getElem?_pos s i.toNat h1];rfl
theorem QxP (p:Addr):p.add 0=p:=by simp [Addr.add]
theorem IM.has0 {M:IM}{p:Addr}{v:Value}{r:List Value}(h:M.has p (v::r)):M.cell p=some v:=by have:=h 0 v rfl;rwa [QxP] at this
theorem QuK {c:QaV}{p:Addr}{v:Value}{r:List Value}(h:QzQ c p (v::r)):QkT c p=some v:=by have:=h 0 v rfl;rwa [QxP] at this
def Ones (l:List Value):Prop:=∀ u∈l,u.oneCell'=true
theorem Ones.nil:Ones []:=fun _ h=>by cases h
theorem Ones.cons {v:Value}{l:List Value}(h:v.oneCell'=true) (k:Ones l):Ones (v::l):=fun u hu=>by
 rcases List.mem_cons.1 hu with rfl |hu
 ·exact h
 ·exact k u hu
theorem QaX {l:List Value}(h:Ones l):∀ u∈l,u.oneCell'=true:=h
theorem RS.one {α:Type}{d:Kd α}{M:IM}{v:Value}{xs:List α}(h:RS d M v xs):v.oneCell'=true:=by obtain ⟨a,n,cap,rfl,_⟩:=h;rfl
theorem OwnS.one {α:Type}{d:Kd α}{M:IM}{v:Value}{xs:List α}{c:QaV}(h:OwnS d M v xs c):v.oneCell'=true:=by obtain ⟨a,n,cap,rfl,_⟩:=h;rfl
theorem RS.cells {α:Type}{d:Kd α}{M:IM}{v:Value}{xs:List α}(h:RS d M v xs):v.cells=#[v]:=by obtain ⟨a,n,cap,rfl,_⟩:=h;rfl
theorem OwnS.cells {α:Type}{d:Kd α}{M:IM}{v:Value}{xs:List α}{c:QaV}(h:OwnS d M v xs c):v.cells=#[v]:=by obtain ⟨a,n,cap,rfl,_⟩:=h;rfl
def Kd.Flat {α:Type}(d:Kd α):Prop:=∀ (M M':IM) (cs:List Value) (x:α),d.rc M cs x→d.rc M' cs x
theorem Kd.int_flat (k:IntKind):(Kd.int k).Flat:=fun _ _ _ _ h=>h
theorem OwnS.any {α:Type}{d:Kd α}{M:IM}{v:Value}{xs:List α}{c:QaV}(h:OwnS d M v xs c) (hf:d.Flat){M':IM}:OwnS d M' v xs c:=by
 obtain ⟨a,n,cap,h1,h2,h3,h4⟩:=h
 refine⟨a,n,cap,h1,h2,h3,h4.imp id ?_⟩
 rintro ⟨g,off,arr,T,fr,e1,e2,e3,e4,e5⟩
 exact⟨g,off,arr,T,fr,e1,e2,e3,e4,fun i hi=>let ⟨cs,r,m⟩:=e5 i hi;⟨cs,hf _ _ _ _ r,m⟩⟩
def QuL (cells:List Value) (off:Nat):List Value→List Value
 |[]=>cells
 |v::r=>QuL (cells.set off v) (off+1) r
def QyS (place:Nat→Option (Nat×Nat)) (cells:List Value):List (Nat×List Value)→Option (List Value)
 |[]=>some cells
 |(i,cs)::rest=>match place i with
  |none=>none
  |some (off,size)=>bif Nat.beq cs.length size&&Nat.ble (off+cs.length) cells.length then QyS place (QuL cells off cs) rest else none
def Q20 (z:List Value) (n:Nat):List Value:=(List.range n).map fun j=>z.getD (j % z.length) default
theorem Qv6:∀ (l:List Value) (k off:Nat) (cells:List Value),(l.zipIdx k).foldl (fun(cs:Array Value) (x:Value×Nat)=>cs.setIfInBounds (off+x.2) x.1) cells.toArray=(QuL cells (off+k) l).toArray
 |[],_,_,_=>rfl
 |v::r,k,off,cells=>by
  rw [List.zipIdx_cons,List.foldl_cons]
  simp only [List.setIfInBounds_toArray]
  rw [Qv6 r (k+1) off,QuL];rfl
inductive Parts (ρ:Nat→Value):List (Nat×Operand)→List (Nat×List Value)→Prop
 |nil:Parts ρ [] []
 |cons {i:Nat}{x:Operand}{cs:List Value}{pl:List (Nat×Operand)}{vs:List (Nat×List Value)}(h:(ev ρ x).cells=cs.toArray) (k:Parts ρ pl vs):Parts ρ ((i,x)::pl) ((i,cs)::vs)
theorem QyT {ρ:Nat→Value}{place:Nat→Option (Nat×Nat)}{pl:List (Nat×Operand)}{vs:List (Nat×List Value)}(h:Parts ρ pl vs):∀ {cells out:List Value},QyS place cells vs=some out→
  Instr.fill place cells.toArray (pl.map fun(i,x)=>(i,ev ρ x))=some out.toArray:=by
 induction h with
 |nil=>intro cells out h;simp only [QyS,Option.some.injEq] at h;subst h;rfl
 |@cons i x cs pl vs h k ih=>
  intro cells out hf
  simp only [QyS] at hf
  simp only [List.map_cons,Instr.fill]
  cases hp:place i with
  |none=>rw [hp] at hf;cases hf
  |some os=>
   obtain ⟨off,size⟩:=os
   rw [hp] at hf
   simp only at hf⊢
   cases hb:(Nat.beq cs.length size&&Nat.ble (off+cs.length) cells.length)with
   |false=>rw [hb] at hf;cases hf
   |true=>
    rw [hb] at hf
    simp only [cond_true] at hf
    simp only [Bool.and_eq_true,Nat.beq_eq,Nat.ble_eq] at hb
    have hsz:(ev ρ x).cells.size=cs.length:=by rw [h];simp
    rw [if_neg (by simp only [hsz,List.size_toArray,hb.1];simp;omega)]
    have e1:(ev ρ x).cells.zipIdx.foldl (fun cs (c,j)=>cs.setIfInBounds (off+j) c) cells.toArray=(QuL cells off cs).toArray:=by
     rw [h]
     have:=Qv6 cs 0 off cells
     rw [←Array.foldl_toList]
     simpa using this
    rw [e1]
    exact ih hf
theorem Q21 (z:Array Value) (n:Nat):(Array.range n).map (fun j=>(z[j % z.size]!))=(Q20 z.toList n).toArray:=by
 apply Array.ext
 ·simp [Q20]
 ·intro i h1 h2
  simp [Q20,List.getD_eq_getElem?_getD,getElem!_def]
  cases z[i % z.size]?<;>rfl
section
variable {P : Program} {ρ : Nat → Value} {M : IM} {H : HL} {d : Option Nat} {ty : TypeId} {pos : String} {af : Array Edge} {g : Option (Nat × Bool)}
theorem PO.buildL {t:TypeId}{pl:List (Nat×Operand)}{vs:List (Nat×List Value)}{z:Value}{ps:List (Nat×Nat)}{cl:List Value}(hz:(P.info? t).map (·.zero)=some (some z)) (hp:QeR P t=some ps)
  (hpl:Parts ρ pl vs) (hf:QyS (fun i=>ps[i]?) z.cells.toList vs=some cl):PO P ⟨d, .build t pl.toArray,ty,pos,af,g⟩ ρ M H (.agg cl.toArray):=
 PO.build hz hp (by
  have:=QyT (place:=fun i=>ps[i]?) hpl hf
  simpa using this)
theorem EO.buildSliceL {t e:TypeId}{n sz:Nat}{pl:List (Nat×Operand)}{vs:List (Nat×List Value)}{z:Value}{cl:List Value}(hu:P.underlying t=some (.slice e)) (hi:(P.info? e).map (fun i=>(i.size,i.zero))=some (sz,some z)) (hl:Nat.ble (n*sz) 16777216=true)
  (hpl:Parts ρ pl vs) (hf:QyS (fun i=>some (i*sz,sz)) (Q20 z.cells.toList (n*sz)) vs=some cl):
  EO P ⟨d, .buildSlice t n pl.toArray,ty,pos,af,g⟩ ρ M H fun v M' H'=>M=M'∧∃ b,v= .slice (some ⟨b,0,none⟩) n n∧H'=[(b, .cells cl.toArray e (0,0))]::H:=
 EO.buildSlice hu hi (Nat.le_of_ble_eq_true hl) (by
  have:=QyT (place:=fun i=>some (i*sz,sz)) hpl hf
  rw [Q21]
  simpa using this)
end
section
variable {P : Program} {ρ : Nat → Value} {M : IM} {H : HL} {d : Option Nat} {ty : TypeId} {pos : String} {af : Array Edge} {g : Option (Nat × Bool)}
theorem PO.makeFunc2 {fn:Fn}{a b:Array Operand}{u v:Array Value}(ha:a.map (ev ρ)=u) (hb:b.map (ev ρ)=v):PO P ⟨d, .makeFunc fn a b,ty,pos,af,g⟩ ρ M H (.func fn u v):=fun _ _=>by subst ha hb;rfl
end
end Go.KK
