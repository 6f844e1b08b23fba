
import Derived.Test.YtfkmkgpoddbbfaaGreatDoorKMem2
namespace Go.KK
open Go
def rd {α:Type}[Inhabited α] (xs:List α) (i:Int):α:=xs.getD i.toNat default
def sub {α:Type}(xs:List α) (l h:Int):List α:=(xs.drop l.toNat).take (h.toNat - l.toNat)
def At (v:Value) (sz n:Nat) (i:Int) (p:Addr):Prop:=∃ ad m cap,v= .slice (some ad) m cap∧m=n∧p=ad.add (i.toNat*sz)
def Q0G (v:Value) (n:Nat):Prop:=∃ a cap,v= .slice a n cap
theorem RS.len {α:Type}{d:Kd α}{M:IM}{v:Value}{xs:List α}(h:RS d M v xs):Q0G v xs.length:=by
 obtain ⟨a,n,cap,rfl,rfl,_⟩:=h;exact⟨a,cap,rfl⟩
theorem OwnS.len {α:Type}{d:Kd α}{M:IM}{v:Value}{xs:List α}{c:QaV}(h:OwnS d M v xs c):Q0G v xs.length:=by
 obtain ⟨a,n,cap,rfl,rfl,_⟩:=h;exact⟨a,cap,rfl⟩
theorem RS.at {α:Type}[Inhabited α]{d:Kd α}{M:IM}{v:Value}{xs:List α}(h:RS d M v xs){i:Int}(h0:0≤i) (h1:i<xs.length) (hz:0<d.sz):
  ∃ p cs,At v d.sz xs.length i p∧d.rc M cs (rd xs i)∧M.has p cs:=by
 obtain ⟨a,n,cap,rfl,rfl,hc,hr⟩:=h
 have hi:i.toNat<xs.length:=by omega
 obtain ⟨cs,r,m⟩:=hr i.toNat hi
 have e:rd xs i=xs[i.toNat]:=by simp [rd,List.getD_eq_getElem?_getD,List.getElem?_eq_getElem hi]
 cases a with
 |none=>
  have hl:=d.len r
  have:=m 0 (cs[0]'(by omega)) (List.getElem?_eq_getElem (by omega))
  cases this
 |some ad=>exact⟨_,cs,⟨ad,_,cap,rfl,rfl,rfl⟩,by rw [e];exact r,fun j u hj=>by rw [add_add];exact m j u hj⟩
theorem OwnS.at {α:Type}[Inhabited α]{d:Kd α}{M:IM}{v:Value}{xs:List α}{c:QaV}(h:OwnS d M v xs c){i:Int}(h0:0≤i) (h1:i<xs.length):
  ∃ p cs,At v d.sz xs.length i p∧d.rc M cs (rd xs i)∧QzQ c p cs:=by
 obtain ⟨a,n,cap,rfl,rfl,hc,hr⟩:=h
 have hi:i.toNat<xs.length:=by omega
 have e:rd xs i=xs[i.toNat]:=by simp [rd,List.getD_eq_getElem?_getD,List.getElem?_eq_getElem hi]
 rcases hr with⟨rfl,rfl,_⟩ |⟨g,off,arr,T,fr,rfl,rfl,e3,e4,e5⟩
 ·omega
 ·obtain ⟨cs,r,m⟩:=e5 i.toNat hi
  refine⟨_,cs,⟨_,_,cap,rfl,rfl,rfl⟩,by rw [e];exact r,fun j u hj=> ?_⟩
  rw [QjF,QjF,QdW,Nat.add_assoc]
  exact m j u hj
def slV (v:Value) (sz l h:Nat):Value:=match v with
 | .slice a _ cap=> .slice (if cap=l then a else a.map (·.add (l*sz))) (h - l) (cap - l)
 |v=>v
theorem RS.sub {α:Type}{d:Kd α}{M:IM}{v:Value}{xs:List α}(hs:RS d M v xs){l h:Int}(h0:0≤l) (h1:l≤h) (h2:h≤xs.length):RS d M (slV v d.sz l.toNat h.toNat) (sub xs l h):=by
 obtain ⟨a,n,cap,rfl,rfl,hc,hr⟩:=hs
 refine⟨_,_,_,rfl,by simp [KK.sub];omega,by omega, ?_⟩
 have:=hr.sub l.toNat (h.toNat - l.toNat)
 by_cases e:cap=l.toNat
 ·have e2:KK.sub xs l h=[]:=by simp [KK.sub];omega
  rw [e2];exact .nil _ _ _
 ·refine this.mono (.refl M) fun j u hj=> ?_
  rw [if_neg e]
  cases a with
  |none=>cases hj
  |some ad=>
   show M.cell ((ad.add (l.toNat*d.sz)).add j)=_
   rw [add_add];exact hj
theorem OwnS.sub {α:Type}{d:Kd α}{M:IM}{v:Value}{xs:List α}{c:QaV}(hs:OwnS d M v xs c){l h:Int}(h0:0≤l) (h1:l≤h) (h2:h≤xs.length):OwnS d M (slV v d.sz l.toNat h.toNat) (sub xs l h) c:=by
 obtain ⟨a,n,cap,rfl,rfl,hc,hr⟩:=hs
 refine⟨_,_,_,rfl,by simp [KK.sub];omega,by omega, ?_⟩
 rcases hr with⟨rfl,rfl,rfl⟩ |⟨g,off,arr,T,fr,rfl,rfl,e3,e4,e5⟩
 ·refine .inl ⟨by simp,by omega,rfl⟩
 ·by_cases e:cap=l.toNat
  ·have e2:KK.sub xs l h=[]:=by simp [KK.sub];omega
   refine .inr ⟨g,off,arr,T,fr,by rw [if_pos e],rfl, ?_,e4,by rw [e2];exact .nil _ _ _⟩
   rw [e] at e3⊢;simp;omega
  ·refine .inr ⟨g,off+l.toNat*d.sz,arr,T,fr,by rw [if_neg e];simp [QjF],rfl, ?_,e4, ?_⟩
   ·rw [Nat.add_assoc,←Nat.add_mul,show l.toNat+(cap - l.toNat)=cap by omega];exact e3
   ·refine(e5.sub l.toNat (h.toNat - l.toNat)).mono (.refl M) fun j u hj=> ?_
    rwa [Nat.add_assoc]
section
variable {P : Program} {ρ : Nat → Value} {M : IM} {H : HL} {d : Option Nat} {ty : TypeId} {pos : String} {af : Array Edge} {g : Option (Nat × Bool)}
theorem PO.indexAddr {x ix:Operand}{t e:TypeId}{v:Value}{k:IntKind}{i:Int}{sz n:Nat}{p:Addr}(hu:P.underlying t=some (.slice e)) (hz:(P.info? e).map (·.size)=some sz) (hx:ev ρ x=v) (hi:ev ρ ix= .int k i)
  (h0:0≤i) (h1:i<n) (hat:At v sz n i p):PO P ⟨d, .indexAddr t x ix,ty,pos,af,g⟩ ρ M H (.pointer (some p)):=fun w _=>by
 obtain ⟨ad,m,cap,rfl,rfl,rfl⟩:=hat
 have h2:(Instr.indexAt t (.slice (some ad) m cap) (.int k i)).run P w= .ok (.pointer (some (ad.add (i.toNat*sz)))) w:=by
  simp only [Instr.indexAt,asIntOf,pure_bind,Sem.run_bind,run_underlying hu,Result.andThen_ok,if_pos (show 0≤i∧i<m from ⟨h0,h1⟩),QbZ hz,Sem.run_pure]
 simp only [execOp,hx,hi,Sem.run_bind,h2,Result.andThen_ok];rfl
theorem PO.indexStr {x ix:Operand}{t:TypeId}{s:ByteArray}{k:IntKind}{i:Int}{b:UInt8}(hu:P.underlying t=some .string) (hx:ev ρ x= .string s) (hi:ev ρ ix= .int k i)
  (h0:0≤i) (h1:s[i.toNat]?=some b):PO P ⟨d, .index t x ix,ty,pos,af,g⟩ ρ M H (.int .u8 b.toNat):=fun w _=>by
 have h2:(Instr.index t (.string s) (.int k i)).run P w= .ok (.int .u8 b.toNat) w:=by
  simp only [Instr.index,asIntOf,pure_bind,Sem.run_bind,run_underlying hu,Result.andThen_ok,if_pos h0,h1,Sem.run_pure]
 simp only [execOp,hx,hi,Sem.run_bind,h2,Result.andThen_ok];rfl
def QuG (ρ:Nat→Value) (o:Option Operand) (dflt n:Nat):Prop:=match o with
 |none=>n=dflt
 |some x=>∃ k i,ev ρ x= .int k i∧0≤i∧i.toNat=n
theorem PO.slice {x:Operand}{lo hi:Option Operand}{t e:TypeId}{v:Value}{sz n l h:Nat}(hu:P.underlying t=some (.slice e)) (hz:(P.info? e).map (·.size)=some sz) (hx:ev ρ x=v) (hv:Q0G v n) (hc:∀ a cap,v= .slice a n cap→n≤cap)
  (hl:QuG ρ lo 0 l) (hh:QuG ρ hi n h) (h1:l≤h) (h2:h≤n):PO P ⟨d, .slice t x lo hi none,ty,pos,af,g⟩ ρ M H (slV v sz l h):=fun w _=>by
 obtain ⟨a,cap,rfl⟩:=hv
 have hcap:=hc a cap rfl
 have hb:(Instr.sliceBounds true n cap (lo.map (ev ρ)) (hi.map (ev ρ)) none).run P w= .ok (l,h,cap) w:=by
  cases hi with
  |none=>
   simp only [QuG] at hh;subst hh
   cases lo with
   |none=>simp only [QuG] at hl;subst hl;rfl
   |some y=>
    obtain ⟨k,i,e1,e2,e3⟩:=hl
    simp only [Instr.sliceBounds,Option.map_some,Option.map_none,Sem.run_bind,Sem.run_pure,Result.andThen_ok,Instr.sliceBound,e1,asIntOf,if_pos (show 0≤i∧i≤(h:Int) by omega),e3]
  |some z=>
   obtain ⟨k',i',f1,f2,f3⟩:=hh
   cases lo with
   |none=>
    simp only [QuG] at hl;subst hl
    simp only [Instr.sliceBounds,Option.map_some,Option.map_none,Sem.run_bind,Sem.run_pure,Result.andThen_ok,Instr.sliceBound,f1,asIntOf,if_pos (show 0≤i'∧i'≤(cap:Int) by omega),f3]
   |some y=>
    obtain ⟨k,i,e1,e2,e3⟩:=hl
    simp only [Instr.sliceBounds,Option.map_some,Sem.run_bind,Sem.run_pure,Result.andThen_ok,Instr.sliceBound,e1,f1,asIntOf,if_pos (show 0≤i'∧i'≤(cap:Int) by omega),f3,if_pos (show 0≤i∧i≤(h:Int) by omega),e3]
 have h3:(Instr.sliceAt t (.slice a n cap) (lo.map (ev ρ)) (hi.map (ev ρ)) none).run P w= .ok (slV (.slice a n cap) sz l h) w:=by
  simp only [Instr.sliceAt,Sem.run_bind,run_underlying hu,Result.andThen_ok,Instr.slice,hb,QbZ hz,Sem.run_pure,slV]
 simp only [execOp,hx,Option.map_none,Sem.run_bind,h3,Result.andThen_ok];rfl
theorem RS.cap {α:Type}{d:Kd α}{M:IM}{v:Value}{xs:List α}(h:RS d M v xs):∀ a cap,v= .slice a xs.length cap→xs.length≤cap:=by
 obtain ⟨a,n,cap,rfl,rfl,hc,_⟩:=h;rintro a' cap' e;cases e;exact hc
theorem OwnS.cap {α:Type}{d:Kd α}{M:IM}{v:Value}{xs:List α}{c:QaV}(h:OwnS d M v xs c):∀ a cap,v= .slice a xs.length cap→xs.length≤cap:=by
 obtain ⟨a,n,cap,rfl,rfl,hc,_⟩:=h;rintro a' cap' e;cases e;exact hc
theorem QjG {b:Builtin}{args:Array Operand}{ats:Array TypeId}(w:World):
  (execOp (ev ρ) ⟨d, .call {callee:= .builtin b,args,argTypes:=ats},ty,pos,af,g⟩).run P w=(Go.builtin b ats ty (args.map fun | .const _=>true |_=>false) (args.map (ev ρ))).run P w:=by
 simp only [execOp,resolve,pure_bind,invoke]
 rfl
theorem PO.lenS {x:Operand}{t e:TypeId}{v:Value}{n:Nat}(hu:P.underlying t=some (.slice e)) (hx:ev ρ x=v) (hv:Q0G v n):
  PO P ⟨d, .call {callee:= .builtin .len,args:=#[x],argTypes:=#[t]},ty,pos,af,g⟩ ρ M H (.int .i64 n):=fun w _=>by
 obtain ⟨a,cap,rfl⟩:=hv
 rw [QjG]
 simp [Go.builtin,hx,Builtin.len_,run_underlying hu,goInt]
theorem PO.lenStr {x:Operand}{t:TypeId}{s:ByteArray}(hu:P.underlying t=some .string) (hx:ev ρ x= .string s):
  PO P ⟨d, .call {callee:= .builtin .len,args:=#[x],argTypes:=#[t]},ty,pos,af,g⟩ ρ M H (.int .i64 s.size):=fun w _=>by
 rw [QjG]
 simp [Go.builtin,hx,Builtin.len_,run_underlying hu,goInt]
theorem PO.min {x y:Operand}{ts:Array TypeId}{k:IntKind}{a b:Int}(hx:ev ρ x= .int k a) (hy:ev ρ y= .int k b):
  PO P ⟨d, .call {callee:= .builtin .min,args:=#[x,y],argTypes:=ts},ty,pos,af,g⟩ ρ M H (.int k (if b<a then b else a)):=fun w _=>by
 rw [QjG]
 simp [Go.builtin,hx,hy,Builtin.min_,Builtin.min2]
theorem PO.max {x y:Operand}{ts:Array TypeId}{k:IntKind}{a b:Int}(hx:ev ρ x= .int k a) (hy:ev ρ y= .int k b):
  PO P ⟨d, .call {callee:= .builtin .max,args:=#[x,y],argTypes:=ts},ty,pos,af,g⟩ ρ M H (.int k (if a<b then b else a)):=fun w _=>by
 rw [QjG]
 simp [Go.builtin,hx,hy,Builtin.max_,Builtin.max2]
theorem PO.makeInterface {x:Operand}{t:TypeId}{v:Value}(ht:P.concrete t=true) (hx:ev ρ x=v):PO P ⟨d, .makeInterface t x,ty,pos,af,g⟩ ρ M H (.iface t v):=fun w _=>by
 simp only [execOp,hx,Sem.run_bind,run_makeInterface w t v ht,Result.andThen_ok];rfl
theorem PO.makeFunc {fn:Fn}{a b:Array Operand}:PO P ⟨d, .makeFunc fn a b,ty,pos,af,g⟩ ρ M H (.func fn (a.map (ev ρ)) (b.map (ev ρ))):=fun _ _=>rfl
theorem PO.extract {x:Operand}{i:Nat}{vs:Array Value}{v:Value}(hx:ev ρ x= .tuple vs) (hv:vs[i]?=some v):PO P ⟨d, .extract x i,ty,pos,af,g⟩ ρ M H v:=fun w _=>by
 simp only [execOp,hx,Instr.extract,hv];rfl
def QaN (P:Program) (f:FuncId):Bool:=match P.funcs[f]? with |some fn=>fn.name !="runtime.NumGoroutine" &&fn.body.isSome |none=>false
theorem QsV {f:FuncId}{args:Array Value}(h:QaN P f=true) (w:World):(callFunc f args).run P w= .ok (.enter f args) w:=by
 unfold QaN at h
 cases e:P.funcs[f]? with
 |none=>rw [e] at h;cases h
 |some fn=>
  rw [e] at h
  simp only [Bool.and_eq_true,bne_iff_ne,ne_eq] at h
  obtain ⟨b,hb⟩:=Option.isSome_iff_exists.1 h.2
  simp [callFunc,program,Sem.run,Sem.run_bind,e,h.1,hb]
theorem EO.callV {x:Operand}{xs:Array Operand}{ats:Array TypeId}{f:FuncId}{first cap args:Array Value}{Hf F:HL}{post:Value→IM→HL→Prop}(hf:QaN P f=true) (hx:ev ρ x= .func (.func f) first cap)
  (ha:first++xs.map (ev ρ)++cap=args) (h:Tri P f args M Hf post):
  EO P ⟨d, .call {callee:= .value x,args:=xs,argTypes:=ats},ty,pos,af,g⟩ ρ M (Hf++F) fun v M' H''=>∃ H',post v M' H'∧H'++F=H'':=by
 intro w hs
 have h1:(execOp (ev ρ) ⟨d, .call {callee:= .value x,args:=xs,argTypes:=ats},ty,pos,af,g⟩).run P w= .ok (.enter f args) w:=by
  simp only [execOp,resolve,hx,Deferred.ofValue,pure_bind,invoke,ha,QsV hf]
 rw [h1]
 refine(h w F hs).mono ?_
 rintro e w' ⟨v,M',H',rfl,hle,hs',hp⟩
 exact⟨M',_,hle,hs',H',hp,rfl⟩
theorem EO.call {xs:Array Operand}{ats:Array TypeId}{f:FuncId}{args:Array Value}{Hf F:HL}{post:Value→IM→HL→Prop}(hf:QaN P f=true)
  (ha:xs.map (ev ρ)=args) (h:Tri P f args M Hf post):
  EO P ⟨d, .call {callee:= .value (.func f),args:=xs,argTypes:=ats},ty,pos,af,g⟩ ρ M (Hf++F) fun v M' H''=>∃ H',post v M' H'∧H'++F=H'':=
 EO.callV hf rfl (by simpa using ha) h
theorem EO.callV0 {x:Operand}{xs:Array Operand}{ats:Array TypeId}{f:FuncId}{first cap args:Array Value}{F:HL}{post:Value→IM→HL→Prop}(hf:QaN P f=true) (hx:ev ρ x= .func (.func f) first cap)
  (h:Tri P f args M [] post) (ha:first++xs.map (ev ρ)++cap=args):
  EO P ⟨d, .call {callee:= .value x,args:=xs,argTypes:=ats},ty,pos,af,g⟩ ρ M (F) fun v M' H''=>∃ H',post v M' H'∧H'++F=H'':=EO.callV (F:=F) hf hx ha h
theorem EO.call0 {xs:Array Operand}{ats:Array TypeId}{f:FuncId}{args:Array Value}{F:HL}{post:Value→IM→HL→Prop}(hf:QaN P f=true)
  (h:Tri P f args M [] post) (ha:xs.map (ev ρ)=args):
  EO P ⟨d, .call {callee:= .value (.func f),args:=xs,argTypes:=ats},ty,pos,af,g⟩ ρ M (F) fun v M' H''=>∃ H',post v M' H'∧H'++F=H'':=EO.call (F:=F) hf ha h
theorem EO.callV1 {x:Operand}{xs:Array Operand}{ats:Array TypeId}{f:FuncId}{first cap args:Array Value}{c0:QaV}{F:HL}{post:Value→IM→HL→Prop}(hf:QaN P f=true) (hx:ev ρ x= .func (.func f) first cap)
  (h:Tri P f args M [c0] post) (ha:first++xs.map (ev ρ)++cap=args):
  EO P ⟨d, .call {callee:= .value x,args:=xs,argTypes:=ats},ty,pos,af,g⟩ ρ M (c0::F) fun v M' H''=>∃ H',post v M' H'∧H'++F=H'':=EO.callV (F:=F) hf hx ha h
theorem EO.call1 {xs:Array Operand}{ats:Array TypeId}{f:FuncId}{args:Array Value}{c0:QaV}{F:HL}{post:Value→IM→HL→Prop}(hf:QaN P f=true)
  (h:Tri P f args M [c0] post) (ha:xs.map (ev ρ)=args):
  EO P ⟨d, .call {callee:= .value (.func f),args:=xs,argTypes:=ats},ty,pos,af,g⟩ ρ M (c0::F) fun v M' H''=>∃ H',post v M' H'∧H'++F=H'':=EO.call (F:=F) hf ha h
theorem EO.callV2 {x:Operand}{xs:Array Operand}{ats:Array TypeId}{f:FuncId}{first cap args:Array Value}{c0 c1:QaV}{F:HL}{post:Value→IM→HL→Prop}(hf:QaN P f=true) (hx:ev ρ x= .func (.func f) first cap)
  (h:Tri P f args M [c0,c1] post) (ha:first++xs.map (ev ρ)++cap=args):
  EO P ⟨d, .call {callee:= .value x,args:=xs,argTypes:=ats},ty,pos,af,g⟩ ρ M (c0::c1::F) fun v M' H''=>∃ H',post v M' H'∧H'++F=H'':=EO.callV (F:=F) hf hx ha h
theorem EO.call2 {xs:Array Operand}{ats:Array TypeId}{f:FuncId}{args:Array Value}{c0 c1:QaV}{F:HL}{post:Value→IM→HL→Prop}(hf:QaN P f=true)
  (h:Tri P f args M [c0,c1] post) (ha:xs.map (ev ρ)=args):
  EO P ⟨d, .call {callee:= .value (.func f),args:=xs,argTypes:=ats},ty,pos,af,g⟩ ρ M (c0::c1::F) fun v M' H''=>∃ H',post v M' H'∧H'++F=H'':=EO.call (F:=F) hf ha h
theorem EO.callV3 {x:Operand}{xs:Array Operand}{ats:Array TypeId}{f:FuncId}{first cap args:Array Value}{c0 c1 c2:QaV}{F:HL}{post:Value→IM→HL→Prop}(hf:QaN P f=true) (hx:ev ρ x= .func (.func f) first cap)
  (h:Tri P f args M [c0,c1,c2] post) (ha:first++xs.map (ev ρ)++cap=args):
  EO P ⟨d, .call {callee:= .value x,args:=xs,argTypes:=ats},ty,pos,af,g⟩ ρ M (c0::c1::c2::F) fun v M' H''=>∃ H',post v M' H'∧H'++F=H'':=EO.callV (F:=F) hf hx ha h
theorem EO.call3 {xs:Array Operand}{ats:Array TypeId}{f:FuncId}{args:Array Value}{c0 c1 c2:QaV}{F:HL}{post:Value→IM→HL→Prop}(hf:QaN P f=true)
  (h:Tri P f args M [c0,c1,c2] post) (ha:xs.map (ev ρ)=args):
  EO P ⟨d, .call {callee:= .value (.func f),args:=xs,argTypes:=ats},ty,pos,af,g⟩ ρ M (c0::c1::c2::F) fun v M' H''=>∃ H',post v M' H'∧H'++F=H'':=EO.call (F:=F) hf ha h
theorem EO.callV4 {x:Operand}{xs:Array Operand}{ats:Array TypeId}{f:FuncId}{first cap args:Array Value}{c0 c1 c2 c3:QaV}{F:HL}{post:Value→IM→HL→Prop}(hf:QaN P f=true) (hx:ev ρ x= .func (.func f) first cap)
  (h:Tri P f args M [c0,c1,c2,c3] post) (ha:first++xs.map (ev ρ)++cap=args):
  EO P ⟨d, .call {callee:= .value x,args:=xs,argTypes:=ats},ty,pos,af,g⟩ ρ M (c0::c1::c2::c3::F) fun v M' H''=>∃ H',post v M' H'∧H'++F=H'':=EO.callV (F:=F) hf hx ha h
theorem EO.call4 {xs:Array Operand}{ats:Array TypeId}{f:FuncId}{args:Array Value}{c0 c1 c2 c3:QaV}{F:HL}{post:Value→IM→HL→Prop}(hf:QaN P f=true)
  (h:Tri P f args M [c0,c1,c2,c3] post) (ha:xs.map (ev ρ)=args):
  EO P ⟨d, .call {callee:= .value (.func f),args:=xs,argTypes:=ats},ty,pos,af,g⟩ ρ M (c0::c1::c2::c3::F) fun v M' H''=>∃ H',post v M' H'∧H'++F=H'':=EO.call (F:=F) hf ha h
theorem EO.callV6 {x:Operand}{xs:Array Operand}{ats:Array TypeId}{f:FuncId}{first cap args:Array Value}{c0 c1 c2 c3 c4 c5:QaV}{F:HL}{post:Value→IM→HL→Prop}(hf:QaN P f=true) (hx:ev ρ x= .func (.func f) first cap)
  (h:Tri P f args M [c0,c1,c2,c3,c4,c5] post) (ha:first++xs.map (ev ρ)++cap=args):
  EO P ⟨d, .call {callee:= .value x,args:=xs,argTypes:=ats},ty,pos,af,g⟩ ρ M (c0::c1::c2::c3::c4::c5::F) fun v M' H''=>∃ H',post v M' H'∧H'++F=H'':=EO.callV (F:=F) hf hx ha h
theorem EO.call6 {xs:Array Operand}{ats:Array TypeId}{f:FuncId}{args:Array Value}{c0 c1 c2 c3 c4 c5:QaV}{F:HL}{post:Value→IM→HL→Prop}(hf:QaN P f=true)
  (h:Tri P f args M [c0,c1,c2,c3,c4,c5] post) (ha:xs.map (ev ρ)=args):
  EO P ⟨d, .call {callee:= .value (.func f),args:=xs,argTypes:=ats},ty,pos,af,g⟩ ρ M (c0::c1::c2::c3::c4::c5::F) fun v M' H''=>∃ H',post v M' H'∧H'++F=H'':=EO.call (F:=F) hf ha h
theorem EO.call8 {xs:Array Operand}{ats:Array TypeId}{f:FuncId}{args:Array Value}{c0 c1 c2 c3 c4 c5 c6 c7:QaV}{F:HL}{post:Value→IM→HL→Prop}(hf:QaN P f=true)
  (h:Tri P f args M [c0,c1,c2,c3,c4,c5,c6,c7] post) (ha:xs.map (ev ρ)=args):
  EO P ⟨d, .call {callee:= .value (.func f),args:=xs,argTypes:=ats},ty,pos,af,g⟩ ρ M (c0::c1::c2::c3::c4::c5::c6::c7::F) fun v M' H''=>∃ H',post v M' H'∧H'++F=H'':=EO.call (F:=F) hf ha h
end
theorem Tri.lend {P:Program}{f:FuncId}{args:Array Value}{M:IM}{c:QaV}{Hf:HL}{post:Value→IM→HL→Prop}(hx:Excl c) (h:(∀ w H,Sat w M (c::H)→Tri P f args (M.add c) Hf post)):
  Tri P f args M (c::Hf) fun v M' H'=>∃ M1 H1,(M.add c).le M1∧M'=M1.minus c∧H'=c::H1∧post v M1 H1:=by
 intro w F hs
 refine(h w _ hs w F hs.freeze).mono ?_
 rintro e w' ⟨v,M1,H1,he,hle,hs',hp⟩
 exact⟨v,M1.minus c,c::H1,he,Q2Z hs hle,Sat.unlend hx hs hle hs',M1,H1,hle,rfl,rfl,hp⟩
end Go.KK
