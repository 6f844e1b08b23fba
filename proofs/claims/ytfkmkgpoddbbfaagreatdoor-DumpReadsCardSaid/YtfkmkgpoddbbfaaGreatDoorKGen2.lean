
import Derived.Test.YtfkmkgpoddbbfaaGreatDoorKGen
set_option linter.unusedSimpArgs false
set_option linter.unusedVariables false
namespace Go.KK
open Go
section
variable {P : Program} {ρ : Nat → Value} {M : IM} {H : HL} {d : Option Nat} {ty : TypeId} {pos : String} {af : Array Edge} {g : Option (Nat × Bool)}
theorem PO.buildA {t e:TypeId}{n sz:Nat}{parts:Array (Nat×Operand)}{z:Value}{cs:Array Value}(hz:(P.info? t).map (·.zero)=some (some z)) (hu:P.underlying t=some (.array n e)) (he:(P.info? e).map (·.size)=some sz)
  (hf:Instr.fill (fun i=>some (i*sz,sz)) z.cells ((parts.map fun(i,x)=>(i,ev ρ x)).toList)=some cs):PO P ⟨d, .build t parts,ty,pos,af,g⟩ ρ M H (.agg cs):=fun w _=>by
 obtain ⟨i,hi,hz⟩:=Option.map_eq_some_iff.1 hz
 have h1:(Instr.build t (parts.map fun(i,x)=>(i,ev ρ x))).run P w= .ok (.agg cs) w:=by
  simp only [Instr.build,zeroValue,Sem.run_bind,run_typeInfo w hi,Result.andThen_ok,hz,run_underlying hu,QbZ he,Sem.run_pure,hf]
 simp only [execOp,Sem.run_bind,h1,Result.andThen_ok];rfl
theorem PO.buildAL {t e:TypeId}{n sz:Nat}{pl:List (Nat×Operand)}{vs:List (Nat×List Value)}{z:Value}{cl:List Value}(hz:(P.info? t).map (·.zero)=some (some z)) (hu:P.underlying t=some (.array n e)) (he:(P.info? e).map (·.size)=some sz)
  (hpl:Parts ρ pl vs) (hf:QyS (fun i=>some (i*sz,sz)) z.cells.toList vs=some cl):PO P ⟨d, .build t pl.toArray,ty,pos,af,g⟩ ρ M H (.agg cl.toArray):=
 PO.buildA hz hu he (by
  have:=QyT (place:=fun i=>some (i*sz,sz)) hpl hf
  simpa using this)
theorem EO.copy {α:Type}{dd:Kd α}{x y:Operand}{t t2 e:TypeId}{v u:Value}{xs ys:List α}{c:QaV}
  (hu:P.underlying t=some (.slice e)) (hi:(P.info? e).map (·.size)=some dd.sz) (hx:ev ρ x=v) (hy:ev ρ y=u) (hO:OwnS dd M v xs c) (hS:Src dd M (c::H) u ys):
  EO P ⟨d, .call {callee:= .builtin .copy,args:=#[x,y],argTypes:=#[t,t2]},ty,pos,af,g⟩ ρ M (c::H) fun v' M' H'=> .int .i64 (if xs.length<ys.length then(xs.length:Int)else ys.length)=v'∧M=M'∧∃ c',H'=c'::H∧OwnS dd M v (ys.take xs.length++xs.drop ys.length) c':=by
 intro w hs
 obtain ⟨a2,n2,cap2,f2,rfl,rfl,hr2,hc2⟩:=hS
 obtain ⟨l2,hl2,hg2,ho2,hrow2⟩:=hr2.cells
 have hsz:(sizeOf e).run P w= .ok dd.sz w:=QbZ hi w
 obtain ⟨a,n,cap,rfl,rfl,hcap,hO⟩:=hO
 have hmin:Nat.min ys.length xs.length=(ys.take xs.length).length:=by rw [List.length_take];exact Nat.min_comm _ _
 have hl3:(l2.take ((ys.take xs.length).length*dd.sz)).length=(ys.take xs.length).length*dd.sz:=by
  rw [List.length_take,hl2]
  exact Nat.min_eq_left (Nat.mul_le_mul_right _ (by rw [List.length_take];exact Nat.min_le_right _ _))
 have hsub:∀ j u,(l2.take ((ys.take xs.length).length*dd.sz))[j]?=some u→l2[j]?=some u:=fun j u hj=>by
  rw [List.getElem?_take] at hj;split at hj;exact hj;cases hj
 have hfc:=QjN (P:=P) (dd:=dd) (cap:=cap2) (n:=(ys.take xs.length).length) (a:=a2) (w:=w) hl3 fun j u hj=>by
  obtain ⟨ad,e,k⟩:=hc2 j u (hg2 j u (hsub j u hj));exact⟨ad,e,k w hs⟩
  -- firstCells does not look at the length that the row tells
 have hfc':(Builtin.firstCells dd.sz (ys.take xs.length).length (.slice a2 ys.length cap2)).run P w= .ok (l2.take ((ys.take xs.length).length*dd.sz)).toArray w:=by
  cases a2<;>exact hfc
 have hgoi:goInt (Nat.min ys.length xs.length)= .int .i64 (if xs.length<ys.length then(xs.length:Int)else ys.length):=by
  show Value.int .i64 _=_
  congr 1
  have:Nat.min ys.length xs.length=min ys.length xs.length:=rfl
  split<;>omega
 have hrow3:RowsOf dd M (fun j=>(l2.take ((ys.take xs.length).length*dd.sz))[j]?) (ys.take xs.length):=by
  intro k hk
  have hk':k<ys.length:=by rw [List.length_take] at hk;omega
  obtain ⟨cs,r,m⟩:=hrow2 k hk'
  refine⟨cs,by rw [List.getElem_take];exact r,fun j u hj=> ?_⟩
  have hjl:j<dd.sz:=by rw [←dd.len r];exact(List.getElem?_eq_some_iff.1 hj).1
  have hlt:k*dd.sz+j<(ys.take xs.length).length*dd.sz:=by
   calc k*dd.sz+j<k*dd.sz+dd.sz:=by omega
    _=(k+1)*dd.sz:=by rw [Nat.add_mul,Nat.one_mul]
    _≤_:=Nat.mul_le_mul_right _ hk
  have:=m j u hj
  show (List.take _ l2)[_]?=_
  rw [List.getElem?_take,if_pos hlt];exact this
 rw [QjG]
 rcases hO with⟨rfl,rfl,rfl⟩ |⟨b,off,arr,T,fr,rfl,rfl,e3,e4,e5⟩
 ·have hx0:xs=[]:=List.eq_nil_of_length_eq_zero (by omega)
  subst hx0
  have h1:(Builtin.copy_ #[t,t2] ty #[.slice none 0 0, .slice a2 ys.length cap2]).run P w= .ok (.int .i64 (if 0<ys.length then((0:Nat):Int)else ys.length)) w:=by
   simp only [List.length_nil] at hmin hfc' hgoi
   simp only [Builtin.copy_,List.getElem?_toArray,List.getElem?_cons_zero,List.getElem?_cons_succ,Sem.run_bind,run_underlying hu,Result.andThen_ok,hsz,Sem.run_pure,Builtin.lenOf,hmin,hfc']
   rw [←hmin,hgoi]
  simp only [Go.builtin,List.map_toArray,List.map_cons,List.map_nil,hx,hy,Sem.run_bind,List.length_nil,h1,Result.andThen_ok]
  exact⟨M,_, .refl M,hs,rfl,rfl,[],rfl,by simpa using OwnS.nil _ _⟩
 ·have hb':=hs.own (b, .cells arr T fr) (by simp) rfl
  have hle:(ys.take xs.length).length≤xs.length:=by rw [List.length_take];exact Nat.min_le_left _ _
  have hfit:off+(l2.take ((ys.take xs.length).length*dd.sz)).length≤arr.size:=by
   rw [hl3]
   exact Nat.le_trans (Nat.add_le_add_left (Nat.mul_le_mul_right _ (Nat.le_trans hle hcap)) _) e3
  have ho3:∀ u∈l2.take ((ys.take xs.length).length*dd.sz),u.oneCell'=true:=fun u hu=>ho2 u (List.mem_of_mem_take hu)
  obtain ⟨w',r1,r2,r3,r4,r5,r6⟩:=Qe2 (P:=P) b off T fr (l2.take ((ys.take xs.length).length*dd.sz)) 0 arr w hb' (by simpa using hfit) e4 ho3
  have h1:(Builtin.copy_ #[t,t2] ty #[.slice (some ⟨b,off,none⟩) xs.length cap, .slice a2 ys.length cap2]).run P w= .ok (.int .i64 (if xs.length<ys.length then(xs.length:Int)else ys.length)) w':=by
   simp only [Builtin.copy_,List.getElem?_toArray,List.getElem?_cons_zero,List.getElem?_cons_succ,Sem.run_bind,run_underlying hu,Result.andThen_ok,hsz,Sem.run_pure,Builtin.lenOf,hmin,hfc',r1]
   rw [←hmin,hgoi]
  simp only [Go.builtin,List.map_toArray,List.map_cons,List.map_nil,hx,hy,Sem.run_bind,h1,Result.andThen_ok]
  have hlen:(ys.take xs.length++xs.drop ys.length).length=xs.length:=by simp;omega
  refine⟨M,_, .refl M,hs.write r4 r5 r6 r2 r3,rfl,rfl,_,rfl,_,_,_,rfl,hlen.symm,hcap, .inr ⟨b,off,_,T,fr,rfl,rfl,by rw [QnG];exact e3,by rw [QnG];exact e4, ?_⟩⟩
  have hget:∀ j,(putL arr (off+0) (l2.take ((ys.take xs.length).length*dd.sz)))[off+j]?=if j<(ys.take xs.length).length*dd.sz then(l2.take ((ys.take xs.length).length*dd.sz))[j]? else arr[off+j]?:=fun j=>by
   rw [QwP _ _ _ _ (by simpa using hfit)]
   by_cases hj:j<(ys.take xs.length).length*dd.sz
   ·rw [if_pos hj,if_pos (by rw [hl3];omega)];congr 1;omega
   ·rw [if_neg hj,if_neg (by rw [hl3];omega)]
  intro k hk
  rw [hlen] at hk
  by_cases hk3:k<(ys.take xs.length).length
  ·obtain ⟨cs,r,m⟩:=hrow3 k hk3
   refine⟨cs,by rw [List.getElem_append_left hk3];exact r,fun j u hj=> ?_⟩
   have hjl:j<dd.sz:=by rw [←dd.len r];exact(List.getElem?_eq_some_iff.1 hj).1
   have hlt:k*dd.sz+j<(ys.take xs.length).length*dd.sz:=by
    calc k*dd.sz+j<k*dd.sz+dd.sz:=by omega
     _=(k+1)*dd.sz:=by rw [Nat.add_mul,Nat.one_mul]
     _≤_:=Nat.mul_le_mul_right _ hk3
   show (putL arr _ _)[off+(k*dd.sz+j)]?=_
   rw [hget,if_pos hlt];exact m j u hj
  ·obtain ⟨cs,r,m⟩:=e5 k hk
   have hll:(ys.take xs.length).length=ys.length:=by rw [List.length_take] at hk3⊢;omega
   refine⟨cs, ?_,fun j u hj=> ?_⟩
   ·rw [List.getElem_append_right (by omega)]
    simp only [List.getElem_drop]
    have:ys.length+(k - (ys.take xs.length).length)=k:=by omega
    simp only [this];exact r
   ·have hge:(ys.take xs.length).length*dd.sz≤k*dd.sz:=Nat.mul_le_mul_right _ (by omega)
    show (putL arr _ _)[off+(k*dd.sz+j)]?=_
    rw [hget,if_neg (by omega)];exact m j u hj
def nilS:Value→Bool
 | .slice none _ _=>true
 |_=>false
theorem RS.nilxs {α:Type}{dd:Kd α}{M:IM}{v:Value}{xs:List α}(h:RS dd M v xs) (hz:0<dd.sz) (hb:nilS v=true):xs=[]:=by
 obtain ⟨a,n,cap,rfl,rfl,hc,hr⟩:=h
 cases a with
 |some ad=>cases hb
 |none=>
  cases xs with
  |nil=>rfl
  |cons x xs=>
   obtain ⟨cs,r,m⟩:=hr 0 (by simp)
   have hl:=dd.len r
   cases cs with
   |nil=>simp at hl;omega
   |cons c cs=>have:=m 0 c rfl;cases this
theorem OwnS.nilxs {α:Type}{dd:Kd α}{M:IM}{v:Value}{xs:List α}{c:QaV}(h:OwnS dd M v xs c) (hz:0<dd.sz) (hb:nilS v=true):xs=[]:=by
 obtain ⟨a,n,cap,rfl,rfl,hcap,⟨rfl,rfl,rfl⟩ |⟨g,off,arr,T,fr,rfl,rfl,e3,e4,e5⟩⟩:=h
 ·exact List.eq_nil_of_length_eq_zero (by omega)
 ·cases hb
theorem QpF {t e:TypeId}(ht:P.underlying t=some (.slice e)) (a:Option Addr) (n cap:Nat) (w:World):(Op.equal t (.slice a n cap) (.slice none 0 0)).run P w= .ok (nilS (.slice a n cap)) w:=by
 unfold Op.equal
 obtain ⟨m,hm⟩:∃ m,Op.maxDepth=m+1:=⟨9999,rfl⟩
 rw [hm]
 cases a<;>simp only [Op.equalIn,Sem.run_bind,run_underlying ht,Result.andThen_ok]<;>rfl
theorem QwT (op:BinOp) (t:TypeId) (x y:Operand) (a:Option Addr) (n cap:Nat):eqGuard op t x y (.slice a n cap) (.slice none 0 0)=pure ():=by
 unfold eqGuard
 cases op<;>simp
theorem PO.sliceNil {x y:Operand}{t u e:TypeId}{v:Value}{n:Nat}(ht:P.underlying t=some (.slice e)) (hx:ev ρ x=v) (hv:Q0G v n) (hy:ev ρ y= .slice none 0 0):
  PO P ⟨d, .binOp .eql t x y u,ty,pos,af,g⟩ ρ M H (.bool (nilS v)):=fun w _=>by
 obtain ⟨a,cap,rfl⟩:=hv
 have hb:binOp .eql t (.slice a n cap) (.slice none 0 0)=(do pure (.bool (←Op.equal t (.slice a n cap) (.slice none 0 0)))):=by cases a<;>rfl
 simp only [execOp,hx,hy,QwT,pure_bind,hb,Sem.run_bind,QpF ht,Result.andThen_ok,Sem.run_pure]
end
end Go.KK
