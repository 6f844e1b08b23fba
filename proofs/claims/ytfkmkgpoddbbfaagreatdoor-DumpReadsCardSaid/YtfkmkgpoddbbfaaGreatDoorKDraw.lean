
import Derived.Test.YtfkmkgpoddbbfaaGreatDoorKCore
import Derived.Eval
set_option linter.unusedVariables false
namespace Go.KK
open Go
inductive Plan where
 |done
 |pure (i:Nat) (t:Plan)
 |alt (i:Nat) (t more:Plan)
 |none
def QjT (masks:List Nat) (i j:Nat):Bool:=(masks.getD i 0).testBit j
def Qp7 (ops:Array Oper) (i:Nat):List Nat:=((ops[i]?).map fun o=>(o.after.toList.filter fun e=>Region.binds .any e).map (·.on)).getD []
def QuI:Op→Bool
 | .select .. | .defer .. | .go ..=>false
 |_=>true
def Plan.alts:Plan→List Nat
 | .alt i _ more=>i::more.alts
 |_=>[]
def Plan.isNone:Plan→Bool
 | .none=>true
 |_=>false
section checks
variable (ops : Array Oper) (masks : List Nat) (n : Nat)
def QwQ:Bool:=(List.range ops.size).all fun i=>(List.range ops.size).all fun j=> !QjT masks i j ||(Qp7 ops i).any fun k=>k==j ||QjT masks k j
def QwR:Bool:=(List.range ops.size).all fun i=>(Qp7 ops i).all fun k=>Nat.blt k i
def Q08:Bool:=ops.toList.all fun o=>QuI o.op
def Qp8 (p:Nat):Bool:=match ops[p]? with
 |some o=>match o.dst with
  |some d=>Nat.blt d n&& !(o.looksAt ops).contains d&&(List.range ops.size).all fun i=>i==p ||QjT masks i p ||match ops[i]? with
   |some oi=> !(oi.looksAt ops).contains d&&oi.dst !=some d
   |none=>true
  |none=>false
 |none=>false
def Plan.headOk:Plan→List Nat→Bool
 | .alt i t more,E=>(List.range ops.size).all fun j=>E.contains j ||(Plan.alt i t more).alts.contains j ||(List.range ops.size).any fun e=> !E.contains e&&QjT masks j e
 |_,_=>true
def Plan.ok:Plan→List Nat→Bool
 | .done,E=>(List.range ops.size).all fun j=>E.contains j
 | .pure i t,E=>Nat.blt i ops.size&& !E.contains i&&Qp8 ops masks n i&&(E.all fun q=> !QjT masks q i)&& !t.isNone&&t.headOk ops masks (i::E)&&t.ok (i::E)
 | .alt i t more,E=>Nat.blt i ops.size&& !E.contains i&& !t.isNone&&t.headOk ops masks (i::E)&&t.ok (i::E)&&more.ok E
 | .none,_=>true
end checks
def QuJ (P:Program) (ops:Array Oper) (q:Nat) (a:Act) (w:World):Prop:=
 ∃ o d,ops[q]?=some o∧o.dst=some d∧if Region.wanted o (yielded ops a.tmps)then(execOp a.eval o).run P w= .ok (.value (a.tmps.getD d undef)) w else a.tmps.getD d undef=undef
def RW (P:Program) (ops:Array Oper) (masks:List Nat) (K:Act→World→Prop):Plan→List Nat→Act→World→Prop
 | .done,_,a,w=>K a w
 | .pure i t,pend,a,w=>∃ o,ops[i]?=some o∧if Region.wanted o (yielded ops a.tmps)then∃ v,(execOp a.eval o).run P w= .ok (.value v) w∧RW P ops masks K t (i::pend) (a.put o.dst v) w
   else RW P ops masks K t (i::pend) (a.put o.dst undef) w
 | .alt i t more,pend,a,w=>(∃ o,ops[i]?=some o∧if Region.wanted o (yielded ops a.tmps)
    then Res P (fun v w'=>(∀ q∈pend,QjT masks i q=false→QuJ P ops q (a.put o.dst v) w')∧RW P ops masks K t pend (a.put o.dst v) w') ((execOp a.eval o).run P w)
    else(∀ q∈pend,QjT masks i q=false→QuJ P ops q (a.put o.dst undef) w)∧RW P ops masks K t pend (a.put o.dst undef) w)∧RW P ops masks K more pend a w
 | .none,_,_,_=>True
theorem RW.alt_mem {P:Program}{ops:Array Oper}{masks:List Nat}{n:Nat}{K:Act→World→Prop}{pend:List Nat}{a:Act}{w:World}{i:Nat}:
  ∀ {p:Plan}{E:List Nat},p.ok ops masks n E=true→RW P ops masks K p pend a w→i∈p.alts→
   ∃ t,t.ok ops masks n (i::E)=true∧t.headOk ops masks (i::E)=true∧t.isNone=false∧i<ops.size∧i∉E∧∃ o,ops[i]?=some o∧if Region.wanted o (yielded ops a.tmps)
    then Res P (fun v w'=>(∀ q∈pend,QjT masks i q=false→QuJ P ops q (a.put o.dst v) w')∧RW P ops masks K t pend (a.put o.dst v) w') ((execOp a.eval o).run P w)
    else(∀ q∈pend,QjT masks i q=false→QuJ P ops q (a.put o.dst undef) w)∧RW P ops masks K t pend (a.put o.dst undef) w
 | .alt j t more,E,hok,h,hi=>by
  simp only [Plan.ok,Bool.and_eq_true,Bool.not_eq_true',Nat.blt_eq] at hok
  obtain ⟨⟨⟨⟨⟨h1,h2⟩,h3⟩,h4⟩,h5⟩,h6⟩:=hok
  simp only [Plan.alts,List.mem_cons] at hi
  by_cases e:i=j
  ·subst e
   exact⟨t,h5,h4,h3,h1,by simpa using h2,h.1⟩
  ·exact RW.alt_mem h6 h.2 (hi.resolve_left e)
 | .done,_,_,_,hi=>by simp [Plan.alts] at hi
 | .pure _ _,_,_,_,hi=>by simp [Plan.alts] at hi
 | .none,_,_,_,hi=>by simp [Plan.alts] at hi
structure Q7F (ops:Array Oper) (E:List Nat) (L:Nat→Prop) (a' a:Act):Prop where
 defers:a'.defers=a.defers
 size:a'.tmps.size=a.tmps.size
 get:∀ t,(∀ q,q∈E→¬ L q→(ops[q]?).bind (·.dst)≠some t)→a'.tmps.getD t undef=a.tmps.getD t undef
theorem Qp9 (a:Act) (d:Option Nat) (v:Value) (t:Nat):(a.put d v).tmps.getD t undef=if d=some t∧t<a.tmps.size then v else a.tmps.getD t undef:=by
 cases d with
 |none=>simp [Act.put]
 |some d=>
  simp only [Act.put,Array.getD_eq_getD_getElem?,Option.some.injEq]
  by_cases h:d=t
  ·subst h
   by_cases hl:d<a.tmps.size
   ·simp [hl]
   ·simp [hl]
  ·rw [Array.getElem?_setIfInBounds_ne h];simp [h]
theorem QoI (a:Act) (d:Option Nat) (v:Value):(a.put d v).tmps.size=a.tmps.size:=by cases d<;>simp [Act.put]
theorem QoJ (a:Act) (d:Option Nat) (v:Value):(a.put d v).defers=a.defers:=by cases d<;>rfl
theorem QxL {a a':Act}{x:Operand}(h:∀ t,x= .tmp t→a'.tmps.getD t undef=a.tmps.getD t undef):a'.eval x=a.eval x:=by
 cases x<;>first |rfl |exact h _ rfl
theorem QxM (ops:Array Oper) (a:Act) (g:Nat):yielded ops a.tmps g=match(ops[g]?).bind (·.dst)with |some t=>(match a.tmps.getD t undef with | .bool b=>some b |_=>none) |none=>none:=by
 unfold yielded
 cases (ops[g]?).bind (·.dst)with
 |none=>rfl
 |some t=>
  simp only [Option.bind_some,Array.getD_eq_getD_getElem?]
  cases h:a.tmps[t]? with
  |none=>simp [undef]
  |some v=>cases v<;>rfl
section
variable {P : Program} {ops : Array Oper}
theorem QoK {o:Oper}{a a':Act}(hq:QuI o.op=true) (h:∀ t,t∈o.looksAt ops→a'.tmps.getD t undef=a.tmps.getD t undef):
  execOp a'.eval o=execOp a.eval o∧Region.wanted o (yielded ops a'.tmps)=Region.wanted o (yielded ops a.tmps):=by
 refine⟨execOp_congr o (fun cs b e=>by rw [e] at hq;cases hq) fun x hx=>QxL fun t ht=>h t ?_, ?_⟩
 ·subst ht
  exact List.mem_append_left _ (List.mem_filterMap.2 ⟨.tmp t,by simpa using hx,rfl⟩)
 ·unfold Region.wanted
  cases hg:o.guard with
  |none=>rfl
  |some gw=>
   obtain ⟨g,want⟩:=gw
   simp only [QxM]
   cases ht:(ops[g]?).bind (·.dst)with
   |none=>rfl
   |some t=>simp only [h t (by simp [Oper.looksAt,hg,ht])]
end
def unl (n:Nat) (listed:Array Bool):Nat:=(List.range n).countP fun i=> !listed.getD i true
theorem QxN {α:Type}{p q:α→Bool}:∀ {l:List α},(∀ x∈l,p x=true→q x=true)→∀ y∈l,q y=true→p y=false→l.countP p<l.countP q
 |x::l,h,y,hy,hq,hp=>by
  have hle:l.countP p≤l.countP q:=List.countP_mono_left fun z hz=>h z (by simp [hz])
  rcases List.mem_cons.1 hy with rfl |hy
  ·simp only [List.countP_cons,hq,hp];simp;omega
  ·have ih:=QxN (fun z hz=>h z (by simp [hz])) y hy hq hp
   simp only [List.countP_cons]
   have:=h x (by simp)
   cases e:p x<;>cases e':q x<;>simp_all<;>omega
structure Stand (P:Program) (ops:Array Oper) (masks:List Nat) (n:Nat) (E pend:List Nat) (listed:Array Bool) (a' a:Act) (w:World):Prop where
 size:listed.size=ops.size
 tsz:a.tmps.size=n
 sub:∀ i,listed.getD i false=true→i∈E
 down:∀ i,listed.getD i false=true→∀ k∈Qp7 ops i,listed.getD k false=true
 lt:∀ i,i∈E→i<ops.size
 pnd:∀ q,q∈E→listed.getD q false=false→q∈pend∧Qp8 ops masks n q=true∧QuJ P ops q a w
 alike:Q7F ops E (fun q=>listed.getD q false=true) a' a
section
variable {P : Program} {ops : Array Oper} {masks : List Nat} {Q : Exit → Act → World → Prop}
theorem Qv5 (hc:QwQ ops masks=true) (hb:QwR ops=true){listed:Array Bool}(hdown:∀ i,listed.getD i false=true→∀ k∈Qp7 ops i,listed.getD k false=true):
  ∀ i j,i<ops.size→j<ops.size→(∀ k∈Qp7 ops i,listed.getD k false=true)→QjT masks i j=true→listed.getD j false=true:=by
 intro i
 induction i using Nat.strongRecOn with
 |_ i ih=>
  intro j hi hj hdeps hanc
  have h1:=List.all_eq_true.1 (List.all_eq_true.1 hc i (List.mem_range.2 hi)) j (List.mem_range.2 hj)
  simp only [hanc,Bool.not_true,Bool.false_or,List.any_eq_true,Bool.or_eq_true,beq_iff_eq] at h1
  obtain ⟨k,hk,rfl |hk2⟩:=h1
  ·exact hdeps _ hk
  ·have hki:k<i:=by
    have:=List.all_eq_true.1 (List.all_eq_true.1 hb i (List.mem_range.2 hi)) k hk
    simpa using this
   exact ih k hki j (by omega) hj (hdown k (hdeps k hk)) hk2
theorem QlS {listed:Array Bool}(hsz:listed.size=ops.size){i:Nat}:i∈Region.ready .any ops listed↔i<ops.size∧listed.getD i false=false∧∀ k∈Qp7 ops i,listed.getD k false=true:=by
 unfold Region.ready Qp7
 simp only [List.mem_filter,List.mem_range]
 constructor
 ·rintro ⟨hi,h⟩
  have hl:listed[i]?=some listed[i]:=Array.getElem?_eq_getElem (by omega)
  simp only [Array.getElem?_eq_getElem hi,Option.map_some,Option.getD_some,Bool.and_eq_true,Bool.not_eq_true'] at h
  refine⟨hi, ?_,fun k hk=> ?_⟩
  ·have:=h.1;simp only [Array.getD_eq_getD_getElem?,hl,Option.getD_some] at this⊢;exact this
  ·simp only [Array.getElem?_eq_getElem hi,Option.map_some,Option.getD_some,List.mem_map,List.mem_filter] at hk
   obtain ⟨e,⟨he,hb⟩,rfl⟩:=hk
   have:=Array.all_eq_true'.1 h.2 e (by simpa using he)
   simpa [hb] using this
 ·rintro ⟨hi,h1,h2⟩
  have hl:listed[i]?=some listed[i]:=Array.getElem?_eq_getElem (by omega)
  refine⟨hi, ?_⟩
  simp only [Array.getElem?_eq_getElem hi,Option.map_some,Option.getD_some,Bool.and_eq_true,Bool.not_eq_true']
  refine⟨by simp only [Array.getD_eq_getD_getElem?,hl,Option.getD_some] at h1⊢;exact h1,Array.all_eq_true'.2 fun e he=> ?_⟩
  by_cases hb:Region.binds .any e=true
  ·have:=h2 e.on (by
    simp only [Array.getElem?_eq_getElem hi,Option.map_some,Option.getD_some,List.mem_map,List.mem_filter]
    exact⟨e,⟨by simpa using he,hb⟩,rfl⟩)
   simp [hb,this]
  ·simp [hb]
theorem QzR (listed:Array Bool) (i j:Nat) (hi:i<listed.size):(listed.setIfInBounds i true).getD j false=if i=j then true else listed.getD j false:=by
 simp only [Array.getD_eq_getD_getElem?]
 by_cases h:i=j
 ·subst h;simp [hi]
 ·rw [Array.getElem?_setIfInBounds_ne h];simp [h]
theorem QpE {n p:Nat}(h:Qp8 ops masks n p=true):∃ o d,ops[p]?=some o∧o.dst=some d∧d<n∧d∉o.looksAt ops∧
  ∀ i oi,ops[i]?=some oi→i≠p→QjT masks i p=false→d∉oi.looksAt ops∧oi.dst≠some d:=by
 unfold Qp8 at h
 cases hp:ops[p]? with
 |none=>rw [hp] at h;cases h
 |some o=>
  rw [hp] at h
  simp only at h
  cases hd:o.dst with
  |none=>rw [hd] at h;cases h
  |some d=>
   rw [hd] at h
   simp only [Bool.and_eq_true,Nat.blt_eq,Bool.not_eq_true',List.contains_eq_mem,decide_eq_false_iff_not] at h
   refine⟨o,d,rfl,hd,h.1.1,h.1.2,fun i oi hi hne hanc=> ?_⟩
   have hlt:i<ops.size:=(Array.getElem?_eq_some_iff.1 hi).1
   have h2:=List.all_eq_true.1 h.2 i (List.mem_range.2 hlt)
   simp only [hi,hanc,Bool.or_false,Bool.or_eq_true,beq_iff_eq,Bool.and_eq_true,Bool.not_eq_true',decide_eq_false_iff_not,bne_iff_ne,ne_eq] at h2
   exact h2.resolve_left hne
theorem Stand.looks {n:Nat}{E pend:List Nat}{listed:Array Bool}{a' a:Act}{w:World}(S:Stand P ops masks n E pend listed a' a w){i:Nat}{o:Oper}(ho:ops[i]?=some o)
  (hanc:∀ j,j<ops.size→QjT masks i j=true→listed.getD j false=true):∀ t,t∈o.looksAt ops→a'.tmps.getD t undef=a.tmps.getD t undef:=by
 intro t ht
 refine S.alike.get t fun q hq hnl hd=> ?_
 have hnl':listed.getD q false=false:=by simpa using hnl
 obtain ⟨oq,d,h1,h2,h3,h4,h5⟩:=QpE (S.pnd q hq hnl').2.1
 rw [h1] at hd
 simp only [Option.bind_some,h2,Option.some.injEq] at hd
 subst hd
 by_cases e:i=q
 ·subst e
  rw [ho] at h1;cases h1
  exact h4 ht
 ·cases hx:QjT masks i q with
  |true=>have:=hanc q (S.lt q hq) hx;rw [hnl'] at this;cases this
  |false=>exact(h5 i o ho e hx).1 ht
theorem Q4C {a b:Act}(h1:a.defers=b.defers) (h2:a.tmps.size=b.tmps.size) (h3:∀ t,a.tmps.getD t undef=b.tmps.getD t undef):a=b:=by
 obtain ⟨ta,da⟩:=a;obtain ⟨tb,db⟩:=b
 simp only at h1 h2 h3
 subst h1
 have:ta=tb:=by
  apply Array.ext h2
  intro i q1 q2
  have x:=h3 i
  simp only [Array.getD_eq_getD_getElem?] at x
  rw [Array.getElem?_eq_getElem q1,Array.getElem?_eq_getElem q2] at x
  exact x
 rw [this]
theorem Stand.same {n:Nat}{E pend:List Nat}{listed:Array Bool}{a' a:Act}{w:World}(S:Stand P ops masks n E pend listed a' a w) (hall:∀ i,i<ops.size→listed.getD i false=true):a'=a:=
 Q4C S.alike.defers S.alike.size fun t=>S.alike.get t fun q hq hnl _=>hnl (hall q (S.lt q hq))
theorem Stand.plan {n:Nat}{E pend:List Nat}{listed:Array Bool}{a' a:Act}{w:World}(S:Stand P ops masks n E pend listed a' a w){i:Nat}{o:Oper}{v:Value}(ho:ops[i]?=some o) (hk:QuI o.op=true) (hi:i∉E) (hs:Qp8 ops masks n i=true)
  (htop:∀ q,q∈E→QjT masks q i=false) (hkk:∀ (q:Nat) (oq:Oper),ops[q]?=some oq→QuI oq.op=true)
  (hv:if Region.wanted o (yielded ops a.tmps)then(execOp a.eval o).run P w= .ok (.value v) w else v=undef):Stand P ops masks n (i::E) (i::pend) listed a' (a.put o.dst v) w:=by
 obtain ⟨o',d,h1,h2,h3,h4,h5⟩:=QpE hs
 rw [ho] at h1;cases h1
 have hlt:i<ops.size:=(Array.getElem?_eq_some_iff.1 ho).1
 have hnl:listed.getD i false=false:=by
  cases h:listed.getD i false with
  |false=>rfl
  |true=>exact absurd (S.sub i h) hi
 have hget:∀ t,t≠d→(a.put o.dst v).tmps.getD t undef=a.tmps.getD t undef:=fun t ht=>by
  rw [Qp9,h2,if_neg (by rintro ⟨e,_⟩;cases e;exact ht rfl)]
 have hgetd:(a.put o.dst v).tmps.getD d undef=v:=by rw [Qp9,h2,if_pos ⟨rfl,by rw [S.tsz];exact h3⟩]
 refine⟨S.size,by rw [QoI];exact S.tsz,fun j hj=>List.mem_cons_of_mem _ (S.sub j hj),S.down,fun j hj=> ?_,fun q hq hql=> ?_, ?_⟩
 ·rcases List.mem_cons.1 hj with rfl |hj
  ·exact hlt
  ·exact S.lt j hj
 ·rcases List.mem_cons.1 hq with rfl |hq
  ·refine⟨by simp,hs,o,d,ho,h2, ?_⟩
   obtain ⟨e1,e2⟩:=QoK (ops:=ops) (a:=a) (a':=a.put o.dst v) hk fun t ht=>hget t (by rintro rfl;exact h4 ht)
   rw [e1,e2,hgetd]
   split
   ·rename_i hw;rw [if_pos hw] at hv;exact hv
   ·rename_i hw;rw [if_neg hw] at hv;exact hv
  ·obtain ⟨q1,q2,oq,dq,q3,q4,q5⟩:=S.pnd q hq hql
   have hne:q≠i:=fun e=>hi (e▸hq)
   obtain ⟨f1,f2⟩:=h5 q oq q3 hne (htop q hq)
   refine⟨List.mem_cons_of_mem _ q1,q2,oq,dq,q3,q4, ?_⟩
   obtain ⟨e1,e2⟩:=QoK (ops:=ops) (a:=a) (a':=a.put o.dst v) (hkk q oq q3) fun t ht=>hget t (by rintro rfl;exact f1 ht)
   rw [e1,e2,hget dq (by rintro rfl;exact f2 q4)]
   exact q5
 ·refine⟨by rw [QoJ];exact S.alike.defers,by rw [QoI];exact S.alike.size,fun t ht=> ?_⟩
  have hd:t≠d:=by
   rintro rfl
   exact ht i (by simp) (by simp [hnl]) (by rw [ho];exact h2)
  rw [hget t hd]
  exact S.alike.get t fun q hq=>ht q (List.mem_cons_of_mem _ hq)
theorem Stand.late {n:Nat}{E pend:List Nat}{listed:Array Bool}{a' a:Act}{w:World}(S:Stand P ops masks n E pend listed a' a w){i d:Nat}(hE:i∈E) (hnl:listed.getD i false=false){o:Oper}(ho:ops[i]?=some o) (hd:o.dst=some d)
  (hdn:d<n) (hdeps:∀ k∈Qp7 ops i,listed.getD k false=true):Stand P ops masks n E pend (listed.setIfInBounds i true) (a'.put o.dst (a.tmps.getD d undef)) a w:=by
 have hlt:i<listed.size:=by rw [S.size];exact S.lt i hE
 have hl:∀ j,(listed.setIfInBounds i true).getD j false=if i=j then true else listed.getD j false:=fun j=>QzR listed i j hlt
 refine⟨by simpa using S.size,S.tsz,fun j hj=> ?_,fun j hj k hk=> ?_,S.lt,fun q hq hql=> ?_, ?_⟩
 ·rw [hl] at hj
  by_cases e:i=j
  ·subst e;exact hE
  ·rw [if_neg e] at hj;exact S.sub j hj
 ·rw [hl] at hj⊢
  by_cases e:i=j
  ·subst e;rw [hdeps k hk];simp
  ·rw [if_neg e] at hj;rw [S.down j hj k hk];simp
 ·rw [hl] at hql
  by_cases e:i=q
  ·rw [if_pos e] at hql;cases hql
  ·rw [if_neg e] at hql;exact S.pnd q hq hql
 ·refine⟨by rw [QoJ];exact S.alike.defers,by rw [QoI];exact S.alike.size,fun t ht=> ?_⟩
  rw [Qp9,hd]
  by_cases e:d=t
  ·subst e
   rw [if_pos ⟨rfl,by rw [S.alike.size,S.tsz];exact hdn⟩]
  ·rw [if_neg (by rintro ⟨h,_⟩;cases h;exact e rfl)]
   refine S.alike.get t fun q hq hnq=> ?_
   by_cases e2:i=q
   ·subst e2;rw [ho];simp only [Option.bind_some,hd];intro h;cases h;exact e rfl
   ·exact ht q hq (by rw [hl,if_neg e2];exact hnq)
theorem Stand.both {n:Nat}{E pend:List Nat}{listed:Array Bool}{a' a:Act}{w w':World}(S:Stand P ops masks n E pend listed a' a w){i:Nat}(hE:i∉E){o:Oper}{v:Value}(ho:ops[i]?=some o)
  (hdeps:∀ k∈Qp7 ops i,listed.getD k false=true) (hanc:∀ j,j<ops.size→QjT masks i j=true→listed.getD j false=true)
  (hst:∀ q∈pend,QjT masks i q=false→QuJ P ops q (a.put o.dst v) w'):Stand P ops masks n (i::E) pend (listed.setIfInBounds i true) (a'.put o.dst v) (a.put o.dst v) w':=by
 have hi:i<ops.size:=(Array.getElem?_eq_some_iff.1 ho).1
 have hlt:i<listed.size:=by rw [S.size];exact hi
 have hl:∀ j,(listed.setIfInBounds i true).getD j false=if i=j then true else listed.getD j false:=fun j=>QzR listed i j hlt
 refine⟨by simpa using S.size,by rw [QoI];exact S.tsz,fun j hj=> ?_,fun j hj k hk=> ?_,fun j hj=> ?_,fun q hq hql=> ?_, ?_⟩
 ·rw [hl] at hj
  by_cases e:i=j
  ·subst e;simp
  ·rw [if_neg e] at hj;exact List.mem_cons_of_mem _ (S.sub j hj)
 ·rw [hl] at hj⊢
  by_cases e:i=j
  ·subst e;rw [hdeps k hk];simp
  ·rw [if_neg e] at hj;rw [S.down j hj k hk];simp
 ·rcases List.mem_cons.1 hj with rfl |hj
  ·exact hi
  ·exact S.lt j hj
 ·rw [hl] at hql
  by_cases e:i=q
  ·rw [if_pos e] at hql;cases hql
  ·rw [if_neg e] at hql
   have hq':q∈E:=(List.mem_cons.1 hq).resolve_left (Ne.symm e)
   obtain ⟨q1,q2,_⟩:=S.pnd q hq' hql
   refine⟨q1,q2,hst q q1 ?_⟩
   cases hx:QjT masks i q with
   |false=>rfl
   |true=>have:=hanc q (S.lt q hq') hx;rw [hql] at this;cases this
 ·refine⟨by rw [QoJ,QoJ];exact S.alike.defers,by rw [QoI,QoI];exact S.alike.size,fun t ht=> ?_⟩
  rw [Qp9,Qp9,S.alike.size]
  split
  ·rfl
  ·refine S.alike.get t fun q hq hnq=> ?_
   have e2:i≠q:=by rintro rfl;exact hE hq
   exact ht q (List.mem_cons_of_mem _ hq) (by rw [hl,if_neg e2];exact hnq)
theorem QrR {m:Nat}{listed:Array Bool}(hsz:listed.size=m) (h:unl m listed=0):∀ i,i<m→listed.getD i false=true:=by
 intro i hi
 have h1:=List.countP_eq_zero.1 h i (List.mem_range.2 hi)
 simp only [Array.getD_eq_getD_getElem?,Array.getElem?_eq_getElem (show i<listed.size by omega),Option.getD_some,Bool.not_eq_true',Bool.not_eq_false] at h1⊢
 exact h1
theorem Q09 {m:Nat}{listed:Array Bool}(hsz:listed.size=m){i:Nat}(hi:i<m) (hnl:listed.getD i false=false):unl m (listed.setIfInBounds i true)<unl m listed:=by
 refine QxN ?_ i (List.mem_range.2 hi) ?_ ?_
 ·intro x hx h
  simp only [Array.getD_eq_getD_getElem?] at h⊢
  by_cases e:i=x
  ·subst e;simp [show i<listed.size by omega] at h
  ·rwa [Array.getElem?_setIfInBounds_ne e] at h
 ·simp only [Array.getD_eq_getD_getElem?,Array.getElem?_eq_getElem (show i<listed.size by omega),Option.getD_some] at hnl⊢
  simp [hnl]
 ·simp [show i<listed.size by omega]
theorem QxO (hb:QwR ops=true){listed:Array Bool}(hsz:listed.size=ops.size) (h:Region.ready .any ops listed=[]):∀ i,i<ops.size→listed.getD i false=true:=by
 intro i
 induction i using Nat.strongRecOn with
 |_ i ih=>
  intro hi
  cases hx:listed.getD i false with
  |true=>rfl
  |false=>
   have:i∈Region.ready .any ops listed:=(QlS hsz).2 ⟨hi,hx,fun k hk=>by
    have:=List.all_eq_true.1 (List.all_eq_true.1 hb i (List.mem_range.2 hi)) k hk
    have hki:k<i:=by simpa using this
    exact ih k hki (by omega)⟩
   rw [h] at this;cases this
theorem RW.sound {n:Nat}(hc:QwQ ops masks=true) (hb:QwR ops=true) (hk:Q08 ops=true):
  ∀ (fuel:Nat) (p:Plan) (E pend:List Nat) (listed:Array Bool) (a' a:Act) (w:World),Stand P ops masks n E pend listed a' a w→p.ok ops masks n E=true→p.headOk ops masks E=true→p.isNone=false→
   unl ops.size listed≤fuel→RW P ops masks (fun a w=>Q .normal a w) p pend a w→wpAny P .any ops Q fuel listed a' w:=by
 have hkk:∀ (q:Nat) (oq:Oper),ops[q]?=some oq→QuI oq.op=true:=fun q oq h=>List.all_eq_true.1 hk oq (Array.mem_toList_iff.2 (Array.mem_of_getElem? h))
 intro fuel
 induction fuel with
 |zero=>
  intro p
  induction p with
  |none=>intro _ _ _ _ _ _ _ _ _ h;cases h
  |alt i t more _ _=>
   intro E pend listed a' a w S hok _ _ hu _
   have hall:=QrR S.size (Nat.le_zero.1 hu)
   simp only [Plan.ok,Bool.and_eq_true,Bool.not_eq_true',Nat.blt_eq] at hok
   have:i∈E:=S.sub i (hall i hok.1.1.1.1.1)
   have h2:=hok.1.1.1.1.2
   simp [this] at h2
  |pure i t ih=>
   intro E pend listed a' a w S hok _ _ hu _
   have hall:=QrR S.size (Nat.le_zero.1 hu)
   simp only [Plan.ok,Bool.and_eq_true,Bool.not_eq_true',Nat.blt_eq] at hok
   have:i∈E:=S.sub i (hall i hok.1.1.1.1.1.1)
   have h2:=hok.1.1.1.1.1.2
   simp [this] at h2
  |done=>
   intro E pend listed a' a w S hok _ _ hu h
   have hall:=QrR S.size (Nat.le_zero.1 hu)
   refine⟨?_,by rw [S.same hall];exact h⟩
   cases hr:Region.ready .any ops listed with
   |nil=>rfl
   |cons i r=>
    obtain ⟨h1,h2,_⟩:=(QlS S.size).1 (show i∈Region.ready .any ops listed by rw [hr];simp)
    rw [hall i h1] at h2;cases h2
 |succ fuel ihf=>
    -- a step of what was planned already
  have late:∀ (p:Plan) (E pend:List Nat) (listed:Array Bool) (a' a:Act) (w:World),Stand P ops masks n E pend listed a' a w→p.ok ops masks n E=true→p.headOk ops masks E=true→p.isNone=false→
    unl ops.size listed≤fuel+1→RW P ops masks (fun a w=>Q .normal a w) p pend a w→∀ i,i∈Region.ready .any ops listed→i∈E→wpOp P ops Q i (wpAny P .any ops Q fuel (listed.setIfInBounds i true)) a' w:=by
   intro p E pend listed a' a w S hok hhd hnn hu h i hi hE
   obtain ⟨h1,h2,h3⟩:=(QlS S.size).1 hi
   obtain ⟨q1,q2,o,d,ho,hd,hst⟩:=S.pnd i hE h2
   obtain ⟨o',d',f1,f2,f3,_⟩:=QpE q2
   rw [ho] at f1;cases f1;rw [hd] at f2;cases f2
   have hanc:∀ j,j<ops.size→QjT masks i j=true→listed.getD j false=true:=fun j hj=>Qv5 hc hb S.down i j h1 hj h3
   obtain ⟨e1,e2⟩:=QoK (ops:=ops) (a:=a) (a':=a') (hkk i o ho) (S.looks ho hanc)
   have hnext:=ihf p E pend _ _ a w (S.late hE h2 ho hd f3 h3) hok hhd hnn (by have:=Q09 S.size h1 h2;omega) h
   unfold wpOp
   simp only [ho,e2]
   split
   ·rename_i hw
    rw [if_pos hw] at hst
    refine .inl ?_
    unfold Oper.wp
    rw [e1,hst]
    exact hnext
   ·rename_i hw
    rw [if_neg hw] at hst
    rw [hst] at hnext
    exact hnext
  intro p
  induction p with
  |none=>intro _ _ _ _ _ _ _ _ _ h;cases h
  |pure i t ih=>
   intro E pend listed a' a w S hok _ _ hu h
   simp only [Plan.ok,Bool.and_eq_true,Bool.not_eq_true',Nat.blt_eq] at hok
   obtain ⟨⟨⟨⟨⟨⟨h1,h2⟩,h3⟩,h4⟩,h5⟩,h6⟩,h7⟩:=hok
   obtain ⟨o,ho,h⟩:=h
   have htop:∀ q,q∈E→QjT masks q i=false:=fun q hq=>by have:=List.all_eq_true.1 h4 q hq;simpa using this
   have hi:i∉E:=by simpa using h2
   split at h
   ·rename_i hw
    obtain ⟨v,hv,h⟩:=h
    exact ih _ _ _ _ _ _ (S.plan ho (hkk i o ho) hi h3 htop hkk (by rw [if_pos hw];exact hv)) h7 h6 h5 hu h
   ·rename_i hw
    exact ih _ _ _ _ _ _ (S.plan ho (hkk i o ho) hi h3 htop hkk (by rw [if_neg hw])) h7 h6 h5 hu h
  |done=>
   intro E pend listed a' a w S hok hhd hnn hu h
   refine⟨fun hr=> ?_,fun i hi=> ?_⟩
   ·rw [S.same (QxO hb S.size hr)];exact h
   ·obtain ⟨h1,_,_⟩:=(QlS S.size).1 hi
    have:i∈E:=by
     have:=List.all_eq_true.1 hok i (List.mem_range.2 h1)
     simpa using this
    exact late _ E pend listed a' a w S hok hhd hnn hu h i hi this
  |alt j t0 more _ _=>
   intro E pend listed a' a w S hok hhd hnn hu h
   refine⟨fun hr=> ?_,fun i hi=> ?_⟩
   ·have hall:=QxO hb S.size hr
    simp only [Plan.ok,Bool.and_eq_true,Bool.not_eq_true',Nat.blt_eq] at hok
    have:j∈E:=S.sub j (hall j hok.1.1.1.1.1)
    have h2:=hok.1.1.1.1.2
    simp [this] at h2
   ·obtain ⟨h1,h2,h3⟩:=(QlS S.size).1 hi
    by_cases hE:i∈E
    ·exact late _ E pend listed a' a w S hok hhd hnn hu h i hi hE
    ·have hanc:∀ j,j<ops.size→QjT masks i j=true→listed.getD j false=true:=fun j hj=>Qv5 hc hb S.down i j h1 hj h3
     have hin:i∈(Plan.alt j t0 more).alts:=by
      have h4:=List.all_eq_true.1 hhd i (List.mem_range.2 h1)
      simp only [Bool.or_eq_true,List.any_eq_true,List.mem_range,Bool.and_eq_true,Bool.not_eq_true'] at h4
      rcases h4 with(h4 |h4) |⟨e,he,h4,h5⟩
      ·exact absurd (by simpa using h4) hE
      ·simpa using h4
      ·have:=S.sub e (hanc e he h5)
       simp [this] at h4
     obtain ⟨t,g1,g2,g3,g4,g5,o,ho,g6⟩:=RW.alt_mem hok h hin
     obtain ⟨e1,e2⟩:=QoK (ops:=ops) (a:=a) (a':=a') (hkk i o ho) (S.looks ho hanc)
     have hun:=Q09 S.size h1 h2
     unfold wpOp
     simp only [ho,e2]
     split
     ·rename_i hw
      rw [if_pos hw] at g6
      refine .inl ?_
      unfold Oper.wp
      rw [e1]
      refine Res.upon (Res.mono ?_ g6)
      rintro v w' ⟨hst,hrw⟩
      exact ihf t _ _ _ _ _ _ (S.both hE ho h3 hanc hst) g1 g2 g3 (by omega) hrw
     ·rename_i hw
      rw [if_neg hw] at g6
      exact ihf t _ _ _ _ _ _ (S.both (w':=w) (v:=undef) hE ho h3 hanc g6.1) g1 g2 g3 (by omega) g6.2
def Q30 (ops:Array Oper) (masks:List Nat) (n:Nat) (p:Plan):Bool:=QwQ ops masks&&QwR ops&&Q08 ops&&p.ok ops masks n []&&p.headOk ops masks []&& !p.isNone
def WT (P:Program) (ops:Array Oper) (masks:List Nat) (n:Nat) (Q:Exit→Act→World→Prop) (p:Plan) (pend:List Nat) (ρ:Nat→Value) (M:IM) (H:HL):Prop:=
 ∀ a w,OkA n a ρ→Sat w M H→RW P ops masks (fun a w=>Q .normal a w) p pend a w
def StabA (P:Program) (ops:Array Oper) (n q:Nat) (ρ:Nat→Value) (M:IM) (H:HL):Prop:=∀ a w,OkA n a ρ→Sat w M H→QuJ P ops q a w
def StabL (P:Program) (ops:Array Oper) (masks:List Nat) (n i:Nat) (ρ:Nat→Value) (M:IM) (H:HL):List Nat→Prop
 |[]=>True
 |q::r=>(bif QjT masks i q then True else StabA P ops n q ρ M H)∧StabL P ops masks n i ρ M H r
theorem StabL.get {n i:Nat}{ρ:Nat→Value}{M:IM}{H:HL}:∀ {l:List Nat},StabL P ops masks n i ρ M H l→∀ q∈l,QjT masks i q=false→StabA P ops n q ρ M H
 |q::r,h,x,hx,e=>by
  rcases List.mem_cons.1 hx with rfl |hx
  ·have:=h.1;rw [e] at this;exact this
  ·exact StabL.get h.2 x hx e
theorem StabL.anc {n i q:Nat}{ρ:Nat→Value}{M:IM}{H:HL}{r:List Nat}(h:QjT masks i q=true) (k:StabL P ops masks n i ρ M H r):StabL P ops masks n i ρ M H (q::r):=⟨by rw [h];trivial,k⟩
theorem StabL.st {n i q:Nat}{ρ:Nat→Value}{M:IM}{H:HL}{r:List Nat}(h:StabA P ops n q ρ M H) (k:StabL P ops masks n i ρ M H r):StabL P ops masks n i ρ M H (q::r):=⟨by cases QjT masks i q with |true=>trivial |false=>exact h,k⟩
section
variable {n : Nat} {ρ : Nat → Value} {M : IM} {H : HL} {d : Option Nat} {op : Op} {ty : TypeId} {pos : String} {af : Array Edge} {q i : Nat} {pend : List Nat} {t more : Plan}
theorem StabA.of {v:Value}{d:Nat}(ho:ops[q]?=some ⟨some d,op,ty,pos,af,none⟩) (h:PO P ⟨some d,op,ty,pos,af,none⟩ ρ M H v) (hv:ρ d=v):StabA P ops n q ρ M H:=fun a w ha hs=>
 ⟨_,d,ho,rfl,by rw [if_pos (by simp [Region.wanted]),ha.eval,h w hs,ha.get,hv]⟩
theorem StabA.on {v:Value}{d g:Nat}{want b:Bool}(s:Nat) (ho:ops[q]?=some ⟨some d,op,ty,pos,af,some (g,want)⟩) (hg:(ops[g]?).bind (·.dst)=some s) (hs:ρ s= .bool b) (hb:b=want)
  (h:PO P ⟨some d,op,ty,pos,af,none⟩ ρ M H v) (hv:ρ d=v):StabA P ops n q ρ M H:=fun a w ha hw=>
 ⟨_,d,ho,rfl,by rw [if_pos (by rw [QjS rfl ha hg hs,hb];simp),ha.eval,ha.get,hv];exact h w hw⟩
theorem StabA.off {d g:Nat}{want b:Bool}(s:Nat) (ho:ops[q]?=some ⟨some d,op,ty,pos,af,some (g,want)⟩) (hg:(ops[g]?).bind (·.dst)=some s) (hs:ρ s= .bool b) (hb:b= !want)
  (hv:ρ d=undef):StabA P ops n q ρ M H:=fun a w ha hw=>
 ⟨_,d,ho,rfl,by rw [if_neg (by rw [QjS rfl ha hg hs,hb];cases want<;>simp),ha.get,hv]⟩
theorem StabA.offU {d g:Nat}{want:Bool}(s:Nat) (ho:ops[q]?=some ⟨some d,op,ty,pos,af,some (g,want)⟩) (hg:(ops[g]?).bind (·.dst)=some s) (hs:ρ s=undef)
  (hv:ρ d=undef):StabA P ops n q ρ M H:=fun a w ha hw=>
 ⟨_,d,ho,rfl,by rw [if_neg (by rw [QnE rfl ha hg hs];simp),ha.get,hv]⟩
theorem WT.pureOffU {d g:Nat}{want:Bool}(s:Nat) (ho:ops[i]?=some ⟨some d,op,ty,pos,af,some (g,want)⟩) (hg:(ops[g]?).bind (·.dst)=some s) (hs:ρ s=undef)
  (hd:QkM n (some d)) (k:WT P ops masks n Q t (i::pend) (upd ρ d undef) M H):WT P ops masks n Q (.pure i t) pend ρ M H:=fun a w ha hw=>
 ⟨_,ho,by rw [if_neg (by rw [QnE rfl ha hg hs];simp)];exact k _ _ (ha.put (some d) hd undef) hw⟩
theorem WT.fin (h:WQ n Q .normal ρ M H):WT P ops masks n Q .done pend ρ M H:=fun a w ha hs=>h a w ha hs
theorem WT.no:WT P ops masks n Q .none pend ρ M H:=fun _ _ _ _=>trivial
theorem WT.pure {d:Nat}{v:Value}(ho:ops[i]?=some ⟨some d,op,ty,pos,af,none⟩) (h:PO P ⟨some d,op,ty,pos,af,none⟩ ρ M H v) (hd:QkM n (some d))
  (k:WT P ops masks n Q t (i::pend) (upd ρ d v) M H):WT P ops masks n Q (.pure i t) pend ρ M H:=fun a w ha hs=>
 ⟨_,ho,by rw [if_pos (by simp [Region.wanted])];exact⟨v,by rw [ha.eval];exact h w hs,k _ _ (ha.put (some d) hd v) hs⟩⟩
theorem WT.pureOn {d g:Nat}{v:Value}{want b:Bool}(s:Nat) (ho:ops[i]?=some ⟨some d,op,ty,pos,af,some (g,want)⟩) (hg:(ops[g]?).bind (·.dst)=some s) (hs:ρ s= .bool b) (hb:b=want)
  (h:PO P ⟨some d,op,ty,pos,af,none⟩ ρ M H v) (hd:QkM n (some d)) (k:WT P ops masks n Q t (i::pend) (upd ρ d v) M H):WT P ops masks n Q (.pure i t) pend ρ M H:=fun a w ha hw=>
 ⟨_,ho,by rw [if_pos (by rw [QjS rfl ha hg hs,hb];simp)];exact⟨v,by rw [ha.eval];exact h w hw,k _ _ (ha.put (some d) hd v) hw⟩⟩
theorem WT.pureOff {d g:Nat}{want b:Bool}(s:Nat) (ho:ops[i]?=some ⟨some d,op,ty,pos,af,some (g,want)⟩) (hg:(ops[g]?).bind (·.dst)=some s) (hs:ρ s= .bool b) (hb:b= !want)
  (hd:QkM n (some d)) (k:WT P ops masks n Q t (i::pend) (upd ρ d undef) M H):WT P ops masks n Q (.pure i t) pend ρ M H:=fun a w ha hw=>
 ⟨_,ho,by rw [if_neg (by rw [QjS rfl ha hg hs,hb];cases want<;>simp)];exact k _ _ (ha.put (some d) hd undef) hw⟩
theorem WT.alt {post:Value→IM→HL→Prop}(ho:ops[i]?=some ⟨d,op,ty,pos,af,none⟩) (h:EO P ⟨d,op,ty,pos,af,none⟩ ρ M H post) (hd:QkM n d)
  (k:∀ v M' H',M.le M'→post v M' H'→StabL P ops masks n i (updo ρ d v) M' H' pend∧WT P ops masks n Q t pend (updo ρ d v) M' H') (m:WT P ops masks n Q more pend ρ M H):WT P ops masks n Q (.alt i t more) pend ρ M H:=fun a w ha hs=>
 ⟨⟨_,ho,by
  rw [if_pos (by simp [Region.wanted]),ha.eval]
  refine Res.mono ?_ (h w hs)
  rintro v w' ⟨M',H',hle,hs',hp⟩
  obtain ⟨k1,k2⟩:=k v M' H' hle hp
  exact⟨fun q hq e=>k1.get q hq e _ _ (ha.put d hd v) hs',k2 _ _ (ha.put d hd v) hs'⟩⟩,m a w ha hs⟩
theorem WT.altOn {post:Value→IM→HL→Prop}{g:Nat}{want b:Bool}(s:Nat) (ho:ops[i]?=some ⟨d,op,ty,pos,af,some (g,want)⟩) (hg:(ops[g]?).bind (·.dst)=some s) (hs:ρ s= .bool b) (hb:b=want)
  (h:EO P ⟨d,op,ty,pos,af,none⟩ ρ M H post) (hd:QkM n d)
  (k:∀ v M' H',M.le M'→post v M' H'→StabL P ops masks n i (updo ρ d v) M' H' pend∧WT P ops masks n Q t pend (updo ρ d v) M' H') (m:WT P ops masks n Q more pend ρ M H):WT P ops masks n Q (.alt i t more) pend ρ M H:=fun a w ha hw=>
 ⟨⟨_,ho,by
  rw [if_pos (by rw [QjS rfl ha hg hs,hb];simp),ha.eval]
  refine Res.mono ?_ (h w hw)
  rintro v w' ⟨M',H',hle,hs',hp⟩
  obtain ⟨k1,k2⟩:=k v M' H' hle hp
  exact⟨fun q hq e=>k1.get q hq e _ _ (ha.put d hd v) hs',k2 _ _ (ha.put d hd v) hs'⟩⟩,m a w ha hw⟩
theorem WT.altOff {g:Nat}{want b:Bool}(s:Nat) (ho:ops[i]?=some ⟨d,op,ty,pos,af,some (g,want)⟩) (hg:(ops[g]?).bind (·.dst)=some s) (hs:ρ s= .bool b) (hb:b= !want) (hd:QkM n d)
  (k:StabL P ops masks n i (updo ρ d undef) M H pend∧WT P ops masks n Q t pend (updo ρ d undef) M H) (m:WT P ops masks n Q more pend ρ M H):WT P ops masks n Q (.alt i t more) pend ρ M H:=fun a w ha hw=>
 ⟨⟨_,ho,by
  rw [if_neg (by rw [QjS rfl ha hg hs,hb];cases want<;>simp)]
  exact⟨fun q hq e=>k.1.get q hq e _ _ (ha.put d hd undef) hw,k.2 _ _ (ha.put d hd undef) hw⟩⟩,m a w ha hw⟩
theorem WT.front (k:Nat){c:QaV}(hc:H[k]?=some c) (h:WT P ops masks n Q t pend ρ M (c::H.eraseIdx k)):WT P ops masks n Q t pend ρ M H:=fun a w ha hs=>h a w ha (hs.front k hc)
theorem WT.drop {c:QaV}(h:WT P ops masks n Q t pend ρ M H):WT P ops masks n Q t pend ρ M (c::H):=fun a w ha hs=>h a w ha hs.drop
theorem WT.know {F:Prop}(hf:∀ w,Sat w M H→F) (k:F→WT P ops masks n Q t pend ρ M H):WT P ops masks n Q t pend ρ M H:=fun a w ha hs=>k (hf w hs) a w ha hs
theorem WC.draw {id:Nat}(masks:List Nat) (p:Plan) (hm:P.follows .mixedOrders=true) (hok:Q30 ops masks n p=true) (h:WT P ops masks n Q p [] ρ M H):WC P n Q (.region id ops true) ρ M H:=by
 simp only [Q30,Bool.and_eq_true,Bool.not_eq_true'] at hok
 obtain ⟨⟨⟨⟨⟨h1,h2⟩,h3⟩,h4⟩,h5⟩,h6⟩:=hok
 intro a w ha hs
 refine wp_region_any hm (RW.sound (masks:=masks) (n:=n) h1 h2 h3 ops.size p [] [] _ a a _ ?_ h4 h5 h6 ?_ (h a _ ha (hs.drawn _)))
 ·refine⟨by simp,ha.size,fun i hi=> ?_,fun i hi=> ?_,fun i hi=>(by cases hi),fun q hq=>(by cases hq),⟨rfl,rfl,fun _ _=>rfl⟩⟩<;>
  ·exfalso
   simp only [Array.getD_eq_getD_getElem?,Array.getElem?_replicate] at hi
   split at hi<;>cases hi
 ·exact Nat.le_trans List.countP_le_length (by simp)
end
end
theorem WT.f1 {P:Program}{ops:Array Oper}{masks:List Nat}{n:Nat}{Q:Exit→Act→World→Prop}{t:Plan}{pend:List Nat}{ρ:Nat→Value}{M:IM}{c0 c1:QaV}{H:HL}(k:WT P ops masks n Q t pend ρ M (c1::c0::H)):WT P ops masks n Q t pend ρ M (c0::c1::H):=fun a w ha hs=>k a w ha hs.f1
theorem WT.f2 {P:Program}{ops:Array Oper}{masks:List Nat}{n:Nat}{Q:Exit→Act→World→Prop}{t:Plan}{pend:List Nat}{ρ:Nat→Value}{M:IM}{c0 c1 c2:QaV}{H:HL}(k:WT P ops masks n Q t pend ρ M (c2::c0::c1::H)):WT P ops masks n Q t pend ρ M (c0::c1::c2::H):=fun a w ha hs=>k a w ha hs.f2
theorem WT.f3 {P:Program}{ops:Array Oper}{masks:List Nat}{n:Nat}{Q:Exit→Act→World→Prop}{t:Plan}{pend:List Nat}{ρ:Nat→Value}{M:IM}{c0 c1 c2 c3:QaV}{H:HL}(k:WT P ops masks n Q t pend ρ M (c3::c0::c1::c2::H)):WT P ops masks n Q t pend ρ M (c0::c1::c2::c3::H):=fun a w ha hs=>k a w ha hs.f3
theorem WT.f4 {P:Program}{ops:Array Oper}{masks:List Nat}{n:Nat}{Q:Exit→Act→World→Prop}{t:Plan}{pend:List Nat}{ρ:Nat→Value}{M:IM}{c0 c1 c2 c3 c4:QaV}{H:HL}(k:WT P ops masks n Q t pend ρ M (c4::c0::c1::c2::c3::H)):WT P ops masks n Q t pend ρ M (c0::c1::c2::c3::c4::H):=fun a w ha hs=>k a w ha hs.f4
theorem WT.f5 {P:Program}{ops:Array Oper}{masks:List Nat}{n:Nat}{Q:Exit→Act→World→Prop}{t:Plan}{pend:List Nat}{ρ:Nat→Value}{M:IM}{c0 c1 c2 c3 c4 c5:QaV}{H:HL}(k:WT P ops masks n Q t pend ρ M (c5::c0::c1::c2::c3::c4::H)):WT P ops masks n Q t pend ρ M (c0::c1::c2::c3::c4::c5::H):=fun a w ha hs=>k a w ha hs.f5
theorem WT.f6 {P:Program}{ops:Array Oper}{masks:List Nat}{n:Nat}{Q:Exit→Act→World→Prop}{t:Plan}{pend:List Nat}{ρ:Nat→Value}{M:IM}{c0 c1 c2 c3 c4 c5 c6:QaV}{H:HL}(k:WT P ops masks n Q t pend ρ M (c6::c0::c1::c2::c3::c4::c5::H)):WT P ops masks n Q t pend ρ M (c0::c1::c2::c3::c4::c5::c6::H):=fun a w ha hs=>k a w ha hs.f6
theorem WT.f7 {P:Program}{ops:Array Oper}{masks:List Nat}{n:Nat}{Q:Exit→Act→World→Prop}{t:Plan}{pend:List Nat}{ρ:Nat→Value}{M:IM}{c0 c1 c2 c3 c4 c5 c6 c7:QaV}{H:HL}(k:WT P ops masks n Q t pend ρ M (c7::c0::c1::c2::c3::c4::c5::c6::H)):WT P ops masks n Q t pend ρ M (c0::c1::c2::c3::c4::c5::c6::c7::H):=fun a w ha hs=>k a w ha hs.f7
theorem WT.f8 {P:Program}{ops:Array Oper}{masks:List Nat}{n:Nat}{Q:Exit→Act→World→Prop}{t:Plan}{pend:List Nat}{ρ:Nat→Value}{M:IM}{c0 c1 c2 c3 c4 c5 c6 c7 c8:QaV}{H:HL}(k:WT P ops masks n Q t pend ρ M (c8::c0::c1::c2::c3::c4::c5::c6::c7::H)):WT P ops masks n Q t pend ρ M (c0::c1::c2::c3::c4::c5::c6::c7::c8::H):=fun a w ha hs=>k a w ha hs.f8
theorem WT.f9 {P:Program}{ops:Array Oper}{masks:List Nat}{n:Nat}{Q:Exit→Act→World→Prop}{t:Plan}{pend:List Nat}{ρ:Nat→Value}{M:IM}{c0 c1 c2 c3 c4 c5 c6 c7 c8 c9:QaV}{H:HL}(k:WT P ops masks n Q t pend ρ M (c9::c0::c1::c2::c3::c4::c5::c6::c7::c8::H)):WT P ops masks n Q t pend ρ M (c0::c1::c2::c3::c4::c5::c6::c7::c8::c9::H):=fun a w ha hs=>k a w ha hs.f9
theorem WT.f10 {P:Program}{ops:Array Oper}{masks:List Nat}{n:Nat}{Q:Exit→Act→World→Prop}{t:Plan}{pend:List Nat}{ρ:Nat→Value}{M:IM}{c0 c1 c2 c3 c4 c5 c6 c7 c8 c9 c10:QaV}{H:HL}(k:WT P ops masks n Q t pend ρ M (c10::c0::c1::c2::c3::c4::c5::c6::c7::c8::c9::H)):WT P ops masks n Q t pend ρ M (c0::c1::c2::c3::c4::c5::c6::c7::c8::c9::c10::H):=fun a w ha hs=>k a w ha hs.f10
theorem WT.f11 {P:Program}{ops:Array Oper}{masks:List Nat}{n:Nat}{Q:Exit→Act→World→Prop}{t:Plan}{pend:List Nat}{ρ:Nat→Value}{M:IM}{c0 c1 c2 c3 c4 c5 c6 c7 c8 c9 c10 c11:QaV}{H:HL}(k:WT P ops masks n Q t pend ρ M (c11::c0::c1::c2::c3::c4::c5::c6::c7::c8::c9::c10::H)):WT P ops masks n Q t pend ρ M (c0::c1::c2::c3::c4::c5::c6::c7::c8::c9::c10::c11::H):=fun a w ha hs=>k a w ha hs.f11
theorem WT.e0 {P:Program}{ops:Array Oper}{masks:List Nat}{n:Nat}{Q:Exit→Act→World→Prop}{t:Plan}{pend:List Nat}{ρ:Nat→Value}{M:IM}{H:HL}(k:WT P ops masks n Q t pend ρ M ([]::H)):WT P ops masks n Q t pend ρ M H:=fun a w ha hs=>k a w ha hs.e0
theorem WT.a0 {P:Program}{ops:Array Oper}{masks:List Nat}{n:Nat}{Q:Exit→Act→World→Prop}{t:Plan}{pend:List Nat}{ρ:Nat→Value}{M:IM}{H:HL}(k:WT P ops masks n Q t pend ρ M (H)):WT P ops masks n Q t pend ρ M ([]++H):=k
theorem WT.a1 {P:Program}{ops:Array Oper}{masks:List Nat}{n:Nat}{Q:Exit→Act→World→Prop}{t:Plan}{pend:List Nat}{ρ:Nat→Value}{M:IM}{c0:QaV}{H:HL}(k:WT P ops masks n Q t pend ρ M (c0::H)):WT P ops masks n Q t pend ρ M ([c0]++H):=k
theorem WT.a2 {P:Program}{ops:Array Oper}{masks:List Nat}{n:Nat}{Q:Exit→Act→World→Prop}{t:Plan}{pend:List Nat}{ρ:Nat→Value}{M:IM}{c0 c1:QaV}{H:HL}(k:WT P ops masks n Q t pend ρ M (c0::c1::H)):WT P ops masks n Q t pend ρ M ([c0,c1]++H):=k
theorem WT.a3 {P:Program}{ops:Array Oper}{masks:List Nat}{n:Nat}{Q:Exit→Act→World→Prop}{t:Plan}{pend:List Nat}{ρ:Nat→Value}{M:IM}{c0 c1 c2:QaV}{H:HL}(k:WT P ops masks n Q t pend ρ M (c0::c1::c2::H)):WT P ops masks n Q t pend ρ M ([c0,c1,c2]++H):=k
theorem WT.a4 {P:Program}{ops:Array Oper}{masks:List Nat}{n:Nat}{Q:Exit→Act→World→Prop}{t:Plan}{pend:List Nat}{ρ:Nat→Value}{M:IM}{c0 c1 c2 c3:QaV}{H:HL}(k:WT P ops masks n Q t pend ρ M (c0::c1::c2::c3::H)):WT P ops masks n Q t pend ρ M ([c0,c1,c2,c3]++H):=k
theorem WT.a5 {P:Program}{ops:Array Oper}{masks:List Nat}{n:Nat}{Q:Exit→Act→World→Prop}{t:Plan}{pend:List Nat}{ρ:Nat→Value}{M:IM}{c0 c1 c2 c3 c4:QaV}{H:HL}(k:WT P ops masks n Q t pend ρ M (c0::c1::c2::c3::c4::H)):WT P ops masks n Q t pend ρ M ([c0,c1,c2,c3,c4]++H):=k
theorem WT.a6 {P:Program}{ops:Array Oper}{masks:List Nat}{n:Nat}{Q:Exit→Act→World→Prop}{t:Plan}{pend:List Nat}{ρ:Nat→Value}{M:IM}{c0 c1 c2 c3 c4 c5:QaV}{H:HL}(k:WT P ops masks n Q t pend ρ M (c0::c1::c2::c3::c4::c5::H)):WT P ops masks n Q t pend ρ M ([c0,c1,c2,c3,c4,c5]++H):=k
theorem WT.a7 {P:Program}{ops:Array Oper}{masks:List Nat}{n:Nat}{Q:Exit→Act→World→Prop}{t:Plan}{pend:List Nat}{ρ:Nat→Value}{M:IM}{c0 c1 c2 c3 c4 c5 c6:QaV}{H:HL}(k:WT P ops masks n Q t pend ρ M (c0::c1::c2::c3::c4::c5::c6::H)):WT P ops masks n Q t pend ρ M ([c0,c1,c2,c3,c4,c5,c6]++H):=k
theorem WT.a8 {P:Program}{ops:Array Oper}{masks:List Nat}{n:Nat}{Q:Exit→Act→World→Prop}{t:Plan}{pend:List Nat}{ρ:Nat→Value}{M:IM}{c0 c1 c2 c3 c4 c5 c6 c7:QaV}{H:HL}(k:WT P ops masks n Q t pend ρ M (c0::c1::c2::c3::c4::c5::c6::c7::H)):WT P ops masks n Q t pend ρ M ([c0,c1,c2,c3,c4,c5,c6,c7]++H):=k
end Go.KK
