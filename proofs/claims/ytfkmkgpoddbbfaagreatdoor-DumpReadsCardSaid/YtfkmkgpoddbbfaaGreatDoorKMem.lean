
import Derived.Test.YtfkmkgpoddbbfaaGreatDoorKOps
namespace Go.KK
open Go
def QnF (o:Option Obj) (p:Addr):Option Value:=match o with |some (.cells c _ _)=>if p.spot.isSome then none else c[p.off]? |_=>none
def QwN (o:Option (Array Value)) (p:Addr):Option Value:=match o with |some c=>if p.spot.isSome then none else c[p.off]? |none=>none
def IM.cell (M:IM) (p:Addr):Option Value:=match M.blk p.block with |some o=>QnF (some o) p |none=>QwN (M.pre p.block) p
def QoH (c:QaV) (b:Nat):Option Obj:=(c.find? (·.1==b)).map (·.2)
def QkT (c:QaV) (p:Addr):Option Value:=QnF (QoH c p.block) p
theorem cell?_eq (w:World) (p:Addr):w.cell? p=QnF (w.heap[p.block]?) p:=by
 unfold World.cell? QnF
 cases w.heap[p.block]? with
 |none=>rfl
 |some o=>cases o<;>rfl
theorem QxJ {c:QaV}{b:Nat}{o:Obj}(h:QoH c b=some o):(b,o)∈c:=by
 unfold QoH at h
 obtain ⟨p,hp,rfl⟩:=Option.map_eq_some_iff.1 h
 have h1:=List.mem_of_find?_eq_some hp
 have h2:p.1=b:=by simpa using List.find?_some hp
 subst h2;exact h1
theorem Sat.cellM {w:World}{M:IM}{H:HL}(h:Sat w M H){p:Addr}{v:Value}(hp:M.cell p=some v):w.cell? p=some v:=by
 rw [cell?_eq]
 unfold IM.cell at hp
 cases e:M.blk p.block with
 |none=>
  rw [e] at hp
  simp only at hp
  cases e2:M.pre p.block with
  |none=>rw [e2] at hp;cases hp
  |some a=>
   rw [e2] at hp
   obtain ⟨_,arr,T,fr,hh,h2⟩:=h.pre _ _ e2
   rw [hh]
   unfold QwN at hp
   unfold QnF
   simp only at hp⊢
   by_cases g:p.spot.isSome=true
   ·rw [if_pos g] at hp;cases hp
   ·rw [if_neg g] at hp⊢;exact h2 _ _ hp
 |some o=>rw [h.imm _ _ e];rw [e] at hp;exact hp
theorem QwO {c:QaV}{b:Nat}{o:Obj}{p:Addr}{v:Value}(h:QoH c b=some o) (hp:QnF (some o) p=some v):o.excl=true:=by
 cases o<;>first |rfl |cases hp
theorem Sat.cellC {w:World}{M:IM}{H:HL}(h:Sat w M H) (k:Nat){c:QaV}(hc:H[k]?=some c){p:Addr}{v:Value}(hp:QkT c p=some v):w.cell? p=some v:=by
 rw [cell?_eq]
 unfold QkT at hp
 cases e:QoH c p.block with
 |none=>rw [e] at hp;cases hp
 |some o=>
  rw [e] at hp
  rw [h.mem k hc (QxJ e) (QwO e hp)];exact hp
theorem IM.le.cell {M M':IM}(h:M.le M'){p:Addr}{v:Value}(hp:M.cell p=some v):M'.cell p=some v:=by
 unfold IM.cell at hp⊢
 cases e:M.blk p.block with
 |none=>
  rw [e] at hp
  simp only at hp
  cases e2:M.pre p.block with
  |none=>rw [e2] at hp;cases hp
  |some a=>
   obtain ⟨e3,a',h1,h2⟩:=h.pre _ _ e2
   rw [e3,e,h1]
   rw [e2] at hp
   unfold QwN at hp⊢
   simp only at hp⊢
   by_cases g:p.spot.isSome=true
   ·rw [if_pos g] at hp;cases hp
   ·rw [if_neg g] at hp⊢;exact h2 _ _ hp
 |some o=>rw [h.blk _ _ e];rw [e] at hp;exact hp
def IM.has (M:IM) (p:Addr) (cs:List Value):Prop:=∀ j v,cs[j]?=some v→M.cell (p.add j)=some v
def QzQ (c:QaV) (p:Addr) (cs:List Value):Prop:=∀ j v,cs[j]?=some v→QkT c (p.add j)=some v
theorem IM.le.has {M M':IM}(h:M.le M'){p:Addr}{cs:List Value}(hp:M.has p cs):M'.has p cs:=fun j v e=>h.cell (hp j v e)
theorem QjF (b o n:Nat):Addr.add ⟨b,o,none⟩ n=⟨b,o+n,none⟩:=by unfold Addr.add;split<;>simp_all
theorem add_add (p:Addr) (m n:Nat):(p.add m).add n=p.add (m+n):=by
 unfold Addr.add
 by_cases hm:m=0
 ·subst hm;simp
 ·by_cases hn:n=0
  ·subst hn;simp [hm]
  ·have:¬ m+n=0:=by omega
   simp [hm,hn,Nat.add_assoc]
theorem QdW {g j:Nat}{arr:Array Value}{T:TypeId}{fr:Nat×Nat}{c:QaV}:QkT ((g, .cells arr T fr)::c) ⟨g,j,none⟩=arr[j]?:=by
 simp [QkT,QoH,QnF]
structure Kd (α:Type) where
 sz:Nat
 rc:IM→List Value→α→Prop
 mono:∀ {M M':IM},M.le M'→∀ {cs x},rc M cs x→rc M' cs x
 len:∀ {M:IM}{cs x},rc M cs x→cs.length=sz
 one:∀ {M:IM}{cs x},rc M cs x→∀ v∈cs,v.oneCell'=true
def Kd.int (k:IntKind):Kd Int:=⟨1,fun _ cs x=>cs=[.int k x],fun _ _ _ h=>h,fun h=>by rw [h];rfl,fun h v hv=>by rw [h] at hv;simp at hv;subst hv;rfl⟩
def Kd.bool:Kd Bool:=⟨1,fun _ cs x=>cs=[.bool x],fun _ _ _ h=>h,fun h=>by rw [h];rfl,fun h v hv=>by rw [h] at hv;simp at hv;subst hv;rfl⟩
def Kd.str:Kd ByteArray:=⟨1,fun _ cs x=>cs=[.string x],fun _ _ _ h=>h,fun h=>by rw [h];rfl,fun h v hv=>by rw [h] at hv;simp at hv;subst hv;rfl⟩
def Kd.nil:Kd Unit:=⟨0,fun _ cs _=>cs=[],fun _ _ _ h=>h,fun h=>by rw [h];rfl,fun h v hv=>by rw [h] at hv;cases hv⟩
def Kd.cons {α β:Type}(d:Kd α) (e:Kd β):Kd (α×β):=
 ⟨d.sz+e.sz,fun M cs x=>∃ c1 c2,cs=c1++c2∧d.rc M c1 x.1∧e.rc M c2 x.2,fun hle _ _ ⟨c1,c2,h,h1,h2⟩=>⟨c1,c2,h,d.mono hle h1,e.mono hle h2⟩,
  fun⟨c1,c2,h,h1,h2⟩=>by rw [h,List.length_append,d.len h1,e.len h2],fun⟨c1,c2,h,h1,h2⟩ v hv=>by
  rw [h,List.mem_append] at hv;exact hv.elim (d.one h1 v) (e.one h2 v)⟩
def Kd.iso {α β:Type}(f:β→α) (d:Kd α):Kd β:=⟨d.sz,fun M cs x=>d.rc M cs (f x),fun hle _ _ h=>d.mono hle h,fun h=>d.len h,fun h=>d.one h⟩
def RowsOf {α:Type}(d:Kd α) (M:IM) (f:Nat→Option Value) (xs:List α):Prop:=
 ∀ i (h:i<xs.length),∃ cs,d.rc M cs xs[i]∧∀ j u,cs[j]?=some u→f (i*d.sz+j)=some u
theorem RowsOf.mono {α:Type}{d:Kd α}{M M':IM}{f f':Nat→Option Value}{xs:List α}(h:RowsOf d M f xs) (hle:M.le M') (hf:∀ j u,f j=some u→f' j=some u):RowsOf d M' f' xs:=
 fun i hi=>let ⟨cs,r,m⟩:=h i hi;⟨cs,d.mono hle r,fun j u hj=>hf _ _ (m j u hj)⟩
theorem RowsOf.nil {α:Type}(d:Kd α) (M:IM) (f:Nat→Option Value):RowsOf d M f []:=fun i h=>by simp at h
theorem RowsOf.held {α:Type}{d:Kd α}{M:IM}{f:Nat→Option Value}{xs:List α}(h:RowsOf d M f xs){j:Nat}(hj:j<xs.length*d.sz):∃ u,f j=some u∧u.oneCell'=true:=by
 have hz:0<d.sz:=by rcases Nat.eq_zero_or_pos d.sz with e |e;(rw [e] at hj;omega);exact e
 have hi:j/d.sz<xs.length:=Nat.div_lt_of_lt_mul (by rwa [Nat.mul_comm] at hj)
 obtain ⟨cs,r,m⟩:=h (j/d.sz) hi
 have hm:j % d.sz<cs.length:=by rw [d.len r];exact Nat.mod_lt _ hz
 have:=m (j % d.sz) cs[j % d.sz] (List.getElem?_eq_getElem hm)
 rw [Nat.div_add_mod'] at this
 exact⟨_,this,d.one r _ (List.getElem_mem hm)⟩
theorem RowsOf.append {α:Type}{d:Kd α}{M:IM}{f g:Nat→Option Value}{xs ys:List α}(h:RowsOf d M f xs) (k:RowsOf d M g ys) (hg:∀ j u,j<ys.length*d.sz→g j=some u→f (xs.length*d.sz+j)=some u):RowsOf d M f (xs++ys):=by
 intro i hi
 by_cases e:i<xs.length
 ·obtain ⟨cs,r,m⟩:=h i e
  exact⟨cs,by rw [List.getElem_append_left e];exact r,m⟩
 ·have hi':i - xs.length<ys.length:=by simp at hi;omega
  obtain ⟨cs,r,m⟩:=k (i - xs.length) hi'
  refine⟨cs,by rw [List.getElem_append_right (by omega)];exact r,fun j u hj=> ?_⟩
  have hjl:j<d.sz:=by rw [←d.len r];exact(List.getElem?_eq_some_iff.1 hj).1
  have h1:i*d.sz+j=xs.length*d.sz+((i - xs.length)*d.sz+j):=by
   rw [←Nat.add_assoc,←Nat.add_mul];congr 2;omega
  rw [h1]
  refine hg _ _ ?_ (m j u hj)
  calc (i - xs.length)*d.sz+j<(i - xs.length)*d.sz+d.sz:=by omega
   _=(i - xs.length+1)*d.sz:=by rw [Nat.add_mul,Nat.one_mul]
   _≤ys.length*d.sz:=Nat.mul_le_mul_right _ hi'
theorem RowsOf.sub {α:Type}{d:Kd α}{M:IM}{f:Nat→Option Value}{xs:List α}(h:RowsOf d M f xs) (l k:Nat):RowsOf d M (fun j=>f (l*d.sz+j)) ((xs.drop l).take k):=by
 intro i hi
 simp only [List.length_take,List.length_drop] at hi
 obtain ⟨cs,r,m⟩:=h (l+i) (by omega)
 refine⟨cs,by simpa using r,fun j u hj=> ?_⟩
 have:=m j u hj
 rwa [Nat.add_mul,Nat.add_assoc] at this
theorem RowsOf.set {α:Type}{d:Kd α}{M:IM}{f f':Nat→Option Value}{xs:List α}(h:RowsOf d M f xs) (i:Nat) (y:α) (cs:List Value) (hr:d.rc M cs y)
  (hn:∀ j u,cs[j]?=some u→f' (i*d.sz+j)=some u) (ho:∀ j,(j<i*d.sz∨i*d.sz+d.sz≤j)→f' j=f j):RowsOf d M f' (xs.set i y):=by
 intro k hk
 simp only [List.length_set] at hk
 by_cases e:i=k
 ·subst e;exact⟨cs,by simpa using hr,hn⟩
 ·obtain ⟨c2,r,m⟩:=h k hk
  refine⟨c2,by rw [List.getElem_set_ne e];exact r,fun j u hj=> ?_⟩
  have hjl:j<d.sz:=by rw [←d.len r];exact(List.getElem?_eq_some_iff.1 hj).1
  rw [ho _ _];exact m j u hj
  rcases Nat.lt_or_gt_of_ne e with h1 |h1
  ·right
   calc i*d.sz+d.sz=(i+1)*d.sz:=by rw [Nat.add_mul,Nat.one_mul]
    _≤k*d.sz:=Nat.mul_le_mul_right _ h1
    _≤_:=by omega
  ·left
   calc k*d.sz+j<k*d.sz+d.sz:=by omega
    _=(k+1)*d.sz:=by rw [Nat.add_mul,Nat.one_mul]
    _≤_:=Nat.mul_le_mul_right _ h1
def RS {α:Type}(d:Kd α) (M:IM) (v:Value) (xs:List α):Prop:=
 ∃ a n cap,v= .slice a n cap∧n=xs.length∧n≤cap∧RowsOf d M (fun j=>a.bind fun ad=>M.cell (ad.add j)) xs
theorem RS.mono {α:Type}{d:Kd α}{M M':IM}{v:Value}{xs:List α}(h:RS d M v xs) (hle:M.le M'):RS d M' v xs:=by
 obtain ⟨a,n,cap,h1,h2,h3,h4⟩:=h
 refine⟨a,n,cap,h1,h2,h3,h4.mono hle fun j u hj=> ?_⟩
 cases a with
 |none=>cases hj
 |some ad=>exact hle.cell hj
def Kd.slice {α:Type}(d:Kd α):Kd (List α):=
 ⟨1,fun M cs xs=>∃ v,cs=[v]∧RS d M v xs,fun hle _ _ ⟨v,e,h⟩=>⟨v,e,h.mono hle⟩,fun⟨v,e,_⟩=>by rw [e];rfl,
  fun⟨v,e,h⟩ u hu=>by rw [e] at hu;simp at hu;subst hu;obtain ⟨a,n,cap,rfl,_⟩:=h;rfl⟩
theorem RS.nil {α:Type}(d:Kd α) (M:IM):RS d M (.slice none 0 0) []:=⟨none,0,0,rfl,rfl,Nat.le_refl _, .nil _ _ _⟩
theorem RS.empty {α:Type}(d:Kd α) (M:IM) (a:Option Addr) (c:Nat):RS d M (.slice a 0 c) []:=⟨a,0,c,rfl,rfl,Nat.zero_le _, .nil _ _ _⟩
def OwnS {α:Type}(d:Kd α) (M:IM) (v:Value) (xs:List α) (c:QaV):Prop:=
 ∃ a n cap,v= .slice a n cap∧n=xs.length∧n≤cap∧((a=none∧cap=0∧c=[])∨
  ∃ g off arr T fr,a=some ⟨g,off,none⟩∧c=[(g, .cells arr T fr)]∧off+cap*d.sz≤arr.size∧(fr.1=fr.2∨arr.size≤fr.1)∧RowsOf d M (fun j=>arr[off+j]?) xs)
theorem OwnS.mono {α:Type}{d:Kd α}{M M':IM}{v:Value}{xs:List α}{c:QaV}(h:OwnS d M v xs c) (hle:M.le M'):OwnS d M' v xs c:=by
 obtain ⟨a,n,cap,h1,h2,h3,h4⟩:=h
 refine⟨a,n,cap,h1,h2,h3,h4.imp id ?_⟩
 rintro ⟨g,off,arr,T,fr,e1,e2,e3,e4,e5⟩
 exact⟨g,off,arr,T,fr,e1,e2,e3,e4,e5.mono hle fun _ _ h=>h⟩
theorem OwnS.nil {α:Type}(d:Kd α) (M:IM):OwnS d M (.slice none 0 0) [] []:=⟨none,0,0,rfl,rfl,Nat.le_refl _, .inl ⟨rfl,rfl,rfl⟩⟩
def Excl (c:QaV):Prop:=∀ p∈c,p.2.excl=true
theorem OwnS.excl {α:Type}{d:Kd α}{M:IM}{v:Value}{xs:List α}{c:QaV}(h:OwnS d M v xs c):Excl c:=by
 obtain ⟨a,n,cap,h1,h2,h3,h4⟩:=h
 rcases h4 with⟨rfl,rfl,rfl⟩ |⟨g,off,arr,T,fr,rfl,rfl,e3,e4,e5⟩
 ·intro p hp;cases hp
 ·intro p hp
  rw [List.mem_singleton] at hp
  subst hp
  rfl
theorem OwnS.rs {α:Type}{d:Kd α}{M:IM}{v:Value}{xs:List α}{c:QaV}{w:World}{H:HL}(h:OwnS d M v xs c) (hs:Sat w M (c::H)):RS d (M.add c) v xs:=by
 obtain ⟨a,n,cap,h1,h2,h3,h4⟩:=h
 refine⟨a,n,cap,h1,h2,h3, ?_⟩
 rcases h4 with⟨rfl,rfl,_⟩ |⟨g,off,arr,T,fr,rfl,rfl,e3,e4,e5⟩
 ·have:xs=[]:=List.eq_nil_of_length_eq_zero (by omega)
  subst this;exact .nil _ _ _
 ·refine e5.mono (M.le_add _) fun j u hj=> ?_
  have hb:(M.add [(g, .cells arr T fr)]).blk g=some (.cells arr T fr):=
   IM.add_blk (p:=(g, .cells arr T fr)) (by simp) (hs.apart _ (by simp)) (by simp) rfl (hs.apre (g, .cells arr T fr) (by simp) rfl)
  show (M.add [(g, .cells arr T fr)]).cell _=_
  rw [QjF]
  unfold IM.cell
  rw [hb]
  exact hj
def IM.minus (M:IM) (c:QaV):IM:={M with blk:=fun b=>if c.any (·.1==b)then none else M.blk b}
theorem QxK {M:IM}{c:QaV}{b:Nat}(h:∀ p∈c,p.1≠b):(M.minus c).blk b=M.blk b:=by
 have:c.any (·.1==b)=false:=by
  rw [List.any_eq_false];intro p hp;simpa using h p hp
 simp [IM.minus,this]
theorem Q2Z {M M1:IM}{c:QaV}{w:World}{H:HL}(hs:Sat w M (c::H)) (h:(M.add c).le M1):M.le (M1.minus c):=by
 refine⟨h.os,h.tape,h.output,fun b o hb=> ?_,fun b a hb=> ?_⟩
 ·rw [QxK]
  ·exact h.blk b o ((M.le_add c).blk b o hb)
  ·rintro p hp rfl
   have:=hs.apart p (by simp [hp])
   rw [this] at hb;cases hb
 ·obtain ⟨e1,a1,h1,h2⟩:=(M.le_add c).pre b a hb
  obtain ⟨e2,a2,h3,h4⟩:=h.pre b a1 h1
  have h0:=(hs.pre b a hb).1
  refine⟨?_,a2,h3,h2.trans h4⟩
  simp only [IM.minus]
  split
  ·exact h0.symm
  ·exact e2.trans e1
theorem Sat.unlend {M M1:IM}{c:QaV}{w w':World}{H H':HL}(hx:Excl c) (hs:Sat w M (c::H)) (h:(M.add c).le M1) (h':Sat w' M1 H'):Sat w' (M1.minus c) (c::H'):=by
 have hn:=hs.nodup
 simp only [List.flatten_cons,List.map_append] at hn
 have hnc:=(List.nodup_append.1 hn).1
 have hb:∀ p∈c,M1.blk p.1=some p.2:=fun p hp=>h.blk _ _ (IM.add_blk hnc (hs.apart p (by simp [hp])) hp (hx p hp) (hs.apre p (by simp [hp]) (hx p hp)))
 have hd:∀ p∈c,∀ q∈H'.flatten,p.1≠q.1:=fun p hp q hq e=>by
  have h1:=h'.apart q hq
  rw [←e,hb p hp] at h1;cases h1
 refine⟨h'.os,h'.tape,h'.output,fun b o hbo=> ?_, ?_, ?_, ?_,fun b a hba=> ?_, ?_, ?_⟩
 ·by_cases e:c.any (·.1==b)=true
  ·simp [IM.minus,e] at hbo
  ·simp only [IM.minus,e] at hbo;exact h'.imm b o (by simpa using hbo)
 ·intro p hp he
  simp only [List.flatten_cons,List.mem_append] at hp
  rcases hp with hp |hp
  ·exact h'.imm _ _ (hb p hp)
  ·exact h'.own p hp he
 ·simp only [List.flatten_cons,List.map_append]
  refine List.nodup_append.2 ⟨hnc,h'.nodup, ?_⟩
  intro x hx y hy
  obtain ⟨p,hp,rfl⟩:=List.mem_map.1 hx
  obtain ⟨q,hq,rfl⟩:=List.mem_map.1 hy
  exact hd p hp q hq
 ·intro p hp
  simp only [List.flatten_cons,List.mem_append] at hp
  rcases hp with hp |hp
  ·have:c.any (·.1==p.1)=true:=List.any_eq_true.2 ⟨p,hp,by simp⟩
   simp [IM.minus,this]
  ·rw [QxK (fun q hq=>hd q hq p hp)];exact h'.apart p hp
 ·obtain ⟨h1,h2⟩:=h'.pre b a hba
  refine⟨?_,h2⟩
  simp only [IM.minus]
  split
  ·rfl
  ·exact h1
 ·intro p hp he
  simp only [List.flatten_cons,List.mem_append] at hp
  rcases hp with hp |hp
  ·cases e:M1.pre p.1 with
   |none=>exact e
   |some a=>
    have:=(h'.pre _ _ e).1
    rw [hb p hp] at this;cases this
  ·exact h'.apre p hp he
 ·intro p hp n a x T y z e
  simp only [List.flatten_cons,List.mem_append] at hp
  rcases hp with hp |hp
  ·have:=hx p hp
   rw [e] at this;cases this
  ·exact h'.shr p hp n a x T y z e
def aggB (P:Program) (t:TypeId):Bool:=match P.underlying t with |some (.struct _) |some (.array _ _)=>true |_=>false
def QdE (P:Program) (t:TypeId):Bool:=match P.underlying t with |some (.struct _) |some (.array _ _) |none=>false |some _=>true
theorem QiP {P:Program}{t:TypeId}(h:QdE P t=true) (w:World):(isAgg t).run P w= .ok false w:=by
 unfold QdE at h
 cases e:P.underlying t with
 |none=>rw [e] at h;cases h
 |some d=>
  rw [e] at h
  simp only [isAgg,Sem.run_bind,run_underlying e,Result.andThen_ok]
  cases d<;>first |rfl |cases h
theorem QkN {P:Program}{t:TypeId}(h:aggB P t=true) (w:World):(isAgg t).run P w= .ok true w:=by
 unfold aggB at h
 cases e:P.underlying t with
 |none=>rw [e] at h;cases h
 |some d=>
  rw [e] at h
  simp only [isAgg,Sem.run_bind,run_underlying e,Result.andThen_ok]
  cases d<;>first |rfl |cases h
theorem QbZ {P:Program}{t:TypeId}{n:Nat}(h:(P.info? t).map (·.size)=some n) (w:World):(sizeOf t).run P w= .ok n w:=by
 obtain ⟨i,hi,rfl⟩:=Option.map_eq_some_iff.1 h
 simp [sizeOf,run_typeInfo w hi]
section
variable {P : Program} {ρ : Nat → Value} {M : IM} {H : HL} {d : Option Nat} {ty : TypeId} {pos : String} {af : Array Edge} {g : Option (Nat × Bool)}
theorem PO.load {x:Operand}{t:TypeId}{p:Addr}{v:Value}(ht:QdE P t=true) (hx:ev ρ x= .pointer (some p)) (hc:∀ w,Sat w M H→w.cell? p=some v):
  PO P ⟨d, .load t x,ty,pos,af,g⟩ ρ M H v:=fun w hs=>by
 have h1:(Instr.loadAt t (.pointer (some p))).run P w= .ok v w:=by
  simp only [Instr.loadAt,Instr.sureAddr,pure_bind,loadVar,Sem.run_bind,QiP ht,Result.andThen_ok,Bool.false_eq_true,if_false,run_load,hc w hs]
 simp only [execOp,hx,Sem.run_bind,h1,Result.andThen_ok];rfl
theorem PO.loadAgg {x:Operand}{t:TypeId}{p:Addr}{cs:List Value}(ht:aggB P t=true) (hz:(P.info? t).map (·.size)=some cs.length) (hx:ev ρ x= .pointer (some p)) (hc:∀ w,Sat w M H→∀ j v,cs[j]?=some v→w.cell? (p.add j)=some v):
  PO P ⟨d, .load t x,ty,pos,af,g⟩ ρ M H (.agg cs.toArray):=fun w hs=>by
 have h1:(Instr.loadAt t (.pointer (some p))).run P w= .ok (.agg cs.toArray) w:=by
  simp only [Instr.loadAt,Instr.sureAddr,pure_bind,loadVar,Sem.run_bind,QkN ht,Result.andThen_ok,if_true,QbZ hz,run_loadCells_list w p cs (hc w hs)]
  rfl
 simp only [execOp,hx,Sem.run_bind,h1,Result.andThen_ok];rfl
theorem PO.loadB (k:Nat){x:Operand}{t:TypeId}{b j:Nat}{v:Value}{arr:Array Value}{T:TypeId}{fr:Nat×Nat}{c:QaV}(ht:QdE P t=true) (hx:ev ρ x= .pointer (some ⟨b,j,none⟩)) (hk:H[k]?=some ((b, .cells arr T fr)::c)) (hv:arr[j]?=some v):
  PO P ⟨d, .load t x,ty,pos,af,g⟩ ρ M H v:=PO.load ht hx fun _ hs=>hs.cellC k hk (QdW.trans hv)
theorem PO.loadBA (k:Nat){x:Operand}{t:TypeId}{b j:Nat}{cs:List Value}{arr:Array Value}{T:TypeId}{fr:Nat×Nat}{c:QaV}(ht:aggB P t=true) (hz:(P.info? t).map (·.size)=some cs.length) (hx:ev ρ x= .pointer (some ⟨b,j,none⟩)) (hk:H[k]?=some ((b, .cells arr T fr)::c))
  (hv:(arr.toList.drop j).take cs.length=cs):PO P ⟨d, .load t x,ty,pos,af,g⟩ ρ M H (.agg cs.toArray):=PO.loadAgg ht hz hx fun _ hs i v hi=>by
 rw [QjF]
 refine hs.cellC k hk (QdW.trans ?_)
 rw [←hv] at hi
 rw [List.getElem?_take] at hi
 split at hi
 ·rw [List.getElem?_drop] at hi;simpa using hi
 ·cases hi
theorem PO.loadM {x:Operand}{t:TypeId}{p:Addr}{v:Value}(ht:QdE P t=true) (hx:ev ρ x= .pointer (some p)) (hc:M.cell p=some v):
  PO P ⟨d, .load t x,ty,pos,af,g⟩ ρ M H v:=PO.load ht hx fun _ hs=>hs.cellM hc
theorem PO.loadMA {x:Operand}{t:TypeId}{p:Addr}{cs:List Value}(ht:aggB P t=true) (hz:(P.info? t).map (·.size)=some cs.length) (hx:ev ρ x= .pointer (some p)) (hc:M.has p cs):
  PO P ⟨d, .load t x,ty,pos,af,g⟩ ρ M H (.agg cs.toArray):=PO.loadAgg ht hz hx fun _ hs j v hj=>hs.cellM (hc j v hj)
theorem PO.loadC (k:Nat){c:QaV}{x:Operand}{t:TypeId}{p:Addr}{v:Value}(ht:QdE P t=true) (hx:ev ρ x= .pointer (some p)) (hk:H[k]?=some c) (hc:QkT c p=some v):
  PO P ⟨d, .load t x,ty,pos,af,g⟩ ρ M H v:=PO.load ht hx fun _ hs=>hs.cellC k hk hc
theorem PO.nilCheck {x:Operand}{p:Addr}(hx:ev ρ x= .pointer (some p)):PO P ⟨d, .nilCheck x,ty,pos,af,g⟩ ρ M H (.pointer (some p)):=fun w _=>by
 simp only [execOp,hx];rfl
def QbQ (P:Program) (T:TypeId) (i:Nat):Option Nat:=match P.underlying T with
 |some (.struct fs)=>match fs[i]? with
  |some f=>if(P.info? f.type).map (·.size)=some 0∨(P.info? f.type).isNone then none else some f.offset
  |none=>none
 |_=>none
theorem PO.fieldAddr {x:Operand}{T i off:Nat}{p q:Addr}(hf:QbQ P T i=some off) (hx:ev ρ x= .pointer (some p)) (hq:p.add off=q):
  PO P ⟨d, .fieldAddr T x i,ty,pos,af,g⟩ ρ M H (.pointer (some q)):=fun w _=>by
 unfold QbQ at hf
 cases e:P.underlying T with
 |none=>rw [e] at hf;cases hf
 |some ds=>
  rw [e] at hf
  cases ds<;>try (cases hf;done)
  rename_i fs
  simp only at hf
  cases e2:fs[i]? with
  |none=>rw [e2] at hf;cases hf
  |some f=>
   rw [e2] at hf
   simp only at hf
   split at hf
   ·cases hf
   ·rename_i hn
    cases hf
    cases e3:P.info? f.type with
    |none=>simp [e3] at hn
    |some ti=>
     have hz:ti.size≠0:=by simpa [e3] using hn
     have h1:(Instr.fieldAt T (.pointer (some p)) i).run P w= .ok (.pointer (some q)) w:=by
      simp only [Instr.fieldAt,Instr.sureAddr,Sem.run_bind,run_underlying e,Result.andThen_ok,e2,pure_bind,fieldPlace,QbZ (show (P.info? f.type).map (·.size)=some ti.size by rw [e3];rfl),if_neg hz,hq]
      rfl
     simp only [execOp,hx,Sem.run_bind,h1,Result.andThen_ok];rfl
end
end Go.KK
