
import Derived.Test.YtfkmkgpoddbbfaaGreatDoorKEq
import Derived.Test.YtfkmkgpoddbbfaaGreatDoorKRefl
import Derived.MapKept
set_option linter.unusedSimpArgs false
set_option linter.unusedVariables false
namespace Go.KK
open Go
def Qb6 {α:Type}[DecidableEq α]:List (α×Int)→α→Int
 |[],_=>0
 |p::l,k=>if p.1=k then p.2 else Qb6 l k
def QeK {α:Type}[DecidableEq α]:List (α×Int)→α→Int→List (α×Int)
 |[],k,v=>[(k,v)]
 |p::l,k,v=>if p.1=k then(k,v)::l else p::QeK l k v
theorem QjU {α:Type}[DecidableEq α]:∀ (l:List (α×Int)) (k:α) (v:Int) (q:α),Qb6 (QeK l k v) q=if q=k then v else Qb6 l q
 |[],k,v,q=>by
  by_cases h:q=k
  ·subst h;simp [QeK,Qb6]
  ·simp [QeK,Qb6,h,Ne.symm h]
 |p::l,k,v,q=>by
  unfold QeK
  by_cases h:p.1=k
  ·rw [if_pos h]
   by_cases e:q=k
   ·subst e;simp [Qb6]
   ·have h1:¬ k=q:=Ne.symm e
    have h2:¬ p.1=q:=by rw [h];exact h1
    simp [Qb6,e,h1,h2]
  ·rw [if_neg h]
   by_cases e:q=k
   ·subst e;simp [Qb6,h,QjU l q v q]
   ·simp only [Qb6,QjU l k v q,if_neg e]
abbrev miV (k:Int):Value:= .int .i64 k
abbrev msV (k:ByteArray):Value:= .string k
abbrev maV (k:Int×Int):Value:= .agg #[.int .i64 k.1, .int .i64 k.2]
def MFound {α:Type}[DecidableEq α] (val:α→Value) (es:List MapEntry) (xs:List (α×Int)) (k:α) (b:Nat) (r:Option (Nat×Value)):Prop:=
 (r=none∧Qb6 xs k=0∧∀ v,QeK xs k v=xs++[(k,v)])∨
  ∃ i e,r=some (b+i, .int .i64 (Qb6 xs k))∧es[i]?=some e∧e.key=val k∧i<xs.length∧∀ v,QeK xs k v=xs.set i (k,v)
structure MKey (P:Program) (kt:TypeId){α:Type}[DecidableEq α] (val:α→Value):Prop where
 check:∀ (b:Bool) (k:α) (w:World),(Instr.checkKey b 10000 kt (val k)).run P w= .ok () w
 find:∀ (k:α) (es:List MapEntry) (xs:List (α×Int)) (w:World),es.map (fun e=>(e.key,e.val))=xs.map (fun p=>(val p.1,Value.int .i64 p.2))→
  ∃ r,(Instr.findKey kt (val k) es).run P w= .ok r w∧MFound val es xs k 0 r
 bits:∀ k:α,Instr.sameBits 10000 (val k) (val k)=true
theorem MFound.tail {α:Type}[DecidableEq α]{val:α→Value}{e:MapEntry}{es:List MapEntry}{p:α×Int}{xs:List (α×Int)}{k:α}{b:Nat}{r:Option (Nat×Value)}
  (h:MFound val es xs k (b+1) r) (hn:¬ p.1=k):MFound val (e::es) (p::xs) k b r:=by
 rcases h with⟨h1,h2,h3⟩ |⟨i,e',h1,h2,h3,h4,h5⟩
 ·exact .inl ⟨h1,by simp [Qb6,hn,h2],fun v=>by simp [QeK,hn,h3]⟩
 ·refine .inr ⟨i+1,e', ?_,by simpa using h2,h3,by simpa using h4,fun v=>by simp [QeK,hn,h5]⟩
  rw [h1];simp [Qb6,hn];omega
theorem QrS {α:Type}[DecidableEq α]{val:α→Value}{d:TypeDesc}(hs:∀ a b,Instr.sameNow d (val a) (val b)=some (decide (a=b))) (k:α):
  ∀ (es:List MapEntry) (xs:List (α×Int)) (b:Nat),es.map (fun e=>(e.key,e.val))=xs.map (fun p=>(val p.1,Value.int .i64 p.2))→
   ∃ r,Instr.findNow d (val k) es b=some r∧MFound val es xs k b r
 |[],[],b,_=>⟨none,rfl, .inl ⟨rfl,rfl,fun _=>rfl⟩⟩
 |[],_::_,_,h=>by cases h
 |_::_,[],_,h=>by cases h
 |e::es,p::xs,b,h=>by
  simp only [List.map_cons,List.cons.injEq,Prod.mk.injEq] at h
  obtain ⟨⟨h1,h2⟩,h3⟩:=h
  by_cases hk:p.1=k
  ·refine⟨some (b,e.val),by simp [Instr.findNow,h1,hs,hk], .inr ⟨0,e,by simp [Qb6,hk,h2],rfl,by rw [h1,hk],by simp,fun v=>by simp [QeK,hk]⟩⟩
  ·obtain ⟨r,hr,hf⟩:=QrS hs k es xs (b+1) h3
   exact⟨r,by simp [Instr.findNow,h1,hs,Ne.symm hk,hr],hf.tail hk⟩
theorem QqD {P:Program}{w:World}{α:Type}[DecidableEq α]{val:α→Value}{kt:TypeId}(hs:∀ a b,(Op.equal kt (val a) (val b)).run P w= .ok (decide (a=b)) w) (k:α):
  ∀ (es:List MapEntry) (xs:List (α×Int)) (b:Nat),es.map (fun e=>(e.key,e.val))=xs.map (fun p=>(val p.1,Value.int .i64 p.2))→
   ∃ r,(Instr.findAsking kt (val k) es b).run P w= .ok r w∧MFound val es xs k b r
 |[],[],b,_=>⟨none,rfl, .inl ⟨rfl,rfl,fun _=>rfl⟩⟩
 |[],_::_,_,h=>by cases h
 |_::_,[],_,h=>by cases h
 |e::es,p::xs,b,h=>by
  simp only [List.map_cons,List.cons.injEq,Prod.mk.injEq] at h
  obtain ⟨⟨h1,h2⟩,h3⟩:=h
  by_cases hk:p.1=k
  ·refine⟨some (b,e.val), ?_, .inr ⟨0,e,by simp [Qb6,hk,h2],rfl,by rw [h1,hk],by simp,fun v=>by simp [QeK,hk]⟩⟩
   simp only [Instr.findAsking,Sem.run_bind,h1,hs,Result.andThen_ok,hk,decide_true,if_true];rfl
  ·obtain ⟨r,hr,hf⟩:=QqD hs k es xs (b+1) h3
   refine⟨r, ?_,hf.tail hk⟩
   have hd:decide (k=p.1)=false:=by simpa using Ne.symm hk
   simp only [Instr.findAsking,Sem.run_bind,h1,hs,Result.andThen_ok,hd,Bool.false_eq_true,if_false];exact hr
section
variable {P : Program} {kt e : TypeId}
theorem MKey.int (h:P.underlying kt=some (.int .i64)):MKey P kt miV where
 check b k w:=by
  show (Instr.checkKey b (9999+1) kt (miV k)).run P w=_
  exact MapKept.run_checkKey h (show MapKept.IsKey (.int .i64) (.int .i64 k) from rfl) b _
 find k es xs w hx:=by
  obtain ⟨r,hr,hf⟩:=QrS (val:=miV) (d:= .int .i64) (fun a b=>by simp [Instr.sameNow,miV];rfl) k es xs 0 hx
  exact⟨r,MapKept.run_findKey h hr,hf⟩
 bits k:=by
  show Instr.sameBits (9999+1) _ _=_
  simp [Instr.sameBits,miV]
theorem MKey.str (h:P.underlying kt=some .string):MKey P kt msV where
 check b k w:=by
  show (Instr.checkKey b (9999+1) kt (msV k)).run P w=_
  exact MapKept.run_checkKey h (show MapKept.IsKey .string (.string k) from trivial) b _
 find k es xs w hx:=by
  obtain ⟨r,hr,hf⟩:=QrS (val:=msV) (d:= .string) (fun a b=>by
   have:(a==b)=decide (a=b):=by
    by_cases e:a=b
    ·subst e;simp [(MapKept.bytes_beq a a).2 rfl]
    ·have:¬ (a==b)=true:=fun q=>e ((MapKept.bytes_beq a b).1 q)
     simp [e,this]
   simp [Instr.sameNow,msV,this]) k es xs 0 hx
  exact⟨r,MapKept.run_findKey h hr,hf⟩
 bits k:=by
  show Instr.sameBits (9999+1) _ _=_
  simp only [Instr.sameBits,msV]
  exact(MapKept.bytes_beq k k).2 rfl
theorem MKey.arr (h : P.underlying kt = some (.array 2 e)) (he : P.underlying e = some (.int .i64)) (hp : QdE P e = true) (hz : (P.info? e).map (·.size) = some 1) : MKey P kt maV where
  check b k w := by
    obtain ⟨n, hn⟩ : ∃ n, (10000 : Nat) = n + 2 := ⟨9998, rfl⟩
    rw [hn]
    unfold Instr.checkKey
    have c : ∀ x w, (Instr.checkKey b (n + 1) e (.int .i64 x)).run P w = .ok () w := fun x w => MapKept.run_checkKey he (show MapKept.IsKey (.int .i64) (.int .i64 x) from rfl) b n
    simp only [Sem.run_bind, run_underlying h, Result.andThen_ok]
    rw [Std.Legacy.Range.forIn_eq_forIn_range']
    simp only [Std.Legacy.Range.size, Nat.sub_zero, Nat.add_sub_cancel, Nat.div_one, List.range']
    simp only [List.forIn_cons, List.forIn_nil, Sem.run_bind, QbZ hz, Result.andThen_ok, Nat.mul_one, Nat.zero_add]
    rw [QeC hp (u := .int .i64 k.1) (by rfl)]
    simp only [Result.andThen_ok, c, Sem.run_pure, Sem.run_bind, QbZ hz, Nat.mul_one]
    rw [QeC hp (u := .int .i64 k.2) (by rfl)]
    simp only [Result.andThen_ok, c, Sem.run_pure, Sem.run_bind]
  find k es xs w hx := by
    have hq : ∀ a b : Int × Int, (Op.equal kt (maV a) (maV b)).run P w = .ok (decide (a = b)) w := fun a b => by
      have := QuN (P := P) (xs := #[.int .i64 a.1, .int .i64 a.2]) (ys := #[.int .i64 b.1, .int .i64 b.2]) h hp hz (.cons rfl rfl (EqC.int he) (.cons rfl rfl (EqC.int he) .nil)) w
      rw [this]
      congr 1
      obtain ⟨a1, a2⟩ := a; obtain ⟨b1, b2⟩ := b
      simp [andL, Bool.and_comm]
    cases es with
    | nil =>
      cases xs with
      | nil => exact ⟨none, MapKept.run_findKey h rfl, .inl ⟨rfl, rfl, fun _ => rfl⟩⟩
      | cons p xs => cases hx
    | cons e es =>
      obtain ⟨r, hr, hf⟩ := QqD hq k (e :: es) xs 0 hx
      refine ⟨r, ?_, hf⟩
      have : Instr.findNow (.array 2 ‹TypeId›) (maV k) (e :: es) 0 = none := by simp [Instr.findNow, Instr.sameNow]
      simp only [Instr.findKey, Sem.run_bind, run_underlying h, Result.andThen_ok, this]
      exact hr
  bits k := by
    obtain ⟨n, hn⟩ : ∃ n, (10000 : Nat) = n + 2 := ⟨9998, rfl⟩
    rw [hn]
    simp [Instr.sameBits, maV]
end
structure MRep {α:Type}(val:α→Value) (es:Array MapEntry) (ck:Nat) (ys:List (α×Int)):Prop where
 map:es.toList.map (fun e=>(e.key,e.val))=ys.map fun p=>(val p.1,Value.int .i64 p.2)
 ck:ck=es.size
 born:∀ (i:Nat) (e:MapEntry),es[i]?=some e→e.born=i
theorem MRep.push {α:Type}{val:α→Value}{es:Array MapEntry}{ck:Nat}{ys:List (α×Int)}(h:MRep val es ck ys) (k:α) (n:Int):
  MRep val (es.push {key:=val k,val:= .int .i64 n,born:=ck}) (ck+1) (ys++[(k,n)]):=by
 refine⟨by simp [h.map],by simp [h.ck],fun i e he=> ?_⟩
 rw [Array.getElem?_push] at he
 split at he
 ·rename_i hi;cases he;rw [hi];exact h.ck
 ·exact h.born i e he
theorem MRep.at {α:Type}{val:α→Value}{es:Array MapEntry}{ck:Nat}{ys:List (α×Int)}(h:MRep val es ck ys){i:Nat}(hi:i<ys.length):∃ e,es[i]?=some e∧e.key=val ys[i].1∧e.val= .int .i64 ys[i].2:=by
 have hl:es.toList.length=ys.length:=by simpa using congrArg List.length h.map
 have hl':es.size=ys.length:=by simpa using hl
 have hj:=congrArg (fun l=>l[i]?) h.map
 simp only [List.getElem?_map] at hj
 rw [Array.getElem?_toList] at hj
 have h1:es[i]?=some es[i]:=Array.getElem?_eq_getElem (by omega)
 rw [h1,List.getElem?_eq_getElem hi] at hj
 simp only [Option.map_some,Option.some.injEq,Prod.mk.injEq] at hj
 exact⟨_,h1,hj.1,hj.2⟩
theorem MRep.modify {α:Type}{val:α→Value}{es:Array MapEntry}{ck:Nat}{ys:List (α×Int)}{i:Nat}{k:α}{n:Int}{f:MapEntry→MapEntry}(h:MRep val es ck ys) (hi:i<ys.length)
  (hf:∀ e,es[i]?=some e→(f e).key=val k∧(f e).val= .int .i64 n∧(f e).born=e.born):MRep val (es.modify i f) ck (ys.set i (k,n)):=by
 have he:=h.map
 have hl:es.toList.length=ys.length:=by simpa using congrArg List.length he
 have hl':es.size=ys.length:=by simpa using hl
 refine⟨?_,by simp [h.ck],fun j e hj=> ?_⟩
 ·apply List.ext_getElem?
  intro j
  have hj:=congrArg (fun l=>l[j]?) he
  simp only [List.getElem?_map] at hj⊢
  rw [Array.getElem?_toList] at hj⊢
  by_cases e:i=j
  ·subst e
   have h1:es[i]?=some es[i]:=Array.getElem?_eq_getElem (by omega)
   have h2:=hf _ h1
   simp [Array.getElem?_modify,h1,hi,h2.1,h2.2.1]
  ·simp [Array.getElem?_modify,e,List.getElem?_set_ne e,hj]
 ·rw [Array.getElem?_modify] at hj
  split at hj
  ·rename_i e';subst e'
   obtain ⟨x,hx,rfl⟩:=Option.map_eq_some_iff.1 hj
   rw [(hf x hx).2.2];exact h.born _ _ hx
  ·exact h.born _ _ hj
def OwnMp {α:Type}[DecidableEq α] (val:α→Value) (M:IM) (v:Value) (xs:List (α×Int)) (c:QaV):Prop:=
 ∃ g es ck ys,v= .map (some g)∧c=[(g, .map es ck)]∧MRep val es ck ys∧∀ k,Qb6 ys k=Qb6 xs k
def MpE {α:Type}[DecidableEq α] (val:α→Value) (m:Value) (xs:List (α×Int)) (c:QaV) (k:α) (s:Int):Prop:=
 ∃ (g:Nat) (es:Array MapEntry) (ck:Nat) (ys:List (α×Int)) (i:Nat),m= .map (some g)∧c=[(g, .map es ck)]∧MRep val es ck ys∧(∀ q,Qb6 ys q=Qb6 xs q)∧∃ hi:i<ys.length,s=(i:Int)∧ys[i].1=k∧∀ v,QeK ys k v=ys.set i (k,v)
theorem OwnMp.mono {α:Type}[DecidableEq α]{val:α→Value}{M M':IM}{v:Value}{xs:List (α×Int)}{c:QaV}(h:OwnMp val M v xs c) (_:M.le M'):OwnMp val M' v xs c:=h
theorem OwnMp.any {α:Type}[DecidableEq α]{val:α→Value}{M:IM}{v:Value}{xs:List (α×Int)}{c:QaV}(h:OwnMp val M v xs c){M':IM}(_:True):OwnMp val M' v xs c:=h
section
variable {P : Program} {ρ : Nat → Value} {M : IM} {H : HL} {d : Option Nat} {ty : TypeId} {pos : String} {af : Array Edge} {g : Option (Nat × Bool)}
theorem EO.makeMap {α:Type}[DecidableEq α]{t:TypeId}(val:α→Value):
  EO P ⟨d, .makeMap t none,ty,pos,af,g⟩ ρ M H fun v M' H'=>M=M'∧∃ c,H'=c::H∧OwnMp val M' v [] c:=by
 intro w hs
 have h1:(Instr.makeMap t none).run P w= .ok (.map (some w.heap.size)) (w.alloc (.map #[] 0)):=rfl
 simp only [execOp,Option.map_none,Sem.run_bind,h1,Result.andThen_ok]
 exact⟨M,_, .refl M,hs.alloc _,rfl,_,rfl,w.heap.size,#[],0,[],rfl,rfl,⟨rfl,rfl,fun i e h=>by simp at h⟩,fun _=>rfl⟩
theorem PO.lookup {α:Type}[DecidableEq α]{val:α→Value}{t kt et:TypeId}{x y:Operand}{m:Value}{k:α}{xs:List (α×Int)}(i:Nat){c:QaV}(ht:P.underlying t=some (.map kt et)) (hK:MKey P kt val)
  (hz:(P.info? et).map (·.zero)=some (some (.int .i64 0))) (hx:ev ρ x=m) (hy:ev ρ y=val k) (hk:H[i]?=some c) (hm:OwnMp val M m xs c):
  PO P ⟨d, .lookup t x y false,ty,pos,af,g⟩ ρ M H (.int .i64 (Qb6 xs k)):=fun w hs=>by
 obtain ⟨b,es,ck,ys,rfl,rfl,he,hg⟩:=hm
 have hb:w.heap[b]?=some (.map es ck):=hs.mem i hk (p:=(b, .map es ck)) (by simp) rfl
 obtain ⟨r,hr,hf⟩:=hK.find k es.toList ys w he.map
 obtain ⟨ti,hi,hz⟩:=Option.map_eq_some_iff.1 hz
 have hzv:(zeroValue et).run P w= .ok (.int .i64 0) w:=by
  simp only [zeroValue,Sem.run_bind,run_typeInfo w hi,Result.andThen_ok,hz];rfl
 have h1:(Instr.lookup t (.map (some b)) (val k) false).run P w= .ok (.int .i64 (Qb6 ys k)) w:=by
  simp only [Instr.lookup,Sem.run_bind,run_underlying ht,Result.andThen_ok,MapKept.run_getObj_map hb,Sem.run_pure,hK.check,hr]
  rcases hf with⟨rfl,h2,_⟩ |⟨j,e,rfl,_⟩
  ·simp only [Sem.run_bind,hzv,Result.andThen_ok,Sem.run_pure,h2];rfl
  ·simp only [Sem.run_bind,Result.andThen_ok,Sem.run_pure];rfl
 simp only [execOp,hx,hy,Sem.run_bind,h1,Result.andThen_ok,←hg];rfl
theorem QxR {α:Type}[DecidableEq α]{xs ys:List (α×Int)}(h:∀ k,Qb6 ys k=Qb6 xs k) (k:α) (n:Int) (q:α):Qb6 (QeK ys k n) q=Qb6 (QeK xs k n) q:=by
 rw [QjU,QjU,h]
theorem EO.mapUpdate {α : Type} [DecidableEq α] {val : α → Value} {t kt et : TypeId} {x y z : Operand} {m : Value} {k : α} {n : Int} {xs : List (α × Int)} {c : QaV} (ht : P.underlying t = some (.map kt et)) (hK : MKey P kt val)
    (hx : ev ρ x = m) (hy : ev ρ y = val k) (hz : ev ρ z = .int .i64 n) (hm : OwnMp val M m xs c) :
    EO P ⟨d, .mapUpdate t x y z, ty, pos, af, g⟩ ρ M (c :: H) fun _ M' H' => M = M' ∧ ∃ c', H' = c' :: H ∧ OwnMp val M' m (QeK xs k n) c' := by
  intro w hs
  obtain ⟨b, es, ck, ys, rfl, rfl, he, hg⟩ := hm
  have hb : w.heap[b]? = some (.map es ck) := hs.own (b, .map es ck) (by simp) rfl
  obtain ⟨r, hr, hf⟩ := hK.find k es.toList ys w he.map
  have fin : ∀ (es' : Array MapEntry) (ck' : Nat), (Instr.mapUpdate t (.map (some b)) (val k) (.int .i64 n)).run P w = .ok () { w with heap := w.heap.setIfInBounds b (.map es' ck') } →
      MRep val es' ck' (QeK ys k n) →
      Res P (fun v w' => ∃ M' H', M.le M' ∧ Sat w' M' H' ∧ (M = M' ∧ ∃ c', H' = c' :: H ∧ OwnMp val M' (.map (some b)) (QeK xs k n) c')) ((execOp (ev ρ) ⟨d, .mapUpdate t x y z, ty, pos, af, g⟩).run P w) := fun es' ck' h1 h2 => by
    simp only [execOp, hx, hy, hz, Sem.run_bind, h1, Result.andThen_ok]
    obtain ⟨q1, q2⟩ := MapKept.heap_set (w := w) (o' := .map es' ck') hb
    exact ⟨M, _, .refl M, hs.write rfl rfl rfl q1 q2, rfl, _, rfl, b, es', ck', _, rfl, rfl, h2, QxR hg k n⟩
  rcases hf with ⟨rfl, _, h3⟩ | ⟨i, e, rfl, h2, h3, h4, h5⟩
  · refine fin (es.push { key := val k, val := .int .i64 n, born := ck }) (ck + 1) ?_ ?_
    · simp only [Instr.mapUpdate, Sem.run_bind, run_underlying ht, Result.andThen_ok, MapKept.run_getObj_map hb, hK.check, hr, MapKept.run_setObj_map _ hb]
    · rw [h3]; exact he.push k n
  · have hk : ((es[0 + i]?).map (·.key)).getD (val k) = val k := by
      rw [Nat.zero_add, ← Array.getElem?_toList, h2]; simpa using h3
    have hst : (Instr.keyThatStays (val k) (val k)).run P w = .ok (val k) w := by
      simp only [Instr.keyThatStays, hK.bits, if_true]; rfl
    refine fin (es.modify (0 + i) fun e => { e with key := val k, val := .int .i64 n }) ck ?_ ?_
    · simp only [Instr.mapUpdate, Sem.run_bind, run_underlying ht, Result.andThen_ok, MapKept.run_getObj_map hb, hK.check, hr, hk, hst, MapKept.run_setObj_map _ hb]
    · rw [h5, Nat.zero_add]; exact he.modify h4 fun _ _ => ⟨rfl, rfl, rfl⟩
theorem QsX {α:Type}[DecidableEq α]:∀ (ys:List (α×Int)) (k q:α),Qb6 ys k=0→(Qb6 (ys++[(k,0)]) q=Qb6 ys q)
 |[],k,q,_=>by by_cases h:k=q<;>simp [Qb6]
 |p::ys,k,q,h=>by
  by_cases e:p.1=q
  ·simp [Qb6,e]
  ·by_cases e2:p.1=k
   ·by_cases e3:k=q
    ·exact absurd (e2.trans e3) e
    ·simp only [List.cons_append,Qb6,if_neg e]
     have:∀ l:List (α×Int),Qb6 (l++[(k,0)]) q=Qb6 l q:=fun l=>by
      induction l with
      |nil=>simp [Qb6]
      |cons a l ih=>simp only [List.cons_append,Qb6,ih]
     exact this ys
   ·have h':Qb6 ys k=0:=by simpa [Qb6,e2] using h
    simp only [List.cons_append,Qb6,if_neg e]
    exact QsX ys k q h'
theorem QsY {α:Type}[DecidableEq α]:∀ (ys:List (α×Int)) (k:α) (v0 v:Int),(∀ v,QeK ys k v=ys++[(k,v)])→QeK (ys++[(k,v0)]) k v=(ys++[(k,v0)]).set ys.length (k,v)
 |[],k,v0,v,_=>by simp [QeK]
 |p::ys,k,v0,v,h=>by
  have hp:¬ p.1=k:=fun e=>by
   have h1:=congrArg List.length (h 0)
   simp [QeK,e] at h1
  have h':∀ v,QeK ys k v=ys++[(k,v)]:=fun v=>by
   have:=h v
   simp only [QeK,if_neg hp,List.cons_append,List.cons.injEq,true_and] at this
   exact this
  simp only [List.cons_append,QeK,if_neg hp,List.length_cons,List.set_cons_succ,List.cons.injEq,true_and]
  exact QsY ys k v0 v h'
theorem EO.mapEntry {α : Type} [DecidableEq α] {val : α → Value} {t kt et : TypeId} {x y : Operand} {m : Value} {k : α} {xs : List (α × Int)} {c : QaV} (ht : P.underlying t = some (.map kt et)) (hK : MKey P kt val)
    (hz : (P.info? et).map (·.zero) = some (some (.int .i64 0))) (hx : ev ρ x = m) (hy : ev ρ y = val k) (hm : OwnMp val M m xs c) :
    EO P ⟨d, .mapEntry t x y, ty, pos, af, g⟩ ρ M (c :: H) fun v M' H' => M = M' ∧ ∃ s c', v = .tuple #[.int .i64 (Qb6 xs k), .int .i64 s] ∧ H' = c' :: H ∧ OwnMp val M' m xs c' ∧ MpE val m xs c' k s := by
  intro w hs
  obtain ⟨b, es, ck, ys, rfl, rfl, he, hg⟩ := hm
  have hb : w.heap[b]? = some (.map es ck) := hs.own (b, .map es ck) (by simp) rfl
  obtain ⟨r, hr, hf⟩ := hK.find k es.toList ys w he.map
  obtain ⟨ti, hi, hz⟩ := Option.map_eq_some_iff.1 hz
  have hzv : (zeroValue et).run P w = .ok (.int .i64 0) w := by
    simp only [zeroValue, Sem.run_bind, run_typeInfo w hi, Result.andThen_ok, hz]; rfl
  have fin : ∀ (es' : Array MapEntry) (ck' : Nat) (ys' : List (α × Int)) (i : Nat), (Instr.mapEntry t (.map (some b)) (val k)).run P w = .ok (.tuple #[.int .i64 (Qb6 ys k), .int .i64 (i : Int)]) { w with heap := w.heap.setIfInBounds b (.map es' ck') } →
      MRep val es' ck' ys' → (∀ k, Qb6 ys' k = Qb6 xs k) → (hi : i < ys'.length) → ys'[i].1 = k → (∀ v, QeK ys' k v = ys'.set i (k, v)) →
      Res P (fun v w' => ∃ M' H', M.le M' ∧ Sat w' M' H' ∧ (M = M' ∧ ∃ s c', v = .tuple #[.int .i64 (Qb6 xs k), .int .i64 s] ∧ H' = c' :: H ∧ OwnMp val M' (.map (some b)) xs c' ∧ MpE val (.map (some b)) xs c' k s)) ((execOp (ev ρ) ⟨d, .mapEntry t x y, ty, pos, af, g⟩).run P w) := fun es' ck' ys' i h1 h2 h3 h4 h5 h6 => by
    simp only [execOp, hx, hy, Sem.run_bind, h1, Result.andThen_ok, hg]
    obtain ⟨q1, q2⟩ := MapKept.heap_set (w := w) (o' := .map es' ck') hb
    exact ⟨M, _, .refl M, hs.write rfl rfl rfl q1 q2, rfl, _, _, rfl, rfl, ⟨b, es', ck', ys', rfl, rfl, h2, h3⟩, ⟨b, es', ck', ys', i, rfl, rfl, h2, h3, h4, rfl, h5, h6⟩⟩
  rcases hf with ⟨rfl, h2, h3⟩ | ⟨i, e, rfl, h2, h3, h4, h5⟩
  · have hl : es.toList.length = ys.length := by simpa using congrArg List.length he.map
    have hl' : es.size = ys.length := by simpa using hl
    refine fin (es.push { key := val k, val := .int .i64 0, born := ck }) (ck + 1) (ys ++ [(k, 0)]) ys.length ?_ (he.push k 0) (fun q => (QsX ys k q h2).trans (hg q)) (by simp) (by simp) (fun v => QsY ys k 0 v h3)
    simp only [Instr.mapEntry, Sem.run_bind, run_underlying ht, Result.andThen_ok, MapKept.run_getObj_map hb, hK.check, hr, hzv, MapKept.run_setObj_map _ hb]
    rw [h2, he.ck, hl']; rfl
  · have hk : ((es[0 + i]?).map (·.key)).getD (val k) = val k := by
      rw [Nat.zero_add, ← Array.getElem?_toList, h2]; simpa using h3
    have hst : (Instr.keyThatStays (val k) (val k)).run P w = .ok (val k) w := by
      simp only [Instr.keyThatStays, hK.bits, if_true]; rfl
    have h2' : es[i]? = some e := by rw [← Array.getElem?_toList]; exact h2
    have hbn : ((es[0 + i]?).map (fun x => (x.born : Int))).getD 0 = (i : Int) := by rw [Nat.zero_add, h2']; exact congrArg Nat.cast (he.born i e h2')
    obtain ⟨e2, he2, hk2, hv2⟩ := he.at h4
    have hve : e.val = .int .i64 ys[i].2 := by rw [h2'] at he2; cases he2; exact hv2
    have hval := h5 ys[i].2
    have hyk : ∀ l : List (α × Int), ∀ j, (∀ v, QeK l k v = l.set j (k, v)) → (hj : j < l.length) → l[j].1 = k := by
      intro l
      induction l with
      | nil => intro j _ hj; simp at hj
      | cons p l ih =>
        intro j hh hj
        cases j with
        | zero =>
          by_cases hp : p.1 = k
          · exact hp
          · have := hh 0; simp only [QeK, if_neg hp, List.set_cons_zero, List.cons.injEq] at this
            exact absurd (congrArg Prod.fst this.1) hp
        | succ j =>
          by_cases hp : p.1 = k
          · exfalso
            have a := hh (p.2 + 1); simp only [QeK, if_pos hp, List.set_cons_succ, List.cons.injEq] at a
            have := congrArg Prod.snd a.1; simp at this; omega
          · have := ih j (fun v => by have a := hh v; simp only [QeK, if_neg hp, List.set_cons_succ, List.cons.injEq, true_and] at a; exact a) (by simpa using hj)
            simpa using this
    refine fin (es.modify (0 + i) fun e => { e with key := val k }) ck ys i ?_ ?_ hg h4 (hyk ys i h5 h4) h5
    · simp only [Instr.mapEntry, Sem.run_bind, run_underlying ht, Result.andThen_ok, MapKept.run_getObj_map hb, hK.check, hr, hk, hst, hbn, MapKept.run_setObj_map _ hb]; rfl
    · have hs2 : ys.set i (k, ys[i].2) = ys := by
        have : (k, ys[i].2) = ys[i] := by rw [← hyk ys i h5 h4]
        rw [this, List.set_getElem_self]
      have := he.modify (i := i) (k := k) (n := ys[i].2) (f := fun e => { e with key := val k }) h4 (fun e' h' => ⟨rfl, by rw [h2'] at h'; cases h'; exact hve, rfl⟩)
      rw [hs2] at this
      rw [Nat.zero_add]; exact this
theorem EO.entryStore {α : Type} [DecidableEq α] {val : α → Value} {t : TypeId} {x y z : Operand} {m : Value} {k : α} {n s : Int} {xs : List (α × Int)} {c : QaV}
    (hx : ev ρ x = m) (hy : ev ρ y = .int .i64 s) (hz : ev ρ z = .int .i64 n) (hE : MpE val m xs c k s) :
    EO P ⟨d, .entryStore t x y z, ty, pos, af, g⟩ ρ M (c :: H) fun _ M' H' => M = M' ∧ ∃ c', H' = c' :: H ∧ OwnMp val M' m (QeK xs k n) c' := by
  intro w hs
  obtain ⟨b, es, ck, ys, i, rfl, rfl, he, hg, hi, rfl, hk, hp⟩ := hE
  have hb : w.heap[b]? = some (.map es ck) := hs.own (b, .map es ck) (by simp) rfl
  have hf : es.findIdx? (fun e => (e.born : Int) == (i : Int)) = some i := by
    obtain ⟨e, h1, _⟩ := he.at hi
    have hlt : i < es.size := (Array.getElem?_eq_some_iff.1 h1).1
    rw [Array.findIdx?_eq_some_iff_getElem]
    refine ⟨hlt, ?_, fun j hj => ?_⟩
    · have := he.born i _ (Array.getElem?_eq_getElem hlt)
      simp [this]
    · have := he.born j _ (Array.getElem?_eq_getElem (by omega : j < es.size))
      simp [this]; omega
  have h1 : (Instr.entryStore t (.map (some b)) (.int .i64 (i : Int)) (.int .i64 n)).run P w = .ok () { w with heap := w.heap.setIfInBounds b (.map (es.modify i fun e => { e with val := .int .i64 n }) ck) } := by
    simp only [Instr.entryStore, pure_bind, Sem.run_bind, Result.andThen_ok, MapKept.run_getObj_map hb, asInt, asIntOf, Sem.run_pure]
    simp only [hf, MapKept.run_setObj_map _ hb]
  simp only [execOp, hx, hy, hz, Sem.run_bind, h1, Result.andThen_ok]
  obtain ⟨q1, q2⟩ := MapKept.heap_set (w := w) (o' := .map (es.modify i fun e => { e with val := .int .i64 n }) ck) hb
  exact ⟨M, _, .refl M, hs.write rfl rfl rfl q1 q2, rfl, _, rfl, b, _, ck, ys.set i (k, n), rfl, rfl, he.modify hi (fun e h => ⟨by
    obtain ⟨e2, h2, h3, _⟩ := he.at hi
    rw [h2] at h; cases h; rw [← hk]; exact h3, rfl, rfl⟩), fun q => by rw [← hp, QjU, QjU, hg]⟩
end
end Go.KK
