
import Derived.Test.YtpcbipcdfccnnaaGreatDoorP0
import Derived.Test.YtpcbipcdfccnnaaGreatDoorP1
import Derived.Test.YtpcbipcdfccnnaaGreatDoorP2
import Derived.Test.YtpcbipcdfccnnaaGreatDoorP3
import Derived.Test.YtpcbipcdfccnnaaGreatDoorP4
import Derived.Test.YtpcbipcdfccnnaaGreatDoorP5
import Derived.Test.YtpcbipcdfccnnaaGreatDoorP6
import Derived.Test.YtpcbipcdfccnnaaGreatDoorP7
import Derived.Test.YtpcbipcdfccnnaaGreatDoorP8
import Derived.Test.YtpcbipcdfccnnaaGreatDoorP9
import Derived.Test.YtpcbipcdfccnnaaGreatDoorP10
import Derived.Test.YtpcbipcdfccnnaaGreatDoorKArith
import Derived.KernelRfl
import Derived.OpenShut
import Derived.Test.YtpcbipcdfccnnaaGreatDoorKConv
import Derived.Test.YtpcbipcdfccnnaaGreatDoorKMap
import Derived.Lib.ConvBytes
import Derived.Laws.BytesArg
set_option linter.unusedSimpArgs false
set_option linter.unusedVariables false
set_option maxHeartbeats 8000000
namespace Go.Proofs.YtpcbipcdfccnnaaGreatDoor.G
open Go Go.KK
def QyE:GErr→Option Int
 | .nil=>none
 | .code n=>some n
 | .fault _ _ e=>QyE e
 | .other _=>none
def OfE (e:GErr):Int:=match e with | .nil=>0 |e=>(QyE e).getD 21
def Q2E:GErr→Int×Bool
 | .fault _ a _=>(a,true)
 |_=>(0,false)
@[simp] theorem JaE:OfE .nil=0:=rfl
@[simp] theorem Q80 (n:Int):OfE (.code n)=n:=rfl
@[simp] theorem Q2F (o:ByteArray) (a n:Int):OfE (.fault o a (.code n))=n:=rfl
theorem QlQ (old:Int):∀ (e:GErr),e.isNil=false→iter (QdI old) e=some (match QyE e with |some n=>(true,n) |none=>(false,old))
 | .nil,h=>by cases h
 | .code n,_=>Qa3 rfl
 | .other a,_=>Qa3 rfl
 | .fault o a e,_=>by
  cases e with
  |nil=>exact Qa3 rfl
  |code n=>rw [Qa5 (show QdI old (.fault o a (.code n))=some (.inl (.code n)) from rfl)];exact Qa3 rfl
  |other b=>rw [Qa5 (show QdI old (.fault o a (.other b))=some (.inl (.other b)) from rfl)];exact Qa3 rfl
  |fault p b e=>rw [Qa5 (show QdI old (.fault o a (.fault p b e))=some (.inl (.fault p b e)) from rfl),QlQ old (.fault p b e) rfl];rfl
theorem Q73 (e:GErr):QjX e=some (OfE e):=by
 cases e with
 |nil=>rfl
 |code n=>unfold QjX QeO QeN;rw [QlQ _ _ rfl];rfl
 |other a=>unfold QjX QeO QeN;rw [QlQ _ _ rfl];rfl
 |fault o a e=>
  unfold QjX QeO QeN
  rw [QlQ _ _ rfl]
  simp only [GErr.isNil,OfE]
  cases QyE (.fault o a e)<;>rfl
theorem QmN (old:QbR) (e:GErr):QcZ e old=some (match e with | .fault o a e=>(true,o,a,e) |_=>(false,old.Op,old.At,old.Err)):=by
 cases e with
 |nil=>rfl
 |code n=>unfold QcZ QeB;rw [Qa3 (show QdU old (.code n)=some (.inr _) from rfl)];rfl
 |other a=>unfold QcZ QeB;rw [Qa3 (show QdU old (.other a)=some (.inr _) from rfl)];rfl
 |fault o a e=>unfold QcZ QeB;rw [Qa3 (show QdU old (.fault o a e)=some (.inr _) from rfl)];rfl
theorem Q0F (e:GErr):QjI e=some (Q2E e):=by
 unfold QjI
 rw [QmN]
 cases e<;>rfl
theorem QyF (o:ByteArray) (a c:Int):QdD o a c=some (.fault o a (.code c)):=rfl
def IsE:GErr→Int→Bool
 | .code n,c=>decide (n=c)
 | .fault _ _ e,c=>IsE e c
 |_,_=>false
theorem QxC (c:Int):∀ (e:GErr),iter (Qe6 c) e=some (IsE e c)
 | .nil=>Qa3 rfl
 | .other _=>Qa3 rfl
 | .code n=>by
  refine Qa3 ?_
  unfold Qe6 IsE
  simp only
  by_cases h:n=c
  ·rw [if_pos (decide_eq_true h),decide_eq_true h]
  ·rw [if_neg (fun q=>h (of_decide_eq_true q)),decide_eq_false h]
 | .fault o a e=>by
  cases e with
  |nil=>exact Qa3 rfl
  |other b=>rw [Qa5 (show Qe6 c (.fault o a (.other b))=some (.inl (.other b)) from rfl),QxC c (.other b)];rfl
  |code n=>rw [Qa5 (show Qe6 c (.fault o a (.code n))=some (.inl (.code n)) from rfl),QxC c (.code n)];rfl
  |fault p b e=>rw [Qa5 (show Qe6 c (.fault o a (.fault p b e))=some (.inl (.fault p b e)) from rfl),QxC c (.fault p b e)];rfl
theorem Q74 (e:GErr) (c:Int):QiV e c=some (IsE e c):=by
 unfold QiV QmI QmH
 rw [QxC]
 cases e<;>rfl
def Ql8:GErr→List ByteArray
 | .fault o _ e=>o::Ql8 e
 |_=>[]
theorem QyG:∀ (e:GErr) (l:List ByteArray),l.length+(Ql8 e).length≤274877906944→iter QdL (e,l)=some (l++Ql8 e)
 | .nil,l,_=>(Qa3 (by unfold QdL;rfl)).trans (by simp [Ql8])
 | .code n,l,_=>(Qa3 (e:=l) (by
   unfold QdL
   simp only [GErr.isNil,Bool.not_false,if_true,QmN,Option.bind_some])).trans (by simp [Ql8])
 | .other n,l,_=>(Qa3 (e:=l) (by
   unfold QdL
   simp only [GErr.isNil,Bool.not_false,if_true,QmN,Option.bind_some])).trans (by simp [Ql8])
 | .fault o a e,l,h=>by
  have hstep:QdL (.fault o a e,l)=some (.inl (e,l++[o])):=by
   unfold QdL
   simp only [GErr.isNil,Bool.not_false,if_true,QmN,Option.bind_some,Bool.not_true,Bool.false_eq_true,if_false]
   rw [QaT (by simp [Ql8] at h⊢;omega)]
  rw [Qa5 hstep,QyG e (l++[o]) (by simp [Ql8] at h⊢;omega)]
  simp [Ql8]
theorem Q6M (e:GErr) (h:(Ql8 e).length≤274877906944):QkM e=some (Ql8 e):=by
 unfold QkM
 rw [QyG e [] (by simpa using h)]
 simp
open Classical in
theorem QwA (op:ByteArray) (l:List ByteArray) (hl:l.length≤274877906944):∀ (d i:Nat),i+d=l.length→iter (QdR op l) (i:Int)=some (if op∈l.drop i then .inr ()else .inl ())
 |0,i,h=>by
  refine Qa3 ?_
  unfold QdR
  simp only
  rw [if_neg (fun q=>absurd (of_decide_eq_true q) (by omega)),List.drop_of_length_le (by omega),if_neg (by simp)]
 |d+1,i,h=>by
  have hlt:i<l.length:=by omega
  have e1:rd l (i:Int)=l[i]:=QbA hlt
  by_cases g:l[i]=op
  ·refine Qa3 ?_
   unfold QdR
   simp only
   rw [if_pos (decide_eq_true (by omega)),QaT ⟨by omega,by omega⟩,e1,if_pos (decide_eq_true g),List.drop_eq_getElem_cons hlt,if_pos (by simp [g])]
  ·have hstep:QdR op l (i:Int)=some (.inl ((i+1:Nat):Int)):=by
    unfold QdR
    simp only
    rw [if_pos (decide_eq_true (by omega)),QaT ⟨by omega,by omega⟩,e1,if_neg (fun q=>g (of_decide_eq_true q)),QeK (by omega) (by omega)]
    rfl
   rw [Qa5 hstep,QwA op l hl d (i+1) (by omega),List.drop_eq_getElem_cons hlt]
   have:(op∈l[i]::l.drop (i+1))↔op∈l.drop (i+1):=by
    simp only [List.mem_cons]
    exact⟨fun q=>q.elim (fun q=>absurd q.symm g) id, .inr⟩
   simp only [this]
open Classical in
theorem Q0G (e:GErr) (op:ByteArray) (h:(Ql8 e).length≤274877906944):QjJ e op=some (decide (op∈Ql8 e)):=by
 unfold QjJ
 rw [Q6M e h]
 simp only [Option.bind_some]
 have:=QwA op (Ql8 e) h (Ql8 e).length 0 (by omega)
 rw [show ((0:Nat):Int)=0 from rfl] at this
 rw [this,List.drop_zero]
 by_cases g:op∈Ql8 e
 ·rw [if_pos g,decide_eq_true g];rfl
 ·rw [if_neg g,decide_eq_false g];rfl
theorem rdn {α:Type}[Inhabited α]{xs:List α}{i:Nat}(h:i<xs.length):rd xs (i:Int)=xs[i]:=QbA h
def okB (l:List Int):Prop:=∀ x∈l,0≤x∧x≤255
theorem okB.nil:okB []:=fun _ h=>by cases h
theorem okB.append {a b:List Int}(h:okB a) (k:okB b):okB (a++b):=fun x hx=>(List.mem_append.1 hx).elim (h x) (k x)
theorem okB.at {l:List Int}(h:okB l){i:Nat}(hi:i<l.length):0≤rd l (i:Int)∧rd l (i:Int)≤255:=by
 rw [rdn hi];exact h _ (List.getElem_mem hi)
theorem okB.drop {l:List Int}(h:okB l) (n:Nat):okB (l.drop n):=fun x hx=>h x (List.mem_of_mem_drop hx)
theorem okB.take {l:List Int}(h:okB l) (n:Nat):okB (l.take n):=fun x hx=>h x (List.mem_of_mem_take hx)
theorem Q6N (b:List Int) (i:Nat):sub b (i:Int) (b.length:Int)=b.drop i:=by
 unfold sub
 rw [show ((i:Int)).toNat=i by omega,show ((b.length:Int)).toNat=b.length by omega]
 exact List.take_of_length_le (by simp)
theorem Q6O {α:Type}(b:List α) (i j:Nat):sub b (i:Int) (j:Int)=(b.drop i).take (j - i):=by
 unfold sub
 rw [show ((i:Int)).toNat=i by omega,show ((j:Int)).toNat=j by omega]
theorem Q2G (b:List Int) (i j:Nat):rd (b.drop i) (j:Int)=rd b ((i+j:Nat):Int):=by
 unfold rd
 rw [show ((j:Int)).toNat=j by omega,show (((i+j:Nat):Int)).toNat=i+j by omega]
 simp [List.getD_eq_getElem?_getD]
theorem QzM {a b:Int}(h:0<b):a.fdiv b=a/b:=Int.fdiv_eq_ediv_of_nonneg _ (Int.le_of_lt h)
theorem shr8 (n:Int) (k:Nat) (hk:k+8≤64):shrI .u64 n ((k+8:Nat):Int)=shrI .u64 n (k:Int)/256:=by
 unfold shrI
 rw [show min (((k+8:Nat):Int)).toNat IntKind.u64.bits=k+8 by show min _ 64=_;omega,show min ((k:Int)).toNat IntKind.u64.bits=k by show min _ 64=_;omega]
 rw [QzM (Int.pow_pos (by decide)),QzM (Int.pow_pos (by decide)),Int.pow_add]
 exact(Int.ediv_ediv_of_nonneg (Int.pow_nonneg (by decide))).symm
theorem shr0 (n:Int):shrI .u64 n (0:Int)=n:=by
 unfold shrI
 show n.fdiv (2^0)=n
 rw [QzM (by decide)]
 omega
theorem s8 (n:Int):shrI .u64 n 8=n/256:=by have:=shr8 n 0 (by decide);rw [show ((0:Nat):Int)=0 from rfl,shr0] at this;exact this
theorem s16 (n:Int):shrI .u64 n 16=n/256/256:=by have:=shr8 n 8 (by decide);rw [show ((8:Nat):Int)=8 from rfl,s8] at this;exact this
theorem s24 (n:Int):shrI .u64 n 24=n/256/256/256:=by have:=shr8 n 16 (by decide);rw [show ((16:Nat):Int)=16 from rfl,s16] at this;exact this
theorem s32 (n:Int):shrI .u64 n 32=n/256/256/256/256:=by have:=shr8 n 24 (by decide);rw [show ((24:Nat):Int)=24 from rfl,s24] at this;exact this
theorem s40 (n:Int):shrI .u64 n 40=n/256/256/256/256/256:=by have:=shr8 n 32 (by decide);rw [show ((32:Nat):Int)=32 from rfl,s32] at this;exact this
theorem s48 (n:Int):shrI .u64 n 48=n/256/256/256/256/256/256:=by have:=shr8 n 40 (by decide);rw [show ((40:Nat):Int)=40 from rfl,s40] at this;exact this
theorem s56 (n:Int):shrI .u64 n 56=n/256/256/256/256/256/256/256:=by have:=shr8 n 48 (by decide);rw [show ((48:Nat):Int)=48 from rfl,s48] at this;exact this
theorem Q75:∀ x:Fin 64,orI .u8 64 (x.val:Int)=64+x.val∧orI .u8 128 (x.val:Int)=128+x.val∧orI .u8 192 (x.val:Int)=192+x.val:=by decide+kernel
theorem or64 {x:Int}(h0:0≤x) (h1:x<64):orI .u8 64 x=64+x∧orI .u8 128 x=128+x∧orI .u8 192 x=192+x:=by
 have:=Q75 ⟨x.toNat,by omega⟩
 simp only [show ((x.toNat:Nat):Int)=x by omega] at this
 exact this
theorem Q4F:∀ x:Fin 256,andI .u8 (x.val:Int) 63=(x.val:Int) % 64∧shrI .u8 (x.val:Int) 6=(x.val:Int)/64:=by decide+kernel
theorem QzN {x:Int}(h0:0≤x) (h1:x≤255):andI .u8 x 63=x % 64∧shrI .u8 x 6=x/64:=by
 have:=Q4F ⟨x.toNat,by omega⟩
 simp only [show ((x.toNat:Nat):Int)=x by omega] at this
 exact this
theorem QxD:shlI .i64 1 0=1∧shlI .i64 1 1=2∧shlI .i64 1 2=4∧shlI .i64 1 3=8:=by decide+kernel
theorem JaF {n b:Int}(h0:0≤n) (h1:n<72057594037927936) (b0:0≤b) (b1:b≤255):orI .u64 (shlI .u64 n 8) (IntKind.u64.wrap b)=n*256+b:=by
 rw [Qw0 b0 (by omega)]
 have e1:shlI .u64 n 8=n*256:=by
  unfold shlI
  show IntKind.u64.wrap (n*2^8)=_
  rw [Qw0 (by omega) (by omega)];omega
 rw [e1]
 obtain ⟨N,rfl⟩:=Int.eq_ofNat_of_zero_le h0
 obtain ⟨B,rfl⟩:=Int.eq_ofNat_of_zero_le b0
 unfold orI
 show IntKind.u64.wrap (((BitVec.ofInt 64 ((N:Int)*256)) |||(BitVec.ofInt 64 (B:Int))).toNat:Int)=_
 have e2:(BitVec.ofInt 64 ((N:Int)*256)).toNat=N*256:=by
  rw [show ((N:Int)*256)=((N*256:Nat):Int) by omega,BitVec.ofInt_natCast,BitVec.toNat_ofNat]
  exact Nat.mod_eq_of_lt (by omega)
 have e3:(BitVec.ofInt 64 (B:Int)).toNat=B:=by
  rw [BitVec.ofInt_natCast,BitVec.toNat_ofNat]
  exact Nat.mod_eq_of_lt (by omega)
 rw [BitVec.toNat_or,e2,e3]
 have e4:N*256 |||B=N*256+B:=by
  have:=Nat.shiftLeft_add_eq_or_of_lt (a:=N) (b:=B) (i:=8) (by omega)
  rw [Nat.shiftLeft_eq] at this
  exact this.symm
 rw [e4,Qw0 (by omega) (by omega)]
 omega
def top:Int:=4611686018427387903
def QvD (n:Int):Int:=if top<n then top else n
def numC (k:Int):List Int:=
 if k<64 then[k]
 else if k<16384 then[64+k/256,k % 256]
 else if k<1073741824 then[128+k/256/256/256,k/256/256 % 256,k/256 % 256,k % 256]
 else[192+k/256/256/256/256/256/256/256,k/256/256/256/256/256/256 % 256,k/256/256/256/256/256 % 256,k/256/256/256/256 % 256,k/256/256/256 % 256,k/256/256 % 256,k/256 % 256,k % 256]
def numB (n:Int):List Int:=numC (QvD n)
theorem Qt7 {n:Int}(h:0≤n):0≤QvD n∧QvD n≤top:=by
 unfold QvD top
 split<;>constructor<;>(try unfold top at*)<;>omega
theorem Q4G (k:Int):(numC k).length≤8∧1≤(numC k).length:=by
 unfold numC
 split
 ·simp
 split
 ·simp
 split<;>simp
theorem Q4H (n:Int):(numB n).length≤8∧1≤(numB n).length:=Q4G _
theorem Q6P {k:Int}(h0:0≤k) (h1:k≤top):okB (numC k):=by
 unfold top at h1
 unfold numC okB
 intro x hx
 split at hx
 ·simp at hx;omega
 split at hx
 ·simp at hx;omega
 split at hx
 ·simp at hx;omega
 ·simp at hx
  have q:0≤k/256/256/256/256/256/256/256∧k/256/256/256/256/256/256/256<64:=by omega
  rcases hx with h |h |h |h |h |h |h |h
  ·omega
  all_goals
   subst h
   omega
theorem Q6Q {n:Int}(h0:0≤n):okB (numB n):=Q6P (Qt7 h0).1 (Qt7 h0).2
theorem Q6R (b:List Int) (n:Int) (h0:0≤n) (hb:b.length≤274877900000):Ql4 b n=some (b++numB n):=by
 have hc:=Qt7 h0
 unfold Ql4 numB
 rw [show (if(4611686018427387903:Int)<n then(4611686018427387903:Int)else n)=QvD n from rfl]
 generalize QvD n=k at hc
 unfold top at hc
 unfold numC
 by_cases h1:k<64
 ·rw [if_pos (decide_eq_true h1),if_pos h1,QaT (by simp;omega),w_u8 (by omega) (by omega)]
 rw [if_neg (fun q=>h1 (of_decide_eq_true q)),if_neg h1]
 have m0:IntKind.u8.wrap k=k % 256:=QqG k
 by_cases h2:k<16384
 ·have e1:IntKind.u8.wrap (shrI .u64 k 8)=k/256:=by rw [s8,w_u8 (by omega) (by omega)]
  rw [if_pos (decide_eq_true h2),if_pos h2,QaT (by simp;omega),e1,m0,(or64 (x:=k/256) (by omega) (by omega)).1]
 rw [if_neg (fun q=>h2 (of_decide_eq_true q)),if_neg h2]
 by_cases h3:k<1073741824
 ·have e1:IntKind.u8.wrap (shrI .u64 k 24)=k/256/256/256:=by rw [s24,w_u8 (by omega) (by omega)]
  rw [if_pos (decide_eq_true h3),if_pos h3,QaT (by simp;omega),e1,m0,s16,s8,QqG,QqG,(or64 (x:=k/256/256/256) (by omega) (by omega)).2.1]
 ·have e1:IntKind.u8.wrap (shrI .u64 k 56)=k/256/256/256/256/256/256/256:=by rw [s56,w_u8 (by omega) (by omega)]
  rw [if_neg (fun q=>h3 (of_decide_eq_true q)),if_neg h3,QaT (by simp;omega),e1,m0,s48,s40,s32,s24,s16,s8,QqG,QqG,QqG,QqG,QqG,QqG,
   (or64 (x:=k/256/256/256/256/256/256/256) (by omega) (by omega)).2.2]
def intB (n:Int):List Int:=numB (if n<0 then 0 else n)
theorem QjP (n:Int):(intB n).length≤8∧1≤(intB n).length:=Q4H _
theorem QgW (n:Int):okB (intB n):=Q6Q (by split<;>omega)
theorem QgX (b:List Int) (n:Int) (hn:n≤9223372036854775807) (hb:b.length≤274877900000):QcG b n=some (b++intB n):=by
 unfold QcG intB
 have h:0≤(if n<0 then(0:Int)else n)∧(if n<0 then(0:Int)else n)≤9223372036854775807:=by split<;>omega
 rw [Qw0 h.1 (by omega),Q6R b _ h.1 hb]
 rfl
def Qo6 (is:Bool):List Int:=if is=true then[1]else[0]
theorem Q0H (b:List Int) (is:Bool) (hb:b.length≤274877900000):QjW b is=some (b++Qo6 is):=by
 unfold QjW Qo6
 cases is
 ·rw [if_neg (by decide),QaT (by simp only [List.length_singleton];omega)];rfl
 ·rw [if_pos rfl,QaT (by simp only [List.length_singleton];omega)];rfl
def QlK (s:List Int):List Int:=intB (s.length:Int)++s
theorem Qt8 (b s:List Int) (hb:b.length+s.length≤274877800000):QhK b s=some (b++QlK s):=by
 unfold QhK QlK
 rw [QgX b _ (by omega) (by omega)]
 simp only [Option.bind_some]
 have:=QjP (s.length:Int)
 rw [QaT (by simp;omega),List.append_assoc]
def QkX (l:List Int):List Int:=(l.map intB).flatten
theorem Qk8 (x:Int) (l:List Int):QkX (x::l)=intB x++QkX l:=rfl
def rowB (l:List Int):List Int:=intB (l.length:Int)++QkX l
theorem QyH:∀ (l:List Int),(QkX l).length≤8*l.length
 |[]=>by simp [QkX]
 |x::l=>by
  have h1:=QyH l
  have h2:=(QjP x).1
  simp only [QkX,List.map_cons,List.flatten_cons,List.length_append,List.length_cons] at*
  omega
theorem QyI (l:List Int) (hl:∀ x∈l,x≤9223372036854775807) (hn:l.length≤1000000):∀ (d i:Nat) (b:List Int),i+d=l.length→b.length+8*d≤274877900000→
  iter (QhZ l) (b,(i:Int))=some (b++QkX (l.drop i))
 |0,i,b,hi,hb=>by
  rw [List.drop_of_length_le (by omega)]
  refine Qa3 ?_
  unfold QhZ
  simp only
  rw [if_neg (fun q=>absurd (of_decide_eq_true q) (by omega))]
  simp [QkX]
 |d+1,i,b,hi,hb=>by
  have hlt:i<l.length:=by omega
  have hstep:QhZ l (b,(i:Int))=some (.inl (b++intB l[i],((i+1:Nat):Int))):=by
   unfold QhZ
   simp only
   rw [if_pos (decide_eq_true (by omega)),QaT ⟨by omega,by omega⟩,rdn hlt,QgX _ _ (hl _ (List.getElem_mem hlt)) (by omega),QeK (by omega) (by omega)]
   rfl
  rw [Qa5 hstep,QyI l hl hn d (i+1) _ (by omega) (by have:=(QjP l[i]).1;simp;omega),List.drop_eq_getElem_cons hlt,Qk8,List.append_assoc]
theorem QxE (b l:List Int) (hl:∀ x∈l,x≤9223372036854775807) (hn:l.length≤1000000) (hb:b.length≤274800000000):QiT b l=some (b++rowB l):=by
 unfold QiT rowB
 rw [QgX b _ (by omega) (by omega)]
 simp only [Option.bind_some]
 have h:=QyI l hl hn l.length 0 (b++intB (l.length:Int)) (by omega) (by have:=(QjP (l.length:Int)).1;simp;omega)
 rw [show ((0:Nat):Int)=0 from rfl] at h
 rw [h]
 simp
theorem QiR (x:Int) (l:List Int) (i:Nat) (h0:0≤x) (h1:x≤top) (hi:i<l.length) (hl:l.length≤8):QgR (x,l,(i:Int))=some (.inl (x/256,l.set i (x % 256),(i:Int)- 1)):=by
 unfold top at h1
 unfold QgR
 simp only
 rw [if_pos (decide_eq_true (by omega)),QaT ⟨by omega,by omega⟩,Int.tdiv_eq_ediv_of_nonneg h0,Int.tmod_eq_emod_of_nonneg h0,Qw0 (by omega) (by omega),w_u8 (n:=x % 256) (by omega) (by omega),QeK (by omega) (by omega),show ((i:Int)).toNat=i by omega]
theorem QxF (x:Int) (l:List Int):iter QgR (x,l,(-1:Int))=some l:=Qa3 (by
 unfold QgR
 simp only
 rw [if_neg (by decide)])
theorem Q6S (k:Int):QkN k=some (if k<64 then 1 else if k<16384 then 2 else if k<1073741824 then 4 else 8):=by
 unfold QkN
 by_cases h1:k<64
 ·rw [if_pos (decide_eq_true h1),if_pos h1]
 rw [if_neg (fun q=>h1 (of_decide_eq_true q)),if_neg h1]
 by_cases h2:k<16384
 ·rw [if_pos (decide_eq_true h2),if_pos h2]
 rw [if_neg (fun q=>h2 (of_decide_eq_true q)),if_neg h2]
 by_cases h3:k<1073741824
 ·rw [if_pos (decide_eq_true h3),if_pos h3]
 rw [if_neg (fun q=>h3 (of_decide_eq_true q)),if_neg h3]
theorem Q6T (n:Int) (h0:0≤n):QlI n=some (numB n):=by
 have hc:=Qt7 h0
 unfold QlI numB
 have e0:(if(decide ((4611686018427387903:Int)<n))=true then(some (4611686018427387903:Int))else(some n))=some (QvD n):=by
  unfold QvD top
  by_cases h:4611686018427387903<n
  ·rw [if_pos (decide_eq_true h),if_pos h]
  ·rw [if_neg (fun q=>h (of_decide_eq_true q)),if_neg h]
 rw [e0]
 generalize QvD n=k at hc
 have hk:=hc
 unfold top at hk
 simp only [Option.bind_some,Q6S]
 unfold numC
 by_cases h1:k<64
 ·rw [if_pos h1,if_pos h1,QaT (by decide),show IntKind.i64.wrap (1 - 1)=((0:Nat):Int) from rfl,show List.replicate (1:Int).toNat (0:Int)=[0] from rfl]
  rw [Qa5 (QiR k [0] 0 hc.1 hc.2 (by decide) (by decide)),show (((0:Nat):Int)- 1)=-1 from rfl,QxF]
  simp only [Option.bind_some]
  rw [QoM (e:=0) 3 rfl]
  simp only [Option.bind_some]
  rw [QaT (by simp),QaT (by simp)]
  show some [IntKind.u8.wrap (k % 256+0)]=_
  rw [w_u8 (by omega) (by omega)]
  congr 2
  omega
 rw [if_neg h1,if_neg h1]
 by_cases h2:k<16384
 ·rw [if_pos h2,if_pos h2,QaT (by decide),show IntKind.i64.wrap (2 - 1)=((1:Nat):Int) from rfl,show List.replicate (2:Int).toNat (0:Int)=[0,0] from rfl]
  rw [Qa5 (QiR k [0,0] 1 hc.1 hc.2 (by decide) (by decide)),show (((1:Nat):Int)- 1)=((0:Nat):Int) from rfl,Qa5 (QiR (k/256) _ 0 (by omega) (by unfold top;omega) (by simp) (by simp)),show (((0:Nat):Int)- 1)=-1 from rfl,QxF]
  simp only [Option.bind_some]
  rw [QoM (e:=64) 3 rfl]
  simp only [Option.bind_some]
  rw [QaT (by simp),QaT (by simp)]
  show some [IntKind.u8.wrap (k/256 % 256+64),k % 256]=_
  rw [w_u8 (by omega) (by omega)]
  congr 2
  omega
 rw [if_neg h2,if_neg h2]
 by_cases h3:k<1073741824
 ·rw [if_pos h3,if_pos h3,QaT (by decide),show IntKind.i64.wrap (4 - 1)=((3:Nat):Int) from rfl,show List.replicate (4:Int).toNat (0:Int)=[0,0,0,0] from rfl]
  rw [Qa5 (QiR k [0,0,0,0] 3 hc.1 hc.2 (by decide) (by decide)),show (((3:Nat):Int)- 1)=((2:Nat):Int) from rfl,Qa5 (QiR (k/256) _ 2 (by omega) (by unfold top;omega) (by simp) (by simp)),
   show (((2:Nat):Int)- 1)=((1:Nat):Int) from rfl,Qa5 (QiR (k/256/256) _ 1 (by omega) (by unfold top;omega) (by simp) (by simp)),show (((1:Nat):Int)- 1)=((0:Nat):Int) from rfl,Qa5 (QiR (k/256/256/256) _ 0 (by omega) (by unfold top;omega) (by simp) (by simp)),show (((0:Nat):Int)- 1)=-1 from rfl,QxF]
  simp only [Option.bind_some]
  rw [QoM (e:=128) 4 rfl]
  simp only [Option.bind_some]
  rw [QaT (by simp),QaT (by simp)]
  show some [IntKind.u8.wrap (k/256/256/256 % 256+128),k/256/256 % 256,k/256 % 256,k % 256]=_
  rw [w_u8 (by omega) (by omega)]
  congr 2
  omega
 ·rw [if_neg h3,if_neg h3,QaT (by decide),show IntKind.i64.wrap (8 - 1)=((7:Nat):Int) from rfl,show List.replicate (8:Int).toNat (0:Int)=[0,0,0,0,0,0,0,0] from rfl]
  rw [Qa5 (QiR k [0,0,0,0,0,0,0,0] 7 hc.1 hc.2 (by decide) (by decide)),show (((7:Nat):Int)- 1)=((6:Nat):Int) from rfl,Qa5 (QiR (k/256) _ 6 (by omega) (by unfold top;omega) (by simp) (by simp)),
   show (((6:Nat):Int)- 1)=((5:Nat):Int) from rfl,Qa5 (QiR (k/256/256) _ 5 (by omega) (by unfold top;omega) (by simp) (by simp)),
   show (((5:Nat):Int)- 1)=((4:Nat):Int) from rfl,Qa5 (QiR (k/256/256/256) _ 4 (by omega) (by unfold top;omega) (by simp) (by simp)),
   show (((4:Nat):Int)- 1)=((3:Nat):Int) from rfl,Qa5 (QiR (k/256/256/256/256) _ 3 (by omega) (by unfold top;omega) (by simp) (by simp)),
   show (((3:Nat):Int)- 1)=((2:Nat):Int) from rfl,Qa5 (QiR (k/256/256/256/256/256) _ 2 (by omega) (by unfold top;omega) (by simp) (by simp)),
   show (((2:Nat):Int)- 1)=((1:Nat):Int) from rfl,Qa5 (QiR (k/256/256/256/256/256/256) _ 1 (by omega) (by unfold top;omega) (by simp) (by simp)),show (((1:Nat):Int)- 1)=((0:Nat):Int) from rfl,Qa5 (QiR (k/256/256/256/256/256/256/256) _ 0 (by omega) (by unfold top;omega) (by simp) (by simp)),show (((0:Nat):Int)- 1)=-1 from rfl,QxF]
  simp only [Option.bind_some]
  rw [QoM (e:=192) 5 rfl]
  simp only [Option.bind_some]
  rw [QaT (by simp),QaT (by simp)]
  show some [IntKind.u8.wrap (k/256/256/256/256/256/256/256 % 256+192),k/256/256/256/256/256/256 % 256,k/256/256/256/256/256 % 256,k/256/256/256/256 % 256,k/256/256/256 % 256,k/256/256 % 256,k/256 % 256,k % 256]=_
  rw [w_u8 (by omega) (by omega)]
  congr 2
  omega
theorem QgY (n:Int) (hn:n≤9223372036854775807):Qb0 n=some (intB n):=by
 unfold Qb0 intB
 by_cases h:n<0
 ·rw [if_pos (decide_eq_true h),if_pos h];rfl
 ·rw [if_neg (fun q=>h (of_decide_eq_true q)),if_neg h,Qw0 (by omega) (by omega),Q6T n (by omega)];rfl
theorem Q0I (is:Bool):QkO is=some (Qo6 is):=by cases is<;>rfl
theorem Qt9 (s:List Int) (hs:s.length≤274877800000):QfU s=some (QlK s):=by
 unfold QfU QlK
 rw [QgY _ (by omega)]
 have:=QjP (s.length:Int)
 simp only [Option.bind_some]
 rw [QaT (by omega)]
theorem QyJ (l:List Int) (hl:∀ x∈l,x≤9223372036854775807) (hn:l.length≤1000000):∀ (d i:Nat) (b:List Int),i+d=l.length→b.length+8*d≤274877900000→
  iter (QgS l) (b,(i:Int))=some (b++QkX (l.drop i))
 |0,i,b,hi,hb=>by
  rw [List.drop_of_length_le (by omega)]
  refine Qa3 ?_
  unfold QgS
  simp only
  rw [if_neg (fun q=>absurd (of_decide_eq_true q) (by omega))]
  simp [QkX]
 |d+1,i,b,hi,hb=>by
  have hlt:i<l.length:=by omega
  have hlen:=(QjP l[i]).1
  have hstep:QgS l (b,(i:Int))=some (.inl (b++intB l[i],((i+1:Nat):Int))):=by
   unfold QgS
   simp only
   rw [if_pos (decide_eq_true (by omega)),QaT ⟨by omega,by omega⟩,rdn hlt,QgY _ (hl _ (List.getElem_mem hlt)),QeK (by omega) (by omega)]
   simp only [Option.bind_some]
   rw [QaT (by omega)]
   rfl
  rw [Qa5 hstep,QyJ l hl hn d (i+1) _ (by omega) (by simp;omega),List.drop_eq_getElem_cons hlt,Qk8,List.append_assoc]
theorem QxG (l:List Int) (hl:∀ x∈l,x≤9223372036854775807) (hn:l.length≤1000000):QhP l=some (rowB l):=by
 unfold QhP rowB
 rw [QgY _ (by omega)]
 simp only [Option.bind_some]
 have h:=QyJ l hl hn l.length 0 (intB (l.length:Int)) (by omega) (by have:=(QjP (l.length:Int)).1;omega)
 rw [show ((0:Nat):Int)=0 from rfl] at h
 rw [h]
 simp
theorem QwB (l:List Int) (hl:l.length≤274877906944):∀ (d m:Nat),m+d=l.length→iter (QfN l l) (m:Int)=some (.inl ())
 |0,m,hm=>by
  refine Qa3 ?_
  unfold QfN
  simp only
  rw [if_neg (fun q=>absurd (of_decide_eq_true q) (by omega))]
 |d+1,m,hm=>by
  have hstep:QfN l l (m:Int)=some (.inl ((m+1:Nat):Int)):=by
   unfold QfN
   simp only
   rw [if_pos (decide_eq_true (by omega)),QaT ⟨by omega,by omega⟩,QaT ⟨by omega,by omega⟩,QeK (by omega) (by omega)]
   simp
  rw [Qa5 hstep]
  exact QwB l hl d (m+1) (by omega)
theorem Q4I (l:List Int) (hl:l.length≤274877906944):QkP l l=some true:=by
 unfold QkP
 have h:=QwB l hl l.length 0 (by omega)
 rw [show ((0:Nat):Int)=0 from rfl] at h
 rw [h,if_neg (by simp)]
 rfl
def accN (b:List Int) (a:Nat):Nat→Int
 |0=>rd b (a:Int) % 64
 |i+1=>accN b a i*256+rd b ((a+(i+1):Nat):Int)
def capN:Nat→Int
 |0=>63
 |i+1=>capN i*256+255
theorem Q6U:∀ i:Fin 8,capN i.val≤top:=by decide
theorem Q4J:∀ i:Fin 7,capN i.val≤18014398509481983:=by decide
theorem QuA {b:List Int}(hb:okB b){a:Nat}:∀ i:Nat,a+i<b.length→0≤accN b a i∧accN b a i≤capN i
 |0,h=>by
  have:=hb.at (i:=a) (by omega)
  simp only [accN,capN]
  omega
 |i+1,h=>by
  have h1:=QuA (a:=a) hb i (by omega)
  have h2:=hb.at (i:=a+(i+1)) h
  simp only [accN,capN]
  omega
def QjU (h:Int):Nat:=if h/64=0 then 1 else if h/64=1 then 2 else if h/64=2 then 4 else 8
def QvZ (n:Int):Nat:=if n<64 then 1 else if n<16384 then 2 else if n<1073741824 then 4 else 8
def numR (b:List Int) (a:Nat) (most:Int):Int⊕(Int×Nat):=
 if b.length≤a then .inl 3
 else if b.length<a+QjU (rd b (a:Int))then .inl 3
 else if QvZ (accN b a (QjU (rd b (a:Int))- 1))≠QjU (rd b (a:Int))then .inl 5
 else if most<accN b a (QjU (rd b (a:Int))- 1)then .inl 6
 else .inr (accN b a (QjU (rd b (a:Int))- 1),a+QjU (rd b (a:Int)))
theorem Q4K (h:Int):QjU h≤8∧1≤QjU h:=by
 unfold QjU
 split
 ·simp
 split
 ·simp
 split<;>simp
abbrev Qv0:ByteArray:=⟨#[110,117,109]⟩
theorem Q4L (b:List Int) (a:Int) (e:GErr) (h:e.isNil=false) (o:ByteArray) (at_ c:Int):QbJ ⟨b,a,e⟩ o at_ c=some e:=by
 unfold QbJ
 simp only [h]
 rfl
theorem QvE {b:List Int}(hb:okB b){a i:Nat}(h:a+(i+1)<b.length) (hi:i≤6) (hl:b.length≤1000000000000):QaS (accN b a i) (b.drop a) ((i+1:Nat):Int)=some (accN b a (i+1),((i+2:Nat):Int)):=by
 have hb1:=QuA (a:=a) hb i (by omega)
 have hb2:=Q4J ⟨i,by omega⟩
 have hb3:=hb.at (i:=a+(i+1)) h
 simp only at hb2
 unfold QaS
 rw [QaT ⟨by omega,by simp;omega⟩,Q2G,JaF (by omega) (by omega) hb3.1 hb3.2,QeK (by omega) (by omega)]
 rfl
theorem Q4M {h:Int}(h0:0≤h) (h1:h≤255):shlI .i64 1 (shrI .u8 h 6)=((QjU h:Nat):Int):=by
 rw [(QzN h0 h1).2]
 have hq:h/64=0∨h/64=1∨h/64=2∨h/64=3:=by omega
 unfold QjU
 rcases hq with q |q |q |q<;>rw [q]
 ·exact QxD.1
 ·exact QxD.2.1
 ·exact QxD.2.2.1
 ·exact QxD.2.2.2
theorem QzO (h:Int):QjU h=1∨QjU h=2∨QjU h=4∨QjU h=8:=by
 unfold QjU
 split
 ·simp
 split
 ·simp
 split<;>simp
def Q2H (k:Nat):Int:=if k=8 then 1073741824 else if k=4 then 16384 else if k=2 then 64 else 0
def numP (b:List Int) (a:Nat) (most:Int):Int×Int×GErr:=
 match numR b a most with
 | .inl c=>(0,(a:Int), .fault Qv0 (a:Int) (.code c))
 | .inr (n,a')=>(n,(a':Int), .nil)
theorem Q2I (b:List Int) (a k:Nat) (most n:Int) (hk:k=1∨k=2∨k=4∨k=8) (hn:0≤n) (hc:n≤capN (k - 1)) (ha:a+k≤b.length) (hl:b.length≤1000000000000):
  (if(decide (n<Q2H k))=true then((QbJ ⟨b,(a:Int), .nil⟩ Qv0 (a:Int) 5).bind fun(r103:GErr)=>(some ((0:Int),(a:Int),r103)))else(if(decide (most<n))=true then((QbJ ⟨b,(a:Int), .nil⟩ Qv0 (a:Int) 6).bind fun(r108:GErr)=>(some ((0:Int),(a:Int),r108)))else(some (n,IntKind.i64.wrap ((a:Int)+(k:Int)),GErr.nil))))=
  some (match(if QvZ n≠k then Sum.inl 5 else if most<n then Sum.inl 6 else Sum.inr (n,a+k):Int⊕(Int×Nat))with
   | .inl c=>(0,(a:Int), .fault Qv0 (a:Int) (.code c))
   | .inr (n,a')=>(n,(a':Int), .nil)):=by
 have hs:(n<Q2H k)↔QvZ n≠k:=by
  unfold Q2H QvZ
  rcases hk with rfl |rfl |rfl |rfl
  ·have:capN (1 - 1)=63:=rfl
   simp;omega
  ·have:capN (2 - 1)=16383:=rfl
   simp
   constructor
   ·intro h;rw [if_pos h];decide
   ·intro h
    by_cases g:n<64
    ·exact g
    ·rw [if_neg g,if_pos (by omega)] at h;exact absurd rfl h
  ·have:capN (4 - 1)=1073741823:=rfl
   simp
   constructor
   ·intro h
    by_cases g:n<64
    ·rw [if_pos g];decide
    ·rw [if_neg g,if_pos h];decide
   ·intro h
    by_cases g:n<16384
    ·exact g
    ·rw [if_neg (by omega),if_neg g,if_pos (by omega)] at h;exact absurd rfl h
  ·simp
   constructor
   ·intro h
    by_cases g:n<64
    ·rw [if_pos g];decide
    ·rw [if_neg g]
     by_cases g2:n<16384
     ·rw [if_pos g2];decide
     ·rw [if_neg g2,if_pos h];decide
   ·intro h
    by_cases g:n<1073741824
    ·exact g
    ·rw [if_neg (by omega),if_neg (by omega),if_neg g] at h;exact absurd rfl h
 have hk8:k≤8:=by omega
 by_cases g3:QvZ n≠k
 ·rw [if_pos (decide_eq_true (hs.2 g3)),if_pos g3];rfl
 ·rw [if_neg (fun q=>g3 (hs.1 (of_decide_eq_true q))),if_neg g3]
  by_cases g4:most<n
  ·rw [if_pos (decide_eq_true g4),if_pos g4];rfl
  ·rw [if_neg (fun q=>g4 (of_decide_eq_true q)),if_neg g4,QeK (by omega) (by omega)];rfl
theorem Q2J {b:List Int}(hb:okB b) (hl:b.length≤1000000000000){a:Nat}(ha:a≤b.length) (most:Int):QdE ⟨b,(a:Int), .nil⟩ most=some (numP b a most):=by
 unfold QdE numP numR
 simp only [Q6N]
 rw [if_neg (show¬ ((!GErr.isNil GErr.nil)=true) from by decide),QaT ⟨by omega,by omega,by omega⟩]
 by_cases g1:b.length≤a
 ·rw [if_pos (decide_eq_true (by simp;omega)),if_pos g1];rfl
 have hB:=hb.at (i:=a) (by omega)
 have e0:rd (b.drop a) 0=rd b (a:Int):=Q2G b a 0
 have hK:=QzO (rd b (a:Int))
 have eN:IntKind.u64.wrap (andI .u8 (rd b (a:Int)) 63)=accN b a 0:=by
  rw [(QzN hB.1 hB.2).1,Qw0 (by omega) (by omega)];rfl
 have hsh:0≤shrI .u8 (rd b (a:Int)) 6:=by rw [(QzN hB.1 hB.2).2];omega
 rw [if_neg (fun q=>absurd (of_decide_eq_true q) (by simp;omega)),if_neg g1,QaT ⟨by omega,by simp;omega⟩]
 simp only [e0,Q4M hB.1 hB.2,eN]
 rw [QaT hsh]
 generalize hkk:QjU (rd b (a:Int))=k at hK
 by_cases g2:b.length<a+k
 ·rw [if_pos (decide_eq_true (by simp;omega)),if_pos g2];rfl
 rw [if_neg (fun q=>absurd (of_decide_eq_true q) (by simp;omega)),if_neg g2,QaT ⟨by omega,by simp;omega⟩]
 have hbn:0≤accN b a (k - 1)∧accN b a (k - 1)≤capN (k - 1):=QuA hb (k - 1) (by omega)
 have tail:=Q2I b a k most (accN b a (k - 1)) hK hbn.1 hbn.2 (by omega) hl
 rcases hK with rfl |rfl |rfl |rfl
 ·rw [if_neg (by decide),if_neg (by decide),if_neg (by decide)]
  exact tail
 ·have n1:QaS (accN b a 0) (b.drop a) 1=some (accN b a 1,2):=QvE hb (i:=0) (by omega) (by decide) hl
  rw [if_neg (by decide),if_neg (by decide),if_pos (by decide)]
  simp only [Option.bind_some,Sum.elim_inl,Sum.elim_inr,n1]
  exact tail
 ·have n1:QaS (accN b a 0) (b.drop a) 1=some (accN b a 1,2):=QvE hb (i:=0) (by omega) (by decide) hl
  have n2:QaS (accN b a 1) (b.drop a) 2=some (accN b a 2,3):=QvE hb (i:=1) (by omega) (by decide) hl
  have n3:QaS (accN b a 2) (b.drop a) 3=some (accN b a 3,4):=QvE hb (i:=2) (by omega) (by decide) hl
  rw [if_neg (by decide),if_pos (by decide)]
  simp only [Option.bind_some,Sum.elim_inl,Sum.elim_inr,n1,n2,n3]
  exact tail
 ·have n1:QaS (accN b a 0) (b.drop a) 1=some (accN b a 1,2):=QvE hb (i:=0) (by omega) (by decide) hl
  have n2:QaS (accN b a 1) (b.drop a) 2=some (accN b a 2,3):=QvE hb (i:=1) (by omega) (by decide) hl
  have n3:QaS (accN b a 2) (b.drop a) 3=some (accN b a 3,4):=QvE hb (i:=2) (by omega) (by decide) hl
  have n4:QaS (accN b a 3) (b.drop a) 4=some (accN b a 4,5):=QvE hb (i:=3) (by omega) (by decide) hl
  have n5:QaS (accN b a 4) (b.drop a) 5=some (accN b a 5,6):=QvE hb (i:=4) (by omega) (by decide) hl
  have n6:QaS (accN b a 5) (b.drop a) 6=some (accN b a 6,7):=QvE hb (i:=5) (by omega) (by decide) hl
  have n7:QaS (accN b a 6) (b.drop a) 7=some (accN b a 7,8):=QvE hb (i:=6) (by omega) (by decide) hl
  rw [if_pos (by decide)]
  simp only [Option.bind_some,Sum.elim_inl,Sum.elim_inr,n1,n2,n3,n4,n5,n6,n7]
  exact tail
theorem Q4N {b:List Int}{a:Int}{e:GErr}(h:e.isNil=false) (most:Int):QdE ⟨b,a,e⟩ most=some (0,a,e):=by
 unfold QdE
 rw [if_pos (by simp [h])]
theorem QxH {b:List Int}(hb:okB b){a:Nat}{most n:Int}{a':Nat}(h:numR b a most= .inr (n,a')):0≤n∧n≤top∧n≤most∧a<a'∧a'≤b.length∧a'≤a+8:=by
 unfold numR at h
 have hk:=Q4K (rd b (a:Int))
 split at h
 ·cases h
 split at h
 ·cases h
 split at h
 ·cases h
 split at h
 ·cases h
 ·cases h
  have h1:=QuA (a:=a) hb (QjU (rd b (a:Int))- 1) (by omega)
  have h2:=Q6U ⟨QjU (rd b (a:Int))- 1,by omega⟩
  simp only at h2
  exact⟨h1.1,by omega,by omega,by omega,by omega,by omega⟩
def pos0 (n:Int):Int:=if n<0 then 0 else n
theorem Qn2 {b:List Int}(hb:okB b) (hl:b.length≤1000000000000){a:Nat}(ha:a≤b.length){most:Int}(hm:most≤9223372036854775807):QbB ⟨b,(a:Int), .nil⟩ most=some (numP b a (pos0 most)):=by
 unfold QbB
 have hp:0≤pos0 most∧pos0 most≤9223372036854775807:=by unfold pos0;split<;>omega
 rw [show (if most<(0:Int)then(0:Int)else most)=pos0 most from rfl,Qw0 hp.1 (by omega),Q2J hb hl ha]
 simp only [Option.bind_some]
 unfold numP
 cases h:numR b a (pos0 most)with
 |inl c=>rfl
 |inr x=>
  obtain ⟨n,a'⟩:=x
  have:=QxH hb h
  unfold top at this
  simp only
  rw [QeK (by omega) (by omega)]
theorem Q4O {b:List Int}{a:Int}{e:GErr}(h:e.isNil=false) (most:Int):QbB ⟨b,a,e⟩ most=some (0,a,e):=by
 unfold QbB
 rw [Q4N h];rfl
abbrev Q5T:ByteArray:=⟨#[102,108,97,103]⟩
abbrev Q76:ByteArray:=⟨#[116,101,120,116]⟩
abbrev Q77:ByteArray:=⟨#[101,110,100]⟩
abbrev RdR (α:Type):=(Int×ByteArray×Int×Nat)⊕(α×Nat)
def Q4P (b:List Int) (a:Nat):RdR Bool:=
 if b.length≤a then .inl (3,Q5T,(a:Int),a)else if 1<rd b (a:Int)then .inl (5,Q5T,(a:Int),a)else .inr (decide (rd b (a:Int)=1),a+1)
def Q4Q (b:List Int) (a:Nat) (most:Int):RdR (List Int):=match numR b a (pos0 most)with
 | .inl c=> .inl (c,Qv0,(a:Int),a)
 | .inr (n,a')=>if((b.length - a':Nat):Int)<n then .inl (3,Q76,(a:Int),a)else .inr ((b.drop a').take n.toNat,a'+n.toNat)
def rowG (b:List Int) (each:Int):Nat→Nat→List Int→RdR (List Int)
 |0,a,l=> .inr (l,a)
 |k+1,a,l=>match numR b a (pos0 each)with
  | .inl c=> .inl (c,Qv0,(a:Int),a)
  | .inr (n,a')=>rowG b each k a' (l++[n])
def rowR (b:List Int) (a:Nat) (many each:Int):RdR (List Int):=match numR b a (pos0 many)with
 | .inl c=> .inl (c,Qv0,(a:Int),a)
 | .inr (n,a')=>rowG b each n.toNat a' []
def asP {α:Type}(z:α):RdR α→α×Int×GErr
 | .inl (c,o,w,a)=>(z,(a:Int), .fault o w (.code c))
 | .inr (x,a)=>(x,(a:Int), .nil)
theorem Q1E {b:List Int}(hb:okB b) (hl:b.length≤1000000000000) (a:Nat):Qc4 ⟨b,(a:Int), .nil⟩=some (asP false (Q4P b a)):=by
 unfold Qc4 Q4P
 dsimp only
 rw [if_neg (show¬ ((!GErr.isNil GErr.nil)=true) from by decide)]
 by_cases g1:b.length≤a
 ·rw [if_pos (decide_eq_true (by omega)),if_pos g1];rfl
 rw [if_neg (fun q=>absurd (of_decide_eq_true q) (by omega)),if_neg g1,QaT ⟨by omega,by omega⟩]
 by_cases g2:1<rd b (a:Int)
 ·rw [if_pos (decide_eq_true g2),if_pos g2];rfl
 have e1:IntKind.i64.wrap ((a:Int)+1)=((a+1:Nat):Int):=by rw [QeK (by omega) (by omega)];omega
 have e2:IntKind.i64.wrap (((a+1:Nat):Int)- 1)=(a:Int):=by rw [QeK (by omega) (by omega)];omega
 rw [if_neg (fun q=>g2 (of_decide_eq_true q)),if_neg g2]
 simp only [e1,e2]
 rw [QaT ⟨by omega,by omega⟩];rfl
theorem Q4R (l:List Int) (h:l.length≤1000000000):QcY l=some l:=by
 unfold QcY
 rw [QaT (by simp;omega)];simp
theorem Q1F {b:List Int}(hb:okB b) (hl:b.length≤1000000000){a:Nat}(ha:a≤b.length){most:Int}(hm:most≤9223372036854775807):Qc3 ⟨b,(a:Int), .nil⟩ most=some (asP [] (Q4Q b a most)):=by
 unfold Qc3 Q4Q
 rw [Qn2 hb (by omega) ha hm]
 unfold numP
 cases h:numR b a (pos0 most)with
 |inl c=>rfl
 |inr x=>
  obtain ⟨n,a'⟩:=x
  have hn:=QxH hb h
  unfold top at hn
  simp only [Option.bind_some]
  rw [if_neg (show¬ ((!GErr.isNil GErr.nil)=true) from by decide),QeK (n:=(b.length:Int)- (a':Int)) (by omega) (by omega)]
  by_cases g:((b.length - a':Nat):Int)<n
  ·rw [if_pos (decide_eq_true (by omega)),if_pos g];rfl
  ·obtain ⟨N,rfl⟩:=Int.eq_ofNat_of_zero_le hn.1
   have e1:IntKind.i64.wrap ((a':Int)+(N:Int))=((a'+N:Nat):Int):=by rw [QeK (by omega) (by omega)];omega
   have e2:IntKind.i64.wrap (((a'+N:Nat):Int)- (N:Int))=(a':Int):=by rw [QeK (by omega) (by omega)];omega
   rw [if_neg (fun q=>absurd (of_decide_eq_true q) (by omega)),if_neg g]
   simp only [e1,e2]
   rw [QaT ⟨by omega,by omega,by omega⟩,Q6O,Q4R _ (by simp;omega)]
   rw [show a'+N - a'=N by omega];rfl
theorem QwC {b:List Int}(hb:okB b) (hl:b.length≤1000000000) (r:QaB) (hr:r.b=b){each:Int}(he:each≤9223372036854775807) (N:Nat) (hN:N≤4611686018427387903):∀ (k i a:Nat) (l:List Int),i+k=N→a≤b.length→l.length≤a→
  ∃ l',iter (QcO r each (N:Int)) (l,(i:Int),(a:Int), .nil)=some (l',(asP [] (rowG b each k a l)).2)∧((asP [] (rowG b each k a l)).2.2.isNil=true→l'=(asP [] (rowG b each k a l)).1)
 |0,i,a,l,hi,ha,hla=>by
  refine⟨l,Qa3 ?_,fun _=>rfl⟩
  unfold QcO
  simp only
  rw [if_neg (fun q=>absurd (of_decide_eq_true q) (by omega))]
  rfl
 |k+1,i,a,l,hi,ha,hla=>by
  have hstep:QcO r each (N:Int) (l,(i:Int),(a:Int), .nil)=some (.inl (l++[(numP b a (pos0 each)).1],((i+1:Nat):Int),(numP b a (pos0 each)).2.1,(numP b a (pos0 each)).2.2)):=by
   unfold QcO
   simp only
   rw [if_pos (decide_eq_true (by omega)),hr,Qn2 hb (by omega) ha he]
   simp only [Option.bind_some,GErr.isNil,if_true]
   rw [QaT (by simp;omega),QeK (by omega) (by omega)]
   rfl
  rw [Qa5 hstep]
  unfold numP rowG
  cases h:numR b a (pos0 each)with
  |inl c=>
   refine⟨l++[0],Qa3 ?_,fun q=>by cases q⟩
   unfold QcO
   simp only
   by_cases g:((i+1:Nat):Int)<(N:Int)
   ·rw [if_pos (decide_eq_true g)];rfl
   ·rw [if_neg (fun q=>g (of_decide_eq_true q))];rfl
  |inr x=>
   obtain ⟨n,a'⟩:=x
   have hn:=QxH hb h
   exact QwC hb hl r hr he N hN k (i+1) a' (l++[n]) (by omega) (by omega) (by simp;omega)
theorem Q2K {b:List Int}(hb:okB b) (hl:b.length≤1000000000){a:Nat}(ha:a≤b.length){many each:Int}(hm:many≤9223372036854775807) (he:each≤9223372036854775807):Qd8 ⟨b,(a:Int), .nil⟩ many each=some (asP [] (rowR b a many each)):=by
 unfold Qd8 rowR
 rw [Qn2 hb (by omega) ha hm]
 unfold numP
 cases h:numR b a (pos0 many)with
 |inl c=>
  simp only [Option.bind_some]
  rw [Qa3 (e:=([],(a:Int), .fault Qv0 (a:Int) (.code c))) rfl]
  rfl
 |inr x=>
  obtain ⟨n,a'⟩:=x
  have hn:=QxH hb h
  unfold top at hn
  obtain ⟨N,rfl⟩:=Int.eq_ofNat_of_zero_le hn.1
  simp only [Option.bind_some]
  obtain ⟨l',h1,h2⟩:=QwC hb hl ⟨b,(a:Int), .nil⟩ rfl he N (by omega) N 0 a' [] (by omega) (by omega) (by simp)
  rw [show ((0:Nat):Int)=0 from rfl] at h1
  rw [h1,show ((N:Int)).toNat=N by omega]
  simp only [Option.bind_some]
  cases hr:rowG b each N a' []with
  |inl x=>rfl
  |inr x=>
   rw [hr] at h2
   rw [h2 rfl]
   rfl
theorem Q2L (b:List Int) (a:Int) (e:GErr):QdH ⟨b,a,e⟩=some (if a<(b.length:Int)∧e.isNil=true then(.fault Q77 a (.code 5), .fault Q77 a (.code 5))else(e,e)):=by
 unfold QdH
 by_cases g:a<(b.length:Int)
 ·rw [if_pos (decide_eq_true g)]
  cases h:e.isNil with
  |true=>
   rw [if_pos ⟨g,rfl⟩]
   obtain rfl:e= .nil:=by cases e<;>first |rfl |cases h
   rfl
  |false=>rw [Q4L _ _ _ h,if_neg (by simp)];rfl
 ·rw [if_neg (fun q=>g (of_decide_eq_true q)),if_neg (fun q=>g q.1)];rfl
theorem QmV (pre x post:List Int){i:Nat}(hi:i<x.length):rd (pre++(x++post)) ((pre.length+i:Nat):Int)=rd x (i:Int):=by
 rw [rdn (show pre.length+i<(pre++(x++post)).length by simp;omega),rdn hi]
 rw [List.getElem_append_right (by omega)]
 simp only [Nat.add_sub_cancel_left]
 rw [List.getElem_append_left hi]
theorem QsR (pre x post:List Int) (hi:0<x.length):rd (pre++(x++post)) (pre.length:Int)=rd x 0:=QmV pre x post hi
theorem Q4S (pre post:List Int){n most:Int}(h0:0≤n) (h1:n≤top) (hm:n≤most):numR (pre++(numB n++post)) pre.length most= .inr (n,pre.length+(numB n).length):=by
 have hcap:QvD n=n:=by unfold QvD;rw [if_neg (by omega)]
 have e:numB n=numC n:=by unfold numB;rw [hcap]
 rw [e]
 have ht:=h1
 unfold top at ht
 have key:∀ k,(numC n).length=k→QjU (rd (numC n) 0)=k→QvZ n=k→1≤k→accN (pre++(numC n++post)) pre.length (k - 1)=n→numR (pre++(numC n++post)) pre.length most= .inr (n,pre.length+(numC n).length):=by
  intro k hk hh hs hk1 ha
  unfold numR
  rw [QsR pre (numC n) post (by omega),hh,ha,hs,hk,if_neg (by simp;omega),if_neg (by simp;omega),if_neg (by simp),if_neg (by omega)]
 by_cases c1:n<64
 ·have ec:numC n=[n]:=by unfold numC;rw [if_pos c1]
  refine key 1 (by rw [ec];rfl) ?_ (by unfold QvZ;rw [if_pos c1]) (by decide) ?_
  ·rw [ec];show QjU n=1;unfold QjU;rw [if_pos (by omega)]
  ·show rd _ (pre.length:Int) % 64=n
   rw [QsR pre (numC n) post (by rw [ec];simp),ec]
   show n % 64=n
   omega
 by_cases c2:n<16384
 ·have ec:numC n=[64+n/256,n % 256]:=by unfold numC;rw [if_neg c1,if_pos c2]
  refine key 2 (by rw [ec];rfl) ?_ (by unfold QvZ;rw [if_neg c1,if_pos c2]) (by decide) ?_
  ·rw [ec];show QjU (64+n/256)=2;unfold QjU;rw [if_neg (by omega),if_pos (by omega)]
  ·show rd _ (pre.length:Int) % 64*256+rd _ ((pre.length+1:Nat):Int)=n
   rw [QsR pre (numC n) post (by rw [ec];simp),QmV pre (numC n) post (i:=1) (by rw [ec];simp),ec]
   show (64+n/256) % 64*256+n % 256=n
   omega
 by_cases c3:n<1073741824
 ·have ec:numC n=[128+n/256/256/256,n/256/256 % 256,n/256 % 256,n % 256]:=by unfold numC;rw [if_neg c1,if_neg c2,if_pos c3]
  refine key 4 (by rw [ec];rfl) ?_ (by unfold QvZ;rw [if_neg c1,if_neg c2,if_pos c3]) (by decide) ?_
  ·rw [ec];show QjU (128+n/256/256/256)=4;unfold QjU;rw [if_neg (by omega),if_neg (by omega),if_pos (by omega)]
  ·show ((rd _ (pre.length:Int) % 64*256+rd _ ((pre.length+1:Nat):Int))*256+rd _ ((pre.length+2:Nat):Int))*256+rd _ ((pre.length+3:Nat):Int)=n
   rw [QsR pre (numC n) post (by rw [ec];simp),QmV pre (numC n) post (i:=1) (by rw [ec];simp),QmV pre (numC n) post (i:=2) (by rw [ec];simp),QmV pre (numC n) post (i:=3) (by rw [ec];simp),ec]
   show (((128+n/256/256/256) % 64*256+n/256/256 % 256)*256+n/256 % 256)*256+n % 256=n
   rw [show (128+n/256/256/256) % 64=n/256/256/256 by omega,show n/256/256/256*256+n/256/256 % 256=n/256/256 by omega,show n/256/256*256+n/256 % 256=n/256 by omega]
   omega
 ·have ec:numC n=[192+n/256/256/256/256/256/256/256,n/256/256/256/256/256/256 % 256,n/256/256/256/256/256 % 256,n/256/256/256/256 % 256,n/256/256/256 % 256,n/256/256 % 256,n/256 % 256,n % 256]:=by unfold numC;rw [if_neg c1,if_neg c2,if_neg c3]
  have hx:0≤n/256/256/256/256/256/256/256∧n/256/256/256/256/256/256/256<64:=by omega
  refine key 8 (by rw [ec];rfl) ?_ (by unfold QvZ;rw [if_neg c1,if_neg c2,if_neg c3]) (by decide) ?_
  ·rw [ec];show QjU (192+n/256/256/256/256/256/256/256)=8;unfold QjU
   generalize n/256/256/256/256/256/256/256=x at hx
   rw [if_neg (by omega),if_neg (by omega),if_neg (by omega)]
  ·show ((((((rd _ (pre.length:Int) % 64*256+rd _ ((pre.length+1:Nat):Int))*256+rd _ ((pre.length+2:Nat):Int))*256+rd _ ((pre.length+3:Nat):Int))*256+rd _ ((pre.length+4:Nat):Int))*256+rd _ ((pre.length+5:Nat):Int))*256+rd _ ((pre.length+6:Nat):Int))*256+rd _ ((pre.length+7:Nat):Int)=n
   rw [QsR pre (numC n) post (by rw [ec];simp),QmV pre (numC n) post (i:=1) (by rw [ec];simp),QmV pre (numC n) post (i:=2) (by rw [ec];simp),QmV pre (numC n) post (i:=3) (by rw [ec];simp),QmV pre (numC n) post (i:=4) (by rw [ec];simp),QmV pre (numC n) post (i:=5) (by rw [ec];simp),QmV pre (numC n) post (i:=6) (by rw [ec];simp),QmV pre (numC n) post (i:=7) (by rw [ec];simp),ec]
   show (((((((192+n/256/256/256/256/256/256/256) % 64*256+n/256/256/256/256/256/256 % 256)*256+n/256/256/256/256/256 % 256)*256+n/256/256/256/256 % 256)*256+n/256/256/256 % 256)*256+n/256/256 % 256)*256+n/256 % 256)*256+n % 256=n
   have dm:∀ x:Int,x/256*256+x % 256=x:=fun x=>by omega
   have h64:(192+n/256/256/256/256/256/256/256) % 64=n/256/256/256/256/256/256/256:=by
    generalize n/256/256/256/256/256/256/256=x at hx
    omega
   rw [h64,dm,dm,dm,dm,dm,dm,dm]
theorem QuB (pre post:List Int){n most:Int}(h0:0≤n) (h1:n≤top) (hm:n≤most):numR (pre++(intB n++post)) pre.length most= .inr (n,pre.length+(intB n).length):=by
 unfold intB
 rw [if_neg (by omega)]
 exact Q4S pre post h0 h1 hm
theorem Q2M (pre post:List Int) (is:Bool):Q4P (pre++(Qo6 is++post)) pre.length= .inr (is,pre.length+(Qo6 is).length):=by
 unfold Q4P
 have hl:(Qo6 is).length=1:=by cases is<;>rfl
 rw [QsR pre (Qo6 is) post (by omega),if_neg (by simp;omega)]
 cases is<;>rfl
theorem Q2N (pre post s:List Int){most:Int}(hm:(s.length:Int)≤most) (hs:s.length≤1000000000):Q4Q (pre++(QlK s++post)) pre.length most= .inr (s,pre.length+(QlK s).length):=by
 unfold Q4Q QlK
 have hp:pos0 most=most:=by unfold pos0;rw [if_neg (by omega)]
 have e:pre++(intB (s.length:Int)++s++post)=pre++(intB (s.length:Int)++(s++post)):=by simp
 rw [e,hp,QuB pre (s++post) (by omega) (by unfold top;omega) hm]
 simp only
 rw [if_neg (by simp;omega)]
 congr 2
 ·rw [show ((s.length:Int)).toNat=s.length by omega,←List.append_assoc,show pre.length+(intB (s.length:Int)).length=(pre++intB (s.length:Int)).length by simp,List.drop_left,List.take_left]
 ·simp;omega
theorem QyK {each:Int}(he:each≤top):∀ (l pre post acc:List Int),(∀ x∈l,0≤x∧x≤each)→rowG (pre++(QkX l++post)) each l.length pre.length acc= .inr (acc++l,pre.length+(QkX l).length)
 |[],pre,post,acc,_=>by simp [rowG,QkX]
 |x::l,pre,post,acc,h=>by
  have hx:=h x (by simp)
  have hp:pos0 each=each:=by unfold pos0;rw [if_neg (by omega)]
  have e:pre++(QkX (x::l)++post)=pre++(intB x++(QkX l++post)):=by rw [Qk8];simp
  rw [e,List.length_cons]
  unfold rowG
  rw [hp,QuB pre (QkX l++post) hx.1 (by omega) hx.2]
  simp only
  have ih:=QyK he l (pre++intB x) post (acc++[x]) (fun y hy=>h y (by simp [hy]))
  rw [show pre++(intB x++(QkX l++post))=(pre++intB x)++(QkX l++post) by simp,show pre.length+(intB x).length=(pre++intB x).length by simp,ih,Qk8]
  simp
  omega
theorem Q4T (pre post l:List Int){many each:Int}(hm:(l.length:Int)≤many) (hl:l.length≤1000000000) (he:each≤top) (h:∀ x∈l,0≤x∧x≤each):rowR (pre++(rowB l++post)) pre.length many each= .inr (l,pre.length+(rowB l).length):=by
 unfold rowR rowB
 have hp:pos0 many=many:=by unfold pos0;rw [if_neg (by omega)]
 have e:pre++(intB (l.length:Int)++QkX l++post)=pre++(intB (l.length:Int)++(QkX l++post)):=by simp
 rw [e,hp,QuB pre (QkX l++post) (by omega) (by unfold top;omega) hm]
 simp only
 have:=QyK he l (pre++intB (l.length:Int)) post [] h
 rw [show ((l.length:Int)).toNat=l.length by omega,show pre++(intB (l.length:Int)++(QkX l++post))=(pre++intB (l.length:Int))++(QkX l++post) by simp,show pre.length+(intB (l.length:Int)).length=(pre++intB (l.length:Int)).length by simp,this]
 simp
 omega
def mapR {α β:Type}(f:α→β):RdR α→RdR β
 | .inl x=> .inl x
 | .inr (x,a)=> .inr (f x,a)
def leR {α:Type}(N:Nat) (P:α→Prop):RdR α→Prop
 | .inl (c,_,_,a)=>a≤N∧c≠0
 | .inr (x,a)=>a≤N∧P x
theorem leR.map {α β:Type}{N:Nat}{P:α→Prop}{Q:β→Prop}{f:α→β}{R:RdR α}(h:leR N P R) (k:∀ x,P x→Q (f x)):leR N Q (mapR f R):=by
 cases R with
 |inl x=>exact h
 |inr x=>exact⟨h.1,k _ h.2⟩
theorem Q6V {m:Int}(h:0≤m):pos0 m=m:=by unfold pos0;rw [if_neg (by omega)]
theorem Q1G {b:List Int}(hb:okB b) (hl:b.length≤1000000){pre post:List Int}{n m:Int}(e:b=pre++(intB n++post)) (h0:0≤n) (h1:n≤top) (hm:n≤m) (hm2:m≤9223372036854775807):
  QbB ⟨b,(pre.length:Int), .nil⟩ m=some (n,((pre++intB n).length:Int), .nil):=by
 have h:=QuB pre post (n:=n) (most:=m) h0 h1 hm
 rw [←e] at h
 rw [Qn2 hb (by omega) (by rw [e];simp) hm2,Q6V (by omega)]
 unfold numP
 rw [h,List.length_append]
theorem Q78 {b:List Int}(hb:okB b) (hl:b.length≤1000000){pre post:List Int}{n:Bool}(e:b=pre++(Qo6 n++post)):
  Qc4 ⟨b,(pre.length:Int), .nil⟩=some (n,((pre++Qo6 n).length:Int), .nil):=by
 have h:=Q2M pre post n
 rw [←e] at h
 rw [Q1E hb (by omega),h,List.length_append]
 rfl
theorem Q79 {b:List Int}(hb:okB b) (hl:b.length≤1000000){pre post s:List Int}{m:Int}(e:b=pre++(QlK s++post)) (hm:(s.length:Int)≤m) (hm2:m≤9223372036854775807):
  Qc3 ⟨b,(pre.length:Int), .nil⟩ m=some (s,((pre++QlK s).length:Int), .nil):=by
 have hs:s.length≤b.length:=by rw [e];unfold QlK;simp;omega
 have h:=Q2N pre post s (most:=m) hm (by omega)
 rw [←e] at h
 rw [Q1F hb (by omega) (by rw [e];simp) hm2,h,List.length_append]
 rfl
theorem Q0J:∀ (l:List Int),l.length≤(QkX l).length
 |[]=>Nat.le_refl _
 |x::l=>by
  rw [Qk8]
  have h1:=Q0J l
  have h2:=(QjP x).2
  simp only [List.length_cons,List.length_append]
  omega
theorem JaG {b:List Int}(hb:okB b) (hl:b.length≤1000000){pre post s:List Int}{m k:Int}(e:b=pre++(rowB s++post)) (hm:(s.length:Int)≤m) (hm2:m≤9223372036854775807) (hk:k≤top) (hs:∀ x∈s,0≤x∧x≤k):
  Qd8 ⟨b,(pre.length:Int), .nil⟩ m k=some (s,((pre++rowB s).length:Int), .nil):=by
 have hsl:s.length≤b.length:=by
  have:=Q0J s
  rw [e];unfold rowB;simp only [List.length_append];omega
 have h:=Q4T pre post s (many:=m) (each:=k) hm (by omega) hk hs
 rw [←e] at h
 rw [Q2K hb (by omega) (by rw [e];simp) hm2 (by unfold top at hk;omega),h,List.length_append]
 rfl
theorem JaH {b:List Int}{a:Nat}(h:a=b.length):QdH ⟨b,(a:Int), .nil⟩=some (.nil, .nil):=by
 rw [Q2L,if_neg (by omega)]
structure stC (c:Nat) (pre:List Int) (a:Int) (e:GErr):Prop where
 whole:pre.length≤c→a=(pre.length:Int)∧e= .nil
 short:c<pre.length→∃ o w,e= .fault o w (.code 3)
theorem stC.on {c:Nat}{pre x:List Int}{a:Int}{e:GErr}(h:stC c pre a e) (g:c<pre.length):stC c (pre++x) a e:=⟨fun k=>by rw [List.length_append] at k;omega,fun _=>h.short g⟩
theorem stC.no {c:Nat}{pre:List Int}{a:Int}{e:GErr}(h:stC c pre a e):stC c (pre++[]) a e:=by rw [List.append_nil];exact h
section
variable {b : List Int} {c : Nat} {pre post : List Int} {a : Int} {e : GErr}
end
theorem rdnA {α:Type}[Inhabited α]{xs:List α}{i:Nat}(h:i<xs.length):rd xs (i:Int)=xs[i]:=QbA h
def brOk (l:List Int):Prop:=l.length≤7∧∀ i (h:i<l.length),1≤l[i]∧l[i]≤64∧l[i]∉l.take i
theorem QwD (l:List Int) (x:Int) (hl:l.length≤1000000):∀ (d i:Nat),i+d=l.length→(x∉l.take i)→
  (x∈l∧∃ j:Nat,iter (QbU l x) (i:Int)=some (.inr (j:Int)))∨(x∉l∧iter (QbU l x) (i:Int)=some (.inl ()))
 |0,i,hi,hx=>by
  rw [List.take_of_length_le (by omega)] at hx
  refine .inr ⟨hx,Qa3 ?_⟩
  unfold QbU
  simp only
  rw [if_neg (fun q=>absurd (of_decide_eq_true q) (by omega))]
 |d+1,i,hi,hx=>by
  have hlt:i<l.length:=by omega
  by_cases g:x=l[i]
  ·refine .inl ⟨by rw [g];exact List.getElem_mem hlt,i,Qa3 ?_⟩
   unfold QbU
   simp only
   rw [if_pos (decide_eq_true (by omega)),QaT ⟨by omega,by omega⟩,rdnA hlt,if_pos (decide_eq_true g)]
  ·have hstep:QbU l x (i:Int)=some (.inl ((i+1:Nat):Int)):=by
    unfold QbU
    simp only
    rw [if_pos (decide_eq_true (by omega)),QaT ⟨by omega,by omega⟩,rdnA hlt,if_neg (fun q=>g (of_decide_eq_true q)),QeK (by omega) (by omega)]
    rfl
   rw [Qa5 hstep]
   refine QwD l x hl d (i+1) (by omega) ?_
   rw [List.take_succ_eq_append_getElem hlt,List.mem_append,List.mem_singleton]
   exact fun q=>q.elim hx g
theorem QzP (l:List Int) (x:Int) (hl:l.length≤1000000):QcT l x=some (decide (x∈l)):=by
 unfold QcT QeI
 have h:=QwD l x hl l.length 0 (by omega) (by simp)
 rw [show ((0:Nat):Int)=0 from rfl] at h
 rcases h with⟨h1,j,h2⟩ |⟨h1,h2⟩
 ·rw [h2,decide_eq_true h1]
  simp
 ·rw [h2,decide_eq_false h1]
  rfl
theorem Q4U (l:List Int) (i:Nat):sub l 0 (i:Int)=l.take i:=by
 unfold sub
 rw [show (0:Int).toNat=0 from rfl,show ((i:Int)).toNat=i by omega]
 simp
theorem QsS (l:List Int) (hl:l.length≤7):∀ (d i:Nat),i+d=l.length→(∀ j (h:j<l.length),j<i→1≤l[j]∧l[j]≤64∧l[j]∉l.take j)→
  (brOk l∧iter (QcV l) (i:Int)=some (.inl ()))∨(¬ brOk l∧iter (QcV l) (i:Int)=some (.inr ()))
 |0,i,hi,hp=>by
  refine .inl ⟨⟨hl,fun j hj=>hp j hj (by omega)⟩,Qa3 ?_⟩
  unfold QcV
  simp only
  rw [if_neg (fun q=>absurd (of_decide_eq_true q) (by omega))]
 |d+1,i,hi,hp=>by
  have hlt:i<l.length:=by omega
  have e:QcV l (i:Int)=if 1≤l[i]∧l[i]≤64∧l[i]∉l.take i then some (.inl ((i+1:Nat):Int))else some (.inr (.inr ())):=by
   unfold QcV
   simp only
   rw [if_pos (decide_eq_true (by omega)),QaT ⟨by omega,by omega⟩,rdnA hlt]
   by_cases g1:l[i]<1
   ·rw [if_pos (decide_eq_true g1),if_neg (show¬ (1≤l[i]∧l[i]≤64∧l[i]∉l.take i) from fun q=>by omega)];rfl
   rw [if_neg (fun q=>g1 (of_decide_eq_true q))]
   by_cases g2:64<l[i]
   ·rw [if_pos (decide_eq_true g2),if_neg (show¬ (1≤l[i]∧l[i]≤64∧l[i]∉l.take i) from fun q=>by omega)];rfl
   rw [if_neg (fun q=>g2 (of_decide_eq_true q)),QaT ⟨by omega,by omega,by omega⟩,Q4U,QzP _ _ (by simp;omega)]
   simp only [Option.bind_some]
   by_cases g3:l[i]∈l.take i
   ·rw [decide_eq_true g3,if_pos rfl,if_neg (show¬ (1≤l[i]∧l[i]≤64∧l[i]∉l.take i) from fun q=>q.2.2 g3)]
   ·rw [decide_eq_false g3,if_neg (by decide),if_pos (show 1≤l[i]∧l[i]≤64∧l[i]∉l.take i from ⟨by omega,by omega,g3⟩),QeK (by omega) (by omega)];rfl
  by_cases g:1≤l[i]∧l[i]≤64∧l[i]∉l.take i
  ·rw [if_pos g] at e
   rw [Qa5 e]
   refine QsS l hl d (i+1) (by omega) fun j hj hji=> ?_
   by_cases ej:j=i
   ·subst ej;exact g
   ·exact hp j hj (by omega)
  ·rw [if_neg g] at e
   exact .inr ⟨fun q=>g (q.2 i hlt),Qa3 e⟩
theorem Q0K (l:List Int) (hl:l.length≤7) (i:Nat) (hi:i<l.length):∀ (d j:Nat),j+d=i→l[i]∉l.take j→
  (l[i]∉l.take i∧iter (QcP l (i:Int)) (j:Int)=some (.inl ()))∨(l[i]∈l.take i∧iter (QcP l (i:Int)) (j:Int)=some (.inr ()))
 |0,j,hj,hx=>by
  have e:j=i:=by omega
  subst e
  refine .inl ⟨hx,Qa3 ?_⟩
  unfold QcP
  simp only
  rw [if_neg (fun q=>absurd (of_decide_eq_true q) (by omega))]
 |d+1,j,hj,hx=>by
  have hlt:j<l.length:=by omega
  by_cases g:l[j]=l[i]
  ·refine .inr ⟨?_,Qa3 ?_⟩
   ·rw [←g]
    exact List.mem_take_iff_getElem.2 ⟨j,by omega,rfl⟩
   ·unfold QcP
    simp only
    rw [if_pos (decide_eq_true (by omega)),QaT ⟨by omega,by omega⟩,QaT ⟨by omega,by omega⟩,rdnA hlt,rdnA hi,if_pos (decide_eq_true g)]
  ·have hstep:QcP l (i:Int) (j:Int)=some (.inl ((j+1:Nat):Int)):=by
    unfold QcP
    simp only
    rw [if_pos (decide_eq_true (by omega)),QaT ⟨by omega,by omega⟩,QaT ⟨by omega,by omega⟩,rdnA hlt,rdnA hi,if_neg (fun q=>g (of_decide_eq_true q)),QeK (by omega) (by omega)]
    rfl
   rw [Qa5 hstep]
   refine Q0K l hl i hi d (j+1) (by omega) ?_
   rw [List.take_succ_eq_append_getElem hlt,List.mem_append,List.mem_singleton]
   exact fun q=>q.elim hx fun q=>g q.symm
theorem QwE (l:List Int) (hl:l.length≤7):∀ (d i:Nat),i+d=l.length→(∀ j (h:j<l.length),j<i→1≤l[j]∧l[j]≤64∧l[j]∉l.take j)→
  (brOk l∧iter (Qc2 l) (i:Int)=some (.inl ()))∨(¬ brOk l∧iter (Qc2 l) (i:Int)=some (.inr ()))
 |0,i,hi,hp=>by
  refine .inl ⟨⟨hl,fun j hj=>hp j hj (by omega)⟩,Qa3 ?_⟩
  unfold Qc2
  simp only
  rw [if_neg (fun q=>absurd (of_decide_eq_true q) (by omega))]
 |d+1,i,hi,hp=>by
  have hlt:i<l.length:=by omega
  have e:Qc2 l (i:Int)=if 1≤l[i]∧l[i]≤64∧l[i]∉l.take i then some (.inl ((i+1:Nat):Int))else some (.inr (.inr ())):=by
   unfold Qc2
   simp only
   rw [if_pos (decide_eq_true (by omega)),QaT ⟨by omega,by omega⟩,rdnA hlt]
   by_cases g1:l[i]<1
   ·rw [if_pos (decide_eq_true g1),if_neg (show¬ (1≤l[i]∧l[i]≤64∧l[i]∉l.take i) from fun q=>by omega)];rfl
   rw [if_neg (fun q=>g1 (of_decide_eq_true q)),QaT ⟨by omega,by omega⟩]
   simp only [Option.bind_some]
   by_cases g2:64<l[i]
   ·rw [if_pos (decide_eq_true g2),if_neg (show¬ (1≤l[i]∧l[i]≤64∧l[i]∉l.take i) from fun q=>by omega)];rfl
   rw [if_neg (fun q=>g2 (of_decide_eq_true q))]
   have h:=Q0K l hl i hlt i 0 (by omega) (by simp)
   rw [show ((0:Nat):Int)=0 from rfl] at h
   rcases h with⟨h1,h2⟩ |⟨h1,h2⟩
   ·rw [h2,if_pos (show 1≤l[i]∧l[i]≤64∧l[i]∉l.take i from ⟨by omega,by omega,h1⟩),QeK (by omega) (by omega)];rfl
   ·rw [h2,if_neg (show¬ (1≤l[i]∧l[i]≤64∧l[i]∉l.take i) from fun q=>q.2.2 h1)];rfl
  by_cases g:1≤l[i]∧l[i]≤64∧l[i]∉l.take i
  ·rw [if_pos g] at e
   rw [Qa5 e]
   refine QwE l hl d (i+1) (by omega) fun j hj hji=> ?_
   by_cases ej:j=i
   ·subst ej;exact g
   ·exact hp j hj (by omega)
  ·rw [if_neg g] at e
   exact .inr ⟨fun q=>g (q.2 i hlt),Qa3 e⟩
theorem Q1H (l:List Int):∃ b:Bool,Qc8 l=some b∧QcS l=some b∧(b=true↔brOk l):=by
 unfold Qc8 QcS
 by_cases h:7<l.length
 ·rw [if_pos (decide_eq_true (by omega)),if_pos (decide_eq_true (by omega))]
  exact⟨false,rfl,rfl,fun q=>(by cases q),fun q=>absurd q.1 (by omega)⟩
 ·rw [if_neg (fun q=>absurd (of_decide_eq_true q) (by omega)),if_neg (fun q=>absurd (of_decide_eq_true q) (by omega))]
  have h1:=QsS l (by omega) l.length 0 (by omega) (fun j hj hji=>by omega)
  have h2:=QwE l (by omega) l.length 0 (by omega) (fun j hj hji=>by omega)
  rw [show ((0:Nat):Int)=0 from rfl] at h1 h2
  rcases h1 with⟨a1,b1⟩ |⟨a1,b1⟩
  ·rcases h2 with⟨a2,b2⟩ |⟨a2,b2⟩
   ·exact⟨true,by rw [b1];rfl,by rw [b2];rfl,fun _=>a1,fun _=>rfl⟩
   ·exact absurd a1 a2
  ·rcases h2 with⟨a2,b2⟩ |⟨a2,b2⟩
   ·exact absurd a2 a1
   ·exact⟨false,by rw [b1];rfl,by rw [b2];rfl,fun q=>(by cases q),fun q=>absurd q a1⟩
theorem QoN (s:ByteArray):okB (bytesOf s):=by
 intro x hx
 unfold bytesOf at hx
 obtain ⟨b,_,rfl⟩:=List.mem_map.1 hx
 have:=b.toNat_lt
 omega
theorem QyL (s:ByteArray):strOfNums (bytesOf s)=s:=by
 unfold bytesOf strOfNums
 rw [List.map_map]
 have:∀ x∈s.data.toList,((fun n=>UInt8.ofNat n.toNat)∘fun(b:UInt8)=>(b.toNat:Int)) x=x:=by
  intro x _
  show UInt8.ofNat ((x.toNat:Int)).toNat=x
  rw [Int.toNat_natCast]
  simp
 rw [List.map_congr_left this,List.map_id']
theorem Q8A {α β:Type}{x:Option α}{y:α}{f:α→Option β}(h:x=some y):x.bind f=f y:=by rw [h];rfl
def cI (f:Bool) (n:Int):List Int:=if f=true then intB n else[]
def cT (f:Bool) (s:ByteArray):List Int:=if f=true then QlK (bytesOf s)else[]
def cK (f:Bool) (k v:ByteArray) (x:Bool):List Int:=if f=true then QlK (bytesOf k)++(QlK (bytesOf v)++Qo6 x)else[]
def cR (f:Bool) (l:List Int):List Int:=if f=true then rowB l else[]
theorem Qn3 (x:Bool):(Qo6 x).length=1:=by cases x<;>rfl
theorem Q0L (x:Bool):okB (Qo6 x):=by cases x<;>(intro y hy;unfold Qo6 at hy;simp at hy;omega)
theorem Q2O (s:List Int):(QlK s).length≤8+s.length:=by unfold QlK;rw [List.length_append];have:=(QjP (s.length:Int)).1;omega
theorem QuC {s:List Int}(h:okB s):okB (QlK s):=(QgW _).append h
theorem Q0M:∀ (l:List Int),okB (QkX l)
 |[]=>okB.nil
 |x::l=>by rw [Qk8];exact(QgW x).append (Q0M l)
theorem QxI (l:List Int):okB (rowB l):=(QgW _).append (Q0M l)
theorem QiL (l:List Int):(rowB l).length≤8+8*l.length:=by unfold rowB;rw [List.length_append];have:=(QjP (l.length:Int)).1;have:=QyH l;omega
theorem nxt {b pre x post:List Int}(h:b=pre++(x++post)):b=(pre++x)++post:=by rw [List.append_assoc];exact h
abbrev Rec:=QaK
def Q2P (k:Int):Int:=if k=2 then 1027 else if k=3∨k=4∨k=5∨k=6 then 3 else if k=7 then 132 else if k=8 then 6172 else if k=9 then 14366 else if k=10 then 836 else if k=11 then 4 else if k=12 then 32 else 0
def hasR (k bit:Int):Bool:=decide (andI .i64 (Q2P k) bit≠0)
theorem Q8B (k:Int):(k=2∨k=3∨k=4∨k=5∨k=6∨k=7∨k=8∨k=9∨k=10∨k=11∨k=12)∨(k≠2∧k≠3∧k≠4∧k≠5∧k≠6∧k≠7∧k≠8∧k≠9∧k≠10∧k≠11∧k≠12):=by omega
theorem Q1I {k:Int}(h:k≠2∧k≠3∧k≠4∧k≠5∧k≠6∧k≠7∧k≠8∧k≠9∧k≠10∧k≠11∧k≠12):Q2P k=0:=by unfold Q2P;simp [h]
theorem QxJ {k l:Int}{s:ByteArray}{e:Unit⊕Unit}(h:Qa1 k l=(((iter (Qj0 l s) (0:Int)).bind (Sum.elim (fun _=>(some (Sum.inl ()))) (fun _=>(((some true)).bind fun r=>some (Sum.inr r))))):Option (Unit⊕Bool)).bind (Sum.elim (fun _=>(some false)) some)) (n:Nat) (hr:runK n (Qj0 l s) 0=some e):Qa1 k l=some (match e with | .inl _=>false | .inr _=>true):=by
 rw [h,QoM n hr]
 cases e<;>rfl
theorem Q4V {k:Int}(h:k≠2∧k≠3∧k≠4∧k≠5∧k≠6∧k≠7∧k≠8∧k≠9∧k≠10∧k≠11∧k≠12) (l:Int):Qa1 k l=some false:=by
 refine QxJ (s:=⟨#[]⟩) (e:= .inl ()) ?_ 1 rfl
 unfold Qa1
 simp only [decide_eq_false h.1,decide_eq_false h.2.1,decide_eq_false h.2.2.1,decide_eq_false h.2.2.2.1,decide_eq_false h.2.2.2.2.1,decide_eq_false h.2.2.2.2.2.1,decide_eq_false h.2.2.2.2.2.2.1,decide_eq_false h.2.2.2.2.2.2.2.1,decide_eq_false h.2.2.2.2.2.2.2.2.1,decide_eq_false h.2.2.2.2.2.2.2.2.2.1,decide_eq_false h.2.2.2.2.2.2.2.2.2.2,Bool.false_eq_true,if_false,Option.bind_some]
theorem Q6W (k:Int):Qa1 k 98=some (hasR k 1)∧Qa1 k 101=some (hasR k 2)∧Qa1 k 116=some (hasR k 4)∧Qa1 k 112=some (hasR k 8)∧Qa1 k 108=some (hasR k 16)∧Qa1 k 97=some (hasR k 32)∧Qa1 k 102=some (hasR k 64)∧Qa1 k 110=some (hasR k 128)∧Qa1 k 107=some (hasR k 256)∧Qa1 k 118=some (hasR k 512)∧Qa1 k 114=some (hasR k 1024)∧Qa1 k 105=some (hasR k 2048)∧Qa1 k 109=some (hasR k 4096)∧Qa1 k 120=some (hasR k 8192):=by
 rcases Q8B k with(rfl |rfl |rfl |rfl |rfl |rfl |rfl |rfl |rfl |rfl |rfl) |h
 case inr=>
  simp only [Q4V h,hasR,Q1I h]
  decide
 all_goals
  refine⟨?_, ?_, ?_, ?_, ?_, ?_, ?_, ?_, ?_, ?_, ?_, ?_, ?_, ?_⟩
  all_goals first
   |exact(QxJ (e:= .inr ()) rfl 8 rfl).trans (by decide+kernel)
   |exact(QxJ (e:= .inl ()) rfl 8 rfl).trans (by decide+kernel)
def okC (c:Int):Bool:=(decide (97≤c)&&decide (c≤122)) ||(decide (48≤c)&&decide (c≤57)) ||decide (c=46) ||decide (c=45)
def Qe3 (s:ByteArray):Bool:=decide (1≤s.size)&&decide (s.size≤40)&& !decide (s=⟨#[46]⟩)&& !decide (s=⟨#[46,46]⟩)&&(bytesOf s).all okC
theorem Q6X {s:ByteArray}{i:Nat}(h:i<s.size):btAt s (i:Int)=rd (bytesOf s) (i:Int):=by
 have hd:i<s.data.size:=h
 have e1:s[i]?=some s[i]:=getElem?_pos s i h
 have e2:(bytesOf s)[i]?=some ((s.data[i].toNat:Nat):Int):=by
  unfold bytesOf
  rw [List.getElem?_map,Array.getElem?_toList,Array.getElem?_eq_getElem hd]
  rfl
 unfold btAt rd
 rw [Int.toNat_natCast,e1,List.getD_eq_getElem?_getD,e2]
 rfl
theorem Q2Q {c:Int}:(((if(decide ((97:Int)≤c))=true then(if(decide ((48:Int)≤c))=true then(some (decide (c≤(122:Int)),decide (c≤(57:Int))))else(some (decide (c≤(122:Int)),false)))else(if(decide ((48:Int)≤c))=true then(some (false,decide (c≤(57:Int))))else(some (false,false)))):Option (Bool×Bool)).bind fun(x41,x42)=>(if(!x41)=true then(if(!x42)=true then(if(decide (c≠(46:Int)))=true then(some (decide (c≠(45:Int))))else(some false))else(some false))else(some false)))=some (!okC c):=by
 unfold okC
 simp only [ne_eq,decide_not]
 generalize decide (97≤c)=b1
 generalize decide (c≤122)=b2
 generalize decide (48≤c)=b3
 generalize decide (c≤57)=b4
 generalize decide (c=46)=b5
 generalize decide (c=45)=b6
 cases b1<;>cases b2<;>cases b3<;>cases b4<;>cases b5<;>cases b6<;>rfl
theorem Q1J {c:Int}:(if(decide ((97:Int)≤c))=true then(if(decide (c≤(122:Int)))=true then(some true)else(if(decide ((48:Int)≤c))=true then(if(decide (c≤(57:Int)))=true then(some true)else(if(decide (c=(46:Int)))=true then(some true)else(some (decide (c=(45:Int))))))else(if(decide (c=(46:Int)))=true then(some true)else(some (decide (c=(45:Int)))))))else(if(decide ((48:Int)≤c))=true then(if(decide (c≤(57:Int)))=true then(some true)else(if(decide (c=(46:Int)))=true then(some true)else(some (decide (c=(45:Int))))))else(if(decide (c=(46:Int)))=true then(some true)else(some (decide (c=(45:Int)))))))=some (okC c):=by
 unfold okC
 generalize decide (97≤c)=b1
 generalize decide (c≤122)=b2
 generalize decide (48≤c)=b3
 generalize decide (c≤57)=b4
 generalize decide (c=46)=b5
 generalize decide (c=45)=b6
 cases b1<;>cases b2<;>cases b3<;>cases b4<;>cases b5<;>cases b6<;>rfl
theorem Q0N {l:List Int}{i:Nat}(h:i<l.length):(l.drop i).all okC=(okC (rd l (i:Int))&&(l.drop (i+1)).all okC):=by
 rw [List.drop_eq_getElem_cons h,List.all_cons,rdnA h]
theorem QwF (s:ByteArray) (hs:s.size≤1000000):∀ (d i:Nat),i+d=(bytesOf s).length→iter (QeL s) (i:Int)=some (if((bytesOf s).drop i).all okC=true then .inl ()else .inr ())
 |0,i,hi=>by
  refine Qa3 ?_
  rw [List.drop_eq_nil_of_le (by omega)]
  unfold QeL
  simp only
  rw [if_neg (fun q=>absurd (of_decide_eq_true q) (by omega))]
  rfl
 |d+1,i,hi=>by
  have hlt:i<(bytesOf s).length:=by omega
  have hsz:=QcN s
  rw [Q0N hlt]
  have e:QeL s (i:Int)=if(!okC (rd (bytesOf s) (i:Int)))=true then some (.inr (.inr ()))else some (.inl ((i+1:Nat):Int)):=by
   unfold QeL
   simp only
   rw [if_pos (decide_eq_true (by omega)),QaT ⟨by omega,by omega⟩,QeK (by omega) (by omega)]
   have k:=Q2Q (c:=rd (bytesOf s) (i:Int))
   generalize rd (bytesOf s) (i:Int)=c at k⊢
   refine Eq.trans ?_ (Q8A (f:=fun(x47:Bool)=>if x47=true then some (Sum.inr (Sum.inr ()))else some (Sum.inl ((i:Int)+1))) k)
   rw [Option.bind_assoc]
  cases g:okC (rd (bytesOf s) (i:Int))
  ·rw [g] at e
   exact Qa3 e
  ·rw [g] at e
   rw [Qa5 e]
   exact QwF s hs d (i+1) (by omega)
theorem QwG (s:ByteArray) (hs:s.size≤1000000):∀ (d i:Nat),i+d=(bytesOf s).length→iter (QfD s) (i:Int)=some (if((bytesOf s).drop i).all okC=true then .inl ()else .inr ())
 |0,i,hi=>by
  have hsz:=QcN s
  refine Qa3 ?_
  rw [List.drop_eq_nil_of_le (by omega)]
  unfold QfD
  simp only
  rw [if_neg (fun q=>absurd (of_decide_eq_true q) (by omega))]
  rfl
 |d+1,i,hi=>by
  have hlt:i<(bytesOf s).length:=by omega
  have hsz:=QcN s
  rw [Q0N hlt]
  have e:QfD s (i:Int)=if(!okC (rd (bytesOf s) (i:Int)))=true then some (.inr (.inr ()))else some (.inl ((i+1:Nat):Int)):=by
   unfold QfD
   simp only
   rw [if_pos (decide_eq_true (by omega)),QaT ⟨by omega,by omega⟩,QeK (by omega) (by omega),Q6X (by omega)]
   exact Q8A Q1J
  cases g:okC (rd (bytesOf s) (i:Int))
  ·rw [g] at e
   exact Qa3 e
  ·rw [g] at e
   rw [Qa5 e]
   exact QwG s hs d (i+1) (by omega)
theorem JaI {s:ByteArray}:decide (s=(⟨#[]⟩:ByteArray))= !decide (1≤s.size):=by
 by_cases h:s=⟨#[]⟩
 ·subst h;rfl
 ·rw [decide_eq_false h]
  have:1≤s.size:=by
   refine Classical.byContradiction fun z=>h ?_
   have h0:s.data.size=0:=by have:s.size=s.data.size:=rfl;omega
   obtain ⟨d⟩:=s
   congr 1
   exact Array.eq_empty_of_size_eq_zero h0
  rw [decide_eq_true this];rfl
theorem QyM (b1 b2 b3 b4 t:Bool){X:Option (Unit⊕Unit)}(h:b2=true→X=some (if t=true then .inl ()else .inr ())):
  ((((if b1=false then(some true)else(if b2=false then(some true)else(if b3=true then(some true)else(some b4)))):Option Bool).bind fun(x21:Bool)=>(if x21=true then(some false)else(((X.bind (Sum.elim (fun _=>(some (Sum.inl ()))) (fun _=>(((some false)).bind fun r=>some (Sum.inr r))))):Option (Unit⊕Bool)).bind (Sum.elim (fun _=>(some true)) some)))))=some (b1&&b2&& !b3&& !b4&&t):=by
 cases b1
 ·rfl
 cases b2
 ·rfl
 rw [h rfl]
 cases b3
 ·cases b4
  ·cases t<;>rfl
  ·rfl
 ·rfl
theorem QxK (s:ByteArray):QeW s=some (Qe3 s):=by
 have e1:(decide (s=(⟨#[]⟩:ByteArray))=true)=(decide (1≤s.size)=false):=by rw [JaI];cases decide (1≤s.size)<;>simp
 have e2:(decide ((40:Int)<(s.size:Int))=true)=(decide (s.size≤40)=false):=by
  rw [decide_eq_true_eq,decide_eq_false_iff_not];exact propext ⟨fun h=>by omega,fun h=>by omega⟩
 unfold QeW Qe3
 simp only [e1,e2]
 refine QyM _ _ _ _ _ fun h=> ?_
 have h:=of_decide_eq_true h
 have k:=QwF s (by omega) (bytesOf s).length 0 (by omega)
 rw [List.drop_zero] at k
 exact k
theorem QuD (s:ByteArray):QeT s=some (Qe3 s):=by
 have e1:(decide ((s.size:Int)<1)=true)=(decide (1≤s.size)=false):=by
  rw [decide_eq_true_eq,decide_eq_false_iff_not];exact propext ⟨fun h=>by omega,fun h=>by omega⟩
 have e2:(decide ((40:Int)<(s.size:Int))=true)=(decide (s.size≤40)=false):=by
  rw [decide_eq_true_eq,decide_eq_false_iff_not];exact propext ⟨fun h=>by omega,fun h=>by omega⟩
 unfold QeT Qe3
 simp only [e1,e2]
 refine QyM _ _ _ _ _ fun h=> ?_
 have h:=of_decide_eq_true h
 have k:=QwG s (by omega) (bytesOf s).length 0 (by omega)
 rw [List.drop_zero] at k
 exact k
theorem QgT {s:ByteArray}(h:Qe3 s=true):1≤s.size∧s.size≤40:=by
 unfold Qe3 at h
 simp only [Bool.and_eq_true,decide_eq_true_eq] at h
 exact⟨h.1.1.1.1,h.1.1.1.2⟩
def numW (n:Int) (has:Bool) (least most:Int):Bool:=if has=true then decide (least≤n∧n≤most)else decide (n=0)
theorem Q8C (n least most:Int):(if(decide (least≤n))=true then(some (decide (n≤most)))else(some false))=some (decide (least≤n∧n≤most)):=by
 by_cases h:least≤n<;>simp [h]
theorem JaJ (n:Int) (h:Bool) (a c:Int):QdP n h a c=some (numW n h a c):=by
 unfold QdP numW
 rw [Q8C]
 cases h<;>rfl
def Qv1 (s:ByteArray) (has:Bool):Bool:=if has=true then Qe3 s else decide (s=⟨#[]⟩)
def Q4W (s:ByteArray) (has:Bool):Bool:=if has=true then decide ((s.size:Int)≤256)else decide (s=⟨#[]⟩)
theorem Q8D (s:ByteArray) (h:Bool):Qg7 s h=some (Qv1 s h):=by
 unfold Qg7 Qv1
 rw [QuD]
 cases h<;>rfl
open Classical in
noncomputable def brB (l:List Int):Bool:=decide (brOk l)
theorem QlL {l:List Int}:brB l=true↔brOk l:=by unfold brB;simp
theorem Q5U (l:List Int):Qc8 l=some (brB l)∧QcS l=some (brB l):=by
 obtain ⟨b,h1,h2,h3⟩:=Q1H l
 have:b=brB l:=by rw [Bool.eq_iff_iff,h3,QlL]
 rw [←this]
 exact⟨h1,h2⟩
theorem Q8E {l:List Int}(h:¬ brOk l):brB l=false:=by
 cases hb:brB l
 ·rfl
 ·exact absurd (QlL.1 hb) h
theorem pbrB (l:List Int):Qc8 l=some (brB l):=by
 unfold Qc8
 by_cases h:7<l.length
 ·rw [if_pos (decide_eq_true (by omega))]
  rw [Q8E (fun q=>absurd q.1 (by omega))]
 ·rw [if_neg (fun q=>absurd (of_decide_eq_true q) (by omega))]
  have h1:=QsS l (by omega) l.length 0 (by omega) (fun j hj hji=>by omega)
  rw [show ((0:Nat):Int)=0 from rfl] at h1
  rcases h1 with⟨a1,b1⟩ |⟨a1,b1⟩
  ·rw [b1,QlL.2 a1];rfl
  ·rw [b1,Q8E a1];rfl
noncomputable def rowV (l:List Int) (has:Bool):Bool:=if has=true then brB l else decide ((l.length:Int)=0)
theorem JaK (l:List Int) (h:Bool):Qg8 l h=some (rowV l h):=by
 unfold Qg8 rowV
 rw [(Q5U l).2]
 cases h<;>rfl
def Q0O (k:Int):Int:=if k=10 then 0 else 1
theorem Q8F (k:Int):(((if(decide (k=(10:Int)))=true then(some (0:Int))else(some (1:Int))):Option Int))=some (Q0O k):=by
 unfold Q0O
 by_cases h:k=10<;>simp [h]
theorem nz1:(1:Int)≠0:=by decide
theorem nz2:(2:Int)≠0:=by decide
theorem nz5:(5:Int)≠0:=by decide
theorem nz6:(6:Int)≠0:=by decide
theorem nz18:(18:Int)≠0:=by decide
structure okRec (r:Rec):Prop where
 kind:1≤r.Kind∧r.Kind≤12
 broker:numW r.Broker (hasR r.Kind 1) 1 64=true
 epoch:numW r.Epoch (hasR r.Kind 2) 0 1073741824=true
 topic:numW r.Topic (hasR r.Kind 4) (Q0O r.Kind) 1073741824=true
 part:numW r.Part (hasR r.Kind 8) 0 255=true
 leader:numW r.Leader (hasR r.Kind 16) 0 64=true
 client:numW r.Client (hasR r.Kind 32) 1 1073741824=true
 serial:numW r.Serial (hasR r.Kind 32) 1 1073741824=true
 code:numW r.Code (hasR r.Kind 32) 0 21=true
 flag:hasR r.Kind 64=false→r.Flag=false
 name:Qv1 r.Name (hasR r.Kind 128)=true
 key:Qv1 r.Key (hasR r.Kind 256)=true
 rack:Qv1 r.Rack (hasR r.Kind 1024)=true
 value:Q4W r.Value (hasR r.Kind 512)=true
 ids:rowV r.Ids (hasR r.Kind 2048)=true
 isr:rowV r.Isr (hasR r.Kind 4096)=true
 add:rowV r.Add (hasR r.Kind 8192)=true
 drop:rowV r.Drop (hasR r.Kind 8192)=true
theorem Q5V {n:Int}{h:Bool}{a m:Int}(k:numW n h a m=true):(h=true→a≤n∧n≤m)∧(h=false→n=0):=by
 unfold numW at k
 cases h
 ·exact⟨fun q=>(by cases q),fun _=>of_decide_eq_true (by simpa using k)⟩
 ·exact⟨fun _=>of_decide_eq_true (by simpa using k),fun q=>(by cases q)⟩
theorem Q0P {n:Int}{h:Bool}{a m:Int}(k:numW n h a m=true) (ha:0≤a) (hm:0≤m):0≤n∧n≤m:=by
 have:=Q5V k
 cases h
 ·have:=this.2 rfl;omega
 ·have:=this.1 rfl;omega
theorem Q2R {s:ByteArray}{h:Bool}(k:Q4W s h=true):(h=true→s.size≤256)∧(h=false→s=⟨#[]⟩):=by
 unfold Q4W at k
 cases h
 ·exact⟨fun q=>(by cases q),fun _=>of_decide_eq_true (by simpa using k)⟩
 ·exact⟨fun _=>by have:=of_decide_eq_true (p:=(s.size:Int)≤256) (by simpa using k);omega,fun q=>(by cases q)⟩
theorem Qs7 {l:List Int}{h:Bool}(k:rowV l h=true):brOk l∧(h=false→l=[]):=by
 unfold rowV at k
 cases h
 ·have:(l.length:Int)=0:=of_decide_eq_true (by simpa using k)
  have:l=[]:=List.eq_nil_of_length_eq_zero (by omega)
  subst this
  exact⟨⟨by simp,fun i h=>by simp at h⟩,fun _=>rfl⟩
 ·exact⟨QlL.1 (by simpa using k),fun q=>(by cases q)⟩
theorem QsT {l:List Int}(h:brOk l):∀ x∈l,1≤x∧x≤64:=by
 intro x hx
 obtain ⟨i,hi,rfl⟩:=List.getElem_of_mem hx
 exact⟨(h.2 i hi).1,(h.2 i hi).2.1⟩
def cF (f:Bool) (x:Bool):List Int:=if f=true then Qo6 x else[]
def QcF {ε:Type}(g:Nat→Option ε):Nat→Nat→Option ε
 |0,_=>none
 |d+1,i=>match g i with |some e=>some e |none=>QcF g d (i+1)
theorem QvF {ε:Type}{g:Nat→Option ε}:∀ {d i:Nat},QcF g d i=none↔∀ j,i≤j→j<i+d→g j=none
 |0,i=>by simp [QcF];intro j h1 h2;omega
 |d+1,i=>by
  unfold QcF
  cases h:g i with
  |some e=>simp only [reduceCtorEq,false_iff];intro k;have:=k i (by omega) (by omega);rw [h] at this;cases this
  |none=>
   simp only
   rw [QvF]
   constructor
   ·intro k j h1 h2
    by_cases e:j=i
    ·subst e;exact h
    ·exact k j (by omega) (by omega)
   ·intro k j h1 h2;exact k j (by omega) (by omega)
theorem QbV {ε:Type}{g:Nat→Option ε}{n:Nat}:QcF g n 0=none↔∀ j,j<n→g j=none:=
 QvF.trans ⟨fun h j hj=>h j (by omega) (by omega),fun h j _ hj=>h j (by omega)⟩
theorem QmO {ε:Type}{g:Nat→Option ε}{e:ε}:∀ {d i:Nat},QcF g d i=some e→∃ j,i≤j∧j<i+d∧g j=some e∧∀ k,i≤k→k<j→g k=none
 |0,i,h=>by cases h
 |d+1,i,h=>by
  unfold QcF at h
  cases hg:g i with
  |some x=>rw [hg] at h;cases h;exact⟨i,by omega,by omega,hg,fun k h1 h2=>by omega⟩
  |none=>
   rw [hg] at h
   obtain ⟨j,h1,h2,h3,h4⟩:=QmO (d:=d) (i:=i+1) h
   exact⟨j,by omega,by omega,h3,fun k k1 k2=>by
    by_cases e:k=i
    ·subst e;exact hg
    ·exact h4 k (by omega) k2⟩
theorem QvG {α ε:Type}[Inhabited α] (l:List α) (h:α→Option ε):∀ (d i:Nat),i+d=l.length→QcF (fun j=>h (rd l (j:Int))) d i=(l.drop i).findSome? h
 |0,i,hi=>by rw [List.drop_of_length_le (by omega)];rfl
 |d+1,i,hi=>by
  have hlt:i<l.length:=by omega
  unfold QcF
  rw [List.drop_eq_getElem_cons hlt,List.findSome?_cons]
  simp only [QbA hlt]
  cases h l[i]with
  |some e=>rfl
  |none=>exact QvG l h d (i+1) (by omega)
theorem QyN {α ε:Type}[Inhabited α] (l:List α) (h:α→Option ε):QcF (fun j=>h (rd l (j:Int))) l.length 0=l.findSome? h:=QvG l h l.length 0 (by omega)
theorem QxL {α ε:Type}(l:List α) (p:α→Bool) (f:α→ε):l.findSome? (fun x=>if p x=true then some (f x)else none)=(l.find? p).map f:=by
 induction l with
 |nil=>rfl
 |cons x l ih=>
  rw [List.findSome?_cons,List.find?_cons]
  cases p x
  ·simpa using ih
  ·simp
def QxM {ε E:Type}(fin:E) (ex:ε→E):Option ε→E
 |none=>fin
 |some e=>ex e
theorem QcJ {S ε E : Type} {step : S → Option (S ⊕ E)} {n : Nat} {st : Nat → S} {g : Nat → Option ε} {ex : ε → E} {fin : E}
    (hstep : ∀ i, i < n → (∀ j, j < i → g j = none) → step (st i) = some (match g i with | none => .inl (st (i + 1)) | some e => .inr (ex e)))
    (hend : (∀ j, j < n → g j = none) → step (st n) = some (.inr fin)) :
    iter step (st 0) = some (QxM fin ex (QcF g n 0)) := by
  have key : ∀ d i, i + d = n → (∀ j, j < i → g j = none) → iter step (st i) = some (QxM fin ex (QcF g d i)) := by
    intro d
    induction d with
    | zero => intro i hi h; have : i = n := by omega
              subst this; exact Qa3 (hend h)
    | succ d ih =>
      intro i hi h
      have hs := hstep i (by omega) h
      unfold QcF
      cases hg : g i with
      | some e => rw [hg] at hs; exact Qa3 hs
      | none =>
        rw [hg] at hs
        rw [Qa5 hs]
        exact ih (i + 1) (by omega) fun j hj => by
          by_cases e : j = i
          · subst e; exact hg
          · exact h j (by omega)
  exact key n 0 (by omega) (fun j hj => by omega)
def Q1K {σ:Type}(f:Nat→σ→σ):Nat→Nat→σ→σ
 |0,_,a=>a
 |d+1,i,a=>Q1K f d (i+1) (f i a)
theorem Q2S {S σ E : Type} {step : S → Option (S ⊕ E)} {n : Nat} {mk : σ → Nat → S} {f : Nat → σ → σ} {fin : σ → E} (Inv : Nat → σ → Prop) {a0 : σ} (h0 : Inv 0 a0)
    (hstep : ∀ i a, i < n → Inv i a → step (mk a i) = some (.inl (mk (f i a) (i + 1))) ∧ Inv (i + 1) (f i a))
    (hend : ∀ a, Inv n a → step (mk a n) = some (.inr (fin a))) : iter step (mk a0 0) = some (fin (Q1K f n 0 a0)) := by
  have key : ∀ d i a, i + d = n → Inv i a → iter step (mk a i) = some (fin (Q1K f d i a)) := by
    intro d
    induction d with
    | zero => intro i a hi h; have : i = n := by omega
              subst this; exact Qa3 (hend a h)
    | succ d ih =>
      intro i a hi h
      obtain ⟨h1, h2⟩ := hstep i a (by omega) h
      rw [Qa5 h1]
      exact ih (i + 1) _ (by omega) h2
  exact key n 0 a0 (by omega) h0
theorem QwH {α σ:Type}[Inhabited α] (l:List α) (h:σ→α→σ):∀ (d i:Nat) (a:σ),i+d=l.length→Q1K (fun j a=>h a (rd l (j:Int))) d i a=(l.drop i).foldl h a
 |0,i,a,hi=>by rw [List.drop_of_length_le (by omega)];rfl
 |d+1,i,a,hi=>by
  have hlt:i<l.length:=by omega
  unfold Q1K
  rw [List.drop_eq_getElem_cons hlt,List.foldl_cons,QbA hlt]
  exact QwH l h d (i+1) _ (by omega)
theorem QzQ {α σ:Type}[Inhabited α] (l:List α) (h:σ→α→σ) (a:σ):Q1K (fun j a=>h a (rd l (j:Int))) l.length 0 a=l.foldl h a:=QwH l h l.length 0 a (by omega)
theorem Qa0 {i n:Nat}(hi:i<n) (hn:n≤1000000000):IntKind.i64.wrap ((i:Int)+1)=((i+1:Nat):Int):=by
 rw [QeK (by omega) (by omega)];rfl
theorem lt_i {i n:Nat}(h:i<n):decide ((i:Int)<(n:Int))=true:=decide_eq_true (by omega)
theorem lt_n (n:Nat):decide ((n:Int)<(n:Int))=false:=decide_eq_false (by omega)
theorem in_i {i n:Nat}(h:i<n):0≤(i:Int)∧(i:Int)<(n:Int):=⟨by omega,by omega⟩
def cntM {α:Type}[DecidableEq α] (m:List (α×Int)) (x:α):List (α×Int):=QeC m x (IntKind.i64.wrap (Qb1 m x+1))
def QlR {α:Type}[DecidableEq α] (l:List α):List (α×Int):=l.foldl cntM []
def cnt {α:Type}[DecidableEq α] (l:List α) (q:α):Nat:=(l.filter fun x=>decide (x=q)).length
def inL {α:Type}[DecidableEq α] (l:List α) (q:α):Bool:=l.any fun x=>decide (x=q)
theorem QsU {α:Type}[DecidableEq α]{l:List α}{q:α}:inL l q=true↔q∈l:=by
 unfold inL
 rw [List.any_eq_true]
 constructor
 ·rintro ⟨x,hx,e⟩;rw [←of_decide_eq_true e];exact hx
 ·intro h;exact⟨q,h,decide_eq_true rfl⟩
theorem QsV {α:Type}[DecidableEq α]{l:List α}{q:α}:0<cnt l q↔q∈l:=by
 unfold cnt
 rw [List.length_pos_iff_exists_mem]
 constructor
 ·rintro ⟨x,hx⟩;obtain ⟨h1,h2⟩:=List.mem_filter.1 hx;rw [←of_decide_eq_true h2];exact h1
 ·intro h;exact⟨q,List.mem_filter.2 ⟨h,decide_eq_true rfl⟩⟩
theorem QwI {α:Type}[DecidableEq α] (l m:List α) (q:α):cnt (l++m) q=cnt l q+cnt m q:=by unfold cnt;simp
theorem Q2T {α:Type}[DecidableEq α] (q:α):cnt [q] q=1:=by unfold cnt;simp
theorem QyO {α:Type}[DecidableEq α]:∀ (l:List α) (m:List (α×Int)) (k:Nat) (q:α),(∀ x,0≤Qb1 m x∧Qb1 m x≤(k:Int))→k+l.length≤1000000000→
  Qb1 (l.foldl cntM m) q=Qb1 m q+(cnt l q:Int)
 |[],m,k,q,_,_=>by simp [cnt]
 |x::l,m,k,q,h,hk=>by
  simp only [List.length_cons] at hk
  have hx:=h x
  have hw:IntKind.i64.wrap (Qb1 m x+1)=Qb1 m x+1:=QeK (by omega) (by omega)
  rw [List.foldl_cons,QyO l (cntM m x) (k+1) q _ (by omega)]
  ·unfold cntM cnt
   rw [Qj7,hw,List.filter_cons]
   by_cases e:q=x
   ·subst e;simp;omega
   ·have:¬ x=q:=Ne.symm e
    simp [e,this]
  ·intro y
   unfold cntM
   rw [Qj7,hw]
   have:=h y
   split<;>omega
theorem Q2U {α:Type}[DecidableEq α] (l:List α) (q:α) (hl:l.length≤1000000000):Qb1 (QlR l) q=(cnt l q:Int):=by
 unfold QlR
 rw [QyO l [] 0 q (fun x=>by simp [Qb1]) (by omega)]
 simp [Qb1]
abbrev Img:=QaA
abbrev Bk:=QaE
abbrev Tp:=QaC
abbrev Pt:=QaH
abbrev Cf:=QaJ
abbrev Dn:=Qa4
theorem nat0:((0:Nat):Int)=0:=rfl
noncomputable def idxV {α:Type}[Inhabited α] (l:List α) (p:α→Bool):Int:=
 match QcF (fun i=>if p (rd l (i:Int))=true then some (i:Int)else none) l.length 0 with
 |none=> -1
 |some e=>e
theorem Q2V {α:Type}[Inhabited α] (l:List α) (p:α→Bool):decide (0≤idxV l p)=l.any p:=by
 unfold idxV
 cases h:QcF (fun i=>if p (rd l (i:Int))=true then some (i:Int)else none) l.length 0 with
 |none=>
  have:=QbV.1 h
  have:l.any p=false:=by
   rw [List.any_eq_false]
   intro x hx
   obtain ⟨i,hi,rfl⟩:=List.getElem_of_mem hx
   have:=this i hi
   rw [QbA hi] at this
   intro q;rw [if_pos q] at this;cases this
  rw [this];rfl
 |some e=>
  obtain ⟨j,_,hj,h3,_⟩:=QmO h
  rw [QbA (by omega)] at h3
  by_cases q:p l[j]=true
  ·rw [if_pos q] at h3
   cases h3
   have:l.any p=true:=List.any_eq_true.2 ⟨_,List.getElem_mem _,q⟩
   rw [this];exact decide_eq_true (Int.natCast_nonneg j)
  ·rw [if_neg q] at h3;cases h3
theorem Q0Q {α:Type}[Inhabited α]{l:List α}{p:α→Bool}{step:Int→Option (Int⊕(Unit⊕Int))}
  (hs:∀ i:Nat,(hi:i<l.length)→step (i:Int)=some (if p l[i]=true then .inr (.inr (i:Int))else .inl ((i+1:Nat):Int))) (he:step (l.length:Int)=some (.inr (.inl ()))):
  (((iter step 0).bind (Sum.elim (fun _=>(some (Sum.inl ()))) (fun(x24:Int)=>(((some x24)).bind fun r=>some (Sum.inr r))))):Option (Unit⊕Int)).bind (Sum.elim (fun _=>(some (-1:Int))) some)=some (idxV l p):=by
 have:=QcJ (step:=step) (n:=l.length) (st:=fun i=>(i:Int)) (g:=fun i=>if p (rd l (i:Int))=true then some (i:Int)else none) (ex:=fun e=> .inr e) (fin:= .inl ())
  (fun i hi _=>by
   rw [hs i hi,QbA hi]
   cases p l[i]<;>rfl) (fun _=>he)
 rw [nat0] at this
 rw [this]
 unfold idxV
 cases QcF (fun i=>if p (rd l (i:Int))=true then some (i:Int)else none) l.length 0<;>rfl
def QgN (m:Img) (id:Int):Bool:=m.Topics.any fun t=>t.Parts.any fun p=>decide (p.Leader=id)
theorem Q8G (l:List Pt) (id:Int) (hl:l.length≤1000000000):QbL l id=some (l.any fun p=>decide (p.Leader=id)):=by
 unfold QbL Qb4
 rw [Q0Q (l:=l) (p:=fun p=>decide (p.Leader=id))]
 ·rw [←Q2V];rfl
 ·intro i hi
  unfold QbZ QhX
  simp only [lt_i hi,if_true,QaT (in_i hi),QbA hi,Option.bind_some,Qa0 hi hl]
  by_cases h:l[i].Leader=id
  ·simp [h]
  ·simp [h]
 ·unfold QbZ
  simp [lt_n]
theorem Q8H (l:List Tp) (id:Int) (hl:l.length≤1000000000) (hp:∀ t∈l,t.Parts.length≤1000000000):QbN l id=some (l.any fun t=>t.Parts.any fun p=>decide (p.Leader=id)):=by
 unfold QbN QcD
 rw [Q0Q (l:=l) (p:=fun t=>t.Parts.any fun p=>decide (p.Leader=id))]
 ·rw [←Q2V];rfl
 ·intro i hi
  unfold Qb2 Qi6
  simp only [lt_i hi,if_true,QaT (in_i hi),QbA hi,Q8G _ _ (hp _ (List.getElem_mem hi)),Option.bind_some,Qa0 hi hl]
  cases (l[i].Parts.any fun p=>decide (p.Leader=id))<;>rfl
 ·unfold Qb2
  simp [lt_n]
theorem Q4X (m:Img) (id:Int) (hl:m.Topics.length≤1000000000) (hp:∀ t∈m.Topics,t.Parts.length≤1000000000):Qi7 m id=some (QgN m id):=by
 unfold Qi7
 rw [Q8H _ _ hl hp];rfl
theorem Q2W {i j:Nat}(h:i+j≤4000000000):IntKind.i64.wrap (shrI .u64 (IntKind.u64.wrap (IntKind.i64.wrap ((i:Int)+(j:Int)))) (1:Int))=(((i+j)/2:Nat):Int):=by
 rw [show IntKind.i64.wrap ((i:Int)+(j:Int))=(i:Int)+(j:Int) from QeK (by omega) (by omega),show IntKind.u64.wrap ((i:Int)+(j:Int))=(i:Int)+(j:Int) from Qw0 (by omega) (by omega)]
 unfold shrI
 rw [show min ((1:Int).toNat) IntKind.u64.bits=1 by decide,Int.fdiv_eq_ediv_of_nonneg _ (by decide)]
 rw [QeK (by omega) (by omega)]
 omega
theorem Q4Y {α:Type}{l:List α}{key:α→Int}{t:Int}{step:Int×Int→Option ((Int×Int)⊕Int)}
  (hb:∀ x∈l,0≤key x∧key x≤1073741824) (hso:∀ a b,(ha:a<l.length)→(hb:b<l.length)→a<b→key l[a]<key l[b])
  (hs:∀ i j:Nat,(h1:i<j)→(h2:j≤l.length)→step ((i:Int),(j:Int))=some (.inl (if IntKind.i64.wrap (key (l[(i+j)/2]'(by omega))- t)<0 then((((i+j)/2+1:Nat):Int),(j:Int))else((i:Int),(((i+j)/2:Nat):Int)))))
  (he:∀ i:Nat,step ((i:Int),(i:Int))=some (.inr (i:Int))):
  ∃ r:Nat,r≤l.length∧iter step ((0:Int),(l.length:Int))=some (r:Int)∧∀ k,(hk:k<l.length)→key l[k]=t→r=k:=by
 have main:∀ (d i j:Nat),j - i≤d→i≤j→j≤l.length→∃ r:Nat,r≤l.length∧iter step ((i:Int),(j:Int))=some (r:Int)∧∀ k,(hk:k<l.length)→key l[k]=t→i≤k→k≤j→r=k:=by
  intro d
  induction d with
  |zero=>
   intro i j h1 h2 h3
   have:i=j:=by omega
   subst this
   exact⟨i,h3,Qa3 (he i),fun k _ _ _ _=>by omega⟩
  |succ d ih=>
   intro i j h1 h2 h3
   by_cases e:i=j
   ·subst e;exact⟨i,h3,Qa3 (he i),fun k _ _ _ _=>by omega⟩
   have hlt:i<j:=by omega
   have hst:=hs i j hlt h3
   have hm:(i+j)/2<l.length:=by omega
   have hkey:∀ k,(hk:k<l.length)→key l[k]=t→(IntKind.i64.wrap (key l[(i+j)/2]- t)<0↔(i+j)/2<k):=by
    intro k hk hkt
    have b1:=hb _ (List.getElem_mem hm)
    have b2:=hb _ (List.getElem_mem hk)
    rw [QeK (by omega) (by omega)]
    rcases Nat.lt_trichotomy ((i+j)/2) k with q |q |q
    ·have:=hso _ _ hm hk q;constructor<;>intro<;>omega
    ·subst q;constructor<;>intro<;>omega
    ·have:=hso _ _ hk hm q;constructor<;>intro<;>omega
   by_cases g:IntKind.i64.wrap (key l[(i+j)/2]- t)<0
   ·rw [if_pos g] at hst
    obtain ⟨r,h4,h5,h6⟩:=ih ((i+j)/2+1) j (by omega) (by omega) h3
    exact⟨r,h4,(Qa5 hst).trans h5,fun k hk hkt h7 h8=>h6 k hk hkt (by have:=(hkey k hk hkt).1 g;omega) h8⟩
   ·rw [if_neg g] at hst
    obtain ⟨r,h4,h5,h6⟩:=ih i ((i+j)/2) (by omega) (by omega) (by omega)
    exact⟨r,h4,(Qa5 hst).trans h5,fun k hk hkt h7 h8=>h6 k hk hkt h7 (by
     rcases Nat.lt_or_ge ((i+j)/2) k with q |q
     ·exact absurd ((hkey k hk hkt).2 q) g
     ·exact q)⟩
 obtain ⟨r,h1,h2,h3⟩:=main l.length 0 l.length (by omega) (by omega) (Nat.le_refl _)
 exact⟨r,h1,h2,fun k hk hkt=>h3 k hk hkt (by omega) (by omega)⟩
def i64 (t:Int):Prop:=-9223372036854775808≤t∧t≤9223372036854775807
theorem QyP {a t:Int}(ha:0≤a∧a≤1073741824) (ht:i64 t):IntKind.i64.wrap (a - t)=0↔a=t:=by
 unfold i64 at ht
 by_cases h:a - t≤9223372036854775807
 ·rw [QeK (by omega) h];omega
 ·constructor
  ·intro q
   exfalso
   have e:IntKind.i64.wrap (a - t)=a - t - 18446744073709551616:=by
    simp only [IntKind.wrap,IntKind.signed,IntKind.bits];simp;omega
   omega
  ·intro q;omega
structure SortK {α:Type}(key:α→Int) (l:List α):Prop where
 bound:∀ x∈l,0≤key x∧key x≤1073741824
 sort:l.Pairwise (fun a b=>key a<key b)
theorem SortK.at {α:Type}{key:α→Int}{l:List α}(h:SortK key l):∀ a b,(ha:a<l.length)→(hb:b<l.length)→a<b→key l[a]<key l[b]:=
 fun a b ha hb hab=>List.pairwise_iff_getElem.1 h.sort a b ha hb hab
def QdJ {α:Type}(key:α→Int) (l:List α) (t:Int):Option α:=l.find? fun x=>decide (key x=t)
theorem QxN {α:Type}{key:α→Int}{l:List α}(h:SortK key l){t:Int}{k:Nat}(hk:k<l.length) (hkt:key l[k]=t):QdJ key l t=some l[k]:=by
 unfold QdJ
 cases e:l.find? fun x=>decide (key x=t)with
 |none=>exact absurd hkt (by simpa using List.find?_eq_none.1 e _ (List.getElem_mem hk))
 |some x=>
  have h1:key x=t:=by simpa using List.find?_some e
  obtain ⟨j,hj,rfl⟩:=List.getElem_of_mem (List.mem_of_find?_eq_some e)
  rcases Nat.lt_trichotomy j k with q |q |q
  ·have:=h.at _ _ hj hk q;omega
  ·subst q;rfl
  ·have:=h.at _ _ hk hj q;omega
theorem Q0R {α:Type}{key:α→Int}{l:List α}{t:Int}(h:∀ k,(hk:k<l.length)→key l[k]≠t):QdJ key l t=none:=by
 unfold QdJ
 rw [List.find?_eq_none]
 intro x hx
 obtain ⟨j,hj,rfl⟩:=List.getElem_of_mem hx
 simpa using h j hj
theorem QyQ {α:Type}[Inhabited α]{key:α→Int}{l:List α}(h:SortK key l) (hl:l.length≤1000000000){t:Int}(ht:i64 t){step:Int×Int→Option ((Int×Int)⊕Int)}{c:α→Int→Option Int}(hc:∀ x,c x t=some (IntKind.i64.wrap (key x - t)))
  (hs:∀ i j:Nat,(h1:i<j)→(h2:j≤l.length)→step ((i:Int),(j:Int))=some (.inl (if IntKind.i64.wrap (key (l[(i+j)/2]'(by omega))- t)<0 then((((i+j)/2+1:Nat):Int),(j:Int))else((i:Int),(((i+j)/2:Nat):Int)))))
  (he:∀ i:Nat,step ((i:Int),(i:Int))=some (.inr (i:Int))):
  ∃ r:Nat,((((iter step ((0:Int),(l.length:Int))).bind (fun(x26:Int)=>(some x26))):Option Int).bind fun x21=>(((if(decide (x21<(l.length:Int)))=true then(grd (0≤x21∧x21<l.length) ((c (rd l x21) t).bind fun r52=>(some (x21,decide (r52=(0:Int))))))else(some (x21,false))):Option (Int×Bool)).bind fun(x41,x42)=>(some (x41,x42))))=some ((r:Int),(QdJ key l t).isSome)∧
   ∀ x,QdJ key l t=some x→∃ hr:r<l.length,l[r]=x:=by
 obtain ⟨r,h1,h2,h3⟩:=Q4Y (l:=l) (key:=key) (t:=t) h.bound h.at hs he
 refine⟨r, ?_, ?_⟩
 ·rw [h2]
  simp only [Option.bind_some]
  by_cases hr:r<l.length
  ·rw [lt_i hr,if_pos rfl,QaT (in_i hr),QbA hr,hc]
   simp only [Option.bind_some]
   by_cases e:key l[r]=t
   ·rw [QxN h hr e,decide_eq_true ((QyP (h.bound _ (List.getElem_mem hr)) ht).2 e)];rfl
   ·have:QdJ key l t=none:=Q0R fun k hk hkt=>e (by have:=h3 k hk hkt;subst this;exact hkt)
    rw [this,decide_eq_false (fun q=>e ((QyP (h.bound _ (List.getElem_mem hr)) ht).1 q))];rfl
  ·have:QdJ key l t=none:=Q0R fun k hk hkt=>hr (by have:=h3 k hk hkt;omega)
   rw [this,decide_eq_false (by omega)];rfl
 ·intro x hx
  unfold QdJ at hx
  have e1:key x=t:=by simpa using List.find?_some hx
  obtain ⟨j,hj,rfl⟩:=List.getElem_of_mem (List.mem_of_find?_eq_some hx)
  have:=h3 j hj e1
  subst this
  exact⟨hj,rfl⟩
abbrev bz:Bk:=⟨0,0,⟨#[]⟩,false,false⟩
abbrev tz:Tp:=⟨0,⟨#[]⟩,[]⟩
abbrev bkId (b:Bk):Int:=b.Id
abbrev tpId (t:Tp):Int:=t.Id
def getV {α:Type}(z:α):Option α→α×Bool
 |some x=>(x,true)
 |none=>(z,false)
theorem QyR {m:Img}(h:SortK bkId m.Brokers) (hl:m.Brokers.length≤1000000000){t:Int}(ht:i64 t):QgP m t=some (getV bz (QdJ bkId m.Brokers t)):=by
 unfold QgP Qj2 QcK QaW
 obtain ⟨r,h1,h2⟩:=QyQ (step:=QaO m.Brokers t) (c:=QbX) h hl ht (fun x=>rfl)
  (fun i j h1 h2=>by
   unfold QaO
   have hm:(i+j)/2<m.Brokers.length:=by omega
   simp only [Q2W (i:=i) (j:=j) (by omega)]
   rw [if_pos (decide_eq_true (by omega)),QaT (in_i hm),QbA hm,Qa0 hm hl]
   show (if decide (IntKind.i64.wrap (m.Brokers[(i+j)/2].Id - t)<0)=true then _ else _)=_
   by_cases g:IntKind.i64.wrap (m.Brokers[(i+j)/2].Id - t)<0
   ·rw [if_pos (decide_eq_true g),if_pos g]
   ·rw [if_neg (fun q=>g (of_decide_eq_true q)),if_neg g])
  (fun i=>by unfold QaO;simp)
 rw [h1]
 simp only [Option.bind_some]
 cases e:QdJ bkId m.Brokers t with
 |none=>rfl
 |some x=>
  obtain ⟨hr,hx⟩:=h2 x e
  simp only [Option.isSome_some,Bool.not_true,Bool.false_eq_true,if_false]
  rw [QaT (in_i hr),QbA hr,hx];rfl
theorem Q4Z {m:Img}(h:SortK tpId m.Topics) (hl:m.Topics.length≤1000000000){t:Int}(ht:i64 t):QjA m t=some (getV tz (QdJ tpId m.Topics t)):=by
 unfold QjA Qk5 QcQ QaZ
 obtain ⟨r,h1,h2⟩:=QyQ (step:=QaP m.Topics t) (c:=Qb3) h hl ht (fun x=>rfl)
  (fun i j h1 h2=>by
   unfold QaP
   have hm:(i+j)/2<m.Topics.length:=by omega
   simp only [Q2W (i:=i) (j:=j) (by omega)]
   rw [if_pos (decide_eq_true (by omega)),QaT (in_i hm),QbA hm,Qa0 hm hl]
   show (if decide (IntKind.i64.wrap (m.Topics[(i+j)/2].Id - t)<0)=true then _ else _)=_
   by_cases g:IntKind.i64.wrap (m.Topics[(i+j)/2].Id - t)<0
   ·rw [if_pos (decide_eq_true g),if_pos g]
   ·rw [if_neg (fun q=>g (of_decide_eq_true q)),if_neg g])
  (fun i=>by unfold QaP;simp)
 rw [h1]
 simp only [Option.bind_some]
 cases e:QdJ tpId m.Topics t with
 |none=>rfl
 |some x=>
  obtain ⟨hr,hx⟩:=h2 x e
  simp only [Option.isSome_some,Bool.not_true,Bool.false_eq_true,if_false]
  rw [QaT (in_i hr),QbA hr,hx];rfl
def QrL (m:Img) (id:Int):Bool:=match QdJ bkId m.Brokers id with |some b=> !b.Fenced |none=>false
theorem Q40 {m:Img}(h:SortK bkId m.Brokers) (hl:m.Brokers.length≤1000000000){t:Int}(ht:i64 t):QhY m t=some (QrL m t):=by
 unfold QhY QrL
 rw [QyR h hl ht]
 cases QdJ bkId m.Brokers t<;>rfl
theorem QeG {ε:Type}{step:Int→Option (Int⊕(Unit⊕Unit))}{n:Nat}{p:Nat→Bool}{A:ε}(hs:∀ i:Nat,i<n→step (i:Int)=some (if p i=true then .inl ((i+1:Nat):Int)else .inr (.inr ()))) (he:step (n:Int)=some (.inr (.inl ()))){K:Option ε}(b:Bool)
  (hb:b=true↔∀ i,i<n→p i=true):
  ((((iter step (0:Int)).bind (Sum.elim (fun _=>(some (Sum.inl ()))) (fun _=>(((some A)).bind fun r=>some (Sum.inr r))))):Option (Unit⊕ε)).bind (Sum.elim (fun _=>K) some))=if b=true then K else some A:=by
 have:=QcJ (step:=step) (n:=n) (st:=fun i=>(i:Int)) (g:=fun i=>if p i=true then none else some ()) (ex:=fun e=> .inr ()) (fin:= .inl ())
  (fun i hi _=>by
   rw [hs i hi]
   cases p i<;>rfl) (fun _=>he)
 rw [nat0] at this
 rw [this]
 cases h:QcF (fun i=>if p i=true then none else some ()) n 0 with
 |none=>
  have h1:=QbV.1 h
  have:b=true:=hb.2 fun i hi=>by
   have:=h1 i hi
   cases q:p i
   ·simp [q] at this
   ·rfl
  rw [if_pos this];rfl
 |some e=>
  obtain ⟨j,_,hj,h3,_⟩:=QmO h
  have:¬ b=true:=fun q=>by rw [if_pos (hb.1 q j (by omega))] at h3;cases h3
  rw [if_neg this];rfl
def QeH (a b:List Int):Bool:=a.all fun x=>decide (x∈b)
theorem Qn4 {α:Type}{l:List α}{p:α→Bool}{q:Nat→Bool}(h:∀ i,(hi:i<l.length)→q i=p l[i]):l.all p=true↔∀ i,i<l.length→q i=true:=by
 rw [List.all_eq_true]
 constructor
 ·intro k i hi;rw [h i hi];exact k _ (List.getElem_mem hi)
 ·intro k x hx;obtain ⟨i,hi,rfl⟩:=List.getElem_of_mem hx;rw [←h i hi];exact k i hi
theorem Qn5 (a b:List Int) (ha:a.length≤1000000000) (hb:b.length≤1000000000):QdX a b=some (QeH a b):=by
 unfold QdX
 have h1:=Q2S (step:=QgF b) (n:=b.length) (mk:=fun m i=>(m,(i:Int))) (f:=fun i m=>cntM m (rd b (i:Int))) (fin:=fun m=>m) (fun _ _=>True) (a0:=[]) trivial
  (fun i m hi _=>⟨by unfold QgF;simp only [lt_i hi,if_true,QaT (in_i hi),Qa0 hi hb];rfl,trivial⟩)
  (fun m _=>by unfold QgF;simp [lt_n])
 rw [nat0,QzQ b cntM] at h1
 rw [h1,Option.bind_some,Option.bind_some]
 have hm:=Q2U b (hl:=hb)
 rw [QeG (step:=QgG a (b.foldl cntM [])) (n:=a.length) (p:=fun i=>decide (rd a (i:Int)∈b)) (A:=false) (K:=some true) (b:=QeH a b)]
 ·cases QeH a b<;>rfl
 ·intro i hi
  unfold QgG
  simp only [lt_i hi,if_true,QaT (in_i hi),Qa0 hi ha,QbA hi]
  have:Qb1 (b.foldl cntM []) a[i]=(cnt b a[i]:Int):=hm _
  rw [this]
  by_cases q:a[i]∈b
  ·have:0<cnt b a[i]:=QsV.2 q
   rw [if_neg (fun z=>by have:=of_decide_eq_true z;omega),if_pos (decide_eq_true q)]
  ·have:cnt b a[i]=0:=Nat.eq_zero_of_not_pos fun z=>q (QsV.1 z)
   rw [if_pos (decide_eq_true (by omega)),if_neg (fun z=>q (of_decide_eq_true z))]
 ·unfold QgG;simp [lt_n]
 ·exact Qn4 fun i hi=>by rw [QbA hi]
theorem Qo7 (a b:Bool):(if a=true then some true else some b)=some (a ||b):=by cases a<;>rfl
theorem QjV (a b:Bool):(if a=true then some b else some false)=some (a&&b):=by cases a<;>rfl
def hasB (m:Img) (id:Int):Bool:=(QdJ bkId m.Brokers id).isSome
noncomputable def part1 (p:Pt):Bool:=brB p.Ids&&brB p.Isr&&brB p.Add&&brB p.Drop
def Qv2 (p:Pt):Bool:=decide ((p.Ids.length:Int)=0) ||(decide ((p.Isr.length:Int)=0) ||(decide (p.Epoch<0) ||decide (1073741824<p.Epoch)))
def QzR (p:Pt):Bool:=QeH p.Isr p.Ids&&QeH p.Add p.Ids&&QeH p.Drop p.Ids
def Qp8 (m:Img) (p:Pt):Bool:=decide (p.Leader=0) ||(decide (p.Leader∈p.Isr)&&QrL m p.Leader)
def Q1L (p:Pt):Bool:=p.Add.all fun x=> !decide (x∈p.Drop)
noncomputable def QjQ (m:Img) (p:Pt):Bool:=part1 p&&((p.Ids.all fun x=>hasB m x)&&(!Qv2 p&&(QzR p&&(Qp8 m p&&Q1L p))))
theorem Q0S {l:List Int}(h:brOk l){x:Int}(hx:x∈l):i64 x:=by
 have:=QsT h x hx
 unfold i64;omega
theorem Q2X (x:Int) (l:List Int):QeH [x] l=decide (x∈l):=by unfold QeH;simp
theorem Q41 {p:Int→Bool}{q:List Int→Bool}(a b c d:List Int):[a,b,c,d].all q=(q a&&q b&&q c&&q d):=by simp [Bool.and_assoc]
theorem Q6Y {m:Img}(hB:SortK bkId m.Brokers) (hl:m.Brokers.length≤1000000000) (p:Pt):QlE m p=some (QjQ m p):=by
 unfold QlE
 rw [QeG (step:=Qh9 p) (n:=[p.Ids,p.Isr,p.Add,p.Drop].length) (p:=fun i=>brB (rd [p.Ids,p.Isr,p.Add,p.Drop] (i:Int))) (b:=part1 p)]
 ·unfold QjQ
  by_cases h1:part1 p=true
  ·rw [if_pos h1,h1]
   have g1:=h1
   unfold part1 at g1
   simp only [Bool.and_eq_true] at g1
   obtain ⟨⟨⟨g1,g2⟩,g3⟩,g4⟩:=g1
   have b1:=QlL.1 g1;have b2:=QlL.1 g2;have b3:=QlL.1 g3;have b4:=QlL.1 g4
   have l1:=b1.1;have l2:=b2.1;have l3:=b3.1;have l4:=b4.1
   rw [QeG (step:=QiA m p) (n:=p.Ids.length) (p:=fun i=>hasB m (rd p.Ids (i:Int))) (b:=p.Ids.all fun x=>hasB m x)]
   ·by_cases h2:(p.Ids.all fun x=>hasB m x)=true
    ·rw [if_pos h2,h2]
     simp only [Qo7,Qn5 p.Isr p.Ids (by omega) (by omega),Qn5 p.Add p.Ids (by omega) (by omega),Qn5 p.Drop p.Ids (by omega) (by omega),Qn5 [p.Leader] p.Isr (by simp) (by omega),Q2X,Option.bind_some]
     show (if Qv2 p=true then some false else _)=_
     by_cases h3:Qv2 p=true
     ·rw [if_pos h3,h3];rfl
     ·rw [if_neg h3]
      have h3':Qv2 p=false:=by simpa using h3
      rw [h3',show (!QeH p.Isr p.Ids ||(!QeH p.Add p.Ids || !QeH p.Drop p.Ids))= !QzR p by unfold QzR;simp [Bool.not_and,Bool.or_assoc]]
      by_cases h4:QzR p=true
      ·rw [h4]
       simp only [Bool.not_true,Bool.false_eq_true,if_false]
       have hA:((if decide (p.Leader≠0)=true then if(!decide (p.Leader∈p.Isr))=true then some true else(QhY m p.Leader).bind fun r104=>some (!r104)else some false:Option Bool))=some (!Qp8 m p):=by
        unfold Qp8
        by_cases q:p.Leader=0
        ·simp [q]
        ·rw [if_pos (by simpa using q)]
         by_cases q2:p.Leader∈p.Isr
         ·rw [if_neg (by simp [q2]),Q40 hB hl (Q0S b2 q2)]
          simp [q,q2]
         ·simp [q,q2]
       rw [hA]
       simp only [Option.bind_some]
       by_cases h5:Qp8 m p=true
       ·rw [h5]
        simp only [Bool.not_true,Bool.false_eq_true,if_false]
        refine(QeG (step:=QiB p) (n:=p.Add.length) (p:=fun i=> !decide (rd p.Add (i:Int)∈p.Drop)) (A:=false) (K:=some true) (b:=Q1L p) ?_ ?_ ?_).trans ?_
        rotate_left 3
        ·cases Q1L p<;>rfl
        ·intro i hi
         unfold QiB
         simp only [lt_i hi,if_true,QaT (in_i hi),Qa0 hi (show p.Add.length≤1000000000 by omega),QbA hi,Qn5 [p.Add[i]] p.Drop (by simp) (by omega),Q2X,Option.bind_some]
         cases decide (p.Add[i]∈p.Drop)<;>rfl
        ·unfold QiB;simp [lt_n]
        ·exact Qn4 fun i hi=>by rw [QbA hi]
       ·have h5':Qp8 m p=false:=by simpa using h5
        rw [h5'];rfl
      ·have h4':QzR p=false:=by simpa using h4
       rw [h4'];rfl
    ·have h2':(p.Ids.all fun x=>hasB m x)=false:=by simpa using h2
     rw [if_neg h2,h2'];rfl
   ·intro i hi
    unfold QiA
    simp only [lt_i hi,if_true,QaT (in_i hi),Qa0 hi (show p.Ids.length≤1000000000 by omega),QbA hi]
    rw [QyR hB hl (Q0S b1 (List.getElem_mem hi))]
    unfold hasB
    cases QdJ bkId m.Brokers p.Ids[i]<;>rfl
   ·unfold QiA;simp [lt_n]
   ·exact Qn4 fun i hi=>by rw [QbA hi]
  ·have h1':part1 p=false:=by simpa using h1
   rw [if_neg h1,h1'];rfl
 ·intro i hi
  unfold Qh9
  simp only [lt_i hi,if_true,QaT (in_i hi),Qa0 hi (show [p.Ids,p.Isr,p.Add,p.Drop].length≤1000000000 by simp),QbA hi,pbrB,Option.bind_some]
  cases brB ([p.Ids,p.Isr,p.Add,p.Drop][i])<;>rfl
 ·unfold Qh9;simp [lt_n]
 ·unfold part1
  rw [←Q41 (p:=fun _=>true) (q:=brB) p.Ids p.Isr p.Add p.Drop]
  exact Qn4 fun i hi=>by rw [QbA hi]
abbrev Q8I:ByteArray:=⟨#[98,114,111,107,101,114]⟩
abbrev QzS:ByteArray:=⟨#[116,111,112,105,99]⟩
abbrev Q42:ByteArray:=⟨#[112,97,114,116]⟩
abbrev Q8J:ByteArray:=⟨#[99,111,110,102,105,103]⟩
abbrev dnOp:ByteArray:=⟨#[100,111,110,101]⟩
abbrev R16:=ByteArray×Int×Int×Option Int
def toG:Option R16→GErr
 |none=> .nil
 |some (o,a,c,none)=> .fault o a (.code c)
 |some (o,a,c,some k)=> .fault o a (.fault Q42 k (.code c))
structure limM (m:Img):Prop where
 bk:m.Brokers.length≤1000000
 tp:m.Topics.length≤1000000
 pt:∀ t∈m.Topics,t.Parts.length≤1000000
 cf:m.Configs.length≤1000000
 dn:m.Done.length≤1000000
def lowB (m:Img) (i:Nat):Int:=if i=0 then 0 else(rd m.Brokers ((i - 1:Nat):Int)).Id
def brG (m:Img) (i:Nat):Option R16:=
 if(decide ((rd m.Brokers (i:Int)).Id≤lowB m i) ||(decide (64<(rd m.Brokers (i:Int)).Id) ||(decide ((rd m.Brokers (i:Int)).Epoch<0) ||(decide (1073741824<(rd m.Brokers (i:Int)).Epoch) || !Qe3 (rd m.Brokers (i:Int)).Rack))))=true then some (Q8I,(i:Int),2,none)
 else if((rd m.Brokers (i:Int)).Fenced&&((rd m.Brokers (i:Int)).Leaving&&QgN m (rd m.Brokers (i:Int)).Id))=true then some (Q8I,(i:Int),10,none)else none
theorem QvH (m:Img) (i:Nat):lowB m (i+1)=(rd m.Brokers (i:Int)).Id:=by unfold lowB;simp
theorem QzT (f:Option R16):(((some (QxM (Sum.inl ()) (fun e=>Sum.inr (toG (some e))) f):Option (Unit⊕GErr)).bind (Sum.elim (fun _=>(some (Sum.inl ()))) (fun(x26:GErr)=>(((some x26)).bind fun r=>some (Sum.inr r))))):Option (Unit⊕GErr)).bind (Sum.elim (fun _=>(some GErr.nil)) some)=some (toG f):=by
 cases f<;>rfl
theorem Q1M {m:Img}(h:limM m):Qh8 m=some (toG (QcF (brG m) m.Brokers.length 0)):=by
 unfold Qh8
 have hn:m.Brokers.length≤1000000000:=by have:=h.bk;omega
 have:=QcJ (step:=QfH m) (n:=m.Brokers.length) (st:=fun i=>(lowB m i,(i:Int))) (g:=brG m) (ex:=fun e=> .inr (toG (some e))) (fin:= .inl ())
  (fun i hi _=>by
   unfold QfH
   simp only [lt_i hi,if_true,QaT (in_i hi),Qa0 hi hn,QxK,Q4X m _ (by have:=h.tp;omega) (fun t ht=>by have:=h.pt t ht;omega),Qo7,QjV,Option.bind_some,QyF]
   unfold brG
   by_cases g1:(decide ((rd m.Brokers (i:Int)).Id≤lowB m i) ||(decide (64<(rd m.Brokers (i:Int)).Id) ||(decide ((rd m.Brokers (i:Int)).Epoch<0) ||(decide (1073741824<(rd m.Brokers (i:Int)).Epoch) || !Qe3 (rd m.Brokers (i:Int)).Rack))))=true
   ·rw [if_pos g1,if_pos g1];rfl
   ·rw [if_neg g1,if_neg g1]
    by_cases g2:((rd m.Brokers (i:Int)).Fenced&&((rd m.Brokers (i:Int)).Leaving&&QgN m (rd m.Brokers (i:Int)).Id))=true
    ·rw [if_pos g2,if_pos g2];rfl
    ·rw [if_neg g2,if_neg g2,QvH])
  (fun _=>by unfold QfH;simp [lt_n])
 rw [show ((0:Int),(0:Int))=(lowB m 0,((0:Nat):Int)) from rfl,this]
 exact QzT _
def nmT (m:Img):List ByteArray:=m.Topics.map (·.Name)
def lowT (m:Img) (i:Nat):Int:=if i=0 then 0 else(rd m.Topics ((i - 1:Nat):Int)).Id
theorem QrM (m:Img) (i:Nat):lowT m (i+1)=(rd m.Topics (i:Int)).Id:=by unfold lowT;simp
noncomputable def ptG (m:Img) (i:Nat) (k:Nat):Option R16:=if QjQ m (rd (rd m.Topics (i:Int)).Parts (k:Int))=true then none else some (QzS,(i:Int),10,some (k:Int))
noncomputable def tpG (m:Img) (i:Nat):Option R16:=
 if(decide ((rd m.Topics (i:Int)).Id≤lowT m i) ||(decide (m.Last<(rd m.Topics (i:Int)).Id) ||(!Qe3 (rd m.Topics (i:Int)).Name ||(inL ((nmT m).take i) (rd m.Topics (i:Int)).Name ||decide (256<((rd m.Topics (i:Int)).Parts.length:Int))))))=true then some (QzS,(i:Int),2,none)
 else QcF (ptG m i) (rd m.Topics (i:Int)).Parts.length 0
theorem Q5W {m:Img}{i:Nat}(hi:i<m.Topics.length):(nmT m).take (i+1)=(nmT m).take i++[(rd m.Topics (i:Int)).Name]:=by
 rw [List.take_succ_eq_append_getElem (by unfold nmT;simpa using hi),QbA hi]
 unfold nmT;simp
theorem Q43 {m:Img}{i:Nat}(hi:i<m.Topics.length):QeC (QlR ((nmT m).take i)) (rd m.Topics (i:Int)).Name (IntKind.i64.wrap (Qb1 (QlR ((nmT m).take i)) (rd m.Topics (i:Int)).Name+1))=QlR ((nmT m).take (i+1)):=by
 rw [Q5W hi]
 unfold QlR
 rw [List.foldl_append];rfl
theorem Q2Y {m:Img}{i:Nat}(hi:i<m.Topics.length) (hn:m.Topics.length≤1000000):decide (1<Qb1 (QlR ((nmT m).take (i+1))) (rd m.Topics (i:Int)).Name)=inL ((nmT m).take i) (rd m.Topics (i:Int)).Name:=by
 have hl:((nmT m).take (i+1)).length≤1000000000:=by
  have:(nmT m).length=m.Topics.length:=by unfold nmT;simp
  rw [List.length_take];omega
 rw [Q2U _ _ hl,Q5W hi,QwI,Q2T]
 cases q:inL ((nmT m).take i) (rd m.Topics (i:Int)).Name with
 |true=>have:=QsV.2 (QsU.1 q);exact decide_eq_true (by omega)
 |false=>
  have:cnt ((nmT m).take i) (rd m.Topics (i:Int)).Name=0:=Nat.eq_zero_of_not_pos fun z=>by rw [QsU.2 (QsV.1 z)] at q;cases q
  exact decide_eq_false (by omega)
theorem Q2Z (o:ByteArray) (a:Int) (e:GErr) (h:e.isNil=false):QhJ o a e=some (.fault o a e):=by
 unfold QhJ
 simp [h]
theorem QzU {m:Img}(h:limM m) (hB:SortK bkId m.Brokers):iter (QeM m) (([]:List (ByteArray×Int)),(0:Int),(0:Int))=some (QxM (Sum.inl ()) (fun e=>Sum.inr (toG (some e))) (QcF (tpG m) m.Topics.length 0)):=by
 have hn:m.Topics.length≤1000000000:=by have:=h.tp;omega
 have:=QcJ (step:=QeM m) (n:=m.Topics.length) (st:=fun i=>(QlR ((nmT m).take i),lowT m i,(i:Int))) (g:=tpG m) (ex:=fun e=> .inr (toG (some e))) (fin:= .inl ())
  (fun i hi _=>by
   unfold QeM
   have hp:(rd m.Topics (i:Int)).Parts.length≤1000000000:=by
    have:=h.pt (rd m.Topics (i:Int)) (by rw [QbA hi];exact List.getElem_mem hi)
    omega
   simp only [lt_i hi,if_true,QaT (in_i hi),Qa0 hi hn,QxK,Q43 hi,Q2Y hi h.tp,Qo7,Option.bind_some,QyF]
   unfold tpG
   by_cases g1:(decide ((rd m.Topics (i:Int)).Id≤lowT m i) ||(decide (m.Last<(rd m.Topics (i:Int)).Id) ||(!Qe3 (rd m.Topics (i:Int)).Name ||(inL ((nmT m).take i) (rd m.Topics (i:Int)).Name ||decide (256<((rd m.Topics (i:Int)).Parts.length:Int))))))=true
   ·rw [if_pos g1,if_pos g1];rfl
   ·rw [if_neg g1,if_neg g1]
    have hin:=QcJ (step:=QgI m (i:Int)) (n:=(rd m.Topics (i:Int)).Parts.length) (st:=fun k=>(k:Int)) (g:=ptG m i) (ex:=fun e=> .inr (toG (some e))) (fin:= .inl ())
     (fun k hk _=>by
      unfold QgI
      simp only [lt_i hk,if_true,QaT (in_i hk),Qa0 hk hp,Q6Y hB (by have:=h.bk;omega),Option.bind_some,QyF,Q2Z _ _ _ (show (GErr.fault Q42 (k:Int) (.code 10)).isNil=false from rfl)]
      unfold ptG
      cases QjQ m (rd (rd m.Topics (i:Int)).Parts (k:Int))<;>rfl)
     (fun _=>by unfold QgI;simp [lt_n])
    rw [nat0] at hin
    rw [hin]
    cases QcF (ptG m i) (rd m.Topics (i:Int)).Parts.length 0 with
    |none=>simp only [QxM,Option.bind_some,Sum.elim_inl,QrM]
    |some e=>rfl)
  (fun _=>by unfold QeM;simp [lt_n])
 exact this
def QyS (m:Img):Bool:=decide (256<(m.Topics.length:Int)) ||(decide (m.Last<0) ||decide (1073741824<m.Last))
noncomputable def Qo8 (m:Img):Option R16:=if QyS m=true then some (QzS,(m.Topics.length:Int),6,none)else QcF (tpG m) m.Topics.length 0
theorem Q20 {m:Img}(h:limM m) (hB:SortK bkId m.Brokers):Qi8 m=some (toG (Qo8 m)):=by
 unfold Qi8 Qo8
 simp only [Qo7]
 rw [Option.bind_some]
 show (if QyS m=true then _ else _)=_
 by_cases g:QyS m=true
 ·rw [if_pos g,if_pos g];rfl
 ·rw [if_neg g,if_neg g,QzU h hB]
  exact QzT _
def hasT (m:Img) (id:Int):Bool:=(QdJ tpId m.Topics id).isSome
def geS (a b:ByteArray):Bool:= !Op.bytesLess a.toList b.toList
def cfG (m:Img) (i:Nat):Option R16:=
 if(!hasT m (rd m.Configs (i:Int)).Topic&&decide ((rd m.Configs (i:Int)).Topic≠0) ||(!Qe3 (rd m.Configs (i:Int)).Key ||decide (256<((rd m.Configs (i:Int)).Value.size:Int))))=true then some (Q8J,(i:Int),2,none)
 else if i=0 then none
 else if(decide ((rd m.Configs (i:Int)).Topic<(rd m.Configs ((i - 1:Nat):Int)).Topic) ||(decide ((rd m.Configs ((i - 1:Nat):Int)).Topic=(rd m.Configs (i:Int)).Topic)&&geS (rd m.Configs ((i - 1:Nat):Int)).Key (rd m.Configs (i:Int)).Key))=true then some (Q8J,(i:Int),10,none)else none
theorem Q1N {m:Img}(h:limM m) (hT:SortK tpId m.Topics) (hi6:∀ c∈m.Configs,i64 c.Topic):QiC m=some (toG (QcF (cfG m) m.Configs.length 0)):=by
 unfold QiC
 have hn:m.Configs.length≤1000000000:=by have:=h.cf;omega
 have:=QcJ (step:=QfI m) (n:=m.Configs.length) (st:=fun i=>(i:Int)) (g:=cfG m) (ex:=fun e=> .inr (toG (some e))) (fin:= .inl ())
  (fun i hi _=>by
   unfold QfI
   have ht:i64 (rd m.Configs (i:Int)).Topic:=by rw [QbA hi];exact hi6 _ (List.getElem_mem hi)
   simp only [lt_i hi,if_true,QaT (in_i hi),Qa0 hi hn,QxK,Q4Z hT (by have:=h.tp;omega) ht,Qo7,QjV,Option.bind_some,QyF]
   have e1:getV tz (QdJ tpId m.Topics (rd m.Configs (i:Int)).Topic)=((getV tz (QdJ tpId m.Topics (rd m.Configs (i:Int)).Topic)).1,hasT m (rd m.Configs (i:Int)).Topic):=by
    unfold hasT;cases QdJ tpId m.Topics (rd m.Configs (i:Int)).Topic<;>rfl
   rw [e1]
   simp only
   have e2:(if decide ((rd m.Configs (i:Int)).Topic≠0)=true then some (!hasT m (rd m.Configs (i:Int)).Topic ||(!Qe3 (rd m.Configs (i:Int)).Key ||decide (256<((rd m.Configs (i:Int)).Value.size:Int))))else some (!Qe3 (rd m.Configs (i:Int)).Key ||decide (256<((rd m.Configs (i:Int)).Value.size:Int))))=some (!hasT m (rd m.Configs (i:Int)).Topic&&decide ((rd m.Configs (i:Int)).Topic≠0) ||(!Qe3 (rd m.Configs (i:Int)).Key ||decide (256<((rd m.Configs (i:Int)).Value.size:Int)))):=by
    by_cases q:(rd m.Configs (i:Int)).Topic=0
    ·simp [q]
    ·simp [q]
   rw [e2,Option.bind_some]
   unfold cfG
   by_cases g1:(!hasT m (rd m.Configs (i:Int)).Topic&&decide ((rd m.Configs (i:Int)).Topic≠0) ||(!Qe3 (rd m.Configs (i:Int)).Key ||decide (256<((rd m.Configs (i:Int)).Value.size:Int))))=true
   ·rw [if_pos g1,if_pos g1];rfl
   ·rw [if_neg g1,if_neg g1]
    by_cases g2:i=0
    ·subst g2;simp
    ·have hw:IntKind.i64.wrap ((i:Int)- 1)=((i - 1:Nat):Int):=by rw [QeK (by omega) (by omega)];omega
     have hj:i - 1<m.Configs.length:=by omega
     rw [if_pos (decide_eq_true (by omega)),if_neg g2,hw,QaT (in_i hj)]
     by_cases g3:(decide ((rd m.Configs (i:Int)).Topic<(rd m.Configs ((i - 1:Nat):Int)).Topic) ||(decide ((rd m.Configs ((i - 1:Nat):Int)).Topic=(rd m.Configs (i:Int)).Topic)&&geS (rd m.Configs ((i - 1:Nat):Int)).Key (rd m.Configs (i:Int)).Key))=true
     ·rw [if_pos g3]
      unfold geS at g3
      rw [if_pos g3];rfl
     ·rw [if_neg g3]
      unfold geS at g3
      rw [if_neg g3];rfl)
  (fun _=>by unfold QfI;simp [lt_n])
 rw [nat0] at this
 rw [this]
 exact QzT _
def dnK (m:Img):List (Int×Int):=m.Done.map fun d=>(d.Client,d.Serial)
def dnG (m:Img) (i:Nat):Option R16:=
 if(decide ((rd m.Done (i:Int)).Client<1) ||(decide (1073741824<(rd m.Done (i:Int)).Client) ||(decide ((rd m.Done (i:Int)).Serial<1) ||(decide (1073741824<(rd m.Done (i:Int)).Serial) ||(decide ((rd m.Done (i:Int)).Code<0) ||(decide (21<(rd m.Done (i:Int)).Code) ||inL ((dnK m).take i) ((rd m.Done (i:Int)).Client,(rd m.Done (i:Int)).Serial)))))))=true then some (dnOp,(i:Int),2,none)else none
theorem Q5X {m:Img}{i:Nat}(hi:i<m.Done.length):(dnK m).take (i+1)=(dnK m).take i++[((rd m.Done (i:Int)).Client,(rd m.Done (i:Int)).Serial)]:=by
 rw [List.take_succ_eq_append_getElem (by unfold dnK;simpa using hi),QbA hi]
 unfold dnK;simp
theorem Q21 {m:Img}{i:Nat}(hi:i<m.Done.length):QeC (QlR ((dnK m).take i)) ((rd m.Done (i:Int)).Client,(rd m.Done (i:Int)).Serial) (IntKind.i64.wrap (Qb1 (QlR ((dnK m).take i)) ((rd m.Done (i:Int)).Client,(rd m.Done (i:Int)).Serial)+1))=QlR ((dnK m).take (i+1)):=by
 rw [Q5X hi]
 unfold QlR
 rw [List.foldl_append];rfl
theorem Q1O {m:Img}{i:Nat}(hi:i<m.Done.length) (hn:m.Done.length≤1000000):decide (1<Qb1 (QlR ((dnK m).take (i+1))) ((rd m.Done (i:Int)).Client,(rd m.Done (i:Int)).Serial))=inL ((dnK m).take i) ((rd m.Done (i:Int)).Client,(rd m.Done (i:Int)).Serial):=by
 have hl:((dnK m).take (i+1)).length≤1000000000:=by
  have:(dnK m).length=m.Done.length:=by unfold dnK;simp
  rw [List.length_take];omega
 rw [Q2U _ _ hl,Q5X hi,QwI,Q2T]
 cases q:inL ((dnK m).take i) ((rd m.Done (i:Int)).Client,(rd m.Done (i:Int)).Serial)with
 |true=>have:=QsV.2 (QsU.1 q);exact decide_eq_true (by omega)
 |false=>
  have:cnt ((dnK m).take i) ((rd m.Done (i:Int)).Client,(rd m.Done (i:Int)).Serial)=0:=Nat.eq_zero_of_not_pos fun z=>by rw [QsU.2 (QsV.1 z)] at q;cases q
  exact decide_eq_false (by omega)
theorem Q22 {m:Img}(h:limM m):iter (QfJ m) (([]:List ((Int×Int)×Int)),(0:Int))=some (QxM (Sum.inl ()) (fun e=>Sum.inr (toG (some e))) (QcF (dnG m) m.Done.length 0)):=by
 have hn:m.Done.length≤1000000000:=by have:=h.dn;omega
 exact QcJ (step:=QfJ m) (n:=m.Done.length) (st:=fun i=>(QlR ((dnK m).take i),(i:Int))) (g:=dnG m) (ex:=fun e=> .inr (toG (some e))) (fin:= .inl ())
  (fun i hi _=>by
   unfold QfJ
   simp only [lt_i hi,if_true,QaT (in_i hi),Qa0 hi hn,Q21 hi,Q1O hi h.dn,Qo7,Option.bind_some,QyF]
   unfold dnG
   by_cases g1:(decide ((rd m.Done (i:Int)).Client<1) ||(decide (1073741824<(rd m.Done (i:Int)).Client) ||(decide ((rd m.Done (i:Int)).Serial<1) ||(decide (1073741824<(rd m.Done (i:Int)).Serial) ||(decide ((rd m.Done (i:Int)).Code<0) ||(decide (21<(rd m.Done (i:Int)).Code) ||inL ((dnK m).take i) ((rd m.Done (i:Int)).Client,(rd m.Done (i:Int)).Serial)))))))=true
   ·rw [if_pos g1,if_pos g1];rfl
   ·rw [if_neg g1,if_neg g1])
  (fun _=>by unfold QfJ;simp [lt_n])
noncomputable def chkR (m:Img):Option R16:=
 match QcF (brG m) m.Brokers.length 0 with
 |some e=>some e
 |none=>match Qo8 m with
  |some e=>some e
  |none=>match QcF (cfG m) m.Configs.length 0 with
   |some e=>some e
   |none=>if 64<(m.Done.length:Int)then some (dnOp,(m.Done.length:Int),6,none)else QcF (dnG m) m.Done.length 0
theorem QyT {α:Type}[Inhabited α]{key:α→Int}{l:List α}{low:Nat→Int}(hlow:∀ i,low (i+1)=key (rd l (i:Int))) (h:∀ i,i<l.length→low i<key (rd l (i:Int))):l.Pairwise fun a b=>key a<key b:=by
 have st:∀ i,(hi:i+1<l.length)→key (l[i]'(by omega))<key l[i+1]:=fun i hi=>by
  have:=h (i+1) hi
  rw [hlow,QbA (show i<l.length by omega),QbA hi] at this
  exact this
 rw [List.pairwise_iff_getElem]
 intro a b ha hb hab
 obtain ⟨d,rfl⟩:∃ d,b=a+1+d:=⟨b - (a+1),by omega⟩
 clear hab
 induction d with
 |zero=>exact st a hb
 |succ d ih=>
  have h1:=ih (by omega)
  have h2:=st (a+1+d) (by omega)
  have h3:a+1+(d+1)=a+1+d+1:=by omega
  simp only [h3]
  omega
theorem Q23 {m:Img}(h:∀ i,i<m.Brokers.length→brG m i=none):SortK bkId m.Brokers:=by
 have hi:∀ i,i<m.Brokers.length→lowB m i<(rd m.Brokers (i:Int)).Id∧(rd m.Brokers (i:Int)).Id≤64:=fun i hi=>by
  have:=h i hi
  unfold brG at this
  split at this
  ·cases this
  ·rename_i g
   simp only [Bool.or_eq_true,decide_eq_true_eq,not_or] at g
   omega
 have hs:=QyT (key:=bkId) (l:=m.Brokers) (low:=lowB m) (QvH m) fun i h=>(hi i h).1
 have h0:∀ i,(h:i<m.Brokers.length)→0<m.Brokers[i].Id:=by
  intro i
  induction i with
  |zero=>intro h;have:=(hi 0 h).1;rw [QbA h] at this;exact this
  |succ i ih=>intro h;have:=ih (by omega);have:=List.pairwise_iff_getElem.1 hs i (i+1) (by omega) h (by omega);simp only [bkId] at this;omega
 refine⟨fun x hx=> ?_,hs⟩
 obtain ⟨i,h,rfl⟩:=List.getElem_of_mem hx
 have h1:=(hi i h).2
 rw [QbA h] at h1
 have:=h0 i h
 simp only [bkId];omega
theorem Q24 {m:Img}(hl:m.Last≤1073741824) (h:∀ i,i<m.Topics.length→tpG m i=none):SortK tpId m.Topics:=by
 have hi:∀ i,i<m.Topics.length→lowT m i<(rd m.Topics (i:Int)).Id∧(rd m.Topics (i:Int)).Id≤m.Last:=fun i hi=>by
  have:=h i hi
  unfold tpG at this
  split at this
  ·cases this
  ·rename_i g
   simp only [Bool.or_eq_true,decide_eq_true_eq,not_or] at g
   omega
 have hs:=QyT (key:=tpId) (l:=m.Topics) (low:=lowT m) (QrM m) fun i h=>(hi i h).1
 have h0:∀ i,(h:i<m.Topics.length)→0<m.Topics[i].Id:=by
  intro i
  induction i with
  |zero=>intro h;have:=(hi 0 h).1;rw [QbA h] at this;exact this
  |succ i ih=>intro h;have:=ih (by omega);have:=List.pairwise_iff_getElem.1 hs i (i+1) (by omega) h (by omega);simp only [tpId] at this;omega
 refine⟨fun x hx=> ?_,hs⟩
 obtain ⟨i,h,rfl⟩:=List.getElem_of_mem hx
 have h1:=(hi i h).2
 rw [QbA h] at h1
 have:=h0 i h
 simp only [tpId];omega
theorem QxO {m:Img}(h:limM m) (hi6:∀ c∈m.Configs,i64 c.Topic):Qc9 m=some (toG (chkR m)):=by
 unfold Qc9 chkR
 rw [Q1M h,Option.bind_some]
 cases e1:QcF (brG m) m.Brokers.length 0 with
 |some e=>rcases e with⟨o,a,c,_ |k⟩<;>rfl
 |none=>
  have hB:=Q23 (QbV.1 e1)
  rw [Q20 h hB]
  simp only [toG,GErr.isNil,Bool.not_true,Bool.false_eq_true,if_false,Option.bind_some]
  cases e2:Qo8 m with
  |some e=>rcases e with⟨o,a,c,_ |k⟩<;>rfl
  |none=>
   have hT:SortK tpId m.Topics:=by
    unfold Qo8 at e2
    split at e2
    ·cases e2
    ·rename_i g
     unfold QyS at g
     simp only [Bool.or_eq_true,decide_eq_true_eq,not_or] at g
     exact Q24 (by omega) (QbV.1 e2)
   rw [Q1N h hT hi6]
   simp only [GErr.isNil,Bool.not_true,Bool.false_eq_true,if_false,Option.bind_some]
   cases e3:QcF (cfG m) m.Configs.length 0 with
   |some e=>rcases e with⟨o,a,c,_ |k⟩<;>rfl
   |none=>
    simp only [toG,GErr.isNil,Bool.not_true,Bool.false_eq_true,if_false]
    by_cases g:64<(m.Done.length:Int)
    ·rw [if_pos (decide_eq_true g),if_pos g];rfl
    ·rw [if_neg (fun q=>g (of_decide_eq_true q)),if_neg g,Q22 h]
     cases QcF (dnG m) m.Done.length 0<;>rfl
theorem QyU:∀ a:List UInt8,Op.bytesLess a a=false
 |[]=>rfl
 |x::a=>by simp [Op.bytesLess,QyU a]
theorem Q0T:∀ {a b c:List UInt8},Op.bytesLess a b=true→Op.bytesLess b c=true→Op.bytesLess a c=true
 |[],[],_,h,_=>by cases h
 |_::_,[],_,h,_=>by cases h
 |_,_::_,[],_,h=>by cases h
 |[],_::_,_::_,_,_=>rfl
 |x::a,y::b,z::c,h,k=>by
  simp only [Op.bytesLess,Bool.or_eq_true,decide_eq_true_eq,Bool.and_eq_true,beq_iff_eq] at h k⊢
  rcases h with h |⟨h1,h2⟩<;>rcases k with k |⟨k1,k2⟩
  ·exact .inl (UInt8.lt_trans h k)
  ·subst k1;exact .inl h
  ·subst h1;exact .inl k
  ·subst h1;subst k1;exact .inr ⟨rfl,Q0T h2 k2⟩
theorem Q5Y:∀ {a b:List UInt8},Op.bytesLess a b=false→Op.bytesLess b a=false→a=b
 |[],[],_,_=>rfl
 |[],_::_,h,_=>by cases h
 |_::_,[],_,h=>by cases h
 |x::a,y::b,h,k=>by
  simp only [Op.bytesLess,Bool.or_eq_false_iff,decide_eq_false_iff_not,Bool.and_eq_false_iff,beq_eq_false_iff_ne] at h k
  have e:x=y:=UInt8.le_antisymm (UInt8.not_lt.1 k.1) (UInt8.not_lt.1 h.1)
  subst e
  rw [Q5Y (h.2.resolve_left (fun q=>q rfl)) (k.2.resolve_left (fun q=>q rfl))]
theorem toList_inj {a b:ByteArray}(h:a.toList=b.toList):a=b:=by
 rw [ByteArray.toList_eq,ByteArray.toList_eq] at h
 cases a;cases b
 simp only at h
 congr 1
 exact Array.ext' h
def ltS (a b:ByteArray):Bool:=Op.bytesLess a.toList b.toList
theorem QwJ (a:ByteArray):ltS a a=false:=QyU _
theorem Q25 {a b c:ByteArray}(h:ltS a b=true) (k:ltS b c=true):ltS a c=true:=Q0T h k
theorem Q6Z {a b:ByteArray}(h:ltS a b=false) (k:ltS b a=false):a=b:=toList_inj (Q5Y h k)
theorem Q5Z (a b:ByteArray):geS a b= !ltS a b:=rfl
def cfLt (a b:Cf):Prop:=a.Topic<b.Topic∨a.Topic=b.Topic∧ltS a.Key b.Key=true
theorem QsW {a b c:Cf}(h:cfLt a b) (k:cfLt b c):cfLt a c:=by
 rcases h with h |⟨h1,h2⟩<;>rcases k with k |⟨k1,k2⟩
 ·exact .inl (Int.lt_trans h k)
 ·exact .inl (k1▸h)
 ·exact .inl (h1▸k)
 ·exact .inr ⟨h1.trans k1,Q25 h2 k2⟩
theorem Q8K {α:Type}[Inhabited α]{R:α→α→Prop}(tr:∀ {a b c:α},R a b→R b c→R a c){l:List α}(h:∀ i,0<i→i<l.length→R (rd l ((i - 1:Nat):Int)) (rd l (i:Int))):l.Pairwise R:=by
 have st:∀ i,(hi:i+1<l.length)→R (l[i]'(by omega)) l[i+1]:=fun i hi=>by
  have:=h (i+1) (by omega) hi
  rw [show i+1 - 1=i by omega,QbA (show i<l.length by omega),QbA hi] at this
  exact this
 rw [List.pairwise_iff_getElem]
 intro a b ha hb hab
 obtain ⟨d,rfl⟩:∃ d,b=a+1+d:=⟨b - (a+1),by omega⟩
 clear hab
 induction d with
 |zero=>exact st a hb
 |succ d ih=>
  have h1:=ih (by omega)
  have h2:=st (a+1+d) (by omega)
  have h3:a+1+(d+1)=a+1+d+1:=by omega
  simp only [h3]
  exact tr h1 h2
theorem Q8L {α β:Type}[DecidableEq β] (f:α→β){l:List α}(h:∀ i,(hi:i<l.length)→inL ((l.map f).take i) (f l[i])=false):l.Pairwise fun a b=>f a≠f b:=by
 rw [List.pairwise_iff_getElem]
 intro a b ha hb hab e
 have:=h b hb
 rw [←Bool.not_eq_true,QsU] at this
 refine this ?_
 rw [←e]
 have hm:(l.map f)[a]'(by simpa using ha)=f l[a]:=by simp
 rw [←hm]
 exact List.mem_take_iff_getElem.2 ⟨a,by simp;omega,by simp⟩
theorem Q8M {α β:Type}[DecidableEq β] (f:α→β){l:List α}(h:l.Pairwise fun a b=>f a≠f b){i:Nat}(hi:i<l.length):inL ((l.map f).take i) (f l[i])=false:=by
 rw [←Bool.not_eq_true,QsU]
 intro q
 obtain ⟨a,ha,e⟩:=List.mem_take_iff_getElem.1 q
 simp at ha
 have:=List.pairwise_iff_getElem.1 h a i (by omega) hi (by omega)
 exact this (by simpa using e)
structure okImg (m:Img):Prop where
 bs:m.Brokers.Pairwise fun a b=>a.Id<b.Id
 bk:∀ b∈m.Brokers,1≤b.Id∧b.Id≤64∧0≤b.Epoch∧b.Epoch≤1073741824∧Qe3 b.Rack=true∧(b.Fenced&&(b.Leaving&&QgN m b.Id))=false
 last:0≤m.Last∧m.Last≤1073741824
 tn:m.Topics.length≤256
 ts:m.Topics.Pairwise fun a b=>a.Id<b.Id
 tp:∀ t∈m.Topics,1≤t.Id∧t.Id≤m.Last∧Qe3 t.Name=true∧t.Parts.length≤256∧∀ p∈t.Parts,QjQ m p=true
 nm:m.Topics.Pairwise fun a b=>a.Name≠b.Name
 cs:m.Configs.Pairwise cfLt
 cf:∀ c∈m.Configs,(c.Topic=0∨hasT m c.Topic=true)∧Qe3 c.Key=true∧c.Value.size≤256
 dl:m.Done.length≤64
 dn:∀ d∈m.Done,1≤d.Client∧d.Client≤1073741824∧1≤d.Serial∧d.Serial≤1073741824∧0≤d.Code∧d.Code≤21
 dd:m.Done.Pairwise fun a b=>(a.Client,a.Serial)≠(b.Client,b.Serial)
theorem okImg.sortB {m:Img}(h:okImg m):SortK bkId m.Brokers:=⟨fun b hb=>by have:=h.bk b hb;simp only [bkId];omega,h.bs⟩
theorem okImg.sortT {m:Img}(h:okImg m):SortK tpId m.Topics:=⟨fun t ht=>by have:=h.tp t ht;have:=h.last;simp only [tpId];omega,h.ts⟩
theorem QwK {α:Type}[Inhabited α]{l:List α}{x:α}(h:x∈l):∃ i:Nat,i<l.length∧rd l (i:Int)=x:=by
 obtain ⟨i,hi,rfl⟩:=List.getElem_of_mem h;exact⟨i,hi,QbA hi⟩
theorem QfX {α:Type}[Inhabited α]{l:List α}{i:Nat}(hi:i<l.length):rd l (i:Int)∈l:=by rw [QbA hi];exact List.getElem_mem hi
theorem Q8N {m:Img}(h:chkR m=none):okImg m:=by
 unfold chkR at h
 cases e1:QcF (brG m) m.Brokers.length 0 with
 |some e=>rw [e1] at h;cases h
 |none=>
 rw [e1] at h
 simp only at h
 cases e2:Qo8 m with
 |some e=>rw [e2] at h;cases h
 |none=>
 rw [e2] at h
 simp only at h
 cases e3:QcF (cfG m) m.Configs.length 0 with
 |some e=>rw [e3] at h;cases h
 |none=>
 rw [e3] at h
 simp only at h
 split at h
 ·cases h
 rename_i g5
 have hb:=QbV.1 e1
 have hd:=QbV.1 h
 have hc:=QbV.1 e3
 unfold Qo8 at e2
 split at e2
 ·cases e2
 rename_i g2
 have ht:=QbV.1 e2
 unfold QyS at g2
 simp only [Bool.or_eq_true,decide_eq_true_eq,not_or] at g2
 have sB:=Q23 hb
 have sT:=Q24 (by omega) ht
 have hbk:∀ i,i<m.Brokers.length→0≤(rd m.Brokers (i:Int)).Epoch∧(rd m.Brokers (i:Int)).Epoch≤1073741824∧Qe3 (rd m.Brokers (i:Int)).Rack=true∧lowB m i<(rd m.Brokers (i:Int)).Id∧(rd m.Brokers (i:Int)).Id≤64∧((rd m.Brokers (i:Int)).Fenced&&((rd m.Brokers (i:Int)).Leaving&&QgN m (rd m.Brokers (i:Int)).Id))=false:=fun i hi=>by
  have:=hb i hi
  unfold brG at this
  split at this
  ·cases this
  ·rename_i q
   simp only [Bool.or_eq_true,decide_eq_true_eq,not_or,Bool.not_eq_true',Bool.not_eq_false] at q
   split at this
   ·cases this
   ·rename_i q2
    exact⟨by omega,by omega,q.2.2.2.2,by omega,by omega,by simpa using q2⟩
 have htp:∀ i,i<m.Topics.length→lowT m i<(rd m.Topics (i:Int)).Id∧(rd m.Topics (i:Int)).Id≤m.Last∧Qe3 (rd m.Topics (i:Int)).Name=true∧inL ((nmT m).take i) (rd m.Topics (i:Int)).Name=false∧(rd m.Topics (i:Int)).Parts.length≤256∧∀ p∈(rd m.Topics (i:Int)).Parts,QjQ m p=true:=fun i hi=>by
  have:=ht i hi
  unfold tpG at this
  split at this
  ·cases this
  ·rename_i q
   simp only [Bool.or_eq_true,decide_eq_true_eq,not_or,Bool.not_eq_true',Bool.not_eq_false] at q
   refine⟨by omega,by omega,q.2.2.1,by simpa using q.2.2.2.1,by omega,fun p hp=> ?_⟩
   obtain ⟨k,hk,rfl⟩:=QwK hp
   have:=QbV.1 this k hk
   unfold ptG at this
   split at this
   ·assumption
   ·cases this
 have hlowB:∀ i,i<m.Brokers.length→0≤lowB m i:=fun i hi=>by
  cases i with
  |zero=>exact Int.le_refl _
  |succ i=>rw [QvH];exact(sB.bound _ (QfX (by omega))).1
 have hlowT:∀ i,i<m.Topics.length→0≤lowT m i:=fun i hi=>by
  cases i with
  |zero=>exact Int.le_refl _
  |succ i=>rw [QrM];exact(sT.bound _ (QfX (by omega))).1
 have hcf:∀ i,i<m.Configs.length→((rd m.Configs (i:Int)).Topic=0∨hasT m (rd m.Configs (i:Int)).Topic=true)∧Qe3 (rd m.Configs (i:Int)).Key=true∧(rd m.Configs (i:Int)).Value.size≤256∧(0<i→cfLt (rd m.Configs ((i - 1:Nat):Int)) (rd m.Configs (i:Int))):=fun i hi=>by
  have:=hc i hi
  unfold cfG at this
  split at this
  ·cases this
  ·rename_i q
   simp only [Bool.or_eq_true,Bool.and_eq_true,decide_eq_true_eq,not_or,Bool.not_eq_true',Bool.not_eq_false,not_and,Decidable.not_not] at q
   refine⟨?_,q.2.1,by omega,fun h0=> ?_⟩
   ·cases z:hasT m (rd m.Configs (i:Int)).Topic
    ·exact .inl (q.1 z)
    ·exact .inr rfl
   ·rw [if_neg (by omega)] at this
    split at this
    ·cases this
    ·rename_i z
     simp only [Bool.or_eq_true,Bool.and_eq_true,decide_eq_true_eq,not_or,not_and,Q5Z,Bool.not_eq_true',Bool.not_eq_false] at z
     unfold cfLt
     rcases Int.lt_or_eq_of_le (show (rd m.Configs ((i - 1:Nat):Int)).Topic≤(rd m.Configs (i:Int)).Topic by omega)with y |y
     ·exact .inl y
     ·exact .inr ⟨y,z.2 y⟩
 have hdn:∀ i,i<m.Done.length→(1≤(rd m.Done (i:Int)).Client∧(rd m.Done (i:Int)).Client≤1073741824∧1≤(rd m.Done (i:Int)).Serial∧(rd m.Done (i:Int)).Serial≤1073741824∧0≤(rd m.Done (i:Int)).Code∧(rd m.Done (i:Int)).Code≤21)∧inL ((dnK m).take i) ((rd m.Done (i:Int)).Client,(rd m.Done (i:Int)).Serial)=false:=fun i hi=>by
  have:=hd i hi
  unfold dnG at this
  split at this
  ·cases this
  ·rename_i q
   simp only [Bool.or_eq_true,decide_eq_true_eq,not_or] at q
   exact⟨⟨by omega,by omega,by omega,by omega,by omega,by omega⟩,by simpa using q.2.2.2.2.2.2⟩
 refine⟨sB.sort,fun b hb'=> ?_,⟨by omega,by omega⟩,by omega,sT.sort,fun t ht'=> ?_, ?_,Q8K (R:=cfLt) QsW fun i h0 hi=>(hcf i hi).2.2.2 h0,fun c hc'=> ?_,by omega,fun d hd'=> ?_, ?_⟩
 ·obtain ⟨i,hi,rfl⟩:=QwK hb'
  have:=hbk i hi;have:=hlowB i hi
  exact⟨by omega,by omega,by omega,by omega,(hbk i hi).2.2.1,(hbk i hi).2.2.2.2.2⟩
 ·obtain ⟨i,hi,rfl⟩:=QwK ht'
  have h1:=htp i hi;have:=hlowT i hi
  exact⟨by omega,by omega,h1.2.2.1,h1.2.2.2.2.1,h1.2.2.2.2.2⟩
 ·refine Q8L (fun t:Tp=>t.Name) fun i hi=> ?_
  have:=(htp i hi).2.2.2.1
  rw [QbA hi] at this
  exact this
 ·obtain ⟨i,hi,rfl⟩:=QwK hc'
  have h1:=hcf i hi
  exact⟨h1.1,h1.2.1,h1.2.2.1⟩
 ·obtain ⟨i,hi,rfl⟩:=QwK hd'
  exact(hdn i hi).1
 ·refine Q8L (fun d:Dn=>(d.Client,d.Serial)) fun i hi=> ?_
  have:=(hdn i hi).2
  rw [QbA hi] at this
  exact this
theorem Q50 {α:Type}[Inhabited α]{key:α→Int}{l:List α}(hs:l.Pairwise fun a b=>key a<key b) (hp:∀ x∈l,0<key x){i:Nat}(hi:i<l.length):(if i=0 then 0 else key (rd l ((i - 1:Nat):Int)))<key (rd l (i:Int)):=by
 cases i with
 |zero=>exact hp _ (QfX hi)
 |succ i=>
  rw [if_neg (by omega),show i+1 - 1=i by omega,QbA (show i<l.length by omega),QbA hi]
  exact List.pairwise_iff_getElem.1 hs i (i+1) (by omega) hi (by omega)
theorem Q8O {m:Img}(h:okImg m):chkR m=none:=by
 have e1:QcF (brG m) m.Brokers.length 0=none:=QbV.2 fun i hi=>by
  have hb:=h.bk _ (QfX hi)
  have hl:lowB m i<(rd m.Brokers (i:Int)).Id:=Q50 (key:=bkId) h.bs (fun x hx=>by have:=h.bk x hx;simp only [bkId];omega) hi
  unfold brG
  rw [if_neg,if_neg]
  ·rw [hb.2.2.2.2.2];exact Bool.false_ne_true
  ·simp only [Bool.or_eq_true,decide_eq_true_eq,not_or,Bool.not_eq_true',Bool.not_eq_false]
   exact⟨by omega,by omega,by omega,by omega,hb.2.2.2.2.1⟩
 have e2:Qo8 m=none:=by
  unfold Qo8
  have:=h.last;have:=h.tn
  rw [if_neg]
  ·refine QbV.2 fun i hi=> ?_
   have ht:=h.tp _ (QfX hi)
   have hl:lowT m i<(rd m.Topics (i:Int)).Id:=Q50 (key:=tpId) h.ts (fun x hx=>by have:=h.tp x hx;simp only [tpId];omega) hi
   have hn:=Q8M (fun t:Tp=>t.Name) h.nm hi
   unfold tpG
   rw [if_neg]
   ·refine QbV.2 fun k hk=> ?_
    unfold ptG
    rw [if_pos (ht.2.2.2.2 _ (QfX hk))]
   ·simp only [Bool.or_eq_true,decide_eq_true_eq,not_or,Bool.not_eq_true',Bool.not_eq_false]
    refine⟨by omega,by omega,ht.2.2.1, ?_,by omega⟩
    rw [QbA hi]
    exact fun q=>by rw [show (nmT m)=m.Topics.map (fun t:Tp=>t.Name) from rfl,hn] at q;cases q
  ·unfold QyS
   simp only [Bool.or_eq_true,decide_eq_true_eq,not_or]
   exact⟨by omega,by omega,by omega⟩
 have e3:QcF (cfG m) m.Configs.length 0=none:=QbV.2 fun i hi=>by
  have hc:=h.cf _ (QfX hi)
  unfold cfG
  rw [if_neg]
  ·split
   ·rfl
   ·rename_i h0
    have hj:i - 1<m.Configs.length:=by omega
    have hlt:cfLt m.Configs[i - 1] m.Configs[i]:=List.pairwise_iff_getElem.1 h.cs _ _ hj hi (by omega)
    rw [if_neg]
    rw [QbA hi,QbA hj]
    simp only [Bool.or_eq_true,Bool.and_eq_true,decide_eq_true_eq,not_or,not_and,Q5Z,Bool.not_eq_true',Bool.not_eq_false]
    rcases hlt with q |⟨q1,q2⟩
    ·exact⟨by omega,fun z=>by omega⟩
    ·exact⟨by omega,fun _=>q2⟩
  ·simp only [Bool.or_eq_true,Bool.and_eq_true,decide_eq_true_eq,not_or,Bool.not_eq_true',Bool.not_eq_false,not_and,Decidable.not_not]
   refine⟨fun z=> ?_,hc.2.1,by omega⟩
   rcases hc.1 with q |q
   ·exact q
   ·rw [z] at q;cases q
 have e4:QcF (dnG m) m.Done.length 0=none:=QbV.2 fun i hi=>by
  have hd:=h.dn _ (QfX hi)
  have hn:=Q8M (fun d:Dn=>(d.Client,d.Serial)) h.dd hi
  unfold dnG
  rw [if_neg]
  simp only [Bool.or_eq_true,decide_eq_true_eq,not_or]
  refine⟨by omega,by omega,by omega,by omega,by omega,by omega, ?_⟩
  rw [QbA hi]
  exact fun q=>by rw [show (dnK m)=m.Done.map (fun d:Dn=>(d.Client,d.Serial)) from rfl,hn] at q;cases q
 unfold chkR
 rw [e1,e2,e3,e4]
 have:=h.dl
 simp only
 rw [if_neg (by omega)]
theorem okImg.i64 {m:Img}(h:okImg m):∀ c∈m.Configs,i64 c.Topic:=fun c hc=>by
 unfold G.i64
 rcases (h.cf c hc).1 with q |q
 ·rw [q];exact⟨by omega,by omega⟩
 ·unfold hasT QdJ at q
  obtain ⟨t,ht⟩:=Option.isSome_iff_exists.1 q
  have e:tpId t=c.Topic:=by simpa using List.find?_some ht
  have:=h.sortT.bound t (List.mem_of_find?_eq_some ht)
  omega
theorem QwL {α:Type}{key:α→Int}:∀ {l:List α}{a b:Int},l.Pairwise (fun x y=>key x<key y)→(∀ x∈l,a≤key x∧key x≤b)→a≤b+1→(l.length:Int)≤b - a+1
 |[],a,b,_,_,h=>by simp;omega
 |x::l,a,b,hp,hb,h=>by
  have h1:=List.pairwise_cons.1 hp
  have hx:=hb x (.head _)
  have:=QwL (key:=key) (a:=key x+1) (b:=b) h1.2 (fun y hy=>⟨by have:=h1.1 y hy;omega,(hb y (.tail _ hy)).2⟩) (by omega)
  simp only [List.length_cons];omega
theorem okImg.bl {m:Img}(h:okImg m):m.Brokers.length≤64:=by
 have:=QwL (key:=bkId) (a:=1) (b:=64) h.bs (fun x hx=>by have:=h.bk x hx;simp only [bkId];omega) (by omega)
 omega
theorem okImg.lim {m:Img}(h:okImg m) (hc:m.Configs.length≤1000000):limM m:=
 ⟨by have:=h.bl;omega,by have:=h.tn;omega,fun t ht=>by have:=h.tp t ht;omega,hc,by have:=h.dl;omega⟩
theorem QvI {m:Img}(h:okImg m) (hc:m.Configs.length≤1000000):Qc9 m=some .nil:=by
 rw [QxO (h.lim hc) h.i64,Q8O h];rfl
def catE {α:Type}(f:α→List Int):List α→List Int
 |[]=>[]
 |x::l=>f x++catE f l
theorem Qp9 {α:Type}(f:α→List Int):∀ l m:List α,catE f (l++m)=catE f l++catE f m
 |[],m=>rfl
 |x::l,m=>by simp only [List.cons_append,catE,Qp9 f l m,List.append_assoc]
theorem QyV {α:Type}(f:α→List Int){l:List α}{i:Nat}(hi:i<l.length):catE f (l.take (i+1))=catE f (l.take i)++f l[i]:=by
 rw [List.take_succ_eq_append_getElem hi,Qp9];simp [catE]
theorem QfC {α:Type}(f:α→List Int) (k:Nat):∀ l:List α,(∀ x∈l,(f x).length≤k)→(catE f l).length≤k*l.length
 |[],_=>by simp [catE]
 |x::l,h=>by
  have h1:=QfC f k l fun y hy=>h y (.tail _ hy)
  have h2:=h x (.head _)
  simp only [catE,List.length_append,List.length_cons,Nat.mul_add,Nat.mul_one];omega
theorem QsX {α:Type}(f:α→List Int):∀ l:List α,(∀ x∈l,okB (f x))→okB (catE f l)
 |[],_=>okB.nil
 |x::l,h=>(h x (.head _)).append (QsX f l fun y hy=>h y (.tail _ hy))
theorem Qs8 {α:Type}(f:α→List Int):∀ (l:List α) (i:Nat),(catE f (l.take i)).length≤(catE f l).length
 |[],i=>by simp [catE]
 |x::l,0=>by simp [catE]
 |x::l,i+1=>by have:=Qs8 f l i;simp only [List.take_succ_cons,catE,List.length_append];omega
def QnC (b:Bk):List Int:=intB b.Id++(intB b.Epoch++(QlK (bytesOf b.Rack)++(Qo6 b.Fenced++Qo6 b.Leaving)))
def QnD (p:Pt):List Int:=rowB p.Ids++(rowB p.Isr++(intB p.Leader++(intB p.Epoch++(rowB p.Add++rowB p.Drop))))
def Ql9 (t:Tp):List Int:=intB t.Id++(QlK (bytesOf t.Name)++(intB (t.Parts.length:Int)++catE QnD t.Parts))
def Qn6 (c:Cf):List Int:=intB c.Topic++(QlK (bytesOf c.Key)++QlK (bytesOf c.Value))
def Qn7 (d:Dn):List Int:=intB d.Client++(intB d.Serial++intB d.Code)
def Qn8 (m:Img):List Int:=
 intB m.Last++(intB (m.Brokers.length:Int)++(catE QnC m.Brokers++(intB (m.Topics.length:Int)++(catE Ql9 m.Topics++(intB (m.Configs.length:Int)++(catE Qn6 m.Configs++(intB (m.Done.length:Int)++catE Qn7 m.Done)))))))
theorem Q44 (b:Bk):okB (QnC b):=(QgW _).append ((QgW _).append ((QuC (QoN _)).append ((Q0L _).append (Q0L _))))
theorem Q45 (p:Pt):okB (QnD p):=(QxI _).append ((QxI _).append ((QgW _).append ((QgW _).append ((QxI _).append (QxI _)))))
theorem Q46 (t:Tp):okB (Ql9 t):=(QgW _).append ((QuC (QoN _)).append ((QgW _).append (QsX _ _ fun p _=>Q45 p)))
theorem Q47 (c:Cf):okB (Qn6 c):=(QgW _).append ((QuC (QoN _)).append (QuC (QoN _)))
theorem Q48 (d:Dn):okB (Qn7 d):=(QgW _).append ((QgW _).append (QgW _))
theorem Q49 (m:Img):okB (Qn8 m):=
 (QgW _).append ((QgW _).append ((QsX _ _ fun b _=>Q44 b).append ((QgW _).append ((QsX _ _ fun b _=>Q46 b).append ((QgW _).append ((QsX _ _ fun b _=>Q47 b).append ((QgW _).append (QsX _ _ fun b _=>Q48 b))))))))
theorem il (n:Int):(intB n).length≤8:=(QjP n).1
theorem tl (s:ByteArray):(QlK (bytesOf s)).length≤8+s.size:=by have:=Q2O (bytesOf s);rw [QcN] at this;exact this
theorem QrN {b:Bk}(h:Qe3 b.Rack=true):(QnC b).length≤100:=by
 have:=(QgT h).2
 have:=tl b.Rack;have:=il b.Id;have:=il b.Epoch;have:=Qn3 b.Fenced;have:=Qn3 b.Leaving
 unfold QnC;simp only [List.length_append];omega
theorem QvJ {p:Pt}(h:part1 p=true):brOk p.Ids∧brOk p.Isr∧brOk p.Add∧brOk p.Drop:=by
 unfold part1 at h
 simp only [Bool.and_eq_true] at h
 exact⟨QlL.1 h.1.1.1,QlL.1 h.1.1.2,QlL.1 h.1.2,QlL.1 h.2⟩
theorem QrO {p:Pt}(h:part1 p=true):(QnD p).length≤300:=by
 obtain ⟨h1,h2,h3,h4⟩:=QvJ h
 have:=QiL p.Ids;have:=QiL p.Isr;have:=QiL p.Add;have:=QiL p.Drop;have:=il p.Leader;have:=il p.Epoch
 have:=h1.1;have:=h2.1;have:=h3.1;have:=h4.1
 unfold QnD;simp only [List.length_append];omega
theorem QvK {t:Tp}(h:Qe3 t.Name=true) (hp:∀ p∈t.Parts,part1 p=true):(Ql9 t).length≤100+300*t.Parts.length:=by
 have:=(QgT h).2
 have:=tl t.Name;have:=il t.Id;have:=il (t.Parts.length:Int)
 have:=QfC QnD 300 t.Parts fun p h=>QrO (hp p h)
 unfold Ql9;simp only [List.length_append];omega
theorem QvL {c:Cf}(h:Qe3 c.Key=true) (h2:c.Value.size≤256):(Qn6 c).length≤400:=by
 have:=(QgT h).2
 have:=tl c.Key;have:=tl c.Value;have:=il c.Topic
 unfold Qn6;simp only [List.length_append];omega
theorem QvM (d:Dn):(Qn7 d).length≤30:=by
 have:=il d.Client;have:=il d.Serial;have:=il d.Code
 unfold Qn7;simp only [List.length_append];omega
def Qg3 (l:List Tp):Nat:=(l.map fun t=>t.Parts.length).sum
theorem QyW:∀ {l:List Tp},(∀ t∈l,Qe3 t.Name=true∧∀ p∈t.Parts,part1 p=true)→(catE Ql9 l).length≤100*l.length+300*Qg3 l
 |[],_=>by simp [catE]
 |t::l,h=>by
  have h1:=QyW (l:=l) fun y hy=>h y (.tail _ hy)
  have h2:=QvK (h t (.head _)).1 (h t (.head _)).2
  simp only [catE,List.length_append,List.length_cons,Qg3,List.map_cons,List.sum_cons] at h1⊢;omega
theorem okImg.part1 {m:Img}(h:okImg m){t:Tp}(ht:t∈m.Topics){p:Pt}(hp:p∈t.Parts):G.part1 p=true:=by
 have:=(h.tp t ht).2.2.2.2 p hp
 unfold QjQ at this
 simp only [Bool.and_eq_true] at this
 exact this.1
theorem QrP {m:Img}(h:okImg m) (hc:m.Configs.length≤1000) (hp:Qg3 m.Topics≤1000):(Qn8 m).length≤800000:=by
 have:=il m.Last;have:=il (m.Brokers.length:Int);have:=il (m.Topics.length:Int);have:=il (m.Configs.length:Int);have:=il (m.Done.length:Int)
 have:=QfC QnC 100 m.Brokers fun b hb=>QrN (h.bk b hb).2.2.2.2.1
 have:=QyW (l:=m.Topics) fun t ht=>⟨(h.tp t ht).2.2.1,fun p hp=>h.part1 ht hp⟩
 have:=QfC Qn6 400 m.Configs fun c hc=>QvL (h.cf c hc).2.1 (h.cf c hc).2.2
 have:=QfC Qn7 30 m.Done fun d _=>QvM d
 have:=h.bl;have:=h.tn;have:=h.dl
 unfold Qn8;simp only [List.length_append];omega
theorem Qj4 {α:Type}{step:List Int×Int→Option ((List Int×Int)⊕List Int)}(f:α→List Int) (l:List α) (b:List Int) (hn:l.length≤1000000000)
  (hs:∀ i,(hi:i<l.length)→∀ c,c.length≤b.length+(catE f l).length→step (c,(i:Int))=some (.inl (c++f l[i],((i+1:Nat):Int)))) (he:∀ c,step (c,(l.length:Int))=some (.inr c)):
  iter step (b,(0:Int))=some (b++catE f l):=by
 have:=QcJ (step:=step) (n:=l.length) (st:=fun i=>(b++catE f (l.take i),(i:Int))) (g:=fun _=>(none:Option Unit)) (ex:=fun _=>[]) (fin:=b++catE f l)
  (fun i hi _=>by
   rw [hs i hi _ (by rw [List.length_append];have:=Qs8 f l i;omega),QyV f hi,List.append_assoc])
  (fun _=>by rw [he,List.take_length])
 rw [List.take_zero] at this
 simp only [catE,List.append_nil,nat0] at this
 rw [this]
 have:QcF (fun _=>(none:Option Unit)) l.length 0=none:=QbV.2 fun _ _=>rfl
 rw [this];rfl
section
variable {m : Img}
theorem putB (h:okImg m) (b:List Int) (hb:b.length≤200000000):iter (QjC m) (b,(0:Int))=some (b++catE QnC m.Brokers):=by
 have hc:=QfC QnC 100 m.Brokers fun b hb=>QrN (h.bk b hb).2.2.2.2.1
 have:=h.bl
 refine Qj4 QnC m.Brokers b (by omega) (fun i hi c hc2=> ?_) (fun c=>by unfold QjC;simp [lt_n])
 have hk:=h.bk _ (List.getElem_mem hi)
 have:=(QgT hk.2.2.2.2.1).2
 have e1:=il m.Brokers[i].Id;have e2:=il m.Brokers[i].Epoch;have e3:=tl m.Brokers[i].Rack;have e4:=Qn3 m.Brokers[i].Fenced;have e5:=QcN m.Brokers[i].Rack
 unfold QjC
 simp only [lt_i hi,if_true,QaT (in_i hi),Qa0 hi (show m.Brokers.length≤1000000000 by omega),QbA hi]
 rw [QgX _ _ (by omega) (by omega),Option.bind_some,QgX _ _ (by omega) (by simp only [List.length_append];omega),Option.bind_some,Qt8 _ _ (by simp only [List.length_append];omega),Option.bind_some,Option.bind_some,
  Q0H _ _ (by simp only [List.length_append];omega),Option.bind_some,Q0H _ _ (by simp only [List.length_append];omega),Option.bind_some]
 unfold QnC
 simp only [List.append_assoc]
theorem putP (h:okImg m){i:Nat}(hi:i<m.Topics.length) (b:List Int) (hb:b.length≤200000000):iter (QjD m (i:Int)) (b,(0:Int))=some (b++catE QnD m.Topics[i].Parts):=by
 have ht:=h.tp _ (List.getElem_mem hi)
 have hc:=QfC QnD 300 m.Topics[i].Parts fun p hp=>QrO (h.part1 (List.getElem_mem hi) hp)
 have hl:=ht.2.2.2.1
 refine Qj4 QnD m.Topics[i].Parts b (by omega) (fun k hk c hc2=> ?_) (fun c=>by unfold QjD;simp only [QbA hi];simp [lt_n])
 have hp:=h.part1 (List.getElem_mem hi) (List.getElem_mem hk)
 obtain ⟨q1,q2,q3,q4⟩:=QvJ hp
 have w1:=QiL m.Topics[i].Parts[k].Ids;have w2:=QiL m.Topics[i].Parts[k].Isr;have w3:=QiL m.Topics[i].Parts[k].Add;have w4:=QiL m.Topics[i].Parts[k].Drop
 have w5:=il m.Topics[i].Parts[k].Leader;have w6:=il m.Topics[i].Parts[k].Epoch
 have z1:=q1.1;have z2:=q2.1;have z3:=q3.1;have z4:=q4.1
 have big:∀ {l:List Int},brOk l→∀ x∈l,x≤9223372036854775807:=fun hb x hx=>by have:=QsT hb x hx;omega
 have hv:=ht.2.2.2.2 _ (List.getElem_mem hk)
 have hle:m.Topics[i].Parts[k].Leader≤64:=by
  unfold QjQ Qp8 at hv
  simp only [Bool.and_eq_true,Bool.or_eq_true,decide_eq_true_eq] at hv
  rcases hv.2.2.2.2.1 with z |z
  ·omega
  ·have:=QsT q2 _ z.1;omega
 have hep:m.Topics[i].Parts[k].Epoch≤1073741824:=by
  unfold QjQ Qv2 at hv
  simp only [Bool.and_eq_true,Bool.not_eq_true',Bool.or_eq_false_iff,decide_eq_false_iff_not] at hv
  omega
 unfold QjD
 simp only [QbA hi]
 simp only [lt_i hk,if_true,QaT (in_i hk),Qa0 hk (show m.Topics[i].Parts.length≤1000000000 by omega),QbA hk]
 rw [QxE _ _ (big q1) (by omega) (by omega),Option.bind_some,QxE _ _ (big q2) (by omega) (by simp only [List.length_append];omega),Option.bind_some,
  QgX _ _ (by omega) (by simp only [List.length_append];omega),Option.bind_some,QgX _ _ (by omega) (by simp only [List.length_append];omega),Option.bind_some,
  QxE _ _ (big q3) (by omega) (by simp only [List.length_append];omega),Option.bind_some,QxE _ _ (big q4) (by omega) (by simp only [List.length_append];omega),Option.bind_some]
 unfold QnD
 simp only [List.append_assoc]
theorem putT (h:okImg m) (b:List Int) (hb:b.length≤100000000):iter (QjE m) (b,(0:Int))=some (b++catE Ql9 m.Topics):=by
 have hc:(catE Ql9 m.Topics).length≤77000*m.Topics.length:=QfC Ql9 77000 m.Topics fun t ht=>by
  have:=QvK (h.tp t ht).2.2.1 (fun p hp=>h.part1 ht hp)
  have:=(h.tp t ht).2.2.2.1
  omega
 have hn:=h.tn
 refine Qj4 Ql9 m.Topics b (by omega) (fun i hi c hc2=> ?_) (fun c=>by unfold QjE;simp [lt_n])
 have ht:=h.tp _ (List.getElem_mem hi)
 have hl:=h.last
 have:=(QgT ht.2.2.1).2
 have e1:=il m.Topics[i].Id;have e2:=il (m.Topics[i].Parts.length:Int);have e3:=tl m.Topics[i].Name;have e5:=QcN m.Topics[i].Name
 have e6:=ht.2.2.2.1
 unfold QjE
 simp only [lt_i hi,if_true,QaT (in_i hi),Qa0 hi (show m.Topics.length≤1000000000 by omega),QbA hi]
 rw [QgX _ _ (by omega) (by omega),Option.bind_some,Qt8 _ _ (by simp only [List.length_append];omega),Option.bind_some,QgX _ _ (by omega) (by simp only [List.length_append];omega),Option.bind_some,Option.bind_some,
  putP h hi _ (by simp only [List.length_append];omega),Option.bind_some,Option.bind_some]
 unfold Ql9
 simp only [List.append_assoc]
theorem putC (h:okImg m) (hcn:m.Configs.length≤100000) (b:List Int) (hb:b.length≤200000000):iter (QjF m) (b,(0:Int))=some (b++catE Qn6 m.Configs):=by
 have hc:=QfC Qn6 400 m.Configs fun c hc=>QvL (h.cf c hc).2.1 (h.cf c hc).2.2
 refine Qj4 Qn6 m.Configs b (by omega) (fun i hi c hc2=> ?_) (fun c=>by unfold QjF;simp [lt_n])
 have hk:=h.cf _ (List.getElem_mem hi)
 have h6:=h.i64 _ (List.getElem_mem hi)
 have:=(QgT hk.2.1).2
 have e1:=il m.Configs[i].Topic;have e3:=tl m.Configs[i].Key;have e4:=tl m.Configs[i].Value;have e5:=QcN m.Configs[i].Key;have e6:=QcN m.Configs[i].Value
 unfold i64 at h6
 unfold QjF
 simp only [lt_i hi,if_true,QaT (in_i hi),Qa0 hi (show m.Configs.length≤1000000000 by omega),QbA hi]
 rw [QgX _ _ (by omega) (by omega),Option.bind_some,Qt8 _ _ (by simp only [List.length_append];omega),Option.bind_some,Qt8 _ _ (by simp only [List.length_append];omega),Option.bind_some,Option.bind_some]
 unfold Qn6
 simp only [List.append_assoc]
theorem putD (h:okImg m) (b:List Int) (hb:b.length≤200000000):iter (QjG m) (b,(0:Int))=some (b++catE Qn7 m.Done):=by
 have hc:=QfC Qn7 30 m.Done fun d _=>QvM d
 have:=h.dl
 refine Qj4 Qn7 m.Done b (by omega) (fun i hi c hc2=> ?_) (fun c=>by unfold QjG;simp [lt_n])
 have hk:=h.dn _ (List.getElem_mem hi)
 have e1:=il m.Done[i].Client;have e2:=il m.Done[i].Serial;have e3:=il m.Done[i].Code
 unfold QjG
 simp only [lt_i hi,if_true,QaT (in_i hi),Qa0 hi (show m.Done.length≤1000000000 by omega),QbA hi]
 rw [QgX _ _ (by omega) (by omega),Option.bind_some,QgX _ _ (by omega) (by simp only [List.length_append];omega),Option.bind_some,QgX _ _ (by omega) (by simp only [List.length_append];omega),Option.bind_some]
 unfold Qn7
 simp only [List.append_assoc]
theorem Q8P (h:okImg m) (hcn:m.Configs.length≤1000) (hp:Qg3 m.Topics≤1000):QiU m=some (Qn8 m, .nil):=by
 have hlen:=QrP h hcn hp
 have hl:=h.last;have:=h.bl;have:=h.tn;have:=h.dl
 have b1:=QfC QnC 100 m.Brokers fun b hb=>QrN (h.bk b hb).2.2.2.2.1
 unfold QiU
 rw [QvI h (by omega)]
 simp only [GErr.isNil,Bool.not_true,Bool.false_eq_true,if_false,Option.bind_some]
 have hx:=hlen
 unfold Qn8 at hx
 simp only [List.length_append] at hx
 rw [QgX _ _ (by omega) (by simp),Option.bind_some,QgX _ _ (by omega) (by simp only [List.nil_append];omega),Option.bind_some,
  putB h _ (by simp only [List.nil_append,List.length_append];omega),Option.bind_some,Option.bind_some,
  QgX _ _ (by omega) (by simp only [List.nil_append,List.length_append];omega),Option.bind_some,putT h _ (by simp only [List.nil_append,List.length_append];omega),Option.bind_some,Option.bind_some,
  QgX _ _ (by omega) (by simp only [List.nil_append,List.length_append];omega),Option.bind_some,putC h (by omega) _ (by simp only [List.nil_append,List.length_append];omega),Option.bind_some,Option.bind_some,
  QgX _ _ (by omega) (by simp only [List.nil_append,List.length_append];omega),Option.bind_some,putD h _ (by simp only [List.nil_append,List.length_append];omega),Option.bind_some,Option.bind_some]
 unfold Qn8
 simp only [List.append_assoc,List.nil_append]
end
theorem Q26 {m:Img}{e:GErr}(h:Qc9 m=some e) (hn:e.isNil=false):QiU m=some ([],e):=by
 unfold QiU
 rw [h,Option.bind_some,hn];rfl
section
variable {X : Type} {step : List X × Int × Int × GErr → Option ((List X × Int × Int × GErr) ⊕ (List X × Int × GErr))} {rdX : Int → GErr → Option (X × Int × GErr)} {n : Int}
def QmP (step:List X×Int×Int×GErr→Option ((List X×Int×Int×GErr)⊕(List X×Int×GErr))) (rdX:Int→GErr→Option (X×Int×GErr)) (n:Int):Prop:=
 ∀ (acc:List X) (i a:Int) (e:GErr),step (acc,i,a,e)=if(decide (i<n)&&e.isNil)=true then(rdX a e).bind fun r=>grd (acc.length+1≤274877906944) (some (.inl (acc++[r.1],IntKind.i64.wrap (i+1),r.2.1,r.2.2)))else some (.inr (acc,a,e))
theorem Qn9 (hst:QmP step rdX n){L:List X}{eX:X→List Int}{b pre post:List Int}(hn:n=(L.length:Int)) (hl:L.length≤1000000000) (eb:b=pre++(catE eX L++post))
  (hx:∀ x∈L,∀ pre' post',b=pre'++(eX x++post')→rdX (pre'.length:Int) .nil=some (x,((pre'++eX x).length:Int), .nil)):
  iter step ([],(0:Int),(pre.length:Int),GErr.nil)=some (L,((pre++catE eX L).length:Int), .nil):=by
 have:=QcJ (step:=step) (n:=L.length) (st:=fun i=>(L.take i,(i:Int),((pre++catE eX (L.take i)).length:Int),GErr.nil)) (g:=fun _=>(none:Option Unit)) (ex:=fun _=>([],0, .nil)) (fin:=(L,((pre++catE eX L).length:Int), .nil))
  (fun i hi _=>by
   have hr:=hx _ (List.getElem_mem hi) (pre++catE eX (L.take i)) (catE eX (L.drop (i+1))++post) (by
    rw [eb]
    conv=>lhs;rw [←List.take_append_drop i L,List.drop_eq_getElem_cons hi,Qp9]
    simp only [catE,List.append_assoc])
   rw [hst,hn,lt_i hi]
   simp only [GErr.isNil,Bool.and_self,if_true]
   rw [hr,Option.bind_some]
   simp only
   rw [QaT (by rw [List.length_take];omega),Qa0 hi hl,←List.take_succ_eq_append_getElem hi,QyV eX hi,List.append_assoc])
  (fun _=>by rw [hst,hn,lt_n];simp [List.take_length])
 simp only [List.take_zero,catE,List.append_nil,nat0] at this
 rw [this]
 have:QcF (fun _=>(none:Option Unit)) L.length 0=none:=QbV.2 fun _ _=>rfl
 rw [this];rfl
end
theorem QvN (a b:Bool){β:Type}{A B:Option β}:(((if a=true then some b else some false):Option Bool).bind fun x=>if x=true then A else B)=if(a&&b)=true then A else B:=by cases a<;>cases b<;>rfl
theorem Q51 (r:QaB) (n:Int):QmP (QbO r n) (fun a e=>QcA ⟨r.b,a,e⟩) n:=fun acc i a e=>by
 unfold QbO
 exact QvN _ _
theorem Q8Q (r:QaB) (n:Int):QmP (QbS r n) (fun a e=>QcB ⟨r.b,a,e⟩) n:=fun acc i a e=>by
 unfold QbS
 exact QvN _ _
theorem Q52 (r:QaB) (n:Int):QmP (Qa7 r n) (fun a e=>Qa9 ⟨r.b,a,e⟩) n:=fun acc i a e=>by
 unfold Qa7
 exact QvN _ _
theorem Q53 (r:QaB) (n:Int):QmP (QbP r n) (fun a e=>QcC ⟨r.b,a,e⟩) n:=fun acc i a e=>by
 unfold QbP
 exact QvN _ _
theorem Q54 (r:QaB) (n:Int):QmP (Qb6 r n) (fun a e=>Qc7 ⟨r.b,a,e⟩) n:=fun acc i a e=>by
 unfold Qb6
 exact QvN _ _
theorem QvO {m:Img}{p:Pt}(h:QjQ m p=true):part1 p=true∧(0≤p.Leader∧p.Leader≤1073741824)∧(0≤p.Epoch∧p.Epoch≤1073741824):=by
 have h0:=h
 unfold QjQ Qv2 Qp8 at h
 simp only [Bool.and_eq_true,Bool.not_eq_true',Bool.or_eq_false_iff,Bool.or_eq_true,decide_eq_false_iff_not,decide_eq_true_eq] at h
 refine⟨h.1, ?_,by omega⟩
 rcases h.2.2.2.2.1 with z |z
 ·omega
 ·have:=QsT (QvJ h.1).2.1 _ z.1;omega
section
variable {b pre post : List Int} (hb : okB b) (hl : b.length ≤ 1000000)
include hb hl
theorem bkI {n:Int}(e:b=pre++(intB n++post)) (h0:0≤n) (h1:n≤1073741824):QcH ⟨b,(pre.length:Int), .nil⟩=some (n,((pre++intB n).length:Int), .nil):=by
 unfold QcH
 rw [Q1G hb hl e h0 (by unfold top;omega) h1 (by omega)];rfl
theorem bkN {s:ByteArray}(e:b=pre++(QlK (bytesOf s)++post)) (h:Qe3 s=true):Qf3 ⟨b,(pre.length:Int), .nil⟩=some (s,((pre++QlK (bytesOf s)).length:Int), .nil):=by
 have:=(QgT h).2
 unfold Qf3
 rw [Q79 hb hl e (by rw [QcN];omega) (by omega),Option.bind_some]
 simp only [QyL]
theorem bkR {l:List Int}(e:b=pre++(rowB l++post)) (h:brOk l):QeY ⟨b,(pre.length:Int), .nil⟩=some (l,((pre++rowB l).length:Int), .nil):=by
 have:=h.1
 unfold QeY
 rw [JaG hb hl e (by omega) (by omega) (by unfold top;omega) (fun x hx=>by have:=QsT h x hx;omega)];rfl
theorem rdBk {x:Bk}(h:1≤x.Id∧x.Id≤64∧0≤x.Epoch∧x.Epoch≤1073741824∧Qe3 x.Rack=true) (e:b=pre++(QnC x++post)):QcA ⟨b,(pre.length:Int), .nil⟩=some (x,((pre++QnC x).length:Int), .nil):=by
 unfold QnC at e⊢
 simp only [List.append_assoc] at e
 unfold QcA
 have e1:=nxt e;have e2:=nxt e1;have e3:=nxt e2;have e4:=nxt e3
 rw [bkI hb hl e (by omega) (by omega),Option.bind_some];simp only
 rw [bkI hb hl e1 (by omega) (by omega),Option.bind_some];simp only
 rw [bkN hb hl e2 h.2.2.2.2,Option.bind_some];simp only
 rw [Q78 hb hl e3,Option.bind_some];simp only
 rw [Q78 hb hl e4,Option.bind_some]
 simp only [List.append_assoc]
theorem rdPt {x:Pt}(h:part1 x=true) (h1:0≤x.Leader∧x.Leader≤1073741824) (h2:0≤x.Epoch∧x.Epoch≤1073741824) (e:b=pre++(QnD x++post)):QcB ⟨b,(pre.length:Int), .nil⟩=some (x,((pre++QnD x).length:Int), .nil):=by
 obtain ⟨q1,q2,q3,q4⟩:=QvJ h
 unfold QnD at e⊢
 simp only [List.append_assoc] at e
 unfold QcB
 have e1:=nxt e;have e2:=nxt e1;have e3:=nxt e2;have e4:=nxt e3;have e5:=nxt e4
 rw [bkR hb hl e q1,Option.bind_some];simp only
 rw [bkR hb hl e1 q2,Option.bind_some];simp only
 rw [bkI hb hl e2 h1.1 h1.2,Option.bind_some];simp only
 rw [bkI hb hl e3 h2.1 h2.2,Option.bind_some];simp only
 rw [bkR hb hl e4 q3,Option.bind_some];simp only
 rw [bkR hb hl e5 q4,Option.bind_some]
 simp only [List.append_assoc]
theorem mnPt {l:List Pt}(hn:l.length≤256) (hv:∀ p∈l,part1 p=true∧(0≤p.Leader∧p.Leader≤1073741824)∧(0≤p.Epoch∧p.Epoch≤1073741824)) (e:b=pre++(intB (l.length:Int)++(catE QnD l++post))):
  QbI ⟨b,(pre.length:Int), .nil⟩ 256=some (l,((pre++(intB (l.length:Int)++catE QnD l)).length:Int), .nil):=by
 unfold QbI
 rw [Q1G hb hl e (by omega) (by unfold top;omega) (by omega) (by omega),Option.bind_some]
 simp only
 rw [Qn9 (Q8Q _ _) rfl (by omega) (nxt e) (fun x hx pre' post' e'=>rdPt hb hl (hv x hx).1 (hv x hx).2.1 (hv x hx).2.2 e')]
 simp only [Option.bind_some,List.append_assoc]
theorem rdTp {x:Tp}(h:1≤x.Id∧x.Id≤1073741824) (h2:Qe3 x.Name=true) (hn:x.Parts.length≤256) (hv:∀ p∈x.Parts,part1 p=true∧(0≤p.Leader∧p.Leader≤1073741824)∧(0≤p.Epoch∧p.Epoch≤1073741824)) (e:b=pre++(Ql9 x++post)):
  Qa9 ⟨b,(pre.length:Int), .nil⟩=some (x,((pre++Ql9 x).length:Int), .nil):=by
 unfold Ql9 at e⊢
 simp only [List.append_assoc] at e
 unfold Qa9
 have e1:=nxt e;have e2:=nxt e1
 rw [bkI hb hl e (by omega) (by omega),Option.bind_some];simp only
 rw [bkN hb hl e1 h2,Option.bind_some];simp only
 rw [mnPt hb hl hn hv e2,Option.bind_some]
 simp only [List.append_assoc]
theorem rdCf {x:Cf}(h:0≤x.Topic∧x.Topic≤1073741824) (h2:Qe3 x.Key=true) (h3:x.Value.size≤256) (e:b=pre++(Qn6 x++post)):QcC ⟨b,(pre.length:Int), .nil⟩=some (x,((pre++Qn6 x).length:Int), .nil):=by
 unfold Qn6 at e⊢
 simp only [List.append_assoc] at e
 unfold QcC
 have e1:=nxt e;have e2:=nxt e1
 rw [bkI hb hl e h.1 h.2,Option.bind_some];simp only
 rw [bkN hb hl e1 h2,Option.bind_some];simp only
 rw [Q79 hb hl e2 (by rw [QcN];omega) (by omega),Option.bind_some]
 simp only [List.append_assoc,QyL]
theorem rdDn {x:Dn}(h:1≤x.Client∧x.Client≤1073741824∧1≤x.Serial∧x.Serial≤1073741824∧0≤x.Code∧x.Code≤21) (e:b=pre++(Qn7 x++post)):Qc7 ⟨b,(pre.length:Int), .nil⟩=some (x,((pre++Qn7 x).length:Int), .nil):=by
 unfold Qn7 at e⊢
 simp only [List.append_assoc] at e
 unfold Qc7
 have e1:=nxt e;have e2:=nxt e1
 rw [bkI hb hl e (by omega) (by omega),Option.bind_some];simp only
 rw [bkI hb hl e1 (by omega) (by omega),Option.bind_some];simp only
 rw [bkI hb hl e2 (by omega) (by omega),Option.bind_some]
 simp only [List.append_assoc]
end
abbrev iz:Img:=⟨[],[],[],[],0⟩
theorem okImg.cfT {m:Img}(h:okImg m){c:Cf}(hc:c∈m.Configs):0≤c.Topic∧c.Topic≤1073741824:=by
 rcases (h.cf c hc).1 with q |q
 ·omega
 ·unfold hasT QdJ at q
  obtain ⟨t,ht⟩:=Option.isSome_iff_exists.1 q
  have e:tpId t=c.Topic:=by simpa using List.find?_some ht
  have:=h.sortT.bound t (List.mem_of_find?_eq_some ht)
  omega
theorem Q1P {m:Img}(h:okImg m) (hcn:m.Configs.length≤1000){b post:List Int}(hb:okB b) (hl:b.length≤1000000) (e:b=[]++(Qn8 m++post)):
  Qe5 b=(QdH ⟨b,((Qn8 m).length:Int), .nil⟩).bind fun(r69,r70)=>(if(!r69.isNil)=true then(some ((⟨[],[],[],[],(0:Int)⟩:QaA),r69))else((Qc9 m).bind fun r80=>(if(!r80.isNil)=true then((QhJ (⟨#[105,109,97,103,101]⟩:ByteArray) (b.length:Int) r80).bind fun r98=>(some ((⟨[],[],[],[],(0:Int)⟩:QaA),r98)))else(some (m,GErr.nil))))):=by
 have hL:=h.last;have hB:=h.bl;have hT:=h.tn;have hD:=h.dl
 have e0:=e
 unfold Qn8 at e0
 simp only [List.append_assoc] at e0
 have e1:=nxt e0;have e2:=nxt e1;have e3:=nxt e2;have e4:=nxt e3;have e5:=nxt e4;have e6:=nxt e5;have e7:=nxt e6;have e8:=nxt e7
 have n0:(0:Int)=(([]:List Int).length:Int):=rfl
 unfold Qe5
 rw [show QlG b=some (⟨b,(([]:List Int).length:Int), .nil⟩:QaB) from rfl,Option.bind_some]
 rw [bkI hb hl e0 hL.1 hL.2,Option.bind_some];simp only
 unfold QbD
 rw [Q1G hb hl e1 (by omega) (by unfold top;omega) (by omega) (by omega),Option.bind_some];simp only
 rw [Qn9 (Q51 _ _) rfl (by omega) e2 (fun x hx pre' post' e'=>rdBk hb hl (by have:=h.bk x hx;exact⟨this.1,this.2.1,this.2.2.1,this.2.2.2.1,this.2.2.2.2.1⟩) e')]
 simp only [Option.bind_some]
 unfold QaY
 rw [Q1G hb hl e3 (by omega) (by unfold top;omega) (by omega) (by omega),Option.bind_some];simp only
 rw [Qn9 (Q52 _ _) rfl (by omega) e4 (fun x hx pre' post' e'=>rdTp hb hl (by have:=h.tp x hx;omega) (h.tp x hx).2.2.1 (h.tp x hx).2.2.2.1 (fun p hp=>QvO ((h.tp x hx).2.2.2.2 p hp)) e')]
 simp only [Option.bind_some]
 unfold QbE
 rw [Q1G hb hl e5 (by omega) (by unfold top;omega) (by omega) (by omega),Option.bind_some];simp only
 rw [Qn9 (Q53 _ _) rfl (by omega) e6 (fun x hx pre' post' e'=>rdCf hb hl (h.cfT hx) (h.cf x hx).2.1 (h.cf x hx).2.2 e')]
 simp only [Option.bind_some]
 unfold QbY
 rw [Q1G hb hl e7 (by omega) (by unfold top;omega) (by omega) (by omega),Option.bind_some];simp only
 rw [Qn9 (Q54 _ _) rfl (by omega) e8 (fun x hx pre' post' e'=>rdDn hb hl (h.dn x hx) e')]
 simp only [Option.bind_some]
 have el:([]++intB m.Last++intB (m.Brokers.length:Int)++catE QnC m.Brokers++intB (m.Topics.length:Int)++catE Ql9 m.Topics++intB (m.Configs.length:Int)++catE Qn6 m.Configs++intB (m.Done.length:Int)++catE Qn7 m.Done)=Qn8 m:=by
  unfold Qn8;simp only [List.append_assoc,List.nil_append]
 rw [el]
theorem Q55 {m:Img}(h:okImg m) (hcn:m.Configs.length≤1000) (hp:Qg3 m.Topics≤1000):Qe5 (Qn8 m)=some (m, .nil):=by
 have hlen:=QrP h hcn hp
 rw [Q1P h hcn (b:=Qn8 m) (post:=[]) (Q49 m) (by omega) (by simp),JaH rfl,Option.bind_some]
 simp only [GErr.isNil,Bool.not_true,Bool.false_eq_true,if_false]
 rw [QvI h (by omega)]
 simp [GErr.isNil]
theorem QoA {α ε:Type}[Inhabited α]{l:List α}{p:α→Bool}{f:α→ε}{step:Int→Option (Int⊕(Unit⊕ε))}
  (hs:∀ i:Nat,(hi:i<l.length)→step (i:Int)=some (if p l[i]=true then .inr (.inr (f l[i]))else .inl ((i+1:Nat):Int))) (he:step (l.length:Int)=some (.inr (.inl ()))):
  iter step 0=some (QxM (.inl ()) .inr ((l.find? p).map f)):=by
 have:=QcJ (step:=step) (n:=l.length) (st:=fun i=>(i:Int)) (g:=fun i=>if p (rd l (i:Int))=true then some (f (rd l (i:Int)))else none) (ex:=fun e=> .inr e) (fin:= .inl ())
  (fun i hi _=>by
   rw [hs i hi,QbA hi]
   cases p l[i]<;>rfl) (fun _=>he)
 rw [nat0,QyN l (fun x=>if p x=true then some (f x)else none),QxL] at this
 exact this
section
variable {m : Img}
theorem QxP (hl:m.Brokers.length≤1000000000) (t:Int):Qd1 m t=some (getV bz (QdJ bkId m.Brokers t)):=by
 unfold Qd1
 rw [QoA (l:=m.Brokers) (p:=fun x=>decide (bkId x=t)) (f:=fun x=>(x.Id,x.Epoch,x.Rack,x.Fenced,x.Leaving))]
 ·unfold QdJ
  cases m.Brokers.find? fun x=>decide (bkId x=t)<;>rfl
 ·intro i hi
  unfold QhS
  simp only [lt_i hi,if_true,QaT (in_i hi),Qa0 hi hl,QbA hi]
  show (if decide (bkId m.Brokers[i]=t)=true then _ else _)=_
  cases decide (bkId m.Brokers[i]=t)<;>rfl
 ·unfold QhS;simp [lt_n]
theorem Q0U (hl:m.Topics.length≤1000000000) (t:Int):QeV m t=some (getV tz (QdJ tpId m.Topics t)):=by
 unfold QeV
 rw [QoA (l:=m.Topics) (p:=fun x=>decide (tpId x=t)) (f:=fun x=>(x.Id,x.Name,x.Parts))]
 ·unfold QdJ
  cases m.Topics.find? fun x=>decide (tpId x=t)<;>rfl
 ·intro i hi
  unfold QiF
  simp only [lt_i hi,if_true,QaT (in_i hi),Qa0 hi hl,QbA hi]
  show (if decide (tpId m.Topics[i]=t)=true then _ else _)=_
  cases decide (tpId m.Topics[i]=t)<;>rfl
 ·unfold QiF;simp [lt_n]
def QwM (m:Img) (s:ByteArray):Bool:=m.Topics.any fun t=>decide (t.Name=s)
theorem QuE {α:Type}(l:List α) (p:α→Bool):(l.find? p).isSome=l.any p:=by
 induction l with
 |nil=>rfl
 |cons x l ih=>rw [List.find?_cons,List.any_cons];cases p x<;>simp [ih]
theorem Q8R (hl:m.Topics.length≤1000000000) (s:ByteArray):∃ t,Qi2 m s=some (t,QwM m s):=by
 unfold Qi2
 rw [QoA (l:=m.Topics) (p:=fun x=>decide (x.Name=s)) (f:=fun x=>(x.Id,x.Name,x.Parts))]
 ·unfold QwM
  rw [←QuE]
  cases m.Topics.find? fun x=>decide (x.Name=s)<;>exact⟨_,rfl⟩
 ·intro i hi
  unfold QiI
  simp only [lt_i hi,if_true,QaT (in_i hi),Qa0 hi hl,QbA hi]
  cases decide (m.Topics[i].Name=s)<;>rfl
 ·unfold QiI;simp [lt_n]
def cfIs (t:Int) (k:ByteArray) (c:Cf):Bool:=decide (c.Topic=t)&&decide (c.Key=k)
def Q5A (m:Img) (t:Int) (k:ByteArray):Bool:=m.Configs.any (cfIs t k)
theorem Q60 (hl:m.Configs.length≤1000000000) (t:Int) (k:ByteArray):∃ v,Qh6 m t k=some (v,Q5A m t k):=by
 unfold Qh6
 rw [QoA (l:=m.Configs) (p:=cfIs t k) (f:=fun x=>x.Value)]
 ·unfold Q5A
  rw [←QuE]
  cases m.Configs.find? (cfIs t k)<;>exact⟨_,rfl⟩
 ·intro i hi
  unfold QhW
  simp only [lt_i hi,if_true,QaT (in_i hi),Qa0 hi hl,QbA hi,QjV,Option.bind_some]
  show (if cfIs t k m.Configs[i]=true then _ else _)=_
  cases cfIs t k m.Configs[i]<;>rfl
 ·unfold QhW;simp [lt_n]
def dnIs (c s:Int) (d:Dn):Bool:=decide (d.Client=c)&&decide (d.Serial=s)
def Q1Q (m:Img) (c s:Int):Bool:=m.Done.any (dnIs c s)
theorem Q27 (hl:m.Done.length≤1000000000) (c s:Int):∃ v,QgC m c s=some (v,Q1Q m c s):=by
 unfold QgC
 rw [QoA (l:=m.Done) (p:=dnIs c s) (f:=fun x=>x.Code)]
 ·unfold Q1Q
  rw [←QuE]
  cases m.Done.find? (dnIs c s)<;>exact⟨_,rfl⟩
 ·intro i hi
  unfold Qf0
  simp only [lt_i hi,if_true,QaT (in_i hi),Qa0 hi hl,QbA hi,QjV,Option.bind_some]
  show (if dnIs c s m.Done[i]=true then _ else _)=_
  cases dnIs c s m.Done[i]<;>rfl
 ·unfold Qf0;simp [lt_n]
theorem Q8S (hl:m.Brokers.length≤1000000000) (t:Int):QhU m t=some (QrL m t):=by
 unfold QhU QrL
 rw [QxP hl]
 cases QdJ bkId m.Brokers t<;>rfl
end
theorem QrQ {ε:Type}{step:Int→Option (Int⊕(Unit⊕Unit))}{n:Nat}{p:Nat→Bool}{A:ε}(hs:∀ i:Nat,i<n→step (i:Int)=some (if p i=true then .inr (.inr ())else .inl ((i+1:Nat):Int))) (he:step (n:Int)=some (.inr (.inl ()))){K:Option ε}(b:Bool)
  (hb:b=true↔∃ i,i<n∧p i=true):
  ((((iter step (0:Int)).bind (Sum.elim (fun _=>(some (Sum.inl ()))) (fun _=>(((some A)).bind fun r=>some (Sum.inr r))))):Option (Unit⊕ε)).bind (Sum.elim (fun _=>K) some))=if b=true then some A else K:=by
 rw [QeG (step:=step) (n:=n) (p:=fun i=> !p i) (b:= !b) (fun i hi=>by rw [hs i hi];cases p i<;>rfl) he]
 ·cases b<;>rfl
 ·constructor
  ·intro h i hi
   cases q:p i
   ·rfl
   ·rw [hb.2 ⟨i,hi,q⟩] at h;cases h
  ·intro h
   cases q:b
   ·rfl
   ·obtain ⟨i,hi,k⟩:=hb.1 q
    have:=h i hi
    rw [k] at this;cases this
theorem QxQ {α:Type}{l:List α}{p:α→Bool}{q:Nat→Bool}(h:∀ i,(hi:i<l.length)→q i=p l[i]):l.any p=true↔∃ i,i<l.length∧q i=true:=by
 rw [List.any_eq_true]
 constructor
 ·rintro ⟨x,hx,hp⟩;obtain ⟨i,hi,rfl⟩:=List.getElem_of_mem hx;exact⟨i,hi,by rw [h i hi];exact hp⟩
 ·rintro ⟨i,hi,hq⟩;exact⟨_,List.getElem_mem hi,by rw [←h i hi];exact hq⟩
theorem rHas (l:List Int) (x:Int) (hl:l.length≤1000000000):QeD l x=some (decide (x∈l)):=by
 unfold QeD
 rw [QrQ (step:=Qh4 l x) (n:=l.length) (p:=fun i=>decide (rd l (i:Int)=x)) (b:=decide (x∈l))]
 ·cases decide (x∈l)<;>rfl
 ·intro i hi
  unfold Qh4
  simp only [lt_i hi,if_true,QaT (in_i hi),Qa0 hi hl]
  cases decide (rd l (i:Int)=x)<;>rfl
 ·unfold Qh4;simp [lt_n]
 ·rw [decide_eq_true_eq]
  constructor
  ·intro h;obtain ⟨i,hi,rfl⟩:=QwK h;exact⟨i,hi,decide_eq_true rfl⟩
  ·rintro ⟨i,hi,h⟩;rw [←of_decide_eq_true h];exact QfX hi
section
variable {m : Img}
theorem Q28 (h:limM m) (id:Int):QfZ m id=some (QgN m id):=by
 unfold QfZ
 have h1:=h.tp
 rw [QrQ (step:=Qf6 m id) (n:=m.Topics.length) (p:=fun i=>(rd m.Topics (i:Int)).Parts.any fun p=>decide (p.Leader=id)) (b:=QgN m id)]
 ·cases QgN m id<;>rfl
 ·intro i hi
  have h2:=h.pt _ (QfX hi)
  unfold Qf6
  simp only [lt_i hi,if_true,Qa0 hi (show m.Topics.length≤1000000000 by omega)]
  refine(QrQ (step:=Qf5 m id (i:Int)) (n:=(rd m.Topics (i:Int)).Parts.length) (p:=fun k=>decide ((rd (rd m.Topics (i:Int)).Parts (k:Int)).Leader=id)) (A:=Sum.inr (Sum.inr ())) (K:=some (Sum.inl ((i+1:Nat):Int))) (b:=(rd m.Topics (i:Int)).Parts.any fun p=>decide (p.Leader=id)) ?_ ?_ ?_).trans ?_
  rotate_left 3
  ·cases ((rd m.Topics (i:Int)).Parts.any fun p=>decide (p.Leader=id))<;>rfl
  ·intro k hk
   unfold Qf5
   simp only [QaT (in_i hi),lt_i hk,if_true,QaT (in_i hk),Qa0 hk (show (rd m.Topics (i:Int)).Parts.length≤1000000000 by omega)]
   cases decide ((rd (rd m.Topics (i:Int)).Parts (k:Int)).Leader=id)<;>rfl
  ·unfold Qf5;simp only [QaT (in_i hi)];simp [lt_n]
  ·exact QxQ fun k hk=>by rw [QbA hk]
 ·unfold Qf6;simp [lt_n]
 ·exact QxQ fun i hi=>by rw [QbA hi]
def QyX (m:Img) (id:Int):Bool:=m.Topics.any fun t=>t.Parts.any fun p=>decide (id∈p.Ids)
theorem JaL (h:limM m) (hp:∀ t∈m.Topics,∀ p∈t.Parts,p.Ids.length≤1000000) (id:Int):Qj8 m id=some (QyX m id):=by
 unfold Qj8
 have h1:=h.tp
 rw [QrQ (step:=QhA m id) (n:=m.Topics.length) (p:=fun i=>(rd m.Topics (i:Int)).Parts.any fun p=>decide (id∈p.Ids)) (b:=QyX m id)]
 ·cases QyX m id<;>rfl
 ·intro i hi
  have h2:=h.pt _ (QfX hi)
  unfold QhA
  simp only [lt_i hi,if_true,Qa0 hi (show m.Topics.length≤1000000000 by omega)]
  refine(QrQ (step:=Qg9 m id (i:Int)) (n:=(rd m.Topics (i:Int)).Parts.length) (p:=fun k=>decide (id∈(rd (rd m.Topics (i:Int)).Parts (k:Int)).Ids)) (A:=Sum.inr (Sum.inr ())) (K:=some (Sum.inl ((i+1:Nat):Int))) (b:=(rd m.Topics (i:Int)).Parts.any fun p=>decide (id∈p.Ids)) ?_ ?_ ?_).trans ?_
  rotate_left 3
  ·cases ((rd m.Topics (i:Int)).Parts.any fun p=>decide (id∈p.Ids))<;>rfl
  ·intro k hk
   have h3:=hp _ (QfX hi) _ (QfX hk)
   unfold Qg9
   simp only [QaT (in_i hi),lt_i hk,if_true,QaT (in_i hk),Qa0 hk (show (rd m.Topics (i:Int)).Parts.length≤1000000000 by omega)]
   rw [rHas _ _ (by omega),Option.bind_some]
   cases decide (id∈(rd (rd m.Topics (i:Int)).Parts (k:Int)).Ids)<;>rfl
  ·unfold Qg9;simp only [QaT (in_i hi)];simp [lt_n]
  ·exact QxQ fun k hk=>by rw [QbA hk]
 ·unfold QhA;simp [lt_n]
 ·exact QxQ fun i hi=>by rw [QbA hi]
structure limP (p:Pt):Prop where
 ids:p.Ids.length≤1000000
 isr:p.Isr.length≤1000000
 add:p.Add.length≤1000000
 drop:p.Drop.length≤1000000
def addV (p:Pt):Bool:=p.Add.all fun x=>decide (x∈p.Ids)&& !decide (x∈p.Drop)
def Qs9 (m:Img) (p:Pt):Int:=
 if(p.Ids.length:Int)=0 then 18
 else if(p.Ids.all fun x=>hasB m x)=true then
  if(p.Isr.length:Int)=0 then 18
  else if QeH p.Isr p.Ids=true then
   if Qp8 m p=true then
    if addV p=true then if QeH p.Drop p.Ids=true then 0 else 18 else 18
   else 17
  else 18
 else 18
theorem Q56 (hl:m.Brokers.length≤1000000000){p:Pt}(hp:limP p):QhV m p=some (Qs9 m p):=by
 have l1:=hp.ids;have l2:=hp.isr;have l3:=hp.add;have l4:=hp.drop
 unfold QhV Qs9
 by_cases g1:(p.Ids.length:Int)=0
 ·rw [if_pos (decide_eq_true g1),if_pos g1]
 rw [if_neg (fun q=>g1 (of_decide_eq_true q)),if_neg g1]
 refine(QeG (step:=Qf8 m p) (n:=p.Ids.length) (p:=fun i=>hasB m (rd p.Ids (i:Int))) (A:=(18:Int)) (b:=p.Ids.all fun x=>hasB m x) ?_ ?_ ?_).trans ?_
 ·intro i hi
  unfold Qf8
  simp only [lt_i hi,if_true,QaT (in_i hi),Qa0 hi (show p.Ids.length≤1000000000 by omega),QxP hl]
  unfold hasB
  cases QdJ bkId m.Brokers (rd p.Ids (i:Int))<;>rfl
 ·unfold Qf8;simp [lt_n]
 ·exact Qn4 fun i hi=>by rw [QbA hi]
 by_cases g2:(p.Ids.all fun x=>hasB m x)=true
 rotate_left
 ·rw [if_neg g2,if_neg g2]
 rw [if_pos g2,if_pos g2]
 by_cases g3:(p.Isr.length:Int)=0
 ·rw [if_pos (decide_eq_true g3),if_pos g3]
 rw [if_neg (fun q=>g3 (of_decide_eq_true q)),if_neg g3]
 refine(QeG (step:=Qf9 p) (n:=p.Isr.length) (p:=fun i=>decide (rd p.Isr (i:Int)∈p.Ids)) (A:=(18:Int)) (b:=QeH p.Isr p.Ids) ?_ ?_ ?_).trans ?_
 ·intro i hi
  unfold Qf9
  simp only [lt_i hi,if_true,QaT (in_i hi),Qa0 hi (show p.Isr.length≤1000000000 by omega),rHas _ _ (show p.Ids.length≤1000000000 by omega),Option.bind_some]
  cases decide (rd p.Isr (i:Int)∈p.Ids)<;>rfl
 ·unfold Qf9;simp [lt_n]
 ·exact Qn4 fun i hi=>by rw [QbA hi]
 by_cases g4:QeH p.Isr p.Ids=true
 rotate_left
 ·rw [if_neg g4,if_neg g4]
 rw [if_pos g4,if_pos g4]
 have hA:((if decide (p.Leader≠0)=true then(QeD p.Isr p.Leader).bind fun r76=>if(!r76)=true then some true else(QhU m p.Leader).bind fun r82=>some (!r82)else some false:Option Bool))=some (!Qp8 m p):=by
  unfold Qp8
  rw [rHas _ _ (by omega),Q8S hl]
  by_cases q:p.Leader=0
  ·simp [q]
  ·rw [if_pos (by simpa using q)]
   by_cases q2:p.Leader∈p.Isr
   ·simp [q,q2]
   ·simp [q,q2]
 rw [hA,Option.bind_some]
 by_cases g5:Qp8 m p=true
 rotate_left
 ·have:Qp8 m p=false:=by simpa using g5
  rw [this];rfl
 rw [g5,if_neg (by decide),if_pos rfl]
 refine(QeG (step:=QgA p) (n:=p.Add.length) (p:=fun i=>decide (rd p.Add (i:Int)∈p.Ids)&& !decide (rd p.Add (i:Int)∈p.Drop)) (A:=(18:Int)) (b:=addV p) ?_ ?_ ?_).trans ?_
 ·intro i hi
  unfold QgA
  simp only [lt_i hi,if_true,QaT (in_i hi),Qa0 hi (show p.Add.length≤1000000000 by omega),rHas _ _ (show p.Ids.length≤1000000000 by omega),rHas _ _ (show p.Drop.length≤1000000000 by omega),Option.bind_some]
  cases decide (rd p.Add (i:Int)∈p.Ids)<;>cases decide (rd p.Add (i:Int)∈p.Drop)<;>rfl
 ·unfold QgA;simp [lt_n]
 ·exact Qn4 fun i hi=>by rw [QbA hi]
 by_cases g6:addV p=true
 rotate_left
 ·rw [if_neg g6,if_neg g6]
 rw [if_pos g6,if_pos g6]
 refine(QeG (step:=QgB p) (n:=p.Drop.length) (p:=fun i=>decide (rd p.Drop (i:Int)∈p.Ids)) (A:=(18:Int)) (K:=some 0) (b:=QeH p.Drop p.Ids) ?_ ?_ ?_).trans ?_
 ·intro i hi
  unfold QgB
  simp only [lt_i hi,if_true,QaT (in_i hi),Qa0 hi (show p.Drop.length≤1000000000 by omega),rHas _ _ (show p.Ids.length≤1000000000 by omega),Option.bind_some]
  cases decide (rd p.Drop (i:Int)∈p.Ids)<;>rfl
 ·unfold QgB;simp [lt_n]
 ·exact Qn4 fun i hi=>by rw [QbA hi]
 cases QeH p.Drop p.Ids<;>rfl
theorem QwN {p:Pt}(h1:part1 p=true) (h2:0≤p.Epoch∧p.Epoch≤1073741824):QjQ m p=decide (Qs9 m p=0):=by
 have e2:Qv2 p=(decide ((p.Ids.length:Int)=0) ||decide ((p.Isr.length:Int)=0)):=by
  unfold Qv2
  rw [decide_eq_false (show¬ p.Epoch<0 by omega),decide_eq_false (show¬ 1073741824<p.Epoch by omega)]
  cases decide ((p.Ids.length:Int)=0)<;>cases decide ((p.Isr.length:Int)=0)<;>rfl
 have e5:(QeH p.Add p.Ids&&Q1L p)=addV p:=by
  unfold QeH Q1L addV
  induction p.Add with
  |nil=>rfl
  |cons x l ih=>
   simp only [List.all_cons,←ih]
   cases decide (x∈p.Ids)<;>cases decide (x∈p.Drop)<;>simp
 unfold QjQ QzR Qs9
 rw [h1,e2,←e5]
 by_cases a1:(p.Ids.length:Int)=0
 ·simp [a1]
 by_cases a2:(p.Ids.all fun x=>hasB m x)=true
 rotate_left
 ·rw [if_neg a1,if_neg a2]
  have:(p.Ids.all fun x=>hasB m x)=false:=by simpa using a2
  rw [this];rfl
 by_cases a3:(p.Isr.length:Int)=0
 ·simp [a1,a2,a3]
 rw [if_neg a1,if_pos a2,if_neg a3,a2,decide_eq_false a1,decide_eq_false a3]
 cases QeH p.Isr p.Ids<;>cases QeH p.Add p.Ids<;>cases QeH p.Drop p.Ids<;>cases Qp8 m p<;>cases Q1L p<;>rfl
end
def insB (b:Bk):List Bk→List Bk
 |[]=>[b]
 |x::l=>if x.Id<b.Id then x::insB b l else if x.Id=b.Id then b::l else b::x::l
theorem QoB (l:List Bk) (b:Bk) (hs:l.Pairwise fun x y=>x.Id<y.Id) (hl:l.length≤1000000):Qd6 l b=some (insB b l):=by
 have key:∀ (d i:Nat) (acc:List Bk) (done:Bool),i+d=l.length→acc.length+(if done=true then 0 else 1)≤i+1→(done=true→∀ x∈l.drop i,b.Id<x.Id)→
   ∃ r:List Bk×Bool,iter (Qc6 l b) (acc,done,(i:Int))=some r∧r.1.length≤l.length+1∧(if r.2=true then r.1 else r.1++[b])=acc++(if done=true then l.drop i else insB b (l.drop i)):=by
  intro d
  induction d with
  |zero=>
   intro i acc done hi ha hd
   have:i=l.length:=by omega
   subst this
   refine⟨(acc,done),Qa3 ?_,by show acc.length≤_;omega, ?_⟩
   ·unfold Qc6;simp [lt_n]
   ·rw [List.drop_of_length_le (Nat.le_refl _)];cases done<;>simp [insB]
  |succ d ih=>
   intro i acc done hi ha hd
   have hlt:i<l.length:=by omega
   have hdr:=List.drop_eq_getElem_cons hlt
   have hgt:∀ x∈l.drop (i+1),l[i].Id<x.Id:=fun x hx=>by
    obtain ⟨j,hj,rfl⟩:=List.getElem_of_mem hx
    simp at hj⊢
    exact List.pairwise_iff_getElem.1 hs i (i+1+j) hlt (by omega) (by omega)
   have hst:∀ acc' done',((if(!done)=true then some (decide (b.Id≤l[i].Id))else some false:Option Bool).bind fun x38=>if x38=true then grd (acc.length+[b].length≤274877906944) (some (acc++[b],true))else some (acc,done))=some (acc',done')→acc'.length≤i+2→
     Qc6 l b (acc,done,(i:Int))=some (.inl (if l[i].Id≠b.Id then acc'++[l[i]]else acc',done',((i+1:Nat):Int))):=by
    intro acc' done' he hacc
    unfold Qc6
    simp only [lt_i hlt,if_true,QaT (in_i hlt),Qa0 hlt (show l.length≤1000000000 by omega),QbA hlt]
    rw [he]
    simp only [Option.bind_some]
    by_cases q:l[i].Id=b.Id
    ·simp [q]
    ·rw [if_pos (decide_eq_true q),QaT (by simp;omega),if_pos q];rfl
   rw [hdr]
   cases done with
   |true=>
    rw [if_pos rfl] at ha
    have hgi:b.Id<l[i].Id:=hd rfl _ (by rw [hdr];exact .head _)
    have h1:=hst acc true rfl (by omega)
    rw [if_pos (show l[i].Id≠b.Id by omega)] at h1
    obtain ⟨r,r1,r2,r3⟩:=ih (i+1) (acc++[l[i]]) true (by omega) (by simp;omega) (fun _ x hx=>by have:=hgt x hx;omega)
    exact⟨r,(Qa5 h1).trans r1,r2,by rw [r3];simp⟩
   |false=>
    rw [if_neg (by decide)] at ha
    by_cases q1:l[i].Id<b.Id
    ·have h1:=hst acc false (by rw [decide_eq_false (by omega)];rfl) (by omega)
     rw [if_pos (show l[i].Id≠b.Id by omega)] at h1
     obtain ⟨r,r1,r2,r3⟩:=ih (i+1) (acc++[l[i]]) false (by omega) (by simp;omega) (fun z=>by cases z)
     exact⟨r,(Qa5 h1).trans r1,r2,by rw [r3];simp [insB,q1]⟩
    ·have h1:=hst (acc++[b]) true (by rw [decide_eq_true (show b.Id≤l[i].Id by omega)];exact QaT (by simp;omega)) (by simp;omega)
     by_cases q2:l[i].Id=b.Id
     ·rw [if_neg (by simpa using q2)] at h1
      obtain ⟨r,r1,r2,r3⟩:=ih (i+1) (acc++[b]) true (by omega) (by simp;omega) (fun _ x hx=>by have:=hgt x hx;omega)
      exact⟨r,(Qa5 h1).trans r1,r2,by rw [r3];simp [insB,q2]⟩
     ·rw [if_pos q2] at h1
      have hacc2:(acc++[b]++[l[i]]).length≤i+1+1∨True:= .inr trivial
      obtain ⟨r,r1,r2,r3⟩:=ih (i+1) (acc++[b]++[l[i]]) true (by omega) (by simp;omega) (fun _ x hx=>by have:=hgt x hx;omega)
      exact⟨r,(Qa5 h1).trans r1,r2,by rw [r3];simp [insB,q1,q2]⟩
 obtain ⟨r,r1,r2,r3⟩:=key l.length 0 [] false (by omega) (by simp) (fun z=>by cases z)
 unfold Qd6
 rw [nat0] at r1
 rw [r1]
 obtain ⟨x,dn⟩:=r
 have r2':x.length≤l.length+1:=r2
 simp only [Option.bind_some]
 simp only [List.drop_zero,Bool.false_eq_true,if_false,List.nil_append] at r3
 rw [←r3]
 cases dn
 ·simp only [Bool.not_false,if_true];rw [QaT (by simp;omega)];rfl
 ·rfl
def QW (P:Prop) (R:Option QaV):Prop:=∃ w,R=some w∧(w.Code=0↔P)
theorem qI {P:Prop}{c:Bool}{A:QaV}{R:Option QaV}(hA:A.Code≠0) (h:QW P R):QW (c=false∧P) (if c=true then some A else R):=by
 cases c
 ·obtain ⟨w,h1,h2⟩:=h;exact⟨w,h1,by rw [h2];simp⟩
 ·exact⟨A,rfl,by simp [hA]⟩
theorem qN {P Q:Prop}{N R:Option QaV}(hN:QW P N) (h:QW Q R):QW (P∧Q) (N.bind fun w=>if decide (w.Code≠0)=true then some w else R):=by
 obtain ⟨w,h1,h2⟩:=hN
 obtain ⟨v,k1,k2⟩:=h
 rw [h1]
 by_cases g:w.Code=0
 ·refine⟨v, ?_,by rw [k2,←h2];simp [g]⟩
  simp [g,k1]
 ·refine⟨w, ?_,by rw [←h2];simp [g]⟩
  simp [g]
theorem qZ {A:QaV}(h:A.Code=0):QW True (some A):=⟨A,rfl,by simp [h]⟩
theorem Q8T (r:Rec):∃ w,QfY r=some w∧(w.Code=0↔okRec r∧(r.Value=⟨#[]⟩∨r.Flag=false)):=by
 obtain ⟨hb,he,ht,hp,hl,ha,hf,hn,hk,hv,hr,hi,hm,hx⟩:=Q6W r.Kind
 have hV:(if decide ((256:Int)<(r.Value.size:Int))=true then some true else if(!decide (r.Value=(⟨#[]⟩:ByteArray)))=true then if r.Flag=true then some true else some (!hasR r.Kind 512)else some false:Option Bool)=some (decide ((256:Int)<(r.Value.size:Int)) ||(!decide (r.Value=(⟨#[]⟩:ByteArray))&&(r.Flag || !hasR r.Kind 512))):=by
  cases decide ((256:Int)<(r.Value.size:Int))<;>cases decide (r.Value=(⟨#[]⟩:ByteArray))<;>cases r.Flag<;>rfl
 unfold QfY Qi0
 simp only [Q8F,hb,he,ht,hp,hl,ha,hf,hn,hk,hv,hr,hi,hm,hx,JaJ,Q8D,JaK,Option.bind_some,Qo7,QjV,hV]
 have key:=qI (c:=decide (r.Kind<1) ||decide (12<r.Kind)) (A:=⟨⟨#[107,105,110,100]⟩,r.Kind,5⟩) nz5
  (qN (qI (c:= !numW r.Broker (hasR r.Kind 1) 1 64) (A:=⟨⟨#[98,114,111,107,101,114]⟩,r.Broker,2⟩) nz2
   (qI (c:= !numW r.Epoch (hasR r.Kind 2) 0 1073741824) (A:=⟨⟨#[101,112,111,99,104]⟩,r.Epoch,2⟩) nz2
   (qI (c:= !numW r.Topic (hasR r.Kind 4) (Q0O r.Kind) 1073741824) (A:=⟨⟨#[116,111,112,105,99]⟩,r.Topic,2⟩) nz2
   (qI (c:= !numW r.Part (hasR r.Kind 8) 0 255) (A:=⟨⟨#[112,97,114,116]⟩,r.Part,2⟩) nz2
   (qI (c:= !numW r.Leader (hasR r.Kind 16) 0 64) (A:=⟨⟨#[108,101,97,100,101,114]⟩,r.Leader,2⟩) nz2
   (qI (c:= !numW r.Client (hasR r.Kind 32) 1 1073741824 ||(!numW r.Serial (hasR r.Kind 32) 1 1073741824 || !numW r.Code (hasR r.Kind 32) 0 21)) (A:=⟨⟨#[97,115,107,101,114]⟩,r.Client,2⟩) nz2 (qZ (A:=⟨⟨#[]⟩,0,0⟩) rfl)))))))
  (qI (c:=r.Flag&& !hasR r.Kind 64) (A:=⟨⟨#[102,108,97,103]⟩,1,1⟩) nz1
  (qI (c:= !Qv1 r.Name (hasR r.Kind 128) ||(!Qv1 r.Key (hasR r.Kind 256) || !Qv1 r.Rack (hasR r.Kind 1024))) (A:=⟨⟨#[110,97,109,101]⟩,(r.Name.size:Int),1⟩) nz1
  (qI (c:=decide ((256:Int)<(r.Value.size:Int)) ||(!decide (r.Value=(⟨#[]⟩:ByteArray))&&(r.Flag || !hasR r.Kind 512))) (A:=⟨⟨#[118,97,108,117,101]⟩,(r.Value.size:Int),6⟩) nz6
  (qI (c:= !rowV r.Ids (hasR r.Kind 2048) ||(!rowV r.Isr (hasR r.Kind 4096) ||(!rowV r.Add (hasR r.Kind 8192) || !rowV r.Drop (hasR r.Kind 8192)))) (A:=⟨⟨#[114,111,119]⟩,(r.Ids.length:Int),18⟩) nz18 (qZ (A:=⟨⟨#[]⟩,0,0⟩) rfl))))))
 obtain ⟨w,h1,h2⟩:=key
 refine⟨w,h1,h2.trans ?_⟩
 simp only [Bool.or_eq_false_iff,Bool.not_eq_false',Bool.and_eq_false_iff,decide_eq_false_iff_not,Bool.not_eq_true',and_true,Int.not_lt]
 constructor
 ·rintro ⟨⟨a1,a2⟩,⟨b1,b2,b3,b4,b5,b6,b7,b8⟩,c1,⟨d1,d2,d3⟩,⟨e1,e2⟩,f1,f2,f3,f4⟩
  refine⟨⟨⟨a1,a2⟩,b1,b2,b3,b4,b5,b6,b7,b8, ?_,d1,d2,d3, ?_,f1,f2,f3,f4⟩, ?_⟩
  ·intro q;rcases c1 with z |z
   ·exact z
   ·rw [q] at z;cases z
  ·unfold Q4W
   rcases e2 with z |⟨z1,z2⟩
   ·rw [of_decide_eq_true z]
    cases hasR r.Kind 512<;>rfl
   ·rw [z2,if_pos rfl];exact decide_eq_true e1
  ·rcases e2 with z |⟨z1,z2⟩
   ·exact .inl (of_decide_eq_true z)
   ·exact .inr z1
 ·rintro ⟨h,hv⟩
  refine⟨h.kind,⟨h.broker,h.epoch,h.topic,h.part,h.leader,h.client,h.serial,h.code⟩, ?_,⟨h.name,h.key,h.rack⟩, ?_,h.ids,h.isr,h.add,h.drop⟩
  ·cases q:hasR r.Kind 64
   ·exact .inl (h.flag q)
   ·exact .inr rfl
  ·have hw:=Q2R h.value
   by_cases g:r.Value=⟨#[]⟩
   ·refine⟨by rw [g];decide, .inl (decide_eq_true g)⟩
   ·cases q:hasR r.Kind 512
    ·exact absurd (hw.2 q) g
    ·exact⟨by have:=hw.1 q;omega, .inr ⟨hv.resolve_left g,rfl⟩⟩
theorem QuF (a b:List Int) (h:a.length≤1000000):QfT a b=some (decide (a=b)):=by
 unfold QfT
 by_cases g:a.length=b.length
 ·rw [if_neg (by simp [g])]
  rw [QeG (step:=QhF a b) (n:=a.length) (p:=fun i=>decide (rd a (i:Int)=rd b (i:Int))) (A:=false) (K:=some true) (b:=decide (a=b))]
  ·cases decide (a=b)<;>rfl
  ·intro i hi
   unfold QhF
   simp only [lt_i hi,if_true,QaT (in_i hi),QaT (in_i (show i<b.length by omega)),Qa0 hi (show a.length≤1000000000 by omega)]
   by_cases q:rd a (i:Int)=rd b (i:Int)
   ·rw [if_neg (fun z=>absurd q (of_decide_eq_true z)),if_pos (decide_eq_true q)]
   ·rw [if_pos (decide_eq_true q),if_neg (fun z=>q (of_decide_eq_true z))]
  ·unfold QhF;simp [lt_n]
  ·rw [decide_eq_true_eq]
   constructor
   ·rintro rfl i _;exact decide_eq_true rfl
   ·intro k
    apply List.ext_getElem g
    intro i h1 h2
    have:=of_decide_eq_true (k i h1)
    rwa [QbA h1,QbA h2] at this
 ·rw [if_pos (decide_eq_true (by omega)),decide_eq_false (fun e=>g (by rw [e]))]
def QyY (a b:Pt):Bool:=decide (a.Leader=b.Leader)&&(decide (a.Epoch=b.Epoch)&&(decide (a.Ids=b.Ids)&&(decide (a.Isr=b.Isr)&&(decide (a.Add=b.Add)&&decide (a.Drop=b.Drop)))))
theorem QvP {a:Pt}(h:limP a) (b:Pt):QdQ a b=some (QyY a b):=by
 unfold QdQ QyY
 simp only [QuF _ _ h.ids,QuF _ _ h.isr,QuF _ _ h.add,QuF _ _ h.drop,Qo7,QjV,Option.bind_some]
 by_cases g1:a.Leader=b.Leader
 ·by_cases g2:a.Epoch=b.Epoch
  ·simp only [g1,g2,ne_eq,not_true_eq_false,decide_false,Bool.or_self,Bool.false_eq_true,if_false,decide_true,Bool.true_and]
   cases decide (a.Ids=b.Ids)<;>cases decide (a.Isr=b.Isr)<;>cases decide (a.Add=b.Add)<;>cases decide (a.Drop=b.Drop)<;>rfl
  ·simp [g1,g2]
 ·simp [g1]
def setP (l:List Pt) (n:Nat) (p:Pt):List Pt:=l.take n++[p]++l.drop (n+1)
def putV (m:Img) (id:Int) (n:Nat) (p:Pt):Img:={m with Topics:=m.Topics.map fun t=>if t.Id=id then {t with Parts:=setP t.Parts n p}else t}
theorem Q5B {α:Type}[Inhabited α]{l:List α}{f:α→α}{step:Int×List α→Option ((Int×List α)⊕List α)}
  (hs:∀ i,(hi:i<l.length)→∀ acc:List α,acc.length=i→step ((i:Int),acc)=some (.inl (((i+1:Nat):Int),acc++[f l[i]]))) (he:∀ acc,step ((l.length:Int),acc)=some (.inr acc)):
  iter step ((0:Int),[])=some (l.map f):=by
 have:=QcJ (step:=step) (n:=l.length) (st:=fun i=>((i:Int),(l.take i).map f)) (g:=fun _=>(none:Option Unit)) (ex:=fun _=>[]) (fin:=l.map f)
  (fun i hi _=>by
   rw [hs i hi _ (by rw [List.length_map,List.length_take];omega),List.take_succ_eq_append_getElem hi,List.map_append];rfl)
  (fun _=>by rw [he,List.take_length])
 simp only [List.take_zero,List.map_nil,nat0] at this
 rw [this]
 have:QcF (fun _=>(none:Option Unit)) l.length 0=none:=QbV.2 fun _ _=>rfl
 rw [this];rfl
theorem QqA {α:Type}[Inhabited α]{l:List α}{p:α→Bool}{step:Int×List α→Option ((Int×List α)⊕List α)}
  (hs:∀ i,(hi:i<l.length)→∀ acc:List α,acc.length≤i→step ((i:Int),acc)=some (.inl (((i+1:Nat):Int),if p l[i]=true then acc++[l[i]]else acc))) (he:∀ acc,step ((l.length:Int),acc)=some (.inr acc)):
  iter step ((0:Int),[])=some (l.filter p):=by
 have:=QcJ (step:=step) (n:=l.length) (st:=fun i=>((i:Int),(l.take i).filter p)) (g:=fun _=>(none:Option Unit)) (ex:=fun _=>[]) (fin:=l.filter p)
  (fun i hi _=>by
   rw [hs i hi _ (by have:=List.length_filter_le p (l.take i);rw [List.length_take] at this;omega),List.take_succ_eq_append_getElem hi,List.filter_append]
   cases h:p l[i]<;>simp [h])
  (fun _=>by rw [he,List.take_length])
 simp only [List.take_zero,List.filter_nil,nat0] at this
 rw [this]
 have:QcF (fun _=>(none:Option Unit)) l.length 0=none:=QbV.2 fun _ _=>rfl
 rw [this];rfl
theorem sub0 {α:Type}(l:List α) (n:Nat):sub l (0:Int) (n:Int)=l.take n:=by
 unfold sub
 rw [show (0:Int).toNat=0 from rfl,show ((n:Int)).toNat=n by omega];simp
theorem subN {α:Type}(l:List α) (n:Nat):sub l (n:Int) (l.length:Int)=l.drop n:=by
 unfold sub
 rw [show ((n:Int)).toNat=n by omega,show ((l.length:Int)).toNat=l.length by omega]
 exact List.take_of_length_le (by simp)
theorem QwO {m:Img}(h:limM m){id:Int}{n:Nat}(hn:∀ t∈m.Topics,t.Id=id→n≤t.Parts.length) (p:Pt):QfF m id (n:Int) p=some (putV m id n p):=by
 unfold QfF putV
 have h1:=h.tp
 rw [Q5B (l:=m.Topics) (f:=fun t=>if t.Id=id then {t with Parts:=setP t.Parts n p}else t)]
 ·rfl
 ·intro i hi acc ha
  have h2:=h.pt _ (List.getElem_mem hi)
  unfold Qg1
  simp only [lt_i hi,if_true,QaT (in_i hi),Qa0 hi (show m.Topics.length≤1000000000 by omega),QbA hi]
  by_cases q:m.Topics[i].Id=id
  ·have h3:=hn _ (List.getElem_mem hi) q
   rw [if_pos (decide_eq_true q),if_pos q,QaT (by omega),sub0,QaT (by rw [List.length_take];simp;omega),QaT (by rw [List.length_append,List.length_take];simp;omega)]
   by_cases q2:n<m.Topics[i].Parts.length
   ·rw [if_pos (decide_eq_true (by omega)),Qa0 (show n<m.Topics[i].Parts.length from q2) (by omega),QaT (by omega),subN,QaT (by simp;omega)]
    simp only [Option.bind_some]
    rw [QaT (by simp;omega)]
    unfold setP;simp
   ·rw [if_neg (fun z=>absurd (of_decide_eq_true z) (by omega))]
    simp only [Option.bind_some]
    rw [QaT (by simp;omega)]
    unfold setP
    rw [List.drop_of_length_le (by omega)];simp
  ·rw [if_neg (fun z=>q (of_decide_eq_true z)),if_neg q]
   simp only [Option.bind_some]
   rw [QaT (by simp;omega)]
 ·intro acc;unfold Qg1;simp [lt_n]
instance (a b:Cf):Decidable (cfLt a b):=by unfold cfLt;infer_instance
def insC (c:Cf):List Cf→List Cf
 |[]=>[c]
 |x::l=>if cfLt x c then x::insC c l else if cfIs c.Topic c.Key x=true then c::l else c::x::l
abbrev cfOf (r:Rec):Cf:=⟨r.Topic,r.Key,r.Value⟩
theorem Q61 {a b:Cf}(h:cfLt a b):cfIs b.Topic b.Key a=false:=by
 unfold cfIs
 rcases h with h |⟨h1,h2⟩
 ·rw [decide_eq_false (by omega)];rfl
 ·by_cases e:a.Key=b.Key
  ·rw [e,QwJ] at h2;cases h2
  ·rw [decide_eq_false e];simp
theorem Q0V {a b:Cf}(h:cfLt b a):cfIs b.Topic b.Key a=false:=by
 unfold cfIs
 rcases h with h |⟨h1,h2⟩
 ·rw [decide_eq_false (by omega)];rfl
 ·by_cases e:a.Key=b.Key
  ·rw [e,QwJ] at h2;cases h2
  ·rw [decide_eq_false e];simp
theorem Q57 {a b:Cf}(h1:¬ cfLt a b) (h2:cfIs b.Topic b.Key a=false):cfLt b a:=by
 unfold cfLt at h1⊢
 unfold cfIs at h2
 by_cases q:a.Topic=b.Topic
 ·have h3:ltS a.Key b.Key=false:=by
   cases z:ltS a.Key b.Key
   ·rfl
   ·exact absurd (.inr ⟨q,z⟩) h1
  have h4:a.Key≠b.Key:=fun e=>by rw [decide_eq_true q,decide_eq_true e] at h2;cases h2
  refine .inr ⟨q.symm, ?_⟩
  cases z:ltS b.Key a.Key
  ·exact absurd (Q6Z h3 z) h4
  ·rfl
 ·refine .inl ?_
  have:¬ a.Topic<b.Topic:=fun z=>h1 (.inl z)
  omega
theorem Q29 {m:Img}{r:Rec}(hn:m.Configs.length≤1000000){i:Nat}(hi:i<m.Configs.length){dn:Bool}{acc:List Cf}(ha:acc.length≤i+1):
  Qd7 m r (dn,(i:Int),acc)=some (.inl (if(!dn&& !decide (cfLt m.Configs[i] (cfOf r)))=true then(true,((i+1:Nat):Int),if cfIs r.Topic r.Key m.Configs[i]=true then acc++[cfOf r]else acc++[cfOf r]++[m.Configs[i]])else(dn,((i+1:Nat):Int),if cfIs r.Topic r.Key m.Configs[i]=true then acc else acc++[m.Configs[i]]))):=by
 unfold Qd7
 simp only [lt_i hi,if_true,QaT (in_i hi),Qa0 hi (show m.Configs.length≤1000000000 by omega),QbA hi]
 have e1:(if(!dn)=true then(if decide (r.Topic<m.Configs[i].Topic)=true then some true else if decide (m.Configs[i].Topic=r.Topic)=true then some (!Op.bytesLess m.Configs[i].Key.toList r.Key.toList)else some false)else some false:Option Bool)=some (!dn&& !decide (cfLt m.Configs[i] (cfOf r))):=by
  cases dn with
  |true=>rfl
  |false=>
   simp only [Bool.not_false,if_true,Bool.true_and]
   by_cases q1:r.Topic<m.Configs[i].Topic
   ·rw [if_pos (decide_eq_true q1),decide_eq_false (fun z=>by rcases z with z |⟨z,_⟩<;>(simp only at z;omega))];rfl
   ·rw [if_neg (fun z=>q1 (of_decide_eq_true z))]
    by_cases q2:m.Configs[i].Topic=r.Topic
    ·rw [if_pos (decide_eq_true q2)]
     show some (!ltS m.Configs[i].Key r.Key)=_
     cases z:ltS m.Configs[i].Key r.Key
     ·rw [decide_eq_false (fun y=>by rcases y with y |⟨_,y⟩;(simp only at y;omega);(rw [z] at y;cases y))]
     ·rw [decide_eq_true (show cfLt m.Configs[i] (cfOf r) from .inr ⟨q2,z⟩)]
    ·rw [if_neg (fun z=>q2 (of_decide_eq_true z)),decide_eq_true (show cfLt m.Configs[i] (cfOf r) from .inl (by show m.Configs[i].Topic<r.Topic;omega))];rfl
 have e2:∀ x:List Cf,x.length≤i+2→∀ d:Bool,((if decide (m.Configs[i].Topic≠r.Topic)=true then some true else some (!decide (m.Configs[i].Key=r.Key)):Option Bool).bind fun x85=>if x85=true then grd (x.length+[m.Configs[i]].length≤274877906944) (some (d,x++[m.Configs[i]]))else some (d,x))=some (d,if cfIs r.Topic r.Key m.Configs[i]=true then x else x++[m.Configs[i]]):=by
  intro x hx d
  unfold cfIs
  rw [QaT (by simp;omega)]
  by_cases q1:m.Configs[i].Topic=r.Topic<;>by_cases q2:m.Configs[i].Key=r.Key<;>simp [q1,q2]
 rw [e1]
 simp only [Option.bind_some]
 by_cases g:(!dn&& !decide (cfLt m.Configs[i] (cfOf r)))=true
 ·rw [if_pos g,if_pos g,QaT (by simp;omega)]
  simp only [Option.bind_some]
  rw [e2 _ (by simp;omega)]
  simp only [Option.bind_some]
 ·rw [if_neg g,if_neg g]
  simp only [Option.bind_some]
  rw [e2 _ (by omega)]
  simp only [Option.bind_some]
theorem QrR {m:Img}{r:Rec}(hn:m.Configs.length≤1000000) (hs:m.Configs.Pairwise cfLt):∀ (d i:Nat) (acc:List Cf) (dn:Bool),i+d=m.Configs.length→acc.length+(if dn=true then 0 else 1)≤i+1→
  ∃ q:Bool×List Cf,iter (Qd7 m r) (dn,(i:Int),acc)=some q∧q.2.length≤m.Configs.length+1∧
   (if q.1=true then q.2 else q.2++[cfOf r])=acc++(if dn=true then(m.Configs.drop i).filter (fun x=> !cfIs r.Topic r.Key x)else insC (cfOf r) (m.Configs.drop i))
 |0,i,acc,dn,hi,ha=>by
  have:i=m.Configs.length:=by omega
  subst this
  refine⟨(dn,acc),Qa3 (by unfold Qd7;simp [lt_n]),by show acc.length≤_;omega, ?_⟩
  rw [List.drop_of_length_le (Nat.le_refl _)];cases dn<;>simp [insC]
 |d+1,i,acc,dn,hi,ha=>by
  have hlt:i<m.Configs.length:=by omega
  have hdr:=List.drop_eq_getElem_cons hlt
  have hst:=Q29 (r:=r) hn hlt (dn:=dn) (acc:=acc) (by omega)
  have hgt:∀ x∈m.Configs.drop (i+1),cfLt m.Configs[i] x:=fun x hx=>by
   obtain ⟨j,hj,rfl⟩:=List.getElem_of_mem hx
   simp at hj⊢
   exact List.pairwise_iff_getElem.1 hs i (i+1+j) hlt (by omega) (by omega)
  rw [hdr]
  cases dn with
  |true=>
   rw [if_pos rfl] at ha
   rw [if_neg (by simp)] at hst
   obtain ⟨q,q1,q2,q3⟩:=QrR hn hs d (i+1) _ true (by omega) (show (if cfIs r.Topic r.Key m.Configs[i]=true then acc else acc++[m.Configs[i]]).length+(if true=true then 0 else 1)≤i+1+1 by rw [if_pos rfl];split<;>simp<;>omega)
   refine⟨q,(Qa5 hst).trans q1,q2, ?_⟩
   rw [q3,if_pos rfl,if_pos rfl,List.filter_cons]
   cases h:cfIs r.Topic r.Key m.Configs[i]
   ·simp only [Bool.false_eq_true,if_false,Bool.not_false,if_true,List.append_assoc,List.singleton_append]
   ·simp only [if_true,Bool.not_true,Bool.false_eq_true,if_false]
  |false=>
   rw [if_neg (by decide)] at ha
   by_cases g:cfLt m.Configs[i] (cfOf r)
   ·rw [if_neg (by rw [decide_eq_true g];decide),show cfIs r.Topic r.Key m.Configs[i]=false from Q61 g,if_neg (by decide)] at hst
    obtain ⟨q,q1,q2,q3⟩:=QrR hn hs d (i+1) (acc++[m.Configs[i]]) false (by omega) (by rw [if_neg (by decide)];simp;omega)
    refine⟨q,(Qa5 hst).trans q1,q2, ?_⟩
    rw [q3,if_neg (by decide),if_neg (by decide)]
    simp only [insC,if_pos g,List.append_assoc,List.singleton_append]
   ·rw [if_pos (by rw [decide_eq_false g];rfl)] at hst
    have hall:∀ x∈m.Configs.drop (i+1),(!cfIs r.Topic r.Key x)=true:=fun x hx=>by
     have h1:=hgt x hx
     cases e:cfIs r.Topic r.Key m.Configs[i]with
     |true=>
      have h2:cfLt (cfOf r) x:=by
       unfold cfIs at e
       simp only [Bool.and_eq_true,decide_eq_true_eq] at e
       unfold cfLt at h1⊢
       rw [e.1,e.2] at h1;exact h1
      rw [show cfIs r.Topic r.Key x=false from Q0V h2];rfl
     |false=>rw [show cfIs r.Topic r.Key x=false from Q0V (QsW (Q57 (b:=cfOf r) g e) h1)];rfl
    obtain ⟨q,q1,q2,q3⟩:=QrR hn hs d (i+1) _ true (by omega) (show (if cfIs r.Topic r.Key m.Configs[i]=true then acc++[cfOf r]else acc++[cfOf r]++[m.Configs[i]]).length+(if true=true then 0 else 1)≤i+1+1 by rw [if_pos rfl];split<;>simp<;>omega)
    refine⟨q,(Qa5 hst).trans q1,q2, ?_⟩
    rw [q3]
    have e1:insC (cfOf r) (m.Configs[i]::m.Configs.drop (i+1))=if cfIs r.Topic r.Key m.Configs[i]=true then cfOf r::m.Configs.drop (i+1)else cfOf r::m.Configs[i]::m.Configs.drop (i+1):=by
     simp only [insC,if_neg g]
    simp only [eq_self_iff_true,if_true,Bool.false_eq_true,if_false,e1,List.filter_eq_self.2 hall]
    cases e:cfIs r.Topic r.Key m.Configs[i]
    ·simp only [Bool.false_eq_true,if_false,List.append_assoc,List.singleton_append,List.cons_append,List.nil_append]
    ·simp only [if_true,List.append_assoc,List.singleton_append]
def QkQ (r:Rec):Pt:=⟨r.Ids,r.Isr,r.Leader,r.Epoch,r.Add,r.Drop⟩
def QoC (m:Img) (r:Rec):Img×Int:=
 match QdJ bkId m.Brokers r.Broker with
 |some b=>if r.Epoch≤b.Epoch then(m,11)else if QgN m r.Broker=true then(m,10)else({m with Brokers:=insB ⟨r.Broker,r.Epoch,r.Rack,true,false⟩ m.Brokers},0)
 |none=>({m with Brokers:=insB ⟨r.Broker,r.Epoch,r.Rack,true,false⟩ m.Brokers},0)
def QvQ (m : Img) (r : Rec) : Img × Int :=
  match QdJ bkId m.Brokers r.Broker with
  | none => (m, 8)
  | some b =>
    if b.Epoch ≠ r.Epoch then (m, 11)
    else if r.Kind = 3 then if (b.Fenced || QgN m b.Id) = true then (m, 10) else ({ m with Brokers := insB { b with Fenced := true } m.Brokers }, 0)
    else if r.Kind = 4 then if (!b.Fenced) = true then (m, 10) else ({ m with Brokers := insB { b with Fenced := false, Leaving := false } m.Brokers }, 0)
    else if r.Kind = 5 then if (b.Fenced || b.Leaving) = true then (m, 10) else ({ m with Brokers := insB { b with Leaving := true } m.Brokers }, 0)
    else if QyX m b.Id = true then (m, 10) else ({ m with Brokers := m.Brokers.filter fun x => decide (x.Id ≠ b.Id) }, 0)
def QoD (m:Img) (r:Rec):Img×Int:=
 match QdJ tpId m.Topics r.Topic with
 |none=>(m,8)
 |some t=>
  if Qs9 m (QkQ r)≠0 then(m,Qs9 m (QkQ r))
  else if r.Kind=8 then if r.Part≠(t.Parts.length:Int)then(m,10)else(putV m r.Topic r.Part.toNat (QkQ r),0)
  else if(t.Parts.length:Int)≤r.Part then(m,8)
  else if(decide (r.Epoch<(rd t.Parts r.Part).Epoch) ||(decide (IntKind.i64.wrap ((rd t.Parts r.Part).Epoch+1)<r.Epoch) ||(decide (r.Epoch=(rd t.Parts r.Part).Epoch)&&decide (r.Leader≠(rd t.Parts r.Part).Leader))))=true then(m,11)
  else if QyY (rd t.Parts r.Part) (QkQ r)=true then(m,10)else(putV m r.Topic r.Part.toNat (QkQ r),0)
def QyZ (m:Img) (r:Rec):Img×Int:=
 if r.Topic≠IntKind.i64.wrap (m.Last+1)then(m,10)else if QwM m r.Name=true then(m,9)else if 256≤(m.Topics.length:Int)then(m,6)
 else({m with Topics:=m.Topics++[⟨r.Topic,r.Name,[]⟩],Last:=r.Topic},0)
def Q3A (m:Img) (id:Int):Img×Int:=
 if hasT m id=true then({m with Topics:=m.Topics.filter (fun t=>decide (t.Id≠id)),Configs:=m.Configs.filter (fun c=>decide (c.Topic≠id))},0)else(m,8)
def QvR (m:Img) (r:Rec):Img×Int:=
 if(!hasT m r.Topic&&decide (r.Topic≠0))=true then(m,8)else if(r.Flag&& !Q5A m r.Topic r.Key)=true then(m,8)
 else({m with Configs:=if r.Flag=true then m.Configs.filter (fun x=> !cfIs r.Topic r.Key x)else insC (cfOf r) m.Configs},0)
def Q3B (m:Img) (r:Rec):Img×Int:=
 if Q1Q m r.Client r.Serial=true then(m,9)else({m with Done:=m.Done.drop (if 64≤m.Done.length then m.Done.length - 63 else 0)++[⟨r.Client,r.Serial,r.Code⟩]},0)
def QxR (m:Img) (r:Rec):Img×Int:=
 if r.Kind=2 then QoC m r
 else if r.Kind=3∨r.Kind=4∨r.Kind=5∨r.Kind=6 then QvQ m r
 else if r.Kind=8∨r.Kind=9 then QoD m r
 else if r.Kind=7 then QyZ m r
 else if r.Kind=11 then Q3A m r.Topic
 else if r.Kind=10 then QvR m r
 else if r.Kind=12 then Q3B m r
 else(m,0)
theorem okImg.limB {m:Img}(h:okImg m):m.Brokers.length≤1000000000:=by have:=h.bl;omega
theorem okImg.limT {m:Img}(h:okImg m):m.Topics.length≤1000000000:=by have:=h.tn;omega
theorem Q5C {α:Type}(z:α) (o:Option α):(getV z o).2=o.isSome:=by cases o<;>rfl
section
variable {m : Img} {r : Rec}
theorem QzV (h:okImg m) (hl:limM m):Qf7 m r=some (QoC m r):=by
 unfold Qf7 QoC
 rw [QxP h.limB,Option.bind_some]
 cases e:QdJ bkId m.Brokers r.Broker with
 |none=>
  simp only [getV,Bool.false_eq_true,if_false,Option.bind_some]
  rw [QoB _ _ h.bs (by have:=h.bl;omega)];rfl
 |some b=>
  rw [show getV bz (some b)=(b,true) from rfl]
  simp only [if_true,Option.bind_some]
  by_cases g:r.Epoch≤b.Epoch
  ·rw [if_pos (decide_eq_true g),if_pos g]
  ·rw [if_neg (fun z=>g (of_decide_eq_true z)),if_neg g,Q28 hl]
   simp only [Option.bind_some]
   cases QgN m r.Broker
   ·simp only [Bool.false_eq_true,if_false]
    rw [QoB _ _ h.bs (by have:=h.bl;omega)];rfl
   ·rfl
theorem okImg.limPs (h:okImg m):∀ t∈m.Topics,∀ p∈t.Parts,limP p:=fun t ht p hp=>by
 have:=(h.tp t ht).2.2.2.2 p hp
 unfold QjQ G.part1 at this
 simp only [Bool.and_eq_true] at this
 have a1:=(QlL.1 this.1.1.1.1).1;have a2:=(QlL.1 this.1.1.1.2).1;have a3:=(QlL.1 this.1.1.2).1;have a4:=(QlL.1 this.1.2).1
 exact⟨by omega,by omega,by omega,by omega⟩
theorem QzW (h : okImg m) (hl : limM m) (hk : r.Kind = 3 ∨ r.Kind = 4 ∨ r.Kind = 5 ∨ r.Kind = 6) : Qh5 m r = some (QvQ m r) := by
  have hB : m.Brokers.length ≤ 1000000 := by have := h.bl; omega
  unfold Qh5 QvQ
  rw [QxP h.limB, Option.bind_some]
  cases e : QdJ bkId m.Brokers r.Broker with
  | none => rfl
  | some b =>
    rw [show getV bz (some b) = (b, true) from rfl]
    simp only [Bool.not_true, Bool.false_eq_true, if_false]
    by_cases g : b.Epoch = r.Epoch
    rotate_left
    · rw [if_pos (decide_eq_true g), if_pos g]
    rw [if_neg (fun z => absurd g (of_decide_eq_true z)), if_neg (show ¬ (b.Epoch ≠ r.Epoch) from fun z => z g)]
    simp only [Q28 hl, JaL hl (fun t ht p hp => (h.limPs t ht p hp).ids), Qo7, Option.bind_some]
    have pb := fun x => QoB m.Brokers x h.bs hB
    rcases hk with k | k | k | k
    · rw [if_pos k]
      simp only [decide_eq_true k, if_true]
      cases (b.Fenced || QgN m b.Id)
      · simp only [Bool.false_eq_true, if_false, Option.bind_some, Sum.elim_inl, pb]
      · rfl
    · rw [if_neg (show ¬ r.Kind = 3 by omega), if_pos k]
      simp only [decide_eq_false (show ¬ r.Kind = 3 by omega), decide_eq_true k, Bool.false_eq_true, if_false, if_true]
      cases b.Fenced
      · rfl
      · simp only [Bool.not_true, Bool.false_eq_true, if_false, Option.bind_some, Sum.elim_inl, pb]
    · rw [if_neg (show ¬ r.Kind = 3 by omega), if_neg (show ¬ r.Kind = 4 by omega), if_pos k]
      simp only [decide_eq_false (show ¬ r.Kind = 3 by omega), decide_eq_false (show ¬ r.Kind = 4 by omega), decide_eq_true k, Bool.false_eq_true, if_false, if_true]
      cases hf : b.Fenced <;> cases hv : b.Leaving <;> simp [pb, hf, hv]
    · rw [if_neg (show ¬ r.Kind = 3 by omega), if_neg (show ¬ r.Kind = 4 by omega), if_neg (show ¬ r.Kind = 5 by omega)]
      simp only [decide_eq_false (show ¬ r.Kind = 3 by omega), decide_eq_false (show ¬ r.Kind = 4 by omega), decide_eq_false (show ¬ r.Kind = 5 by omega), Bool.false_eq_true, if_false, if_true]
      cases QyX m b.Id
      · simp only [Bool.false_eq_true, if_false]
        rw [QqA (l := m.Brokers) (p := fun x => decide (x.Id ≠ b.Id))]
        · rfl
        · intro i hi acc ha
          unfold QhT
          simp only [lt_i hi, if_true, QaT (in_i hi), Qa0 hi h.limB, QbA hi]
          rw [QaT (by simp; omega)]
          cases decide (m.Brokers[i].Id ≠ b.Id) <;> rfl
        · intro acc; unfold QhT; simp [lt_n]
      · rfl
theorem QxS {α:Type}{key:α→Int}{l:List α}{t:Int}{x:α}(h:QdJ key l t=some x):x∈l∧key x=t:=by
 unfold QdJ at h
 exact⟨List.mem_of_find?_eq_some h,by simpa using List.find?_some h⟩
theorem okRec.limP (h:okRec r):G.limP (QkQ r):=by
 have a1:=(Qs7 h.ids).1.1;have a2:=(Qs7 h.isr).1.1;have a3:=(Qs7 h.add).1.1;have a4:=(Qs7 h.drop).1.1
 exact⟨by show r.Ids.length≤_;omega,by show r.Isr.length≤_;omega,by show r.Add.length≤_;omega,by show r.Drop.length≤_;omega⟩
theorem QxT {α:Type}{key:α→Int}{l:List α}(hs:SortK key l){t:Int}{x y:α}(h:QdJ key l t=some x) (hy:y∈l) (hk:key y=t):y=x:=by
 obtain ⟨i,hi,rfl⟩:=List.getElem_of_mem hy
 rw [QxN hs hi hk] at h
 exact Option.some.inj h
theorem Q3C (h:okImg m) (hl:limM m) (hr:okRec r) (hk:r.Kind=8∨r.Kind=9):QkA m r=some (QoD m r):=by
 unfold QkA QoD
 rw [Q0U h.limT,Option.bind_some]
 have hp:=Q0P hr.part (by omega) (by omega)
 cases e:QdJ tpId m.Topics r.Topic with
 |none=>rfl
 |some t=>
  rw [show getV tz (some t)=(t,true) from rfl]
  simp only [Bool.not_true,Bool.false_eq_true,if_false]
  rw [show (⟨r.Ids,r.Isr,r.Leader,r.Epoch,r.Add,r.Drop⟩:QaH)=QkQ r from rfl,Q56 h.limB hr.limP,Option.bind_some]
  have hone:∀ n:Nat,n≤t.Parts.length→∀ t'∈m.Topics,t'.Id=r.Topic→n≤t'.Parts.length:=fun n hn t' ht' hi=>by rw [QxT h.sortT e ht' hi];exact hn
  by_cases g:Qs9 m (QkQ r)=0
  rotate_left
  ·rw [if_pos (decide_eq_true g),if_pos g]
  rw [if_neg (fun z=>absurd g (of_decide_eq_true z)),if_neg (show¬ (Qs9 m (QkQ r)≠0) from fun z=>z g)]
  have hn:r.Part=(r.Part.toNat:Int):=by omega
  rcases hk with k |k
  ·rw [if_pos (decide_eq_true k),if_pos k]
   by_cases q:r.Part=(t.Parts.length:Int)
   ·rw [if_neg (fun z=>absurd q (of_decide_eq_true z)),if_neg (show¬ (r.Part≠(t.Parts.length:Int)) from fun z=>z q)]
    have:=QwO hl (hone r.Part.toNat (by omega)) (QkQ r)
    rw [←hn] at this
    rw [this];rfl
   ·rw [if_pos (decide_eq_true q),if_pos q]
  ·rw [if_neg (show¬ decide (r.Kind=8)=true from fun z=>by have:=of_decide_eq_true z;omega),if_neg (show¬ r.Kind=8 by omega)]
   by_cases q:(t.Parts.length:Int)≤r.Part
   ·rw [if_pos (decide_eq_true q),if_pos q]
   ·rw [if_neg (fun z=>q (of_decide_eq_true z)),if_neg q,QaT (by omega)]
    have hw:limP (rd t.Parts r.Part):=by
     rw [hn];exact h.limPs t (QxS e).1 _ (QfX (by omega))
    simp only [Qo7,QjV,Option.bind_some,QvP hw]
    split
    ·rfl
    ·cases QyY (rd t.Parts r.Part) (QkQ r)
     ·simp only [Bool.false_eq_true,if_false]
      have:=QwO hl (hone r.Part.toNat (by omega)) (QkQ r)
      rw [←hn] at this
      rw [this];rfl
     ·rfl
theorem Q1R (h:okImg m):Qi3 m r=some (QyZ m r):=by
 unfold Qi3 QyZ
 have hn:=h.tn
 by_cases g:r.Topic=IntKind.i64.wrap (m.Last+1)
 rotate_left
 ·rw [if_pos (decide_eq_true g),if_pos g]
 rw [if_neg (fun z=>absurd g (of_decide_eq_true z)),if_neg (show¬ (r.Topic≠IntKind.i64.wrap (m.Last+1)) from fun z=>z g)]
 obtain ⟨x,hx⟩:=Q8R h.limT r.Name
 rw [hx,Option.bind_some]
 simp only
 cases QwM m r.Name
 rotate_left
 ·rfl
 simp only [Bool.false_eq_true,if_false]
 by_cases q:256≤(m.Topics.length:Int)
 ·rw [if_pos (decide_eq_true q),if_pos q]
 ·rw [if_neg (fun z=>q (of_decide_eq_true z)),if_neg q,QaT (by simp;omega),QaT (by simp;omega)];simp
theorem Q3D (h:okImg m) (hl:limM m) (id:Int):QkB m id=some (Q3A m id):=by
 unfold QkB Q3A hasT
 rw [Q0U h.limT,Option.bind_some]
 have hn:=h.tn;have hc:=hl.cf
 cases e:QdJ tpId m.Topics id with
 |none=>rfl
 |some t=>
  rw [show getV tz (some t)=(t,true) from rfl]
  simp only [Bool.not_true,Bool.false_eq_true,if_false,Option.isSome_some,if_true]
  rw [QqA (l:=m.Topics) (p:=fun x=>decide (x.Id≠id)),QqA (l:=m.Configs) (p:=fun x=>decide (x.Topic≠id))]
  ·rfl
  ·intro i hi acc ha
   unfold Qi5
   simp only [lt_i hi,if_true,QaT (in_i hi),Qa0 hi (show m.Configs.length≤1000000000 by omega),QbA hi]
   rw [QaT (by simp;omega)]
   cases decide (m.Configs[i].Topic≠id)<;>rfl
  ·intro acc;unfold Qi5;simp [lt_n]
  ·intro i hi acc ha
   unfold Qi4
   simp only [lt_i hi,if_true,QaT (in_i hi),Qa0 hi (show m.Topics.length≤1000000000 by omega),QbA hi]
   rw [QaT (by simp;omega)]
   cases decide (m.Topics[i].Id≠id)<;>rfl
  ·intro acc;unfold Qi4;simp [lt_n]
theorem QzX (h:okImg m) (hl:limM m):Qh7 m r=some (QvR m r):=by
 unfold Qh7 QvR hasT
 rw [Q0U h.limT,Option.bind_some]
 have hc:=hl.cf
 obtain ⟨v,hv⟩:=Q60 (show m.Configs.length≤1000000000 by omega) r.Topic r.Key
 rw [show getV tz (QdJ tpId m.Topics r.Topic)=((getV tz (QdJ tpId m.Topics r.Topic)).1,(QdJ tpId m.Topics r.Topic).isSome) by rw [←Q5C tz]]
 simp only [QjV,Option.bind_some,hv]
 cases (!(QdJ tpId m.Topics r.Topic).isSome&&decide (r.Topic≠0))
 rotate_left
 ·rfl
 simp only [Bool.false_eq_true,if_false]
 cases (r.Flag&& !Q5A m r.Topic r.Key)
 rotate_left
 ·rfl
 simp only [Bool.false_eq_true,if_false]
 obtain ⟨q,q1,q2,q3⟩:=QrR (r:=r) hc h.cs m.Configs.length 0 [] r.Flag (by omega) (by simp;split<;>omega)
 rw [nat0] at q1
 rw [q1]
 obtain ⟨x,y⟩:=q
 have q2':y.length≤m.Configs.length+1:=q2
 simp only [List.drop_zero,List.nil_append] at q3
 simp only [Option.bind_some]
 rw [←q3]
 cases x
 ·simp only [Bool.not_false,if_true,Bool.false_eq_true,if_false];rw [QaT (by simp;omega)];rfl
 ·rfl
theorem Q3E (h:okImg m):QkC m r=some (Q3B m r):=by
 unfold QkC Q3B
 have hd:=h.dl
 obtain ⟨v,hv⟩:=Q27 (show m.Done.length≤1000000000 by omega) r.Client r.Serial
 rw [hv,Option.bind_some]
 simp only
 cases Q1Q m r.Client r.Serial
 rotate_left
 ·rfl
 simp only [Bool.false_eq_true,if_false]
 have e:(if decide ((64:Int)≤(m.Done.length:Int))=true then some (IntKind.i64.wrap ((m.Done.length:Int)- 63))else some 0:Option Int)=some (((if 64≤m.Done.length then m.Done.length - 63 else 0:Nat)):Int):=by
  by_cases q:64≤m.Done.length
  ·rw [if_pos (decide_eq_true (by omega)),if_pos q,QeK (by omega) (by omega)];congr 1;omega
  ·rw [if_neg (fun z=>q (by have:=of_decide_eq_true z;omega)),if_neg q];rfl
 rw [e,Option.bind_some]
 have hle:(if 64≤m.Done.length then m.Done.length - 63 else 0:Nat)≤m.Done.length:=by split<;>omega
 rw [QaT (by omega),subN,QaT (by simp;omega),QaT (by simp;omega)];simp
theorem Q5D (h:okImg m) (hl:limM m):∃ w,QfY r=some w∧(w.Code=0↔okRec r∧(r.Value=⟨#[]⟩∨r.Flag=false))∧Qf1 m r=some (if w.Code=0 then QxR m r else(m,w.Code)):=by
 obtain ⟨w,h1,h2⟩:=Q8T r
 refine⟨w,h1,h2, ?_⟩
 unfold Qf1
 rw [h1,Option.bind_some]
 by_cases g:w.Code=0
 rotate_left
 ·rw [if_pos (decide_eq_true g),if_neg g]
 rw [if_neg (fun z=>absurd g (of_decide_eq_true z)),if_pos g]
 have hr:=(h2.1 g).1
 unfold QxR
 by_cases k2:r.Kind=2
 ·rw [if_pos (decide_eq_true k2),if_pos k2,QzV h hl];rfl
 rw [if_neg (fun z=>k2 (of_decide_eq_true z)),if_neg k2]
 have e1:(if decide (r.Kind=3)=true then some (decide (r.Kind=3))else if decide (r.Kind=4)=true then some (decide (r.Kind=4))else if decide (r.Kind=5)=true then some (decide (r.Kind=5))else some (decide (r.Kind=6)):Option Bool)=some (decide (r.Kind=3∨r.Kind=4∨r.Kind=5∨r.Kind=6)):=by
  by_cases a:r.Kind=3<;>by_cases b:r.Kind=4<;>by_cases c:r.Kind=5<;>simp [a,b,c]
 rw [e1,Option.bind_some]
 by_cases k3:r.Kind=3∨r.Kind=4∨r.Kind=5∨r.Kind=6
 ·rw [if_pos (decide_eq_true k3),if_pos k3,QzW h hl k3];rfl
 rw [if_neg (fun z=>k3 (of_decide_eq_true z)),if_neg k3]
 have e2:(if decide (r.Kind=8)=true then some (decide (r.Kind=8))else some (decide (r.Kind=9)):Option Bool)=some (decide (r.Kind=8∨r.Kind=9)):=by
  by_cases a:r.Kind=8<;>simp [a]
 rw [e2,Option.bind_some]
 by_cases k8:r.Kind=8∨r.Kind=9
 ·rw [if_pos (decide_eq_true k8),if_pos k8,Q3C h hl hr k8];rfl
 rw [if_neg (fun z=>k8 (of_decide_eq_true z)),if_neg k8]
 by_cases k7:r.Kind=7
 ·rw [if_pos (decide_eq_true k7),if_pos k7,Q1R h];rfl
 rw [if_neg (fun z=>k7 (of_decide_eq_true z)),if_neg k7]
 by_cases k11:r.Kind=11
 ·rw [if_pos (decide_eq_true k11),if_pos k11,Q3D h hl];rfl
 rw [if_neg (fun z=>k11 (of_decide_eq_true z)),if_neg k11]
 by_cases k10:r.Kind=10
 ·rw [if_pos (decide_eq_true k10),if_pos k10,QzX h hl];rfl
 rw [if_neg (fun z=>k10 (of_decide_eq_true z)),if_neg k10]
 by_cases k12:r.Kind=12
 ·rw [if_pos (decide_eq_true k12),if_pos k12,Q3E h];rfl
 rw [if_neg (fun z=>k12 (of_decide_eq_true z)),if_neg k12]
end
theorem QsY {α:Type}{key:α→Int}{l:List α}{t:Int}:(QdJ key l t).isSome=true↔∃ x∈l,key x=t:=by
 unfold QdJ
 rw [QuE,List.any_eq_true]
 simp
theorem QuG {m:Img}{id:Int}:hasB m id=true↔∃ b∈m.Brokers,b.Id=id:=QsY
theorem QoO {m:Img}{id:Int}:hasT m id=true↔∃ t∈m.Topics,t.Id=id:=QsY
theorem QxU {α:Type}{key:α→Int}{l:List α}(hs:SortK key l){x:α}(hx:x∈l):QdJ key l (key x)=some x:=by
 obtain ⟨i,hi,rfl⟩:=List.getElem_of_mem hx
 exact QxN hs hi rfl
theorem QoE {m:Img}(hs:SortK bkId m.Brokers){id:Int}:QrL m id=true↔∃ b∈m.Brokers,b.Id=id∧b.Fenced=false:=by
 unfold QrL
 constructor
 ·intro h
  cases e:QdJ bkId m.Brokers id with
  |none=>rw [e] at h;cases h
  |some b=>
   rw [e] at h
   obtain ⟨h1,h2⟩:=QxS e
   exact⟨b,h1,h2,by simpa using h⟩
 ·rintro ⟨b,h1,h2,h3⟩
  have:=QxU hs h1
  rw [show bkId b=id from h2] at this
  rw [this]
  show (!b.Fenced)=true
  rw [h3];rfl
theorem QoF {m:Img}{id:Int}:QgN m id=true↔∃ t∈m.Topics,∃ p∈t.Parts,p.Leader=id:=by
 unfold QgN
 simp [List.any_eq_true]
theorem Q5E {m:Img}{id:Int}:QyX m id=true↔∃ t∈m.Topics,∃ p∈t.Parts,id∈p.Ids:=by
 unfold QyX
 simp [List.any_eq_true]
theorem QwP {m m':Img}{p:Pt}(h:QjQ m p=true) (h1:∀ id∈p.Ids,hasB m id=true→hasB m' id=true) (h2:p.Leader≠0→p.Leader∈p.Isr→QrL m p.Leader=true→QrL m' p.Leader=true):QjQ m' p=true:=by
 unfold QjQ Qp8 at h⊢
 simp only [Bool.and_eq_true,Bool.or_eq_true,decide_eq_true_eq,List.all_eq_true] at h⊢
 refine⟨h.1,fun x hx=>h1 x hx (h.2.1 x hx),h.2.2.1,h.2.2.2.1, ?_,h.2.2.2.2.2⟩
 rcases h.2.2.2.2.1 with z |z
 ·exact .inl z
 ·by_cases q:p.Leader=0
  ·exact .inl q
  ·exact .inr ⟨z.1,h2 q z.1 z.2⟩
theorem Q3F {m:Img}{p:Pt}(h:QjQ m p=true){x:Int}(hx:x∈p.Isr):x∈p.Ids:=by
 unfold QjQ QzR QeH at h
 simp only [Bool.and_eq_true,List.all_eq_true,decide_eq_true_eq] at h
 exact h.2.2.2.1.1.1 x hx
theorem QlS {b x:Bk}:∀ {l:List Bk},l.Pairwise (fun a c=>a.Id<c.Id)→(x∈insB b l↔x=b∨(x∈l∧x.Id≠b.Id))
 |[],_=>by simp [insB]
 |y::l,hs=>by
  have h1:=List.pairwise_cons.1 hs
  unfold insB
  by_cases q:y.Id<b.Id
  ·rw [if_pos q,List.mem_cons,QlS h1.2,List.mem_cons]
   constructor
   ·rintro (rfl |rfl |z)
    ·exact .inr ⟨.inl rfl,by omega⟩
    ·exact .inl rfl
    ·exact .inr ⟨.inr z.1,z.2⟩
   ·rintro (rfl |⟨rfl |z,w⟩)
    ·exact .inr (.inl rfl)
    ·exact .inl rfl
    ·exact .inr (.inr ⟨z,w⟩)
  ·rw [if_neg q]
   by_cases q2:y.Id=b.Id
   ·rw [if_pos q2,List.mem_cons,List.mem_cons]
    constructor
    ·rintro (rfl |z)
     ·exact .inl rfl
     ·exact .inr ⟨.inr z,by have:=h1.1 x z;omega⟩
    ·rintro (rfl |⟨rfl |z,w⟩)
     ·exact .inl rfl
     ·exact absurd q2 w
     ·exact .inr z
   ·rw [if_neg q2,List.mem_cons,List.mem_cons]
    constructor
    ·rintro (rfl |rfl |z)
     ·exact .inl rfl
     ·exact .inr ⟨.inl rfl,q2⟩
     ·exact .inr ⟨.inr z,by have:=h1.1 x z;omega⟩
    ·rintro (rfl |⟨rfl |z,w⟩)
     ·exact .inl rfl
     ·exact .inr (.inl rfl)
     ·exact .inr (.inr z)
theorem Qy0 {b:Bk}:∀ {l:List Bk},l.Pairwise (fun a c=>a.Id<c.Id)→(insB b l).Pairwise (fun a c=>a.Id<c.Id)
 |[],_=>by simp [insB]
 |y::l,hs=>by
  have h1:=List.pairwise_cons.1 hs
  unfold insB
  by_cases q:y.Id<b.Id
  ·rw [if_pos q]
   refine List.pairwise_cons.2 ⟨fun x hx=> ?_,Qy0 h1.2⟩
   rcases (QlS h1.2).1 hx with rfl |z
   ·exact q
   ·exact h1.1 x z.1
  ·rw [if_neg q]
   by_cases q2:y.Id=b.Id
   ·rw [if_pos q2]
    exact List.pairwise_cons.2 ⟨fun x hx=>by have:=h1.1 x hx;omega,h1.2⟩
   ·rw [if_neg q2]
    refine List.pairwise_cons.2 ⟨fun x hx=> ?_,hs⟩
    rcases List.mem_cons.1 hx with rfl |z
    ·omega
    ·have:=h1.1 x z;omega
theorem QmA {m:Img}(h:okImg m){nb:Bk}(h1:1≤nb.Id∧nb.Id≤64∧0≤nb.Epoch∧nb.Epoch≤1073741824∧Qe3 nb.Rack=true) (h2:(nb.Fenced&&(nb.Leaving&&QgN m nb.Id))=false)
  (h3:nb.Fenced=false∨QgN m nb.Id=false∨∀ b∈m.Brokers,b.Id≠nb.Id):okImg {m with Brokers:=insB nb m.Brokers}:=by
 have hs:=Qy0 (b:=nb) h.bs
 have hsk:SortK bkId (insB nb m.Brokers):=⟨fun b hb=>by
  rcases (QlS h.bs).1 hb with rfl |z
  ·simp only [bkId];omega
  ·have:=h.bk b z.1;simp only [bkId];omega,hs⟩
 refine⟨hs,fun b hb=> ?_,h.last,h.tn,h.ts,fun t ht=> ?_,h.nm,h.cs,h.cf,h.dl,h.dn,h.dd⟩
 ·rcases (QlS h.bs).1 hb with rfl |z
  ·exact⟨h1.1,h1.2.1,h1.2.2.1,h1.2.2.2.1,h1.2.2.2.2,h2⟩
  ·exact h.bk b z.1
 ·have hp:=h.tp t ht
  refine⟨hp.1,hp.2.1,hp.2.2.1,hp.2.2.2.1,fun p hpp=>QwP (hp.2.2.2.2 p hpp) (fun id _ hh=> ?_) fun hl hi ha=> ?_⟩
  ·obtain ⟨b,hb,e⟩:=QuG.1 hh
   refine QuG.2 ?_
   by_cases q:b.Id=nb.Id
   ·exact⟨nb,(QlS h.bs).2 (.inl rfl),by omega⟩
   ·exact⟨b,(QlS h.bs).2 (.inr ⟨hb,q⟩),e⟩
  ·obtain ⟨b,hb,e,hf⟩:=(QoE h.sortB).1 ha
   refine(QoE (m:={m with Brokers:=insB nb m.Brokers}) hsk).2 ?_
   by_cases q:b.Id=nb.Id
   ·have hL:QgN m nb.Id=true:=QoF.2 ⟨t,ht,p,hpp,by omega⟩
    rcases h3 with z |z |z
    ·exact⟨nb,(QlS h.bs).2 (.inl rfl),by omega,z⟩
    ·rw [hL] at z;cases z
    ·exact absurd q (z b hb)
   ·exact⟨b,(QlS h.bs).2 (.inr ⟨hb,q⟩),e,hf⟩
theorem Q3G {m:Img}{id:Int}(h:QyX m id=false) (hk:okImg m):okImg {m with Brokers:=m.Brokers.filter fun x=>decide (x.Id≠id)}:=by
 have hm:∀ x,x∈(m.Brokers.filter fun x=>decide (x.Id≠id))↔x∈m.Brokers∧x.Id≠id:=fun x=>by rw [List.mem_filter,decide_eq_true_eq]
 have hs:=hk.bs.filter (fun x=>decide (x.Id≠id))
 have hsk:SortK bkId (m.Brokers.filter fun x=>decide (x.Id≠id)):=⟨fun b hb=>hk.sortB.bound b ((hm b).1 hb).1,hs⟩
 refine⟨hs,fun b hb=>hk.bk b ((hm b).1 hb).1,hk.last,hk.tn,hk.ts,fun t ht=> ?_,hk.nm,hk.cs,hk.cf,hk.dl,hk.dn,hk.dd⟩
 have hp:=hk.tp t ht
 have hno:∀ p∈t.Parts,id∉p.Ids:=fun p hpp z=>by
  rw [(Q5E (m:=m)).2 ⟨t,ht,p,hpp,z⟩] at h;cases h
 refine⟨hp.1,hp.2.1,hp.2.2.1,hp.2.2.2.1,fun p hpp=>QwP (hp.2.2.2.2 p hpp) (fun x hx hh=> ?_) fun hl hi ha=> ?_⟩
 ·obtain ⟨b,hb,e⟩:=QuG.1 hh
  exact QuG.2 ⟨b,(hm b).2 ⟨hb,fun z=>hno p hpp (by rw [←z,e];exact hx)⟩,e⟩
 ·obtain ⟨b,hb,e,hf⟩:=(QoE hk.sortB).1 ha
  have hin:=Q3F (hp.2.2.2.2 p hpp) hi
  exact(QoE (m:={m with Brokers:=m.Brokers.filter fun x=>decide (x.Id≠id)}) hsk).2 ⟨b,(hm b).2 ⟨hb,fun z=>hno p hpp (by rw [←z,e];exact hin)⟩,e,hf⟩
theorem Q0W {m:Img}{id:Int}{n:Nat}{p:Pt}{t:Tp}(h:t∈(putV m id n p).Topics):∃ u∈m.Topics,t.Id=u.Id∧t.Name=u.Name∧(t=u∨u.Id=id∧t.Parts=setP u.Parts n p):=by
 unfold putV at h
 obtain ⟨u,hu,rfl⟩:=List.mem_map.1 h
 refine⟨u,hu, ?_⟩
 by_cases q:u.Id=id
 ·rw [if_pos q];exact⟨rfl,rfl, .inr ⟨q,rfl⟩⟩
 ·rw [if_neg q];exact⟨rfl,rfl, .inl rfl⟩
theorem Q0X {l:List Pt}{n:Nat}{p q:Pt}(h:q∈setP l n p):q∈l∨q=p:=by
 unfold setP at h
 rw [List.mem_append,List.mem_append,List.mem_singleton] at h
 rcases h with(h |h) |h
 ·exact .inl (List.mem_of_mem_take h)
 ·exact .inr h
 ·exact .inl (List.mem_of_mem_drop h)
theorem Q0Y {l:List Pt}{n:Nat}{p:Pt}(h:n≤l.length):(setP l n p).length=if n=l.length then l.length+1 else l.length:=by
 unfold setP
 simp only [List.length_append,List.length_take,List.length_drop,List.length_singleton]
 split<;>omega
theorem Q0Z {m:Img}(h:okImg m){id:Int}{n:Nat}{p:Pt}(hp:QjQ m p=true) (hn:∀ t∈m.Topics,t.Id=id→n≤t.Parts.length∧n≤255):okImg (putV m id n p):=by
 have hid:(putV m id n p).Topics.map (fun t=>t.Id)=m.Topics.map (fun t=>t.Id):=by
  unfold putV;simp only [List.map_map]
  exact List.map_congr_left fun t _=>by simp only [Function.comp];split<;>rfl
 have hnm:(putV m id n p).Topics.map (fun t=>t.Name)=m.Topics.map (fun t=>t.Name):=by
  unfold putV;simp only [List.map_map]
  exact List.map_congr_left fun t _=>by simp only [Function.comp];split<;>rfl
 have hlen:(putV m id n p).Topics.length=m.Topics.length:=by unfold putV;simp
 have hT:∀ x,hasT m x=true→hasT (putV m id n p) x=true:=fun x hx=>by
  obtain ⟨t,ht,e⟩:=QoO.1 hx
  have:x∈(putV m id n p).Topics.map (fun t=>t.Id):=by rw [hid];exact List.mem_map.2 ⟨t,ht,e⟩
  obtain ⟨u,hu,e2⟩:=List.mem_map.1 this
  exact QoO.2 ⟨u,hu,e2⟩
 refine⟨h.bs,fun b hb=> ?_,h.last,by rw [hlen];exact h.tn, ?_,fun t ht=> ?_, ?_,h.cs,fun c hc=> ?_,h.dl,h.dn,h.dd⟩
 ·have hk:=h.bk b hb
  refine⟨hk.1,hk.2.1,hk.2.2.1,hk.2.2.2.1,hk.2.2.2.2.1, ?_⟩
  cases z:QgN (putV m id n p) b.Id with
  |false=>cases b.Fenced<;>cases b.Leaving<;>rfl
  |true=>
   obtain ⟨t,ht,q,hq,e⟩:=QoF.1 z
   obtain ⟨u,hu,_,_,hh⟩:=Q0W ht
   have old:(∃ q∈u.Parts,q.Leader=b.Id)→(b.Fenced&&(b.Leaving&&true))=false:=fun⟨q,hq,e⟩=>by
    have:=hk.2.2.2.2.2
    rw [QoF.2 ⟨u,hu,q,hq,e⟩] at this;exact this
   have new:p.Leader=b.Id→(b.Fenced&&(b.Leaving&&true))=false:=fun e=>by
    have h4:=hp
    unfold QjQ Qp8 at h4
    simp only [Bool.and_eq_true,Bool.or_eq_true,decide_eq_true_eq] at h4
    rcases h4.2.2.2.2.1 with y |y
    ·omega
    ·obtain ⟨b',hb',e',hf⟩:=(QoE h.sortB).1 y.2
     have e1:=QxU h.sortB hb
     have e2:=QxU h.sortB hb'
     rw [show bkId b'=bkId b by simp only [bkId];omega,e1] at e2
     rw [Option.some.inj e2,hf];rfl
   rcases hh with rfl |⟨_,hs⟩
   ·exact old ⟨q,hq,e⟩
   ·rw [hs] at hq
    rcases Q0X hq with y |rfl
    ·exact old ⟨q,y,e⟩
    ·exact new e
 ·have:=h.ts
  rw [←List.pairwise_map (f:=fun t:Tp=>t.Id) (R:=fun a b=>a<b)] at this⊢
  rw [hid];exact this
 ·obtain ⟨u,hu,e1,e2,hh⟩:=Q0W ht
  have hu':=h.tp u hu
  refine⟨by rw [e1];exact hu'.1,by rw [e1];exact hu'.2.1,by rw [e2];exact hu'.2.2.1, ?_,fun q hq=> ?_⟩
  ·rcases hh with rfl |⟨hi,hs⟩
   ·exact hu'.2.2.2.1
   ·rw [hs,Q0Y (hn u hu hi).1]
    have:=(hn u hu hi).2
    have:=hu'.2.2.2.1
    split<;>omega
  ·show QjQ m q=true
   rcases hh with rfl |⟨_,hs⟩
   ·exact hu'.2.2.2.2 q hq
   ·rw [hs] at hq
    rcases Q0X hq with y |rfl
    ·exact hu'.2.2.2.2 q y
    ·exact hp
 ·have:=h.nm
  rw [←List.pairwise_map (f:=fun t:Tp=>t.Name) (R:=fun a b=>a≠b)] at this⊢
  rw [hnm];exact this
 ·have:=h.cf c hc
  exact⟨this.1.imp (fun z=>z) (hT _),this.2⟩
theorem Q3H {m : Img} (h : okImg m) {id : Int} {s : ByteArray} (h1 : id = m.Last + 1) (h2 : id ≤ 1073741824) (h3 : Qe3 s = true) (h4 : QwM m s = false) (h5 : m.Topics.length < 256) :
    okImg { m with Topics := m.Topics ++ [⟨id, s, []⟩], Last := id } := by
  have hl := h.last
  have hm : ∀ t, t ∈ m.Topics ++ [(⟨id, s, []⟩ : Tp)] ↔ t ∈ m.Topics ∨ t = ⟨id, s, []⟩ := fun t => by rw [List.mem_append, List.mem_singleton]
  have hlead : ∀ x, QgN { m with Topics := m.Topics ++ [⟨id, s, []⟩], Last := id } x = QgN m x := fun x => by
    unfold QgN; simp [List.any_append]
  refine ⟨h.bs, fun b hb => by rw [hlead]; exact h.bk b hb, ⟨by show 0 ≤ id; omega, h2⟩, by show (m.Topics ++ _).length ≤ 256; simp; omega, ?_, fun t ht => ?_, ?_, h.cs, fun c hc => ?_, h.dl, h.dn, h.dd⟩
  · refine List.pairwise_append.2 ⟨h.ts, List.pairwise_singleton _ _, fun a ha b hb => ?_⟩
    rw [List.mem_singleton] at hb
    subst hb
    have := h.tp a ha
    show a.Id < id; omega
  · rcases (hm t).1 ht with z | rfl
    · have := h.tp t z
      exact ⟨this.1, by show t.Id ≤ id; omega, this.2.2.1, this.2.2.2.1, this.2.2.2.2⟩
    · exact ⟨by show 1 ≤ id; omega, Int.le_refl _, h3, by simp, fun p hp => by cases hp⟩
  · refine List.pairwise_append.2 ⟨h.nm, List.pairwise_singleton _ _, fun a ha b hb => ?_⟩
    rw [List.mem_singleton] at hb
    subst hb
    intro e
    unfold QwM at h4
    rw [List.any_eq_false] at h4
    exact h4 a ha (decide_eq_true e)
  · have := h.cf c hc
    refine ⟨this.1.imp (fun z => z) fun z => ?_, this.2⟩
    obtain ⟨t, ht, e⟩ := QoO.1 z
    exact QoO.2 ⟨t, (hm t).2 (.inl ht), e⟩
theorem Q1S {m : Img} (h : okImg m) (id : Int) : okImg { m with Topics := m.Topics.filter (fun t => decide (t.Id ≠ id)), Configs := m.Configs.filter (fun c => decide (c.Topic ≠ id)) } := by
  have hm : ∀ t, t ∈ (m.Topics.filter fun t => decide (t.Id ≠ id)) ↔ t ∈ m.Topics ∧ t.Id ≠ id := fun t => by rw [List.mem_filter, decide_eq_true_eq]
  have hc : ∀ t, t ∈ (m.Configs.filter fun t => decide (t.Topic ≠ id)) ↔ t ∈ m.Configs ∧ t.Topic ≠ id := fun t => by rw [List.mem_filter, decide_eq_true_eq]
  refine ⟨h.bs, fun b hb => ?_, h.last, ?_, h.ts.filter _, fun t ht => h.tp t ((hm t).1 ht).1, h.nm.filter _, h.cs.filter _, fun c hcc => ?_, h.dl, h.dn, h.dd⟩
  · have hk := h.bk b hb
    refine ⟨hk.1, hk.2.1, hk.2.2.1, hk.2.2.2.1, hk.2.2.2.2.1, ?_⟩
    cases z : QgN { m with Topics := m.Topics.filter (fun t => decide (t.Id ≠ id)), Configs := m.Configs.filter (fun c => decide (c.Topic ≠ id)) } b.Id with
    | false => cases b.Fenced <;> cases b.Leaving <;> rfl
    | true =>
      obtain ⟨t, ht, q, hq, e⟩ := QoF.1 z
      have := hk.2.2.2.2.2
      rw [QoF.2 ⟨t, ((hm t).1 ht).1, q, hq, e⟩] at this; exact this
  · exact Nat.le_trans (List.length_filter_le (fun t : Tp => decide (t.Id ≠ id)) m.Topics) h.tn
  · obtain ⟨h1, h2⟩ := (hc c).1 hcc
    have := h.cf c h1
    refine ⟨this.1.imp (fun z => z) fun z => ?_, this.2⟩
    obtain ⟨t, ht, e⟩ := QoO.1 z
    exact QoO.2 ⟨t, (hm t).2 ⟨ht, by omega⟩, e⟩
theorem QxV {c x:Cf}:∀ {l:List Cf},x∈insC c l→x=c∨x∈l
 |[],h=>by simp [insC] at h;exact .inl h
 |y::l,h=>by
  unfold insC at h
  split at h
  ·rcases List.mem_cons.1 h with rfl |z
   ·exact .inr (.head _)
   ·exact(QxV z).imp id (.tail _)
  ·split at h
   ·rcases List.mem_cons.1 h with rfl |z
    ·exact .inl rfl
    ·exact .inr (.tail _ z)
   ·rcases List.mem_cons.1 h with rfl |z
    ·exact .inl rfl
    ·exact .inr z
theorem Qy1 {c:Cf}:∀ {l:List Cf},l.Pairwise cfLt→(insC c l).Pairwise cfLt
 |[],_=>by simp [insC]
 |y::l,hs=>by
  have h1:=List.pairwise_cons.1 hs
  unfold insC
  by_cases q:cfLt y c
  ·rw [if_pos q]
   refine List.pairwise_cons.2 ⟨fun x hx=> ?_,Qy1 h1.2⟩
   rcases QxV hx with rfl |z
   ·exact q
   ·exact h1.1 x z
  ·rw [if_neg q]
   cases e:cfIs c.Topic c.Key y with
   |true=>
    rw [if_pos rfl]
    refine List.pairwise_cons.2 ⟨fun x hx=> ?_,h1.2⟩
    have:=h1.1 x hx
    unfold cfIs at e
    simp only [Bool.and_eq_true,decide_eq_true_eq] at e
    unfold cfLt at this⊢
    rw [e.1,e.2] at this;exact this
   |false=>
    rw [if_neg (by decide)]
    have hc:=Q57 q e
    refine List.pairwise_cons.2 ⟨fun x hx=> ?_,hs⟩
    rcases List.mem_cons.1 hx with rfl |z
    ·exact hc
    ·exact QsW hc (h1.1 x z)
theorem Q00 (c:Cf):∀ l:List Cf,(insC c l).length≤l.length+1
 |[]=>by simp [insC]
 |y::l=>by
  have:=Q00 c l
  unfold insC
  split
  ·simp only [List.length_cons];omega
  ·split<;>simp
theorem QwQ {m:Img}(h:okImg m){l:List Cf}(hs:l.Pairwise cfLt) (hl:∀ c∈l,c∈m.Configs∨((c.Topic=0∨hasT m c.Topic=true)∧Qe3 c.Key=true∧c.Value.size≤256)):okImg {m with Configs:=l}:=
 ⟨h.bs,h.bk,h.last,h.tn,h.ts,h.tp,h.nm,hs,fun c hc=>(hl c hc).elim (h.cf c) id,h.dl,h.dn,h.dd⟩
theorem Q5F {m:Img}(h:okImg m){d:Dn}(h1:1≤d.Client∧d.Client≤1073741824∧1≤d.Serial∧d.Serial≤1073741824∧0≤d.Code∧d.Code≤21) (h2:Q1Q m d.Client d.Serial=false):
  okImg {m with Done:=m.Done.drop (if 64≤m.Done.length then m.Done.length - 63 else 0)++[d]}:=by
 have hd:=h.dl
 refine⟨h.bs,h.bk,h.last,h.tn,h.ts,h.tp,h.nm,h.cs,h.cf, ?_,fun x hx=> ?_, ?_⟩
 ·show (_++[d]).length≤64
  simp only [List.length_append,List.length_drop,List.length_singleton]
  split<;>omega
 ·rcases List.mem_append.1 hx with z |z
  ·exact h.dn x (List.mem_of_mem_drop z)
  ·rw [List.mem_singleton.1 z];exact h1
 ·refine List.pairwise_append.2 ⟨h.dd.sublist (List.drop_sublist _ _),List.pairwise_singleton _ _,fun a ha b hb=> ?_⟩
  rw [List.mem_singleton.1 hb]
  intro e
  unfold Q1Q at h2
  rw [List.any_eq_false] at h2
  refine h2 a (List.mem_of_mem_drop ha) ?_
  unfold dnIs
  simp only [Prod.mk.injEq] at e
  rw [e.1,e.2];simp
theorem Q3I {k bit:Int}(h:hasR k bit=true){n a c:Int}(hn:numW n (hasR k bit) a c=true):a≤n∧n≤c:=(Q5V hn).1 h
theorem Q62 {k bit:Int}(h:hasR k bit=true){s:ByteArray}(hn:Qv1 s (hasR k bit)=true):Qe3 s=true:=by
 unfold Qv1 at hn;rw [if_pos h] at hn;exact hn
theorem okRec.part1 {r:Rec}(h:okRec r):G.part1 (QkQ r)=true:=by
 unfold G.part1 QkQ
 rw [QlL.2 (Qs7 h.ids).1,QlL.2 (Qs7 h.isr).1,QlL.2 (Qs7 h.add).1,QlL.2 (Qs7 h.drop).1];rfl
theorem okRec.epochB {r:Rec}(h:okRec r):0≤r.Epoch∧r.Epoch≤1073741824:=Q0P h.epoch (by omega) (by omega)
theorem Q3J {m : Img} {r : Rec} (h : okImg m) (hr : okRec r) : okImg (QxR m r).1 := by
  unfold QxR
  by_cases k2 : r.Kind = 2
  · rw [if_pos k2]
    have hb := Q3I (by rw [k2]; decide) hr.broker
    have hn := Q62 (by rw [k2]; decide) hr.rack
    have he := hr.epochB
    unfold QoC
    cases e : QdJ bkId m.Brokers r.Broker with
    | none => exact QmA h ⟨hb.1, hb.2, he.1, he.2, hn⟩ rfl (.inr (.inr fun b hb' q => by
        have : (QdJ bkId m.Brokers r.Broker).isSome = true := QsY.2 ⟨b, hb', q⟩
        rw [e] at this; cases this))
    | some b =>
      simp only
      split
      · exact h
      · split
        · exact h
        · rename_i q
          exact QmA h ⟨hb.1, hb.2, he.1, he.2, hn⟩ rfl (.inr (.inl (by simpa using q)))
  rw [if_neg k2]
  by_cases k3 : r.Kind = 3 ∨ r.Kind = 4 ∨ r.Kind = 5 ∨ r.Kind = 6
  · rw [if_pos k3]
    unfold QvQ
    cases e : QdJ bkId m.Brokers r.Broker with
    | none => exact h
    | some b =>
      obtain ⟨hb, _⟩ := QxS e
      have hk := h.bk b hb
      have hk' : 1 ≤ b.Id ∧ b.Id ≤ 64 ∧ 0 ≤ b.Epoch ∧ b.Epoch ≤ 1073741824 ∧ Qe3 b.Rack = true := ⟨hk.1, hk.2.1, hk.2.2.1, hk.2.2.2.1, hk.2.2.2.2.1⟩
      simp only
      split
      · exact h
      split
      · split
        · exact h
        · rename_i q
          simp only [Bool.or_eq_true, not_or, Bool.not_eq_true] at q
          refine QmA h (nb := { b with Fenced := true }) hk' ?_ (.inr (.inl q.2))
          show (true && (b.Leaving && QgN m b.Id)) = false
          rw [q.2]; cases b.Leaving <;> rfl
      split
      · split
        · exact h
        · exact QmA h (nb := { b with Fenced := false, Leaving := false }) hk' rfl (.inl rfl)
      split
      · split
        · exact h
        · rename_i q
          simp only [Bool.or_eq_true, not_or, Bool.not_eq_true] at q
          refine QmA h (nb := { b with Leaving := true }) hk' ?_ (.inl q.1)
          show (b.Fenced && (true && QgN m b.Id)) = false
          rw [q.1]; rfl
      · split
        · exact h
        · rename_i q
          exact Q3G (by simpa using q) h
  rw [if_neg k3]
  by_cases k8 : r.Kind = 8 ∨ r.Kind = 9
  · rw [if_pos k8]
    unfold QoD
    have hp := Q0P hr.part (by omega) (by omega)
    cases e : QdJ tpId m.Topics r.Topic with
    | none => exact h
    | some t =>
      simp only
      split
      · exact h
      rename_i g
      have hv : QjQ m (QkQ r) = true := by
        rw [QwN hr.part1 hr.epochB]; exact decide_eq_true (by simpa using g)
      have hone : ∀ n : Nat, n ≤ t.Parts.length → n ≤ 255 → ∀ t' ∈ m.Topics, t'.Id = r.Topic → n ≤ t'.Parts.length ∧ n ≤ 255 := fun n hn h5 t' ht' hi => by rw [QxT h.sortT e ht' hi]; exact ⟨hn, h5⟩
      split
      · split
        · exact h
        · rename_i q
          exact Q0Z h hv (hone r.Part.toNat (by simp only [ne_eq, Decidable.not_not] at q; omega) (by omega))
      · split
        · exact h
        · split
          · exact h
          · split
            · exact h
            · exact Q0Z h hv (hone r.Part.toNat (by omega) (by omega))
  rw [if_neg k8]
  by_cases k7 : r.Kind = 7
  · rw [if_pos k7]
    have ht := Q3I (by rw [k7]; decide) hr.topic
    have hn := Q62 (by rw [k7]; decide) hr.name
    unfold QyZ
    split
    · exact h
    split
    · exact h
    split
    · exact h
    rename_i q1 q2 q3
    have hl := h.last
    simp only [ne_eq, Decidable.not_not] at q1
    rw [QeK (by omega) (by omega)] at q1
    exact Q3H h q1 ht.2 hn (by simpa using q2) (by omega)
  rw [if_neg k7]
  by_cases k11 : r.Kind = 11
  · rw [if_pos k11]
    unfold Q3A
    split
    · exact Q1S h _
    · exact h
  rw [if_neg k11]
  by_cases k10 : r.Kind = 10
  · rw [if_pos k10]
    have hn := Q62 (by rw [k10]; decide) hr.key
    have hv : r.Value.size ≤ 256 := (Q2R hr.value).1 (by rw [k10]; decide)
    unfold QvR
    split
    · exact h
    split
    · exact h
    rename_i q1 q2
    simp only
    by_cases f : r.Flag = true
    · rw [if_pos f]
      exact QwQ h (h.cs.filter _) fun c hc => .inl (List.mem_filter.1 hc).1
    · rw [if_neg f]
      refine QwQ h (Qy1 h.cs) fun c hc => ?_
      rcases QxV hc with rfl | z
      · refine .inr ⟨?_, hn, hv⟩
        simp only [Bool.and_eq_true, Bool.not_eq_true', decide_eq_true_eq, not_and, Decidable.not_not] at q1
        cases y : hasT m r.Topic
        · exact .inl (by have := q1 y; simpa using this)
        · exact .inr rfl
      · exact .inl z
  rw [if_neg k10]
  by_cases k12 : r.Kind = 12
  · rw [if_pos k12]
    have h1 := Q3I (by rw [k12]; decide) hr.client
    have h2 := Q3I (by rw [k12]; decide) hr.serial
    have h3 := Q3I (by rw [k12]; decide) hr.code
    unfold Q3B
    split
    · exact h
    · rename_i q
      exact Q5F h (d := ⟨r.Client, r.Serial, r.Code⟩) ⟨h1.1, h1.2, h2.1, h2.2, h3.1, h3.2⟩ (by simpa using q)
  rw [if_neg k12]
  exact h
theorem QlM (t:Tp) (l:List Tp):Qg3 (t::l)=t.Parts.length+Qg3 l:=by unfold Qg3;simp
theorem QxW (l m:List Tp):Qg3 (l++m)=Qg3 l+Qg3 m:=by unfold Qg3;simp
theorem QrS (p:Tp→Bool):∀ l:List Tp,Qg3 (l.filter p)≤Qg3 l
 |[]=>Nat.le_refl _
 |t::l=>by
  have:=QrS p l
  rw [List.filter_cons,QlM]
  split
  ·rw [QlM];omega
  ·omega
theorem QwR {id:Int}{n:Nat}{p:Pt}:∀ {l:List Tp},l.Pairwise (fun a b=>a.Id<b.Id)→(∀ t∈l,t.Id=id→n≤t.Parts.length)→Qg3 (l.map fun t=>if t.Id=id then {t with Parts:=setP t.Parts n p}else t)≤Qg3 l+1
 |[],_,_=>by simp [Qg3]
 |t::l,hs,hn=>by
  have h1:=List.pairwise_cons.1 hs
  rw [List.map_cons,QlM,QlM]
  by_cases q:t.Id=id
  ·have:l.map (fun t=>if t.Id=id then {t with Parts:=setP t.Parts n p}else t)=l:=by
    refine(List.map_congr_left fun x hx=> ?_).trans (List.map_id' l)
    have:=h1.1 x hx
    rw [if_neg (by omega)]
   rw [this,if_pos q]
   have h2:=Q0Y (p:=p) (hn t (.head _) q)
   simp only
   rw [h2]
   split<;>omega
  ·rw [if_neg q]
   have:=QwR (p:=p) h1.2 (fun x hx=>hn x (.tail _ hx))
   omega
def smaller (n:Nat) (m:Img):Prop:=m.Configs.length≤n∧Qg3 m.Topics≤n
theorem smaller.le {n k:Nat}{m:Img}(h:smaller n m) (hk:n≤k):smaller k m:=⟨by have:=h.1;omega,by have:=h.2;omega⟩
theorem Q3K {n : Nat} {m : Img} {r : Rec} (h : okImg m) (hr : okRec r) (hs : smaller n m) : smaller (n + 1) (QxR m r).1 := by
  have h0 : smaller (n + 1) m := hs.le (by omega)
  unfold QxR
  split
  · unfold QoC
    split
    · split
      · exact h0
      · split <;> exact h0
    · exact h0
  split
  · unfold QvQ
    split
    · exact h0
    · split
      · exact h0
      split
      · split <;> exact h0
      split
      · split <;> exact h0
      split
      · split <;> exact h0
      · split <;> exact h0
  split
  · have hp := Q0P hr.part (by omega) (by omega)
    unfold QoD
    cases e : QdJ tpId m.Topics r.Topic with
    | none => exact h0
    | some t =>
      have put : ∀ k : Nat, k ≤ t.Parts.length → smaller (n + 1) (putV m r.Topic k (QkQ r)) := fun k hk =>
        ⟨h0.1, by have := QwR (p := QkQ r) (n := k) h.ts (fun t' ht' hi => by rw [QxT h.sortT e ht' hi]; exact hk); have := hs.2; exact Nat.le_trans ‹_› (by omega)⟩
      simp only
      split
      · exact h0
      split
      · split
        · exact h0
        · rename_i q
          exact put _ (by simp only [ne_eq, Decidable.not_not] at q; omega)
      · split
        · exact h0
        · split
          · exact h0
          · split
            · exact h0
            · exact put _ (by omega)
  split
  · unfold QyZ
    split
    · exact h0
    split
    · exact h0
    split
    · exact h0
    exact ⟨h0.1, by show Qg3 (m.Topics ++ _) ≤ _; rw [QxW]; have := h0.2; unfold Qg3 at this ⊢; simpa using this⟩
  split
  · unfold Q3A
    split
    · exact ⟨Nat.le_trans (List.length_filter_le _ _) h0.1, Nat.le_trans (QrS _ _) h0.2⟩
    · exact h0
  split
  · unfold QvR
    split
    · exact h0
    split
    · exact h0
    · refine ⟨?_, h0.2⟩
      show (if r.Flag = true then _ else _ : List Cf).length ≤ _
      split
      · exact Nat.le_trans (List.length_filter_le _ _) h0.1
      · have := Q00 (cfOf r) m.Configs; have := hs.1; omega
  split
  · unfold Q3B
    split <;> exact h0
  · exact h0
noncomputable def Q3L (r:Rec):Int:=match QfY r with |some w=>w.Code |none=>0
noncomputable def QpH (m:Img) (r:Rec):Img×Int:=if Q3L r=0 then QxR m r else(m,Q3L r)
theorem Q3M {m:Img}{r:Rec}(h:okImg m) (hl:limM m):Qf1 m r=some (QpH m r)∧(Q3L r=0↔okRec r∧(r.Value=⟨#[]⟩∨r.Flag=false)):=by
 obtain ⟨w,h1,h2,h3⟩:=Q5D (r:=r) h hl
 have e:Q3L r=w.Code:=by unfold Q3L;rw [h1]
 exact⟨by rw [h3];unfold QpH;rw [e],by rw [e];exact h2⟩
structure okN (n:Nat) (m:Img):Prop where
 ok:okImg m
 sm:smaller n m
theorem okN.lim {n:Nat}{m:Img}(h:okN n m) (hn:n≤1000):limM m:=h.ok.lim (by have:=h.sm.1;omega)
theorem Q3N {n:Nat}{m:Img}{r:Rec}(h:okN n m) (hn:n≤1000):Qf1 m r=some (QpH m r)∧okN (n+1) (QpH m r).1:=by
 obtain ⟨h1,h2⟩:=Q3M (r:=r) h.ok (h.lim hn)
 refine⟨h1, ?_⟩
 unfold QpH
 split
 ·rename_i g
  exact⟨Q3J h.ok (h2.1 g).1,Q3K h.ok (h2.1 g).1 h.sm⟩
 ·exact⟨h.ok,h.sm.le (by omega)⟩
noncomputable def Qe7 (m:Img) (l:List Rec):Img:=l.foldl (fun m r=>(QpH m r).1) m
theorem Q3O {n:Nat}{m:Img}(h:okN n m):∀ {l:List Rec},n+l.length≤1000→okN (n+l.length) (Qe7 m l):=by
 intro l
 induction l generalizing n m with
 |nil=>intro _;exact h
 |cons r l ih=>
  intro hl
  simp only [List.length_cons] at hl⊢
  have:=ih (Q3N (r:=r) h (by omega)).2 (by omega)
  rw [show n+(l.length+1)=n+1+l.length by omega]
  exact this
theorem Q1T {m:Img}{l:List Rec}{i:Nat}(hi:i<l.length):Qe7 m (l.take (i+1))=(QpH (Qe7 m (l.take i)) l[i]).1:=by
 unfold Qe7
 rw [List.take_succ_eq_append_getElem hi,List.foldl_append];rfl
theorem Q5G:okN 0 iz:=⟨⟨.nil,fun _ h=>(by cases h),⟨by decide,by decide⟩,by decide, .nil,fun _ h=>(by cases h), .nil, .nil,fun _ h=>(by cases h),by decide,fun _ h=>(by cases h), .nil⟩,⟨by decide,by decide⟩⟩
theorem Q3P {l:List Rec}(hl:l.length≤1000):QiS l=some (Qe7 iz l):=by
 unfold QiS
 have hN:∀ i,i≤l.length→okN i (Qe7 iz (l.take i)):=fun i hi=>by
  have:=Q3O (l:=l.take i) Q5G (by rw [List.length_take];omega)
  rw [List.length_take,Nat.zero_add,Nat.min_eq_left hi] at this
  exact this
 have:=QcJ (step:=QhG l) (n:=l.length) (st:=fun i=>((i:Int),(Qe7 iz (l.take i)).Brokers,(Qe7 iz (l.take i)).Topics,(Qe7 iz (l.take i)).Configs,(Qe7 iz (l.take i)).Done,(Qe7 iz (l.take i)).Last)) (g:=fun _=>(none:Option Unit)) (ex:=fun _=>([],[],[],[],0))
  (fin:=((Qe7 iz l).Brokers,(Qe7 iz l).Topics,(Qe7 iz l).Configs,(Qe7 iz l).Done,(Qe7 iz l).Last))
  (fun i hi _=>by
   unfold QhG
   simp only [lt_i hi,if_true,QaT (in_i hi),Qa0 hi (show l.length≤1000000000 by omega),QbA hi]
   rw [show (⟨(Qe7 iz (l.take i)).Brokers,(Qe7 iz (l.take i)).Topics,(Qe7 iz (l.take i)).Configs,(Qe7 iz (l.take i)).Done,(Qe7 iz (l.take i)).Last⟩:QaA)=Qe7 iz (l.take i) from rfl,(Q3N (hN i (by omega)) (by omega)).1]
   simp only [Option.bind_some]
   rw [Q1T hi])
  (fun _=>by unfold QhG;simp only [lt_n,List.take_length];rfl)
 rw [show (((0:Nat):Int),(Qe7 iz (l.take 0)).Brokers,(Qe7 iz (l.take 0)).Topics,(Qe7 iz (l.take 0)).Configs,(Qe7 iz (l.take 0)).Done,(Qe7 iz (l.take 0)).Last)=((0:Int),[],[],[],[],(0:Int)) from rfl] at this
 rw [this]
 have:QcF (fun _=>(none:Option Unit)) l.length 0=none:=QbV.2 fun _ _=>rfl
 rw [this];rfl
theorem Q3Q {p:Pt}(h:limP p):QdQ p p=some true:=by
 rw [QvP h];unfold QyY;simp
theorem Q1U {t:Tp}(h:t.Parts.length≤1000000) (hp:∀ p∈t.Parts,limP p):QfO t t=some true:=by
 unfold QfO
 simp only [ne_eq,not_true_eq_false,decide_false,Bool.false_eq_true,if_false,decide_true,Bool.not_true,Option.bind_some]
 refine(QeG (step:=QdV t t) (n:=t.Parts.length) (p:=fun _=>true) (A:=false) (K:=some true) (b:=true) ?_ ?_ ?_).trans rfl
 ·intro i hi
  unfold QdV
  simp only [lt_i hi,if_true,QaT (in_i hi),Qa0 hi (show t.Parts.length≤1000000000 by omega),Q3Q (hp _ (QfX hi)),Option.bind_some]
  rfl
 ·unfold QdV;simp [lt_n]
 ·exact⟨fun _ _ _=>rfl,fun _=>rfl⟩
theorem Q01 (b:ByteArray):(b==b)=true:=(MapKept.bytes_beq b b).2 rfl
theorem QzY {m:Img}(h:limM m) (hp:∀ t∈m.Topics,∀ p∈t.Parts,limP p):Qj9 m m=some true:=by
 have l1:=h.bk;have l2:=h.tp;have l3:=h.cf;have l4:=h.dn
 unfold Qj9
 simp only [ne_eq,not_true_eq_false,decide_false,Bool.false_eq_true,if_false,Option.bind_some]
 refine(QeG (step:=QhB m m) (n:=m.Brokers.length) (p:=fun _=>true) (A:=false) (b:=true) ?_ ?_ ⟨fun _ _ _=>rfl,fun _=>rfl⟩).trans ((if_pos rfl).trans ?_)
 ·intro i hi
  unfold QhB
  simp only [lt_i hi,if_true,QaT (in_i hi),Qa0 hi (show m.Brokers.length≤1000000000 by omega),Q01]
  simp [andL]
 ·unfold QhB;simp [lt_n]
 refine(QeG (step:=QhC m m) (n:=m.Topics.length) (p:=fun _=>true) (A:=false) (b:=true) ?_ ?_ ⟨fun _ _ _=>rfl,fun _=>rfl⟩).trans ((if_pos rfl).trans ?_)
 ·intro i hi
  unfold QhC
  simp only [lt_i hi,if_true,QaT (in_i hi),Qa0 hi (show m.Topics.length≤1000000000 by omega),Q1U (h.pt _ (QfX hi)) (hp _ (QfX hi)),Option.bind_some]
  rfl
 ·unfold QhC;simp [lt_n]
 refine(QeG (step:=QhD m m) (n:=m.Configs.length) (p:=fun _=>true) (A:=false) (b:=true) ?_ ?_ ⟨fun _ _ _=>rfl,fun _=>rfl⟩).trans ((if_pos rfl).trans ?_)
 ·intro i hi
  unfold QhD
  simp only [lt_i hi,if_true,QaT (in_i hi),Qa0 hi (show m.Configs.length≤1000000000 by omega),Q01]
  simp [andL]
 ·unfold QhD;simp [lt_n]
 refine(QeG (step:=QhE m m) (n:=m.Done.length) (p:=fun _=>true) (A:=false) (K:=some true) (b:=true) ?_ ?_ ⟨fun _ _ _=>rfl,fun _=>rfl⟩).trans ((if_pos rfl).trans rfl)
 ·intro i hi
  unfold QhE
  simp only [lt_i hi,if_true,QaT (in_i hi),Qa0 hi (show m.Done.length≤1000000000 by omega)]
  simp [andL]
 ·unfold QhE;simp [lt_n]
def w1:Rec:=⟨2,1,1,0,0,0,0,0,0,false,⟨#[]⟩,⟨#[]⟩,⟨#[]⟩,⟨#[97]⟩,[],[],[],[]⟩
def w2:Rec:=⟨4,1,1,0,0,0,0,0,0,false,⟨#[]⟩,⟨#[]⟩,⟨#[]⟩,⟨#[]⟩,[],[],[],[]⟩
def w3:Rec:=⟨2,2,1,0,0,0,0,0,0,false,⟨#[]⟩,⟨#[]⟩,⟨#[]⟩,⟨#[98]⟩,[],[],[],[]⟩
def w4:Rec:=⟨4,2,1,0,0,0,0,0,0,false,⟨#[]⟩,⟨#[]⟩,⟨#[]⟩,⟨#[]⟩,[],[],[],[]⟩
def w5:Rec:=⟨7,0,0,1,0,0,0,0,0,false,⟨#[116]⟩,⟨#[]⟩,⟨#[]⟩,⟨#[]⟩,[],[],[],[]⟩
def w6:Rec:=⟨8,0,0,1,0,1,0,0,0,false,⟨#[]⟩,⟨#[]⟩,⟨#[]⟩,⟨#[]⟩,[1,2],[1,2],[],[]⟩
theorem Q5H:Qk3=some [w1,w2,w3,w4,w5,w6]:=rfl
theorem JaM:brOk []:=⟨by decide,fun i h=>by simp at h⟩
theorem Q58:brOk [1,2]:=⟨by decide,fun i h=>by
 simp only [List.length_cons,List.length_nil] at h
 match i,h with
 |0,_=>exact⟨show (1:Int)≤1 by decide,show (1:Int)≤64 by decide,show¬ (1:Int)∈([]:List Int) by decide⟩
 |1,_=>exact⟨show (1:Int)≤2 by decide,show (2:Int)≤64 by decide,show¬ (2:Int)∈([1]:List Int) by decide⟩⟩
theorem row0 (k bit:Int):rowV [] (hasR k bit)=true:=by unfold rowV;split;exact QlL.2 JaM;rfl
theorem ok1:okRec w1:=⟨⟨by decide,by decide⟩,by decide,by decide,by decide,by decide,by decide,by decide,by decide,by decide,fun _=>rfl,by decide,by decide,by decide,by decide,row0 _ _,row0 _ _,row0 _ _,row0 _ _⟩
theorem ok2:okRec w2:=⟨⟨by decide,by decide⟩,by decide,by decide,by decide,by decide,by decide,by decide,by decide,by decide,fun _=>rfl,by decide,by decide,by decide,by decide,row0 _ _,row0 _ _,row0 _ _,row0 _ _⟩
theorem ok3:okRec w3:=⟨⟨by decide,by decide⟩,by decide,by decide,by decide,by decide,by decide,by decide,by decide,by decide,fun _=>rfl,by decide,by decide,by decide,by decide,row0 _ _,row0 _ _,row0 _ _,row0 _ _⟩
theorem ok4:okRec w4:=⟨⟨by decide,by decide⟩,by decide,by decide,by decide,by decide,by decide,by decide,by decide,by decide,fun _=>rfl,by decide,by decide,by decide,by decide,row0 _ _,row0 _ _,row0 _ _,row0 _ _⟩
theorem ok5:okRec w5:=⟨⟨by decide,by decide⟩,by decide,by decide,by decide,by decide,by decide,by decide,by decide,by decide,fun _=>rfl,by decide,by decide,by decide,by decide,row0 _ _,row0 _ _,row0 _ _,row0 _ _⟩
theorem ok6:okRec w6:=⟨⟨by decide,by decide⟩,by decide,by decide,by decide,by decide,by decide,by decide,by decide,by decide,fun _=>rfl,by decide,by decide,by decide,by decide,by unfold rowV;rw [if_pos (by decide)];exact QlL.2 Q58,by unfold rowV;rw [if_pos (by decide)];exact QlL.2 Q58,row0 _ _,row0 _ _⟩
def mz16:Img:=⟨[⟨1,1,⟨#[97]⟩,false,false⟩,⟨2,1,⟨#[98]⟩,false,false⟩],[⟨1,⟨#[116]⟩,[⟨[1,2],[1,2],1,0,[],[]⟩]⟩],[],[],1⟩
theorem Q5I {m:Img}{r:Rec}(h:okN 10 m) (hr:okRec r) (hf:r.Value=⟨#[]⟩):QpH m r=QxR m r:=by
 unfold QpH
 rw [if_pos ((Q3M (r:=r) h.ok (h.lim (by omega))).2.2 ⟨hr, .inl hf⟩)]
theorem QwS : QiS [w1, w2, w3, w4, w5, w6] = some mz16 := by
  rw [Q3P (by decide)]
  have s1 : okN 10 iz := ⟨Q5G.ok, Q5G.sm.le (by omega)⟩
  have nx : ∀ {m : Img} {r : Rec} {m' : Img}, okN 10 m → okRec r → r.Value = ⟨#[]⟩ → smaller 10 m' → (QxR m r).1 = m' → (QpH m r).1 = m' ∧ okN 10 m' := fun {m r m'} h hr hf hs e => by
    rw [Q5I h hr hf]
    exact ⟨e, by rw [← e]; exact Q3J h.ok hr, hs⟩
  obtain ⟨e1, s2⟩ := nx s1 ok1 rfl (m' := ⟨[⟨1, 1, ⟨#[97]⟩, true, false⟩], [], [], [], 0⟩) ⟨by decide, by decide⟩ (by kernel_rfl)
  obtain ⟨e2, s3⟩ := nx s2 ok2 rfl (m' := ⟨[⟨1, 1, ⟨#[97]⟩, false, false⟩], [], [], [], 0⟩) ⟨by decide, by decide⟩ (by kernel_rfl)
  obtain ⟨e3, s4⟩ := nx s3 ok3 rfl (m' := ⟨[⟨1, 1, ⟨#[97]⟩, false, false⟩, ⟨2, 1, ⟨#[98]⟩, true, false⟩], [], [], [], 0⟩) ⟨by decide, by decide⟩ (by kernel_rfl)
  obtain ⟨e4, s5⟩ := nx s4 ok4 rfl (m' := ⟨[⟨1, 1, ⟨#[97]⟩, false, false⟩, ⟨2, 1, ⟨#[98]⟩, false, false⟩], [], [], [], 0⟩) ⟨by decide, by decide⟩ (by kernel_rfl)
  obtain ⟨e5, s6⟩ := nx s5 ok5 rfl (m' := ⟨[⟨1, 1, ⟨#[97]⟩, false, false⟩, ⟨2, 1, ⟨#[98]⟩, false, false⟩], [⟨1, ⟨#[116]⟩, []⟩], [], [], 1⟩) ⟨by decide, by decide⟩ (by kernel_rfl)
  obtain ⟨e6, s7⟩ := nx s6 ok6 rfl (m' := mz16) ⟨by decide, by decide⟩ (by kernel_rfl)
  unfold Qe7
  simp only [List.foldl_cons, List.foldl_nil]
  rw [e1, e2, e3, e4, e5, e6]
theorem QoG:okN 10 mz16:=by
 have h:=Q3O (l:=[w1,w2,w3,w4,w5,w6]) Q5G (by decide)
 have e:=(Q3P (l:=[w1,w2,w3,w4,w5,w6]) (by decide)).symm.trans QwS
 rw [Option.some.inj e] at h
 exact⟨h.ok,h.sm.le (by decide)⟩
theorem QuH {X:Type}{step:List X×Int×Int×GErr→Option ((List X×Int×Int×GErr)⊕(List X×Int×GErr))}{rdX:Int→GErr→Option (X×Int×GErr)}{n:Int}(hst:QmP step rdX n){a:Int}{e:GErr}(he:e.isNil=false):iter step ([],(0:Int),a,e)=some ([],a,e):=by
 refine Qa3 ?_
 rw [hst,he,Bool.and_false];rfl
theorem Q5J:∃ o a,Qe5 []=some (iz, .fault o a (.code 3)):=by
 have hI:QbB ⟨[],(0:Int), .nil⟩ 1073741824=some (numP [] 0 (pos0 1073741824)):=Qn2 (b:=[]) okB.nil (by decide) (a:=0) (Nat.le_refl _) (by decide)
 have hP:numP [] 0 (pos0 1073741824)=(0,0, .fault Qv0 0 (.code 3)):=rfl
 rw [hP] at hI
 have hb:(GErr.fault Qv0 0 (.code 3)).isNil=false:=rfl
 unfold Qe5
 rw [show QlG []=some (⟨[],0, .nil⟩:QaB) from rfl,Option.bind_some]
 unfold QcH QbD QaY QbE QbY
 rw [hI]
 simp only [Option.bind_some,Q4O hb,QuH (Q51 _ _) hb,QuH (Q52 _ _) hb,QuH (Q53 _ _) hb,QuH (Q54 _ _) hb,Q2L,hb,Bool.false_eq_true,and_false,if_false,Bool.not_false,if_true]
 exact⟨_,_,rfl⟩
theorem JaN:Qc9 ⟨mz16.Brokers,mz16.Topics,mz16.Configs,mz16.Done,0⟩=some (.fault QzS 0 (.code 2)):=by
 rw [QxO ⟨by decide,by decide,fun t ht=>by rw [List.mem_singleton.1 ht];decide,by decide,by decide⟩ (fun c hc=>by cases hc)]
 have e1:QcF (brG ⟨mz16.Brokers,mz16.Topics,mz16.Configs,mz16.Done,0⟩) mz16.Brokers.length 0=none:=rfl
 have e2:tpG ⟨mz16.Brokers,mz16.Topics,mz16.Configs,mz16.Done,0⟩ 0=some (QzS,((0:Nat):Int),2,none):=by
  unfold tpG
  exact if_pos (by decide)
 have e3:Qo8 ⟨mz16.Brokers,mz16.Topics,mz16.Configs,mz16.Done,0⟩=some (QzS,((0:Nat):Int),2,none):=by
  unfold Qo8
  rw [if_neg (by decide)]
  show QcF _ (0+1) 0=_
  unfold QcF
  rw [e2]
 unfold chkR
 rw [e1,e3];rfl
theorem QzZ:Qf4=some true:=by
 obtain ⟨o,a,hr⟩:=Q5J
 have hp:=Q8P QoG.ok (by have:=QoG.sm.1;omega) (by have:=QoG.sm.2;omega)
 have hd:=Q55 QoG.ok (by have:=QoG.sm.1;omega) (by have:=QoG.sm.2;omega)
 have hc:=QvI QoG.ok (by have:=QoG.sm.1;omega)
 have h1:QiV (.fault o a (.code 3)) 3=some true:=by rw [Q74];rfl
 have h2:QiV (.fault QzS 0 (.code 2)) 2=some true:=by rw [Q74];rfl
 unfold Qf4
 rw [Q5H,Option.bind_some,QwS,Option.bind_some,hp,Option.bind_some]
 simp only
 rw [hd,Option.bind_some]
 simp only
 rw [hr,Option.bind_some]
 simp only
 rw [JaN,h1,hc]
 simp only [h2,Option.bind_some]
 rfl
abbrev W16:=QaL
def toW:Option R16→W16
 |none=>⟨⟨#[]⟩,0,0⟩
 |some (o,a,c,_)=>⟨o,a,c⟩
def tup3:R16→ByteArray×Int×Int
 |(o,a,c,_)=>(o,a,c)
theorem Q5K (n a b:Int):QgQ n a b=some (decide (a≤n)&&decide (n≤b)):=by
 unfold QgQ;simp only [QjV,Option.bind_some]
theorem Q3R (n a b:Int):(!(decide (a≤n)&&decide (n≤b)))=(decide (n<a) ||decide (b<n)):=by
 by_cases h1:a≤n<;>by_cases h2:n≤b<;>simp [h1,h2]<;>omega
theorem Q02 (f:Option R16):(((some (QxM (Sum.inl ()) (fun e=>Sum.inr (tup3 e)) f):Option (Unit⊕(ByteArray×Int×Int))).bind (Sum.elim (fun _=>(some (Sum.inl ()))) (fun(x26,x27,x28)=>(((some (⟨x26,x27,x28⟩:QaL))).bind fun r=>some (Sum.inr r))))):Option (Unit⊕QaL)).bind (Sum.elim (fun _=>(some (⟨⟨#[]⟩,0,0⟩:QaL))) some)=some (toW f):=by
 rcases f with _ |⟨o,a,c,k⟩<;>rfl
theorem Qz0 {m:Img}(h:limM m):QhM m=some (toW (QcF (brG m) m.Brokers.length 0)):=by
 unfold QhM
 have hn:m.Brokers.length≤1000000000:=by have:=h.bk;omega
 have:=QcJ (step:=Qe0 m) (n:=m.Brokers.length) (st:=fun i=>(i:Int)) (g:=brG m) (ex:=fun e=> .inr (tup3 e)) (fin:= .inl ())
  (fun i hi _=>by
   have e0:(if decide ((0:Int)<(i:Int))=true then grd (0≤IntKind.i64.wrap ((i:Int)- 1)∧IntKind.i64.wrap ((i:Int)- 1)<(m.Brokers.length:Int)) (some (rd m.Brokers (IntKind.i64.wrap ((i:Int)- 1))).Id)else some 0:Option Int)=some (lowB m i):=by
    unfold lowB
    by_cases g:i=0
    ·subst g;rfl
    ·rw [if_pos (decide_eq_true (by omega)),if_neg g,show IntKind.i64.wrap ((i:Int)- 1)=((i - 1:Nat):Int) by rw [QeK (by omega) (by omega)];omega,QaT (by omega)]
   unfold Qe0
   simp only [lt_i hi,if_true,QaT (in_i hi),Qa0 hi hn,QuD,Q28 h,Q5K,Qo7,QjV,Option.bind_some,e0,Q3R]
   unfold brG
   by_cases g1:(decide ((rd m.Brokers (i:Int)).Id≤lowB m i) ||(decide (64<(rd m.Brokers (i:Int)).Id) ||(decide ((rd m.Brokers (i:Int)).Epoch<0) ||(decide (1073741824<(rd m.Brokers (i:Int)).Epoch) || !Qe3 (rd m.Brokers (i:Int)).Rack))))=true
   ·rw [if_pos g1]
    rw [show (decide ((rd m.Brokers (i:Int)).Id≤lowB m i) ||(decide (64<(rd m.Brokers (i:Int)).Id) ||(decide ((rd m.Brokers (i:Int)).Epoch<0) ||decide (1073741824<(rd m.Brokers (i:Int)).Epoch) || !Qe3 (rd m.Brokers (i:Int)).Rack)))=true by rw [←g1];simp only [Bool.or_assoc],if_pos rfl];rfl
   ·rw [if_neg g1]
    rw [show (decide ((rd m.Brokers (i:Int)).Id≤lowB m i) ||(decide (64<(rd m.Brokers (i:Int)).Id) ||(decide ((rd m.Brokers (i:Int)).Epoch<0) ||decide (1073741824<(rd m.Brokers (i:Int)).Epoch) || !Qe3 (rd m.Brokers (i:Int)).Rack)))=false by rw [←(Bool.not_eq_true _).mp g1];simp only [Bool.or_assoc],if_neg (by decide)]
    by_cases g2:((rd m.Brokers (i:Int)).Fenced&&((rd m.Brokers (i:Int)).Leaving&&QgN m (rd m.Brokers (i:Int)).Id))=true
    ·rw [if_pos g2,if_pos g2];rfl
    ·rw [if_neg g2,if_neg g2])
  (fun _=>by unfold Qe0;simp [lt_n])
 rw [nat0] at this
 rw [this]
 exact Q02 _
theorem Q5L {m:Img}(hl:m.Brokers.length≤1000000000){p:Pt}(hp:limP p):QkK m p=some (QjQ m p):=by
 unfold QkK
 have rb:=fun l=>(Q5U l).2
 simp only [rb,Qo7,Q5K,Q56 hl hp,Option.bind_some,QjV]
 have e1:(!brB p.Ids ||(!brB p.Isr ||(!brB p.Add || !brB p.Drop)))= !part1 p:=by unfold part1;simp [Bool.not_and,Bool.or_assoc]
 rw [e1]
 cases h1:part1 p
 ·unfold QjQ;rw [h1];rfl
 ·simp only [Bool.not_true,Bool.false_eq_true,if_false]
  by_cases h2:0≤p.Epoch∧p.Epoch≤1073741824
  ·rw [QwN h1 h2,decide_eq_true h2.1,decide_eq_true h2.2];rfl
  ·have h3:(decide (0≤p.Epoch)&&decide (p.Epoch≤1073741824))=false:=by
    by_cases a:0≤p.Epoch<;>by_cases b:p.Epoch≤1073741824<;>simp [a,b]<;>omega
   rw [h3]
   have:Qv2 p=true:=by
    unfold Qv2
    by_cases a:p.Epoch<0
    ·simp [a]
    ·have:1073741824<p.Epoch:=by omega
     simp [this]
   unfold QjQ
   rw [this,h1]
   cases (p.Ids.all fun x=>hasB m x)<;>rfl
theorem Q03 {α:Type}[DecidableEq α]{l:List α}{k:Nat}(hk:k<l.length) (q:α):inL (l.take (k+1)) q=(inL (l.take k) q ||decide (l[k]=q)):=by
 unfold inL
 rw [List.take_succ_eq_append_getElem hk,List.any_append];simp
theorem Q8U {m:Img}(hn:m.Topics.length≤1000000){i:Nat}(hi:i<m.Topics.length):iter (Qd9 m (i:Int)) ((0:Int),false,(0:Int))=some (lowT m i,inL ((nmT m).take i) (rd m.Topics (i:Int)).Name):=by
 have:=QcJ (step:=Qd9 m (i:Int)) (n:=i) (st:=fun k=>(lowT m k,inL ((nmT m).take k) (rd m.Topics (i:Int)).Name,(k:Int))) (g:=fun _=>(none:Option Unit)) (ex:=fun _=>(0,false)) (fin:=(lowT m i,inL ((nmT m).take i) (rd m.Topics (i:Int)).Name))
  (fun k hk _=>by
   have hk2:k<m.Topics.length:=by omega
   have hk3:k<(nmT m).length:=by unfold nmT;simpa using hk2
   have hnm:(nmT m)[k]=(rd m.Topics (k:Int)).Name:=by rw [QbA hk2];exact List.getElem_map _
   unfold Qd9
   simp only [lt_i hk,if_true,QaT (in_i hk2),Qa0 hk2 (show m.Topics.length≤1000000000 by omega)]
   rw [Q03 hk3,hnm,QrM]
   cases inL ((nmT m).take k) (rd m.Topics (i:Int)).Name<;>rfl)
  (fun _=>by unfold Qd9;simp [lt_n])
 rw [show (lowT m 0,inL ((nmT m).take 0) (rd m.Topics (i:Int)).Name,((0:Nat):Int))=((0:Int),false,(0:Int)) from rfl] at this
 rw [this]
 have:QcF (fun _=>(none:Option Unit)) i 0=none:=QbV.2 fun _ _=>rfl
 rw [this];rfl
theorem Qy2 {m:Img}(h:limM m) (hp:∀ t∈m.Topics,∀ p∈t.Parts,limP p):iter (QeA m) (0:Int)=some (QxM (Sum.inl ()) (fun e=>Sum.inr (tup3 e)) (QcF (tpG m) m.Topics.length 0)):=by
 have hn:m.Topics.length≤1000000000:=by have:=h.tp;omega
 have:=QcJ (step:=QeA m) (n:=m.Topics.length) (st:=fun i=>(i:Int)) (g:=tpG m) (ex:=fun e=> .inr (tup3 e)) (fin:= .inl ())
  (fun i hi _=>by
   unfold QeA
   have hpt:(rd m.Topics (i:Int)).Parts.length≤1000000000:=by have:=h.pt _ (QfX hi);omega
   simp only [lt_i hi,if_true,QaT (in_i hi),Qa0 hi hn,Q8U h.tp hi,QuD,Qo7,Option.bind_some]
   unfold tpG
   by_cases g1:(decide ((rd m.Topics (i:Int)).Id≤lowT m i) ||(decide (m.Last<(rd m.Topics (i:Int)).Id) ||(!Qe3 (rd m.Topics (i:Int)).Name ||(inL ((nmT m).take i) (rd m.Topics (i:Int)).Name ||decide (256<((rd m.Topics (i:Int)).Parts.length:Int))))))=true
   ·rw [if_pos g1,if_pos g1];rfl
   ·rw [if_neg g1,if_neg g1]
    have hin:=QcJ (step:=QfK m (i:Int)) (n:=(rd m.Topics (i:Int)).Parts.length) (st:=fun k=>(k:Int)) (g:=ptG m i) (ex:=fun e=> .inr (tup3 e)) (fin:= .inl ())
     (fun k hk _=>by
      unfold QfK
      simp only [lt_i hk,if_true,QaT (in_i hk),Qa0 hk hpt,Q5L (show m.Brokers.length≤1000000000 by have:=h.bk;omega) (hp _ (QfX hi) _ (QfX hk)),Option.bind_some]
      unfold ptG
      cases QjQ m (rd (rd m.Topics (i:Int)).Parts (k:Int))<;>rfl)
     (fun _=>by unfold QfK;simp [lt_n])
    rw [nat0] at hin
    rw [hin]
    rcases QcF (ptG m i) (rd m.Topics (i:Int)).Parts.length 0 with _ |⟨o,a,c,k⟩<;>rfl)
  (fun _=>by unfold QeA;simp [lt_n])
 rw [nat0] at this
 exact this
theorem Q1V {m:Img}(h:limM m) (hp:∀ t∈m.Topics,∀ p∈t.Parts,limP p):QiD m=some (toW (Qo8 m)):=by
 unfold QiD Qo8
 simp only [Q5K,Option.bind_some,Qo7,Q3R]
 rw [show (decide ((256:Int)<(m.Topics.length:Int)) ||(decide (m.Last<0) ||decide (1073741824<m.Last)))=QyS m from rfl]
 cases QyS m
 ·simp only [Bool.false_eq_true,if_false]
  rw [Qy2 h hp]
  exact Q02 _
 ·rfl
theorem Qz1 {m:Img}(h:limM m):QhN m=some (toW (QcF (cfG m) m.Configs.length 0)):=by
 unfold QhN
 have hn:m.Configs.length≤1000000000:=by have:=h.cf;omega
 have hT:m.Topics.length≤1000000000:=by have:=h.tp;omega
 have:=QcJ (step:=Qe1 m) (n:=m.Configs.length) (st:=fun i=>(i:Int)) (g:=cfG m) (ex:=fun e=> .inr (tup3 e)) (fin:= .inl ())
  (fun i hi _=>by
   unfold Qe1
   simp only [lt_i hi,if_true,QaT (in_i hi),Qa0 hi hn,QuD,Q0U hT,Qo7,QjV,Option.bind_some]
   have e1:getV tz (QdJ tpId m.Topics (rd m.Configs (i:Int)).Topic)=((getV tz (QdJ tpId m.Topics (rd m.Configs (i:Int)).Topic)).1,hasT m (rd m.Configs (i:Int)).Topic):=by
    unfold hasT;cases QdJ tpId m.Topics (rd m.Configs (i:Int)).Topic<;>rfl
   rw [e1]
   simp only
   have e2:(if(!hasT m (rd m.Configs (i:Int)).Topic)=true then some (decide ((rd m.Configs (i:Int)).Topic≠0) ||(!Qe3 (rd m.Configs (i:Int)).Key ||decide (256<((rd m.Configs (i:Int)).Value.size:Int))))else some (!Qe3 (rd m.Configs (i:Int)).Key ||decide (256<((rd m.Configs (i:Int)).Value.size:Int))))=some (!hasT m (rd m.Configs (i:Int)).Topic&&decide ((rd m.Configs (i:Int)).Topic≠0) ||(!Qe3 (rd m.Configs (i:Int)).Key ||decide (256<((rd m.Configs (i:Int)).Value.size:Int)))):=by
    cases hasT m (rd m.Configs (i:Int)).Topic
    ·rfl
    ·rfl
   rw [e2,Option.bind_some]
   unfold cfG
   by_cases g1:(!hasT m (rd m.Configs (i:Int)).Topic&&decide ((rd m.Configs (i:Int)).Topic≠0) ||(!Qe3 (rd m.Configs (i:Int)).Key ||decide (256<((rd m.Configs (i:Int)).Value.size:Int))))=true
   ·rw [if_pos g1,if_pos g1];rfl
   ·rw [if_neg g1,if_neg g1]
    by_cases g2:i=0
    ·subst g2;simp
    ·have hw:IntKind.i64.wrap ((i:Int)- 1)=((i - 1:Nat):Int):=by rw [QeK (by omega) (by omega)];omega
     have hj:i - 1<m.Configs.length:=by omega
     rw [if_neg (fun z=>by have:=of_decide_eq_true z;omega),if_neg g2,hw,QaT (in_i hj)]
     by_cases g3:(decide ((rd m.Configs (i:Int)).Topic<(rd m.Configs ((i - 1:Nat):Int)).Topic) ||(decide ((rd m.Configs ((i - 1:Nat):Int)).Topic=(rd m.Configs (i:Int)).Topic)&&geS (rd m.Configs ((i - 1:Nat):Int)).Key (rd m.Configs (i:Int)).Key))=true
     ·rw [if_pos g3]
      unfold geS at g3
      rw [if_pos g3];rfl
     ·rw [if_neg g3]
      unfold geS at g3
      rw [if_neg g3];rfl)
  (fun _=>by unfold Qe1;simp [lt_n])
 rw [nat0] at this
 rw [this]
 exact Q02 _
theorem Q5M {m:Img}(hn:m.Done.length≤1000000){i:Nat}(hi:i<m.Done.length) (b:Bool):iter (QfL m (i:Int)) (b,(0:Int))=some (b ||inL ((dnK m).take i) ((rd m.Done (i:Int)).Client,(rd m.Done (i:Int)).Serial)):=by
 have:=QcJ (step:=QfL m (i:Int)) (n:=i) (st:=fun k=>((b ||inL ((dnK m).take k) ((rd m.Done (i:Int)).Client,(rd m.Done (i:Int)).Serial)),(k:Int))) (g:=fun _=>(none:Option Unit)) (ex:=fun _=>false) (fin:=(b ||inL ((dnK m).take i) ((rd m.Done (i:Int)).Client,(rd m.Done (i:Int)).Serial)))
  (fun k hk _=>by
   have hk2:k<m.Done.length:=by omega
   have hk3:k<(dnK m).length:=by unfold dnK;simpa using hk2
   have hnm:(dnK m)[k]=((rd m.Done (k:Int)).Client,(rd m.Done (k:Int)).Serial):=by rw [QbA hk2];exact List.getElem_map _
   unfold QfL
   simp only [lt_i hk,if_true,QaT (in_i hk2),Qa0 hk2 (show m.Done.length≤1000000000 by omega),QjV]
   rw [Q03 hk3,hnm,←Bool.or_assoc]
   cases (b ||inL ((dnK m).take k) ((rd m.Done (i:Int)).Client,(rd m.Done (i:Int)).Serial))
   ·simp only [Bool.false_eq_true,if_false,Option.bind_some,Bool.false_or]
    by_cases q1:(rd m.Done (k:Int)).Client=(rd m.Done (i:Int)).Client<;>by_cases q2:(rd m.Done (k:Int)).Serial=(rd m.Done (i:Int)).Serial<;>simp [q1,q2]
   ·rfl)
  (fun _=>by unfold QfL;simp [lt_n])
 rw [show ((b ||inL ((dnK m).take 0) ((rd m.Done (i:Int)).Client,(rd m.Done (i:Int)).Serial)),((0:Nat):Int))=(b,(0:Int)) by rw [show inL ((dnK m).take 0) ((rd m.Done (i:Int)).Client,(rd m.Done (i:Int)).Serial)=false from rfl,Bool.or_false];rfl] at this
 rw [this]
 have:QcF (fun _=>(none:Option Unit)) i 0=none:=QbV.2 fun _ _=>rfl
 rw [this];rfl
theorem Q5N {m:Img}(h:limM m):QkL m=some (toW (if 64<(m.Done.length:Int)then some (dnOp,(m.Done.length:Int),6,none)else QcF (dnG m) m.Done.length 0)):=by
 unfold QkL
 have hn:m.Done.length≤1000000000:=by have:=h.dn;omega
 by_cases g:64<(m.Done.length:Int)
 ·rw [if_pos (decide_eq_true g),if_pos g];rfl
 rw [if_neg (fun z=>g (of_decide_eq_true z)),if_neg g]
 have:=QcJ (step:=QhO m) (n:=m.Done.length) (st:=fun i=>(i:Int)) (g:=dnG m) (ex:=fun e=> .inr (tup3 e)) (fin:= .inl ())
  (fun i hi _=>by
   unfold QhO
   simp only [lt_i hi,if_true,QaT (in_i hi),Qa0 hi hn,Q5K,Q3R,Qo7,Option.bind_some,Q5M h.dn hi]
   unfold dnG
   have e1:((decide ((rd m.Done (i:Int)).Client<1) ||decide (1073741824<(rd m.Done (i:Int)).Client) ||(decide ((rd m.Done (i:Int)).Serial<1) ||decide (1073741824<(rd m.Done (i:Int)).Serial) ||(decide ((rd m.Done (i:Int)).Code<0) ||decide (21<(rd m.Done (i:Int)).Code)))) ||inL ((dnK m).take i) ((rd m.Done (i:Int)).Client,(rd m.Done (i:Int)).Serial))=
     (decide ((rd m.Done (i:Int)).Client<1) ||(decide (1073741824<(rd m.Done (i:Int)).Client) ||(decide ((rd m.Done (i:Int)).Serial<1) ||(decide (1073741824<(rd m.Done (i:Int)).Serial) ||(decide ((rd m.Done (i:Int)).Code<0) ||(decide (21<(rd m.Done (i:Int)).Code) ||inL ((dnK m).take i) ((rd m.Done (i:Int)).Client,(rd m.Done (i:Int)).Serial))))))):=by simp only [Bool.or_assoc]
   rw [e1]
   by_cases g1:(decide ((rd m.Done (i:Int)).Client<1) ||(decide (1073741824<(rd m.Done (i:Int)).Client) ||(decide ((rd m.Done (i:Int)).Serial<1) ||(decide (1073741824<(rd m.Done (i:Int)).Serial) ||(decide ((rd m.Done (i:Int)).Code<0) ||(decide (21<(rd m.Done (i:Int)).Code) ||inL ((dnK m).take i) ((rd m.Done (i:Int)).Client,(rd m.Done (i:Int)).Serial)))))))=true
   ·rw [if_pos g1,if_pos g1];rfl
   ·rw [if_neg g1,if_neg g1];rfl)
  (fun _=>by unfold QhO;simp [lt_n])
 rw [nat0] at this
 rw [this]
 exact Q02 _
theorem Qz2 {g:Nat→Option R16}(hg:∀ i o a c k,g i=some (o,a,c,k)→c≠0){n:Nat}{o:ByteArray}{a c:Int}{k:Option Int}(h:QcF g n 0=some (o,a,c,k)):c≠0:=by
 obtain ⟨j,_,_,h3,_⟩:=QmO h
 exact hg _ _ _ _ _ h3
theorem Q8V {m:Img}(i:Nat) (o:ByteArray) (a c:Int) (k:Option Int) (h:brG m i=some (o,a,c,k)):c≠0:=by
 unfold brG at h
 split at h
 ·cases h;decide
 ·split at h
  ·cases h;decide
  ·cases h
theorem JaO {m:Img}{j:Nat}(i:Nat) (o:ByteArray) (a c:Int) (k:Option Int) (h:ptG m j i=some (o,a,c,k)):c≠0:=by
 unfold ptG at h
 split at h
 ·cases h
 ·cases h;decide
theorem JaP {m:Img}(i:Nat) (o:ByteArray) (a c:Int) (k:Option Int) (h:tpG m i=some (o,a,c,k)):c≠0:=by
 unfold tpG at h
 split at h
 ·cases h;decide
 ·exact Qz2 JaO h
theorem Q8W {m:Img}(i:Nat) (o:ByteArray) (a c:Int) (k:Option Int) (h:cfG m i=some (o,a,c,k)):c≠0:=by
 unfold cfG at h
 split at h
 ·cases h;decide
 ·split at h
  ·cases h
  ·split at h
   ·cases h;decide
   ·cases h
theorem JaQ {m:Img}(i:Nat) (o:ByteArray) (a c:Int) (k:Option Int) (h:dnG m i=some (o,a,c,k)):c≠0:=by
 unfold dnG at h
 split at h
 ·cases h;decide
 ·cases h
theorem Q3S {m:Img}{o:ByteArray}{a c:Int}{k:Option Int}(h:Qo8 m=some (o,a,c,k)):c≠0:=by
 unfold Qo8 at h
 split at h
 ·cases h;decide
 ·exact Qz2 JaP h
theorem Q59 {m:Img}{o:ByteArray}{a c:Int}{k:Option Int}(h:chkR m=some (o,a,c,k)):c≠0:=by
 unfold chkR at h
 split at h
 ·rename_i e he;cases h;exact Qz2 Q8V he
 ·split at h
  ·rename_i e he;cases h;exact Q3S he
  ·split at h
   ·rename_i e he;cases h;exact Qz2 Q8W he
   ·split at h
    ·cases h;decide
    ·exact Qz2 JaQ h
theorem Q3T {m:Img}(h:limM m) (hp:∀ t∈m.Topics,∀ p∈t.Parts,limP p):QjH m=some (toW (chkR m)):=by
 unfold QjH chkR
 rw [Qz0 h,Q1V h hp,Qz1 h,Q5N h]
 simp only [Option.bind_some]
 rcases e1:QcF (brG m) m.Brokers.length 0 with _ |⟨o,a,c,k⟩
 rotate_left
 ·rw [if_pos (show decide ((toW (some (o,a,c,k))).Code≠0)=true from decide_eq_true (Qz2 Q8V e1))]
 rw [if_neg (by decide)]
 rcases e2:Qo8 m with _ |⟨o,a,c,k⟩
 rotate_left
 ·rw [if_pos (show decide ((toW (some (o,a,c,k))).Code≠0)=true from decide_eq_true (Q3S e2))]
 rw [if_neg (by decide)]
 rcases e3:QcF (cfG m) m.Configs.length 0 with _ |⟨o,a,c,k⟩
 rotate_left
 ·rw [if_pos (show decide ((toW (some (o,a,c,k))).Code≠0)=true from decide_eq_true (Qz2 Q8W e3))]
 rw [if_neg (by decide)]
theorem Q63 {r:Option R16}(h:∀ o a c k,r=some (o,a,c,k)→c≠0):QjK (toG r) (toW r)=some true:=by
 unfold QjK
 rcases r with _ |⟨o,a,c,_ |k⟩
 ·rfl
 ·have hc:=h _ _ _ _ rfl
  have hu:=Q0G (.fault o a (.code c)) o (by simp [Ql8])
  simp only [toG,toW,GErr.isNil,Bool.false_eq_true,if_false,Q0F,Q73,Q2E,Q2F,hu,Option.bind_some]
  simp [Ql8]
 ·have hc:=h _ _ _ _ rfl
  have hu:=Q0G (.fault o a (.fault Q42 k (.code c))) o (by simp [Ql8])
  have ho:OfE (.fault o a (.fault Q42 k (.code c)))=c:=by simp [OfE,QyE]
  simp only [toG,toW,GErr.isNil,Bool.false_eq_true,if_false,Q0F,Q73,Q2E,ho,hu,Option.bind_some]
  simp [Ql8]
def sumN (inc:Nat→Int):Nat→Nat→Int
 |0,_=>0
 |d+1,i=>inc i+sumN inc d (i+1)
theorem Qy3 {step:Int×Int→Option ((Int×Int)⊕Int)}{N:Nat}{inc:Nat→Int}(hs:∀ (i:Nat) (n:Int),i<N→0≤n→n≤300→∃ n',step (n,(i:Int))=some (.inl (n',((i+1:Nat):Int)))∧n≤n'∧(n'≤300→n'=n+inc i))
  (he:∀ (i:Nat) (n:Int),¬ (i<N∧n≤300)→step (n,(i:Int))=some (.inr n)):∀ (d i:Nat) (n:Int),i+d=N→0≤n→∃ r,iter step (n,(i:Int))=some r∧n≤r∧(r≤300→r=n+sumN inc d i)
 |0,i,n,hi,h0=>⟨n,Qa3 (he i n (by omega)),Int.le_refl _,fun _=>by simp [sumN]⟩
 |d+1,i,n,hi,h0=>by
  by_cases g:n≤300
  ·obtain ⟨n',h1,h2,h3⟩:=hs i n (by omega) h0 g
   obtain ⟨r,r1,r2,r3⟩:=Qy3 hs he d (i+1) n' (by omega) (by omega)
   refine⟨r,(Qa5 h1).trans r1,by omega,fun k=> ?_⟩
   have:=h3 (by omega)
   have:=r3 k
   unfold sumN;omega
  ·exact⟨n,Qa3 (he i n (fun z=>g z.2)),Int.le_refl _,fun k=>absurd k g⟩
theorem QrT {α:Type}[Inhabited α] (l:List α) (f:α→Int):∀ (d i:Nat),i+d=l.length→sumN (fun j=>f (rd l (j:Int))) d i=((l.drop i).map f).sum
 |0,i,hi=>by rw [List.drop_of_length_le (by omega)];rfl
 |d+1,i,hi=>by
  have hlt:i<l.length:=by omega
  unfold sumN
  rw [List.drop_eq_getElem_cons hlt,List.map_cons,List.sum_cons,QbA hlt,QrT l f d (i+1) (by omega)]
theorem QxX {α:Type}(f:α→Int):∀ {l:List α},(∀ x∈l,1≤f x)→(l.length:Int)≤(l.map f).sum∧∀ x∈l,f x≤(l.map f).sum
 |[],_=>⟨by simp,fun _ h=>by cases h⟩
 |y::l,h=>by
  obtain ⟨h1,h2⟩:=QxX f fun x hx=>h x (.tail _ hx)
  have h3:=h y (.head _)
  rw [List.map_cons,List.sum_cons]
  refine⟨by simp only [List.length_cons];omega,fun x hx=> ?_⟩
  rcases List.mem_cons.1 hx with rfl |z
  ·omega
  ·have:=h2 x z;omega
theorem Qy4 (f:Tp→Int):∀ {l:List Tp},(∀ x∈l,(x.Parts.length:Int)≤f x)→(Qg3 l:Int)≤(l.map f).sum
 |[],_=>by simp [Qg3]
 |y::l,h=>by
  have h1:=Qy4 f fun x hx=>h x (.tail _ hx)
  have h3:=h y (.head _)
  rw [List.map_cons,List.sum_cons,QlM];omega
def okL (l:List Int):Prop:=(∀ x∈l,(Lit.int .i64 x).wf=true)∧l.length≤reachBytes
def okI (m:Img):Prop:=
 ((∀ b∈m.Brokers,(Lit.int .i64 b.Id).wf=true∧(Lit.int .i64 b.Epoch).wf=true∧b.Rack.size≤maxLen∧True∧True∧True)∧m.Brokers.length≤reachBytes)∧
 ((∀ t∈m.Topics,(Lit.int .i64 t.Id).wf=true∧t.Name.size≤maxLen∧((∀ p∈t.Parts,okL p.Ids∧okL p.Isr∧(Lit.int .i64 p.Leader).wf=true∧(Lit.int .i64 p.Epoch).wf=true∧okL p.Add∧okL p.Drop∧True)∧t.Parts.length≤reachBytes)∧True)∧m.Topics.length≤reachBytes)∧
 ((∀ c∈m.Configs,(Lit.int .i64 c.Topic).wf=true∧c.Key.size≤maxLen∧c.Value.size≤maxLen∧True)∧m.Configs.length≤reachBytes)∧
 ((∀ d∈m.Done,(Lit.int .i64 d.Client).wf=true∧(Lit.int .i64 d.Serial).wf=true∧(Lit.int .i64 d.Code).wf=true∧True)∧m.Done.length≤reachBytes)∧
 (Lit.int .i64 m.Last).wf=true∧True
theorem wf64 {n:Int}(h:(Lit.int .i64 n).wf=true):i64 n:=by
 simp [Lit.wf,IntKind.min,IntKind.max,IntKind.signed,IntKind.bits] at h;unfold i64;omega
theorem QoP:reachBytes=140737488351232:=rfl
theorem Q3U:maxLen=9223372036854775807:=rfl
theorem QuI {i n:Nat}(hi:i<n) (hn:n≤140737488351232):IntKind.i64.wrap ((i:Int)+1)=((i+1:Nat):Int):=by
 rw [QeK (by omega) (by omega)];rfl
def w40 (s:ByteArray):Int:=(s.size:Int).tdiv 40
theorem Qz3 {s:ByteArray}(h:s.size≤maxLen):0≤w40 s∧w40 s≤230584300921369395∧IntKind.i64.wrap ((s.size:Int).tdiv 40)=w40 s:=by
 rw [Q3U] at h
 unfold w40
 have e:(s.size:Int).tdiv 40=(s.size:Int)/40:=Int.tdiv_eq_ediv_of_nonneg (by omega)
 rw [e]
 exact⟨by omega,by omega,QeK (by omega) (by omega)⟩
def QsZ (p:Pt):Int:=1+p.Ids.length+p.Isr.length+p.Add.length+p.Drop.length
def QmW (t:Tp):Int:=1+w40 t.Name+(t.Parts.map QsZ).sum
def cW16 (c:Cf):Int:=1+w40 c.Key+w40 c.Value
section
variable {m : Img}
theorem wt0 (h:okI m) (n:Int) (h0:0≤n):∃ r,iter (Qd2 m 300) (n,(0:Int))=some r∧n≤r:=by
 obtain ⟨⟨hb,hl⟩,_⟩:=h
 rw [QoP] at hl
 obtain ⟨r,r1,r2,_⟩:=Qy3 (step:=Qd2 m 300) (N:=m.Brokers.length) (inc:=fun i=>w40 (rd m.Brokers (i:Int)).Rack) (fun i n hi h0 h3=>by
  obtain ⟨a,b,c⟩:=Qz3 (hb _ (QfX hi)).2.2.1
  refine⟨n+w40 (rd m.Brokers (i:Int)).Rack, ?_,by omega,fun _=>rfl⟩
  unfold Qd2
  simp only [lt_i hi,if_true,decide_eq_true h3,Option.bind_some,QaT (in_i hi),QuI hi hl,c]
  rw [QeK (by omega) (by omega)])
  (fun i n hn=>by
   unfold Qd2
   simp only [QjV,Option.bind_some]
   rw [if_neg]
   simp only [Bool.and_eq_true,decide_eq_true_eq]
   omega) m.Brokers.length 0 n (by omega) h0
 exact⟨r,r1,r2⟩
theorem wt2 (h:okI m){i:Nat}(hi:i<m.Topics.length) (n:Int) (h0:0≤n):∃ r,iter (Qd3 m 300 (i:Int)) (n,(0:Int))=some r∧n≤r∧(r≤300→r=n+((rd m.Topics (i:Int)).Parts.map QsZ).sum):=by
 obtain ⟨_,⟨ht,hl⟩,_⟩:=h
 obtain ⟨_,_,⟨hp,hpl⟩,_⟩:=ht _ (QfX hi)
 rw [QoP] at hpl
 obtain ⟨r,r1,r2,r3⟩:=Qy3 (step:=Qd3 m 300 (i:Int)) (N:=(rd m.Topics (i:Int)).Parts.length) (inc:=fun k=>QsZ (rd (rd m.Topics (i:Int)).Parts (k:Int))) (fun k n hk h0 h3=>by
  obtain ⟨a1,a2,_,_,a3,a4,_⟩:=hp _ (QfX hk)
  have b1:=a1.2;have b2:=a2.2;have b3:=a3.2;have b4:=a4.2
  rw [QoP] at b1 b2 b3 b4
  refine⟨n+QsZ (rd (rd m.Topics (i:Int)).Parts (k:Int)), ?_,by unfold QsZ;omega,fun _=>rfl⟩
  unfold Qd3 QsZ
  simp only [QaT (in_i hi),lt_i hk,if_true,decide_eq_true h3,Option.bind_some,QaT (in_i hk),QuI hk hpl]
  rw [QeK (n:=n+1) (by omega) (by omega),QeK (n:=n+1+_) (by omega) (by omega),QeK (n:=n+1+_+_) (by omega) (by omega),QeK (n:=n+1+_+_+_) (by omega) (by omega),QeK (n:=n+1+_+_+_+_) (by omega) (by omega)]
  congr 3;omega)
  (fun k n hn=>by
   unfold Qd3
   simp only [QaT (in_i hi),QjV,Option.bind_some]
   rw [if_neg]
   simp only [Bool.and_eq_true,decide_eq_true_eq]
   omega) (rd m.Topics (i:Int)).Parts.length 0 n (by omega) h0
 rw [QrT _ QsZ _ _ (by omega),List.drop_zero] at r3
 exact⟨r,r1,r2,r3⟩
theorem wt1 (h:okI m) (n:Int) (h0:0≤n):∃ r,iter (Qd4 m 300) (n,(0:Int))=some r∧n≤r∧(r≤300→r=n+(m.Topics.map QmW).sum):=by
 have h':=h
 obtain ⟨_,⟨ht,hl⟩,_⟩:=h'
 rw [QoP] at hl
 obtain ⟨r,r1,r2,r3⟩:=Qy3 (step:=Qd4 m 300) (N:=m.Topics.length) (inc:=fun k=>QmW (rd m.Topics (k:Int))) (fun i n hi h0 h3=>by
  obtain ⟨a,b,c⟩:=Qz3 (ht _ (QfX hi)).2.1
  obtain ⟨q,q1,q2,q3⟩:=wt2 h hi (n+1+w40 (rd m.Topics (i:Int)).Name) (by omega)
  refine⟨q, ?_,by omega,fun k=>by have:=q3 k;unfold QmW;omega⟩
  unfold Qd4
  simp only [lt_i hi,if_true,decide_eq_true h3,Option.bind_some,QaT (in_i hi),QuI hi hl,c]
  rw [QeK (n:=n+1) (by omega) (by omega),QeK (n:=n+1+_) (by omega) (by omega),q1]
  rfl)
  (fun i n hn=>by
   unfold Qd4
   simp only [QjV,Option.bind_some]
   rw [if_neg]
   simp only [Bool.and_eq_true,decide_eq_true_eq]
   omega) m.Topics.length 0 n (by omega) h0
 rw [QrT _ QmW _ _ (by omega),List.drop_zero] at r3
 exact⟨r,r1,r2,r3⟩
theorem wt3 (h:okI m) (n:Int) (h0:0≤n):∃ r,iter (Qd5 m 300) (n,(0:Int))=some r∧n≤r∧(r≤300→r=n+(m.Configs.map cW16).sum):=by
 obtain ⟨_,_,⟨hc,hl⟩,_⟩:=h
 rw [QoP] at hl
 obtain ⟨r,r1,r2,r3⟩:=Qy3 (step:=Qd5 m 300) (N:=m.Configs.length) (inc:=fun k=>cW16 (rd m.Configs (k:Int))) (fun i n hi h0 h3=>by
  obtain ⟨a,b,c⟩:=Qz3 (hc _ (QfX hi)).2.1
  obtain ⟨a',b',c'⟩:=Qz3 (hc _ (QfX hi)).2.2.1
  refine⟨n+cW16 (rd m.Configs (i:Int)), ?_,by unfold cW16;omega,fun _=>rfl⟩
  unfold Qd5 cW16
  simp only [lt_i hi,if_true,decide_eq_true h3,Option.bind_some,QaT (in_i hi),QuI hi hl,c,c']
  rw [QeK (n:=n+1) (by omega) (by omega),QeK (n:=n+1+_) (by omega) (by omega),QeK (n:=n+1+_+_) (by omega) (by omega)]
  congr 3;omega)
  (fun i n hn=>by
   unfold Qd5
   simp only [QjV,Option.bind_some]
   rw [if_neg]
   simp only [Bool.and_eq_true,decide_eq_true_eq]
   omega) m.Configs.length 0 n (by omega) h0
 rw [QrT _ cW16 _ _ (by omega),List.drop_zero] at r3
 exact⟨r,r1,r2,r3⟩
structure Q8X (m:Img):Prop where
 lim:limM m
 pts:∀ t∈m.Topics,∀ p∈t.Parts,limP p
 i6:∀ c∈m.Configs,i64 c.Topic
 cf:m.Configs.length≤1000
 pn:Qg3 m.Topics≤1000
theorem Q5O (h:okI m):∃ b,QiZ m=some b∧(b=true→Q8X m):=by
 have h':=h
 obtain ⟨⟨hb,hbl⟩,⟨ht,htl⟩,⟨hc,hcl⟩,⟨hd,hdl⟩,hlast⟩:=h'
 rw [QoP] at hbl hdl
 unfold QiZ QjZ
 have hw:IntKind.i64.wrap ((m.Brokers.length:Int)+(m.Done.length:Int))=(m.Brokers.length:Int)+(m.Done.length:Int):=QeK (by omega) (by omega)
 rw [hw]
 obtain ⟨a,a1,a2⟩:=wt0 h ((m.Brokers.length:Int)+(m.Done.length:Int)) (by omega)
 obtain ⟨b,b1,b2,b3⟩:=wt1 h a (by omega)
 obtain ⟨c,c1,c2,c3⟩:=wt3 h b (by omega)
 rw [a1,Option.bind_some,Option.bind_some,b1,Option.bind_some,Option.bind_some,c1,Option.bind_some,Option.bind_some,Option.bind_some]
 simp only [QjV,Option.bind_some]
 refine⟨_,rfl,fun k=> ?_⟩
 simp only [Bool.and_eq_true,decide_eq_true_eq] at k
 obtain ⟨k1,k2⟩:=k
 have e1:=b3 (by omega)
 have e2:=c3 k1
 have pw:∀ t∈m.Topics,∀ p∈t.Parts,1≤QsZ p:=fun t ht p hp=>by unfold QsZ;omega
 have tw:∀ t∈m.Topics,1≤QmW t∧(t.Parts.length:Int)≤QmW t∧∀ p∈t.Parts,QsZ p≤QmW t:=fun t ht'=>by
  obtain ⟨q1,q2⟩:=QxX QsZ (pw t ht')
  have:=(Qz3 (ht t ht').2.1).1
  refine⟨by unfold QmW;omega,by unfold QmW;omega,fun p hp=>by have:=q2 p hp;unfold QmW;omega⟩
 have cw:∀ c∈m.Configs,1≤cW16 c:=fun c hc'=>by
  have:=(Qz3 (hc c hc').2.1).1;have:=(Qz3 (hc c hc').2.2.1).1;unfold cW16;omega
 obtain ⟨s1,s2⟩:=QxX QmW fun t ht'=>(tw t ht').1
 obtain ⟨s3,_⟩:=QxX cW16 cw
 have s4:=Qy4 QmW fun t ht'=>(tw t ht').2.1
 have hpt:∀ t∈m.Topics,∀ p∈t.Parts,QsZ p≤300:=fun t ht' p hp=>by have:=(tw t ht').2.2 p hp;have:=s2 t ht';omega
 refine⟨⟨by omega,by omega,fun t ht'=> ?_,by omega,by omega⟩,fun t ht' p hp=> ?_,fun c hc'=>wf64 (hc c hc').1,by omega,by omega⟩
 ·have:=(tw t ht').2.1;have:=s2 t ht';omega
 ·have:=hpt t ht' p hp
  unfold QsZ at this
  exact⟨by omega,by omega,by omega,by omega⟩
end
theorem bigB {l:List Int}(hb:brOk l):∀ x∈l,x≤9223372036854775807:=fun x hx=>by have:=QsT hb x hx;omega
theorem Q04 {p:Pt}{m:Img}(hv:QjQ m p=true):p.Leader≤1073741824∧p.Epoch≤1073741824:=by
 have:=QvO hv;omega
theorem Q8Y {p:Pt}(h:part1 p=true) (h1:p.Leader≤1073741824) (h2:p.Epoch≤1073741824):QfM p=some (QnD p):=by
 obtain ⟨q1,q2,q3,q4⟩:=QvJ h
 have w1:=QiL p.Ids;have w2:=QiL p.Isr;have w3:=QiL p.Add;have w4:=QiL p.Drop
 have w5:=il p.Leader;have w6:=il p.Epoch
 have z1:=q1.1;have z2:=q2.1;have z3:=q3.1;have z4:=q4.1
 unfold QfM
 rw [QxG _ (bigB q1) (by omega),Option.bind_some,QxG _ (bigB q2) (by omega),Option.bind_some,QaT (by (try simp only [List.length_append]);omega),
  QgY _ (by omega),Option.bind_some,QaT (by (try simp only [List.length_append]);omega),QgY _ (by omega),Option.bind_some,QaT (by (try simp only [List.length_append]);omega),
  QxG _ (bigB q3) (by omega),Option.bind_some,QaT (by (try simp only [List.length_append]);omega),QxG _ (bigB q4) (by omega),Option.bind_some,QaT (by (try simp only [List.length_append]);omega)]
 unfold QnD
 simp only [List.append_assoc]
theorem Q64 {t:Tp}{m:Img}(h:t.Id≤1073741824) (h2:Qe3 t.Name=true) (hn:t.Parts.length≤256) (hv:∀ p∈t.Parts,QjQ m p=true):Qe2 t=some (Ql9 t):=by
 have:=(QgT h2).2
 have e1:=il t.Id;have e2:=il (t.Parts.length:Int);have e3:=tl t.Name;have e5:=QcN t.Name
 have hc:=QfC QnD 300 t.Parts fun p hp=>QrO (QvO (hv p hp)).1
 unfold Qe2
 rw [QgY _ (by omega),Option.bind_some,Qt9 _ (by omega),Option.bind_some,QaT (by omega),QgY _ (by omega),Option.bind_some,QaT (by (try simp only [List.length_append]);omega)]
 rw [Qj4 (step:=QdM t) QnD t.Parts _ (by omega) (fun k hk c hc2=>by
  have hp:=hv _ (List.getElem_mem hk)
  have hl:=QrO (QvO hp).1
  simp only [List.length_append] at hc2
  unfold QdM
  simp only [lt_i hk,if_true,QaT (in_i hk),Qa0 hk (show t.Parts.length≤1000000000 by omega),QbA hk]
  rw [Q8Y (QvO hp).1 (Q04 hp).1 (Q04 hp).2,Option.bind_some,QaT (by omega)]) (fun c=>by unfold QdM;simp [lt_n])]
 simp only [Option.bind_some]
 unfold Ql9
 simp only [List.append_assoc]
section
variable {m : Img}
theorem rbyB (h:okImg m) (b:List Int) (hb:b.length≤200000000):iter (QgJ m) (b,(0:Int))=some (b++catE QnC m.Brokers):=by
 have hc:=QfC QnC 100 m.Brokers fun b hb=>QrN (h.bk b hb).2.2.2.2.1
 have:=h.bl
 refine Qj4 QnC m.Brokers b (by omega) (fun i hi c hc2=> ?_) (fun c=>by unfold QgJ;simp [lt_n])
 have hk:=h.bk _ (List.getElem_mem hi)
 have:=(QgT hk.2.2.2.2.1).2
 have e1:=il m.Brokers[i].Id;have e2:=il m.Brokers[i].Epoch;have e3:=tl m.Brokers[i].Rack;have e4:=Qn3 m.Brokers[i].Fenced;have e5:=QcN m.Brokers[i].Rack;have e6:=Qn3 m.Brokers[i].Leaving
 unfold QgJ
 simp only [lt_i hi,if_true,QaT (in_i hi),Qa0 hi (show m.Brokers.length≤1000000000 by omega),QbA hi]
 rw [QgY _ (by omega),Option.bind_some,QaT (by omega),QgY _ (by omega),Option.bind_some,QaT (by (try simp only [List.length_append]);omega),Qt9 _ (by omega),Option.bind_some,QaT (by (try simp only [List.length_append]);omega),
  Q0I,Option.bind_some,QaT (by (try simp only [List.length_append]);omega),Q0I,Option.bind_some,QaT (by (try simp only [List.length_append]);omega)]
 unfold QnC
 simp only [List.append_assoc]
theorem rbyT (h:okImg m) (b:List Int) (hb:b.length≤100000000):iter (QgK m) (b,(0:Int))=some (b++catE Ql9 m.Topics):=by
 have he:∀ t∈m.Topics,(Ql9 t).length≤77000:=fun t ht=>by
  have:=QvK (h.tp t ht).2.2.1 (fun p hp=>h.part1 ht hp)
  have:=(h.tp t ht).2.2.2.1
  omega
 have hc:=QfC Ql9 77000 m.Topics he
 have hn:=h.tn
 refine Qj4 Ql9 m.Topics b (by omega) (fun i hi c hc2=> ?_) (fun c=>by unfold QgK;simp [lt_n])
 have ht:=h.tp _ (List.getElem_mem hi)
 have hl:=h.last
 have:=he _ (List.getElem_mem hi)
 unfold QgK
 simp only [lt_i hi,if_true,QaT (in_i hi),Qa0 hi (show m.Topics.length≤1000000000 by omega),QbA hi]
 rw [Q64 (by omega) ht.2.2.1 ht.2.2.2.1 ht.2.2.2.2,Option.bind_some,QaT (by omega)]
theorem rbyC (h:okImg m) (hcn:m.Configs.length≤100000) (b:List Int) (hb:b.length≤200000000):iter (QgL m) (b,(0:Int))=some (b++catE Qn6 m.Configs):=by
 have hc:=QfC Qn6 400 m.Configs fun c hc=>QvL (h.cf c hc).2.1 (h.cf c hc).2.2
 refine Qj4 Qn6 m.Configs b (by omega) (fun i hi c hc2=> ?_) (fun c=>by unfold QgL;simp [lt_n])
 have hk:=h.cf _ (List.getElem_mem hi)
 have h6:=h.i64 _ (List.getElem_mem hi)
 have:=(QgT hk.2.1).2
 have e1:=il m.Configs[i].Topic;have e3:=tl m.Configs[i].Key;have e4:=tl m.Configs[i].Value;have e5:=QcN m.Configs[i].Key;have e6:=QcN m.Configs[i].Value
 unfold i64 at h6
 unfold QgL
 simp only [lt_i hi,if_true,QaT (in_i hi),Qa0 hi (show m.Configs.length≤1000000000 by omega),QbA hi]
 rw [QgY _ (by omega),Option.bind_some,QaT (by omega),Qt9 _ (by omega),Option.bind_some,QaT (by (try simp only [List.length_append]);omega),Qt9 _ (by omega),Option.bind_some,QaT (by (try simp only [List.length_append]);omega)]
 unfold Qn6
 simp only [List.append_assoc]
theorem rbyD (h:okImg m) (b:List Int) (hb:b.length≤200000000):iter (QgM m) (b,(0:Int))=some (b++catE Qn7 m.Done):=by
 have hc:=QfC Qn7 30 m.Done fun d _=>QvM d
 have:=h.dl
 refine Qj4 Qn7 m.Done b (by omega) (fun i hi c hc2=> ?_) (fun c=>by unfold QgM;simp [lt_n])
 have hk:=h.dn _ (List.getElem_mem hi)
 have e1:=il m.Done[i].Client;have e2:=il m.Done[i].Serial;have e3:=il m.Done[i].Code
 unfold QgM
 simp only [lt_i hi,if_true,QaT (in_i hi),Qa0 hi (show m.Done.length≤1000000000 by omega),QbA hi]
 rw [QgY _ (by omega),Option.bind_some,QaT (by omega),QgY _ (by omega),Option.bind_some,QaT (by (try simp only [List.length_append]);omega),QgY _ (by omega),Option.bind_some,QaT (by (try simp only [List.length_append]);omega)]
 unfold Qn7
 simp only [List.append_assoc]
theorem Q5P (h:okImg m) (hcn:m.Configs.length≤1000) (hp:Qg3 m.Topics≤1000):QjM m=some (Qn8 m):=by
 have hlen:=QrP h hcn hp
 have hl:=h.last;have:=h.bl;have:=h.tn;have:=h.dl
 have hx:=hlen
 unfold Qn8 at hx
 simp only [List.length_append] at hx
 unfold QjM
 rw [QgY _ (by omega),Option.bind_some,QgY _ (by omega),Option.bind_some,QaT (by omega),
  rbyB h _ (by simp only [List.length_append];omega),Option.bind_some,Option.bind_some,QgY _ (by omega),Option.bind_some,QaT (by (try simp only [List.length_append]);omega),
  rbyT h _ (by simp only [List.length_append];omega),Option.bind_some,Option.bind_some,QgY _ (by omega),Option.bind_some,QaT (by (try simp only [List.length_append]);omega),
  rbyC h (by omega) _ (by simp only [List.length_append];omega),Option.bind_some,Option.bind_some,QgY _ (by omega),Option.bind_some,QaT (by (try simp only [List.length_append]);omega),
  rbyD h _ (by simp only [List.length_append];omega),Option.bind_some,Option.bind_some]
 unfold Qn8
 simp only [List.append_assoc]
end
theorem QxY (m:Img) (h:okI m):QiH m=some true:=by
 unfold QiH
 obtain ⟨b,hb,hl⟩:=Q5O h
 rw [hb,Option.bind_some]
 cases b
 ·rw [QzZ];rfl
 ·have hm:=hl rfl
  have hck:=QxO hm.lim hm.i6
  have hwr:=Q63 (r:=chkR m) (fun o a c k e=>Q59 e)
  rw [Q3T hm.lim hm.pts]
  simp only [Bool.not_true,Bool.false_eq_true,if_false]
  rcases e:chkR m with _ |⟨o,a,c,k⟩
  ·have ho:=Q8N e
   rw [e] at hwr
   rw [Q8P ho hm.cf hm.pn,Option.bind_some,Option.bind_some]
   simp only
   rw [show (GErr.nil)=toG none from rfl,hwr,Option.bind_some]
   have hl:=QrP ho hm.cf hm.pn
   simp only [toW,Bool.not_true,Bool.false_eq_true,if_false]
   rw [Q55 ho hm.cf hm.pn,Option.bind_some]
   simp only [Q5P ho hm.cf hm.pn,Q4I _ (show (Qn8 m).length≤274877906944 by omega),QzY hm.lim hm.pts,QzZ,GErr.isNil,Option.bind_some,if_true]
   exact if_neg (by decide)
  ·rw [e] at hwr hck
   have hc:=Q59 e
   have hn:(toG (some (o,a,c,k))).isNil=false:=by cases k<;>rfl
   rw [Q26 hck hn,Option.bind_some,Option.bind_some]
   simp only
   rw [hwr,Option.bind_some]
   simp only [toW,Bool.not_true,Bool.false_eq_true,if_false]
   refine(if_pos (decide_eq_true hc)).trans ?_
   rw [QzZ];rfl
end Go.Proofs.YtpcbipcdfccnnaaGreatDoor.G
