
import Derived.Test.YtfkmkgpoddbbfaaGreatDoorR0
import Derived.Test.YtfkmkgpoddbbfaaGreatDoorR1
import Derived.Test.YtfkmkgpoddbbfaaGreatDoorR2
import Derived.Test.YtfkmkgpoddbbfaaGreatDoorR3
import Derived.Test.YtfkmkgpoddbbfaaGreatDoorR4
import Derived.Test.YtfkmkgpoddbbfaaGreatDoorR5
import Derived.Test.YtfkmkgpoddbbfaaGreatDoorR6
import Derived.Test.YtfkmkgpoddbbfaaGreatDoorR7
import Derived.Test.YtfkmkgpoddbbfaaGreatDoorR8
import Derived.Test.YtfkmkgpoddbbfaaGreatDoorR9
import Derived.Test.YtfkmkgpoddbbfaaGreatDoorR10
import Derived.Test.YtfkmkgpoddbbfaaGreatDoorR11
import Derived.Test.YtfkmkgpoddbbfaaGreatDoorKArith
import Derived.KernelRfl
import Derived.OpenShut
import Derived.Test.YtfkmkgpoddbbfaaGreatDoorKConv
import Derived.Test.YtfkmkgpoddbbfaaGreatDoorKMap
import Derived.Lib.ConvBytes
import Derived.Laws.BytesArg
set_option linter.unusedSimpArgs false
set_option linter.unusedVariables false
set_option maxHeartbeats 8000000
namespace Go.Proofs.YtfkmkgpoddbbfaaGreatDoor.G
open Go Go.KK
def QvE:GErr→Option Int
 | .nil=>none
 | .code n=>some n
 | .fault _ _ e=>QvE e
 | .other _=>none
def OfE (e:GErr):Int:=match e with | .nil=>0 |e=>(QvE e).getD 21
def QxY:GErr→Int×Bool
 | .fault _ a _=>(a,true)
 |_=>(0,false)
@[simp] theorem Q8O:OfE .nil=0:=rfl
@[simp] theorem Q7C (n:Int):OfE (.code n)=n:=rfl
@[simp] theorem Q1S (o:ByteArray) (a n:Int):OfE (.fault o a (.code n))=n:=rfl
theorem QlC (old:Int):∀ (e:GErr),e.isNil=false→iter (QdP old) e=some (match QvE e with |some n=>(true,n) |none=>(false,old))
 | .nil,h=>by cases h
 | .code n,_=>Qa9 rfl
 | .other a,_=>Qa9 rfl
 | .fault o a e,_=>by
  cases e with
  |nil=>exact Qa9 rfl
  |code n=>rw [Qc0 (show QdP old (.fault o a (.code n))=some (.inl (.code n)) from rfl)];exact Qa9 rfl
  |other b=>rw [Qc0 (show QdP old (.fault o a (.other b))=some (.inl (.other b)) from rfl)];exact Qa9 rfl
  |fault p b e=>rw [Qc0 (show QdP old (.fault o a (.fault p b e))=some (.inl (.fault p b e)) from rfl),QlC old (.fault p b e) rfl];rfl
theorem Q3B (e:GErr):QjI e=some (OfE e):=by
 cases e with
 |nil=>rfl
 |code n=>unfold QjI QeY QeX;rw [QlC _ _ rfl];rfl
 |other a=>unfold QjI QeY QeX;rw [QlC _ _ rfl];rfl
 |fault o a e=>
  unfold QjI QeY QeX
  rw [QlC _ _ rfl]
  simp only [GErr.isNil,OfE]
  cases QvE (.fault o a e)<;>rfl
theorem QmN (old:QbP) (e:GErr):QdF e old=some (match e with | .fault o a e=>(true,o,a,e) |_=>(false,old.Op,old.At,old.Err)):=by
 cases e with
 |nil=>rfl
 |code n=>unfold QdF QeH;rw [Qa9 (show Qd5 old (.code n)=some (.inr _) from rfl)];rfl
 |other a=>unfold QdF QeH;rw [Qa9 (show Qd5 old (.other a)=some (.inr _) from rfl)];rfl
 |fault o a e=>unfold QdF QeH;rw [Qa9 (show Qd5 old (.fault o a e)=some (.inr _) from rfl)];rfl
theorem Qt9 (e:GErr):QiS e=some (QxY e):=by
 unfold QiS
 rw [QmN]
 cases e<;>rfl
theorem QxZ (o:ByteArray) (a c:Int):QdQ o a c=some (.fault o a (.code c)):=rfl
def QkR:GErr→List ByteArray
 | .fault o _ e=>o::QkR e
 |_=>[]
theorem Qx0:∀ (e:GErr) (l:List ByteArray),l.length+(QkR e).length≤274877906944→iter QdX (e,l)=some (l++QkR e)
 | .nil,l,_=>(Qa9 (by unfold QdX;rfl)).trans (by simp [QkR])
 | .code n,l,_=>(Qa9 (e:=l) (by
   unfold QdX
   simp only [GErr.isNil,Bool.not_false,if_true,QmN,Option.bind_some])).trans (by simp [QkR])
 | .other n,l,_=>(Qa9 (e:=l) (by
   unfold QdX
   simp only [GErr.isNil,Bool.not_false,if_true,QmN,Option.bind_some])).trans (by simp [QkR])
 | .fault o a e,l,h=>by
  have hstep:QdX (.fault o a e,l)=some (.inl (e,l++[o])):=by
   unfold QdX
   simp only [GErr.isNil,Bool.not_false,if_true,QmN,Option.bind_some,Bool.not_true,Bool.false_eq_true,if_false]
   rw [QbW (by simp [QkR] at h⊢;omega)]
  rw [Qc0 hstep,Qx0 e (l++[o]) (by simp [QkR] at h⊢;omega)]
  simp [QkR]
theorem Q4V (e:GErr) (h:(QkR e).length≤274877906944):QjX e=some (QkR e):=by
 unfold QjX
 rw [Qx0 e [] (by simpa using h)]
 simp
open Classical in
theorem Qv8 (op:ByteArray) (l:List ByteArray) (hl:l.length≤274877906944):∀ (d i:Nat),i+d=l.length→iter (Qd1 op l) (i:Int)=some (if op∈l.drop i then .inr ()else .inl ())
 |0,i,h=>by
  refine Qa9 ?_
  unfold Qd1
  simp only
  rw [if_neg (fun q=>absurd (of_decide_eq_true q) (by omega)),List.drop_of_length_le (by omega),if_neg (by simp)]
 |d+1,i,h=>by
  have hlt:i<l.length:=by omega
  have e1:rd l (i:Int)=l[i]:=QbT hlt
  by_cases g:l[i]=op
  ·refine Qa9 ?_
   unfold Qd1
   simp only
   rw [if_pos (decide_eq_true (by omega)),QbW ⟨by omega,by omega⟩,e1,if_pos (decide_eq_true g),List.drop_eq_getElem_cons hlt,if_pos (by simp [g])]
  ·have hstep:Qd1 op l (i:Int)=some (.inl ((i+1:Nat):Int)):=by
    unfold Qd1
    simp only
    rw [if_pos (decide_eq_true (by omega)),QbW ⟨by omega,by omega⟩,e1,if_neg (fun q=>g (of_decide_eq_true q)),QfP (by omega) (by omega)]
    rfl
   rw [Qc0 hstep,Qv8 op l hl d (i+1) (by omega),List.drop_eq_getElem_cons hlt]
   have:(op∈l[i]::l.drop (i+1))↔op∈l.drop (i+1):=by
    simp only [List.mem_cons]
    exact⟨fun q=>q.elim (fun q=>absurd q.symm g) id, .inr⟩
   simp only [this]
open Classical in
theorem QuA (e:GErr) (op:ByteArray) (h:(QkR e).length≤274877906944):QiT e op=some (decide (op∈QkR e)):=by
 unfold QiT
 rw [Q4V e h]
 simp only [Option.bind_some]
 have:=Qv8 op (QkR e) h (QkR e).length 0 (by omega)
 rw [show ((0:Nat):Int)=0 from rfl] at this
 rw [this,List.drop_zero]
 by_cases g:op∈QkR e
 ·rw [if_pos g,decide_eq_true g];rfl
 ·rw [if_neg g,decide_eq_false g];rfl
theorem rdn {α:Type}[Inhabited α]{xs:List α}{i:Nat}(h:i<xs.length):rd xs (i:Int)=xs[i]:=QbT h
def okB (l:List Int):Prop:=∀ x∈l,0≤x∧x≤255
theorem okB.nil:okB []:=fun _ h=>by cases h
theorem okB.append {a b:List Int}(h:okB a) (k:okB b):okB (a++b):=fun x hx=>(List.mem_append.1 hx).elim (h x) (k x)
theorem okB.at {l:List Int}(h:okB l){i:Nat}(hi:i<l.length):0≤rd l (i:Int)∧rd l (i:Int)≤255:=by
 rw [rdn hi];exact h _ (List.getElem_mem hi)
theorem okB.drop {l:List Int}(h:okB l) (n:Nat):okB (l.drop n):=fun x hx=>h x (List.mem_of_mem_drop hx)
theorem okB.take {l:List Int}(h:okB l) (n:Nat):okB (l.take n):=fun x hx=>h x (List.mem_of_mem_take hx)
theorem Q4W (b:List Int) (i:Nat):sub b (i:Int) (b.length:Int)=b.drop i:=by
 unfold sub
 rw [show ((i:Int)).toNat=i by omega,show ((b.length:Int)).toNat=b.length by omega]
 exact List.take_of_length_le (by simp)
theorem Q1T {α:Type}(b:List α) (i j:Nat):sub b (i:Int) (j:Int)=(b.drop i).take (j - i):=by
 unfold sub
 rw [show ((i:Int)).toNat=i by omega,show ((j:Int)).toNat=j by omega]
theorem Q1U (b:List Int) (i j:Nat):rd (b.drop i) (j:Int)=rd b ((i+j:Nat):Int):=by
 unfold rd
 rw [show ((j:Int)).toNat=j by omega,show (((i+j:Nat):Int)).toNat=i+j by omega]
 simp [List.getD_eq_getElem?_getD]
theorem Qy9 {a b:Int}(h:0<b):a.fdiv b=a/b:=Int.fdiv_eq_ediv_of_nonneg _ (Int.le_of_lt h)
theorem shr8 (n:Int) (k:Nat) (hk:k+8≤64):shrI .u64 n ((k+8:Nat):Int)=shrI .u64 n (k:Int)/256:=by
 unfold shrI
 rw [show min (((k+8:Nat):Int)).toNat IntKind.u64.bits=k+8 by show min _ 64=_;omega,show min ((k:Int)).toNat IntKind.u64.bits=k by show min _ 64=_;omega]
 rw [Qy9 (Int.pow_pos (by decide)),Qy9 (Int.pow_pos (by decide)),Int.pow_add]
 exact(Int.ediv_ediv_of_nonneg (Int.pow_nonneg (by decide))).symm
theorem shr0 (n:Int):shrI .u64 n (0:Int)=n:=by
 unfold shrI
 show n.fdiv (2^0)=n
 rw [Qy9 (by decide)]
 omega
theorem s8 (n:Int):shrI .u64 n 8=n/256:=by have:=shr8 n 0 (by decide);rw [show ((0:Nat):Int)=0 from rfl,shr0] at this;exact this
theorem s16 (n:Int):shrI .u64 n 16=n/256/256:=by have:=shr8 n 8 (by decide);rw [show ((8:Nat):Int)=8 from rfl,s8] at this;exact this
theorem s24 (n:Int):shrI .u64 n 24=n/256/256/256:=by have:=shr8 n 16 (by decide);rw [show ((16:Nat):Int)=16 from rfl,s16] at this;exact this
theorem s32 (n:Int):shrI .u64 n 32=n/256/256/256/256:=by have:=shr8 n 24 (by decide);rw [show ((24:Nat):Int)=24 from rfl,s24] at this;exact this
theorem s40 (n:Int):shrI .u64 n 40=n/256/256/256/256/256:=by have:=shr8 n 32 (by decide);rw [show ((32:Nat):Int)=32 from rfl,s32] at this;exact this
theorem s48 (n:Int):shrI .u64 n 48=n/256/256/256/256/256/256:=by have:=shr8 n 40 (by decide);rw [show ((40:Nat):Int)=40 from rfl,s40] at this;exact this
theorem s56 (n:Int):shrI .u64 n 56=n/256/256/256/256/256/256/256:=by have:=shr8 n 48 (by decide);rw [show ((48:Nat):Int)=48 from rfl,s48] at this;exact this
theorem Q6D:∀ x:Fin 64,orI .u8 64 (x.val:Int)=64+x.val∧orI .u8 128 (x.val:Int)=128+x.val∧orI .u8 192 (x.val:Int)=192+x.val:=by decide+kernel
theorem or64 {x:Int}(h0:0≤x) (h1:x<64):orI .u8 64 x=64+x∧orI .u8 128 x=128+x∧orI .u8 192 x=192+x:=by
 have:=Q6D ⟨x.toNat,by omega⟩
 simp only [show ((x.toNat:Nat):Int)=x by omega] at this
 exact this
theorem Q3C:∀ x:Fin 256,andI .u8 (x.val:Int) 63=(x.val:Int) % 64∧shrI .u8 (x.val:Int) 6=(x.val:Int)/64:=by decide+kernel
theorem QzA {x:Int}(h0:0≤x) (h1:x≤255):andI .u8 x 63=x % 64∧shrI .u8 x 6=x/64:=by
 have:=Q3C ⟨x.toNat,by omega⟩
 simp only [show ((x.toNat:Nat):Int)=x by omega] at this
 exact this
theorem Qw5:shlI .i64 1 0=1∧shlI .i64 1 1=2∧shlI .i64 1 2=4∧shlI .i64 1 3=8:=by decide+kernel
theorem Q8P {n b:Int}(h0:0≤n) (h1:n<72057594037927936) (b0:0≤b) (b1:b≤255):orI .u64 (shlI .u64 n 8) (IntKind.u64.wrap b)=n*256+b:=by
 rw [QqB b0 (by omega)]
 have e1:shlI .u64 n 8=n*256:=by
  unfold shlI
  show IntKind.u64.wrap (n*2^8)=_
  rw [QqB (by omega) (by omega)];omega
 rw [e1]
 obtain ⟨N,rfl⟩:=Int.eq_ofNat_of_zero_le h0
 obtain ⟨B,rfl⟩:=Int.eq_ofNat_of_zero_le b0
 unfold orI
 show IntKind.u64.wrap (((BitVec.ofInt 64 ((N:Int)*256)) |||(BitVec.ofInt 64 (B:Int))).toNat:Int)=_
 have e2:(BitVec.ofInt 64 ((N:Int)*256)).toNat=N*256:=by
  rw [show ((N:Int)*256)=((N*256:Nat):Int) by omega,BitVec.ofInt_natCast,BitVec.toNat_ofNat]
  exact Nat.mod_eq_of_lt (by omega)
 have e3:(BitVec.ofInt 64 (B:Int)).toNat=B:=by
  rw [BitVec.ofInt_natCast,BitVec.toNat_ofNat]
  exact Nat.mod_eq_of_lt (by omega)
 rw [BitVec.toNat_or,e2,e3]
 have e4:N*256 |||B=N*256+B:=by
  have:=Nat.shiftLeft_add_eq_or_of_lt (a:=N) (b:=B) (i:=8) (by omega)
  rw [Nat.shiftLeft_eq] at this
  exact this.symm
 rw [e4,QqB (by omega) (by omega)]
 omega
def top:Int:=4611686018427387903
def Qx1 (n:Int):Int:=if top<n then top else n
def numC (k:Int):List Int:=
 if k<64 then[k]
 else if k<16384 then[64+k/256,k % 256]
 else if k<1073741824 then[128+k/256/256/256,k/256/256 % 256,k/256 % 256,k % 256]
 else[192+k/256/256/256/256/256/256/256,k/256/256/256/256/256/256 % 256,k/256/256/256/256/256 % 256,k/256/256/256/256 % 256,k/256/256/256 % 256,k/256/256 % 256,k/256 % 256,k % 256]
def numB (n:Int):List Int:=numC (Qx1 n)
theorem Q3D {n:Int}(h:0≤n):0≤Qx1 n∧Qx1 n≤top:=by
 unfold Qx1 top
 split<;>constructor<;>(try unfold top at*)<;>omega
theorem Q3E (k:Int):(numC k).length≤8∧1≤(numC k).length:=by
 unfold numC
 split
 ·simp
 split
 ·simp
 split<;>simp
theorem Q3F (n:Int):(numB n).length≤8∧1≤(numB n).length:=Q3E _
theorem Q4X (b:List Int) (n:Int) (h0:0≤n) (hb:b.length≤274877900000):QlX b n=some (b++numB n):=by
 have hc:=Q3D h0
 unfold QlX numB
 rw [show (if(4611686018427387903:Int)<n then(4611686018427387903:Int)else n)=Qx1 n from rfl]
 generalize Qx1 n=k at hc
 unfold top at hc
 unfold numC
 by_cases h1:k<64
 ·rw [if_pos (decide_eq_true h1),if_pos h1,QbW (by simp;omega),w_u8 (by omega) (by omega)]
 rw [if_neg (fun q=>h1 (of_decide_eq_true q)),if_neg h1]
 have m0:IntKind.u8.wrap k=k % 256:=QqC k
 by_cases h2:k<16384
 ·have e1:IntKind.u8.wrap (shrI .u64 k 8)=k/256:=by rw [s8,w_u8 (by omega) (by omega)]
  rw [if_pos (decide_eq_true h2),if_pos h2,QbW (by simp;omega),e1,m0,(or64 (x:=k/256) (by omega) (by omega)).1]
 rw [if_neg (fun q=>h2 (of_decide_eq_true q)),if_neg h2]
 by_cases h3:k<1073741824
 ·have e1:IntKind.u8.wrap (shrI .u64 k 24)=k/256/256/256:=by rw [s24,w_u8 (by omega) (by omega)]
  rw [if_pos (decide_eq_true h3),if_pos h3,QbW (by simp;omega),e1,m0,s16,s8,QqC,QqC,(or64 (x:=k/256/256/256) (by omega) (by omega)).2.1]
 ·have e1:IntKind.u8.wrap (shrI .u64 k 56)=k/256/256/256/256/256/256/256:=by rw [s56,w_u8 (by omega) (by omega)]
  rw [if_neg (fun q=>h3 (of_decide_eq_true q)),if_neg h3,QbW (by simp;omega),e1,m0,s48,s40,s32,s24,s16,s8,QqC,QqC,QqC,QqC,QqC,QqC,
   (or64 (x:=k/256/256/256/256/256/256/256) (by omega) (by omega)).2.2]
def intB (n:Int):List Int:=numB (if n<0 then 0 else n)
theorem Qi7 (n:Int):(intB n).length≤8∧1≤(intB n).length:=Q3F _
theorem QgZ (b:List Int) (n:Int) (hn:n≤9223372036854775807) (hb:b.length≤274877900000):QcL b n=some (b++intB n):=by
 unfold QcL intB
 have h:0≤(if n<0 then(0:Int)else n)∧(if n<0 then(0:Int)else n)≤9223372036854775807:=by split<;>omega
 rw [QqB h.1 (by omega),Q4X b _ h.1 hb]
 rfl
def QvX (is:Bool):List Int:=if is=true then[1]else[0]
theorem Qz1 (b:List Int) (is:Bool) (hb:b.length≤274877900000):QjJ b is=some (b++QvX is):=by
 unfold QjJ QvX
 cases is
 ·rw [if_neg (by decide),QbW (by simp only [List.length_singleton];omega)];rfl
 ·rw [if_pos rfl,QbW (by simp only [List.length_singleton];omega)];rfl
def QnD (s:List Int):List Int:=intB (s.length:Int)++s
theorem QuB (b s:List Int) (hb:b.length+s.length≤274877800000):QhH b s=some (b++QnD s):=by
 unfold QhH QnD
 rw [QgZ b _ (by omega) (by omega)]
 simp only [Option.bind_some]
 have:=Qi7 (s.length:Int)
 rw [QbW (by simp;omega),List.append_assoc]
def QvY (l:List Int):List Int:=(l.map intB).flatten
theorem Qv9 (x:Int) (l:List Int):QvY (x::l)=intB x++QvY l:=rfl
def rowB (l:List Int):List Int:=intB (l.length:Int)++QvY l
theorem Qx2:∀ (l:List Int),(QvY l).length≤8*l.length
 |[]=>by simp [QvY]
 |x::l=>by
  have h1:=Qx2 l
  have h2:=(Qi7 x).1
  simp only [QvY,List.map_cons,List.flatten_cons,List.length_append,List.length_cons] at*
  omega
theorem Qx3 (l:List Int) (hl:∀ x∈l,x≤9223372036854775807) (hn:l.length≤1000000):∀ (d i:Nat) (b:List Int),i+d=l.length→b.length+8*d≤274877900000→
  iter (QhX l) (b,(i:Int))=some (b++QvY (l.drop i))
 |0,i,b,hi,hb=>by
  rw [List.drop_of_length_le (by omega)]
  refine Qa9 ?_
  unfold QhX
  simp only
  rw [if_neg (fun q=>absurd (of_decide_eq_true q) (by omega))]
  simp [QvY]
 |d+1,i,b,hi,hb=>by
  have hlt:i<l.length:=by omega
  have hstep:QhX l (b,(i:Int))=some (.inl (b++intB l[i],((i+1:Nat):Int))):=by
   unfold QhX
   simp only
   rw [if_pos (decide_eq_true (by omega)),QbW ⟨by omega,by omega⟩,rdn hlt,QgZ _ _ (hl _ (List.getElem_mem hlt)) (by omega),QfP (by omega) (by omega)]
   rfl
  rw [Qc0 hstep,Qx3 l hl hn d (i+1) _ (by omega) (by have:=(Qi7 l[i]).1;simp;omega),List.drop_eq_getElem_cons hlt,Qv9,List.append_assoc]
theorem Qw6 (b l:List Int) (hl:∀ x∈l,x≤9223372036854775807) (hn:l.length≤1000000) (hb:b.length≤274800000000):QiL b l=some (b++rowB l):=by
 unfold QiL rowB
 rw [QgZ b _ (by omega) (by omega)]
 simp only [Option.bind_some]
 have h:=Qx3 l hl hn l.length 0 (b++intB (l.length:Int)) (by omega) (by have:=(Qi7 (l.length:Int)).1;simp;omega)
 rw [show ((0:Nat):Int)=0 from rfl] at h
 rw [h]
 simp
theorem Q4Y (k:Int):QiM k=some (if k<64 then 1 else if k<16384 then 2 else if k<1073741824 then 4 else 8):=by
 unfold QiM
 by_cases h1:k<64
 ·rw [if_pos (decide_eq_true h1),if_pos h1]
 rw [if_neg (fun q=>h1 (of_decide_eq_true q)),if_neg h1]
 by_cases h2:k<16384
 ·rw [if_pos (decide_eq_true h2),if_pos h2]
 rw [if_neg (fun q=>h2 (of_decide_eq_true q)),if_neg h2]
 by_cases h3:k<1073741824
 ·rw [if_pos (decide_eq_true h3),if_pos h3]
 rw [if_neg (fun q=>h3 (of_decide_eq_true q)),if_neg h3]
theorem QwA (l:List Int) (hl:l.length≤274877906944):∀ (d m:Nat),m+d=l.length→iter (QfY l l) (m:Int)=some (.inl ())
 |0,m,hm=>by
  refine Qa9 ?_
  unfold QfY
  simp only
  rw [if_neg (fun q=>absurd (of_decide_eq_true q) (by omega))]
 |d+1,m,hm=>by
  have hstep:QfY l l (m:Int)=some (.inl ((m+1:Nat):Int)):=by
   unfold QfY
   simp only
   rw [if_pos (decide_eq_true (by omega)),QbW ⟨by omega,by omega⟩,QbW ⟨by omega,by omega⟩,QfP (by omega) (by omega)]
   simp
  rw [Qc0 hstep]
  exact QwA l hl d (m+1) (by omega)
theorem Q3G (l:List Int) (hl:l.length≤274877906944):QjY l l=some true:=by
 unfold QjY
 have h:=QwA l hl l.length 0 (by omega)
 rw [show ((0:Nat):Int)=0 from rfl] at h
 rw [h,if_neg (by simp)]
 rfl
def accN (b:List Int) (a:Nat):Nat→Int
 |0=>rd b (a:Int) % 64
 |i+1=>accN b a i*256+rd b ((a+(i+1):Nat):Int)
def capN:Nat→Int
 |0=>63
 |i+1=>capN i*256+255
theorem Q4Z:∀ i:Fin 8,capN i.val≤top:=by decide
theorem Qz2:∀ i:Fin 7,capN i.val≤18014398509481983:=by decide
theorem QrI {b:List Int}(hb:okB b){a:Nat}:∀ i:Nat,a+i<b.length→0≤accN b a i∧accN b a i≤capN i
 |0,h=>by
  have:=hb.at (i:=a) (by omega)
  simp only [accN,capN]
  omega
 |i+1,h=>by
  have h1:=QrI (a:=a) hb i (by omega)
  have h2:=hb.at (i:=a+(i+1)) h
  simp only [accN,capN]
  omega
def Qi8 (h:Int):Nat:=if h/64=0 then 1 else if h/64=1 then 2 else if h/64=2 then 4 else 8
def QoC (n:Int):Nat:=if n<64 then 1 else if n<16384 then 2 else if n<1073741824 then 4 else 8
def numR (b:List Int) (a:Nat) (most:Int):Int⊕(Int×Nat):=
 if b.length≤a then .inl 3
 else if b.length<a+Qi8 (rd b (a:Int))then .inl 3
 else if QoC (accN b a (Qi8 (rd b (a:Int))- 1))≠Qi8 (rd b (a:Int))then .inl 5
 else if most<accN b a (Qi8 (rd b (a:Int))- 1)then .inl 6
 else .inr (accN b a (Qi8 (rd b (a:Int))- 1),a+Qi8 (rd b (a:Int)))
theorem Q3H (k:Int):QiM k=some ((QoC k:Nat):Int):=by
 rw [Q4Y]
 unfold QoC
 split
 ·rfl
 split
 ·rfl
 split<;>rfl
theorem Qz3 (h:Int):Qi8 h≤8∧1≤Qi8 h:=by
 unfold Qi8
 split
 ·simp
 split
 ·simp
 split<;>simp
abbrev Qt2:ByteArray:=⟨#[110,117,109]⟩
theorem Q1V {b:List Int}(hb:okB b) (hl:b.length≤1000000000000){a:Nat}{s:QaB}(hs:s.At=(a:Int)) (k:Nat) (hk:a+k≤b.length) (hk8:k≤8):∀ (d i:Nat),i+1+d=k→
  iter (QgV b s (k:Int)) (accN b a i,((i+1:Nat):Int))=some (accN b a (k - 1))
 |0,i,h=>by
  refine Qa9 ?_
  unfold QgV
  simp only
  rw [if_neg (fun q=>absurd (of_decide_eq_true q) (by omega)),show k - 1=i by omega]
 |d+1,i,h=>by
  have hb1:=QrI (a:=a) hb i (by omega)
  have hb2:=Qz2 ⟨i,by omega⟩
  have hb3:=hb.at (i:=a+(i+1)) (by omega)
  have ea:IntKind.i64.wrap (s.At+((i+1:Nat):Int))=((a+(i+1):Nat):Int):=by rw [hs,QfP (by omega) (by omega)];omega
  simp only at hb2
  have hstep:QgV b s (k:Int) (accN b a i,((i+1:Nat):Int))=some (.inl (accN b a (i+1),((i+1+1:Nat):Int))):=by
   unfold QgV
   simp only
   rw [if_pos (decide_eq_true (by omega)),ea,QbW ⟨by omega,by omega⟩,QqB (n:=accN b a i*256) (by omega) (by omega),QqB (n:=rd b ((a+(i+1):Nat):Int)) (by omega) (by omega),QqB (by omega) (by omega),QfP (by omega) (by omega)]
   rfl
  rw [Qc0 hstep]
  exact Q1V hb hl hs k hk hk8 d (i+1) (by omega)
theorem Q40 {h:Int}(h0:0≤h) (h1:h≤255):iter QlM ((1:Int),IntKind.u8.wrap (h.tdiv 64))=some ((Qi8 h:Nat):Int):=by
 rw [Int.tdiv_eq_ediv_of_nonneg h0,w_u8 (by omega) (by omega)]
 have hq:h/64=0∨h/64=1∨h/64=2∨h/64=3:=by omega
 unfold Qi8
 rcases hq with q |q |q |q<;>rw [q]
 ·exact Qt7 2 rfl
 ·exact Qt7 3 rfl
 ·exact Qt7 4 rfl
 ·exact Qt7 5 rfl
theorem Qp5 (s:QaB) (h:s.Code=0) (o:ByteArray) (a c:Int):QdV s o a c=some ⟨s.At,c,o,a⟩:=by
 unfold QdV
 rw [if_neg (fun q=>absurd h (of_decide_eq_true q))]
def numS (b:List Int) (a:Nat) (most:Int):QaB×Int:=
 match numR b a most with
 | .inl c=>(⟨(a:Int),c,Qt2,(a:Int)⟩,0)
 | .inr (n,a')=>(⟨(a':Int),0,⟨#[]⟩,0⟩,n)
theorem QrJ {b:List Int}(hb:okB b) (hl:b.length≤1000000000000){a:Nat}{s:QaB}(hs:s.At=(a:Int)) (hc:s.Code=0) (most:Int):QhK b s most=some (numS b a most):=by
 unfold QhK numS numR
 rw [if_neg (fun q=>absurd hc (of_decide_eq_true q)),hs]
 by_cases g1:b.length≤a
 ·rw [if_pos (decide_eq_true (by omega)),if_pos g1,Qp5 s hc,hs];rfl
 rw [if_neg (fun q=>absurd (of_decide_eq_true q) (by omega)),if_neg g1,QbW ⟨by omega,by omega⟩]
 have hB:=hb.at (i:=a) (by omega)
 rw [Q40 hB.1 hB.2]
 have hK:=Qz3 (rd b (a:Int))
 generalize hkk:Qi8 (rd b (a:Int))=k at hK
 simp only [Option.bind_some]
 have ea:IntKind.i64.wrap ((a:Int)+(k:Int))=((a+k:Nat):Int):=by rw [QfP (by omega) (by omega)];omega
 rw [ea]
 by_cases g2:b.length<a+k
 ·rw [if_pos (decide_eq_true (by omega)),if_pos g2,Qp5 s hc,hs];rfl
 rw [if_neg (fun q=>absurd (of_decide_eq_true q) (by omega)),if_neg g2,QbW ⟨by omega,by omega⟩]
 have e0:IntKind.u64.wrap ((rd b (a:Int)).tmod 64)=accN b a 0:=by
  rw [Int.tmod_eq_emod_of_nonneg hB.1,QqB (by omega) (by omega)];rfl
 have hloop:=Q1V hb hl hs k (by omega) (by omega) (k - 1) 0 (by omega)
 rw [show ((0+1:Nat):Int)=1 from rfl] at hloop
 rw [e0,hloop]
 simp only [Option.bind_some,Q3H]
 by_cases g3:QoC (accN b a (k - 1))=k
 ·rw [if_neg (fun q=>absurd (of_decide_eq_true q) (by omega)),if_neg (show¬ (QoC (accN b a (k - 1))≠k) from fun q=>q g3)]
  by_cases g4:most<accN b a (k - 1)
  ·rw [if_pos (decide_eq_true g4),if_pos g4,Qp5 s hc,hs];rfl
  ·rw [if_neg (fun q=>g4 (of_decide_eq_true q)),if_neg g4]
 ·rw [if_pos (decide_eq_true (by omega)),if_pos g3,Qp5 s hc,hs];rfl
theorem Q3I (b:List Int) (a:Int) (e:GErr) (h:e.isNil=false) (o:ByteArray) (at_ c:Int):QbI ⟨b,a,e⟩ o at_ c=some e:=by
 unfold QbI
 simp only [h]
 rfl
theorem QvF {b:List Int}(hb:okB b){a i:Nat}(h:a+(i+1)<b.length) (hi:i≤6) (hl:b.length≤1000000000000):QaU (accN b a i) (b.drop a) ((i+1:Nat):Int)=some (accN b a (i+1),((i+2:Nat):Int)):=by
 have hb1:=QrI (a:=a) hb i (by omega)
 have hb2:=Qz2 ⟨i,by omega⟩
 have hb3:=hb.at (i:=a+(i+1)) h
 simp only at hb2
 unfold QaU
 rw [QbW ⟨by omega,by simp;omega⟩,Q1U,Q8P (by omega) (by omega) hb3.1 hb3.2,QfP (by omega) (by omega)]
 rfl
theorem Q3J {h:Int}(h0:0≤h) (h1:h≤255):shlI .i64 1 (shrI .u8 h 6)=((Qi8 h:Nat):Int):=by
 rw [(QzA h0 h1).2]
 have hq:h/64=0∨h/64=1∨h/64=2∨h/64=3:=by omega
 unfold Qi8
 rcases hq with q |q |q |q<;>rw [q]
 ·exact Qw5.1
 ·exact Qw5.2.1
 ·exact Qw5.2.2.1
 ·exact Qw5.2.2.2
theorem QzB (h:Int):Qi8 h=1∨Qi8 h=2∨Qi8 h=4∨Qi8 h=8:=by
 unfold Qi8
 split
 ·simp
 split
 ·simp
 split<;>simp
def Q1W (k:Nat):Int:=if k=8 then 1073741824 else if k=4 then 16384 else if k=2 then 64 else 0
def numP (b:List Int) (a:Nat) (most:Int):Int×Int×GErr:=
 match numR b a most with
 | .inl c=>(0,(a:Int), .fault Qt2 (a:Int) (.code c))
 | .inr (n,a')=>(n,(a':Int), .nil)
theorem Q1X (b:List Int) (a k:Nat) (most n:Int) (hk:k=1∨k=2∨k=4∨k=8) (hn:0≤n) (hc:n≤capN (k - 1)) (ha:a+k≤b.length) (hl:b.length≤1000000000000):
  (if(decide (n<Q1W k))=true then((QbI ⟨b,(a:Int), .nil⟩ Qt2 (a:Int) 5).bind fun(r103:GErr)=>(some ((0:Int),(a:Int),r103)))else(if(decide (most<n))=true then((QbI ⟨b,(a:Int), .nil⟩ Qt2 (a:Int) 6).bind fun(r108:GErr)=>(some ((0:Int),(a:Int),r108)))else(some (n,IntKind.i64.wrap ((a:Int)+(k:Int)),GErr.nil))))=
  some (match(if QoC n≠k then Sum.inl 5 else if most<n then Sum.inl 6 else Sum.inr (n,a+k):Int⊕(Int×Nat))with
   | .inl c=>(0,(a:Int), .fault Qt2 (a:Int) (.code c))
   | .inr (n,a')=>(n,(a':Int), .nil)):=by
 have hs:(n<Q1W k)↔QoC n≠k:=by
  unfold Q1W QoC
  rcases hk with rfl |rfl |rfl |rfl
  ·have:capN (1 - 1)=63:=rfl
   simp;omega
  ·have:capN (2 - 1)=16383:=rfl
   simp
   constructor
   ·intro h;rw [if_pos h];decide
   ·intro h
    by_cases g:n<64
    ·exact g
    ·rw [if_neg g,if_pos (by omega)] at h;exact absurd rfl h
  ·have:capN (4 - 1)=1073741823:=rfl
   simp
   constructor
   ·intro h
    by_cases g:n<64
    ·rw [if_pos g];decide
    ·rw [if_neg g,if_pos h];decide
   ·intro h
    by_cases g:n<16384
    ·exact g
    ·rw [if_neg (by omega),if_neg g,if_pos (by omega)] at h;exact absurd rfl h
  ·simp
   constructor
   ·intro h
    by_cases g:n<64
    ·rw [if_pos g];decide
    ·rw [if_neg g]
     by_cases g2:n<16384
     ·rw [if_pos g2];decide
     ·rw [if_neg g2,if_pos h];decide
   ·intro h
    by_cases g:n<1073741824
    ·exact g
    ·rw [if_neg (by omega),if_neg (by omega),if_neg g] at h;exact absurd rfl h
 have hk8:k≤8:=by omega
 by_cases g3:QoC n≠k
 ·rw [if_pos (decide_eq_true (hs.2 g3)),if_pos g3];rfl
 ·rw [if_neg (fun q=>g3 (hs.1 (of_decide_eq_true q))),if_neg g3]
  by_cases g4:most<n
  ·rw [if_pos (decide_eq_true g4),if_pos g4];rfl
  ·rw [if_neg (fun q=>g4 (of_decide_eq_true q)),if_neg g4,QfP (by omega) (by omega)];rfl
theorem Q1Y {b:List Int}(hb:okB b) (hl:b.length≤1000000000000){a:Nat}(ha:a≤b.length) (most:Int):QdR ⟨b,(a:Int), .nil⟩ most=some (numP b a most):=by
 unfold QdR numP numR
 simp only [Q4W]
 rw [if_neg (show¬ ((!GErr.isNil GErr.nil)=true) from by decide),QbW ⟨by omega,by omega,by omega⟩]
 by_cases g1:b.length≤a
 ·rw [if_pos (decide_eq_true (by simp;omega)),if_pos g1];rfl
 have hB:=hb.at (i:=a) (by omega)
 have e0:rd (b.drop a) 0=rd b (a:Int):=Q1U b a 0
 have hK:=QzB (rd b (a:Int))
 have eN:IntKind.u64.wrap (andI .u8 (rd b (a:Int)) 63)=accN b a 0:=by
  rw [(QzA hB.1 hB.2).1,QqB (by omega) (by omega)];rfl
 have hsh:0≤shrI .u8 (rd b (a:Int)) 6:=by rw [(QzA hB.1 hB.2).2];omega
 rw [if_neg (fun q=>absurd (of_decide_eq_true q) (by simp;omega)),if_neg g1,QbW ⟨by omega,by simp;omega⟩]
 simp only [e0,Q3J hB.1 hB.2,eN]
 rw [QbW hsh]
 generalize hkk:Qi8 (rd b (a:Int))=k at hK
 by_cases g2:b.length<a+k
 ·rw [if_pos (decide_eq_true (by simp;omega)),if_pos g2];rfl
 rw [if_neg (fun q=>absurd (of_decide_eq_true q) (by simp;omega)),if_neg g2,QbW ⟨by omega,by simp;omega⟩]
 have hbn:0≤accN b a (k - 1)∧accN b a (k - 1)≤capN (k - 1):=QrI hb (k - 1) (by omega)
 have tail:=Q1X b a k most (accN b a (k - 1)) hK hbn.1 hbn.2 (by omega) hl
 rcases hK with rfl |rfl |rfl |rfl
 ·rw [if_neg (by decide),if_neg (by decide),if_neg (by decide)]
  exact tail
 ·have n1:QaU (accN b a 0) (b.drop a) 1=some (accN b a 1,2):=QvF hb (i:=0) (by omega) (by decide) hl
  rw [if_neg (by decide),if_neg (by decide),if_pos (by decide)]
  simp only [Option.bind_some,Sum.elim_inl,Sum.elim_inr,n1]
  exact tail
 ·have n1:QaU (accN b a 0) (b.drop a) 1=some (accN b a 1,2):=QvF hb (i:=0) (by omega) (by decide) hl
  have n2:QaU (accN b a 1) (b.drop a) 2=some (accN b a 2,3):=QvF hb (i:=1) (by omega) (by decide) hl
  have n3:QaU (accN b a 2) (b.drop a) 3=some (accN b a 3,4):=QvF hb (i:=2) (by omega) (by decide) hl
  rw [if_neg (by decide),if_pos (by decide)]
  simp only [Option.bind_some,Sum.elim_inl,Sum.elim_inr,n1,n2,n3]
  exact tail
 ·have n1:QaU (accN b a 0) (b.drop a) 1=some (accN b a 1,2):=QvF hb (i:=0) (by omega) (by decide) hl
  have n2:QaU (accN b a 1) (b.drop a) 2=some (accN b a 2,3):=QvF hb (i:=1) (by omega) (by decide) hl
  have n3:QaU (accN b a 2) (b.drop a) 3=some (accN b a 3,4):=QvF hb (i:=2) (by omega) (by decide) hl
  have n4:QaU (accN b a 3) (b.drop a) 4=some (accN b a 4,5):=QvF hb (i:=3) (by omega) (by decide) hl
  have n5:QaU (accN b a 4) (b.drop a) 5=some (accN b a 5,6):=QvF hb (i:=4) (by omega) (by decide) hl
  have n6:QaU (accN b a 5) (b.drop a) 6=some (accN b a 6,7):=QvF hb (i:=5) (by omega) (by decide) hl
  have n7:QaU (accN b a 6) (b.drop a) 7=some (accN b a 7,8):=QvF hb (i:=6) (by omega) (by decide) hl
  rw [if_pos (by decide)]
  simp only [Option.bind_some,Sum.elim_inl,Sum.elim_inr,n1,n2,n3,n4,n5,n6,n7]
  exact tail
theorem Q3K {b:List Int}{a:Int}{e:GErr}(h:e.isNil=false) (most:Int):QdR ⟨b,a,e⟩ most=some (0,a,e):=by
 unfold QdR
 rw [if_pos (by simp [h])]
theorem Qg0 {b:List Int}(hb:okB b){a:Nat}{most n:Int}{a':Nat}(h:numR b a most= .inr (n,a')):0≤n∧n≤top∧n≤most∧a<a'∧a'≤b.length∧a'≤a+8:=by
 unfold numR at h
 have hk:=Qz3 (rd b (a:Int))
 split at h
 ·cases h
 split at h
 ·cases h
 split at h
 ·cases h
 split at h
 ·cases h
 ·cases h
  have h1:=QrI (a:=a) hb (Qi8 (rd b (a:Int))- 1) (by omega)
  have h2:=Q4Z ⟨Qi8 (rd b (a:Int))- 1,by omega⟩
  simp only at h2
  exact⟨h1.1,by omega,by omega,by omega,by omega,by omega⟩
theorem Qk5 {b:List Int}{a:Nat}{most c:Int}(h:numR b a most= .inl c):c=3∨c=5∨c=6:=by
 unfold numR at h
 split at h
 ·cases h;simp
 split at h
 ·cases h;simp
 split at h
 ·cases h;simp
 split at h
 ·cases h;simp
 ·cases h
def pos0 (n:Int):Int:=if n<0 then 0 else n
theorem QoD {b:List Int}(hb:okB b) (hl:b.length≤1000000000000){a:Nat}(ha:a≤b.length){most:Int}(hm:most≤9223372036854775807):Qa5 ⟨b,(a:Int), .nil⟩ most=some (numP b a (pos0 most)):=by
 unfold Qa5
 have hp:0≤pos0 most∧pos0 most≤9223372036854775807:=by unfold pos0;split<;>omega
 rw [show (if most<(0:Int)then(0:Int)else most)=pos0 most from rfl,QqB hp.1 (by omega),Q1Y hb hl ha]
 simp only [Option.bind_some]
 unfold numP
 cases h:numR b a (pos0 most)with
 |inl c=>rfl
 |inr x=>
  obtain ⟨n,a'⟩:=x
  have:=Qg0 hb h
  unfold top at this
  simp only
  rw [QfP (by omega) (by omega)]
theorem QuC {b:List Int}{a:Int}{e:GErr}(h:e.isNil=false) (most:Int):Qa5 ⟨b,a,e⟩ most=some (0,a,e):=by
 unfold Qa5
 rw [Q3K h];rfl
abbrev Q34:ByteArray:=⟨#[102,108,97,103]⟩
abbrev Q6E:ByteArray:=⟨#[116,101,120,116]⟩
abbrev Q0R:ByteArray:=⟨#[101,110,100]⟩
abbrev RdR (α:Type):=(Int×ByteArray×Int×Nat)⊕(α×Nat)
def Qt3 (b:List Int) (a:Nat) (most:Int):RdR Int:=match numR b a most with
 | .inl c=> .inl (c,Qt2,(a:Int),a)
 | .inr x=> .inr x
def Qw7 (b:List Int) (a:Nat):RdR Bool:=
 if b.length≤a then .inl (3,Q34,(a:Int),a)else if 1<rd b (a:Int)then .inl (5,Q34,(a:Int),a)else .inr (decide (rd b (a:Int)=1),a+1)
def QsP (b:List Int) (a:Nat) (most:Int):RdR (List Int):=match numR b a (pos0 most)with
 | .inl c=> .inl (c,Qt2,(a:Int),a)
 | .inr (n,a')=>if((b.length - a':Nat):Int)<n then .inl (3,Q6E,(a:Int),a)else .inr ((b.drop a').take n.toNat,a'+n.toNat)
def rowG (b:List Int) (each:Int):Nat→Nat→List Int→RdR (List Int)
 |0,a,l=> .inr (l,a)
 |k+1,a,l=>match numR b a (pos0 each)with
  | .inl c=> .inl (c,Qt2,(a:Int),a)
  | .inr (n,a')=>rowG b each k a' (l++[n])
def rowR (b:List Int) (a:Nat) (many each:Int):RdR (List Int):=match numR b a (pos0 many)with
 | .inl c=> .inl (c,Qt2,(a:Int),a)
 | .inr (n,a')=>rowG b each n.toNat a' []
def asP {α:Type}(z:α):RdR α→α×Int×GErr
 | .inl (c,o,w,a)=>(z,(a:Int), .fault o w (.code c))
 | .inr (x,a)=>(x,(a:Int), .nil)
def asS {α:Type}(z:α):RdR α→QaB×α
 | .inl (c,o,w,a)=>(⟨(a:Int),c,o,w⟩,z)
 | .inr (x,a)=>(⟨(a:Int),0,⟨#[]⟩,0⟩,x)
theorem Q41 (b:List Int) (a:Nat) (most:Int):numP b a most=asP 0 (Qt3 b a most):=by
 unfold numP Qt3
 cases numR b a most<;>rfl
theorem Q42 (b:List Int) (a:Nat) (most:Int):numS b a most=asS 0 (Qt3 b a most):=by
 unfold numS Qt3
 cases numR b a most<;>rfl
theorem QwB {b:List Int}(hb:okB b) (hl:b.length≤1000000000000) (a:Nat):QbY ⟨b,(a:Int), .nil⟩=some (asP false (Qw7 b a)):=by
 unfold QbY Qw7
 dsimp only
 rw [if_neg (show¬ ((!GErr.isNil GErr.nil)=true) from by decide)]
 by_cases g1:b.length≤a
 ·rw [if_pos (decide_eq_true (by omega)),if_pos g1];rfl
 rw [if_neg (fun q=>absurd (of_decide_eq_true q) (by omega)),if_neg g1,QbW ⟨by omega,by omega⟩]
 by_cases g2:1<rd b (a:Int)
 ·rw [if_pos (decide_eq_true g2),if_pos g2];rfl
 have e1:IntKind.i64.wrap ((a:Int)+1)=((a+1:Nat):Int):=by rw [QfP (by omega) (by omega)];omega
 have e2:IntKind.i64.wrap (((a+1:Nat):Int)- 1)=(a:Int):=by rw [QfP (by omega) (by omega)];omega
 rw [if_neg (fun q=>g2 (of_decide_eq_true q)),if_neg g2]
 simp only [e1,e2]
 rw [QbW ⟨by omega,by omega⟩];rfl
theorem Qx4 {b:List Int}{a:Int}{e:GErr}(h:e.isNil=false):QbY ⟨b,a,e⟩=some (false,a,e):=by
 unfold QbY
 rw [if_pos (by simp [h])];rfl
theorem Q3L (l:List Int) (h:l.length≤1000000000):QdG l=some l:=by
 unfold QdG
 rw [QbW (by simp;omega)];simp
theorem QwC {b:List Int}(hb:okB b) (hl:b.length≤1000000000){a:Nat}(ha:a≤b.length){most:Int}(hm:most≤9223372036854775807):QbX ⟨b,(a:Int), .nil⟩ most=some (asP [] (QsP b a most)):=by
 unfold QbX QsP
 rw [QoD hb (by omega) ha hm]
 unfold numP
 cases h:numR b a (pos0 most)with
 |inl c=>rfl
 |inr x=>
  obtain ⟨n,a'⟩:=x
  have hn:=Qg0 hb h
  unfold top at hn
  simp only [Option.bind_some]
  rw [if_neg (show¬ ((!GErr.isNil GErr.nil)=true) from by decide),QfP (n:=(b.length:Int)- (a':Int)) (by omega) (by omega)]
  by_cases g:((b.length - a':Nat):Int)<n
  ·rw [if_pos (decide_eq_true (by omega)),if_pos g];rfl
  ·obtain ⟨N,rfl⟩:=Int.eq_ofNat_of_zero_le hn.1
   have e1:IntKind.i64.wrap ((a':Int)+(N:Int))=((a'+N:Nat):Int):=by rw [QfP (by omega) (by omega)];omega
   have e2:IntKind.i64.wrap (((a'+N:Nat):Int)- (N:Int))=(a':Int):=by rw [QfP (by omega) (by omega)];omega
   rw [if_neg (fun q=>absurd (of_decide_eq_true q) (by omega)),if_neg g]
   simp only [e1,e2]
   rw [QbW ⟨by omega,by omega,by omega⟩,Q1T,Q3L _ (by simp;omega)]
   rw [show a'+N - a'=N by omega];rfl
theorem Qx5 {b:List Int}{a:Int}{e:GErr}(h:e.isNil=false) (most:Int):QbX ⟨b,a,e⟩ most=some ([],a,e):=by
 unfold QbX
 rw [QuC h]
 simp only [Option.bind_some]
 rw [if_pos (by simp [h])]
theorem QwD {b:List Int}(hb:okB b) (hl:b.length≤1000000000) (r:QaC) (hr:r.b=b){each:Int}(he:each≤9223372036854775807) (N:Nat) (hN:N≤4611686018427387903):∀ (k i a:Nat) (l:List Int),i+k=N→a≤b.length→l.length≤a→
  ∃ l',iter (QcP r each (N:Int)) (l,(i:Int),(a:Int), .nil)=some (l',(asP [] (rowG b each k a l)).2)∧((asP [] (rowG b each k a l)).2.2.isNil=true→l'=(asP [] (rowG b each k a l)).1)
 |0,i,a,l,hi,ha,hla=>by
  refine⟨l,Qa9 ?_,fun _=>rfl⟩
  unfold QcP
  simp only
  rw [if_neg (fun q=>absurd (of_decide_eq_true q) (by omega))]
  rfl
 |k+1,i,a,l,hi,ha,hla=>by
  have hstep:QcP r each (N:Int) (l,(i:Int),(a:Int), .nil)=some (.inl (l++[(numP b a (pos0 each)).1],((i+1:Nat):Int),(numP b a (pos0 each)).2.1,(numP b a (pos0 each)).2.2)):=by
   unfold QcP
   simp only
   rw [if_pos (decide_eq_true (by omega)),hr,QoD hb (by omega) ha he]
   simp only [Option.bind_some,GErr.isNil,if_true]
   rw [QbW (by simp;omega),QfP (by omega) (by omega)]
   rfl
  rw [Qc0 hstep]
  unfold numP rowG
  cases h:numR b a (pos0 each)with
  |inl c=>
   refine⟨l++[0],Qa9 ?_,fun q=>by cases q⟩
   unfold QcP
   simp only
   by_cases g:((i+1:Nat):Int)<(N:Int)
   ·rw [if_pos (decide_eq_true g)];rfl
   ·rw [if_neg (fun q=>g (of_decide_eq_true q))];rfl
  |inr x=>
   obtain ⟨n,a'⟩:=x
   have hn:=Qg0 hb h
   exact QwD hb hl r hr he N hN k (i+1) a' (l++[n]) (by omega) (by omega) (by simp;omega)
theorem Qx6 {b:List Int}(hb:okB b) (hl:b.length≤1000000000){a:Nat}(ha:a≤b.length){many each:Int}(hm:many≤9223372036854775807) (he:each≤9223372036854775807):QcO ⟨b,(a:Int), .nil⟩ many each=some (asP [] (rowR b a many each)):=by
 unfold QcO rowR
 rw [QoD hb (by omega) ha hm]
 unfold numP
 cases h:numR b a (pos0 many)with
 |inl c=>
  simp only [Option.bind_some]
  rw [Qa9 (e:=([],(a:Int), .fault Qt2 (a:Int) (.code c))) rfl]
  rfl
 |inr x=>
  obtain ⟨n,a'⟩:=x
  have hn:=Qg0 hb h
  unfold top at hn
  obtain ⟨N,rfl⟩:=Int.eq_ofNat_of_zero_le hn.1
  simp only [Option.bind_some]
  obtain ⟨l',h1,h2⟩:=QwD hb hl ⟨b,(a:Int), .nil⟩ rfl he N (by omega) N 0 a' [] (by omega) (by omega) (by simp)
  rw [show ((0:Nat):Int)=0 from rfl] at h1
  rw [h1,show ((N:Int)).toNat=N by omega]
  simp only [Option.bind_some]
  cases hr:rowG b each N a' []with
  |inl x=>rfl
  |inr x=>
   rw [hr] at h2
   rw [h2 rfl]
   rfl
theorem Qz4 {b:List Int}{a:Int}{e:GErr}(h:e.isNil=false) (many each:Int):QcO ⟨b,a,e⟩ many each=some ([],a,e):=by
 unfold QcO
 rw [QuC h]
 simp only [Option.bind_some]
 rw [Qa9 (e:=([],a,e)) (by
  unfold QcP
  rfl)]
 simp [h]
theorem Q1Z (b:List Int) (a:Int) (e:GErr):QdU ⟨b,a,e⟩=some (if a<(b.length:Int)∧e.isNil=true then(.fault Q0R a (.code 5), .fault Q0R a (.code 5))else(e,e)):=by
 unfold QdU
 by_cases g:a<(b.length:Int)
 ·rw [if_pos (decide_eq_true g)]
  cases h:e.isNil with
  |true=>
   rw [if_pos ⟨g,rfl⟩]
   obtain rfl:e= .nil:=by cases e<;>first |rfl |cases h
   rfl
  |false=>rw [Q3I _ _ _ h,if_neg (by simp)];rfl
 ·rw [if_neg (fun q=>g (of_decide_eq_true q)),if_neg (fun q=>g q.1)];rfl
theorem QuD {n:Int}(h:n≤9223372036854775807):QfD n=some (pos0 n):=by
 unfold QfD pos0
 by_cases g:n<0
 ·rw [if_pos (decide_eq_true g),if_pos g]
 ·rw [if_neg (fun q=>g (of_decide_eq_true q)),if_neg g,QqB (by omega) (by omega)]
theorem Q0S {b:List Int}(hb:okB b) (hl:b.length≤1000000000){a:Nat}{s:QaB}(hs:s.At=(a:Int)) (hc:s.Code=0){most:Int}(hm:most≤9223372036854775807):Qj6 b s most=some (asS [] (QsP b a most)):=by
 unfold Qj6 QsP
 rw [QuD hm]
 simp only [Option.bind_some]
 rw [QrJ hb (by omega) hs hc]
 unfold numS
 cases h:numR b a (pos0 most)with
 |inl c=>
  have hc:=Qk5 h
  simp only [Option.bind_some]
  rw [if_pos (decide_eq_true (by omega))];rfl
 |inr x=>
  obtain ⟨n,a'⟩:=x
  have hn:=Qg0 hb h
  unfold top at hn
  obtain ⟨N,rfl⟩:=Int.eq_ofNat_of_zero_le hn.1
  simp only [Option.bind_some]
  rw [if_neg (by simp),QfP (n:=(b.length:Int)- (a':Int)) (by omega) (by omega),QqB (by omega) (by omega),QfP (n:=(N:Int)) (by omega) (by omega)]
  by_cases g:((b.length - a':Nat):Int)<(N:Int)
  ·rw [if_pos (decide_eq_true (by omega)),if_pos g,hs];rfl
  ·have e1:IntKind.i64.wrap ((a':Int)+(N:Int))=((a'+N:Nat):Int):=by rw [QfP (by omega) (by omega)];omega
   rw [if_neg (fun q=>absurd (of_decide_eq_true q) (by omega)),if_neg g]
   simp only [e1]
   rw [QbW ⟨by omega,by omega,by omega⟩,Q1T,show a'+N - a'=N by omega];rfl
theorem QwE {b:List Int}(hb:okB b) (hl:b.length≤1000000000){each:Int}(he:each≤9223372036854775807) (N:Nat) (hN:N≤4611686018427387903):∀ (k i a:Nat) (o:ByteArray) (w:Int) (l:List Int),i+k=N→a≤b.length→l.length≤a→
  ∃ l' o' w',iter (QfM b each (N:Int)) (l,(i:Int),(a:Int),0,o,w)=some (l',(asS [] (rowG b each k a l)).1.At,(asS [] (rowG b each k a l)).1.Code,o',w')∧
   ((asS [] (rowG b each k a l)).1.Code=0→l'=(asS [] (rowG b each k a l)).2)∧((asS [] (rowG b each k a l)).1.Code≠0→o'=(asS [] (rowG b each k a l)).1.Op∧w'=(asS [] (rowG b each k a l)).1.Where)
 |0,i,a,o,w,l,hi,ha,hla=>by
  refine⟨l,o,w,Qa9 ?_,fun _=>rfl,fun q=>absurd rfl q⟩
  unfold QfM
  simp only
  rw [if_neg (fun q=>absurd (of_decide_eq_true q) (by omega))]
  rfl
 |k+1,i,a,o,w,l,hi,ha,hla=>by
  have hv:∀ n a',numR b a (pos0 each)= .inr (n,a')→IntKind.i64.wrap n=n:=fun n a' h=>by
   have hn:=Qg0 hb h
   unfold top at hn
   exact QfP (by omega) (by omega)
  have hstep:QfM b each (N:Int) (l,(i:Int),(a:Int),0,o,w)=some (.inl (l++[IntKind.i64.wrap (numS b a (pos0 each)).2],((i+1:Nat):Int),(numS b a (pos0 each)).1.At,(numS b a (pos0 each)).1.Code,(numS b a (pos0 each)).1.Op,(numS b a (pos0 each)).1.Where)):=by
   unfold QfM
   simp only
   rw [if_pos (decide_eq_true (by omega)),QuD he]
   simp only [Option.bind_some]
   rw [QrJ hb (by omega) (a:=a) rfl rfl]
   simp only [Option.bind_some,decide_true,if_true]
   rw [QbW (by simp;omega),QqB (by omega) (by omega)]
   rfl
  rw [Qc0 hstep]
  unfold numS rowG
  cases h:numR b a (pos0 each)with
  |inl c=>
   have hc:=Qk5 h
   have hc0:c≠0:=by omega
   refine⟨l++[0],Qt2,(a:Int),Qa9 ?_,fun q=>absurd q hc0,fun _=>⟨rfl,rfl⟩⟩
   unfold QfM
   simp only
   have e:(decide (c=0))=false:=decide_eq_false hc0
   by_cases g:((i+1:Nat):Int)<(N:Int)
   ·rw [if_pos (decide_eq_true g),e];rfl
   ·rw [if_neg (fun q=>g (of_decide_eq_true q))];rfl
  |inr x=>
   obtain ⟨n,a'⟩:=x
   have hn:=Qg0 hb h
   simp only
   rw [hv n a' h]
   exact QwE hb hl he N hN k (i+1) a' _ _ (l++[n]) (by omega) (by omega) (by simp;omega)
def sameS (s t:QaB):Prop:=s.At=t.At∧s.Code=t.Code∧(s.Code≠0→s.Op=t.Op∧s.Where=t.Where)
theorem sameS.refl (s:QaB):sameS s s:=⟨rfl,rfl,fun _=>⟨rfl,rfl⟩⟩
theorem Q10 {b:List Int}(hb:okB b) (hl:b.length≤1000000000){a:Nat}{s:QaB}(hs:s.At=(a:Int)) (hc:s.Code=0){many each:Int}(hm:many≤9223372036854775807) (he:each≤9223372036854775807):
  ∃ t,Qk3 b s many each=some (t,(asS [] (rowR b a many each)).2)∧sameS t (asS [] (rowR b a many each)).1:=by
 unfold Qk3 rowR
 rw [QuD hm]
 simp only [Option.bind_some]
 rw [QrJ hb (by omega) hs hc]
 unfold numS
 cases h:numR b a (pos0 many)with
 |inl c=>
  have hc:=Qk5 h
  have hc0:c≠0:=by omega
  simp only [Option.bind_some]
  rw [Qa9 (e:=([],(a:Int),c,Qt2,(a:Int))) rfl]
  simp only [Option.bind_some]
  rw [if_pos (decide_eq_true hc0)]
  exact⟨_,rfl, .refl _⟩
 |inr x=>
  obtain ⟨n,a'⟩:=x
  have hn:=Qg0 hb h
  unfold top at hn
  obtain ⟨N,rfl⟩:=Int.eq_ofNat_of_zero_le hn.1
  simp only [Option.bind_some]
  obtain ⟨l',o',w',h1,h2,h3⟩:=QwE hb hl he N (by omega) N 0 a' ⟨#[]⟩ 0 [] (by omega) (by omega) (by simp)
  rw [show ((0:Nat):Int)=0 from rfl] at h1
  rw [h1,show ((N:Int)).toNat=N by omega]
  simp only [Option.bind_some]
  generalize rowG b each N a' []=R at h2 h3⊢
  by_cases g:(asS [] R).1.Code=0
  ·rw [if_neg (fun q=>absurd g (of_decide_eq_true q)),h2 g]
   exact⟨_,rfl,rfl,rfl,fun q=>absurd g q⟩
  ·rw [if_pos (decide_eq_true g)]
   cases R with
   |inl x=>exact⟨_,rfl,rfl,rfl,h3⟩
   |inr x=>exact absurd rfl g
theorem Q43 (b:List Int) (s:QaB):QjL b s=some (if s.At<(b.length:Int)∧s.Code=0 then⟨s.At,5,Q0R,s.At⟩else s):=by
 unfold QjL
 by_cases g:s.At<(b.length:Int)
 ·rw [if_pos (decide_eq_true g)]
  by_cases h:s.Code=0
  ·rw [Qp5 s h,if_pos ⟨g,h⟩];rfl
  ·rw [if_neg (fun q=>h q.2)]
   unfold QdV
   rw [if_pos (decide_eq_true h)];rfl
 ·rw [if_neg (fun q=>g (of_decide_eq_true q)),if_neg (fun q=>g q.1)]
theorem QvG (b:List Int) (a:Nat):∀ k,a+k≤b.length→(b.drop a).take k=(List.range k).map fun(i:Nat)=>rd b ((a+i:Nat):Int)
 |0,_=>by simp
 |k+1,h=>by
  have hlt:k<(b.drop a).length:=by simp;omega
  rw [List.take_succ_eq_append_getElem hlt,QvG b a k (by omega),List.range_succ,List.map_append]
  congr 1
  simp only [List.map_cons,List.map_nil]
  rw [rdn (show a+k<b.length by omega)]
  simp
theorem Qk6 {b:List Int}(hb:okB b){a i:Nat}(h:a+(i+1)<b.length):accN b a (i+1)/256=accN b a i∧accN b a (i+1) % 256=rd b ((a+(i+1):Nat):Int):=by
 have h2:=hb.at (i:=a+(i+1)) h
 simp only [accN]
 constructor<;>omega
theorem Q3M {b:List Int}(hb:okB b){a:Nat}{most n:Int}{a':Nat}(h:numR b a most= .inr (n,a')):numB n=(b.drop a).take (a' - a)∧a'=a+(numB n).length:=by
 have hn:=Qg0 hb h
 have hcap:Qx1 n=n:=by unfold Qx1;rw [if_neg (by omega)]
 unfold numB
 rw [hcap]
 unfold numR at h
 split at h
 ·cases h
 rename_i g1
 split at h
 ·cases h
 rename_i g2
 split at h
 ·cases h
 rename_i g3
 split at h
 ·cases h
 rename_i g4
 have hh:=hb.at (i:=a) (by omega)
 have hq:rd b (a:Int)/64=0∨rd b (a:Int)/64=1∨rd b (a:Int)/64=2∨rd b (a:Int)/64=3:=by omega
 have hd0:accN b a 0=rd b (a:Int) % 64:=rfl
 have g3:QoC (accN b a (Qi8 (rd b (a:Int))- 1))=Qi8 (rd b (a:Int)):=Classical.byContradiction g3
 have key:∀ k,Qi8 (rd b (a:Int))=k→a+k≤b.length∧n=accN b a (k - 1)∧a'=a+k∧QoC (accN b a (k - 1))=k:=by
  intro k hk
  rw [hk] at g2 g3 h
  cases h
  exact⟨by omega,rfl,rfl,g3⟩
 rcases hq with q |q |q |q
 ·obtain ⟨k1,rfl,rfl,k4⟩:=key 1 (by unfold Qi8;rw [if_pos q])
  have e:numC (accN b a 0)=[rd b (a:Int)]:=by
   unfold numC
   rw [if_pos (by omega),hd0]
   congr 1
   omega
  show numC (accN b a 0)=_∧_
  rw [e,show a+1 - a=1 by omega,QvG b a 1 k1]
  exact⟨rfl,rfl⟩
 ·obtain ⟨k1,rfl,rfl,k4⟩:=key 2 (by unfold Qi8;rw [if_neg (by omega),if_pos q])
  have d1:=Qk6 hb (a:=a) (i:=0) (by omega)
  have e:numC (accN b a 1)=[rd b (a:Int),rd b ((a+1:Nat):Int)]:=by
   have k4':QoC (accN b a 1)=2:=k4
   unfold QoC at k4'
   unfold numC
   by_cases c1:accN b a 1<64
   ·rw [if_pos c1] at k4';cases k4'
   rw [if_neg c1] at k4'⊢
   by_cases c2:accN b a 1<16384
   ·rw [if_pos c2,d1.1,d1.2,hd0]
    congr 1
    omega
   ·rw [if_neg c2] at k4';split at k4'<;>cases k4'
  show numC (accN b a 1)=_∧_
  rw [e,show a+2 - a=2 by omega,QvG b a 2 k1]
  exact⟨rfl,rfl⟩
 ·obtain ⟨k1,rfl,rfl,k4⟩:=key 4 (by unfold Qi8;rw [if_neg (by omega),if_neg (by omega),if_pos q])
  have d1:=Qk6 hb (a:=a) (i:=0) (by omega)
  have d2:=Qk6 hb (a:=a) (i:=1) (by omega)
  have d3:=Qk6 hb (a:=a) (i:=2) (by omega)
  have e:numC (accN b a 3)=[rd b (a:Int),rd b ((a+1:Nat):Int),rd b ((a+2:Nat):Int),rd b ((a+3:Nat):Int)]:=by
   have k4':QoC (accN b a 3)=4:=k4
   unfold QoC at k4'
   unfold numC
   by_cases c1:accN b a 3<64
   ·rw [if_pos c1] at k4';cases k4'
   rw [if_neg c1] at k4'⊢
   by_cases c2:accN b a 3<16384
   ·rw [if_pos c2] at k4';cases k4'
   rw [if_neg c2] at k4'⊢
   by_cases c3:accN b a 3<1073741824
   ·rw [if_pos c3,d3.1,d3.2,d2.1,d2.2,d1.1,d1.2,hd0]
    congr 1
    omega
   ·rw [if_neg c3] at k4';cases k4'
  show numC (accN b a 3)=_∧_
  rw [e,show a+4 - a=4 by omega,QvG b a 4 k1]
  exact⟨rfl,rfl⟩
 ·obtain ⟨k1,rfl,rfl,k4⟩:=key 8 (by unfold Qi8;rw [if_neg (by omega),if_neg (by omega),if_neg (by omega)])
  have d1:=Qk6 hb (a:=a) (i:=0) (by omega)
  have d2:=Qk6 hb (a:=a) (i:=1) (by omega)
  have d3:=Qk6 hb (a:=a) (i:=2) (by omega)
  have d4:=Qk6 hb (a:=a) (i:=3) (by omega)
  have d5:=Qk6 hb (a:=a) (i:=4) (by omega)
  have d6:=Qk6 hb (a:=a) (i:=5) (by omega)
  have d7:=Qk6 hb (a:=a) (i:=6) (by omega)
  have e:numC (accN b a 7)=[rd b (a:Int),rd b ((a+1:Nat):Int),rd b ((a+2:Nat):Int),rd b ((a+3:Nat):Int),rd b ((a+4:Nat):Int),rd b ((a+5:Nat):Int),rd b ((a+6:Nat):Int),rd b ((a+7:Nat):Int)]:=by
   have k4':QoC (accN b a 7)=8:=k4
   unfold QoC at k4'
   unfold numC
   by_cases c1:accN b a 7<64
   ·rw [if_pos c1] at k4';cases k4'
   rw [if_neg c1] at k4'⊢
   by_cases c2:accN b a 7<16384
   ·rw [if_pos c2] at k4';cases k4'
   rw [if_neg c2] at k4'⊢
   by_cases c3:accN b a 7<1073741824
   ·rw [if_pos c3] at k4';cases k4'
   rw [if_neg c3,d7.1,d7.2,d6.1,d6.2,d5.1,d5.2,d4.1,d4.2,d3.1,d3.2,d2.1,d2.2,d1.1,d1.2,hd0]
   congr 1
   omega
  show numC (accN b a 7)=_∧_
  rw [e,show a+8 - a=8 by omega,QvG b a 8 k1]
  exact⟨rfl,rfl⟩
abbrev RAsk:=Qa8
abbrev Got:=QcR
def got0:Got:=⟨0,false,[],[]⟩
def mapR {α β:Type}(f:α→β):RdR α→RdR β
 | .inl x=> .inl x
 | .inr (x,a)=> .inr (f x,a)
def Qw8 (b:List Int) (a:Nat) (q:RAsk):RdR Got:=
 if q.Kind=0∨q.Kind=1 then mapR (fun n=>⟨n,false,[],[]⟩) (Qt3 b a (pos0 q.Most))
 else if q.Kind=2 then mapR (fun x=>⟨0,x,[],[]⟩) (Qw7 b a)
 else if q.Kind=3 then mapR (fun x=>⟨0,false,x,[]⟩) (QsP b a q.Most)
 else mapR (fun x=>⟨0,false,[],x⟩) (rowR b a q.Most q.Each)
def Q8Q (q:RAsk):Prop:=q.Most≤9223372036854775807∧q.Each≤9223372036854775807
def leR {α:Type}(N:Nat) (P:α→Prop):RdR α→Prop
 | .inl (c,_,_,a)=>a≤N∧c≠0
 | .inr (x,a)=>a≤N∧P x
theorem leR.map {α β:Type}{N:Nat}{P:α→Prop}{Q:β→Prop}{f:α→β}{R:RdR α}(h:leR N P R) (k:∀ x,P x→Q (f x)):leR N Q (mapR f R):=by
 cases R with
 |inl x=>exact h
 |inr x=>exact⟨h.1,k _ h.2⟩
theorem Q35 {b:List Int}(hb:okB b){a:Nat}(ha:a≤b.length) (most:Int):leR b.length (fun n=>0≤n∧n≤top) (Qt3 b a most):=by
 unfold Qt3
 cases h:numR b a most with
 |inl c=>have:=Qk5 h;exact⟨ha,by omega⟩
 |inr x=>have:=Qg0 hb h;exact⟨by omega,this.1,this.2.1⟩
theorem Q44 {b:List Int}{a:Nat}(ha:a≤b.length):leR b.length (fun _=>True) (Qw7 b a):=by
 unfold Qw7
 split
 ·exact⟨ha,by decide⟩
 split
 ·exact⟨ha,by decide⟩
 ·exact⟨by omega,trivial⟩
theorem Q45 {b:List Int}(hb:okB b){a:Nat}(ha:a≤b.length) (most:Int):leR b.length (fun(l:List Int)=>l.length≤b.length) (QsP b a most):=by
 unfold QsP
 cases h:numR b a (pos0 most)with
 |inl c=>have:=Qk5 h;exact⟨ha,by omega⟩
 |inr x=>
  have:=Qg0 hb h
  simp only
  split
  ·exact⟨ha,by decide⟩
  ·exact⟨by omega,by simp;omega⟩
theorem Q11 {b:List Int}(hb:okB b) (each:Int):∀ (k a:Nat) (l:List Int),a≤b.length→l.length≤a→leR b.length (fun(l:List Int)=>l.length≤b.length) (rowG b each k a l)
 |0,a,l,ha,hl=>⟨ha,by omega⟩
 |k+1,a,l,ha,hl=>by
  unfold rowG
  cases h:numR b a (pos0 each)with
  |inl c=>have:=Qk5 h;exact⟨ha,by omega⟩
  |inr x=>
   have:=Qg0 hb h
   exact Q11 hb each k x.2 (l++[x.1]) (by omega) (by simp;omega)
theorem Q36 {b:List Int}(hb:okB b){a:Nat}(ha:a≤b.length) (many each:Int):leR b.length (fun(l:List Int)=>l.length≤b.length) (rowR b a many each):=by
 unfold rowR
 cases h:numR b a (pos0 many)with
 |inl c=>have:=Qk5 h;exact⟨ha,by omega⟩
 |inr x=>
  have:=Qg0 hb h
  exact Q11 hb each x.1.toNat x.2 [] (by omega) (by simp)
theorem Qw9 {b:List Int}(hb:okB b){a:Nat}(ha:a≤b.length) (q:RAsk):leR b.length (fun(g:Got)=>g.Text.length≤b.length∧g.Row.length≤b.length) (Qw8 b a q):=by
 unfold Qw8
 split
 ·exact(Q35 hb ha _).map fun _ _=>⟨Nat.zero_le _,Nat.zero_le _⟩
 split
 ·exact(Q44 ha).map fun _ _=>⟨Nat.zero_le _,Nat.zero_le _⟩
 split
 ·exact(Q45 hb ha _).map fun _ h=>⟨h,Nat.zero_le _⟩
 ·exact(Q36 hb ha _ _).map fun _ h=>⟨Nat.zero_le _,h⟩
theorem QxA {b:List Int}(hb:okB b) (hl:b.length≤1000000){a:Nat}{s:QaB}(hs:s.At=(a:Int)) (hc:s.Code=0){q:RAsk}(hq:Q8Q q):
  ∃ t,QcA b s q=some (t,(asS got0 (Qw8 b a q)).2)∧sameS t (asS got0 (Qw8 b a q)).1:=by
 unfold QcA Qw8
 rw [if_neg (fun q=>absurd hc (of_decide_eq_true q))]
 have ek:∀ {c:Prop}[Decidable c],(if(decide (q.Kind=(0:Int)))=true then(some (decide (q.Kind=(0:Int))))else(some (decide (q.Kind=(1:Int)))))=some (decide (q.Kind=0∨q.Kind=1)):=by
  intro _ _
  by_cases c0:q.Kind=0
  ·rw [if_pos (decide_eq_true c0)];simp [c0]
  ·rw [if_neg (fun q=>c0 (of_decide_eq_true q))];simp [c0]
 rw [ek (c:=True)]
 simp only [Option.bind_some]
 by_cases c01:q.Kind=0∨q.Kind=1
 ·rw [if_pos (decide_eq_true c01),if_pos c01,QuD hq.1]
  simp only [Option.bind_some]
  rw [QrJ hb (by omega) hs hc,Q42]
  cases Qt3 b a (pos0 q.Most)with
  |inl x=>exact⟨_,rfl, .refl _⟩
  |inr x=>exact⟨_,rfl, .refl _⟩
 rw [if_neg (fun q=>c01 (of_decide_eq_true q)),if_neg c01]
 by_cases c2:q.Kind=2
 ·rw [if_pos (decide_eq_true c2),if_pos c2]
  unfold Qw7
  rw [hs]
  by_cases g1:b.length≤a
  ·rw [if_pos (decide_eq_true (by omega)),if_pos g1,Qp5 s hc,hs]
   exact⟨_,rfl, .refl _⟩
  rw [if_neg (fun q=>absurd (of_decide_eq_true q) (by omega)),if_neg g1,QbW ⟨by omega,by omega⟩]
  by_cases g2:1<rd b (a:Int)
  ·rw [if_pos (decide_eq_true g2),if_pos g2,Qp5 s hc,hs]
   exact⟨_,rfl, .refl _⟩
  rw [if_neg (fun q=>g2 (of_decide_eq_true q)),if_neg g2,QbW ⟨by omega,by omega⟩,QfP (by omega) (by omega)]
  exact⟨_,rfl,by refine⟨?_,rfl,fun q=>absurd rfl q⟩;simp [asS,mapR]⟩
 rw [if_neg (fun q=>c2 (of_decide_eq_true q)),if_neg c2]
 by_cases c3:q.Kind=3
 ·rw [if_pos (decide_eq_true c3),if_pos c3,Q0S hb (by omega) hs hc hq.1]
  cases QsP b a q.Most with
  |inl x=>exact⟨_,rfl, .refl _⟩
  |inr x=>exact⟨_,rfl, .refl _⟩
 rw [if_neg (fun q=>c3 (of_decide_eq_true q)),if_neg c3]
 obtain ⟨t,h1,h2⟩:=Q10 hb (by omega) hs hc hq.1 hq.2 (many:=q.Most) (each:=q.Each)
 rw [h1]
 cases e:rowR b a q.Most q.Each with
 |inl x=>rw [e] at h2;exact⟨t,rfl,h2⟩
 |inr x=>rw [e] at h2;exact⟨t,rfl,h2⟩
theorem QuE {b:List Int}{s:QaB}(hc:s.Code≠0) (q:RAsk):QcA b s q=some (s,got0):=by
 unfold QcA
 rw [if_pos (decide_eq_true hc)];rfl
def cor (b:List Int) (a:Nat) (e:GErr) (s:QaB):Prop:=a≤b.length∧s.At=(a:Int)∧((e= .nil∧s.Code=0)∨(s.Code≠0∧e= .fault s.Op s.Where (.code s.Code)))
theorem Q8R {b:List Int}(hb:okB b) (hl:b.length≤1000000){a:Nat}{e:GErr}{s:QaB}(h:cor b a e s) (m:Int) (hm:m≤9223372036854775807):
  ∃ (v:Int) (a':Nat) (e':GErr) (t:QaB),Qa5 ⟨b,(a:Int),e⟩ m=some (v,(a':Int),e')∧QcA b s ⟨1,m,0⟩=some (t,⟨v,false,[],[]⟩)∧cor b a' e' t∧0≤v∧v≤top∧v≤pos0 m:=by
 obtain ⟨ha,hsa,⟨rfl,hc⟩ |⟨hc,he⟩⟩:=h
 ·obtain ⟨t,h1,h2⟩:=QxA hb hl hsa hc (q:=⟨1,m,0⟩) ⟨hm,show (0:Int)≤9223372036854775807 by decide⟩
  have hle:=Qw9 hb ha ⟨1,m,0⟩
  have hn:=Q35 hb ha (pos0 m)
  have er:Qw8 b a ⟨1,m,0⟩=mapR (fun n=>⟨n,false,[],[]⟩) (Qt3 b a (pos0 m)):=rfl
  rw [QoD hb (by omega) ha hm,Q41,h1]
  rw [er] at hle h2⊢
  have hmost:∀ x,Qt3 b a (pos0 m)= .inr x→x.1≤pos0 m:=by
   intro x hx
   unfold Qt3 at hx
   cases e2:numR b a (pos0 m)with
   |inl c=>rw [e2] at hx;cases hx
   |inr y=>rw [e2] at hx;cases hx;exact(Qg0 hb e2).2.2.1
  cases e:Qt3 b a (pos0 m)with
  |inl x=>
   rw [e] at hle h2
   obtain ⟨c,o,w,a1⟩:=x
   obtain ⟨k1,k2,k3⟩:=h2
   have k2':t.Code=c:=k2
   have hc':c≠0:=hle.2
   have k4:=k3 (by rw [k2'];exact hc')
   refine⟨0,a1,_,t,rfl,rfl,⟨hle.1,k1, .inr ⟨by rw [k2'];exact hc', ?_⟩⟩,Int.le_refl _,by decide,by unfold pos0;split<;>omega⟩
   show GErr.fault o w (.code c)=_
   rw [k2',k4.1,k4.2];rfl
  |inr x=>
   rw [e] at hle h2 hn
   exact⟨_,x.2,_,t,rfl,rfl,⟨hle.1,h2.1, .inl ⟨rfl,h2.2.1⟩⟩,hn.2.1,hn.2.2,hmost x e⟩
 ·have hn:e.isNil=false:=by rw [he];rfl
  rw [QuC hn,QuE hc]
  exact⟨0,a,e,s,rfl,rfl,⟨ha,hsa, .inr ⟨hc,he⟩⟩,Int.le_refl _,by decide,by unfold pos0;split<;>omega⟩
theorem Q8S {b:List Int}(hb:okB b) (hl:b.length≤1000000){a:Nat}{e:GErr}{s:QaB}(h:cor b a e s):
  ∃ (v:Bool) (a':Nat) (e':GErr) (t:QaB),QbY ⟨b,(a:Int),e⟩=some (v,(a':Int),e')∧QcA b s ⟨2,0,0⟩=some (t,⟨0,v,[],[]⟩)∧cor b a' e' t:=by
 obtain ⟨ha,hsa,⟨rfl,hc⟩ |⟨hc,he⟩⟩:=h
 ·obtain ⟨t,h1,h2⟩:=QxA hb hl hsa hc (q:=⟨2,0,0⟩) ⟨by decide,by decide⟩
  have hle:=Qw9 hb ha ⟨2,0,0⟩
  have er:Qw8 b a ⟨2,0,0⟩=mapR (fun x=>⟨0,x,[],[]⟩) (Qw7 b a):=rfl
  rw [QwB hb (by omega),h1]
  rw [er] at hle h2⊢
  cases e:Qw7 b a with
  |inl x=>
   rw [e] at hle h2
   obtain ⟨c,o,w,a1⟩:=x
   obtain ⟨k1,k2,k3⟩:=h2
   have k2':t.Code=c:=k2
   have hc':c≠0:=hle.2
   have k4:=k3 (by rw [k2'];exact hc')
   refine⟨false,a1,_,t,rfl,rfl,⟨hle.1,k1, .inr ⟨by rw [k2'];exact hc', ?_⟩⟩⟩
   show GErr.fault o w (.code c)=_
   rw [k2',k4.1,k4.2];rfl
  |inr x=>
   rw [e] at hle h2
   exact⟨_,x.2,_,t,rfl,rfl,⟨hle.1,h2.1, .inl ⟨rfl,h2.2.1⟩⟩⟩
 ·have hn:e.isNil=false:=by rw [he];rfl
  rw [Qx4 hn,QuE hc]
  exact⟨_,a,e,s,rfl,rfl,⟨ha,hsa, .inr ⟨hc,he⟩⟩⟩
theorem Q46 {b:List Int}(hb:okB b){a:Nat}{m:Int}{x:List Int}{a':Nat}(h:QsP b a m= .inr (x,a')):okB x∧(x.length:Int)≤pos0 m:=by
 unfold QsP at h
 cases e:numR b a (pos0 m)with
 |inl c=>rw [e] at h;cases h
 |inr y=>
  rw [e] at h
  simp only at h
  have k:=Qg0 hb e
  split at h
  ·cases h
  ·cases h
   refine⟨(hb.drop _).take _, ?_⟩
   simp
   omega
theorem Q8T {b:List Int}(hb:okB b) (hl:b.length≤1000000){a:Nat}{e:GErr}{s:QaB}(h:cor b a e s) (m:Int) (hm:m≤9223372036854775807):
  ∃ (v:List Int) (a':Nat) (e':GErr) (t:QaB),QbX ⟨b,(a:Int),e⟩ m=some (v,(a':Int),e')∧QcA b s ⟨3,m,0⟩=some (t,⟨0,false,v,[]⟩)∧cor b a' e' t∧okB v∧(v.length:Int)≤pos0 m∧v.length≤b.length:=by
 obtain ⟨ha,hsa,⟨rfl,hc⟩ |⟨hc,he⟩⟩:=h
 ·obtain ⟨t,h1,h2⟩:=QxA hb hl hsa hc (q:=⟨3,m,0⟩) ⟨hm,show (0:Int)≤9223372036854775807 by decide⟩
  have hle:=Qw9 hb ha ⟨3,m,0⟩
  have er:Qw8 b a ⟨3,m,0⟩=mapR (fun x=>⟨0,false,x,[]⟩) (QsP b a m):=rfl
  rw [QwC hb (by omega) ha hm,h1]
  rw [er] at hle h2⊢
  cases e:QsP b a m with
  |inl x=>
   rw [e] at hle h2
   obtain ⟨c,o,w,a1⟩:=x
   obtain ⟨k1,k2,k3⟩:=h2
   have k2':t.Code=c:=k2
   have hc':c≠0:=hle.2
   have k4:=k3 (by rw [k2'];exact hc')
   refine⟨[],a1,_,t,rfl,rfl,⟨hle.1,k1, .inr ⟨by rw [k2'];exact hc', ?_⟩⟩,okB.nil,by unfold pos0;split<;>simp<;>omega,Nat.zero_le _⟩
   show GErr.fault o w (.code c)=_
   rw [k2',k4.1,k4.2];rfl
  |inr x=>
   rw [e] at hle h2
   have k:=Q46 hb (x:=x.1) (a':=x.2) e
   exact⟨_,x.2,_,t,rfl,rfl,⟨hle.1,h2.1, .inl ⟨rfl,h2.2.1⟩⟩,k.1,k.2,hle.2.1⟩
 ·have hn:e.isNil=false:=by rw [he];rfl
  rw [Qx5 hn,QuE hc]
  exact⟨_,a,e,s,rfl,rfl,⟨ha,hsa, .inr ⟨hc,he⟩⟩,okB.nil,by unfold pos0;split<;>simp<;>omega,Nat.zero_le _⟩
theorem Q8U {b:List Int}(hb:okB b) (hl:b.length≤1000000){a:Nat}{e:GErr}{s:QaB}(h:cor b a e s) (m k:Int) (hm:m≤9223372036854775807) (hk:k≤9223372036854775807):
  ∃ (v:List Int) (a':Nat) (e':GErr) (t:QaB),QcO ⟨b,(a:Int),e⟩ m k=some (v,(a':Int),e')∧QcA b s ⟨4,m,k⟩=some (t,⟨0,false,[],v⟩)∧cor b a' e' t∧v.length≤b.length:=by
 obtain ⟨ha,hsa,⟨rfl,hc⟩ |⟨hc,he⟩⟩:=h
 ·obtain ⟨t,h1,h2⟩:=QxA hb hl hsa hc (q:=⟨4,m,k⟩) ⟨hm,hk⟩
  have hle:=Qw9 hb ha ⟨4,m,k⟩
  have er:Qw8 b a ⟨4,m,k⟩=mapR (fun x=>⟨0,false,[],x⟩) (rowR b a m k):=rfl
  rw [Qx6 hb (by omega) ha hm hk,h1]
  rw [er] at hle h2⊢
  cases e:rowR b a m k with
  |inl x=>
   rw [e] at hle h2
   obtain ⟨c,o,w,a1⟩:=x
   obtain ⟨k1,k2,k3⟩:=h2
   have k2':t.Code=c:=k2
   have hc':c≠0:=hle.2
   have k4:=k3 (by rw [k2'];exact hc')
   refine⟨[],a1,_,t,rfl,rfl,⟨hle.1,k1, .inr ⟨by rw [k2'];exact hc', ?_⟩⟩,Nat.zero_le _⟩
   show GErr.fault o w (.code c)=_
   rw [k2',k4.1,k4.2];rfl
  |inr x=>
   rw [e] at hle h2
   exact⟨_,x.2,_,t,rfl,rfl,⟨hle.1,h2.1, .inl ⟨rfl,h2.2.1⟩⟩,hle.2.2⟩
 ·have hn:e.isNil=false:=by rw [he];rfl
  rw [Qz4 hn,QuE hc]
  exact⟨_,a,e,s,rfl,rfl,⟨ha,hsa, .inr ⟨hc,he⟩⟩,Nat.zero_le _⟩
def Qo4 (b:List Int) (a:Nat) (e:GErr) (a':Nat) (e':GErr) (w:List Int):Prop:=a'≤b.length∧(e'.isNil=true→e.isNil=true∧b.take a'=b.take a++w)
theorem QrK {e:GErr}:e.isNil=true↔e= .nil:=by cases e<;>simp [GErr.isNil]
theorem QrL {b:List Int}(hb:okB b){a:Nat}{m n:Int}{a':Nat}(h:numR b a m= .inr (n,a')):b.take a'=b.take a++intB n∧0≤n∧n≤top∧n≤m∧a'≤b.length:=by
 obtain ⟨h1,h2⟩:=Q3M hb h
 have h3:=Qg0 hb h
 refine⟨?_,h3.1,h3.2.1,h3.2.2.1,h3.2.2.2.2.1⟩
 unfold intB
 rw [if_neg (by omega),h1,show a'=a+(a' - a) by omega,List.take_add]
 congr 2
 omega
theorem Q8V {b:List Int}(hb:okB b) (hl:b.length≤1000000){a:Nat}(ha:a≤b.length) (e:GErr) (m:Int) (hm:m≤9223372036854775807):
  ∃ (v:Int) (a':Nat) (e':GErr),Qa5 ⟨b,(a:Int),e⟩ m=some (v,(a':Int),e')∧Qo4 b a e a' e' (intB v)∧0≤v∧v≤top∧v≤pos0 m:=by
 have hz:(0:Int)≤pos0 m:=by unfold pos0;split<;>omega
 cases he:e.isNil with
 |false=>exact⟨0,a,e,QuC he m,⟨ha,fun h=>by rw [he] at h;cases h⟩,Int.le_refl _,by decide,hz⟩
 |true=>
  rw [QrK.1 he,QoD hb (by omega) ha hm]
  unfold numP
  cases h:numR b a (pos0 m)with
  |inl c=>exact⟨0,a,_,rfl,⟨ha,fun h=>by cases h⟩,Int.le_refl _,by decide,hz⟩
  |inr x=>
   have k:=QrL hb (n:=x.1) (a':=x.2) h
   exact⟨x.1,x.2,_,rfl,⟨k.2.2.2.2,fun _=>⟨rfl,k.1⟩⟩,k.2.1,k.2.2.1,k.2.2.2.1⟩
theorem Q8W {b:List Int}(hb:okB b) (hl:b.length≤1000000){a:Nat}(ha:a≤b.length) (e:GErr):
  ∃ (v:Bool) (a':Nat) (e':GErr),QbY ⟨b,(a:Int),e⟩=some (v,(a':Int),e')∧Qo4 b a e a' e' (QvX v):=by
 cases he:e.isNil with
 |false=>exact⟨false,a,e,Qx4 he,⟨ha,fun h=>by rw [he] at h;cases h⟩⟩
 |true=>
  rw [QrK.1 he,QwB hb (by omega)]
  unfold Qw7
  by_cases g1:b.length≤a
  ·rw [if_pos g1];exact⟨false,a,_,rfl,⟨ha,fun h=>by cases h⟩⟩
  rw [if_neg g1]
  by_cases g2:1<rd b (a:Int)
  ·rw [if_pos g2];exact⟨false,a,_,rfl,⟨ha,fun h=>by cases h⟩⟩
  rw [if_neg g2]
  refine⟨_,a+1,_,rfl,⟨by omega,fun _=>⟨rfl, ?_⟩⟩⟩
  have h0:=hb.at (i:=a) (by omega)
  rw [List.take_succ_eq_append_getElem (show a<b.length by omega),←rdn (show a<b.length by omega)]
  unfold QvX
  by_cases g3:rd b (a:Int)=1
  ·rw [decide_eq_true g3,if_pos rfl,g3]
  ·rw [decide_eq_false g3,if_neg (by simp),show rd b (a:Int)=0 by omega]
theorem Q8X {b:List Int}(hb:okB b) (hl:b.length≤1000000){a:Nat}(ha:a≤b.length) (e:GErr) (m:Int) (hm:m≤9223372036854775807):
  ∃ (v:List Int) (a':Nat) (e':GErr),QbX ⟨b,(a:Int),e⟩ m=some (v,(a':Int),e')∧Qo4 b a e a' e' (QnD v)∧okB v∧(v.length:Int)≤pos0 m∧v.length≤b.length:=by
 have hz:(0:Int)≤pos0 m:=by unfold pos0;split<;>omega
 cases he:e.isNil with
 |false=>exact⟨[],a,e,Qx5 he m,⟨ha,fun h=>by rw [he] at h;cases h⟩,okB.nil,hz,Nat.zero_le _⟩
 |true=>
  rw [QrK.1 he,QwC hb (by omega) ha hm]
  unfold QsP
  cases h:numR b a (pos0 m)with
  |inl c=>exact⟨[],a,_,rfl,⟨ha,fun h=>by cases h⟩,okB.nil,hz,Nat.zero_le _⟩
  |inr x=>
   obtain ⟨n,a1⟩:=x
   have k:=QrL hb (n:=n) (a':=a1) h
   simp only
   by_cases g:((b.length - a1:Nat):Int)<n
   ·rw [if_pos g];exact⟨[],a,_,rfl,⟨ha,fun h=>by cases h⟩,okB.nil,hz,Nat.zero_le _⟩
   ·rw [if_neg g]
    have hlen:((b.drop a1).take n.toNat).length=n.toNat:=by rw [List.length_take,List.length_drop];omega
    refine⟨_,a1+n.toNat,_,rfl,⟨by omega,fun _=>⟨rfl, ?_⟩⟩,(hb.drop _).take _,by rw [hlen];omega,by rw [hlen];omega⟩
    rw [List.take_add,k.1]
    unfold QnD
    rw [hlen,List.append_assoc,show ((n.toNat:Nat):Int)=n by omega]
theorem Qx7 {b:List Int}(hb:okB b) (each:Int):∀ (k a:Nat) (l l':List Int) (a':Nat),a≤b.length→rowG b each k a l= .inr (l',a')→∃ r,l'=l++r∧r.length=k∧b.take a'=b.take a++QvY r∧a'≤b.length∧a≤a'∧r.length≤a' - a∧∀ x∈r,0≤x∧x≤pos0 each
 |0,a,l,l',a',ha,h=>by
  unfold rowG at h
  cases h
  exact⟨[],by simp,rfl,by simp [QvY],ha,Nat.le_refl _,Nat.zero_le _,fun x hx=>by cases hx⟩
 |k+1,a,l,l',a',ha,h=>by
  unfold rowG at h
  cases e:numR b a (pos0 each)with
  |inl c=>rw [e] at h;cases h
  |inr x=>
   rw [e] at h
   have h1:=QrL hb (n:=x.1) (a':=x.2) e
   have h2:=Qg0 hb (n:=x.1) (a':=x.2) e
   obtain ⟨r,r1,r2,r3,r4,r6,r7,r5⟩:=Qx7 hb each k x.2 (l++[x.1]) l' a' h1.2.2.2.2 h
   refine⟨x.1::r,by rw [r1];simp,by simp [r2],by rw [r3,h1.1,Qv9,List.append_assoc],r4,by omega,by simp;omega,fun y hy=> ?_⟩
   rcases List.mem_cons.1 hy with rfl |hy
   ·exact⟨h1.2.1,h1.2.2.2.1⟩
   ·exact r5 y hy
theorem Q8Y {b:List Int}(hb:okB b) (hl:b.length≤1000000){a:Nat}(ha:a≤b.length) (e:GErr) (m k:Int) (hm:m≤9223372036854775807) (hk:k≤9223372036854775807):
  ∃ (v:List Int) (a':Nat) (e':GErr),QcO ⟨b,(a:Int),e⟩ m k=some (v,(a':Int),e')∧Qo4 b a e a' e' (rowB v)∧(∀ x∈v,0≤x∧x≤pos0 k)∧(v.length:Int)≤pos0 m∧v.length≤b.length:=by
 have hz:(0:Int)≤pos0 m:=by unfold pos0;split<;>omega
 have nn:∀ x∈([]:List Int),0≤x∧x≤pos0 k:=fun x hx=>by cases hx
 cases he:e.isNil with
 |false=>exact⟨[],a,e,Qz4 he m k,⟨ha,fun h=>by rw [he] at h;cases h⟩,nn,hz,Nat.zero_le _⟩
 |true=>
  rw [QrK.1 he,Qx6 hb (by omega) ha hm hk]
  unfold rowR
  cases h:numR b a (pos0 m)with
  |inl c=>exact⟨[],a,_,rfl,⟨ha,fun h=>by cases h⟩,nn,hz,Nat.zero_le _⟩
  |inr x=>
   obtain ⟨n,a1⟩:=x
   have k1:=QrL hb (n:=n) (a':=a1) h
   have k2:=Qg0 hb h
   simp only
   cases h2:rowG b k n.toNat a1 []with
   |inl c=>
    have hw:=Q36 hb ha m k
    unfold rowR at hw
    rw [h] at hw
    simp only [h2] at hw
    exact⟨[],c.2.2.2,_,rfl,⟨hw.1,fun h=>by cases h⟩,nn,hz,Nat.zero_le _⟩
   |inr y=>
    obtain ⟨r,r1,r2,r3,r4,r6,r7,r5⟩:=Qx7 hb k n.toNat a1 [] y.1 y.2 k1.2.2.2.2 h2
    rw [List.nil_append] at r1
    subst r1
    refine⟨y.1,y.2,_,rfl,⟨r4,fun _=>⟨rfl, ?_⟩⟩,r5,by omega,by omega⟩
    rw [r3,k1.1]
    unfold rowB
    rw [r2,List.append_assoc,show ((n.toNat:Nat):Int)=n by omega]
theorem Q6F {b:List Int}{a:Nat}{e:GErr}(ha:a≤b.length){x y:GErr}(h:QdU ⟨b,(a:Int),e⟩=some (x,y)) (hx:x.isNil=true):e.isNil=true∧b.take a=b:=by
 rw [Q1Z] at h
 by_cases g:(a:Int)<(b.length:Int)∧e.isNil=true
 ·rw [if_pos g] at h;cases h;cases hx
 ·rw [if_neg g] at h
  cases h
  refine⟨hx, ?_⟩
  have:¬ (a:Int)<(b.length:Int):=fun q=>g ⟨q,hx⟩
  exact List.take_of_length_le (by omega)
structure stC (c:Nat) (pre:List Int) (a:Int) (e:GErr):Prop where
 whole:pre.length≤c→a=(pre.length:Int)∧e= .nil
 short:c<pre.length→∃ o w,e= .fault o w (.code 3)
theorem stC.on {c:Nat}{pre x:List Int}{a:Int}{e:GErr}(h:stC c pre a e) (g:c<pre.length):stC c (pre++x) a e:=⟨fun k=>by rw [List.length_append] at k;omega,fun _=>h.short g⟩
theorem stC.no {c:Nat}{pre:List Int}{a:Int}{e:GErr}(h:stC c pre a e):stC c (pre++[]) a e:=by rw [List.append_nil];exact h
section
variable {b : List Int} {c : Nat} {pre post : List Int} {a : Int} {e : GErr}
end
theorem rdnA {α:Type}[Inhabited α]{xs:List α}{i:Nat}(h:i<xs.length):rd xs (i:Int)=xs[i]:=QbT h
def brOk (l:List Int):Prop:=l.length≤7∧∀ i (h:i<l.length),1≤l[i]∧l[i]≤64∧l[i]∉l.take i
theorem QwF (l:List Int) (x:Int) (hl:l.length≤1000000):∀ (d i:Nat),i+d=l.length→(x∉l.take i)→
  (x∈l∧∃ j:Nat,iter (QbV l x) (i:Int)=some (.inr (j:Int)))∨(x∉l∧iter (QbV l x) (i:Int)=some (.inl ()))
 |0,i,hi,hx=>by
  rw [List.take_of_length_le (by omega)] at hx
  refine .inr ⟨hx,Qa9 ?_⟩
  unfold QbV
  simp only
  rw [if_neg (fun q=>absurd (of_decide_eq_true q) (by omega))]
 |d+1,i,hi,hx=>by
  have hlt:i<l.length:=by omega
  by_cases g:x=l[i]
  ·refine .inl ⟨by rw [g];exact List.getElem_mem hlt,i,Qa9 ?_⟩
   unfold QbV
   simp only
   rw [if_pos (decide_eq_true (by omega)),QbW ⟨by omega,by omega⟩,rdnA hlt,if_pos (decide_eq_true g)]
  ·have hstep:QbV l x (i:Int)=some (.inl ((i+1:Nat):Int)):=by
    unfold QbV
    simp only
    rw [if_pos (decide_eq_true (by omega)),QbW ⟨by omega,by omega⟩,rdnA hlt,if_neg (fun q=>g (of_decide_eq_true q)),QfP (by omega) (by omega)]
    rfl
   rw [Qc0 hstep]
   refine QwF l x hl d (i+1) (by omega) ?_
   rw [List.take_succ_eq_append_getElem hlt,List.mem_append,List.mem_singleton]
   exact fun q=>q.elim hx g
theorem QzC (l:List Int) (x:Int) (hl:l.length≤1000000):Qc8 l x=some (decide (x∈l)):=by
 unfold Qc8 QeS
 have h:=QwF l x hl l.length 0 (by omega) (by simp)
 rw [show ((0:Nat):Int)=0 from rfl] at h
 rcases h with⟨h1,j,h2⟩ |⟨h1,h2⟩
 ·rw [h2,decide_eq_true h1]
  simp
 ·rw [h2,decide_eq_false h1]
  rfl
theorem Q3N (l:List Int) (i:Nat):sub l 0 (i:Int)=l.take i:=by
 unfold sub
 rw [show (0:Int).toNat=0 from rfl,show ((i:Int)).toNat=i by omega]
 simp
theorem QsQ (l:List Int) (hl:l.length≤7):∀ (d i:Nat),i+d=l.length→(∀ j (h:j<l.length),j<i→1≤l[j]∧l[j]≤64∧l[j]∉l.take j)→
  (brOk l∧iter (QdB l) (i:Int)=some (.inl ()))∨(¬ brOk l∧iter (QdB l) (i:Int)=some (.inr ()))
 |0,i,hi,hp=>by
  refine .inl ⟨⟨hl,fun j hj=>hp j hj (by omega)⟩,Qa9 ?_⟩
  unfold QdB
  simp only
  rw [if_neg (fun q=>absurd (of_decide_eq_true q) (by omega))]
 |d+1,i,hi,hp=>by
  have hlt:i<l.length:=by omega
  have e:QdB l (i:Int)=if 1≤l[i]∧l[i]≤64∧l[i]∉l.take i then some (.inl ((i+1:Nat):Int))else some (.inr (.inr ())):=by
   unfold QdB
   simp only
   rw [if_pos (decide_eq_true (by omega)),QbW ⟨by omega,by omega⟩,rdnA hlt]
   by_cases g1:l[i]<1
   ·rw [if_pos (decide_eq_true g1),if_neg (show¬ (1≤l[i]∧l[i]≤64∧l[i]∉l.take i) from fun q=>by omega)];rfl
   rw [if_neg (fun q=>g1 (of_decide_eq_true q))]
   by_cases g2:64<l[i]
   ·rw [if_pos (decide_eq_true g2),if_neg (show¬ (1≤l[i]∧l[i]≤64∧l[i]∉l.take i) from fun q=>by omega)];rfl
   rw [if_neg (fun q=>g2 (of_decide_eq_true q)),QbW ⟨by omega,by omega,by omega⟩,Q3N,QzC _ _ (by simp;omega)]
   simp only [Option.bind_some]
   by_cases g3:l[i]∈l.take i
   ·rw [decide_eq_true g3,if_pos rfl,if_neg (show¬ (1≤l[i]∧l[i]≤64∧l[i]∉l.take i) from fun q=>q.2.2 g3)]
   ·rw [decide_eq_false g3,if_neg (by decide),if_pos (show 1≤l[i]∧l[i]≤64∧l[i]∉l.take i from ⟨by omega,by omega,g3⟩),QfP (by omega) (by omega)];rfl
  by_cases g:1≤l[i]∧l[i]≤64∧l[i]∉l.take i
  ·rw [if_pos g] at e
   rw [Qc0 e]
   refine QsQ l hl d (i+1) (by omega) fun j hj hji=> ?_
   by_cases ej:j=i
   ·subst ej;exact g
   ·exact hp j hj (by omega)
  ·rw [if_neg g] at e
   exact .inr ⟨fun q=>g (q.2 i hlt),Qa9 e⟩
theorem Qz5 (l:List Int) (hl:l.length≤7) (i:Nat) (hi:i<l.length):∀ (d j:Nat),j+d=i→l[i]∉l.take j→
  (l[i]∉l.take i∧iter (Qc4 l (i:Int)) (j:Int)=some (.inl ()))∨(l[i]∈l.take i∧iter (Qc4 l (i:Int)) (j:Int)=some (.inr ()))
 |0,j,hj,hx=>by
  have e:j=i:=by omega
  subst e
  refine .inl ⟨hx,Qa9 ?_⟩
  unfold Qc4
  simp only
  rw [if_neg (fun q=>absurd (of_decide_eq_true q) (by omega))]
 |d+1,j,hj,hx=>by
  have hlt:j<l.length:=by omega
  by_cases g:l[j]=l[i]
  ·refine .inr ⟨?_,Qa9 ?_⟩
   ·rw [←g]
    exact List.mem_take_iff_getElem.2 ⟨j,by omega,rfl⟩
   ·unfold Qc4
    simp only
    rw [if_pos (decide_eq_true (by omega)),QbW ⟨by omega,by omega⟩,QbW ⟨by omega,by omega⟩,rdnA hlt,rdnA hi,if_pos (decide_eq_true g)]
  ·have hstep:Qc4 l (i:Int) (j:Int)=some (.inl ((j+1:Nat):Int)):=by
    unfold Qc4
    simp only
    rw [if_pos (decide_eq_true (by omega)),QbW ⟨by omega,by omega⟩,QbW ⟨by omega,by omega⟩,rdnA hlt,rdnA hi,if_neg (fun q=>g (of_decide_eq_true q)),QfP (by omega) (by omega)]
    rfl
   rw [Qc0 hstep]
   refine Qz5 l hl i hi d (j+1) (by omega) ?_
   rw [List.take_succ_eq_append_getElem hlt,List.mem_append,List.mem_singleton]
   exact fun q=>q.elim hx fun q=>g q.symm
theorem QwG (l:List Int) (hl:l.length≤7):∀ (d i:Nat),i+d=l.length→(∀ j (h:j<l.length),j<i→1≤l[j]∧l[j]≤64∧l[j]∉l.take j)→
  (brOk l∧iter (QdI l) (i:Int)=some (.inl ()))∨(¬ brOk l∧iter (QdI l) (i:Int)=some (.inr ()))
 |0,i,hi,hp=>by
  refine .inl ⟨⟨hl,fun j hj=>hp j hj (by omega)⟩,Qa9 ?_⟩
  unfold QdI
  simp only
  rw [if_neg (fun q=>absurd (of_decide_eq_true q) (by omega))]
 |d+1,i,hi,hp=>by
  have hlt:i<l.length:=by omega
  have e:QdI l (i:Int)=if 1≤l[i]∧l[i]≤64∧l[i]∉l.take i then some (.inl ((i+1:Nat):Int))else some (.inr (.inr ())):=by
   unfold QdI
   simp only
   rw [if_pos (decide_eq_true (by omega)),QbW ⟨by omega,by omega⟩,rdnA hlt]
   by_cases g1:l[i]<1
   ·rw [if_pos (decide_eq_true g1),if_neg (show¬ (1≤l[i]∧l[i]≤64∧l[i]∉l.take i) from fun q=>by omega)];rfl
   rw [if_neg (fun q=>g1 (of_decide_eq_true q)),QbW ⟨by omega,by omega⟩]
   simp only [Option.bind_some]
   by_cases g2:64<l[i]
   ·rw [if_pos (decide_eq_true g2),if_neg (show¬ (1≤l[i]∧l[i]≤64∧l[i]∉l.take i) from fun q=>by omega)];rfl
   rw [if_neg (fun q=>g2 (of_decide_eq_true q))]
   have h:=Qz5 l hl i hlt i 0 (by omega) (by simp)
   rw [show ((0:Nat):Int)=0 from rfl] at h
   rcases h with⟨h1,h2⟩ |⟨h1,h2⟩
   ·rw [h2,if_pos (show 1≤l[i]∧l[i]≤64∧l[i]∉l.take i from ⟨by omega,by omega,h1⟩),QfP (by omega) (by omega)];rfl
   ·rw [h2,if_neg (show¬ (1≤l[i]∧l[i]≤64∧l[i]∉l.take i) from fun q=>q.2.2 h1)];rfl
  by_cases g:1≤l[i]∧l[i]≤64∧l[i]∉l.take i
  ·rw [if_pos g] at e
   rw [Qc0 e]
   refine QwG l hl d (i+1) (by omega) fun j hj hji=> ?_
   by_cases ej:j=i
   ·subst ej;exact g
   ·exact hp j hj (by omega)
  ·rw [if_neg g] at e
   exact .inr ⟨fun q=>g (q.2 i hlt),Qa9 e⟩
theorem Q0T (l:List Int):∃ b:Bool,QdL l=some b∧Qc7 l=some b∧(b=true↔brOk l):=by
 unfold QdL Qc7
 by_cases h:7<l.length
 ·rw [if_pos (decide_eq_true (by omega)),if_pos (decide_eq_true (by omega))]
  exact⟨false,rfl,rfl,fun q=>(by cases q),fun q=>absurd q.1 (by omega)⟩
 ·rw [if_neg (fun q=>absurd (of_decide_eq_true q) (by omega)),if_neg (fun q=>absurd (of_decide_eq_true q) (by omega))]
  have h1:=QsQ l (by omega) l.length 0 (by omega) (fun j hj hji=>by omega)
  have h2:=QwG l (by omega) l.length 0 (by omega) (fun j hj hji=>by omega)
  rw [show ((0:Nat):Int)=0 from rfl] at h1 h2
  rcases h1 with⟨a1,b1⟩ |⟨a1,b1⟩
  ·rcases h2 with⟨a2,b2⟩ |⟨a2,b2⟩
   ·exact⟨true,by rw [b1];rfl,by rw [b2];rfl,fun _=>a1,fun _=>rfl⟩
   ·exact absurd a1 a2
  ·rcases h2 with⟨a2,b2⟩ |⟨a2,b2⟩
   ·exact absurd a2 a1
   ·exact⟨false,by rw [b1];rfl,by rw [b2];rfl,fun q=>(by cases q),fun q=>absurd q a1⟩
theorem Q12 {v:List Int}(h:okB v):bytesOf (strOfNums v)=v:=by
 unfold bytesOf strOfNums
 rw [List.map_map]
 have:∀ x∈v,((fun(b:UInt8)=>(b.toNat:Int))∘fun n=>UInt8.ofNat n.toNat) x=x:=by
  intro x hx
  have:=h x hx
  show ((UInt8.ofNat x.toNat).toNat:Int)=x
  rw [UInt8.toNat_ofNat']
  omega
 rw [List.map_congr_left this,List.map_id']
theorem QbR {α β:Type}{x:Option α}{y:α}{f:α→Option β}(h:x=some y):x.bind f=f y:=by rw [h];rfl
def cI (f:Bool) (n:Int):List Int:=if f=true then intB n else[]
def cT (f:Bool) (s:ByteArray):List Int:=if f=true then QnD (bytesOf s)else[]
def cK (f:Bool) (k v:ByteArray) (x:Bool):List Int:=if f=true then QnD (bytesOf k)++(QnD (bytesOf v)++QvX x)else[]
def cR (f:Bool) (l:List Int):List Int:=if f=true then rowB l else[]
theorem QvH (x:Bool):(QvX x).length=1:=by cases x<;>rfl
theorem Q13 (s:List Int):(QnD s).length≤8+s.length:=by unfold QnD;rw [List.length_append];have:=(Qi7 (s.length:Int)).1;omega
theorem QlD (l:List Int):(rowB l).length≤8+8*l.length:=by unfold rowB;rw [List.length_append];have:=(Qi7 (l.length:Int)).1;have:=Qx2 l;omega
abbrev Rec:=QaO
def Q6G (k:Int):Int:=if k=2 then 1027 else if k=3∨k=4∨k=5∨k=6 then 3 else if k=7 then 132 else if k=8 then 6172 else if k=9 then 14366 else if k=10 then 836 else if k=11 then 4 else if k=12 then 32 else 0
def hasR (k bit:Int):Bool:=decide (andI .i64 (Q6G k) bit≠0)
def okC (c:Int):Bool:=(decide (97≤c)&&decide (c≤122)) ||(decide (48≤c)&&decide (c≤57)) ||decide (c=46) ||decide (c=45)
def Qh0 (s:ByteArray):Bool:=decide (1≤s.size)&&decide (s.size≤40)&& !decide (s=⟨#[46]⟩)&& !decide (s=⟨#[46,46]⟩)&&(bytesOf s).all okC
theorem Q47 {s:ByteArray}{i:Nat}(h:i<s.size):btAt s (i:Int)=rd (bytesOf s) (i:Int):=by
 have hd:i<s.data.size:=h
 have e1:s[i]?=some s[i]:=getElem?_pos s i h
 have e2:(bytesOf s)[i]?=some ((s.data[i].toNat:Nat):Int):=by
  unfold bytesOf
  rw [List.getElem?_map,Array.getElem?_toList,Array.getElem?_eq_getElem hd]
  rfl
 unfold btAt rd
 rw [Int.toNat_natCast,e1,List.getD_eq_getElem?_getD,e2]
 rfl
theorem Q14 {c:Int}:(((if(decide ((97:Int)≤c))=true then(if(decide ((48:Int)≤c))=true then(some (decide (c≤(122:Int)),decide (c≤(57:Int))))else(some (decide (c≤(122:Int)),false)))else(if(decide ((48:Int)≤c))=true then(some (false,decide (c≤(57:Int))))else(some (false,false)))):Option (Bool×Bool)).bind fun(x41,x42)=>(if(!x41)=true then(if(!x42)=true then(if(decide (c≠(46:Int)))=true then(some (decide (c≠(45:Int))))else(some false))else(some false))else(some false)))=some (!okC c):=by
 unfold okC
 simp only [ne_eq,decide_not]
 generalize decide (97≤c)=b1
 generalize decide (c≤122)=b2
 generalize decide (48≤c)=b3
 generalize decide (c≤57)=b4
 generalize decide (c=46)=b5
 generalize decide (c=45)=b6
 cases b1<;>cases b2<;>cases b3<;>cases b4<;>cases b5<;>cases b6<;>rfl
theorem Q0U {c:Int}:(if(decide ((97:Int)≤c))=true then(if(decide (c≤(122:Int)))=true then(some true)else(if(decide ((48:Int)≤c))=true then(if(decide (c≤(57:Int)))=true then(some true)else(if(decide (c=(46:Int)))=true then(some true)else(some (decide (c=(45:Int))))))else(if(decide (c=(46:Int)))=true then(some true)else(some (decide (c=(45:Int)))))))else(if(decide ((48:Int)≤c))=true then(if(decide (c≤(57:Int)))=true then(some true)else(if(decide (c=(46:Int)))=true then(some true)else(some (decide (c=(45:Int))))))else(if(decide (c=(46:Int)))=true then(some true)else(some (decide (c=(45:Int)))))))=some (okC c):=by
 unfold okC
 generalize decide (97≤c)=b1
 generalize decide (c≤122)=b2
 generalize decide (48≤c)=b3
 generalize decide (c≤57)=b4
 generalize decide (c=46)=b5
 generalize decide (c=45)=b6
 cases b1<;>cases b2<;>cases b3<;>cases b4<;>cases b5<;>cases b6<;>rfl
theorem Qz6 {l:List Int}{i:Nat}(h:i<l.length):(l.drop i).all okC=(okC (rd l (i:Int))&&(l.drop (i+1)).all okC):=by
 rw [List.drop_eq_getElem_cons h,List.all_cons,rdnA h]
theorem QwH (s:ByteArray) (hs:s.size≤1000000):∀ (d i:Nat),i+d=(bytesOf s).length→iter (QeZ s) (i:Int)=some (if((bytesOf s).drop i).all okC=true then .inl ()else .inr ())
 |0,i,hi=>by
  refine Qa9 ?_
  rw [List.drop_eq_nil_of_le (by omega)]
  unfold QeZ
  simp only
  rw [if_neg (fun q=>absurd (of_decide_eq_true q) (by omega))]
  rfl
 |d+1,i,hi=>by
  have hlt:i<(bytesOf s).length:=by omega
  have hsz:=QfK s
  rw [Qz6 hlt]
  have e:QeZ s (i:Int)=if(!okC (rd (bytesOf s) (i:Int)))=true then some (.inr (.inr ()))else some (.inl ((i+1:Nat):Int)):=by
   unfold QeZ
   simp only
   rw [if_pos (decide_eq_true (by omega)),QbW ⟨by omega,by omega⟩,QfP (by omega) (by omega)]
   have k:=Q14 (c:=rd (bytesOf s) (i:Int))
   generalize rd (bytesOf s) (i:Int)=c at k⊢
   refine Eq.trans ?_ (QbR (f:=fun(x47:Bool)=>if x47=true then some (Sum.inr (Sum.inr ()))else some (Sum.inl ((i:Int)+1))) k)
   rw [Option.bind_assoc]
  cases g:okC (rd (bytesOf s) (i:Int))
  ·rw [g] at e
   exact Qa9 e
  ·rw [g] at e
   rw [Qc0 e]
   exact QwH s hs d (i+1) (by omega)
theorem QwI (s:ByteArray) (hs:s.size≤1000000):∀ (d i:Nat),i+d=(bytesOf s).length→iter (QfU s) (i:Int)=some (if((bytesOf s).drop i).all okC=true then .inl ()else .inr ())
 |0,i,hi=>by
  have hsz:=QfK s
  refine Qa9 ?_
  rw [List.drop_eq_nil_of_le (by omega)]
  unfold QfU
  simp only
  rw [if_neg (fun q=>absurd (of_decide_eq_true q) (by omega))]
  rfl
 |d+1,i,hi=>by
  have hlt:i<(bytesOf s).length:=by omega
  have hsz:=QfK s
  rw [Qz6 hlt]
  have e:QfU s (i:Int)=if(!okC (rd (bytesOf s) (i:Int)))=true then some (.inr (.inr ()))else some (.inl ((i+1:Nat):Int)):=by
   unfold QfU
   simp only
   rw [if_pos (decide_eq_true (by omega)),QbW ⟨by omega,by omega⟩,QfP (by omega) (by omega),Q47 (by omega)]
   exact QbR Q0U
  cases g:okC (rd (bytesOf s) (i:Int))
  ·rw [g] at e
   exact Qa9 e
  ·rw [g] at e
   rw [Qc0 e]
   exact QwI s hs d (i+1) (by omega)
theorem Q8Z {s:ByteArray}:decide (s=(⟨#[]⟩:ByteArray))= !decide (1≤s.size):=by
 by_cases h:s=⟨#[]⟩
 ·subst h;rfl
 ·rw [decide_eq_false h]
  have:1≤s.size:=by
   refine Classical.byContradiction fun z=>h ?_
   have h0:s.data.size=0:=by have:s.size=s.data.size:=rfl;omega
   obtain ⟨d⟩:=s
   congr 1
   exact Array.eq_empty_of_size_eq_zero h0
  rw [decide_eq_true this];rfl
theorem Qx8 (b1 b2 b3 b4 t:Bool){X:Option (Unit⊕Unit)}(h:b2=true→X=some (if t=true then .inl ()else .inr ())):
  ((((if b1=false then(some true)else(if b2=false then(some true)else(if b3=true then(some true)else(some b4)))):Option Bool).bind fun(x21:Bool)=>(if x21=true then(some false)else(((X.bind (Sum.elim (fun _=>(some (Sum.inl ()))) (fun _=>(((some false)).bind fun r=>some (Sum.inr r))))):Option (Unit⊕Bool)).bind (Sum.elim (fun _=>(some true)) some)))))=some (b1&&b2&& !b3&& !b4&&t):=by
 cases b1
 ·rfl
 cases b2
 ·rfl
 rw [h rfl]
 cases b3
 ·cases b4
  ·cases t<;>rfl
  ·rfl
 ·rfl
theorem QxB (s:ByteArray):Qe9 s=some (Qh0 s):=by
 have e1:(decide (s=(⟨#[]⟩:ByteArray))=true)=(decide (1≤s.size)=false):=by rw [Q8Z];cases decide (1≤s.size)<;>simp
 have e2:(decide ((40:Int)<(s.size:Int))=true)=(decide (s.size≤40)=false):=by
  rw [decide_eq_true_eq,decide_eq_false_iff_not];exact propext ⟨fun h=>by omega,fun h=>by omega⟩
 unfold Qe9 Qh0
 simp only [e1,e2]
 refine Qx8 _ _ _ _ _ fun h=> ?_
 have h:=of_decide_eq_true h
 have k:=QwH s (by omega) (bytesOf s).length 0 (by omega)
 rw [List.drop_zero] at k
 exact k
theorem QxC (s:ByteArray):Qe5 s=some (Qh0 s):=by
 have e1:(decide ((s.size:Int)<1)=true)=(decide (1≤s.size)=false):=by
  rw [decide_eq_true_eq,decide_eq_false_iff_not];exact propext ⟨fun h=>by omega,fun h=>by omega⟩
 have e2:(decide ((40:Int)<(s.size:Int))=true)=(decide (s.size≤40)=false):=by
  rw [decide_eq_true_eq,decide_eq_false_iff_not];exact propext ⟨fun h=>by omega,fun h=>by omega⟩
 unfold Qe5 Qh0
 simp only [e1,e2]
 refine Qx8 _ _ _ _ _ fun h=> ?_
 have h:=of_decide_eq_true h
 have k:=QwI s (by omega) (bytesOf s).length 0 (by omega)
 rw [List.drop_zero] at k
 exact k
theorem QkS {s:ByteArray}(h:Qh0 s=true):1≤s.size∧s.size≤40:=by
 unfold Qh0 at h
 simp only [Bool.and_eq_true,decide_eq_true_eq] at h
 exact⟨h.1.1.1.1,h.1.1.1.2⟩
def numW (n:Int) (has:Bool) (least most:Int):Bool:=if has=true then decide (least≤n∧n≤most)else decide (n=0)
def Q48 (s:ByteArray) (has:Bool):Bool:=if has=true then Qh0 s else decide (s=⟨#[]⟩)
def Q80 (s:ByteArray) (has:Bool):Bool:=if has=true then decide ((s.size:Int)≤256)else decide (s=⟨#[]⟩)
open Classical in
noncomputable def brB (l:List Int):Bool:=decide (brOk l)
theorem Qo5 {l:List Int}:brB l=true↔brOk l:=by unfold brB;simp
theorem Q6H (l:List Int):QdL l=some (brB l)∧Qc7 l=some (brB l):=by
 obtain ⟨b,h1,h2,h3⟩:=Q0T l
 have:b=brB l:=by rw [Bool.eq_iff_iff,h3,Qo5]
 rw [←this]
 exact⟨h1,h2⟩
theorem Q6I {l:List Int}(h:¬ brOk l):brB l=false:=by
 cases hb:brB l
 ·rfl
 ·exact absurd (Qo5.1 hb) h
theorem pbrB (l:List Int):QdL l=some (brB l):=by
 unfold QdL
 by_cases h:7<l.length
 ·rw [if_pos (decide_eq_true (by omega))]
  rw [Q6I (fun q=>absurd q.1 (by omega))]
 ·rw [if_neg (fun q=>absurd (of_decide_eq_true q) (by omega))]
  have h1:=QsQ l (by omega) l.length 0 (by omega) (fun j hj hji=>by omega)
  rw [show ((0:Nat):Int)=0 from rfl] at h1
  rcases h1 with⟨a1,b1⟩ |⟨a1,b1⟩
  ·rw [b1,Qo5.2 a1];rfl
  ·rw [b1,Q6I a1];rfl
noncomputable def rowV (l:List Int) (has:Bool):Bool:=if has=true then brB l else decide ((l.length:Int)=0)
def Q6J (k:Int):Int:=if k=10 then 0 else 1
structure okRec (r:Rec):Prop where
 kind:1≤r.Kind∧r.Kind≤12
 broker:numW r.Broker (hasR r.Kind 1) 1 64=true
 epoch:numW r.Epoch (hasR r.Kind 2) 0 1073741824=true
 topic:numW r.Topic (hasR r.Kind 4) (Q6J r.Kind) 1073741824=true
 part:numW r.Part (hasR r.Kind 8) 0 255=true
 leader:numW r.Leader (hasR r.Kind 16) 0 64=true
 client:numW r.Client (hasR r.Kind 32) 1 1073741824=true
 serial:numW r.Serial (hasR r.Kind 32) 1 1073741824=true
 code:numW r.Code (hasR r.Kind 32) 0 21=true
 flag:hasR r.Kind 64=false→r.Flag=false
 name:Q48 r.Name (hasR r.Kind 128)=true
 key:Q48 r.Key (hasR r.Kind 256)=true
 rack:Q48 r.Rack (hasR r.Kind 1024)=true
 value:Q80 r.Value (hasR r.Kind 512)=true
 ids:rowV r.Ids (hasR r.Kind 2048)=true
 isr:rowV r.Isr (hasR r.Kind 4096)=true
 add:rowV r.Add (hasR r.Kind 8192)=true
 drop:rowV r.Drop (hasR r.Kind 8192)=true
theorem Qs4 {l:List Int}{h:Bool}(k:rowV l h=true):brOk l∧(h=false→l=[]):=by
 unfold rowV at k
 cases h
 ·have:(l.length:Int)=0:=of_decide_eq_true (by simpa using k)
  have:l=[]:=List.eq_nil_of_length_eq_zero (by omega)
  subst this
  exact⟨⟨by simp,fun i h=>by simp at h⟩,fun _=>rfl⟩
 ·exact⟨Qo5.1 (by simpa using k),fun q=>(by cases q)⟩
theorem QzD {l:List Int}(h:brOk l):∀ x∈l,1≤x∧x≤64:=by
 intro x hx
 obtain ⟨i,hi,rfl⟩:=List.getElem_of_mem hx
 exact⟨(h.2 i hi).1,(h.2 i hi).2.1⟩
def cF (f:Bool) (x:Bool):List Int:=if f=true then QvX x else[]
def QcZ {ε:Type}(g:Nat→Option ε):Nat→Nat→Option ε
 |0,_=>none
 |d+1,i=>match g i with |some e=>some e |none=>QcZ g d (i+1)
theorem QvI {ε:Type}{g:Nat→Option ε}:∀ {d i:Nat},QcZ g d i=none↔∀ j,i≤j→j<i+d→g j=none
 |0,i=>by simp [QcZ];intro j h1 h2;omega
 |d+1,i=>by
  unfold QcZ
  cases h:g i with
  |some e=>simp only [reduceCtorEq,false_iff];intro k;have:=k i (by omega) (by omega);rw [h] at this;cases this
  |none=>
   simp only
   rw [QvI]
   constructor
   ·intro k j h1 h2
    by_cases e:j=i
    ·subst e;exact h
    ·exact k j (by omega) (by omega)
   ·intro k j h1 h2;exact k j (by omega) (by omega)
theorem QcK {ε:Type}{g:Nat→Option ε}{n:Nat}:QcZ g n 0=none↔∀ j,j<n→g j=none:=
 QvI.trans ⟨fun h j hj=>h j (by omega) (by omega),fun h j _ hj=>h j (by omega)⟩
theorem QmO {ε:Type}{g:Nat→Option ε}{e:ε}:∀ {d i:Nat},QcZ g d i=some e→∃ j,i≤j∧j<i+d∧g j=some e∧∀ k,i≤k→k<j→g k=none
 |0,i,h=>by cases h
 |d+1,i,h=>by
  unfold QcZ at h
  cases hg:g i with
  |some x=>rw [hg] at h;cases h;exact⟨i,by omega,by omega,hg,fun k h1 h2=>by omega⟩
  |none=>
   rw [hg] at h
   obtain ⟨j,h1,h2,h3,h4⟩:=QmO (d:=d) (i:=i+1) h
   exact⟨j,by omega,by omega,h3,fun k k1 k2=>by
    by_cases e:k=i
    ·subst e;exact hg
    ·exact h4 k (by omega) k2⟩
theorem QvJ {α ε:Type}[Inhabited α] (l:List α) (h:α→Option ε):∀ (d i:Nat),i+d=l.length→QcZ (fun j=>h (rd l (j:Int))) d i=(l.drop i).findSome? h
 |0,i,hi=>by rw [List.drop_of_length_le (by omega)];rfl
 |d+1,i,hi=>by
  have hlt:i<l.length:=by omega
  unfold QcZ
  rw [List.drop_eq_getElem_cons hlt,List.findSome?_cons]
  simp only [QbT hlt]
  cases h l[i]with
  |some e=>rfl
  |none=>exact QvJ l h d (i+1) (by omega)
theorem Qx9 {α ε:Type}[Inhabited α] (l:List α) (h:α→Option ε):QcZ (fun j=>h (rd l (j:Int))) l.length 0=l.findSome? h:=QvJ l h l.length 0 (by omega)
theorem QxD {α ε:Type}(l:List α) (p:α→Bool) (f:α→ε):l.findSome? (fun x=>if p x=true then some (f x)else none)=(l.find? p).map f:=by
 induction l with
 |nil=>rfl
 |cons x l ih=>
  rw [List.findSome?_cons,List.find?_cons]
  cases p x
  ·simpa using ih
  ·simp
def QxE {ε E:Type}(fin:E) (ex:ε→E):Option ε→E
 |none=>fin
 |some e=>ex e
theorem QdK {S ε E : Type} {step : S → Option (S ⊕ E)} {n : Nat} {st : Nat → S} {g : Nat → Option ε} {ex : ε → E} {fin : E}
    (hstep : ∀ i, i < n → (∀ j, j < i → g j = none) → step (st i) = some (match g i with | none => .inl (st (i + 1)) | some e => .inr (ex e)))
    (hend : (∀ j, j < n → g j = none) → step (st n) = some (.inr fin)) :
    iter step (st 0) = some (QxE fin ex (QcZ g n 0)) := by
  have key : ∀ d i, i + d = n → (∀ j, j < i → g j = none) → iter step (st i) = some (QxE fin ex (QcZ g d i)) := by
    intro d
    induction d with
    | zero => intro i hi h; have : i = n := by omega
              subst this; exact Qa9 (hend h)
    | succ d ih =>
      intro i hi h
      have hs := hstep i (by omega) h
      unfold QcZ
      cases hg : g i with
      | some e => rw [hg] at hs; exact Qa9 hs
      | none =>
        rw [hg] at hs
        rw [Qc0 hs]
        exact ih (i + 1) (by omega) fun j hj => by
          by_cases e : j = i
          · subst e; exact hg
          · exact h j (by omega)
  exact key n 0 (by omega) (fun j hj => by omega)
def Q0V {σ:Type}(f:Nat→σ→σ):Nat→Nat→σ→σ
 |0,_,a=>a
 |d+1,i,a=>Q0V f d (i+1) (f i a)
theorem Q15 {S σ E : Type} {step : S → Option (S ⊕ E)} {n : Nat} {mk : σ → Nat → S} {f : Nat → σ → σ} {fin : σ → E} (Inv : Nat → σ → Prop) {a0 : σ} (h0 : Inv 0 a0)
    (hstep : ∀ i a, i < n → Inv i a → step (mk a i) = some (.inl (mk (f i a) (i + 1))) ∧ Inv (i + 1) (f i a))
    (hend : ∀ a, Inv n a → step (mk a n) = some (.inr (fin a))) : iter step (mk a0 0) = some (fin (Q0V f n 0 a0)) := by
  have key : ∀ d i a, i + d = n → Inv i a → iter step (mk a i) = some (fin (Q0V f d i a)) := by
    intro d
    induction d with
    | zero => intro i a hi h; have : i = n := by omega
              subst this; exact Qa9 (hend a h)
    | succ d ih =>
      intro i a hi h
      obtain ⟨h1, h2⟩ := hstep i a (by omega) h
      rw [Qc0 h1]
      exact ih (i + 1) _ (by omega) h2
  exact key n 0 a0 (by omega) h0
theorem QwJ {α σ:Type}[Inhabited α] (l:List α) (h:σ→α→σ):∀ (d i:Nat) (a:σ),i+d=l.length→Q0V (fun j a=>h a (rd l (j:Int))) d i a=(l.drop i).foldl h a
 |0,i,a,hi=>by rw [List.drop_of_length_le (by omega)];rfl
 |d+1,i,a,hi=>by
  have hlt:i<l.length:=by omega
  unfold Q0V
  rw [List.drop_eq_getElem_cons hlt,List.foldl_cons,QbT hlt]
  exact QwJ l h d (i+1) _ (by omega)
theorem QzE {α σ:Type}[Inhabited α] (l:List α) (h:σ→α→σ) (a:σ):Q0V (fun j a=>h a (rd l (j:Int))) l.length 0 a=l.foldl h a:=QwJ l h l.length 0 a (by omega)
theorem QbO {i n:Nat}(hi:i<n) (hn:n≤1000000000):IntKind.i64.wrap ((i:Int)+1)=((i+1:Nat):Int):=by
 rw [QfP (by omega) (by omega)];rfl
theorem lt_i {i n:Nat}(h:i<n):decide ((i:Int)<(n:Int))=true:=decide_eq_true (by omega)
theorem lt_n (n:Nat):decide ((n:Int)<(n:Int))=false:=decide_eq_false (by omega)
theorem in_i {i n:Nat}(h:i<n):0≤(i:Int)∧(i:Int)<(n:Int):=⟨by omega,by omega⟩
def cntM {α:Type}[DecidableEq α] (m:List (α×Int)) (x:α):List (α×Int):=QeK m x (IntKind.i64.wrap (Qb6 m x+1))
def QlE {α:Type}[DecidableEq α] (l:List α):List (α×Int):=l.foldl cntM []
def cnt {α:Type}[DecidableEq α] (l:List α) (q:α):Nat:=(l.filter fun x=>decide (x=q)).length
def inL {α:Type}[DecidableEq α] (l:List α) (q:α):Bool:=l.any fun x=>decide (x=q)
theorem QsR {α:Type}[DecidableEq α]{l:List α}{q:α}:inL l q=true↔q∈l:=by
 unfold inL
 rw [List.any_eq_true]
 constructor
 ·rintro ⟨x,hx,e⟩;rw [←of_decide_eq_true e];exact hx
 ·intro h;exact⟨q,h,decide_eq_true rfl⟩
theorem QsS {α:Type}[DecidableEq α]{l:List α}{q:α}:0<cnt l q↔q∈l:=by
 unfold cnt
 rw [List.length_pos_iff_exists_mem]
 constructor
 ·rintro ⟨x,hx⟩;obtain ⟨h1,h2⟩:=List.mem_filter.1 hx;rw [←of_decide_eq_true h2];exact h1
 ·intro h;exact⟨q,List.mem_filter.2 ⟨h,decide_eq_true rfl⟩⟩
theorem QwK {α:Type}[DecidableEq α] (l m:List α) (q:α):cnt (l++m) q=cnt l q+cnt m q:=by unfold cnt;simp
theorem Q16 {α:Type}[DecidableEq α] (q:α):cnt [q] q=1:=by unfold cnt;simp
theorem QyA {α:Type}[DecidableEq α]:∀ (l:List α) (m:List (α×Int)) (k:Nat) (q:α),(∀ x,0≤Qb6 m x∧Qb6 m x≤(k:Int))→k+l.length≤1000000000→
  Qb6 (l.foldl cntM m) q=Qb6 m q+(cnt l q:Int)
 |[],m,k,q,_,_=>by simp [cnt]
 |x::l,m,k,q,h,hk=>by
  simp only [List.length_cons] at hk
  have hx:=h x
  have hw:IntKind.i64.wrap (Qb6 m x+1)=Qb6 m x+1:=QfP (by omega) (by omega)
  rw [List.foldl_cons,QyA l (cntM m x) (k+1) q _ (by omega)]
  ·unfold cntM cnt
   rw [QjU,hw,List.filter_cons]
   by_cases e:q=x
   ·subst e;simp;omega
   ·have:¬ x=q:=Ne.symm e
    simp [e,this]
  ·intro y
   unfold cntM
   rw [QjU,hw]
   have:=h y
   split<;>omega
theorem Q17 {α:Type}[DecidableEq α] (l:List α) (q:α) (hl:l.length≤1000000000):Qb6 (QlE l) q=(cnt l q:Int):=by
 unfold QlE
 rw [QyA l [] 0 q (fun x=>by simp [Qb6]) (by omega)]
 simp [Qb6]
abbrev Img:=QaA
abbrev Bk:=QaD
abbrev Tp:=QaE
abbrev Pt:=QaK
abbrev Cf:=QaJ
abbrev Dn:=QaT
theorem nat0:((0:Nat):Int)=0:=rfl
noncomputable def idxV {α:Type}[Inhabited α] (l:List α) (p:α→Bool):Int:=
 match QcZ (fun i=>if p (rd l (i:Int))=true then some (i:Int)else none) l.length 0 with
 |none=> -1
 |some e=>e
theorem Q18 {α:Type}[Inhabited α] (l:List α) (p:α→Bool):decide (0≤idxV l p)=l.any p:=by
 unfold idxV
 cases h:QcZ (fun i=>if p (rd l (i:Int))=true then some (i:Int)else none) l.length 0 with
 |none=>
  have:=QcK.1 h
  have:l.any p=false:=by
   rw [List.any_eq_false]
   intro x hx
   obtain ⟨i,hi,rfl⟩:=List.getElem_of_mem hx
   have:=this i hi
   rw [QbT hi] at this
   intro q;rw [if_pos q] at this;cases this
  rw [this];rfl
 |some e=>
  obtain ⟨j,_,hj,h3,_⟩:=QmO h
  rw [QbT (by omega)] at h3
  by_cases q:p l[j]=true
  ·rw [if_pos q] at h3
   cases h3
   have:l.any p=true:=List.any_eq_true.2 ⟨_,List.getElem_mem _,q⟩
   rw [this];exact decide_eq_true (Int.natCast_nonneg j)
  ·rw [if_neg q] at h3;cases h3
theorem Qz7 {α:Type}[Inhabited α]{l:List α}{p:α→Bool}{step:Int→Option (Int⊕(Unit⊕Int))}
  (hs:∀ i:Nat,(hi:i<l.length)→step (i:Int)=some (if p l[i]=true then .inr (.inr (i:Int))else .inl ((i+1:Nat):Int))) (he:step (l.length:Int)=some (.inr (.inl ()))):
  (((iter step 0).bind (Sum.elim (fun _=>(some (Sum.inl ()))) (fun(x24:Int)=>(((some x24)).bind fun r=>some (Sum.inr r))))):Option (Unit⊕Int)).bind (Sum.elim (fun _=>(some (-1:Int))) some)=some (idxV l p):=by
 have:=QdK (step:=step) (n:=l.length) (st:=fun i=>(i:Int)) (g:=fun i=>if p (rd l (i:Int))=true then some (i:Int)else none) (ex:=fun e=> .inr e) (fin:= .inl ())
  (fun i hi _=>by
   rw [hs i hi,QbT hi]
   cases p l[i]<;>rfl) (fun _=>he)
 rw [nat0] at this
 rw [this]
 unfold idxV
 cases QcZ (fun i=>if p (rd l (i:Int))=true then some (i:Int)else none) l.length 0<;>rfl
def QrM (m:Img) (id:Int):Bool:=m.Topics.any fun t=>t.Parts.any fun p=>decide (p.Leader=id)
theorem Q6K (l:List Pt) (id:Int) (hl:l.length≤1000000000):QbK l id=some (l.any fun p=>decide (p.Leader=id)):=by
 unfold QbK QcC
 rw [Qz7 (l:=l) (p:=fun p=>decide (p.Leader=id))]
 ·rw [←Q18];rfl
 ·intro i hi
  unfold Qb5 QhV
  simp only [lt_i hi,if_true,QbW (in_i hi),QbT hi,Option.bind_some,QbO hi hl]
  by_cases h:l[i].Leader=id
  ·simp [h]
  ·simp [h]
 ·unfold Qb5
  simp [lt_n]
theorem Q6L (l:List Tp) (id:Int) (hl:l.length≤1000000000) (hp:∀ t∈l,t.Parts.length≤1000000000):QbL l id=some (l.any fun t=>t.Parts.any fun p=>decide (p.Leader=id)):=by
 unfold QbL QcI
 rw [Qz7 (l:=l) (p:=fun t=>t.Parts.any fun p=>decide (p.Leader=id))]
 ·rw [←Q18];rfl
 ·intro i hi
  unfold Qb7 QiU
  simp only [lt_i hi,if_true,QbW (in_i hi),QbT hi,Q6K _ _ (hp _ (List.getElem_mem hi)),Option.bind_some,QbO hi hl]
  cases (l[i].Parts.any fun p=>decide (p.Leader=id))<;>rfl
 ·unfold Qb7
  simp [lt_n]
theorem Q3O (m:Img) (id:Int) (hl:m.Topics.length≤1000000000) (hp:∀ t∈m.Topics,t.Parts.length≤1000000000):QiV m id=some (QrM m id):=by
 unfold QiV
 rw [Q6L _ _ hl hp];rfl
theorem Q19 {i j:Nat}(h:i+j≤4000000000):IntKind.i64.wrap (shrI .u64 (IntKind.u64.wrap (IntKind.i64.wrap ((i:Int)+(j:Int)))) (1:Int))=(((i+j)/2:Nat):Int):=by
 rw [show IntKind.i64.wrap ((i:Int)+(j:Int))=(i:Int)+(j:Int) from QfP (by omega) (by omega),show IntKind.u64.wrap ((i:Int)+(j:Int))=(i:Int)+(j:Int) from QqB (by omega) (by omega)]
 unfold shrI
 rw [show min ((1:Int).toNat) IntKind.u64.bits=1 by decide,Int.fdiv_eq_ediv_of_nonneg _ (by decide)]
 rw [QfP (by omega) (by omega)]
 omega
theorem Q3P {α:Type}{l:List α}{key:α→Int}{t:Int}{step:Int×Int→Option ((Int×Int)⊕Int)}
  (hb:∀ x∈l,0≤key x∧key x≤1073741824) (hso:∀ a b,(ha:a<l.length)→(hb:b<l.length)→a<b→key l[a]<key l[b])
  (hs:∀ i j:Nat,(h1:i<j)→(h2:j≤l.length)→step ((i:Int),(j:Int))=some (.inl (if IntKind.i64.wrap (key (l[(i+j)/2]'(by omega))- t)<0 then((((i+j)/2+1:Nat):Int),(j:Int))else((i:Int),(((i+j)/2:Nat):Int)))))
  (he:∀ i:Nat,step ((i:Int),(i:Int))=some (.inr (i:Int))):
  ∃ r:Nat,r≤l.length∧iter step ((0:Int),(l.length:Int))=some (r:Int)∧∀ k,(hk:k<l.length)→key l[k]=t→r=k:=by
 have main:∀ (d i j:Nat),j - i≤d→i≤j→j≤l.length→∃ r:Nat,r≤l.length∧iter step ((i:Int),(j:Int))=some (r:Int)∧∀ k,(hk:k<l.length)→key l[k]=t→i≤k→k≤j→r=k:=by
  intro d
  induction d with
  |zero=>
   intro i j h1 h2 h3
   have:i=j:=by omega
   subst this
   exact⟨i,h3,Qa9 (he i),fun k _ _ _ _=>by omega⟩
  |succ d ih=>
   intro i j h1 h2 h3
   by_cases e:i=j
   ·subst e;exact⟨i,h3,Qa9 (he i),fun k _ _ _ _=>by omega⟩
   have hlt:i<j:=by omega
   have hst:=hs i j hlt h3
   have hm:(i+j)/2<l.length:=by omega
   have hkey:∀ k,(hk:k<l.length)→key l[k]=t→(IntKind.i64.wrap (key l[(i+j)/2]- t)<0↔(i+j)/2<k):=by
    intro k hk hkt
    have b1:=hb _ (List.getElem_mem hm)
    have b2:=hb _ (List.getElem_mem hk)
    rw [QfP (by omega) (by omega)]
    rcases Nat.lt_trichotomy ((i+j)/2) k with q |q |q
    ·have:=hso _ _ hm hk q;constructor<;>intro<;>omega
    ·subst q;constructor<;>intro<;>omega
    ·have:=hso _ _ hk hm q;constructor<;>intro<;>omega
   by_cases g:IntKind.i64.wrap (key l[(i+j)/2]- t)<0
   ·rw [if_pos g] at hst
    obtain ⟨r,h4,h5,h6⟩:=ih ((i+j)/2+1) j (by omega) (by omega) h3
    exact⟨r,h4,(Qc0 hst).trans h5,fun k hk hkt h7 h8=>h6 k hk hkt (by have:=(hkey k hk hkt).1 g;omega) h8⟩
   ·rw [if_neg g] at hst
    obtain ⟨r,h4,h5,h6⟩:=ih i ((i+j)/2) (by omega) (by omega) (by omega)
    exact⟨r,h4,(Qc0 hst).trans h5,fun k hk hkt h7 h8=>h6 k hk hkt h7 (by
     rcases Nat.lt_or_ge ((i+j)/2) k with q |q
     ·exact absurd ((hkey k hk hkt).2 q) g
     ·exact q)⟩
 obtain ⟨r,h1,h2,h3⟩:=main l.length 0 l.length (by omega) (by omega) (Nat.le_refl _)
 exact⟨r,h1,h2,fun k hk hkt=>h3 k hk hkt (by omega) (by omega)⟩
def i64 (t:Int):Prop:=-9223372036854775808≤t∧t≤9223372036854775807
theorem QyB {a t:Int}(ha:0≤a∧a≤1073741824) (ht:i64 t):IntKind.i64.wrap (a - t)=0↔a=t:=by
 unfold i64 at ht
 by_cases h:a - t≤9223372036854775807
 ·rw [QfP (by omega) h];omega
 ·constructor
  ·intro q
   exfalso
   have e:IntKind.i64.wrap (a - t)=a - t - 18446744073709551616:=by
    simp only [IntKind.wrap,IntKind.signed,IntKind.bits];simp;omega
   omega
  ·intro q;omega
structure SortK {α:Type}(key:α→Int) (l:List α):Prop where
 bound:∀ x∈l,0≤key x∧key x≤1073741824
 sort:l.Pairwise (fun a b=>key a<key b)
theorem SortK.at {α:Type}{key:α→Int}{l:List α}(h:SortK key l):∀ a b,(ha:a<l.length)→(hb:b<l.length)→a<b→key l[a]<key l[b]:=
 fun a b ha hb hab=>List.pairwise_iff_getElem.1 h.sort a b ha hb hab
def QiI {α:Type}(key:α→Int) (l:List α) (t:Int):Option α:=l.find? fun x=>decide (key x=t)
theorem Q3Q {α:Type}{key:α→Int}{l:List α}(h:SortK key l){t:Int}{k:Nat}(hk:k<l.length) (hkt:key l[k]=t):QiI key l t=some l[k]:=by
 unfold QiI
 cases e:l.find? fun x=>decide (key x=t)with
 |none=>exact absurd hkt (by simpa using List.find?_eq_none.1 e _ (List.getElem_mem hk))
 |some x=>
  have h1:key x=t:=by simpa using List.find?_some e
  obtain ⟨j,hj,rfl⟩:=List.getElem_of_mem (List.mem_of_find?_eq_some e)
  rcases Nat.lt_trichotomy j k with q |q |q
  ·have:=h.at _ _ hj hk q;omega
  ·subst q;rfl
  ·have:=h.at _ _ hk hj q;omega
theorem Qz8 {α:Type}{key:α→Int}{l:List α}{t:Int}(h:∀ k,(hk:k<l.length)→key l[k]≠t):QiI key l t=none:=by
 unfold QiI
 rw [List.find?_eq_none]
 intro x hx
 obtain ⟨j,hj,rfl⟩:=List.getElem_of_mem hx
 simpa using h j hj
theorem QyC {α:Type}[Inhabited α]{key:α→Int}{l:List α}(h:SortK key l) (hl:l.length≤1000000000){t:Int}(ht:i64 t){step:Int×Int→Option ((Int×Int)⊕Int)}{c:α→Int→Option Int}(hc:∀ x,c x t=some (IntKind.i64.wrap (key x - t)))
  (hs:∀ i j:Nat,(h1:i<j)→(h2:j≤l.length)→step ((i:Int),(j:Int))=some (.inl (if IntKind.i64.wrap (key (l[(i+j)/2]'(by omega))- t)<0 then((((i+j)/2+1:Nat):Int),(j:Int))else((i:Int),(((i+j)/2:Nat):Int)))))
  (he:∀ i:Nat,step ((i:Int),(i:Int))=some (.inr (i:Int))):
  ∃ r:Nat,((((iter step ((0:Int),(l.length:Int))).bind (fun(x26:Int)=>(some x26))):Option Int).bind fun x21=>(((if(decide (x21<(l.length:Int)))=true then(grd (0≤x21∧x21<l.length) ((c (rd l x21) t).bind fun r52=>(some (x21,decide (r52=(0:Int))))))else(some (x21,false))):Option (Int×Bool)).bind fun(x41,x42)=>(some (x41,x42))))=some ((r:Int),(QiI key l t).isSome)∧
   ∀ x,QiI key l t=some x→∃ hr:r<l.length,l[r]=x:=by
 obtain ⟨r,h1,h2,h3⟩:=Q3P (l:=l) (key:=key) (t:=t) h.bound h.at hs he
 refine⟨r, ?_, ?_⟩
 ·rw [h2]
  simp only [Option.bind_some]
  by_cases hr:r<l.length
  ·rw [lt_i hr,if_pos rfl,QbW (in_i hr),QbT hr,hc]
   simp only [Option.bind_some]
   by_cases e:key l[r]=t
   ·rw [Q3Q h hr e,decide_eq_true ((QyB (h.bound _ (List.getElem_mem hr)) ht).2 e)];rfl
   ·have:QiI key l t=none:=Qz8 fun k hk hkt=>e (by have:=h3 k hk hkt;subst this;exact hkt)
    rw [this,decide_eq_false (fun q=>e ((QyB (h.bound _ (List.getElem_mem hr)) ht).1 q))];rfl
  ·have:QiI key l t=none:=Qz8 fun k hk hkt=>hr (by have:=h3 k hk hkt;omega)
   rw [this,decide_eq_false (by omega)];rfl
 ·intro x hx
  unfold QiI at hx
  have e1:key x=t:=by simpa using List.find?_some hx
  obtain ⟨j,hj,rfl⟩:=List.getElem_of_mem (List.mem_of_find?_eq_some hx)
  have:=h3 j hj e1
  subst this
  exact⟨hj,rfl⟩
abbrev bz:Bk:=⟨0,0,⟨#[]⟩,false,false⟩
abbrev tz:Tp:=⟨0,⟨#[]⟩,[]⟩
abbrev bkId (b:Bk):Int:=b.Id
abbrev tpId (t:Tp):Int:=t.Id
def getV {α:Type}(z:α):Option α→α×Bool
 |some x=>(x,true)
 |none=>(z,false)
theorem QyD {m:Img}(h:SortK bkId m.Brokers) (hl:m.Brokers.length≤1000000000){t:Int}(ht:i64 t):QgU m t=some (getV bz (QiI bkId m.Brokers t)):=by
 unfold QgU QjP QcU QaZ
 obtain ⟨r,h1,h2⟩:=QyC (step:=QaQ m.Brokers t) (c:=Qb3) h hl ht (fun x=>rfl)
  (fun i j h1 h2=>by
   unfold QaQ
   have hm:(i+j)/2<m.Brokers.length:=by omega
   simp only [Q19 (i:=i) (j:=j) (by omega)]
   rw [if_pos (decide_eq_true (by omega)),QbW (in_i hm),QbT hm,QbO hm hl]
   show (if decide (IntKind.i64.wrap (m.Brokers[(i+j)/2].Id - t)<0)=true then _ else _)=_
   by_cases g:IntKind.i64.wrap (m.Brokers[(i+j)/2].Id - t)<0
   ·rw [if_pos (decide_eq_true g),if_pos g]
   ·rw [if_neg (fun q=>g (of_decide_eq_true q)),if_neg g])
  (fun i=>by unfold QaQ;simp)
 rw [h1]
 simp only [Option.bind_some]
 cases e:QiI bkId m.Brokers t with
 |none=>rfl
 |some x=>
  obtain ⟨hr,hx⟩:=h2 x e
  simp only [Option.isSome_some,Bool.not_true,Bool.false_eq_true,if_false]
  rw [QbW (in_i hr),QbT hr,hx];rfl
theorem Q3R {m:Img}(h:SortK tpId m.Topics) (hl:m.Topics.length≤1000000000){t:Int}(ht:i64 t):QiY m t=some (getV tz (QiI tpId m.Topics t)):=by
 unfold QiY QkP Qc5 Qa2
 obtain ⟨r,h1,h2⟩:=QyC (step:=QaR m.Topics t) (c:=Qb9) h hl ht (fun x=>rfl)
  (fun i j h1 h2=>by
   unfold QaR
   have hm:(i+j)/2<m.Topics.length:=by omega
   simp only [Q19 (i:=i) (j:=j) (by omega)]
   rw [if_pos (decide_eq_true (by omega)),QbW (in_i hm),QbT hm,QbO hm hl]
   show (if decide (IntKind.i64.wrap (m.Topics[(i+j)/2].Id - t)<0)=true then _ else _)=_
   by_cases g:IntKind.i64.wrap (m.Topics[(i+j)/2].Id - t)<0
   ·rw [if_pos (decide_eq_true g),if_pos g]
   ·rw [if_neg (fun q=>g (of_decide_eq_true q)),if_neg g])
  (fun i=>by unfold QaR;simp)
 rw [h1]
 simp only [Option.bind_some]
 cases e:QiI tpId m.Topics t with
 |none=>rfl
 |some x=>
  obtain ⟨hr,hx⟩:=h2 x e
  simp only [Option.isSome_some,Bool.not_true,Bool.false_eq_true,if_false]
  rw [QbW (in_i hr),QbT hr,hx];rfl
def QyE (m:Img) (id:Int):Bool:=match QiI bkId m.Brokers id with |some b=> !b.Fenced |none=>false
theorem Q3S {m:Img}(h:SortK bkId m.Brokers) (hl:m.Brokers.length≤1000000000){t:Int}(ht:i64 t):QhW m t=some (QyE m t):=by
 unfold QhW QyE
 rw [QyD h hl ht]
 cases QiI bkId m.Brokers t<;>rfl
theorem QeQ {ε:Type}{step:Int→Option (Int⊕(Unit⊕Unit))}{n:Nat}{p:Nat→Bool}{A:ε}(hs:∀ i:Nat,i<n→step (i:Int)=some (if p i=true then .inl ((i+1:Nat):Int)else .inr (.inr ()))) (he:step (n:Int)=some (.inr (.inl ()))){K:Option ε}(b:Bool)
  (hb:b=true↔∀ i,i<n→p i=true):
  ((((iter step (0:Int)).bind (Sum.elim (fun _=>(some (Sum.inl ()))) (fun _=>(((some A)).bind fun r=>some (Sum.inr r))))):Option (Unit⊕ε)).bind (Sum.elim (fun _=>K) some))=if b=true then K else some A:=by
 have:=QdK (step:=step) (n:=n) (st:=fun i=>(i:Int)) (g:=fun i=>if p i=true then none else some ()) (ex:=fun e=> .inr ()) (fin:= .inl ())
  (fun i hi _=>by
   rw [hs i hi]
   cases p i<;>rfl) (fun _=>he)
 rw [nat0] at this
 rw [this]
 cases h:QcZ (fun i=>if p i=true then none else some ()) n 0 with
 |none=>
  have h1:=QcK.1 h
  have:b=true:=hb.2 fun i hi=>by
   have:=h1 i hi
   cases q:p i
   ·simp [q] at this
   ·rfl
  rw [if_pos this];rfl
 |some e=>
  obtain ⟨j,_,hj,h3,_⟩:=QmO h
  have:¬ b=true:=fun q=>by rw [if_pos (hb.1 q j (by omega))] at h3;cases h3
  rw [if_neg this];rfl
def QeW (a b:List Int):Bool:=a.all fun x=>decide (x∈b)
theorem QoE {α:Type}{l:List α}{p:α→Bool}{q:Nat→Bool}(h:∀ i,(hi:i<l.length)→q i=p l[i]):l.all p=true↔∀ i,i<l.length→q i=true:=by
 rw [List.all_eq_true]
 constructor
 ·intro k i hi;rw [h i hi];exact k _ (List.getElem_mem hi)
 ·intro k x hx;obtain ⟨i,hi,rfl⟩:=List.getElem_of_mem hx;rw [←h i hi];exact k i hi
theorem QoF (a b:List Int) (ha:a.length≤1000000000) (hb:b.length≤1000000000):QeA a b=some (QeW a b):=by
 unfold QeA
 have h1:=Q15 (step:=QgL b) (n:=b.length) (mk:=fun m i=>(m,(i:Int))) (f:=fun i m=>cntM m (rd b (i:Int))) (fin:=fun m=>m) (fun _ _=>True) (a0:=[]) trivial
  (fun i m hi _=>⟨by unfold QgL;simp only [lt_i hi,if_true,QbW (in_i hi),QbO hi hb];rfl,trivial⟩)
  (fun m _=>by unfold QgL;simp [lt_n])
 rw [nat0,QzE b cntM] at h1
 rw [h1,Option.bind_some,Option.bind_some]
 have hm:=Q17 b (hl:=hb)
 rw [QeQ (step:=QgM a (b.foldl cntM [])) (n:=a.length) (p:=fun i=>decide (rd a (i:Int)∈b)) (A:=false) (K:=some true) (b:=QeW a b)]
 ·cases QeW a b<;>rfl
 ·intro i hi
  unfold QgM
  simp only [lt_i hi,if_true,QbW (in_i hi),QbO hi ha,QbT hi]
  have:Qb6 (b.foldl cntM []) a[i]=(cnt b a[i]:Int):=hm _
  rw [this]
  by_cases q:a[i]∈b
  ·have:0<cnt b a[i]:=QsS.2 q
   rw [if_neg (fun z=>by have:=of_decide_eq_true z;omega),if_pos (decide_eq_true q)]
  ·have:cnt b a[i]=0:=Nat.eq_zero_of_not_pos fun z=>q (QsS.1 z)
   rw [if_pos (decide_eq_true (by omega)),if_neg (fun z=>q (of_decide_eq_true z))]
 ·unfold QgM;simp [lt_n]
 ·exact QoE fun i hi=>by rw [QbT hi]
theorem QsT (a b:Bool):(if a=true then some true else some b)=some (a ||b):=by cases a<;>rfl
theorem Qs5 (a b:Bool):(if a=true then some b else some false)=some (a&&b):=by cases a<;>rfl
def hasB (m:Img) (id:Int):Bool:=(QiI bkId m.Brokers id).isSome
noncomputable def part1 (p:Pt):Bool:=brB p.Ids&&brB p.Isr&&brB p.Add&&brB p.Drop
def QxF (p:Pt):Bool:=decide ((p.Ids.length:Int)=0) ||(decide ((p.Isr.length:Int)=0) ||(decide (p.Epoch<0) ||decide (1073741824<p.Epoch)))
def Q0W (p:Pt):Bool:=QeW p.Isr p.Ids&&QeW p.Add p.Ids&&QeW p.Drop p.Ids
def Qt4 (m:Img) (p:Pt):Bool:=decide (p.Leader=0) ||(decide (p.Leader∈p.Isr)&&QyE m p.Leader)
def Q0X (p:Pt):Bool:=p.Add.all fun x=> !decide (x∈p.Drop)
noncomputable def Qp6 (m:Img) (p:Pt):Bool:=part1 p&&((p.Ids.all fun x=>hasB m x)&&(!QxF p&&(Q0W p&&(Qt4 m p&&Q0X p))))
theorem Qz9 {l:List Int}(h:brOk l){x:Int}(hx:x∈l):i64 x:=by
 have:=QzD h x hx
 unfold i64;omega
theorem Q2A (x:Int) (l:List Int):QeW [x] l=decide (x∈l):=by unfold QeW;simp
theorem Q3T {p:Int→Bool}{q:List Int→Bool}(a b c d:List Int):[a,b,c,d].all q=(q a&&q b&&q c&&q d):=by simp [Bool.and_assoc]
theorem Q49 {m:Img}(hB:SortK bkId m.Brokers) (hl:m.Brokers.length≤1000000000) (p:Pt):Qk0 m p=some (Qp6 m p):=by
 unfold Qk0
 rw [QeQ (step:=Qh6 p) (n:=[p.Ids,p.Isr,p.Add,p.Drop].length) (p:=fun i=>brB (rd [p.Ids,p.Isr,p.Add,p.Drop] (i:Int))) (b:=part1 p)]
 ·unfold Qp6
  by_cases h1:part1 p=true
  ·rw [if_pos h1,h1]
   have g1:=h1
   unfold part1 at g1
   simp only [Bool.and_eq_true] at g1
   obtain ⟨⟨⟨g1,g2⟩,g3⟩,g4⟩:=g1
   have b1:=Qo5.1 g1;have b2:=Qo5.1 g2;have b3:=Qo5.1 g3;have b4:=Qo5.1 g4
   have l1:=b1.1;have l2:=b2.1;have l3:=b3.1;have l4:=b4.1
   rw [QeQ (step:=Qh7 m p) (n:=p.Ids.length) (p:=fun i=>hasB m (rd p.Ids (i:Int))) (b:=p.Ids.all fun x=>hasB m x)]
   ·by_cases h2:(p.Ids.all fun x=>hasB m x)=true
    ·rw [if_pos h2,h2]
     simp only [QsT,QoF p.Isr p.Ids (by omega) (by omega),QoF p.Add p.Ids (by omega) (by omega),QoF p.Drop p.Ids (by omega) (by omega),QoF [p.Leader] p.Isr (by simp) (by omega),Q2A,Option.bind_some]
     show (if QxF p=true then some false else _)=_
     by_cases h3:QxF p=true
     ·rw [if_pos h3,h3];rfl
     ·rw [if_neg h3]
      have h3':QxF p=false:=by simpa using h3
      rw [h3',show (!QeW p.Isr p.Ids ||(!QeW p.Add p.Ids || !QeW p.Drop p.Ids))= !Q0W p by unfold Q0W;simp [Bool.not_and,Bool.or_assoc]]
      by_cases h4:Q0W p=true
      ·rw [h4]
       simp only [Bool.not_true,Bool.false_eq_true,if_false]
       have hA:((if decide (p.Leader≠0)=true then if(!decide (p.Leader∈p.Isr))=true then some true else(QhW m p.Leader).bind fun r104=>some (!r104)else some false:Option Bool))=some (!Qt4 m p):=by
        unfold Qt4
        by_cases q:p.Leader=0
        ·simp [q]
        ·rw [if_pos (by simpa using q)]
         by_cases q2:p.Leader∈p.Isr
         ·rw [if_neg (by simp [q2]),Q3S hB hl (Qz9 b2 q2)]
          simp [q,q2]
         ·simp [q,q2]
       rw [hA]
       simp only [Option.bind_some]
       by_cases h5:Qt4 m p=true
       ·rw [h5]
        simp only [Bool.not_true,Bool.false_eq_true,if_false]
        refine(QeQ (step:=Qh8 p) (n:=p.Add.length) (p:=fun i=> !decide (rd p.Add (i:Int)∈p.Drop)) (A:=false) (K:=some true) (b:=Q0X p) ?_ ?_ ?_).trans ?_
        rotate_left 3
        ·cases Q0X p<;>rfl
        ·intro i hi
         unfold Qh8
         simp only [lt_i hi,if_true,QbW (in_i hi),QbO hi (show p.Add.length≤1000000000 by omega),QbT hi,QoF [p.Add[i]] p.Drop (by simp) (by omega),Q2A,Option.bind_some]
         cases decide (p.Add[i]∈p.Drop)<;>rfl
        ·unfold Qh8;simp [lt_n]
        ·exact QoE fun i hi=>by rw [QbT hi]
       ·have h5':Qt4 m p=false:=by simpa using h5
        rw [h5'];rfl
      ·have h4':Q0W p=false:=by simpa using h4
       rw [h4'];rfl
    ·have h2':(p.Ids.all fun x=>hasB m x)=false:=by simpa using h2
     rw [if_neg h2,h2'];rfl
   ·intro i hi
    unfold Qh7
    simp only [lt_i hi,if_true,QbW (in_i hi),QbO hi (show p.Ids.length≤1000000000 by omega),QbT hi]
    rw [QyD hB hl (Qz9 b1 (List.getElem_mem hi))]
    unfold hasB
    cases QiI bkId m.Brokers p.Ids[i]<;>rfl
   ·unfold Qh7;simp [lt_n]
   ·exact QoE fun i hi=>by rw [QbT hi]
  ·have h1':part1 p=false:=by simpa using h1
   rw [if_neg h1,h1'];rfl
 ·intro i hi
  unfold Qh6
  simp only [lt_i hi,if_true,QbW (in_i hi),QbO hi (show [p.Ids,p.Isr,p.Add,p.Drop].length≤1000000000 by simp),QbT hi,pbrB,Option.bind_some]
  cases brB ([p.Ids,p.Isr,p.Add,p.Drop][i])<;>rfl
 ·unfold Qh6;simp [lt_n]
 ·unfold part1
  rw [←Q3T (p:=fun _=>true) (q:=brB) p.Ids p.Isr p.Add p.Drop]
  exact QoE fun i hi=>by rw [QbT hi]
abbrev Q6M:ByteArray:=⟨#[98,114,111,107,101,114]⟩
abbrev Q5A:ByteArray:=⟨#[116,111,112,105,99]⟩
abbrev Q0Y:ByteArray:=⟨#[112,97,114,116]⟩
abbrev Q6N:ByteArray:=⟨#[99,111,110,102,105,103]⟩
abbrev dnOp:ByteArray:=⟨#[100,111,110,101]⟩
abbrev R16:=ByteArray×Int×Int×Option Int
def toG:Option R16→GErr
 |none=> .nil
 |some (o,a,c,none)=> .fault o a (.code c)
 |some (o,a,c,some k)=> .fault o a (.fault Q0Y k (.code c))
structure limM (m:Img):Prop where
 bk:m.Brokers.length≤1000000
 tp:m.Topics.length≤1000000
 pt:∀ t∈m.Topics,t.Parts.length≤1000000
 cf:m.Configs.length≤1000000
 dn:m.Done.length≤1000000
def lowB (m:Img) (i:Nat):Int:=if i=0 then 0 else(rd m.Brokers ((i - 1:Nat):Int)).Id
def brG (m:Img) (i:Nat):Option R16:=
 if(decide ((rd m.Brokers (i:Int)).Id≤lowB m i) ||(decide (64<(rd m.Brokers (i:Int)).Id) ||(decide ((rd m.Brokers (i:Int)).Epoch<0) ||(decide (1073741824<(rd m.Brokers (i:Int)).Epoch) || !Qh0 (rd m.Brokers (i:Int)).Rack))))=true then some (Q6M,(i:Int),2,none)
 else if((rd m.Brokers (i:Int)).Fenced&&((rd m.Brokers (i:Int)).Leaving&&QrM m (rd m.Brokers (i:Int)).Id))=true then some (Q6M,(i:Int),10,none)else none
theorem QvK (m:Img) (i:Nat):lowB m (i+1)=(rd m.Brokers (i:Int)).Id:=by unfold lowB;simp
theorem QzF (f:Option R16):(((some (QxE (Sum.inl ()) (fun e=>Sum.inr (toG (some e))) f):Option (Unit⊕GErr)).bind (Sum.elim (fun _=>(some (Sum.inl ()))) (fun(x26:GErr)=>(((some x26)).bind fun r=>some (Sum.inr r))))):Option (Unit⊕GErr)).bind (Sum.elim (fun _=>(some GErr.nil)) some)=some (toG f):=by
 cases f<;>rfl
theorem Q0Z {m:Img}(h:limM m):Qh5 m=some (toG (QcZ (brG m) m.Brokers.length 0)):=by
 unfold Qh5
 have hn:m.Brokers.length≤1000000000:=by have:=h.bk;omega
 have:=QdK (step:=Qf0 m) (n:=m.Brokers.length) (st:=fun i=>(lowB m i,(i:Int))) (g:=brG m) (ex:=fun e=> .inr (toG (some e))) (fin:= .inl ())
  (fun i hi _=>by
   unfold Qf0
   simp only [lt_i hi,if_true,QbW (in_i hi),QbO hi hn,QxB,Q3O m _ (by have:=h.tp;omega) (fun t ht=>by have:=h.pt t ht;omega),QsT,Qs5,Option.bind_some,QxZ]
   unfold brG
   by_cases g1:(decide ((rd m.Brokers (i:Int)).Id≤lowB m i) ||(decide (64<(rd m.Brokers (i:Int)).Id) ||(decide ((rd m.Brokers (i:Int)).Epoch<0) ||(decide (1073741824<(rd m.Brokers (i:Int)).Epoch) || !Qh0 (rd m.Brokers (i:Int)).Rack))))=true
   ·rw [if_pos g1,if_pos g1];rfl
   ·rw [if_neg g1,if_neg g1]
    by_cases g2:((rd m.Brokers (i:Int)).Fenced&&((rd m.Brokers (i:Int)).Leaving&&QrM m (rd m.Brokers (i:Int)).Id))=true
    ·rw [if_pos g2,if_pos g2];rfl
    ·rw [if_neg g2,if_neg g2,QvK])
  (fun _=>by unfold Qf0;simp [lt_n])
 rw [show ((0:Int),(0:Int))=(lowB m 0,((0:Nat):Int)) from rfl,this]
 exact QzF _
def nmT (m:Img):List ByteArray:=m.Topics.map (·.Name)
def lowT (m:Img) (i:Nat):Int:=if i=0 then 0 else(rd m.Topics ((i - 1:Nat):Int)).Id
theorem QrN (m:Img) (i:Nat):lowT m (i+1)=(rd m.Topics (i:Int)).Id:=by unfold lowT;simp
noncomputable def ptG (m:Img) (i:Nat) (k:Nat):Option R16:=if Qp6 m (rd (rd m.Topics (i:Int)).Parts (k:Int))=true then none else some (Q5A,(i:Int),10,some (k:Int))
noncomputable def tpG (m:Img) (i:Nat):Option R16:=
 if(decide ((rd m.Topics (i:Int)).Id≤lowT m i) ||(decide (m.Last<(rd m.Topics (i:Int)).Id) ||(!Qh0 (rd m.Topics (i:Int)).Name ||(inL ((nmT m).take i) (rd m.Topics (i:Int)).Name ||decide (256<((rd m.Topics (i:Int)).Parts.length:Int))))))=true then some (Q5A,(i:Int),2,none)
 else QcZ (ptG m i) (rd m.Topics (i:Int)).Parts.length 0
theorem Q37 {m:Img}{i:Nat}(hi:i<m.Topics.length):(nmT m).take (i+1)=(nmT m).take i++[(rd m.Topics (i:Int)).Name]:=by
 rw [List.take_succ_eq_append_getElem (by unfold nmT;simpa using hi),QbT hi]
 unfold nmT;simp
theorem Q3U {m:Img}{i:Nat}(hi:i<m.Topics.length):QeK (QlE ((nmT m).take i)) (rd m.Topics (i:Int)).Name (IntKind.i64.wrap (Qb6 (QlE ((nmT m).take i)) (rd m.Topics (i:Int)).Name+1))=QlE ((nmT m).take (i+1)):=by
 rw [Q37 hi]
 unfold QlE
 rw [List.foldl_append];rfl
theorem Q2B {m:Img}{i:Nat}(hi:i<m.Topics.length) (hn:m.Topics.length≤1000000):decide (1<Qb6 (QlE ((nmT m).take (i+1))) (rd m.Topics (i:Int)).Name)=inL ((nmT m).take i) (rd m.Topics (i:Int)).Name:=by
 have hl:((nmT m).take (i+1)).length≤1000000000:=by
  have:(nmT m).length=m.Topics.length:=by unfold nmT;simp
  rw [List.length_take];omega
 rw [Q17 _ _ hl,Q37 hi,QwK,Q16]
 cases q:inL ((nmT m).take i) (rd m.Topics (i:Int)).Name with
 |true=>have:=QsS.2 (QsR.1 q);exact decide_eq_true (by omega)
 |false=>
  have:cnt ((nmT m).take i) (rd m.Topics (i:Int)).Name=0:=Nat.eq_zero_of_not_pos fun z=>by rw [QsR.2 (QsS.1 z)] at q;cases q
  exact decide_eq_false (by omega)
theorem QyF (o:ByteArray) (a:Int) (e:GErr) (h:e.isNil=false):QhG o a e=some (.fault o a e):=by
 unfold QhG
 simp [h]
theorem QzG {m:Img}(h:limM m) (hB:SortK bkId m.Brokers):iter (Qe0 m) (([]:List (ByteArray×Int)),(0:Int),(0:Int))=some (QxE (Sum.inl ()) (fun e=>Sum.inr (toG (some e))) (QcZ (tpG m) m.Topics.length 0)):=by
 have hn:m.Topics.length≤1000000000:=by have:=h.tp;omega
 have:=QdK (step:=Qe0 m) (n:=m.Topics.length) (st:=fun i=>(QlE ((nmT m).take i),lowT m i,(i:Int))) (g:=tpG m) (ex:=fun e=> .inr (toG (some e))) (fin:= .inl ())
  (fun i hi _=>by
   unfold Qe0
   have hp:(rd m.Topics (i:Int)).Parts.length≤1000000000:=by
    have:=h.pt (rd m.Topics (i:Int)) (by rw [QbT hi];exact List.getElem_mem hi)
    omega
   simp only [lt_i hi,if_true,QbW (in_i hi),QbO hi hn,QxB,Q3U hi,Q2B hi h.tp,QsT,Option.bind_some,QxZ]
   unfold tpG
   by_cases g1:(decide ((rd m.Topics (i:Int)).Id≤lowT m i) ||(decide (m.Last<(rd m.Topics (i:Int)).Id) ||(!Qh0 (rd m.Topics (i:Int)).Name ||(inL ((nmT m).take i) (rd m.Topics (i:Int)).Name ||decide (256<((rd m.Topics (i:Int)).Parts.length:Int))))))=true
   ·rw [if_pos g1,if_pos g1];rfl
   ·rw [if_neg g1,if_neg g1]
    have hin:=QdK (step:=QgO m (i:Int)) (n:=(rd m.Topics (i:Int)).Parts.length) (st:=fun k=>(k:Int)) (g:=ptG m i) (ex:=fun e=> .inr (toG (some e))) (fin:= .inl ())
     (fun k hk _=>by
      unfold QgO
      simp only [lt_i hk,if_true,QbW (in_i hk),QbO hk hp,Q49 hB (by have:=h.bk;omega),Option.bind_some,QxZ,QyF _ _ _ (show (GErr.fault Q0Y (k:Int) (.code 10)).isNil=false from rfl)]
      unfold ptG
      cases Qp6 m (rd (rd m.Topics (i:Int)).Parts (k:Int))<;>rfl)
     (fun _=>by unfold QgO;simp [lt_n])
    rw [nat0] at hin
    rw [hin]
    cases QcZ (ptG m i) (rd m.Topics (i:Int)).Parts.length 0 with
    |none=>simp only [QxE,Option.bind_some,Sum.elim_inl,QrN]
    |some e=>rfl)
  (fun _=>by unfold Qe0;simp [lt_n])
 exact this
def QyG (m:Img):Bool:=decide (256<(m.Topics.length:Int)) ||(decide (m.Last<0) ||decide (1073741824<m.Last))
noncomputable def QrO (m:Img):Option R16:=if QyG m=true then some (Q5A,(m.Topics.length:Int),6,none)else QcZ (tpG m) m.Topics.length 0
theorem Q2C {m:Img}(h:limM m) (hB:SortK bkId m.Brokers):QiW m=some (toG (QrO m)):=by
 unfold QiW QrO
 simp only [QsT]
 rw [Option.bind_some]
 show (if QyG m=true then _ else _)=_
 by_cases g:QyG m=true
 ·rw [if_pos g,if_pos g];rfl
 ·rw [if_neg g,if_neg g,QzG h hB]
  exact QzF _
def hasT (m:Img) (id:Int):Bool:=(QiI tpId m.Topics id).isSome
def geS (a b:ByteArray):Bool:= !Op.bytesLess a.toList b.toList
def cfG (m:Img) (i:Nat):Option R16:=
 if(!hasT m (rd m.Configs (i:Int)).Topic&&decide ((rd m.Configs (i:Int)).Topic≠0) ||(!Qh0 (rd m.Configs (i:Int)).Key ||decide (256<((rd m.Configs (i:Int)).Value.size:Int))))=true then some (Q6N,(i:Int),2,none)
 else if i=0 then none
 else if(decide ((rd m.Configs (i:Int)).Topic<(rd m.Configs ((i - 1:Nat):Int)).Topic) ||(decide ((rd m.Configs ((i - 1:Nat):Int)).Topic=(rd m.Configs (i:Int)).Topic)&&geS (rd m.Configs ((i - 1:Nat):Int)).Key (rd m.Configs (i:Int)).Key))=true then some (Q6N,(i:Int),10,none)else none
theorem Q00 {m:Img}(h:limM m) (hT:SortK tpId m.Topics) (hi6:∀ c∈m.Configs,i64 c.Topic):Qh9 m=some (toG (QcZ (cfG m) m.Configs.length 0)):=by
 unfold Qh9
 have hn:m.Configs.length≤1000000000:=by have:=h.cf;omega
 have:=QdK (step:=Qf1 m) (n:=m.Configs.length) (st:=fun i=>(i:Int)) (g:=cfG m) (ex:=fun e=> .inr (toG (some e))) (fin:= .inl ())
  (fun i hi _=>by
   unfold Qf1
   have ht:i64 (rd m.Configs (i:Int)).Topic:=by rw [QbT hi];exact hi6 _ (List.getElem_mem hi)
   simp only [lt_i hi,if_true,QbW (in_i hi),QbO hi hn,QxB,Q3R hT (by have:=h.tp;omega) ht,QsT,Qs5,Option.bind_some,QxZ]
   have e1:getV tz (QiI tpId m.Topics (rd m.Configs (i:Int)).Topic)=((getV tz (QiI tpId m.Topics (rd m.Configs (i:Int)).Topic)).1,hasT m (rd m.Configs (i:Int)).Topic):=by
    unfold hasT;cases QiI tpId m.Topics (rd m.Configs (i:Int)).Topic<;>rfl
   rw [e1]
   simp only
   have e2:(if decide ((rd m.Configs (i:Int)).Topic≠0)=true then some (!hasT m (rd m.Configs (i:Int)).Topic ||(!Qh0 (rd m.Configs (i:Int)).Key ||decide (256<((rd m.Configs (i:Int)).Value.size:Int))))else some (!Qh0 (rd m.Configs (i:Int)).Key ||decide (256<((rd m.Configs (i:Int)).Value.size:Int))))=some (!hasT m (rd m.Configs (i:Int)).Topic&&decide ((rd m.Configs (i:Int)).Topic≠0) ||(!Qh0 (rd m.Configs (i:Int)).Key ||decide (256<((rd m.Configs (i:Int)).Value.size:Int)))):=by
    by_cases q:(rd m.Configs (i:Int)).Topic=0
    ·simp [q]
    ·simp [q]
   rw [e2,Option.bind_some]
   unfold cfG
   by_cases g1:(!hasT m (rd m.Configs (i:Int)).Topic&&decide ((rd m.Configs (i:Int)).Topic≠0) ||(!Qh0 (rd m.Configs (i:Int)).Key ||decide (256<((rd m.Configs (i:Int)).Value.size:Int))))=true
   ·rw [if_pos g1,if_pos g1];rfl
   ·rw [if_neg g1,if_neg g1]
    by_cases g2:i=0
    ·subst g2;simp
    ·have hw:IntKind.i64.wrap ((i:Int)- 1)=((i - 1:Nat):Int):=by rw [QfP (by omega) (by omega)];omega
     have hj:i - 1<m.Configs.length:=by omega
     rw [if_pos (decide_eq_true (by omega)),if_neg g2,hw,QbW (in_i hj)]
     by_cases g3:(decide ((rd m.Configs (i:Int)).Topic<(rd m.Configs ((i - 1:Nat):Int)).Topic) ||(decide ((rd m.Configs ((i - 1:Nat):Int)).Topic=(rd m.Configs (i:Int)).Topic)&&geS (rd m.Configs ((i - 1:Nat):Int)).Key (rd m.Configs (i:Int)).Key))=true
     ·rw [if_pos g3]
      unfold geS at g3
      rw [if_pos g3];rfl
     ·rw [if_neg g3]
      unfold geS at g3
      rw [if_neg g3];rfl)
  (fun _=>by unfold Qf1;simp [lt_n])
 rw [nat0] at this
 rw [this]
 exact QzF _
def dnK (m:Img):List (Int×Int):=m.Done.map fun d=>(d.Client,d.Serial)
def dnG (m:Img) (i:Nat):Option R16:=
 if(decide ((rd m.Done (i:Int)).Client<1) ||(decide (1073741824<(rd m.Done (i:Int)).Client) ||(decide ((rd m.Done (i:Int)).Serial<1) ||(decide (1073741824<(rd m.Done (i:Int)).Serial) ||(decide ((rd m.Done (i:Int)).Code<0) ||(decide (21<(rd m.Done (i:Int)).Code) ||inL ((dnK m).take i) ((rd m.Done (i:Int)).Client,(rd m.Done (i:Int)).Serial)))))))=true then some (dnOp,(i:Int),2,none)else none
theorem Q38 {m:Img}{i:Nat}(hi:i<m.Done.length):(dnK m).take (i+1)=(dnK m).take i++[((rd m.Done (i:Int)).Client,(rd m.Done (i:Int)).Serial)]:=by
 rw [List.take_succ_eq_append_getElem (by unfold dnK;simpa using hi),QbT hi]
 unfold dnK;simp
theorem Q2D {m:Img}{i:Nat}(hi:i<m.Done.length):QeK (QlE ((dnK m).take i)) ((rd m.Done (i:Int)).Client,(rd m.Done (i:Int)).Serial) (IntKind.i64.wrap (Qb6 (QlE ((dnK m).take i)) ((rd m.Done (i:Int)).Client,(rd m.Done (i:Int)).Serial)+1))=QlE ((dnK m).take (i+1)):=by
 rw [Q38 hi]
 unfold QlE
 rw [List.foldl_append];rfl
theorem Q01 {m:Img}{i:Nat}(hi:i<m.Done.length) (hn:m.Done.length≤1000000):decide (1<Qb6 (QlE ((dnK m).take (i+1))) ((rd m.Done (i:Int)).Client,(rd m.Done (i:Int)).Serial))=inL ((dnK m).take i) ((rd m.Done (i:Int)).Client,(rd m.Done (i:Int)).Serial):=by
 have hl:((dnK m).take (i+1)).length≤1000000000:=by
  have:(dnK m).length=m.Done.length:=by unfold dnK;simp
  rw [List.length_take];omega
 rw [Q17 _ _ hl,Q38 hi,QwK,Q16]
 cases q:inL ((dnK m).take i) ((rd m.Done (i:Int)).Client,(rd m.Done (i:Int)).Serial)with
 |true=>have:=QsS.2 (QsR.1 q);exact decide_eq_true (by omega)
 |false=>
  have:cnt ((dnK m).take i) ((rd m.Done (i:Int)).Client,(rd m.Done (i:Int)).Serial)=0:=Nat.eq_zero_of_not_pos fun z=>by rw [QsR.2 (QsS.1 z)] at q;cases q
  exact decide_eq_false (by omega)
theorem Q2E {m:Img}(h:limM m):iter (Qf2 m) (([]:List ((Int×Int)×Int)),(0:Int))=some (QxE (Sum.inl ()) (fun e=>Sum.inr (toG (some e))) (QcZ (dnG m) m.Done.length 0)):=by
 have hn:m.Done.length≤1000000000:=by have:=h.dn;omega
 exact QdK (step:=Qf2 m) (n:=m.Done.length) (st:=fun i=>(QlE ((dnK m).take i),(i:Int))) (g:=dnG m) (ex:=fun e=> .inr (toG (some e))) (fin:= .inl ())
  (fun i hi _=>by
   unfold Qf2
   simp only [lt_i hi,if_true,QbW (in_i hi),QbO hi hn,Q2D hi,Q01 hi h.dn,QsT,Option.bind_some,QxZ]
   unfold dnG
   by_cases g1:(decide ((rd m.Done (i:Int)).Client<1) ||(decide (1073741824<(rd m.Done (i:Int)).Client) ||(decide ((rd m.Done (i:Int)).Serial<1) ||(decide (1073741824<(rd m.Done (i:Int)).Serial) ||(decide ((rd m.Done (i:Int)).Code<0) ||(decide (21<(rd m.Done (i:Int)).Code) ||inL ((dnK m).take i) ((rd m.Done (i:Int)).Client,(rd m.Done (i:Int)).Serial)))))))=true
   ·rw [if_pos g1,if_pos g1];rfl
   ·rw [if_neg g1,if_neg g1])
  (fun _=>by unfold Qf2;simp [lt_n])
noncomputable def chkR (m:Img):Option R16:=
 match QcZ (brG m) m.Brokers.length 0 with
 |some e=>some e
 |none=>match QrO m with
  |some e=>some e
  |none=>match QcZ (cfG m) m.Configs.length 0 with
   |some e=>some e
   |none=>if 64<(m.Done.length:Int)then some (dnOp,(m.Done.length:Int),6,none)else QcZ (dnG m) m.Done.length 0
theorem QyH {α:Type}[Inhabited α]{key:α→Int}{l:List α}{low:Nat→Int}(hlow:∀ i,low (i+1)=key (rd l (i:Int))) (h:∀ i,i<l.length→low i<key (rd l (i:Int))):l.Pairwise fun a b=>key a<key b:=by
 have st:∀ i,(hi:i+1<l.length)→key (l[i]'(by omega))<key l[i+1]:=fun i hi=>by
  have:=h (i+1) hi
  rw [hlow,QbT (show i<l.length by omega),QbT hi] at this
  exact this
 rw [List.pairwise_iff_getElem]
 intro a b ha hb hab
 obtain ⟨d,rfl⟩:∃ d,b=a+1+d:=⟨b - (a+1),by omega⟩
 clear hab
 induction d with
 |zero=>exact st a hb
 |succ d ih=>
  have h1:=ih (by omega)
  have h2:=st (a+1+d) (by omega)
  have h3:a+1+(d+1)=a+1+d+1:=by omega
  simp only [h3]
  omega
theorem Q2F {m:Img}(h:∀ i,i<m.Brokers.length→brG m i=none):SortK bkId m.Brokers:=by
 have hi:∀ i,i<m.Brokers.length→lowB m i<(rd m.Brokers (i:Int)).Id∧(rd m.Brokers (i:Int)).Id≤64:=fun i hi=>by
  have:=h i hi
  unfold brG at this
  split at this
  ·cases this
  ·rename_i g
   simp only [Bool.or_eq_true,decide_eq_true_eq,not_or] at g
   omega
 have hs:=QyH (key:=bkId) (l:=m.Brokers) (low:=lowB m) (QvK m) fun i h=>(hi i h).1
 have h0:∀ i,(h:i<m.Brokers.length)→0<m.Brokers[i].Id:=by
  intro i
  induction i with
  |zero=>intro h;have:=(hi 0 h).1;rw [QbT h] at this;exact this
  |succ i ih=>intro h;have:=ih (by omega);have:=List.pairwise_iff_getElem.1 hs i (i+1) (by omega) h (by omega);simp only [bkId] at this;omega
 refine⟨fun x hx=> ?_,hs⟩
 obtain ⟨i,h,rfl⟩:=List.getElem_of_mem hx
 have h1:=(hi i h).2
 rw [QbT h] at h1
 have:=h0 i h
 simp only [bkId];omega
theorem Q2G {m:Img}(hl:m.Last≤1073741824) (h:∀ i,i<m.Topics.length→tpG m i=none):SortK tpId m.Topics:=by
 have hi:∀ i,i<m.Topics.length→lowT m i<(rd m.Topics (i:Int)).Id∧(rd m.Topics (i:Int)).Id≤m.Last:=fun i hi=>by
  have:=h i hi
  unfold tpG at this
  split at this
  ·cases this
  ·rename_i g
   simp only [Bool.or_eq_true,decide_eq_true_eq,not_or] at g
   omega
 have hs:=QyH (key:=tpId) (l:=m.Topics) (low:=lowT m) (QrN m) fun i h=>(hi i h).1
 have h0:∀ i,(h:i<m.Topics.length)→0<m.Topics[i].Id:=by
  intro i
  induction i with
  |zero=>intro h;have:=(hi 0 h).1;rw [QbT h] at this;exact this
  |succ i ih=>intro h;have:=ih (by omega);have:=List.pairwise_iff_getElem.1 hs i (i+1) (by omega) h (by omega);simp only [tpId] at this;omega
 refine⟨fun x hx=> ?_,hs⟩
 obtain ⟨i,h,rfl⟩:=List.getElem_of_mem hx
 have h1:=(hi i h).2
 rw [QbT h] at h1
 have:=h0 i h
 simp only [tpId];omega
theorem Q0A {m:Img}(h:limM m) (hi6:∀ c∈m.Configs,i64 c.Topic):QeF m=some (toG (chkR m)):=by
 unfold QeF chkR
 rw [Q0Z h,Option.bind_some]
 cases e1:QcZ (brG m) m.Brokers.length 0 with
 |some e=>rcases e with⟨o,a,c,_ |k⟩<;>rfl
 |none=>
  have hB:=Q2F (QcK.1 e1)
  rw [Q2C h hB]
  simp only [toG,GErr.isNil,Bool.not_true,Bool.false_eq_true,if_false,Option.bind_some]
  cases e2:QrO m with
  |some e=>rcases e with⟨o,a,c,_ |k⟩<;>rfl
  |none=>
   have hT:SortK tpId m.Topics:=by
    unfold QrO at e2
    split at e2
    ·cases e2
    ·rename_i g
     unfold QyG at g
     simp only [Bool.or_eq_true,decide_eq_true_eq,not_or] at g
     exact Q2G (by omega) (QcK.1 e2)
   rw [Q00 h hT hi6]
   simp only [GErr.isNil,Bool.not_true,Bool.false_eq_true,if_false,Option.bind_some]
   cases e3:QcZ (cfG m) m.Configs.length 0 with
   |some e=>rcases e with⟨o,a,c,_ |k⟩<;>rfl
   |none=>
    simp only [toG,GErr.isNil,Bool.not_true,Bool.false_eq_true,if_false]
    by_cases g:64<(m.Done.length:Int)
    ·rw [if_pos (decide_eq_true g),if_pos g];rfl
    ·rw [if_neg (fun q=>g (of_decide_eq_true q)),if_neg g,Q2E h]
     cases QcZ (dnG m) m.Done.length 0<;>rfl
theorem Q0B:∀ {a b c:List UInt8},Op.bytesLess a b=true→Op.bytesLess b c=true→Op.bytesLess a c=true
 |[],[],_,h,_=>by cases h
 |_::_,[],_,h,_=>by cases h
 |_,_::_,[],_,h=>by cases h
 |[],_::_,_::_,_,_=>rfl
 |x::a,y::b,z::c,h,k=>by
  simp only [Op.bytesLess,Bool.or_eq_true,decide_eq_true_eq,Bool.and_eq_true,beq_iff_eq] at h k⊢
  rcases h with h |⟨h1,h2⟩<;>rcases k with k |⟨k1,k2⟩
  ·exact .inl (UInt8.lt_trans h k)
  ·subst k1;exact .inl h
  ·subst h1;exact .inl k
  ·subst h1;subst k1;exact .inr ⟨rfl,Q0B h2 k2⟩
def ltS (a b:ByteArray):Bool:=Op.bytesLess a.toList b.toList
theorem Q2H {a b c:ByteArray}(h:ltS a b=true) (k:ltS b c=true):ltS a c=true:=Q0B h k
theorem Q39 (a b:ByteArray):geS a b= !ltS a b:=rfl
def cfLt (a b:Cf):Prop:=a.Topic<b.Topic∨a.Topic=b.Topic∧ltS a.Key b.Key=true
theorem Q02 {a b c:Cf}(h:cfLt a b) (k:cfLt b c):cfLt a c:=by
 rcases h with h |⟨h1,h2⟩<;>rcases k with k |⟨k1,k2⟩
 ·exact .inl (Int.lt_trans h k)
 ·exact .inl (k1▸h)
 ·exact .inl (h1▸k)
 ·exact .inr ⟨h1.trans k1,Q2H h2 k2⟩
theorem Q6O {α:Type}[Inhabited α]{R:α→α→Prop}(tr:∀ {a b c:α},R a b→R b c→R a c){l:List α}(h:∀ i,0<i→i<l.length→R (rd l ((i - 1:Nat):Int)) (rd l (i:Int))):l.Pairwise R:=by
 have st:∀ i,(hi:i+1<l.length)→R (l[i]'(by omega)) l[i+1]:=fun i hi=>by
  have:=h (i+1) (by omega) hi
  rw [show i+1 - 1=i by omega,QbT (show i<l.length by omega),QbT hi] at this
  exact this
 rw [List.pairwise_iff_getElem]
 intro a b ha hb hab
 obtain ⟨d,rfl⟩:∃ d,b=a+1+d:=⟨b - (a+1),by omega⟩
 clear hab
 induction d with
 |zero=>exact st a hb
 |succ d ih=>
  have h1:=ih (by omega)
  have h2:=st (a+1+d) (by omega)
  have h3:a+1+(d+1)=a+1+d+1:=by omega
  simp only [h3]
  exact tr h1 h2
theorem Q6P {α β:Type}[DecidableEq β] (f:α→β){l:List α}(h:∀ i,(hi:i<l.length)→inL ((l.map f).take i) (f l[i])=false):l.Pairwise fun a b=>f a≠f b:=by
 rw [List.pairwise_iff_getElem]
 intro a b ha hb hab e
 have:=h b hb
 rw [←Bool.not_eq_true,QsR] at this
 refine this ?_
 rw [←e]
 have hm:(l.map f)[a]'(by simpa using ha)=f l[a]:=by simp
 rw [←hm]
 exact List.mem_take_iff_getElem.2 ⟨a,by simp;omega,by simp⟩
theorem Q6Q {α β:Type}[DecidableEq β] (f:α→β){l:List α}(h:l.Pairwise fun a b=>f a≠f b){i:Nat}(hi:i<l.length):inL ((l.map f).take i) (f l[i])=false:=by
 rw [←Bool.not_eq_true,QsR]
 intro q
 obtain ⟨a,ha,e⟩:=List.mem_take_iff_getElem.1 q
 simp at ha
 have:=List.pairwise_iff_getElem.1 h a i (by omega) hi (by omega)
 exact this (by simpa using e)
structure okImg (m:Img):Prop where
 bs:m.Brokers.Pairwise fun a b=>a.Id<b.Id
 bk:∀ b∈m.Brokers,1≤b.Id∧b.Id≤64∧0≤b.Epoch∧b.Epoch≤1073741824∧Qh0 b.Rack=true∧(b.Fenced&&(b.Leaving&&QrM m b.Id))=false
 last:0≤m.Last∧m.Last≤1073741824
 tn:m.Topics.length≤256
 ts:m.Topics.Pairwise fun a b=>a.Id<b.Id
 tp:∀ t∈m.Topics,1≤t.Id∧t.Id≤m.Last∧Qh0 t.Name=true∧t.Parts.length≤256∧∀ p∈t.Parts,Qp6 m p=true
 nm:m.Topics.Pairwise fun a b=>a.Name≠b.Name
 cs:m.Configs.Pairwise cfLt
 cf:∀ c∈m.Configs,(c.Topic=0∨hasT m c.Topic=true)∧Qh0 c.Key=true∧c.Value.size≤256
 dl:m.Done.length≤64
 dn:∀ d∈m.Done,1≤d.Client∧d.Client≤1073741824∧1≤d.Serial∧d.Serial≤1073741824∧0≤d.Code∧d.Code≤21
 dd:m.Done.Pairwise fun a b=>(a.Client,a.Serial)≠(b.Client,b.Serial)
theorem okImg.sortT {m:Img}(h:okImg m):SortK tpId m.Topics:=⟨fun t ht=>by have:=h.tp t ht;have:=h.last;simp only [tpId];omega,h.ts⟩
theorem QwL {α:Type}[Inhabited α]{l:List α}{x:α}(h:x∈l):∃ i:Nat,i<l.length∧rd l (i:Int)=x:=by
 obtain ⟨i,hi,rfl⟩:=List.getElem_of_mem h;exact⟨i,hi,QbT hi⟩
theorem QkL {α:Type}[Inhabited α]{l:List α}{i:Nat}(hi:i<l.length):rd l (i:Int)∈l:=by rw [QbT hi];exact List.getElem_mem hi
theorem Q6R {m:Img}(h:chkR m=none):okImg m:=by
 unfold chkR at h
 cases e1:QcZ (brG m) m.Brokers.length 0 with
 |some e=>rw [e1] at h;cases h
 |none=>
 rw [e1] at h
 simp only at h
 cases e2:QrO m with
 |some e=>rw [e2] at h;cases h
 |none=>
 rw [e2] at h
 simp only at h
 cases e3:QcZ (cfG m) m.Configs.length 0 with
 |some e=>rw [e3] at h;cases h
 |none=>
 rw [e3] at h
 simp only at h
 split at h
 ·cases h
 rename_i g5
 have hb:=QcK.1 e1
 have hd:=QcK.1 h
 have hc:=QcK.1 e3
 unfold QrO at e2
 split at e2
 ·cases e2
 rename_i g2
 have ht:=QcK.1 e2
 unfold QyG at g2
 simp only [Bool.or_eq_true,decide_eq_true_eq,not_or] at g2
 have sB:=Q2F hb
 have sT:=Q2G (by omega) ht
 have hbk:∀ i,i<m.Brokers.length→0≤(rd m.Brokers (i:Int)).Epoch∧(rd m.Brokers (i:Int)).Epoch≤1073741824∧Qh0 (rd m.Brokers (i:Int)).Rack=true∧lowB m i<(rd m.Brokers (i:Int)).Id∧(rd m.Brokers (i:Int)).Id≤64∧((rd m.Brokers (i:Int)).Fenced&&((rd m.Brokers (i:Int)).Leaving&&QrM m (rd m.Brokers (i:Int)).Id))=false:=fun i hi=>by
  have:=hb i hi
  unfold brG at this
  split at this
  ·cases this
  ·rename_i q
   simp only [Bool.or_eq_true,decide_eq_true_eq,not_or,Bool.not_eq_true',Bool.not_eq_false] at q
   split at this
   ·cases this
   ·rename_i q2
    exact⟨by omega,by omega,q.2.2.2.2,by omega,by omega,by simpa using q2⟩
 have htp:∀ i,i<m.Topics.length→lowT m i<(rd m.Topics (i:Int)).Id∧(rd m.Topics (i:Int)).Id≤m.Last∧Qh0 (rd m.Topics (i:Int)).Name=true∧inL ((nmT m).take i) (rd m.Topics (i:Int)).Name=false∧(rd m.Topics (i:Int)).Parts.length≤256∧∀ p∈(rd m.Topics (i:Int)).Parts,Qp6 m p=true:=fun i hi=>by
  have:=ht i hi
  unfold tpG at this
  split at this
  ·cases this
  ·rename_i q
   simp only [Bool.or_eq_true,decide_eq_true_eq,not_or,Bool.not_eq_true',Bool.not_eq_false] at q
   refine⟨by omega,by omega,q.2.2.1,by simpa using q.2.2.2.1,by omega,fun p hp=> ?_⟩
   obtain ⟨k,hk,rfl⟩:=QwL hp
   have:=QcK.1 this k hk
   unfold ptG at this
   split at this
   ·assumption
   ·cases this
 have hlowB:∀ i,i<m.Brokers.length→0≤lowB m i:=fun i hi=>by
  cases i with
  |zero=>exact Int.le_refl _
  |succ i=>rw [QvK];exact(sB.bound _ (QkL (by omega))).1
 have hlowT:∀ i,i<m.Topics.length→0≤lowT m i:=fun i hi=>by
  cases i with
  |zero=>exact Int.le_refl _
  |succ i=>rw [QrN];exact(sT.bound _ (QkL (by omega))).1
 have hcf:∀ i,i<m.Configs.length→((rd m.Configs (i:Int)).Topic=0∨hasT m (rd m.Configs (i:Int)).Topic=true)∧Qh0 (rd m.Configs (i:Int)).Key=true∧(rd m.Configs (i:Int)).Value.size≤256∧(0<i→cfLt (rd m.Configs ((i - 1:Nat):Int)) (rd m.Configs (i:Int))):=fun i hi=>by
  have:=hc i hi
  unfold cfG at this
  split at this
  ·cases this
  ·rename_i q
   simp only [Bool.or_eq_true,Bool.and_eq_true,decide_eq_true_eq,not_or,Bool.not_eq_true',Bool.not_eq_false,not_and,Decidable.not_not] at q
   refine⟨?_,q.2.1,by omega,fun h0=> ?_⟩
   ·cases z:hasT m (rd m.Configs (i:Int)).Topic
    ·exact .inl (q.1 z)
    ·exact .inr rfl
   ·rw [if_neg (by omega)] at this
    split at this
    ·cases this
    ·rename_i z
     simp only [Bool.or_eq_true,Bool.and_eq_true,decide_eq_true_eq,not_or,not_and,Q39,Bool.not_eq_true',Bool.not_eq_false] at z
     unfold cfLt
     rcases Int.lt_or_eq_of_le (show (rd m.Configs ((i - 1:Nat):Int)).Topic≤(rd m.Configs (i:Int)).Topic by omega)with y |y
     ·exact .inl y
     ·exact .inr ⟨y,z.2 y⟩
 have hdn:∀ i,i<m.Done.length→(1≤(rd m.Done (i:Int)).Client∧(rd m.Done (i:Int)).Client≤1073741824∧1≤(rd m.Done (i:Int)).Serial∧(rd m.Done (i:Int)).Serial≤1073741824∧0≤(rd m.Done (i:Int)).Code∧(rd m.Done (i:Int)).Code≤21)∧inL ((dnK m).take i) ((rd m.Done (i:Int)).Client,(rd m.Done (i:Int)).Serial)=false:=fun i hi=>by
  have:=hd i hi
  unfold dnG at this
  split at this
  ·cases this
  ·rename_i q
   simp only [Bool.or_eq_true,decide_eq_true_eq,not_or] at q
   exact⟨⟨by omega,by omega,by omega,by omega,by omega,by omega⟩,by simpa using q.2.2.2.2.2.2⟩
 refine⟨sB.sort,fun b hb'=> ?_,⟨by omega,by omega⟩,by omega,sT.sort,fun t ht'=> ?_, ?_,Q6O (R:=cfLt) Q02 fun i h0 hi=>(hcf i hi).2.2.2 h0,fun c hc'=> ?_,by omega,fun d hd'=> ?_, ?_⟩
 ·obtain ⟨i,hi,rfl⟩:=QwL hb'
  have:=hbk i hi;have:=hlowB i hi
  exact⟨by omega,by omega,by omega,by omega,(hbk i hi).2.2.1,(hbk i hi).2.2.2.2.2⟩
 ·obtain ⟨i,hi,rfl⟩:=QwL ht'
  have h1:=htp i hi;have:=hlowT i hi
  exact⟨by omega,by omega,h1.2.2.1,h1.2.2.2.2.1,h1.2.2.2.2.2⟩
 ·refine Q6P (fun t:Tp=>t.Name) fun i hi=> ?_
  have:=(htp i hi).2.2.2.1
  rw [QbT hi] at this
  exact this
 ·obtain ⟨i,hi,rfl⟩:=QwL hc'
  have h1:=hcf i hi
  exact⟨h1.1,h1.2.1,h1.2.2.1⟩
 ·obtain ⟨i,hi,rfl⟩:=QwL hd'
  exact(hdn i hi).1
 ·refine Q6P (fun d:Dn=>(d.Client,d.Serial)) fun i hi=> ?_
  have:=(hdn i hi).2
  rw [QbT hi] at this
  exact this
theorem Q4A {α:Type}[Inhabited α]{key:α→Int}{l:List α}(hs:l.Pairwise fun a b=>key a<key b) (hp:∀ x∈l,0<key x){i:Nat}(hi:i<l.length):(if i=0 then 0 else key (rd l ((i - 1:Nat):Int)))<key (rd l (i:Int)):=by
 cases i with
 |zero=>exact hp _ (QkL hi)
 |succ i=>
  rw [if_neg (by omega),show i+1 - 1=i by omega,QbT (show i<l.length by omega),QbT hi]
  exact List.pairwise_iff_getElem.1 hs i (i+1) (by omega) hi (by omega)
theorem Q6S {m:Img}(h:okImg m):chkR m=none:=by
 have e1:QcZ (brG m) m.Brokers.length 0=none:=QcK.2 fun i hi=>by
  have hb:=h.bk _ (QkL hi)
  have hl:lowB m i<(rd m.Brokers (i:Int)).Id:=Q4A (key:=bkId) h.bs (fun x hx=>by have:=h.bk x hx;simp only [bkId];omega) hi
  unfold brG
  rw [if_neg,if_neg]
  ·rw [hb.2.2.2.2.2];exact Bool.false_ne_true
  ·simp only [Bool.or_eq_true,decide_eq_true_eq,not_or,Bool.not_eq_true',Bool.not_eq_false]
   exact⟨by omega,by omega,by omega,by omega,hb.2.2.2.2.1⟩
 have e2:QrO m=none:=by
  unfold QrO
  have:=h.last;have:=h.tn
  rw [if_neg]
  ·refine QcK.2 fun i hi=> ?_
   have ht:=h.tp _ (QkL hi)
   have hl:lowT m i<(rd m.Topics (i:Int)).Id:=Q4A (key:=tpId) h.ts (fun x hx=>by have:=h.tp x hx;simp only [tpId];omega) hi
   have hn:=Q6Q (fun t:Tp=>t.Name) h.nm hi
   unfold tpG
   rw [if_neg]
   ·refine QcK.2 fun k hk=> ?_
    unfold ptG
    rw [if_pos (ht.2.2.2.2 _ (QkL hk))]
   ·simp only [Bool.or_eq_true,decide_eq_true_eq,not_or,Bool.not_eq_true',Bool.not_eq_false]
    refine⟨by omega,by omega,ht.2.2.1, ?_,by omega⟩
    rw [QbT hi]
    exact fun q=>by rw [show (nmT m)=m.Topics.map (fun t:Tp=>t.Name) from rfl,hn] at q;cases q
  ·unfold QyG
   simp only [Bool.or_eq_true,decide_eq_true_eq,not_or]
   exact⟨by omega,by omega,by omega⟩
 have e3:QcZ (cfG m) m.Configs.length 0=none:=QcK.2 fun i hi=>by
  have hc:=h.cf _ (QkL hi)
  unfold cfG
  rw [if_neg]
  ·split
   ·rfl
   ·rename_i h0
    have hj:i - 1<m.Configs.length:=by omega
    have hlt:cfLt m.Configs[i - 1] m.Configs[i]:=List.pairwise_iff_getElem.1 h.cs _ _ hj hi (by omega)
    rw [if_neg]
    rw [QbT hi,QbT hj]
    simp only [Bool.or_eq_true,Bool.and_eq_true,decide_eq_true_eq,not_or,not_and,Q39,Bool.not_eq_true',Bool.not_eq_false]
    rcases hlt with q |⟨q1,q2⟩
    ·exact⟨by omega,fun z=>by omega⟩
    ·exact⟨by omega,fun _=>q2⟩
  ·simp only [Bool.or_eq_true,Bool.and_eq_true,decide_eq_true_eq,not_or,Bool.not_eq_true',Bool.not_eq_false,not_and,Decidable.not_not]
   refine⟨fun z=> ?_,hc.2.1,by omega⟩
   rcases hc.1 with q |q
   ·exact q
   ·rw [z] at q;cases q
 have e4:QcZ (dnG m) m.Done.length 0=none:=QcK.2 fun i hi=>by
  have hd:=h.dn _ (QkL hi)
  have hn:=Q6Q (fun d:Dn=>(d.Client,d.Serial)) h.dd hi
  unfold dnG
  rw [if_neg]
  simp only [Bool.or_eq_true,decide_eq_true_eq,not_or]
  refine⟨by omega,by omega,by omega,by omega,by omega,by omega, ?_⟩
  rw [QbT hi]
  exact fun q=>by rw [show (dnK m)=m.Done.map (fun d:Dn=>(d.Client,d.Serial)) from rfl,hn] at q;cases q
 unfold chkR
 rw [e1,e2,e3,e4]
 have:=h.dl
 simp only
 rw [if_neg (by omega)]
theorem okImg.i64 {m:Img}(h:okImg m):∀ c∈m.Configs,i64 c.Topic:=fun c hc=>by
 unfold G.i64
 rcases (h.cf c hc).1 with q |q
 ·rw [q];exact⟨by omega,by omega⟩
 ·unfold hasT QiI at q
  obtain ⟨t,ht⟩:=Option.isSome_iff_exists.1 q
  have e:tpId t=c.Topic:=by simpa using List.find?_some ht
  have:=h.sortT.bound t (List.mem_of_find?_eq_some ht)
  omega
theorem QwM {α:Type}{key:α→Int}:∀ {l:List α}{a b:Int},l.Pairwise (fun x y=>key x<key y)→(∀ x∈l,a≤key x∧key x≤b)→a≤b+1→(l.length:Int)≤b - a+1
 |[],a,b,_,_,h=>by simp;omega
 |x::l,a,b,hp,hb,h=>by
  have h1:=List.pairwise_cons.1 hp
  have hx:=hb x (.head _)
  have:=QwM (key:=key) (a:=key x+1) (b:=b) h1.2 (fun y hy=>⟨by have:=h1.1 y hy;omega,(hb y (.tail _ hy)).2⟩) (by omega)
  simp only [List.length_cons];omega
theorem okImg.bl {m:Img}(h:okImg m):m.Brokers.length≤64:=by
 have:=QwM (key:=bkId) (a:=1) (b:=64) h.bs (fun x hx=>by have:=h.bk x hx;simp only [bkId];omega) (by omega)
 omega
theorem okImg.lim {m:Img}(h:okImg m) (hc:m.Configs.length≤1000000):limM m:=
 ⟨by have:=h.bl;omega,by have:=h.tn;omega,fun t ht=>by have:=h.tp t ht;omega,hc,by have:=h.dl;omega⟩
theorem Q2I {m:Img}(h:okImg m) (hc:m.Configs.length≤1000000):QeF m=some .nil:=by
 rw [Q0A (h.lim hc) h.i64,Q6S h];rfl
def catE {α:Type}(f:α→List Int):List α→List Int
 |[]=>[]
 |x::l=>f x++catE f l
theorem QvL {α:Type}(f:α→List Int):∀ l m:List α,catE f (l++m)=catE f l++catE f m
 |[],m=>rfl
 |x::l,m=>by simp only [List.cons_append,catE,QvL f l m,List.append_assoc]
theorem Q2J {α:Type}(f:α→List Int){l:List α}{i:Nat}(hi:i<l.length):catE f (l.take (i+1))=catE f (l.take i)++f l[i]:=by
 rw [List.take_succ_eq_append_getElem hi,QvL];simp [catE]
theorem Qi9 {α:Type}(f:α→List Int) (k:Nat):∀ l:List α,(∀ x∈l,(f x).length≤k)→(catE f l).length≤k*l.length
 |[],_=>by simp [catE]
 |x::l,h=>by
  have h1:=Qi9 f k l fun y hy=>h y (.tail _ hy)
  have h2:=h x (.head _)
  simp only [catE,List.length_append,List.length_cons,Nat.mul_add,Nat.mul_one];omega
theorem Qs6 {α:Type}(f:α→List Int):∀ (l:List α) (i:Nat),(catE f (l.take i)).length≤(catE f l).length
 |[],i=>by simp [catE]
 |x::l,0=>by simp [catE]
 |x::l,i+1=>by have:=Qs6 f l i;simp only [List.take_succ_cons,catE,List.length_append];omega
def QvM (b:Bk):List Int:=intB b.Id++(intB b.Epoch++(QnD (bytesOf b.Rack)++(QvX b.Fenced++QvX b.Leaving)))
def QsU (p:Pt):List Int:=rowB p.Ids++(rowB p.Isr++(intB p.Leader++(intB p.Epoch++(rowB p.Add++rowB p.Drop))))
def QrP (t:Tp):List Int:=intB t.Id++(QnD (bytesOf t.Name)++(intB (t.Parts.length:Int)++catE QsU t.Parts))
def Qt5 (c:Cf):List Int:=intB c.Topic++(QnD (bytesOf c.Key)++QnD (bytesOf c.Value))
def QxG (d:Dn):List Int:=intB d.Client++(intB d.Serial++intB d.Code)
def QzH (m:Img):List Int:=
 intB m.Last++(intB (m.Brokers.length:Int)++(catE QvM m.Brokers++(intB (m.Topics.length:Int)++(catE QrP m.Topics++(intB (m.Configs.length:Int)++(catE Qt5 m.Configs++(intB (m.Done.length:Int)++catE QxG m.Done)))))))
theorem il (n:Int):(intB n).length≤8:=(Qi7 n).1
theorem tl (s:ByteArray):(QnD (bytesOf s)).length≤8+s.size:=by have:=Q13 (bytesOf s);rw [QfK] at this;exact this
theorem QvN {b:Bk}(h:Qh0 b.Rack=true):(QvM b).length≤100:=by
 have:=(QkS h).2
 have:=tl b.Rack;have:=il b.Id;have:=il b.Epoch;have:=QvH b.Fenced;have:=QvH b.Leaving
 unfold QvM;simp only [List.length_append];omega
theorem Q2K {p:Pt}(h:part1 p=true):brOk p.Ids∧brOk p.Isr∧brOk p.Add∧brOk p.Drop:=by
 unfold part1 at h
 simp only [Bool.and_eq_true] at h
 exact⟨Qo5.1 h.1.1.1,Qo5.1 h.1.1.2,Qo5.1 h.1.2,Qo5.1 h.2⟩
theorem QyI {p:Pt}(h:part1 p=true):(QsU p).length≤300:=by
 obtain ⟨h1,h2,h3,h4⟩:=Q2K h
 have:=QlD p.Ids;have:=QlD p.Isr;have:=QlD p.Add;have:=QlD p.Drop;have:=il p.Leader;have:=il p.Epoch
 have:=h1.1;have:=h2.1;have:=h3.1;have:=h4.1
 unfold QsU;simp only [List.length_append];omega
theorem QyJ {t:Tp}(h:Qh0 t.Name=true) (hp:∀ p∈t.Parts,part1 p=true):(QrP t).length≤100+300*t.Parts.length:=by
 have:=(QkS h).2
 have:=tl t.Name;have:=il t.Id;have:=il (t.Parts.length:Int)
 have:=Qi9 QsU 300 t.Parts fun p h=>QyI (hp p h)
 unfold QrP;simp only [List.length_append];omega
theorem QyK {c:Cf}(h:Qh0 c.Key=true) (h2:c.Value.size≤256):(Qt5 c).length≤400:=by
 have:=(QkS h).2
 have:=tl c.Key;have:=tl c.Value;have:=il c.Topic
 unfold Qt5;simp only [List.length_append];omega
theorem QyL (d:Dn):(QxG d).length≤30:=by
 have:=il d.Client;have:=il d.Serial;have:=il d.Code
 unfold QxG;simp only [List.length_append];omega
def QmV (l:List Tp):Nat:=(l.map fun t=>t.Parts.length).sum
theorem QyM:∀ {l:List Tp},(∀ t∈l,Qh0 t.Name=true∧∀ p∈t.Parts,part1 p=true)→(catE QrP l).length≤100*l.length+300*QmV l
 |[],_=>by simp [catE]
 |t::l,h=>by
  have h1:=QyM (l:=l) fun y hy=>h y (.tail _ hy)
  have h2:=QyJ (h t (.head _)).1 (h t (.head _)).2
  simp only [catE,List.length_append,List.length_cons,QmV,List.map_cons,List.sum_cons] at h1⊢;omega
theorem okImg.part1 {m:Img}(h:okImg m){t:Tp}(ht:t∈m.Topics){p:Pt}(hp:p∈t.Parts):G.part1 p=true:=by
 have:=(h.tp t ht).2.2.2.2 p hp
 unfold Qp6 at this
 simp only [Bool.and_eq_true] at this
 exact this.1
theorem Q2L {m:Img}(h:okImg m) (hc:m.Configs.length≤1000) (hp:QmV m.Topics≤1000):(QzH m).length≤800000:=by
 have:=il m.Last;have:=il (m.Brokers.length:Int);have:=il (m.Topics.length:Int);have:=il (m.Configs.length:Int);have:=il (m.Done.length:Int)
 have:=Qi9 QvM 100 m.Brokers fun b hb=>QvN (h.bk b hb).2.2.2.2.1
 have:=QyM (l:=m.Topics) fun t ht=>⟨(h.tp t ht).2.2.1,fun p hp=>h.part1 ht hp⟩
 have:=Qi9 Qt5 400 m.Configs fun c hc=>QyK (h.cf c hc).2.1 (h.cf c hc).2.2
 have:=Qi9 QxG 30 m.Done fun d _=>QyL d
 have:=h.bl;have:=h.tn;have:=h.dl
 unfold QzH;simp only [List.length_append];omega
theorem QrQ {α:Type}{step:List Int×Int→Option ((List Int×Int)⊕List Int)}(f:α→List Int) (l:List α) (b:List Int) (hn:l.length≤1000000000)
  (hs:∀ i,(hi:i<l.length)→∀ c,c.length≤b.length+(catE f l).length→step (c,(i:Int))=some (.inl (c++f l[i],((i+1:Nat):Int)))) (he:∀ c,step (c,(l.length:Int))=some (.inr c)):
  iter step (b,(0:Int))=some (b++catE f l):=by
 have:=QdK (step:=step) (n:=l.length) (st:=fun i=>(b++catE f (l.take i),(i:Int))) (g:=fun _=>(none:Option Unit)) (ex:=fun _=>[]) (fin:=b++catE f l)
  (fun i hi _=>by
   rw [hs i hi _ (by rw [List.length_append];have:=Qs6 f l i;omega),Q2J f hi,List.append_assoc])
  (fun _=>by rw [he,List.take_length])
 rw [List.take_zero] at this
 simp only [catE,List.append_nil,nat0] at this
 rw [this]
 have:QcZ (fun _=>(none:Option Unit)) l.length 0=none:=QcK.2 fun _ _=>rfl
 rw [this];rfl
section
variable {m : Img}
theorem putB (h:okImg m) (b:List Int) (hb:b.length≤200000000):iter (Qi0 m) (b,(0:Int))=some (b++catE QvM m.Brokers):=by
 have hc:=Qi9 QvM 100 m.Brokers fun b hb=>QvN (h.bk b hb).2.2.2.2.1
 have:=h.bl
 refine QrQ QvM m.Brokers b (by omega) (fun i hi c hc2=> ?_) (fun c=>by unfold Qi0;simp [lt_n])
 have hk:=h.bk _ (List.getElem_mem hi)
 have:=(QkS hk.2.2.2.2.1).2
 have e1:=il m.Brokers[i].Id;have e2:=il m.Brokers[i].Epoch;have e3:=tl m.Brokers[i].Rack;have e4:=QvH m.Brokers[i].Fenced;have e5:=QfK m.Brokers[i].Rack
 unfold Qi0
 simp only [lt_i hi,if_true,QbW (in_i hi),QbO hi (show m.Brokers.length≤1000000000 by omega),QbT hi]
 rw [QgZ _ _ (by omega) (by omega),Option.bind_some,QgZ _ _ (by omega) (by simp only [List.length_append];omega),Option.bind_some,QuB _ _ (by simp only [List.length_append];omega),Option.bind_some,Option.bind_some,
  Qz1 _ _ (by simp only [List.length_append];omega),Option.bind_some,Qz1 _ _ (by simp only [List.length_append];omega),Option.bind_some]
 unfold QvM
 simp only [List.append_assoc]
theorem putP (h:okImg m){i:Nat}(hi:i<m.Topics.length) (b:List Int) (hb:b.length≤200000000):iter (Qi1 m (i:Int)) (b,(0:Int))=some (b++catE QsU m.Topics[i].Parts):=by
 have ht:=h.tp _ (List.getElem_mem hi)
 have hc:=Qi9 QsU 300 m.Topics[i].Parts fun p hp=>QyI (h.part1 (List.getElem_mem hi) hp)
 have hl:=ht.2.2.2.1
 refine QrQ QsU m.Topics[i].Parts b (by omega) (fun k hk c hc2=> ?_) (fun c=>by unfold Qi1;simp only [QbT hi];simp [lt_n])
 have hp:=h.part1 (List.getElem_mem hi) (List.getElem_mem hk)
 obtain ⟨q1,q2,q3,q4⟩:=Q2K hp
 have w1:=QlD m.Topics[i].Parts[k].Ids;have w2:=QlD m.Topics[i].Parts[k].Isr;have w3:=QlD m.Topics[i].Parts[k].Add;have w4:=QlD m.Topics[i].Parts[k].Drop
 have w5:=il m.Topics[i].Parts[k].Leader;have w6:=il m.Topics[i].Parts[k].Epoch
 have z1:=q1.1;have z2:=q2.1;have z3:=q3.1;have z4:=q4.1
 have big:∀ {l:List Int},brOk l→∀ x∈l,x≤9223372036854775807:=fun hb x hx=>by have:=QzD hb x hx;omega
 have hv:=ht.2.2.2.2 _ (List.getElem_mem hk)
 have hle:m.Topics[i].Parts[k].Leader≤64:=by
  unfold Qp6 Qt4 at hv
  simp only [Bool.and_eq_true,Bool.or_eq_true,decide_eq_true_eq] at hv
  rcases hv.2.2.2.2.1 with z |z
  ·omega
  ·have:=QzD q2 _ z.1;omega
 have hep:m.Topics[i].Parts[k].Epoch≤1073741824:=by
  unfold Qp6 QxF at hv
  simp only [Bool.and_eq_true,Bool.not_eq_true',Bool.or_eq_false_iff,decide_eq_false_iff_not] at hv
  omega
 unfold Qi1
 simp only [QbT hi]
 simp only [lt_i hk,if_true,QbW (in_i hk),QbO hk (show m.Topics[i].Parts.length≤1000000000 by omega),QbT hk]
 rw [Qw6 _ _ (big q1) (by omega) (by omega),Option.bind_some,Qw6 _ _ (big q2) (by omega) (by simp only [List.length_append];omega),Option.bind_some,
  QgZ _ _ (by omega) (by simp only [List.length_append];omega),Option.bind_some,QgZ _ _ (by omega) (by simp only [List.length_append];omega),Option.bind_some,
  Qw6 _ _ (big q3) (by omega) (by simp only [List.length_append];omega),Option.bind_some,Qw6 _ _ (big q4) (by omega) (by simp only [List.length_append];omega),Option.bind_some]
 unfold QsU
 simp only [List.append_assoc]
theorem putT (h:okImg m) (b:List Int) (hb:b.length≤100000000):iter (Qi2 m) (b,(0:Int))=some (b++catE QrP m.Topics):=by
 have hc:(catE QrP m.Topics).length≤77000*m.Topics.length:=Qi9 QrP 77000 m.Topics fun t ht=>by
  have:=QyJ (h.tp t ht).2.2.1 (fun p hp=>h.part1 ht hp)
  have:=(h.tp t ht).2.2.2.1
  omega
 have hn:=h.tn
 refine QrQ QrP m.Topics b (by omega) (fun i hi c hc2=> ?_) (fun c=>by unfold Qi2;simp [lt_n])
 have ht:=h.tp _ (List.getElem_mem hi)
 have hl:=h.last
 have:=(QkS ht.2.2.1).2
 have e1:=il m.Topics[i].Id;have e2:=il (m.Topics[i].Parts.length:Int);have e3:=tl m.Topics[i].Name;have e5:=QfK m.Topics[i].Name
 have e6:=ht.2.2.2.1
 unfold Qi2
 simp only [lt_i hi,if_true,QbW (in_i hi),QbO hi (show m.Topics.length≤1000000000 by omega),QbT hi]
 rw [QgZ _ _ (by omega) (by omega),Option.bind_some,QuB _ _ (by simp only [List.length_append];omega),Option.bind_some,QgZ _ _ (by omega) (by simp only [List.length_append];omega),Option.bind_some,Option.bind_some,
  putP h hi _ (by simp only [List.length_append];omega),Option.bind_some,Option.bind_some]
 unfold QrP
 simp only [List.append_assoc]
theorem putC (h:okImg m) (hcn:m.Configs.length≤100000) (b:List Int) (hb:b.length≤200000000):iter (Qi3 m) (b,(0:Int))=some (b++catE Qt5 m.Configs):=by
 have hc:=Qi9 Qt5 400 m.Configs fun c hc=>QyK (h.cf c hc).2.1 (h.cf c hc).2.2
 refine QrQ Qt5 m.Configs b (by omega) (fun i hi c hc2=> ?_) (fun c=>by unfold Qi3;simp [lt_n])
 have hk:=h.cf _ (List.getElem_mem hi)
 have h6:=h.i64 _ (List.getElem_mem hi)
 have:=(QkS hk.2.1).2
 have e1:=il m.Configs[i].Topic;have e3:=tl m.Configs[i].Key;have e4:=tl m.Configs[i].Value;have e5:=QfK m.Configs[i].Key;have e6:=QfK m.Configs[i].Value
 unfold i64 at h6
 unfold Qi3
 simp only [lt_i hi,if_true,QbW (in_i hi),QbO hi (show m.Configs.length≤1000000000 by omega),QbT hi]
 rw [QgZ _ _ (by omega) (by omega),Option.bind_some,QuB _ _ (by simp only [List.length_append];omega),Option.bind_some,QuB _ _ (by simp only [List.length_append];omega),Option.bind_some,Option.bind_some]
 unfold Qt5
 simp only [List.append_assoc]
theorem putD (h:okImg m) (b:List Int) (hb:b.length≤200000000):iter (Qi4 m) (b,(0:Int))=some (b++catE QxG m.Done):=by
 have hc:=Qi9 QxG 30 m.Done fun d _=>QyL d
 have:=h.dl
 refine QrQ QxG m.Done b (by omega) (fun i hi c hc2=> ?_) (fun c=>by unfold Qi4;simp [lt_n])
 have hk:=h.dn _ (List.getElem_mem hi)
 have e1:=il m.Done[i].Client;have e2:=il m.Done[i].Serial;have e3:=il m.Done[i].Code
 unfold Qi4
 simp only [lt_i hi,if_true,QbW (in_i hi),QbO hi (show m.Done.length≤1000000000 by omega),QbT hi]
 rw [QgZ _ _ (by omega) (by omega),Option.bind_some,QgZ _ _ (by omega) (by simp only [List.length_append];omega),Option.bind_some,QgZ _ _ (by omega) (by simp only [List.length_append];omega),Option.bind_some]
 unfold QxG
 simp only [List.append_assoc]
theorem Q81 (h:okImg m) (hcn:m.Configs.length≤1000) (hp:QmV m.Topics≤1000):QjK m=some (QzH m, .nil):=by
 have hlen:=Q2L h hcn hp
 have hl:=h.last;have:=h.bl;have:=h.tn;have:=h.dl
 have b1:=Qi9 QvM 100 m.Brokers fun b hb=>QvN (h.bk b hb).2.2.2.2.1
 unfold QjK
 rw [Q2I h (by omega)]
 simp only [GErr.isNil,Bool.not_true,Bool.false_eq_true,if_false,Option.bind_some]
 have hx:=hlen
 unfold QzH at hx
 simp only [List.length_append] at hx
 rw [QgZ _ _ (by omega) (by simp),Option.bind_some,QgZ _ _ (by omega) (by simp only [List.nil_append];omega),Option.bind_some,
  putB h _ (by simp only [List.nil_append,List.length_append];omega),Option.bind_some,Option.bind_some,
  QgZ _ _ (by omega) (by simp only [List.nil_append,List.length_append];omega),Option.bind_some,putT h _ (by simp only [List.nil_append,List.length_append];omega),Option.bind_some,Option.bind_some,
  QgZ _ _ (by omega) (by simp only [List.nil_append,List.length_append];omega),Option.bind_some,putC h (by omega) _ (by simp only [List.nil_append,List.length_append];omega),Option.bind_some,Option.bind_some,
  QgZ _ _ (by omega) (by simp only [List.nil_append,List.length_append];omega),Option.bind_some,putD h _ (by simp only [List.nil_append,List.length_append];omega),Option.bind_some,Option.bind_some]
 unfold QzH
 simp only [List.append_assoc,List.nil_append]
end
section
variable {X : Type} {step : List X × Int × Int × GErr → Option ((List X × Int × Int × GErr) ⊕ (List X × Int × GErr))} {rdX : Int → GErr → Option (X × Int × GErr)} {n : Int}
def QoM (step:List X×Int×Int×GErr→Option ((List X×Int×Int×GErr)⊕(List X×Int×GErr))) (rdX:Int→GErr→Option (X×Int×GErr)) (n:Int):Prop:=
 ∀ (acc:List X) (i a:Int) (e:GErr),step (acc,i,a,e)=if(decide (i<n)&&e.isNil)=true then(rdX a e).bind fun r=>grd (acc.length+1≤274877906944) (some (.inl (acc++[r.1],IntKind.i64.wrap (i+1),r.2.1,r.2.2)))else some (.inr (acc,a,e))
end
theorem QvO (a b:Bool){β:Type}{A B:Option β}:(((if a=true then some b else some false):Option Bool).bind fun x=>if x=true then A else B)=if(a&&b)=true then A else B:=by cases a<;>cases b<;>rfl
theorem Q6T (r:QaC) (n:Int):QoM (QbM r n) (fun a e=>QcF ⟨r.b,a,e⟩) n:=fun acc i a e=>by
 unfold QbM
 exact QvO _ _
theorem Q6U (r:QaC) (n:Int):QoM (QbS r n) (fun a e=>QcG ⟨r.b,a,e⟩) n:=fun acc i a e=>by
 unfold QbS
 exact QvO _ _
theorem Q6V (r:QaC) (n:Int):QoM (Qa6 r n) (fun a e=>QbC ⟨r.b,a,e⟩) n:=fun acc i a e=>by
 unfold Qa6
 exact QvO _ _
theorem Q6W (r:QaC) (n:Int):QoM (QbN r n) (fun a e=>QcH ⟨r.b,a,e⟩) n:=fun acc i a e=>by
 unfold QbN
 exact QvO _ _
theorem Q6X (r:QaC) (n:Int):QoM (QcE r n) (fun a e=>QdJ ⟨r.b,a,e⟩) n:=fun acc i a e=>by
 unfold QcE
 exact QvO _ _
section
variable {b pre post : List Int} (hb : okB b) (hl : b.length ≤ 1000000)
include hb hl
end
abbrev iz:Img:=⟨[],[],[],[],0⟩
theorem QyN {α ε:Type}[Inhabited α]{l:List α}{p:α→Bool}{f:α→ε}{step:Int→Option (Int⊕(Unit⊕ε))}
  (hs:∀ i:Nat,(hi:i<l.length)→step (i:Int)=some (if p l[i]=true then .inr (.inr (f l[i]))else .inl ((i+1:Nat):Int))) (he:step (l.length:Int)=some (.inr (.inl ()))):
  iter step 0=some (QxE (.inl ()) .inr ((l.find? p).map f)):=by
 have:=QdK (step:=step) (n:=l.length) (st:=fun i=>(i:Int)) (g:=fun i=>if p (rd l (i:Int))=true then some (f (rd l (i:Int)))else none) (ex:=fun e=> .inr e) (fin:= .inl ())
  (fun i hi _=>by
   rw [hs i hi,QbT hi]
   cases p l[i]<;>rfl) (fun _=>he)
 rw [nat0,Qx9 l (fun x=>if p x=true then some (f x)else none),QxD] at this
 exact this
section
variable {m : Img}
theorem Q2M (hl:m.Brokers.length≤1000000000) (t:Int):QeE m t=some (getV bz (QiI bkId m.Brokers t)):=by
 unfold QeE
 rw [QyN (l:=m.Brokers) (p:=fun x=>decide (bkId x=t)) (f:=fun x=>(x.Id,x.Epoch,x.Rack,x.Fenced,x.Leaving))]
 ·unfold QiI
  cases m.Brokers.find? fun x=>decide (bkId x=t)<;>rfl
 ·intro i hi
  unfold QhP
  simp only [lt_i hi,if_true,QbW (in_i hi),QbO hi hl,QbT hi]
  show (if decide (bkId m.Brokers[i]=t)=true then _ else _)=_
  cases decide (bkId m.Brokers[i]=t)<;>rfl
 ·unfold QhP;simp [lt_n]
theorem Q6Y (hl:m.Topics.length≤1000000000) (t:Int):Qe7 m t=some (getV tz (QiI tpId m.Topics t)):=by
 unfold Qe7
 rw [QyN (l:=m.Topics) (p:=fun x=>decide (tpId x=t)) (f:=fun x=>(x.Id,x.Name,x.Parts))]
 ·unfold QiI
  cases m.Topics.find? fun x=>decide (tpId x=t)<;>rfl
 ·intro i hi
  unfold QiB
  simp only [lt_i hi,if_true,QbW (in_i hi),QbO hi hl,QbT hi]
  show (if decide (tpId m.Topics[i]=t)=true then _ else _)=_
  cases decide (tpId m.Topics[i]=t)<;>rfl
 ·unfold QiB;simp [lt_n]
theorem Q6Z (hl:m.Brokers.length≤1000000000) (t:Int):QhR m t=some (QyE m t):=by
 unfold QhR QyE
 rw [Q2M hl]
 cases QiI bkId m.Brokers t<;>rfl
end
theorem QxH {ε:Type}{step:Int→Option (Int⊕(Unit⊕Unit))}{n:Nat}{p:Nat→Bool}{A:ε}(hs:∀ i:Nat,i<n→step (i:Int)=some (if p i=true then .inr (.inr ())else .inl ((i+1:Nat):Int))) (he:step (n:Int)=some (.inr (.inl ()))){K:Option ε}(b:Bool)
  (hb:b=true↔∃ i,i<n∧p i=true):
  ((((iter step (0:Int)).bind (Sum.elim (fun _=>(some (Sum.inl ()))) (fun _=>(((some A)).bind fun r=>some (Sum.inr r))))):Option (Unit⊕ε)).bind (Sum.elim (fun _=>K) some))=if b=true then some A else K:=by
 rw [QeQ (step:=step) (n:=n) (p:=fun i=> !p i) (b:= !b) (fun i hi=>by rw [hs i hi];cases p i<;>rfl) he]
 ·cases b<;>rfl
 ·constructor
  ·intro h i hi
   cases q:p i
   ·rfl
   ·rw [hb.2 ⟨i,hi,q⟩] at h;cases h
  ·intro h
   cases q:b
   ·rfl
   ·obtain ⟨i,hi,k⟩:=hb.1 q
    have:=h i hi
    rw [k] at this;cases this
theorem Q2N {α:Type}{l:List α}{p:α→Bool}{q:Nat→Bool}(h:∀ i,(hi:i<l.length)→q i=p l[i]):l.any p=true↔∃ i,i<l.length∧q i=true:=by
 rw [List.any_eq_true]
 constructor
 ·rintro ⟨x,hx,hp⟩;obtain ⟨i,hi,rfl⟩:=List.getElem_of_mem hx;exact⟨i,hi,by rw [h i hi];exact hp⟩
 ·rintro ⟨i,hi,hq⟩;exact⟨_,List.getElem_mem hi,by rw [←h i hi];exact hq⟩
theorem rHas (l:List Int) (x:Int) (hl:l.length≤1000000000):QeL l x=some (decide (x∈l)):=by
 unfold QeL
 rw [QxH (step:=Qh4 l x) (n:=l.length) (p:=fun i=>decide (rd l (i:Int)=x)) (b:=decide (x∈l))]
 ·cases decide (x∈l)<;>rfl
 ·intro i hi
  unfold Qh4
  simp only [lt_i hi,if_true,QbW (in_i hi),QbO hi hl]
  cases decide (rd l (i:Int)=x)<;>rfl
 ·unfold Qh4;simp [lt_n]
 ·rw [decide_eq_true_eq]
  constructor
  ·intro h;obtain ⟨i,hi,rfl⟩:=QwL h;exact⟨i,hi,decide_eq_true rfl⟩
  ·rintro ⟨i,hi,h⟩;rw [←of_decide_eq_true h];exact QkL hi
section
variable {m : Img}
theorem Q60 (h:limM m) (id:Int):QgA m id=some (QrM m id):=by
 unfold QgA
 have h1:=h.tp
 rw [QxH (step:=QgE m id) (n:=m.Topics.length) (p:=fun i=>(rd m.Topics (i:Int)).Parts.any fun p=>decide (p.Leader=id)) (b:=QrM m id)]
 ·cases QrM m id<;>rfl
 ·intro i hi
  have h2:=h.pt _ (QkL hi)
  unfold QgE
  simp only [lt_i hi,if_true,QbO hi (show m.Topics.length≤1000000000 by omega)]
  refine(QxH (step:=QgD m id (i:Int)) (n:=(rd m.Topics (i:Int)).Parts.length) (p:=fun k=>decide ((rd (rd m.Topics (i:Int)).Parts (k:Int)).Leader=id)) (A:=Sum.inr (Sum.inr ())) (K:=some (Sum.inl ((i+1:Nat):Int))) (b:=(rd m.Topics (i:Int)).Parts.any fun p=>decide (p.Leader=id)) ?_ ?_ ?_).trans ?_
  rotate_left 3
  ·cases ((rd m.Topics (i:Int)).Parts.any fun p=>decide (p.Leader=id))<;>rfl
  ·intro k hk
   unfold QgD
   simp only [QbW (in_i hi),lt_i hk,if_true,QbW (in_i hk),QbO hk (show (rd m.Topics (i:Int)).Parts.length≤1000000000 by omega)]
   cases decide ((rd (rd m.Topics (i:Int)).Parts (k:Int)).Leader=id)<;>rfl
  ·unfold QgD;simp only [QbW (in_i hi)];simp [lt_n]
  ·exact Q2N fun k hk=>by rw [QbT hk]
 ·unfold QgE;simp [lt_n]
 ·exact Q2N fun i hi=>by rw [QbT hi]
structure limP (p:Pt):Prop where
 ids:p.Ids.length≤1000000
 isr:p.Isr.length≤1000000
 add:p.Add.length≤1000000
 drop:p.Drop.length≤1000000
def addV (p:Pt):Bool:=p.Add.all fun x=>decide (x∈p.Ids)&& !decide (x∈p.Drop)
def Q0C (m:Img) (p:Pt):Int:=
 if(p.Ids.length:Int)=0 then 18
 else if(p.Ids.all fun x=>hasB m x)=true then
  if(p.Isr.length:Int)=0 then 18
  else if QeW p.Isr p.Ids=true then
   if Qt4 m p=true then
    if addV p=true then if QeW p.Drop p.Ids=true then 0 else 18 else 18
   else 17
  else 18
 else 18
theorem Q61 (hl:m.Brokers.length≤1000000000){p:Pt}(hp:limP p):QhS m p=some (Q0C m p):=by
 have l1:=hp.ids;have l2:=hp.isr;have l3:=hp.add;have l4:=hp.drop
 unfold QhS Q0C
 by_cases g1:(p.Ids.length:Int)=0
 ·rw [if_pos (decide_eq_true g1),if_pos g1]
 rw [if_neg (fun q=>g1 (of_decide_eq_true q)),if_neg g1]
 refine(QeQ (step:=QgF m p) (n:=p.Ids.length) (p:=fun i=>hasB m (rd p.Ids (i:Int))) (A:=(18:Int)) (b:=p.Ids.all fun x=>hasB m x) ?_ ?_ ?_).trans ?_
 ·intro i hi
  unfold QgF
  simp only [lt_i hi,if_true,QbW (in_i hi),QbO hi (show p.Ids.length≤1000000000 by omega),Q2M hl]
  unfold hasB
  cases QiI bkId m.Brokers (rd p.Ids (i:Int))<;>rfl
 ·unfold QgF;simp [lt_n]
 ·exact QoE fun i hi=>by rw [QbT hi]
 by_cases g2:(p.Ids.all fun x=>hasB m x)=true
 rotate_left
 ·rw [if_neg g2,if_neg g2]
 rw [if_pos g2,if_pos g2]
 by_cases g3:(p.Isr.length:Int)=0
 ·rw [if_pos (decide_eq_true g3),if_pos g3]
 rw [if_neg (fun q=>g3 (of_decide_eq_true q)),if_neg g3]
 refine(QeQ (step:=QgG p) (n:=p.Isr.length) (p:=fun i=>decide (rd p.Isr (i:Int)∈p.Ids)) (A:=(18:Int)) (b:=QeW p.Isr p.Ids) ?_ ?_ ?_).trans ?_
 ·intro i hi
  unfold QgG
  simp only [lt_i hi,if_true,QbW (in_i hi),QbO hi (show p.Isr.length≤1000000000 by omega),rHas _ _ (show p.Ids.length≤1000000000 by omega),Option.bind_some]
  cases decide (rd p.Isr (i:Int)∈p.Ids)<;>rfl
 ·unfold QgG;simp [lt_n]
 ·exact QoE fun i hi=>by rw [QbT hi]
 by_cases g4:QeW p.Isr p.Ids=true
 rotate_left
 ·rw [if_neg g4,if_neg g4]
 rw [if_pos g4,if_pos g4]
 have hA:((if decide (p.Leader≠0)=true then(QeL p.Isr p.Leader).bind fun r76=>if(!r76)=true then some true else(QhR m p.Leader).bind fun r82=>some (!r82)else some false:Option Bool))=some (!Qt4 m p):=by
  unfold Qt4
  rw [rHas _ _ (by omega),Q6Z hl]
  by_cases q:p.Leader=0
  ·simp [q]
  ·rw [if_pos (by simpa using q)]
   by_cases q2:p.Leader∈p.Isr
   ·simp [q,q2]
   ·simp [q,q2]
 rw [hA,Option.bind_some]
 by_cases g5:Qt4 m p=true
 rotate_left
 ·have:Qt4 m p=false:=by simpa using g5
  rw [this];rfl
 rw [g5,if_neg (by decide),if_pos rfl]
 refine(QeQ (step:=QgH p) (n:=p.Add.length) (p:=fun i=>decide (rd p.Add (i:Int)∈p.Ids)&& !decide (rd p.Add (i:Int)∈p.Drop)) (A:=(18:Int)) (b:=addV p) ?_ ?_ ?_).trans ?_
 ·intro i hi
  unfold QgH
  simp only [lt_i hi,if_true,QbW (in_i hi),QbO hi (show p.Add.length≤1000000000 by omega),rHas _ _ (show p.Ids.length≤1000000000 by omega),rHas _ _ (show p.Drop.length≤1000000000 by omega),Option.bind_some]
  cases decide (rd p.Add (i:Int)∈p.Ids)<;>cases decide (rd p.Add (i:Int)∈p.Drop)<;>rfl
 ·unfold QgH;simp [lt_n]
 ·exact QoE fun i hi=>by rw [QbT hi]
 by_cases g6:addV p=true
 rotate_left
 ·rw [if_neg g6,if_neg g6]
 rw [if_pos g6,if_pos g6]
 refine(QeQ (step:=QgI p) (n:=p.Drop.length) (p:=fun i=>decide (rd p.Drop (i:Int)∈p.Ids)) (A:=(18:Int)) (K:=some 0) (b:=QeW p.Drop p.Ids) ?_ ?_ ?_).trans ?_
 ·intro i hi
  unfold QgI
  simp only [lt_i hi,if_true,QbW (in_i hi),QbO hi (show p.Drop.length≤1000000000 by omega),rHas _ _ (show p.Ids.length≤1000000000 by omega),Option.bind_some]
  cases decide (rd p.Drop (i:Int)∈p.Ids)<;>rfl
 ·unfold QgI;simp [lt_n]
 ·exact QoE fun i hi=>by rw [QbT hi]
 cases QeW p.Drop p.Ids<;>rfl
theorem Q03 {p:Pt}(h1:part1 p=true) (h2:0≤p.Epoch∧p.Epoch≤1073741824):Qp6 m p=decide (Q0C m p=0):=by
 have e2:QxF p=(decide ((p.Ids.length:Int)=0) ||decide ((p.Isr.length:Int)=0)):=by
  unfold QxF
  rw [decide_eq_false (show¬ p.Epoch<0 by omega),decide_eq_false (show¬ 1073741824<p.Epoch by omega)]
  cases decide ((p.Ids.length:Int)=0)<;>cases decide ((p.Isr.length:Int)=0)<;>rfl
 have e5:(QeW p.Add p.Ids&&Q0X p)=addV p:=by
  unfold QeW Q0X addV
  induction p.Add with
  |nil=>rfl
  |cons x l ih=>
   simp only [List.all_cons,←ih]
   cases decide (x∈p.Ids)<;>cases decide (x∈p.Drop)<;>simp
 unfold Qp6 Q0W Q0C
 rw [h1,e2,←e5]
 by_cases a1:(p.Ids.length:Int)=0
 ·simp [a1]
 by_cases a2:(p.Ids.all fun x=>hasB m x)=true
 rotate_left
 ·rw [if_neg a1,if_neg a2]
  have:(p.Ids.all fun x=>hasB m x)=false:=by simpa using a2
  rw [this];rfl
 by_cases a3:(p.Isr.length:Int)=0
 ·simp [a1,a2,a3]
 rw [if_neg a1,if_pos a2,if_neg a3,a2,decide_eq_false a1,decide_eq_false a3]
 cases QeW p.Isr p.Ids<;>cases QeW p.Add p.Ids<;>cases QeW p.Drop p.Ids<;>cases Qt4 m p<;>cases Q0X p<;>rfl
end
theorem QuF (a b:List Int) (h:a.length≤1000000):Qf9 a b=some (decide (a=b)):=by
 unfold Qf9
 by_cases g:a.length=b.length
 ·rw [if_neg (by simp [g])]
  rw [QeQ (step:=Qg5 a b) (n:=a.length) (p:=fun i=>decide (rd a (i:Int)=rd b (i:Int))) (A:=false) (K:=some true) (b:=decide (a=b))]
  ·cases decide (a=b)<;>rfl
  ·intro i hi
   unfold Qg5
   simp only [lt_i hi,if_true,QbW (in_i hi),QbW (in_i (show i<b.length by omega)),QbO hi (show a.length≤1000000000 by omega)]
   by_cases q:rd a (i:Int)=rd b (i:Int)
   ·rw [if_neg (fun z=>absurd q (of_decide_eq_true z)),if_pos (decide_eq_true q)]
   ·rw [if_pos (decide_eq_true q),if_neg (fun z=>q (of_decide_eq_true z))]
  ·unfold Qg5;simp [lt_n]
  ·rw [decide_eq_true_eq]
   constructor
   ·rintro rfl i _;exact decide_eq_true rfl
   ·intro k
    apply List.ext_getElem g
    intro i h1 h2
    have:=of_decide_eq_true (k i h1)
    rwa [QbT h1,QbT h2] at this
 ·rw [if_pos (decide_eq_true (by omega)),decide_eq_false (fun e=>g (by rw [e]))]
def Q2O (a b:Pt):Bool:=decide (a.Leader=b.Leader)&&(decide (a.Epoch=b.Epoch)&&(decide (a.Ids=b.Ids)&&(decide (a.Isr=b.Isr)&&(decide (a.Add=b.Add)&&decide (a.Drop=b.Drop)))))
theorem QzI {a:Pt}(h:limP a) (b:Pt):Qd2 a b=some (Q2O a b):=by
 unfold Qd2 Q2O
 simp only [QuF _ _ h.ids,QuF _ _ h.isr,QuF _ _ h.add,QuF _ _ h.drop,QsT,Qs5,Option.bind_some]
 by_cases g1:a.Leader=b.Leader
 ·by_cases g2:a.Epoch=b.Epoch
  ·simp only [g1,g2,ne_eq,not_true_eq_false,decide_false,Bool.or_self,Bool.false_eq_true,if_false,decide_true,Bool.true_and]
   cases decide (a.Ids=b.Ids)<;>cases decide (a.Isr=b.Isr)<;>cases decide (a.Add=b.Add)<;>cases decide (a.Drop=b.Drop)<;>rfl
  ·simp [g1,g2]
 ·simp [g1]
instance (a b:Cf):Decidable (cfLt a b):=by unfold cfLt;infer_instance
def Q2P (r:Rec):Pt:=⟨r.Ids,r.Isr,r.Leader,r.Epoch,r.Add,r.Drop⟩
theorem okImg.limT {m:Img}(h:okImg m):m.Topics.length≤1000000000:=by have:=h.tn;omega
section
variable {m : Img} {r : Rec}
theorem okRec.limP (h:okRec r):G.limP (Q2P r):=by
 have a1:=(Qs4 h.ids).1.1;have a2:=(Qs4 h.isr).1.1;have a3:=(Qs4 h.add).1.1;have a4:=(Qs4 h.drop).1.1
 exact⟨by show r.Ids.length≤_;omega,by show r.Isr.length≤_;omega,by show r.Add.length≤_;omega,by show r.Drop.length≤_;omega⟩
end
theorem okRec.part1 {r:Rec}(h:okRec r):G.part1 (Q2P r)=true:=by
 unfold G.part1 Q2P
 rw [Qo5.2 (Qs4 h.ids).1,Qo5.2 (Qs4 h.isr).1,Qo5.2 (Qs4 h.add).1,Qo5.2 (Qs4 h.drop).1];rfl
theorem QzJ (t:Tp) (l:List Tp):QmV (t::l)=t.Parts.length+QmV l:=by unfold QmV;simp
def smaller (n:Nat) (m:Img):Prop:=m.Configs.length≤n∧QmV m.Topics≤n
theorem smaller.le {n k:Nat}{m:Img}(h:smaller n m) (hk:n≤k):smaller k m:=⟨by have:=h.1;omega,by have:=h.2;omega⟩
structure okN (n:Nat) (m:Img):Prop where
 ok:okImg m
 sm:smaller n m
theorem okN.lim {n:Nat}{m:Img}(h:okN n m) (hn:n≤1000):limM m:=h.ok.lim (by have:=h.sm.1;omega)
theorem Q2Q {p:Pt}(h:limP p):Qd2 p p=some true:=by
 rw [QzI h];unfold Q2O;simp
theorem Q04 {t:Tp}(h:t.Parts.length≤1000000) (hp:∀ p∈t.Parts,limP p):QfX t t=some true:=by
 unfold QfX
 simp only [ne_eq,not_true_eq_false,decide_false,Bool.false_eq_true,if_false,decide_true,Bool.not_true,Option.bind_some]
 refine(QeQ (step:=Qd6 t t) (n:=t.Parts.length) (p:=fun _=>true) (A:=false) (K:=some true) (b:=true) ?_ ?_ ?_).trans rfl
 ·intro i hi
  unfold Qd6
  simp only [lt_i hi,if_true,QbW (in_i hi),QbO hi (show t.Parts.length≤1000000000 by omega),Q2Q (hp _ (QkL hi)),Option.bind_some]
  rfl
 ·unfold Qd6;simp [lt_n]
 ·exact⟨fun _ _ _=>rfl,fun _=>rfl⟩
theorem Q0D (b:ByteArray):(b==b)=true:=(MapKept.bytes_beq b b).2 rfl
theorem QvP {m:Img}(h:limM m) (hp:∀ t∈m.Topics,∀ p∈t.Parts,limP p):QiK m m=some true:=by
 have l1:=h.bk;have l2:=h.tp;have l3:=h.cf;have l4:=h.dn
 unfold QiK
 simp only [ne_eq,not_true_eq_false,decide_false,Bool.false_eq_true,if_false,Option.bind_some]
 refine(QeQ (step:=QhA m m) (n:=m.Brokers.length) (p:=fun _=>true) (A:=false) (b:=true) ?_ ?_ ⟨fun _ _ _=>rfl,fun _=>rfl⟩).trans ((if_pos rfl).trans ?_)
 ·intro i hi
  unfold QhA
  simp only [lt_i hi,if_true,QbW (in_i hi),QbO hi (show m.Brokers.length≤1000000000 by omega),Q0D]
  simp [andL]
 ·unfold QhA;simp [lt_n]
 refine(QeQ (step:=QhB m m) (n:=m.Topics.length) (p:=fun _=>true) (A:=false) (b:=true) ?_ ?_ ⟨fun _ _ _=>rfl,fun _=>rfl⟩).trans ((if_pos rfl).trans ?_)
 ·intro i hi
  unfold QhB
  simp only [lt_i hi,if_true,QbW (in_i hi),QbO hi (show m.Topics.length≤1000000000 by omega),Q04 (h.pt _ (QkL hi)) (hp _ (QkL hi)),Option.bind_some]
  rfl
 ·unfold QhB;simp [lt_n]
 refine(QeQ (step:=QhC m m) (n:=m.Configs.length) (p:=fun _=>true) (A:=false) (b:=true) ?_ ?_ ⟨fun _ _ _=>rfl,fun _=>rfl⟩).trans ((if_pos rfl).trans ?_)
 ·intro i hi
  unfold QhC
  simp only [lt_i hi,if_true,QbW (in_i hi),QbO hi (show m.Configs.length≤1000000000 by omega),Q0D]
  simp [andL]
 ·unfold QhC;simp [lt_n]
 refine(QeQ (step:=QhD m m) (n:=m.Done.length) (p:=fun _=>true) (A:=false) (K:=some true) (b:=true) ?_ ?_ ⟨fun _ _ _=>rfl,fun _=>rfl⟩).trans ((if_pos rfl).trans rfl)
 ·intro i hi
  unfold QhD
  simp only [lt_i hi,if_true,QbW (in_i hi),QbO hi (show m.Done.length≤1000000000 by omega)]
  simp [andL]
 ·unfold QhD;simp [lt_n]
def w1:Rec:=⟨2,1,1,0,0,0,0,0,0,false,⟨#[]⟩,⟨#[]⟩,⟨#[]⟩,⟨#[97]⟩,[],[],[],[]⟩
def w2:Rec:=⟨4,1,1,0,0,0,0,0,0,false,⟨#[]⟩,⟨#[]⟩,⟨#[]⟩,⟨#[]⟩,[],[],[],[]⟩
def w3:Rec:=⟨2,2,1,0,0,0,0,0,0,false,⟨#[]⟩,⟨#[]⟩,⟨#[]⟩,⟨#[98]⟩,[],[],[],[]⟩
def w4:Rec:=⟨4,2,1,0,0,0,0,0,0,false,⟨#[]⟩,⟨#[]⟩,⟨#[]⟩,⟨#[]⟩,[],[],[],[]⟩
def w5:Rec:=⟨7,0,0,1,0,0,0,0,0,false,⟨#[116]⟩,⟨#[]⟩,⟨#[]⟩,⟨#[]⟩,[],[],[],[]⟩
def w6:Rec:=⟨8,0,0,1,0,1,0,0,0,false,⟨#[]⟩,⟨#[]⟩,⟨#[]⟩,⟨#[]⟩,[1,2],[1,2],[],[]⟩
theorem QzK:QhY=some true:=by kernel_rfl
theorem curI {b:List Int}(hb:okB b) (hl:b.length≤1000000){a:Nat}{e:GErr}{s:QaB}(h:cor b a e s) (m:Int) (hm:m≤9223372036854775807):
  ∃ (v:Int) (a':Nat) (e':GErr) (t:QaB),Qa5 ⟨b,(a:Int),e⟩ m=some (v,(a':Int),e')∧QaY ⟨b,⟨s.At,s.Code,s.Op,s.Where⟩⟩ m=some (v,t.At,t.Code,t.Op,t.Where)∧cor b a' e' t:=by
 obtain ⟨v,a',e',t,h1,h2,h3,h4,h5,_⟩:=Q8R hb hl h m hm
 refine⟨v,a',e',t,h1, ?_,h3⟩
 have h2':QcA b ⟨s.At,s.Code,s.Op,s.Where⟩ ⟨1,m,0⟩=some (t,⟨v,false,[],[]⟩):=h2
 unfold top at h5
 unfold QaY
 simp only [h2',Option.bind_some]
 rw [QfP (by omega) (by omega)]
theorem curF {b:List Int}(hb:okB b) (hl:b.length≤1000000){a:Nat}{e:GErr}{s:QaB}(h:cor b a e s):
  ∃ (v:Bool) (a':Nat) (e':GErr) (t:QaB),QbY ⟨b,(a:Int),e⟩=some (v,(a':Int),e')∧QdD ⟨b,⟨s.At,s.Code,s.Op,s.Where⟩⟩=some (v,t.At,t.Code,t.Op,t.Where)∧cor b a' e' t:=by
 obtain ⟨v,a',e',t,h1,h2,h3⟩:=Q8S hb hl h
 exact⟨v,a',e',t,h1,(by
  have h2':QcA b ⟨s.At,s.Code,s.Op,s.Where⟩ ⟨2,0,0⟩=some (t,⟨0,v,[],[]⟩):=h2
  unfold QdD
  simp only [h2',Option.bind_some]),h3⟩
theorem curT {b:List Int}(hb:okB b) (hl:b.length≤1000000){a:Nat}{e:GErr}{s:QaB}(h:cor b a e s) (m:Int) (hm:m≤9223372036854775807):
  ∃ (v:List Int) (a':Nat) (e':GErr) (t:QaB),QbX ⟨b,(a:Int),e⟩ m=some (v,(a':Int),e')∧Qb8 ⟨b,⟨s.At,s.Code,s.Op,s.Where⟩⟩ m=some (v,t.At,t.Code,t.Op,t.Where)∧cor b a' e' t:=by
 obtain ⟨v,a',e',t,h1,h2,h3,_⟩:=Q8T hb hl h m hm
 exact⟨v,a',e',t,h1,(by
  have h2':QcA b ⟨s.At,s.Code,s.Op,s.Where⟩ ⟨3,m,0⟩=some (t,⟨0,false,v,[]⟩):=h2
  unfold Qb8
  simp only [h2',Option.bind_some]),h3⟩
theorem curR {b:List Int}(hb:okB b) (hl:b.length≤1000000){a:Nat}{e:GErr}{s:QaB}(h:cor b a e s) (m k:Int) (hm:m≤9223372036854775807) (hk:k≤9223372036854775807):
  ∃ (v:List Int) (a':Nat) (e':GErr) (t:QaB),QcO ⟨b,(a:Int),e⟩ m k=some (v,(a':Int),e')∧QcT ⟨b,⟨s.At,s.Code,s.Op,s.Where⟩⟩ m k=some (v,t.At,t.Code,t.Op,t.Where)∧cor b a' e' t∧v.length≤b.length:=by
 obtain ⟨v,a',e',t,h1,h2,h3,h4⟩:=Q8U hb hl h m k hm hk
 exact⟨v,a',e',t,h1,(by
  have h2':QcA b ⟨s.At,s.Code,s.Op,s.Where⟩ ⟨4,m,k⟩=some (t,⟨0,false,[],v⟩):=h2
  unfold QcT
  simp only [h2',Option.bind_some]),h3,h4⟩
theorem Q5B {b:List Int}(h:∀ x∈b,(Lit.int .u8 x).wf=true):okB b:=by
 intro x hx
 have:=h x hx
 simp [Lit.wf,IntKind.min,IntKind.max,IntKind.signed,IntKind.bits] at this
 omega
abbrev W16:=QaM
def toW:Option R16→W16
 |none=>⟨⟨#[]⟩,0,0⟩
 |some (o,a,c,_)=>⟨o,a,c⟩
def tup3:R16→ByteArray×Int×Int
 |(o,a,c,_)=>(o,a,c)
theorem Q3V (n a b:Int):QgW n a b=some (decide (a≤n)&&decide (n≤b)):=by
 unfold QgW;simp only [Qs5,Option.bind_some]
theorem Q2R (n a b:Int):(!(decide (a≤n)&&decide (n≤b)))=(decide (n<a) ||decide (b<n)):=by
 by_cases h1:a≤n<;>by_cases h2:n≤b<;>simp [h1,h2]<;>omega
theorem Q0E (f:Option R16):(((some (QxE (Sum.inl ()) (fun e=>Sum.inr (tup3 e)) f):Option (Unit⊕(ByteArray×Int×Int))).bind (Sum.elim (fun _=>(some (Sum.inl ()))) (fun(x26,x27,x28)=>(((some (⟨x26,x27,x28⟩:QaM))).bind fun r=>some (Sum.inr r))))):Option (Unit⊕QaM)).bind (Sum.elim (fun _=>(some (⟨⟨#[]⟩,0,0⟩:QaM))) some)=some (toW f):=by
 rcases f with _ |⟨o,a,c,k⟩<;>rfl
theorem QzL {m:Img}(h:limM m):QhL m=some (toW (QcZ (brG m) m.Brokers.length 0)):=by
 unfold QhL
 have hn:m.Brokers.length≤1000000000:=by have:=h.bk;omega
 have:=QdK (step:=QfG m) (n:=m.Brokers.length) (st:=fun i=>(i:Int)) (g:=brG m) (ex:=fun e=> .inr (tup3 e)) (fin:= .inl ())
  (fun i hi _=>by
   have e0:(if decide ((0:Int)<(i:Int))=true then grd (0≤IntKind.i64.wrap ((i:Int)- 1)∧IntKind.i64.wrap ((i:Int)- 1)<(m.Brokers.length:Int)) (some (rd m.Brokers (IntKind.i64.wrap ((i:Int)- 1))).Id)else some 0:Option Int)=some (lowB m i):=by
    unfold lowB
    by_cases g:i=0
    ·subst g;rfl
    ·rw [if_pos (decide_eq_true (by omega)),if_neg g,show IntKind.i64.wrap ((i:Int)- 1)=((i - 1:Nat):Int) by rw [QfP (by omega) (by omega)];omega,QbW (by omega)]
   unfold QfG
   simp only [lt_i hi,if_true,QbW (in_i hi),QbO hi hn,QxC,Q60 h,Q3V,QsT,Qs5,Option.bind_some,e0,Q2R]
   unfold brG
   by_cases g1:(decide ((rd m.Brokers (i:Int)).Id≤lowB m i) ||(decide (64<(rd m.Brokers (i:Int)).Id) ||(decide ((rd m.Brokers (i:Int)).Epoch<0) ||(decide (1073741824<(rd m.Brokers (i:Int)).Epoch) || !Qh0 (rd m.Brokers (i:Int)).Rack))))=true
   ·rw [if_pos g1]
    rw [show (decide ((rd m.Brokers (i:Int)).Id≤lowB m i) ||(decide (64<(rd m.Brokers (i:Int)).Id) ||(decide ((rd m.Brokers (i:Int)).Epoch<0) ||decide (1073741824<(rd m.Brokers (i:Int)).Epoch) || !Qh0 (rd m.Brokers (i:Int)).Rack)))=true by rw [←g1];simp only [Bool.or_assoc],if_pos rfl];rfl
   ·rw [if_neg g1]
    rw [show (decide ((rd m.Brokers (i:Int)).Id≤lowB m i) ||(decide (64<(rd m.Brokers (i:Int)).Id) ||(decide ((rd m.Brokers (i:Int)).Epoch<0) ||decide (1073741824<(rd m.Brokers (i:Int)).Epoch) || !Qh0 (rd m.Brokers (i:Int)).Rack)))=false by rw [←(Bool.not_eq_true _).mp g1];simp only [Bool.or_assoc],if_neg (by decide)]
    by_cases g2:((rd m.Brokers (i:Int)).Fenced&&((rd m.Brokers (i:Int)).Leaving&&QrM m (rd m.Brokers (i:Int)).Id))=true
    ·rw [if_pos g2,if_pos g2];rfl
    ·rw [if_neg g2,if_neg g2])
  (fun _=>by unfold QfG;simp [lt_n])
 rw [nat0] at this
 rw [this]
 exact Q0E _
theorem Q3W {m:Img}(hl:m.Brokers.length≤1000000000){p:Pt}(hp:limP p):Qj7 m p=some (Qp6 m p):=by
 unfold Qj7
 have rb:=fun l=>(Q6H l).2
 simp only [rb,QsT,Q3V,Q61 hl hp,Option.bind_some,Qs5]
 have e1:(!brB p.Ids ||(!brB p.Isr ||(!brB p.Add || !brB p.Drop)))= !part1 p:=by unfold part1;simp [Bool.not_and,Bool.or_assoc]
 rw [e1]
 cases h1:part1 p
 ·unfold Qp6;rw [h1];rfl
 ·simp only [Bool.not_true,Bool.false_eq_true,if_false]
  by_cases h2:0≤p.Epoch∧p.Epoch≤1073741824
  ·rw [Q03 h1 h2,decide_eq_true h2.1,decide_eq_true h2.2];rfl
  ·have h3:(decide (0≤p.Epoch)&&decide (p.Epoch≤1073741824))=false:=by
    by_cases a:0≤p.Epoch<;>by_cases b:p.Epoch≤1073741824<;>simp [a,b]<;>omega
   rw [h3]
   have:QxF p=true:=by
    unfold QxF
    by_cases a:p.Epoch<0
    ·simp [a]
    ·have:1073741824<p.Epoch:=by omega
     simp [this]
   unfold Qp6
   rw [this,h1]
   cases (p.Ids.all fun x=>hasB m x)<;>rfl
theorem Q0F {α:Type}[DecidableEq α]{l:List α}{k:Nat}(hk:k<l.length) (q:α):inL (l.take (k+1)) q=(inL (l.take k) q ||decide (l[k]=q)):=by
 unfold inL
 rw [List.take_succ_eq_append_getElem hk,List.any_append];simp
theorem Q62 {m:Img}(hn:m.Topics.length≤1000000){i:Nat}(hi:i<m.Topics.length):iter (QeI m (i:Int)) ((0:Int),false,(0:Int))=some (lowT m i,inL ((nmT m).take i) (rd m.Topics (i:Int)).Name):=by
 have:=QdK (step:=QeI m (i:Int)) (n:=i) (st:=fun k=>(lowT m k,inL ((nmT m).take k) (rd m.Topics (i:Int)).Name,(k:Int))) (g:=fun _=>(none:Option Unit)) (ex:=fun _=>(0,false)) (fin:=(lowT m i,inL ((nmT m).take i) (rd m.Topics (i:Int)).Name))
  (fun k hk _=>by
   have hk2:k<m.Topics.length:=by omega
   have hk3:k<(nmT m).length:=by unfold nmT;simpa using hk2
   have hnm:(nmT m)[k]=(rd m.Topics (k:Int)).Name:=by rw [QbT hk2];exact List.getElem_map _
   unfold QeI
   simp only [lt_i hk,if_true,QbW (in_i hk2),QbO hk2 (show m.Topics.length≤1000000000 by omega)]
   rw [Q0F hk3,hnm,QrN]
   cases inL ((nmT m).take k) (rd m.Topics (i:Int)).Name<;>rfl)
  (fun _=>by unfold QeI;simp [lt_n])
 rw [show (lowT m 0,inL ((nmT m).take 0) (rd m.Topics (i:Int)).Name,((0:Nat):Int))=((0:Int),false,(0:Int)) from rfl] at this
 rw [this]
 have:QcZ (fun _=>(none:Option Unit)) i 0=none:=QcK.2 fun _ _=>rfl
 rw [this];rfl
theorem QyO {m:Img}(h:limM m) (hp:∀ t∈m.Topics,∀ p∈t.Parts,limP p):iter (QeJ m) (0:Int)=some (QxE (Sum.inl ()) (fun e=>Sum.inr (tup3 e)) (QcZ (tpG m) m.Topics.length 0)):=by
 have hn:m.Topics.length≤1000000000:=by have:=h.tp;omega
 have:=QdK (step:=QeJ m) (n:=m.Topics.length) (st:=fun i=>(i:Int)) (g:=tpG m) (ex:=fun e=> .inr (tup3 e)) (fin:= .inl ())
  (fun i hi _=>by
   unfold QeJ
   have hpt:(rd m.Topics (i:Int)).Parts.length≤1000000000:=by have:=h.pt _ (QkL hi);omega
   simp only [lt_i hi,if_true,QbW (in_i hi),QbO hi hn,Q62 h.tp hi,QxC,QsT,Option.bind_some]
   unfold tpG
   by_cases g1:(decide ((rd m.Topics (i:Int)).Id≤lowT m i) ||(decide (m.Last<(rd m.Topics (i:Int)).Id) ||(!Qh0 (rd m.Topics (i:Int)).Name ||(inL ((nmT m).take i) (rd m.Topics (i:Int)).Name ||decide (256<((rd m.Topics (i:Int)).Parts.length:Int))))))=true
   ·rw [if_pos g1,if_pos g1];rfl
   ·rw [if_neg g1,if_neg g1]
    have hin:=QdK (step:=Qf4 m (i:Int)) (n:=(rd m.Topics (i:Int)).Parts.length) (st:=fun k=>(k:Int)) (g:=ptG m i) (ex:=fun e=> .inr (tup3 e)) (fin:= .inl ())
     (fun k hk _=>by
      unfold Qf4
      simp only [lt_i hk,if_true,QbW (in_i hk),QbO hk hpt,Q3W (show m.Brokers.length≤1000000000 by have:=h.bk;omega) (hp _ (QkL hi) _ (QkL hk)),Option.bind_some]
      unfold ptG
      cases Qp6 m (rd (rd m.Topics (i:Int)).Parts (k:Int))<;>rfl)
     (fun _=>by unfold Qf4;simp [lt_n])
    rw [nat0] at hin
    rw [hin]
    rcases QcZ (ptG m i) (rd m.Topics (i:Int)).Parts.length 0 with _ |⟨o,a,c,k⟩<;>rfl)
  (fun _=>by unfold QeJ;simp [lt_n])
 rw [nat0] at this
 exact this
theorem Q05 {m:Img}(h:limM m) (hp:∀ t∈m.Topics,∀ p∈t.Parts,limP p):QiA m=some (toW (QrO m)):=by
 unfold QiA QrO
 simp only [Q3V,Option.bind_some,QsT,Q2R]
 rw [show (decide ((256:Int)<(m.Topics.length:Int)) ||(decide (m.Last<0) ||decide (1073741824<m.Last)))=QyG m from rfl]
 cases QyG m
 ·simp only [Bool.false_eq_true,if_false]
  rw [QyO h hp]
  exact Q0E _
 ·rfl
theorem QzM {m:Img}(h:limM m):QhM m=some (toW (QcZ (cfG m) m.Configs.length 0)):=by
 unfold QhM
 have hn:m.Configs.length≤1000000000:=by have:=h.cf;omega
 have hT:m.Topics.length≤1000000000:=by have:=h.tp;omega
 have:=QdK (step:=QfH m) (n:=m.Configs.length) (st:=fun i=>(i:Int)) (g:=cfG m) (ex:=fun e=> .inr (tup3 e)) (fin:= .inl ())
  (fun i hi _=>by
   unfold QfH
   simp only [lt_i hi,if_true,QbW (in_i hi),QbO hi hn,QxC,Q6Y hT,QsT,Qs5,Option.bind_some]
   have e1:getV tz (QiI tpId m.Topics (rd m.Configs (i:Int)).Topic)=((getV tz (QiI tpId m.Topics (rd m.Configs (i:Int)).Topic)).1,hasT m (rd m.Configs (i:Int)).Topic):=by
    unfold hasT;cases QiI tpId m.Topics (rd m.Configs (i:Int)).Topic<;>rfl
   rw [e1]
   simp only
   have e2:(if(!hasT m (rd m.Configs (i:Int)).Topic)=true then some (decide ((rd m.Configs (i:Int)).Topic≠0) ||(!Qh0 (rd m.Configs (i:Int)).Key ||decide (256<((rd m.Configs (i:Int)).Value.size:Int))))else some (!Qh0 (rd m.Configs (i:Int)).Key ||decide (256<((rd m.Configs (i:Int)).Value.size:Int))))=some (!hasT m (rd m.Configs (i:Int)).Topic&&decide ((rd m.Configs (i:Int)).Topic≠0) ||(!Qh0 (rd m.Configs (i:Int)).Key ||decide (256<((rd m.Configs (i:Int)).Value.size:Int)))):=by
    cases hasT m (rd m.Configs (i:Int)).Topic
    ·rfl
    ·rfl
   rw [e2,Option.bind_some]
   unfold cfG
   by_cases g1:(!hasT m (rd m.Configs (i:Int)).Topic&&decide ((rd m.Configs (i:Int)).Topic≠0) ||(!Qh0 (rd m.Configs (i:Int)).Key ||decide (256<((rd m.Configs (i:Int)).Value.size:Int))))=true
   ·rw [if_pos g1,if_pos g1];rfl
   ·rw [if_neg g1,if_neg g1]
    by_cases g2:i=0
    ·subst g2;simp
    ·have hw:IntKind.i64.wrap ((i:Int)- 1)=((i - 1:Nat):Int):=by rw [QfP (by omega) (by omega)];omega
     have hj:i - 1<m.Configs.length:=by omega
     rw [if_neg (fun z=>by have:=of_decide_eq_true z;omega),if_neg g2,hw,QbW (in_i hj)]
     by_cases g3:(decide ((rd m.Configs (i:Int)).Topic<(rd m.Configs ((i - 1:Nat):Int)).Topic) ||(decide ((rd m.Configs ((i - 1:Nat):Int)).Topic=(rd m.Configs (i:Int)).Topic)&&geS (rd m.Configs ((i - 1:Nat):Int)).Key (rd m.Configs (i:Int)).Key))=true
     ·rw [if_pos g3]
      unfold geS at g3
      rw [if_pos g3];rfl
     ·rw [if_neg g3]
      unfold geS at g3
      rw [if_neg g3];rfl)
  (fun _=>by unfold QfH;simp [lt_n])
 rw [nat0] at this
 rw [this]
 exact Q0E _
theorem Q3X {m:Img}(hn:m.Done.length≤1000000){i:Nat}(hi:i<m.Done.length) (b:Bool):iter (QfW m (i:Int)) (b,(0:Int))=some (b ||inL ((dnK m).take i) ((rd m.Done (i:Int)).Client,(rd m.Done (i:Int)).Serial)):=by
 have:=QdK (step:=QfW m (i:Int)) (n:=i) (st:=fun k=>((b ||inL ((dnK m).take k) ((rd m.Done (i:Int)).Client,(rd m.Done (i:Int)).Serial)),(k:Int))) (g:=fun _=>(none:Option Unit)) (ex:=fun _=>false) (fin:=(b ||inL ((dnK m).take i) ((rd m.Done (i:Int)).Client,(rd m.Done (i:Int)).Serial)))
  (fun k hk _=>by
   have hk2:k<m.Done.length:=by omega
   have hk3:k<(dnK m).length:=by unfold dnK;simpa using hk2
   have hnm:(dnK m)[k]=((rd m.Done (k:Int)).Client,(rd m.Done (k:Int)).Serial):=by rw [QbT hk2];exact List.getElem_map _
   unfold QfW
   simp only [lt_i hk,if_true,QbW (in_i hk2),QbO hk2 (show m.Done.length≤1000000000 by omega),Qs5]
   rw [Q0F hk3,hnm,←Bool.or_assoc]
   cases (b ||inL ((dnK m).take k) ((rd m.Done (i:Int)).Client,(rd m.Done (i:Int)).Serial))
   ·simp only [Bool.false_eq_true,if_false,Option.bind_some,Bool.false_or]
    by_cases q1:(rd m.Done (k:Int)).Client=(rd m.Done (i:Int)).Client<;>by_cases q2:(rd m.Done (k:Int)).Serial=(rd m.Done (i:Int)).Serial<;>simp [q1,q2]
   ·rfl)
  (fun _=>by unfold QfW;simp [lt_n])
 rw [show ((b ||inL ((dnK m).take 0) ((rd m.Done (i:Int)).Client,(rd m.Done (i:Int)).Serial)),((0:Nat):Int))=(b,(0:Int)) by rw [show inL ((dnK m).take 0) ((rd m.Done (i:Int)).Client,(rd m.Done (i:Int)).Serial)=false from rfl,Bool.or_false];rfl] at this
 rw [this]
 have:QcZ (fun _=>(none:Option Unit)) i 0=none:=QcK.2 fun _ _=>rfl
 rw [this];rfl
theorem Q3Y {m:Img}(h:limM m):QjW m=some (toW (if 64<(m.Done.length:Int)then some (dnOp,(m.Done.length:Int),6,none)else QcZ (dnG m) m.Done.length 0)):=by
 unfold QjW
 have hn:m.Done.length≤1000000000:=by have:=h.dn;omega
 by_cases g:64<(m.Done.length:Int)
 ·rw [if_pos (decide_eq_true g),if_pos g];rfl
 rw [if_neg (fun z=>g (of_decide_eq_true z)),if_neg g]
 have:=QdK (step:=Qg6 m) (n:=m.Done.length) (st:=fun i=>(i:Int)) (g:=dnG m) (ex:=fun e=> .inr (tup3 e)) (fin:= .inl ())
  (fun i hi _=>by
   unfold Qg6
   simp only [lt_i hi,if_true,QbW (in_i hi),QbO hi hn,Q3V,Q2R,QsT,Option.bind_some,Q3X h.dn hi]
   unfold dnG
   have e1:((decide ((rd m.Done (i:Int)).Client<1) ||decide (1073741824<(rd m.Done (i:Int)).Client) ||(decide ((rd m.Done (i:Int)).Serial<1) ||decide (1073741824<(rd m.Done (i:Int)).Serial) ||(decide ((rd m.Done (i:Int)).Code<0) ||decide (21<(rd m.Done (i:Int)).Code)))) ||inL ((dnK m).take i) ((rd m.Done (i:Int)).Client,(rd m.Done (i:Int)).Serial))=
     (decide ((rd m.Done (i:Int)).Client<1) ||(decide (1073741824<(rd m.Done (i:Int)).Client) ||(decide ((rd m.Done (i:Int)).Serial<1) ||(decide (1073741824<(rd m.Done (i:Int)).Serial) ||(decide ((rd m.Done (i:Int)).Code<0) ||(decide (21<(rd m.Done (i:Int)).Code) ||inL ((dnK m).take i) ((rd m.Done (i:Int)).Client,(rd m.Done (i:Int)).Serial))))))):=by simp only [Bool.or_assoc]
   rw [e1]
   by_cases g1:(decide ((rd m.Done (i:Int)).Client<1) ||(decide (1073741824<(rd m.Done (i:Int)).Client) ||(decide ((rd m.Done (i:Int)).Serial<1) ||(decide (1073741824<(rd m.Done (i:Int)).Serial) ||(decide ((rd m.Done (i:Int)).Code<0) ||(decide (21<(rd m.Done (i:Int)).Code) ||inL ((dnK m).take i) ((rd m.Done (i:Int)).Client,(rd m.Done (i:Int)).Serial)))))))=true
   ·rw [if_pos g1,if_pos g1];rfl
   ·rw [if_neg g1,if_neg g1];rfl)
  (fun _=>by unfold Qg6;simp [lt_n])
 rw [nat0] at this
 rw [this]
 exact Q0E _
theorem QzN {g:Nat→Option R16}(hg:∀ i o a c k,g i=some (o,a,c,k)→c≠0){n:Nat}{o:ByteArray}{a c:Int}{k:Option Int}(h:QcZ g n 0=some (o,a,c,k)):c≠0:=by
 obtain ⟨j,_,_,h3,_⟩:=QmO h
 exact hg _ _ _ _ _ h3
theorem Q63 {m:Img}(i:Nat) (o:ByteArray) (a c:Int) (k:Option Int) (h:brG m i=some (o,a,c,k)):c≠0:=by
 unfold brG at h
 split at h
 ·cases h;decide
 ·split at h
  ·cases h;decide
  ·cases h
theorem Q82 {m:Img}{j:Nat}(i:Nat) (o:ByteArray) (a c:Int) (k:Option Int) (h:ptG m j i=some (o,a,c,k)):c≠0:=by
 unfold ptG at h
 split at h
 ·cases h
 ·cases h;decide
theorem Q83 {m:Img}(i:Nat) (o:ByteArray) (a c:Int) (k:Option Int) (h:tpG m i=some (o,a,c,k)):c≠0:=by
 unfold tpG at h
 split at h
 ·cases h;decide
 ·exact QzN Q82 h
theorem Q64 {m:Img}(i:Nat) (o:ByteArray) (a c:Int) (k:Option Int) (h:cfG m i=some (o,a,c,k)):c≠0:=by
 unfold cfG at h
 split at h
 ·cases h;decide
 ·split at h
  ·cases h
  ·split at h
   ·cases h;decide
   ·cases h
theorem Q84 {m:Img}(i:Nat) (o:ByteArray) (a c:Int) (k:Option Int) (h:dnG m i=some (o,a,c,k)):c≠0:=by
 unfold dnG at h
 split at h
 ·cases h;decide
 ·cases h
theorem Q2S {m:Img}{o:ByteArray}{a c:Int}{k:Option Int}(h:QrO m=some (o,a,c,k)):c≠0:=by
 unfold QrO at h
 split at h
 ·cases h;decide
 ·exact QzN Q83 h
theorem Q65 {m:Img}{o:ByteArray}{a c:Int}{k:Option Int}(h:chkR m=some (o,a,c,k)):c≠0:=by
 unfold chkR at h
 split at h
 ·rename_i e he;cases h;exact QzN Q63 he
 ·split at h
  ·rename_i e he;cases h;exact Q2S he
  ·split at h
   ·rename_i e he;cases h;exact QzN Q64 he
   ·split at h
    ·cases h;decide
    ·exact QzN Q84 h
theorem Q2T {m:Img}(h:limM m) (hp:∀ t∈m.Topics,∀ p∈t.Parts,limP p):QhT m=some (toW (chkR m)):=by
 unfold QhT chkR
 rw [QzL h,Q05 h hp,QzM h,Q3Y h]
 simp only [Option.bind_some]
 rcases e1:QcZ (brG m) m.Brokers.length 0 with _ |⟨o,a,c,k⟩
 rotate_left
 ·rw [if_pos (show decide ((toW (some (o,a,c,k))).Code≠0)=true from decide_eq_true (QzN Q63 e1))]
 rw [if_neg (by decide)]
 rcases e2:QrO m with _ |⟨o,a,c,k⟩
 rotate_left
 ·rw [if_pos (show decide ((toW (some (o,a,c,k))).Code≠0)=true from decide_eq_true (Q2S e2))]
 rw [if_neg (by decide)]
 rcases e3:QcZ (cfG m) m.Configs.length 0 with _ |⟨o,a,c,k⟩
 rotate_left
 ·rw [if_pos (show decide ((toW (some (o,a,c,k))).Code≠0)=true from decide_eq_true (QzN Q64 e3))]
 rw [if_neg (by decide)]
theorem Q5C {r:Option R16}(h:∀ o a c k,r=some (o,a,c,k)→c≠0):Qe8 (toG r) (toW r)=some true:=by
 unfold Qe8
 rcases r with _ |⟨o,a,c,_ |k⟩
 ·rfl
 ·have hc:=h _ _ _ _ rfl
  have hu:=QuA (.fault o a (.code c)) o (by simp [QkR])
  simp only [toG,toW,GErr.isNil,Bool.false_eq_true,if_false,Qt9,Q3B,QxY,Q1S,hu,Option.bind_some]
  simp [QkR]
 ·have hc:=h _ _ _ _ rfl
  have hu:=QuA (.fault o a (.fault Q0Y k (.code c))) o (by simp [QkR])
  have ho:OfE (.fault o a (.fault Q0Y k (.code c)))=c:=by simp [OfE,QvE]
  simp only [toG,toW,GErr.isNil,Bool.false_eq_true,if_false,Qt9,Q3B,QxY,ho,hu,Option.bind_some]
  simp [QkR]
section
variable {m : Img}
structure Q87 (m:Img):Prop where
 lim:limM m
 pts:∀ t∈m.Topics,∀ p∈t.Parts,limP p
 i6:∀ c∈m.Configs,i64 c.Topic
 cf:m.Configs.length≤1000
 pn:QmV m.Topics≤1000
end
abbrev kur (b:List Int) (s:QaB):QaF:=⟨b,⟨s.At,s.Code,s.Op,s.Where⟩⟩
theorem QfN {b:List Int}{a a1 a2:Nat}{e e1 e2:GErr}{w1 w2:List Int}(h:Qo4 b a e a1 e1 w1) (k:Qo4 b a1 e1 a2 e2 w2):Qo4 b a e a2 e2 (w1++w2):=
 ⟨k.1,fun q=>by
  obtain ⟨k1,k2⟩:=k.2 q
  obtain ⟨h1,h2⟩:=h.2 k1
  exact⟨h1,by rw [k2,h2,List.append_assoc]⟩⟩
theorem Q66 {b:List Int}{a:Nat}(ha:a≤b.length) (e:GErr):Qo4 b a e a e []:=⟨ha,fun q=>⟨q,by rw [List.append_nil]⟩⟩
def both {X:Type}(b:List Int) (a:Nat) (e:GErr) (p:Option (X×Int×GErr)) (q:Option (X×Int×Int×ByteArray×Int)) (E:X→List Int) (R:X→Prop):Prop:=
 ∃ (v:X) (a':Nat) (e':GErr) (t:QaB),p=some (v,(a':Int),e')∧q=some (v,t.At,t.Code,t.Op,t.Where)∧cor b a' e' t∧Qo4 b a e a' e' (E v)∧R v
section
variable {b : List Int} {a : Nat} {e : GErr} {s : QaB}
theorem boI (hb:okB b) (hl:b.length≤1000000) (h:cor b a e s) (m:Int) (hm:m≤9223372036854775807):
  both b a e (Qa5 ⟨b,(a:Int),e⟩ m) (QaY (kur b s) m) intB (fun v=>0≤v∧v≤pos0 m):=by
 obtain ⟨v,a',e',t,h1,h2,h3⟩:=curI hb hl h m hm
 obtain ⟨_,_,_,k1,k2,k3,_,k4⟩:=Q8V hb hl h.1 e m hm
 rw [h1] at k1;cases k1
 exact⟨v,a',e',t,h1,h2,h3,k2,k3,k4⟩
theorem bo1 (hb:okB b) (hl:b.length≤1000000) (h:cor b a e s):
  both b a e (QcS ⟨b,(a:Int),e⟩) (QaY (kur b s) 1073741824) intB (fun v=>0≤v∧v≤1073741824):=by
 obtain ⟨v,a',e',t,h1,h2,h3,h4,h5⟩:=boI hb hl h 1073741824 (by decide)
 refine⟨v,a',e',t, ?_,h2,h3,h4,h5⟩
 unfold QcS
 exact(QbR h1).trans rfl
theorem boT (hb:okB b) (hl:b.length≤1000000) (h:cor b a e s) (m:Int) (hm:m≤9223372036854775807):
  both b a e (QbX ⟨b,(a:Int),e⟩ m) (Qb8 (kur b s) m) (fun v=>QnD (bytesOf (strOfNums v))) (fun _=>True):=by
 obtain ⟨v,a',e',t,h1,h2,h3⟩:=curT hb hl h m hm
 obtain ⟨_,_,_,k1,k2,k3,_⟩:=Q8X hb hl h.1 e m hm
 rw [h1] at k1;cases k1
 exact⟨v,a',e',t,h1,h2,h3,by show Qo4 b a e a' e' (QnD (bytesOf (strOfNums v)));rw [Q12 k3];exact k2,trivial⟩
theorem bo2 (hb:okB b) (hl:b.length≤1000000) (h:cor b a e s):
  ∃ (v:List Int) (a':Nat) (e':GErr) (t:QaB),QgC ⟨b,(a:Int),e⟩=some (strOfNums v,(a':Int),e')∧Qb8 (kur b s) 40=some (v,t.At,t.Code,t.Op,t.Where)∧cor b a' e' t∧Qo4 b a e a' e' (QnD (bytesOf (strOfNums v))):=by
 obtain ⟨v,a',e',t,h1,h2,h3,h4,_⟩:=boT hb hl h 40 (by decide)
 refine⟨v,a',e',t, ?_,h2,h3,h4⟩
 unfold QgC
 exact(QbR h1).trans rfl
theorem boF (hb:okB b) (hl:b.length≤1000000) (h:cor b a e s):
  both b a e (QbY ⟨b,(a:Int),e⟩) (QdD (kur b s)) QvX (fun _=>True):=by
 obtain ⟨v,a',e',t,h1,h2,h3⟩:=curF hb hl h
 obtain ⟨_,_,_,k1,k2⟩:=Q8W hb hl h.1 e
 rw [h1] at k1;cases k1
 exact⟨v,a',e',t,h1,h2,h3,k2,trivial⟩
theorem bo3 (hb:okB b) (hl:b.length≤1000000) (h:cor b a e s):
  both b a e (QfB ⟨b,(a:Int),e⟩) (QcT (kur b s) 7 64) rowB (fun v=>v.length≤1000000):=by
 obtain ⟨v,a',e',t,h1,h2,h3,_⟩:=curR hb hl h 7 64 (by decide) (by decide)
 obtain ⟨_,_,_,k1,k2,_,_,k3⟩:=Q8Y hb hl h.1 e 7 64 (by decide) (by decide)
 rw [h1] at k1;cases k1
 refine⟨v,a',e',t, ?_,h2,h3,k2,by omega⟩
 unfold QfB
 exact(QbR h1).trans rfl
end
theorem Q2U {p q:Prop}[Decidable p] [Decidable q] (hp:p) (hq:q):(if decide p=true then some (decide q)else some false)=some true:=by simp [hp,hq]
theorem Q2V {p q:Prop}[Decidable p] [Decidable q] (h:¬ p∨¬ q):(if decide p=true then some (decide q)else some false)=some false:=by
 rcases h with h |h<;>simp [h]
theorem Ql5 {X S T:Type}{b:List Int}{n:Nat}{step:List X×Int×Int×GErr→Option ((List X×Int×Int×GErr)⊕(List X×Int×GErr))}{rdX:Int→GErr→Option (X×Int×GErr)}(hst:QoM step rdX (n:Int))
  {rstep:S→Option (S⊕T)}(st:List X→Int→QaB→S) (fn:List X→QaB→T) (E:X→List Int) (R:X→Prop) (hn:n≤2000000000)
  (hgo:∀ (l:List X) (i a:Nat) (s:QaB),l.length=i→i<n→s.Code=0→cor b a .nil s→∃ (x:X) (a':Nat) (e':GErr) (t:QaB),rdX (a:Int) .nil=some (x,(a':Int),e')∧rstep (st l (i:Int) s)=some (.inl (st (l++[x]) ((i+1:Nat):Int) t))∧cor b a' e' t∧Qo4 b a .nil a' e' (E x)∧R x)
  (hend:∀ (l:List X) (i:Int) (s:QaB),(¬ i<(n:Int)∨s.Code≠0)→rstep (st l i s)=some (.inr (fn l s))):
  ∀ (d i a:Nat) (e:GErr) (s:QaB) (l:List X),i+d=n→cor b a e s→l.length=i→(∀ x∈l,R x)→
  ∃ (m:List X) (a':Nat) (e':GErr) (t:QaB),iter step (l,(i:Int),(a:Int),e)=some (l++m,(a':Int),e')∧iter rstep (st l (i:Int) s)=some (fn (l++m) t)∧cor b a' e' t∧Qo4 b a e a' e' (catE E m)∧(e'.isNil=true→m.length=d)∧m.length≤d∧∀ x∈l++m,R x
 |0,i,a,e,s,l,hi,h,hll,hx=>by
  refine⟨[],a,e,s,Qa9 ?_, ?_,h,Q66 h.1 e,fun _=>rfl,Nat.le_refl _,by simpa using hx⟩
  ·rw [hst,decide_eq_false (by omega),List.append_nil];rfl
  ·rw [List.append_nil];exact Qa9 (hend l _ s (.inl (by omega)))
 |d+1,i,a,e,s,l,hi,h,hll,hx=>by
  have h':=h
  obtain ⟨ha,hs,⟨rfl,hc⟩ |⟨hc,he⟩⟩:=h'
  ·obtain ⟨x,a1,e1,t,h1,h2,h3,h4,h5⟩:=hgo l i a s hll (by omega) hc h
   obtain ⟨m,a',e',t',k1,k2,k3,k4,k5,k6,k7⟩:=Ql5 hst st fn E R hn hgo hend d (i+1) a1 e1 t (l++[x]) (by omega) h3 (by simp [hll]) (fun y hy=>by
    rcases List.mem_append.1 hy with hy |hy
    ·exact hx y hy
    ·rw [List.mem_singleton] at hy;subst hy;exact h5)
   rw [List.append_assoc] at k1 k2 k7
   refine⟨x::m,a',e',t', ?_, ?_,k3,QfN h4 k4,fun q=>by rw [List.length_cons,k5 q],by rw [List.length_cons];omega,k7⟩
   ·have e2:step (l,(i:Int),(a:Int), .nil)=some (.inl (l++[x],((i+1:Nat):Int),(a1:Int),e1)):=by
     rw [hst,decide_eq_true (show (i:Int)<(n:Int) by omega)]
     refine(if_pos rfl).trans ?_
     refine(QbR h1).trans ?_
     rw [QbW (by omega),QfP (by omega) (by omega)];rfl
    rw [Qc0 e2];exact k1
   ·rw [Qc0 h2];exact k2
  ·have hne:e.isNil=false:=by rw [he];rfl
   refine⟨[],a,e,s,Qa9 ?_, ?_,h,Q66 h.1 e,(fun q=>by rw [hne] at q;cases q),Nat.zero_le _,by simpa using hx⟩
   ·rw [hst,hne,Bool.and_false,List.append_nil];rfl
   ·rw [List.append_nil];exact Qa9 (hend l _ s (.inr hc))
section
variable {b : List Int} {a : Nat} {e : GErr} {s : QaB}
theorem QyP {n:Nat}{a1 a2:Nat}{e1 e2:GErr}{w:List Int}(d:Nat) (hd:n=d) (o1:Qo4 b a e a1 e1 (intB (d:Int))) (o2:Qo4 b a1 e1 a2 e2 w){k:Nat}(hk:e2.isNil=true→k=d):Qo4 b a e a2 e2 (intB (k:Int)++w):=
 ⟨o2.1,fun q=>by rw [hk q];exact(QfN o1 o2).2 q⟩
theorem moBk (hb:okB b) (hl:b.length≤1000000) (h:cor b a e s):
  both b a e (QbG ⟨b,(a:Int),e⟩ 64) (QeN (kur b s)) (fun l=>intB (l.length:Int)++catE QvM l) (fun l=>l.length≤1000000):=by
 obtain ⟨n,a1,e1,t1,h1,k1,c1,o1,n0,n1⟩:=boI hb hl h 64 (by decide)
 rw [show pos0 64=64 from rfl] at n1
 obtain ⟨d,rfl⟩:=Int.eq_ofNat_of_zero_le n0
 obtain ⟨m,a2,e2,t2,h2,k2,c2,o2,l1,l2,_⟩:=Ql5 (Q6T ⟨b,(a:Int),e⟩ (d:Int)) (rstep:=QdO (kur b s) (d:Int)) (fun l i s=>(l,i,s.At,s.Code,s.Op,s.Where)) (fun l s=>(l,s.At,s.Code,s.Op,s.Where)) QvM (fun _=>True) (by omega)
  (fun l i a s hi hin hc h=>by
   obtain ⟨v1,a1,e1,t1,h1,k1,c1,o1,_⟩:=bo1 hb hl h
   obtain ⟨v2,a2,e2,t2,h2,k2,c2,o2,_⟩:=bo1 hb hl c1
   obtain ⟨v3,a3,e3,t3,h3,k3,c3,o3⟩:=bo2 hb hl c2
   obtain ⟨v4,a4,e4,t4,h4,k4,c4,o4,_⟩:=boF hb hl c3
   obtain ⟨v5,a5,e5,t5,h5,k5,c5,o5,_⟩:=boF hb hl c4
   refine⟨⟨v1,v2,strOfNums v3,v4,v5⟩,a5,e5,t5, ?_, ?_,c5,QfN o1 (QfN o2 (QfN o3 (QfN o4 o5))),trivial⟩
   ·show QcF ⟨b,(a:Int), .nil⟩=_
    unfold QcF
    exact(QbR h1).trans ((QbR h2).trans ((QbR h3).trans ((QbR h4).trans ((QbR h5).trans rfl))))
   ·unfold QdO
    simp only
    refine(QbR (Q2U (by omega) hc)).trans ?_
    refine(if_pos rfl).trans ?_
    refine(QbR k1).trans ((QbR k2).trans ((QbR k3).trans ((QbR k4).trans ((QbR k5).trans ?_))))
    refine(QbW (by show l.length+1≤_;omega)).trans ?_
    rw [QfP (by omega) (by omega)];rfl)
  (fun l i s q=>by
   unfold QdO
   simp only
   exact(QbR (Q2V q)).trans (if_neg (by decide)))
  d 0 a1 e1 t1 [] (by omega) c1 rfl (fun _ q=>by cases q)
 refine⟨m,a2,e2,t2, ?_, ?_,c2,QyP d rfl o1 o2 l1,by omega⟩
 ·unfold QbG
  exact(QbR h1).trans ((QbR ((QbR h2).trans rfl)).trans rfl)
 ·unfold QeN
  exact(QbR k1).trans ((QbR ((QbR k2).trans rfl)).trans rfl)
theorem boPt (hb:okB b) (hl:b.length≤1000000) (h:cor b a e s):
  both b a e (QcG ⟨b,(a:Int),e⟩) (QgP (kur b s)) QsU limP:=by
 obtain ⟨v1,a1,e1,t1,h1,k1,c1,o1,r1⟩:=bo3 hb hl h
 obtain ⟨v2,a2,e2,t2,h2,k2,c2,o2,r2⟩:=bo3 hb hl c1
 obtain ⟨v3,a3,e3,t3,h3,k3,c3,o3,_⟩:=bo1 hb hl c2
 obtain ⟨v4,a4,e4,t4,h4,k4,c4,o4,_⟩:=bo1 hb hl c3
 obtain ⟨v5,a5,e5,t5,h5,k5,c5,o5,r5⟩:=bo3 hb hl c4
 obtain ⟨v6,a6,e6,t6,h6,k6,c6,o6,r6⟩:=bo3 hb hl c5
 refine⟨⟨v1,v2,v3,v4,v5,v6⟩,a6,e6,t6, ?_, ?_,c6,QfN o1 (QfN o2 (QfN o3 (QfN o4 (QfN o5 o6)))),⟨r1,r2,r5,r6⟩⟩
 ·unfold QcG
  exact(QbR h1).trans ((QbR h2).trans ((QbR h3).trans ((QbR h4).trans ((QbR h5).trans ((QbR h6).trans rfl)))))
 ·unfold QgP
  exact(QbR k1).trans ((QbR k2).trans ((QbR k3).trans ((QbR k4).trans ((QbR k5).trans ((QbR k6).trans rfl)))))
def limT (t:Tp):Prop:=t.Parts.length≤1000000∧∀ p∈t.Parts,limP p
theorem boTp (hb:okB b) (hl:b.length≤1000000) (h:cor b a e s):
  both b a e (QbC ⟨b,(a:Int),e⟩) (Qf3 (kur b s)) QrP limT:=by
 obtain ⟨v1,a1,e1,t1,h1,k1,c1,o1,r1⟩:=bo1 hb hl h
 obtain ⟨v2,a2,e2,t2,h2,k2,c2,o2⟩:=bo2 hb hl c1
 obtain ⟨n,a3,e3,t3,h3,k3,c3,o3,n0,n1⟩:=boI hb hl c2 256 (by decide)
 rw [show pos0 256=256 from rfl] at n1
 obtain ⟨d,rfl⟩:=Int.eq_ofNat_of_zero_le n0
 obtain ⟨m,a4,e4,t4,h4,k4,c4,o4,l1,l2,l3⟩:=Ql5 (Q6U ⟨b,(a2:Int),e2⟩ (d:Int)) (rstep:=Qd9 (kur b s) (d:Int)) (fun l i s=>(i,l,s.At,s.Code,s.Op,s.Where)) (fun l s=>(s.At,s.Code,s.Op,s.Where,l)) QsU limP (by omega)
  (fun l i a s hi hin hc h=>by
   obtain ⟨v1,a1,e1,t1,h1,k1,c1,o1,r1⟩:=boPt hb hl h
   refine⟨v1,a1,e1,t1,h1, ?_,c1,o1,r1⟩
   unfold Qd9
   simp only
   refine(QbR (Q2U (by omega) hc)).trans ?_
   refine(if_pos rfl).trans ?_
   refine(QbR k1).trans ?_
   refine(QbW (by show l.length+1≤_;omega)).trans ?_
   rw [QfP (by omega) (by omega)];rfl)
  (fun l i s q=>by
   unfold Qd9
   simp only
   exact(QbR (Q2V q)).trans (if_neg (by decide)))
  d 0 a3 e3 t3 [] (by omega) c3 rfl (fun _ q=>by cases q)
 refine⟨⟨v1,strOfNums v2,m⟩,a4,e4,t4, ?_, ?_,c4,QfN o1 (QfN o2 (QyP d rfl o3 o4 l1)),⟨by show m.length≤_;omega,l3⟩⟩
 ·unfold QbC
  refine(QbR h1).trans ((QbR h2).trans ((QbR (y:=(m,(a4:Int),e4)) ?_).trans rfl))
  unfold Qb0
  exact(QbR h3).trans ((QbR ((QbR h4).trans rfl)).trans rfl)
 ·unfold Qf3
  exact(QbR k1).trans ((QbR k2).trans ((QbR k3).trans ((QbR ((QbR k4).trans rfl)).trans rfl)))
end
theorem Q85 {b:List Int}{a:Nat}{e:GErr}{s:QaB}(h:cor b a e s):
  ∃ (r:Option R16) (t:QaB),QdU ⟨b,(a:Int),e⟩=some (toG r,toG r)∧QfF (kur b s)=some (t.At,t.Code,t.Op,t.Where)∧((r=none∧t.Code=0)∨(r=some (t.Op,t.Where,t.Code,none)∧t.Code≠0)):=by
 obtain ⟨ha,hs,h⟩:=h
 unfold QfF
 have er:QjL b ⟨s.At,s.Code,s.Op,s.Where⟩=some (if s.At<(b.length:Int)∧s.Code=0 then⟨s.At,5,Q0R,s.At⟩else s):=Q43 b s
 rw [Q1Z]
 rcases h with⟨rfl,hc⟩ |⟨hc,he⟩
 ·by_cases g:(a:Int)<(b.length:Int)
  ·rw [if_pos (by omega)] at er
   refine⟨some (Q0R,s.At,5,none),⟨s.At,5,Q0R,s.At⟩, ?_,(QbR er).trans rfl, .inr ⟨rfl,show (5:Int)≠0 by decide⟩⟩
   rw [if_pos ⟨g,rfl⟩,←hs]
   rfl
  ·rw [if_neg (by omega)] at er
   refine⟨none,s, ?_,(QbR er).trans rfl, .inl ⟨rfl,hc⟩⟩
   rw [if_neg (fun z=>g z.1)]
   rfl
 ·have hn:e.isNil=false:=by rw [he];rfl
  rw [if_neg (fun z=>hc z.2)] at er
  refine⟨some (s.Op,s.Where,s.Code,none),s, ?_,(QbR er).trans rfl, .inr ⟨rfl,hc⟩⟩
  rw [if_neg (fun z=>by rw [hn] at z;cases z.2),he]
  rfl
theorem Q5D {b:List Int}:cor b 0 .nil ⟨0,0,⟨#[]⟩,0⟩:=⟨Nat.zero_le _,rfl, .inl ⟨rfl,rfl⟩⟩
theorem QzO {α:Type}(f:α→List Int) (k:Nat):∀ l:List α,(∀ x∈l,k≤(f x).length)→k*l.length≤(catE f l).length
 |[],_=>by simp
 |x::l,h=>by
  have h1:=h x (.head _)
  have h2:=QzO f k l fun y hy=>h y (.tail _ hy)
  rw [catE,List.length_append,List.length_cons,Nat.mul_succ];omega
theorem Q67:∀ l:List Tp,2*QmV l≤(catE QrP l).length
 |[]=>by simp [QmV]
 |t::l=>by
  have h1:=Q67 l
  have h2:=QzO QsU 2 t.Parts fun p _=>by
   unfold QsU
   have:=(Qi7 p.Leader).2;have:=(Qi7 p.Epoch).2
   simp only [List.length_append];omega
  have h3:(catE QsU t.Parts).length≤(QrP t).length:=by unfold QrP;simp only [List.length_append];omega
  rw [catE,List.length_append,QzJ];omega
theorem Q68 (l:List Cf):2*l.length≤(catE Qt5 l).length:=QzO Qt5 2 l fun c _=>by
 unfold Qt5 QnD
 have:=(Qi7 c.Topic).2;have:=(Qi7 ((bytesOf c.Key).length:Int)).2
 simp only [List.length_append];omega
theorem Q69 (o:ByteArray) (a c:Int) (k:Option Int) (op:ByteArray) (n:Int) (hc:c≠0):Qe8 (.fault op n (toG (some (o,a,c,k)))) ⟨o,n,c⟩=some true:=by
 unfold Qe8
 rcases k with _ |k
 ·have hu:=QuA (.fault op n (.fault o a (.code c))) o (by simp [QkR])
  have ho:OfE (.fault op n (.fault o a (.code c)))=c:=by simp [OfE,QvE]
  simp only [toG,GErr.isNil,Bool.false_eq_true,if_false,Qt9,Q3B,QxY,ho,hu,Option.bind_some]
  simp [QkR]
 ·have hu:=QuA (.fault op n (.fault o a (.fault Q0Y k (.code c)))) o (by simp [QkR])
  have ho:OfE (.fault op n (.fault o a (.fault Q0Y k (.code c))))=c:=by simp [OfE,QvE]
  simp only [toG,GErr.isNil,Bool.false_eq_true,if_false,Qt9,Q3B,QxY,ho,hu,Option.bind_some]
  simp [QkR]
theorem Q7A:limM iz:=⟨by decide,by decide,fun _ h=>(by cases h),by decide,by decide⟩
theorem QzP {b:List Int}(hb:okB b) (hl:b.length≤2000):∃ (m:Img) (g:GErr) (w:W16),QhJ b=some (m,g)∧QiJ b=some (m,w)∧Qe8 g w=some true∧QiK m m=some true∧(g.isNil=true→QjK m=some (b, .nil)):=by
 have hl6:b.length≤1000000:=by omega
 obtain ⟨v1,a1,e1,t1,h1,k1,c1,o1,r1⟩:=bo1 hb hl6 (Q5D (b:=b))
 obtain ⟨v2,a2,e2,t2,h2,k2,c2,o2,r2⟩:=moBk hb hl6 c1
 obtain ⟨n3,a3,e3,t3,h3,k3,c3,o3,n30,n31⟩:=boI hb hl6 c2 256 (by decide)
 rw [show pos0 256=256 from rfl] at n31
 obtain ⟨d3,rfl⟩:=Int.eq_ofNat_of_zero_le n30
 obtain ⟨v4,a4,e4,t4,h4,k4,c4,o4,l41,l42,r4⟩:=Ql5 (Q6V ⟨b,(a2:Int),e2⟩ (d3:Int)) (rstep:=Qg7 b (d3:Int)) (fun l i s=>(i,s.At,s.Code,s.Op,s.Where,l)) (fun l s=>(s.At,s.Code,s.Op,s.Where,l)) QrP limT (by omega)
  (fun l i a s hi hin hc h=>by
   obtain ⟨v1,a1,e1,t1,h1,k1,c1,o1,r1⟩:=boTp hb hl6 h
   refine⟨v1,a1,e1,t1,h1, ?_,c1,o1,r1⟩
   unfold Qg7
   simp only
   refine(QbR (Q2U (by omega) hc)).trans ?_
   refine(if_pos rfl).trans ?_
   refine(QbR k1).trans ?_
   refine(QbW (by show l.length+1≤_;omega)).trans ?_
   rw [QfP (by omega) (by omega)];rfl)
  (fun l i s q=>by
   unfold Qg7
   simp only
   exact(QbR (Q2V q)).trans (if_neg (by decide)))
  d3 0 a3 e3 t3 [] (by omega) c3 rfl (fun _ q=>by cases q)
 obtain ⟨n5,a5,e5,t5,h5,k5,c5,o5,n50,n51⟩:=boI hb hl6 c4 1073741824 (by decide)
 rw [show pos0 1073741824=1073741824 from rfl] at n51
 obtain ⟨d5,rfl⟩:=Int.eq_ofNat_of_zero_le n50
 obtain ⟨v6,a6,e6,t6,h6,k6,c6,o6,l61,l62,r6⟩:=Ql5 (Q6W ⟨b,(a4:Int),e4⟩ (d5:Int)) (rstep:=Qg8 b (d5:Int)) (fun l i s=>(i,s.At,s.Code,s.Op,s.Where,l)) (fun l s=>(s.At,s.Code,s.Op,s.Where,l)) Qt5 (fun c=>i64 c.Topic) (by omega)
  (fun l i a s hi hin hc h=>by
   obtain ⟨v1,a1,e1,t1,h1,k1,c1,o1,r1⟩:=bo1 hb hl6 h
   obtain ⟨v2,a2,e2,t2,h2,k2,c2,o2⟩:=bo2 hb hl6 c1
   obtain ⟨v3,a3,e3,t3,h3,k3,c3,o3,_⟩:=boT hb hl6 c2 256 (by decide)
   refine⟨⟨v1,strOfNums v2,strOfNums v3⟩,a3,e3,t3, ?_, ?_,c3,QfN o1 (QfN o2 o3),by show i64 v1;unfold i64;omega⟩
   ·show QcH ⟨b,(a:Int), .nil⟩=_
    unfold QcH
    exact(QbR h1).trans ((QbR h2).trans ((QbR h3).trans rfl))
   ·unfold Qg8
    simp only
    refine(QbR (Q2U (by omega) hc)).trans ?_
    refine(if_pos rfl).trans ?_
    refine(QbR k1).trans ((QbR k2).trans ((QbR k3).trans ?_))
    refine(QbW (by show l.length+1≤_;omega)).trans ?_
    rw [QfP (by omega) (by omega)];rfl)
  (fun l i s q=>by
   unfold Qg8
   simp only
   exact(QbR (Q2V q)).trans (if_neg (by decide)))
  d5 0 a5 e5 t5 [] (by omega) c5 rfl (fun _ q=>by cases q)
 obtain ⟨n7,a7,e7,t7,h7,k7,c7,o7,n70,n71⟩:=boI hb hl6 c6 64 (by decide)
 rw [show pos0 64=64 from rfl] at n71
 obtain ⟨d7,rfl⟩:=Int.eq_ofNat_of_zero_le n70
 obtain ⟨v8,a8,e8,t8,h8,k8,c8,o8,l81,l82,_⟩:=Ql5 (Q6X ⟨b,(a6:Int),e6⟩ (d7:Int)) (rstep:=Qg9 b (d7:Int)) (fun l i s=>(i,s.At,s.Code,s.Op,s.Where,l)) (fun l s=>(s.At,s.Code,s.Op,s.Where,l)) QxG (fun _=>True) (by omega)
  (fun l i a s hi hin hc h=>by
   obtain ⟨v1,a1,e1,t1,h1,k1,c1,o1,_⟩:=bo1 hb hl6 h
   obtain ⟨v2,a2,e2,t2,h2,k2,c2,o2,_⟩:=bo1 hb hl6 c1
   obtain ⟨v3,a3,e3,t3,h3,k3,c3,o3,_⟩:=bo1 hb hl6 c2
   refine⟨⟨v1,v2,v3⟩,a3,e3,t3, ?_, ?_,c3,QfN o1 (QfN o2 o3),trivial⟩
   ·show QdJ ⟨b,(a:Int), .nil⟩=_
    unfold QdJ
    exact(QbR h1).trans ((QbR h2).trans ((QbR h3).trans rfl))
   ·unfold Qg9
    simp only
    refine(QbR (Q2U (by omega) hc)).trans ?_
    refine(if_pos rfl).trans ?_
    refine(QbR k1).trans ((QbR k2).trans ((QbR k3).trans ?_))
    refine(QbW (by show l.length+1≤_;omega)).trans ?_
    rw [QfP (by omega) (by omega)];rfl)
  (fun l i s q=>by
   unfold Qg9
   simp only
   exact(QbR (Q2V q)).trans (if_neg (by decide)))
  d7 0 a7 e7 t7 [] (by omega) c7 rfl (fun _ q=>by cases q)
 obtain ⟨r,u,h9,k9,hr⟩:=Q85 c8
 have m4:Qa0 ⟨b,(a2:Int),e2⟩ 256=some (v4,(a4:Int),e4):=by
  unfold Qa0
  exact(QbR h3).trans ((QbR ((QbR h4).trans rfl)).trans rfl)
 have m6:QbH ⟨b,(a4:Int),e4⟩ 1073741824=some (v6,(a6:Int),e6):=by
  unfold QbH
  exact(QbR h5).trans ((QbR ((QbR h6).trans rfl)).trans rfl)
 have m8:Qb4 ⟨b,(a6:Int),e6⟩ 64=some (v8,(a8:Int),e8):=by
  unfold Qb4
  exact(QbR h7).trans ((QbR ((QbR h8).trans rfl)).trans rfl)
 have big:=QfN o1 (QfN o2 (QfN (QyP d3 rfl o3 o4 l41) (QfN (QyP d5 rfl o5 o6 l61) (QyP d7 rfl o7 o8 l81))))
 have P:QhJ b=(if(!(toG r).isNil)=true then some (iz,toG r)else(QeF ⟨v2,v4,v6,v8,v1⟩).bind fun g=>if(!g.isNil)=true then(QhG (⟨#[105,109,97,103,101]⟩:ByteArray) (b.length:Int) g).bind fun q=>some (iz,q)else some (⟨v2,v4,v6,v8,v1⟩,GErr.nil)):=by
  unfold QhJ
  refine(QbR (y:=(⟨b,0, .nil⟩:QaC)) rfl).trans ?_
  exact(QbR h1).trans ((QbR h2).trans ((QbR m4).trans ((QbR m6).trans ((QbR m8).trans ((QbR h9).trans rfl)))))
 have Q:QiJ b=(if decide (u.Code≠0)=true then some (iz,⟨u.Op,u.Where,u.Code⟩)else(QhT ⟨v2,v4,v6,v8,v1⟩).bind fun g=>if decide (g.Code≠0)=true then some (iz,⟨g.Op,(b.length:Int),g.Code⟩)else some (⟨v2,v4,v6,v8,v1⟩,⟨⟨#[]⟩,0,0⟩)):=by
  unfold QiJ
  exact(QbR k1).trans ((QbR k2).trans ((QbR k3).trans ((QbR ((QbR k4).trans rfl)).trans ((QbR k5).trans ((QbR ((QbR k6).trans rfl)).trans ((QbR k7).trans ((QbR ((QbR k8).trans rfl)).trans ((QbR k9).trans rfl))))))))
 have sz:=QvP Q7A (fun _ h=>by cases h)
 rcases hr with⟨rfl,hc⟩ |⟨rfl,hc⟩
 ·have hM:limM ⟨v2,v4,v6,v8,v1⟩:=⟨r2,by show v4.length≤_;omega,fun t ht=>(r4 t ht).1,by
   show v6.length≤1000000
   obtain ⟨q1,q2⟩:=Q6F c8.1 h9 rfl
   have:=(big.2 q1).2
   rw [q2] at this
   have hlen:=congrArg List.length this
   have:=Q68 v6
   simp only [List.length_append] at hlen
   omega,by show v8.length≤_;omega⟩
  have hP:=fun t ht=>(r4 t ht).2
  have hck:=Q0A hM (fun c hc=>r6 c hc)
  have rck:=Q2T hM hP
  rw [if_neg (by simp [toG,GErr.isNil]),hck,Option.bind_some] at P
  rw [if_neg (by simp [hc]),rck,Option.bind_some] at Q
  rcases e:chkR ⟨v2,v4,v6,v8,v1⟩with _ |⟨o,a,c,k⟩
  ·rw [e] at P Q
   refine⟨_,_,_,P,Q,rfl,QvP hM hP,fun _=> ?_⟩
   have ho:=Q6R e
   obtain ⟨q1,q2⟩:=Q6F c8.1 h9 rfl
   have hq:=(big.2 q1).2
   rw [q2] at hq
   have hlen:=congrArg List.length hq
   have g1:=Q68 v6
   have g2:=Q67 v4
   simp only [List.length_append] at hlen
   rw [Q81 ho (by show v6.length≤_;omega) (by show QmV v4≤_;omega)]
   have:QzH ⟨v2,v4,v6,v8,v1⟩=b:=by
    rw [hq]
    unfold QzH
    simp only [List.take_zero,List.nil_append,List.append_assoc]
   rw [this]
  ·rw [e] at P Q
   have hcc:=Q65 e
   have hn:(toG (some (o,a,c,k))).isNil=false:=by cases k<;>rfl
   rw [hn,Bool.not_false,if_pos rfl,QyF _ _ _ hn,Option.bind_some] at P
   rw [if_pos (show decide ((toW (some (o,a,c,k))).Code≠0)=true from decide_eq_true hcc)] at Q
   exact⟨_,_,_,P,Q,Q69 o a c k _ _ hcc,sz,fun q=>by cases q⟩
 ·rw [if_pos (show (!(toG (some (u.Op,u.Where,u.Code,none))).isNil)=true from rfl)] at P
  rw [if_pos (decide_eq_true hc)] at Q
  exact⟨_,_,_,P,Q,Q5C (r:=some (u.Op,u.Where,u.Code,none)) (fun o a c k z=>by cases z;exact hc),sz,fun q=>by cases q⟩
theorem QvZ (b:List Int) (h:(∀ x∈b,(Lit.int .u8 x).wf=true)∧b.length≤reachBytes):QhU b=some true:=by
 unfold QhU
 by_cases g:(2000:Int)<(b.length:Int)
 ·rw [if_pos (decide_eq_true g),QzK];rfl
 ·rw [if_neg (fun z=>g (of_decide_eq_true z))]
  obtain ⟨m,e,w,h1,h2,h3,h4,h5⟩:=QzP (Q5B h.1) (by omega)
  refine(QbR h1).trans ((QbR h2).trans ?_)
  simp only [h3,h4,Option.bind_some,Bool.not_true,Bool.false_eq_true,if_false]
  cases hn:e.isNil
  ·simp only [Bool.not_false,if_true,QzK];rfl
  ·simp only [h5 hn,Bool.not_true,Bool.false_eq_true,if_false,Option.bind_some,GErr.isNil,if_true,Q3G b (by omega),QzK]
end Go.Proofs.YtfkmkgpoddbbfaaGreatDoor.G
