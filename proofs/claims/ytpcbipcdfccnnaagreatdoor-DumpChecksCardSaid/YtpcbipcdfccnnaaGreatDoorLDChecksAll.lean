
import Derived.Test.YtpcbipcdfccnnaaGreatDoorC0
import Derived.Test.YtpcbipcdfccnnaaGreatDoorC1
import Derived.Test.YtpcbipcdfccnnaaGreatDoorC2
import Derived.Test.YtpcbipcdfccnnaaGreatDoorC3
import Derived.Test.YtpcbipcdfccnnaaGreatDoorC4
import Derived.Test.YtpcbipcdfccnnaaGreatDoorC5
import Derived.Test.YtpcbipcdfccnnaaGreatDoorC6
import Derived.Test.YtpcbipcdfccnnaaGreatDoorC7
import Derived.Test.YtpcbipcdfccnnaaGreatDoorC8
import Derived.Test.YtpcbipcdfccnnaaGreatDoorC9
import Derived.Test.YtpcbipcdfccnnaaGreatDoorKArith
import Derived.KernelRfl
import Derived.OpenShut
import Derived.Test.YtpcbipcdfccnnaaGreatDoorKConv
import Derived.Test.YtpcbipcdfccnnaaGreatDoorKMap
import Derived.Lib.ConvBytes
import Derived.Laws.BytesArg
set_option linter.unusedSimpArgs false
set_option linter.unusedVariables false
set_option maxHeartbeats 8000000
namespace Go.Proofs.YtpcbipcdfccnnaaGreatDoor.G
open Go Go.KK
def codeIn:GErr→Option Int
 | .nil=>none
 | .code n=>some n
 | .fault _ _ e=>codeIn e
 | .other _=>none
def OfE (e:GErr):Int:=match e with | .nil=>0 |e=>(codeIn e).getD 21
def WhereE:GErr→Int×Bool
 | .fault _ a _=>(a,true)
 |_=>(0,false)
@[simp] theorem OfE_nil:OfE .nil=0:=rfl
@[simp] theorem OfE_code (n:Int):OfE (.code n)=n:=rfl
@[simp] theorem OfE_fault (o:ByteArray) (a n:Int):OfE (.fault o a (.code n))=n:=rfl
theorem as_code_loop (old:Int):∀ (e:GErr),e.isNil=false→iter (f_errors_as_code_l0 old) e=some (match codeIn e with |some n=>(true,n) |none=>(false,old))
 | .nil,h=>by cases h
 | .code n,_=>iter_stop rfl
 | .other a,_=>iter_stop rfl
 | .fault o a e,_=>by
  cases e with
  |nil=>exact iter_stop rfl
  |code n=>rw [iter_next (show f_errors_as_code_l0 old (.fault o a (.code n))=some (.inl (.code n)) from rfl)];exact iter_stop rfl
  |other b=>rw [iter_next (show f_errors_as_code_l0 old (.fault o a (.other b))=some (.inl (.other b)) from rfl)];exact iter_stop rfl
  |fault p b e=>rw [iter_next (show f_errors_as_code_l0 old (.fault o a (.fault p b e))=some (.inl (.fault p b e)) from rfl),as_code_loop old (.fault p b e) rfl];rfl
theorem of_eq (e:GErr):f_fault_Of e=some (OfE e):=by
 cases e with
 |nil=>rfl
 |code n=>unfold f_fault_Of f_errors_As_code f_errors_as_code;rw [as_code_loop _ _ rfl];rfl
 |other a=>unfold f_fault_Of f_errors_As_code f_errors_as_code;rw [as_code_loop _ _ rfl];rfl
 |fault o a e=>
  unfold f_fault_Of f_errors_As_code f_errors_as_code
  rw [as_code_loop _ _ rfl]
  simp only [GErr.isNil,OfE]
  cases codeIn (.fault o a e)<;>rfl
theorem as_fault_eq (old:T_api_Fault) (e:GErr):f_errors_As_fault e old=some (match e with | .fault o a e=>(true,o,a,e) |_=>(false,old.Op,old.At,old.Err)):=by
 cases e with
 |nil=>rfl
 |code n=>unfold f_errors_As_fault f_errors_as_fault;rw [iter_stop (show f_errors_as_fault_l0 old (.code n)=some (.inr _) from rfl)];rfl
 |other a=>unfold f_errors_As_fault f_errors_as_fault;rw [iter_stop (show f_errors_as_fault_l0 old (.other a)=some (.inr _) from rfl)];rfl
 |fault o a e=>unfold f_errors_As_fault f_errors_as_fault;rw [iter_stop (show f_errors_as_fault_l0 old (.fault o a e)=some (.inr _) from rfl)];rfl
theorem where_eq (e:GErr):f_fault_Where e=some (WhereE e):=by
 unfold f_fault_Where
 rw [as_fault_eq]
 cases e<;>rfl
theorem new_eq (o:ByteArray) (a c:Int):f_fault_New o a c=some (.fault o a (.code c)):=rfl
def IsE:GErr→Int→Bool
 | .code n,c=>decide (n=c)
 | .fault _ _ e,c=>IsE e c
 |_,_=>false
theorem is_loop (c:Int):∀ (e:GErr),iter (f_errors_is_l0 c) e=some (IsE e c)
 | .nil=>iter_stop rfl
 | .other _=>iter_stop rfl
 | .code n=>by
  refine iter_stop ?_
  unfold f_errors_is_l0 IsE
  simp only
  by_cases h:n=c
  ·rw [if_pos (decide_eq_true h),decide_eq_true h]
  ·rw [if_neg (fun q=>h (of_decide_eq_true q)),decide_eq_false h]
 | .fault o a e=>by
  cases e with
  |nil=>exact iter_stop rfl
  |other b=>rw [iter_next (show f_errors_is_l0 c (.fault o a (.other b))=some (.inl (.other b)) from rfl),is_loop c (.other b)];rfl
  |code n=>rw [iter_next (show f_errors_is_l0 c (.fault o a (.code n))=some (.inl (.code n)) from rfl),is_loop c (.code n)];rfl
  |fault p b e=>rw [iter_next (show f_errors_is_l0 c (.fault o a (.fault p b e))=some (.inl (.fault p b e)) from rfl),is_loop c (.fault p b e)];rfl
theorem is_eq (e:GErr) (c:Int):f_fault_Is e c=some (IsE e c):=by
 unfold f_fault_Is f_errors_Is f_errors_is
 rw [is_loop]
 cases e<;>rfl
def PathE:GErr→List ByteArray
 | .fault o _ e=>o::PathE e
 |_=>[]
theorem path_loop:∀ (e:GErr) (l:List ByteArray),l.length+(PathE e).length≤274877906944→iter f_fault_Path_l0 (e,l)=some (l++PathE e)
 | .nil,l,_=>(iter_stop (by unfold f_fault_Path_l0;rfl)).trans (by simp [PathE])
 | .code n,l,_=>(iter_stop (e:=l) (by
   unfold f_fault_Path_l0
   simp only [GErr.isNil,Bool.not_false,if_true,as_fault_eq,Option.bind_some])).trans (by simp [PathE])
 | .other n,l,_=>(iter_stop (e:=l) (by
   unfold f_fault_Path_l0
   simp only [GErr.isNil,Bool.not_false,if_true,as_fault_eq,Option.bind_some])).trans (by simp [PathE])
 | .fault o a e,l,h=>by
  have hstep:f_fault_Path_l0 (.fault o a e,l)=some (.inl (e,l++[o])):=by
   unfold f_fault_Path_l0
   simp only [GErr.isNil,Bool.not_false,if_true,as_fault_eq,Option.bind_some,Bool.not_true,Bool.false_eq_true,if_false]
   rw [grd_t (by simp [PathE] at h⊢;omega)]
  rw [iter_next hstep,path_loop e (l++[o]) (by simp [PathE] at h⊢;omega)]
  simp [PathE]
theorem path_eq (e:GErr) (h:(PathE e).length≤274877906944):f_fault_Path e=some (PathE e):=by
 unfold f_fault_Path
 rw [path_loop e [] (by simpa using h)]
 simp
open Classical in
theorem under_loop (op:ByteArray) (l:List ByteArray) (hl:l.length≤274877906944):∀ (d i:Nat),i+d=l.length→iter (f_fault_Under_l0 op l) (i:Int)=some (if op∈l.drop i then .inr ()else .inl ())
 |0,i,h=>by
  refine iter_stop ?_
  unfold f_fault_Under_l0
  simp only
  rw [if_neg (fun q=>absurd (of_decide_eq_true q) (by omega)),List.drop_of_length_le (by omega),if_neg (by simp)]
 |d+1,i,h=>by
  have hlt:i<l.length:=by omega
  have e1:rd l (i:Int)=l[i]:=len_lt hlt
  by_cases g:l[i]=op
  ·refine iter_stop ?_
   unfold f_fault_Under_l0
   simp only
   rw [if_pos (decide_eq_true (by omega)),grd_t ⟨by omega,by omega⟩,e1,if_pos (decide_eq_true g),List.drop_eq_getElem_cons hlt,if_pos (by simp [g])]
  ·have hstep:f_fault_Under_l0 op l (i:Int)=some (.inl ((i+1:Nat):Int)):=by
    unfold f_fault_Under_l0
    simp only
    rw [if_pos (decide_eq_true (by omega)),grd_t ⟨by omega,by omega⟩,e1,if_neg (fun q=>g (of_decide_eq_true q)),w_i64 (by omega) (by omega)]
    rfl
   rw [iter_next hstep,under_loop op l hl d (i+1) (by omega),List.drop_eq_getElem_cons hlt]
   have:(op∈l[i]::l.drop (i+1))↔op∈l.drop (i+1):=by
    simp only [List.mem_cons]
    exact⟨fun q=>q.elim (fun q=>absurd q.symm g) id, .inr⟩
   simp only [this]
open Classical in
theorem under_eq (e:GErr) (op:ByteArray) (h:(PathE e).length≤274877906944):f_fault_Under e op=some (decide (op∈PathE e)):=by
 unfold f_fault_Under
 rw [path_eq e h]
 simp only [Option.bind_some]
 have:=under_loop op (PathE e) h (PathE e).length 0 (by omega)
 rw [show ((0:Nat):Int)=0 from rfl] at this
 rw [this,List.drop_zero]
 by_cases g:op∈PathE e
 ·rw [if_pos g,decide_eq_true g];rfl
 ·rw [if_neg g,decide_eq_false g];rfl
theorem rdn {α:Type}[Inhabited α]{xs:List α}{i:Nat}(h:i<xs.length):rd xs (i:Int)=xs[i]:=len_lt h
def okB (l:List Int):Prop:=∀ x∈l,0≤x∧x≤255
theorem okB.nil:okB []:=fun _ h=>by cases h
theorem okB.append {a b:List Int}(h:okB a) (k:okB b):okB (a++b):=fun x hx=>(List.mem_append.1 hx).elim (h x) (k x)
theorem okB.at {l:List Int}(h:okB l){i:Nat}(hi:i<l.length):0≤rd l (i:Int)∧rd l (i:Int)≤255:=by
 rw [rdn hi];exact h _ (List.getElem_mem hi)
theorem okB.drop {l:List Int}(h:okB l) (n:Nat):okB (l.drop n):=fun x hx=>h x (List.mem_of_mem_drop hx)
theorem okB.take {l:List Int}(h:okB l) (n:Nat):okB (l.take n):=fun x hx=>h x (List.mem_of_mem_take hx)
theorem sub_end (b:List Int) (i:Nat):sub b (i:Int) (b.length:Int)=b.drop i:=by
 unfold sub
 rw [show ((i:Int)).toNat=i by omega,show ((b.length:Int)).toNat=b.length by omega]
 exact List.take_of_length_le (by simp)
theorem sub_nat {α:Type}(b:List α) (i j:Nat):sub b (i:Int) (j:Int)=(b.drop i).take (j - i):=by
 unfold sub
 rw [show ((i:Int)).toNat=i by omega,show ((j:Int)).toNat=j by omega]
theorem rd_drop (b:List Int) (i j:Nat):rd (b.drop i) (j:Int)=rd b ((i+j:Nat):Int):=by
 unfold rd
 rw [show ((j:Int)).toNat=j by omega,show (((i+j:Nat):Int)).toNat=i+j by omega]
 simp [List.getD_eq_getElem?_getD]
theorem fdiv_nn {a b:Int}(h:0<b):a.fdiv b=a/b:=Int.fdiv_eq_ediv_of_nonneg _ (Int.le_of_lt h)
theorem shr8 (n:Int) (k:Nat) (hk:k+8≤64):shrI .u64 n ((k+8:Nat):Int)=shrI .u64 n (k:Int)/256:=by
 unfold shrI
 rw [show min (((k+8:Nat):Int)).toNat IntKind.u64.bits=k+8 by show min _ 64=_;omega,show min ((k:Int)).toNat IntKind.u64.bits=k by show min _ 64=_;omega]
 rw [fdiv_nn (Int.pow_pos (by decide)),fdiv_nn (Int.pow_pos (by decide)),Int.pow_add]
 exact(Int.ediv_ediv_of_nonneg (Int.pow_nonneg (by decide))).symm
theorem shr0 (n:Int):shrI .u64 n (0:Int)=n:=by
 unfold shrI
 show n.fdiv (2^0)=n
 rw [fdiv_nn (by decide)]
 omega
theorem s8 (n:Int):shrI .u64 n 8=n/256:=by have:=shr8 n 0 (by decide);rw [show ((0:Nat):Int)=0 from rfl,shr0] at this;exact this
theorem s16 (n:Int):shrI .u64 n 16=n/256/256:=by have:=shr8 n 8 (by decide);rw [show ((8:Nat):Int)=8 from rfl,s8] at this;exact this
theorem s24 (n:Int):shrI .u64 n 24=n/256/256/256:=by have:=shr8 n 16 (by decide);rw [show ((16:Nat):Int)=16 from rfl,s16] at this;exact this
theorem s32 (n:Int):shrI .u64 n 32=n/256/256/256/256:=by have:=shr8 n 24 (by decide);rw [show ((24:Nat):Int)=24 from rfl,s24] at this;exact this
theorem s40 (n:Int):shrI .u64 n 40=n/256/256/256/256/256:=by have:=shr8 n 32 (by decide);rw [show ((32:Nat):Int)=32 from rfl,s32] at this;exact this
theorem s48 (n:Int):shrI .u64 n 48=n/256/256/256/256/256/256:=by have:=shr8 n 40 (by decide);rw [show ((40:Nat):Int)=40 from rfl,s40] at this;exact this
theorem s56 (n:Int):shrI .u64 n 56=n/256/256/256/256/256/256/256:=by have:=shr8 n 48 (by decide);rw [show ((48:Nat):Int)=48 from rfl,s48] at this;exact this
theorem or_tab:∀ x:Fin 64,orI .u8 64 (x.val:Int)=64+x.val∧orI .u8 128 (x.val:Int)=128+x.val∧orI .u8 192 (x.val:Int)=192+x.val:=by decide+kernel
theorem or64 {x:Int}(h0:0≤x) (h1:x<64):orI .u8 64 x=64+x∧orI .u8 128 x=128+x∧orI .u8 192 x=192+x:=by
 have:=or_tab ⟨x.toNat,by omega⟩
 simp only [show ((x.toNat:Nat):Int)=x by omega] at this
 exact this
theorem head_tab:∀ x:Fin 256,andI .u8 (x.val:Int) 63=(x.val:Int) % 64∧shrI .u8 (x.val:Int) 6=(x.val:Int)/64:=by decide+kernel
theorem head_eq {x:Int}(h0:0≤x) (h1:x≤255):andI .u8 x 63=x % 64∧shrI .u8 x 6=x/64:=by
 have:=head_tab ⟨x.toNat,by omega⟩
 simp only [show ((x.toNat:Nat):Int)=x by omega] at this
 exact this
theorem shl_tab:shlI .i64 1 0=1∧shlI .i64 1 1=2∧shlI .i64 1 2=4∧shlI .i64 1 3=8:=by decide+kernel
theorem next8 {n b:Int}(h0:0≤n) (h1:n<72057594037927936) (b0:0≤b) (b1:b≤255):orI .u64 (shlI .u64 n 8) (IntKind.u64.wrap b)=n*256+b:=by
 rw [w_u64 b0 (by omega)]
 have e1:shlI .u64 n 8=n*256:=by
  unfold shlI
  show IntKind.u64.wrap (n*2^8)=_
  rw [w_u64 (by omega) (by omega)];omega
 rw [e1]
 obtain ⟨N,rfl⟩:=Int.eq_ofNat_of_zero_le h0
 obtain ⟨B,rfl⟩:=Int.eq_ofNat_of_zero_le b0
 unfold orI
 show IntKind.u64.wrap (((BitVec.ofInt 64 ((N:Int)*256)) |||(BitVec.ofInt 64 (B:Int))).toNat:Int)=_
 have e2:(BitVec.ofInt 64 ((N:Int)*256)).toNat=N*256:=by
  rw [show ((N:Int)*256)=((N*256:Nat):Int) by omega,BitVec.ofInt_natCast,BitVec.toNat_ofNat]
  exact Nat.mod_eq_of_lt (by omega)
 have e3:(BitVec.ofInt 64 (B:Int)).toNat=B:=by
  rw [BitVec.ofInt_natCast,BitVec.toNat_ofNat]
  exact Nat.mod_eq_of_lt (by omega)
 rw [BitVec.toNat_or,e2,e3]
 have e4:N*256 |||B=N*256+B:=by
  have:=Nat.shiftLeft_add_eq_or_of_lt (a:=N) (b:=B) (i:=8) (by omega)
  rw [Nat.shiftLeft_eq] at this
  exact this.symm
 rw [e4,w_u64 (by omega) (by omega)]
 omega
def top:Int:=4611686018427387903
def cap62 (n:Int):Int:=if top<n then top else n
def numC (k:Int):List Int:=
 if k<64 then[k]
 else if k<16384 then[64+k/256,k % 256]
 else if k<1073741824 then[128+k/256/256/256,k/256/256 % 256,k/256 % 256,k % 256]
 else[192+k/256/256/256/256/256/256/256,k/256/256/256/256/256/256 % 256,k/256/256/256/256/256 % 256,k/256/256/256/256 % 256,k/256/256/256 % 256,k/256/256 % 256,k/256 % 256,k % 256]
def numB (n:Int):List Int:=numC (cap62 n)
theorem cap62_le {n:Int}(h:0≤n):0≤cap62 n∧cap62 n≤top:=by
 unfold cap62 top
 split<;>constructor<;>(try unfold top at*)<;>omega
theorem numC_len (k:Int):(numC k).length≤8∧1≤(numC k).length:=by
 unfold numC
 split
 ·simp
 split
 ·simp
 split<;>simp
theorem numB_len (n:Int):(numB n).length≤8∧1≤(numB n).length:=numC_len _
theorem numC_ok {k:Int}(h0:0≤k) (h1:k≤top):okB (numC k):=by
 unfold top at h1
 unfold numC okB
 intro x hx
 split at hx
 ·simp at hx;omega
 split at hx
 ·simp at hx;omega
 split at hx
 ·simp at hx;omega
 ·simp at hx
  have q:0≤k/256/256/256/256/256/256/256∧k/256/256/256/256/256/256/256<64:=by omega
  rcases hx with h |h |h |h |h |h |h |h
  ·omega
  all_goals
   subst h
   omega
theorem numB_ok {n:Int}(h0:0≤n):okB (numB n):=numC_ok (cap62_le h0).1 (cap62_le h0).2
theorem wnum_eq (b:List Int) (n:Int) (h0:0≤n) (hb:b.length≤274877900000):f_wire_Num b n=some (b++numB n):=by
 have hc:=cap62_le h0
 unfold f_wire_Num numB
 rw [show (if(4611686018427387903:Int)<n then(4611686018427387903:Int)else n)=cap62 n from rfl]
 generalize cap62 n=k at hc
 unfold top at hc
 unfold numC
 by_cases h1:k<64
 ·rw [if_pos (decide_eq_true h1),if_pos h1,grd_t (by simp;omega),w_u8 (by omega) (by omega)]
 rw [if_neg (fun q=>h1 (of_decide_eq_true q)),if_neg h1]
 have m0:IntKind.u8.wrap k=k % 256:=u8_mod k
 by_cases h2:k<16384
 ·have e1:IntKind.u8.wrap (shrI .u64 k 8)=k/256:=by rw [s8,w_u8 (by omega) (by omega)]
  rw [if_pos (decide_eq_true h2),if_pos h2,grd_t (by simp;omega),e1,m0,(or64 (x:=k/256) (by omega) (by omega)).1]
 rw [if_neg (fun q=>h2 (of_decide_eq_true q)),if_neg h2]
 by_cases h3:k<1073741824
 ·have e1:IntKind.u8.wrap (shrI .u64 k 24)=k/256/256/256:=by rw [s24,w_u8 (by omega) (by omega)]
  rw [if_pos (decide_eq_true h3),if_pos h3,grd_t (by simp;omega),e1,m0,s16,s8,u8_mod,u8_mod,(or64 (x:=k/256/256/256) (by omega) (by omega)).2.1]
 ·have e1:IntKind.u8.wrap (shrI .u64 k 56)=k/256/256/256/256/256/256/256:=by rw [s56,w_u8 (by omega) (by omega)]
  rw [if_neg (fun q=>h3 (of_decide_eq_true q)),if_neg h3,grd_t (by simp;omega),e1,m0,s48,s40,s32,s24,s16,s8,u8_mod,u8_mod,u8_mod,u8_mod,u8_mod,u8_mod,
   (or64 (x:=k/256/256/256/256/256/256/256) (by omega) (by omega)).2.2]
def intB (n:Int):List Int:=numB (if n<0 then 0 else n)
theorem intB_len (n:Int):(intB n).length≤8∧1≤(intB n).length:=numB_len _
theorem intB_ok (n:Int):okB (intB n):=numB_ok (by split<;>omega)
theorem wint_eq (b:List Int) (n:Int) (hn:n≤9223372036854775807) (hb:b.length≤274877900000):f_wire_Int b n=some (b++intB n):=by
 unfold f_wire_Int intB
 have h:0≤(if n<0 then(0:Int)else n)∧(if n<0 then(0:Int)else n)≤9223372036854775807:=by split<;>omega
 rw [w_u64 h.1 (by omega),wnum_eq b _ h.1 hb]
 rfl
def flagB (is:Bool):List Int:=if is=true then[1]else[0]
theorem wflag_eq (b:List Int) (is:Bool) (hb:b.length≤274877900000):f_wire_Flag b is=some (b++flagB is):=by
 unfold f_wire_Flag flagB
 cases is
 ·rw [if_neg (by decide),grd_t (by simp only [List.length_singleton];omega)];rfl
 ·rw [if_pos rfl,grd_t (by simp only [List.length_singleton];omega)];rfl
def textB (s:List Int):List Int:=intB (s.length:Int)++s
theorem wtext_eq (b s:List Int) (hb:b.length+s.length≤274877800000):f_wire_Text b s=some (b++textB s):=by
 unfold f_wire_Text textB
 rw [wint_eq b _ (by omega) (by omega)]
 simp only [Option.bind_some]
 have:=intB_len (s.length:Int)
 rw [grd_t (by simp;omega),List.append_assoc]
def intsB (l:List Int):List Int:=(l.map intB).flatten
theorem intsB_cons (x:Int) (l:List Int):intsB (x::l)=intB x++intsB l:=rfl
def rowB (l:List Int):List Int:=intB (l.length:Int)++intsB l
theorem intsB_len:∀ (l:List Int),(intsB l).length≤8*l.length
 |[]=>by simp [intsB]
 |x::l=>by
  have h1:=intsB_len l
  have h2:=(intB_len x).1
  simp only [intsB,List.map_cons,List.flatten_cons,List.length_append,List.length_cons] at*
  omega
theorem wrow_loop (l:List Int) (hl:∀ x∈l,x≤9223372036854775807) (hn:l.length≤1000000):∀ (d i:Nat) (b:List Int),i+d=l.length→b.length+8*d≤274877900000→
  iter (f_wire_Row_l0 l) (b,(i:Int))=some (b++intsB (l.drop i))
 |0,i,b,hi,hb=>by
  rw [List.drop_of_length_le (by omega)]
  refine iter_stop ?_
  unfold f_wire_Row_l0
  simp only
  rw [if_neg (fun q=>absurd (of_decide_eq_true q) (by omega))]
  simp [intsB]
 |d+1,i,b,hi,hb=>by
  have hlt:i<l.length:=by omega
  have hstep:f_wire_Row_l0 l (b,(i:Int))=some (.inl (b++intB l[i],((i+1:Nat):Int))):=by
   unfold f_wire_Row_l0
   simp only
   rw [if_pos (decide_eq_true (by omega)),grd_t ⟨by omega,by omega⟩,rdn hlt,wint_eq _ _ (hl _ (List.getElem_mem hlt)) (by omega),w_i64 (by omega) (by omega)]
   rfl
  rw [iter_next hstep,wrow_loop l hl hn d (i+1) _ (by omega) (by have:=(intB_len l[i]).1;simp;omega),List.drop_eq_getElem_cons hlt,intsB_cons,List.append_assoc]
theorem wrow_eq (b l:List Int) (hl:∀ x∈l,x≤9223372036854775807) (hn:l.length≤1000000) (hb:b.length≤274800000000):f_wire_Row b l=some (b++rowB l):=by
 unfold f_wire_Row rowB
 rw [wint_eq b _ (by omega) (by omega)]
 simp only [Option.bind_some]
 have h:=wrow_loop l hl hn l.length 0 (b++intB (l.length:Int)) (by omega) (by have:=(intB_len (l.length:Int)).1;simp;omega)
 rw [show ((0:Nat):Int)=0 from rfl] at h
 rw [h]
 simp
def accN (b:List Int) (a:Nat):Nat→Int
 |0=>rd b (a:Int) % 64
 |i+1=>accN b a i*256+rd b ((a+(i+1):Nat):Int)
def capN:Nat→Int
 |0=>63
 |i+1=>capN i*256+255
theorem capN_le:∀ i:Fin 8,capN i.val≤top:=by decide
theorem capN_le6:∀ i:Fin 7,capN i.val≤18014398509481983:=by decide
theorem accN_bnd {b:List Int}(hb:okB b){a:Nat}:∀ i:Nat,a+i<b.length→0≤accN b a i∧accN b a i≤capN i
 |0,h=>by
  have:=hb.at (i:=a) (by omega)
  simp only [accN,capN]
  omega
 |i+1,h=>by
  have h1:=accN_bnd (a:=a) hb i (by omega)
  have h2:=hb.at (i:=a+(i+1)) h
  simp only [accN,capN]
  omega
def headK (h:Int):Nat:=if h/64=0 then 1 else if h/64=1 then 2 else if h/64=2 then 4 else 8
def sizeK (n:Int):Nat:=if n<64 then 1 else if n<16384 then 2 else if n<1073741824 then 4 else 8
def numR (b:List Int) (a:Nat) (most:Int):Int⊕(Int×Nat):=
 if b.length≤a then .inl 3
 else if b.length<a+headK (rd b (a:Int))then .inl 3
 else if sizeK (accN b a (headK (rd b (a:Int))- 1))≠headK (rd b (a:Int))then .inl 5
 else if most<accN b a (headK (rd b (a:Int))- 1)then .inl 6
 else .inr (accN b a (headK (rd b (a:Int))- 1),a+headK (rd b (a:Int)))
theorem headK_le (h:Int):headK h≤8∧1≤headK h:=by
 unfold headK
 split
 ·simp
 split
 ·simp
 split<;>simp
abbrev numOp:ByteArray:=⟨#[110,117,109]⟩
theorem fail_bad (b:List Int) (a:Int) (e:GErr) (h:e.isNil=false) (o:ByteArray) (at_ c:Int):f_wire_Reader_fail ⟨b,a,e⟩ o at_ c=some e:=by
 unfold f_wire_Reader_fail
 simp only [h]
 rfl
theorem next1 {b:List Int}(hb:okB b){a i:Nat}(h:a+(i+1)<b.length) (hi:i≤6) (hl:b.length≤1000000000000):f_wire_Reader_Num_1 (accN b a i) (b.drop a) ((i+1:Nat):Int)=some (accN b a (i+1),((i+2:Nat):Int)):=by
 have hb1:=accN_bnd (a:=a) hb i (by omega)
 have hb2:=capN_le6 ⟨i,by omega⟩
 have hb3:=hb.at (i:=a+(i+1)) h
 simp only at hb2
 unfold f_wire_Reader_Num_1
 rw [grd_t ⟨by omega,by simp;omega⟩,rd_drop,next8 (by omega) (by omega) hb3.1 hb3.2,w_i64 (by omega) (by omega)]
 rfl
theorem shl_head {h:Int}(h0:0≤h) (h1:h≤255):shlI .i64 1 (shrI .u8 h 6)=((headK h:Nat):Int):=by
 rw [(head_eq h0 h1).2]
 have hq:h/64=0∨h/64=1∨h/64=2∨h/64=3:=by omega
 unfold headK
 rcases hq with q |q |q |q<;>rw [q]
 ·exact shl_tab.1
 ·exact shl_tab.2.1
 ·exact shl_tab.2.2.1
 ·exact shl_tab.2.2.2
theorem headK_cases (h:Int):headK h=1∨headK h=2∨headK h=4∨headK h=8:=by
 unfold headK
 split
 ·simp
 split
 ·simp
 split<;>simp
def leastK (k:Nat):Int:=if k=8 then 1073741824 else if k=4 then 16384 else if k=2 then 64 else 0
def numP (b:List Int) (a:Nat) (most:Int):Int×Int×GErr:=
 match numR b a most with
 | .inl c=>(0,(a:Int), .fault numOp (a:Int) (.code c))
 | .inr (n,a')=>(n,(a':Int), .nil)
theorem wnum_tail (b:List Int) (a k:Nat) (most n:Int) (hk:k=1∨k=2∨k=4∨k=8) (hn:0≤n) (hc:n≤capN (k - 1)) (ha:a+k≤b.length) (hl:b.length≤1000000000000):
  (if(decide (n<leastK k))=true then((f_wire_Reader_fail ⟨b,(a:Int), .nil⟩ numOp (a:Int) 5).bind fun(r103:GErr)=>(some ((0:Int),(a:Int),r103)))else(if(decide (most<n))=true then((f_wire_Reader_fail ⟨b,(a:Int), .nil⟩ numOp (a:Int) 6).bind fun(r108:GErr)=>(some ((0:Int),(a:Int),r108)))else(some (n,IntKind.i64.wrap ((a:Int)+(k:Int)),GErr.nil))))=
  some (match(if sizeK n≠k then Sum.inl 5 else if most<n then Sum.inl 6 else Sum.inr (n,a+k):Int⊕(Int×Nat))with
   | .inl c=>(0,(a:Int), .fault numOp (a:Int) (.code c))
   | .inr (n,a')=>(n,(a':Int), .nil)):=by
 have hs:(n<leastK k)↔sizeK n≠k:=by
  unfold leastK sizeK
  rcases hk with rfl |rfl |rfl |rfl
  ·have:capN (1 - 1)=63:=rfl
   simp;omega
  ·have:capN (2 - 1)=16383:=rfl
   simp
   constructor
   ·intro h;rw [if_pos h];decide
   ·intro h
    by_cases g:n<64
    ·exact g
    ·rw [if_neg g,if_pos (by omega)] at h;exact absurd rfl h
  ·have:capN (4 - 1)=1073741823:=rfl
   simp
   constructor
   ·intro h
    by_cases g:n<64
    ·rw [if_pos g];decide
    ·rw [if_neg g,if_pos h];decide
   ·intro h
    by_cases g:n<16384
    ·exact g
    ·rw [if_neg (by omega),if_neg g,if_pos (by omega)] at h;exact absurd rfl h
  ·simp
   constructor
   ·intro h
    by_cases g:n<64
    ·rw [if_pos g];decide
    ·rw [if_neg g]
     by_cases g2:n<16384
     ·rw [if_pos g2];decide
     ·rw [if_neg g2,if_pos h];decide
   ·intro h
    by_cases g:n<1073741824
    ·exact g
    ·rw [if_neg (by omega),if_neg (by omega),if_neg g] at h;exact absurd rfl h
 have hk8:k≤8:=by omega
 by_cases g3:sizeK n≠k
 ·rw [if_pos (decide_eq_true (hs.2 g3)),if_pos g3];rfl
 ·rw [if_neg (fun q=>g3 (hs.1 (of_decide_eq_true q))),if_neg g3]
  by_cases g4:most<n
  ·rw [if_pos (decide_eq_true g4),if_pos g4];rfl
  ·rw [if_neg (fun q=>g4 (of_decide_eq_true q)),if_neg g4,w_i64 (by omega) (by omega)];rfl
theorem wnum_read {b:List Int}(hb:okB b) (hl:b.length≤1000000000000){a:Nat}(ha:a≤b.length) (most:Int):f_wire_Reader_Num ⟨b,(a:Int), .nil⟩ most=some (numP b a most):=by
 unfold f_wire_Reader_Num numP numR
 simp only [sub_end]
 rw [if_neg (show¬ ((!GErr.isNil GErr.nil)=true) from by decide),grd_t ⟨by omega,by omega,by omega⟩]
 by_cases g1:b.length≤a
 ·rw [if_pos (decide_eq_true (by simp;omega)),if_pos g1];rfl
 have hB:=hb.at (i:=a) (by omega)
 have e0:rd (b.drop a) 0=rd b (a:Int):=rd_drop b a 0
 have hK:=headK_cases (rd b (a:Int))
 have eN:IntKind.u64.wrap (andI .u8 (rd b (a:Int)) 63)=accN b a 0:=by
  rw [(head_eq hB.1 hB.2).1,w_u64 (by omega) (by omega)];rfl
 have hsh:0≤shrI .u8 (rd b (a:Int)) 6:=by rw [(head_eq hB.1 hB.2).2];omega
 rw [if_neg (fun q=>absurd (of_decide_eq_true q) (by simp;omega)),if_neg g1,grd_t ⟨by omega,by simp;omega⟩]
 simp only [e0,shl_head hB.1 hB.2,eN]
 rw [grd_t hsh]
 generalize hkk:headK (rd b (a:Int))=k at hK
 by_cases g2:b.length<a+k
 ·rw [if_pos (decide_eq_true (by simp;omega)),if_pos g2];rfl
 rw [if_neg (fun q=>absurd (of_decide_eq_true q) (by simp;omega)),if_neg g2,grd_t ⟨by omega,by simp;omega⟩]
 have hbn:0≤accN b a (k - 1)∧accN b a (k - 1)≤capN (k - 1):=accN_bnd hb (k - 1) (by omega)
 have tail:=wnum_tail b a k most (accN b a (k - 1)) hK hbn.1 hbn.2 (by omega) hl
 rcases hK with rfl |rfl |rfl |rfl
 ·rw [if_neg (by decide),if_neg (by decide),if_neg (by decide)]
  exact tail
 ·have n1:f_wire_Reader_Num_1 (accN b a 0) (b.drop a) 1=some (accN b a 1,2):=next1 hb (i:=0) (by omega) (by decide) hl
  rw [if_neg (by decide),if_neg (by decide),if_pos (by decide)]
  simp only [Option.bind_some,Sum.elim_inl,Sum.elim_inr,n1]
  exact tail
 ·have n1:f_wire_Reader_Num_1 (accN b a 0) (b.drop a) 1=some (accN b a 1,2):=next1 hb (i:=0) (by omega) (by decide) hl
  have n2:f_wire_Reader_Num_1 (accN b a 1) (b.drop a) 2=some (accN b a 2,3):=next1 hb (i:=1) (by omega) (by decide) hl
  have n3:f_wire_Reader_Num_1 (accN b a 2) (b.drop a) 3=some (accN b a 3,4):=next1 hb (i:=2) (by omega) (by decide) hl
  rw [if_neg (by decide),if_pos (by decide)]
  simp only [Option.bind_some,Sum.elim_inl,Sum.elim_inr,n1,n2,n3]
  exact tail
 ·have n1:f_wire_Reader_Num_1 (accN b a 0) (b.drop a) 1=some (accN b a 1,2):=next1 hb (i:=0) (by omega) (by decide) hl
  have n2:f_wire_Reader_Num_1 (accN b a 1) (b.drop a) 2=some (accN b a 2,3):=next1 hb (i:=1) (by omega) (by decide) hl
  have n3:f_wire_Reader_Num_1 (accN b a 2) (b.drop a) 3=some (accN b a 3,4):=next1 hb (i:=2) (by omega) (by decide) hl
  have n4:f_wire_Reader_Num_1 (accN b a 3) (b.drop a) 4=some (accN b a 4,5):=next1 hb (i:=3) (by omega) (by decide) hl
  have n5:f_wire_Reader_Num_1 (accN b a 4) (b.drop a) 5=some (accN b a 5,6):=next1 hb (i:=4) (by omega) (by decide) hl
  have n6:f_wire_Reader_Num_1 (accN b a 5) (b.drop a) 6=some (accN b a 6,7):=next1 hb (i:=5) (by omega) (by decide) hl
  have n7:f_wire_Reader_Num_1 (accN b a 6) (b.drop a) 7=some (accN b a 7,8):=next1 hb (i:=6) (by omega) (by decide) hl
  rw [if_pos (by decide)]
  simp only [Option.bind_some,Sum.elim_inl,Sum.elim_inr,n1,n2,n3,n4,n5,n6,n7]
  exact tail
theorem wnum_bad {b:List Int}{a:Int}{e:GErr}(h:e.isNil=false) (most:Int):f_wire_Reader_Num ⟨b,a,e⟩ most=some (0,a,e):=by
 unfold f_wire_Reader_Num
 rw [if_pos (by simp [h])]
theorem numR_ok {b:List Int}(hb:okB b){a:Nat}{most n:Int}{a':Nat}(h:numR b a most= .inr (n,a')):0≤n∧n≤top∧n≤most∧a<a'∧a'≤b.length∧a'≤a+8:=by
 unfold numR at h
 have hk:=headK_le (rd b (a:Int))
 split at h
 ·cases h
 split at h
 ·cases h
 split at h
 ·cases h
 split at h
 ·cases h
 ·cases h
  have h1:=accN_bnd (a:=a) hb (headK (rd b (a:Int))- 1) (by omega)
  have h2:=capN_le ⟨headK (rd b (a:Int))- 1,by omega⟩
  simp only at h2
  exact⟨h1.1,by omega,by omega,by omega,by omega,by omega⟩
def pos0 (n:Int):Int:=if n<0 then 0 else n
theorem wint_read {b:List Int}(hb:okB b) (hl:b.length≤1000000000000){a:Nat}(ha:a≤b.length){most:Int}(hm:most≤9223372036854775807):f_wire_Reader_Int ⟨b,(a:Int), .nil⟩ most=some (numP b a (pos0 most)):=by
 unfold f_wire_Reader_Int
 have hp:0≤pos0 most∧pos0 most≤9223372036854775807:=by unfold pos0;split<;>omega
 rw [show (if most<(0:Int)then(0:Int)else most)=pos0 most from rfl,w_u64 hp.1 (by omega),wnum_read hb hl ha]
 simp only [Option.bind_some]
 unfold numP
 cases h:numR b a (pos0 most)with
 |inl c=>rfl
 |inr x=>
  obtain ⟨n,a'⟩:=x
  have:=numR_ok hb h
  unfold top at this
  simp only
  rw [w_i64 (by omega) (by omega)]
theorem wint_bad {b:List Int}{a:Int}{e:GErr}(h:e.isNil=false) (most:Int):f_wire_Reader_Int ⟨b,a,e⟩ most=some (0,a,e):=by
 unfold f_wire_Reader_Int
 rw [wnum_bad h];rfl
abbrev flagOp:ByteArray:=⟨#[102,108,97,103]⟩
abbrev textOp:ByteArray:=⟨#[116,101,120,116]⟩
abbrev endOp:ByteArray:=⟨#[101,110,100]⟩
abbrev RdR (α:Type):=(Int×ByteArray×Int×Nat)⊕(α×Nat)
def flagR (b:List Int) (a:Nat):RdR Bool:=
 if b.length≤a then .inl (3,flagOp,(a:Int),a)else if 1<rd b (a:Int)then .inl (5,flagOp,(a:Int),a)else .inr (decide (rd b (a:Int)=1),a+1)
def textR (b:List Int) (a:Nat) (most:Int):RdR (List Int):=match numR b a (pos0 most)with
 | .inl c=> .inl (c,numOp,(a:Int),a)
 | .inr (n,a')=>if((b.length - a':Nat):Int)<n then .inl (3,textOp,(a:Int),a)else .inr ((b.drop a').take n.toNat,a'+n.toNat)
def rowG (b:List Int) (each:Int):Nat→Nat→List Int→RdR (List Int)
 |0,a,l=> .inr (l,a)
 |k+1,a,l=>match numR b a (pos0 each)with
  | .inl c=> .inl (c,numOp,(a:Int),a)
  | .inr (n,a')=>rowG b each k a' (l++[n])
def rowR (b:List Int) (a:Nat) (many each:Int):RdR (List Int):=match numR b a (pos0 many)with
 | .inl c=> .inl (c,numOp,(a:Int),a)
 | .inr (n,a')=>rowG b each n.toNat a' []
def asP {α:Type}(z:α):RdR α→α×Int×GErr
 | .inl (c,o,w,a)=>(z,(a:Int), .fault o w (.code c))
 | .inr (x,a)=>(x,(a:Int), .nil)
theorem wflag_read {b:List Int}(hb:okB b) (hl:b.length≤1000000000000) (a:Nat):f_wire_Reader_Flag ⟨b,(a:Int), .nil⟩=some (asP false (flagR b a)):=by
 unfold f_wire_Reader_Flag flagR
 dsimp only
 rw [if_neg (show¬ ((!GErr.isNil GErr.nil)=true) from by decide)]
 by_cases g1:b.length≤a
 ·rw [if_pos (decide_eq_true (by omega)),if_pos g1];rfl
 rw [if_neg (fun q=>absurd (of_decide_eq_true q) (by omega)),if_neg g1,grd_t ⟨by omega,by omega⟩]
 by_cases g2:1<rd b (a:Int)
 ·rw [if_pos (decide_eq_true g2),if_pos g2];rfl
 have e1:IntKind.i64.wrap ((a:Int)+1)=((a+1:Nat):Int):=by rw [w_i64 (by omega) (by omega)];omega
 have e2:IntKind.i64.wrap (((a+1:Nat):Int)- 1)=(a:Int):=by rw [w_i64 (by omega) (by omega)];omega
 rw [if_neg (fun q=>g2 (of_decide_eq_true q)),if_neg g2]
 simp only [e1,e2]
 rw [grd_t ⟨by omega,by omega⟩];rfl
theorem clone_eq (l:List Int) (h:l.length≤1000000000):f_slices_Clone_byte_byte l=some l:=by
 unfold f_slices_Clone_byte_byte
 rw [grd_t (by simp;omega)];simp
theorem wtext_read {b:List Int}(hb:okB b) (hl:b.length≤1000000000){a:Nat}(ha:a≤b.length){most:Int}(hm:most≤9223372036854775807):f_wire_Reader_Text ⟨b,(a:Int), .nil⟩ most=some (asP [] (textR b a most)):=by
 unfold f_wire_Reader_Text textR
 rw [wint_read hb (by omega) ha hm]
 unfold numP
 cases h:numR b a (pos0 most)with
 |inl c=>rfl
 |inr x=>
  obtain ⟨n,a'⟩:=x
  have hn:=numR_ok hb h
  unfold top at hn
  simp only [Option.bind_some]
  rw [if_neg (show¬ ((!GErr.isNil GErr.nil)=true) from by decide),w_i64 (n:=(b.length:Int)- (a':Int)) (by omega) (by omega)]
  by_cases g:((b.length - a':Nat):Int)<n
  ·rw [if_pos (decide_eq_true (by omega)),if_pos g];rfl
  ·obtain ⟨N,rfl⟩:=Int.eq_ofNat_of_zero_le hn.1
   have e1:IntKind.i64.wrap ((a':Int)+(N:Int))=((a'+N:Nat):Int):=by rw [w_i64 (by omega) (by omega)];omega
   have e2:IntKind.i64.wrap (((a'+N:Nat):Int)- (N:Int))=(a':Int):=by rw [w_i64 (by omega) (by omega)];omega
   rw [if_neg (fun q=>absurd (of_decide_eq_true q) (by omega)),if_neg g]
   simp only [e1,e2]
   rw [grd_t ⟨by omega,by omega,by omega⟩,sub_nat,clone_eq _ (by simp;omega)]
   rw [show a'+N - a'=N by omega];rfl
theorem wrow_rloop {b:List Int}(hb:okB b) (hl:b.length≤1000000000) (r:T_wire_Reader) (hr:r.b=b){each:Int}(he:each≤9223372036854775807) (N:Nat) (hN:N≤4611686018427387903):∀ (k i a:Nat) (l:List Int),i+k=N→a≤b.length→l.length≤a→
  ∃ l',iter (f_wire_Reader_Row_l0 r each (N:Int)) (l,(i:Int),(a:Int), .nil)=some (l',(asP [] (rowG b each k a l)).2)∧((asP [] (rowG b each k a l)).2.2.isNil=true→l'=(asP [] (rowG b each k a l)).1)
 |0,i,a,l,hi,ha,hla=>by
  refine⟨l,iter_stop ?_,fun _=>rfl⟩
  unfold f_wire_Reader_Row_l0
  simp only
  rw [if_neg (fun q=>absurd (of_decide_eq_true q) (by omega))]
  rfl
 |k+1,i,a,l,hi,ha,hla=>by
  have hstep:f_wire_Reader_Row_l0 r each (N:Int) (l,(i:Int),(a:Int), .nil)=some (.inl (l++[(numP b a (pos0 each)).1],((i+1:Nat):Int),(numP b a (pos0 each)).2.1,(numP b a (pos0 each)).2.2)):=by
   unfold f_wire_Reader_Row_l0
   simp only
   rw [if_pos (decide_eq_true (by omega)),hr,wint_read hb (by omega) ha he]
   simp only [Option.bind_some,GErr.isNil,if_true]
   rw [grd_t (by simp;omega),w_i64 (by omega) (by omega)]
   rfl
  rw [iter_next hstep]
  unfold numP rowG
  cases h:numR b a (pos0 each)with
  |inl c=>
   refine⟨l++[0],iter_stop ?_,fun q=>by cases q⟩
   unfold f_wire_Reader_Row_l0
   simp only
   by_cases g:((i+1:Nat):Int)<(N:Int)
   ·rw [if_pos (decide_eq_true g)];rfl
   ·rw [if_neg (fun q=>g (of_decide_eq_true q))];rfl
  |inr x=>
   obtain ⟨n,a'⟩:=x
   have hn:=numR_ok hb h
   exact wrow_rloop hb hl r hr he N hN k (i+1) a' (l++[n]) (by omega) (by omega) (by simp;omega)
theorem wrow_read {b:List Int}(hb:okB b) (hl:b.length≤1000000000){a:Nat}(ha:a≤b.length){many each:Int}(hm:many≤9223372036854775807) (he:each≤9223372036854775807):f_wire_Reader_Row ⟨b,(a:Int), .nil⟩ many each=some (asP [] (rowR b a many each)):=by
 unfold f_wire_Reader_Row rowR
 rw [wint_read hb (by omega) ha hm]
 unfold numP
 cases h:numR b a (pos0 many)with
 |inl c=>
  simp only [Option.bind_some]
  rw [iter_stop (e:=([],(a:Int), .fault numOp (a:Int) (.code c))) rfl]
  rfl
 |inr x=>
  obtain ⟨n,a'⟩:=x
  have hn:=numR_ok hb h
  unfold top at hn
  obtain ⟨N,rfl⟩:=Int.eq_ofNat_of_zero_le hn.1
  simp only [Option.bind_some]
  obtain ⟨l',h1,h2⟩:=wrow_rloop hb hl ⟨b,(a:Int), .nil⟩ rfl he N (by omega) N 0 a' [] (by omega) (by omega) (by simp)
  rw [show ((0:Nat):Int)=0 from rfl] at h1
  rw [h1,show ((N:Int)).toNat=N by omega]
  simp only [Option.bind_some]
  cases hr:rowG b each N a' []with
  |inl x=>rfl
  |inr x=>
   rw [hr] at h2
   rw [h2 rfl]
   rfl
theorem wend_eq (b:List Int) (a:Int) (e:GErr):f_wire_Reader_End ⟨b,a,e⟩=some (if a<(b.length:Int)∧e.isNil=true then(.fault endOp a (.code 5), .fault endOp a (.code 5))else(e,e)):=by
 unfold f_wire_Reader_End
 by_cases g:a<(b.length:Int)
 ·rw [if_pos (decide_eq_true g)]
  cases h:e.isNil with
  |true=>
   rw [if_pos ⟨g,rfl⟩]
   obtain rfl:e= .nil:=by cases e<;>first |rfl |cases h
   rfl
  |false=>rw [fail_bad _ _ _ h,if_neg (by simp)];rfl
 ·rw [if_neg (fun q=>g (of_decide_eq_true q)),if_neg (fun q=>g q.1)];rfl
theorem rd_mid (pre x post:List Int){i:Nat}(hi:i<x.length):rd (pre++(x++post)) ((pre.length+i:Nat):Int)=rd x (i:Int):=by
 rw [rdn (show pre.length+i<(pre++(x++post)).length by simp;omega),rdn hi]
 rw [List.getElem_append_right (by omega)]
 simp only [Nat.add_sub_cancel_left]
 rw [List.getElem_append_left hi]
theorem rd_mid0 (pre x post:List Int) (hi:0<x.length):rd (pre++(x++post)) (pre.length:Int)=rd x 0:=rd_mid pre x post hi
theorem num_back (pre post:List Int){n most:Int}(h0:0≤n) (h1:n≤top) (hm:n≤most):numR (pre++(numB n++post)) pre.length most= .inr (n,pre.length+(numB n).length):=by
 have hcap:cap62 n=n:=by unfold cap62;rw [if_neg (by omega)]
 have e:numB n=numC n:=by unfold numB;rw [hcap]
 rw [e]
 have ht:=h1
 unfold top at ht
 have key:∀ k,(numC n).length=k→headK (rd (numC n) 0)=k→sizeK n=k→1≤k→accN (pre++(numC n++post)) pre.length (k - 1)=n→numR (pre++(numC n++post)) pre.length most= .inr (n,pre.length+(numC n).length):=by
  intro k hk hh hs hk1 ha
  unfold numR
  rw [rd_mid0 pre (numC n) post (by omega),hh,ha,hs,hk,if_neg (by simp;omega),if_neg (by simp;omega),if_neg (by simp),if_neg (by omega)]
 by_cases c1:n<64
 ·have ec:numC n=[n]:=by unfold numC;rw [if_pos c1]
  refine key 1 (by rw [ec];rfl) ?_ (by unfold sizeK;rw [if_pos c1]) (by decide) ?_
  ·rw [ec];show headK n=1;unfold headK;rw [if_pos (by omega)]
  ·show rd _ (pre.length:Int) % 64=n
   rw [rd_mid0 pre (numC n) post (by rw [ec];simp),ec]
   show n % 64=n
   omega
 by_cases c2:n<16384
 ·have ec:numC n=[64+n/256,n % 256]:=by unfold numC;rw [if_neg c1,if_pos c2]
  refine key 2 (by rw [ec];rfl) ?_ (by unfold sizeK;rw [if_neg c1,if_pos c2]) (by decide) ?_
  ·rw [ec];show headK (64+n/256)=2;unfold headK;rw [if_neg (by omega),if_pos (by omega)]
  ·show rd _ (pre.length:Int) % 64*256+rd _ ((pre.length+1:Nat):Int)=n
   rw [rd_mid0 pre (numC n) post (by rw [ec];simp),rd_mid pre (numC n) post (i:=1) (by rw [ec];simp),ec]
   show (64+n/256) % 64*256+n % 256=n
   omega
 by_cases c3:n<1073741824
 ·have ec:numC n=[128+n/256/256/256,n/256/256 % 256,n/256 % 256,n % 256]:=by unfold numC;rw [if_neg c1,if_neg c2,if_pos c3]
  refine key 4 (by rw [ec];rfl) ?_ (by unfold sizeK;rw [if_neg c1,if_neg c2,if_pos c3]) (by decide) ?_
  ·rw [ec];show headK (128+n/256/256/256)=4;unfold headK;rw [if_neg (by omega),if_neg (by omega),if_pos (by omega)]
  ·show ((rd _ (pre.length:Int) % 64*256+rd _ ((pre.length+1:Nat):Int))*256+rd _ ((pre.length+2:Nat):Int))*256+rd _ ((pre.length+3:Nat):Int)=n
   rw [rd_mid0 pre (numC n) post (by rw [ec];simp),rd_mid pre (numC n) post (i:=1) (by rw [ec];simp),rd_mid pre (numC n) post (i:=2) (by rw [ec];simp),rd_mid pre (numC n) post (i:=3) (by rw [ec];simp),ec]
   show (((128+n/256/256/256) % 64*256+n/256/256 % 256)*256+n/256 % 256)*256+n % 256=n
   rw [show (128+n/256/256/256) % 64=n/256/256/256 by omega,show n/256/256/256*256+n/256/256 % 256=n/256/256 by omega,show n/256/256*256+n/256 % 256=n/256 by omega]
   omega
 ·have ec:numC n=[192+n/256/256/256/256/256/256/256,n/256/256/256/256/256/256 % 256,n/256/256/256/256/256 % 256,n/256/256/256/256 % 256,n/256/256/256 % 256,n/256/256 % 256,n/256 % 256,n % 256]:=by unfold numC;rw [if_neg c1,if_neg c2,if_neg c3]
  have hx:0≤n/256/256/256/256/256/256/256∧n/256/256/256/256/256/256/256<64:=by omega
  refine key 8 (by rw [ec];rfl) ?_ (by unfold sizeK;rw [if_neg c1,if_neg c2,if_neg c3]) (by decide) ?_
  ·rw [ec];show headK (192+n/256/256/256/256/256/256/256)=8;unfold headK
   generalize n/256/256/256/256/256/256/256=x at hx
   rw [if_neg (by omega),if_neg (by omega),if_neg (by omega)]
  ·show ((((((rd _ (pre.length:Int) % 64*256+rd _ ((pre.length+1:Nat):Int))*256+rd _ ((pre.length+2:Nat):Int))*256+rd _ ((pre.length+3:Nat):Int))*256+rd _ ((pre.length+4:Nat):Int))*256+rd _ ((pre.length+5:Nat):Int))*256+rd _ ((pre.length+6:Nat):Int))*256+rd _ ((pre.length+7:Nat):Int)=n
   rw [rd_mid0 pre (numC n) post (by rw [ec];simp),rd_mid pre (numC n) post (i:=1) (by rw [ec];simp),rd_mid pre (numC n) post (i:=2) (by rw [ec];simp),rd_mid pre (numC n) post (i:=3) (by rw [ec];simp),rd_mid pre (numC n) post (i:=4) (by rw [ec];simp),rd_mid pre (numC n) post (i:=5) (by rw [ec];simp),rd_mid pre (numC n) post (i:=6) (by rw [ec];simp),rd_mid pre (numC n) post (i:=7) (by rw [ec];simp),ec]
   show (((((((192+n/256/256/256/256/256/256/256) % 64*256+n/256/256/256/256/256/256 % 256)*256+n/256/256/256/256/256 % 256)*256+n/256/256/256/256 % 256)*256+n/256/256/256 % 256)*256+n/256/256 % 256)*256+n/256 % 256)*256+n % 256=n
   have dm:∀ x:Int,x/256*256+x % 256=x:=fun x=>by omega
   have h64:(192+n/256/256/256/256/256/256/256) % 64=n/256/256/256/256/256/256/256:=by
    generalize n/256/256/256/256/256/256/256=x at hx
    omega
   rw [h64,dm,dm,dm,dm,dm,dm,dm]
theorem int_back (pre post:List Int){n most:Int}(h0:0≤n) (h1:n≤top) (hm:n≤most):numR (pre++(intB n++post)) pre.length most= .inr (n,pre.length+(intB n).length):=by
 unfold intB
 rw [if_neg (by omega)]
 exact num_back pre post h0 h1 hm
theorem flag_back (pre post:List Int) (is:Bool):flagR (pre++(flagB is++post)) pre.length= .inr (is,pre.length+(flagB is).length):=by
 unfold flagR
 have hl:(flagB is).length=1:=by cases is<;>rfl
 rw [rd_mid0 pre (flagB is) post (by omega),if_neg (by simp;omega)]
 cases is<;>rfl
theorem text_back (pre post s:List Int){most:Int}(hm:(s.length:Int)≤most) (hs:s.length≤1000000000):textR (pre++(textB s++post)) pre.length most= .inr (s,pre.length+(textB s).length):=by
 unfold textR textB
 have hp:pos0 most=most:=by unfold pos0;rw [if_neg (by omega)]
 have e:pre++(intB (s.length:Int)++s++post)=pre++(intB (s.length:Int)++(s++post)):=by simp
 rw [e,hp,int_back pre (s++post) (by omega) (by unfold top;omega) hm]
 simp only
 rw [if_neg (by simp;omega)]
 congr 2
 ·rw [show ((s.length:Int)).toNat=s.length by omega,←List.append_assoc,show pre.length+(intB (s.length:Int)).length=(pre++intB (s.length:Int)).length by simp,List.drop_left,List.take_left]
 ·simp;omega
theorem ints_back {each:Int}(he:each≤top):∀ (l pre post acc:List Int),(∀ x∈l,0≤x∧x≤each)→rowG (pre++(intsB l++post)) each l.length pre.length acc= .inr (acc++l,pre.length+(intsB l).length)
 |[],pre,post,acc,_=>by simp [rowG,intsB]
 |x::l,pre,post,acc,h=>by
  have hx:=h x (by simp)
  have hp:pos0 each=each:=by unfold pos0;rw [if_neg (by omega)]
  have e:pre++(intsB (x::l)++post)=pre++(intB x++(intsB l++post)):=by rw [intsB_cons];simp
  rw [e,List.length_cons]
  unfold rowG
  rw [hp,int_back pre (intsB l++post) hx.1 (by omega) hx.2]
  simp only
  have ih:=ints_back he l (pre++intB x) post (acc++[x]) (fun y hy=>h y (by simp [hy]))
  rw [show pre++(intB x++(intsB l++post))=(pre++intB x)++(intsB l++post) by simp,show pre.length+(intB x).length=(pre++intB x).length by simp,ih,intsB_cons]
  simp
  omega
theorem row_back (pre post l:List Int){many each:Int}(hm:(l.length:Int)≤many) (hl:l.length≤1000000000) (he:each≤top) (h:∀ x∈l,0≤x∧x≤each):rowR (pre++(rowB l++post)) pre.length many each= .inr (l,pre.length+(rowB l).length):=by
 unfold rowR rowB
 have hp:pos0 many=many:=by unfold pos0;rw [if_neg (by omega)]
 have e:pre++(intB (l.length:Int)++intsB l++post)=pre++(intB (l.length:Int)++(intsB l++post)):=by simp
 rw [e,hp,int_back pre (intsB l++post) (by omega) (by unfold top;omega) hm]
 simp only
 have:=ints_back he l (pre++intB (l.length:Int)) post [] h
 rw [show ((l.length:Int)).toNat=l.length by omega,show pre++(intB (l.length:Int)++(intsB l++post))=(pre++intB (l.length:Int))++(intsB l++post) by simp,show pre.length+(intB (l.length:Int)).length=(pre++intB (l.length:Int)).length by simp,this]
 simp
 omega
def mapR {α β:Type}(f:α→β):RdR α→RdR β
 | .inl x=> .inl x
 | .inr (x,a)=> .inr (f x,a)
def leR {α:Type}(N:Nat) (P:α→Prop):RdR α→Prop
 | .inl (c,_,_,a)=>a≤N∧c≠0
 | .inr (x,a)=>a≤N∧P x
theorem leR.map {α β:Type}{N:Nat}{P:α→Prop}{Q:β→Prop}{f:α→β}{R:RdR α}(h:leR N P R) (k:∀ x,P x→Q (f x)):leR N Q (mapR f R):=by
 cases R with
 |inl x=>exact h
 |inr x=>exact⟨h.1,k _ h.2⟩
theorem pos0_nn {m:Int}(h:0≤m):pos0 m=m:=by unfold pos0;rw [if_neg (by omega)]
theorem backI {b:List Int}(hb:okB b) (hl:b.length≤1000000){pre post:List Int}{n m:Int}(e:b=pre++(intB n++post)) (h0:0≤n) (h1:n≤top) (hm:n≤m) (hm2:m≤9223372036854775807):
  f_wire_Reader_Int ⟨b,(pre.length:Int), .nil⟩ m=some (n,((pre++intB n).length:Int), .nil):=by
 have h:=int_back pre post (n:=n) (most:=m) h0 h1 hm
 rw [←e] at h
 rw [wint_read hb (by omega) (by rw [e];simp) hm2,pos0_nn (by omega)]
 unfold numP
 rw [h,List.length_append]
theorem backF {b:List Int}(hb:okB b) (hl:b.length≤1000000){pre post:List Int}{n:Bool}(e:b=pre++(flagB n++post)):
  f_wire_Reader_Flag ⟨b,(pre.length:Int), .nil⟩=some (n,((pre++flagB n).length:Int), .nil):=by
 have h:=flag_back pre post n
 rw [←e] at h
 rw [wflag_read hb (by omega),h,List.length_append]
 rfl
theorem backT {b:List Int}(hb:okB b) (hl:b.length≤1000000){pre post s:List Int}{m:Int}(e:b=pre++(textB s++post)) (hm:(s.length:Int)≤m) (hm2:m≤9223372036854775807):
  f_wire_Reader_Text ⟨b,(pre.length:Int), .nil⟩ m=some (s,((pre++textB s).length:Int), .nil):=by
 have hs:s.length≤b.length:=by rw [e];unfold textB;simp;omega
 have h:=text_back pre post s (most:=m) hm (by omega)
 rw [←e] at h
 rw [wtext_read hb (by omega) (by rw [e];simp) hm2,h,List.length_append]
 rfl
theorem intsB_ge:∀ (l:List Int),l.length≤(intsB l).length
 |[]=>Nat.le_refl _
 |x::l=>by
  rw [intsB_cons]
  have h1:=intsB_ge l
  have h2:=(intB_len x).2
  simp only [List.length_cons,List.length_append]
  omega
theorem backR {b:List Int}(hb:okB b) (hl:b.length≤1000000){pre post s:List Int}{m k:Int}(e:b=pre++(rowB s++post)) (hm:(s.length:Int)≤m) (hm2:m≤9223372036854775807) (hk:k≤top) (hs:∀ x∈s,0≤x∧x≤k):
  f_wire_Reader_Row ⟨b,(pre.length:Int), .nil⟩ m k=some (s,((pre++rowB s).length:Int), .nil):=by
 have hsl:s.length≤b.length:=by
  have:=intsB_ge s
  rw [e];unfold rowB;simp only [List.length_append];omega
 have h:=row_back pre post s (many:=m) (each:=k) hm (by omega) hk hs
 rw [←e] at h
 rw [wrow_read hb (by omega) (by rw [e];simp) hm2 (by unfold top at hk;omega),h,List.length_append]
 rfl
theorem backE {b:List Int}{a:Nat}(h:a=b.length):f_wire_Reader_End ⟨b,(a:Int), .nil⟩=some (.nil, .nil):=by
 rw [wend_eq,if_neg (by omega)]
structure stC (c:Nat) (pre:List Int) (a:Int) (e:GErr):Prop where
 whole:pre.length≤c→a=(pre.length:Int)∧e= .nil
 short:c<pre.length→∃ o w,e= .fault o w (.code 3)
theorem stC.on {c:Nat}{pre x:List Int}{a:Int}{e:GErr}(h:stC c pre a e) (g:c<pre.length):stC c (pre++x) a e:=⟨fun k=>by rw [List.length_append] at k;omega,fun _=>h.short g⟩
theorem stC.no {c:Nat}{pre:List Int}{a:Int}{e:GErr}(h:stC c pre a e):stC c (pre++[]) a e:=by rw [List.append_nil];exact h
section
variable {b : List Int} {c : Nat} {pre post : List Int} {a : Int} {e : GErr}
end
theorem rdnA {α:Type}[Inhabited α]{xs:List α}{i:Nat}(h:i<xs.length):rd xs (i:Int)=xs[i]:=len_lt h
def brOk (l:List Int):Prop:=l.length≤7∧∀ i (h:i<l.length),1≤l[i]∧l[i]≤64∧l[i]∉l.take i
theorem index_loop (l:List Int) (x:Int) (hl:l.length≤1000000):∀ (d i:Nat),i+d=l.length→(x∉l.take i)→
  (x∈l∧∃ j:Nat,iter (f_slices_Index_int_int_l0 l x) (i:Int)=some (.inr (j:Int)))∨(x∉l∧iter (f_slices_Index_int_int_l0 l x) (i:Int)=some (.inl ()))
 |0,i,hi,hx=>by
  rw [List.take_of_length_le (by omega)] at hx
  refine .inr ⟨hx,iter_stop ?_⟩
  unfold f_slices_Index_int_int_l0
  simp only
  rw [if_neg (fun q=>absurd (of_decide_eq_true q) (by omega))]
 |d+1,i,hi,hx=>by
  have hlt:i<l.length:=by omega
  by_cases g:x=l[i]
  ·refine .inl ⟨by rw [g];exact List.getElem_mem hlt,i,iter_stop ?_⟩
   unfold f_slices_Index_int_int_l0
   simp only
   rw [if_pos (decide_eq_true (by omega)),grd_t ⟨by omega,by omega⟩,rdnA hlt,if_pos (decide_eq_true g)]
  ·have hstep:f_slices_Index_int_int_l0 l x (i:Int)=some (.inl ((i+1:Nat):Int)):=by
    unfold f_slices_Index_int_int_l0
    simp only
    rw [if_pos (decide_eq_true (by omega)),grd_t ⟨by omega,by omega⟩,rdnA hlt,if_neg (fun q=>g (of_decide_eq_true q)),w_i64 (by omega) (by omega)]
    rfl
   rw [iter_next hstep]
   refine index_loop l x hl d (i+1) (by omega) ?_
   rw [List.take_succ_eq_append_getElem hlt,List.mem_append,List.mem_singleton]
   exact fun q=>q.elim hx g
theorem contains_eq (l:List Int) (x:Int) (hl:l.length≤1000000):f_slices_Contains_int_int l x=some (decide (x∈l)):=by
 unfold f_slices_Contains_int_int f_slices_Index_int_int
 have h:=index_loop l x hl l.length 0 (by omega) (by simp)
 rw [show ((0:Nat):Int)=0 from rfl] at h
 rcases h with⟨h1,j,h2⟩ |⟨h1,h2⟩
 ·rw [h2,decide_eq_true h1]
  simp
 ·rw [h2,decide_eq_false h1]
  rfl
theorem sub_take (l:List Int) (i:Nat):sub l 0 (i:Int)=l.take i:=by
 unfold sub
 rw [show (0:Int).toNat=0 from rfl,show ((i:Int)).toNat=i by omega]
 simp
theorem pbrok_loop (l:List Int) (hl:l.length≤7):∀ (d i:Nat),i+d=l.length→(∀ j (h:j<l.length),j<i→1≤l[j]∧l[j]≤64∧l[j]∉l.take j)→
  (brOk l∧iter (f_record_Brokers_l0 l) (i:Int)=some (.inl ()))∨(¬ brOk l∧iter (f_record_Brokers_l0 l) (i:Int)=some (.inr ()))
 |0,i,hi,hp=>by
  refine .inl ⟨⟨hl,fun j hj=>hp j hj (by omega)⟩,iter_stop ?_⟩
  unfold f_record_Brokers_l0
  simp only
  rw [if_neg (fun q=>absurd (of_decide_eq_true q) (by omega))]
 |d+1,i,hi,hp=>by
  have hlt:i<l.length:=by omega
  have e:f_record_Brokers_l0 l (i:Int)=if 1≤l[i]∧l[i]≤64∧l[i]∉l.take i then some (.inl ((i+1:Nat):Int))else some (.inr (.inr ())):=by
   unfold f_record_Brokers_l0
   simp only
   rw [if_pos (decide_eq_true (by omega)),grd_t ⟨by omega,by omega⟩,rdnA hlt]
   by_cases g1:l[i]<1
   ·rw [if_pos (decide_eq_true g1),if_neg (show¬ (1≤l[i]∧l[i]≤64∧l[i]∉l.take i) from fun q=>by omega)];rfl
   rw [if_neg (fun q=>g1 (of_decide_eq_true q))]
   by_cases g2:64<l[i]
   ·rw [if_pos (decide_eq_true g2),if_neg (show¬ (1≤l[i]∧l[i]≤64∧l[i]∉l.take i) from fun q=>by omega)];rfl
   rw [if_neg (fun q=>g2 (of_decide_eq_true q)),grd_t ⟨by omega,by omega,by omega⟩,sub_take,contains_eq _ _ (by simp;omega)]
   simp only [Option.bind_some]
   by_cases g3:l[i]∈l.take i
   ·rw [decide_eq_true g3,if_pos rfl,if_neg (show¬ (1≤l[i]∧l[i]≤64∧l[i]∉l.take i) from fun q=>q.2.2 g3)]
   ·rw [decide_eq_false g3,if_neg (by decide),if_pos (show 1≤l[i]∧l[i]≤64∧l[i]∉l.take i from ⟨by omega,by omega,g3⟩),w_i64 (by omega) (by omega)];rfl
  by_cases g:1≤l[i]∧l[i]≤64∧l[i]∉l.take i
  ·rw [if_pos g] at e
   rw [iter_next e]
   refine pbrok_loop l hl d (i+1) (by omega) fun j hj hji=> ?_
   by_cases ej:j=i
   ·subst ej;exact g
   ·exact hp j hj (by omega)
  ·rw [if_neg g] at e
   exact .inr ⟨fun q=>g (q.2 i hlt),iter_stop e⟩
def known (k:Int):Prop:=k=1∨k=2∨k=3∨k=4∨k=5∨k=6∨k=7∨k=8∨k=9∨k=10∨k=11
theorem rbrok_in (l:List Int) (hl:l.length≤7) (i:Nat) (hi:i<l.length):∀ (d j:Nat),j+d=i→l[i]∉l.take j→
  (l[i]∉l.take i∧iter (f_ref05_Brokers_l1 l (i:Int)) (j:Int)=some (.inl ()))∨(l[i]∈l.take i∧iter (f_ref05_Brokers_l1 l (i:Int)) (j:Int)=some (.inr ()))
 |0,j,hj,hx=>by
  have e:j=i:=by omega
  subst e
  refine .inl ⟨hx,iter_stop ?_⟩
  unfold f_ref05_Brokers_l1
  simp only
  rw [if_neg (fun q=>absurd (of_decide_eq_true q) (by omega))]
 |d+1,j,hj,hx=>by
  have hlt:j<l.length:=by omega
  by_cases g:l[j]=l[i]
  ·refine .inr ⟨?_,iter_stop ?_⟩
   ·rw [←g]
    exact List.mem_take_iff_getElem.2 ⟨j,by omega,rfl⟩
   ·unfold f_ref05_Brokers_l1
    simp only
    rw [if_pos (decide_eq_true (by omega)),grd_t ⟨by omega,by omega⟩,grd_t ⟨by omega,by omega⟩,rdnA hlt,rdnA hi,if_pos (decide_eq_true g)]
  ·have hstep:f_ref05_Brokers_l1 l (i:Int) (j:Int)=some (.inl ((j+1:Nat):Int)):=by
    unfold f_ref05_Brokers_l1
    simp only
    rw [if_pos (decide_eq_true (by omega)),grd_t ⟨by omega,by omega⟩,grd_t ⟨by omega,by omega⟩,rdnA hlt,rdnA hi,if_neg (fun q=>g (of_decide_eq_true q)),w_i64 (by omega) (by omega)]
    rfl
   rw [iter_next hstep]
   refine rbrok_in l hl i hi d (j+1) (by omega) ?_
   rw [List.take_succ_eq_append_getElem hlt,List.mem_append,List.mem_singleton]
   exact fun q=>q.elim hx fun q=>g q.symm
theorem rbrok_loop (l:List Int) (hl:l.length≤7):∀ (d i:Nat),i+d=l.length→(∀ j (h:j<l.length),j<i→1≤l[j]∧l[j]≤64∧l[j]∉l.take j)→
  (brOk l∧iter (f_ref05_Brokers_l0 l) (i:Int)=some (.inl ()))∨(¬ brOk l∧iter (f_ref05_Brokers_l0 l) (i:Int)=some (.inr ()))
 |0,i,hi,hp=>by
  refine .inl ⟨⟨hl,fun j hj=>hp j hj (by omega)⟩,iter_stop ?_⟩
  unfold f_ref05_Brokers_l0
  simp only
  rw [if_neg (fun q=>absurd (of_decide_eq_true q) (by omega))]
 |d+1,i,hi,hp=>by
  have hlt:i<l.length:=by omega
  have e:f_ref05_Brokers_l0 l (i:Int)=if 1≤l[i]∧l[i]≤64∧l[i]∉l.take i then some (.inl ((i+1:Nat):Int))else some (.inr (.inr ())):=by
   unfold f_ref05_Brokers_l0
   simp only
   rw [if_pos (decide_eq_true (by omega)),grd_t ⟨by omega,by omega⟩,rdnA hlt]
   by_cases g1:l[i]<1
   ·rw [if_pos (decide_eq_true g1),if_neg (show¬ (1≤l[i]∧l[i]≤64∧l[i]∉l.take i) from fun q=>by omega)];rfl
   rw [if_neg (fun q=>g1 (of_decide_eq_true q)),grd_t ⟨by omega,by omega⟩]
   simp only [Option.bind_some]
   by_cases g2:64<l[i]
   ·rw [if_pos (decide_eq_true g2),if_neg (show¬ (1≤l[i]∧l[i]≤64∧l[i]∉l.take i) from fun q=>by omega)];rfl
   rw [if_neg (fun q=>g2 (of_decide_eq_true q))]
   have h:=rbrok_in l hl i hlt i 0 (by omega) (by simp)
   rw [show ((0:Nat):Int)=0 from rfl] at h
   rcases h with⟨h1,h2⟩ |⟨h1,h2⟩
   ·rw [h2,if_pos (show 1≤l[i]∧l[i]≤64∧l[i]∉l.take i from ⟨by omega,by omega,h1⟩),w_i64 (by omega) (by omega)];rfl
   ·rw [h2,if_neg (show¬ (1≤l[i]∧l[i]≤64∧l[i]∉l.take i) from fun q=>q.2.2 h1)];rfl
  by_cases g:1≤l[i]∧l[i]≤64∧l[i]∉l.take i
  ·rw [if_pos g] at e
   rw [iter_next e]
   refine rbrok_loop l hl d (i+1) (by omega) fun j hj hji=> ?_
   by_cases ej:j=i
   ·subst ej;exact g
   ·exact hp j hj (by omega)
  ·rw [if_neg g] at e
   exact .inr ⟨fun q=>g (q.2 i hlt),iter_stop e⟩
theorem brokers_eq (l:List Int):∃ b:Bool,f_record_Brokers l=some b∧f_ref05_Brokers l=some b∧(b=true↔brOk l):=by
 unfold f_record_Brokers f_ref05_Brokers
 by_cases h:7<l.length
 ·rw [if_pos (decide_eq_true (by omega)),if_pos (decide_eq_true (by omega))]
  exact⟨false,rfl,rfl,fun q=>(by cases q),fun q=>absurd q.1 (by omega)⟩
 ·rw [if_neg (fun q=>absurd (of_decide_eq_true q) (by omega)),if_neg (fun q=>absurd (of_decide_eq_true q) (by omega))]
  have h1:=pbrok_loop l (by omega) l.length 0 (by omega) (fun j hj hji=>by omega)
  have h2:=rbrok_loop l (by omega) l.length 0 (by omega) (fun j hj hji=>by omega)
  rw [show ((0:Nat):Int)=0 from rfl] at h1 h2
  rcases h1 with⟨a1,b1⟩ |⟨a1,b1⟩
  ·rcases h2 with⟨a2,b2⟩ |⟨a2,b2⟩
   ·exact⟨true,by rw [b1];rfl,by rw [b2];rfl,fun _=>a1,fun _=>rfl⟩
   ·exact absurd a1 a2
  ·rcases h2 with⟨a2,b2⟩ |⟨a2,b2⟩
   ·exact absurd a2 a1
   ·exact⟨false,by rw [b1];rfl,by rw [b2];rfl,fun q=>(by cases q),fun q=>absurd q a1⟩
theorem bytesOf_ok (s:ByteArray):okB (bytesOf s):=by
 intro x hx
 unfold bytesOf at hx
 obtain ⟨b,_,rfl⟩:=List.mem_map.1 hx
 have:=b.toNat_lt
 omega
theorem str_bytes (s:ByteArray):strOfNums (bytesOf s)=s:=by
 unfold bytesOf strOfNums
 rw [List.map_map]
 have:∀ x∈s.data.toList,((fun n=>UInt8.ofNat n.toNat)∘fun(b:UInt8)=>(b.toNat:Int)) x=x:=by
  intro x _
  show UInt8.ofNat ((x.toNat:Int)).toNat=x
  rw [Int.toNat_natCast]
  simp
 rw [List.map_congr_left this,List.map_id']
theorem bindQ {α β:Type}{x:Option α}{y:α}{f:α→Option β}(h:x=some y):x.bind f=f y:=by rw [h];rfl
def cI (f:Bool) (n:Int):List Int:=if f=true then intB n else[]
def cT (f:Bool) (s:ByteArray):List Int:=if f=true then textB (bytesOf s)else[]
def cK (f:Bool) (k v:ByteArray) (x:Bool):List Int:=if f=true then textB (bytesOf k)++(textB (bytesOf v)++flagB x)else[]
def cR (f:Bool) (l:List Int):List Int:=if f=true then rowB l else[]
theorem flagB_len (x:Bool):(flagB x).length=1:=by cases x<;>rfl
theorem flagB_ok (x:Bool):okB (flagB x):=by cases x<;>(intro y hy;unfold flagB at hy;simp at hy;omega)
theorem textB_len (s:List Int):(textB s).length≤8+s.length:=by unfold textB;rw [List.length_append];have:=(intB_len (s.length:Int)).1;omega
theorem textB_ok {s:List Int}(h:okB s):okB (textB s):=(intB_ok _).append h
theorem intsB_ok:∀ (l:List Int),okB (intsB l)
 |[]=>okB.nil
 |x::l=>by rw [intsB_cons];exact(intB_ok x).append (intsB_ok l)
theorem rowB_ok (l:List Int):okB (rowB l):=(intB_ok _).append (intsB_ok l)
theorem rowB_len (l:List Int):(rowB l).length≤8+8*l.length:=by unfold rowB;rw [List.length_append];have:=(intB_len (l.length:Int)).1;have:=intsB_len l;omega
theorem nxt {b pre x post:List Int}(h:b=pre++(x++post)):b=(pre++x)++post:=by rw [List.append_assoc];exact h
abbrev Rec:=T_api_Record
def aboutR (k:Int):Int:=if k=2 then 1027 else if k=3∨k=4∨k=5∨k=6 then 3 else if k=7 then 132 else if k=8 then 6172 else if k=9 then 14366 else if k=10 then 836 else if k=11 then 4 else if k=12 then 32 else 0
def hasR (k bit:Int):Bool:=decide (andI .i64 (aboutR k) bit≠0)
theorem kindsR (k:Int):(k=2∨k=3∨k=4∨k=5∨k=6∨k=7∨k=8∨k=9∨k=10∨k=11∨k=12)∨(k≠2∧k≠3∧k≠4∧k≠5∧k≠6∧k≠7∧k≠8∧k≠9∧k≠10∧k≠11∧k≠12):=by omega
theorem about_none {k:Int}(h:k≠2∧k≠3∧k≠4∧k≠5∧k≠6∧k≠7∧k≠8∧k≠9∧k≠10∧k≠11∧k≠12):aboutR k=0:=by unfold aboutR;simp [h]
theorem has_runR {k l:Int}{s:ByteArray}{e:Unit⊕Unit}(h:f_ref05_has k l=(((iter (f_ref05_has_l0 l s) (0:Int)).bind (Sum.elim (fun _=>(some (Sum.inl ()))) (fun _=>(((some true)).bind fun r=>some (Sum.inr r))))):Option (Unit⊕Bool)).bind (Sum.elim (fun _=>(some false)) some)) (n:Nat) (hr:runK n (f_ref05_has_l0 l s) 0=some e):f_ref05_has k l=some (match e with | .inl _=>false | .inr _=>true):=by
 rw [h,iter_run n hr]
 cases e<;>rfl
theorem has_none {k:Int}(h:k≠2∧k≠3∧k≠4∧k≠5∧k≠6∧k≠7∧k≠8∧k≠9∧k≠10∧k≠11∧k≠12) (l:Int):f_ref05_has k l=some false:=by
 refine has_runR (s:=⟨#[]⟩) (e:= .inl ()) ?_ 1 rfl
 unfold f_ref05_has
 simp only [decide_eq_false h.1,decide_eq_false h.2.1,decide_eq_false h.2.2.1,decide_eq_false h.2.2.2.1,decide_eq_false h.2.2.2.2.1,decide_eq_false h.2.2.2.2.2.1,decide_eq_false h.2.2.2.2.2.2.1,decide_eq_false h.2.2.2.2.2.2.2.1,decide_eq_false h.2.2.2.2.2.2.2.2.1,decide_eq_false h.2.2.2.2.2.2.2.2.2.1,decide_eq_false h.2.2.2.2.2.2.2.2.2.2,Bool.false_eq_true,if_false,Option.bind_some]
theorem has_eqR (k:Int):f_ref05_has k 98=some (hasR k 1)∧f_ref05_has k 101=some (hasR k 2)∧f_ref05_has k 116=some (hasR k 4)∧f_ref05_has k 112=some (hasR k 8)∧f_ref05_has k 108=some (hasR k 16)∧f_ref05_has k 97=some (hasR k 32)∧f_ref05_has k 102=some (hasR k 64)∧f_ref05_has k 110=some (hasR k 128)∧f_ref05_has k 107=some (hasR k 256)∧f_ref05_has k 118=some (hasR k 512)∧f_ref05_has k 114=some (hasR k 1024)∧f_ref05_has k 105=some (hasR k 2048)∧f_ref05_has k 109=some (hasR k 4096)∧f_ref05_has k 120=some (hasR k 8192):=by
 rcases kindsR k with(rfl |rfl |rfl |rfl |rfl |rfl |rfl |rfl |rfl |rfl |rfl) |h
 case inr=>
  simp only [has_none h,hasR,about_none h]
  decide
 all_goals
  refine⟨?_, ?_, ?_, ?_, ?_, ?_, ?_, ?_, ?_, ?_, ?_, ?_, ?_, ?_⟩
  all_goals first
   |exact(has_runR (e:= .inr ()) rfl 8 rfl).trans (by decide+kernel)
   |exact(has_runR (e:= .inl ()) rfl 8 rfl).trans (by decide+kernel)
def okC (c:Int):Bool:=(decide (97≤c)&&decide (c≤122)) ||(decide (48≤c)&&decide (c≤57)) ||decide (c=46) ||decide (c=45)
def nameV (s:ByteArray):Bool:=decide (1≤s.size)&&decide (s.size≤40)&& !decide (s=⟨#[46]⟩)&& !decide (s=⟨#[46,46]⟩)&&(bytesOf s).all okC
theorem btAt_rd {s:ByteArray}{i:Nat}(h:i<s.size):btAt s (i:Int)=rd (bytesOf s) (i:Int):=by
 have hd:i<s.data.size:=h
 have e1:s[i]?=some s[i]:=getElem?_pos s i h
 have e2:(bytesOf s)[i]?=some ((s.data[i].toNat:Nat):Int):=by
  unfold bytesOf
  rw [List.getElem?_map,Array.getElem?_toList,Array.getElem?_eq_getElem hd]
  rfl
 unfold btAt rd
 rw [Int.toNat_natCast,e1,List.getD_eq_getElem?_getD,e2]
 rfl
theorem name_step {c:Int}:(((if(decide ((97:Int)≤c))=true then(if(decide ((48:Int)≤c))=true then(some (decide (c≤(122:Int)),decide (c≤(57:Int))))else(some (decide (c≤(122:Int)),false)))else(if(decide ((48:Int)≤c))=true then(some (false,decide (c≤(57:Int))))else(some (false,false)))):Option (Bool×Bool)).bind fun(x41,x42)=>(if(!x41)=true then(if(!x42)=true then(if(decide (c≠(46:Int)))=true then(some (decide (c≠(45:Int))))else(some false))else(some false))else(some false)))=some (!okC c):=by
 unfold okC
 simp only [ne_eq,decide_not]
 generalize decide (97≤c)=b1
 generalize decide (c≤122)=b2
 generalize decide (48≤c)=b3
 generalize decide (c≤57)=b4
 generalize decide (c=46)=b5
 generalize decide (c=45)=b6
 cases b1<;>cases b2<;>cases b3<;>cases b4<;>cases b5<;>cases b6<;>rfl
theorem name_step2 {c:Int}:(if(decide ((97:Int)≤c))=true then(if(decide (c≤(122:Int)))=true then(some true)else(if(decide ((48:Int)≤c))=true then(if(decide (c≤(57:Int)))=true then(some true)else(if(decide (c=(46:Int)))=true then(some true)else(some (decide (c=(45:Int))))))else(if(decide (c=(46:Int)))=true then(some true)else(some (decide (c=(45:Int)))))))else(if(decide ((48:Int)≤c))=true then(if(decide (c≤(57:Int)))=true then(some true)else(if(decide (c=(46:Int)))=true then(some true)else(some (decide (c=(45:Int))))))else(if(decide (c=(46:Int)))=true then(some true)else(some (decide (c=(45:Int)))))))=some (okC c):=by
 unfold okC
 generalize decide (97≤c)=b1
 generalize decide (c≤122)=b2
 generalize decide (48≤c)=b3
 generalize decide (c≤57)=b4
 generalize decide (c=46)=b5
 generalize decide (c=45)=b6
 cases b1<;>cases b2<;>cases b3<;>cases b4<;>cases b5<;>cases b6<;>rfl
theorem drop_all {l:List Int}{i:Nat}(h:i<l.length):(l.drop i).all okC=(okC (rd l (i:Int))&&(l.drop (i+1)).all okC):=by
 rw [List.drop_eq_getElem_cons h,List.all_cons,rdnA h]
theorem pname_loop (s:ByteArray) (hs:s.size≤1000000):∀ (d i:Nat),i+d=(bytesOf s).length→iter (f_record_Name_l0 s) (i:Int)=some (if((bytesOf s).drop i).all okC=true then .inl ()else .inr ())
 |0,i,hi=>by
  refine iter_stop ?_
  rw [List.drop_eq_nil_of_le (by omega)]
  unfold f_record_Name_l0
  simp only
  rw [if_neg (fun q=>absurd (of_decide_eq_true q) (by omega))]
  rfl
 |d+1,i,hi=>by
  have hlt:i<(bytesOf s).length:=by omega
  have hsz:=bytesOf_len s
  rw [drop_all hlt]
  have e:f_record_Name_l0 s (i:Int)=if(!okC (rd (bytesOf s) (i:Int)))=true then some (.inr (.inr ()))else some (.inl ((i+1:Nat):Int)):=by
   unfold f_record_Name_l0
   simp only
   rw [if_pos (decide_eq_true (by omega)),grd_t ⟨by omega,by omega⟩,w_i64 (by omega) (by omega)]
   have k:=name_step (c:=rd (bytesOf s) (i:Int))
   generalize rd (bytesOf s) (i:Int)=c at k⊢
   refine Eq.trans ?_ (bindQ (f:=fun(x47:Bool)=>if x47=true then some (Sum.inr (Sum.inr ()))else some (Sum.inl ((i:Int)+1))) k)
   rw [Option.bind_assoc]
  cases g:okC (rd (bytesOf s) (i:Int))
  ·rw [g] at e
   exact iter_stop e
  ·rw [g] at e
   rw [iter_next e]
   exact pname_loop s hs d (i+1) (by omega)
theorem rname_loop (s:ByteArray) (hs:s.size≤1000000):∀ (d i:Nat),i+d=(bytesOf s).length→iter (f_ref05_Name_l0 s) (i:Int)=some (if((bytesOf s).drop i).all okC=true then .inl ()else .inr ())
 |0,i,hi=>by
  have hsz:=bytesOf_len s
  refine iter_stop ?_
  rw [List.drop_eq_nil_of_le (by omega)]
  unfold f_ref05_Name_l0
  simp only
  rw [if_neg (fun q=>absurd (of_decide_eq_true q) (by omega))]
  rfl
 |d+1,i,hi=>by
  have hlt:i<(bytesOf s).length:=by omega
  have hsz:=bytesOf_len s
  rw [drop_all hlt]
  have e:f_ref05_Name_l0 s (i:Int)=if(!okC (rd (bytesOf s) (i:Int)))=true then some (.inr (.inr ()))else some (.inl ((i+1:Nat):Int)):=by
   unfold f_ref05_Name_l0
   simp only
   rw [if_pos (decide_eq_true (by omega)),grd_t ⟨by omega,by omega⟩,w_i64 (by omega) (by omega),btAt_rd (by omega)]
   exact bindQ name_step2
  cases g:okC (rd (bytesOf s) (i:Int))
  ·rw [g] at e
   exact iter_stop e
  ·rw [g] at e
   rw [iter_next e]
   exact rname_loop s hs d (i+1) (by omega)
theorem size0 {s:ByteArray}:decide (s=(⟨#[]⟩:ByteArray))= !decide (1≤s.size):=by
 by_cases h:s=⟨#[]⟩
 ·subst h;rfl
 ·rw [decide_eq_false h]
  have:1≤s.size:=by
   refine Classical.byContradiction fun z=>h ?_
   have h0:s.data.size=0:=by have:s.size=s.data.size:=rfl;omega
   obtain ⟨d⟩:=s
   congr 1
   exact Array.eq_empty_of_size_eq_zero h0
  rw [decide_eq_true this];rfl
theorem name_tail (b1 b2 b3 b4 t:Bool){X:Option (Unit⊕Unit)}(h:b2=true→X=some (if t=true then .inl ()else .inr ())):
  ((((if b1=false then(some true)else(if b2=false then(some true)else(if b3=true then(some true)else(some b4)))):Option Bool).bind fun(x21:Bool)=>(if x21=true then(some false)else(((X.bind (Sum.elim (fun _=>(some (Sum.inl ()))) (fun _=>(((some false)).bind fun r=>some (Sum.inr r))))):Option (Unit⊕Bool)).bind (Sum.elim (fun _=>(some true)) some)))))=some (b1&&b2&& !b3&& !b4&&t):=by
 cases b1
 ·rfl
 cases b2
 ·rfl
 rw [h rfl]
 cases b3
 ·cases b4
  ·cases t<;>rfl
  ·rfl
 ·rfl
theorem pname_eq (s:ByteArray):f_record_Name s=some (nameV s):=by
 have e1:(decide (s=(⟨#[]⟩:ByteArray))=true)=(decide (1≤s.size)=false):=by rw [size0];cases decide (1≤s.size)<;>simp
 have e2:(decide ((40:Int)<(s.size:Int))=true)=(decide (s.size≤40)=false):=by
  rw [decide_eq_true_eq,decide_eq_false_iff_not];exact propext ⟨fun h=>by omega,fun h=>by omega⟩
 unfold f_record_Name nameV
 simp only [e1,e2]
 refine name_tail _ _ _ _ _ fun h=> ?_
 have h:=of_decide_eq_true h
 have k:=pname_loop s (by omega) (bytesOf s).length 0 (by omega)
 rw [List.drop_zero] at k
 exact k
theorem rname_eq (s:ByteArray):f_ref05_Name s=some (nameV s):=by
 have e1:(decide ((s.size:Int)<1)=true)=(decide (1≤s.size)=false):=by
  rw [decide_eq_true_eq,decide_eq_false_iff_not];exact propext ⟨fun h=>by omega,fun h=>by omega⟩
 have e2:(decide ((40:Int)<(s.size:Int))=true)=(decide (s.size≤40)=false):=by
  rw [decide_eq_true_eq,decide_eq_false_iff_not];exact propext ⟨fun h=>by omega,fun h=>by omega⟩
 unfold f_ref05_Name nameV
 simp only [e1,e2]
 refine name_tail _ _ _ _ _ fun h=> ?_
 have h:=of_decide_eq_true h
 have k:=rname_loop s (by omega) (bytesOf s).length 0 (by omega)
 rw [List.drop_zero] at k
 exact k
theorem nameV_size {s:ByteArray}(h:nameV s=true):1≤s.size∧s.size≤40:=by
 unfold nameV at h
 simp only [Bool.and_eq_true,decide_eq_true_eq] at h
 exact⟨h.1.1.1.1,h.1.1.1.2⟩
def numW (n:Int) (has:Bool) (least most:Int):Bool:=if has=true then decide (least≤n∧n≤most)else decide (n=0)
theorem num_if (n least most:Int):(if(decide (least≤n))=true then(some (decide (n≤most)))else(some false))=some (decide (least≤n∧n≤most)):=by
 by_cases h:least≤n<;>simp [h]
theorem rnumR (n:Int) (h:Bool) (a c:Int):f_ref05_num n h a c=some (numW n h a c):=by
 unfold f_ref05_num numW
 rw [num_if]
 cases h<;>rfl
def textN (s:ByteArray) (has:Bool):Bool:=if has=true then nameV s else decide (s=⟨#[]⟩)
def textW (s:ByteArray) (has:Bool):Bool:=if has=true then decide ((s.size:Int)≤256)else decide (s=⟨#[]⟩)
theorem rtextN (s:ByteArray) (h:Bool):f_ref05_name s h=some (textN s h):=by
 unfold f_ref05_name textN
 rw [rname_eq]
 cases h<;>rfl
open Classical in
noncomputable def brB (l:List Int):Bool:=decide (brOk l)
theorem brB_t {l:List Int}:brB l=true↔brOk l:=by unfold brB;simp
theorem brB_eq (l:List Int):f_record_Brokers l=some (brB l)∧f_ref05_Brokers l=some (brB l):=by
 obtain ⟨b,h1,h2,h3⟩:=brokers_eq l
 have:b=brB l:=by rw [Bool.eq_iff_iff,h3,brB_t]
 rw [←this]
 exact⟨h1,h2⟩
theorem brB_f {l:List Int}(h:¬ brOk l):brB l=false:=by
 cases hb:brB l
 ·rfl
 ·exact absurd (brB_t.1 hb) h
theorem pbrB (l:List Int):f_record_Brokers l=some (brB l):=by
 unfold f_record_Brokers
 by_cases h:7<l.length
 ·rw [if_pos (decide_eq_true (by omega))]
  rw [brB_f (fun q=>absurd q.1 (by omega))]
 ·rw [if_neg (fun q=>absurd (of_decide_eq_true q) (by omega))]
  have h1:=pbrok_loop l (by omega) l.length 0 (by omega) (fun j hj hji=>by omega)
  rw [show ((0:Nat):Int)=0 from rfl] at h1
  rcases h1 with⟨a1,b1⟩ |⟨a1,b1⟩
  ·rw [b1,brB_t.2 a1];rfl
  ·rw [b1,brB_f a1];rfl
noncomputable def rowV (l:List Int) (has:Bool):Bool:=if has=true then brB l else decide ((l.length:Int)=0)
theorem rrowR (l:List Int) (h:Bool):f_ref05_row l h=some (rowV l h):=by
 unfold f_ref05_row rowV
 rw [(brB_eq l).2]
 cases h<;>rfl
def leastR (k:Int):Int:=if k=10 then 0 else 1
theorem rleast (k:Int):(((if(decide (k=(10:Int)))=true then(some (0:Int))else(some (1:Int))):Option Int))=some (leastR k):=by
 unfold leastR
 by_cases h:k=10<;>simp [h]
theorem nz1:(1:Int)≠0:=by decide
theorem nz2:(2:Int)≠0:=by decide
theorem nz5:(5:Int)≠0:=by decide
theorem nz6:(6:Int)≠0:=by decide
theorem nz18:(18:Int)≠0:=by decide
structure okRec (r:Rec):Prop where
 kind:1≤r.Kind∧r.Kind≤12
 broker:numW r.Broker (hasR r.Kind 1) 1 64=true
 epoch:numW r.Epoch (hasR r.Kind 2) 0 1073741824=true
 topic:numW r.Topic (hasR r.Kind 4) (leastR r.Kind) 1073741824=true
 part:numW r.Part (hasR r.Kind 8) 0 255=true
 leader:numW r.Leader (hasR r.Kind 16) 0 64=true
 client:numW r.Client (hasR r.Kind 32) 1 1073741824=true
 serial:numW r.Serial (hasR r.Kind 32) 1 1073741824=true
 code:numW r.Code (hasR r.Kind 32) 0 21=true
 flag:hasR r.Kind 64=false→r.Flag=false
 name:textN r.Name (hasR r.Kind 128)=true
 key:textN r.Key (hasR r.Kind 256)=true
 rack:textN r.Rack (hasR r.Kind 1024)=true
 value:textW r.Value (hasR r.Kind 512)=true
 ids:rowV r.Ids (hasR r.Kind 2048)=true
 isr:rowV r.Isr (hasR r.Kind 4096)=true
 add:rowV r.Add (hasR r.Kind 8192)=true
 drop:rowV r.Drop (hasR r.Kind 8192)=true
theorem numW_t {n:Int}{h:Bool}{a m:Int}(k:numW n h a m=true):(h=true→a≤n∧n≤m)∧(h=false→n=0):=by
 unfold numW at k
 cases h
 ·exact⟨fun q=>(by cases q),fun _=>of_decide_eq_true (by simpa using k)⟩
 ·exact⟨fun _=>of_decide_eq_true (by simpa using k),fun q=>(by cases q)⟩
theorem numW_b {n:Int}{h:Bool}{a m:Int}(k:numW n h a m=true) (ha:0≤a) (hm:0≤m):0≤n∧n≤m:=by
 have:=numW_t k
 cases h
 ·have:=this.2 rfl;omega
 ·have:=this.1 rfl;omega
theorem textW_t {s:ByteArray}{h:Bool}(k:textW s h=true):(h=true→s.size≤256)∧(h=false→s=⟨#[]⟩):=by
 unfold textW at k
 cases h
 ·exact⟨fun q=>(by cases q),fun _=>of_decide_eq_true (by simpa using k)⟩
 ·exact⟨fun _=>by have:=of_decide_eq_true (p:=(s.size:Int)≤256) (by simpa using k);omega,fun q=>(by cases q)⟩
theorem rowV_t {l:List Int}{h:Bool}(k:rowV l h=true):brOk l∧(h=false→l=[]):=by
 unfold rowV at k
 cases h
 ·have:(l.length:Int)=0:=of_decide_eq_true (by simpa using k)
  have:l=[]:=List.eq_nil_of_length_eq_zero (by omega)
  subst this
  exact⟨⟨by simp,fun i h=>by simp at h⟩,fun _=>rfl⟩
 ·exact⟨brB_t.1 (by simpa using k),fun q=>(by cases q)⟩
theorem brOk_le {l:List Int}(h:brOk l):∀ x∈l,1≤x∧x≤64:=by
 intro x hx
 obtain ⟨i,hi,rfl⟩:=List.getElem_of_mem hx
 exact⟨(h.2 i hi).1,(h.2 i hi).2.1⟩
def cF (f:Bool) (x:Bool):List Int:=if f=true then flagB x else[]
def firstE {ε:Type}(g:Nat→Option ε):Nat→Nat→Option ε
 |0,_=>none
 |d+1,i=>match g i with |some e=>some e |none=>firstE g d (i+1)
theorem firstE_none {ε:Type}{g:Nat→Option ε}:∀ {d i:Nat},firstE g d i=none↔∀ j,i≤j→j<i+d→g j=none
 |0,i=>by simp [firstE];intro j h1 h2;omega
 |d+1,i=>by
  unfold firstE
  cases h:g i with
  |some e=>simp only [reduceCtorEq,false_iff];intro k;have:=k i (by omega) (by omega);rw [h] at this;cases this
  |none=>
   simp only
   rw [firstE_none]
   constructor
   ·intro k j h1 h2
    by_cases e:j=i
    ·subst e;exact h
    ·exact k j (by omega) (by omega)
   ·intro k j h1 h2;exact k j (by omega) (by omega)
theorem firstE_none0 {ε:Type}{g:Nat→Option ε}{n:Nat}:firstE g n 0=none↔∀ j,j<n→g j=none:=
 firstE_none.trans ⟨fun h j hj=>h j (by omega) (by omega),fun h j _ hj=>h j (by omega)⟩
theorem firstE_some {ε:Type}{g:Nat→Option ε}{e:ε}:∀ {d i:Nat},firstE g d i=some e→∃ j,i≤j∧j<i+d∧g j=some e∧∀ k,i≤k→k<j→g k=none
 |0,i,h=>by cases h
 |d+1,i,h=>by
  unfold firstE at h
  cases hg:g i with
  |some x=>rw [hg] at h;cases h;exact⟨i,by omega,by omega,hg,fun k h1 h2=>by omega⟩
  |none=>
   rw [hg] at h
   obtain ⟨j,h1,h2,h3,h4⟩:=firstE_some (d:=d) (i:=i+1) h
   exact⟨j,by omega,by omega,h3,fun k k1 k2=>by
    by_cases e:k=i
    ·subst e;exact hg
    ·exact h4 k (by omega) k2⟩
theorem firstE_list {α ε:Type}[Inhabited α] (l:List α) (h:α→Option ε):∀ (d i:Nat),i+d=l.length→firstE (fun j=>h (rd l (j:Int))) d i=(l.drop i).findSome? h
 |0,i,hi=>by rw [List.drop_of_length_le (by omega)];rfl
 |d+1,i,hi=>by
  have hlt:i<l.length:=by omega
  unfold firstE
  rw [List.drop_eq_getElem_cons hlt,List.findSome?_cons]
  simp only [len_lt hlt]
  cases h l[i]with
  |some e=>rfl
  |none=>exact firstE_list l h d (i+1) (by omega)
theorem firstE_list0 {α ε:Type}[Inhabited α] (l:List α) (h:α→Option ε):firstE (fun j=>h (rd l (j:Int))) l.length 0=l.findSome? h:=firstE_list l h l.length 0 (by omega)
theorem findSome_find {α ε:Type}(l:List α) (p:α→Bool) (f:α→ε):l.findSome? (fun x=>if p x=true then some (f x)else none)=(l.find? p).map f:=by
 induction l with
 |nil=>rfl
 |cons x l ih=>
  rw [List.findSome?_cons,List.find?_cons]
  cases p x
  ·simpa using ih
  ·simp
def pickE {ε E:Type}(fin:E) (ex:ε→E):Option ε→E
 |none=>fin
 |some e=>ex e
theorem first_loop {S ε E : Type} {step : S → Option (S ⊕ E)} {n : Nat} {st : Nat → S} {g : Nat → Option ε} {ex : ε → E} {fin : E}
    (hstep : ∀ i, i < n → (∀ j, j < i → g j = none) → step (st i) = some (match g i with | none => .inl (st (i + 1)) | some e => .inr (ex e)))
    (hend : (∀ j, j < n → g j = none) → step (st n) = some (.inr fin)) :
    iter step (st 0) = some (pickE fin ex (firstE g n 0)) := by
  have key : ∀ d i, i + d = n → (∀ j, j < i → g j = none) → iter step (st i) = some (pickE fin ex (firstE g d i)) := by
    intro d
    induction d with
    | zero => intro i hi h; have : i = n := by omega
              subst this; exact iter_stop (hend h)
    | succ d ih =>
      intro i hi h
      have hs := hstep i (by omega) h
      unfold firstE
      cases hg : g i with
      | some e => rw [hg] at hs; exact iter_stop hs
      | none =>
        rw [hg] at hs
        rw [iter_next hs]
        exact ih (i + 1) (by omega) fun j hj => by
          by_cases e : j = i
          · subst e; exact hg
          · exact h j (by omega)
  exact key n 0 (by omega) (fun j hj => by omega)
def foldN {σ:Type}(f:Nat→σ→σ):Nat→Nat→σ→σ
 |0,_,a=>a
 |d+1,i,a=>foldN f d (i+1) (f i a)
theorem fold_loop {S σ E : Type} {step : S → Option (S ⊕ E)} {n : Nat} {mk : σ → Nat → S} {f : Nat → σ → σ} {fin : σ → E} (Inv : Nat → σ → Prop) {a0 : σ} (h0 : Inv 0 a0)
    (hstep : ∀ i a, i < n → Inv i a → step (mk a i) = some (.inl (mk (f i a) (i + 1))) ∧ Inv (i + 1) (f i a))
    (hend : ∀ a, Inv n a → step (mk a n) = some (.inr (fin a))) : iter step (mk a0 0) = some (fin (foldN f n 0 a0)) := by
  have key : ∀ d i a, i + d = n → Inv i a → iter step (mk a i) = some (fin (foldN f d i a)) := by
    intro d
    induction d with
    | zero => intro i a hi h; have : i = n := by omega
              subst this; exact iter_stop (hend a h)
    | succ d ih =>
      intro i a hi h
      obtain ⟨h1, h2⟩ := hstep i a (by omega) h
      rw [iter_next h1]
      exact ih (i + 1) _ (by omega) h2
  exact key n 0 a0 (by omega) h0
theorem foldN_list {α σ:Type}[Inhabited α] (l:List α) (h:σ→α→σ):∀ (d i:Nat) (a:σ),i+d=l.length→foldN (fun j a=>h a (rd l (j:Int))) d i a=(l.drop i).foldl h a
 |0,i,a,hi=>by rw [List.drop_of_length_le (by omega)];rfl
 |d+1,i,a,hi=>by
  have hlt:i<l.length:=by omega
  unfold foldN
  rw [List.drop_eq_getElem_cons hlt,List.foldl_cons,len_lt hlt]
  exact foldN_list l h d (i+1) _ (by omega)
theorem foldN_list0 {α σ:Type}[Inhabited α] (l:List α) (h:σ→α→σ) (a:σ):foldN (fun j a=>h a (rd l (j:Int))) l.length 0 a=l.foldl h a:=foldN_list l h l.length 0 a (by omega)
theorem succ_i64 {i n:Nat}(hi:i<n) (hn:n≤1000000000):IntKind.i64.wrap ((i:Int)+1)=((i+1:Nat):Int):=by
 rw [w_i64 (by omega) (by omega)];rfl
theorem lt_i {i n:Nat}(h:i<n):decide ((i:Int)<(n:Int))=true:=decide_eq_true (by omega)
theorem lt_n (n:Nat):decide ((n:Int)<(n:Int))=false:=decide_eq_false (by omega)
theorem in_i {i n:Nat}(h:i<n):0≤(i:Int)∧(i:Int)<(n:Int):=⟨by omega,by omega⟩
def cntM {α:Type}[DecidableEq α] (m:List (α×Int)) (x:α):List (α×Int):=mpPut m x (IntKind.i64.wrap (mpGet m x+1))
def countM {α:Type}[DecidableEq α] (l:List α):List (α×Int):=l.foldl cntM []
def cnt {α:Type}[DecidableEq α] (l:List α) (q:α):Nat:=(l.filter fun x=>decide (x=q)).length
def inL {α:Type}[DecidableEq α] (l:List α) (q:α):Bool:=l.any fun x=>decide (x=q)
theorem inL_iff {α:Type}[DecidableEq α]{l:List α}{q:α}:inL l q=true↔q∈l:=by
 unfold inL
 rw [List.any_eq_true]
 constructor
 ·rintro ⟨x,hx,e⟩;rw [←of_decide_eq_true e];exact hx
 ·intro h;exact⟨q,h,decide_eq_true rfl⟩
theorem cnt_pos {α:Type}[DecidableEq α]{l:List α}{q:α}:0<cnt l q↔q∈l:=by
 unfold cnt
 rw [List.length_pos_iff_exists_mem]
 constructor
 ·rintro ⟨x,hx⟩;obtain ⟨h1,h2⟩:=List.mem_filter.1 hx;rw [←of_decide_eq_true h2];exact h1
 ·intro h;exact⟨q,List.mem_filter.2 ⟨h,decide_eq_true rfl⟩⟩
theorem cnt_append {α:Type}[DecidableEq α] (l m:List α) (q:α):cnt (l++m) q=cnt l q+cnt m q:=by unfold cnt;simp
theorem cnt_one {α:Type}[DecidableEq α] (q:α):cnt [q] q=1:=by unfold cnt;simp
theorem count_get {α:Type}[DecidableEq α]:∀ (l:List α) (m:List (α×Int)) (k:Nat) (q:α),(∀ x,0≤mpGet m x∧mpGet m x≤(k:Int))→k+l.length≤1000000000→
  mpGet (l.foldl cntM m) q=mpGet m q+(cnt l q:Int)
 |[],m,k,q,_,_=>by simp [cnt]
 |x::l,m,k,q,h,hk=>by
  simp only [List.length_cons] at hk
  have hx:=h x
  have hw:IntKind.i64.wrap (mpGet m x+1)=mpGet m x+1:=w_i64 (by omega) (by omega)
  rw [List.foldl_cons,count_get l (cntM m x) (k+1) q _ (by omega)]
  ·unfold cntM cnt
   rw [mpGet_put,hw,List.filter_cons]
   by_cases e:q=x
   ·subst e;simp;omega
   ·have:¬ x=q:=Ne.symm e
    simp [e,this]
  ·intro y
   unfold cntM
   rw [mpGet_put,hw]
   have:=h y
   split<;>omega
theorem count0 {α:Type}[DecidableEq α] (l:List α) (q:α) (hl:l.length≤1000000000):mpGet (countM l) q=(cnt l q:Int):=by
 unfold countM
 rw [count_get l [] 0 q (fun x=>by simp [mpGet]) (by omega)]
 simp [mpGet]
abbrev Img:=T_api_Image
abbrev Bk:=T_api_Broker
abbrev Tp:=T_api_Topic
abbrev Pt:=T_api_Part
abbrev Cf:=T_api_Config
abbrev Dn:=T_api_Done
theorem nat0:((0:Nat):Int)=0:=rfl
noncomputable def idxV {α:Type}[Inhabited α] (l:List α) (p:α→Bool):Int:=
 match firstE (fun i=>if p (rd l (i:Int))=true then some (i:Int)else none) l.length 0 with
 |none=> -1
 |some e=>e
theorem idx_any {α:Type}[Inhabited α] (l:List α) (p:α→Bool):decide (0≤idxV l p)=l.any p:=by
 unfold idxV
 cases h:firstE (fun i=>if p (rd l (i:Int))=true then some (i:Int)else none) l.length 0 with
 |none=>
  have:=firstE_none0.1 h
  have:l.any p=false:=by
   rw [List.any_eq_false]
   intro x hx
   obtain ⟨i,hi,rfl⟩:=List.getElem_of_mem hx
   have:=this i hi
   rw [len_lt hi] at this
   intro q;rw [if_pos q] at this;cases this
  rw [this];rfl
 |some e=>
  obtain ⟨j,_,hj,h3,_⟩:=firstE_some h
  rw [len_lt (by omega)] at h3
  by_cases q:p l[j]=true
  ·rw [if_pos q] at h3
   cases h3
   have:l.any p=true:=List.any_eq_true.2 ⟨_,List.getElem_mem _,q⟩
   rw [this];exact decide_eq_true (Int.natCast_nonneg j)
  ·rw [if_neg q] at h3;cases h3
theorem idx_loop {α:Type}[Inhabited α]{l:List α}{p:α→Bool}{step:Int→Option (Int⊕(Unit⊕Int))}
  (hs:∀ i:Nat,(hi:i<l.length)→step (i:Int)=some (if p l[i]=true then .inr (.inr (i:Int))else .inl ((i+1:Nat):Int))) (he:step (l.length:Int)=some (.inr (.inl ()))):
  (((iter step 0).bind (Sum.elim (fun _=>(some (Sum.inl ()))) (fun(x24:Int)=>(((some x24)).bind fun r=>some (Sum.inr r))))):Option (Unit⊕Int)).bind (Sum.elim (fun _=>(some (-1:Int))) some)=some (idxV l p):=by
 have:=first_loop (step:=step) (n:=l.length) (st:=fun i=>(i:Int)) (g:=fun i=>if p (rd l (i:Int))=true then some (i:Int)else none) (ex:=fun e=> .inr e) (fin:= .inl ())
  (fun i hi _=>by
   rw [hs i hi,len_lt hi]
   cases p l[i]<;>rfl) (fun _=>he)
 rw [nat0] at this
 rw [this]
 unfold idxV
 cases firstE (fun i=>if p (rd l (i:Int))=true then some (i:Int)else none) l.length 0<;>rfl
def leadsV (m:Img) (id:Int):Bool:=m.Topics.any fun t=>t.Parts.any fun p=>decide (p.Leader=id)
theorem leadsP (l:List Pt) (id:Int) (hl:l.length≤1000000000):f_slices_ContainsFunc_api_Part_Leads_1_1 l id=some (l.any fun p=>decide (p.Leader=id)):=by
 unfold f_slices_ContainsFunc_api_Part_Leads_1_1 f_slices_IndexFunc_api_Part_Leads_1_1
 rw [idx_loop (l:=l) (p:=fun p=>decide (p.Leader=id))]
 ·rw [←idx_any];rfl
 ·intro i hi
  unfold f_slices_IndexFunc_api_Part_Leads_1_1_l0 f_image_Leads_1_1
  simp only [lt_i hi,if_true,grd_t (in_i hi),len_lt hi,Option.bind_some,succ_i64 hi hl]
  by_cases h:l[i].Leader=id
  ·simp [h]
  ·simp [h]
 ·unfold f_slices_IndexFunc_api_Part_Leads_1_1_l0
  simp [lt_n]
theorem leadsT (l:List Tp) (id:Int) (hl:l.length≤1000000000) (hp:∀ t∈l,t.Parts.length≤1000000000):f_slices_ContainsFunc_api_Topic_Leads_1 l id=some (l.any fun t=>t.Parts.any fun p=>decide (p.Leader=id)):=by
 unfold f_slices_ContainsFunc_api_Topic_Leads_1 f_slices_IndexFunc_api_Topic_Leads_1
 rw [idx_loop (l:=l) (p:=fun t=>t.Parts.any fun p=>decide (p.Leader=id))]
 ·rw [←idx_any];rfl
 ·intro i hi
  unfold f_slices_IndexFunc_api_Topic_Leads_1_l0 f_image_Leads_1
  simp only [lt_i hi,if_true,grd_t (in_i hi),len_lt hi,leadsP _ _ (hp _ (List.getElem_mem hi)),Option.bind_some,succ_i64 hi hl]
  cases (l[i].Parts.any fun p=>decide (p.Leader=id))<;>rfl
 ·unfold f_slices_IndexFunc_api_Topic_Leads_1_l0
  simp [lt_n]
theorem leads_eq (m:Img) (id:Int) (hl:m.Topics.length≤1000000000) (hp:∀ t∈m.Topics,t.Parts.length≤1000000000):f_image_Leads m id=some (leadsV m id):=by
 unfold f_image_Leads
 rw [leadsT _ _ hl hp];rfl
theorem half_eq {i j:Nat}(h:i+j≤4000000000):IntKind.i64.wrap (shrI .u64 (IntKind.u64.wrap (IntKind.i64.wrap ((i:Int)+(j:Int)))) (1:Int))=(((i+j)/2:Nat):Int):=by
 rw [show IntKind.i64.wrap ((i:Int)+(j:Int))=(i:Int)+(j:Int) from w_i64 (by omega) (by omega),show IntKind.u64.wrap ((i:Int)+(j:Int))=(i:Int)+(j:Int) from w_u64 (by omega) (by omega)]
 unfold shrI
 rw [show min ((1:Int).toNat) IntKind.u64.bits=1 by decide,Int.fdiv_eq_ediv_of_nonneg _ (by decide)]
 rw [w_i64 (by omega) (by omega)]
 omega
theorem bin_loop {α:Type}{l:List α}{key:α→Int}{t:Int}{step:Int×Int→Option ((Int×Int)⊕Int)}
  (hb:∀ x∈l,0≤key x∧key x≤1073741824) (hso:∀ a b,(ha:a<l.length)→(hb:b<l.length)→a<b→key l[a]<key l[b])
  (hs:∀ i j:Nat,(h1:i<j)→(h2:j≤l.length)→step ((i:Int),(j:Int))=some (.inl (if IntKind.i64.wrap (key (l[(i+j)/2]'(by omega))- t)<0 then((((i+j)/2+1:Nat):Int),(j:Int))else((i:Int),(((i+j)/2:Nat):Int)))))
  (he:∀ i:Nat,step ((i:Int),(i:Int))=some (.inr (i:Int))):
  ∃ r:Nat,r≤l.length∧iter step ((0:Int),(l.length:Int))=some (r:Int)∧∀ k,(hk:k<l.length)→key l[k]=t→r=k:=by
 have main:∀ (d i j:Nat),j - i≤d→i≤j→j≤l.length→∃ r:Nat,r≤l.length∧iter step ((i:Int),(j:Int))=some (r:Int)∧∀ k,(hk:k<l.length)→key l[k]=t→i≤k→k≤j→r=k:=by
  intro d
  induction d with
  |zero=>
   intro i j h1 h2 h3
   have:i=j:=by omega
   subst this
   exact⟨i,h3,iter_stop (he i),fun k _ _ _ _=>by omega⟩
  |succ d ih=>
   intro i j h1 h2 h3
   by_cases e:i=j
   ·subst e;exact⟨i,h3,iter_stop (he i),fun k _ _ _ _=>by omega⟩
   have hlt:i<j:=by omega
   have hst:=hs i j hlt h3
   have hm:(i+j)/2<l.length:=by omega
   have hkey:∀ k,(hk:k<l.length)→key l[k]=t→(IntKind.i64.wrap (key l[(i+j)/2]- t)<0↔(i+j)/2<k):=by
    intro k hk hkt
    have b1:=hb _ (List.getElem_mem hm)
    have b2:=hb _ (List.getElem_mem hk)
    rw [w_i64 (by omega) (by omega)]
    rcases Nat.lt_trichotomy ((i+j)/2) k with q |q |q
    ·have:=hso _ _ hm hk q;constructor<;>intro<;>omega
    ·subst q;constructor<;>intro<;>omega
    ·have:=hso _ _ hk hm q;constructor<;>intro<;>omega
   by_cases g:IntKind.i64.wrap (key l[(i+j)/2]- t)<0
   ·rw [if_pos g] at hst
    obtain ⟨r,h4,h5,h6⟩:=ih ((i+j)/2+1) j (by omega) (by omega) h3
    exact⟨r,h4,(iter_next hst).trans h5,fun k hk hkt h7 h8=>h6 k hk hkt (by have:=(hkey k hk hkt).1 g;omega) h8⟩
   ·rw [if_neg g] at hst
    obtain ⟨r,h4,h5,h6⟩:=ih i ((i+j)/2) (by omega) (by omega) (by omega)
    exact⟨r,h4,(iter_next hst).trans h5,fun k hk hkt h7 h8=>h6 k hk hkt h7 (by
     rcases Nat.lt_or_ge ((i+j)/2) k with q |q
     ·exact absurd ((hkey k hk hkt).2 q) g
     ·exact q)⟩
 obtain ⟨r,h1,h2,h3⟩:=main l.length 0 l.length (by omega) (by omega) (Nat.le_refl _)
 exact⟨r,h1,h2,fun k hk hkt=>h3 k hk hkt (by omega) (by omega)⟩
def i64 (t:Int):Prop:=-9223372036854775808≤t∧t≤9223372036854775807
theorem wrap_zero {a t:Int}(ha:0≤a∧a≤1073741824) (ht:i64 t):IntKind.i64.wrap (a - t)=0↔a=t:=by
 unfold i64 at ht
 by_cases h:a - t≤9223372036854775807
 ·rw [w_i64 (by omega) h];omega
 ·constructor
  ·intro q
   exfalso
   have e:IntKind.i64.wrap (a - t)=a - t - 18446744073709551616:=by
    simp only [IntKind.wrap,IntKind.signed,IntKind.bits];simp;omega
   omega
  ·intro q;omega
structure SortK {α:Type}(key:α→Int) (l:List α):Prop where
 bound:∀ x∈l,0≤key x∧key x≤1073741824
 sort:l.Pairwise (fun a b=>key a<key b)
theorem SortK.at {α:Type}{key:α→Int}{l:List α}(h:SortK key l):∀ a b,(ha:a<l.length)→(hb:b<l.length)→a<b→key l[a]<key l[b]:=
 fun a b ha hb hab=>List.pairwise_iff_getElem.1 h.sort a b ha hb hab
def findK {α:Type}(key:α→Int) (l:List α) (t:Int):Option α:=l.find? fun x=>decide (key x=t)
theorem findK_at {α:Type}{key:α→Int}{l:List α}(h:SortK key l){t:Int}{k:Nat}(hk:k<l.length) (hkt:key l[k]=t):findK key l t=some l[k]:=by
 unfold findK
 cases e:l.find? fun x=>decide (key x=t)with
 |none=>exact absurd hkt (by simpa using List.find?_eq_none.1 e _ (List.getElem_mem hk))
 |some x=>
  have h1:key x=t:=by simpa using List.find?_some e
  obtain ⟨j,hj,rfl⟩:=List.getElem_of_mem (List.mem_of_find?_eq_some e)
  rcases Nat.lt_trichotomy j k with q |q |q
  ·have:=h.at _ _ hj hk q;omega
  ·subst q;rfl
  ·have:=h.at _ _ hk hj q;omega
theorem findK_no {α:Type}{key:α→Int}{l:List α}{t:Int}(h:∀ k,(hk:k<l.length)→key l[k]≠t):findK key l t=none:=by
 unfold findK
 rw [List.find?_eq_none]
 intro x hx
 obtain ⟨j,hj,rfl⟩:=List.getElem_of_mem hx
 simpa using h j hj
theorem search_eq {α:Type}[Inhabited α]{key:α→Int}{l:List α}(h:SortK key l) (hl:l.length≤1000000000){t:Int}(ht:i64 t){step:Int×Int→Option ((Int×Int)⊕Int)}{c:α→Int→Option Int}(hc:∀ x,c x t=some (IntKind.i64.wrap (key x - t)))
  (hs:∀ i j:Nat,(h1:i<j)→(h2:j≤l.length)→step ((i:Int),(j:Int))=some (.inl (if IntKind.i64.wrap (key (l[(i+j)/2]'(by omega))- t)<0 then((((i+j)/2+1:Nat):Int),(j:Int))else((i:Int),(((i+j)/2:Nat):Int)))))
  (he:∀ i:Nat,step ((i:Int),(i:Int))=some (.inr (i:Int))):
  ∃ r:Nat,((((iter step ((0:Int),(l.length:Int))).bind (fun(x26:Int)=>(some x26))):Option Int).bind fun x21=>(((if(decide (x21<(l.length:Int)))=true then(grd (0≤x21∧x21<l.length) ((c (rd l x21) t).bind fun r52=>(some (x21,decide (r52=(0:Int))))))else(some (x21,false))):Option (Int×Bool)).bind fun(x41,x42)=>(some (x41,x42))))=some ((r:Int),(findK key l t).isSome)∧
   ∀ x,findK key l t=some x→∃ hr:r<l.length,l[r]=x:=by
 obtain ⟨r,h1,h2,h3⟩:=bin_loop (l:=l) (key:=key) (t:=t) h.bound h.at hs he
 refine⟨r, ?_, ?_⟩
 ·rw [h2]
  simp only [Option.bind_some]
  by_cases hr:r<l.length
  ·rw [lt_i hr,if_pos rfl,grd_t (in_i hr),len_lt hr,hc]
   simp only [Option.bind_some]
   by_cases e:key l[r]=t
   ·rw [findK_at h hr e,decide_eq_true ((wrap_zero (h.bound _ (List.getElem_mem hr)) ht).2 e)];rfl
   ·have:findK key l t=none:=findK_no fun k hk hkt=>e (by have:=h3 k hk hkt;subst this;exact hkt)
    rw [this,decide_eq_false (fun q=>e ((wrap_zero (h.bound _ (List.getElem_mem hr)) ht).1 q))];rfl
  ·have:findK key l t=none:=findK_no fun k hk hkt=>hr (by have:=h3 k hk hkt;omega)
   rw [this,decide_eq_false (by omega)];rfl
 ·intro x hx
  unfold findK at hx
  have e1:key x=t:=by simpa using List.find?_some hx
  obtain ⟨j,hj,rfl⟩:=List.getElem_of_mem (List.mem_of_find?_eq_some hx)
  have:=h3 j hj e1
  subst this
  exact⟨hj,rfl⟩
abbrev bz:Bk:=⟨0,0,⟨#[]⟩,false,false⟩
abbrev tz:Tp:=⟨0,⟨#[]⟩,[]⟩
abbrev bkId (b:Bk):Int:=b.Id
abbrev tpId (t:Tp):Int:=t.Id
def getV {α:Type}(z:α):Option α→α×Bool
 |some x=>(x,true)
 |none=>(z,false)
theorem broker_eq {m:Img}(h:SortK bkId m.Brokers) (hl:m.Brokers.length≤1000000000){t:Int}(ht:i64 t):f_image_Broker m t=some (getV bz (findK bkId m.Brokers t)):=by
 unfold f_image_Broker f_image_broker f_image_find_api_Broker_broker_1 f_slices_BinarySearchFunc_api_Broker_int_find_api_Broker_1_broker_1
 obtain ⟨r,h1,h2⟩:=search_eq (step:=f_slices_BinarySearchFunc_api_Broker_int_find_api_Broker_1_broker_1_l0 m.Brokers t) (c:=f_image_find_api_Broker_1_broker_1) h hl ht (fun x=>rfl)
  (fun i j h1 h2=>by
   unfold f_slices_BinarySearchFunc_api_Broker_int_find_api_Broker_1_broker_1_l0
   have hm:(i+j)/2<m.Brokers.length:=by omega
   simp only [half_eq (i:=i) (j:=j) (by omega)]
   rw [if_pos (decide_eq_true (by omega)),grd_t (in_i hm),len_lt hm,succ_i64 hm hl]
   show (if decide (IntKind.i64.wrap (m.Brokers[(i+j)/2].Id - t)<0)=true then _ else _)=_
   by_cases g:IntKind.i64.wrap (m.Brokers[(i+j)/2].Id - t)<0
   ·rw [if_pos (decide_eq_true g),if_pos g]
   ·rw [if_neg (fun q=>g (of_decide_eq_true q)),if_neg g])
  (fun i=>by unfold f_slices_BinarySearchFunc_api_Broker_int_find_api_Broker_1_broker_1_l0;simp)
 rw [h1]
 simp only [Option.bind_some]
 cases e:findK bkId m.Brokers t with
 |none=>rfl
 |some x=>
  obtain ⟨hr,hx⟩:=h2 x e
  simp only [Option.isSome_some,Bool.not_true,Bool.false_eq_true,if_false]
  rw [grd_t (in_i hr),len_lt hr,hx];rfl
theorem topic_eq {m:Img}(h:SortK tpId m.Topics) (hl:m.Topics.length≤1000000000){t:Int}(ht:i64 t):f_image_Topic m t=some (getV tz (findK tpId m.Topics t)):=by
 unfold f_image_Topic f_image_topic f_image_find_api_Topic_topic_1 f_slices_BinarySearchFunc_api_Topic_int_find_api_Topic_1_topic_1
 obtain ⟨r,h1,h2⟩:=search_eq (step:=f_slices_BinarySearchFunc_api_Topic_int_find_api_Topic_1_topic_1_l0 m.Topics t) (c:=f_image_find_api_Topic_1_topic_1) h hl ht (fun x=>rfl)
  (fun i j h1 h2=>by
   unfold f_slices_BinarySearchFunc_api_Topic_int_find_api_Topic_1_topic_1_l0
   have hm:(i+j)/2<m.Topics.length:=by omega
   simp only [half_eq (i:=i) (j:=j) (by omega)]
   rw [if_pos (decide_eq_true (by omega)),grd_t (in_i hm),len_lt hm,succ_i64 hm hl]
   show (if decide (IntKind.i64.wrap (m.Topics[(i+j)/2].Id - t)<0)=true then _ else _)=_
   by_cases g:IntKind.i64.wrap (m.Topics[(i+j)/2].Id - t)<0
   ·rw [if_pos (decide_eq_true g),if_pos g]
   ·rw [if_neg (fun q=>g (of_decide_eq_true q)),if_neg g])
  (fun i=>by unfold f_slices_BinarySearchFunc_api_Topic_int_find_api_Topic_1_topic_1_l0;simp)
 rw [h1]
 simp only [Option.bind_some]
 cases e:findK tpId m.Topics t with
 |none=>rfl
 |some x=>
  obtain ⟨hr,hx⟩:=h2 x e
  simp only [Option.isSome_some,Bool.not_true,Bool.false_eq_true,if_false]
  rw [grd_t (in_i hr),len_lt hr,hx];rfl
def aliveV (m:Img) (id:Int):Bool:=match findK bkId m.Brokers id with |some b=> !b.Fenced |none=>false
theorem alive_eq {m:Img}(h:SortK bkId m.Brokers) (hl:m.Brokers.length≤1000000000){t:Int}(ht:i64 t):f_image_Alive m t=some (aliveV m t):=by
 unfold f_image_Alive aliveV
 rw [broker_eq h hl ht]
 cases findK bkId m.Brokers t<;>rfl
theorem bool_loop {ε:Type}{step:Int→Option (Int⊕(Unit⊕Unit))}{n:Nat}{p:Nat→Bool}{A:ε}(hs:∀ i:Nat,i<n→step (i:Int)=some (if p i=true then .inl ((i+1:Nat):Int)else .inr (.inr ()))) (he:step (n:Int)=some (.inr (.inl ()))){K:Option ε}(b:Bool)
  (hb:b=true↔∀ i,i<n→p i=true):
  ((((iter step (0:Int)).bind (Sum.elim (fun _=>(some (Sum.inl ()))) (fun _=>(((some A)).bind fun r=>some (Sum.inr r))))):Option (Unit⊕ε)).bind (Sum.elim (fun _=>K) some))=if b=true then K else some A:=by
 have:=first_loop (step:=step) (n:=n) (st:=fun i=>(i:Int)) (g:=fun i=>if p i=true then none else some ()) (ex:=fun e=> .inr ()) (fin:= .inl ())
  (fun i hi _=>by
   rw [hs i hi]
   cases p i<;>rfl) (fun _=>he)
 rw [nat0] at this
 rw [this]
 cases h:firstE (fun i=>if p i=true then none else some ()) n 0 with
 |none=>
  have h1:=firstE_none0.1 h
  have:b=true:=hb.2 fun i hi=>by
   have:=h1 i hi
   cases q:p i
   ·simp [q] at this
   ·rfl
  rw [if_pos this];rfl
 |some e=>
  obtain ⟨j,_,hj,h3,_⟩:=firstE_some h
  have:¬ b=true:=fun q=>by rw [if_pos (hb.1 q j (by omega))] at h3;cases h3
  rw [if_neg this];rfl
def withinV (a b:List Int):Bool:=a.all fun x=>decide (x∈b)
theorem all_idx {α:Type}{l:List α}{p:α→Bool}{q:Nat→Bool}(h:∀ i,(hi:i<l.length)→q i=p l[i]):l.all p=true↔∀ i,i<l.length→q i=true:=by
 rw [List.all_eq_true]
 constructor
 ·intro k i hi;rw [h i hi];exact k _ (List.getElem_mem hi)
 ·intro k x hx;obtain ⟨i,hi,rfl⟩:=List.getElem_of_mem hx;rw [←h i hi];exact k i hi
theorem within_eq (a b:List Int) (ha:a.length≤1000000000) (hb:b.length≤1000000000):f_dump_within a b=some (withinV a b):=by
 unfold f_dump_within
 have h1:=fold_loop (step:=f_dump_within_l0 b) (n:=b.length) (mk:=fun m i=>(m,(i:Int))) (f:=fun i m=>cntM m (rd b (i:Int))) (fin:=fun m=>m) (fun _ _=>True) (a0:=[]) trivial
  (fun i m hi _=>⟨by unfold f_dump_within_l0;simp only [lt_i hi,if_true,grd_t (in_i hi),succ_i64 hi hb];rfl,trivial⟩)
  (fun m _=>by unfold f_dump_within_l0;simp [lt_n])
 rw [nat0,foldN_list0 b cntM] at h1
 rw [h1,Option.bind_some,Option.bind_some]
 have hm:=count0 b (hl:=hb)
 rw [bool_loop (step:=f_dump_within_l1 a (b.foldl cntM [])) (n:=a.length) (p:=fun i=>decide (rd a (i:Int)∈b)) (A:=false) (K:=some true) (b:=withinV a b)]
 ·cases withinV a b<;>rfl
 ·intro i hi
  unfold f_dump_within_l1
  simp only [lt_i hi,if_true,grd_t (in_i hi),succ_i64 hi ha,len_lt hi]
  have:mpGet (b.foldl cntM []) a[i]=(cnt b a[i]:Int):=hm _
  rw [this]
  by_cases q:a[i]∈b
  ·have:0<cnt b a[i]:=cnt_pos.2 q
   rw [if_neg (fun z=>by have:=of_decide_eq_true z;omega),if_pos (decide_eq_true q)]
  ·have:cnt b a[i]=0:=Nat.eq_zero_of_not_pos fun z=>q (cnt_pos.1 z)
   rw [if_pos (decide_eq_true (by omega)),if_neg (fun z=>q (of_decide_eq_true z))]
 ·unfold f_dump_within_l1;simp [lt_n]
 ·exact all_idx fun i hi=>by rw [len_lt hi]
theorem if_or (a b:Bool):(if a=true then some true else some b)=some (a ||b):=by cases a<;>rfl
theorem if_and (a b:Bool):(if a=true then some b else some false)=some (a&&b):=by cases a<;>rfl
def hasB (m:Img) (id:Int):Bool:=(findK bkId m.Brokers id).isSome
noncomputable def part1 (p:Pt):Bool:=brB p.Ids&&brB p.Isr&&brB p.Add&&brB p.Drop
def part2 (p:Pt):Bool:=decide ((p.Ids.length:Int)=0) ||(decide ((p.Isr.length:Int)=0) ||(decide (p.Epoch<0) ||decide (1073741824<p.Epoch)))
def part3 (p:Pt):Bool:=withinV p.Isr p.Ids&&withinV p.Add p.Ids&&withinV p.Drop p.Ids
def part4 (m:Img) (p:Pt):Bool:=decide (p.Leader=0) ||(decide (p.Leader∈p.Isr)&&aliveV m p.Leader)
def part5 (p:Pt):Bool:=p.Add.all fun x=> !decide (x∈p.Drop)
noncomputable def partV (m:Img) (p:Pt):Bool:=part1 p&&((p.Ids.all fun x=>hasB m x)&&(!part2 p&&(part3 p&&(part4 m p&&part5 p))))
theorem brOk_i64 {l:List Int}(h:brOk l){x:Int}(hx:x∈l):i64 x:=by
 have:=brOk_le h x hx
 unfold i64;omega
theorem within1 (x:Int) (l:List Int):withinV [x] l=decide (x∈l):=by unfold withinV;simp
theorem four_all {p:Int→Bool}{q:List Int→Bool}(a b c d:List Int):[a,b,c,d].all q=(q a&&q b&&q c&&q d):=by simp [Bool.and_assoc]
theorem part_eq {m:Img}(hB:SortK bkId m.Brokers) (hl:m.Brokers.length≤1000000000) (p:Pt):f_dump_part m p=some (partV m p):=by
 unfold f_dump_part
 rw [bool_loop (step:=f_dump_part_l0 p) (n:=[p.Ids,p.Isr,p.Add,p.Drop].length) (p:=fun i=>brB (rd [p.Ids,p.Isr,p.Add,p.Drop] (i:Int))) (b:=part1 p)]
 ·unfold partV
  by_cases h1:part1 p=true
  ·rw [if_pos h1,h1]
   have g1:=h1
   unfold part1 at g1
   simp only [Bool.and_eq_true] at g1
   obtain ⟨⟨⟨g1,g2⟩,g3⟩,g4⟩:=g1
   have b1:=brB_t.1 g1;have b2:=brB_t.1 g2;have b3:=brB_t.1 g3;have b4:=brB_t.1 g4
   have l1:=b1.1;have l2:=b2.1;have l3:=b3.1;have l4:=b4.1
   rw [bool_loop (step:=f_dump_part_l1 m p) (n:=p.Ids.length) (p:=fun i=>hasB m (rd p.Ids (i:Int))) (b:=p.Ids.all fun x=>hasB m x)]
   ·by_cases h2:(p.Ids.all fun x=>hasB m x)=true
    ·rw [if_pos h2,h2]
     simp only [if_or,within_eq p.Isr p.Ids (by omega) (by omega),within_eq p.Add p.Ids (by omega) (by omega),within_eq p.Drop p.Ids (by omega) (by omega),within_eq [p.Leader] p.Isr (by simp) (by omega),within1,Option.bind_some]
     show (if part2 p=true then some false else _)=_
     by_cases h3:part2 p=true
     ·rw [if_pos h3,h3];rfl
     ·rw [if_neg h3]
      have h3':part2 p=false:=by simpa using h3
      rw [h3',show (!withinV p.Isr p.Ids ||(!withinV p.Add p.Ids || !withinV p.Drop p.Ids))= !part3 p by unfold part3;simp [Bool.not_and,Bool.or_assoc]]
      by_cases h4:part3 p=true
      ·rw [h4]
       simp only [Bool.not_true,Bool.false_eq_true,if_false]
       have hA:((if decide (p.Leader≠0)=true then if(!decide (p.Leader∈p.Isr))=true then some true else(f_image_Alive m p.Leader).bind fun r104=>some (!r104)else some false:Option Bool))=some (!part4 m p):=by
        unfold part4
        by_cases q:p.Leader=0
        ·simp [q]
        ·rw [if_pos (by simpa using q)]
         by_cases q2:p.Leader∈p.Isr
         ·rw [if_neg (by simp [q2]),alive_eq hB hl (brOk_i64 b2 q2)]
          simp [q,q2]
         ·simp [q,q2]
       rw [hA]
       simp only [Option.bind_some]
       by_cases h5:part4 m p=true
       ·rw [h5]
        simp only [Bool.not_true,Bool.false_eq_true,if_false]
        refine(bool_loop (step:=f_dump_part_l2 p) (n:=p.Add.length) (p:=fun i=> !decide (rd p.Add (i:Int)∈p.Drop)) (A:=false) (K:=some true) (b:=part5 p) ?_ ?_ ?_).trans ?_
        rotate_left 3
        ·cases part5 p<;>rfl
        ·intro i hi
         unfold f_dump_part_l2
         simp only [lt_i hi,if_true,grd_t (in_i hi),succ_i64 hi (show p.Add.length≤1000000000 by omega),len_lt hi,within_eq [p.Add[i]] p.Drop (by simp) (by omega),within1,Option.bind_some]
         cases decide (p.Add[i]∈p.Drop)<;>rfl
        ·unfold f_dump_part_l2;simp [lt_n]
        ·exact all_idx fun i hi=>by rw [len_lt hi]
       ·have h5':part4 m p=false:=by simpa using h5
        rw [h5'];rfl
      ·have h4':part3 p=false:=by simpa using h4
       rw [h4'];rfl
    ·have h2':(p.Ids.all fun x=>hasB m x)=false:=by simpa using h2
     rw [if_neg h2,h2'];rfl
   ·intro i hi
    unfold f_dump_part_l1
    simp only [lt_i hi,if_true,grd_t (in_i hi),succ_i64 hi (show p.Ids.length≤1000000000 by omega),len_lt hi]
    rw [broker_eq hB hl (brOk_i64 b1 (List.getElem_mem hi))]
    unfold hasB
    cases findK bkId m.Brokers p.Ids[i]<;>rfl
   ·unfold f_dump_part_l1;simp [lt_n]
   ·exact all_idx fun i hi=>by rw [len_lt hi]
  ·have h1':part1 p=false:=by simpa using h1
   rw [if_neg h1,h1'];rfl
 ·intro i hi
  unfold f_dump_part_l0
  simp only [lt_i hi,if_true,grd_t (in_i hi),succ_i64 hi (show [p.Ids,p.Isr,p.Add,p.Drop].length≤1000000000 by simp),len_lt hi,pbrB,Option.bind_some]
  cases brB ([p.Ids,p.Isr,p.Add,p.Drop][i])<;>rfl
 ·unfold f_dump_part_l0;simp [lt_n]
 ·unfold part1
  rw [←four_all (p:=fun _=>true) (q:=brB) p.Ids p.Isr p.Add p.Drop]
  exact all_idx fun i hi=>by rw [len_lt hi]
abbrev brkOp:ByteArray:=⟨#[98,114,111,107,101,114]⟩
abbrev topOp:ByteArray:=⟨#[116,111,112,105,99]⟩
abbrev parOp:ByteArray:=⟨#[112,97,114,116]⟩
abbrev cfgOp:ByteArray:=⟨#[99,111,110,102,105,103]⟩
abbrev dnOp:ByteArray:=⟨#[100,111,110,101]⟩
abbrev R16:=ByteArray×Int×Int×Option Int
def toG:Option R16→GErr
 |none=> .nil
 |some (o,a,c,none)=> .fault o a (.code c)
 |some (o,a,c,some k)=> .fault o a (.fault parOp k (.code c))
structure limM (m:Img):Prop where
 bk:m.Brokers.length≤1000000
 tp:m.Topics.length≤1000000
 pt:∀ t∈m.Topics,t.Parts.length≤1000000
 cf:m.Configs.length≤1000000
 dn:m.Done.length≤1000000
def lowB (m:Img) (i:Nat):Int:=if i=0 then 0 else(rd m.Brokers ((i - 1:Nat):Int)).Id
def brG (m:Img) (i:Nat):Option R16:=
 if(decide ((rd m.Brokers (i:Int)).Id≤lowB m i) ||(decide (64<(rd m.Brokers (i:Int)).Id) ||(decide ((rd m.Brokers (i:Int)).Epoch<0) ||(decide (1073741824<(rd m.Brokers (i:Int)).Epoch) || !nameV (rd m.Brokers (i:Int)).Rack))))=true then some (brkOp,(i:Int),2,none)
 else if((rd m.Brokers (i:Int)).Fenced&&((rd m.Brokers (i:Int)).Leaving&&leadsV m (rd m.Brokers (i:Int)).Id))=true then some (brkOp,(i:Int),10,none)else none
theorem lowB_succ (m:Img) (i:Nat):lowB m (i+1)=(rd m.Brokers (i:Int)).Id:=by unfold lowB;simp
theorem err_end (f:Option R16):(((some (pickE (Sum.inl ()) (fun e=>Sum.inr (toG (some e))) f):Option (Unit⊕GErr)).bind (Sum.elim (fun _=>(some (Sum.inl ()))) (fun(x26:GErr)=>(((some x26)).bind fun r=>some (Sum.inr r))))):Option (Unit⊕GErr)).bind (Sum.elim (fun _=>(some GErr.nil)) some)=some (toG f):=by
 cases f<;>rfl
theorem brokers_ck {m:Img}(h:limM m):f_dump_brokers m=some (toG (firstE (brG m) m.Brokers.length 0)):=by
 unfold f_dump_brokers
 have hn:m.Brokers.length≤1000000000:=by have:=h.bk;omega
 have:=first_loop (step:=f_dump_brokers_l0 m) (n:=m.Brokers.length) (st:=fun i=>(lowB m i,(i:Int))) (g:=brG m) (ex:=fun e=> .inr (toG (some e))) (fin:= .inl ())
  (fun i hi _=>by
   unfold f_dump_brokers_l0
   simp only [lt_i hi,if_true,grd_t (in_i hi),succ_i64 hi hn,pname_eq,leads_eq m _ (by have:=h.tp;omega) (fun t ht=>by have:=h.pt t ht;omega),if_or,if_and,Option.bind_some,new_eq]
   unfold brG
   by_cases g1:(decide ((rd m.Brokers (i:Int)).Id≤lowB m i) ||(decide (64<(rd m.Brokers (i:Int)).Id) ||(decide ((rd m.Brokers (i:Int)).Epoch<0) ||(decide (1073741824<(rd m.Brokers (i:Int)).Epoch) || !nameV (rd m.Brokers (i:Int)).Rack))))=true
   ·rw [if_pos g1,if_pos g1];rfl
   ·rw [if_neg g1,if_neg g1]
    by_cases g2:((rd m.Brokers (i:Int)).Fenced&&((rd m.Brokers (i:Int)).Leaving&&leadsV m (rd m.Brokers (i:Int)).Id))=true
    ·rw [if_pos g2,if_pos g2];rfl
    ·rw [if_neg g2,if_neg g2,lowB_succ])
  (fun _=>by unfold f_dump_brokers_l0;simp [lt_n])
 rw [show ((0:Int),(0:Int))=(lowB m 0,((0:Nat):Int)) from rfl,this]
 exact err_end _
def nmT (m:Img):List ByteArray:=m.Topics.map (·.Name)
def lowT (m:Img) (i:Nat):Int:=if i=0 then 0 else(rd m.Topics ((i - 1:Nat):Int)).Id
theorem lowT_succ (m:Img) (i:Nat):lowT m (i+1)=(rd m.Topics (i:Int)).Id:=by unfold lowT;simp
noncomputable def ptG (m:Img) (i:Nat) (k:Nat):Option R16:=if partV m (rd (rd m.Topics (i:Int)).Parts (k:Int))=true then none else some (topOp,(i:Int),10,some (k:Int))
noncomputable def tpG (m:Img) (i:Nat):Option R16:=
 if(decide ((rd m.Topics (i:Int)).Id≤lowT m i) ||(decide (m.Last<(rd m.Topics (i:Int)).Id) ||(!nameV (rd m.Topics (i:Int)).Name ||(inL ((nmT m).take i) (rd m.Topics (i:Int)).Name ||decide (256<((rd m.Topics (i:Int)).Parts.length:Int))))))=true then some (topOp,(i:Int),2,none)
 else firstE (ptG m i) (rd m.Topics (i:Int)).Parts.length 0
theorem nmT_at {m:Img}{i:Nat}(hi:i<m.Topics.length):(nmT m).take (i+1)=(nmT m).take i++[(rd m.Topics (i:Int)).Name]:=by
 rw [List.take_succ_eq_append_getElem (by unfold nmT;simpa using hi),len_lt hi]
 unfold nmT;simp
theorem cnt_succ {m:Img}{i:Nat}(hi:i<m.Topics.length):mpPut (countM ((nmT m).take i)) (rd m.Topics (i:Int)).Name (IntKind.i64.wrap (mpGet (countM ((nmT m).take i)) (rd m.Topics (i:Int)).Name+1))=countM ((nmT m).take (i+1)):=by
 rw [nmT_at hi]
 unfold countM
 rw [List.foldl_append];rfl
theorem cnt_twice {m:Img}{i:Nat}(hi:i<m.Topics.length) (hn:m.Topics.length≤1000000):decide (1<mpGet (countM ((nmT m).take (i+1))) (rd m.Topics (i:Int)).Name)=inL ((nmT m).take i) (rd m.Topics (i:Int)).Name:=by
 have hl:((nmT m).take (i+1)).length≤1000000000:=by
  have:(nmT m).length=m.Topics.length:=by unfold nmT;simp
  rw [List.length_take];omega
 rw [count0 _ _ hl,nmT_at hi,cnt_append,cnt_one]
 cases q:inL ((nmT m).take i) (rd m.Topics (i:Int)).Name with
 |true=>have:=cnt_pos.2 (inL_iff.1 q);exact decide_eq_true (by omega)
 |false=>
  have:cnt ((nmT m).take i) (rd m.Topics (i:Int)).Name=0:=Nat.eq_zero_of_not_pos fun z=>by rw [inL_iff.2 (cnt_pos.1 z)] at q;cases q
  exact decide_eq_false (by omega)
theorem wrap_eq16 (o:ByteArray) (a:Int) (e:GErr) (h:e.isNil=false):f_fault_Wrap o a e=some (.fault o a e):=by
 unfold f_fault_Wrap
 simp [h]
theorem topics_loop {m:Img}(h:limM m) (hB:SortK bkId m.Brokers):iter (f_dump_topics_l0 m) (([]:List (ByteArray×Int)),(0:Int),(0:Int))=some (pickE (Sum.inl ()) (fun e=>Sum.inr (toG (some e))) (firstE (tpG m) m.Topics.length 0)):=by
 have hn:m.Topics.length≤1000000000:=by have:=h.tp;omega
 have:=first_loop (step:=f_dump_topics_l0 m) (n:=m.Topics.length) (st:=fun i=>(countM ((nmT m).take i),lowT m i,(i:Int))) (g:=tpG m) (ex:=fun e=> .inr (toG (some e))) (fin:= .inl ())
  (fun i hi _=>by
   unfold f_dump_topics_l0
   have hp:(rd m.Topics (i:Int)).Parts.length≤1000000000:=by
    have:=h.pt (rd m.Topics (i:Int)) (by rw [len_lt hi];exact List.getElem_mem hi)
    omega
   simp only [lt_i hi,if_true,grd_t (in_i hi),succ_i64 hi hn,pname_eq,cnt_succ hi,cnt_twice hi h.tp,if_or,Option.bind_some,new_eq]
   unfold tpG
   by_cases g1:(decide ((rd m.Topics (i:Int)).Id≤lowT m i) ||(decide (m.Last<(rd m.Topics (i:Int)).Id) ||(!nameV (rd m.Topics (i:Int)).Name ||(inL ((nmT m).take i) (rd m.Topics (i:Int)).Name ||decide (256<((rd m.Topics (i:Int)).Parts.length:Int))))))=true
   ·rw [if_pos g1,if_pos g1];rfl
   ·rw [if_neg g1,if_neg g1]
    have hin:=first_loop (step:=f_dump_topics_l1 m (i:Int)) (n:=(rd m.Topics (i:Int)).Parts.length) (st:=fun k=>(k:Int)) (g:=ptG m i) (ex:=fun e=> .inr (toG (some e))) (fin:= .inl ())
     (fun k hk _=>by
      unfold f_dump_topics_l1
      simp only [lt_i hk,if_true,grd_t (in_i hk),succ_i64 hk hp,part_eq hB (by have:=h.bk;omega),Option.bind_some,new_eq,wrap_eq16 _ _ _ (show (GErr.fault parOp (k:Int) (.code 10)).isNil=false from rfl)]
      unfold ptG
      cases partV m (rd (rd m.Topics (i:Int)).Parts (k:Int))<;>rfl)
     (fun _=>by unfold f_dump_topics_l1;simp [lt_n])
    rw [nat0] at hin
    rw [hin]
    cases firstE (ptG m i) (rd m.Topics (i:Int)).Parts.length 0 with
    |none=>simp only [pickE,Option.bind_some,Sum.elim_inl,lowT_succ]
    |some e=>rfl)
  (fun _=>by unfold f_dump_topics_l0;simp [lt_n])
 exact this
def headG (m:Img):Bool:=decide (256<(m.Topics.length:Int)) ||(decide (m.Last<0) ||decide (1073741824<m.Last))
noncomputable def topsR (m:Img):Option R16:=if headG m=true then some (topOp,(m.Topics.length:Int),6,none)else firstE (tpG m) m.Topics.length 0
theorem topics_ck {m:Img}(h:limM m) (hB:SortK bkId m.Brokers):f_dump_topics m=some (toG (topsR m)):=by
 unfold f_dump_topics topsR
 simp only [if_or]
 rw [Option.bind_some]
 show (if headG m=true then _ else _)=_
 by_cases g:headG m=true
 ·rw [if_pos g,if_pos g];rfl
 ·rw [if_neg g,if_neg g,topics_loop h hB]
  exact err_end _
def hasT (m:Img) (id:Int):Bool:=(findK tpId m.Topics id).isSome
def geS (a b:ByteArray):Bool:= !Op.bytesLess a.toList b.toList
def cfG (m:Img) (i:Nat):Option R16:=
 if(!hasT m (rd m.Configs (i:Int)).Topic&&decide ((rd m.Configs (i:Int)).Topic≠0) ||(!nameV (rd m.Configs (i:Int)).Key ||decide (256<((rd m.Configs (i:Int)).Value.size:Int))))=true then some (cfgOp,(i:Int),2,none)
 else if i=0 then none
 else if(decide ((rd m.Configs (i:Int)).Topic<(rd m.Configs ((i - 1:Nat):Int)).Topic) ||(decide ((rd m.Configs ((i - 1:Nat):Int)).Topic=(rd m.Configs (i:Int)).Topic)&&geS (rd m.Configs ((i - 1:Nat):Int)).Key (rd m.Configs (i:Int)).Key))=true then some (cfgOp,(i:Int),10,none)else none
theorem configs_ck {m:Img}(h:limM m) (hT:SortK tpId m.Topics) (hi6:∀ c∈m.Configs,i64 c.Topic):f_dump_configs m=some (toG (firstE (cfG m) m.Configs.length 0)):=by
 unfold f_dump_configs
 have hn:m.Configs.length≤1000000000:=by have:=h.cf;omega
 have:=first_loop (step:=f_dump_configs_l0 m) (n:=m.Configs.length) (st:=fun i=>(i:Int)) (g:=cfG m) (ex:=fun e=> .inr (toG (some e))) (fin:= .inl ())
  (fun i hi _=>by
   unfold f_dump_configs_l0
   have ht:i64 (rd m.Configs (i:Int)).Topic:=by rw [len_lt hi];exact hi6 _ (List.getElem_mem hi)
   simp only [lt_i hi,if_true,grd_t (in_i hi),succ_i64 hi hn,pname_eq,topic_eq hT (by have:=h.tp;omega) ht,if_or,if_and,Option.bind_some,new_eq]
   have e1:getV tz (findK tpId m.Topics (rd m.Configs (i:Int)).Topic)=((getV tz (findK tpId m.Topics (rd m.Configs (i:Int)).Topic)).1,hasT m (rd m.Configs (i:Int)).Topic):=by
    unfold hasT;cases findK tpId m.Topics (rd m.Configs (i:Int)).Topic<;>rfl
   rw [e1]
   simp only
   have e2:(if decide ((rd m.Configs (i:Int)).Topic≠0)=true then some (!hasT m (rd m.Configs (i:Int)).Topic ||(!nameV (rd m.Configs (i:Int)).Key ||decide (256<((rd m.Configs (i:Int)).Value.size:Int))))else some (!nameV (rd m.Configs (i:Int)).Key ||decide (256<((rd m.Configs (i:Int)).Value.size:Int))))=some (!hasT m (rd m.Configs (i:Int)).Topic&&decide ((rd m.Configs (i:Int)).Topic≠0) ||(!nameV (rd m.Configs (i:Int)).Key ||decide (256<((rd m.Configs (i:Int)).Value.size:Int)))):=by
    by_cases q:(rd m.Configs (i:Int)).Topic=0
    ·simp [q]
    ·simp [q]
   rw [e2,Option.bind_some]
   unfold cfG
   by_cases g1:(!hasT m (rd m.Configs (i:Int)).Topic&&decide ((rd m.Configs (i:Int)).Topic≠0) ||(!nameV (rd m.Configs (i:Int)).Key ||decide (256<((rd m.Configs (i:Int)).Value.size:Int))))=true
   ·rw [if_pos g1,if_pos g1];rfl
   ·rw [if_neg g1,if_neg g1]
    by_cases g2:i=0
    ·subst g2;simp
    ·have hw:IntKind.i64.wrap ((i:Int)- 1)=((i - 1:Nat):Int):=by rw [w_i64 (by omega) (by omega)];omega
     have hj:i - 1<m.Configs.length:=by omega
     rw [if_pos (decide_eq_true (by omega)),if_neg g2,hw,grd_t (in_i hj)]
     by_cases g3:(decide ((rd m.Configs (i:Int)).Topic<(rd m.Configs ((i - 1:Nat):Int)).Topic) ||(decide ((rd m.Configs ((i - 1:Nat):Int)).Topic=(rd m.Configs (i:Int)).Topic)&&geS (rd m.Configs ((i - 1:Nat):Int)).Key (rd m.Configs (i:Int)).Key))=true
     ·rw [if_pos g3]
      unfold geS at g3
      rw [if_pos g3];rfl
     ·rw [if_neg g3]
      unfold geS at g3
      rw [if_neg g3];rfl)
  (fun _=>by unfold f_dump_configs_l0;simp [lt_n])
 rw [nat0] at this
 rw [this]
 exact err_end _
def dnK (m:Img):List (Int×Int):=m.Done.map fun d=>(d.Client,d.Serial)
def dnG (m:Img) (i:Nat):Option R16:=
 if(decide ((rd m.Done (i:Int)).Client<1) ||(decide (1073741824<(rd m.Done (i:Int)).Client) ||(decide ((rd m.Done (i:Int)).Serial<1) ||(decide (1073741824<(rd m.Done (i:Int)).Serial) ||(decide ((rd m.Done (i:Int)).Code<0) ||(decide (21<(rd m.Done (i:Int)).Code) ||inL ((dnK m).take i) ((rd m.Done (i:Int)).Client,(rd m.Done (i:Int)).Serial)))))))=true then some (dnOp,(i:Int),2,none)else none
theorem dnK_at {m:Img}{i:Nat}(hi:i<m.Done.length):(dnK m).take (i+1)=(dnK m).take i++[((rd m.Done (i:Int)).Client,(rd m.Done (i:Int)).Serial)]:=by
 rw [List.take_succ_eq_append_getElem (by unfold dnK;simpa using hi),len_lt hi]
 unfold dnK;simp
theorem cntD_succ {m:Img}{i:Nat}(hi:i<m.Done.length):mpPut (countM ((dnK m).take i)) ((rd m.Done (i:Int)).Client,(rd m.Done (i:Int)).Serial) (IntKind.i64.wrap (mpGet (countM ((dnK m).take i)) ((rd m.Done (i:Int)).Client,(rd m.Done (i:Int)).Serial)+1))=countM ((dnK m).take (i+1)):=by
 rw [dnK_at hi]
 unfold countM
 rw [List.foldl_append];rfl
theorem cntD_twice {m:Img}{i:Nat}(hi:i<m.Done.length) (hn:m.Done.length≤1000000):decide (1<mpGet (countM ((dnK m).take (i+1))) ((rd m.Done (i:Int)).Client,(rd m.Done (i:Int)).Serial))=inL ((dnK m).take i) ((rd m.Done (i:Int)).Client,(rd m.Done (i:Int)).Serial):=by
 have hl:((dnK m).take (i+1)).length≤1000000000:=by
  have:(dnK m).length=m.Done.length:=by unfold dnK;simp
  rw [List.length_take];omega
 rw [count0 _ _ hl,dnK_at hi,cnt_append,cnt_one]
 cases q:inL ((dnK m).take i) ((rd m.Done (i:Int)).Client,(rd m.Done (i:Int)).Serial)with
 |true=>have:=cnt_pos.2 (inL_iff.1 q);exact decide_eq_true (by omega)
 |false=>
  have:cnt ((dnK m).take i) ((rd m.Done (i:Int)).Client,(rd m.Done (i:Int)).Serial)=0:=Nat.eq_zero_of_not_pos fun z=>by rw [inL_iff.2 (cnt_pos.1 z)] at q;cases q
  exact decide_eq_false (by omega)
theorem done_loop {m:Img}(h:limM m):iter (f_dump_Check_l0 m) (([]:List ((Int×Int)×Int)),(0:Int))=some (pickE (Sum.inl ()) (fun e=>Sum.inr (toG (some e))) (firstE (dnG m) m.Done.length 0)):=by
 have hn:m.Done.length≤1000000000:=by have:=h.dn;omega
 exact first_loop (step:=f_dump_Check_l0 m) (n:=m.Done.length) (st:=fun i=>(countM ((dnK m).take i),(i:Int))) (g:=dnG m) (ex:=fun e=> .inr (toG (some e))) (fin:= .inl ())
  (fun i hi _=>by
   unfold f_dump_Check_l0
   simp only [lt_i hi,if_true,grd_t (in_i hi),succ_i64 hi hn,cntD_succ hi,cntD_twice hi h.dn,if_or,Option.bind_some,new_eq]
   unfold dnG
   by_cases g1:(decide ((rd m.Done (i:Int)).Client<1) ||(decide (1073741824<(rd m.Done (i:Int)).Client) ||(decide ((rd m.Done (i:Int)).Serial<1) ||(decide (1073741824<(rd m.Done (i:Int)).Serial) ||(decide ((rd m.Done (i:Int)).Code<0) ||(decide (21<(rd m.Done (i:Int)).Code) ||inL ((dnK m).take i) ((rd m.Done (i:Int)).Client,(rd m.Done (i:Int)).Serial)))))))=true
   ·rw [if_pos g1,if_pos g1];rfl
   ·rw [if_neg g1,if_neg g1])
  (fun _=>by unfold f_dump_Check_l0;simp [lt_n])
noncomputable def chkR (m:Img):Option R16:=
 match firstE (brG m) m.Brokers.length 0 with
 |some e=>some e
 |none=>match topsR m with
  |some e=>some e
  |none=>match firstE (cfG m) m.Configs.length 0 with
   |some e=>some e
   |none=>if 64<(m.Done.length:Int)then some (dnOp,(m.Done.length:Int),6,none)else firstE (dnG m) m.Done.length 0
theorem sorted_by {α:Type}[Inhabited α]{key:α→Int}{l:List α}{low:Nat→Int}(hlow:∀ i,low (i+1)=key (rd l (i:Int))) (h:∀ i,i<l.length→low i<key (rd l (i:Int))):l.Pairwise fun a b=>key a<key b:=by
 have st:∀ i,(hi:i+1<l.length)→key (l[i]'(by omega))<key l[i+1]:=fun i hi=>by
  have:=h (i+1) hi
  rw [hlow,len_lt (show i<l.length by omega),len_lt hi] at this
  exact this
 rw [List.pairwise_iff_getElem]
 intro a b ha hb hab
 obtain ⟨d,rfl⟩:∃ d,b=a+1+d:=⟨b - (a+1),by omega⟩
 clear hab
 induction d with
 |zero=>exact st a hb
 |succ d ih=>
  have h1:=ih (by omega)
  have h2:=st (a+1+d) (by omega)
  have h3:a+1+(d+1)=a+1+d+1:=by omega
  simp only [h3]
  omega
theorem br_sort {m:Img}(h:∀ i,i<m.Brokers.length→brG m i=none):SortK bkId m.Brokers:=by
 have hi:∀ i,i<m.Brokers.length→lowB m i<(rd m.Brokers (i:Int)).Id∧(rd m.Brokers (i:Int)).Id≤64:=fun i hi=>by
  have:=h i hi
  unfold brG at this
  split at this
  ·cases this
  ·rename_i g
   simp only [Bool.or_eq_true,decide_eq_true_eq,not_or] at g
   omega
 have hs:=sorted_by (key:=bkId) (l:=m.Brokers) (low:=lowB m) (lowB_succ m) fun i h=>(hi i h).1
 have h0:∀ i,(h:i<m.Brokers.length)→0<m.Brokers[i].Id:=by
  intro i
  induction i with
  |zero=>intro h;have:=(hi 0 h).1;rw [len_lt h] at this;exact this
  |succ i ih=>intro h;have:=ih (by omega);have:=List.pairwise_iff_getElem.1 hs i (i+1) (by omega) h (by omega);simp only [bkId] at this;omega
 refine⟨fun x hx=> ?_,hs⟩
 obtain ⟨i,h,rfl⟩:=List.getElem_of_mem hx
 have h1:=(hi i h).2
 rw [len_lt h] at h1
 have:=h0 i h
 simp only [bkId];omega
theorem tp_sort {m:Img}(hl:m.Last≤1073741824) (h:∀ i,i<m.Topics.length→tpG m i=none):SortK tpId m.Topics:=by
 have hi:∀ i,i<m.Topics.length→lowT m i<(rd m.Topics (i:Int)).Id∧(rd m.Topics (i:Int)).Id≤m.Last:=fun i hi=>by
  have:=h i hi
  unfold tpG at this
  split at this
  ·cases this
  ·rename_i g
   simp only [Bool.or_eq_true,decide_eq_true_eq,not_or] at g
   omega
 have hs:=sorted_by (key:=tpId) (l:=m.Topics) (low:=lowT m) (lowT_succ m) fun i h=>(hi i h).1
 have h0:∀ i,(h:i<m.Topics.length)→0<m.Topics[i].Id:=by
  intro i
  induction i with
  |zero=>intro h;have:=(hi 0 h).1;rw [len_lt h] at this;exact this
  |succ i ih=>intro h;have:=ih (by omega);have:=List.pairwise_iff_getElem.1 hs i (i+1) (by omega) h (by omega);simp only [tpId] at this;omega
 refine⟨fun x hx=> ?_,hs⟩
 obtain ⟨i,h,rfl⟩:=List.getElem_of_mem hx
 have h1:=(hi i h).2
 rw [len_lt h] at h1
 have:=h0 i h
 simp only [tpId];omega
theorem check_ck {m:Img}(h:limM m) (hi6:∀ c∈m.Configs,i64 c.Topic):f_dump_Check m=some (toG (chkR m)):=by
 unfold f_dump_Check chkR
 rw [brokers_ck h,Option.bind_some]
 cases e1:firstE (brG m) m.Brokers.length 0 with
 |some e=>rcases e with⟨o,a,c,_ |k⟩<;>rfl
 |none=>
  have hB:=br_sort (firstE_none0.1 e1)
  rw [topics_ck h hB]
  simp only [toG,GErr.isNil,Bool.not_true,Bool.false_eq_true,if_false,Option.bind_some]
  cases e2:topsR m with
  |some e=>rcases e with⟨o,a,c,_ |k⟩<;>rfl
  |none=>
   have hT:SortK tpId m.Topics:=by
    unfold topsR at e2
    split at e2
    ·cases e2
    ·rename_i g
     unfold headG at g
     simp only [Bool.or_eq_true,decide_eq_true_eq,not_or] at g
     exact tp_sort (by omega) (firstE_none0.1 e2)
   rw [configs_ck h hT hi6]
   simp only [GErr.isNil,Bool.not_true,Bool.false_eq_true,if_false,Option.bind_some]
   cases e3:firstE (cfG m) m.Configs.length 0 with
   |some e=>rcases e with⟨o,a,c,_ |k⟩<;>rfl
   |none=>
    simp only [toG,GErr.isNil,Bool.not_true,Bool.false_eq_true,if_false]
    by_cases g:64<(m.Done.length:Int)
    ·rw [if_pos (decide_eq_true g),if_pos g];rfl
    ·rw [if_neg (fun q=>g (of_decide_eq_true q)),if_neg g,done_loop h]
     cases firstE (dnG m) m.Done.length 0<;>rfl
theorem bl_irrefl:∀ a:List UInt8,Op.bytesLess a a=false
 |[]=>rfl
 |x::a=>by simp [Op.bytesLess,bl_irrefl a]
theorem bl_trans:∀ {a b c:List UInt8},Op.bytesLess a b=true→Op.bytesLess b c=true→Op.bytesLess a c=true
 |[],[],_,h,_=>by cases h
 |_::_,[],_,h,_=>by cases h
 |_,_::_,[],_,h=>by cases h
 |[],_::_,_::_,_,_=>rfl
 |x::a,y::b,z::c,h,k=>by
  simp only [Op.bytesLess,Bool.or_eq_true,decide_eq_true_eq,Bool.and_eq_true,beq_iff_eq] at h k⊢
  rcases h with h |⟨h1,h2⟩<;>rcases k with k |⟨k1,k2⟩
  ·exact .inl (UInt8.lt_trans h k)
  ·subst k1;exact .inl h
  ·subst h1;exact .inl k
  ·subst h1;subst k1;exact .inr ⟨rfl,bl_trans h2 k2⟩
theorem bl_tri:∀ {a b:List UInt8},Op.bytesLess a b=false→Op.bytesLess b a=false→a=b
 |[],[],_,_=>rfl
 |[],_::_,h,_=>by cases h
 |_::_,[],_,h=>by cases h
 |x::a,y::b,h,k=>by
  simp only [Op.bytesLess,Bool.or_eq_false_iff,decide_eq_false_iff_not,Bool.and_eq_false_iff,beq_eq_false_iff_ne] at h k
  have e:x=y:=UInt8.le_antisymm (UInt8.not_lt.1 k.1) (UInt8.not_lt.1 h.1)
  subst e
  rw [bl_tri (h.2.resolve_left (fun q=>q rfl)) (k.2.resolve_left (fun q=>q rfl))]
theorem toList_inj {a b:ByteArray}(h:a.toList=b.toList):a=b:=by
 rw [ByteArray.toList_eq,ByteArray.toList_eq] at h
 cases a;cases b
 simp only at h
 congr 1
 exact Array.ext' h
def ltS (a b:ByteArray):Bool:=Op.bytesLess a.toList b.toList
theorem ltS_irrefl (a:ByteArray):ltS a a=false:=bl_irrefl _
theorem ltS_trans {a b c:ByteArray}(h:ltS a b=true) (k:ltS b c=true):ltS a c=true:=bl_trans h k
theorem ltS_tri {a b:ByteArray}(h:ltS a b=false) (k:ltS b a=false):a=b:=toList_inj (bl_tri h k)
theorem geS_lt (a b:ByteArray):geS a b= !ltS a b:=rfl
def cfLt (a b:Cf):Prop:=a.Topic<b.Topic∨a.Topic=b.Topic∧ltS a.Key b.Key=true
theorem cfLt_trans {a b c:Cf}(h:cfLt a b) (k:cfLt b c):cfLt a c:=by
 rcases h with h |⟨h1,h2⟩<;>rcases k with k |⟨k1,k2⟩
 ·exact .inl (Int.lt_trans h k)
 ·exact .inl (k1▸h)
 ·exact .inl (h1▸k)
 ·exact .inr ⟨h1.trans k1,ltS_trans h2 k2⟩
theorem ne_pw {α β:Type}[DecidableEq β] (f:α→β){l:List α}(h:l.Pairwise fun a b=>f a≠f b){i:Nat}(hi:i<l.length):inL ((l.map f).take i) (f l[i])=false:=by
 rw [←Bool.not_eq_true,inL_iff]
 intro q
 obtain ⟨a,ha,e⟩:=List.mem_take_iff_getElem.1 q
 simp at ha
 have:=List.pairwise_iff_getElem.1 h a i (by omega) hi (by omega)
 exact this (by simpa using e)
structure okImg (m:Img):Prop where
 bs:m.Brokers.Pairwise fun a b=>a.Id<b.Id
 bk:∀ b∈m.Brokers,1≤b.Id∧b.Id≤64∧0≤b.Epoch∧b.Epoch≤1073741824∧nameV b.Rack=true∧(b.Fenced&&(b.Leaving&&leadsV m b.Id))=false
 last:0≤m.Last∧m.Last≤1073741824
 tn:m.Topics.length≤256
 ts:m.Topics.Pairwise fun a b=>a.Id<b.Id
 tp:∀ t∈m.Topics,1≤t.Id∧t.Id≤m.Last∧nameV t.Name=true∧t.Parts.length≤256∧∀ p∈t.Parts,partV m p=true
 nm:m.Topics.Pairwise fun a b=>a.Name≠b.Name
 cs:m.Configs.Pairwise cfLt
 cf:∀ c∈m.Configs,(c.Topic=0∨hasT m c.Topic=true)∧nameV c.Key=true∧c.Value.size≤256
 dl:m.Done.length≤64
 dn:∀ d∈m.Done,1≤d.Client∧d.Client≤1073741824∧1≤d.Serial∧d.Serial≤1073741824∧0≤d.Code∧d.Code≤21
 dd:m.Done.Pairwise fun a b=>(a.Client,a.Serial)≠(b.Client,b.Serial)
theorem okImg.sortB {m:Img}(h:okImg m):SortK bkId m.Brokers:=⟨fun b hb=>by have:=h.bk b hb;simp only [bkId];omega,h.bs⟩
theorem okImg.sortT {m:Img}(h:okImg m):SortK tpId m.Topics:=⟨fun t ht=>by have:=h.tp t ht;have:=h.last;simp only [tpId];omega,h.ts⟩
theorem mem_rd {α:Type}[Inhabited α]{l:List α}{x:α}(h:x∈l):∃ i:Nat,i<l.length∧rd l (i:Int)=x:=by
 obtain ⟨i,hi,rfl⟩:=List.getElem_of_mem h;exact⟨i,hi,len_lt hi⟩
theorem rd_mem {α:Type}[Inhabited α]{l:List α}{i:Nat}(hi:i<l.length):rd l (i:Int)∈l:=by rw [len_lt hi];exact List.getElem_mem hi
theorem low_lt {α:Type}[Inhabited α]{key:α→Int}{l:List α}(hs:l.Pairwise fun a b=>key a<key b) (hp:∀ x∈l,0<key x){i:Nat}(hi:i<l.length):(if i=0 then 0 else key (rd l ((i - 1:Nat):Int)))<key (rd l (i:Int)):=by
 cases i with
 |zero=>exact hp _ (rd_mem hi)
 |succ i=>
  rw [if_neg (by omega),show i+1 - 1=i by omega,len_lt (show i<l.length by omega),len_lt hi]
  exact List.pairwise_iff_getElem.1 hs i (i+1) (by omega) hi (by omega)
theorem ok_chk {m:Img}(h:okImg m):chkR m=none:=by
 have e1:firstE (brG m) m.Brokers.length 0=none:=firstE_none0.2 fun i hi=>by
  have hb:=h.bk _ (rd_mem hi)
  have hl:lowB m i<(rd m.Brokers (i:Int)).Id:=low_lt (key:=bkId) h.bs (fun x hx=>by have:=h.bk x hx;simp only [bkId];omega) hi
  unfold brG
  rw [if_neg,if_neg]
  ·rw [hb.2.2.2.2.2];exact Bool.false_ne_true
  ·simp only [Bool.or_eq_true,decide_eq_true_eq,not_or,Bool.not_eq_true',Bool.not_eq_false]
   exact⟨by omega,by omega,by omega,by omega,hb.2.2.2.2.1⟩
 have e2:topsR m=none:=by
  unfold topsR
  have:=h.last;have:=h.tn
  rw [if_neg]
  ·refine firstE_none0.2 fun i hi=> ?_
   have ht:=h.tp _ (rd_mem hi)
   have hl:lowT m i<(rd m.Topics (i:Int)).Id:=low_lt (key:=tpId) h.ts (fun x hx=>by have:=h.tp x hx;simp only [tpId];omega) hi
   have hn:=ne_pw (fun t:Tp=>t.Name) h.nm hi
   unfold tpG
   rw [if_neg]
   ·refine firstE_none0.2 fun k hk=> ?_
    unfold ptG
    rw [if_pos (ht.2.2.2.2 _ (rd_mem hk))]
   ·simp only [Bool.or_eq_true,decide_eq_true_eq,not_or,Bool.not_eq_true',Bool.not_eq_false]
    refine⟨by omega,by omega,ht.2.2.1, ?_,by omega⟩
    rw [len_lt hi]
    exact fun q=>by rw [show (nmT m)=m.Topics.map (fun t:Tp=>t.Name) from rfl,hn] at q;cases q
  ·unfold headG
   simp only [Bool.or_eq_true,decide_eq_true_eq,not_or]
   exact⟨by omega,by omega,by omega⟩
 have e3:firstE (cfG m) m.Configs.length 0=none:=firstE_none0.2 fun i hi=>by
  have hc:=h.cf _ (rd_mem hi)
  unfold cfG
  rw [if_neg]
  ·split
   ·rfl
   ·rename_i h0
    have hj:i - 1<m.Configs.length:=by omega
    have hlt:cfLt m.Configs[i - 1] m.Configs[i]:=List.pairwise_iff_getElem.1 h.cs _ _ hj hi (by omega)
    rw [if_neg]
    rw [len_lt hi,len_lt hj]
    simp only [Bool.or_eq_true,Bool.and_eq_true,decide_eq_true_eq,not_or,not_and,geS_lt,Bool.not_eq_true',Bool.not_eq_false]
    rcases hlt with q |⟨q1,q2⟩
    ·exact⟨by omega,fun z=>by omega⟩
    ·exact⟨by omega,fun _=>q2⟩
  ·simp only [Bool.or_eq_true,Bool.and_eq_true,decide_eq_true_eq,not_or,Bool.not_eq_true',Bool.not_eq_false,not_and,Decidable.not_not]
   refine⟨fun z=> ?_,hc.2.1,by omega⟩
   rcases hc.1 with q |q
   ·exact q
   ·rw [z] at q;cases q
 have e4:firstE (dnG m) m.Done.length 0=none:=firstE_none0.2 fun i hi=>by
  have hd:=h.dn _ (rd_mem hi)
  have hn:=ne_pw (fun d:Dn=>(d.Client,d.Serial)) h.dd hi
  unfold dnG
  rw [if_neg]
  simp only [Bool.or_eq_true,decide_eq_true_eq,not_or]
  refine⟨by omega,by omega,by omega,by omega,by omega,by omega, ?_⟩
  rw [len_lt hi]
  exact fun q=>by rw [show (dnK m)=m.Done.map (fun d:Dn=>(d.Client,d.Serial)) from rfl,hn] at q;cases q
 unfold chkR
 rw [e1,e2,e3,e4]
 have:=h.dl
 simp only
 rw [if_neg (by omega)]
theorem okImg.i64 {m:Img}(h:okImg m):∀ c∈m.Configs,i64 c.Topic:=fun c hc=>by
 unfold G.i64
 rcases (h.cf c hc).1 with q |q
 ·rw [q];exact⟨by omega,by omega⟩
 ·unfold hasT findK at q
  obtain ⟨t,ht⟩:=Option.isSome_iff_exists.1 q
  have e:tpId t=c.Topic:=by simpa using List.find?_some ht
  have:=h.sortT.bound t (List.mem_of_find?_eq_some ht)
  omega
theorem sorted_len {α:Type}{key:α→Int}:∀ {l:List α}{a b:Int},l.Pairwise (fun x y=>key x<key y)→(∀ x∈l,a≤key x∧key x≤b)→a≤b+1→(l.length:Int)≤b - a+1
 |[],a,b,_,_,h=>by simp;omega
 |x::l,a,b,hp,hb,h=>by
  have h1:=List.pairwise_cons.1 hp
  have hx:=hb x (.head _)
  have:=sorted_len (key:=key) (a:=key x+1) (b:=b) h1.2 (fun y hy=>⟨by have:=h1.1 y hy;omega,(hb y (.tail _ hy)).2⟩) (by omega)
  simp only [List.length_cons];omega
theorem okImg.bl {m:Img}(h:okImg m):m.Brokers.length≤64:=by
 have:=sorted_len (key:=bkId) (a:=1) (b:=64) h.bs (fun x hx=>by have:=h.bk x hx;simp only [bkId];omega) (by omega)
 omega
theorem okImg.lim {m:Img}(h:okImg m) (hc:m.Configs.length≤1000000):limM m:=
 ⟨by have:=h.bl;omega,by have:=h.tn;omega,fun t ht=>by have:=h.tp t ht;omega,hc,by have:=h.dl;omega⟩
theorem check_nil {m:Img}(h:okImg m) (hc:m.Configs.length≤1000000):f_dump_Check m=some .nil:=by
 rw [check_ck (h.lim hc) h.i64,ok_chk h];rfl
def catE {α:Type}(f:α→List Int):List α→List Int
 |[]=>[]
 |x::l=>f x++catE f l
theorem catE_append {α:Type}(f:α→List Int):∀ l m:List α,catE f (l++m)=catE f l++catE f m
 |[],m=>rfl
 |x::l,m=>by simp only [List.cons_append,catE,catE_append f l m,List.append_assoc]
theorem catE_take {α:Type}(f:α→List Int){l:List α}{i:Nat}(hi:i<l.length):catE f (l.take (i+1))=catE f (l.take i)++f l[i]:=by
 rw [List.take_succ_eq_append_getElem hi,catE_append];simp [catE]
theorem catE_len {α:Type}(f:α→List Int) (k:Nat):∀ l:List α,(∀ x∈l,(f x).length≤k)→(catE f l).length≤k*l.length
 |[],_=>by simp [catE]
 |x::l,h=>by
  have h1:=catE_len f k l fun y hy=>h y (.tail _ hy)
  have h2:=h x (.head _)
  simp only [catE,List.length_append,List.length_cons,Nat.mul_add,Nat.mul_one];omega
theorem catE_ok {α:Type}(f:α→List Int):∀ l:List α,(∀ x∈l,okB (f x))→okB (catE f l)
 |[],_=>okB.nil
 |x::l,h=>(h x (.head _)).append (catE_ok f l fun y hy=>h y (.tail _ hy))
theorem catE_take_le {α:Type}(f:α→List Int):∀ (l:List α) (i:Nat),(catE f (l.take i)).length≤(catE f l).length
 |[],i=>by simp [catE]
 |x::l,0=>by simp [catE]
 |x::l,i+1=>by have:=catE_take_le f l i;simp only [List.take_succ_cons,catE,List.length_append];omega
def encBk (b:Bk):List Int:=intB b.Id++(intB b.Epoch++(textB (bytesOf b.Rack)++(flagB b.Fenced++flagB b.Leaving)))
def encPt (p:Pt):List Int:=rowB p.Ids++(rowB p.Isr++(intB p.Leader++(intB p.Epoch++(rowB p.Add++rowB p.Drop))))
def encTp (t:Tp):List Int:=intB t.Id++(textB (bytesOf t.Name)++(intB (t.Parts.length:Int)++catE encPt t.Parts))
def encCf (c:Cf):List Int:=intB c.Topic++(textB (bytesOf c.Key)++textB (bytesOf c.Value))
def encDn (d:Dn):List Int:=intB d.Client++(intB d.Serial++intB d.Code)
def enc16 (m:Img):List Int:=
 intB m.Last++(intB (m.Brokers.length:Int)++(catE encBk m.Brokers++(intB (m.Topics.length:Int)++(catE encTp m.Topics++(intB (m.Configs.length:Int)++(catE encCf m.Configs++(intB (m.Done.length:Int)++catE encDn m.Done)))))))
theorem encBk_ok (b:Bk):okB (encBk b):=(intB_ok _).append ((intB_ok _).append ((textB_ok (bytesOf_ok _)).append ((flagB_ok _).append (flagB_ok _))))
theorem encPt_ok (p:Pt):okB (encPt p):=(rowB_ok _).append ((rowB_ok _).append ((intB_ok _).append ((intB_ok _).append ((rowB_ok _).append (rowB_ok _)))))
theorem encTp_ok (t:Tp):okB (encTp t):=(intB_ok _).append ((textB_ok (bytesOf_ok _)).append ((intB_ok _).append (catE_ok _ _ fun p _=>encPt_ok p)))
theorem encCf_ok (c:Cf):okB (encCf c):=(intB_ok _).append ((textB_ok (bytesOf_ok _)).append (textB_ok (bytesOf_ok _)))
theorem encDn_ok (d:Dn):okB (encDn d):=(intB_ok _).append ((intB_ok _).append (intB_ok _))
theorem enc16_ok (m:Img):okB (enc16 m):=
 (intB_ok _).append ((intB_ok _).append ((catE_ok _ _ fun b _=>encBk_ok b).append ((intB_ok _).append ((catE_ok _ _ fun b _=>encTp_ok b).append ((intB_ok _).append ((catE_ok _ _ fun b _=>encCf_ok b).append ((intB_ok _).append (catE_ok _ _ fun b _=>encDn_ok b))))))))
theorem il (n:Int):(intB n).length≤8:=(intB_len n).1
theorem tl (s:ByteArray):(textB (bytesOf s)).length≤8+s.size:=by have:=textB_len (bytesOf s);rw [bytesOf_len] at this;exact this
theorem encBk_len {b:Bk}(h:nameV b.Rack=true):(encBk b).length≤100:=by
 have:=(nameV_size h).2
 have:=tl b.Rack;have:=il b.Id;have:=il b.Epoch;have:=flagB_len b.Fenced;have:=flagB_len b.Leaving
 unfold encBk;simp only [List.length_append];omega
theorem part1_t {p:Pt}(h:part1 p=true):brOk p.Ids∧brOk p.Isr∧brOk p.Add∧brOk p.Drop:=by
 unfold part1 at h
 simp only [Bool.and_eq_true] at h
 exact⟨brB_t.1 h.1.1.1,brB_t.1 h.1.1.2,brB_t.1 h.1.2,brB_t.1 h.2⟩
theorem encPt_len {p:Pt}(h:part1 p=true):(encPt p).length≤300:=by
 obtain ⟨h1,h2,h3,h4⟩:=part1_t h
 have:=rowB_len p.Ids;have:=rowB_len p.Isr;have:=rowB_len p.Add;have:=rowB_len p.Drop;have:=il p.Leader;have:=il p.Epoch
 have:=h1.1;have:=h2.1;have:=h3.1;have:=h4.1
 unfold encPt;simp only [List.length_append];omega
theorem encTp_len {t:Tp}(h:nameV t.Name=true) (hp:∀ p∈t.Parts,part1 p=true):(encTp t).length≤100+300*t.Parts.length:=by
 have:=(nameV_size h).2
 have:=tl t.Name;have:=il t.Id;have:=il (t.Parts.length:Int)
 have:=catE_len encPt 300 t.Parts fun p h=>encPt_len (hp p h)
 unfold encTp;simp only [List.length_append];omega
theorem encCf_len {c:Cf}(h:nameV c.Key=true) (h2:c.Value.size≤256):(encCf c).length≤400:=by
 have:=(nameV_size h).2
 have:=tl c.Key;have:=tl c.Value;have:=il c.Topic
 unfold encCf;simp only [List.length_append];omega
theorem encDn_len (d:Dn):(encDn d).length≤30:=by
 have:=il d.Client;have:=il d.Serial;have:=il d.Code
 unfold encDn;simp only [List.length_append];omega
def partsN (l:List Tp):Nat:=(l.map fun t=>t.Parts.length).sum
theorem catTp_len:∀ {l:List Tp},(∀ t∈l,nameV t.Name=true∧∀ p∈t.Parts,part1 p=true)→(catE encTp l).length≤100*l.length+300*partsN l
 |[],_=>by simp [catE]
 |t::l,h=>by
  have h1:=catTp_len (l:=l) fun y hy=>h y (.tail _ hy)
  have h2:=encTp_len (h t (.head _)).1 (h t (.head _)).2
  simp only [catE,List.length_append,List.length_cons,partsN,List.map_cons,List.sum_cons] at h1⊢;omega
theorem okImg.part1 {m:Img}(h:okImg m){t:Tp}(ht:t∈m.Topics){p:Pt}(hp:p∈t.Parts):G.part1 p=true:=by
 have:=(h.tp t ht).2.2.2.2 p hp
 unfold partV at this
 simp only [Bool.and_eq_true] at this
 exact this.1
theorem enc16_len {m:Img}(h:okImg m) (hc:m.Configs.length≤1000) (hp:partsN m.Topics≤1000):(enc16 m).length≤800000:=by
 have:=il m.Last;have:=il (m.Brokers.length:Int);have:=il (m.Topics.length:Int);have:=il (m.Configs.length:Int);have:=il (m.Done.length:Int)
 have:=catE_len encBk 100 m.Brokers fun b hb=>encBk_len (h.bk b hb).2.2.2.2.1
 have:=catTp_len (l:=m.Topics) fun t ht=>⟨(h.tp t ht).2.2.1,fun p hp=>h.part1 ht hp⟩
 have:=catE_len encCf 400 m.Configs fun c hc=>encCf_len (h.cf c hc).2.1 (h.cf c hc).2.2
 have:=catE_len encDn 30 m.Done fun d _=>encDn_len d
 have:=h.bl;have:=h.tn;have:=h.dl
 unfold enc16;simp only [List.length_append];omega
theorem put_loop {α:Type}{step:List Int×Int→Option ((List Int×Int)⊕List Int)}(f:α→List Int) (l:List α) (b:List Int) (hn:l.length≤1000000000)
  (hs:∀ i,(hi:i<l.length)→∀ c,c.length≤b.length+(catE f l).length→step (c,(i:Int))=some (.inl (c++f l[i],((i+1:Nat):Int)))) (he:∀ c,step (c,(l.length:Int))=some (.inr c)):
  iter step (b,(0:Int))=some (b++catE f l):=by
 have:=first_loop (step:=step) (n:=l.length) (st:=fun i=>(b++catE f (l.take i),(i:Int))) (g:=fun _=>(none:Option Unit)) (ex:=fun _=>[]) (fin:=b++catE f l)
  (fun i hi _=>by
   rw [hs i hi _ (by rw [List.length_append];have:=catE_take_le f l i;omega),catE_take f hi,List.append_assoc])
  (fun _=>by rw [he,List.take_length])
 rw [List.take_zero] at this
 simp only [catE,List.append_nil,nat0] at this
 rw [this]
 have:firstE (fun _=>(none:Option Unit)) l.length 0=none:=firstE_none0.2 fun _ _=>rfl
 rw [this];rfl
section
variable {m : Img}
theorem putB (h:okImg m) (b:List Int) (hb:b.length≤200000000):iter (f_dump_Put_l0 m) (b,(0:Int))=some (b++catE encBk m.Brokers):=by
 have hc:=catE_len encBk 100 m.Brokers fun b hb=>encBk_len (h.bk b hb).2.2.2.2.1
 have:=h.bl
 refine put_loop encBk m.Brokers b (by omega) (fun i hi c hc2=> ?_) (fun c=>by unfold f_dump_Put_l0;simp [lt_n])
 have hk:=h.bk _ (List.getElem_mem hi)
 have:=(nameV_size hk.2.2.2.2.1).2
 have e1:=il m.Brokers[i].Id;have e2:=il m.Brokers[i].Epoch;have e3:=tl m.Brokers[i].Rack;have e4:=flagB_len m.Brokers[i].Fenced;have e5:=bytesOf_len m.Brokers[i].Rack
 unfold f_dump_Put_l0
 simp only [lt_i hi,if_true,grd_t (in_i hi),succ_i64 hi (show m.Brokers.length≤1000000000 by omega),len_lt hi]
 rw [wint_eq _ _ (by omega) (by omega),Option.bind_some,wint_eq _ _ (by omega) (by simp only [List.length_append];omega),Option.bind_some,wtext_eq _ _ (by simp only [List.length_append];omega),Option.bind_some,Option.bind_some,
  wflag_eq _ _ (by simp only [List.length_append];omega),Option.bind_some,wflag_eq _ _ (by simp only [List.length_append];omega),Option.bind_some]
 unfold encBk
 simp only [List.append_assoc]
theorem putP (h:okImg m){i:Nat}(hi:i<m.Topics.length) (b:List Int) (hb:b.length≤200000000):iter (f_dump_Put_l2 m (i:Int)) (b,(0:Int))=some (b++catE encPt m.Topics[i].Parts):=by
 have ht:=h.tp _ (List.getElem_mem hi)
 have hc:=catE_len encPt 300 m.Topics[i].Parts fun p hp=>encPt_len (h.part1 (List.getElem_mem hi) hp)
 have hl:=ht.2.2.2.1
 refine put_loop encPt m.Topics[i].Parts b (by omega) (fun k hk c hc2=> ?_) (fun c=>by unfold f_dump_Put_l2;simp only [len_lt hi];simp [lt_n])
 have hp:=h.part1 (List.getElem_mem hi) (List.getElem_mem hk)
 obtain ⟨q1,q2,q3,q4⟩:=part1_t hp
 have w1:=rowB_len m.Topics[i].Parts[k].Ids;have w2:=rowB_len m.Topics[i].Parts[k].Isr;have w3:=rowB_len m.Topics[i].Parts[k].Add;have w4:=rowB_len m.Topics[i].Parts[k].Drop
 have w5:=il m.Topics[i].Parts[k].Leader;have w6:=il m.Topics[i].Parts[k].Epoch
 have z1:=q1.1;have z2:=q2.1;have z3:=q3.1;have z4:=q4.1
 have big:∀ {l:List Int},brOk l→∀ x∈l,x≤9223372036854775807:=fun hb x hx=>by have:=brOk_le hb x hx;omega
 have hv:=ht.2.2.2.2 _ (List.getElem_mem hk)
 have hle:m.Topics[i].Parts[k].Leader≤64:=by
  unfold partV part4 at hv
  simp only [Bool.and_eq_true,Bool.or_eq_true,decide_eq_true_eq] at hv
  rcases hv.2.2.2.2.1 with z |z
  ·omega
  ·have:=brOk_le q2 _ z.1;omega
 have hep:m.Topics[i].Parts[k].Epoch≤1073741824:=by
  unfold partV part2 at hv
  simp only [Bool.and_eq_true,Bool.not_eq_true',Bool.or_eq_false_iff,decide_eq_false_iff_not] at hv
  omega
 unfold f_dump_Put_l2
 simp only [len_lt hi]
 simp only [lt_i hk,if_true,grd_t (in_i hk),succ_i64 hk (show m.Topics[i].Parts.length≤1000000000 by omega),len_lt hk]
 rw [wrow_eq _ _ (big q1) (by omega) (by omega),Option.bind_some,wrow_eq _ _ (big q2) (by omega) (by simp only [List.length_append];omega),Option.bind_some,
  wint_eq _ _ (by omega) (by simp only [List.length_append];omega),Option.bind_some,wint_eq _ _ (by omega) (by simp only [List.length_append];omega),Option.bind_some,
  wrow_eq _ _ (big q3) (by omega) (by simp only [List.length_append];omega),Option.bind_some,wrow_eq _ _ (big q4) (by omega) (by simp only [List.length_append];omega),Option.bind_some]
 unfold encPt
 simp only [List.append_assoc]
theorem putT (h:okImg m) (b:List Int) (hb:b.length≤100000000):iter (f_dump_Put_l1 m) (b,(0:Int))=some (b++catE encTp m.Topics):=by
 have hc:(catE encTp m.Topics).length≤77000*m.Topics.length:=catE_len encTp 77000 m.Topics fun t ht=>by
  have:=encTp_len (h.tp t ht).2.2.1 (fun p hp=>h.part1 ht hp)
  have:=(h.tp t ht).2.2.2.1
  omega
 have hn:=h.tn
 refine put_loop encTp m.Topics b (by omega) (fun i hi c hc2=> ?_) (fun c=>by unfold f_dump_Put_l1;simp [lt_n])
 have ht:=h.tp _ (List.getElem_mem hi)
 have hl:=h.last
 have:=(nameV_size ht.2.2.1).2
 have e1:=il m.Topics[i].Id;have e2:=il (m.Topics[i].Parts.length:Int);have e3:=tl m.Topics[i].Name;have e5:=bytesOf_len m.Topics[i].Name
 have e6:=ht.2.2.2.1
 unfold f_dump_Put_l1
 simp only [lt_i hi,if_true,grd_t (in_i hi),succ_i64 hi (show m.Topics.length≤1000000000 by omega),len_lt hi]
 rw [wint_eq _ _ (by omega) (by omega),Option.bind_some,wtext_eq _ _ (by simp only [List.length_append];omega),Option.bind_some,wint_eq _ _ (by omega) (by simp only [List.length_append];omega),Option.bind_some,Option.bind_some,
  putP h hi _ (by simp only [List.length_append];omega),Option.bind_some,Option.bind_some]
 unfold encTp
 simp only [List.append_assoc]
theorem putC (h:okImg m) (hcn:m.Configs.length≤100000) (b:List Int) (hb:b.length≤200000000):iter (f_dump_Put_l3 m) (b,(0:Int))=some (b++catE encCf m.Configs):=by
 have hc:=catE_len encCf 400 m.Configs fun c hc=>encCf_len (h.cf c hc).2.1 (h.cf c hc).2.2
 refine put_loop encCf m.Configs b (by omega) (fun i hi c hc2=> ?_) (fun c=>by unfold f_dump_Put_l3;simp [lt_n])
 have hk:=h.cf _ (List.getElem_mem hi)
 have h6:=h.i64 _ (List.getElem_mem hi)
 have:=(nameV_size hk.2.1).2
 have e1:=il m.Configs[i].Topic;have e3:=tl m.Configs[i].Key;have e4:=tl m.Configs[i].Value;have e5:=bytesOf_len m.Configs[i].Key;have e6:=bytesOf_len m.Configs[i].Value
 unfold i64 at h6
 unfold f_dump_Put_l3
 simp only [lt_i hi,if_true,grd_t (in_i hi),succ_i64 hi (show m.Configs.length≤1000000000 by omega),len_lt hi]
 rw [wint_eq _ _ (by omega) (by omega),Option.bind_some,wtext_eq _ _ (by simp only [List.length_append];omega),Option.bind_some,wtext_eq _ _ (by simp only [List.length_append];omega),Option.bind_some,Option.bind_some]
 unfold encCf
 simp only [List.append_assoc]
theorem putD (h:okImg m) (b:List Int) (hb:b.length≤200000000):iter (f_dump_Put_l4 m) (b,(0:Int))=some (b++catE encDn m.Done):=by
 have hc:=catE_len encDn 30 m.Done fun d _=>encDn_len d
 have:=h.dl
 refine put_loop encDn m.Done b (by omega) (fun i hi c hc2=> ?_) (fun c=>by unfold f_dump_Put_l4;simp [lt_n])
 have hk:=h.dn _ (List.getElem_mem hi)
 have e1:=il m.Done[i].Client;have e2:=il m.Done[i].Serial;have e3:=il m.Done[i].Code
 unfold f_dump_Put_l4
 simp only [lt_i hi,if_true,grd_t (in_i hi),succ_i64 hi (show m.Done.length≤1000000000 by omega),len_lt hi]
 rw [wint_eq _ _ (by omega) (by omega),Option.bind_some,wint_eq _ _ (by omega) (by simp only [List.length_append];omega),Option.bind_some,wint_eq _ _ (by omega) (by simp only [List.length_append];omega),Option.bind_some]
 unfold encDn
 simp only [List.append_assoc]
theorem put16 (h:okImg m) (hcn:m.Configs.length≤1000) (hp:partsN m.Topics≤1000):f_dump_Put m=some (enc16 m, .nil):=by
 have hlen:=enc16_len h hcn hp
 have hl:=h.last;have:=h.bl;have:=h.tn;have:=h.dl
 have b1:=catE_len encBk 100 m.Brokers fun b hb=>encBk_len (h.bk b hb).2.2.2.2.1
 unfold f_dump_Put
 rw [check_nil h (by omega)]
 simp only [GErr.isNil,Bool.not_true,Bool.false_eq_true,if_false,Option.bind_some]
 have hx:=hlen
 unfold enc16 at hx
 simp only [List.length_append] at hx
 rw [wint_eq _ _ (by omega) (by simp),Option.bind_some,wint_eq _ _ (by omega) (by simp only [List.nil_append];omega),Option.bind_some,
  putB h _ (by simp only [List.nil_append,List.length_append];omega),Option.bind_some,Option.bind_some,
  wint_eq _ _ (by omega) (by simp only [List.nil_append,List.length_append];omega),Option.bind_some,putT h _ (by simp only [List.nil_append,List.length_append];omega),Option.bind_some,Option.bind_some,
  wint_eq _ _ (by omega) (by simp only [List.nil_append,List.length_append];omega),Option.bind_some,putC h (by omega) _ (by simp only [List.nil_append,List.length_append];omega),Option.bind_some,Option.bind_some,
  wint_eq _ _ (by omega) (by simp only [List.nil_append,List.length_append];omega),Option.bind_some,putD h _ (by simp only [List.nil_append,List.length_append];omega),Option.bind_some,Option.bind_some]
 unfold enc16
 simp only [List.append_assoc,List.nil_append]
end
section
variable {X : Type} {step : List X × Int × Int × GErr → Option ((List X × Int × Int × GErr) ⊕ (List X × Int × GErr))} {rdX : Int → GErr → Option (X × Int × GErr)} {n : Int}
def ManyStep (step:List X×Int×Int×GErr→Option ((List X×Int×Int×GErr)⊕(List X×Int×GErr))) (rdX:Int→GErr→Option (X×Int×GErr)) (n:Int):Prop:=
 ∀ (acc:List X) (i a:Int) (e:GErr),step (acc,i,a,e)=if(decide (i<n)&&e.isNil)=true then(rdX a e).bind fun r=>grd (acc.length+1≤274877906944) (some (.inl (acc++[r.1],IntKind.i64.wrap (i+1),r.2.1,r.2.2)))else some (.inr (acc,a,e))
theorem many_back (hst:ManyStep step rdX n){L:List X}{eX:X→List Int}{b pre post:List Int}(hn:n=(L.length:Int)) (hl:L.length≤1000000000) (eb:b=pre++(catE eX L++post))
  (hx:∀ x∈L,∀ pre' post',b=pre'++(eX x++post')→rdX (pre'.length:Int) .nil=some (x,((pre'++eX x).length:Int), .nil)):
  iter step ([],(0:Int),(pre.length:Int),GErr.nil)=some (L,((pre++catE eX L).length:Int), .nil):=by
 have:=first_loop (step:=step) (n:=L.length) (st:=fun i=>(L.take i,(i:Int),((pre++catE eX (L.take i)).length:Int),GErr.nil)) (g:=fun _=>(none:Option Unit)) (ex:=fun _=>([],0, .nil)) (fin:=(L,((pre++catE eX L).length:Int), .nil))
  (fun i hi _=>by
   have hr:=hx _ (List.getElem_mem hi) (pre++catE eX (L.take i)) (catE eX (L.drop (i+1))++post) (by
    rw [eb]
    conv=>lhs;rw [←List.take_append_drop i L,List.drop_eq_getElem_cons hi,catE_append]
    simp only [catE,List.append_assoc])
   rw [hst,hn,lt_i hi]
   simp only [GErr.isNil,Bool.and_self,if_true]
   rw [hr,Option.bind_some]
   simp only
   rw [grd_t (by rw [List.length_take];omega),succ_i64 hi hl,←List.take_succ_eq_append_getElem hi,catE_take eX hi,List.append_assoc])
  (fun _=>by rw [hst,hn,lt_n];simp [List.take_length])
 simp only [List.take_zero,catE,List.append_nil,nat0] at this
 rw [this]
 have:firstE (fun _=>(none:Option Unit)) L.length 0=none:=firstE_none0.2 fun _ _=>rfl
 rw [this];rfl
end
theorem if_and3 (a b:Bool){β:Type}{A B:Option β}:(((if a=true then some b else some false):Option Bool).bind fun x=>if x=true then A else B)=if(a&&b)=true then A else B:=by cases a<;>cases b<;>rfl
theorem stepBk (r:T_wire_Reader) (n:Int):ManyStep (f_dump_many_api_Broker_Read_4_Read_1_Read_2_l0 r n) (fun a e=>f_dump_Read_4_Read_1_Read_2 ⟨r.b,a,e⟩) n:=fun acc i a e=>by
 unfold f_dump_many_api_Broker_Read_4_Read_1_Read_2_l0
 exact if_and3 _ _
theorem stepPt (r:T_wire_Reader) (n:Int):ManyStep (f_dump_many_api_Part_Read_5_Read_3_Read_1_l0 r n) (fun a e=>f_dump_Read_5_Read_3_Read_1 ⟨r.b,a,e⟩) n:=fun acc i a e=>by
 unfold f_dump_many_api_Part_Read_5_Read_3_Read_1_l0
 exact if_and3 _ _
theorem stepTp (r:T_wire_Reader) (n:Int):ManyStep (f_dump_many_api_Topic_Read_6_Read_1_Read_2_Read_5_Read_3_l0 r n) (fun a e=>f_dump_Read_6_Read_1_Read_2_Read_5_Read_3 ⟨r.b,a,e⟩) n:=fun acc i a e=>by
 unfold f_dump_many_api_Topic_Read_6_Read_1_Read_2_Read_5_Read_3_l0
 exact if_and3 _ _
theorem stepCf (r:T_wire_Reader) (n:Int):ManyStep (f_dump_many_api_Config_Read_7_Read_1_Read_2_l0 r n) (fun a e=>f_dump_Read_7_Read_1_Read_2 ⟨r.b,a,e⟩) n:=fun acc i a e=>by
 unfold f_dump_many_api_Config_Read_7_Read_1_Read_2_l0
 exact if_and3 _ _
theorem stepDn (r:T_wire_Reader) (n:Int):ManyStep (f_dump_many_api_Done_Read_8_Read_1_l0 r n) (fun a e=>f_dump_Read_8_Read_1 ⟨r.b,a,e⟩) n:=fun acc i a e=>by
 unfold f_dump_many_api_Done_Read_8_Read_1_l0
 exact if_and3 _ _
theorem partV_b {m:Img}{p:Pt}(h:partV m p=true):part1 p=true∧(0≤p.Leader∧p.Leader≤1073741824)∧(0≤p.Epoch∧p.Epoch≤1073741824):=by
 have h0:=h
 unfold partV part2 part4 at h
 simp only [Bool.and_eq_true,Bool.not_eq_true',Bool.or_eq_false_iff,Bool.or_eq_true,decide_eq_false_iff_not,decide_eq_true_eq] at h
 refine⟨h.1, ?_,by omega⟩
 rcases h.2.2.2.2.1 with z |z
 ·omega
 ·have:=brOk_le (part1_t h.1).2.1 _ z.1;omega
section
variable {b pre post : List Int} (hb : okB b) (hl : b.length ≤ 1000000)
include hb hl
theorem bkI {n:Int}(e:b=pre++(intB n++post)) (h0:0≤n) (h1:n≤1073741824):f_dump_Read_1 ⟨b,(pre.length:Int), .nil⟩=some (n,((pre++intB n).length:Int), .nil):=by
 unfold f_dump_Read_1
 rw [backI hb hl e h0 (by unfold top;omega) h1 (by omega)];rfl
theorem bkN {s:ByteArray}(e:b=pre++(textB (bytesOf s)++post)) (h:nameV s=true):f_dump_Read_2 ⟨b,(pre.length:Int), .nil⟩=some (s,((pre++textB (bytesOf s)).length:Int), .nil):=by
 have:=(nameV_size h).2
 unfold f_dump_Read_2
 rw [backT hb hl e (by rw [bytesOf_len];omega) (by omega),Option.bind_some]
 simp only [str_bytes]
theorem bkR {l:List Int}(e:b=pre++(rowB l++post)) (h:brOk l):f_dump_Read_3 ⟨b,(pre.length:Int), .nil⟩=some (l,((pre++rowB l).length:Int), .nil):=by
 have:=h.1
 unfold f_dump_Read_3
 rw [backR hb hl e (by omega) (by omega) (by unfold top;omega) (fun x hx=>by have:=brOk_le h x hx;omega)];rfl
theorem rdBk {x:Bk}(h:1≤x.Id∧x.Id≤64∧0≤x.Epoch∧x.Epoch≤1073741824∧nameV x.Rack=true) (e:b=pre++(encBk x++post)):f_dump_Read_4_Read_1_Read_2 ⟨b,(pre.length:Int), .nil⟩=some (x,((pre++encBk x).length:Int), .nil):=by
 unfold encBk at e⊢
 simp only [List.append_assoc] at e
 unfold f_dump_Read_4_Read_1_Read_2
 have e1:=nxt e;have e2:=nxt e1;have e3:=nxt e2;have e4:=nxt e3
 rw [bkI hb hl e (by omega) (by omega),Option.bind_some];simp only
 rw [bkI hb hl e1 (by omega) (by omega),Option.bind_some];simp only
 rw [bkN hb hl e2 h.2.2.2.2,Option.bind_some];simp only
 rw [backF hb hl e3,Option.bind_some];simp only
 rw [backF hb hl e4,Option.bind_some]
 simp only [List.append_assoc]
theorem rdPt {x:Pt}(h:part1 x=true) (h1:0≤x.Leader∧x.Leader≤1073741824) (h2:0≤x.Epoch∧x.Epoch≤1073741824) (e:b=pre++(encPt x++post)):f_dump_Read_5_Read_3_Read_1 ⟨b,(pre.length:Int), .nil⟩=some (x,((pre++encPt x).length:Int), .nil):=by
 obtain ⟨q1,q2,q3,q4⟩:=part1_t h
 unfold encPt at e⊢
 simp only [List.append_assoc] at e
 unfold f_dump_Read_5_Read_3_Read_1
 have e1:=nxt e;have e2:=nxt e1;have e3:=nxt e2;have e4:=nxt e3;have e5:=nxt e4
 rw [bkR hb hl e q1,Option.bind_some];simp only
 rw [bkR hb hl e1 q2,Option.bind_some];simp only
 rw [bkI hb hl e2 h1.1 h1.2,Option.bind_some];simp only
 rw [bkI hb hl e3 h2.1 h2.2,Option.bind_some];simp only
 rw [bkR hb hl e4 q3,Option.bind_some];simp only
 rw [bkR hb hl e5 q4,Option.bind_some]
 simp only [List.append_assoc]
theorem mnPt {l:List Pt}(hn:l.length≤256) (hv:∀ p∈l,part1 p=true∧(0≤p.Leader∧p.Leader≤1073741824)∧(0≤p.Epoch∧p.Epoch≤1073741824)) (e:b=pre++(intB (l.length:Int)++(catE encPt l++post))):
  f_dump_many_api_Part_Read_5_Read_3_Read_1 ⟨b,(pre.length:Int), .nil⟩ 256=some (l,((pre++(intB (l.length:Int)++catE encPt l)).length:Int), .nil):=by
 unfold f_dump_many_api_Part_Read_5_Read_3_Read_1
 rw [backI hb hl e (by omega) (by unfold top;omega) (by omega) (by omega),Option.bind_some]
 simp only
 rw [many_back (stepPt _ _) rfl (by omega) (nxt e) (fun x hx pre' post' e'=>rdPt hb hl (hv x hx).1 (hv x hx).2.1 (hv x hx).2.2 e')]
 simp only [Option.bind_some,List.append_assoc]
theorem rdTp {x:Tp}(h:1≤x.Id∧x.Id≤1073741824) (h2:nameV x.Name=true) (hn:x.Parts.length≤256) (hv:∀ p∈x.Parts,part1 p=true∧(0≤p.Leader∧p.Leader≤1073741824)∧(0≤p.Epoch∧p.Epoch≤1073741824)) (e:b=pre++(encTp x++post)):
  f_dump_Read_6_Read_1_Read_2_Read_5_Read_3 ⟨b,(pre.length:Int), .nil⟩=some (x,((pre++encTp x).length:Int), .nil):=by
 unfold encTp at e⊢
 simp only [List.append_assoc] at e
 unfold f_dump_Read_6_Read_1_Read_2_Read_5_Read_3
 have e1:=nxt e;have e2:=nxt e1
 rw [bkI hb hl e (by omega) (by omega),Option.bind_some];simp only
 rw [bkN hb hl e1 h2,Option.bind_some];simp only
 rw [mnPt hb hl hn hv e2,Option.bind_some]
 simp only [List.append_assoc]
theorem rdCf {x:Cf}(h:0≤x.Topic∧x.Topic≤1073741824) (h2:nameV x.Key=true) (h3:x.Value.size≤256) (e:b=pre++(encCf x++post)):f_dump_Read_7_Read_1_Read_2 ⟨b,(pre.length:Int), .nil⟩=some (x,((pre++encCf x).length:Int), .nil):=by
 unfold encCf at e⊢
 simp only [List.append_assoc] at e
 unfold f_dump_Read_7_Read_1_Read_2
 have e1:=nxt e;have e2:=nxt e1
 rw [bkI hb hl e h.1 h.2,Option.bind_some];simp only
 rw [bkN hb hl e1 h2,Option.bind_some];simp only
 rw [backT hb hl e2 (by rw [bytesOf_len];omega) (by omega),Option.bind_some]
 simp only [List.append_assoc,str_bytes]
theorem rdDn {x:Dn}(h:1≤x.Client∧x.Client≤1073741824∧1≤x.Serial∧x.Serial≤1073741824∧0≤x.Code∧x.Code≤21) (e:b=pre++(encDn x++post)):f_dump_Read_8_Read_1 ⟨b,(pre.length:Int), .nil⟩=some (x,((pre++encDn x).length:Int), .nil):=by
 unfold encDn at e⊢
 simp only [List.append_assoc] at e
 unfold f_dump_Read_8_Read_1
 have e1:=nxt e;have e2:=nxt e1
 rw [bkI hb hl e (by omega) (by omega),Option.bind_some];simp only
 rw [bkI hb hl e1 (by omega) (by omega),Option.bind_some];simp only
 rw [bkI hb hl e2 (by omega) (by omega),Option.bind_some]
 simp only [List.append_assoc]
end
abbrev iz:Img:=⟨[],[],[],[],0⟩
theorem okImg.cfT {m:Img}(h:okImg m){c:Cf}(hc:c∈m.Configs):0≤c.Topic∧c.Topic≤1073741824:=by
 rcases (h.cf c hc).1 with q |q
 ·omega
 ·unfold hasT findK at q
  obtain ⟨t,ht⟩:=Option.isSome_iff_exists.1 q
  have e:tpId t=c.Topic:=by simpa using List.find?_some ht
  have:=h.sortT.bound t (List.mem_of_find?_eq_some ht)
  omega
theorem read16_pre {m:Img}(h:okImg m) (hcn:m.Configs.length≤1000){b post:List Int}(hb:okB b) (hl:b.length≤1000000) (e:b=[]++(enc16 m++post)):
  f_dump_Read b=(f_wire_Reader_End ⟨b,((enc16 m).length:Int), .nil⟩).bind fun(r69,r70)=>(if(!r69.isNil)=true then(some ((⟨[],[],[],[],(0:Int)⟩:T_api_Image),r69))else((f_dump_Check m).bind fun r80=>(if(!r80.isNil)=true then((f_fault_Wrap (⟨#[105,109,97,103,101]⟩:ByteArray) (b.length:Int) r80).bind fun r98=>(some ((⟨[],[],[],[],(0:Int)⟩:T_api_Image),r98)))else(some (m,GErr.nil))))):=by
 have hL:=h.last;have hB:=h.bl;have hT:=h.tn;have hD:=h.dl
 have e0:=e
 unfold enc16 at e0
 simp only [List.append_assoc] at e0
 have e1:=nxt e0;have e2:=nxt e1;have e3:=nxt e2;have e4:=nxt e3;have e5:=nxt e4;have e6:=nxt e5;have e7:=nxt e6;have e8:=nxt e7
 have n0:(0:Int)=(([]:List Int).length:Int):=rfl
 unfold f_dump_Read
 rw [show f_wire_Read b=some (⟨b,(([]:List Int).length:Int), .nil⟩:T_wire_Reader) from rfl,Option.bind_some]
 rw [bkI hb hl e0 hL.1 hL.2,Option.bind_some];simp only
 unfold f_dump_many_api_Broker_Read_4_Read_1_Read_2
 rw [backI hb hl e1 (by omega) (by unfold top;omega) (by omega) (by omega),Option.bind_some];simp only
 rw [many_back (stepBk _ _) rfl (by omega) e2 (fun x hx pre' post' e'=>rdBk hb hl (by have:=h.bk x hx;exact⟨this.1,this.2.1,this.2.2.1,this.2.2.2.1,this.2.2.2.2.1⟩) e')]
 simp only [Option.bind_some]
 unfold f_dump_many_api_Topic_Read_6_Read_1_Read_2_Read_5_Read_3
 rw [backI hb hl e3 (by omega) (by unfold top;omega) (by omega) (by omega),Option.bind_some];simp only
 rw [many_back (stepTp _ _) rfl (by omega) e4 (fun x hx pre' post' e'=>rdTp hb hl (by have:=h.tp x hx;omega) (h.tp x hx).2.2.1 (h.tp x hx).2.2.2.1 (fun p hp=>partV_b ((h.tp x hx).2.2.2.2 p hp)) e')]
 simp only [Option.bind_some]
 unfold f_dump_many_api_Config_Read_7_Read_1_Read_2
 rw [backI hb hl e5 (by omega) (by unfold top;omega) (by omega) (by omega),Option.bind_some];simp only
 rw [many_back (stepCf _ _) rfl (by omega) e6 (fun x hx pre' post' e'=>rdCf hb hl (h.cfT hx) (h.cf x hx).2.1 (h.cf x hx).2.2 e')]
 simp only [Option.bind_some]
 unfold f_dump_many_api_Done_Read_8_Read_1
 rw [backI hb hl e7 (by omega) (by unfold top;omega) (by omega) (by omega),Option.bind_some];simp only
 rw [many_back (stepDn _ _) rfl (by omega) e8 (fun x hx pre' post' e'=>rdDn hb hl (h.dn x hx) e')]
 simp only [Option.bind_some]
 have el:([]++intB m.Last++intB (m.Brokers.length:Int)++catE encBk m.Brokers++intB (m.Topics.length:Int)++catE encTp m.Topics++intB (m.Configs.length:Int)++catE encCf m.Configs++intB (m.Done.length:Int)++catE encDn m.Done)=enc16 m:=by
  unfold enc16;simp only [List.append_assoc,List.nil_append]
 rw [el]
theorem read16 {m:Img}(h:okImg m) (hcn:m.Configs.length≤1000) (hp:partsN m.Topics≤1000):f_dump_Read (enc16 m)=some (m, .nil):=by
 have hlen:=enc16_len h hcn hp
 rw [read16_pre h hcn (b:=enc16 m) (post:=[]) (enc16_ok m) (by omega) (by simp),backE rfl,Option.bind_some]
 simp only [GErr.isNil,Bool.not_true,Bool.false_eq_true,if_false]
 rw [check_nil h (by omega)]
 simp [GErr.isNil]
theorem find_loop {α ε:Type}[Inhabited α]{l:List α}{p:α→Bool}{f:α→ε}{step:Int→Option (Int⊕(Unit⊕ε))}
  (hs:∀ i:Nat,(hi:i<l.length)→step (i:Int)=some (if p l[i]=true then .inr (.inr (f l[i]))else .inl ((i+1:Nat):Int))) (he:step (l.length:Int)=some (.inr (.inl ()))):
  iter step 0=some (pickE (.inl ()) .inr ((l.find? p).map f)):=by
 have:=first_loop (step:=step) (n:=l.length) (st:=fun i=>(i:Int)) (g:=fun i=>if p (rd l (i:Int))=true then some (f (rd l (i:Int)))else none) (ex:=fun e=> .inr e) (fin:= .inl ())
  (fun i hi _=>by
   rw [hs i hi,len_lt hi]
   cases p l[i]<;>rfl) (fun _=>he)
 rw [nat0,firstE_list0 l (fun x=>if p x=true then some (f x)else none),findSome_find] at this
 exact this
section
variable {m : Img}
theorem rBroker (hl:m.Brokers.length≤1000000000) (t:Int):f_ref15_Broker m t=some (getV bz (findK bkId m.Brokers t)):=by
 unfold f_ref15_Broker
 rw [find_loop (l:=m.Brokers) (p:=fun x=>decide (bkId x=t)) (f:=fun x=>(x.Id,x.Epoch,x.Rack,x.Fenced,x.Leaving))]
 ·unfold findK
  cases m.Brokers.find? fun x=>decide (bkId x=t)<;>rfl
 ·intro i hi
  unfold f_ref15_Broker_l0
  simp only [lt_i hi,if_true,grd_t (in_i hi),succ_i64 hi hl,len_lt hi]
  show (if decide (bkId m.Brokers[i]=t)=true then _ else _)=_
  cases decide (bkId m.Brokers[i]=t)<;>rfl
 ·unfold f_ref15_Broker_l0;simp [lt_n]
theorem rTopic (hl:m.Topics.length≤1000000000) (t:Int):f_ref15_Topic m t=some (getV tz (findK tpId m.Topics t)):=by
 unfold f_ref15_Topic
 rw [find_loop (l:=m.Topics) (p:=fun x=>decide (tpId x=t)) (f:=fun x=>(x.Id,x.Name,x.Parts))]
 ·unfold findK
  cases m.Topics.find? fun x=>decide (tpId x=t)<;>rfl
 ·intro i hi
  unfold f_ref15_Topic_l0
  simp only [lt_i hi,if_true,grd_t (in_i hi),succ_i64 hi hl,len_lt hi]
  show (if decide (tpId m.Topics[i]=t)=true then _ else _)=_
  cases decide (tpId m.Topics[i]=t)<;>rfl
 ·unfold f_ref15_Topic_l0;simp [lt_n]
def namedV (m:Img) (s:ByteArray):Bool:=m.Topics.any fun t=>decide (t.Name=s)
theorem find_any {α:Type}(l:List α) (p:α→Bool):(l.find? p).isSome=l.any p:=by
 induction l with
 |nil=>rfl
 |cons x l ih=>rw [List.find?_cons,List.any_cons];cases p x<;>simp [ih]
theorem rNamed (hl:m.Topics.length≤1000000000) (s:ByteArray):∃ t,f_ref15_Named m s=some (t,namedV m s):=by
 unfold f_ref15_Named
 rw [find_loop (l:=m.Topics) (p:=fun x=>decide (x.Name=s)) (f:=fun x=>(x.Id,x.Name,x.Parts))]
 ·unfold namedV
  rw [←find_any]
  cases m.Topics.find? fun x=>decide (x.Name=s)<;>exact⟨_,rfl⟩
 ·intro i hi
  unfold f_ref15_Named_l0
  simp only [lt_i hi,if_true,grd_t (in_i hi),succ_i64 hi hl,len_lt hi]
  cases decide (m.Topics[i].Name=s)<;>rfl
 ·unfold f_ref15_Named_l0;simp [lt_n]
def cfIs (t:Int) (k:ByteArray) (c:Cf):Bool:=decide (c.Topic=t)&&decide (c.Key=k)
def confV (m:Img) (t:Int) (k:ByteArray):Bool:=m.Configs.any (cfIs t k)
theorem rConfig (hl:m.Configs.length≤1000000000) (t:Int) (k:ByteArray):∃ v,f_ref15_Config m t k=some (v,confV m t k):=by
 unfold f_ref15_Config
 rw [find_loop (l:=m.Configs) (p:=cfIs t k) (f:=fun x=>x.Value)]
 ·unfold confV
  rw [←find_any]
  cases m.Configs.find? (cfIs t k)<;>exact⟨_,rfl⟩
 ·intro i hi
  unfold f_ref15_Config_l0
  simp only [lt_i hi,if_true,grd_t (in_i hi),succ_i64 hi hl,len_lt hi,if_and,Option.bind_some]
  show (if cfIs t k m.Configs[i]=true then _ else _)=_
  cases cfIs t k m.Configs[i]<;>rfl
 ·unfold f_ref15_Config_l0;simp [lt_n]
def dnIs (c s:Int) (d:Dn):Bool:=decide (d.Client=c)&&decide (d.Serial=s)
def answV (m:Img) (c s:Int):Bool:=m.Done.any (dnIs c s)
theorem rAnswered (hl:m.Done.length≤1000000000) (c s:Int):∃ v,f_ref15_Answered m c s=some (v,answV m c s):=by
 unfold f_ref15_Answered
 rw [find_loop (l:=m.Done) (p:=dnIs c s) (f:=fun x=>x.Code)]
 ·unfold answV
  rw [←find_any]
  cases m.Done.find? (dnIs c s)<;>exact⟨_,rfl⟩
 ·intro i hi
  unfold f_ref15_Answered_l0
  simp only [lt_i hi,if_true,grd_t (in_i hi),succ_i64 hi hl,len_lt hi,if_and,Option.bind_some]
  show (if dnIs c s m.Done[i]=true then _ else _)=_
  cases dnIs c s m.Done[i]<;>rfl
 ·unfold f_ref15_Answered_l0;simp [lt_n]
theorem rAlive (hl:m.Brokers.length≤1000000000) (t:Int):f_ref15_Alive m t=some (aliveV m t):=by
 unfold f_ref15_Alive aliveV
 rw [rBroker hl]
 cases findK bkId m.Brokers t<;>rfl
end
theorem any_loop {ε:Type}{step:Int→Option (Int⊕(Unit⊕Unit))}{n:Nat}{p:Nat→Bool}{A:ε}(hs:∀ i:Nat,i<n→step (i:Int)=some (if p i=true then .inr (.inr ())else .inl ((i+1:Nat):Int))) (he:step (n:Int)=some (.inr (.inl ()))){K:Option ε}(b:Bool)
  (hb:b=true↔∃ i,i<n∧p i=true):
  ((((iter step (0:Int)).bind (Sum.elim (fun _=>(some (Sum.inl ()))) (fun _=>(((some A)).bind fun r=>some (Sum.inr r))))):Option (Unit⊕ε)).bind (Sum.elim (fun _=>K) some))=if b=true then some A else K:=by
 rw [bool_loop (step:=step) (n:=n) (p:=fun i=> !p i) (b:= !b) (fun i hi=>by rw [hs i hi];cases p i<;>rfl) he]
 ·cases b<;>rfl
 ·constructor
  ·intro h i hi
   cases q:p i
   ·rfl
   ·rw [hb.2 ⟨i,hi,q⟩] at h;cases h
  ·intro h
   cases q:b
   ·rfl
   ·obtain ⟨i,hi,k⟩:=hb.1 q
    have:=h i hi
    rw [k] at this;cases this
theorem any_idx {α:Type}{l:List α}{p:α→Bool}{q:Nat→Bool}(h:∀ i,(hi:i<l.length)→q i=p l[i]):l.any p=true↔∃ i,i<l.length∧q i=true:=by
 rw [List.any_eq_true]
 constructor
 ·rintro ⟨x,hx,hp⟩;obtain ⟨i,hi,rfl⟩:=List.getElem_of_mem hx;exact⟨i,hi,by rw [h i hi];exact hp⟩
 ·rintro ⟨i,hi,hq⟩;exact⟨_,List.getElem_mem hi,by rw [←h i hi];exact hq⟩
theorem rHas (l:List Int) (x:Int) (hl:l.length≤1000000000):f_ref15_Has l x=some (decide (x∈l)):=by
 unfold f_ref15_Has
 rw [any_loop (step:=f_ref15_Has_l0 l x) (n:=l.length) (p:=fun i=>decide (rd l (i:Int)=x)) (b:=decide (x∈l))]
 ·cases decide (x∈l)<;>rfl
 ·intro i hi
  unfold f_ref15_Has_l0
  simp only [lt_i hi,if_true,grd_t (in_i hi),succ_i64 hi hl]
  cases decide (rd l (i:Int)=x)<;>rfl
 ·unfold f_ref15_Has_l0;simp [lt_n]
 ·rw [decide_eq_true_eq]
  constructor
  ·intro h;obtain ⟨i,hi,rfl⟩:=mem_rd h;exact⟨i,hi,decide_eq_true rfl⟩
  ·rintro ⟨i,hi,h⟩;rw [←of_decide_eq_true h];exact rd_mem hi
section
variable {m : Img}
theorem rLeads (h:limM m) (id:Int):f_ref15_Leads m id=some (leadsV m id):=by
 unfold f_ref15_Leads
 have h1:=h.tp
 rw [any_loop (step:=f_ref15_Leads_l0 m id) (n:=m.Topics.length) (p:=fun i=>(rd m.Topics (i:Int)).Parts.any fun p=>decide (p.Leader=id)) (b:=leadsV m id)]
 ·cases leadsV m id<;>rfl
 ·intro i hi
  have h2:=h.pt _ (rd_mem hi)
  unfold f_ref15_Leads_l0
  simp only [lt_i hi,if_true,succ_i64 hi (show m.Topics.length≤1000000000 by omega)]
  refine(any_loop (step:=f_ref15_Leads_l1 m id (i:Int)) (n:=(rd m.Topics (i:Int)).Parts.length) (p:=fun k=>decide ((rd (rd m.Topics (i:Int)).Parts (k:Int)).Leader=id)) (A:=Sum.inr (Sum.inr ())) (K:=some (Sum.inl ((i+1:Nat):Int))) (b:=(rd m.Topics (i:Int)).Parts.any fun p=>decide (p.Leader=id)) ?_ ?_ ?_).trans ?_
  rotate_left 3
  ·cases ((rd m.Topics (i:Int)).Parts.any fun p=>decide (p.Leader=id))<;>rfl
  ·intro k hk
   unfold f_ref15_Leads_l1
   simp only [grd_t (in_i hi),lt_i hk,if_true,grd_t (in_i hk),succ_i64 hk (show (rd m.Topics (i:Int)).Parts.length≤1000000000 by omega)]
   cases decide ((rd (rd m.Topics (i:Int)).Parts (k:Int)).Leader=id)<;>rfl
  ·unfold f_ref15_Leads_l1;simp only [grd_t (in_i hi)];simp [lt_n]
  ·exact any_idx fun k hk=>by rw [len_lt hk]
 ·unfold f_ref15_Leads_l0;simp [lt_n]
 ·exact any_idx fun i hi=>by rw [len_lt hi]
def usedV (m:Img) (id:Int):Bool:=m.Topics.any fun t=>t.Parts.any fun p=>decide (id∈p.Ids)
theorem rUsed (h:limM m) (hp:∀ t∈m.Topics,∀ p∈t.Parts,p.Ids.length≤1000000) (id:Int):f_ref15_used m id=some (usedV m id):=by
 unfold f_ref15_used
 have h1:=h.tp
 rw [any_loop (step:=f_ref15_used_l0 m id) (n:=m.Topics.length) (p:=fun i=>(rd m.Topics (i:Int)).Parts.any fun p=>decide (id∈p.Ids)) (b:=usedV m id)]
 ·cases usedV m id<;>rfl
 ·intro i hi
  have h2:=h.pt _ (rd_mem hi)
  unfold f_ref15_used_l0
  simp only [lt_i hi,if_true,succ_i64 hi (show m.Topics.length≤1000000000 by omega)]
  refine(any_loop (step:=f_ref15_used_l1 m id (i:Int)) (n:=(rd m.Topics (i:Int)).Parts.length) (p:=fun k=>decide (id∈(rd (rd m.Topics (i:Int)).Parts (k:Int)).Ids)) (A:=Sum.inr (Sum.inr ())) (K:=some (Sum.inl ((i+1:Nat):Int))) (b:=(rd m.Topics (i:Int)).Parts.any fun p=>decide (id∈p.Ids)) ?_ ?_ ?_).trans ?_
  rotate_left 3
  ·cases ((rd m.Topics (i:Int)).Parts.any fun p=>decide (id∈p.Ids))<;>rfl
  ·intro k hk
   have h3:=hp _ (rd_mem hi) _ (rd_mem hk)
   unfold f_ref15_used_l1
   simp only [grd_t (in_i hi),lt_i hk,if_true,grd_t (in_i hk),succ_i64 hk (show (rd m.Topics (i:Int)).Parts.length≤1000000000 by omega)]
   rw [rHas _ _ (by omega),Option.bind_some]
   cases decide (id∈(rd (rd m.Topics (i:Int)).Parts (k:Int)).Ids)<;>rfl
  ·unfold f_ref15_used_l1;simp only [grd_t (in_i hi)];simp [lt_n]
  ·exact any_idx fun k hk=>by rw [len_lt hk]
 ·unfold f_ref15_used_l0;simp [lt_n]
 ·exact any_idx fun i hi=>by rw [len_lt hi]
structure limP (p:Pt):Prop where
 ids:p.Ids.length≤1000000
 isr:p.Isr.length≤1000000
 add:p.Add.length≤1000000
 drop:p.Drop.length≤1000000
def addV (p:Pt):Bool:=p.Add.all fun x=>decide (x∈p.Ids)&& !decide (x∈p.Drop)
def rightV (m:Img) (p:Pt):Int:=
 if(p.Ids.length:Int)=0 then 18
 else if(p.Ids.all fun x=>hasB m x)=true then
  if(p.Isr.length:Int)=0 then 18
  else if withinV p.Isr p.Ids=true then
   if part4 m p=true then
    if addV p=true then if withinV p.Drop p.Ids=true then 0 else 18 else 18
   else 17
  else 18
 else 18
theorem rRight (hl:m.Brokers.length≤1000000000){p:Pt}(hp:limP p):f_ref15_Right m p=some (rightV m p):=by
 have l1:=hp.ids;have l2:=hp.isr;have l3:=hp.add;have l4:=hp.drop
 unfold f_ref15_Right rightV
 by_cases g1:(p.Ids.length:Int)=0
 ·rw [if_pos (decide_eq_true g1),if_pos g1]
 rw [if_neg (fun q=>g1 (of_decide_eq_true q)),if_neg g1]
 refine(bool_loop (step:=f_ref15_Right_l0 m p) (n:=p.Ids.length) (p:=fun i=>hasB m (rd p.Ids (i:Int))) (A:=(18:Int)) (b:=p.Ids.all fun x=>hasB m x) ?_ ?_ ?_).trans ?_
 ·intro i hi
  unfold f_ref15_Right_l0
  simp only [lt_i hi,if_true,grd_t (in_i hi),succ_i64 hi (show p.Ids.length≤1000000000 by omega),rBroker hl]
  unfold hasB
  cases findK bkId m.Brokers (rd p.Ids (i:Int))<;>rfl
 ·unfold f_ref15_Right_l0;simp [lt_n]
 ·exact all_idx fun i hi=>by rw [len_lt hi]
 by_cases g2:(p.Ids.all fun x=>hasB m x)=true
 rotate_left
 ·rw [if_neg g2,if_neg g2]
 rw [if_pos g2,if_pos g2]
 by_cases g3:(p.Isr.length:Int)=0
 ·rw [if_pos (decide_eq_true g3),if_pos g3]
 rw [if_neg (fun q=>g3 (of_decide_eq_true q)),if_neg g3]
 refine(bool_loop (step:=f_ref15_Right_l1 p) (n:=p.Isr.length) (p:=fun i=>decide (rd p.Isr (i:Int)∈p.Ids)) (A:=(18:Int)) (b:=withinV p.Isr p.Ids) ?_ ?_ ?_).trans ?_
 ·intro i hi
  unfold f_ref15_Right_l1
  simp only [lt_i hi,if_true,grd_t (in_i hi),succ_i64 hi (show p.Isr.length≤1000000000 by omega),rHas _ _ (show p.Ids.length≤1000000000 by omega),Option.bind_some]
  cases decide (rd p.Isr (i:Int)∈p.Ids)<;>rfl
 ·unfold f_ref15_Right_l1;simp [lt_n]
 ·exact all_idx fun i hi=>by rw [len_lt hi]
 by_cases g4:withinV p.Isr p.Ids=true
 rotate_left
 ·rw [if_neg g4,if_neg g4]
 rw [if_pos g4,if_pos g4]
 have hA:((if decide (p.Leader≠0)=true then(f_ref15_Has p.Isr p.Leader).bind fun r76=>if(!r76)=true then some true else(f_ref15_Alive m p.Leader).bind fun r82=>some (!r82)else some false:Option Bool))=some (!part4 m p):=by
  unfold part4
  rw [rHas _ _ (by omega),rAlive hl]
  by_cases q:p.Leader=0
  ·simp [q]
  ·rw [if_pos (by simpa using q)]
   by_cases q2:p.Leader∈p.Isr
   ·simp [q,q2]
   ·simp [q,q2]
 rw [hA,Option.bind_some]
 by_cases g5:part4 m p=true
 rotate_left
 ·have:part4 m p=false:=by simpa using g5
  rw [this];rfl
 rw [g5,if_neg (by decide),if_pos rfl]
 refine(bool_loop (step:=f_ref15_Right_l2 p) (n:=p.Add.length) (p:=fun i=>decide (rd p.Add (i:Int)∈p.Ids)&& !decide (rd p.Add (i:Int)∈p.Drop)) (A:=(18:Int)) (b:=addV p) ?_ ?_ ?_).trans ?_
 ·intro i hi
  unfold f_ref15_Right_l2
  simp only [lt_i hi,if_true,grd_t (in_i hi),succ_i64 hi (show p.Add.length≤1000000000 by omega),rHas _ _ (show p.Ids.length≤1000000000 by omega),rHas _ _ (show p.Drop.length≤1000000000 by omega),Option.bind_some]
  cases decide (rd p.Add (i:Int)∈p.Ids)<;>cases decide (rd p.Add (i:Int)∈p.Drop)<;>rfl
 ·unfold f_ref15_Right_l2;simp [lt_n]
 ·exact all_idx fun i hi=>by rw [len_lt hi]
 by_cases g6:addV p=true
 rotate_left
 ·rw [if_neg g6,if_neg g6]
 rw [if_pos g6,if_pos g6]
 refine(bool_loop (step:=f_ref15_Right_l3 p) (n:=p.Drop.length) (p:=fun i=>decide (rd p.Drop (i:Int)∈p.Ids)) (A:=(18:Int)) (K:=some 0) (b:=withinV p.Drop p.Ids) ?_ ?_ ?_).trans ?_
 ·intro i hi
  unfold f_ref15_Right_l3
  simp only [lt_i hi,if_true,grd_t (in_i hi),succ_i64 hi (show p.Drop.length≤1000000000 by omega),rHas _ _ (show p.Ids.length≤1000000000 by omega),Option.bind_some]
  cases decide (rd p.Drop (i:Int)∈p.Ids)<;>rfl
 ·unfold f_ref15_Right_l3;simp [lt_n]
 ·exact all_idx fun i hi=>by rw [len_lt hi]
 cases withinV p.Drop p.Ids<;>rfl
theorem right_part {p:Pt}(h1:part1 p=true) (h2:0≤p.Epoch∧p.Epoch≤1073741824):partV m p=decide (rightV m p=0):=by
 have e2:part2 p=(decide ((p.Ids.length:Int)=0) ||decide ((p.Isr.length:Int)=0)):=by
  unfold part2
  rw [decide_eq_false (show¬ p.Epoch<0 by omega),decide_eq_false (show¬ 1073741824<p.Epoch by omega)]
  cases decide ((p.Ids.length:Int)=0)<;>cases decide ((p.Isr.length:Int)=0)<;>rfl
 have e5:(withinV p.Add p.Ids&&part5 p)=addV p:=by
  unfold withinV part5 addV
  induction p.Add with
  |nil=>rfl
  |cons x l ih=>
   simp only [List.all_cons,←ih]
   cases decide (x∈p.Ids)<;>cases decide (x∈p.Drop)<;>simp
 unfold partV part3 rightV
 rw [h1,e2,←e5]
 by_cases a1:(p.Ids.length:Int)=0
 ·simp [a1]
 by_cases a2:(p.Ids.all fun x=>hasB m x)=true
 rotate_left
 ·rw [if_neg a1,if_neg a2]
  have:(p.Ids.all fun x=>hasB m x)=false:=by simpa using a2
  rw [this];rfl
 by_cases a3:(p.Isr.length:Int)=0
 ·simp [a1,a2,a3]
 rw [if_neg a1,if_pos a2,if_neg a3,a2,decide_eq_false a1,decide_eq_false a3]
 cases withinV p.Isr p.Ids<;>cases withinV p.Add p.Ids<;>cases withinV p.Drop p.Ids<;>cases part4 m p<;>cases part5 p<;>rfl
end
def insB (b:Bk):List Bk→List Bk
 |[]=>[b]
 |x::l=>if x.Id<b.Id then x::insB b l else if x.Id=b.Id then b::l else b::x::l
theorem putBroker_eq (l:List Bk) (b:Bk) (hs:l.Pairwise fun x y=>x.Id<y.Id) (hl:l.length≤1000000):f_ref15_putBroker l b=some (insB b l):=by
 have key:∀ (d i:Nat) (acc:List Bk) (done:Bool),i+d=l.length→acc.length+(if done=true then 0 else 1)≤i+1→(done=true→∀ x∈l.drop i,b.Id<x.Id)→
   ∃ r:List Bk×Bool,iter (f_ref15_putBroker_l0 l b) (acc,done,(i:Int))=some r∧r.1.length≤l.length+1∧(if r.2=true then r.1 else r.1++[b])=acc++(if done=true then l.drop i else insB b (l.drop i)):=by
  intro d
  induction d with
  |zero=>
   intro i acc done hi ha hd
   have:i=l.length:=by omega
   subst this
   refine⟨(acc,done),iter_stop ?_,by show acc.length≤_;omega, ?_⟩
   ·unfold f_ref15_putBroker_l0;simp [lt_n]
   ·rw [List.drop_of_length_le (Nat.le_refl _)];cases done<;>simp [insB]
  |succ d ih=>
   intro i acc done hi ha hd
   have hlt:i<l.length:=by omega
   have hdr:=List.drop_eq_getElem_cons hlt
   have hgt:∀ x∈l.drop (i+1),l[i].Id<x.Id:=fun x hx=>by
    obtain ⟨j,hj,rfl⟩:=List.getElem_of_mem hx
    simp at hj⊢
    exact List.pairwise_iff_getElem.1 hs i (i+1+j) hlt (by omega) (by omega)
   have hst:∀ acc' done',((if(!done)=true then some (decide (b.Id≤l[i].Id))else some false:Option Bool).bind fun x38=>if x38=true then grd (acc.length+[b].length≤274877906944) (some (acc++[b],true))else some (acc,done))=some (acc',done')→acc'.length≤i+2→
     f_ref15_putBroker_l0 l b (acc,done,(i:Int))=some (.inl (if l[i].Id≠b.Id then acc'++[l[i]]else acc',done',((i+1:Nat):Int))):=by
    intro acc' done' he hacc
    unfold f_ref15_putBroker_l0
    simp only [lt_i hlt,if_true,grd_t (in_i hlt),succ_i64 hlt (show l.length≤1000000000 by omega),len_lt hlt]
    rw [he]
    simp only [Option.bind_some]
    by_cases q:l[i].Id=b.Id
    ·simp [q]
    ·rw [if_pos (decide_eq_true q),grd_t (by simp;omega),if_pos q];rfl
   rw [hdr]
   cases done with
   |true=>
    rw [if_pos rfl] at ha
    have hgi:b.Id<l[i].Id:=hd rfl _ (by rw [hdr];exact .head _)
    have h1:=hst acc true rfl (by omega)
    rw [if_pos (show l[i].Id≠b.Id by omega)] at h1
    obtain ⟨r,r1,r2,r3⟩:=ih (i+1) (acc++[l[i]]) true (by omega) (by simp;omega) (fun _ x hx=>by have:=hgt x hx;omega)
    exact⟨r,(iter_next h1).trans r1,r2,by rw [r3];simp⟩
   |false=>
    rw [if_neg (by decide)] at ha
    by_cases q1:l[i].Id<b.Id
    ·have h1:=hst acc false (by rw [decide_eq_false (by omega)];rfl) (by omega)
     rw [if_pos (show l[i].Id≠b.Id by omega)] at h1
     obtain ⟨r,r1,r2,r3⟩:=ih (i+1) (acc++[l[i]]) false (by omega) (by simp;omega) (fun z=>by cases z)
     exact⟨r,(iter_next h1).trans r1,r2,by rw [r3];simp [insB,q1]⟩
    ·have h1:=hst (acc++[b]) true (by rw [decide_eq_true (show b.Id≤l[i].Id by omega)];exact grd_t (by simp;omega)) (by simp;omega)
     by_cases q2:l[i].Id=b.Id
     ·rw [if_neg (by simpa using q2)] at h1
      obtain ⟨r,r1,r2,r3⟩:=ih (i+1) (acc++[b]) true (by omega) (by simp;omega) (fun _ x hx=>by have:=hgt x hx;omega)
      exact⟨r,(iter_next h1).trans r1,r2,by rw [r3];simp [insB,q2]⟩
     ·rw [if_pos q2] at h1
      have hacc2:(acc++[b]++[l[i]]).length≤i+1+1∨True:= .inr trivial
      obtain ⟨r,r1,r2,r3⟩:=ih (i+1) (acc++[b]++[l[i]]) true (by omega) (by simp;omega) (fun _ x hx=>by have:=hgt x hx;omega)
      exact⟨r,(iter_next h1).trans r1,r2,by rw [r3];simp [insB,q1,q2]⟩
 obtain ⟨r,r1,r2,r3⟩:=key l.length 0 [] false (by omega) (by simp) (fun z=>by cases z)
 unfold f_ref15_putBroker
 rw [nat0] at r1
 rw [r1]
 obtain ⟨x,dn⟩:=r
 have r2':x.length≤l.length+1:=r2
 simp only [Option.bind_some]
 simp only [List.drop_zero,Bool.false_eq_true,if_false,List.nil_append] at r3
 rw [←r3]
 cases dn
 ·simp only [Bool.not_false,if_true];rw [grd_t (by simp;omega)];rfl
 ·rfl
def QW (P:Prop) (R:Option T_ref05_Wrong):Prop:=∃ w,R=some w∧(w.Code=0↔P)
theorem qI {P:Prop}{c:Bool}{A:T_ref05_Wrong}{R:Option T_ref05_Wrong}(hA:A.Code≠0) (h:QW P R):QW (c=false∧P) (if c=true then some A else R):=by
 cases c
 ·obtain ⟨w,h1,h2⟩:=h;exact⟨w,h1,by rw [h2];simp⟩
 ·exact⟨A,rfl,by simp [hA]⟩
theorem qN {P Q:Prop}{N R:Option T_ref05_Wrong}(hN:QW P N) (h:QW Q R):QW (P∧Q) (N.bind fun w=>if decide (w.Code≠0)=true then some w else R):=by
 obtain ⟨w,h1,h2⟩:=hN
 obtain ⟨v,k1,k2⟩:=h
 rw [h1]
 by_cases g:w.Code=0
 ·refine⟨v, ?_,by rw [k2,←h2];simp [g]⟩
  simp [g,k1]
 ·refine⟨w, ?_,by rw [←h2];simp [g]⟩
  simp [g]
theorem qZ {A:T_ref05_Wrong}(h:A.Code=0):QW True (some A):=⟨A,rfl,by simp [h]⟩
theorem check5 (r:Rec):∃ w,f_ref05_Check r=some w∧(w.Code=0↔okRec r∧(r.Value=⟨#[]⟩∨r.Flag=false)):=by
 obtain ⟨hb,he,ht,hp,hl,ha,hf,hn,hk,hv,hr,hi,hm,hx⟩:=has_eqR r.Kind
 have hV:(if decide ((256:Int)<(r.Value.size:Int))=true then some true else if(!decide (r.Value=(⟨#[]⟩:ByteArray)))=true then if r.Flag=true then some true else some (!hasR r.Kind 512)else some false:Option Bool)=some (decide ((256:Int)<(r.Value.size:Int)) ||(!decide (r.Value=(⟨#[]⟩:ByteArray))&&(r.Flag || !hasR r.Kind 512))):=by
  cases decide ((256:Int)<(r.Value.size:Int))<;>cases decide (r.Value=(⟨#[]⟩:ByteArray))<;>cases r.Flag<;>rfl
 unfold f_ref05_Check f_ref05_numbers
 simp only [rleast,hb,he,ht,hp,hl,ha,hf,hn,hk,hv,hr,hi,hm,hx,rnumR,rtextN,rrowR,Option.bind_some,if_or,if_and,hV]
 have key:=qI (c:=decide (r.Kind<1) ||decide (12<r.Kind)) (A:=⟨⟨#[107,105,110,100]⟩,r.Kind,5⟩) nz5
  (qN (qI (c:= !numW r.Broker (hasR r.Kind 1) 1 64) (A:=⟨⟨#[98,114,111,107,101,114]⟩,r.Broker,2⟩) nz2
   (qI (c:= !numW r.Epoch (hasR r.Kind 2) 0 1073741824) (A:=⟨⟨#[101,112,111,99,104]⟩,r.Epoch,2⟩) nz2
   (qI (c:= !numW r.Topic (hasR r.Kind 4) (leastR r.Kind) 1073741824) (A:=⟨⟨#[116,111,112,105,99]⟩,r.Topic,2⟩) nz2
   (qI (c:= !numW r.Part (hasR r.Kind 8) 0 255) (A:=⟨⟨#[112,97,114,116]⟩,r.Part,2⟩) nz2
   (qI (c:= !numW r.Leader (hasR r.Kind 16) 0 64) (A:=⟨⟨#[108,101,97,100,101,114]⟩,r.Leader,2⟩) nz2
   (qI (c:= !numW r.Client (hasR r.Kind 32) 1 1073741824 ||(!numW r.Serial (hasR r.Kind 32) 1 1073741824 || !numW r.Code (hasR r.Kind 32) 0 21)) (A:=⟨⟨#[97,115,107,101,114]⟩,r.Client,2⟩) nz2 (qZ (A:=⟨⟨#[]⟩,0,0⟩) rfl)))))))
  (qI (c:=r.Flag&& !hasR r.Kind 64) (A:=⟨⟨#[102,108,97,103]⟩,1,1⟩) nz1
  (qI (c:= !textN r.Name (hasR r.Kind 128) ||(!textN r.Key (hasR r.Kind 256) || !textN r.Rack (hasR r.Kind 1024))) (A:=⟨⟨#[110,97,109,101]⟩,(r.Name.size:Int),1⟩) nz1
  (qI (c:=decide ((256:Int)<(r.Value.size:Int)) ||(!decide (r.Value=(⟨#[]⟩:ByteArray))&&(r.Flag || !hasR r.Kind 512))) (A:=⟨⟨#[118,97,108,117,101]⟩,(r.Value.size:Int),6⟩) nz6
  (qI (c:= !rowV r.Ids (hasR r.Kind 2048) ||(!rowV r.Isr (hasR r.Kind 4096) ||(!rowV r.Add (hasR r.Kind 8192) || !rowV r.Drop (hasR r.Kind 8192)))) (A:=⟨⟨#[114,111,119]⟩,(r.Ids.length:Int),18⟩) nz18 (qZ (A:=⟨⟨#[]⟩,0,0⟩) rfl))))))
 obtain ⟨w,h1,h2⟩:=key
 refine⟨w,h1,h2.trans ?_⟩
 simp only [Bool.or_eq_false_iff,Bool.not_eq_false',Bool.and_eq_false_iff,decide_eq_false_iff_not,Bool.not_eq_true',and_true,Int.not_lt]
 constructor
 ·rintro ⟨⟨a1,a2⟩,⟨b1,b2,b3,b4,b5,b6,b7,b8⟩,c1,⟨d1,d2,d3⟩,⟨e1,e2⟩,f1,f2,f3,f4⟩
  refine⟨⟨⟨a1,a2⟩,b1,b2,b3,b4,b5,b6,b7,b8, ?_,d1,d2,d3, ?_,f1,f2,f3,f4⟩, ?_⟩
  ·intro q;rcases c1 with z |z
   ·exact z
   ·rw [q] at z;cases z
  ·unfold textW
   rcases e2 with z |⟨z1,z2⟩
   ·rw [of_decide_eq_true z]
    cases hasR r.Kind 512<;>rfl
   ·rw [z2,if_pos rfl];exact decide_eq_true e1
  ·rcases e2 with z |⟨z1,z2⟩
   ·exact .inl (of_decide_eq_true z)
   ·exact .inr z1
 ·rintro ⟨h,hv⟩
  refine⟨h.kind,⟨h.broker,h.epoch,h.topic,h.part,h.leader,h.client,h.serial,h.code⟩, ?_,⟨h.name,h.key,h.rack⟩, ?_,h.ids,h.isr,h.add,h.drop⟩
  ·cases q:hasR r.Kind 64
   ·exact .inl (h.flag q)
   ·exact .inr rfl
  ·have hw:=textW_t h.value
   by_cases g:r.Value=⟨#[]⟩
   ·refine⟨by rw [g];decide, .inl (decide_eq_true g)⟩
   ·cases q:hasR r.Kind 512
    ·exact absurd (hw.2 q) g
    ·exact⟨by have:=hw.1 q;omega, .inr ⟨hv.resolve_left g,rfl⟩⟩
theorem ints_dec (a b:List Int) (h:a.length≤1000000):f_ref02_Ints a b=some (decide (a=b)):=by
 unfold f_ref02_Ints
 by_cases g:a.length=b.length
 ·rw [if_neg (by simp [g])]
  rw [bool_loop (step:=f_ref02_Ints_l0 a b) (n:=a.length) (p:=fun i=>decide (rd a (i:Int)=rd b (i:Int))) (A:=false) (K:=some true) (b:=decide (a=b))]
  ·cases decide (a=b)<;>rfl
  ·intro i hi
   unfold f_ref02_Ints_l0
   simp only [lt_i hi,if_true,grd_t (in_i hi),grd_t (in_i (show i<b.length by omega)),succ_i64 hi (show a.length≤1000000000 by omega)]
   by_cases q:rd a (i:Int)=rd b (i:Int)
   ·rw [if_neg (fun z=>absurd q (of_decide_eq_true z)),if_pos (decide_eq_true q)]
   ·rw [if_pos (decide_eq_true q),if_neg (fun z=>q (of_decide_eq_true z))]
  ·unfold f_ref02_Ints_l0;simp [lt_n]
  ·rw [decide_eq_true_eq]
   constructor
   ·rintro rfl i _;exact decide_eq_true rfl
   ·intro k
    apply List.ext_getElem g
    intro i h1 h2
    have:=of_decide_eq_true (k i h1)
    rwa [len_lt h1,len_lt h2] at this
 ·rw [if_pos (decide_eq_true (by omega)),decide_eq_false (fun e=>g (by rw [e]))]
def samePV (a b:Pt):Bool:=decide (a.Leader=b.Leader)&&(decide (a.Epoch=b.Epoch)&&(decide (a.Ids=b.Ids)&&(decide (a.Isr=b.Isr)&&(decide (a.Add=b.Add)&&decide (a.Drop=b.Drop)))))
theorem samePart_eq {a:Pt}(h:limP a) (b:Pt):f_ref15_SamePart a b=some (samePV a b):=by
 unfold f_ref15_SamePart samePV
 simp only [ints_dec _ _ h.ids,ints_dec _ _ h.isr,ints_dec _ _ h.add,ints_dec _ _ h.drop,if_or,if_and,Option.bind_some]
 by_cases g1:a.Leader=b.Leader
 ·by_cases g2:a.Epoch=b.Epoch
  ·simp only [g1,g2,ne_eq,not_true_eq_false,decide_false,Bool.or_self,Bool.false_eq_true,if_false,decide_true,Bool.true_and]
   cases decide (a.Ids=b.Ids)<;>cases decide (a.Isr=b.Isr)<;>cases decide (a.Add=b.Add)<;>cases decide (a.Drop=b.Drop)<;>rfl
  ·simp [g1,g2]
 ·simp [g1]
def setP (l:List Pt) (n:Nat) (p:Pt):List Pt:=l.take n++[p]++l.drop (n+1)
def putV (m:Img) (id:Int) (n:Nat) (p:Pt):Img:={m with Topics:=m.Topics.map fun t=>if t.Id=id then {t with Parts:=setP t.Parts n p}else t}
theorem map_loop {α:Type}[Inhabited α]{l:List α}{f:α→α}{step:Int×List α→Option ((Int×List α)⊕List α)}
  (hs:∀ i,(hi:i<l.length)→∀ acc:List α,acc.length=i→step ((i:Int),acc)=some (.inl (((i+1:Nat):Int),acc++[f l[i]]))) (he:∀ acc,step ((l.length:Int),acc)=some (.inr acc)):
  iter step ((0:Int),[])=some (l.map f):=by
 have:=first_loop (step:=step) (n:=l.length) (st:=fun i=>((i:Int),(l.take i).map f)) (g:=fun _=>(none:Option Unit)) (ex:=fun _=>[]) (fin:=l.map f)
  (fun i hi _=>by
   rw [hs i hi _ (by rw [List.length_map,List.length_take];omega),List.take_succ_eq_append_getElem hi,List.map_append];rfl)
  (fun _=>by rw [he,List.take_length])
 simp only [List.take_zero,List.map_nil,nat0] at this
 rw [this]
 have:firstE (fun _=>(none:Option Unit)) l.length 0=none:=firstE_none0.2 fun _ _=>rfl
 rw [this];rfl
theorem filter_loop {α:Type}[Inhabited α]{l:List α}{p:α→Bool}{step:Int×List α→Option ((Int×List α)⊕List α)}
  (hs:∀ i,(hi:i<l.length)→∀ acc:List α,acc.length≤i→step ((i:Int),acc)=some (.inl (((i+1:Nat):Int),if p l[i]=true then acc++[l[i]]else acc))) (he:∀ acc,step ((l.length:Int),acc)=some (.inr acc)):
  iter step ((0:Int),[])=some (l.filter p):=by
 have:=first_loop (step:=step) (n:=l.length) (st:=fun i=>((i:Int),(l.take i).filter p)) (g:=fun _=>(none:Option Unit)) (ex:=fun _=>[]) (fin:=l.filter p)
  (fun i hi _=>by
   rw [hs i hi _ (by have:=List.length_filter_le p (l.take i);rw [List.length_take] at this;omega),List.take_succ_eq_append_getElem hi,List.filter_append]
   cases h:p l[i]<;>simp [h])
  (fun _=>by rw [he,List.take_length])
 simp only [List.take_zero,List.filter_nil,nat0] at this
 rw [this]
 have:firstE (fun _=>(none:Option Unit)) l.length 0=none:=firstE_none0.2 fun _ _=>rfl
 rw [this];rfl
theorem sub0 {α:Type}(l:List α) (n:Nat):sub l (0:Int) (n:Int)=l.take n:=by
 unfold sub
 rw [show (0:Int).toNat=0 from rfl,show ((n:Int)).toNat=n by omega];simp
theorem subN {α:Type}(l:List α) (n:Nat):sub l (n:Int) (l.length:Int)=l.drop n:=by
 unfold sub
 rw [show ((n:Int)).toNat=n by omega,show ((l.length:Int)).toNat=l.length by omega]
 exact List.take_of_length_le (by simp)
theorem putPart_eq {m:Img}(h:limM m){id:Int}{n:Nat}(hn:∀ t∈m.Topics,t.Id=id→n≤t.Parts.length) (p:Pt):f_ref15_putPart m id (n:Int) p=some (putV m id n p):=by
 unfold f_ref15_putPart putV
 have h1:=h.tp
 rw [map_loop (l:=m.Topics) (f:=fun t=>if t.Id=id then {t with Parts:=setP t.Parts n p}else t)]
 ·rfl
 ·intro i hi acc ha
  have h2:=h.pt _ (List.getElem_mem hi)
  unfold f_ref15_putPart_l0
  simp only [lt_i hi,if_true,grd_t (in_i hi),succ_i64 hi (show m.Topics.length≤1000000000 by omega),len_lt hi]
  by_cases q:m.Topics[i].Id=id
  ·have h3:=hn _ (List.getElem_mem hi) q
   rw [if_pos (decide_eq_true q),if_pos q,grd_t (by omega),sub0,grd_t (by rw [List.length_take];simp;omega),grd_t (by rw [List.length_append,List.length_take];simp;omega)]
   by_cases q2:n<m.Topics[i].Parts.length
   ·rw [if_pos (decide_eq_true (by omega)),succ_i64 (show n<m.Topics[i].Parts.length from q2) (by omega),grd_t (by omega),subN,grd_t (by simp;omega)]
    simp only [Option.bind_some]
    rw [grd_t (by simp;omega)]
    unfold setP;simp
   ·rw [if_neg (fun z=>absurd (of_decide_eq_true z) (by omega))]
    simp only [Option.bind_some]
    rw [grd_t (by simp;omega)]
    unfold setP
    rw [List.drop_of_length_le (by omega)];simp
  ·rw [if_neg (fun z=>q (of_decide_eq_true z)),if_neg q]
   simp only [Option.bind_some]
   rw [grd_t (by simp;omega)]
 ·intro acc;unfold f_ref15_putPart_l0;simp [lt_n]
instance (a b:Cf):Decidable (cfLt a b):=by unfold cfLt;infer_instance
def insC (c:Cf):List Cf→List Cf
 |[]=>[c]
 |x::l=>if cfLt x c then x::insC c l else if cfIs c.Topic c.Key x=true then c::l else c::x::l
abbrev cfOf (r:Rec):Cf:=⟨r.Topic,r.Key,r.Value⟩
theorem cfLt_ne {a b:Cf}(h:cfLt a b):cfIs b.Topic b.Key a=false:=by
 unfold cfIs
 rcases h with h |⟨h1,h2⟩
 ·rw [decide_eq_false (by omega)];rfl
 ·by_cases e:a.Key=b.Key
  ·rw [e,ltS_irrefl] at h2;cases h2
  ·rw [decide_eq_false e];simp
theorem cfLt_ne2 {a b:Cf}(h:cfLt b a):cfIs b.Topic b.Key a=false:=by
 unfold cfIs
 rcases h with h |⟨h1,h2⟩
 ·rw [decide_eq_false (by omega)];rfl
 ·by_cases e:a.Key=b.Key
  ·rw [e,ltS_irrefl] at h2;cases h2
  ·rw [decide_eq_false e];simp
theorem cf_tri {a b:Cf}(h1:¬ cfLt a b) (h2:cfIs b.Topic b.Key a=false):cfLt b a:=by
 unfold cfLt at h1⊢
 unfold cfIs at h2
 by_cases q:a.Topic=b.Topic
 ·have h3:ltS a.Key b.Key=false:=by
   cases z:ltS a.Key b.Key
   ·rfl
   ·exact absurd (.inr ⟨q,z⟩) h1
  have h4:a.Key≠b.Key:=fun e=>by rw [decide_eq_true q,decide_eq_true e] at h2;cases h2
  refine .inr ⟨q.symm, ?_⟩
  cases z:ltS b.Key a.Key
  ·exact absurd (ltS_tri h3 z) h4
  ·rfl
 ·refine .inl ?_
  have:¬ a.Topic<b.Topic:=fun z=>h1 (.inl z)
  omega
theorem conf_step {m:Img}{r:Rec}(hn:m.Configs.length≤1000000){i:Nat}(hi:i<m.Configs.length){dn:Bool}{acc:List Cf}(ha:acc.length≤i+1):
  f_ref15_config_l0 m r (dn,(i:Int),acc)=some (.inl (if(!dn&& !decide (cfLt m.Configs[i] (cfOf r)))=true then(true,((i+1:Nat):Int),if cfIs r.Topic r.Key m.Configs[i]=true then acc++[cfOf r]else acc++[cfOf r]++[m.Configs[i]])else(dn,((i+1:Nat):Int),if cfIs r.Topic r.Key m.Configs[i]=true then acc else acc++[m.Configs[i]]))):=by
 unfold f_ref15_config_l0
 simp only [lt_i hi,if_true,grd_t (in_i hi),succ_i64 hi (show m.Configs.length≤1000000000 by omega),len_lt hi]
 have e1:(if(!dn)=true then(if decide (r.Topic<m.Configs[i].Topic)=true then some true else if decide (m.Configs[i].Topic=r.Topic)=true then some (!Op.bytesLess m.Configs[i].Key.toList r.Key.toList)else some false)else some false:Option Bool)=some (!dn&& !decide (cfLt m.Configs[i] (cfOf r))):=by
  cases dn with
  |true=>rfl
  |false=>
   simp only [Bool.not_false,if_true,Bool.true_and]
   by_cases q1:r.Topic<m.Configs[i].Topic
   ·rw [if_pos (decide_eq_true q1),decide_eq_false (fun z=>by rcases z with z |⟨z,_⟩<;>(simp only at z;omega))];rfl
   ·rw [if_neg (fun z=>q1 (of_decide_eq_true z))]
    by_cases q2:m.Configs[i].Topic=r.Topic
    ·rw [if_pos (decide_eq_true q2)]
     show some (!ltS m.Configs[i].Key r.Key)=_
     cases z:ltS m.Configs[i].Key r.Key
     ·rw [decide_eq_false (fun y=>by rcases y with y |⟨_,y⟩;(simp only at y;omega);(rw [z] at y;cases y))]
     ·rw [decide_eq_true (show cfLt m.Configs[i] (cfOf r) from .inr ⟨q2,z⟩)]
    ·rw [if_neg (fun z=>q2 (of_decide_eq_true z)),decide_eq_true (show cfLt m.Configs[i] (cfOf r) from .inl (by show m.Configs[i].Topic<r.Topic;omega))];rfl
 have e2:∀ x:List Cf,x.length≤i+2→∀ d:Bool,((if decide (m.Configs[i].Topic≠r.Topic)=true then some true else some (!decide (m.Configs[i].Key=r.Key)):Option Bool).bind fun x85=>if x85=true then grd (x.length+[m.Configs[i]].length≤274877906944) (some (d,x++[m.Configs[i]]))else some (d,x))=some (d,if cfIs r.Topic r.Key m.Configs[i]=true then x else x++[m.Configs[i]]):=by
  intro x hx d
  unfold cfIs
  rw [grd_t (by simp;omega)]
  by_cases q1:m.Configs[i].Topic=r.Topic<;>by_cases q2:m.Configs[i].Key=r.Key<;>simp [q1,q2]
 rw [e1]
 simp only [Option.bind_some]
 by_cases g:(!dn&& !decide (cfLt m.Configs[i] (cfOf r)))=true
 ·rw [if_pos g,if_pos g,grd_t (by simp;omega)]
  simp only [Option.bind_some]
  rw [e2 _ (by simp;omega)]
  simp only [Option.bind_some]
 ·rw [if_neg g,if_neg g]
  simp only [Option.bind_some]
  rw [e2 _ (by omega)]
  simp only [Option.bind_some]
theorem conf_loop {m:Img}{r:Rec}(hn:m.Configs.length≤1000000) (hs:m.Configs.Pairwise cfLt):∀ (d i:Nat) (acc:List Cf) (dn:Bool),i+d=m.Configs.length→acc.length+(if dn=true then 0 else 1)≤i+1→
  ∃ q:Bool×List Cf,iter (f_ref15_config_l0 m r) (dn,(i:Int),acc)=some q∧q.2.length≤m.Configs.length+1∧
   (if q.1=true then q.2 else q.2++[cfOf r])=acc++(if dn=true then(m.Configs.drop i).filter (fun x=> !cfIs r.Topic r.Key x)else insC (cfOf r) (m.Configs.drop i))
 |0,i,acc,dn,hi,ha=>by
  have:i=m.Configs.length:=by omega
  subst this
  refine⟨(dn,acc),iter_stop (by unfold f_ref15_config_l0;simp [lt_n]),by show acc.length≤_;omega, ?_⟩
  rw [List.drop_of_length_le (Nat.le_refl _)];cases dn<;>simp [insC]
 |d+1,i,acc,dn,hi,ha=>by
  have hlt:i<m.Configs.length:=by omega
  have hdr:=List.drop_eq_getElem_cons hlt
  have hst:=conf_step (r:=r) hn hlt (dn:=dn) (acc:=acc) (by omega)
  have hgt:∀ x∈m.Configs.drop (i+1),cfLt m.Configs[i] x:=fun x hx=>by
   obtain ⟨j,hj,rfl⟩:=List.getElem_of_mem hx
   simp at hj⊢
   exact List.pairwise_iff_getElem.1 hs i (i+1+j) hlt (by omega) (by omega)
  rw [hdr]
  cases dn with
  |true=>
   rw [if_pos rfl] at ha
   rw [if_neg (by simp)] at hst
   obtain ⟨q,q1,q2,q3⟩:=conf_loop hn hs d (i+1) _ true (by omega) (show (if cfIs r.Topic r.Key m.Configs[i]=true then acc else acc++[m.Configs[i]]).length+(if true=true then 0 else 1)≤i+1+1 by rw [if_pos rfl];split<;>simp<;>omega)
   refine⟨q,(iter_next hst).trans q1,q2, ?_⟩
   rw [q3,if_pos rfl,if_pos rfl,List.filter_cons]
   cases h:cfIs r.Topic r.Key m.Configs[i]
   ·simp only [Bool.false_eq_true,if_false,Bool.not_false,if_true,List.append_assoc,List.singleton_append]
   ·simp only [if_true,Bool.not_true,Bool.false_eq_true,if_false]
  |false=>
   rw [if_neg (by decide)] at ha
   by_cases g:cfLt m.Configs[i] (cfOf r)
   ·rw [if_neg (by rw [decide_eq_true g];decide),show cfIs r.Topic r.Key m.Configs[i]=false from cfLt_ne g,if_neg (by decide)] at hst
    obtain ⟨q,q1,q2,q3⟩:=conf_loop hn hs d (i+1) (acc++[m.Configs[i]]) false (by omega) (by rw [if_neg (by decide)];simp;omega)
    refine⟨q,(iter_next hst).trans q1,q2, ?_⟩
    rw [q3,if_neg (by decide),if_neg (by decide)]
    simp only [insC,if_pos g,List.append_assoc,List.singleton_append]
   ·rw [if_pos (by rw [decide_eq_false g];rfl)] at hst
    have hall:∀ x∈m.Configs.drop (i+1),(!cfIs r.Topic r.Key x)=true:=fun x hx=>by
     have h1:=hgt x hx
     cases e:cfIs r.Topic r.Key m.Configs[i]with
     |true=>
      have h2:cfLt (cfOf r) x:=by
       unfold cfIs at e
       simp only [Bool.and_eq_true,decide_eq_true_eq] at e
       unfold cfLt at h1⊢
       rw [e.1,e.2] at h1;exact h1
      rw [show cfIs r.Topic r.Key x=false from cfLt_ne2 h2];rfl
     |false=>rw [show cfIs r.Topic r.Key x=false from cfLt_ne2 (cfLt_trans (cf_tri (b:=cfOf r) g e) h1)];rfl
    obtain ⟨q,q1,q2,q3⟩:=conf_loop hn hs d (i+1) _ true (by omega) (show (if cfIs r.Topic r.Key m.Configs[i]=true then acc++[cfOf r]else acc++[cfOf r]++[m.Configs[i]]).length+(if true=true then 0 else 1)≤i+1+1 by rw [if_pos rfl];split<;>simp<;>omega)
    refine⟨q,(iter_next hst).trans q1,q2, ?_⟩
    rw [q3]
    have e1:insC (cfOf r) (m.Configs[i]::m.Configs.drop (i+1))=if cfIs r.Topic r.Key m.Configs[i]=true then cfOf r::m.Configs.drop (i+1)else cfOf r::m.Configs[i]::m.Configs.drop (i+1):=by
     simp only [insC,if_neg g]
    simp only [eq_self_iff_true,if_true,Bool.false_eq_true,if_false,e1,List.filter_eq_self.2 hall]
    cases e:cfIs r.Topic r.Key m.Configs[i]
    ·simp only [Bool.false_eq_true,if_false,List.append_assoc,List.singleton_append,List.cons_append,List.nil_append]
    ·simp only [if_true,List.append_assoc,List.singleton_append]
def partOf (r:Rec):Pt:=⟨r.Ids,r.Isr,r.Leader,r.Epoch,r.Add,r.Drop⟩
def registerV (m:Img) (r:Rec):Img×Int:=
 match findK bkId m.Brokers r.Broker with
 |some b=>if r.Epoch≤b.Epoch then(m,11)else if leadsV m r.Broker=true then(m,10)else({m with Brokers:=insB ⟨r.Broker,r.Epoch,r.Rack,true,false⟩ m.Brokers},0)
 |none=>({m with Brokers:=insB ⟨r.Broker,r.Epoch,r.Rack,true,false⟩ m.Brokers},0)
def brokerV (m : Img) (r : Rec) : Img × Int :=
  match findK bkId m.Brokers r.Broker with
  | none => (m, 8)
  | some b =>
    if b.Epoch ≠ r.Epoch then (m, 11)
    else if r.Kind = 3 then if (b.Fenced || leadsV m b.Id) = true then (m, 10) else ({ m with Brokers := insB { b with Fenced := true } m.Brokers }, 0)
    else if r.Kind = 4 then if (!b.Fenced) = true then (m, 10) else ({ m with Brokers := insB { b with Fenced := false, Leaving := false } m.Brokers }, 0)
    else if r.Kind = 5 then if (b.Fenced || b.Leaving) = true then (m, 10) else ({ m with Brokers := insB { b with Leaving := true } m.Brokers }, 0)
    else if usedV m b.Id = true then (m, 10) else ({ m with Brokers := m.Brokers.filter fun x => decide (x.Id ≠ b.Id) }, 0)
def partStepV (m:Img) (r:Rec):Img×Int:=
 match findK tpId m.Topics r.Topic with
 |none=>(m,8)
 |some t=>
  if rightV m (partOf r)≠0 then(m,rightV m (partOf r))
  else if r.Kind=8 then if r.Part≠(t.Parts.length:Int)then(m,10)else(putV m r.Topic r.Part.toNat (partOf r),0)
  else if(t.Parts.length:Int)≤r.Part then(m,8)
  else if(decide (r.Epoch<(rd t.Parts r.Part).Epoch) ||(decide (IntKind.i64.wrap ((rd t.Parts r.Part).Epoch+1)<r.Epoch) ||(decide (r.Epoch=(rd t.Parts r.Part).Epoch)&&decide (r.Leader≠(rd t.Parts r.Part).Leader))))=true then(m,11)
  else if samePV (rd t.Parts r.Part) (partOf r)=true then(m,10)else(putV m r.Topic r.Part.toNat (partOf r),0)
def topicV (m:Img) (r:Rec):Img×Int:=
 if r.Topic≠IntKind.i64.wrap (m.Last+1)then(m,10)else if namedV m r.Name=true then(m,9)else if 256≤(m.Topics.length:Int)then(m,6)
 else({m with Topics:=m.Topics++[⟨r.Topic,r.Name,[]⟩],Last:=r.Topic},0)
def dropV (m:Img) (id:Int):Img×Int:=
 if hasT m id=true then({m with Topics:=m.Topics.filter (fun t=>decide (t.Id≠id)),Configs:=m.Configs.filter (fun c=>decide (c.Topic≠id))},0)else(m,8)
def configV (m:Img) (r:Rec):Img×Int:=
 if(!hasT m r.Topic&&decide (r.Topic≠0))=true then(m,8)else if(r.Flag&& !confV m r.Topic r.Key)=true then(m,8)
 else({m with Configs:=if r.Flag=true then m.Configs.filter (fun x=> !cfIs r.Topic r.Key x)else insC (cfOf r) m.Configs},0)
def doneV (m:Img) (r:Rec):Img×Int:=
 if answV m r.Client r.Serial=true then(m,9)else({m with Done:=m.Done.drop (if 64≤m.Done.length then m.Done.length - 63 else 0)++[⟨r.Client,r.Serial,r.Code⟩]},0)
def stepV (m:Img) (r:Rec):Img×Int:=
 if r.Kind=2 then registerV m r
 else if r.Kind=3∨r.Kind=4∨r.Kind=5∨r.Kind=6 then brokerV m r
 else if r.Kind=8∨r.Kind=9 then partStepV m r
 else if r.Kind=7 then topicV m r
 else if r.Kind=11 then dropV m r.Topic
 else if r.Kind=10 then configV m r
 else if r.Kind=12 then doneV m r
 else(m,0)
theorem okImg.limB {m:Img}(h:okImg m):m.Brokers.length≤1000000000:=by have:=h.bl;omega
theorem okImg.limT {m:Img}(h:okImg m):m.Topics.length≤1000000000:=by have:=h.tn;omega
theorem getV_snd {α:Type}(z:α) (o:Option α):(getV z o).2=o.isSome:=by cases o<;>rfl
section
variable {m : Img} {r : Rec}
theorem register_eq (h:okImg m) (hl:limM m):f_ref15_register m r=some (registerV m r):=by
 unfold f_ref15_register registerV
 rw [rBroker h.limB,Option.bind_some]
 cases e:findK bkId m.Brokers r.Broker with
 |none=>
  simp only [getV,Bool.false_eq_true,if_false,Option.bind_some]
  rw [putBroker_eq _ _ h.bs (by have:=h.bl;omega)];rfl
 |some b=>
  rw [show getV bz (some b)=(b,true) from rfl]
  simp only [if_true,Option.bind_some]
  by_cases g:r.Epoch≤b.Epoch
  ·rw [if_pos (decide_eq_true g),if_pos g]
  ·rw [if_neg (fun z=>g (of_decide_eq_true z)),if_neg g,rLeads hl]
   simp only [Option.bind_some]
   cases leadsV m r.Broker
   ·simp only [Bool.false_eq_true,if_false]
    rw [putBroker_eq _ _ h.bs (by have:=h.bl;omega)];rfl
   ·rfl
theorem okImg.limPs (h:okImg m):∀ t∈m.Topics,∀ p∈t.Parts,limP p:=fun t ht p hp=>by
 have:=(h.tp t ht).2.2.2.2 p hp
 unfold partV G.part1 at this
 simp only [Bool.and_eq_true] at this
 have a1:=(brB_t.1 this.1.1.1.1).1;have a2:=(brB_t.1 this.1.1.1.2).1;have a3:=(brB_t.1 this.1.1.2).1;have a4:=(brB_t.1 this.1.2).1
 exact⟨by omega,by omega,by omega,by omega⟩
theorem broker_step (h : okImg m) (hl : limM m) (hk : r.Kind = 3 ∨ r.Kind = 4 ∨ r.Kind = 5 ∨ r.Kind = 6) : f_ref15_broker m r = some (brokerV m r) := by
  have hB : m.Brokers.length ≤ 1000000 := by have := h.bl; omega
  unfold f_ref15_broker brokerV
  rw [rBroker h.limB, Option.bind_some]
  cases e : findK bkId m.Brokers r.Broker with
  | none => rfl
  | some b =>
    rw [show getV bz (some b) = (b, true) from rfl]
    simp only [Bool.not_true, Bool.false_eq_true, if_false]
    by_cases g : b.Epoch = r.Epoch
    rotate_left
    · rw [if_pos (decide_eq_true g), if_pos g]
    rw [if_neg (fun z => absurd g (of_decide_eq_true z)), if_neg (show ¬ (b.Epoch ≠ r.Epoch) from fun z => z g)]
    simp only [rLeads hl, rUsed hl (fun t ht p hp => (h.limPs t ht p hp).ids), if_or, Option.bind_some]
    have pb := fun x => putBroker_eq m.Brokers x h.bs hB
    rcases hk with k | k | k | k
    · rw [if_pos k]
      simp only [decide_eq_true k, if_true]
      cases (b.Fenced || leadsV m b.Id)
      · simp only [Bool.false_eq_true, if_false, Option.bind_some, Sum.elim_inl, pb]
      · rfl
    · rw [if_neg (show ¬ r.Kind = 3 by omega), if_pos k]
      simp only [decide_eq_false (show ¬ r.Kind = 3 by omega), decide_eq_true k, Bool.false_eq_true, if_false, if_true]
      cases b.Fenced
      · rfl
      · simp only [Bool.not_true, Bool.false_eq_true, if_false, Option.bind_some, Sum.elim_inl, pb]
    · rw [if_neg (show ¬ r.Kind = 3 by omega), if_neg (show ¬ r.Kind = 4 by omega), if_pos k]
      simp only [decide_eq_false (show ¬ r.Kind = 3 by omega), decide_eq_false (show ¬ r.Kind = 4 by omega), decide_eq_true k, Bool.false_eq_true, if_false, if_true]
      cases hf : b.Fenced <;> cases hv : b.Leaving <;> simp [pb, hf, hv]
    · rw [if_neg (show ¬ r.Kind = 3 by omega), if_neg (show ¬ r.Kind = 4 by omega), if_neg (show ¬ r.Kind = 5 by omega)]
      simp only [decide_eq_false (show ¬ r.Kind = 3 by omega), decide_eq_false (show ¬ r.Kind = 4 by omega), decide_eq_false (show ¬ r.Kind = 5 by omega), Bool.false_eq_true, if_false, if_true]
      cases usedV m b.Id
      · simp only [Bool.false_eq_true, if_false]
        rw [filter_loop (l := m.Brokers) (p := fun x => decide (x.Id ≠ b.Id))]
        · rfl
        · intro i hi acc ha
          unfold f_ref15_broker_l0
          simp only [lt_i hi, if_true, grd_t (in_i hi), succ_i64 hi h.limB, len_lt hi]
          rw [grd_t (by simp; omega)]
          cases decide (m.Brokers[i].Id ≠ b.Id) <;> rfl
        · intro acc; unfold f_ref15_broker_l0; simp [lt_n]
      · rfl
theorem find_mem {α:Type}{key:α→Int}{l:List α}{t:Int}{x:α}(h:findK key l t=some x):x∈l∧key x=t:=by
 unfold findK at h
 exact⟨List.mem_of_find?_eq_some h,by simpa using List.find?_some h⟩
theorem okRec.limP (h:okRec r):G.limP (partOf r):=by
 have a1:=(rowV_t h.ids).1.1;have a2:=(rowV_t h.isr).1.1;have a3:=(rowV_t h.add).1.1;have a4:=(rowV_t h.drop).1.1
 exact⟨by show r.Ids.length≤_;omega,by show r.Isr.length≤_;omega,by show r.Add.length≤_;omega,by show r.Drop.length≤_;omega⟩
theorem only_one {α:Type}{key:α→Int}{l:List α}(hs:SortK key l){t:Int}{x y:α}(h:findK key l t=some x) (hy:y∈l) (hk:key y=t):y=x:=by
 obtain ⟨i,hi,rfl⟩:=List.getElem_of_mem hy
 rw [findK_at hs hi hk] at h
 exact Option.some.inj h
theorem part_step (h:okImg m) (hl:limM m) (hr:okRec r) (hk:r.Kind=8∨r.Kind=9):f_ref15_part m r=some (partStepV m r):=by
 unfold f_ref15_part partStepV
 rw [rTopic h.limT,Option.bind_some]
 have hp:=numW_b hr.part (by omega) (by omega)
 cases e:findK tpId m.Topics r.Topic with
 |none=>rfl
 |some t=>
  rw [show getV tz (some t)=(t,true) from rfl]
  simp only [Bool.not_true,Bool.false_eq_true,if_false]
  rw [show (⟨r.Ids,r.Isr,r.Leader,r.Epoch,r.Add,r.Drop⟩:T_api_Part)=partOf r from rfl,rRight h.limB hr.limP,Option.bind_some]
  have hone:∀ n:Nat,n≤t.Parts.length→∀ t'∈m.Topics,t'.Id=r.Topic→n≤t'.Parts.length:=fun n hn t' ht' hi=>by rw [only_one h.sortT e ht' hi];exact hn
  by_cases g:rightV m (partOf r)=0
  rotate_left
  ·rw [if_pos (decide_eq_true g),if_pos g]
  rw [if_neg (fun z=>absurd g (of_decide_eq_true z)),if_neg (show¬ (rightV m (partOf r)≠0) from fun z=>z g)]
  have hn:r.Part=(r.Part.toNat:Int):=by omega
  rcases hk with k |k
  ·rw [if_pos (decide_eq_true k),if_pos k]
   by_cases q:r.Part=(t.Parts.length:Int)
   ·rw [if_neg (fun z=>absurd q (of_decide_eq_true z)),if_neg (show¬ (r.Part≠(t.Parts.length:Int)) from fun z=>z q)]
    have:=putPart_eq hl (hone r.Part.toNat (by omega)) (partOf r)
    rw [←hn] at this
    rw [this];rfl
   ·rw [if_pos (decide_eq_true q),if_pos q]
  ·rw [if_neg (show¬ decide (r.Kind=8)=true from fun z=>by have:=of_decide_eq_true z;omega),if_neg (show¬ r.Kind=8 by omega)]
   by_cases q:(t.Parts.length:Int)≤r.Part
   ·rw [if_pos (decide_eq_true q),if_pos q]
   ·rw [if_neg (fun z=>q (of_decide_eq_true z)),if_neg q,grd_t (by omega)]
    have hw:limP (rd t.Parts r.Part):=by
     rw [hn];exact h.limPs t (find_mem e).1 _ (rd_mem (by omega))
    simp only [if_or,if_and,Option.bind_some,samePart_eq hw]
    split
    ·rfl
    ·cases samePV (rd t.Parts r.Part) (partOf r)
     ·simp only [Bool.false_eq_true,if_false]
      have:=putPart_eq hl (hone r.Part.toNat (by omega)) (partOf r)
      rw [←hn] at this
      rw [this];rfl
     ·rfl
theorem topic_step (h:okImg m):f_ref15_topic m r=some (topicV m r):=by
 unfold f_ref15_topic topicV
 have hn:=h.tn
 by_cases g:r.Topic=IntKind.i64.wrap (m.Last+1)
 rotate_left
 ·rw [if_pos (decide_eq_true g),if_pos g]
 rw [if_neg (fun z=>absurd g (of_decide_eq_true z)),if_neg (show¬ (r.Topic≠IntKind.i64.wrap (m.Last+1)) from fun z=>z g)]
 obtain ⟨x,hx⟩:=rNamed h.limT r.Name
 rw [hx,Option.bind_some]
 simp only
 cases namedV m r.Name
 rotate_left
 ·rfl
 simp only [Bool.false_eq_true,if_false]
 by_cases q:256≤(m.Topics.length:Int)
 ·rw [if_pos (decide_eq_true q),if_pos q]
 ·rw [if_neg (fun z=>q (of_decide_eq_true z)),if_neg q,grd_t (by simp;omega),grd_t (by simp;omega)];simp
theorem drop_step (h:okImg m) (hl:limM m) (id:Int):f_ref15_drop m id=some (dropV m id):=by
 unfold f_ref15_drop dropV hasT
 rw [rTopic h.limT,Option.bind_some]
 have hn:=h.tn;have hc:=hl.cf
 cases e:findK tpId m.Topics id with
 |none=>rfl
 |some t=>
  rw [show getV tz (some t)=(t,true) from rfl]
  simp only [Bool.not_true,Bool.false_eq_true,if_false,Option.isSome_some,if_true]
  rw [filter_loop (l:=m.Topics) (p:=fun x=>decide (x.Id≠id)),filter_loop (l:=m.Configs) (p:=fun x=>decide (x.Topic≠id))]
  ·rfl
  ·intro i hi acc ha
   unfold f_ref15_drop_l1
   simp only [lt_i hi,if_true,grd_t (in_i hi),succ_i64 hi (show m.Configs.length≤1000000000 by omega),len_lt hi]
   rw [grd_t (by simp;omega)]
   cases decide (m.Configs[i].Topic≠id)<;>rfl
  ·intro acc;unfold f_ref15_drop_l1;simp [lt_n]
  ·intro i hi acc ha
   unfold f_ref15_drop_l0
   simp only [lt_i hi,if_true,grd_t (in_i hi),succ_i64 hi (show m.Topics.length≤1000000000 by omega),len_lt hi]
   rw [grd_t (by simp;omega)]
   cases decide (m.Topics[i].Id≠id)<;>rfl
  ·intro acc;unfold f_ref15_drop_l0;simp [lt_n]
theorem config_step (h:okImg m) (hl:limM m):f_ref15_config m r=some (configV m r):=by
 unfold f_ref15_config configV hasT
 rw [rTopic h.limT,Option.bind_some]
 have hc:=hl.cf
 obtain ⟨v,hv⟩:=rConfig (show m.Configs.length≤1000000000 by omega) r.Topic r.Key
 rw [show getV tz (findK tpId m.Topics r.Topic)=((getV tz (findK tpId m.Topics r.Topic)).1,(findK tpId m.Topics r.Topic).isSome) by rw [←getV_snd tz]]
 simp only [if_and,Option.bind_some,hv]
 cases (!(findK tpId m.Topics r.Topic).isSome&&decide (r.Topic≠0))
 rotate_left
 ·rfl
 simp only [Bool.false_eq_true,if_false]
 cases (r.Flag&& !confV m r.Topic r.Key)
 rotate_left
 ·rfl
 simp only [Bool.false_eq_true,if_false]
 obtain ⟨q,q1,q2,q3⟩:=conf_loop (r:=r) hc h.cs m.Configs.length 0 [] r.Flag (by omega) (by simp;split<;>omega)
 rw [nat0] at q1
 rw [q1]
 obtain ⟨x,y⟩:=q
 have q2':y.length≤m.Configs.length+1:=q2
 simp only [List.drop_zero,List.nil_append] at q3
 simp only [Option.bind_some]
 rw [←q3]
 cases x
 ·simp only [Bool.not_false,if_true,Bool.false_eq_true,if_false];rw [grd_t (by simp;omega)];rfl
 ·rfl
theorem done_step (h:okImg m):f_ref15_done m r=some (doneV m r):=by
 unfold f_ref15_done doneV
 have hd:=h.dl
 obtain ⟨v,hv⟩:=rAnswered (show m.Done.length≤1000000000 by omega) r.Client r.Serial
 rw [hv,Option.bind_some]
 simp only
 cases answV m r.Client r.Serial
 rotate_left
 ·rfl
 simp only [Bool.false_eq_true,if_false]
 have e:(if decide ((64:Int)≤(m.Done.length:Int))=true then some (IntKind.i64.wrap ((m.Done.length:Int)- 63))else some 0:Option Int)=some (((if 64≤m.Done.length then m.Done.length - 63 else 0:Nat)):Int):=by
  by_cases q:64≤m.Done.length
  ·rw [if_pos (decide_eq_true (by omega)),if_pos q,w_i64 (by omega) (by omega)];congr 1;omega
  ·rw [if_neg (fun z=>q (by have:=of_decide_eq_true z;omega)),if_neg q];rfl
 rw [e,Option.bind_some]
 have hle:(if 64≤m.Done.length then m.Done.length - 63 else 0:Nat)≤m.Done.length:=by split<;>omega
 rw [grd_t (by omega),subN,grd_t (by simp;omega),grd_t (by simp;omega)];simp
theorem apply_eq (h:okImg m) (hl:limM m):∃ w,f_ref05_Check r=some w∧(w.Code=0↔okRec r∧(r.Value=⟨#[]⟩∨r.Flag=false))∧f_ref15_Apply m r=some (if w.Code=0 then stepV m r else(m,w.Code)):=by
 obtain ⟨w,h1,h2⟩:=check5 r
 refine⟨w,h1,h2, ?_⟩
 unfold f_ref15_Apply
 rw [h1,Option.bind_some]
 by_cases g:w.Code=0
 rotate_left
 ·rw [if_pos (decide_eq_true g),if_neg g]
 rw [if_neg (fun z=>absurd g (of_decide_eq_true z)),if_pos g]
 have hr:=(h2.1 g).1
 unfold stepV
 by_cases k2:r.Kind=2
 ·rw [if_pos (decide_eq_true k2),if_pos k2,register_eq h hl];rfl
 rw [if_neg (fun z=>k2 (of_decide_eq_true z)),if_neg k2]
 have e1:(if decide (r.Kind=3)=true then some (decide (r.Kind=3))else if decide (r.Kind=4)=true then some (decide (r.Kind=4))else if decide (r.Kind=5)=true then some (decide (r.Kind=5))else some (decide (r.Kind=6)):Option Bool)=some (decide (r.Kind=3∨r.Kind=4∨r.Kind=5∨r.Kind=6)):=by
  by_cases a:r.Kind=3<;>by_cases b:r.Kind=4<;>by_cases c:r.Kind=5<;>simp [a,b,c]
 rw [e1,Option.bind_some]
 by_cases k3:r.Kind=3∨r.Kind=4∨r.Kind=5∨r.Kind=6
 ·rw [if_pos (decide_eq_true k3),if_pos k3,broker_step h hl k3];rfl
 rw [if_neg (fun z=>k3 (of_decide_eq_true z)),if_neg k3]
 have e2:(if decide (r.Kind=8)=true then some (decide (r.Kind=8))else some (decide (r.Kind=9)):Option Bool)=some (decide (r.Kind=8∨r.Kind=9)):=by
  by_cases a:r.Kind=8<;>simp [a]
 rw [e2,Option.bind_some]
 by_cases k8:r.Kind=8∨r.Kind=9
 ·rw [if_pos (decide_eq_true k8),if_pos k8,part_step h hl hr k8];rfl
 rw [if_neg (fun z=>k8 (of_decide_eq_true z)),if_neg k8]
 by_cases k7:r.Kind=7
 ·rw [if_pos (decide_eq_true k7),if_pos k7,topic_step h];rfl
 rw [if_neg (fun z=>k7 (of_decide_eq_true z)),if_neg k7]
 by_cases k11:r.Kind=11
 ·rw [if_pos (decide_eq_true k11),if_pos k11,drop_step h hl];rfl
 rw [if_neg (fun z=>k11 (of_decide_eq_true z)),if_neg k11]
 by_cases k10:r.Kind=10
 ·rw [if_pos (decide_eq_true k10),if_pos k10,config_step h hl];rfl
 rw [if_neg (fun z=>k10 (of_decide_eq_true z)),if_neg k10]
 by_cases k12:r.Kind=12
 ·rw [if_pos (decide_eq_true k12),if_pos k12,done_step h];rfl
 rw [if_neg (fun z=>k12 (of_decide_eq_true z)),if_neg k12]
end
theorem findK_some {α:Type}{key:α→Int}{l:List α}{t:Int}:(findK key l t).isSome=true↔∃ x∈l,key x=t:=by
 unfold findK
 rw [find_any,List.any_eq_true]
 simp
theorem hasB_iff {m:Img}{id:Int}:hasB m id=true↔∃ b∈m.Brokers,b.Id=id:=findK_some
theorem hasT_iff {m:Img}{id:Int}:hasT m id=true↔∃ t∈m.Topics,t.Id=id:=findK_some
theorem findK_is {α:Type}{key:α→Int}{l:List α}(hs:SortK key l){x:α}(hx:x∈l):findK key l (key x)=some x:=by
 obtain ⟨i,hi,rfl⟩:=List.getElem_of_mem hx
 exact findK_at hs hi rfl
theorem alive_iff {m:Img}(hs:SortK bkId m.Brokers){id:Int}:aliveV m id=true↔∃ b∈m.Brokers,b.Id=id∧b.Fenced=false:=by
 unfold aliveV
 constructor
 ·intro h
  cases e:findK bkId m.Brokers id with
  |none=>rw [e] at h;cases h
  |some b=>
   rw [e] at h
   obtain ⟨h1,h2⟩:=find_mem e
   exact⟨b,h1,h2,by simpa using h⟩
 ·rintro ⟨b,h1,h2,h3⟩
  have:=findK_is hs h1
  rw [show bkId b=id from h2] at this
  rw [this]
  show (!b.Fenced)=true
  rw [h3];rfl
theorem leads_iff {m:Img}{id:Int}:leadsV m id=true↔∃ t∈m.Topics,∃ p∈t.Parts,p.Leader=id:=by
 unfold leadsV
 simp [List.any_eq_true]
theorem used_iff {m:Img}{id:Int}:usedV m id=true↔∃ t∈m.Topics,∃ p∈t.Parts,id∈p.Ids:=by
 unfold usedV
 simp [List.any_eq_true]
theorem partV_mono {m m':Img}{p:Pt}(h:partV m p=true) (h1:∀ id∈p.Ids,hasB m id=true→hasB m' id=true) (h2:p.Leader≠0→p.Leader∈p.Isr→aliveV m p.Leader=true→aliveV m' p.Leader=true):partV m' p=true:=by
 unfold partV part4 at h⊢
 simp only [Bool.and_eq_true,Bool.or_eq_true,decide_eq_true_eq,List.all_eq_true] at h⊢
 refine⟨h.1,fun x hx=>h1 x hx (h.2.1 x hx),h.2.2.1,h.2.2.2.1, ?_,h.2.2.2.2.2⟩
 rcases h.2.2.2.2.1 with z |z
 ·exact .inl z
 ·by_cases q:p.Leader=0
  ·exact .inl q
  ·exact .inr ⟨z.1,h2 q z.1 z.2⟩
theorem partV_isr {m:Img}{p:Pt}(h:partV m p=true){x:Int}(hx:x∈p.Isr):x∈p.Ids:=by
 unfold partV part3 withinV at h
 simp only [Bool.and_eq_true,List.all_eq_true,decide_eq_true_eq] at h
 exact h.2.2.2.1.1.1 x hx
theorem insB_mem {b x:Bk}:∀ {l:List Bk},l.Pairwise (fun a c=>a.Id<c.Id)→(x∈insB b l↔x=b∨(x∈l∧x.Id≠b.Id))
 |[],_=>by simp [insB]
 |y::l,hs=>by
  have h1:=List.pairwise_cons.1 hs
  unfold insB
  by_cases q:y.Id<b.Id
  ·rw [if_pos q,List.mem_cons,insB_mem h1.2,List.mem_cons]
   constructor
   ·rintro (rfl |rfl |z)
    ·exact .inr ⟨.inl rfl,by omega⟩
    ·exact .inl rfl
    ·exact .inr ⟨.inr z.1,z.2⟩
   ·rintro (rfl |⟨rfl |z,w⟩)
    ·exact .inr (.inl rfl)
    ·exact .inl rfl
    ·exact .inr (.inr ⟨z,w⟩)
  ·rw [if_neg q]
   by_cases q2:y.Id=b.Id
   ·rw [if_pos q2,List.mem_cons,List.mem_cons]
    constructor
    ·rintro (rfl |z)
     ·exact .inl rfl
     ·exact .inr ⟨.inr z,by have:=h1.1 x z;omega⟩
    ·rintro (rfl |⟨rfl |z,w⟩)
     ·exact .inl rfl
     ·exact absurd q2 w
     ·exact .inr z
   ·rw [if_neg q2,List.mem_cons,List.mem_cons]
    constructor
    ·rintro (rfl |rfl |z)
     ·exact .inl rfl
     ·exact .inr ⟨.inl rfl,q2⟩
     ·exact .inr ⟨.inr z,by have:=h1.1 x z;omega⟩
    ·rintro (rfl |⟨rfl |z,w⟩)
     ·exact .inl rfl
     ·exact .inr (.inl rfl)
     ·exact .inr (.inr z)
theorem insB_sort {b:Bk}:∀ {l:List Bk},l.Pairwise (fun a c=>a.Id<c.Id)→(insB b l).Pairwise (fun a c=>a.Id<c.Id)
 |[],_=>by simp [insB]
 |y::l,hs=>by
  have h1:=List.pairwise_cons.1 hs
  unfold insB
  by_cases q:y.Id<b.Id
  ·rw [if_pos q]
   refine List.pairwise_cons.2 ⟨fun x hx=> ?_,insB_sort h1.2⟩
   rcases (insB_mem h1.2).1 hx with rfl |z
   ·exact q
   ·exact h1.1 x z.1
  ·rw [if_neg q]
   by_cases q2:y.Id=b.Id
   ·rw [if_pos q2]
    exact List.pairwise_cons.2 ⟨fun x hx=>by have:=h1.1 x hx;omega,h1.2⟩
   ·rw [if_neg q2]
    refine List.pairwise_cons.2 ⟨fun x hx=> ?_,hs⟩
    rcases List.mem_cons.1 hx with rfl |z
    ·omega
    ·have:=h1.1 x z;omega
theorem put_broker {m:Img}(h:okImg m){nb:Bk}(h1:1≤nb.Id∧nb.Id≤64∧0≤nb.Epoch∧nb.Epoch≤1073741824∧nameV nb.Rack=true) (h2:(nb.Fenced&&(nb.Leaving&&leadsV m nb.Id))=false)
  (h3:nb.Fenced=false∨leadsV m nb.Id=false∨∀ b∈m.Brokers,b.Id≠nb.Id):okImg {m with Brokers:=insB nb m.Brokers}:=by
 have hs:=insB_sort (b:=nb) h.bs
 have hsk:SortK bkId (insB nb m.Brokers):=⟨fun b hb=>by
  rcases (insB_mem h.bs).1 hb with rfl |z
  ·simp only [bkId];omega
  ·have:=h.bk b z.1;simp only [bkId];omega,hs⟩
 refine⟨hs,fun b hb=> ?_,h.last,h.tn,h.ts,fun t ht=> ?_,h.nm,h.cs,h.cf,h.dl,h.dn,h.dd⟩
 ·rcases (insB_mem h.bs).1 hb with rfl |z
  ·exact⟨h1.1,h1.2.1,h1.2.2.1,h1.2.2.2.1,h1.2.2.2.2,h2⟩
  ·exact h.bk b z.1
 ·have hp:=h.tp t ht
  refine⟨hp.1,hp.2.1,hp.2.2.1,hp.2.2.2.1,fun p hpp=>partV_mono (hp.2.2.2.2 p hpp) (fun id _ hh=> ?_) fun hl hi ha=> ?_⟩
  ·obtain ⟨b,hb,e⟩:=hasB_iff.1 hh
   refine hasB_iff.2 ?_
   by_cases q:b.Id=nb.Id
   ·exact⟨nb,(insB_mem h.bs).2 (.inl rfl),by omega⟩
   ·exact⟨b,(insB_mem h.bs).2 (.inr ⟨hb,q⟩),e⟩
  ·obtain ⟨b,hb,e,hf⟩:=(alive_iff h.sortB).1 ha
   refine(alive_iff (m:={m with Brokers:=insB nb m.Brokers}) hsk).2 ?_
   by_cases q:b.Id=nb.Id
   ·have hL:leadsV m nb.Id=true:=leads_iff.2 ⟨t,ht,p,hpp,by omega⟩
    rcases h3 with z |z |z
    ·exact⟨nb,(insB_mem h.bs).2 (.inl rfl),by omega,z⟩
    ·rw [hL] at z;cases z
    ·exact absurd q (z b hb)
   ·exact⟨b,(insB_mem h.bs).2 (.inr ⟨hb,q⟩),e,hf⟩
theorem no_broker {m:Img}{id:Int}(h:usedV m id=false) (hk:okImg m):okImg {m with Brokers:=m.Brokers.filter fun x=>decide (x.Id≠id)}:=by
 have hm:∀ x,x∈(m.Brokers.filter fun x=>decide (x.Id≠id))↔x∈m.Brokers∧x.Id≠id:=fun x=>by rw [List.mem_filter,decide_eq_true_eq]
 have hs:=hk.bs.filter (fun x=>decide (x.Id≠id))
 have hsk:SortK bkId (m.Brokers.filter fun x=>decide (x.Id≠id)):=⟨fun b hb=>hk.sortB.bound b ((hm b).1 hb).1,hs⟩
 refine⟨hs,fun b hb=>hk.bk b ((hm b).1 hb).1,hk.last,hk.tn,hk.ts,fun t ht=> ?_,hk.nm,hk.cs,hk.cf,hk.dl,hk.dn,hk.dd⟩
 have hp:=hk.tp t ht
 have hno:∀ p∈t.Parts,id∉p.Ids:=fun p hpp z=>by
  rw [(used_iff (m:=m)).2 ⟨t,ht,p,hpp,z⟩] at h;cases h
 refine⟨hp.1,hp.2.1,hp.2.2.1,hp.2.2.2.1,fun p hpp=>partV_mono (hp.2.2.2.2 p hpp) (fun x hx hh=> ?_) fun hl hi ha=> ?_⟩
 ·obtain ⟨b,hb,e⟩:=hasB_iff.1 hh
  exact hasB_iff.2 ⟨b,(hm b).2 ⟨hb,fun z=>hno p hpp (by rw [←z,e];exact hx)⟩,e⟩
 ·obtain ⟨b,hb,e,hf⟩:=(alive_iff hk.sortB).1 ha
  have hin:=partV_isr (hp.2.2.2.2 p hpp) hi
  exact(alive_iff (m:={m with Brokers:=m.Brokers.filter fun x=>decide (x.Id≠id)}) hsk).2 ⟨b,(hm b).2 ⟨hb,fun z=>hno p hpp (by rw [←z,e];exact hin)⟩,e,hf⟩
theorem putV_mem {m:Img}{id:Int}{n:Nat}{p:Pt}{t:Tp}(h:t∈(putV m id n p).Topics):∃ u∈m.Topics,t.Id=u.Id∧t.Name=u.Name∧(t=u∨u.Id=id∧t.Parts=setP u.Parts n p):=by
 unfold putV at h
 obtain ⟨u,hu,rfl⟩:=List.mem_map.1 h
 refine⟨u,hu, ?_⟩
 by_cases q:u.Id=id
 ·rw [if_pos q];exact⟨rfl,rfl, .inr ⟨q,rfl⟩⟩
 ·rw [if_neg q];exact⟨rfl,rfl, .inl rfl⟩
theorem setP_mem {l:List Pt}{n:Nat}{p q:Pt}(h:q∈setP l n p):q∈l∨q=p:=by
 unfold setP at h
 rw [List.mem_append,List.mem_append,List.mem_singleton] at h
 rcases h with(h |h) |h
 ·exact .inl (List.mem_of_mem_take h)
 ·exact .inr h
 ·exact .inl (List.mem_of_mem_drop h)
theorem setP_len {l:List Pt}{n:Nat}{p:Pt}(h:n≤l.length):(setP l n p).length=if n=l.length then l.length+1 else l.length:=by
 unfold setP
 simp only [List.length_append,List.length_take,List.length_drop,List.length_singleton]
 split<;>omega
theorem put_part {m:Img}(h:okImg m){id:Int}{n:Nat}{p:Pt}(hp:partV m p=true) (hn:∀ t∈m.Topics,t.Id=id→n≤t.Parts.length∧n≤255):okImg (putV m id n p):=by
 have hid:(putV m id n p).Topics.map (fun t=>t.Id)=m.Topics.map (fun t=>t.Id):=by
  unfold putV;simp only [List.map_map]
  exact List.map_congr_left fun t _=>by simp only [Function.comp];split<;>rfl
 have hnm:(putV m id n p).Topics.map (fun t=>t.Name)=m.Topics.map (fun t=>t.Name):=by
  unfold putV;simp only [List.map_map]
  exact List.map_congr_left fun t _=>by simp only [Function.comp];split<;>rfl
 have hlen:(putV m id n p).Topics.length=m.Topics.length:=by unfold putV;simp
 have hT:∀ x,hasT m x=true→hasT (putV m id n p) x=true:=fun x hx=>by
  obtain ⟨t,ht,e⟩:=hasT_iff.1 hx
  have:x∈(putV m id n p).Topics.map (fun t=>t.Id):=by rw [hid];exact List.mem_map.2 ⟨t,ht,e⟩
  obtain ⟨u,hu,e2⟩:=List.mem_map.1 this
  exact hasT_iff.2 ⟨u,hu,e2⟩
 refine⟨h.bs,fun b hb=> ?_,h.last,by rw [hlen];exact h.tn, ?_,fun t ht=> ?_, ?_,h.cs,fun c hc=> ?_,h.dl,h.dn,h.dd⟩
 ·have hk:=h.bk b hb
  refine⟨hk.1,hk.2.1,hk.2.2.1,hk.2.2.2.1,hk.2.2.2.2.1, ?_⟩
  cases z:leadsV (putV m id n p) b.Id with
  |false=>cases b.Fenced<;>cases b.Leaving<;>rfl
  |true=>
   obtain ⟨t,ht,q,hq,e⟩:=leads_iff.1 z
   obtain ⟨u,hu,_,_,hh⟩:=putV_mem ht
   have old:(∃ q∈u.Parts,q.Leader=b.Id)→(b.Fenced&&(b.Leaving&&true))=false:=fun⟨q,hq,e⟩=>by
    have:=hk.2.2.2.2.2
    rw [leads_iff.2 ⟨u,hu,q,hq,e⟩] at this;exact this
   have new:p.Leader=b.Id→(b.Fenced&&(b.Leaving&&true))=false:=fun e=>by
    have h4:=hp
    unfold partV part4 at h4
    simp only [Bool.and_eq_true,Bool.or_eq_true,decide_eq_true_eq] at h4
    rcases h4.2.2.2.2.1 with y |y
    ·omega
    ·obtain ⟨b',hb',e',hf⟩:=(alive_iff h.sortB).1 y.2
     have e1:=findK_is h.sortB hb
     have e2:=findK_is h.sortB hb'
     rw [show bkId b'=bkId b by simp only [bkId];omega,e1] at e2
     rw [Option.some.inj e2,hf];rfl
   rcases hh with rfl |⟨_,hs⟩
   ·exact old ⟨q,hq,e⟩
   ·rw [hs] at hq
    rcases setP_mem hq with y |rfl
    ·exact old ⟨q,y,e⟩
    ·exact new e
 ·have:=h.ts
  rw [←List.pairwise_map (f:=fun t:Tp=>t.Id) (R:=fun a b=>a<b)] at this⊢
  rw [hid];exact this
 ·obtain ⟨u,hu,e1,e2,hh⟩:=putV_mem ht
  have hu':=h.tp u hu
  refine⟨by rw [e1];exact hu'.1,by rw [e1];exact hu'.2.1,by rw [e2];exact hu'.2.2.1, ?_,fun q hq=> ?_⟩
  ·rcases hh with rfl |⟨hi,hs⟩
   ·exact hu'.2.2.2.1
   ·rw [hs,setP_len (hn u hu hi).1]
    have:=(hn u hu hi).2
    have:=hu'.2.2.2.1
    split<;>omega
  ·show partV m q=true
   rcases hh with rfl |⟨_,hs⟩
   ·exact hu'.2.2.2.2 q hq
   ·rw [hs] at hq
    rcases setP_mem hq with y |rfl
    ·exact hu'.2.2.2.2 q y
    ·exact hp
 ·have:=h.nm
  rw [←List.pairwise_map (f:=fun t:Tp=>t.Name) (R:=fun a b=>a≠b)] at this⊢
  rw [hnm];exact this
 ·have:=h.cf c hc
  exact⟨this.1.imp (fun z=>z) (hT _),this.2⟩
theorem add_topic {m : Img} (h : okImg m) {id : Int} {s : ByteArray} (h1 : id = m.Last + 1) (h2 : id ≤ 1073741824) (h3 : nameV s = true) (h4 : namedV m s = false) (h5 : m.Topics.length < 256) :
    okImg { m with Topics := m.Topics ++ [⟨id, s, []⟩], Last := id } := by
  have hl := h.last
  have hm : ∀ t, t ∈ m.Topics ++ [(⟨id, s, []⟩ : Tp)] ↔ t ∈ m.Topics ∨ t = ⟨id, s, []⟩ := fun t => by rw [List.mem_append, List.mem_singleton]
  have hlead : ∀ x, leadsV { m with Topics := m.Topics ++ [⟨id, s, []⟩], Last := id } x = leadsV m x := fun x => by
    unfold leadsV; simp [List.any_append]
  refine ⟨h.bs, fun b hb => by rw [hlead]; exact h.bk b hb, ⟨by show 0 ≤ id; omega, h2⟩, by show (m.Topics ++ _).length ≤ 256; simp; omega, ?_, fun t ht => ?_, ?_, h.cs, fun c hc => ?_, h.dl, h.dn, h.dd⟩
  · refine List.pairwise_append.2 ⟨h.ts, List.pairwise_singleton _ _, fun a ha b hb => ?_⟩
    rw [List.mem_singleton] at hb
    subst hb
    have := h.tp a ha
    show a.Id < id; omega
  · rcases (hm t).1 ht with z | rfl
    · have := h.tp t z
      exact ⟨this.1, by show t.Id ≤ id; omega, this.2.2.1, this.2.2.2.1, this.2.2.2.2⟩
    · exact ⟨by show 1 ≤ id; omega, Int.le_refl _, h3, by simp, fun p hp => by cases hp⟩
  · refine List.pairwise_append.2 ⟨h.nm, List.pairwise_singleton _ _, fun a ha b hb => ?_⟩
    rw [List.mem_singleton] at hb
    subst hb
    intro e
    unfold namedV at h4
    rw [List.any_eq_false] at h4
    exact h4 a ha (decide_eq_true e)
  · have := h.cf c hc
    refine ⟨this.1.imp (fun z => z) fun z => ?_, this.2⟩
    obtain ⟨t, ht, e⟩ := hasT_iff.1 z
    exact hasT_iff.2 ⟨t, (hm t).2 (.inl ht), e⟩
theorem drop_topic {m : Img} (h : okImg m) (id : Int) : okImg { m with Topics := m.Topics.filter (fun t => decide (t.Id ≠ id)), Configs := m.Configs.filter (fun c => decide (c.Topic ≠ id)) } := by
  have hm : ∀ t, t ∈ (m.Topics.filter fun t => decide (t.Id ≠ id)) ↔ t ∈ m.Topics ∧ t.Id ≠ id := fun t => by rw [List.mem_filter, decide_eq_true_eq]
  have hc : ∀ t, t ∈ (m.Configs.filter fun t => decide (t.Topic ≠ id)) ↔ t ∈ m.Configs ∧ t.Topic ≠ id := fun t => by rw [List.mem_filter, decide_eq_true_eq]
  refine ⟨h.bs, fun b hb => ?_, h.last, ?_, h.ts.filter _, fun t ht => h.tp t ((hm t).1 ht).1, h.nm.filter _, h.cs.filter _, fun c hcc => ?_, h.dl, h.dn, h.dd⟩
  · have hk := h.bk b hb
    refine ⟨hk.1, hk.2.1, hk.2.2.1, hk.2.2.2.1, hk.2.2.2.2.1, ?_⟩
    cases z : leadsV { m with Topics := m.Topics.filter (fun t => decide (t.Id ≠ id)), Configs := m.Configs.filter (fun c => decide (c.Topic ≠ id)) } b.Id with
    | false => cases b.Fenced <;> cases b.Leaving <;> rfl
    | true =>
      obtain ⟨t, ht, q, hq, e⟩ := leads_iff.1 z
      have := hk.2.2.2.2.2
      rw [leads_iff.2 ⟨t, ((hm t).1 ht).1, q, hq, e⟩] at this; exact this
  · exact Nat.le_trans (List.length_filter_le (fun t : Tp => decide (t.Id ≠ id)) m.Topics) h.tn
  · obtain ⟨h1, h2⟩ := (hc c).1 hcc
    have := h.cf c h1
    refine ⟨this.1.imp (fun z => z) fun z => ?_, this.2⟩
    obtain ⟨t, ht, e⟩ := hasT_iff.1 z
    exact hasT_iff.2 ⟨t, (hm t).2 ⟨ht, by omega⟩, e⟩
theorem insC_mem {c x:Cf}:∀ {l:List Cf},x∈insC c l→x=c∨x∈l
 |[],h=>by simp [insC] at h;exact .inl h
 |y::l,h=>by
  unfold insC at h
  split at h
  ·rcases List.mem_cons.1 h with rfl |z
   ·exact .inr (.head _)
   ·exact(insC_mem z).imp id (.tail _)
  ·split at h
   ·rcases List.mem_cons.1 h with rfl |z
    ·exact .inl rfl
    ·exact .inr (.tail _ z)
   ·rcases List.mem_cons.1 h with rfl |z
    ·exact .inl rfl
    ·exact .inr z
theorem insC_sort {c:Cf}:∀ {l:List Cf},l.Pairwise cfLt→(insC c l).Pairwise cfLt
 |[],_=>by simp [insC]
 |y::l,hs=>by
  have h1:=List.pairwise_cons.1 hs
  unfold insC
  by_cases q:cfLt y c
  ·rw [if_pos q]
   refine List.pairwise_cons.2 ⟨fun x hx=> ?_,insC_sort h1.2⟩
   rcases insC_mem hx with rfl |z
   ·exact q
   ·exact h1.1 x z
  ·rw [if_neg q]
   cases e:cfIs c.Topic c.Key y with
   |true=>
    rw [if_pos rfl]
    refine List.pairwise_cons.2 ⟨fun x hx=> ?_,h1.2⟩
    have:=h1.1 x hx
    unfold cfIs at e
    simp only [Bool.and_eq_true,decide_eq_true_eq] at e
    unfold cfLt at this⊢
    rw [e.1,e.2] at this;exact this
   |false=>
    rw [if_neg (by decide)]
    have hc:=cf_tri q e
    refine List.pairwise_cons.2 ⟨fun x hx=> ?_,hs⟩
    rcases List.mem_cons.1 hx with rfl |z
    ·exact hc
    ·exact cfLt_trans hc (h1.1 x z)
theorem insC_len (c:Cf):∀ l:List Cf,(insC c l).length≤l.length+1
 |[]=>by simp [insC]
 |y::l=>by
  have:=insC_len c l
  unfold insC
  split
  ·simp only [List.length_cons];omega
  ·split<;>simp
theorem put_config {m:Img}(h:okImg m){l:List Cf}(hs:l.Pairwise cfLt) (hl:∀ c∈l,c∈m.Configs∨((c.Topic=0∨hasT m c.Topic=true)∧nameV c.Key=true∧c.Value.size≤256)):okImg {m with Configs:=l}:=
 ⟨h.bs,h.bk,h.last,h.tn,h.ts,h.tp,h.nm,hs,fun c hc=>(hl c hc).elim (h.cf c) id,h.dl,h.dn,h.dd⟩
theorem put_done {m:Img}(h:okImg m){d:Dn}(h1:1≤d.Client∧d.Client≤1073741824∧1≤d.Serial∧d.Serial≤1073741824∧0≤d.Code∧d.Code≤21) (h2:answV m d.Client d.Serial=false):
  okImg {m with Done:=m.Done.drop (if 64≤m.Done.length then m.Done.length - 63 else 0)++[d]}:=by
 have hd:=h.dl
 refine⟨h.bs,h.bk,h.last,h.tn,h.ts,h.tp,h.nm,h.cs,h.cf, ?_,fun x hx=> ?_, ?_⟩
 ·show (_++[d]).length≤64
  simp only [List.length_append,List.length_drop,List.length_singleton]
  split<;>omega
 ·rcases List.mem_append.1 hx with z |z
  ·exact h.dn x (List.mem_of_mem_drop z)
  ·rw [List.mem_singleton.1 z];exact h1
 ·refine List.pairwise_append.2 ⟨h.dd.sublist (List.drop_sublist _ _),List.pairwise_singleton _ _,fun a ha b hb=> ?_⟩
  rw [List.mem_singleton.1 hb]
  intro e
  unfold answV at h2
  rw [List.any_eq_false] at h2
  refine h2 a (List.mem_of_mem_drop ha) ?_
  unfold dnIs
  simp only [Prod.mk.injEq] at e
  rw [e.1,e.2];simp
theorem has_b {k bit:Int}(h:hasR k bit=true){n a c:Int}(hn:numW n (hasR k bit) a c=true):a≤n∧n≤c:=(numW_t hn).1 h
theorem has_n {k bit:Int}(h:hasR k bit=true){s:ByteArray}(hn:textN s (hasR k bit)=true):nameV s=true:=by
 unfold textN at hn;rw [if_pos h] at hn;exact hn
theorem okRec.part1 {r:Rec}(h:okRec r):G.part1 (partOf r)=true:=by
 unfold G.part1 partOf
 rw [brB_t.2 (rowV_t h.ids).1,brB_t.2 (rowV_t h.isr).1,brB_t.2 (rowV_t h.add).1,brB_t.2 (rowV_t h.drop).1];rfl
theorem okRec.epochB {r:Rec}(h:okRec r):0≤r.Epoch∧r.Epoch≤1073741824:=numW_b h.epoch (by omega) (by omega)
theorem step_ok {m : Img} {r : Rec} (h : okImg m) (hr : okRec r) : okImg (stepV m r).1 := by
  unfold stepV
  by_cases k2 : r.Kind = 2
  · rw [if_pos k2]
    have hb := has_b (by rw [k2]; decide) hr.broker
    have hn := has_n (by rw [k2]; decide) hr.rack
    have he := hr.epochB
    unfold registerV
    cases e : findK bkId m.Brokers r.Broker with
    | none => exact put_broker h ⟨hb.1, hb.2, he.1, he.2, hn⟩ rfl (.inr (.inr fun b hb' q => by
        have : (findK bkId m.Brokers r.Broker).isSome = true := findK_some.2 ⟨b, hb', q⟩
        rw [e] at this; cases this))
    | some b =>
      simp only
      split
      · exact h
      · split
        · exact h
        · rename_i q
          exact put_broker h ⟨hb.1, hb.2, he.1, he.2, hn⟩ rfl (.inr (.inl (by simpa using q)))
  rw [if_neg k2]
  by_cases k3 : r.Kind = 3 ∨ r.Kind = 4 ∨ r.Kind = 5 ∨ r.Kind = 6
  · rw [if_pos k3]
    unfold brokerV
    cases e : findK bkId m.Brokers r.Broker with
    | none => exact h
    | some b =>
      obtain ⟨hb, _⟩ := find_mem e
      have hk := h.bk b hb
      have hk' : 1 ≤ b.Id ∧ b.Id ≤ 64 ∧ 0 ≤ b.Epoch ∧ b.Epoch ≤ 1073741824 ∧ nameV b.Rack = true := ⟨hk.1, hk.2.1, hk.2.2.1, hk.2.2.2.1, hk.2.2.2.2.1⟩
      simp only
      split
      · exact h
      split
      · split
        · exact h
        · rename_i q
          simp only [Bool.or_eq_true, not_or, Bool.not_eq_true] at q
          refine put_broker h (nb := { b with Fenced := true }) hk' ?_ (.inr (.inl q.2))
          show (true && (b.Leaving && leadsV m b.Id)) = false
          rw [q.2]; cases b.Leaving <;> rfl
      split
      · split
        · exact h
        · exact put_broker h (nb := { b with Fenced := false, Leaving := false }) hk' rfl (.inl rfl)
      split
      · split
        · exact h
        · rename_i q
          simp only [Bool.or_eq_true, not_or, Bool.not_eq_true] at q
          refine put_broker h (nb := { b with Leaving := true }) hk' ?_ (.inl q.1)
          show (b.Fenced && (true && leadsV m b.Id)) = false
          rw [q.1]; rfl
      · split
        · exact h
        · rename_i q
          exact no_broker (by simpa using q) h
  rw [if_neg k3]
  by_cases k8 : r.Kind = 8 ∨ r.Kind = 9
  · rw [if_pos k8]
    unfold partStepV
    have hp := numW_b hr.part (by omega) (by omega)
    cases e : findK tpId m.Topics r.Topic with
    | none => exact h
    | some t =>
      simp only
      split
      · exact h
      rename_i g
      have hv : partV m (partOf r) = true := by
        rw [right_part hr.part1 hr.epochB]; exact decide_eq_true (by simpa using g)
      have hone : ∀ n : Nat, n ≤ t.Parts.length → n ≤ 255 → ∀ t' ∈ m.Topics, t'.Id = r.Topic → n ≤ t'.Parts.length ∧ n ≤ 255 := fun n hn h5 t' ht' hi => by rw [only_one h.sortT e ht' hi]; exact ⟨hn, h5⟩
      split
      · split
        · exact h
        · rename_i q
          exact put_part h hv (hone r.Part.toNat (by simp only [ne_eq, Decidable.not_not] at q; omega) (by omega))
      · split
        · exact h
        · split
          · exact h
          · split
            · exact h
            · exact put_part h hv (hone r.Part.toNat (by omega) (by omega))
  rw [if_neg k8]
  by_cases k7 : r.Kind = 7
  · rw [if_pos k7]
    have ht := has_b (by rw [k7]; decide) hr.topic
    have hn := has_n (by rw [k7]; decide) hr.name
    unfold topicV
    split
    · exact h
    split
    · exact h
    split
    · exact h
    rename_i q1 q2 q3
    have hl := h.last
    simp only [ne_eq, Decidable.not_not] at q1
    rw [w_i64 (by omega) (by omega)] at q1
    exact add_topic h q1 ht.2 hn (by simpa using q2) (by omega)
  rw [if_neg k7]
  by_cases k11 : r.Kind = 11
  · rw [if_pos k11]
    unfold dropV
    split
    · exact drop_topic h _
    · exact h
  rw [if_neg k11]
  by_cases k10 : r.Kind = 10
  · rw [if_pos k10]
    have hn := has_n (by rw [k10]; decide) hr.key
    have hv : r.Value.size ≤ 256 := (textW_t hr.value).1 (by rw [k10]; decide)
    unfold configV
    split
    · exact h
    split
    · exact h
    rename_i q1 q2
    simp only
    by_cases f : r.Flag = true
    · rw [if_pos f]
      exact put_config h (h.cs.filter _) fun c hc => .inl (List.mem_filter.1 hc).1
    · rw [if_neg f]
      refine put_config h (insC_sort h.cs) fun c hc => ?_
      rcases insC_mem hc with rfl | z
      · refine .inr ⟨?_, hn, hv⟩
        simp only [Bool.and_eq_true, Bool.not_eq_true', decide_eq_true_eq, not_and, Decidable.not_not] at q1
        cases y : hasT m r.Topic
        · exact .inl (by have := q1 y; simpa using this)
        · exact .inr rfl
      · exact .inl z
  rw [if_neg k10]
  by_cases k12 : r.Kind = 12
  · rw [if_pos k12]
    have h1 := has_b (by rw [k12]; decide) hr.client
    have h2 := has_b (by rw [k12]; decide) hr.serial
    have h3 := has_b (by rw [k12]; decide) hr.code
    unfold doneV
    split
    · exact h
    · rename_i q
      exact put_done h (d := ⟨r.Client, r.Serial, r.Code⟩) ⟨h1.1, h1.2, h2.1, h2.2, h3.1, h3.2⟩ (by simpa using q)
  rw [if_neg k12]
  exact h
theorem partsN_cons (t:Tp) (l:List Tp):partsN (t::l)=t.Parts.length+partsN l:=by unfold partsN;simp
theorem partsN_append (l m:List Tp):partsN (l++m)=partsN l+partsN m:=by unfold partsN;simp
theorem partsN_filter (p:Tp→Bool):∀ l:List Tp,partsN (l.filter p)≤partsN l
 |[]=>Nat.le_refl _
 |t::l=>by
  have:=partsN_filter p l
  rw [List.filter_cons,partsN_cons]
  split
  ·rw [partsN_cons];omega
  ·omega
theorem partsN_put {id:Int}{n:Nat}{p:Pt}:∀ {l:List Tp},l.Pairwise (fun a b=>a.Id<b.Id)→(∀ t∈l,t.Id=id→n≤t.Parts.length)→partsN (l.map fun t=>if t.Id=id then {t with Parts:=setP t.Parts n p}else t)≤partsN l+1
 |[],_,_=>by simp [partsN]
 |t::l,hs,hn=>by
  have h1:=List.pairwise_cons.1 hs
  rw [List.map_cons,partsN_cons,partsN_cons]
  by_cases q:t.Id=id
  ·have:l.map (fun t=>if t.Id=id then {t with Parts:=setP t.Parts n p}else t)=l:=by
    refine(List.map_congr_left fun x hx=> ?_).trans (List.map_id' l)
    have:=h1.1 x hx
    rw [if_neg (by omega)]
   rw [this,if_pos q]
   have h2:=setP_len (p:=p) (hn t (.head _) q)
   simp only
   rw [h2]
   split<;>omega
  ·rw [if_neg q]
   have:=partsN_put (p:=p) h1.2 (fun x hx=>hn x (.tail _ hx))
   omega
def smaller (n:Nat) (m:Img):Prop:=m.Configs.length≤n∧partsN m.Topics≤n
theorem smaller.le {n k:Nat}{m:Img}(h:smaller n m) (hk:n≤k):smaller k m:=⟨by have:=h.1;omega,by have:=h.2;omega⟩
theorem step_size {n : Nat} {m : Img} {r : Rec} (h : okImg m) (hr : okRec r) (hs : smaller n m) : smaller (n + 1) (stepV m r).1 := by
  have h0 : smaller (n + 1) m := hs.le (by omega)
  unfold stepV
  split
  · unfold registerV
    split
    · split
      · exact h0
      · split <;> exact h0
    · exact h0
  split
  · unfold brokerV
    split
    · exact h0
    · split
      · exact h0
      split
      · split <;> exact h0
      split
      · split <;> exact h0
      split
      · split <;> exact h0
      · split <;> exact h0
  split
  · have hp := numW_b hr.part (by omega) (by omega)
    unfold partStepV
    cases e : findK tpId m.Topics r.Topic with
    | none => exact h0
    | some t =>
      have put : ∀ k : Nat, k ≤ t.Parts.length → smaller (n + 1) (putV m r.Topic k (partOf r)) := fun k hk =>
        ⟨h0.1, by have := partsN_put (p := partOf r) (n := k) h.ts (fun t' ht' hi => by rw [only_one h.sortT e ht' hi]; exact hk); have := hs.2; exact Nat.le_trans ‹_› (by omega)⟩
      simp only
      split
      · exact h0
      split
      · split
        · exact h0
        · rename_i q
          exact put _ (by simp only [ne_eq, Decidable.not_not] at q; omega)
      · split
        · exact h0
        · split
          · exact h0
          · split
            · exact h0
            · exact put _ (by omega)
  split
  · unfold topicV
    split
    · exact h0
    split
    · exact h0
    split
    · exact h0
    exact ⟨h0.1, by show partsN (m.Topics ++ _) ≤ _; rw [partsN_append]; have := h0.2; unfold partsN at this ⊢; simpa using this⟩
  split
  · unfold dropV
    split
    · exact ⟨Nat.le_trans (List.length_filter_le _ _) h0.1, Nat.le_trans (partsN_filter _ _) h0.2⟩
    · exact h0
  split
  · unfold configV
    split
    · exact h0
    split
    · exact h0
    · refine ⟨?_, h0.2⟩
      show (if r.Flag = true then _ else _ : List Cf).length ≤ _
      split
      · exact Nat.le_trans (List.length_filter_le _ _) h0.1
      · have := insC_len (cfOf r) m.Configs; have := hs.1; omega
  split
  · unfold doneV
    split <;> exact h0
  · exact h0
noncomputable def codeV (r:Rec):Int:=match f_ref05_Check r with |some w=>w.Code |none=>0
noncomputable def applyM (m:Img) (r:Rec):Img×Int:=if codeV r=0 then stepV m r else(m,codeV r)
theorem apply_M {m:Img}{r:Rec}(h:okImg m) (hl:limM m):f_ref15_Apply m r=some (applyM m r)∧(codeV r=0↔okRec r∧(r.Value=⟨#[]⟩∨r.Flag=false)):=by
 obtain ⟨w,h1,h2,h3⟩:=apply_eq (r:=r) h hl
 have e:codeV r=w.Code:=by unfold codeV;rw [h1]
 exact⟨by rw [h3];unfold applyM;rw [e],by rw [e];exact h2⟩
structure okN (n:Nat) (m:Img):Prop where
 ok:okImg m
 sm:smaller n m
theorem okN.lim {n:Nat}{m:Img}(h:okN n m) (hn:n≤1000):limM m:=h.ok.lim (by have:=h.sm.1;omega)
theorem apply_N {n:Nat}{m:Img}{r:Rec}(h:okN n m) (hn:n≤1000):f_ref15_Apply m r=some (applyM m r)∧okN (n+1) (applyM m r).1:=by
 obtain ⟨h1,h2⟩:=apply_M (r:=r) h.ok (h.lim hn)
 refine⟨h1, ?_⟩
 unfold applyM
 split
 ·rename_i g
  exact⟨step_ok h.ok (h2.1 g).1,step_size h.ok (h2.1 g).1 h.sm⟩
 ·exact⟨h.ok,h.sm.le (by omega)⟩
noncomputable def afterM (m:Img) (l:List Rec):Img:=l.foldl (fun m r=>(applyM m r).1) m
theorem after_N {n:Nat}{m:Img}(h:okN n m):∀ {l:List Rec},n+l.length≤1000→okN (n+l.length) (afterM m l):=by
 intro l
 induction l generalizing n m with
 |nil=>intro _;exact h
 |cons r l ih=>
  intro hl
  simp only [List.length_cons] at hl⊢
  have:=ih (apply_N (r:=r) h (by omega)).2 (by omega)
  rw [show n+(l.length+1)=n+1+l.length by omega]
  exact this
theorem after_take {m:Img}{l:List Rec}{i:Nat}(hi:i<l.length):afterM m (l.take (i+1))=(applyM (afterM m (l.take i)) l[i]).1:=by
 unfold afterM
 rw [List.take_succ_eq_append_getElem hi,List.foldl_append];rfl
theorem iz_ok:okN 0 iz:=⟨⟨.nil,fun _ h=>(by cases h),⟨by decide,by decide⟩,by decide, .nil,fun _ h=>(by cases h), .nil, .nil,fun _ h=>(by cases h),by decide,fun _ h=>(by cases h), .nil⟩,⟨by decide,by decide⟩⟩
theorem made_eq {l:List Rec}(hl:l.length≤1000):f_law15_Made l=some (afterM iz l):=by
 unfold f_law15_Made
 have hN:∀ i,i≤l.length→okN i (afterM iz (l.take i)):=fun i hi=>by
  have:=after_N (l:=l.take i) iz_ok (by rw [List.length_take];omega)
  rw [List.length_take,Nat.zero_add,Nat.min_eq_left hi] at this
  exact this
 have:=first_loop (step:=f_law15_Made_l0 l) (n:=l.length) (st:=fun i=>((i:Int),(afterM iz (l.take i)).Brokers,(afterM iz (l.take i)).Topics,(afterM iz (l.take i)).Configs,(afterM iz (l.take i)).Done,(afterM iz (l.take i)).Last)) (g:=fun _=>(none:Option Unit)) (ex:=fun _=>([],[],[],[],0))
  (fin:=((afterM iz l).Brokers,(afterM iz l).Topics,(afterM iz l).Configs,(afterM iz l).Done,(afterM iz l).Last))
  (fun i hi _=>by
   unfold f_law15_Made_l0
   simp only [lt_i hi,if_true,grd_t (in_i hi),succ_i64 hi (show l.length≤1000000000 by omega),len_lt hi]
   rw [show (⟨(afterM iz (l.take i)).Brokers,(afterM iz (l.take i)).Topics,(afterM iz (l.take i)).Configs,(afterM iz (l.take i)).Done,(afterM iz (l.take i)).Last⟩:T_api_Image)=afterM iz (l.take i) from rfl,(apply_N (hN i (by omega)) (by omega)).1]
   simp only [Option.bind_some]
   rw [after_take hi])
  (fun _=>by unfold f_law15_Made_l0;simp only [lt_n,List.take_length];rfl)
 rw [show (((0:Nat):Int),(afterM iz (l.take 0)).Brokers,(afterM iz (l.take 0)).Topics,(afterM iz (l.take 0)).Configs,(afterM iz (l.take 0)).Done,(afterM iz (l.take 0)).Last)=((0:Int),[],[],[],[],(0:Int)) from rfl] at this
 rw [this]
 have:firstE (fun _=>(none:Option Unit)) l.length 0=none:=firstE_none0.2 fun _ _=>rfl
 rw [this];rfl
def w1:Rec:=⟨2,1,1,0,0,0,0,0,0,false,⟨#[]⟩,⟨#[]⟩,⟨#[]⟩,⟨#[97]⟩,[],[],[],[]⟩
def w2:Rec:=⟨4,1,1,0,0,0,0,0,0,false,⟨#[]⟩,⟨#[]⟩,⟨#[]⟩,⟨#[]⟩,[],[],[],[]⟩
def w3:Rec:=⟨2,2,1,0,0,0,0,0,0,false,⟨#[]⟩,⟨#[]⟩,⟨#[]⟩,⟨#[98]⟩,[],[],[],[]⟩
def w4:Rec:=⟨4,2,1,0,0,0,0,0,0,false,⟨#[]⟩,⟨#[]⟩,⟨#[]⟩,⟨#[]⟩,[],[],[],[]⟩
def w5:Rec:=⟨7,0,0,1,0,0,0,0,0,false,⟨#[116]⟩,⟨#[]⟩,⟨#[]⟩,⟨#[]⟩,[],[],[],[]⟩
def w6:Rec:=⟨8,0,0,1,0,1,0,0,0,false,⟨#[]⟩,⟨#[]⟩,⟨#[]⟩,⟨#[]⟩,[1,2],[1,2],[],[]⟩
theorem first_eq:f_law15_First=some [w1,w2,w3,w4,w5,w6]:=rfl
theorem brok0:brOk []:=⟨by decide,fun i h=>by simp at h⟩
theorem brok12:brOk [1,2]:=⟨by decide,fun i h=>by
 simp only [List.length_cons,List.length_nil] at h
 match i,h with
 |0,_=>exact⟨show (1:Int)≤1 by decide,show (1:Int)≤64 by decide,show¬ (1:Int)∈([]:List Int) by decide⟩
 |1,_=>exact⟨show (1:Int)≤2 by decide,show (2:Int)≤64 by decide,show¬ (2:Int)∈([1]:List Int) by decide⟩⟩
theorem row0 (k bit:Int):rowV [] (hasR k bit)=true:=by unfold rowV;split;exact brB_t.2 brok0;rfl
theorem ok1:okRec w1:=⟨⟨by decide,by decide⟩,by decide,by decide,by decide,by decide,by decide,by decide,by decide,by decide,fun _=>rfl,by decide,by decide,by decide,by decide,row0 _ _,row0 _ _,row0 _ _,row0 _ _⟩
theorem ok2:okRec w2:=⟨⟨by decide,by decide⟩,by decide,by decide,by decide,by decide,by decide,by decide,by decide,by decide,fun _=>rfl,by decide,by decide,by decide,by decide,row0 _ _,row0 _ _,row0 _ _,row0 _ _⟩
theorem ok3:okRec w3:=⟨⟨by decide,by decide⟩,by decide,by decide,by decide,by decide,by decide,by decide,by decide,by decide,fun _=>rfl,by decide,by decide,by decide,by decide,row0 _ _,row0 _ _,row0 _ _,row0 _ _⟩
theorem ok4:okRec w4:=⟨⟨by decide,by decide⟩,by decide,by decide,by decide,by decide,by decide,by decide,by decide,by decide,fun _=>rfl,by decide,by decide,by decide,by decide,row0 _ _,row0 _ _,row0 _ _,row0 _ _⟩
theorem ok5:okRec w5:=⟨⟨by decide,by decide⟩,by decide,by decide,by decide,by decide,by decide,by decide,by decide,by decide,fun _=>rfl,by decide,by decide,by decide,by decide,row0 _ _,row0 _ _,row0 _ _,row0 _ _⟩
theorem ok6:okRec w6:=⟨⟨by decide,by decide⟩,by decide,by decide,by decide,by decide,by decide,by decide,by decide,by decide,fun _=>rfl,by decide,by decide,by decide,by decide,by unfold rowV;rw [if_pos (by decide)];exact brB_t.2 brok12,by unfold rowV;rw [if_pos (by decide)];exact brB_t.2 brok12,row0 _ _,row0 _ _⟩
def mz16:Img:=⟨[⟨1,1,⟨#[97]⟩,false,false⟩,⟨2,1,⟨#[98]⟩,false,false⟩],[⟨1,⟨#[116]⟩,[⟨[1,2],[1,2],1,0,[],[]⟩]⟩],[],[],1⟩
theorem apply_ok {m:Img}{r:Rec}(h:okN 10 m) (hr:okRec r) (hf:r.Value=⟨#[]⟩):applyM m r=stepV m r:=by
 unfold applyM
 rw [if_pos ((apply_M (r:=r) h.ok (h.lim (by omega))).2.2 ⟨hr, .inl hf⟩)]
theorem made_first : f_law15_Made [w1, w2, w3, w4, w5, w6] = some mz16 := by
  rw [made_eq (by decide)]
  have s1 : okN 10 iz := ⟨iz_ok.ok, iz_ok.sm.le (by omega)⟩
  have nx : ∀ {m : Img} {r : Rec} {m' : Img}, okN 10 m → okRec r → r.Value = ⟨#[]⟩ → smaller 10 m' → (stepV m r).1 = m' → (applyM m r).1 = m' ∧ okN 10 m' := fun {m r m'} h hr hf hs e => by
    rw [apply_ok h hr hf]
    exact ⟨e, by rw [← e]; exact step_ok h.ok hr, hs⟩
  obtain ⟨e1, s2⟩ := nx s1 ok1 rfl (m' := ⟨[⟨1, 1, ⟨#[97]⟩, true, false⟩], [], [], [], 0⟩) ⟨by decide, by decide⟩ (by kernel_rfl)
  obtain ⟨e2, s3⟩ := nx s2 ok2 rfl (m' := ⟨[⟨1, 1, ⟨#[97]⟩, false, false⟩], [], [], [], 0⟩) ⟨by decide, by decide⟩ (by kernel_rfl)
  obtain ⟨e3, s4⟩ := nx s3 ok3 rfl (m' := ⟨[⟨1, 1, ⟨#[97]⟩, false, false⟩, ⟨2, 1, ⟨#[98]⟩, true, false⟩], [], [], [], 0⟩) ⟨by decide, by decide⟩ (by kernel_rfl)
  obtain ⟨e4, s5⟩ := nx s4 ok4 rfl (m' := ⟨[⟨1, 1, ⟨#[97]⟩, false, false⟩, ⟨2, 1, ⟨#[98]⟩, false, false⟩], [], [], [], 0⟩) ⟨by decide, by decide⟩ (by kernel_rfl)
  obtain ⟨e5, s6⟩ := nx s5 ok5 rfl (m' := ⟨[⟨1, 1, ⟨#[97]⟩, false, false⟩, ⟨2, 1, ⟨#[98]⟩, false, false⟩], [⟨1, ⟨#[116]⟩, []⟩], [], [], 1⟩) ⟨by decide, by decide⟩ (by kernel_rfl)
  obtain ⟨e6, s7⟩ := nx s6 ok6 rfl (m' := mz16) ⟨by decide, by decide⟩ (by kernel_rfl)
  unfold afterM
  simp only [List.foldl_cons, List.foldl_nil]
  rw [e1, e2, e3, e4, e5, e6]
theorem mz16_ok:okN 10 mz16:=by
 have h:=after_N (l:=[w1,w2,w3,w4,w5,w6]) iz_ok (by decide)
 have e:=(made_eq (l:=[w1,w2,w3,w4,w5,w6]) (by decide)).symm.trans made_first
 rw [Option.some.inj e] at h
 exact⟨h.ok,h.sm.le (by decide)⟩
theorem many_bad {X:Type}{step:List X×Int×Int×GErr→Option ((List X×Int×Int×GErr)⊕(List X×Int×GErr))}{rdX:Int→GErr→Option (X×Int×GErr)}{n:Int}(hst:ManyStep step rdX n){a:Int}{e:GErr}(he:e.isNil=false):iter step ([],(0:Int),a,e)=some ([],a,e):=by
 refine iter_stop ?_
 rw [hst,he,Bool.and_false];rfl
theorem read_nil:∃ o a,f_dump_Read []=some (iz, .fault o a (.code 3)):=by
 have hI:f_wire_Reader_Int ⟨[],(0:Int), .nil⟩ 1073741824=some (numP [] 0 (pos0 1073741824)):=wint_read (b:=[]) okB.nil (by decide) (a:=0) (Nat.le_refl _) (by decide)
 have hP:numP [] 0 (pos0 1073741824)=(0,0, .fault numOp 0 (.code 3)):=rfl
 rw [hP] at hI
 have hb:(GErr.fault numOp 0 (.code 3)).isNil=false:=rfl
 unfold f_dump_Read
 rw [show f_wire_Read []=some (⟨[],0, .nil⟩:T_wire_Reader) from rfl,Option.bind_some]
 unfold f_dump_Read_1 f_dump_many_api_Broker_Read_4_Read_1_Read_2 f_dump_many_api_Topic_Read_6_Read_1_Read_2_Read_5_Read_3 f_dump_many_api_Config_Read_7_Read_1_Read_2 f_dump_many_api_Done_Read_8_Read_1
 rw [hI]
 simp only [Option.bind_some,wint_bad hb,many_bad (stepBk _ _) hb,many_bad (stepTp _ _) hb,many_bad (stepCf _ _) hb,many_bad (stepDn _ _) hb,wend_eq,hb,Bool.false_eq_true,and_false,if_false,Bool.not_false,if_true]
 exact⟨_,_,rfl⟩
theorem last0:f_dump_Check ⟨mz16.Brokers,mz16.Topics,mz16.Configs,mz16.Done,0⟩=some (.fault topOp 0 (.code 2)):=by
 rw [check_ck ⟨by decide,by decide,fun t ht=>by rw [List.mem_singleton.1 ht];decide,by decide,by decide⟩ (fun c hc=>by cases hc)]
 have e1:firstE (brG ⟨mz16.Brokers,mz16.Topics,mz16.Configs,mz16.Done,0⟩) mz16.Brokers.length 0=none:=rfl
 have e2:tpG ⟨mz16.Brokers,mz16.Topics,mz16.Configs,mz16.Done,0⟩ 0=some (topOp,((0:Nat):Int),2,none):=by
  unfold tpG
  exact if_pos (by decide)
 have e3:topsR ⟨mz16.Brokers,mz16.Topics,mz16.Configs,mz16.Done,0⟩=some (topOp,((0:Nat):Int),2,none):=by
  unfold topsR
  rw [if_neg (by decide)]
  show firstE _ (0+1) 0=_
  unfold firstE
  rw [e2]
 unfold chkR
 rw [e1,e3];rfl
theorem works16:f_law16_works=some true:=by
 obtain ⟨o,a,hr⟩:=read_nil
 have hp:=put16 mz16_ok.ok (by have:=mz16_ok.sm.1;omega) (by have:=mz16_ok.sm.2;omega)
 have hd:=read16 mz16_ok.ok (by have:=mz16_ok.sm.1;omega) (by have:=mz16_ok.sm.2;omega)
 have hc:=check_nil mz16_ok.ok (by have:=mz16_ok.sm.1;omega)
 have h1:f_fault_Is (.fault o a (.code 3)) 3=some true:=by rw [is_eq];rfl
 have h2:f_fault_Is (.fault topOp 0 (.code 2)) 2=some true:=by rw [is_eq];rfl
 unfold f_law16_works
 rw [first_eq,Option.bind_some,made_first,Option.bind_some,hp,Option.bind_some]
 simp only
 rw [hd,Option.bind_some]
 simp only
 rw [hr,Option.bind_some]
 simp only
 rw [last0,h1,hc]
 simp only [h2,Option.bind_some]
 rfl
abbrev W16:=T_ref16_Wrong
def toW:Option R16→W16
 |none=>⟨⟨#[]⟩,0,0⟩
 |some (o,a,c,_)=>⟨o,a,c⟩
def tup3:R16→ByteArray×Int×Int
 |(o,a,c,_)=>(o,a,c)
theorem in_eq (n a b:Int):f_ref16_in n a b=some (decide (a≤n)&&decide (n≤b)):=by
 unfold f_ref16_in;simp only [if_and,Option.bind_some]
theorem not_in (n a b:Int):(!(decide (a≤n)&&decide (n≤b)))=(decide (n<a) ||decide (b<n)):=by
 by_cases h1:a≤n<;>by_cases h2:n≤b<;>simp [h1,h2]<;>omega
theorem wr_end (f:Option R16):(((some (pickE (Sum.inl ()) (fun e=>Sum.inr (tup3 e)) f):Option (Unit⊕(ByteArray×Int×Int))).bind (Sum.elim (fun _=>(some (Sum.inl ()))) (fun(x26,x27,x28)=>(((some (⟨x26,x27,x28⟩:T_ref16_Wrong))).bind fun r=>some (Sum.inr r))))):Option (Unit⊕T_ref16_Wrong)).bind (Sum.elim (fun _=>(some (⟨⟨#[]⟩,0,0⟩:T_ref16_Wrong))) some)=some (toW f):=by
 rcases f with _ |⟨o,a,c,k⟩<;>rfl
theorem rbrokers_ck {m:Img}(h:limM m):f_ref16_brokers m=some (toW (firstE (brG m) m.Brokers.length 0)):=by
 unfold f_ref16_brokers
 have hn:m.Brokers.length≤1000000000:=by have:=h.bk;omega
 have:=first_loop (step:=f_ref16_brokers_l0 m) (n:=m.Brokers.length) (st:=fun i=>(i:Int)) (g:=brG m) (ex:=fun e=> .inr (tup3 e)) (fin:= .inl ())
  (fun i hi _=>by
   have e0:(if decide ((0:Int)<(i:Int))=true then grd (0≤IntKind.i64.wrap ((i:Int)- 1)∧IntKind.i64.wrap ((i:Int)- 1)<(m.Brokers.length:Int)) (some (rd m.Brokers (IntKind.i64.wrap ((i:Int)- 1))).Id)else some 0:Option Int)=some (lowB m i):=by
    unfold lowB
    by_cases g:i=0
    ·subst g;rfl
    ·rw [if_pos (decide_eq_true (by omega)),if_neg g,show IntKind.i64.wrap ((i:Int)- 1)=((i - 1:Nat):Int) by rw [w_i64 (by omega) (by omega)];omega,grd_t (by omega)]
   unfold f_ref16_brokers_l0
   simp only [lt_i hi,if_true,grd_t (in_i hi),succ_i64 hi hn,rname_eq,rLeads h,in_eq,if_or,if_and,Option.bind_some,e0,not_in]
   unfold brG
   by_cases g1:(decide ((rd m.Brokers (i:Int)).Id≤lowB m i) ||(decide (64<(rd m.Brokers (i:Int)).Id) ||(decide ((rd m.Brokers (i:Int)).Epoch<0) ||(decide (1073741824<(rd m.Brokers (i:Int)).Epoch) || !nameV (rd m.Brokers (i:Int)).Rack))))=true
   ·rw [if_pos g1]
    rw [show (decide ((rd m.Brokers (i:Int)).Id≤lowB m i) ||(decide (64<(rd m.Brokers (i:Int)).Id) ||(decide ((rd m.Brokers (i:Int)).Epoch<0) ||decide (1073741824<(rd m.Brokers (i:Int)).Epoch) || !nameV (rd m.Brokers (i:Int)).Rack)))=true by rw [←g1];simp only [Bool.or_assoc],if_pos rfl];rfl
   ·rw [if_neg g1]
    rw [show (decide ((rd m.Brokers (i:Int)).Id≤lowB m i) ||(decide (64<(rd m.Brokers (i:Int)).Id) ||(decide ((rd m.Brokers (i:Int)).Epoch<0) ||decide (1073741824<(rd m.Brokers (i:Int)).Epoch) || !nameV (rd m.Brokers (i:Int)).Rack)))=false by rw [←(Bool.not_eq_true _).mp g1];simp only [Bool.or_assoc],if_neg (by decide)]
    by_cases g2:((rd m.Brokers (i:Int)).Fenced&&((rd m.Brokers (i:Int)).Leaving&&leadsV m (rd m.Brokers (i:Int)).Id))=true
    ·rw [if_pos g2,if_pos g2];rfl
    ·rw [if_neg g2,if_neg g2])
  (fun _=>by unfold f_ref16_brokers_l0;simp [lt_n])
 rw [nat0] at this
 rw [this]
 exact wr_end _
theorem rpart_eq {m:Img}(hl:m.Brokers.length≤1000000000){p:Pt}(hp:limP p):f_ref16_part m p=some (partV m p):=by
 unfold f_ref16_part
 have rb:=fun l=>(brB_eq l).2
 simp only [rb,if_or,in_eq,rRight hl hp,Option.bind_some,if_and]
 have e1:(!brB p.Ids ||(!brB p.Isr ||(!brB p.Add || !brB p.Drop)))= !part1 p:=by unfold part1;simp [Bool.not_and,Bool.or_assoc]
 rw [e1]
 cases h1:part1 p
 ·unfold partV;rw [h1];rfl
 ·simp only [Bool.not_true,Bool.false_eq_true,if_false]
  by_cases h2:0≤p.Epoch∧p.Epoch≤1073741824
  ·rw [right_part h1 h2,decide_eq_true h2.1,decide_eq_true h2.2];rfl
  ·have h3:(decide (0≤p.Epoch)&&decide (p.Epoch≤1073741824))=false:=by
    by_cases a:0≤p.Epoch<;>by_cases b:p.Epoch≤1073741824<;>simp [a,b]<;>omega
   rw [h3]
   have:part2 p=true:=by
    unfold part2
    by_cases a:p.Epoch<0
    ·simp [a]
    ·have:1073741824<p.Epoch:=by omega
     simp [this]
   unfold partV
   rw [this,h1]
   cases (p.Ids.all fun x=>hasB m x)<;>rfl
theorem inL_succ {α:Type}[DecidableEq α]{l:List α}{k:Nat}(hk:k<l.length) (q:α):inL (l.take (k+1)) q=(inL (l.take k) q ||decide (l[k]=q)):=by
 unfold inL
 rw [List.take_succ_eq_append_getElem hk,List.any_append];simp
theorem rtwice {m:Img}(hn:m.Topics.length≤1000000){i:Nat}(hi:i<m.Topics.length):iter (f_ref16_topics_l1 m (i:Int)) ((0:Int),false,(0:Int))=some (lowT m i,inL ((nmT m).take i) (rd m.Topics (i:Int)).Name):=by
 have:=first_loop (step:=f_ref16_topics_l1 m (i:Int)) (n:=i) (st:=fun k=>(lowT m k,inL ((nmT m).take k) (rd m.Topics (i:Int)).Name,(k:Int))) (g:=fun _=>(none:Option Unit)) (ex:=fun _=>(0,false)) (fin:=(lowT m i,inL ((nmT m).take i) (rd m.Topics (i:Int)).Name))
  (fun k hk _=>by
   have hk2:k<m.Topics.length:=by omega
   have hk3:k<(nmT m).length:=by unfold nmT;simpa using hk2
   have hnm:(nmT m)[k]=(rd m.Topics (k:Int)).Name:=by rw [len_lt hk2];exact List.getElem_map _
   unfold f_ref16_topics_l1
   simp only [lt_i hk,if_true,grd_t (in_i hk2),succ_i64 hk2 (show m.Topics.length≤1000000000 by omega)]
   rw [inL_succ hk3,hnm,lowT_succ]
   cases inL ((nmT m).take k) (rd m.Topics (i:Int)).Name<;>rfl)
  (fun _=>by unfold f_ref16_topics_l1;simp [lt_n])
 rw [show (lowT m 0,inL ((nmT m).take 0) (rd m.Topics (i:Int)).Name,((0:Nat):Int))=((0:Int),false,(0:Int)) from rfl] at this
 rw [this]
 have:firstE (fun _=>(none:Option Unit)) i 0=none:=firstE_none0.2 fun _ _=>rfl
 rw [this];rfl
theorem rtopics_loop {m:Img}(h:limM m) (hp:∀ t∈m.Topics,∀ p∈t.Parts,limP p):iter (f_ref16_topics_l0 m) (0:Int)=some (pickE (Sum.inl ()) (fun e=>Sum.inr (tup3 e)) (firstE (tpG m) m.Topics.length 0)):=by
 have hn:m.Topics.length≤1000000000:=by have:=h.tp;omega
 have:=first_loop (step:=f_ref16_topics_l0 m) (n:=m.Topics.length) (st:=fun i=>(i:Int)) (g:=tpG m) (ex:=fun e=> .inr (tup3 e)) (fin:= .inl ())
  (fun i hi _=>by
   unfold f_ref16_topics_l0
   have hpt:(rd m.Topics (i:Int)).Parts.length≤1000000000:=by have:=h.pt _ (rd_mem hi);omega
   simp only [lt_i hi,if_true,grd_t (in_i hi),succ_i64 hi hn,rtwice h.tp hi,rname_eq,if_or,Option.bind_some]
   unfold tpG
   by_cases g1:(decide ((rd m.Topics (i:Int)).Id≤lowT m i) ||(decide (m.Last<(rd m.Topics (i:Int)).Id) ||(!nameV (rd m.Topics (i:Int)).Name ||(inL ((nmT m).take i) (rd m.Topics (i:Int)).Name ||decide (256<((rd m.Topics (i:Int)).Parts.length:Int))))))=true
   ·rw [if_pos g1,if_pos g1];rfl
   ·rw [if_neg g1,if_neg g1]
    have hin:=first_loop (step:=f_ref16_topics_l2 m (i:Int)) (n:=(rd m.Topics (i:Int)).Parts.length) (st:=fun k=>(k:Int)) (g:=ptG m i) (ex:=fun e=> .inr (tup3 e)) (fin:= .inl ())
     (fun k hk _=>by
      unfold f_ref16_topics_l2
      simp only [lt_i hk,if_true,grd_t (in_i hk),succ_i64 hk hpt,rpart_eq (show m.Brokers.length≤1000000000 by have:=h.bk;omega) (hp _ (rd_mem hi) _ (rd_mem hk)),Option.bind_some]
      unfold ptG
      cases partV m (rd (rd m.Topics (i:Int)).Parts (k:Int))<;>rfl)
     (fun _=>by unfold f_ref16_topics_l2;simp [lt_n])
    rw [nat0] at hin
    rw [hin]
    rcases firstE (ptG m i) (rd m.Topics (i:Int)).Parts.length 0 with _ |⟨o,a,c,k⟩<;>rfl)
  (fun _=>by unfold f_ref16_topics_l0;simp [lt_n])
 rw [nat0] at this
 exact this
theorem rtopics_ck {m:Img}(h:limM m) (hp:∀ t∈m.Topics,∀ p∈t.Parts,limP p):f_ref16_topics m=some (toW (topsR m)):=by
 unfold f_ref16_topics topsR
 simp only [in_eq,Option.bind_some,if_or,not_in]
 rw [show (decide ((256:Int)<(m.Topics.length:Int)) ||(decide (m.Last<0) ||decide (1073741824<m.Last)))=headG m from rfl]
 cases headG m
 ·simp only [Bool.false_eq_true,if_false]
  rw [rtopics_loop h hp]
  exact wr_end _
 ·rfl
theorem rconfigs_ck {m:Img}(h:limM m):f_ref16_configs m=some (toW (firstE (cfG m) m.Configs.length 0)):=by
 unfold f_ref16_configs
 have hn:m.Configs.length≤1000000000:=by have:=h.cf;omega
 have hT:m.Topics.length≤1000000000:=by have:=h.tp;omega
 have:=first_loop (step:=f_ref16_configs_l0 m) (n:=m.Configs.length) (st:=fun i=>(i:Int)) (g:=cfG m) (ex:=fun e=> .inr (tup3 e)) (fin:= .inl ())
  (fun i hi _=>by
   unfold f_ref16_configs_l0
   simp only [lt_i hi,if_true,grd_t (in_i hi),succ_i64 hi hn,rname_eq,rTopic hT,if_or,if_and,Option.bind_some]
   have e1:getV tz (findK tpId m.Topics (rd m.Configs (i:Int)).Topic)=((getV tz (findK tpId m.Topics (rd m.Configs (i:Int)).Topic)).1,hasT m (rd m.Configs (i:Int)).Topic):=by
    unfold hasT;cases findK tpId m.Topics (rd m.Configs (i:Int)).Topic<;>rfl
   rw [e1]
   simp only
   have e2:(if(!hasT m (rd m.Configs (i:Int)).Topic)=true then some (decide ((rd m.Configs (i:Int)).Topic≠0) ||(!nameV (rd m.Configs (i:Int)).Key ||decide (256<((rd m.Configs (i:Int)).Value.size:Int))))else some (!nameV (rd m.Configs (i:Int)).Key ||decide (256<((rd m.Configs (i:Int)).Value.size:Int))))=some (!hasT m (rd m.Configs (i:Int)).Topic&&decide ((rd m.Configs (i:Int)).Topic≠0) ||(!nameV (rd m.Configs (i:Int)).Key ||decide (256<((rd m.Configs (i:Int)).Value.size:Int)))):=by
    cases hasT m (rd m.Configs (i:Int)).Topic
    ·rfl
    ·rfl
   rw [e2,Option.bind_some]
   unfold cfG
   by_cases g1:(!hasT m (rd m.Configs (i:Int)).Topic&&decide ((rd m.Configs (i:Int)).Topic≠0) ||(!nameV (rd m.Configs (i:Int)).Key ||decide (256<((rd m.Configs (i:Int)).Value.size:Int))))=true
   ·rw [if_pos g1,if_pos g1];rfl
   ·rw [if_neg g1,if_neg g1]
    by_cases g2:i=0
    ·subst g2;simp
    ·have hw:IntKind.i64.wrap ((i:Int)- 1)=((i - 1:Nat):Int):=by rw [w_i64 (by omega) (by omega)];omega
     have hj:i - 1<m.Configs.length:=by omega
     rw [if_neg (fun z=>by have:=of_decide_eq_true z;omega),if_neg g2,hw,grd_t (in_i hj)]
     by_cases g3:(decide ((rd m.Configs (i:Int)).Topic<(rd m.Configs ((i - 1:Nat):Int)).Topic) ||(decide ((rd m.Configs ((i - 1:Nat):Int)).Topic=(rd m.Configs (i:Int)).Topic)&&geS (rd m.Configs ((i - 1:Nat):Int)).Key (rd m.Configs (i:Int)).Key))=true
     ·rw [if_pos g3]
      unfold geS at g3
      rw [if_pos g3];rfl
     ·rw [if_neg g3]
      unfold geS at g3
      rw [if_neg g3];rfl)
  (fun _=>by unfold f_ref16_configs_l0;simp [lt_n])
 rw [nat0] at this
 rw [this]
 exact wr_end _
theorem rdone_in {m:Img}(hn:m.Done.length≤1000000){i:Nat}(hi:i<m.Done.length) (b:Bool):iter (f_ref16_done_l1 m (i:Int)) (b,(0:Int))=some (b ||inL ((dnK m).take i) ((rd m.Done (i:Int)).Client,(rd m.Done (i:Int)).Serial)):=by
 have:=first_loop (step:=f_ref16_done_l1 m (i:Int)) (n:=i) (st:=fun k=>((b ||inL ((dnK m).take k) ((rd m.Done (i:Int)).Client,(rd m.Done (i:Int)).Serial)),(k:Int))) (g:=fun _=>(none:Option Unit)) (ex:=fun _=>false) (fin:=(b ||inL ((dnK m).take i) ((rd m.Done (i:Int)).Client,(rd m.Done (i:Int)).Serial)))
  (fun k hk _=>by
   have hk2:k<m.Done.length:=by omega
   have hk3:k<(dnK m).length:=by unfold dnK;simpa using hk2
   have hnm:(dnK m)[k]=((rd m.Done (k:Int)).Client,(rd m.Done (k:Int)).Serial):=by rw [len_lt hk2];exact List.getElem_map _
   unfold f_ref16_done_l1
   simp only [lt_i hk,if_true,grd_t (in_i hk2),succ_i64 hk2 (show m.Done.length≤1000000000 by omega),if_and]
   rw [inL_succ hk3,hnm,←Bool.or_assoc]
   cases (b ||inL ((dnK m).take k) ((rd m.Done (i:Int)).Client,(rd m.Done (i:Int)).Serial))
   ·simp only [Bool.false_eq_true,if_false,Option.bind_some,Bool.false_or]
    by_cases q1:(rd m.Done (k:Int)).Client=(rd m.Done (i:Int)).Client<;>by_cases q2:(rd m.Done (k:Int)).Serial=(rd m.Done (i:Int)).Serial<;>simp [q1,q2]
   ·rfl)
  (fun _=>by unfold f_ref16_done_l1;simp [lt_n])
 rw [show ((b ||inL ((dnK m).take 0) ((rd m.Done (i:Int)).Client,(rd m.Done (i:Int)).Serial)),((0:Nat):Int))=(b,(0:Int)) by rw [show inL ((dnK m).take 0) ((rd m.Done (i:Int)).Client,(rd m.Done (i:Int)).Serial)=false from rfl,Bool.or_false];rfl] at this
 rw [this]
 have:firstE (fun _=>(none:Option Unit)) i 0=none:=firstE_none0.2 fun _ _=>rfl
 rw [this];rfl
theorem rdone_ck {m:Img}(h:limM m):f_ref16_done m=some (toW (if 64<(m.Done.length:Int)then some (dnOp,(m.Done.length:Int),6,none)else firstE (dnG m) m.Done.length 0)):=by
 unfold f_ref16_done
 have hn:m.Done.length≤1000000000:=by have:=h.dn;omega
 by_cases g:64<(m.Done.length:Int)
 ·rw [if_pos (decide_eq_true g),if_pos g];rfl
 rw [if_neg (fun z=>g (of_decide_eq_true z)),if_neg g]
 have:=first_loop (step:=f_ref16_done_l0 m) (n:=m.Done.length) (st:=fun i=>(i:Int)) (g:=dnG m) (ex:=fun e=> .inr (tup3 e)) (fin:= .inl ())
  (fun i hi _=>by
   unfold f_ref16_done_l0
   simp only [lt_i hi,if_true,grd_t (in_i hi),succ_i64 hi hn,in_eq,not_in,if_or,Option.bind_some,rdone_in h.dn hi]
   unfold dnG
   have e1:((decide ((rd m.Done (i:Int)).Client<1) ||decide (1073741824<(rd m.Done (i:Int)).Client) ||(decide ((rd m.Done (i:Int)).Serial<1) ||decide (1073741824<(rd m.Done (i:Int)).Serial) ||(decide ((rd m.Done (i:Int)).Code<0) ||decide (21<(rd m.Done (i:Int)).Code)))) ||inL ((dnK m).take i) ((rd m.Done (i:Int)).Client,(rd m.Done (i:Int)).Serial))=
     (decide ((rd m.Done (i:Int)).Client<1) ||(decide (1073741824<(rd m.Done (i:Int)).Client) ||(decide ((rd m.Done (i:Int)).Serial<1) ||(decide (1073741824<(rd m.Done (i:Int)).Serial) ||(decide ((rd m.Done (i:Int)).Code<0) ||(decide (21<(rd m.Done (i:Int)).Code) ||inL ((dnK m).take i) ((rd m.Done (i:Int)).Client,(rd m.Done (i:Int)).Serial))))))):=by simp only [Bool.or_assoc]
   rw [e1]
   by_cases g1:(decide ((rd m.Done (i:Int)).Client<1) ||(decide (1073741824<(rd m.Done (i:Int)).Client) ||(decide ((rd m.Done (i:Int)).Serial<1) ||(decide (1073741824<(rd m.Done (i:Int)).Serial) ||(decide ((rd m.Done (i:Int)).Code<0) ||(decide (21<(rd m.Done (i:Int)).Code) ||inL ((dnK m).take i) ((rd m.Done (i:Int)).Client,(rd m.Done (i:Int)).Serial)))))))=true
   ·rw [if_pos g1,if_pos g1];rfl
   ·rw [if_neg g1,if_neg g1];rfl)
  (fun _=>by unfold f_ref16_done_l0;simp [lt_n])
 rw [nat0] at this
 rw [this]
 exact wr_end _
theorem codes {g:Nat→Option R16}(hg:∀ i o a c k,g i=some (o,a,c,k)→c≠0){n:Nat}{o:ByteArray}{a c:Int}{k:Option Int}(h:firstE g n 0=some (o,a,c,k)):c≠0:=by
 obtain ⟨j,_,_,h3,_⟩:=firstE_some h
 exact hg _ _ _ _ _ h3
theorem brG_c {m:Img}(i:Nat) (o:ByteArray) (a c:Int) (k:Option Int) (h:brG m i=some (o,a,c,k)):c≠0:=by
 unfold brG at h
 split at h
 ·cases h;decide
 ·split at h
  ·cases h;decide
  ·cases h
theorem ptG_c {m:Img}{j:Nat}(i:Nat) (o:ByteArray) (a c:Int) (k:Option Int) (h:ptG m j i=some (o,a,c,k)):c≠0:=by
 unfold ptG at h
 split at h
 ·cases h
 ·cases h;decide
theorem tpG_c {m:Img}(i:Nat) (o:ByteArray) (a c:Int) (k:Option Int) (h:tpG m i=some (o,a,c,k)):c≠0:=by
 unfold tpG at h
 split at h
 ·cases h;decide
 ·exact codes ptG_c h
theorem cfG_c {m:Img}(i:Nat) (o:ByteArray) (a c:Int) (k:Option Int) (h:cfG m i=some (o,a,c,k)):c≠0:=by
 unfold cfG at h
 split at h
 ·cases h;decide
 ·split at h
  ·cases h
  ·split at h
   ·cases h;decide
   ·cases h
theorem dnG_c {m:Img}(i:Nat) (o:ByteArray) (a c:Int) (k:Option Int) (h:dnG m i=some (o,a,c,k)):c≠0:=by
 unfold dnG at h
 split at h
 ·cases h;decide
 ·cases h
theorem topsR_c {m:Img}{o:ByteArray}{a c:Int}{k:Option Int}(h:topsR m=some (o,a,c,k)):c≠0:=by
 unfold topsR at h
 split at h
 ·cases h;decide
 ·exact codes tpG_c h
theorem chkR_c {m:Img}{o:ByteArray}{a c:Int}{k:Option Int}(h:chkR m=some (o,a,c,k)):c≠0:=by
 unfold chkR at h
 split at h
 ·rename_i e he;cases h;exact codes brG_c he
 ·split at h
  ·rename_i e he;cases h;exact topsR_c he
  ·split at h
   ·rename_i e he;cases h;exact codes cfG_c he
   ·split at h
    ·cases h;decide
    ·exact codes dnG_c h
theorem rcheck_ck {m:Img}(h:limM m) (hp:∀ t∈m.Topics,∀ p∈t.Parts,limP p):f_ref16_Check m=some (toW (chkR m)):=by
 unfold f_ref16_Check chkR
 rw [rbrokers_ck h,rtopics_ck h hp,rconfigs_ck h,rdone_ck h]
 simp only [Option.bind_some]
 rcases e1:firstE (brG m) m.Brokers.length 0 with _ |⟨o,a,c,k⟩
 rotate_left
 ·rw [if_pos (show decide ((toW (some (o,a,c,k))).Code≠0)=true from decide_eq_true (codes brG_c e1))]
 rw [if_neg (by decide)]
 rcases e2:topsR m with _ |⟨o,a,c,k⟩
 rotate_left
 ·rw [if_pos (show decide ((toW (some (o,a,c,k))).Code≠0)=true from decide_eq_true (topsR_c e2))]
 rw [if_neg (by decide)]
 rcases e3:firstE (cfG m) m.Configs.length 0 with _ |⟨o,a,c,k⟩
 rotate_left
 ·rw [if_pos (show decide ((toW (some (o,a,c,k))).Code≠0)=true from decide_eq_true (codes cfG_c e3))]
 rw [if_neg (by decide)]
theorem wrong16 {r:Option R16}(h:∀ o a c k,r=some (o,a,c,k)→c≠0):f_law16_wrong (toG r) (toW r)=some true:=by
 unfold f_law16_wrong
 rcases r with _ |⟨o,a,c,_ |k⟩
 ·rfl
 ·have hc:=h _ _ _ _ rfl
  have hu:=under_eq (.fault o a (.code c)) o (by simp [PathE])
  simp only [toG,toW,GErr.isNil,Bool.false_eq_true,if_false,where_eq,of_eq,WhereE,OfE_fault,hu,Option.bind_some]
  simp [PathE]
 ·have hc:=h _ _ _ _ rfl
  have hu:=under_eq (.fault o a (.fault parOp k (.code c))) o (by simp [PathE])
  have ho:OfE (.fault o a (.fault parOp k (.code c)))=c:=by simp [OfE,codeIn]
  simp only [toG,toW,GErr.isNil,Bool.false_eq_true,if_false,where_eq,of_eq,WhereE,ho,hu,Option.bind_some]
  simp [PathE]
def sumN (inc:Nat→Int):Nat→Nat→Int
 |0,_=>0
 |d+1,i=>inc i+sumN inc d (i+1)
theorem w_loop {step:Int×Int→Option ((Int×Int)⊕Int)}{N:Nat}{inc:Nat→Int}(hs:∀ (i:Nat) (n:Int),i<N→0≤n→n≤300→∃ n',step (n,(i:Int))=some (.inl (n',((i+1:Nat):Int)))∧n≤n'∧(n'≤300→n'=n+inc i))
  (he:∀ (i:Nat) (n:Int),¬ (i<N∧n≤300)→step (n,(i:Int))=some (.inr n)):∀ (d i:Nat) (n:Int),i+d=N→0≤n→∃ r,iter step (n,(i:Int))=some r∧n≤r∧(r≤300→r=n+sumN inc d i)
 |0,i,n,hi,h0=>⟨n,iter_stop (he i n (by omega)),Int.le_refl _,fun _=>by simp [sumN]⟩
 |d+1,i,n,hi,h0=>by
  by_cases g:n≤300
  ·obtain ⟨n',h1,h2,h3⟩:=hs i n (by omega) h0 g
   obtain ⟨r,r1,r2,r3⟩:=w_loop hs he d (i+1) n' (by omega) (by omega)
   refine⟨r,(iter_next h1).trans r1,by omega,fun k=> ?_⟩
   have:=h3 (by omega)
   have:=r3 k
   unfold sumN;omega
  ·exact⟨n,iter_stop (he i n (fun z=>g z.2)),Int.le_refl _,fun k=>absurd k g⟩
theorem sumN_list {α:Type}[Inhabited α] (l:List α) (f:α→Int):∀ (d i:Nat),i+d=l.length→sumN (fun j=>f (rd l (j:Int))) d i=((l.drop i).map f).sum
 |0,i,hi=>by rw [List.drop_of_length_le (by omega)];rfl
 |d+1,i,hi=>by
  have hlt:i<l.length:=by omega
  unfold sumN
  rw [List.drop_eq_getElem_cons hlt,List.map_cons,List.sum_cons,len_lt hlt,sumN_list l f d (i+1) (by omega)]
theorem sum_len {α:Type}(f:α→Int):∀ {l:List α},(∀ x∈l,1≤f x)→(l.length:Int)≤(l.map f).sum∧∀ x∈l,f x≤(l.map f).sum
 |[],_=>⟨by simp,fun _ h=>by cases h⟩
 |y::l,h=>by
  obtain ⟨h1,h2⟩:=sum_len f fun x hx=>h x (.tail _ hx)
  have h3:=h y (.head _)
  rw [List.map_cons,List.sum_cons]
  refine⟨by simp only [List.length_cons];omega,fun x hx=> ?_⟩
  rcases List.mem_cons.1 hx with rfl |z
  ·omega
  ·have:=h2 x z;omega
theorem sum_parts (f:Tp→Int):∀ {l:List Tp},(∀ x∈l,(x.Parts.length:Int)≤f x)→(partsN l:Int)≤(l.map f).sum
 |[],_=>by simp [partsN]
 |y::l,h=>by
  have h1:=sum_parts f fun x hx=>h x (.tail _ hx)
  have h3:=h y (.head _)
  rw [List.map_cons,List.sum_cons,partsN_cons];omega
def okL (l:List Int):Prop:=(∀ x∈l,(Lit.int .i64 x).wf=true)∧l.length≤reachBytes
def okI (m:Img):Prop:=
 ((∀ b∈m.Brokers,(Lit.int .i64 b.Id).wf=true∧(Lit.int .i64 b.Epoch).wf=true∧b.Rack.size≤maxLen∧True∧True∧True)∧m.Brokers.length≤reachBytes)∧
 ((∀ t∈m.Topics,(Lit.int .i64 t.Id).wf=true∧t.Name.size≤maxLen∧((∀ p∈t.Parts,okL p.Ids∧okL p.Isr∧(Lit.int .i64 p.Leader).wf=true∧(Lit.int .i64 p.Epoch).wf=true∧okL p.Add∧okL p.Drop∧True)∧t.Parts.length≤reachBytes)∧True)∧m.Topics.length≤reachBytes)∧
 ((∀ c∈m.Configs,(Lit.int .i64 c.Topic).wf=true∧c.Key.size≤maxLen∧c.Value.size≤maxLen∧True)∧m.Configs.length≤reachBytes)∧
 ((∀ d∈m.Done,(Lit.int .i64 d.Client).wf=true∧(Lit.int .i64 d.Serial).wf=true∧(Lit.int .i64 d.Code).wf=true∧True)∧m.Done.length≤reachBytes)∧
 (Lit.int .i64 m.Last).wf=true∧True
theorem wf64 {n:Int}(h:(Lit.int .i64 n).wf=true):i64 n:=by
 simp [Lit.wf,IntKind.min,IntKind.max,IntKind.signed,IntKind.bits] at h;unfold i64;omega
theorem reach_eq:reachBytes=140737488351232:=rfl
theorem maxLen_eq:maxLen=9223372036854775807:=rfl
theorem succ_big {i n:Nat}(hi:i<n) (hn:n≤140737488351232):IntKind.i64.wrap ((i:Int)+1)=((i+1:Nat):Int):=by
 rw [w_i64 (by omega) (by omega)];rfl
def w40 (s:ByteArray):Int:=(s.size:Int).tdiv 40
theorem w40_b {s:ByteArray}(h:s.size≤maxLen):0≤w40 s∧w40 s≤230584300921369395∧IntKind.i64.wrap ((s.size:Int).tdiv 40)=w40 s:=by
 rw [maxLen_eq] at h
 unfold w40
 have e:(s.size:Int).tdiv 40=(s.size:Int)/40:=Int.tdiv_eq_ediv_of_nonneg (by omega)
 rw [e]
 exact⟨by omega,by omega,w_i64 (by omega) (by omega)⟩
def wPart (p:Pt):Int:=1+p.Ids.length+p.Isr.length+p.Add.length+p.Drop.length
def wTopic (t:Tp):Int:=1+w40 t.Name+(t.Parts.map wPart).sum
def cW16 (c:Cf):Int:=1+w40 c.Key+w40 c.Value
section
variable {m : Img}
theorem wt0 (h:okI m) (n:Int) (h0:0≤n):∃ r,iter (f_ref16_Weight_l0 m 300) (n,(0:Int))=some r∧n≤r:=by
 obtain ⟨⟨hb,hl⟩,_⟩:=h
 rw [reach_eq] at hl
 obtain ⟨r,r1,r2,_⟩:=w_loop (step:=f_ref16_Weight_l0 m 300) (N:=m.Brokers.length) (inc:=fun i=>w40 (rd m.Brokers (i:Int)).Rack) (fun i n hi h0 h3=>by
  obtain ⟨a,b,c⟩:=w40_b (hb _ (rd_mem hi)).2.2.1
  refine⟨n+w40 (rd m.Brokers (i:Int)).Rack, ?_,by omega,fun _=>rfl⟩
  unfold f_ref16_Weight_l0
  simp only [lt_i hi,if_true,decide_eq_true h3,Option.bind_some,grd_t (in_i hi),succ_big hi hl,c]
  rw [w_i64 (by omega) (by omega)])
  (fun i n hn=>by
   unfold f_ref16_Weight_l0
   simp only [if_and,Option.bind_some]
   rw [if_neg]
   simp only [Bool.and_eq_true,decide_eq_true_eq]
   omega) m.Brokers.length 0 n (by omega) h0
 exact⟨r,r1,r2⟩
theorem wt2 (h:okI m){i:Nat}(hi:i<m.Topics.length) (n:Int) (h0:0≤n):∃ r,iter (f_ref16_Weight_l2 m 300 (i:Int)) (n,(0:Int))=some r∧n≤r∧(r≤300→r=n+((rd m.Topics (i:Int)).Parts.map wPart).sum):=by
 obtain ⟨_,⟨ht,hl⟩,_⟩:=h
 obtain ⟨_,_,⟨hp,hpl⟩,_⟩:=ht _ (rd_mem hi)
 rw [reach_eq] at hpl
 obtain ⟨r,r1,r2,r3⟩:=w_loop (step:=f_ref16_Weight_l2 m 300 (i:Int)) (N:=(rd m.Topics (i:Int)).Parts.length) (inc:=fun k=>wPart (rd (rd m.Topics (i:Int)).Parts (k:Int))) (fun k n hk h0 h3=>by
  obtain ⟨a1,a2,_,_,a3,a4,_⟩:=hp _ (rd_mem hk)
  have b1:=a1.2;have b2:=a2.2;have b3:=a3.2;have b4:=a4.2
  rw [reach_eq] at b1 b2 b3 b4
  refine⟨n+wPart (rd (rd m.Topics (i:Int)).Parts (k:Int)), ?_,by unfold wPart;omega,fun _=>rfl⟩
  unfold f_ref16_Weight_l2 wPart
  simp only [grd_t (in_i hi),lt_i hk,if_true,decide_eq_true h3,Option.bind_some,grd_t (in_i hk),succ_big hk hpl]
  rw [w_i64 (n:=n+1) (by omega) (by omega),w_i64 (n:=n+1+_) (by omega) (by omega),w_i64 (n:=n+1+_+_) (by omega) (by omega),w_i64 (n:=n+1+_+_+_) (by omega) (by omega),w_i64 (n:=n+1+_+_+_+_) (by omega) (by omega)]
  congr 3;omega)
  (fun k n hn=>by
   unfold f_ref16_Weight_l2
   simp only [grd_t (in_i hi),if_and,Option.bind_some]
   rw [if_neg]
   simp only [Bool.and_eq_true,decide_eq_true_eq]
   omega) (rd m.Topics (i:Int)).Parts.length 0 n (by omega) h0
 rw [sumN_list _ wPart _ _ (by omega),List.drop_zero] at r3
 exact⟨r,r1,r2,r3⟩
theorem wt1 (h:okI m) (n:Int) (h0:0≤n):∃ r,iter (f_ref16_Weight_l1 m 300) (n,(0:Int))=some r∧n≤r∧(r≤300→r=n+(m.Topics.map wTopic).sum):=by
 have h':=h
 obtain ⟨_,⟨ht,hl⟩,_⟩:=h'
 rw [reach_eq] at hl
 obtain ⟨r,r1,r2,r3⟩:=w_loop (step:=f_ref16_Weight_l1 m 300) (N:=m.Topics.length) (inc:=fun k=>wTopic (rd m.Topics (k:Int))) (fun i n hi h0 h3=>by
  obtain ⟨a,b,c⟩:=w40_b (ht _ (rd_mem hi)).2.1
  obtain ⟨q,q1,q2,q3⟩:=wt2 h hi (n+1+w40 (rd m.Topics (i:Int)).Name) (by omega)
  refine⟨q, ?_,by omega,fun k=>by have:=q3 k;unfold wTopic;omega⟩
  unfold f_ref16_Weight_l1
  simp only [lt_i hi,if_true,decide_eq_true h3,Option.bind_some,grd_t (in_i hi),succ_big hi hl,c]
  rw [w_i64 (n:=n+1) (by omega) (by omega),w_i64 (n:=n+1+_) (by omega) (by omega),q1]
  rfl)
  (fun i n hn=>by
   unfold f_ref16_Weight_l1
   simp only [if_and,Option.bind_some]
   rw [if_neg]
   simp only [Bool.and_eq_true,decide_eq_true_eq]
   omega) m.Topics.length 0 n (by omega) h0
 rw [sumN_list _ wTopic _ _ (by omega),List.drop_zero] at r3
 exact⟨r,r1,r2,r3⟩
theorem wt3 (h:okI m) (n:Int) (h0:0≤n):∃ r,iter (f_ref16_Weight_l3 m 300) (n,(0:Int))=some r∧n≤r∧(r≤300→r=n+(m.Configs.map cW16).sum):=by
 obtain ⟨_,_,⟨hc,hl⟩,_⟩:=h
 rw [reach_eq] at hl
 obtain ⟨r,r1,r2,r3⟩:=w_loop (step:=f_ref16_Weight_l3 m 300) (N:=m.Configs.length) (inc:=fun k=>cW16 (rd m.Configs (k:Int))) (fun i n hi h0 h3=>by
  obtain ⟨a,b,c⟩:=w40_b (hc _ (rd_mem hi)).2.1
  obtain ⟨a',b',c'⟩:=w40_b (hc _ (rd_mem hi)).2.2.1
  refine⟨n+cW16 (rd m.Configs (i:Int)), ?_,by unfold cW16;omega,fun _=>rfl⟩
  unfold f_ref16_Weight_l3 cW16
  simp only [lt_i hi,if_true,decide_eq_true h3,Option.bind_some,grd_t (in_i hi),succ_big hi hl,c,c']
  rw [w_i64 (n:=n+1) (by omega) (by omega),w_i64 (n:=n+1+_) (by omega) (by omega),w_i64 (n:=n+1+_+_) (by omega) (by omega)]
  congr 3;omega)
  (fun i n hn=>by
   unfold f_ref16_Weight_l3
   simp only [if_and,Option.bind_some]
   rw [if_neg]
   simp only [Bool.and_eq_true,decide_eq_true_eq]
   omega) m.Configs.length 0 n (by omega) h0
 rw [sumN_list _ cW16 _ _ (by omega),List.drop_zero] at r3
 exact⟨r,r1,r2,r3⟩
structure lightM (m:Img):Prop where
 lim:limM m
 pts:∀ t∈m.Topics,∀ p∈t.Parts,limP p
 i6:∀ c∈m.Configs,i64 c.Topic
 cf:m.Configs.length≤1000
 pn:partsN m.Topics≤1000
theorem light_eq (h:okI m):∃ b,f_law16_light m=some b∧(b=true→lightM m):=by
 have h':=h
 obtain ⟨⟨hb,hbl⟩,⟨ht,htl⟩,⟨hc,hcl⟩,⟨hd,hdl⟩,hlast⟩:=h'
 rw [reach_eq] at hbl hdl
 unfold f_law16_light f_ref16_Weight
 have hw:IntKind.i64.wrap ((m.Brokers.length:Int)+(m.Done.length:Int))=(m.Brokers.length:Int)+(m.Done.length:Int):=w_i64 (by omega) (by omega)
 rw [hw]
 obtain ⟨a,a1,a2⟩:=wt0 h ((m.Brokers.length:Int)+(m.Done.length:Int)) (by omega)
 obtain ⟨b,b1,b2,b3⟩:=wt1 h a (by omega)
 obtain ⟨c,c1,c2,c3⟩:=wt3 h b (by omega)
 rw [a1,Option.bind_some,Option.bind_some,b1,Option.bind_some,Option.bind_some,c1,Option.bind_some,Option.bind_some,Option.bind_some]
 simp only [if_and,Option.bind_some]
 refine⟨_,rfl,fun k=> ?_⟩
 simp only [Bool.and_eq_true,decide_eq_true_eq] at k
 obtain ⟨k1,k2⟩:=k
 have e1:=b3 (by omega)
 have e2:=c3 k1
 have pw:∀ t∈m.Topics,∀ p∈t.Parts,1≤wPart p:=fun t ht p hp=>by unfold wPart;omega
 have tw:∀ t∈m.Topics,1≤wTopic t∧(t.Parts.length:Int)≤wTopic t∧∀ p∈t.Parts,wPart p≤wTopic t:=fun t ht'=>by
  obtain ⟨q1,q2⟩:=sum_len wPart (pw t ht')
  have:=(w40_b (ht t ht').2.1).1
  refine⟨by unfold wTopic;omega,by unfold wTopic;omega,fun p hp=>by have:=q2 p hp;unfold wTopic;omega⟩
 have cw:∀ c∈m.Configs,1≤cW16 c:=fun c hc'=>by
  have:=(w40_b (hc c hc').2.1).1;have:=(w40_b (hc c hc').2.2.1).1;unfold cW16;omega
 obtain ⟨s1,s2⟩:=sum_len wTopic fun t ht'=>(tw t ht').1
 obtain ⟨s3,_⟩:=sum_len cW16 cw
 have s4:=sum_parts wTopic fun t ht'=>(tw t ht').2.1
 have hpt:∀ t∈m.Topics,∀ p∈t.Parts,wPart p≤300:=fun t ht' p hp=>by have:=(tw t ht').2.2 p hp;have:=s2 t ht';omega
 refine⟨⟨by omega,by omega,fun t ht'=> ?_,by omega,by omega⟩,fun t ht' p hp=> ?_,fun c hc'=>wf64 (hc c hc').1,by omega,by omega⟩
 ·have:=(tw t ht').2.1;have:=s2 t ht';omega
 ·have:=hpt t ht' p hp
  unfold wPart at this
  exact⟨by omega,by omega,by omega,by omega⟩
end
theorem pure_DumpChecks (m:Img) (h:okI m):f_law16_DumpChecks m=some true:=by
 unfold f_law16_DumpChecks
 obtain ⟨b,hb,hl⟩:=light_eq h
 rw [hb,Option.bind_some]
 cases b
 ·rw [works16];rfl
 ·have hm:=hl rfl
  rw [check_ck hm.lim hm.i6,rcheck_ck hm.lim hm.pts]
  simp only [Bool.not_true,Bool.false_eq_true,if_false,Option.bind_some]
  rw [wrong16 (fun o a c k e=>chkR_c e),works16];rfl
end Go.Proofs.YtpcbipcdfccnnaaGreatDoor.G
