/- Go functions: what they come to, and that they do. Printed by a program of the session (gen). -/
import Derived.Test.YtkflneabcannnaaGreatDoorVF
import Derived.Test.YtkflneabcannnaaGreatDoorV0
import Derived.Test.YtkflneabcannnaaGreatDoorV1
import Derived.Test.YtkflneabcannnaaGreatDoorV2
import Derived.Test.YtkflneabcannnaaGreatDoorKConv
import Derived.Test.YtkflneabcannnaaGreatDoorKShar2
import Derived.Test.YtkflneabcannnaaGreatDoorKTight2
set_option linter.unusedVariables false
set_option linter.unusedSimpArgs false
set_option maxHeartbeats 8000000
set_option maxRecDepth 100000
namespace Go.Proofs.YtkflneabcannnaaGreatDoor.G
open Go Go.KK
open PO EO IntKind Sum Tryz

noncomputable def f_record_Read (a0:T_wire_Reader):Option (T_api_Record×Int×GErr):=
 ((f_wire_Reader_Int a0 (63:Int)).bind fun(e,u,v)=>((((((f_wire_Reader_Err (⟨a0.b,u,v⟩:T_wire_Reader)).bind fun a5=>(if a5.isNil=true then(if(decide (e<(1:Int)))=true then(some true)else(some (decide ((12:Int)<e))))else(some false))):Option Bool).bind fun a6=>(if a6=true then((f_wire_Reader_Refuse (⟨a0.b,u,v⟩:T_wire_Reader) (⟨#[107,105,110,100]⟩:ByteArray) (5:Int)).bind fun a7=>(some a7))else(some v))):Option GErr).bind fun a8=>((f_record_about e).bind fun a=>((f_record_Read_1 (1:Int) a (⟨a0.b,u,a8⟩:T_wire_Reader)).bind fun(w,a9,b0)=>((f_record_Read_1 (2:Int) a (⟨a0.b,a9,b0⟩:T_wire_Reader)).bind fun(x,b1,b2)=>((f_record_Read_1 (4:Int) a (⟨a0.b,b1,b2⟩:T_wire_Reader)).bind fun(y,b3,b4)=>((f_record_Read_1 (8:Int) a (⟨a0.b,b3,b4⟩:T_wire_Reader)).bind fun(z,b5,b6)=>((f_record_Read_1 (16:Int) a (⟨a0.b,b5,b6⟩:T_wire_Reader)).bind fun(A,b7,b8)=>((f_record_Read_1 (32:Int) a (⟨a0.b,b7,b8⟩:T_wire_Reader)).bind fun(B,b9,c0)=>((f_record_Read_1 (32:Int) a (⟨a0.b,b9,c0⟩:T_wire_Reader)).bind fun(C,c1,c2)=>((f_record_Read_1 (32:Int) a (⟨a0.b,c1,c2⟩:T_wire_Reader)).bind fun(g,i,j)=>(((if(decide ((andI .i64 a (64:Int))≠(0:Int)))=true then((f_wire_Reader_Flag (⟨a0.b,i,j⟩:T_wire_Reader)).bind fun(D,E,G)=>(some (D,E,G)))else(some (false,i,j))):Option (Bool×Int×GErr)).bind fun(k,I,J)=>((f_record_Read_2 (128:Int) a (⟨a0.b,I,J⟩:T_wire_Reader)).bind fun(l,K,L)=>((f_record_Read_2 (256:Int) a (⟨a0.b,K,L⟩:T_wire_Reader)).bind fun(m,N,O)=>((f_record_Read_2 (512:Int) a (⟨a0.b,N,O⟩:T_wire_Reader)).bind fun(n,P,Q)=>((f_record_Read_2 (1024:Int) a (⟨a0.b,P,Q⟩:T_wire_Reader)).bind fun(o,R,S)=>((f_record_Read_3 (2048:Int) a (⟨a0.b,R,S⟩:T_wire_Reader)).bind fun(p,T,U)=>((f_record_Read_3 (4096:Int) a (⟨a0.b,T,U⟩:T_wire_Reader)).bind fun(q,V,W)=>((f_record_Read_3 (8192:Int) a (⟨a0.b,V,W⟩:T_wire_Reader)).bind fun(r,X,Y)=>((f_record_Read_3 (8192:Int) a (⟨a0.b,X,Y⟩:T_wire_Reader)).bind fun(s,c,d)=>((((f_wire_Reader_Err (⟨a0.b,c,d⟩:T_wire_Reader)).bind fun a1=>(if a1.isNil=true then((f_record_Check (⟨e,w,x,y,z,A,B,C,g,k,l,m,n,o,p,q,r,s⟩:T_api_Record)).bind fun t=>(if(!t.isNil)=true then((f_fault_Of t).bind fun a2=>((f_wire_Reader_Refuse (⟨a0.b,c,d⟩:T_wire_Reader) (⟨#[114,101,99,111,114,100]⟩:ByteArray) a2).bind fun a3=>(some a3)))else(some d)))else(some d))):Option GErr).bind fun f=>((f_wire_Reader_Err (⟨a0.b,c,f⟩:T_wire_Reader)).bind fun a4=>(if(!a4.isNil)=true then(some ((⟨(0:Int),(0:Int),(0:Int),(0:Int),(0:Int),(0:Int),(0:Int),(0:Int),(0:Int),false,(⟨#[]⟩:ByteArray),(⟨#[]⟩:ByteArray),(⟨#[]⟩:ByteArray),(⟨#[]⟩:ByteArray),[],[],[],[]⟩:T_api_Record),c,f))else(some ((⟨e,w,x,y,z,A,B,C,g,k,l,m,n,o,p,q,r,s⟩:T_api_Record),c,f)))))))))))))))))))))))))
def f_record_Read_post (a0:T_wire_Reader) (k:Value) (l:Nat):(T_api_Record×Int×GErr)→Value→IM→HL→Prop:=
 fun(p_:(T_api_Record×Int×GErr)) (v:Value) (M':IM) (H':HL)=>match p_ with |(a,m,n)=>∃ b c d e f g i j,(.agg #[(.int .i64 a.Kind),(.int .i64 a.Broker),(.int .i64 a.Epoch),(.int .i64 a.Topic),(.int .i64 a.Part),(.int .i64 a.Leader),(.int .i64 a.Client),(.int .i64 a.Serial),(.int .i64 a.Code),(.bool a.Flag),(.string a.Name),(.string a.Key),(.string a.Value),(.string a.Rack),b,d,f,i])=v∧H'=[[(l, .cells #[k,(.int .i64 m),(GV n)] 110 (0,0))],c,e,g,j]∧OwnS (Kd.int .i64) M' b a.Ids c∧OwnS (Kd.int .i64) M' d a.Isr e∧OwnS (Kd.int .i64) M' f a.Add g∧OwnS (Kd.int .i64) M' i a.Drop j
theorem f_record_Read_ok (a0:T_wire_Reader) (M:IM) (P:Value) (X:Nat) (a:RS (Kd.int .u8) M P a0.b) (hE:Env M) (res:(T_api_Record×Int×GErr)) (h:f_record_Read a0=some res):
 Tri prog 72 #[(pt X 0)] M [[(X, .cells #[P,(Iv a0.at_),(GV a0.err)] 110 (0,0))]] (f_record_Read_post a0 P X res):=by
 unfold f_record_Read at h
 refine Te func72 Z Z ?_
 intro F ρ hρ
 refine Sr (We (box (cs:=#[(pt X 0)]) (congrArg Value.cells (asE (pt X 0) (hρ 0)))) Z ?_)
 rintro _ _ _ - ⟨rfl,c,rfl,rfl⟩
 refine We (Al ze58 Z) Z ?_
 rintro _ _ _ - ⟨rfl,a8,rfl,rfl⟩
 refine Ns (qu (pt X 0) (Lb 1 pl69 Z Z Z) ?_)
 obtain ⟨⟨d,c8,e4⟩,k6,h⟩:=bnd h
 refine Wb (We (Cb co32 (f_wire_Reader_Int_ok a0 (63:Int) _ _ _ a (d,c8,e4) k6) (args2 Z Z)) Z ?_)
 rintro _ k7 _ b0 ⟨_,⟨rfl,rfl⟩,rfl⟩
 refine WL.a1 (qu (.agg #[(Iv d),(Iv 0),(Iv 0),(Iv 0),(Iv 0),(Iv 0),(Iv 0),(Iv 0),(Iv 0),(Bv false),(Sv ⟨#[]⟩),(Sv ⟨#[]⟩),(Sv ⟨#[]⟩),(Sv ⟨#[]⟩),Zs,Zs,Zs,Zs]) (Bl (cl:=[(Iv d),(Iv 0),(Iv 0),(Iv 0),(Iv 0),(Iv 0),(Iv 0),(Iv 0),(Iv 0),(Bv false),(Sv ⟨#[]⟩),(Sv ⟨#[]⟩),(Sv ⟨#[]⟩),(Sv ⟨#[]⟩),Zs,Zs,Zs,Zs]) ze58 fp58 (Pc (Iv d) Z Z Pz) Z) (We (Al ze58 Z) Z ?_))
 rintro _ _ _ - ⟨rfl,q,rfl,rfl⟩
 refine We (Sg (v:=(.agg #[(Iv d),(Iv 0),(Iv 0),(Iv 0),(Iv 0),(Iv 0),(Iv 0),(Iv 0),(Iv 0),(Bv false),(Sv ⟨#[]⟩),(Sv ⟨#[]⟩),(Sv ⟨#[]⟩),(Sv ⟨#[]⟩),Zs,Zs,Zs,Zs])) (vl:=[(Iv d),(Iv 0),(Iv 0),(Iv 0),(Iv 0),(Iv 0),(Iv 0),(Iv 0),(Iv 0),(Bv false),(Sv ⟨#[]⟩),(Sv ⟨#[]⟩),(Sv ⟨#[]⟩),(Sv ⟨#[]⟩),Zs,Zs,Zs,Zs]) (arr':=[(Iv d),(Iv 0),(Iv 0),(Iv 0),(Iv 0),(Iv 0),(Iv 0),(Iv 0),(Iv 0),(Bv false),(Sv ⟨#[]⟩),(Sv ⟨#[]⟩),(Sv ⟨#[]⟩),(Sv ⟨#[]⟩),Zs,Zs,Zs,Zs]) Z sz58 Z Z (onb Z) Z Z (by kernel_rfl)) Z ?_
 rintro _ _ _ - ⟨rfl,rfl⟩
 refine Nt ?_
 obtain ⟨e5,k8,h⟩:=bnd h
 refine Jf (fun(e5:GErr) ρ' M' H'=>k7.le M'∧[(q, .cells #[(Iv d),(Iv 0),(Iv 0),(Iv 0),(Iv 0),(Iv 0),(Iv 0),(Iv 0),(Iv 0),(Bv false),(Sv ⟨#[]⟩),(Sv ⟨#[]⟩),(Sv ⟨#[]⟩),(Sv ⟨#[]⟩),Zs,Zs,Zs,Zs] 58 (0,0))]::[(X, .cells #[P,(Iv c8),(GV e5)] 110 (0,0))]::[(a8, .cells z58_.toArray 58 (0,0))]::[(c, .cells #[(pt X 0)] 69 (0,0))]::F=H'∧ρ' 1=(pt c 0)∧ρ' 2=(pt a8 0)∧ρ' 3=(pt q 0)) e5 ?_ ?_
 have h:=k8
 obtain ⟨i0,k9,h⟩:=bnd h
 refine Jf (fun(i0:Bool) ρ' M' H'=>k7.le M'∧[(q, .cells #[(Iv d),(Iv 0),(Iv 0),(Iv 0),(Iv 0),(Iv 0),(Iv 0),(Iv 0),(Iv 0),(Bv false),(Sv ⟨#[]⟩),(Sv ⟨#[]⟩),(Sv ⟨#[]⟩),(Sv ⟨#[]⟩),Zs,Zs,Zs,Zs] 58 (0,0))]::[(X, .cells #[P,(Iv c8),(GV e4)] 110 (0,0))]::[(a8, .cells z58_.toArray 58 (0,0))]::[(c, .cells #[(pt X 0)] 69 (0,0))]::F=H'∧ρ' 1=(pt c 0)∧ρ' 2=(pt a8 0)∧ρ' 3=(pt q 0)∧ρ' 24=(Bv i0)) i0 ?_ ?_
 have h:=k9
 refine Cg (qu (pt X 0) (Lb 3 pl69 Z Z Z) ?_)
 obtain ⟨i1,l0,h⟩:=bnd h
 refine WL.f1 ?_
 have a:=a.mono b0
 refine We (Cb co36 (f_wire_Reader_Err_ok (⟨a0.b,c8,e4⟩:T_wire_Reader) _ _ _ a i1 l0) (args1 Z)) Z ?_
 rintro _ s8 _ b1 ⟨_,⟨rfl,rfl⟩,rfl⟩
 refine WL.a1 (qu (Bv i1.isNil) (errNil underlying31 Z) (qm (Bv i1.isNil) ?_))
 rcases Bi h with⟨L,h⟩ |⟨L,h⟩
 refine qo 15 L (pt q 0) (Fa fo58_0 Z Z) (qo 15 L (Iv d) (Lb 1 pl3 Z Z Z) (qo 15 L (Bv (decide (d<1))) (lss Z Z) (On 15 Z Z L (qm (Bv (decide (d<1))) ?_))))
 rcases Bi h with⟨U,h⟩ |⟨U,h⟩
 iterate 3 refine Of 19 Z Z U Z ?_
 refine qo 15 L (Bv true) (Pt Z U Z) (qu (Bv true) (Pt Z L Z) (Wz (WQ.f3 (WQ.f3 (Qb (WQ.f3 ?_))))))
 obtain rfl:=oi h
 exact Tj ⟨b1,Z,Z,Z,Z,Z⟩
 refine qo 19 U (pt q 0) (Fa fo58_0 Z Z) (qo 19 U (Iv d) (Lb 1 pl3 Z Z Z) (qo 19 U (Bv (decide ((12:Int)<d))) (gtr Z Z) (qo 15 L (Bv (decide ((12:Int)<d))) (Pf Z U Z) (qu (Bv (decide ((12:Int)<d))) (Pt Z L Z) (Wz (WQ.f3 (WQ.f3 (Qb (WQ.f3 ?_)))))))))
 obtain rfl:=oi h
 exact Tj ⟨b1,Z,Z,Z,Z,Z⟩
 iterate 4 refine Of 15 Z Z L Z ?_
 refine WL.offU 19 Z Z Z (WL.offU 19 Z Z Z (WL.offU 19 Z Z Z (Of 15 Z Z L Z (qu (Bv false) (Pf Z L Z) (Wz (WQ.f3 (WQ.f3 (Qb (WQ.f3 ?_)))))))))
 obtain rfl:=oi h
 exact Tj ⟨b1,Z,Z,Z,Z,Z⟩
 rintro s9 t0 t1 ⟨b2,rfl,a5,b7,b8,c9⟩
 refine Ch h c9 (fun l1 h=> ?_) (fun l1 h=> ?_)
 refine Cg (qu (pt X 0) (Lb 3 pl69 a5 Z Z) ?_)
 obtain ⟨p5,l2,h⟩:=bnd h
 refine WL.f1 ?_
 have a:=a.mono (b0.trans b2)
 refine We (Cb co71 (f_wire_Reader_Refuse_ok (⟨a0.b,c8,e4⟩:T_wire_Reader) (⟨#[107,105,110,100]⟩:ByteArray) (5:Int) _ _ _ a p5 l2) (args3 Z Z Z)) Z ?_
 rintro _ t2 _ i2 ⟨_,⟨rfl,rfl⟩,rfl⟩
 refine WL.a1 (Wz (WQ.f3 (WQ.f3 (Qb (WQ.f3 ?_)))))
 obtain rfl:=oi h
 exact Tj ⟨(b2.trans i2),Z,a5,b7,b8⟩
 refine Ck ?_
 obtain rfl:=oi h
 exact Tj ⟨b2,Z,a5,b7,b8⟩
 rintro t3 t4 t5 ⟨i3,rfl,R,b9,i⟩
 refine Sr (qu (pt q 0) (Fa fo58_0 i Z) (qu (Iv d) (Lb 0 pl3 Z Z Z) ?_))
 obtain ⟨E,l3,h⟩:=bnd h
 refine We (Ca co93 (f_record_about_ok d _ E l3) (args1 Z)) Z ?_
 rintro _ t6 _ i4 ⟨_,⟨rfl,rfl⟩,rfl⟩
 have l4:=(b0.trans i3).trans i4
 refine WL.a0 (We (Al ze3 Z) Z ?_)
 rintro _ _ _ - ⟨rfl,e,rfl,rfl⟩
 refine We (Es (Iv E) [(Iv E)] Z sz3 Z Z Z Z Z Z) Z ?_
 rintro _ _ _ - ⟨rfl,rfl⟩
 refine Ns (qu (.func (.func 99) #[] #[(pt e 0),(pt c 0)]) (makeFunc2 (args0) (args2 (show ev _ _=(pt e 0) from Z) (asE (Value.pointer (some ⟨c,0,none⟩)) R))) (qa (.func (.func 99) #[] #[(pt e 0),(pt c 0)]) (Ns (qm (.func (.func 99) #[] #[(pt e 0),(pt c 0)]) ?_))))
 obtain ⟨⟨m,l5,l6⟩,l7,h⟩:=bnd h
 refine WL.f4 (WL.f3 (Wb ?_))
 have a:=a.mono l4
 refine We (callV3 (first:=#[]) (cap:=#[(pt e 0),(pt c 0)]) co99 Z (f_record_Read_1_ok (1:Int) E (⟨a0.b,c8,e5⟩:T_wire_Reader) _ _ _ _ _ a (m,l5,l6) l7) (argsV1 Z Z)) Z ?_
 rintro _ t7 _ d0 ⟨_,⟨rfl,rfl⟩,rfl⟩
 have p6:=l4.trans d0
 refine WL.a3 (qm (.func (.func 99) #[] #[(pt e 0),(pt c 0)]) ?_)
 obtain ⟨⟨n,l8,l9⟩,m0,h⟩:=bnd h
 refine Wb (Wb (Wb ?_))
 have a:=a.mono d0
 refine We (callV3 (first:=#[]) (cap:=#[(pt e 0),(pt c 0)]) co99 Z (f_record_Read_1_ok (2:Int) E (⟨a0.b,l5,l6⟩:T_wire_Reader) _ _ _ _ _ a (n,l8,l9) m0) (argsV1 Z Z)) Z ?_
 rintro _ t8 _ d1 ⟨_,⟨rfl,rfl⟩,rfl⟩
 have p7:=p6.trans d1
 refine WL.a3 (qm (.func (.func 99) #[] #[(pt e 0),(pt c 0)]) ?_)
 obtain ⟨⟨r,m1,m2⟩,m3,h⟩:=bnd h
 refine Wb (Wb (Wb ?_))
 have a:=a.mono d1
 refine We (callV3 (first:=#[]) (cap:=#[(pt e 0),(pt c 0)]) co99 Z (f_record_Read_1_ok (4:Int) E (⟨a0.b,l8,l9⟩:T_wire_Reader) _ _ _ _ _ a (r,m1,m2) m3) (argsV1 Z Z)) Z ?_
 rintro _ t9 _ d2 ⟨_,⟨rfl,rfl⟩,rfl⟩
 have p8:=p7.trans d2
 refine WL.a3 (qu (pt q 1) (Fa fo58_1 i Z) (WL.f3 (We (Es (Iv m) [(Iv d),(Iv m),(Iv 0),(Iv 0),(Iv 0),(Iv 0),(Iv 0),(Iv 0),(Iv 0),(Bv false),(Sv ⟨#[]⟩),(Sv ⟨#[]⟩),(Sv ⟨#[]⟩),(Sv ⟨#[]⟩),Zs,Zs,Zs,Zs] Z sz3 Z Z Z Z Z (by kernel_rfl)) Z ?_)))
 rintro _ _ _ - ⟨rfl,rfl⟩
 refine qu (pt q 2) (Fa fo58_2 i Z) (We (Es (Iv n) [(Iv d),(Iv m),(Iv n),(Iv 0),(Iv 0),(Iv 0),(Iv 0),(Iv 0),(Iv 0),(Bv false),(Sv ⟨#[]⟩),(Sv ⟨#[]⟩),(Sv ⟨#[]⟩),(Sv ⟨#[]⟩),Zs,Zs,Zs,Zs] Z sz3 Z Z Z Z Z (by kernel_rfl)) Z ?_)
 rintro _ _ _ - ⟨rfl,rfl⟩
 refine qu (pt q 3) (Fa fo58_3 i Z) (We (Es (Iv r) [(Iv d),(Iv m),(Iv n),(Iv r),(Iv 0),(Iv 0),(Iv 0),(Iv 0),(Iv 0),(Bv false),(Sv ⟨#[]⟩),(Sv ⟨#[]⟩),(Sv ⟨#[]⟩),(Sv ⟨#[]⟩),Zs,Zs,Zs,Zs] Z sz3 Z Z Z Z Z (by kernel_rfl)) Z ?_)
 rintro _ _ _ - ⟨rfl,rfl⟩
 refine Ns (qm (.func (.func 99) #[] #[(pt e 0),(pt c 0)]) ?_)
 obtain ⟨⟨t,m4,m5⟩,m6,h⟩:=bnd h
 refine WL.f3 (WL.f3 (WL.f3 ?_))
 have a:=a.mono d2
 refine We (callV3 (first:=#[]) (cap:=#[(pt e 0),(pt c 0)]) co99 Z (f_record_Read_1_ok (8:Int) E (⟨a0.b,m1,m2⟩:T_wire_Reader) _ _ _ _ _ a (t,m4,m5) m6) (argsV1 Z Z)) Z ?_
 rintro _ u0 _ d3 ⟨_,⟨rfl,rfl⟩,rfl⟩
 have p9:=p8.trans d3
 refine WL.a3 (qm (.func (.func 99) #[] #[(pt e 0),(pt c 0)]) ?_)
 obtain ⟨⟨w,m7,m8⟩,m9,h⟩:=bnd h
 refine Wb (Wb (Wb ?_))
 have a:=a.mono d3
 refine We (callV3 (first:=#[]) (cap:=#[(pt e 0),(pt c 0)]) co99 Z (f_record_Read_1_ok (16:Int) E (⟨a0.b,m4,m5⟩:T_wire_Reader) _ _ _ _ _ a (w,m7,m8) m9) (argsV1 Z Z)) Z ?_
 rintro _ u1 _ d4 ⟨_,⟨rfl,rfl⟩,rfl⟩
 have q0:=p9.trans d4
 refine WL.a3 (qu (pt q 4) (Fa fo58_4 i Z) (WL.f3 (We (Es (Iv t) [(Iv d),(Iv m),(Iv n),(Iv r),(Iv t),(Iv 0),(Iv 0),(Iv 0),(Iv 0),(Bv false),(Sv ⟨#[]⟩),(Sv ⟨#[]⟩),(Sv ⟨#[]⟩),(Sv ⟨#[]⟩),Zs,Zs,Zs,Zs] Z sz3 Z Z Z Z Z (by kernel_rfl)) Z ?_)))
 rintro _ _ _ - ⟨rfl,rfl⟩
 refine qu (pt q 5) (Fa fo58_5 i Z) (We (Es (Iv w) [(Iv d),(Iv m),(Iv n),(Iv r),(Iv t),(Iv w),(Iv 0),(Iv 0),(Iv 0),(Bv false),(Sv ⟨#[]⟩),(Sv ⟨#[]⟩),(Sv ⟨#[]⟩),(Sv ⟨#[]⟩),Zs,Zs,Zs,Zs] Z sz3 Z Z Z Z Z (by kernel_rfl)) Z ?_)
 rintro _ _ _ - ⟨rfl,rfl⟩
 refine Ns (qm (.func (.func 99) #[] #[(pt e 0),(pt c 0)]) ?_)
 obtain ⟨⟨z,n0,n1⟩,n2,h⟩:=bnd h
 refine WL.f3 (WL.f3 (WL.f3 ?_))
 have a:=a.mono d4
 refine We (callV3 (first:=#[]) (cap:=#[(pt e 0),(pt c 0)]) co99 Z (f_record_Read_1_ok (32:Int) E (⟨a0.b,m7,m8⟩:T_wire_Reader) _ _ _ _ _ a (z,n0,n1) n2) (argsV1 Z Z)) Z ?_
 rintro _ u2 _ d5 ⟨_,⟨rfl,rfl⟩,rfl⟩
 have q1:=q0.trans d5
 refine WL.a3 (qm (.func (.func 99) #[] #[(pt e 0),(pt c 0)]) ?_)
 obtain ⟨⟨G,n3,n4⟩,n5,h⟩:=bnd h
 refine Wb (Wb (Wb ?_))
 have a:=a.mono d5
 refine We (callV3 (first:=#[]) (cap:=#[(pt e 0),(pt c 0)]) co99 Z (f_record_Read_1_ok (32:Int) E (⟨a0.b,n0,n1⟩:T_wire_Reader) _ _ _ _ _ a (G,n3,n4) n5) (argsV1 Z Z)) Z ?_
 rintro _ u3 _ c0 ⟨_,⟨rfl,rfl⟩,rfl⟩
 have n6:=q1.trans c0
 refine WL.a3 (qm (.func (.func 99) #[] #[(pt e 0),(pt c 0)]) ?_)
 obtain ⟨⟨g,e8,e9⟩,i5,h⟩:=bnd h
 refine Wb (Wb (Wb ?_))
 have a:=a.mono c0
 refine We (callV3 (first:=#[]) (cap:=#[(pt e 0),(pt c 0)]) co99 Z (f_record_Read_1_ok (32:Int) E (⟨a0.b,n3,n4⟩:T_wire_Reader) _ _ _ _ _ a (g,e8,e9) i5) (argsV1 Z Z)) Z ?_
 rintro _ n7 _ a6 ⟨_,⟨rfl,rfl⟩,rfl⟩
 have n8:=n6.trans a6
 refine WL.a3 (qu (pt q 6) (Fa fo58_6 i Z) (WL.f3 (We (Es (Iv z) [(Iv d),(Iv m),(Iv n),(Iv r),(Iv t),(Iv w),(Iv z),(Iv 0),(Iv 0),(Bv false),(Sv ⟨#[]⟩),(Sv ⟨#[]⟩),(Sv ⟨#[]⟩),(Sv ⟨#[]⟩),Zs,Zs,Zs,Zs] Z sz3 Z Z Z Z Z (by kernel_rfl)) Z ?_)))
 rintro _ _ _ - ⟨rfl,rfl⟩
 refine qu (pt q 7) (Fa fo58_7 i Z) (We (Es (Iv G) [(Iv d),(Iv m),(Iv n),(Iv r),(Iv t),(Iv w),(Iv z),(Iv G),(Iv 0),(Bv false),(Sv ⟨#[]⟩),(Sv ⟨#[]⟩),(Sv ⟨#[]⟩),(Sv ⟨#[]⟩),Zs,Zs,Zs,Zs] Z sz3 Z Z Z Z Z (by kernel_rfl)) Z ?_)
 rintro _ _ _ - ⟨rfl,rfl⟩
 refine qu (pt q 8) (Fa fo58_8 i Z) (We (Es (Iv g) [(Iv d),(Iv m),(Iv n),(Iv r),(Iv t),(Iv w),(Iv z),(Iv G),(Iv g),(Bv false),(Sv ⟨#[]⟩),(Sv ⟨#[]⟩),(Sv ⟨#[]⟩),(Sv ⟨#[]⟩),Zs,Zs,Zs,Zs] Z sz3 Z Z Z Z Z (by kernel_rfl)) Z ?_)
 rintro _ _ _ - ⟨rfl,rfl⟩
 refine Nt ?_
 obtain ⟨f0,i6,h⟩:=bnd h
 refine Jf (fun(p_:(Bool×Int×GErr)) ρ' M' H'=>match p_ with |(k,d6,d7)=>n7.le M'∧[(q, .cells #[(Iv d),(Iv m),(Iv n),(Iv r),(Iv t),(Iv w),(Iv z),(Iv G),(Iv g),(Bv k),(Sv ⟨#[]⟩),(Sv ⟨#[]⟩),(Sv ⟨#[]⟩),(Sv ⟨#[]⟩),Zs,Zs,Zs,Zs] 58 (0,0))]::[(e, .cells #[(Iv E)] 3 (0,0))]::[(X, .cells #[P,(Iv d6),(GV d7)] 110 (0,0))]::[(c, .cells #[(pt X 0)] 69 (0,0))]::[(a8, .cells z58_.toArray 58 (0,0))]::F=H'∧ρ' 1=(pt c 0)∧ρ' 2=(pt a8 0)∧ρ' 3=(pt q 0)∧ρ' 4=(pt e 0)) f0 ?_ ?_
 have h:=i6
 refine Sr (qu (Iv E) (Lb 1 pl3 Z Z Z) (qu (Iv (andI .i64 E (64:Int))) (PO.and Z Z) (qu (Bv (decide ((andI .i64 E (64:Int))≠0))) (neq Z Z) (Nt (Ch h Z (fun i7 h=> ?_) (fun i7 h=> ?_))))))
 refine Cg (qu (pt X 0) (Lb 3 pl69 R Z Z) ?_)
 obtain ⟨⟨d8,n9,o0⟩,i8,h⟩:=bnd h
 refine Wb ?_
 have a:=a.mono a6
 refine We (Cb co34 (f_wire_Reader_Flag_ok (⟨a0.b,e8,e9⟩:T_wire_Reader) _ _ _ a (d8,n9,o0) i8) (args1 Z)) Z ?_
 rintro _ r0 _ e6 ⟨_,⟨rfl,rfl⟩,rfl⟩
 refine WL.a1 (qu (pt q 9) (Fa fo58_9 i Z) (WL.f1 (We (Es (Bv d8) [(Iv d),(Iv m),(Iv n),(Iv r),(Iv t),(Iv w),(Iv z),(Iv G),(Iv g),(Bv d8),(Sv ⟨#[]⟩),(Sv ⟨#[]⟩),(Sv ⟨#[]⟩),(Sv ⟨#[]⟩),Zs,Zs,Zs,Zs] Z sz4 Z Z Z Z Z (by kernel_rfl)) Z ?_)))
 rintro _ _ _ - ⟨rfl,rfl⟩
 refine Wz (WQ.f4 (WQ.f4 (WQ.f3 (WQ.f4 (WQ.f4 ?_)))))
 obtain rfl:=oi h
 exact Tj ⟨e6,Z,R,b9,i,Z⟩
 refine Ck ?_
 obtain rfl:=oi h
 exact Tj ⟨lr,Z,R,b9,i,Z⟩
 obtain ⟨k,d6,d7⟩:=f0
 rintro r1 r2 r3 ⟨c1,rfl,x,V,f,a9⟩
 have o1:=n8.trans c1
 refine Sr (qu (.func (.func 100) #[] #[(pt e 0),(pt c 0)]) (makeFunc2 (args0) (args2 (asE (Value.pointer (some ⟨e,0,none⟩)) a9) (asE (Value.pointer (some ⟨c,0,none⟩)) x))) (qa (.func (.func 100) #[] #[(pt e 0),(pt c 0)]) (Ns (qm (.func (.func 100) #[] #[(pt e 0),(pt c 0)]) ?_))))
 obtain ⟨⟨l,f2,f9⟩,i9,h⟩:=bnd h
 refine WL.f3 (WL.f3 (WL.f3 ?_))
 have a:=a.mono (a6.trans c1)
 refine We (callV3 (first:=#[]) (cap:=#[(pt e 0),(pt c 0)]) co100 Z (f_record_Read_2_ok (128:Int) E (⟨a0.b,d6,d7⟩:T_wire_Reader) _ _ _ _ _ a (l,f2,f9) i9) (argsV1 Z Z)) Z ?_
 rintro _ r4 _ c2 ⟨_,⟨rfl,rfl⟩,rfl⟩
 have o2:=o1.trans c2
 refine WL.a3 (qm (.func (.func 100) #[] #[(pt e 0),(pt c 0)]) ?_)
 obtain ⟨⟨o,g1,g2⟩,j0,h⟩:=bnd h
 refine Wb (Wb (Wb ?_))
 have a:=a.mono c2
 refine We (callV3 (first:=#[]) (cap:=#[(pt e 0),(pt c 0)]) co100 Z (f_record_Read_2_ok (256:Int) E (⟨a0.b,f2,f9⟩:T_wire_Reader) _ _ _ _ _ a (o,g1,g2) j0) (argsV1 Z Z)) Z ?_
 rintro _ r5 _ c3 ⟨_,⟨rfl,rfl⟩,rfl⟩
 have o3:=o2.trans c3
 refine WL.a3 (qm (.func (.func 100) #[] #[(pt e 0),(pt c 0)]) ?_)
 obtain ⟨⟨s,g3,g4⟩,j1,h⟩:=bnd h
 refine Wb (Wb (Wb ?_))
 have a:=a.mono c3
 refine We (callV3 (first:=#[]) (cap:=#[(pt e 0),(pt c 0)]) co100 Z (f_record_Read_2_ok (512:Int) E (⟨a0.b,g1,g2⟩:T_wire_Reader) _ _ _ _ _ a (s,g3,g4) j1) (argsV1 Z Z)) Z ?_
 rintro _ r6 _ c4 ⟨_,⟨rfl,rfl⟩,rfl⟩
 have o4:=o3.trans c4
 refine WL.a3 (qm (.func (.func 100) #[] #[(pt e 0),(pt c 0)]) ?_)
 obtain ⟨⟨y,g5,g6⟩,j2,h⟩:=bnd h
 refine Wb (Wb (Wb ?_))
 have a:=a.mono c4
 refine We (callV3 (first:=#[]) (cap:=#[(pt e 0),(pt c 0)]) co100 Z (f_record_Read_2_ok (1024:Int) E (⟨a0.b,g3,g4⟩:T_wire_Reader) _ _ _ _ _ a (y,g5,g6) j2) (argsV1 Z Z)) Z ?_
 rintro _ r7 _ c5 ⟨_,⟨rfl,rfl⟩,rfl⟩
 have o5:=o4.trans c5
 refine WL.a3 (qu (pt q 10) (Fa fo58_10 f Z) (WL.f3 (We (Es (Sv l) [(Iv d),(Iv m),(Iv n),(Iv r),(Iv t),(Iv w),(Iv z),(Iv G),(Iv g),(Bv k),(Sv l),(Sv ⟨#[]⟩),(Sv ⟨#[]⟩),(Sv ⟨#[]⟩),Zs,Zs,Zs,Zs] Z sz9 Z Z Z Z Z (by kernel_rfl)) Z ?_)))
 rintro _ _ _ - ⟨rfl,rfl⟩
 refine qu (pt q 11) (Fa fo58_11 f Z) (We (Es (Sv o) [(Iv d),(Iv m),(Iv n),(Iv r),(Iv t),(Iv w),(Iv z),(Iv G),(Iv g),(Bv k),(Sv l),(Sv o),(Sv ⟨#[]⟩),(Sv ⟨#[]⟩),Zs,Zs,Zs,Zs] Z sz9 Z Z Z Z Z (by kernel_rfl)) Z ?_)
 rintro _ _ _ - ⟨rfl,rfl⟩
 refine qu (pt q 12) (Fa fo58_12 f Z) (We (Es (Sv s) [(Iv d),(Iv m),(Iv n),(Iv r),(Iv t),(Iv w),(Iv z),(Iv G),(Iv g),(Bv k),(Sv l),(Sv o),(Sv s),(Sv ⟨#[]⟩),Zs,Zs,Zs,Zs] Z sz9 Z Z Z Z Z (by kernel_rfl)) Z ?_)
 rintro _ _ _ - ⟨rfl,rfl⟩
 refine qu (pt q 13) (Fa fo58_13 f Z) (We (Es (Sv y) [(Iv d),(Iv m),(Iv n),(Iv r),(Iv t),(Iv w),(Iv z),(Iv G),(Iv g),(Bv k),(Sv l),(Sv o),(Sv s),(Sv y),Zs,Zs,Zs,Zs] Z sz9 Z Z Z Z Z (by kernel_rfl)) Z ?_)
 rintro _ _ _ - ⟨rfl,rfl⟩
 refine Ns (qu (.func (.func 101) #[] #[(pt e 0),(pt c 0)]) (makeFunc2 (args0) (args2 (asE (Value.pointer (some ⟨e,0,none⟩)) a9) (asE (Value.pointer (some ⟨c,0,none⟩)) x))) (qa (.func (.func 101) #[] #[(pt e 0),(pt c 0)]) (Ns (qm (.func (.func 101) #[] #[(pt e 0),(pt c 0)]) ?_))))
 obtain ⟨⟨g7,g8,g9⟩,j3,h⟩:=bnd h
 refine WL.f3 (WL.f3 (WL.f3 ?_))
 have a:=a.mono c5
 refine We (callV3 (first:=#[]) (cap:=#[(pt e 0),(pt c 0)]) co101 Z (f_record_Read_3_ok (2048:Int) E (⟨a0.b,g5,g6⟩:T_wire_Reader) _ _ _ _ _ a (g7,g8,g9) j3) (argsV1 Z Z)) Z ?_
 rintro _ r8 _ c6 ⟨_,⟨j,b3,rfl,rfl,A⟩,rfl⟩
 have o6:=o5.trans c6
 refine WL.a4 (qm (.func (.func 101) #[] #[(pt e 0),(pt c 0)]) ?_)
 obtain ⟨⟨h0,h1,h2⟩,j4,h⟩:=bnd h
 refine Wb (Wb (Wb ?_))
 have a:=a.mono c6
 refine We (callV3 (first:=#[]) (cap:=#[(pt e 0),(pt c 0)]) co101 Z (f_record_Read_3_ok (4096:Int) E (⟨a0.b,g8,g9⟩:T_wire_Reader) _ _ _ _ _ a (h0,h1,h2) j4) (argsV1 Z Z)) Z ?_
 rintro _ r9 _ a7 ⟨_,⟨p,b4,rfl,rfl,B⟩,rfl⟩
 have o7:=o6.trans a7
 refine WL.a4 (qm (.func (.func 101) #[] #[(pt e 0),(pt c 0)]) ?_)
 obtain ⟨⟨h3,h4,h5⟩,j5,h⟩:=bnd h
 refine Wb (Wb (Wb ?_))
 have a:=a.mono a7
 refine We (callV3 (first:=#[]) (cap:=#[(pt e 0),(pt c 0)]) co101 Z (f_record_Read_3_ok (8192:Int) E (⟨a0.b,h1,h2⟩:T_wire_Reader) _ _ _ _ _ a (h3,h4,h5) j5) (argsV1 Z Z)) Z ?_
 rintro _ s0 _ S ⟨_,⟨u,b5,rfl,rfl,C⟩,rfl⟩
 have o8:=o7.trans S
 refine WL.a4 (qm (.func (.func 101) #[] #[(pt e 0),(pt c 0)]) ?_)
 obtain ⟨⟨h6,W,d9⟩,j6,h⟩:=bnd h
 refine Wb (Wb (Wb ?_))
 have a:=a.mono S
 refine We (callV3 (first:=#[]) (cap:=#[(pt e 0),(pt c 0)]) co101 Z (f_record_Read_3_ok (8192:Int) E (⟨a0.b,h4,h5⟩:T_wire_Reader) _ _ _ _ _ a (h6,W,d9) j6) (argsV1 Z Z)) Z ?_
 rintro _ o9 _ N ⟨_,⟨D,b6,rfl,rfl,J⟩,rfl⟩
 have e1:=o8.trans N
 refine WL.a4 (qu (pt q 14) (Fa fo58_14 f Z) (WL.f7 ?_))
 have A:=A.mono ((a7.trans S).trans N)
 refine We (Es j [(Iv d),(Iv m),(Iv n),(Iv r),(Iv t),(Iv w),(Iv z),(Iv G),(Iv g),(Bv k),(Sv l),(Sv o),(Sv s),(Sv y),j,Zs,Zs,Zs] A.cells sz56 Z Z (Ow A) Z Z (by kernel_rfl)) Z ?_
 rintro _ _ _ - ⟨rfl,rfl⟩
 refine qu (pt q 15) (Fa fo58_15 f Z) ?_
 have B:=B.mono (S.trans N)
 refine We (Es p [(Iv d),(Iv m),(Iv n),(Iv r),(Iv t),(Iv w),(Iv z),(Iv G),(Iv g),(Bv k),(Sv l),(Sv o),(Sv s),(Sv y),j,p,Zs,Zs] B.cells sz56 Z Z (Ow B) Z Z (by kernel_rfl)) Z ?_
 rintro _ _ _ - ⟨rfl,rfl⟩
 refine qu (pt q 16) (Fa fo58_16 f Z) ?_
 have C:=C.mono N
 refine We (Es u [(Iv d),(Iv m),(Iv n),(Iv r),(Iv t),(Iv w),(Iv z),(Iv G),(Iv g),(Bv k),(Sv l),(Sv o),(Sv s),(Sv y),j,p,u,Zs] C.cells sz56 Z Z (Ow C) Z Z (by kernel_rfl)) Z ?_
 rintro _ _ _ - ⟨rfl,rfl⟩
 refine qu (pt q 17) (Fa fo58_17 f Z) (We (Es D [(Iv d),(Iv m),(Iv n),(Iv r),(Iv t),(Iv w),(Iv z),(Iv G),(Iv g),(Bv k),(Sv l),(Sv o),(Sv s),(Sv y),j,p,u,D] J.cells sz56 Z Z (Ow J) Z Z (by kernel_rfl)) Z ?_)
 rintro _ _ _ - ⟨rfl,rfl⟩
 refine Nt ?_
 obtain ⟨Y,j7,h⟩:=bnd h
 refine Jf (fun(Y:GErr) ρ' M' H'=>o9.le M'∧[(q, .cells #[(Iv d),(Iv m),(Iv n),(Iv r),(Iv t),(Iv w),(Iv z),(Iv G),(Iv g),(Bv k),(Sv l),(Sv o),(Sv s),(Sv y),j,p,u,D] 58 (0,0))]::[(e, .cells #[(Iv E)] 3 (0,0))]::[(X, .cells #[P,(Iv W),(GV Y)] 110 (0,0))]::[(c, .cells #[(pt X 0)] 69 (0,0))]::[(a8, .cells z58_.toArray 58 (0,0))]::b3::b4::b5::b6::F=H'∧ρ' 1=(pt c 0)∧ρ' 2=(pt a8 0)∧ρ' 3=(pt q 0)) Y ?_ ?_
 have h:=j7
 refine Sr (qu (pt X 0) (Lb 3 pl69 x Z Z) ?_)
 obtain ⟨h7,j8,h⟩:=bnd h
 refine Wb ?_
 have a:=a.mono N
 refine We (Cb co36 (f_wire_Reader_Err_ok (⟨a0.b,W,d9⟩:T_wire_Reader) _ _ _ a h7 j8) (args1 Z)) Z ?_
 rintro _ s1 _ I ⟨_,⟨rfl,rfl⟩,rfl⟩
 refine WL.a1 (qu (Bv h7.isNil) (errNil underlying31 Z) (Nt (Ch h Z (fun j9 h=> ?_) (fun j9 h=> ?_))))
 refine Sr (qu (.agg #[(Iv d),(Iv m),(Iv n),(Iv r),(Iv t),(Iv w),(Iv z),(Iv G),(Iv g),(Bv k),(Sv l),(Sv o),(Sv s),(Sv y),j,p,u,D]) (La (cs:=[(Iv d),(Iv m),(Iv n),(Iv r),(Iv t),(Iv w),(Iv z),(Iv G),(Iv g),(Bv k),(Sv l),(Sv o),(Sv s),(Sv y),j,p,u,D]) 1 ag58 sz58 f Z Z) ?_)
 obtain ⟨a2,k0,h⟩:=bnd h
 refine WL.f4 (WL.f5 (WL.f6 (WL.f7 ?_)))
 have A:=A.mono I
 have B:=B.mono I
 have C:=C.mono I
 have J:=J.mono I
 refine We (EO.call4 co77 (Tri.lend A.excl fun w0_ H0_ hs0_=>(Tri.lend B.excl fun w1_ H1_ hs1_=>(Tri.lend C.excl fun w2_ H2_ hs2_=>(Tri.lend J.excl fun w3_ H3_ hs3_=>(f_record_Check_ok (⟨d,m,n,r,t,w,z,G,g,k,l,o,s,y,g7,h0,h3,h6⟩:T_api_Record) _ _ _ _ _ ((((A.rs hs0_).mono (IM.le_add _ _)).mono (IM.le_add _ _)).mono (IM.le_add _ _)) ((((B.mono (IM.le_add _ _)).rs hs1_).mono (IM.le_add _ _)).mono (IM.le_add _ _)) ((((C.mono (IM.le_add _ _)).mono (IM.le_add _ _)).rs hs2_).mono (IM.le_add _ _)) ((((J.mono (IM.le_add _ _)).mono (IM.le_add _ _)).mono (IM.le_add _ _)).rs hs3_) a2 k0))))) (args1 Z)) Z ?_
 rintro _ _ _ T ⟨_,⟨q2,q3,p1,rfl,rfl,⟨q4,q5,p2,rfl,rfl,⟨q6,q7,p3,rfl,rfl,⟨q8,q9,p4,rfl,rfl,⟨rfl,rfl⟩⟩⟩⟩⟩,rfl⟩
 refine WL.a4 (qa (GV a2) (Ns (qm (GV a2) (qu (Bv (!a2.isNil)) (errNotNil underlying31 Z) (Nt (Ch h Z (fun k1 h=> ?_) (fun k1 h=> ?_)))))))
 refine WC.draw [0,0,2,7] (.pure 0 (.pure 1 (.alt 2 (.alt 3 .done .none) .none))) mixed (by kernel_rfl) (qt (pt X 0) Z (Lb 7 pl69 x Z Z) (qt (GV a2) Z (Mv Z) ?_))
 obtain ⟨h8,k2,h⟩:=bnd h
 have hE:=hE.mono ((e1.trans I).trans T)
 refine Ta Z (Ca co45 (f_fault_Of_ok a2 _ hE h8 k2) (args1 Z)) Z ?_ ?_
 rintro _ s2 _ c7 ⟨_,⟨rfl,rfl⟩,rfl⟩
 refine⟨(Sk 1 Z (Ss Z (Lb 7 pl69 x Z Z) Z trivial)), ?_⟩
 refine WT.a0 ?_
 obtain ⟨p0,k3,h⟩:=bnd h
 refine WT.f4 ?_
 have a:=a.mono ((I.trans T).trans c7)
 refine Ta Z (Cb co71 (f_wire_Reader_Refuse_ok (⟨a0.b,W,d9⟩:T_wire_Reader) (⟨#[114,101,99,111,114,100]⟩:ByteArray) h8 _ _ _ a p0 k3) (args3 Z Z Z)) Z ?_ ?_
 rintro _ s3 _ e7 ⟨_,⟨rfl,rfl⟩,rfl⟩
 refine⟨(Sl Z), ?_⟩
 refine WT.a1 (Ti (WQ.f4 (WQ.f4 (WQ.f4 (WQ.f4 (WQ.f8 (WQ.f8 (WQ.f6 (WQ.f8 (WQ.f8 ?_))))))))))
 obtain rfl:=oi h
 exact Tj ⟨(((I.trans T).trans c7).trans e7),Z,x,V,f⟩
 exact Tz
 exact Tz
 refine Ck (WQ.f3 (WQ.f3 (WQ.f3 (WQ.f3 (WQ.f8 (WQ.f8 (WQ.f6 (WQ.f8 (WQ.f8 ?_)))))))))
 obtain rfl:=oi h
 exact Tj ⟨(I.trans T),Z,x,V,f⟩
 refine Ck (WQ.f4 (WQ.f5 (WQ.f6 (WQ.f7 (WQ.f8 (WQ.f8 (WQ.f6 (WQ.f8 (WQ.f8 ?_)))))))))
 obtain rfl:=oi h
 exact Tj ⟨I,Z,x,V,f⟩
 rintro s4 s5 s6 ⟨K,rfl,e2,Q,e3⟩
 refine Cs (Sr (qu (pt X 0) (Lb 3 pl69 e2 Z Z) ?_))
 obtain ⟨h9,k4,h⟩:=bnd h
 refine Wb ?_
 have a:=a.mono (N.trans K)
 refine We (Cb co36 (f_wire_Reader_Err_ok (⟨a0.b,W,Y⟩:T_wire_Reader) _ _ _ a h9 k4) (args1 Z)) Z ?_
 rintro _ s7 _ O ⟨_,⟨rfl,rfl⟩,rfl⟩
 refine WL.a1 (qu (Bv (!h9.isNil)) (errNotNil underlying31 Z) (Nt (Ch h Z (fun k5 h=> ?_) (fun k5 h=> ?_))))
 refine Sr (qu (.agg z58_.toArray) (Bl (cl:=z58_) ze58 fp58 Pz Z) (WL.f4 (We (Sg (v:=(.agg z58_.toArray)) (vl:=z58_) (arr':=z58_) Z sz58 Q Z (onb Z) Z Z (by kernel_rfl)) Z ?_)))
 rintro _ _ _ - ⟨rfl,rfl⟩
 refine Nt (Cr (Tr (WQ.e0 (WQ.e0 (WQ.e0 (WQ.e0 (WQ.f6 (Dr (WQ.f6 (Dr (WQ.f6 ?_)))))))))))
 refine Dr (WQ.f6 (Dr (WQ.f6 (Dr (WQ.f6 (Dr (WQ.f6 (Dr (Qa (Qb (WQ.f3 ?_)))))))))))
 exact WQ.f5 (WQ.f5 (Rd h [[(X, .cells #[P,(Iv W),(GV Y)] 110 (0,0))],[],[],[],[]] (fun _ hs=>hs.drop) (resultsL1 Z (Rc (cs:=z58_) 0 ag58 sz58 Q Z Z)) ((e1.trans K).trans O) ⟨Zs,[],Zs,[],Zs,[],Zs,[],Z,Z,(OwnS.nil _ _),(OwnS.nil _ _),(OwnS.nil _ _),(OwnS.nil _ _)⟩))
 refine Ck (Tc (Sr (qu (.agg #[(Iv d),(Iv m),(Iv n),(Iv r),(Iv t),(Iv w),(Iv z),(Iv G),(Iv g),(Bv k),(Sv l),(Sv o),(Sv s),(Sv y),j,p,u,D]) (La (cs:=[(Iv d),(Iv m),(Iv n),(Iv r),(Iv t),(Iv w),(Iv z),(Iv G),(Iv g),(Bv k),(Sv l),(Sv o),(Sv s),(Sv y),j,p,u,D]) 1 ag58 sz58 e3 Z Z) (WL.f4 ?_))))
 have A:=A.mono (K.trans O)
 have B:=B.mono (K.trans O)
 have C:=C.mono (K.trans O)
 have J:=J.mono (K.trans O)
 refine We (Sg (v:=(.agg #[(Iv d),(Iv m),(Iv n),(Iv r),(Iv t),(Iv w),(Iv z),(Iv G),(Iv g),(Bv k),(Sv l),(Sv o),(Sv s),(Sv y),j,p,u,D])) (vl:=[(Iv d),(Iv m),(Iv n),(Iv r),(Iv t),(Iv w),(Iv z),(Iv G),(Iv g),(Bv k),(Sv l),(Sv o),(Sv s),(Sv y),j,p,u,D]) (arr':=[(Iv d),(Iv m),(Iv n),(Iv r),(Iv t),(Iv w),(Iv z),(Iv G),(Iv g),(Bv k),(Sv l),(Sv o),(Sv s),(Sv y),j,p,u,D]) Z sz58 Q Z (onesOf (Oc Z (Oc Z (Oc Z (Oc Z (Oc Z (Oc Z (Oc Z (Oc Z (Oc Z (Oc Z (Oc Z (Oc Z (Oc Z (Oc Z (Oc (Ow A) (Oc (Ow B) (Oc (Ow C) (Oc (Ow J) Oz))))))))))))))))))) Z Z (by kernel_rfl)) Z ?_
 rintro _ _ _ - ⟨rfl,rfl⟩
 exact Nt (Cr (Qb (Dr (Qb (Dr (Qb (Dr (Rd h [[(X, .cells #[P,(Iv W),(GV Y)] 110 (0,0))],b3,b4,b5,b6] (fun _ hs=>hs.drop) (resultsL1 Z (Rc (cs:=[(Iv d),(Iv m),(Iv n),(Iv r),(Iv t),(Iv w),(Iv z),(Iv G),(Iv g),(Bv k),(Sv l),(Sv o),(Sv s),(Sv y),j,p,u,D]) 0 ag58 sz58 Q Z Z)) ((e1.trans K).trans O) ⟨j,b3,p,b4,u,b5,D,b6,Z,Z,A,B,C,J⟩))))))))
noncomputable def f_batch_Next_l0 (a0:T_wire_Reader) (g:Int) (s_:(Int×(List T_api_Record)×Int×GErr)):Option ((Int×(List T_api_Record)×Int×GErr)⊕(Int×GErr×(List T_api_Record))):=
 match s_ with
 |(e,a,c,d)=>
 (((if(decide (e<g))=true then((f_wire_Reader_Err (⟨a0.b,c,d⟩:T_wire_Reader)).bind fun i=>(some i.isNil))else(some false)):Option Bool).bind fun j=>(if j=true then((f_record_Read (⟨a0.b,c,d⟩:T_wire_Reader)).bind fun(f,k,l)=>(grd (a.length+[f].length≤274877906944) (some (inl (i64.wrap (e+(1:Int)),a++[f],k,l)))))else(some (inr (c,d,a)))))
noncomputable def f_batch_Next (a0:T_wire_Reader):Option (T_api_Batch×Int×GErr):=
 ((f_wire_Reader_At a0).bind fun m=>((f_wire_Reader_Int a0 (1073741824:Int)).bind fun(g,n,o)=>((f_wire_Reader_Int (⟨a0.b,n,o⟩:T_wire_Reader) (1073741824:Int)).bind fun(p,q,r)=>((f_wire_Reader_Int (⟨a0.b,q,r⟩:T_wire_Reader) (64:Int)).bind fun(i,d,e)=>((((((f_wire_Reader_Err (⟨a0.b,d,e⟩:T_wire_Reader)).bind fun s=>(if s.isNil=true then(if(decide (g=(0:Int)))=true then(some true)else(some (decide (i=(0:Int)))))else(some false))):Option Bool).bind fun t=>(if t=true then((f_wire_Reader_Refuse (⟨a0.b,d,e⟩:T_wire_Reader) (⟨#[98,97,116,99,104]⟩:ByteArray) (2:Int)).bind fun u=>(some u))else(some e))):Option GErr).bind fun v=>((((iter (f_batch_Next_l0 a0 i) ((0:Int),[],d,v)).bind (fun(w,x,y)=>(some (w,x,y)))):Option (Int×GErr×(List T_api_Record))).bind fun(a,f,z)=>((((f_wire_Reader_At (⟨a0.b,a,f⟩:T_wire_Reader)).bind fun j=>(if(decide ((16384:Int)<(i64.wrap (j - m))))=true then((f_wire_Reader_Refuse (⟨a0.b,a,f⟩:T_wire_Reader) (⟨#[98,97,116,99,104]⟩:ByteArray) (6:Int)).bind fun k=>(some k))else(some f))):Option GErr).bind fun c=>((f_wire_Reader_Err (⟨a0.b,a,c⟩:T_wire_Reader)).bind fun l=>(if(!l.isNil)=true then(some ((⟨(0:Int),(0:Int),[]⟩:T_api_Batch),a,c))else(some ((⟨g,p,z⟩:T_api_Batch),a,c)))))))))))
def f_batch_Next_post (a0:T_wire_Reader) (c:Value) (e:Nat):(T_api_Batch×Int×GErr)→Value→IM→HL→Prop:=
 fun(p_:(T_api_Batch×Int×GErr)) (v:Value) (M':IM) (H':HL)=>match p_ with |(d,f,g)=>∃ a b,(.agg #[(.int .i64 d.Term),(.int .i64 d.Base),a])=v∧H'=[[(e, .cells #[c,(.int .i64 f),(GV g)] 110 (0,0))],b]∧OwnS kd_api_Record M' a d.Records b
theorem f_batch_Next_ok (a0:T_wire_Reader) (M:IM) (f:Value) (t:Nat) (a:RS (Kd.int .u8) M f a0.b) (hE:Env M) (res:(T_api_Batch×Int×GErr)) (h:f_batch_Next a0=some res):
 Tri prog 37 #[(pt t 0)] M [[(t, .cells #[f,(Iv a0.at_),(GV a0.err)] 110 (0,0))]] (f_batch_Next_post a0 f t res):=by
 unfold f_batch_Next at h
 refine Te func37 Z Z ?_
 intro F ρ hρ
 refine Sr (We (Al ze55 Z) Z ?_)
 rintro _ _ _ - ⟨rfl,y,rfl,rfl⟩
 refine Ns (qM (pt t 0) (hρ 0) ?_)
 obtain ⟨K,h9,h⟩:=bnd h
 refine WL.f1 (We (Cb co70 (f_wire_Reader_At_ok a0 _ _ _ a K h9) (args1 Z)) Z ?_)
 rintro _ l9 _ c5 ⟨_,⟨rfl,rfl⟩,rfl⟩
 refine WL.a1 (qa (Iv K) (Ns (qM (pt t 0) (hρ 0) ?_)))
 obtain ⟨⟨c,i0,i1⟩,i2,h⟩:=bnd h
 have a:=a.mono c5
 refine We (Cb co32 (f_wire_Reader_Int_ok a0 (1073741824:Int) _ _ _ a (c,i0,i1) i2) (args2 Z Z)) Z ?_
 rintro _ m0 _ c6 ⟨_,⟨rfl,rfl⟩,rfl⟩
 refine WL.a1 (qM (pt t 0) (hρ 0) ?_)
 obtain ⟨⟨d,i3,i4⟩,i5,h⟩:=bnd h
 have a:=a.mono c6
 refine We (Cb co32 (f_wire_Reader_Int_ok (⟨a0.b,i0,i1⟩:T_wire_Reader) (1073741824:Int) _ _ _ a (d,i3,i4) i5) (args2 Z Z)) Z ?_
 rintro _ m1 _ c7 ⟨_,⟨rfl,rfl⟩,rfl⟩
 refine WL.a1 (qu (.agg #[(Iv c),(Iv d),Zs]) (Bl (cl:=[(Iv c),(Iv d),Zs]) ze55 fp55 (Pc (Iv c) Z Z (Pc (Iv d) Z Z Pz)) Z) (We (Al ze55 Z) Z ?_))
 rintro _ _ _ - ⟨rfl,j,rfl,rfl⟩
 refine We (Sg (v:=(.agg #[(Iv c),(Iv d),Zs])) (vl:=[(Iv c),(Iv d),Zs]) (arr':=[(Iv c),(Iv d),Zs]) Z sz55 Z Z (onb Z) Z Z Z) Z ?_
 rintro _ _ _ - ⟨rfl,rfl⟩
 refine Ns (qM (pt t 0) (hρ 0) ?_)
 obtain ⟨⟨u,c8,e5⟩,i6,h⟩:=bnd h
 refine WL.f1 ?_
 have a:=a.mono c7
 refine We (Cb co32 (f_wire_Reader_Int_ok (⟨a0.b,i3,i4⟩:T_wire_Reader) (64:Int) _ _ _ a (u,c8,e5) i6) (args2 Z Z)) Z ?_
 rintro _ i7 _ k ⟨_,⟨rfl,rfl⟩,rfl⟩
 have k8:=((c5.trans c6).trans c7).trans k
 refine WL.a1 (qa (Iv u) (Nt ?_))
 obtain ⟨g2,i8,h⟩:=bnd h
 refine Jf (fun(g2:GErr) ρ' M' H'=>i7.le M'∧[(t, .cells #[f,(Iv c8),(GV g2)] 110 (0,0))]::[(j, .cells #[(Iv c),(Iv d),Zs] 55 (0,0))]::[(y, .cells #[(Iv 0),(Iv 0),Zs] 55 (0,0))]::F=H'∧ρ' 0=(pt t 0)∧ρ' 2=(pt y 0)∧ρ' 3=(Iv K)∧ρ' 4=(pt j 0)∧ρ' 5=(Iv u)) g2 ?_ ?_
 have h:=i8
 obtain ⟨g3,i9,h⟩:=bnd h
 refine Jf (fun(g3:Bool) ρ' M' H'=>i7.le M'∧[(t, .cells #[f,(Iv c8),(GV e5)] 110 (0,0))]::[(j, .cells #[(Iv c),(Iv d),Zs] 55 (0,0))]::[(y, .cells #[(Iv 0),(Iv 0),Zs] 55 (0,0))]::F=H'∧ρ' 0=(pt t 0)∧ρ' 2=(pt y 0)∧ρ' 3=(Iv K)∧ρ' 4=(pt j 0)∧ρ' 5=(Iv u)∧ρ' 27=(Bv g3)) g3 ?_ ?_
 have h:=i9
 refine Cg (qM (pt t 0) (hρ 0) ?_)
 obtain ⟨g4,j0,h⟩:=bnd h
 have a:=a.mono k
 refine We (Cb co36 (f_wire_Reader_Err_ok (⟨a0.b,c8,e5⟩:T_wire_Reader) _ _ _ a g4 j0) (args1 Z)) Z ?_
 rintro _ m2 _ a7 ⟨_,⟨rfl,rfl⟩,rfl⟩
 refine WL.a1 (qu (Bv g4.isNil) (errNil underlying31 Z) (qm (Bv g4.isNil) ?_))
 rcases Bi h with⟨e,h⟩ |⟨e,h⟩
 refine qo 19 e (pt j 0) (Fa fo55_0 Z Z) (qo 19 e (Iv c) (Lb 1 pl3 Z Z Z) (qo 19 e (Bv (decide (c=0))) (eql Z Z) (On 19 Z Z e (qm (Bv (decide (c=0))) ?_))))
 rcases Bi h with⟨N,h⟩ |⟨N,h⟩
 iterate 2 refine Of 23 Z Z N Z ?_
 refine qo 19 e (Bv true) (Pt Z N Z) (qu (Bv true) (Pt Z e Z) (Wz ?_))
 obtain rfl:=oi h
 exact Tj ⟨a7,Z,(hρ 0),Z,Z,Z,Z,Z⟩
 refine On 23 Z Z N (qm (Iv u) (qo 23 N (Bv (decide (u=0))) (eql Z Z) (qo 19 e (Bv (decide (u=0))) (Pf Z N Z) (qu (Bv (decide (u=0))) (Pt Z e Z) (Wz ?_)))))
 obtain rfl:=oi h
 exact Tj ⟨a7,Z,(hρ 0),Z,Z,Z,Z,Z⟩
 iterate 4 refine Of 19 Z Z e Z ?_
 refine WL.offU 23 Z Z Z (WL.offU 23 Z Z Z (Of 19 Z Z e Z (qu (Bv false) (Pf Z e Z) (Wz ?_))))
 obtain rfl:=oi h
 exact Tj ⟨a7,Z,(hρ 0),Z,Z,Z,Z,Z⟩
 rintro m3 m4 m5 ⟨a8,rfl,S,b1,b2,b3,b4,c9⟩
 refine Ch h c9 (fun j1 h=> ?_) (fun j1 h=> ?_)
 refine Cg (qM (pt t 0) S ?_)
 obtain ⟨k9,j2,h⟩:=bnd h
 have a:=a.mono (k.trans a8)
 refine We (Cb co71 (f_wire_Reader_Refuse_ok (⟨a0.b,c8,e5⟩:T_wire_Reader) (⟨#[98,97,116,99,104]⟩:ByteArray) (2:Int) _ _ _ a k9 j2) (args3 Z Z Z)) Z ?_
 rintro _ m6 _ g5 ⟨_,⟨rfl,rfl⟩,rfl⟩
 refine WL.a1 (Wz ?_)
 obtain rfl:=oi h
 exact Tj ⟨(a8.trans g5),Z,S,b1,b2,b3,b4⟩
 refine Ck ?_
 obtain rfl:=oi h
 exact Tj ⟨a8,Z,S,b1,b2,b3,b4⟩
 rintro m7 j3 m8 ⟨B,rfl,e6,e7,e8,e9,f0⟩
 have g6:=k8.trans B
 obtain ⟨j4,j5,h⟩:=bnd h
 refine Jf (fun(p_:(Int×GErr×(List T_api_Record))) ρ' M' H'=>match p_ with |(a4,f2,j6)=>∃ g O,j3.le M'∧[(t, .cells #[f,(Iv a4),(GV f2)] 110 (0,0))]::[(j, .cells #[(Iv c),(Iv d),g] 55 (0,0))]::[(y, .cells #[(Iv 0),(Iv 0),Zs] 55 (0,0))]::O::F=H'∧ρ' 0=(pt t 0)∧ρ' 2=(pt y 0)∧ρ' 3=(Iv K)∧ρ' 4=(pt j 0)∧OwnS kd_api_Record M' g j6 O) j4 ?_ ?_
 have h:=j5
 refine Sr (qa (Iv 0) (Nt (Bk (WC.e0 (WC.f3 (WC.f3 (WC.f3 ?_)))))))
 obtain ⟨m9,j7,j8⟩:=bnd h
 clear h
 refine WC.loop j7 (fun(p_:(Int×(List T_api_Record)×Int×GErr)) ρ' M' H'=>match p_ with |(L,d0,c3,c4)=>∃ P a6,j3.le M'∧[(t, .cells #[f,(Iv c3),(GV c4)] 110 (0,0))]::[(j, .cells #[(Iv c),(Iv d),P] 55 (0,0))]::[(y, .cells #[(Iv 0),(Iv 0),Zs] 55 (0,0))]::a6::F=H'∧ρ' 0=(pt t 0)∧ρ' 2=(pt y 0)∧ρ' 3=(Iv K)∧ρ' 4=(pt j 0)∧ρ' 5=(Iv u)∧ρ' 6=(Iv L)∧OwnS kd_api_Record M' P d0 a6) ?_ ?_
 exact⟨Zs,[],lr,Z,e6,e7,e8,e9,f0,Z,(OwnS.nil _ _)⟩
 rintro ⟨L,d0,c3,c4⟩ n0 n1 l0 n2 h ⟨P,a6,C,rfl,T,b5,b6,b7,U,V,Q⟩
 unfold f_batch_Next_l0 at h
 refine Cs ?_
 obtain ⟨g7,j9,h⟩:=bnd h
 refine Jf (fun(g7:Bool) ρ' M' H'=>l0.le M'∧[(t, .cells #[f,(Iv c3),(GV c4)] 110 (0,0))]::[(j, .cells #[(Iv c),(Iv d),P] 55 (0,0))]::[(y, .cells #[(Iv 0),(Iv 0),Zs] 55 (0,0))]::a6::F=H'∧ρ' 0=(pt t 0)∧ρ' 2=(pt y 0)∧ρ' 3=(Iv K)∧ρ' 4=(pt j 0)∧ρ' 5=(Iv u)∧ρ' 6=(Iv L)∧ρ' 37=(Bv g7)) g7 ?_ ?_
 have h:=j9
 refine Cg (qM (Iv L) V (qM (Iv u) U (qu (Bv (decide (L<u))) (lss Z Z) (qm (Bv (decide (L<u))) ?_))))
 rcases Bi h with⟨D,h⟩ |⟨D,h⟩
 refine On 33 Z Z D (qM (pt t 0) T (On 33 Z Z D ?_))
 obtain ⟨g8,k0,h⟩:=bnd h
 have a:=a.mono ((k.trans B).trans C)
 refine We (Cb co36 (f_wire_Reader_Err_ok (⟨a0.b,c3,c4⟩:T_wire_Reader) _ _ _ a g8 k0) (args1 Z)) Z ?_
 rintro _ n3 _ g9 ⟨_,⟨rfl,rfl⟩,rfl⟩
 refine WL.a1 (qo 33 D (Bv g8.isNil) (errNil underlying31 Z) (qu (Bv g8.isNil) (Pt Z D Z) (Wz ?_)))
 obtain rfl:=oi h
 exact Tj ⟨g9,Z,T,b5,b6,b7,U,V,Z⟩
 iterate 3 refine Of 33 Z Z D Z ?_
 refine qu (Bv false) (Pf Z D Z) (Wz ?_)
 obtain rfl:=oi h
 exact Tj ⟨lr,Z,T,b5,b6,b7,U,V,Z⟩
 rintro n4 n5 n6 ⟨w,rfl,W,b8,b9,i,f5,f6,d1⟩
 refine Ch h d1 (fun k1 h=> ?_) (fun k1 h=> ?_)
 refine Ck (Tc (Cs (Bk (WC.draw [0,1,0,4,12,31,63,127] (.pure 0 (.pure 1 (.pure 2 (.alt 3 (.alt 4 (.alt 5 (.pure 6 (.alt 7 .done .none)) .none) .none) .none)))) mixed (by kernel_rfl) (qt (pt j 2) Z (Fa fo55_2 i Z) (qt P Z (Lb 1 pl53 Z Z Z) (qt (pt t 0) Z (Mv W) ?_)))))))
 obtain ⟨⟨X,k2,k3⟩,k4,h⟩:=bnd h
 have a:=a.mono (((k.trans B).trans C).trans w)
 have hE:=hE.mono ((g6.trans C).trans w)
 refine Ta Z (Cb co72 (f_record_Read_ok (⟨a0.b,c3,c4⟩:T_wire_Reader) _ _ _ a hE (X,k2,k3) k4) (args1 Z)) Z ?_ ?_
 rintro _ l1 _ d2 ⟨_,⟨l,d3,m,d4,n,d5,o,d6,rfl,rfl,d7,E,G,I⟩,rfl⟩
 refine⟨(Sk 1 Z (Ss Z (Lb 5 pl53 Z Z Z) Z (Ss Z (Fa fo55_2 i Z) Z trivial))), ?_⟩
 refine WT.a5 (WT.f1 (WT.know (fun _ hs=>d7.rs hs) (fun d8=> ?_)))
 refine WT.freeze (fun J=> ?_)
 refine WT.f1 ?_
 have E:=E.mono J
 refine WT.know (fun _ hs=>E.rs hs) (fun a9=> ?_)
 refine WT.freeze (fun p=> ?_)
 refine WT.f1 ?_
 have G:=G.mono (J.trans p)
 refine WT.know (fun _ hs=>G.rs hs) (fun b0=> ?_)
 refine WT.freeze (fun q=> ?_)
 refine WT.f1 ?_
 have I:=I.mono ((J.trans p).trans q)
 refine WT.know (fun _ hs=>I.rs hs) (fun h0=> ?_)
 refine WT.freeze (fun r=> ?_)
 refine Ta Z (buildSliceL (cl:=(l58 X l m n o)) underlying53 iz58 Z (Pc (a58_ X l m n o) Z Z Pz) Z) Z ?_ ?_
 rintro _ _ _ - ⟨rfl,f9,rfl,rfl⟩
 have d8:=d8.mono ((p.trans q).trans r)
 have a9:=a9.mono (q.trans r)
 have b0:=b0.mono r
 have k5:OwnS kd_api_Record ((((l1.add d3).add d4).add d5).add d6) (.slice (some ⟨f9,0,none⟩) 1 1) [X] [(f9, .cells (l58 X l m n o).toArray 58 (0,0))]:=OwnS.rows (css:=[(l58 X l m n o)]) (Rows.cons (kd_api_Record_mk (x:=X) d8 a9 b0 h0) Rows.nil) Z Z
 refine⟨(Sk 1 Z (Ss Z (Lb 2 pl53 Z Z Z) Z (Ss Z (Fa fo55_2 i Z) Z trivial))), ?_⟩
 obtain ⟨h1,h⟩:=grd_i h
 refine WT.f4 ?_
 have Q:=Q.mono (((((w.trans d2).trans J).trans p).trans q).trans r)
 refine Ta Z (append (dd:=kd_api_Record) (xs:=d0) (ys:=[X]) underlying53 underlying53 in58 Z (appB (by decide) h1) (by decide) Z Z Q (k5.src 1 Z)) Z ?_ ?_
 rintro d9 _ _ - ⟨rfl,k6,rfl,e1⟩
 refine⟨(Sl Z), ?_⟩
 refine qt (pt j 2) Z (Fa fo55_2 i Z) (WT.f3 (Ta Z (Es d9 [(Iv c),(Iv d),d9] e1.cells sz53 Z Z (Ow e1) Z Z Z) Z ?_ ?_))
 rintro _ _ _ - ⟨rfl,rfl⟩
 refine⟨(Sl Z), ?_⟩
 refine Ti (Bn (Tc (Cg (qM (Iv L) f6 (qu (Iv (i64.wrap (L+1))) (add Z Z) (qa (Iv (i64.wrap (L+1))) (Wz (Qb (Dr (Qa (WQ.f3 ?_)))))))))))
 exact Qb (WQ.f3 (WQ.again (i64.wrap (L+1),d0++[X],k2,k3) (oi h).symm ⟨d9,k6,((((((C.trans w).trans d2).trans J).trans p).trans q).trans r),Z,W,b8,b9,i,f5,Z,e1⟩))
 exact Tz
 exact Tz
 exact Tz
 exact Tz
 refine WC.exit (WQ.thenE (WQ.leaveE (c3,c4,d0) (oi h).symm (fun h2=> ?_)))
 subst h2
 have h:=j8
 refine WQ.blockH ?_
 obtain rfl:=oi h
 refine Tj ?_
 have Q:=Q.mono w
 exact⟨P,a6,(C.trans w),Z,W,b8,b9,i,Q⟩
 obtain ⟨a4,f2,j6⟩:=j4
 rintro n7 l2 n8 ⟨g,O,Y,rfl,z,c0,f7,c1,c2⟩
 obtain ⟨R,h3,h⟩:=bnd h
 refine Jf (fun(R:GErr) ρ' M' H'=>l2.le M'∧[(t, .cells #[f,(Iv a4),(GV R)] 110 (0,0))]::[(j, .cells #[(Iv c),(Iv d),g] 55 (0,0))]::[(y, .cells #[(Iv 0),(Iv 0),Zs] 55 (0,0))]::O::F=H'∧ρ' 0=(pt t 0)∧ρ' 2=(pt y 0)∧ρ' 4=(pt j 0)) R ?_ ?_
 have h:=h3
 refine Sr (qM (pt t 0) z ?_)
 obtain ⟨e2,h4,h⟩:=bnd h
 have a:=a.mono ((k.trans B).trans Y)
 refine We (Cb co70 (f_wire_Reader_At_ok (⟨a0.b,a4,f2⟩:T_wire_Reader) _ _ _ a e2 h4) (args1 Z)) Z ?_
 rintro _ l3 _ a2 ⟨_,⟨rfl,rfl⟩,rfl⟩
 refine WL.a1 (qM (Iv K) f7 (qu (Iv (i64.wrap (e2 - K))) (PO.sub Z Z) (qu (Bv (decide ((16384:Int)<(i64.wrap (e2 - K))))) (gtr Z Z) (Nt (Ch h Z (fun h5 h=> ?_) (fun h5 h=> ?_))))))
 refine Cg (qM (pt t 0) z ?_)
 obtain ⟨k7,h6,h⟩:=bnd h
 have a:=a.mono a2
 refine We (Cb co71 (f_wire_Reader_Refuse_ok (⟨a0.b,a4,f2⟩:T_wire_Reader) (⟨#[98,97,116,99,104]⟩:ByteArray) (6:Int) _ _ _ a k7 h6) (args3 Z Z Z)) Z ?_
 rintro _ l4 _ f8 ⟨_,⟨rfl,rfl⟩,rfl⟩
 refine WL.a1 (Wz ?_)
 obtain rfl:=oi h
 exact Tj ⟨(a2.trans f8),Z,z,c0,c1⟩
 refine Ck ?_
 obtain rfl:=oi h
 exact Tj ⟨a2,Z,z,c0,c1⟩
 rintro l5 l6 l7 ⟨A,rfl,e3,s,e4⟩
 refine Cs (Sr (qM (pt t 0) e3 ?_))
 obtain ⟨g1,h7,h⟩:=bnd h
 have a:=a.mono (((k.trans B).trans Y).trans A)
 refine We (Cb co36 (f_wire_Reader_Err_ok (⟨a0.b,a4,R⟩:T_wire_Reader) _ _ _ a g1 h7) (args1 Z)) Z ?_
 rintro _ l8 _ a3 ⟨_,⟨rfl,rfl⟩,rfl⟩
 refine WL.a1 (qu (Bv (!g1.isNil)) (errNotNil underlying31 Z) (Nt (Ch h Z (fun h8 h=> ?_) (fun h8 h=> ?_))))
 refine Sr (qu (.agg #[(Iv 0),(Iv 0),Zs]) (Bl (cl:=[(Iv 0),(Iv 0),Zs]) ze55 fp55 Pz Z) (Wb (We (Sg (v:=(.agg #[(Iv 0),(Iv 0),Zs])) (vl:=[(Iv 0),(Iv 0),Zs]) (arr':=[(Iv 0),(Iv 0),Zs]) Z sz55 s Z (onb Z) Z Z Z) Z ?_)))
 rintro _ _ _ - ⟨rfl,rfl⟩
 exact Nt (Cr (Tr (WQ.e0 (WQ.f3 (Dr (WQ.f3 (Dr (Qb (Qb (Rd h [[(t, .cells #[f,(Iv a4),(GV R)] 110 (0,0))],[]] (fun _ hs=>hs.drop) (resultsL1 Z (Rc (cs:=[(Iv 0),(Iv 0),Zs]) 0 ag55 sz55 s Z Z)) (((g6.trans Y).trans A).trans a3) ⟨Zs,[],Z,Z,(OwnS.nil _ _)⟩))))))))))
 refine Ck (Tc (Sr (qu (.agg #[(Iv c),(Iv d),g]) (La (cs:=[(Iv c),(Iv d),g]) 1 ag55 sz55 e4 Z Z) (Wb ?_))))
 have c2:=c2.mono (A.trans a3)
 refine We (Sg (v:=(.agg #[(Iv c),(Iv d),g])) (vl:=[(Iv c),(Iv d),g]) (arr':=[(Iv c),(Iv d),g]) Z sz55 s Z (onesOf (Oc Z (Oc Z (Oc (Ow c2) Oz)))) Z Z Z) Z ?_
 rintro _ _ _ - ⟨rfl,rfl⟩
 exact Nt (Cr (Qb (Dr (Rd h [[(t, .cells #[f,(Iv a4),(GV R)] 110 (0,0))],O] (fun _ hs=>hs.drop) (resultsL1 Z (Rc (cs:=[(Iv c),(Iv d),g]) 0 ag55 sz55 s Z Z)) (((g6.trans Y).trans A).trans a3) ⟨g,O,Z,Z,c2⟩))))
noncomputable def f_wire_Reader_End (a0:T_wire_Reader):Option (GErr×GErr):=
 (((if(decide (a0.at_<(a0.b.length:Int)))=true then((f_wire_Reader_fail a0 (⟨#[101,110,100]⟩:ByteArray) a0.at_ (5:Int)).bind fun c=>(some c))else(some a0.err)):Option GErr).bind fun a=>(some (a,a)))
def f_wire_Reader_End_post (a0:T_wire_Reader) (a:Value) (b:Nat):(GErr×GErr)→Value→IM→HL→Prop:=
 fun(p_:(GErr×GErr)) (v:Value) (M':IM) (H':HL)=>match p_ with |(c,d)=>(GV c)=v∧H'=[[(b, .cells #[a,(.int .i64 a0.at_),(GV d)] 110 (0,0))]]
theorem f_wire_Reader_End_ok (a0:T_wire_Reader) (M:IM) (a:Value) (c:Nat) (f:RS (Kd.int .u8) M a a0.b) (res:(GErr×GErr)) (h:f_wire_Reader_End a0=some res):
 Tri prog 38 #[(pt c 0)] M [[(c, .cells #[a,(Iv a0.at_),(GV a0.err)] 110 (0,0))]] (f_wire_Reader_End_post a0 a c res):=by
 unfold f_wire_Reader_End at h
 refine Te func38 Z Z ?_
 intro F ρ hρ
 refine Sr (qa (GV GErr.nil) (Nt ?_))
 obtain ⟨d,j,h⟩:=bnd h
 refine Jf (fun(d:GErr) ρ' M' H'=>M.le M'∧[(c, .cells #[a,(Iv a0.at_),(GV d)] 110 (0,0))]::F=H'∧ρ' 0=(pt c 0)) d ?_ ?_
 have h:=j
 refine Cs (WC.draw [0,1,3,7,0,16,48,112,240,511] (.pure 0 (.pure 1 (.pure 2 (.pure 3 (.pure 4 (.pure 5 (.pure 6 (.pure 7 (.pure 8 (.pure 9 .done)))))))))) mixed (by kernel_rfl) (qt (pt c 0) Z (Mv (hρ 0)) (qt (pt c 0) Z (Nk Z) (qt (pt c 1) Z (Fa fo110_1 Z Z) (qt (Iv a0.at_) Z (Lb 0 pl3 Z Z Z) (qt (pt c 0) Z (Mv (hρ 0)) (qt (pt c 0) Z (Nk Z) (qt (pt c 0) Z (Fa fo110_0 Z Z) (qt a Z (Lb 0 pl23 Z Z Z) (qt (Iv (a0.b.length:Int)) Z (lenS underlying23 Z f.len) (qt (Bv (decide (a0.at_<(a0.b.length:Int)))) Z (lss Z Z) ?_)))))))))))
 refine Ti (Tc (Ch h Z (fun k h=> ?_) (fun k h=> ?_)))
 refine Cg (qM (pt c 0) (hρ 0) (qM (pt c 0) (hρ 0) (qu (pt c 0) (Nk Z) (qu (pt c 1) (Fa fo110_1 Z Z) (qu (Iv a0.at_) (Lb 0 pl3 Z Z Z) ?_)))))
 obtain ⟨m,l,h⟩:=bnd h
 refine We (Cb co69 (f_wire_Reader_fail_ok a0 (⟨#[101,110,100]⟩:ByteArray) a0.at_ (5:Int) _ _ _ f m l) (args4 Z Z Z Z)) Z ?_
 rintro _ n _ g ⟨_,⟨rfl,rfl⟩,rfl⟩
 refine WL.a1 (Wz ?_)
 obtain rfl:=oi h
 exact Tj ⟨g,Z,(hρ 0)⟩
 refine Ck ?_
 obtain rfl:=oi h
 exact Tj ⟨lr,Z,(hρ 0)⟩
 rintro o p q ⟨i,rfl,e⟩
 exact Sr (qM (pt c 0) e (qu (pt c 0) (Nk Z) (qu (pt c 2) (Fa fo110_2 Z Z) (qu (GV d) (Lb 0 pl31 Z Z Z) (qa (GV d) (Nt (Cr (Rf h [[(c, .cells #[a,(Iv a0.at_),(GV d)] 110 (0,0))]] Z (Rs Z Z) i ⟨Z,Z⟩))))))))
noncomputable def f_rpc_Read_l0 (g:T_wire_Reader) (i:Int) (s_:(Int×Int×GErr×(List T_api_Batch))):Option ((Int×Int×GErr×(List T_api_Batch))⊕(Int×GErr×(List T_api_Batch))):=
 match s_ with
 |(e,a,c,d)=>
 (((if(decide (e<i))=true then((f_wire_Reader_Err (⟨g.b,a,c⟩:T_wire_Reader)).bind fun j=>(some j.isNil))else(some false)):Option Bool).bind fun k=>(if k=true then((f_batch_Next (⟨g.b,a,c⟩:T_wire_Reader)).bind fun(f,l,m)=>(grd (d.length+[f].length≤274877906944) (some (inl (i64.wrap (e+(1:Int)),l,m,d++[f])))))else(some (inr (a,c,d)))))
noncomputable def f_rpc_Read (a0:T_api_Frame):Option (T_api_Rpc×GErr):=
 (((if(decide (a0.Kind<(1:Int)))=true then(some true)else(some (decide ((8:Int)<a0.Kind)))):Option Bool).bind fun b4=>(if b4=true then((f_fault_New (⟨#[107,105,110,100]⟩:ByteArray) a0.Kind (5:Int)).bind fun b5=>(some (lit4_,b5)))else((f_wire_Read a0.Body).bind fun a=>((f_rpc_about a0.Kind).bind fun c=>((((f_wire_Reader_Int a (1073741824:Int)).bind fun(b6,b7,b8)=>((f_wire_Reader_Int (⟨a.b,b7,b8⟩:T_wire_Reader) (1073741824:Int)).bind fun(b9,c0,c1)=>((f_wire_Reader_Int (⟨a.b,c0,c1⟩:T_wire_Reader) (1073741824:Int)).bind fun(c2,c3,c4)=>(some (a0.Kind,b6,b9,c2,false,false,(0:Int),(0:Int),(0:Int),(0:Int),(0:Int),[],(0:Int),(0:Int),[],c3,c4))))):Option (Int×Int×Int×Int×Bool×Bool×Int×Int×Int×Int×Int×(List T_api_Batch)×Int×Int×(List Int)×Int×GErr)).bind fun(x,y,z,A,c5,c6,c9,d0,d1,d2,d3,B,d4,d5,c7,C,D)=>(((if(decide ((andI .i64 c (1:Int))≠(0:Int)))=true then((f_wire_Reader_Flag (⟨a.b,C,D⟩:T_wire_Reader)).bind fun(E,G,I)=>(some (G,I,E)))else(some (C,D,c5))):Option (Int×GErr×Bool)).bind fun(d,e,f)=>(((if(decide ((andI .i64 c (2:Int))≠(0:Int)))=true then((f_wire_Reader_Flag (⟨a.b,d,e⟩:T_wire_Reader)).bind fun(J,K,L)=>(some (K,L,J)))else(some (d,e,c6))):Option (Int×GErr×Bool)).bind fun(N,O,g)=>((f_rpc_Read_1 (4:Int) c (⟨a.b,N,O⟩:T_wire_Reader)).bind fun(i,P,Q)=>((f_rpc_Read_1 (8:Int) c (⟨a.b,P,Q⟩:T_wire_Reader)).bind fun(j,R,S)=>((f_rpc_Read_1 (8:Int) c (⟨a.b,R,S⟩:T_wire_Reader)).bind fun(k,T,U)=>((f_rpc_Read_1 (16:Int) c (⟨a.b,T,U⟩:T_wire_Reader)).bind fun(l,V,W)=>((f_rpc_Read_1 (32:Int) c (⟨a.b,V,W⟩:T_wire_Reader)).bind fun(m,X,Y)=>((f_rpc_Read_1 (128:Int) c (⟨a.b,X,Y⟩:T_wire_Reader)).bind fun(n,a1,a2)=>((f_rpc_Read_1 (256:Int) c (⟨a.b,a1,a2⟩:T_wire_Reader)).bind fun(o,p,q)=>(((if(decide (x=(8:Int)))=true then((f_wire_Reader_Text (⟨a.b,p,q⟩:T_wire_Reader) (512:Int)).bind fun(a3,a4,a5)=>(some (a3,a4,a5)))else(some (c7,p,q))):Option ((List Int)×Int×GErr)).bind fun(r,s,t)=>(((if(decide ((andI .i64 c (64:Int))≠(0:Int)))=true then((f_wire_Reader_Int (⟨a.b,s,t⟩:T_wire_Reader) (8:Int)).bind fun(a6,a7,a8)=>((iter (f_rpc_Read_l0 a a6) ((0:Int),a7,a8,B)).bind (fun(a9,b0,b1)=>(some (b1,a9,b0)))))else(some (B,s,t))):Option ((List T_api_Batch)×Int×GErr)).bind fun(u,b2,b3)=>((f_wire_Reader_End (⟨a.b,b2,b3⟩:T_wire_Reader)).bind fun(v,c8)=>(if(!v.isNil)=true then(some (lit4_,v))else((f_rpc_Check (⟨x,y,z,A,f,g,i,j,k,l,m,u,n,o,r⟩:T_api_Rpc)).bind fun w=>(if(!w.isNil)=true then(some (lit4_,w))else(some ((⟨x,y,z,A,f,g,i,j,k,l,m,u,n,o,r⟩:T_api_Rpc),GErr.nil))))))))))))))))))))))
def f_rpc_Read_post (a0:T_api_Frame) (f:Value):(T_api_Rpc×GErr)→Value→IM→HL→Prop:=
 fun(p_:(T_api_Rpc×GErr)) (v:Value) (M':IM) (H':HL)=>match p_ with |(a,g)=>∃ b c d e,(.tuple #[(.agg #[(.int .i64 a.Kind),(.int .i64 a.From),(.int .i64 a.To),(.int .i64 a.Term),(.bool a.Pre),(.bool a.Ok),(.int .i64 a.Leader),(.int .i64 a.At),(.int .i64 a.AtTerm),(.int .i64 a.High),(.int .i64 a.Code),b,(.int .i64 a.Size),(.int .i64 a.Pos),d]),(GV g)])=v∧H'=[c,e]∧OwnS kd_api_Batch M' b a.Batches c∧OwnS (Kd.int .u8) M' d a.Data e
theorem f_rpc_Read_ok (a0:T_api_Frame) (M:IM) (G:Value) (j2:RS (Kd.int .u8) M G a0.Body) (hE:Env M) (res:(T_api_Rpc×GErr)) (h:f_rpc_Read a0=some res):
 Tri prog 11 #[(.agg #[(Iv a0.Kind),G])] M [] (f_rpc_Read_post a0 G res):=by
 unfold f_rpc_Read at h
 refine Te func11 Z Z ?_
 intro F ρ hρ
 refine Sr (We (box (cs:=#[(Iv a0.Kind),G]) (congrArg Value.cells (asE (.agg #[(Iv a0.Kind),G]) (hρ 0)))) Z ?_)
 rintro _ _ _ - ⟨rfl,U,rfl,rfl⟩
 refine We (Al ze25 Z) Z ?_
 rintro _ _ _ - ⟨rfl,S,rfl,rfl⟩
 refine qa (GV GErr.nil) (Nt (Cs ?_))
 obtain ⟨q1,v0,h⟩:=bnd h
 refine Jf (fun(q1:Bool) ρ' M' H'=>M.le M'∧[(S, .cells z25_.toArray 25 (0,0))]::[(U, .cells #[(Iv a0.Kind),G] 29 (0,0))]::F=H'∧ρ' 1=(pt U 0)∧ρ' 2=(pt S 0)∧ρ' 19=(Bv q1)) q1 ?_ ?_
 have h:=v0
 refine Cg (qu (pt U 0) (Fa fo29_0 Z Z) (qu (Iv a0.Kind) (Lb 1 pl3 Z Z Z) (qu (Bv (decide (a0.Kind<1))) (lss Z Z) (qm (Bv (decide (a0.Kind<1))) ?_))))
 rcases Bi h with⟨b6,h⟩ |⟨b6,h⟩
 iterate 3 refine Of 15 Z Z b6 Z ?_
 refine qu (Bv true) (Pt Z b6 Z) (Wz ?_)
 obtain rfl:=oi h
 exact Tj ⟨lr,Z,Z,Z,Z⟩
 refine qo 15 b6 (pt U 0) (Fa fo29_0 Z Z) (qo 15 b6 (Iv a0.Kind) (Lb 1 pl3 Z Z Z) (qo 15 b6 (Bv (decide ((8:Int)<a0.Kind))) (gtr Z Z) (qu (Bv (decide ((8:Int)<a0.Kind))) (Pf Z b6 Z) (Wz ?_))))
 obtain rfl:=oi h
 exact Tj ⟨lr,Z,Z,Z,Z⟩
 rintro F0 F1 F2 ⟨h8,rfl,c,Q,j3⟩
 refine Ch h j3 (fun v1 h=> ?_) (fun v1 h=> ?_)
 refine Sr (qu (.agg z25_.toArray) (Bl (cl:=z25_) ze25 fp25 Pz Z) (qu (pt U 0) (Fa fo29_0 c Z) (qu (Iv a0.Kind) (Lb 1 pl3 Z Z Z) ?_)))
 obtain ⟨v2,v3,h⟩:=bnd h
 refine We (Ca co30 (f_fault_New_ok ⟨#[107,105,110,100]⟩ a0.Kind (5:Int) _ v2 v3) (args3 Z Z Z)) Z ?_
 rintro _ F3 _ q2 ⟨_,⟨rfl,rfl⟩,rfl⟩
 refine WL.a0 (We (Sg (v:=(.agg z25_.toArray)) (vl:=z25_) (arr':=z25_) Z sz25 Q Z (onb Z) Z Z (by kernel_rfl)) Z ?_)
 rintro _ _ _ - ⟨rfl,rfl⟩
 exact qa (GV v2) (Nt (Cr (Tr (WQ.e0 (WQ.e0 (WQ.f3 (Dr (Qa (Qb (Rd h [[],[]] (fun _ hs=>hs.drop) (resultsLN Z (RVs.cons (Rc (cs:=z25_) 0 ag25 sz25 Q Z Z) (RVs.cons (RV.tmp Z) RVs.nil))) (h8.trans q2) ⟨Zs,[],Zs,[],Z,Z,(OwnS.nil _ _),(OwnS.nil _ _)⟩))))))))))
 refine Ck (Tc (Sr (qu (pt U 1) (Fa fo29_1 c Z) (qu G (Lb 1 pl23 Z Z Z) ?_))))
 obtain ⟨C,v4,h⟩:=bnd h
 have j2:=j2.mono h8
 refine We (Ca co31 (f_wire_Read_ok a0.Body _ _ j2 C v4) (args1 Z)) Z ?_
 rintro _ F4 _ q3 ⟨_,⟨z,L,rfl,rfl,a⟩,rfl⟩
 refine WL.a1 (We (Al ze69 Z) Z ?_)
 rintro _ _ _ - ⟨rfl,k,rfl,rfl⟩
 refine We (Es (pt z 0) [(pt z 0)] Z sz69 Z Z Z Z Z Z) Z ?_
 rintro _ _ _ - ⟨rfl,rfl⟩
 refine Ns (qu (pt U 0) (Fa fo29_0 c Z) (qu (Iv a0.Kind) (Lb 3 pl3 Z Z Z) ?_))
 obtain ⟨A,v5,h⟩:=bnd h
 refine We (Ca co23 (f_rpc_about_ok a0.Kind _ A v5) (args1 Z)) Z ?_
 rintro _ A3 _ b7 ⟨_,⟨rfl,rfl⟩,rfl⟩
 have A4:=(h8.trans q3).trans b7
 refine WL.a0 (We (Al ze3 Z) Z ?_)
 rintro _ _ _ - ⟨rfl,o,rfl,rfl⟩
 refine We (Es (Iv A) [(Iv A)] Z sz3 Z Z Z Z Z Z) Z ?_
 rintro _ _ _ - ⟨rfl,rfl⟩
 refine Nt ?_
 obtain ⟨v6,v7,h⟩:=bnd h
 refine Jf (fun(p_:(Int×Int×Int×Int×Bool×Bool×Int×Int×Int×Int×Int×(List T_api_Batch)×Int×Int×(List Int)×Int×GErr)) ρ' M' H'=>match p_ with |(p,r,s,t,v8,l9,j0,h9,g6,e4,d6,v9,b8,b1,w0,q4,q5)=>∃ u w b0 D d7,A3.le M'∧[(o, .cells #[(Iv A)] 3 (0,0))]::[(k, .cells #[(pt z 0)] 69 (0,0))]::[(z, .cells #[L,(Iv q4),(GV q5)] 110 (0,0))]::[(S, .cells z25_.toArray 25 (0,0))]::[(U, .cells #[(Iv a0.Kind),G] 29 (0,0))]::[(u, .cells #[(Iv p),(Iv r),(Iv s),(Iv t),(Bv v8),(Bv l9),(Iv j0),(Iv h9),(Iv g6),(Iv e4),(Iv d6),w,(Iv b8),(Iv b1),D] 25 (0,0))]::b0::d7::F=H'∧ρ' 2=(pt S 0)∧ρ' 4=(pt k 0)∧ρ' 5=(pt o 0)∧ρ' 6=(pt u 0)∧OwnS kd_api_Batch M' w v9 b0∧OwnS (Kd.int .u8) M' D w0 d7) v6 ?_ ?_
 have h:=v7
 refine WC.draw [0,1,0,4,0,28,0,124,255,0,1023] (.pure 0 (.pure 1 (.pure 2 (.pure 4 (.pure 6 (.alt 3 (.alt 5 (.alt 7 (.pure 8 (.alt 9 (.alt 10 .done .none) .none)) (.alt 9 (.alt 7 (.pure 8 (.alt 10 .done .none)) .none) .none)) (.alt 9 (.alt 5 (.alt 7 (.pure 8 (.alt 10 .done .none)) .none) .none) .none)) (.alt 9 (.alt 3 (.alt 5 (.alt 7 (.pure 8 (.alt 10 .done .none)) .none) .none) .none) .none))))))) mixed (by kernel_rfl) (qt (pt U 0) Z (Fa fo29_0 c Z) (qt (Iv a0.Kind) Z (Lb 4 pl3 Z Z Z) (qt (pt z 0) Z (Lb 1 pl69 Z Z Z) (qt (pt z 0) Z (Lb 1 pl69 Z Z Z) (qt (pt z 0) Z (Lb 1 pl69 Z Z Z) ?_)))))
 have w1:=h
 obtain ⟨⟨I,q6,q7⟩,w2,h⟩:=bnd h
 refine WT.f2 ?_
 have a:=a.mono b7
 refine Ta Z (Cb co32 (f_wire_Reader_Int_ok C (1073741824:Int) _ _ _ a (I,q6,q7) w2) (args2 Z Z)) Z ?_ ?_
 rintro _ F5 _ e5 ⟨_,⟨rfl,rfl⟩,rfl⟩
 refine⟨(Ss Z (Lb 2 pl69 Z Z Z) Z (Ss Z (Lb 2 pl69 Z Z Z) Z (Sk 1 Z (Ss Z (Lb 4 pl3 Z Z Z) Z (Ss Z (Fa fo29_0 c Z) Z trivial))))), ?_⟩
 refine WT.a1 ?_
 have w3:=h
 obtain ⟨⟨V,q8,q9⟩,w4,h⟩:=bnd h
 have a:=a.mono e5
 refine Ta Z (Cb co32 (f_wire_Reader_Int_ok (⟨C.b,q6,q7⟩:T_wire_Reader) (1073741824:Int) _ _ _ a (V,q8,q9) w4) (args2 Z Z)) Z ?_ ?_
 rintro _ F6 _ i0 ⟨_,⟨rfl,rfl⟩,rfl⟩
 refine⟨(Ss Z (Lb 2 pl69 Z Z Z) Z (Sk 2 Z (Ss Z (Lb 4 pl3 Z Z Z) Z (Ss Z (Fa fo29_0 c Z) Z trivial)))), ?_⟩
 refine WT.a1 ?_
 have w5:=h
 obtain ⟨⟨e6,A5,A6⟩,w6,h⟩:=bnd h
 have a:=a.mono i0
 refine Ta Z (Cb co32 (f_wire_Reader_Int_ok (⟨C.b,q8,q9⟩:T_wire_Reader) (1073741824:Int) _ _ _ a (e6,A5,A6) w6) (args2 Z Z)) Z ?_ ?_
 rintro _ F7 _ r0 ⟨_,⟨rfl,rfl⟩,rfl⟩
 refine⟨(Sk 3 Z (Ss Z (Lb 4 pl3 Z Z Z) Z (Ss Z (Fa fo29_0 c Z) Z trivial))), ?_⟩
 refine WT.a1 (qt (.agg #[(Iv a0.Kind),(Iv I),(Iv V),(Iv e6),(Bv false),(Bv false),(Iv 0),(Iv 0),(Iv 0),(Iv 0),(Iv 0),Zs,(Iv 0),(Iv 0),Zs]) Z (Bl (cl:=[(Iv a0.Kind),(Iv I),(Iv V),(Iv e6),(Bv false),(Bv false),(Iv 0),(Iv 0),(Iv 0),(Iv 0),(Iv 0),Zs,(Iv 0),(Iv 0),Zs]) ze25 fp25 (Pc (Iv a0.Kind) Z Z (Pc (Iv I) Z Z (Pc (Iv V) Z Z (Pc (Iv e6) Z Z Pz)))) Z) (Ta Z (Al ze25 Z) Z ?_ ?_))
 rintro _ _ _ - ⟨rfl,A7,rfl,rfl⟩
 refine⟨(Ss Z (Bl (cl:=[(Iv a0.Kind),(Iv I),(Iv V),(Iv e6),(Bv false),(Bv false),(Iv 0),(Iv 0),(Iv 0),(Iv 0),(Iv 0),Zs,(Iv 0),(Iv 0),Zs]) ze25 fp25 (Pc (Iv a0.Kind) Z Z (Pc (Iv I) Z Z (Pc (Iv V) Z Z (Pc (Iv e6) Z Z Pz)))) Z) Z (Ss Z (Lb 3 pl69 Z Z Z) Z (Ss Z (Lb 3 pl69 Z Z Z) Z (Ss Z (Lb 3 pl69 Z Z Z) Z (Ss Z (Lb 5 pl3 Z Z Z) Z (Ss Z (Fa fo29_0 c Z) Z trivial)))))), ?_⟩
 refine Ta Z (Sg (v:=(.agg #[(Iv a0.Kind),(Iv I),(Iv V),(Iv e6),(Bv false),(Bv false),(Iv 0),(Iv 0),(Iv 0),(Iv 0),(Iv 0),Zs,(Iv 0),(Iv 0),Zs])) (vl:=[(Iv a0.Kind),(Iv I),(Iv V),(Iv e6),(Bv false),(Bv false),(Iv 0),(Iv 0),(Iv 0),(Iv 0),(Iv 0),Zs,(Iv 0),(Iv 0),Zs]) (arr':=[(Iv a0.Kind),(Iv I),(Iv V),(Iv e6),(Bv false),(Bv false),(Iv 0),(Iv 0),(Iv 0),(Iv 0),(Iv 0),Zs,(Iv 0),(Iv 0),Zs]) Z sz25 Z Z (onb Z) Z Z (by kernel_rfl)) Z ?_ ?_
 rintro _ _ _ - ⟨rfl,rfl⟩
 refine⟨(Sl Z), ?_⟩
 refine Ti (WQ.e0 (WQ.e0 (Qa (Qb (WQ.f7 (WQ.f7 (WQ.f5 (WQ.f7 (WQ.f7 ?_)))))))))
 obtain rfl:=oi h
 exact Tj ⟨A7,Zs,[],Zs,[],((e5.trans i0).trans r0),Z,Q,Z,Z,Z,(OwnS.nil _ _),(OwnS.nil _ _)⟩
 exact Tz
 exact Tz
 have h:=w5
 refine Ta Z (Al ze25 Z) Z ?_ ?_
 rintro _ _ _ - ⟨rfl,A8,rfl,rfl⟩
 refine⟨(Ss Z (Lb 3 pl69 Z Z Z) Z (Ss Z (Lb 3 pl69 Z Z Z) Z (Ss Z (Lb 3 pl69 Z Z Z) Z (Ss Z (Lb 5 pl3 Z Z Z) Z (Ss Z (Fa fo29_0 c Z) Z trivial))))), ?_⟩
 obtain ⟨⟨i1,A9,B0⟩,w7,h⟩:=bnd h
 refine WT.f1 (Ta Z (Cb co32 (f_wire_Reader_Int_ok (⟨C.b,q8,q9⟩:T_wire_Reader) (1073741824:Int) _ _ _ a (i1,A9,B0) w7) (args2 Z Z)) Z ?_ ?_)
 rintro _ F8 _ r1 ⟨_,⟨rfl,rfl⟩,rfl⟩
 refine⟨(Sk 3 Z (Ss Z (Lb 5 pl3 Z Z Z) Z (Ss Z (Fa fo29_0 c Z) Z trivial))), ?_⟩
 refine WT.a1 (qt (.agg #[(Iv a0.Kind),(Iv I),(Iv V),(Iv i1),(Bv false),(Bv false),(Iv 0),(Iv 0),(Iv 0),(Iv 0),(Iv 0),Zs,(Iv 0),(Iv 0),Zs]) Z (Bl (cl:=[(Iv a0.Kind),(Iv I),(Iv V),(Iv i1),(Bv false),(Bv false),(Iv 0),(Iv 0),(Iv 0),(Iv 0),(Iv 0),Zs,(Iv 0),(Iv 0),Zs]) ze25 fp25 (Pc (Iv a0.Kind) Z Z (Pc (Iv I) Z Z (Pc (Iv V) Z Z (Pc (Iv i1) Z Z Pz)))) Z) (WT.f1 (Ta Z (Sg (v:=(.agg #[(Iv a0.Kind),(Iv I),(Iv V),(Iv i1),(Bv false),(Bv false),(Iv 0),(Iv 0),(Iv 0),(Iv 0),(Iv 0),Zs,(Iv 0),(Iv 0),Zs])) (vl:=[(Iv a0.Kind),(Iv I),(Iv V),(Iv i1),(Bv false),(Bv false),(Iv 0),(Iv 0),(Iv 0),(Iv 0),(Iv 0),Zs,(Iv 0),(Iv 0),Zs]) (arr':=[(Iv a0.Kind),(Iv I),(Iv V),(Iv i1),(Bv false),(Bv false),(Iv 0),(Iv 0),(Iv 0),(Iv 0),(Iv 0),Zs,(Iv 0),(Iv 0),Zs]) Z sz25 Z Z (onb Z) Z Z (by kernel_rfl)) Z ?_ ?_)))
 rintro _ _ _ - ⟨rfl,rfl⟩
 refine⟨(Sl Z), ?_⟩
 refine Ti (WQ.e0 (WQ.e0 (Qa (Qb (WQ.f7 (WQ.f7 (WQ.f5 (WQ.f7 (WQ.f7 ?_)))))))))
 obtain rfl:=oi h
 exact Tj ⟨A8,Zs,[],Zs,[],((e5.trans i0).trans r1),Z,Q,Z,Z,Z,(OwnS.nil _ _),(OwnS.nil _ _)⟩
 exact Tz
 exact Tz
 exact Tz
 have h:=w3
 refine Ta Z (Al ze25 Z) Z ?_ ?_
 rintro _ _ _ - ⟨rfl,w8,rfl,rfl⟩
 refine⟨(Ss Z (Lb 3 pl69 Z Z Z) Z (Ss Z (Lb 3 pl69 Z Z Z) Z (Ss Z (Lb 3 pl69 Z Z Z) Z (Ss Z (Lb 5 pl3 Z Z Z) Z (Ss Z (Fa fo29_0 c Z) Z trivial))))), ?_⟩
 obtain ⟨⟨b9,n3,n4⟩,r2,h⟩:=bnd h
 refine WT.f1 (Ta Z (Cb co32 (f_wire_Reader_Int_ok (⟨C.b,q6,q7⟩:T_wire_Reader) (1073741824:Int) _ _ _ a (b9,n3,n4) r2) (args2 Z Z)) Z ?_ ?_)
 rintro _ B7 _ i4 ⟨_,⟨rfl,rfl⟩,rfl⟩
 refine⟨(Ss Z (Lb 3 pl69 Z Z Z) Z (Sk 2 Z (Ss Z (Lb 5 pl3 Z Z Z) Z (Ss Z (Fa fo29_0 c Z) Z trivial)))), ?_⟩
 refine WT.a1 ?_
 obtain ⟨⟨c0,w9,x0⟩,r3,h⟩:=bnd h
 have a:=a.mono i4
 refine Ta Z (Cb co32 (f_wire_Reader_Int_ok (⟨C.b,n3,n4⟩:T_wire_Reader) (1073741824:Int) _ _ _ a (c0,w9,x0) r3) (args2 Z Z)) Z ?_ ?_
 rintro _ B8 _ m0 ⟨_,⟨rfl,rfl⟩,rfl⟩
 refine⟨(Sk 3 Z (Ss Z (Lb 5 pl3 Z Z Z) Z (Ss Z (Fa fo29_0 c Z) Z trivial))), ?_⟩
 refine WT.a1 (qt (.agg #[(Iv a0.Kind),(Iv I),(Iv b9),(Iv c0),(Bv false),(Bv false),(Iv 0),(Iv 0),(Iv 0),(Iv 0),(Iv 0),Zs,(Iv 0),(Iv 0),Zs]) Z (Bl (cl:=[(Iv a0.Kind),(Iv I),(Iv b9),(Iv c0),(Bv false),(Bv false),(Iv 0),(Iv 0),(Iv 0),(Iv 0),(Iv 0),Zs,(Iv 0),(Iv 0),Zs]) ze25 fp25 (Pc (Iv a0.Kind) Z Z (Pc (Iv I) Z Z (Pc (Iv b9) Z Z (Pc (Iv c0) Z Z Pz)))) Z) (WT.f1 (Ta Z (Sg (v:=(.agg #[(Iv a0.Kind),(Iv I),(Iv b9),(Iv c0),(Bv false),(Bv false),(Iv 0),(Iv 0),(Iv 0),(Iv 0),(Iv 0),Zs,(Iv 0),(Iv 0),Zs])) (vl:=[(Iv a0.Kind),(Iv I),(Iv b9),(Iv c0),(Bv false),(Bv false),(Iv 0),(Iv 0),(Iv 0),(Iv 0),(Iv 0),Zs,(Iv 0),(Iv 0),Zs]) (arr':=[(Iv a0.Kind),(Iv I),(Iv b9),(Iv c0),(Bv false),(Bv false),(Iv 0),(Iv 0),(Iv 0),(Iv 0),(Iv 0),Zs,(Iv 0),(Iv 0),Zs]) Z sz25 Z Z (onb Z) Z Z (by kernel_rfl)) Z ?_ ?_)))
 rintro _ _ _ - ⟨rfl,rfl⟩
 refine⟨(Sl Z), ?_⟩
 refine Ti (WQ.e0 (WQ.e0 (Qa (Qb (WQ.f7 (WQ.f7 (WQ.f5 (WQ.f7 (WQ.f7 ?_)))))))))
 obtain rfl:=oi h
 exact Tj ⟨w8,Zs,[],Zs,[],((e5.trans i4).trans m0),Z,Q,Z,Z,Z,(OwnS.nil _ _),(OwnS.nil _ _)⟩
 exact Tz
 exact Tz
 exact Tz
 exact Tz
 have h:=w1
 refine Ta Z (Al ze25 Z) Z ?_ ?_
 rintro _ _ _ - ⟨rfl,x1,rfl,rfl⟩
 refine⟨(Ss Z (Lb 3 pl69 Z Z Z) Z (Ss Z (Lb 3 pl69 Z Z Z) Z (Ss Z (Lb 3 pl69 Z Z Z) Z (Ss Z (Lb 5 pl3 Z Z Z) Z (Ss Z (Fa fo29_0 c Z) Z trivial))))), ?_⟩
 obtain ⟨⟨c1,n5,n6⟩,r4,h⟩:=bnd h
 refine WT.f1 (Ta Z (Cb co32 (f_wire_Reader_Int_ok C (1073741824:Int) _ _ _ a (c1,n5,n6) r4) (args2 Z Z)) Z ?_ ?_)
 rintro _ B9 _ i5 ⟨_,⟨rfl,rfl⟩,rfl⟩
 refine⟨(Ss Z (Lb 3 pl69 Z Z Z) Z (Ss Z (Lb 3 pl69 Z Z Z) Z (Sk 1 Z (Ss Z (Lb 5 pl3 Z Z Z) Z (Ss Z (Fa fo29_0 c Z) Z trivial))))), ?_⟩
 refine WT.a1 ?_
 obtain ⟨⟨c2,n7,n8⟩,r5,h⟩:=bnd h
 have a:=a.mono i5
 refine Ta Z (Cb co32 (f_wire_Reader_Int_ok (⟨C.b,n5,n6⟩:T_wire_Reader) (1073741824:Int) _ _ _ a (c2,n7,n8) r5) (args2 Z Z)) Z ?_ ?_
 rintro _ C0 _ i6 ⟨_,⟨rfl,rfl⟩,rfl⟩
 refine⟨(Ss Z (Lb 3 pl69 Z Z Z) Z (Sk 2 Z (Ss Z (Lb 5 pl3 Z Z Z) Z (Ss Z (Fa fo29_0 c Z) Z trivial)))), ?_⟩
 refine WT.a1 ?_
 obtain ⟨⟨c3,x2,x3⟩,r6,h⟩:=bnd h
 have a:=a.mono i6
 refine Ta Z (Cb co32 (f_wire_Reader_Int_ok (⟨C.b,n7,n8⟩:T_wire_Reader) (1073741824:Int) _ _ _ a (c3,x2,x3) r6) (args2 Z Z)) Z ?_ ?_
 rintro _ C1 _ m1 ⟨_,⟨rfl,rfl⟩,rfl⟩
 refine⟨(Sk 3 Z (Ss Z (Lb 5 pl3 Z Z Z) Z (Ss Z (Fa fo29_0 c Z) Z trivial))), ?_⟩
 refine WT.a1 (qt (.agg #[(Iv a0.Kind),(Iv c1),(Iv c2),(Iv c3),(Bv false),(Bv false),(Iv 0),(Iv 0),(Iv 0),(Iv 0),(Iv 0),Zs,(Iv 0),(Iv 0),Zs]) Z (Bl (cl:=[(Iv a0.Kind),(Iv c1),(Iv c2),(Iv c3),(Bv false),(Bv false),(Iv 0),(Iv 0),(Iv 0),(Iv 0),(Iv 0),Zs,(Iv 0),(Iv 0),Zs]) ze25 fp25 (Pc (Iv a0.Kind) Z Z (Pc (Iv c1) Z Z (Pc (Iv c2) Z Z (Pc (Iv c3) Z Z Pz)))) Z) (WT.f1 (Ta Z (Sg (v:=(.agg #[(Iv a0.Kind),(Iv c1),(Iv c2),(Iv c3),(Bv false),(Bv false),(Iv 0),(Iv 0),(Iv 0),(Iv 0),(Iv 0),Zs,(Iv 0),(Iv 0),Zs])) (vl:=[(Iv a0.Kind),(Iv c1),(Iv c2),(Iv c3),(Bv false),(Bv false),(Iv 0),(Iv 0),(Iv 0),(Iv 0),(Iv 0),Zs,(Iv 0),(Iv 0),Zs]) (arr':=[(Iv a0.Kind),(Iv c1),(Iv c2),(Iv c3),(Bv false),(Bv false),(Iv 0),(Iv 0),(Iv 0),(Iv 0),(Iv 0),Zs,(Iv 0),(Iv 0),Zs]) Z sz25 Z Z (onb Z) Z Z (by kernel_rfl)) Z ?_ ?_)))
 rintro _ _ _ - ⟨rfl,rfl⟩
 refine⟨(Sl Z), ?_⟩
 refine Ti (WQ.e0 (WQ.e0 (Qa (Qb (WQ.f7 (WQ.f7 (WQ.f5 (WQ.f7 (WQ.f7 ?_)))))))))
 obtain rfl:=oi h
 exact Tj ⟨x1,Zs,[],Zs,[],((i5.trans i6).trans m1),Z,Q,Z,Z,Z,(OwnS.nil _ _),(OwnS.nil _ _)⟩
 exact Tz
 exact Tz
 exact Tz
 exact Tz
 exact Tz
 obtain ⟨p,r,s,t,v8,l9,j0,h9,g6,e4,d6,v9,b8,b1,w0,q4,q5⟩:=v6
 rintro F9 B1 G0 ⟨u,w,b0,D,d7,e7,rfl,i7,b2,b3,e8,d8,j4⟩
 have B2:=A4.trans e7
 refine Sr (qu (.func (.func 33) #[] #[(pt o 0),(pt k 0)]) (makeFunc2 (args0) (args2 (asE (Value.pointer (some ⟨o,0,none⟩)) b3) (asE (Value.pointer (some ⟨k,0,none⟩)) b2))) (qa (.func (.func 33) #[] #[(pt o 0),(pt k 0)]) (Nt ?_)))
 obtain ⟨n9,r7,h⟩:=bnd h
 refine Jf (fun(p_:(Int×GErr×Bool)) ρ' M' H'=>match p_ with |(j5,j6,d)=>B1.le M'∧[(o, .cells #[(Iv A)] 3 (0,0))]::[(k, .cells #[(pt z 0)] 69 (0,0))]::[(z, .cells #[L,(Iv j5),(GV j6)] 110 (0,0))]::[(S, .cells z25_.toArray 25 (0,0))]::[(U, .cells #[(Iv a0.Kind),G] 29 (0,0))]::[(u, .cells #[(Iv p),(Iv r),(Iv s),(Iv t),(Bv d),(Bv l9),(Iv j0),(Iv h9),(Iv g6),(Iv e4),(Iv d6),w,(Iv b8),(Iv b1),D] 25 (0,0))]::b0::d7::F=H'∧ρ' 2=(pt S 0)∧ρ' 4=(pt k 0)∧ρ' 5=(pt o 0)∧ρ' 6=(pt u 0)∧ρ' 7=(.func (.func 33) #[] #[(pt o 0),(pt k 0)])) n9 ?_ ?_
 have h:=r7
 refine Sr (qu (Iv A) (Lb 0 pl3 b3 Z Z) (qu (Iv (andI .i64 A (1:Int))) (PO.and Z Z) (qu (Bv (decide ((andI .i64 A (1:Int))≠0))) (neq Z Z) (Nt (Ch h Z (fun r8 h=> ?_) (fun r8 h=> ?_))))))
 refine Cg (qu (pt z 0) (Lb 1 pl69 b2 Z Z) ?_)
 obtain ⟨⟨j7,x4,x5⟩,r9,h⟩:=bnd h
 refine Wb ?_
 have a:=a.mono (b7.trans e7)
 refine We (Cb co34 (f_wire_Reader_Flag_ok (⟨C.b,q4,q5⟩:T_wire_Reader) _ _ _ a (j7,x4,x5) r9) (args1 Z)) Z ?_
 rintro _ C2 _ m2 ⟨_,⟨rfl,rfl⟩,rfl⟩
 refine WL.a1 (qu (pt u 4) (Fa fo25_4 e8 Z) (WL.f5 (We (Es (Bv j7) [(Iv p),(Iv r),(Iv s),(Iv t),(Bv j7),(Bv l9),(Iv j0),(Iv h9),(Iv g6),(Iv e4),(Iv d6),w,(Iv b8),(Iv b1),D] Z sz4 Z Z Z Z Z (by kernel_rfl)) Z ?_)))
 rintro _ _ _ - ⟨rfl,rfl⟩
 refine Wz (WQ.f7 (WQ.f7 (Qb (WQ.f7 (WQ.f7 (WQ.f5 (WQ.f7 (WQ.f7 ?_))))))))
 obtain rfl:=oi h
 exact Tj ⟨m2,Z,i7,b2,b3,e8,Z⟩
 refine Ck ?_
 obtain rfl:=oi h
 exact Tj ⟨lr,Z,i7,b2,b3,e8,Z⟩
 obtain ⟨j5,j6,d⟩:=n9
 rintro C3 x6 C4 ⟨b4,rfl,g7,c4,c5,c6,g8⟩
 have x7:=B2.trans b4
 obtain ⟨o0,s0,h⟩:=bnd h
 refine Jf (fun(p_:(Int×GErr×Bool)) ρ' M' H'=>match p_ with |(j8,j9,e)=>x6.le M'∧[(o, .cells #[(Iv A)] 3 (0,0))]::[(k, .cells #[(pt z 0)] 69 (0,0))]::[(z, .cells #[L,(Iv j8),(GV j9)] 110 (0,0))]::[(S, .cells z25_.toArray 25 (0,0))]::[(U, .cells #[(Iv a0.Kind),G] 29 (0,0))]::[(u, .cells #[(Iv p),(Iv r),(Iv s),(Iv t),(Bv d),(Bv e),(Iv j0),(Iv h9),(Iv g6),(Iv e4),(Iv d6),w,(Iv b8),(Iv b1),D] 25 (0,0))]::b0::d7::F=H'∧ρ' 2=(pt S 0)∧ρ' 4=(pt k 0)∧ρ' 5=(pt o 0)∧ρ' 6=(pt u 0)∧ρ' 7=(.func (.func 33) #[] #[(pt o 0),(pt k 0)])) o0 ?_ ?_
 have h:=s0
 refine Sr (qu (Iv A) (Lb 0 pl3 c5 Z Z) (qu (Iv (andI .i64 A (2:Int))) (PO.and Z Z) (qu (Bv (decide ((andI .i64 A (2:Int))≠0))) (neq Z Z) (Nt (Ch h Z (fun s1 h=> ?_) (fun s1 h=> ?_))))))
 refine Cg (qu (pt z 0) (Lb 1 pl69 c4 Z Z) ?_)
 obtain ⟨⟨k0,x8,x9⟩,s2,h⟩:=bnd h
 refine Wb ?_
 have a:=a.mono ((b7.trans e7).trans b4)
 refine We (Cb co34 (f_wire_Reader_Flag_ok (⟨C.b,j5,j6⟩:T_wire_Reader) _ _ _ a (k0,x8,x9) s2) (args1 Z)) Z ?_
 rintro _ C5 _ m3 ⟨_,⟨rfl,rfl⟩,rfl⟩
 refine WL.a1 (qu (pt u 5) (Fa fo25_5 c6 Z) (WL.f5 (We (Es (Bv k0) [(Iv p),(Iv r),(Iv s),(Iv t),(Bv d),(Bv k0),(Iv j0),(Iv h9),(Iv g6),(Iv e4),(Iv d6),w,(Iv b8),(Iv b1),D] Z sz4 Z Z Z Z Z (by kernel_rfl)) Z ?_)))
 rintro _ _ _ - ⟨rfl,rfl⟩
 refine Wz (WQ.f7 (WQ.f7 (Qb (WQ.f7 (WQ.f7 (WQ.f5 (WQ.f7 (WQ.f7 ?_))))))))
 obtain rfl:=oi h
 exact Tj ⟨m3,Z,g7,c4,c5,c6,g8⟩
 refine Ck ?_
 obtain rfl:=oi h
 exact Tj ⟨lr,Z,g7,c4,c5,c6,g8⟩
 obtain ⟨j8,j9,e⟩:=o0
 rintro C6 C7 C8 ⟨e9,rfl,g9,c7,h0,g,E⟩
 have y0:=x7.trans e9
 refine Sr (qM (.func (.func 33) #[] #[(pt o 0),(pt k 0)]) E ?_)
 obtain ⟨⟨f,o1,o2⟩,s3,h⟩:=bnd h
 refine WL.f1 (Wb (Wb ?_))
 have a:=a.mono (((b7.trans e7).trans b4).trans e9)
 refine We (callV3 (first:=#[]) (cap:=#[(pt o 0),(pt k 0)]) co33 Z (f_rpc_Read_1_ok (4:Int) A (⟨C.b,j8,j9⟩:T_wire_Reader) _ _ _ _ _ a (f,o1,o2) s3) (argsV1 Z Z)) Z ?_
 rintro _ C9 _ f0 ⟨_,⟨rfl,rfl⟩,rfl⟩
 have y1:=y0.trans f0
 refine WL.a3 (qM (.func (.func 33) #[] #[(pt o 0),(pt k 0)]) E ?_)
 obtain ⟨⟨i,o3,o4⟩,s4,h⟩:=bnd h
 refine Wb (Wb (Wb ?_))
 have a:=a.mono f0
 refine We (callV3 (first:=#[]) (cap:=#[(pt o 0),(pt k 0)]) co33 Z (f_rpc_Read_1_ok (8:Int) A (⟨C.b,o1,o2⟩:T_wire_Reader) _ _ _ _ _ a (i,o3,o4) s4) (argsV1 Z Z)) Z ?_
 rintro _ D0 _ f9 ⟨_,⟨rfl,rfl⟩,rfl⟩
 have y2:=((b4.trans e9).trans f0).trans f9
 have m4:=y1.trans f9
 refine WL.a3 (qM (.func (.func 33) #[] #[(pt o 0),(pt k 0)]) E ?_)
 obtain ⟨⟨j,o5,o6⟩,s5,h⟩:=bnd h
 refine Wb (Wb (Wb ?_))
 have a:=a.mono f9
 refine We (callV3 (first:=#[]) (cap:=#[(pt o 0),(pt k 0)]) co33 Z (f_rpc_Read_1_ok (8:Int) A (⟨C.b,o3,o4⟩:T_wire_Reader) _ _ _ _ _ a (j,o5,o6) s5) (argsV1 Z Z)) Z ?_
 rintro _ D1 _ g0 ⟨_,⟨rfl,rfl⟩,rfl⟩
 have y3:=y2.trans g0
 have m5:=m4.trans g0
 refine WL.a3 (qu (pt u 6) (Fa fo25_6 g Z) (WL.f5 (We (Es (Iv f) [(Iv p),(Iv r),(Iv s),(Iv t),(Bv d),(Bv e),(Iv f),(Iv h9),(Iv g6),(Iv e4),(Iv d6),w,(Iv b8),(Iv b1),D] Z sz3 Z Z Z Z Z (by kernel_rfl)) Z ?_)))
 rintro _ _ _ - ⟨rfl,rfl⟩
 refine qu (pt u 7) (Fa fo25_7 g Z) (We (Es (Iv i) [(Iv p),(Iv r),(Iv s),(Iv t),(Bv d),(Bv e),(Iv f),(Iv i),(Iv g6),(Iv e4),(Iv d6),w,(Iv b8),(Iv b1),D] Z sz3 Z Z Z Z Z (by kernel_rfl)) Z ?_)
 rintro _ _ _ - ⟨rfl,rfl⟩
 refine qu (pt u 8) (Fa fo25_8 g Z) (We (Es (Iv j) [(Iv p),(Iv r),(Iv s),(Iv t),(Bv d),(Bv e),(Iv f),(Iv i),(Iv j),(Iv e4),(Iv d6),w,(Iv b8),(Iv b1),D] Z sz3 Z Z Z Z Z (by kernel_rfl)) Z ?_)
 rintro _ _ _ - ⟨rfl,rfl⟩
 refine Ns (qM (.func (.func 33) #[] #[(pt o 0),(pt k 0)]) E ?_)
 obtain ⟨⟨m,o7,o8⟩,s6,h⟩:=bnd h
 refine WL.f3 (WL.f3 (WL.f3 ?_))
 have a:=a.mono g0
 refine We (callV3 (first:=#[]) (cap:=#[(pt o 0),(pt k 0)]) co33 Z (f_rpc_Read_1_ok (16:Int) A (⟨C.b,o5,o6⟩:T_wire_Reader) _ _ _ _ _ a (m,o7,o8) s6) (argsV1 Z Z)) Z ?_
 rintro _ D2 _ g1 ⟨_,⟨rfl,rfl⟩,rfl⟩
 have y4:=y3.trans g1
 have m6:=m5.trans g1
 refine WL.a3 (qM (.func (.func 33) #[] #[(pt o 0),(pt k 0)]) E ?_)
 obtain ⟨⟨n,o9,p0⟩,s7,h⟩:=bnd h
 refine Wb (Wb (Wb ?_))
 have a:=a.mono g1
 refine We (callV3 (first:=#[]) (cap:=#[(pt o 0),(pt k 0)]) co33 Z (f_rpc_Read_1_ok (32:Int) A (⟨C.b,o7,o8⟩:T_wire_Reader) _ _ _ _ _ a (n,o9,p0) s7) (argsV1 Z Z)) Z ?_
 rintro _ D3 _ g2 ⟨_,⟨rfl,rfl⟩,rfl⟩
 have y5:=y4.trans g2
 have m7:=m6.trans g2
 refine WL.a3 (qM (.func (.func 33) #[] #[(pt o 0),(pt k 0)]) E ?_)
 obtain ⟨⟨q,p1,p2⟩,s8,h⟩:=bnd h
 refine Wb (Wb (Wb ?_))
 have a:=a.mono g2
 refine We (callV3 (first:=#[]) (cap:=#[(pt o 0),(pt k 0)]) co33 Z (f_rpc_Read_1_ok (128:Int) A (⟨C.b,o9,p0⟩:T_wire_Reader) _ _ _ _ _ a (q,p1,p2) s8) (argsV1 Z Z)) Z ?_
 rintro _ D4 _ g3 ⟨_,⟨rfl,rfl⟩,rfl⟩
 have y6:=y5.trans g3
 have m8:=m7.trans g3
 refine WL.a3 (qM (.func (.func 33) #[] #[(pt o 0),(pt k 0)]) E ?_)
 obtain ⟨⟨y,p3,p4⟩,s9,h⟩:=bnd h
 refine Wb (Wb (Wb ?_))
 have a:=a.mono g3
 refine We (callV3 (first:=#[]) (cap:=#[(pt o 0),(pt k 0)]) co33 Z (f_rpc_Read_1_ok (256:Int) A (⟨C.b,p1,p2⟩:T_wire_Reader) _ _ _ _ _ a (y,p3,p4) s9) (argsV1 Z Z)) Z ?_
 rintro _ y7 _ X ⟨_,⟨rfl,rfl⟩,rfl⟩
 have k1:=y6.trans X
 have m9:=m8.trans X
 refine WL.a3 (qu (pt u 9) (Fa fo25_9 g Z) (WL.f3 (We (Es (Iv m) [(Iv p),(Iv r),(Iv s),(Iv t),(Bv d),(Bv e),(Iv f),(Iv i),(Iv j),(Iv m),(Iv d6),w,(Iv b8),(Iv b1),D] Z sz3 Z Z Z Z Z (by kernel_rfl)) Z ?_)))
 rintro _ _ _ - ⟨rfl,rfl⟩
 refine qu (pt u 10) (Fa fo25_10 g Z) (We (Es (Iv n) [(Iv p),(Iv r),(Iv s),(Iv t),(Bv d),(Bv e),(Iv f),(Iv i),(Iv j),(Iv m),(Iv n),w,(Iv b8),(Iv b1),D] Z sz3 Z Z Z Z Z (by kernel_rfl)) Z ?_)
 rintro _ _ _ - ⟨rfl,rfl⟩
 refine qu (pt u 12) (Fa fo25_12 g Z) (We (Es (Iv q) [(Iv p),(Iv r),(Iv s),(Iv t),(Bv d),(Bv e),(Iv f),(Iv i),(Iv j),(Iv m),(Iv n),w,(Iv q),(Iv b1),D] Z sz3 Z Z Z Z Z (by kernel_rfl)) Z ?_)
 rintro _ _ _ - ⟨rfl,rfl⟩
 refine qu (pt u 13) (Fa fo25_13 g Z) (We (Es (Iv y) [(Iv p),(Iv r),(Iv s),(Iv t),(Bv d),(Bv e),(Iv f),(Iv i),(Iv j),(Iv m),(Iv n),w,(Iv q),(Iv y),D] Z sz3 Z Z Z Z Z (by kernel_rfl)) Z ?_)
 rintro _ _ _ - ⟨rfl,rfl⟩
 refine Nt ?_
 obtain ⟨p5,t0,h⟩:=bnd h
 refine Jf (fun(p_:((List Int)×Int×GErr)) ρ' M' H'=>match p_ with |(k2,k3,k4)=>∃ l N,y7.le M'∧[(u, .cells #[(Iv p),(Iv r),(Iv s),(Iv t),(Bv d),(Bv e),(Iv f),(Iv i),(Iv j),(Iv m),(Iv n),w,(Iv q),(Iv y),l] 25 (0,0))]::[(o, .cells #[(Iv A)] 3 (0,0))]::[(z, .cells #[L,(Iv k3),(GV k4)] 110 (0,0))]::[(k, .cells #[(pt z 0)] 69 (0,0))]::[(S, .cells z25_.toArray 25 (0,0))]::[(U, .cells #[(Iv a0.Kind),G] 29 (0,0))]::b0::N::F=H'∧ρ' 2=(pt S 0)∧ρ' 4=(pt k 0)∧ρ' 5=(pt o 0)∧ρ' 6=(pt u 0)∧OwnS (Kd.int .u8) M' l k2 N) p5 ?_ ?_
 have h:=t0
 refine Sr (qu (pt u 0) (Fa fo25_0 g Z) (qu (Iv p) (Lb 0 pl3 Z Z Z) (qu (Bv (decide (p=8))) (eql Z Z) (Nt (Ch h Z (fun t1 h=> ?_) (fun t1 h=> ?_))))))
 refine Cg (qu (pt z 0) (Lb 3 pl69 c7 Z Z) ?_)
 obtain ⟨⟨y8,y9,z0⟩,t2,h⟩:=bnd h
 refine Wb ?_
 have a:=a.mono X
 refine We (Cb co35 (f_wire_Reader_Text_ok (⟨C.b,p3,p4⟩:T_wire_Reader) (512:Int) _ _ _ a (y8,y9,z0) t2) (args2 Z Z)) Z ?_
 rintro _ D5 _ n0 ⟨_,⟨i2,t3,rfl,rfl,i3⟩,rfl⟩
 refine WL.a2 (qu (pt u 14) (Fa fo25_14 g Z) (Wb (We (Es i2 [(Iv p),(Iv r),(Iv s),(Iv t),(Bv d),(Bv e),(Iv f),(Iv i),(Iv j),(Iv m),(Iv n),w,(Iv q),(Iv y),i2] i3.cells sz23 Z Z (Ow i3) Z Z (by kernel_rfl)) Z ?_)))
 rintro _ _ _ - ⟨rfl,rfl⟩
 refine Wz (WQ.f8 (Dr (Qb (WQ.f7 (WQ.f7 (WQ.f7 (WQ.f7 (WQ.f6 (WQ.f7 (WQ.f7 ?_))))))))))
 obtain rfl:=oi h
 exact Tj ⟨i2,t3,n0,Z,g9,c7,h0,g,i3⟩
 refine Ck ?_
 obtain rfl:=oi h
 refine Tj ?_
 have j4:=j4.mono k1
 exact⟨D,d7,lr,Z,g9,c7,h0,g,j4⟩
 obtain ⟨k2,k3,k4⟩:=p5
 rintro D6 z1 D7 ⟨l,N,Y,rfl,h1,c8,k5,h2,O⟩
 have p6:=m9.trans Y
 obtain ⟨p7,t4,h⟩:=bnd h
 refine Jf (fun(p_:((List T_api_Batch)×Int×GErr)) ρ' M' H'=>match p_ with |(k6,k7,k8)=>∃ B c9,z1.le M'∧[(u, .cells #[(Iv p),(Iv r),(Iv s),(Iv t),(Bv d),(Bv e),(Iv f),(Iv i),(Iv j),(Iv m),(Iv n),B,(Iv q),(Iv y),l] 25 (0,0))]::[(o, .cells #[(Iv A)] 3 (0,0))]::[(z, .cells #[L,(Iv k7),(GV k8)] 110 (0,0))]::[(k, .cells #[(pt z 0)] 69 (0,0))]::[(S, .cells z25_.toArray 25 (0,0))]::[(U, .cells #[(Iv a0.Kind),G] 29 (0,0))]::c9::N::F=H'∧ρ' 2=(pt S 0)∧ρ' 4=(pt k 0)∧ρ' 6=(pt u 0)∧OwnS kd_api_Batch M' B k6 c9) p7 ?_ ?_
 have h:=t4
 refine Sr (qu (Iv A) (Lb 1 pl3 k5 Z Z) (qu (Iv (andI .i64 A (64:Int))) (PO.and Z Z) (qu (Bv (decide ((andI .i64 A (64:Int))≠0))) (neq Z Z) (Nt (Ch h Z (fun t5 h=> ?_) (fun t5 h=> ?_))))))
 refine Sr (qu (pt z 0) (Lb 3 pl69 c8 Z Z) ?_)
 obtain ⟨⟨d0,z2,z3⟩,t6,h⟩:=bnd h
 refine Wb ?_
 have a:=a.mono (X.trans Y)
 refine We (Cb co32 (f_wire_Reader_Int_ok (⟨C.b,k3,k4⟩:T_wire_Reader) (8:Int) _ _ _ a (d0,z2,z3) t6) (args2 Z Z)) Z ?_
 rintro _ z4 _ a4 ⟨_,⟨rfl,rfl⟩,rfl⟩
 refine WL.a1 (qa (Iv d0) (Ns (qa (Iv 0) (Nt (Bk ?_)))))
 obtain ⟨D8,t7,t8⟩:=bnd h
 clear h
 refine WC.loop t7 (fun(p_:(Int×Int×GErr×(List T_api_Batch))) ρ' M' H'=>match p_ with |(T,d9,e1,h3)=>∃ a8 d1,z4.le M'∧[(z, .cells #[L,(Iv d9),(GV e1)] 110 (0,0))]::[(u, .cells #[(Iv p),(Iv r),(Iv s),(Iv t),(Bv d),(Bv e),(Iv f),(Iv i),(Iv j),(Iv m),(Iv n),a8,(Iv q),(Iv y),l] 25 (0,0))]::[(o, .cells #[(Iv A)] 3 (0,0))]::[(k, .cells #[(pt z 0)] 69 (0,0))]::[(S, .cells z25_.toArray 25 (0,0))]::[(U, .cells #[(Iv a0.Kind),G] 29 (0,0))]::d1::N::F=H'∧ρ' 2=(pt S 0)∧ρ' 4=(pt k 0)∧ρ' 6=(pt u 0)∧ρ' 8=(Iv d0)∧ρ' 9=(Iv T)∧OwnS kd_api_Batch M' a8 h3 d1) ?_ ?_
 have d8:=d8.mono ((k1.trans Y).trans a4)
 exact⟨w,b0,lr,Z,h1,c8,h2,Z,Z,d8⟩
 rintro ⟨T,d9,e1,h3⟩ D9 E0 z5 E1 h ⟨a8,d1,a5,rfl,h4,d2,h5,d3,d4,a9⟩
 unfold f_rpc_Read_l0 at h
 refine Cs ?_
 obtain ⟨k9,t9,h⟩:=bnd h
 refine Jf (fun(k9:Bool) ρ' M' H'=>z5.le M'∧[(z, .cells #[L,(Iv d9),(GV e1)] 110 (0,0))]::[(u, .cells #[(Iv p),(Iv r),(Iv s),(Iv t),(Bv d),(Bv e),(Iv f),(Iv i),(Iv j),(Iv m),(Iv n),a8,(Iv q),(Iv y),l] 25 (0,0))]::[(o, .cells #[(Iv A)] 3 (0,0))]::[(k, .cells #[(pt z 0)] 69 (0,0))]::[(S, .cells z25_.toArray 25 (0,0))]::[(U, .cells #[(Iv a0.Kind),G] 29 (0,0))]::d1::N::F=H'∧ρ' 2=(pt S 0)∧ρ' 4=(pt k 0)∧ρ' 6=(pt u 0)∧ρ' 8=(Iv d0)∧ρ' 9=(Iv T)∧ρ' 91=(Bv k9)) k9 ?_ ?_
 have h:=t9
 refine Cg (qM (Iv T) d4 (qM (Iv d0) d3 (qu (Bv (decide (T<d0))) (lss Z Z) (qm (Bv (decide (T<d0))) ?_))))
 rcases Bi h with⟨W,h⟩ |⟨W,h⟩
 refine qo 87 W (pt z 0) (Lb 3 pl69 d2 Z Z) (On 87 Z Z W ?_)
 obtain ⟨l0,u0,h⟩:=bnd h
 have a:=a.mono (a4.trans a5)
 refine We (Cb co36 (f_wire_Reader_Err_ok (⟨C.b,d9,e1⟩:T_wire_Reader) _ _ _ a l0 u0) (args1 Z)) Z ?_
 rintro _ E2 _ n1 ⟨_,⟨rfl,rfl⟩,rfl⟩
 refine WL.a1 (qo 87 W (Bv l0.isNil) (errNil underlying31 Z) (qu (Bv l0.isNil) (Pt Z W Z) (Wz ?_)))
 obtain rfl:=oi h
 exact Tj ⟨n1,Z,h4,d2,h5,d3,d4,Z⟩
 iterate 3 refine Of 87 Z Z W Z ?_
 refine qu (Bv false) (Pf Z W Z) (Wz ?_)
 obtain rfl:=oi h
 exact Tj ⟨lr,Z,h4,d2,h5,d3,d4,Z⟩
 rintro E3 E4 E5 ⟨R,rfl,h6,d5,J,l1,l2,j1⟩
 refine Ch h j1 (fun u1 h=> ?_) (fun u1 h=> ?_)
 refine Ck (Tc (Cs (Bk (WC.draw [0,1,0,4,12,31,63,127] (.pure 0 (.pure 1 (.pure 2 (.alt 3 (.alt 4 (.alt 5 (.pure 6 (.alt 7 .done .none)) .none) .none) .none)))) mixed (by kernel_rfl) (qt (pt u 11) Z (Fa fo25_11 J Z) (qt a8 Z (Lb 1 pl22 Z Z Z) (qt (pt z 0) Z (Lb 3 pl69 d5 Z Z) ?_)))))))
 obtain ⟨⟨a6,p8,p9⟩,u2,h⟩:=bnd h
 have a:=a.mono ((a4.trans a5).trans R)
 have hE:=hE.mono (((p6.trans a4).trans a5).trans R)
 refine Ta Z (Cb co37 (f_batch_Next_ok (⟨C.b,d9,e1⟩:T_wire_Reader) _ _ _ a hE (a6,p8,p9) u2) (args1 Z)) Z ?_ ?_
 rintro _ z6 _ i8 ⟨_,⟨a7,l3,rfl,rfl,l4⟩,rfl⟩
 refine⟨(Sk 1 Z (Ss Z (Lb 2 pl22 Z Z Z) Z (Ss Z (Fa fo25_11 J Z) Z trivial))), ?_⟩
 refine WT.a2 (WT.f1 (WT.know (fun _ hs=>l4.rs hs) (fun u3=> ?_)))
 refine WT.freeze (fun i9=> ?_)
 refine Ta Z (buildSliceL (cl:=(l55 a6 a7)) underlying22 iz55 Z (Pc (a55_ a6 a7) Z Z Pz) Z) Z ?_ ?_
 rintro _ _ _ - ⟨rfl,q0,rfl,rfl⟩
 have z7:OwnS kd_api_Batch (z6.add l3) (.slice (some ⟨q0,0,none⟩) 1 1) [a6] [(q0, .cells (l55 a6 a7).toArray 55 (0,0))]:=OwnS.rows (css:=[(l55 a6 a7)]) (Rows.cons (kd_api_Batch_mk (x:=a6) u3) Rows.nil) Z Z
 refine⟨(Sk 1 Z (Ss Z (Lb 2 pl22 Z Z Z) Z (Ss Z (Fa fo25_11 J Z) Z trivial))), ?_⟩
 obtain ⟨u4,h⟩:=grd_i h
 refine WT.f7 ?_
 have a9:=a9.mono ((R.trans i8).trans i9)
 refine Ta Z (append (dd:=kd_api_Batch) (xs:=h3) (ys:=[a6]) underlying22 underlying22 in55 Z (appB (by decide) u4) (by decide) Z Z a9 (z7.src 1 Z)) Z ?_ ?_
 rintro l5 _ _ - ⟨rfl,z8,rfl,l6⟩
 refine⟨(Sl Z), ?_⟩
 refine qt (pt u 11) Z (Fa fo25_11 J Z) (WT.f3 (Ta Z (Es l5 [(Iv p),(Iv r),(Iv s),(Iv t),(Bv d),(Bv e),(Iv f),(Iv i),(Iv j),(Iv m),(Iv n),l5,(Iv q),(Iv y),l] l6.cells sz22 Z Z (Ow l6) Z Z (by kernel_rfl)) Z ?_ ?_))
 rintro _ _ _ - ⟨rfl,rfl⟩
 refine⟨(Sl Z), ?_⟩
 refine Ti (Bn (Tc (Cg (qM (Iv T) l2 (qu (Iv (i64.wrap (T+1))) (add Z Z) (qa (Iv (i64.wrap (T+1))) (Wz (Qb (Dr (WQ.f7 (Qb ?_)))))))))))
 exact WQ.f7 (WQ.f7 (WQ.f7 (WQ.f7 (WQ.f6 (WQ.f7 (WQ.again (i64.wrap (T+1),p8,p9,h3++[a6]) (oi h).symm ⟨l5,z8,(((a5.trans R).trans i8).trans i9),Z,h6,d5,J,l1,Z,l6⟩))))))
 exact Tz
 exact Tz
 exact Tz
 exact Tz
 refine WC.exit (WQ.thenE (WQ.leaveE (d9,e1,h3) (oi h).symm (fun n2=> ?_)))
 subst n2
 have h:=t8
 refine WQ.blockH (WQ.f7 (WQ.f7 (WQ.f7 (WQ.f7 (WQ.f7 (WQ.f5 (WQ.f7 (WQ.f7 ?_))))))))
 obtain rfl:=oi h
 refine Tj ?_
 have a9:=a9.mono R
 exact⟨a8,d1,((a4.trans a5).trans R),Z,h6,d5,J,a9⟩
 refine Ck ?_
 obtain rfl:=oi h
 refine Tj ?_
 have d8:=d8.mono (k1.trans Y)
 exact⟨w,b0,lr,Z,h1,c8,h2,d8⟩
 obtain ⟨k6,k7,k8⟩:=p7
 rintro E6 E7 E8 ⟨B,c9,g4,rfl,K,l7,h7,P⟩
 have z9:=p6.trans g4
 refine Cs (Sr (qu (pt z 0) (Lb 3 pl69 l7 Z Z) ?_))
 obtain ⟨⟨e2,A0⟩,u5,h⟩:=bnd h
 refine Wb ?_
 have a:=a.mono ((X.trans Y).trans g4)
 refine We (Cb co38 (f_wire_Reader_End_ok (⟨C.b,k7,k8⟩:T_wire_Reader) _ _ _ a (e2,A0) u5) (args1 Z)) Z ?_
 rintro _ E9 _ g5 ⟨_,⟨rfl,rfl⟩,rfl⟩
 have l8:=z9.trans g5
 refine WL.a1 (qa (GV e2) (Ns (qm (GV e2) (qu (Bv (!e2.isNil)) (errNotNil underlying31 Z) (Nt (Ch h Z (fun u6 h=> ?_) (fun u6 h=> ?_)))))))
 refine Sr (qu (.agg z25_.toArray) (Bl (cl:=z25_) ze25 fp25 Pz Z) (qm (GV e2) (WL.f4 (We (Sg (v:=(.agg z25_.toArray)) (vl:=z25_) (arr':=z25_) Z sz25 K Z (onb Z) Z Z (by kernel_rfl)) Z ?_))))
 rintro _ _ _ - ⟨rfl,rfl⟩
 refine qa (GV e2) (Nt (Cr (Tr (WQ.e0 (WQ.e0 (WQ.f3 (Dr (WQ.f3 (Dr (WQ.f3 (Dr ?_)))))))))))
 exact WQ.f3 (Dr (WQ.f3 (Dr (WQ.f3 (Dr (WQ.f3 (Dr (Qa (Qb (Rd h [[],[]] (fun _ hs=>hs.drop) (resultsLN Z (RVs.cons (Rc (cs:=z25_) 0 ag25 sz25 K Z Z) (RVs.cons (RV.tmp Z) RVs.nil))) l8 ⟨Zs,[],Zs,[],Z,Z,(OwnS.nil _ _),(OwnS.nil _ _)⟩))))))))))
 refine Ck (Tc (Cs (Sr (qu (.agg #[(Iv p),(Iv r),(Iv s),(Iv t),(Bv d),(Bv e),(Iv f),(Iv i),(Iv j),(Iv m),(Iv n),B,(Iv q),(Iv y),l]) (La (cs:=[(Iv p),(Iv r),(Iv s),(Iv t),(Bv d),(Bv e),(Iv f),(Iv i),(Iv j),(Iv m),(Iv n),B,(Iv q),(Iv y),l]) 1 ag25 sz25 h7 Z Z) ?_))))
 obtain ⟨e3,u7,h⟩:=bnd h
 refine WL.f7 (WL.f7 ?_)
 have P:=P.mono g5
 have O:=O.mono (g4.trans g5)
 refine We (EO.call2 co16 (Tri.lend P.excl fun w0_ H0_ hs0_=>(Tri.lend O.excl fun w1_ H1_ hs1_=>(f_rpc_Check_ok (⟨p,r,s,t,d,e,f,i,j,m,n,k6,q,y,k2⟩:T_api_Rpc) _ _ _ ((P.rs hs0_).mono (IM.le_add _ _)) ((O.mono (IM.le_add _ _)).rs hs1_) e3 u7))) (args1 Z)) Z ?_
 rintro _ _ _ b5 ⟨_,⟨B3,B4,A1,rfl,rfl,⟨B5,B6,A2,rfl,rfl,⟨rfl,rfl⟩⟩⟩,rfl⟩
 refine WL.a2 (qa (GV e3) (Ns (qm (GV e3) (qu (Bv (!e3.isNil)) (errNotNil underlying31 Z) (Nt (Ch h Z (fun u9 h=> ?_) (fun u9 h=> ?_)))))))
 refine Sr (qu (.agg z25_.toArray) (Bl (cl:=z25_) ze25 fp25 Pz Z) (qm (GV e3) (WL.f6 (We (Sg (v:=(.agg z25_.toArray)) (vl:=z25_) (arr':=z25_) Z sz25 K Z (onb Z) Z Z (by kernel_rfl)) Z ?_))))
 rintro _ _ _ - ⟨rfl,rfl⟩
 refine qa (GV e3) (Nt (Cr (Tr (WQ.e0 (WQ.e0 (WQ.f3 (Dr (WQ.f3 (Dr (WQ.f3 (Dr ?_)))))))))))
 exact WQ.f3 (Dr (WQ.f3 (Dr (WQ.f3 (Dr (WQ.f3 (Dr (Qa (Qb (Rd h [[],[]] (fun _ hs=>hs.drop) (resultsLN Z (RVs.cons (Rc (cs:=z25_) 0 ag25 sz25 K Z Z) (RVs.cons (RV.tmp Z) RVs.nil))) (l8.trans b5) ⟨Zs,[],Zs,[],Z,Z,(OwnS.nil _ _),(OwnS.nil _ _)⟩))))))))))
 refine Ck (Tc (Sr (qu (.agg #[(Iv p),(Iv r),(Iv s),(Iv t),(Bv d),(Bv e),(Iv f),(Iv i),(Iv j),(Iv m),(Iv n),B,(Iv q),(Iv y),l]) (La (cs:=[(Iv p),(Iv r),(Iv s),(Iv t),(Bv d),(Bv e),(Iv f),(Iv i),(Iv j),(Iv m),(Iv n),B,(Iv q),(Iv y),l]) 3 ag25 sz25 h7 Z Z) (WL.f6 ?_))))
 have P:=P.mono b5
 have O:=O.mono b5
 refine We (Sg (v:=(.agg #[(Iv p),(Iv r),(Iv s),(Iv t),(Bv d),(Bv e),(Iv f),(Iv i),(Iv j),(Iv m),(Iv n),B,(Iv q),(Iv y),l])) (vl:=[(Iv p),(Iv r),(Iv s),(Iv t),(Bv d),(Bv e),(Iv f),(Iv i),(Iv j),(Iv m),(Iv n),B,(Iv q),(Iv y),l]) (arr':=[(Iv p),(Iv r),(Iv s),(Iv t),(Bv d),(Bv e),(Iv f),(Iv i),(Iv j),(Iv m),(Iv n),B,(Iv q),(Iv y),l]) Z sz25 K Z (onesOf (Oc Z (Oc Z (Oc Z (Oc Z (Oc Z (Oc Z (Oc Z (Oc Z (Oc Z (Oc Z (Oc Z (Oc (Ow P) (Oc Z (Oc Z (Oc (Ow O) Oz)))))))))))))))) Z Z (by kernel_rfl)) Z ?_
 rintro _ _ _ - ⟨rfl,rfl⟩
 refine qa (GV GErr.nil) (Nt (Cr (WQ.f3 (Dr (WQ.f3 (Dr (WQ.f3 (Dr (WQ.f3 (Dr (WQ.f3 ?_)))))))))))
 exact Dr (Rd h [c9,N] (fun _ hs=>hs.drop) (resultsLN Z (RVs.cons (Rc (cs:=[(Iv p),(Iv r),(Iv s),(Iv t),(Bv d),(Bv e),(Iv f),(Iv i),(Iv j),(Iv m),(Iv n),B,(Iv q),(Iv y),l]) 0 ag25 sz25 K Z Z) (RVs.cons (RV.tmp Z) RVs.nil))) (l8.trans b5) ⟨B,c9,l,N,Z,Z,P,O⟩)
noncomputable def f_rpc_Same_1 (a0:T_api_Rpc):Option (List Int):=
 (some [a0.Kind,a0.From,a0.To,a0.Term,a0.Leader,a0.At,a0.AtTerm,a0.High,a0.Code,a0.Size,a0.Pos])
def f_rpc_Same_1_post (a0:T_api_Rpc) (b c:Value):(List Int)→Value→IM→HL→Prop:=
 fun(a:(List Int)) (v:Value) (M':IM) (H':HL)=>(.agg #[(.int .i64 (rd a (0:Int))),(.int .i64 (rd a (1:Int))),(.int .i64 (rd a (2:Int))),(.int .i64 (rd a (3:Int))),(.int .i64 (rd a (4:Int))),(.int .i64 (rd a (5:Int))),(.int .i64 (rd a (6:Int))),(.int .i64 (rd a (7:Int))),(.int .i64 (rd a (8:Int))),(.int .i64 (rd a (9:Int))),(.int .i64 (rd a (10:Int)))])=v∧H'=[]
theorem f_rpc_Same_1_ok (a0:T_api_Rpc) (M:IM) (a b:Value) (d:RS kd_api_Batch M a a0.Batches) (e:RS (Kd.int .u8) M b a0.Data) (res:(List Int)) (h:f_rpc_Same_1 a0=some res):
 Tri prog 50 #[(a25_ a0 a b)] M [] (f_rpc_Same_1_post a0 a b res):=by
 unfold f_rpc_Same_1 at h
 refine Te func50 Z Z ?_
 intro F ρ hρ
 refine Sr (We (box (cs:=(l25 a0 a b).toArray) (congrArg Value.cells (asE (a25_ a0 a b) (hρ 0)))) Z ?_)
 rintro _ _ _ - ⟨rfl,c,rfl,rfl⟩
 refine We (Al ze85 Z) Z ?_
 rintro _ _ _ - ⟨rfl,f,rfl,rfl⟩
 refine Ns (qu (pt c 0) (Fa fo25_0 Z Z) (qu (Iv a0.Kind) (Lb 1 pl3 Z Z Z) (qu (pt c 1) (Fa fo25_1 Z Z) (qu (Iv a0.From) (Lb 1 pl3 Z Z Z) (qu (pt c 2) (Fa fo25_2 Z Z) (qu (Iv a0.To) (Lb 1 pl3 Z Z Z) (qu (pt c 3) (Fa fo25_3 Z Z) (qu (Iv a0.Term) (Lb 1 pl3 Z Z Z) (qu (pt c 6) (Fa fo25_6 Z Z) (qu (Iv a0.Leader) (Lb 1 pl3 Z Z Z) (qu (pt c 7) (Fa fo25_7 Z Z) ?_)))))))))))
 refine qu (Iv a0.At) (Lb 1 pl3 Z Z Z) (qu (pt c 8) (Fa fo25_8 Z Z) (qu (Iv a0.AtTerm) (Lb 1 pl3 Z Z Z) (qu (pt c 9) (Fa fo25_9 Z Z) (qu (Iv a0.High) (Lb 1 pl3 Z Z Z) (qu (pt c 10) (Fa fo25_10 Z Z) (qu (Iv a0.Code) (Lb 1 pl3 Z Z Z) (qu (pt c 12) (Fa fo25_12 Z Z) (qu (Iv a0.Size) (Lb 1 pl3 Z Z Z) (qu (pt c 13) (Fa fo25_13 Z Z) (qu (Iv a0.Pos) (Lb 1 pl3 Z Z Z) (qu (.agg #[(Iv a0.Kind),(Iv a0.From),(Iv a0.To),(Iv a0.Term),(Iv a0.Leader),(Iv a0.At),(Iv a0.AtTerm),(Iv a0.High),(Iv a0.Code),(Iv a0.Size),(Iv a0.Pos)]) (buildAL (cl:=[(Iv a0.Kind),(Iv a0.From),(Iv a0.To),(Iv a0.Term),(Iv a0.Leader),(Iv a0.At),(Iv a0.AtTerm),(Iv a0.High),(Iv a0.Code),(Iv a0.Size),(Iv a0.Pos)]) ze85 underlying85 sz3 (Pc (Iv a0.Kind) Z Z (Pc (Iv a0.From) Z Z (Pc (Iv a0.To) Z Z (Pc (Iv a0.Term) Z Z (Pc (Iv a0.Leader) Z Z (Pc (Iv a0.At) Z Z (Pc (Iv a0.AtTerm) Z Z (Pc (Iv a0.High) Z Z (Pc (Iv a0.Code) Z Z (Pc (Iv a0.Size) Z Z (Pc (Iv a0.Pos) Z Z Pz))))))))))) Z) ?_)))))))))))
 refine We (Sg (v:=(.agg #[(Iv a0.Kind),(Iv a0.From),(Iv a0.To),(Iv a0.Term),(Iv a0.Leader),(Iv a0.At),(Iv a0.AtTerm),(Iv a0.High),(Iv a0.Code),(Iv a0.Size),(Iv a0.Pos)])) (vl:=[(Iv a0.Kind),(Iv a0.From),(Iv a0.To),(Iv a0.Term),(Iv a0.Leader),(Iv a0.At),(Iv a0.AtTerm),(Iv a0.High),(Iv a0.Code),(Iv a0.Size),(Iv a0.Pos)]) (arr':=[(Iv a0.Kind),(Iv a0.From),(Iv a0.To),(Iv a0.Term),(Iv a0.Leader),(Iv a0.At),(Iv a0.AtTerm),(Iv a0.High),(Iv a0.Code),(Iv a0.Size),(Iv a0.Pos)]) Z sz85 Z Z (onb Z) Z Z (by kernel_rfl)) Z ?_
 rintro _ _ _ - ⟨rfl,rfl⟩
 exact Nt (Cr (Qa (Dr (Rd h [] (fun _ hs=>hs.drop) (resultsL1 Z (Rc (cs:=[(Iv a0.Kind),(Iv a0.From),(Iv a0.To),(Iv a0.Term),(Iv a0.Leader),(Iv a0.At),(Iv a0.AtTerm),(Iv a0.High),(Iv a0.Code),(Iv a0.Size),(Iv a0.Pos)]) 0 ag85 sz85 Z Z Z)) lr ⟨Z,Z⟩))))
noncomputable def f_slices_Equal_byte_byte_l0 (a0:(List Int)) (a1:(List Int)) (s_:Int):Option (Int⊕(Unit⊕Unit)):=
 match s_ with
 |a=>
 (if(decide (a<(a0.length:Int)))=true then(grd (0≤a∧a<a0.length) (grd (0≤a∧a<a1.length) (if(decide ((rd a0 a)≠(rd a1 a)))=true then(some (inr (inr ())))else(some (inl (i64.wrap (a+(1:Int))))))))else(some (inr (inl ()))))
noncomputable def f_slices_Equal_byte_byte (a0:(List Int)) (a1:(List Int)):Option Bool:=
 (if(decide ((a0.length:Int)≠(a1.length:Int)))=true then(some false)else((((iter (f_slices_Equal_byte_byte_l0 a0 a1) (0:Int)).bind (Sum.elim (fun _=>(some (inl ()))) (fun _=>(((some false)).bind fun r=>some (inr r))))):Option (Unit⊕Bool)).bind (Sum.elim (fun _=>(some true)) some)))
def f_slices_Equal_byte_byte_post (a0:(List Int)) (a1:(List Int)) (b c:Value):Bool→Value→IM→HL→Prop:=
 fun(a:Bool) (v:Value) (M':IM) (H':HL)=>(.bool a)=v∧H'=[]
theorem f_slices_Equal_byte_byte_ok (a0:(List Int)) (a1:(List Int)) (M:IM) (l s:Value) (t:RS (Kd.int .u8) M l a0) (A:RS (Kd.int .u8) M s a1) (res:Bool) (h:f_slices_Equal_byte_byte a0 a1=some res):
 Tri prog 51 #[l,s] M [] (f_slices_Equal_byte_byte_post a0 a1 l s res):=by
 unfold f_slices_Equal_byte_byte at h
 refine Te func51 Z Z ?_
 intro F ρ hρ
 refine Sr (qa (Bv false) (Nt (Cs (Sr (qM l (hρ 0) (qu (Iv (a0.length:Int)) (lenS underlying23 Z t.len) (qM s (hρ 1) (qu (Iv (a1.length:Int)) (lenS underlying23 Z A.len) (qu (Bv (decide ((a0.length:Int)≠(a1.length:Int)))) (neq Z Z) (Nt (Ch h Z (fun u h=> ?_) (fun u h=> ?_))))))))))))
 exact Sr (qa (Bv false) (Nt (Cr (Tr (Rf h [] Z (Rs Z Z) lr ⟨Z,Z⟩)))))
 refine Ck (Tc ?_)
 obtain ⟨B,v,h⟩:=bnd h
 refine WC.joinE (fun(_:Unit) ρ' M' H'=>M.le M'∧F=H') B ?_ ?_
 have w:=h
 have h:=v
 refine Sr (qM l (hρ 0) (qu (Iv (a0.length:Int)) (lenS underlying23 Z t.len) (qm (Iv 0) (Nt (Bk ?_)))))
 obtain ⟨I,x,k⟩:=bnd h
 clear h
 refine WC.loop x (fun(a:Int) ρ' M' H'=>M.le M'∧F=H'∧ρ' 0=l∧ρ' 1=s∧ρ' 12=(Iv (a0.length:Int))∧ρ' 13=(Iv a)) ?_ ?_
 exact⟨lr,Z,(hρ 0),(hρ 1),Z,Z⟩
 rintro a J K L N h ⟨b,rfl,f,g,d,c⟩
 unfold f_slices_Equal_byte_byte_l0 at h
 refine Sr (qu (Bv (decide (a<(a0.length:Int)))) (lss c d) (Nt (Cs (Ch h Z (fun y h=> ?_) (fun y h=> ?_)))))
 refine Ck (Tc (Cs (Bk (Sr (qM (Iv a) c (qa (Iv a) (Nt (Cs (WC.draw [0,0,3,7,0,0,48,112,255] (.pure 0 (.pure 1 (.pure 2 (.pure 3 (.pure 4 (.pure 5 (.pure 6 (.pure 7 (.pure 8 .done))))))))) mixed (by kernel_rfl) (qt l Z (Mv f) (qt (Iv a) Z (Mv Z) ?_)))))))))))
 obtain ⟨i,h⟩:=grd_i h
 have t:=t.mono b
 obtain ⟨C,E,m,o,hhas31⟩:=t.at i.1 i.2 (by decide)
 obtain rfl:=o
 refine qt (.pointer (some C)) Z (indexAddr (n:=a0.length) underlying23 sz5 Z Z i.1 i.2 m) (qt (Yv (rd a0 a)) Z (loadM pl5 Z (IM.has0 hhas31)) (qt s Z (Mv g) (qt (Iv a) Z (Mv Z) ?_)))
 obtain ⟨j,h⟩:=grd_i h
 have A:=A.mono b
 obtain ⟨D,G,p,q,hhas38⟩:=A.at j.1 j.2 (by decide)
 obtain rfl:=q
 refine qt (.pointer (some D)) Z (indexAddr (n:=a1.length) underlying23 sz5 Z Z j.1 j.2 p) (qt (Yv (rd a1 a)) Z (loadM pl5 Z (IM.has0 hhas38)) (qt (Bv (decide ((rd a0 a)≠(rd a1 a)))) Z (neq Z Z) (Ti (Tc (Ch h Z (fun z h=> ?_) (fun z h=> ?_))))))
 refine Sr (qa (Bv false) (Nt (Cr (Br (Tr (WQ.leaveR (inr ()) (oi h).symm (fun e=> ?_)))))))
 subst e
 have h:=(elimR k)
 refine Br (Tr ?_)
 have h:=KK.early h w
 exact Rf h [] Z (Rs Z Z) b ⟨Z,Z⟩
 exact Ck (Bn (Tc (Cg (qu (Iv (i64.wrap (a+1))) (add c Z) (qm (Iv (i64.wrap (a+1))) (Wz (WQ.again (i64.wrap (a+1)) (oi h).symm ⟨b,Z,f,g,d,Z⟩)))))))
 refine WC.exit (WQ.thenE (WQ.leaveE (inl ()) (oi h).symm (fun e=> ?_)))
 subst e
 have h:=elimL k
 exact WQ.blockH (WQ.thenFE h ⟨b,Z⟩)
 rintro _ O P Q rfl ⟨r,rfl⟩
 have h:=(Sum.elim_inl _ _ _).symm.trans h
 exact Sr (qa (Bv true) (Nt (Cr (Rf h [] Z (Rs Z Z) r ⟨Z,Z⟩))))
noncomputable def f_slices_Equal_int_int_l0 (a0:(List Int)) (a1:(List Int)) (s_:Int):Option (Int⊕(Unit⊕Unit)):=
 match s_ with
 |a=>
 (if(decide (a<(a0.length:Int)))=true then(grd (0≤a∧a<a0.length) (grd (0≤a∧a<a1.length) (if(decide ((rd a0 a)≠(rd a1 a)))=true then(some (inr (inr ())))else(some (inl (i64.wrap (a+(1:Int))))))))else(some (inr (inl ()))))
noncomputable def f_slices_Equal_int_int (a0:(List Int)) (a1:(List Int)):Option Bool:=
 (if(decide ((a0.length:Int)≠(a1.length:Int)))=true then(some false)else((((iter (f_slices_Equal_int_int_l0 a0 a1) (0:Int)).bind (Sum.elim (fun _=>(some (inl ()))) (fun _=>(((some false)).bind fun r=>some (inr r))))):Option (Unit⊕Bool)).bind (Sum.elim (fun _=>(some true)) some)))
def f_slices_Equal_int_int_post (a0:(List Int)) (a1:(List Int)) (b c:Value):Bool→Value→IM→HL→Prop:=
 fun(a:Bool) (v:Value) (M':IM) (H':HL)=>(.bool a)=v∧H'=[]
theorem f_slices_Equal_int_int_ok (a0:(List Int)) (a1:(List Int)) (M:IM) (l s:Value) (t:RS (Kd.int .i64) M l a0) (A:RS (Kd.int .i64) M s a1) (res:Bool) (h:f_slices_Equal_int_int a0 a1=some res):
 Tri prog 118 #[l,s] M [] (f_slices_Equal_int_int_post a0 a1 l s res):=by
 unfold f_slices_Equal_int_int at h
 refine Te func118 Z Z ?_
 intro F ρ hρ
 refine Sr (qa (Bv false) (Nt (Cs (Sr (qM l (hρ 0) (qu (Iv (a0.length:Int)) (lenS underlying56 Z t.len) (qM s (hρ 1) (qu (Iv (a1.length:Int)) (lenS underlying56 Z A.len) (qu (Bv (decide ((a0.length:Int)≠(a1.length:Int)))) (neq Z Z) (Nt (Ch h Z (fun u h=> ?_) (fun u h=> ?_))))))))))))
 exact Sr (qa (Bv false) (Nt (Cr (Tr (Rf h [] Z (Rs Z Z) lr ⟨Z,Z⟩)))))
 refine Ck (Tc ?_)
 obtain ⟨B,v,h⟩:=bnd h
 refine WC.joinE (fun(_:Unit) ρ' M' H'=>M.le M'∧F=H') B ?_ ?_
 have w:=h
 have h:=v
 refine Sr (qM l (hρ 0) (qu (Iv (a0.length:Int)) (lenS underlying56 Z t.len) (qm (Iv 0) (Nt (Bk ?_)))))
 obtain ⟨I,x,k⟩:=bnd h
 clear h
 refine WC.loop x (fun(a:Int) ρ' M' H'=>M.le M'∧F=H'∧ρ' 0=l∧ρ' 1=s∧ρ' 12=(Iv (a0.length:Int))∧ρ' 13=(Iv a)) ?_ ?_
 exact⟨lr,Z,(hρ 0),(hρ 1),Z,Z⟩
 rintro a J K L N h ⟨b,rfl,f,g,d,c⟩
 unfold f_slices_Equal_int_int_l0 at h
 refine Sr (qu (Bv (decide (a<(a0.length:Int)))) (lss c d) (Nt (Cs (Ch h Z (fun y h=> ?_) (fun y h=> ?_)))))
 refine Ck (Tc (Cs (Bk (Sr (qM (Iv a) c (qa (Iv a) (Nt (Cs (WC.draw [0,0,3,7,0,0,48,112,255] (.pure 0 (.pure 1 (.pure 2 (.pure 3 (.pure 4 (.pure 5 (.pure 6 (.pure 7 (.pure 8 .done))))))))) mixed (by kernel_rfl) (qt l Z (Mv f) (qt (Iv a) Z (Mv Z) ?_)))))))))))
 obtain ⟨i,h⟩:=grd_i h
 have t:=t.mono b
 obtain ⟨C,E,m,o,hhas31⟩:=t.at i.1 i.2 (by decide)
 obtain rfl:=o
 refine qt (.pointer (some C)) Z (indexAddr (n:=a0.length) underlying56 sz3 Z Z i.1 i.2 m) (qt (Iv (rd a0 a)) Z (loadM pl3 Z (IM.has0 hhas31)) (qt s Z (Mv g) (qt (Iv a) Z (Mv Z) ?_)))
 obtain ⟨j,h⟩:=grd_i h
 have A:=A.mono b
 obtain ⟨D,G,p,q,hhas38⟩:=A.at j.1 j.2 (by decide)
 obtain rfl:=q
 refine qt (.pointer (some D)) Z (indexAddr (n:=a1.length) underlying56 sz3 Z Z j.1 j.2 p) (qt (Iv (rd a1 a)) Z (loadM pl3 Z (IM.has0 hhas38)) (qt (Bv (decide ((rd a0 a)≠(rd a1 a)))) Z (neq Z Z) (Ti (Tc (Ch h Z (fun z h=> ?_) (fun z h=> ?_))))))
 refine Sr (qa (Bv false) (Nt (Cr (Br (Tr (WQ.leaveR (inr ()) (oi h).symm (fun e=> ?_)))))))
 subst e
 have h:=(elimR k)
 refine Br (Tr ?_)
 have h:=KK.early h w
 exact Rf h [] Z (Rs Z Z) b ⟨Z,Z⟩
 exact Ck (Bn (Tc (Cg (qu (Iv (i64.wrap (a+1))) (add c Z) (qm (Iv (i64.wrap (a+1))) (Wz (WQ.again (i64.wrap (a+1)) (oi h).symm ⟨b,Z,f,g,d,Z⟩)))))))
 refine WC.exit (WQ.thenE (WQ.leaveE (inl ()) (oi h).symm (fun e=> ?_)))
 subst e
 have h:=elimL k
 exact WQ.blockH (WQ.thenFE h ⟨b,Z⟩)
 rintro _ O P Q rfl ⟨r,rfl⟩
 have h:=(Sum.elim_inl _ _ _).symm.trans h
 exact Sr (qa (Bv true) (Nt (Cr (Rf h [] Z (Rs Z Z) r ⟨Z,Z⟩))))

end Go.Proofs.YtkflneabcannnaaGreatDoor.G
