/- Go functions: what they come to, and that they do. Printed by a program of the session (gen). -/
import Derived.Test.YtkflneabcannnaaGreatDoorVF
import Derived.Test.YtkflneabcannnaaGreatDoorV5
import Derived.Test.YtkflneabcannnaaGreatDoorV6
import Derived.Test.YtkflneabcannnaaGreatDoorV7
import Derived.Test.YtkflneabcannnaaGreatDoorKConv
import Derived.Test.YtkflneabcannnaaGreatDoorKShar2
import Derived.Test.YtkflneabcannnaaGreatDoorKTight2
set_option linter.unusedVariables false
set_option linter.unusedSimpArgs false
set_option maxHeartbeats 8000000
set_option maxRecDepth 100000
namespace Go.Proofs.YtkflneabcannnaaGreatDoor.G
open Go Go.KK
open PO EO IntKind Sum Tryz

noncomputable def f_ref06_Check_l0 (a0:T_api_Batch) (s_:Int):Option (Int⊕(Unit⊕(ByteArray×Int×Int×Int))):=
 match s_ with
 |a=>
 (if(decide (a<(a0.Records.length:Int)))=true then(grd (0≤a∧a<a0.Records.length) ((f_ref05_Check (rd a0.Records a)).bind fun b=>(if(decide (b.Code≠(0:Int)))=true then(some (inr (inr (b.Op,a,b.Code,a))))else(some (inl (i64.wrap (a+(1:Int))))))))else(some (inr (inl ()))))
noncomputable def f_ref06_Check (a0:T_api_Batch):Option T_ref06_Wrong:=
 (((if(decide (a0.Term<(1:Int)))=true then(some true)else(some (decide ((1073741824:Int)<a0.Term)))):Option Bool).bind fun a=>(if a=true then(some (⟨(⟨(⟨#[116,101,114,109]⟩:ByteArray),a0.Term,(2:Int)⟩:T_ref05_Wrong),(-1:Int)⟩:T_ref06_Wrong))else(((if(decide (a0.Base<(0:Int)))=true then(some true)else(some (decide ((1073741824:Int)<a0.Base)))):Option Bool).bind fun b=>(if b=true then(some (⟨(⟨(⟨#[98,97,115,101]⟩:ByteArray),a0.Base,(2:Int)⟩:T_ref05_Wrong),(-1:Int)⟩:T_ref06_Wrong))else(((if(decide ((a0.Records.length:Int)<(1:Int)))=true then(some true)else(some (decide ((64:Int)<(a0.Records.length:Int))))):Option Bool).bind fun c=>(if c=true then(some (⟨(⟨(⟨#[114,101,99,111,114,100,115]⟩:ByteArray),(a0.Records.length:Int),(6:Int)⟩:T_ref05_Wrong),(-1:Int)⟩:T_ref06_Wrong))else((((iter (f_ref06_Check_l0 a0) (0:Int)).bind (Sum.elim (fun _=>(some (inl ()))) (fun(d,e,f,g)=>(((some (⟨(⟨d,e,f⟩:T_ref05_Wrong),g⟩:T_ref06_Wrong))).bind fun r=>some (inr r))))):Option (Unit⊕T_ref06_Wrong)).bind (Sum.elim (fun _=>(some lit5_)) some))))))))
def f_ref06_Check_post (a0:T_api_Batch) (b:Value):T_ref06_Wrong→Value→IM→HL→Prop:=
 fun(a:T_ref06_Wrong) (v:Value) (M':IM) (H':HL)=>(.agg #[(.string a.W.Op),(.int .i64 a.W.At),(.int .i64 a.W.Code),(.int .i64 a.Record)])=v∧H'=[]
theorem f_ref06_Check_ok (a0:T_api_Batch) (M:IM) (c:Value) (e:RS kd_api_Record M c a0.Records) (res:T_ref06_Wrong) (h:f_ref06_Check a0=some res):
 Tri prog 43 #[(a55_ a0 c)] M [] (f_ref06_Check_post a0 c res):=by
 unfold f_ref06_Check at h
 refine Te func43 Z Z ?_
 intro F ρ hρ
 refine Sr (We (box (cs:=(l55 a0 c).toArray) (congrArg Value.cells (asE (a55_ a0 c) (hρ 0)))) Z ?_)
 rintro _ _ _ - ⟨rfl,d,rfl,rfl⟩
 refine We (Al ze42 Z) Z ?_
 rintro _ _ _ - ⟨rfl,q,rfl,rfl⟩
 refine Ns (qa (Iv 1073741824) (Nt (Cs ?_)))
 obtain ⟨S,a4,h⟩:=bnd h
 refine Jf (fun(S:Bool) ρ' M' H'=>M.le M'∧[(q, .cells z42_.toArray 42 (0,0))]::[(d, .cells (l55 a0 c).toArray 55 (0,0))]::F=H'∧ρ' 1=(pt d 0)∧ρ' 2=(pt q 0)∧ρ' 3=(Iv 1073741824)∧ρ' 14=(Bv S)) S ?_ ?_
 have h:=a4
 refine Cg (qu (pt d 0) (Fa fo55_0 Z Z) (qu (Iv a0.Term) (Lb 1 pl3 Z Z Z) (qu (Bv (decide (a0.Term<1))) (lss Z Z) (qm (Bv (decide (a0.Term<1))) ?_))))
 rcases Bi h with⟨j,h⟩ |⟨j,h⟩
 iterate 4 refine Of 9 Z Z j Z ?_
 refine qu (Bv true) (Pt Z j Z) (Wz ?_)
 obtain rfl:=oi h
 exact Tj ⟨lr,Z,Z,Z,Z,Z⟩
 refine qo 9 j (pt d 0) (Fa fo55_0 Z Z) (qo 9 j (Iv a0.Term) (Lb 1 pl3 Z Z Z) (On 9 Z Z j (qm (Iv 1073741824) (qo 9 j (Bv (decide ((1073741824:Int)<a0.Term))) (gtr Z Z) (qu (Bv (decide ((1073741824:Int)<a0.Term))) (Pf Z j Z) (Wz ?_))))))
 obtain rfl:=oi h
 exact Tj ⟨lr,Z,Z,Z,Z,Z⟩
 rintro c2 b7 c3 ⟨D,rfl,f,m,Q,E⟩
 refine Ch h E (fun a5 h=> ?_) (fun a5 h=> ?_)
 refine Sr (qu (pt d 0) (Fa fo55_0 f Z) (qu (Iv a0.Term) (Lb 1 pl3 Z Z Z) (qu (.agg #[(Sv ⟨#[116,101,114,109]⟩),(Iv a0.Term),(Iv 2)]) (Bl (cl:=[(Sv ⟨#[116,101,114,109]⟩),(Iv a0.Term),(Iv 2)]) ze40 fp40 (Pc (Sv ⟨#[116,101,114,109]⟩) Z Z (Pc (Iv a0.Term) Z Z (Pc (Iv 2) Z Z Pz))) Z) (qu (.agg #[(Sv ⟨#[116,101,114,109]⟩),(Iv a0.Term),(Iv 2),(Iv (-1:Int))]) (Bl (cl:=[(Sv ⟨#[116,101,114,109]⟩),(Iv a0.Term),(Iv 2),(Iv (-1:Int))]) ze42 fp42 (Pc (.agg #[(Sv ⟨#[116,101,114,109]⟩),(Iv a0.Term),(Iv 2)]) Z Z (Pc (Iv (-1:Int)) Z Z Pz)) Z) (We (Sg (v:=(.agg #[(Sv ⟨#[116,101,114,109]⟩),(Iv a0.Term),(Iv 2),(Iv (-1:Int))])) (vl:=[(Sv ⟨#[116,101,114,109]⟩),(Iv a0.Term),(Iv 2),(Iv (-1:Int))]) (arr':=[(Sv ⟨#[116,101,114,109]⟩),(Iv a0.Term),(Iv 2),(Iv (-1:Int))]) Z sz42 m Z (onb Z) Z Z Z) Z ?_)))))
 rintro _ _ _ - ⟨rfl,rfl⟩
 exact Nt (Cr (Tr (Qa (Dr (Rd h [] (fun _ hs=>hs.drop) (resultsL1 Z (Rc (cs:=[(Sv ⟨#[116,101,114,109]⟩),(Iv a0.Term),(Iv 2),(Iv (-1:Int))]) 0 ag42 sz42 m Z Z)) D ⟨Z,Z⟩)))))
 refine Ck (Tc (Cs ?_))
 obtain ⟨T,a6,h⟩:=bnd h
 refine Jf (fun(T:Bool) ρ' M' H'=>b7.le M'∧[(q, .cells z42_.toArray 42 (0,0))]::[(d, .cells (l55 a0 c).toArray 55 (0,0))]::F=H'∧ρ' 1=(pt d 0)∧ρ' 2=(pt q 0)∧ρ' 27=(Bv T)) T ?_ ?_
 have h:=a6
 refine Cg (qu (pt d 1) (Fa fo55_1 f Z) (qu (Iv a0.Base) (Lb 1 pl3 Z Z Z) (qu (Bv (decide (a0.Base<0))) (lss Z Z) (qm (Bv (decide (a0.Base<0))) ?_))))
 rcases Bi h with⟨k,h⟩ |⟨k,h⟩
 iterate 4 refine Of 22 Z Z k Z ?_
 refine qu (Bv true) (Pt Z k Z) (Wz ?_)
 obtain rfl:=oi h
 exact Tj ⟨lr,Z,f,m,Z⟩
 refine qo 22 k (pt d 1) (Fa fo55_1 f Z) (qo 22 k (Iv a0.Base) (Lb 1 pl3 Z Z Z) (On 22 Z Z k (qM (Iv 1073741824) Q (qo 22 k (Bv (decide ((1073741824:Int)<a0.Base))) (gtr Z Z) (qu (Bv (decide ((1073741824:Int)<a0.Base))) (Pf Z k Z) (Wz ?_))))))
 obtain rfl:=oi h
 exact Tj ⟨lr,Z,f,m,Z⟩
 rintro c4 b8 c5 ⟨U,rfl,g,o,G⟩
 have V:=D.trans U
 refine Ch h G (fun a7 h=> ?_) (fun a7 h=> ?_)
 refine Sr (qu (pt d 1) (Fa fo55_1 g Z) (qu (Iv a0.Base) (Lb 1 pl3 Z Z Z) (qu (.agg #[(Sv ⟨#[98,97,115,101]⟩),(Iv a0.Base),(Iv 2)]) (Bl (cl:=[(Sv ⟨#[98,97,115,101]⟩),(Iv a0.Base),(Iv 2)]) ze40 fp40 (Pc (Sv ⟨#[98,97,115,101]⟩) Z Z (Pc (Iv a0.Base) Z Z (Pc (Iv 2) Z Z Pz))) Z) (qu (.agg #[(Sv ⟨#[98,97,115,101]⟩),(Iv a0.Base),(Iv 2),(Iv (-1:Int))]) (Bl (cl:=[(Sv ⟨#[98,97,115,101]⟩),(Iv a0.Base),(Iv 2),(Iv (-1:Int))]) ze42 fp42 (Pc (.agg #[(Sv ⟨#[98,97,115,101]⟩),(Iv a0.Base),(Iv 2)]) Z Z (Pc (Iv (-1:Int)) Z Z Pz)) Z) (We (Sg (v:=(.agg #[(Sv ⟨#[98,97,115,101]⟩),(Iv a0.Base),(Iv 2),(Iv (-1:Int))])) (vl:=[(Sv ⟨#[98,97,115,101]⟩),(Iv a0.Base),(Iv 2),(Iv (-1:Int))]) (arr':=[(Sv ⟨#[98,97,115,101]⟩),(Iv a0.Base),(Iv 2),(Iv (-1:Int))]) Z sz42 o Z (onb Z) Z Z Z) Z ?_)))))
 rintro _ _ _ - ⟨rfl,rfl⟩
 exact Nt (Cr (Tr (Qa (Dr (Rd h [] (fun _ hs=>hs.drop) (resultsL1 Z (Rc (cs:=[(Sv ⟨#[98,97,115,101]⟩),(Iv a0.Base),(Iv 2),(Iv (-1:Int))]) 0 ag42 sz42 o Z Z)) V ⟨Z,Z⟩)))))
 refine Ck (Tc (Cs ?_))
 obtain ⟨W,a8,h⟩:=bnd h
 refine Jf (fun(W:Bool) ρ' M' H'=>b8.le M'∧[(q, .cells z42_.toArray 42 (0,0))]::[(d, .cells (l55 a0 c).toArray 55 (0,0))]::F=H'∧ρ' 1=(pt d 0)∧ρ' 2=(pt q 0)∧ρ' 41=(Bv W)) W ?_ ?_
 have h:=a8
 refine Cg (qu (pt d 2) (Fa fo55_2 g Z) (qu c (Lb 1 pl53 Z Z Z) ?_))
 have e:=e.mono V
 refine qu (Iv (a0.Records.length:Int)) (lenS underlying53 Z e.len) (qu (Bv (decide ((a0.Records.length:Int)<(1:Int)))) (lss Z Z) (qm (Bv (decide ((a0.Records.length:Int)<(1:Int)))) ?_))
 rcases Bi h with⟨l,h⟩ |⟨l,h⟩
 iterate 4 refine Of 36 Z Z l Z ?_
 refine qu (Bv true) (Pt Z l Z) (Wz ?_)
 obtain rfl:=oi h
 exact Tj ⟨lr,Z,g,o,Z⟩
 refine qo 36 l (pt d 2) (Fa fo55_2 g Z) (qo 36 l c (Lb 1 pl53 Z Z Z) (qo 36 l (Iv (a0.Records.length:Int)) (lenS underlying53 Z e.len) (qo 36 l (Bv (decide ((64:Int)<(a0.Records.length:Int)))) (gtr Z Z) (qu (Bv (decide ((64:Int)<(a0.Records.length:Int)))) (Pf Z l Z) (Wz ?_)))))
 obtain rfl:=oi h
 exact Tj ⟨lr,Z,g,o,Z⟩
 rintro c6 a9 c7 ⟨X,rfl,A,r,I⟩
 have J:=V.trans X
 refine Ch h I (fun b0 h=> ?_) (fun b0 h=> ?_)
 refine Sr (qu (pt d 2) (Fa fo55_2 A Z) (qu c (Lb 1 pl53 Z Z Z) ?_))
 have e:=e.mono J
 refine qu (Iv (a0.Records.length:Int)) (lenS underlying53 Z e.len) (qu (.agg #[(Sv ⟨#[114,101,99,111,114,100,115]⟩),(Iv (a0.Records.length:Int)),(Iv 6)]) (Bl (cl:=[(Sv ⟨#[114,101,99,111,114,100,115]⟩),(Iv (a0.Records.length:Int)),(Iv 6)]) ze40 fp40 (Pc (Sv ⟨#[114,101,99,111,114,100,115]⟩) Z Z (Pc (Iv (a0.Records.length:Int)) Z Z (Pc (Iv 6) Z Z Pz))) Z) (qu (.agg #[(Sv ⟨#[114,101,99,111,114,100,115]⟩),(Iv (a0.Records.length:Int)),(Iv 6),(Iv (-1:Int))]) (Bl (cl:=[(Sv ⟨#[114,101,99,111,114,100,115]⟩),(Iv (a0.Records.length:Int)),(Iv 6),(Iv (-1:Int))]) ze42 fp42 (Pc (.agg #[(Sv ⟨#[114,101,99,111,114,100,115]⟩),(Iv (a0.Records.length:Int)),(Iv 6)]) Z Z (Pc (Iv (-1:Int)) Z Z Pz)) Z) (We (Sg (v:=(.agg #[(Sv ⟨#[114,101,99,111,114,100,115]⟩),(Iv (a0.Records.length:Int)),(Iv 6),(Iv (-1:Int))])) (vl:=[(Sv ⟨#[114,101,99,111,114,100,115]⟩),(Iv (a0.Records.length:Int)),(Iv 6),(Iv (-1:Int))]) (arr':=[(Sv ⟨#[114,101,99,111,114,100,115]⟩),(Iv (a0.Records.length:Int)),(Iv 6),(Iv (-1:Int))]) Z sz42 r Z (onb Z) Z Z Z) Z ?_)))
 rintro _ _ _ - ⟨rfl,rfl⟩
 exact Nt (Cr (Tr (Qa (Dr (Rd h [] (fun _ hs=>hs.drop) (resultsL1 Z (Rc (cs:=[(Sv ⟨#[114,101,99,111,114,100,115]⟩),(Iv (a0.Records.length:Int)),(Iv 6),(Iv (-1:Int))]) 0 ag42 sz42 r Z Z)) J ⟨Z,Z⟩)))))
 refine Ck (Tc ?_)
 obtain ⟨b9,b1,h⟩:=bnd h
 refine WC.joinE (fun(_:Unit) ρ' M' H'=>a9.le M'∧[(q, .cells z42_.toArray 42 (0,0))]::[(d, .cells (l55 a0 c).toArray 55 (0,0))]::F=H'∧ρ' 2=(pt q 0)) b9 ?_ ?_
 have b2:=h
 have h:=b1
 refine Sr (qa (Iv 0) (Nt (Bk ?_)))
 obtain ⟨c8,b3,R⟩:=bnd h
 clear h
 refine WC.loop b3 (fun(a:Int) ρ' M' H'=>a9.le M'∧[(q, .cells z42_.toArray 42 (0,0))]::[(d, .cells (l55 a0 c).toArray 55 (0,0))]::F=H'∧ρ' 1=(pt d 0)∧ρ' 2=(pt q 0)∧ρ' 4=(Iv a)) ?_ ?_
 exact⟨lr,Z,A,r,Z⟩
 rintro a c9 d0 d1 d2 h ⟨s,rfl,t,p,i⟩
 unfold f_ref06_Check_l0 at h
 refine Cs (Sr (qM (Iv a) i (qu (pt d 2) (Fa fo55_2 t Z) (qu c (Lb 1 pl53 Z Z Z) ?_))))
 have e:=e.mono (J.trans s)
 refine qu (Iv (a0.Records.length:Int)) (lenS underlying53 Z e.len) (qu (Bv (decide (a<(a0.Records.length:Int)))) (lss Z Z) (Nt (Ch h Z (fun b4 h=> ?_) (fun b4 h=> ?_))))
 refine Ck (Tc (Cs (Bk (Sr (qu (pt d 2) (Fa fo55_2 t Z) (qu c (Lb 1 pl53 Z Z Z) (qM (Iv a) i ?_)))))))
 obtain ⟨B,h⟩:=grd_i h
 obtain ⟨c0,c1,Y,a1,hhas48⟩:=e.at B.1 B.2 (by decide)
 obtain ⟨u,w,x,y,rfl,K,L,N,O⟩:=kd_api_Record_open a1
 refine qu (.pointer (some c0)) (indexAddr (n:=a0.Records.length) underlying53 sz58 Z Z B.1 B.2 Y) (qu (a58_ (rd a0.Records a) u w x y) (loadMA (cs:=(l58 (rd a0.Records a) u w x y)) ag58 sz58 Z hhas48) ?_)
 obtain ⟨b,b5,h⟩:=bnd h
 refine We (Ca co74 (f_ref05_Check_ok (rd a0.Records a) _ _ _ _ _ K L N O b b5) (args1 Z)) Z ?_
 rintro _ d3 _ P ⟨_,⟨rfl,rfl⟩,rfl⟩
 refine WL.a0 (We (Al ze40 Z) Z ?_)
 rintro _ _ _ - ⟨rfl,a2,rfl,rfl⟩
 refine We (Sg (v:=(a40_ b)) (vl:=(l40 b)) (arr':=(l40 b)) Z sz40 Z Z (onb Z) Z Z Z) Z ?_
 rintro _ _ _ - ⟨rfl,rfl⟩
 refine Ns (qu (pt a2 2) (Fa fo40_2 Z Z) (qu (Iv b.Code) (Lb 0 pl38 Z Z Z) (qu (Bv (decide (b.Code≠0))) (neq Z Z) (Nt (Ch h Z (fun b6 h=> ?_) (fun b6 h=> ?_))))))
 refine Sr (qu (pt a2 0) (Fa fo40_0 Z Z) (qu (Sv b.Op) (Lb 0 pl9 Z Z Z) (qM (Iv a) i (qu (pt a2 2) (Fa fo40_2 Z Z) (qu (Iv b.Code) (Lb 0 pl38 Z Z Z) (qu (.agg #[(Sv b.Op),(Iv a),(Iv b.Code)]) (Bl (cl:=[(Sv b.Op),(Iv a),(Iv b.Code)]) ze40 fp40 (Pc (Sv b.Op) Z Z (Pc (Iv a) Z Z (Pc (Iv b.Code) Z Z Pz))) Z) (qM (Iv a) i (qu (.agg #[(Sv b.Op),(Iv a),(Iv b.Code),(Iv a)]) (Bl (cl:=[(Sv b.Op),(Iv a),(Iv b.Code),(Iv a)]) ze42 fp42 (Pc (.agg #[(Sv b.Op),(Iv a),(Iv b.Code)]) Z Z (Pc (Iv a) Z Z Pz)) Z) (WL.f1 (We (Sg (v:=(.agg #[(Sv b.Op),(Iv a),(Iv b.Code),(Iv a)])) (vl:=[(Sv b.Op),(Iv a),(Iv b.Code),(Iv a)]) (arr':=[(Sv b.Op),(Iv a),(Iv b.Code),(Iv a)]) Z sz42 p Z (onb Z) Z Z Z) Z ?_))))))))))
 rintro _ _ _ - ⟨rfl,rfl⟩
 refine Nt (Cr (Br (Tr (WQ.leaveR (inr (b.Op,a,b.Code,a)) (oi h).symm (fun z=> ?_)))))
 subst z
 have h:=(elimR R)
 refine Br (Tr ?_)
 have h:=KK.early h b2
 exact Qa (Dr (Qa (Dr (Rd h [] (fun _ hs=>hs.drop) (resultsL1 Z (Rc (cs:=[(Sv b.Op),(Iv a),(Iv b.Code),(Iv a)]) 0 ag42 sz42 p Z Z)) ((J.trans s).trans P) ⟨Z,Z⟩))))
 exact Ck (Bn (Tc (Cg (qM (Iv a) i (qu (Iv (i64.wrap (a+1))) (add Z Z) (qa (Iv (i64.wrap (a+1))) (Wz (Dr (WQ.again (i64.wrap (a+1)) (oi h).symm ⟨(s.trans P),Z,t,p,Z⟩)))))))))
 refine WC.exit (WQ.thenE (WQ.leaveE (inl ()) (oi h).symm (fun z=> ?_)))
 subst z
 have h:=elimL R
 exact WQ.blockH (WQ.thenFE h ⟨s,Z,p⟩)
 rintro _ d4 d5 d6 rfl ⟨a3,rfl,C⟩
 have h:=(Sum.elim_inl _ _ _).symm.trans h
 refine Sr (qu (.agg #[(Sv ⟨#[]⟩),(Iv 0),(Iv 0),(Iv (-1:Int))]) (Bl (cl:=[(Sv ⟨#[]⟩),(Iv 0),(Iv 0),(Iv (-1:Int))]) ze42 fp42 (Pc (Iv (-1:Int)) Z Z Pz) Z) (We (Sg (v:=(.agg #[(Sv ⟨#[]⟩),(Iv 0),(Iv 0),(Iv (-1:Int))])) (vl:=[(Sv ⟨#[]⟩),(Iv 0),(Iv 0),(Iv (-1:Int))]) (arr':=[(Sv ⟨#[]⟩),(Iv 0),(Iv 0),(Iv (-1:Int))]) Z sz42 C Z (onb Z) Z Z Z) Z ?_))
 rintro _ _ _ - ⟨rfl,rfl⟩
 exact Nt (Cr (Qa (Dr (Rd h [] (fun _ hs=>hs.drop) (resultsL1 Z (Rc (cs:=[(Sv ⟨#[]⟩),(Iv 0),(Iv 0),(Iv (-1:Int))]) 0 ag42 sz42 C Z Z)) (J.trans a3) ⟨Z,Z⟩))))
noncomputable def f_ref07_Check_l0 (a0:T_api_Rpc) (s_:Int):Option (Int⊕(Unit⊕(ByteArray×Int×Int×Int))):=
 match s_ with
 |a=>
 (if(decide (a<(a0.Batches.length:Int)))=true then(grd (0≤a∧a<a0.Batches.length) ((f_ref06_Check (rd a0.Batches a)).bind fun b=>(if(decide (b.W.Code≠(0:Int)))=true then(some (inr (inr (b.W.Op,a,b.W.Code,(-1:Int)))))else(some (inl (i64.wrap (a+(1:Int))))))))else(some (inr (inl ()))))
noncomputable def f_ref07_Check (a0:T_api_Rpc):Option T_ref06_Wrong:=
 (((if(decide (a0.Kind<(1:Int)))=true then(some true)else(some (decide ((8:Int)<a0.Kind)))):Option Bool).bind fun C=>(if C=true then((f_ref07_no (⟨#[107,105,110,100]⟩:ByteArray) a0.Kind (5:Int)).bind fun D=>(some D))else(((if(decide (a0.From<(1:Int)))=true then(some true)else(if(decide ((1073741824:Int)<a0.From))=true then(some true)else(if(decide (a0.To<(1:Int)))=true then(some true)else(if(decide ((1073741824:Int)<a0.To))=true then(some true)else(some (decide (a0.From=a0.To))))))):Option Bool).bind fun E=>(if E=true then((f_ref07_no (⟨#[102,114,111,109]⟩:ByteArray) a0.From (2:Int)).bind fun G=>(some G))else(((if(decide (a0.Term<(0:Int)))=true then(some true)else(some (decide ((1073741824:Int)<a0.Term)))):Option Bool).bind fun I=>(if I=true then((f_ref07_no (⟨#[116,101,114,109]⟩:ByteArray) a0.Term (2:Int)).bind fun J=>(some J))else(((if a0.Pre=true then((f_ref07_has a0.Kind (97:Int)).bind fun K=>(if(!K)=true then(some true)else(if a0.Ok=true then((f_ref07_has a0.Kind (103:Int)).bind fun L=>(some (!L)))else(some false))))else(if a0.Ok=true then((f_ref07_has a0.Kind (103:Int)).bind fun N=>(some (!N)))else(some false))):Option Bool).bind fun O=>(if O=true then((f_ref07_no (⟨#[102,108,97,103]⟩:ByteArray) (1:Int) (1:Int)).bind fun P=>(some P))else((f_ref07_has a0.Kind (108:Int)).bind fun Q=>((f_ref07_num a0.Leader Q (1073741824:Int)).bind fun R=>(if(!R)=true then((f_ref07_no (⟨#[108,101,97,100,101,114]⟩:ByteArray) a0.Leader (2:Int)).bind fun S=>(some S))else((((f_ref07_has a0.Kind (112:Int)).bind fun T=>((f_ref07_num a0.At T (1073741824:Int)).bind fun a=>(if(!a)=true then(some true)else((f_ref07_has a0.Kind (112:Int)).bind fun b=>((f_ref07_num a0.AtTerm b (1073741824:Int)).bind fun c=>(some (!c))))))):Option Bool).bind fun U=>(if U=true then((f_ref07_no (⟨#[112,108,97,99,101]⟩:ByteArray) a0.At (2:Int)).bind fun d=>(some d))else((f_ref07_has a0.Kind (104:Int)).bind fun e=>((f_ref07_num a0.High e (1073741824:Int)).bind fun f=>(if(!f)=true then((f_ref07_no (⟨#[104,105,103,104]⟩:ByteArray) a0.High (2:Int)).bind fun g=>(some g))else((f_ref07_has a0.Kind (99:Int)).bind fun i=>((f_ref07_num a0.Code i (21:Int)).bind fun j=>(if(!j)=true then((f_ref07_no (⟨#[99,111,100,101]⟩:ByteArray) a0.Code (2:Int)).bind fun k=>(some k))else((((f_ref07_has a0.Kind (115:Int)).bind fun l=>((f_ref07_num a0.Size l (1073741824:Int)).bind fun m=>(if(!m)=true then(some true)else((f_ref07_has a0.Kind (111:Int)).bind fun n=>((f_ref07_num a0.Pos n (1073741824:Int)).bind fun o=>(some (!o))))))):Option Bool).bind fun p=>(if p=true then((f_ref07_no (⟨#[115,105,122,101]⟩:ByteArray) a0.Size (2:Int)).bind fun q=>(some q))else(((if(decide ((512:Int)<(a0.Data.length:Int)))=true then(some true)else(if(decide ((0:Int)<(a0.Data.length:Int)))=true then((f_ref07_has a0.Kind (100:Int)).bind fun s=>(some (!s)))else(some false))):Option Bool).bind fun t=>(if t=true then((f_ref07_no (⟨#[100,97,116,97]⟩:ByteArray) (a0.Data.length:Int) (6:Int)).bind fun u=>(some u))else(((if(decide ((8:Int)<(a0.Batches.length:Int)))=true then(some true)else(if(decide ((0:Int)<(a0.Batches.length:Int)))=true then((f_ref07_has a0.Kind (98:Int)).bind fun v=>(some (!v)))else(some false))):Option Bool).bind fun w=>(if w=true then((f_ref07_no (⟨#[98,97,116,99,104,101,115]⟩:ByteArray) (a0.Batches.length:Int) (6:Int)).bind fun x=>(some x))else((((iter (f_ref07_Check_l0 a0) (0:Int)).bind (Sum.elim (fun _=>(some (inl ()))) (fun(y,z,A,B)=>(((some (⟨(⟨y,z,A⟩:T_ref05_Wrong),B⟩:T_ref06_Wrong))).bind fun r=>some (inr r))))):Option (Unit⊕T_ref06_Wrong)).bind (Sum.elim (fun _=>(some lit5_)) some)))))))))))))))))))))))))))
def f_ref07_Check_post (a0:T_api_Rpc) (b c:Value):T_ref06_Wrong→Value→IM→HL→Prop:=
 fun(a:T_ref06_Wrong) (v:Value) (M':IM) (H':HL)=>(.agg #[(.string a.W.Op),(.int .i64 a.W.At),(.int .i64 a.W.Code),(.int .i64 a.Record)])=v∧H'=[]
theorem f_ref07_Check_ok (a0:T_api_Rpc) (M:IM) (c f:Value) (p:RS kd_api_Batch M c a0.Batches) (E:RS (Kd.int .u8) M f a0.Data) (res:T_ref06_Wrong) (h:f_ref07_Check a0=some res):
 Tri prog 14 #[(a25_ a0 c f)] M [] (f_ref07_Check_post a0 c f res):=by
 unfold f_ref07_Check at h
 refine Te func14 Z Z ?_
 intro F ρ hρ
 refine Sr (We (box (cs:=(l25 a0 c f).toArray) (congrArg Value.cells (asE (a25_ a0 c f) (hρ 0)))) Z ?_)
 rintro _ _ _ - ⟨rfl,a,rfl,rfl⟩
 refine We (Al ze42 Z) Z ?_
 rintro _ _ _ - ⟨rfl,s,rfl,rfl⟩
 refine Ns (qu (pt a 0) (Fa fo25_0 Z Z) (qu (Iv a0.Kind) (Lb 1 pl3 Z Z Z) (qa (Iv a0.Kind) (Nt (Cs ?_)))))
 obtain ⟨i9,o1,h⟩:=bnd h
 refine Jf (fun(i9:Bool) ρ' M' H'=>M.le M'∧[(s, .cells z42_.toArray 42 (0,0))]::[(a, .cells (l25 a0 c f).toArray 25 (0,0))]::F=H'∧ρ' 1=(pt a 0)∧ρ' 2=(pt s 0)∧ρ' 3=(Iv a0.Kind)∧ρ' 13=(Bv i9)) i9 ?_ ?_
 have h:=o1
 refine Cg (qm (Iv a0.Kind) (qu (Bv (decide (a0.Kind<1))) (lss Z Z) (qm (Bv (decide (a0.Kind<1))) ?_)))
 rcases Bi h with⟨a4,h⟩ |⟨a4,h⟩
 iterate 2 refine Of 10 Z Z a4 Z ?_
 refine qu (Bv true) (Pt Z a4 Z) (Wz ?_)
 obtain rfl:=oi h
 exact Tj ⟨lr,Z,Z,Z,Z,Z⟩
 refine On 10 Z Z a4 (qm (Iv a0.Kind) (qo 10 a4 (Bv (decide ((8:Int)<a0.Kind))) (gtr Z Z) (qu (Bv (decide ((8:Int)<a0.Kind))) (Pf Z a4 Z) (Wz ?_))))
 obtain rfl:=oi h
 exact Tj ⟨lr,Z,Z,Z,Z,Z⟩
 rintro v8 r7 v9 ⟨d1,rfl,j,w,B,d2⟩
 refine Ch h d2 (fun o2 h=> ?_) (fun o2 h=> ?_)
 refine Sr (qM (Iv a0.Kind) B ?_)
 obtain ⟨d3,o3,h⟩:=bnd h
 refine We (Ca co40 (f_ref07_no_ok ⟨#[107,105,110,100]⟩ a0.Kind (5:Int) _ d3 o3) (args3 Z Z Z)) Z ?_
 rintro _ w0 _ j0 ⟨_,⟨rfl,rfl⟩,rfl⟩
 refine WL.a0 (We (Sg (v:=(a42_ d3)) (vl:=(l42 d3)) (arr':=(l42 d3)) Z sz42 w Z (onb Z) Z Z Z) Z ?_)
 rintro _ _ _ - ⟨rfl,rfl⟩
 exact Nt (Cr (Tr (Qa (Dr (Rd h [] (fun _ hs=>hs.drop) (resultsL1 Z (Rc (cs:=(l42 d3)) 0 ag42 sz42 w Z Z)) (d1.trans j0) ⟨Z,Z⟩)))))
 refine Ck (Tc (Cs ?_))
 obtain ⟨j1,o4,h⟩:=bnd h
 refine Jf (fun(j1:Bool) ρ' M' H'=>r7.le M'∧[(s, .cells z42_.toArray 42 (0,0))]::[(a, .cells (l25 a0 c f).toArray 25 (0,0))]::F=H'∧ρ' 1=(pt a 0)∧ρ' 2=(pt s 0)∧ρ' 3=(Iv a0.Kind)∧ρ' 40=(Bv j1)) j1 ?_ ?_
 have h:=o4
 refine Cg (qu (pt a 1) (Fa fo25_1 j Z) (qu (Iv a0.From) (Lb 1 pl3 Z Z Z) (qu (Bv (decide (a0.From<1))) (lss Z Z) (qm (Bv (decide (a0.From<1))) ?_))))
 rcases Bi h with⟨S,h⟩ |⟨S,h⟩
 iterate 3 refine Of 19 Z Z S Z ?_
 refine qu (Bv true) (Pt Z S Z) (qm (Bv true) ?_)
 iterate 3 refine Of 24 Z Z Z Z ?_
 refine qu (Bv true) (Pt Z Z Z) (qm (Bv true) ?_)
 iterate 3 refine Of 29 Z Z Z Z ?_
 refine qu (Bv true) (Pt Z Z Z) (qm (Bv true) ?_)
 iterate 5 refine Of 34 Z Z Z Z ?_
 refine qu (Bv true) (Pt Z Z Z) (Wz ?_)
 obtain rfl:=oi h
 exact Tj ⟨lr,Z,j,w,B,Z⟩
 refine qo 19 S (pt a 1) (Fa fo25_1 j Z) (qo 19 S (Iv a0.From) (Lb 1 pl3 Z Z Z) (qo 19 S (Bv (decide ((1073741824:Int)<a0.From))) (gtr Z Z) (qu (Bv (decide ((1073741824:Int)<a0.From))) (Pf Z S Z) (qm (Bv (decide ((1073741824:Int)<a0.From))) ?_))))
 rcases Bi h with⟨T,h⟩ |⟨T,h⟩
 iterate 3 refine Of 24 Z Z T Z ?_
 refine qu (Bv true) (Pt Z T Z) (qm (Bv true) ?_)
 iterate 3 refine Of 29 Z Z Z Z ?_
 refine qu (Bv true) (Pt Z Z Z) (qm (Bv true) ?_)
 iterate 5 refine Of 34 Z Z Z Z ?_
 refine qu (Bv true) (Pt Z Z Z) (Wz ?_)
 obtain rfl:=oi h
 exact Tj ⟨lr,Z,j,w,B,Z⟩
 refine qo 24 T (pt a 2) (Fa fo25_2 j Z) (qo 24 T (Iv a0.To) (Lb 1 pl3 Z Z Z) (qo 24 T (Bv (decide (a0.To<1))) (lss Z Z) (qu (Bv (decide (a0.To<1))) (Pf Z T Z) (qm (Bv (decide (a0.To<1))) ?_))))
 rcases Bi h with⟨U,h⟩ |⟨U,h⟩
 iterate 3 refine Of 29 Z Z U Z ?_
 refine qu (Bv true) (Pt Z U Z) (qm (Bv true) ?_)
 iterate 5 refine Of 34 Z Z Z Z ?_
 refine qu (Bv true) (Pt Z Z Z) (Wz ?_)
 obtain rfl:=oi h
 exact Tj ⟨lr,Z,j,w,B,Z⟩
 refine qo 29 U (pt a 2) (Fa fo25_2 j Z) (qo 29 U (Iv a0.To) (Lb 1 pl3 Z Z Z) (qo 29 U (Bv (decide ((1073741824:Int)<a0.To))) (gtr Z Z) (qu (Bv (decide ((1073741824:Int)<a0.To))) (Pf Z U Z) (qm (Bv (decide ((1073741824:Int)<a0.To))) ?_))))
 rcases Bi h with⟨J,h⟩ |⟨J,h⟩
 iterate 5 refine Of 34 Z Z J Z ?_
 refine qu (Bv true) (Pt Z J Z) (Wz ?_)
 obtain rfl:=oi h
 exact Tj ⟨lr,Z,j,w,B,Z⟩
 refine qo 34 J (pt a 1) (Fa fo25_1 j Z) (qo 34 J (Iv a0.From) (Lb 1 pl3 Z Z Z) (qo 34 J (pt a 2) (Fa fo25_2 j Z) (qo 34 J (Iv a0.To) (Lb 1 pl3 Z Z Z) (qo 34 J (Bv (decide (a0.From=a0.To))) (eql Z Z) (qu (Bv (decide (a0.From=a0.To))) (Pf Z J Z) (Wz ?_))))))
 obtain rfl:=oi h
 exact Tj ⟨lr,Z,j,w,B,Z⟩
 rintro w1 r8 w2 ⟨j2,rfl,K,Q,c2,d4⟩
 have o5:=d1.trans j2
 refine Ch h d4 (fun o6 h=> ?_) (fun o6 h=> ?_)
 refine Sr (qu (pt a 1) (Fa fo25_1 K Z) (qu (Iv a0.From) (Lb 1 pl3 Z Z Z) ?_))
 obtain ⟨d5,o7,h⟩:=bnd h
 refine We (Ca co40 (f_ref07_no_ok ⟨#[102,114,111,109]⟩ a0.From (2:Int) _ d5 o7) (args3 Z Z Z)) Z ?_
 rintro _ w3 _ j3 ⟨_,⟨rfl,rfl⟩,rfl⟩
 refine WL.a0 (We (Sg (v:=(a42_ d5)) (vl:=(l42 d5)) (arr':=(l42 d5)) Z sz42 Q Z (onb Z) Z Z Z) Z ?_)
 rintro _ _ _ - ⟨rfl,rfl⟩
 exact Nt (Cr (Tr (Qa (Dr (Rd h [] (fun _ hs=>hs.drop) (resultsL1 Z (Rc (cs:=(l42 d5)) 0 ag42 sz42 Q Z Z)) (o5.trans j3) ⟨Z,Z⟩)))))
 refine Ck (Tc (Cs ?_))
 obtain ⟨j4,o8,h⟩:=bnd h
 refine Jf (fun(j4:Bool) ρ' M' H'=>r8.le M'∧[(s, .cells z42_.toArray 42 (0,0))]::[(a, .cells (l25 a0 c f).toArray 25 (0,0))]::F=H'∧ρ' 1=(pt a 0)∧ρ' 2=(pt s 0)∧ρ' 3=(Iv a0.Kind)∧ρ' 51=(Bv j4)) j4 ?_ ?_
 have h:=o8
 refine Cg (qu (pt a 3) (Fa fo25_3 K Z) (qu (Iv a0.Term) (Lb 1 pl3 Z Z Z) (qu (Bv (decide (a0.Term<0))) (lss Z Z) (qm (Bv (decide (a0.Term<0))) ?_))))
 rcases Bi h with⟨V,h⟩ |⟨V,h⟩
 iterate 3 refine Of 47 Z Z V Z ?_
 refine qu (Bv true) (Pt Z V Z) (Wz ?_)
 obtain rfl:=oi h
 exact Tj ⟨lr,Z,K,Q,c2,Z⟩
 refine qo 47 V (pt a 3) (Fa fo25_3 K Z) (qo 47 V (Iv a0.Term) (Lb 1 pl3 Z Z Z) (qo 47 V (Bv (decide ((1073741824:Int)<a0.Term))) (gtr Z Z) (qu (Bv (decide ((1073741824:Int)<a0.Term))) (Pf Z V Z) (Wz ?_))))
 obtain rfl:=oi h
 exact Tj ⟨lr,Z,K,Q,c2,Z⟩
 rintro w4 r9 w5 ⟨j5,rfl,m,x,q,d6⟩
 have o9:=o5.trans j5
 refine Ch h d6 (fun p0 h=> ?_) (fun p0 h=> ?_)
 refine Sr (qu (pt a 3) (Fa fo25_3 m Z) (qu (Iv a0.Term) (Lb 1 pl3 Z Z Z) ?_))
 obtain ⟨d7,p1,h⟩:=bnd h
 refine We (Ca co40 (f_ref07_no_ok ⟨#[116,101,114,109]⟩ a0.Term (2:Int) _ d7 p1) (args3 Z Z Z)) Z ?_
 rintro _ w6 _ j6 ⟨_,⟨rfl,rfl⟩,rfl⟩
 refine WL.a0 (We (Sg (v:=(a42_ d7)) (vl:=(l42 d7)) (arr':=(l42 d7)) Z sz42 x Z (onb Z) Z Z Z) Z ?_)
 rintro _ _ _ - ⟨rfl,rfl⟩
 exact Nt (Cr (Tr (Qa (Dr (Rd h [] (fun _ hs=>hs.drop) (resultsL1 Z (Rc (cs:=(l42 d7)) 0 ag42 sz42 x Z Z)) (o9.trans j6) ⟨Z,Z⟩)))))
 refine Ck (Tc (Cs ?_))
 obtain ⟨j7,p2,h⟩:=bnd h
 refine Jf (fun(j7:Bool) ρ' M' H'=>r9.le M'∧[(s, .cells z42_.toArray 42 (0,0))]::[(a, .cells (l25 a0 c f).toArray 25 (0,0))]::F=H'∧ρ' 1=(pt a 0)∧ρ' 2=(pt s 0)∧ρ' 3=(Iv a0.Kind)∧ρ' 70=(Bv j7)) j7 ?_ ?_
 have h:=p2
 refine Cg (qu (pt a 4) (Fa fo25_4 m Z) (qu (Bv a0.Pre) (Lb 1 pl4 Z Z Z) (qm (Bv a0.Pre) ?_)))
 rcases Bi h with⟨X,h⟩ |⟨X,h⟩
 refine On 57 Z Z X (qM (Iv a0.Kind) q (On 57 Z Z X ?_))
 obtain ⟨f4,p3,h⟩:=bnd h
 refine We (Ca co41 (f_ref07_has_ok a0.Kind (97:Int) _ f4 p3) (args2 Z Z)) Z ?_
 rintro _ w7 _ b8 ⟨_,⟨rfl,rfl⟩,rfl⟩
 refine WL.a0 (qo 57 X (Bv (!f4)) (PO.not Z) (qu (Bv (!f4)) (Pt Z X Z) (qm (Bv (!f4)) ?_)))
 rcases Bi h with⟨y,h⟩ |⟨y,h⟩
 iterate 3 refine Of 62 Z Z y Z ?_
 refine WL.offU 65 Z Z Z (WL.offU 65 Z Z Z (WL.offU 65 Z Z Z (Of 62 Z Z y Z (qu (Bv true) (Pt Z y Z) (Wz ?_)))))
 obtain rfl:=oi h
 exact Tj ⟨b8,Z,m,x,q,Z⟩
 refine qo 62 y (pt a 5) (Fa fo25_5 m Z) (qo 62 y (Bv a0.Ok) (Lb 1 pl4 Z Z Z) (On 62 Z Z y (qm (Bv a0.Ok) ?_)))
 rcases Bi h with⟨Y,h⟩ |⟨Y,h⟩
 refine On 65 Z Z Y (qM (Iv a0.Kind) q (On 65 Z Z Y ?_))
 obtain ⟨f5,p4,h⟩:=bnd h
 refine We (Ca co41 (f_ref07_has_ok a0.Kind (103:Int) _ f5 p4) (args2 Z Z)) Z ?_
 rintro _ w8 _ j8 ⟨_,⟨rfl,rfl⟩,rfl⟩
 refine WL.a0 (qo 65 Y (Bv (!f5)) (PO.not Z) (qo 62 y (Bv (!f5)) (Pt Z Y Z) (qu (Bv (!f5)) (Pf Z y Z) (Wz ?_))))
 obtain rfl:=oi h
 exact Tj ⟨(b8.trans j8),Z,m,x,q,Z⟩
 iterate 3 refine Of 65 Z Z Y Z ?_
 refine qo 62 y (Bv false) (Pf Z Y Z) (qu (Bv false) (Pf Z y Z) (Wz ?_))
 obtain rfl:=oi h
 exact Tj ⟨b8,Z,m,x,q,Z⟩
 iterate 3 refine Of 57 Z Z X Z ?_
 refine qu (Bv false) (Pf Z X Z) (qm (Bv false) (qo 62 Z (pt a 5) (Fa fo25_5 m Z) (qo 62 Z (Bv a0.Ok) (Lb 1 pl4 Z Z Z) (On 62 Z Z Z (qm (Bv a0.Ok) ?_)))))
 rcases Bi h with⟨a1,h⟩ |⟨a1,h⟩
 refine On 65 Z Z a1 (qM (Iv a0.Kind) q (On 65 Z Z a1 ?_))
 obtain ⟨f6,p5,h⟩:=bnd h
 refine We (Ca co41 (f_ref07_has_ok a0.Kind (103:Int) _ f6 p5) (args2 Z Z)) Z ?_
 rintro _ w9 _ j9 ⟨_,⟨rfl,rfl⟩,rfl⟩
 refine WL.a0 (qo 65 a1 (Bv (!f6)) (PO.not Z) (qo 62 Z (Bv (!f6)) (Pt Z a1 Z) (qu (Bv (!f6)) (Pf Z Z Z) (Wz ?_))))
 obtain rfl:=oi h
 exact Tj ⟨j9,Z,m,x,q,Z⟩
 iterate 3 refine Of 65 Z Z a1 Z ?_
 refine qo 62 Z (Bv false) (Pf Z a1 Z) (qu (Bv false) (Pf Z Z Z) (Wz ?_))
 obtain rfl:=oi h
 exact Tj ⟨lr,Z,m,x,q,Z⟩
 rintro x0 x1 x2 ⟨k0,rfl,o,C,L,d8⟩
 have p6:=o9.trans k0
 refine Ch h d8 (fun p7 h=> ?_) (fun p7 h=> ?_)
 refine Sr ?_
 obtain ⟨d9,p8,h⟩:=bnd h
 refine We (Ca co40 (f_ref07_no_ok ⟨#[102,108,97,103]⟩ (1:Int) (1:Int) _ d9 p8) (args3 Z Z Z)) Z ?_
 rintro _ x3 _ k1 ⟨_,⟨rfl,rfl⟩,rfl⟩
 refine WL.a0 (We (Sg (v:=(a42_ d9)) (vl:=(l42 d9)) (arr':=(l42 d9)) Z sz42 C Z (onb Z) Z Z Z) Z ?_)
 rintro _ _ _ - ⟨rfl,rfl⟩
 exact Nt (Cr (Tr (Qa (Dr (Rd h [] (fun _ hs=>hs.drop) (resultsL1 Z (Rc (cs:=(l42 d9)) 0 ag42 sz42 C Z Z)) (p6.trans k1) ⟨Z,Z⟩)))))
 refine Ck (Tc (Cs (Cs (WC.draw [0,1,0,4,15,31] (.pure 0 (.pure 1 (.pure 2 (.alt 3 (.alt 4 (.pure 5 .done) .none) .none)))) mixed (by kernel_rfl) (qt (pt a 6) Z (Fa fo25_6 o Z) (qt (Iv a0.Leader) Z (Lb 1 pl3 Z Z Z) (qt (Iv a0.Kind) Z (Mv L) ?_)))))))
 obtain ⟨p9,q0,h⟩:=bnd h
 refine Ta Z (Ca co41 (f_ref07_has_ok a0.Kind (108:Int) _ p9 q0) (args2 Z Z)) Z ?_ ?_
 rintro _ x4 _ k2 ⟨_,⟨rfl,rfl⟩,rfl⟩
 have s0:=p6.trans k2
 refine⟨(Sk 1 Z (Ss Z (Lb 1 pl3 Z Z Z) Z (Ss Z (Fa fo25_6 o Z) Z trivial))), ?_⟩
 refine WT.a0 ?_
 obtain ⟨q1,q2,h⟩:=bnd h
 refine Ta Z (Ca co42 (f_ref07_num_ok a0.Leader p9 (1073741824:Int) _ q1 q2) (args3 Z Z Z)) Z ?_ ?_
 rintro _ s1 _ k3 ⟨_,⟨rfl,rfl⟩,rfl⟩
 have q3:=s0.trans k3
 refine⟨(Sl Z), ?_⟩
 refine WT.a0 (qt (Bv (!q1)) Z (PO.not Z) (Ti (Tc (Ch h Z (fun q4 h=> ?_) (fun q4 h=> ?_)))))
 refine Sr (qu (pt a 6) (Fa fo25_6 o Z) (qu (Iv a0.Leader) (Lb 1 pl3 Z Z Z) ?_))
 obtain ⟨e0,q5,h⟩:=bnd h
 refine We (Ca co40 (f_ref07_no_ok ⟨#[108,101,97,100,101,114]⟩ a0.Leader (2:Int) _ e0 q5) (args3 Z Z Z)) Z ?_
 rintro _ x5 _ k4 ⟨_,⟨rfl,rfl⟩,rfl⟩
 refine WL.a0 (We (Sg (v:=(a42_ e0)) (vl:=(l42 e0)) (arr':=(l42 e0)) Z sz42 C Z (onb Z) Z Z Z) Z ?_)
 rintro _ _ _ - ⟨rfl,rfl⟩
 exact Nt (Cr (Tr (Qa (Dr (Rd h [] (fun _ hs=>hs.drop) (resultsL1 Z (Rc (cs:=(l42 e0)) 0 ag42 sz42 C Z Z)) (q3.trans k4) ⟨Z,Z⟩)))))
 refine Ck (Tc (Cs ?_))
 obtain ⟨k5,q6,h⟩:=bnd h
 refine Jf (fun(k5:Bool) ρ' M' H'=>s1.le M'∧[(s, .cells z42_.toArray 42 (0,0))]::[(a, .cells (l25 a0 c f).toArray 25 (0,0))]::F=H'∧ρ' 1=(pt a 0)∧ρ' 2=(pt s 0)∧ρ' 3=(Iv a0.Kind)∧ρ' 94=(Bv k5)) k5 ?_ ?_
 have h:=q6
 refine WC.draw [0,1,0,4,15,31,63,127,255,127,639,2047,4095,8191] (.pure 0 (.pure 1 (.pure 2 (.alt 3 (.alt 4 (.pure 5 (.pure 6 (.pure 7 (.pure 8 (.pure 9 (.alt 10 (.alt 11 (.pure 12 (.pure 13 .done)) .none) .none)))))) .none) .none)))) mixed (by kernel_rfl) (qt (pt a 7) Z (Fa fo25_7 o Z) (qt (Iv a0.At) Z (Lb 1 pl3 Z Z Z) (qt (Iv a0.Kind) Z (Mv L) ?_)))
 obtain ⟨q7,q8,h⟩:=bnd h
 refine Ta Z (Ca co41 (f_ref07_has_ok a0.Kind (112:Int) _ q7 q8) (args2 Z Z)) Z ?_ ?_
 rintro _ s3 _ c3 ⟨_,⟨rfl,rfl⟩,rfl⟩
 refine⟨(Sk 1 Z (Ss Z (Lb 1 pl3 Z Z Z) Z (Ss Z (Fa fo25_7 o Z) Z trivial))), ?_⟩
 refine WT.a0 ?_
 obtain ⟨e1,k6,h⟩:=bnd h
 refine Ta Z (Ca co42 (f_ref07_num_ok a0.At q7 (1073741824:Int) _ e1 k6) (args3 Z Z Z)) Z ?_ ?_
 rintro _ s4 _ c4 ⟨_,⟨rfl,rfl⟩,rfl⟩
 refine⟨(Sl Z), ?_⟩
 refine WT.a0 (qt (Bv (!e1)) Z (PO.not Z) (qt (Bv (!e1)) Z (Mv Z) ?_))
 rcases Bi h with⟨d,h⟩ |⟨d,h⟩
 refine Tf 87 Z Z Z d Z (Tf 87 Z Z Z d Z (Tf 87 Z Z Z d Z (Tg 87 Z Z Z d Z ⟨(Sk 1 Z (St (Sf 87 Z Z Z d Z) (St (Sf 87 Z Z Z d Z) (Sl Z)))), ?_⟩ ?_)))
 refine Tg 87 Z Z Z d Z ⟨(Sl Z), ?_⟩ ?_
 refine Tf 87 Z Z Z d Z (qt (Bv true) Z (Pt Z d Z) (Ti ?_))
 obtain rfl:=oi h
 exact Tj ⟨(c3.trans c4),Z,o,C,L,Z⟩
 exact Tz
 exact Tz
 refine Tn (pt a 8) 87 Z Z Z d (Fa fo25_8 o Z) Z (Tn (Iv a0.AtTerm) 87 Z Z Z d (Lb 1 pl3 Z Z Z) Z (Tn (Iv a0.Kind) 87 Z Z Z d (Mv L) Z ?_))
 obtain ⟨h9,k7,h⟩:=bnd h
 refine WT.altOn 87 Z Z Z d (Ca co41 (f_ref07_has_ok a0.Kind (112:Int) _ h9 k7) (args2 Z Z)) Z ?_ ?_
 rintro _ s5 _ f7 ⟨_,⟨rfl,rfl⟩,rfl⟩
 refine⟨(Sk 1 Z (St (StabA.on 87 Z Z Z d (Lb 1 pl3 Z Z Z) Z) (St (StabA.on 87 Z Z Z d (Fa fo25_8 o Z) Z) (Sl Z)))), ?_⟩
 refine WT.a0 ?_
 obtain ⟨e2,k8,h⟩:=bnd h
 refine WT.altOn 87 Z Z Z d (Ca co42 (f_ref07_num_ok a0.AtTerm h9 (1073741824:Int) _ e2 k8) (args3 Z Z Z)) Z ?_ ?_
 rintro _ s6 _ f8 ⟨_,⟨rfl,rfl⟩,rfl⟩
 refine⟨(Sl Z), ?_⟩
 refine WT.a0 (Tn (Bv (!e2)) 87 Z Z Z d (PO.not Z) Z (qt (Bv (!e2)) Z (Pf Z d Z) (Ti ?_)))
 obtain rfl:=oi h
 exact Tj ⟨(((c3.trans c4).trans f7).trans f8),Z,o,C,L,Z⟩
 exact Tz
 exact Tz
 exact Tz
 exact Tz
 rintro x6 x7 x8 ⟨k9,rfl,i,r,D,e3⟩
 have q9:=q3.trans k9
 refine Ch h e3 (fun l0 h=> ?_) (fun l0 h=> ?_)
 refine Sr (qu (pt a 7) (Fa fo25_7 i Z) (qu (Iv a0.At) (Lb 1 pl3 Z Z Z) ?_))
 obtain ⟨a8,l1,h⟩:=bnd h
 refine We (Ca co40 (f_ref07_no_ok ⟨#[112,108,97,99,101]⟩ a0.At (2:Int) _ a8 l1) (args3 Z Z Z)) Z ?_
 rintro _ s7 _ f9 ⟨_,⟨rfl,rfl⟩,rfl⟩
 refine WL.a0 (We (Sg (v:=(a42_ a8)) (vl:=(l42 a8)) (arr':=(l42 a8)) Z sz42 r Z (onb Z) Z Z Z) Z ?_)
 rintro _ _ _ - ⟨rfl,rfl⟩
 exact Nt (Cr (Tr (Qa (Dr (Rd h [] (fun _ hs=>hs.drop) (resultsL1 Z (Rc (cs:=(l42 a8)) 0 ag42 sz42 r Z Z)) (q9.trans f9) ⟨Z,Z⟩)))))
 refine Ck (Tc (Cs (Cs (WC.draw [0,1,0,4,15,31] (.pure 0 (.pure 1 (.pure 2 (.alt 3 (.alt 4 (.pure 5 .done) .none) .none)))) mixed (by kernel_rfl) (qt (pt a 9) Z (Fa fo25_9 i Z) (qt (Iv a0.High) Z (Lb 1 pl3 Z Z Z) (qt (Iv a0.Kind) Z (Mv D) ?_)))))))
 obtain ⟨i0,l2,h⟩:=bnd h
 refine Ta Z (Ca co41 (f_ref07_has_ok a0.Kind (104:Int) _ i0 l2) (args2 Z Z)) Z ?_ ?_
 rintro _ s8 _ g0 ⟨_,⟨rfl,rfl⟩,rfl⟩
 have r0:=q9.trans g0
 refine⟨(Sk 1 Z (Ss Z (Lb 1 pl3 Z Z Z) Z (Ss Z (Fa fo25_9 i Z) Z trivial))), ?_⟩
 refine WT.a0 ?_
 obtain ⟨i1,l3,h⟩:=bnd h
 refine Ta Z (Ca co42 (f_ref07_num_ok a0.High i0 (1073741824:Int) _ i1 l3) (args3 Z Z Z)) Z ?_ ?_
 rintro _ s9 _ g1 ⟨_,⟨rfl,rfl⟩,rfl⟩
 have i2:=r0.trans g1
 refine⟨(Sl Z), ?_⟩
 refine WT.a0 (qt (Bv (!i1)) Z (PO.not Z) (Ti (Tc (Ch h Z (fun l4 h=> ?_) (fun l4 h=> ?_)))))
 refine Sr (qu (pt a 9) (Fa fo25_9 i Z) (qu (Iv a0.High) (Lb 1 pl3 Z Z Z) ?_))
 obtain ⟨a9,l5,h⟩:=bnd h
 refine We (Ca co40 (f_ref07_no_ok ⟨#[104,105,103,104]⟩ a0.High (2:Int) _ a9 l5) (args3 Z Z Z)) Z ?_
 rintro _ t0 _ g2 ⟨_,⟨rfl,rfl⟩,rfl⟩
 refine WL.a0 (We (Sg (v:=(a42_ a9)) (vl:=(l42 a9)) (arr':=(l42 a9)) Z sz42 r Z (onb Z) Z Z Z) Z ?_)
 rintro _ _ _ - ⟨rfl,rfl⟩
 exact Nt (Cr (Tr (Qa (Dr (Rd h [] (fun _ hs=>hs.drop) (resultsL1 Z (Rc (cs:=(l42 a9)) 0 ag42 sz42 r Z Z)) (i2.trans g2) ⟨Z,Z⟩)))))
 refine Ck (Tc (Cs (Cs (WC.draw [0,1,0,4,15,31] (.pure 0 (.pure 1 (.pure 2 (.alt 3 (.alt 4 (.pure 5 .done) .none) .none)))) mixed (by kernel_rfl) (qt (pt a 10) Z (Fa fo25_10 i Z) (qt (Iv a0.Code) Z (Lb 1 pl3 Z Z Z) (qt (Iv a0.Kind) Z (Mv D) ?_)))))))
 obtain ⟨i3,l6,h⟩:=bnd h
 refine Ta Z (Ca co41 (f_ref07_has_ok a0.Kind (99:Int) _ i3 l6) (args2 Z Z)) Z ?_ ?_
 rintro _ t1 _ g3 ⟨_,⟨rfl,rfl⟩,rfl⟩
 have r1:=i2.trans g3
 refine⟨(Sk 1 Z (Ss Z (Lb 1 pl3 Z Z Z) Z (Ss Z (Fa fo25_10 i Z) Z trivial))), ?_⟩
 refine WT.a0 ?_
 obtain ⟨i4,l7,h⟩:=bnd h
 refine Ta Z (Ca co42 (f_ref07_num_ok a0.Code i3 (21:Int) _ i4 l7) (args3 Z Z Z)) Z ?_ ?_
 rintro _ r2 _ g4 ⟨_,⟨rfl,rfl⟩,rfl⟩
 have i5:=r1.trans g4
 refine⟨(Sl Z), ?_⟩
 refine WT.a0 (qt (Bv (!i4)) Z (PO.not Z) (Ti (Tc (Ch h Z (fun l8 h=> ?_) (fun l8 h=> ?_)))))
 refine Sr (qu (pt a 10) (Fa fo25_10 i Z) (qu (Iv a0.Code) (Lb 1 pl3 Z Z Z) ?_))
 obtain ⟨b0,l9,h⟩:=bnd h
 refine We (Ca co40 (f_ref07_no_ok ⟨#[99,111,100,101]⟩ a0.Code (2:Int) _ b0 l9) (args3 Z Z Z)) Z ?_
 rintro _ t2 _ g5 ⟨_,⟨rfl,rfl⟩,rfl⟩
 refine WL.a0 (We (Sg (v:=(a42_ b0)) (vl:=(l42 b0)) (arr':=(l42 b0)) Z sz42 r Z (onb Z) Z Z Z) Z ?_)
 rintro _ _ _ - ⟨rfl,rfl⟩
 exact Nt (Cr (Tr (Qa (Dr (Rd h [] (fun _ hs=>hs.drop) (resultsL1 Z (Rc (cs:=(l42 b0)) 0 ag42 sz42 r Z Z)) (i5.trans g5) ⟨Z,Z⟩)))))
 refine Ck (Tc (Cs ?_))
 obtain ⟨e4,m0,h⟩:=bnd h
 refine Jf (fun(e4:Bool) ρ' M' H'=>r2.le M'∧[(s, .cells z42_.toArray 42 (0,0))]::[(a, .cells (l25 a0 c f).toArray 25 (0,0))]::F=H'∧ρ' 1=(pt a 0)∧ρ' 2=(pt s 0)∧ρ' 3=(Iv a0.Kind)∧ρ' 129=(Bv e4)) e4 ?_ ?_
 have h:=m0
 refine WC.draw [0,1,0,4,15,31,63,127,255,127,639,2047,4095,8191] (.pure 0 (.pure 1 (.pure 2 (.alt 3 (.alt 4 (.pure 5 (.pure 6 (.pure 7 (.pure 8 (.pure 9 (.alt 10 (.alt 11 (.pure 12 (.pure 13 .done)) .none) .none)))))) .none) .none)))) mixed (by kernel_rfl) (qt (pt a 12) Z (Fa fo25_12 i Z) (qt (Iv a0.Size) Z (Lb 1 pl3 Z Z Z) (qt (Iv a0.Kind) Z (Mv D) ?_)))
 obtain ⟨i6,m1,h⟩:=bnd h
 refine Ta Z (Ca co41 (f_ref07_has_ok a0.Kind (115:Int) _ i6 m1) (args2 Z Z)) Z ?_ ?_
 rintro _ t3 _ c5 ⟨_,⟨rfl,rfl⟩,rfl⟩
 refine⟨(Sk 1 Z (Ss Z (Lb 1 pl3 Z Z Z) Z (Ss Z (Fa fo25_12 i Z) Z trivial))), ?_⟩
 refine WT.a0 ?_
 obtain ⟨e5,m2,h⟩:=bnd h
 refine Ta Z (Ca co42 (f_ref07_num_ok a0.Size i6 (1073741824:Int) _ e5 m2) (args3 Z Z Z)) Z ?_ ?_
 rintro _ t4 _ c6 ⟨_,⟨rfl,rfl⟩,rfl⟩
 refine⟨(Sl Z), ?_⟩
 refine WT.a0 (qt (Bv (!e5)) Z (PO.not Z) (qt (Bv (!e5)) Z (Mv Z) ?_))
 rcases Bi h with⟨e,h⟩ |⟨e,h⟩
 refine Tf 122 Z Z Z e Z (Tf 122 Z Z Z e Z (Tf 122 Z Z Z e Z (Tg 122 Z Z Z e Z ⟨(Sk 1 Z (St (Sf 122 Z Z Z e Z) (St (Sf 122 Z Z Z e Z) (Sl Z)))), ?_⟩ ?_)))
 refine Tg 122 Z Z Z e Z ⟨(Sl Z), ?_⟩ ?_
 refine Tf 122 Z Z Z e Z (qt (Bv true) Z (Pt Z e Z) (Ti ?_))
 obtain rfl:=oi h
 exact Tj ⟨(c5.trans c6),Z,i,r,D,Z⟩
 exact Tz
 exact Tz
 refine Tn (pt a 13) 122 Z Z Z e (Fa fo25_13 i Z) Z (Tn (Iv a0.Pos) 122 Z Z Z e (Lb 1 pl3 Z Z Z) Z (Tn (Iv a0.Kind) 122 Z Z Z e (Mv D) Z ?_))
 obtain ⟨i7,m3,h⟩:=bnd h
 refine WT.altOn 122 Z Z Z e (Ca co41 (f_ref07_has_ok a0.Kind (111:Int) _ i7 m3) (args2 Z Z)) Z ?_ ?_
 rintro _ t5 _ g6 ⟨_,⟨rfl,rfl⟩,rfl⟩
 refine⟨(Sk 1 Z (St (StabA.on 122 Z Z Z e (Lb 1 pl3 Z Z Z) Z) (St (StabA.on 122 Z Z Z e (Fa fo25_13 i Z) Z) (Sl Z)))), ?_⟩
 refine WT.a0 ?_
 obtain ⟨e6,m4,h⟩:=bnd h
 refine WT.altOn 122 Z Z Z e (Ca co42 (f_ref07_num_ok a0.Pos i7 (1073741824:Int) _ e6 m4) (args3 Z Z Z)) Z ?_ ?_
 rintro _ t6 _ g7 ⟨_,⟨rfl,rfl⟩,rfl⟩
 refine⟨(Sl Z), ?_⟩
 refine WT.a0 (Tn (Bv (!e6)) 122 Z Z Z e (PO.not Z) Z (qt (Bv (!e6)) Z (Pf Z e Z) (Ti ?_)))
 obtain rfl:=oi h
 exact Tj ⟨(((c5.trans c6).trans g6).trans g7),Z,i,r,D,Z⟩
 exact Tz
 exact Tz
 exact Tz
 exact Tz
 rintro t7 r3 t8 ⟨g8,rfl,t,z,N,b9⟩
 have e7:=i5.trans g8
 refine Ch h b9 (fun m5 h=> ?_) (fun m5 h=> ?_)
 refine Sr (qu (pt a 12) (Fa fo25_12 t Z) (qu (Iv a0.Size) (Lb 1 pl3 Z Z Z) ?_))
 obtain ⟨b1,m6,h⟩:=bnd h
 refine We (Ca co40 (f_ref07_no_ok ⟨#[115,105,122,101]⟩ a0.Size (2:Int) _ b1 m6) (args3 Z Z Z)) Z ?_
 rintro _ t9 _ g9 ⟨_,⟨rfl,rfl⟩,rfl⟩
 refine WL.a0 (We (Sg (v:=(a42_ b1)) (vl:=(l42 b1)) (arr':=(l42 b1)) Z sz42 z Z (onb Z) Z Z Z) Z ?_)
 rintro _ _ _ - ⟨rfl,rfl⟩
 exact Nt (Cr (Tr (Qa (Dr (Rd h [] (fun _ hs=>hs.drop) (resultsL1 Z (Rc (cs:=(l42 b1)) 0 ag42 sz42 z Z Z)) (e7.trans g9) ⟨Z,Z⟩)))))
 refine Ck (Tc (Cs ?_))
 obtain ⟨e8,m7,h⟩:=bnd h
 refine Jf (fun(e8:Bool) ρ' M' H'=>r3.le M'∧[(s, .cells z42_.toArray 42 (0,0))]::[(a, .cells (l25 a0 c f).toArray 25 (0,0))]::F=H'∧ρ' 1=(pt a 0)∧ρ' 2=(pt s 0)∧ρ' 3=(Iv a0.Kind)∧ρ' 147=(Bv e8)) e8 ?_ ?_
 have h:=m7
 refine Cg (qu (pt a 14) (Fa fo25_14 t Z) (qu f (Lb 1 pl23 Z Z Z) ?_))
 have E:=E.mono e7
 refine qu (Iv (a0.Data.length:Int)) (lenS underlying23 Z E.len) (qu (Bv (decide ((512:Int)<(a0.Data.length:Int)))) (gtr Z Z) (qm (Bv (decide ((512:Int)<(a0.Data.length:Int)))) ?_))
 rcases Bi h with⟨k,h⟩ |⟨k,h⟩
 iterate 5 refine Of 137 Z Z k Z ?_
 refine WL.offU 142 Z Z Z (WL.offU 142 Z Z Z (WL.offU 142 Z Z Z (Of 137 Z Z k Z (qu (Bv true) (Pt Z k Z) (Wz ?_)))))
 obtain rfl:=oi h
 exact Tj ⟨lr,Z,t,z,N,Z⟩
 refine qo 137 k (pt a 14) (Fa fo25_14 t Z) (qo 137 k f (Lb 1 pl23 Z Z Z) (qo 137 k (Iv (a0.Data.length:Int)) (lenS underlying23 Z E.len) (qo 137 k (Bv (decide ((0:Int)<(a0.Data.length:Int)))) (gtr Z Z) (On 137 Z Z k (qm (Bv (decide ((0:Int)<(a0.Data.length:Int)))) ?_)))))
 rcases Bi h with⟨G,h⟩ |⟨G,h⟩
 refine On 142 Z Z G (qM (Iv a0.Kind) N (On 142 Z Z G ?_))
 obtain ⟨c7,m8,h⟩:=bnd h
 refine We (Ca co41 (f_ref07_has_ok a0.Kind (100:Int) _ c7 m8) (args2 Z Z)) Z ?_
 rintro _ u0 _ h0 ⟨_,⟨rfl,rfl⟩,rfl⟩
 refine WL.a0 (qo 142 G (Bv (!c7)) (PO.not Z) (qo 137 k (Bv (!c7)) (Pt Z G Z) (qu (Bv (!c7)) (Pf Z k Z) (Wz ?_))))
 obtain rfl:=oi h
 exact Tj ⟨h0,Z,t,z,N,Z⟩
 iterate 3 refine Of 142 Z Z G Z ?_
 refine qo 137 k (Bv false) (Pf Z G Z) (qu (Bv false) (Pf Z k Z) (Wz ?_))
 obtain rfl:=oi h
 exact Tj ⟨lr,Z,t,z,N,Z⟩
 rintro u1 r4 u2 ⟨h1,rfl,u,A,e9,c0⟩
 have c8:=e7.trans h1
 refine Ch h c0 (fun m9 h=> ?_) (fun m9 h=> ?_)
 refine Sr (qu (pt a 14) (Fa fo25_14 u Z) (qu f (Lb 1 pl23 Z Z Z) ?_))
 have E:=E.mono c8
 refine qu (Iv (a0.Data.length:Int)) (lenS underlying23 Z E.len) ?_
 obtain ⟨b2,n0,h⟩:=bnd h
 refine We (Ca co40 (f_ref07_no_ok ⟨#[100,97,116,97]⟩ (a0.Data.length:Int) (6:Int) _ b2 n0) (args3 Z Z Z)) Z ?_
 rintro _ u3 _ h2 ⟨_,⟨rfl,rfl⟩,rfl⟩
 refine WL.a0 (We (Sg (v:=(a42_ b2)) (vl:=(l42 b2)) (arr':=(l42 b2)) Z sz42 A Z (onb Z) Z Z Z) Z ?_)
 rintro _ _ _ - ⟨rfl,rfl⟩
 exact Nt (Cr (Tr (Qa (Dr (Rd h [] (fun _ hs=>hs.drop) (resultsL1 Z (Rc (cs:=(l42 b2)) 0 ag42 sz42 A Z Z)) (c8.trans h2) ⟨Z,Z⟩)))))
 refine Ck (Tc (Cs ?_))
 obtain ⟨f0,n1,h⟩:=bnd h
 refine Jf (fun(f0:Bool) ρ' M' H'=>r4.le M'∧[(s, .cells z42_.toArray 42 (0,0))]::[(a, .cells (l25 a0 c f).toArray 25 (0,0))]::F=H'∧ρ' 1=(pt a 0)∧ρ' 2=(pt s 0)∧ρ' 166=(Bv f0)) f0 ?_ ?_
 have h:=n1
 refine Cg (qu (pt a 11) (Fa fo25_11 u Z) (qu c (Lb 1 pl22 Z Z Z) ?_))
 have p:=p.mono c8
 refine qu (Iv (a0.Batches.length:Int)) (lenS underlying22 Z p.len) (qu (Bv (decide ((8:Int)<(a0.Batches.length:Int)))) (gtr Z Z) (qm (Bv (decide ((8:Int)<(a0.Batches.length:Int)))) ?_))
 rcases Bi h with⟨l,h⟩ |⟨l,h⟩
 iterate 5 refine Of 156 Z Z l Z ?_
 refine WL.offU 161 Z Z Z (WL.offU 161 Z Z Z (WL.offU 161 Z Z Z (Of 156 Z Z l Z (qu (Bv true) (Pt Z l Z) (Wz ?_)))))
 obtain rfl:=oi h
 exact Tj ⟨lr,Z,u,A,Z⟩
 refine qo 156 l (pt a 11) (Fa fo25_11 u Z) (qo 156 l c (Lb 1 pl22 Z Z Z) (qo 156 l (Iv (a0.Batches.length:Int)) (lenS underlying22 Z p.len) (qo 156 l (Bv (decide ((0:Int)<(a0.Batches.length:Int)))) (gtr Z Z) (On 156 Z Z l (qm (Bv (decide ((0:Int)<(a0.Batches.length:Int)))) ?_)))))
 rcases Bi h with⟨I,h⟩ |⟨I,h⟩
 refine On 161 Z Z I (qM (Iv a0.Kind) e9 (On 161 Z Z I ?_))
 obtain ⟨c9,n2,h⟩:=bnd h
 refine We (Ca co41 (f_ref07_has_ok a0.Kind (98:Int) _ c9 n2) (args2 Z Z)) Z ?_
 rintro _ u4 _ h3 ⟨_,⟨rfl,rfl⟩,rfl⟩
 refine WL.a0 (qo 161 I (Bv (!c9)) (PO.not Z) (qo 156 l (Bv (!c9)) (Pt Z I Z) (qu (Bv (!c9)) (Pf Z l Z) (Wz ?_))))
 obtain rfl:=oi h
 exact Tj ⟨h3,Z,u,A,Z⟩
 iterate 3 refine Of 161 Z Z I Z ?_
 refine qo 156 l (Bv false) (Pf Z I Z) (qu (Bv false) (Pf Z l Z) (Wz ?_))
 obtain rfl:=oi h
 exact Tj ⟨lr,Z,u,A,Z⟩
 rintro u5 i8 u6 ⟨h4,rfl,b3,a2,c1⟩
 have b4:=c8.trans h4
 refine Ch h c1 (fun n3 h=> ?_) (fun n3 h=> ?_)
 refine Sr (qu (pt a 11) (Fa fo25_11 b3 Z) (qu c (Lb 1 pl22 Z Z Z) ?_))
 have p:=p.mono b4
 refine qu (Iv (a0.Batches.length:Int)) (lenS underlying22 Z p.len) ?_
 obtain ⟨b5,n4,h⟩:=bnd h
 refine We (Ca co40 (f_ref07_no_ok ⟨#[98,97,116,99,104,101,115]⟩ (a0.Batches.length:Int) (6:Int) _ b5 n4) (args3 Z Z Z)) Z ?_
 rintro _ u7 _ h5 ⟨_,⟨rfl,rfl⟩,rfl⟩
 refine WL.a0 (We (Sg (v:=(a42_ b5)) (vl:=(l42 b5)) (arr':=(l42 b5)) Z sz42 a2 Z (onb Z) Z Z Z) Z ?_)
 rintro _ _ _ - ⟨rfl,rfl⟩
 exact Nt (Cr (Tr (Qa (Dr (Rd h [] (fun _ hs=>hs.drop) (resultsL1 Z (Rc (cs:=(l42 b5)) 0 ag42 sz42 a2 Z Z)) (b4.trans h5) ⟨Z,Z⟩)))))
 refine Ck (Tc ?_)
 obtain ⟨r5,n5,h⟩:=bnd h
 refine WC.joinE (fun(_:Unit) ρ' M' H'=>i8.le M'∧[(s, .cells z42_.toArray 42 (0,0))]::[(a, .cells (l25 a0 c f).toArray 25 (0,0))]::F=H'∧ρ' 2=(pt s 0)) r5 ?_ ?_
 have n6:=h
 have h:=n5
 refine Sr (qa (Iv 0) (Nt (Bk ?_)))
 obtain ⟨u9,n7,f2⟩:=bnd h
 clear h
 refine WC.loop n7 (fun(g:Int) ρ' M' H'=>i8.le M'∧[(s, .cells z42_.toArray 42 (0,0))]::[(a, .cells (l25 a0 c f).toArray 25 (0,0))]::F=H'∧ρ' 1=(pt a 0)∧ρ' 2=(pt s 0)∧ρ' 4=(Iv g)) ?_ ?_
 exact⟨lr,Z,b3,a2,Z⟩
 rintro g v0 v1 v2 v3 h ⟨R,rfl,a3,O,P⟩
 unfold f_ref07_Check_l0 at h
 refine Cs (Sr (qM (Iv g) P (qu (pt a 11) (Fa fo25_11 a3 Z) (qu c (Lb 1 pl22 Z Z Z) ?_))))
 have p:=p.mono (b4.trans R)
 refine qu (Iv (a0.Batches.length:Int)) (lenS underlying22 Z p.len) (qu (Bv (decide (g<(a0.Batches.length:Int)))) (lss Z Z) (Nt (Ch h Z (fun n8 h=> ?_) (fun n8 h=> ?_))))
 refine Ck (Tc (Cs (Bk (Sr (qu (pt a 11) (Fa fo25_11 a3 Z) (qu c (Lb 1 pl22 Z Z Z) (qM (Iv g) P ?_)))))))
 obtain ⟨a6,h⟩:=grd_i h
 obtain ⟨r6,s2,h6,h7,hhas229⟩:=p.at a6.1 a6.2 (by decide)
 obtain ⟨b6,rfl,f3⟩:=kd_api_Batch_open h7
 refine qu (.pointer (some r6)) (indexAddr (n:=a0.Batches.length) underlying22 sz55 Z Z a6.1 a6.2 h6) (qu (a55_ (rd a0.Batches g) b6) (loadMA (cs:=(l55 (rd a0.Batches g) b6)) ag55 sz55 Z hhas229) ?_)
 obtain ⟨b,n9,h⟩:=bnd h
 refine We (Ca co43 (f_ref06_Check_ok (rd a0.Batches g) _ _ f3 b n9) (args1 Z)) Z ?_
 rintro _ v4 _ d0 ⟨_,⟨rfl,rfl⟩,rfl⟩
 refine WL.a0 (We (Al ze42 Z) Z ?_)
 rintro _ _ _ - ⟨rfl,a5,rfl,rfl⟩
 refine We (Sg (v:=(a42_ b)) (vl:=(l42 b)) (arr':=(l42 b)) Z sz42 Z Z (onb Z) Z Z Z) Z ?_
 rintro _ _ _ - ⟨rfl,rfl⟩
 refine Ns (qu (pt a5 0) (Fa fo42_0 Z Z) (qu (pt a5 2) (Fa fo40_2 Z Z) (qu (Iv b.W.Code) (Lb 0 pl38 Z Z Z) (qu (Bv (decide (b.W.Code≠0))) (neq Z Z) (Nt (Ch h Z (fun o0 h=> ?_) (fun o0 h=> ?_)))))))
 refine Sr (qu (pt a5 0) (Fa fo42_0 Z Z) (qu (pt a5 0) (Fa fo40_0 Z Z) (qu (Sv b.W.Op) (Lb 0 pl9 Z Z Z) (qM (Iv g) P (qu (pt a5 0) (Fa fo42_0 Z Z) (qu (pt a5 2) (Fa fo40_2 Z Z) (qu (Iv b.W.Code) (Lb 0 pl38 Z Z Z) (qu (.agg #[(Sv b.W.Op),(Iv g),(Iv b.W.Code)]) (Bl (cl:=[(Sv b.W.Op),(Iv g),(Iv b.W.Code)]) ze40 fp40 (Pc (Sv b.W.Op) Z Z (Pc (Iv g) Z Z (Pc (Iv b.W.Code) Z Z Pz))) Z) (qu (.agg #[(Sv b.W.Op),(Iv g),(Iv b.W.Code),(Iv (-1:Int))]) (Bl (cl:=[(Sv b.W.Op),(Iv g),(Iv b.W.Code),(Iv (-1:Int))]) ze42 fp42 (Pc (.agg #[(Sv b.W.Op),(Iv g),(Iv b.W.Code)]) Z Z (Pc (Iv (-1:Int)) Z Z Pz)) Z) (WL.f1 (We (Sg (v:=(.agg #[(Sv b.W.Op),(Iv g),(Iv b.W.Code),(Iv (-1:Int))])) (vl:=[(Sv b.W.Op),(Iv g),(Iv b.W.Code),(Iv (-1:Int))]) (arr':=[(Sv b.W.Op),(Iv g),(Iv b.W.Code),(Iv (-1:Int))]) Z sz42 O Z (onb Z) Z Z Z) Z ?_)))))))))))
 rintro _ _ _ - ⟨rfl,rfl⟩
 refine Nt (Cr (Br (Tr (WQ.leaveR (inr (b.W.Op,g,b.W.Code,(-1:Int))) (oi h).symm (fun a7=> ?_)))))
 subst a7
 have h:=(elimR f2)
 refine Br (Tr ?_)
 have h:=KK.early h n6
 exact Qa (Dr (Qa (Dr (Rd h [] (fun _ hs=>hs.drop) (resultsL1 Z (Rc (cs:=[(Sv b.W.Op),(Iv g),(Iv b.W.Code),(Iv (-1:Int))]) 0 ag42 sz42 O Z Z)) ((b4.trans R).trans d0) ⟨Z,Z⟩))))
 exact Ck (Bn (Tc (Cg (qM (Iv g) P (qu (Iv (i64.wrap (g+1))) (add Z Z) (qa (Iv (i64.wrap (g+1))) (Wz (Dr (WQ.again (i64.wrap (g+1)) (oi h).symm ⟨(R.trans d0),Z,a3,O,Z⟩)))))))))
 refine WC.exit (WQ.thenE (WQ.leaveE (inl ()) (oi h).symm (fun a7=> ?_)))
 subst a7
 have h:=elimL f2
 exact WQ.blockH (WQ.thenFE h ⟨R,Z,O⟩)
 rintro _ v5 v6 v7 rfl ⟨h8,rfl,b7⟩
 have h:=(Sum.elim_inl _ _ _).symm.trans h
 refine Sr (qu (.agg #[(Sv ⟨#[]⟩),(Iv 0),(Iv 0),(Iv (-1:Int))]) (Bl (cl:=[(Sv ⟨#[]⟩),(Iv 0),(Iv 0),(Iv (-1:Int))]) ze42 fp42 (Pc (Iv (-1:Int)) Z Z Pz) Z) (We (Sg (v:=(.agg #[(Sv ⟨#[]⟩),(Iv 0),(Iv 0),(Iv (-1:Int))])) (vl:=[(Sv ⟨#[]⟩),(Iv 0),(Iv 0),(Iv (-1:Int))]) (arr':=[(Sv ⟨#[]⟩),(Iv 0),(Iv 0),(Iv (-1:Int))]) Z sz42 b7 Z (onb Z) Z Z Z) Z ?_))
 rintro _ _ _ - ⟨rfl,rfl⟩
 exact Nt (Cr (Qa (Dr (Rd h [] (fun _ hs=>hs.drop) (resultsL1 Z (Rc (cs:=[(Sv ⟨#[]⟩),(Iv 0),(Iv 0),(Iv (-1:Int))]) 0 ag42 sz42 b7 Z Z)) (b4.trans h8) ⟨Z,Z⟩))))
 exact Tz
 exact Tz
 exact Tz
 exact Tz
 exact Tz
 exact Tz
noncomputable def f_ref07_Read_l0 (a0:T_api_Frame) (i:Int) (s_:(Int×Int×Int×ByteArray×Int×(List T_api_Batch))):Option ((Int×Int×Int×ByteArray×Int×(List T_api_Batch))⊕((List T_api_Batch)×Int×Int×ByteArray×Int)):=
 match s_ with
 |(c,d,a,e,f,b)=>
 (((if(decide (c<i))=true then(some (decide (a=(0:Int))))else(some false)):Option Bool).bind fun j=>(if j=true then((f_ref06_Next (⟨a0.Body,(⟨d,a,e,f⟩:T_ref02_State)⟩:T_ref05_Cursor)).bind fun(g,k,l,m,n)=>(grd (b.length+[g].length≤274877906944) (some (inl (i64.wrap (c+(1:Int)),k,l,m,n,b++[g])))))else(some (inr (b,d,a,e,f)))))
noncomputable def f_ref07_Read (a0:T_api_Frame):Option (T_api_Rpc×T_ref06_Wrong):=
 (((if(decide (a0.Kind<(1:Int)))=true then(some true)else(some (decide ((8:Int)<a0.Kind)))):Option Bool).bind fun d5=>(if d5=true then((f_ref07_no (⟨#[107,105,110,100]⟩:ByteArray) a0.Kind (5:Int)).bind fun d6=>(some (lit4_,d6)))else((f_ref05_Cursor_Int (⟨a0.Body,(⟨(0:Int),(0:Int),(⟨#[]⟩:ByteArray),(0:Int)⟩:T_ref02_State)⟩:T_ref05_Cursor) (1073741824:Int)).bind fun(t,d7,d8,d9,e0)=>((f_ref05_Cursor_Int (⟨a0.Body,(⟨d7,d8,d9,e0⟩:T_ref02_State)⟩:T_ref05_Cursor) (1073741824:Int)).bind fun(u,e1,e2,e3,e4)=>((f_ref05_Cursor_Int (⟨a0.Body,(⟨e1,e2,e3,e4⟩:T_ref02_State)⟩:T_ref05_Cursor) (1073741824:Int)).bind fun(v,e5,e6,e7,e8)=>((f_ref07_has a0.Kind (97:Int)).bind fun e9=>((f_ref07_yes (⟨a0.Body,(⟨e5,e6,e7,e8⟩:T_ref02_State)⟩:T_ref05_Cursor) e9).bind fun(w,f0,f1,f2,f3)=>((f_ref07_has a0.Kind (103:Int)).bind fun f4=>((f_ref07_yes (⟨a0.Body,(⟨f0,f1,f2,f3⟩:T_ref02_State)⟩:T_ref05_Cursor) f4).bind fun(x,f5,f6,f7,f8)=>((f_ref07_has a0.Kind (108:Int)).bind fun f9=>((f_ref07_some (⟨a0.Body,(⟨f5,f6,f7,f8⟩:T_ref02_State)⟩:T_ref05_Cursor) f9).bind fun(y,g0,g1,g2,z)=>((f_ref07_has a0.Kind (112:Int)).bind fun A=>((f_ref07_some (⟨a0.Body,(⟨g0,g1,g2,z⟩:T_ref02_State)⟩:T_ref05_Cursor) A).bind fun(a,B,C,D,E)=>((f_ref07_has a0.Kind (112:Int)).bind fun G=>((f_ref07_some (⟨a0.Body,(⟨B,C,D,E⟩:T_ref02_State)⟩:T_ref05_Cursor) G).bind fun(b,I,J,K,L)=>((f_ref07_has a0.Kind (104:Int)).bind fun N=>((f_ref07_some (⟨a0.Body,(⟨I,J,K,L⟩:T_ref02_State)⟩:T_ref05_Cursor) N).bind fun(c,O,P,Q,R)=>((f_ref07_has a0.Kind (99:Int)).bind fun S=>((f_ref07_some (⟨a0.Body,(⟨O,P,Q,R⟩:T_ref02_State)⟩:T_ref05_Cursor) S).bind fun(d,T,U,V,X)=>((f_ref07_has a0.Kind (115:Int)).bind fun Y=>((f_ref07_some (⟨a0.Body,(⟨T,U,V,X⟩:T_ref02_State)⟩:T_ref05_Cursor) Y).bind fun(e,a1,a2,a3,a4)=>((f_ref07_has a0.Kind (111:Int)).bind fun a5=>((f_ref07_some (⟨a0.Body,(⟨a1,a2,a3,a4⟩:T_ref02_State)⟩:T_ref05_Cursor) a5).bind fun(f,g,i,j,k)=>((((f_ref07_has a0.Kind (100:Int)).bind fun a6=>(if a6=true then((f_ref05_Cursor_Text (⟨a0.Body,(⟨g,i,j,k⟩:T_ref02_State)⟩:T_ref05_Cursor) (512:Int)).bind fun(a7,a8,a9,b0,b1)=>(some (a7,a8,a9,b0,b1)))else(some ([],g,i,j,k)))):Option ((List Int)×Int×Int×ByteArray×Int)).bind fun(l,m,n,o,p)=>((((f_ref07_has a0.Kind (98:Int)).bind fun b2=>(if b2=true then((f_ref05_Cursor_Int (⟨a0.Body,(⟨m,n,o,p⟩:T_ref02_State)⟩:T_ref05_Cursor) (8:Int)).bind fun(b3,b4,b5,b6,b7)=>(some (b3,b4,b5,b6,b7)))else(some ((0:Int),m,n,o,p)))):Option (Int×Int×Int×ByteArray×Int)).bind fun(b8,b9,c0,c1,c2)=>((((iter (f_ref07_Read_l0 a0 b8) ((0:Int),b9,c0,c1,c2,[])).bind (fun(c3,c4,c5,c6,c7)=>(some (c3,c4,c5,c6,c7)))):Option ((List T_api_Batch)×Int×Int×ByteArray×Int)).bind fun(q,c8,c9,d0,d1)=>((f_ref05_Cursor_End (⟨a0.Body,(⟨c8,c9,d0,d1⟩:T_ref02_State)⟩:T_ref05_Cursor)).bind fun(g3,r,d2,d3)=>(if(decide (r≠(0:Int)))=true then((f_ref07_no d2 d3 r).bind fun d4=>(some (lit4_,d4)))else((f_ref07_Check (⟨a0.Kind,t,u,v,w,x,y,a,b,c,d,q,e,f,l⟩:T_api_Rpc)).bind fun s=>(if(decide (s.W.Code≠(0:Int)))=true then(some (lit4_,s))else(some ((⟨a0.Kind,t,u,v,w,x,y,a,b,c,d,q,e,f,l⟩:T_api_Rpc),lit5_))))))))))))))))))))))))))))))))
def f_ref07_Read_post (a0:T_api_Frame) (f:Value):(T_api_Rpc×T_ref06_Wrong)→Value→IM→HL→Prop:=
 fun(p_:(T_api_Rpc×T_ref06_Wrong)) (v:Value) (M':IM) (H':HL)=>match p_ with |(a,e)=>∃ b c d,(.tuple #[(.agg #[(.int .i64 a.Kind),(.int .i64 a.From),(.int .i64 a.To),(.int .i64 a.Term),(.bool a.Pre),(.bool a.Ok),(.int .i64 a.Leader),(.int .i64 a.At),(.int .i64 a.AtTerm),(.int .i64 a.High),(.int .i64 a.Code),b,(.int .i64 a.Size),(.int .i64 a.Pos),d]),(.agg #[(.string e.W.Op),(.int .i64 e.W.At),(.int .i64 e.W.Code),(.int .i64 e.Record)])])=v∧H'=[c]∧OwnS kd_api_Batch M' b a.Batches c∧RS (Kd.int .u8) M' d a.Data
theorem f_ref07_Read_ok (a0:T_api_Frame) (M:IM) (f:Value) (a:RS (Kd.int .u8) M f a0.Body) (res:(T_api_Rpc×T_ref06_Wrong)) (h:f_ref07_Read a0=some res):
 Tri prog 20 #[(.agg #[(Iv a0.Kind),f])] M [] (f_ref07_Read_post a0 f res):=by
 unfold f_ref07_Read at h
 refine Te func20 Z Z ?_
 intro F ρ hρ
 refine Sr (We (box (cs:=#[(Iv a0.Kind),f]) (congrArg Value.cells (asE (.agg #[(Iv a0.Kind),f]) (hρ 0)))) Z ?_)
 rintro _ _ _ - ⟨rfl,O,rfl,rfl⟩
 refine We (Al ze25 Z) Z ?_
 rintro _ _ _ - ⟨rfl,P,rfl,rfl⟩
 refine We (Al ze42 Z) Z ?_
 rintro _ _ _ - ⟨rfl,Q,rfl,rfl⟩
 refine Nt (Cs ?_)
 obtain ⟨o1,r7,h⟩:=bnd h
 refine Jf (fun(o1:Bool) ρ' M' H'=>M.le M'∧[(Q, .cells z42_.toArray 42 (0,0))]::[(P, .cells z25_.toArray 25 (0,0))]::[(O, .cells #[(Iv a0.Kind),f] 29 (0,0))]::F=H'∧ρ' 1=(pt O 0)∧ρ' 2=(pt P 0)∧ρ' 3=(pt Q 0)∧ρ' 18=(Bv o1)) o1 ?_ ?_
 have h:=r7
 refine Cg (qu (pt O 0) (Fa fo29_0 Z Z) (qu (Iv a0.Kind) (Lb 2 pl3 Z Z Z) (qu (Bv (decide (a0.Kind<1))) (lss Z Z) (qm (Bv (decide (a0.Kind<1))) ?_))))
 rcases Bi h with⟨X,h⟩ |⟨X,h⟩
 iterate 3 refine Of 14 Z Z X Z ?_
 refine qu (Bv true) (Pt Z X Z) (Wz ?_)
 obtain rfl:=oi h
 exact Tj ⟨lr,Z,Z,Z,Z,Z⟩
 refine qo 14 X (pt O 0) (Fa fo29_0 Z Z) (qo 14 X (Iv a0.Kind) (Lb 2 pl3 Z Z Z) (qo 14 X (Bv (decide ((8:Int)<a0.Kind))) (gtr Z Z) (qu (Bv (decide ((8:Int)<a0.Kind))) (Pf Z X Z) (Wz ?_))))
 obtain rfl:=oi h
 exact Tj ⟨lr,Z,Z,Z,Z,Z⟩
 rintro D1 D2 D3 ⟨d2,rfl,b0,R,S,f2⟩
 refine Ch h f2 (fun r8 h=> ?_) (fun r8 h=> ?_)
 refine Sr (qu (.agg z25_.toArray) (Bl (cl:=z25_) ze25 fp25 Pz Z) (qu (pt O 0) (Fa fo29_0 b0 Z) (qu (Iv a0.Kind) (Lb 2 pl3 Z Z Z) ?_)))
 obtain ⟨f6,r9,h⟩:=bnd h
 refine We (Ca co40 (f_ref07_no_ok ⟨#[107,105,110,100]⟩ a0.Kind (5:Int) _ f6 r9) (args3 Z Z Z)) Z ?_
 rintro _ D4 _ o2 ⟨_,⟨rfl,rfl⟩,rfl⟩
 refine WL.a0 (WL.f1 (We (Sg (v:=(.agg z25_.toArray)) (vl:=z25_) (arr':=z25_) Z sz25 R Z (onb Z) Z Z (by kernel_rfl)) Z ?_))
 rintro _ _ _ - ⟨rfl,rfl⟩
 refine WL.f1 (We (Sg (v:=(a42_ f6)) (vl:=(l42 f6)) (arr':=(l42 f6)) Z sz42 S Z (onb Z) Z Z Z) Z ?_)
 rintro _ _ _ - ⟨rfl,rfl⟩
 exact Nt (Cr (Tr (WQ.e0 (WQ.f3 (Dr (Qa (Qb (Rd h [[]] (fun _ hs=>hs.drop.drop) (resultsLN Z (RVs.cons (Rc (cs:=z25_) 0 ag25 sz25 R Z Z) (RVs.cons (Rc (cs:=(l42 f6)) 1 ag42 sz42 S Z Z) RVs.nil))) (d2.trans o2) ⟨Zs,[],Zs,Z,Z,(OwnS.nil _ _),RS.nil _ _⟩))))))))
 refine Ck (Tc (Sr (qu (pt O 0) (Fa fo29_0 b0 Z) (qu (Iv a0.Kind) (Lb 2 pl3 Z Z Z) (qa (Iv a0.Kind) (Ns (qu (pt O 1) (Fa fo29_1 b0 Z) (qu f (Lb 2 pl23 Z Z Z) ?_))))))))
 have a:=a.mono d2
 refine qu (.agg #[f,(Iv 0),(Iv 0),(Sv ⟨#[]⟩),(Iv 0)]) (Bl (cl:=[f,(Iv 0),(Iv 0),(Sv ⟨#[]⟩),(Iv 0)]) ze98 fp98 (Parts.cons ((congrArg Value.cells (show ev _ _=f from Z)).trans a.cells) Pz) Z) (We (box (cs:=#[f,(Iv 0),(Iv 0),(Sv ⟨#[]⟩),(Iv 0)]) (congrArg Value.cells (show ev _ _=(.agg #[f,(Iv 0),(Iv 0),(Sv ⟨#[]⟩),(Iv 0)]) from Z))) Z ?_)
 rintro _ _ _ - ⟨rfl,b,rfl,rfl⟩
 refine qa (pt b 0) (Ns (qm (Iv a0.Kind) (qu (.agg #[(Iv a0.Kind),(Iv 0),(Iv 0),(Iv 0),(Bv false),(Bv false),(Iv 0),(Iv 0),(Iv 0),(Iv 0),(Iv 0),Zs,(Iv 0),(Iv 0),Zs]) (Bl (cl:=[(Iv a0.Kind),(Iv 0),(Iv 0),(Iv 0),(Bv false),(Bv false),(Iv 0),(Iv 0),(Iv 0),(Iv 0),(Iv 0),Zs,(Iv 0),(Iv 0),Zs]) ze25 fp25 (Pc (Iv a0.Kind) Z Z Pz) Z) (We (Al ze25 Z) Z ?_))))
 rintro _ _ _ - ⟨rfl,r,rfl,rfl⟩
 refine We (Sg (v:=(.agg #[(Iv a0.Kind),(Iv 0),(Iv 0),(Iv 0),(Bv false),(Bv false),(Iv 0),(Iv 0),(Iv 0),(Iv 0),(Iv 0),Zs,(Iv 0),(Iv 0),Zs])) (vl:=[(Iv a0.Kind),(Iv 0),(Iv 0),(Iv 0),(Bv false),(Bv false),(Iv 0),(Iv 0),(Iv 0),(Iv 0),(Iv 0),Zs,(Iv 0),(Iv 0),Zs]) (arr':=[(Iv a0.Kind),(Iv 0),(Iv 0),(Iv 0),(Bv false),(Bv false),(Iv 0),(Iv 0),(Iv 0),(Iv 0),(Iv 0),Zs,(Iv 0),(Iv 0),Zs]) Z sz25 Z Z (onb Z) Z Z (by kernel_rfl)) Z ?_
 rintro _ _ _ - ⟨rfl,rfl⟩
 refine Ns (qm (pt b 0) ?_)
 obtain ⟨⟨k,s0,s1,s2,s3⟩,s4,h⟩:=bnd h
 refine WL.f1 (We (Cb co58 (f_ref05_Cursor_Int_ok (⟨a0.Body,(⟨(0:Int),(0:Int),(⟨#[]⟩:ByteArray),(0:Int)⟩:T_ref02_State)⟩:T_ref05_Cursor) (1073741824:Int) _ _ _ a (k,s0,s1,s2,s3) s4) (args2 Z Z)) Z ?_)
 rintro _ D5 _ f8 ⟨_,⟨rfl,rfl⟩,rfl⟩
 refine WL.a1 (qu (pt r 1) (Fa fo25_1 Z Z) (WL.f1 (We (Es (Iv k) [(Iv a0.Kind),(Iv k),(Iv 0),(Iv 0),(Bv false),(Bv false),(Iv 0),(Iv 0),(Iv 0),(Iv 0),(Iv 0),Zs,(Iv 0),(Iv 0),Zs] Z sz3 Z Z Z Z Z (by kernel_rfl)) Z ?_)))
 rintro _ _ _ - ⟨rfl,rfl⟩
 refine Ns (qm (pt b 0) ?_)
 obtain ⟨⟨l,s5,s6,s7,s8⟩,s9,h⟩:=bnd h
 refine WL.f1 ?_
 have a:=a.mono f8
 refine We (Cb co58 (f_ref05_Cursor_Int_ok (⟨a0.Body,(⟨s0,s1,s2,s3⟩:T_ref02_State)⟩:T_ref05_Cursor) (1073741824:Int) _ _ _ a (l,s5,s6,s7,s8) s9) (args2 Z Z)) Z ?_
 rintro _ D6 _ f9 ⟨_,⟨rfl,rfl⟩,rfl⟩
 refine WL.a1 (qu (pt r 2) (Fa fo25_2 Z Z) (WL.f1 (We (Es (Iv l) [(Iv a0.Kind),(Iv k),(Iv l),(Iv 0),(Bv false),(Bv false),(Iv 0),(Iv 0),(Iv 0),(Iv 0),(Iv 0),Zs,(Iv 0),(Iv 0),Zs] Z sz3 Z Z Z Z Z (by kernel_rfl)) Z ?_)))
 rintro _ _ _ - ⟨rfl,rfl⟩
 refine Ns (qm (pt b 0) ?_)
 obtain ⟨⟨o,t0,t1,t2,t3⟩,t4,h⟩:=bnd h
 refine WL.f1 ?_
 have a:=a.mono f9
 refine We (Cb co58 (f_ref05_Cursor_Int_ok (⟨a0.Body,(⟨s5,s6,s7,s8⟩:T_ref02_State)⟩:T_ref05_Cursor) (1073741824:Int) _ _ _ a (o,t0,t1,t2,t3) t4) (args2 Z Z)) Z ?_
 rintro _ D7 _ g0 ⟨_,⟨rfl,rfl⟩,rfl⟩
 have z0:=((d2.trans f8).trans f9).trans g0
 refine WL.a1 (qu (pt r 3) (Fa fo25_3 Z Z) (WL.f1 (We (Es (Iv o) [(Iv a0.Kind),(Iv k),(Iv l),(Iv o),(Bv false),(Bv false),(Iv 0),(Iv 0),(Iv 0),(Iv 0),(Iv 0),Zs,(Iv 0),(Iv 0),Zs] Z sz3 Z Z Z Z Z (by kernel_rfl)) Z ?_)))
 rintro _ _ _ - ⟨rfl,rfl⟩
 refine Ns (qm (pt b 0) (qm (Iv a0.Kind) ?_))
 obtain ⟨t5,t6,h⟩:=bnd h
 refine We (Ca co41 (f_ref07_has_ok a0.Kind (97:Int) _ t5 t6) (args2 Z Z)) Z ?_
 rintro _ D8 _ g1 ⟨_,⟨rfl,rfl⟩,rfl⟩
 have z1:=z0.trans g1
 refine WL.a0 ?_
 obtain ⟨⟨p,t7,t8,t9,u0⟩,u1,h⟩:=bnd h
 refine WL.f1 ?_
 have a:=a.mono (g0.trans g1)
 refine We (Cb co59 (f_ref07_yes_ok (⟨a0.Body,(⟨t0,t1,t2,t3⟩:T_ref02_State)⟩:T_ref05_Cursor) t5 _ _ _ a (p,t7,t8,t9,u0) u1) (args2 Z Z)) Z ?_
 rintro _ D9 _ g2 ⟨_,⟨rfl,rfl⟩,rfl⟩
 have z2:=z1.trans g2
 refine WL.a1 (qu (pt r 4) (Fa fo25_4 Z Z) (WL.f1 (We (Es (Bv p) [(Iv a0.Kind),(Iv k),(Iv l),(Iv o),(Bv p),(Bv false),(Iv 0),(Iv 0),(Iv 0),(Iv 0),(Iv 0),Zs,(Iv 0),(Iv 0),Zs] Z sz4 Z Z Z Z Z (by kernel_rfl)) Z ?_)))
 rintro _ _ _ - ⟨rfl,rfl⟩
 refine Ns (qm (pt b 0) (qm (Iv a0.Kind) ?_))
 obtain ⟨u2,u3,h⟩:=bnd h
 refine We (Ca co41 (f_ref07_has_ok a0.Kind (103:Int) _ u2 u3) (args2 Z Z)) Z ?_
 rintro _ E0 _ g3 ⟨_,⟨rfl,rfl⟩,rfl⟩
 have z3:=z2.trans g3
 refine WL.a0 ?_
 obtain ⟨⟨q,u4,u5,u6,u7⟩,u9,h⟩:=bnd h
 refine WL.f1 ?_
 have a:=a.mono (g2.trans g3)
 refine We (Cb co59 (f_ref07_yes_ok (⟨a0.Body,(⟨t7,t8,t9,u0⟩:T_ref02_State)⟩:T_ref05_Cursor) u2 _ _ _ a (q,u4,u5,u6,u7) u9) (args2 Z Z)) Z ?_
 rintro _ E1 _ g4 ⟨_,⟨rfl,rfl⟩,rfl⟩
 have z4:=z3.trans g4
 refine WL.a1 (qu (pt r 5) (Fa fo25_5 Z Z) (WL.f1 (We (Es (Bv q) [(Iv a0.Kind),(Iv k),(Iv l),(Iv o),(Bv p),(Bv q),(Iv 0),(Iv 0),(Iv 0),(Iv 0),(Iv 0),Zs,(Iv 0),(Iv 0),Zs] Z sz4 Z Z Z Z Z (by kernel_rfl)) Z ?_)))
 rintro _ _ _ - ⟨rfl,rfl⟩
 refine Ns (qm (pt b 0) (qm (Iv a0.Kind) ?_))
 obtain ⟨v0,v1,h⟩:=bnd h
 refine We (Ca co41 (f_ref07_has_ok a0.Kind (108:Int) _ v0 v1) (args2 Z Z)) Z ?_
 rintro _ E2 _ g5 ⟨_,⟨rfl,rfl⟩,rfl⟩
 have z5:=z4.trans g5
 refine WL.a0 ?_
 obtain ⟨⟨s,v2,v3,v4,j5⟩,o3,h⟩:=bnd h
 refine WL.f1 ?_
 have a:=a.mono (g4.trans g5)
 refine We (Cb co60 (f_ref07_some_ok (⟨a0.Body,(⟨u4,u5,u6,u7⟩:T_ref02_State)⟩:T_ref05_Cursor) v0 _ _ _ a (s,v2,v3,v4,j5) o3) (args2 Z Z)) Z ?_
 rintro _ z8 _ d6 ⟨_,⟨rfl,rfl⟩,rfl⟩
 have v5:=z5.trans d6
 refine WL.a1 (qu (pt r 6) (Fa fo25_6 Z Z) (WL.f1 (We (Es (Iv s) [(Iv a0.Kind),(Iv k),(Iv l),(Iv o),(Bv p),(Bv q),(Iv s),(Iv 0),(Iv 0),(Iv 0),(Iv 0),Zs,(Iv 0),(Iv 0),Zs] Z sz3 Z Z Z Z Z (by kernel_rfl)) Z ?_)))
 rintro _ _ _ - ⟨rfl,rfl⟩
 refine Ns (qm (pt b 0) (qm (Iv a0.Kind) ?_))
 obtain ⟨j6,o4,h⟩:=bnd h
 refine We (Ca co41 (f_ref07_has_ok a0.Kind (112:Int) _ j6 o4) (args2 Z Z)) Z ?_
 rintro _ z9 _ d7 ⟨_,⟨rfl,rfl⟩,rfl⟩
 have v6:=v5.trans d7
 refine WL.a0 ?_
 obtain ⟨⟨c,j7,j8,j9,k0⟩,o5,h⟩:=bnd h
 refine WL.f1 ?_
 have a:=a.mono (d6.trans d7)
 refine We (Cb co60 (f_ref07_some_ok (⟨a0.Body,(⟨v2,v3,v4,j5⟩:T_ref02_State)⟩:T_ref05_Cursor) j6 _ _ _ a (c,j7,j8,j9,k0) o5) (args2 Z Z)) Z ?_
 rintro _ A0 _ d8 ⟨_,⟨rfl,rfl⟩,rfl⟩
 have v7:=v6.trans d8
 refine WL.a1 (qu (pt r 7) (Fa fo25_7 Z Z) (WL.f1 (We (Es (Iv c) [(Iv a0.Kind),(Iv k),(Iv l),(Iv o),(Bv p),(Bv q),(Iv s),(Iv c),(Iv 0),(Iv 0),(Iv 0),Zs,(Iv 0),(Iv 0),Zs] Z sz3 Z Z Z Z Z (by kernel_rfl)) Z ?_)))
 rintro _ _ _ - ⟨rfl,rfl⟩
 refine Ns (qm (pt b 0) (qm (Iv a0.Kind) ?_))
 obtain ⟨k1,o6,h⟩:=bnd h
 refine We (Ca co41 (f_ref07_has_ok a0.Kind (112:Int) _ k1 o6) (args2 Z Z)) Z ?_
 rintro _ A1 _ d9 ⟨_,⟨rfl,rfl⟩,rfl⟩
 have v8:=v7.trans d9
 refine WL.a0 ?_
 obtain ⟨⟨d,k2,k3,k4,k5⟩,o7,h⟩:=bnd h
 refine WL.f1 ?_
 have a:=a.mono (d8.trans d9)
 refine We (Cb co60 (f_ref07_some_ok (⟨a0.Body,(⟨j7,j8,j9,k0⟩:T_ref02_State)⟩:T_ref05_Cursor) k1 _ _ _ a (d,k2,k3,k4,k5) o7) (args2 Z Z)) Z ?_
 rintro _ A2 _ e1 ⟨_,⟨rfl,rfl⟩,rfl⟩
 have v9:=v8.trans e1
 refine WL.a1 (qu (pt r 8) (Fa fo25_8 Z Z) (WL.f1 (We (Es (Iv d) [(Iv a0.Kind),(Iv k),(Iv l),(Iv o),(Bv p),(Bv q),(Iv s),(Iv c),(Iv d),(Iv 0),(Iv 0),Zs,(Iv 0),(Iv 0),Zs] Z sz3 Z Z Z Z Z (by kernel_rfl)) Z ?_)))
 rintro _ _ _ - ⟨rfl,rfl⟩
 refine Ns (qm (pt b 0) (qm (Iv a0.Kind) ?_))
 obtain ⟨k6,o8,h⟩:=bnd h
 refine We (Ca co41 (f_ref07_has_ok a0.Kind (104:Int) _ k6 o8) (args2 Z Z)) Z ?_
 rintro _ A3 _ e2 ⟨_,⟨rfl,rfl⟩,rfl⟩
 have w0:=v9.trans e2
 refine WL.a0 ?_
 obtain ⟨⟨g,k7,k8,k9,l0⟩,o9,h⟩:=bnd h
 refine WL.f1 ?_
 have a:=a.mono (e1.trans e2)
 refine We (Cb co60 (f_ref07_some_ok (⟨a0.Body,(⟨k2,k3,k4,k5⟩:T_ref02_State)⟩:T_ref05_Cursor) k6 _ _ _ a (g,k7,k8,k9,l0) o9) (args2 Z Z)) Z ?_
 rintro _ A4 _ e3 ⟨_,⟨rfl,rfl⟩,rfl⟩
 have w1:=w0.trans e3
 refine WL.a1 (qu (pt r 9) (Fa fo25_9 Z Z) (WL.f1 (We (Es (Iv g) [(Iv a0.Kind),(Iv k),(Iv l),(Iv o),(Bv p),(Bv q),(Iv s),(Iv c),(Iv d),(Iv g),(Iv 0),Zs,(Iv 0),(Iv 0),Zs] Z sz3 Z Z Z Z Z (by kernel_rfl)) Z ?_)))
 rintro _ _ _ - ⟨rfl,rfl⟩
 refine Ns (qm (pt b 0) (qm (Iv a0.Kind) ?_))
 obtain ⟨l1,p0,h⟩:=bnd h
 refine We (Ca co41 (f_ref07_has_ok a0.Kind (99:Int) _ l1 p0) (args2 Z Z)) Z ?_
 rintro _ A5 _ e4 ⟨_,⟨rfl,rfl⟩,rfl⟩
 have w2:=w1.trans e4
 refine WL.a0 ?_
 obtain ⟨⟨i,l2,l3,l4,l5⟩,p1,h⟩:=bnd h
 refine WL.f1 ?_
 have a:=a.mono (e3.trans e4)
 refine We (Cb co60 (f_ref07_some_ok (⟨a0.Body,(⟨k7,k8,k9,l0⟩:T_ref02_State)⟩:T_ref05_Cursor) l1 _ _ _ a (i,l2,l3,l4,l5) p1) (args2 Z Z)) Z ?_
 rintro _ A6 _ e5 ⟨_,⟨rfl,rfl⟩,rfl⟩
 have w3:=w2.trans e5
 refine WL.a1 (qu (pt r 10) (Fa fo25_10 Z Z) (WL.f1 (We (Es (Iv i) [(Iv a0.Kind),(Iv k),(Iv l),(Iv o),(Bv p),(Bv q),(Iv s),(Iv c),(Iv d),(Iv g),(Iv i),Zs,(Iv 0),(Iv 0),Zs] Z sz3 Z Z Z Z Z (by kernel_rfl)) Z ?_)))
 rintro _ _ _ - ⟨rfl,rfl⟩
 refine Ns (qm (pt b 0) (qm (Iv a0.Kind) ?_))
 obtain ⟨l6,p2,h⟩:=bnd h
 refine We (Ca co41 (f_ref07_has_ok a0.Kind (115:Int) _ l6 p2) (args2 Z Z)) Z ?_
 rintro _ A7 _ e6 ⟨_,⟨rfl,rfl⟩,rfl⟩
 have w4:=w3.trans e6
 refine WL.a0 ?_
 obtain ⟨⟨j,l7,l8,l9,m0⟩,p3,h⟩:=bnd h
 refine WL.f1 ?_
 have a:=a.mono (e5.trans e6)
 refine We (Cb co60 (f_ref07_some_ok (⟨a0.Body,(⟨l2,l3,l4,l5⟩:T_ref02_State)⟩:T_ref05_Cursor) l6 _ _ _ a (j,l7,l8,l9,m0) p3) (args2 Z Z)) Z ?_
 rintro _ A8 _ e7 ⟨_,⟨rfl,rfl⟩,rfl⟩
 have w5:=w4.trans e7
 refine WL.a1 (qu (pt r 12) (Fa fo25_12 Z Z) (WL.f1 (We (Es (Iv j) [(Iv a0.Kind),(Iv k),(Iv l),(Iv o),(Bv p),(Bv q),(Iv s),(Iv c),(Iv d),(Iv g),(Iv i),Zs,(Iv j),(Iv 0),Zs] Z sz3 Z Z Z Z Z (by kernel_rfl)) Z ?_)))
 rintro _ _ _ - ⟨rfl,rfl⟩
 refine Ns (qm (pt b 0) (qm (Iv a0.Kind) ?_))
 obtain ⟨m1,p4,h⟩:=bnd h
 refine We (Ca co41 (f_ref07_has_ok a0.Kind (111:Int) _ m1 p4) (args2 Z Z)) Z ?_
 rintro _ A9 _ e8 ⟨_,⟨rfl,rfl⟩,rfl⟩
 have w6:=w5.trans e8
 refine WL.a0 ?_
 obtain ⟨⟨m,m2,m3,m4,m5⟩,p5,h⟩:=bnd h
 refine WL.f1 ?_
 have a:=a.mono (e7.trans e8)
 refine We (Cb co60 (f_ref07_some_ok (⟨a0.Body,(⟨l7,l8,l9,m0⟩:T_ref02_State)⟩:T_ref05_Cursor) m1 _ _ _ a (m,m2,m3,m4,m5) p5) (args2 Z Z)) Z ?_
 rintro _ w7 _ G ⟨_,⟨rfl,rfl⟩,rfl⟩
 have w8:=w6.trans G
 refine WL.a1 (qu (pt r 13) (Fa fo25_13 Z Z) (WL.f1 (We (Es (Iv m) [(Iv a0.Kind),(Iv k),(Iv l),(Iv o),(Bv p),(Bv q),(Iv s),(Iv c),(Iv d),(Iv g),(Iv i),Zs,(Iv j),(Iv m),Zs] Z sz3 Z Z Z Z Z (by kernel_rfl)) Z ?_)))
 rintro _ _ _ - ⟨rfl,rfl⟩
 refine Nt ?_
 obtain ⟨m6,p6,h⟩:=bnd h
 refine Jf (fun(p_:((List Int)×Int×Int×ByteArray×Int)) ρ' M' H'=>match p_ with |(g6,g7,g8,g9,h0)=>∃ e,w7.le M'∧[(r, .cells #[(Iv a0.Kind),(Iv k),(Iv l),(Iv o),(Bv p),(Bv q),(Iv s),(Iv c),(Iv d),(Iv g),(Iv i),Zs,(Iv j),(Iv m),e] 25 (0,0))]::[(b, .cells #[f,(Iv g7),(Iv g8),(Sv g9),(Iv h0)] 98 (0,0))]::[(Q, .cells z42_.toArray 42 (0,0))]::[(P, .cells z25_.toArray 25 (0,0))]::[(O, .cells #[(Iv a0.Kind),f] 29 (0,0))]::F=H'∧ρ' 2=(pt P 0)∧ρ' 3=(pt Q 0)∧ρ' 4=(Iv a0.Kind)∧ρ' 5=(pt b 0)∧ρ' 6=(pt r 0)∧RS (Kd.int .u8) M' e g6) m6 ?_ ?_
 have h:=p6
 refine Sr (qm (Iv a0.Kind) ?_)
 obtain ⟨w9,p7,h⟩:=bnd h
 refine We (Ca co41 (f_ref07_has_ok a0.Kind (100:Int) _ w9 p7) (args2 Z Z)) Z ?_
 rintro _ B0 _ b1 ⟨_,⟨rfl,rfl⟩,rfl⟩
 refine WL.a0 (Nt (Ch h Z (fun p8 h=> ?_) (fun p8 h=> ?_)))
 refine Cg (qm (pt b 0) ?_)
 obtain ⟨⟨x0,x1,x2,x3,x4⟩,p9,h⟩:=bnd h
 refine WL.f1 ?_
 have a:=a.mono (G.trans b1)
 refine We (Cb co61 (f_ref05_Cursor_Text_ok (⟨a0.Body,(⟨m2,m3,m4,m5⟩:T_ref02_State)⟩:T_ref05_Cursor) (512:Int) _ _ _ a (x0,x1,x2,x3,x4) p9) (args2 Z Z)) Z ?_
 rintro _ B1 _ j1 ⟨_,⟨d3,rfl,rfl,d4⟩,rfl⟩
 refine WL.a1 (qu (pt r 14) (Fa fo25_14 Z Z) (WL.f1 (We (Es d3 [(Iv a0.Kind),(Iv k),(Iv l),(Iv o),(Bv p),(Bv q),(Iv s),(Iv c),(Iv d),(Iv g),(Iv i),Zs,(Iv j),(Iv m),d3] d4.cells sz23 Z Z (RS.one d4) Z Z (by kernel_rfl)) Z ?_)))
 rintro _ _ _ - ⟨rfl,rfl⟩
 refine Wz ?_
 obtain rfl:=oi h
 exact Tj ⟨d3,(b1.trans j1),Z,R,S,Z,Z,Z,d4⟩
 refine Ck ?_
 obtain rfl:=oi h
 exact Tj ⟨Zs,b1,Z,R,S,Z,Z,Z,RS.nil _ _⟩
 obtain ⟨g6,g7,g8,g9,h0⟩:=m6
 rintro B2 x5 B3 ⟨e,T,rfl,b6,b7,h1,Y,b8,E⟩
 have x6:=w8.trans T
 refine Sr (qa (Iv 0) (Nt ?_))
 obtain ⟨m7,q0,h⟩:=bnd h
 refine Jf (fun(p_:(Int×Int×Int×ByteArray×Int)) ρ' M' H'=>match p_ with |(a3,m8,m9,n0,n1)=>x5.le M'∧[(r, .cells #[(Iv a0.Kind),(Iv k),(Iv l),(Iv o),(Bv p),(Bv q),(Iv s),(Iv c),(Iv d),(Iv g),(Iv i),Zs,(Iv j),(Iv m),e] 25 (0,0))]::[(b, .cells #[f,(Iv m8),(Iv m9),(Sv n0),(Iv n1)] 98 (0,0))]::[(Q, .cells z42_.toArray 42 (0,0))]::[(P, .cells z25_.toArray 25 (0,0))]::[(O, .cells #[(Iv a0.Kind),f] 29 (0,0))]::F=H'∧ρ' 2=(pt P 0)∧ρ' 3=(pt Q 0)∧ρ' 5=(pt b 0)∧ρ' 6=(pt r 0)∧ρ' 7=(Iv a3)) m7 ?_ ?_
 have h:=q0
 refine Sr (qM (Iv a0.Kind) h1 ?_)
 obtain ⟨x7,q1,h⟩:=bnd h
 refine We (Ca co41 (f_ref07_has_ok a0.Kind (98:Int) _ x7 q1) (args2 Z Z)) Z ?_
 rintro _ B4 _ b2 ⟨_,⟨rfl,rfl⟩,rfl⟩
 refine WL.a0 (Nt (Ch h Z (fun q2 h=> ?_) (fun q2 h=> ?_)))
 refine Cg (qM (pt b 0) Y ?_)
 obtain ⟨⟨n2,x8,x9,y0,y1⟩,q3,h⟩:=bnd h
 refine WL.f1 ?_
 have a:=a.mono ((G.trans T).trans b2)
 refine We (Cb co58 (f_ref05_Cursor_Int_ok (⟨a0.Body,(⟨g7,g8,g9,h0⟩:T_ref02_State)⟩:T_ref05_Cursor) (8:Int) _ _ _ a (n2,x8,x9,y0,y1) q3) (args2 Z Z)) Z ?_
 rintro _ B5 _ j2 ⟨_,⟨rfl,rfl⟩,rfl⟩
 refine WL.a1 (qa (Iv n2) (Wz (WQ.f4 (WQ.f4 (WQ.f4 (WQ.f3 (WQ.f4 ?_)))))))
 obtain rfl:=oi h
 exact Tj ⟨(b2.trans j2),Z,b6,b7,Y,b8,Z⟩
 refine Ck ?_
 obtain rfl:=oi h
 exact Tj ⟨b2,Z,b6,b7,Y,b8,Z⟩
 obtain ⟨a3,m8,m9,n0,n1⟩:=m7
 rintro B6 n3 B7 ⟨U,rfl,h2,h3,h4,h5,h6⟩
 have y2:=x6.trans U
 obtain ⟨n4,q4,h⟩:=bnd h
 refine Jf (fun(p_:((List T_api_Batch)×Int×Int×ByteArray×Int)) ρ' M' H'=>match p_ with |(h7,h8,h9,i0,i1)=>∃ t a4,n3.le M'∧[(r, .cells #[(Iv a0.Kind),(Iv k),(Iv l),(Iv o),(Bv p),(Bv q),(Iv s),(Iv c),(Iv d),(Iv g),(Iv i),t,(Iv j),(Iv m),e] 25 (0,0))]::[(b, .cells #[f,(Iv h8),(Iv h9),(Sv i0),(Iv i1)] 98 (0,0))]::[(Q, .cells z42_.toArray 42 (0,0))]::[(P, .cells z25_.toArray 25 (0,0))]::[(O, .cells #[(Iv a0.Kind),f] 29 (0,0))]::a4::F=H'∧ρ' 2=(pt P 0)∧ρ' 3=(pt Q 0)∧ρ' 5=(pt b 0)∧ρ' 6=(pt r 0)∧OwnS kd_api_Batch M' t h7 a4) n4 ?_ ?_
 have h:=q4
 refine Sr (qa (Iv 0) (Nt (Bk (WC.e0 (WC.f5 (WC.f5 (WC.f5 (WC.f5 (WC.f5 ?_)))))))))
 obtain ⟨B8,q5,q6⟩:=bnd h
 clear h
 refine WC.loop q5 (fun(p_:(Int×Int×Int×ByteArray×Int×(List T_api_Batch))) ρ' M' H'=>match p_ with |(D,b9,N,c0,c1,c2)=>∃ K a5,n3.le M'∧[(r, .cells #[(Iv a0.Kind),(Iv k),(Iv l),(Iv o),(Bv p),(Bv q),(Iv s),(Iv c),(Iv d),(Iv g),(Iv i),K,(Iv j),(Iv m),e] 25 (0,0))]::[(b, .cells #[f,(Iv b9),(Iv N),(Sv c0),(Iv c1)] 98 (0,0))]::[(Q, .cells z42_.toArray 42 (0,0))]::[(P, .cells z25_.toArray 25 (0,0))]::[(O, .cells #[(Iv a0.Kind),f] 29 (0,0))]::a5::F=H'∧ρ' 2=(pt P 0)∧ρ' 3=(pt Q 0)∧ρ' 5=(pt b 0)∧ρ' 6=(pt r 0)∧ρ' 7=(Iv a3)∧ρ' 8=(Iv D)∧OwnS kd_api_Batch M' K c2 a5) ?_ ?_
 exact⟨Zs,[],lr,Z,h2,h3,h4,h5,h6,Z,(OwnS.nil _ _)⟩
 rintro ⟨D,b9,N,c0,c1,c2⟩ B9 C0 y3 C1 h ⟨K,a5,b3,rfl,c3,c4,a6,c5,a7,a8,L⟩
 unfold f_ref07_Read_l0 at h
 refine Cs ?_
 obtain ⟨i2,q7,h⟩:=bnd h
 refine Jf (fun(i2:Bool) ρ' M' H'=>y3.le M'∧[(r, .cells #[(Iv a0.Kind),(Iv k),(Iv l),(Iv o),(Bv p),(Bv q),(Iv s),(Iv c),(Iv d),(Iv g),(Iv i),K,(Iv j),(Iv m),e] 25 (0,0))]::[(b, .cells #[f,(Iv b9),(Iv N),(Sv c0),(Iv c1)] 98 (0,0))]::[(Q, .cells z42_.toArray 42 (0,0))]::[(P, .cells z25_.toArray 25 (0,0))]::[(O, .cells #[(Iv a0.Kind),f] 29 (0,0))]::a5::F=H'∧ρ' 2=(pt P 0)∧ρ' 3=(pt Q 0)∧ρ' 5=(pt b 0)∧ρ' 6=(pt r 0)∧ρ' 7=(Iv a3)∧ρ' 8=(Iv D)∧ρ' 104=(Bv i2)) i2 ?_ ?_
 have h:=q7
 refine Cg (qM (Iv D) a8 (qM (Iv a3) a7 (qu (Bv (decide (D<a3))) (lss Z Z) (qm (Bv (decide (D<a3))) ?_))))
 rcases Bi h with⟨w,h⟩ |⟨w,h⟩
 refine On 97 Z Z w (qM (pt b 0) a6 (qo 97 w (pt b 0) (Nk Z) (qo 97 w (pt b 1) (Fa fo98_1 Z Z) (qo 97 w (pt b 2) (Fa fo96_1 Z Z) (qo 97 w (Iv N) (Lb 1 pl38 Z Z Z) (qo 97 w (Bv (decide (N=0))) (eql Z Z) (qu (Bv (decide (N=0))) (Pt Z w Z) (Wz ?_))))))))
 obtain rfl:=oi h
 exact Tj ⟨lr,Z,c3,c4,a6,c5,a7,a8,Z⟩
 iterate 6 refine Of 97 Z Z w Z ?_
 refine qu (Bv false) (Pf Z w Z) (Wz ?_)
 obtain rfl:=oi h
 exact Tj ⟨lr,Z,c3,c4,a6,c5,a7,a8,Z⟩
 rintro C2 C3 C4 ⟨I,rfl,c6,c7,a9,J,i3,i4,d5⟩
 refine Ch h d5 (fun q8 h=> ?_) (fun q8 h=> ?_)
 refine Ck (Tc (Cs (Bk (Sr (qM (pt b 0) a9 ?_)))))
 obtain ⟨⟨u,n5,n6,n7,n8⟩,q9,h⟩:=bnd h
 refine WL.f1 ?_
 have a:=a.mono ((((G.trans T).trans U).trans b3).trans I)
 refine We (Cb co62 (f_ref06_Next_ok (⟨a0.Body,(⟨b9,N,c0,c1⟩:T_ref02_State)⟩:T_ref05_Cursor) _ _ _ a (u,n5,n6,n7,n8) q9) (args1 Z)) Z ?_
 rintro _ y4 _ e9 ⟨_,⟨n,i5,rfl,rfl,c8⟩,rfl⟩
 refine WL.a2 (We (Al ze55 Z) Z ?_)
 rintro _ _ _ - ⟨rfl,C5,rfl,rfl⟩
 refine We (Sg (v:=(a55_ u n)) (vl:=(l55 u n)) (arr':=(l55 u n)) Z sz55 Z Z (onesOf (Oc Z (Oc Z (Oc (Ow c8) Oz)))) Z Z Z) Z ?_
 rintro _ _ _ - ⟨rfl,rfl⟩
 refine Nt (Cg (qu (pt r 11) (Fa fo25_11 J Z) (qu K (Lb 3 pl22 Z Z Z) (qu (a55_ u n) (La (cs:=(l55 u n)) 0 ag55 sz55 Z Z Z) (Wb (WL.know (fun _ hs=>c8.rs hs) (fun r0=> ?_)))))))
 refine WL.freeze (fun f0=> ?_)
 refine We (buildSliceL (cl:=(l55 u n)) underlying22 iz55 Z (Pc (a55_ u n) Z Z Pz) Z) Z ?_
 rintro _ _ _ - ⟨rfl,n9,rfl,rfl⟩
 have y5:OwnS kd_api_Batch (y4.add i5) (.slice (some ⟨n9,0,none⟩) 1 1) [u] [(n9, .cells (l55 u n).toArray 55 (0,0))]:=OwnS.rows (css:=[(l55 u n)]) (Rows.cons (kd_api_Batch_mk (x:=u) r0) Rows.nil) Z Z
 obtain ⟨r1,h⟩:=grd_i h
 refine WL.f7 ?_
 have L:=L.mono ((I.trans e9).trans f0)
 refine We (append (dd:=kd_api_Batch) (xs:=c2) (ys:=[u]) underlying22 underlying22 in55 Z (appB (by decide) r1) (by decide) Z Z L (y5.src 1 Z)) Z ?_
 rintro i6 _ _ - ⟨rfl,y6,rfl,i7⟩
 refine qu (pt r 11) (Fa fo25_11 J Z) (WL.f4 (We (Es i6 [(Iv a0.Kind),(Iv k),(Iv l),(Iv o),(Bv p),(Bv q),(Iv s),(Iv c),(Iv d),(Iv g),(Iv i),i6,(Iv j),(Iv m),e] i7.cells sz22 Z Z (Ow i7) Z Z (by kernel_rfl)) Z ?_))
 rintro _ _ _ - ⟨rfl,rfl⟩
 refine Wz (Bn (Tc (Cg (qM (Iv D) i4 (qu (Iv (i64.wrap (D+1))) (add Z Z) (qa (Iv (i64.wrap (D+1))) (Wz (Qb (Dr (Qb (Dr ?_)))))))))))
 exact Qa (WQ.f5 (WQ.f5 (WQ.f5 (WQ.f5 (WQ.f5 (WQ.again (i64.wrap (D+1),n5,n6,n7,n8,c2++[u]) (oi h).symm ⟨i6,y6,(((b3.trans I).trans e9).trans f0),Z,c6,c7,a9,J,i3,Z,i7⟩))))))
 refine WC.exit (WQ.thenE (WQ.leaveE (c2,b9,N,c0,c1) (oi h).symm (fun j3=> ?_)))
 subst j3
 have h:=q6
 refine WQ.blockH ?_
 obtain rfl:=oi h
 refine Tj ?_
 have L:=L.mono I
 exact⟨K,a5,(b3.trans I),Z,c6,c7,a9,J,L⟩
 obtain ⟨h7,h8,h9,i0,i1⟩:=n4
 rintro C6 C7 C8 ⟨t,a4,b4,rfl,y,z,B,c9,C⟩
 have y7:=y2.trans b4
 refine Sr (qM (pt b 0) B ?_)
 obtain ⟨⟨y8,d0,i8,i9⟩,r2,h⟩:=bnd h
 refine WL.f1 ?_
 have a:=a.mono (((G.trans T).trans U).trans b4)
 refine We (Cb co63 (f_ref05_Cursor_End_ok (⟨a0.Body,(⟨h8,h9,i0,i1⟩:T_ref02_State)⟩:T_ref05_Cursor) _ _ _ a (y8,d0,i8,i9) r2) (args1 Z)) Z ?_
 rintro _ C9 _ b5 ⟨_,⟨rfl,rfl⟩,rfl⟩
 have j0:=y7.trans b5
 refine WL.a1 (Nt (Cs (Sr (qM (pt b 0) B (qu (pt b 0) (Nk Z) (qu (pt b 1) (Fa fo98_1 Z Z) (qu (pt b 2) (Fa fo96_1 Z Z) (qu (Iv d0) (Lb 0 pl38 Z Z Z) (qu (Bv (decide (d0≠0))) (neq Z Z) (Nt (Ch h Z (fun r3 h=> ?_) (fun r3 h=> ?_))))))))))))
 refine Cs (WC.draw [0,0,2,6,14,30,0,64,192,448,960,0,2048,6144,14336,30720,65534,131071,262143] (.pure 0 (.pure 1 (.pure 2 (.pure 3 (.pure 4 (.pure 5 (.pure 6 (.pure 7 (.pure 8 (.pure 9 (.pure 10 (.pure 11 (.pure 12 (.pure 13 (.pure 14 (.pure 15 (.alt 16 (.alt 17 (.alt 18 .done .none) .none) .none))))))))))))))))) mixed (by kernel_rfl) (qt (.agg z25_.toArray) Z (Bl (cl:=z25_) ze25 fp25 Pz Z) (qt (pt b 0) Z (Mv B) (qt (pt b 0) Z (Nk Z) (qt (pt b 1) Z (Fa fo98_1 Z Z) (qt (pt b 3) Z (Fa fo96_2 Z Z) (qt (Sv i8) Z (Lb 0 pl9 Z Z Z) (qt (pt b 0) Z (Mv B) (qt (pt b 0) Z (Nk Z) (qt (pt b 1) Z (Fa fo98_1 Z Z) (qt (pt b 4) Z (Fa fo96_3 Z Z) ?_)))))))))))
 refine qt (Iv i9) Z (Lb 0 pl3 Z Z Z) (qt (pt b 0) Z (Mv B) (qt (pt b 0) Z (Nk Z) (qt (pt b 1) Z (Fa fo98_1 Z Z) (qt (pt b 2) Z (Fa fo96_1 Z Z) (qt (Iv d0) Z (Lb 0 pl38 Z Z Z) ?_)))))
 obtain ⟨d1,r4,h⟩:=bnd h
 refine Ta Z (Ca co40 (f_ref07_no_ok i8 i9 d0 _ d1 r4) (args3 Z Z Z)) Z ?_ ?_
 rintro _ D0 _ j4 ⟨_,⟨rfl,rfl⟩,rfl⟩
 refine⟨(Sk 15 Z (Ss Z (Bl (cl:=z25_) ze25 fp25 Pz Z) Z trivial)), ?_⟩
 refine WT.a0 (WT.f3 (Ta Z (Sg (v:=(.agg z25_.toArray)) (vl:=z25_) (arr':=z25_) Z sz25 y Z (onb Z) Z Z (by kernel_rfl)) Z ?_ ?_))
 rintro _ _ _ - ⟨rfl,rfl⟩
 refine⟨(Sl Z), ?_⟩
 refine WT.f3 (Ta Z (Sg (v:=(a42_ d1)) (vl:=(l42 d1)) (arr':=(l42 d1)) Z sz42 z Z (onb Z) Z Z Z) Z ?_ ?_)
 rintro _ _ _ - ⟨rfl,rfl⟩
 refine⟨(Sl Z), ?_⟩
 refine Ti (Tc (Cr (Tr (WQ.e0 (WQ.f3 (Dr (WQ.f3 (Dr (WQ.f3 (Dr (WQ.f3 ?_)))))))))))
 exact Dr (Qa (Qb (Rd h [[]] (fun _ hs=>hs.drop.drop) (resultsLN Z (RVs.cons (Rc (cs:=z25_) 0 ag25 sz25 y Z Z) (RVs.cons (Rc (cs:=(l42 d1)) 1 ag42 sz42 z Z Z) RVs.nil))) (j0.trans j4) ⟨Zs,[],Zs,Z,Z,(OwnS.nil _ _),RS.nil _ _⟩)))
 exact Tz
 exact Tz
 exact Tz
 refine Ck (Tc (Cs (Sr (qu (.agg #[(Iv a0.Kind),(Iv k),(Iv l),(Iv o),(Bv p),(Bv q),(Iv s),(Iv c),(Iv d),(Iv g),(Iv i),t,(Iv j),(Iv m),e]) (La (cs:=[(Iv a0.Kind),(Iv k),(Iv l),(Iv o),(Bv p),(Bv q),(Iv s),(Iv c),(Iv d),(Iv g),(Iv i),t,(Iv j),(Iv m),e]) 1 ag25 sz25 c9 Z Z) ?_))))
 obtain ⟨A,r5,h⟩:=bnd h
 refine WL.f5 ?_
 have C:=C.mono b5
 have E:=E.mono ((U.trans b4).trans b5)
 refine We (Cb co14 (Tri.lend C.excl fun w0_ H0_ hs0_=>(f_ref07_Check_ok (⟨a0.Kind,k,l,o,p,q,s,c,d,g,i,h7,j,m,g6⟩:T_api_Rpc) _ _ _ (C.rs hs0_) (E.mono (IM.le_add _ _)) A r5)) (args1 Z)) Z ?_
 rintro _ _ _ V ⟨_,⟨z6,z7,y9,rfl,rfl,⟨rfl,rfl⟩⟩,rfl⟩
 refine WL.a1 (We (Al ze42 Z) Z ?_)
 rintro _ _ _ - ⟨rfl,o0,rfl,rfl⟩
 refine We (Sg (v:=(a42_ A)) (vl:=(l42 A)) (arr':=(l42 A)) Z sz42 Z Z (onb Z) Z Z Z) Z ?_
 rintro _ _ _ - ⟨rfl,rfl⟩
 refine Ns (qu (pt o0 0) (Fa fo42_0 Z Z) (qu (pt o0 2) (Fa fo40_2 Z Z) (qu (Iv A.W.Code) (Lb 0 pl38 Z Z Z) (qu (Bv (decide (A.W.Code≠0))) (neq Z Z) (Nt (Ch h Z (fun r6 h=> ?_) (fun r6 h=> ?_)))))))
 refine Cs (WC.draw [0,0,1,7] (.pure 0 (.pure 1 (.alt 2 (.alt 3 .done .none) .none))) mixed (by kernel_rfl) (qt (.agg z25_.toArray) Z (Bl (cl:=z25_) ze25 fp25 Pz Z) (qt (a42_ A) Z (La (cs:=(l42 A)) 0 ag42 sz42 Z Z Z) (WT.f5 (Ta Z (Sg (v:=(.agg z25_.toArray)) (vl:=z25_) (arr':=z25_) Z sz25 y Z (onb Z) Z Z (by kernel_rfl)) Z ?_ ?_)))))
 rintro _ _ _ - ⟨rfl,rfl⟩
 refine⟨(Ss Z (La (cs:=(l42 A)) 1 ag42 sz42 Z Z Z) Z (Sl Z)), ?_⟩
 refine WT.f5 (Ta Z (Sg (v:=(a42_ A)) (vl:=(l42 A)) (arr':=(l42 A)) Z sz42 z Z (onb Z) Z Z Z) Z ?_ ?_)
 rintro _ _ _ - ⟨rfl,rfl⟩
 refine⟨(Sl Z), ?_⟩
 refine Ti (Tc (Cr (Tr (WQ.e0 (WQ.f3 (Dr (WQ.f3 (Dr (WQ.f3 (Dr (WQ.f3 ?_)))))))))))
 exact Dr (WQ.f3 (Dr (Qa (Qb (Rd h [[]] (fun _ hs=>hs.drop.drop) (resultsLN Z (RVs.cons (Rc (cs:=z25_) 0 ag25 sz25 y Z Z) (RVs.cons (Rc (cs:=(l42 A)) 1 ag42 sz42 z Z Z) RVs.nil))) (j0.trans V) ⟨Zs,[],Zs,Z,Z,(OwnS.nil _ _),RS.nil _ _⟩)))))
 exact Tz
 exact Tz
 refine Ck (Tc (Sr (qu (.agg #[(Iv a0.Kind),(Iv k),(Iv l),(Iv o),(Bv p),(Bv q),(Iv s),(Iv c),(Iv d),(Iv g),(Iv i),t,(Iv j),(Iv m),e]) (La (cs:=[(Iv a0.Kind),(Iv k),(Iv l),(Iv o),(Bv p),(Bv q),(Iv s),(Iv c),(Iv d),(Iv g),(Iv i),t,(Iv j),(Iv m),e]) 3 ag25 sz25 c9 Z Z) (qu (.agg #[(Sv ⟨#[]⟩),(Iv 0),(Iv 0),(Iv (-1:Int))]) (Bl (cl:=[(Sv ⟨#[]⟩),(Iv 0),(Iv 0),(Iv (-1:Int))]) ze42 fp42 (Pc (Iv (-1:Int)) Z Z Pz) Z) (WL.f5 ?_)))))
 have C:=C.mono V
 have E:=E.mono V
 refine We (Sg (v:=(.agg #[(Iv a0.Kind),(Iv k),(Iv l),(Iv o),(Bv p),(Bv q),(Iv s),(Iv c),(Iv d),(Iv g),(Iv i),t,(Iv j),(Iv m),e])) (vl:=[(Iv a0.Kind),(Iv k),(Iv l),(Iv o),(Bv p),(Bv q),(Iv s),(Iv c),(Iv d),(Iv g),(Iv i),t,(Iv j),(Iv m),e]) (arr':=[(Iv a0.Kind),(Iv k),(Iv l),(Iv o),(Bv p),(Bv q),(Iv s),(Iv c),(Iv d),(Iv g),(Iv i),t,(Iv j),(Iv m),e]) Z sz25 y Z (onesOf (Oc Z (Oc Z (Oc Z (Oc Z (Oc Z (Oc Z (Oc Z (Oc Z (Oc Z (Oc Z (Oc Z (Oc (Ow C) (Oc Z (Oc Z (Oc (RS.one E) Oz)))))))))))))))) Z Z (by kernel_rfl)) Z ?_
 rintro _ _ _ - ⟨rfl,rfl⟩
 refine WL.f5 (We (Sg (v:=(.agg #[(Sv ⟨#[]⟩),(Iv 0),(Iv 0),(Iv (-1:Int))])) (vl:=[(Sv ⟨#[]⟩),(Iv 0),(Iv 0),(Iv (-1:Int))]) (arr':=[(Sv ⟨#[]⟩),(Iv 0),(Iv 0),(Iv (-1:Int))]) Z sz42 z Z (onb Z) Z Z Z) Z ?_)
 rintro _ _ _ - ⟨rfl,rfl⟩
 refine Nt (Cr (Qb (Dr (WQ.f3 (Dr (WQ.f3 (Dr (WQ.f3 (Dr (Qb (Qa ?_)))))))))))
 exact Qb (Rd h [a4] (fun _ hs=>hs.drop.drop) (resultsLN Z (RVs.cons (Rc (cs:=[(Iv a0.Kind),(Iv k),(Iv l),(Iv o),(Bv p),(Bv q),(Iv s),(Iv c),(Iv d),(Iv g),(Iv i),t,(Iv j),(Iv m),e]) 0 ag25 sz25 y Z Z) (RVs.cons (Rc (cs:=[(Sv ⟨#[]⟩),(Iv 0),(Iv 0),(Iv (-1:Int))]) 1 ag42 sz42 z Z Z) RVs.nil))) (j0.trans V) ⟨t,a4,e,Z,Z,C,E⟩)
noncomputable def f_ref02_Same_l0 (a0:(List Int)) (a1:(List Int)) (s_:Int):Option (Int⊕(Unit⊕Unit)):=
 match s_ with
 |a=>
 (if(decide (a<(a0.length:Int)))=true then(grd (0≤a∧a<a0.length) (grd (0≤a∧a<a1.length) (if(decide ((rd a0 a)≠(rd a1 a)))=true then(some (inr (inr ())))else(some (inl (i64.wrap (a+(1:Int))))))))else(some (inr (inl ()))))
noncomputable def f_ref02_Same (a0:(List Int)) (a1:(List Int)):Option Bool:=
 (if(decide ((a0.length:Int)≠(a1.length:Int)))=true then(some false)else((((iter (f_ref02_Same_l0 a0 a1) (0:Int)).bind (Sum.elim (fun _=>(some (inl ()))) (fun _=>(((some false)).bind fun r=>some (inr r))))):Option (Unit⊕Bool)).bind (Sum.elim (fun _=>(some true)) some)))
def f_ref02_Same_post (a0:(List Int)) (a1:(List Int)) (b c:Value):Bool→Value→IM→HL→Prop:=
 fun(a:Bool) (v:Value) (M':IM) (H':HL)=>(.bool a)=v∧H'=[]
theorem f_ref02_Same_ok (a0:(List Int)) (a1:(List Int)) (M:IM) (k r:Value) (s:RS (Kd.int .u8) M k a0) (z:RS (Kd.int .u8) M r a1) (res:Bool) (h:f_ref02_Same a0 a1=some res):
 Tri prog 13 #[k,r] M [] (f_ref02_Same_post a0 a1 k r res):=by
 unfold f_ref02_Same at h
 refine Te func13 Z Z ?_
 intro F ρ hρ
 refine Sr (qa (Bv false) (Nt (Cs (Sr (qM k (hρ 0) (qu (Iv (a0.length:Int)) (lenS underlying23 Z s.len) (qM r (hρ 1) (qu (Iv (a1.length:Int)) (lenS underlying23 Z z.len) (qu (Bv (decide ((a0.length:Int)≠(a1.length:Int)))) (neq Z Z) (Nt (Ch h Z (fun t h=> ?_) (fun t h=> ?_))))))))))))
 exact Sr (qa (Bv false) (Nt (Cr (Tr (Rf h [] Z (Rs Z Z) lr ⟨Z,Z⟩)))))
 refine Ck (Tc ?_)
 obtain ⟨A,u,h⟩:=bnd h
 refine WC.joinE (fun(_:Unit) ρ' M' H'=>M.le M'∧F=H') A ?_ ?_
 have v:=h
 have h:=u
 refine Sr (qa (Iv 0) (Nt (Bk ?_)))
 obtain ⟨G,w,j⟩:=bnd h
 clear h
 refine WC.loop w (fun(a:Int) ρ' M' H'=>M.le M'∧F=H'∧ρ' 0=k∧ρ' 1=r∧ρ' 5=(Iv a)) ?_ ?_
 exact⟨lr,Z,(hρ 0),(hρ 1),Z⟩
 rintro a I J K L h ⟨c,rfl,d,f,b⟩
 unfold f_ref02_Same_l0 at h
 refine Cs (Sr (qM (Iv a) b (qM k d ?_)))
 have s:=s.mono c
 refine qu (Iv (a0.length:Int)) (lenS underlying23 Z s.len) (qu (Bv (decide (a<(a0.length:Int)))) (lss Z Z) (Nt (Ch h Z (fun x h=> ?_) (fun x h=> ?_))))
 refine Ck (Tc (Cs (Bk (Cs (WC.draw [0,0,3,7,0,0,48,112,255] (.pure 0 (.pure 1 (.pure 2 (.pure 3 (.pure 4 (.pure 5 (.pure 6 (.pure 7 (.pure 8 .done))))))))) mixed (by kernel_rfl) (qt k Z (Mv d) (qt (Iv a) Z (Mv b) ?_)))))))
 obtain ⟨g,h⟩:=grd_i h
 obtain ⟨B,D,l,m,hhas31⟩:=s.at g.1 g.2 (by decide)
 obtain rfl:=m
 refine qt (.pointer (some B)) Z (indexAddr (n:=a0.length) underlying23 sz5 Z Z g.1 g.2 l) (qt (Yv (rd a0 a)) Z (loadM pl5 Z (IM.has0 hhas31)) (qt r Z (Mv f) (qt (Iv a) Z (Mv b) ?_)))
 obtain ⟨i,h⟩:=grd_i h
 have z:=z.mono c
 obtain ⟨C,E,o,p,hhas38⟩:=z.at i.1 i.2 (by decide)
 obtain rfl:=p
 refine qt (.pointer (some C)) Z (indexAddr (n:=a1.length) underlying23 sz5 Z Z i.1 i.2 o) (qt (Yv (rd a1 a)) Z (loadM pl5 Z (IM.has0 hhas38)) (qt (Bv (decide ((rd a0 a)≠(rd a1 a)))) Z (neq Z Z) (Ti (Tc (Ch h Z (fun y h=> ?_) (fun y h=> ?_))))))
 refine Sr (qa (Bv false) (Nt (Cr (Br (Tr (WQ.leaveR (inr ()) (oi h).symm (fun e=> ?_)))))))
 subst e
 have h:=(elimR j)
 refine Br (Tr ?_)
 have h:=KK.early h v
 exact Rf h [] Z (Rs Z Z) c ⟨Z,Z⟩
 exact Ck (Bn (Tc (Cg (qM (Iv a) b (qu (Iv (i64.wrap (a+1))) (add Z Z) (qa (Iv (i64.wrap (a+1))) (Wz (WQ.again (i64.wrap (a+1)) (oi h).symm ⟨c,Z,d,f,Z⟩))))))))
 refine WC.exit (WQ.thenE (WQ.leaveE (inl ()) (oi h).symm (fun e=> ?_)))
 subst e
 have h:=elimL j
 exact WQ.blockH (WQ.thenFE h ⟨c,Z⟩)
 rintro _ N O P rfl ⟨q,rfl⟩
 have h:=(Sum.elim_inl _ _ _).symm.trans h
 exact Sr (qa (Bv true) (Nt (Cr (Rf h [] Z (Rs Z Z) q ⟨Z,Z⟩))))
noncomputable def f_ref02_Ints_l0 (a0:(List Int)) (a1:(List Int)) (s_:Int):Option (Int⊕(Unit⊕Unit)):=
 match s_ with
 |a=>
 (if(decide (a<(a0.length:Int)))=true then(grd (0≤a∧a<a0.length) (grd (0≤a∧a<a1.length) (if(decide ((rd a0 a)≠(rd a1 a)))=true then(some (inr (inr ())))else(some (inl (i64.wrap (a+(1:Int))))))))else(some (inr (inl ()))))
noncomputable def f_ref02_Ints (a0:(List Int)) (a1:(List Int)):Option Bool:=
 (if(decide ((a0.length:Int)≠(a1.length:Int)))=true then(some false)else((((iter (f_ref02_Ints_l0 a0 a1) (0:Int)).bind (Sum.elim (fun _=>(some (inl ()))) (fun _=>(((some false)).bind fun r=>some (inr r))))):Option (Unit⊕Bool)).bind (Sum.elim (fun _=>(some true)) some)))
def f_ref02_Ints_post (a0:(List Int)) (a1:(List Int)) (b c:Value):Bool→Value→IM→HL→Prop:=
 fun(a:Bool) (v:Value) (M':IM) (H':HL)=>(.bool a)=v∧H'=[]
theorem f_ref02_Ints_ok (a0:(List Int)) (a1:(List Int)) (M:IM) (k r:Value) (s:RS (Kd.int .i64) M k a0) (z:RS (Kd.int .i64) M r a1) (res:Bool) (h:f_ref02_Ints a0 a1=some res):
 Tri prog 133 #[k,r] M [] (f_ref02_Ints_post a0 a1 k r res):=by
 unfold f_ref02_Ints at h
 refine Te func133 Z Z ?_
 intro F ρ hρ
 refine Sr (qa (Bv false) (Nt (Cs (Sr (qM k (hρ 0) (qu (Iv (a0.length:Int)) (lenS underlying56 Z s.len) (qM r (hρ 1) (qu (Iv (a1.length:Int)) (lenS underlying56 Z z.len) (qu (Bv (decide ((a0.length:Int)≠(a1.length:Int)))) (neq Z Z) (Nt (Ch h Z (fun t h=> ?_) (fun t h=> ?_))))))))))))
 exact Sr (qa (Bv false) (Nt (Cr (Tr (Rf h [] Z (Rs Z Z) lr ⟨Z,Z⟩)))))
 refine Ck (Tc ?_)
 obtain ⟨A,u,h⟩:=bnd h
 refine WC.joinE (fun(_:Unit) ρ' M' H'=>M.le M'∧F=H') A ?_ ?_
 have v:=h
 have h:=u
 refine Sr (qa (Iv 0) (Nt (Bk ?_)))
 obtain ⟨G,w,j⟩:=bnd h
 clear h
 refine WC.loop w (fun(a:Int) ρ' M' H'=>M.le M'∧F=H'∧ρ' 0=k∧ρ' 1=r∧ρ' 5=(Iv a)) ?_ ?_
 exact⟨lr,Z,(hρ 0),(hρ 1),Z⟩
 rintro a I J K L h ⟨c,rfl,d,f,b⟩
 unfold f_ref02_Ints_l0 at h
 refine Cs (Sr (qM (Iv a) b (qM k d ?_)))
 have s:=s.mono c
 refine qu (Iv (a0.length:Int)) (lenS underlying56 Z s.len) (qu (Bv (decide (a<(a0.length:Int)))) (lss Z Z) (Nt (Ch h Z (fun x h=> ?_) (fun x h=> ?_))))
 refine Ck (Tc (Cs (Bk (Cs (WC.draw [0,0,3,7,0,0,48,112,255] (.pure 0 (.pure 1 (.pure 2 (.pure 3 (.pure 4 (.pure 5 (.pure 6 (.pure 7 (.pure 8 .done))))))))) mixed (by kernel_rfl) (qt k Z (Mv d) (qt (Iv a) Z (Mv b) ?_)))))))
 obtain ⟨g,h⟩:=grd_i h
 obtain ⟨B,D,l,m,hhas31⟩:=s.at g.1 g.2 (by decide)
 obtain rfl:=m
 refine qt (.pointer (some B)) Z (indexAddr (n:=a0.length) underlying56 sz3 Z Z g.1 g.2 l) (qt (Iv (rd a0 a)) Z (loadM pl3 Z (IM.has0 hhas31)) (qt r Z (Mv f) (qt (Iv a) Z (Mv b) ?_)))
 obtain ⟨i,h⟩:=grd_i h
 have z:=z.mono c
 obtain ⟨C,E,o,p,hhas38⟩:=z.at i.1 i.2 (by decide)
 obtain rfl:=p
 refine qt (.pointer (some C)) Z (indexAddr (n:=a1.length) underlying56 sz3 Z Z i.1 i.2 o) (qt (Iv (rd a1 a)) Z (loadM pl3 Z (IM.has0 hhas38)) (qt (Bv (decide ((rd a0 a)≠(rd a1 a)))) Z (neq Z Z) (Ti (Tc (Ch h Z (fun y h=> ?_) (fun y h=> ?_))))))
 refine Sr (qa (Bv false) (Nt (Cr (Br (Tr (WQ.leaveR (inr ()) (oi h).symm (fun e=> ?_)))))))
 subst e
 have h:=(elimR j)
 refine Br (Tr ?_)
 have h:=KK.early h v
 exact Rf h [] Z (Rs Z Z) c ⟨Z,Z⟩
 exact Ck (Bn (Tc (Cg (qM (Iv a) b (qu (Iv (i64.wrap (a+1))) (add Z Z) (qa (Iv (i64.wrap (a+1))) (Wz (WQ.again (i64.wrap (a+1)) (oi h).symm ⟨c,Z,d,f,Z⟩))))))))
 refine WC.exit (WQ.thenE (WQ.leaveE (inl ()) (oi h).symm (fun e=> ?_)))
 subst e
 have h:=elimL j
 exact WQ.blockH (WQ.thenFE h ⟨c,Z⟩)
 rintro _ N O P rfl ⟨q,rfl⟩
 have h:=(Sum.elim_inl _ _ _).symm.trans h
 exact Sr (qa (Bv true) (Nt (Cr (Rf h [] Z (Rs Z Z) q ⟨Z,Z⟩))))

end Go.Proofs.YtkflneabcannnaaGreatDoor.G
