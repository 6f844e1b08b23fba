/- Go functions: what they come to, and that they do. Printed by a program of the session (gen). -/
import Derived.Test.YtkflneabcannnaaGreatDoorVF
import Derived.Test.YtkflneabcannnaaGreatDoorV5
import Derived.Test.YtkflneabcannnaaGreatDoorV6
import Derived.Test.YtkflneabcannnaaGreatDoorKConv
import Derived.Test.YtkflneabcannnaaGreatDoorKShar2
import Derived.Test.YtkflneabcannnaaGreatDoorKTight2
set_option linter.unusedVariables false
set_option linter.unusedSimpArgs false
set_option maxHeartbeats 8000000
set_option maxRecDepth 100000
namespace Go.Proofs.YtkflneabcannnaaGreatDoor.G
open Go Go.KK
open PO EO IntKind Sum Tryz

noncomputable def f_ref05_Name_l0 (a0:ByteArray) (s_:Int):Option (Int⊕(Unit⊕Unit)):=
 match s_ with
 |a=>
 (if(decide (a<(a0.size:Int)))=true then(grd (0≤a∧a<a0.size) (((if(decide ((97:Int)≤(btAt a0 a)))=true then(if(decide ((btAt a0 a)≤(122:Int)))=true then(some true)else(if(decide ((48:Int)≤(btAt a0 a)))=true then(if(decide ((btAt a0 a)≤(57:Int)))=true then(some true)else(if(decide ((btAt a0 a)=(46:Int)))=true then(some true)else(some (decide ((btAt a0 a)=(45:Int))))))else(if(decide ((btAt a0 a)=(46:Int)))=true then(some true)else(some (decide ((btAt a0 a)=(45:Int)))))))else(if(decide ((48:Int)≤(btAt a0 a)))=true then(if(decide ((btAt a0 a)≤(57:Int)))=true then(some true)else(if(decide ((btAt a0 a)=(46:Int)))=true then(some true)else(some (decide ((btAt a0 a)=(45:Int))))))else(if(decide ((btAt a0 a)=(46:Int)))=true then(some true)else(some (decide ((btAt a0 a)=(45:Int))))))):Option Bool).bind fun b=>(if(!b)=true then(some (inr (inr ())))else(some (inl (i64.wrap (a+(1:Int))))))))else(some (inr (inl ()))))
noncomputable def f_ref05_Name (a0:ByteArray):Option Bool:=
 (((if(decide ((a0.size:Int)<(1:Int)))=true then(some true)else(if(decide ((40:Int)<(a0.size:Int)))=true then(some true)else(if(decide (a0=(⟨#[46]⟩:ByteArray)))=true then(some true)else(some (decide (a0=(⟨#[46,46]⟩:ByteArray))))))):Option Bool).bind fun a=>(if a=true then(some false)else((((iter (f_ref05_Name_l0 a0) (0:Int)).bind (Sum.elim (fun _=>(some (inl ()))) (fun _=>(((some false)).bind fun r=>some (inr r))))):Option (Unit⊕Bool)).bind (Sum.elim (fun _=>(some true)) some))))
def f_ref05_Name_post (a0:ByteArray):Bool→Value→IM→HL→Prop:=
 fun(a:Bool) (v:Value) (M':IM) (H':HL)=>(.bool a)=v∧H'=[]
theorem f_ref05_Name_ok (a0:ByteArray) (M:IM) (res:Bool) (h:f_ref05_Name a0=some res):
 Tri prog 135 #[(Sv a0)] M [] (f_ref05_Name_post a0 res):=by
 unfold f_ref05_Name at h
 refine Te func135 Z Z ?_
 intro F ρ hρ
 refine Sr (qa (Bv false) (Nt (Cs ?_)))
 obtain ⟨D,G,h⟩:=bnd h
 refine Jf (fun(D:Bool) ρ' M' H'=>M.le M'∧F=H'∧ρ' 0=(Sv a0)∧ρ' 21=(Bv D)) D ?_ ?_
 have h:=G
 refine Cg (qM (Sv a0) (hρ 0) (qu (Iv (a0.size:Int)) (lenStr underlying9 Z) (qu (Bv (decide ((a0.size:Int)<(1:Int)))) (lss Z Z) (qm (Bv (decide ((a0.size:Int)<(1:Int)))) ?_))))
 rcases Bi h with⟨e,h⟩ |⟨e,h⟩
 iterate 3 refine Of 9 Z Z e Z ?_
 refine qu (Bv true) (Pt Z e Z) (qm (Bv true) ?_)
 iterate 2 refine Of 14 Z Z Z Z ?_
 refine qu (Bv true) (Pt Z Z Z) (qm (Bv true) ?_)
 iterate 2 refine Of 18 Z Z Z Z ?_
 refine qu (Bv true) (Pt Z Z Z) (Wz ?_)
 obtain rfl:=oi h
 exact Tj ⟨lr,Z,(hρ 0),Z⟩
 refine On 9 Z Z e (qM (Sv a0) (hρ 0) (qo 9 e (Iv (a0.size:Int)) (lenStr underlying9 Z) (qo 9 e (Bv (decide ((40:Int)<(a0.size:Int)))) (gtr Z Z) (qu (Bv (decide ((40:Int)<(a0.size:Int)))) (Pf Z e Z) (qm (Bv (decide ((40:Int)<(a0.size:Int)))) ?_)))))
 rcases Bi h with⟨f,h⟩ |⟨f,h⟩
 iterate 2 refine Of 14 Z Z f Z ?_
 refine qu (Bv true) (Pt Z f Z) (qm (Bv true) ?_)
 iterate 2 refine Of 18 Z Z Z Z ?_
 refine qu (Bv true) (Pt Z Z Z) (Wz ?_)
 obtain rfl:=oi h
 exact Tj ⟨lr,Z,(hρ 0),Z⟩
 refine On 14 Z Z f (qM (Sv a0) (hρ 0) (qo 14 f (Bv (decide (a0=(⟨#[46]⟩:ByteArray)))) (seql Z Z) (qu (Bv (decide (a0=(⟨#[46]⟩:ByteArray)))) (Pf Z f Z) (qm (Bv (decide (a0=(⟨#[46]⟩:ByteArray)))) ?_))))
 rcases Bi h with⟨g,h⟩ |⟨g,h⟩
 iterate 2 refine Of 18 Z Z g Z ?_
 refine qu (Bv true) (Pt Z g Z) (Wz ?_)
 obtain rfl:=oi h
 exact Tj ⟨lr,Z,(hρ 0),Z⟩
 refine On 18 Z Z g (qM (Sv a0) (hρ 0) (qo 18 g (Bv (decide (a0=(⟨#[46,46]⟩:ByteArray)))) (seql Z Z) (qu (Bv (decide (a0=(⟨#[46,46]⟩:ByteArray)))) (Pf Z g Z) (Wz ?_))))
 obtain rfl:=oi h
 exact Tj ⟨lr,Z,(hρ 0),Z⟩
 rintro T I U ⟨r,rfl,x,u⟩
 refine Ch h u (fun J h=> ?_) (fun J h=> ?_)
 exact Sr (qa (Bv false) (Nt (Cr (Tr (Rf h [] Z (Rs Z Z) r ⟨Z,Z⟩)))))
 refine Ck (Tc ?_)
 obtain ⟨R,K,h⟩:=bnd h
 refine WC.joinE (fun(_:Unit) ρ' M' H'=>I.le M'∧F=H') R ?_ ?_
 have L:=h
 have h:=K
 refine Sr (qa (Iv 0) (Nt (Bk ?_)))
 obtain ⟨V,N,B⟩:=bnd h
 clear h
 refine WC.loop N (fun(a:Int) ρ' M' H'=>I.le M'∧F=H'∧ρ' 0=(Sv a0)∧ρ' 3=(Iv a)) ?_ ?_
 exact⟨lr,Z,x,Z⟩
 rintro a W X S Y h ⟨s,rfl,b,c⟩
 unfold f_ref05_Name_l0 at h
 refine Cs (Sr (qM (Iv a) c (qM (Sv a0) b (qu (Iv (a0.size:Int)) (lenStr underlying9 Z) (qu (Bv (decide (a<(a0.size:Int)))) (lss Z Z) (Nt (Ch h Z (fun O h=> ?_) (fun O h=> ?_))))))))
 refine Ck (Tc (Cs (Bk (Sr (qM (Sv a0) b (qM (Iv a) c ?_))))))
 obtain ⟨C,h⟩:=grd_i h
 refine qu (Yv (btAt a0 a)) (indexStr underlying9 Z Z C.1 (strAt C)) (qa (Yv (btAt a0 a)) (Nt ?_))
 obtain ⟨v,P,h⟩:=bnd h
 refine Jf (fun(v:Bool) ρ' M' H'=>S.le M'∧F=H'∧ρ' 0=(Sv a0)∧ρ' 3=(Iv a)∧ρ' 5=(Bv v)) v ?_ ?_
 have h:=P
 refine Cg (qm (Yv (btAt a0 a)) (qu (Bv (decide ((97:Int)≤(btAt a0 a)))) (geq Z Z) (qm (Bv (decide ((97:Int)≤(btAt a0 a)))) ?_)))
 rcases Bi h with⟨i,h⟩ |⟨i,h⟩
 refine On 33 Z Z i (qm (Yv (btAt a0 a)) (qo 33 i (Bv (decide ((btAt a0 a)≤122))) (leq Z Z) (qu (Bv (decide ((btAt a0 a)≤122))) (Pt Z i Z) (qm (Bv (decide ((btAt a0 a)≤122))) ?_))))
 rcases Bi h with⟨d,h⟩ |⟨d,h⟩
 iterate 3 refine Of 37 Z Z d Z ?_
 refine WL.offU 40 Z Z Z (WL.offU 40 Z Z Z (Of 37 Z Z d Z (qu (Bv true) (Pt Z d Z) (qm (Bv true) ?_))))
 iterate 2 refine Of 45 Z Z Z Z ?_
 refine qu (Bv true) (Pt Z Z Z) (qm (Bv true) ?_)
 iterate 2 refine Of 49 Z Z Z Z ?_
 refine qu (Bv true) (Pt Z Z Z) (qa (Bv true) (Wz ?_))
 obtain rfl:=oi h
 exact Tj ⟨lr,Z,b,c,Z⟩
 refine On 37 Z Z d (qm (Yv (btAt a0 a)) (qo 37 d (Bv (decide ((48:Int)≤(btAt a0 a)))) (geq Z Z) (On 37 Z Z d (qm (Bv (decide ((48:Int)≤(btAt a0 a)))) ?_))))
 rcases Bi h with⟨j,h⟩ |⟨j,h⟩
 refine On 40 Z Z j (qm (Yv (btAt a0 a)) (qo 40 j (Bv (decide ((btAt a0 a)≤57))) (leq Z Z) (qo 37 d (Bv (decide ((btAt a0 a)≤57))) (Pt Z j Z) (qu (Bv (decide ((btAt a0 a)≤57))) (Pf Z d Z) (qm (Bv (decide ((btAt a0 a)≤57))) ?_)))))
 rcases Bi h with⟨k,h⟩ |⟨k,h⟩
 iterate 2 refine Of 45 Z Z k Z ?_
 refine qu (Bv true) (Pt Z k Z) (qm (Bv true) ?_)
 iterate 2 refine Of 49 Z Z Z Z ?_
 refine qu (Bv true) (Pt Z Z Z) (qa (Bv true) (Wz ?_))
 obtain rfl:=oi h
 exact Tj ⟨lr,Z,b,c,Z⟩
 refine On 45 Z Z k (qm (Yv (btAt a0 a)) (qo 45 k (Bv (decide ((btAt a0 a)=46))) (eql Z Z) (qu (Bv (decide ((btAt a0 a)=46))) (Pf Z k Z) (qm (Bv (decide ((btAt a0 a)=46))) ?_))))
 rcases Bi h with⟨l,h⟩ |⟨l,h⟩
 iterate 2 refine Of 49 Z Z l Z ?_
 refine qu (Bv true) (Pt Z l Z) (qa (Bv true) (Wz ?_))
 obtain rfl:=oi h
 exact Tj ⟨lr,Z,b,c,Z⟩
 refine On 49 Z Z l (qm (Yv (btAt a0 a)) (qo 49 l (Bv (decide ((btAt a0 a)=45))) (eql Z Z) (qu (Bv (decide ((btAt a0 a)=45))) (Pf Z l Z) (qa (Bv (decide ((btAt a0 a)=45))) (Wz ?_)))))
 obtain rfl:=oi h
 exact Tj ⟨lr,Z,b,c,Z⟩
 iterate 2 refine Of 40 Z Z j Z ?_
 refine qo 37 d (Bv false) (Pf Z j Z) (qu (Bv false) (Pf Z d Z) (qm (Bv false) (On 45 Z Z Z (qm (Yv (btAt a0 a)) (qo 45 Z (Bv (decide ((btAt a0 a)=46))) (eql Z Z) (qu (Bv (decide ((btAt a0 a)=46))) (Pf Z Z Z) (qm (Bv (decide ((btAt a0 a)=46))) ?_)))))))
 rcases Bi h with⟨m,h⟩ |⟨m,h⟩
 iterate 2 refine Of 49 Z Z m Z ?_
 refine qu (Bv true) (Pt Z m Z) (qa (Bv true) (Wz ?_))
 obtain rfl:=oi h
 exact Tj ⟨lr,Z,b,c,Z⟩
 refine On 49 Z Z m (qm (Yv (btAt a0 a)) (qo 49 m (Bv (decide ((btAt a0 a)=45))) (eql Z Z) (qu (Bv (decide ((btAt a0 a)=45))) (Pf Z m Z) (qa (Bv (decide ((btAt a0 a)=45))) (Wz ?_)))))
 obtain rfl:=oi h
 exact Tj ⟨lr,Z,b,c,Z⟩
 iterate 2 refine Of 33 Z Z i Z ?_
 refine qu (Bv false) (Pf Z i Z) (qm (Bv false) (On 37 Z Z Z (qm (Yv (btAt a0 a)) (qo 37 Z (Bv (decide ((48:Int)≤(btAt a0 a)))) (geq Z Z) (On 37 Z Z Z (qm (Bv (decide ((48:Int)≤(btAt a0 a)))) ?_))))))
 rcases Bi h with⟨n,h⟩ |⟨n,h⟩
 refine On 40 Z Z n (qm (Yv (btAt a0 a)) (qo 40 n (Bv (decide ((btAt a0 a)≤57))) (leq Z Z) (qo 37 Z (Bv (decide ((btAt a0 a)≤57))) (Pt Z n Z) (qu (Bv (decide ((btAt a0 a)≤57))) (Pf Z Z Z) (qm (Bv (decide ((btAt a0 a)≤57))) ?_)))))
 rcases Bi h with⟨o,h⟩ |⟨o,h⟩
 iterate 2 refine Of 45 Z Z o Z ?_
 refine qu (Bv true) (Pt Z o Z) (qm (Bv true) ?_)
 iterate 2 refine Of 49 Z Z Z Z ?_
 refine qu (Bv true) (Pt Z Z Z) (qa (Bv true) (Wz ?_))
 obtain rfl:=oi h
 exact Tj ⟨lr,Z,b,c,Z⟩
 refine On 45 Z Z o (qm (Yv (btAt a0 a)) (qo 45 o (Bv (decide ((btAt a0 a)=46))) (eql Z Z) (qu (Bv (decide ((btAt a0 a)=46))) (Pf Z o Z) (qm (Bv (decide ((btAt a0 a)=46))) ?_))))
 rcases Bi h with⟨p,h⟩ |⟨p,h⟩
 iterate 2 refine Of 49 Z Z p Z ?_
 refine qu (Bv true) (Pt Z p Z) (qa (Bv true) (Wz ?_))
 obtain rfl:=oi h
 exact Tj ⟨lr,Z,b,c,Z⟩
 refine On 49 Z Z p (qm (Yv (btAt a0 a)) (qo 49 p (Bv (decide ((btAt a0 a)=45))) (eql Z Z) (qu (Bv (decide ((btAt a0 a)=45))) (Pf Z p Z) (qa (Bv (decide ((btAt a0 a)=45))) (Wz ?_)))))
 obtain rfl:=oi h
 exact Tj ⟨lr,Z,b,c,Z⟩
 iterate 2 refine Of 40 Z Z n Z ?_
 refine qo 37 Z (Bv false) (Pf Z n Z) (qu (Bv false) (Pf Z Z Z) (qm (Bv false) (On 45 Z Z Z (qm (Yv (btAt a0 a)) (qo 45 Z (Bv (decide ((btAt a0 a)=46))) (eql Z Z) (qu (Bv (decide ((btAt a0 a)=46))) (Pf Z Z Z) (qm (Bv (decide ((btAt a0 a)=46))) ?_)))))))
 rcases Bi h with⟨q,h⟩ |⟨q,h⟩
 iterate 2 refine Of 49 Z Z q Z ?_
 refine qu (Bv true) (Pt Z q Z) (qa (Bv true) (Wz ?_))
 obtain rfl:=oi h
 exact Tj ⟨lr,Z,b,c,Z⟩
 refine On 49 Z Z q (qm (Yv (btAt a0 a)) (qo 49 q (Bv (decide ((btAt a0 a)=45))) (eql Z Z) (qu (Bv (decide ((btAt a0 a)=45))) (Pf Z q Z) (qa (Bv (decide ((btAt a0 a)=45))) (Wz ?_)))))
 obtain rfl:=oi h
 exact Tj ⟨lr,Z,b,c,Z⟩
 rintro a1 a2 a3 ⟨w,rfl,y,z,A⟩
 refine Sr (qM (Bv v) A (qu (Bv (!v)) (PO.not Z) (Nt (Ch h Z (fun Q h=> ?_) (fun Q h=> ?_)))))
 refine Sr (qa (Bv false) (Nt (Cr (Br (Tr (WQ.leaveR (inr ()) (oi h).symm (fun t=> ?_)))))))
 subst t
 have h:=(elimR B)
 refine Br (Tr ?_)
 have h:=KK.early h L
 exact Rf h [] Z (Rs Z Z) ((r.trans s).trans w) ⟨Z,Z⟩
 exact Ck (Bn (Tc (Cg (qM (Iv a) z (qu (Iv (i64.wrap (a+1))) (add Z Z) (qa (Iv (i64.wrap (a+1))) (Wz (WQ.again (i64.wrap (a+1)) (oi h).symm ⟨(s.trans w),Z,y,Z⟩))))))))
 refine WC.exit (WQ.thenE (WQ.leaveE (inl ()) (oi h).symm (fun t=> ?_)))
 subst t
 have h:=elimL B
 exact WQ.blockH (WQ.thenFE h ⟨s,Z⟩)
 rintro _ a4 a5 a6 rfl ⟨E,rfl⟩
 have h:=(Sum.elim_inl _ _ _).symm.trans h
 exact Sr (qa (Bv true) (Nt (Cr (Rf h [] Z (Rs Z Z) (r.trans E) ⟨Z,Z⟩))))
noncomputable def f_ref05_name (a0:ByteArray) (a1:Bool):Option Bool:=
 (if a1=true then((f_ref05_Name a0).bind fun a=>(some a))else(some (decide (a0=(⟨#[]⟩:ByteArray)))))
def f_ref05_name_post (a0:ByteArray) (a1:Bool):Bool→Value→IM→HL→Prop:=
 fun(a:Bool) (v:Value) (M':IM) (H':HL)=>(.bool a)=v∧H'=[]
theorem f_ref05_name_ok (a0:ByteArray) (a1:Bool) (M:IM) (res:Bool) (h:f_ref05_name a0 a1=some res):
 Tri prog 106 #[(Sv a0),(Bv a1)] M [] (f_ref05_name_post a0 a1 res):=by
 unfold f_ref05_name at h
 refine Te func106 Z Z ?_
 intro F ρ hρ
 refine Sr (qa (Bv false) (Nt (Cs (Sr (qM (Bv a1) (hρ 1) (Nt (Ch h Z (fun b h=> ?_) (fun b h=> ?_))))))))
 refine Sr (qM (Sv a0) (hρ 0) ?_)
 obtain ⟨c,d,h⟩:=bnd h
 refine We (Ca co135 (f_ref05_Name_ok a0 _ c d) (args1 Z)) Z ?_
 rintro _ e _ a ⟨_,⟨rfl,rfl⟩,rfl⟩
 exact WL.a0 (qa (Bv c) (Nt (Cr (Tr (Rf h [] Z (Rs Z Z) a ⟨Z,Z⟩)))))
 exact Ck (Tc (Sr (qM (Sv a0) (hρ 0) (qu (Bv (decide (a0=(⟨#[]⟩:ByteArray)))) (seql Z Z) (qa (Bv (decide (a0=(⟨#[]⟩:ByteArray)))) (Nt (Cr (Rf h [] Z (Rs Z Z) lr ⟨Z,Z⟩))))))))
noncomputable def f_ref05_Brokers_l1 (a0:(List Int)) (b:Int) (s_:Int):Option (Int⊕(Unit⊕Unit)):=
 match s_ with
 |a=>
 (if(decide (a<b))=true then(grd (0≤a∧a<a0.length) (grd (0≤b∧b<a0.length) (if(decide ((rd a0 a)=(rd a0 b)))=true then(some (inr (inr ())))else(some (inl (i64.wrap (a+(1:Int))))))))else(some (inr (inl ()))))
noncomputable def f_ref05_Brokers_l0 (a0:(List Int)) (s_:Int):Option (Int⊕(Unit⊕Unit)):=
 match s_ with
 |a=>
 (if(decide (a<(a0.length:Int)))=true then(((((grd (0≤a∧a<a0.length) (if(decide ((rd a0 a)<(1:Int)))=true then(some true)else(grd (0≤a∧a<a0.length) (some (decide ((64:Int)<(rd a0 a))))))):Option Bool).bind fun b=>(if b=true then(((some (inr (inr ())))).bind fun r=>some (inr r))else((iter (f_ref05_Brokers_l1 a0 a) (0:Int)).bind (Sum.elim (fun _=>(some (inl ()))) (fun _=>(((some (inr (inr ())))).bind fun r=>some (inr r))))))):Option (Unit⊕(Int⊕(Unit⊕Unit)))).bind (Sum.elim (fun _=>(some (inl (i64.wrap (a+(1:Int)))))) some))else(some (inr (inl ()))))
noncomputable def f_ref05_Brokers (a0:(List Int)):Option Bool:=
 (if(decide ((7:Int)<(a0.length:Int)))=true then(some false)else((((iter (f_ref05_Brokers_l0 a0) (0:Int)).bind (Sum.elim (fun _=>(some (inl ()))) (fun _=>(((some false)).bind fun r=>some (inr r))))):Option (Unit⊕Bool)).bind (Sum.elim (fun _=>(some true)) some)))
def f_ref05_Brokers_post (a0:(List Int)) (b:Value):Bool→Value→IM→HL→Prop:=
 fun(a:Bool) (v:Value) (M':IM) (H':HL)=>(.bool a)=v∧H'=[]
theorem f_ref05_Brokers_ok (a0:(List Int)) (M:IM) (t:Value) (w:RS (Kd.int .i64) M t a0) (res:Bool) (h:f_ref05_Brokers a0=some res):
 Tri prog 136 #[t] M [] (f_ref05_Brokers_post a0 t res):=by
 unfold f_ref05_Brokers at h
 refine Te func136 Z Z ?_
 intro F ρ hρ
 refine Sr (qa (Bv false) (Nt (Cs (Sr (qM t (hρ 0) (qu (Iv (a0.length:Int)) (lenS underlying56 Z w.len) (qu (Bv (decide ((7:Int)<(a0.length:Int)))) (gtr Z Z) (Nt (Ch h Z (fun S h=> ?_) (fun S h=> ?_))))))))))
 exact Sr (qa (Bv false) (Nt (Cr (Tr (Rf h [] Z (Rs Z Z) lr ⟨Z,Z⟩)))))
 refine Ck (Tc ?_)
 obtain ⟨a5,T,h⟩:=bnd h
 refine WC.joinE (fun(_:Unit) ρ' M' H'=>M.le M'∧F=H') a5 ?_ ?_
 have B:=h
 have h:=T
 refine Sr (qa (Iv 0) (Nt (Bk ?_)))
 obtain ⟨b6,U,u⟩:=bnd h
 clear h
 refine WC.loop U (fun(a:Int) ρ' M' H'=>M.le M'∧F=H'∧ρ' 0=t∧ρ' 3=(Iv a)) ?_ ?_
 exact⟨lr,Z,(hρ 0),Z⟩
 rintro a b7 b8 V b9 h ⟨g,rfl,b,c⟩
 unfold f_ref05_Brokers_l0 at h
 refine Cs (Sr (qM (Iv a) c (qM t b ?_)))
 have w:=w.mono g
 refine qu (Iv (a0.length:Int)) (lenS underlying56 Z w.len) (qu (Bv (decide (a<(a0.length:Int)))) (lss Z Z) (Nt (Ch h Z (fun W h=> ?_) (fun W h=> ?_))))
 refine Ck (Tc ?_)
 obtain ⟨a6,X,h⟩:=bnd h
 refine WC.joinE (fun(_:Unit) ρ' M' H'=>V.le M'∧F=H'∧ρ' 0=t∧ρ' 3=(Iv a)) a6 ?_ ?_
 have C:=h
 have h:=X
 refine Bk (Cs ?_)
 obtain ⟨E,Y,h⟩:=bnd h
 refine Jf (fun(E:Bool) ρ' M' H'=>V.le M'∧F=H'∧ρ' 0=t∧ρ' 3=(Iv a)∧ρ' 25=(Bv E)) E ?_ ?_
 have h:=Y
 refine Cg (qM t b (qM (Iv a) c ?_))
 obtain ⟨p,h⟩:=grd_i h
 obtain ⟨a7,b2,G,I,hhas34⟩:=w.at p.1 p.2 (by decide)
 obtain rfl:=I
 refine qu (.pointer (some a7)) (indexAddr (n:=a0.length) underlying56 sz3 Z Z p.1 p.2 G) (qu (Iv (rd a0 a)) (loadM pl3 Z (IM.has0 hhas34)) (qu (Bv (decide ((rd a0 a)<1))) (lss Z Z) (qm (Bv (decide ((rd a0 a)<1))) ?_)))
 rcases Bi h with⟨d,h⟩ |⟨d,h⟩
 iterate 5 refine Of 19 Z Z d Z ?_
 refine qu (Bv true) (Pt Z d Z) (Wz ?_)
 obtain rfl:=oi h
 exact Tj ⟨lr,Z,b,c,Z⟩
 refine On 19 Z Z d (qM t b (On 19 Z Z d (qM (Iv a) c (On 19 Z Z d ?_))))
 obtain ⟨q,h⟩:=grd_i h
 obtain ⟨a8,b3,J,K,hhas42⟩:=w.at q.1 q.2 (by decide)
 obtain rfl:=K
 refine qu (.pointer (some a8)) (indexAddr (n:=a0.length) underlying56 sz3 Z Z q.1 q.2 J) (qo 19 d (Iv (rd a0 a)) (loadM pl3 Z (IM.has0 hhas42)) (qo 19 d (Bv (decide ((64:Int)<(rd a0 a)))) (gtr Z Z) (qu (Bv (decide ((64:Int)<(rd a0 a)))) (Pf Z d Z) (Wz ?_))))
 obtain rfl:=oi h
 exact Tj ⟨lr,Z,b,c,Z⟩
 rintro c0 a9 c1 ⟨k,rfl,x,y,v⟩
 refine Ch h v (fun a1 h=> ?_) (fun a1 h=> ?_)
 refine Sr (qa (Bv false) (Nt (Cr (Tr (Br (Tr ?_))))))
 have h:=KK.early h C
 refine WQ.leaveR (inr ()) (oi h).symm (fun i=> ?_)
 subst i
 have h:=(elimR u)
 refine Br (Tr ?_)
 have h:=KK.early h B
 exact Rf h [] Z (Rs Z Z) (g.trans k) ⟨Z,Z⟩
 refine Ck (Tc (Sr (qa (Iv 0) (Nt (Bk ?_)))))
 obtain ⟨c2,a2,D⟩:=bnd h
 clear h
 refine WC.loop a2 (fun(j:Int) ρ' M' H'=>a9.le M'∧F=H'∧ρ' 0=t∧ρ' 3=(Iv a)∧ρ' 4=(Iv j)) ?_ ?_
 exact⟨lr,Z,x,y,Z⟩
 rintro j c3 c4 c5 c6 h ⟨l,rfl,e,f,m⟩
 unfold f_ref05_Brokers_l1 at h
 refine Cs (Sr (qM (Iv j) m (qM (Iv a) f (qu (Bv (decide (j<a))) (lss Z Z) (Nt (Ch h Z (fun a3 h=> ?_) (fun a3 h=> ?_)))))))
 refine Ck (Tc (Cs (Bk (Cs (WC.draw [0,0,3,7,0,0,48,112,255] (.pure 0 (.pure 1 (.pure 2 (.pure 3 (.pure 4 (.pure 5 (.pure 6 (.pure 7 (.pure 8 .done))))))))) mixed (by kernel_rfl) (qt t Z (Mv e) (qt (Iv j) Z (Mv m) ?_)))))))
 obtain ⟨r,h⟩:=grd_i h
 have w:=w.mono (k.trans l)
 obtain ⟨b0,b4,L,N,hhas53⟩:=w.at r.1 r.2 (by decide)
 obtain rfl:=N
 refine qt (.pointer (some b0)) Z (indexAddr (n:=a0.length) underlying56 sz3 Z Z r.1 r.2 L) (qt (Iv (rd a0 j)) Z (loadM pl3 Z (IM.has0 hhas53)) (qt t Z (Mv e) (qt (Iv a) Z (Mv f) ?_)))
 obtain ⟨s,h⟩:=grd_i h
 obtain ⟨b1,b5,O,P,hhas60⟩:=w.at s.1 s.2 (by decide)
 obtain rfl:=P
 refine qt (.pointer (some b1)) Z (indexAddr (n:=a0.length) underlying56 sz3 Z Z s.1 s.2 O) (qt (Iv (rd a0 a)) Z (loadM pl3 Z (IM.has0 hhas60)) (qt (Bv (decide ((rd a0 j)=(rd a0 a)))) Z (eql Z Z) (Ti (Tc (Ch h Z (fun a4 h=> ?_) (fun a4 h=> ?_))))))
 refine Sr (qa (Bv false) (Nt (Cr (Br (Tr (WQ.leaveR (inr ()) (oi h).symm (fun o=> ?_)))))))
 subst o
 have h:=(elimR D)
 refine Br (Br (Tr ?_))
 have h:=KK.early h C
 refine WQ.leaveR (inr ()) (oi h).symm (fun i=> ?_)
 subst i
 have h:=(elimR u)
 refine Br (Tr ?_)
 have h:=KK.early h B
 exact Rf h [] Z (Rs Z Z) ((g.trans k).trans l) ⟨Z,Z⟩
 exact Ck (Bn (Tc (Cg (qM (Iv j) m (qu (Iv (i64.wrap (j+1))) (add Z Z) (qa (Iv (i64.wrap (j+1))) (Wz (WQ.again (i64.wrap (j+1)) (oi h).symm ⟨l,Z,e,f,Z⟩))))))))
 refine WC.exit (WQ.thenE (WQ.leaveE (inl ()) (oi h).symm (fun o=> ?_)))
 subst o
 have h:=elimL D
 exact WQ.blockH (Bn (WQ.thenFE h ⟨(k.trans l),Z,e,f⟩))
 rintro _ c7 c8 c9 rfl ⟨Q,rfl,z,A⟩
 have h:=(Sum.elim_inl _ _ _).symm.trans h
 exact Cg (qM (Iv a) A (qu (Iv (i64.wrap (a+1))) (add Z Z) (qa (Iv (i64.wrap (a+1))) (Wz (WQ.again (i64.wrap (a+1)) (oi h).symm ⟨(g.trans Q),Z,z,Z⟩)))))
 refine WC.exit (WQ.thenE (WQ.leaveE (inl ()) (oi h).symm (fun i=> ?_)))
 subst i
 have h:=elimL u
 exact WQ.blockH (WQ.thenFE h ⟨g,Z⟩)
 rintro _ d0 d1 d2 rfl ⟨R,rfl⟩
 have h:=(Sum.elim_inl _ _ _).symm.trans h
 exact Sr (qa (Bv true) (Nt (Cr (Rf h [] Z (Rs Z Z) R ⟨Z,Z⟩))))
noncomputable def f_ref05_row (a0:(List Int)) (a1:Bool):Option Bool:=
 (if a1=true then((f_ref05_Brokers a0).bind fun a=>(some a))else(some (decide ((a0.length:Int)=(0:Int)))))
def f_ref05_row_post (a0:(List Int)) (a1:Bool) (b:Value):Bool→Value→IM→HL→Prop:=
 fun(a:Bool) (v:Value) (M':IM) (H':HL)=>(.bool a)=v∧H'=[]
theorem f_ref05_row_ok (a0:(List Int)) (a1:Bool) (M:IM) (b:Value) (f:RS (Kd.int .i64) M b a0) (res:Bool) (h:f_ref05_row a0 a1=some res):
 Tri prog 107 #[b,(Bv a1)] M [] (f_ref05_row_post a0 a1 b res):=by
 unfold f_ref05_row at h
 refine Te func107 Z Z ?_
 intro F ρ hρ
 refine Sr (qa (Bv false) (Nt (Cs (Sr (qM (Bv a1) (hρ 1) (Nt (Ch h Z (fun c h=> ?_) (fun c h=> ?_))))))))
 refine Sr (qM b (hρ 0) ?_)
 obtain ⟨d,e,h⟩:=bnd h
 refine We (Ca co136 (f_ref05_Brokers_ok a0 _ _ f d e) (args1 Z)) Z ?_
 rintro _ g _ a ⟨_,⟨rfl,rfl⟩,rfl⟩
 exact WL.a0 (qa (Bv d) (Nt (Cr (Tr (Rf h [] Z (Rs Z Z) a ⟨Z,Z⟩)))))
 exact Ck (Tc (Sr (qM b (hρ 0) (qu (Iv (a0.length:Int)) (lenS underlying56 Z f.len) (qu (Bv (decide ((a0.length:Int)=(0:Int)))) (eql Z Z) (qa (Bv (decide ((a0.length:Int)=(0:Int)))) (Nt (Cr (Rf h [] Z (Rs Z Z) lr ⟨Z,Z⟩)))))))))
noncomputable def f_ref05_Check (a0:T_api_Record):Option T_ref05_Wrong:=
 (((if(decide (a0.Kind<(1:Int)))=true then(some true)else(some (decide ((12:Int)<a0.Kind)))):Option Bool).bind fun i=>(if i=true then(some (⟨(⟨#[107,105,110,100]⟩:ByteArray),a0.Kind,(5:Int)⟩:T_ref05_Wrong))else((f_ref05_numbers a0).bind fun a=>(if(decide (a.Code≠(0:Int)))=true then(some a)else(((if a0.Flag=true then((f_ref05_has a0.Kind (102:Int)).bind fun j=>(some (!j)))else(some false)):Option Bool).bind fun k=>(if k=true then(some (⟨(⟨#[102,108,97,103]⟩:ByteArray),(1:Int),(1:Int)⟩:T_ref05_Wrong))else((((f_ref05_has a0.Kind (110:Int)).bind fun l=>((f_ref05_name a0.Name l).bind fun m=>(if(!m)=true then(some true)else((f_ref05_has a0.Kind (107:Int)).bind fun n=>((f_ref05_name a0.Key n).bind fun o=>(if(!o)=true then(some true)else((f_ref05_has a0.Kind (114:Int)).bind fun p=>((f_ref05_name a0.Rack p).bind fun q=>(some (!q)))))))))):Option Bool).bind fun r=>(if r=true then(some (⟨(⟨#[110,97,109,101]⟩:ByteArray),(a0.Name.size:Int),(1:Int)⟩:T_ref05_Wrong))else(((if(decide ((256:Int)<(a0.Value.size:Int)))=true then(some true)else(if(!decide (a0.Value=(⟨#[]⟩:ByteArray)))=true then(if a0.Flag=true then(some true)else((f_ref05_has a0.Kind (118:Int)).bind fun s=>(some (!s))))else(some false))):Option Bool).bind fun t=>(if t=true then(some (⟨(⟨#[118,97,108,117,101]⟩:ByteArray),(a0.Value.size:Int),(6:Int)⟩:T_ref05_Wrong))else((((f_ref05_has a0.Kind (105:Int)).bind fun u=>((f_ref05_row a0.Ids u).bind fun v=>(if(!v)=true then(some true)else((f_ref05_has a0.Kind (109:Int)).bind fun b=>((f_ref05_row a0.Isr b).bind fun c=>(if(!c)=true then(some true)else((f_ref05_has a0.Kind (120:Int)).bind fun d=>((f_ref05_row a0.Add d).bind fun e=>(if(!e)=true then(some true)else((f_ref05_has a0.Kind (120:Int)).bind fun f=>((f_ref05_row a0.Drop f).bind fun g=>(some (!g))))))))))))):Option Bool).bind fun w=>(if w=true then(some (⟨(⟨#[114,111,119]⟩:ByteArray),(a0.Ids.length:Int),(18:Int)⟩:T_ref05_Wrong))else(some lit6_)))))))))))))
def f_ref05_Check_post (a0:T_api_Record) (a b c d:Value):T_ref05_Wrong→Value→IM→HL→Prop:=
 fun(e:T_ref05_Wrong) (v:Value) (M':IM) (H':HL)=>(.agg #[(.string e.Op),(.int .i64 e.At),(.int .i64 e.Code)])=v∧H'=[]
theorem f_ref05_Check_ok (a0:T_api_Record) (M:IM) (e i j k:Value) (p:RS (Kd.int .i64) M e a0.Ids) (A:RS (Kd.int .i64) M i a0.Isr) (B:RS (Kd.int .i64) M j a0.Add) (C:RS (Kd.int .i64) M k a0.Drop) (res:T_ref05_Wrong) (h:f_ref05_Check a0=some res):
 Tri prog 74 #[(a58_ a0 e i j k)] M [] (f_ref05_Check_post a0 e i j k res):=by
 unfold f_ref05_Check at h
 refine Te func74 Z Z ?_
 intro F ρ hρ
 refine Sr (We (box (cs:=(l58 a0 e i j k).toArray) (congrArg Value.cells (asE (a58_ a0 e i j k) (hρ 0)))) Z ?_)
 rintro _ _ _ - ⟨rfl,l,rfl,rfl⟩
 refine We (Al ze40 Z) Z ?_
 rintro _ _ _ - ⟨rfl,N,rfl,rfl⟩
 refine Ns (qu (pt l 0) (Fa fo58_0 Z Z) (qu (Iv a0.Kind) (Lb 1 pl3 Z Z Z) (qa (Iv a0.Kind) (Nt (Cs ?_)))))
 obtain ⟨c6,e6,h⟩:=bnd h
 refine Jf (fun(c6:Bool) ρ' M' H'=>M.le M'∧[(N, .cells #[(Sv ⟨#[]⟩),(Iv 0),(Iv 0)] 40 (0,0))]::[(l, .cells (l58 a0 e i j k).toArray 58 (0,0))]::F=H'∧ρ' 1=(pt l 0)∧ρ' 2=(pt N 0)∧ρ' 3=(Iv a0.Kind)∧ρ' 12=(Bv c6)) c6 ?_ ?_
 have h:=e6
 refine Cg (qm (Iv a0.Kind) (qu (Bv (decide (a0.Kind<1))) (lss Z Z) (qm (Bv (decide (a0.Kind<1))) ?_)))
 rcases Bi h with⟨O,h⟩ |⟨O,h⟩
 iterate 2 refine Of 9 Z Z O Z ?_
 refine qu (Bv true) (Pt Z O Z) (Wz ?_)
 obtain rfl:=oi h
 exact Tj ⟨lr,Z,Z,Z,Z,Z⟩
 refine On 9 Z Z O (qm (Iv a0.Kind) (qo 9 O (Bv (decide ((12:Int)<a0.Kind))) (gtr Z Z) (qu (Bv (decide ((12:Int)<a0.Kind))) (Pf Z O Z) (Wz ?_))))
 obtain rfl:=oi h
 exact Tj ⟨lr,Z,Z,Z,Z,Z⟩
 rintro i7 i8 i9 ⟨x,rfl,D,r,E,a5⟩
 refine Ch h a5 (fun e7 h=> ?_) (fun e7 h=> ?_)
 refine Sr (qM (Iv a0.Kind) E (qu (.agg #[(Sv ⟨#[107,105,110,100]⟩),(Iv a0.Kind),(Iv 5)]) (Bl (cl:=[(Sv ⟨#[107,105,110,100]⟩),(Iv a0.Kind),(Iv 5)]) ze40 fp40 (Pc (Sv ⟨#[107,105,110,100]⟩) Z Z (Pc (Iv a0.Kind) Z Z (Pc (Iv 5) Z Z Pz))) Z) (We (Sg (v:=(.agg #[(Sv ⟨#[107,105,110,100]⟩),(Iv a0.Kind),(Iv 5)])) (vl:=[(Sv ⟨#[107,105,110,100]⟩),(Iv a0.Kind),(Iv 5)]) (arr':=[(Sv ⟨#[107,105,110,100]⟩),(Iv a0.Kind),(Iv 5)]) Z sz40 r Z (onb Z) Z Z Z) Z ?_)))
 rintro _ _ _ - ⟨rfl,rfl⟩
 exact Nt (Cr (Tr (Qa (Dr (Rd h [] (fun _ hs=>hs.drop) (resultsL1 Z (Rc (cs:=[(Sv ⟨#[107,105,110,100]⟩),(Iv a0.Kind),(Iv 5)]) 0 ag40 sz40 r Z Z)) x ⟨Z,Z⟩)))))
 refine Ck (Tc (Cs (Sr (qu (a58_ a0 e i j k) (La (cs:=(l58 a0 e i j k)) 1 ag58 sz58 D Z Z) ?_))))
 obtain ⟨w,e8,h⟩:=bnd h
 have p:=p.mono x
 have A:=A.mono x
 have B:=B.mono x
 have C:=C.mono x
 refine We (Ca co104 (f_ref05_numbers_ok a0 _ _ _ _ _ p A B C w e8) (args1 Z)) Z ?_
 rintro _ h5 _ R ⟨_,⟨rfl,rfl⟩,rfl⟩
 refine WL.a0 (We (Al ze40 Z) Z ?_)
 rintro _ _ _ - ⟨rfl,a6,rfl,rfl⟩
 refine We (Sg (v:=(a40_ w)) (vl:=(l40 w)) (arr':=(l40 w)) Z sz40 Z Z (onb Z) Z Z Z) Z ?_
 rintro _ _ _ - ⟨rfl,rfl⟩
 refine Ns (qu (pt a6 2) (Fa fo40_2 Z Z) (qu (Iv w.Code) (Lb 0 pl38 Z Z Z) (qu (Bv (decide (w.Code≠0))) (neq Z Z) (Nt (Ch h Z (fun e9 h=> ?_) (fun e9 h=> ?_))))))
 refine Sr (qu (a40_ w) (La (cs:=(l40 w)) 0 ag40 sz40 Z Z Z) (WL.f1 (We (Sg (v:=(a40_ w)) (vl:=(l40 w)) (arr':=(l40 w)) Z sz40 r Z (onb Z) Z Z Z) Z ?_)))
 rintro _ _ _ - ⟨rfl,rfl⟩
 exact Nt (Cr (Tr (Qa (Dr (Qa (Dr (Rd h [] (fun _ hs=>hs.drop) (resultsL1 Z (Rc (cs:=(l40 w)) 0 ag40 sz40 r Z Z)) (x.trans R) ⟨Z,Z⟩)))))))
 refine Ck (Tc (Cs ?_))
 obtain ⟨c7,f0,h⟩:=bnd h
 refine Jf (fun(c7:Bool) ρ' M' H'=>h5.le M'∧[(a6, .cells (l40 w).toArray 40 (0,0))]::[(N, .cells #[(Sv ⟨#[]⟩),(Iv 0),(Iv 0)] 40 (0,0))]::[(l, .cells (l58 a0 e i j k).toArray 58 (0,0))]::F=H'∧ρ' 1=(pt l 0)∧ρ' 2=(pt N 0)∧ρ' 3=(Iv a0.Kind)∧ρ' 27=(Bv c7)) c7 ?_ ?_
 have h:=f0
 refine Cg (qu (pt l 9) (Fa fo58_9 D Z) (qu (Bv a0.Flag) (Lb 2 pl4 Z Z Z) (qm (Bv a0.Flag) ?_)))
 rcases Bi h with⟨K,h⟩ |⟨K,h⟩
 refine On 23 Z Z K (qM (Iv a0.Kind) E (On 23 Z Z K ?_))
 obtain ⟨c8,f2,h⟩:=bnd h
 refine We (Ca co105 (f_ref05_has_ok a0.Kind (102:Int) _ c8 f2) (args2 Z Z)) Z ?_
 rintro _ j0 _ c9 ⟨_,⟨rfl,rfl⟩,rfl⟩
 refine WL.a0 (qo 23 K (Bv (!c8)) (PO.not Z) (qu (Bv (!c8)) (Pt Z K Z) (Wz ?_)))
 obtain rfl:=oi h
 exact Tj ⟨c9,Z,D,r,E,Z⟩
 iterate 3 refine Of 23 Z Z K Z ?_
 refine qu (Bv false) (Pf Z K Z) (Wz ?_)
 obtain rfl:=oi h
 exact Tj ⟨lr,Z,D,r,E,Z⟩
 rintro j1 h6 j2 ⟨a7,rfl,m,y,s,a8⟩
 have f3:=(x.trans R).trans a7
 refine Ch h a8 (fun f4 h=> ?_) (fun f4 h=> ?_)
 refine Sr (qu (.agg #[(Sv ⟨#[102,108,97,103]⟩),(Iv 1),(Iv 1)]) (Bl (cl:=[(Sv ⟨#[102,108,97,103]⟩),(Iv 1),(Iv 1)]) ze40 fp40 (Pc (Sv ⟨#[102,108,97,103]⟩) Z Z (Pc (Iv 1) Z Z (Pc (Iv 1) Z Z Pz))) Z) (WL.f1 (We (Sg (v:=(.agg #[(Sv ⟨#[102,108,97,103]⟩),(Iv 1),(Iv 1)])) (vl:=[(Sv ⟨#[102,108,97,103]⟩),(Iv 1),(Iv 1)]) (arr':=[(Sv ⟨#[102,108,97,103]⟩),(Iv 1),(Iv 1)]) Z sz40 y Z (onb Z) Z Z Z) Z ?_)))
 rintro _ _ _ - ⟨rfl,rfl⟩
 exact Nt (Cr (Tr (Qa (Dr (Qa (Dr (Rd h [] (fun _ hs=>hs.drop) (resultsL1 Z (Rc (cs:=[(Sv ⟨#[102,108,97,103]⟩),(Iv 1),(Iv 1)]) 0 ag40 sz40 y Z Z)) f3 ⟨Z,Z⟩)))))))
 refine Ck (Tc (Cs ?_))
 obtain ⟨d0,f5,h⟩:=bnd h
 refine Jf (fun(d0:Bool) ρ' M' H'=>h6.le M'∧[(a6, .cells (l40 w).toArray 40 (0,0))]::[(N, .cells #[(Sv ⟨#[]⟩),(Iv 0),(Iv 0)] 40 (0,0))]::[(l, .cells (l58 a0 e i j k).toArray 58 (0,0))]::F=H'∧ρ' 1=(pt l 0)∧ρ' 2=(pt N 0)∧ρ' 3=(Iv a0.Kind)∧ρ' 50=(Bv d0)) d0 ?_ ?_
 have h:=f5
 refine WC.draw [0,1,0,4,15,31,63,127,255,127,639,2047,4095,8191,16383,32767,65535,32767,163839,524287,1048575,2097151] (.pure 0 (.pure 1 (.pure 2 (.alt 3 (.alt 4 (.pure 5 (.pure 6 (.pure 7 (.pure 8 (.pure 9 (.alt 10 (.alt 11 (.pure 12 (.pure 13 (.pure 14 (.pure 15 (.pure 16 (.pure 17 (.alt 18 (.alt 19 (.pure 20 (.pure 21 .done)) .none) .none))))))) .none) .none)))))) .none) .none)))) mixed (by kernel_rfl) (qt (pt l 10) Z (Fa fo58_10 m Z) (qt (Sv a0.Name) Z (Lb 2 pl9 Z Z Z) (qt (Iv a0.Kind) Z (Mv s) ?_)))
 obtain ⟨f6,f7,h⟩:=bnd h
 refine Ta Z (Ca co105 (f_ref05_has_ok a0.Kind (110:Int) _ f6 f7) (args2 Z Z)) Z ?_ ?_
 rintro _ j3 _ S ⟨_,⟨rfl,rfl⟩,rfl⟩
 refine⟨(Sk 1 Z (Ss Z (Lb 2 pl9 Z Z Z) Z (Ss Z (Fa fo58_10 m Z) Z trivial))), ?_⟩
 refine WT.a0 ?_
 obtain ⟨d1,f8,h⟩:=bnd h
 refine Ta Z (Ca co106 (f_ref05_name_ok a0.Name f6 _ d1 f8) (args2 Z Z)) Z ?_ ?_
 rintro _ j4 _ T ⟨_,⟨rfl,rfl⟩,rfl⟩
 refine⟨(Sl Z), ?_⟩
 refine WT.a0 (qt (Bv (!d1)) Z (PO.not Z) (qt (Bv (!d1)) Z (Mv Z) ?_))
 rcases Bi h with⟨f,h⟩ |⟨f,h⟩
 refine Tf 35 Z Z Z f Z (Tf 35 Z Z Z f Z (Tf 35 Z Z Z f Z (Tg 35 Z Z Z f Z ⟨(Sk 1 Z (St (Sf 35 Z Z Z f Z) (St (Sf 35 Z Z Z f Z) (Sl Z)))), ?_⟩ ?_)))
 refine Tg 35 Z Z Z f Z ⟨(Sl Z), ?_⟩ ?_
 refine Tf 35 Z Z Z f Z (qt (Bv true) Z (Pt Z f Z) (qt (Bv true) Z (Mv Z) (Tf 43 Z Z Z Z Z (Tf 43 Z Z Z Z Z (Tf 43 Z Z Z Z Z (Tg 43 Z Z Z Z Z ⟨(Sk 1 Z (St (Sf 43 Z Z Z Z Z) (St (Sf 43 Z Z Z Z Z) (Sl Z)))), ?_⟩ ?_))))))
 refine Tg 43 Z Z Z Z Z ⟨(Sl Z), ?_⟩ ?_
 refine Tf 43 Z Z Z Z Z (qt (Bv true) Z (Pt Z Z Z) (Ti ?_))
 obtain rfl:=oi h
 exact Tj ⟨(S.trans T),Z,m,y,s,Z⟩
 exact Tz
 exact Tz
 exact Tz
 exact Tz
 refine Tn (pt l 11) 35 Z Z Z f (Fa fo58_11 m Z) Z (Tn (Sv a0.Key) 35 Z Z Z f (Lb 2 pl9 Z Z Z) Z (Tn (Iv a0.Kind) 35 Z Z Z f (Mv s) Z ?_))
 obtain ⟨f9,g0,h⟩:=bnd h
 refine WT.altOn 35 Z Z Z f (Ca co105 (f_ref05_has_ok a0.Kind (107:Int) _ f9 g0) (args2 Z Z)) Z ?_ ?_
 rintro _ j5 _ a9 ⟨_,⟨rfl,rfl⟩,rfl⟩
 refine⟨(Sk 1 Z (St (StabA.on 35 Z Z Z f (Lb 2 pl9 Z Z Z) Z) (St (StabA.on 35 Z Z Z f (Fa fo58_11 m Z) Z) (Sl Z)))), ?_⟩
 refine WT.a0 ?_
 obtain ⟨c0,g1,h⟩:=bnd h
 refine WT.altOn 35 Z Z Z f (Ca co106 (f_ref05_name_ok a0.Key f9 _ c0 g1) (args2 Z Z)) Z ?_ ?_
 rintro _ j6 _ b0 ⟨_,⟨rfl,rfl⟩,rfl⟩
 refine⟨(Sl Z), ?_⟩
 refine WT.a0 (Tn (Bv (!c0)) 35 Z Z Z f (PO.not Z) Z (qt (Bv (!c0)) Z (Pf Z f Z) (qt (Bv (!c0)) Z (Mv Z) ?_)))
 rcases Bi h with⟨g,h⟩ |⟨g,h⟩
 refine Tf 43 Z Z Z g Z (Tf 43 Z Z Z g Z (Tf 43 Z Z Z g Z (Tg 43 Z Z Z g Z ⟨(Sk 1 Z (St (Sf 43 Z Z Z g Z) (St (Sf 43 Z Z Z g Z) (Sl Z)))), ?_⟩ ?_)))
 refine Tg 43 Z Z Z g Z ⟨(Sl Z), ?_⟩ ?_
 refine Tf 43 Z Z Z g Z (qt (Bv true) Z (Pt Z g Z) (Ti ?_))
 obtain rfl:=oi h
 exact Tj ⟨(((S.trans T).trans a9).trans b0),Z,m,y,s,Z⟩
 exact Tz
 exact Tz
 refine Tn (pt l 13) 43 Z Z Z g (Fa fo58_13 m Z) Z (Tn (Sv a0.Rack) 43 Z Z Z g (Lb 2 pl9 Z Z Z) Z (Tn (Iv a0.Kind) 43 Z Z Z g (Mv s) Z ?_))
 obtain ⟨g2,g3,h⟩:=bnd h
 refine WT.altOn 43 Z Z Z g (Ca co105 (f_ref05_has_ok a0.Kind (114:Int) _ g2 g3) (args2 Z Z)) Z ?_ ?_
 rintro _ j7 _ d2 ⟨_,⟨rfl,rfl⟩,rfl⟩
 refine⟨(Sk 1 Z (St (StabA.on 43 Z Z Z g (Lb 2 pl9 Z Z Z) Z) (St (StabA.on 43 Z Z Z g (Fa fo58_13 m Z) Z) (Sl Z)))), ?_⟩
 refine WT.a0 ?_
 obtain ⟨d3,g4,h⟩:=bnd h
 refine WT.altOn 43 Z Z Z g (Ca co106 (f_ref05_name_ok a0.Rack g2 _ d3 g4) (args2 Z Z)) Z ?_ ?_
 rintro _ j8 _ d4 ⟨_,⟨rfl,rfl⟩,rfl⟩
 refine⟨(Sl Z), ?_⟩
 refine WT.a0 (Tn (Bv (!d3)) 43 Z Z Z g (PO.not Z) Z (qt (Bv (!d3)) Z (Pf Z g Z) (Ti ?_)))
 obtain rfl:=oi h
 exact Tj ⟨(((((S.trans T).trans a9).trans b0).trans d2).trans d4),Z,m,y,s,Z⟩
 exact Tz
 exact Tz
 exact Tz
 exact Tz
 exact Tz
 exact Tz
 rintro j9 h7 k0 ⟨b1,rfl,n,t,z,b2⟩
 have h8:=(R.trans a7).trans b1
 have b3:=f3.trans b1
 refine Ch h b2 (fun g5 h=> ?_) (fun g5 h=> ?_)
 refine Sr (qu (pt l 10) (Fa fo58_10 n Z) (qu (Sv a0.Name) (Lb 2 pl9 Z Z Z) (qu (Iv (a0.Name.size:Int)) (lenStr underlying9 Z) (qu (.agg #[(Sv ⟨#[110,97,109,101]⟩),(Iv (a0.Name.size:Int)),(Iv 1)]) (Bl (cl:=[(Sv ⟨#[110,97,109,101]⟩),(Iv (a0.Name.size:Int)),(Iv 1)]) ze40 fp40 (Pc (Sv ⟨#[110,97,109,101]⟩) Z Z (Pc (Iv (a0.Name.size:Int)) Z Z (Pc (Iv 1) Z Z Pz))) Z) (WL.f1 (We (Sg (v:=(.agg #[(Sv ⟨#[110,97,109,101]⟩),(Iv (a0.Name.size:Int)),(Iv 1)])) (vl:=[(Sv ⟨#[110,97,109,101]⟩),(Iv (a0.Name.size:Int)),(Iv 1)]) (arr':=[(Sv ⟨#[110,97,109,101]⟩),(Iv (a0.Name.size:Int)),(Iv 1)]) Z sz40 t Z (onb Z) Z Z Z) Z ?_))))))
 rintro _ _ _ - ⟨rfl,rfl⟩
 exact Nt (Cr (Tr (Qa (Dr (Qa (Dr (Rd h [] (fun _ hs=>hs.drop) (resultsL1 Z (Rc (cs:=[(Sv ⟨#[110,97,109,101]⟩),(Iv (a0.Name.size:Int)),(Iv 1)]) 0 ag40 sz40 t Z Z)) b3 ⟨Z,Z⟩)))))))
 refine Ck (Tc (Cs ?_))
 obtain ⟨d5,g6,h⟩:=bnd h
 refine Jf (fun(d5:Bool) ρ' M' H'=>h7.le M'∧[(a6, .cells (l40 w).toArray 40 (0,0))]::[(N, .cells #[(Sv ⟨#[]⟩),(Iv 0),(Iv 0)] 40 (0,0))]::[(l, .cells (l58 a0 e i j k).toArray 58 (0,0))]::F=H'∧ρ' 1=(pt l 0)∧ρ' 2=(pt N 0)∧ρ' 3=(Iv a0.Kind)∧ρ' 72=(Bv d5)) d5 ?_ ?_
 have h:=g6
 refine Cg (qu (pt l 12) (Fa fo58_12 n Z) (qu (Sv a0.Value) (Lb 2 pl9 Z Z Z) (qu (Iv (a0.Value.size:Int)) (lenStr underlying9 Z) (qu (Bv (decide ((256:Int)<(a0.Value.size:Int)))) (gtr Z Z) (qm (Bv (decide ((256:Int)<(a0.Value.size:Int)))) ?_)))))
 rcases Bi h with⟨o,h⟩ |⟨o,h⟩
 iterate 4 refine Of 59 Z Z o Z ?_
 refine WL.offU 63 Z Z Z (WL.offU 63 Z Z Z (WL.offU 63 Z Z Z (WL.offU 66 Z Z Z (WL.offU 66 Z Z Z (WL.offU 66 Z Z Z (WL.offU 63 Z Z Z (Of 59 Z Z o Z (qu (Bv true) (Pt Z o Z) (Wz ?_)))))))))
 obtain rfl:=oi h
 exact Tj ⟨lr,Z,n,t,z,Z⟩
 refine qo 59 o (pt l 12) (Fa fo58_12 n Z) (qo 59 o (Sv a0.Value) (Lb 2 pl9 Z Z Z) (qo 59 o (Bv (!decide (a0.Value=(⟨#[]⟩:ByteArray)))) (sneq Z Z) (On 59 Z Z o (qm (Bv (!decide (a0.Value=(⟨#[]⟩:ByteArray)))) ?_))))
 rcases Bi h with⟨q,h⟩ |⟨q,h⟩
 refine qo 63 q (pt l 9) (Fa fo58_9 n Z) (qo 63 q (Bv a0.Flag) (Lb 2 pl4 Z Z Z) (On 63 Z Z q (qm (Bv a0.Flag) ?_)))
 rcases Bi h with⟨L,h⟩ |⟨L,h⟩
 iterate 3 refine Of 66 Z Z L Z ?_
 refine qo 63 q (Bv true) (Pt Z L Z) (qo 59 o (Bv true) (Pt Z q Z) (qu (Bv true) (Pf Z o Z) (Wz ?_)))
 obtain rfl:=oi h
 exact Tj ⟨lr,Z,n,t,z,Z⟩
 refine On 66 Z Z L (qM (Iv a0.Kind) z (On 66 Z Z L ?_))
 obtain ⟨b4,g7,h⟩:=bnd h
 refine We (Ca co105 (f_ref05_has_ok a0.Kind (118:Int) _ b4 g7) (args2 Z Z)) Z ?_
 rintro _ k1 _ d6 ⟨_,⟨rfl,rfl⟩,rfl⟩
 refine WL.a0 (qo 66 L (Bv (!b4)) (PO.not Z) (qo 63 q (Bv (!b4)) (Pf Z L Z) (qo 59 o (Bv (!b4)) (Pt Z q Z) (qu (Bv (!b4)) (Pf Z o Z) (Wz ?_)))))
 obtain rfl:=oi h
 exact Tj ⟨d6,Z,n,t,z,Z⟩
 iterate 3 refine Of 63 Z Z q Z ?_
 refine WL.offU 66 Z Z Z (WL.offU 66 Z Z Z (WL.offU 66 Z Z Z (Of 63 Z Z q Z (qo 59 o (Bv false) (Pf Z q Z) (qu (Bv false) (Pf Z o Z) (Wz ?_))))))
 obtain rfl:=oi h
 exact Tj ⟨lr,Z,n,t,z,Z⟩
 rintro k2 h9 k3 ⟨b5,rfl,d,u,G,b6⟩
 have g8:=h8.trans b5
 have U:=b3.trans b5
 refine Ch h b6 (fun g9 h=> ?_) (fun g9 h=> ?_)
 refine Sr (qu (pt l 12) (Fa fo58_12 d Z) (qu (Sv a0.Value) (Lb 2 pl9 Z Z Z) (qu (Iv (a0.Value.size:Int)) (lenStr underlying9 Z) (qu (.agg #[(Sv ⟨#[118,97,108,117,101]⟩),(Iv (a0.Value.size:Int)),(Iv 6)]) (Bl (cl:=[(Sv ⟨#[118,97,108,117,101]⟩),(Iv (a0.Value.size:Int)),(Iv 6)]) ze40 fp40 (Pc (Sv ⟨#[118,97,108,117,101]⟩) Z Z (Pc (Iv (a0.Value.size:Int)) Z Z (Pc (Iv 6) Z Z Pz))) Z) (WL.f1 (We (Sg (v:=(.agg #[(Sv ⟨#[118,97,108,117,101]⟩),(Iv (a0.Value.size:Int)),(Iv 6)])) (vl:=[(Sv ⟨#[118,97,108,117,101]⟩),(Iv (a0.Value.size:Int)),(Iv 6)]) (arr':=[(Sv ⟨#[118,97,108,117,101]⟩),(Iv (a0.Value.size:Int)),(Iv 6)]) Z sz40 u Z (onb Z) Z Z Z) Z ?_))))))
 rintro _ _ _ - ⟨rfl,rfl⟩
 exact Nt (Cr (Tr (Qa (Dr (Qa (Dr (Rd h [] (fun _ hs=>hs.drop) (resultsL1 Z (Rc (cs:=[(Sv ⟨#[118,97,108,117,101]⟩),(Iv (a0.Value.size:Int)),(Iv 6)]) 0 ag40 sz40 u Z Z)) U ⟨Z,Z⟩)))))))
 refine Ck (Tc (Cs ?_))
 obtain ⟨d7,h0,h⟩:=bnd h
 refine Jf (fun(d7:Bool) ρ' M' H'=>h9.le M'∧[(a6, .cells (l40 w).toArray 40 (0,0))]::[(N, .cells #[(Sv ⟨#[]⟩),(Iv 0),(Iv 0)] 40 (0,0))]::[(l, .cells (l58 a0 e i j k).toArray 58 (0,0))]::F=H'∧ρ' 1=(pt l 0)∧ρ' 2=(pt N 0)∧ρ' 106=(Bv d7)) d7 ?_ ?_
 have h:=h0
 refine WC.draw [0,1,0,4,15,31,63,127,255,127,639,2047,4095,8191,16383,32767,65535,32767,163839,524287,1048575,2097151,4194303,8388607,16777215,8388607,41943039,134217727,268435455,536870911] (.pure 0 (.pure 1 (.pure 2 (.alt 3 (.alt 4 (.pure 5 (.pure 6 (.pure 7 (.pure 8 (.pure 9 (.alt 10 (.alt 11 (.pure 12 (.pure 13 (.pure 14 (.pure 15 (.pure 16 (.pure 17 (.alt 18 (.alt 19 (.pure 20 (.pure 21 (.pure 22 (.pure 23 (.pure 24 (.pure 25 (.alt 26 (.alt 27 (.pure 28 (.pure 29 .done)) .none) .none))))))) .none) .none))))))) .none) .none)))))) .none) .none)))) mixed (by kernel_rfl) (qt (pt l 14) Z (Fa fo58_14 d Z) (qt e Z (Lb 2 pl56 Z Z Z) (qt (Iv a0.Kind) Z (Mv G) ?_)))
 obtain ⟨h1,h2,h⟩:=bnd h
 refine Ta Z (Ca co105 (f_ref05_has_ok a0.Kind (105:Int) _ h1 h2) (args2 Z Z)) Z ?_ ?_
 rintro _ k4 _ V ⟨_,⟨rfl,rfl⟩,rfl⟩
 have h3:=g8.trans V
 refine⟨(Sk 1 Z (Ss Z (Lb 2 pl56 Z Z Z) Z (Ss Z (Fa fo58_14 d Z) Z trivial))), ?_⟩
 refine WT.a0 ?_
 obtain ⟨d8,h4,h⟩:=bnd h
 have p:=p.mono h3
 refine Ta Z (Ca co107 (f_ref05_row_ok a0.Ids h1 _ _ p d8 h4) (args2 Z Z)) Z ?_ ?_
 rintro _ k5 _ W ⟨_,⟨rfl,rfl⟩,rfl⟩
 have i0:=h3.trans W
 refine⟨(Sl Z), ?_⟩
 refine WT.a0 (qt (Bv (!d8)) Z (PO.not Z) (qt (Bv (!d8)) Z (Mv Z) ?_))
 rcases Bi h with⟨a,h⟩ |⟨a,h⟩
 refine Tf 83 Z Z Z a Z (Tf 83 Z Z Z a Z (Tf 83 Z Z Z a Z (Tg 83 Z Z Z a Z ⟨(Sk 1 Z (St (Sf 83 Z Z Z a Z) (St (Sf 83 Z Z Z a Z) (Sl Z)))), ?_⟩ ?_)))
 refine Tg 83 Z Z Z a Z ⟨(Sl Z), ?_⟩ ?_
 refine Tf 83 Z Z Z a Z (qt (Bv true) Z (Pt Z a Z) (qt (Bv true) Z (Mv Z) (Tf 91 Z Z Z Z Z (Tf 91 Z Z Z Z Z (Tf 91 Z Z Z Z Z (Tg 91 Z Z Z Z Z ⟨(Sk 1 Z (St (Sf 91 Z Z Z Z Z) (St (Sf 91 Z Z Z Z Z) (Sl Z)))), ?_⟩ ?_))))))
 refine Tg 91 Z Z Z Z Z ⟨(Sl Z), ?_⟩ ?_
 refine Tf 91 Z Z Z Z Z (qt (Bv true) Z (Pt Z Z Z) (qt (Bv true) Z (Mv Z) (Tf 99 Z Z Z Z Z (Tf 99 Z Z Z Z Z (Tf 99 Z Z Z Z Z (Tg 99 Z Z Z Z Z ⟨(Sk 1 Z (St (Sf 99 Z Z Z Z Z) (St (Sf 99 Z Z Z Z Z) (Sl Z)))), ?_⟩ ?_))))))
 refine Tg 99 Z Z Z Z Z ⟨(Sl Z), ?_⟩ ?_
 refine Tf 99 Z Z Z Z Z (qt (Bv true) Z (Pt Z Z Z) (Ti ?_))
 obtain rfl:=oi h
 exact Tj ⟨(V.trans W),Z,d,u,Z⟩
 exact Tz
 exact Tz
 exact Tz
 exact Tz
 exact Tz
 exact Tz
 refine Tn (pt l 15) 83 Z Z Z a (Fa fo58_15 d Z) Z (Tn i 83 Z Z Z a (Lb 2 pl56 Z Z Z) Z (Tn (Iv a0.Kind) 83 Z Z Z a (Mv G) Z ?_))
 obtain ⟨c3,d9,h⟩:=bnd h
 refine WT.altOn 83 Z Z Z a (Ca co105 (f_ref05_has_ok a0.Kind (109:Int) _ c3 d9) (args2 Z Z)) Z ?_ ?_
 rintro _ i1 _ Y ⟨_,⟨rfl,rfl⟩,rfl⟩
 have b7:=i0.trans Y
 refine⟨(Sk 1 Z (St (StabA.on 83 Z Z Z a (Lb 2 pl56 Z Z Z) Z) (St (StabA.on 83 Z Z Z a (Fa fo58_15 d Z) Z) (Sl Z)))), ?_⟩
 refine WT.a0 ?_
 obtain ⟨a1,e0,h⟩:=bnd h
 have A:=A.mono b7
 refine WT.altOn 83 Z Z Z a (Ca co107 (f_ref05_row_ok a0.Isr c3 _ _ A a1 e0) (args2 Z Z)) Z ?_ ?_
 rintro _ i2 _ P ⟨_,⟨rfl,rfl⟩,rfl⟩
 have b8:=((V.trans W).trans Y).trans P
 refine⟨(Sl Z), ?_⟩
 refine WT.a0 (Tn (Bv (!a1)) 83 Z Z Z a (PO.not Z) Z (qt (Bv (!a1)) Z (Pf Z a Z) (qt (Bv (!a1)) Z (Mv Z) ?_)))
 rcases Bi h with⟨b,h⟩ |⟨b,h⟩
 refine Tf 91 Z Z Z b Z (Tf 91 Z Z Z b Z (Tf 91 Z Z Z b Z (Tg 91 Z Z Z b Z ⟨(Sk 1 Z (St (Sf 91 Z Z Z b Z) (St (Sf 91 Z Z Z b Z) (Sl Z)))), ?_⟩ ?_)))
 refine Tg 91 Z Z Z b Z ⟨(Sl Z), ?_⟩ ?_
 refine Tf 91 Z Z Z b Z (qt (Bv true) Z (Pt Z b Z) (qt (Bv true) Z (Mv Z) (Tf 99 Z Z Z Z Z (Tf 99 Z Z Z Z Z (Tf 99 Z Z Z Z Z (Tg 99 Z Z Z Z Z ⟨(Sk 1 Z (St (Sf 99 Z Z Z Z Z) (St (Sf 99 Z Z Z Z Z) (Sl Z)))), ?_⟩ ?_))))))
 refine Tg 99 Z Z Z Z Z ⟨(Sl Z), ?_⟩ ?_
 refine Tf 99 Z Z Z Z Z (qt (Bv true) Z (Pt Z Z Z) (Ti ?_))
 obtain rfl:=oi h
 exact Tj ⟨b8,Z,d,u,Z⟩
 exact Tz
 exact Tz
 exact Tz
 exact Tz
 refine Tn (pt l 16) 91 Z Z Z b (Fa fo58_16 d Z) Z (Tn j 91 Z Z Z b (Lb 2 pl56 Z Z Z) Z (Tn (Iv a0.Kind) 91 Z Z Z b (Mv G) Z ?_))
 obtain ⟨c4,e1,h⟩:=bnd h
 refine WT.altOn 91 Z Z Z b (Ca co105 (f_ref05_has_ok a0.Kind (120:Int) _ c4 e1) (args2 Z Z)) Z ?_ ?_
 rintro _ i3 _ I ⟨_,⟨rfl,rfl⟩,rfl⟩
 refine⟨(Sk 1 Z (St (StabA.on 91 Z Z Z b (Lb 2 pl56 Z Z Z) Z) (St (StabA.on 91 Z Z Z b (Fa fo58_16 d Z) Z) (Sl Z)))), ?_⟩
 refine WT.a0 ?_
 obtain ⟨a2,e2,h⟩:=bnd h
 have B:=B.mono ((b7.trans P).trans I)
 refine WT.altOn 91 Z Z Z b (Ca co107 (f_ref05_row_ok a0.Add c4 _ _ B a2 e2) (args2 Z Z)) Z ?_ ?_
 rintro _ i4 _ Q ⟨_,⟨rfl,rfl⟩,rfl⟩
 refine⟨(Sl Z), ?_⟩
 refine WT.a0 (Tn (Bv (!a2)) 91 Z Z Z b (PO.not Z) Z (qt (Bv (!a2)) Z (Pf Z b Z) (qt (Bv (!a2)) Z (Mv Z) ?_)))
 rcases Bi h with⟨c,h⟩ |⟨c,h⟩
 refine Tf 99 Z Z Z c Z (Tf 99 Z Z Z c Z (Tf 99 Z Z Z c Z (Tg 99 Z Z Z c Z ⟨(Sk 1 Z (St (Sf 99 Z Z Z c Z) (St (Sf 99 Z Z Z c Z) (Sl Z)))), ?_⟩ ?_)))
 refine Tg 99 Z Z Z c Z ⟨(Sl Z), ?_⟩ ?_
 refine Tf 99 Z Z Z c Z (qt (Bv true) Z (Pt Z c Z) (Ti ?_))
 obtain rfl:=oi h
 exact Tj ⟨((b8.trans I).trans Q),Z,d,u,Z⟩
 exact Tz
 exact Tz
 refine Tn (pt l 17) 99 Z Z Z c (Fa fo58_17 d Z) Z (Tn k 99 Z Z Z c (Lb 2 pl56 Z Z Z) Z (Tn (Iv a0.Kind) 99 Z Z Z c (Mv G) Z ?_))
 obtain ⟨c5,e3,h⟩:=bnd h
 refine WT.altOn 99 Z Z Z c (Ca co105 (f_ref05_has_ok a0.Kind (120:Int) _ c5 e3) (args2 Z Z)) Z ?_ ?_
 rintro _ i5 _ a3 ⟨_,⟨rfl,rfl⟩,rfl⟩
 refine⟨(Sk 1 Z (St (StabA.on 99 Z Z Z c (Lb 2 pl56 Z Z Z) Z) (St (StabA.on 99 Z Z Z c (Fa fo58_17 d Z) Z) (Sl Z)))), ?_⟩
 refine WT.a0 ?_
 obtain ⟨b9,e4,h⟩:=bnd h
 have C:=C.mono ((((b7.trans P).trans I).trans Q).trans a3)
 refine WT.altOn 99 Z Z Z c (Ca co107 (f_ref05_row_ok a0.Drop c5 _ _ C b9 e4) (args2 Z Z)) Z ?_ ?_
 rintro _ i6 _ c1 ⟨_,⟨rfl,rfl⟩,rfl⟩
 refine⟨(Sl Z), ?_⟩
 refine WT.a0 (Tn (Bv (!b9)) 99 Z Z Z c (PO.not Z) Z (qt (Bv (!b9)) Z (Pf Z c Z) (Ti ?_)))
 obtain rfl:=oi h
 exact Tj ⟨((((b8.trans I).trans Q).trans a3).trans c1),Z,d,u,Z⟩
 exact Tz
 exact Tz
 exact Tz
 exact Tz
 exact Tz
 exact Tz
 exact Tz
 exact Tz
 rintro k6 k7 k8 ⟨X,rfl,c2,J,a4⟩
 refine Ch h a4 (fun e5 h=> ?_) (fun e5 h=> ?_)
 refine Sr (qu (pt l 14) (Fa fo58_14 c2 Z) (qu e (Lb 2 pl56 Z Z Z) ?_))
 have p:=p.mono (g8.trans X)
 refine qu (Iv (a0.Ids.length:Int)) (lenS underlying56 Z p.len) (qu (.agg #[(Sv ⟨#[114,111,119]⟩),(Iv (a0.Ids.length:Int)),(Iv 18)]) (Bl (cl:=[(Sv ⟨#[114,111,119]⟩),(Iv (a0.Ids.length:Int)),(Iv 18)]) ze40 fp40 (Pc (Sv ⟨#[114,111,119]⟩) Z Z (Pc (Iv (a0.Ids.length:Int)) Z Z (Pc (Iv 18) Z Z Pz))) Z) (WL.f1 (We (Sg (v:=(.agg #[(Sv ⟨#[114,111,119]⟩),(Iv (a0.Ids.length:Int)),(Iv 18)])) (vl:=[(Sv ⟨#[114,111,119]⟩),(Iv (a0.Ids.length:Int)),(Iv 18)]) (arr':=[(Sv ⟨#[114,111,119]⟩),(Iv (a0.Ids.length:Int)),(Iv 18)]) Z sz40 J Z (onb Z) Z Z Z) Z ?_)))
 rintro _ _ _ - ⟨rfl,rfl⟩
 exact Nt (Cr (Tr (Qa (Dr (Qa (Dr (Rd h [] (fun _ hs=>hs.drop) (resultsL1 Z (Rc (cs:=[(Sv ⟨#[114,111,119]⟩),(Iv (a0.Ids.length:Int)),(Iv 18)]) 0 ag40 sz40 J Z Z)) (U.trans X) ⟨Z,Z⟩)))))))
 refine Ck (Tc (Sr (qu (.agg #[(Sv ⟨#[]⟩),(Iv 0),(Iv 0)]) (Bl (cl:=[(Sv ⟨#[]⟩),(Iv 0),(Iv 0)]) ze40 fp40 Pz Z) (WL.f1 (We (Sg (v:=(.agg #[(Sv ⟨#[]⟩),(Iv 0),(Iv 0)])) (vl:=[(Sv ⟨#[]⟩),(Iv 0),(Iv 0)]) (arr':=[(Sv ⟨#[]⟩),(Iv 0),(Iv 0)]) Z sz40 J Z (onb Z) Z Z Z) Z ?_)))))
 rintro _ _ _ - ⟨rfl,rfl⟩
 exact Nt (Cr (Qa (Dr (Qa (Dr (Rd h [] (fun _ hs=>hs.drop) (resultsL1 Z (Rc (cs:=[(Sv ⟨#[]⟩),(Iv 0),(Iv 0)]) 0 ag40 sz40 J Z Z)) (U.trans X) ⟨Z,Z⟩))))))
noncomputable def f_ref05_Read (a0:T_ref05_Cursor):Option (T_api_Record×Int×Int×ByteArray×Int):=
 ((f_ref05_Cursor_Int a0 (63:Int)).bind fun(a,D,C,E,G)=>(((((if(decide (C=(0:Int)))=true then(if(decide (a<(1:Int)))=true then(some true)else(some (decide ((12:Int)<a))))else(some false)):Option Bool).bind fun f4=>(if f4=true then((f_ref05_Cursor_Refuse (⟨a0.B,(⟨D,C,E,G⟩:T_ref02_State)⟩:T_ref05_Cursor) (⟨#[107,105,110,100]⟩:ByteArray) (5:Int)).bind fun(f5,f6,f7)=>(some (f5,f6,f7)))else(some (C,E,G)))):Option (Int×ByteArray×Int)).bind fun(f8,f9,g0)=>((f_ref05_has a (98:Int)).bind fun g1=>((f_ref05_Cursor_some (⟨a0.B,(⟨D,f8,f9,g0⟩:T_ref02_State)⟩:T_ref05_Cursor) g1).bind fun(I,g2,g3,g4,g5)=>((f_ref05_has a (101:Int)).bind fun g6=>((f_ref05_Cursor_some (⟨a0.B,(⟨g2,g3,g4,g5⟩:T_ref02_State)⟩:T_ref05_Cursor) g6).bind fun(J,g7,g8,g9,h0)=>((f_ref05_has a (116:Int)).bind fun h1=>((f_ref05_Cursor_some (⟨a0.B,(⟨g7,g8,g9,h0⟩:T_ref02_State)⟩:T_ref05_Cursor) h1).bind fun(K,h2,h3,h4,h5)=>((f_ref05_has a (112:Int)).bind fun h6=>((f_ref05_Cursor_some (⟨a0.B,(⟨h2,h3,h4,h5⟩:T_ref02_State)⟩:T_ref05_Cursor) h6).bind fun(L,h7,h8,h9,i0)=>((f_ref05_has a (108:Int)).bind fun N=>((f_ref05_Cursor_some (⟨a0.B,(⟨h7,h8,h9,i0⟩:T_ref02_State)⟩:T_ref05_Cursor) N).bind fun(g,O,P,Q,R)=>((f_ref05_has a (97:Int)).bind fun S=>((f_ref05_Cursor_some (⟨a0.B,(⟨O,P,Q,R⟩:T_ref02_State)⟩:T_ref05_Cursor) S).bind fun(i,T,U,V,W)=>((f_ref05_has a (97:Int)).bind fun X=>((f_ref05_Cursor_some (⟨a0.B,(⟨T,U,V,W⟩:T_ref02_State)⟩:T_ref05_Cursor) X).bind fun(j,Y,a1,a2,a3)=>((f_ref05_has a (97:Int)).bind fun a4=>((f_ref05_Cursor_some (⟨a0.B,(⟨Y,a1,a2,a3⟩:T_ref02_State)⟩:T_ref05_Cursor) a4).bind fun(k,l,m,n,o)=>((((f_ref05_has a (102:Int)).bind fun a5=>(if a5=true then((f_ref05_Cursor_Flag (⟨a0.B,(⟨l,m,n,o⟩:T_ref02_State)⟩:T_ref05_Cursor)).bind fun(a6,a7,a8,a9,b0)=>(some (a6,a7,a8,a9,b0)))else(some (false,l,m,n,o)))):Option (Bool×Int×Int×ByteArray×Int)).bind fun(p,b1,b2,b3,b4)=>((f_ref05_has a (110:Int)).bind fun b5=>((f_ref05_Cursor_word (⟨a0.B,(⟨b1,b2,b3,b4⟩:T_ref02_State)⟩:T_ref05_Cursor) b5).bind fun(q,b6,b7,b8,b9)=>((f_ref05_has a (107:Int)).bind fun c0=>((f_ref05_Cursor_word (⟨a0.B,(⟨b6,b7,b8,b9⟩:T_ref02_State)⟩:T_ref05_Cursor) c0).bind fun(r,c1,c2,c3,c4)=>((f_ref05_has a (118:Int)).bind fun c5=>((f_ref05_Cursor_word (⟨a0.B,(⟨c1,c2,c3,c4⟩:T_ref02_State)⟩:T_ref05_Cursor) c5).bind fun(s,c6,c7,c8,c9)=>((f_ref05_has a (114:Int)).bind fun d0=>((f_ref05_Cursor_word (⟨a0.B,(⟨c6,c7,c8,c9⟩:T_ref02_State)⟩:T_ref05_Cursor) d0).bind fun(t,d1,d2,d3,d4)=>((f_ref05_has a (105:Int)).bind fun d5=>((f_ref05_Cursor_brokers (⟨a0.B,(⟨d1,d2,d3,d4⟩:T_ref02_State)⟩:T_ref05_Cursor) d5).bind fun(u,d6,d7,d8,d9)=>((f_ref05_has a (109:Int)).bind fun e0=>((f_ref05_Cursor_brokers (⟨a0.B,(⟨d6,d7,d8,d9⟩:T_ref02_State)⟩:T_ref05_Cursor) e0).bind fun(v,e1,e2,e3,e4)=>((f_ref05_has a (120:Int)).bind fun e5=>((f_ref05_Cursor_brokers (⟨a0.B,(⟨e1,e2,e3,e4⟩:T_ref02_State)⟩:T_ref05_Cursor) e5).bind fun(w,e6,e7,e8,e9)=>((f_ref05_has a (120:Int)).bind fun f0=>((f_ref05_Cursor_brokers (⟨a0.B,(⟨e6,e7,e8,e9⟩:T_ref02_State)⟩:T_ref05_Cursor) f0).bind fun(x,c,b,d,e)=>(((if(decide (b=(0:Int)))=true then((f_ref05_Check (⟨a,I,J,K,L,g,i,j,k,p,q,r,s,t,u,v,w,x⟩:T_api_Record)).bind fun y=>(if(decide (y.Code≠(0:Int)))=true then((f_ref05_Cursor_Refuse (⟨a0.B,(⟨c,b,d,e⟩:T_ref02_State)⟩:T_ref05_Cursor) (⟨#[114,101,99,111,114,100]⟩:ByteArray) y.Code).bind fun(f1,f2,f3)=>(some (f1,f2,f3)))else(some (b,d,e))))else(some (b,d,e))):Option (Int×ByteArray×Int)).bind fun(f,z,A)=>(if(decide (f≠(0:Int)))=true then(some ((⟨(0:Int),(0:Int),(0:Int),(0:Int),(0:Int),(0:Int),(0:Int),(0:Int),(0:Int),false,(⟨#[]⟩:ByteArray),(⟨#[]⟩:ByteArray),(⟨#[]⟩:ByteArray),(⟨#[]⟩:ByteArray),[],[],[],[]⟩:T_api_Record),c,f,z,A))else(some ((⟨a,I,J,K,L,g,i,j,k,p,q,r,s,t,u,v,w,x⟩:T_api_Record),c,f,z,A)))))))))))))))))))))))))))))))))))))))
def f_ref05_Read_post (a0:T_ref05_Cursor) (k:Value) (l:Nat):(T_api_Record×Int×Int×ByteArray×Int)→Value→IM→HL→Prop:=
 fun(p_:(T_api_Record×Int×Int×ByteArray×Int)) (v:Value) (M':IM) (H':HL)=>match p_ with |(a,m,n,o,p)=>∃ b c d e f g i j,(.agg #[(.int .i64 a.Kind),(.int .i64 a.Broker),(.int .i64 a.Epoch),(.int .i64 a.Topic),(.int .i64 a.Part),(.int .i64 a.Leader),(.int .i64 a.Client),(.int .i64 a.Serial),(.int .i64 a.Code),(.bool a.Flag),(.string a.Name),(.string a.Key),(.string a.Value),(.string a.Rack),b,d,f,i])=v∧H'=[[(l, .cells #[k,(.int .i64 m),(.int .i64 n),(.string o),(.int .i64 p)] 98 (0,0))],c,e,g,j]∧OwnS (Kd.int .i64) M' b a.Ids c∧OwnS (Kd.int .i64) M' d a.Isr e∧OwnS (Kd.int .i64) M' f a.Add g∧OwnS (Kd.int .i64) M' i a.Drop j
theorem f_ref05_Read_ok (a0:T_ref05_Cursor) (M:IM) (Q:Value) (E:Nat) (a:RS (Kd.int .u8) M Q a0.B) (res:(T_api_Record×Int×Int×ByteArray×Int)) (h:f_ref05_Read a0=some res):
 Tri prog 89 #[(pt E 0)] M [[(E, .cells (l98 a0 Q).toArray 98 (0,0))]] (f_ref05_Read_post a0 Q E res):=by
 unfold f_ref05_Read at h
 refine Te func89 Z Z ?_
 intro F ρ hρ
 refine Sr (We (Al ze58 Z) Z ?_)
 rintro _ _ _ - ⟨rfl,c7,rfl,rfl⟩
 refine Ns (qu (.agg z58_.toArray) (Bl (cl:=z58_) ze58 fp58 Pz Z) (We (Al ze58 Z) Z ?_))
 rintro _ _ _ - ⟨rfl,o,rfl,rfl⟩
 refine We (Sg (v:=(.agg z58_.toArray)) (vl:=z58_) (arr':=z58_) Z sz58 Z Z (onb Z) Z Z (by kernel_rfl)) Z ?_
 rintro _ _ _ - ⟨rfl,rfl⟩
 refine Ns (qM (pt E 0) (hρ 0) ?_)
 obtain ⟨⟨b,f0,e9,n2,n3⟩,r3,h⟩:=bnd h
 refine Wb (We (Cb co58 (f_ref05_Cursor_Int_ok a0 (63:Int) _ _ _ a (b,f0,e9,n2,n3) r3) (args2 Z Z)) Z ?_)
 rintro _ r4 _ a3 ⟨_,⟨rfl,rfl⟩,rfl⟩
 refine WL.a1 (qu (pt o 0) (Fa fo58_0 Z Z) (WL.f1 (We (Es (Iv b) [(Iv b),(Iv 0),(Iv 0),(Iv 0),(Iv 0),(Iv 0),(Iv 0),(Iv 0),(Iv 0),(Bv false),(Sv ⟨#[]⟩),(Sv ⟨#[]⟩),(Sv ⟨#[]⟩),(Sv ⟨#[]⟩),Zs,Zs,Zs,Zs] Z sz3 Z Z Z Z Z (by kernel_rfl)) Z ?_)))
 rintro _ _ _ - ⟨rfl,rfl⟩
 refine Nt ?_
 obtain ⟨r5,r6,h⟩:=bnd h
 refine Jf (fun(p_:(Int×ByteArray×Int)) ρ' M' H'=>match p_ with |(n4,n5,n6)=>r4.le M'∧[(o, .cells #[(Iv b),(Iv 0),(Iv 0),(Iv 0),(Iv 0),(Iv 0),(Iv 0),(Iv 0),(Iv 0),(Bv false),(Sv ⟨#[]⟩),(Sv ⟨#[]⟩),(Sv ⟨#[]⟩),(Sv ⟨#[]⟩),Zs,Zs,Zs,Zs] 58 (0,0))]::[(E, .cells #[Q,(Iv f0),(Iv n4),(Sv n5),(Iv n6)] 98 (0,0))]::[(c7, .cells z58_.toArray 58 (0,0))]::F=H'∧ρ' 0=(pt E 0)∧ρ' 2=(pt c7 0)∧ρ' 3=(pt o 0)) r5 ?_ ?_
 have h:=r6
 obtain ⟨n7,r7,h⟩:=bnd h
 refine Jf (fun(n7:Bool) ρ' M' H'=>r4.le M'∧[(o, .cells #[(Iv b),(Iv 0),(Iv 0),(Iv 0),(Iv 0),(Iv 0),(Iv 0),(Iv 0),(Iv 0),(Bv false),(Sv ⟨#[]⟩),(Sv ⟨#[]⟩),(Sv ⟨#[]⟩),(Sv ⟨#[]⟩),Zs,Zs,Zs,Zs] 58 (0,0))]::[(E, .cells #[Q,(Iv f0),(Iv e9),(Sv n2),(Iv n3)] 98 (0,0))]::[(c7, .cells z58_.toArray 58 (0,0))]::F=H'∧ρ' 0=(pt E 0)∧ρ' 2=(pt c7 0)∧ρ' 3=(pt o 0)∧ρ' 25=(Bv n7)) n7 ?_ ?_
 have h:=r7
 refine Cg (qM (pt E 0) (hρ 0) (qu (pt E 0) (Nk Z) (qu (pt E 1) (Fa fo98_1 Z Z) (qu (pt E 2) (Fa fo96_1 Z Z) (qu (Iv e9) (Lb 1 pl38 Z Z Z) (qu (Bv (decide (e9=0))) (eql Z Z) (qm (Bv (decide (e9=0))) ?_)))))))
 rcases Bi h with⟨N,h⟩ |⟨N,h⟩
 refine qo 16 N (pt o 0) (Fa fo58_0 Z Z) (qo 16 N (Iv b) (Lb 0 pl3 Z Z Z) (qo 16 N (Bv (decide (b<1))) (lss Z Z) (On 16 Z Z N (qm (Bv (decide (b<1))) ?_))))
 rcases Bi h with⟨W,h⟩ |⟨W,h⟩
 iterate 3 refine Of 20 Z Z W Z ?_
 refine qo 16 N (Bv true) (Pt Z W Z) (qu (Bv true) (Pt Z N Z) (Wz ?_))
 obtain rfl:=oi h
 exact Tj ⟨lr,Z,(hρ 0),Z,Z,Z⟩
 refine qo 20 W (pt o 0) (Fa fo58_0 Z Z) (qo 20 W (Iv b) (Lb 0 pl3 Z Z Z) (qo 20 W (Bv (decide ((12:Int)<b))) (gtr Z Z) (qo 16 N (Bv (decide ((12:Int)<b))) (Pf Z W Z) (qu (Bv (decide ((12:Int)<b))) (Pt Z N Z) (Wz ?_)))))
 obtain rfl:=oi h
 exact Tj ⟨lr,Z,(hρ 0),Z,Z,Z⟩
 iterate 4 refine Of 16 Z Z N Z ?_
 refine WL.offU 20 Z Z Z (WL.offU 20 Z Z Z (WL.offU 20 Z Z Z (Of 16 Z Z N Z (qu (Bv false) (Pf Z N Z) (Wz ?_)))))
 obtain rfl:=oi h
 exact Tj ⟨lr,Z,(hρ 0),Z,Z,Z⟩
 rintro A6 A7 A8 ⟨c9,rfl,a5,e3,e4,f2⟩
 refine Ch h f2 (fun r8 h=> ?_) (fun r8 h=> ?_)
 refine Cg (qM (pt E 0) a5 ?_)
 obtain ⟨⟨w3,w4,w5⟩,r9,h⟩:=bnd h
 refine WL.f1 ?_
 have a:=a.mono (a3.trans c9)
 refine We (Cb co88 (f_ref05_Cursor_Refuse_ok (⟨a0.B,(⟨f0,e9,n2,n3⟩:T_ref02_State)⟩:T_ref05_Cursor) (⟨#[107,105,110,100]⟩:ByteArray) (5:Int) _ _ _ a (w3,w4,w5) r9) (args3 Z Z Z)) Z ?_
 rintro _ A9 _ n8 ⟨_,⟨rfl,rfl⟩,rfl⟩
 refine WL.a1 (Wz (Qb (Qa (Qb ?_))))
 obtain rfl:=oi h
 exact Tj ⟨(c9.trans n8),Z,a5,e3,e4⟩
 refine Ck ?_
 obtain rfl:=oi h
 exact Tj ⟨c9,Z,a5,e3,e4⟩
 obtain ⟨n4,n5,n6⟩:=r5
 rintro B0 B1 B2 ⟨d0,rfl,p,e5,j⟩
 refine Sr (qu (pt o 0) (Fa fo58_0 j Z) (qu (Iv b) (Lb 0 pl3 Z Z Z) (qa (Iv b) (Ns (qM (pt E 0) p (qm (Iv b) ?_))))))
 obtain ⟨s0,s1,h⟩:=bnd h
 refine We (Ca co105 (f_ref05_has_ok b (98:Int) _ s0 s1) (args2 Z Z)) Z ?_
 rintro _ B3 _ d1 ⟨_,⟨rfl,rfl⟩,rfl⟩
 refine WL.a0 ?_
 obtain ⟨⟨n,s2,s3,s4,s5⟩,s6,h⟩:=bnd h
 refine WL.f1 ?_
 have a:=a.mono ((a3.trans d0).trans d1)
 refine We (Cb co130 (f_ref05_Cursor_some_ok (⟨a0.B,(⟨f0,n4,n5,n6⟩:T_ref02_State)⟩:T_ref05_Cursor) s0 _ _ _ a (n,s2,s3,s4,s5) s6) (args2 Z Z)) Z ?_
 rintro _ B4 _ d2 ⟨_,⟨rfl,rfl⟩,rfl⟩
 refine WL.a1 (qu (pt o 1) (Fa fo58_1 j Z) (WL.f1 (We (Es (Iv n) [(Iv b),(Iv n),(Iv 0),(Iv 0),(Iv 0),(Iv 0),(Iv 0),(Iv 0),(Iv 0),(Bv false),(Sv ⟨#[]⟩),(Sv ⟨#[]⟩),(Sv ⟨#[]⟩),(Sv ⟨#[]⟩),Zs,Zs,Zs,Zs] Z sz3 Z Z Z Z Z (by kernel_rfl)) Z ?_)))
 rintro _ _ _ - ⟨rfl,rfl⟩
 refine Ns (qM (pt E 0) p (qm (Iv b) ?_))
 obtain ⟨s7,s8,h⟩:=bnd h
 refine We (Ca co105 (f_ref05_has_ok b (101:Int) _ s7 s8) (args2 Z Z)) Z ?_
 rintro _ B5 _ d3 ⟨_,⟨rfl,rfl⟩,rfl⟩
 refine WL.a0 ?_
 obtain ⟨⟨q,s9,t0,t1,t2⟩,t3,h⟩:=bnd h
 refine WL.f1 ?_
 have a:=a.mono (d2.trans d3)
 refine We (Cb co130 (f_ref05_Cursor_some_ok (⟨a0.B,(⟨s2,s3,s4,s5⟩:T_ref02_State)⟩:T_ref05_Cursor) s7 _ _ _ a (q,s9,t0,t1,t2) t3) (args2 Z Z)) Z ?_
 rintro _ B6 _ d4 ⟨_,⟨rfl,rfl⟩,rfl⟩
 refine WL.a1 (qu (pt o 2) (Fa fo58_2 j Z) (WL.f1 (We (Es (Iv q) [(Iv b),(Iv n),(Iv q),(Iv 0),(Iv 0),(Iv 0),(Iv 0),(Iv 0),(Iv 0),(Bv false),(Sv ⟨#[]⟩),(Sv ⟨#[]⟩),(Sv ⟨#[]⟩),(Sv ⟨#[]⟩),Zs,Zs,Zs,Zs] Z sz3 Z Z Z Z Z (by kernel_rfl)) Z ?_)))
 rintro _ _ _ - ⟨rfl,rfl⟩
 refine Ns (qM (pt E 0) p (qm (Iv b) ?_))
 obtain ⟨t4,t5,h⟩:=bnd h
 refine We (Ca co105 (f_ref05_has_ok b (116:Int) _ t4 t5) (args2 Z Z)) Z ?_
 rintro _ B7 _ d5 ⟨_,⟨rfl,rfl⟩,rfl⟩
 refine WL.a0 ?_
 obtain ⟨⟨t,t6,t7,t8,t9⟩,u0,h⟩:=bnd h
 refine WL.f1 ?_
 have a:=a.mono (d4.trans d5)
 refine We (Cb co130 (f_ref05_Cursor_some_ok (⟨a0.B,(⟨s9,t0,t1,t2⟩:T_ref02_State)⟩:T_ref05_Cursor) t4 _ _ _ a (t,t6,t7,t8,t9) u0) (args2 Z Z)) Z ?_
 rintro _ B8 _ d6 ⟨_,⟨rfl,rfl⟩,rfl⟩
 refine WL.a1 (qu (pt o 3) (Fa fo58_3 j Z) (WL.f1 (We (Es (Iv t) [(Iv b),(Iv n),(Iv q),(Iv t),(Iv 0),(Iv 0),(Iv 0),(Iv 0),(Iv 0),(Bv false),(Sv ⟨#[]⟩),(Sv ⟨#[]⟩),(Sv ⟨#[]⟩),(Sv ⟨#[]⟩),Zs,Zs,Zs,Zs] Z sz3 Z Z Z Z Z (by kernel_rfl)) Z ?_)))
 rintro _ _ _ - ⟨rfl,rfl⟩
 refine Ns (qM (pt E 0) p (qm (Iv b) ?_))
 obtain ⟨u1,u2,h⟩:=bnd h
 refine We (Ca co105 (f_ref05_has_ok b (112:Int) _ u1 u2) (args2 Z Z)) Z ?_
 rintro _ B9 _ d7 ⟨_,⟨rfl,rfl⟩,rfl⟩
 refine WL.a0 ?_
 obtain ⟨⟨w,u3,u4,u5,u6⟩,u7,h⟩:=bnd h
 refine WL.f1 ?_
 have a:=a.mono (d6.trans d7)
 refine We (Cb co130 (f_ref05_Cursor_some_ok (⟨a0.B,(⟨t6,t7,t8,t9⟩:T_ref02_State)⟩:T_ref05_Cursor) u1 _ _ _ a (w,u3,u4,u5,u6) u7) (args2 Z Z)) Z ?_
 rintro _ x4 _ a6 ⟨_,⟨rfl,rfl⟩,rfl⟩
 refine WL.a1 (qu (pt o 4) (Fa fo58_4 j Z) (WL.f1 (We (Es (Iv w) [(Iv b),(Iv n),(Iv q),(Iv t),(Iv w),(Iv 0),(Iv 0),(Iv 0),(Iv 0),(Bv false),(Sv ⟨#[]⟩),(Sv ⟨#[]⟩),(Sv ⟨#[]⟩),(Sv ⟨#[]⟩),Zs,Zs,Zs,Zs] Z sz3 Z Z Z Z Z (by kernel_rfl)) Z ?_)))
 rintro _ _ _ - ⟨rfl,rfl⟩
 refine Ns (qM (pt E 0) p (qm (Iv b) ?_))
 obtain ⟨g7,n9,h⟩:=bnd h
 refine We (Ca co105 (f_ref05_has_ok b (108:Int) _ g7 n9) (args2 Z Z)) Z ?_
 rintro _ x5 _ a7 ⟨_,⟨rfl,rfl⟩,rfl⟩
 refine WL.a0 ?_
 obtain ⟨⟨d,g8,g9,h0,h1⟩,o0,h⟩:=bnd h
 refine WL.f1 ?_
 have a:=a.mono (a6.trans a7)
 refine We (Cb co130 (f_ref05_Cursor_some_ok (⟨a0.B,(⟨u3,u4,u5,u6⟩:T_ref02_State)⟩:T_ref05_Cursor) g7 _ _ _ a (d,g8,g9,h0,h1) o0) (args2 Z Z)) Z ?_
 rintro _ x6 _ a8 ⟨_,⟨rfl,rfl⟩,rfl⟩
 refine WL.a1 (qu (pt o 5) (Fa fo58_5 j Z) (WL.f1 (We (Es (Iv d) [(Iv b),(Iv n),(Iv q),(Iv t),(Iv w),(Iv d),(Iv 0),(Iv 0),(Iv 0),(Bv false),(Sv ⟨#[]⟩),(Sv ⟨#[]⟩),(Sv ⟨#[]⟩),(Sv ⟨#[]⟩),Zs,Zs,Zs,Zs] Z sz3 Z Z Z Z Z (by kernel_rfl)) Z ?_)))
 rintro _ _ _ - ⟨rfl,rfl⟩
 refine Ns (qM (pt E 0) p (qm (Iv b) ?_))
 obtain ⟨h2,o1,h⟩:=bnd h
 refine We (Ca co105 (f_ref05_has_ok b (97:Int) _ h2 o1) (args2 Z Z)) Z ?_
 rintro _ x7 _ a9 ⟨_,⟨rfl,rfl⟩,rfl⟩
 refine WL.a0 ?_
 obtain ⟨⟨e,h3,h4,h5,h6⟩,o2,h⟩:=bnd h
 refine WL.f1 ?_
 have a:=a.mono (a8.trans a9)
 refine We (Cb co130 (f_ref05_Cursor_some_ok (⟨a0.B,(⟨g8,g9,h0,h1⟩:T_ref02_State)⟩:T_ref05_Cursor) h2 _ _ _ a (e,h3,h4,h5,h6) o2) (args2 Z Z)) Z ?_
 rintro _ x8 _ b0 ⟨_,⟨rfl,rfl⟩,rfl⟩
 refine WL.a1 (qu (pt o 6) (Fa fo58_6 j Z) (WL.f1 (We (Es (Iv e) [(Iv b),(Iv n),(Iv q),(Iv t),(Iv w),(Iv d),(Iv e),(Iv 0),(Iv 0),(Bv false),(Sv ⟨#[]⟩),(Sv ⟨#[]⟩),(Sv ⟨#[]⟩),(Sv ⟨#[]⟩),Zs,Zs,Zs,Zs] Z sz3 Z Z Z Z Z (by kernel_rfl)) Z ?_)))
 rintro _ _ _ - ⟨rfl,rfl⟩
 refine Ns (qM (pt E 0) p (qm (Iv b) ?_))
 obtain ⟨h7,o3,h⟩:=bnd h
 refine We (Ca co105 (f_ref05_has_ok b (97:Int) _ h7 o3) (args2 Z Z)) Z ?_
 rintro _ x9 _ b1 ⟨_,⟨rfl,rfl⟩,rfl⟩
 refine WL.a0 ?_
 obtain ⟨⟨g,h8,h9,i0,i1⟩,o4,h⟩:=bnd h
 refine WL.f1 ?_
 have a:=a.mono (b0.trans b1)
 refine We (Cb co130 (f_ref05_Cursor_some_ok (⟨a0.B,(⟨h3,h4,h5,h6⟩:T_ref02_State)⟩:T_ref05_Cursor) h7 _ _ _ a (g,h8,h9,i0,i1) o4) (args2 Z Z)) Z ?_
 rintro _ y0 _ b2 ⟨_,⟨rfl,rfl⟩,rfl⟩
 refine WL.a1 (qu (pt o 7) (Fa fo58_7 j Z) (WL.f1 (We (Es (Iv g) [(Iv b),(Iv n),(Iv q),(Iv t),(Iv w),(Iv d),(Iv e),(Iv g),(Iv 0),(Bv false),(Sv ⟨#[]⟩),(Sv ⟨#[]⟩),(Sv ⟨#[]⟩),(Sv ⟨#[]⟩),Zs,Zs,Zs,Zs] Z sz3 Z Z Z Z Z (by kernel_rfl)) Z ?_)))
 rintro _ _ _ - ⟨rfl,rfl⟩
 refine Ns (qM (pt E 0) p (qm (Iv b) ?_))
 obtain ⟨i2,o5,h⟩:=bnd h
 refine We (Ca co105 (f_ref05_has_ok b (97:Int) _ i2 o5) (args2 Z Z)) Z ?_
 rintro _ y1 _ b3 ⟨_,⟨rfl,rfl⟩,rfl⟩
 refine WL.a0 ?_
 obtain ⟨⟨i,i3,i4,i5,i6⟩,o6,h⟩:=bnd h
 refine WL.f1 ?_
 have a:=a.mono (b2.trans b3)
 refine We (Cb co130 (f_ref05_Cursor_some_ok (⟨a0.B,(⟨h8,h9,i0,i1⟩:T_ref02_State)⟩:T_ref05_Cursor) i2 _ _ _ a (i,i3,i4,i5,i6) o6) (args2 Z Z)) Z ?_
 rintro _ u9 _ V ⟨_,⟨rfl,rfl⟩,rfl⟩
 refine WL.a1 (qu (pt o 8) (Fa fo58_8 j Z) (WL.f1 (We (Es (Iv i) [(Iv b),(Iv n),(Iv q),(Iv t),(Iv w),(Iv d),(Iv e),(Iv g),(Iv i),(Bv false),(Sv ⟨#[]⟩),(Sv ⟨#[]⟩),(Sv ⟨#[]⟩),(Sv ⟨#[]⟩),Zs,Zs,Zs,Zs] Z sz3 Z Z Z Z Z (by kernel_rfl)) Z ?_)))
 rintro _ _ _ - ⟨rfl,rfl⟩
 refine Nt ?_
 obtain ⟨i7,o7,h⟩:=bnd h
 refine Jf (fun(p_:(Bool×Int×Int×ByteArray×Int)) ρ' M' H'=>match p_ with |(l,f7,f8,f9,g1)=>u9.le M'∧[(o, .cells #[(Iv b),(Iv n),(Iv q),(Iv t),(Iv w),(Iv d),(Iv e),(Iv g),(Iv i),(Bv l),(Sv ⟨#[]⟩),(Sv ⟨#[]⟩),(Sv ⟨#[]⟩),(Sv ⟨#[]⟩),Zs,Zs,Zs,Zs] 58 (0,0))]::[(E, .cells #[Q,(Iv f7),(Iv f8),(Sv f9),(Iv g1)] 98 (0,0))]::[(c7, .cells z58_.toArray 58 (0,0))]::F=H'∧ρ' 0=(pt E 0)∧ρ' 2=(pt c7 0)∧ρ' 3=(pt o 0)∧ρ' 4=(Iv b)) i7 ?_ ?_
 have h:=o7
 refine Sr (qm (Iv b) ?_)
 obtain ⟨v0,o8,h⟩:=bnd h
 refine We (Ca co105 (f_ref05_has_ok b (102:Int) _ v0 o8) (args2 Z Z)) Z ?_
 rintro _ y2 _ b4 ⟨_,⟨rfl,rfl⟩,rfl⟩
 refine WL.a0 (Nt (Ch h Z (fun o9 h=> ?_) (fun o9 h=> ?_)))
 refine Cg (qM (pt E 0) p ?_)
 obtain ⟨⟨g2,v1,v2,v3,v4⟩,p0,h⟩:=bnd h
 refine WL.f1 ?_
 have a:=a.mono (V.trans b4)
 refine We (Cb co87 (f_ref05_Cursor_Flag_ok (⟨a0.B,(⟨i3,i4,i5,i6⟩:T_ref02_State)⟩:T_ref05_Cursor) _ _ _ a (g2,v1,v2,v3,v4) p0) (args1 Z)) Z ?_
 rintro _ y3 _ g5 ⟨_,⟨rfl,rfl⟩,rfl⟩
 refine WL.a1 (qu (pt o 9) (Fa fo58_9 j Z) (WL.f1 (We (Es (Bv g2) [(Iv b),(Iv n),(Iv q),(Iv t),(Iv w),(Iv d),(Iv e),(Iv g),(Iv i),(Bv g2),(Sv ⟨#[]⟩),(Sv ⟨#[]⟩),(Sv ⟨#[]⟩),(Sv ⟨#[]⟩),Zs,Zs,Zs,Zs] Z sz4 Z Z Z Z Z (by kernel_rfl)) Z ?_)))
 rintro _ _ _ - ⟨rfl,rfl⟩
 refine Wz ?_
 obtain rfl:=oi h
 exact Tj ⟨(b4.trans g5),Z,p,e5,j,Z⟩
 refine Ck ?_
 obtain rfl:=oi h
 exact Tj ⟨b4,Z,p,e5,j,Z⟩
 obtain ⟨l,f7,f8,f9,g1⟩:=i7
 rintro y4 y5 y6 ⟨b5,rfl,c,X,f,y⟩
 refine Sr (qM (pt E 0) c (qM (Iv b) y ?_))
 obtain ⟨i8,p1,h⟩:=bnd h
 refine We (Ca co105 (f_ref05_has_ok b (110:Int) _ i8 p1) (args2 Z Z)) Z ?_
 rintro _ y7 _ b6 ⟨_,⟨rfl,rfl⟩,rfl⟩
 refine WL.a0 ?_
 obtain ⟨⟨m,i9,j0,j1,j2⟩,p2,h⟩:=bnd h
 refine WL.f1 ?_
 have a:=a.mono ((V.trans b5).trans b6)
 refine We (Cb co131 (f_ref05_Cursor_word_ok (⟨a0.B,(⟨f7,f8,f9,g1⟩:T_ref02_State)⟩:T_ref05_Cursor) i8 _ _ _ a (m,i9,j0,j1,j2) p2) (args2 Z Z)) Z ?_
 rintro _ y8 _ b7 ⟨_,⟨rfl,rfl⟩,rfl⟩
 refine WL.a1 (qu (pt o 10) (Fa fo58_10 f Z) (WL.f1 (We (Es (Sv m) [(Iv b),(Iv n),(Iv q),(Iv t),(Iv w),(Iv d),(Iv e),(Iv g),(Iv i),(Bv l),(Sv m),(Sv ⟨#[]⟩),(Sv ⟨#[]⟩),(Sv ⟨#[]⟩),Zs,Zs,Zs,Zs] Z sz9 Z Z Z Z Z (by kernel_rfl)) Z ?_)))
 rintro _ _ _ - ⟨rfl,rfl⟩
 refine Ns (qM (pt E 0) c (qM (Iv b) y ?_))
 obtain ⟨j3,p3,h⟩:=bnd h
 refine We (Ca co105 (f_ref05_has_ok b (107:Int) _ j3 p3) (args2 Z Z)) Z ?_
 rintro _ y9 _ b8 ⟨_,⟨rfl,rfl⟩,rfl⟩
 refine WL.a0 ?_
 obtain ⟨⟨r,j4,j5,j6,j7⟩,p4,h⟩:=bnd h
 refine WL.f1 ?_
 have a:=a.mono (b7.trans b8)
 refine We (Cb co131 (f_ref05_Cursor_word_ok (⟨a0.B,(⟨i9,j0,j1,j2⟩:T_ref02_State)⟩:T_ref05_Cursor) j3 _ _ _ a (r,j4,j5,j6,j7) p4) (args2 Z Z)) Z ?_
 rintro _ z0 _ b9 ⟨_,⟨rfl,rfl⟩,rfl⟩
 refine WL.a1 (qu (pt o 11) (Fa fo58_11 f Z) (WL.f1 (We (Es (Sv r) [(Iv b),(Iv n),(Iv q),(Iv t),(Iv w),(Iv d),(Iv e),(Iv g),(Iv i),(Bv l),(Sv m),(Sv r),(Sv ⟨#[]⟩),(Sv ⟨#[]⟩),Zs,Zs,Zs,Zs] Z sz9 Z Z Z Z Z (by kernel_rfl)) Z ?_)))
 rintro _ _ _ - ⟨rfl,rfl⟩
 refine Ns (qM (pt E 0) c (qM (Iv b) y ?_))
 obtain ⟨j8,p5,h⟩:=bnd h
 refine We (Ca co105 (f_ref05_has_ok b (118:Int) _ j8 p5) (args2 Z Z)) Z ?_
 rintro _ z1 _ c0 ⟨_,⟨rfl,rfl⟩,rfl⟩
 refine WL.a0 ?_
 obtain ⟨⟨u,j9,k0,k1,k2⟩,p6,h⟩:=bnd h
 refine WL.f1 ?_
 have a:=a.mono (b9.trans c0)
 refine We (Cb co131 (f_ref05_Cursor_word_ok (⟨a0.B,(⟨j4,j5,j6,j7⟩:T_ref02_State)⟩:T_ref05_Cursor) j8 _ _ _ a (u,j9,k0,k1,k2) p6) (args2 Z Z)) Z ?_
 rintro _ z2 _ c1 ⟨_,⟨rfl,rfl⟩,rfl⟩
 refine WL.a1 (qu (pt o 12) (Fa fo58_12 f Z) (WL.f1 (We (Es (Sv u) [(Iv b),(Iv n),(Iv q),(Iv t),(Iv w),(Iv d),(Iv e),(Iv g),(Iv i),(Bv l),(Sv m),(Sv r),(Sv u),(Sv ⟨#[]⟩),Zs,Zs,Zs,Zs] Z sz9 Z Z Z Z Z (by kernel_rfl)) Z ?_)))
 rintro _ _ _ - ⟨rfl,rfl⟩
 refine Ns (qM (pt E 0) c (qM (Iv b) y ?_))
 obtain ⟨k3,p7,h⟩:=bnd h
 refine We (Ca co105 (f_ref05_has_ok b (114:Int) _ k3 p7) (args2 Z Z)) Z ?_
 rintro _ z3 _ c2 ⟨_,⟨rfl,rfl⟩,rfl⟩
 refine WL.a0 ?_
 obtain ⟨⟨z,k4,k5,k6,k7⟩,p8,h⟩:=bnd h
 refine WL.f1 ?_
 have a:=a.mono (c1.trans c2)
 refine We (Cb co131 (f_ref05_Cursor_word_ok (⟨a0.B,(⟨j9,k0,k1,k2⟩:T_ref02_State)⟩:T_ref05_Cursor) k3 _ _ _ a (z,k4,k5,k6,k7) p8) (args2 Z Z)) Z ?_
 rintro _ z4 _ c3 ⟨_,⟨rfl,rfl⟩,rfl⟩
 refine WL.a1 (qu (pt o 13) (Fa fo58_13 f Z) (WL.f1 (We (Es (Sv z) [(Iv b),(Iv n),(Iv q),(Iv t),(Iv w),(Iv d),(Iv e),(Iv g),(Iv i),(Bv l),(Sv m),(Sv r),(Sv u),(Sv z),Zs,Zs,Zs,Zs] Z sz9 Z Z Z Z Z (by kernel_rfl)) Z ?_)))
 rintro _ _ _ - ⟨rfl,rfl⟩
 refine Ns (qM (pt E 0) c (qM (Iv b) y ?_))
 obtain ⟨k8,p9,h⟩:=bnd h
 refine We (Ca co105 (f_ref05_has_ok b (105:Int) _ k8 p9) (args2 Z Z)) Z ?_
 rintro _ z5 _ c4 ⟨_,⟨rfl,rfl⟩,rfl⟩
 refine WL.a0 ?_
 obtain ⟨⟨k9,l0,l1,l2,l3⟩,q0,h⟩:=bnd h
 refine WL.f1 ?_
 have a:=a.mono (c3.trans c4)
 refine We (Cb co132 (f_ref05_Cursor_brokers_ok (⟨a0.B,(⟨k4,k5,k6,k7⟩:T_ref02_State)⟩:T_ref05_Cursor) k8 _ _ _ a (k9,l0,l1,l2,l3) q0) (args2 Z Z)) Z ?_
 rintro _ z6 _ c5 ⟨_,⟨k,d8,rfl,rfl,G⟩,rfl⟩
 refine WL.a2 (qu (pt o 14) (Fa fo58_14 f Z) (Wb (We (Es k [(Iv b),(Iv n),(Iv q),(Iv t),(Iv w),(Iv d),(Iv e),(Iv g),(Iv i),(Bv l),(Sv m),(Sv r),(Sv u),(Sv z),k,Zs,Zs,Zs] G.cells sz56 Z Z (Ow G) Z Z (by kernel_rfl)) Z ?_)))
 rintro _ _ _ - ⟨rfl,rfl⟩
 refine Ns (qM (pt E 0) c (qM (Iv b) y ?_))
 obtain ⟨l4,q1,h⟩:=bnd h
 refine We (Ca co105 (f_ref05_has_ok b (109:Int) _ l4 q1) (args2 Z Z)) Z ?_
 rintro _ z7 _ R ⟨_,⟨rfl,rfl⟩,rfl⟩
 refine WL.a0 ?_
 obtain ⟨⟨l5,l6,l7,l8,l9⟩,q2,h⟩:=bnd h
 refine WL.f1 ?_
 have a:=a.mono (c5.trans R)
 refine We (Cb co132 (f_ref05_Cursor_brokers_ok (⟨a0.B,(⟨l0,l1,l2,l3⟩:T_ref02_State)⟩:T_ref05_Cursor) l4 _ _ _ a (l5,l6,l7,l8,l9) q2) (args2 Z Z)) Z ?_
 rintro _ z8 _ S ⟨_,⟨s,d9,rfl,rfl,I⟩,rfl⟩
 refine WL.a2 (qu (pt o 15) (Fa fo58_15 f Z) (Wb (We (Es s [(Iv b),(Iv n),(Iv q),(Iv t),(Iv w),(Iv d),(Iv e),(Iv g),(Iv i),(Bv l),(Sv m),(Sv r),(Sv u),(Sv z),k,s,Zs,Zs] I.cells sz56 Z Z (Ow I) Z Z (by kernel_rfl)) Z ?_)))
 rintro _ _ _ - ⟨rfl,rfl⟩
 refine Ns (qM (pt E 0) c (qM (Iv b) y ?_))
 obtain ⟨m0,q3,h⟩:=bnd h
 refine We (Ca co105 (f_ref05_has_ok b (120:Int) _ m0 q3) (args2 Z Z)) Z ?_
 rintro _ z9 _ K ⟨_,⟨rfl,rfl⟩,rfl⟩
 refine WL.a0 ?_
 obtain ⟨⟨m1,m2,m3,m4,m5⟩,q4,h⟩:=bnd h
 refine WL.f1 ?_
 have a:=a.mono (S.trans K)
 refine We (Cb co132 (f_ref05_Cursor_brokers_ok (⟨a0.B,(⟨l6,l7,l8,l9⟩:T_ref02_State)⟩:T_ref05_Cursor) m0 _ _ _ a (m1,m2,m3,m4,m5) q4) (args2 Z Z)) Z ?_
 rintro _ A0 _ L ⟨_,⟨x,e1,rfl,rfl,J⟩,rfl⟩
 refine WL.a2 (qu (pt o 16) (Fa fo58_16 f Z) (Wb (We (Es x [(Iv b),(Iv n),(Iv q),(Iv t),(Iv w),(Iv d),(Iv e),(Iv g),(Iv i),(Bv l),(Sv m),(Sv r),(Sv u),(Sv z),k,s,x,Zs] J.cells sz56 Z Z (Ow J) Z Z (by kernel_rfl)) Z ?_)))
 rintro _ _ _ - ⟨rfl,rfl⟩
 refine Ns (qM (pt E 0) c (qM (Iv b) y ?_))
 obtain ⟨m6,q5,h⟩:=bnd h
 refine We (Ca co105 (f_ref05_has_ok b (120:Int) _ m6 q5) (args2 Z Z)) Z ?_
 rintro _ A1 _ C ⟨_,⟨rfl,rfl⟩,rfl⟩
 refine WL.a0 ?_
 obtain ⟨⟨m7,c8,e6,m8,m9⟩,q6,h⟩:=bnd h
 refine WL.f1 ?_
 have a:=a.mono (L.trans C)
 refine We (Cb co132 (f_ref05_Cursor_brokers_ok (⟨a0.B,(⟨m2,m3,m4,m5⟩:T_ref02_State)⟩:T_ref05_Cursor) m6 _ _ _ a (m7,c8,e6,m8,m9) q6) (args2 Z Z)) Z ?_
 rintro _ v5 _ D ⟨_,⟨A,e2,rfl,rfl,O⟩,rfl⟩
 refine WL.a2 (qu (pt o 17) (Fa fo58_17 f Z) (Wb (We (Es A [(Iv b),(Iv n),(Iv q),(Iv t),(Iv w),(Iv d),(Iv e),(Iv g),(Iv i),(Bv l),(Sv m),(Sv r),(Sv u),(Sv z),k,s,x,A] O.cells sz56 Z Z (Ow O) Z Z (by kernel_rfl)) Z ?_)))
 rintro _ _ _ - ⟨rfl,rfl⟩
 refine Nt ?_
 obtain ⟨n0,q7,h⟩:=bnd h
 refine Jf (fun(p_:(Int×ByteArray×Int)) ρ' M' H'=>match p_ with |(Y,e7,e8)=>v5.le M'∧[(o, .cells #[(Iv b),(Iv n),(Iv q),(Iv t),(Iv w),(Iv d),(Iv e),(Iv g),(Iv i),(Bv l),(Sv m),(Sv r),(Sv u),(Sv z),k,s,x,A] 58 (0,0))]::[(E, .cells #[Q,(Iv c8),(Iv Y),(Sv e7),(Iv e8)] 98 (0,0))]::[(c7, .cells z58_.toArray 58 (0,0))]::d8::d9::e1::e2::F=H'∧ρ' 0=(pt E 0)∧ρ' 2=(pt c7 0)∧ρ' 3=(pt o 0)) n0 ?_ ?_
 have h:=q7
 refine Sr (qM (pt E 0) c (qu (pt E 0) (Nk Z) (qu (pt E 1) (Fa fo98_1 Z Z) (qu (pt E 2) (Fa fo96_1 Z Z) (qu (Iv e6) (Lb 1 pl38 Z Z Z) (qu (Bv (decide (e6=0))) (eql Z Z) (Nt (Ch h Z (fun q8 h=> ?_) (fun q8 h=> ?_)))))))))
 refine Sr (qu (.agg #[(Iv b),(Iv n),(Iv q),(Iv t),(Iv w),(Iv d),(Iv e),(Iv g),(Iv i),(Bv l),(Sv m),(Sv r),(Sv u),(Sv z),k,s,x,A]) (La (cs:=[(Iv b),(Iv n),(Iv q),(Iv t),(Iv w),(Iv d),(Iv e),(Iv g),(Iv i),(Bv l),(Sv m),(Sv r),(Sv u),(Sv z),k,s,x,A]) 0 ag58 sz58 f Z Z) ?_)
 obtain ⟨U,q9,h⟩:=bnd h
 refine Wb (WL.f3 (WL.f4 (WL.f5 ?_)))
 have G:=G.mono (((((R.trans S).trans K).trans L).trans C).trans D)
 have I:=I.mono (((K.trans L).trans C).trans D)
 have J:=J.mono (C.trans D)
 refine We (EO.call4 co74 (Tri.lend G.excl fun w0_ H0_ hs0_=>(Tri.lend I.excl fun w1_ H1_ hs1_=>(Tri.lend J.excl fun w2_ H2_ hs2_=>(Tri.lend O.excl fun w3_ H3_ hs3_=>(f_ref05_Check_ok (⟨b,n,q,t,w,d,e,g,i,l,m,r,u,z,k9,l5,m1,m7⟩:T_api_Record) _ _ _ _ _ ((((G.rs hs0_).mono (IM.le_add _ _)).mono (IM.le_add _ _)).mono (IM.le_add _ _)) ((((I.mono (IM.le_add _ _)).rs hs1_).mono (IM.le_add _ _)).mono (IM.le_add _ _)) ((((J.mono (IM.le_add _ _)).mono (IM.le_add _ _)).rs hs2_).mono (IM.le_add _ _)) ((((O.mono (IM.le_add _ _)).mono (IM.le_add _ _)).mono (IM.le_add _ _)).rs hs3_) U q9))))) (args1 Z)) Z ?_
 rintro _ _ _ c6 ⟨_,⟨w6,w7,v9,rfl,rfl,⟨w8,w9,w0,rfl,rfl,⟨x0,x1,w1,rfl,rfl,⟨x2,x3,w2,rfl,rfl,⟨rfl,rfl⟩⟩⟩⟩⟩,rfl⟩
 refine WL.a4 (We (Al ze40 Z) Z ?_)
 rintro _ _ _ - ⟨rfl,n1,rfl,rfl⟩
 refine We (Sg (v:=(a40_ U)) (vl:=(l40 U)) (arr':=(l40 U)) Z sz40 Z Z (onb Z) Z Z Z) Z ?_
 rintro _ _ _ - ⟨rfl,rfl⟩
 refine Ns (qu (pt n1 2) (Fa fo40_2 Z Z) (qu (Iv U.Code) (Lb 0 pl38 Z Z Z) (qu (Bv (decide (U.Code≠0))) (neq Z Z) (Nt (Ch h Z (fun r0 h=> ?_) (fun r0 h=> ?_))))))
 refine Cg (qM (pt E 0) c (qu (pt n1 2) (Fa fo40_2 Z Z) (qu (Iv U.Code) (Lb 0 pl38 Z Z Z) ?_)))
 obtain ⟨⟨v6,v7,v8⟩,r1,h⟩:=bnd h
 refine WL.f6 ?_
 have a:=a.mono (D.trans c6)
 refine We (Cb co88 (f_ref05_Cursor_Refuse_ok (⟨a0.B,(⟨c8,e6,m8,m9⟩:T_ref02_State)⟩:T_ref05_Cursor) (⟨#[114,101,99,111,114,100]⟩:ByteArray) U.Code _ _ _ a (v6,v7,v8) r1) (args3 Z Z Z)) Z ?_
 rintro _ A2 _ g6 ⟨_,⟨rfl,rfl⟩,rfl⟩
 refine WL.a1 (Wz (Qa (Dr (WQ.f4 (WQ.f4 (WQ.f4 (WQ.f4 (WQ.f6 (WQ.f5 (WQ.f6 ?_))))))))))
 obtain rfl:=oi h
 exact Tj ⟨(c6.trans g6),Z,c,X,f⟩
 refine Ck (Dr (WQ.f3 (WQ.f3 (WQ.f3 (WQ.f3 (WQ.f6 (WQ.f6 (WQ.f6 ?_))))))))
 obtain rfl:=oi h
 exact Tj ⟨c6,Z,c,X,f⟩
 refine Ck (Qb (WQ.f3 (WQ.f4 (WQ.f5 (WQ.f6 (WQ.f6 (WQ.f6 ?_)))))))
 obtain rfl:=oi h
 exact Tj ⟨lr,Z,c,X,f⟩
 obtain ⟨Y,e7,e8⟩:=n0
 rintro A3 A4 A5 ⟨P,rfl,g3,T,g4⟩
 refine Cs (Sr (qM (pt E 0) g3 (qu (pt E 0) (Nk Z) (qu (pt E 1) (Fa fo98_1 Z Z) (qu (pt E 2) (Fa fo96_1 Z Z) (qu (Iv Y) (Lb 1 pl38 Z Z Z) (qu (Bv (decide (Y≠0))) (neq Z Z) (Nt (Ch h Z (fun r2 h=> ?_) (fun r2 h=> ?_))))))))))
 refine Sr (qu (.agg z58_.toArray) (Bl (cl:=z58_) ze58 fp58 Pz Z) (Wb (We (Sg (v:=(.agg z58_.toArray)) (vl:=z58_) (arr':=z58_) Z sz58 T Z (onb Z) Z Z (by kernel_rfl)) Z ?_)))
 rintro _ _ _ - ⟨rfl,rfl⟩
 refine Nt (Cr (Tr (WQ.e0 (WQ.e0 (WQ.e0 (WQ.e0 (WQ.f5 (Dr (WQ.f6 (Dr (WQ.f6 ?_)))))))))))
 exact Dr (WQ.f6 (Dr (WQ.f6 (Dr (Qa (Qb (WQ.f3 (WQ.f5 (WQ.f5 (Rd h [[(E, .cells #[Q,(Iv c8),(Iv Y),(Sv e7),(Iv e8)] 98 (0,0))],[],[],[],[]] (fun _ hs=>hs.drop) (resultsL1 Z (Rc (cs:=z58_) 0 ag58 sz58 T Z Z)) (((((((((((((((((((((((((((((((((((a3.trans d0).trans d1).trans d2).trans d3).trans d4).trans d5).trans d6).trans d7).trans a6).trans a7).trans a8).trans a9).trans b0).trans b1).trans b2).trans b3).trans V).trans b5).trans b6).trans b7).trans b8).trans b9).trans c0).trans c1).trans c2).trans c3).trans c4).trans c5).trans R).trans S).trans K).trans L).trans C).trans D).trans P) ⟨Zs,[],Zs,[],Zs,[],Zs,[],Z,Z,(OwnS.nil _ _),(OwnS.nil _ _),(OwnS.nil _ _),(OwnS.nil _ _)⟩))))))))))
 refine Ck (Tc (Sr (qu (.agg #[(Iv b),(Iv n),(Iv q),(Iv t),(Iv w),(Iv d),(Iv e),(Iv g),(Iv i),(Bv l),(Sv m),(Sv r),(Sv u),(Sv z),k,s,x,A]) (La (cs:=[(Iv b),(Iv n),(Iv q),(Iv t),(Iv w),(Iv d),(Iv e),(Iv g),(Iv i),(Bv l),(Sv m),(Sv r),(Sv u),(Sv z),k,s,x,A]) 0 ag58 sz58 g4 Z Z) (Wb ?_))))
 have G:=G.mono ((((((R.trans S).trans K).trans L).trans C).trans D).trans P)
 have I:=I.mono ((((K.trans L).trans C).trans D).trans P)
 have J:=J.mono ((C.trans D).trans P)
 have O:=O.mono P
 refine We (Sg (v:=(.agg #[(Iv b),(Iv n),(Iv q),(Iv t),(Iv w),(Iv d),(Iv e),(Iv g),(Iv i),(Bv l),(Sv m),(Sv r),(Sv u),(Sv z),k,s,x,A])) (vl:=[(Iv b),(Iv n),(Iv q),(Iv t),(Iv w),(Iv d),(Iv e),(Iv g),(Iv i),(Bv l),(Sv m),(Sv r),(Sv u),(Sv z),k,s,x,A]) (arr':=[(Iv b),(Iv n),(Iv q),(Iv t),(Iv w),(Iv d),(Iv e),(Iv g),(Iv i),(Bv l),(Sv m),(Sv r),(Sv u),(Sv z),k,s,x,A]) Z sz58 T Z (onesOf (Oc Z (Oc Z (Oc Z (Oc Z (Oc Z (Oc Z (Oc Z (Oc Z (Oc Z (Oc Z (Oc Z (Oc Z (Oc Z (Oc Z (Oc (Ow G) (Oc (Ow I) (Oc (Ow J) (Oc (Ow O) Oz))))))))))))))))))) Z Z (by kernel_rfl)) Z ?_
 rintro _ _ _ - ⟨rfl,rfl⟩
 exact Nt (Cr (Qa (Dr (Rd h [[(E, .cells #[Q,(Iv c8),(Iv Y),(Sv e7),(Iv e8)] 98 (0,0))],d8,d9,e1,e2] (fun _ hs=>hs.drop) (resultsL1 Z (Rc (cs:=[(Iv b),(Iv n),(Iv q),(Iv t),(Iv w),(Iv d),(Iv e),(Iv g),(Iv i),(Bv l),(Sv m),(Sv r),(Sv u),(Sv z),k,s,x,A]) 0 ag58 sz58 T Z Z)) (((((((((((((((((((((((((((((((((((a3.trans d0).trans d1).trans d2).trans d3).trans d4).trans d5).trans d6).trans d7).trans a6).trans a7).trans a8).trans a9).trans b0).trans b1).trans b2).trans b3).trans V).trans b5).trans b6).trans b7).trans b8).trans b9).trans c0).trans c1).trans c2).trans c3).trans c4).trans c5).trans R).trans S).trans K).trans L).trans C).trans D).trans P) ⟨k,d8,s,d9,x,e1,A,e2,Z,Z,G,I,J,O⟩))))
noncomputable def f_ref06_Next_l0 (a0:T_ref05_Cursor) (i:Int) (s_:(Int×(List T_api_Record)×Int×Int×ByteArray×Int)):Option ((Int×(List T_api_Record)×Int×Int×ByteArray×Int)⊕(Int×Int×ByteArray×Int×(List T_api_Record))):=
 match s_ with
 |(c,a,d,b,e,f)=>
 (((if(decide (c<i))=true then(some (decide (b=(0:Int))))else(some false)):Option Bool).bind fun j=>(if j=true then((f_ref05_Read (⟨a0.B,(⟨d,b,e,f⟩:T_ref02_State)⟩:T_ref05_Cursor)).bind fun(g,k,l,m,n)=>(grd (a.length+[g].length≤274877906944) (some (inl (i64.wrap (c+(1:Int)),a++[g],k,l,m,n)))))else(some (inr (d,b,e,f,a)))))
noncomputable def f_ref06_Next (a0:T_ref05_Cursor):Option (T_api_Batch×Int×Int×ByteArray×Int):=
 ((f_ref05_Cursor_Int a0 (1073741824:Int)).bind fun(f,r,s,t,u)=>((f_ref05_Cursor_Int (⟨a0.B,(⟨r,s,t,u⟩:T_ref02_State)⟩:T_ref05_Cursor) (1073741824:Int)).bind fun(v,w,x,y,z)=>((f_ref05_Cursor_Int (⟨a0.B,(⟨w,x,y,z⟩:T_ref02_State)⟩:T_ref05_Cursor) (64:Int)).bind fun(g,i,e,j,k)=>(((((if(decide (e=(0:Int)))=true then(if(decide (f<(1:Int)))=true then(some true)else(some (decide (g<(1:Int)))))else(some false)):Option Bool).bind fun A=>(if A=true then((f_ref05_Cursor_Refuse (⟨a0.B,(⟨i,e,j,k⟩:T_ref02_State)⟩:T_ref05_Cursor) (⟨#[98,97,116,99,104]⟩:ByteArray) (2:Int)).bind fun(C,D,E)=>(some (C,D,E)))else(some (e,j,k)))):Option (Int×ByteArray×Int)).bind fun(G,I,J)=>((((iter (f_ref06_Next_l0 a0 g) ((0:Int),[],i,G,I,J)).bind (fun(K,L,N,O,P)=>(some (K,L,N,O,P)))):Option (Int×Int×ByteArray×Int×(List T_api_Record))).bind fun(b,l,m,n,Q)=>(((if(decide ((16384:Int)<(i64.wrap (b - a0.S.At))))=true then((f_ref05_Cursor_Refuse (⟨a0.B,(⟨b,l,m,n⟩:T_ref02_State)⟩:T_ref05_Cursor) (⟨#[98,97,116,99,104]⟩:ByteArray) (6:Int)).bind fun(o,p,q)=>(some (o,p,q)))else(some (l,m,n))):Option (Int×ByteArray×Int)).bind fun(a,c,d)=>(if(decide (a≠(0:Int)))=true then(some ((⟨(0:Int),(0:Int),[]⟩:T_api_Batch),b,a,c,d))else(some ((⟨f,v,Q⟩:T_api_Batch),b,a,c,d)))))))))
def f_ref06_Next_post (a0:T_ref05_Cursor) (c:Value) (e:Nat):(T_api_Batch×Int×Int×ByteArray×Int)→Value→IM→HL→Prop:=
 fun(p_:(T_api_Batch×Int×Int×ByteArray×Int)) (v:Value) (M':IM) (H':HL)=>match p_ with |(d,f,g,i,j)=>∃ a b,(.agg #[(.int .i64 d.Term),(.int .i64 d.Base),a])=v∧H'=[[(e, .cells #[c,(.int .i64 f),(.int .i64 g),(.string i),(.int .i64 j)] 98 (0,0))],b]∧OwnS kd_api_Record M' a d.Records b
theorem f_ref06_Next_ok (a0:T_ref05_Cursor) (M:IM) (j:Value) (f:Nat) (e:RS (Kd.int .u8) M j a0.B) (res:(T_api_Batch×Int×Int×ByteArray×Int)) (h:f_ref06_Next a0=some res):
 Tri prog 62 #[(pt f 0)] M [[(f, .cells (l98 a0 j).toArray 98 (0,0))]] (f_ref06_Next_post a0 j f res):=by
 unfold f_ref06_Next at h
 refine Te func62 Z Z ?_
 intro F ρ hρ
 refine Sr (We (Al ze55 Z) Z ?_)
 rintro _ _ _ - ⟨rfl,A,rfl,rfl⟩
 refine Ns (qM (pt f 0) (hρ 0) (qu (pt f 0) (Nk Z) (qu (pt f 1) (Fa fo98_1 Z Z) (qu (pt f 1) (Fa fo96_0 Z Z) (qu (Iv a0.S.At) (Lb 1 pl3 Z Z Z) (qa (Iv a0.S.At) (Ns (qu (.agg #[(Iv 0),(Iv 0),Zs]) (Bl (cl:=[(Iv 0),(Iv 0),Zs]) ze55 fp55 Pz Z) (We (Al ze55 Z) Z ?_)))))))))
 rintro _ _ _ - ⟨rfl,k,rfl,rfl⟩
 refine We (Sg (v:=(.agg #[(Iv 0),(Iv 0),Zs])) (vl:=[(Iv 0),(Iv 0),Zs]) (arr':=[(Iv 0),(Iv 0),Zs]) Z sz55 Z Z (onb Z) Z Z Z) Z ?_
 rintro _ _ _ - ⟨rfl,rfl⟩
 refine Ns (qM (pt f 0) (hρ 0) ?_)
 obtain ⟨⟨g,h6,h7,h8,h9⟩,i0,h⟩:=bnd h
 refine Wb (We (Cb co58 (f_ref05_Cursor_Int_ok a0 (1073741824:Int) _ _ _ e (g,h6,h7,h8,h9) i0) (args2 Z Z)) Z ?_)
 rintro _ m4 _ a4 ⟨_,⟨rfl,rfl⟩,rfl⟩
 refine WL.a1 (qu (pt k 0) (Fa fo55_0 Z Z) (WL.f1 (We (Es (Iv g) [(Iv g),(Iv 0),Zs] Z sz3 Z Z Z Z Z Z) Z ?_)))
 rintro _ _ _ - ⟨rfl,rfl⟩
 refine Ns (qM (pt f 0) (hρ 0) ?_)
 obtain ⟨⟨m,i1,i2,i3,i4⟩,i5,h⟩:=bnd h
 refine WL.f1 ?_
 have e:=e.mono a4
 refine We (Cb co58 (f_ref05_Cursor_Int_ok (⟨a0.B,(⟨h6,h7,h8,h9⟩:T_ref02_State)⟩:T_ref05_Cursor) (1073741824:Int) _ _ _ e (m,i1,i2,i3,i4) i5) (args2 Z Z)) Z ?_
 rintro _ m5 _ a6 ⟨_,⟨rfl,rfl⟩,rfl⟩
 refine WL.a1 (qu (pt k 1) (Fa fo55_1 Z Z) (WL.f1 (We (Es (Iv m) [(Iv g),(Iv m),Zs] Z sz3 Z Z Z Z Z Z) Z ?_)))
 rintro _ _ _ - ⟨rfl,rfl⟩
 refine Ns (qM (pt f 0) (hρ 0) ?_)
 obtain ⟨⟨z,e4,c7,g1,g2⟩,i6,h⟩:=bnd h
 refine WL.f1 ?_
 have e:=e.mono a6
 refine We (Cb co58 (f_ref05_Cursor_Int_ok (⟨a0.B,(⟨i1,i2,i3,i4⟩:T_ref02_State)⟩:T_ref05_Cursor) (64:Int) _ _ _ e (z,e4,c7,g1,g2) i6) (args2 Z Z)) Z ?_
 rintro _ i7 _ E ⟨_,⟨rfl,rfl⟩,rfl⟩
 refine WL.a1 (qa (Iv z) (Nt ?_))
 obtain ⟨i8,i9,h⟩:=bnd h
 refine Jf (fun(p_:(Int×ByteArray×Int)) ρ' M' H'=>match p_ with |(j0,j1,j2)=>i7.le M'∧[(f, .cells #[j,(Iv e4),(Iv j0),(Sv j1),(Iv j2)] 98 (0,0))]::[(k, .cells #[(Iv g),(Iv m),Zs] 55 (0,0))]::[(A, .cells #[(Iv 0),(Iv 0),Zs] 55 (0,0))]::F=H'∧ρ' 0=(pt f 0)∧ρ' 2=(pt A 0)∧ρ' 3=(Iv a0.S.At)∧ρ' 4=(pt k 0)∧ρ' 5=(Iv z)) i8 ?_ ?_
 have h:=i9
 obtain ⟨g3,j3,h⟩:=bnd h
 refine Jf (fun(g3:Bool) ρ' M' H'=>i7.le M'∧[(f, .cells #[j,(Iv e4),(Iv c7),(Sv g1),(Iv g2)] 98 (0,0))]::[(k, .cells #[(Iv g),(Iv m),Zs] 55 (0,0))]::[(A, .cells #[(Iv 0),(Iv 0),Zs] 55 (0,0))]::F=H'∧ρ' 0=(pt f 0)∧ρ' 2=(pt A 0)∧ρ' 3=(Iv a0.S.At)∧ρ' 4=(pt k 0)∧ρ' 5=(Iv z)∧ρ' 36=(Bv g3)) g3 ?_ ?_
 have h:=j3
 refine Cg (qM (pt f 0) (hρ 0) (qu (pt f 0) (Nk Z) (qu (pt f 1) (Fa fo98_1 Z Z) (qu (pt f 2) (Fa fo96_1 Z Z) (qu (Iv c7) (Lb 0 pl38 Z Z Z) (qu (Bv (decide (c7=0))) (eql Z Z) (qm (Bv (decide (c7=0))) ?_)))))))
 rcases Bi h with⟨i,h⟩ |⟨i,h⟩
 refine qo 28 i (pt k 0) (Fa fo55_0 Z Z) (qo 28 i (Iv g) (Lb 1 pl3 Z Z Z) (qo 28 i (Bv (decide (g<1))) (lss Z Z) (On 28 Z Z i (qm (Bv (decide (g<1))) ?_))))
 rcases Bi h with⟨J,h⟩ |⟨J,h⟩
 iterate 2 refine Of 32 Z Z J Z ?_
 refine qo 28 i (Bv true) (Pt Z J Z) (qu (Bv true) (Pt Z i Z) (Wz ?_))
 obtain rfl:=oi h
 exact Tj ⟨lr,Z,(hρ 0),Z,Z,Z,Z,Z⟩
 refine On 32 Z Z J (qm (Iv z) (qo 32 J (Bv (decide (z<1))) (lss Z Z) (qo 28 i (Bv (decide (z<1))) (Pf Z J Z) (qu (Bv (decide (z<1))) (Pt Z i Z) (Wz ?_)))))
 obtain rfl:=oi h
 exact Tj ⟨lr,Z,(hρ 0),Z,Z,Z,Z,Z⟩
 iterate 4 refine Of 28 Z Z i Z ?_
 refine WL.offU 32 Z Z Z (WL.offU 32 Z Z Z (Of 28 Z Z i Z (qu (Bv false) (Pf Z i Z) (Wz ?_))))
 obtain rfl:=oi h
 exact Tj ⟨lr,Z,(hρ 0),Z,Z,Z,Z,Z⟩
 rintro m6 m7 m8 ⟨a7,rfl,P,b3,b4,b5,b6,c8⟩
 refine Ch h c8 (fun j4 h=> ?_) (fun j4 h=> ?_)
 refine Cg (qM (pt f 0) P ?_)
 obtain ⟨⟨l4,l5,l6⟩,j5,h⟩:=bnd h
 have e:=e.mono (E.trans a7)
 refine We (Cb co88 (f_ref05_Cursor_Refuse_ok (⟨a0.B,(⟨e4,c7,g1,g2⟩:T_ref02_State)⟩:T_ref05_Cursor) (⟨#[98,97,116,99,104]⟩:ByteArray) (2:Int) _ _ _ e (l4,l5,l6) j5) (args3 Z Z Z)) Z ?_
 rintro _ m9 _ g4 ⟨_,⟨rfl,rfl⟩,rfl⟩
 refine WL.a1 (Wz ?_)
 obtain rfl:=oi h
 exact Tj ⟨(a7.trans g4),Z,P,b3,b4,b5,b6⟩
 refine Ck ?_
 obtain rfl:=oi h
 exact Tj ⟨a7,Z,P,b3,b4,b5,b6⟩
 obtain ⟨j0,j1,j2⟩:=i8
 rintro n0 j6 n1 ⟨Q,rfl,e5,e6,e7,e8,e9⟩
 obtain ⟨j7,j8,h⟩:=bnd h
 refine Jf (fun(p_:(Int×Int×ByteArray×Int×(List T_api_Record))) ρ' M' H'=>match p_ with |(R,g5,g6,g7,j9)=>∃ l K,j6.le M'∧[(f, .cells #[j,(Iv R),(Iv g5),(Sv g6),(Iv g7)] 98 (0,0))]::[(k, .cells #[(Iv g),(Iv m),l] 55 (0,0))]::[(A, .cells #[(Iv 0),(Iv 0),Zs] 55 (0,0))]::K::F=H'∧ρ' 0=(pt f 0)∧ρ' 2=(pt A 0)∧ρ' 3=(Iv a0.S.At)∧ρ' 4=(pt k 0)∧OwnS kd_api_Record M' l j9 K) j7 ?_ ?_
 have h:=j8
 refine Sr (qa (Iv 0) (Nt (Bk (WC.e0 (WC.f3 (WC.f3 (WC.f3 ?_)))))))
 obtain ⟨n2,k0,k1⟩:=bnd h
 clear h
 refine WC.loop k0 (fun(p_:(Int×(List T_api_Record)×Int×Int×ByteArray×Int)) ρ' M' H'=>match p_ with |(I,c9,d0,Y,d1,d2)=>∃ L a2,j6.le M'∧[(f, .cells #[j,(Iv d0),(Iv Y),(Sv d1),(Iv d2)] 98 (0,0))]::[(k, .cells #[(Iv g),(Iv m),L] 55 (0,0))]::[(A, .cells #[(Iv 0),(Iv 0),Zs] 55 (0,0))]::a2::F=H'∧ρ' 0=(pt f 0)∧ρ' 2=(pt A 0)∧ρ' 3=(Iv a0.S.At)∧ρ' 4=(pt k 0)∧ρ' 5=(Iv z)∧ρ' 6=(Iv I)∧OwnS kd_api_Record M' L c9 a2) ?_ ?_
 exact⟨Zs,[],lr,Z,e5,e6,e7,e8,e9,Z,(OwnS.nil _ _)⟩
 rintro ⟨I,c9,d0,Y,d1,d2⟩ n3 n4 l7 n5 h ⟨L,a2,a8,rfl,T,b7,b8,b9,U,V,N⟩
 unfold f_ref06_Next_l0 at h
 refine Cs ?_
 obtain ⟨g8,k2,h⟩:=bnd h
 refine Jf (fun(g8:Bool) ρ' M' H'=>l7.le M'∧[(f, .cells #[j,(Iv d0),(Iv Y),(Sv d1),(Iv d2)] 98 (0,0))]::[(k, .cells #[(Iv g),(Iv m),L] 55 (0,0))]::[(A, .cells #[(Iv 0),(Iv 0),Zs] 55 (0,0))]::a2::F=H'∧ρ' 0=(pt f 0)∧ρ' 2=(pt A 0)∧ρ' 3=(Iv a0.S.At)∧ρ' 4=(pt k 0)∧ρ' 5=(Iv z)∧ρ' 6=(Iv I)∧ρ' 49=(Bv g8)) g8 ?_ ?_
 have h:=k2
 refine Cg (qM (Iv I) V (qM (Iv z) U (qu (Bv (decide (I<z))) (lss Z Z) (qm (Bv (decide (I<z))) ?_))))
 rcases Bi h with⟨n,h⟩ |⟨n,h⟩
 refine On 42 Z Z n (qM (pt f 0) T (qo 42 n (pt f 0) (Nk Z) (qo 42 n (pt f 1) (Fa fo98_1 Z Z) (qo 42 n (pt f 2) (Fa fo96_1 Z Z) (qo 42 n (Iv Y) (Lb 0 pl38 Z Z Z) (qo 42 n (Bv (decide (Y=0))) (eql Z Z) (qu (Bv (decide (Y=0))) (Pt Z n Z) (Wz ?_))))))))
 obtain rfl:=oi h
 exact Tj ⟨lr,Z,T,b7,b8,b9,U,V,Z⟩
 iterate 6 refine Of 42 Z Z n Z ?_
 refine qu (Bv false) (Pf Z n Z) (Wz ?_)
 obtain rfl:=oi h
 exact Tj ⟨lr,Z,T,b7,b8,b9,U,V,Z⟩
 rintro n6 n7 n8 ⟨G,rfl,W,c0,c1,C,f0,f2,d3⟩
 refine Ch h d3 (fun k3 h=> ?_) (fun k3 h=> ?_)
 refine Ck (Tc (Cs (Bk (Sr (qM (pt f 0) W ?_)))))
 obtain ⟨⟨o,k4,k5,k6,k7⟩,k8,h⟩:=bnd h
 have e:=e.mono (((E.trans Q).trans a8).trans G)
 refine We (Cb co89 (f_ref05_Read_ok (⟨a0.B,(⟨d0,Y,d1,d2⟩:T_ref02_State)⟩:T_ref05_Cursor) _ _ _ e (o,k4,k5,k6,k7) k8) (args1 Z)) Z ?_
 rintro _ l8 _ d4 ⟨_,⟨a,d5,b,d6,c,d7,d,d8,rfl,rfl,a3,p,q,r⟩,rfl⟩
 refine WL.a5 (We (Al ze58 Z) Z ?_)
 rintro _ _ _ - ⟨rfl,n9,rfl,rfl⟩
 refine We (Sg (v:=(a58_ o a b c d)) (vl:=(l58 o a b c d)) (arr':=(l58 o a b c d)) Z sz58 Z Z (onesOf (Oc Z (Oc Z (Oc Z (Oc Z (Oc Z (Oc Z (Oc Z (Oc Z (Oc Z (Oc Z (Oc Z (Oc Z (Oc Z (Oc Z (Oc (Ow a3) (Oc (Ow p) (Oc (Ow q) (Oc (Ow r) Oz))))))))))))))))))) Z Z (by kernel_rfl)) Z ?_
 rintro _ _ _ - ⟨rfl,rfl⟩
 refine Nt (Cg (qu (pt k 2) (Fa fo55_2 C Z) (qu L (Lb 6 pl53 Z Z Z) (qu (a58_ o a b c d) (La (cs:=(l58 o a b c d)) 0 ag58 sz58 Z Z Z) (Wb (WL.know (fun _ hs=>a3.rs hs) (fun a9=> ?_)))))))
 refine WL.freeze (fun s=> ?_)
 refine Wb ?_
 have p:=p.mono s
 refine WL.know (fun _ hs=>p.rs hs) (fun b0=> ?_)
 refine WL.freeze (fun t=> ?_)
 refine Wb ?_
 have q:=q.mono (s.trans t)
 refine WL.know (fun _ hs=>q.rs hs) (fun b1=> ?_)
 refine WL.freeze (fun u=> ?_)
 refine Wb ?_
 have r:=r.mono ((s.trans t).trans u)
 refine WL.know (fun _ hs=>r.rs hs) (fun g9=> ?_)
 refine WL.freeze (fun w=> ?_)
 refine We (buildSliceL (cl:=(l58 o a b c d)) underlying53 iz58 Z (Pc (a58_ o a b c d) Z Z Pz) Z) Z ?_
 rintro _ _ _ - ⟨rfl,f8,rfl,rfl⟩
 have a9:=a9.mono ((t.trans u).trans w)
 have b0:=b0.mono (u.trans w)
 have b1:=b1.mono w
 have k9:OwnS kd_api_Record ((((l8.add d5).add d6).add d7).add d8) (.slice (some ⟨f8,0,none⟩) 1 1) [o] [(f8, .cells (l58 o a b c d).toArray 58 (0,0))]:=OwnS.rows (css:=[(l58 o a b c d)]) (Rows.cons (kd_api_Record_mk (x:=o) a9 b0 b1 g9) Rows.nil) Z Z
 obtain ⟨h0,h⟩:=grd_i h
 refine WL.f5 ?_
 have N:=N.mono (((((G.trans d4).trans s).trans t).trans u).trans w)
 refine We (append (dd:=kd_api_Record) (xs:=c9) (ys:=[o]) underlying53 underlying53 in58 Z (appB (by decide) h0) (by decide) Z Z N (k9.src 1 Z)) Z ?_
 rintro d9 _ _ - ⟨rfl,l0,rfl,e1⟩
 refine qu (pt k 2) (Fa fo55_2 C Z) (WL.f4 (We (Es d9 [(Iv g),(Iv m),d9] e1.cells sz53 Z Z (Ow e1) Z Z Z) Z ?_))
 rintro _ _ _ - ⟨rfl,rfl⟩
 refine Wz (Bn (Tc (Cg (qM (Iv I) f2 (qu (Iv (i64.wrap (I+1))) (add Z Z) (qa (Iv (i64.wrap (I+1))) (Wz (Qb (Dr (Qb (Dr ?_)))))))))))
 exact Qa (WQ.f3 (Qb (WQ.f3 (WQ.again (i64.wrap (I+1),c9++[o],k4,k5,k6,k7) (oi h).symm ⟨d9,l0,((((((a8.trans G).trans d4).trans s).trans t).trans u).trans w),Z,W,c0,c1,C,f0,Z,e1⟩))))
 refine WC.exit (WQ.thenE (WQ.leaveE (d0,Y,d1,d2,c9) (oi h).symm (fun h1=> ?_)))
 subst h1
 have h:=k1
 refine WQ.blockH ?_
 obtain rfl:=oi h
 refine Tj ?_
 have N:=N.mono G
 exact⟨L,a2,(a8.trans G),Z,W,c0,c1,C,N⟩
 obtain ⟨R,g5,g6,g7,j9⟩:=j7
 rintro o0 l9 o1 ⟨l,K,b2,rfl,D,c2,f6,c3,c4⟩
 obtain ⟨f9,h2,h⟩:=bnd h
 refine Jf (fun(p_:(Int×ByteArray×Int)) ρ' M' H'=>match p_ with |(O,c5,c6)=>l9.le M'∧[(f, .cells #[j,(Iv R),(Iv O),(Sv c5),(Iv c6)] 98 (0,0))]::[(k, .cells #[(Iv g),(Iv m),l] 55 (0,0))]::[(A, .cells #[(Iv 0),(Iv 0),Zs] 55 (0,0))]::K::F=H'∧ρ' 0=(pt f 0)∧ρ' 2=(pt A 0)∧ρ' 4=(pt k 0)) f9 ?_ ?_
 have h:=h2
 refine Sr (qM (pt f 0) D (qu (pt f 0) (Nk Z) (qu (pt f 1) (Fa fo98_1 Z Z) (qu (pt f 1) (Fa fo96_0 Z Z) (qu (Iv R) (Lb 0 pl3 Z Z Z) (qM (Iv a0.S.At) f6 (qu (Iv (i64.wrap (R - a0.S.At))) (PO.sub Z Z) (qu (Bv (decide ((16384:Int)<(i64.wrap (R - a0.S.At))))) (gtr Z Z) (Nt (Ch h Z (fun h3 h=> ?_) (fun h3 h=> ?_)))))))))))
 refine Cg (qM (pt f 0) D ?_)
 obtain ⟨⟨l1,l2,l3⟩,h4,h⟩:=bnd h
 have e:=e.mono ((E.trans Q).trans b2)
 refine We (Cb co88 (f_ref05_Cursor_Refuse_ok (⟨a0.B,(⟨R,g5,g6,g7⟩:T_ref02_State)⟩:T_ref05_Cursor) (⟨#[98,97,116,99,104]⟩:ByteArray) (6:Int) _ _ _ e (l1,l2,l3) h4) (args3 Z Z Z)) Z ?_
 rintro _ m0 _ f7 ⟨_,⟨rfl,rfl⟩,rfl⟩
 refine WL.a1 (Wz ?_)
 obtain rfl:=oi h
 exact Tj ⟨f7,Z,D,c2,c3⟩
 refine Ck ?_
 obtain rfl:=oi h
 exact Tj ⟨lr,Z,D,c2,c3⟩
 obtain ⟨O,c5,c6⟩:=f9
 rintro m1 m2 m3 ⟨X,rfl,e2,y,e3⟩
 refine Cs (Sr (qM (pt f 0) e2 (qu (pt f 0) (Nk Z) (qu (pt f 1) (Fa fo98_1 Z Z) (qu (pt f 2) (Fa fo96_1 Z Z) (qu (Iv O) (Lb 0 pl38 Z Z Z) (qu (Bv (decide (O≠0))) (neq Z Z) (Nt (Ch h Z (fun h5 h=> ?_) (fun h5 h=> ?_))))))))))
 refine Sr (qu (.agg #[(Iv 0),(Iv 0),Zs]) (Bl (cl:=[(Iv 0),(Iv 0),Zs]) ze55 fp55 Pz Z) (Wb (We (Sg (v:=(.agg #[(Iv 0),(Iv 0),Zs])) (vl:=[(Iv 0),(Iv 0),Zs]) (arr':=[(Iv 0),(Iv 0),Zs]) Z sz55 y Z (onb Z) Z Z Z) Z ?_)))
 rintro _ _ _ - ⟨rfl,rfl⟩
 exact Nt (Cr (Tr (WQ.e0 (WQ.f3 (Dr (WQ.f3 (Dr (Qb (Qb (Rd h [[(f, .cells #[j,(Iv R),(Iv O),(Sv c5),(Iv c6)] 98 (0,0))],[]] (fun _ hs=>hs.drop) (resultsL1 Z (Rc (cs:=[(Iv 0),(Iv 0),Zs]) 0 ag55 sz55 y Z Z)) (((((a4.trans a6).trans E).trans Q).trans b2).trans X) ⟨Zs,[],Z,Z,(OwnS.nil _ _)⟩))))))))))
 refine Ck (Tc (Sr (qu (.agg #[(Iv g),(Iv m),l]) (La (cs:=[(Iv g),(Iv m),l]) 1 ag55 sz55 e3 Z Z) (Wb ?_))))
 have c4:=c4.mono X
 refine We (Sg (v:=(.agg #[(Iv g),(Iv m),l])) (vl:=[(Iv g),(Iv m),l]) (arr':=[(Iv g),(Iv m),l]) Z sz55 y Z (onesOf (Oc Z (Oc Z (Oc (Ow c4) Oz)))) Z Z Z) Z ?_
 rintro _ _ _ - ⟨rfl,rfl⟩
 exact Nt (Cr (Qb (Dr (Rd h [[(f, .cells #[j,(Iv R),(Iv O),(Sv c5),(Iv c6)] 98 (0,0))],K] (fun _ hs=>hs.drop) (resultsL1 Z (Rc (cs:=[(Iv g),(Iv m),l]) 0 ag55 sz55 y Z Z)) (((((a4.trans a6).trans E).trans Q).trans b2).trans X) ⟨l,K,Z,Z,c4⟩))))
noncomputable def f_ref02_End (a0:(List Int)) (a1:T_ref02_State):Option T_ref02_State:=
 (if(decide (a1.At<(a0.length:Int)))=true then((f_ref02_bad a1 (⟨#[101,110,100]⟩:ByteArray) a1.At (5:Int)).bind fun a=>(some a))else(some a1))
def f_ref02_End_post (a0:(List Int)) (a1:T_ref02_State) (b:Value):T_ref02_State→Value→IM→HL→Prop:=
 fun(a:T_ref02_State) (v:Value) (M':IM) (H':HL)=>(.agg #[(.int .i64 a.At),(.int .i64 a.Code),(.string a.Op),(.int .i64 a.Where)])=v∧H'=[]
theorem f_ref02_End_ok (a0:(List Int)) (a1:T_ref02_State) (M:IM) (f:Value) (g:RS (Kd.int .u8) M f a0) (res:T_ref02_State) (h:f_ref02_End a0 a1=some res):
 Tri prog 90 #[f,(a96_ a1)] M [] (f_ref02_End_post a0 a1 f res):=by
 unfold f_ref02_End at h
 refine Te func90 Z Z ?_
 intro F ρ hρ
 refine Sr (We (box (cs:=(l96 a1).toArray) (congrArg Value.cells (asE (a96_ a1) (hρ 1)))) Z ?_)
 rintro _ _ _ - ⟨rfl,c,rfl,rfl⟩
 refine We (Al ze96 Z) Z ?_
 rintro _ _ _ - ⟨rfl,i,rfl,rfl⟩
 refine Nt (Cs (Sr (qu (pt c 0) (Fa fo96_0 Z Z) (qu (Iv a1.At) (Lb 1 pl3 Z Z Z) (qM f (hρ 0) (qu (Iv (a0.length:Int)) (lenS underlying23 Z g.len) (qu (Bv (decide (a1.At<(a0.length:Int)))) (lss Z Z) (Nt (Ch h Z (fun d h=> ?_) (fun d h=> ?_))))))))))
 refine Sr (qu (a96_ a1) (La (cs:=(l96 a1)) 1 ag96 sz96 Z Z Z) (qu (pt c 0) (Fa fo96_0 Z Z) (qu (Iv a1.At) (Lb 1 pl3 Z Z Z) ?_)))
 obtain ⟨a,e,h⟩:=bnd h
 refine We (Ca co127 (f_ref02_bad_ok a1 (⟨#[101,110,100]⟩:ByteArray) a1.At (5:Int) _ a e) (args4 Z Z Z Z)) Z ?_
 rintro _ j _ b ⟨_,⟨rfl,rfl⟩,rfl⟩
 refine WL.a0 (We (Sg (v:=(a96_ a)) (vl:=(l96 a)) (arr':=(l96 a)) Z sz96 Z Z (onb Z) Z Z Z) Z ?_)
 rintro _ _ _ - ⟨rfl,rfl⟩
 exact Nt (Cr (Tr (Qa (Dr (Rd h [] (fun _ hs=>hs.drop) (resultsL1 Z (Rc (cs:=(l96 a)) 0 ag96 sz96 Z Z Z)) b ⟨Z,Z⟩)))))
 refine Ck (Tc (Sr (qu (a96_ a1) (La (cs:=(l96 a1)) 1 ag96 sz96 Z Z Z) (We (Sg (v:=(a96_ a1)) (vl:=(l96 a1)) (arr':=(l96 a1)) Z sz96 Z Z (onb Z) Z Z Z) Z ?_))))
 rintro _ _ _ - ⟨rfl,rfl⟩
 exact Nt (Cr (Qa (Dr (Rd h [] (fun _ hs=>hs.drop) (resultsL1 Z (Rc (cs:=(l96 a1)) 0 ag96 sz96 Z Z Z)) lr ⟨Z,Z⟩))))
noncomputable def f_ref05_Cursor_End (a0:T_ref05_Cursor):Option (Int×Int×ByteArray×Int):=
 ((f_ref02_End a0.B a0.S).bind fun a=>(some (a.At,a.Code,a.Op,a.Where)))
def f_ref05_Cursor_End_post (a0:T_ref05_Cursor) (a:Value) (b:Nat):(Int×Int×ByteArray×Int)→Value→IM→HL→Prop:=
 fun(p_:(Int×Int×ByteArray×Int)) (v:Value) (M':IM) (H':HL)=>match p_ with |(c,d,e,f)=>(.tuple #[])=v∧H'=[[(b, .cells #[a,(.int .i64 c),(.int .i64 d),(.string e),(.int .i64 f)] 98 (0,0))]]
theorem f_ref05_Cursor_End_ok (a0:T_ref05_Cursor) (M:IM) (b:Value) (c:Nat) (e:RS (Kd.int .u8) M b a0.B) (res:(Int×Int×ByteArray×Int)) (h:f_ref05_Cursor_End a0=some res):
 Tri prog 63 #[(pt c 0)] M [[(c, .cells (l98 a0 b).toArray 98 (0,0))]] (f_ref05_Cursor_End_post a0 b c res):=by
 unfold f_ref05_Cursor_End at h
 refine Te func63 Z Z ?_
 intro F ρ hρ
 refine WC.draw [0,0,2,6,14,0,32,96,224,510,1023,2047,4095] (.pure 0 (.pure 1 (.pure 2 (.pure 3 (.pure 4 (.pure 5 (.pure 6 (.pure 7 (.pure 8 (.alt 9 (.pure 10 (.pure 11 (.alt 12 .done .none))) .none)))))))))) mixed (by kernel_rfl) (qt (pt c 0) Z (Mv (hρ 0)) (qt (pt c 0) Z (Mv (hρ 0)) (qt (pt c 0) Z (Nk Z) (qt (pt c 0) Z (Fa fo98_0 Z Z) (qt b Z (Lb 0 pl23 Z Z Z) (qt (pt c 0) Z (Mv (hρ 0)) (qt (pt c 0) Z (Nk Z) (qt (pt c 1) Z (Fa fo98_1 Z Z) (qt (a96_ a0.S) Z (La (cs:=(l96 a0.S)) 0 ag96 sz96 Z Z Z) ?_)))))))))
 obtain ⟨a,f,h⟩:=bnd h
 refine Ta Z (Ca co90 (f_ref02_End_ok a0.B a0.S _ _ e a f) (args2 Z Z)) Z ?_ ?_
 rintro _ g _ d ⟨_,⟨rfl,rfl⟩,rfl⟩
 refine⟨(Sk 8 Z (Ss Z (Mv (hρ 0)) Z trivial)), ?_⟩
 refine WT.a0 (qt (pt c 0) Z (Nk Z) (qt (pt c 1) Z (Fa fo98_1 Z Z) (Ta Z (Sg (v:=(a96_ a)) (vl:=(l96 a)) (arr':=[b,(Iv a.At),(Iv a.Code),(Sv a.Op),(Iv a.Where)]) Z sz96 Z Z (onb Z) Z Z Z) Z ?_ ?_)))
 rintro _ _ _ - ⟨rfl,rfl⟩
 refine⟨(Sl Z), ?_⟩
 exact Ti (WQ.endsF h [[(c, .cells #[b,(Iv a.At),(Iv a.Code),(Sv a.Op),(Iv a.Where)] 98 (0,0))]] Z (results0 Z) d ⟨Z,Z⟩)
 exact Tz
 exact Tz
noncomputable def f_ref07_num (a0:Int) (a1:Bool) (a2:Int):Option Bool:=
 (if a1=true then(((if(decide ((0:Int)≤a0))=true then(some (decide (a0≤a2)))else(some false)):Option Bool).bind fun a=>(some a))else(some (decide (a0=(0:Int)))))
def f_ref07_num_post (a0:Int) (a1:Bool) (a2:Int):Bool→Value→IM→HL→Prop:=
 fun(a:Bool) (v:Value) (M':IM) (H':HL)=>(.bool a)=v∧H'=[]
theorem f_ref07_num_ok (a0:Int) (a1:Bool) (a2:Int) (M:IM) (res:Bool) (h:f_ref07_num a0 a1 a2=some res):
 Tri prog 42 #[(Iv a0),(Bv a1),(Iv a2)] M [] (f_ref07_num_post a0 a1 a2 res):=by
 unfold f_ref07_num at h
 refine Te func42 Z Z ?_
 intro F ρ hρ
 refine Sr (qa (Bv false) (Nt (Cs (Sr (qM (Bv a1) (hρ 1) (Nt (Ch h Z (fun e h=> ?_) (fun e h=> ?_))))))))
 obtain ⟨c,f,h⟩:=bnd h
 refine Jf (fun(c:Bool) ρ' M' H'=>M.le M'∧F=H'∧ρ' 6=(Bv c)) c ?_ ?_
 have h:=f
 refine Cg (qM (Iv a0) (hρ 0) (qu (Bv (decide ((0:Int)≤a0))) (geq Z Z) (qm (Bv (decide ((0:Int)≤a0))) ?_)))
 rcases Bi h with⟨a,h⟩ |⟨a,h⟩
 refine On 10 Z Z a (qM (Iv a0) (hρ 0) (On 10 Z Z a (qM (Iv a2) (hρ 2) (qo 10 a (Bv (decide (a0≤a2))) (leq Z Z) (qu (Bv (decide (a0≤a2))) (Pt Z a Z) (qa (Bv (decide (a0≤a2))) (Wz ?_)))))))
 obtain rfl:=oi h
 exact Tj ⟨lr,Z,Z⟩
 iterate 3 refine Of 10 Z Z a Z ?_
 refine qu (Bv false) (Pf Z a Z) (qa (Bv false) (Wz ?_))
 obtain rfl:=oi h
 exact Tj ⟨lr,Z,Z⟩
 rintro g i j ⟨d,rfl,b⟩
 exact Cr (Tr (Rf h [] Z (Rs Z b) d ⟨Z,Z⟩))
 exact Ck (Tc (Sr (qM (Iv a0) (hρ 0) (qu (Bv (decide (a0=0))) (eql Z Z) (qa (Bv (decide (a0=0))) (Nt (Cr (Rf h [] Z (Rs Z Z) lr ⟨Z,Z⟩))))))))

end Go.Proofs.YtkflneabcannnaaGreatDoor.G
