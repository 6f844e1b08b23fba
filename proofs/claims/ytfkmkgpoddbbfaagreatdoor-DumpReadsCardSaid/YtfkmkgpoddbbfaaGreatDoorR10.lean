/- Go functions: what they come to, and that they do. Printed by a program of the session (gen). -/
import Derived.Test.YtfkmkgpoddbbfaaGreatDoorRF
import Derived.Test.YtfkmkgpoddbbfaaGreatDoorR7
import Derived.Test.YtfkmkgpoddbbfaaGreatDoorR8
import Derived.Test.YtfkmkgpoddbbfaaGreatDoorR9
import Derived.Test.YtfkmkgpoddbbfaaGreatDoorKShar2
import Derived.Test.YtfkmkgpoddbbfaaGreatDoorKConv
import Derived.Test.YtfkmkgpoddbbfaaGreatDoorKMap
import Derived.Test.YtfkmkgpoddbbfaaGreatDoorKTight2
set_option linter.unusedVariables false
set_option linter.unusedSimpArgs false
set_option maxHeartbeats 8000000
set_option maxRecDepth 100000
namespace Go.Proofs.YtfkmkgpoddbbfaaGreatDoor.G
open Go Go.KK
open PO EO IntKind Sum Tryz

noncomputable def QfW (a0:QaA) (b:Int) (e:(Bool×Int)):Option ((Bool×Int)⊕Bool):=
 match e with
 |(c,a)=>
 (if(decide (a<b))=true then(((if c=true then(some true)else(grd (0≤a∧a<a0.Done.length) (if(decide (((rd a0.Done a).Client)=((rd a0.Done b).Client)))=true then(grd (0≤a∧a<a0.Done.length) (some (decide (((rd a0.Done a).Serial)=((rd a0.Done b).Serial)))))else(some false)))):Option Bool).bind fun d=>(some (inl (d,i64.wrap (a+(1:Int))))))else(some (inr c)))
noncomputable def Qg6 (a0:QaA) (i:Int):Option (Int⊕(Unit⊕(ByteArray×Int×Int))):=
 match i with
 |a=>
 (if(decide (a<(a0.Done.length:Int)))=true then(((grd (0≤a∧a<a0.Done.length) ((((QgW ((rd a0.Done a).Client) (1:Int) (1073741824:Int)).bind fun b=>(if(!b)=true then(some true)else((QgW ((rd a0.Done a).Serial) (1:Int) (1073741824:Int)).bind fun c=>(if(!c)=true then(some true)else((QgW ((rd a0.Done a).Code) (0:Int) (21:Int)).bind fun d=>(some (!d))))))):Option Bool).bind fun e=>((((iter (QfW a0 a) (e,(0:Int))).bind (fun(f:Bool)=>(some f))):Option Bool).bind fun g=>(if g=true then(((some (inr (inr ((⟨#[100,111,110,101]⟩:ByteArray),a,(2:Int)))))).bind fun r=>some (inr r))else(some (inl ())))))):Option (Unit⊕(Int⊕(Unit⊕(ByteArray×Int×Int))))).bind (Sum.elim (fun _=>(some (inl (i64.wrap (a+(1:Int)))))) some))else(some (inr (inl ()))))
noncomputable def QjW (a0:QaA):Option QaM:=
 (if(decide ((64:Int)<(a0.Done.length:Int)))=true then(some (⟨(⟨#[100,111,110,101]⟩:ByteArray),(a0.Done.length:Int),(6:Int)⟩:QaM))else((((iter (Qg6 a0) (0:Int)).bind (Sum.elim (fun _=>(some (inl ()))) (fun(a,b,c)=>(((some (⟨a,b,c⟩:QaM))).bind fun r=>some (inr r))))):Option (Unit⊕QaM)).bind (Sum.elim (fun _=>(some Q1R)) some)))
def QrY (a0:QaA) (b c d e:Value):QaM→Value→IM→HL→Prop:=
 fun(a:QaM) (v:Value) (g:IM) (f:HL)=>(.agg #[(.string a.Op),(.int .i64 a.At),(.int .i64 a.Code)])=v∧f=[]
theorem QuP (a0:QaA) (M:IM) (f g i d:Value) (f7:RS QaG M f a0.Brokers) (f8:RS QaI M g a0.Topics) (f9:RS QaH M i a0.Configs) (o:RS QaL M d a0.Done) (d0:QaM) (h:QjW a0=some d0):
 Tri prog 66 #[(a29_ a0 f g i d)] M [] (QrY a0 f g i d d0):=by
 unfold QjW at h
 refine Te func66 Z Z ?_
 intro F ρ g3
 refine Sr (We (box (cs:=(l29 a0 f g i d).toArray) (congrArg Value.cells (asE (a29_ a0 f g i d) (g3 0)))) Z ?_)
 rintro _ _ _ - ⟨rfl,e,rfl,rfl⟩
 refine We (Al ze36 Z) Z ?_
 rintro _ _ _ - ⟨rfl,p,rfl,rfl⟩
 refine Nt (Cs (Sr (qu (pt e 3) (Fa QeO Z Z) (qu d (Lb 1 pl27 Z Z Z) (qu (Iv (a0.Done.length:Int)) (lenS underlying27 Z o.len) (qu (Bv (decide ((64:Int)<(a0.Done.length:Int)))) (gtr Z Z) (Nt (Ch h Z (fun d1 h=> ?_) (fun d1 h=> ?_)))))))))
 refine Sr (qu (pt e 3) (Fa QeO Z Z) (qu d (Lb 1 pl27 Z Z Z) (qu (Iv (a0.Done.length:Int)) (lenS underlying27 Z o.len) (qu (.agg #[(Sv ⟨#[100,111,110,101]⟩),(Iv (a0.Done.length:Int)),(Iv 6)]) (Bl (cl:=[(Sv ⟨#[100,111,110,101]⟩),(Iv (a0.Done.length:Int)),(Iv 6)]) ze36 fp36 (Pc (Sv ⟨#[100,111,110,101]⟩) Z Z (Pc (Iv (a0.Done.length:Int)) Z Z (Pc (Iv 6) Z Z Pz))) Z) (We (Sg (v:=(.agg #[(Sv ⟨#[100,111,110,101]⟩),(Iv (a0.Done.length:Int)),(Iv 6)])) (vl:=[(Sv ⟨#[100,111,110,101]⟩),(Iv (a0.Done.length:Int)),(Iv 6)]) (arr':=[(Sv ⟨#[100,111,110,101]⟩),(Iv (a0.Done.length:Int)),(Iv 6)]) Z sz36 Z Z (onb Z) Z Z Z) Z ?_)))))
 rintro _ _ _ - ⟨rfl,rfl⟩
 exact Nt (Cr (Tr (Qa (Dr (Rd h [] (fun _ hs=>hs.drop) (QbA Z (Rc (cs:=[(Sv ⟨#[100,111,110,101]⟩),(Iv (a0.Done.length:Int)),(Iv 6)]) 0 ag36 sz36 Z Z Z)) lr ⟨Z,Z⟩)))))
 refine Ck (Tc ?_)
 obtain ⟨f3,d2,h⟩:=bnd h
 refine WC.joinE (fun(_:Unit) k P Q=>M.le P∧[(p, .cells #[(Sv ⟨#[]⟩),(Iv 0),(Iv 0)] 36 (0,0))]::[(e, .cells (l29 a0 f g i d).toArray 29 (0,0))]::F=Q∧k 2=(pt p 0)) f3 ?_ ?_
 have d3:=h
 have h:=d2
 refine Sr (qa (Iv 0) (Nt (Bk ?_)))
 obtain ⟨g4,d4,b6⟩:=bnd h
 clear h
 refine WC.loop d4 (fun(a:Int) k P Q=>M.le P∧[(p, .cells #[(Sv ⟨#[]⟩),(Iv 0),(Iv 0)] 36 (0,0))]::[(e, .cells (l29 a0 f g i d).toArray 29 (0,0))]::F=Q∧k 1=(pt e 0)∧k 2=(pt p 0)∧k 3=(Iv a)) ?_ ?_
 exact⟨lr,Z,Z,Z,Z⟩
 rintro a g5 g6 d5 g7 h ⟨A,rfl,q,y,r⟩
 unfold Qg6 at h
 refine Cs (Sr (qM (Iv a) r (qu (pt e 3) (Fa QeO q Z) (qu d (Lb 1 pl27 Z Z Z) ?_))))
 have o:=o.mono A
 refine qu (Iv (a0.Done.length:Int)) (lenS underlying27 Z o.len) (qu (Bv (decide (a<(a0.Done.length:Int)))) (lss Z Z) (Nt (Ch h Z (fun d6 h=> ?_) (fun d6 h=> ?_))))
 refine Ck (Tc ?_)
 obtain ⟨f4,d7,h⟩:=bnd h
 refine WC.joinE (fun(_:Unit) k P Q=>d5.le P∧[(p, .cells #[(Sv ⟨#[]⟩),(Iv 0),(Iv 0)] 36 (0,0))]::[(e, .cells (l29 a0 f g i d).toArray 29 (0,0))]::F=Q∧k 1=(pt e 0)∧k 2=(pt p 0)∧k 3=(Iv a)) f4 ?_ ?_
 have d8:=h
 have h:=d7
 refine Bk (Sr (qu (pt e 3) (Fa QeO q Z) (qu d (Lb 1 pl27 Z Z Z) (qM (Iv a) r ?_))))
 obtain ⟨I,h⟩:=Qa1 h
 obtain ⟨f5,g0,b7,b8,hhas37⟩:=o.at I.1 I.2 (by decide)
 obtain rfl:=QcN b8
 refine qu (.pointer (some f5)) (indexAddr (n:=a0.Done.length) underlying27 sz78 Z Z I.1 I.2 b7) (qu (a78_ (rd a0.Done a)) (loadMA (cs:=(l78 (rd a0.Done a))) ag78 sz78 Z hhas37) (We (Al ze78 Z) Z ?_))
 rintro _ _ _ - ⟨rfl,x,rfl,rfl⟩
 refine We (Sg (v:=(a78_ (rd a0.Done a))) (vl:=(l78 (rd a0.Done a))) (arr':=(l78 (rd a0.Done a))) Z sz78 Z Z (onb Z) Z Z Z) Z ?_
 rintro _ _ _ - ⟨rfl,rfl⟩
 refine Nt ?_
 obtain ⟨b9,d9,h⟩:=bnd h
 refine Jf (fun(b9:Bool) k P Q=>d5.le P∧[(x, .cells (l78 (rd a0.Done a)).toArray 78 (0,0))]::[(p, .cells #[(Sv ⟨#[]⟩),(Iv 0),(Iv 0)] 36 (0,0))]::[(e, .cells (l29 a0 f g i d).toArray 29 (0,0))]::F=Q∧k 1=(pt e 0)∧k 2=(pt p 0)∧k 3=(Iv a)∧k 4=(pt x 0)∧k 5=(Bv b9)) b9 ?_ ?_
 have h:=d9
 refine Cg (qu (pt x 0) (Fa QrF Z Z) (qu (Iv ((rd a0.Done a).Client)) (Lb 0 pl3 Z Z Z) ?_))
 obtain ⟨c0,e0,h⟩:=bnd h
 refine We (Ca co92 (QhZ ((rd a0.Done a).Client) (1:Int) (1073741824:Int) _ c0 e0) (QcV Z Z Z)) Z ?_
 rintro _ g8 _ C ⟨_,⟨rfl,rfl⟩,rfl⟩
 refine WL.a0 (qu (Bv (!c0)) (PO.not Z) (qm (Bv (!c0)) ?_))
 rcases Bi h with⟨u,h⟩ |⟨u,h⟩
 iterate 4 refine Of 31 Z Z u Z ?_
 refine qu (Bv true) (Pt Z u Z) (qm (Bv true) ?_)
 iterate 4 refine Of 37 Z Z Z Z ?_
 refine qu (Bv true) (Pt Z Z Z) (qa (Bv true) (Wz ?_))
 obtain rfl:=oi h
 exact Tj ⟨C,Z,q,y,r,Z,Z⟩
 refine qo 31 u (pt x 1) (Fa QpC Z Z) (qo 31 u (Iv ((rd a0.Done a).Serial)) (Lb 0 pl3 Z Z Z) (On 31 Z Z u ?_))
 obtain ⟨U,e1,h⟩:=bnd h
 refine We (Ca co92 (QhZ ((rd a0.Done a).Serial) (1:Int) (1073741824:Int) _ U e1) (QcV Z Z Z)) Z ?_
 rintro _ g9 _ R ⟨_,⟨rfl,rfl⟩,rfl⟩
 refine WL.a0 (qo 31 u (Bv (!U)) (PO.not Z) (qu (Bv (!U)) (Pf Z u Z) (qm (Bv (!U)) ?_)))
 rcases Bi h with⟨w,h⟩ |⟨w,h⟩
 iterate 4 refine Of 37 Z Z w Z ?_
 refine qu (Bv true) (Pt Z w Z) (qa (Bv true) (Wz ?_))
 obtain rfl:=oi h
 exact Tj ⟨(C.trans R),Z,q,y,r,Z,Z⟩
 refine qo 37 w (pt x 2) (Fa Qs2 Z Z) (qo 37 w (Iv ((rd a0.Done a).Code)) (Lb 0 pl3 Z Z Z) (On 37 Z Z w ?_))
 obtain ⟨V,e2,h⟩:=bnd h
 refine We (Ca co92 (QhZ ((rd a0.Done a).Code) (0:Int) (21:Int) _ V e2) (QcV Z Z Z)) Z ?_
 rintro _ h0 _ c1 ⟨_,⟨rfl,rfl⟩,rfl⟩
 refine WL.a0 (qo 37 w (Bv (!V)) (PO.not Z) (qu (Bv (!V)) (Pf Z w Z) (qa (Bv (!V)) (Wz ?_))))
 obtain rfl:=oi h
 exact Tj ⟨((C.trans R).trans c1),Z,q,y,r,Z,Z⟩
 rintro h1 e3 h2 ⟨D,rfl,W,X,Y,a1,a2⟩
 obtain ⟨a3,e4,h⟩:=bnd h
 refine Jf (fun(a3:Bool) k P Q=>e3.le P∧[(x, .cells (l78 (rd a0.Done a)).toArray 78 (0,0))]::[(p, .cells #[(Sv ⟨#[]⟩),(Iv 0),(Iv 0)] 36 (0,0))]::[(e, .cells (l29 a0 f g i d).toArray 29 (0,0))]::F=Q∧k 1=(pt e 0)∧k 2=(pt p 0)∧k 3=(Iv a)∧k 5=(Bv a3)) a3 ?_ ?_
 have h:=e4
 refine Sr (qa (Iv 0) (Nt (Bk ?_)))
 obtain ⟨h3,e5,e6⟩:=bnd h
 clear h
 refine WC.loop e5 (fun(p_:(Bool×Int)) k P Q=>match p_ with |(S,j)=>e3.le P∧[(x, .cells (l78 (rd a0.Done a)).toArray 78 (0,0))]::[(p, .cells #[(Sv ⟨#[]⟩),(Iv 0),(Iv 0)] 36 (0,0))]::[(e, .cells (l29 a0 f g i d).toArray 29 (0,0))]::F=Q∧k 1=(pt e 0)∧k 2=(pt p 0)∧k 3=(Iv a)∧k 4=(pt x 0)∧k 5=(Bv S)∧k 6=(Iv j)) ?_ ?_
 exact⟨lr,Z,W,X,Y,a1,a2,Z⟩
 rintro ⟨S,j⟩ h5 h6 f6 h7 h ⟨E,rfl,l,z,s,t,J,m⟩
 unfold QfW at h
 refine Cs (Sr (qM (Iv j) m (qM (Iv a) s (qu (Bv (decide (j<a))) (lss Z Z) (Nt (Ch h Z (fun e7 h=> ?_) (fun e7 h=> ?_)))))))
 refine Ck (Tc ?_)
 obtain ⟨a4,e8,h⟩:=bnd h
 refine Jf (fun(a4:Bool) k P Q=>f6.le P∧[(x, .cells (l78 (rd a0.Done a)).toArray 78 (0,0))]::[(p, .cells #[(Sv ⟨#[]⟩),(Iv 0),(Iv 0)] 36 (0,0))]::[(e, .cells (l29 a0 f g i d).toArray 29 (0,0))]::F=Q∧k 1=(pt e 0)∧k 2=(pt p 0)∧k 3=(Iv a)∧k 4=(pt x 0)∧k 5=(Bv a4)∧k 6=(Iv j)) a4 ?_ ?_
 have h:=e8
 refine Bk (WC.draw [0,1,3,7,3,31,63,127,3,259,1023,2047,4095,8191,4095,32767,65535,131071,4095,266239,1048575,2097151,4194303,8388607] (.pure 0 (.pure 1 (.pure 2 (.pure 3 (.pure 4 (.pure 5 (.pure 6 (.pure 7 (.pure 8 (.pure 9 (.pure 10 (.pure 11 (.pure 12 (.pure 13 (.pure 14 (.pure 15 (.pure 16 (.pure 17 (.pure 18 (.pure 19 (.pure 20 (.pure 21 (.pure 22 (.alt 23 .done .none)))))))))))))))))))))))) Qc3 (by kernel_rfl) (qt (Bv S) Z (Mv J) (qt (Bv S) Z (Mv Z) ?_)))
 rcases Bi h with⟨b,h⟩ |⟨b,h⟩
 refine Tf 49 Z Z Z b Z (Tf 49 Z Z Z b Z (Tf 49 Z Z Z b Z (Tf 49 Z Z Z b Z (Tf 49 Z Z Z b Z (Tf 49 Z Z Z b Z (Tf 49 Z Z Z b Z (Tf 49 Z Z Z b Z (Tf 49 Z Z Z b Z (Tf 49 Z Z Z b Z (WT.pureOffU 59 Z Z Z Z (WT.pureOffU 59 Z Z Z Z ?_)))))))))))
 refine WT.pureOffU 59 Z Z Z Z (WT.pureOffU 59 Z Z Z Z (WT.pureOffU 59 Z Z Z Z (WT.pureOffU 59 Z Z Z Z (WT.pureOffU 59 Z Z Z Z (WT.pureOffU 59 Z Z Z Z (WT.pureOffU 59 Z Z Z Z (Tf 49 Z Z Z b Z (qt (Bv true) Z (Pt Z b Z) (Ta Z ((Ag Z).eo) Z ?_ ?_)))))))))
 rintro _ _ _ - ⟨rfl,rfl,rfl⟩
 refine⟨(Sl Z), ?_⟩
 refine Ti (Bn ?_)
 obtain rfl:=oi h
 exact Tj ⟨lr,Z,l,z,s,t,Z,m⟩
 exact Tz
 refine Tn (pt e 3) 49 Z Z Z b (Fa QeO l Z) Z (Tn d 49 Z Z Z b (Lb 2 pl27 Z Z Z) Z (Tn (Iv j) 49 Z Z Z b (Mv m) Z ?_))
 obtain ⟨K,h⟩:=Qa1 h
 have o:=o.mono (D.trans E)
 obtain ⟨e9,g1,c2,c3,hhas74⟩:=o.at K.1 K.2 (by decide)
 obtain rfl:=QcN c3
 refine Tn (.pointer (some e9)) 49 Z Z Z b (indexAddr (n:=a0.Done.length) underlying27 sz78 Z Z K.1 K.2 c2) Z (Tn (.pointer (some (e9.add 0))) 49 Z Z Z b (Fa QrF Z Z) Z (Tn (Iv ((rd a0.Done j).Client)) 49 Z Z Z b (loadM pl3 Z (IM.has0 hhas74)) Z (Tn (pt x 0) 49 Z Z Z b (Fa QrF t Z) Z (Tn (Iv ((rd a0.Done a).Client)) 49 Z Z Z b (Lb 0 pl3 Z Z Z) Z (Tn (Bv (decide (((rd a0.Done j).Client)=((rd a0.Done a).Client)))) 49 Z Z Z b (eql Z Z) Z (Tn (Bv (decide (((rd a0.Done j).Client)=((rd a0.Done a).Client)))) 49 Z Z Z b (Mv Z) Z ?_))))))
 rcases Bi h with⟨c,h⟩ |⟨c,h⟩
 refine Tn (pt e 3) 59 Z Z Z c (Fa QeO l Z) Z (Tn d 59 Z Z Z c (Lb 2 pl27 Z Z Z) Z (Tn (Iv j) 59 Z Z Z c (Mv m) Z ?_))
 obtain ⟨L,h⟩:=Qa1 h
 obtain ⟨f0,g2,c4,c5,hhas82⟩:=o.at L.1 L.2 (by decide)
 obtain rfl:=QcN c5
 refine Tn (.pointer (some f0)) 59 Z Z Z c (indexAddr (n:=a0.Done.length) underlying27 sz78 Z Z L.1 L.2 c4) Z (Tn (.pointer (some (f0.add 1))) 59 Z Z Z c (Fa QpC Z Z) Z (Tn (Iv ((rd a0.Done j).Serial)) 59 Z Z Z c (loadM pl3 Z (hhas82 1 _ Z)) Z (Tn (pt x 1) 59 Z Z Z c (Fa QpC t Z) Z (Tn (Iv ((rd a0.Done a).Serial)) 59 Z Z Z c (Lb 0 pl3 Z Z Z) Z (Tn (Bv (decide (((rd a0.Done j).Serial)=((rd a0.Done a).Serial)))) 59 Z Z Z c (eql Z Z) Z (Tn (Bv (decide (((rd a0.Done j).Serial)=((rd a0.Done a).Serial)))) 49 Z Z Z b (Pt Z c Z) Z (qt (Bv (decide (((rd a0.Done j).Serial)=((rd a0.Done a).Serial)))) Z (Pf Z b Z) (Ta Z ((Ag Z).eo) Z ?_ ?_))))))))
 rintro _ _ _ - ⟨rfl,rfl,rfl⟩
 refine⟨(Sl Z), ?_⟩
 refine Ti (Bn ?_)
 obtain rfl:=oi h
 exact Tj ⟨lr,Z,l,z,s,t,Z,m⟩
 exact Tz
 refine Tf 59 Z Z Z c Z (Tf 59 Z Z Z c Z (Tf 59 Z Z Z c Z (Tf 59 Z Z Z c Z (Tf 59 Z Z Z c Z (Tf 59 Z Z Z c Z (Tf 59 Z Z Z c Z (Tf 59 Z Z Z c Z (Tf 59 Z Z Z c Z (Tn (Bv false) 49 Z Z Z b (Pf Z c Z) Z (qt (Bv false) Z (Pf Z b Z) (Ta Z ((Ag Z).eo) Z ?_ ?_)))))))))))
 rintro _ _ _ - ⟨rfl,rfl,rfl⟩
 refine⟨(Sl Z), ?_⟩
 refine Ti (Bn ?_)
 obtain rfl:=oi h
 exact Tj ⟨lr,Z,l,z,s,t,Z,m⟩
 exact Tz
 rintro h8 h9 i0 ⟨c6,rfl,a5,a6,a7,a8,a9,b0⟩
 exact Cg (qM (Iv j) b0 (qu (Iv (i64.wrap (j+1))) (add Z Z) (qa (Iv (i64.wrap (j+1))) (Wz (WQ.again (a4,i64.wrap (j+1)) (oi h).symm ⟨(E.trans c6),Z,a5,a6,a7,a8,a9,Z⟩)))))
 refine WC.exit (WQ.thenE (WQ.leaveE S (oi h).symm (fun c7=> ?_)))
 subst c7
 have h:=e6
 refine WQ.blockH ?_
 obtain rfl:=oi h
 exact Tj ⟨E,Z,l,z,s,J⟩
 rintro i1 i2 i3 ⟨T,rfl,b1,B,N,b2⟩
 refine Sr (qM (Bv a3) b2 (Nt (Ch h Z (fun f2 h=> ?_) (fun f2 h=> ?_))))
 refine Sr (qM (Iv a) N (qu (.agg #[(Sv ⟨#[100,111,110,101]⟩),(Iv a),(Iv 2)]) (Bl (cl:=[(Sv ⟨#[100,111,110,101]⟩),(Iv a),(Iv 2)]) ze36 fp36 (Pc (Sv ⟨#[100,111,110,101]⟩) Z Z (Pc (Iv a) Z Z (Pc (Iv 2) Z Z Pz))) Z) (WL.f1 (We (Sg (v:=(.agg #[(Sv ⟨#[100,111,110,101]⟩),(Iv a),(Iv 2)])) (vl:=[(Sv ⟨#[100,111,110,101]⟩),(Iv a),(Iv 2)]) (arr':=[(Sv ⟨#[100,111,110,101]⟩),(Iv a),(Iv 2)]) Z sz36 B Z (onb Z) Z Z Z) Z ?_))))
 rintro _ _ _ - ⟨rfl,rfl⟩
 refine Nt (Cr (Br (Tr ?_)))
 have h:=KK.early h d8
 refine WQ.leaveR (inr ((⟨#[100,111,110,101]⟩:ByteArray),a,(2:Int))) (oi h).symm (fun G=> ?_)
 subst G
 have h:=(QdZ b6)
 refine Br (Tr ?_)
 have h:=KK.early h d3
 exact Qa (Dr (Qa (Dr (Rd h [] (fun _ hs=>hs.drop) (QbA Z (Rc (cs:=[(Sv ⟨#[100,111,110,101]⟩),(Iv a),(Iv 2)]) 0 ag36 sz36 B Z Z)) ((A.trans D).trans T) ⟨Z,Z⟩))))
 exact Ck (Bn (Dr (WQ.thenFE h ⟨(D.trans T),Z,b1,B,N⟩)))
 rintro _ i4 i5 i6 rfl ⟨c8,rfl,b3,b4,b5⟩
 have h:=(Sum.elim_inl _ _ _).symm.trans h
 exact Cg (qM (Iv a) b5 (qu (Iv (i64.wrap (a+1))) (add Z Z) (qa (Iv (i64.wrap (a+1))) (Wz (WQ.again (i64.wrap (a+1)) (oi h).symm ⟨(A.trans c8),Z,b3,b4,Z⟩)))))
 refine WC.exit (WQ.thenE (WQ.leaveE (inl ()) (oi h).symm (fun G=> ?_)))
 subst G
 have h:=QeV b6
 exact WQ.blockH (WQ.thenFE h ⟨A,Z,y⟩)
 rintro _ i7 i8 i9 rfl ⟨c9,rfl,O⟩
 have h:=(Sum.elim_inl _ _ _).symm.trans h
 refine Sr (qu (.agg #[(Sv ⟨#[]⟩),(Iv 0),(Iv 0)]) (Bl (cl:=[(Sv ⟨#[]⟩),(Iv 0),(Iv 0)]) ze36 fp36 Pz Z) (We (Sg (v:=(.agg #[(Sv ⟨#[]⟩),(Iv 0),(Iv 0)])) (vl:=[(Sv ⟨#[]⟩),(Iv 0),(Iv 0)]) (arr':=[(Sv ⟨#[]⟩),(Iv 0),(Iv 0)]) Z sz36 O Z (onb Z) Z Z Z) Z ?_))
 rintro _ _ _ - ⟨rfl,rfl⟩
 exact Nt (Cr (Qa (Dr (Rd h [] (fun _ hs=>hs.drop) (QbA Z (Rc (cs:=[(Sv ⟨#[]⟩),(Iv 0),(Iv 0)]) 0 ag36 sz36 O Z Z)) c9 ⟨Z,Z⟩))))
noncomputable def QhT (a0:QaA):Option QaM:=
 ((QhL a0).bind fun a=>(if(decide (a.Code≠(0:Int)))=true then(some a)else((QiA a0).bind fun b=>(if(decide (b.Code≠(0:Int)))=true then(some b)else((QhM a0).bind fun c=>(if(decide (c.Code≠(0:Int)))=true then(some c)else((QjW a0).bind fun d=>(some d))))))))
def QqL (a0:QaA) (b c d e:Value):QaM→Value→IM→HL→Prop:=
 fun(a:QaM) (v:Value) (g:IM) (f:HL)=>(.agg #[(.string a.Op),(.int .i64 a.At),(.int .i64 a.Code)])=v∧f=[]
theorem QtE (a0:QaA) (M:IM) (a b c d:Value) (f:RS QaG M a a0.Brokers) (g:RS QaI M b a0.Topics) (i:RS QaH M c a0.Configs) (j:RS QaL M d a0.Done) (r:QaM) (h:QhT a0=some r):
 Tri prog 40 #[(a29_ a0 a b c d)] M [] (QqL a0 a b c d r):=by
 unfold QhT at h
 refine Te func40 Z Z ?_
 intro F N D
 refine Sr (We (box (cs:=(l29 a0 a b c d).toArray) (congrArg Value.cells (asE (a29_ a0 a b c d) (D 0)))) Z ?_)
 rintro _ _ _ - ⟨rfl,E,rfl,rfl⟩
 refine We (Al ze36 Z) Z ?_
 rintro _ _ _ - ⟨rfl,G,rfl,rfl⟩
 refine Nt (Cs (Sr (qu (a29_ a0 a b c d) (La (cs:=(l29 a0 a b c d)) 1 ag29 sz29 Z Z Z) ?_)))
 obtain ⟨m,s,h⟩:=bnd h
 refine We (Ca co63 (Qq8 a0 _ _ _ _ _ f g i j m s) (Qb2 Z)) Z ?_
 rintro _ I _ e ⟨_,⟨rfl,rfl⟩,rfl⟩
 refine WL.a0 (We (Al ze36 Z) Z ?_)
 rintro _ _ _ - ⟨rfl,A,rfl,rfl⟩
 refine We (Sg (v:=(a36_ m)) (vl:=(l36 m)) (arr':=(l36 m)) Z sz36 Z Z (onb Z) Z Z Z) Z ?_
 rintro _ _ _ - ⟨rfl,rfl⟩
 refine Ns (qu (pt A 2) (Fa QrD Z Z) (qu (Iv m.Code) (Lb 0 pl34 Z Z Z) (qu (Bv (decide (m.Code≠0))) (neq Z Z) (Nt (Ch h Z (fun t h=> ?_) (fun t h=> ?_))))))
 refine Sr (qu (a36_ m) (La (cs:=(l36 m)) 0 ag36 sz36 Z Z Z) (WL.f1 (We (Sg (v:=(a36_ m)) (vl:=(l36 m)) (arr':=(l36 m)) Z sz36 Z Z (onb Z) Z Z Z) Z ?_)))
 rintro _ _ _ - ⟨rfl,rfl⟩
 exact Nt (Cr (Tr (Qa (Dr (Qa (Dr (Rd h [] (fun _ hs=>hs.drop) (QbA Z (Rc (cs:=(l36 m)) 0 ag36 sz36 Z Z Z)) e ⟨Z,Z⟩)))))))
 refine Ck (Tc (Cs (Sr (qu (a29_ a0 a b c d) (La (cs:=(l29 a0 a b c d)) 2 ag29 sz29 Z Z Z) ?_))))
 obtain ⟨n,u,h⟩:=bnd h
 have f:=f.mono e
 have g:=g.mono e
 have i:=i.mono e
 have j:=j.mono e
 refine We (Ca co64 (QsI a0 _ _ _ _ _ f g i j n u) (Qb2 Z)) Z ?_
 rintro _ J _ k ⟨_,⟨rfl,rfl⟩,rfl⟩
 refine WL.a0 (We (Al ze36 Z) Z ?_)
 rintro _ _ _ - ⟨rfl,B,rfl,rfl⟩
 refine We (Sg (v:=(a36_ n)) (vl:=(l36 n)) (arr':=(l36 n)) Z sz36 Z Z (onb Z) Z Z Z) Z ?_
 rintro _ _ _ - ⟨rfl,rfl⟩
 refine Ns (qu (pt B 2) (Fa QrD Z Z) (qu (Iv n.Code) (Lb 0 pl34 Z Z Z) (qu (Bv (decide (n.Code≠0))) (neq Z Z) (Nt (Ch h Z (fun w h=> ?_) (fun w h=> ?_))))))
 refine Sr (qu (a36_ n) (La (cs:=(l36 n)) 0 ag36 sz36 Z Z Z) (Wb (We (Sg (v:=(a36_ n)) (vl:=(l36 n)) (arr':=(l36 n)) Z sz36 Z Z (onb Z) Z Z Z) Z ?_)))
 rintro _ _ _ - ⟨rfl,rfl⟩
 exact Nt (Cr (Tr (Qa (Dr (Qa (Dr (Qa (Dr (Rd h [] (fun _ hs=>hs.drop) (QbA Z (Rc (cs:=(l36 n)) 0 ag36 sz36 Z Z Z)) (e.trans k) ⟨Z,Z⟩)))))))))
 refine Ck (Tc (Cs (Sr (qu (a29_ a0 a b c d) (La (cs:=(l29 a0 a b c d)) 3 ag29 sz29 Z Z Z) ?_))))
 obtain ⟨o,x,h⟩:=bnd h
 have f:=f.mono k
 have g:=g.mono k
 have i:=i.mono k
 have j:=j.mono k
 refine We (Ca co65 (Qq9 a0 _ _ _ _ _ f g i j o x) (Qb2 Z)) Z ?_
 rintro _ K _ l ⟨_,⟨rfl,rfl⟩,rfl⟩
 refine WL.a0 (We (Al ze36 Z) Z ?_)
 rintro _ _ _ - ⟨rfl,C,rfl,rfl⟩
 refine We (Sg (v:=(a36_ o)) (vl:=(l36 o)) (arr':=(l36 o)) Z sz36 Z Z (onb Z) Z Z Z) Z ?_
 rintro _ _ _ - ⟨rfl,rfl⟩
 refine Ns (qu (pt C 2) (Fa QrD Z Z) (qu (Iv o.Code) (Lb 0 pl34 Z Z Z) (qu (Bv (decide (o.Code≠0))) (neq Z Z) (Nt (Ch h Z (fun y h=> ?_) (fun y h=> ?_))))))
 refine Sr (qu (a36_ o) (La (cs:=(l36 o)) 0 ag36 sz36 Z Z Z) (WL.f3 (We (Sg (v:=(a36_ o)) (vl:=(l36 o)) (arr':=(l36 o)) Z sz36 Z Z (onb Z) Z Z Z) Z ?_)))
 rintro _ _ _ - ⟨rfl,rfl⟩
 exact Nt (Cr (Tr (Qa (Dr (Qa (Dr (Qa (Dr (Qa (Dr (Rd h [] (fun _ hs=>hs.drop) (QbA Z (Rc (cs:=(l36 o)) 0 ag36 sz36 Z Z Z)) ((e.trans k).trans l) ⟨Z,Z⟩)))))))))))
 refine Ck (Tc (Sr (qu (a29_ a0 a b c d) (La (cs:=(l29 a0 a b c d)) 4 ag29 sz29 Z Z Z) ?_)))
 obtain ⟨p,z,h⟩:=bnd h
 have f:=f.mono l
 have g:=g.mono l
 have i:=i.mono l
 have j:=j.mono l
 refine We (Ca co66 (QuP a0 _ _ _ _ _ f g i j p z) (Qb2 Z)) Z ?_
 rintro _ L _ q ⟨_,⟨rfl,rfl⟩,rfl⟩
 refine WL.a0 (WL.f3 (We (Sg (v:=(a36_ p)) (vl:=(l36 p)) (arr':=(l36 p)) Z sz36 Z Z (onb Z) Z Z Z) Z ?_))
 rintro _ _ _ - ⟨rfl,rfl⟩
 exact Nt (Cr (Qa (Dr (Qa (Dr (Qa (Dr (Qa (Dr (Rd h [] (fun _ hs=>hs.drop) (QbA Z (Rc (cs:=(l36 p)) 0 ag36 sz36 Z Z Z)) (((e.trans k).trans l).trans q) ⟨Z,Z⟩))))))))))
noncomputable def Qg7 (a0:(List Int)) (i:Int) (o:(Int×Int×Int×ByteArray×Int×(List QaE))):Option ((Int×Int×Int×ByteArray×Int×(List QaE))⊕(Int×Int×ByteArray×Int×(List QaE))):=
 match o with
 |(c,d,a,e,f,b)=>
 (((if(decide (c<i))=true then(some (decide (a=(0:Int))))else(some false)):Option Bool).bind fun j=>(if j=true then((Qf3 (⟨a0,(⟨d,a,e,f⟩:QaB)⟩:QaF)).bind fun(g,k,l,m,n)=>(grd (b.length+[g].length≤274877906944) (some (inl (i64.wrap (c+(1:Int)),k,l,m,n,b++[g])))))else(some (inr (d,a,e,f,b)))))
noncomputable def Qg8 (a0:(List Int)) (x:Int) (y:(Int×Int×Int×ByteArray×Int×(List QaJ))):Option ((Int×Int×Int×ByteArray×Int×(List QaJ))⊕(Int×Int×ByteArray×Int×(List QaJ))):=
 match y with
 |(c,d,a,e,f,b)=>
 (((if(decide (c<x))=true then(some (decide (a=(0:Int))))else(some false)):Option Bool).bind fun k=>(if k=true then((QaY (⟨a0,(⟨d,a,e,f⟩:QaB)⟩:QaF) (1073741824:Int)).bind fun(g,l,m,n,o)=>((Qb8 (⟨a0,(⟨l,m,n,o⟩:QaB)⟩:QaF) (40:Int)).bind fun(i,p,q,r,s)=>((Qb8 (⟨a0,(⟨p,q,r,s⟩:QaB)⟩:QaF) (256:Int)).bind fun(j,t,u,v,w)=>(grd (b.length+[(⟨g,strOfNums i,strOfNums j⟩:QaJ)].length≤274877906944) (some (inl (i64.wrap (c+(1:Int)),t,u,v,w,b++[(⟨g,strOfNums i,strOfNums j⟩:QaJ)])))))))else(some (inr (d,a,e,f,b)))))
noncomputable def Qg9 (a0:(List Int)) (k:Int) (y:(Int×Int×Int×ByteArray×Int×(List QaT))):Option ((Int×Int×Int×ByteArray×Int×(List QaT))⊕(Int×Int×ByteArray×Int×(List QaT))):=
 match y with
 |(c,d,a,e,f,b)=>
 (((if(decide (c<k))=true then(some (decide (a=(0:Int))))else(some false)):Option Bool).bind fun l=>(if l=true then((QaY (⟨a0,(⟨d,a,e,f⟩:QaB)⟩:QaF) (1073741824:Int)).bind fun(g,m,n,o,p)=>((QaY (⟨a0,(⟨m,n,o,p⟩:QaB)⟩:QaF) (1073741824:Int)).bind fun(i,q,r,s,t)=>((QaY (⟨a0,(⟨q,r,s,t⟩:QaB)⟩:QaF) (1073741824:Int)).bind fun(j,u,v,w,x)=>(grd (b.length+[(⟨g,i,j⟩:QaT)].length≤274877906944) (some (inl (i64.wrap (c+(1:Int)),u,v,w,x,b++[(⟨g,i,j⟩:QaT)])))))))else(some (inr (d,a,e,f,b)))))
noncomputable def QiJ (a0:(List Int)):Option (QaA×QaM):=
 ((QaY (⟨a0,(⟨(0:Int),(0:Int),(⟨#[]⟩:ByteArray),(0:Int)⟩:QaB)⟩:QaF) (1073741824:Int)).bind fun(e,L,N,O,P)=>((QeN (⟨a0,(⟨L,N,O,P⟩:QaB)⟩:QaF)).bind fun(f,Q,R,S,T)=>((QaY (⟨a0,(⟨Q,R,S,T⟩:QaB)⟩:QaF) (256:Int)).bind fun(U,V,W,X,Y)=>((((iter (Qg7 a0 U) ((0:Int),V,W,X,Y,[])).bind (fun(a1,a2,a3,a4,a5)=>(some (a1,a2,a3,a4,a5)))):Option (Int×Int×ByteArray×Int×(List QaE))).bind fun(a6,a7,a8,a9,g)=>((QaY (⟨a0,(⟨a6,a7,a8,a9⟩:QaB)⟩:QaF) (1073741824:Int)).bind fun(b0,b1,b2,i,j)=>((((iter (Qg8 a0 b0) ((0:Int),b1,b2,i,j,[])).bind (fun(k,l,m,n,o)=>(some (k,l,m,n,o)))):Option (Int×Int×ByteArray×Int×(List QaJ))).bind fun(p,q,r,s,b)=>((QaY (⟨a0,(⟨p,q,r,s⟩:QaB)⟩:QaF) (64:Int)).bind fun(t,u,v,w,x)=>((((iter (Qg9 a0 t) ((0:Int),u,v,w,x,[])).bind (fun(y,z,A,B,C)=>(some (y,z,A,B,C)))):Option (Int×Int×ByteArray×Int×(List QaT))).bind fun(D,E,G,I,c)=>((QfF (⟨a0,(⟨D,E,G,I⟩:QaB)⟩:QaF)).bind fun(b3,d,J,K)=>(if(decide (d≠(0:Int)))=true then(some ((⟨[],[],[],[],(0:Int)⟩:QaA),(⟨J,K,d⟩:QaM)))else((QhT (⟨f,g,b,c,e⟩:QaA)).bind fun a=>(if(decide (a.Code≠(0:Int)))=true then(some ((⟨[],[],[],[],(0:Int)⟩:QaA),(⟨a.Op,(a0.length:Int),a.Code⟩:QaM)))else(some ((⟨f,g,b,c,e⟩:QaA),Q1R))))))))))))))
def QrZ (a0:(List Int)) (o:Value):(QaA×QaM)→Value→IM→HL→Prop:=
 fun(m:(QaA×QaM)) (v:Value) (k:IM) (n:HL)=>match m with |(j,l)=>∃ a b c d e f g i,(.tuple #[(.agg #[a,c,e,g,(.int .i64 j.Last)]),(.agg #[(.string l.Op),(.int .i64 l.At),(.int .i64 l.Code)])])=v∧n=[b,d,f,i]∧OwnS QaG k a j.Brokers b∧OwnS QaI k c j.Topics d∧OwnS QaH k e j.Configs f∧OwnS QaL k g j.Done i
theorem QuQ (a0:(List Int)) (M:IM) (v0:Value) (t:RS (Kd.int .u8) M v0 a0) (v2:(QaA×QaM)) (h:QiJ a0=some v2):
 Tri prog 6 #[v0] M [] (QrZ a0 v0 v2):=by
 unfold QiJ at h
 refine Te func6 Z Z ?_
 intro F ρ C5
 refine Sr (We (Al ze29 Z) Z ?_)
 rintro _ _ _ - ⟨rfl,B,rfl,rfl⟩
 refine We (Al ze36 Z) Z ?_
 rintro _ _ _ - ⟨rfl,C,rfl,rfl⟩
 refine Ns (qM v0 (C5 0) (qu (.agg #[v0,(Iv 0),(Iv 0),(Sv ⟨#[]⟩),(Iv 0)]) (Bl (cl:=[v0,(Iv 0),(Iv 0),(Sv ⟨#[]⟩),(Iv 0)]) ze86 fp86 (Parts.cons ((congrArg Value.cells (show ev _ _=v0 from Z)).trans t.cells) Pz) Z) (We (box (cs:=#[v0,(Iv 0),(Iv 0),(Sv ⟨#[]⟩),(Iv 0)]) (congrArg Value.cells (show ev _ _=(.agg #[v0,(Iv 0),(Iv 0),(Sv ⟨#[]⟩),(Iv 0)]) from Z))) Z ?_)))
 rintro _ _ _ - ⟨rfl,a,rfl,rfl⟩
 refine qa (pt a 0) (Ns (qu (.agg z29_.toArray) (Bl (cl:=z29_) ze29 fp29 Pz Z) (We (Al ze29 Z) Z ?_)))
 rintro _ _ _ - ⟨rfl,g,rfl,rfl⟩
 refine We (Sg (v:=(.agg z29_.toArray)) (vl:=z29_) (arr':=z29_) Z sz29 Z Z (onb Z) Z Z Z) Z ?_
 rintro _ _ _ - ⟨rfl,rfl⟩
 refine Ns (qm (pt a 0) ?_)
 obtain ⟨⟨j,v3,v4,v5,v6⟩,v7,h⟩:=bnd h
 refine WL.f1 (We (Cb co35 (Qa3 (⟨a0,(⟨(0:Int),(0:Int),(⟨#[]⟩:ByteArray),(0:Int)⟩:QaB)⟩:QaF) (1073741824:Int) _ _ _ t (j,v3,v4,v5,v6) v7) (QaS Z Z)) Z ?_)
 rintro _ F1 _ j9 ⟨_,⟨rfl,rfl⟩,rfl⟩
 refine WL.a1 (qu (pt g 4) (Fa QmS Z Z) (WL.f1 (We (Es (Iv j) [Zs,Zs,Zs,Zs,(Iv j)] Z sz3 Z Z Z Z Z Z) Z ?_)))
 rintro _ _ _ - ⟨rfl,rfl⟩
 refine Ns (qm (pt a 0) ?_)
 obtain ⟨⟨v8,v9,w0,w1,w2⟩,w3,h⟩:=bnd h
 refine WL.f1 ?_
 have t:=t.mono j9
 refine We (Cb co36 (Qm9 (⟨a0,(⟨v3,v4,v5,v6⟩:QaB)⟩:QaF) _ _ _ t (v8,v9,w0,w1,w2) w3) (Qb2 Z)) Z ?_
 rintro _ F2 _ k0 ⟨_,⟨c,D,rfl,rfl,R⟩,rfl⟩
 refine WL.a2 (qu (pt g 0) (Fa QeU Z Z) (Wb (We (Es c [c,Zs,Zs,Zs,(Iv j)] R.cells sz24 Z Z (Ow R) Z Z Z) Z ?_)))
 rintro _ _ _ - ⟨rfl,rfl⟩
 refine Ns (qm (pt a 0) ?_)
 obtain ⟨⟨i1,A4,A5,A6,A7⟩,w4,h⟩:=bnd h
 refine WL.f1 ?_
 have t:=t.mono k0
 refine We (Cb co35 (Qa3 (⟨a0,(⟨v9,w0,w1,w2⟩:QaB)⟩:QaF) (256:Int) _ _ _ t (i1,A4,A5,A6,A7) w4) (QaS Z Z)) Z ?_
 rintro _ w5 _ d2 ⟨_,⟨rfl,rfl⟩,rfl⟩
 refine WL.a1 (qa (Iv i1) (Nt ?_))
 obtain ⟨w6,w7,h⟩:=bnd h
 refine Jf (fun(p_:(Int×Int×ByteArray×Int×(List QaE))) d M' H'=>match p_ with |(r5,r6,r7,r8,r9)=>∃ f E,w5.le M'∧[(a, .cells #[v0,(Iv r5),(Iv r6),(Sv r7),(Iv r8)] 86 (0,0))]::[(g, .cells #[c,f,Zs,Zs,(Iv j)] 29 (0,0))]::[(C, .cells #[(Sv ⟨#[]⟩),(Iv 0),(Iv 0)] 36 (0,0))]::[(B, .cells z29_.toArray 29 (0,0))]::D::E::F=H'∧d 0=v0∧d 2=(pt B 0)∧d 3=(pt C 0)∧d 4=(pt a 0)∧d 5=(pt g 0)∧OwnS QaI M' f r9 E) w6 ?_ ?_
 have h:=w7
 refine Sr (qa (Iv 0) (Nt (Bk (WC.e0 (WC.f3 (WC.f5 (WC.f5 (WC.f5 (WC.f5 ?_)))))))))
 obtain ⟨F3,w8,w9⟩:=bnd h
 clear h
 refine WC.loop w8 (fun(p_:(Int×Int×Int×ByteArray×Int×(List QaE))) d M' H'=>match p_ with |(c9,k2,e5,k3,k4,k5)=>∃ d0 e6,w5.le M'∧[(a, .cells #[v0,(Iv k2),(Iv e5),(Sv k3),(Iv k4)] 86 (0,0))]::[(g, .cells #[c,d0,Zs,Zs,(Iv j)] 29 (0,0))]::[(C, .cells #[(Sv ⟨#[]⟩),(Iv 0),(Iv 0)] 36 (0,0))]::[(B, .cells z29_.toArray 29 (0,0))]::D::e6::F=H'∧d 0=v0∧d 2=(pt B 0)∧d 3=(pt C 0)∧d 4=(pt a 0)∧d 5=(pt g 0)∧d 6=(Iv i1)∧d 7=(Iv c9)∧OwnS QaI M' d0 k5 e6) ?_ ?_
 exact⟨Zs,[],lr,Z,(C5 0),Z,Z,Z,Z,Z,Z,(OwnS.nil _ _)⟩
 rintro ⟨c9,k2,e5,k3,k4,k5⟩ F4 F5 A8 F6 h ⟨d0,e6,i2,rfl,i5,i6,i7,d3,i8,d4,d5,d1⟩
 unfold Qg7 at h
 refine Cs ?_
 obtain ⟨s0,x0,h⟩:=bnd h
 refine Jf (fun(s0:Bool) d M' H'=>A8.le M'∧[(a, .cells #[v0,(Iv k2),(Iv e5),(Sv k3),(Iv k4)] 86 (0,0))]::[(g, .cells #[c,d0,Zs,Zs,(Iv j)] 29 (0,0))]::[(C, .cells #[(Sv ⟨#[]⟩),(Iv 0),(Iv 0)] 36 (0,0))]::[(B, .cells z29_.toArray 29 (0,0))]::D::e6::F=H'∧d 0=v0∧d 2=(pt B 0)∧d 3=(pt C 0)∧d 4=(pt a 0)∧d 5=(pt g 0)∧d 6=(Iv i1)∧d 7=(Iv c9)∧d 36=(Bv s0)) s0 ?_ ?_
 have h:=x0
 refine Cg (qM (Iv c9) d5 (qM (Iv i1) d4 (qu (Bv (decide (c9<i1))) (lss Z Z) (qm (Bv (decide (c9<i1))) ?_))))
 rcases Bi h with⟨S,h⟩ |⟨S,h⟩
 refine On 29 Z Z S (qM (pt a 0) d3 (qo 29 S (pt a 0) (Nk Z) (qo 29 S (pt a 1) (Fa Qb1 Z Z) (qo 29 S (pt a 2) (Fa QlB Z Z) (qo 29 S (Iv e5) (Lb 0 pl34 Z Z Z) (qo 29 S (Bv (decide (e5=0))) (eql Z Z) (qu (Bv (decide (e5=0))) (Pt Z S Z) (Wz ?_))))))))
 obtain rfl:=oi h
 exact Tj ⟨lr,Z,i5,i6,i7,d3,i8,d4,d5,Z⟩
 iterate 6 refine Of 29 Z Z S Z ?_
 refine qu (Bv false) (Pf Z S Z) (Wz ?_)
 obtain rfl:=oi h
 exact Tj ⟨lr,Z,i5,i6,i7,d3,i8,d4,d5,Z⟩
 rintro F7 F8 F9 ⟨b9,rfl,i9,j0,j1,d6,b6,n6,n7,k6⟩
 refine Ch h k6 (fun x1 h=> ?_) (fun x1 h=> ?_)
 refine Ck (Tc (Cs (Bk (Sr (qM (pt a 0) d6 ?_)))))
 obtain ⟨⟨V,x2,x3,x4,x5⟩,x6,h⟩:=bnd h
 have t:=t.mono ((d2.trans i2).trans b9)
 refine We (Cb co37 (QoZ (⟨a0,(⟨k2,e5,k3,k4⟩:QaB)⟩:QaF) _ _ _ t (V,x2,x3,x4,x5) x6) (Qb2 Z)) Z ?_
 rintro _ A9 _ k7 ⟨_,⟨m,n8,rfl,rfl,j2⟩,rfl⟩
 refine WL.a2 (We (Al ze50 Z) Z ?_)
 rintro _ _ _ - ⟨rfl,G0,rfl,rfl⟩
 refine We (Sg (v:=(a50_ V m)) (vl:=(l50 V m)) (arr':=(l50 V m)) Z sz50 Z Z (QaX (Oc Z (Oc Z (Oc (Ow j2) Oz)))) Z Z Z) Z ?_
 rintro _ _ _ - ⟨rfl,rfl⟩
 refine Nt (Cg (qu (pt g 1) (Fa QcB b6 Z) (qu d0 (Lb 3 pl25 Z Z Z) (qu (a50_ V m) (La (cs:=(l50 V m)) 0 ag50 sz50 Z Z Z) (Wb (WL.know (fun _ hs=>j2.rs hs) (fun x7=> ?_)))))))
 refine WL.freeze (fun k8=> ?_)
 refine We (buildSliceL (cl:=(l50 V m)) underlying25 iz50 Z (Pc (a50_ V m) Z Z Pz) Z) Z ?_
 rintro _ _ _ - ⟨rfl,x8,rfl,rfl⟩
 have B0:OwnS QaI (A9.add n8) (.slice (some ⟨x8,0,none⟩) 1 1) [V] [(x8, .cells (l50 V m).toArray 50 (0,0))]:=OwnS.rows (css:=[(l50 V m)]) (Rows.cons (QhN (x:=V) x7) Rows.nil) Z Z
 obtain ⟨x9,h⟩:=Qa1 h
 refine WL.f7 ?_
 have d1:=d1.mono ((b9.trans k7).trans k8)
 refine We (append (dd:=QaI) (xs:=k5) (ys:=[V]) underlying25 underlying25 in50 Z (appB (by decide) x9) (by decide) Z Z d1 (B0.src 1 Z)) Z ?_
 rintro s1 _ _ - ⟨rfl,B1,rfl,s2⟩
 refine qu (pt g 1) (Fa QcB b6 Z) (WL.f4 (We (Es s1 [c,s1,Zs,Zs,(Iv j)] s2.cells sz25 Z Z (Ow s2) Z Z Z) Z ?_))
 rintro _ _ _ - ⟨rfl,rfl⟩
 refine Wz (Bn (Tc (Cg (qM (Iv c9) n7 (qu (Iv (i64.wrap (c9+1))) (add Z Z) (qa (Iv (i64.wrap (c9+1))) (Wz (Qb (Dr (Qb (Dr ?_)))))))))))
 exact Qa (WQ.f5 (WQ.f5 (WQ.f5 (WQ.f4 (WQ.f5 (WQ.again (i64.wrap (c9+1),x2,x3,x4,x5,k5++[V]) (oi h).symm ⟨s1,B1,(((i2.trans b9).trans k7).trans k8),Z,i9,j0,j1,d6,b6,n6,Z,s2⟩))))))
 refine WC.exit (WQ.thenE (WQ.leaveE (k2,e5,k3,k4,k5) (oi h).symm (fun s3=> ?_)))
 subst s3
 have h:=w9
 refine WQ.blockH ?_
 obtain rfl:=oi h
 refine Tj ?_
 have d1:=d1.mono b9
 exact⟨d0,e6,(i2.trans b9),Z,i9,j0,j1,d6,b6,d1⟩
 obtain ⟨r5,r6,r7,r8,r9⟩:=w6
 rintro G1 G2 G3 ⟨f,E,i3,rfl,n9,o0,o1,j3,o2,b3⟩
 have B2:=((j9.trans k0).trans d2).trans i3
 refine Sr (qM (pt a 0) j3 ?_)
 obtain ⟨⟨i4,B3,B4,y0,y1⟩,s4,h⟩:=bnd h
 have t:=t.mono (d2.trans i3)
 refine We (Cb co35 (Qa3 (⟨a0,(⟨r5,r6,r7,r8⟩:QaB)⟩:QaF) (1073741824:Int) _ _ _ t (i4,B3,B4,y0,y1) s4) (QaS Z Z)) Z ?_
 rintro _ o5 _ W ⟨_,⟨rfl,rfl⟩,rfl⟩
 have y2:=B2.trans W
 refine WL.a1 (qa (Iv i4) (Nt ?_))
 obtain ⟨o6,s5,h⟩:=bnd h
 refine Jf (fun(p_:(Int×Int×ByteArray×Int×(List QaJ))) d M' H'=>match p_ with |(k9,l0,l1,l2,l3)=>∃ e G,o5.le M'∧[(a, .cells #[v0,(Iv k9),(Iv l0),(Sv l1),(Iv l2)] 86 (0,0))]::[(g, .cells #[c,f,e,Zs,(Iv j)] 29 (0,0))]::[(C, .cells #[(Sv ⟨#[]⟩),(Iv 0),(Iv 0)] 36 (0,0))]::[(B, .cells z29_.toArray 29 (0,0))]::D::E::G::F=H'∧d 0=v0∧d 2=(pt B 0)∧d 3=(pt C 0)∧d 4=(pt a 0)∧d 5=(pt g 0)∧OwnS QaH M' e l3 G) o6 ?_ ?_
 have h:=s5
 refine Sr (qa (Iv 0) (Nt (Bk (WC.e0 (WC.f6 (WC.f6 (WC.f6 (WC.f6 (WC.f6 (WC.f6 ?_))))))))))
 obtain ⟨C6,s6,s7⟩:=bnd h
 clear h
 refine WC.loop s6 (fun(p_:(Int×Int×Int×ByteArray×Int×(List QaJ))) d M' H'=>match p_ with |(T,e7,b4,e8,e9,f0)=>∃ a8 c0,o5.le M'∧[(a, .cells #[v0,(Iv e7),(Iv b4),(Sv e8),(Iv e9)] 86 (0,0))]::[(g, .cells #[c,f,a8,Zs,(Iv j)] 29 (0,0))]::[(C, .cells #[(Sv ⟨#[]⟩),(Iv 0),(Iv 0)] 36 (0,0))]::[(B, .cells z29_.toArray 29 (0,0))]::D::E::c0::F=H'∧d 0=v0∧d 2=(pt B 0)∧d 3=(pt C 0)∧d 4=(pt a 0)∧d 5=(pt g 0)∧d 6=(Iv i4)∧d 9=(Iv T)∧OwnS QaH M' a8 f0 c0) ?_ ?_
 exact⟨Zs,[],lr,Z,n9,o0,o1,j3,o2,Z,Z,(OwnS.nil _ _)⟩
 rintro ⟨T,e7,b4,e8,e9,f0⟩ C7 C8 y3 C9 h ⟨a8,c0,d7,rfl,f2,g0,g1,c1,g2,c2,c3,a9⟩
 unfold Qg8 at h
 refine Cs ?_
 obtain ⟨l4,s8,h⟩:=bnd h
 refine Jf (fun(l4:Bool) d M' H'=>y3.le M'∧[(a, .cells #[v0,(Iv e7),(Iv b4),(Sv e8),(Iv e9)] 86 (0,0))]::[(g, .cells #[c,f,a8,Zs,(Iv j)] 29 (0,0))]::[(C, .cells #[(Sv ⟨#[]⟩),(Iv 0),(Iv 0)] 36 (0,0))]::[(B, .cells z29_.toArray 29 (0,0))]::D::E::c0::F=H'∧d 0=v0∧d 2=(pt B 0)∧d 3=(pt C 0)∧d 4=(pt a 0)∧d 5=(pt g 0)∧d 6=(Iv i4)∧d 9=(Iv T)∧d 59=(Bv l4)) l4 ?_ ?_
 have h:=s8
 refine Cg (qM (Iv T) c3 (qM (Iv i4) c2 (qu (Bv (decide (T<i4))) (lss Z Z) (qm (Bv (decide (T<i4))) ?_))))
 rcases Bi h with⟨r,h⟩ |⟨r,h⟩
 refine On 52 Z Z r (qM (pt a 0) c1 (qo 52 r (pt a 0) (Nk Z) (qo 52 r (pt a 1) (Fa Qb1 Z Z) (qo 52 r (pt a 2) (Fa QlB Z Z) (qo 52 r (Iv b4) (Lb 0 pl34 Z Z Z) (qo 52 r (Bv (decide (b4=0))) (eql Z Z) (qu (Bv (decide (b4=0))) (Pt Z r Z) (Wz ?_))))))))
 obtain rfl:=oi h
 exact Tj ⟨lr,Z,f2,g0,g1,c1,g2,c2,c3,Z⟩
 iterate 6 refine Of 52 Z Z r Z ?_
 refine qu (Bv false) (Pf Z r Z) (Wz ?_)
 obtain rfl:=oi h
 exact Tj ⟨lr,Z,f2,g0,g1,c1,g2,c2,c3,Z⟩
 rintro D0 D1 D2 ⟨X,rfl,g3,g4,g5,I,Y,l5,l6,j6⟩
 refine Ch h j6 (fun s9 h=> ?_) (fun s9 h=> ?_)
 refine Ck (Tc (Cs (Bk (Sr (qu (.agg z74_.toArray) (Bl (cl:=z74_) ze74 fp74 Pz Z) (We (Al ze74 Z) Z ?_))))))
 rintro _ _ _ - ⟨rfl,l7,rfl,rfl⟩
 refine We (Sg (v:=(.agg z74_.toArray)) (vl:=z74_) (arr':=z74_) Z sz74 Z Z (onb Z) Z Z Z) Z ?_
 rintro _ _ _ - ⟨rfl,rfl⟩
 refine Ns (qM (pt a 0) I ?_)
 obtain ⟨⟨n,o7,o8,o9,p0⟩,t0,h⟩:=bnd h
 refine WL.f1 ?_
 have t:=t.mono ((W.trans d7).trans X)
 refine We (Cb co35 (Qa3 (⟨a0,(⟨e7,b4,e8,e9⟩:QaB)⟩:QaF) (1073741824:Int) _ _ _ t (n,o7,o8,o9,p0) t0) (QaS Z Z)) Z ?_
 rintro _ D3 _ d8 ⟨_,⟨rfl,rfl⟩,rfl⟩
 refine WL.a1 (qu (pt l7 0) (Fa QeP Z Z) (WL.f1 (We (Es (Iv n) [(Iv n),(Sv ⟨#[]⟩),(Sv ⟨#[]⟩)] Z sz3 Z Z Z Z Z Z) Z ?_)))
 rintro _ _ _ - ⟨rfl,rfl⟩
 refine Ns (qM (pt a 0) I ?_)
 obtain ⟨⟨l,p1,p2,p3,p4⟩,t1,h⟩:=bnd h
 refine WL.f1 ?_
 have t:=t.mono d8
 refine We (Cb co38 (QeT (⟨a0,(⟨o7,o8,o9,p0⟩:QaB)⟩:QaF) (40:Int) _ _ _ t (l,p1,p2,p3,p4) t1) (QaS Z Z)) Z ?_
 rintro _ D4 _ d9 ⟨_,⟨B5,rfl,rfl,t2⟩,rfl⟩
 refine WL.a1 (qu (Sv (strOfNums l)) (b2s (ys:=l) underlying22 underlying5 underlying9 Z (t2.src _)) (qu (pt l7 1) (Fa QgQ Z Z) (WL.f1 (We (Es (Sv (strOfNums l)) [(Iv n),(Sv (strOfNums l)),(Sv ⟨#[]⟩)] Z sz9 Z Z Z Z Z Z) Z ?_))))
 rintro _ _ _ - ⟨rfl,rfl⟩
 refine Ns (qM (pt a 0) I ?_)
 obtain ⟨⟨o,p5,p6,p7,p8⟩,t3,h⟩:=bnd h
 refine WL.f1 ?_
 have t:=t.mono d9
 refine We (Cb co38 (QeT (⟨a0,(⟨p1,p2,p3,p4⟩:QaB)⟩:QaF) (256:Int) _ _ _ t (o,p5,p6,p7,p8) t3) (QaS Z Z)) Z ?_
 rintro _ y4 _ j4 ⟨_,⟨B6,rfl,rfl,t4⟩,rfl⟩
 refine WL.a1 (qu (Sv (strOfNums o)) (b2s (ys:=o) underlying22 underlying5 underlying9 Z (t4.src _)) (qu (pt l7 2) (Fa QgR Z Z) (WL.f1 (We (Es (Sv (strOfNums o)) [(Iv n),(Sv (strOfNums l)),(Sv (strOfNums o))] Z sz9 Z Z Z Z Z Z) Z ?_))))
 rintro _ _ _ - ⟨rfl,rfl⟩
 refine Nt (Cg (qu (pt g 2) (Fa QdY Y Z) (qu a8 (Lb 2 pl26 Z Z Z) (qu (.agg #[(Iv n),(Sv (strOfNums l)),(Sv (strOfNums o))]) (La (cs:=[(Iv n),(Sv (strOfNums l)),(Sv (strOfNums o))]) 0 ag74 sz74 Z Z Z) (We (buildSliceL (cl:=[(Iv n),(Sv (strOfNums l)),(Sv (strOfNums o))]) underlying26 iz74 Z (Pc (.agg #[(Iv n),(Sv (strOfNums l)),(Sv (strOfNums o))]) Z Z Pz) Z) Z ?_)))))
 rintro _ _ _ - ⟨rfl,p9,rfl,rfl⟩
 have y5:OwnS QaH y4 (.slice (some ⟨p9,0,none⟩) 1 1) [(⟨n,strOfNums l,strOfNums o⟩:QaJ)] [(p9, .cells #[(Iv n),(Sv (strOfNums l)),(Sv (strOfNums o))] 74 (0,0))]:=OwnS.rows (css:=[[(Iv n),(Sv (strOfNums l)),(Sv (strOfNums o))]]) (Rows.cons (Qd4 (x:=(⟨n,strOfNums l,strOfNums o⟩:QaJ))) Rows.nil) Z Z
 obtain ⟨t5,h⟩:=Qa1 h
 refine WL.f8 ?_
 have a9:=a9.mono (((X.trans d8).trans d9).trans j4)
 refine We (append (dd:=QaH) (xs:=f0) (ys:=[(⟨n,strOfNums l,strOfNums o⟩:QaJ)]) underlying26 underlying26 in74 Z (appB (by decide) t5) (by decide) Z Z a9 (y5.src 1 Z)) Z ?_
 rintro l8 _ _ - ⟨rfl,y6,rfl,l9⟩
 refine qu (pt g 2) (Fa QdY Y Z) (WL.f4 (We (Es l8 [c,f,l8,Zs,(Iv j)] l9.cells sz26 Z Z (Ow l9) Z Z Z) Z ?_))
 rintro _ _ _ - ⟨rfl,rfl⟩
 refine Wz (Bn (Tc (Cg (qM (Iv T) l6 (qu (Iv (i64.wrap (T+1))) (add Z Z) (qa (Iv (i64.wrap (T+1))) (Wz (Qb (Dr (Qb (Dr ?_)))))))))))
 exact Qa (WQ.f6 (WQ.f6 (WQ.f6 (WQ.f6 (WQ.f5 (WQ.f6 (WQ.again (i64.wrap (T+1),p5,p6,p7,p8,f0++[(⟨n,strOfNums l,strOfNums o⟩:QaJ)]) (oi h).symm ⟨l8,y6,((((d7.trans X).trans d8).trans d9).trans j4),Z,g3,g4,g5,I,Y,l5,Z,l9⟩)))))))
 refine WC.exit (WQ.thenE (WQ.leaveE (e7,b4,e8,e9,f0) (oi h).symm (fun o3=> ?_)))
 subst o3
 have h:=s7
 refine WQ.blockH ?_
 obtain rfl:=oi h
 refine Tj ?_
 have a9:=a9.mono X
 exact⟨a8,c0,(d7.trans X),Z,g3,g4,g5,I,Y,a9⟩
 obtain ⟨k9,l0,l1,l2,l3⟩:=o6
 rintro D5 D6 D7 ⟨e,G,b7,rfl,m0,m1,m2,g6,m3,J⟩
 have y7:=y2.trans b7
 refine Sr (qM (pt a 0) g6 ?_)
 obtain ⟨⟨c4,y8,y9,z0,z1⟩,t6,h⟩:=bnd h
 have t:=t.mono (W.trans b7)
 refine We (Cb co35 (Qa3 (⟨a0,(⟨k9,l0,l1,l2⟩:QaB)⟩:QaF) (64:Int) _ _ _ t (c4,y8,y9,z0,z1) t6) (QaS Z Z)) Z ?_
 rintro _ q0 _ P ⟨_,⟨rfl,rfl⟩,rfl⟩
 have z2:=y7.trans P
 refine WL.a1 (qa (Iv c4) (Nt ?_))
 obtain ⟨q1,t7,h⟩:=bnd h
 refine Jf (fun(p_:(Int×Int×ByteArray×Int×(List QaT))) d M' H'=>match p_ with |(m4,m5,m6,m7,m8)=>∃ k c5,q0.le M'∧[(a, .cells #[v0,(Iv m4),(Iv m5),(Sv m6),(Iv m7)] 86 (0,0))]::[(g, .cells #[c,f,e,k,(Iv j)] 29 (0,0))]::[(C, .cells #[(Sv ⟨#[]⟩),(Iv 0),(Iv 0)] 36 (0,0))]::[(B, .cells z29_.toArray 29 (0,0))]::D::E::G::c5::F=H'∧d 0=v0∧d 2=(pt B 0)∧d 3=(pt C 0)∧d 4=(pt a 0)∧d 5=(pt g 0)∧OwnS QaL M' k m8 c5) q1 ?_ ?_
 have h:=t7
 refine Sr (qa (Iv 0) (Nt (Bk (WC.e0 (WC.f7 (WC.f7 (WC.f7 (WC.f7 (WC.f7 (WC.f7 (WC.f7 ?_)))))))))))
 obtain ⟨D8,t8,t9⟩:=bnd h
 clear h
 refine WC.loop t8 (fun(p_:(Int×Int×Int×ByteArray×Int×(List QaT))) d M' H'=>match p_ with |(U,g7,b5,g8,g9,h1)=>∃ b0 c6,q0.le M'∧[(a, .cells #[v0,(Iv g7),(Iv b5),(Sv g8),(Iv g9)] 86 (0,0))]::[(g, .cells #[c,f,e,b0,(Iv j)] 29 (0,0))]::[(C, .cells #[(Sv ⟨#[]⟩),(Iv 0),(Iv 0)] 36 (0,0))]::[(B, .cells z29_.toArray 29 (0,0))]::D::E::G::c6::F=H'∧d 0=v0∧d 2=(pt B 0)∧d 3=(pt C 0)∧d 4=(pt a 0)∧d 5=(pt g 0)∧d 6=(Iv c4)∧d 11=(Iv U)∧OwnS QaL M' b0 h1 c6) ?_ ?_
 exact⟨Zs,[],lr,Z,m0,m1,m2,g6,m3,Z,Z,(OwnS.nil _ _)⟩
 rintro ⟨U,g7,b5,g8,g9,h1⟩ D9 E0 z3 E1 h ⟨b0,c6,e1,rfl,h2,h3,h4,c7,h5,c8,b1,b2⟩
 unfold Qg9 at h
 refine Cs ?_
 obtain ⟨m9,u0,h⟩:=bnd h
 refine Jf (fun(m9:Bool) d M' H'=>z3.le M'∧[(a, .cells #[v0,(Iv g7),(Iv b5),(Sv g8),(Iv g9)] 86 (0,0))]::[(g, .cells #[c,f,e,b0,(Iv j)] 29 (0,0))]::[(C, .cells #[(Sv ⟨#[]⟩),(Iv 0),(Iv 0)] 36 (0,0))]::[(B, .cells z29_.toArray 29 (0,0))]::D::E::G::c6::F=H'∧d 0=v0∧d 2=(pt B 0)∧d 3=(pt C 0)∧d 4=(pt a 0)∧d 5=(pt g 0)∧d 6=(Iv c4)∧d 11=(Iv U)∧d 92=(Bv m9)) m9 ?_ ?_
 have h:=u0
 refine Cg (qM (Iv U) b1 (qM (Iv c4) c8 (qu (Bv (decide (U<c4))) (lss Z Z) (qm (Bv (decide (U<c4))) ?_))))
 rcases Bi h with⟨s,h⟩ |⟨s,h⟩
 refine On 85 Z Z s (qM (pt a 0) c7 (qo 85 s (pt a 0) (Nk Z) (qo 85 s (pt a 1) (Fa Qb1 Z Z) (qo 85 s (pt a 2) (Fa QlB Z Z) (qo 85 s (Iv b5) (Lb 0 pl34 Z Z Z) (qo 85 s (Bv (decide (b5=0))) (eql Z Z) (qu (Bv (decide (b5=0))) (Pt Z s Z) (Wz ?_))))))))
 obtain rfl:=oi h
 exact Tj ⟨lr,Z,h2,h3,h4,c7,h5,c8,b1,Z⟩
 iterate 6 refine Of 85 Z Z s Z ?_
 refine qu (Bv false) (Pf Z s Z) (Wz ?_)
 obtain rfl:=oi h
 exact Tj ⟨lr,Z,h2,h3,h4,c7,h5,c8,b1,Z⟩
 rintro E2 E3 E4 ⟨a3,rfl,h6,h7,h8,K,a5,n0,j7,j8⟩
 refine Ch h j8 (fun u1 h=> ?_) (fun u1 h=> ?_)
 refine Ck (Tc (Cs (Bk (Sr (qu (.agg #[(Iv 0),(Iv 0),(Iv 0)]) (Bl (cl:=[(Iv 0),(Iv 0),(Iv 0)]) ze78 fp78 Pz Z) (We (Al ze78 Z) Z ?_))))))
 rintro _ _ _ - ⟨rfl,n1,rfl,rfl⟩
 refine We (Sg (v:=(.agg #[(Iv 0),(Iv 0),(Iv 0)])) (vl:=[(Iv 0),(Iv 0),(Iv 0)]) (arr':=[(Iv 0),(Iv 0),(Iv 0)]) Z sz78 Z Z (onb Z) Z Z Z) Z ?_
 rintro _ _ _ - ⟨rfl,rfl⟩
 refine Ns (qM (pt a 0) K ?_)
 obtain ⟨⟨p,q2,q3,q4,q5⟩,u2,h⟩:=bnd h
 refine WL.f1 ?_
 have t:=t.mono ((P.trans e1).trans a3)
 refine We (Cb co35 (Qa3 (⟨a0,(⟨g7,b5,g8,g9⟩:QaB)⟩:QaF) (1073741824:Int) _ _ _ t (p,q2,q3,q4,q5) u2) (QaS Z Z)) Z ?_
 rintro _ E5 _ e2 ⟨_,⟨rfl,rfl⟩,rfl⟩
 refine WL.a1 (qu (pt n1 0) (Fa QrF Z Z) (WL.f1 (We (Es (Iv p) [(Iv p),(Iv 0),(Iv 0)] Z sz3 Z Z Z Z Z Z) Z ?_)))
 rintro _ _ _ - ⟨rfl,rfl⟩
 refine Ns (qM (pt a 0) K ?_)
 obtain ⟨⟨q,q6,q7,q8,q9⟩,u3,h⟩:=bnd h
 refine WL.f1 ?_
 have t:=t.mono e2
 refine We (Cb co35 (Qa3 (⟨a0,(⟨q2,q3,q4,q5⟩:QaB)⟩:QaF) (1073741824:Int) _ _ _ t (q,q6,q7,q8,q9) u3) (QaS Z Z)) Z ?_
 rintro _ E6 _ e3 ⟨_,⟨rfl,rfl⟩,rfl⟩
 refine WL.a1 (qu (pt n1 1) (Fa QpC Z Z) (WL.f1 (We (Es (Iv q) [(Iv p),(Iv q),(Iv 0)] Z sz3 Z Z Z Z Z Z) Z ?_)))
 rintro _ _ _ - ⟨rfl,rfl⟩
 refine Ns (qM (pt a 0) K ?_)
 obtain ⟨⟨u,r0,r1,r2,r3⟩,u4,h⟩:=bnd h
 refine WL.f1 ?_
 have t:=t.mono e3
 refine We (Cb co35 (Qa3 (⟨a0,(⟨q6,q7,q8,q9⟩:QaB)⟩:QaF) (1073741824:Int) _ _ _ t (u,r0,r1,r2,r3) u4) (QaS Z Z)) Z ?_
 rintro _ z4 _ j5 ⟨_,⟨rfl,rfl⟩,rfl⟩
 refine WL.a1 (qu (pt n1 2) (Fa Qs2 Z Z) (WL.f1 (We (Es (Iv u) [(Iv p),(Iv q),(Iv u)] Z sz3 Z Z Z Z Z Z) Z ?_)))
 rintro _ _ _ - ⟨rfl,rfl⟩
 refine Nt (Cg (qu (pt g 3) (Fa QeO a5 Z) (qu b0 (Lb 2 pl27 Z Z Z) (qu (.agg #[(Iv p),(Iv q),(Iv u)]) (La (cs:=[(Iv p),(Iv q),(Iv u)]) 0 ag78 sz78 Z Z Z) (We (buildSliceL (cl:=[(Iv p),(Iv q),(Iv u)]) underlying27 iz78 Z (Pc (.agg #[(Iv p),(Iv q),(Iv u)]) Z Z Pz) Z) Z ?_)))))
 rintro _ _ _ - ⟨rfl,r4,rfl,rfl⟩
 have z5:OwnS QaL z4 (.slice (some ⟨r4,0,none⟩) 1 1) [(⟨p,q,u⟩:QaT)] [(r4, .cells #[(Iv p),(Iv q),(Iv u)] 78 (0,0))]:=OwnS.rows (css:=[[(Iv p),(Iv q),(Iv u)]]) (Rows.cons (QjQ (x:=(⟨p,q,u⟩:QaT))) Rows.nil) Z Z
 obtain ⟨u5,h⟩:=Qa1 h
 refine WL.f9 ?_
 have b2:=b2.mono (((a3.trans e2).trans e3).trans j5)
 refine We (append (dd:=QaL) (xs:=h1) (ys:=[(⟨p,q,u⟩:QaT)]) underlying27 underlying27 in78 Z (appB (by decide) u5) (by decide) Z Z b2 (z5.src 1 Z)) Z ?_
 rintro n2 _ _ - ⟨rfl,z6,rfl,n3⟩
 refine qu (pt g 3) (Fa QeO a5 Z) (WL.f4 (We (Es n2 [c,f,e,n2,(Iv j)] n3.cells sz27 Z Z (Ow n3) Z Z Z) Z ?_))
 rintro _ _ _ - ⟨rfl,rfl⟩
 refine Wz (Bn (Tc (Cg (qM (Iv U) j7 (qu (Iv (i64.wrap (U+1))) (add Z Z) (qa (Iv (i64.wrap (U+1))) (Wz (Qb (Dr (Qb (Dr ?_)))))))))))
 exact Qa (WQ.f7 (WQ.f7 (WQ.f7 (WQ.f7 (WQ.f7 (WQ.f6 (WQ.f7 (WQ.again (i64.wrap (U+1),r0,r1,r2,r3,h1++[(⟨p,q,u⟩:QaT)]) (oi h).symm ⟨n2,z6,((((e1.trans a3).trans e2).trans e3).trans j5),Z,h6,h7,h8,K,a5,n0,Z,n3⟩))))))))
 refine WC.exit (WQ.thenE (WQ.leaveE (g7,b5,g8,g9,h1) (oi h).symm (fun o4=> ?_)))
 subst o4
 have h:=t9
 refine WQ.blockH ?_
 obtain rfl:=oi h
 refine Tj ?_
 have b2:=b2.mono a3
 exact⟨b0,c6,(e1.trans a3),Z,h6,h7,h8,K,a5,b2⟩
 obtain ⟨m4,m5,m6,m7,m8⟩:=q1
 rintro E7 E8 E9 ⟨k,c5,a6,rfl,h9,w,y,i,i0,L⟩
 have z7:=z2.trans a6
 refine Sr (qM (pt a 0) i ?_)
 obtain ⟨⟨z8,z,N,O⟩,u6,h⟩:=bnd h
 have t:=t.mono (P.trans a6)
 refine We (Cb co39 (Qn0 (⟨a0,(⟨m4,m5,m6,m7⟩:QaB)⟩:QaF) _ _ _ t (z8,z,N,O) u6) (Qb2 Z)) Z ?_
 rintro _ F0 _ Q ⟨_,⟨rfl,rfl⟩,rfl⟩
 have n4:=z7.trans Q
 refine WL.a1 (Nt (Cs (Sr (qM (pt a 0) i (qu (pt a 0) (Nk Z) (qu (pt a 1) (Fa Qb1 Z Z) (qu (pt a 2) (Fa QlB Z Z) (qu (Iv z) (Lb 0 pl34 Z Z Z) (qu (Bv (decide (z≠0))) (neq Z Z) (Nt (Ch h Z (fun u7 h=> ?_) (fun u7 h=> ?_))))))))))))
 refine Cs (WC.draw [0,0,2,6,14,30,0,64,192,448,960,0,2048,6144,14336,30720,65534,1,262143] (.pure 0 (.pure 1 (.pure 2 (.pure 3 (.pure 4 (.pure 5 (.pure 6 (.pure 7 (.pure 8 (.pure 9 (.pure 10 (.pure 11 (.pure 12 (.pure 13 (.pure 14 (.pure 15 (.pure 16 (.alt 17 (.alt 18 .done .none) .none)))))))))))))))))) Qc3 (by kernel_rfl) (qt (.agg z29_.toArray) Z (Bl (cl:=z29_) ze29 fp29 Pz Z) (qt (pt a 0) Z (Mv i) (qt (pt a 0) Z (Nk Z) (qt (pt a 1) Z (Fa Qb1 Z Z) (qt (pt a 3) Z (Fa Q32 Z Z) (qt (Sv N) Z (Lb 0 pl9 Z Z Z) (qt (pt a 0) Z (Mv i) (qt (pt a 0) Z (Nk Z) (qt (pt a 1) Z (Fa Qb1 Z Z) (qt (pt a 4) Z (Fa Q33 Z Z) ?_)))))))))))
 refine qt (Iv O) Z (Lb 0 pl3 Z Z Z) (qt (pt a 0) Z (Mv i) (qt (pt a 0) Z (Nk Z) (qt (pt a 1) Z (Fa Qb1 Z Z) (qt (pt a 2) Z (Fa QlB Z Z) (qt (Iv z) Z (Lb 0 pl34 Z Z Z) (qt (.agg #[(Sv N),(Iv O),(Iv z)]) Z (Bl (cl:=[(Sv N),(Iv O),(Iv z)]) ze36 fp36 (Pc (Sv N) Z Z (Pc (Iv O) Z Z (Pc (Iv z) Z Z Pz))) Z) (WT.f3 (Ta Z (Sg (v:=(.agg z29_.toArray)) (vl:=z29_) (arr':=z29_) Z sz29 w Z (onb Z) Z Z Z) Z ?_ ?_))))))))
 rintro _ _ _ - ⟨rfl,rfl⟩
 refine⟨(Ss Z (Bl (cl:=[(Sv N),(Iv O),(Iv z)]) ze36 fp36 (Pc (Sv N) Z Z (Pc (Iv O) Z Z (Pc (Iv z) Z Z Pz))) Z) Z (Ss Z (Lb 1 pl34 Z Z Z) Z (Ss Z (Fa QlB Z Z) Z (Ss Z (Fa Qb1 Z Z) Z (Ss Z (Nk Z) Z (Ss Z (Mv i) Z (Ss Z (Lb 1 pl3 Z Z Z) Z (Ss Z (Fa Q33 Z Z) Z (Ss Z (Fa Qb1 Z Z) Z (Ss Z (Nk Z) Z (Ss Z (Mv i) Z (Ss Z (Lb 1 pl9 Z Z Z) Z (Ss Z (Fa Q32 Z Z) Z (Ss Z (Fa Qb1 Z Z) Z (Ss Z (Nk Z) Z (Ss Z (Mv i) Z (Sl Z))))))))))))))))), ?_⟩
 refine WT.f3 (Ta Z (Sg (v:=(.agg #[(Sv N),(Iv O),(Iv z)])) (vl:=[(Sv N),(Iv O),(Iv z)]) (arr':=[(Sv N),(Iv O),(Iv z)]) Z sz36 y Z (onb Z) Z Z Z) Z ?_ ?_)
 rintro _ _ _ - ⟨rfl,rfl⟩
 refine⟨(Sl Z), ?_⟩
 refine Ti (Tc (Cr (Tr (WQ.e0 (WQ.e0 (WQ.e0 (WQ.e0 (WQ.f6 (Dr (WQ.f6 (Dr ?_)))))))))))
 refine WQ.f6 (Dr (WQ.f6 (Dr (WQ.f6 (Dr (WQ.f6 (Dr (Qa (Qb (WQ.f3 (WQ.f4 ?_)))))))))))
 exact WQ.f5 (Rd h [[],[],[],[]] (fun _ hs=>hs.drop.drop) (QaP Z (RVs.cons (Rc (cs:=z29_) 0 ag29 sz29 w Z Z) (RVs.cons (Rc (cs:=[(Sv N),(Iv O),(Iv z)]) 1 ag36 sz36 y Z Z) RVs.nil))) n4 ⟨Zs,[],Zs,[],Zs,[],Zs,[],Z,Z,(OwnS.nil _ _),(OwnS.nil _ _),(OwnS.nil _ _),(OwnS.nil _ _)⟩)
 exact Tz
 exact Tz
 refine Ck (Tc (Cs (Sr (qu (.agg #[c,f,e,k,(Iv j)]) (La (cs:=[c,f,e,k,(Iv j)]) 1 ag29 sz29 i0 Z Z) ?_))))
 obtain ⟨b,u9,h⟩:=bnd h
 refine WL.f7 (WL.f7 (WL.f7 (WL.f7 ?_)))
 have R:=R.mono ((((((d2.trans i3).trans W).trans b7).trans P).trans a6).trans Q)
 have b3:=b3.mono ((((W.trans b7).trans P).trans a6).trans Q)
 have J:=J.mono ((P.trans a6).trans Q)
 have L:=L.mono Q
 refine We (EO.call4 co40 (Tri.lend R.excl fun G4 G5 z9=>(Tri.lend b3.excl fun w1_ H1_ hs1_=>(Tri.lend J.excl fun w2_ H2_ hs2_=>(Tri.lend L.excl fun w3_ H3_ hs3_=>(QtE (⟨v8,r9,l3,m8,j⟩:QaA) _ _ _ _ _ ((((R.rs z9).mono (IM.le_add _ _)).mono (IM.le_add _ _)).mono (IM.le_add _ _)) ((((b3.mono (IM.le_add _ _)).rs hs1_).mono (IM.le_add _ _)).mono (IM.le_add _ _)) ((((J.mono (IM.le_add _ _)).mono (IM.le_add _ _)).rs hs2_).mono (IM.le_add _ _)) ((((L.mono (IM.le_add _ _)).mono (IM.le_add _ _)).mono (IM.le_add _ _)).rs hs3_) b u9))))) (Qb2 Z)) Z ?_
 rintro _ _ _ A ⟨_,⟨B7,B8,A0,rfl,rfl,⟨B9,C0,A1,rfl,rfl,⟨C1,C2,A2,rfl,rfl,⟨C3,C4,A3,rfl,rfl,⟨rfl,rfl⟩⟩⟩⟩⟩,rfl⟩
 refine WL.a4 (We (Al ze36 Z) Z ?_)
 rintro _ _ _ - ⟨rfl,n5,rfl,rfl⟩
 refine We (Sg (v:=(a36_ b)) (vl:=(l36 b)) (arr':=(l36 b)) Z sz36 Z Z (onb Z) Z Z Z) Z ?_
 rintro _ _ _ - ⟨rfl,rfl⟩
 refine Ns (qu (pt n5 2) (Fa QrD Z Z) (qu (Iv b.Code) (Lb 0 pl34 Z Z Z) (qu (Bv (decide (b.Code≠0))) (neq Z Z) (Nt (Ch h Z (fun v1 h=> ?_) (fun v1 h=> ?_))))))
 refine Cs (WC.draw [0,0,2,0,8,0,32,126,1,511] (.pure 0 (.pure 1 (.pure 2 (.pure 3 (.pure 4 (.pure 5 (.pure 6 (.pure 7 (.alt 8 (.alt 9 .done .none) .none))))))))) Qc3 (by kernel_rfl) (qt (.agg z29_.toArray) Z (Bl (cl:=z29_) ze29 fp29 Pz Z) (qt (pt n5 0) Z (Fa Q1H Z Z) (qt (Sv b.Op) Z (Lb 0 pl9 Z Z Z) (qt v0 Z (Mv h9) ?_)))))
 have t:=t.mono (Q.trans A)
 refine qt (Iv (a0.length:Int)) Z (lenS underlying22 Z t.len) (qt (pt n5 2) Z (Fa QrD Z Z) (qt (Iv b.Code) Z (Lb 0 pl34 Z Z Z) (qt (.agg #[(Sv b.Op),(Iv (a0.length:Int)),(Iv b.Code)]) Z (Bl (cl:=[(Sv b.Op),(Iv (a0.length:Int)),(Iv b.Code)]) ze36 fp36 (Pc (Sv b.Op) Z Z (Pc (Iv (a0.length:Int)) Z Z (Pc (Iv b.Code) Z Z Pz))) Z) (WT.f8 (Ta Z (Sg (v:=(.agg z29_.toArray)) (vl:=z29_) (arr':=z29_) Z sz29 w Z (onb Z) Z Z Z) Z ?_ ?_)))))
 rintro _ _ _ - ⟨rfl,rfl⟩
 refine⟨(Ss Z (Bl (cl:=[(Sv b.Op),(Iv (a0.length:Int)),(Iv b.Code)]) ze36 fp36 (Pc (Sv b.Op) Z Z (Pc (Iv (a0.length:Int)) Z Z (Pc (Iv b.Code) Z Z Pz))) Z) Z (Ss Z (Lb 1 pl34 Z Z Z) Z (Ss Z (Fa QrD Z Z) Z (Ss Z (lenS underlying22 Z t.len) Z (Ss Z (Mv h9) Z (Ss Z (Lb 1 pl9 Z Z Z) Z (Ss Z (Fa Q1H Z Z) Z (Sl Z)))))))), ?_⟩
 refine WT.f8 (Ta Z (Sg (v:=(.agg #[(Sv b.Op),(Iv (a0.length:Int)),(Iv b.Code)])) (vl:=[(Sv b.Op),(Iv (a0.length:Int)),(Iv b.Code)]) (arr':=[(Sv b.Op),(Iv (a0.length:Int)),(Iv b.Code)]) Z sz36 y Z (onb Z) Z Z Z) Z ?_ ?_)
 rintro _ _ _ - ⟨rfl,rfl⟩
 refine⟨(Sl Z), ?_⟩
 refine Ti (Tc (Cr (Tr (WQ.e0 (WQ.e0 (WQ.e0 (WQ.e0 (WQ.f6 (Dr (WQ.f6 (Dr ?_)))))))))))
 refine WQ.f6 (Dr (WQ.f6 (Dr (WQ.f6 (Dr (WQ.f6 (Dr (WQ.f6 (Dr (Qa (Qb ?_)))))))))))
 exact WQ.f3 (WQ.f4 (WQ.f5 (Rd h [[],[],[],[]] (fun _ hs=>hs.drop.drop) (QaP Z (RVs.cons (Rc (cs:=z29_) 0 ag29 sz29 w Z Z) (RVs.cons (Rc (cs:=[(Sv b.Op),(Iv (a0.length:Int)),(Iv b.Code)]) 1 ag36 sz36 y Z Z) RVs.nil))) (n4.trans A) ⟨Zs,[],Zs,[],Zs,[],Zs,[],Z,Z,(OwnS.nil _ _),(OwnS.nil _ _),(OwnS.nil _ _),(OwnS.nil _ _)⟩)))
 exact Tz
 exact Tz
 refine Ck (Tc (Sr (qu (.agg #[c,f,e,k,(Iv j)]) (La (cs:=[c,f,e,k,(Iv j)]) 6 ag29 sz29 i0 Z Z) (qu (.agg #[(Sv ⟨#[]⟩),(Iv 0),(Iv 0)]) (Bl (cl:=[(Sv ⟨#[]⟩),(Iv 0),(Iv 0)]) ze36 fp36 Pz Z) (WL.f8 ?_)))))
 have R:=R.mono A
 have b3:=b3.mono A
 have J:=J.mono A
 have L:=L.mono A
 refine We (Sg (v:=(.agg #[c,f,e,k,(Iv j)])) (vl:=[c,f,e,k,(Iv j)]) (arr':=[c,f,e,k,(Iv j)]) Z sz29 w Z (QaX (Oc (Ow R) (Oc (Ow b3) (Oc (Ow J) (Oc (Ow L) (Oc Z Oz)))))) Z Z Z) Z ?_
 rintro _ _ _ - ⟨rfl,rfl⟩
 refine WL.f8 (We (Sg (v:=(.agg #[(Sv ⟨#[]⟩),(Iv 0),(Iv 0)])) (vl:=[(Sv ⟨#[]⟩),(Iv 0),(Iv 0)]) (arr':=[(Sv ⟨#[]⟩),(Iv 0),(Iv 0)]) Z sz36 y Z (onb Z) Z Z Z) Z ?_)
 rintro _ _ _ - ⟨rfl,rfl⟩
 refine Nt (Cr (Qb (Dr (WQ.f6 (Dr (WQ.f6 (Dr (WQ.f5 (WQ.f5 (WQ.f5 (WQ.f5 ?_)))))))))))
 exact WQ.f4 (WQ.f5 (Rd h [D,E,G,c5] (fun _ hs=>hs.drop.drop) (QaP Z (RVs.cons (Rc (cs:=[c,f,e,k,(Iv j)]) 0 ag29 sz29 w Z Z) (RVs.cons (Rc (cs:=[(Sv ⟨#[]⟩),(Iv 0),(Iv 0)]) 1 ag36 sz36 y Z Z) RVs.nil))) (n4.trans A) ⟨c,D,f,E,e,G,k,c5,Z,Z,R,b3,J,L⟩))
noncomputable def Qd5 (a1:QbP) (d:GErr):Option (GErr⊕(Bool×ByteArray×Int×GErr)):=
 match d with
 |a=>
 (match a with | .nil=>none | .code e=>(some (inr (false,a1.Op,a1.At,a1.Err))) | .fault b a30 c=>(some (inr (true,b,a30,c))) | .other f=>(some (inr (false,a1.Op,a1.At,a1.Err))))
noncomputable def QeH (a0:GErr) (a1:QbP):Option (Bool×ByteArray×Int×GErr):=
 ((iter (Qd5 a1) a0).bind (fun(a,b,c,d)=>(some (a,b,c,d))))
def QmZ (a0:GErr) (a1:QbP) (a b:Nat):(Bool×ByteArray×Int×GErr)→Value→IM→HL→Prop:=
 fun(c:(Bool×ByteArray×Int×GErr)) (v:Value) (j:IM) (d:HL)=>match c with |(e,f,g,i)=>(.bool e)=v∧d=[[(a, .cells #[(.string f),(.int .i64 g),(GV i)] 114 (0,0))],[(b, .cells #[(.pointer (some ⟨a,0,none⟩))] 124 (0,0))]]
theorem QoQ (a0:GErr) (a1:QbP) (M:IM) (l m:Nat) (s:(Bool×ByteArray×Int×GErr)) (h:QeH a0 a1=some s):
 Tri prog 100 #[(GV a0),(.iface 124 (pt l 0)),(.agg #[(pt 1 124),(pt m 0),(Uv 150)]),(.iface 177 (.agg #[.pointer (some ⟨1,114,none⟩)]))] M [[(l, .cells (l114 a1).toArray 114 (0,0))],[(m, .cells #[(pt l 0)] 124 (0,0))]] (QmZ a0 a1 l m s):=by
 unfold QeH at h
 refine Te func100 Z Z ?_
 intro F J w
 refine Sr (We (box (cs:=#[(pt 1 124),(pt m 0),(Uv 150)]) (congrArg Value.cells (asE (.agg #[(pt 1 124),(pt m 0),(Uv 150)]) (w 2)))) Z ?_)
 rintro _ _ _ - ⟨rfl,t,rfl,rfl⟩
 refine qa (Bv false) (Nt (Bk ?_))
 obtain ⟨A,u,n⟩:=bnd h
 clear h
 refine WC.loop u (fun(o:GErr) x B C=>M.le B∧[(t, .cells #[(pt 1 124),(pt m 0),(Uv 150)] 156 (0,0))]::[(l, .cells (l114 a1).toArray 114 (0,0))]::[(m, .cells #[(pt l 0)] 124 (0,0))]::F=C∧x 0=(GV o)∧x 1=(.iface 124 (pt l 0))∧x 3=(.iface 177 (.agg #[.pointer (some ⟨1,114,none⟩)]))∧x 6=(pt t 0)) ?_ ?_
 exact⟨lr,Z,(w 0),(w 1),(w 3),Z⟩
 rintro o D E G I h ⟨g,rfl,a,y,c,q⟩
 unfold Qd5 at h
 refine Bk (Cs (Sr (qM (GV o) a ?_)))
 rcases o with _ |j |⟨e,a30,f⟩ |k
 refine We (extP xt79 (Qb2 (show ev _ _= .nilIface from Z)) Q55) Z ?_
 rintro _ _ _ - ⟨rfl,rfl,rfl⟩
 exact qM (.iface 177 (.agg #[.pointer (some ⟨1,114,none⟩)])) c (Q5I h)
 refine We (extP xt79 (Qb2 (show ev _ _=(.iface 34 (Iv j)) from Z)) (ty34 _)) Z ?_
 rintro _ _ _ - ⟨rfl,rfl,rfl⟩
 refine qM (.iface 177 (.agg #[.pointer (some ⟨1,114,none⟩)])) c (We (invE (show ev _ _=(.iface 177 (.agg #[.pointer (some ⟨1,34,none⟩)])) from Z) (Qf5 (pt 1 34)) Q0P (inv1 Z) QnC) Z ?_)
 rintro _ _ _ - ⟨rfl,rfl,rfl⟩
 refine Nt (WC.condF (b:=false) Z Z (Ck (Tc (Cs (Sr (qM (GV (GErr.code j)) a (qu (.tuple #[.nilIface,(Bv false)]) (asserts (show ev _ _=(.iface 34 (Iv j)) from Z) (Q26 _ _)) (qm (.tuple #[.nilIface,(Bv false)]) (qu .nilIface (Xt Z Z) (qu (Bv false) (Xt Z Z) (qa .nilIface ?_)))))))))))
 refine qa (Bv false) (Ns (qm (Bv false) (qm (Bv false) ?_)))
 iterate 3 refine Of 31 Z Z Z Z ?_
 refine qu (Bv false) (Pf Z Z Z) (Nt (WC.condF (b:=false) Z Z (Ck (Tc (Sr (qM (GV (GErr.code j)) a (Nt (Bk (Sr (qu (.tuple #[.nilIface,(Bv false)]) (asserts (show ev _ _=(.iface 34 (Iv j)) from Z) (QzZ _ _)) (qu (Bv false) (Xt Z Z) ?_)))))))))))
 refine qu .nilIface (Xt Z Z) (Nt (WC.condF (b:=false) Z Z (Sr (qu (.tuple #[.nilIface,(Bv false)]) (asserts (show ev _ _=(.iface 34 (Iv j)) from Z) (Qz0 _ _)) (qu (Bv false) (Xt Z Z) (qu .nilIface (Xt Z Z) (Nt (WC.condF (b:=false) Z Z (Sr (qa (GV (GErr.code j)) (Ns ?_)))))))))))
 refine qa (Bv false) (Nt (Cr (Br (Br (WQ.leaveR (false,a1.Op,a1.At,a1.Err) (oi h).symm (fun d=> ?_))))))
 subst d
 have h:=n
 exact Br (Dr (Rf h [[(l, .cells (l114 a1).toArray 114 (0,0))],[(m, .cells #[(pt l 0)] 124 (0,0))]] Z (Rs Z Z) g ⟨Z,Z⟩))
 refine We (extP xt79 (Qb2 (show ev _ _=(.iface 114 (.agg #[.string e, .int .i64 a30,GV f])) from Z)) (Q54 _)) Z ?_
 rintro _ _ _ - ⟨rfl,rfl,rfl⟩
 refine qM (.iface 177 (.agg #[.pointer (some ⟨1,114,none⟩)])) c (We (invE (show ev _ _=(.iface 177 (.agg #[.pointer (some ⟨1,114,none⟩)])) from Z) (Qf5 (pt 1 114)) Q0P (inv1 Z) QmM) Z ?_)
 rintro _ _ _ - ⟨rfl,rfl,rfl⟩
 refine Nt (WC.condT (b:=true) Z Z (Sr (qu (.agg #[(pt 1 124),(pt m 0),(Uv 150)]) (La (cs:=[(pt 1 124),(pt m 0),(Uv 150)]) 0 QxS QvW q Z Z) (We (rvElem (r:=fun p=> .agg #[(pt 1 114), .pointer (some p), .int .u64 409]) 2 Q57 QxW Z Q5Z Q78 Q8C (Qb2 (show ev _ _=(.agg #[(pt 1 124),(pt m 0),(Uv 150)]) from Z)) Z) Z ?_))))
 rintro _ _ _ - ⟨rfl,rfl,rfl⟩
 refine qM (GV (GErr.fault e a30 f)) a (We (valueOf xt97 (Qb2 (show ev _ _=(.iface 114 (.agg #[.string e, .int .i64 a30,GV f])) from Z)) (Q8F e a30 (GV f))) Z ?_)
 rintro _ _ _ - ⟨rfl,z,rfl,rfl⟩
 refine Wb (We (rvSet (arr:=(l114 a1)) (vl:=[(Sv e),(Iv a30),(GV f)]) (v:=(.agg #[(Sv e),(Iv a30),(GV f)])) Q58 Q1O Q1N Z Q77 (QaS (show ev _ _=(.agg #[(pt 1 114),(pt l 0),(Uv 409)]) from Z) (show ev _ _=(.agg #[(pt 1 114),(pt z 0),(Uv 153)]) from Z)) (fun _ hs=>QyV (cs:=[(Sv e),(Iv a30),(GV f)]) Q7G Q53 (fun i v hi=>by rw [QjF];exact hs.cellC 1 Z (QdW.trans (by simpa using hi)))) Z Q53 Z (QaX (Oc Z (Oc Z (Oc (GErr.val_one _ _ _ _) Oz))))) Z ?_)
 rintro _ _ _ - ⟨rfl,rfl,rfl⟩
 refine Ns (qa (Bv true) (Nt (Cr (Tr (Br (WQ.leaveR (true,e,a30,f) (oi h).symm (fun d=> ?_)))))))
 subst d
 have h:=n
 exact Br (Qa (Dr (Qa (Dr (Rf h [[(l, .cells #[(Sv e),(Iv a30),(GV f)] 114 (0,0))],[(m, .cells #[(pt l 0)] 124 (0,0))]] Z (Rs Z Z) g ⟨Z,Z⟩)))))
 refine We (extP xt79 (Qb2 (show ev _ _=(.iface 0 (.pointer (some k))) from Z)) (ty0 _)) Z ?_
 rintro _ _ _ - ⟨rfl,rfl,rfl⟩
 refine qM (.iface 177 (.agg #[.pointer (some ⟨1,114,none⟩)])) c (We (invE (show ev _ _=(.iface 177 (.agg #[.pointer (some ⟨1,0,none⟩)])) from Z) (Qf5 (pt 1 0)) Q0P (inv1 Z) Qn9) Z ?_)
 rintro _ _ _ - ⟨rfl,rfl,rfl⟩
 refine Nt (WC.condF (b:=false) Z Z (Ck (Tc (Cs (Sr (qM (GV (GErr.other k)) a (qu (.tuple #[.nilIface,(Bv false)]) (asserts (show ev _ _=(.iface 0 (.pointer (some k))) from Z) (Q1I _ _)) (qm (.tuple #[.nilIface,(Bv false)]) (qu .nilIface (Xt Z Z) (qu (Bv false) (Xt Z Z) (qa .nilIface ?_)))))))))))
 refine qa (Bv false) (Ns (qm (Bv false) (qm (Bv false) ?_)))
 iterate 3 refine Of 31 Z Z Z Z ?_
 refine qu (Bv false) (Pf Z Z Z) (Nt (WC.condF (b:=false) Z Z (Ck (Tc (Sr (qM (GV (GErr.other k)) a (Nt (Bk (Sr (qu (.tuple #[.nilIface,(Bv false)]) (asserts (show ev _ _=(.iface 0 (.pointer (some k))) from Z) (Qy2 _ _)) (qu (Bv false) (Xt Z Z) ?_)))))))))))
 refine qu .nilIface (Xt Z Z) (Nt (WC.condF (b:=false) Z Z (Sr (qu (.tuple #[.nilIface,(Bv false)]) (asserts (show ev _ _=(.iface 0 (.pointer (some k))) from Z) (Qy3 _ _)) (qu (Bv false) (Xt Z Z) (qu .nilIface (Xt Z Z) (Nt (WC.condF (b:=false) Z Z (Sr (qa (GV (GErr.other k)) (Ns ?_)))))))))))
 refine qa (Bv false) (Nt (Cr (Br (Br (WQ.leaveR (false,a1.Op,a1.At,a1.Err) (oi h).symm (fun d=> ?_))))))
 subst d
 have h:=n
 exact Br (Dr (Rf h [[(l, .cells (l114 a1).toArray 114 (0,0))],[(m, .cells #[(pt l 0)] 124 (0,0))]] Z (Rs Z Z) g ⟨Z,Z⟩))
noncomputable def QdF (a0:GErr) (a1:QbP):Option (Bool×ByteArray×Int×GErr):=
 (if a0.isNil=true then(some (false,a1.Op,a1.At,a1.Err))else((QeH a0 a1).bind fun(a,b,c,d)=>(some (a,b,c,d))))
def Qm0 (a0:GErr) (a1:QbP) (a:Nat):(Bool×ByteArray×Int×GErr)→Value→IM→HL→Prop:=
 fun(b:(Bool×ByteArray×Int×GErr)) (v:Value) (i:IM) (c:HL)=>match b with |(d,e,f,g)=>(.bool d)=v∧c=[[(a, .cells #[(.string e),(.int .i64 f),(GV g)] 114 (0,0))]]
theorem QkI (a0:GErr) (a1:QbP) (M:IM) (c:Nat) (hE:Env M) (e:(Bool×ByteArray×Int×GErr)) (h:QdF a0 a1=some e):
 Tri prog 67 #[(GV a0),(.iface 124 (pt c 0))] M [[(c, .cells (l114 a1).toArray 114 (0,0))]] (Qm0 a0 a1 c e):=by
 unfold QdF at h
 refine Te func67 Z Z ?_
 intro F p f
 refine Sr (qa (Bv false) (Nt (Cs (Sr (qM (GV a0) (f 0) (qu (Bv a0.isNil) (errNil underlying31 Z) (Nt (Ch h Z (fun g h=> ?_) (fun g h=> ?_)))))))))
 exact Sr (qa (Bv false) (Nt (Cr (Tr (Rf h [[(c, .cells (l114 a1).toArray 114 (0,0))]] Z (Rs Z Z) lr ⟨Z,Z⟩)))))
 refine Ck (Tc (Cs (Sr (qM (.iface 124 (pt c 0)) (f 1) (qu (Bv false) (ifcNil underlying20 Z) (Nt (WC.condF (b:=false) Z Z (Ck (Tc (Sr (qM (.iface 124 (pt c 0)) (f 1) ?_)))))))))))
 refine We (valueOf xt97 (Qb2 (show ev _ _=(.iface 124 (pt c 0)) from Z)) (Q8G ⟨c,0,none⟩)) Z ?_
 rintro _ _ _ - ⟨rfl,a,rfl,rfl⟩
 refine We (Al Q6C Z) Z ?_
 rintro _ _ _ - ⟨rfl,n,rfl,rfl⟩
 refine We (Sg (v:=(.agg #[(pt 1 124),(pt a 0),(Uv 150)])) (vl:=[(pt 1 124),(pt a 0),(Uv 150)]) (arr':=[(pt 1 124),(pt a 0),(Uv 150)]) Z QvW Z Z (onb Z) Z Z Z) Z ?_
 rintro _ _ _ - ⟨rfl,rfl⟩
 refine Ns (qu (.agg #[(pt 1 124),(pt a 0),(Uv 150)]) (La (cs:=[(pt 1 124),(pt a 0),(Uv 150)]) 0 QxS QvW Z Z Z) (We (extP xt98 (Qb2 (show ev _ _=(.agg #[(pt 1 124),(pt a 0),(Uv 150)]) from Z)) (Q1P _)) Z ?_))
 rintro _ _ _ - ⟨rfl,rfl,rfl⟩
 refine qa (.iface 177 (.agg #[.pointer (some ⟨1,124,none⟩)])) (Nt (Cs (Sr (qm (.iface 177 (.agg #[.pointer (some ⟨1,124,none⟩)])) (We (invE (show ev _ _=(.iface 177 (.agg #[.pointer (some ⟨1,124,none⟩)])) from Z) (Qw4 (pt 1 124)) Q29 inv0 Qy7) Z ?_)))))
 rintro _ _ _ - ⟨rfl,rfl,rfl⟩
 refine qu (Bv false) (neqR Z Z (by decide)) (qm (Bv false) (qo 20 Z (.agg #[(pt 1 124),(pt a 0),(Uv 150)]) (La (cs:=[(pt 1 124),(pt a 0),(Uv 150)]) 0 QxS QvW Z Z Z) (On 20 Z Z Z (We (isNil 1 xt99 QxW Z Q5Z (Qb2 (show ev _ _=(.agg #[(pt 1 124),(pt a 0),(Uv 150)]) from Z)) Z) Z ?_))))
 rintro _ _ _ - ⟨rfl,rfl,rfl⟩
 refine qu (Bv false) (Pf Z Z Z) (Nt (WC.condF (b:=false) Z Z (Ck (Tc (Sr (qm (.iface 177 (.agg #[.pointer (some ⟨1,124,none⟩)])) (We (invE (show ev _ _=(.iface 177 (.agg #[.pointer (some ⟨1,124,none⟩)])) from Z) (Q1L (pt 1 124)) Q59 inv0 Qy4) Z ?_)))))))
 rintro _ _ _ - ⟨rfl,rfl,rfl⟩
 refine qa (.iface 177 (.agg #[.pointer (some ⟨1,114,none⟩)])) (Nt (Cs (Sr (qm (.iface 177 (.agg #[.pointer (some ⟨1,114,none⟩)])) (We (invE (show ev _ _=(.iface 177 (.agg #[.pointer (some ⟨1,114,none⟩)])) from Z) (Qw4 (pt 1 114)) Q29 inv0 Qy6) Z ?_)))))
 rintro _ _ _ - ⟨rfl,rfl,rfl⟩
 refine qu (Bv true) (neqR Z Z (by decide)) (qm (Bv true) (On 30 Z Z Z (qm (.iface 177 (.agg #[.pointer (some ⟨1,114,none⟩)])) (qo 30 Z (.iface 177 (.agg #[.pointer (some ⟨1,31,none⟩)])) (loadG Q51 hE) (On 30 Z Z Z (We (invE (show ev _ _=(.iface 177 (.agg #[.pointer (some ⟨1,114,none⟩)])) from Z) (QrG (pt 1 114)) Q6A (inv1 Z) Qo3) Z ?_))))))
 rintro _ _ _ - ⟨rfl,rfl,rfl⟩
 refine qo 30 Z (Bv (!true)) (PO.not Z) (qu (Bv (!true)) (Pt Z Z Z) (Nt (WC.condF (b:= !true) Z Z (Ck (Tc (Sr (qM (GV a0) (f 0) (qM (.iface 124 (pt c 0)) (f 1) (qu (.agg #[(pt 1 124),(pt a 0),(Uv 150)]) (La (cs:=[(pt 1 124),(pt a 0),(Uv 150)]) 0 QxS QvW Z Z Z) (qm (.iface 177 (.agg #[.pointer (some ⟨1,114,none⟩)])) ?_))))))))))
 obtain ⟨⟨i,j,k,l⟩,m,h⟩:=bnd h
 refine WL.f1 (Wb (We (EO.call2 Q5P (QoQ a0 a1 _ _ _ (i,j,k,l) m) (QiO Z Z Z Z)) Z ?_))
 rintro _ o _ d ⟨_,⟨rfl,rfl⟩,rfl⟩
 exact WL.a2 (qa (Bv i) (Nt (Cr (Qa (Dr (Qa (Dr (Rf h [[(c, .cells #[(Sv j),(Iv k),(GV l)] 114 (0,0))]] Z (Rs Z Z) d ⟨Z,Z⟩))))))))
noncomputable def QiS (a0:GErr):Option (Int×Bool):=
 ((QdF a0 (⟨(⟨#[]⟩:ByteArray),(0:Int),GErr.nil⟩:QbP)).bind fun(a,c,b,d)=>(if(!a)=true then(some ((0:Int),false))else(some (b,true))))
def QqM (a0:GErr):(Int×Bool)→Value→IM→HL→Prop:=
 fun(a:(Int×Bool)) (v:Value) (e:IM) (b:HL)=>match a with |(c,d)=>(.tuple #[(.int .i64 c),(.bool d)])=v∧b=[]
theorem QtF (a0:GErr) (M:IM) (hE:Env M) (c:(Int×Bool)) (h:QiS a0=some c):
 Tri prog 41 #[(GV a0)] M [] (QqM a0 c):=by
 unfold QiS at h
 refine Te func41 Z Z ?_
 intro F m k
 refine Sr (qa (Iv 0) (qa (Bv false) (Ns (We (Al Q3A Z) Z ?_))))
 rintro _ _ _ - ⟨rfl,d,rfl,rfl⟩
 refine Nt (Cs (Sr (qM (GV a0) (k 0) (qu (.iface 124 (pt d 0)) (makeInterface Q5O Z) ?_))))
 obtain ⟨⟨e,i,b,j⟩,f,h⟩:=bnd h
 refine We (Cb co67 (QkI a0 (⟨(⟨#[]⟩:ByteArray),(0:Int),GErr.nil⟩:QbP) _ _ hE (e,i,b,j) f) (QaS Z Z)) Z ?_
 rintro _ l _ a ⟨_,⟨rfl,rfl⟩,rfl⟩
 refine WL.a1 (qu (Bv (!e)) (PO.not Z) (Nt (Ch h Z (fun g h=> ?_) (fun g h=> ?_))))
 exact Sr (qa (Iv 0) (qa (Bv false) (Nt (Cr (Tr (Dr (Rf h [] Z (Qg1 Z Z Z) a ⟨Z,Z⟩)))))))
 exact Ck (Tc (Sr (qu (pt d 1) (Fa Q4G Z Z) (qu (Iv b) (Lb 0 pl3 Z Z Z) (qa (Iv b) (qa (Bv true) (Nt (Cr (Dr (Rf h [] Z (Qg1 Z Z Z) a ⟨Z,Z⟩))))))))))
noncomputable def QdP (a1:Int) (f:GErr):Option (GErr⊕(Bool×Int)):=
 match f with
 |b=>
 (match b with | .nil=>none | .code c=>(some (inr (true,c))) | .fault d a28 e=>((Qg2 (⟨d,a28,e⟩:QbP)).bind fun a=>(if a.isNil=true then(some (inr (false,a1)))else(some (inl a)))) | .other g=>(some (inr (false,a1))))
noncomputable def QeX (a0:GErr) (a1:Int):Option (Bool×Int):=
 ((iter (QdP a1) a0).bind (fun(a,b)=>(some (a,b))))
def QnL (a0:GErr) (a1:Int) (a b:Nat):(Bool×Int)→Value→IM→HL→Prop:=
 fun(c:(Bool×Int)) (v:Value) (g:IM) (d:HL)=>match c with |(e,f)=>(.bool e)=v∧d=[[(a, .cells #[(.int .i64 f)] 34 (0,0))],[(b, .cells #[(.pointer (some ⟨a,0,none⟩))] 125 (0,0))]]
theorem QpK (a0:GErr) (a1:Int) (M:IM) (k m:Nat) (u:(Bool×Int)) (h:QeX a0 a1=some u):
 Tri prog 100 #[(GV a0),(.iface 125 (pt k 0)),(.agg #[(pt 1 125),(pt m 0),(Uv 150)]),(.iface 177 (.agg #[.pointer (some ⟨1,34,none⟩)]))] M [[(k, .cells #[(Iv a1)] 34 (0,0))],[(m, .cells #[(pt k 0)] 125 (0,0))]] (QnL a0 a1 k m u):=by
 unfold QeX at h
 refine Te func100 Z Z ?_
 intro F O A
 refine Sr (We (box (cs:=#[(pt 1 125),(pt m 0),(Uv 150)]) (congrArg Value.cells (asE (.agg #[(pt 1 125),(pt m 0),(Uv 150)]) (A 2)))) Z ?_)
 rintro _ _ _ - ⟨rfl,w,rfl,rfl⟩
 refine qa (Bv false) (Nt (Bk ?_))
 obtain ⟨D,x,n⟩:=bnd h
 clear h
 refine WC.loop x (fun(s:GErr) B E G=>M.le E∧[(w, .cells #[(pt 1 125),(pt m 0),(Uv 150)] 156 (0,0))]::[(k, .cells #[(Iv a1)] 34 (0,0))]::[(m, .cells #[(pt k 0)] 125 (0,0))]::F=G∧B 0=(GV s)∧B 1=(.iface 125 (pt k 0))∧B 3=(.iface 177 (.agg #[.pointer (some ⟨1,34,none⟩)]))∧B 6=(pt w 0)) ?_ ?_
 exact⟨lr,Z,(A 0),(A 1),(A 3),Z⟩
 rintro s I J K L h ⟨g,rfl,a,t,c,l⟩
 unfold QdP at h
 refine Bk (Cs (Sr (qM (GV s) a ?_)))
 rcases s with _ |i |⟨d,a28,e⟩ |j
 refine We (extP xt79 (Qb2 (show ev _ _= .nilIface from Z)) Q55) Z ?_
 rintro _ _ _ - ⟨rfl,rfl,rfl⟩
 exact qM (.iface 177 (.agg #[.pointer (some ⟨1,34,none⟩)])) c (Q5I h)
 refine We (extP xt79 (Qb2 (show ev _ _=(.iface 34 (Iv i)) from Z)) (ty34 _)) Z ?_
 rintro _ _ _ - ⟨rfl,rfl,rfl⟩
 refine qM (.iface 177 (.agg #[.pointer (some ⟨1,34,none⟩)])) c (We (invE (show ev _ _=(.iface 177 (.agg #[.pointer (some ⟨1,34,none⟩)])) from Z) (Qf5 (pt 1 34)) Q0P (inv1 Z) QoA) Z ?_)
 rintro _ _ _ - ⟨rfl,rfl,rfl⟩
 refine Nt (WC.condT (b:=true) Z Z (Sr (qu (.agg #[(pt 1 125),(pt m 0),(Uv 150)]) (La (cs:=[(pt 1 125),(pt m 0),(Uv 150)]) 0 QxS QvW l Z Z) (We (rvElem (r:=fun p=> .agg #[(pt 1 34), .pointer (some p), .int .u64 386]) 2 Q57 QxX Z Q50 Q79 mk34 (Qb2 (show ev _ _=(.agg #[(pt 1 125),(pt m 0),(Uv 150)]) from Z)) Z) Z ?_))))
 rintro _ _ _ - ⟨rfl,rfl,rfl⟩
 refine qM (GV (GErr.code i)) a (We (valueOf xt97 (Qb2 (show ev _ _=(.iface 34 (Iv i)) from Z)) (vo34 i)) Z ?_)
 rintro _ _ _ - ⟨rfl,C,rfl,rfl⟩
 refine Wb (We (rvSet (arr:=[(Iv a1)]) (vl:=[(Iv i)]) (v:=(Iv i)) Q58 Q28 Q27 Z da34 (QaS (show ev _ _=(.agg #[(pt 1 34),(pt k 0),(Uv 386)]) from Z) (show ev _ _=(.agg #[(pt 1 34),(pt C 0),(Uv 130)]) from Z)) (fun _ hs=>Ql6 pl34 (hs.cellC 1 Z (QdW.trans Z))) Z sz34 Z (onb Z)) Z ?_)
 rintro _ _ _ - ⟨rfl,rfl,rfl⟩
 refine Ns (qa (Bv true) (Nt (Cr (Tr (Br (WQ.leaveR (true,i) (oi h).symm (fun f=> ?_)))))))
 subst f
 have h:=n
 exact Br (Qa (Dr (Qa (Dr (Rf h [[(k, .cells #[(Iv i)] 34 (0,0))],[(m, .cells #[(pt k 0)] 125 (0,0))]] Z (Rs Z Z) g ⟨Z,Z⟩)))))
 refine We (extP xt79 (Qb2 (show ev _ _=(.iface 114 (.agg #[.string d, .int .i64 a28,GV e])) from Z)) (Q54 _)) Z ?_
 rintro _ _ _ - ⟨rfl,rfl,rfl⟩
 refine qM (.iface 177 (.agg #[.pointer (some ⟨1,34,none⟩)])) c (We (invE (show ev _ _=(.iface 177 (.agg #[.pointer (some ⟨1,114,none⟩)])) from Z) (Qf5 (pt 1 114)) Q0P (inv1 Z) QnB) Z ?_)
 rintro _ _ _ - ⟨rfl,rfl,rfl⟩
 refine Nt (WC.condF (b:=false) Z Z (Ck (Tc (Cs (Sr (qM (GV (GErr.fault d a28 e)) a (qu (.tuple #[.nilIface,(Bv false)]) (asserts (show ev _ _=(.iface 114 (.agg #[.string d, .int .i64 a28,GV e])) from Z) (Q1K _ _)) (qm (.tuple #[.nilIface,(Bv false)]) (qu .nilIface (Xt Z Z) (qu (Bv false) (Xt Z Z) (qa .nilIface ?_)))))))))))
 refine qa (Bv false) (Ns (qm (Bv false) (qm (Bv false) ?_)))
 iterate 3 refine Of 31 Z Z Z Z ?_
 refine qu (Bv false) (Pf Z Z Z) (Nt (WC.condF (b:=false) Z Z (Ck (Tc (Sr (qM (GV (GErr.fault d a28 e)) a (Nt (Bk (Sr (qu (.tuple #[(GV (GErr.fault d a28 e)),(Bv true)]) (asserts (show ev _ _=(.iface 114 (.agg #[.string d, .int .i64 a28,GV e])) from Z) (QxV _ _)) (qu (Bv true) (Xt Z Z) ?_)))))))))))
 refine qu (GV (GErr.fault d a28 e)) (Xt Z Z) (Nt (WC.condT (b:=true) Z Z (Sr (qa (GV (GErr.fault d a28 e)) (Ns (qm (GV (GErr.fault d a28 e)) ?_))))))
 obtain ⟨o,y,h⟩:=bnd h
 refine We (invT (show ev _ _=(.iface 114 (.agg #[.string d, .int .i64 a28,GV e])) from Z) (Qs3 _) Q5W inv0 (Qj5 (⟨d,a28,e⟩:QbP) _ o y)) Z ?_
 rintro _ N _ q ⟨_,⟨rfl,rfl⟩,rfl⟩
 refine WL.a0 (qa (GV o) (Ns (qm (GV o) (qu (Bv o.isNil) (errNil underlying31 Z) (Nt (Ch h Z (fun z h=> ?_) (fun z h=> ?_)))))))
 refine Sr (qa (Bv false) (Nt (Cr (Br (Br (WQ.leaveR (false,a1) (oi h).symm (fun f=> ?_)))))))
 subst f
 have h:=n
 exact Br (Dr (Rf h [[(k, .cells #[(Iv a1)] 34 (0,0))],[(m, .cells #[(pt k 0)] 125 (0,0))]] Z (Rs Z Z) (g.trans q) ⟨Z,Z⟩))
 exact Ck (Bn (Bn (WQ.again o (oi h).symm ⟨(g.trans q),Z,Z,t,c,l⟩)))
 refine We (extP xt79 (Qb2 (show ev _ _=(.iface 0 (.pointer (some j))) from Z)) (ty0 _)) Z ?_
 rintro _ _ _ - ⟨rfl,rfl,rfl⟩
 refine qM (.iface 177 (.agg #[.pointer (some ⟨1,34,none⟩)])) c (We (invE (show ev _ _=(.iface 177 (.agg #[.pointer (some ⟨1,0,none⟩)])) from Z) (Qf5 (pt 1 0)) Q0P (inv1 Z) Qo2) Z ?_)
 rintro _ _ _ - ⟨rfl,rfl,rfl⟩
 refine Nt (WC.condF (b:=false) Z Z (Ck (Tc (Cs (Sr (qM (GV (GErr.other j)) a (qu (.tuple #[.nilIface,(Bv false)]) (asserts (show ev _ _=(.iface 0 (.pointer (some j))) from Z) (Q1I _ _)) (qm (.tuple #[.nilIface,(Bv false)]) (qu .nilIface (Xt Z Z) (qu (Bv false) (Xt Z Z) (qa .nilIface ?_)))))))))))
 refine qa (Bv false) (Ns (qm (Bv false) (qm (Bv false) ?_)))
 iterate 3 refine Of 31 Z Z Z Z ?_
 refine qu (Bv false) (Pf Z Z Z) (Nt (WC.condF (b:=false) Z Z (Ck (Tc (Sr (qM (GV (GErr.other j)) a (Nt (Bk (Sr (qu (.tuple #[.nilIface,(Bv false)]) (asserts (show ev _ _=(.iface 0 (.pointer (some j))) from Z) (Qy2 _ _)) (qu (Bv false) (Xt Z Z) ?_)))))))))))
 refine qu .nilIface (Xt Z Z) (Nt (WC.condF (b:=false) Z Z (Sr (qu (.tuple #[.nilIface,(Bv false)]) (asserts (show ev _ _=(.iface 0 (.pointer (some j))) from Z) (Qy3 _ _)) (qu (Bv false) (Xt Z Z) (qu .nilIface (Xt Z Z) (Nt (WC.condF (b:=false) Z Z (Sr (qa (GV (GErr.other j)) (Ns ?_)))))))))))
 refine qa (Bv false) (Nt (Cr (Br (Br (WQ.leaveR (false,a1) (oi h).symm (fun f=> ?_))))))
 subst f
 have h:=n
 exact Br (Dr (Rf h [[(k, .cells #[(Iv a1)] 34 (0,0))],[(m, .cells #[(pt k 0)] 125 (0,0))]] Z (Rs Z Z) g ⟨Z,Z⟩))
noncomputable def QeY (a0:GErr) (a1:Int):Option (Bool×Int):=
 (if a0.isNil=true then(some (false,a1))else((QeX a0 a1).bind fun(a,b)=>(some (a,b))))
def QnM (a0:GErr) (a1:Int) (a:Nat):(Bool×Int)→Value→IM→HL→Prop:=
 fun(b:(Bool×Int)) (v:Value) (f:IM) (c:HL)=>match b with |(d,e)=>(.bool d)=v∧c=[[(a, .cells #[(.int .i64 e)] 34 (0,0))]]
theorem QpL (a0:GErr) (a1:Int) (M:IM) (c:Nat) (hE:Env M) (e:(Bool×Int)) (h:QeY a0 a1=some e):
 Tri prog 67 #[(GV a0),(.iface 125 (pt c 0))] M [[(c, .cells #[(Iv a1)] 34 (0,0))]] (QnM a0 a1 c e):=by
 unfold QeY at h
 refine Te func67 Z Z ?_
 intro F n f
 refine Sr (qa (Bv false) (Nt (Cs (Sr (qM (GV a0) (f 0) (qu (Bv a0.isNil) (errNil underlying31 Z) (Nt (Ch h Z (fun g h=> ?_) (fun g h=> ?_)))))))))
 exact Sr (qa (Bv false) (Nt (Cr (Tr (Rf h [[(c, .cells #[(Iv a1)] 34 (0,0))]] Z (Rs Z Z) lr ⟨Z,Z⟩)))))
 refine Ck (Tc (Cs (Sr (qM (.iface 125 (pt c 0)) (f 1) (qu (Bv false) (ifcNil underlying20 Z) (Nt (WC.condF (b:=false) Z Z (Ck (Tc (Sr (qM (.iface 125 (pt c 0)) (f 1) ?_)))))))))))
 refine We (valueOf xt97 (Qb2 (show ev _ _=(.iface 125 (pt c 0)) from Z)) (Q8H ⟨c,0,none⟩)) Z ?_
 rintro _ _ _ - ⟨rfl,a,rfl,rfl⟩
 refine We (Al Q6C Z) Z ?_
 rintro _ _ _ - ⟨rfl,l,rfl,rfl⟩
 refine We (Sg (v:=(.agg #[(pt 1 125),(pt a 0),(Uv 150)])) (vl:=[(pt 1 125),(pt a 0),(Uv 150)]) (arr':=[(pt 1 125),(pt a 0),(Uv 150)]) Z QvW Z Z (onb Z) Z Z Z) Z ?_
 rintro _ _ _ - ⟨rfl,rfl⟩
 refine Ns (qu (.agg #[(pt 1 125),(pt a 0),(Uv 150)]) (La (cs:=[(pt 1 125),(pt a 0),(Uv 150)]) 0 QxS QvW Z Z Z) (We (extP xt98 (Qb2 (show ev _ _=(.agg #[(pt 1 125),(pt a 0),(Uv 150)]) from Z)) (Q1Q _)) Z ?_))
 rintro _ _ _ - ⟨rfl,rfl,rfl⟩
 refine qa (.iface 177 (.agg #[.pointer (some ⟨1,125,none⟩)])) (Nt (Cs (Sr (qm (.iface 177 (.agg #[.pointer (some ⟨1,125,none⟩)])) (We (invE (show ev _ _=(.iface 177 (.agg #[.pointer (some ⟨1,125,none⟩)])) from Z) (Qw4 (pt 1 125)) Q29 inv0 Qy8) Z ?_)))))
 rintro _ _ _ - ⟨rfl,rfl,rfl⟩
 refine qu (Bv false) (neqR Z Z (by decide)) (qm (Bv false) (qo 20 Z (.agg #[(pt 1 125),(pt a 0),(Uv 150)]) (La (cs:=[(pt 1 125),(pt a 0),(Uv 150)]) 0 QxS QvW Z Z Z) (On 20 Z Z Z (We (isNil 1 xt99 QxX Z Q50 (Qb2 (show ev _ _=(.agg #[(pt 1 125),(pt a 0),(Uv 150)]) from Z)) Z) Z ?_))))
 rintro _ _ _ - ⟨rfl,rfl,rfl⟩
 refine qu (Bv false) (Pf Z Z Z) (Nt (WC.condF (b:=false) Z Z (Ck (Tc (Sr (qm (.iface 177 (.agg #[.pointer (some ⟨1,125,none⟩)])) (We (invE (show ev _ _=(.iface 177 (.agg #[.pointer (some ⟨1,125,none⟩)])) from Z) (Q1L (pt 1 125)) Q59 inv0 Qy5) Z ?_)))))))
 rintro _ _ _ - ⟨rfl,rfl,rfl⟩
 refine qa (.iface 177 (.agg #[.pointer (some ⟨1,34,none⟩)])) (Nt (Cs (Sr (qm (.iface 177 (.agg #[.pointer (some ⟨1,34,none⟩)])) (We (invE (show ev _ _=(.iface 177 (.agg #[.pointer (some ⟨1,34,none⟩)])) from Z) (Qw4 (pt 1 34)) Q29 inv0 Q0O) Z ?_)))))
 rintro _ _ _ - ⟨rfl,rfl,rfl⟩
 refine qu (Bv true) (neqR Z Z (by decide)) (qm (Bv true) (On 30 Z Z Z (qm (.iface 177 (.agg #[.pointer (some ⟨1,34,none⟩)])) (qo 30 Z (.iface 177 (.agg #[.pointer (some ⟨1,31,none⟩)])) (loadG Q51 hE) (On 30 Z Z Z (We (invE (show ev _ _=(.iface 177 (.agg #[.pointer (some ⟨1,34,none⟩)])) from Z) (QrG (pt 1 34)) Q6A (inv1 Z) Qp4) Z ?_))))))
 rintro _ _ _ - ⟨rfl,rfl,rfl⟩
 refine qo 30 Z (Bv (!true)) (PO.not Z) (qu (Bv (!true)) (Pt Z Z Z) (Nt (WC.condF (b:= !true) Z Z (Ck (Tc (Sr (qM (GV a0) (f 0) (qM (.iface 125 (pt c 0)) (f 1) (qu (.agg #[(pt 1 125),(pt a 0),(Uv 150)]) (La (cs:=[(pt 1 125),(pt a 0),(Uv 150)]) 0 QxS QvW Z Z Z) (qm (.iface 177 (.agg #[.pointer (some ⟨1,34,none⟩)])) ?_))))))))))
 obtain ⟨⟨i,j⟩,k,h⟩:=bnd h
 refine WL.f1 (Wb (We (EO.call2 Q5P (QpK a0 a1 _ _ _ (i,j) k) (QiO Z Z Z Z)) Z ?_))
 rintro _ m _ d ⟨_,⟨rfl,rfl⟩,rfl⟩
 exact WL.a2 (qa (Bv i) (Nt (Cr (Qa (Dr (Qa (Dr (Rf h [[(c, .cells #[(Iv j)] 34 (0,0))]] Z (Rs Z Z) d ⟨Z,Z⟩))))))))
noncomputable def QjI (a0:GErr):Option Int:=
 (if a0.isNil=true then(some (0:Int))else((QeY a0 (0:Int)).bind fun(a,b)=>(if a=true then(some b)else(some (21:Int)))))
def QuR (a0:GErr):Int→Value→IM→HL→Prop:=
 fun(a:Int) (v:Value) (c:IM) (b:HL)=>(.int .i64 a)=v∧b=[]
theorem QwU (a0:GErr) (M:IM) (hE:Env M) (c:Int) (h:QjI a0=some c):
 Tri prog 42 #[(GV a0)] M [] (QuR a0 c):=by
 unfold QjI at h
 refine Te func42 Z Z ?_
 intro F l j
 refine Sr (qa (Iv 0) (Nt (Cs (Sr (qM (GV a0) (j 0) (qu (Bv a0.isNil) (errNil underlying31 Z) (Nt (Ch h Z (fun d h=> ?_) (fun d h=> ?_)))))))))
 exact Sr (qa (Iv 0) (Nt (Cr (Tr (Rf h [] Z (Rs Z Z) lr ⟨Z,Z⟩)))))
 refine Ck (Tc (Sr (We (Al ze34 Z) Z ?_)))
 rintro _ _ _ - ⟨rfl,g,rfl,rfl⟩
 refine Nt (Cs (Sr (qM (GV a0) (j 0) (qu (.iface 125 (pt g 0)) (makeInterface Q7H Z) ?_))))
 obtain ⟨⟨i,b⟩,e,h⟩:=bnd h
 refine We (Cb co67 (QpL a0 (0:Int) _ _ hE (i,b) e) (QaS Z Z)) Z ?_
 rintro _ k _ a ⟨_,⟨rfl,rfl⟩,rfl⟩
 refine WL.a1 (Nt (Ch h Z (fun f h=> ?_) (fun f h=> ?_)))
 exact Sr (qu (Iv b) (Lb 0 pl34 Z Z Z) (qa (Iv b) (Nt (Cr (Tr (Dr (Rf h [] Z (Rs Z Z) a ⟨Z,Z⟩)))))))
 exact Ck (Tc (Sr (qa (Iv 21) (Nt (Cr (Dr (Rf h [] Z (Rs Z Z) a ⟨Z,Z⟩)))))))
noncomputable def QdX (f:(GErr×(List ByteArray))):Option ((GErr×(List ByteArray))⊕(List ByteArray)):=
 match f with
 |(b,a)=>
 (if(!b.isNil)=true then((QdF b (⟨(⟨#[]⟩:ByteArray),(0:Int),GErr.nil⟩:QbP)).bind fun(d,c,g,e)=>(if(!d)=true then(some (inr a))else(grd (a.length+[c].length≤274877906944) (some (inl (e,a++[c]))))))else(some (inr a)))
noncomputable def QjX (a0:GErr):Option (List ByteArray):=
 ((((iter (QdX) (a0,[])).bind (fun(a:(List ByteArray))=>(some a))):Option (List ByteArray)).bind fun b=>(some b))
def Qr0 (a0:GErr):(List ByteArray)→Value→IM→HL→Prop:=
 fun(c:(List ByteArray)) (v:Value) (d:IM) (e:HL)=>∃ a b,a=v∧e=[b]∧OwnS Kd.str d a c b
theorem QuS (a0:GErr) (M:IM) (hE:Env M) (u:(List ByteArray)) (h:QjX a0=some u):
 Tri prog 68 #[(GV a0)] M [] (Qr0 a0 u):=by
 unfold QjX at h
 refine Te func68 Z Z ?_
 intro F ρ Q
 refine Sr (qa Zs (Ns (qa Zs (Nt ?_))))
 obtain ⟨r,v,h⟩:=bnd h
 refine Jf (fun(r:(List ByteArray)) I w J=>∃ b i,M.le w∧i::F=J∧I 3=b∧OwnS Kd.str w b r i) r ?_ ?_
 have h:=v
 refine Bk (WC.e0 ?_)
 obtain ⟨R,x,q⟩:=bnd h
 clear h
 refine WC.loop x (fun(S:(GErr×(List ByteArray))) I w J=>match S with |(m,n)=>∃ c j,M.le w∧j::F=J∧I 0=(GV m)∧I 3=c∧OwnS Kd.str w c n j) ?_ ?_
 exact⟨Zs,[],lr,Z,(Q 0),Z,(OwnS.nil _ _)⟩
 rintro ⟨m,n⟩ T U V W h ⟨c,j,d,rfl,l,e,a⟩
 unfold QdX at h
 refine Cs (Sr (qM (GV m) l (qu (Bv (!m.isNil)) (errNotNil underlying31 Z) (Nt (Ch h Z (fun y h=> ?_) (fun y h=> ?_))))))
 refine Ck (Tc (Bk (Sr (We (Al Q3A Z) Z ?_))))
 rintro _ _ _ - ⟨rfl,s,rfl,rfl⟩
 refine Nt (Cs (Sr (qM (GV m) l (qu (.iface 124 (pt s 0)) (makeInterface Q5O Z) ?_))))
 obtain ⟨⟨z,f,K,o⟩,A,h⟩:=bnd h
 have hE:=hE.mono d
 refine We (Cb co67 (QkI m (⟨(⟨#[]⟩:ByteArray),(0:Int),GErr.nil⟩:QbP) _ _ hE (z,f,K,o) A) (QaS Z Z)) Z ?_
 rintro _ L _ g ⟨_,⟨rfl,rfl⟩,rfl⟩
 refine WL.a1 (qu (Bv (!z)) (PO.not Z) (Nt (Ch h Z (fun B h=> ?_) (fun B h=> ?_))))
 refine WC.exit (WQ.thenE (WQ.blockM Z (WQ.leaveE n (oi h).symm (fun k=> ?_))))
 subst k
 have h:=q
 refine WQ.blockH (Dr ?_)
 obtain rfl:=oi h
 refine Tj ?_
 have a:=a.mono g
 exact⟨c,j,(d.trans g),Z,e,a⟩
 refine Ck (Tc (Sr (qM c e (qu (pt s 0) (Fa Q4F Z Z) (qu (Sv f) (Lb 0 pl9 Z Z Z) (We (buildSliceL (cl:=[(Sv f)]) underlying126 iz9 Z (Pc (Sv f) Z Z Pz) Z) Z ?_))))))
 rintro _ _ _ - ⟨rfl,C,rfl,rfl⟩
 have N:OwnS Kd.str L (.slice (some ⟨C,0,none⟩) 1 1) [f] [(C, .cells #[(Sv f)] 9 (0,0))]:=OwnS.rows (css:=[[(Sv f)]]) (Rows.cons Z Rows.nil) Z Z
 obtain ⟨D,h⟩:=Qa1 h
 refine Wb ?_
 have a:=a.mono g
 refine We (append (dd:=Kd.str) (xs:=n) (ys:=[f]) underlying126 underlying126 in9 Z (appB (by decide) D) (by decide) Z Z a (N.src 1 Z)) Z ?_
 rintro E _ _ - ⟨rfl,O,rfl,P⟩
 refine qa E (Nt (Cg (qu (pt s 2) (Fa Q1G Z Z) (qu (GV o) (Lb 2 pl31 Z Z Z) (qa (GV o) (Wz (Bn (Qa (Dr (Qa (Dr ?_)))))))))))
 exact WQ.again (o,n++[f]) (oi h).symm ⟨E,O,(d.trans g),Z,Z,Z,P⟩
 refine WC.exit (WQ.thenE (WQ.leaveE n (oi h).symm (fun k=> ?_)))
 subst k
 have h:=q
 refine WQ.blockH ?_
 obtain rfl:=oi h
 exact Tj ⟨c,j,d,Z,e,a⟩
 rintro X Y a2 ⟨b,i,t,rfl,p,G⟩
 exact Sr (qM b p (qa b (Nt (Cr (Rf h [i] Z (Rs Z Z) t ⟨b,i,Z,Z,G⟩)))))
noncomputable def Qd1 (a1:ByteArray) (b:(List ByteArray)) (c:Int):Option (Int⊕(Unit⊕Unit)):=
 match c with
 |a=>
 (if(decide (a<(b.length:Int)))=true then(grd (0≤a∧a<b.length) (if(decide ((rd b a)=a1))=true then(some (inr (inr ())))else(some (inl (i64.wrap (a+(1:Int)))))))else(some (inr (inl ()))))
noncomputable def QiT (a0:GErr) (a1:ByteArray):Option Bool:=
 ((((QjX a0).bind fun a=>((iter (Qd1 a1 a) (0:Int)).bind (Sum.elim (fun _=>(some (inl ()))) (fun _=>(((some true)).bind fun r=>some (inr r)))))):Option (Unit⊕Bool)).bind (Sum.elim (fun _=>(some false)) some))
def QqN (a0:GErr) (a1:ByteArray):Bool→Value→IM→HL→Prop:=
 fun(a:Bool) (v:Value) (c:IM) (b:HL)=>(.bool a)=v∧b=[]
theorem QtG (a0:GErr) (a1:ByteArray) (M:IM) (hE:Env M) (r:Bool) (h:QiT a0 a1=some r):
 Tri prog 43 #[(GV a0),(Sv a1)] M [] (QqN a0 a1 r):=by
 unfold QiT at h
 refine Te func43 Z Z ?_
 intro F T I
 refine Sr (qa (Bv false) (Nt ?_))
 obtain ⟨B,s,h⟩:=bnd h
 refine WC.joinE (fun(_:Unit) t C D=>M.le C∧F=D) B ?_ ?_
 have u:=h
 have h:=s
 refine Sr (qM (GV a0) (I 0) ?_)
 obtain ⟨c,v,h⟩:=bnd h
 refine We (Ca co68 (QuS a0 _ hE c v) (Qb2 Z)) Z ?_
 rintro _ E _ l ⟨_,⟨w,x,rfl,rfl,f⟩,rfl⟩
 refine WL.a1 (qu (Iv (c.length:Int)) (lenS underlying126 Z f.len) (qm (Iv 0) (Nt (Bk ?_))))
 obtain ⟨K,y,m⟩:=bnd h
 clear h
 refine WC.loop y (fun(b:Int) t C D=>E.le C∧x::F=D∧t 1=(Sv a1)∧t 8=w∧t 9=(Iv (c.length:Int))∧t 10=(Iv b)) ?_ ?_
 exact⟨lr,Z,(I 1),Z,Z,Z⟩
 rintro b L N O P h ⟨d,rfl,g,i,j,a⟩
 unfold Qd1 at h
 refine Sr (qu (Bv (decide (b<(c.length:Int)))) (lss a j) (Nt (Cs (Ch h Z (fun z h=> ?_) (fun z h=> ?_)))))
 refine Ck (Tc (Cs (Bk (Sr ?_))))
 obtain ⟨k,h⟩:=Qa1 h
 have f:=f.mono d
 obtain ⟨G,J,o,p,hhas35⟩:=f.at k.1 k.2
 obtain rfl:=p
 refine qu (.pointer (some G)) (indexAddr (n:=c.length) underlying126 sz9 i a k.1 k.2 o) (qu (Sv (rd c b)) (loadC 0 pl9 Z Z (QuK hhas35)) (qa (Sv (rd c b)) (Ns (qm (Sv (rd c b)) (qM (Sv a1) g (qu (Bv (decide ((rd c b)=a1))) (seql Z Z) (Nt (Ch h Z (fun A h=> ?_) (fun A h=> ?_)))))))))
 refine Sr (qa (Bv true) (Nt (Cr (Br (Tr (WQ.leaveR (inr ()) (oi h).symm (fun e=> ?_)))))))
 subst e
 have h:=(QdZ m)
 refine Br (Tr ?_)
 have h:=KK.early h u
 exact Dr (Rf h [] Z (Rs Z Z) (l.trans d) ⟨Z,Z⟩)
 exact Ck (Bn (Tc (Cg (qu (Iv (i64.wrap (b+1))) (add a Z) (qm (Iv (i64.wrap (b+1))) (Wz (WQ.again (i64.wrap (b+1)) (oi h).symm ⟨d,Z,g,i,j,Z⟩)))))))
 refine WC.exit (WQ.thenE (WQ.leaveE (inl ()) (oi h).symm (fun e=> ?_)))
 subst e
 have h:=QeV m
 exact WQ.blockH (Dr (WQ.thenFE h ⟨(l.trans d),Z⟩))
 rintro _ Q R S rfl ⟨q,rfl⟩
 have h:=(Sum.elim_inl _ _ _).symm.trans h
 exact Sr (qa (Bv false) (Nt (Cr (Rf h [] Z (Rs Z Z) q ⟨Z,Z⟩))))
noncomputable def Qe8 (a0:GErr) (a1:QaM):Option Bool:=
 (if a0.isNil=true then(some (decide (a1.Code=(0:Int))))else((QiS a0).bind fun(a,b)=>((((QjI a0).bind fun c=>(if(decide (c=a1.Code))=true then(if b=true then(if(decide (a=a1.At))=true then((QiT a0 a1.Op).bind fun d=>(some d))else(some false))else(some false))else(some false))):Option Bool).bind fun e=>(some e))))
def QqO (a0:GErr) (a1:QaM):Bool→Value→IM→HL→Prop:=
 fun(a:Bool) (v:Value) (c:IM) (b:HL)=>(.bool a)=v∧b=[]
theorem QtH (a0:GErr) (a1:QaM) (M:IM) (hE:Env M) (p:Bool) (h:Qe8 a0 a1=some p):
 Tri prog 7 #[(GV a0),(a36_ a1)] M [] (QqO a0 a1 p):=by
 unfold Qe8 at h
 refine Te func7 Z Z ?_
 intro F G q
 refine Sr (We (box (cs:=(l36 a1).toArray) (congrArg Value.cells (asE (a36_ a1) (q 1)))) Z ?_)
 rintro _ _ _ - ⟨rfl,g,rfl,rfl⟩
 refine qa (Bv false) (Nt (Cs (Sr (qM (GV a0) (q 0) (qu (Bv a0.isNil) (errNil underlying31 Z) (Nt (Ch h Z (fun r h=> ?_) (fun r h=> ?_))))))))
 exact Sr (qu (pt g 2) (Fa QrD Z Z) (qu (Iv a1.Code) (Lb 0 pl34 Z Z Z) (qu (Bv (decide (a1.Code=0))) (eql Z Z) (qa (Bv (decide (a1.Code=0))) (Nt (Cr (Tr (Dr (Rf h [] Z (Rs Z Z) lr ⟨Z,Z⟩)))))))))
 refine Ck (Tc (Sr (qM (GV a0) (q 0) ?_)))
 obtain ⟨⟨d,f⟩,s,h⟩:=bnd h
 refine We (Ca co41 (QtF a0 _ hE (d,f) s) (Qb2 Z)) Z ?_
 rintro _ w _ i ⟨_,⟨rfl,rfl⟩,rfl⟩
 refine WL.a0 (qm (.tuple #[(Iv d),(Bv f)]) (qu (Iv d) (Xt Z Z) (qu (Bv f) (Xt Z Z) (qa (Iv d) (qa (Bv f) (Nt ?_))))))
 obtain ⟨k,t,h⟩:=bnd h
 refine Jf (fun(k:Bool) x y z=>w.le y∧[(g, .cells (l36 a1).toArray 36 (0,0))]::F=z∧x 4=(Bv k)) k ?_ ?_
 have h:=t
 refine WC.draw [0,1,0,4,15,31,63,127,255,511,511,1535,4095,8191,16383,32767,32767,98303,262143,524287,1048575] (.pure 0 (.pure 2 (.pure 3 (.alt 1 (.pure 4 (.pure 5 (.pure 6 (.pure 7 (.pure 8 (.pure 9 (.pure 10 (.pure 11 (.pure 12 (.pure 13 (.pure 14 (.pure 15 (.pure 16 (.pure 17 (.alt 18 (.pure 19 (.pure 20 .done)) .none))))))))))))))) .none)))) Qc3 (by kernel_rfl) (qt (GV a0) Z (Mv (q 0)) (qt (pt g 2) Z (Fa QrD Z Z) (qt (Iv a1.Code) Z (Lb 0 pl34 Z Z Z) ?_)))
 obtain ⟨l,u,h⟩:=bnd h
 have hE:=hE.mono i
 refine Ta Z (Ca co42 (QwU a0 _ hE l u) (Qb2 Z)) Z ?_ ?_
 rintro _ A _ c ⟨_,⟨rfl,rfl⟩,rfl⟩
 refine⟨(Ss Z (Lb 0 pl34 Z Z Z) Z (Ss Z (Fa QrD Z Z) Z (Sl Z))), ?_⟩
 refine WT.a0 (qt (Bv (decide (l=a1.Code))) Z (eql Z Z) (qt (Bv (decide (l=a1.Code))) Z (Mv Z) ?_))
 rcases Bi h with⟨e,h⟩ |⟨e,h⟩
 refine Tn (Bv f) 22 Z Z Z e (Mv Z) Z (qt (Bv f) Z (Pt Z e Z) (qt (Bv f) Z (Mv Z) ?_))
 rcases Bi h with⟨a,h⟩ |⟨a,h⟩
 refine Tn (Iv d) 25 Z Z Z a (Mv Z) Z (Tn (pt g 1) 25 Z Z Z a (Fa Q5X Z Z) Z (Tn (Iv a1.At) 25 Z Z Z a (Lb 0 pl3 Z Z Z) Z (Tn (Bv (decide (d=a1.At))) 25 Z Z Z a (eql Z Z) Z (qt (Bv (decide (d=a1.At))) Z (Pt Z a Z) (qt (Bv (decide (d=a1.At))) Z (Mv Z) ?_)))))
 rcases Bi h with⟨b,h⟩ |⟨b,h⟩
 refine Tn (GV a0) 31 Z Z Z b (Mv (q 0)) Z (Tn (pt g 0) 31 Z Z Z b (Fa Q1H Z Z) Z (Tn (Sv a1.Op) 31 Z Z Z b (Lb 0 pl9 Z Z Z) Z ?_))
 obtain ⟨m,v,h⟩:=bnd h
 have hE:=hE.mono c
 refine WT.altOn 31 Z Z Z b (Ca co43 (QtG a0 a1.Op _ hE m v) (QaS Z Z)) Z ?_ ?_
 rintro _ B _ n ⟨_,⟨rfl,rfl⟩,rfl⟩
 refine⟨(Sl Z), ?_⟩
 refine WT.a0 (qt (Bv m) Z (Pt Z b Z) (qt (Bv m) Z (Ag Z) (Ti ?_)))
 obtain rfl:=oi h
 exact Tj ⟨(c.trans n),Z,Z⟩
 exact Tz
 refine Tf 31 Z Z Z b Z (Tf 31 Z Z Z b Z (Tf 31 Z Z Z b Z (Tg 31 Z Z Z b Z ⟨(Sl Z), ?_⟩ ?_)))
 refine qt (Bv false) Z (Pf Z b Z) (qt (Bv false) Z (Ag Z) (Ti ?_))
 obtain rfl:=oi h
 exact Tj ⟨c,Z,Z⟩
 exact Tz
 refine Tf 25 Z Z Z a Z (Tf 25 Z Z Z a Z (Tf 25 Z Z Z a Z (Tf 25 Z Z Z a Z (qt (Bv false) Z (Pf Z a Z) (qt (Bv false) Z (Mv Z) (Tf 31 Z Z Z Z Z (Tf 31 Z Z Z Z Z (Tf 31 Z Z Z Z Z (Tg 31 Z Z Z Z Z ⟨(Sl Z), ?_⟩ ?_)))))))))
 refine qt (Bv false) Z (Pf Z Z Z) (qt (Bv false) Z (Ag Z) (Ti ?_))
 obtain rfl:=oi h
 exact Tj ⟨c,Z,Z⟩
 exact Tz
 refine Tf 22 Z Z Z e Z (qt (Bv false) Z (Pf Z e Z) (qt (Bv false) Z (Mv Z) (Tf 25 Z Z Z Z Z (Tf 25 Z Z Z Z Z (Tf 25 Z Z Z Z Z (Tf 25 Z Z Z Z Z (qt (Bv false) Z (Pf Z Z Z) (qt (Bv false) Z (Mv Z) (Tf 31 Z Z Z Z Z (Tf 31 Z Z Z Z Z (Tf 31 Z Z Z Z Z ?_)))))))))))
 refine Tg 31 Z Z Z Z Z ⟨(Sl Z), ?_⟩ ?_
 refine qt (Bv false) Z (Pf Z Z Z) (qt (Bv false) Z (Ag Z) (Ti ?_))
 obtain rfl:=oi h
 exact Tj ⟨c,Z,Z⟩
 exact Tz
 exact Tz
 rintro C D E ⟨o,rfl,j⟩
 exact Cr (Dr (Rf h [] Z (Rs Z j) (i.trans o) ⟨Z,Z⟩))

end Go.Proofs.YtfkmkgpoddbbfaaGreatDoor.G
