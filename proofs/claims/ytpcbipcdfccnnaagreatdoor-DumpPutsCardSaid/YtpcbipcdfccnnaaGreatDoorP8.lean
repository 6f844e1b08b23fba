/- Go functions: what they come to, and that they do. Printed by a program of the session (gen). -/
import Derived.Test.YtpcbipcdfccnnaaGreatDoorPF
import Derived.Test.YtpcbipcdfccnnaaGreatDoorP0
import Derived.Test.YtpcbipcdfccnnaaGreatDoorP1
import Derived.Test.YtpcbipcdfccnnaaGreatDoorP2
import Derived.Test.YtpcbipcdfccnnaaGreatDoorP3
import Derived.Test.YtpcbipcdfccnnaaGreatDoorP5
import Derived.Test.YtpcbipcdfccnnaaGreatDoorP6
import Derived.Test.YtpcbipcdfccnnaaGreatDoorP7
import Derived.Test.YtpcbipcdfccnnaaGreatDoorKShar2
import Derived.Test.YtpcbipcdfccnnaaGreatDoorKConv
import Derived.Test.YtpcbipcdfccnnaaGreatDoorKMap
import Derived.Test.YtpcbipcdfccnnaaGreatDoorKTight2
set_option linter.unusedVariables false
set_option linter.unusedSimpArgs false
set_option maxHeartbeats 8000000
set_option maxRecDepth 100000
namespace Go.Proofs.YtpcbipcdfccnnaaGreatDoor.G
open Go Go.KK
open PO EO IntKind Sum Tryz

noncomputable def Qf4:Option Bool:=
 ((Qk3).bind fun d=>((QiS d).bind fun b=>((QiU b).bind fun(e,f)=>((Qe5 e).bind fun(a,g)=>((Qe5 []).bind fun(n,i)=>(((if f.isNil=true then(if g.isNil=true then(if(decide ((a.Topics.length:Int)=(1:Int)))=true then(grd (0≤(0:Int)∧(0:Int)<a.Topics.length) (if(decide ((((rd a.Topics (0:Int)).Parts).length:Int)=(1:Int)))=true then(grd (0≤(0:Int)∧(0:Int)<a.Topics.length) (grd (0≤(0:Int)∧(0:Int)<((rd a.Topics (0:Int)).Parts).length) (if(decide (((rd ((rd a.Topics (0:Int)).Parts) (0:Int)).Leader)=(1:Int)))=true then((QiV i (3:Int)).bind fun j=>(if j=true then((Qc9 (⟨b.Brokers,b.Topics,b.Configs,b.Done,(0:Int)⟩:QaA)).bind fun k=>((QiV k (2:Int)).bind fun l=>(if l=true then((Qc9 a).bind fun c=>(some c.isNil))else(some false))))else(some false)))else(some false))))else(some false)))else(some false))else(some false))else(some false)):Option Bool).bind fun m=>(some m)))))))
def Qq7:Bool→Value→IM→HL→Prop:=
 fun(a:Bool) (v:Value) (M':IM) (H':HL)=>(.bool a)=v∧H'=[]
theorem QkW (M:IM) (res:Bool) (h:Qf4=some res):
 Tri prog 7 #[] M [] (Qq7 res):=by
 unfold Qf4 at h
 refine Te func7 Z Z ?_
 intro F ρ hρ
 refine Sr (qa (Bv false) (Ns ?_))
 obtain ⟨d8,d9,h⟩:=bnd h
 refine We (Ca co19 (QtB _ d8 d9) (QmX)) Z ?_
 rintro _ j1 _ c4 ⟨_,⟨i4,i5,rfl,rfl,e0⟩,rfl⟩
 refine WL.a1 (WL.know (fun _ hs=>e0.rs hs) (fun e1=> ?_))
 refine WL.freeze (fun c5=> ?_)
 obtain ⟨E,e2,h⟩:=bnd h
 refine We (Ca co18 (QuU d8 _ _ e1 E e2) (QbK Z)) Z ?_
 rintro _ j2 _ c6 ⟨_,⟨d,e,f,g,rfl,rfl,t,u,w,x⟩,rfl⟩
 refine WL.a0 (We (Al ze27 Z) Z ?_)
 rintro _ _ _ - ⟨rfl,e3,rfl,rfl⟩
 refine We (Sg (v:=(a27_ E d e f g)) (vl:=(l27 E d e f g)) (arr':=(l27 E d e f g)) Z sz27 Z Z (QbG (Oc (RS.one t) (Oc (RS.one u) (Oc (RS.one w) (Oc (RS.one x) (Oc Z Oz)))))) Z Z Z) Z ?_
 rintro _ _ _ - ⟨rfl,rfl⟩
 refine Ns (qu (a27_ E d e f g) (La (cs:=(l27 E d e f g)) 0 ag27 sz27 Z Z Z) ?_)
 obtain ⟨⟨e4,O⟩,e5,h⟩:=bnd h
 refine We (Ca co11 (Qq2 E _ _ _ _ _ t u w x (e4,O) e5) (QbK Z)) Z ?_
 rintro _ j3 _ W ⟨_,⟨Q,i6,rfl,rfl,e6⟩,rfl⟩
 refine WL.a1 (qm (.tuple #[Q,(GV O)]) (qu Q (Xt Z Z) (qu (GV O) (Xt Z Z) (qa Q (qa (GV O) (Ns (qm Q (WL.know (fun _ hs=>e6.rs hs) (fun e7=> ?_)))))))))
 refine WL.freeze (fun X=> ?_)
 obtain ⟨⟨c,N⟩,e8,h⟩:=bnd h
 refine We (Ca co12 (QlX e4 _ _ e7 (c,N) e8) (QbK Z)) Z ?_
 rintro _ j4 _ Y ⟨_,⟨i,a3,a,a5,j,a6,k,a7,rfl,rfl,y,b,z,A⟩,rfl⟩
 have h2:=(W.trans X).trans Y
 refine WL.a4 (qm (.tuple #[(a27_ c i a j k),(GV N)]) (qu (a27_ c i a j k) (Xt Z Z) (qu (GV N) (Xt Z Z) (We (Al ze27 Z) Z ?_))))
 rintro _ _ _ - ⟨rfl,a8,rfl,rfl⟩
 refine We (Sg (v:=(a27_ c i a j k)) (vl:=(l27 c i a j k)) (arr':=(l27 c i a j k)) Z sz27 Z Z (QbG (Oc (Ow y) (Oc (Ow b) (Oc (Ow z) (Oc (Ow A) (Oc Z Oz)))))) Z Z Z) Z ?_
 rintro _ _ _ - ⟨rfl,rfl⟩
 refine qa (GV N) (Ns ?_)
 obtain ⟨⟨P,V⟩,e9,h⟩:=bnd h
 refine We (Ca co12 (QlX [] _ _ (RS.nil _ _) (P,V) e9) (QbK Z)) Z ?_
 rintro _ h3 _ K ⟨_,⟨o,a9,p,b0,q,b1,r,b2,rfl,rfl,b3,b4,b5,b6⟩,rfl⟩
 have h4:=h2.trans K
 refine WL.a4 (qm (.tuple #[(a27_ P o p q r),(GV V)]) (qu (a27_ P o p q r) (Xt Z Z) (qu (GV V) (Xt Z Z) (We (Al ze27 Z) Z ?_))))
 rintro _ _ _ - ⟨rfl,h5,rfl,rfl⟩
 refine We (Sg (v:=(a27_ P o p q r)) (vl:=(l27 P o p q r)) (arr':=(l27 P o p q r)) Z sz27 Z Z (QbG (Oc (Ow b3) (Oc (Ow b4) (Oc (Ow b5) (Oc (Ow b6) (Oc Z Oz)))))) Z Z Z) Z ?_
 rintro _ _ _ - ⟨rfl,rfl⟩
 refine qa (GV V) (Ns (qu (pt e3 4) (Fa QmS Z Z) (WL.f10 (We (Es (Iv 0) [d,e,f,g,(Iv 0)] Z sz3 Z Z Z Z Z Z) Z ?_))))
 rintro _ _ _ - ⟨rfl,rfl⟩
 refine Nt ?_
 obtain ⟨c7,f0,h⟩:=bnd h
 refine Jf (fun(c7:Bool) ρ' M' H'=>h3.le M'∧[(e3, .cells #[d,e,f,g,(Iv 0)] 27 (0,0))]::[(h5, .cells (l27 P o p q r).toArray 27 (0,0))]::[(a8, .cells (l27 c i a j k).toArray 27 (0,0))]::a9::b0::b1::b2::a3::a5::a6::a7::F=H'∧ρ' 0=(Bv c7)) c7 ?_ ?_
 have h:=f0
 refine Cg (qm (GV O) (qu (Bv O.isNil) (errNil underlying32 Z) (qm (Bv O.isNil) ?_)))
 rcases Bi h with⟨I,h⟩ |⟨I,h⟩
 refine On 27 Z Z I (qm (GV N) (qo 27 I (Bv N.isNil) (errNil underlying32 Z) (qu (Bv N.isNil) (Pt Z I Z) (qm (Bv N.isNil) ?_))))
 rcases Bi h with⟨C,h⟩ |⟨C,h⟩
 refine qo 31 C (pt a8 1) (Fa QbW Z Z) (qo 31 C a (Lb 6 pl23 Z Z Z) (On 31 Z Z C ?_))
 have b:=b.mono K
 refine qu (Iv (c.Topics.length:Int)) (lenS underlying23 Z b.len) (qo 31 C (Bv (decide ((c.Topics.length:Int)=(1:Int)))) (eql Z Z) (qu (Bv (decide ((c.Topics.length:Int)=(1:Int)))) (Pt Z C Z) (qm (Bv (decide ((c.Topics.length:Int)=(1:Int)))) ?_)))
 rcases Bi h with⟨m,h⟩ |⟨m,h⟩
 refine qo 37 m (pt a8 1) (Fa QbW Z Z) (qo 37 m a (Lb 6 pl23 Z Z Z) (On 37 Z Z m ?_))
 obtain ⟨R,h⟩:=QaQ h
 obtain ⟨f1,i7,c8,c9,hhas69⟩:=b.at R.1 R.2
 obtain ⟨b7,rfl,b8⟩:=QaN c9
 refine qu (.pointer (some f1)) (indexAddr (n:=c.Topics.length) underlying23 sz55 Z Z R.1 R.2 c8) (qo 37 m (.pointer (some (f1.add 2))) (Fa QdB Z Z) (qo 37 m b7 (loadC 8 pl53 Z Z (hhas69 2 _ Z)) (qo 37 m (Iv (((rd c.Topics (0:Int)).Parts).length:Int)) (lenS underlying53 Z b8.len) (qo 37 m (Bv (decide ((((rd c.Topics (0:Int)).Parts).length:Int)=(1:Int)))) (eql Z Z) (qu (Bv (decide ((((rd c.Topics (0:Int)).Parts).length:Int)=(1:Int)))) (Pt Z m Z) (qm (Bv (decide ((((rd c.Topics (0:Int)).Parts).length:Int)=(1:Int)))) ?_))))))
 rcases Bi h with⟨l,h⟩ |⟨l,h⟩
 refine qo 46 l (pt a8 1) (Fa QbW Z Z) (qo 46 l a (Lb 6 pl23 Z Z Z) (On 46 Z Z l ?_))
 obtain ⟨S,h⟩:=QaQ h
 obtain ⟨f2,i8,d0,d1,hhas77⟩:=b.at S.1 S.2
 obtain ⟨b9,rfl,c0⟩:=QaN d1
 refine qu (.pointer (some f2)) (indexAddr (n:=c.Topics.length) underlying23 sz55 Z Z S.1 S.2 d0) (qo 46 l (.pointer (some (f2.add 2))) (Fa QdB Z Z) (qo 46 l b9 (loadC 8 pl53 Z Z (hhas77 2 _ Z)) (On 46 Z Z l ?_)))
 obtain ⟨T,h⟩:=QaQ h
 obtain ⟨f4,i9,d2,d3,hhas84⟩:=c0.at T.1 T.2 (by decide)
 obtain ⟨g0,g1,g2,g3,rfl,g4,g5,g6,g7⟩:=Qb7 d3
 refine qu (.pointer (some f4)) (indexAddr (n:=((rd c.Topics (0:Int)).Parts).length) underlying53 sz58 Z Z T.1 T.2 d2) (qo 46 l (.pointer (some (f4.add 2))) (Fa Qk1 Z Z) (qo 46 l (Iv ((rd ((rd c.Topics (0:Int)).Parts) (0:Int)).Leader)) (loadM pl3 Z (hhas84 2 _ Z)) (qo 46 l (Bv (decide (((rd ((rd c.Topics (0:Int)).Parts) (0:Int)).Leader)=1))) (eql Z Z) (qu (Bv (decide (((rd ((rd c.Topics (0:Int)).Parts) (0:Int)).Leader)=1))) (Pt Z l Z) (qm (Bv (decide (((rd ((rd c.Topics (0:Int)).Parts) (0:Int)).Leader)=1))) ?_)))))
 rcases Bi h with⟨J,h⟩ |⟨J,h⟩
 refine On 57 Z Z J (qm (GV V) (On 57 Z Z J ?_))
 obtain ⟨d4,f5,h⟩:=bnd h
 refine We (Ca co20 (Qq6 V (3:Int) _ d4 f5) (QaU Z Z)) Z ?_
 rintro _ j5 _ B ⟨_,⟨rfl,rfl⟩,rfl⟩
 have c1:=h4.trans B
 refine WL.a0 (qu (Bv d4) (Pt Z J Z) (qm (Bv d4) ?_))
 rcases Bi h with⟨G,h⟩ |⟨G,h⟩
 refine qo 61 G (.agg #[d,e,f,g,(Iv 0)]) (La (cs:=[d,e,f,g,(Iv 0)]) 0 ag27 sz27 Z Z Z) (On 61 Z Z G ?_)
 obtain ⟨f6,f7,h⟩:=bnd h
 have t:=t.mono c1
 have u:=u.mono c1
 have w:=w.mono c1
 have x:=x.mono c1
 refine We (Ca co9 (QjB (⟨E.Brokers,E.Topics,E.Configs,E.Done,(0:Int)⟩:QaA) _ _ _ _ _ t u w x f6 f7) (QbK Z)) Z ?_
 rintro _ j6 _ L ⟨_,⟨rfl,rfl⟩,rfl⟩
 refine WL.a0 (On 61 Z Z G ?_)
 obtain ⟨d5,f8,h⟩:=bnd h
 refine We (Ca co20 (Qq6 f6 (2:Int) _ d5 f8) (QaU Z Z)) Z ?_
 rintro _ j0 _ D ⟨_,⟨rfl,rfl⟩,rfl⟩
 have a2:=((K.trans B).trans L).trans D
 refine WL.a0 (qu (Bv d5) (Pt Z G Z) (qm (Bv d5) ?_))
 rcases Bi h with⟨s,h⟩ |⟨s,h⟩
 refine qo 66 s (a27_ c i a j k) (La (cs:=(l27 c i a j k)) 6 ag27 sz27 Z Z Z) (On 66 Z Z s ?_)
 obtain ⟨U,d6,h⟩:=bnd h
 refine WL.f10 (WL.f10 (WL.f10 (WL.f10 ?_)))
 have y:=y.mono a2
 have b:=b.mono ((B.trans L).trans D)
 have z:=z.mono a2
 have A:=A.mono a2
 refine We (EO.call4 co9 (Tri.lend y.excl fun w0_ H0_ hs0_=>(Tri.lend b.excl fun w1_ H1_ hs1_=>(Tri.lend z.excl fun w2_ H2_ hs2_=>(Tri.lend A.excl fun w3_ H3_ hs3_=>(QjB c _ _ _ _ _ ((((y.rs hs0_).mono (IM.le_add _ _)).mono (IM.le_add _ _)).mono (IM.le_add _ _)) ((((b.mono (IM.le_add _ _)).rs hs1_).mono (IM.le_add _ _)).mono (IM.le_add _ _)) ((((z.mono (IM.le_add _ _)).mono (IM.le_add _ _)).rs hs2_).mono (IM.le_add _ _)) ((((A.mono (IM.le_add _ _)).mono (IM.le_add _ _)).mono (IM.le_add _ _)).rs hs3_) U d6))))) (QbK Z)) Z ?_
 rintro _ _ _ c2 ⟨_,⟨h6,h7,g8,rfl,rfl,⟨h8,h9,g9,rfl,rfl,⟨i0,i1,h0,rfl,rfl,⟨i2,i3,h1,rfl,rfl,⟨rfl,rfl⟩⟩⟩⟩⟩,rfl⟩
 refine WL.a4 (qo 66 s (Bv U.isNil) (errNil underlying32 Z) (qu (Bv U.isNil) (Pt Z s Z) (qa (Bv U.isNil) (Wz (WQ.f3 (WQ.f3 (WQ.f3 (WQ.f3 (WQ.f9 (WQ.f9 (WQ.f9 ?_)))))))))))
 refine WQ.f9 (WQ.f10 (WQ.f10 (WQ.f10 ?_)))
 obtain rfl:=oi h
 exact Tj ⟨(((B.trans L).trans D).trans c2),Z,Z⟩
 iterate 3 refine Of 66 Z Z s Z ?_
 refine qu (Bv false) (Pf Z s Z) (qa (Bv false) (Wz (WQ.f10 (WQ.f10 (WQ.f10 (WQ.f10 (WQ.f9 (WQ.f9 (WQ.f9 (WQ.f9 (WQ.f10 ?_)))))))))))
 refine WQ.f10 (WQ.f10 ?_)
 obtain rfl:=oi h
 exact Tj ⟨((B.trans L).trans D),Z,Z⟩
 iterate 3 refine Of 61 Z Z G Z ?_
 refine qu (Bv false) (Pf Z G Z) (qm (Bv false) ?_)
 iterate 3 refine Of 66 Z Z Z Z ?_
 refine qu (Bv false) (Pf Z Z Z) (qa (Bv false) (Wz (WQ.f10 (WQ.f10 (WQ.f10 (WQ.f10 (WQ.f9 (WQ.f9 (WQ.f9 (WQ.f9 (WQ.f10 ?_)))))))))))
 refine WQ.f10 (WQ.f10 ?_)
 obtain rfl:=oi h
 exact Tj ⟨B,Z,Z⟩
 iterate 2 refine Of 57 Z Z J Z ?_
 refine qu (Bv false) (Pf Z J Z) (qm (Bv false) ?_)
 iterate 3 refine Of 61 Z Z Z Z ?_
 refine qu (Bv false) (Pf Z Z Z) (qm (Bv false) ?_)
 iterate 3 refine Of 66 Z Z Z Z ?_
 refine qu (Bv false) (Pf Z Z Z) (qa (Bv false) (Wz (WQ.f10 (WQ.f10 (WQ.f10 (WQ.f10 (WQ.f9 (WQ.f9 (WQ.f9 (WQ.f9 (WQ.f10 ?_)))))))))))
 refine WQ.f10 (WQ.f10 ?_)
 obtain rfl:=oi h
 exact Tj ⟨lr,Z,Z⟩
 iterate 9 refine Of 46 Z Z l Z ?_
 refine qu (Bv false) (Pf Z l Z) (qm (Bv false) ?_)
 iterate 2 refine Of 57 Z Z Z Z ?_
 refine qu (Bv false) (Pf Z Z Z) (qm (Bv false) ?_)
 iterate 3 refine Of 61 Z Z Z Z ?_
 refine qu (Bv false) (Pf Z Z Z) (qm (Bv false) ?_)
 iterate 3 refine Of 66 Z Z Z Z ?_
 refine qu (Bv false) (Pf Z Z Z) (qa (Bv false) (Wz (WQ.f10 (WQ.f10 (WQ.f10 (WQ.f10 (WQ.f9 (WQ.f9 (WQ.f9 (WQ.f9 (WQ.f10 ?_)))))))))))
 refine WQ.f10 (WQ.f10 ?_)
 obtain rfl:=oi h
 exact Tj ⟨lr,Z,Z⟩
 iterate 7 refine Of 37 Z Z m Z ?_
 refine qu (Bv false) (Pf Z m Z) (qm (Bv false) ?_)
 iterate 9 refine Of 46 Z Z Z Z ?_
 refine qu (Bv false) (Pf Z Z Z) (qm (Bv false) ?_)
 iterate 2 refine Of 57 Z Z Z Z ?_
 refine qu (Bv false) (Pf Z Z Z) (qm (Bv false) ?_)
 iterate 3 refine Of 61 Z Z Z Z ?_
 refine qu (Bv false) (Pf Z Z Z) (qm (Bv false) ?_)
 iterate 3 refine Of 66 Z Z Z Z ?_
 refine qu (Bv false) (Pf Z Z Z) (qa (Bv false) (Wz (WQ.f10 (WQ.f10 (WQ.f10 (WQ.f10 (WQ.f9 (WQ.f9 (WQ.f9 (WQ.f9 (WQ.f10 ?_)))))))))))
 refine WQ.f10 (WQ.f10 ?_)
 obtain rfl:=oi h
 exact Tj ⟨lr,Z,Z⟩
 iterate 4 refine Of 31 Z Z C Z ?_
 refine qu (Bv false) (Pf Z C Z) (qm (Bv false) ?_)
 iterate 7 refine Of 37 Z Z Z Z ?_
 refine qu (Bv false) (Pf Z Z Z) (qm (Bv false) ?_)
 iterate 9 refine Of 46 Z Z Z Z ?_
 refine qu (Bv false) (Pf Z Z Z) (qm (Bv false) ?_)
 iterate 2 refine Of 57 Z Z Z Z ?_
 refine qu (Bv false) (Pf Z Z Z) (qm (Bv false) ?_)
 iterate 3 refine Of 61 Z Z Z Z ?_
 refine qu (Bv false) (Pf Z Z Z) (qm (Bv false) ?_)
 iterate 3 refine Of 66 Z Z Z Z ?_
 refine qu (Bv false) (Pf Z Z Z) (qa (Bv false) (Wz (WQ.f10 (WQ.f10 (WQ.f10 (WQ.f10 (WQ.f9 (WQ.f9 (WQ.f9 (WQ.f9 (WQ.f10 ?_)))))))))))
 refine WQ.f10 (WQ.f10 ?_)
 obtain rfl:=oi h
 exact Tj ⟨lr,Z,Z⟩
 iterate 2 refine Of 27 Z Z I Z ?_
 refine qu (Bv false) (Pf Z I Z) (qm (Bv false) ?_)
 iterate 4 refine Of 31 Z Z Z Z ?_
 refine qu (Bv false) (Pf Z Z Z) (qm (Bv false) ?_)
 iterate 7 refine Of 37 Z Z Z Z ?_
 refine qu (Bv false) (Pf Z Z Z) (qm (Bv false) ?_)
 iterate 9 refine Of 46 Z Z Z Z ?_
 refine qu (Bv false) (Pf Z Z Z) (qm (Bv false) ?_)
 iterate 2 refine Of 57 Z Z Z Z ?_
 refine qu (Bv false) (Pf Z Z Z) (qm (Bv false) ?_)
 iterate 3 refine Of 61 Z Z Z Z ?_
 refine qu (Bv false) (Pf Z Z Z) (qm (Bv false) ?_)
 iterate 3 refine Of 66 Z Z Z Z ?_
 refine qu (Bv false) (Pf Z Z Z) (qa (Bv false) (Wz (WQ.f10 (WQ.f10 (WQ.f10 (WQ.f10 (WQ.f9 (WQ.f9 (WQ.f9 (WQ.f9 (WQ.f10 ?_)))))))))))
 refine WQ.f10 (WQ.f10 ?_)
 obtain rfl:=oi h
 exact Tj ⟨lr,Z,Z⟩
 rintro j7 j8 j9 ⟨d7,rfl,c3⟩
 refine Cr (Dr (Dr (Dr (Dr (Dr (Dr (Dr (Dr (Dr (Dr (Dr ?_)))))))))))
 exact Rf h [] Z (Rs Z c3) (((((((c4.trans c5).trans c6).trans W).trans X).trans Y).trans K).trans d7) ⟨Z,Z⟩
noncomputable def QgQ (a0:Int) (a1:Int) (a2:Int):Option Bool:=
 (((if(decide (a1≤a0))=true then(some (decide (a0≤a2)))else(some false)):Option Bool).bind fun a=>(some a))
def Qu0 (a0:Int) (a1:Int) (a2:Int):Bool→Value→IM→HL→Prop:=
 fun(a:Bool) (v:Value) (M':IM) (H':HL)=>(.bool a)=v∧H'=[]
theorem Qh0 (a0:Int) (a1:Int) (a2:Int) (M:IM) (res:Bool) (h:QgQ a0 a1 a2=some res):
 Tri prog 74 #[(Iv a0),(Iv a1),(Iv a2)] M [] (Qu0 a0 a1 a2 res):=by
 unfold QgQ at h
 refine Te func74 Z Z ?_
 intro F ρ hρ
 refine Sr (qa (Bv false) (Nt ?_))
 obtain ⟨c,e,h⟩:=bnd h
 refine Jf (fun(c:Bool) ρ' M' H'=>M.le M'∧F=H'∧ρ' 6=(Bv c)) c ?_ ?_
 have h:=e
 refine Cg (qM (Iv a0) (hρ 0) (qM (Iv a1) (hρ 1) (qu (Bv (decide (a1≤a0))) (geq Z Z) (qm (Bv (decide (a1≤a0))) ?_))))
 rcases Bi h with⟨a,h⟩ |⟨a,h⟩
 refine On 10 Z Z a (qM (Iv a0) (hρ 0) (On 10 Z Z a (qM (Iv a2) (hρ 2) (qo 10 a (Bv (decide (a0≤a2))) (leq Z Z) (qu (Bv (decide (a0≤a2))) (Pt Z a Z) (qa (Bv (decide (a0≤a2))) (Wz ?_)))))))
 obtain rfl:=oi h
 exact Tj ⟨lr,Z,Z⟩
 iterate 3 refine Of 10 Z Z a Z ?_
 refine qu (Bv false) (Pf Z a Z) (qa (Bv false) (Wz ?_))
 obtain rfl:=oi h
 exact Tj ⟨lr,Z,Z⟩
 rintro f g i ⟨d,rfl,b⟩
 exact Cr (Rf h [] Z (Rs Z b) d ⟨Z,Z⟩)
noncomputable def Qe0 (a0:QaA) (s_:Int):Option (Int⊕(Unit⊕(ByteArray×Int×Int))):=
 match s_ with
 |a=>
 (if(decide (a<(a0.Brokers.length:Int)))=true then(grd (0≤a∧a<a0.Brokers.length) (((if(decide ((0:Int)<a))=true then(grd (0≤i64.wrap (a - (1:Int))∧i64.wrap (a - (1:Int))<a0.Brokers.length) (some ((rd a0.Brokers (i64.wrap (a - (1:Int)))).Id)))else(some (0:Int))):Option Int).bind fun b=>(((if(decide (((rd a0.Brokers a).Id)≤b))=true then(some true)else(if(decide ((64:Int)<((rd a0.Brokers a).Id)))=true then(some true)else((QgQ ((rd a0.Brokers a).Epoch) (0:Int) (1073741824:Int)).bind fun c=>(if(!c)=true then(some true)else((QeT ((rd a0.Brokers a).Rack)).bind fun d=>(some (!d))))))):Option Bool).bind fun e=>(if e=true then(some (inr (inr ((⟨#[98,114,111,107,101,114]⟩:ByteArray),a,(2:Int)))))else(((if((rd a0.Brokers a).Fenced)=true then(if((rd a0.Brokers a).Leaving)=true then((QfZ a0 ((rd a0.Brokers a).Id)).bind fun f=>(some f))else(some false))else(some false)):Option Bool).bind fun g=>(if g=true then(some (inr (inr ((⟨#[98,114,111,107,101,114]⟩:ByteArray),a,(10:Int)))))else(some (inl (i64.wrap (a+(1:Int)))))))))))else(some (inr (inl ()))))
noncomputable def QhM (a0:QaA):Option QaL:=
 ((((iter (Qe0 a0) (0:Int)).bind (Sum.elim (fun _=>(some (inl ()))) (fun(a,b,c)=>(((some (⟨a,b,c⟩:QaL))).bind fun r=>some (inr r))))):Option (Unit⊕QaL)).bind (Sum.elim (fun _=>(some Q4E)) some))
def QoZ (a0:QaA) (b c d e:Value):QaL→Value→IM→HL→Prop:=
 fun(a:QaL) (v:Value) (M':IM) (H':HL)=>(.agg #[(.string a.Op),(.int .i64 a.At),(.int .i64 a.Code)])=v∧H'=[]
theorem Qq8 (a0:QaA) (M:IM) (b d e f:Value) (k:RS QaD M b a0.Brokers) (O:RS QaG M d a0.Topics) (P:RS QaF M e a0.Configs) (Q:RS QaI M f a0.Done) (res:QaL) (h:QhM a0=some res):
 Tri prog 28 #[(a27_ a0 b d e f)] M [] (QoZ a0 b d e f res):=by
 unfold QhM at h
 refine Te func28 Z Z ?_
 intro F ρ hρ
 refine Sr (We (box (cs:=(l27 a0 b d e f).toArray) (congrArg Value.cells (asE (a27_ a0 b d e f) (hρ 0)))) Z ?_)
 rintro _ _ _ - ⟨rfl,p,rfl,rfl⟩
 refine We (Al ze36 Z) Z ?_
 rintro _ _ _ - ⟨rfl,z,rfl,rfl⟩
 refine Nt ?_
 obtain ⟨c8,b4,h⟩:=bnd h
 refine WC.joinE (fun(_:Unit) ρ' M' H'=>M.le M'∧[(z, .cells #[(Sv ⟨#[]⟩),(Iv 0),(Iv 0)] 36 (0,0))]::[(p, .cells (l27 a0 b d e f).toArray 27 (0,0))]::F=H'∧ρ' 2=(pt z 0)) c8 ?_ ?_
 have a3:=h
 have h:=b4
 refine Sr (qa (Iv 0) (Nt (Bk ?_)))
 obtain ⟨d5,b5,R⟩:=bnd h
 clear h
 refine WC.loop b5 (fun(a:Int) ρ' M' H'=>M.le M'∧[(z, .cells #[(Sv ⟨#[]⟩),(Iv 0),(Iv 0)] 36 (0,0))]::[(p, .cells (l27 a0 b d e f).toArray 27 (0,0))]::F=H'∧ρ' 1=(pt p 0)∧ρ' 2=(pt z 0)∧ρ' 3=(Iv a)) ?_ ?_
 exact⟨lr,Z,Z,Z,Z⟩
 rintro a d6 d7 c9 d8 h ⟨E,rfl,i,B,g⟩
 unfold Qe0 at h
 refine Cs (Sr (qM (Iv a) g (qu (pt p 0) (Fa QdN i Z) (qu b (Lb 1 pl22 Z Z Z) ?_))))
 have k:=k.mono E
 refine qu (Iv (a0.Brokers.length:Int)) (lenS underlying22 Z k.len) (qu (Bv (decide (a<(a0.Brokers.length:Int)))) (lss Z Z) (Nt (Ch h Z (fun b6 h=> ?_) (fun b6 h=> ?_))))
 refine Ck (Tc (Cs (Bk (Sr (qu (pt p 0) (Fa QdN i Z) (qu b (Lb 1 pl22 Z Z Z) (qM (Iv a) g ?_)))))))
 obtain ⟨G,h⟩:=QaQ h
 obtain ⟨d0,d3,a4,a5,hhas35⟩:=k.at G.1 G.2 (by decide)
 obtain rfl:=Qa2 a5
 refine qu (.pointer (some d0)) (indexAddr (n:=a0.Brokers.length) underlying22 sz71 Z Z G.1 G.2 a4) (qu (a71_ (rd a0.Brokers a)) (loadMA (cs:=(l71 (rd a0.Brokers a))) ag71 sz71 Z hhas35) (We (Al ze71 Z) Z ?_))
 rintro _ _ _ - ⟨rfl,q,rfl,rfl⟩
 refine We (Sg (v:=(a71_ (rd a0.Brokers a))) (vl:=(l71 (rd a0.Brokers a))) (arr':=(l71 (rd a0.Brokers a))) Z sz71 Z Z (onb Z) Z Z Z) Z ?_
 rintro _ _ _ - ⟨rfl,rfl⟩
 refine Ns (qa (Iv 0) (Nt ?_))
 obtain ⟨L,b7,h⟩:=bnd h
 refine Jf (fun(L:Int) ρ' M' H'=>c9.le M'∧[(q, .cells (l71 (rd a0.Brokers a)).toArray 71 (0,0))]::[(z, .cells #[(Sv ⟨#[]⟩),(Iv 0),(Iv 0)] 36 (0,0))]::[(p, .cells (l27 a0 b d e f).toArray 27 (0,0))]::F=H'∧ρ' 1=(pt p 0)∧ρ' 2=(pt z 0)∧ρ' 3=(Iv a)∧ρ' 4=(pt q 0)∧ρ' 5=(Iv L)) L ?_ ?_
 have h:=b7
 refine Sr (qM (Iv a) g (qu (Bv (decide ((0:Int)<a))) (gtr Z Z) (Nt (Ch h Z (fun b8 h=> ?_) (fun b8 h=> ?_)))))
 refine Cg (qu (pt p 0) (Fa QdN i Z) (qu b (Lb 2 pl22 Z Z Z) (qM (Iv a) g (qu (Iv (i64.wrap (a - 1))) (PO.sub Z Z) ?_))))
 obtain ⟨I,h⟩:=QaQ h
 obtain ⟨b9,d4,a6,a7,hhas46⟩:=k.at I.1 I.2 (by decide)
 obtain rfl:=Qa2 a7
 refine qu (.pointer (some b9)) (indexAddr (n:=a0.Brokers.length) underlying22 sz71 Z Z I.1 I.2 a6) (qu (.pointer (some (b9.add 0))) (Fa QhQ Z Z) (qu (Iv ((rd a0.Brokers (i64.wrap (a - 1))).Id)) (loadM pl3 Z (IM.has0 hhas46)) (qa (Iv ((rd a0.Brokers (i64.wrap (a - 1))).Id)) (Wz ?_))))
 obtain rfl:=oi h
 exact Tj ⟨lr,Z,i,B,g,Z,Z⟩
 refine Ck ?_
 obtain rfl:=oi h
 exact Tj ⟨lr,Z,i,B,g,Z,Z⟩
 rintro d9 d1 e0 ⟨S,rfl,r,s,t,c,Y⟩
 refine Cs ?_
 obtain ⟨a8,c0,h⟩:=bnd h
 refine Jf (fun(a8:Bool) ρ' M' H'=>d1.le M'∧[(q, .cells (l71 (rd a0.Brokers a)).toArray 71 (0,0))]::[(z, .cells #[(Sv ⟨#[]⟩),(Iv 0),(Iv 0)] 36 (0,0))]::[(p, .cells (l27 a0 b d e f).toArray 27 (0,0))]::F=H'∧ρ' 1=(pt p 0)∧ρ' 2=(pt z 0)∧ρ' 3=(Iv a)∧ρ' 4=(pt q 0)∧ρ' 47=(Bv a8)) a8 ?_ ?_
 have h:=c0
 refine Cg (qu (pt q 0) (Fa QhQ c Z) (qu (Iv ((rd a0.Brokers a).Id)) (Lb 0 pl3 Z Z Z) (qM (Iv L) Y (qu (Bv (decide (((rd a0.Brokers a).Id)≤L))) (leq Z Z) (qm (Bv (decide (((rd a0.Brokers a).Id)≤L))) ?_)))))
 rcases Bi h with⟨x,h⟩ |⟨x,h⟩
 iterate 3 refine Of 31 Z Z x Z ?_
 refine qu (Bv true) (Pt Z x Z) (qm (Bv true) ?_)
 iterate 4 refine Of 36 Z Z Z Z ?_
 refine qu (Bv true) (Pt Z Z Z) (qm (Bv true) ?_)
 iterate 4 refine Of 42 Z Z Z Z ?_
 refine qu (Bv true) (Pt Z Z Z) (Wz ?_)
 obtain rfl:=oi h
 exact Tj ⟨lr,Z,r,s,t,c,Z⟩
 refine qo 31 x (pt q 0) (Fa QhQ c Z) (qo 31 x (Iv ((rd a0.Brokers a).Id)) (Lb 0 pl3 Z Z Z) (qo 31 x (Bv (decide ((64:Int)<((rd a0.Brokers a).Id)))) (gtr Z Z) (qu (Bv (decide ((64:Int)<((rd a0.Brokers a).Id)))) (Pf Z x Z) (qm (Bv (decide ((64:Int)<((rd a0.Brokers a).Id)))) ?_))))
 rcases Bi h with⟨l,h⟩ |⟨l,h⟩
 iterate 4 refine Of 36 Z Z l Z ?_
 refine qu (Bv true) (Pt Z l Z) (qm (Bv true) ?_)
 iterate 4 refine Of 42 Z Z Z Z ?_
 refine qu (Bv true) (Pt Z Z Z) (Wz ?_)
 obtain rfl:=oi h
 exact Tj ⟨lr,Z,r,s,t,c,Z⟩
 refine qo 36 l (pt q 1) (Fa QmU c Z) (qo 36 l (Iv ((rd a0.Brokers a).Epoch)) (Lb 0 pl3 Z Z Z) (On 36 Z Z l ?_))
 obtain ⟨a1,c1,h⟩:=bnd h
 refine We (Ca co74 (Qh0 ((rd a0.Brokers a).Epoch) (0:Int) (1073741824:Int) _ a1 c1) (QhR Z Z Z)) Z ?_
 rintro _ e1 _ T ⟨_,⟨rfl,rfl⟩,rfl⟩
 refine WL.a0 (qo 36 l (Bv (!a1)) (PO.not Z) (qu (Bv (!a1)) (Pf Z l Z) (qm (Bv (!a1)) ?_)))
 rcases Bi h with⟨m,h⟩ |⟨m,h⟩
 iterate 4 refine Of 42 Z Z m Z ?_
 refine qu (Bv true) (Pt Z m Z) (Wz ?_)
 obtain rfl:=oi h
 exact Tj ⟨T,Z,r,s,t,c,Z⟩
 refine qo 42 m (pt q 2) (Fa QpG c Z) (qo 42 m (Sv ((rd a0.Brokers a).Rack)) (Lb 0 pl9 Z Z Z) (On 42 Z Z m ?_))
 obtain ⟨a9,c2,h⟩:=bnd h
 refine We (Ca co75 (Qg6 ((rd a0.Brokers a).Rack) _ a9 c2) (QbK Z)) Z ?_
 rintro _ e2 _ b0 ⟨_,⟨rfl,rfl⟩,rfl⟩
 refine WL.a0 (qo 42 m (Bv (!a9)) (PO.not Z) (qu (Bv (!a9)) (Pf Z m Z) (Wz ?_)))
 obtain rfl:=oi h
 exact Tj ⟨(T.trans b0),Z,r,s,t,c,Z⟩
 rintro e3 d2 e4 ⟨U,rfl,u,j,w,C,V⟩
 have N:=(E.trans S).trans U
 refine Ch h V (fun c3 h=> ?_) (fun c3 h=> ?_)
 refine Sr (qM (Iv a) w (qu (.agg #[(Sv ⟨#[98,114,111,107,101,114]⟩),(Iv a),(Iv 2)]) (Bl (cl:=[(Sv ⟨#[98,114,111,107,101,114]⟩),(Iv a),(Iv 2)]) ze36 fp36 (Pc (Sv ⟨#[98,114,111,107,101,114]⟩) Z Z (Pc (Iv a) Z Z (Pc (Iv 2) Z Z Pz))) Z) (WL.f1 (We (Sg (v:=(.agg #[(Sv ⟨#[98,114,111,107,101,114]⟩),(Iv a),(Iv 2)])) (vl:=[(Sv ⟨#[98,114,111,107,101,114]⟩),(Iv a),(Iv 2)]) (arr':=[(Sv ⟨#[98,114,111,107,101,114]⟩),(Iv a),(Iv 2)]) Z sz36 j Z (onb Z) Z Z Z) Z ?_))))
 rintro _ _ _ - ⟨rfl,rfl⟩
 refine Nt (Cr (Tr (Br (Tr (WQ.leaveR (inr ((⟨#[98,114,111,107,101,114]⟩:ByteArray),a,(2:Int))) (oi h).symm (fun y=> ?_))))))
 subst y
 have h:=(QdO R)
 refine Br (Tr ?_)
 have h:=KK.early h a3
 exact Qa (Dr (Qa (Dr (Rd h [] (fun _ hs=>hs.drop) (QbH Z (Rc (cs:=[(Sv ⟨#[98,114,111,107,101,114]⟩),(Iv a),(Iv 2)]) 0 ag36 sz36 j Z Z)) N ⟨Z,Z⟩))))
 refine Ck (Tc ?_)
 obtain ⟨b1,c4,h⟩:=bnd h
 refine Jf (fun(b1:Bool) ρ' M' H'=>d2.le M'∧[(q, .cells (l71 (rd a0.Brokers a)).toArray 71 (0,0))]::[(z, .cells #[(Sv ⟨#[]⟩),(Iv 0),(Iv 0)] 36 (0,0))]::[(p, .cells (l27 a0 b d e f).toArray 27 (0,0))]::F=H'∧ρ' 1=(pt p 0)∧ρ' 2=(pt z 0)∧ρ' 3=(Iv a)∧ρ' 61=(Bv b1)) b1 ?_ ?_
 have h:=c4
 refine Cg (qu (pt q 3) (Fa QnX C Z) (qu (Bv ((rd a0.Brokers a).Fenced)) (Lb 0 pl4 Z Z Z) (qm (Bv ((rd a0.Brokers a).Fenced)) ?_)))
 rcases Bi h with⟨A,h⟩ |⟨A,h⟩
 refine qo 52 A (pt q 4) (Fa Qs5 C Z) (qo 52 A (Bv ((rd a0.Brokers a).Leaving)) (Lb 0 pl4 Z Z Z) (qu (Bv ((rd a0.Brokers a).Leaving)) (Pt Z A Z) (qm (Bv ((rd a0.Brokers a).Leaving)) ?_)))
 rcases Bi h with⟨o,h⟩ |⟨o,h⟩
 refine qo 56 o (a27_ a0 b d e f) (La (cs:=(l27 a0 b d e f)) 2 ag27 sz27 u Z Z) (qo 56 o (pt q 0) (Fa QhQ C Z) (qo 56 o (Iv ((rd a0.Brokers a).Id)) (Lb 0 pl3 Z Z Z) (On 56 Z Z o ?_)))
 obtain ⟨c5,c6,h⟩:=bnd h
 have k:=k.mono (S.trans U)
 have O:=O.mono N
 have P:=P.mono N
 have Q:=Q.mono N
 refine We (Ca co76 (QkS a0 ((rd a0.Brokers a).Id) _ _ _ _ _ k O P Q c5 c6) (QaU Z Z)) Z ?_
 rintro _ e5 _ b2 ⟨_,⟨rfl,rfl⟩,rfl⟩
 refine WL.a0 (qu (Bv c5) (Pt Z o Z) (Wz ?_))
 obtain rfl:=oi h
 exact Tj ⟨b2,Z,u,j,w,Z⟩
 iterate 4 refine Of 56 Z Z o Z ?_
 refine qu (Bv false) (Pf Z o Z) (Wz ?_)
 obtain rfl:=oi h
 exact Tj ⟨lr,Z,u,j,w,Z⟩
 iterate 2 refine Of 52 Z Z A Z ?_
 refine qu (Bv false) (Pf Z A Z) (qm (Bv false) ?_)
 iterate 4 refine Of 56 Z Z Z Z ?_
 refine qu (Bv false) (Pf Z Z Z) (Wz ?_)
 obtain rfl:=oi h
 exact Tj ⟨lr,Z,u,j,w,Z⟩
 rintro e6 e7 e8 ⟨W,rfl,a2,D,J,X⟩
 refine Ch h X (fun c7 h=> ?_) (fun c7 h=> ?_)
 refine Sr (qM (Iv a) J (qu (.agg #[(Sv ⟨#[98,114,111,107,101,114]⟩),(Iv a),(Iv 10)]) (Bl (cl:=[(Sv ⟨#[98,114,111,107,101,114]⟩),(Iv a),(Iv 10)]) ze36 fp36 (Pc (Sv ⟨#[98,114,111,107,101,114]⟩) Z Z (Pc (Iv a) Z Z (Pc (Iv 10) Z Z Pz))) Z) (WL.f1 (We (Sg (v:=(.agg #[(Sv ⟨#[98,114,111,107,101,114]⟩),(Iv a),(Iv 10)])) (vl:=[(Sv ⟨#[98,114,111,107,101,114]⟩),(Iv a),(Iv 10)]) (arr':=[(Sv ⟨#[98,114,111,107,101,114]⟩),(Iv a),(Iv 10)]) Z sz36 D Z (onb Z) Z Z Z) Z ?_))))
 rintro _ _ _ - ⟨rfl,rfl⟩
 refine Nt (Cr (Br (Tr (WQ.leaveR (inr ((⟨#[98,114,111,107,101,114]⟩:ByteArray),a,(10:Int))) (oi h).symm (fun y=> ?_)))))
 subst y
 have h:=(QdO R)
 refine Br (Tr ?_)
 have h:=KK.early h a3
 exact Qa (Dr (Qa (Dr (Rd h [] (fun _ hs=>hs.drop) (QbH Z (Rc (cs:=[(Sv ⟨#[98,114,111,107,101,114]⟩),(Iv a),(Iv 10)]) 0 ag36 sz36 D Z Z)) (N.trans W) ⟨Z,Z⟩))))
 exact Ck (Bn (Tc (Cg (qM (Iv a) J (qu (Iv (i64.wrap (a+1))) (add Z Z) (qa (Iv (i64.wrap (a+1))) (Wz (Dr (WQ.again (i64.wrap (a+1)) (oi h).symm ⟨(N.trans W),Z,a2,D,Z⟩)))))))))
 refine WC.exit (WQ.thenE (WQ.leaveE (inl ()) (oi h).symm (fun y=> ?_)))
 subst y
 have h:=QeJ R
 exact WQ.blockH (WQ.thenFE h ⟨E,Z,B⟩)
 rintro _ e9 f0 f2 rfl ⟨b3,rfl,K⟩
 have h:=(Sum.elim_inl _ _ _).symm.trans h
 refine Sr (qu (.agg #[(Sv ⟨#[]⟩),(Iv 0),(Iv 0)]) (Bl (cl:=[(Sv ⟨#[]⟩),(Iv 0),(Iv 0)]) ze36 fp36 Pz Z) (We (Sg (v:=(.agg #[(Sv ⟨#[]⟩),(Iv 0),(Iv 0)])) (vl:=[(Sv ⟨#[]⟩),(Iv 0),(Iv 0)]) (arr':=[(Sv ⟨#[]⟩),(Iv 0),(Iv 0)]) Z sz36 K Z (onb Z) Z Z Z) Z ?_))
 rintro _ _ _ - ⟨rfl,rfl⟩
 exact Nt (Cr (Qa (Dr (Rd h [] (fun _ hs=>hs.drop) (QbH Z (Rc (cs:=[(Sv ⟨#[]⟩),(Iv 0),(Iv 0)]) 0 ag36 sz36 K Z Z)) b3 ⟨Z,Z⟩))))
noncomputable def QkK (a0:QaA) (a1:QaH):Option Bool:=
 ((((QcS a1.Ids).bind fun a=>(if(!a)=true then(some true)else((QcS a1.Isr).bind fun b=>(if(!b)=true then(some true)else((QcS a1.Add).bind fun c=>(if(!c)=true then(some true)else((QcS a1.Drop).bind fun d=>(some (!d))))))))):Option Bool).bind fun e=>(if e=true then(some false)else((((QgQ a1.Epoch (0:Int) (1073741824:Int)).bind fun f=>(if f=true then((QhV a0 a1).bind fun g=>(some (decide (g=(0:Int)))))else(some false))):Option Bool).bind fun i=>(some i))))
def QsF (a0:QaA) (a1:QaH) (a b c d e f g i:Value):Bool→Value→IM→HL→Prop:=
 fun(j:Bool) (v:Value) (M':IM) (H':HL)=>(.bool j)=v∧H'=[]
theorem Qu1 (a0:QaA) (a1:QaH) (M:IM) (f g i j a b c d:Value) (z:RS QaD M f a0.Brokers) (A:RS QaG M g a0.Topics) (B:RS QaF M i a0.Configs) (C:RS QaI M j a0.Done) (x:RS (Kd.int .i64) M a a1.Ids) (p:RS (Kd.int .i64) M b a1.Isr) (q:RS (Kd.int .i64) M c a1.Add) (r:RS (Kd.int .i64) M d a1.Drop) (res:Bool) (h:QkK a0 a1=some res):
 Tri prog 77 #[(a27_ a0 f g i j),(a58_ a1 a b c d)] M [] (QsF a0 a1 f g i j a b c d res):=by
 unfold QkK at h
 refine Te func77 Z Z ?_
 intro F ρ hρ
 refine Sr (We (box (cs:=(l27 a0 f g i j).toArray) (congrArg Value.cells (asE (a27_ a0 f g i j) (hρ 0)))) Z ?_)
 rintro _ _ _ - ⟨rfl,L,rfl,rfl⟩
 refine We (box (cs:=(l58 a1 a b c d).toArray) (congrArg Value.cells (asE (a58_ a1 a b c d) (hρ 1)))) Z ?_
 rintro _ _ _ - ⟨rfl,s,rfl,rfl⟩
 refine qa (Bv false) (Nt (Cs ?_))
 obtain ⟨N,U,h⟩:=bnd h
 refine Jf (fun(N:Bool) ρ' M' H'=>M.le M'∧[(s, .cells (l58 a1 a b c d).toArray 58 (0,0))]::[(L, .cells (l27 a0 f g i j).toArray 27 (0,0))]::F=H'∧ρ' 2=(pt L 0)∧ρ' 3=(pt s 0)∧ρ' 26=(Bv N)) N ?_ ?_
 have h:=U
 refine Cg (qu (pt s 0) (Fa QiE Z Z) (qu a (Lb 0 pl56 Z Z Z) ?_))
 obtain ⟨O,V,h⟩:=bnd h
 refine We (Ca Q13 (QeU a1.Ids _ _ x O V) (QbK Z)) Z ?_
 rintro _ a8 _ e ⟨_,⟨rfl,rfl⟩,rfl⟩
 refine WL.a0 (qu (Bv (!O)) (PO.not Z) (qm (Bv (!O)) ?_))
 rcases Bi h with⟨k,h⟩ |⟨k,h⟩
 iterate 4 refine Of 9 Z Z k Z ?_
 refine qu (Bv true) (Pt Z k Z) (qm (Bv true) ?_)
 iterate 4 refine Of 15 Z Z Z Z ?_
 refine qu (Bv true) (Pt Z Z Z) (qm (Bv true) ?_)
 iterate 4 refine Of 21 Z Z Z Z ?_
 refine qu (Bv true) (Pt Z Z Z) (Wz ?_)
 obtain rfl:=oi h
 exact Tj ⟨e,Z,Z,Z,Z⟩
 refine qo 9 k (pt s 1) (Fa QlJ Z Z) (qo 9 k b (Lb 0 pl56 Z Z Z) (On 9 Z Z k ?_))
 obtain ⟨E,W,h⟩:=bnd h
 have p:=p.mono e
 refine We (Ca Q13 (QeU a1.Isr _ _ p E W) (QbK Z)) Z ?_
 rintro _ a9 _ o ⟨_,⟨rfl,rfl⟩,rfl⟩
 refine WL.a0 (qo 9 k (Bv (!E)) (PO.not Z) (qu (Bv (!E)) (Pf Z k Z) (qm (Bv (!E)) ?_)))
 rcases Bi h with⟨l,h⟩ |⟨l,h⟩
 iterate 4 refine Of 15 Z Z l Z ?_
 refine qu (Bv true) (Pt Z l Z) (qm (Bv true) ?_)
 iterate 4 refine Of 21 Z Z Z Z ?_
 refine qu (Bv true) (Pt Z Z Z) (Wz ?_)
 obtain rfl:=oi h
 exact Tj ⟨(e.trans o),Z,Z,Z,Z⟩
 refine qo 15 l (pt s 4) (Fa QmT Z Z) (qo 15 l c (Lb 0 pl56 Z Z Z) (On 15 Z Z l ?_))
 obtain ⟨G,X,h⟩:=bnd h
 have q:=q.mono (e.trans o)
 refine We (Ca Q13 (QeU a1.Add _ _ q G X) (QbK Z)) Z ?_
 rintro _ b0 _ u ⟨_,⟨rfl,rfl⟩,rfl⟩
 refine WL.a0 (qo 15 l (Bv (!G)) (PO.not Z) (qu (Bv (!G)) (Pf Z l Z) (qm (Bv (!G)) ?_)))
 rcases Bi h with⟨m,h⟩ |⟨m,h⟩
 iterate 4 refine Of 21 Z Z m Z ?_
 refine qu (Bv true) (Pt Z m Z) (Wz ?_)
 obtain rfl:=oi h
 exact Tj ⟨((e.trans o).trans u),Z,Z,Z,Z⟩
 refine qo 21 m (pt s 5) (Fa Ql7 Z Z) (qo 21 m d (Lb 0 pl56 Z Z Z) (On 21 Z Z m ?_))
 obtain ⟨P,Y,h⟩:=bnd h
 have r:=r.mono ((e.trans o).trans u)
 refine We (Ca Q13 (QeU a1.Drop _ _ r P Y) (QbK Z)) Z ?_
 rintro _ b1 _ Q ⟨_,⟨rfl,rfl⟩,rfl⟩
 refine WL.a0 (qo 21 m (Bv (!P)) (PO.not Z) (qu (Bv (!P)) (Pf Z m Z) (Wz ?_)))
 obtain rfl:=oi h
 exact Tj ⟨(((e.trans o).trans u).trans Q),Z,Z,Z,Z⟩
 rintro b2 a7 b3 ⟨v,rfl,I,y,D⟩
 refine Ch h D (fun a2 h=> ?_) (fun a2 h=> ?_)
 exact Sr (qa (Bv false) (Nt (Cr (Tr (Dr (Dr (Rf h [] Z (Rs Z Z) v ⟨Z,Z⟩)))))))
 refine Ck (Tc ?_)
 obtain ⟨R,a3,h⟩:=bnd h
 refine Jf (fun(R:Bool) ρ' M' H'=>a7.le M'∧[(s, .cells (l58 a1 a b c d).toArray 58 (0,0))]::[(L, .cells (l27 a0 f g i j).toArray 27 (0,0))]::F=H'∧ρ' 4=(Bv R)) R ?_ ?_
 have h:=a3
 refine Cg (qu (pt s 3) (Fa Ql6 y Z) (qu (Iv a1.Epoch) (Lb 0 pl3 Z Z Z) ?_))
 obtain ⟨a4,a5,h⟩:=bnd h
 refine We (Ca co74 (Qh0 a1.Epoch (0:Int) (1073741824:Int) _ a4 a5) (QhR Z Z Z)) Z ?_
 rintro _ b4 _ w ⟨_,⟨rfl,rfl⟩,rfl⟩
 have t:=v.trans w
 refine WL.a0 (qm (Bv a4) ?_)
 rcases Bi h with⟨n,h⟩ |⟨n,h⟩
 refine qo 30 n (a27_ a0 f g i j) (La (cs:=(l27 a0 f g i j)) 1 ag27 sz27 I Z Z) (qo 30 n (a58_ a1 a b c d) (La (cs:=(l58 a1 a b c d)) 0 ag58 sz58 y Z Z) (On 30 Z Z n ?_))
 obtain ⟨J,a6,h⟩:=bnd h
 have z:=z.mono t
 have A:=A.mono t
 have B:=B.mono t
 have C:=C.mono t
 have x:=x.mono t
 have p:=p.mono t
 have q:=q.mono t
 have r:=r.mono t
 refine We (Ca Q7F (QmQ a0 a1 _ _ _ _ _ _ _ _ _ z A B C x p q r J a6) (QaU Z Z)) Z ?_
 rintro _ b5 _ S ⟨_,⟨rfl,rfl⟩,rfl⟩
 refine WL.a0 (qo 30 n (Bv (decide (J=0))) (eql Z Z) (qu (Bv (decide (J=0))) (Pt Z n Z) (qa (Bv (decide (J=0))) (Wz ?_))))
 obtain rfl:=oi h
 exact Tj ⟨(w.trans S),Z,Z⟩
 iterate 4 refine Of 30 Z Z n Z ?_
 refine qu (Bv false) (Pf Z n Z) (qa (Bv false) (Wz ?_))
 obtain rfl:=oi h
 exact Tj ⟨w,Z,Z⟩
 rintro b6 b7 b8 ⟨T,rfl,K⟩
 exact Cr (Dr (Dr (Rf h [] Z (Rs Z K) (v.trans T) ⟨Z,Z⟩)))
noncomputable def Qd9 (a0:QaA) (b:Int) (s_:(Int×Bool×Int)):Option ((Int×Bool×Int)⊕(Int×Bool)):=
 match s_ with
 |(d,c,a)=>
 (if(decide (a<b))=true then(((grd (0≤a∧a<a0.Topics.length) (if c=true then(some ((rd a0.Topics a).Id,true))else(grd (0≤a∧a<a0.Topics.length) (some ((rd a0.Topics a).Id,decide (((rd a0.Topics a).Name)=((rd a0.Topics b).Name))))))):Option (Int×Bool)).bind fun(e,f)=>(some (inl (e,f,i64.wrap (a+(1:Int))))))else(some (inr (d,c))))
noncomputable def QfK (a0:QaA) (b:Int) (s_:Int):Option (Int⊕(Unit⊕(ByteArray×Int×Int))):=
 match s_ with
 |a=>
 (if(decide (a<(((rd a0.Topics b).Parts).length:Int)))=true then(grd (0≤a∧a<((rd a0.Topics b).Parts).length) ((QkK a0 (rd ((rd a0.Topics b).Parts) a)).bind fun c=>(if(!c)=true then(some (inr (inr ((⟨#[116,111,112,105,99]⟩:ByteArray),b,(10:Int)))))else(some (inl (i64.wrap (a+(1:Int))))))))else(some (inr (inl ()))))
noncomputable def QeA (a0:QaA) (s_:Int):Option (Int⊕(Unit⊕(ByteArray×Int×Int))):=
 match s_ with
 |a=>
 (if(decide (a<(a0.Topics.length:Int)))=true then(((grd (0≤a∧a<a0.Topics.length) ((((iter (Qd9 a0 a) ((0:Int),false,(0:Int))).bind (fun(b,c)=>(some (b,c)))):Option (Int×Bool)).bind fun(d,e)=>(((if(decide (((rd a0.Topics a).Id)≤d))=true then(some true)else(if(decide (a0.Last<((rd a0.Topics a).Id)))=true then(some true)else((QeT ((rd a0.Topics a).Name)).bind fun f=>(if(!f)=true then(some true)else(if e=true then(some true)else(some (decide ((256:Int)<(((rd a0.Topics a).Parts).length:Int))))))))):Option Bool).bind fun g=>(if g=true then(((some (inr (inr ((⟨#[116,111,112,105,99]⟩:ByteArray),a,(2:Int)))))).bind fun r=>some (inr r))else((iter (QfK a0 a) (0:Int)).bind (Sum.elim (fun _=>(some (inl ()))) (fun(i,j,k)=>(((some (inr (inr (i,j,k))))).bind fun r=>some (inr r))))))))):Option (Unit⊕(Int⊕(Unit⊕(ByteArray×Int×Int))))).bind (Sum.elim (fun _=>(some (inl (i64.wrap (a+(1:Int)))))) some))else(some (inr (inl ()))))
noncomputable def QiD (a0:QaA):Option QaL:=
 (((if(decide ((256:Int)<(a0.Topics.length:Int)))=true then(some true)else((QgQ a0.Last (0:Int) (1073741824:Int)).bind fun a=>(some (!a)))):Option Bool).bind fun b=>(if b=true then(some (⟨(⟨#[116,111,112,105,99]⟩:ByteArray),(a0.Topics.length:Int),(6:Int)⟩:QaL))else((((iter (QeA a0) (0:Int)).bind (Sum.elim (fun _=>(some (inl ()))) (fun(c,d,e)=>(((some (⟨c,d,e⟩:QaL))).bind fun r=>some (inr r))))):Option (Unit⊕QaL)).bind (Sum.elim (fun _=>(some Q4E)) some))))
def Qp0 (a0:QaA) (b c d e:Value):QaL→Value→IM→HL→Prop:=
 fun(a:QaL) (v:Value) (M':IM) (H':HL)=>(.agg #[(.string a.Op),(.int .i64 a.At),(.int .i64 a.Code)])=v∧H'=[]
theorem QsG (a0:QaA) (M:IM) (f c g i:Value) (b6:RS QaD M f a0.Brokers) (k:RS QaG M c a0.Topics) (b7:RS QaF M g a0.Configs) (b8:RS QaI M i a0.Done) (res:QaL) (h:QiD a0=some res):
 Tri prog 29 #[(a27_ a0 f c g i)] M [] (Qp0 a0 f c g i res):=by
 unfold QiD at h
 refine Te func29 Z Z ?_
 intro F ρ hρ
 refine Sr (We (box (cs:=(l27 a0 f c g i).toArray) (congrArg Value.cells (asE (a27_ a0 f c g i) (hρ 0)))) Z ?_)
 rintro _ _ _ - ⟨rfl,e,rfl,rfl⟩
 refine We (Al ze36 Z) Z ?_
 rintro _ _ _ - ⟨rfl,m,rfl,rfl⟩
 refine Nt (Cs ?_)
 obtain ⟨f0,h3,h⟩:=bnd h
 refine Jf (fun(f0:Bool) ρ' M' H'=>M.le M'∧[(m, .cells #[(Sv ⟨#[]⟩),(Iv 0),(Iv 0)] 36 (0,0))]::[(e, .cells (l27 a0 f c g i).toArray 27 (0,0))]::F=H'∧ρ' 1=(pt e 0)∧ρ' 2=(pt m 0)∧ρ' 18=(Bv f0)) f0 ?_ ?_
 have h:=h3
 refine Cg (qu (pt e 1) (Fa QbW Z Z) (qu c (Lb 1 pl23 Z Z Z) (qu (Iv (a0.Topics.length:Int)) (lenS underlying23 Z k.len) (qu (Bv (decide ((256:Int)<(a0.Topics.length:Int)))) (gtr Z Z) (qm (Bv (decide ((256:Int)<(a0.Topics.length:Int)))) ?_)))))
 rcases Bi h with⟨x,h⟩ |⟨x,h⟩
 iterate 4 refine Of 13 Z Z x Z ?_
 refine qu (Bv true) (Pt Z x Z) (Wz ?_)
 obtain rfl:=oi h
 exact Tj ⟨lr,Z,Z,Z,Z⟩
 refine qo 13 x (pt e 4) (Fa QmS Z Z) (qo 13 x (Iv a0.Last) (Lb 1 pl3 Z Z Z) (On 13 Z Z x ?_))
 obtain ⟨f2,h4,h⟩:=bnd h
 refine We (Ca co74 (Qh0 a0.Last (0:Int) (1073741824:Int) _ f2 h4) (QhR Z Z Z)) Z ?_
 rintro _ l3 _ f3 ⟨_,⟨rfl,rfl⟩,rfl⟩
 refine WL.a0 (qo 13 x (Bv (!f2)) (PO.not Z) (qu (Bv (!f2)) (Pf Z x Z) (Wz ?_)))
 obtain rfl:=oi h
 exact Tj ⟨f3,Z,Z,Z,Z⟩
 rintro l4 h5 l5 ⟨E,rfl,a6,K,b9⟩
 refine Ch h b9 (fun h6 h=> ?_) (fun h6 h=> ?_)
 refine Sr (qu (pt e 1) (Fa QbW a6 Z) (qu c (Lb 1 pl23 Z Z Z) ?_))
 have k:=k.mono E
 refine qu (Iv (a0.Topics.length:Int)) (lenS underlying23 Z k.len) (qu (.agg #[(Sv ⟨#[116,111,112,105,99]⟩),(Iv (a0.Topics.length:Int)),(Iv 6)]) (Bl (cl:=[(Sv ⟨#[116,111,112,105,99]⟩),(Iv (a0.Topics.length:Int)),(Iv 6)]) ze36 fp36 (Pc (Sv ⟨#[116,111,112,105,99]⟩) Z Z (Pc (Iv (a0.Topics.length:Int)) Z Z (Pc (Iv 6) Z Z Pz))) Z) (We (Sg (v:=(.agg #[(Sv ⟨#[116,111,112,105,99]⟩),(Iv (a0.Topics.length:Int)),(Iv 6)])) (vl:=[(Sv ⟨#[116,111,112,105,99]⟩),(Iv (a0.Topics.length:Int)),(Iv 6)]) (arr':=[(Sv ⟨#[116,111,112,105,99]⟩),(Iv (a0.Topics.length:Int)),(Iv 6)]) Z sz36 K Z (onb Z) Z Z Z) Z ?_))
 rintro _ _ _ - ⟨rfl,rfl⟩
 exact Nt (Cr (Tr (Qa (Dr (Rd h [] (fun _ hs=>hs.drop) (QbH Z (Rc (cs:=[(Sv ⟨#[116,111,112,105,99]⟩),(Iv (a0.Topics.length:Int)),(Iv 6)]) 0 ag36 sz36 K Z Z)) E ⟨Z,Z⟩)))))
 refine Ck (Tc ?_)
 obtain ⟨k0,h7,h⟩:=bnd h
 refine WC.joinE (fun(_:Unit) ρ' M' H'=>h5.le M'∧[(m, .cells #[(Sv ⟨#[]⟩),(Iv 0),(Iv 0)] 36 (0,0))]::[(e, .cells (l27 a0 f c g i).toArray 27 (0,0))]::F=H'∧ρ' 2=(pt m 0)) k0 ?_ ?_
 have e6:=h
 have h:=h7
 refine Sr (qa (Iv 0) (Nt (Bk ?_)))
 obtain ⟨l6,h8,c0⟩:=bnd h
 clear h
 refine WC.loop h8 (fun(a:Int) ρ' M' H'=>h5.le M'∧[(m, .cells #[(Sv ⟨#[]⟩),(Iv 0),(Iv 0)] 36 (0,0))]::[(e, .cells (l27 a0 f c g i).toArray 27 (0,0))]::F=H'∧ρ' 1=(pt e 0)∧ρ' 2=(pt m 0)∧ρ' 3=(Iv a)) ?_ ?_
 exact⟨lr,Z,a6,K,Z⟩
 rintro a l7 l8 f4 l9 h ⟨L,rfl,N,a7,O⟩
 unfold QeA at h
 refine Cs (Sr (qM (Iv a) O (qu (pt e 1) (Fa QbW N Z) (qu c (Lb 1 pl23 Z Z Z) ?_))))
 have k:=k.mono (E.trans L)
 refine qu (Iv (a0.Topics.length:Int)) (lenS underlying23 Z k.len) (qu (Bv (decide (a<(a0.Topics.length:Int)))) (lss Z Z) (Nt (Ch h Z (fun h9 h=> ?_) (fun h9 h=> ?_))))
 refine Ck (Tc ?_)
 obtain ⟨k1,i0,h⟩:=bnd h
 refine WC.joinE (fun(_:Unit) ρ' M' H'=>f4.le M'∧[(m, .cells #[(Sv ⟨#[]⟩),(Iv 0),(Iv 0)] 36 (0,0))]::[(e, .cells (l27 a0 f c g i).toArray 27 (0,0))]::F=H'∧ρ' 1=(pt e 0)∧ρ' 2=(pt m 0)∧ρ' 3=(Iv a)) k1 ?_ ?_
 have e7:=h
 have h:=i0
 refine Bk (Sr (qu (pt e 1) (Fa QbW N Z) (qu c (Lb 1 pl23 Z Z Z) (qM (Iv a) O ?_))))
 obtain ⟨a8,h⟩:=QaQ h
 obtain ⟨k2,k8,f5,f6,hhas45⟩:=k.at a8.1 a8.2 (by decide)
 obtain ⟨b,rfl,l⟩:=QaN f6
 refine qu (.pointer (some k2)) (indexAddr (n:=a0.Topics.length) underlying23 sz55 Z Z a8.1 a8.2 f5) (qu (a55_ (rd a0.Topics a) b) (loadMA (cs:=(l55 (rd a0.Topics a) b)) ag55 sz55 Z hhas45) (We (Al ze55 Z) Z ?_))
 rintro _ _ _ - ⟨rfl,o,rfl,rfl⟩
 refine We (Sg (v:=(a55_ (rd a0.Topics a) b)) (vl:=(l55 (rd a0.Topics a) b)) (arr':=(l55 (rd a0.Topics a) b)) Z sz55 Z Z (QbG (Oc Z (Oc Z (Oc (RS.one l) Oz)))) Z Z Z) Z ?_
 rintro _ _ _ - ⟨rfl,rfl⟩
 refine Ns (qa (Iv 0) (Ns (qa (Bv false) (Nt ?_))))
 obtain ⟨i1,i2,h⟩:=bnd h
 refine Jf (fun(p_:(Int×Bool)) ρ' M' H'=>match p_ with |(c1,c2)=>f4.le M'∧[(o, .cells (l55 (rd a0.Topics a) b).toArray 55 (0,0))]::[(m, .cells #[(Sv ⟨#[]⟩),(Iv 0),(Iv 0)] 36 (0,0))]::[(e, .cells (l27 a0 f c g i).toArray 27 (0,0))]::F=H'∧ρ' 1=(pt e 0)∧ρ' 2=(pt m 0)∧ρ' 3=(Iv a)∧ρ' 4=(pt o 0)∧ρ' 5=(Iv c1)∧ρ' 6=(Bv c2)) i1 ?_ ?_
 have h:=i2
 refine Sr (qa (Iv 0) (Nt (Bk ?_)))
 obtain ⟨m0,i3,i4⟩:=bnd h
 clear h
 refine WC.loop i3 (fun(p_:(Int×Bool×Int)) ρ' M' H'=>match p_ with |(f7,c3,q)=>f4.le M'∧[(o, .cells (l55 (rd a0.Topics a) b).toArray 55 (0,0))]::[(m, .cells #[(Sv ⟨#[]⟩),(Iv 0),(Iv 0)] 36 (0,0))]::[(e, .cells (l27 a0 f c g i).toArray 27 (0,0))]::F=H'∧ρ' 1=(pt e 0)∧ρ' 2=(pt m 0)∧ρ' 3=(Iv a)∧ρ' 4=(pt o 0)∧ρ' 5=(Iv f7)∧ρ' 6=(Bv c3)∧ρ' 7=(Iv q)) ?_ ?_
 exact⟨lr,Z,N,a7,O,Z,Z,Z,Z⟩
 rintro ⟨f7,c3,q⟩ m1 m2 k3 m3 h ⟨a4,rfl,r,P,B,C,c9,a9,s⟩
 unfold Qd9 at h
 refine Cs (Sr (qM (Iv q) s (qM (Iv a) B (qu (Bv (decide (q<a))) (lss Z Z) (Nt (Ch h Z (fun i5 h=> ?_) (fun i5 h=> ?_)))))))
 refine Ck (Tc ?_)
 obtain ⟨i6,i7,h⟩:=bnd h
 refine Jf (fun(p_:(Int×Bool)) ρ' M' H'=>match p_ with |(f8,f9)=>k3.le M'∧[(o, .cells (l55 (rd a0.Topics a) b).toArray 55 (0,0))]::[(m, .cells #[(Sv ⟨#[]⟩),(Iv 0),(Iv 0)] 36 (0,0))]::[(e, .cells (l27 a0 f c g i).toArray 27 (0,0))]::F=H'∧ρ' 1=(pt e 0)∧ρ' 2=(pt m 0)∧ρ' 3=(Iv a)∧ρ' 4=(pt o 0)∧ρ' 5=(Iv f8)∧ρ' 6=(Bv f9)∧ρ' 7=(Iv q)) i6 ?_ ?_
 have h:=i7
 refine Bk (Sr (qu (pt e 1) (Fa QbW r Z) (qu c (Lb 2 pl23 Z Z Z) (qM (Iv q) s ?_))))
 obtain ⟨b0,h⟩:=QaQ h
 have k:=k.mono a4
 obtain ⟨i8,k9,g0,g1,hhas66⟩:=k.at b0.1 b0.2 (by decide)
 obtain ⟨j6,rfl,j7⟩:=QaN g1
 refine qu (.pointer (some i8)) (indexAddr (n:=a0.Topics.length) underlying23 sz55 Z Z b0.1 b0.2 g0) (qu (.pointer (some (i8.add 0))) (Fa Qk0 Z Z) (qu (Iv ((rd a0.Topics q).Id)) (loadM pl3 Z (IM.has0 hhas66)) (qa (Iv ((rd a0.Topics q).Id)) (Nt (WC.draw [0,1,3,7,3,31,63,127,3,259,1023,2047,4095] (.pure 0 (.pure 1 (.pure 2 (.pure 3 (.pure 4 (.pure 5 (.pure 6 (.pure 7 (.pure 8 (.pure 9 (.pure 10 (.pure 11 (.alt 12 .done .none))))))))))))) QdC (by kernel_rfl) (qt (Bv c3) Z (Mv a9) (qt (Bv c3) Z (Mv Z) ?_)))))))
 rcases Bi h with⟨d,h⟩ |⟨d,h⟩
 refine Tf 47 Z Z Z d Z (Tf 47 Z Z Z d Z (Tf 47 Z Z Z d Z (Tf 47 Z Z Z d Z (Tf 47 Z Z Z d Z (Tf 47 Z Z Z d Z (Tf 47 Z Z Z d Z (Tf 47 Z Z Z d Z (Tf 47 Z Z Z d Z (qt (Bv true) Z (Pt Z d Z) (Ta Z ((Ag Z).eo) Z ?_ ?_))))))))))
 rintro _ _ _ - ⟨rfl,rfl,rfl⟩
 refine⟨(Sl Z), ?_⟩
 refine Ti (Bn ?_)
 obtain rfl:=oi h
 exact Tj ⟨lr,Z,r,P,B,C,Z,Z,s⟩
 exact Tz
 refine Tn (pt e 1) 47 Z Z Z d (Fa QbW r Z) Z (Tn c 47 Z Z Z d (Lb 2 pl23 Z Z Z) Z (Tn (Iv q) 47 Z Z Z d (Mv s) Z ?_))
 obtain ⟨b1,h⟩:=QaQ h
 obtain ⟨i9,l0,g2,g3,hhas74⟩:=k.at b1.1 b1.2 (by decide)
 obtain ⟨j8,rfl,j9⟩:=QaN g3
 refine Tn (.pointer (some i9)) 47 Z Z Z d (indexAddr (n:=a0.Topics.length) underlying23 sz55 Z Z b1.1 b1.2 g2) Z (Tn (.pointer (some (i9.add 1))) 47 Z Z Z d (Fa QlP Z Z) Z (Tn (Sv ((rd a0.Topics q).Name)) 47 Z Z Z d (loadM pl9 Z (hhas74 1 _ Z)) Z (Tn (pt o 1) 47 Z Z Z d (Fa QlP C Z) Z (Tn (Sv ((rd a0.Topics a).Name)) 47 Z Z Z d (Lb 0 pl9 Z Z Z) Z (Tn (Bv (decide (((rd a0.Topics q).Name)=((rd a0.Topics a).Name)))) 47 Z Z Z d (seql Z Z) Z (qt (Bv (decide (((rd a0.Topics q).Name)=((rd a0.Topics a).Name)))) Z (Pf Z d Z) (Ta Z ((Ag Z).eo) Z ?_ ?_)))))))
 rintro _ _ _ - ⟨rfl,rfl,rfl⟩
 refine⟨(Sl Z), ?_⟩
 refine Ti (Bn ?_)
 obtain rfl:=oi h
 exact Tj ⟨lr,Z,r,P,B,C,Z,Z,s⟩
 exact Tz
 obtain ⟨f8,f9⟩:=i6
 rintro m4 m5 m6 ⟨g4,rfl,d0,d1,d2,d3,d4,d5,d6⟩
 exact Cg (qM (Iv q) d6 (qu (Iv (i64.wrap (q+1))) (add Z Z) (qa (Iv (i64.wrap (q+1))) (Wz (WQ.again (f8,f9,i64.wrap (q+1)) (oi h).symm ⟨(a4.trans g4),Z,d0,d1,d2,d3,d4,d5,Z⟩)))))
 refine WC.exit (WQ.thenE (WQ.leaveE (f7,c3) (oi h).symm (fun g5=> ?_)))
 subst g5
 have h:=i4
 refine WQ.blockH ?_
 obtain rfl:=oi h
 exact Tj ⟨a4,Z,r,P,B,C,c9,a9⟩
 obtain ⟨c1,c2⟩:=i1
 rintro m7 k4 m8 ⟨G,rfl,p,t,u,j,d7,d8⟩
 have k5:=(E.trans L).trans G
 refine Cs ?_
 obtain ⟨g6,j0,h⟩:=bnd h
 refine Jf (fun(g6:Bool) ρ' M' H'=>k4.le M'∧[(o, .cells (l55 (rd a0.Topics a) b).toArray 55 (0,0))]::[(m, .cells #[(Sv ⟨#[]⟩),(Iv 0),(Iv 0)] 36 (0,0))]::[(e, .cells (l27 a0 f c g i).toArray 27 (0,0))]::F=H'∧ρ' 1=(pt e 0)∧ρ' 2=(pt m 0)∧ρ' 3=(Iv a)∧ρ' 4=(pt o 0)∧ρ' 83=(Bv g6)) g6 ?_ ?_
 have h:=j0
 refine Cg (qu (pt o 0) (Fa Qk0 j Z) (qu (Iv ((rd a0.Topics a).Id)) (Lb 0 pl3 Z Z Z) (qM (Iv c1) d7 (qu (Bv (decide (((rd a0.Topics a).Id)≤c1))) (leq Z Z) (qm (Bv (decide (((rd a0.Topics a).Id)≤c1))) ?_)))))
 rcases Bi h with⟨w,h⟩ |⟨w,h⟩
 iterate 5 refine Of 62 Z Z w Z ?_
 refine qu (Bv true) (Pt Z w Z) (qm (Bv true) ?_)
 iterate 4 refine Of 69 Z Z Z Z ?_
 refine qu (Bv true) (Pt Z Z Z) (qm (Bv true) (Of 75 Z Z Z Z (qu (Bv true) (Pt Z Z Z) (qm (Bv true) ?_))))
 iterate 4 refine Of 78 Z Z Z Z ?_
 refine qu (Bv true) (Pt Z Z Z) (Wz ?_)
 obtain rfl:=oi h
 exact Tj ⟨lr,Z,p,t,u,j,Z⟩
 refine qo 62 w (pt o 0) (Fa Qk0 j Z) (qo 62 w (Iv ((rd a0.Topics a).Id)) (Lb 0 pl3 Z Z Z) (qo 62 w (pt e 4) (Fa QmS p Z) (qo 62 w (Iv a0.Last) (Lb 2 pl3 Z Z Z) (qo 62 w (Bv (decide (a0.Last<((rd a0.Topics a).Id)))) (gtr Z Z) (qu (Bv (decide (a0.Last<((rd a0.Topics a).Id)))) (Pf Z w Z) (qm (Bv (decide (a0.Last<((rd a0.Topics a).Id)))) ?_))))))
 rcases Bi h with⟨y,h⟩ |⟨y,h⟩
 iterate 4 refine Of 69 Z Z y Z ?_
 refine qu (Bv true) (Pt Z y Z) (qm (Bv true) (Of 75 Z Z Z Z (qu (Bv true) (Pt Z Z Z) (qm (Bv true) ?_))))
 iterate 4 refine Of 78 Z Z Z Z ?_
 refine qu (Bv true) (Pt Z Z Z) (Wz ?_)
 obtain rfl:=oi h
 exact Tj ⟨lr,Z,p,t,u,j,Z⟩
 refine qo 69 y (pt o 1) (Fa QlP j Z) (qo 69 y (Sv ((rd a0.Topics a).Name)) (Lb 0 pl9 Z Z Z) (On 69 Z Z y ?_))
 obtain ⟨d9,j1,h⟩:=bnd h
 refine We (Ca co75 (Qg6 ((rd a0.Topics a).Name) _ d9 j1) (QbK Z)) Z ?_
 rintro _ m9 _ Q ⟨_,⟨rfl,rfl⟩,rfl⟩
 refine WL.a0 (qo 69 y (Bv (!d9)) (PO.not Z) (qu (Bv (!d9)) (Pf Z y Z) (qm (Bv (!d9)) ?_)))
 rcases Bi h with⟨X,h⟩ |⟨X,h⟩
 refine Of 75 Z Z X Z (qu (Bv true) (Pt Z X Z) (qm (Bv true) ?_))
 iterate 4 refine Of 78 Z Z Z Z ?_
 refine qu (Bv true) (Pt Z Z Z) (Wz ?_)
 obtain rfl:=oi h
 exact Tj ⟨Q,Z,p,t,u,j,Z⟩
 refine On 75 Z Z X (qM (Bv c2) d8 (qu (Bv c2) (Pf Z X Z) (qm (Bv c2) ?_)))
 rcases Bi h with⟨z,h⟩ |⟨z,h⟩
 iterate 4 refine Of 78 Z Z z Z ?_
 refine qu (Bv true) (Pt Z z Z) (Wz ?_)
 obtain rfl:=oi h
 exact Tj ⟨Q,Z,p,t,u,j,Z⟩
 refine qo 78 z (pt o 2) (Fa QdB j Z) (qo 78 z b (Lb 0 pl53 Z Z Z) (On 78 Z Z z ?_))
 have l:=l.mono (G.trans Q)
 refine qu (Iv (((rd a0.Topics a).Parts).length:Int)) (lenS underlying53 Z l.len) (qo 78 z (Bv (decide ((256:Int)<(((rd a0.Topics a).Parts).length:Int)))) (gtr Z Z) (qu (Bv (decide ((256:Int)<(((rd a0.Topics a).Parts).length:Int)))) (Pf Z z Z) (Wz ?_)))
 obtain rfl:=oi h
 exact Tj ⟨Q,Z,p,t,u,j,Z⟩
 rintro n0 k6 n1 ⟨R,rfl,e0,S,b2,e1,c4⟩
 have j2:=k5.trans R
 refine Ch h c4 (fun j3 h=> ?_) (fun j3 h=> ?_)
 refine Sr (qM (Iv a) b2 (qu (.agg #[(Sv ⟨#[116,111,112,105,99]⟩),(Iv a),(Iv 2)]) (Bl (cl:=[(Sv ⟨#[116,111,112,105,99]⟩),(Iv a),(Iv 2)]) ze36 fp36 (Pc (Sv ⟨#[116,111,112,105,99]⟩) Z Z (Pc (Iv a) Z Z (Pc (Iv 2) Z Z Pz))) Z) (WL.f1 (We (Sg (v:=(.agg #[(Sv ⟨#[116,111,112,105,99]⟩),(Iv a),(Iv 2)])) (vl:=[(Sv ⟨#[116,111,112,105,99]⟩),(Iv a),(Iv 2)]) (arr':=[(Sv ⟨#[116,111,112,105,99]⟩),(Iv a),(Iv 2)]) Z sz36 S Z (onb Z) Z Z Z) Z ?_))))
 rintro _ _ _ - ⟨rfl,rfl⟩
 refine Nt (Cr (Tr (Br (Tr ?_))))
 have h:=KK.early h e7
 refine WQ.leaveR (inr ((⟨#[116,111,112,105,99]⟩:ByteArray),a,(2:Int))) (oi h).symm (fun I=> ?_)
 subst I
 have h:=(QdO c0)
 refine Br (Tr ?_)
 have h:=KK.early h e6
 exact Qa (Dr (Qa (Dr (Rd h [] (fun _ hs=>hs.drop) (QbH Z (Rc (cs:=[(Sv ⟨#[116,111,112,105,99]⟩),(Iv a),(Iv 2)]) 0 ag36 sz36 S Z Z)) j2 ⟨Z,Z⟩))))
 refine Ck (Tc (Sr (qa (Iv 0) (Nt (Bk ?_)))))
 obtain ⟨n2,j4,e8⟩:=bnd h
 clear h
 refine WC.loop j4 (fun(A:Int) ρ' M' H'=>k6.le M'∧[(o, .cells (l55 (rd a0.Topics a) b).toArray 55 (0,0))]::[(m, .cells #[(Sv ⟨#[]⟩),(Iv 0),(Iv 0)] 36 (0,0))]::[(e, .cells (l27 a0 f c g i).toArray 27 (0,0))]::F=H'∧ρ' 1=(pt e 0)∧ρ' 2=(pt m 0)∧ρ' 3=(Iv a)∧ρ' 4=(pt o 0)∧ρ' 8=(Iv A)) ?_ ?_
 exact⟨lr,Z,e0,S,b2,e1,Z⟩
 rintro A n3 n4 n5 n6 h ⟨J,rfl,T,D,U,V,W⟩
 have e2:=j2.trans J
 unfold QfK at h
 refine Cs (Sr (qM (Iv A) W (qu (pt o 2) (Fa QdB V Z) (qu b (Lb 0 pl53 Z Z Z) ?_))))
 have l:=l.mono ((G.trans R).trans J)
 refine qu (Iv (((rd a0.Topics a).Parts).length:Int)) (lenS underlying53 Z l.len) (qu (Bv (decide (A<(((rd a0.Topics a).Parts).length:Int)))) (lss Z Z) (Nt (Ch h Z (fun j5 h=> ?_) (fun j5 h=> ?_))))
 refine Ck (Tc (Cs (Bk (Cs (WC.draw [0,0,2,0,14,30,63,127] (.pure 0 (.pure 1 (.pure 2 (.pure 3 (.pure 4 (.pure 5 (.alt 6 (.pure 7 .done) .none))))))) QdC (by kernel_rfl) (qt (a27_ a0 f c g i) Z (La (cs:=(l27 a0 f c g i)) 2 ag27 sz27 T Z Z) (qt (pt o 2) Z (Fa QdB V Z) (qt b Z (Lb 0 pl53 Z Z Z) (qt (Iv A) Z (Mv W) ?_)))))))))
 obtain ⟨b3,h⟩:=QaQ h
 obtain ⟨k7,l1,g7,g8,hhas99⟩:=l.at b3.1 b3.2 (by decide)
 obtain ⟨Y,a1,a2,a3,rfl,c5,c6,c7,c8⟩:=Qb7 g8
 refine qt (.pointer (some k7)) Z (indexAddr (n:=((rd a0.Topics a).Parts).length) underlying53 sz58 Z Z b3.1 b3.2 g7) (qt (a58_ (rd ((rd a0.Topics a).Parts) A) Y a1 a2 a3) Z (loadMA (cs:=(l58 (rd ((rd a0.Topics a).Parts) A) Y a1 a2 a3)) ag58 sz58 Z hhas99) ?_)
 obtain ⟨e9,g9,h⟩:=bnd h
 have b6:=b6.mono e2
 have k:=k.mono ((G.trans R).trans J)
 have b7:=b7.mono e2
 have b8:=b8.mono e2
 refine Ta Z (Ca co77 (Qu1 a0 (rd ((rd a0.Topics a).Parts) A) _ _ _ _ _ _ _ _ _ b6 k b7 b8 c5 c6 c7 c8 e9 g9) (QaU Z Z)) Z ?_ ?_
 rintro _ l2 _ b4 ⟨_,⟨rfl,rfl⟩,rfl⟩
 refine⟨(Sl Z), ?_⟩
 refine WT.a0 (qt (Bv (!e9)) Z (PO.not Z) (Ti (Tc (Ch h Z (fun h0 h=> ?_) (fun h0 h=> ?_)))))
 refine Sr (qM (Iv a) U (qu (.agg #[(Sv ⟨#[116,111,112,105,99]⟩),(Iv a),(Iv 10)]) (Bl (cl:=[(Sv ⟨#[116,111,112,105,99]⟩),(Iv a),(Iv 10)]) ze36 fp36 (Pc (Sv ⟨#[116,111,112,105,99]⟩) Z Z (Pc (Iv a) Z Z (Pc (Iv 10) Z Z Pz))) Z) (WL.f1 (We (Sg (v:=(.agg #[(Sv ⟨#[116,111,112,105,99]⟩),(Iv a),(Iv 10)])) (vl:=[(Sv ⟨#[116,111,112,105,99]⟩),(Iv a),(Iv 10)]) (arr':=[(Sv ⟨#[116,111,112,105,99]⟩),(Iv a),(Iv 10)]) Z sz36 D Z (onb Z) Z Z Z) Z ?_))))
 rintro _ _ _ - ⟨rfl,rfl⟩
 refine Nt (Cr (Br (Tr (WQ.leaveR (inr ((⟨#[116,111,112,105,99]⟩:ByteArray),a,(10:Int))) (oi h).symm (fun a5=> ?_)))))
 subst a5
 have h:=(QdO e8)
 refine Br (Br (Tr ?_))
 have h:=KK.early h e7
 refine WQ.leaveR (inr ((⟨#[116,111,112,105,99]⟩:ByteArray),a,(10:Int))) (oi h).symm (fun I=> ?_)
 subst I
 have h:=(QdO c0)
 refine Br (Tr ?_)
 have h:=KK.early h e6
 exact Qa (Dr (Qa (Dr (Rd h [] (fun _ hs=>hs.drop) (QbH Z (Rc (cs:=[(Sv ⟨#[116,111,112,105,99]⟩),(Iv a),(Iv 10)]) 0 ag36 sz36 D Z Z)) (e2.trans b4) ⟨Z,Z⟩))))
 exact Ck (Bn (Tc (Cg (qM (Iv A) W (qu (Iv (i64.wrap (A+1))) (add Z Z) (qa (Iv (i64.wrap (A+1))) (Wz (WQ.again (i64.wrap (A+1)) (oi h).symm ⟨(J.trans b4),Z,T,D,U,V,Z⟩))))))))
 exact Tz
 refine WC.exit (WQ.thenE (WQ.leaveE (inl ()) (oi h).symm (fun a5=> ?_)))
 subst a5
 have h:=QeJ e8
 exact WQ.blockH (Bn (Dr (WQ.thenFE h ⟨((G.trans R).trans J),Z,T,D,U⟩)))
 rintro _ n7 n8 n9 rfl ⟨h1,rfl,e3,e4,e5⟩
 have h:=(Sum.elim_inl _ _ _).symm.trans h
 exact Cg (qM (Iv a) e5 (qu (Iv (i64.wrap (a+1))) (add Z Z) (qa (Iv (i64.wrap (a+1))) (Wz (WQ.again (i64.wrap (a+1)) (oi h).symm ⟨(L.trans h1),Z,e3,e4,Z⟩)))))
 refine WC.exit (WQ.thenE (WQ.leaveE (inl ()) (oi h).symm (fun I=> ?_)))
 subst I
 have h:=QeJ c0
 exact WQ.blockH (WQ.thenFE h ⟨L,Z,a7⟩)
 rintro _ o0 o1 o2 rfl ⟨h2,rfl,b5⟩
 have h:=(Sum.elim_inl _ _ _).symm.trans h
 refine Sr (qu (.agg #[(Sv ⟨#[]⟩),(Iv 0),(Iv 0)]) (Bl (cl:=[(Sv ⟨#[]⟩),(Iv 0),(Iv 0)]) ze36 fp36 Pz Z) (We (Sg (v:=(.agg #[(Sv ⟨#[]⟩),(Iv 0),(Iv 0)])) (vl:=[(Sv ⟨#[]⟩),(Iv 0),(Iv 0)]) (arr':=[(Sv ⟨#[]⟩),(Iv 0),(Iv 0)]) Z sz36 b5 Z (onb Z) Z Z Z) Z ?_))
 rintro _ _ _ - ⟨rfl,rfl⟩
 exact Nt (Cr (Qa (Dr (Rd h [] (fun _ hs=>hs.drop) (QbH Z (Rc (cs:=[(Sv ⟨#[]⟩),(Iv 0),(Iv 0)]) 0 ag36 sz36 b5 Z Z)) (E.trans h2) ⟨Z,Z⟩))))
noncomputable def Qe1 (a0:QaA) (s_:Int):Option (Int⊕(Unit⊕(ByteArray×Int×Int))):=
 match s_ with
 |a=>
 (if(decide (a<(a0.Configs.length:Int)))=true then(((grd (0≤a∧a<a0.Configs.length) ((QeV a0 ((rd a0.Configs a).Topic)).bind fun(g,b)=>(((if(!b)=true then(if(decide (((rd a0.Configs a).Topic)≠(0:Int)))=true then(some true)else((QeT ((rd a0.Configs a).Key)).bind fun c=>(if(!c)=true then(some true)else(some (decide ((256:Int)<(((rd a0.Configs a).Value).size:Int)))))))else((QeT ((rd a0.Configs a).Key)).bind fun d=>(if(!d)=true then(some true)else(some (decide ((256:Int)<(((rd a0.Configs a).Value).size:Int))))))):Option Bool).bind fun e=>(if e=true then(((some (inr (inr ((⟨#[99,111,110,102,105,103]⟩:ByteArray),a,(2:Int)))))).bind fun r=>some (inr r))else(if(decide (a=(0:Int)))=true then(some (inl ()))else(grd (0≤i64.wrap (a - (1:Int))∧i64.wrap (a - (1:Int))<a0.Configs.length) (((if(decide (((rd a0.Configs a).Topic)<((rd a0.Configs (i64.wrap (a - (1:Int)))).Topic)))=true then(some true)else(if(decide (((rd a0.Configs (i64.wrap (a - (1:Int)))).Topic)=((rd a0.Configs a).Topic)))=true then(some (!Op.bytesLess ((rd a0.Configs (i64.wrap (a - (1:Int)))).Key).toList ((rd a0.Configs a).Key).toList))else(some false))):Option Bool).bind fun f=>(if f=true then(((some (inr (inr ((⟨#[99,111,110,102,105,103]⟩:ByteArray),a,(10:Int)))))).bind fun r=>some (inr r))else(some (inl ())))))))))):Option (Unit⊕(Int⊕(Unit⊕(ByteArray×Int×Int))))).bind (Sum.elim (fun _=>(some (inl (i64.wrap (a+(1:Int)))))) some))else(some (inr (inl ()))))
noncomputable def QhN (a0:QaA):Option QaL:=
 ((((iter (Qe1 a0) (0:Int)).bind (Sum.elim (fun _=>(some (inl ()))) (fun(a,b,c)=>(((some (⟨a,b,c⟩:QaL))).bind fun r=>some (inr r))))):Option (Unit⊕QaL)).bind (Sum.elim (fun _=>(some Q4E)) some))
def Qo0 (a0:QaA) (b c d e:Value):QaL→Value→IM→HL→Prop:=
 fun(a:QaL) (v:Value) (M':IM) (H':HL)=>(.agg #[(.string a.Op),(.int .i64 a.At),(.int .i64 a.Code)])=v∧H'=[]
theorem Qq9 (a0:QaA) (M:IM) (i j b k:Value) (O:RS QaD M i a0.Brokers) (P:RS QaG M j a0.Topics) (r:RS QaF M b a0.Configs) (Q:RS QaI M k a0.Done) (res:QaL) (h:QhN a0=some res):
 Tri prog 30 #[(a27_ a0 i j b k)] M [] (Qo0 a0 i j b k res):=by
 unfold QhN at h
 refine Te func30 Z Z ?_
 intro F ρ hρ
 refine Sr (We (box (cs:=(l27 a0 i j b k).toArray) (congrArg Value.cells (asE (a27_ a0 i j b k) (hρ 0)))) Z ?_)
 rintro _ _ _ - ⟨rfl,w,rfl,rfl⟩
 refine We (Al ze36 Z) Z ?_
 rintro _ _ _ - ⟨rfl,C,rfl,rfl⟩
 refine Nt ?_
 obtain ⟨d0,b7,h⟩:=bnd h
 refine WC.joinE (fun(_:Unit) ρ' M' H'=>M.le M'∧[(C, .cells #[(Sv ⟨#[]⟩),(Iv 0),(Iv 0)] 36 (0,0))]::[(w, .cells (l27 a0 i j b k).toArray 27 (0,0))]::F=H'∧ρ' 2=(pt C 0)) d0 ?_ ?_
 have a7:=h
 have h:=b7
 refine Sr (qa (Iv 0) (Nt (Bk ?_)))
 obtain ⟨d9,b8,R⟩:=bnd h
 clear h
 refine WC.loop b8 (fun(a:Int) ρ' M' H'=>M.le M'∧[(C, .cells #[(Sv ⟨#[]⟩),(Iv 0),(Iv 0)] 36 (0,0))]::[(w, .cells (l27 a0 i j b k).toArray 27 (0,0))]::F=H'∧ρ' 1=(pt w 0)∧ρ' 2=(pt C 0)∧ρ' 3=(Iv a)) ?_ ?_
 exact⟨lr,Z,Z,Z,Z⟩
 rintro a e0 e1 d1 e2 h ⟨l,rfl,c,m,e⟩
 unfold Qe1 at h
 refine Cs (Sr (qM (Iv a) e (qu (pt w 2) (Fa Qc5 c Z) (qu b (Lb 1 pl24 Z Z Z) ?_))))
 have r:=r.mono l
 refine qu (Iv (a0.Configs.length:Int)) (lenS underlying24 Z r.len) (qu (Bv (decide (a<(a0.Configs.length:Int)))) (lss Z Z) (Nt (Ch h Z (fun b9 h=> ?_) (fun b9 h=> ?_))))
 refine Ck (Tc ?_)
 obtain ⟨d2,c0,h⟩:=bnd h
 refine WC.joinE (fun(_:Unit) ρ' M' H'=>d1.le M'∧[(C, .cells #[(Sv ⟨#[]⟩),(Iv 0),(Iv 0)] 36 (0,0))]::[(w, .cells (l27 a0 i j b k).toArray 27 (0,0))]::F=H'∧ρ' 1=(pt w 0)∧ρ' 2=(pt C 0)∧ρ' 3=(Iv a)) d2 ?_ ?_
 have a8:=h
 have h:=c0
 refine Bk (Sr (qu (pt w 2) (Fa Qc5 c Z) (qu b (Lb 1 pl24 Z Z Z) (qM (Iv a) e ?_))))
 obtain ⟨J,h⟩:=QaQ h
 obtain ⟨d3,d7,a9,b0,hhas36⟩:=r.at J.1 J.2 (by decide)
 obtain rfl:=Qa8 b0
 refine qu (.pointer (some d3)) (indexAddr (n:=a0.Configs.length) underlying24 sz76 Z Z J.1 J.2 a9) (qu (a76_ (rd a0.Configs a)) (loadMA (cs:=(l76 (rd a0.Configs a))) ag76 sz76 Z hhas36) (We (Al ze76 Z) Z ?_))
 rintro _ _ _ - ⟨rfl,x,rfl,rfl⟩
 refine We (Sg (v:=(a76_ (rd a0.Configs a))) (vl:=(l76 (rd a0.Configs a))) (arr':=(l76 (rd a0.Configs a))) Z sz76 Z Z (onb Z) Z Z Z) Z ?_
 rintro _ _ _ - ⟨rfl,rfl⟩
 refine Ns (qu (a27_ a0 i j b k) (La (cs:=(l27 a0 i j b k)) 2 ag27 sz27 c Z Z) (qu (pt x 0) (Fa QeF Z Z) (qu (Iv ((rd a0.Configs a).Topic)) (Lb 0 pl3 Z Z Z) ?_)))
 obtain ⟨⟨G,I⟩,c1,h⟩:=bnd h
 have O:=O.mono l
 have P:=P.mono l
 have Q:=Q.mono l
 refine We (Ca co78 (QiG a0 ((rd a0.Configs a).Topic) _ _ _ _ _ O P r Q (G,I) c1) (QaU Z Z)) Z ?_
 rintro _ d4 _ y ⟨_,⟨f,rfl,rfl,X⟩,rfl⟩
 refine WL.a0 (qm (.tuple #[(a55_ G f),(Bv I)]) (qu (a55_ G f) (Xt Z Z) (qu (Bv I) (Xt Z Z) (We (Al ze55 Z) Z ?_))))
 rintro _ _ _ - ⟨rfl,c2,rfl,rfl⟩
 refine We (Sg (v:=(a55_ G f)) (vl:=(l55 G f)) (arr':=(l55 G f)) Z sz55 Z Z (QbG (Oc Z (Oc Z (Oc (RS.one X) Oz)))) Z Z Z) Z ?_
 rintro _ _ _ - ⟨rfl,rfl⟩
 refine qa (Bv I) (Nt (Cs ?_))
 obtain ⟨b1,c3,h⟩:=bnd h
 refine Jf (fun(b1:Bool) ρ' M' H'=>d4.le M'∧[(c2, .cells (l55 G f).toArray 55 (0,0))]::[(x, .cells (l76 (rd a0.Configs a)).toArray 76 (0,0))]::[(C, .cells #[(Sv ⟨#[]⟩),(Iv 0),(Iv 0)] 36 (0,0))]::[(w, .cells (l27 a0 i j b k).toArray 27 (0,0))]::F=H'∧ρ' 1=(pt w 0)∧ρ' 2=(pt C 0)∧ρ' 3=(Iv a)∧ρ' 4=(pt x 0)∧ρ' 45=(Bv b1)) b1 ?_ ?_
 have h:=c3
 refine Cg (qm (Bv I) (qu (Bv (!I)) (PO.not Z) (qm (Bv (!I)) ?_)))
 rcases Bi h with⟨z,h⟩ |⟨z,h⟩
 refine qo 29 z (pt x 0) (Fa QeF Z Z) (qo 29 z (Iv ((rd a0.Configs a).Topic)) (Lb 1 pl3 Z Z Z) (qo 29 z (Bv (decide (((rd a0.Configs a).Topic)≠0))) (neq Z Z) (qu (Bv (decide (((rd a0.Configs a).Topic)≠0))) (Pt Z z Z) (qm (Bv (decide (((rd a0.Configs a).Topic)≠0))) ?_))))
 rcases Bi h with⟨s,h⟩ |⟨s,h⟩
 iterate 4 refine Of 34 Z Z s Z ?_
 refine qu (Bv true) (Pt Z s Z) (qm (Bv true) ?_)
 iterate 4 refine Of 40 Z Z Z Z ?_
 refine qu (Bv true) (Pt Z Z Z) (Wz ?_)
 obtain rfl:=oi h
 exact Tj ⟨lr,Z,c,m,e,Z,Z⟩
 refine qo 34 s (pt x 1) (Fa QfV Z Z) (qo 34 s (Sv ((rd a0.Configs a).Key)) (Lb 1 pl9 Z Z Z) (On 34 Z Z s ?_))
 obtain ⟨Y,c4,h⟩:=bnd h
 refine We (Ca co75 (Qg6 ((rd a0.Configs a).Key) _ Y c4) (QbK Z)) Z ?_
 rintro _ e3 _ S ⟨_,⟨rfl,rfl⟩,rfl⟩
 refine WL.a0 (qo 34 s (Bv (!Y)) (PO.not Z) (qu (Bv (!Y)) (Pf Z s Z) (qm (Bv (!Y)) ?_)))
 rcases Bi h with⟨t,h⟩ |⟨t,h⟩
 iterate 4 refine Of 40 Z Z t Z ?_
 refine qu (Bv true) (Pt Z t Z) (Wz ?_)
 obtain rfl:=oi h
 exact Tj ⟨S,Z,c,m,e,Z,Z⟩
 refine qo 40 t (pt x 2) (Fa QfW Z Z) (qo 40 t (Sv ((rd a0.Configs a).Value)) (Lb 1 pl9 Z Z Z) (qo 40 t (Iv (((rd a0.Configs a).Value).size:Int)) (lenStr underlying9 Z) (qo 40 t (Bv (decide ((256:Int)<(((rd a0.Configs a).Value).size:Int)))) (gtr Z Z) (qu (Bv (decide ((256:Int)<(((rd a0.Configs a).Value).size:Int)))) (Pf Z t Z) (Wz ?_)))))
 obtain rfl:=oi h
 exact Tj ⟨S,Z,c,m,e,Z,Z⟩
 iterate 3 refine Of 29 Z Z z Z ?_
 refine qu (Bv false) (Pf Z z Z) (qm (Bv false) (qo 34 Z (pt x 1) (Fa QfV Z Z) (qo 34 Z (Sv ((rd a0.Configs a).Key)) (Lb 1 pl9 Z Z Z) (On 34 Z Z Z ?_))))
 obtain ⟨a1,c5,h⟩:=bnd h
 refine We (Ca co75 (Qg6 ((rd a0.Configs a).Key) _ a1 c5) (QbK Z)) Z ?_
 rintro _ e4 _ T ⟨_,⟨rfl,rfl⟩,rfl⟩
 refine WL.a0 (qo 34 Z (Bv (!a1)) (PO.not Z) (qu (Bv (!a1)) (Pf Z Z Z) (qm (Bv (!a1)) ?_)))
 rcases Bi h with⟨u,h⟩ |⟨u,h⟩
 iterate 4 refine Of 40 Z Z u Z ?_
 refine qu (Bv true) (Pt Z u Z) (Wz ?_)
 obtain rfl:=oi h
 exact Tj ⟨T,Z,c,m,e,Z,Z⟩
 refine qo 40 u (pt x 2) (Fa QfW Z Z) (qo 40 u (Sv ((rd a0.Configs a).Value)) (Lb 1 pl9 Z Z Z) (qo 40 u (Iv (((rd a0.Configs a).Value).size:Int)) (lenStr underlying9 Z) (qo 40 u (Bv (decide ((256:Int)<(((rd a0.Configs a).Value).size:Int)))) (gtr Z Z) (qu (Bv (decide ((256:Int)<(((rd a0.Configs a).Value).size:Int)))) (Pf Z u Z) (Wz ?_)))))
 obtain rfl:=oi h
 exact Tj ⟨T,Z,c,m,e,Z,Z⟩
 rintro e5 d5 e6 ⟨A,rfl,p,o,g,D,U⟩
 refine Ch h U (fun c6 h=> ?_) (fun c6 h=> ?_)
 refine Sr (qM (Iv a) g (qu (.agg #[(Sv ⟨#[99,111,110,102,105,103]⟩),(Iv a),(Iv 2)]) (Bl (cl:=[(Sv ⟨#[99,111,110,102,105,103]⟩),(Iv a),(Iv 2)]) ze36 fp36 (Pc (Sv ⟨#[99,111,110,102,105,103]⟩) Z Z (Pc (Iv a) Z Z (Pc (Iv 2) Z Z Pz))) Z) (Wb (We (Sg (v:=(.agg #[(Sv ⟨#[99,111,110,102,105,103]⟩),(Iv a),(Iv 2)])) (vl:=[(Sv ⟨#[99,111,110,102,105,103]⟩),(Iv a),(Iv 2)]) (arr':=[(Sv ⟨#[99,111,110,102,105,103]⟩),(Iv a),(Iv 2)]) Z sz36 o Z (onb Z) Z Z Z) Z ?_))))
 rintro _ _ _ - ⟨rfl,rfl⟩
 refine Nt (Cr (Tr (Br (Tr ?_))))
 have h:=KK.early h a8
 refine WQ.leaveR (inr ((⟨#[99,111,110,102,105,103]⟩:ByteArray),a,(2:Int))) (oi h).symm (fun B=> ?_)
 subst B
 have h:=(QdO R)
 refine Br (Tr ?_)
 have h:=KK.early h a7
 exact Qa (Dr (Qa (Dr (Qa (Dr (Rd h [] (fun _ hs=>hs.drop) (QbH Z (Rc (cs:=[(Sv ⟨#[99,111,110,102,105,103]⟩),(Iv a),(Iv 2)]) 0 ag36 sz36 o Z Z)) ((l.trans y).trans A) ⟨Z,Z⟩))))))
 refine Ck (Tc (Cs (Sr (qM (Iv a) g (qu (Bv (decide (a=0))) (eql Z Z) (Nt (Ch h Z (fun c7 h=> ?_) (fun c7 h=> ?_))))))))
 exact WC.exit (WQ.thenE (WQ.blockH (Dr (Dr (WQ.thenFE h ⟨(y.trans A),Z,p,o,g⟩)))))
 refine Ck (Tc (Sr (qu (pt w 2) (Fa Qc5 p Z) (qu b (Lb 3 pl24 Z Z Z) (qM (Iv a) g (qu (Iv (i64.wrap (a - 1))) (PO.sub Z Z) ?_))))))
 obtain ⟨K,h⟩:=QaQ h
 have r:=r.mono (y.trans A)
 obtain ⟨d6,d8,b2,b3,hhas70⟩:=r.at K.1 K.2 (by decide)
 obtain rfl:=Qa8 b3
 refine qu (.pointer (some d6)) (indexAddr (n:=a0.Configs.length) underlying24 sz76 Z Z K.1 K.2 b2) (qu (a76_ (rd a0.Configs (i64.wrap (a - 1)))) (loadMA (cs:=(l76 (rd a0.Configs (i64.wrap (a - 1))))) ag76 sz76 Z hhas70) (We (Al ze76 Z) Z ?_))
 rintro _ _ _ - ⟨rfl,a2,rfl,rfl⟩
 refine We (Sg (v:=(a76_ (rd a0.Configs (i64.wrap (a - 1))))) (vl:=(l76 (rd a0.Configs (i64.wrap (a - 1))))) (arr':=(l76 (rd a0.Configs (i64.wrap (a - 1))))) Z sz76 Z Z (onb Z) Z Z Z) Z ?_
 rintro _ _ _ - ⟨rfl,rfl⟩
 refine Nt ?_
 obtain ⟨b4,c8,h⟩:=bnd h
 refine Jf (fun(b4:Bool) ρ' M' H'=>d5.le M'∧[(a2, .cells (l76 (rd a0.Configs (i64.wrap (a - 1)))).toArray 76 (0,0))]::[(c2, .cells (l55 G f).toArray 55 (0,0))]::[(x, .cells (l76 (rd a0.Configs a)).toArray 76 (0,0))]::[(C, .cells #[(Sv ⟨#[]⟩),(Iv 0),(Iv 0)] 36 (0,0))]::[(w, .cells (l27 a0 i j b k).toArray 27 (0,0))]::F=H'∧ρ' 1=(pt w 0)∧ρ' 2=(pt C 0)∧ρ' 3=(Iv a)∧ρ' 74=(Bv b4)) b4 ?_ ?_
 have h:=c8
 refine Cg (qu (pt a2 0) (Fa QeF Z Z) (qu (Iv ((rd a0.Configs (i64.wrap (a - 1))).Topic)) (Lb 0 pl3 Z Z Z) (qu (pt x 0) (Fa QeF D Z) (qu (Iv ((rd a0.Configs a).Topic)) (Lb 2 pl3 Z Z Z) (qu (Bv (decide (((rd a0.Configs a).Topic)<((rd a0.Configs (i64.wrap (a - 1))).Topic)))) (gtr Z Z) (qm (Bv (decide (((rd a0.Configs a).Topic)<((rd a0.Configs (i64.wrap (a - 1))).Topic)))) ?_))))))
 rcases Bi h with⟨d,h⟩ |⟨d,h⟩
 iterate 6 refine Of 61 Z Z d Z ?_
 refine WL.offU 67 Z Z Z (WL.offU 67 Z Z Z (WL.offU 67 Z Z Z (WL.offU 67 Z Z Z (WL.offU 67 Z Z Z (Of 61 Z Z d Z (qu (Bv true) (Pt Z d Z) (Wz ?_)))))))
 obtain rfl:=oi h
 exact Tj ⟨lr,Z,p,o,g,Z⟩
 refine qo 61 d (pt a2 0) (Fa QeF Z Z) (qo 61 d (Iv ((rd a0.Configs (i64.wrap (a - 1))).Topic)) (Lb 0 pl3 Z Z Z) (qo 61 d (pt x 0) (Fa QeF D Z) (qo 61 d (Iv ((rd a0.Configs a).Topic)) (Lb 2 pl3 Z Z Z) (qo 61 d (Bv (decide (((rd a0.Configs (i64.wrap (a - 1))).Topic)=((rd a0.Configs a).Topic)))) (eql Z Z) (On 61 Z Z d (qm (Bv (decide (((rd a0.Configs (i64.wrap (a - 1))).Topic)=((rd a0.Configs a).Topic)))) ?_))))))
 rcases Bi h with⟨q,h⟩ |⟨q,h⟩
 refine qo 67 q (pt a2 1) (Fa QfV Z Z) (qo 67 q (Sv ((rd a0.Configs (i64.wrap (a - 1))).Key)) (Lb 0 pl9 Z Z Z) (qo 67 q (pt x 1) (Fa QfV D Z) (qo 67 q (Sv ((rd a0.Configs a).Key)) (Lb 2 pl9 Z Z Z) (qo 67 q (Bv (!Op.bytesLess ((rd a0.Configs (i64.wrap (a - 1))).Key).toList ((rd a0.Configs a).Key).toList)) (sgeq Z Z) (qo 61 d (Bv (!Op.bytesLess ((rd a0.Configs (i64.wrap (a - 1))).Key).toList ((rd a0.Configs a).Key).toList)) (Pt Z q Z) (qu (Bv (!Op.bytesLess ((rd a0.Configs (i64.wrap (a - 1))).Key).toList ((rd a0.Configs a).Key).toList)) (Pf Z d Z) (Wz ?_)))))))
 obtain rfl:=oi h
 exact Tj ⟨lr,Z,p,o,g,Z⟩
 iterate 5 refine Of 67 Z Z q Z ?_
 refine qo 61 d (Bv false) (Pf Z q Z) (qu (Bv false) (Pf Z d Z) (Wz ?_))
 obtain rfl:=oi h
 exact Tj ⟨lr,Z,p,o,g,Z⟩
 rintro e7 e8 e9 ⟨V,rfl,a3,E,L,W⟩
 refine Ch h W (fun c9 h=> ?_) (fun c9 h=> ?_)
 refine Sr (qM (Iv a) L (qu (.agg #[(Sv ⟨#[99,111,110,102,105,103]⟩),(Iv a),(Iv 10)]) (Bl (cl:=[(Sv ⟨#[99,111,110,102,105,103]⟩),(Iv a),(Iv 10)]) ze36 fp36 (Pc (Sv ⟨#[99,111,110,102,105,103]⟩) Z Z (Pc (Iv a) Z Z (Pc (Iv 10) Z Z Pz))) Z) (WL.f3 (We (Sg (v:=(.agg #[(Sv ⟨#[99,111,110,102,105,103]⟩),(Iv a),(Iv 10)])) (vl:=[(Sv ⟨#[99,111,110,102,105,103]⟩),(Iv a),(Iv 10)]) (arr':=[(Sv ⟨#[99,111,110,102,105,103]⟩),(Iv a),(Iv 10)]) Z sz36 E Z (onb Z) Z Z Z) Z ?_))))
 rintro _ _ _ - ⟨rfl,rfl⟩
 refine Nt (Cr (Br (Tr ?_)))
 have h:=KK.early h a8
 refine WQ.leaveR (inr ((⟨#[99,111,110,102,105,103]⟩:ByteArray),a,(10:Int))) (oi h).symm (fun B=> ?_)
 subst B
 have h:=(QdO R)
 refine Br (Tr ?_)
 have h:=KK.early h a7
 exact Qa (Dr (Qa (Dr (Qa (Dr (Qa (Dr (Rd h [] (fun _ hs=>hs.drop) (QbH Z (Rc (cs:=[(Sv ⟨#[99,111,110,102,105,103]⟩),(Iv a),(Iv 10)]) 0 ag36 sz36 E Z Z)) (((l.trans y).trans A).trans V) ⟨Z,Z⟩))))))))
 exact Ck (Bn (Dr (Dr (Dr (WQ.thenFE h ⟨((y.trans A).trans V),Z,a3,E,L⟩)))))
 rintro _ f0 f1 f2 rfl ⟨b5,rfl,a4,a5,a6⟩
 have h:=(Sum.elim_inl _ _ _).symm.trans h
 exact Cg (qM (Iv a) a6 (qu (Iv (i64.wrap (a+1))) (add Z Z) (qa (Iv (i64.wrap (a+1))) (Wz (WQ.again (i64.wrap (a+1)) (oi h).symm ⟨(l.trans b5),Z,a4,a5,Z⟩)))))
 refine WC.exit (WQ.thenE (WQ.leaveE (inl ()) (oi h).symm (fun B=> ?_)))
 subst B
 have h:=QeJ R
 exact WQ.blockH (WQ.thenFE h ⟨l,Z,m⟩)
 rintro _ f4 f5 f6 rfl ⟨b6,rfl,N⟩
 have h:=(Sum.elim_inl _ _ _).symm.trans h
 refine Sr (qu (.agg #[(Sv ⟨#[]⟩),(Iv 0),(Iv 0)]) (Bl (cl:=[(Sv ⟨#[]⟩),(Iv 0),(Iv 0)]) ze36 fp36 Pz Z) (We (Sg (v:=(.agg #[(Sv ⟨#[]⟩),(Iv 0),(Iv 0)])) (vl:=[(Sv ⟨#[]⟩),(Iv 0),(Iv 0)]) (arr':=[(Sv ⟨#[]⟩),(Iv 0),(Iv 0)]) Z sz36 N Z (onb Z) Z Z Z) Z ?_))
 rintro _ _ _ - ⟨rfl,rfl⟩
 exact Nt (Cr (Qa (Dr (Rd h [] (fun _ hs=>hs.drop) (QbH Z (Rc (cs:=[(Sv ⟨#[]⟩),(Iv 0),(Iv 0)]) 0 ag36 sz36 N Z Z)) b6 ⟨Z,Z⟩))))
noncomputable def QfL (a0:QaA) (b:Int) (s_:(Bool×Int)):Option ((Bool×Int)⊕Bool):=
 match s_ with
 |(c,a)=>
 (if(decide (a<b))=true then(((if c=true then(some true)else(grd (0≤a∧a<a0.Done.length) (if(decide (((rd a0.Done a).Client)=((rd a0.Done b).Client)))=true then(grd (0≤a∧a<a0.Done.length) (some (decide (((rd a0.Done a).Serial)=((rd a0.Done b).Serial)))))else(some false)))):Option Bool).bind fun d=>(some (inl (d,i64.wrap (a+(1:Int))))))else(some (inr c)))
noncomputable def QhO (a0:QaA) (s_:Int):Option (Int⊕(Unit⊕(ByteArray×Int×Int))):=
 match s_ with
 |a=>
 (if(decide (a<(a0.Done.length:Int)))=true then(((grd (0≤a∧a<a0.Done.length) ((((QgQ ((rd a0.Done a).Client) (1:Int) (1073741824:Int)).bind fun b=>(if(!b)=true then(some true)else((QgQ ((rd a0.Done a).Serial) (1:Int) (1073741824:Int)).bind fun c=>(if(!c)=true then(some true)else((QgQ ((rd a0.Done a).Code) (0:Int) (21:Int)).bind fun d=>(some (!d))))))):Option Bool).bind fun e=>((((iter (QfL a0 a) (e,(0:Int))).bind (fun(f:Bool)=>(some f))):Option Bool).bind fun g=>(if g=true then(((some (inr (inr ((⟨#[100,111,110,101]⟩:ByteArray),a,(2:Int)))))).bind fun r=>some (inr r))else(some (inl ())))))):Option (Unit⊕(Int⊕(Unit⊕(ByteArray×Int×Int))))).bind (Sum.elim (fun _=>(some (inl (i64.wrap (a+(1:Int)))))) some))else(some (inr (inl ()))))
noncomputable def QkL (a0:QaA):Option QaL:=
 (if(decide ((64:Int)<(a0.Done.length:Int)))=true then(some (⟨(⟨#[100,111,110,101]⟩:ByteArray),(a0.Done.length:Int),(6:Int)⟩:QaL))else((((iter (QhO a0) (0:Int)).bind (Sum.elim (fun _=>(some (inl ()))) (fun(a,b,c)=>(((some (⟨a,b,c⟩:QaL))).bind fun r=>some (inr r))))):Option (Unit⊕QaL)).bind (Sum.elim (fun _=>(some Q4E)) some)))
def QsH (a0:QaA) (b c d e:Value):QaL→Value→IM→HL→Prop:=
 fun(a:QaL) (v:Value) (M':IM) (H':HL)=>(.agg #[(.string a.Op),(.int .i64 a.At),(.int .i64 a.Code)])=v∧H'=[]
theorem Qu2 (a0:QaA) (M:IM) (f g i d:Value) (f3:RS QaD M f a0.Brokers) (f4:RS QaG M g a0.Topics) (f5:RS QaF M i a0.Configs) (m:RS QaI M d a0.Done) (res:QaL) (h:QkL a0=some res):
 Tri prog 31 #[(a27_ a0 f g i d)] M [] (QsH a0 f g i d res):=by
 unfold QkL at h
 refine Te func31 Z Z ?_
 intro F ρ hρ
 refine Sr (We (box (cs:=(l27 a0 f g i d).toArray) (congrArg Value.cells (asE (a27_ a0 f g i d) (hρ 0)))) Z ?_)
 rintro _ _ _ - ⟨rfl,e,rfl,rfl⟩
 refine We (Al ze36 Z) Z ?_
 rintro _ _ _ - ⟨rfl,o,rfl,rfl⟩
 refine Nt (Cs (Sr (qu (pt e 3) (Fa QdW Z Z) (qu d (Lb 1 pl25 Z Z Z) (qu (Iv (a0.Done.length:Int)) (lenS underlying25 Z m.len) (qu (Bv (decide ((64:Int)<(a0.Done.length:Int)))) (gtr Z Z) (Nt (Ch h Z (fun c7 h=> ?_) (fun c7 h=> ?_)))))))))
 refine Sr (qu (pt e 3) (Fa QdW Z Z) (qu d (Lb 1 pl25 Z Z Z) (qu (Iv (a0.Done.length:Int)) (lenS underlying25 Z m.len) (qu (.agg #[(Sv ⟨#[100,111,110,101]⟩),(Iv (a0.Done.length:Int)),(Iv 6)]) (Bl (cl:=[(Sv ⟨#[100,111,110,101]⟩),(Iv (a0.Done.length:Int)),(Iv 6)]) ze36 fp36 (Pc (Sv ⟨#[100,111,110,101]⟩) Z Z (Pc (Iv (a0.Done.length:Int)) Z Z (Pc (Iv 6) Z Z Pz))) Z) (We (Sg (v:=(.agg #[(Sv ⟨#[100,111,110,101]⟩),(Iv (a0.Done.length:Int)),(Iv 6)])) (vl:=[(Sv ⟨#[100,111,110,101]⟩),(Iv (a0.Done.length:Int)),(Iv 6)]) (arr':=[(Sv ⟨#[100,111,110,101]⟩),(Iv (a0.Done.length:Int)),(Iv 6)]) Z sz36 Z Z (onb Z) Z Z Z) Z ?_)))))
 rintro _ _ _ - ⟨rfl,rfl⟩
 exact Nt (Cr (Tr (Qa (Dr (Rd h [] (fun _ hs=>hs.drop) (QbH Z (Rc (cs:=[(Sv ⟨#[100,111,110,101]⟩),(Iv (a0.Done.length:Int)),(Iv 6)]) 0 ag36 sz36 Z Z Z)) lr ⟨Z,Z⟩)))))
 refine Ck (Tc ?_)
 obtain ⟨e8,c8,h⟩:=bnd h
 refine WC.joinE (fun(_:Unit) ρ' M' H'=>M.le M'∧[(o, .cells #[(Sv ⟨#[]⟩),(Iv 0),(Iv 0)] 36 (0,0))]::[(e, .cells (l27 a0 f g i d).toArray 27 (0,0))]::F=H'∧ρ' 2=(pt o 0)) e8 ?_ ?_
 have c9:=h
 have h:=c8
 refine Sr (qa (Iv 0) (Nt (Bk ?_)))
 obtain ⟨f9,d0,b3⟩:=bnd h
 clear h
 refine WC.loop d0 (fun(a:Int) ρ' M' H'=>M.le M'∧[(o, .cells #[(Sv ⟨#[]⟩),(Iv 0),(Iv 0)] 36 (0,0))]::[(e, .cells (l27 a0 f g i d).toArray 27 (0,0))]::F=H'∧ρ' 1=(pt e 0)∧ρ' 2=(pt o 0)∧ρ' 3=(Iv a)) ?_ ?_
 exact⟨lr,Z,Z,Z,Z⟩
 rintro a g0 g1 d1 g2 h ⟨z,rfl,p,x,q⟩
 unfold QhO at h
 refine Cs (Sr (qM (Iv a) q (qu (pt e 3) (Fa QdW p Z) (qu d (Lb 1 pl25 Z Z Z) ?_))))
 have m:=m.mono z
 refine qu (Iv (a0.Done.length:Int)) (lenS underlying25 Z m.len) (qu (Bv (decide (a<(a0.Done.length:Int)))) (lss Z Z) (Nt (Ch h Z (fun d2 h=> ?_) (fun d2 h=> ?_))))
 refine Ck (Tc ?_)
 obtain ⟨e9,d3,h⟩:=bnd h
 refine WC.joinE (fun(_:Unit) ρ' M' H'=>d1.le M'∧[(o, .cells #[(Sv ⟨#[]⟩),(Iv 0),(Iv 0)] 36 (0,0))]::[(e, .cells (l27 a0 f g i d).toArray 27 (0,0))]::F=H'∧ρ' 1=(pt e 0)∧ρ' 2=(pt o 0)∧ρ' 3=(Iv a)) e9 ?_ ?_
 have d4:=h
 have h:=d3
 refine Bk (Sr (qu (pt e 3) (Fa QdW p Z) (qu d (Lb 1 pl25 Z Z Z) (qM (Iv a) q ?_))))
 obtain ⟨G,h⟩:=QaQ h
 obtain ⟨f0,f6,b4,b5,hhas37⟩:=m.at G.1 G.2 (by decide)
 obtain rfl:=Qb8 b5
 refine qu (.pointer (some f0)) (indexAddr (n:=a0.Done.length) underlying25 sz67 Z Z G.1 G.2 b4) (qu (a67_ (rd a0.Done a)) (loadMA (cs:=(l67 (rd a0.Done a))) ag67 sz67 Z hhas37) (We (Al ze67 Z) Z ?_))
 rintro _ _ _ - ⟨rfl,w,rfl,rfl⟩
 refine We (Sg (v:=(a67_ (rd a0.Done a))) (vl:=(l67 (rd a0.Done a))) (arr':=(l67 (rd a0.Done a))) Z sz67 Z Z (onb Z) Z Z Z) Z ?_
 rintro _ _ _ - ⟨rfl,rfl⟩
 refine Nt ?_
 obtain ⟨b6,d5,h⟩:=bnd h
 refine Jf (fun(b6:Bool) ρ' M' H'=>d1.le M'∧[(w, .cells (l67 (rd a0.Done a)).toArray 67 (0,0))]::[(o, .cells #[(Sv ⟨#[]⟩),(Iv 0),(Iv 0)] 36 (0,0))]::[(e, .cells (l27 a0 f g i d).toArray 27 (0,0))]::F=H'∧ρ' 1=(pt e 0)∧ρ' 2=(pt o 0)∧ρ' 3=(Iv a)∧ρ' 4=(pt w 0)∧ρ' 5=(Bv b6)) b6 ?_ ?_
 have h:=d5
 refine Cg (qu (pt w 0) (Fa QrI Z Z) (qu (Iv ((rd a0.Done a).Client)) (Lb 0 pl3 Z Z Z) ?_))
 obtain ⟨b7,d6,h⟩:=bnd h
 refine We (Ca co74 (Qh0 ((rd a0.Done a).Client) (1:Int) (1073741824:Int) _ b7 d6) (QhR Z Z Z)) Z ?_
 rintro _ g3 _ B ⟨_,⟨rfl,rfl⟩,rfl⟩
 refine WL.a0 (qu (Bv (!b7)) (PO.not Z) (qm (Bv (!b7)) ?_))
 rcases Bi h with⟨t,h⟩ |⟨t,h⟩
 iterate 4 refine Of 31 Z Z t Z ?_
 refine qu (Bv true) (Pt Z t Z) (qm (Bv true) ?_)
 iterate 4 refine Of 37 Z Z Z Z ?_
 refine qu (Bv true) (Pt Z Z Z) (qa (Bv true) (Wz ?_))
 obtain rfl:=oi h
 exact Tj ⟨B,Z,p,x,q,Z,Z⟩
 refine qo 31 t (pt w 1) (Fa QpF Z Z) (qo 31 t (Iv ((rd a0.Done a).Serial)) (Lb 0 pl3 Z Z Z) (On 31 Z Z t ?_))
 obtain ⟨R,d7,h⟩:=bnd h
 refine We (Ca co74 (Qh0 ((rd a0.Done a).Serial) (1:Int) (1073741824:Int) _ R d7) (QhR Z Z Z)) Z ?_
 rintro _ g4 _ O ⟨_,⟨rfl,rfl⟩,rfl⟩
 refine WL.a0 (qo 31 t (Bv (!R)) (PO.not Z) (qu (Bv (!R)) (Pf Z t Z) (qm (Bv (!R)) ?_)))
 rcases Bi h with⟨u,h⟩ |⟨u,h⟩
 iterate 4 refine Of 37 Z Z u Z ?_
 refine qu (Bv true) (Pt Z u Z) (qa (Bv true) (Wz ?_))
 obtain rfl:=oi h
 exact Tj ⟨(B.trans O),Z,p,x,q,Z,Z⟩
 refine qo 37 u (pt w 2) (Fa Qs4 Z Z) (qo 37 u (Iv ((rd a0.Done a).Code)) (Lb 0 pl3 Z Z Z) (On 37 Z Z u ?_))
 obtain ⟨S,d8,h⟩:=bnd h
 refine We (Ca co74 (Qh0 ((rd a0.Done a).Code) (0:Int) (21:Int) _ S d8) (QhR Z Z Z)) Z ?_
 rintro _ g5 _ b8 ⟨_,⟨rfl,rfl⟩,rfl⟩
 refine WL.a0 (qo 37 u (Bv (!S)) (PO.not Z) (qu (Bv (!S)) (Pf Z u Z) (qa (Bv (!S)) (Wz ?_))))
 obtain rfl:=oi h
 exact Tj ⟨((B.trans O).trans b8),Z,p,x,q,Z,Z⟩
 rintro g6 d9 g7 ⟨C,rfl,T,U,V,W,X⟩
 obtain ⟨Y,e0,h⟩:=bnd h
 refine Jf (fun(Y:Bool) ρ' M' H'=>d9.le M'∧[(w, .cells (l67 (rd a0.Done a)).toArray 67 (0,0))]::[(o, .cells #[(Sv ⟨#[]⟩),(Iv 0),(Iv 0)] 36 (0,0))]::[(e, .cells (l27 a0 f g i d).toArray 27 (0,0))]::F=H'∧ρ' 1=(pt e 0)∧ρ' 2=(pt o 0)∧ρ' 3=(Iv a)∧ρ' 5=(Bv Y)) Y ?_ ?_
 have h:=e0
 refine Sr (qa (Iv 0) (Nt (Bk ?_)))
 obtain ⟨g8,e1,e2⟩:=bnd h
 clear h
 refine WC.loop e1 (fun(p_:(Bool×Int)) ρ' M' H'=>match p_ with |(P,j)=>d9.le M'∧[(w, .cells (l67 (rd a0.Done a)).toArray 67 (0,0))]::[(o, .cells #[(Sv ⟨#[]⟩),(Iv 0),(Iv 0)] 36 (0,0))]::[(e, .cells (l27 a0 f g i d).toArray 27 (0,0))]::F=H'∧ρ' 1=(pt e 0)∧ρ' 2=(pt o 0)∧ρ' 3=(Iv a)∧ρ' 4=(pt w 0)∧ρ' 5=(Bv P)∧ρ' 6=(Iv j)) ?_ ?_
 exact⟨lr,Z,T,U,V,W,X,Z⟩
 rintro ⟨P,j⟩ g9 h0 f2 h1 h ⟨D,rfl,k,y,r,s,I,l⟩
 unfold QfL at h
 refine Cs (Sr (qM (Iv j) l (qM (Iv a) r (qu (Bv (decide (j<a))) (lss Z Z) (Nt (Ch h Z (fun e3 h=> ?_) (fun e3 h=> ?_)))))))
 refine Ck (Tc ?_)
 obtain ⟨a1,e4,h⟩:=bnd h
 refine Jf (fun(a1:Bool) ρ' M' H'=>f2.le M'∧[(w, .cells (l67 (rd a0.Done a)).toArray 67 (0,0))]::[(o, .cells #[(Sv ⟨#[]⟩),(Iv 0),(Iv 0)] 36 (0,0))]::[(e, .cells (l27 a0 f g i d).toArray 27 (0,0))]::F=H'∧ρ' 1=(pt e 0)∧ρ' 2=(pt o 0)∧ρ' 3=(Iv a)∧ρ' 4=(pt w 0)∧ρ' 5=(Bv a1)∧ρ' 6=(Iv j)) a1 ?_ ?_
 have h:=e4
 refine Bk (WC.draw [0,1,3,7,3,31,63,127,3,259,1023,2047,4095,8191,4095,32767,65535,131071,4095,266239,1048575,2097151,4194303,8388607] (.pure 0 (.pure 1 (.pure 2 (.pure 3 (.pure 4 (.pure 5 (.pure 6 (.pure 7 (.pure 8 (.pure 9 (.pure 10 (.pure 11 (.pure 12 (.pure 13 (.pure 14 (.pure 15 (.pure 16 (.pure 17 (.pure 18 (.pure 19 (.pure 20 (.pure 21 (.pure 22 (.alt 23 .done .none)))))))))))))))))))))))) QdC (by kernel_rfl) (qt (Bv P) Z (Mv I) (qt (Bv P) Z (Mv Z) ?_)))
 rcases Bi h with⟨b,h⟩ |⟨b,h⟩
 refine Tf 49 Z Z Z b Z (Tf 49 Z Z Z b Z (Tf 49 Z Z Z b Z (Tf 49 Z Z Z b Z (Tf 49 Z Z Z b Z (Tf 49 Z Z Z b Z (Tf 49 Z Z Z b Z (Tf 49 Z Z Z b Z (Tf 49 Z Z Z b Z (Tf 49 Z Z Z b Z (WT.pureOffU 59 Z Z Z Z (WT.pureOffU 59 Z Z Z Z ?_)))))))))))
 refine WT.pureOffU 59 Z Z Z Z (WT.pureOffU 59 Z Z Z Z (WT.pureOffU 59 Z Z Z Z (WT.pureOffU 59 Z Z Z Z (WT.pureOffU 59 Z Z Z Z (WT.pureOffU 59 Z Z Z Z (WT.pureOffU 59 Z Z Z Z (Tf 49 Z Z Z b Z (qt (Bv true) Z (Pt Z b Z) (Ta Z ((Ag Z).eo) Z ?_ ?_)))))))))
 rintro _ _ _ - ⟨rfl,rfl,rfl⟩
 refine⟨(Sl Z), ?_⟩
 refine Ti (Bn ?_)
 obtain rfl:=oi h
 exact Tj ⟨lr,Z,k,y,r,s,Z,l⟩
 exact Tz
 refine Tn (pt e 3) 49 Z Z Z b (Fa QdW k Z) Z (Tn d 49 Z Z Z b (Lb 2 pl25 Z Z Z) Z (Tn (Iv j) 49 Z Z Z b (Mv l) Z ?_))
 obtain ⟨J,h⟩:=QaQ h
 have m:=m.mono (C.trans D)
 obtain ⟨e5,f7,b9,c0,hhas74⟩:=m.at J.1 J.2 (by decide)
 obtain rfl:=Qb8 c0
 refine Tn (.pointer (some e5)) 49 Z Z Z b (indexAddr (n:=a0.Done.length) underlying25 sz67 Z Z J.1 J.2 b9) Z (Tn (.pointer (some (e5.add 0))) 49 Z Z Z b (Fa QrI Z Z) Z (Tn (Iv ((rd a0.Done j).Client)) 49 Z Z Z b (loadM pl3 Z (IM.has0 hhas74)) Z (Tn (pt w 0) 49 Z Z Z b (Fa QrI s Z) Z (Tn (Iv ((rd a0.Done a).Client)) 49 Z Z Z b (Lb 0 pl3 Z Z Z) Z (Tn (Bv (decide (((rd a0.Done j).Client)=((rd a0.Done a).Client)))) 49 Z Z Z b (eql Z Z) Z (Tn (Bv (decide (((rd a0.Done j).Client)=((rd a0.Done a).Client)))) 49 Z Z Z b (Mv Z) Z ?_))))))
 rcases Bi h with⟨c,h⟩ |⟨c,h⟩
 refine Tn (pt e 3) 59 Z Z Z c (Fa QdW k Z) Z (Tn d 59 Z Z Z c (Lb 2 pl25 Z Z Z) Z (Tn (Iv j) 59 Z Z Z c (Mv l) Z ?_))
 obtain ⟨K,h⟩:=QaQ h
 obtain ⟨e6,f8,c1,c2,hhas82⟩:=m.at K.1 K.2 (by decide)
 obtain rfl:=Qb8 c2
 refine Tn (.pointer (some e6)) 59 Z Z Z c (indexAddr (n:=a0.Done.length) underlying25 sz67 Z Z K.1 K.2 c1) Z (Tn (.pointer (some (e6.add 1))) 59 Z Z Z c (Fa QpF Z Z) Z (Tn (Iv ((rd a0.Done j).Serial)) 59 Z Z Z c (loadM pl3 Z (hhas82 1 _ Z)) Z (Tn (pt w 1) 59 Z Z Z c (Fa QpF s Z) Z (Tn (Iv ((rd a0.Done a).Serial)) 59 Z Z Z c (Lb 0 pl3 Z Z Z) Z (Tn (Bv (decide (((rd a0.Done j).Serial)=((rd a0.Done a).Serial)))) 59 Z Z Z c (eql Z Z) Z (Tn (Bv (decide (((rd a0.Done j).Serial)=((rd a0.Done a).Serial)))) 49 Z Z Z b (Pt Z c Z) Z (qt (Bv (decide (((rd a0.Done j).Serial)=((rd a0.Done a).Serial)))) Z (Pf Z b Z) (Ta Z ((Ag Z).eo) Z ?_ ?_))))))))
 rintro _ _ _ - ⟨rfl,rfl,rfl⟩
 refine⟨(Sl Z), ?_⟩
 refine Ti (Bn ?_)
 obtain rfl:=oi h
 exact Tj ⟨lr,Z,k,y,r,s,Z,l⟩
 exact Tz
 refine Tf 59 Z Z Z c Z (Tf 59 Z Z Z c Z (Tf 59 Z Z Z c Z (Tf 59 Z Z Z c Z (Tf 59 Z Z Z c Z (Tf 59 Z Z Z c Z (Tf 59 Z Z Z c Z (Tf 59 Z Z Z c Z (Tf 59 Z Z Z c Z (Tn (Bv false) 49 Z Z Z b (Pf Z c Z) Z (qt (Bv false) Z (Pf Z b Z) (Ta Z ((Ag Z).eo) Z ?_ ?_)))))))))))
 rintro _ _ _ - ⟨rfl,rfl,rfl⟩
 refine⟨(Sl Z), ?_⟩
 refine Ti (Bn ?_)
 obtain rfl:=oi h
 exact Tj ⟨lr,Z,k,y,r,s,Z,l⟩
 exact Tz
 rintro h2 h3 h4 ⟨c3,rfl,a2,a3,a4,a5,a6,a7⟩
 exact Cg (qM (Iv j) a7 (qu (Iv (i64.wrap (j+1))) (add Z Z) (qa (Iv (i64.wrap (j+1))) (Wz (WQ.again (a1,i64.wrap (j+1)) (oi h).symm ⟨(D.trans c3),Z,a2,a3,a4,a5,a6,Z⟩)))))
 refine WC.exit (WQ.thenE (WQ.leaveE P (oi h).symm (fun c4=> ?_)))
 subst c4
 have h:=e2
 refine WQ.blockH ?_
 obtain rfl:=oi h
 exact Tj ⟨D,Z,k,y,r,I⟩
 rintro h5 h6 h7 ⟨Q,rfl,a8,A,L,a9⟩
 refine Sr (qM (Bv Y) a9 (Nt (Ch h Z (fun e7 h=> ?_) (fun e7 h=> ?_))))
 refine Sr (qM (Iv a) L (qu (.agg #[(Sv ⟨#[100,111,110,101]⟩),(Iv a),(Iv 2)]) (Bl (cl:=[(Sv ⟨#[100,111,110,101]⟩),(Iv a),(Iv 2)]) ze36 fp36 (Pc (Sv ⟨#[100,111,110,101]⟩) Z Z (Pc (Iv a) Z Z (Pc (Iv 2) Z Z Pz))) Z) (WL.f1 (We (Sg (v:=(.agg #[(Sv ⟨#[100,111,110,101]⟩),(Iv a),(Iv 2)])) (vl:=[(Sv ⟨#[100,111,110,101]⟩),(Iv a),(Iv 2)]) (arr':=[(Sv ⟨#[100,111,110,101]⟩),(Iv a),(Iv 2)]) Z sz36 A Z (onb Z) Z Z Z) Z ?_))))
 rintro _ _ _ - ⟨rfl,rfl⟩
 refine Nt (Cr (Br (Tr ?_)))
 have h:=KK.early h d4
 refine WQ.leaveR (inr ((⟨#[100,111,110,101]⟩:ByteArray),a,(2:Int))) (oi h).symm (fun E=> ?_)
 subst E
 have h:=(QdO b3)
 refine Br (Tr ?_)
 have h:=KK.early h c9
 exact Qa (Dr (Qa (Dr (Rd h [] (fun _ hs=>hs.drop) (QbH Z (Rc (cs:=[(Sv ⟨#[100,111,110,101]⟩),(Iv a),(Iv 2)]) 0 ag36 sz36 A Z Z)) ((z.trans C).trans Q) ⟨Z,Z⟩))))
 exact Ck (Bn (Dr (WQ.thenFE h ⟨(C.trans Q),Z,a8,A,L⟩)))
 rintro _ h8 h9 i0 rfl ⟨c5,rfl,b0,b1,b2⟩
 have h:=(Sum.elim_inl _ _ _).symm.trans h
 exact Cg (qM (Iv a) b2 (qu (Iv (i64.wrap (a+1))) (add Z Z) (qa (Iv (i64.wrap (a+1))) (Wz (WQ.again (i64.wrap (a+1)) (oi h).symm ⟨(z.trans c5),Z,b0,b1,Z⟩)))))
 refine WC.exit (WQ.thenE (WQ.leaveE (inl ()) (oi h).symm (fun E=> ?_)))
 subst E
 have h:=QeJ b3
 exact WQ.blockH (WQ.thenFE h ⟨z,Z,x⟩)
 rintro _ i1 i2 i3 rfl ⟨c6,rfl,N⟩
 have h:=(Sum.elim_inl _ _ _).symm.trans h
 refine Sr (qu (.agg #[(Sv ⟨#[]⟩),(Iv 0),(Iv 0)]) (Bl (cl:=[(Sv ⟨#[]⟩),(Iv 0),(Iv 0)]) ze36 fp36 Pz Z) (We (Sg (v:=(.agg #[(Sv ⟨#[]⟩),(Iv 0),(Iv 0)])) (vl:=[(Sv ⟨#[]⟩),(Iv 0),(Iv 0)]) (arr':=[(Sv ⟨#[]⟩),(Iv 0),(Iv 0)]) Z sz36 N Z (onb Z) Z Z Z) Z ?_))
 rintro _ _ _ - ⟨rfl,rfl⟩
 exact Nt (Cr (Qa (Dr (Rd h [] (fun _ hs=>hs.drop) (QbH Z (Rc (cs:=[(Sv ⟨#[]⟩),(Iv 0),(Iv 0)]) 0 ag36 sz36 N Z Z)) c6 ⟨Z,Z⟩))))
noncomputable def QjH (a0:QaA):Option QaL:=
 ((QhM a0).bind fun a=>(if(decide (a.Code≠(0:Int)))=true then(some a)else((QiD a0).bind fun b=>(if(decide (b.Code≠(0:Int)))=true then(some b)else((QhN a0).bind fun c=>(if(decide (c.Code≠(0:Int)))=true then(some c)else((QkL a0).bind fun d=>(some d))))))))
def QrA (a0:QaA) (b c d e:Value):QaL→Value→IM→HL→Prop:=
 fun(a:QaL) (v:Value) (M':IM) (H':HL)=>(.agg #[(.string a.Op),(.int .i64 a.At),(.int .i64 a.Code)])=v∧H'=[]
theorem QtX (a0:QaA) (M:IM) (a b c d:Value) (f:RS QaD M a a0.Brokers) (g:RS QaG M b a0.Topics) (i:RS QaF M c a0.Configs) (j:RS QaI M d a0.Done) (res:QaL) (h:QjH a0=some res):
 Tri prog 10 #[(a27_ a0 a b c d)] M [] (QrA a0 a b c d res):=by
 unfold QjH at h
 refine Te func10 Z Z ?_
 intro F ρ hρ
 refine Sr (We (box (cs:=(l27 a0 a b c d).toArray) (congrArg Value.cells (asE (a27_ a0 a b c d) (hρ 0)))) Z ?_)
 rintro _ _ _ - ⟨rfl,C,rfl,rfl⟩
 refine We (Al ze36 Z) Z ?_
 rintro _ _ _ - ⟨rfl,D,rfl,rfl⟩
 refine Nt (Cs (Sr (qu (a27_ a0 a b c d) (La (cs:=(l27 a0 a b c d)) 1 ag27 sz27 Z Z Z) ?_)))
 obtain ⟨m,r,h⟩:=bnd h
 refine We (Ca co28 (Qq8 a0 _ _ _ _ _ f g i j m r) (QbK Z)) Z ?_
 rintro _ E _ e ⟨_,⟨rfl,rfl⟩,rfl⟩
 refine WL.a0 (We (Al ze36 Z) Z ?_)
 rintro _ _ _ - ⟨rfl,z,rfl,rfl⟩
 refine We (Sg (v:=(a36_ m)) (vl:=(l36 m)) (arr':=(l36 m)) Z sz36 Z Z (onb Z) Z Z Z) Z ?_
 rintro _ _ _ - ⟨rfl,rfl⟩
 refine Ns (qu (pt z 2) (Fa QvC Z Z) (qu (Iv m.Code) (Lb 0 pl34 Z Z Z) (qu (Bv (decide (m.Code≠0))) (neq Z Z) (Nt (Ch h Z (fun s h=> ?_) (fun s h=> ?_))))))
 refine Sr (qu (a36_ m) (La (cs:=(l36 m)) 0 ag36 sz36 Z Z Z) (WL.f1 (We (Sg (v:=(a36_ m)) (vl:=(l36 m)) (arr':=(l36 m)) Z sz36 Z Z (onb Z) Z Z Z) Z ?_)))
 rintro _ _ _ - ⟨rfl,rfl⟩
 exact Nt (Cr (Tr (Qa (Dr (Qa (Dr (Rd h [] (fun _ hs=>hs.drop) (QbH Z (Rc (cs:=(l36 m)) 0 ag36 sz36 Z Z Z)) e ⟨Z,Z⟩)))))))
 refine Ck (Tc (Cs (Sr (qu (a27_ a0 a b c d) (La (cs:=(l27 a0 a b c d)) 2 ag27 sz27 Z Z Z) ?_))))
 obtain ⟨n,t,h⟩:=bnd h
 have f:=f.mono e
 have g:=g.mono e
 have i:=i.mono e
 have j:=j.mono e
 refine We (Ca co29 (QsG a0 _ _ _ _ _ f g i j n t) (QbK Z)) Z ?_
 rintro _ G _ k ⟨_,⟨rfl,rfl⟩,rfl⟩
 refine WL.a0 (We (Al ze36 Z) Z ?_)
 rintro _ _ _ - ⟨rfl,A,rfl,rfl⟩
 refine We (Sg (v:=(a36_ n)) (vl:=(l36 n)) (arr':=(l36 n)) Z sz36 Z Z (onb Z) Z Z Z) Z ?_
 rintro _ _ _ - ⟨rfl,rfl⟩
 refine Ns (qu (pt A 2) (Fa QvC Z Z) (qu (Iv n.Code) (Lb 0 pl34 Z Z Z) (qu (Bv (decide (n.Code≠0))) (neq Z Z) (Nt (Ch h Z (fun u h=> ?_) (fun u h=> ?_))))))
 refine Sr (qu (a36_ n) (La (cs:=(l36 n)) 0 ag36 sz36 Z Z Z) (Wb (We (Sg (v:=(a36_ n)) (vl:=(l36 n)) (arr':=(l36 n)) Z sz36 Z Z (onb Z) Z Z Z) Z ?_)))
 rintro _ _ _ - ⟨rfl,rfl⟩
 exact Nt (Cr (Tr (Qa (Dr (Qa (Dr (Qa (Dr (Rd h [] (fun _ hs=>hs.drop) (QbH Z (Rc (cs:=(l36 n)) 0 ag36 sz36 Z Z Z)) (e.trans k) ⟨Z,Z⟩)))))))))
 refine Ck (Tc (Cs (Sr (qu (a27_ a0 a b c d) (La (cs:=(l27 a0 a b c d)) 3 ag27 sz27 Z Z Z) ?_))))
 obtain ⟨o,w,h⟩:=bnd h
 have f:=f.mono k
 have g:=g.mono k
 have i:=i.mono k
 have j:=j.mono k
 refine We (Ca co30 (Qq9 a0 _ _ _ _ _ f g i j o w) (QbK Z)) Z ?_
 rintro _ I _ l ⟨_,⟨rfl,rfl⟩,rfl⟩
 refine WL.a0 (We (Al ze36 Z) Z ?_)
 rintro _ _ _ - ⟨rfl,B,rfl,rfl⟩
 refine We (Sg (v:=(a36_ o)) (vl:=(l36 o)) (arr':=(l36 o)) Z sz36 Z Z (onb Z) Z Z Z) Z ?_
 rintro _ _ _ - ⟨rfl,rfl⟩
 refine Ns (qu (pt B 2) (Fa QvC Z Z) (qu (Iv o.Code) (Lb 0 pl34 Z Z Z) (qu (Bv (decide (o.Code≠0))) (neq Z Z) (Nt (Ch h Z (fun x h=> ?_) (fun x h=> ?_))))))
 refine Sr (qu (a36_ o) (La (cs:=(l36 o)) 0 ag36 sz36 Z Z Z) (WL.f3 (We (Sg (v:=(a36_ o)) (vl:=(l36 o)) (arr':=(l36 o)) Z sz36 Z Z (onb Z) Z Z Z) Z ?_)))
 rintro _ _ _ - ⟨rfl,rfl⟩
 exact Nt (Cr (Tr (Qa (Dr (Qa (Dr (Qa (Dr (Qa (Dr (Rd h [] (fun _ hs=>hs.drop) (QbH Z (Rc (cs:=(l36 o)) 0 ag36 sz36 Z Z Z)) ((e.trans k).trans l) ⟨Z,Z⟩)))))))))))
 refine Ck (Tc (Sr (qu (a27_ a0 a b c d) (La (cs:=(l27 a0 a b c d)) 4 ag27 sz27 Z Z Z) ?_)))
 obtain ⟨p,y,h⟩:=bnd h
 have f:=f.mono l
 have g:=g.mono l
 have i:=i.mono l
 have j:=j.mono l
 refine We (Ca co31 (Qu2 a0 _ _ _ _ _ f g i j p y) (QbK Z)) Z ?_
 rintro _ J _ q ⟨_,⟨rfl,rfl⟩,rfl⟩
 refine WL.a0 (WL.f3 (We (Sg (v:=(a36_ p)) (vl:=(l36 p)) (arr':=(l36 p)) Z sz36 Z Z (onb Z) Z Z Z) Z ?_))
 rintro _ _ _ - ⟨rfl,rfl⟩
 exact Nt (Cr (Qa (Dr (Qa (Dr (Qa (Dr (Qa (Dr (Rd h [] (fun _ hs=>hs.drop) (QbH Z (Rc (cs:=(l36 p)) 0 ag36 sz36 Z Z Z)) (((e.trans k).trans l).trans q) ⟨Z,Z⟩))))))))))
noncomputable def QdU (a1:QbR) (s_:GErr):Option (GErr⊕(Bool×ByteArray×Int×GErr)):=
 match s_ with
 |a=>
 (match a with | .nil=>none | .code d=>(some (inr (false,a1.Op,a1.At,a1.Err))) | .fault b a30 c=>(some (inr (true,b,a30,c))) | .other e=>(some (inr (false,a1.Op,a1.At,a1.Err))))
noncomputable def QeB (a0:GErr) (a1:QbR):Option (Bool×ByteArray×Int×GErr):=
 ((iter (QdU a1) a0).bind (fun(a,b,c,d)=>(some (a,b,c,d))))
def Qm6 (a0:GErr) (a1:QbR) (a b:Nat):(Bool×ByteArray×Int×GErr)→Value→IM→HL→Prop:=
 fun(p_:(Bool×ByteArray×Int×GErr)) (v:Value) (M':IM) (H':HL)=>match p_ with |(c,d,e,f)=>(.bool c)=v∧H'=[[(a, .cells #[(.string d),(.int .i64 e),(GV f)] 114 (0,0))],[(b, .cells #[(.pointer (some ⟨a,0,none⟩))] 116 (0,0))]]
theorem Qo1 (a0:GErr) (a1:QbR) (M:IM) (l m:Nat) (res:(Bool×ByteArray×Int×GErr)) (h:QeB a0 a1=some res):
 Tri prog 104 #[(GV a0),(.iface 116 (pt l 0)),(.agg #[(pt 1 116),(pt m 0),(Uv 150)]),(.iface 193 (.agg #[.pointer (some ⟨1,114,none⟩)]))] M [[(l, .cells (l114 a1).toArray 114 (0,0))],[(m, .cells #[(pt l 0)] 116 (0,0))]] (Qm6 a0 a1 l m res):=by
 unfold QeB at h
 refine Te func104 Z Z ?_
 intro F ρ hρ
 refine Sr (We (box (cs:=#[(pt 1 116),(pt m 0),(Uv 150)]) (congrArg Value.cells (asE (.agg #[(pt 1 116),(pt m 0),(Uv 150)]) (hρ 2)))) Z ?_)
 rintro _ _ _ - ⟨rfl,s,rfl,rfl⟩
 refine qa (Bv false) (Nt (Bk ?_))
 obtain ⟨x,t,n⟩:=bnd h
 clear h
 refine WC.loop t (fun(o:GErr) ρ' M' H'=>M.le M'∧[(s, .cells #[(pt 1 116),(pt m 0),(Uv 150)] 154 (0,0))]::[(l, .cells (l114 a1).toArray 114 (0,0))]::[(m, .cells #[(pt l 0)] 116 (0,0))]::F=H'∧ρ' 0=(GV o)∧ρ' 1=(.iface 116 (pt l 0))∧ρ' 3=(.iface 193 (.agg #[.pointer (some ⟨1,114,none⟩)]))∧ρ' 6=(pt s 0)) ?_ ?_
 exact⟨lr,Z,(hρ 0),(hρ 1),(hρ 3),Z⟩
 rintro o y z A B h ⟨g,rfl,a,u,c,q⟩
 unfold QdU at h
 refine Bk (Cs (Sr (qM (GV o) a ?_)))
 rcases o with _ |j |⟨e,a30,f⟩ |k
 refine We (extP xt99 (QbK (show ev _ _= .nilIface from Z)) Q7U) Z ?_
 rintro _ _ _ - ⟨rfl,rfl,rfl⟩
 exact qM (.iface 193 (.agg #[.pointer (some ⟨1,114,none⟩)])) c (Q68 h)
 refine We (extP xt99 (QbK (show ev _ _=(.iface 34 (Iv j)) from Z)) (ty34 _)) Z ?_
 rintro _ _ _ - ⟨rfl,rfl,rfl⟩
 refine qM (.iface 193 (.agg #[.pointer (some ⟨1,114,none⟩)])) c (We (invE (show ev _ _=(.iface 193 (.agg #[.pointer (some ⟨1,34,none⟩)])) from Z) (QfP (pt 1 34)) Q1C (inv1 Z) QnB) Z ?_)
 rintro _ _ _ - ⟨rfl,rfl,rfl⟩
 refine Nt (WC.condF (b:=false) Z Z (Ck (Tc (Cs (Sr (qM (GV (GErr.code j)) a (qu (.tuple #[.nilIface,(Bv false)]) (asserts (show ev _ _=(.iface 34 (Iv j)) from Z) (Q37 _ _)) (qm (.tuple #[.nilIface,(Bv false)]) (qu .nilIface (Xt Z Z) (qu (Bv false) (Xt Z Z) (qa .nilIface ?_)))))))))))
 refine qa (Bv false) (Ns (qm (Bv false) (qm (Bv false) ?_)))
 iterate 3 refine Of 31 Z Z Z Z ?_
 refine qu (Bv false) (Pf Z Z Z) (Nt (WC.condF (b:=false) Z Z (Ck (Tc (Sr (qM (GV (GErr.code j)) a (Nt (Bk (Sr (qu (.tuple #[.nilIface,(Bv false)]) (asserts (show ev _ _=(.iface 34 (Iv j)) from Z) (Q0D _ _)) (qu (Bv false) (Xt Z Z) ?_)))))))))))
 refine qu .nilIface (Xt Z Z) (Nt (WC.condF (b:=false) Z Z (Sr (qu (.tuple #[.nilIface,(Bv false)]) (asserts (show ev _ _=(.iface 34 (Iv j)) from Z) (Q0E _ _)) (qu (Bv false) (Xt Z Z) (qu .nilIface (Xt Z Z) (Nt (WC.condF (b:=false) Z Z (Sr (qa (GV (GErr.code j)) (Ns ?_)))))))))))
 refine qa (Bv false) (Nt (Cr (Br (Br (WQ.leaveR (false,a1.Op,a1.At,a1.Err) (oi h).symm (fun d=> ?_))))))
 subst d
 have h:=n
 exact Br (Dr (Rf h [[(l, .cells (l114 a1).toArray 114 (0,0))],[(m, .cells #[(pt l 0)] 116 (0,0))]] Z (Rs Z Z) g ⟨Z,Z⟩))
 refine We (extP xt99 (QbK (show ev _ _=(.iface 114 (.agg #[.string e, .int .i64 a30,GV f])) from Z)) (Q7T _)) Z ?_
 rintro _ _ _ - ⟨rfl,rfl,rfl⟩
 refine qM (.iface 193 (.agg #[.pointer (some ⟨1,114,none⟩)])) c (We (invE (show ev _ _=(.iface 193 (.agg #[.pointer (some ⟨1,114,none⟩)])) from Z) (QfP (pt 1 114)) Q1C (inv1 Z) QmM) Z ?_)
 rintro _ _ _ - ⟨rfl,rfl,rfl⟩
 refine Nt (WC.condT (b:=true) Z Z (Sr (qu (.agg #[(pt 1 116),(pt m 0),(Uv 150)]) (La (cs:=[(pt 1 116),(pt m 0),(Uv 150)]) 0 Qx9 QvY q Z Z) (We (rvElem (r:=fun p=> .agg #[(pt 1 114), .pointer (some p), .int .u64 409]) 2 Q7Y QyC Z Q7O Q9Y Q92 (QbK (show ev _ _=(.agg #[(pt 1 116),(pt m 0),(Uv 150)]) from Z)) Z) Z ?_))))
 rintro _ _ _ - ⟨rfl,rfl,rfl⟩
 refine qM (GV (GErr.fault e a30 f)) a (We (valueOf Q4B (QbK (show ev _ _=(.iface 114 (.agg #[.string e, .int .i64 a30,GV f])) from Z)) (Q95 e a30 (GV f))) Z ?_)
 rintro _ _ _ - ⟨rfl,w,rfl,rfl⟩
 refine Wb (We (rvSet (arr:=(l114 a1)) (vl:=[(Sv e),(Iv a30),(GV f)]) (v:=(.agg #[(Sv e),(Iv a30),(GV f)])) Q7Z Q2B Q2A Z Q9X (QaU (show ev _ _=(.agg #[(pt 1 114),(pt l 0),(Uv 409)]) from Z) (show ev _ _=(.agg #[(pt 1 114),(pt w 0),(Uv 153)]) from Z)) (fun _ hs=>Qy9 (cs:=[(Sv e),(Iv a30),(GV f)]) Q85 Q7R (fun i v hi=>by rw [QiM];exact hs.cellC 1 Z (QdK.trans (by simpa using hi)))) Z Q7R Z (QbG (Oc Z (Oc Z (Oc (GErr.val_one _ _ _ _) Oz))))) Z ?_)
 rintro _ _ _ - ⟨rfl,rfl,rfl⟩
 refine Ns (qa (Bv true) (Nt (Cr (Tr (Br (WQ.leaveR (true,e,a30,f) (oi h).symm (fun d=> ?_)))))))
 subst d
 have h:=n
 exact Br (Qa (Dr (Qa (Dr (Rf h [[(l, .cells #[(Sv e),(Iv a30),(GV f)] 114 (0,0))],[(m, .cells #[(pt l 0)] 116 (0,0))]] Z (Rs Z Z) g ⟨Z,Z⟩)))))
 refine We (extP xt99 (QbK (show ev _ _=(.iface 0 (.pointer (some k))) from Z)) (ty0 _)) Z ?_
 rintro _ _ _ - ⟨rfl,rfl,rfl⟩
 refine qM (.iface 193 (.agg #[.pointer (some ⟨1,114,none⟩)])) c (We (invE (show ev _ _=(.iface 193 (.agg #[.pointer (some ⟨1,0,none⟩)])) from Z) (QfP (pt 1 0)) Q1C (inv1 Z) QnY) Z ?_)
 rintro _ _ _ - ⟨rfl,rfl,rfl⟩
 refine Nt (WC.condF (b:=false) Z Z (Ck (Tc (Cs (Sr (qM (GV (GErr.other k)) a (qu (.tuple #[.nilIface,(Bv false)]) (asserts (show ev _ _=(.iface 0 (.pointer (some k))) from Z) (Q16 _ _)) (qm (.tuple #[.nilIface,(Bv false)]) (qu .nilIface (Xt Z Z) (qu (Bv false) (Xt Z Z) (qa .nilIface ?_)))))))))))
 refine qa (Bv false) (Ns (qm (Bv false) (qm (Bv false) ?_)))
 iterate 3 refine Of 31 Z Z Z Z ?_
 refine qu (Bv false) (Pf Z Z Z) (Nt (WC.condF (b:=false) Z Z (Ck (Tc (Sr (qM (GV (GErr.other k)) a (Nt (Bk (Sr (qu (.tuple #[.nilIface,(Bv false)]) (asserts (show ev _ _=(.iface 0 (.pointer (some k))) from Z) (QzF _ _)) (qu (Bv false) (Xt Z Z) ?_)))))))))))
 refine qu .nilIface (Xt Z Z) (Nt (WC.condF (b:=false) Z Z (Sr (qu (.tuple #[.nilIface,(Bv false)]) (asserts (show ev _ _=(.iface 0 (.pointer (some k))) from Z) (QzG _ _)) (qu (Bv false) (Xt Z Z) (qu .nilIface (Xt Z Z) (Nt (WC.condF (b:=false) Z Z (Sr (qa (GV (GErr.other k)) (Ns ?_)))))))))))
 refine qa (Bv false) (Nt (Cr (Br (Br (WQ.leaveR (false,a1.Op,a1.At,a1.Err) (oi h).symm (fun d=> ?_))))))
 subst d
 have h:=n
 exact Br (Dr (Rf h [[(l, .cells (l114 a1).toArray 114 (0,0))],[(m, .cells #[(pt l 0)] 116 (0,0))]] Z (Rs Z Z) g ⟨Z,Z⟩))

end Go.Proofs.YtpcbipcdfccnnaaGreatDoor.G
