/- Go functions: what they come to, and that they do. Printed by a program of the session (gen). -/
import Derived.Test.YtpcbipcdfccnnaaGreatDoorPF
import Derived.Test.YtpcbipcdfccnnaaGreatDoorP3
import Derived.Test.YtpcbipcdfccnnaaGreatDoorP5
import Derived.Test.YtpcbipcdfccnnaaGreatDoorKShar2
import Derived.Test.YtpcbipcdfccnnaaGreatDoorKConv
import Derived.Test.YtpcbipcdfccnnaaGreatDoorKMap
import Derived.Test.YtpcbipcdfccnnaaGreatDoorKTight2
set_option linter.unusedVariables false
set_option linter.unusedSimpArgs false
set_option maxHeartbeats 8000000
set_option maxRecDepth 100000
namespace Go.Proofs.YtpcbipcdfccnnaaGreatDoor.G
open Go Go.KK
open PO EO IntKind Sum Tryz

noncomputable def QjC (a0:QaA) (s_:((List Int)×Int)):Option (((List Int)×Int)⊕(List Int)):=
 match s_ with
 |(b,a)=>
 (if(decide (a<(a0.Brokers.length:Int)))=true then(grd (0≤a∧a<a0.Brokers.length) ((((QcG b ((rd a0.Brokers a).Id)).bind fun e=>((QcG e ((rd a0.Brokers a).Epoch)).bind fun f=>((QhK f (bytesOf ((rd a0.Brokers a).Rack))).bind fun g=>(some g)))):Option (List Int)).bind fun i=>((QjW i ((rd a0.Brokers a).Fenced)).bind fun c=>((QjW c ((rd a0.Brokers a).Leaving)).bind fun d=>(some (inl (d,i64.wrap (a+(1:Int)))))))))else(some (inr b)))
noncomputable def QjD (a0:QaA) (b:Int) (s_:((List Int)×Int)):Option (((List Int)×Int)⊕(List Int)):=
 match s_ with
 |(c,a)=>
 (if(decide (a<(((rd a0.Topics b).Parts).length:Int)))=true then(grd (0≤a∧a<((rd a0.Topics b).Parts).length) ((QiT c ((rd ((rd a0.Topics b).Parts) a).Ids)).bind fun d=>((QiT d ((rd ((rd a0.Topics b).Parts) a).Isr)).bind fun e=>((QcG e ((rd ((rd a0.Topics b).Parts) a).Leader)).bind fun f=>((QcG f ((rd ((rd a0.Topics b).Parts) a).Epoch)).bind fun g=>((QiT g ((rd ((rd a0.Topics b).Parts) a).Add)).bind fun i=>((QiT i ((rd ((rd a0.Topics b).Parts) a).Drop)).bind fun j=>(some (inl (j,i64.wrap (a+(1:Int))))))))))))else(some (inr c)))
noncomputable def QjE (a0:QaA) (s_:((List Int)×Int)):Option (((List Int)×Int)⊕(List Int)):=
 match s_ with
 |(b,a)=>
 (if(decide (a<(a0.Topics.length:Int)))=true then(((grd (0≤a∧a<a0.Topics.length) ((((QcG b ((rd a0.Topics a).Id)).bind fun c=>((QhK c (bytesOf ((rd a0.Topics a).Name))).bind fun d=>((QcG d (((rd a0.Topics a).Parts).length:Int)).bind fun e=>(some e)))):Option (List Int)).bind fun f=>((iter (QjD a0 a) (f,(0:Int))).bind (fun(g:(List Int))=>(some g))))):Option (List Int)).bind fun i=>(some (inl (i,i64.wrap (a+(1:Int))))))else(some (inr b)))
noncomputable def QjF (a0:QaA) (s_:((List Int)×Int)):Option (((List Int)×Int)⊕(List Int)):=
 match s_ with
 |(b,a)=>
 (if(decide (a<(a0.Configs.length:Int)))=true then(((grd (0≤a∧a<a0.Configs.length) ((QcG b ((rd a0.Configs a).Topic)).bind fun c=>((QhK c (bytesOf ((rd a0.Configs a).Key))).bind fun d=>((QhK d (bytesOf ((rd a0.Configs a).Value))).bind fun e=>(some e))))):Option (List Int)).bind fun f=>(some (inl (f,i64.wrap (a+(1:Int))))))else(some (inr b)))
noncomputable def QjG (a0:QaA) (s_:((List Int)×Int)):Option (((List Int)×Int)⊕(List Int)):=
 match s_ with
 |(b,a)=>
 (if(decide (a<(a0.Done.length:Int)))=true then(grd (0≤a∧a<a0.Done.length) ((QcG b ((rd a0.Done a).Client)).bind fun c=>((QcG c ((rd a0.Done a).Serial)).bind fun d=>((QcG d ((rd a0.Done a).Code)).bind fun e=>(some (inl (e,i64.wrap (a+(1:Int)))))))))else(some (inr b)))
noncomputable def QiU (a0:QaA):Option ((List Int)×GErr):=
 ((Qc9 a0).bind fun a=>(if(!a.isNil)=true then(some ([],a))else((QcG [] a0.Last).bind fun l=>((QcG l (a0.Brokers.length:Int)).bind fun m=>((((iter (QjC a0) (m,(0:Int))).bind (fun(n:(List Int))=>(some n))):Option (List Int)).bind fun o=>((QcG o (a0.Topics.length:Int)).bind fun b=>((((iter (QjE a0) (b,(0:Int))).bind (fun(c:(List Int))=>(some c))):Option (List Int)).bind fun d=>((QcG d (a0.Configs.length:Int)).bind fun e=>((((iter (QjF a0) (e,(0:Int))).bind (fun(f:(List Int))=>(some f))):Option (List Int)).bind fun g=>((QcG g (a0.Done.length:Int)).bind fun i=>((((iter (QjG a0) (i,(0:Int))).bind (fun(j:(List Int))=>(some j))):Option (List Int)).bind fun k=>(some (k,GErr.nil)))))))))))))
def QuY (a0:QaA) (c d e f:Value):((List Int)×GErr)→Value→IM→HL→Prop:=
 fun(p_:((List Int)×GErr)) (v:Value) (M':IM) (H':HL)=>match p_ with |(g,i)=>∃ a b,(.tuple #[a,(GV i)])=v∧H'=[b]∧OwnS (Kd.int .u8) M' a g b
theorem Qq2 (a0:QaA) (M:IM) (j f k l:Value) (t:RS QaD M j a0.Brokers) (B:RS QaG M f a0.Topics) (C:RS QaF M k a0.Configs) (D:RS QaI M l a0.Done) (res:((List Int)×GErr)) (h:QiU a0=some res):
 Tri prog 11 #[(a27_ a0 j f k l)] M [] (QuY a0 j f k l res):=by
 unfold QiU at h
 refine Te func11 Z Z ?_
 intro F ρ hρ
 refine Sr (We (box (cs:=(l27 a0 j f k l).toArray) (congrArg Value.cells (asE (a27_ a0 j f k l) (hρ 0)))) Z ?_)
 rintro _ _ _ - ⟨rfl,m,rfl,rfl⟩
 refine qa Zs (qa (GV GErr.nil) (Nt (Cs (Sr (qu (a27_ a0 j f k l) (La (cs:=(l27 a0 j f k l)) 0 ag27 sz27 Z Z Z) ?_)))))
 obtain ⟨m5,S3,h⟩:=bnd h
 refine We (Ca co9 (QjB a0 _ _ _ _ _ t B C D m5 S3) (QbK Z)) Z ?_
 rintro _ cU _ g1 ⟨_,⟨rfl,rfl⟩,rfl⟩
 refine WL.a0 (qa (GV m5) (Ns (qm (GV m5) (qu (Bv (!m5.isNil)) (errNotNil underlying32 Z) (Nt (Ch h Z (fun S4 h=> ?_) (fun S4 h=> ?_)))))))
 exact Sr (qm (GV m5) (qa Zs (qa (GV m5) (Nt (Cr (Tr (WQ.e0 (Qa (Dr (Rf h [[]] Z (QgZ Z Z Z) g1 ⟨Zs,[],Z,Z,(OwnS.nil _ _)⟩))))))))))
 refine Ck (Tc (Cs (WC.draw [0,1,3,0,8,24,63,127] (.pure 0 (.pure 1 (.pure 3 (.pure 4 (.pure 5 (.alt 2 (.alt 6 (.pure 7 .done) .none) .none)))))) QdC (by kernel_rfl) (qt (pt m 4) Z (Fa QmS Z Z) (qt (Iv a0.Last) Z (Lb 0 pl3 Z Z Z) (qt (pt m 0) Z (Fa QdN Z Z) (qt j Z (Lb 0 pl22 Z Z Z) ?_)))))))
 have t:=t.mono g1
 refine qt (Iv (a0.Brokers.length:Int)) Z (lenS underlying22 Z t.len) ?_
 obtain ⟨S5,S6,h⟩:=bnd h
 refine WT.e0 (Ta Z (Cb co32 (Qa6 [] a0.Last _ _ _ (OwnS.nil _ _) S5 S6) (QaU Z Z)) Z ?_ ?_)
 rintro _ cV _ n2 ⟨_,⟨bo,bp,rfl,rfl,S7⟩,rfl⟩
 have t:=t.mono n2
 refine⟨(Ss Z (lenS underlying22 Z t.len) Z (Ss Z (Lb 1 pl22 Z Z Z) Z (Ss Z (Fa QdN Z Z) Z (Sl Z)))), ?_⟩
 refine WT.a1 ?_
 obtain ⟨Z9,S8,h⟩:=bnd h
 refine Ta Z (Cb co32 (Qa6 S5 (a0.Brokers.length:Int) _ _ _ S7 Z9 S8) (QaU Z Z)) Z ?_ ?_
 rintro _ S9 _ n3 ⟨_,⟨x9,T0,rfl,rfl,T1⟩,rfl⟩
 have aa:=(g1.trans n2).trans n3
 refine⟨(Sl Z), ?_⟩
 refine WT.a1 (qt x9 Z (Ag Z) (Ti (Tc ?_)))
 obtain ⟨t6,T2,h⟩:=bnd h
 refine Jf (fun(t6:(List Int)) ρ' M' H'=>∃ j0 n4,S9.le M'∧[(m, .cells (l27 a0 j f k l).toArray 27 (0,0))]::n4::F=H'∧ρ' 1=(pt m 0)∧ρ' 5=j0∧OwnS (Kd.int .u8) M' j0 t6 n4) t6 ?_ ?_
 have h:=T2
 refine Sr (qu (pt m 0) (Fa QdN Z Z) (qu j (Lb 1 pl22 Z Z Z) ?_))
 have t:=t.mono n3
 refine qu (Iv (a0.Brokers.length:Int)) (lenS underlying22 Z t.len) (qm (Iv 0) (Nt (Bk (WC.f1 ?_))))
 obtain ⟨cW,T3,T4⟩:=bnd h
 clear h
 refine WC.loop T3 (fun(p_:((List Int)×Int)) ρ' M' H'=>match p_ with |(n5,r)=>∃ f4 j1,S9.le M'∧[(m, .cells (l27 a0 j f k l).toArray 27 (0,0))]::j1::F=H'∧ρ' 1=(pt m 0)∧ρ' 5=f4∧ρ' 29=j∧ρ' 30=(Iv (a0.Brokers.length:Int))∧ρ' 31=(Iv r)∧OwnS (Kd.int .u8) M' f4 n5 j1) ?_ ?_
 exact⟨x9,T0,lr,Z,Z,Z,Z,Z,Z,T1⟩
 rintro ⟨n5,r⟩ cX cY ab cZ h ⟨f4,j1,g2,rfl,X,I,J,K,z,n6⟩
 unfold QjC at h
 refine Sr (qu (Bv (decide (r<(a0.Brokers.length:Int)))) (lss z K) (Nt (Cs (Ch h Z (fun T5 h=> ?_) (fun T5 h=> ?_)))))
 refine Ck (Tc (Cs (Bk (Sr ?_))))
 obtain ⟨j2,h⟩:=QaQ h
 have t:=t.mono g2
 obtain ⟨ac,bq,C2,C3,hhas52⟩:=t.at j2.1 j2.2 (by decide)
 obtain rfl:=Qa2 C3
 refine qu (.pointer (some ac)) (indexAddr (n:=a0.Brokers.length) underlying22 sz71 J z j2.1 j2.2 C2) (qu (a71_ (rd a0.Brokers r)) (loadMA (cs:=(l71 (rd a0.Brokers r))) ag71 sz71 Z hhas52) (We (Al ze71 Z) Z ?_))
 rintro _ _ _ - ⟨rfl,g3,rfl,rfl⟩
 refine We (Sg (v:=(a71_ (rd a0.Brokers r))) (vl:=(l71 (rd a0.Brokers r))) (arr':=(l71 (rd a0.Brokers r))) Z sz71 Z Z (onb Z) Z Z Z) Z ?_
 rintro _ _ _ - ⟨rfl,rfl⟩
 refine Nt ?_
 obtain ⟨t7,T6,h⟩:=bnd h
 refine Jf (fun(t7:(List Int)) ρ' M' H'=>∃ j3 n7,ab.le M'∧[(g3, .cells (l71 (rd a0.Brokers r)).toArray 71 (0,0))]::[(m, .cells (l27 a0 j f k l).toArray 27 (0,0))]::n7::F=H'∧ρ' 1=(pt m 0)∧ρ' 5=j3∧ρ' 7=(pt g3 0)∧ρ' 29=j∧ρ' 30=(Iv (a0.Brokers.length:Int))∧ρ' 31=(Iv r)∧OwnS (Kd.int .u8) M' j3 t7 n7) t7 ?_ ?_
 have h:=T6
 refine WC.draw [0,0,2,7,0,16,63,0,128,384,1023,2047] (.pure 0 (.pure 1 (.pure 2 (.pure 4 (.pure 5 (.pure 7 (.pure 8 (.alt 3 (.alt 6 (.alt 9 (.alt 10 (.alt 11 .done .none) .none) .none) (.alt 9 (.alt 6 (.alt 10 (.alt 11 .done .none) .none) .none) .none)) (.alt 9 (.alt 3 (.alt 6 (.alt 10 (.alt 11 .done .none) .none) .none) .none) .none))))))))) QdC (by kernel_rfl) (qt f4 Z (Mv I) (qt (pt g3 0) Z (Fa QhQ Z Z) (qt (Iv ((rd a0.Brokers r).Id)) Z (Lb 0 pl3 Z Z Z) (qt (pt g3 1) Z (Fa QmU Z Z) (qt (Iv ((rd a0.Brokers r).Epoch)) Z (Lb 0 pl3 Z Z Z) (qt (pt g3 2) Z (Fa QpG Z Z) (qt (Sv ((rd a0.Brokers r).Rack)) Z (Lb 0 pl9 Z Z Z) ?_)))))))
 have T7:=h
 obtain ⟨C4,T8,h⟩:=bnd h
 refine WT.f2 (Ta Z (Cb co32 (Qa6 n5 ((rd a0.Brokers r).Id) _ _ _ n6 C4 T8) (QaU Z Z)) Z ?_ ?_)
 rintro _ da _ n8 ⟨_,⟨br,bs,rfl,rfl,y0⟩,rfl⟩
 refine⟨(Ss Z (Lb 1 pl9 Z Z Z) Z (Ss Z (Fa QpG Z Z) Z (Ss Z (Lb 1 pl3 Z Z Z) Z (Ss Z (Fa QmU Z Z) Z (Sl Z))))), ?_⟩
 refine WT.a1 ?_
 have T9:=h
 obtain ⟨U0,U1,h⟩:=bnd h
 refine Ta Z (Cb co32 (Qa6 C4 ((rd a0.Brokers r).Epoch) _ _ _ y0 U0 U1) (QaU Z Z)) Z ?_ ?_
 rintro _ db _ C5 ⟨_,⟨bt,bu,rfl,rfl,U2⟩,rfl⟩
 refine⟨(Ss Z (Lb 1 pl9 Z Z Z) Z (Ss Z (Fa QpG Z Z) Z (Sl Z))), ?_⟩
 refine WT.a1 (Ta Z (s2b underlying9 underlying38 underlying5 Z) Z ?_ ?_)
 rintro dc _ _ - ⟨rfl,ad,rfl,U3⟩
 refine⟨(Sk 2 Z (Ss Z (Lb 2 pl3 Z Z Z) Z (Ss Z (Fa QmU Z Z) Z (Ss Z (Lb 2 pl3 Z Z Z) Z (Ss Z (Fa QhQ Z Z) Z (Ss Z (Mv I) Z trivial)))))), ?_⟩
 obtain ⟨U4,U5,h⟩:=bnd h
 refine WT.f1 (WT.f1 (Ta Z (EO.call2 co33 (Tri.lend U3.excl fun w0_ H0_ hs0_=>(QbC U0 (bytesOf ((rd a0.Brokers r).Rack)) _ _ _ _ (U2.mono (IM.le_add _ _)) (U3.rs hs0_) U4 U5)) (QaU Z Z)) Z ?_ ?_))
 rintro _ _ _ C6 ⟨_,⟨U6,bv,ae,rfl,rfl,⟨y1,y2,rfl,rfl,n9⟩⟩,rfl⟩
 have n9:OwnS (Kd.int .u8) (U6.minus ad) y1 U4 y2:=n9.any (Kd.int_flat _)
 refine⟨(Sl Z), ?_⟩
 refine WT.a2 (Ta Z ((Ag Z).eo) Z ?_ ?_)
 rintro _ _ _ - ⟨rfl,rfl,rfl⟩
 refine⟨(Sl Z), ?_⟩
 refine Ti (Dr (Qb (Qb ?_)))
 obtain rfl:=oi h
 exact Tj ⟨y1,y2,((n8.trans C5).trans C6),Z,X,Z,Z,J,K,z,n9⟩
 exact Tz
 exact Tz
 exact Tz
 have h:=T9
 refine Ta Z (s2b underlying9 underlying38 underlying5 Z) Z ?_ ?_
 rintro dd _ _ - ⟨rfl,af,rfl,t8⟩
 refine⟨(Sk 2 Z (Ss Z (Lb 2 pl3 Z Z Z) Z (Ss Z (Fa QmU Z Z) Z (Ss Z (Lb 2 pl3 Z Z Z) Z (Ss Z (Fa QhQ Z Z) Z (Ss Z (Mv I) Z trivial)))))), ?_⟩
 obtain ⟨U7,U8,h⟩:=bnd h
 refine WT.f1 (Ta Z (Cb co32 (Qa6 C4 ((rd a0.Brokers r).Epoch) _ _ _ y0 U7 U8) (QaU Z Z)) Z ?_ ?_)
 rintro _ de _ o0 ⟨_,⟨bw,bx,rfl,rfl,U9⟩,rfl⟩
 refine⟨(Ss Z (Lb 2 pl9 Z Z Z) Z (Ss Z (Fa QpG Z Z) Z (Sl Z))), ?_⟩
 refine WT.a1 ?_
 obtain ⟨V0,V1,h⟩:=bnd h
 refine WT.f1 ?_
 have t8:=t8.mono o0
 refine Ta Z (EO.call2 co33 (Tri.lend t8.excl fun w0_ H0_ hs0_=>(QbC U7 (bytesOf ((rd a0.Brokers r).Rack)) _ _ _ _ (U9.mono (IM.le_add _ _)) (t8.rs hs0_) V0 V1)) (QaU Z Z)) Z ?_ ?_
 rintro _ _ _ C7 ⟨_,⟨V2,bz,ag,rfl,rfl,⟨y3,y4,rfl,rfl,o1⟩⟩,rfl⟩
 have o1:OwnS (Kd.int .u8) (V2.minus af) y3 V0 y4:=o1.any (Kd.int_flat _)
 refine⟨(Sl Z), ?_⟩
 refine WT.a2 (Ta Z ((Ag Z).eo) Z ?_ ?_)
 rintro _ _ _ - ⟨rfl,rfl,rfl⟩
 refine⟨(Sl Z), ?_⟩
 refine Ti (Dr (Qb (Qb ?_)))
 obtain rfl:=oi h
 exact Tj ⟨y3,y4,((n8.trans o0).trans C7),Z,X,Z,Z,J,K,z,o1⟩
 exact Tz
 exact Tz
 exact Tz
 exact Tz
 have h:=T7
 refine Ta Z (s2b underlying9 underlying38 underlying5 Z) Z ?_ ?_
 rintro df _ _ - ⟨rfl,ah,rfl,t9⟩
 refine⟨(Sk 2 Z (Ss Z (Lb 2 pl3 Z Z Z) Z (Ss Z (Fa QmU Z Z) Z (Ss Z (Lb 2 pl3 Z Z Z) Z (Ss Z (Fa QhQ Z Z) Z (Ss Z (Mv I) Z trivial)))))), ?_⟩
 obtain ⟨V3,C8,h⟩:=bnd h
 refine WT.f1 (Ta Z (Cb co32 (Qa6 n5 ((rd a0.Brokers r).Id) _ _ _ n6 V3 C8) (QaU Z Z)) Z ?_ ?_)
 rintro _ bA _ j4 ⟨_,⟨ai,aj,rfl,rfl,C9⟩,rfl⟩
 refine⟨(Ss Z (Lb 2 pl9 Z Z Z) Z (Ss Z (Fa QpG Z Z) Z (Ss Z (Lb 2 pl3 Z Z Z) Z (Ss Z (Fa QmU Z Z) Z (Sl Z))))), ?_⟩
 refine WT.a1 ?_
 obtain ⟨y5,D0,h⟩:=bnd h
 refine Ta Z (Cb co32 (Qa6 V3 ((rd a0.Brokers r).Epoch) _ _ _ C9 y5 D0) (QaU Z Z)) Z ?_ ?_
 rintro _ bB _ j5 ⟨_,⟨ak,al,rfl,rfl,D1⟩,rfl⟩
 refine⟨(Ss Z (Lb 2 pl9 Z Z Z) Z (Ss Z (Fa QpG Z Z) Z (Sl Z))), ?_⟩
 refine WT.a1 ?_
 obtain ⟨y6,D2,h⟩:=bnd h
 refine WT.f1 ?_
 have t9:=t9.mono (j4.trans j5)
 refine Ta Z (EO.call2 co33 (Tri.lend t9.excl fun w0_ H0_ hs0_=>(QbC y5 (bytesOf ((rd a0.Brokers r).Rack)) _ _ _ _ (D1.mono (IM.le_add _ _)) (t9.rs hs0_) y6 D2)) (QaU Z Z)) Z ?_ ?_
 rintro _ _ _ u0 ⟨_,⟨D3,am,Y0,rfl,rfl,⟨o2,o3,rfl,rfl,g4⟩⟩,rfl⟩
 have g4:OwnS (Kd.int .u8) (D3.minus ah) o2 y6 o3:=g4.any (Kd.int_flat _)
 refine⟨(Sl Z), ?_⟩
 refine WT.a2 (Ta Z ((Ag Z).eo) Z ?_ ?_)
 rintro _ _ _ - ⟨rfl,rfl,rfl⟩
 refine⟨(Sl Z), ?_⟩
 refine Ti (Dr (Qb (Qb ?_)))
 obtain rfl:=oi h
 exact Tj ⟨o2,o3,((j4.trans j5).trans u0),Z,X,Z,Z,J,K,z,g4⟩
 exact Tz
 exact Tz
 exact Tz
 exact Tz
 exact Tz
 rintro dg dh di ⟨j3,n7,D4,rfl,u1,u2,b9,o4,o5,o6,V4⟩
 refine WC.draw [0,0,2,7,0,16,63,127] (.pure 0 (.pure 1 (.pure 2 (.pure 4 (.pure 5 (.alt 3 (.alt 6 (.alt 7 .done .none) .none) .none)))))) QdC (by kernel_rfl) (qt j3 Z (Mv u2) (qt (pt g3 3) Z (Fa QnX b9 Z) (qt (Bv ((rd a0.Brokers r).Fenced)) Z (Lb 0 pl4 Z Z Z) (qt (pt g3 4) Z (Fa Qs5 b9 Z) (qt (Bv ((rd a0.Brokers r).Leaving)) Z (Lb 0 pl4 Z Z Z) ?_)))))
 obtain ⟨y7,D5,h⟩:=bnd h
 refine WT.f2 (Ta Z (Cb co34 (QpB t7 ((rd a0.Brokers r).Fenced) _ _ _ V4 y7 D5) (QaU Z Z)) Z ?_ ?_)
 rintro _ bC _ u3 ⟨_,⟨an,ao,rfl,rfl,D6⟩,rfl⟩
 refine⟨(Ss Z (Lb 1 pl4 Z Z Z) Z (Ss Z (Fa Qs5 b9 Z) Z (Sl Z))), ?_⟩
 refine WT.a1 ?_
 obtain ⟨y8,D7,h⟩:=bnd h
 refine Ta Z (Cb co34 (QpB y7 ((rd a0.Brokers r).Leaving) _ _ _ D6 y8 D7) (QaU Z Z)) Z ?_ ?_
 rintro _ bD _ u4 ⟨_,⟨D8,D9,rfl,rfl,E0⟩,rfl⟩
 refine⟨(Sl Z), ?_⟩
 refine WT.a1 (Ta Z ((Ag Z).eo) Z ?_ ?_)
 rintro _ _ _ - ⟨rfl,rfl,rfl⟩
 refine⟨(Sl Z), ?_⟩
 exact Ti (Bn (Tc (Cg (qu (Iv (i64.wrap (r+1))) (add o6 Z) (qm (Iv (i64.wrap (r+1))) (Wz (Qa (Dr (Qa (WQ.again (y8,i64.wrap (r+1)) (oi h).symm ⟨D8,D9,(((g2.trans D4).trans u3).trans u4),Z,u1,Z,o4,o5,Z,E0⟩))))))))))
 exact Tz
 exact Tz
 exact Tz
 refine WC.exit (WQ.thenE (WQ.leaveE n5 (oi h).symm (fun E1=> ?_)))
 subst E1
 have h:=T4
 refine WQ.blockH ?_
 obtain rfl:=oi h
 exact Tj ⟨f4,j1,g2,Z,X,I,n6⟩
 rintro dj dk dl ⟨j0,n4,E2,rfl,c0,u5,V5⟩
 have V6:=aa.trans E2
 refine Sr (qM j0 u5 (qu (pt m 1) (Fa QbW c0 Z) (qu f (Lb 0 pl23 Z Z Z) ?_)))
 have B:=B.mono V6
 refine qu (Iv (a0.Topics.length:Int)) (lenS underlying23 Z B.len) ?_
 obtain ⟨V7,E3,h⟩:=bnd h
 refine WL.f1 (We (Cb co32 (Qa6 t6 (a0.Topics.length:Int) _ _ _ V5 V7 E3) (QaU Z Z)) Z ?_)
 rintro _ y9 _ j6 ⟨_,⟨o7,E4,rfl,rfl,E5⟩,rfl⟩
 have V8:=V6.trans j6
 refine WL.a1 (qa o7 (Nt ?_))
 obtain ⟨j7,E6,h⟩:=bnd h
 refine Jf (fun(j7:(List Int)) ρ' M' H'=>∃ c1 g5,y9.le M'∧[(m, .cells (l27 a0 j f k l).toArray 27 (0,0))]::g5::F=H'∧ρ' 1=(pt m 0)∧ρ' 5=c1∧OwnS (Kd.int .u8) M' c1 j7 g5) j7 ?_ ?_
 have h:=E6
 refine Sr (qu (pt m 1) (Fa QbW c0 Z) (qu f (Lb 1 pl23 Z Z Z) ?_))
 have B:=B.mono j6
 refine qu (Iv (a0.Topics.length:Int)) (lenS underlying23 Z B.len) (qm (Iv 0) (Nt (Bk (WC.f1 ?_))))
 obtain ⟨bE,E7,E8⟩:=bnd h
 clear h
 refine WC.loop E7 (fun(p_:((List Int)×Int)) ρ' M' H'=>match p_ with |(f5,b)=>∃ a3 c2,y9.le M'∧[(m, .cells (l27 a0 j f k l).toArray 27 (0,0))]::c2::F=H'∧ρ' 1=(pt m 0)∧ρ' 5=a3∧ρ' 60=f∧ρ' 61=(Iv (a0.Topics.length:Int))∧ρ' 62=(Iv b)∧OwnS (Kd.int .u8) M' a3 f5 c2) ?_ ?_
 exact⟨o7,E4,lr,Z,c0,Z,Z,Z,Z,E5⟩
 rintro ⟨f5,b⟩ bF bG z0 bH h ⟨a3,c2,c3,rfl,a4,L,Q,R,A,g6⟩
 unfold QjE at h
 refine Sr (qu (Bv (decide (b<(a0.Topics.length:Int)))) (lss A R) (Nt (Cs (Ch h Z (fun E9 h=> ?_) (fun E9 h=> ?_)))))
 refine Ck (Tc ?_)
 obtain ⟨j8,F0,h⟩:=bnd h
 refine Jf (fun(j8:(List Int)) ρ' M' H'=>∃ c4 c5,z0.le M'∧[(m, .cells (l27 a0 j f k l).toArray 27 (0,0))]::c5::F=H'∧ρ' 1=(pt m 0)∧ρ' 5=c4∧ρ' 60=f∧ρ' 61=(Iv (a0.Topics.length:Int))∧ρ' 62=(Iv b)∧OwnS (Kd.int .u8) M' c4 j8 c5) j8 ?_ ?_
 have h:=F0
 refine Bk (Sr ?_)
 obtain ⟨c6,h⟩:=QaQ h
 have B:=B.mono c3
 obtain ⟨V9,ap,u6,u7,hhas146⟩:=B.at c6.1 c6.2 (by decide)
 obtain ⟨o,rfl,a⟩:=QaN u7
 refine qu (.pointer (some V9)) (indexAddr (n:=a0.Topics.length) underlying23 sz55 Q A c6.1 c6.2 u6) (qu (a55_ (rd a0.Topics b) o) (loadMA (cs:=(l55 (rd a0.Topics b) o)) ag55 sz55 Z hhas146) (We (Al ze55 Z) Z ?_))
 rintro _ _ _ - ⟨rfl,a5,rfl,rfl⟩
 refine We (Sg (v:=(a55_ (rd a0.Topics b) o)) (vl:=(l55 (rd a0.Topics b) o)) (arr':=(l55 (rd a0.Topics b) o)) Z sz55 Z Z (QbG (Oc Z (Oc Z (Oc (RS.one a) Oz)))) Z Z Z) Z ?_
 rintro _ _ _ - ⟨rfl,rfl⟩
 refine Nt ?_
 obtain ⟨o8,F1,h⟩:=bnd h
 refine Jf (fun(o8:(List Int)) ρ' M' H'=>∃ c7 c8,z0.le M'∧[(a5, .cells (l55 (rd a0.Topics b) o).toArray 55 (0,0))]::[(m, .cells (l27 a0 j f k l).toArray 27 (0,0))]::c8::F=H'∧ρ' 1=(pt m 0)∧ρ' 5=c7∧ρ' 9=(pt a5 0)∧ρ' 60=f∧ρ' 61=(Iv (a0.Topics.length:Int))∧ρ' 62=(Iv b)∧OwnS (Kd.int .u8) M' c7 o8 c8) o8 ?_ ?_
 have h:=F1
 refine WC.draw [0,0,2,7,0,16,48,127,0,256,768,2047,4095] (.pure 0 (.pure 1 (.pure 2 (.pure 4 (.pure 5 (.pure 8 (.pure 9 (.pure 10 (.alt 3 (.alt 6 (.alt 7 (.alt 11 (.alt 12 .done .none) .none) .none) .none) (.alt 6 (.alt 3 (.alt 7 (.alt 11 (.alt 12 .done .none) .none) .none) .none) .none)))))))))) QdC (by kernel_rfl) (qt a3 Z (Mv L) (qt (pt a5 0) Z (Fa Qk0 Z Z) (qt (Iv ((rd a0.Topics b).Id)) Z (Lb 0 pl3 Z Z Z) (qt (pt a5 1) Z (Fa QlP Z Z) (qt (Sv ((rd a0.Topics b).Name)) Z (Lb 0 pl9 Z Z Z) (qt (pt a5 2) Z (Fa QdB Z Z) (qt o Z (Lb 0 pl53 Z Z Z) (qt (Iv (((rd a0.Topics b).Parts).length:Int)) Z (lenS underlying53 Z a.len) ?_))))))))
 have F2:=h
 obtain ⟨z1,F3,h⟩:=bnd h
 refine WT.f2 (Ta Z (Cb co32 (Qa6 f5 ((rd a0.Topics b).Id) _ _ _ g6 z1 F3) (QaU Z Z)) Z ?_ ?_)
 rintro _ bI _ j9 ⟨_,⟨aq,ar,rfl,rfl,F4⟩,rfl⟩
 have a:=a.mono j9
 refine⟨(Ss Z (lenS underlying53 Z a.len) Z (Ss Z (Lb 1 pl53 Z Z Z) Z (Ss Z (Fa QdB Z Z) Z (Ss Z (Lb 1 pl9 Z Z Z) Z (Ss Z (Fa QlP Z Z) Z (Sl Z)))))), ?_⟩
 refine WT.a1 (Ta Z (s2b underlying9 underlying38 underlying5 Z) Z ?_ ?_)
 rintro bJ _ _ - ⟨rfl,W0,rfl,z2⟩
 refine⟨(Ss Z (lenS underlying53 Z a.len) Z (Ss Z (Lb 2 pl53 Z Z Z) Z (Ss Z (Fa QdB Z Z) Z (Sk 2 Z (Ss Z (Lb 2 pl3 Z Z Z) Z (Ss Z (Fa Qk0 Z Z) Z (Ss Z (Mv L) Z trivial))))))), ?_⟩
 obtain ⟨o9,F5,h⟩:=bnd h
 refine WT.f1 (WT.f1 (Ta Z (EO.call2 co33 (Tri.lend z2.excl fun w0_ H0_ hs0_=>(QbC z1 (bytesOf ((rd a0.Topics b).Name)) _ _ _ _ (F4.mono (IM.le_add _ _)) (z2.rs hs0_) o9 F5)) (QaU Z Z)) Z ?_ ?_))
 rintro _ _ _ k0 ⟨_,⟨F6,au,Y1,rfl,rfl,⟨F7,F8,rfl,rfl,g7⟩⟩,rfl⟩
 have g7:OwnS (Kd.int .u8) (F6.minus W0) F7 o9 F8:=g7.any (Kd.int_flat _)
 have a:=a.mono k0
 refine⟨(Ss Z (lenS underlying53 Z a.len) Z (Ss Z (Lb 2 pl53 Z Z Z) Z (Ss Z (Fa QdB Z Z) Z (Sl Z)))), ?_⟩
 refine WT.a2 ?_
 obtain ⟨W1,F9,h⟩:=bnd h
 refine WT.f1 (Ta Z (Cb co32 (Qa6 o9 (((rd a0.Topics b).Parts).length:Int) _ _ _ g7 W1 F9) (QaU Z Z)) Z ?_ ?_)
 rintro _ bK _ u9 ⟨_,⟨G0,G1,rfl,rfl,G2⟩,rfl⟩
 refine⟨(Sl Z), ?_⟩
 refine WT.a1 (Ta Z ((Ag Z).eo) Z ?_ ?_)
 rintro _ _ _ - ⟨rfl,rfl,rfl⟩
 refine⟨(Sl Z), ?_⟩
 refine Ti (Qa (Dr (Qb (Qb ?_))))
 obtain rfl:=oi h
 exact Tj ⟨G0,G1,((j9.trans k0).trans u9),Z,a4,Z,Z,Q,R,A,G2⟩
 exact Tz
 exact Tz
 exact Tz
 exact Tz
 have h:=F2
 refine Ta Z (s2b underlying9 underlying38 underlying5 Z) Z ?_ ?_
 rintro bL _ _ - ⟨rfl,W2,rfl,k1⟩
 refine⟨(Ss Z (lenS underlying53 Z a.len) Z (Ss Z (Lb 2 pl53 Z Z Z) Z (Ss Z (Fa QdB Z Z) Z (Sk 2 Z (Ss Z (Lb 2 pl3 Z Z Z) Z (Ss Z (Fa Qk0 Z Z) Z (Ss Z (Mv L) Z trivial))))))), ?_⟩
 obtain ⟨z3,G3,h⟩:=bnd h
 refine WT.f1 (Ta Z (Cb co32 (Qa6 f5 ((rd a0.Topics b).Id) _ _ _ g6 z3 G3) (QaU Z Z)) Z ?_ ?_)
 rintro _ bM _ c9 ⟨_,⟨av,aw,rfl,rfl,G4⟩,rfl⟩
 have a:=a.mono c9
 refine⟨(Ss Z (lenS underlying53 Z a.len) Z (Ss Z (Lb 2 pl53 Z Z Z) Z (Ss Z (Fa QdB Z Z) Z (Ss Z (Lb 2 pl9 Z Z Z) Z (Ss Z (Fa QlP Z Z) Z (Sl Z)))))), ?_⟩
 refine WT.a1 ?_
 obtain ⟨p0,G5,h⟩:=bnd h
 refine WT.f1 ?_
 have k1:=k1.mono c9
 refine Ta Z (EO.call2 co33 (Tri.lend k1.excl fun w0_ H0_ hs0_=>(QbC z3 (bytesOf ((rd a0.Topics b).Name)) _ _ _ _ (G4.mono (IM.le_add _ _)) (k1.rs hs0_) p0 G5)) (QaU Z Z)) Z ?_ ?_
 rintro _ _ _ k2 ⟨_,⟨G6,ax,Y2,rfl,rfl,⟨G7,G8,rfl,rfl,g8⟩⟩,rfl⟩
 have g8:OwnS (Kd.int .u8) (G6.minus W2) G7 p0 G8:=g8.any (Kd.int_flat _)
 have a:=a.mono k2
 refine⟨(Ss Z (lenS underlying53 Z a.len) Z (Ss Z (Lb 2 pl53 Z Z Z) Z (Ss Z (Fa QdB Z Z) Z (Sl Z)))), ?_⟩
 refine WT.a2 ?_
 obtain ⟨W3,G9,h⟩:=bnd h
 refine WT.f1 (Ta Z (Cb co32 (Qa6 p0 (((rd a0.Topics b).Parts).length:Int) _ _ _ g8 W3 G9) (QaU Z Z)) Z ?_ ?_)
 rintro _ bN _ v0 ⟨_,⟨H0,H1,rfl,rfl,H2⟩,rfl⟩
 refine⟨(Sl Z), ?_⟩
 refine WT.a1 (Ta Z ((Ag Z).eo) Z ?_ ?_)
 rintro _ _ _ - ⟨rfl,rfl,rfl⟩
 refine⟨(Sl Z), ?_⟩
 refine Ti (Qa (Dr (Qb (Qb ?_))))
 obtain rfl:=oi h
 exact Tj ⟨H0,H1,((c9.trans k2).trans v0),Z,a4,Z,Z,Q,R,A,H2⟩
 exact Tz
 exact Tz
 exact Tz
 exact Tz
 exact Tz
 rintro bO W4 bP ⟨c7,c8,k3,rfl,p1,p2,p3,m6,m7,m8,H3⟩
 refine Sr (qu (pt a5 2) (Fa QdB p3 Z) (qu o (Lb 0 pl53 Z Z Z) ?_))
 have a:=a.mono k3
 refine qu (Iv (((rd a0.Topics b).Parts).length:Int)) (lenS underlying53 Z a.len) (qm (Iv 0) (Nt (Bk ?_)))
 obtain ⟨bQ,H4,H5⟩:=bnd h
 clear h
 refine WC.loop H4 (fun(p_:((List Int)×Int)) ρ' M' H'=>match p_ with |(k4,p)=>∃ a6 d0,W4.le M'∧[(a5, .cells (l55 (rd a0.Topics b) o).toArray 55 (0,0))]::[(m, .cells (l27 a0 j f k l).toArray 27 (0,0))]::d0::F=H'∧ρ' 1=(pt m 0)∧ρ' 5=a6∧ρ' 60=f∧ρ' 61=(Iv (a0.Topics.length:Int))∧ρ' 62=(Iv b)∧ρ' 79=o∧ρ' 80=(Iv (((rd a0.Topics b).Parts).length:Int))∧ρ' 81=(Iv p)∧OwnS (Kd.int .u8) M' a6 k4 d0) ?_ ?_
 exact⟨c7,c8,lr,Z,p1,p2,m6,m7,m8,Z,Z,Z,H3⟩
 rintro ⟨k4,p⟩ bR bS bT bU h ⟨a6,d0,d1,rfl,f6,f7,b3,b4,b5,b6,b7,S,p4⟩
 unfold QjD at h
 refine Sr (qu (Bv (decide (p<(((rd a0.Topics b).Parts).length:Int)))) (lss S b7) (Nt (Cs (Ch h Z (fun H6 h=> ?_) (fun H6 h=> ?_)))))
 refine Ck (Tc (Cs (Bk (Sr ?_))))
 obtain ⟨d2,h⟩:=QaQ h
 have a:=a.mono d1
 obtain ⟨W5,ay,v1,v2,hhas204⟩:=a.at d2.1 d2.2 (by decide)
 obtain ⟨u,w,x,y,rfl,f8,N,O,P⟩:=Qb7 v2
 refine qu (.pointer (some W5)) (indexAddr (n:=((rd a0.Topics b).Parts).length) underlying53 sz58 b6 S d2.1 d2.2 v1) (qu (a58_ (rd ((rd a0.Topics b).Parts) p) u w x y) (loadMA (cs:=(l58 (rd ((rd a0.Topics b).Parts) p) u w x y)) ag58 sz58 Z hhas204) (We (Al ze58 Z) Z ?_))
 rintro _ _ _ - ⟨rfl,b8,rfl,rfl⟩
 refine We (Sg (v:=(a58_ (rd ((rd a0.Topics b).Parts) p) u w x y)) (vl:=(l58 (rd ((rd a0.Topics b).Parts) p) u w x y)) (arr':=(l58 (rd ((rd a0.Topics b).Parts) p) u w x y)) Z sz58 Z Z (QbG (Oc (RS.one f8) (Oc (RS.one N) (Oc Z (Oc Z (Oc (RS.one O) (Oc (RS.one P) Oz))))))) Z Z Z) Z ?_
 rintro _ _ _ - ⟨rfl,rfl⟩
 refine Nt (Cs (WC.draw [0,0,2,7,0,16,63,0,128,511,0,1024,4095,8191] (.pure 0 (.pure 1 (.pure 2 (.pure 4 (.pure 5 (.pure 7 (.pure 8 (.pure 10 (.pure 11 (.alt 3 (.alt 6 (.alt 9 (.alt 12 (.alt 13 .done .none) .none) .none) .none) .none)))))))))) QdC (by kernel_rfl) (qt a6 Z (Mv f7) (qt (pt b8 0) Z (Fa QiE Z Z) (qt u Z (Lb 0 pl56 Z Z Z) (qt (pt b8 1) Z (Fa QlJ Z Z) (qt w Z (Lb 0 pl56 Z Z Z) (qt (pt b8 2) Z (Fa Qk1 Z Z) (qt (Iv ((rd ((rd a0.Topics b).Parts) p).Leader)) Z (Lb 0 pl3 Z Z Z) (qt (pt b8 3) Z (Fa Ql6 Z Z) (qt (Iv ((rd ((rd a0.Topics b).Parts) p).Epoch)) Z (Lb 0 pl3 Z Z Z) ?_)))))))))))
 obtain ⟨z4,H7,h⟩:=bnd h
 refine WT.f3 (Ta Z (Cb co35 (Qk6 k4 ((rd ((rd a0.Topics b).Parts) p).Ids) _ _ _ _ p4 f8 z4 H7) (QaU Z Z)) Z ?_ ?_)
 rintro _ bV _ Y ⟨_,⟨az,aA,rfl,rfl,H8⟩,rfl⟩
 refine⟨(Ss Z (Lb 1 pl3 Z Z Z) Z (Ss Z (Fa Ql6 Z Z) Z (Ss Z (Lb 1 pl3 Z Z Z) Z (Ss Z (Fa Qk1 Z Z) Z (Ss Z (Lb 1 pl56 Z Z Z) Z (Ss Z (Fa QlJ Z Z) Z (Sl Z))))))), ?_⟩
 refine WT.a1 ?_
 obtain ⟨z5,H9,h⟩:=bnd h
 have N:=N.mono Y
 refine Ta Z (Cb co35 (Qk6 z4 ((rd ((rd a0.Topics b).Parts) p).Isr) _ _ _ _ H8 N z5 H9) (QaU Z Z)) Z ?_ ?_
 rintro _ bW _ d3 ⟨_,⟨aB,aC,rfl,rfl,I0⟩,rfl⟩
 refine⟨(Ss Z (Lb 1 pl3 Z Z Z) Z (Ss Z (Fa Ql6 Z Z) Z (Ss Z (Lb 1 pl3 Z Z Z) Z (Ss Z (Fa Qk1 Z Z) Z (Sl Z))))), ?_⟩
 refine WT.a1 ?_
 obtain ⟨z6,I1,h⟩:=bnd h
 refine Ta Z (Cb co32 (Qa6 z5 ((rd ((rd a0.Topics b).Parts) p).Leader) _ _ _ I0 z6 I1) (QaU Z Z)) Z ?_ ?_
 rintro _ bX _ d4 ⟨_,⟨aD,aE,rfl,rfl,I2⟩,rfl⟩
 refine⟨(Ss Z (Lb 1 pl3 Z Z Z) Z (Ss Z (Fa Ql6 Z Z) Z (Sl Z))), ?_⟩
 refine WT.a1 ?_
 obtain ⟨z7,I3,h⟩:=bnd h
 refine Ta Z (Cb co32 (Qa6 z6 ((rd ((rd a0.Topics b).Parts) p).Epoch) _ _ _ I2 z7 I3) (QaU Z Z)) Z ?_ ?_
 rintro _ bY _ d5 ⟨_,⟨I4,aF,rfl,rfl,I5⟩,rfl⟩
 refine⟨(Sl Z), ?_⟩
 refine WT.a1 (Ta Z ((Ag Z).eo) Z ?_ ?_)
 rintro _ _ _ - ⟨rfl,rfl,rfl⟩
 refine⟨(Sl Z), ?_⟩
 refine Ti (Tc (WC.draw [0,0,2,7,0,16,63,127] (.pure 0 (.pure 1 (.pure 2 (.pure 4 (.pure 5 (.alt 3 (.alt 6 (.alt 7 .done .none) .none) .none)))))) QdC (by kernel_rfl) (qt I4 Z (Mv Z) (qt (pt b8 4) Z (Fa QmT Z Z) (qt x Z (Lb 1 pl56 Z Z Z) (qt (pt b8 5) Z (Fa Ql7 Z Z) (qt y Z (Lb 1 pl56 Z Z Z) ?_)))))))
 obtain ⟨z8,I6,h⟩:=bnd h
 have O:=O.mono (((Y.trans d3).trans d4).trans d5)
 refine Ta Z (Cb co35 (Qk6 z7 ((rd ((rd a0.Topics b).Parts) p).Add) _ _ _ _ I5 O z8 I6) (QaU Z Z)) Z ?_ ?_
 rintro _ bZ _ k5 ⟨_,⟨aG,aH,rfl,rfl,I7⟩,rfl⟩
 refine⟨(Ss Z (Lb 1 pl56 Z Z Z) Z (Ss Z (Fa Ql7 Z Z) Z (Sl Z))), ?_⟩
 refine WT.a1 ?_
 obtain ⟨z9,I8,h⟩:=bnd h
 have P:=P.mono ((((Y.trans d3).trans d4).trans d5).trans k5)
 refine Ta Z (Cb co35 (Qk6 z8 ((rd ((rd a0.Topics b).Parts) p).Drop) _ _ _ _ I7 P z9 I8) (QaU Z Z)) Z ?_ ?_
 rintro _ ca _ v3 ⟨_,⟨I9,J0,rfl,rfl,J1⟩,rfl⟩
 refine⟨(Sl Z), ?_⟩
 refine WT.a1 (Ta Z ((Ag Z).eo) Z ?_ ?_)
 rintro _ _ _ - ⟨rfl,rfl,rfl⟩
 refine⟨(Sl Z), ?_⟩
 refine Ti (Bn (Tc (Cg (qu (Iv (i64.wrap (p+1))) (add S Z) (qm (Iv (i64.wrap (p+1))) (Wz (Qa (Dr (Qb (Qb (WQ.again (z9,i64.wrap (p+1)) (oi h).symm ?_)))))))))))
 exact⟨I9,J0,((((((d1.trans Y).trans d3).trans d4).trans d5).trans k5).trans v3),Z,f6,Z,b3,b4,b5,b6,b7,Z,J1⟩
 exact Tz
 exact Tz
 exact Tz
 exact Tz
 exact Tz
 exact Tz
 exact Tz
 exact Tz
 refine WC.exit (WQ.thenE (WQ.leaveE k4 (oi h).symm (fun v4=> ?_)))
 subst v4
 have h:=H5
 refine WQ.blockH (Bn (Dr ?_))
 obtain rfl:=oi h
 exact Tj ⟨a6,d0,(k3.trans d1),Z,f6,f7,b3,b4,b5,p4⟩
 rintro cb cc cd ⟨c4,c5,v5,rfl,p5,p6,m9,n0,n1,J2⟩
 exact Cg (qu (Iv (i64.wrap (b+1))) (add n1 Z) (qm (Iv (i64.wrap (b+1))) (Wz (WQ.again (j8,i64.wrap (b+1)) (oi h).symm ⟨c4,c5,(c3.trans v5),Z,p5,p6,m9,n0,Z,J2⟩))))
 refine WC.exit (WQ.thenE (WQ.leaveE f5 (oi h).symm (fun v6=> ?_)))
 subst v6
 have h:=E8
 refine WQ.blockH ?_
 obtain rfl:=oi h
 exact Tj ⟨a3,c2,c3,Z,a4,L,g6⟩
 rintro ce cf cg ⟨c1,g5,v7,rfl,a7,p7,J3⟩
 have p8:=V8.trans v7
 refine Sr (qM c1 p7 (qu (pt m 2) (Fa Qc5 a7 Z) (qu k (Lb 0 pl24 Z Z Z) ?_)))
 have C:=C.mono p8
 refine qu (Iv (a0.Configs.length:Int)) (lenS underlying24 Z C.len) ?_
 obtain ⟨W6,J4,h⟩:=bnd h
 refine WL.f1 (We (Cb co32 (Qa6 j7 (a0.Configs.length:Int) _ _ _ J3 W6 J4) (QaU Z Z)) Z ?_)
 rintro _ A0 _ d6 ⟨_,⟨p9,J5,rfl,rfl,J6⟩,rfl⟩
 refine WL.a1 (qa p9 (Nt ?_))
 obtain ⟨k6,J7,h⟩:=bnd h
 refine Jf (fun(k6:(List Int)) ρ' M' H'=>∃ d7 g9,A0.le M'∧[(m, .cells (l27 a0 j f k l).toArray 27 (0,0))]::g9::F=H'∧ρ' 1=(pt m 0)∧ρ' 5=d7∧OwnS (Kd.int .u8) M' d7 k6 g9) k6 ?_ ?_
 have h:=J7
 refine Sr (qu (pt m 2) (Fa Qc5 a7 Z) (qu k (Lb 1 pl24 Z Z Z) ?_))
 have C:=C.mono d6
 refine qu (Iv (a0.Configs.length:Int)) (lenS underlying24 Z C.len) (qm (Iv 0) (Nt (Bk (WC.f1 ?_))))
 obtain ⟨ch,J8,J9⟩:=bnd h
 clear h
 refine WC.loop J8 (fun(p_:((List Int)×Int)) ρ' M' H'=>match p_ with |(V,c)=>∃ a8 d8,A0.le M'∧[(m, .cells (l27 a0 j f k l).toArray 27 (0,0))]::d8::F=H'∧ρ' 1=(pt m 0)∧ρ' 5=a8∧ρ' 113=k∧ρ' 114=(Iv (a0.Configs.length:Int))∧ρ' 115=(Iv c)∧OwnS (Kd.int .u8) M' a8 V d8) ?_ ?_
 exact⟨p9,J5,lr,Z,a7,Z,Z,Z,Z,J6⟩
 rintro ⟨V,c⟩ ci cj W7 ck h ⟨a8,d8,d9,rfl,q,d,g,i,e,T⟩
 unfold QjF at h
 refine Sr (qu (Bv (decide (c<(a0.Configs.length:Int)))) (lss e i) (Nt (Cs (Ch h Z (fun K0 h=> ?_) (fun K0 h=> ?_)))))
 refine Ck (Tc ?_)
 obtain ⟨k7,K1,h⟩:=bnd h
 refine Jf (fun(k7:(List Int)) ρ' M' H'=>∃ e1 e2,W7.le M'∧[(m, .cells (l27 a0 j f k l).toArray 27 (0,0))]::e2::F=H'∧ρ' 1=(pt m 0)∧ρ' 5=e1∧ρ' 113=k∧ρ' 114=(Iv (a0.Configs.length:Int))∧ρ' 115=(Iv c)∧OwnS (Kd.int .u8) M' e1 k7 e2) k7 ?_ ?_
 have h:=K1
 refine Bk (Sr ?_)
 obtain ⟨e3,h⟩:=QaQ h
 have C:=C.mono d9
 obtain ⟨W8,aI,v8,v9,hhas256⟩:=C.at e3.1 e3.2 (by decide)
 obtain rfl:=Qa8 v9
 refine qu (.pointer (some W8)) (indexAddr (n:=a0.Configs.length) underlying24 sz76 g e e3.1 e3.2 v8) (qu (a76_ (rd a0.Configs c)) (loadMA (cs:=(l76 (rd a0.Configs c))) ag76 sz76 Z hhas256) (We (Al ze76 Z) Z ?_))
 rintro _ _ _ - ⟨rfl,q0,rfl,rfl⟩
 refine We (Sg (v:=(a76_ (rd a0.Configs c))) (vl:=(l76 (rd a0.Configs c))) (arr':=(l76 (rd a0.Configs c))) Z sz76 Z Z (onb Z) Z Z Z) Z ?_
 rintro _ _ _ - ⟨rfl,rfl⟩
 refine Nt (WC.draw [0,0,2,7,0,16,48,127,0,256,768,2047,4095] (.pure 0 (.pure 1 (.pure 2 (.pure 4 (.pure 5 (.pure 8 (.pure 9 (.alt 3 (.alt 6 (.alt 7 (.alt 10 (.alt 11 (.alt 12 .done .none) .none) .none) (.alt 10 (.alt 7 (.alt 11 (.alt 12 .done .none) .none) .none) .none)) (.alt 10 (.alt 6 (.alt 7 (.alt 11 (.alt 12 .done .none) .none) .none) .none) .none)) (.alt 6 (.alt 3 (.alt 7 (.alt 10 (.alt 11 (.alt 12 .done .none) .none) .none) (.alt 10 (.alt 7 (.alt 11 (.alt 12 .done .none) .none) .none) .none)) (.alt 10 (.alt 3 (.alt 7 (.alt 11 (.alt 12 .done .none) .none) .none) .none) .none)) (.alt 10 (.alt 3 (.alt 6 (.alt 7 (.alt 11 (.alt 12 .done .none) .none) .none) .none) (.alt 6 (.alt 3 (.alt 7 (.alt 11 (.alt 12 .done .none) .none) .none) .none) .none)) .none)))))))))) QdC (by kernel_rfl) (qt a8 Z (Mv d) (qt (pt q0 0) Z (Fa QeF Z Z) (qt (Iv ((rd a0.Configs c).Topic)) Z (Lb 0 pl3 Z Z Z) (qt (pt q0 1) Z (Fa QfV Z Z) (qt (Sv ((rd a0.Configs c).Key)) Z (Lb 0 pl9 Z Z Z) (qt (pt q0 2) Z (Fa QfW Z Z) (qt (Sv ((rd a0.Configs c).Value)) Z (Lb 0 pl9 Z Z Z) ?_))))))))
 have K2:=h
 obtain ⟨k8,K3,h⟩:=bnd h
 refine WT.f2 (Ta Z (Cb co32 (Qa6 V ((rd a0.Configs c).Topic) _ _ _ T k8 K3) (QaU Z Z)) Z ?_ ?_)
 rintro _ cl _ e4 ⟨_,⟨aJ,aK,rfl,rfl,h0⟩,rfl⟩
 refine⟨(Ss Z (Lb 1 pl9 Z Z Z) Z (Ss Z (Fa QfW Z Z) Z (Ss Z (Lb 1 pl9 Z Z Z) Z (Ss Z (Fa QfV Z Z) Z (Sl Z))))), ?_⟩
 refine WT.a1 ?_
 have K4:=h
 refine Ta Z (s2b underlying9 underlying38 underlying5 Z) Z ?_ ?_
 rintro cm _ _ - ⟨rfl,A1,rfl,k9⟩
 refine⟨(Ss Z (Lb 2 pl9 Z Z Z) Z (Ss Z (Fa QfW Z Z) Z (Sk 2 Z (Ss Z (Lb 2 pl3 Z Z Z) Z (Ss Z (Fa QeF Z Z) Z (Ss Z (Mv d) Z trivial)))))), ?_⟩
 have K5:=h
 obtain ⟨q1,K6,h⟩:=bnd h
 refine WT.f1 (WT.f1 (Ta Z (EO.call2 co33 (Tri.lend k9.excl fun w0_ H0_ hs0_=>(QbC k8 (bytesOf ((rd a0.Configs c).Key)) _ _ _ _ (h0.mono (IM.le_add _ _)) (k9.rs hs0_) q1 K6)) (QaU Z Z)) Z ?_ ?_))
 rintro _ _ _ w0 ⟨_,⟨K7,aL,Y3,rfl,rfl,⟨K8,K9,rfl,rfl,h1⟩⟩,rfl⟩
 have h1:OwnS (Kd.int .u8) (K7.minus A1) K8 q1 K9:=h1.any (Kd.int_flat _)
 refine⟨(Ss Z (Lb 2 pl9 Z Z Z) Z (Ss Z (Fa QfW Z Z) Z (Sl Z))), ?_⟩
 refine WT.a2 (Ta Z (s2b underlying9 underlying38 underlying5 Z) Z ?_ ?_)
 rintro cn _ _ - ⟨rfl,W9,rfl,A2⟩
 refine⟨(Sk 2 Z (Ss Z (Lb 3 pl9 Z Z Z) Z (Ss Z (Fa QfV Z Z) Z (Ss Z (Lb 3 pl3 Z Z Z) Z (Ss Z (Fa QeF Z Z) Z (Ss Z (Mv d) Z trivial)))))), ?_⟩
 obtain ⟨A3,L0,h⟩:=bnd h
 refine WT.f2 (WT.f1 (Ta Z (EO.call2 co33 (Tri.lend A2.excl fun w0_ H0_ hs0_=>(QbC q1 (bytesOf ((rd a0.Configs c).Value)) _ _ _ _ (h1.mono (IM.le_add _ _)) (A2.rs hs0_) A3 L0)) (QaU Z Z)) Z ?_ ?_))
 rintro _ _ _ w1 ⟨_,⟨L1,aM,Y4,rfl,rfl,⟨q2,q3,rfl,rfl,h2⟩⟩,rfl⟩
 have h2:OwnS (Kd.int .u8) (L1.minus W9) q2 A3 q3:=h2.any (Kd.int_flat _)
 refine⟨(Sl Z), ?_⟩
 refine WT.a2 (Ta Z ((Ag Z).eo) Z ?_ ?_)
 rintro _ _ _ - ⟨rfl,rfl,rfl⟩
 refine⟨(Sl Z), ?_⟩
 refine Ti (Bn (Dr (Qa (Dr (Qa (Dr (Qa ?_)))))))
 obtain rfl:=oi h
 exact Tj ⟨q2,q3,((e4.trans w0).trans w1),Z,q,Z,g,i,e,h2⟩
 exact Tz
 exact Tz
 exact Tz
 have h:=K5
 refine Ta Z (s2b underlying9 underlying38 underlying5 Z) Z ?_ ?_
 rintro co _ _ - ⟨rfl,X0,rfl,l0⟩
 refine⟨(Sk 2 Z (Ss Z (Lb 3 pl9 Z Z Z) Z (Ss Z (Fa QfV Z Z) Z (Ss Z (Lb 3 pl3 Z Z Z) Z (Ss Z (Fa QeF Z Z) Z (Ss Z (Mv d) Z trivial)))))), ?_⟩
 obtain ⟨q4,L2,h⟩:=bnd h
 refine WT.f2 (WT.f2 (Ta Z (EO.call2 co33 (Tri.lend k9.excl fun w0_ H0_ hs0_=>(QbC k8 (bytesOf ((rd a0.Configs c).Key)) _ _ _ _ (h0.mono (IM.le_add _ _)) (k9.rs hs0_) q4 L2)) (QaU Z Z)) Z ?_ ?_))
 rintro _ _ _ l1 ⟨_,⟨L3,aN,Y5,rfl,rfl,⟨L4,L5,rfl,rfl,h3⟩⟩,rfl⟩
 have h3:OwnS (Kd.int .u8) (L3.minus A1) L4 q4 L5:=h3.any (Kd.int_flat _)
 refine⟨(Ss Z (Lb 3 pl9 Z Z Z) Z (Ss Z (Fa QfW Z Z) Z (Sl Z))), ?_⟩
 refine WT.a2 ?_
 obtain ⟨A4,L6,h⟩:=bnd h
 refine WT.f1 (WT.f2 ?_)
 have l0:=l0.mono l1
 refine Ta Z (EO.call2 co33 (Tri.lend l0.excl fun w0_ H0_ hs0_=>(QbC q4 (bytesOf ((rd a0.Configs c).Value)) _ _ _ _ (h3.mono (IM.le_add _ _)) (l0.rs hs0_) A4 L6)) (QaU Z Z)) Z ?_ ?_
 rintro _ _ _ w2 ⟨_,⟨L7,aO,Y6,rfl,rfl,⟨q5,q6,rfl,rfl,h4⟩⟩,rfl⟩
 have h4:OwnS (Kd.int .u8) (L7.minus X0) q5 A4 q6:=h4.any (Kd.int_flat _)
 refine⟨(Sl Z), ?_⟩
 refine WT.a2 (Ta Z ((Ag Z).eo) Z ?_ ?_)
 rintro _ _ _ - ⟨rfl,rfl,rfl⟩
 refine⟨(Sl Z), ?_⟩
 refine Ti (Bn (Dr (Qa (Dr (Qa (Dr (Qa ?_)))))))
 obtain rfl:=oi h
 exact Tj ⟨q5,q6,((e4.trans l1).trans w2),Z,q,Z,g,i,e,h4⟩
 exact Tz
 exact Tz
 exact Tz
 exact Tz
 have h:=K4
 refine Ta Z (s2b underlying9 underlying38 underlying5 Z) Z ?_ ?_
 rintro cp _ _ - ⟨rfl,X1,rfl,l2⟩
 refine⟨(Sk 2 Z (Ss Z (Lb 2 pl9 Z Z Z) Z (Ss Z (Fa QfV Z Z) Z (Ss Z (Lb 2 pl3 Z Z Z) Z (Ss Z (Fa QeF Z Z) Z (Ss Z (Mv d) Z trivial)))))), ?_⟩
 refine Ta Z (s2b underlying9 underlying38 underlying5 Z) Z ?_ ?_
 rintro cq _ _ - ⟨rfl,X2,rfl,A5⟩
 refine⟨(Ss Z (Lb 3 pl9 Z Z Z) Z (Ss Z (Fa QfW Z Z) Z (Sk 2 Z (Ss Z (Lb 3 pl3 Z Z Z) Z (Ss Z (Fa QeF Z Z) Z (Ss Z (Mv d) Z trivial)))))), ?_⟩
 obtain ⟨q7,L8,h⟩:=bnd h
 refine WT.f2 (WT.f1 (Ta Z (EO.call2 co33 (Tri.lend A5.excl fun w0_ H0_ hs0_=>(QbC k8 (bytesOf ((rd a0.Configs c).Key)) _ _ _ _ (h0.mono (IM.le_add _ _)) (A5.rs hs0_) q7 L8)) (QaU Z Z)) Z ?_ ?_))
 rintro _ _ _ l3 ⟨_,⟨L9,aP,Y7,rfl,rfl,⟨M0,M1,rfl,rfl,h5⟩⟩,rfl⟩
 have h5:OwnS (Kd.int .u8) (L9.minus X2) M0 q7 M1:=h5.any (Kd.int_flat _)
 refine⟨(Ss Z (Lb 3 pl9 Z Z Z) Z (Ss Z (Fa QfW Z Z) Z (Sl Z))), ?_⟩
 refine WT.a2 ?_
 obtain ⟨A6,M2,h⟩:=bnd h
 refine WT.f1 (WT.f2 ?_)
 have l2:=l2.mono l3
 refine Ta Z (EO.call2 co33 (Tri.lend l2.excl fun w0_ H0_ hs0_=>(QbC q7 (bytesOf ((rd a0.Configs c).Value)) _ _ _ _ (h5.mono (IM.le_add _ _)) (l2.rs hs0_) A6 M2)) (QaU Z Z)) Z ?_ ?_
 rintro _ _ _ w3 ⟨_,⟨M3,aQ,Y8,rfl,rfl,⟨q8,q9,rfl,rfl,h6⟩⟩,rfl⟩
 have h6:OwnS (Kd.int .u8) (M3.minus X1) q8 A6 q9:=h6.any (Kd.int_flat _)
 refine⟨(Sl Z), ?_⟩
 refine WT.a2 (Ta Z ((Ag Z).eo) Z ?_ ?_)
 rintro _ _ _ - ⟨rfl,rfl,rfl⟩
 refine⟨(Sl Z), ?_⟩
 refine Ti (Bn (Dr (Qa (Dr (Qa (Dr (Qa ?_)))))))
 obtain rfl:=oi h
 exact Tj ⟨q8,q9,((e4.trans l3).trans w3),Z,q,Z,g,i,e,h6⟩
 exact Tz
 exact Tz
 exact Tz
 exact Tz
 exact Tz
 have h:=K2
 have M4:=h
 refine Ta Z (s2b underlying9 underlying38 underlying5 Z) Z ?_ ?_
 rintro cr _ _ - ⟨rfl,r0,rfl,E⟩
 refine⟨(Ss Z (Lb 2 pl9 Z Z Z) Z (Ss Z (Fa QfW Z Z) Z (Sk 2 Z (Ss Z (Lb 2 pl3 Z Z Z) Z (Ss Z (Fa QeF Z Z) Z (Ss Z (Mv d) Z trivial)))))), ?_⟩
 have M5:=h
 obtain ⟨r1,M6,h⟩:=bnd h
 refine WT.f1 (Ta Z (Cb co32 (Qa6 V ((rd a0.Configs c).Topic) _ _ _ T r1 M6) (QaU Z Z)) Z ?_ ?_)
 rintro _ ct _ e5 ⟨_,⟨aR,aS,rfl,rfl,r2⟩,rfl⟩
 refine⟨(Ss Z (Lb 2 pl9 Z Z Z) Z (Ss Z (Fa QfW Z Z) Z (Ss Z (Lb 2 pl9 Z Z Z) Z (Ss Z (Fa QfV Z Z) Z (Sl Z))))), ?_⟩
 refine WT.a1 ?_
 have M7:=h
 obtain ⟨r3,M8,h⟩:=bnd h
 refine WT.f1 ?_
 have E:=E.mono e5
 refine Ta Z (EO.call2 co33 (Tri.lend E.excl fun w0_ H0_ hs0_=>(QbC r1 (bytesOf ((rd a0.Configs c).Key)) _ _ _ _ (r2.mono (IM.le_add _ _)) (E.rs hs0_) r3 M8)) (QaU Z Z)) Z ?_ ?_
 rintro _ _ _ w4 ⟨_,⟨M9,aT,Y9,rfl,rfl,⟨N0,N1,rfl,rfl,h7⟩⟩,rfl⟩
 have h7:OwnS (Kd.int .u8) (M9.minus r0) N0 r3 N1:=h7.any (Kd.int_flat _)
 refine⟨(Ss Z (Lb 2 pl9 Z Z Z) Z (Ss Z (Fa QfW Z Z) Z (Sl Z))), ?_⟩
 refine WT.a2 (Ta Z (s2b underlying9 underlying38 underlying5 Z) Z ?_ ?_)
 rintro cu _ _ - ⟨rfl,X3,rfl,A7⟩
 refine⟨(Sk 2 Z (Ss Z (Lb 3 pl9 Z Z Z) Z (Ss Z (Fa QfV Z Z) Z (Ss Z (Lb 3 pl3 Z Z Z) Z (Ss Z (Fa QeF Z Z) Z (Ss Z (Mv d) Z trivial)))))), ?_⟩
 obtain ⟨A8,N2,h⟩:=bnd h
 refine WT.f2 (WT.f1 (Ta Z (EO.call2 co33 (Tri.lend A7.excl fun w0_ H0_ hs0_=>(QbC r3 (bytesOf ((rd a0.Configs c).Value)) _ _ _ _ (h7.mono (IM.le_add _ _)) (A7.rs hs0_) A8 N2)) (QaU Z Z)) Z ?_ ?_))
 rintro _ _ _ w5 ⟨_,⟨N3,aU,Z0,rfl,rfl,⟨r4,r5,rfl,rfl,h8⟩⟩,rfl⟩
 have h8:OwnS (Kd.int .u8) (N3.minus X3) r4 A8 r5:=h8.any (Kd.int_flat _)
 refine⟨(Sl Z), ?_⟩
 refine WT.a2 (Ta Z ((Ag Z).eo) Z ?_ ?_)
 rintro _ _ _ - ⟨rfl,rfl,rfl⟩
 refine⟨(Sl Z), ?_⟩
 refine Ti (Bn (Dr (Qa (Dr (Qa (Dr (Qa ?_)))))))
 obtain rfl:=oi h
 exact Tj ⟨r4,r5,((e5.trans w4).trans w5),Z,q,Z,g,i,e,h8⟩
 exact Tz
 exact Tz
 exact Tz
 have h:=M7
 refine Ta Z (s2b underlying9 underlying38 underlying5 Z) Z ?_ ?_
 rintro cv _ _ - ⟨rfl,X4,rfl,l4⟩
 refine⟨(Sk 2 Z (Ss Z (Lb 3 pl9 Z Z Z) Z (Ss Z (Fa QfV Z Z) Z (Ss Z (Lb 3 pl3 Z Z Z) Z (Ss Z (Fa QeF Z Z) Z (Ss Z (Mv d) Z trivial)))))), ?_⟩
 obtain ⟨r6,N4,h⟩:=bnd h
 refine WT.f2 (WT.f2 (Ta Z (EO.call2 co33 (Tri.lend E.excl fun w0_ H0_ hs0_=>(QbC r1 (bytesOf ((rd a0.Configs c).Key)) _ _ _ _ (r2.mono (IM.le_add _ _)) (E.rs hs0_) r6 N4)) (QaU Z Z)) Z ?_ ?_))
 rintro _ _ _ l5 ⟨_,⟨N5,aV,Z1,rfl,rfl,⟨N6,N7,rfl,rfl,h9⟩⟩,rfl⟩
 have h9:OwnS (Kd.int .u8) (N5.minus r0) N6 r6 N7:=h9.any (Kd.int_flat _)
 refine⟨(Ss Z (Lb 3 pl9 Z Z Z) Z (Ss Z (Fa QfW Z Z) Z (Sl Z))), ?_⟩
 refine WT.a2 ?_
 obtain ⟨A9,N8,h⟩:=bnd h
 refine WT.f1 (WT.f2 ?_)
 have l4:=l4.mono l5
 refine Ta Z (EO.call2 co33 (Tri.lend l4.excl fun w0_ H0_ hs0_=>(QbC r6 (bytesOf ((rd a0.Configs c).Value)) _ _ _ _ (h9.mono (IM.le_add _ _)) (l4.rs hs0_) A9 N8)) (QaU Z Z)) Z ?_ ?_
 rintro _ _ _ w6 ⟨_,⟨N9,aW,Z2,rfl,rfl,⟨r7,r8,rfl,rfl,i0⟩⟩,rfl⟩
 have i0:OwnS (Kd.int .u8) (N9.minus X4) r7 A9 r8:=i0.any (Kd.int_flat _)
 refine⟨(Sl Z), ?_⟩
 refine WT.a2 (Ta Z ((Ag Z).eo) Z ?_ ?_)
 rintro _ _ _ - ⟨rfl,rfl,rfl⟩
 refine⟨(Sl Z), ?_⟩
 refine Ti (Bn (Dr (Qa (Dr (Qa (Dr (Qa ?_)))))))
 obtain rfl:=oi h
 exact Tj ⟨r7,r8,((e5.trans l5).trans w6),Z,q,Z,g,i,e,i0⟩
 exact Tz
 exact Tz
 exact Tz
 exact Tz
 have h:=M5
 refine Ta Z (s2b underlying9 underlying38 underlying5 Z) Z ?_ ?_
 rintro cw _ _ - ⟨rfl,X5,rfl,l6⟩
 refine⟨(Sk 2 Z (Ss Z (Lb 3 pl9 Z Z Z) Z (Ss Z (Fa QfV Z Z) Z (Ss Z (Lb 3 pl3 Z Z Z) Z (Ss Z (Fa QeF Z Z) Z (Ss Z (Mv d) Z trivial)))))), ?_⟩
 obtain ⟨B0,O0,h⟩:=bnd h
 refine WT.f1 (Ta Z (Cb co32 (Qa6 V ((rd a0.Configs c).Topic) _ _ _ T B0 O0) (QaU Z Z)) Z ?_ ?_)
 rintro _ cx _ e6 ⟨_,⟨aX,aY,rfl,rfl,O1⟩,rfl⟩
 refine⟨(Ss Z (Lb 3 pl9 Z Z Z) Z (Ss Z (Fa QfW Z Z) Z (Ss Z (Lb 3 pl9 Z Z Z) Z (Ss Z (Fa QfV Z Z) Z (Sl Z))))), ?_⟩
 refine WT.a1 ?_
 obtain ⟨r9,O2,h⟩:=bnd h
 refine WT.f2 ?_
 have E:=E.mono e6
 refine Ta Z (EO.call2 co33 (Tri.lend E.excl fun w0_ H0_ hs0_=>(QbC B0 (bytesOf ((rd a0.Configs c).Key)) _ _ _ _ (O1.mono (IM.le_add _ _)) (E.rs hs0_) r9 O2)) (QaU Z Z)) Z ?_ ?_
 rintro _ _ _ l7 ⟨_,⟨O3,aZ,Z3,rfl,rfl,⟨O4,O5,rfl,rfl,i1⟩⟩,rfl⟩
 have i1:OwnS (Kd.int .u8) (O3.minus r0) O4 r9 O5:=i1.any (Kd.int_flat _)
 refine⟨(Ss Z (Lb 3 pl9 Z Z Z) Z (Ss Z (Fa QfW Z Z) Z (Sl Z))), ?_⟩
 refine WT.a2 ?_
 obtain ⟨B1,O6,h⟩:=bnd h
 refine WT.f1 (WT.f2 ?_)
 have l6:=l6.mono (e6.trans l7)
 refine Ta Z (EO.call2 co33 (Tri.lend l6.excl fun w0_ H0_ hs0_=>(QbC r9 (bytesOf ((rd a0.Configs c).Value)) _ _ _ _ (i1.mono (IM.le_add _ _)) (l6.rs hs0_) B1 O6)) (QaU Z Z)) Z ?_ ?_
 rintro _ _ _ w7 ⟨_,⟨O7,ba,Z4,rfl,rfl,⟨s0,s1,rfl,rfl,i2⟩⟩,rfl⟩
 have i2:OwnS (Kd.int .u8) (O7.minus X5) s0 B1 s1:=i2.any (Kd.int_flat _)
 refine⟨(Sl Z), ?_⟩
 refine WT.a2 (Ta Z ((Ag Z).eo) Z ?_ ?_)
 rintro _ _ _ - ⟨rfl,rfl,rfl⟩
 refine⟨(Sl Z), ?_⟩
 refine Ti (Bn (Dr (Qa (Dr (Qa (Dr (Qa ?_)))))))
 obtain rfl:=oi h
 exact Tj ⟨s0,s1,((e6.trans l7).trans w7),Z,q,Z,g,i,e,i2⟩
 exact Tz
 exact Tz
 exact Tz
 exact Tz
 exact Tz
 have h:=M4
 refine Ta Z (s2b underlying9 underlying38 underlying5 Z) Z ?_ ?_
 rintro cy _ _ - ⟨rfl,B2,rfl,W⟩
 refine⟨(Sk 2 Z (Ss Z (Lb 2 pl9 Z Z Z) Z (Ss Z (Fa QfV Z Z) Z (Ss Z (Lb 2 pl3 Z Z Z) Z (Ss Z (Fa QeF Z Z) Z (Ss Z (Mv d) Z trivial)))))), ?_⟩
 have O8:=h
 obtain ⟨B3,O9,h⟩:=bnd h
 refine WT.f1 (Ta Z (Cb co32 (Qa6 V ((rd a0.Configs c).Topic) _ _ _ T B3 O9) (QaU Z Z)) Z ?_ ?_)
 rintro _ cz _ l8 ⟨_,⟨bb,bc,rfl,rfl,P0⟩,rfl⟩
 refine⟨(Ss Z (Lb 2 pl9 Z Z Z) Z (Ss Z (Fa QfW Z Z) Z (Ss Z (Lb 2 pl9 Z Z Z) Z (Ss Z (Fa QfV Z Z) Z (Sl Z))))), ?_⟩
 refine WT.a1 (Ta Z (s2b underlying9 underlying38 underlying5 Z) Z ?_ ?_)
 rintro cA _ _ - ⟨rfl,X6,rfl,B4⟩
 refine⟨(Ss Z (Lb 3 pl9 Z Z Z) Z (Ss Z (Fa QfW Z Z) Z (Sk 2 Z (Ss Z (Lb 3 pl3 Z Z Z) Z (Ss Z (Fa QeF Z Z) Z (Ss Z (Mv d) Z trivial)))))), ?_⟩
 obtain ⟨s2,P1,h⟩:=bnd h
 refine WT.f1 (WT.f1 (Ta Z (EO.call2 co33 (Tri.lend B4.excl fun w0_ H0_ hs0_=>(QbC B3 (bytesOf ((rd a0.Configs c).Key)) _ _ _ _ (P0.mono (IM.le_add _ _)) (B4.rs hs0_) s2 P1)) (QaU Z Z)) Z ?_ ?_))
 rintro _ _ _ l9 ⟨_,⟨P2,bd,Z5,rfl,rfl,⟨P3,P4,rfl,rfl,i3⟩⟩,rfl⟩
 have i3:OwnS (Kd.int .u8) (P2.minus X6) P3 s2 P4:=i3.any (Kd.int_flat _)
 refine⟨(Ss Z (Lb 3 pl9 Z Z Z) Z (Ss Z (Fa QfW Z Z) Z (Sl Z))), ?_⟩
 refine WT.a2 ?_
 obtain ⟨B5,P5,h⟩:=bnd h
 refine WT.f1 (WT.f2 ?_)
 have W:=W.mono (l8.trans l9)
 refine Ta Z (EO.call2 co33 (Tri.lend W.excl fun w0_ H0_ hs0_=>(QbC s2 (bytesOf ((rd a0.Configs c).Value)) _ _ _ _ (i3.mono (IM.le_add _ _)) (W.rs hs0_) B5 P5)) (QaU Z Z)) Z ?_ ?_
 rintro _ _ _ w8 ⟨_,⟨P6,be,Z6,rfl,rfl,⟨s3,s4,rfl,rfl,i4⟩⟩,rfl⟩
 have i4:OwnS (Kd.int .u8) (P6.minus B2) s3 B5 s4:=i4.any (Kd.int_flat _)
 refine⟨(Sl Z), ?_⟩
 refine WT.a2 (Ta Z ((Ag Z).eo) Z ?_ ?_)
 rintro _ _ _ - ⟨rfl,rfl,rfl⟩
 refine⟨(Sl Z), ?_⟩
 refine Ti (Bn (Dr (Qa (Dr (Qa (Dr (Qa ?_)))))))
 obtain rfl:=oi h
 exact Tj ⟨s3,s4,((l8.trans l9).trans w8),Z,q,Z,g,i,e,i4⟩
 exact Tz
 exact Tz
 exact Tz
 exact Tz
 have h:=O8
 refine Ta Z (s2b underlying9 underlying38 underlying5 Z) Z ?_ ?_
 rintro cB _ _ - ⟨rfl,X7,rfl,m0⟩
 refine⟨(Ss Z (Lb 3 pl9 Z Z Z) Z (Ss Z (Fa QfW Z Z) Z (Sk 2 Z (Ss Z (Lb 3 pl3 Z Z Z) Z (Ss Z (Fa QeF Z Z) Z (Ss Z (Mv d) Z trivial)))))), ?_⟩
 obtain ⟨B6,P7,h⟩:=bnd h
 refine WT.f1 (Ta Z (Cb co32 (Qa6 V ((rd a0.Configs c).Topic) _ _ _ T B6 P7) (QaU Z Z)) Z ?_ ?_)
 rintro _ cC _ e7 ⟨_,⟨bf,bg,rfl,rfl,P8⟩,rfl⟩
 refine⟨(Ss Z (Lb 3 pl9 Z Z Z) Z (Ss Z (Fa QfW Z Z) Z (Ss Z (Lb 3 pl9 Z Z Z) Z (Ss Z (Fa QfV Z Z) Z (Sl Z))))), ?_⟩
 refine WT.a1 ?_
 obtain ⟨s5,P9,h⟩:=bnd h
 refine WT.f1 ?_
 have m0:=m0.mono e7
 refine Ta Z (EO.call2 co33 (Tri.lend m0.excl fun w0_ H0_ hs0_=>(QbC B6 (bytesOf ((rd a0.Configs c).Key)) _ _ _ _ (P8.mono (IM.le_add _ _)) (m0.rs hs0_) s5 P9)) (QaU Z Z)) Z ?_ ?_
 rintro _ _ _ m1 ⟨_,⟨Q0,bh,Z7,rfl,rfl,⟨Q1,Q2,rfl,rfl,i5⟩⟩,rfl⟩
 have i5:OwnS (Kd.int .u8) (Q0.minus X7) Q1 s5 Q2:=i5.any (Kd.int_flat _)
 refine⟨(Ss Z (Lb 3 pl9 Z Z Z) Z (Ss Z (Fa QfW Z Z) Z (Sl Z))), ?_⟩
 refine WT.a2 ?_
 obtain ⟨B7,Q3,h⟩:=bnd h
 refine WT.f1 (WT.f2 ?_)
 have W:=W.mono (e7.trans m1)
 refine Ta Z (EO.call2 co33 (Tri.lend W.excl fun w0_ H0_ hs0_=>(QbC s5 (bytesOf ((rd a0.Configs c).Value)) _ _ _ _ (i5.mono (IM.le_add _ _)) (W.rs hs0_) B7 Q3)) (QaU Z Z)) Z ?_ ?_
 rintro _ _ _ w9 ⟨_,⟨Q4,bi,Z8,rfl,rfl,⟨s6,s7,rfl,rfl,i6⟩⟩,rfl⟩
 have i6:OwnS (Kd.int .u8) (Q4.minus B2) s6 B7 s7:=i6.any (Kd.int_flat _)
 refine⟨(Sl Z), ?_⟩
 refine WT.a2 (Ta Z ((Ag Z).eo) Z ?_ ?_)
 rintro _ _ _ - ⟨rfl,rfl,rfl⟩
 refine⟨(Sl Z), ?_⟩
 refine Ti (Bn (Dr (Qa (Dr (Qa (Dr (Qa ?_)))))))
 obtain rfl:=oi h
 exact Tj ⟨s6,s7,((e7.trans m1).trans w9),Z,q,Z,g,i,e,i6⟩
 exact Tz
 exact Tz
 exact Tz
 exact Tz
 exact Tz
 exact Tz
 rintro cD cE cF ⟨e1,e2,x0,rfl,s8,s9,i7,i8,i9,Q5⟩
 exact Cg (qu (Iv (i64.wrap (c+1))) (add i9 Z) (qm (Iv (i64.wrap (c+1))) (Wz (WQ.again (k7,i64.wrap (c+1)) (oi h).symm ⟨e1,e2,(d9.trans x0),Z,s8,s9,i7,i8,Z,Q5⟩))))
 refine WC.exit (WQ.thenE (WQ.leaveE V (oi h).symm (fun x1=> ?_)))
 subst x1
 have h:=J9
 refine WQ.blockH ?_
 obtain rfl:=oi h
 exact Tj ⟨a8,d8,d9,Z,q,d,T⟩
 rintro cG cH cI ⟨d7,g9,m2,rfl,f9,t0,Q6⟩
 refine Sr (qM d7 t0 (qu (pt m 3) (Fa QdW f9 Z) (qu l (Lb 0 pl25 Z Z Z) ?_)))
 have D:=D.mono ((p8.trans d6).trans m2)
 refine qu (Iv (a0.Done.length:Int)) (lenS underlying25 Z D.len) ?_
 obtain ⟨X8,Q7,h⟩:=bnd h
 refine WL.f1 (We (Cb co32 (Qa6 k6 (a0.Done.length:Int) _ _ _ Q6 X8 Q7) (QaU Z Z)) Z ?_)
 rintro _ B8 _ m3 ⟨_,⟨t1,Q8,rfl,rfl,Q9⟩,rfl⟩
 refine WL.a1 (qa t1 (Nt ?_))
 obtain ⟨t2,R0,h⟩:=bnd h
 refine Jf (fun(t2:(List Int)) ρ' M' H'=>∃ U a9,B8.le M'∧[(m, .cells (l27 a0 j f k l).toArray 27 (0,0))]::a9::F=H'∧ρ' 5=U∧OwnS (Kd.int .u8) M' U t2 a9) t2 ?_ ?_
 have h:=R0
 refine Sr (qu (pt m 3) (Fa QdW f9 Z) (qu l (Lb 1 pl25 Z Z Z) ?_))
 have D:=D.mono m3
 refine qu (Iv (a0.Done.length:Int)) (lenS underlying25 Z D.len) (qm (Iv 0) (Nt (Bk (WC.f1 ?_))))
 obtain ⟨cJ,R1,R2⟩:=bnd h
 clear h
 refine WC.loop R1 (fun(p_:((List Int)×Int)) ρ' M' H'=>match p_ with |(m4,s)=>∃ b0 e8,B8.le M'∧[(m, .cells (l27 a0 j f k l).toArray 27 (0,0))]::e8::F=H'∧ρ' 5=b0∧ρ' 138=l∧ρ' 139=(Iv (a0.Done.length:Int))∧ρ' 140=(Iv s)∧OwnS (Kd.int .u8) M' b0 m4 e8) ?_ ?_
 exact⟨t1,Q8,lr,Z,Z,Z,Z,Z,Q9⟩
 rintro ⟨m4,s⟩ cK cL cM cN h ⟨b0,e8,e9,rfl,g0,b1,b2,G,t3⟩
 unfold QjG at h
 refine Sr (qu (Bv (decide (s<(a0.Done.length:Int)))) (lss G b2) (Nt (Cs (Ch h Z (fun R3 h=> ?_) (fun R3 h=> ?_)))))
 refine Ck (Tc (Cs (Bk (Sr ?_))))
 obtain ⟨f0,h⟩:=QaQ h
 have D:=D.mono e9
 obtain ⟨X9,bj,x2,x3,hhas472⟩:=D.at f0.1 f0.2 (by decide)
 obtain rfl:=Qb8 x3
 refine qu (.pointer (some X9)) (indexAddr (n:=a0.Done.length) underlying25 sz67 b1 G f0.1 f0.2 x2) (qu (a67_ (rd a0.Done s)) (loadMA (cs:=(l67 (rd a0.Done s))) ag67 sz67 Z hhas472) (We (Al ze67 Z) Z ?_))
 rintro _ _ _ - ⟨rfl,t4,rfl,rfl⟩
 refine We (Sg (v:=(a67_ (rd a0.Done s))) (vl:=(l67 (rd a0.Done s))) (arr':=(l67 (rd a0.Done s))) Z sz67 Z Z (onb Z) Z Z Z) Z ?_
 rintro _ _ _ - ⟨rfl,rfl⟩
 refine Nt (WC.draw [0,0,2,7,0,16,63,0,128,511,1023] (.pure 0 (.pure 1 (.pure 2 (.pure 4 (.pure 5 (.pure 7 (.pure 8 (.alt 3 (.alt 6 (.alt 9 (.alt 10 .done .none) .none) .none) .none)))))))) QdC (by kernel_rfl) (qt b0 Z (Mv g0) (qt (pt t4 0) Z (Fa QrI Z Z) (qt (Iv ((rd a0.Done s).Client)) Z (Lb 0 pl3 Z Z Z) (qt (pt t4 1) Z (Fa QpF Z Z) (qt (Iv ((rd a0.Done s).Serial)) Z (Lb 0 pl3 Z Z Z) (qt (pt t4 2) Z (Fa Qs4 Z Z) (qt (Iv ((rd a0.Done s).Code)) Z (Lb 0 pl3 Z Z Z) ?_))))))))
 obtain ⟨B9,R4,h⟩:=bnd h
 refine WT.f2 (Ta Z (Cb co32 (Qa6 m4 ((rd a0.Done s).Client) _ _ _ t3 B9 R4) (QaU Z Z)) Z ?_ ?_)
 rintro _ cO _ x4 ⟨_,⟨bk,bl,rfl,rfl,R5⟩,rfl⟩
 refine⟨(Ss Z (Lb 1 pl3 Z Z Z) Z (Ss Z (Fa Qs4 Z Z) Z (Ss Z (Lb 1 pl3 Z Z Z) Z (Ss Z (Fa QpF Z Z) Z (Sl Z))))), ?_⟩
 refine WT.a1 ?_
 obtain ⟨C0,R6,h⟩:=bnd h
 refine Ta Z (Cb co32 (Qa6 B9 ((rd a0.Done s).Serial) _ _ _ R5 C0 R6) (QaU Z Z)) Z ?_ ?_
 rintro _ cP _ x5 ⟨_,⟨bm,bn,rfl,rfl,R7⟩,rfl⟩
 refine⟨(Ss Z (Lb 1 pl3 Z Z Z) Z (Ss Z (Fa Qs4 Z Z) Z (Sl Z))), ?_⟩
 refine WT.a1 ?_
 obtain ⟨C1,R8,h⟩:=bnd h
 refine Ta Z (Cb co32 (Qa6 C0 ((rd a0.Done s).Code) _ _ _ R7 C1 R8) (QaU Z Z)) Z ?_ ?_
 rintro _ cQ _ x6 ⟨_,⟨R9,S0,rfl,rfl,S1⟩,rfl⟩
 refine⟨(Sl Z), ?_⟩
 refine WT.a1 (Ta Z ((Ag Z).eo) Z ?_ ?_)
 rintro _ _ _ - ⟨rfl,rfl,rfl⟩
 refine⟨(Sl Z), ?_⟩
 exact Ti (Bn (Tc (Cg (qu (Iv (i64.wrap (s+1))) (add G Z) (qm (Iv (i64.wrap (s+1))) (Wz (Qa (Dr (Qa (WQ.again (C1,i64.wrap (s+1)) (oi h).symm ⟨R9,S0,(((e9.trans x4).trans x5).trans x6),Z,Z,b1,b2,Z,S1⟩))))))))))
 exact Tz
 exact Tz
 exact Tz
 exact Tz
 refine WC.exit (WQ.thenE (WQ.leaveE m4 (oi h).symm (fun x7=> ?_)))
 subst x7
 have h:=R2
 refine WQ.blockH ?_
 obtain rfl:=oi h
 exact Tj ⟨b0,e8,e9,Z,g0,t3⟩
 rintro cR cS cT ⟨U,a9,x8,rfl,t5,S2⟩
 exact Sr (qM U t5 (qa U (qa (GV GErr.nil) (Nt (Cr (Dr (Rf h [a9] Z (QgZ Z Z Z) ((((p8.trans d6).trans m2).trans m3).trans x8) ⟨U,a9,Z,Z,S2⟩)))))))
 exact Tz
 exact Tz
noncomputable def QlG (a0:(List Int)):Option QaB:=
 (some (⟨a0,(0:Int),GErr.nil⟩:QaB))
def QtT (a0:(List Int)) (e:Value):QaB→Value→IM→HL→Prop:=
 fun(c:QaB) (v:Value) (M':IM) (H':HL)=>∃ d a,(.pointer (some ⟨d,0,none⟩))=v∧H'=[[(d, .cells #[a,(.int .i64 c.at_),(GV c.err)] 130 (0,0))]]∧RS (Kd.int .u8) M' a c.b
theorem QvU (a0:(List Int)) (M:IM) (a:Value) (c:RS (Kd.int .u8) M a a0) (res:QaB) (h:QlG a0=some res):
 Tri prog 36 #[a] M [] (QtT a0 a res):=by
 unfold QlG at h
 refine Te func36 Z Z ?_
 intro F ρ hρ
 refine Sr (qa (.pointer none) (Ns (qM a (hρ 0) (qu (.agg #[a,(Iv 0),(GV GErr.nil)]) (Bl (cl:=[a,(Iv 0),(GV GErr.nil)]) JaA Q90 (Parts.cons ((congrArg Value.cells (show ev _ _=a from Z)).trans c.cells) Pz) Z) (We (box (cs:=#[a,(Iv 0),(GV GErr.nil)]) (congrArg Value.cells (show ev _ _=(.agg #[a,(Iv 0),(GV GErr.nil)]) from Z))) Z ?_)))))
 rintro _ _ _ - ⟨rfl,b,rfl,rfl⟩
 exact qa (pt b 0) (Nt (Cr (Rf h [[(b, .cells #[a,(Iv 0),(GV GErr.nil)] 130 (0,0))]] Z (Rs Z Z) lr ⟨b,a,Z,Z,c⟩)))
noncomputable def QbJ (a0:QaB) (a1:ByteArray) (a2:Int) (a3:Int):Option GErr:=
 (if a0.err.isNil=true then((QdD a1 a2 a3).bind fun a=>(some a))else(some a0.err))
def QmC (a0:QaB) (a1:ByteArray) (a2:Int) (a3:Int) (a:Value) (b:Nat):GErr→Value→IM→HL→Prop:=
 fun(c:GErr) (v:Value) (M':IM) (H':HL)=>(.tuple #[])=v∧H'=[[(b, .cells #[a,(.int .i64 a0.at_),(GV c)] 130 (0,0))]]
theorem QcE (a0:QaB) (a1:ByteArray) (a2:Int) (a3:Int) (M:IM) (a:Value) (c:Nat) (i:RS (Kd.int .u8) M a a0.b) (res:GErr) (h:QbJ a0 a1 a2 a3=some res):
 Tri prog 81 #[(pt c 0),(Sv a1),(Iv a2),(Iv a3)] M [[(c, .cells #[a,(Iv a0.at_),(GV a0.err)] 130 (0,0))]] (QmC a0 a1 a2 a3 a c res):=by
 unfold QbJ at h
 refine Te func81 Z Z ?_
 intro F ρ hρ
 refine Sr (qM (pt c 0) (hρ 0) (qu (pt c 0) (Nk Z) (qu (pt c 2) (Fa QmL Z Z) (qu (GV a0.err) (Lb 0 pl32 Z Z Z) (qu (Bv a0.err.isNil) (errNil underlying32 Z) (Nt (Ch h Z (fun f h=> ?_) (fun f h=> ?_))))))))
 refine Cg (qM (pt c 0) (hρ 0) (qM (Sv a1) (hρ 1) (qM (Iv a2) (hρ 2) (qM (Iv a3) (hρ 3) ?_))))
 obtain ⟨d,g,h⟩:=bnd h
 refine We (Ca co27 (Qc0 a1 a2 a3 _ d g) (QhR Z Z Z)) Z ?_
 rintro _ j _ e ⟨_,⟨rfl,rfl⟩,rfl⟩
 refine WL.a0 (qu (pt c 0) (Nk Z) (qu (pt c 2) (Fa QmL Z Z) (We (Es (GV d) [a,(Iv a0.at_),(GV d)] (GErr.val_cells _ _ _ _) sz32 Z Z (GErr.val_one _ _ _ _) Z Z Z) Z ?_)))
 rintro _ _ _ - ⟨rfl,rfl⟩
 exact Wz (WQ.endsF h [[(c, .cells #[a,(Iv a0.at_),(GV d)] 130 (0,0))]] Z (QwT Z) e ⟨Z,Z⟩)
 exact Ck (WQ.endsF h [[(c, .cells #[a,(Iv a0.at_),(GV a0.err)] 130 (0,0))]] Z (QwT Z) lr ⟨Z,Z⟩)
noncomputable def QaS (a0:Int) (a1:(List Int)) (a2:Int):Option (Int×Int):=
 (grd (0≤a2∧a2<a1.length) (some (orI .u64 (shlI .u64 a0 (8:Int)) (u64.wrap (rd a1 a2)),i64.wrap (a2+(1:Int)))))
def Ql5 (a0:Int) (a1:(List Int)) (a2:Int) (a:Value) (b c d:Nat):(Int×Int)→Value→IM→HL→Prop:=
 fun(p_:(Int×Int)) (v:Value) (M':IM) (H':HL)=>match p_ with |(e,f)=>(.tuple #[])=v∧H'=[[(b, .cells #[(.int .u64 e)] 128 (0,0))],[(c, .cells #[a] 38 (0,0))],[(d, .cells #[(.int .i64 f)] 3 (0,0))]]
theorem QcI (a0:Int) (a1:(List Int)) (a2:Int) (M:IM) (d:Value) (e f g:Nat) (k:RS (Kd.int .u8) M d a1) (res:(Int×Int)) (h:QaS a0 a1 a2=some res):
 Tri prog 116 #[(pt e 0),(pt f 0),(pt g 0)] M [[(e, .cells #[(Uv a0)] 128 (0,0))],[(f, .cells #[d] 38 (0,0))],[(g, .cells #[(Iv a2)] 3 (0,0))]] (Ql5 a0 a1 a2 d e f g res):=by
 unfold QaS at h
 refine Te func116 Z Z ?_
 intro F ρ hρ
 refine Cs (WC.draw [0,1,0,0,12,28,60,127,255] (.pure 0 (.pure 1 (.pure 2 (.pure 3 (.pure 4 (.pure 5 (.pure 6 (.pure 7 (.alt 8 .done .none))))))))) QdC (by kernel_rfl) (qt (Uv a0) Z (Lb 0 Q38 (hρ 0) Z Z) (qt (Uv (shlI .u64 a0 (8:Int))) Z (shl Z Z (by decide)) (qt d Z (Lb 1 pl38 (hρ 1) Z Z) (qt (Iv a2) Z (Lb 2 pl3 (hρ 2) Z Z) ?_)))))
 obtain ⟨a,h⟩:=QaQ h
 obtain ⟨i,j,b,c,hhas26⟩:=k.at a.1 a.2 (by decide)
 obtain rfl:=c
 refine qt (.pointer (some i)) Z (indexAddr (n:=a1.length) underlying38 sz5 Z Z a.1 a.2 b) (qt (Yv (rd a1 a2)) Z (loadM pl5 Z (IM.has0 hhas26)) (qt (Uv (u64.wrap (rd a1 a2))) Z (conv us5 underlying128 Z) (qt (Uv (orI .u64 (shlI .u64 a0 (8:Int)) (u64.wrap (rd a1 a2)))) Z (PO.or Z Z) (Ta Z (Es (Uv (orI .u64 (shlI .u64 a0 (8:Int)) (u64.wrap (rd a1 a2)))) [(Uv (orI .u64 (shlI .u64 a0 (8:Int)) (u64.wrap (rd a1 a2))))] Z Q7S (hρ 0) Z Z Z Z Z) Z ?_ ?_))))
 rintro _ _ _ - ⟨rfl,rfl⟩
 refine⟨(Sl Z), ?_⟩
 refine Ti (Tc (Cg (qu (Iv a2) (Lb 2 pl3 (hρ 2) Z Z) (qu (Iv (i64.wrap (a2+1))) (add Z Z) (Wb (We (Es (Iv (i64.wrap (a2+1))) [(Iv (i64.wrap (a2+1)))] Z sz3 (hρ 2) Z Z Z Z Z) Z ?_))))))
 rintro _ _ _ - ⟨rfl,rfl⟩
 exact Wz (Qb (Qb (WQ.endsF h [[(e, .cells #[(Uv (orI .u64 (shlI .u64 a0 (8:Int)) (u64.wrap (rd a1 a2))))] 128 (0,0))],[(f, .cells #[d] 38 (0,0))],[(g, .cells #[(Iv (i64.wrap (a2+1)))] 3 (0,0))]] Z (QwT Z) lr ⟨Z,Z⟩)))
 exact Tz
noncomputable def QdE (a0:QaB) (a1:Int):Option (Int×Int×GErr):=
 (if(!a0.err.isNil)=true then(some ((0:Int),a0.at_,a0.err))else(grd (0≤a0.at_∧a0.at_≤(a0.b.length:Int)∧(a0.b.length:Int)≤(a0.b.length:Int)) (if(decide (((sub a0.b a0.at_ (a0.b.length:Int)).length:Int)=(0:Int)))=true then((QbJ a0 (⟨#[110,117,109]⟩:ByteArray) a0.at_ (3:Int)).bind fun e=>(some ((0:Int),a0.at_,e)))else(grd (0≤(0:Int)∧(0:Int)<(sub a0.b a0.at_ (a0.b.length:Int)).length) (grd (0≤shrI .u8 (rd (sub a0.b a0.at_ (a0.b.length:Int)) (0:Int)) (6:Int)) (if(decide (((sub a0.b a0.at_ (a0.b.length:Int)).length:Int)<(shlI .i64 (1:Int) (shrI .u8 (rd (sub a0.b a0.at_ (a0.b.length:Int)) (0:Int)) (6:Int)))))=true then((QbJ a0 (⟨#[110,117,109]⟩:ByteArray) a0.at_ (3:Int)).bind fun f=>(some ((0:Int),a0.at_,f)))else(grd (0≤(0:Int)∧(0:Int)<(sub a0.b a0.at_ (a0.b.length:Int)).length) (((((((if(decide ((shlI .i64 (1:Int) (shrI .u8 (rd (sub a0.b a0.at_ (a0.b.length:Int)) (0:Int)) (6:Int)))=(8:Int)))=true then((QaS (u64.wrap (andI .u8 (rd (sub a0.b a0.at_ (a0.b.length:Int)) (0:Int)) (63:Int))) (sub a0.b a0.at_ (a0.b.length:Int)) (1:Int)).bind fun(g,i)=>((QaS g (sub a0.b a0.at_ (a0.b.length:Int)) i).bind fun(j,k)=>((QaS j (sub a0.b a0.at_ (a0.b.length:Int)) k).bind fun(l,m)=>((QaS l (sub a0.b a0.at_ (a0.b.length:Int)) m).bind fun(n,o)=>(some (inl (u64.wrap ((0:Int)+(1073725440:Int)),o,n)))))))else(if(decide ((shlI .i64 (1:Int) (shrI .u8 (rd (sub a0.b a0.at_ (a0.b.length:Int)) (0:Int)) (6:Int)))=(4:Int)))=true then(some (inl ((0:Int),(1:Int),u64.wrap (andI .u8 (rd (sub a0.b a0.at_ (a0.b.length:Int)) (0:Int)) (63:Int)))))else(if(decide ((shlI .i64 (1:Int) (shrI .u8 (rd (sub a0.b a0.at_ (a0.b.length:Int)) (0:Int)) (6:Int)))=(2:Int)))=true then(((some (inl ((0:Int),(1:Int),u64.wrap (andI .u8 (rd (sub a0.b a0.at_ (a0.b.length:Int)) (0:Int)) (63:Int)))))).bind fun r=>some (inr r))else(((((some ((0:Int),(1:Int),u64.wrap (andI .u8 (rd (sub a0.b a0.at_ (a0.b.length:Int)) (0:Int)) (63:Int))))).bind fun r=>some (inr r))).bind fun r=>some (inr r))))):Option ((Int×Int×Int)⊕((Int×Int×Int)⊕(Int×Int×Int)))).bind (Sum.elim (fun(p,q,s)=>((QaS s (sub a0.b a0.at_ (a0.b.length:Int)) q).bind fun(t,u)=>((QaS t (sub a0.b a0.at_ (a0.b.length:Int)) u).bind fun(v,w)=>(some (inl (u64.wrap (p+(16320:Int)),w,v)))))) some)):Option ((Int×Int×Int)⊕(Int×Int×Int))).bind (Sum.elim (fun(x,y,z)=>((QaS z (sub a0.b a0.at_ (a0.b.length:Int)) y).bind fun(A,B)=>(some (u64.wrap (x+(64:Int)),B,A)))) some)):Option (Int×Int×Int)).bind fun(C,D,a)=>(if(decide (a<C))=true then((QbJ a0 (⟨#[110,117,109]⟩:ByteArray) a0.at_ (5:Int)).bind fun c=>(some ((0:Int),a0.at_,c)))else(if(decide (a1<a))=true then((QbJ a0 (⟨#[110,117,109]⟩:ByteArray) a0.at_ (6:Int)).bind fun d=>(some ((0:Int),a0.at_,d)))else(some (a,i64.wrap (a0.at_+(shlI .i64 (1:Int) (shrI .u8 (rd (sub a0.b a0.at_ (a0.b.length:Int)) (0:Int)) (6:Int)))),a0.err))))))))))))
def Qm1 (a0:QaB) (a1:Int) (a:Value) (b:Nat):(Int×Int×GErr)→Value→IM→HL→Prop:=
 fun(p_:(Int×Int×GErr)) (v:Value) (M':IM) (H':HL)=>match p_ with |(c,d,e)=>(.int .u64 c)=v∧H'=[[(b, .cells #[a,(.int .i64 d),(GV e)] 130 (0,0))]]
theorem QoW (a0:QaB) (a1:Int) (M:IM) (a:Value) (e:Nat) (i:RS (Kd.int .u8) M a a0.b) (res:(Int×Int×GErr)) (h:QdE a0 a1=some res):
 Tri prog 80 #[(pt e 0),(Uv a1)] M [[(e, .cells #[a,(Iv a0.at_),(GV a0.err)] 130 (0,0))]] (Qm1 a0 a1 a e res):=by
 unfold QdE at h
 refine Te func80 Z Z ?_
 intro F ρ hρ
 refine Sr (qa (Uv 0) (Nt (Cs (Sr (qM (pt e 0) (hρ 0) (qu (pt e 0) (Nk Z) (qu (pt e 2) (Fa QmL Z Z) (qu (GV a0.err) (Lb 0 pl32 Z Z Z) (qu (Bv (!a0.err.isNil)) (errNotNil underlying32 Z) (Nt (Ch h Z (fun b9 h=> ?_) (fun b9 h=> ?_))))))))))))
 exact Sr (qa (Uv 0) (Nt (Cr (Tr (Rf h [[(e, .cells #[a,(Iv a0.at_),(GV a0.err)] 130 (0,0))]] Z (Rs Z Z) lr ⟨Z,Z⟩)))))
 refine Ck (Tc (Cs (WC.draw [0,1,3,7,0,16,48,112,255,0,1023] (.pure 0 (.pure 1 (.pure 2 (.pure 3 (.pure 4 (.pure 5 (.pure 6 (.pure 7 (.pure 8 (.alt 9 (.alt 10 .done .none) .none)))))))))) QdC (by kernel_rfl) (qt (pt e 0) Z (Mv (hρ 0)) (qt (pt e 0) Z (Nk Z) (qt (pt e 0) Z (Fa QnW Z Z) (qt a Z (Lb 0 pl38 Z Z Z) (qt (pt e 0) Z (Mv (hρ 0)) (qt (pt e 0) Z (Nk Z) (qt (pt e 1) Z (Fa QdY Z Z) (qt (Iv a0.at_) Z (Lb 0 pl3 Z Z Z) ?_)))))))))))
 obtain ⟨j,h⟩:=QaQ h
 have c:=i.sub j.1 j.2.1 j.2.2
 refine qt (slV a 1 (a0.at_).toNat ((a0.b.length:Int)).toNat) Z (slice (n:=a0.b.length) (l:=(a0.at_).toNat) (h:=((a0.b.length:Int)).toNat) underlying38 sz5 Z i.len i.cap ⟨_,_,Z,j.1,Z⟩ (QwY Z) (Int.toNat_le_toNat j.2.1) (Qg5 j.2.2)) (Ta Z (Al ze38 Z) Z ?_ ?_)
 rintro _ _ _ - ⟨rfl,f,rfl,rfl⟩
 refine⟨(Ss Z (slice (n:=a0.b.length) (l:=(a0.at_).toNat) (h:=((a0.b.length:Int)).toNat) underlying38 sz5 Z i.len i.cap ⟨_,_,Z,j.1,Z⟩ (QwY Z) (Int.toNat_le_toNat j.2.1) (Qg5 j.2.2)) Z (Ss Z (Lb 1 pl3 Z Z Z) Z (Ss Z (Fa QdY Z Z) Z (Ss Z (Nk Z) Z (Ss Z (Mv (hρ 0)) Z (Ss Z (Lb 1 pl38 Z Z Z) Z (Ss Z (Fa QnW Z Z) Z (Ss Z (Nk Z) Z (Ss Z (Mv (hρ 0)) Z trivial))))))))), ?_⟩
 refine Ta Z (Es (slV a 1 (a0.at_).toNat ((a0.b.length:Int)).toNat) [(slV a 1 (a0.at_).toNat ((a0.b.length:Int)).toNat)] c.cells sz38 Z Z (RS.one c) Z Z Z) Z ?_ ?_
 rintro _ _ _ - ⟨rfl,rfl⟩
 refine⟨(Sl Z), ?_⟩
 refine Ti (Tc (Cs (Sr (qu (slV a 1 (a0.at_).toNat ((a0.b.length:Int)).toNat) (Lb 0 pl38 Z Z Z) (qu (Iv ((sub a0.b a0.at_ (a0.b.length:Int)).length:Int)) (lenS underlying38 Z c.len) (qu (Bv (decide (((sub a0.b a0.at_ (a0.b.length:Int)).length:Int)=(0:Int)))) (eql Z Z) (Nt (Ch h Z (fun c0 h=> ?_) (fun c0 h=> ?_)))))))))
 refine Sr (qM (pt e 0) (hρ 0) (qM (pt e 0) (hρ 0) (qu (pt e 0) (Nk Z) (qu (pt e 1) (Fa QdY Z Z) (qu (Iv a0.at_) (Lb 1 pl3 Z Z Z) ?_)))))
 obtain ⟨c1,c2,h⟩:=bnd h
 refine WL.f1 (We (Cb co81 (QcE a0 (⟨#[110,117,109]⟩:ByteArray) a0.at_ (3:Int) _ _ _ i c1 c2) (QlT Z Z Z Z)) Z ?_)
 rintro _ g9 _ a2 ⟨_,⟨rfl,rfl⟩,rfl⟩
 exact WL.a1 (Ns (qa (Uv 0) (Nt (Cr (Tr (Qa (Dr (Rf h [[(e, .cells #[a,(Iv a0.at_),(GV c1)] 130 (0,0))]] Z (Rs Z Z) a2 ⟨Z,Z⟩))))))))
 refine Ck (Tc (Sr (qu (slV a 1 (a0.at_).toNat ((a0.b.length:Int)).toNat) (Lb 0 pl38 Z Z Z) ?_)))
 obtain ⟨r,h⟩:=QaQ h
 obtain ⟨f2,g4,a4,a5,hhas35⟩:=c.at r.1 r.2 (by decide)
 obtain rfl:=a5
 refine qu (.pointer (some f2)) (indexAddr (n:=(sub a0.b a0.at_ (a0.b.length:Int)).length) underlying38 sz5 Z Z r.1 r.2 a4) (qu (Yv (rd (sub a0.b a0.at_ (a0.b.length:Int)) (0:Int))) (loadM pl5 Z (IM.has0 hhas35)) (qu (Yv (shrI .u8 (rd (sub a0.b a0.at_ (a0.b.length:Int)) (0:Int)) (6:Int))) (shr Z Z (by decide)) ?_))
 obtain ⟨c3,h⟩:=QaQ h
 refine qu (Iv (shlI .i64 1 (shrI .u8 (rd (sub a0.b a0.at_ (a0.b.length:Int)) (0:Int)) (6:Int)))) (shl Z Z c3) (qa (Iv (shlI .i64 1 (shrI .u8 (rd (sub a0.b a0.at_ (a0.b.length:Int)) (0:Int)) (6:Int)))) (Nt (Cs (Sr (qu (slV a 1 (a0.at_).toNat ((a0.b.length:Int)).toNat) (Lb 0 pl38 Z Z Z) (qu (Iv ((sub a0.b a0.at_ (a0.b.length:Int)).length:Int)) (lenS underlying38 Z c.len) (qm (Iv (shlI .i64 1 (shrI .u8 (rd (sub a0.b a0.at_ (a0.b.length:Int)) (0:Int)) (6:Int)))) (qu (Bv (decide (((sub a0.b a0.at_ (a0.b.length:Int)).length:Int)<(shlI .i64 1 (shrI .u8 (rd (sub a0.b a0.at_ (a0.b.length:Int)) (0:Int)) (6:Int)))))) (lss Z Z) (Nt (Ch h Z (fun c4 h=> ?_) (fun c4 h=> ?_)))))))))))
 refine Sr (qM (pt e 0) (hρ 0) (qM (pt e 0) (hρ 0) (qu (pt e 0) (Nk Z) (qu (pt e 1) (Fa QdY Z Z) (qu (Iv a0.at_) (Lb 1 pl3 Z Z Z) ?_)))))
 obtain ⟨c5,c6,h⟩:=bnd h
 refine WL.f1 (We (Cb co81 (QcE a0 (⟨#[110,117,109]⟩:ByteArray) a0.at_ (3:Int) _ _ _ i c5 c6) (QlT Z Z Z Z)) Z ?_)
 rintro _ h0 _ a6 ⟨_,⟨rfl,rfl⟩,rfl⟩
 exact WL.a1 (Ns (qa (Uv 0) (Nt (Cr (Tr (Qa (Dr (Rf h [[(e, .cells #[a,(Iv a0.at_),(GV c5)] 130 (0,0))]] Z (Rs Z Z) a6 ⟨Z,Z⟩))))))))
 refine Ck (Tc (Sr (qu (slV a 1 (a0.at_).toNat ((a0.b.length:Int)).toNat) (Lb 0 pl38 Z Z Z) ?_)))
 obtain ⟨s,h⟩:=QaQ h
 obtain ⟨f4,g5,a7,a8,hhas48⟩:=c.at s.1 s.2 (by decide)
 obtain rfl:=a8
 refine qu (.pointer (some f4)) (indexAddr (n:=(sub a0.b a0.at_ (a0.b.length:Int)).length) underlying38 sz5 Z Z s.1 s.2 a7) (qu (Yv (rd (sub a0.b a0.at_ (a0.b.length:Int)) (0:Int))) (loadM pl5 Z (IM.has0 hhas48)) (qu (Yv (andI .u8 (rd (sub a0.b a0.at_ (a0.b.length:Int)) (0:Int)) (63:Int))) (PO.and Z Z) (qu (Uv (u64.wrap (andI .u8 (rd (sub a0.b a0.at_ (a0.b.length:Int)) (0:Int)) (63:Int)))) (conv us5 underlying128 Z) (We (Al Q99 Z) Z ?_))))
 rintro _ _ _ - ⟨rfl,d,rfl,rfl⟩
 refine We (Al ze3 Z) Z ?_
 rintro _ _ _ - ⟨rfl,g,rfl,rfl⟩
 refine WL.f1 (We (Es (Uv (u64.wrap (andI .u8 (rd (sub a0.b a0.at_ (a0.b.length:Int)) (0:Int)) (63:Int)))) [(Uv (u64.wrap (andI .u8 (rd (sub a0.b a0.at_ (a0.b.length:Int)) (0:Int)) (63:Int))))] Z Q7S Z Z Z Z Z Z) Z ?_)
 rintro _ _ _ - ⟨rfl,rfl⟩
 refine WL.f1 (We (Es (Iv 1) [(Iv 1)] Z sz3 Z Z Z Z Z Z) Z ?_)
 rintro _ _ _ - ⟨rfl,rfl⟩
 refine Ns (qu (.func (.func 116) #[] #[(pt d 0),(pt f 0),(pt g 0)]) (makeFunc2 (QmX) (QhR (show ev _ _=(pt d 0) from Z) (show ev _ _=(pt f 0) from Z) (show ev _ _=(pt g 0) from Z))) (qa (.func (.func 116) #[] #[(pt d 0),(pt f 0),(pt g 0)]) (Ns (qa (Uv 0) (Nt ?_)))))
 obtain ⟨c7,c8,h⟩:=bnd h
 refine Jf (fun(p_:(Int×Int×Int)) ρ' M' H'=>match p_ with |(t,c9,o)=>M.le M'∧[(g, .cells #[(Iv c9)] 3 (0,0))]::[(d, .cells #[(Uv o)] 128 (0,0))]::[(f, .cells #[(slV a 1 (a0.at_).toNat ((a0.b.length:Int)).toNat)] 38 (0,0))]::[(e, .cells #[a,(Iv a0.at_),(GV a0.err)] 130 (0,0))]::F=H'∧ρ' 0=(pt e 0)∧ρ' 1=(Uv a1)∧ρ' 6=(Iv (shlI .i64 1 (shrI .u8 (rd (sub a0.b a0.at_ (a0.b.length:Int)) (0:Int)) (6:Int))))∧ρ' 7=(pt d 0)∧ρ' 10=(Uv t)) c7 ?_ ?_
 have h:=c8
 refine Sr (qm (Iv (shlI .i64 1 (shrI .u8 (rd (sub a0.b a0.at_ (a0.b.length:Int)) (0:Int)) (6:Int)))) (Nt (Bk ?_)))
 obtain ⟨f5,d0,h⟩:=bnd h
 refine WC.joinE (fun(p_:(Int×Int×Int)) ρ' M' H'=>match p_ with |(u,a9,b0)=>M.le M'∧[(g, .cells #[(Iv a9)] 3 (0,0))]::[(d, .cells #[(Uv b0)] 128 (0,0))]::[(f, .cells #[(slV a 1 (a0.at_).toNat ((a0.b.length:Int)).toNat)] 38 (0,0))]::[(e, .cells #[a,(Iv a0.at_),(GV a0.err)] 130 (0,0))]::F=H'∧ρ' 0=(pt e 0)∧ρ' 1=(Uv a1)∧ρ' 6=(Iv (shlI .i64 1 (shrI .u8 (rd (sub a0.b a0.at_ (a0.b.length:Int)) (0:Int)) (6:Int))))∧ρ' 7=(pt d 0)∧ρ' 9=(.func (.func 116) #[] #[(pt d 0),(pt f 0),(pt g 0)])∧ρ' 10=(Uv u)) f5 ?_ ?_
 have d1:=h
 have h:=d0
 refine Bk ?_
 obtain ⟨f6,d2,h⟩:=bnd h
 refine WC.joinE (fun(p_:(Int×Int×Int)) ρ' M' H'=>match p_ with |(v,b1,b2)=>M.le M'∧[(g, .cells #[(Iv b1)] 3 (0,0))]::[(d, .cells #[(Uv b2)] 128 (0,0))]::[(f, .cells #[(slV a 1 (a0.at_).toNat ((a0.b.length:Int)).toNat)] 38 (0,0))]::[(e, .cells #[a,(Iv a0.at_),(GV a0.err)] 130 (0,0))]::F=H'∧ρ' 0=(pt e 0)∧ρ' 1=(Uv a1)∧ρ' 6=(Iv (shlI .i64 1 (shrI .u8 (rd (sub a0.b a0.at_ (a0.b.length:Int)) (0:Int)) (6:Int))))∧ρ' 7=(pt d 0)∧ρ' 9=(.func (.func 116) #[] #[(pt d 0),(pt f 0),(pt g 0)])∧ρ' 10=(Uv v)) f6 ?_ ?_
 have W:=h
 have h:=d2
 refine Bk (Cs (Bk (Cs (Cs (Sr (qu (Bv (decide ((shlI .i64 1 (shrI .u8 (rd (sub a0.b a0.at_ (a0.b.length:Int)) (0:Int)) (6:Int)))=8))) (eql Z Z) (qa (Bv (decide ((shlI .i64 1 (shrI .u8 (rd (sub a0.b a0.at_ (a0.b.length:Int)) (0:Int)) (6:Int)))=8))) (Nt (Ch h Z (fun d3 h=> ?_) (fun d3 h=> ?_))))))))))
 refine WC.exit (WQ.thenE (WQ.thenE (WQ.blockH (Tc (Sr (qm (.func (.func 116) #[] #[(pt d 0),(pt f 0),(pt g 0)]) ?_))))))
 obtain ⟨⟨d4,d5⟩,d6,h⟩:=bnd h
 refine Wb (Wb (We (callV3 (first:=#[]) (cap:=#[(pt d 0),(pt f 0),(pt g 0)]) QzD Z (QcI (u64.wrap (andI .u8 (rd (sub a0.b a0.at_ (a0.b.length:Int)) (0:Int)) (63:Int))) (sub a0.b a0.at_ (a0.b.length:Int)) (1:Int) _ _ _ _ _ c (d4,d5) d6) (QeS Z)) Z ?_))
 rintro _ h1 _ w ⟨_,⟨rfl,rfl⟩,rfl⟩
 refine WL.a3 (Ns (qm (.func (.func 116) #[] #[(pt d 0),(pt f 0),(pt g 0)]) ?_))
 obtain ⟨⟨d7,d8⟩,d9,h⟩:=bnd h
 refine Wb (Wb (Wb ?_))
 have c:=c.mono w
 refine We (callV3 (first:=#[]) (cap:=#[(pt d 0),(pt f 0),(pt g 0)]) QzD Z (QcI d4 (sub a0.b a0.at_ (a0.b.length:Int)) d5 _ _ _ _ _ c (d7,d8) d9) (QeS Z)) Z ?_
 rintro _ h2 _ x ⟨_,⟨rfl,rfl⟩,rfl⟩
 refine WL.a3 (Ns (qm (.func (.func 116) #[] #[(pt d 0),(pt f 0),(pt g 0)]) ?_))
 obtain ⟨⟨e0,e1⟩,e2,h⟩:=bnd h
 refine Wb (Wb (Wb ?_))
 have c:=c.mono x
 refine We (callV3 (first:=#[]) (cap:=#[(pt d 0),(pt f 0),(pt g 0)]) QzD Z (QcI d7 (sub a0.b a0.at_ (a0.b.length:Int)) d8 _ _ _ _ _ c (e0,e1) e2) (QeS Z)) Z ?_
 rintro _ h3 _ y ⟨_,⟨rfl,rfl⟩,rfl⟩
 refine WL.a3 (Ns (qm (.func (.func 116) #[] #[(pt d 0),(pt f 0),(pt g 0)]) ?_))
 obtain ⟨⟨f7,f8⟩,e3,h⟩:=bnd h
 refine Wb (Wb (Wb ?_))
 have c:=c.mono y
 refine We (callV3 (first:=#[]) (cap:=#[(pt d 0),(pt f 0),(pt g 0)]) QzD Z (QcI e0 (sub a0.b a0.at_ (a0.b.length:Int)) e1 _ _ _ _ _ c (f7,f8) e3) (QeS Z)) Z ?_
 rintro _ h4 _ b3 ⟨_,⟨rfl,rfl⟩,rfl⟩
 refine WL.a3 (Nt (Cg (qm (Uv 0) (qu (Uv (u64.wrap ((0:Int)+(1073725440:Int)))) (add Z Z) (qa (Uv (u64.wrap ((0:Int)+(1073725440:Int)))) (Wz (Bn (WQ.f3 (Qb (Qb (WQ.f3 ?_)))))))))))
 exact WQ.thenFE h ⟨(((w.trans x).trans y).trans b3),Z,(hρ 0),(hρ 1),Z,Z,Z,Z⟩
 refine Ck (Tc (Cs (Sr (qu (Bv (decide ((shlI .i64 1 (shrI .u8 (rd (sub a0.b a0.at_ (a0.b.length:Int)) (0:Int)) (6:Int)))=4))) (eql Z Z) (qa (Bv (decide ((shlI .i64 1 (shrI .u8 (rd (sub a0.b a0.at_ (a0.b.length:Int)) (0:Int)) (6:Int)))=4))) (Nt (Ch h Z (fun e4 h=> ?_) (fun e4 h=> ?_))))))))
 exact WC.exit (WQ.thenE (WQ.thenE (WQ.blockM Z (WQ.thenE (WQ.blockH (WQ.thenFE h ⟨lr,Z,(hρ 0),(hρ 1),Z,Z,Z,Z⟩))))))
 refine Ck (Tc (Sr (qu (Bv (decide ((shlI .i64 1 (shrI .u8 (rd (sub a0.b a0.at_ (a0.b.length:Int)) (0:Int)) (6:Int)))=2))) (eql Z Z) (qa (Bv (decide ((shlI .i64 1 (shrI .u8 (rd (sub a0.b a0.at_ (a0.b.length:Int)) (0:Int)) (6:Int)))=2))) (Nt (Ch h Z (fun e5 h=> ?_) (fun e5 h=> ?_)))))))
 refine WC.exit (WQ.thenE (WQ.blockM Z (WQ.thenE (WQ.blockM Z (WQ.thenE ?_)))))
 have h:=KK.early h W
 exact WQ.blockH (WQ.thenFE h ⟨lr,Z,(hρ 0),(hρ 1),Z,Z,Z,Z⟩)
 refine Ck (Tc (WC.exit (WQ.blockM Z (WQ.thenE (WQ.blockM Z (WQ.thenE ?_))))))
 have h:=KK.early h W
 refine WQ.blockM Z (WQ.thenE ?_)
 have h:=KK.early h d1
 refine WQ.blockH ?_
 obtain rfl:=oi h
 exact Tj ⟨lr,Z,(hρ 0),(hρ 1),Z,Z,Z⟩
 rintro ⟨v,b1,b2⟩ h5 h6 h7 rfl ⟨z,rfl,G,I,J,K,p,A⟩
 have h:=(Sum.elim_inl _ _ _).symm.trans h
 refine Sr (qM (.func (.func 116) #[] #[(pt d 0),(pt f 0),(pt g 0)]) p ?_)
 obtain ⟨⟨e6,e7⟩,e8,h⟩:=bnd h
 refine Wb (Wb ?_)
 have c:=c.mono z
 refine We (callV3 (first:=#[]) (cap:=#[(pt d 0),(pt f 0),(pt g 0)]) QzD Z (QcI b2 (sub a0.b a0.at_ (a0.b.length:Int)) b1 _ _ _ _ _ c (e6,e7) e8) (QeS Z)) Z ?_
 rintro _ h8 _ B ⟨_,⟨rfl,rfl⟩,rfl⟩
 refine WL.a3 (Ns (qM (.func (.func 116) #[] #[(pt d 0),(pt f 0),(pt g 0)]) p ?_))
 obtain ⟨⟨f9,g1⟩,e9,h⟩:=bnd h
 refine Wb (Wb (Wb ?_))
 have c:=c.mono B
 refine We (callV3 (first:=#[]) (cap:=#[(pt d 0),(pt f 0),(pt g 0)]) QzD Z (QcI e6 (sub a0.b a0.at_ (a0.b.length:Int)) e7 _ _ _ _ _ c (f9,g1) e9) (QeS Z)) Z ?_
 rintro _ h9 _ b4 ⟨_,⟨rfl,rfl⟩,rfl⟩
 refine WL.a3 (Nt (Cg (qM (Uv v) A (qu (Uv (u64.wrap (v+16320))) (add Z Z) (qa (Uv (u64.wrap (v+16320))) (Wz (Bn (WQ.f3 (Qb (Qb (WQ.f3 ?_)))))))))))
 exact WQ.thenFE h ⟨((z.trans B).trans b4),Z,G,I,J,K,p,Z⟩
 rintro ⟨u,a9,b0⟩ i0 i1 i2 rfl ⟨C,rfl,L,N,O,P,Q,D⟩
 have h:=(Sum.elim_inl _ _ _).symm.trans h
 refine Cs (Sr (qM (.func (.func 116) #[] #[(pt d 0),(pt f 0),(pt g 0)]) Q ?_))
 obtain ⟨⟨g2,g3⟩,f0,h⟩:=bnd h
 refine Wb (Wb ?_)
 have c:=c.mono C
 refine We (callV3 (first:=#[]) (cap:=#[(pt d 0),(pt f 0),(pt g 0)]) QzD Z (QcI b0 (sub a0.b a0.at_ (a0.b.length:Int)) a9 _ _ _ _ _ c (g2,g3) f0) (QeS Z)) Z ?_
 rintro _ g6 _ R ⟨_,⟨rfl,rfl⟩,rfl⟩
 refine WL.a3 (Nt (Cg (qM (Uv u) D (qu (Uv (u64.wrap (u+64))) (add Z Z) (qa (Uv (u64.wrap (u+64))) (Nt (WC.exit (WQ.blockH (WQ.f3 (Qb (Qb ?_)))))))))))
 refine WQ.f3 ?_
 obtain rfl:=oi h
 exact Tj ⟨(C.trans R),Z,L,N,O,P,Z⟩
 obtain ⟨t,c9,o⟩:=c7
 rintro i3 i4 i5 ⟨m,rfl,k,S,T,q,E⟩
 refine Cs (Bk (Sr (qu (Uv o) (Lb 1 Q38 q Z Z) (qM (Uv t) E (qu (Bv (decide (o<t))) (lss Z Z) (qa (Bv (decide (o<t))) (Nt (Ch h Z (fun b5 h=> ?_) (fun b5 h=> ?_)))))))))
 refine Sr (qM (pt e 0) k (qM (pt e 0) k (qu (pt e 0) (Nk Z) (qu (pt e 1) (Fa QdY Z Z) (qu (Iv a0.at_) (Lb 3 pl3 Z Z Z) ?_)))))
 obtain ⟨X,b6,h⟩:=bnd h
 refine WL.f3 ?_
 have i:=i.mono m
 refine We (Cb co81 (QcE a0 (⟨#[110,117,109]⟩:ByteArray) a0.at_ (5:Int) _ _ _ i X b6) (QlT Z Z Z Z)) Z ?_
 rintro _ g7 _ U ⟨_,⟨rfl,rfl⟩,rfl⟩
 refine WL.a1 (Ns (qa (Uv 0) (Nt (Cr (Br (Tr (Qa (Dr (Qa (Dr (Qa ?_)))))))))))
 exact Dr (Rf h [[(e, .cells #[a,(Iv a0.at_),(GV X)] 130 (0,0))]] Z (Rs Z Z) (m.trans U) ⟨Z,Z⟩)
 refine Sr (qu (Uv o) (Lb 1 Q38 q Z Z) (qM (Uv a1) S (qu (Bv (decide (a1<o))) (gtr Z Z) (qa (Bv (decide (a1<o))) (Nt (Ch h Z (fun b7 h=> ?_) (fun b7 h=> ?_)))))))
 refine Sr (qM (pt e 0) k (qM (pt e 0) k (qu (pt e 0) (Nk Z) (qu (pt e 1) (Fa QdY Z Z) (qu (Iv a0.at_) (Lb 3 pl3 Z Z Z) ?_)))))
 obtain ⟨Y,b8,h⟩:=bnd h
 refine WL.f3 ?_
 have i:=i.mono m
 refine We (Cb co81 (QcE a0 (⟨#[110,117,109]⟩:ByteArray) a0.at_ (6:Int) _ _ _ i Y b8) (QlT Z Z Z Z)) Z ?_
 rintro _ g8 _ V ⟨_,⟨rfl,rfl⟩,rfl⟩
 refine WL.a1 (Ns (qa (Uv 0) (Nt (Cr (Br (Tr (Qa (Dr (Qa (Dr (Qa ?_)))))))))))
 exact Dr (Rf h [[(e, .cells #[a,(Iv a0.at_),(GV Y)] 130 (0,0))]] Z (Rs Z Z) (m.trans V) ⟨Z,Z⟩)
 refine Ck (Bn (Tc (Sr (qM (pt e 0) k (qu (pt e 0) (Nk Z) (qu (pt e 1) (Fa QdY Z Z) (qu (Iv a0.at_) (Lb 3 pl3 Z Z Z) (qM (Iv (shlI .i64 1 (shrI .u8 (rd (sub a0.b a0.at_ (a0.b.length:Int)) (0:Int)) (6:Int)))) T (qu (Iv (i64.wrap (a0.at_+(shlI .i64 1 (shrI .u8 (rd (sub a0.b a0.at_ (a0.b.length:Int)) (0:Int)) (6:Int)))))) (add Z Z) (qu (pt e 0) (Nk Z) (qu (pt e 1) (Fa QdY Z Z) ?_)))))))))))
 refine WL.f3 (We (Es (Iv (i64.wrap (a0.at_+(shlI .i64 1 (shrI .u8 (rd (sub a0.b a0.at_ (a0.b.length:Int)) (0:Int)) (6:Int)))))) [a,(Iv (i64.wrap (a0.at_+(shlI .i64 1 (shrI .u8 (rd (sub a0.b a0.at_ (a0.b.length:Int)) (0:Int)) (6:Int)))))),(GV a0.err)] Z sz3 Z Z Z Z Z Z) Z ?_)
 rintro _ _ _ - ⟨rfl,rfl⟩
 exact Ns (qu (Uv o) (Lb 2 Q38 q Z Z) (qa (Uv o) (Nt (Cr (Qa (Dr (Qa (Dr (Qa (Dr (Rf h [[(e, .cells #[a,(Iv (i64.wrap (a0.at_+(shlI .i64 1 (shrI .u8 (rd (sub a0.b a0.at_ (a0.b.length:Int)) (0:Int)) (6:Int)))))),(GV a0.err)] 130 (0,0))]] Z (Rs Z Z) m ⟨Z,Z⟩)))))))))))
 exact Tz
 exact Tz
noncomputable def QbB (a0:QaB) (a1:Int):Option (Int×Int×GErr):=
 ((QdE a0 (u64.wrap (if a1<(0:Int)then(0:Int)else a1))).bind fun(a,b,c)=>(some (i64.wrap a,b,c)))
def Qm2 (a0:QaB) (a1:Int) (a:Value) (b:Nat):(Int×Int×GErr)→Value→IM→HL→Prop:=
 fun(p_:(Int×Int×GErr)) (v:Value) (M':IM) (H':HL)=>match p_ with |(c,d,e)=>(.int .i64 c)=v∧H'=[[(b, .cells #[a,(.int .i64 d),(GV e)] 130 (0,0))]]
theorem Qb5 (a0:QaB) (a1:Int) (M:IM) (a:Value) (e:Nat) (f:RS (Kd.int .u8) M a a0.b) (res:(Int×Int×GErr)) (h:QbB a0 a1=some res):
 Tri prog 38 #[(pt e 0),(Iv a1)] M [[(e, .cells #[a,(Iv a0.at_),(GV a0.err)] 130 (0,0))]] (Qm2 a0 a1 a e res):=by
 unfold QbB at h
 refine Te func38 Z Z ?_
 intro F ρ hρ
 refine Sr (qa (Iv 0) (Ns (qM (pt e 0) (hρ 0) (qM (Iv a1) (hρ 1) (qu (Iv (if a1<0 then(0:Int)else a1)) (PO.max Z Z) (qu (Uv (u64.wrap (if a1<0 then(0:Int)else a1))) (conv us3 underlying128 Z) ?_))))))
 obtain ⟨⟨c,g,i⟩,j,h⟩:=bnd h
 refine We (Cb co80 (QoW a0 (u64.wrap (if a1<0 then(0:Int)else a1)) _ _ _ f (c,g,i) j) (QaU Z Z)) Z ?_
 rintro _ k _ d ⟨_,⟨rfl,rfl⟩,rfl⟩
 exact WL.a1 (qu (Iv (i64.wrap c)) (conv Qn0 underlying3 Z) (qa (Iv (i64.wrap c)) (Nt (Cr (Rf h [[(e, .cells #[a,(Iv g),(GV i)] 130 (0,0))]] Z (Rs Z Z) d ⟨Z,Z⟩)))))
noncomputable def QcH (a0q:QaB):Option (Int×Int×GErr):=
 ((QbB a0q (1073741824:Int)).bind fun(a,b,c)=>(some (a,b,c)))
def Qq3 (a0q:QaB) (v0q_0:Value) (a g0q:Nat):(Int×Int×GErr)→Value→IM→HL→Prop:=
 fun(p_:(Int×Int×GErr)) (v:Value) (M':IM) (H':HL)=>match p_ with |(b,c,d)=>(.int .i64 b)=v∧H'=[[(g0q, .cells #[v0q_0,(.int .i64 c),(GV d)] 130 (0,0))],[(a, .cells #[(.pointer (some ⟨g0q,0,none⟩))] 77 (0,0))]]
theorem QcL (a0q:QaB) (M:IM) (v0q_0:Value) (g g0q:Nat) (h0q_0:RS (Kd.int .u8) M v0q_0 a0q.b) (res:(Int×Int×GErr)) (h:QcH a0q=some res):
 Tri prog 37 #[(pt g 0)] M [[(g0q, .cells #[v0q_0,(Iv a0q.at_),(GV a0q.err)] 130 (0,0))],[(g, .cells #[(pt g0q 0)] 77 (0,0))]] (Qq3 a0q v0q_0 g g0q res):=by
 unfold QcH at h
 refine Te func37 Z Z ?_
 intro F ρ hρ
 refine Sr (qa (Iv 0) (Ns (qu (pt g0q 0) (Lb 1 pl77 (hρ 0) Z Z) ?_)))
 obtain ⟨⟨c,d,e⟩,f,h⟩:=bnd h
 refine We (Cb co38 (Qb5 a0q (1073741824:Int) _ _ _ h0q_0 (c,d,e) f) (QaU Z Z)) Z ?_
 rintro _ i _ a ⟨_,⟨rfl,rfl⟩,rfl⟩
 exact WL.a1 (qa (Iv c) (Nt (Cr (Rf h [[(g0q, .cells #[v0q_0,(Iv d),(GV e)] 130 (0,0))],[(g, .cells #[(pt g0q 0)] 77 (0,0))]] Z (Rs Z Z) a ⟨Z,Z⟩))))
noncomputable def QdF (a0:QaB):Option GErr:=
 (some a0.err)
def Qm3 (a0:QaB) (a:Value) (b:Nat):GErr→Value→IM→HL→Prop:=
 fun(c:GErr) (v:Value) (M':IM) (H':HL)=>(GV c)=v∧H'=[[(b, .cells #[a,(.int .i64 a0.at_),(GV a0.err)] 130 (0,0))]]
theorem QdT (a0:QaB) (M:IM) (a:Value) (c:Nat) (d:RS (Kd.int .u8) M a a0.b) (res:GErr) (h:QdF a0=some res):
 Tri prog 83 #[(pt c 0)] M [[(c, .cells #[a,(Iv a0.at_),(GV a0.err)] 130 (0,0))]] (Qm3 a0 a c res):=by
 unfold QdF at h
 refine Te func83 Z Z ?_
 intro F ρ hρ
 exact Sr (qa (GV GErr.nil) (Ns (qM (pt c 0) (hρ 0) (qu (pt c 0) (Nk Z) (qu (pt c 2) (Fa QmL Z Z) (qu (GV a0.err) (Lb 0 pl32 Z Z Z) (qa (GV a0.err) (Nt (Cr (Rf h [[(c, .cells #[a,(Iv a0.at_),(GV a0.err)] 130 (0,0))]] Z (Rs Z Z) lr ⟨Z,Z⟩))))))))))
noncomputable def QcY (a0:(List Int)):Option (List Int):=
 (grd (([]:List Int).length+a0.length≤274877906944) (some (([]:List Int)++a0)))
def QkU (a0:(List Int)) (d:Value):(List Int)→Value→IM→HL→Prop:=
 fun(c:(List Int)) (v:Value) (M':IM) (H':HL)=>∃ a b,a=v∧H'=[b]∧OwnS (Kd.int .u8) M' a c b
theorem QlH (a0:(List Int)) (M:IM) (d:Value) (j:RS (Kd.int .u8) M d a0) (res:(List Int)) (h:QcY a0=some res):
 Tri prog 82 #[d] M [] (QkU a0 d res):=by
 unfold QcY at h
 refine Te func82 Z Z ?_
 intro F ρ hρ
 refine Sr (qa Zs (Nt (Cs (Sr (qM d (hρ 0) (qu (Bv (nilS d)) (sliceNil underlying38 Z j.len Z) (Nt (Cd (b:=nilS d) Z (fun c=> ?_) (fun c=> ?_)))))))))
 obtain rfl:=j.nilxs (by decide) c
 have h:=Eq.trans (a:=((some []):Option (List Int))) (by simp [grd]) h
 exact Sr (qa Zs (Nt (Cr (Tr (WQ.e0 (Rf h [[]] Z (Rs Z Z) lr ⟨Zs,[],Z,Z,(OwnS.nil _ _)⟩))))))
 refine Ck (Tc (Sr (We (buildSliceL (cl:=[]) underlying38 iz5 Z Pz Z) Z ?_)))
 rintro _ _ _ - ⟨rfl,e,rfl,rfl⟩
 have k:OwnS (Kd.int .u8) M (.slice (some ⟨e,0,none⟩) 0 0) [] [(e, .cells #[] 5 (0,0))]:=OwnS.rows (css:=[]) Rows.nil Z Z
 refine qM d (hρ 0) ?_
 obtain ⟨f,h⟩:=QaQ h
 refine We (append (dd:=(Kd.int .u8)) (xs:=[]) (ys:=a0) underlying38 underlying38 in5 Z (appB (by decide) f) (by decide) Z Z k (j.src _)) Z ?_
 rintro g _ _ - ⟨rfl,i,rfl,l⟩
 exact qa g (Nt (Cr (Rf h [i] Z (Rs Z Z) lr ⟨g,i,Z,Z,l⟩)))
noncomputable def Qc3 (a0:QaB) (a1:Int):Option ((List Int)×Int×GErr):=
 ((QbB a0 a1).bind fun(a,c,d)=>(if(!d.isNil)=true then(some ([],c,d))else(if(decide ((i64.wrap ((a0.b.length:Int)- c))<a))=true then((QbJ (⟨a0.b,a0.at_,d⟩:QaB) (⟨#[116,101,120,116]⟩:ByteArray) a0.at_ (3:Int)).bind fun e=>(some ([],a0.at_,e)))else(grd (0≤i64.wrap ((i64.wrap (c+a))- a)∧i64.wrap ((i64.wrap (c+a))- a)≤i64.wrap (c+a)∧i64.wrap (c+a)≤(a0.b.length:Int)) ((QcY (sub a0.b (i64.wrap ((i64.wrap (c+a))- a)) (i64.wrap (c+a)))).bind fun f=>(some (f,i64.wrap (c+a),d)))))))
def QmD (a0:QaB) (a1:Int) (a:Value) (d:Nat):((List Int)×Int×GErr)→Value→IM→HL→Prop:=
 fun(p_:((List Int)×Int×GErr)) (v:Value) (M':IM) (H':HL)=>match p_ with |(e,f,g)=>∃ b c,b=v∧H'=[[(d, .cells #[a,(.int .i64 f),(GV g)] 130 (0,0))],c]∧OwnS (Kd.int .u8) M' b e c
theorem QkE (a0:QaB) (a1:Int) (M:IM) (e:Value) (d:Nat) (f:RS (Kd.int .u8) M e a0.b) (res:((List Int)×Int×GErr)) (h:Qc3 a0 a1=some res):
 Tri prog 40 #[(pt d 0),(Iv a1)] M [[(d, .cells #[e,(Iv a0.at_),(GV a0.err)] 130 (0,0))]] (QmD a0 a1 e d res):=by
 unfold Qc3 at h
 refine Te func40 Z Z ?_
 intro F ρ hρ
 refine Sr (qa Zs (Ns (qM (pt d 0) (hρ 0) (qu (pt d 0) (Nk Z) (qu (pt d 1) (Fa QdY Z Z) (qu (Iv a0.at_) (Lb 0 pl3 Z Z Z) (qa (Iv a0.at_) (Ns (qM (pt d 0) (hρ 0) (qM (Iv a1) (hρ 1) ?_))))))))))
 obtain ⟨⟨a,c,j⟩,q,h⟩:=bnd h
 refine We (Cb co38 (Qb5 a0 a1 _ _ _ f (a,c,j) q) (QaU Z Z)) Z ?_
 rintro _ z _ i ⟨_,⟨rfl,rfl⟩,rfl⟩
 refine WL.a1 (qa (Iv a) (Nt (Cs (Sr (qM (pt d 0) (hρ 0) (qu (pt d 0) (Nk Z) (qu (pt d 2) (Fa QmL Z Z) (qu (GV j) (Lb 0 pl32 Z Z Z) (qu (Bv (!j.isNil)) (errNotNil underlying32 Z) (Nt (Ch h Z (fun r h=> ?_) (fun r h=> ?_))))))))))))
 exact Sr (qa Zs (Nt (Cr (Tr (WQ.e0 (Qa (Rf h [[(d, .cells #[e,(Iv c),(GV j)] 130 (0,0))],[]] Z (Rs Z Z) i ⟨Zs,[],Z,Z,(OwnS.nil _ _)⟩)))))))
 refine Ck (Tc (Cs (Cs (WC.draw [0,0,2,6,14,30,0,64,192,448,1022,2047] (.pure 0 (.pure 1 (.pure 2 (.pure 3 (.pure 4 (.pure 5 (.pure 6 (.pure 7 (.pure 8 (.pure 9 (.pure 10 (.pure 11 .done)))))))))))) QdC (by kernel_rfl) (qt (Iv a) Z (Mv Z) (qt (pt d 0) Z (Mv (hρ 0)) (qt (pt d 0) Z (Nk Z) (qt (pt d 0) Z (Fa QnW Z Z) (qt e Z (Lb 0 pl38 Z Z Z) ?_)))))))))
 have f:=f.mono i
 refine qt (Iv (a0.b.length:Int)) Z (lenS underlying38 Z f.len) (qt (pt d 0) Z (Mv (hρ 0)) (qt (pt d 0) Z (Nk Z) (qt (pt d 1) Z (Fa QdY Z Z) (qt (Iv c) Z (Lb 0 pl3 Z Z Z) (qt (Iv (i64.wrap ((a0.b.length:Int)- c))) Z (PO.sub Z Z) (qt (Bv (decide ((i64.wrap ((a0.b.length:Int)- c))<a))) Z (gtr Z Z) (Ti (Tc (Ch h Z (fun s h=> ?_) (fun s h=> ?_))))))))))
 refine Sr (qM (pt d 0) (hρ 0) (qm (Iv a0.at_) (qu (pt d 0) (Nk Z) (qu (pt d 1) (Fa QdY Z Z) (We (Es (Iv a0.at_) [e,(Iv a0.at_),(GV j)] Z sz3 Z Z Z Z Z Z) Z ?_)))))
 rintro _ _ _ - ⟨rfl,rfl⟩
 refine Ns (qM (pt d 0) (hρ 0) (qm (Iv a0.at_) ?_))
 obtain ⟨t,u,h⟩:=bnd h
 refine We (Cb co81 (QcE (⟨a0.b,a0.at_,j⟩:QaB) (⟨#[116,101,120,116]⟩:ByteArray) a0.at_ (3:Int) _ _ _ f t u) (QlT Z Z Z Z)) Z ?_
 rintro _ A _ o ⟨_,⟨rfl,rfl⟩,rfl⟩
 exact WL.a1 (Ns (qa Zs (Nt (Cr (Tr (WQ.e0 (Qa (Rf h [[(d, .cells #[e,(Iv a0.at_),(GV t)] 130 (0,0))],[]] Z (Rs Z Z) (i.trans o) ⟨Zs,[],Z,Z,(OwnS.nil _ _)⟩))))))))
 refine Ck (Tc (Sr (qM (pt d 0) (hρ 0) (qu (pt d 0) (Nk Z) (qu (pt d 1) (Fa QdY Z Z) (qu (Iv c) (Lb 0 pl3 Z Z Z) (qm (Iv a) (qu (Iv (i64.wrap (c+a))) (add Z Z) (qu (pt d 0) (Nk Z) (qu (pt d 1) (Fa QdY Z Z) (We (Es (Iv (i64.wrap (c+a))) [e,(Iv (i64.wrap (c+a))),(GV j)] Z sz3 Z Z Z Z Z Z) Z ?_)))))))))))
 rintro _ _ _ - ⟨rfl,rfl⟩
 refine Nt (Cs (WC.draw [0,1,3,7,0,16,48,112,0,496,0,1024,3072,7168,16383,32767,65535] (.pure 0 (.pure 1 (.pure 2 (.pure 3 (.pure 4 (.pure 5 (.pure 6 (.pure 7 (.pure 8 (.pure 9 (.pure 10 (.pure 11 (.pure 12 (.pure 13 (.pure 14 (.alt 15 (.pure 16 .done) .none)))))))))))))))) QdC (by kernel_rfl) (qt (pt d 0) Z (Mv (hρ 0)) (qt (pt d 0) Z (Nk Z) (qt (pt d 0) Z (Fa QnW Z Z) (qt e Z (Lb 0 pl38 Z Z Z) (qt (pt d 0) Z (Mv (hρ 0)) (qt (pt d 0) Z (Nk Z) (qt (pt d 1) Z (Fa QdY Z Z) (qt (Iv (i64.wrap (c+a))) Z (Lb 0 pl3 Z Z Z) (qt (Iv a) Z (Mv Z) ?_)))))))))))
 refine qt (Iv (i64.wrap ((i64.wrap (c+a))- a))) Z (PO.sub Z Z) (qt (pt d 0) Z (Mv (hρ 0)) (qt (pt d 0) Z (Nk Z) (qt (pt d 1) Z (Fa QdY Z Z) (qt (Iv (i64.wrap (c+a))) Z (Lb 0 pl3 Z Z Z) ?_))))
 obtain ⟨g,h⟩:=QaQ h
 have x:=f.sub g.1 g.2.1 g.2.2
 refine qt (slV e 1 (i64.wrap ((i64.wrap (c+a))- a)).toNat (i64.wrap (c+a)).toNat) Z (slice (n:=a0.b.length) (l:=(i64.wrap ((i64.wrap (c+a))- a)).toNat) (h:=(i64.wrap (c+a)).toNat) underlying38 sz5 Z f.len f.cap ⟨_,_,Z,g.1,Z⟩ ⟨_,_,Z,(Int.le_trans g.1 g.2.1),Z⟩ (Int.toNat_le_toNat g.2.1) (Qg5 g.2.2)) ?_
 obtain ⟨y,v,h⟩:=bnd h
 refine Ta Z (Ca co82 (QlH (sub a0.b (i64.wrap ((i64.wrap (c+a))- a)) (i64.wrap (c+a))) _ _ x y v) (QbK Z)) Z ?_ ?_
 rintro _ B _ p ⟨_,⟨k,m,rfl,rfl,w⟩,rfl⟩
 refine⟨(Sl Z), ?_⟩
 exact WT.a1 (qt k Z (Ag Z) (Ti (Tc (Cr (Qa (Rf h [[(d, .cells #[e,(Iv (i64.wrap (c+a))),(GV j)] 130 (0,0))],m] Z (Rs Z Z) (i.trans p) ⟨k,m,Z,Z,w⟩))))))
 exact Tz
noncomputable def Qf3 (a0q:QaB):Option (ByteArray×Int×GErr):=
 ((Qc3 a0q (40:Int)).bind fun(a,b,c)=>(some (strOfNums a,b,c)))
def Qq4 (a0q:QaB) (v0q_0:Value) (a g0q:Nat):(ByteArray×Int×GErr)→Value→IM→HL→Prop:=
 fun(p_:(ByteArray×Int×GErr)) (v:Value) (M':IM) (H':HL)=>match p_ with |(b,c,d)=>(.string b)=v∧H'=[[(g0q, .cells #[v0q_0,(.int .i64 c),(GV d)] 130 (0,0))],[(a, .cells #[(.pointer (some ⟨g0q,0,none⟩))] 77 (0,0))]]
theorem QkV (a0q:QaB) (M:IM) (v0q_0:Value) (i g0q:Nat) (h0q_0:RS (Kd.int .u8) M v0q_0 a0q.b) (res:(ByteArray×Int×GErr)) (h:Qf3 a0q=some res):
 Tri prog 39 #[(pt i 0)] M [[(g0q, .cells #[v0q_0,(Iv a0q.at_),(GV a0q.err)] 130 (0,0))],[(i, .cells #[(pt g0q 0)] 77 (0,0))]] (Qq4 a0q v0q_0 i g0q res):=by
 unfold Qf3 at h
 refine Te func39 Z Z ?_
 intro F ρ hρ
 refine Sr (qa (Sv ⟨#[]⟩) (Ns (qu (pt g0q 0) (Lb 1 pl77 (hρ 0) Z Z) ?_)))
 obtain ⟨⟨a,d,e⟩,f,h⟩:=bnd h
 refine We (Cb co40 (QkE a0q (40:Int) _ _ _ h0q_0 (a,d,e) f) (QaU Z Z)) Z ?_
 rintro _ l _ c ⟨_,⟨j,k,rfl,rfl,g⟩,rfl⟩
 exact WL.a2 (qu (Sv (strOfNums a)) (b2s (ys:=a) underlying38 underlying5 underlying9 Z (g.src 1 Z)) (qa (Sv (strOfNums a)) (Nt (Cr (Qa (Dr (Rf h [[(g0q, .cells #[v0q_0,(Iv d),(GV e)] 130 (0,0))],[(i, .cells #[(pt g0q 0)] 77 (0,0))]] Z (Rs Z Z) c ⟨Z,Z⟩)))))))
noncomputable def Qc4 (a0:QaB):Option (Bool×Int×GErr):=
 (((if(!a0.err.isNil)=true then(some (inl a0.err))else(if(decide ((a0.b.length:Int)≤a0.at_))=true then((QbJ a0 (⟨#[102,108,97,103]⟩:ByteArray) a0.at_ (3:Int)).bind fun a=>(some (inl a)))else(grd (0≤a0.at_∧a0.at_<a0.b.length) (if(decide ((1:Int)<(rd a0.b a0.at_)))=true then((QbJ a0 (⟨#[102,108,97,103]⟩:ByteArray) a0.at_ (5:Int)).bind fun c=>(some (inl c)))else(grd (0≤i64.wrap ((i64.wrap (a0.at_+(1:Int)))- (1:Int))∧i64.wrap ((i64.wrap (a0.at_+(1:Int)))- (1:Int))<a0.b.length) (((some (decide ((rd a0.b (i64.wrap ((i64.wrap (a0.at_+(1:Int)))- (1:Int))))=(1:Int)),i64.wrap (a0.at_+(1:Int)),a0.err))).bind fun r=>some (inr r))))))):Option (GErr⊕(Bool×Int×GErr))).bind (Sum.elim (fun(d:GErr)=>(some (false,a0.at_,d))) some))
def QmE (a0:QaB) (a:Value) (b:Nat):(Bool×Int×GErr)→Value→IM→HL→Prop:=
 fun(p_:(Bool×Int×GErr)) (v:Value) (M':IM) (H':HL)=>match p_ with |(c,d,e)=>(.bool c)=v∧H'=[[(b, .cells #[a,(.int .i64 d),(GV e)] 130 (0,0))]]
theorem QkF (a0:QaB) (M:IM) (c:Value) (a:Nat) (d:RS (Kd.int .u8) M c a0.b) (res:(Bool×Int×GErr)) (h:Qc4 a0=some res):
 Tri prog 45 #[(pt a 0)] M [[(a, .cells #[c,(Iv a0.at_),(GV a0.err)] 130 (0,0))]] (QmE a0 c a res):=by
 unfold Qc4 at h
 refine Te func45 Z Z ?_
 intro F ρ hρ
 refine Sr (qa (Bv false) (Nt ?_))
 obtain ⟨x,q,h⟩:=bnd h
 refine WC.joinE (fun(g:GErr) ρ' M' H'=>M.le M'∧[(a, .cells #[c,(Iv a0.at_),(GV g)] 130 (0,0))]::F=H') x ?_ ?_
 have r:=h
 have h:=q
 refine Bk (Sr (qM (pt a 0) (hρ 0) (qu (pt a 0) (Nk Z) (qu (pt a 2) (Fa QmL Z Z) (qu (GV a0.err) (Lb 0 pl32 Z Z Z) (qu (Bv (!a0.err.isNil)) (errNotNil underlying32 Z) (qa (Bv (!a0.err.isNil)) (Nt (Ch h Z (fun s h=> ?_) (fun s h=> ?_))))))))))
 exact Ck (Bn (WQ.thenFE h ⟨lr,Z⟩))
 refine Cs (WC.draw [0,1,3,7,0,16,48,112,240,511,1023] (.pure 0 (.pure 1 (.pure 2 (.pure 3 (.pure 4 (.pure 5 (.pure 6 (.pure 7 (.pure 8 (.pure 9 (.pure 10 .done))))))))))) QdC (by kernel_rfl) (qt (pt a 0) Z (Mv (hρ 0)) (qt (pt a 0) Z (Nk Z) (qt (pt a 1) Z (Fa QdY Z Z) (qt (Iv a0.at_) Z (Lb 0 pl3 Z Z Z) (qt (pt a 0) Z (Mv (hρ 0)) (qt (pt a 0) Z (Nk Z) (qt (pt a 0) Z (Fa QnW Z Z) (qt c Z (Lb 0 pl38 Z Z Z) (qt (Iv (a0.b.length:Int)) Z (lenS underlying38 Z d.len) (qt (Bv (decide ((a0.b.length:Int)≤a0.at_))) Z (geq Z Z) ?_)))))))))))
 refine qt (Bv (decide ((a0.b.length:Int)≤a0.at_))) Z (Ag Z) (Ti (Tc (Ch h Z (fun t h=> ?_) (fun t h=> ?_))))
 refine Cg (qM (pt a 0) (hρ 0) (qM (pt a 0) (hρ 0) (qu (pt a 0) (Nk Z) (qu (pt a 1) (Fa QdY Z Z) (qu (Iv a0.at_) (Lb 0 pl3 Z Z Z) ?_)))))
 obtain ⟨y,u,h⟩:=bnd h
 refine We (Cb co81 (QcE a0 (⟨#[102,108,97,103]⟩:ByteArray) a0.at_ (3:Int) _ _ _ d y u) (QlT Z Z Z Z)) Z ?_
 rintro _ E _ i ⟨_,⟨rfl,rfl⟩,rfl⟩
 exact WL.a1 (Wz (Bn (WQ.thenFE h ⟨i,Z⟩)))
 refine Cs (WC.draw [0,1,3,7,0,16,48,112,255,511,1023,2047] (.pure 0 (.pure 1 (.pure 2 (.pure 3 (.pure 4 (.pure 5 (.pure 6 (.pure 7 (.pure 8 (.pure 9 (.pure 10 (.pure 11 .done)))))))))))) QdC (by kernel_rfl) (qt (pt a 0) Z (Mv (hρ 0)) (qt (pt a 0) Z (Nk Z) (qt (pt a 0) Z (Fa QnW Z Z) (qt c Z (Lb 0 pl38 Z Z Z) (qt (pt a 0) Z (Mv (hρ 0)) (qt (pt a 0) Z (Nk Z) (qt (pt a 1) Z (Fa QdY Z Z) (qt (Iv a0.at_) Z (Lb 0 pl3 Z Z Z) ?_)))))))))
 obtain ⟨e,h⟩:=QaQ h
 obtain ⟨z,C,j,k,hhas34⟩:=d.at e.1 e.2 (by decide)
 obtain rfl:=k
 refine qt (.pointer (some z)) Z (indexAddr (n:=a0.b.length) underlying38 sz5 Z Z e.1 e.2 j) (qt (Yv (rd a0.b a0.at_)) Z (loadM pl5 Z (IM.has0 hhas34)) (qt (Bv (decide ((1:Int)<(rd a0.b a0.at_)))) Z (gtr Z Z) (qt (Bv (decide ((1:Int)<(rd a0.b a0.at_)))) Z (Ag Z) (Ti (Tc (Ch h Z (fun v h=> ?_) (fun v h=> ?_)))))))
 refine Cg (qM (pt a 0) (hρ 0) (qM (pt a 0) (hρ 0) (qu (pt a 0) (Nk Z) (qu (pt a 1) (Fa QdY Z Z) (qu (Iv a0.at_) (Lb 0 pl3 Z Z Z) ?_)))))
 obtain ⟨A,w,h⟩:=bnd h
 refine We (Cb co81 (QcE a0 (⟨#[102,108,97,103]⟩:ByteArray) a0.at_ (5:Int) _ _ _ d A w) (QlT Z Z Z Z)) Z ?_
 rintro _ G _ l ⟨_,⟨rfl,rfl⟩,rfl⟩
 exact WL.a1 (Wz (Bn (WQ.thenFE h ⟨l,Z⟩)))
 refine Sr (qM (pt a 0) (hρ 0) (qu (pt a 0) (Nk Z) (qu (pt a 1) (Fa QdY Z Z) (qu (Iv a0.at_) (Lb 0 pl3 Z Z Z) (qu (Iv (i64.wrap (a0.at_+1))) (add Z Z) (qu (pt a 0) (Nk Z) (qu (pt a 1) (Fa QdY Z Z) (We (Es (Iv (i64.wrap (a0.at_+1))) [c,(Iv (i64.wrap (a0.at_+1))),(GV a0.err)] Z sz3 Z Z Z Z Z Z) Z ?_))))))))
 rintro _ _ _ - ⟨rfl,rfl⟩
 refine Nt (Cs (WC.draw [0,1,3,7,0,16,48,112,240,511,1023,2047,4095] (.pure 0 (.pure 1 (.pure 2 (.pure 3 (.pure 4 (.pure 5 (.pure 6 (.pure 7 (.pure 8 (.pure 9 (.pure 10 (.pure 11 (.pure 12 .done))))))))))))) QdC (by kernel_rfl) (qt (pt a 0) Z (Mv (hρ 0)) (qt (pt a 0) Z (Nk Z) (qt (pt a 0) Z (Fa QnW Z Z) (qt c Z (Lb 0 pl38 Z Z Z) (qt (pt a 0) Z (Mv (hρ 0)) (qt (pt a 0) Z (Nk Z) (qt (pt a 1) Z (Fa QdY Z Z) (qt (Iv (i64.wrap (a0.at_+1))) Z (Lb 0 pl3 Z Z Z) (qt (Iv (i64.wrap ((i64.wrap (a0.at_+1))- 1))) Z (PO.sub Z Z) ?_)))))))))))
 obtain ⟨f,h⟩:=QaQ h
 obtain ⟨B,D,m,o,hhas46⟩:=d.at f.1 f.2 (by decide)
 obtain rfl:=o
 refine qt (.pointer (some B)) Z (indexAddr (n:=a0.b.length) underlying38 sz5 Z Z f.1 f.2 m) (qt (Yv (rd a0.b (i64.wrap ((i64.wrap (a0.at_+1))- 1)))) Z (loadM pl5 Z (IM.has0 hhas46)) (qt (Bv (decide ((rd a0.b (i64.wrap ((i64.wrap (a0.at_+1))- 1)))=1))) Z (eql Z Z) (qt (Bv (decide ((rd a0.b (i64.wrap ((i64.wrap (a0.at_+1))- 1)))=1))) Z (Ag Z) (Ti (Tc (Cr (Br (Tr ?_))))))))
 have h:=KK.early h r
 exact Rf h [[(a, .cells #[c,(Iv (i64.wrap (a0.at_+1))),(GV a0.err)] 130 (0,0))]] Z (Rs Z Z) lr ⟨Z,Z⟩
 rintro g I J K rfl ⟨p,rfl⟩
 have h:=(Sum.elim_inl _ _ _).symm.trans h
 exact Sr (qa (Bv false) (Nt (Cr (Rf h [[(a, .cells #[c,(Iv a0.at_),(GV g)] 130 (0,0))]] Z (Rs Z Z) p ⟨Z,Z⟩))))

end Go.Proofs.YtpcbipcdfccnnaaGreatDoor.G
