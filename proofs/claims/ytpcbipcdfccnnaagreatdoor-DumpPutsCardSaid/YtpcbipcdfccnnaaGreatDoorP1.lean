/- Go functions: what they come to, and that they do. Printed by a program of the session (gen). -/
import Derived.Test.YtpcbipcdfccnnaaGreatDoorPF
import Derived.Test.YtpcbipcdfccnnaaGreatDoorP0
import Derived.Test.YtpcbipcdfccnnaaGreatDoorKShar2
import Derived.Test.YtpcbipcdfccnnaaGreatDoorKConv
import Derived.Test.YtpcbipcdfccnnaaGreatDoorKMap
import Derived.Test.YtpcbipcdfccnnaaGreatDoorKTight2
set_option linter.unusedVariables false
set_option linter.unusedSimpArgs false
set_option maxHeartbeats 8000000
set_option maxRecDepth 100000
namespace Go.Proofs.YtpcbipcdfccnnaaGreatDoor.G
open Go Go.KK
open PO EO IntKind Sum Tryz

noncomputable def QfY (a0:QaK):Option QaV:=
 (((if(decide (a0.Kind<(1:Int)))=true then(some true)else(some (decide ((12:Int)<a0.Kind)))):Option Bool).bind fun i=>(if i=true then(some (⟨(⟨#[107,105,110,100]⟩:ByteArray),a0.Kind,(5:Int)⟩:QaV))else((Qi0 a0).bind fun a=>(if(decide (a.Code≠(0:Int)))=true then(some a)else(((if a0.Flag=true then((Qa1 a0.Kind (102:Int)).bind fun j=>(some (!j)))else(some false)):Option Bool).bind fun k=>(if k=true then(some (⟨(⟨#[102,108,97,103]⟩:ByteArray),(1:Int),(1:Int)⟩:QaV))else((((Qa1 a0.Kind (110:Int)).bind fun l=>((Qg7 a0.Name l).bind fun m=>(if(!m)=true then(some true)else((Qa1 a0.Kind (107:Int)).bind fun n=>((Qg7 a0.Key n).bind fun o=>(if(!o)=true then(some true)else((Qa1 a0.Kind (114:Int)).bind fun p=>((Qg7 a0.Rack p).bind fun q=>(some (!q)))))))))):Option Bool).bind fun r=>(if r=true then(some (⟨(⟨#[110,97,109,101]⟩:ByteArray),(a0.Name.size:Int),(1:Int)⟩:QaV))else(((if(decide ((256:Int)<(a0.Value.size:Int)))=true then(some true)else(if(!decide (a0.Value=(⟨#[]⟩:ByteArray)))=true then(if a0.Flag=true then(some true)else((Qa1 a0.Kind (118:Int)).bind fun s=>(some (!s))))else(some false))):Option Bool).bind fun t=>(if t=true then(some (⟨(⟨#[118,97,108,117,101]⟩:ByteArray),(a0.Value.size:Int),(6:Int)⟩:QaV))else((((Qa1 a0.Kind (105:Int)).bind fun u=>((Qg8 a0.Ids u).bind fun v=>(if(!v)=true then(some true)else((Qa1 a0.Kind (109:Int)).bind fun b=>((Qg8 a0.Isr b).bind fun c=>(if(!c)=true then(some true)else((Qa1 a0.Kind (120:Int)).bind fun d=>((Qg8 a0.Add d).bind fun e=>(if(!e)=true then(some true)else((Qa1 a0.Kind (120:Int)).bind fun f=>((Qg8 a0.Drop f).bind fun g=>(some (!g))))))))))))):Option Bool).bind fun w=>(if w=true then(some (⟨(⟨#[114,111,119]⟩:ByteArray),(a0.Ids.length:Int),(18:Int)⟩:QaV))else(some (⟨(⟨#[]⟩:ByteArray),(0:Int),(0:Int)⟩:QaV))))))))))))))
def QqL (a0:QaK) (a b c d:Value):QaV→Value→IM→HL→Prop:=
 fun(e:QaV) (v:Value) (M':IM) (H':HL)=>(.agg #[(.string e.Op),(.int .i64 e.At),(.int .i64 e.Code)])=v∧H'=[]
theorem QtF (a0:QaK) (M:IM) (e i j k:Value) (p:RS (Kd.int .i64) M e a0.Ids) (A:RS (Kd.int .i64) M i a0.Isr) (B:RS (Kd.int .i64) M j a0.Add) (C:RS (Kd.int .i64) M k a0.Drop) (res:QaV) (h:QfY a0=some res):
 Tri prog 91 #[(QjY a0 e i j k)] M [] (QqL a0 e i j k res):=by
 unfold QfY at h
 refine Te func91 Z Z ?_
 intro F ρ hρ
 refine Sr (We (box (cs:=(l111 a0 e i j k).toArray) (congrArg Value.cells (asE (QjY a0 e i j k) (hρ 0)))) Z ?_)
 rintro _ _ _ - ⟨rfl,l,rfl,rfl⟩
 refine We (Al Qn1 Z) Z ?_
 rintro _ _ _ - ⟨rfl,N,rfl,rfl⟩
 refine Ns (qu (pt l 0) (Fa Qu9 Z Z) (qu (Iv a0.Kind) (Lb 1 pl3 Z Z Z) (qa (Iv a0.Kind) (Nt (Cs ?_)))))
 obtain ⟨c6,e6,h⟩:=bnd h
 refine Jf (fun(c6:Bool) ρ' M' H'=>M.le M'∧[(N, .cells #[(Sv ⟨#[]⟩),(Iv 0),(Iv 0)] 144 (0,0))]::[(l, .cells (l111 a0 e i j k).toArray 111 (0,0))]::F=H'∧ρ' 1=(pt l 0)∧ρ' 2=(pt N 0)∧ρ' 3=(Iv a0.Kind)∧ρ' 12=(Bv c6)) c6 ?_ ?_
 have h:=e6
 refine Cg (qm (Iv a0.Kind) (qu (Bv (decide (a0.Kind<1))) (lss Z Z) (qm (Bv (decide (a0.Kind<1))) ?_)))
 rcases Bi h with⟨O,h⟩ |⟨O,h⟩
 iterate 2 refine Of 9 Z Z O Z ?_
 refine qu (Bv true) (Pt Z O Z) (Wz ?_)
 obtain rfl:=oi h
 exact Tj ⟨lr,Z,Z,Z,Z,Z⟩
 refine On 9 Z Z O (qm (Iv a0.Kind) (qo 9 O (Bv (decide ((12:Int)<a0.Kind))) (gtr Z Z) (qu (Bv (decide ((12:Int)<a0.Kind))) (Pf Z O Z) (Wz ?_))))
 obtain rfl:=oi h
 exact Tj ⟨lr,Z,Z,Z,Z,Z⟩
 rintro i7 i8 i9 ⟨x,rfl,D,r,E,a5⟩
 refine Ch h a5 (fun e7 h=> ?_) (fun e7 h=> ?_)
 refine Sr (qM (Iv a0.Kind) E (qu (.agg #[(Sv ⟨#[107,105,110,100]⟩),(Iv a0.Kind),(Iv 5)]) (Bl (cl:=[(Sv ⟨#[107,105,110,100]⟩),(Iv a0.Kind),(Iv 5)]) Qn1 QsQ (Pc (Sv ⟨#[107,105,110,100]⟩) Z Z (Pc (Iv a0.Kind) Z Z (Pc (Iv 5) Z Z Pz))) Z) (We (Sg (v:=(.agg #[(Sv ⟨#[107,105,110,100]⟩),(Iv a0.Kind),(Iv 5)])) (vl:=[(Sv ⟨#[107,105,110,100]⟩),(Iv a0.Kind),(Iv 5)]) (arr':=[(Sv ⟨#[107,105,110,100]⟩),(Iv a0.Kind),(Iv 5)]) Z QiQ r Z (onb Z) Z Z Z) Z ?_)))
 rintro _ _ _ - ⟨rfl,rfl⟩
 exact Nt (Cr (Tr (Qa (Dr (Rd h [] (fun _ hs=>hs.drop) (QbH Z (Rc (cs:=[(Sv ⟨#[107,105,110,100]⟩),(Iv a0.Kind),(Iv 5)]) 0 Qp5 QiQ r Z Z)) x ⟨Z,Z⟩)))))
 refine Ck (Tc (Cs (Sr (qu (QjY a0 e i j k) (La (cs:=(l111 a0 e i j k)) 1 Qu8 QrK D Z Z) ?_))))
 obtain ⟨w,e8,h⟩:=bnd h
 have p:=p.mono x
 have A:=A.mono x
 have B:=B.mono x
 have C:=C.mono x
 refine We (Ca Q9G (QqK a0 _ _ _ _ _ p A B C w e8) (QbK Z)) Z ?_
 rintro _ h5 _ R ⟨_,⟨rfl,rfl⟩,rfl⟩
 refine WL.a0 (We (Al Qn1 Z) Z ?_)
 rintro _ _ _ - ⟨rfl,a6,rfl,rfl⟩
 refine We (Sg (v:=(Q32 w)) (vl:=(l144 w)) (arr':=(l144 w)) Z QiQ Z Z (onb Z) Z Z Z) Z ?_
 rintro _ _ _ - ⟨rfl,rfl⟩
 refine Ns (qu (pt a6 2) (Fa Qw9 Z Z) (qu (Iv w.Code) (Lb 0 pl34 Z Z Z) (qu (Bv (decide (w.Code≠0))) (neq Z Z) (Nt (Ch h Z (fun e9 h=> ?_) (fun e9 h=> ?_))))))
 refine Sr (qu (Q32 w) (La (cs:=(l144 w)) 0 Qp5 QiQ Z Z Z) (WL.f1 (We (Sg (v:=(Q32 w)) (vl:=(l144 w)) (arr':=(l144 w)) Z QiQ r Z (onb Z) Z Z Z) Z ?_)))
 rintro _ _ _ - ⟨rfl,rfl⟩
 exact Nt (Cr (Tr (Qa (Dr (Qa (Dr (Rd h [] (fun _ hs=>hs.drop) (QbH Z (Rc (cs:=(l144 w)) 0 Qp5 QiQ r Z Z)) (x.trans R) ⟨Z,Z⟩)))))))
 refine Ck (Tc (Cs ?_))
 obtain ⟨c7,f0,h⟩:=bnd h
 refine Jf (fun(c7:Bool) ρ' M' H'=>h5.le M'∧[(a6, .cells (l144 w).toArray 144 (0,0))]::[(N, .cells #[(Sv ⟨#[]⟩),(Iv 0),(Iv 0)] 144 (0,0))]::[(l, .cells (l111 a0 e i j k).toArray 111 (0,0))]::F=H'∧ρ' 1=(pt l 0)∧ρ' 2=(pt N 0)∧ρ' 3=(Iv a0.Kind)∧ρ' 27=(Bv c7)) c7 ?_ ?_
 have h:=f0
 refine Cg (qu (pt l 9) (Fa Qw8 D Z) (qu (Bv a0.Flag) (Lb 2 pl4 Z Z Z) (qm (Bv a0.Flag) ?_)))
 rcases Bi h with⟨K,h⟩ |⟨K,h⟩
 refine On 23 Z Z K (qM (Iv a0.Kind) E (On 23 Z Z K ?_))
 obtain ⟨c8,f2,h⟩:=bnd h
 refine We (Ca QnU (QbT a0.Kind (102:Int) _ c8 f2) (QaU Z Z)) Z ?_
 rintro _ j0 _ c9 ⟨_,⟨rfl,rfl⟩,rfl⟩
 refine WL.a0 (qo 23 K (Bv (!c8)) (PO.not Z) (qu (Bv (!c8)) (Pt Z K Z) (Wz ?_)))
 obtain rfl:=oi h
 exact Tj ⟨c9,Z,D,r,E,Z⟩
 iterate 3 refine Of 23 Z Z K Z ?_
 refine qu (Bv false) (Pf Z K Z) (Wz ?_)
 obtain rfl:=oi h
 exact Tj ⟨lr,Z,D,r,E,Z⟩
 rintro j1 h6 j2 ⟨a7,rfl,m,y,s,a8⟩
 have f3:=(x.trans R).trans a7
 refine Ch h a8 (fun f4 h=> ?_) (fun f4 h=> ?_)
 refine Sr (qu (.agg #[(Sv ⟨#[102,108,97,103]⟩),(Iv 1),(Iv 1)]) (Bl (cl:=[(Sv ⟨#[102,108,97,103]⟩),(Iv 1),(Iv 1)]) Qn1 QsQ (Pc (Sv ⟨#[102,108,97,103]⟩) Z Z (Pc (Iv 1) Z Z (Pc (Iv 1) Z Z Pz))) Z) (WL.f1 (We (Sg (v:=(.agg #[(Sv ⟨#[102,108,97,103]⟩),(Iv 1),(Iv 1)])) (vl:=[(Sv ⟨#[102,108,97,103]⟩),(Iv 1),(Iv 1)]) (arr':=[(Sv ⟨#[102,108,97,103]⟩),(Iv 1),(Iv 1)]) Z QiQ y Z (onb Z) Z Z Z) Z ?_)))
 rintro _ _ _ - ⟨rfl,rfl⟩
 exact Nt (Cr (Tr (Qa (Dr (Qa (Dr (Rd h [] (fun _ hs=>hs.drop) (QbH Z (Rc (cs:=[(Sv ⟨#[102,108,97,103]⟩),(Iv 1),(Iv 1)]) 0 Qp5 QiQ y Z Z)) f3 ⟨Z,Z⟩)))))))
 refine Ck (Tc (Cs ?_))
 obtain ⟨d0,f5,h⟩:=bnd h
 refine Jf (fun(d0:Bool) ρ' M' H'=>h6.le M'∧[(a6, .cells (l144 w).toArray 144 (0,0))]::[(N, .cells #[(Sv ⟨#[]⟩),(Iv 0),(Iv 0)] 144 (0,0))]::[(l, .cells (l111 a0 e i j k).toArray 111 (0,0))]::F=H'∧ρ' 1=(pt l 0)∧ρ' 2=(pt N 0)∧ρ' 3=(Iv a0.Kind)∧ρ' 50=(Bv d0)) d0 ?_ ?_
 have h:=f5
 refine WC.draw [0,1,0,4,15,31,63,127,255,127,639,2047,4095,8191,16383,32767,65535,32767,163839,524287,1048575,2097151] (.pure 0 (.pure 1 (.pure 2 (.alt 3 (.alt 4 (.pure 5 (.pure 6 (.pure 7 (.pure 8 (.pure 9 (.alt 10 (.alt 11 (.pure 12 (.pure 13 (.pure 14 (.pure 15 (.pure 16 (.pure 17 (.alt 18 (.alt 19 (.pure 20 (.pure 21 .done)) .none) .none))))))) .none) .none)))))) .none) .none)))) QdC (by kernel_rfl) (qt (pt l 10) Z (Fa QrG m Z) (qt (Sv a0.Name) Z (Lb 2 pl9 Z Z Z) (qt (Iv a0.Kind) Z (Mv s) ?_)))
 obtain ⟨f6,f7,h⟩:=bnd h
 refine Ta Z (Ca QnU (QbT a0.Kind (110:Int) _ f6 f7) (QaU Z Z)) Z ?_ ?_
 rintro _ j3 _ S ⟨_,⟨rfl,rfl⟩,rfl⟩
 refine⟨(Sk 1 Z (Ss Z (Lb 2 pl9 Z Z Z) Z (Ss Z (Fa QrG m Z) Z trivial))), ?_⟩
 refine WT.a0 ?_
 obtain ⟨d1,f8,h⟩:=bnd h
 refine Ta Z (Ca Q6C (QlB a0.Name f6 _ d1 f8) (QaU Z Z)) Z ?_ ?_
 rintro _ j4 _ T ⟨_,⟨rfl,rfl⟩,rfl⟩
 refine⟨(Sl Z), ?_⟩
 refine WT.a0 (qt (Bv (!d1)) Z (PO.not Z) (qt (Bv (!d1)) Z (Mv Z) ?_))
 rcases Bi h with⟨f,h⟩ |⟨f,h⟩
 refine Tf 35 Z Z Z f Z (Tf 35 Z Z Z f Z (Tf 35 Z Z Z f Z (Tg 35 Z Z Z f Z ⟨(Sk 1 Z (St (Sf 35 Z Z Z f Z) (St (Sf 35 Z Z Z f Z) (Sl Z)))), ?_⟩ ?_)))
 refine Tg 35 Z Z Z f Z ⟨(Sl Z), ?_⟩ ?_
 refine Tf 35 Z Z Z f Z (qt (Bv true) Z (Pt Z f Z) (qt (Bv true) Z (Mv Z) (Tf 43 Z Z Z Z Z (Tf 43 Z Z Z Z Z (Tf 43 Z Z Z Z Z (Tg 43 Z Z Z Z Z ⟨(Sk 1 Z (St (Sf 43 Z Z Z Z Z) (St (Sf 43 Z Z Z Z Z) (Sl Z)))), ?_⟩ ?_))))))
 refine Tg 43 Z Z Z Z Z ⟨(Sl Z), ?_⟩ ?_
 refine Tf 43 Z Z Z Z Z (qt (Bv true) Z (Pt Z Z Z) (Ti ?_))
 obtain rfl:=oi h
 exact Tj ⟨(S.trans T),Z,m,y,s,Z⟩
 exact Tz
 exact Tz
 exact Tz
 exact Tz
 refine Tn (pt l 11) 35 Z Z Z f (Fa QmK m Z) Z (Tn (Sv a0.Key) 35 Z Z Z f (Lb 2 pl9 Z Z Z) Z (Tn (Iv a0.Kind) 35 Z Z Z f (Mv s) Z ?_))
 obtain ⟨f9,g0,h⟩:=bnd h
 refine WT.altOn 35 Z Z Z f (Ca QnU (QbT a0.Kind (107:Int) _ f9 g0) (QaU Z Z)) Z ?_ ?_
 rintro _ j5 _ a9 ⟨_,⟨rfl,rfl⟩,rfl⟩
 refine⟨(Sk 1 Z (St (StabA.on 35 Z Z Z f (Lb 2 pl9 Z Z Z) Z) (St (StabA.on 35 Z Z Z f (Fa QmK m Z) Z) (Sl Z)))), ?_⟩
 refine WT.a0 ?_
 obtain ⟨c0,g1,h⟩:=bnd h
 refine WT.altOn 35 Z Z Z f (Ca Q6C (QlB a0.Key f9 _ c0 g1) (QaU Z Z)) Z ?_ ?_
 rintro _ j6 _ b0 ⟨_,⟨rfl,rfl⟩,rfl⟩
 refine⟨(Sl Z), ?_⟩
 refine WT.a0 (Tn (Bv (!c0)) 35 Z Z Z f (PO.not Z) Z (qt (Bv (!c0)) Z (Pf Z f Z) (qt (Bv (!c0)) Z (Mv Z) ?_)))
 rcases Bi h with⟨g,h⟩ |⟨g,h⟩
 refine Tf 43 Z Z Z g Z (Tf 43 Z Z Z g Z (Tf 43 Z Z Z g Z (Tg 43 Z Z Z g Z ⟨(Sk 1 Z (St (Sf 43 Z Z Z g Z) (St (Sf 43 Z Z Z g Z) (Sl Z)))), ?_⟩ ?_)))
 refine Tg 43 Z Z Z g Z ⟨(Sl Z), ?_⟩ ?_
 refine Tf 43 Z Z Z g Z (qt (Bv true) Z (Pt Z g Z) (Ti ?_))
 obtain rfl:=oi h
 exact Tj ⟨(((S.trans T).trans a9).trans b0),Z,m,y,s,Z⟩
 exact Tz
 exact Tz
 refine Tn (pt l 13) 43 Z Z Z g (Fa Qw3 m Z) Z (Tn (Sv a0.Rack) 43 Z Z Z g (Lb 2 pl9 Z Z Z) Z (Tn (Iv a0.Kind) 43 Z Z Z g (Mv s) Z ?_))
 obtain ⟨g2,g3,h⟩:=bnd h
 refine WT.altOn 43 Z Z Z g (Ca QnU (QbT a0.Kind (114:Int) _ g2 g3) (QaU Z Z)) Z ?_ ?_
 rintro _ j7 _ d2 ⟨_,⟨rfl,rfl⟩,rfl⟩
 refine⟨(Sk 1 Z (St (StabA.on 43 Z Z Z g (Lb 2 pl9 Z Z Z) Z) (St (StabA.on 43 Z Z Z g (Fa Qw3 m Z) Z) (Sl Z)))), ?_⟩
 refine WT.a0 ?_
 obtain ⟨d3,g4,h⟩:=bnd h
 refine WT.altOn 43 Z Z Z g (Ca Q6C (QlB a0.Rack g2 _ d3 g4) (QaU Z Z)) Z ?_ ?_
 rintro _ j8 _ d4 ⟨_,⟨rfl,rfl⟩,rfl⟩
 refine⟨(Sl Z), ?_⟩
 refine WT.a0 (Tn (Bv (!d3)) 43 Z Z Z g (PO.not Z) Z (qt (Bv (!d3)) Z (Pf Z g Z) (Ti ?_)))
 obtain rfl:=oi h
 exact Tj ⟨(((((S.trans T).trans a9).trans b0).trans d2).trans d4),Z,m,y,s,Z⟩
 exact Tz
 exact Tz
 exact Tz
 exact Tz
 exact Tz
 exact Tz
 rintro j9 h7 k0 ⟨b1,rfl,n,t,z,b2⟩
 have h8:=(R.trans a7).trans b1
 have b3:=f3.trans b1
 refine Ch h b2 (fun g5 h=> ?_) (fun g5 h=> ?_)
 refine Sr (qu (pt l 10) (Fa QrG n Z) (qu (Sv a0.Name) (Lb 2 pl9 Z Z Z) (qu (Iv (a0.Name.size:Int)) (lenStr underlying9 Z) (qu (.agg #[(Sv ⟨#[110,97,109,101]⟩),(Iv (a0.Name.size:Int)),(Iv 1)]) (Bl (cl:=[(Sv ⟨#[110,97,109,101]⟩),(Iv (a0.Name.size:Int)),(Iv 1)]) Qn1 QsQ (Pc (Sv ⟨#[110,97,109,101]⟩) Z Z (Pc (Iv (a0.Name.size:Int)) Z Z (Pc (Iv 1) Z Z Pz))) Z) (WL.f1 (We (Sg (v:=(.agg #[(Sv ⟨#[110,97,109,101]⟩),(Iv (a0.Name.size:Int)),(Iv 1)])) (vl:=[(Sv ⟨#[110,97,109,101]⟩),(Iv (a0.Name.size:Int)),(Iv 1)]) (arr':=[(Sv ⟨#[110,97,109,101]⟩),(Iv (a0.Name.size:Int)),(Iv 1)]) Z QiQ t Z (onb Z) Z Z Z) Z ?_))))))
 rintro _ _ _ - ⟨rfl,rfl⟩
 exact Nt (Cr (Tr (Qa (Dr (Qa (Dr (Rd h [] (fun _ hs=>hs.drop) (QbH Z (Rc (cs:=[(Sv ⟨#[110,97,109,101]⟩),(Iv (a0.Name.size:Int)),(Iv 1)]) 0 Qp5 QiQ t Z Z)) b3 ⟨Z,Z⟩)))))))
 refine Ck (Tc (Cs ?_))
 obtain ⟨d5,g6,h⟩:=bnd h
 refine Jf (fun(d5:Bool) ρ' M' H'=>h7.le M'∧[(a6, .cells (l144 w).toArray 144 (0,0))]::[(N, .cells #[(Sv ⟨#[]⟩),(Iv 0),(Iv 0)] 144 (0,0))]::[(l, .cells (l111 a0 e i j k).toArray 111 (0,0))]::F=H'∧ρ' 1=(pt l 0)∧ρ' 2=(pt N 0)∧ρ' 3=(Iv a0.Kind)∧ρ' 72=(Bv d5)) d5 ?_ ?_
 have h:=g6
 refine Cg (qu (pt l 12) (Fa QrH n Z) (qu (Sv a0.Value) (Lb 2 pl9 Z Z Z) (qu (Iv (a0.Value.size:Int)) (lenStr underlying9 Z) (qu (Bv (decide ((256:Int)<(a0.Value.size:Int)))) (gtr Z Z) (qm (Bv (decide ((256:Int)<(a0.Value.size:Int)))) ?_)))))
 rcases Bi h with⟨o,h⟩ |⟨o,h⟩
 iterate 4 refine Of 59 Z Z o Z ?_
 refine WL.offU 63 Z Z Z (WL.offU 63 Z Z Z (WL.offU 63 Z Z Z (WL.offU 66 Z Z Z (WL.offU 66 Z Z Z (WL.offU 66 Z Z Z (WL.offU 63 Z Z Z (Of 59 Z Z o Z (qu (Bv true) (Pt Z o Z) (Wz ?_)))))))))
 obtain rfl:=oi h
 exact Tj ⟨lr,Z,n,t,z,Z⟩
 refine qo 59 o (pt l 12) (Fa QrH n Z) (qo 59 o (Sv a0.Value) (Lb 2 pl9 Z Z Z) (qo 59 o (Bv (!decide (a0.Value=(⟨#[]⟩:ByteArray)))) (sneq Z Z) (On 59 Z Z o (qm (Bv (!decide (a0.Value=(⟨#[]⟩:ByteArray)))) ?_))))
 rcases Bi h with⟨q,h⟩ |⟨q,h⟩
 refine qo 63 q (pt l 9) (Fa Qw8 n Z) (qo 63 q (Bv a0.Flag) (Lb 2 pl4 Z Z Z) (On 63 Z Z q (qm (Bv a0.Flag) ?_)))
 rcases Bi h with⟨L,h⟩ |⟨L,h⟩
 iterate 3 refine Of 66 Z Z L Z ?_
 refine qo 63 q (Bv true) (Pt Z L Z) (qo 59 o (Bv true) (Pt Z q Z) (qu (Bv true) (Pf Z o Z) (Wz ?_)))
 obtain rfl:=oi h
 exact Tj ⟨lr,Z,n,t,z,Z⟩
 refine On 66 Z Z L (qM (Iv a0.Kind) z (On 66 Z Z L ?_))
 obtain ⟨b4,g7,h⟩:=bnd h
 refine We (Ca QnU (QbT a0.Kind (118:Int) _ b4 g7) (QaU Z Z)) Z ?_
 rintro _ k1 _ d6 ⟨_,⟨rfl,rfl⟩,rfl⟩
 refine WL.a0 (qo 66 L (Bv (!b4)) (PO.not Z) (qo 63 q (Bv (!b4)) (Pf Z L Z) (qo 59 o (Bv (!b4)) (Pt Z q Z) (qu (Bv (!b4)) (Pf Z o Z) (Wz ?_)))))
 obtain rfl:=oi h
 exact Tj ⟨d6,Z,n,t,z,Z⟩
 iterate 3 refine Of 63 Z Z q Z ?_
 refine WL.offU 66 Z Z Z (WL.offU 66 Z Z Z (WL.offU 66 Z Z Z (Of 63 Z Z q Z (qo 59 o (Bv false) (Pf Z q Z) (qu (Bv false) (Pf Z o Z) (Wz ?_))))))
 obtain rfl:=oi h
 exact Tj ⟨lr,Z,n,t,z,Z⟩
 rintro k2 h9 k3 ⟨b5,rfl,d,u,G,b6⟩
 have g8:=h8.trans b5
 have U:=b3.trans b5
 refine Ch h b6 (fun g9 h=> ?_) (fun g9 h=> ?_)
 refine Sr (qu (pt l 12) (Fa QrH d Z) (qu (Sv a0.Value) (Lb 2 pl9 Z Z Z) (qu (Iv (a0.Value.size:Int)) (lenStr underlying9 Z) (qu (.agg #[(Sv ⟨#[118,97,108,117,101]⟩),(Iv (a0.Value.size:Int)),(Iv 6)]) (Bl (cl:=[(Sv ⟨#[118,97,108,117,101]⟩),(Iv (a0.Value.size:Int)),(Iv 6)]) Qn1 QsQ (Pc (Sv ⟨#[118,97,108,117,101]⟩) Z Z (Pc (Iv (a0.Value.size:Int)) Z Z (Pc (Iv 6) Z Z Pz))) Z) (WL.f1 (We (Sg (v:=(.agg #[(Sv ⟨#[118,97,108,117,101]⟩),(Iv (a0.Value.size:Int)),(Iv 6)])) (vl:=[(Sv ⟨#[118,97,108,117,101]⟩),(Iv (a0.Value.size:Int)),(Iv 6)]) (arr':=[(Sv ⟨#[118,97,108,117,101]⟩),(Iv (a0.Value.size:Int)),(Iv 6)]) Z QiQ u Z (onb Z) Z Z Z) Z ?_))))))
 rintro _ _ _ - ⟨rfl,rfl⟩
 exact Nt (Cr (Tr (Qa (Dr (Qa (Dr (Rd h [] (fun _ hs=>hs.drop) (QbH Z (Rc (cs:=[(Sv ⟨#[118,97,108,117,101]⟩),(Iv (a0.Value.size:Int)),(Iv 6)]) 0 Qp5 QiQ u Z Z)) U ⟨Z,Z⟩)))))))
 refine Ck (Tc (Cs ?_))
 obtain ⟨d7,h0,h⟩:=bnd h
 refine Jf (fun(d7:Bool) ρ' M' H'=>h9.le M'∧[(a6, .cells (l144 w).toArray 144 (0,0))]::[(N, .cells #[(Sv ⟨#[]⟩),(Iv 0),(Iv 0)] 144 (0,0))]::[(l, .cells (l111 a0 e i j k).toArray 111 (0,0))]::F=H'∧ρ' 1=(pt l 0)∧ρ' 2=(pt N 0)∧ρ' 106=(Bv d7)) d7 ?_ ?_
 have h:=h0
 refine WC.draw [0,1,0,4,15,31,63,127,255,127,639,2047,4095,8191,16383,32767,65535,32767,163839,524287,1048575,2097151,4194303,8388607,16777215,8388607,41943039,134217727,268435455,536870911] (.pure 0 (.pure 1 (.pure 2 (.alt 3 (.alt 4 (.pure 5 (.pure 6 (.pure 7 (.pure 8 (.pure 9 (.alt 10 (.alt 11 (.pure 12 (.pure 13 (.pure 14 (.pure 15 (.pure 16 (.pure 17 (.alt 18 (.alt 19 (.pure 20 (.pure 21 (.pure 22 (.pure 23 (.pure 24 (.pure 25 (.alt 26 (.alt 27 (.pure 28 (.pure 29 .done)) .none) .none))))))) .none) .none))))))) .none) .none)))))) .none) .none)))) QdC (by kernel_rfl) (qt (pt l 14) Z (Fa Qt6 d Z) (qt e Z (Lb 2 pl56 Z Z Z) (qt (Iv a0.Kind) Z (Mv G) ?_)))
 obtain ⟨h1,h2,h⟩:=bnd h
 refine Ta Z (Ca QnU (QbT a0.Kind (105:Int) _ h1 h2) (QaU Z Z)) Z ?_ ?_
 rintro _ k4 _ V ⟨_,⟨rfl,rfl⟩,rfl⟩
 have h3:=g8.trans V
 refine⟨(Sk 1 Z (Ss Z (Lb 2 pl56 Z Z Z) Z (Ss Z (Fa Qt6 d Z) Z trivial))), ?_⟩
 refine WT.a0 ?_
 obtain ⟨d8,h4,h⟩:=bnd h
 have p:=p.mono h3
 refine Ta Z (Ca Q35 (Qj1 a0.Ids h1 _ _ p d8 h4) (QaU Z Z)) Z ?_ ?_
 rintro _ k5 _ W ⟨_,⟨rfl,rfl⟩,rfl⟩
 have i0:=h3.trans W
 refine⟨(Sl Z), ?_⟩
 refine WT.a0 (qt (Bv (!d8)) Z (PO.not Z) (qt (Bv (!d8)) Z (Mv Z) ?_))
 rcases Bi h with⟨a,h⟩ |⟨a,h⟩
 refine Tf 83 Z Z Z a Z (Tf 83 Z Z Z a Z (Tf 83 Z Z Z a Z (Tg 83 Z Z Z a Z ⟨(Sk 1 Z (St (Sf 83 Z Z Z a Z) (St (Sf 83 Z Z Z a Z) (Sl Z)))), ?_⟩ ?_)))
 refine Tg 83 Z Z Z a Z ⟨(Sl Z), ?_⟩ ?_
 refine Tf 83 Z Z Z a Z (qt (Bv true) Z (Pt Z a Z) (qt (Bv true) Z (Mv Z) (Tf 91 Z Z Z Z Z (Tf 91 Z Z Z Z Z (Tf 91 Z Z Z Z Z (Tg 91 Z Z Z Z Z ⟨(Sk 1 Z (St (Sf 91 Z Z Z Z Z) (St (Sf 91 Z Z Z Z Z) (Sl Z)))), ?_⟩ ?_))))))
 refine Tg 91 Z Z Z Z Z ⟨(Sl Z), ?_⟩ ?_
 refine Tf 91 Z Z Z Z Z (qt (Bv true) Z (Pt Z Z Z) (qt (Bv true) Z (Mv Z) (Tf 99 Z Z Z Z Z (Tf 99 Z Z Z Z Z (Tf 99 Z Z Z Z Z (Tg 99 Z Z Z Z Z ⟨(Sk 1 Z (St (Sf 99 Z Z Z Z Z) (St (Sf 99 Z Z Z Z Z) (Sl Z)))), ?_⟩ ?_))))))
 refine Tg 99 Z Z Z Z Z ⟨(Sl Z), ?_⟩ ?_
 refine Tf 99 Z Z Z Z Z (qt (Bv true) Z (Pt Z Z Z) (Ti ?_))
 obtain rfl:=oi h
 exact Tj ⟨(V.trans W),Z,d,u,Z⟩
 exact Tz
 exact Tz
 exact Tz
 exact Tz
 exact Tz
 exact Tz
 refine Tn (pt l 15) 83 Z Z Z a (Fa Qw4 d Z) Z (Tn i 83 Z Z Z a (Lb 2 pl56 Z Z Z) Z (Tn (Iv a0.Kind) 83 Z Z Z a (Mv G) Z ?_))
 obtain ⟨c3,d9,h⟩:=bnd h
 refine WT.altOn 83 Z Z Z a (Ca QnU (QbT a0.Kind (109:Int) _ c3 d9) (QaU Z Z)) Z ?_ ?_
 rintro _ i1 _ Y ⟨_,⟨rfl,rfl⟩,rfl⟩
 have b7:=i0.trans Y
 refine⟨(Sk 1 Z (St (StabA.on 83 Z Z Z a (Lb 2 pl56 Z Z Z) Z) (St (StabA.on 83 Z Z Z a (Fa Qw4 d Z) Z) (Sl Z)))), ?_⟩
 refine WT.a0 ?_
 obtain ⟨a1,e0,h⟩:=bnd h
 have A:=A.mono b7
 refine WT.altOn 83 Z Z Z a (Ca Q35 (Qj1 a0.Isr c3 _ _ A a1 e0) (QaU Z Z)) Z ?_ ?_
 rintro _ i2 _ P ⟨_,⟨rfl,rfl⟩,rfl⟩
 have b8:=((V.trans W).trans Y).trans P
 refine⟨(Sl Z), ?_⟩
 refine WT.a0 (Tn (Bv (!a1)) 83 Z Z Z a (PO.not Z) Z (qt (Bv (!a1)) Z (Pf Z a Z) (qt (Bv (!a1)) Z (Mv Z) ?_)))
 rcases Bi h with⟨b,h⟩ |⟨b,h⟩
 refine Tf 91 Z Z Z b Z (Tf 91 Z Z Z b Z (Tf 91 Z Z Z b Z (Tg 91 Z Z Z b Z ⟨(Sk 1 Z (St (Sf 91 Z Z Z b Z) (St (Sf 91 Z Z Z b Z) (Sl Z)))), ?_⟩ ?_)))
 refine Tg 91 Z Z Z b Z ⟨(Sl Z), ?_⟩ ?_
 refine Tf 91 Z Z Z b Z (qt (Bv true) Z (Pt Z b Z) (qt (Bv true) Z (Mv Z) (Tf 99 Z Z Z Z Z (Tf 99 Z Z Z Z Z (Tf 99 Z Z Z Z Z (Tg 99 Z Z Z Z Z ⟨(Sk 1 Z (St (Sf 99 Z Z Z Z Z) (St (Sf 99 Z Z Z Z Z) (Sl Z)))), ?_⟩ ?_))))))
 refine Tg 99 Z Z Z Z Z ⟨(Sl Z), ?_⟩ ?_
 refine Tf 99 Z Z Z Z Z (qt (Bv true) Z (Pt Z Z Z) (Ti ?_))
 obtain rfl:=oi h
 exact Tj ⟨b8,Z,d,u,Z⟩
 exact Tz
 exact Tz
 exact Tz
 exact Tz
 refine Tn (pt l 16) 91 Z Z Z b (Fa Qw5 d Z) Z (Tn j 91 Z Z Z b (Lb 2 pl56 Z Z Z) Z (Tn (Iv a0.Kind) 91 Z Z Z b (Mv G) Z ?_))
 obtain ⟨c4,e1,h⟩:=bnd h
 refine WT.altOn 91 Z Z Z b (Ca QnU (QbT a0.Kind (120:Int) _ c4 e1) (QaU Z Z)) Z ?_ ?_
 rintro _ i3 _ I ⟨_,⟨rfl,rfl⟩,rfl⟩
 refine⟨(Sk 1 Z (St (StabA.on 91 Z Z Z b (Lb 2 pl56 Z Z Z) Z) (St (StabA.on 91 Z Z Z b (Fa Qw5 d Z) Z) (Sl Z)))), ?_⟩
 refine WT.a0 ?_
 obtain ⟨a2,e2,h⟩:=bnd h
 have B:=B.mono ((b7.trans P).trans I)
 refine WT.altOn 91 Z Z Z b (Ca Q35 (Qj1 a0.Add c4 _ _ B a2 e2) (QaU Z Z)) Z ?_ ?_
 rintro _ i4 _ Q ⟨_,⟨rfl,rfl⟩,rfl⟩
 refine⟨(Sl Z), ?_⟩
 refine WT.a0 (Tn (Bv (!a2)) 91 Z Z Z b (PO.not Z) Z (qt (Bv (!a2)) Z (Pf Z b Z) (qt (Bv (!a2)) Z (Mv Z) ?_)))
 rcases Bi h with⟨c,h⟩ |⟨c,h⟩
 refine Tf 99 Z Z Z c Z (Tf 99 Z Z Z c Z (Tf 99 Z Z Z c Z (Tg 99 Z Z Z c Z ⟨(Sk 1 Z (St (Sf 99 Z Z Z c Z) (St (Sf 99 Z Z Z c Z) (Sl Z)))), ?_⟩ ?_)))
 refine Tg 99 Z Z Z c Z ⟨(Sl Z), ?_⟩ ?_
 refine Tf 99 Z Z Z c Z (qt (Bv true) Z (Pt Z c Z) (Ti ?_))
 obtain rfl:=oi h
 exact Tj ⟨((b8.trans I).trans Q),Z,d,u,Z⟩
 exact Tz
 exact Tz
 refine Tn (pt l 17) 99 Z Z Z c (Fa Qw6 d Z) Z (Tn k 99 Z Z Z c (Lb 2 pl56 Z Z Z) Z (Tn (Iv a0.Kind) 99 Z Z Z c (Mv G) Z ?_))
 obtain ⟨c5,e3,h⟩:=bnd h
 refine WT.altOn 99 Z Z Z c (Ca QnU (QbT a0.Kind (120:Int) _ c5 e3) (QaU Z Z)) Z ?_ ?_
 rintro _ i5 _ a3 ⟨_,⟨rfl,rfl⟩,rfl⟩
 refine⟨(Sk 1 Z (St (StabA.on 99 Z Z Z c (Lb 2 pl56 Z Z Z) Z) (St (StabA.on 99 Z Z Z c (Fa Qw6 d Z) Z) (Sl Z)))), ?_⟩
 refine WT.a0 ?_
 obtain ⟨b9,e4,h⟩:=bnd h
 have C:=C.mono ((((b7.trans P).trans I).trans Q).trans a3)
 refine WT.altOn 99 Z Z Z c (Ca Q35 (Qj1 a0.Drop c5 _ _ C b9 e4) (QaU Z Z)) Z ?_ ?_
 rintro _ i6 _ c1 ⟨_,⟨rfl,rfl⟩,rfl⟩
 refine⟨(Sl Z), ?_⟩
 refine WT.a0 (Tn (Bv (!b9)) 99 Z Z Z c (PO.not Z) Z (qt (Bv (!b9)) Z (Pf Z c Z) (Ti ?_)))
 obtain rfl:=oi h
 exact Tj ⟨((((b8.trans I).trans Q).trans a3).trans c1),Z,d,u,Z⟩
 exact Tz
 exact Tz
 exact Tz
 exact Tz
 exact Tz
 exact Tz
 exact Tz
 exact Tz
 rintro k6 k7 k8 ⟨X,rfl,c2,J,a4⟩
 refine Ch h a4 (fun e5 h=> ?_) (fun e5 h=> ?_)
 refine Sr (qu (pt l 14) (Fa Qt6 c2 Z) (qu e (Lb 2 pl56 Z Z Z) ?_))
 have p:=p.mono (g8.trans X)
 refine qu (Iv (a0.Ids.length:Int)) (lenS underlying56 Z p.len) (qu (.agg #[(Sv ⟨#[114,111,119]⟩),(Iv (a0.Ids.length:Int)),(Iv 18)]) (Bl (cl:=[(Sv ⟨#[114,111,119]⟩),(Iv (a0.Ids.length:Int)),(Iv 18)]) Qn1 QsQ (Pc (Sv ⟨#[114,111,119]⟩) Z Z (Pc (Iv (a0.Ids.length:Int)) Z Z (Pc (Iv 18) Z Z Pz))) Z) (WL.f1 (We (Sg (v:=(.agg #[(Sv ⟨#[114,111,119]⟩),(Iv (a0.Ids.length:Int)),(Iv 18)])) (vl:=[(Sv ⟨#[114,111,119]⟩),(Iv (a0.Ids.length:Int)),(Iv 18)]) (arr':=[(Sv ⟨#[114,111,119]⟩),(Iv (a0.Ids.length:Int)),(Iv 18)]) Z QiQ J Z (onb Z) Z Z Z) Z ?_)))
 rintro _ _ _ - ⟨rfl,rfl⟩
 exact Nt (Cr (Tr (Qa (Dr (Qa (Dr (Rd h [] (fun _ hs=>hs.drop) (QbH Z (Rc (cs:=[(Sv ⟨#[114,111,119]⟩),(Iv (a0.Ids.length:Int)),(Iv 18)]) 0 Qp5 QiQ J Z Z)) (U.trans X) ⟨Z,Z⟩)))))))
 refine Ck (Tc (Sr (qu (.agg #[(Sv ⟨#[]⟩),(Iv 0),(Iv 0)]) (Bl (cl:=[(Sv ⟨#[]⟩),(Iv 0),(Iv 0)]) Qn1 QsQ Pz Z) (WL.f1 (We (Sg (v:=(.agg #[(Sv ⟨#[]⟩),(Iv 0),(Iv 0)])) (vl:=[(Sv ⟨#[]⟩),(Iv 0),(Iv 0)]) (arr':=[(Sv ⟨#[]⟩),(Iv 0),(Iv 0)]) Z QiQ J Z (onb Z) Z Z Z) Z ?_)))))
 rintro _ _ _ - ⟨rfl,rfl⟩
 exact Nt (Cr (Qa (Dr (Qa (Dr (Rd h [] (fun _ hs=>hs.drop) (QbH Z (Rc (cs:=[(Sv ⟨#[]⟩),(Iv 0),(Iv 0)]) 0 Qp5 QiQ J Z Z)) (U.trans X) ⟨Z,Z⟩))))))
noncomputable def QhS (a0:QaA) (a1:Int) (s_:Int):Option (Int⊕(Unit⊕(Int×Int×ByteArray×Bool×Bool))):=
 match s_ with
 |a=>
 (if(decide (a<(a0.Brokers.length:Int)))=true then(grd (0≤a∧a<a0.Brokers.length) (if(decide (((rd a0.Brokers a).Id)=a1))=true then(grd (0≤a∧a<a0.Brokers.length) (some (inr (inr ((rd a0.Brokers a).Id,(rd a0.Brokers a).Epoch,(rd a0.Brokers a).Rack,(rd a0.Brokers a).Fenced,(rd a0.Brokers a).Leaving)))))else(some (inl (i64.wrap (a+(1:Int)))))))else(some (inr (inl ()))))
noncomputable def Qd1 (a0:QaA) (a1:Int):Option (QaE×Bool):=
 ((((iter (QhS a0 a1) (0:Int)).bind (Sum.elim (fun _=>(some (inl ()))) (fun(a,b,c,d,e)=>(((some ((⟨a,b,c,d,e⟩:QaE),true))).bind fun r=>some (inr r))))):Option (Unit⊕(QaE×Bool))).bind (Sum.elim (fun _=>(some ((⟨(0:Int),(0:Int),(⟨#[]⟩:ByteArray),false,false⟩:QaE),false))) some))
def QpN (a0:QaA) (a1:Int) (b c d e:Value):(QaE×Bool)→Value→IM→HL→Prop:=
 fun(p_:(QaE×Bool)) (v:Value) (M':IM) (H':HL)=>match p_ with |(a,f)=>(.tuple #[(.agg #[(.int .i64 a.Id),(.int .i64 a.Epoch),(.string a.Rack),(.bool a.Fenced),(.bool a.Leaving)]),(.bool f)])=v∧H'=[]
theorem QfE (a0:QaA) (a1:Int) (M:IM) (b f g i:Value) (k:RS QaD M b a0.Brokers) (K:RS QaG M f a0.Topics) (L:RS QaF M g a0.Configs) (N:RS QaI M i a0.Done) (res:(QaE×Bool)) (h:Qd1 a0 a1=some res):
 Tri prog 130 #[(a27_ a0 b f g i),(Iv a1)] M [] (QpN a0 a1 b f g i res):=by
 unfold Qd1 at h
 refine Te func130 Z Z ?_
 intro F ρ hρ
 refine Sr (We (box (cs:=(l27 a0 b f g i).toArray) (congrArg Value.cells (asE (a27_ a0 b f g i) (hρ 0)))) Z ?_)
 rintro _ _ _ - ⟨rfl,r,rfl,rfl⟩
 refine We (Al ze71 Z) Z ?_
 rintro _ _ _ - ⟨rfl,s,rfl,rfl⟩
 refine qa (Bv false) (Nt ?_)
 obtain ⟨I,A,h⟩:=bnd h
 refine WC.joinE (fun(_:Unit) ρ' M' H'=>M.le M'∧[(s, .cells z71_.toArray 71 (0,0))]::[(r, .cells (l27 a0 b f g i).toArray 27 (0,0))]::F=H'∧ρ' 4=(pt s 0)) I ?_ ?_
 have B:=h
 have h:=A
 refine Sr (qa (Iv 0) (Nt (Bk ?_)))
 obtain ⟨Q,C,t⟩:=bnd h
 clear h
 refine WC.loop C (fun(a:Int) ρ' M' H'=>M.le M'∧[(s, .cells z71_.toArray 71 (0,0))]::[(r, .cells (l27 a0 b f g i).toArray 27 (0,0))]::F=H'∧ρ' 1=(Iv a1)∧ρ' 2=(pt r 0)∧ρ' 4=(pt s 0)∧ρ' 6=(Iv a)) ?_ ?_
 exact⟨lr,Z,(hρ 1),Z,Z,Z⟩
 rintro a R S T U h ⟨j,rfl,m,c,d,e⟩
 unfold QhS at h
 refine Cs (Sr (qM (Iv a) e (qu (pt r 0) (Fa QdN c Z) (qu b (Lb 1 pl22 Z Z Z) ?_))))
 have k:=k.mono j
 refine qu (Iv (a0.Brokers.length:Int)) (lenS underlying22 Z k.len) (qu (Bv (decide (a<(a0.Brokers.length:Int)))) (lss Z Z) (Nt (Ch h Z (fun D h=> ?_) (fun D h=> ?_))))
 refine Ck (Tc (Cs (Bk (Sr (qu (pt r 0) (Fa QdN c Z) (qu b (Lb 1 pl22 Z Z Z) (qM (Iv a) e ?_)))))))
 obtain ⟨o,h⟩:=QaQ h
 obtain ⟨E,O,u,w,hhas37⟩:=k.at o.1 o.2 (by decide)
 obtain rfl:=Qa2 w
 refine qu (.pointer (some E)) (indexAddr (n:=a0.Brokers.length) underlying22 sz71 Z Z o.1 o.2 u) (qu (.pointer (some (E.add 0))) (Fa QhQ Z Z) (qu (Iv ((rd a0.Brokers a).Id)) (loadM pl3 Z (IM.has0 hhas37)) (qM (Iv a1) m (qu (Bv (decide (((rd a0.Brokers a).Id)=a1))) (eql Z Z) (Nt (Ch h Z (fun G h=> ?_) (fun G h=> ?_)))))))
 refine Sr (qu (pt r 0) (Fa QdN c Z) (qu b (Lb 1 pl22 Z Z Z) (qM (Iv a) e ?_)))
 obtain ⟨p,h⟩:=QaQ h
 obtain ⟨J,P,x,y,hhas45⟩:=k.at p.1 p.2 (by decide)
 obtain rfl:=Qa2 y
 refine qu (.pointer (some J)) (indexAddr (n:=a0.Brokers.length) underlying22 sz71 Z Z p.1 p.2 x) (qu (a71_ (rd a0.Brokers a)) (loadMA (cs:=(l71 (rd a0.Brokers a))) ag71 sz71 Z hhas45) (We (Sg (v:=(a71_ (rd a0.Brokers a))) (vl:=(l71 (rd a0.Brokers a))) (arr':=(l71 (rd a0.Brokers a))) Z sz71 d Z (onb Z) Z Z Z) Z ?_))
 rintro _ _ _ - ⟨rfl,rfl⟩
 refine qa (Bv true) (Nt (Cr (Br (Tr (WQ.leaveR (inr ((rd a0.Brokers a).Id,(rd a0.Brokers a).Epoch,(rd a0.Brokers a).Rack,(rd a0.Brokers a).Fenced,(rd a0.Brokers a).Leaving)) (oi h).symm (fun l=> ?_))))))
 subst l
 have h:=(QdO t)
 refine Br (Tr ?_)
 have h:=KK.early h B
 exact Qa (Dr (Rd h [] (fun _ hs=>hs.drop) (QaX Z (RVs.cons (Rc (cs:=(l71 (rd a0.Brokers a))) 0 ag71 sz71 d Z Z) (RVs.cons (RV.tmp Z) RVs.nil))) j ⟨Z,Z⟩))
 exact Ck (Bn (Tc (Cg (qM (Iv a) e (qu (Iv (i64.wrap (a+1))) (add Z Z) (qa (Iv (i64.wrap (a+1))) (Wz (WQ.again (i64.wrap (a+1)) (oi h).symm ⟨j,Z,m,c,d,Z⟩))))))))
 refine WC.exit (WQ.thenE (WQ.leaveE (inl ()) (oi h).symm (fun l=> ?_)))
 subst l
 have h:=QeJ t
 exact WQ.blockH (WQ.thenFE h ⟨j,Z,d⟩)
 rintro _ V W X rfl ⟨z,rfl,q⟩
 have h:=(Sum.elim_inl _ _ _).symm.trans h
 refine Sr (qu (.agg z71_.toArray) (Bl (cl:=z71_) ze71 fp71 Pz Z) (We (Sg (v:=(.agg z71_.toArray)) (vl:=z71_) (arr':=z71_) Z sz71 q Z (onb Z) Z Z Z) Z ?_))
 rintro _ _ _ - ⟨rfl,rfl⟩
 exact qa (Bv false) (Nt (Cr (Qa (Dr (Rd h [] (fun _ hs=>hs.drop) (QaX Z (RVs.cons (Rc (cs:=z71_) 0 ag71 sz71 q Z Z) (RVs.cons (RV.tmp Z) RVs.nil))) z ⟨Z,Z⟩)))))
noncomputable def Qf5 (a0:QaA) (a1:Int) (a:Int) (s_:Int):Option (Int⊕(Unit⊕Unit)):=
 match s_ with
 |b=>
 (grd (0≤a∧a<a0.Topics.length) (if(decide (b<(((rd a0.Topics a).Parts).length:Int)))=true then(grd (0≤a∧a<a0.Topics.length) (grd (0≤b∧b<((rd a0.Topics a).Parts).length) (if(decide (((rd ((rd a0.Topics a).Parts) b).Leader)=a1))=true then(some (inr (inr ())))else(some (inl (i64.wrap (b+(1:Int))))))))else(some (inr (inl ())))))
noncomputable def Qf6 (a0:QaA) (a1:Int) (s_:Int):Option (Int⊕(Unit⊕Unit)):=
 match s_ with
 |a=>
 (if(decide (a<(a0.Topics.length:Int)))=true then((((iter (Qf5 a0 a1 a) (0:Int)).bind (Sum.elim (fun _=>(some (inl ()))) (fun _=>(((some (inr (inr ())))).bind fun r=>some (inr r))))):Option (Unit⊕(Int⊕(Unit⊕Unit)))).bind (Sum.elim (fun _=>(some (inl (i64.wrap (a+(1:Int)))))) some))else(some (inr (inl ()))))
noncomputable def QfZ (a0:QaA) (a1:Int):Option Bool:=
 ((((iter (Qf6 a0 a1) (0:Int)).bind (Sum.elim (fun _=>(some (inl ()))) (fun _=>(((some true)).bind fun r=>some (inr r))))):Option (Unit⊕Bool)).bind (Sum.elim (fun _=>(some false)) some))
def QqM (a0:QaA) (a1:Int) (a b c d:Value):Bool→Value→IM→HL→Prop:=
 fun(e:Bool) (v:Value) (M':IM) (H':HL)=>(.bool e)=v∧H'=[]
theorem QkS (a0:QaA) (a1:Int) (M:IM) (c a d e:Value) (b8:RS QaD M c a0.Brokers) (i:RS QaG M a a0.Topics) (b9:RS QaF M d a0.Configs) (c0:RS QaI M e a0.Done) (res:Bool) (h:QfZ a0 a1=some res):
 Tri prog 76 #[(a27_ a0 c a d e),(Iv a1)] M [] (QqM a0 a1 c a d e res):=by
 unfold QfZ at h
 refine Te func76 Z Z ?_
 intro F ρ hρ
 refine Sr (We (box (cs:=(l27 a0 c a d e).toArray) (congrArg Value.cells (asE (a27_ a0 c a d e) (hρ 0)))) Z ?_)
 rintro _ _ _ - ⟨rfl,k,rfl,rfl⟩
 refine qa (Bv false) (Nt ?_)
 obtain ⟨b6,S,h⟩:=bnd h
 refine WC.joinE (fun(_:Unit) ρ' M' H'=>M.le M'∧[(k, .cells (l27 a0 c a d e).toArray 27 (0,0))]::F=H') b6 ?_ ?_
 have T:=h
 have h:=S
 refine Sr (qa (Iv 0) (Nt (Bk ?_)))
 obtain ⟨c4,U,G⟩:=bnd h
 clear h
 refine WC.loop U (fun(b:Int) ρ' M' H'=>M.le M'∧[(k, .cells (l27 a0 c a d e).toArray 27 (0,0))]::F=H'∧ρ' 1=(Iv a1)∧ρ' 2=(pt k 0)∧ρ' 5=(Iv b)) ?_ ?_
 exact⟨lr,Z,(hρ 1),Z,Z⟩
 rintro b c5 c6 V c7 h ⟨l,rfl,x,s,t⟩
 unfold Qf6 at h
 refine Cs (Sr (qM (Iv b) t (qu (pt k 1) (Fa QbW s Z) (qu a (Lb 0 pl23 Z Z Z) ?_))))
 have i:=i.mono l
 refine qu (Iv (a0.Topics.length:Int)) (lenS underlying23 Z i.len) (qu (Bv (decide (b<(a0.Topics.length:Int)))) (lss Z Z) (Nt (Ch h Z (fun W h=> ?_) (fun W h=> ?_))))
 refine Ck (Tc ?_)
 obtain ⟨b7,X,h⟩:=bnd h
 refine WC.joinE (fun(_:Unit) ρ' M' H'=>V.le M'∧[(k, .cells (l27 a0 c a d e).toArray 27 (0,0))]::F=H'∧ρ' 1=(Iv a1)∧ρ' 2=(pt k 0)∧ρ' 5=(Iv b)) b7 ?_ ?_
 have Y:=h
 have h:=X
 refine Bk (Sr (qa (Iv 0) (Nt (Bk ?_))))
 obtain ⟨c8,a2,I⟩:=bnd h
 clear h
 refine WC.loop a2 (fun(j:Int) ρ' M' H'=>V.le M'∧[(k, .cells (l27 a0 c a d e).toArray 27 (0,0))]::F=H'∧ρ' 1=(Iv a1)∧ρ' 2=(pt k 0)∧ρ' 5=(Iv b)∧ρ' 6=(Iv j)) ?_ ?_
 exact⟨lr,Z,x,s,t,Z⟩
 rintro j c9 d0 d1 d2 h ⟨m,rfl,o,f,g,p⟩
 unfold Qf5 at h
 refine Cs (Sr (qM (Iv j) p (qu (pt k 1) (Fa QbW f Z) (qu a (Lb 0 pl23 Z Z Z) (qM (Iv b) g ?_)))))
 obtain ⟨u,h⟩:=QaQ h
 have i:=i.mono m
 obtain ⟨a3,c1,J,K,hhas34⟩:=i.at u.1 u.2 (by decide)
 obtain ⟨y,rfl,z⟩:=QaN K
 refine qu (.pointer (some a3)) (indexAddr (n:=a0.Topics.length) underlying23 sz55 Z Z u.1 u.2 J) (qu (.pointer (some (a3.add 2))) (Fa QdB Z Z) (qu y (loadM pl53 Z (hhas34 2 _ Z)) (qu (Iv (((rd a0.Topics b).Parts).length:Int)) (lenS underlying53 Z z.len) (qu (Bv (decide (j<(((rd a0.Topics b).Parts).length:Int)))) (lss Z Z) (Nt (Ch h Z (fun a4 h=> ?_) (fun a4 h=> ?_)))))))
 refine Ck (Tc (Cs (Bk (Sr (qu (pt k 1) (Fa QbW f Z) (qu a (Lb 0 pl23 Z Z Z) (qM (Iv b) g ?_)))))))
 obtain ⟨v,h⟩:=QaQ h
 obtain ⟨a5,c2,L,N,hhas42⟩:=i.at v.1 v.2 (by decide)
 obtain ⟨A,rfl,B⟩:=QaN N
 refine qu (.pointer (some a5)) (indexAddr (n:=a0.Topics.length) underlying23 sz55 Z Z v.1 v.2 L) (qu (.pointer (some (a5.add 2))) (Fa QdB Z Z) (qu A (loadM pl53 Z (hhas42 2 _ Z)) (qM (Iv j) p ?_)))
 obtain ⟨w,h⟩:=QaQ h
 obtain ⟨a6,c3,O,P,hhas49⟩:=B.at w.1 w.2 (by decide)
 obtain ⟨a8,a9,b0,b1,rfl,b2,b3,b4,b5⟩:=Qb7 P
 refine qu (.pointer (some a6)) (indexAddr (n:=((rd a0.Topics b).Parts).length) underlying53 sz58 Z Z w.1 w.2 O) (qu (.pointer (some (a6.add 2))) (Fa Qk1 Z Z) (qu (Iv ((rd ((rd a0.Topics b).Parts) j).Leader)) (loadM pl3 Z (hhas49 2 _ Z)) (qM (Iv a1) o (qu (Bv (decide (((rd ((rd a0.Topics b).Parts) j).Leader)=a1))) (eql Z Z) (Nt (Ch h Z (fun a7 h=> ?_) (fun a7 h=> ?_)))))))
 refine Sr (qa (Bv true) (Nt (Cr (Br (Tr (WQ.leaveR (inr ()) (oi h).symm (fun q=> ?_)))))))
 subst q
 have h:=(QdO I)
 refine Br (Br (Tr ?_))
 have h:=KK.early h Y
 refine WQ.leaveR (inr ()) (oi h).symm (fun r=> ?_)
 subst r
 have h:=(QdO G)
 refine Br (Tr ?_)
 have h:=KK.early h T
 exact Dr (Rf h [] Z (Rs Z Z) (l.trans m) ⟨Z,Z⟩)
 exact Ck (Bn (Tc (Cg (qM (Iv j) p (qu (Iv (i64.wrap (j+1))) (add Z Z) (qa (Iv (i64.wrap (j+1))) (Wz (WQ.again (i64.wrap (j+1)) (oi h).symm ⟨m,Z,o,f,g,Z⟩))))))))
 refine WC.exit (WQ.thenE (WQ.leaveE (inl ()) (oi h).symm (fun q=> ?_)))
 subst q
 have h:=QeJ I
 exact WQ.blockH (Bn (WQ.thenFE h ⟨m,Z,o,f,g⟩))
 rintro _ d3 d4 d5 rfl ⟨Q,rfl,C,D,E⟩
 have h:=(Sum.elim_inl _ _ _).symm.trans h
 exact Cg (qM (Iv b) E (qu (Iv (i64.wrap (b+1))) (add Z Z) (qa (Iv (i64.wrap (b+1))) (Wz (WQ.again (i64.wrap (b+1)) (oi h).symm ⟨(l.trans Q),Z,C,D,Z⟩)))))
 refine WC.exit (WQ.thenE (WQ.leaveE (inl ()) (oi h).symm (fun r=> ?_)))
 subst r
 have h:=QeJ G
 exact WQ.blockH (WQ.thenFE h ⟨l,Z⟩)
 rintro _ d6 d7 d8 rfl ⟨R,rfl⟩
 have h:=(Sum.elim_inl _ _ _).symm.trans h
 exact Sr (qa (Bv false) (Nt (Cr (Dr (Rf h [] Z (Rs Z Z) R ⟨Z,Z⟩)))))
noncomputable def Qc6 (a0:(List QaE)) (a1:QaE) (s_:((List QaE)×Bool×Int)):Option (((List QaE)×Bool×Int)⊕((List QaE)×Bool)):=
 match s_ with
 |(b,c,a)=>
 (if(decide (a<(a0.length:Int)))=true then(((((((if(!c)=true then(grd (0≤a∧a<a0.length) (some (decide (a1.Id≤((rd a0 a).Id)))))else(some false)):Option Bool).bind fun f=>(if f=true then(grd (b.length+[a1].length≤274877906944) (some (b++[a1],true)))else(some (b,c)))):Option ((List QaE)×Bool)).bind fun(d,e)=>(grd (0≤a∧a<a0.length) (if(decide (((rd a0 a).Id)≠a1.Id))=true then(grd (0≤a∧a<a0.length) (grd (d.length+[(rd a0 a)].length≤274877906944) (some (d++[(rd a0 a)],e))))else(some (d,e))))):Option ((List QaE)×Bool)).bind fun(g,i)=>(some (inl (g,i,i64.wrap (a+(1:Int))))))else(some (inr (b,c))))
noncomputable def Qd6 (a0:(List QaE)) (a1:QaE):Option (List QaE):=
 ((((iter (Qc6 a0 a1) ([],false,(0:Int))).bind (fun(b,c)=>(some (b,c)))):Option ((List QaE)×Bool)).bind fun(a,d)=>(((if(!d)=true then(grd (a.length+[a1].length≤274877906944) (some (a++[a1])))else(some a)):Option (List QaE)).bind fun e=>(some e)))
def QmZ (a0:(List QaE)) (a1:QaE) (d:Value):(List QaE)→Value→IM→HL→Prop:=
 fun(c:(List QaE)) (v:Value) (M':IM) (H':HL)=>∃ a b,a=v∧H'=[b]∧OwnS QaD M' a c b
theorem QkY (a0:(List QaE)) (a1:QaE) (M:IM) (Q:Value) (h0:RS QaD M Q a0) (res:(List QaE)) (h:Qd6 a0 a1=some res):
 Tri prog 131 #[Q,(a71_ a1)] M [] (QmZ a0 a1 Q res):=by
 unfold Qd6 at h
 refine Te func131 Z Z ?_
 intro F ρ hρ
 refine Sr (We (box (cs:=(l71 a1).toArray) (congrArg Value.cells (asE (a71_ a1) (hρ 1)))) Z ?_)
 rintro _ _ _ - ⟨rfl,c,rfl,rfl⟩
 refine qa Zs (Ns (qa Zs (Ns (qa (Bv false) (Nt ?_)))))
 obtain ⟨c6,c7,h⟩:=bnd h
 refine Jf (fun(p_:((List QaE)×Bool)) ρ' M' H'=>match p_ with |(a9,S)=>∃ t A,M.le M'∧[(c, .cells (l71 a1).toArray 71 (0,0))]::A::F=H'∧ρ' 3=(pt c 0)∧ρ' 5=t∧ρ' 6=(Bv S)∧OwnS QaD M' t a9 A) c6 ?_ ?_
 have h:=c7
 refine Sr (qa (Iv 0) (Nt (Bk (WC.e0 (WC.f1 ?_)))))
 obtain ⟨h3,c8,c9⟩:=bnd h
 clear h
 refine WC.loop c8 (fun(p_:((List QaE)×Bool×Int)) ρ' M' H'=>match p_ with |(T,w,b)=>∃ k m,M.le M'∧[(c, .cells (l71 a1).toArray 71 (0,0))]::m::F=H'∧ρ' 0=Q∧ρ' 3=(pt c 0)∧ρ' 5=k∧ρ' 6=(Bv w)∧ρ' 7=(Iv b)∧OwnS QaD M' k T m) ?_ ?_
 exact⟨Zs,[],lr,Z,(hρ 0),Z,Z,Z,Z,(OwnS.nil _ _)⟩
 rintro ⟨T,w,b⟩ h4 h5 b0 h6 h ⟨k,m,y,rfl,d,e,p,f,g,l⟩
 unfold Qc6 at h
 refine Cs (Sr (qM (Iv b) g (qM Q d ?_)))
 have h0:=h0.mono y
 refine qu (Iv (a0.length:Int)) (lenS underlying22 Z h0.len) (qu (Bv (decide (b<(a0.length:Int)))) (lss Z Z) (Nt (Ch h Z (fun d0 h=> ?_) (fun d0 h=> ?_))))
 refine Ck (Tc ?_)
 obtain ⟨d1,d2,h⟩:=bnd h
 refine Jf (fun(p_:((List QaE)×Bool)) ρ' M' H'=>match p_ with |(b1,b2)=>∃ B C,b0.le M'∧[(c, .cells (l71 a1).toArray 71 (0,0))]::C::F=H'∧ρ' 0=Q∧ρ' 3=(pt c 0)∧ρ' 5=B∧ρ' 6=(Bv b2)∧ρ' 7=(Iv b)∧OwnS QaD M' B b1 C) d1 ?_ ?_
 have h:=d2
 refine Bk ?_
 obtain ⟨d3,d4,h⟩:=bnd h
 refine Jf (fun(p_:((List QaE)×Bool)) ρ' M' H'=>match p_ with |(b3,d5)=>∃ u D,b0.le M'∧[(c, .cells (l71 a1).toArray 71 (0,0))]::D::F=H'∧ρ' 0=Q∧ρ' 3=(pt c 0)∧ρ' 5=u∧ρ' 6=(Bv d5)∧ρ' 7=(Iv b)∧OwnS QaD M' u b3 D) d3 ?_ ?_
 have h:=d4
 obtain ⟨b4,d6,h⟩:=bnd h
 refine Jf (fun(b4:Bool) ρ' M' H'=>b0.le M'∧[(c, .cells (l71 a1).toArray 71 (0,0))]::m::F=H'∧ρ' 0=Q∧ρ' 3=(pt c 0)∧ρ' 5=k∧ρ' 6=(Bv w)∧ρ' 7=(Iv b)∧ρ' 25=(Bv b4)) b4 ?_ ?_
 have h:=d6
 refine WC.draw [0,1,3,7,7,31,63,127,7,263,1023,2047] (.pure 0 (.pure 1 (.pure 2 (.pure 3 (.pure 4 (.pure 5 (.pure 6 (.pure 7 (.pure 8 (.pure 9 (.pure 10 (.pure 11 .done)))))))))))) QdC (by kernel_rfl) (qt (Bv w) Z (Mv f) (qt (Bv (!w)) Z (PO.not Z) (qt (Bv (!w)) Z (Mv Z) ?_)))
 rcases Bi h with⟨a,h⟩ |⟨a,h⟩
 refine Tn Q 16 Z Z Z a (Mv d) Z (Tn (Iv b) 16 Z Z Z a (Mv g) Z ?_)
 obtain ⟨E,h⟩:=QaQ h
 obtain ⟨d7,g9,b5,b6,hhas47⟩:=h0.at E.1 E.2 (by decide)
 obtain rfl:=Qa2 b6
 refine Tn (.pointer (some d7)) 16 Z Z Z a (indexAddr (n:=a0.length) underlying22 sz71 Z Z E.1 E.2 b5) Z (Tn (.pointer (some (d7.add 0))) 16 Z Z Z a (Fa QhQ Z Z) Z (Tn (Iv ((rd a0 b).Id)) 16 Z Z Z a (loadM pl3 Z (IM.has0 hhas47)) Z (Tn (pt c 0) 16 Z Z Z a (Fa QhQ e Z) Z (Tn (Iv a1.Id) 16 Z Z Z a (Lb 0 pl3 Z Z Z) Z (Tn (Bv (decide (a1.Id≤((rd a0 b).Id)))) 16 Z Z Z a (geq Z Z) Z (qt (Bv (decide (a1.Id≤((rd a0 b).Id)))) Z (Pt Z a Z) (Ti ?_)))))))
 obtain rfl:=oi h
 exact Tj ⟨lr,Z,d,e,p,f,g,Z⟩
 refine Tf 16 Z Z Z a Z (Tf 16 Z Z Z a Z (Tf 16 Z Z Z a Z (Tf 16 Z Z Z a Z (Tf 16 Z Z Z a Z (Tf 16 Z Z Z a Z (Tf 16 Z Z Z a Z (Tf 16 Z Z Z a Z (qt (Bv false) Z (Pf Z a Z) (Ti ?_)))))))))
 obtain rfl:=oi h
 exact Tj ⟨lr,Z,d,e,p,f,g,Z⟩
 rintro h7 f7 h8 ⟨q,rfl,G,r,I,U,J,R⟩
 refine Ch h R (fun d8 h=> ?_) (fun d8 h=> ?_)
 refine Sr (qM k I (qu (a71_ a1) (La (cs:=(l71 a1)) 0 ag71 sz71 r Z Z) (We (buildSliceL (cl:=(l71 a1)) underlying22 iz71 Z (Pc (a71_ a1) Z Z Pz) Z) Z ?_)))
 rintro _ _ _ - ⟨rfl,d9,rfl,rfl⟩
 have f8:OwnS QaD f7 (.slice (some ⟨d9,0,none⟩) 1 1) [a1] [(d9, .cells (l71 a1).toArray 71 (0,0))]:=OwnS.rows (css:=[(l71 a1)]) (Rows.cons (QeP (x:=a1)) Rows.nil) Z Z
 obtain ⟨e1,h⟩:=QaQ h
 refine Wb ?_
 have l:=l.mono q
 refine We (append (dd:=QaD) (xs:=T) (ys:=[a1]) underlying22 underlying22 in71 Z (appB (by decide) e1) (by decide) Z Z l (f8.src 1 Z)) Z ?_
 rintro e2 _ _ - ⟨rfl,f9,rfl,g0⟩
 refine qa e2 (Nt (Cg (qa (Bv true) (Wz (Qa (Dr (Qa ?_)))))))
 obtain rfl:=oi h
 exact Tj ⟨e2,f9,q,Z,G,r,Z,Z,J,g0⟩
 refine Ck ?_
 obtain rfl:=oi h
 refine Tj ?_
 have l:=l.mono q
 exact⟨k,m,q,Z,G,r,I,U,J,l⟩
 obtain ⟨b3,d5⟩:=d3
 rintro h9 g1 i0 ⟨u,D,z,rfl,i,s,K,L,j,a7⟩
 refine Cs (WC.draw [0,0,3,7,15,0,32,127] (.pure 0 (.pure 1 (.pure 2 (.pure 3 (.pure 4 (.pure 5 (.pure 6 (.pure 7 .done)))))))) QdC (by kernel_rfl) (qt Q Z (Mv i) (qt (Iv b) Z (Mv j) ?_)))
 obtain ⟨N,h⟩:=QaQ h
 have h0:=h0.mono z
 obtain ⟨e3,h1,b7,b8,hhas62⟩:=h0.at N.1 N.2 (by decide)
 obtain rfl:=Qa2 b8
 refine qt (.pointer (some e3)) Z (indexAddr (n:=a0.length) underlying22 sz71 Z Z N.1 N.2 b7) (qt (.pointer (some (e3.add 0))) Z (Fa QhQ Z Z) (qt (Iv ((rd a0 b).Id)) Z (loadM pl3 Z (IM.has0 hhas62)) (qt (pt c 0) Z (Fa QhQ s Z) (qt (Iv a1.Id) Z (Lb 0 pl3 Z Z Z) (qt (Bv (decide (((rd a0 b).Id)≠a1.Id))) Z (neq Z Z) (Ti (Tc (Ch h Z (fun e4 h=> ?_) (fun e4 h=> ?_)))))))))
 refine Cg (qM u K (qM Q i (qM (Iv b) j ?_)))
 obtain ⟨O,h⟩:=QaQ h
 obtain ⟨g2,h2,b9,c0,hhas70⟩:=h0.at O.1 O.2 (by decide)
 obtain rfl:=Qa2 c0
 refine qu (.pointer (some g2)) (indexAddr (n:=a0.length) underlying22 sz71 Z Z O.1 O.2 b9) (qu (a71_ (rd a0 b)) (loadMA (cs:=(l71 (rd a0 b))) ag71 sz71 Z hhas70) (We (buildSliceL (cl:=(l71 (rd a0 b))) underlying22 iz71 Z (Pc (a71_ (rd a0 b)) Z Z Pz) Z) Z ?_))
 rintro _ _ _ - ⟨rfl,e5,rfl,rfl⟩
 have g3:OwnS QaD g1 (.slice (some ⟨e5,0,none⟩) 1 1) [(rd a0 b)] [(e5, .cells (l71 (rd a0 b)).toArray 71 (0,0))]:=OwnS.rows (css:=[(l71 (rd a0 b))]) (Rows.cons (QeP (x:=(rd a0 b))) Rows.nil) Z Z
 obtain ⟨e6,h⟩:=QaQ h
 refine Wb (We (append (dd:=QaD) (xs:=b3) (ys:=[(rd a0 b)]) underlying22 underlying22 in71 Z (appB (by decide) e6) (by decide) Z Z a7 (g3.src 1 Z)) Z ?_)
 rintro e7 _ _ - ⟨rfl,g4,rfl,g5⟩
 refine qa e7 (Wz (Bn (Qa (Dr (Qa ?_)))))
 obtain rfl:=oi h
 exact Tj ⟨e7,g4,z,Z,i,s,Z,L,j,g5⟩
 refine Ck (Bn ?_)
 obtain rfl:=oi h
 exact Tj ⟨u,D,z,Z,i,s,K,L,j,a7⟩
 obtain ⟨b1,b2⟩:=d1
 rintro i1 i2 i3 ⟨B,C,c1,rfl,V,W,X,Y,a2,e8⟩
 exact Cg (qM (Iv b) a2 (qu (Iv (i64.wrap (b+1))) (add Z Z) (qa (Iv (i64.wrap (b+1))) (Wz (WQ.again (b1,b2,i64.wrap (b+1)) (oi h).symm ⟨B,C,(y.trans c1),Z,V,W,X,Y,Z,e8⟩)))))
 refine WC.exit (WQ.thenE (WQ.leaveE (T,w) (oi h).symm (fun c2=> ?_)))
 subst c2
 have h:=c9
 refine WQ.blockH ?_
 obtain rfl:=oi h
 exact Tj ⟨k,m,y,Z,e,p,f,l⟩
 obtain ⟨a9,S⟩:=c6
 rintro i4 e9 i5 ⟨t,A,c3,rfl,a3,P,a4,a8⟩
 obtain ⟨c4,f0,h⟩:=bnd h
 refine Jf (fun(c4:(List QaE)) ρ' M' H'=>∃ o v,e9.le M'∧[(c, .cells (l71 a1).toArray 71 (0,0))]::v::F=H'∧ρ' 5=o∧OwnS QaD M' o c4 v) c4 ?_ ?_
 have h:=f0
 refine Sr (qM (Bv S) a4 (qu (Bv (!S)) (PO.not Z) (Nt (Ch h Z (fun f2 h=> ?_) (fun f2 h=> ?_)))))
 refine Cg (qM t P (qu (a71_ a1) (La (cs:=(l71 a1)) 0 ag71 sz71 a3 Z Z) (We (buildSliceL (cl:=(l71 a1)) underlying22 iz71 Z (Pc (a71_ a1) Z Z Pz) Z) Z ?_)))
 rintro _ _ _ - ⟨rfl,f3,rfl,rfl⟩
 have g6:OwnS QaD e9 (.slice (some ⟨f3,0,none⟩) 1 1) [a1] [(f3, .cells (l71 a1).toArray 71 (0,0))]:=OwnS.rows (css:=[(l71 a1)]) (Rows.cons (QeP (x:=a1)) Rows.nil) Z Z
 obtain ⟨f4,h⟩:=QaQ h
 refine Wb (We (append (dd:=QaD) (xs:=a9) (ys:=[a1]) underlying22 underlying22 in71 Z (appB (by decide) f4) (by decide) Z Z a8 (g6.src 1 Z)) Z ?_)
 rintro f5 _ _ - ⟨rfl,g7,rfl,g8⟩
 refine qa f5 (Wz (Qa (Dr (Qa ?_))))
 obtain rfl:=oi h
 exact Tj ⟨f5,g7,lr,Z,Z,g8⟩
 refine Ck ?_
 obtain rfl:=oi h
 exact Tj ⟨t,A,lr,Z,P,a8⟩
 rintro i6 i7 i8 ⟨o,v,c5,rfl,a5,f6⟩
 exact Sr (qM o a5 (qa o (Nt (Cr (Dr (Rf h [v] Z (Rs Z Z) (c3.trans c5) ⟨o,v,Z,Z,f6⟩))))))
noncomputable def Qf7 (a0:QaA) (a1:QaK):Option (QaA×Int):=
 ((Qd1 a0 a1.Broker).bind fun(b,a)=>(((if a=true then(some (decide (a1.Epoch≤b.Epoch)))else(some false)):Option Bool).bind fun c=>(if c=true then(some (a0,(11:Int)))else(((if a=true then((QfZ a0 a1.Broker).bind fun d=>(some d))else(some false)):Option Bool).bind fun e=>(if e=true then(some (a0,(10:Int)))else((Qd6 a0.Brokers (⟨a1.Broker,a1.Epoch,a1.Rack,true,false⟩:QaE)).bind fun f=>(some ((⟨f,a0.Topics,a0.Configs,a0.Done,a0.Last⟩:QaA),(0:Int)))))))))
def QnH (a0:QaA) (a1:QaK) (k l m n f g i j:Value):(QaA×Int)→Value→IM→HL→Prop:=
 fun(p_:(QaA×Int)) (v:Value) (M':IM) (H':HL)=>match p_ with |(e,o)=>∃ a b c d,(.tuple #[(.agg #[a,b,c,d,(.int .i64 e.Last)]),(.int .i64 o)])=v∧H'=[]∧RS QaD M' a e.Brokers∧RS QaG M' b e.Topics∧RS QaF M' c e.Configs∧RS QaI M' d e.Done
theorem QpO (a0:QaA) (a1:QaK) (M:IM) (d a b c j k l m:Value) (i:RS QaD M d a0.Brokers) (e:RS QaG M a a0.Topics) (f:RS QaF M b a0.Configs) (g:RS QaI M c a0.Done) (a6:RS (Kd.int .i64) M j a1.Ids) (a7:RS (Kd.int .i64) M k a1.Isr) (a8:RS (Kd.int .i64) M l a1.Add) (a9:RS (Kd.int .i64) M m a1.Drop) (res:(QaA×Int)) (h:Qf7 a0 a1=some res):
 Tri prog 92 #[(a27_ a0 d a b c),(QjY a1 j k l m)] M [] (QnH a0 a1 d a b c j k l m res):=by
 unfold Qf7 at h
 refine Te func92 Z Z ?_
 intro F ρ hρ
 refine Sr (We (box (cs:=(l27 a0 d a b c).toArray) (congrArg Value.cells (asE (a27_ a0 d a b c) (hρ 0)))) Z ?_)
 rintro _ _ _ - ⟨rfl,G,rfl,rfl⟩
 refine We (box (cs:=(l111 a1 j k l m).toArray) (congrArg Value.cells (asE (QjY a1 j k l m) (hρ 1)))) Z ?_
 rintro _ _ _ - ⟨rfl,u,rfl,rfl⟩
 refine We (Al ze27 Z) Z ?_
 rintro _ _ _ - ⟨rfl,K,rfl,rfl⟩
 refine qa (Iv 0) (Ns (qu (a27_ a0 d a b c) (La (cs:=(l27 a0 d a b c)) 2 ag27 sz27 Z Z Z) (qu (pt u 1) (Fa Qp6 Z Z) (qu (Iv a1.Broker) (Lb 1 pl3 Z Z Z) ?_))))
 obtain ⟨⟨t,y⟩,U,h⟩:=bnd h
 refine We (Ca Q14 (QfE a0 a1.Broker _ _ _ _ _ i e f g (t,y) U) (QaU Z Z)) Z ?_
 rintro _ b0 _ N ⟨_,⟨rfl,rfl⟩,rfl⟩
 refine WL.a0 (qm (.tuple #[(a71_ t),(Bv y)]) (qu (a71_ t) (Xt Z Z) (qu (Bv y) (Xt Z Z) (We (Al ze71 Z) Z ?_))))
 rintro _ _ _ - ⟨rfl,O,rfl,rfl⟩
 refine We (Sg (v:=(a71_ t)) (vl:=(l71 t)) (arr':=(l71 t)) Z sz71 Z Z (onb Z) Z Z Z) Z ?_
 rintro _ _ _ - ⟨rfl,rfl⟩
 refine qa (Bv y) (Nt (Cs ?_))
 obtain ⟨P,V,h⟩:=bnd h
 refine Jf (fun(P:Bool) ρ' M' H'=>b0.le M'∧[(O, .cells (l71 t).toArray 71 (0,0))]::[(K, .cells z27_.toArray 27 (0,0))]::[(u, .cells (l111 a1 j k l m).toArray 111 (0,0))]::[(G, .cells (l27 a0 d a b c).toArray 27 (0,0))]::F=H'∧ρ' 2=(pt G 0)∧ρ' 3=(pt u 0)∧ρ' 4=(pt K 0)∧ρ' 7=(Bv y)∧ρ' 23=(Bv P)) P ?_ ?_
 have h:=V
 refine Cg (qm (Bv y) (qm (Bv y) ?_))
 rcases Bi h with⟨n,h⟩ |⟨n,h⟩
 refine qo 17 n (pt O 1) (Fa QmU Z Z) (qo 17 n (Iv t.Epoch) (Lb 0 pl3 Z Z Z) (qo 17 n (pt u 2) (Fa Ql1 Z Z) (qo 17 n (Iv a1.Epoch) (Lb 2 pl3 Z Z Z) (qo 17 n (Bv (decide (a1.Epoch≤t.Epoch))) (geq Z Z) (qu (Bv (decide (a1.Epoch≤t.Epoch))) (Pt Z n Z) (Wz ?_))))))
 obtain rfl:=oi h
 exact Tj ⟨lr,Z,Z,Z,Z,Z,Z⟩
 iterate 5 refine Of 17 Z Z n Z ?_
 refine qu (Bv false) (Pf Z n Z) (Wz ?_)
 obtain rfl:=oi h
 exact Tj ⟨lr,Z,Z,Z,Z,Z,Z⟩
 rintro b5 b1 b6 ⟨Q,rfl,q,z,r,L,I⟩
 have w:=N.trans Q
 refine Ch h I (fun W h=> ?_) (fun W h=> ?_)
 refine Sr (qu (a27_ a0 d a b c) (La (cs:=(l27 a0 d a b c)) 3 ag27 sz27 q Z Z) (WL.f1 ?_))
 have i:=i.mono w
 have e:=e.mono w
 have f:=f.mono w
 have g:=g.mono w
 refine We (Sg (v:=(a27_ a0 d a b c)) (vl:=(l27 a0 d a b c)) (arr':=(l27 a0 d a b c)) Z sz27 r Z (QbG (Oc (RS.one i) (Oc (RS.one e) (Oc (RS.one f) (Oc (RS.one g) (Oc Z Oz)))))) Z Z Z) Z ?_
 rintro _ _ _ - ⟨rfl,rfl⟩
 exact qa (Iv 11) (Nt (Cr (Tr (Qa (Dr (Qa (Dr (Qa (Dr (Rd h [] (fun _ hs=>hs.drop) (QaX Z (RVs.cons (Rc (cs:=(l27 a0 d a b c)) 0 ag27 sz27 r Z Z) (RVs.cons (RV.tmp Z) RVs.nil))) w ⟨d,a,b,c,Z,Z,i,e,f,g⟩))))))))))
 refine Ck (Tc (Cs ?_))
 obtain ⟨R,X,h⟩:=bnd h
 refine Jf (fun(R:Bool) ρ' M' H'=>b1.le M'∧[(O, .cells (l71 t).toArray 71 (0,0))]::[(K, .cells z27_.toArray 27 (0,0))]::[(u, .cells (l111 a1 j k l m).toArray 111 (0,0))]::[(G, .cells (l27 a0 d a b c).toArray 27 (0,0))]::F=H'∧ρ' 2=(pt G 0)∧ρ' 3=(pt u 0)∧ρ' 4=(pt K 0)∧ρ' 31=(Bv R)) R ?_ ?_
 have h:=X
 refine Cg (qM (Bv y) L (qm (Bv y) ?_))
 rcases Bi h with⟨p,h⟩ |⟨p,h⟩
 refine qo 26 p (a27_ a0 d a b c) (La (cs:=(l27 a0 d a b c)) 3 ag27 sz27 q Z Z) (qo 26 p (pt u 1) (Fa Qp6 z Z) (qo 26 p (Iv a1.Broker) (Lb 2 pl3 Z Z Z) (On 26 Z Z p ?_)))
 obtain ⟨Y,a2,h⟩:=bnd h
 have i:=i.mono w
 have e:=e.mono w
 have f:=f.mono w
 have g:=g.mono w
 refine We (Ca co76 (QkS a0 a1.Broker _ _ _ _ _ i e f g Y a2) (QaU Z Z)) Z ?_
 rintro _ b7 _ S ⟨_,⟨rfl,rfl⟩,rfl⟩
 refine WL.a0 (qu (Bv Y) (Pt Z p Z) (Wz ?_))
 obtain rfl:=oi h
 exact Tj ⟨S,Z,q,z,r,Z⟩
 iterate 4 refine Of 26 Z Z p Z ?_
 refine qu (Bv false) (Pf Z p Z) (Wz ?_)
 obtain rfl:=oi h
 exact Tj ⟨lr,Z,q,z,r,Z⟩
 rintro b8 b9 c0 ⟨T,rfl,A,B,s,J⟩
 have x:=w.trans T
 refine Ch h J (fun a3 h=> ?_) (fun a3 h=> ?_)
 refine Sr (qu (a27_ a0 d a b c) (La (cs:=(l27 a0 d a b c)) 3 ag27 sz27 A Z Z) (WL.f1 ?_))
 have i:=i.mono x
 have e:=e.mono x
 have f:=f.mono x
 have g:=g.mono x
 refine We (Sg (v:=(a27_ a0 d a b c)) (vl:=(l27 a0 d a b c)) (arr':=(l27 a0 d a b c)) Z sz27 s Z (QbG (Oc (RS.one i) (Oc (RS.one e) (Oc (RS.one f) (Oc (RS.one g) (Oc Z Oz)))))) Z Z Z) Z ?_
 rintro _ _ _ - ⟨rfl,rfl⟩
 exact qa (Iv 10) (Nt (Cr (Tr (Qa (Dr (Qa (Dr (Qa (Dr (Rd h [] (fun _ hs=>hs.drop) (QaX Z (RVs.cons (Rc (cs:=(l27 a0 d a b c)) 0 ag27 sz27 s Z Z) (RVs.cons (RV.tmp Z) RVs.nil))) x ⟨d,a,b,c,Z,Z,i,e,f,g⟩))))))))))
 refine Ck (Tc (Sr (qu (a27_ a0 d a b c) (La (cs:=(l27 a0 d a b c)) 3 ag27 sz27 A Z Z) (We (Al ze27 Z) Z ?_))))
 rintro _ _ _ - ⟨rfl,b2,rfl,rfl⟩
 have i:=i.mono x
 have e:=e.mono x
 have f:=f.mono x
 have g:=g.mono x
 refine We (Sg (v:=(a27_ a0 d a b c)) (vl:=(l27 a0 d a b c)) (arr':=(l27 a0 d a b c)) Z sz27 Z Z (QbG (Oc (RS.one i) (Oc (RS.one e) (Oc (RS.one f) (Oc (RS.one g) (Oc Z Oz)))))) Z Z Z) Z ?_
 rintro _ _ _ - ⟨rfl,rfl⟩
 refine Ns (qu (pt G 0) (Fa QdN A Z) (qu d (Lb 4 pl22 Z Z Z) (qu (pt u 1) (Fa Qp6 B Z) (qu (Iv a1.Broker) (Lb 3 pl3 Z Z Z) (qu (pt u 2) (Fa Ql1 B Z) (qu (Iv a1.Epoch) (Lb 3 pl3 Z Z Z) (qu (pt u 13) (Fa Qw3 B Z) (qu (Sv a1.Rack) (Lb 3 pl9 Z Z Z) (qu (.agg #[(Iv a1.Broker),(Iv a1.Epoch),(Sv a1.Rack),(Bv true),(Bv false)]) (Bl (cl:=[(Iv a1.Broker),(Iv a1.Epoch),(Sv a1.Rack),(Bv true),(Bv false)]) ze71 fp71 (Pc (Iv a1.Broker) Z Z (Pc (Iv a1.Epoch) Z Z (Pc (Sv a1.Rack) Z Z (Pc (Bv true) Z Z Pz)))) Z) ?_)))))))))
 obtain ⟨b3,a4,h⟩:=bnd h
 refine We (Ca Q7G (QkY a0.Brokers (⟨a1.Broker,a1.Epoch,a1.Rack,true,false⟩:QaE) _ _ i b3 a4) (QaU Z Z)) Z ?_
 rintro _ c1 _ C ⟨_,⟨o,b4,rfl,rfl,E⟩,rfl⟩
 refine WL.a1 (qu (pt b2 0) (Fa QdN Z Z) (WL.f1 (We (Es o ((l27 a0 o a b c)) E.cells sz22 Z Z (Ow E) Z Z Z) Z ?_)))
 rintro _ _ _ - ⟨rfl,rfl⟩
 refine Ns (qu (a27_ a0 o a b c) (La (cs:=(l27 a0 o a b c)) 0 ag27 sz27 Z Z Z) (WL.f3 ?_))
 have e:=e.mono C
 have f:=f.mono C
 have g:=g.mono C
 refine We (Sg (v:=(a27_ a0 o a b c)) (vl:=(l27 a0 o a b c)) (arr':=(l27 a0 o a b c)) Z sz27 s Z (QbG (Oc (Ow E) (Oc (RS.one e) (Oc (RS.one f) (Oc (RS.one g) (Oc Z Oz)))))) Z Z Z) Z ?_
 rintro _ _ _ - ⟨rfl,rfl⟩
 refine qa (Iv 0) (Nt (Cr (Qb (WQ.know (fun _ hs=>E.rs hs) (fun a5=> ?_)))))
 refine WQ.freeze (fun D=> ?_)
 refine Qa (Dr (Qa (Dr (Qa (Dr (Qa (Dr ?_)))))))
 have e:=e.mono D
 have f:=f.mono D
 have g:=g.mono D
 exact Rd h [] (fun _ hs=>hs.drop) (QaX Z (RVs.cons (Rc (cs:=(l27 a0 o a b c)) 0 ag27 sz27 s Z Z) (RVs.cons (RV.tmp Z) RVs.nil))) ((x.trans C).trans D) ⟨o,a,b,c,Z,Z,a5,e,f,g⟩
noncomputable def Qh4 (a0:(List Int)) (a1:Int) (s_:Int):Option (Int⊕(Unit⊕Unit)):=
 match s_ with
 |a=>
 (if(decide (a<(a0.length:Int)))=true then(grd (0≤a∧a<a0.length) (if(decide ((rd a0 a)=a1))=true then(some (inr (inr ())))else(some (inl (i64.wrap (a+(1:Int)))))))else(some (inr (inl ()))))
noncomputable def QeD (a0:(List Int)) (a1:Int):Option Bool:=
 ((((iter (Qh4 a0 a1) (0:Int)).bind (Sum.elim (fun _=>(some (inl ()))) (fun _=>(((some true)).bind fun r=>some (inr r))))):Option (Unit⊕Bool)).bind (Sum.elim (fun _=>(some false)) some))
def QtG (a0:(List Int)) (a1:Int) (b:Value):Bool→Value→IM→HL→Prop:=
 fun(a:Bool) (v:Value) (M':IM) (H':HL)=>(.bool a)=v∧H'=[]
theorem QgO (a0:(List Int)) (a1:Int) (M:IM) (m:Value) (t:RS (Kd.int .i64) M m a0) (res:Bool) (h:QeD a0 a1=some res):
 Tri prog 145 #[m,(Iv a1)] M [] (QtG a0 a1 m res):=by
 unfold QeD at h
 refine Te func145 Z Z ?_
 intro F ρ hρ
 refine Sr (qa (Bv false) (Nt ?_))
 obtain ⟨u,o,h⟩:=bnd h
 refine WC.joinE (fun(_:Unit) ρ' M' H'=>M.le M'∧F=H') u ?_ ?_
 have p:=h
 have h:=o
 refine Sr (qa (Iv 0) (Nt (Bk ?_)))
 obtain ⟨x,q,i⟩:=bnd h
 clear h
 refine WC.loop q (fun(a:Int) ρ' M' H'=>M.le M'∧F=H'∧ρ' 0=m∧ρ' 1=(Iv a1)∧ρ' 5=(Iv a)) ?_ ?_
 exact⟨lr,Z,(hρ 0),(hρ 1),Z⟩
 rintro a y z A B h ⟨b,rfl,c,f,d⟩
 unfold Qh4 at h
 refine Cs (Sr (qM (Iv a) d (qM m c ?_)))
 have t:=t.mono b
 refine qu (Iv (a0.length:Int)) (lenS underlying56 Z t.len) (qu (Bv (decide (a<(a0.length:Int)))) (lss Z Z) (Nt (Ch h Z (fun r h=> ?_) (fun r h=> ?_))))
 refine Ck (Tc (Cs (Bk (Sr (qM m c (qM (Iv a) d ?_))))))
 obtain ⟨g,h⟩:=QaQ h
 obtain ⟨v,w,j,k,hhas30⟩:=t.at g.1 g.2 (by decide)
 obtain rfl:=k
 refine qu (.pointer (some v)) (indexAddr (n:=a0.length) underlying56 sz3 Z Z g.1 g.2 j) (qu (Iv (rd a0 a)) (loadM pl3 Z (IM.has0 hhas30)) (qM (Iv a1) f (qu (Bv (decide ((rd a0 a)=a1))) (eql Z Z) (Nt (Ch h Z (fun s h=> ?_) (fun s h=> ?_))))))
 refine Sr (qa (Bv true) (Nt (Cr (Br (Tr (WQ.leaveR (inr ()) (oi h).symm (fun e=> ?_)))))))
 subst e
 have h:=(QdO i)
 refine Br (Tr ?_)
 have h:=KK.early h p
 exact Rf h [] Z (Rs Z Z) b ⟨Z,Z⟩
 exact Ck (Bn (Tc (Cg (qM (Iv a) d (qu (Iv (i64.wrap (a+1))) (add Z Z) (qa (Iv (i64.wrap (a+1))) (Wz (WQ.again (i64.wrap (a+1)) (oi h).symm ⟨b,Z,c,f,Z⟩))))))))
 refine WC.exit (WQ.thenE (WQ.leaveE (inl ()) (oi h).symm (fun e=> ?_)))
 subst e
 have h:=QeJ i
 exact WQ.blockH (WQ.thenFE h ⟨b,Z⟩)
 rintro _ C D E rfl ⟨l,rfl⟩
 have h:=(Sum.elim_inl _ _ _).symm.trans h
 exact Sr (qa (Bv false) (Nt (Cr (Rf h [] Z (Rs Z Z) l ⟨Z,Z⟩))))
noncomputable def Qg9 (a0:QaA) (a1:Int) (a:Int) (s_:Int):Option (Int⊕(Unit⊕Unit)):=
 match s_ with
 |b=>
 (grd (0≤a∧a<a0.Topics.length) (if(decide (b<(((rd a0.Topics a).Parts).length:Int)))=true then(grd (0≤a∧a<a0.Topics.length) (grd (0≤b∧b<((rd a0.Topics a).Parts).length) ((QeD ((rd ((rd a0.Topics a).Parts) b).Ids) a1).bind fun c=>(if c=true then(some (inr (inr ())))else(some (inl (i64.wrap (b+(1:Int)))))))))else(some (inr (inl ())))))
noncomputable def QhA (a0:QaA) (a1:Int) (s_:Int):Option (Int⊕(Unit⊕Unit)):=
 match s_ with
 |a=>
 (if(decide (a<(a0.Topics.length:Int)))=true then((((iter (Qg9 a0 a1 a) (0:Int)).bind (Sum.elim (fun _=>(some (inl ()))) (fun _=>(((some (inr (inr ())))).bind fun r=>some (inr r))))):Option (Unit⊕(Int⊕(Unit⊕Unit)))).bind (Sum.elim (fun _=>(some (inl (i64.wrap (a+(1:Int)))))) some))else(some (inr (inl ()))))
noncomputable def Qj8 (a0:QaA) (a1:Int):Option Bool:=
 ((((iter (QhA a0 a1) (0:Int)).bind (Sum.elim (fun _=>(some (inl ()))) (fun _=>(((some true)).bind fun r=>some (inr r))))):Option (Unit⊕Bool)).bind (Sum.elim (fun _=>(some false)) some))
def Qr0 (a0:QaA) (a1:Int) (a b c d:Value):Bool→Value→IM→HL→Prop:=
 fun(e:Bool) (v:Value) (M':IM) (H':HL)=>(.bool e)=v∧H'=[]
theorem QuP (a0:QaA) (a1:Int) (M:IM) (c a d e:Value) (c1:RS QaD M c a0.Brokers) (i:RS QaG M a a0.Topics) (c2:RS QaF M d a0.Configs) (c3:RS QaI M e a0.Done) (res:Bool) (h:Qj8 a0 a1=some res):
 Tri prog 132 #[(a27_ a0 c a d e),(Iv a1)] M [] (Qr0 a0 a1 c a d e res):=by
 unfold Qj8 at h
 refine Te func132 Z Z ?_
 intro F ρ hρ
 refine Sr (We (box (cs:=(l27 a0 c a d e).toArray) (congrArg Value.cells (asE (a27_ a0 c a d e) (hρ 0)))) Z ?_)
 rintro _ _ _ - ⟨rfl,j,rfl,rfl⟩
 refine qa (Bv false) (Nt ?_)
 obtain ⟨b8,V,h⟩:=bnd h
 refine WC.joinE (fun(_:Unit) ρ' M' H'=>M.le M'∧[(j, .cells (l27 a0 c a d e).toArray 27 (0,0))]::F=H') b8 ?_ ?_
 have W:=h
 have h:=V
 refine Sr (qa (Iv 0) (Nt (Bk ?_)))
 obtain ⟨c7,X,K⟩:=bnd h
 clear h
 refine WC.loop X (fun(b:Int) ρ' M' H'=>M.le M'∧[(j, .cells (l27 a0 c a d e).toArray 27 (0,0))]::F=H'∧ρ' 1=(Iv a1)∧ρ' 2=(pt j 0)∧ρ' 5=(Iv b)) ?_ ?_
 exact⟨lr,Z,(hρ 1),Z,Z⟩
 rintro b c8 c9 Y d0 h ⟨l,rfl,y,s,t⟩
 unfold QhA at h
 refine Cs (Sr (qM (Iv b) t (qu (pt j 1) (Fa QbW s Z) (qu a (Lb 0 pl23 Z Z Z) ?_))))
 have i:=i.mono l
 refine qu (Iv (a0.Topics.length:Int)) (lenS underlying23 Z i.len) (qu (Bv (decide (b<(a0.Topics.length:Int)))) (lss Z Z) (Nt (Ch h Z (fun a2 h=> ?_) (fun a2 h=> ?_))))
 refine Ck (Tc ?_)
 obtain ⟨b9,a3,h⟩:=bnd h
 refine WC.joinE (fun(_:Unit) ρ' M' H'=>Y.le M'∧[(j, .cells (l27 a0 c a d e).toArray 27 (0,0))]::F=H'∧ρ' 1=(Iv a1)∧ρ' 2=(pt j 0)∧ρ' 5=(Iv b)) b9 ?_ ?_
 have a4:=h
 have h:=a3
 refine Bk (Sr (qa (Iv 0) (Nt (Bk ?_))))
 obtain ⟨d1,a5,L⟩:=bnd h
 clear h
 refine WC.loop a5 (fun(k:Int) ρ' M' H'=>Y.le M'∧[(j, .cells (l27 a0 c a d e).toArray 27 (0,0))]::F=H'∧ρ' 1=(Iv a1)∧ρ' 2=(pt j 0)∧ρ' 5=(Iv b)∧ρ' 6=(Iv k)) ?_ ?_
 exact⟨lr,Z,y,s,t,Z⟩
 rintro k d2 d3 d4 d5 h ⟨m,rfl,o,f,g,p⟩
 unfold Qg9 at h
 refine Cs (Sr (qM (Iv k) p (qu (pt j 1) (Fa QbW f Z) (qu a (Lb 0 pl23 Z Z Z) (qM (Iv b) g ?_)))))
 obtain ⟨u,h⟩:=QaQ h
 have i:=i.mono m
 obtain ⟨a6,c4,N,O,hhas34⟩:=i.at u.1 u.2 (by decide)
 obtain ⟨z,rfl,A⟩:=QaN O
 refine qu (.pointer (some a6)) (indexAddr (n:=a0.Topics.length) underlying23 sz55 Z Z u.1 u.2 N) (qu (.pointer (some (a6.add 2))) (Fa QdB Z Z) (qu z (loadM pl53 Z (hhas34 2 _ Z)) (qu (Iv (((rd a0.Topics b).Parts).length:Int)) (lenS underlying53 Z A.len) (qu (Bv (decide (k<(((rd a0.Topics b).Parts).length:Int)))) (lss Z Z) (Nt (Ch h Z (fun a7 h=> ?_) (fun a7 h=> ?_)))))))
 refine Ck (Tc (Cs (Bk (Sr (qu (pt j 1) (Fa QbW f Z) (qu a (Lb 0 pl23 Z Z Z) (qM (Iv b) g ?_)))))))
 obtain ⟨v,h⟩:=QaQ h
 obtain ⟨a8,c5,P,Q,hhas42⟩:=i.at v.1 v.2 (by decide)
 obtain ⟨B,rfl,C⟩:=QaN Q
 refine qu (.pointer (some a8)) (indexAddr (n:=a0.Topics.length) underlying23 sz55 Z Z v.1 v.2 P) (qu (.pointer (some (a8.add 2))) (Fa QdB Z Z) (qu B (loadM pl53 Z (hhas42 2 _ Z)) (qM (Iv k) p ?_)))
 obtain ⟨w,h⟩:=QaQ h
 obtain ⟨a9,c6,R,S,hhas49⟩:=C.at w.1 w.2 (by decide)
 obtain ⟨D,b2,b3,b4,rfl,E,b5,b6,b7⟩:=Qb7 S
 refine qu (.pointer (some a9)) (indexAddr (n:=((rd a0.Topics b).Parts).length) underlying53 sz58 Z Z w.1 w.2 R) (qu (.pointer (some (a9.add 0))) (Fa QiE Z Z) (qu D (loadM pl56 Z (IM.has0 hhas49)) (qM (Iv a1) o ?_)))
 obtain ⟨c0,b0,h⟩:=bnd h
 refine We (Ca Q09 (QgO ((rd ((rd a0.Topics b).Parts) k).Ids) a1 _ _ E c0 b0) (QaU Z Z)) Z ?_
 rintro _ d6 _ x ⟨_,⟨rfl,rfl⟩,rfl⟩
 refine WL.a0 (Nt (Ch h Z (fun b1 h=> ?_) (fun b1 h=> ?_)))
 refine Sr (qa (Bv true) (Nt (Cr (Br (Tr (WQ.leaveR (inr ()) (oi h).symm (fun q=> ?_)))))))
 subst q
 have h:=(QdO L)
 refine Br (Br (Tr ?_))
 have h:=KK.early h a4
 refine WQ.leaveR (inr ()) (oi h).symm (fun r=> ?_)
 subst r
 have h:=(QdO K)
 refine Br (Tr ?_)
 have h:=KK.early h W
 exact Dr (Rf h [] Z (Rs Z Z) ((l.trans m).trans x) ⟨Z,Z⟩)
 exact Ck (Bn (Tc (Cg (qM (Iv k) p (qu (Iv (i64.wrap (k+1))) (add Z Z) (qa (Iv (i64.wrap (k+1))) (Wz (WQ.again (i64.wrap (k+1)) (oi h).symm ⟨(m.trans x),Z,o,f,g,Z⟩))))))))
 refine WC.exit (WQ.thenE (WQ.leaveE (inl ()) (oi h).symm (fun q=> ?_)))
 subst q
 have h:=QeJ L
 exact WQ.blockH (Bn (WQ.thenFE h ⟨m,Z,o,f,g⟩))
 rintro _ d7 d8 d9 rfl ⟨T,rfl,G,I,J⟩
 have h:=(Sum.elim_inl _ _ _).symm.trans h
 exact Cg (qM (Iv b) J (qu (Iv (i64.wrap (b+1))) (add Z Z) (qa (Iv (i64.wrap (b+1))) (Wz (WQ.again (i64.wrap (b+1)) (oi h).symm ⟨(l.trans T),Z,G,I,Z⟩)))))
 refine WC.exit (WQ.thenE (WQ.leaveE (inl ()) (oi h).symm (fun r=> ?_)))
 subst r
 have h:=QeJ K
 exact WQ.blockH (WQ.thenFE h ⟨l,Z⟩)
 rintro _ e0 e1 e2 rfl ⟨U,rfl⟩
 have h:=(Sum.elim_inl _ _ _).symm.trans h
 exact Sr (qa (Bv false) (Nt (Cr (Dr (Rf h [] Z (Rs Z Z) U ⟨Z,Z⟩)))))
noncomputable def QhT (a0:QaA) (c:QaE) (s_:(Int×(List QaE))):Option ((Int×(List QaE))⊕(List QaE)):=
 match s_ with
 |(a,b)=>
 (if(decide (a<(a0.Brokers.length:Int)))=true then(((grd (0≤a∧a<a0.Brokers.length) (if(decide (((rd a0.Brokers a).Id)≠c.Id))=true then(grd (0≤a∧a<a0.Brokers.length) (grd (b.length+[(rd a0.Brokers a)].length≤274877906944) (some (b++[(rd a0.Brokers a)]))))else(some b))):Option (List QaE)).bind fun d=>(some (inl (i64.wrap (a+(1:Int)),d))))else(some (inr b)))
noncomputable def Qh5 (a0:QaA) (a1:QaK):Option (QaA×Int):=
 ((Qd1 a0 a1.Broker).bind fun(a,b)=>(if(!b)=true then(some (a0,(8:Int)))else(if(decide (a.Epoch≠a1.Epoch))=true then(some (a0,(11:Int)))else(((if(decide (a1.Kind=(3:Int)))=true then(((if a.Fenced=true then(some true)else((QfZ a0 a.Id).bind fun c=>(some c))):Option Bool).bind fun d=>(if d=true then(((some (a0,(10:Int)))).bind fun r=>some (inr r))else(some (inl (true,a.Leaving)))))else(if(decide (a1.Kind=(4:Int)))=true then(if(!a.Fenced)=true then(((some (a0,(10:Int)))).bind fun r=>some (inr r))else(some (inl (false,false))))else(if(decide (a1.Kind=(5:Int)))=true then(((if a.Fenced=true then(some true)else(some a.Leaving)):Option Bool).bind fun e=>(if e=true then(((some (a0,(10:Int)))).bind fun r=>some (inr r))else(some (inl (a.Fenced,true)))))else((Qj8 a0 a.Id).bind fun f=>(if f=true then(((some (a0,(10:Int)))).bind fun r=>some (inr r))else((((iter (QhT a0 a) ((0:Int),[])).bind (fun(g:(List QaE))=>(some g))):Option (List QaE)).bind fun i=>(((some ((⟨i,a0.Topics,a0.Configs,a0.Done,a0.Last⟩:QaA),(0:Int)))).bind fun r=>some (inr r)))))))):Option ((Bool×Bool)⊕(QaA×Int))).bind (Sum.elim (fun(j,k)=>((Qd6 a0.Brokers (⟨a.Id,a.Epoch,a.Rack,j,k⟩:QaE)).bind fun l=>(some ((⟨l,a0.Topics,a0.Configs,a0.Done,a0.Last⟩:QaA),(0:Int))))) some)))))
def QpP (a0:QaA) (a1:QaK) (k l m n f g i j:Value):(QaA×Int)→Value→IM→HL→Prop:=
 fun(p_:(QaA×Int)) (v:Value) (M':IM) (H':HL)=>match p_ with |(e,o)=>∃ a b c d,(.tuple #[(.agg #[a,b,c,d,(.int .i64 e.Last)]),(.int .i64 o)])=v∧H'=[]∧RS QaD M' a e.Brokers∧RS QaG M' b e.Topics∧RS QaF M' c e.Configs∧RS QaI M' d e.Done
theorem Qr1 (a0:QaA) (a1:QaK) (M:IM) (d a b c l m o p:Value) (i:RS QaD M d a0.Brokers) (e:RS QaG M a a0.Topics) (f:RS QaF M b a0.Configs) (g:RS QaI M c a0.Done) (i4:RS (Kd.int .i64) M l a1.Ids) (i5:RS (Kd.int .i64) M m a1.Isr) (i6:RS (Kd.int .i64) M o a1.Add) (i7:RS (Kd.int .i64) M p a1.Drop) (res:(QaA×Int)) (h:Qh5 a0 a1=some res):
 Tri prog 93 #[(a27_ a0 d a b c),(QjY a1 l m o p)] M [] (QpP a0 a1 d a b c l m o p res):=by
 unfold Qh5 at h
 refine Te func93 Z Z ?_
 intro F ρ hρ
 refine Sr (We (box (cs:=(l27 a0 d a b c).toArray) (congrArg Value.cells (asE (a27_ a0 d a b c) (hρ 0)))) Z ?_)
 rintro _ _ _ - ⟨rfl,y,rfl,rfl⟩
 refine We (box (cs:=(l111 a1 l m o p).toArray) (congrArg Value.cells (asE (QjY a1 l m o p) (hρ 1)))) Z ?_
 rintro _ _ _ - ⟨rfl,N,rfl,rfl⟩
 refine We (Al ze27 Z) Z ?_
 rintro _ _ _ - ⟨rfl,G,rfl,rfl⟩
 refine qa (Iv 0) (Ns (qu (a27_ a0 d a b c) (La (cs:=(l27 a0 d a b c)) 2 ag27 sz27 Z Z Z) (qu (pt N 1) (Fa Qp6 Z Z) (qu (Iv a1.Broker) (Lb 1 pl3 Z Z Z) ?_))))
 obtain ⟨⟨j,b3⟩,e8,h⟩:=bnd h
 refine We (Ca Q14 (QfE a0 a1.Broker _ _ _ _ _ i e f g (j,b3) e8) (QaU Z Z)) Z ?_
 rintro _ d3 _ k ⟨_,⟨rfl,rfl⟩,rfl⟩
 refine WL.a0 (qm (.tuple #[(a71_ j),(Bv b3)]) (qu (a71_ j) (Xt Z Z) (qu (Bv b3) (Xt Z Z) (We (Al ze71 Z) Z ?_))))
 rintro _ _ _ - ⟨rfl,q,rfl,rfl⟩
 refine We (Sg (v:=(a71_ j)) (vl:=(l71 j)) (arr':=(l71 j)) Z sz71 Z Z (onb Z) Z Z Z) Z ?_
 rintro _ _ _ - ⟨rfl,rfl⟩
 refine qa (Bv b3) (Nt (Cs (Sr (qm (Bv b3) (qu (Bv (!b3)) (PO.not Z) (Nt (Ch h Z (fun e9 h=> ?_) (fun e9 h=> ?_))))))))
 refine Sr (qu (a27_ a0 d a b c) (La (cs:=(l27 a0 d a b c)) 3 ag27 sz27 Z Z Z) (WL.f1 ?_))
 have i:=i.mono k
 have e:=e.mono k
 have f:=f.mono k
 have g:=g.mono k
 refine We (Sg (v:=(a27_ a0 d a b c)) (vl:=(l27 a0 d a b c)) (arr':=(l27 a0 d a b c)) Z sz27 Z Z (QbG (Oc (RS.one i) (Oc (RS.one e) (Oc (RS.one f) (Oc (RS.one g) (Oc Z Oz)))))) Z Z Z) Z ?_
 rintro _ _ _ - ⟨rfl,rfl⟩
 exact qa (Iv 8) (Nt (Cr (Tr (Qa (Dr (Qa (Dr (Qa (Dr (Rd h [] (fun _ hs=>hs.drop) (QaX Z (RVs.cons (Rc (cs:=(l27 a0 d a b c)) 0 ag27 sz27 Z Z Z) (RVs.cons (RV.tmp Z) RVs.nil))) k ⟨d,a,b,c,Z,Z,i,e,f,g⟩))))))))))
 refine Ck (Tc (Cs (Sr (qu (pt q 1) (Fa QmU Z Z) (qu (Iv j.Epoch) (Lb 0 pl3 Z Z Z) (qu (pt N 2) (Fa Ql1 Z Z) (qu (Iv a1.Epoch) (Lb 2 pl3 Z Z Z) (qu (Bv (decide (j.Epoch≠a1.Epoch))) (neq Z Z) (Nt (Ch h Z (fun f0 h=> ?_) (fun f0 h=> ?_)))))))))))
 refine Sr (qu (a27_ a0 d a b c) (La (cs:=(l27 a0 d a b c)) 3 ag27 sz27 Z Z Z) (WL.f1 ?_))
 have i:=i.mono k
 have e:=e.mono k
 have f:=f.mono k
 have g:=g.mono k
 refine We (Sg (v:=(a27_ a0 d a b c)) (vl:=(l27 a0 d a b c)) (arr':=(l27 a0 d a b c)) Z sz27 Z Z (QbG (Oc (RS.one i) (Oc (RS.one e) (Oc (RS.one f) (Oc (RS.one g) (Oc Z Oz)))))) Z Z Z) Z ?_
 rintro _ _ _ - ⟨rfl,rfl⟩
 exact qa (Iv 11) (Nt (Cr (Tr (Qa (Dr (Qa (Dr (Qa (Dr (Rd h [] (fun _ hs=>hs.drop) (QaX Z (RVs.cons (Rc (cs:=(l27 a0 d a b c)) 0 ag27 sz27 Z Z Z) (RVs.cons (RV.tmp Z) RVs.nil))) k ⟨d,a,b,c,Z,Z,i,e,f,g⟩))))))))))
 refine Ck (Tc (Sr (qu (a27_ a0 d a b c) (La (cs:=(l27 a0 d a b c)) 3 ag27 sz27 Z Z Z) (We (Al ze27 Z) Z ?_))))
 rintro _ _ _ - ⟨rfl,u,rfl,rfl⟩
 have i:=i.mono k
 have e:=e.mono k
 have f:=f.mono k
 have g:=g.mono k
 refine We (Sg (v:=(a27_ a0 d a b c)) (vl:=(l27 a0 d a b c)) (arr':=(l27 a0 d a b c)) Z sz27 Z Z (QbG (Oc (RS.one i) (Oc (RS.one e) (Oc (RS.one f) (Oc (RS.one g) (Oc Z Oz)))))) Z Z Z) Z ?_
 rintro _ _ _ - ⟨rfl,rfl⟩
 refine Nt ?_
 obtain ⟨i8,f7,h⟩:=bnd h
 refine WC.joinE (fun(p_:(Bool×Bool)) ρ' M' H'=>match p_ with |(b4,b5)=>d3.le M'∧[(u, .cells (l27 a0 d a b c).toArray 27 (0,0))]::[(q, .cells #[(Iv j.Id),(Iv j.Epoch),(Sv j.Rack),(Bv b4),(Bv b5)] 71 (0,0))]::[(G, .cells z27_.toArray 27 (0,0))]::[(N, .cells (l111 a1 l m o p).toArray 111 (0,0))]::[(y, .cells (l27 a0 d a b c).toArray 27 (0,0))]::F=H'∧ρ' 2=(pt y 0)∧ρ' 4=(pt G 0)∧ρ' 6=(pt q 0)∧ρ' 8=(pt u 0)) i8 ?_ ?_
 have V:=h
 have h:=f7
 refine Sr (qu (pt N 0) (Fa Qu9 Z Z) (qu (Iv a1.Kind) (Lb 3 pl3 Z Z Z) (Nt (Bk (Sr (qu (Bv (decide (a1.Kind=3))) (eql Z Z) (qa (Bv (decide (a1.Kind=3))) (Nt (Ch h Z (fun f8 h=> ?_) (fun f8 h=> ?_))))))))))
 refine Cs ?_
 obtain ⟨d4,f9,h⟩:=bnd h
 refine Jf (fun(d4:Bool) ρ' M' H'=>d3.le M'∧[(u, .cells (l27 a0 d a b c).toArray 27 (0,0))]::[(q, .cells (l71 j).toArray 71 (0,0))]::[(G, .cells z27_.toArray 27 (0,0))]::[(N, .cells (l111 a1 l m o p).toArray 111 (0,0))]::[(y, .cells (l27 a0 d a b c).toArray 27 (0,0))]::F=H'∧ρ' 2=(pt y 0)∧ρ' 4=(pt G 0)∧ρ' 6=(pt q 0)∧ρ' 8=(pt u 0)∧ρ' 71=(Bv d4)) d4 ?_ ?_
 have h:=f9
 refine Cg (qu (pt q 3) (Fa QnX Z Z) (qu (Bv j.Fenced) (Lb 1 pl4 Z Z Z) (qm (Bv j.Fenced) ?_)))
 rcases Bi h with⟨E,h⟩ |⟨E,h⟩
 iterate 4 refine Of 66 Z Z E Z ?_
 refine qu (Bv true) (Pt Z E Z) (Wz ?_)
 obtain rfl:=oi h
 exact Tj ⟨lr,Z,Z,Z,Z,Z,Z⟩
 refine qo 66 E (a27_ a0 d a b c) (La (cs:=(l27 a0 d a b c)) 4 ag27 sz27 Z Z Z) (qo 66 E (pt q 0) (Fa QhQ Z Z) (qo 66 E (Iv j.Id) (Lb 1 pl3 Z Z Z) (On 66 Z Z E ?_)))
 obtain ⟨g0,g1,h⟩:=bnd h
 refine We (Ca co76 (QkS a0 j.Id _ _ _ _ _ i e f g g0 g1) (QaU Z Z)) Z ?_
 rintro _ j7 _ d5 ⟨_,⟨rfl,rfl⟩,rfl⟩
 refine WL.a0 (qu (Bv g0) (Pf Z E Z) (Wz ?_))
 obtain rfl:=oi h
 exact Tj ⟨d5,Z,Z,Z,Z,Z,Z⟩
 rintro j8 j9 k0 ⟨C,rfl,Y,O,a2,c0,b6⟩
 refine Ch h b6 (fun g2 h=> ?_) (fun g2 h=> ?_)
 refine Sr (qu (a27_ a0 d a b c) (La (cs:=(l27 a0 d a b c)) 4 ag27 sz27 Y Z Z) (Wb ?_))
 have i:=i.mono C
 have e:=e.mono C
 have f:=f.mono C
 have g:=g.mono C
 refine We (Sg (v:=(a27_ a0 d a b c)) (vl:=(l27 a0 d a b c)) (arr':=(l27 a0 d a b c)) Z sz27 O Z (QbG (Oc (RS.one i) (Oc (RS.one e) (Oc (RS.one f) (Oc (RS.one g) (Oc Z Oz)))))) Z Z Z) Z ?_
 rintro _ _ _ - ⟨rfl,rfl⟩
 refine qa (Iv 10) (Nt (Cr (Tr (Br (Tr ?_)))))
 have h:=KK.early h V
 exact Qa (Dr (Qa (Dr (Qa (Dr (Qa (Dr (Rd h [] (fun _ hs=>hs.drop) (QaX Z (RVs.cons (Rc (cs:=(l27 a0 d a b c)) 0 ag27 sz27 O Z Z) (RVs.cons (RV.tmp Z) RVs.nil))) (k.trans C) ⟨d,a,b,c,Z,Z,i,e,f,g⟩))))))))
 refine Ck (Tc (Cg (qu (pt q 3) (Fa QnX a2 Z) (WL.f1 (We (Es (Bv true) [(Iv j.Id),(Iv j.Epoch),(Sv j.Rack),(Bv true),(Bv j.Leaving)] Z sz4 Z Z Z Z Z Z) Z ?_)))))
 rintro _ _ _ - ⟨rfl,rfl⟩
 exact Wz (Bn (WQ.f4 (WQ.f4 (WQ.f4 (WQ.f3 (WQ.f4 (WQ.thenFE h ⟨C,Z,Y,O,a2,c0⟩)))))))
 refine Sr (qu (Bv (decide (a1.Kind=4))) (eql Z Z) (qa (Bv (decide (a1.Kind=4))) (Nt (Ch h Z (fun g3 h=> ?_) (fun g3 h=> ?_)))))
 refine Cs (Sr (qu (pt q 3) (Fa QnX Z Z) (qu (Bv j.Fenced) (Lb 1 pl4 Z Z Z) (qu (Bv (!j.Fenced)) (PO.not Z) (Nt (Ch h Z (fun g4 h=> ?_) (fun g4 h=> ?_)))))))
 refine Sr (qu (a27_ a0 d a b c) (La (cs:=(l27 a0 d a b c)) 4 ag27 sz27 Z Z Z) (Wb (We (Sg (v:=(a27_ a0 d a b c)) (vl:=(l27 a0 d a b c)) (arr':=(l27 a0 d a b c)) Z sz27 Z Z (QbG (Oc (RS.one i) (Oc (RS.one e) (Oc (RS.one f) (Oc (RS.one g) (Oc Z Oz)))))) Z Z Z) Z ?_)))
 rintro _ _ _ - ⟨rfl,rfl⟩
 refine qa (Iv 10) (Nt (Cr (Tr (Br (Tr ?_)))))
 have h:=KK.early h V
 exact Qa (Dr (Qa (Dr (Qa (Dr (Qa (Dr (Rd h [] (fun _ hs=>hs.drop) (QaX Z (RVs.cons (Rc (cs:=(l27 a0 d a b c)) 0 ag27 sz27 Z Z Z) (RVs.cons (RV.tmp Z) RVs.nil))) k ⟨d,a,b,c,Z,Z,i,e,f,g⟩))))))))
 refine Ck (Tc (Sr (qu (pt q 3) (Fa QnX Z Z) (WL.f1 (We (Es (Bv false) [(Iv j.Id),(Iv j.Epoch),(Sv j.Rack),(Bv false),(Bv j.Leaving)] Z sz4 Z Z Z Z Z Z) Z ?_)))))
 rintro _ _ _ - ⟨rfl,rfl⟩
 refine Nt (Cg (qu (pt q 4) (Fa Qs5 Z Z) (We (Es (Bv false) [(Iv j.Id),(Iv j.Epoch),(Sv j.Rack),(Bv false),(Bv false)] Z sz4 Z Z Z Z Z Z) Z ?_)))
 rintro _ _ _ - ⟨rfl,rfl⟩
 exact Wz (Bn (WQ.f4 (WQ.f4 (WQ.f4 (WQ.f3 (WQ.f4 (WQ.thenFE h ⟨lr,Z,Z,Z,Z,Z⟩)))))))
 refine Sr (qu (Bv (decide (a1.Kind=5))) (eql Z Z) (qa (Bv (decide (a1.Kind=5))) (Nt (Ch h Z (fun g5 h=> ?_) (fun g5 h=> ?_)))))
 refine Cs ?_
 obtain ⟨d6,g6,h⟩:=bnd h
 refine Jf (fun(d6:Bool) ρ' M' H'=>d3.le M'∧[(u, .cells (l27 a0 d a b c).toArray 27 (0,0))]::[(q, .cells (l71 j).toArray 71 (0,0))]::[(G, .cells z27_.toArray 27 (0,0))]::[(N, .cells (l111 a1 l m o p).toArray 111 (0,0))]::[(y, .cells (l27 a0 d a b c).toArray 27 (0,0))]::F=H'∧ρ' 2=(pt y 0)∧ρ' 4=(pt G 0)∧ρ' 6=(pt q 0)∧ρ' 8=(pt u 0)∧ρ' 89=(Bv d6)) d6 ?_ ?_
 have h:=g6
 refine Cg (qu (pt q 3) (Fa QnX Z Z) (qu (Bv j.Fenced) (Lb 1 pl4 Z Z Z) (qm (Bv j.Fenced) ?_)))
 rcases Bi h with⟨K,h⟩ |⟨K,h⟩
 iterate 2 refine Of 86 Z Z K Z ?_
 refine qu (Bv true) (Pt Z K Z) (Wz ?_)
 obtain rfl:=oi h
 exact Tj ⟨lr,Z,Z,Z,Z,Z,Z⟩
 refine qo 86 K (pt q 4) (Fa Qs5 Z Z) (qo 86 K (Bv j.Leaving) (Lb 1 pl4 Z Z Z) (qu (Bv j.Leaving) (Pf Z K Z) (Wz ?_)))
 obtain rfl:=oi h
 exact Tj ⟨lr,Z,Z,Z,Z,Z,Z⟩
 rintro k1 k2 k3 ⟨D,rfl,a3,P,a4,c1,b7⟩
 refine Ch h b7 (fun g7 h=> ?_) (fun g7 h=> ?_)
 refine Sr (qu (a27_ a0 d a b c) (La (cs:=(l27 a0 d a b c)) 4 ag27 sz27 a3 Z Z) (Wb ?_))
 have i:=i.mono D
 have e:=e.mono D
 have f:=f.mono D
 have g:=g.mono D
 refine We (Sg (v:=(a27_ a0 d a b c)) (vl:=(l27 a0 d a b c)) (arr':=(l27 a0 d a b c)) Z sz27 P Z (QbG (Oc (RS.one i) (Oc (RS.one e) (Oc (RS.one f) (Oc (RS.one g) (Oc Z Oz)))))) Z Z Z) Z ?_
 rintro _ _ _ - ⟨rfl,rfl⟩
 refine qa (Iv 10) (Nt (Cr (Tr (Br (Tr ?_)))))
 have h:=KK.early h V
 exact Qa (Dr (Qa (Dr (Qa (Dr (Qa (Dr (Rd h [] (fun _ hs=>hs.drop) (QaX Z (RVs.cons (Rc (cs:=(l27 a0 d a b c)) 0 ag27 sz27 P Z Z) (RVs.cons (RV.tmp Z) RVs.nil))) (k.trans D) ⟨d,a,b,c,Z,Z,i,e,f,g⟩))))))))
 refine Ck (Tc (Cg (qu (pt q 4) (Fa Qs5 a4 Z) (WL.f1 (We (Es (Bv true) [(Iv j.Id),(Iv j.Epoch),(Sv j.Rack),(Bv j.Fenced),(Bv true)] Z sz4 Z Z Z Z Z Z) Z ?_)))))
 rintro _ _ _ - ⟨rfl,rfl⟩
 exact Wz (Bn (WQ.f4 (WQ.f4 (WQ.f4 (WQ.f3 (WQ.f4 (WQ.thenFE h ⟨D,Z,a3,P,a4,c1⟩)))))))
 refine Cs (Sr (qu (a27_ a0 d a b c) (La (cs:=(l27 a0 d a b c)) 4 ag27 sz27 Z Z Z) (qu (pt q 0) (Fa QhQ Z Z) (qu (Iv j.Id) (Lb 1 pl3 Z Z Z) ?_))))
 obtain ⟨i9,g8,h⟩:=bnd h
 refine We (Ca Q9H (QuP a0 j.Id _ _ _ _ _ i e f g i9 g8) (QaU Z Z)) Z ?_
 rintro _ g9 _ s ⟨_,⟨rfl,rfl⟩,rfl⟩
 refine WL.a0 (Nt (Ch h Z (fun h0 h=> ?_) (fun h0 h=> ?_)))
 refine Sr (qu (a27_ a0 d a b c) (La (cs:=(l27 a0 d a b c)) 4 ag27 sz27 Z Z Z) (Wb ?_))
 have i:=i.mono s
 have e:=e.mono s
 have f:=f.mono s
 have g:=g.mono s
 refine We (Sg (v:=(a27_ a0 d a b c)) (vl:=(l27 a0 d a b c)) (arr':=(l27 a0 d a b c)) Z sz27 Z Z (QbG (Oc (RS.one i) (Oc (RS.one e) (Oc (RS.one f) (Oc (RS.one g) (Oc Z Oz)))))) Z Z Z) Z ?_
 rintro _ _ _ - ⟨rfl,rfl⟩
 refine qa (Iv 10) (Nt (Cr (Tr (Br (Tr ?_)))))
 have h:=KK.early h V
 exact Qa (Dr (Qa (Dr (Qa (Dr (Qa (Dr (Rd h [] (fun _ hs=>hs.drop) (QaX Z (RVs.cons (Rc (cs:=(l27 a0 d a b c)) 0 ag27 sz27 Z Z Z) (RVs.cons (RV.tmp Z) RVs.nil))) (k.trans s) ⟨d,a,b,c,Z,Z,i,e,f,g⟩))))))))
 refine Ck (Tc (Sr (qu (pt u 0) (Fa QdN Z Z) (We (Es Zs ((l27 a0 Zs a b c)) Z sz22 Z Z Z Z Z Z) Z ?_))))
 rintro _ _ _ - ⟨rfl,rfl⟩
 refine Nt ?_
 obtain ⟨d7,h1,h⟩:=bnd h
 refine Jf (fun(d7:(List QaE)) ρ' M' H'=>∃ w b8,g9.le M'∧[(u, .cells (l27 a0 w a b c).toArray 27 (0,0))]::[(q, .cells (l71 j).toArray 71 (0,0))]::[(G, .cells z27_.toArray 27 (0,0))]::[(N, .cells (l111 a1 l m o p).toArray 111 (0,0))]::[(y, .cells (l27 a0 d a b c).toArray 27 (0,0))]::b8::F=H'∧ρ' 4=(pt G 0)∧ρ' 8=(pt u 0)∧OwnS QaD M' w d7 b8) d7 ?_ ?_
 have h:=h1
 refine Sr (qa (Iv 0) (Nt (Bk (WC.e0 (WC.f5 (WC.f5 (WC.f5 (WC.f5 (WC.f5 ?_)))))))))
 obtain ⟨k4,h2,h3⟩:=bnd h
 clear h
 refine WC.loop h2 (fun(p_:(Int×(List QaE))) ρ' M' H'=>match p_ with |(r,c2)=>∃ L W,g9.le M'∧[(u, .cells (l27 a0 L a b c).toArray 27 (0,0))]::[(q, .cells (l71 j).toArray 71 (0,0))]::[(G, .cells z27_.toArray 27 (0,0))]::[(N, .cells (l111 a1 l m o p).toArray 111 (0,0))]::[(y, .cells (l27 a0 d a b c).toArray 27 (0,0))]::W::F=H'∧ρ' 2=(pt y 0)∧ρ' 4=(pt G 0)∧ρ' 6=(pt q 0)∧ρ' 8=(pt u 0)∧ρ' 9=(Iv r)∧OwnS QaD M' L c2 W) ?_ ?_
 exact⟨Zs,[],lr,Z,Z,Z,Z,Z,Z,(OwnS.nil _ _)⟩
 rintro ⟨r,c2⟩ k5 k6 h4 k7 h ⟨L,W,X,rfl,z,Q,R,t,A,b9⟩
 unfold QhT at h
 refine Cs (Sr (qM (Iv r) A (qu (pt y 0) (Fa QdN z Z) (qu d (Lb 4 pl22 Z Z Z) ?_))))
 have i:=i.mono (s.trans X)
 refine qu (Iv (a0.Brokers.length:Int)) (lenS underlying22 Z i.len) (qu (Bv (decide (r<(a0.Brokers.length:Int)))) (lss Z Z) (Nt (Ch h Z (fun h5 h=> ?_) (fun h5 h=> ?_))))
 refine Ck (Tc ?_)
 obtain ⟨c3,h6,h⟩:=bnd h
 refine Jf (fun(c3:(List QaE)) ρ' M' H'=>∃ a5 a6,h4.le M'∧[(u, .cells (l27 a0 a5 a b c).toArray 27 (0,0))]::[(q, .cells (l71 j).toArray 71 (0,0))]::[(G, .cells z27_.toArray 27 (0,0))]::[(N, .cells (l111 a1 l m o p).toArray 111 (0,0))]::[(y, .cells (l27 a0 d a b c).toArray 27 (0,0))]::a6::F=H'∧ρ' 2=(pt y 0)∧ρ' 4=(pt G 0)∧ρ' 6=(pt q 0)∧ρ' 8=(pt u 0)∧ρ' 9=(Iv r)∧OwnS QaD M' a5 c3 a6) c3 ?_ ?_
 have h:=h6
 refine Bk (Cs (WC.draw [0,1,0,7,15,31,0,64,255] (.pure 0 (.pure 1 (.pure 2 (.pure 3 (.pure 4 (.pure 5 (.pure 6 (.pure 7 (.pure 8 .done))))))))) QdC (by kernel_rfl) (qt (pt y 0) Z (Fa QdN z Z) (qt d Z (Lb 4 pl22 Z Z Z) (qt (Iv r) Z (Mv A) ?_)))))
 obtain ⟨a7,h⟩:=QaQ h
 obtain ⟨h7,j4,d8,d9,hhas76⟩:=i.at a7.1 a7.2 (by decide)
 obtain rfl:=Qa2 d9
 refine qt (.pointer (some h7)) Z (indexAddr (n:=a0.Brokers.length) underlying22 sz71 Z Z a7.1 a7.2 d8) (qt (.pointer (some (h7.add 0))) Z (Fa QhQ Z Z) (qt (Iv ((rd a0.Brokers r).Id)) Z (loadM pl3 Z (IM.has0 hhas76)) (qt (pt q 0) Z (Fa QhQ R Z) (qt (Iv j.Id) Z (Lb 1 pl3 Z Z Z) (qt (Bv (decide (((rd a0.Brokers r).Id)≠j.Id))) Z (neq Z Z) (Ti (Tc (Ch h Z (fun h8 h=> ?_) (fun h8 h=> ?_)))))))))
 refine WC.draw [0,1,0,4,0,28,60,124,255,511,1023] (.pure 0 (.pure 1 (.pure 2 (.pure 3 (.pure 4 (.pure 5 (.pure 6 (.alt 7 (.alt 8 (.pure 9 (.alt 10 .done .none)) .none) .none)))))))) QdC (by kernel_rfl) (qt (pt u 0) Z (Fa QdN t Z) (qt L Z (Lb 0 pl22 Z Z Z) (qt (pt y 0) Z (Fa QdN z Z) (qt d Z (Lb 4 pl22 Z Z Z) (qt (Iv r) Z (Mv A) ?_)))))
 obtain ⟨a8,h⟩:=QaQ h
 obtain ⟨j0,j5,e1,e2,hhas84⟩:=i.at a8.1 a8.2 (by decide)
 obtain rfl:=Qa2 e2
 refine qt (.pointer (some j0)) Z (indexAddr (n:=a0.Brokers.length) underlying22 sz71 Z Z a8.1 a8.2 e1) (qt (a71_ (rd a0.Brokers r)) Z (loadMA (cs:=(l71 (rd a0.Brokers r))) ag71 sz71 Z hhas84) (Ta Z (buildSliceL (cl:=(l71 (rd a0.Brokers r))) underlying22 iz71 Z (Pc (a71_ (rd a0.Brokers r)) Z Z Pz) Z) Z ?_ ?_))
 rintro _ _ _ - ⟨rfl,h9,rfl,rfl⟩
 have j1:OwnS QaD h4 (.slice (some ⟨h9,0,none⟩) 1 1) [(rd a0.Brokers r)] [(h9, .cells (l71 (rd a0.Brokers r)).toArray 71 (0,0))]:=OwnS.rows (css:=[(l71 (rd a0.Brokers r))]) (Rows.cons (QeP (x:=(rd a0.Brokers r))) Rows.nil) Z Z
 refine⟨(Sk 5 Z (Ss Z (Lb 1 pl22 Z Z Z) Z (Ss Z (Fa QdN t Z) Z trivial))), ?_⟩
 obtain ⟨i0,h⟩:=QaQ h
 refine WT.f6 (Ta Z (append (dd:=QaD) (xs:=c2) (ys:=[(rd a0.Brokers r)]) underlying22 underlying22 in71 Z (appB (by decide) i0) (by decide) Z Z b9 (j1.src 1 Z)) Z ?_ ?_)
 rintro e3 _ _ - ⟨rfl,j2,rfl,e4⟩
 refine⟨(Sl Z), ?_⟩
 refine qt (pt u 0) Z (Fa QdN t Z) (WT.f2 (Ta Z (Es e3 ((l27 a0 e3 a b c)) e4.cells sz22 Z Z (Ow e4) Z Z Z) Z ?_ ?_))
 rintro _ _ _ - ⟨rfl,rfl⟩
 refine⟨(Sl Z), ?_⟩
 refine Ti (Bn (Qb (Dr (Qa (WQ.f5 (WQ.f5 (WQ.f5 (WQ.f5 (WQ.f5 ?_)))))))))
 obtain rfl:=oi h
 exact Tj ⟨e3,j2,lr,Z,z,Q,R,t,A,e4⟩
 exact Tz
 exact Tz
 exact Tz
 refine Ck (Bn ?_)
 obtain rfl:=oi h
 exact Tj ⟨L,W,lr,Z,z,Q,R,t,A,b9⟩
 rintro k8 k9 l0 ⟨a5,a6,e5,rfl,c4,c5,c6,c7,c8,i1⟩
 exact Cg (qM (Iv r) c8 (qu (Iv (i64.wrap (r+1))) (add Z Z) (qa (Iv (i64.wrap (r+1))) (Wz (WQ.again (i64.wrap (r+1),c3) (oi h).symm ⟨a5,a6,(X.trans e5),Z,c4,c5,c6,c7,Z,i1⟩)))))
 refine WC.exit (WQ.thenE (WQ.leaveE c2 (oi h).symm (fun e6=> ?_)))
 subst e6
 have h:=h3
 refine WQ.blockH ?_
 obtain rfl:=oi h
 exact Tj ⟨L,W,X,Z,Q,t,b9⟩
 rintro l1 l2 l3 ⟨w,b8,S,rfl,a9,c9,d2⟩
 refine Sr (qu (a27_ a0 w a b c) (La (cs:=(l27 a0 w a b c)) 0 ag27 sz27 c9 Z Z) (Wb ?_))
 have e:=e.mono (s.trans S)
 have f:=f.mono (s.trans S)
 have g:=g.mono (s.trans S)
 refine We (Sg (v:=(a27_ a0 w a b c)) (vl:=(l27 a0 w a b c)) (arr':=(l27 a0 w a b c)) Z sz27 a9 Z (QbG (Oc (Ow d2) (Oc (RS.one e) (Oc (RS.one f) (Oc (RS.one g) (Oc Z Oz)))))) Z Z Z) Z ?_
 rintro _ _ _ - ⟨rfl,rfl⟩
 refine qa (Iv 0) (Nt (Cr (Br (Tr ?_))))
 have h:=KK.early h V
 refine WQ.f5 (WQ.know (fun _ hs=>d2.rs hs) (fun i2=> ?_))
 refine WQ.freeze (fun T=> ?_)
 refine Qa (Dr (Qa (Dr (Qa (Dr (Qa (Dr ?_)))))))
 have e:=e.mono T
 have f:=f.mono T
 have g:=g.mono T
 exact Rd h [] (fun _ hs=>hs.drop) (QaX Z (RVs.cons (Rc (cs:=(l27 a0 w a b c)) 0 ag27 sz27 a9 Z Z) (RVs.cons (RV.tmp Z) RVs.nil))) (((k.trans s).trans S).trans T) ⟨w,a,b,c,Z,Z,i2,e,f,g⟩
 rintro ⟨b4,b5⟩ l4 l5 l6 rfl ⟨J,rfl,d0,b0,d1,b1⟩
 have h:=(Sum.elim_inl _ _ _).symm.trans h
 refine Sr (qu (pt y 0) (Fa QdN d0 Z) (qu d (Lb 4 pl22 Z Z Z) (qu (.agg #[(Iv j.Id),(Iv j.Epoch),(Sv j.Rack),(Bv b4),(Bv b5)]) (La (cs:=[(Iv j.Id),(Iv j.Epoch),(Sv j.Rack),(Bv b4),(Bv b5)]) 1 ag71 sz71 d1 Z Z) ?_)))
 obtain ⟨j3,i3,h⟩:=bnd h
 have i:=i.mono J
 refine We (Ca Q7G (QkY a0.Brokers (⟨j.Id,j.Epoch,j.Rack,b4,b5⟩:QaE) _ _ i j3 i3) (QaU Z Z)) Z ?_
 rintro _ l7 _ U ⟨_,⟨B,j6,rfl,rfl,b2⟩,rfl⟩
 refine WL.a1 (qu (pt u 0) (Fa QdN b1 Z) (WL.f1 (We (Es B ((l27 a0 B a b c)) b2.cells sz22 Z Z (Ow b2) Z Z Z) Z ?_)))
 rintro _ _ _ - ⟨rfl,rfl⟩
 refine Ns (qu (a27_ a0 B a b c) (La (cs:=(l27 a0 B a b c)) 0 ag27 sz27 b1 Z Z) (WL.f3 ?_))
 have e:=e.mono (J.trans U)
 have f:=f.mono (J.trans U)
 have g:=g.mono (J.trans U)
 refine We (Sg (v:=(a27_ a0 B a b c)) (vl:=(l27 a0 B a b c)) (arr':=(l27 a0 B a b c)) Z sz27 b0 Z (QbG (Oc (Ow b2) (Oc (RS.one e) (Oc (RS.one f) (Oc (RS.one g) (Oc Z Oz)))))) Z Z Z) Z ?_
 rintro _ _ _ - ⟨rfl,rfl⟩
 refine qa (Iv 0) (Nt (Cr (Qb (WQ.know (fun _ hs=>b2.rs hs) (fun e7=> ?_)))))
 refine WQ.freeze (fun I=> ?_)
 refine Qa (Dr (Qa (Dr (Qa (Dr (Qa (Dr ?_)))))))
 have e:=e.mono I
 have f:=f.mono I
 have g:=g.mono I
 exact Rd h [] (fun _ hs=>hs.drop) (QaX Z (RVs.cons (Rc (cs:=(l27 a0 B a b c)) 0 ag27 sz27 b0 Z Z) (RVs.cons (RV.tmp Z) RVs.nil))) (((k.trans J).trans U).trans I) ⟨B,a,b,c,Z,Z,e7,e,f,g⟩
noncomputable def QiF (a0:QaA) (a1:Int) (s_:Int):Option (Int⊕(Unit⊕(Int×ByteArray×(List QaH)))):=
 match s_ with
 |a=>
 (if(decide (a<(a0.Topics.length:Int)))=true then(grd (0≤a∧a<a0.Topics.length) (if(decide (((rd a0.Topics a).Id)=a1))=true then(grd (0≤a∧a<a0.Topics.length) (some (inr (inr ((rd a0.Topics a).Id,(rd a0.Topics a).Name,(rd a0.Topics a).Parts)))))else(some (inl (i64.wrap (a+(1:Int)))))))else(some (inr (inl ()))))
noncomputable def QeV (a0:QaA) (a1:Int):Option (QaC×Bool):=
 ((((iter (QiF a0 a1) (0:Int)).bind (Sum.elim (fun _=>(some (inl ()))) (fun(a,b,c)=>(((some ((⟨a,b,c⟩:QaC),true))).bind fun r=>some (inr r))))):Option (Unit⊕(QaC×Bool))).bind (Sum.elim (fun _=>(some ((⟨(0:Int),(⟨#[]⟩:ByteArray),[]⟩:QaC),false))) some))
def QqN (a0:QaA) (a1:Int) (c d e f:Value):(QaC×Bool)→Value→IM→HL→Prop:=
 fun(p_:(QaC×Bool)) (v:Value) (M':IM) (H':HL)=>match p_ with |(b,g)=>∃ a,(.tuple #[(.agg #[(.int .i64 b.Id),(.string b.Name),a]),(.bool g)])=v∧H'=[]∧RS QbF M' a b.Parts
theorem QiG (a0:QaA) (a1:Int) (M:IM) (g c i j:Value) (P:RS QaD M g a0.Brokers) (l:RS QaG M c a0.Topics) (Q:RS QaF M i a0.Configs) (R:RS QaI M j a0.Done) (res:(QaC×Bool)) (h:QeV a0 a1=some res):
 Tri prog 78 #[(a27_ a0 g c i j),(Iv a1)] M [] (QqN a0 a1 g c i j res):=by
 unfold QeV at h
 refine Te func78 Z Z ?_
 intro F ρ hρ
 refine Sr (We (box (cs:=(l27 a0 g c i j).toArray) (congrArg Value.cells (asE (a27_ a0 g c i j) (hρ 0)))) Z ?_)
 rintro _ _ _ - ⟨rfl,t,rfl,rfl⟩
 refine We (Al ze55 Z) Z ?_
 rintro _ _ _ - ⟨rfl,u,rfl,rfl⟩
 refine qa (Bv false) (Nt ?_)
 obtain ⟨N,C,h⟩:=bnd h
 refine WC.joinE (fun(_:Unit) ρ' M' H'=>M.le M'∧[(u, .cells #[(Iv 0),(Sv ⟨#[]⟩),Zs] 55 (0,0))]::[(t, .cells (l27 a0 g c i j).toArray 27 (0,0))]::F=H'∧ρ' 4=(pt u 0)) N ?_ ?_
 have D:=h
 have h:=C
 refine Sr (qa (Iv 0) (Nt (Bk ?_)))
 obtain ⟨U,E,w⟩:=bnd h
 clear h
 refine WC.loop E (fun(a:Int) ρ' M' H'=>M.le M'∧[(u, .cells #[(Iv 0),(Sv ⟨#[]⟩),Zs] 55 (0,0))]::[(t, .cells (l27 a0 g c i j).toArray 27 (0,0))]::F=H'∧ρ' 1=(Iv a1)∧ρ' 2=(pt t 0)∧ρ' 4=(pt u 0)∧ρ' 6=(Iv a)) ?_ ?_
 exact⟨lr,Z,(hρ 1),Z,Z,Z⟩
 rintro a V W X Y h ⟨k,rfl,o,d,e,f⟩
 unfold QiF at h
 refine Cs (Sr (qM (Iv a) f (qu (pt t 1) (Fa QbW d Z) (qu c (Lb 1 pl23 Z Z Z) ?_))))
 have l:=l.mono k
 refine qu (Iv (a0.Topics.length:Int)) (lenS underlying23 Z l.len) (qu (Bv (decide (a<(a0.Topics.length:Int)))) (lss Z Z) (Nt (Ch h Z (fun G h=> ?_) (fun G h=> ?_))))
 refine Ck (Tc (Cs (Bk (Sr (qu (pt t 1) (Fa QbW d Z) (qu c (Lb 1 pl23 Z Z Z) (qM (Iv a) f ?_)))))))
 obtain ⟨p,h⟩:=QaQ h
 obtain ⟨I,S,x,y,hhas35⟩:=l.at p.1 p.2 (by decide)
 obtain ⟨K,rfl,L⟩:=QaN y
 refine qu (.pointer (some I)) (indexAddr (n:=a0.Topics.length) underlying23 sz55 Z Z p.1 p.2 x) (qu (.pointer (some (I.add 0))) (Fa Qk0 Z Z) (qu (Iv ((rd a0.Topics a).Id)) (loadM pl3 Z (IM.has0 hhas35)) (qM (Iv a1) o (qu (Bv (decide (((rd a0.Topics a).Id)=a1))) (eql Z Z) (Nt (Ch h Z (fun J h=> ?_) (fun J h=> ?_)))))))
 refine Sr (qu (pt t 1) (Fa QbW d Z) (qu c (Lb 1 pl23 Z Z Z) (qM (Iv a) f ?_)))
 obtain ⟨q,h⟩:=QaQ h
 obtain ⟨O,T,z,A,hhas43⟩:=l.at q.1 q.2 (by decide)
 obtain ⟨b,rfl,r⟩:=QaN A
 refine qu (.pointer (some O)) (indexAddr (n:=a0.Topics.length) underlying23 sz55 Z Z q.1 q.2 z) (qu (a55_ (rd a0.Topics a) b) (loadMA (cs:=(l55 (rd a0.Topics a) b)) ag55 sz55 Z hhas43) (We (Sg (v:=(a55_ (rd a0.Topics a) b)) (vl:=(l55 (rd a0.Topics a) b)) (arr':=(l55 (rd a0.Topics a) b)) Z sz55 e Z (QbG (Oc Z (Oc Z (Oc (RS.one r) Oz)))) Z Z Z) Z ?_))
 rintro _ _ _ - ⟨rfl,rfl⟩
 refine qa (Bv true) (Nt (Cr (Br (Tr (WQ.leaveR (inr ((rd a0.Topics a).Id,(rd a0.Topics a).Name,(rd a0.Topics a).Parts)) (oi h).symm (fun m=> ?_))))))
 subst m
 have h:=(QdO w)
 refine Br (Tr ?_)
 have h:=KK.early h D
 exact Qa (Dr (Rd h [] (fun _ hs=>hs.drop) (QaX Z (RVs.cons (Rc (cs:=(l55 (rd a0.Topics a) b)) 0 ag55 sz55 e Z Z) (RVs.cons (RV.tmp Z) RVs.nil))) k ⟨b,Z,Z,r⟩))
 exact Ck (Bn (Tc (Cg (qM (Iv a) f (qu (Iv (i64.wrap (a+1))) (add Z Z) (qa (Iv (i64.wrap (a+1))) (Wz (WQ.again (i64.wrap (a+1)) (oi h).symm ⟨k,Z,o,d,e,Z⟩))))))))
 refine WC.exit (WQ.thenE (WQ.leaveE (inl ()) (oi h).symm (fun m=> ?_)))
 subst m
 have h:=QeJ w
 exact WQ.blockH (WQ.thenFE h ⟨k,Z,e⟩)
 rintro _ a2 a3 a4 rfl ⟨B,rfl,s⟩
 have h:=(Sum.elim_inl _ _ _).symm.trans h
 refine Sr (qu (.agg #[(Iv 0),(Sv ⟨#[]⟩),Zs]) (Bl (cl:=[(Iv 0),(Sv ⟨#[]⟩),Zs]) ze55 fp55 Pz Z) (We (Sg (v:=(.agg #[(Iv 0),(Sv ⟨#[]⟩),Zs])) (vl:=[(Iv 0),(Sv ⟨#[]⟩),Zs]) (arr':=[(Iv 0),(Sv ⟨#[]⟩),Zs]) Z sz55 s Z (onb Z) Z Z Z) Z ?_))
 rintro _ _ _ - ⟨rfl,rfl⟩
 exact qa (Bv false) (Nt (Cr (Qa (Dr (Rd h [] (fun _ hs=>hs.drop) (QaX Z (RVs.cons (Rc (cs:=[(Iv 0),(Sv ⟨#[]⟩),Zs]) 0 ag55 sz55 s Z Z) (RVs.cons (RV.tmp Z) RVs.nil))) B ⟨Zs,Z,Z,RS.nil _ _⟩)))))
noncomputable def QhU (a0:QaA) (a1:Int):Option Bool:=
 ((Qd1 a0 a1).bind fun(a,b)=>(((if b=true then(some (!a.Fenced))else(some false)):Option Bool).bind fun c=>(some c)))
def QqO (a0:QaA) (a1:Int) (a b c d:Value):Bool→Value→IM→HL→Prop:=
 fun(e:Bool) (v:Value) (M':IM) (H':HL)=>(.bool e)=v∧H'=[]
theorem QtH (a0:QaA) (a1:Int) (M:IM) (a b c d:Value) (m:RS QaD M a a0.Brokers) (n:RS QaG M b a0.Topics) (o:RS QaF M c a0.Configs) (p:RS QaI M d a0.Done) (res:Bool) (h:QhU a0 a1=some res):
 Tri prog 146 #[(a27_ a0 a b c d),(Iv a1)] M [] (QqO a0 a1 a b c d res):=by
 unfold QhU at h
 refine Te func146 Z Z ?_
 intro F ρ hρ
 refine Sr (We (box (cs:=(l27 a0 a b c d).toArray) (congrArg Value.cells (asE (a27_ a0 a b c d) (hρ 0)))) Z ?_)
 rintro _ _ _ - ⟨rfl,t,rfl,rfl⟩
 refine qa (Bv false) (Ns (qu (a27_ a0 a b c d) (La (cs:=(l27 a0 a b c d)) 0 ag27 sz27 Z Z Z) (qM (Iv a1) (hρ 1) ?_)))
 obtain ⟨⟨e,g⟩,q,h⟩:=bnd h
 refine We (Ca Q14 (QfE a0 a1 _ _ _ _ _ m n o p (e,g) q) (QaU Z Z)) Z ?_
 rintro _ u _ j ⟨_,⟨rfl,rfl⟩,rfl⟩
 refine WL.a0 (qm (.tuple #[(a71_ e),(Bv g)]) (qu (a71_ e) (Xt Z Z) (qu (Bv g) (Xt Z Z) (We (Al ze71 Z) Z ?_))))
 rintro _ _ _ - ⟨rfl,r,rfl,rfl⟩
 refine We (Sg (v:=(a71_ e)) (vl:=(l71 e)) (arr':=(l71 e)) Z sz71 Z Z (onb Z) Z Z Z) Z ?_
 rintro _ _ _ - ⟨rfl,rfl⟩
 refine qa (Bv g) (Nt ?_)
 obtain ⟨k,s,h⟩:=bnd h
 refine Jf (fun(k:Bool) ρ' M' H'=>u.le M'∧[(r, .cells (l71 e).toArray 71 (0,0))]::[(t, .cells (l27 a0 a b c d).toArray 27 (0,0))]::F=H'∧ρ' 4=(Bv k)) k ?_ ?_
 have h:=s
 refine Cg (qm (Bv g) (qm (Bv g) ?_))
 rcases Bi h with⟨f,h⟩ |⟨f,h⟩
 refine qo 14 f (pt r 3) (Fa QnX Z Z) (qo 14 f (Bv e.Fenced) (Lb 0 pl4 Z Z Z) (qo 14 f (Bv (!e.Fenced)) (PO.not Z) (qu (Bv (!e.Fenced)) (Pt Z f Z) (qa (Bv (!e.Fenced)) (Wz ?_)))))
 obtain rfl:=oi h
 exact Tj ⟨lr,Z,Z⟩
 iterate 3 refine Of 14 Z Z f Z ?_
 refine qu (Bv false) (Pf Z f Z) (qa (Bv false) (Wz ?_))
 obtain rfl:=oi h
 exact Tj ⟨lr,Z,Z⟩
 rintro w x y ⟨l,rfl,i⟩
 exact Cr (Dr (Dr (Rf h [] Z (Rs Z i) (j.trans l) ⟨Z,Z⟩)))

end Go.Proofs.YtpcbipcdfccnnaaGreatDoor.G
