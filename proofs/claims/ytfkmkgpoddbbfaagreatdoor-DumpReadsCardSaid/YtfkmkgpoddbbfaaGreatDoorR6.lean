/- Go functions: what they come to, and that they do. Printed by a program of the session (gen). -/
import Derived.Test.YtfkmkgpoddbbfaaGreatDoorRF
import Derived.Test.YtfkmkgpoddbbfaaGreatDoorR5
import Derived.Test.YtfkmkgpoddbbfaaGreatDoorKShar2
import Derived.Test.YtfkmkgpoddbbfaaGreatDoorKConv
import Derived.Test.YtfkmkgpoddbbfaaGreatDoorKMap
import Derived.Test.YtfkmkgpoddbbfaaGreatDoorKTight2
set_option linter.unusedVariables false
set_option linter.unusedSimpArgs false
set_option maxHeartbeats 8000000
set_option maxRecDepth 100000
namespace Go.Proofs.YtfkmkgpoddbbfaaGreatDoor.G
open Go Go.KK
open PO EO IntKind Sum Tryz

noncomputable def QdR (a0:QaC) (a1:Int):Option (Int×Int×GErr):=
 (if(!a0.err.isNil)=true then(some ((0:Int),a0.at_,a0.err))else(grd (0≤a0.at_∧a0.at_≤(a0.b.length:Int)∧(a0.b.length:Int)≤(a0.b.length:Int)) (if(decide (((sub a0.b a0.at_ (a0.b.length:Int)).length:Int)=(0:Int)))=true then((QbI a0 (⟨#[110,117,109]⟩:ByteArray) a0.at_ (3:Int)).bind fun e=>(some ((0:Int),a0.at_,e)))else(grd (0≤(0:Int)∧(0:Int)<(sub a0.b a0.at_ (a0.b.length:Int)).length) (grd (0≤shrI .u8 (rd (sub a0.b a0.at_ (a0.b.length:Int)) (0:Int)) (6:Int)) (if(decide (((sub a0.b a0.at_ (a0.b.length:Int)).length:Int)<(shlI .i64 (1:Int) (shrI .u8 (rd (sub a0.b a0.at_ (a0.b.length:Int)) (0:Int)) (6:Int)))))=true then((QbI a0 (⟨#[110,117,109]⟩:ByteArray) a0.at_ (3:Int)).bind fun f=>(some ((0:Int),a0.at_,f)))else(grd (0≤(0:Int)∧(0:Int)<(sub a0.b a0.at_ (a0.b.length:Int)).length) (((((((if(decide ((shlI .i64 (1:Int) (shrI .u8 (rd (sub a0.b a0.at_ (a0.b.length:Int)) (0:Int)) (6:Int)))=(8:Int)))=true then((QaU (u64.wrap (andI .u8 (rd (sub a0.b a0.at_ (a0.b.length:Int)) (0:Int)) (63:Int))) (sub a0.b a0.at_ (a0.b.length:Int)) (1:Int)).bind fun(g,i)=>((QaU g (sub a0.b a0.at_ (a0.b.length:Int)) i).bind fun(j,k)=>((QaU j (sub a0.b a0.at_ (a0.b.length:Int)) k).bind fun(l,m)=>((QaU l (sub a0.b a0.at_ (a0.b.length:Int)) m).bind fun(n,o)=>(some (inl (u64.wrap ((0:Int)+(1073725440:Int)),o,n)))))))else(if(decide ((shlI .i64 (1:Int) (shrI .u8 (rd (sub a0.b a0.at_ (a0.b.length:Int)) (0:Int)) (6:Int)))=(4:Int)))=true then(some (inl ((0:Int),(1:Int),u64.wrap (andI .u8 (rd (sub a0.b a0.at_ (a0.b.length:Int)) (0:Int)) (63:Int)))))else(if(decide ((shlI .i64 (1:Int) (shrI .u8 (rd (sub a0.b a0.at_ (a0.b.length:Int)) (0:Int)) (6:Int)))=(2:Int)))=true then(((some (inl ((0:Int),(1:Int),u64.wrap (andI .u8 (rd (sub a0.b a0.at_ (a0.b.length:Int)) (0:Int)) (63:Int)))))).bind fun r=>some (inr r))else(((((some ((0:Int),(1:Int),u64.wrap (andI .u8 (rd (sub a0.b a0.at_ (a0.b.length:Int)) (0:Int)) (63:Int))))).bind fun r=>some (inr r))).bind fun r=>some (inr r))))):Option ((Int×Int×Int)⊕((Int×Int×Int)⊕(Int×Int×Int)))).bind (Sum.elim (fun(p,q,s)=>((QaU s (sub a0.b a0.at_ (a0.b.length:Int)) q).bind fun(t,u)=>((QaU t (sub a0.b a0.at_ (a0.b.length:Int)) u).bind fun(v,w)=>(some (inl (u64.wrap (p+(16320:Int)),w,v)))))) some)):Option ((Int×Int×Int)⊕(Int×Int×Int))).bind (Sum.elim (fun(x,y,z)=>((QaU z (sub a0.b a0.at_ (a0.b.length:Int)) y).bind fun(A,B)=>(some (u64.wrap (x+(64:Int)),B,A)))) some)):Option (Int×Int×Int)).bind fun(C,D,a)=>(if(decide (a<C))=true then((QbI a0 (⟨#[110,117,109]⟩:ByteArray) a0.at_ (5:Int)).bind fun c=>(some ((0:Int),a0.at_,c)))else(if(decide (a1<a))=true then((QbI a0 (⟨#[110,117,109]⟩:ByteArray) a0.at_ (6:Int)).bind fun d=>(some ((0:Int),a0.at_,d)))else(some (a,i64.wrap (a0.at_+(shlI .i64 (1:Int) (shrI .u8 (rd (sub a0.b a0.at_ (a0.b.length:Int)) (0:Int)) (6:Int)))),a0.err))))))))))))
def Qm4 (a0:QaC) (a1:Int) (a:Value) (b:Nat):(Int×Int×GErr)→Value→IM→HL→Prop:=
 fun(c:(Int×Int×GErr)) (v:Value) (i:IM) (d:HL)=>match c with |(e,f,g)=>(.int .u64 e)=v∧d=[[(b, .cells #[a,(.int .i64 f),(GV g)] 108 (0,0))]]
theorem QoW (a0:QaC) (a1:Int) (M:IM) (a:Value) (e:Nat) (i:RS (Kd.int .u8) M a a0.b) (c1:(Int×Int×GErr)) (h:QdR a0 a1=some c1):
 Tri prog 55 #[(pt e 0),(Uv a1)] M [[(e, .cells #[a,(Iv a0.at_),(GV a0.err)] 108 (0,0))]] (Qm4 a0 a1 a e c1):=by
 unfold QdR at h
 refine Te func55 Z Z ?_
 intro F ρ s
 refine Sr (qa (Uv 0) (Nt (Cs (Sr (qM (pt e 0) (s 0) (qu (pt e 0) (Nk Z) (qu (pt e 2) (Fa QmL Z Z) (qu (GV a0.err) (Lb 0 pl31 Z Z Z) (qu (Bv (!a0.err.isNil)) (errNotNil underlying31 Z) (Nt (Ch h Z (fun c2 h=> ?_) (fun c2 h=> ?_))))))))))))
 exact Sr (qa (Uv 0) (Nt (Cr (Tr (Rf h [[(e, .cells #[a,(Iv a0.at_),(GV a0.err)] 108 (0,0))]] Z (Rs Z Z) lr ⟨Z,Z⟩)))))
 refine Ck (Tc (Cs (WC.draw [0,1,3,7,0,16,48,112,255,0,1023] (.pure 0 (.pure 1 (.pure 2 (.pure 3 (.pure 4 (.pure 5 (.pure 6 (.pure 7 (.pure 8 (.alt 9 (.alt 10 .done .none) .none)))))))))) Qc3 (by kernel_rfl) (qt (pt e 0) Z (Mv (s 0)) (qt (pt e 0) Z (Nk Z) (qt (pt e 0) Z (Fa Qn6 Z Z) (qt a Z (Lb 0 pl22 Z Z Z) (qt (pt e 0) Z (Mv (s 0)) (qt (pt e 0) Z (Nk Z) (qt (pt e 1) Z (Fa QeB Z Z) (qt (Iv a0.at_) Z (Lb 0 pl3 Z Z Z) ?_)))))))))))
 obtain ⟨j,h⟩:=Qa1 h
 have c:=i.sub j.1 j.2.1 j.2.2
 refine qt (slV a 1 (a0.at_).toNat ((a0.b.length:Int)).toNat) Z (slice (n:=a0.b.length) (l:=(a0.at_).toNat) (h:=((a0.b.length:Int)).toNat) underlying22 sz5 Z i.len i.cap ⟨_,_,Z,j.1,Z⟩ (QwS Z) (Int.toNat_le_toNat j.2.1) (Qe4 j.2.2)) (Ta Z (Al ze22 Z) Z ?_ ?_)
 rintro _ _ _ - ⟨rfl,f,rfl,rfl⟩
 refine⟨(Ss Z (slice (n:=a0.b.length) (l:=(a0.at_).toNat) (h:=((a0.b.length:Int)).toNat) underlying22 sz5 Z i.len i.cap ⟨_,_,Z,j.1,Z⟩ (QwS Z) (Int.toNat_le_toNat j.2.1) (Qe4 j.2.2)) Z (Ss Z (Lb 1 pl3 Z Z Z) Z (Ss Z (Fa QeB Z Z) Z (Ss Z (Nk Z) Z (Ss Z (Mv (s 0)) Z (Ss Z (Lb 1 pl22 Z Z Z) Z (Ss Z (Fa Qn6 Z Z) Z (Ss Z (Nk Z) Z (Ss Z (Mv (s 0)) Z trivial))))))))), ?_⟩
 refine Ta Z (Es (slV a 1 (a0.at_).toNat ((a0.b.length:Int)).toNat) [(slV a 1 (a0.at_).toNat ((a0.b.length:Int)).toNat)] c.cells sz22 Z Z (RS.one c) Z Z Z) Z ?_ ?_
 rintro _ _ _ - ⟨rfl,rfl⟩
 refine⟨(Sl Z), ?_⟩
 refine Ti (Tc (Cs (Sr (qu (slV a 1 (a0.at_).toNat ((a0.b.length:Int)).toNat) (Lb 0 pl22 Z Z Z) (qu (Iv ((sub a0.b a0.at_ (a0.b.length:Int)).length:Int)) (lenS underlying22 Z c.len) (qu (Bv (decide (((sub a0.b a0.at_ (a0.b.length:Int)).length:Int)=(0:Int)))) (eql Z Z) (Nt (Ch h Z (fun c3 h=> ?_) (fun c3 h=> ?_)))))))))
 refine Sr (qM (pt e 0) (s 0) (qM (pt e 0) (s 0) (qu (pt e 0) (Nk Z) (qu (pt e 1) (Fa QeB Z Z) (qu (Iv a0.at_) (Lb 1 pl3 Z Z Z) ?_)))))
 obtain ⟨c4,c5,h⟩:=bnd h
 refine WL.f1 (We (Cb co56 (QcJ a0 (⟨#[110,117,109]⟩:ByteArray) a0.at_ (3:Int) _ _ _ i c4 c5) (QiO Z Z Z Z)) Z ?_)
 rintro _ h5 _ a5 ⟨_,⟨rfl,rfl⟩,rfl⟩
 exact WL.a1 (Ns (qa (Uv 0) (Nt (Cr (Tr (Qa (Dr (Rf h [[(e, .cells #[a,(Iv a0.at_),(GV c4)] 108 (0,0))]] Z (Rs Z Z) a5 ⟨Z,Z⟩))))))))
 refine Ck (Tc (Sr (qu (slV a 1 (a0.at_).toNat ((a0.b.length:Int)).toNat) (Lb 0 pl22 Z Z Z) ?_)))
 obtain ⟨t,h⟩:=Qa1 h
 obtain ⟨f9,h0,a6,a7,hhas35⟩:=c.at t.1 t.2 (by decide)
 obtain rfl:=a7
 refine qu (.pointer (some f9)) (indexAddr (n:=(sub a0.b a0.at_ (a0.b.length:Int)).length) underlying22 sz5 Z Z t.1 t.2 a6) (qu (Yv (rd (sub a0.b a0.at_ (a0.b.length:Int)) (0:Int))) (loadM pl5 Z (IM.has0 hhas35)) (qu (Yv (shrI .u8 (rd (sub a0.b a0.at_ (a0.b.length:Int)) (0:Int)) (6:Int))) (shr Z Z (by decide)) ?_))
 obtain ⟨c6,h⟩:=Qa1 h
 refine qu (Iv (shlI .i64 1 (shrI .u8 (rd (sub a0.b a0.at_ (a0.b.length:Int)) (0:Int)) (6:Int)))) (shl Z Z c6) (qa (Iv (shlI .i64 1 (shrI .u8 (rd (sub a0.b a0.at_ (a0.b.length:Int)) (0:Int)) (6:Int)))) (Nt (Cs (Sr (qu (slV a 1 (a0.at_).toNat ((a0.b.length:Int)).toNat) (Lb 0 pl22 Z Z Z) (qu (Iv ((sub a0.b a0.at_ (a0.b.length:Int)).length:Int)) (lenS underlying22 Z c.len) (qm (Iv (shlI .i64 1 (shrI .u8 (rd (sub a0.b a0.at_ (a0.b.length:Int)) (0:Int)) (6:Int)))) (qu (Bv (decide (((sub a0.b a0.at_ (a0.b.length:Int)).length:Int)<(shlI .i64 1 (shrI .u8 (rd (sub a0.b a0.at_ (a0.b.length:Int)) (0:Int)) (6:Int)))))) (lss Z Z) (Nt (Ch h Z (fun c7 h=> ?_) (fun c7 h=> ?_)))))))))))
 refine Sr (qM (pt e 0) (s 0) (qM (pt e 0) (s 0) (qu (pt e 0) (Nk Z) (qu (pt e 1) (Fa QeB Z Z) (qu (Iv a0.at_) (Lb 1 pl3 Z Z Z) ?_)))))
 obtain ⟨c8,c9,h⟩:=bnd h
 refine WL.f1 (We (Cb co56 (QcJ a0 (⟨#[110,117,109]⟩:ByteArray) a0.at_ (3:Int) _ _ _ i c8 c9) (QiO Z Z Z Z)) Z ?_)
 rintro _ h6 _ a8 ⟨_,⟨rfl,rfl⟩,rfl⟩
 exact WL.a1 (Ns (qa (Uv 0) (Nt (Cr (Tr (Qa (Dr (Rf h [[(e, .cells #[a,(Iv a0.at_),(GV c8)] 108 (0,0))]] Z (Rs Z Z) a8 ⟨Z,Z⟩))))))))
 refine Ck (Tc (Sr (qu (slV a 1 (a0.at_).toNat ((a0.b.length:Int)).toNat) (Lb 0 pl22 Z Z Z) ?_)))
 obtain ⟨u,h⟩:=Qa1 h
 obtain ⟨g1,h1,a9,b0,hhas48⟩:=c.at u.1 u.2 (by decide)
 obtain rfl:=b0
 refine qu (.pointer (some g1)) (indexAddr (n:=(sub a0.b a0.at_ (a0.b.length:Int)).length) underlying22 sz5 Z Z u.1 u.2 a9) (qu (Yv (rd (sub a0.b a0.at_ (a0.b.length:Int)) (0:Int))) (loadM pl5 Z (IM.has0 hhas48)) (qu (Yv (andI .u8 (rd (sub a0.b a0.at_ (a0.b.length:Int)) (0:Int)) (63:Int))) (PO.and Z Z) (qu (Uv (u64.wrap (andI .u8 (rd (sub a0.b a0.at_ (a0.b.length:Int)) (0:Int)) (63:Int)))) (conv us5 underlying109 Z) (We (Al Q8K Z) Z ?_))))
 rintro _ _ _ - ⟨rfl,d,rfl,rfl⟩
 refine We (Al ze3 Z) Z ?_
 rintro _ _ _ - ⟨rfl,g,rfl,rfl⟩
 refine WL.f1 (We (Es (Uv (u64.wrap (andI .u8 (rd (sub a0.b a0.at_ (a0.b.length:Int)) (0:Int)) (63:Int)))) [(Uv (u64.wrap (andI .u8 (rd (sub a0.b a0.at_ (a0.b.length:Int)) (0:Int)) (63:Int))))] Z Q52 Z Z Z Z Z Z) Z ?_)
 rintro _ _ _ - ⟨rfl,rfl⟩
 refine WL.f1 (We (Es (Iv 1) [(Iv 1)] Z sz3 Z Z Z Z Z Z) Z ?_)
 rintro _ _ _ - ⟨rfl,rfl⟩
 refine Ns (qu (.func (.func 85) #[] #[(pt d 0),(pt f 0),(pt g 0)]) (makeFunc2 (QmW) (QcV (show ev _ _=(pt d 0) from Z) (show ev _ _=(pt f 0) from Z) (show ev _ _=(pt g 0) from Z))) (qa (.func (.func 85) #[] #[(pt d 0),(pt f 0),(pt g 0)]) (Ns (qa (Uv 0) (Nt ?_)))))
 obtain ⟨d0,d1,h⟩:=bnd h
 refine Jf (fun(p_:(Int×Int×Int)) p M' H'=>match p_ with |(v,d5,o)=>M.le M'∧[(g, .cells #[(Iv d5)] 3 (0,0))]::[(d, .cells #[(Uv o)] 109 (0,0))]::[(f, .cells #[(slV a 1 (a0.at_).toNat ((a0.b.length:Int)).toNat)] 22 (0,0))]::[(e, .cells #[a,(Iv a0.at_),(GV a0.err)] 108 (0,0))]::F=H'∧p 0=(pt e 0)∧p 1=(Uv a1)∧p 6=(Iv (shlI .i64 1 (shrI .u8 (rd (sub a0.b a0.at_ (a0.b.length:Int)) (0:Int)) (6:Int))))∧p 7=(pt d 0)∧p 10=(Uv v)) d0 ?_ ?_
 have h:=d1
 refine Sr (qm (Iv (shlI .i64 1 (shrI .u8 (rd (sub a0.b a0.at_ (a0.b.length:Int)) (0:Int)) (6:Int)))) (Nt (Bk ?_)))
 obtain ⟨g2,d6,h⟩:=bnd h
 refine WC.joinE (fun(p_:(Int×Int×Int)) p M' H'=>match p_ with |(w,b1,b2)=>M.le M'∧[(g, .cells #[(Iv b1)] 3 (0,0))]::[(d, .cells #[(Uv b2)] 109 (0,0))]::[(f, .cells #[(slV a 1 (a0.at_).toNat ((a0.b.length:Int)).toNat)] 22 (0,0))]::[(e, .cells #[a,(Iv a0.at_),(GV a0.err)] 108 (0,0))]::F=H'∧p 0=(pt e 0)∧p 1=(Uv a1)∧p 6=(Iv (shlI .i64 1 (shrI .u8 (rd (sub a0.b a0.at_ (a0.b.length:Int)) (0:Int)) (6:Int))))∧p 7=(pt d 0)∧p 9=(.func (.func 85) #[] #[(pt d 0),(pt f 0),(pt g 0)])∧p 10=(Uv w)) g2 ?_ ?_
 have d7:=h
 have h:=d6
 refine Bk ?_
 obtain ⟨g3,d8,h⟩:=bnd h
 refine WC.joinE (fun(p_:(Int×Int×Int)) p M' H'=>match p_ with |(x,b3,b4)=>M.le M'∧[(g, .cells #[(Iv b3)] 3 (0,0))]::[(d, .cells #[(Uv b4)] 109 (0,0))]::[(f, .cells #[(slV a 1 (a0.at_).toNat ((a0.b.length:Int)).toNat)] 22 (0,0))]::[(e, .cells #[a,(Iv a0.at_),(GV a0.err)] 108 (0,0))]::F=H'∧p 0=(pt e 0)∧p 1=(Uv a1)∧p 6=(Iv (shlI .i64 1 (shrI .u8 (rd (sub a0.b a0.at_ (a0.b.length:Int)) (0:Int)) (6:Int))))∧p 7=(pt d 0)∧p 9=(.func (.func 85) #[] #[(pt d 0),(pt f 0),(pt g 0)])∧p 10=(Uv x)) g3 ?_ ?_
 have Y:=h
 have h:=d8
 refine Bk (Cs (Bk (Cs (Cs (Sr (qu (Bv (decide ((shlI .i64 1 (shrI .u8 (rd (sub a0.b a0.at_ (a0.b.length:Int)) (0:Int)) (6:Int)))=8))) (eql Z Z) (qa (Bv (decide ((shlI .i64 1 (shrI .u8 (rd (sub a0.b a0.at_ (a0.b.length:Int)) (0:Int)) (6:Int)))=8))) (Nt (Ch h Z (fun d9 h=> ?_) (fun d9 h=> ?_))))))))))
 refine WC.exit (WQ.thenE (WQ.thenE (WQ.blockH (Tc (Sr (qm (.func (.func 85) #[] #[(pt d 0),(pt f 0),(pt g 0)]) ?_))))))
 obtain ⟨⟨e0,e1⟩,e2,h⟩:=bnd h
 refine Wb (Wb (We (callV3 (first:=#[]) (cap:=#[(pt d 0),(pt f 0),(pt g 0)]) co85 Z (QcQ (u64.wrap (andI .u8 (rd (sub a0.b a0.at_ (a0.b.length:Int)) (0:Int)) (63:Int))) (sub a0.b a0.at_ (a0.b.length:Int)) (1:Int) _ _ _ _ _ c (e0,e1) e2) (Qe3 Z)) Z ?_))
 rintro _ h7 _ y ⟨_,⟨rfl,rfl⟩,rfl⟩
 refine WL.a3 (Ns (qm (.func (.func 85) #[] #[(pt d 0),(pt f 0),(pt g 0)]) ?_))
 obtain ⟨⟨e3,e4⟩,e5,h⟩:=bnd h
 refine Wb (Wb (Wb ?_))
 have c:=c.mono y
 refine We (callV3 (first:=#[]) (cap:=#[(pt d 0),(pt f 0),(pt g 0)]) co85 Z (QcQ e0 (sub a0.b a0.at_ (a0.b.length:Int)) e1 _ _ _ _ _ c (e3,e4) e5) (Qe3 Z)) Z ?_
 rintro _ h8 _ z ⟨_,⟨rfl,rfl⟩,rfl⟩
 refine WL.a3 (Ns (qm (.func (.func 85) #[] #[(pt d 0),(pt f 0),(pt g 0)]) ?_))
 obtain ⟨⟨e6,e7⟩,e8,h⟩:=bnd h
 refine Wb (Wb (Wb ?_))
 have c:=c.mono z
 refine We (callV3 (first:=#[]) (cap:=#[(pt d 0),(pt f 0),(pt g 0)]) co85 Z (QcQ e3 (sub a0.b a0.at_ (a0.b.length:Int)) e4 _ _ _ _ _ c (e6,e7) e8) (Qe3 Z)) Z ?_
 rintro _ h9 _ A ⟨_,⟨rfl,rfl⟩,rfl⟩
 refine WL.a3 (Ns (qm (.func (.func 85) #[] #[(pt d 0),(pt f 0),(pt g 0)]) ?_))
 obtain ⟨⟨g4,g5⟩,e9,h⟩:=bnd h
 refine Wb (Wb (Wb ?_))
 have c:=c.mono A
 refine We (callV3 (first:=#[]) (cap:=#[(pt d 0),(pt f 0),(pt g 0)]) co85 Z (QcQ e6 (sub a0.b a0.at_ (a0.b.length:Int)) e7 _ _ _ _ _ c (g4,g5) e9) (Qe3 Z)) Z ?_
 rintro _ i0 _ b5 ⟨_,⟨rfl,rfl⟩,rfl⟩
 refine WL.a3 (Nt (Cg (qm (Uv 0) (qu (Uv (u64.wrap ((0:Int)+(1073725440:Int)))) (add Z Z) (qa (Uv (u64.wrap ((0:Int)+(1073725440:Int)))) (Wz (Bn (WQ.f3 (Qb (Qb (WQ.f3 ?_)))))))))))
 exact WQ.thenFE h ⟨(((y.trans z).trans A).trans b5),Z,(s 0),(s 1),Z,Z,Z,Z⟩
 refine Ck (Tc (Cs (Sr (qu (Bv (decide ((shlI .i64 1 (shrI .u8 (rd (sub a0.b a0.at_ (a0.b.length:Int)) (0:Int)) (6:Int)))=4))) (eql Z Z) (qa (Bv (decide ((shlI .i64 1 (shrI .u8 (rd (sub a0.b a0.at_ (a0.b.length:Int)) (0:Int)) (6:Int)))=4))) (Nt (Ch h Z (fun f0 h=> ?_) (fun f0 h=> ?_))))))))
 exact WC.exit (WQ.thenE (WQ.thenE (WQ.blockM Z (WQ.thenE (WQ.blockH (WQ.thenFE h ⟨lr,Z,(s 0),(s 1),Z,Z,Z,Z⟩))))))
 refine Ck (Tc (Sr (qu (Bv (decide ((shlI .i64 1 (shrI .u8 (rd (sub a0.b a0.at_ (a0.b.length:Int)) (0:Int)) (6:Int)))=2))) (eql Z Z) (qa (Bv (decide ((shlI .i64 1 (shrI .u8 (rd (sub a0.b a0.at_ (a0.b.length:Int)) (0:Int)) (6:Int)))=2))) (Nt (Ch h Z (fun f2 h=> ?_) (fun f2 h=> ?_)))))))
 refine WC.exit (WQ.thenE (WQ.blockM Z (WQ.thenE (WQ.blockM Z (WQ.thenE ?_)))))
 have h:=KK.early h Y
 exact WQ.blockH (WQ.thenFE h ⟨lr,Z,(s 0),(s 1),Z,Z,Z,Z⟩)
 refine Ck (Tc (WC.exit (WQ.blockM Z (WQ.thenE (WQ.blockM Z (WQ.thenE ?_))))))
 have h:=KK.early h Y
 refine WQ.blockM Z (WQ.thenE ?_)
 have h:=KK.early h d7
 refine WQ.blockH ?_
 obtain rfl:=oi h
 exact Tj ⟨lr,Z,(s 0),(s 1),Z,Z,Z⟩
 rintro ⟨x,b3,b4⟩ i1 i2 i3 rfl ⟨B,rfl,J,K,L,N,q,C⟩
 have h:=(Sum.elim_inl _ _ _).symm.trans h
 refine Sr (qM (.func (.func 85) #[] #[(pt d 0),(pt f 0),(pt g 0)]) q ?_)
 obtain ⟨⟨f4,f5⟩,f6,h⟩:=bnd h
 refine Wb (Wb ?_)
 have c:=c.mono B
 refine We (callV3 (first:=#[]) (cap:=#[(pt d 0),(pt f 0),(pt g 0)]) co85 Z (QcQ b4 (sub a0.b a0.at_ (a0.b.length:Int)) b3 _ _ _ _ _ c (f4,f5) f6) (Qe3 Z)) Z ?_
 rintro _ i4 _ D ⟨_,⟨rfl,rfl⟩,rfl⟩
 refine WL.a3 (Ns (qM (.func (.func 85) #[] #[(pt d 0),(pt f 0),(pt g 0)]) q ?_))
 obtain ⟨⟨g6,g7⟩,f7,h⟩:=bnd h
 refine Wb (Wb (Wb ?_))
 have c:=c.mono D
 refine We (callV3 (first:=#[]) (cap:=#[(pt d 0),(pt f 0),(pt g 0)]) co85 Z (QcQ f4 (sub a0.b a0.at_ (a0.b.length:Int)) f5 _ _ _ _ _ c (g6,g7) f7) (Qe3 Z)) Z ?_
 rintro _ i5 _ b6 ⟨_,⟨rfl,rfl⟩,rfl⟩
 refine WL.a3 (Nt (Cg (qM (Uv x) C (qu (Uv (u64.wrap (x+16320))) (add Z Z) (qa (Uv (u64.wrap (x+16320))) (Wz (Bn (WQ.f3 (Qb (Qb (WQ.f3 ?_)))))))))))
 exact WQ.thenFE h ⟨((B.trans D).trans b6),Z,J,K,L,N,q,Z⟩
 rintro ⟨w,b1,b2⟩ i6 i7 i8 rfl ⟨E,rfl,O,P,Q,R,S,G⟩
 have h:=(Sum.elim_inl _ _ _).symm.trans h
 refine Cs (Sr (qM (.func (.func 85) #[] #[(pt d 0),(pt f 0),(pt g 0)]) S ?_))
 obtain ⟨⟨g8,g9⟩,f8,h⟩:=bnd h
 refine Wb (Wb ?_)
 have c:=c.mono E
 refine We (callV3 (first:=#[]) (cap:=#[(pt d 0),(pt f 0),(pt g 0)]) co85 Z (QcQ b2 (sub a0.b a0.at_ (a0.b.length:Int)) b1 _ _ _ _ _ c (g8,g9) f8) (Qe3 Z)) Z ?_
 rintro _ h2 _ T ⟨_,⟨rfl,rfl⟩,rfl⟩
 refine WL.a3 (Nt (Cg (qM (Uv w) G (qu (Uv (u64.wrap (w+64))) (add Z Z) (qa (Uv (u64.wrap (w+64))) (Nt (WC.exit (WQ.blockH (WQ.f3 (Qb (Qb ?_)))))))))))
 refine WQ.f3 ?_
 obtain rfl:=oi h
 exact Tj ⟨(E.trans T),Z,O,P,Q,R,Z⟩
 obtain ⟨v,d5,o⟩:=d0
 rintro i9 j0 j1 ⟨m,rfl,k,U,V,r,I⟩
 refine Cs (Bk (Sr (qu (Uv o) (Lb 1 Q1M r Z Z) (qM (Uv v) I (qu (Bv (decide (o<v))) (lss Z Z) (qa (Bv (decide (o<v))) (Nt (Ch h Z (fun b7 h=> ?_) (fun b7 h=> ?_)))))))))
 refine Sr (qM (pt e 0) k (qM (pt e 0) k (qu (pt e 0) (Nk Z) (qu (pt e 1) (Fa QeB Z Z) (qu (Iv a0.at_) (Lb 3 pl3 Z Z Z) ?_)))))
 obtain ⟨a2,b8,h⟩:=bnd h
 refine WL.f3 ?_
 have i:=i.mono m
 refine We (Cb co56 (QcJ a0 (⟨#[110,117,109]⟩:ByteArray) a0.at_ (5:Int) _ _ _ i a2 b8) (QiO Z Z Z Z)) Z ?_
 rintro _ h3 _ W ⟨_,⟨rfl,rfl⟩,rfl⟩
 refine WL.a1 (Ns (qa (Uv 0) (Nt (Cr (Br (Tr (Qa (Dr (Qa (Dr (Qa ?_)))))))))))
 exact Dr (Rf h [[(e, .cells #[a,(Iv a0.at_),(GV a2)] 108 (0,0))]] Z (Rs Z Z) (m.trans W) ⟨Z,Z⟩)
 refine Sr (qu (Uv o) (Lb 1 Q1M r Z Z) (qM (Uv a1) U (qu (Bv (decide (a1<o))) (gtr Z Z) (qa (Bv (decide (a1<o))) (Nt (Ch h Z (fun b9 h=> ?_) (fun b9 h=> ?_)))))))
 refine Sr (qM (pt e 0) k (qM (pt e 0) k (qu (pt e 0) (Nk Z) (qu (pt e 1) (Fa QeB Z Z) (qu (Iv a0.at_) (Lb 3 pl3 Z Z Z) ?_)))))
 obtain ⟨a4,c0,h⟩:=bnd h
 refine WL.f3 ?_
 have i:=i.mono m
 refine We (Cb co56 (QcJ a0 (⟨#[110,117,109]⟩:ByteArray) a0.at_ (6:Int) _ _ _ i a4 c0) (QiO Z Z Z Z)) Z ?_
 rintro _ h4 _ X ⟨_,⟨rfl,rfl⟩,rfl⟩
 refine WL.a1 (Ns (qa (Uv 0) (Nt (Cr (Br (Tr (Qa (Dr (Qa (Dr (Qa ?_)))))))))))
 exact Dr (Rf h [[(e, .cells #[a,(Iv a0.at_),(GV a4)] 108 (0,0))]] Z (Rs Z Z) (m.trans X) ⟨Z,Z⟩)
 refine Ck (Bn (Tc (Sr (qM (pt e 0) k (qu (pt e 0) (Nk Z) (qu (pt e 1) (Fa QeB Z Z) (qu (Iv a0.at_) (Lb 3 pl3 Z Z Z) (qM (Iv (shlI .i64 1 (shrI .u8 (rd (sub a0.b a0.at_ (a0.b.length:Int)) (0:Int)) (6:Int)))) V (qu (Iv (i64.wrap (a0.at_+(shlI .i64 1 (shrI .u8 (rd (sub a0.b a0.at_ (a0.b.length:Int)) (0:Int)) (6:Int)))))) (add Z Z) (qu (pt e 0) (Nk Z) (qu (pt e 1) (Fa QeB Z Z) ?_)))))))))))
 refine WL.f3 (We (Es (Iv (i64.wrap (a0.at_+(shlI .i64 1 (shrI .u8 (rd (sub a0.b a0.at_ (a0.b.length:Int)) (0:Int)) (6:Int)))))) [a,(Iv (i64.wrap (a0.at_+(shlI .i64 1 (shrI .u8 (rd (sub a0.b a0.at_ (a0.b.length:Int)) (0:Int)) (6:Int)))))),(GV a0.err)] Z sz3 Z Z Z Z Z Z) Z ?_)
 rintro _ _ _ - ⟨rfl,rfl⟩
 exact Ns (qu (Uv o) (Lb 2 Q1M r Z Z) (qa (Uv o) (Nt (Cr (Qa (Dr (Qa (Dr (Qa (Dr (Rf h [[(e, .cells #[a,(Iv (i64.wrap (a0.at_+(shlI .i64 1 (shrI .u8 (rd (sub a0.b a0.at_ (a0.b.length:Int)) (0:Int)) (6:Int)))))),(GV a0.err)] 108 (0,0))]] Z (Rs Z Z) m ⟨Z,Z⟩)))))))))))
 exact Tz
 exact Tz
noncomputable def Qa5 (a0:QaC) (a1:Int):Option (Int×Int×GErr):=
 ((QdR a0 (u64.wrap (if a1<(0:Int)then(0:Int)else a1))).bind fun(a,b,c)=>(some (i64.wrap a,b,c)))
def Qm5 (a0:QaC) (a1:Int) (a:Value) (b:Nat):(Int×Int×GErr)→Value→IM→HL→Prop:=
 fun(c:(Int×Int×GErr)) (v:Value) (i:IM) (d:HL)=>match c with |(e,f,g)=>(.int .i64 e)=v∧d=[[(b, .cells #[a,(.int .i64 f),(GV g)] 108 (0,0))]]
theorem QcD (a0:QaC) (a1:Int) (M:IM) (a:Value) (e:Nat) (f:RS (Kd.int .u8) M a a0.b) (g:(Int×Int×GErr)) (h:Qa5 a0 a1=some g):
 Tri prog 17 #[(pt e 0),(Iv a1)] M [[(e, .cells #[a,(Iv a0.at_),(GV a0.err)] 108 (0,0))]] (Qm5 a0 a1 a e g):=by
 unfold Qa5 at h
 refine Te func17 Z Z ?_
 intro F n l
 refine Sr (qa (Iv 0) (Ns (qM (pt e 0) (l 0) (qM (Iv a1) (l 1) (qu (Iv (if a1<0 then(0:Int)else a1)) (PO.max Z Z) (qu (Uv (u64.wrap (if a1<0 then(0:Int)else a1))) (conv us3 underlying109 Z) ?_))))))
 obtain ⟨⟨c,i,j⟩,k,h⟩:=bnd h
 refine We (Cb co55 (QoW a0 (u64.wrap (if a1<0 then(0:Int)else a1)) _ _ _ f (c,i,j) k) (QaS Z Z)) Z ?_
 rintro _ m _ d ⟨_,⟨rfl,rfl⟩,rfl⟩
 exact WL.a1 (qu (Iv (i64.wrap c)) (conv QlR underlying3 Z) (qa (Iv (i64.wrap c)) (Nt (Cr (Rf h [[(e, .cells #[a,(Iv i),(GV j)] 108 (0,0))]] Z (Rs Z Z) d ⟨Z,Z⟩)))))
noncomputable def QcS (a0q:QaC):Option (Int×Int×GErr):=
 ((Qa5 a0q (1073741824:Int)).bind fun(a,b,c)=>(some (a,b,c)))
def Qq2 (a0q:QaC) (v0q_0:Value) (a g0q:Nat):(Int×Int×GErr)→Value→IM→HL→Prop:=
 fun(b:(Int×Int×GErr)) (v:Value) (g:IM) (c:HL)=>match b with |(d,e,f)=>(.int .i64 d)=v∧c=[[(g0q, .cells #[v0q_0,(.int .i64 e),(GV f)] 108 (0,0))],[(a, .cells #[(.pointer (some ⟨g0q,0,none⟩))] 56 (0,0))]]
theorem QcW (a0q:QaC) (M:IM) (v0q_0:Value) (i g0q:Nat) (h0q_0:RS (Kd.int .u8) M v0q_0 a0q.b) (c:(Int×Int×GErr)) (h:QcS a0q=some c):
 Tri prog 16 #[(pt i 0)] M [[(g0q, .cells #[v0q_0,(Iv a0q.at_),(GV a0q.err)] 108 (0,0))],[(i, .cells #[(pt g0q 0)] 56 (0,0))]] (Qq2 a0q v0q_0 i g0q c):=by
 unfold QcS at h
 refine Te func16 Z Z ?_
 intro F l j
 refine Sr (qa (Iv 0) (Ns (qu (pt g0q 0) (Lb 1 pl56 (j 0) Z Z) ?_)))
 obtain ⟨⟨d,e,f⟩,g,h⟩:=bnd h
 refine We (Cb co17 (QcD a0q (1073741824:Int) _ _ _ h0q_0 (d,e,f) g) (QaS Z Z)) Z ?_
 rintro _ k _ a ⟨_,⟨rfl,rfl⟩,rfl⟩
 exact WL.a1 (qa (Iv d) (Nt (Cr (Rf h [[(g0q, .cells #[v0q_0,(Iv e),(GV f)] 108 (0,0))],[(i, .cells #[(pt g0q 0)] 56 (0,0))]] Z (Rs Z Z) a ⟨Z,Z⟩))))
noncomputable def QdS (a0:QaC):Option GErr:=
 (some a0.err)
def Qm6 (a0:QaC) (a:Value) (b:Nat):GErr→Value→IM→HL→Prop:=
 fun(c:GErr) (v:Value) (e:IM) (d:HL)=>(GV c)=v∧d=[[(b, .cells #[a,(.int .i64 a0.at_),(GV a0.err)] 108 (0,0))]]
theorem Qd8 (a0:QaC) (M:IM) (a:Value) (c:Nat) (e:RS (Kd.int .u8) M a a0.b) (d:GErr) (h:QdS a0=some d):
 Tri prog 58 #[(pt c 0)] M [[(c, .cells #[a,(Iv a0.at_),(GV a0.err)] 108 (0,0))]] (Qm6 a0 a c d):=by
 unfold QdS at h
 refine Te func58 Z Z ?_
 intro F g f
 exact Sr (qa (GV GErr.nil) (Ns (qM (pt c 0) (f 0) (qu (pt c 0) (Nk Z) (qu (pt c 2) (Fa QmL Z Z) (qu (GV a0.err) (Lb 0 pl31 Z Z Z) (qa (GV a0.err) (Nt (Cr (Rf h [[(c, .cells #[a,(Iv a0.at_),(GV a0.err)] 108 (0,0))]] Z (Rs Z Z) lr ⟨Z,Z⟩))))))))))
noncomputable def QdG (a0:(List Int)):Option (List Int):=
 (grd (([]:List Int).length+a0.length≤274877906944) (some (([]:List Int)++a0)))
def QkD (a0:(List Int)) (f:Value):(List Int)→Value→IM→HL→Prop:=
 fun(c:(List Int)) (v:Value) (d:IM) (e:HL)=>∃ a b,a=v∧e=[b]∧OwnS (Kd.int .u8) d a c b
theorem Qk2 (a0:(List Int)) (M:IM) (d:Value) (k:RS (Kd.int .u8) M d a0) (e:(List Int)) (h:QdG a0=some e):
 Tri prog 57 #[d] M [] (QkD a0 d e):=by
 unfold QdG at h
 refine Te func57 Z Z ?_
 intro F o n
 refine Sr (qa Zs (Nt (Cs (Sr (qM d (n 0) (qu (Bv (nilS d)) (sliceNil underlying22 Z k.len Z) (Nt (Cd (b:=nilS d) Z (fun c=> ?_) (fun c=> ?_)))))))))
 obtain rfl:=k.nilxs (by decide) c
 have h:=Eq.trans (a:=((some []):Option (List Int))) (by simp [grd]) h
 exact Sr (qa Zs (Nt (Cr (Tr (WQ.e0 (Rf h [[]] Z (Rs Z Z) lr ⟨Zs,[],Z,Z,(OwnS.nil _ _)⟩))))))
 refine Ck (Tc (Sr (We (buildSliceL (cl:=[]) underlying22 iz5 Z Pz Z) Z ?_)))
 rintro _ _ _ - ⟨rfl,f,rfl,rfl⟩
 have l:OwnS (Kd.int .u8) M (.slice (some ⟨f,0,none⟩) 0 0) [] [(f, .cells #[] 5 (0,0))]:=OwnS.rows (css:=[]) Rows.nil Z Z
 refine qM d (n 0) ?_
 obtain ⟨g,h⟩:=Qa1 h
 refine We (append (dd:=(Kd.int .u8)) (xs:=[]) (ys:=a0) underlying22 underlying22 in5 Z (appB (by decide) g) (by decide) Z Z l (k.src _)) Z ?_
 rintro i _ _ - ⟨rfl,j,rfl,m⟩
 exact qa i (Nt (Cr (Rf h [j] Z (Rs Z Z) lr ⟨i,j,Z,Z,m⟩)))
noncomputable def QbX (a0:QaC) (a1:Int):Option ((List Int)×Int×GErr):=
 ((Qa5 a0 a1).bind fun(a,c,d)=>(if(!d.isNil)=true then(some ([],c,d))else(if(decide ((i64.wrap ((a0.b.length:Int)- c))<a))=true then((QbI (⟨a0.b,a0.at_,d⟩:QaC) (⟨#[116,101,120,116]⟩:ByteArray) a0.at_ (3:Int)).bind fun e=>(some ([],a0.at_,e)))else(grd (0≤i64.wrap ((i64.wrap (c+a))- a)∧i64.wrap ((i64.wrap (c+a))- a)≤i64.wrap (c+a)∧i64.wrap (c+a)≤(a0.b.length:Int)) ((QdG (sub a0.b (i64.wrap ((i64.wrap (c+a))- a)) (i64.wrap (c+a)))).bind fun f=>(some (f,i64.wrap (c+a),d)))))))
def QmD (a0:QaC) (a1:Int) (a:Value) (d:Nat):((List Int)×Int×GErr)→Value→IM→HL→Prop:=
 fun(e:((List Int)×Int×GErr)) (v:Value) (f:IM) (g:HL)=>match e with |(i,j,k)=>∃ b c,b=v∧g=[[(d, .cells #[a,(.int .i64 j),(GV k)] 108 (0,0))],c]∧OwnS (Kd.int .u8) f b i c
theorem Qj0 (a0:QaC) (a1:Int) (M:IM) (e:Value) (d:Nat) (f:RS (Kd.int .u8) M e a0.b) (r:((List Int)×Int×GErr)) (h:QbX a0 a1=some r):
 Tri prog 19 #[(pt d 0),(Iv a1)] M [[(d, .cells #[e,(Iv a0.at_),(GV a0.err)] 108 (0,0))]] (QmD a0 a1 e d r):=by
 unfold QbX at h
 refine Te func19 Z Z ?_
 intro F E k
 refine Sr (qa Zs (Ns (qM (pt d 0) (k 0) (qu (pt d 0) (Nk Z) (qu (pt d 1) (Fa QeB Z Z) (qu (Iv a0.at_) (Lb 0 pl3 Z Z Z) (qa (Iv a0.at_) (Ns (qM (pt d 0) (k 0) (qM (Iv a1) (k 1) ?_))))))))))
 obtain ⟨⟨a,c,j⟩,s,h⟩:=bnd h
 refine We (Cb co17 (QcD a0 a1 _ _ _ f (a,c,j) s) (QaS Z Z)) Z ?_
 rintro _ B _ i ⟨_,⟨rfl,rfl⟩,rfl⟩
 refine WL.a1 (qa (Iv a) (Nt (Cs (Sr (qM (pt d 0) (k 0) (qu (pt d 0) (Nk Z) (qu (pt d 2) (Fa QmL Z Z) (qu (GV j) (Lb 0 pl31 Z Z Z) (qu (Bv (!j.isNil)) (errNotNil underlying31 Z) (Nt (Ch h Z (fun t h=> ?_) (fun t h=> ?_))))))))))))
 exact Sr (qa Zs (Nt (Cr (Tr (WQ.e0 (Qa (Rf h [[(d, .cells #[e,(Iv c),(GV j)] 108 (0,0))],[]] Z (Rs Z Z) i ⟨Zs,[],Z,Z,(OwnS.nil _ _)⟩)))))))
 refine Ck (Tc (Cs (Cs (WC.draw [0,0,2,6,14,30,0,64,192,448,1022,2047] (.pure 0 (.pure 1 (.pure 2 (.pure 3 (.pure 4 (.pure 5 (.pure 6 (.pure 7 (.pure 8 (.pure 9 (.pure 10 (.pure 11 .done)))))))))))) Qc3 (by kernel_rfl) (qt (Iv a) Z (Mv Z) (qt (pt d 0) Z (Mv (k 0)) (qt (pt d 0) Z (Nk Z) (qt (pt d 0) Z (Fa Qn6 Z Z) (qt e Z (Lb 0 pl22 Z Z Z) ?_)))))))))
 have f:=f.mono i
 refine qt (Iv (a0.b.length:Int)) Z (lenS underlying22 Z f.len) (qt (pt d 0) Z (Mv (k 0)) (qt (pt d 0) Z (Nk Z) (qt (pt d 1) Z (Fa QeB Z Z) (qt (Iv c) Z (Lb 0 pl3 Z Z Z) (qt (Iv (i64.wrap ((a0.b.length:Int)- c))) Z (PO.sub Z Z) (qt (Bv (decide ((i64.wrap ((a0.b.length:Int)- c))<a))) Z (gtr Z Z) (Ti (Tc (Ch h Z (fun u h=> ?_) (fun u h=> ?_))))))))))
 refine Sr (qM (pt d 0) (k 0) (qm (Iv a0.at_) (qu (pt d 0) (Nk Z) (qu (pt d 1) (Fa QeB Z Z) (We (Es (Iv a0.at_) [e,(Iv a0.at_),(GV j)] Z sz3 Z Z Z Z Z Z) Z ?_)))))
 rintro _ _ _ - ⟨rfl,rfl⟩
 refine Ns (qM (pt d 0) (k 0) (qm (Iv a0.at_) ?_))
 obtain ⟨v,w,h⟩:=bnd h
 refine We (Cb co56 (QcJ (⟨a0.b,a0.at_,j⟩:QaC) (⟨#[116,101,120,116]⟩:ByteArray) a0.at_ (3:Int) _ _ _ f v w) (QiO Z Z Z Z)) Z ?_
 rintro _ C _ p ⟨_,⟨rfl,rfl⟩,rfl⟩
 exact WL.a1 (Ns (qa Zs (Nt (Cr (Tr (WQ.e0 (Qa (Rf h [[(d, .cells #[e,(Iv a0.at_),(GV v)] 108 (0,0))],[]] Z (Rs Z Z) (i.trans p) ⟨Zs,[],Z,Z,(OwnS.nil _ _)⟩))))))))
 refine Ck (Tc (Sr (qM (pt d 0) (k 0) (qu (pt d 0) (Nk Z) (qu (pt d 1) (Fa QeB Z Z) (qu (Iv c) (Lb 0 pl3 Z Z Z) (qm (Iv a) (qu (Iv (i64.wrap (c+a))) (add Z Z) (qu (pt d 0) (Nk Z) (qu (pt d 1) (Fa QeB Z Z) (We (Es (Iv (i64.wrap (c+a))) [e,(Iv (i64.wrap (c+a))),(GV j)] Z sz3 Z Z Z Z Z Z) Z ?_)))))))))))
 rintro _ _ _ - ⟨rfl,rfl⟩
 refine Nt (Cs (WC.draw [0,1,3,7,0,16,48,112,0,496,0,1024,3072,7168,16383,32767,65535] (.pure 0 (.pure 1 (.pure 2 (.pure 3 (.pure 4 (.pure 5 (.pure 6 (.pure 7 (.pure 8 (.pure 9 (.pure 10 (.pure 11 (.pure 12 (.pure 13 (.pure 14 (.alt 15 (.pure 16 .done) .none)))))))))))))))) Qc3 (by kernel_rfl) (qt (pt d 0) Z (Mv (k 0)) (qt (pt d 0) Z (Nk Z) (qt (pt d 0) Z (Fa Qn6 Z Z) (qt e Z (Lb 0 pl22 Z Z Z) (qt (pt d 0) Z (Mv (k 0)) (qt (pt d 0) Z (Nk Z) (qt (pt d 1) Z (Fa QeB Z Z) (qt (Iv (i64.wrap (c+a))) Z (Lb 0 pl3 Z Z Z) (qt (Iv a) Z (Mv Z) ?_)))))))))))
 refine qt (Iv (i64.wrap ((i64.wrap (c+a))- a))) Z (PO.sub Z Z) (qt (pt d 0) Z (Mv (k 0)) (qt (pt d 0) Z (Nk Z) (qt (pt d 1) Z (Fa QeB Z Z) (qt (Iv (i64.wrap (c+a))) Z (Lb 0 pl3 Z Z Z) ?_))))
 obtain ⟨g,h⟩:=Qa1 h
 have z:=f.sub g.1 g.2.1 g.2.2
 refine qt (slV e 1 (i64.wrap ((i64.wrap (c+a))- a)).toNat (i64.wrap (c+a)).toNat) Z (slice (n:=a0.b.length) (l:=(i64.wrap ((i64.wrap (c+a))- a)).toNat) (h:=(i64.wrap (c+a)).toNat) underlying22 sz5 Z f.len f.cap ⟨_,_,Z,g.1,Z⟩ ⟨_,_,Z,(Int.le_trans g.1 g.2.1),Z⟩ (Int.toNat_le_toNat g.2.1) (Qe4 g.2.2)) ?_
 obtain ⟨A,x,h⟩:=bnd h
 refine Ta Z (Ca co57 (Qk2 (sub a0.b (i64.wrap ((i64.wrap (c+a))- a)) (i64.wrap (c+a))) _ _ z A x) (Qb2 Z)) Z ?_ ?_
 rintro _ D _ q ⟨_,⟨m,o,rfl,rfl,y⟩,rfl⟩
 refine⟨(Sl Z), ?_⟩
 exact WT.a1 (qt m Z (Ag Z) (Ti (Tc (Cr (Qa (Rf h [[(d, .cells #[e,(Iv (i64.wrap (c+a))),(GV j)] 108 (0,0))],o] Z (Rs Z Z) (i.trans q) ⟨m,o,Z,Z,y⟩))))))
 exact Tz
noncomputable def QgC (a0q:QaC):Option (ByteArray×Int×GErr):=
 ((QbX a0q (40:Int)).bind fun(a,b,c)=>(some (strOfNums a,b,c)))
def Qq3 (a0q:QaC) (v0q_0:Value) (a g0q:Nat):(ByteArray×Int×GErr)→Value→IM→HL→Prop:=
 fun(b:(ByteArray×Int×GErr)) (v:Value) (g:IM) (c:HL)=>match b with |(d,e,f)=>(.string d)=v∧c=[[(g0q, .cells #[v0q_0,(.int .i64 e),(GV f)] 108 (0,0))],[(a, .cells #[(.pointer (some ⟨g0q,0,none⟩))] 56 (0,0))]]
theorem QkE (a0q:QaC) (M:IM) (v0q_0:Value) (j g0q:Nat) (h0q_0:RS (Kd.int .u8) M v0q_0 a0q.b) (d:(ByteArray×Int×GErr)) (h:QgC a0q=some d):
 Tri prog 18 #[(pt j 0)] M [[(g0q, .cells #[v0q_0,(Iv a0q.at_),(GV a0q.err)] 108 (0,0))],[(j, .cells #[(pt g0q 0)] 56 (0,0))]] (Qq3 a0q v0q_0 j g0q d):=by
 unfold QgC at h
 refine Te func18 Z Z ?_
 intro F o m
 refine Sr (qa (Sv ⟨#[]⟩) (Ns (qu (pt g0q 0) (Lb 1 pl56 (m 0) Z Z) ?_)))
 obtain ⟨⟨a,e,f⟩,g,h⟩:=bnd h
 refine We (Cb co19 (Qj0 a0q (40:Int) _ _ _ h0q_0 (a,e,f) g) (QaS Z Z)) Z ?_
 rintro _ n _ c ⟨_,⟨k,l,rfl,rfl,i⟩,rfl⟩
 exact WL.a2 (qu (Sv (strOfNums a)) (b2s (ys:=a) underlying22 underlying5 underlying9 Z (i.src 1 Z)) (qa (Sv (strOfNums a)) (Nt (Cr (Qa (Dr (Rf h [[(g0q, .cells #[v0q_0,(Iv e),(GV f)] 108 (0,0))],[(j, .cells #[(pt g0q 0)] 56 (0,0))]] Z (Rs Z Z) c ⟨Z,Z⟩)))))))
noncomputable def QbY (a0:QaC):Option (Bool×Int×GErr):=
 (((if(!a0.err.isNil)=true then(some (inl a0.err))else(if(decide ((a0.b.length:Int)≤a0.at_))=true then((QbI a0 (⟨#[102,108,97,103]⟩:ByteArray) a0.at_ (3:Int)).bind fun a=>(some (inl a)))else(grd (0≤a0.at_∧a0.at_<a0.b.length) (if(decide ((1:Int)<(rd a0.b a0.at_)))=true then((QbI a0 (⟨#[102,108,97,103]⟩:ByteArray) a0.at_ (5:Int)).bind fun c=>(some (inl c)))else(grd (0≤i64.wrap ((i64.wrap (a0.at_+(1:Int)))- (1:Int))∧i64.wrap ((i64.wrap (a0.at_+(1:Int)))- (1:Int))<a0.b.length) (((some (decide ((rd a0.b (i64.wrap ((i64.wrap (a0.at_+(1:Int)))- (1:Int))))=(1:Int)),i64.wrap (a0.at_+(1:Int)),a0.err))).bind fun r=>some (inr r))))))):Option (GErr⊕(Bool×Int×GErr))).bind (Sum.elim (fun(d:GErr)=>(some (false,a0.at_,d))) some))
def QmE (a0:QaC) (a:Value) (b:Nat):(Bool×Int×GErr)→Value→IM→HL→Prop:=
 fun(c:(Bool×Int×GErr)) (v:Value) (i:IM) (d:HL)=>match c with |(e,f,g)=>(.bool e)=v∧d=[[(b, .cells #[a,(.int .i64 f),(GV g)] 108 (0,0))]]
theorem Qj1 (a0:QaC) (M:IM) (c:Value) (a:Nat) (d:RS (Kd.int .u8) M c a0.b) (r:(Bool×Int×GErr)) (h:QbY a0=some r):
 Tri prog 24 #[(pt a 0)] M [[(a, .cells #[c,(Iv a0.at_),(GV a0.err)] 108 (0,0))]] (QmE a0 c a r):=by
 unfold QbY at h
 refine Te func24 Z Z ?_
 intro F R g
 refine Sr (qa (Bv false) (Nt ?_))
 obtain ⟨z,s,h⟩:=bnd h
 refine WC.joinE (fun(i:GErr) Q I J=>M.le I∧[(a, .cells #[c,(Iv a0.at_),(GV i)] 108 (0,0))]::F=J) z ?_ ?_
 have t:=h
 have h:=s
 refine Bk (Sr (qM (pt a 0) (g 0) (qu (pt a 0) (Nk Z) (qu (pt a 2) (Fa QmL Z Z) (qu (GV a0.err) (Lb 0 pl31 Z Z Z) (qu (Bv (!a0.err.isNil)) (errNotNil underlying31 Z) (qa (Bv (!a0.err.isNil)) (Nt (Ch h Z (fun u h=> ?_) (fun u h=> ?_))))))))))
 exact Ck (Bn (WQ.thenFE h ⟨lr,Z⟩))
 refine Cs (WC.draw [0,1,3,7,0,16,48,112,240,511,1023] (.pure 0 (.pure 1 (.pure 2 (.pure 3 (.pure 4 (.pure 5 (.pure 6 (.pure 7 (.pure 8 (.pure 9 (.pure 10 .done))))))))))) Qc3 (by kernel_rfl) (qt (pt a 0) Z (Mv (g 0)) (qt (pt a 0) Z (Nk Z) (qt (pt a 1) Z (Fa QeB Z Z) (qt (Iv a0.at_) Z (Lb 0 pl3 Z Z Z) (qt (pt a 0) Z (Mv (g 0)) (qt (pt a 0) Z (Nk Z) (qt (pt a 0) Z (Fa Qn6 Z Z) (qt c Z (Lb 0 pl22 Z Z Z) (qt (Iv (a0.b.length:Int)) Z (lenS underlying22 Z d.len) (qt (Bv (decide ((a0.b.length:Int)≤a0.at_))) Z (geq Z Z) ?_)))))))))))
 refine qt (Bv (decide ((a0.b.length:Int)≤a0.at_))) Z (Ag Z) (Ti (Tc (Ch h Z (fun v h=> ?_) (fun v h=> ?_))))
 refine Cg (qM (pt a 0) (g 0) (qM (pt a 0) (g 0) (qu (pt a 0) (Nk Z) (qu (pt a 1) (Fa QeB Z Z) (qu (Iv a0.at_) (Lb 0 pl3 Z Z Z) ?_)))))
 obtain ⟨A,w,h⟩:=bnd h
 refine We (Cb co56 (QcJ a0 (⟨#[102,108,97,103]⟩:ByteArray) a0.at_ (3:Int) _ _ _ d A w) (QiO Z Z Z Z)) Z ?_
 rintro _ K _ j ⟨_,⟨rfl,rfl⟩,rfl⟩
 exact WL.a1 (Wz (Bn (WQ.thenFE h ⟨j,Z⟩)))
 refine Cs (WC.draw [0,1,3,7,0,16,48,112,255,511,1023,2047] (.pure 0 (.pure 1 (.pure 2 (.pure 3 (.pure 4 (.pure 5 (.pure 6 (.pure 7 (.pure 8 (.pure 9 (.pure 10 (.pure 11 .done)))))))))))) Qc3 (by kernel_rfl) (qt (pt a 0) Z (Mv (g 0)) (qt (pt a 0) Z (Nk Z) (qt (pt a 0) Z (Fa Qn6 Z Z) (qt c Z (Lb 0 pl22 Z Z Z) (qt (pt a 0) Z (Mv (g 0)) (qt (pt a 0) Z (Nk Z) (qt (pt a 1) Z (Fa QeB Z Z) (qt (Iv a0.at_) Z (Lb 0 pl3 Z Z Z) ?_)))))))))
 obtain ⟨e,h⟩:=Qa1 h
 obtain ⟨B,E,k,l,hhas34⟩:=d.at e.1 e.2 (by decide)
 obtain rfl:=l
 refine qt (.pointer (some B)) Z (indexAddr (n:=a0.b.length) underlying22 sz5 Z Z e.1 e.2 k) (qt (Yv (rd a0.b a0.at_)) Z (loadM pl5 Z (IM.has0 hhas34)) (qt (Bv (decide ((1:Int)<(rd a0.b a0.at_)))) Z (gtr Z Z) (qt (Bv (decide ((1:Int)<(rd a0.b a0.at_)))) Z (Ag Z) (Ti (Tc (Ch h Z (fun x h=> ?_) (fun x h=> ?_)))))))
 refine Cg (qM (pt a 0) (g 0) (qM (pt a 0) (g 0) (qu (pt a 0) (Nk Z) (qu (pt a 1) (Fa QeB Z Z) (qu (Iv a0.at_) (Lb 0 pl3 Z Z Z) ?_)))))
 obtain ⟨C,y,h⟩:=bnd h
 refine We (Cb co56 (QcJ a0 (⟨#[102,108,97,103]⟩:ByteArray) a0.at_ (5:Int) _ _ _ d C y) (QiO Z Z Z Z)) Z ?_
 rintro _ L _ m ⟨_,⟨rfl,rfl⟩,rfl⟩
 exact WL.a1 (Wz (Bn (WQ.thenFE h ⟨m,Z⟩)))
 refine Sr (qM (pt a 0) (g 0) (qu (pt a 0) (Nk Z) (qu (pt a 1) (Fa QeB Z Z) (qu (Iv a0.at_) (Lb 0 pl3 Z Z Z) (qu (Iv (i64.wrap (a0.at_+1))) (add Z Z) (qu (pt a 0) (Nk Z) (qu (pt a 1) (Fa QeB Z Z) (We (Es (Iv (i64.wrap (a0.at_+1))) [c,(Iv (i64.wrap (a0.at_+1))),(GV a0.err)] Z sz3 Z Z Z Z Z Z) Z ?_))))))))
 rintro _ _ _ - ⟨rfl,rfl⟩
 refine Nt (Cs (WC.draw [0,1,3,7,0,16,48,112,240,511,1023,2047,4095] (.pure 0 (.pure 1 (.pure 2 (.pure 3 (.pure 4 (.pure 5 (.pure 6 (.pure 7 (.pure 8 (.pure 9 (.pure 10 (.pure 11 (.pure 12 .done))))))))))))) Qc3 (by kernel_rfl) (qt (pt a 0) Z (Mv (g 0)) (qt (pt a 0) Z (Nk Z) (qt (pt a 0) Z (Fa Qn6 Z Z) (qt c Z (Lb 0 pl22 Z Z Z) (qt (pt a 0) Z (Mv (g 0)) (qt (pt a 0) Z (Nk Z) (qt (pt a 1) Z (Fa QeB Z Z) (qt (Iv (i64.wrap (a0.at_+1))) Z (Lb 0 pl3 Z Z Z) (qt (Iv (i64.wrap ((i64.wrap (a0.at_+1))- 1))) Z (PO.sub Z Z) ?_)))))))))))
 obtain ⟨f,h⟩:=Qa1 h
 obtain ⟨D,G,o,p,hhas46⟩:=d.at f.1 f.2 (by decide)
 obtain rfl:=p
 refine qt (.pointer (some D)) Z (indexAddr (n:=a0.b.length) underlying22 sz5 Z Z f.1 f.2 o) (qt (Yv (rd a0.b (i64.wrap ((i64.wrap (a0.at_+1))- 1)))) Z (loadM pl5 Z (IM.has0 hhas46)) (qt (Bv (decide ((rd a0.b (i64.wrap ((i64.wrap (a0.at_+1))- 1)))=1))) Z (eql Z Z) (qt (Bv (decide ((rd a0.b (i64.wrap ((i64.wrap (a0.at_+1))- 1)))=1))) Z (Ag Z) (Ti (Tc (Cr (Br (Tr ?_))))))))
 have h:=KK.early h t
 exact Rf h [[(a, .cells #[c,(Iv (i64.wrap (a0.at_+1))),(GV a0.err)] 108 (0,0))]] Z (Rs Z Z) lr ⟨Z,Z⟩
 rintro i N O P rfl ⟨q,rfl⟩
 have h:=(Sum.elim_inl _ _ _).symm.trans h
 exact Sr (qa (Bv false) (Nt (Cr (Rf h [[(a, .cells #[c,(Iv a0.at_),(GV i)] 108 (0,0))]] Z (Rs Z Z) q ⟨Z,Z⟩))))
noncomputable def QcF (a0qk0q:QaC):Option (QaD×Int×GErr):=
 ((QcS a0qk0q).bind fun(a,c,d)=>((QcS (⟨a0qk0q.b,c,d⟩:QaC)).bind fun(e,f,g)=>((QgC (⟨a0qk0q.b,f,g⟩:QaC)).bind fun(i,j,k)=>((QbY (⟨a0qk0q.b,j,k⟩:QaC)).bind fun(l,m,n)=>((QbY (⟨a0qk0q.b,m,n⟩:QaC)).bind fun(o,p,q)=>(some ((⟨a,e,i,l,o⟩:QaD),p,q)))))))
def QjA (a0qk0q:QaC) (v0qk0q_0:Value) (b g0qk0 g0qk0q c:Nat):(QaD×Int×GErr)→Value→IM→HL→Prop:=
 fun(d:(QaD×Int×GErr)) (v:Value) (i:IM) (e:HL)=>match d with |(a,f,g)=>(.agg #[(.int .i64 a.Id),(.int .i64 a.Epoch),(.string a.Rack),(.bool a.Fenced),(.bool a.Leaving)])=v∧e=[[(g0qk0q, .cells #[v0qk0q_0,(.int .i64 f),(GV g)] 108 (0,0))],[(g0qk0, .cells #[(.pointer (some ⟨g0qk0q,0,none⟩))] 56 (0,0))],[(b, .cells #[(.func (.func 16) #[] #[(.pointer (some ⟨g0qk0,0,none⟩))])] 59 (0,0))],[(c, .cells #[(.func (.func 18) #[] #[(.pointer (some ⟨g0qk0,0,none⟩))])] 61 (0,0))]]
theorem Qj2 (a0qk0q:QaC) (M:IM) (v0qk0q_0:Value) (E g0qk0 g0qk0q G:Nat) (h0qk0q_0:RS (Kd.int .u8) M v0qk0q_0 a0qk0q.b) (n:(QaD×Int×GErr)) (h:QcF a0qk0q=some n):
 Tri prog 23 #[(pt E 0),(pt G 0),(pt g0qk0 0)] M [[(g0qk0q, .cells (l108 a0qk0q v0qk0q_0).toArray 108 (0,0))],[(g0qk0, .cells #[(pt g0qk0q 0)] 56 (0,0))],[(E, .cells #[(.func (.func 16) #[] #[(pt g0qk0 0)])] 59 (0,0))],[(G, .cells #[(.func (.func 18) #[] #[(pt g0qk0 0)])] 61 (0,0))]] (QjA a0qk0q v0qk0q_0 E g0qk0 g0qk0q G n):=by
 unfold QcF at h
 refine Te func23 Z Z ?_
 intro F P g
 refine Sr (We (Al ze66 Z) Z ?_)
 rintro _ _ _ - ⟨rfl,I,rfl,rfl⟩
 refine Nt (Cs (WC.draw [0,1,0,7,0,31,0,127,0,511,1023,2047] (.pure 0 (.pure 2 (.pure 4 (.pure 6 (.pure 8 (.alt 1 (.alt 3 (.alt 5 (.alt 7 (.alt 9 (.pure 10 (.alt 11 .done .none)) .none) .none) .none) .none) .none)))))) Qc3 (by kernel_rfl) (qt (.func (.func 16) #[] #[(pt g0qk0 0)]) Z (Lb 3 pl59 (g 0) Z Z) (qt (.func (.func 16) #[] #[(pt g0qk0 0)]) Z (Lb 3 pl59 (g 0) Z Z) (qt (.func (.func 18) #[] #[(pt g0qk0 0)]) Z (Lb 4 pl61 (g 1) Z Z) (qt (pt g0qk0q 0) Z (Lb 2 pl56 (g 2) Z Z) (qt (pt g0qk0q 0) Z (Lb 2 pl56 (g 2) Z Z) ?_)))))))
 obtain ⟨⟨a,o,p⟩,q,h⟩:=bnd h
 refine WT.f2 (WT.f2 (Ta Z (callV2 (first:=#[]) (cap:=#[(pt g0qk0 0)]) co16 Z (QcW a0qk0q _ _ _ _ h0qk0q_0 (a,o,p) q) (Qe3 Z)) Z ?_ ?_))
 rintro _ J _ i ⟨_,⟨rfl,rfl⟩,rfl⟩
 refine⟨(Ss Z (Lb 1 pl56 (g 2) Z Z) Z (Ss Z (Lb 1 pl56 (g 2) Z Z) Z (Ss Z (Lb 4 pl61 (g 1) Z Z) Z (Ss Z (Lb 3 pl59 (g 0) Z Z) Z (Sl Z))))), ?_⟩
 refine WT.a2 ?_
 obtain ⟨⟨c,r,s⟩,t,h⟩:=bnd h
 refine WT.f1 (WT.f1 ?_)
 have h0qk0q_0:=h0qk0q_0.mono i
 refine Ta Z (callV2 (first:=#[]) (cap:=#[(pt g0qk0 0)]) co16 Z (QcW (⟨a0qk0q.b,o,p⟩:QaC) _ _ _ _ h0qk0q_0 (c,r,s) t) (Qe3 Z)) Z ?_ ?_
 rintro _ K _ j ⟨_,⟨rfl,rfl⟩,rfl⟩
 refine⟨(Ss Z (Lb 1 pl56 (g 2) Z Z) Z (Ss Z (Lb 1 pl56 (g 2) Z Z) Z (Ss Z (Lb 4 pl61 (g 1) Z Z) Z (Sl Z)))), ?_⟩
 refine WT.a2 ?_
 obtain ⟨⟨d,u,w⟩,x,h⟩:=bnd h
 refine WT.f1 (WT.f1 ?_)
 have h0qk0q_0:=h0qk0q_0.mono j
 refine Ta Z (callV2 (first:=#[]) (cap:=#[(pt g0qk0 0)]) co18 Z (QkE (⟨a0qk0q.b,r,s⟩:QaC) _ _ _ _ h0qk0q_0 (d,u,w) x) (Qe3 Z)) Z ?_ ?_
 rintro _ L _ k ⟨_,⟨rfl,rfl⟩,rfl⟩
 refine⟨(Ss Z (Lb 1 pl56 (g 2) Z Z) Z (Ss Z (Lb 1 pl56 (g 2) Z Z) Z (Sl Z))), ?_⟩
 refine WT.a2 ?_
 obtain ⟨⟨e,y,z⟩,A,h⟩:=bnd h
 have h0qk0q_0:=h0qk0q_0.mono k
 refine Ta Z (Cb co24 (Qj1 (⟨a0qk0q.b,u,w⟩:QaC) _ _ _ h0qk0q_0 (e,y,z) A) (Qb2 Z)) Z ?_ ?_
 rintro _ N _ l ⟨_,⟨rfl,rfl⟩,rfl⟩
 refine⟨(Ss Z (Lb 1 pl56 (g 2) Z Z) Z (Sl Z)), ?_⟩
 refine WT.a1 ?_
 obtain ⟨⟨f,B,C⟩,D,h⟩:=bnd h
 have h0qk0q_0:=h0qk0q_0.mono l
 refine Ta Z (Cb co24 (Qj1 (⟨a0qk0q.b,y,z⟩:QaC) _ _ _ h0qk0q_0 (f,B,C) D) (Qb2 Z)) Z ?_ ?_
 rintro _ O _ m ⟨_,⟨rfl,rfl⟩,rfl⟩
 refine⟨(Sl Z), ?_⟩
 refine WT.a1 (qt (.agg #[(Iv a),(Iv c),(Sv d),(Bv e),(Bv f)]) Z (Bl (cl:=[(Iv a),(Iv c),(Sv d),(Bv e),(Bv f)]) ze66 fp66 (Pc (Iv a) Z Z (Pc (Iv c) Z Z (Pc (Sv d) Z Z (Pc (Bv e) Z Z (Pc (Bv f) Z Z Pz))))) Z) (WT.f2 (Ta Z (Sg (v:=(.agg #[(Iv a),(Iv c),(Sv d),(Bv e),(Bv f)])) (vl:=[(Iv a),(Iv c),(Sv d),(Bv e),(Bv f)]) (arr':=[(Iv a),(Iv c),(Sv d),(Bv e),(Bv f)]) Z sz66 Z Z (onb Z) Z Z Z) Z ?_ ?_)))
 rintro _ _ _ - ⟨rfl,rfl⟩
 refine⟨(Sl Z), ?_⟩
 exact Ti (Tc (Cr (Rd h [[(g0qk0q, .cells #[v0qk0q_0,(Iv B),(GV C)] 108 (0,0))],[(g0qk0, .cells #[(pt g0qk0q 0)] 56 (0,0))],[(E, .cells #[(.func (.func 16) #[] #[(pt g0qk0 0)])] 59 (0,0))],[(G, .cells #[(.func (.func 18) #[] #[(pt g0qk0 0)])] 61 (0,0))]] (fun _ hs=>hs.drop) (QbA Z (Rc (cs:=[(Iv a),(Iv c),(Sv d),(Bv e),(Bv f)]) 0 ag66 sz66 Z Z Z)) ((((i.trans j).trans k).trans l).trans m) ⟨Z,Z⟩)))
 exact Tz
 exact Tz
 exact Tz
 exact Tz
 exact Tz
 exact Tz
noncomputable def QbM (a0:QaC) (g:Int) (m:((List QaD)×Int×Int×GErr)):Option (((List QaD)×Int×Int×GErr)⊕((List QaD)×Int×GErr)):=
 match m with
 |(a,e,c,d)=>
 (((if(decide (e<g))=true then((QdS (⟨a0.b,c,d⟩:QaC)).bind fun i=>(some i.isNil))else(some false)):Option Bool).bind fun j=>(if j=true then((QcF (⟨a0.b,c,d⟩:QaC)).bind fun(f,k,l)=>(grd (a.length+[f].length≤274877906944) (some (inl (a++[f],i64.wrap (e+(1:Int)),k,l)))))else(some (inr (a,c,d)))))
noncomputable def QbG (a0:QaC) (a1:Int):Option ((List QaD)×Int×GErr):=
 ((Qa5 a0 a1).bind fun(a,b,c)=>((((iter (QbM a0 a) ([],(0:Int),b,c)).bind (fun(d,e,f)=>(some (d,e,f)))):Option ((List QaD)×Int×GErr)).bind fun(g,i,j)=>(some (g,i,j))))
def QfA (a0:QaC) (a1:Int) (a:Value) (d g2k0 g2k0qk0 g2k1:Nat):((List QaD)×Int×GErr)→Value→IM→HL→Prop:=
 fun(e:((List QaD)×Int×GErr)) (v:Value) (f:IM) (g:HL)=>match e with |(i,j,k)=>∃ b c,b=v∧g=[[(d, .cells #[a,(.int .i64 j),(GV k)] 108 (0,0))],[(g2k0qk0, .cells #[(.pointer (some ⟨d,0,none⟩))] 56 (0,0))],[(g2k0, .cells #[(.func (.func 16) #[] #[(.pointer (some ⟨g2k0qk0,0,none⟩))])] 59 (0,0))],[(g2k1, .cells #[(.func (.func 18) #[] #[(.pointer (some ⟨g2k0qk0,0,none⟩))])] 61 (0,0))],c]∧OwnS QaG f b i c
theorem QfQ (a0:QaC) (a1:Int) (M:IM) (a:Value) (r g2k0 g2k0qk0 g2k1:Nat) (c:RS (Kd.int .u8) M a a0.b) (U:((List QaD)×Int×GErr)) (h:QbG a0 a1=some U):
 Tri prog 22 #[(pt r 0),(Iv a1),(.func (.func 23) #[] #[(pt g2k0 0),(pt g2k1 0),(pt g2k0qk0 0)])] M [[(r, .cells #[a,(Iv a0.at_),(GV a0.err)] 108 (0,0))],[(g2k0qk0, .cells #[(pt r 0)] 56 (0,0))],[(g2k0, .cells #[(.func (.func 16) #[] #[(pt g2k0qk0 0)])] 59 (0,0))],[(g2k1, .cells #[(.func (.func 18) #[] #[(pt g2k0qk0 0)])] 61 (0,0))]] (QfA a0 a1 a r g2k0 g2k0qk0 g2k1 U):=by
 unfold QbG at h
 refine Te func22 Z Z ?_
 intro F ρ b7
 refine Sr (qa Zs (Ns (qa Zs (Ns (qM (pt r 0) (b7 0) (qM (Iv a1) (b7 1) ?_))))))
 obtain ⟨⟨s,b8,b9⟩,V,h⟩:=bnd h
 refine We (Cb co17 (QcD a0 a1 _ _ _ c (s,b8,b9) V) (QaS Z Z)) Z ?_
 rintro _ W _ t ⟨_,⟨rfl,rfl⟩,rfl⟩
 refine WL.a1 (qa (Iv s) (Nt ?_))
 obtain ⟨X,Y,h⟩:=bnd h
 refine Jf (fun(p_:((List QaD)×Int×GErr)) u L H'=>match p_ with |(a3,N,O)=>∃ g p,W.le L∧[(r, .cells #[a,(Iv N),(GV O)] 108 (0,0))]::[(g2k0qk0, .cells #[(pt r 0)] 56 (0,0))]::[(g2k0, .cells #[(.func (.func 16) #[] #[(pt g2k0qk0 0)])] 59 (0,0))]::[(g2k1, .cells #[(.func (.func 18) #[] #[(pt g2k0qk0 0)])] 61 (0,0))]::p::F=H'∧u 7=g∧OwnS QaG L g a3 p) X ?_ ?_
 have h:=Y
 refine Sr (qa (Iv 0) (Nt (Bk (WC.e0 (WC.f4 (WC.f4 (WC.f4 (WC.f4 ?_))))))))
 obtain ⟨c6,a5,a6⟩:=bnd h
 clear h
 refine WC.loop a5 (fun(p_:((List QaD)×Int×Int×GErr)) u L H'=>match p_ with |(C,f,A,B)=>∃ i q,W.le L∧[(r, .cells #[a,(Iv A),(GV B)] 108 (0,0))]::[(g2k0qk0, .cells #[(pt r 0)] 56 (0,0))]::[(g2k0, .cells #[(.func (.func 16) #[] #[(pt g2k0qk0 0)])] 59 (0,0))]::[(g2k1, .cells #[(.func (.func 18) #[] #[(pt g2k0qk0 0)])] 61 (0,0))]::q::F=H'∧u 0=(pt r 0)∧u 2=(.func (.func 23) #[] #[(pt g2k0 0),(pt g2k1 0),(pt g2k0qk0 0)])∧u 7=i∧u 8=(Iv s)∧u 9=(Iv f)∧OwnS QaG L i C q) ?_ ?_
 exact⟨Zs,[],lr,Z,(b7 0),(b7 2),Z,Z,Z,(OwnS.nil _ _)⟩
 rintro ⟨C,f,A,B⟩ c7 c8 c1 c9 h ⟨i,q,k,rfl,l,v,w,m,n,j⟩
 unfold QbM at h
 refine Cs ?_
 obtain ⟨P,a7,h⟩:=bnd h
 refine Jf (fun(P:Bool) u L H'=>c1.le L∧[(r, .cells #[a,(Iv A),(GV B)] 108 (0,0))]::[(g2k0qk0, .cells #[(pt r 0)] 56 (0,0))]::[(g2k0, .cells #[(.func (.func 16) #[] #[(pt g2k0qk0 0)])] 59 (0,0))]::[(g2k1, .cells #[(.func (.func 18) #[] #[(pt g2k0qk0 0)])] 61 (0,0))]::q::F=H'∧u 0=(pt r 0)∧u 2=(.func (.func 23) #[] #[(pt g2k0 0),(pt g2k1 0),(pt g2k0qk0 0)])∧u 7=i∧u 8=(Iv s)∧u 9=(Iv f)∧u 20=(Bv P)) P ?_ ?_
 have h:=a7
 refine Cg (qM (Iv f) n (qM (Iv s) m (qu (Bv (decide (f<s))) (lss Z Z) (qm (Bv (decide (f<s))) ?_))))
 rcases Bi h with⟨d,h⟩ |⟨d,h⟩
 refine On 16 Z Z d (qM (pt r 0) l (On 16 Z Z d ?_))
 obtain ⟨Q,a8,h⟩:=bnd h
 have c:=c.mono (t.trans k)
 refine We (Cb co58 (Qd8 (⟨a0.b,A,B⟩:QaC) _ _ _ c Q a8) (Qb2 Z)) Z ?_
 rintro _ d0 _ R ⟨_,⟨rfl,rfl⟩,rfl⟩
 refine WL.a1 (qo 16 d (Bv Q.isNil) (errNil underlying31 Z) (qu (Bv Q.isNil) (Pt Z d Z) (Wz ?_)))
 obtain rfl:=oi h
 exact Tj ⟨R,Z,l,v,w,m,n,Z⟩
 iterate 3 refine Of 16 Z Z d Z ?_
 refine qu (Bv false) (Pf Z d Z) (Wz ?_)
 obtain rfl:=oi h
 exact Tj ⟨lr,Z,l,v,w,m,n,Z⟩
 rintro d1 d2 d3 ⟨e,rfl,G,y,z,I,J,D⟩
 refine Ch h D (fun a9 h=> ?_) (fun a9 h=> ?_)
 refine Ck (Tc (Cs (Bk (Cg (qM i z (qM (.func (.func 23) #[] #[(pt g2k0 0),(pt g2k1 0),(pt g2k0qk0 0)]) y ?_))))))
 obtain ⟨⟨o,b0,b1⟩,b2,h⟩:=bnd h
 refine WL.f3 (WL.f3 (WL.f3 (WL.f3 ?_)))
 have c:=c.mono ((t.trans k).trans e)
 refine We (callV4 (first:=#[]) (cap:=#[(pt g2k0 0),(pt g2k1 0),(pt g2k0qk0 0)]) co23 Z (Qj2 (⟨a0.b,A,B⟩:QaC) _ _ _ _ _ _ c (o,b0,b1) b2) (Qe3 Z)) Z ?_
 rintro _ c2 _ E ⟨_,⟨rfl,rfl⟩,rfl⟩
 refine WL.a4 (We (buildSliceL (cl:=(l66 o)) underlying24 iz66 Z (Pc (a66_ o) Z Z Pz) Z) Z ?_)
 rintro _ _ _ - ⟨rfl,b3,rfl,rfl⟩
 have c3:OwnS QaG c2 (.slice (some ⟨b3,0,none⟩) 1 1) [o] [(b3, .cells (l66 o).toArray 66 (0,0))]:=OwnS.rows (css:=[(l66 o)]) (Rows.cons (Qd3 (x:=o)) Rows.nil) Z Z
 obtain ⟨b4,h⟩:=Qa1 h
 refine WL.f5 ?_
 have j:=j.mono (e.trans E)
 refine We (append (dd:=QaG) (xs:=C) (ys:=[o]) underlying24 underlying24 in66 Z (appB (by decide) b4) (by decide) Z Z j (c3.src 1 Z)) Z ?_
 rintro b5 _ _ - ⟨rfl,c4,rfl,c5⟩
 refine qa b5 (Wz (Bn (Tc (Cg (qM (Iv f) J (qu (Iv (i64.wrap (f+1))) (add Z Z) (qa (Iv (i64.wrap (f+1))) (Wz (Qa (Dr (WQ.f4 ?_)))))))))))
 exact WQ.f4 (WQ.f4 (WQ.f4 (WQ.again (C++[o],i64.wrap (f+1),b0,b1) (oi h).symm ⟨b5,c4,((k.trans e).trans E),Z,G,y,Z,I,Z,c5⟩)))
 refine WC.exit (WQ.thenE (WQ.leaveE (C,A,B) (oi h).symm (fun S=> ?_)))
 subst S
 have h:=a6
 refine WQ.blockH ?_
 obtain rfl:=oi h
 refine Tj ?_
 have j:=j.mono e
 exact⟨i,q,(k.trans e),Z,z,j⟩
 obtain ⟨a3,N,O⟩:=X
 rintro d4 d5 d6 ⟨g,p,T,rfl,K,b6⟩
 exact Sr (qM g K (qa g (Nt (Cr (Rf h [[(r, .cells #[a,(Iv N),(GV O)] 108 (0,0))],[(g2k0qk0, .cells #[(pt r 0)] 56 (0,0))],[(g2k0, .cells #[(.func (.func 16) #[] #[(pt g2k0qk0 0)])] 59 (0,0))],[(g2k1, .cells #[(.func (.func 18) #[] #[(pt g2k0qk0 0)])] 61 (0,0))],p] Z (Rs Z Z) (t.trans T) ⟨g,p,Z,Z,b6⟩)))))
noncomputable def QcP (a0:QaC) (a2:Int) (g:Int) (l:((List Int)×Int×Int×GErr)):Option (((List Int)×Int×Int×GErr)⊕((List Int)×Int×GErr)):=
 match l with
 |(a,d,e,c)=>
 (((if(decide (d<g))=true then(some c.isNil)else(some false)):Option Bool).bind fun i=>(if i=true then((Qa5 (⟨a0.b,e,c⟩:QaC) a2).bind fun(f,j,k)=>(grd (a.length+[f].length≤274877906944) (some (inl (a++[f],i64.wrap (d+(1:Int)),j,k)))))else(some (inr (a,e,c)))))
noncomputable def QcO (a0:QaC) (a1:Int) (a2:Int):Option ((List Int)×Int×GErr):=
 ((Qa5 a0 a1).bind fun(c,d,e)=>((((iter (QcP a0 a2 c) ([],(0:Int),d,e)).bind (fun(f,g,i)=>(some (f,g,i)))):Option ((List Int)×Int×GErr)).bind fun(j,b,a)=>(if(!a.isNil)=true then(some ([],b,a))else(some (j,b,a)))))
def Qm7 (a0:QaC) (a1:Int) (a2:Int) (a:Value) (d:Nat):((List Int)×Int×GErr)→Value→IM→HL→Prop:=
 fun(e:((List Int)×Int×GErr)) (v:Value) (f:IM) (g:HL)=>match e with |(i,j,k)=>∃ b c,b=v∧g=[[(d, .cells #[a,(.int .i64 j),(GV k)] 108 (0,0))],c]∧OwnS (Kd.int .i64) f b i c
theorem QoX (a0:QaC) (a1:Int) (a2:Int) (M:IM) (c:Value) (j:Nat) (w:RS (Kd.int .u8) M c a0.b) (S:((List Int)×Int×GErr)) (h:QcO a0 a1 a2=some S):
 Tri prog 21 #[(pt j 0),(Iv a1),(Iv a2)] M [[(j, .cells #[c,(Iv a0.at_),(GV a0.err)] 108 (0,0))]] (Qm7 a0 a1 a2 c j S):=by
 unfold QcO at h
 refine Te func21 Z Z ?_
 intro F ρ b5
 refine Sr (qa Zs (Ns (qM (pt j 0) (b5 0) (qM (Iv a1) (b5 1) ?_))))
 obtain ⟨⟨s,b6,b7⟩,T,h⟩:=bnd h
 refine We (Cb co17 (QcD a0 a1 _ _ _ w (s,b6,b7) T) (QaS Z Z)) Z ?_
 rintro _ U _ t ⟨_,⟨rfl,rfl⟩,rfl⟩
 refine WL.a1 (qa (Iv s) (Ns (qa Zs (Nt ?_))))
 obtain ⟨V,W,h⟩:=bnd h
 refine Jf (fun(p_:((List Int)×Int×GErr)) u P X=>match p_ with |(Y,J,B)=>∃ f o,U.le P∧[(j, .cells #[c,(Iv J),(GV B)] 108 (0,0))]::o::F=X∧u 0=(pt j 0)∧u 8=f∧OwnS (Kd.int .i64) P f Y o) V ?_ ?_
 have h:=W
 refine Sr (qa (Iv 0) (Nt (Bk (WC.e0 (WC.f1 ?_)))))
 obtain ⟨c4,a3,a4⟩:=bnd h
 clear h
 refine WC.loop a3 (fun(p_:((List Int)×Int×Int×GErr)) u P X=>match p_ with |(C,e,D,p)=>∃ g q,U.le P∧[(j, .cells #[c,(Iv D),(GV p)] 108 (0,0))]::q::F=X∧u 0=(pt j 0)∧u 2=(Iv a2)∧u 7=(Iv s)∧u 8=g∧u 9=(Iv e)∧OwnS (Kd.int .i64) P g C q) ?_ ?_
 exact⟨Zs,[],lr,Z,(b5 0),(b5 2),Z,Z,Z,(OwnS.nil _ _)⟩
 rintro ⟨C,e,D,p⟩ c5 c6 b9 c7 h ⟨g,q,v,rfl,k,x,l,y,m,i⟩
 unfold QcP at h
 refine Cs ?_
 obtain ⟨Q,a5,h⟩:=bnd h
 refine Jf (fun(Q:Bool) u P X=>b9.le P∧[(j, .cells #[c,(Iv D),(GV p)] 108 (0,0))]::q::F=X∧u 0=(pt j 0)∧u 2=(Iv a2)∧u 7=(Iv s)∧u 8=g∧u 9=(Iv e)∧u 22=(Bv Q)) Q ?_ ?_
 have h:=a5
 refine Cg (qM (Iv e) m (qM (Iv s) l (qu (Bv (decide (e<s))) (lss Z Z) (qm (Bv (decide (e<s))) ?_))))
 rcases Bi h with⟨a,h⟩ |⟨a,h⟩
 refine On 16 Z Z a (qM (pt j 0) k (qo 16 a (pt j 0) (Nk Z) (qo 16 a (pt j 2) (Fa QmL Z Z) (qo 16 a (GV p) (Lb 0 pl31 Z Z Z) (qo 16 a (Bv p.isNil) (errNil underlying31 Z) (qu (Bv p.isNil) (Pt Z a Z) (Wz ?_)))))))
 obtain rfl:=oi h
 exact Tj ⟨lr,Z,k,x,l,y,m,Z⟩
 iterate 5 refine Of 16 Z Z a Z ?_
 refine qu (Bv false) (Pf Z a Z) (Wz ?_)
 obtain rfl:=oi h
 exact Tj ⟨lr,Z,k,x,l,y,m,Z⟩
 rintro c8 c9 d0 ⟨d,rfl,n,z,K,A,L,E⟩
 refine Ch h E (fun a6 h=> ?_) (fun a6 h=> ?_)
 refine Ck (Tc (Cs (Bk (Cg (qM g A (qM (pt j 0) n (qM (Iv a2) z ?_)))))))
 obtain ⟨⟨r,a7,a8⟩,a9,h⟩:=bnd h
 have w:=w.mono ((t.trans v).trans d)
 refine We (Cb co17 (QcD (⟨a0.b,D,p⟩:QaC) a2 _ _ _ w (r,a7,a8) a9) (QaS Z Z)) Z ?_
 rintro _ c0 _ G ⟨_,⟨rfl,rfl⟩,rfl⟩
 refine WL.a1 (We (buildSliceL (cl:=[(Iv r)]) underlying51 iz3 Z (Pc (Iv r) Z Z Pz) Z) Z ?_)
 rintro _ _ _ - ⟨rfl,b0,rfl,rfl⟩
 have c1:OwnS (Kd.int .i64) c0 (.slice (some ⟨b0,0,none⟩) 1 1) [r] [(b0, .cells #[(Iv r)] 3 (0,0))]:=OwnS.rows (css:=[[(Iv r)]]) (Rows.cons Z Rows.nil) Z Z
 obtain ⟨b1,h⟩:=Qa1 h
 refine Wb ?_
 have i:=i.mono (d.trans G)
 refine We (append (dd:=(Kd.int .i64)) (xs:=C) (ys:=[r]) underlying51 underlying51 in3 Z (appB (by decide) b1) (by decide) Z Z i (c1.src 1 Z)) Z ?_
 rintro b2 _ _ - ⟨rfl,c2,rfl,c3⟩
 refine qa b2 (Wz (Bn (Tc (Cg (qM (Iv e) L (qu (Iv (i64.wrap (e+1))) (add Z Z) (qa (Iv (i64.wrap (e+1))) (Wz (Qa (Dr (Qa ?_)))))))))))
 exact WQ.again (C++[r],i64.wrap (e+1),a7,a8) (oi h).symm ⟨b2,c2,((v.trans d).trans G),Z,n,z,K,Z,Z,c3⟩
 refine WC.exit (WQ.thenE (WQ.leaveE (C,D,p) (oi h).symm (fun R=> ?_)))
 subst R
 have h:=a4
 refine WQ.blockH ?_
 obtain rfl:=oi h
 refine Tj ?_
 have i:=i.mono d
 exact⟨g,q,(v.trans d),Z,n,A,i⟩
 obtain ⟨Y,J,B⟩:=V
 rintro d1 d2 d3 ⟨f,o,I,rfl,N,O,b3⟩
 refine Cs (Sr (qM (pt j 0) N (qu (pt j 0) (Nk Z) (qu (pt j 2) (Fa QmL Z Z) (qu (GV B) (Lb 0 pl31 Z Z Z) (qu (Bv (!B.isNil)) (errNotNil underlying31 Z) (Nt (Ch h Z (fun b4 h=> ?_) (fun b4 h=> ?_)))))))))
 exact Sr (qa Zs (Nt (Cr (Tr (WQ.e0 (Qb (Dr (Qa (Rf h [[(j, .cells #[c,(Iv J),(GV B)] 108 (0,0))],[]] Z (Rs Z Z) (t.trans I) ⟨Zs,[],Z,Z,(OwnS.nil _ _)⟩)))))))))
 exact Ck (Tc (Sr (qM f O (qa f (Nt (Cr (Rf h [[(j, .cells #[c,(Iv J),(GV B)] 108 (0,0))],o] Z (Rs Z Z) (t.trans I) ⟨f,o,Z,Z,b3⟩)))))))
noncomputable def QfB (a0q:QaC):Option ((List Int)×Int×GErr):=
 ((QcO a0q (7:Int) (64:Int)).bind fun(a,b,c)=>(some (a,b,c)))
def Qq4 (a0q:QaC) (v0q_0:Value) (c g0q:Nat):((List Int)×Int×GErr)→Value→IM→HL→Prop:=
 fun(d:((List Int)×Int×GErr)) (v:Value) (e:IM) (f:HL)=>match d with |(g,i,j)=>∃ a b,a=v∧f=[[(g0q, .cells #[v0q_0,(.int .i64 i),(GV j)] 108 (0,0))],[(c, .cells #[(.pointer (some ⟨g0q,0,none⟩))] 56 (0,0))],b]∧OwnS (Kd.int .i64) e a g b
theorem QiE (a0q:QaC) (M:IM) (v0q_0:Value) (k g0q:Nat) (h0q_0:RS (Kd.int .u8) M v0q_0 a0q.b) (e:((List Int)×Int×GErr)) (h:QfB a0q=some e):
 Tri prog 20 #[(pt k 0)] M [[(g0q, .cells #[v0q_0,(Iv a0q.at_),(GV a0q.err)] 108 (0,0))],[(k, .cells #[(pt g0q 0)] 56 (0,0))]] (Qq4 a0q v0q_0 k g0q e):=by
 unfold QfB at h
 refine Te func20 Z Z ?_
 intro F o m
 refine Sr (qa Zs (Ns (qu (pt g0q 0) (Lb 1 pl56 (m 0) Z Z) ?_)))
 obtain ⟨⟨l,f,g⟩,i,h⟩:=bnd h
 refine We (Cb co21 (QoX a0q (7:Int) (64:Int) _ _ _ h0q_0 (l,f,g) i) (QcV Z Z Z)) Z ?_
 rintro _ n _ d ⟨_,⟨a,c,rfl,rfl,j⟩,rfl⟩
 exact WL.a2 (qa a (Nt (Cr (Qa (Qb (Qb (Rf h [[(g0q, .cells #[v0q_0,(Iv f),(GV g)] 108 (0,0))],[(k, .cells #[(pt g0q 0)] 56 (0,0))],c] Z (Rs Z Z) d ⟨a,c,Z,Z,j⟩)))))))
noncomputable def QcG (a0qk0q:QaC):Option (QaK×Int×GErr):=
 ((QfB a0qk0q).bind fun(a,c,d)=>((QfB (⟨a0qk0q.b,c,d⟩:QaC)).bind fun(e,f,g)=>((QcS (⟨a0qk0q.b,f,g⟩:QaC)).bind fun(i,j,k)=>((QcS (⟨a0qk0q.b,j,k⟩:QaC)).bind fun(l,m,n)=>((QfB (⟨a0qk0q.b,m,n⟩:QaC)).bind fun(o,p,q)=>((QfB (⟨a0qk0q.b,p,q⟩:QaC)).bind fun(r,s,t)=>(some ((⟨a,e,i,l,o,r⟩:QaK),s,t))))))))
def QjB (a0qk0q:QaC) (v0qk0q_0:Value) (l g0qk0 g0qk0q m:Nat):(QaK×Int×GErr)→Value→IM→HL→Prop:=
 fun(n:(QaK×Int×GErr)) (v:Value) (k:IM) (o:HL)=>match n with |(j,p,q)=>∃ a b c d e f g i,(.agg #[a,c,(.int .i64 j.Leader),(.int .i64 j.Epoch),e,g])=v∧o=[[(g0qk0q, .cells #[v0qk0q_0,(.int .i64 p),(GV q)] 108 (0,0))],[(g0qk0, .cells #[(.pointer (some ⟨g0qk0q,0,none⟩))] 56 (0,0))],[(l, .cells #[(.func (.func 20) #[] #[(.pointer (some ⟨g0qk0,0,none⟩))])] 63 (0,0))],[(m, .cells #[(.func (.func 16) #[] #[(.pointer (some ⟨g0qk0,0,none⟩))])] 59 (0,0))],b,d,f,i]∧OwnS (Kd.int .i64) k a j.Ids b∧OwnS (Kd.int .i64) k c j.Isr d∧OwnS (Kd.int .i64) k e j.Add f∧OwnS (Kd.int .i64) k g j.Drop i
theorem Qj3 (a0qk0q:QaC) (M:IM) (v0qk0q_0:Value) (U g0qk0 g0qk0q V:Nat) (h0qk0q_0:RS (Kd.int .u8) M v0qk0q_0 a0qk0q.b) (y:(QaK×Int×GErr)) (h:QcG a0qk0q=some y):
 Tri prog 25 #[(pt U 0),(pt V 0)] M [[(g0qk0q, .cells (l108 a0qk0q v0qk0q_0).toArray 108 (0,0))],[(g0qk0, .cells #[(pt g0qk0q 0)] 56 (0,0))],[(U, .cells #[(.func (.func 20) #[] #[(pt g0qk0 0)])] 63 (0,0))],[(V, .cells #[(.func (.func 16) #[] #[(pt g0qk0 0)])] 59 (0,0))]] (QjB a0qk0q v0qk0q_0 U g0qk0 g0qk0q V y):=by
 unfold QcG at h
 refine Te func25 Z Z ?_
 intro F ρ f
 refine Sr (We (Al ze53 Z) Z ?_)
 rintro _ _ _ - ⟨rfl,a1,rfl,rfl⟩
 refine Nt (Cs (WC.draw [0,1,0,7,0,31,0,127,0,511,0,2047,4095,8191] (.pure 0 (.pure 2 (.pure 4 (.pure 6 (.pure 8 (.pure 10 (.alt 1 (.alt 3 (.alt 5 (.alt 7 (.alt 9 (.alt 11 (.pure 12 (.alt 13 .done .none)) .none) .none) .none) .none) .none) .none))))))) Qc3 (by kernel_rfl) (qt (.func (.func 20) #[] #[(pt g0qk0 0)]) Z (Lb 3 pl63 (f 0) Z Z) (qt (.func (.func 20) #[] #[(pt g0qk0 0)]) Z (Lb 3 pl63 (f 0) Z Z) (qt (.func (.func 16) #[] #[(pt g0qk0 0)]) Z (Lb 4 pl59 (f 1) Z Z) (qt (.func (.func 16) #[] #[(pt g0qk0 0)]) Z (Lb 4 pl59 (f 1) Z Z) (qt (.func (.func 20) #[] #[(pt g0qk0 0)]) Z (Lb 3 pl63 (f 0) Z Z) (qt (.func (.func 20) #[] #[(pt g0qk0 0)]) Z (Lb 3 pl63 (f 0) Z Z) ?_))))))))
 obtain ⟨⟨W,z,A⟩,B,h⟩:=bnd h
 refine WT.f2 (WT.f2 (Ta Z (callV2 (first:=#[]) (cap:=#[(pt g0qk0 0)]) co20 Z (QiE a0qk0q _ _ _ _ h0qk0q_0 (W,z,A) B) (Qe3 Z)) Z ?_ ?_))
 rintro _ a4 _ r ⟨_,⟨a,t,rfl,rfl,l⟩,rfl⟩
 refine⟨(Ss Z (Lb 4 pl63 (f 0) Z Z) Z (Ss Z (Lb 4 pl63 (f 0) Z Z) Z (Ss Z (Lb 5 pl59 (f 1) Z Z) Z (Ss Z (Lb 5 pl59 (f 1) Z Z) Z (Ss Z (Lb 4 pl63 (f 0) Z Z) Z (Sl Z)))))), ?_⟩
 refine WT.a3 ?_
 obtain ⟨⟨X,C,D⟩,E,h⟩:=bnd h
 refine WT.f1 (WT.f1 ?_)
 have h0qk0q_0:=h0qk0q_0.mono r
 refine Ta Z (callV2 (first:=#[]) (cap:=#[(pt g0qk0 0)]) co20 Z (QiE (⟨a0qk0q.b,z,A⟩:QaC) _ _ _ _ h0qk0q_0 (X,C,D) E) (Qe3 Z)) Z ?_ ?_
 rintro _ a5 _ q ⟨_,⟨c,u,rfl,rfl,m⟩,rfl⟩
 refine⟨(Ss Z (Lb 5 pl63 (f 0) Z Z) Z (Ss Z (Lb 5 pl63 (f 0) Z Z) Z (Ss Z (Lb 6 pl59 (f 1) Z Z) Z (Ss Z (Lb 6 pl59 (f 1) Z Z) Z (Sl Z))))), ?_⟩
 refine WT.a3 ?_
 obtain ⟨⟨n,G,I⟩,J,h⟩:=bnd h
 refine WT.f1 (WT.f1 ?_)
 have h0qk0q_0:=h0qk0q_0.mono q
 refine Ta Z (callV2 (first:=#[]) (cap:=#[(pt g0qk0 0)]) co16 Z (QcW (⟨a0qk0q.b,C,D⟩:QaC) _ _ _ _ h0qk0q_0 (n,G,I) J) (Qe3 Z)) Z ?_ ?_
 rintro _ a6 _ g ⟨_,⟨rfl,rfl⟩,rfl⟩
 refine⟨(Ss Z (Lb 5 pl63 (f 0) Z Z) Z (Ss Z (Lb 5 pl63 (f 0) Z Z) Z (Ss Z (Lb 6 pl59 (f 1) Z Z) Z (Sl Z)))), ?_⟩
 refine WT.a2 ?_
 obtain ⟨⟨o,K,L⟩,N,h⟩:=bnd h
 refine WT.f1 (WT.f1 ?_)
 have h0qk0q_0:=h0qk0q_0.mono g
 refine Ta Z (callV2 (first:=#[]) (cap:=#[(pt g0qk0 0)]) co16 Z (QcW (⟨a0qk0q.b,G,I⟩:QaC) _ _ _ _ h0qk0q_0 (o,K,L) N) (Qe3 Z)) Z ?_ ?_
 rintro _ a7 _ i ⟨_,⟨rfl,rfl⟩,rfl⟩
 refine⟨(Ss Z (Lb 5 pl63 (f 0) Z Z) Z (Ss Z (Lb 5 pl63 (f 0) Z Z) Z (Sl Z))), ?_⟩
 refine WT.a2 ?_
 obtain ⟨⟨Y,O,P⟩,Q,h⟩:=bnd h
 refine WT.f1 (WT.f1 ?_)
 have h0qk0q_0:=h0qk0q_0.mono i
 refine Ta Z (callV2 (first:=#[]) (cap:=#[(pt g0qk0 0)]) co20 Z (QiE (⟨a0qk0q.b,K,L⟩:QaC) _ _ _ _ h0qk0q_0 (Y,O,P) Q) (Qe3 Z)) Z ?_ ?_
 rintro _ a8 _ j ⟨_,⟨d,w,rfl,rfl,p⟩,rfl⟩
 refine⟨(Ss Z (Lb 6 pl63 (f 0) Z Z) Z (Sl Z)), ?_⟩
 refine WT.a3 ?_
 obtain ⟨⟨a0,R,S⟩,T,h⟩:=bnd h
 refine WT.f1 (WT.f1 ?_)
 have h0qk0q_0:=h0qk0q_0.mono j
 refine Ta Z (callV2 (first:=#[]) (cap:=#[(pt g0qk0 0)]) co20 Z (QiE (⟨a0qk0q.b,O,P⟩:QaC) _ _ _ _ h0qk0q_0 (a0,R,S) T) (Qe3 Z)) Z ?_ ?_
 rintro _ a9 _ k ⟨_,⟨e,x,rfl,rfl,s⟩,rfl⟩
 refine⟨(Sl Z), ?_⟩
 refine WT.a3 ?_
 have l:=l.mono ((((q.trans g).trans i).trans j).trans k)
 have m:=m.mono (((g.trans i).trans j).trans k)
 have p:=p.mono k
 refine qt (.agg #[a,c,(Iv n),(Iv o),d,e]) Z (Bl (cl:=[a,c,(Iv n),(Iv o),d,e]) ze53 fp53 (Parts.cons ((congrArg Value.cells (show ev _ _=a from Z)).trans l.cells) (Parts.cons ((congrArg Value.cells (show ev _ _=c from Z)).trans m.cells) (Pc (Iv n) Z Z (Pc (Iv o) Z Z (Parts.cons ((congrArg Value.cells (show ev _ _=d from Z)).trans p.cells) (Parts.cons ((congrArg Value.cells (show ev _ _=e from Z)).trans s.cells) Pz)))))) Z) (WT.f6 (Ta Z (Sg (v:=(.agg #[a,c,(Iv n),(Iv o),d,e])) (vl:=[a,c,(Iv n),(Iv o),d,e]) (arr':=[a,c,(Iv n),(Iv o),d,e]) Z sz53 Z Z (QaX (Oc (Ow l) (Oc (Ow m) (Oc Z (Oc Z (Oc (Ow p) (Oc (Ow s) Oz))))))) Z Z Z) Z ?_ ?_))
 rintro _ _ _ - ⟨rfl,rfl⟩
 refine⟨(Sl Z), ?_⟩
 refine Ti (Tc (Cr (WQ.f3 (WQ.f4 (WQ.f5 (WQ.f6 (WQ.f8 (WQ.f8 (WQ.f8 (WQ.f8 (WQ.f8 ?_)))))))))))
 exact Rd h [[(g0qk0q, .cells #[v0qk0q_0,(Iv R),(GV S)] 108 (0,0))],[(g0qk0, .cells #[(pt g0qk0q 0)] 56 (0,0))],[(U, .cells #[(.func (.func 20) #[] #[(pt g0qk0 0)])] 63 (0,0))],[(V, .cells #[(.func (.func 16) #[] #[(pt g0qk0 0)])] 59 (0,0))],t,u,w,x] (fun _ hs=>hs.drop) (QbA Z (Rc (cs:=[a,c,(Iv n),(Iv o),d,e]) 0 ag53 sz53 Z Z Z)) (((((r.trans q).trans g).trans i).trans j).trans k) ⟨a,t,c,u,d,w,e,x,Z,Z,l,m,p,s⟩
 exact Tz
 exact Tz
 exact Tz
 exact Tz
 exact Tz
 exact Tz
 exact Tz
noncomputable def QbS (a0:QaC) (g:Int) (m:((List QaK)×Int×Int×GErr)):Option (((List QaK)×Int×Int×GErr)⊕((List QaK)×Int×GErr)):=
 match m with
 |(a,e,c,d)=>
 (((if(decide (e<g))=true then((QdS (⟨a0.b,c,d⟩:QaC)).bind fun i=>(some i.isNil))else(some false)):Option Bool).bind fun j=>(if j=true then((QcG (⟨a0.b,c,d⟩:QaC)).bind fun(f,k,l)=>(grd (a.length+[f].length≤274877906944) (some (inl (a++[f],i64.wrap (e+(1:Int)),k,l)))))else(some (inr (a,c,d)))))
noncomputable def Qb0 (a0:QaC) (a1:Int):Option ((List QaK)×Int×GErr):=
 ((Qa5 a0 a1).bind fun(a,b,c)=>((((iter (QbS a0 a) ([],(0:Int),b,c)).bind (fun(d,e,f)=>(some (d,e,f)))):Option ((List QaK)×Int×GErr)).bind fun(g,i,j)=>(some (g,i,j))))
def QfR (a0:QaC) (a1:Int) (a:Value) (d g2k0 g2k0qk0 g2k1:Nat):((List QaK)×Int×GErr)→Value→IM→HL→Prop:=
 fun(e:((List QaK)×Int×GErr)) (v:Value) (f:IM) (g:HL)=>match e with |(i,j,k)=>∃ b c,b=v∧g=[[(d, .cells #[a,(.int .i64 j),(GV k)] 108 (0,0))],[(g2k0qk0, .cells #[(.pointer (some ⟨d,0,none⟩))] 56 (0,0))],[(g2k0, .cells #[(.func (.func 20) #[] #[(.pointer (some ⟨g2k0qk0,0,none⟩))])] 63 (0,0))],[(g2k1, .cells #[(.func (.func 16) #[] #[(.pointer (some ⟨g2k0qk0,0,none⟩))])] 59 (0,0))],c]∧OwnS QbD f b i c
theorem Qf7 (a0:QaC) (a1:Int) (M:IM) (f:Value) (D g2k0 g2k0qk0 g2k1:Nat) (g:RS (Kd.int .u8) M f a0.b) (b7:((List QaK)×Int×GErr)) (h:Qb0 a0 a1=some b7):
 Tri prog 28 #[(pt D 0),(Iv a1),(.func (.func 25) #[] #[(pt g2k0 0),(pt g2k1 0)])] M [[(D, .cells #[f,(Iv a0.at_),(GV a0.err)] 108 (0,0))],[(g2k0qk0, .cells #[(pt D 0)] 56 (0,0))],[(g2k0, .cells #[(.func (.func 20) #[] #[(pt g2k0qk0 0)])] 63 (0,0))],[(g2k1, .cells #[(.func (.func 16) #[] #[(pt g2k0qk0 0)])] 59 (0,0))]] (QfR a0 a1 f D g2k0 g2k0qk0 g2k1 b7):=by
 unfold Qb0 at h
 refine Te func28 Z Z ?_
 intro F ρ d7
 refine Sr (qa Zs (Ns (qa Zs (Ns (qM (pt D 0) (d7 0) (qM (Iv a1) (d7 1) ?_))))))
 obtain ⟨⟨E,d8,d9⟩,b8,h⟩:=bnd h
 refine We (Cb co17 (QcD a0 a1 _ _ _ g (E,d8,d9) b8) (QaS Z Z)) Z ?_
 rintro _ b9 _ G ⟨_,⟨rfl,rfl⟩,rfl⟩
 refine WL.a1 (qa (Iv E) (Nt ?_))
 obtain ⟨c0,c1,h⟩:=bnd h
 refine Jf (fun(p_:((List QaK)×Int×GErr)) I M' H'=>match p_ with |(c3,b0,b1)=>∃ p B,b9.le M'∧[(D, .cells #[f,(Iv b0),(GV b1)] 108 (0,0))]::[(g2k0qk0, .cells #[(pt D 0)] 56 (0,0))]::[(g2k0, .cells #[(.func (.func 20) #[] #[(pt g2k0qk0 0)])] 63 (0,0))]::[(g2k1, .cells #[(.func (.func 16) #[] #[(pt g2k0qk0 0)])] 59 (0,0))]::B::F=H'∧I 7=p∧OwnS QbD M' p c3 B) c0 ?_ ?_
 have h:=c1
 refine Sr (qa (Iv 0) (Nt (Bk (WC.e0 (WC.f4 (WC.f4 (WC.f4 (WC.f4 ?_))))))))
 obtain ⟨e7,c4,c5⟩:=bnd h
 clear h
 refine WC.loop c4 (fun(p_:((List QaK)×Int×Int×GErr)) I M' H'=>match p_ with |(Q,o,O,P)=>∃ q C,b9.le M'∧[(D, .cells #[f,(Iv O),(GV P)] 108 (0,0))]::[(g2k0qk0, .cells #[(pt D 0)] 56 (0,0))]::[(g2k0, .cells #[(.func (.func 20) #[] #[(pt g2k0qk0 0)])] 63 (0,0))]::[(g2k1, .cells #[(.func (.func 16) #[] #[(pt g2k0qk0 0)])] 59 (0,0))]::C::F=H'∧I 0=(pt D 0)∧I 2=(.func (.func 25) #[] #[(pt g2k0 0),(pt g2k1 0)])∧I 7=q∧I 8=(Iv E)∧I 9=(Iv o)∧OwnS QbD M' q Q C) ?_ ?_
 exact⟨Zs,[],lr,Z,(d7 0),(d7 2),Z,Z,Z,(OwnS.nil _ _)⟩
 rintro ⟨Q,o,O,P⟩ e8 e9 e2 f0 h ⟨q,C,s,rfl,t,J,K,u,v,r⟩
 unfold QbS at h
 refine Cs ?_
 obtain ⟨b2,c6,h⟩:=bnd h
 refine Jf (fun(b2:Bool) I M' H'=>e2.le M'∧[(D, .cells #[f,(Iv O),(GV P)] 108 (0,0))]::[(g2k0qk0, .cells #[(pt D 0)] 56 (0,0))]::[(g2k0, .cells #[(.func (.func 20) #[] #[(pt g2k0qk0 0)])] 63 (0,0))]::[(g2k1, .cells #[(.func (.func 16) #[] #[(pt g2k0qk0 0)])] 59 (0,0))]::C::F=H'∧I 0=(pt D 0)∧I 2=(.func (.func 25) #[] #[(pt g2k0 0),(pt g2k1 0)])∧I 7=q∧I 8=(Iv E)∧I 9=(Iv o)∧I 20=(Bv b2)) b2 ?_ ?_
 have h:=c6
 refine Cg (qM (Iv o) v (qM (Iv E) u (qu (Bv (decide (o<E))) (lss Z Z) (qm (Bv (decide (o<E))) ?_))))
 rcases Bi h with⟨i,h⟩ |⟨i,h⟩
 refine On 16 Z Z i (qM (pt D 0) t (On 16 Z Z i ?_))
 obtain ⟨b3,c7,h⟩:=bnd h
 have g:=g.mono (G.trans s)
 refine We (Cb co58 (Qd8 (⟨a0.b,O,P⟩:QaC) _ _ _ g b3 c7) (Qb2 Z)) Z ?_
 rintro _ f1 _ b4 ⟨_,⟨rfl,rfl⟩,rfl⟩
 refine WL.a1 (qo 16 i (Bv b3.isNil) (errNil underlying31 Z) (qu (Bv b3.isNil) (Pt Z i Z) (Wz ?_)))
 obtain rfl:=oi h
 exact Tj ⟨b4,Z,t,J,K,u,v,Z⟩
 iterate 3 refine Of 16 Z Z i Z ?_
 refine qu (Bv false) (Pf Z i Z) (Wz ?_)
 obtain rfl:=oi h
 exact Tj ⟨lr,Z,t,J,K,u,v,Z⟩
 rintro f2 f6 f7 ⟨j,rfl,W,L,N,X,Y,R⟩
 refine Ch h R (fun c8 h=> ?_) (fun c8 h=> ?_)
 refine Ck (Tc (Cs (Bk (Cg (qM q N (qM (.func (.func 25) #[] #[(pt g2k0 0),(pt g2k1 0)]) L ?_))))))
 obtain ⟨⟨w,c9,d0⟩,d1,h⟩:=bnd h
 refine WL.f3 (WL.f3 (WL.f3 (WL.f3 ?_)))
 have g:=g.mono ((G.trans s).trans j)
 refine We (callV4 (first:=#[]) (cap:=#[(pt g2k0 0),(pt g2k1 0)]) co25 Z (Qj3 (⟨a0.b,O,P⟩:QaC) _ _ _ _ _ _ g (w,c9,d0) d1) (Qe3 Z)) Z ?_
 rintro _ e3 _ S ⟨_,⟨a,a2,c,a3,d,a4,e,a5,rfl,rfl,a6,y,z,A⟩,rfl⟩
 refine WL.a8 (WL.f4 (WL.know (fun _ hs=>a6.rs hs) (fun T=> ?_)))
 refine WL.freeze (fun k=> ?_)
 refine WL.f4 ?_
 have y:=y.mono k
 refine WL.know (fun _ hs=>y.rs hs) (fun U=> ?_)
 refine WL.freeze (fun l=> ?_)
 refine WL.f4 ?_
 have z:=z.mono (k.trans l)
 refine WL.know (fun _ hs=>z.rs hs) (fun V=> ?_)
 refine WL.freeze (fun m=> ?_)
 refine WL.f4 ?_
 have A:=A.mono ((k.trans l).trans m)
 refine WL.know (fun _ hs=>A.rs hs) (fun d2=> ?_)
 refine WL.freeze (fun n=> ?_)
 refine We (buildSliceL (cl:=(l53 w a c d e)) underlying48 iz53 Z (Pc (a53_ w a c d e) Z Z Pz) Z) Z ?_
 rintro _ _ _ - ⟨rfl,d3,rfl,rfl⟩
 have T:=T.mono ((l.trans m).trans n)
 have U:=U.mono (m.trans n)
 have V:=V.mono n
 have e4:OwnS QbD ((((e3.add a2).add a3).add a4).add a5) (.slice (some ⟨d3,0,none⟩) 1 1) [w] [(d3, .cells (l53 w a c d e).toArray 53 (0,0))]:=OwnS.rows (css:=[(l53 w a c d e)]) (Rows.cons (QlN (x:=w) T U V d2) Rows.nil) Z Z
 obtain ⟨d4,h⟩:=Qa1 h
 refine WL.f5 ?_
 have r:=r.mono (((((j.trans S).trans k).trans l).trans m).trans n)
 refine We (append (dd:=QbD) (xs:=Q) (ys:=[w]) underlying48 underlying48 in53 Z (appB (by decide) d4) (by decide) Z Z r (e4.src 1 Z)) Z ?_
 rintro d5 _ _ - ⟨rfl,e5,rfl,e6⟩
 refine qa d5 (Wz (Bn (Tc (Cg (qM (Iv o) Y (qu (Iv (i64.wrap (o+1))) (add Z Z) (qa (Iv (i64.wrap (o+1))) (Wz (Qa (Dr (WQ.f4 ?_)))))))))))
 exact WQ.f4 (WQ.f4 (WQ.f4 (WQ.again (Q++[w],i64.wrap (o+1),c9,d0) (oi h).symm ⟨d5,e5,((((((s.trans j).trans S).trans k).trans l).trans m).trans n),Z,W,L,Z,X,Z,e6⟩)))
 refine WC.exit (WQ.thenE (WQ.leaveE (Q,O,P) (oi h).symm (fun b5=> ?_)))
 subst b5
 have h:=c5
 refine WQ.blockH ?_
 obtain rfl:=oi h
 refine Tj ?_
 have r:=r.mono j
 exact⟨q,C,(s.trans j),Z,N,r⟩
 obtain ⟨c3,b0,b1⟩:=c0
 rintro f8 f9 g1 ⟨p,B,b6,rfl,a7,d6⟩
 exact Sr (qM p a7 (qa p (Nt (Cr (Rf h [[(D, .cells #[f,(Iv b0),(GV b1)] 108 (0,0))],[(g2k0qk0, .cells #[(pt D 0)] 56 (0,0))],[(g2k0, .cells #[(.func (.func 20) #[] #[(pt g2k0qk0 0)])] 63 (0,0))],[(g2k1, .cells #[(.func (.func 16) #[] #[(pt g2k0qk0 0)])] 59 (0,0))],B] Z (Rs Z Z) (G.trans b6) ⟨p,B,Z,Z,d6⟩)))))
noncomputable def QbC (a0qk0q:QaC):Option (QaE×Int×GErr):=
 ((QcS a0qk0q).bind fun(a,c,d)=>((QgC (⟨a0qk0q.b,c,d⟩:QaC)).bind fun(e,f,g)=>((Qb0 (⟨a0qk0q.b,f,g⟩:QaC) (256:Int)).bind fun(i,j,k)=>(some ((⟨a,e,i⟩:QaE),j,k)))))
def QfS (a0qk0q:QaC) (v0qk0q_0:Value) (d g0qk0 g0qk0q e f g3qk0:Nat):(QaE×Int×GErr)→Value→IM→HL→Prop:=
 fun(g:(QaE×Int×GErr)) (v:Value) (i:IM) (j:HL)=>match g with |(c,k,l)=>∃ a b,(.agg #[(.int .i64 c.Id),(.string c.Name),a])=v∧j=[[(g0qk0q, .cells #[v0qk0q_0,(.int .i64 k),(GV l)] 108 (0,0))],[(g0qk0, .cells #[(.pointer (some ⟨g0qk0q,0,none⟩))] 56 (0,0))],[(d, .cells #[(.func (.func 16) #[] #[(.pointer (some ⟨g0qk0,0,none⟩))])] 59 (0,0))],[(e, .cells #[(.func (.func 18) #[] #[(.pointer (some ⟨g0qk0,0,none⟩))])] 61 (0,0))],[(g3qk0, .cells #[(.func (.func 20) #[] #[(.pointer (some ⟨g0qk0,0,none⟩))])] 63 (0,0))],[(f, .cells #[(.func (.func 25) #[] #[(.pointer (some ⟨g3qk0,0,none⟩)),(.pointer (some ⟨d,0,none⟩))])] 68 (0,0))],b]∧OwnS QbD i a c.Parts b
theorem Qf8 (a0qk0q:QaC) (M:IM) (v0qk0q_0:Value) (k g0qk0 g0qk0q x y g3qk0:Nat) (h0qk0q_0:RS (Kd.int .u8) M v0qk0q_0 a0qk0q.b) (m:(QaE×Int×GErr)) (h:QbC a0qk0q=some m):
 Tri prog 27 #[(pt k 0),(pt x 0),(pt g0qk0 0),(pt y 0)] M [[(g0qk0q, .cells (l108 a0qk0q v0qk0q_0).toArray 108 (0,0))],[(g0qk0, .cells #[(pt g0qk0q 0)] 56 (0,0))],[(k, .cells #[(.func (.func 16) #[] #[(pt g0qk0 0)])] 59 (0,0))],[(x, .cells #[(.func (.func 18) #[] #[(pt g0qk0 0)])] 61 (0,0))],[(g3qk0, .cells #[(.func (.func 20) #[] #[(pt g0qk0 0)])] 63 (0,0))],[(y, .cells #[(.func (.func 25) #[] #[(pt g3qk0 0),(pt k 0)])] 68 (0,0))]] (QfS a0qk0q v0qk0q_0 k g0qk0 g0qk0q x y g3qk0 m):=by
 unfold QbC at h
 refine Te func27 Z Z ?_
 intro F E i
 refine Sr (We (Al ze50 Z) Z ?_)
 rintro _ _ _ - ⟨rfl,A,rfl,rfl⟩
 refine Nt (Cs (WC.draw [0,1,0,7,0,0,63,127,255] (.pure 0 (.pure 2 (.pure 4 (.pure 5 (.alt 1 (.alt 3 (.alt 6 (.pure 7 (.alt 8 .done .none)) .none) .none) .none))))) Qc3 (by kernel_rfl) (qt (.func (.func 16) #[] #[(pt g0qk0 0)]) Z (Lb 3 pl59 (i 0) Z Z) (qt (.func (.func 18) #[] #[(pt g0qk0 0)]) Z (Lb 4 pl61 (i 1) Z Z) (qt (pt g0qk0q 0) Z (Lb 2 pl56 (i 2) Z Z) (qt (.func (.func 25) #[] #[(pt g3qk0 0),(pt k 0)]) Z (Lb 6 pl68 (i 3) Z Z) ?_))))))
 obtain ⟨⟨c,n,o⟩,p,h⟩:=bnd h
 refine WT.f2 (WT.f2 (Ta Z (callV2 (first:=#[]) (cap:=#[(pt g0qk0 0)]) co16 Z (QcW a0qk0q _ _ _ _ h0qk0q_0 (c,n,o) p) (Qe3 Z)) Z ?_ ?_))
 rintro _ B _ e ⟨_,⟨rfl,rfl⟩,rfl⟩
 refine⟨(Ss Z (Lb 6 pl68 (i 3) Z Z) Z (Ss Z (Lb 1 pl56 (i 2) Z Z) Z (Ss Z (Lb 4 pl61 (i 1) Z Z) Z (Sl Z)))), ?_⟩
 refine WT.a2 ?_
 obtain ⟨⟨d,q,r⟩,s,h⟩:=bnd h
 refine WT.f1 (WT.f1 ?_)
 have h0qk0q_0:=h0qk0q_0.mono e
 refine Ta Z (callV2 (first:=#[]) (cap:=#[(pt g0qk0 0)]) co18 Z (QkE (⟨a0qk0q.b,n,o⟩:QaC) _ _ _ _ h0qk0q_0 (d,q,r) s) (Qe3 Z)) Z ?_ ?_
 rintro _ C _ f ⟨_,⟨rfl,rfl⟩,rfl⟩
 refine⟨(Ss Z (Lb 6 pl68 (i 3) Z Z) Z (Ss Z (Lb 1 pl56 (i 2) Z Z) Z (Sl Z))), ?_⟩
 refine WT.a2 ?_
 obtain ⟨⟨z,t,u⟩,w,h⟩:=bnd h
 refine WT.f3 (WT.f5 (WT.f3 (WT.f3 ?_)))
 have h0qk0q_0:=h0qk0q_0.mono f
 refine Ta Z (EO.call4 co28 (Qf7 (⟨a0qk0q.b,q,r⟩:QaC) (256:Int) _ _ _ _ _ _ h0qk0q_0 (z,t,u) w) (QcV Z Z Z)) Z ?_ ?_
 rintro _ D _ l ⟨_,⟨a,j,rfl,rfl,g⟩,rfl⟩
 refine⟨(Sl Z), ?_⟩
 refine WT.a5 (qt (.agg #[(Iv c),(Sv d),a]) Z (Bl (cl:=[(Iv c),(Sv d),a]) ze50 fp50 (Pc (Iv c) Z Z (Pc (Sv d) Z Z (Parts.cons ((congrArg Value.cells (show ev _ _=a from Z)).trans g.cells) Pz))) Z) (WT.f5 (Ta Z (Sg (v:=(.agg #[(Iv c),(Sv d),a])) (vl:=[(Iv c),(Sv d),a]) (arr':=[(Iv c),(Sv d),a]) Z sz50 Z Z (QaX (Oc Z (Oc Z (Oc (Ow g) Oz)))) Z Z Z) Z ?_ ?_)))
 rintro _ _ _ - ⟨rfl,rfl⟩
 refine⟨(Sl Z), ?_⟩
 exact Ti (Tc (Cr (WQ.f5 (WQ.f7 (WQ.f5 (WQ.f7 (WQ.f7 (WQ.f7 (WQ.f7 (WQ.f7 (Rd h [[(g0qk0q, .cells #[v0qk0q_0,(Iv t),(GV u)] 108 (0,0))],[(g0qk0, .cells #[(pt g0qk0q 0)] 56 (0,0))],[(k, .cells #[(.func (.func 16) #[] #[(pt g0qk0 0)])] 59 (0,0))],[(x, .cells #[(.func (.func 18) #[] #[(pt g0qk0 0)])] 61 (0,0))],[(g3qk0, .cells #[(.func (.func 20) #[] #[(pt g0qk0 0)])] 63 (0,0))],[(y, .cells #[(.func (.func 25) #[] #[(pt g3qk0 0),(pt k 0)])] 68 (0,0))],j] (fun _ hs=>hs.drop) (QbA Z (Rc (cs:=[(Iv c),(Sv d),a]) 0 ag50 sz50 Z Z Z)) ((e.trans f).trans l) ⟨a,j,Z,Z,g⟩)))))))))))
 exact Tz
 exact Tz
 exact Tz
 exact Tz
noncomputable def Qa6 (a0:QaC) (g:Int) (m:((List QaE)×Int×Int×GErr)):Option (((List QaE)×Int×Int×GErr)⊕((List QaE)×Int×GErr)):=
 match m with
 |(a,e,c,d)=>
 (((if(decide (e<g))=true then((QdS (⟨a0.b,c,d⟩:QaC)).bind fun i=>(some i.isNil))else(some false)):Option Bool).bind fun j=>(if j=true then((QbC (⟨a0.b,c,d⟩:QaC)).bind fun(f,k,l)=>(grd (a.length+[f].length≤274877906944) (some (inl (a++[f],i64.wrap (e+(1:Int)),k,l)))))else(some (inr (a,c,d)))))
noncomputable def Qa0 (a0:QaC) (a1:Int):Option ((List QaE)×Int×GErr):=
 ((Qa5 a0 a1).bind fun(a,b,c)=>((((iter (Qa6 a0 a) ([],(0:Int),b,c)).bind (fun(d,e,f)=>(some (d,e,f)))):Option ((List QaE)×Int×GErr)).bind fun(g,i,j)=>(some (g,i,j))))
def QdN (a0:QaC) (a1:Int) (a:Value) (d g2k0 g2k0qk0 g2k1 g2k3 g2k3qk0:Nat):((List QaE)×Int×GErr)→Value→IM→HL→Prop:=
 fun(e:((List QaE)×Int×GErr)) (v:Value) (f:IM) (g:HL)=>match e with |(i,j,k)=>∃ b c,b=v∧g=[[(d, .cells #[a,(.int .i64 j),(GV k)] 108 (0,0))],[(g2k0qk0, .cells #[(.pointer (some ⟨d,0,none⟩))] 56 (0,0))],[(g2k0, .cells #[(.func (.func 16) #[] #[(.pointer (some ⟨g2k0qk0,0,none⟩))])] 59 (0,0))],[(g2k1, .cells #[(.func (.func 18) #[] #[(.pointer (some ⟨g2k0qk0,0,none⟩))])] 61 (0,0))],[(g2k3qk0, .cells #[(.func (.func 20) #[] #[(.pointer (some ⟨g2k0qk0,0,none⟩))])] 63 (0,0))],[(g2k3, .cells #[(.func (.func 25) #[] #[(.pointer (some ⟨g2k3qk0,0,none⟩)),(.pointer (some ⟨g2k0,0,none⟩))])] 68 (0,0))],c]∧OwnS QaI f b i c
theorem QdT (a0:QaC) (a1:Int) (M:IM) (c:Value) (s g2k0 g2k0qk0 g2k1 g2k3 g2k3qk0:Nat) (d:RS (Kd.int .u8) M c a0.b) (Y:((List QaE)×Int×GErr)) (h:Qa0 a0 a1=some Y):
 Tri prog 26 #[(pt s 0),(Iv a1),(.func (.func 27) #[] #[(pt g2k0 0),(pt g2k1 0),(pt g2k0qk0 0),(pt g2k3 0)])] M [[(s, .cells #[c,(Iv a0.at_),(GV a0.err)] 108 (0,0))],[(g2k0qk0, .cells #[(pt s 0)] 56 (0,0))],[(g2k0, .cells #[(.func (.func 16) #[] #[(pt g2k0qk0 0)])] 59 (0,0))],[(g2k1, .cells #[(.func (.func 18) #[] #[(pt g2k0qk0 0)])] 61 (0,0))],[(g2k3qk0, .cells #[(.func (.func 20) #[] #[(pt g2k0qk0 0)])] 63 (0,0))],[(g2k3, .cells #[(.func (.func 25) #[] #[(pt g2k3qk0 0),(pt g2k0 0)])] 68 (0,0))]] (QdN a0 a1 c s g2k0 g2k0qk0 g2k1 g2k3 g2k3qk0 Y):=by
 unfold Qa0 at h
 refine Te func26 Z Z ?_
 intro F ρ c2
 refine Sr (qa Zs (Ns (qa Zs (Ns (qM (pt s 0) (c2 0) (qM (Iv a1) (c2 1) ?_))))))
 obtain ⟨⟨t,c3,c4⟩,a2,h⟩:=bnd h
 refine We (Cb co17 (QcD a0 a1 _ _ _ d (t,c3,c4) a2) (QaS Z Z)) Z ?_
 rintro _ a3 _ u ⟨_,⟨rfl,rfl⟩,rfl⟩
 refine WL.a1 (qa (Iv t) (Nt ?_))
 obtain ⟨a4,a5,h⟩:=bnd h
 refine Jf (fun(p_:((List QaE)×Int×GErr)) v Q H'=>match p_ with |(a8,R,S)=>∃ i q,a3.le Q∧[(s, .cells #[c,(Iv R),(GV S)] 108 (0,0))]::[(g2k0qk0, .cells #[(pt s 0)] 56 (0,0))]::[(g2k0, .cells #[(.func (.func 16) #[] #[(pt g2k0qk0 0)])] 59 (0,0))]::[(g2k1, .cells #[(.func (.func 18) #[] #[(pt g2k0qk0 0)])] 61 (0,0))]::[(g2k3qk0, .cells #[(.func (.func 20) #[] #[(pt g2k0qk0 0)])] 63 (0,0))]::[(g2k3, .cells #[(.func (.func 25) #[] #[(pt g2k3qk0 0),(pt g2k0 0)])] 68 (0,0))]::q::F=H'∧v 7=i∧OwnS QaI Q i a8 q) a4 ?_ ?_
 have h:=a5
 refine Sr (qa (Iv 0) (Nt (Bk (WC.e0 (WC.f6 (WC.f6 (WC.f6 (WC.f6 (WC.f6 (WC.f6 ?_))))))))))
 obtain ⟨d1,a9,b0⟩:=bnd h
 clear h
 refine WC.loop a9 (fun(p_:((List QaE)×Int×Int×GErr)) v Q H'=>match p_ with |(D,g,B,C)=>∃ j r,a3.le Q∧[(s, .cells #[c,(Iv B),(GV C)] 108 (0,0))]::[(g2k0qk0, .cells #[(pt s 0)] 56 (0,0))]::[(g2k0, .cells #[(.func (.func 16) #[] #[(pt g2k0qk0 0)])] 59 (0,0))]::[(g2k1, .cells #[(.func (.func 18) #[] #[(pt g2k0qk0 0)])] 61 (0,0))]::[(g2k3qk0, .cells #[(.func (.func 20) #[] #[(pt g2k0qk0 0)])] 63 (0,0))]::[(g2k3, .cells #[(.func (.func 25) #[] #[(pt g2k3qk0 0),(pt g2k0 0)])] 68 (0,0))]::r::F=H'∧v 0=(pt s 0)∧v 2=(.func (.func 27) #[] #[(pt g2k0 0),(pt g2k1 0),(pt g2k0qk0 0),(pt g2k3 0)])∧v 7=j∧v 8=(Iv t)∧v 9=(Iv g)∧OwnS QaI Q j D r) ?_ ?_
 exact⟨Zs,[],lr,Z,(c2 0),(c2 2),Z,Z,Z,(OwnS.nil _ _)⟩
 rintro ⟨D,g,B,C⟩ d2 d3 c6 d4 h ⟨j,r,l,rfl,m,w,y,n,o,k⟩
 unfold Qa6 at h
 refine Cs ?_
 obtain ⟨T,b1,h⟩:=bnd h
 refine Jf (fun(T:Bool) v Q H'=>c6.le Q∧[(s, .cells #[c,(Iv B),(GV C)] 108 (0,0))]::[(g2k0qk0, .cells #[(pt s 0)] 56 (0,0))]::[(g2k0, .cells #[(.func (.func 16) #[] #[(pt g2k0qk0 0)])] 59 (0,0))]::[(g2k1, .cells #[(.func (.func 18) #[] #[(pt g2k0qk0 0)])] 61 (0,0))]::[(g2k3qk0, .cells #[(.func (.func 20) #[] #[(pt g2k0qk0 0)])] 63 (0,0))]::[(g2k3, .cells #[(.func (.func 25) #[] #[(pt g2k3qk0 0),(pt g2k0 0)])] 68 (0,0))]::r::F=H'∧v 0=(pt s 0)∧v 2=(.func (.func 27) #[] #[(pt g2k0 0),(pt g2k1 0),(pt g2k0qk0 0),(pt g2k3 0)])∧v 7=j∧v 8=(Iv t)∧v 9=(Iv g)∧v 20=(Bv T)) T ?_ ?_
 have h:=b1
 refine Cg (qM (Iv g) o (qM (Iv t) n (qu (Bv (decide (g<t))) (lss Z Z) (qm (Bv (decide (g<t))) ?_))))
 rcases Bi h with⟨e,h⟩ |⟨e,h⟩
 refine On 16 Z Z e (qM (pt s 0) m (On 16 Z Z e ?_))
 obtain ⟨U,b2,h⟩:=bnd h
 have d:=d.mono (u.trans l)
 refine We (Cb co58 (Qd8 (⟨a0.b,B,C⟩:QaC) _ _ _ d U b2) (Qb2 Z)) Z ?_
 rintro _ d5 _ V ⟨_,⟨rfl,rfl⟩,rfl⟩
 refine WL.a1 (qo 16 e (Bv U.isNil) (errNil underlying31 Z) (qu (Bv U.isNil) (Pt Z e Z) (Wz ?_)))
 obtain rfl:=oi h
 exact Tj ⟨V,Z,m,w,y,n,o,Z⟩
 iterate 3 refine Of 16 Z Z e Z ?_
 refine qu (Bv false) (Pf Z e Z) (Wz ?_)
 obtain rfl:=oi h
 exact Tj ⟨lr,Z,m,w,y,n,o,Z⟩
 rintro d6 d7 d8 ⟨f,rfl,J,z,A,K,L,E⟩
 refine Ch h E (fun b3 h=> ?_) (fun b3 h=> ?_)
 refine Ck (Tc (Cs (Bk (Cg (qM j A (qM (.func (.func 27) #[] #[(pt g2k0 0),(pt g2k1 0),(pt g2k0qk0 0),(pt g2k3 0)]) z ?_))))))
 obtain ⟨⟨p,b4,b5⟩,b6,h⟩:=bnd h
 refine WL.f5 (WL.f5 (WL.f5 (WL.f5 (WL.f5 (WL.f5 ?_)))))
 have d:=d.mono ((u.trans l).trans f)
 refine We (callV6 (first:=#[]) (cap:=#[(pt g2k0 0),(pt g2k1 0),(pt g2k0qk0 0),(pt g2k3 0)]) co27 Z (Qf8 (⟨a0.b,B,C⟩:QaC) _ _ _ _ _ _ _ _ d (p,b4,b5) b6) (Qe3 Z)) Z ?_
 rintro _ c7 _ G ⟨_,⟨a,N,rfl,rfl,O⟩,rfl⟩
 refine WL.a7 (WL.f6 (WL.know (fun _ hs=>O.rs hs) (fun b7=> ?_)))
 refine WL.freeze (fun I=> ?_)
 refine We (buildSliceL (cl:=(l50 p a)) underlying25 iz50 Z (Pc (a50_ p a) Z Z Pz) Z) Z ?_
 rintro _ _ _ - ⟨rfl,b8,rfl,rfl⟩
 have c8:OwnS QaI (c7.add N) (.slice (some ⟨b8,0,none⟩) 1 1) [p] [(b8, .cells (l50 p a).toArray 50 (0,0))]:=OwnS.rows (css:=[(l50 p a)]) (Rows.cons (QhN (x:=p) b7) Rows.nil) Z Z
 obtain ⟨b9,h⟩:=Qa1 h
 refine WL.f7 ?_
 have k:=k.mono ((f.trans G).trans I)
 refine We (append (dd:=QaI) (xs:=D) (ys:=[p]) underlying25 underlying25 in50 Z (appB (by decide) b9) (by decide) Z Z k (c8.src 1 Z)) Z ?_
 rintro c0 _ _ - ⟨rfl,c9,rfl,d0⟩
 refine qa c0 (Wz (Bn (Tc (Cg (qM (Iv g) L (qu (Iv (i64.wrap (g+1))) (add Z Z) (qa (Iv (i64.wrap (g+1))) (Wz (Qa (Dr (WQ.f6 ?_)))))))))))
 exact WQ.f6 (WQ.f6 (WQ.f6 (WQ.f6 (WQ.f6 (WQ.again (D++[p],i64.wrap (g+1),b4,b5) (oi h).symm ⟨c0,c9,(((l.trans f).trans G).trans I),Z,J,z,Z,K,Z,d0⟩)))))
 refine WC.exit (WQ.thenE (WQ.leaveE (D,B,C) (oi h).symm (fun W=> ?_)))
 subst W
 have h:=b0
 refine WQ.blockH ?_
 obtain rfl:=oi h
 refine Tj ?_
 have k:=k.mono f
 exact⟨j,r,(l.trans f),Z,A,k⟩
 obtain ⟨a8,R,S⟩:=a4
 rintro d9 e1 e2 ⟨i,q,X,rfl,P,c1⟩
 exact Sr (qM i P (qa i (Nt (Cr (Rf h [[(s, .cells #[c,(Iv R),(GV S)] 108 (0,0))],[(g2k0qk0, .cells #[(pt s 0)] 56 (0,0))],[(g2k0, .cells #[(.func (.func 16) #[] #[(pt g2k0qk0 0)])] 59 (0,0))],[(g2k1, .cells #[(.func (.func 18) #[] #[(pt g2k0qk0 0)])] 61 (0,0))],[(g2k3qk0, .cells #[(.func (.func 20) #[] #[(pt g2k0qk0 0)])] 63 (0,0))],[(g2k3, .cells #[(.func (.func 25) #[] #[(pt g2k3qk0 0),(pt g2k0 0)])] 68 (0,0))],q] Z (Rs Z Z) (u.trans X) ⟨i,q,Z,Z,c1⟩)))))
noncomputable def QcH (a0qk0q:QaC):Option (QaJ×Int×GErr):=
 ((QcS a0qk0q).bind fun(a,c,d)=>((QgC (⟨a0qk0q.b,c,d⟩:QaC)).bind fun(e,f,g)=>((QbX (⟨a0qk0q.b,f,g⟩:QaC) (256:Int)).bind fun(i,j,k)=>(some ((⟨a,e,strOfNums i⟩:QaJ),j,k)))))
def QjC (a0qk0q:QaC) (v0qk0q_0:Value) (b g0qk0 g0qk0q c:Nat):(QaJ×Int×GErr)→Value→IM→HL→Prop:=
 fun(d:(QaJ×Int×GErr)) (v:Value) (i:IM) (e:HL)=>match d with |(a,f,g)=>(.agg #[(.int .i64 a.Topic),(.string a.Key),(.string a.Value)])=v∧e=[[(g0qk0q, .cells #[v0qk0q_0,(.int .i64 f),(GV g)] 108 (0,0))],[(g0qk0, .cells #[(.pointer (some ⟨g0qk0q,0,none⟩))] 56 (0,0))],[(b, .cells #[(.func (.func 16) #[] #[(.pointer (some ⟨g0qk0,0,none⟩))])] 59 (0,0))],[(c, .cells #[(.func (.func 18) #[] #[(.pointer (some ⟨g0qk0,0,none⟩))])] 61 (0,0))]]
theorem Qj4 (a0qk0q:QaC) (M:IM) (v0qk0q_0:Value) (u g0qk0 g0qk0q w:Nat) (h0qk0q_0:RS (Kd.int .u8) M v0qk0q_0 a0qk0q.b) (j:(QaJ×Int×GErr)) (h:QcH a0qk0q=some j):
 Tri prog 30 #[(pt u 0),(pt w 0),(pt g0qk0 0)] M [[(g0qk0q, .cells (l108 a0qk0q v0qk0q_0).toArray 108 (0,0))],[(g0qk0, .cells #[(pt g0qk0q 0)] 56 (0,0))],[(u, .cells #[(.func (.func 16) #[] #[(pt g0qk0 0)])] 59 (0,0))],[(w, .cells #[(.func (.func 18) #[] #[(pt g0qk0 0)])] 61 (0,0))]] (QjC a0qk0q v0qk0q_0 u g0qk0 g0qk0q w j):=by
 unfold QcH at h
 refine Te func30 Z Z ?_
 intro F D i
 refine Sr (We (Al ze74 Z) Z ?_)
 rintro _ _ _ - ⟨rfl,z,rfl,rfl⟩
 refine Nt (Cs (WC.draw [0,1,0,7,0,31,63,127,255] (.pure 0 (.pure 2 (.pure 4 (.alt 1 (.alt 3 (.alt 5 (.pure 6 (.pure 7 (.alt 8 .done .none))) .none) .none) .none)))) Qc3 (by kernel_rfl) (qt (.func (.func 16) #[] #[(pt g0qk0 0)]) Z (Lb 3 pl59 (i 0) Z Z) (qt (.func (.func 18) #[] #[(pt g0qk0 0)]) Z (Lb 4 pl61 (i 1) Z Z) (qt (pt g0qk0q 0) Z (Lb 2 pl56 (i 2) Z Z) ?_)))))
 obtain ⟨⟨c,k,l⟩,m,h⟩:=bnd h
 refine WT.f2 (WT.f2 (Ta Z (callV2 (first:=#[]) (cap:=#[(pt g0qk0 0)]) co16 Z (QcW a0qk0q _ _ _ _ h0qk0q_0 (c,k,l) m) (Qe3 Z)) Z ?_ ?_))
 rintro _ A _ e ⟨_,⟨rfl,rfl⟩,rfl⟩
 refine⟨(Ss Z (Lb 1 pl56 (i 2) Z Z) Z (Ss Z (Lb 4 pl61 (i 1) Z Z) Z (Sl Z))), ?_⟩
 refine WT.a2 ?_
 obtain ⟨⟨d,n,o⟩,p,h⟩:=bnd h
 refine WT.f1 (WT.f1 ?_)
 have h0qk0q_0:=h0qk0q_0.mono e
 refine Ta Z (callV2 (first:=#[]) (cap:=#[(pt g0qk0 0)]) co18 Z (QkE (⟨a0qk0q.b,k,l⟩:QaC) _ _ _ _ h0qk0q_0 (d,n,o) p) (Qe3 Z)) Z ?_ ?_
 rintro _ B _ f ⟨_,⟨rfl,rfl⟩,rfl⟩
 refine⟨(Ss Z (Lb 1 pl56 (i 2) Z Z) Z (Sl Z)), ?_⟩
 refine WT.a2 ?_
 obtain ⟨⟨a,q,r⟩,s,h⟩:=bnd h
 have h0qk0q_0:=h0qk0q_0.mono f
 refine Ta Z (Cb co19 (Qj0 (⟨a0qk0q.b,n,o⟩:QaC) (256:Int) _ _ _ h0qk0q_0 (a,q,r) s) (QaS Z Z)) Z ?_ ?_
 rintro _ C _ g ⟨_,⟨x,y,rfl,rfl,t⟩,rfl⟩
 refine⟨(Sl Z), ?_⟩
 refine WT.a2 (qt (Sv (strOfNums a)) Z (b2s (ys:=a) underlying22 underlying5 underlying9 Z (t.src 1 Z)) (qt (.agg #[(Iv c),(Sv d),(Sv (strOfNums a))]) Z (Bl (cl:=[(Iv c),(Sv d),(Sv (strOfNums a))]) ze74 fp74 (Pc (Iv c) Z Z (Pc (Sv d) Z Z (Pc (Sv (strOfNums a)) Z Z Pz))) Z) (WT.f3 (Ta Z (Sg (v:=(.agg #[(Iv c),(Sv d),(Sv (strOfNums a))])) (vl:=[(Iv c),(Sv d),(Sv (strOfNums a))]) (arr':=[(Iv c),(Sv d),(Sv (strOfNums a))]) Z sz74 Z Z (onb Z) Z Z Z) Z ?_ ?_))))
 rintro _ _ _ - ⟨rfl,rfl⟩
 refine⟨(Sl Z), ?_⟩
 exact Ti (Tc (Cr (Qb (Dr (Rd h [[(g0qk0q, .cells #[v0qk0q_0,(Iv q),(GV r)] 108 (0,0))],[(g0qk0, .cells #[(pt g0qk0q 0)] 56 (0,0))],[(u, .cells #[(.func (.func 16) #[] #[(pt g0qk0 0)])] 59 (0,0))],[(w, .cells #[(.func (.func 18) #[] #[(pt g0qk0 0)])] 61 (0,0))]] (fun _ hs=>hs.drop) (QbA Z (Rc (cs:=[(Iv c),(Sv d),(Sv (strOfNums a))]) 0 ag74 sz74 Z Z Z)) ((e.trans f).trans g) ⟨Z,Z⟩)))))
 exact Tz
 exact Tz
 exact Tz
 exact Tz

end Go.Proofs.YtfkmkgpoddbbfaaGreatDoor.G
