/- Go functions: what they come to, and that they do. Printed by a program of the session (gen). -/
import Derived.Test.YtfkmkgpoddbbfaaGreatDoorRF
import Derived.Test.YtfkmkgpoddbbfaaGreatDoorR7
import Derived.Test.YtfkmkgpoddbbfaaGreatDoorKShar2
import Derived.Test.YtfkmkgpoddbbfaaGreatDoorKConv
import Derived.Test.YtfkmkgpoddbbfaaGreatDoorKMap
import Derived.Test.YtfkmkgpoddbbfaaGreatDoorKTight2
set_option linter.unusedVariables false
set_option linter.unusedSimpArgs false
set_option maxHeartbeats 8000000
set_option maxRecDepth 100000
namespace Go.Proofs.YtfkmkgpoddbbfaaGreatDoor.G
open Go Go.KK
open PO EO IntKind Sum Tryz

noncomputable def QfM (a0:(List Int)) (a3:Int) (j:Int) (o:((List Int)×Int×Int×Int×ByteArray×Int)):Option (((List Int)×Int×Int×Int×ByteArray×Int)⊕((List Int)×Int×Int×ByteArray×Int)):=
 match o with
 |(b,d,e,c,f,g)=>
 (((if(decide (d<j))=true then(some (decide (c=(0:Int))))else(some false)):Option Bool).bind fun k=>(if k=true then((((QfD a3).bind fun l=>((QhK a0 (⟨e,c,f,g⟩:QaB) l).bind fun(m,n)=>(some (m,n)))):Option (QaB×Int)).bind fun(a,i)=>(grd (b.length+[i64.wrap i].length≤274877906944) (some (inl (b++[i64.wrap i],u64.wrap (d+(1:Int)),a.At,a.Code,a.Op,a.Where)))))else(some (inr (b,e,c,f,g)))))
noncomputable def Qk3 (a0:(List Int)) (a1:QaB) (a2:Int) (a3:Int):Option (QaB×(List Int)):=
 ((((QfD a2).bind fun f=>((QhK a0 a1 f).bind fun(g,i)=>(some (g,i)))):Option (QaB×Int)).bind fun(a,j)=>((((iter (QfM a0 a3 j) ([],(0:Int),a.At,a.Code,a.Op,a.Where)).bind (fun(k,l,m,n,o)=>(some (k,l,m,n,o)))):Option ((List Int)×Int×Int×ByteArray×Int)).bind fun(p,c,b,d,e)=>(if(decide (b≠(0:Int)))=true then(some ((⟨c,b,d,e⟩:QaB),[]))else(some ((⟨c,b,d,e⟩:QaB),p)))))
def QtZ (a0:(List Int)) (a1:QaB) (a2:Int) (a3:Int) (i:Value):(QaB×(List Int))→Value→IM→HL→Prop:=
 fun(d:(QaB×(List Int))) (v:Value) (e:IM) (f:HL)=>match d with |(c,g)=>∃ a b,(.tuple #[(.agg #[(.int .i64 c.At),(.int .i64 c.Code),(.string c.Op),(.int .i64 c.Where)]),a])=v∧f=[b]∧OwnS (Kd.int .i64) e a g b
theorem QvU (a0:(List Int)) (a1:QaB) (a2:Int) (a3:Int) (M:IM) (v0:Value) (W:RS (Kd.int .u8) M v0 a0) (g3:(QaB×(List Int))) (h:Qk3 a0 a1 a2 a3=some g3):
 Tri prog 90 #[v0,(a84_ a1),(Iv a2),(Iv a3)] M [] (QtZ a0 a1 a2 a3 v0 g3):=by
 unfold Qk3 at h
 refine Te func90 Z Z ?_
 intro F ρ P
 refine Sr (We (box (cs:=(l84 a1).toArray) (congrArg Value.cells (asE (a84_ a1) (P 1)))) Z ?_)
 rintro _ _ _ - ⟨rfl,b2,rfl,rfl⟩
 refine We (Al ze84 Z) Z ?_
 rintro _ _ _ - ⟨rfl,E,rfl,rfl⟩
 refine qa Zs (Nt ?_)
 obtain ⟨g4,g5,h⟩:=bnd h
 refine Jf (fun(p_:(QaB×Int)) e M' H'=>match p_ with |(g6,Q)=>∃ o,M.le M'∧[(E, .cells z84_.toArray 84 (0,0))]::[(b2, .cells (l84 a1).toArray 84 (0,0))]::[(o, .cells (l84 g6).toArray 84 (0,0))]::F=H'∧e 0=v0∧e 3=(Iv a3)∧e 8=(pt E 0)∧e 10=(pt o 0)∧e 11=(Uv Q)) g4 ?_ ?_
 have h:=g5
 refine WC.draw [0,0,0,4,15,31,63,63,0,383,1023] (.pure 0 (.pure 1 (.pure 2 (.alt 3 (.alt 4 (.pure 5 (.pure 6 (.pure 7 (.alt 8 (.alt 9 (.pure 10 .done) .none) .none)))) (.alt 8 (.alt 4 (.pure 5 (.pure 6 (.pure 7 (.alt 9 (.pure 10 .done) .none)))) .none) .none)) (.alt 8 (.alt 3 (.alt 4 (.pure 5 (.pure 6 (.pure 7 (.alt 9 (.pure 10 .done) .none)))) .none) .none) .none))))) Qc3 (by kernel_rfl) (qt v0 Z (Mv (P 0)) (qt (a84_ a1) Z (La (cs:=(l84 a1)) 1 ag84 sz84 Z Z Z) (qt (Iv a2) Z (Mv (P 2)) ?_)))
 have g7:=h
 obtain ⟨e7,g8,h⟩:=bnd h
 refine Ta Z (Ca co87 (QdM a2 _ e7 g8) (Qb2 Z)) Z ?_ ?_
 rintro _ k7 _ U ⟨_,⟨rfl,rfl⟩,rfl⟩
 refine⟨(Sk 1 Z (Ss Z (La (cs:=(l84 a1)) 1 ag84 sz84 Z Z Z) Z (Ss Z (Mv (P 0)) Z trivial))), ?_⟩
 refine WT.a0 ?_
 have g9:=h
 obtain ⟨⟨a8,c9⟩,h1,h⟩:=bnd h
 have W:=W.mono U
 refine Ta Z (Ca co86 (QcX a0 a1 e7 _ _ W (a8,c9) h1) (QcV Z Z Z)) Z ?_ ?_
 rintro _ k8 _ e8 ⟨_,⟨rfl,rfl⟩,rfl⟩
 refine⟨(Sl Z), ?_⟩
 refine WT.a0 (qt (.tuple #[(a84_ a8),(Uv c9)]) Z (Mv Z) (qt (a84_ a8) Z (Xt Z Z) (qt (Uv c9) Z (Xt Z Z) (Ta Z (Al ze84 Z) Z ?_ ?_))))
 rintro _ _ _ - ⟨rfl,j7,rfl,rfl⟩
 refine⟨(Ss Z (Xt Z Z) Z (Ss Z (Xt Z Z) Z (Ss Z (Mv Z) Z (Ss Z (Mv (P 2)) Z (Ss Z (La (cs:=(l84 a1)) 2 ag84 sz84 Z Z Z) Z (Ss Z (Mv (P 0)) Z trivial)))))), ?_⟩
 refine Ta Z (Sg (v:=(a84_ a8)) (vl:=(l84 a8)) (arr':=(l84 a8)) Z sz84 Z Z (onb Z) Z Z Z) Z ?_ ?_
 rintro _ _ _ - ⟨rfl,rfl⟩
 refine⟨(Ss Z (Xt Z Z) Z (Sl Z)), ?_⟩
 refine qt (Uv c9) Z (Ag Z) (Ti (Qb (Qb ?_)))
 obtain rfl:=oi h
 exact Tj ⟨j7,(U.trans e8),Z,(P 0),(P 3),Z,Z,Z⟩
 exact Tz
 exact Tz
 have h:=g9
 refine Ta Z (Al ze84 Z) Z ?_ ?_
 rintro _ _ _ - ⟨rfl,j8,rfl,rfl⟩
 refine⟨(Ss Z (Mv (P 2)) Z (Ss Z (La (cs:=(l84 a1)) 2 ag84 sz84 Z Z Z) Z (Ss Z (Mv (P 0)) Z trivial))), ?_⟩
 obtain ⟨⟨a9,d0⟩,h2,h⟩:=bnd h
 refine Ta Z (Ca co86 (QcX a0 a1 e7 _ _ W (a9,d0) h2) (QcV Z Z Z)) Z ?_ ?_
 rintro _ k9 _ e9 ⟨_,⟨rfl,rfl⟩,rfl⟩
 refine⟨(Sl Z), ?_⟩
 refine WT.a0 (qt (.tuple #[(a84_ a9),(Uv d0)]) Z (Mv Z) (qt (a84_ a9) Z (Xt Z Z) (qt (Uv d0) Z (Xt Z Z) (Ta Z (Sg (v:=(a84_ a9)) (vl:=(l84 a9)) (arr':=(l84 a9)) Z sz84 Z Z (onb Z) Z Z Z) Z ?_ ?_))))
 rintro _ _ _ - ⟨rfl,rfl⟩
 refine⟨(Ss Z (Xt Z Z) Z (Sl Z)), ?_⟩
 refine qt (Uv d0) Z (Ag Z) (Ti (Qb (Qb ?_)))
 obtain rfl:=oi h
 exact Tj ⟨j8,(U.trans e9),Z,(P 0),(P 3),Z,Z,Z⟩
 exact Tz
 exact Tz
 exact Tz
 have h:=g7
 refine Ta Z (Al ze84 Z) Z ?_ ?_
 rintro _ _ _ - ⟨rfl,j9,rfl,rfl⟩
 refine⟨(Ss Z (Mv (P 2)) Z (Ss Z (La (cs:=(l84 a1)) 2 ag84 sz84 Z Z Z) Z (Ss Z (Mv (P 0)) Z trivial))), ?_⟩
 obtain ⟨h3,h4,h⟩:=bnd h
 refine Ta Z (Ca co87 (QdM a2 _ h3 h4) (Qb2 Z)) Z ?_ ?_
 rintro _ l0 _ b4 ⟨_,⟨rfl,rfl⟩,rfl⟩
 refine⟨(Sk 1 Z (Ss Z (La (cs:=(l84 a1)) 2 ag84 sz84 Z Z Z) Z (Ss Z (Mv (P 0)) Z trivial))), ?_⟩
 refine WT.a0 ?_
 obtain ⟨⟨b0,d1⟩,h5,h⟩:=bnd h
 have W:=W.mono b4
 refine Ta Z (Ca co86 (QcX a0 a1 h3 _ _ W (b0,d1) h5) (QcV Z Z Z)) Z ?_ ?_
 rintro _ l1 _ f0 ⟨_,⟨rfl,rfl⟩,rfl⟩
 refine⟨(Sl Z), ?_⟩
 refine WT.a0 (qt (.tuple #[(a84_ b0),(Uv d1)]) Z (Mv Z) (qt (a84_ b0) Z (Xt Z Z) (qt (Uv d1) Z (Xt Z Z) (Ta Z (Sg (v:=(a84_ b0)) (vl:=(l84 b0)) (arr':=(l84 b0)) Z sz84 Z Z (onb Z) Z Z Z) Z ?_ ?_))))
 rintro _ _ _ - ⟨rfl,rfl⟩
 refine⟨(Ss Z (Xt Z Z) Z (Sl Z)), ?_⟩
 refine qt (Uv d1) Z (Ag Z) (Ti (Qb (Qb ?_)))
 obtain rfl:=oi h
 exact Tj ⟨j9,(b4.trans f0),Z,(P 0),(P 3),Z,Z,Z⟩
 exact Tz
 exact Tz
 exact Tz
 exact Tz
 obtain ⟨g6,Q⟩:=g4
 rintro l2 h6 l3 ⟨o,N,rfl,d2,d3,d4,b5,b6⟩
 refine Sr (qa Zs (Nt ?_))
 obtain ⟨h7,h8,h⟩:=bnd h
 refine Jf (fun(p_:((List Int)×Int×Int×ByteArray×Int)) e M' H'=>match p_ with |(h9,k,f,l,m)=>∃ G R,h6.le M'∧[(E, .cells z84_.toArray 84 (0,0))]::[(b2, .cells (l84 a1).toArray 84 (0,0))]::[(o, .cells #[(Iv k),(Iv f),(Sv l),(Iv m)] 84 (0,0))]::R::F=H'∧e 8=(pt E 0)∧e 10=(pt o 0)∧e 12=G∧OwnS (Kd.int .i64) M' G h9 R) h7 ?_ ?_
 have h:=h8
 refine Sr (qa (Uv 0) (Nt (Bk (WC.e0 (WC.f3 (WC.f3 (WC.f3 ?_)))))))
 obtain ⟨l4,i0,i1⟩:=bnd h
 clear h
 refine WC.loop i0 (fun(p_:((List Int)×Int×Int×Int×ByteArray×Int)) e M' H'=>match p_ with |(b7,s,g,d,i,j)=>∃ t I,h6.le M'∧[(E, .cells z84_.toArray 84 (0,0))]::[(b2, .cells (l84 a1).toArray 84 (0,0))]::[(o, .cells #[(Iv g),(Iv d),(Sv i),(Iv j)] 84 (0,0))]::I::F=H'∧e 0=v0∧e 3=(Iv a3)∧e 8=(pt E 0)∧e 10=(pt o 0)∧e 11=(Uv Q)∧e 12=t∧e 13=(Uv s)∧OwnS (Kd.int .i64) M' t b7 I) ?_ ?_
 exact⟨Zs,[],lr,Z,d2,d3,d4,b5,b6,Z,Z,(OwnS.nil _ _)⟩
 rintro ⟨b7,s,g,d,i,j⟩ l5 l6 k0 l7 h ⟨t,I,O,rfl,X,Y,a4,u,w,S,x,J⟩
 unfold QfM at h
 refine Cs ?_
 obtain ⟨f1,i2,h⟩:=bnd h
 refine Jf (fun(f1:Bool) e M' H'=>k0.le M'∧[(E, .cells z84_.toArray 84 (0,0))]::[(b2, .cells (l84 a1).toArray 84 (0,0))]::[(o, .cells #[(Iv g),(Iv d),(Sv i),(Iv j)] 84 (0,0))]::I::F=H'∧e 0=v0∧e 3=(Iv a3)∧e 8=(pt E 0)∧e 10=(pt o 0)∧e 11=(Uv Q)∧e 12=t∧e 13=(Uv s)∧e 31=(Bv f1)) f1 ?_ ?_
 have h:=i2
 refine Cg (qM (Uv s) x (qM (Uv Q) w (qu (Bv (decide (s<Q))) (lss Z Z) (qm (Bv (decide (s<Q))) ?_))))
 rcases Bi h with⟨y,h⟩ |⟨y,h⟩
 refine qo 27 y (pt o 1) (Fa QlB u Z) (qo 27 y (Iv d) (Lb 2 pl34 Z Z Z) (qo 27 y (Bv (decide (d=0))) (eql Z Z) (qu (Bv (decide (d=0))) (Pt Z y Z) (Wz ?_))))
 obtain rfl:=oi h
 exact Tj ⟨lr,Z,X,Y,a4,u,w,S,x,Z⟩
 iterate 3 refine Of 27 Z Z y Z ?_
 refine qu (Bv false) (Pf Z y Z) (Wz ?_)
 obtain rfl:=oi h
 exact Tj ⟨lr,Z,X,Y,a4,u,w,S,x,Z⟩
 rintro l8 k1 l9 ⟨p,rfl,b,c,q,a,z,n,A,b8⟩
 refine Ch h b8 (fun i3 h=> ?_) (fun i3 h=> ?_)
 refine Ck (Tc (Cs (Bk ?_)))
 obtain ⟨i4,i5,h⟩:=bnd h
 refine Jf (fun(p_:(QaB×Int)) e M' H'=>match p_ with |(B,C)=>∃ f2,k1.le M'∧[(E, .cells z84_.toArray 84 (0,0))]::[(b2, .cells (l84 a1).toArray 84 (0,0))]::[(o, .cells #[(Iv g),(Iv d),(Sv i),(Iv j)] 84 (0,0))]::[(f2, .cells (l84 B).toArray 84 (0,0))]::I::F=H'∧e 0=v0∧e 3=(Iv a3)∧e 8=(pt E 0)∧e 10=(pt o 0)∧e 11=(Uv Q)∧e 12=t∧e 13=(Uv s)∧e 14=(pt f2 0)∧e 15=(Uv C)) i4 ?_ ?_
 have h:=i5
 refine WC.draw [0,0,0,4,15,31,63,63,0,383,1023] (.pure 0 (.pure 1 (.pure 2 (.alt 3 (.alt 4 (.pure 5 (.pure 6 (.pure 7 (.alt 8 (.alt 9 (.pure 10 .done) .none) .none)))) (.alt 8 (.alt 4 (.pure 5 (.pure 6 (.pure 7 (.alt 9 (.pure 10 .done) .none)))) .none) .none)) (.alt 8 (.alt 3 (.alt 4 (.pure 5 (.pure 6 (.pure 7 (.alt 9 (.pure 10 .done) .none)))) .none) .none) .none))))) Qc3 (by kernel_rfl) (qt v0 Z (Mv b) (qt (.agg #[(Iv g),(Iv d),(Sv i),(Iv j)]) Z (La (cs:=[(Iv g),(Iv d),(Sv i),(Iv j)]) 2 ag84 sz84 a Z Z) (qt (Iv a3) Z (Mv c) ?_)))
 have i6:=h
 obtain ⟨f6,i7,h⟩:=bnd h
 refine Ta Z (Ca co87 (QdM a3 _ f6 i7) (Qb2 Z)) Z ?_ ?_
 rintro _ m0 _ V ⟨_,⟨rfl,rfl⟩,rfl⟩
 refine⟨(Sk 1 Z (Ss Z (La (cs:=[(Iv g),(Iv d),(Sv i),(Iv j)]) 2 ag84 sz84 a Z Z) Z (Ss Z (Mv b) Z trivial))), ?_⟩
 refine WT.a0 ?_
 have i8:=h
 obtain ⟨⟨b1,d5⟩,i9,h⟩:=bnd h
 have W:=W.mono (((N.trans O).trans p).trans V)
 refine Ta Z (Ca co86 (QcX a0 (⟨g,d,i,j⟩:QaB) f6 _ _ W (b1,d5) i9) (QcV Z Z Z)) Z ?_ ?_
 rintro _ k3 _ d6 ⟨_,⟨rfl,rfl⟩,rfl⟩
 refine⟨(Sl Z), ?_⟩
 refine WT.a0 (qt (.tuple #[(a84_ b1),(Uv d5)]) Z (Mv Z) (qt (a84_ b1) Z (Xt Z Z) (qt (Uv d5) Z (Xt Z Z) (Ta Z (Al ze84 Z) Z ?_ ?_))))
 rintro _ _ _ - ⟨rfl,j0,rfl,rfl⟩
 refine⟨(Ss Z (Xt Z Z) Z (Ss Z (Xt Z Z) Z (Ss Z (Mv Z) Z (Ss Z (Mv c) Z (Ss Z (La (cs:=[(Iv g),(Iv d),(Sv i),(Iv j)]) 3 ag84 sz84 a Z Z) Z (Ss Z (Mv b) Z trivial)))))), ?_⟩
 refine Ta Z (Sg (v:=(a84_ b1)) (vl:=(l84 b1)) (arr':=(l84 b1)) Z sz84 Z Z (onb Z) Z Z Z) Z ?_ ?_
 rintro _ _ _ - ⟨rfl,rfl⟩
 refine⟨(Ss Z (Xt Z Z) Z (Sl Z)), ?_⟩
 refine qt (Uv d5) Z (Ag Z) (Ti (WQ.f4 (Qa (WQ.f4 (WQ.f4 (WQ.f4 ?_))))))
 obtain rfl:=oi h
 exact Tj ⟨j0,(V.trans d6),Z,b,c,q,a,z,n,A,Z,Z⟩
 exact Tz
 exact Tz
 have h:=i8
 refine Ta Z (Al ze84 Z) Z ?_ ?_
 rintro _ _ _ - ⟨rfl,j1,rfl,rfl⟩
 refine⟨(Ss Z (Mv c) Z (Ss Z (La (cs:=[(Iv g),(Iv d),(Sv i),(Iv j)]) 3 ag84 sz84 a Z Z) Z (Ss Z (Mv b) Z trivial))), ?_⟩
 obtain ⟨⟨K,a5⟩,f7,h⟩:=bnd h
 refine Ta Z (Ca co86 (QcX a0 (⟨g,d,i,j⟩:QaB) f6 _ _ W (K,a5) f7) (QcV Z Z Z)) Z ?_ ?_
 rintro _ k4 _ d7 ⟨_,⟨rfl,rfl⟩,rfl⟩
 refine⟨(Sl Z), ?_⟩
 refine WT.a0 (qt (.tuple #[(a84_ K),(Uv a5)]) Z (Mv Z) (qt (a84_ K) Z (Xt Z Z) (qt (Uv a5) Z (Xt Z Z) (Ta Z (Sg (v:=(a84_ K)) (vl:=(l84 K)) (arr':=(l84 K)) Z sz84 Z Z (onb Z) Z Z Z) Z ?_ ?_))))
 rintro _ _ _ - ⟨rfl,rfl⟩
 refine⟨(Ss Z (Xt Z Z) Z (Sl Z)), ?_⟩
 refine qt (Uv a5) Z (Ag Z) (Ti (WQ.f4 (Qa (WQ.f4 (WQ.f4 (WQ.f4 ?_))))))
 obtain rfl:=oi h
 exact Tj ⟨j1,(V.trans d7),Z,b,c,q,a,z,n,A,Z,Z⟩
 exact Tz
 exact Tz
 exact Tz
 have h:=i6
 refine Ta Z (Al ze84 Z) Z ?_ ?_
 rintro _ _ _ - ⟨rfl,j2,rfl,rfl⟩
 refine⟨(Ss Z (Mv c) Z (Ss Z (La (cs:=[(Iv g),(Iv d),(Sv i),(Iv j)]) 3 ag84 sz84 a Z Z) Z (Ss Z (Mv b) Z trivial))), ?_⟩
 obtain ⟨e3,f8,h⟩:=bnd h
 refine Ta Z (Ca co87 (QdM a3 _ e3 f8) (Qb2 Z)) Z ?_ ?_
 rintro _ k5 _ a6 ⟨_,⟨rfl,rfl⟩,rfl⟩
 refine⟨(Sk 1 Z (Ss Z (La (cs:=[(Iv g),(Iv d),(Sv i),(Iv j)]) 3 ag84 sz84 a Z Z) Z (Ss Z (Mv b) Z trivial))), ?_⟩
 refine WT.a0 ?_
 obtain ⟨⟨L,a7⟩,f9,h⟩:=bnd h
 have W:=W.mono (((N.trans O).trans p).trans a6)
 refine Ta Z (Ca co86 (QcX a0 (⟨g,d,i,j⟩:QaB) e3 _ _ W (L,a7) f9) (QcV Z Z Z)) Z ?_ ?_
 rintro _ k6 _ d8 ⟨_,⟨rfl,rfl⟩,rfl⟩
 refine⟨(Sl Z), ?_⟩
 refine WT.a0 (qt (.tuple #[(a84_ L),(Uv a7)]) Z (Mv Z) (qt (a84_ L) Z (Xt Z Z) (qt (Uv a7) Z (Xt Z Z) (Ta Z (Sg (v:=(a84_ L)) (vl:=(l84 L)) (arr':=(l84 L)) Z sz84 Z Z (onb Z) Z Z Z) Z ?_ ?_))))
 rintro _ _ _ - ⟨rfl,rfl⟩
 refine⟨(Ss Z (Xt Z Z) Z (Sl Z)), ?_⟩
 refine qt (Uv a7) Z (Ag Z) (Ti (WQ.f4 (Qa (WQ.f4 (WQ.f4 (WQ.f4 ?_))))))
 obtain rfl:=oi h
 exact Tj ⟨j2,(a6.trans d8),Z,b,c,q,a,z,n,A,Z,Z⟩
 exact Tz
 exact Tz
 exact Tz
 exact Tz
 obtain ⟨B,C⟩:=i4
 rintro m1 k2 m2 ⟨f2,b9,rfl,d9,e1,e2,T,c0,c1,c2,c3,c4⟩
 refine Sr (qu (a84_ B) (La (cs:=(l84 B)) 3 ag84 sz84 c3 Z Z) (Wb (We (Sg (v:=(a84_ B)) (vl:=(l84 B)) (arr':=(l84 B)) Z sz84 T Z (onb Z) Z Z Z) Z ?_)))
 rintro _ _ _ - ⟨rfl,rfl⟩
 refine Nt (Cg (qM t c1 (qM (Uv C) c4 (qu (Iv (i64.wrap C)) (conv QlR underlying3 Z) (We (buildSliceL (cl:=[(Iv (i64.wrap C))]) underlying51 iz3 Z (Pc (Iv (i64.wrap C)) Z Z Pz) Z) Z ?_)))))
 rintro _ _ _ - ⟨rfl,e4,rfl,rfl⟩
 have j3:OwnS (Kd.int .i64) k2 (.slice (some ⟨e4,0,none⟩) 1 1) [i64.wrap C] [(e4, .cells #[(Iv (i64.wrap C))] 3 (0,0))]:=OwnS.rows (css:=[[(Iv (i64.wrap C))]]) (Rows.cons Z Rows.nil) Z Z
 obtain ⟨g0,h⟩:=Qa1 h
 refine WL.f5 ?_
 have J:=J.mono (p.trans b9)
 refine We (append (dd:=(Kd.int .i64)) (xs:=b7) (ys:=[i64.wrap C]) underlying51 underlying51 in3 Z (appB (by decide) g0) (by decide) Z Z J (j3.src 1 Z)) Z ?_
 rintro e5 _ _ - ⟨rfl,j4,rfl,j5⟩
 refine qa e5 (Wz (Bn (Tc (Cg (qM (Uv s) c2 (qu (Uv (u64.wrap (s+1))) (add Z Z) (qa (Uv (u64.wrap (s+1))) (Wz (Qa (Dr (WQ.f4 ?_)))))))))))
 exact Dr (Qa (WQ.f3 (WQ.f3 (WQ.again (b7++[i64.wrap C],u64.wrap (s+1),B.At,B.Code,B.Op,B.Where) (oi h).symm ⟨e5,j4,((O.trans p).trans b9),Z,d9,e1,e2,T,c0,Z,Z,j5⟩))))
 refine WC.exit (WQ.thenE (WQ.leaveE (b7,g,d,i,j) (oi h).symm (fun g1=> ?_)))
 subst g1
 have h:=i1
 refine WQ.blockH ?_
 obtain rfl:=oi h
 refine Tj ?_
 have J:=J.mono p
 exact⟨t,I,(O.trans p),Z,q,a,n,J⟩
 obtain ⟨h9,k,f,l,m⟩:=h7
 rintro m3 m4 m5 ⟨G,R,c5,rfl,r,D,c6,j6⟩
 refine Cs (Sr (qu (pt o 1) (Fa QlB D Z) (qu (Iv f) (Lb 2 pl34 Z Z Z) (qu (Bv (decide (f≠0))) (neq Z Z) (Nt (Ch h Z (fun g2 h=> ?_) (fun g2 h=> ?_)))))))
 refine Sr (qu (.agg #[(Iv k),(Iv f),(Sv l),(Iv m)]) (La (cs:=[(Iv k),(Iv f),(Sv l),(Iv m)]) 2 ag84 sz84 D Z Z) (We (Sg (v:=(.agg #[(Iv k),(Iv f),(Sv l),(Iv m)])) (vl:=[(Iv k),(Iv f),(Sv l),(Iv m)]) (arr':=[(Iv k),(Iv f),(Sv l),(Iv m)]) Z sz84 r Z (onb Z) Z Z Z) Z ?_))
 rintro _ _ _ - ⟨rfl,rfl⟩
 refine qa Zs (Nt (Cr (Tr (WQ.e0 (Qb (Dr (Qb (Dr (Qb (Dr (Qa ?_)))))))))))
 exact Rd h [[]] (fun _ hs=>hs.drop) (QaP Z (RVs.cons (Rc (cs:=[(Iv k),(Iv f),(Sv l),(Iv m)]) 0 ag84 sz84 r Z Z) (RVs.cons (RV.tmp Z) RVs.nil))) (N.trans c5) ⟨Zs,[],Z,Z,(OwnS.nil _ _)⟩
 refine Ck (Tc (Sr (qu (.agg #[(Iv k),(Iv f),(Sv l),(Iv m)]) (La (cs:=[(Iv k),(Iv f),(Sv l),(Iv m)]) 2 ag84 sz84 D Z Z) (qM G c6 (We (Sg (v:=(.agg #[(Iv k),(Iv f),(Sv l),(Iv m)])) (vl:=[(Iv k),(Iv f),(Sv l),(Iv m)]) (arr':=[(Iv k),(Iv f),(Sv l),(Iv m)]) Z sz84 r Z (onb Z) Z Z Z) Z ?_)))))
 rintro _ _ _ - ⟨rfl,rfl⟩
 exact qa G (Nt (Cr (Qa (Dr (Qa (Dr (Rd h [R] (fun _ hs=>hs.drop) (QaP Z (RVs.cons (Rc (cs:=[(Iv k),(Iv f),(Sv l),(Iv m)]) 0 ag84 sz84 r Z Z) (RVs.cons (RV.tmp Z) RVs.nil))) (N.trans c5) ⟨G,R,Z,Z,j6⟩)))))))
noncomputable def QcA (a0:(List Int)) (a1:QaB) (a2:Qa8):Option (QaB×QcR):=
 (if(decide (a1.Code≠(0:Int)))=true then(some (a1,(⟨(0:Int),false,[],[]⟩:QcR)))else(((if(decide (a2.Kind=(0:Int)))=true then(some (decide (a2.Kind=(0:Int))))else(some (decide (a2.Kind=(1:Int))))):Option Bool).bind fun e=>(if e=true then((((QfD a2.Most).bind fun f=>((QhK a0 a1 f).bind fun(g,i)=>(some (g,i)))):Option (QaB×Int)).bind fun(j,k)=>(some (j,(⟨k,false,[],[]⟩:QcR))))else(if(decide (a2.Kind=(2:Int)))=true then(if(decide ((a0.length:Int)≤a1.At))=true then((QdV a1 (⟨#[102,108,97,103]⟩:ByteArray) a1.At (3:Int)).bind fun l=>(some (l,(⟨(0:Int),false,[],[]⟩:QcR))))else(grd (0≤a1.At∧a1.At<a0.length) (if(decide ((1:Int)<(rd a0 a1.At)))=true then((QdV a1 (⟨#[102,108,97,103]⟩:ByteArray) a1.At (5:Int)).bind fun m=>(some (m,(⟨(0:Int),false,[],[]⟩:QcR))))else(grd (0≤a1.At∧a1.At<a0.length) (some ((⟨i64.wrap (a1.At+(1:Int)),(0:Int),(⟨#[]⟩:ByteArray),(0:Int)⟩:QaB),(⟨(0:Int),decide ((rd a0 a1.At)=(1:Int)),[],[]⟩:QcR)))))))else(if(decide (a2.Kind=(3:Int)))=true then((Qj6 a0 a1 a2.Most).bind fun(a,b)=>(some (a,(⟨(0:Int),false,b,[]⟩:QcR))))else((Qk3 a0 a1 a2.Most a2.Each).bind fun(c,d)=>(some (c,(⟨(0:Int),false,[],d⟩:QcR)))))))))
def QsG (a0:(List Int)) (a1:QaB) (a2:Qa8) (j:Value):(QaB×QcR)→Value→IM→HL→Prop:=
 fun(g:(QaB×QcR)) (v:Value) (f:IM) (i:HL)=>match g with |(d,e)=>∃ a b c,(.tuple #[(.agg #[(.int .i64 d.At),(.int .i64 d.Code),(.string d.Op),(.int .i64 d.Where)]),(.agg #[(.int .u64 e.Num),(.bool e.Flag),a,b])])=v∧i=[c]∧RS (Kd.int .u8) f a e.Text∧OwnS (Kd.int .i64) f b e.Row c
theorem QbE (a0:(List Int)) (a1:QaB) (a2:Qa8) (M:IM) (N:Value) (p:RS (Kd.int .u8) M N a0) (b6:(QaB×QcR)) (h:QcA a0 a1 a2=some b6):
 Tri prog 59 #[N,(a84_ a1),(Q5L a2)] M [] (QsG a0 a1 a2 N b6):=by
 unfold QcA at h
 refine Te func59 Z Z ?_
 intro F ρ d8
 refine Sr (We (box (cs:=(l84 a1).toArray) (congrArg Value.cells (asE (a84_ a1) (d8 1)))) Z ?_)
 rintro _ _ _ - ⟨rfl,l,rfl,rfl⟩
 refine We (box (cs:=(l120 a2).toArray) (congrArg Value.cells (asE (Q5L a2) (d8 2)))) Z ?_
 rintro _ _ _ - ⟨rfl,q,rfl,rfl⟩
 refine We (Al ze84 Z) Z ?_
 rintro _ _ _ - ⟨rfl,O,rfl,rfl⟩
 refine We (Al Qi6 Z) Z ?_
 rintro _ _ _ - ⟨rfl,P,rfl,rfl⟩
 refine Nt (Cs (Sr (qu (pt l 1) (Fa QlB Z Z) (qu (Iv a1.Code) (Lb 3 pl34 Z Z Z) (qu (Bv (decide (a1.Code≠0))) (neq Z Z) (Nt (Ch h Z (fun b7 h=> ?_) (fun b7 h=> ?_))))))))
 refine Sr (qu (a84_ a1) (La (cs:=(l84 a1)) 3 ag84 sz84 Z Z Z) (qu (.agg #[(Uv 0),(Bv false),Zs,Zs]) (Bl (cl:=[(Uv 0),(Bv false),Zs,Zs]) Qi6 QxU Pz Z) (WL.f1 (We (Sg (v:=(a84_ a1)) (vl:=(l84 a1)) (arr':=(l84 a1)) Z sz84 Z Z (onb Z) Z Z Z) Z ?_))))
 rintro _ _ _ - ⟨rfl,rfl⟩
 refine WL.f1 (We (Sg (v:=(.agg #[(Uv 0),(Bv false),Zs,Zs])) (vl:=[(Uv 0),(Bv false),Zs,Zs]) (arr':=[(Uv 0),(Bv false),Zs,Zs]) Z QgS Z Z (onb Z) Z Z Z) Z ?_)
 rintro _ _ _ - ⟨rfl,rfl⟩
 exact Nt (Cr (Tr (WQ.e0 (WQ.f3 (Dr (WQ.f3 (Dr (Qa (Qb (Rd h [[]] (fun _ hs=>hs.drop.drop) (QaP Z (RVs.cons (Rc (cs:=(l84 a1)) 0 ag84 sz84 Z Z Z) (RVs.cons (Rc (cs:=[(Uv 0),(Bv false),Zs,Zs]) 1 Qy0 QgS Z Z Z) RVs.nil))) lr ⟨Zs,Zs,[],Z,Z,RS.nil _ _,(OwnS.nil _ _)⟩))))))))))
 refine Ck (Tc (Cs (Sr (qu (pt q 0) (Fa Q4L Z Z) (qu (Iv a2.Kind) (Lb 2 pl3 Z Z Z) (Nt (Bk ?_)))))))
 obtain ⟨X,b8,h⟩:=bnd h
 refine Jf (fun(X:Bool) D M' H'=>M.le M'∧[(P, .cells #[(Uv 0),(Bv false),Zs,Zs] 116 (0,0))]::[(O, .cells z84_.toArray 84 (0,0))]::[(q, .cells (l120 a2).toArray 120 (0,0))]::[(l, .cells (l84 a1).toArray 84 (0,0))]::F=H'∧D 0=N∧D 4=(pt l 0)∧D 5=(pt q 0)∧D 6=(pt O 0)∧D 7=(pt P 0)∧D 20=(Iv a2.Kind)∧D 21=(Bv X)) X ?_ ?_
 have h:=b8
 refine Sr (qu (Bv (decide (a2.Kind=0))) (eql Z Z) (qa (Bv (decide (a2.Kind=0))) (Nt (Ch h Z (fun b9 h=> ?_) (fun b9 h=> ?_)))))
 refine Ck ?_
 obtain rfl:=oi h
 exact Tj ⟨lr,Z,(d8 0),Z,Z,Z,Z,Z,Z⟩
 refine Cg (qu (Bv (decide (a2.Kind=1))) (eql Z Z) (qa (Bv (decide (a2.Kind=1))) (Wz ?_)))
 obtain rfl:=oi h
 exact Tj ⟨lr,Z,(d8 0),Z,Z,Z,Z,Z,Z⟩
 rintro f7 e2 f8 ⟨g,rfl,d,a,i,b,c,r,E⟩
 refine Ch h E (fun c0 h=> ?_) (fun c0 h=> ?_)
 obtain ⟨c1,c2,h⟩:=bnd h
 refine Jf (fun(p_:(QaB×Int)) D M' H'=>match p_ with |(s,m)=>∃ Y,e2.le M'∧[(P, .cells #[(Uv 0),(Bv false),Zs,Zs] 116 (0,0))]::[(O, .cells z84_.toArray 84 (0,0))]::[(q, .cells (l120 a2).toArray 120 (0,0))]::[(l, .cells (l84 a1).toArray 84 (0,0))]::[(Y, .cells (l84 s).toArray 84 (0,0))]::F=H'∧D 6=(pt O 0)∧D 7=(pt P 0)∧D 8=(pt Y 0)∧D 9=(Uv m)) c1 ?_ ?_
 have h:=c2
 refine WC.draw [0,0,0,4,12,31,63,127,127,0,767,2047] (.pure 0 (.pure 1 (.pure 2 (.pure 3 (.alt 4 (.alt 5 (.pure 6 (.pure 7 (.pure 8 (.alt 9 (.alt 10 (.pure 11 .done) .none) .none)))) (.alt 9 (.alt 5 (.pure 6 (.pure 7 (.pure 8 (.alt 10 (.pure 11 .done) .none)))) .none) .none)) (.alt 9 (.alt 4 (.alt 5 (.pure 6 (.pure 7 (.pure 8 (.alt 10 (.pure 11 .done) .none)))) .none) .none) .none)))))) Qc3 (by kernel_rfl) (qt N Z (Mv d) (qt (a84_ a1) Z (La (cs:=(l84 a1)) 3 ag84 sz84 a Z Z) (qt (pt q 1) Z (Fa QsN i Z) (qt (Iv a2.Most) Z (Lb 2 pl3 Z Z Z) ?_))))
 have c3:=h
 obtain ⟨a3,c4,h⟩:=bnd h
 refine Ta Z (Ca co87 (QdM a2.Most _ a3 c4) (Qb2 Z)) Z ?_ ?_
 rintro _ g0 _ t ⟨_,⟨rfl,rfl⟩,rfl⟩
 refine⟨(Sk 2 Z (Ss Z (La (cs:=(l84 a1)) 3 ag84 sz84 a Z Z) Z (Ss Z (Mv d) Z trivial))), ?_⟩
 refine WT.a0 ?_
 have c5:=h
 obtain ⟨⟨A,Q⟩,c6,h⟩:=bnd h
 have p:=p.mono (g.trans t)
 refine Ta Z (Ca co86 (QcX a0 a1 a3 _ _ p (A,Q) c6) (QcV Z Z Z)) Z ?_ ?_
 rintro _ g1 _ a4 ⟨_,⟨rfl,rfl⟩,rfl⟩
 refine⟨(Sl Z), ?_⟩
 refine WT.a0 (qt (.tuple #[(a84_ A),(Uv Q)]) Z (Mv Z) (qt (a84_ A) Z (Xt Z Z) (qt (Uv Q) Z (Xt Z Z) (Ta Z (Al ze84 Z) Z ?_ ?_))))
 rintro _ _ _ - ⟨rfl,e3,rfl,rfl⟩
 refine⟨(Ss Z (Xt Z Z) Z (Ss Z (Xt Z Z) Z (Ss Z (Mv Z) Z (Ss Z (Lb 3 pl3 Z Z Z) Z (Ss Z (Fa QsN i Z) Z (Ss Z (La (cs:=(l84 a1)) 4 ag84 sz84 a Z Z) Z (Ss Z (Mv d) Z trivial))))))), ?_⟩
 refine Ta Z (Sg (v:=(a84_ A)) (vl:=(l84 A)) (arr':=(l84 A)) Z sz84 Z Z (onb Z) Z Z Z) Z ?_ ?_
 rintro _ _ _ - ⟨rfl,rfl⟩
 refine⟨(Ss Z (Xt Z Z) Z (Sl Z)), ?_⟩
 refine qt (Uv Q) Z (Ag Z) (Ti (WQ.f4 (WQ.f4 (WQ.f4 (WQ.f4 ?_)))))
 obtain rfl:=oi h
 exact Tj ⟨e3,(t.trans a4),Z,b,c,Z,Z⟩
 exact Tz
 exact Tz
 have h:=c5
 refine Ta Z (Al ze84 Z) Z ?_ ?_
 rintro _ _ _ - ⟨rfl,e4,rfl,rfl⟩
 refine⟨(Ss Z (Lb 3 pl3 Z Z Z) Z (Ss Z (Fa QsN i Z) Z (Ss Z (La (cs:=(l84 a1)) 4 ag84 sz84 a Z Z) Z (Ss Z (Mv d) Z trivial)))), ?_⟩
 obtain ⟨⟨B,R⟩,c7,h⟩:=bnd h
 refine Ta Z (Ca co86 (QcX a0 a1 a3 _ _ p (B,R) c7) (QcV Z Z Z)) Z ?_ ?_
 rintro _ g2 _ a5 ⟨_,⟨rfl,rfl⟩,rfl⟩
 refine⟨(Sl Z), ?_⟩
 refine WT.a0 (qt (.tuple #[(a84_ B),(Uv R)]) Z (Mv Z) (qt (a84_ B) Z (Xt Z Z) (qt (Uv R) Z (Xt Z Z) (Ta Z (Sg (v:=(a84_ B)) (vl:=(l84 B)) (arr':=(l84 B)) Z sz84 Z Z (onb Z) Z Z Z) Z ?_ ?_))))
 rintro _ _ _ - ⟨rfl,rfl⟩
 refine⟨(Ss Z (Xt Z Z) Z (Sl Z)), ?_⟩
 refine qt (Uv R) Z (Ag Z) (Ti (WQ.f4 (WQ.f4 (WQ.f4 (WQ.f4 ?_)))))
 obtain rfl:=oi h
 exact Tj ⟨e4,(t.trans a5),Z,b,c,Z,Z⟩
 exact Tz
 exact Tz
 exact Tz
 have h:=c3
 refine Ta Z (Al ze84 Z) Z ?_ ?_
 rintro _ _ _ - ⟨rfl,e5,rfl,rfl⟩
 refine⟨(Ss Z (Lb 3 pl3 Z Z Z) Z (Ss Z (Fa QsN i Z) Z (Ss Z (La (cs:=(l84 a1)) 4 ag84 sz84 a Z Z) Z (Ss Z (Mv d) Z trivial)))), ?_⟩
 obtain ⟨c8,c9,h⟩:=bnd h
 refine Ta Z (Ca co87 (QdM a2.Most _ c8 c9) (Qb2 Z)) Z ?_ ?_
 rintro _ g3 _ G ⟨_,⟨rfl,rfl⟩,rfl⟩
 refine⟨(Sk 2 Z (Ss Z (La (cs:=(l84 a1)) 4 ag84 sz84 a Z Z) Z (Ss Z (Mv d) Z trivial))), ?_⟩
 refine WT.a0 ?_
 obtain ⟨⟨C,S⟩,d0,h⟩:=bnd h
 have p:=p.mono (g.trans G)
 refine Ta Z (Ca co86 (QcX a0 a1 c8 _ _ p (C,S) d0) (QcV Z Z Z)) Z ?_ ?_
 rintro _ g4 _ a6 ⟨_,⟨rfl,rfl⟩,rfl⟩
 refine⟨(Sl Z), ?_⟩
 refine WT.a0 (qt (.tuple #[(a84_ C),(Uv S)]) Z (Mv Z) (qt (a84_ C) Z (Xt Z Z) (qt (Uv S) Z (Xt Z Z) (Ta Z (Sg (v:=(a84_ C)) (vl:=(l84 C)) (arr':=(l84 C)) Z sz84 Z Z (onb Z) Z Z Z) Z ?_ ?_))))
 rintro _ _ _ - ⟨rfl,rfl⟩
 refine⟨(Ss Z (Xt Z Z) Z (Sl Z)), ?_⟩
 refine qt (Uv S) Z (Ag Z) (Ti (WQ.f4 (WQ.f4 (WQ.f4 (WQ.f4 ?_)))))
 obtain rfl:=oi h
 exact Tj ⟨e5,(G.trans a6),Z,b,c,Z,Z⟩
 exact Tz
 exact Tz
 exact Tz
 exact Tz
 obtain ⟨s,m⟩:=c1
 rintro g5 g6 g7 ⟨Y,a7,rfl,x,y,T,U⟩
 refine Sr (qu (a84_ s) (La (cs:=(l84 s)) 4 ag84 sz84 T Z Z) (qM (Uv m) U (qu (.agg #[(Uv m),(Bv false),Zs,Zs]) (Bl (cl:=[(Uv m),(Bv false),Zs,Zs]) Qi6 QxU (Pc (Uv m) Z Z Pz) Z) (WL.f1 (We (Sg (v:=(a84_ s)) (vl:=(l84 s)) (arr':=(l84 s)) Z sz84 x Z (onb Z) Z Z Z) Z ?_)))))
 rintro _ _ _ - ⟨rfl,rfl⟩
 refine WL.f1 (We (Sg (v:=(.agg #[(Uv m),(Bv false),Zs,Zs])) (vl:=[(Uv m),(Bv false),Zs,Zs]) (arr':=[(Uv m),(Bv false),Zs,Zs]) Z QgS y Z (onb Z) Z Z Z) Z ?_)
 rintro _ _ _ - ⟨rfl,rfl⟩
 refine Nt (Cr (Br (Tr (WQ.e0 (WQ.f3 (Dr (WQ.f3 (Dr (WQ.f3 (Dr (Qa ?_)))))))))))
 exact Qb (Rd h [[]] (fun _ hs=>hs.drop.drop) (QaP Z (RVs.cons (Rc (cs:=(l84 s)) 0 ag84 sz84 x Z Z) (RVs.cons (Rc (cs:=[(Uv m),(Bv false),Zs,Zs]) 1 Qy0 QgS y Z Z) RVs.nil))) (g.trans a7) ⟨Zs,Zs,[],Z,Z,RS.nil _ _,(OwnS.nil _ _)⟩)
 refine Sr (qu (Bv (decide (a2.Kind=2))) (eql r Z) (qa (Bv (decide (a2.Kind=2))) (Nt (Ch h Z (fun d1 h=> ?_) (fun d1 h=> ?_)))))
 refine Cs (Sr (qu (pt l 0) (Fa QfO a Z) (qu (Iv a1.At) (Lb 3 pl3 Z Z Z) (qM N d ?_))))
 have p:=p.mono g
 refine qu (Iv (a0.length:Int)) (lenS underlying22 Z p.len) (qu (Bv (decide ((a0.length:Int)≤a1.At))) (geq Z Z) (Nt (Ch h Z (fun d2 h=> ?_) (fun d2 h=> ?_))))
 refine Sr (qu (a84_ a1) (La (cs:=(l84 a1)) 3 ag84 sz84 a Z Z) (qu (pt l 0) (Fa QfO a Z) (qu (Iv a1.At) (Lb 3 pl3 Z Z Z) ?_)))
 obtain ⟨I,d3,h⟩:=bnd h
 refine We (Ca co88 (QeG a1 (⟨#[102,108,97,103]⟩:ByteArray) a1.At (3:Int) _ I d3) (QiO Z Z Z Z)) Z ?_
 rintro _ g8 _ a8 ⟨_,⟨rfl,rfl⟩,rfl⟩
 refine WL.a0 (qu (.agg #[(Uv 0),(Bv false),Zs,Zs]) (Bl (cl:=[(Uv 0),(Bv false),Zs,Zs]) Qi6 QxU Pz Z) (WL.f1 (We (Sg (v:=(a84_ I)) (vl:=(l84 I)) (arr':=(l84 I)) Z sz84 b Z (onb Z) Z Z Z) Z ?_)))
 rintro _ _ _ - ⟨rfl,rfl⟩
 refine WL.f1 (We (Sg (v:=(.agg #[(Uv 0),(Bv false),Zs,Zs])) (vl:=[(Uv 0),(Bv false),Zs,Zs]) (arr':=[(Uv 0),(Bv false),Zs,Zs]) Z QgS c Z (onb Z) Z Z Z) Z ?_)
 rintro _ _ _ - ⟨rfl,rfl⟩
 refine Nt (Cr (Tr (Br (Tr (WQ.e0 (WQ.f3 (Dr (WQ.f3 (Dr (Qa (Qb ?_)))))))))))
 exact Rd h [[]] (fun _ hs=>hs.drop.drop) (QaP Z (RVs.cons (Rc (cs:=(l84 I)) 0 ag84 sz84 b Z Z) (RVs.cons (Rc (cs:=[(Uv 0),(Bv false),Zs,Zs]) 1 Qy0 QgS c Z Z) RVs.nil))) (g.trans a8) ⟨Zs,Zs,[],Z,Z,RS.nil _ _,(OwnS.nil _ _)⟩
 refine Ck (Tc (Cs (Sr (qM N d (qu (pt l 0) (Fa QfO a Z) (qu (Iv a1.At) (Lb 3 pl3 Z Z Z) ?_))))))
 obtain ⟨z,h⟩:=Qa1 h
 obtain ⟨e6,e8,a9,b0,hhas85⟩:=p.at z.1 z.2 (by decide)
 obtain rfl:=b0
 refine qu (.pointer (some e6)) (indexAddr (n:=a0.length) underlying22 sz5 Z Z z.1 z.2 a9) (qu (Yv (rd a0 a1.At)) (loadM pl5 Z (IM.has0 hhas85)) (qu (Bv (decide ((1:Int)<(rd a0 a1.At)))) (gtr Z Z) (Nt (Ch h Z (fun d4 h=> ?_) (fun d4 h=> ?_)))))
 refine Sr (qu (a84_ a1) (La (cs:=(l84 a1)) 3 ag84 sz84 a Z Z) (qu (pt l 0) (Fa QfO a Z) (qu (Iv a1.At) (Lb 3 pl3 Z Z Z) ?_)))
 obtain ⟨J,d5,h⟩:=bnd h
 refine We (Ca co88 (QeG a1 (⟨#[102,108,97,103]⟩:ByteArray) a1.At (5:Int) _ J d5) (QiO Z Z Z Z)) Z ?_
 rintro _ g9 _ b1 ⟨_,⟨rfl,rfl⟩,rfl⟩
 refine WL.a0 (qu (.agg #[(Uv 0),(Bv false),Zs,Zs]) (Bl (cl:=[(Uv 0),(Bv false),Zs,Zs]) Qi6 QxU Pz Z) (WL.f1 (We (Sg (v:=(a84_ J)) (vl:=(l84 J)) (arr':=(l84 J)) Z sz84 b Z (onb Z) Z Z Z) Z ?_)))
 rintro _ _ _ - ⟨rfl,rfl⟩
 refine WL.f1 (We (Sg (v:=(.agg #[(Uv 0),(Bv false),Zs,Zs])) (vl:=[(Uv 0),(Bv false),Zs,Zs]) (arr':=[(Uv 0),(Bv false),Zs,Zs]) Z QgS c Z (onb Z) Z Z Z) Z ?_)
 rintro _ _ _ - ⟨rfl,rfl⟩
 refine Nt (Cr (Tr (Br (Tr (WQ.e0 (WQ.f3 (Dr (WQ.f3 (Dr (Qa (Qb ?_)))))))))))
 exact Rd h [[]] (fun _ hs=>hs.drop.drop) (QaP Z (RVs.cons (Rc (cs:=(l84 J)) 0 ag84 sz84 b Z Z) (RVs.cons (Rc (cs:=[(Uv 0),(Bv false),Zs,Zs]) 1 Qy0 QgS c Z Z) RVs.nil))) (g.trans b1) ⟨Zs,Zs,[],Z,Z,RS.nil _ _,(OwnS.nil _ _)⟩
 refine Ck (Tc (Cs (WC.draw [0,1,3,7,0,0,32,112,240,496,1008,15,4095] (.pure 0 (.pure 1 (.pure 2 (.pure 3 (.pure 4 (.pure 5 (.pure 6 (.pure 7 (.pure 8 (.pure 9 (.pure 10 (.alt 11 (.alt 12 .done .none) .none)))))))))))) Qc3 (by kernel_rfl) (qt (pt l 0) Z (Fa QfO a Z) (qt (Iv a1.At) Z (Lb 3 pl3 Z Z Z) (qt (Iv (i64.wrap (a1.At+1))) Z (add Z Z) (qt (.agg #[(Iv (i64.wrap (a1.At+1))),(Iv 0),(Sv ⟨#[]⟩),(Iv 0)]) Z (Bl (cl:=[(Iv (i64.wrap (a1.At+1))),(Iv 0),(Sv ⟨#[]⟩),(Iv 0)]) ze84 fp84 (Pc (Iv (i64.wrap (a1.At+1))) Z Z Pz) Z) (qt N Z (Mv d) (qt (pt l 0) Z (Fa QfO a Z) (qt (Iv a1.At) Z (Lb 3 pl3 Z Z Z) ?_))))))))))
 obtain ⟨o,h⟩:=Qa1 h
 obtain ⟨e7,e9,K,b2,hhas99⟩:=p.at o.1 o.2 (by decide)
 obtain rfl:=b2
 refine qt (.pointer (some e7)) Z (indexAddr (n:=a0.length) underlying22 sz5 Z Z o.1 o.2 K) (qt (Yv (rd a0 a1.At)) Z (loadM pl5 Z (IM.has0 hhas99)) (qt (Bv (decide ((rd a0 a1.At)=1))) Z (eql Z Z) (qt (.agg #[(Uv 0),(Bv (decide ((rd a0 a1.At)=1))),Zs,Zs]) Z (Bl (cl:=[(Uv 0),(Bv (decide ((rd a0 a1.At)=1))),Zs,Zs]) Qi6 QxU (Pc (Bv (decide ((rd a0 a1.At)=1))) Z Z Pz) Z) (WT.f1 (Ta Z (Sg (v:=(.agg #[(Iv (i64.wrap (a1.At+1))),(Iv 0),(Sv ⟨#[]⟩),(Iv 0)])) (vl:=[(Iv (i64.wrap (a1.At+1))),(Iv 0),(Sv ⟨#[]⟩),(Iv 0)]) (arr':=[(Iv (i64.wrap (a1.At+1))),(Iv 0),(Sv ⟨#[]⟩),(Iv 0)]) Z sz84 b Z (onb Z) Z Z Z) Z ?_ ?_)))))
 rintro _ _ _ - ⟨rfl,rfl⟩
 refine⟨(Ss Z (Bl (cl:=[(Uv 0),(Bv (decide ((rd a0 a1.At)=1))),Zs,Zs]) Qi6 QxU (Pc (Bv (decide ((rd a0 a1.At)=1))) Z Z Pz) Z) Z (Ss Z (eql Z Z) Z (Ss Z (loadM pl5 Z (IM.has0 hhas99)) Z (Ss Z (indexAddr (n:=a0.length) underlying22 sz5 Z Z o.1 o.2 K) Z (Ss Z (Lb 3 pl3 Z Z Z) Z (Ss Z (Fa QfO a Z) Z (Ss Z (Mv d) Z (Sl Z)))))))), ?_⟩
 refine WT.f1 (Ta Z (Sg (v:=(.agg #[(Uv 0),(Bv (decide ((rd a0 a1.At)=1))),Zs,Zs])) (vl:=[(Uv 0),(Bv (decide ((rd a0 a1.At)=1))),Zs,Zs]) (arr':=[(Uv 0),(Bv (decide ((rd a0 a1.At)=1))),Zs,Zs]) Z QgS c Z (onb Z) Z Z Z) Z ?_ ?_)
 rintro _ _ _ - ⟨rfl,rfl⟩
 refine⟨(Sl Z), ?_⟩
 refine Ti (Tc (Cr (Br (Tr (WQ.e0 (WQ.f3 (Dr (WQ.f3 (Dr (Qa (Qb ?_)))))))))))
 exact Rd h [[]] (fun _ hs=>hs.drop.drop) (QaP Z (RVs.cons (Rc (cs:=[(Iv (i64.wrap (a1.At+1))),(Iv 0),(Sv ⟨#[]⟩),(Iv 0)]) 0 ag84 sz84 b Z Z) (RVs.cons (Rc (cs:=[(Uv 0),(Bv (decide ((rd a0 a1.At)=1))),Zs,Zs]) 1 Qy0 QgS c Z Z) RVs.nil))) g ⟨Zs,Zs,[],Z,Z,RS.nil _ _,(OwnS.nil _ _)⟩
 exact Tz
 exact Tz
 refine Sr (qu (Bv (decide (a2.Kind=3))) (eql r Z) (qa (Bv (decide (a2.Kind=3))) (Nt (Ch h Z (fun b3 h=> ?_) (fun b3 h=> ?_)))))
 refine Sr (qM N d (qu (a84_ a1) (La (cs:=(l84 a1)) 3 ag84 sz84 a Z Z) (qu (pt q 1) (Fa QsN i Z) (qu (Iv a2.Most) (Lb 2 pl3 Z Z Z) ?_))))
 obtain ⟨⟨j,d6⟩,b4,h⟩:=bnd h
 have p:=p.mono g
 refine We (Ca co89 (Qu5 a0 a1 a2.Most _ _ p (j,d6) b4) (QcV Z Z Z)) Z ?_
 rintro _ f0 _ V ⟨_,⟨e,rfl,rfl,u⟩,rfl⟩
 refine WL.a0 (qm (.tuple #[(a84_ j),e]) (qu (a84_ j) (Xt Z Z) (qu e (Xt Z Z) (We (Al ze84 Z) Z ?_))))
 rintro _ _ _ - ⟨rfl,f2,rfl,rfl⟩
 refine We (Sg (v:=(a84_ j)) (vl:=(l84 j)) (arr':=(l84 j)) Z sz84 Z Z (onb Z) Z Z Z) Z ?_
 rintro _ _ _ - ⟨rfl,rfl⟩
 refine qa e (Ns (qu (a84_ j) (La (cs:=(l84 j)) 0 ag84 sz84 Z Z Z) (qm e (qu (.agg #[(Uv 0),(Bv false),e,Zs]) (Bl (cl:=[(Uv 0),(Bv false),e,Zs]) Qi6 QxU (Parts.cons ((congrArg Value.cells (show ev _ _=e from Z)).trans u.cells) Pz) Z) (Wb (We (Sg (v:=(a84_ j)) (vl:=(l84 j)) (arr':=(l84 j)) Z sz84 b Z (onb Z) Z Z Z) Z ?_))))))
 rintro _ _ _ - ⟨rfl,rfl⟩
 refine Wb (We (Sg (v:=(.agg #[(Uv 0),(Bv false),e,Zs])) (vl:=[(Uv 0),(Bv false),e,Zs]) (arr':=[(Uv 0),(Bv false),e,Zs]) Z QgS c Z (QaX (Oc Z (Oc Z (Oc (RS.one u) (Oc Z Oz))))) Z Z Z) Z ?_)
 rintro _ _ _ - ⟨rfl,rfl⟩
 refine Nt (Cr (Br (Tr (WQ.e0 (WQ.f3 (Dr (WQ.f3 (Dr (WQ.f3 (Dr (Qa ?_)))))))))))
 exact Qb (Rd h [[]] (fun _ hs=>hs.drop.drop) (QaP Z (RVs.cons (Rc (cs:=(l84 j)) 0 ag84 sz84 b Z Z) (RVs.cons (Rc (cs:=[(Uv 0),(Bv false),e,Zs]) 1 Qy0 QgS c Z Z) RVs.nil))) (g.trans V) ⟨e,Zs,[],Z,Z,u,(OwnS.nil _ _)⟩)
 refine Ck (Bn (Tc (Sr (qM N d (qu (a84_ a1) (La (cs:=(l84 a1)) 3 ag84 sz84 a Z Z) (qu (pt q 1) (Fa QsN i Z) (qu (Iv a2.Most) (Lb 2 pl3 Z Z Z) (qu (pt q 2) (Fa Q4M i Z) (qu (Iv a2.Each) (Lb 2 pl3 Z Z Z) ?_)))))))))
 obtain ⟨⟨k,d7⟩,b5,h⟩:=bnd h
 have p:=p.mono g
 refine We (Ca co90 (QvU a0 a1 a2.Most a2.Each _ _ p (k,d7) b5) (QiO Z Z Z Z)) Z ?_
 rintro _ f5 _ W ⟨_,⟨f,L,rfl,rfl,w⟩,rfl⟩
 refine WL.a1 (qm (.tuple #[(a84_ k),f]) (qu (a84_ k) (Xt Z Z) (qu f (Xt Z Z) (We (Al ze84 Z) Z ?_))))
 rintro _ _ _ - ⟨rfl,f6,rfl,rfl⟩
 refine We (Sg (v:=(a84_ k)) (vl:=(l84 k)) (arr':=(l84 k)) Z sz84 Z Z (onb Z) Z Z Z) Z ?_
 rintro _ _ _ - ⟨rfl,rfl⟩
 refine qa f (Ns (qu (a84_ k) (La (cs:=(l84 k)) 0 ag84 sz84 Z Z Z) (qm f (qu (.agg #[(Uv 0),(Bv false),Zs,f]) (Bl (cl:=[(Uv 0),(Bv false),Zs,f]) Qi6 QxU (Parts.cons ((congrArg Value.cells (show ev _ _=f from Z)).trans w.cells) Pz) Z) (WL.f3 (We (Sg (v:=(a84_ k)) (vl:=(l84 k)) (arr':=(l84 k)) Z sz84 b Z (onb Z) Z Z Z) Z ?_))))))
 rintro _ _ _ - ⟨rfl,rfl⟩
 refine WL.f3 (We (Sg (v:=(.agg #[(Uv 0),(Bv false),Zs,f])) (vl:=[(Uv 0),(Bv false),Zs,f]) (arr':=[(Uv 0),(Bv false),Zs,f]) Z QgS c Z (QaX (Oc Z (Oc Z (Oc Z (Oc (Ow w) Oz))))) Z Z Z) Z ?_)
 rintro _ _ _ - ⟨rfl,rfl⟩
 exact Nt (Cr (Qb (Dr (WQ.f3 (Dr (WQ.f3 (Dr (Qb (Qa (Qb (Rd h [L] (fun _ hs=>hs.drop.drop) (QaP Z (RVs.cons (Rc (cs:=(l84 k)) 0 ag84 sz84 b Z Z) (RVs.cons (Rc (cs:=[(Uv 0),(Bv false),Zs,f]) 1 Qy0 QgS c Z Z) RVs.nil))) (g.trans W) ⟨Zs,f,L,Z,Z,RS.nil _ _,w⟩)))))))))))
noncomputable def QaY (a0:QaF) (a1:Int):Option (Int×Int×Int×ByteArray×Int):=
 ((((QcA a0.B a0.S (⟨(1:Int),a1,(0:Int)⟩:Qa8)).bind fun(c,a)=>(some (c,a.Num,a.Flag,a.Text,a.Row))):Option (QaB×Int×Bool×(List Int)×(List Int))).bind fun(b,d,e,f,g)=>(some (i64.wrap d,b.At,b.Code,b.Op,b.Where)))
def QmH (a0:QaF) (a1:Int) (a:Value) (b:Nat):(Int×Int×Int×ByteArray×Int)→Value→IM→HL→Prop:=
 fun(c:(Int×Int×Int×ByteArray×Int)) (v:Value) (k:IM) (d:HL)=>match c with |(e,f,g,i,j)=>(.int .i64 e)=v∧d=[[(b, .cells #[a,(.int .i64 f),(.int .i64 g),(.string i),(.int .i64 j)] 86 (0,0))]]
theorem Qa3 (a0:QaF) (a1:Int) (M:IM) (p:Value) (t:Nat) (s:RS (Kd.int .u8) M p a0.B) (b3:(Int×Int×Int×ByteArray×Int)) (h:QaY a0 a1=some b3):
 Tri prog 35 #[(pt t 0),(Iv a1)] M [[(t, .cells (l86 a0 p).toArray 86 (0,0))]] (QmH a0 a1 p t b3):=by
 unfold QaY at h
 refine Te func35 Z Z ?_
 intro F ρ c
 refine Sr (qa (Iv 0) (Nt ?_))
 obtain ⟨b4,b5,h⟩:=bnd h
 refine Jf (fun(p_:(QaB×Int×Bool×(List Int)×(List Int))) d1 M' H'=>match p_ with |(m,Q,b6,b7,b8)=>∃ a7 W R T U,M.le M'∧[(t, .cells (l86 a0 p).toArray 86 (0,0))]::[(a7, .cells (l84 m).toArray 84 (0,0))]::[(W, .cells #[(Uv Q),(Bv b6),R,T] 116 (0,0))]::U::F=H'∧d1 0=(pt t 0)∧d1 5=(pt a7 0)∧d1 6=(pt W 0)∧RS (Kd.int .u8) M' R b7∧OwnS (Kd.int .i64) M' T b8 U) b4 ?_ ?_
 have h:=b5
 refine WC.draw [0,1,3,7,0,16,48,112,0,256,1023,2047,4095,4095,0,0,57343,131071] (.pure 0 (.pure 1 (.pure 2 (.pure 3 (.pure 4 (.pure 5 (.pure 6 (.pure 7 (.pure 8 (.pure 9 (.alt 10 (.pure 11 (.pure 12 (.pure 13 (.alt 14 (.alt 15 (.alt 16 (.alt 17 .done .none) .none) .none) (.alt 15 (.alt 14 (.alt 16 (.alt 17 .done .none) .none) .none) .none))))) (.alt 14 (.alt 10 (.pure 11 (.pure 12 (.pure 13 (.alt 15 (.alt 16 (.alt 17 .done .none) .none) .none)))) (.alt 15 (.alt 10 (.pure 11 (.pure 12 (.pure 13 (.alt 16 (.alt 17 .done .none) .none)))) .none) .none)) (.alt 15 (.alt 10 (.pure 11 (.pure 12 (.pure 13 (.alt 14 (.alt 16 (.alt 17 .done .none) .none) .none)))) (.alt 14 (.alt 10 (.pure 11 (.pure 12 (.pure 13 (.alt 16 (.alt 17 .done .none) .none)))) .none) .none)) .none))))))))))))) Qc3 (by kernel_rfl) (qt (pt t 0) Z (Mv (c 0)) (qt (pt t 0) Z (Nk Z) (qt (pt t 0) Z (Fa Qc2 Z Z) (qt p Z (Lb 0 pl22 Z Z Z) (qt (pt t 0) Z (Mv (c 0)) (qt (pt t 0) Z (Nk Z) (qt (pt t 1) Z (Fa Qb1 Z Z) (qt (a84_ a0.S) Z (La (cs:=(l84 a0.S)) 0 ag84 sz84 Z Z Z) (qt (Iv a1) Z (Mv (c 1)) (qt (.agg #[(Iv 1),(Iv a1),(Iv 0)]) Z (Bl (cl:=[(Iv 1),(Iv a1),(Iv 0)]) QfJ QfI (Pc (Iv 1) Z Z (Pc (Iv a1) Z Z Pz)) Z) ?_))))))))))
 have b9:=h
 obtain ⟨⟨q,r⟩,c0,h⟩:=bnd h
 refine Ta Z (Ca co59 (QbE a0.B a0.S (⟨(1:Int),a1,(0:Int)⟩:Qa8) _ _ s (q,r) c0) (QcV Z Z Z)) Z ?_ ?_
 rintro _ e5 _ V ⟨_,⟨a,b,u,rfl,rfl,n,o⟩,rfl⟩
 refine⟨(Sl Z), ?_⟩
 refine WT.a1 (qt (.tuple #[(a84_ q),(QdA r a b)]) Z (Mv Z) (qt (a84_ q) Z (Xt Z Z) (qt (QdA r a b) Z (Xt Z Z) ?_)))
 have c1:=h
 refine Ta Z (Al ze84 Z) Z ?_ ?_
 rintro _ _ _ - ⟨rfl,d3,rfl,rfl⟩
 refine⟨(Ss Z (Xt Z Z) Z (Ss Z (Xt Z Z) Z (Ss Z (Mv Z) Z (Ss Z (Bl (cl:=[(Iv 1),(Iv a1),(Iv 0)]) QfJ QfI (Pc (Iv 1) Z Z (Pc (Iv a1) Z Z Pz)) Z) Z (Ss Z (Mv (c 1)) Z (Ss Z (La (cs:=(l84 a0.S)) 2 ag84 sz84 Z Z Z) Z (Ss Z (Fa Qb1 Z Z) Z (Ss Z (Nk Z) Z (Ss Z (Mv (c 0)) Z (Ss Z (Lb 2 pl22 Z Z Z) Z (Ss Z (Fa Qc2 Z Z) Z (Ss Z (Nk Z) Z (Ss Z (Mv (c 0)) Z trivial))))))))))))), ?_⟩
 refine Ta Z (Al Qi6 Z) Z ?_ ?_
 rintro _ _ _ - ⟨rfl,d4,rfl,rfl⟩
 refine⟨(Ss Z (Xt Z Z) Z (Ss Z (Xt Z Z) Z (Ss Z (Mv Z) Z (Ss Z (Bl (cl:=[(Iv 1),(Iv a1),(Iv 0)]) QfJ QfI (Pc (Iv 1) Z Z (Pc (Iv a1) Z Z Pz)) Z) Z (Ss Z (Mv (c 1)) Z (Ss Z (La (cs:=(l84 a0.S)) 3 ag84 sz84 Z Z Z) Z (Ss Z (Fa Qb1 Z Z) Z (Ss Z (Nk Z) Z (Ss Z (Mv (c 0)) Z (Ss Z (Lb 3 pl22 Z Z Z) Z (Ss Z (Fa Qc2 Z Z) Z (Ss Z (Nk Z) Z (Ss Z (Mv (c 0)) Z trivial))))))))))))), ?_⟩
 refine WT.f1 (Ta Z (Sg (v:=(a84_ q)) (vl:=(l84 q)) (arr':=(l84 q)) Z sz84 Z Z (onb Z) Z Z Z) Z ?_ ?_)
 rintro _ _ _ - ⟨rfl,rfl⟩
 refine⟨(Ss Z (Xt Z Z) Z (Sl Z)), ?_⟩
 refine WT.f1 (Ta Z (Sg (v:=(QdA r a b)) (vl:=(l116 r a b)) (arr':=(l116 r a b)) Z QgS Z Z (QaX (Oc Z (Oc Z (Oc (RS.one n) (Oc (Ow o) Oz))))) Z Z Z) Z ?_ ?_)
 rintro _ _ _ - ⟨rfl,rfl⟩
 refine⟨(Sl Z), ?_⟩
 refine Ti (Qb (Qa (Qb (WQ.f3 ?_))))
 obtain rfl:=oi h
 exact Tj ⟨d3,d4,a,b,u,V,Z,(c 0),Z,Z,n,o⟩
 exact Tz
 exact Tz
 exact Tz
 have h:=c1
 refine Ta Z (Al Qi6 Z) Z ?_ ?_
 rintro _ _ _ - ⟨rfl,d5,rfl,rfl⟩
 refine⟨(Ss Z (Xt Z Z) Z (Ss Z (Xt Z Z) Z (Ss Z (Mv Z) Z (Ss Z (Bl (cl:=[(Iv 1),(Iv a1),(Iv 0)]) QfJ QfI (Pc (Iv 1) Z Z (Pc (Iv a1) Z Z Pz)) Z) Z (Ss Z (Mv (c 1)) Z (Ss Z (La (cs:=(l84 a0.S)) 2 ag84 sz84 Z Z Z) Z (Ss Z (Fa Qb1 Z Z) Z (Ss Z (Nk Z) Z (Ss Z (Mv (c 0)) Z (Ss Z (Lb 2 pl22 Z Z Z) Z (Ss Z (Fa Qc2 Z Z) Z (Ss Z (Nk Z) Z (Ss Z (Mv (c 0)) Z trivial))))))))))))), ?_⟩
 refine Ta Z (Al ze84 Z) Z ?_ ?_
 rintro _ _ _ - ⟨rfl,d6,rfl,rfl⟩
 refine⟨(Ss Z (Xt Z Z) Z (Ss Z (Xt Z Z) Z (Ss Z (Mv Z) Z (Ss Z (Bl (cl:=[(Iv 1),(Iv a1),(Iv 0)]) QfJ QfI (Pc (Iv 1) Z Z (Pc (Iv a1) Z Z Pz)) Z) Z (Ss Z (Mv (c 1)) Z (Ss Z (La (cs:=(l84 a0.S)) 3 ag84 sz84 Z Z Z) Z (Ss Z (Fa Qb1 Z Z) Z (Ss Z (Nk Z) Z (Ss Z (Mv (c 0)) Z (Ss Z (Lb 3 pl22 Z Z Z) Z (Ss Z (Fa Qc2 Z Z) Z (Ss Z (Nk Z) Z (Ss Z (Mv (c 0)) Z trivial))))))))))))), ?_⟩
 refine Ta Z (Sg (v:=(a84_ q)) (vl:=(l84 q)) (arr':=(l84 q)) Z sz84 Z Z (onb Z) Z Z Z) Z ?_ ?_
 rintro _ _ _ - ⟨rfl,rfl⟩
 refine⟨(Ss Z (Xt Z Z) Z (Sl Z)), ?_⟩
 refine WT.f1 (Ta Z (Sg (v:=(QdA r a b)) (vl:=(l116 r a b)) (arr':=(l116 r a b)) Z QgS Z Z (QaX (Oc Z (Oc Z (Oc (RS.one n) (Oc (Ow o) Oz))))) Z Z Z) Z ?_ ?_)
 rintro _ _ _ - ⟨rfl,rfl⟩
 refine⟨(Sl Z), ?_⟩
 refine Ti (Qb (Qa (Qb (WQ.f3 ?_))))
 obtain rfl:=oi h
 exact Tj ⟨d6,d5,a,b,u,V,Z,(c 0),Z,Z,n,o⟩
 exact Tz
 exact Tz
 exact Tz
 exact Tz
 have h:=b9
 have c2:=h
 refine Ta Z (Al ze84 Z) Z ?_ ?_
 rintro _ _ _ - ⟨rfl,c3,rfl,rfl⟩
 refine⟨(Ss Z (Bl (cl:=[(Iv 1),(Iv a1),(Iv 0)]) QfJ QfI (Pc (Iv 1) Z Z (Pc (Iv a1) Z Z Pz)) Z) Z (Ss Z (Mv (c 1)) Z (Ss Z (La (cs:=(l84 a0.S)) 1 ag84 sz84 Z Z Z) Z (Ss Z (Fa Qb1 Z Z) Z (Ss Z (Nk Z) Z (Ss Z (Mv (c 0)) Z (Ss Z (Lb 1 pl22 Z Z Z) Z (Ss Z (Fa Qc2 Z Z) Z (Ss Z (Nk Z) Z (Ss Z (Mv (c 0)) Z trivial)))))))))), ?_⟩
 have c4:=h
 obtain ⟨⟨G,I⟩,c5,h⟩:=bnd h
 refine Ta Z (Ca co59 (QbE a0.B a0.S (⟨(1:Int),a1,(0:Int)⟩:Qa8) _ _ s (G,I) c5) (QcV Z Z Z)) Z ?_ ?_
 rintro _ e6 _ a8 ⟨_,⟨d,e,X,rfl,rfl,w,x⟩,rfl⟩
 refine⟨(Sl Z), ?_⟩
 refine WT.a1 (qt (.tuple #[(a84_ G),(QdA I d e)]) Z (Mv Z) (qt (a84_ G) Z (Xt Z Z) (qt (QdA I d e) Z (Xt Z Z) (Ta Z (Al Qi6 Z) Z ?_ ?_))))
 rintro _ _ _ - ⟨rfl,d7,rfl,rfl⟩
 refine⟨(Ss Z (Xt Z Z) Z (Ss Z (Xt Z Z) Z (Ss Z (Mv Z) Z (Ss Z (Bl (cl:=[(Iv 1),(Iv a1),(Iv 0)]) QfJ QfI (Pc (Iv 1) Z Z (Pc (Iv a1) Z Z Pz)) Z) Z (Ss Z (Mv (c 1)) Z (Ss Z (La (cs:=(l84 a0.S)) 3 ag84 sz84 Z Z Z) Z (Ss Z (Fa Qb1 Z Z) Z (Ss Z (Nk Z) Z (Ss Z (Mv (c 0)) Z (Ss Z (Lb 3 pl22 Z Z Z) Z (Ss Z (Fa Qc2 Z Z) Z (Ss Z (Nk Z) Z (Ss Z (Mv (c 0)) Z trivial))))))))))))), ?_⟩
 refine WT.f2 (Ta Z (Sg (v:=(a84_ G)) (vl:=(l84 G)) (arr':=(l84 G)) Z sz84 Z Z (onb Z) Z Z Z) Z ?_ ?_)
 rintro _ _ _ - ⟨rfl,rfl⟩
 refine⟨(Ss Z (Xt Z Z) Z (Sl Z)), ?_⟩
 refine WT.f1 (Ta Z (Sg (v:=(QdA I d e)) (vl:=(l116 I d e)) (arr':=(l116 I d e)) Z QgS Z Z (QaX (Oc Z (Oc Z (Oc (RS.one w) (Oc (Ow x) Oz))))) Z Z Z) Z ?_ ?_)
 rintro _ _ _ - ⟨rfl,rfl⟩
 refine⟨(Sl Z), ?_⟩
 refine Ti (Qb (Qa (Qb (WQ.f3 ?_))))
 obtain rfl:=oi h
 exact Tj ⟨c3,d7,d,e,X,a8,Z,(c 0),Z,Z,w,x⟩
 exact Tz
 exact Tz
 exact Tz
 have h:=c4
 refine Ta Z (Al Qi6 Z) Z ?_ ?_
 rintro _ _ _ - ⟨rfl,d8,rfl,rfl⟩
 refine⟨(Ss Z (Bl (cl:=[(Iv 1),(Iv a1),(Iv 0)]) QfJ QfI (Pc (Iv 1) Z Z (Pc (Iv a1) Z Z Pz)) Z) Z (Ss Z (Mv (c 1)) Z (Ss Z (La (cs:=(l84 a0.S)) 2 ag84 sz84 Z Z Z) Z (Ss Z (Fa Qb1 Z Z) Z (Ss Z (Nk Z) Z (Ss Z (Mv (c 0)) Z (Ss Z (Lb 2 pl22 Z Z Z) Z (Ss Z (Fa Qc2 Z Z) Z (Ss Z (Nk Z) Z (Ss Z (Mv (c 0)) Z trivial)))))))))), ?_⟩
 obtain ⟨⟨J,K⟩,c6,h⟩:=bnd h
 refine Ta Z (Ca co59 (QbE a0.B a0.S (⟨(1:Int),a1,(0:Int)⟩:Qa8) _ _ s (J,K) c6) (QcV Z Z Z)) Z ?_ ?_
 rintro _ e7 _ a9 ⟨_,⟨f,g,Y,rfl,rfl,y,z⟩,rfl⟩
 refine⟨(Sl Z), ?_⟩
 refine WT.a1 (qt (.tuple #[(a84_ J),(QdA K f g)]) Z (Mv Z) (qt (a84_ J) Z (Xt Z Z) (qt (QdA K f g) Z (Xt Z Z) (WT.f2 (Ta Z (Sg (v:=(a84_ J)) (vl:=(l84 J)) (arr':=(l84 J)) Z sz84 Z Z (onb Z) Z Z Z) Z ?_ ?_)))))
 rintro _ _ _ - ⟨rfl,rfl⟩
 refine⟨(Ss Z (Xt Z Z) Z (Sl Z)), ?_⟩
 refine WT.f2 (Ta Z (Sg (v:=(QdA K f g)) (vl:=(l116 K f g)) (arr':=(l116 K f g)) Z QgS Z Z (QaX (Oc Z (Oc Z (Oc (RS.one y) (Oc (Ow z) Oz))))) Z Z Z) Z ?_ ?_)
 rintro _ _ _ - ⟨rfl,rfl⟩
 refine⟨(Sl Z), ?_⟩
 refine Ti (Qb (Qa (Qb (WQ.f3 ?_))))
 obtain rfl:=oi h
 exact Tj ⟨c3,d8,f,g,Y,a9,Z,(c 0),Z,Z,y,z⟩
 exact Tz
 exact Tz
 exact Tz
 exact Tz
 have h:=c2
 refine Ta Z (Al Qi6 Z) Z ?_ ?_
 rintro _ _ _ - ⟨rfl,c7,rfl,rfl⟩
 refine⟨(Ss Z (Bl (cl:=[(Iv 1),(Iv a1),(Iv 0)]) QfJ QfI (Pc (Iv 1) Z Z (Pc (Iv a1) Z Z Pz)) Z) Z (Ss Z (Mv (c 1)) Z (Ss Z (La (cs:=(l84 a0.S)) 1 ag84 sz84 Z Z Z) Z (Ss Z (Fa Qb1 Z Z) Z (Ss Z (Nk Z) Z (Ss Z (Mv (c 0)) Z (Ss Z (Lb 1 pl22 Z Z Z) Z (Ss Z (Fa Qc2 Z Z) Z (Ss Z (Nk Z) Z (Ss Z (Mv (c 0)) Z trivial)))))))))), ?_⟩
 have c8:=h
 obtain ⟨⟨L,N⟩,c9,h⟩:=bnd h
 refine Ta Z (Ca co59 (QbE a0.B a0.S (⟨(1:Int),a1,(0:Int)⟩:Qa8) _ _ s (L,N) c9) (QcV Z Z Z)) Z ?_ ?_
 rintro _ e8 _ b0 ⟨_,⟨i,j,a2,rfl,rfl,A,C⟩,rfl⟩
 refine⟨(Sl Z), ?_⟩
 refine WT.a1 (qt (.tuple #[(a84_ L),(QdA N i j)]) Z (Mv Z) (qt (a84_ L) Z (Xt Z Z) (qt (QdA N i j) Z (Xt Z Z) (Ta Z (Al ze84 Z) Z ?_ ?_))))
 rintro _ _ _ - ⟨rfl,d9,rfl,rfl⟩
 refine⟨(Ss Z (Xt Z Z) Z (Ss Z (Xt Z Z) Z (Ss Z (Mv Z) Z (Ss Z (Bl (cl:=[(Iv 1),(Iv a1),(Iv 0)]) QfJ QfI (Pc (Iv 1) Z Z (Pc (Iv a1) Z Z Pz)) Z) Z (Ss Z (Mv (c 1)) Z (Ss Z (La (cs:=(l84 a0.S)) 3 ag84 sz84 Z Z Z) Z (Ss Z (Fa Qb1 Z Z) Z (Ss Z (Nk Z) Z (Ss Z (Mv (c 0)) Z (Ss Z (Lb 3 pl22 Z Z Z) Z (Ss Z (Fa Qc2 Z Z) Z (Ss Z (Nk Z) Z (Ss Z (Mv (c 0)) Z trivial))))))))))))), ?_⟩
 refine Ta Z (Sg (v:=(a84_ L)) (vl:=(l84 L)) (arr':=(l84 L)) Z sz84 Z Z (onb Z) Z Z Z) Z ?_ ?_
 rintro _ _ _ - ⟨rfl,rfl⟩
 refine⟨(Ss Z (Xt Z Z) Z (Sl Z)), ?_⟩
 refine WT.f2 (Ta Z (Sg (v:=(QdA N i j)) (vl:=(l116 N i j)) (arr':=(l116 N i j)) Z QgS Z Z (QaX (Oc Z (Oc Z (Oc (RS.one A) (Oc (Ow C) Oz))))) Z Z Z) Z ?_ ?_)
 rintro _ _ _ - ⟨rfl,rfl⟩
 refine⟨(Sl Z), ?_⟩
 refine Ti (Qb (Qa (Qb (WQ.f3 ?_))))
 obtain rfl:=oi h
 exact Tj ⟨d9,c7,i,j,a2,b0,Z,(c 0),Z,Z,A,C⟩
 exact Tz
 exact Tz
 exact Tz
 have h:=c8
 refine Ta Z (Al ze84 Z) Z ?_ ?_
 rintro _ _ _ - ⟨rfl,e0,rfl,rfl⟩
 refine⟨(Ss Z (Bl (cl:=[(Iv 1),(Iv a1),(Iv 0)]) QfJ QfI (Pc (Iv 1) Z Z (Pc (Iv a1) Z Z Pz)) Z) Z (Ss Z (Mv (c 1)) Z (Ss Z (La (cs:=(l84 a0.S)) 2 ag84 sz84 Z Z Z) Z (Ss Z (Fa Qb1 Z Z) Z (Ss Z (Nk Z) Z (Ss Z (Mv (c 0)) Z (Ss Z (Lb 2 pl22 Z Z Z) Z (Ss Z (Fa Qc2 Z Z) Z (Ss Z (Nk Z) Z (Ss Z (Mv (c 0)) Z trivial)))))))))), ?_⟩
 obtain ⟨⟨O,P⟩,d0,h⟩:=bnd h
 refine Ta Z (Ca co59 (QbE a0.B a0.S (⟨(1:Int),a1,(0:Int)⟩:Qa8) _ _ s (O,P) d0) (QcV Z Z Z)) Z ?_ ?_
 rintro _ e9 _ b1 ⟨_,⟨k,l,a3,rfl,rfl,D,E⟩,rfl⟩
 refine⟨(Sl Z), ?_⟩
 refine WT.a1 (qt (.tuple #[(a84_ O),(QdA P k l)]) Z (Mv Z) (qt (a84_ O) Z (Xt Z Z) (qt (QdA P k l) Z (Xt Z Z) (WT.f1 (Ta Z (Sg (v:=(a84_ O)) (vl:=(l84 O)) (arr':=(l84 O)) Z sz84 Z Z (onb Z) Z Z Z) Z ?_ ?_)))))
 rintro _ _ _ - ⟨rfl,rfl⟩
 refine⟨(Ss Z (Xt Z Z) Z (Sl Z)), ?_⟩
 refine WT.f2 (Ta Z (Sg (v:=(QdA P k l)) (vl:=(l116 P k l)) (arr':=(l116 P k l)) Z QgS Z Z (QaX (Oc Z (Oc Z (Oc (RS.one D) (Oc (Ow E) Oz))))) Z Z Z) Z ?_ ?_)
 rintro _ _ _ - ⟨rfl,rfl⟩
 refine⟨(Sl Z), ?_⟩
 refine Ti (Qb (Qa (Qb (WQ.f3 ?_))))
 obtain rfl:=oi h
 exact Tj ⟨e0,c7,k,l,a3,b1,Z,(c 0),Z,Z,D,E⟩
 exact Tz
 exact Tz
 exact Tz
 exact Tz
 exact Tz
 obtain ⟨m,Q,b6,b7,b8⟩:=b4
 rintro f0 f4 f5 ⟨a7,W,R,T,U,b2,rfl,a4,a5,a6,e1,e2⟩
 refine Sr (qM (pt t 0) a4 (qu (a84_ m) (La (cs:=(l84 m)) 1 ag84 sz84 a5 Z Z) (qu (pt t 0) (Nk Z) (qu (pt t 1) (Fa Qb1 Z Z) (We (Sg (v:=(a84_ m)) (vl:=(l84 m)) (arr':=[p,(Iv m.At),(Iv m.Code),(Sv m.Op),(Iv m.Where)]) Z sz84 Z Z (onb Z) Z Z Z) Z ?_)))))
 rintro _ _ _ - ⟨rfl,rfl⟩
 refine Ns (qu (pt W 0) (Fa Q4H a6 Z) (qu (Uv Q) (Lb 2 Q1M Z Z Z) (qu (Iv (i64.wrap Q)) (conv QlR underlying3 Z) (qa (Iv (i64.wrap Q)) (Nt (Cr (Qa (Dr (Qa (Dr (Qa ?_)))))))))))
 exact Dr (Rf h [[(t, .cells #[p,(Iv m.At),(Iv m.Code),(Sv m.Op),(Iv m.Where)] 86 (0,0))]] Z (Rs Z Z) b2 ⟨Z,Z⟩)
noncomputable def Qb8 (a0:QaF) (a1:Int):Option ((List Int)×Int×Int×ByteArray×Int):=
 ((((QcA a0.B a0.S (⟨(3:Int),a1,(0:Int)⟩:Qa8)).bind fun(c,a)=>(some (c,a.Num,a.Flag,a.Text,a.Row))):Option (QaB×Int×Bool×(List Int)×(List Int))).bind fun(b,e,f,d,g)=>(some (d,b.At,b.Code,b.Op,b.Where)))
def QlZ (a0:QaF) (a1:Int) (a:Value) (c:Nat):((List Int)×Int×Int×ByteArray×Int)→Value→IM→HL→Prop:=
 fun(d:((List Int)×Int×Int×ByteArray×Int)) (v:Value) (e:IM) (f:HL)=>match d with |(g,i,j,k,l)=>∃ b,b=v∧f=[[(c, .cells #[a,(.int .i64 i),(.int .i64 j),(.string k),(.int .i64 l)] 86 (0,0))]]∧RS (Kd.int .u8) e b g
theorem QeT (a0:QaF) (a1:Int) (M:IM) (p:Value) (u:Nat) (t:RS (Kd.int .u8) M p a0.B) (b2:((List Int)×Int×Int×ByteArray×Int)) (h:Qb8 a0 a1=some b2):
 Tri prog 38 #[(pt u 0),(Iv a1)] M [[(u, .cells (l86 a0 p).toArray 86 (0,0))]] (QlZ a0 a1 p u b2):=by
 unfold Qb8 at h
 refine Te func38 Z Z ?_
 intro F ρ c
 refine Sr (qa Zs (Nt ?_))
 obtain ⟨b3,b4,h⟩:=bnd h
 refine Jf (fun(p_:(QaB×Int×Bool×(List Int)×(List Int))) d2 M' H'=>match p_ with |(m,b5,b6,b7,b8)=>∃ a6 V q R T,M.le M'∧[(u, .cells (l86 a0 p).toArray 86 (0,0))]::[(a6, .cells (l84 m).toArray 84 (0,0))]::[(V, .cells #[(Uv b5),(Bv b6),q,R] 116 (0,0))]::T::F=H'∧d2 0=(pt u 0)∧d2 5=(pt a6 0)∧d2 6=(pt V 0)∧RS (Kd.int .u8) M' q b7∧OwnS (Kd.int .i64) M' R b8 T) b3 ?_ ?_
 have h:=b4
 refine WC.draw [0,1,3,7,0,16,48,112,0,256,1023,2047,4095,4095,0,0,57343,131071] (.pure 0 (.pure 1 (.pure 2 (.pure 3 (.pure 4 (.pure 5 (.pure 6 (.pure 7 (.pure 8 (.pure 9 (.alt 10 (.pure 11 (.pure 12 (.pure 13 (.alt 14 (.alt 15 (.alt 16 (.alt 17 .done .none) .none) .none) (.alt 15 (.alt 14 (.alt 16 (.alt 17 .done .none) .none) .none) .none))))) (.alt 14 (.alt 10 (.pure 11 (.pure 12 (.pure 13 (.alt 15 (.alt 16 (.alt 17 .done .none) .none) .none)))) (.alt 15 (.alt 10 (.pure 11 (.pure 12 (.pure 13 (.alt 16 (.alt 17 .done .none) .none)))) .none) .none)) (.alt 15 (.alt 10 (.pure 11 (.pure 12 (.pure 13 (.alt 14 (.alt 16 (.alt 17 .done .none) .none) .none)))) (.alt 14 (.alt 10 (.pure 11 (.pure 12 (.pure 13 (.alt 16 (.alt 17 .done .none) .none)))) .none) .none)) .none))))))))))))) Qc3 (by kernel_rfl) (qt (pt u 0) Z (Mv (c 0)) (qt (pt u 0) Z (Nk Z) (qt (pt u 0) Z (Fa Qc2 Z Z) (qt p Z (Lb 0 pl22 Z Z Z) (qt (pt u 0) Z (Mv (c 0)) (qt (pt u 0) Z (Nk Z) (qt (pt u 1) Z (Fa Qb1 Z Z) (qt (a84_ a0.S) Z (La (cs:=(l84 a0.S)) 0 ag84 sz84 Z Z Z) (qt (Iv a1) Z (Mv (c 1)) (qt (.agg #[(Iv 3),(Iv a1),(Iv 0)]) Z (Bl (cl:=[(Iv 3),(Iv a1),(Iv 0)]) QfJ QfI (Pc (Iv 3) Z Z (Pc (Iv a1) Z Z Pz)) Z) ?_))))))))))
 have b9:=h
 obtain ⟨⟨r,s⟩,c0,h⟩:=bnd h
 refine Ta Z (Ca co59 (QbE a0.B a0.S (⟨(3:Int),a1,(0:Int)⟩:Qa8) _ _ t (r,s) c0) (QcV Z Z Z)) Z ?_ ?_
 rintro _ e5 _ U ⟨_,⟨a,b,w,rfl,rfl,n,o⟩,rfl⟩
 refine⟨(Sl Z), ?_⟩
 refine WT.a1 (qt (.tuple #[(a84_ r),(QdA s a b)]) Z (Mv Z) (qt (a84_ r) Z (Xt Z Z) (qt (QdA s a b) Z (Xt Z Z) ?_)))
 have c1:=h
 refine Ta Z (Al ze84 Z) Z ?_ ?_
 rintro _ _ _ - ⟨rfl,d4,rfl,rfl⟩
 refine⟨(Ss Z (Xt Z Z) Z (Ss Z (Xt Z Z) Z (Ss Z (Mv Z) Z (Ss Z (Bl (cl:=[(Iv 3),(Iv a1),(Iv 0)]) QfJ QfI (Pc (Iv 3) Z Z (Pc (Iv a1) Z Z Pz)) Z) Z (Ss Z (Mv (c 1)) Z (Ss Z (La (cs:=(l84 a0.S)) 2 ag84 sz84 Z Z Z) Z (Ss Z (Fa Qb1 Z Z) Z (Ss Z (Nk Z) Z (Ss Z (Mv (c 0)) Z (Ss Z (Lb 2 pl22 Z Z Z) Z (Ss Z (Fa Qc2 Z Z) Z (Ss Z (Nk Z) Z (Ss Z (Mv (c 0)) Z trivial))))))))))))), ?_⟩
 refine Ta Z (Al Qi6 Z) Z ?_ ?_
 rintro _ _ _ - ⟨rfl,d5,rfl,rfl⟩
 refine⟨(Ss Z (Xt Z Z) Z (Ss Z (Xt Z Z) Z (Ss Z (Mv Z) Z (Ss Z (Bl (cl:=[(Iv 3),(Iv a1),(Iv 0)]) QfJ QfI (Pc (Iv 3) Z Z (Pc (Iv a1) Z Z Pz)) Z) Z (Ss Z (Mv (c 1)) Z (Ss Z (La (cs:=(l84 a0.S)) 3 ag84 sz84 Z Z Z) Z (Ss Z (Fa Qb1 Z Z) Z (Ss Z (Nk Z) Z (Ss Z (Mv (c 0)) Z (Ss Z (Lb 3 pl22 Z Z Z) Z (Ss Z (Fa Qc2 Z Z) Z (Ss Z (Nk Z) Z (Ss Z (Mv (c 0)) Z trivial))))))))))))), ?_⟩
 refine WT.f1 (Ta Z (Sg (v:=(a84_ r)) (vl:=(l84 r)) (arr':=(l84 r)) Z sz84 Z Z (onb Z) Z Z Z) Z ?_ ?_)
 rintro _ _ _ - ⟨rfl,rfl⟩
 refine⟨(Ss Z (Xt Z Z) Z (Sl Z)), ?_⟩
 refine WT.f1 (Ta Z (Sg (v:=(QdA s a b)) (vl:=(l116 s a b)) (arr':=(l116 s a b)) Z QgS Z Z (QaX (Oc Z (Oc Z (Oc (RS.one n) (Oc (Ow o) Oz))))) Z Z Z) Z ?_ ?_)
 rintro _ _ _ - ⟨rfl,rfl⟩
 refine⟨(Sl Z), ?_⟩
 refine Ti (Qb (Qa (Qb (WQ.f3 ?_))))
 obtain rfl:=oi h
 exact Tj ⟨d4,d5,a,b,w,U,Z,(c 0),Z,Z,n,o⟩
 exact Tz
 exact Tz
 exact Tz
 have h:=c1
 refine Ta Z (Al Qi6 Z) Z ?_ ?_
 rintro _ _ _ - ⟨rfl,d6,rfl,rfl⟩
 refine⟨(Ss Z (Xt Z Z) Z (Ss Z (Xt Z Z) Z (Ss Z (Mv Z) Z (Ss Z (Bl (cl:=[(Iv 3),(Iv a1),(Iv 0)]) QfJ QfI (Pc (Iv 3) Z Z (Pc (Iv a1) Z Z Pz)) Z) Z (Ss Z (Mv (c 1)) Z (Ss Z (La (cs:=(l84 a0.S)) 2 ag84 sz84 Z Z Z) Z (Ss Z (Fa Qb1 Z Z) Z (Ss Z (Nk Z) Z (Ss Z (Mv (c 0)) Z (Ss Z (Lb 2 pl22 Z Z Z) Z (Ss Z (Fa Qc2 Z Z) Z (Ss Z (Nk Z) Z (Ss Z (Mv (c 0)) Z trivial))))))))))))), ?_⟩
 refine Ta Z (Al ze84 Z) Z ?_ ?_
 rintro _ _ _ - ⟨rfl,d7,rfl,rfl⟩
 refine⟨(Ss Z (Xt Z Z) Z (Ss Z (Xt Z Z) Z (Ss Z (Mv Z) Z (Ss Z (Bl (cl:=[(Iv 3),(Iv a1),(Iv 0)]) QfJ QfI (Pc (Iv 3) Z Z (Pc (Iv a1) Z Z Pz)) Z) Z (Ss Z (Mv (c 1)) Z (Ss Z (La (cs:=(l84 a0.S)) 3 ag84 sz84 Z Z Z) Z (Ss Z (Fa Qb1 Z Z) Z (Ss Z (Nk Z) Z (Ss Z (Mv (c 0)) Z (Ss Z (Lb 3 pl22 Z Z Z) Z (Ss Z (Fa Qc2 Z Z) Z (Ss Z (Nk Z) Z (Ss Z (Mv (c 0)) Z trivial))))))))))))), ?_⟩
 refine Ta Z (Sg (v:=(a84_ r)) (vl:=(l84 r)) (arr':=(l84 r)) Z sz84 Z Z (onb Z) Z Z Z) Z ?_ ?_
 rintro _ _ _ - ⟨rfl,rfl⟩
 refine⟨(Ss Z (Xt Z Z) Z (Sl Z)), ?_⟩
 refine WT.f1 (Ta Z (Sg (v:=(QdA s a b)) (vl:=(l116 s a b)) (arr':=(l116 s a b)) Z QgS Z Z (QaX (Oc Z (Oc Z (Oc (RS.one n) (Oc (Ow o) Oz))))) Z Z Z) Z ?_ ?_)
 rintro _ _ _ - ⟨rfl,rfl⟩
 refine⟨(Sl Z), ?_⟩
 refine Ti (Qb (Qa (Qb (WQ.f3 ?_))))
 obtain rfl:=oi h
 exact Tj ⟨d7,d6,a,b,w,U,Z,(c 0),Z,Z,n,o⟩
 exact Tz
 exact Tz
 exact Tz
 exact Tz
 have h:=b9
 have c2:=h
 refine Ta Z (Al ze84 Z) Z ?_ ?_
 rintro _ _ _ - ⟨rfl,c3,rfl,rfl⟩
 refine⟨(Ss Z (Bl (cl:=[(Iv 3),(Iv a1),(Iv 0)]) QfJ QfI (Pc (Iv 3) Z Z (Pc (Iv a1) Z Z Pz)) Z) Z (Ss Z (Mv (c 1)) Z (Ss Z (La (cs:=(l84 a0.S)) 1 ag84 sz84 Z Z Z) Z (Ss Z (Fa Qb1 Z Z) Z (Ss Z (Nk Z) Z (Ss Z (Mv (c 0)) Z (Ss Z (Lb 1 pl22 Z Z Z) Z (Ss Z (Fa Qc2 Z Z) Z (Ss Z (Nk Z) Z (Ss Z (Mv (c 0)) Z trivial)))))))))), ?_⟩
 have c4:=h
 obtain ⟨⟨I,J⟩,c5,h⟩:=bnd h
 refine Ta Z (Ca co59 (QbE a0.B a0.S (⟨(3:Int),a1,(0:Int)⟩:Qa8) _ _ t (I,J) c5) (QcV Z Z Z)) Z ?_ ?_
 rintro _ e6 _ a7 ⟨_,⟨d,e,W,rfl,rfl,x,y⟩,rfl⟩
 refine⟨(Sl Z), ?_⟩
 refine WT.a1 (qt (.tuple #[(a84_ I),(QdA J d e)]) Z (Mv Z) (qt (a84_ I) Z (Xt Z Z) (qt (QdA J d e) Z (Xt Z Z) (Ta Z (Al Qi6 Z) Z ?_ ?_))))
 rintro _ _ _ - ⟨rfl,d8,rfl,rfl⟩
 refine⟨(Ss Z (Xt Z Z) Z (Ss Z (Xt Z Z) Z (Ss Z (Mv Z) Z (Ss Z (Bl (cl:=[(Iv 3),(Iv a1),(Iv 0)]) QfJ QfI (Pc (Iv 3) Z Z (Pc (Iv a1) Z Z Pz)) Z) Z (Ss Z (Mv (c 1)) Z (Ss Z (La (cs:=(l84 a0.S)) 3 ag84 sz84 Z Z Z) Z (Ss Z (Fa Qb1 Z Z) Z (Ss Z (Nk Z) Z (Ss Z (Mv (c 0)) Z (Ss Z (Lb 3 pl22 Z Z Z) Z (Ss Z (Fa Qc2 Z Z) Z (Ss Z (Nk Z) Z (Ss Z (Mv (c 0)) Z trivial))))))))))))), ?_⟩
 refine WT.f2 (Ta Z (Sg (v:=(a84_ I)) (vl:=(l84 I)) (arr':=(l84 I)) Z sz84 Z Z (onb Z) Z Z Z) Z ?_ ?_)
 rintro _ _ _ - ⟨rfl,rfl⟩
 refine⟨(Ss Z (Xt Z Z) Z (Sl Z)), ?_⟩
 refine WT.f1 (Ta Z (Sg (v:=(QdA J d e)) (vl:=(l116 J d e)) (arr':=(l116 J d e)) Z QgS Z Z (QaX (Oc Z (Oc Z (Oc (RS.one x) (Oc (Ow y) Oz))))) Z Z Z) Z ?_ ?_)
 rintro _ _ _ - ⟨rfl,rfl⟩
 refine⟨(Sl Z), ?_⟩
 refine Ti (Qb (Qa (Qb (WQ.f3 ?_))))
 obtain rfl:=oi h
 exact Tj ⟨c3,d8,d,e,W,a7,Z,(c 0),Z,Z,x,y⟩
 exact Tz
 exact Tz
 exact Tz
 have h:=c4
 refine Ta Z (Al Qi6 Z) Z ?_ ?_
 rintro _ _ _ - ⟨rfl,d9,rfl,rfl⟩
 refine⟨(Ss Z (Bl (cl:=[(Iv 3),(Iv a1),(Iv 0)]) QfJ QfI (Pc (Iv 3) Z Z (Pc (Iv a1) Z Z Pz)) Z) Z (Ss Z (Mv (c 1)) Z (Ss Z (La (cs:=(l84 a0.S)) 2 ag84 sz84 Z Z Z) Z (Ss Z (Fa Qb1 Z Z) Z (Ss Z (Nk Z) Z (Ss Z (Mv (c 0)) Z (Ss Z (Lb 2 pl22 Z Z Z) Z (Ss Z (Fa Qc2 Z Z) Z (Ss Z (Nk Z) Z (Ss Z (Mv (c 0)) Z trivial)))))))))), ?_⟩
 obtain ⟨⟨K,L⟩,c6,h⟩:=bnd h
 refine Ta Z (Ca co59 (QbE a0.B a0.S (⟨(3:Int),a1,(0:Int)⟩:Qa8) _ _ t (K,L) c6) (QcV Z Z Z)) Z ?_ ?_
 rintro _ e7 _ a8 ⟨_,⟨f,g,X,rfl,rfl,z,A⟩,rfl⟩
 refine⟨(Sl Z), ?_⟩
 refine WT.a1 (qt (.tuple #[(a84_ K),(QdA L f g)]) Z (Mv Z) (qt (a84_ K) Z (Xt Z Z) (qt (QdA L f g) Z (Xt Z Z) (WT.f2 (Ta Z (Sg (v:=(a84_ K)) (vl:=(l84 K)) (arr':=(l84 K)) Z sz84 Z Z (onb Z) Z Z Z) Z ?_ ?_)))))
 rintro _ _ _ - ⟨rfl,rfl⟩
 refine⟨(Ss Z (Xt Z Z) Z (Sl Z)), ?_⟩
 refine WT.f2 (Ta Z (Sg (v:=(QdA L f g)) (vl:=(l116 L f g)) (arr':=(l116 L f g)) Z QgS Z Z (QaX (Oc Z (Oc Z (Oc (RS.one z) (Oc (Ow A) Oz))))) Z Z Z) Z ?_ ?_)
 rintro _ _ _ - ⟨rfl,rfl⟩
 refine⟨(Sl Z), ?_⟩
 refine Ti (Qb (Qa (Qb (WQ.f3 ?_))))
 obtain rfl:=oi h
 exact Tj ⟨c3,d9,f,g,X,a8,Z,(c 0),Z,Z,z,A⟩
 exact Tz
 exact Tz
 exact Tz
 exact Tz
 have h:=c2
 refine Ta Z (Al Qi6 Z) Z ?_ ?_
 rintro _ _ _ - ⟨rfl,c7,rfl,rfl⟩
 refine⟨(Ss Z (Bl (cl:=[(Iv 3),(Iv a1),(Iv 0)]) QfJ QfI (Pc (Iv 3) Z Z (Pc (Iv a1) Z Z Pz)) Z) Z (Ss Z (Mv (c 1)) Z (Ss Z (La (cs:=(l84 a0.S)) 1 ag84 sz84 Z Z Z) Z (Ss Z (Fa Qb1 Z Z) Z (Ss Z (Nk Z) Z (Ss Z (Mv (c 0)) Z (Ss Z (Lb 1 pl22 Z Z Z) Z (Ss Z (Fa Qc2 Z Z) Z (Ss Z (Nk Z) Z (Ss Z (Mv (c 0)) Z trivial)))))))))), ?_⟩
 have c8:=h
 obtain ⟨⟨N,O⟩,c9,h⟩:=bnd h
 refine Ta Z (Ca co59 (QbE a0.B a0.S (⟨(3:Int),a1,(0:Int)⟩:Qa8) _ _ t (N,O) c9) (QcV Z Z Z)) Z ?_ ?_
 rintro _ e8 _ a9 ⟨_,⟨i,j,Y,rfl,rfl,C,D⟩,rfl⟩
 refine⟨(Sl Z), ?_⟩
 refine WT.a1 (qt (.tuple #[(a84_ N),(QdA O i j)]) Z (Mv Z) (qt (a84_ N) Z (Xt Z Z) (qt (QdA O i j) Z (Xt Z Z) (Ta Z (Al ze84 Z) Z ?_ ?_))))
 rintro _ _ _ - ⟨rfl,e0,rfl,rfl⟩
 refine⟨(Ss Z (Xt Z Z) Z (Ss Z (Xt Z Z) Z (Ss Z (Mv Z) Z (Ss Z (Bl (cl:=[(Iv 3),(Iv a1),(Iv 0)]) QfJ QfI (Pc (Iv 3) Z Z (Pc (Iv a1) Z Z Pz)) Z) Z (Ss Z (Mv (c 1)) Z (Ss Z (La (cs:=(l84 a0.S)) 3 ag84 sz84 Z Z Z) Z (Ss Z (Fa Qb1 Z Z) Z (Ss Z (Nk Z) Z (Ss Z (Mv (c 0)) Z (Ss Z (Lb 3 pl22 Z Z Z) Z (Ss Z (Fa Qc2 Z Z) Z (Ss Z (Nk Z) Z (Ss Z (Mv (c 0)) Z trivial))))))))))))), ?_⟩
 refine Ta Z (Sg (v:=(a84_ N)) (vl:=(l84 N)) (arr':=(l84 N)) Z sz84 Z Z (onb Z) Z Z Z) Z ?_ ?_
 rintro _ _ _ - ⟨rfl,rfl⟩
 refine⟨(Ss Z (Xt Z Z) Z (Sl Z)), ?_⟩
 refine WT.f2 (Ta Z (Sg (v:=(QdA O i j)) (vl:=(l116 O i j)) (arr':=(l116 O i j)) Z QgS Z Z (QaX (Oc Z (Oc Z (Oc (RS.one C) (Oc (Ow D) Oz))))) Z Z Z) Z ?_ ?_)
 rintro _ _ _ - ⟨rfl,rfl⟩
 refine⟨(Sl Z), ?_⟩
 refine Ti (Qb (Qa (Qb (WQ.f3 ?_))))
 obtain rfl:=oi h
 exact Tj ⟨e0,c7,i,j,Y,a9,Z,(c 0),Z,Z,C,D⟩
 exact Tz
 exact Tz
 exact Tz
 have h:=c8
 refine Ta Z (Al ze84 Z) Z ?_ ?_
 rintro _ _ _ - ⟨rfl,e1,rfl,rfl⟩
 refine⟨(Ss Z (Bl (cl:=[(Iv 3),(Iv a1),(Iv 0)]) QfJ QfI (Pc (Iv 3) Z Z (Pc (Iv a1) Z Z Pz)) Z) Z (Ss Z (Mv (c 1)) Z (Ss Z (La (cs:=(l84 a0.S)) 2 ag84 sz84 Z Z Z) Z (Ss Z (Fa Qb1 Z Z) Z (Ss Z (Nk Z) Z (Ss Z (Mv (c 0)) Z (Ss Z (Lb 2 pl22 Z Z Z) Z (Ss Z (Fa Qc2 Z Z) Z (Ss Z (Nk Z) Z (Ss Z (Mv (c 0)) Z trivial)))))))))), ?_⟩
 obtain ⟨⟨P,Q⟩,d0,h⟩:=bnd h
 refine Ta Z (Ca co59 (QbE a0.B a0.S (⟨(3:Int),a1,(0:Int)⟩:Qa8) _ _ t (P,Q) d0) (QcV Z Z Z)) Z ?_ ?_
 rintro _ e9 _ b0 ⟨_,⟨k,l,a2,rfl,rfl,E,G⟩,rfl⟩
 refine⟨(Sl Z), ?_⟩
 refine WT.a1 (qt (.tuple #[(a84_ P),(QdA Q k l)]) Z (Mv Z) (qt (a84_ P) Z (Xt Z Z) (qt (QdA Q k l) Z (Xt Z Z) (WT.f1 (Ta Z (Sg (v:=(a84_ P)) (vl:=(l84 P)) (arr':=(l84 P)) Z sz84 Z Z (onb Z) Z Z Z) Z ?_ ?_)))))
 rintro _ _ _ - ⟨rfl,rfl⟩
 refine⟨(Ss Z (Xt Z Z) Z (Sl Z)), ?_⟩
 refine WT.f2 (Ta Z (Sg (v:=(QdA Q k l)) (vl:=(l116 Q k l)) (arr':=(l116 Q k l)) Z QgS Z Z (QaX (Oc Z (Oc Z (Oc (RS.one E) (Oc (Ow G) Oz))))) Z Z Z) Z ?_ ?_)
 rintro _ _ _ - ⟨rfl,rfl⟩
 refine⟨(Sl Z), ?_⟩
 refine Ti (Qb (Qa (Qb (WQ.f3 ?_))))
 obtain rfl:=oi h
 exact Tj ⟨e1,c7,k,l,a2,b0,Z,(c 0),Z,Z,E,G⟩
 exact Tz
 exact Tz
 exact Tz
 exact Tz
 exact Tz
 obtain ⟨m,b5,b6,b7,b8⟩:=b3
 rintro f0 f4 f5 ⟨a6,V,q,R,T,b1,rfl,a3,a4,a5,d1,e2⟩
 refine Sr (qM (pt u 0) a3 (qu (a84_ m) (La (cs:=(l84 m)) 1 ag84 sz84 a4 Z Z) (qu (pt u 0) (Nk Z) (qu (pt u 1) (Fa Qb1 Z Z) (We (Sg (v:=(a84_ m)) (vl:=(l84 m)) (arr':=[p,(Iv m.At),(Iv m.Code),(Sv m.Op),(Iv m.Where)]) Z sz84 Z Z (onb Z) Z Z Z) Z ?_)))))
 rintro _ _ _ - ⟨rfl,rfl⟩
 refine Ns (qu (pt V 2) (Fa Q4J a5 Z) (qu q (Lb 2 pl22 Z Z Z) (qa q (Nt (Cr (Qa (Dr (Qa (Dr (Qa (Dr ?_)))))))))))
 exact Rf h [[(u, .cells #[p,(Iv m.At),(Iv m.Code),(Sv m.Op),(Iv m.Where)] 86 (0,0))]] Z (Rs Z Z) b1 ⟨q,Z,Z,d1⟩
noncomputable def QdD (a0:QaF):Option (Bool×Int×Int×ByteArray×Int):=
 ((((QcA a0.B a0.S (⟨(2:Int),(0:Int),(0:Int)⟩:Qa8)).bind fun(c,a)=>(some (c,a.Num,a.Flag,a.Text,a.Row))):Option (QaB×Int×Bool×(List Int)×(List Int))).bind fun(b,e,d,f,g)=>(some (d,b.At,b.Code,b.Op,b.Where)))
def Ql0 (a0:QaF) (a:Value) (b:Nat):(Bool×Int×Int×ByteArray×Int)→Value→IM→HL→Prop:=
 fun(c:(Bool×Int×Int×ByteArray×Int)) (v:Value) (k:IM) (d:HL)=>match c with |(e,f,g,i,j)=>(.bool e)=v∧d=[[(b, .cells #[a,(.int .i64 f),(.int .i64 g),(.string i),(.int .i64 j)] 86 (0,0))]]
theorem QjD (a0:QaF) (M:IM) (p:Value) (t:Nat) (s:RS (Kd.int .u8) M p a0.B) (b3:(Bool×Int×Int×ByteArray×Int)) (h:QdD a0=some b3):
 Tri prog 60 #[(pt t 0)] M [[(t, .cells (l86 a0 p).toArray 86 (0,0))]] (Ql0 a0 p t b3):=by
 unfold QdD at h
 refine Te func60 Z Z ?_
 intro F ρ m
 refine Sr (qa (Bv false) (Nt ?_))
 obtain ⟨b4,b5,h⟩:=bnd h
 refine Jf (fun(p_:(QaB×Int×Bool×(List Int)×(List Int))) d1 M' H'=>match p_ with |(l,b6,V,b7,b8)=>∃ a7 W Q R T,M.le M'∧[(t, .cells (l86 a0 p).toArray 86 (0,0))]::[(a7, .cells (l84 l).toArray 84 (0,0))]::[(W, .cells #[(Uv b6),(Bv V),Q,R] 116 (0,0))]::T::F=H'∧d1 0=(pt t 0)∧d1 3=(pt a7 0)∧d1 4=(pt W 0)∧RS (Kd.int .u8) M' Q b7∧OwnS (Kd.int .i64) M' R b8 T) b4 ?_ ?_
 have h:=b5
 refine WC.draw [0,1,3,7,0,16,48,112,0,511,1023,2047,2047,0,0,28671,65535] (.pure 0 (.pure 1 (.pure 2 (.pure 3 (.pure 4 (.pure 5 (.pure 6 (.pure 7 (.pure 8 (.alt 9 (.pure 10 (.pure 11 (.pure 12 (.alt 13 (.alt 14 (.alt 15 (.alt 16 .done .none) .none) .none) (.alt 14 (.alt 13 (.alt 15 (.alt 16 .done .none) .none) .none) .none))))) (.alt 13 (.alt 9 (.pure 10 (.pure 11 (.pure 12 (.alt 14 (.alt 15 (.alt 16 .done .none) .none) .none)))) (.alt 14 (.alt 9 (.pure 10 (.pure 11 (.pure 12 (.alt 15 (.alt 16 .done .none) .none)))) .none) .none)) (.alt 14 (.alt 9 (.pure 10 (.pure 11 (.pure 12 (.alt 13 (.alt 15 (.alt 16 .done .none) .none) .none)))) (.alt 13 (.alt 9 (.pure 10 (.pure 11 (.pure 12 (.alt 15 (.alt 16 .done .none) .none)))) .none) .none)) .none)))))))))))) Qc3 (by kernel_rfl) (qt (pt t 0) Z (Mv (m 0)) (qt (pt t 0) Z (Nk Z) (qt (pt t 0) Z (Fa Qc2 Z Z) (qt p Z (Lb 0 pl22 Z Z Z) (qt (pt t 0) Z (Mv (m 0)) (qt (pt t 0) Z (Nk Z) (qt (pt t 1) Z (Fa Qb1 Z Z) (qt (a84_ a0.S) Z (La (cs:=(l84 a0.S)) 0 ag84 sz84 Z Z Z) (qt (.agg #[(Iv 2),(Iv 0),(Iv 0)]) Z (Bl (cl:=[(Iv 2),(Iv 0),(Iv 0)]) QfJ QfI (Pc (Iv 2) Z Z Pz) Z) ?_)))))))))
 have b9:=h
 obtain ⟨⟨q,r⟩,c0,h⟩:=bnd h
 refine Ta Z (Ca co59 (QbE a0.B a0.S (⟨(2:Int),(0:Int),(0:Int)⟩:Qa8) _ _ s (q,r) c0) (QcV Z Z Z)) Z ?_ ?_
 rintro _ e5 _ U ⟨_,⟨a,b,u,rfl,rfl,n,o⟩,rfl⟩
 refine⟨(Sl Z), ?_⟩
 refine WT.a1 (qt (.tuple #[(a84_ q),(QdA r a b)]) Z (Mv Z) (qt (a84_ q) Z (Xt Z Z) (qt (QdA r a b) Z (Xt Z Z) ?_)))
 have c1:=h
 refine Ta Z (Al ze84 Z) Z ?_ ?_
 rintro _ _ _ - ⟨rfl,d3,rfl,rfl⟩
 refine⟨(Ss Z (Xt Z Z) Z (Ss Z (Xt Z Z) Z (Ss Z (Mv Z) Z (Ss Z (Bl (cl:=[(Iv 2),(Iv 0),(Iv 0)]) QfJ QfI (Pc (Iv 2) Z Z Pz) Z) Z (Ss Z (La (cs:=(l84 a0.S)) 2 ag84 sz84 Z Z Z) Z (Ss Z (Fa Qb1 Z Z) Z (Ss Z (Nk Z) Z (Ss Z (Mv (m 0)) Z (Ss Z (Lb 2 pl22 Z Z Z) Z (Ss Z (Fa Qc2 Z Z) Z (Ss Z (Nk Z) Z (Ss Z (Mv (m 0)) Z trivial)))))))))))), ?_⟩
 refine Ta Z (Al Qi6 Z) Z ?_ ?_
 rintro _ _ _ - ⟨rfl,d4,rfl,rfl⟩
 refine⟨(Ss Z (Xt Z Z) Z (Ss Z (Xt Z Z) Z (Ss Z (Mv Z) Z (Ss Z (Bl (cl:=[(Iv 2),(Iv 0),(Iv 0)]) QfJ QfI (Pc (Iv 2) Z Z Pz) Z) Z (Ss Z (La (cs:=(l84 a0.S)) 3 ag84 sz84 Z Z Z) Z (Ss Z (Fa Qb1 Z Z) Z (Ss Z (Nk Z) Z (Ss Z (Mv (m 0)) Z (Ss Z (Lb 3 pl22 Z Z Z) Z (Ss Z (Fa Qc2 Z Z) Z (Ss Z (Nk Z) Z (Ss Z (Mv (m 0)) Z trivial)))))))))))), ?_⟩
 refine WT.f1 (Ta Z (Sg (v:=(a84_ q)) (vl:=(l84 q)) (arr':=(l84 q)) Z sz84 Z Z (onb Z) Z Z Z) Z ?_ ?_)
 rintro _ _ _ - ⟨rfl,rfl⟩
 refine⟨(Ss Z (Xt Z Z) Z (Sl Z)), ?_⟩
 refine WT.f1 (Ta Z (Sg (v:=(QdA r a b)) (vl:=(l116 r a b)) (arr':=(l116 r a b)) Z QgS Z Z (QaX (Oc Z (Oc Z (Oc (RS.one n) (Oc (Ow o) Oz))))) Z Z Z) Z ?_ ?_)
 rintro _ _ _ - ⟨rfl,rfl⟩
 refine⟨(Sl Z), ?_⟩
 refine Ti (Qb (Qa (Qb (WQ.f3 ?_))))
 obtain rfl:=oi h
 exact Tj ⟨d3,d4,a,b,u,U,Z,(m 0),Z,Z,n,o⟩
 exact Tz
 exact Tz
 exact Tz
 have h:=c1
 refine Ta Z (Al Qi6 Z) Z ?_ ?_
 rintro _ _ _ - ⟨rfl,d5,rfl,rfl⟩
 refine⟨(Ss Z (Xt Z Z) Z (Ss Z (Xt Z Z) Z (Ss Z (Mv Z) Z (Ss Z (Bl (cl:=[(Iv 2),(Iv 0),(Iv 0)]) QfJ QfI (Pc (Iv 2) Z Z Pz) Z) Z (Ss Z (La (cs:=(l84 a0.S)) 2 ag84 sz84 Z Z Z) Z (Ss Z (Fa Qb1 Z Z) Z (Ss Z (Nk Z) Z (Ss Z (Mv (m 0)) Z (Ss Z (Lb 2 pl22 Z Z Z) Z (Ss Z (Fa Qc2 Z Z) Z (Ss Z (Nk Z) Z (Ss Z (Mv (m 0)) Z trivial)))))))))))), ?_⟩
 refine Ta Z (Al ze84 Z) Z ?_ ?_
 rintro _ _ _ - ⟨rfl,d6,rfl,rfl⟩
 refine⟨(Ss Z (Xt Z Z) Z (Ss Z (Xt Z Z) Z (Ss Z (Mv Z) Z (Ss Z (Bl (cl:=[(Iv 2),(Iv 0),(Iv 0)]) QfJ QfI (Pc (Iv 2) Z Z Pz) Z) Z (Ss Z (La (cs:=(l84 a0.S)) 3 ag84 sz84 Z Z Z) Z (Ss Z (Fa Qb1 Z Z) Z (Ss Z (Nk Z) Z (Ss Z (Mv (m 0)) Z (Ss Z (Lb 3 pl22 Z Z Z) Z (Ss Z (Fa Qc2 Z Z) Z (Ss Z (Nk Z) Z (Ss Z (Mv (m 0)) Z trivial)))))))))))), ?_⟩
 refine Ta Z (Sg (v:=(a84_ q)) (vl:=(l84 q)) (arr':=(l84 q)) Z sz84 Z Z (onb Z) Z Z Z) Z ?_ ?_
 rintro _ _ _ - ⟨rfl,rfl⟩
 refine⟨(Ss Z (Xt Z Z) Z (Sl Z)), ?_⟩
 refine WT.f1 (Ta Z (Sg (v:=(QdA r a b)) (vl:=(l116 r a b)) (arr':=(l116 r a b)) Z QgS Z Z (QaX (Oc Z (Oc Z (Oc (RS.one n) (Oc (Ow o) Oz))))) Z Z Z) Z ?_ ?_)
 rintro _ _ _ - ⟨rfl,rfl⟩
 refine⟨(Sl Z), ?_⟩
 refine Ti (Qb (Qa (Qb (WQ.f3 ?_))))
 obtain rfl:=oi h
 exact Tj ⟨d6,d5,a,b,u,U,Z,(m 0),Z,Z,n,o⟩
 exact Tz
 exact Tz
 exact Tz
 exact Tz
 have h:=b9
 have c2:=h
 refine Ta Z (Al ze84 Z) Z ?_ ?_
 rintro _ _ _ - ⟨rfl,c3,rfl,rfl⟩
 refine⟨(Ss Z (Bl (cl:=[(Iv 2),(Iv 0),(Iv 0)]) QfJ QfI (Pc (Iv 2) Z Z Pz) Z) Z (Ss Z (La (cs:=(l84 a0.S)) 1 ag84 sz84 Z Z Z) Z (Ss Z (Fa Qb1 Z Z) Z (Ss Z (Nk Z) Z (Ss Z (Mv (m 0)) Z (Ss Z (Lb 1 pl22 Z Z Z) Z (Ss Z (Fa Qc2 Z Z) Z (Ss Z (Nk Z) Z (Ss Z (Mv (m 0)) Z trivial))))))))), ?_⟩
 have c4:=h
 obtain ⟨⟨G,I⟩,c5,h⟩:=bnd h
 refine Ta Z (Ca co59 (QbE a0.B a0.S (⟨(2:Int),(0:Int),(0:Int)⟩:Qa8) _ _ s (G,I) c5) (QcV Z Z Z)) Z ?_ ?_
 rintro _ e6 _ a8 ⟨_,⟨c,d,X,rfl,rfl,w,x⟩,rfl⟩
 refine⟨(Sl Z), ?_⟩
 refine WT.a1 (qt (.tuple #[(a84_ G),(QdA I c d)]) Z (Mv Z) (qt (a84_ G) Z (Xt Z Z) (qt (QdA I c d) Z (Xt Z Z) (Ta Z (Al Qi6 Z) Z ?_ ?_))))
 rintro _ _ _ - ⟨rfl,d7,rfl,rfl⟩
 refine⟨(Ss Z (Xt Z Z) Z (Ss Z (Xt Z Z) Z (Ss Z (Mv Z) Z (Ss Z (Bl (cl:=[(Iv 2),(Iv 0),(Iv 0)]) QfJ QfI (Pc (Iv 2) Z Z Pz) Z) Z (Ss Z (La (cs:=(l84 a0.S)) 3 ag84 sz84 Z Z Z) Z (Ss Z (Fa Qb1 Z Z) Z (Ss Z (Nk Z) Z (Ss Z (Mv (m 0)) Z (Ss Z (Lb 3 pl22 Z Z Z) Z (Ss Z (Fa Qc2 Z Z) Z (Ss Z (Nk Z) Z (Ss Z (Mv (m 0)) Z trivial)))))))))))), ?_⟩
 refine WT.f2 (Ta Z (Sg (v:=(a84_ G)) (vl:=(l84 G)) (arr':=(l84 G)) Z sz84 Z Z (onb Z) Z Z Z) Z ?_ ?_)
 rintro _ _ _ - ⟨rfl,rfl⟩
 refine⟨(Ss Z (Xt Z Z) Z (Sl Z)), ?_⟩
 refine WT.f1 (Ta Z (Sg (v:=(QdA I c d)) (vl:=(l116 I c d)) (arr':=(l116 I c d)) Z QgS Z Z (QaX (Oc Z (Oc Z (Oc (RS.one w) (Oc (Ow x) Oz))))) Z Z Z) Z ?_ ?_)
 rintro _ _ _ - ⟨rfl,rfl⟩
 refine⟨(Sl Z), ?_⟩
 refine Ti (Qb (Qa (Qb (WQ.f3 ?_))))
 obtain rfl:=oi h
 exact Tj ⟨c3,d7,c,d,X,a8,Z,(m 0),Z,Z,w,x⟩
 exact Tz
 exact Tz
 exact Tz
 have h:=c4
 refine Ta Z (Al Qi6 Z) Z ?_ ?_
 rintro _ _ _ - ⟨rfl,d8,rfl,rfl⟩
 refine⟨(Ss Z (Bl (cl:=[(Iv 2),(Iv 0),(Iv 0)]) QfJ QfI (Pc (Iv 2) Z Z Pz) Z) Z (Ss Z (La (cs:=(l84 a0.S)) 2 ag84 sz84 Z Z Z) Z (Ss Z (Fa Qb1 Z Z) Z (Ss Z (Nk Z) Z (Ss Z (Mv (m 0)) Z (Ss Z (Lb 2 pl22 Z Z Z) Z (Ss Z (Fa Qc2 Z Z) Z (Ss Z (Nk Z) Z (Ss Z (Mv (m 0)) Z trivial))))))))), ?_⟩
 obtain ⟨⟨J,K⟩,c6,h⟩:=bnd h
 refine Ta Z (Ca co59 (QbE a0.B a0.S (⟨(2:Int),(0:Int),(0:Int)⟩:Qa8) _ _ s (J,K) c6) (QcV Z Z Z)) Z ?_ ?_
 rintro _ e7 _ a9 ⟨_,⟨e,f,Y,rfl,rfl,y,z⟩,rfl⟩
 refine⟨(Sl Z), ?_⟩
 refine WT.a1 (qt (.tuple #[(a84_ J),(QdA K e f)]) Z (Mv Z) (qt (a84_ J) Z (Xt Z Z) (qt (QdA K e f) Z (Xt Z Z) (WT.f2 (Ta Z (Sg (v:=(a84_ J)) (vl:=(l84 J)) (arr':=(l84 J)) Z sz84 Z Z (onb Z) Z Z Z) Z ?_ ?_)))))
 rintro _ _ _ - ⟨rfl,rfl⟩
 refine⟨(Ss Z (Xt Z Z) Z (Sl Z)), ?_⟩
 refine WT.f2 (Ta Z (Sg (v:=(QdA K e f)) (vl:=(l116 K e f)) (arr':=(l116 K e f)) Z QgS Z Z (QaX (Oc Z (Oc Z (Oc (RS.one y) (Oc (Ow z) Oz))))) Z Z Z) Z ?_ ?_)
 rintro _ _ _ - ⟨rfl,rfl⟩
 refine⟨(Sl Z), ?_⟩
 refine Ti (Qb (Qa (Qb (WQ.f3 ?_))))
 obtain rfl:=oi h
 exact Tj ⟨c3,d8,e,f,Y,a9,Z,(m 0),Z,Z,y,z⟩
 exact Tz
 exact Tz
 exact Tz
 exact Tz
 have h:=c2
 refine Ta Z (Al Qi6 Z) Z ?_ ?_
 rintro _ _ _ - ⟨rfl,c7,rfl,rfl⟩
 refine⟨(Ss Z (Bl (cl:=[(Iv 2),(Iv 0),(Iv 0)]) QfJ QfI (Pc (Iv 2) Z Z Pz) Z) Z (Ss Z (La (cs:=(l84 a0.S)) 1 ag84 sz84 Z Z Z) Z (Ss Z (Fa Qb1 Z Z) Z (Ss Z (Nk Z) Z (Ss Z (Mv (m 0)) Z (Ss Z (Lb 1 pl22 Z Z Z) Z (Ss Z (Fa Qc2 Z Z) Z (Ss Z (Nk Z) Z (Ss Z (Mv (m 0)) Z trivial))))))))), ?_⟩
 have c8:=h
 obtain ⟨⟨L,N⟩,c9,h⟩:=bnd h
 refine Ta Z (Ca co59 (QbE a0.B a0.S (⟨(2:Int),(0:Int),(0:Int)⟩:Qa8) _ _ s (L,N) c9) (QcV Z Z Z)) Z ?_ ?_
 rintro _ e8 _ b0 ⟨_,⟨g,i,a2,rfl,rfl,A,C⟩,rfl⟩
 refine⟨(Sl Z), ?_⟩
 refine WT.a1 (qt (.tuple #[(a84_ L),(QdA N g i)]) Z (Mv Z) (qt (a84_ L) Z (Xt Z Z) (qt (QdA N g i) Z (Xt Z Z) (Ta Z (Al ze84 Z) Z ?_ ?_))))
 rintro _ _ _ - ⟨rfl,d9,rfl,rfl⟩
 refine⟨(Ss Z (Xt Z Z) Z (Ss Z (Xt Z Z) Z (Ss Z (Mv Z) Z (Ss Z (Bl (cl:=[(Iv 2),(Iv 0),(Iv 0)]) QfJ QfI (Pc (Iv 2) Z Z Pz) Z) Z (Ss Z (La (cs:=(l84 a0.S)) 3 ag84 sz84 Z Z Z) Z (Ss Z (Fa Qb1 Z Z) Z (Ss Z (Nk Z) Z (Ss Z (Mv (m 0)) Z (Ss Z (Lb 3 pl22 Z Z Z) Z (Ss Z (Fa Qc2 Z Z) Z (Ss Z (Nk Z) Z (Ss Z (Mv (m 0)) Z trivial)))))))))))), ?_⟩
 refine Ta Z (Sg (v:=(a84_ L)) (vl:=(l84 L)) (arr':=(l84 L)) Z sz84 Z Z (onb Z) Z Z Z) Z ?_ ?_
 rintro _ _ _ - ⟨rfl,rfl⟩
 refine⟨(Ss Z (Xt Z Z) Z (Sl Z)), ?_⟩
 refine WT.f2 (Ta Z (Sg (v:=(QdA N g i)) (vl:=(l116 N g i)) (arr':=(l116 N g i)) Z QgS Z Z (QaX (Oc Z (Oc Z (Oc (RS.one A) (Oc (Ow C) Oz))))) Z Z Z) Z ?_ ?_)
 rintro _ _ _ - ⟨rfl,rfl⟩
 refine⟨(Sl Z), ?_⟩
 refine Ti (Qb (Qa (Qb (WQ.f3 ?_))))
 obtain rfl:=oi h
 exact Tj ⟨d9,c7,g,i,a2,b0,Z,(m 0),Z,Z,A,C⟩
 exact Tz
 exact Tz
 exact Tz
 have h:=c8
 refine Ta Z (Al ze84 Z) Z ?_ ?_
 rintro _ _ _ - ⟨rfl,e0,rfl,rfl⟩
 refine⟨(Ss Z (Bl (cl:=[(Iv 2),(Iv 0),(Iv 0)]) QfJ QfI (Pc (Iv 2) Z Z Pz) Z) Z (Ss Z (La (cs:=(l84 a0.S)) 2 ag84 sz84 Z Z Z) Z (Ss Z (Fa Qb1 Z Z) Z (Ss Z (Nk Z) Z (Ss Z (Mv (m 0)) Z (Ss Z (Lb 2 pl22 Z Z Z) Z (Ss Z (Fa Qc2 Z Z) Z (Ss Z (Nk Z) Z (Ss Z (Mv (m 0)) Z trivial))))))))), ?_⟩
 obtain ⟨⟨O,P⟩,d0,h⟩:=bnd h
 refine Ta Z (Ca co59 (QbE a0.B a0.S (⟨(2:Int),(0:Int),(0:Int)⟩:Qa8) _ _ s (O,P) d0) (QcV Z Z Z)) Z ?_ ?_
 rintro _ e9 _ b1 ⟨_,⟨j,k,a3,rfl,rfl,D,E⟩,rfl⟩
 refine⟨(Sl Z), ?_⟩
 refine WT.a1 (qt (.tuple #[(a84_ O),(QdA P j k)]) Z (Mv Z) (qt (a84_ O) Z (Xt Z Z) (qt (QdA P j k) Z (Xt Z Z) (WT.f1 (Ta Z (Sg (v:=(a84_ O)) (vl:=(l84 O)) (arr':=(l84 O)) Z sz84 Z Z (onb Z) Z Z Z) Z ?_ ?_)))))
 rintro _ _ _ - ⟨rfl,rfl⟩
 refine⟨(Ss Z (Xt Z Z) Z (Sl Z)), ?_⟩
 refine WT.f2 (Ta Z (Sg (v:=(QdA P j k)) (vl:=(l116 P j k)) (arr':=(l116 P j k)) Z QgS Z Z (QaX (Oc Z (Oc Z (Oc (RS.one D) (Oc (Ow E) Oz))))) Z Z Z) Z ?_ ?_)
 rintro _ _ _ - ⟨rfl,rfl⟩
 refine⟨(Sl Z), ?_⟩
 refine Ti (Qb (Qa (Qb (WQ.f3 ?_))))
 obtain rfl:=oi h
 exact Tj ⟨e0,c7,j,k,a3,b1,Z,(m 0),Z,Z,D,E⟩
 exact Tz
 exact Tz
 exact Tz
 exact Tz
 exact Tz
 obtain ⟨l,b6,V,b7,b8⟩:=b4
 rintro f0 f4 f5 ⟨a7,W,Q,R,T,b2,rfl,a4,a5,a6,e1,e2⟩
 refine Sr (qM (pt t 0) a4 (qu (a84_ l) (La (cs:=(l84 l)) 1 ag84 sz84 a5 Z Z) (qu (pt t 0) (Nk Z) (qu (pt t 1) (Fa Qb1 Z Z) (We (Sg (v:=(a84_ l)) (vl:=(l84 l)) (arr':=[p,(Iv l.At),(Iv l.Code),(Sv l.Op),(Iv l.Where)]) Z sz84 Z Z (onb Z) Z Z Z) Z ?_)))))
 rintro _ _ _ - ⟨rfl,rfl⟩
 refine Ns (qu (pt W 1) (Fa Q4I a6 Z) (qu (Bv V) (Lb 2 pl4 Z Z Z) (qa (Bv V) (Nt (Cr (Qa (Dr (Qa (Dr (Qa (Dr ?_)))))))))))
 exact Rf h [[(t, .cells #[p,(Iv l.At),(Iv l.Code),(Sv l.Op),(Iv l.Where)] 86 (0,0))]] Z (Rs Z Z) b2 ⟨Z,Z⟩
noncomputable def QdO (a0:QaF) (m:Int) (L:((List QaD)×Int×Int×Int×ByteArray×Int)):Option (((List QaD)×Int×Int×Int×ByteArray×Int)⊕((List QaD)×Int×Int×ByteArray×Int)):=
 match L with
 |(a,c,d,b,e,f)=>
 (((if(decide (c<m))=true then(some (decide (b=(0:Int))))else(some false)):Option Bool).bind fun n=>(if n=true then((QaY (⟨a0.B,(⟨d,b,e,f⟩:QaB)⟩:QaF) (1073741824:Int)).bind fun(g,o,p,q,r)=>((QaY (⟨a0.B,(⟨o,p,q,r⟩:QaB)⟩:QaF) (1073741824:Int)).bind fun(i,s,t,u,v)=>((Qb8 (⟨a0.B,(⟨s,t,u,v⟩:QaB)⟩:QaF) (40:Int)).bind fun(j,w,x,y,z)=>((QdD (⟨a0.B,(⟨w,x,y,z⟩:QaB)⟩:QaF)).bind fun(k,A,C,D,E)=>((QdD (⟨a0.B,(⟨A,C,D,E⟩:QaB)⟩:QaF)).bind fun(l,G,I,J,K)=>(grd (a.length+[(⟨g,i,strOfNums j,k,l⟩:QaD)].length≤274877906944) (some (inl (a++[(⟨g,i,strOfNums j,k,l⟩:QaD)],i64.wrap (c+(1:Int)),G,I,J,K)))))))))else(some (inr (a,d,b,e,f)))))
noncomputable def QeN (a0:QaF):Option ((List QaD)×Int×Int×ByteArray×Int):=
 ((QaY a0 (64:Int)).bind fun(a,b,c,d,e)=>((((iter (QdO a0 a) ([],(0:Int),b,c,d,e)).bind (fun(f,g,i,j,k)=>(some (f,g,i,j,k)))):Option ((List QaD)×Int×Int×ByteArray×Int)).bind fun(l,m,n,o,p)=>(some (l,m,n,o,p))))
def Ql1 (a0:QaF) (a:Value) (d:Nat):((List QaD)×Int×Int×ByteArray×Int)→Value→IM→HL→Prop:=
 fun(e:((List QaD)×Int×Int×ByteArray×Int)) (v:Value) (f:IM) (g:HL)=>match e with |(i,j,k,l,m)=>∃ b c,b=v∧g=[[(d, .cells #[a,(.int .i64 j),(.int .i64 k),(.string l),(.int .i64 m)] 86 (0,0))],c]∧OwnS QaG f b i c
theorem Qm9 (a0:QaF) (M:IM) (j:Value) (p:Nat) (a:RS (Kd.int .u8) M j a0.B) (a9:((List QaD)×Int×Int×ByteArray×Int)) (h:QeN a0=some a9):
 Tri prog 36 #[(pt p 0)] M [[(p, .cells (l86 a0 j).toArray 86 (0,0))]] (Ql1 a0 j p a9):=by
 unfold QeN at h
 refine Te func36 Z Z ?_
 intro F ρ g2
 refine Sr (qa Zs (Ns (qa Zs (Ns (qM (pt p 0) (g2 0) ?_)))))
 obtain ⟨⟨y,f4,f5,f6,f7⟩,b0,h⟩:=bnd h
 refine We (Cb co35 (Qa3 a0 (64:Int) _ _ _ a (y,f4,f5,f6,f7) b0) (QaS Z Z)) Z ?_
 rintro _ b1 _ K ⟨_,⟨rfl,rfl⟩,rfl⟩
 refine WL.a1 (qa (Iv y) (Nt ?_))
 obtain ⟨b2,b3,h⟩:=bnd h
 refine Jf (fun(p_:((List QaD)×Int×Int×ByteArray×Int)) J X H'=>match p_ with |(b5,Y,a2,a3,a4)=>∃ m t,b1.le X∧[(p, .cells #[j,(Iv Y),(Iv a2),(Sv a3),(Iv a4)] 86 (0,0))]::t::F=H'∧J 3=m∧OwnS QaG X m b5 t) b2 ?_ ?_
 have h:=b3
 refine Sr (qa (Iv 0) (Nt (Bk (WC.e0 (WC.f1 ?_)))))
 obtain ⟨g4,b6,b7⟩:=bnd h
 clear h
 refine WC.loop b6 (fun(p_:((List QaD)×Int×Int×Int×ByteArray×Int)) J X H'=>match p_ with |(L,l,N,u,O,P)=>∃ n w,b1.le X∧[(p, .cells #[j,(Iv N),(Iv u),(Sv O),(Iv P)] 86 (0,0))]::w::F=H'∧J 0=(pt p 0)∧J 3=n∧J 4=(Iv y)∧J 5=(Iv l)∧OwnS QaG X n L w) ?_ ?_
 exact⟨Zs,[],lr,Z,(g2 0),Z,Z,Z,(OwnS.nil _ _)⟩
 rintro ⟨L,l,N,u,O,P⟩ g5 g6 f9 g7 h ⟨n,w,z,rfl,q,G,r,s,o⟩
 unfold QdO at h
 refine Cs ?_
 obtain ⟨a5,b8,h⟩:=bnd h
 refine Jf (fun(a5:Bool) J X H'=>f9.le X∧[(p, .cells #[j,(Iv N),(Iv u),(Sv O),(Iv P)] 86 (0,0))]::w::F=H'∧J 0=(pt p 0)∧J 3=n∧J 4=(Iv y)∧J 5=(Iv l)∧J 19=(Bv a5)) a5 ?_ ?_
 have h:=b8
 refine Cg (qM (Iv l) s (qM (Iv y) r (qu (Bv (decide (l<y))) (lss Z Z) (qm (Bv (decide (l<y))) ?_))))
 rcases Bi h with⟨f,h⟩ |⟨f,h⟩
 refine On 12 Z Z f (qM (pt p 0) q (qo 12 f (pt p 0) (Nk Z) (qo 12 f (pt p 1) (Fa Qb1 Z Z) (qo 12 f (pt p 2) (Fa QlB Z Z) (qo 12 f (Iv u) (Lb 0 pl34 Z Z Z) (qo 12 f (Bv (decide (u=0))) (eql Z Z) (qu (Bv (decide (u=0))) (Pt Z f Z) (Wz ?_))))))))
 obtain rfl:=oi h
 exact Tj ⟨lr,Z,q,G,r,s,Z⟩
 iterate 6 refine Of 12 Z Z f Z ?_
 refine qu (Bv false) (Pf Z f Z) (Wz ?_)
 obtain rfl:=oi h
 exact Tj ⟨lr,Z,q,G,r,s,Z⟩
 rintro g8 g9 h0 ⟨k,rfl,d,I,T,U,Q⟩
 refine Ch h Q (fun b9 h=> ?_) (fun b9 h=> ?_)
 refine Ck (Tc (Cs (Bk (Sr (qu (.agg z66_.toArray) (Bl (cl:=z66_) ze66 fp66 Pz Z) (We (Al ze66 Z) Z ?_))))))
 rintro _ _ _ - ⟨rfl,R,rfl,rfl⟩
 refine We (Sg (v:=(.agg z66_.toArray)) (vl:=z66_) (arr':=z66_) Z sz66 Z Z (onb Z) Z Z Z) Z ?_
 rintro _ _ _ - ⟨rfl,rfl⟩
 refine Ns (qM (pt p 0) d ?_)
 obtain ⟨⟨b,c0,c1,c2,c3⟩,c4,h⟩:=bnd h
 refine WL.f1 ?_
 have a:=a.mono ((K.trans z).trans k)
 refine We (Cb co35 (Qa3 (⟨a0.B,(⟨N,u,O,P⟩:QaB)⟩:QaF) (1073741824:Int) _ _ _ a (b,c0,c1,c2,c3) c4) (QaS Z Z)) Z ?_
 rintro _ h1 _ A ⟨_,⟨rfl,rfl⟩,rfl⟩
 refine WL.a1 (qu (pt R 0) (Fa QhO Z Z) (WL.f1 (We (Es (Iv b) [(Iv b),(Iv 0),(Sv ⟨#[]⟩),(Bv false),(Bv false)] Z sz3 Z Z Z Z Z Z) Z ?_)))
 rintro _ _ _ - ⟨rfl,rfl⟩
 refine Ns (qM (pt p 0) d ?_)
 obtain ⟨⟨e,c5,c6,c7,c8⟩,c9,h⟩:=bnd h
 refine WL.f1 ?_
 have a:=a.mono A
 refine We (Cb co35 (Qa3 (⟨a0.B,(⟨c0,c1,c2,c3⟩:QaB)⟩:QaF) (1073741824:Int) _ _ _ a (e,c5,c6,c7,c8) c9) (QaS Z Z)) Z ?_
 rintro _ h2 _ C ⟨_,⟨rfl,rfl⟩,rfl⟩
 refine WL.a1 (qu (pt R 1) (Fa QmU Z Z) (WL.f1 (We (Es (Iv e) [(Iv b),(Iv e),(Sv ⟨#[]⟩),(Bv false),(Bv false)] Z sz3 Z Z Z Z Z Z) Z ?_)))
 rintro _ _ _ - ⟨rfl,rfl⟩
 refine Ns (qM (pt p 0) d ?_)
 obtain ⟨⟨c,d0,d1,d2,d3⟩,d4,h⟩:=bnd h
 refine WL.f1 ?_
 have a:=a.mono C
 refine We (Cb co38 (QeT (⟨a0.B,(⟨c5,c6,c7,c8⟩:QaB)⟩:QaF) (40:Int) _ _ _ a (c,d0,d1,d2,d3) d4) (QaS Z Z)) Z ?_
 rintro _ h3 _ D ⟨_,⟨g3,rfl,rfl,d5⟩,rfl⟩
 refine WL.a1 (qu (Sv (strOfNums c)) (b2s (ys:=c) underlying22 underlying5 underlying9 Z (d5.src _)) (qu (pt R 2) (Fa QrE Z Z) (WL.f1 (We (Es (Sv (strOfNums c)) [(Iv b),(Iv e),(Sv (strOfNums c)),(Bv false),(Bv false)] Z sz9 Z Z Z Z Z Z) Z ?_))))
 rintro _ _ _ - ⟨rfl,rfl⟩
 refine Ns (qM (pt p 0) d ?_)
 obtain ⟨⟨g,d6,d7,d8,d9⟩,e1,h⟩:=bnd h
 refine WL.f1 ?_
 have a:=a.mono D
 refine We (Cb co60 (QjD (⟨a0.B,(⟨d0,d1,d2,d3⟩:QaB)⟩:QaF) _ _ _ a (g,d6,d7,d8,d9) e1) (Qb2 Z)) Z ?_
 rintro _ h4 _ E ⟨_,⟨rfl,rfl⟩,rfl⟩
 refine WL.a1 (qu (pt R 3) (Fa Qn8 Z Z) (WL.f1 (We (Es (Bv g) [(Iv b),(Iv e),(Sv (strOfNums c)),(Bv g),(Bv false)] Z sz4 Z Z Z Z Z Z) Z ?_)))
 rintro _ _ _ - ⟨rfl,rfl⟩
 refine Ns (qM (pt p 0) d ?_)
 obtain ⟨⟨i,e2,e3,e4,e5⟩,e6,h⟩:=bnd h
 refine WL.f1 ?_
 have a:=a.mono E
 refine We (Cb co60 (QjD (⟨a0.B,(⟨d6,d7,d8,d9⟩:QaB)⟩:QaF) _ _ _ a (i,e2,e3,e4,e5) e6) (Qb2 Z)) Z ?_
 rintro _ g1 _ S ⟨_,⟨rfl,rfl⟩,rfl⟩
 refine WL.a1 (qu (pt R 4) (Fa Qs1 Z Z) (WL.f1 (We (Es (Bv i) [(Iv b),(Iv e),(Sv (strOfNums c)),(Bv g),(Bv i)] Z sz4 Z Z Z Z Z Z) Z ?_)))
 rintro _ _ _ - ⟨rfl,rfl⟩
 refine Nt (Cg (qM n I (qu (.agg #[(Iv b),(Iv e),(Sv (strOfNums c)),(Bv g),(Bv i)]) (La (cs:=[(Iv b),(Iv e),(Sv (strOfNums c)),(Bv g),(Bv i)]) 0 ag66 sz66 Z Z Z) (We (buildSliceL (cl:=[(Iv b),(Iv e),(Sv (strOfNums c)),(Bv g),(Bv i)]) underlying24 iz66 Z (Pc (.agg #[(Iv b),(Iv e),(Sv (strOfNums c)),(Bv g),(Bv i)]) Z Z Pz) Z) Z ?_))))
 rintro _ _ _ - ⟨rfl,e7,rfl,rfl⟩
 have e8:OwnS QaG g1 (.slice (some ⟨e7,0,none⟩) 1 1) [(⟨b,e,strOfNums c,g,i⟩:QaD)] [(e7, .cells #[(Iv b),(Iv e),(Sv (strOfNums c)),(Bv g),(Bv i)] 66 (0,0))]:=OwnS.rows (css:=[[(Iv b),(Iv e),(Sv (strOfNums c)),(Bv g),(Bv i)]]) (Rows.cons (Qd3 (x:=(⟨b,e,strOfNums c,g,i⟩:QaD))) Rows.nil) Z Z
 obtain ⟨a6,h⟩:=Qa1 h
 refine WL.f3 ?_
 have o:=o.mono (((((k.trans A).trans C).trans D).trans E).trans S)
 refine We (append (dd:=QaG) (xs:=L) (ys:=[(⟨b,e,strOfNums c,g,i⟩:QaD)]) underlying24 underlying24 in66 Z (appB (by decide) a6) (by decide) Z Z o (e8.src 1 Z)) Z ?_
 rintro W _ _ - ⟨rfl,e9,rfl,f0⟩
 refine qa W (Wz (Bn (Tc (Cg (qM (Iv l) U (qu (Iv (i64.wrap (l+1))) (add Z Z) (qa (Iv (i64.wrap (l+1))) (Wz (Qa (Dr (Qa ?_)))))))))))
 exact Dr (Qa (WQ.again (L++[(⟨b,e,strOfNums c,g,i⟩:QaD)],i64.wrap (l+1),e2,e3,e4,e5) (oi h).symm ⟨W,e9,((((((z.trans k).trans A).trans C).trans D).trans E).trans S),Z,d,Z,T,Z,f0⟩))
 refine WC.exit (WQ.thenE (WQ.leaveE (L,N,u,O,P) (oi h).symm (fun a7=> ?_)))
 subst a7
 have h:=b7
 refine WQ.blockH ?_
 obtain rfl:=oi h
 refine Tj ?_
 have o:=o.mono k
 exact⟨n,w,(z.trans k),Z,I,o⟩
 obtain ⟨b5,Y,a2,a3,a4⟩:=b2
 rintro h5 h6 h7 ⟨m,t,a8,rfl,V,f2⟩
 exact Sr (qM m V (qa m (Nt (Cr (Rf h [[(p, .cells #[j,(Iv Y),(Iv a2),(Sv a3),(Iv a4)] 86 (0,0))],t] Z (Rs Z Z) (K.trans a8) ⟨m,t,Z,Z,f2⟩)))))

end Go.Proofs.YtfkmkgpoddbbfaaGreatDoor.G
