/- Go functions: what they come to, and that they do. Printed by a program of the session (gen). -/
import Derived.Test.YtfkmkgpoddbbfaaGreatDoorRF
import Derived.Test.YtfkmkgpoddbbfaaGreatDoorR0
import Derived.Test.YtfkmkgpoddbbfaaGreatDoorR1
import Derived.Test.YtfkmkgpoddbbfaaGreatDoorR7
import Derived.Test.YtfkmkgpoddbbfaaGreatDoorR8
import Derived.Test.YtfkmkgpoddbbfaaGreatDoorKShar2
import Derived.Test.YtfkmkgpoddbbfaaGreatDoorKConv
import Derived.Test.YtfkmkgpoddbbfaaGreatDoorKMap
import Derived.Test.YtfkmkgpoddbbfaaGreatDoorKTight2
set_option linter.unusedVariables false
set_option linter.unusedSimpArgs false
set_option maxHeartbeats 8000000
set_option maxRecDepth 100000
namespace Go.Proofs.YtfkmkgpoddbbfaaGreatDoor.G
open Go Go.KK
open PO EO IntKind Sum Tryz

noncomputable def QcT (a0:QaF) (a1:Int) (a2:Int):Option ((List Int)×Int×Int×ByteArray×Int):=
 ((((QcA a0.B a0.S (⟨(4:Int),a1,a2⟩:Qa8)).bind fun(c,a)=>(some (c,a.Num,a.Flag,a.Text,a.Row))):Option (QaB×Int×Bool×(List Int)×(List Int))).bind fun(b,e,f,g,d)=>(some (d,b.At,b.Code,b.Op,b.Where)))
def QmI (a0:QaF) (a1:Int) (a2:Int) (a:Value) (d:Nat):((List Int)×Int×Int×ByteArray×Int)→Value→IM→HL→Prop:=
 fun(e:((List Int)×Int×Int×ByteArray×Int)) (v:Value) (f:IM) (g:HL)=>match e with |(i,j,k,l,m)=>∃ b c,b=v∧g=[[(d, .cells #[a,(.int .i64 j),(.int .i64 k),(.string l),(.int .i64 m)] 86 (0,0))],c]∧OwnS (Kd.int .i64) f b i c
theorem QfE (a0:QaF) (a1:Int) (a2:Int) (M:IM) (p:Value) (w:Nat) (t:RS (Kd.int .u8) M p a0.B) (b3:((List Int)×Int×Int×ByteArray×Int)) (h:QcT a0 a1 a2=some b3):
 Tri prog 91 #[(pt w 0),(Iv a1),(Iv a2)] M [[(w, .cells (l86 a0 p).toArray 86 (0,0))]] (QmI a0 a1 a2 p w b3):=by
 unfold QcT at h
 refine Te func91 Z Z ?_
 intro F ρ c
 refine Sr (qa Zs (Nt ?_))
 obtain ⟨b4,b5,h⟩:=bnd h
 refine Jf (fun(p_:(QaB×Int×Bool×(List Int)×(List Int))) d3 M' H'=>match p_ with |(m,b6,b7,b8,b9)=>∃ a7 V T q u,M.le M'∧[(w, .cells (l86 a0 p).toArray 86 (0,0))]::[(a7, .cells (l84 m).toArray 84 (0,0))]::[(V, .cells #[(Uv b6),(Bv b7),T,q] 116 (0,0))]::u::F=H'∧d3 0=(pt w 0)∧d3 7=(pt a7 0)∧d3 8=(pt V 0)∧RS (Kd.int .u8) M' T b8∧OwnS (Kd.int .i64) M' q b9 u) b4 ?_ ?_
 have h:=b5
 refine WC.draw [0,1,3,7,0,16,48,112,0,0,768,2047,4095,8191,8191,0,0,114687,262143] (.pure 0 (.pure 1 (.pure 2 (.pure 3 (.pure 4 (.pure 5 (.pure 6 (.pure 7 (.pure 8 (.pure 9 (.pure 10 (.alt 11 (.pure 12 (.pure 13 (.pure 14 (.alt 15 (.alt 16 (.alt 17 (.alt 18 .done .none) .none) .none) (.alt 16 (.alt 15 (.alt 17 (.alt 18 .done .none) .none) .none) .none))))) (.alt 15 (.alt 11 (.pure 12 (.pure 13 (.pure 14 (.alt 16 (.alt 17 (.alt 18 .done .none) .none) .none)))) (.alt 16 (.alt 11 (.pure 12 (.pure 13 (.pure 14 (.alt 17 (.alt 18 .done .none) .none)))) .none) .none)) (.alt 16 (.alt 11 (.pure 12 (.pure 13 (.pure 14 (.alt 15 (.alt 17 (.alt 18 .done .none) .none) .none)))) (.alt 15 (.alt 11 (.pure 12 (.pure 13 (.pure 14 (.alt 17 (.alt 18 .done .none) .none)))) .none) .none)) .none)))))))))))))) Qc3 (by kernel_rfl) (qt (pt w 0) Z (Mv (c 0)) (qt (pt w 0) Z (Nk Z) (qt (pt w 0) Z (Fa Qc2 Z Z) (qt p Z (Lb 0 pl22 Z Z Z) (qt (pt w 0) Z (Mv (c 0)) (qt (pt w 0) Z (Nk Z) (qt (pt w 1) Z (Fa Qb1 Z Z) (qt (a84_ a0.S) Z (La (cs:=(l84 a0.S)) 0 ag84 sz84 Z Z Z) (qt (Iv a1) Z (Mv (c 1)) (qt (Iv a2) Z (Mv (c 2)) (qt (.agg #[(Iv 4),(Iv a1),(Iv a2)]) Z (Bl (cl:=[(Iv 4),(Iv a1),(Iv a2)]) QfJ QfI (Pc (Iv 4) Z Z (Pc (Iv a1) Z Z (Pc (Iv a2) Z Z Pz))) Z) ?_)))))))))))
 have c0:=h
 obtain ⟨⟨r,s⟩,c1,h⟩:=bnd h
 refine Ta Z (Ca co59 (QbE a0.B a0.S (⟨(4:Int),a1,a2⟩:Qa8) _ _ t (r,s) c1) (QcV Z Z Z)) Z ?_ ?_
 rintro _ e6 _ U ⟨_,⟨a,b,x,rfl,rfl,n,o⟩,rfl⟩
 refine⟨(Sl Z), ?_⟩
 refine WT.a1 (qt (.tuple #[(a84_ r),(QdA s a b)]) Z (Mv Z) (qt (a84_ r) Z (Xt Z Z) (qt (QdA s a b) Z (Xt Z Z) ?_)))
 have c2:=h
 refine Ta Z (Al ze84 Z) Z ?_ ?_
 rintro _ _ _ - ⟨rfl,d5,rfl,rfl⟩
 refine⟨(Ss Z (Xt Z Z) Z (Ss Z (Xt Z Z) Z (Ss Z (Mv Z) Z (Ss Z (Bl (cl:=[(Iv 4),(Iv a1),(Iv a2)]) QfJ QfI (Pc (Iv 4) Z Z (Pc (Iv a1) Z Z (Pc (Iv a2) Z Z Pz))) Z) Z (Ss Z (Mv (c 2)) Z (Ss Z (Mv (c 1)) Z (Ss Z (La (cs:=(l84 a0.S)) 2 ag84 sz84 Z Z Z) Z (Ss Z (Fa Qb1 Z Z) Z (Ss Z (Nk Z) Z (Ss Z (Mv (c 0)) Z (Ss Z (Lb 2 pl22 Z Z Z) Z (Ss Z (Fa Qc2 Z Z) Z (Ss Z (Nk Z) Z (Ss Z (Mv (c 0)) Z trivial)))))))))))))), ?_⟩
 refine Ta Z (Al Qi6 Z) Z ?_ ?_
 rintro _ _ _ - ⟨rfl,d6,rfl,rfl⟩
 refine⟨(Ss Z (Xt Z Z) Z (Ss Z (Xt Z Z) Z (Ss Z (Mv Z) Z (Ss Z (Bl (cl:=[(Iv 4),(Iv a1),(Iv a2)]) QfJ QfI (Pc (Iv 4) Z Z (Pc (Iv a1) Z Z (Pc (Iv a2) Z Z Pz))) Z) Z (Ss Z (Mv (c 2)) Z (Ss Z (Mv (c 1)) Z (Ss Z (La (cs:=(l84 a0.S)) 3 ag84 sz84 Z Z Z) Z (Ss Z (Fa Qb1 Z Z) Z (Ss Z (Nk Z) Z (Ss Z (Mv (c 0)) Z (Ss Z (Lb 3 pl22 Z Z Z) Z (Ss Z (Fa Qc2 Z Z) Z (Ss Z (Nk Z) Z (Ss Z (Mv (c 0)) Z trivial)))))))))))))), ?_⟩
 refine WT.f1 (Ta Z (Sg (v:=(a84_ r)) (vl:=(l84 r)) (arr':=(l84 r)) Z sz84 Z Z (onb Z) Z Z Z) Z ?_ ?_)
 rintro _ _ _ - ⟨rfl,rfl⟩
 refine⟨(Ss Z (Xt Z Z) Z (Sl Z)), ?_⟩
 refine WT.f1 (Ta Z (Sg (v:=(QdA s a b)) (vl:=(l116 s a b)) (arr':=(l116 s a b)) Z QgS Z Z (QaX (Oc Z (Oc Z (Oc (RS.one n) (Oc (Ow o) Oz))))) Z Z Z) Z ?_ ?_)
 rintro _ _ _ - ⟨rfl,rfl⟩
 refine⟨(Sl Z), ?_⟩
 refine Ti (Qb (Qa (Qb (WQ.f3 ?_))))
 obtain rfl:=oi h
 exact Tj ⟨d5,d6,a,b,x,U,Z,(c 0),Z,Z,n,o⟩
 exact Tz
 exact Tz
 exact Tz
 have h:=c2
 refine Ta Z (Al Qi6 Z) Z ?_ ?_
 rintro _ _ _ - ⟨rfl,d7,rfl,rfl⟩
 refine⟨(Ss Z (Xt Z Z) Z (Ss Z (Xt Z Z) Z (Ss Z (Mv Z) Z (Ss Z (Bl (cl:=[(Iv 4),(Iv a1),(Iv a2)]) QfJ QfI (Pc (Iv 4) Z Z (Pc (Iv a1) Z Z (Pc (Iv a2) Z Z Pz))) Z) Z (Ss Z (Mv (c 2)) Z (Ss Z (Mv (c 1)) Z (Ss Z (La (cs:=(l84 a0.S)) 2 ag84 sz84 Z Z Z) Z (Ss Z (Fa Qb1 Z Z) Z (Ss Z (Nk Z) Z (Ss Z (Mv (c 0)) Z (Ss Z (Lb 2 pl22 Z Z Z) Z (Ss Z (Fa Qc2 Z Z) Z (Ss Z (Nk Z) Z (Ss Z (Mv (c 0)) Z trivial)))))))))))))), ?_⟩
 refine Ta Z (Al ze84 Z) Z ?_ ?_
 rintro _ _ _ - ⟨rfl,d8,rfl,rfl⟩
 refine⟨(Ss Z (Xt Z Z) Z (Ss Z (Xt Z Z) Z (Ss Z (Mv Z) Z (Ss Z (Bl (cl:=[(Iv 4),(Iv a1),(Iv a2)]) QfJ QfI (Pc (Iv 4) Z Z (Pc (Iv a1) Z Z (Pc (Iv a2) Z Z Pz))) Z) Z (Ss Z (Mv (c 2)) Z (Ss Z (Mv (c 1)) Z (Ss Z (La (cs:=(l84 a0.S)) 3 ag84 sz84 Z Z Z) Z (Ss Z (Fa Qb1 Z Z) Z (Ss Z (Nk Z) Z (Ss Z (Mv (c 0)) Z (Ss Z (Lb 3 pl22 Z Z Z) Z (Ss Z (Fa Qc2 Z Z) Z (Ss Z (Nk Z) Z (Ss Z (Mv (c 0)) Z trivial)))))))))))))), ?_⟩
 refine Ta Z (Sg (v:=(a84_ r)) (vl:=(l84 r)) (arr':=(l84 r)) Z sz84 Z Z (onb Z) Z Z Z) Z ?_ ?_
 rintro _ _ _ - ⟨rfl,rfl⟩
 refine⟨(Ss Z (Xt Z Z) Z (Sl Z)), ?_⟩
 refine WT.f1 (Ta Z (Sg (v:=(QdA s a b)) (vl:=(l116 s a b)) (arr':=(l116 s a b)) Z QgS Z Z (QaX (Oc Z (Oc Z (Oc (RS.one n) (Oc (Ow o) Oz))))) Z Z Z) Z ?_ ?_)
 rintro _ _ _ - ⟨rfl,rfl⟩
 refine⟨(Sl Z), ?_⟩
 refine Ti (Qb (Qa (Qb (WQ.f3 ?_))))
 obtain rfl:=oi h
 exact Tj ⟨d8,d7,a,b,x,U,Z,(c 0),Z,Z,n,o⟩
 exact Tz
 exact Tz
 exact Tz
 exact Tz
 have h:=c0
 have c3:=h
 refine Ta Z (Al ze84 Z) Z ?_ ?_
 rintro _ _ _ - ⟨rfl,c4,rfl,rfl⟩
 refine⟨(Ss Z (Bl (cl:=[(Iv 4),(Iv a1),(Iv a2)]) QfJ QfI (Pc (Iv 4) Z Z (Pc (Iv a1) Z Z (Pc (Iv a2) Z Z Pz))) Z) Z (Ss Z (Mv (c 2)) Z (Ss Z (Mv (c 1)) Z (Ss Z (La (cs:=(l84 a0.S)) 1 ag84 sz84 Z Z Z) Z (Ss Z (Fa Qb1 Z Z) Z (Ss Z (Nk Z) Z (Ss Z (Mv (c 0)) Z (Ss Z (Lb 1 pl22 Z Z Z) Z (Ss Z (Fa Qc2 Z Z) Z (Ss Z (Nk Z) Z (Ss Z (Mv (c 0)) Z trivial))))))))))), ?_⟩
 have c5:=h
 obtain ⟨⟨J,K⟩,c6,h⟩:=bnd h
 refine Ta Z (Ca co59 (QbE a0.B a0.S (⟨(4:Int),a1,a2⟩:Qa8) _ _ t (J,K) c6) (QcV Z Z Z)) Z ?_ ?_
 rintro _ e7 _ a8 ⟨_,⟨d,e,W,rfl,rfl,y,z⟩,rfl⟩
 refine⟨(Sl Z), ?_⟩
 refine WT.a1 (qt (.tuple #[(a84_ J),(QdA K d e)]) Z (Mv Z) (qt (a84_ J) Z (Xt Z Z) (qt (QdA K d e) Z (Xt Z Z) (Ta Z (Al Qi6 Z) Z ?_ ?_))))
 rintro _ _ _ - ⟨rfl,d9,rfl,rfl⟩
 refine⟨(Ss Z (Xt Z Z) Z (Ss Z (Xt Z Z) Z (Ss Z (Mv Z) Z (Ss Z (Bl (cl:=[(Iv 4),(Iv a1),(Iv a2)]) QfJ QfI (Pc (Iv 4) Z Z (Pc (Iv a1) Z Z (Pc (Iv a2) Z Z Pz))) Z) Z (Ss Z (Mv (c 2)) Z (Ss Z (Mv (c 1)) Z (Ss Z (La (cs:=(l84 a0.S)) 3 ag84 sz84 Z Z Z) Z (Ss Z (Fa Qb1 Z Z) Z (Ss Z (Nk Z) Z (Ss Z (Mv (c 0)) Z (Ss Z (Lb 3 pl22 Z Z Z) Z (Ss Z (Fa Qc2 Z Z) Z (Ss Z (Nk Z) Z (Ss Z (Mv (c 0)) Z trivial)))))))))))))), ?_⟩
 refine WT.f2 (Ta Z (Sg (v:=(a84_ J)) (vl:=(l84 J)) (arr':=(l84 J)) Z sz84 Z Z (onb Z) Z Z Z) Z ?_ ?_)
 rintro _ _ _ - ⟨rfl,rfl⟩
 refine⟨(Ss Z (Xt Z Z) Z (Sl Z)), ?_⟩
 refine WT.f1 (Ta Z (Sg (v:=(QdA K d e)) (vl:=(l116 K d e)) (arr':=(l116 K d e)) Z QgS Z Z (QaX (Oc Z (Oc Z (Oc (RS.one y) (Oc (Ow z) Oz))))) Z Z Z) Z ?_ ?_)
 rintro _ _ _ - ⟨rfl,rfl⟩
 refine⟨(Sl Z), ?_⟩
 refine Ti (Qb (Qa (Qb (WQ.f3 ?_))))
 obtain rfl:=oi h
 exact Tj ⟨c4,d9,d,e,W,a8,Z,(c 0),Z,Z,y,z⟩
 exact Tz
 exact Tz
 exact Tz
 have h:=c5
 refine Ta Z (Al Qi6 Z) Z ?_ ?_
 rintro _ _ _ - ⟨rfl,e0,rfl,rfl⟩
 refine⟨(Ss Z (Bl (cl:=[(Iv 4),(Iv a1),(Iv a2)]) QfJ QfI (Pc (Iv 4) Z Z (Pc (Iv a1) Z Z (Pc (Iv a2) Z Z Pz))) Z) Z (Ss Z (Mv (c 2)) Z (Ss Z (Mv (c 1)) Z (Ss Z (La (cs:=(l84 a0.S)) 2 ag84 sz84 Z Z Z) Z (Ss Z (Fa Qb1 Z Z) Z (Ss Z (Nk Z) Z (Ss Z (Mv (c 0)) Z (Ss Z (Lb 2 pl22 Z Z Z) Z (Ss Z (Fa Qc2 Z Z) Z (Ss Z (Nk Z) Z (Ss Z (Mv (c 0)) Z trivial))))))))))), ?_⟩
 obtain ⟨⟨L,N⟩,c7,h⟩:=bnd h
 refine Ta Z (Ca co59 (QbE a0.B a0.S (⟨(4:Int),a1,a2⟩:Qa8) _ _ t (L,N) c7) (QcV Z Z Z)) Z ?_ ?_
 rintro _ e8 _ a9 ⟨_,⟨f,g,X,rfl,rfl,A,C⟩,rfl⟩
 refine⟨(Sl Z), ?_⟩
 refine WT.a1 (qt (.tuple #[(a84_ L),(QdA N f g)]) Z (Mv Z) (qt (a84_ L) Z (Xt Z Z) (qt (QdA N f g) Z (Xt Z Z) (WT.f2 (Ta Z (Sg (v:=(a84_ L)) (vl:=(l84 L)) (arr':=(l84 L)) Z sz84 Z Z (onb Z) Z Z Z) Z ?_ ?_)))))
 rintro _ _ _ - ⟨rfl,rfl⟩
 refine⟨(Ss Z (Xt Z Z) Z (Sl Z)), ?_⟩
 refine WT.f2 (Ta Z (Sg (v:=(QdA N f g)) (vl:=(l116 N f g)) (arr':=(l116 N f g)) Z QgS Z Z (QaX (Oc Z (Oc Z (Oc (RS.one A) (Oc (Ow C) Oz))))) Z Z Z) Z ?_ ?_)
 rintro _ _ _ - ⟨rfl,rfl⟩
 refine⟨(Sl Z), ?_⟩
 refine Ti (Qb (Qa (Qb (WQ.f3 ?_))))
 obtain rfl:=oi h
 exact Tj ⟨c4,e0,f,g,X,a9,Z,(c 0),Z,Z,A,C⟩
 exact Tz
 exact Tz
 exact Tz
 exact Tz
 have h:=c3
 refine Ta Z (Al Qi6 Z) Z ?_ ?_
 rintro _ _ _ - ⟨rfl,c8,rfl,rfl⟩
 refine⟨(Ss Z (Bl (cl:=[(Iv 4),(Iv a1),(Iv a2)]) QfJ QfI (Pc (Iv 4) Z Z (Pc (Iv a1) Z Z (Pc (Iv a2) Z Z Pz))) Z) Z (Ss Z (Mv (c 2)) Z (Ss Z (Mv (c 1)) Z (Ss Z (La (cs:=(l84 a0.S)) 1 ag84 sz84 Z Z Z) Z (Ss Z (Fa Qb1 Z Z) Z (Ss Z (Nk Z) Z (Ss Z (Mv (c 0)) Z (Ss Z (Lb 1 pl22 Z Z Z) Z (Ss Z (Fa Qc2 Z Z) Z (Ss Z (Nk Z) Z (Ss Z (Mv (c 0)) Z trivial))))))))))), ?_⟩
 have c9:=h
 obtain ⟨⟨O,P⟩,d0,h⟩:=bnd h
 refine Ta Z (Ca co59 (QbE a0.B a0.S (⟨(4:Int),a1,a2⟩:Qa8) _ _ t (O,P) d0) (QcV Z Z Z)) Z ?_ ?_
 rintro _ e9 _ b0 ⟨_,⟨i,j,Y,rfl,rfl,D,E⟩,rfl⟩
 refine⟨(Sl Z), ?_⟩
 refine WT.a1 (qt (.tuple #[(a84_ O),(QdA P i j)]) Z (Mv Z) (qt (a84_ O) Z (Xt Z Z) (qt (QdA P i j) Z (Xt Z Z) (Ta Z (Al ze84 Z) Z ?_ ?_))))
 rintro _ _ _ - ⟨rfl,e1,rfl,rfl⟩
 refine⟨(Ss Z (Xt Z Z) Z (Ss Z (Xt Z Z) Z (Ss Z (Mv Z) Z (Ss Z (Bl (cl:=[(Iv 4),(Iv a1),(Iv a2)]) QfJ QfI (Pc (Iv 4) Z Z (Pc (Iv a1) Z Z (Pc (Iv a2) Z Z Pz))) Z) Z (Ss Z (Mv (c 2)) Z (Ss Z (Mv (c 1)) Z (Ss Z (La (cs:=(l84 a0.S)) 3 ag84 sz84 Z Z Z) Z (Ss Z (Fa Qb1 Z Z) Z (Ss Z (Nk Z) Z (Ss Z (Mv (c 0)) Z (Ss Z (Lb 3 pl22 Z Z Z) Z (Ss Z (Fa Qc2 Z Z) Z (Ss Z (Nk Z) Z (Ss Z (Mv (c 0)) Z trivial)))))))))))))), ?_⟩
 refine Ta Z (Sg (v:=(a84_ O)) (vl:=(l84 O)) (arr':=(l84 O)) Z sz84 Z Z (onb Z) Z Z Z) Z ?_ ?_
 rintro _ _ _ - ⟨rfl,rfl⟩
 refine⟨(Ss Z (Xt Z Z) Z (Sl Z)), ?_⟩
 refine WT.f2 (Ta Z (Sg (v:=(QdA P i j)) (vl:=(l116 P i j)) (arr':=(l116 P i j)) Z QgS Z Z (QaX (Oc Z (Oc Z (Oc (RS.one D) (Oc (Ow E) Oz))))) Z Z Z) Z ?_ ?_)
 rintro _ _ _ - ⟨rfl,rfl⟩
 refine⟨(Sl Z), ?_⟩
 refine Ti (Qb (Qa (Qb (WQ.f3 ?_))))
 obtain rfl:=oi h
 exact Tj ⟨e1,c8,i,j,Y,b0,Z,(c 0),Z,Z,D,E⟩
 exact Tz
 exact Tz
 exact Tz
 have h:=c9
 refine Ta Z (Al ze84 Z) Z ?_ ?_
 rintro _ _ _ - ⟨rfl,e2,rfl,rfl⟩
 refine⟨(Ss Z (Bl (cl:=[(Iv 4),(Iv a1),(Iv a2)]) QfJ QfI (Pc (Iv 4) Z Z (Pc (Iv a1) Z Z (Pc (Iv a2) Z Z Pz))) Z) Z (Ss Z (Mv (c 2)) Z (Ss Z (Mv (c 1)) Z (Ss Z (La (cs:=(l84 a0.S)) 2 ag84 sz84 Z Z Z) Z (Ss Z (Fa Qb1 Z Z) Z (Ss Z (Nk Z) Z (Ss Z (Mv (c 0)) Z (Ss Z (Lb 2 pl22 Z Z Z) Z (Ss Z (Fa Qc2 Z Z) Z (Ss Z (Nk Z) Z (Ss Z (Mv (c 0)) Z trivial))))))))))), ?_⟩
 obtain ⟨⟨Q,R⟩,d1,h⟩:=bnd h
 refine Ta Z (Ca co59 (QbE a0.B a0.S (⟨(4:Int),a1,a2⟩:Qa8) _ _ t (Q,R) d1) (QcV Z Z Z)) Z ?_ ?_
 rintro _ f0 _ b1 ⟨_,⟨k,l,a3,rfl,rfl,G,I⟩,rfl⟩
 refine⟨(Sl Z), ?_⟩
 refine WT.a1 (qt (.tuple #[(a84_ Q),(QdA R k l)]) Z (Mv Z) (qt (a84_ Q) Z (Xt Z Z) (qt (QdA R k l) Z (Xt Z Z) (WT.f1 (Ta Z (Sg (v:=(a84_ Q)) (vl:=(l84 Q)) (arr':=(l84 Q)) Z sz84 Z Z (onb Z) Z Z Z) Z ?_ ?_)))))
 rintro _ _ _ - ⟨rfl,rfl⟩
 refine⟨(Ss Z (Xt Z Z) Z (Sl Z)), ?_⟩
 refine WT.f2 (Ta Z (Sg (v:=(QdA R k l)) (vl:=(l116 R k l)) (arr':=(l116 R k l)) Z QgS Z Z (QaX (Oc Z (Oc Z (Oc (RS.one G) (Oc (Ow I) Oz))))) Z Z Z) Z ?_ ?_)
 rintro _ _ _ - ⟨rfl,rfl⟩
 refine⟨(Sl Z), ?_⟩
 refine Ti (Qb (Qa (Qb (WQ.f3 ?_))))
 obtain rfl:=oi h
 exact Tj ⟨e2,c8,k,l,a3,b1,Z,(c 0),Z,Z,G,I⟩
 exact Tz
 exact Tz
 exact Tz
 exact Tz
 exact Tz
 obtain ⟨m,b6,b7,b8,b9⟩:=b4
 rintro f4 f5 f6 ⟨a7,V,T,q,u,b2,rfl,a4,a5,a6,e3,d2⟩
 refine Sr (qM (pt w 0) a4 (qu (a84_ m) (La (cs:=(l84 m)) 1 ag84 sz84 a5 Z Z) (qu (pt w 0) (Nk Z) (qu (pt w 1) (Fa Qb1 Z Z) (We (Sg (v:=(a84_ m)) (vl:=(l84 m)) (arr':=[p,(Iv m.At),(Iv m.Code),(Sv m.Op),(Iv m.Where)]) Z sz84 Z Z (onb Z) Z Z Z) Z ?_)))))
 rintro _ _ _ - ⟨rfl,rfl⟩
 exact Ns (qu (pt V 3) (Fa Q4K a6 Z) (qu q (Lb 2 pl51 Z Z Z) (qa q (Nt (Cr (Qa (Dr (Qa (Dr (Rf h [[(w, .cells #[p,(Iv m.At),(Iv m.Code),(Sv m.Op),(Iv m.Where)] 86 (0,0))],u] Z (Rs Z Z) b2 ⟨q,u,Z,Z,d2⟩))))))))))
noncomputable def QgP (a0:QaF):Option (QaK×Int×Int×ByteArray×Int):=
 ((QcT a0 (7:Int) (64:Int)).bind fun(a,b,c,d,e)=>((QcT (⟨a0.B,(⟨b,c,d,e⟩:QaB)⟩:QaF) (7:Int) (64:Int)).bind fun(f,g,i,j,k)=>((QaY (⟨a0.B,(⟨g,i,j,k⟩:QaB)⟩:QaF) (1073741824:Int)).bind fun(l,m,n,o,p)=>((QaY (⟨a0.B,(⟨m,n,o,p⟩:QaB)⟩:QaF) (1073741824:Int)).bind fun(q,r,s,t,u)=>((QcT (⟨a0.B,(⟨r,s,t,u⟩:QaB)⟩:QaF) (7:Int) (64:Int)).bind fun(v,w,x,y,z)=>((QcT (⟨a0.B,(⟨w,x,y,z⟩:QaB)⟩:QaF) (7:Int) (64:Int)).bind fun(A,C,D,E,G)=>(some ((⟨a,f,l,q,v,A⟩:QaK),C,D,E,G))))))))
def QnZ (a0:QaF) (k:Value) (m:Nat):(QaK×Int×Int×ByteArray×Int)→Value→IM→HL→Prop:=
 fun(n:(QaK×Int×Int×ByteArray×Int)) (v:Value) (l:IM) (o:HL)=>match n with |(j,p,q,r,s)=>∃ a b c d e f g i,(.agg #[a,c,(.int .i64 j.Leader),(.int .i64 j.Epoch),e,g])=v∧o=[[(m, .cells #[k,(.int .i64 p),(.int .i64 q),(.string r),(.int .i64 s)] 86 (0,0))],b,d,f,i]∧OwnS (Kd.int .i64) l a j.Ids b∧OwnS (Kd.int .i64) l c j.Isr d∧OwnS (Kd.int .i64) l e j.Add f∧OwnS (Kd.int .i64) l g j.Drop i
theorem QpY (a0:QaF) (M:IM) (q:Value) (u:Nat) (a:RS (Kd.int .u8) M q a0.B) (C:(QaK×Int×Int×ByteArray×Int)) (h:QgP a0=some C):
 Tri prog 61 #[(pt u 0)] M [[(u, .cells (l86 a0 q).toArray 86 (0,0))]] (QnZ a0 q u C):=by
 unfold QgP at h
 refine Te func61 Z Z ?_
 intro F ρ A
 refine Sr (We (Al ze53 Z) Z ?_)
 rintro _ _ _ - ⟨rfl,b8,rfl,rfl⟩
 refine Ns (qu (.agg z53_.toArray) (Bl (cl:=z53_) ze53 fp53 Pz Z) (We (Al ze53 Z) Z ?_))
 rintro _ _ _ - ⟨rfl,s,rfl,rfl⟩
 refine We (Sg (v:=(.agg z53_.toArray)) (vl:=z53_) (arr':=z53_) Z sz53 Z Z (onb Z) Z Z Z) Z ?_
 rintro _ _ _ - ⟨rfl,rfl⟩
 refine Ns (qM (pt u 0) (A 0) ?_)
 obtain ⟨⟨b4,D,E,G,I⟩,J,h⟩:=bnd h
 refine Wb (We (Cb co91 (QfE a0 (7:Int) (64:Int) _ _ _ a (b4,D,E,G,I) J) (QcV Z Z Z)) Z ?_)
 rintro _ b9 _ t ⟨_,⟨b,w,rfl,rfl,i⟩,rfl⟩
 refine WL.a2 (qu (pt s 0) (Fa QiN Z Z) (Wb (We (Es b [b,Zs,(Iv 0),(Iv 0),Zs,Zs] i.cells sz51 Z Z (Ow i) Z Z Z) Z ?_)))
 rintro _ _ _ - ⟨rfl,rfl⟩
 refine Ns (qM (pt u 0) (A 0) ?_)
 obtain ⟨⟨b5,K,L,N,O⟩,P,h⟩:=bnd h
 refine WL.f1 ?_
 have a:=a.mono t
 refine We (Cb co91 (QfE (⟨a0.B,(⟨D,E,G,I⟩:QaB)⟩:QaF) (7:Int) (64:Int) _ _ _ a (b5,K,L,N,O) P) (QcV Z Z Z)) Z ?_
 rintro _ c0 _ p ⟨_,⟨c,x,rfl,rfl,j⟩,rfl⟩
 refine WL.a2 (qu (pt s 1) (Fa QlA Z Z) (Wb (We (Es c [b,c,(Iv 0),(Iv 0),Zs,Zs] j.cells sz51 Z Z (Ow j) Z Z Z) Z ?_)))
 rintro _ _ _ - ⟨rfl,rfl⟩
 refine Ns (qM (pt u 0) (A 0) ?_)
 obtain ⟨⟨f,Q,R,S,T⟩,U,h⟩:=bnd h
 refine WL.f1 ?_
 have a:=a.mono p
 refine We (Cb co35 (Qa3 (⟨a0.B,(⟨K,L,N,O⟩:QaB)⟩:QaF) (1073741824:Int) _ _ _ a (f,Q,R,S,T) U) (QaS Z Z)) Z ?_
 rintro _ c1 _ l ⟨_,⟨rfl,rfl⟩,rfl⟩
 refine WL.a1 (qu (pt s 2) (Fa QkK Z Z) (WL.f1 (We (Es (Iv f) [b,c,(Iv f),(Iv 0),Zs,Zs] Z sz3 Z Z Z Z Z Z) Z ?_)))
 rintro _ _ _ - ⟨rfl,rfl⟩
 refine Ns (qM (pt u 0) (A 0) ?_)
 obtain ⟨⟨g,V,W,X,Y⟩,a3,h⟩:=bnd h
 refine WL.f1 ?_
 have a:=a.mono l
 refine We (Cb co35 (Qa3 (⟨a0.B,(⟨Q,R,S,T⟩:QaB)⟩:QaF) (1073741824:Int) _ _ _ a (g,V,W,X,Y) a3) (QaS Z Z)) Z ?_
 rintro _ c2 _ m ⟨_,⟨rfl,rfl⟩,rfl⟩
 refine WL.a1 (qu (pt s 3) (Fa Ql4 Z Z) (WL.f1 (We (Es (Iv g) [b,c,(Iv f),(Iv g),Zs,Zs] Z sz3 Z Z Z Z Z Z) Z ?_)))
 rintro _ _ _ - ⟨rfl,rfl⟩
 refine Ns (qM (pt u 0) (A 0) ?_)
 obtain ⟨⟨b6,a4,a5,a6,a7⟩,a8,h⟩:=bnd h
 refine WL.f1 ?_
 have a:=a.mono m
 refine We (Cb co91 (QfE (⟨a0.B,(⟨V,W,X,Y⟩:QaB)⟩:QaF) (7:Int) (64:Int) _ _ _ a (b6,a4,a5,a6,a7) a8) (QcV Z Z Z)) Z ?_
 rintro _ c3 _ n ⟨_,⟨d,y,rfl,rfl,k⟩,rfl⟩
 refine WL.a2 (qu (pt s 4) (Fa Qn7 Z Z) (Wb (We (Es d [b,c,(Iv f),(Iv g),d,Zs] k.cells sz51 Z Z (Ow k) Z Z Z) Z ?_)))
 rintro _ _ _ - ⟨rfl,rfl⟩
 refine Ns (qM (pt u 0) (A 0) ?_)
 obtain ⟨⟨b7,a9,b0,b1,b2⟩,b3,h⟩:=bnd h
 refine WL.f1 ?_
 have a:=a.mono n
 refine We (Cb co91 (QfE (⟨a0.B,(⟨a4,a5,a6,a7⟩:QaB)⟩:QaF) (7:Int) (64:Int) _ _ _ a (b7,a9,b0,b1,b2) b3) (QcV Z Z Z)) Z ?_
 rintro _ c4 _ o ⟨_,⟨e,z,rfl,rfl,r⟩,rfl⟩
 refine WL.a2 (qu (pt s 5) (Fa QmT Z Z) (Wb (We (Es e [b,c,(Iv f),(Iv g),d,e] r.cells sz51 Z Z (Ow r) Z Z Z) Z ?_)))
 rintro _ _ _ - ⟨rfl,rfl⟩
 refine Ns (qu (.agg #[b,c,(Iv f),(Iv g),d,e]) (La (cs:=[b,c,(Iv f),(Iv g),d,e]) 0 ag53 sz53 Z Z Z) (WL.f6 ?_))
 have i:=i.mono ((((p.trans l).trans m).trans n).trans o)
 have j:=j.mono (((l.trans m).trans n).trans o)
 have k:=k.mono o
 refine We (Sg (v:=(.agg #[b,c,(Iv f),(Iv g),d,e])) (vl:=[b,c,(Iv f),(Iv g),d,e]) (arr':=[b,c,(Iv f),(Iv g),d,e]) Z sz53 Z Z (QaX (Oc (Ow i) (Oc (Ow j) (Oc Z (Oc Z (Oc (Ow k) (Oc (Ow r) Oz))))))) Z Z Z) Z ?_
 rintro _ _ _ - ⟨rfl,rfl⟩
 exact Nt (Cr (Qa (Dr (Qb (WQ.f3 (WQ.f4 (WQ.f5 (WQ.f5 (WQ.f5 (Rd h [[(u, .cells #[q,(Iv a9),(Iv b0),(Sv b1),(Iv b2)] 86 (0,0))],w,x,y,z] (fun _ hs=>hs.drop) (QbA Z (Rc (cs:=[b,c,(Iv f),(Iv g),d,e]) 0 ag53 sz53 Z Z Z)) (((((t.trans p).trans l).trans m).trans n).trans o) ⟨b,w,c,x,d,y,e,z,Z,Z,i,j,k,r⟩))))))))))
noncomputable def Qd9 (a0:QaF) (i:Int) (o:(Int×(List QaK)×Int×Int×ByteArray×Int)):Option ((Int×(List QaK)×Int×Int×ByteArray×Int)⊕(Int×Int×ByteArray×Int×(List QaK))):=
 match o with
 |(c,a,d,b,e,f)=>
 (((if(decide (c<i))=true then(some (decide (b=(0:Int))))else(some false)):Option Bool).bind fun j=>(if j=true then((QgP (⟨a0.B,(⟨d,b,e,f⟩:QaB)⟩:QaF)).bind fun(g,k,l,m,n)=>(grd (a.length+[g].length≤274877906944) (some (inl (i64.wrap (c+(1:Int)),a++[g],k,l,m,n)))))else(some (inr (d,b,e,f,a)))))
noncomputable def Qf3 (a0:QaF):Option (QaE×Int×Int×ByteArray×Int):=
 ((QaY a0 (1073741824:Int)).bind fun(a,b,c,d,e)=>((Qb8 (⟨a0.B,(⟨b,c,d,e⟩:QaB)⟩:QaF) (40:Int)).bind fun(f,g,i,j,k)=>((QaY (⟨a0.B,(⟨g,i,j,k⟩:QaB)⟩:QaF) (256:Int)).bind fun(l,m,n,o,p)=>((((iter (Qd9 a0 l) ((0:Int),[],m,n,o,p)).bind (fun(q,r,s,t,u)=>(some (q,r,s,t,u)))):Option (Int×Int×ByteArray×Int×(List QaK))).bind fun(v,w,x,y,z)=>(some ((⟨a,strOfNums f,z⟩:QaE),v,w,x,y))))))
def QnA (a0:QaF) (c:Value) (e:Nat):(QaE×Int×Int×ByteArray×Int)→Value→IM→HL→Prop:=
 fun(f:(QaE×Int×Int×ByteArray×Int)) (v:Value) (g:IM) (i:HL)=>match f with |(d,j,k,l,m)=>∃ a b,(.agg #[(.int .i64 d.Id),(.string d.Name),a])=v∧i=[[(e, .cells #[c,(.int .i64 j),(.int .i64 k),(.string l),(.int .i64 m)] 86 (0,0))],b]∧OwnS QbD g a d.Parts b
theorem QoZ (a0:QaF) (M:IM) (q:Value) (G:Nat) (e:RS (Kd.int .u8) M q a0.B) (d3:(QaE×Int×Int×ByteArray×Int)) (h:Qf3 a0=some d3):
 Tri prog 37 #[(pt G 0)] M [[(G, .cells (l86 a0 q).toArray 86 (0,0))]] (QnA a0 q G d3):=by
 unfold Qf3 at h
 refine Te func37 Z Z ?_
 intro F ρ g8
 refine Sr (We (Al ze50 Z) Z ?_)
 rintro _ _ _ - ⟨rfl,V,rfl,rfl⟩
 refine Ns (qu (.agg #[(Iv 0),(Sv ⟨#[]⟩),Zs]) (Bl (cl:=[(Iv 0),(Sv ⟨#[]⟩),Zs]) ze50 fp50 Pz Z) (We (Al ze50 Z) Z ?_))
 rintro _ _ _ - ⟨rfl,w,rfl,rfl⟩
 refine We (Sg (v:=(.agg #[(Iv 0),(Sv ⟨#[]⟩),Zs])) (vl:=[(Iv 0),(Sv ⟨#[]⟩),Zs]) (arr':=[(Iv 0),(Sv ⟨#[]⟩),Zs]) Z sz50 Z Z (onb Z) Z Z Z) Z ?_
 rintro _ _ _ - ⟨rfl,rfl⟩
 refine Ns (qM (pt G 0) (g8 0) ?_)
 obtain ⟨⟨j,d4,d5,d6,d7⟩,d8,h⟩:=bnd h
 refine Wb (We (Cb co35 (Qa3 a0 (1073741824:Int) _ _ _ e (j,d4,d5,d6,d7) d8) (QaS Z Z)) Z ?_)
 rintro _ h7 _ W ⟨_,⟨rfl,rfl⟩,rfl⟩
 refine WL.a1 (qu (pt w 0) (Fa QkJ Z Z) (WL.f1 (We (Es (Iv j) [(Iv j),(Sv ⟨#[]⟩),Zs] Z sz3 Z Z Z Z Z Z) Z ?_)))
 rintro _ _ _ - ⟨rfl,rfl⟩
 refine Ns (qM (pt G 0) (g8 0) ?_)
 obtain ⟨⟨i,d9,e1,e2,e3⟩,e4,h⟩:=bnd h
 refine WL.f1 ?_
 have e:=e.mono W
 refine We (Cb co38 (QeT (⟨a0.B,(⟨d4,d5,d6,d7⟩:QaB)⟩:QaF) (40:Int) _ _ _ e (i,d9,e1,e2,e3) e4) (QaS Z Z)) Z ?_
 rintro _ h8 _ X ⟨_,⟨h6,rfl,rfl,e5⟩,rfl⟩
 refine WL.a1 (qu (Sv (strOfNums i)) (b2s (ys:=i) underlying22 underlying5 underlying9 Z (e5.src _)) (qu (pt w 1) (Fa Ql3 Z Z) (WL.f1 (We (Es (Sv (strOfNums i)) [(Iv j),(Sv (strOfNums i)),Zs] Z sz9 Z Z Z Z Z Z) Z ?_))))
 rintro _ _ _ - ⟨rfl,rfl⟩
 refine Ns (qM (pt G 0) (g8 0) ?_)
 obtain ⟨⟨L,g9,h0,h1,h2⟩,e6,h⟩:=bnd h
 refine WL.f1 ?_
 have e:=e.mono X
 refine We (Cb co35 (Qa3 (⟨a0.B,(⟨d9,e1,e2,e3⟩:QaB)⟩:QaF) (256:Int) _ _ _ e (L,g9,h0,h1,h2) e6) (QaS Z Z)) Z ?_
 rintro _ e7 _ Y ⟨_,⟨rfl,rfl⟩,rfl⟩
 refine WL.a1 (qa (Iv L) (Nt ?_))
 obtain ⟨e8,e9,h⟩:=bnd h
 refine Jf (fun(p_:(Int×Int×ByteArray×Int×(List QaK))) N M' H'=>match p_ with |(c4,c5,c6,c7,f2)=>∃ f I,e7.le M'∧[(G, .cells #[q,(Iv c4),(Iv c5),(Sv c6),(Iv c7)] 86 (0,0))]::[(w, .cells #[(Iv j),(Sv (strOfNums i)),f] 50 (0,0))]::[(V, .cells #[(Iv 0),(Sv ⟨#[]⟩),Zs] 50 (0,0))]::I::F=H'∧N 2=(pt V 0)∧N 3=(pt w 0)∧OwnS QbD M' f f2 I) e8 ?_ ?_
 have h:=e9
 refine Sr (qa (Iv 0) (Nt (Bk (WC.e0 (WC.f3 (WC.f3 (WC.f3 ?_)))))))
 obtain ⟨h9,f6,f7⟩:=bnd h
 clear h
 refine WC.loop f6 (fun(p_:(Int×(List QaK)×Int×Int×ByteArray×Int)) N M' H'=>match p_ with |(y,a2,a3,J,a4,a6)=>∃ z K,e7.le M'∧[(G, .cells #[q,(Iv a3),(Iv J),(Sv a4),(Iv a6)] 86 (0,0))]::[(w, .cells #[(Iv j),(Sv (strOfNums i)),z] 50 (0,0))]::[(V, .cells #[(Iv 0),(Sv ⟨#[]⟩),Zs] 50 (0,0))]::K::F=H'∧N 0=(pt G 0)∧N 2=(pt V 0)∧N 3=(pt w 0)∧N 4=(Iv L)∧N 5=(Iv y)∧OwnS QbD M' z a2 K) ?_ ?_
 exact⟨Zs,[],lr,Z,(g8 0),Z,Z,Z,Z,(OwnS.nil _ _)⟩
 rintro ⟨y,a2,a3,J,a4,a6⟩ i0 i1 h4 i2 h ⟨z,K,O,rfl,C,P,Q,D,E,A⟩
 unfold Qd9 at h
 refine Cs ?_
 obtain ⟨c8,f8,h⟩:=bnd h
 refine Jf (fun(c8:Bool) N M' H'=>h4.le M'∧[(G, .cells #[q,(Iv a3),(Iv J),(Sv a4),(Iv a6)] 86 (0,0))]::[(w, .cells #[(Iv j),(Sv (strOfNums i)),z] 50 (0,0))]::[(V, .cells #[(Iv 0),(Sv ⟨#[]⟩),Zs] 50 (0,0))]::K::F=H'∧N 0=(pt G 0)∧N 2=(pt V 0)∧N 3=(pt w 0)∧N 4=(Iv L)∧N 5=(Iv y)∧N 27=(Bv c8)) c8 ?_ ?_
 have h:=f8
 refine Cg (qM (Iv y) E (qM (Iv L) D (qu (Bv (decide (y<L))) (lss Z Z) (qm (Bv (decide (y<L))) ?_))))
 rcases Bi h with⟨g,h⟩ |⟨g,h⟩
 refine On 20 Z Z g (qM (pt G 0) C (qo 20 g (pt G 0) (Nk Z) (qo 20 g (pt G 1) (Fa Qb1 Z Z) (qo 20 g (pt G 2) (Fa QlB Z Z) (qo 20 g (Iv J) (Lb 0 pl34 Z Z Z) (qo 20 g (Bv (decide (J=0))) (eql Z Z) (qu (Bv (decide (J=0))) (Pt Z g Z) (Wz ?_))))))))
 obtain rfl:=oi h
 exact Tj ⟨lr,Z,C,P,Q,D,E,Z⟩
 iterate 6 refine Of 20 Z Z g Z ?_
 refine qu (Bv false) (Pf Z g Z) (Wz ?_)
 obtain rfl:=oi h
 exact Tj ⟨lr,Z,C,P,Q,D,E,Z⟩
 rintro i3 i4 i5 ⟨r,rfl,R,S,m,b4,b5,a7⟩
 refine Ch h a7 (fun f9 h=> ?_) (fun f9 h=> ?_)
 refine Ck (Tc (Cs (Bk (Sr (qM (pt G 0) R ?_)))))
 obtain ⟨⟨k,g1,g2,g3,g4⟩,g5,h⟩:=bnd h
 have e:=e.mono ((Y.trans O).trans r)
 refine We (Cb co61 (QpY (⟨a0.B,(⟨a3,J,a4,a6⟩:QaB)⟩:QaF) _ _ _ e (k,g1,g2,g3,g4) g5) (Qb2 Z)) Z ?_
 rintro _ h5 _ a8 ⟨_,⟨a,b6,b,b7,c,b8,d,b9,rfl,rfl,T,n,o,p⟩,rfl⟩
 refine WL.a5 (We (Al ze53 Z) Z ?_)
 rintro _ _ _ - ⟨rfl,i6,rfl,rfl⟩
 refine We (Sg (v:=(a53_ k a b c d)) (vl:=(l53 k a b c d)) (arr':=(l53 k a b c d)) Z sz53 Z Z (QaX (Oc (Ow T) (Oc (Ow n) (Oc Z (Oc Z (Oc (Ow o) (Oc (Ow p) Oz))))))) Z Z Z) Z ?_
 rintro _ _ _ - ⟨rfl,rfl⟩
 refine Nt (Cg (qu (pt w 2) (Fa Qd0 m Z) (qu z (Lb 6 pl48 Z Z Z) (qu (a53_ k a b c d) (La (cs:=(l53 k a b c d)) 0 ag53 sz53 Z Z Z) (Wb (WL.know (fun _ hs=>T.rs hs) (fun a9=> ?_)))))))
 refine WL.freeze (fun s=> ?_)
 refine Wb ?_
 have n:=n.mono s
 refine WL.know (fun _ hs=>n.rs hs) (fun b0=> ?_)
 refine WL.freeze (fun t=> ?_)
 refine Wb ?_
 have o:=o.mono (s.trans t)
 refine WL.know (fun _ hs=>o.rs hs) (fun b1=> ?_)
 refine WL.freeze (fun u=> ?_)
 refine Wb ?_
 have p:=p.mono ((s.trans t).trans u)
 refine WL.know (fun _ hs=>p.rs hs) (fun c9=> ?_)
 refine WL.freeze (fun l=> ?_)
 refine We (buildSliceL (cl:=(l53 k a b c d)) underlying48 iz53 Z (Pc (a53_ k a b c d) Z Z Pz) Z) Z ?_
 rintro _ _ _ - ⟨rfl,c1,rfl,rfl⟩
 have a9:=a9.mono ((t.trans u).trans l)
 have b0:=b0.mono (u.trans l)
 have b1:=b1.mono l
 have g6:OwnS QbD ((((h5.add b6).add b7).add b8).add b9) (.slice (some ⟨c1,0,none⟩) 1 1) [k] [(c1, .cells (l53 k a b c d).toArray 53 (0,0))]:=OwnS.rows (css:=[(l53 k a b c d)]) (Rows.cons (QlN (x:=k) a9 b0 b1 c9) Rows.nil) Z Z
 obtain ⟨d0,h⟩:=Qa1 h
 refine WL.f5 ?_
 have A:=A.mono (((((r.trans a8).trans s).trans t).trans u).trans l)
 refine We (append (dd:=QbD) (xs:=a2) (ys:=[k]) underlying48 underlying48 in53 Z (appB (by decide) d0) (by decide) Z Z A (g6.src 1 Z)) Z ?_
 rintro b2 _ _ - ⟨rfl,g7,rfl,b3⟩
 refine qu (pt w 2) (Fa Qd0 m Z) (WL.f4 (We (Es b2 [(Iv j),(Sv (strOfNums i)),b2] b3.cells sz48 Z Z (Ow b3) Z Z Z) Z ?_))
 rintro _ _ _ - ⟨rfl,rfl⟩
 refine Wz (Bn (Tc (Cg (qM (Iv y) b5 (qu (Iv (i64.wrap (y+1))) (add Z Z) (qa (Iv (i64.wrap (y+1))) (Wz (Qb (Dr (Qb (Dr ?_)))))))))))
 exact Qa (WQ.f3 (Qb (WQ.f3 (WQ.again (i64.wrap (y+1),a2++[k],g1,g2,g3,g4) (oi h).symm ⟨b2,g7,((((((O.trans r).trans a8).trans s).trans t).trans u).trans l),Z,R,S,m,b4,Z,b3⟩))))
 refine WC.exit (WQ.thenE (WQ.leaveE (a3,J,a4,a6,a2) (oi h).symm (fun d1=> ?_)))
 subst d1
 have h:=f7
 refine WQ.blockH ?_
 obtain rfl:=oi h
 refine Tj ?_
 have A:=A.mono r
 exact⟨z,K,(O.trans r),Z,S,m,A⟩
 obtain ⟨c4,c5,c6,c7,f2⟩:=e8
 rintro i7 i8 i9 ⟨f,I,d2,rfl,U,c0,c2⟩
 refine Sr (qu (.agg #[(Iv j),(Sv (strOfNums i)),f]) (La (cs:=[(Iv j),(Sv (strOfNums i)),f]) 1 ag50 sz50 c0 Z Z) (Wb (We (Sg (v:=(.agg #[(Iv j),(Sv (strOfNums i)),f])) (vl:=[(Iv j),(Sv (strOfNums i)),f]) (arr':=[(Iv j),(Sv (strOfNums i)),f]) Z sz50 U Z (QaX (Oc Z (Oc Z (Oc (Ow c2) Oz)))) Z Z Z) Z ?_)))
 rintro _ _ _ - ⟨rfl,rfl⟩
 exact Nt (Cr (Qb (Dr (Rd h [[(G, .cells #[q,(Iv c4),(Iv c5),(Sv c6),(Iv c7)] 86 (0,0))],I] (fun _ hs=>hs.drop) (QbA Z (Rc (cs:=[(Iv j),(Sv (strOfNums i)),f]) 0 ag50 sz50 U Z Z)) (((W.trans X).trans Y).trans d2) ⟨f,I,Z,Z,c2⟩))))
noncomputable def QjL (a0:(List Int)) (a1:QaB):Option QaB:=
 (if(decide (a1.At<(a0.length:Int)))=true then((QdV a1 (⟨#[101,110,100]⟩:ByteArray) a1.At (5:Int)).bind fun a=>(some a))else(some a1))
def Qt0 (a0:(List Int)) (a1:QaB) (c:Value):QaB→Value→IM→HL→Prop:=
 fun(a:QaB) (v:Value) (d:IM) (b:HL)=>(.agg #[(.int .i64 a.At),(.int .i64 a.Code),(.string a.Op),(.int .i64 a.Where)])=v∧b=[]
theorem QvV (a0:(List Int)) (a1:QaB) (M:IM) (g:Value) (j:RS (Kd.int .u8) M g a0) (c:QaB) (h:QjL a0 a1=some c):
 Tri prog 62 #[g,(a84_ a1)] M [] (Qt0 a0 a1 g c):=by
 unfold QjL at h
 refine Te func62 Z Z ?_
 intro F m i
 refine Sr (We (box (cs:=(l84 a1).toArray) (congrArg Value.cells (asE (a84_ a1) (i 1)))) Z ?_)
 rintro _ _ _ - ⟨rfl,d,rfl,rfl⟩
 refine We (Al ze84 Z) Z ?_
 rintro _ _ _ - ⟨rfl,k,rfl,rfl⟩
 refine Nt (Cs (Sr (qu (pt d 0) (Fa QfO Z Z) (qu (Iv a1.At) (Lb 1 pl3 Z Z Z) (qM g (i 0) (qu (Iv (a0.length:Int)) (lenS underlying22 Z j.len) (qu (Bv (decide (a1.At<(a0.length:Int)))) (lss Z Z) (Nt (Ch h Z (fun e h=> ?_) (fun e h=> ?_))))))))))
 refine Sr (qu (a84_ a1) (La (cs:=(l84 a1)) 1 ag84 sz84 Z Z Z) (qu (pt d 0) (Fa QfO Z Z) (qu (Iv a1.At) (Lb 1 pl3 Z Z Z) ?_)))
 obtain ⟨a,f,h⟩:=bnd h
 refine We (Ca co88 (QeG a1 (⟨#[101,110,100]⟩:ByteArray) a1.At (5:Int) _ a f) (QiO Z Z Z Z)) Z ?_
 rintro _ l _ b ⟨_,⟨rfl,rfl⟩,rfl⟩
 refine WL.a0 (We (Sg (v:=(a84_ a)) (vl:=(l84 a)) (arr':=(l84 a)) Z sz84 Z Z (onb Z) Z Z Z) Z ?_)
 rintro _ _ _ - ⟨rfl,rfl⟩
 exact Nt (Cr (Tr (Qa (Dr (Rd h [] (fun _ hs=>hs.drop) (QbA Z (Rc (cs:=(l84 a)) 0 ag84 sz84 Z Z Z)) b ⟨Z,Z⟩)))))
 refine Ck (Tc (Sr (qu (a84_ a1) (La (cs:=(l84 a1)) 1 ag84 sz84 Z Z Z) (We (Sg (v:=(a84_ a1)) (vl:=(l84 a1)) (arr':=(l84 a1)) Z sz84 Z Z (onb Z) Z Z Z) Z ?_))))
 rintro _ _ _ - ⟨rfl,rfl⟩
 exact Nt (Cr (Qa (Dr (Rd h [] (fun _ hs=>hs.drop) (QbA Z (Rc (cs:=(l84 a1)) 0 ag84 sz84 Z Z Z)) lr ⟨Z,Z⟩))))
noncomputable def QfF (a0:QaF):Option (Int×Int×ByteArray×Int):=
 ((QjL a0.B a0.S).bind fun a=>(some (a.At,a.Code,a.Op,a.Where)))
def QmJ (a0:QaF) (a:Value) (b:Nat):(Int×Int×ByteArray×Int)→Value→IM→HL→Prop:=
 fun(c:(Int×Int×ByteArray×Int)) (v:Value) (j:IM) (d:HL)=>match c with |(e,f,g,i)=>(.tuple #[])=v∧d=[[(b, .cells #[a,(.int .i64 e),(.int .i64 f),(.string g),(.int .i64 i)] 86 (0,0))]]
theorem Qn0 (a0:QaF) (M:IM) (b:Value) (c:Nat) (e:RS (Kd.int .u8) M b a0.B) (f:(Int×Int×ByteArray×Int)) (h:QfF a0=some f):
 Tri prog 39 #[(pt c 0)] M [[(c, .cells (l86 a0 b).toArray 86 (0,0))]] (QmJ a0 b c f):=by
 unfold QfF at h
 refine Te func39 Z Z ?_
 intro F k i
 refine WC.draw [0,0,2,6,14,0,32,96,224,510,1023,2047,4095] (.pure 0 (.pure 1 (.pure 2 (.pure 3 (.pure 4 (.pure 5 (.pure 6 (.pure 7 (.pure 8 (.alt 9 (.pure 10 (.pure 11 (.alt 12 .done .none))) .none)))))))))) Qc3 (by kernel_rfl) (qt (pt c 0) Z (Mv (i 0)) (qt (pt c 0) Z (Mv (i 0)) (qt (pt c 0) Z (Nk Z) (qt (pt c 0) Z (Fa Qc2 Z Z) (qt b Z (Lb 0 pl22 Z Z Z) (qt (pt c 0) Z (Mv (i 0)) (qt (pt c 0) Z (Nk Z) (qt (pt c 1) Z (Fa Qb1 Z Z) (qt (a84_ a0.S) Z (La (cs:=(l84 a0.S)) 0 ag84 sz84 Z Z Z) ?_)))))))))
 obtain ⟨a,g,h⟩:=bnd h
 refine Ta Z (Ca co62 (QvV a0.B a0.S _ _ e a g) (QaS Z Z)) Z ?_ ?_
 rintro _ j _ d ⟨_,⟨rfl,rfl⟩,rfl⟩
 refine⟨(Sk 8 Z (Ss Z (Mv (i 0)) Z trivial)), ?_⟩
 refine WT.a0 (qt (pt c 0) Z (Nk Z) (qt (pt c 1) Z (Fa Qb1 Z Z) (Ta Z (Sg (v:=(a84_ a)) (vl:=(l84 a)) (arr':=[b,(Iv a.At),(Iv a.Code),(Sv a.Op),(Iv a.Where)]) Z sz84 Z Z (onb Z) Z Z Z) Z ?_ ?_)))
 rintro _ _ _ - ⟨rfl,rfl⟩
 refine⟨(Sl Z), ?_⟩
 exact Ti (WQ.endsF h [[(c, .cells #[b,(Iv a.At),(Iv a.Code),(Sv a.Op),(Iv a.Where)] 86 (0,0))]] Z (Qt6 Z) d ⟨Z,Z⟩)
 exact Tz
 exact Tz
noncomputable def QgW (a0:Int) (a1:Int) (a2:Int):Option Bool:=
 (((if(decide (a1≤a0))=true then(some (decide (a0≤a2)))else(some false)):Option Bool).bind fun a=>(some a))
def Qu6 (a0:Int) (a1:Int) (a2:Int):Bool→Value→IM→HL→Prop:=
 fun(a:Bool) (v:Value) (c:IM) (b:HL)=>(.bool a)=v∧b=[]
theorem QhZ (a0:Int) (a1:Int) (a2:Int) (M:IM) (e:Bool) (h:QgW a0 a1 a2=some e):
 Tri prog 92 #[(Iv a0),(Iv a1),(Iv a2)] M [] (Qu6 a0 a1 a2 e):=by
 unfold QgW at h
 refine Te func92 Z Z ?_
 intro F o g
 refine Sr (qa (Bv false) (Nt ?_))
 obtain ⟨c,f,h⟩:=bnd h
 refine Jf (fun(c:Bool) i j k=>M.le j∧F=k∧i 6=(Bv c)) c ?_ ?_
 have h:=f
 refine Cg (qM (Iv a0) (g 0) (qM (Iv a1) (g 1) (qu (Bv (decide (a1≤a0))) (geq Z Z) (qm (Bv (decide (a1≤a0))) ?_))))
 rcases Bi h with⟨a,h⟩ |⟨a,h⟩
 refine On 10 Z Z a (qM (Iv a0) (g 0) (On 10 Z Z a (qM (Iv a2) (g 2) (qo 10 a (Bv (decide (a0≤a2))) (leq Z Z) (qu (Bv (decide (a0≤a2))) (Pt Z a Z) (qa (Bv (decide (a0≤a2))) (Wz ?_)))))))
 obtain rfl:=oi h
 exact Tj ⟨lr,Z,Z⟩
 iterate 3 refine Of 10 Z Z a Z ?_
 refine qu (Bv false) (Pf Z a Z) (qa (Bv false) (Wz ?_))
 obtain rfl:=oi h
 exact Tj ⟨lr,Z,Z⟩
 rintro l m n ⟨d,rfl,b⟩
 exact Cr (Rf h [] Z (Rs Z b) d ⟨Z,Z⟩)
noncomputable def QfG (a0:QaA) (i:Int):Option (Int⊕(Unit⊕(ByteArray×Int×Int))):=
 match i with
 |a=>
 (if(decide (a<(a0.Brokers.length:Int)))=true then(grd (0≤a∧a<a0.Brokers.length) (((if(decide ((0:Int)<a))=true then(grd (0≤i64.wrap (a - (1:Int))∧i64.wrap (a - (1:Int))<a0.Brokers.length) (some ((rd a0.Brokers (i64.wrap (a - (1:Int)))).Id)))else(some (0:Int))):Option Int).bind fun b=>(((if(decide (((rd a0.Brokers a).Id)≤b))=true then(some true)else(if(decide ((64:Int)<((rd a0.Brokers a).Id)))=true then(some true)else((QgW ((rd a0.Brokers a).Epoch) (0:Int) (1073741824:Int)).bind fun c=>(if(!c)=true then(some true)else((Qe5 ((rd a0.Brokers a).Rack)).bind fun d=>(some (!d))))))):Option Bool).bind fun e=>(if e=true then(some (inr (inr ((⟨#[98,114,111,107,101,114]⟩:ByteArray),a,(2:Int)))))else(((if((rd a0.Brokers a).Fenced)=true then(if((rd a0.Brokers a).Leaving)=true then((QgA a0 ((rd a0.Brokers a).Id)).bind fun f=>(some f))else(some false))else(some false)):Option Bool).bind fun g=>(if g=true then(some (inr (inr ((⟨#[98,114,111,107,101,114]⟩:ByteArray),a,(10:Int)))))else(some (inl (i64.wrap (a+(1:Int)))))))))))else(some (inr (inl ()))))
noncomputable def QhL (a0:QaA):Option QaM:=
 ((((iter (QfG a0) (0:Int)).bind (Sum.elim (fun _=>(some (inl ()))) (fun(a,b,c)=>(((some (⟨a,b,c⟩:QaM))).bind fun r=>some (inr r))))):Option (Unit⊕QaM)).bind (Sum.elim (fun _=>(some Q1R)) some))
def Qo0 (a0:QaA) (b c d e:Value):QaM→Value→IM→HL→Prop:=
 fun(a:QaM) (v:Value) (g:IM) (f:HL)=>(.agg #[(.string a.Op),(.int .i64 a.At),(.int .i64 a.Code)])=v∧f=[]
theorem Qq8 (a0:QaA) (M:IM) (b d e f:Value) (k:RS QaG M b a0.Brokers) (P:RS QaI M d a0.Topics) (Q:RS QaH M e a0.Configs) (R:RS QaL M f a0.Done) (b7:QaM) (h:QhL a0=some b7):
 Tri prog 63 #[(a29_ a0 b d e f)] M [] (Qo0 a0 b d e f b7):=by
 unfold QhL at h
 refine Te func63 Z Z ?_
 intro F ρ d9
 refine Sr (We (box (cs:=(l29 a0 b d e f).toArray) (congrArg Value.cells (asE (a29_ a0 b d e f) (d9 0)))) Z ?_)
 rintro _ _ _ - ⟨rfl,p,rfl,rfl⟩
 refine We (Al ze36 Z) Z ?_
 rintro _ _ _ - ⟨rfl,A,rfl,rfl⟩
 refine Nt ?_
 obtain ⟨d2,b8,h⟩:=bnd h
 refine WC.joinE (fun(_:Unit) z M' H'=>M.le M'∧[(A, .cells #[(Sv ⟨#[]⟩),(Iv 0),(Iv 0)] 36 (0,0))]::[(p, .cells (l29 a0 b d e f).toArray 29 (0,0))]::F=H'∧z 2=(pt A 0)) d2 ?_ ?_
 have a6:=h
 have h:=b8
 refine Sr (qa (Iv 0) (Nt (Bk ?_)))
 obtain ⟨e0,b9,S⟩:=bnd h
 clear h
 refine WC.loop b9 (fun(a:Int) z M' H'=>M.le M'∧[(A, .cells #[(Sv ⟨#[]⟩),(Iv 0),(Iv 0)] 36 (0,0))]::[(p, .cells (l29 a0 b d e f).toArray 29 (0,0))]::F=H'∧z 1=(pt p 0)∧z 2=(pt A 0)∧z 3=(Iv a)) ?_ ?_
 exact⟨lr,Z,Z,Z,Z⟩
 rintro a e1 e2 d3 e3 h ⟨G,rfl,i,C,g⟩
 unfold QfG at h
 refine Cs (Sr (qM (Iv a) g (qu (pt p 0) (Fa QeU i Z) (qu b (Lb 1 pl24 Z Z Z) ?_))))
 have k:=k.mono G
 refine qu (Iv (a0.Brokers.length:Int)) (lenS underlying24 Z k.len) (qu (Bv (decide (a<(a0.Brokers.length:Int)))) (lss Z Z) (Nt (Ch h Z (fun c0 h=> ?_) (fun c0 h=> ?_))))
 refine Ck (Tc (Cs (Bk (Sr (qu (pt p 0) (Fa QeU i Z) (qu b (Lb 1 pl24 Z Z Z) (qM (Iv a) g ?_)))))))
 obtain ⟨I,h⟩:=Qa1 h
 obtain ⟨d4,d7,a7,a8,hhas35⟩:=k.at I.1 I.2 (by decide)
 obtain rfl:=QbB a8
 refine qu (.pointer (some d4)) (indexAddr (n:=a0.Brokers.length) underlying24 sz66 Z Z I.1 I.2 a7) (qu (a66_ (rd a0.Brokers a)) (loadMA (cs:=(l66 (rd a0.Brokers a))) ag66 sz66 Z hhas35) (We (Al ze66 Z) Z ?_))
 rintro _ _ _ - ⟨rfl,q,rfl,rfl⟩
 refine We (Sg (v:=(a66_ (rd a0.Brokers a))) (vl:=(l66 (rd a0.Brokers a))) (arr':=(l66 (rd a0.Brokers a))) Z sz66 Z Z (onb Z) Z Z Z) Z ?_
 rintro _ _ _ - ⟨rfl,rfl⟩
 refine Ns (qa (Iv 0) (Nt ?_))
 obtain ⟨N,c1,h⟩:=bnd h
 refine Jf (fun(N:Int) z M' H'=>d3.le M'∧[(q, .cells (l66 (rd a0.Brokers a)).toArray 66 (0,0))]::[(A, .cells #[(Sv ⟨#[]⟩),(Iv 0),(Iv 0)] 36 (0,0))]::[(p, .cells (l29 a0 b d e f).toArray 29 (0,0))]::F=H'∧z 1=(pt p 0)∧z 2=(pt A 0)∧z 3=(Iv a)∧z 4=(pt q 0)∧z 5=(Iv N)) N ?_ ?_
 have h:=c1
 refine Sr (qM (Iv a) g (qu (Bv (decide ((0:Int)<a))) (gtr Z Z) (Nt (Ch h Z (fun c2 h=> ?_) (fun c2 h=> ?_)))))
 refine Cg (qu (pt p 0) (Fa QeU i Z) (qu b (Lb 2 pl24 Z Z Z) (qM (Iv a) g (qu (Iv (i64.wrap (a - 1))) (PO.sub Z Z) ?_))))
 obtain ⟨J,h⟩:=Qa1 h
 obtain ⟨c3,d8,a9,b0,hhas46⟩:=k.at J.1 J.2 (by decide)
 obtain rfl:=QbB b0
 refine qu (.pointer (some c3)) (indexAddr (n:=a0.Brokers.length) underlying24 sz66 Z Z J.1 J.2 a9) (qu (.pointer (some (c3.add 0))) (Fa QhO Z Z) (qu (Iv ((rd a0.Brokers (i64.wrap (a - 1))).Id)) (loadM pl3 Z (IM.has0 hhas46)) (qa (Iv ((rd a0.Brokers (i64.wrap (a - 1))).Id)) (Wz ?_))))
 obtain rfl:=oi h
 exact Tj ⟨lr,Z,i,C,g,Z,Z⟩
 refine Ck ?_
 obtain rfl:=oi h
 exact Tj ⟨lr,Z,i,C,g,Z,Z⟩
 rintro e4 d5 e5 ⟨T,rfl,r,s,t,c,a3⟩
 refine Cs ?_
 obtain ⟨b1,c4,h⟩:=bnd h
 refine Jf (fun(b1:Bool) z M' H'=>d5.le M'∧[(q, .cells (l66 (rd a0.Brokers a)).toArray 66 (0,0))]::[(A, .cells #[(Sv ⟨#[]⟩),(Iv 0),(Iv 0)] 36 (0,0))]::[(p, .cells (l29 a0 b d e f).toArray 29 (0,0))]::F=H'∧z 1=(pt p 0)∧z 2=(pt A 0)∧z 3=(Iv a)∧z 4=(pt q 0)∧z 47=(Bv b1)) b1 ?_ ?_
 have h:=c4
 refine Cg (qu (pt q 0) (Fa QhO c Z) (qu (Iv ((rd a0.Brokers a).Id)) (Lb 0 pl3 Z Z Z) (qM (Iv N) a3 (qu (Bv (decide (((rd a0.Brokers a).Id)≤N))) (leq Z Z) (qm (Bv (decide (((rd a0.Brokers a).Id)≤N))) ?_)))))
 rcases Bi h with⟨x,h⟩ |⟨x,h⟩
 iterate 3 refine Of 31 Z Z x Z ?_
 refine qu (Bv true) (Pt Z x Z) (qm (Bv true) ?_)
 iterate 4 refine Of 36 Z Z Z Z ?_
 refine qu (Bv true) (Pt Z Z Z) (qm (Bv true) ?_)
 iterate 4 refine Of 42 Z Z Z Z ?_
 refine qu (Bv true) (Pt Z Z Z) (Wz ?_)
 obtain rfl:=oi h
 exact Tj ⟨lr,Z,r,s,t,c,Z⟩
 refine qo 31 x (pt q 0) (Fa QhO c Z) (qo 31 x (Iv ((rd a0.Brokers a).Id)) (Lb 0 pl3 Z Z Z) (qo 31 x (Bv (decide ((64:Int)<((rd a0.Brokers a).Id)))) (gtr Z Z) (qu (Bv (decide ((64:Int)<((rd a0.Brokers a).Id)))) (Pf Z x Z) (qm (Bv (decide ((64:Int)<((rd a0.Brokers a).Id)))) ?_))))
 rcases Bi h with⟨l,h⟩ |⟨l,h⟩
 iterate 4 refine Of 36 Z Z l Z ?_
 refine qu (Bv true) (Pt Z l Z) (qm (Bv true) ?_)
 iterate 4 refine Of 42 Z Z Z Z ?_
 refine qu (Bv true) (Pt Z Z Z) (Wz ?_)
 obtain rfl:=oi h
 exact Tj ⟨lr,Z,r,s,t,c,Z⟩
 refine qo 36 l (pt q 1) (Fa QmU c Z) (qo 36 l (Iv ((rd a0.Brokers a).Epoch)) (Lb 0 pl3 Z Z Z) (On 36 Z Z l ?_))
 obtain ⟨a4,c5,h⟩:=bnd h
 refine We (Ca co92 (QhZ ((rd a0.Brokers a).Epoch) (0:Int) (1073741824:Int) _ a4 c5) (QcV Z Z Z)) Z ?_
 rintro _ e6 _ U ⟨_,⟨rfl,rfl⟩,rfl⟩
 refine WL.a0 (qo 36 l (Bv (!a4)) (PO.not Z) (qu (Bv (!a4)) (Pf Z l Z) (qm (Bv (!a4)) ?_)))
 rcases Bi h with⟨m,h⟩ |⟨m,h⟩
 iterate 4 refine Of 42 Z Z m Z ?_
 refine qu (Bv true) (Pt Z m Z) (Wz ?_)
 obtain rfl:=oi h
 exact Tj ⟨U,Z,r,s,t,c,Z⟩
 refine qo 42 m (pt q 2) (Fa QrE c Z) (qo 42 m (Sv ((rd a0.Brokers a).Rack)) (Lb 0 pl9 Z Z Z) (On 42 Z Z m ?_))
 obtain ⟨b2,c6,h⟩:=bnd h
 refine We (Ca co93 (Qg4 ((rd a0.Brokers a).Rack) _ b2 c6) (Qb2 Z)) Z ?_
 rintro _ e7 _ b3 ⟨_,⟨rfl,rfl⟩,rfl⟩
 refine WL.a0 (qo 42 m (Bv (!b2)) (PO.not Z) (qu (Bv (!b2)) (Pf Z m Z) (Wz ?_)))
 obtain rfl:=oi h
 exact Tj ⟨(U.trans b3),Z,r,s,t,c,Z⟩
 rintro e8 d6 e9 ⟨V,rfl,u,j,w,D,W⟩
 have O:=(G.trans T).trans V
 refine Ch h W (fun c7 h=> ?_) (fun c7 h=> ?_)
 refine Sr (qM (Iv a) w (qu (.agg #[(Sv ⟨#[98,114,111,107,101,114]⟩),(Iv a),(Iv 2)]) (Bl (cl:=[(Sv ⟨#[98,114,111,107,101,114]⟩),(Iv a),(Iv 2)]) ze36 fp36 (Pc (Sv ⟨#[98,114,111,107,101,114]⟩) Z Z (Pc (Iv a) Z Z (Pc (Iv 2) Z Z Pz))) Z) (WL.f1 (We (Sg (v:=(.agg #[(Sv ⟨#[98,114,111,107,101,114]⟩),(Iv a),(Iv 2)])) (vl:=[(Sv ⟨#[98,114,111,107,101,114]⟩),(Iv a),(Iv 2)]) (arr':=[(Sv ⟨#[98,114,111,107,101,114]⟩),(Iv a),(Iv 2)]) Z sz36 j Z (onb Z) Z Z Z) Z ?_))))
 rintro _ _ _ - ⟨rfl,rfl⟩
 refine Nt (Cr (Tr (Br (Tr (WQ.leaveR (inr ((⟨#[98,114,111,107,101,114]⟩:ByteArray),a,(2:Int))) (oi h).symm (fun y=> ?_))))))
 subst y
 have h:=(QdZ S)
 refine Br (Tr ?_)
 have h:=KK.early h a6
 exact Qa (Dr (Qa (Dr (Rd h [] (fun _ hs=>hs.drop) (QbA Z (Rc (cs:=[(Sv ⟨#[98,114,111,107,101,114]⟩),(Iv a),(Iv 2)]) 0 ag36 sz36 j Z Z)) O ⟨Z,Z⟩))))
 refine Ck (Tc ?_)
 obtain ⟨b4,c8,h⟩:=bnd h
 refine Jf (fun(b4:Bool) z M' H'=>d6.le M'∧[(q, .cells (l66 (rd a0.Brokers a)).toArray 66 (0,0))]::[(A, .cells #[(Sv ⟨#[]⟩),(Iv 0),(Iv 0)] 36 (0,0))]::[(p, .cells (l29 a0 b d e f).toArray 29 (0,0))]::F=H'∧z 1=(pt p 0)∧z 2=(pt A 0)∧z 3=(Iv a)∧z 61=(Bv b4)) b4 ?_ ?_
 have h:=c8
 refine Cg (qu (pt q 3) (Fa Qn8 D Z) (qu (Bv ((rd a0.Brokers a).Fenced)) (Lb 0 pl4 Z Z Z) (qm (Bv ((rd a0.Brokers a).Fenced)) ?_)))
 rcases Bi h with⟨B,h⟩ |⟨B,h⟩
 refine qo 52 B (pt q 4) (Fa Qs1 D Z) (qo 52 B (Bv ((rd a0.Brokers a).Leaving)) (Lb 0 pl4 Z Z Z) (qu (Bv ((rd a0.Brokers a).Leaving)) (Pt Z B Z) (qm (Bv ((rd a0.Brokers a).Leaving)) ?_)))
 rcases Bi h with⟨o,h⟩ |⟨o,h⟩
 refine qo 56 o (a29_ a0 b d e f) (La (cs:=(l29 a0 b d e f)) 2 ag29 sz29 u Z Z) (qo 56 o (pt q 0) (Fa QhO D Z) (qo 56 o (Iv ((rd a0.Brokers a).Id)) (Lb 0 pl3 Z Z Z) (On 56 Z Z o ?_)))
 obtain ⟨c9,d0,h⟩:=bnd h
 have k:=k.mono (T.trans V)
 have P:=P.mono O
 have Q:=Q.mono O
 have R:=R.mono O
 refine We (Ca co94 (Qj9 a0 ((rd a0.Brokers a).Id) _ _ _ _ _ k P Q R c9 d0) (QaS Z Z)) Z ?_
 rintro _ f0 _ b5 ⟨_,⟨rfl,rfl⟩,rfl⟩
 refine WL.a0 (qu (Bv c9) (Pt Z o Z) (Wz ?_))
 obtain rfl:=oi h
 exact Tj ⟨b5,Z,u,j,w,Z⟩
 iterate 4 refine Of 56 Z Z o Z ?_
 refine qu (Bv false) (Pf Z o Z) (Wz ?_)
 obtain rfl:=oi h
 exact Tj ⟨lr,Z,u,j,w,Z⟩
 iterate 2 refine Of 52 Z Z B Z ?_
 refine qu (Bv false) (Pf Z B Z) (qm (Bv false) ?_)
 iterate 4 refine Of 56 Z Z Z Z ?_
 refine qu (Bv false) (Pf Z Z Z) (Wz ?_)
 obtain rfl:=oi h
 exact Tj ⟨lr,Z,u,j,w,Z⟩
 rintro f2 f3 f4 ⟨X,rfl,a5,E,K,Y⟩
 refine Ch h Y (fun d1 h=> ?_) (fun d1 h=> ?_)
 refine Sr (qM (Iv a) K (qu (.agg #[(Sv ⟨#[98,114,111,107,101,114]⟩),(Iv a),(Iv 10)]) (Bl (cl:=[(Sv ⟨#[98,114,111,107,101,114]⟩),(Iv a),(Iv 10)]) ze36 fp36 (Pc (Sv ⟨#[98,114,111,107,101,114]⟩) Z Z (Pc (Iv a) Z Z (Pc (Iv 10) Z Z Pz))) Z) (WL.f1 (We (Sg (v:=(.agg #[(Sv ⟨#[98,114,111,107,101,114]⟩),(Iv a),(Iv 10)])) (vl:=[(Sv ⟨#[98,114,111,107,101,114]⟩),(Iv a),(Iv 10)]) (arr':=[(Sv ⟨#[98,114,111,107,101,114]⟩),(Iv a),(Iv 10)]) Z sz36 E Z (onb Z) Z Z Z) Z ?_))))
 rintro _ _ _ - ⟨rfl,rfl⟩
 refine Nt (Cr (Br (Tr (WQ.leaveR (inr ((⟨#[98,114,111,107,101,114]⟩:ByteArray),a,(10:Int))) (oi h).symm (fun y=> ?_)))))
 subst y
 have h:=(QdZ S)
 refine Br (Tr ?_)
 have h:=KK.early h a6
 exact Qa (Dr (Qa (Dr (Rd h [] (fun _ hs=>hs.drop) (QbA Z (Rc (cs:=[(Sv ⟨#[98,114,111,107,101,114]⟩),(Iv a),(Iv 10)]) 0 ag36 sz36 E Z Z)) (O.trans X) ⟨Z,Z⟩))))
 exact Ck (Bn (Tc (Cg (qM (Iv a) K (qu (Iv (i64.wrap (a+1))) (add Z Z) (qa (Iv (i64.wrap (a+1))) (Wz (Dr (WQ.again (i64.wrap (a+1)) (oi h).symm ⟨(O.trans X),Z,a5,E,Z⟩)))))))))
 refine WC.exit (WQ.thenE (WQ.leaveE (inl ()) (oi h).symm (fun y=> ?_)))
 subst y
 have h:=QeV S
 exact WQ.blockH (WQ.thenFE h ⟨G,Z,C⟩)
 rintro _ f5 f6 f7 rfl ⟨b6,rfl,L⟩
 have h:=(Sum.elim_inl _ _ _).symm.trans h
 refine Sr (qu (.agg #[(Sv ⟨#[]⟩),(Iv 0),(Iv 0)]) (Bl (cl:=[(Sv ⟨#[]⟩),(Iv 0),(Iv 0)]) ze36 fp36 Pz Z) (We (Sg (v:=(.agg #[(Sv ⟨#[]⟩),(Iv 0),(Iv 0)])) (vl:=[(Sv ⟨#[]⟩),(Iv 0),(Iv 0)]) (arr':=[(Sv ⟨#[]⟩),(Iv 0),(Iv 0)]) Z sz36 L Z (onb Z) Z Z Z) Z ?_))
 rintro _ _ _ - ⟨rfl,rfl⟩
 exact Nt (Cr (Qa (Dr (Rd h [] (fun _ hs=>hs.drop) (QbA Z (Rc (cs:=[(Sv ⟨#[]⟩),(Iv 0),(Iv 0)]) 0 ag36 sz36 L Z Z)) b6 ⟨Z,Z⟩))))
noncomputable def Qj7 (a0:QaA) (a1:QaK):Option Bool:=
 ((((Qc7 a1.Ids).bind fun a=>(if(!a)=true then(some true)else((Qc7 a1.Isr).bind fun b=>(if(!b)=true then(some true)else((Qc7 a1.Add).bind fun c=>(if(!c)=true then(some true)else((Qc7 a1.Drop).bind fun d=>(some (!d))))))))):Option Bool).bind fun e=>(if e=true then(some false)else((((QgW a1.Epoch (0:Int) (1073741824:Int)).bind fun f=>(if f=true then((QhS a0 a1).bind fun g=>(some (decide (g=(0:Int)))))else(some false))):Option Bool).bind fun i=>(some i))))
def QsH (a0:QaA) (a1:QaK) (a b c d e f g i:Value):Bool→Value→IM→HL→Prop:=
 fun(j:Bool) (v:Value) (l:IM) (k:HL)=>(.bool j)=v∧k=[]
theorem Qu7 (a0:QaA) (a1:QaK) (M:IM) (f g i j a b c d:Value) (z:RS QaG M f a0.Brokers) (A:RS QaI M g a0.Topics) (B:RS QaH M i a0.Configs) (C:RS QaL M j a0.Done) (x:RS (Kd.int .i64) M a a1.Ids) (p:RS (Kd.int .i64) M b a1.Isr) (q:RS (Kd.int .i64) M c a1.Add) (r:RS (Kd.int .i64) M d a1.Drop) (U:Bool) (h:Qj7 a0 a1=some U):
 Tri prog 95 #[(a29_ a0 f g i j),(a53_ a1 a b c d)] M [] (QsH a0 a1 f g i j a b c d U):=by
 unfold Qj7 at h
 refine Te func95 Z Z ?_
 intro F ρ b2
 refine Sr (We (box (cs:=(l29 a0 f g i j).toArray) (congrArg Value.cells (asE (a29_ a0 f g i j) (b2 0)))) Z ?_)
 rintro _ _ _ - ⟨rfl,L,rfl,rfl⟩
 refine We (box (cs:=(l53 a1 a b c d).toArray) (congrArg Value.cells (asE (a53_ a1 a b c d) (b2 1)))) Z ?_
 rintro _ _ _ - ⟨rfl,s,rfl,rfl⟩
 refine qa (Bv false) (Nt (Cs ?_))
 obtain ⟨N,V,h⟩:=bnd h
 refine Jf (fun(N:Bool) W M' H'=>M.le M'∧[(s, .cells (l53 a1 a b c d).toArray 53 (0,0))]::[(L, .cells (l29 a0 f g i j).toArray 29 (0,0))]::F=H'∧W 2=(pt L 0)∧W 3=(pt s 0)∧W 26=(Bv N)) N ?_ ?_
 have h:=V
 refine Cg (qu (pt s 0) (Fa QiN Z Z) (qu a (Lb 0 pl51 Z Z Z) ?_))
 obtain ⟨O,X,h⟩:=bnd h
 refine We (Ca Q1F (Qe6 a1.Ids _ _ x O X) (Qb2 Z)) Z ?_
 rintro _ b3 _ e ⟨_,⟨rfl,rfl⟩,rfl⟩
 refine WL.a0 (qu (Bv (!O)) (PO.not Z) (qm (Bv (!O)) ?_))
 rcases Bi h with⟨k,h⟩ |⟨k,h⟩
 iterate 4 refine Of 9 Z Z k Z ?_
 refine qu (Bv true) (Pt Z k Z) (qm (Bv true) ?_)
 iterate 4 refine Of 15 Z Z Z Z ?_
 refine qu (Bv true) (Pt Z Z Z) (qm (Bv true) ?_)
 iterate 4 refine Of 21 Z Z Z Z ?_
 refine qu (Bv true) (Pt Z Z Z) (Wz ?_)
 obtain rfl:=oi h
 exact Tj ⟨e,Z,Z,Z,Z⟩
 refine qo 9 k (pt s 1) (Fa QlA Z Z) (qo 9 k b (Lb 0 pl51 Z Z Z) (On 9 Z Z k ?_))
 obtain ⟨E,Y,h⟩:=bnd h
 have p:=p.mono e
 refine We (Ca Q1F (Qe6 a1.Isr _ _ p E Y) (Qb2 Z)) Z ?_
 rintro _ b4 _ o ⟨_,⟨rfl,rfl⟩,rfl⟩
 refine WL.a0 (qo 9 k (Bv (!E)) (PO.not Z) (qu (Bv (!E)) (Pf Z k Z) (qm (Bv (!E)) ?_)))
 rcases Bi h with⟨l,h⟩ |⟨l,h⟩
 iterate 4 refine Of 15 Z Z l Z ?_
 refine qu (Bv true) (Pt Z l Z) (qm (Bv true) ?_)
 iterate 4 refine Of 21 Z Z Z Z ?_
 refine qu (Bv true) (Pt Z Z Z) (Wz ?_)
 obtain rfl:=oi h
 exact Tj ⟨(e.trans o),Z,Z,Z,Z⟩
 refine qo 15 l (pt s 4) (Fa Qn7 Z Z) (qo 15 l c (Lb 0 pl51 Z Z Z) (On 15 Z Z l ?_))
 obtain ⟨G,a2,h⟩:=bnd h
 have q:=q.mono (e.trans o)
 refine We (Ca Q1F (Qe6 a1.Add _ _ q G a2) (Qb2 Z)) Z ?_
 rintro _ b5 _ u ⟨_,⟨rfl,rfl⟩,rfl⟩
 refine WL.a0 (qo 15 l (Bv (!G)) (PO.not Z) (qu (Bv (!G)) (Pf Z l Z) (qm (Bv (!G)) ?_)))
 rcases Bi h with⟨m,h⟩ |⟨m,h⟩
 iterate 4 refine Of 21 Z Z m Z ?_
 refine qu (Bv true) (Pt Z m Z) (Wz ?_)
 obtain rfl:=oi h
 exact Tj ⟨((e.trans o).trans u),Z,Z,Z,Z⟩
 refine qo 21 m (pt s 5) (Fa QmT Z Z) (qo 21 m d (Lb 0 pl51 Z Z Z) (On 21 Z Z m ?_))
 obtain ⟨P,a3,h⟩:=bnd h
 have r:=r.mono ((e.trans o).trans u)
 refine We (Ca Q1F (Qe6 a1.Drop _ _ r P a3) (Qb2 Z)) Z ?_
 rintro _ b6 _ Q ⟨_,⟨rfl,rfl⟩,rfl⟩
 refine WL.a0 (qo 21 m (Bv (!P)) (PO.not Z) (qu (Bv (!P)) (Pf Z m Z) (Wz ?_)))
 obtain rfl:=oi h
 exact Tj ⟨(((e.trans o).trans u).trans Q),Z,Z,Z,Z⟩
 rintro b7 b1 b8 ⟨v,rfl,I,y,D⟩
 refine Ch h D (fun a4 h=> ?_) (fun a4 h=> ?_)
 exact Sr (qa (Bv false) (Nt (Cr (Tr (Dr (Dr (Rf h [] Z (Rs Z Z) v ⟨Z,Z⟩)))))))
 refine Ck (Tc ?_)
 obtain ⟨R,a5,h⟩:=bnd h
 refine Jf (fun(R:Bool) W M' H'=>b1.le M'∧[(s, .cells (l53 a1 a b c d).toArray 53 (0,0))]::[(L, .cells (l29 a0 f g i j).toArray 29 (0,0))]::F=H'∧W 4=(Bv R)) R ?_ ?_
 have h:=a5
 refine Cg (qu (pt s 3) (Fa Ql4 y Z) (qu (Iv a1.Epoch) (Lb 0 pl3 Z Z Z) ?_))
 obtain ⟨a6,a7,h⟩:=bnd h
 refine We (Ca co92 (QhZ a1.Epoch (0:Int) (1073741824:Int) _ a6 a7) (QcV Z Z Z)) Z ?_
 rintro _ b9 _ w ⟨_,⟨rfl,rfl⟩,rfl⟩
 have t:=v.trans w
 refine WL.a0 (qm (Bv a6) ?_)
 rcases Bi h with⟨n,h⟩ |⟨n,h⟩
 refine qo 30 n (a29_ a0 f g i j) (La (cs:=(l29 a0 f g i j)) 1 ag29 sz29 I Z Z) (qo 30 n (a53_ a1 a b c d) (La (cs:=(l53 a1 a b c d)) 0 ag53 sz53 y Z Z) (On 30 Z Z n ?_))
 obtain ⟨J,a8,h⟩:=bnd h
 have z:=z.mono t
 have A:=A.mono t
 have B:=B.mono t
 have C:=C.mono t
 have x:=x.mono t
 have p:=p.mono t
 have q:=q.mono t
 have r:=r.mono t
 refine We (Ca Q5R (QmP a0 a1 _ _ _ _ _ _ _ _ _ z A B C x p q r J a8) (QaS Z Z)) Z ?_
 rintro _ c0 _ S ⟨_,⟨rfl,rfl⟩,rfl⟩
 refine WL.a0 (qo 30 n (Bv (decide (J=0))) (eql Z Z) (qu (Bv (decide (J=0))) (Pt Z n Z) (qa (Bv (decide (J=0))) (Wz ?_))))
 obtain rfl:=oi h
 exact Tj ⟨(w.trans S),Z,Z⟩
 iterate 4 refine Of 30 Z Z n Z ?_
 refine qu (Bv false) (Pf Z n Z) (qa (Bv false) (Wz ?_))
 obtain rfl:=oi h
 exact Tj ⟨w,Z,Z⟩
 rintro c1 c2 c3 ⟨T,rfl,K⟩
 exact Cr (Dr (Dr (Rf h [] Z (Rs Z K) (v.trans T) ⟨Z,Z⟩)))
noncomputable def QeI (a0:QaA) (b:Int) (g:(Int×Bool×Int)):Option ((Int×Bool×Int)⊕(Int×Bool)):=
 match g with
 |(d,c,a)=>
 (if(decide (a<b))=true then(((grd (0≤a∧a<a0.Topics.length) (if c=true then(some ((rd a0.Topics a).Id,true))else(grd (0≤a∧a<a0.Topics.length) (some ((rd a0.Topics a).Id,decide (((rd a0.Topics a).Name)=((rd a0.Topics b).Name))))))):Option (Int×Bool)).bind fun(e,f)=>(some (inl (e,f,i64.wrap (a+(1:Int))))))else(some (inr (d,c))))
noncomputable def Qf4 (a0:QaA) (b:Int) (d:Int):Option (Int⊕(Unit⊕(ByteArray×Int×Int))):=
 match d with
 |a=>
 (if(decide (a<(((rd a0.Topics b).Parts).length:Int)))=true then(grd (0≤a∧a<((rd a0.Topics b).Parts).length) ((Qj7 a0 (rd ((rd a0.Topics b).Parts) a)).bind fun c=>(if(!c)=true then(some (inr (inr ((⟨#[116,111,112,105,99]⟩:ByteArray),b,(10:Int)))))else(some (inl (i64.wrap (a+(1:Int))))))))else(some (inr (inl ()))))
noncomputable def QeJ (a0:QaA) (l:Int):Option (Int⊕(Unit⊕(ByteArray×Int×Int))):=
 match l with
 |a=>
 (if(decide (a<(a0.Topics.length:Int)))=true then(((grd (0≤a∧a<a0.Topics.length) ((((iter (QeI a0 a) ((0:Int),false,(0:Int))).bind (fun(b,c)=>(some (b,c)))):Option (Int×Bool)).bind fun(d,e)=>(((if(decide (((rd a0.Topics a).Id)≤d))=true then(some true)else(if(decide (a0.Last<((rd a0.Topics a).Id)))=true then(some true)else((Qe5 ((rd a0.Topics a).Name)).bind fun f=>(if(!f)=true then(some true)else(if e=true then(some true)else(some (decide ((256:Int)<(((rd a0.Topics a).Parts).length:Int))))))))):Option Bool).bind fun g=>(if g=true then(((some (inr (inr ((⟨#[116,111,112,105,99]⟩:ByteArray),a,(2:Int)))))).bind fun r=>some (inr r))else((iter (Qf4 a0 a) (0:Int)).bind (Sum.elim (fun _=>(some (inl ()))) (fun(i,j,k)=>(((some (inr (inr (i,j,k))))).bind fun r=>some (inr r))))))))):Option (Unit⊕(Int⊕(Unit⊕(ByteArray×Int×Int))))).bind (Sum.elim (fun _=>(some (inl (i64.wrap (a+(1:Int)))))) some))else(some (inr (inl ()))))
noncomputable def QiA (a0:QaA):Option QaM:=
 (((if(decide ((256:Int)<(a0.Topics.length:Int)))=true then(some true)else((QgW a0.Last (0:Int) (1073741824:Int)).bind fun a=>(some (!a)))):Option Bool).bind fun b=>(if b=true then(some (⟨(⟨#[116,111,112,105,99]⟩:ByteArray),(a0.Topics.length:Int),(6:Int)⟩:QaM))else((((iter (QeJ a0) (0:Int)).bind (Sum.elim (fun _=>(some (inl ()))) (fun(c,d,e)=>(((some (⟨c,d,e⟩:QaM))).bind fun r=>some (inr r))))):Option (Unit⊕QaM)).bind (Sum.elim (fun _=>(some Q1R)) some))))
def QpZ (a0:QaA) (b c d e:Value):QaM→Value→IM→HL→Prop:=
 fun(a:QaM) (v:Value) (g:IM) (f:HL)=>(.agg #[(.string a.Op),(.int .i64 a.At),(.int .i64 a.Code)])=v∧f=[]
theorem QsI (a0:QaA) (M:IM) (f c g i:Value) (b9:RS QaG M f a0.Brokers) (l:RS QaI M c a0.Topics) (c0:RS QaH M g a0.Configs) (c1:RS QaL M i a0.Done) (h6:QaM) (h:QiA a0=some h6):
 Tri prog 64 #[(a29_ a0 f c g i)] M [] (QpZ a0 f c g i h6):=by
 unfold QiA at h
 refine Te func64 Z Z ?_
 intro F ρ l8
 refine Sr (We (box (cs:=(l29 a0 f c g i).toArray) (congrArg Value.cells (asE (a29_ a0 f c g i) (l8 0)))) Z ?_)
 rintro _ _ _ - ⟨rfl,e,rfl,rfl⟩
 refine We (Al ze36 Z) Z ?_
 rintro _ _ _ - ⟨rfl,o,rfl,rfl⟩
 refine Nt (Cs ?_)
 obtain ⟨f4,h7,h⟩:=bnd h
 refine Jf (fun(f4:Bool) k Y H'=>M.le Y∧[(o, .cells #[(Sv ⟨#[]⟩),(Iv 0),(Iv 0)] 36 (0,0))]::[(e, .cells (l29 a0 f c g i).toArray 29 (0,0))]::F=H'∧k 1=(pt e 0)∧k 2=(pt o 0)∧k 18=(Bv f4)) f4 ?_ ?_
 have h:=h7
 refine Cg (qu (pt e 1) (Fa QcB Z Z) (qu c (Lb 1 pl25 Z Z Z) (qu (Iv (a0.Topics.length:Int)) (lenS underlying25 Z l.len) (qu (Bv (decide ((256:Int)<(a0.Topics.length:Int)))) (gtr Z Z) (qm (Bv (decide ((256:Int)<(a0.Topics.length:Int)))) ?_)))))
 rcases Bi h with⟨y,h⟩ |⟨y,h⟩
 iterate 4 refine Of 13 Z Z y Z ?_
 refine qu (Bv true) (Pt Z y Z) (Wz ?_)
 obtain rfl:=oi h
 exact Tj ⟨lr,Z,Z,Z,Z⟩
 refine qo 13 y (pt e 4) (Fa QmS Z Z) (qo 13 y (Iv a0.Last) (Lb 1 pl3 Z Z Z) (On 13 Z Z y ?_))
 obtain ⟨f5,h8,h⟩:=bnd h
 refine We (Ca co92 (QhZ a0.Last (0:Int) (1073741824:Int) _ f5 h8) (QcV Z Z Z)) Z ?_
 rintro _ l9 _ f6 ⟨_,⟨rfl,rfl⟩,rfl⟩
 refine WL.a0 (qo 13 y (Bv (!f5)) (PO.not Z) (qu (Bv (!f5)) (Pf Z y Z) (Wz ?_)))
 obtain rfl:=oi h
 exact Tj ⟨f6,Z,Z,Z,Z⟩
 rintro m0 h9 m1 ⟨G,rfl,a9,L,c2⟩
 refine Ch h c2 (fun i0 h=> ?_) (fun i0 h=> ?_)
 refine Sr (qu (pt e 1) (Fa QcB a9 Z) (qu c (Lb 1 pl25 Z Z Z) ?_))
 have l:=l.mono G
 refine qu (Iv (a0.Topics.length:Int)) (lenS underlying25 Z l.len) (qu (.agg #[(Sv ⟨#[116,111,112,105,99]⟩),(Iv (a0.Topics.length:Int)),(Iv 6)]) (Bl (cl:=[(Sv ⟨#[116,111,112,105,99]⟩),(Iv (a0.Topics.length:Int)),(Iv 6)]) ze36 fp36 (Pc (Sv ⟨#[116,111,112,105,99]⟩) Z Z (Pc (Iv (a0.Topics.length:Int)) Z Z (Pc (Iv 6) Z Z Pz))) Z) (We (Sg (v:=(.agg #[(Sv ⟨#[116,111,112,105,99]⟩),(Iv (a0.Topics.length:Int)),(Iv 6)])) (vl:=[(Sv ⟨#[116,111,112,105,99]⟩),(Iv (a0.Topics.length:Int)),(Iv 6)]) (arr':=[(Sv ⟨#[116,111,112,105,99]⟩),(Iv (a0.Topics.length:Int)),(Iv 6)]) Z sz36 L Z (onb Z) Z Z Z) Z ?_))
 rintro _ _ _ - ⟨rfl,rfl⟩
 exact Nt (Cr (Tr (Qa (Dr (Rd h [] (fun _ hs=>hs.drop) (QbA Z (Rc (cs:=[(Sv ⟨#[116,111,112,105,99]⟩),(Iv (a0.Topics.length:Int)),(Iv 6)]) 0 ag36 sz36 L Z Z)) G ⟨Z,Z⟩)))))
 refine Ck (Tc ?_)
 obtain ⟨k5,i1,h⟩:=bnd h
 refine WC.joinE (fun(_:Unit) k Y H'=>h9.le Y∧[(o, .cells #[(Sv ⟨#[]⟩),(Iv 0),(Iv 0)] 36 (0,0))]::[(e, .cells (l29 a0 f c g i).toArray 29 (0,0))]::F=H'∧k 2=(pt o 0)) k5 ?_ ?_
 have e9:=h
 have h:=i1
 refine Sr (qa (Iv 0) (Nt (Bk ?_)))
 obtain ⟨m2,i2,c3⟩:=bnd h
 clear h
 refine WC.loop i2 (fun(a:Int) k Y H'=>h9.le Y∧[(o, .cells #[(Sv ⟨#[]⟩),(Iv 0),(Iv 0)] 36 (0,0))]::[(e, .cells (l29 a0 f c g i).toArray 29 (0,0))]::F=H'∧k 1=(pt e 0)∧k 2=(pt o 0)∧k 3=(Iv a)) ?_ ?_
 exact⟨lr,Z,a9,L,Z⟩
 rintro a m3 m4 f7 m5 h ⟨N,rfl,O,b0,P⟩
 unfold QeJ at h
 refine Cs (Sr (qM (Iv a) P (qu (pt e 1) (Fa QcB O Z) (qu c (Lb 1 pl25 Z Z Z) ?_))))
 have l:=l.mono (G.trans N)
 refine qu (Iv (a0.Topics.length:Int)) (lenS underlying25 Z l.len) (qu (Bv (decide (a<(a0.Topics.length:Int)))) (lss Z Z) (Nt (Ch h Z (fun i3 h=> ?_) (fun i3 h=> ?_))))
 refine Ck (Tc ?_)
 obtain ⟨k6,i4,h⟩:=bnd h
 refine WC.joinE (fun(_:Unit) k Y H'=>f7.le Y∧[(o, .cells #[(Sv ⟨#[]⟩),(Iv 0),(Iv 0)] 36 (0,0))]::[(e, .cells (l29 a0 f c g i).toArray 29 (0,0))]::F=H'∧k 1=(pt e 0)∧k 2=(pt o 0)∧k 3=(Iv a)) k6 ?_ ?_
 have f0:=h
 have h:=i4
 refine Bk (Sr (qu (pt e 1) (Fa QcB O Z) (qu c (Lb 1 pl25 Z Z Z) (qM (Iv a) P ?_))))
 obtain ⟨b1,h⟩:=Qa1 h
 obtain ⟨k7,l3,f8,f9,hhas45⟩:=l.at b1.1 b1.2 (by decide)
 obtain ⟨b,rfl,m⟩:=QaW f9
 refine qu (.pointer (some k7)) (indexAddr (n:=a0.Topics.length) underlying25 sz50 Z Z b1.1 b1.2 f8) (qu (a50_ (rd a0.Topics a) b) (loadMA (cs:=(l50 (rd a0.Topics a) b)) ag50 sz50 Z hhas45) (We (Al ze50 Z) Z ?_))
 rintro _ _ _ - ⟨rfl,p,rfl,rfl⟩
 refine We (Sg (v:=(a50_ (rd a0.Topics a) b)) (vl:=(l50 (rd a0.Topics a) b)) (arr':=(l50 (rd a0.Topics a) b)) Z sz50 Z Z (QaX (Oc Z (Oc Z (Oc (RS.one m) Oz)))) Z Z Z) Z ?_
 rintro _ _ _ - ⟨rfl,rfl⟩
 refine Ns (qa (Iv 0) (Ns (qa (Bv false) (Nt ?_))))
 obtain ⟨i5,i6,h⟩:=bnd h
 refine Jf (fun(p_:(Int×Bool)) k Y H'=>match p_ with |(c4,c5)=>f7.le Y∧[(p, .cells (l50 (rd a0.Topics a) b).toArray 50 (0,0))]::[(o, .cells #[(Sv ⟨#[]⟩),(Iv 0),(Iv 0)] 36 (0,0))]::[(e, .cells (l29 a0 f c g i).toArray 29 (0,0))]::F=H'∧k 1=(pt e 0)∧k 2=(pt o 0)∧k 3=(Iv a)∧k 4=(pt p 0)∧k 5=(Iv c4)∧k 6=(Bv c5)) i5 ?_ ?_
 have h:=i6
 refine Sr (qa (Iv 0) (Nt (Bk ?_)))
 obtain ⟨m6,i8,i9⟩:=bnd h
 clear h
 refine WC.loop i8 (fun(p_:(Int×Bool×Int)) k Y H'=>match p_ with |(g0,c6,r)=>f7.le Y∧[(p, .cells (l50 (rd a0.Topics a) b).toArray 50 (0,0))]::[(o, .cells #[(Sv ⟨#[]⟩),(Iv 0),(Iv 0)] 36 (0,0))]::[(e, .cells (l29 a0 f c g i).toArray 29 (0,0))]::F=H'∧k 1=(pt e 0)∧k 2=(pt o 0)∧k 3=(Iv a)∧k 4=(pt p 0)∧k 5=(Iv g0)∧k 6=(Bv c6)∧k 7=(Iv r)) ?_ ?_
 exact⟨lr,Z,O,b0,P,Z,Z,Z,Z⟩
 rintro ⟨g0,c6,r⟩ m7 m8 k8 m9 h ⟨a7,rfl,s,Q,C,D,d2,b2,t⟩
 unfold QeI at h
 refine Cs (Sr (qM (Iv r) t (qM (Iv a) C (qu (Bv (decide (r<a))) (lss Z Z) (Nt (Ch h Z (fun j0 h=> ?_) (fun j0 h=> ?_)))))))
 refine Ck (Tc ?_)
 obtain ⟨j1,j2,h⟩:=bnd h
 refine Jf (fun(p_:(Int×Bool)) k Y H'=>match p_ with |(g1,g2)=>k8.le Y∧[(p, .cells (l50 (rd a0.Topics a) b).toArray 50 (0,0))]::[(o, .cells #[(Sv ⟨#[]⟩),(Iv 0),(Iv 0)] 36 (0,0))]::[(e, .cells (l29 a0 f c g i).toArray 29 (0,0))]::F=H'∧k 1=(pt e 0)∧k 2=(pt o 0)∧k 3=(Iv a)∧k 4=(pt p 0)∧k 5=(Iv g1)∧k 6=(Bv g2)∧k 7=(Iv r)) j1 ?_ ?_
 have h:=j2
 refine Bk (Sr (qu (pt e 1) (Fa QcB s Z) (qu c (Lb 2 pl25 Z Z Z) (qM (Iv r) t ?_))))
 obtain ⟨b3,h⟩:=Qa1 h
 have l:=l.mono a7
 obtain ⟨j3,l4,g3,g4,hhas66⟩:=l.at b3.1 b3.2 (by decide)
 obtain ⟨k1,rfl,k2⟩:=QaW g4
 refine qu (.pointer (some j3)) (indexAddr (n:=a0.Topics.length) underlying25 sz50 Z Z b3.1 b3.2 g3) (qu (.pointer (some (j3.add 0))) (Fa QkJ Z Z) (qu (Iv ((rd a0.Topics r).Id)) (loadM pl3 Z (IM.has0 hhas66)) (qa (Iv ((rd a0.Topics r).Id)) (Nt (WC.draw [0,1,3,7,3,31,63,127,3,259,1023,2047,4095] (.pure 0 (.pure 1 (.pure 2 (.pure 3 (.pure 4 (.pure 5 (.pure 6 (.pure 7 (.pure 8 (.pure 9 (.pure 10 (.pure 11 (.alt 12 .done .none))))))))))))) Qc3 (by kernel_rfl) (qt (Bv c6) Z (Mv b2) (qt (Bv c6) Z (Mv Z) ?_)))))))
 rcases Bi h with⟨d,h⟩ |⟨d,h⟩
 refine Tf 47 Z Z Z d Z (Tf 47 Z Z Z d Z (Tf 47 Z Z Z d Z (Tf 47 Z Z Z d Z (Tf 47 Z Z Z d Z (Tf 47 Z Z Z d Z (Tf 47 Z Z Z d Z (Tf 47 Z Z Z d Z (Tf 47 Z Z Z d Z (qt (Bv true) Z (Pt Z d Z) (Ta Z ((Ag Z).eo) Z ?_ ?_))))))))))
 rintro _ _ _ - ⟨rfl,rfl,rfl⟩
 refine⟨(Sl Z), ?_⟩
 refine Ti (Bn ?_)
 obtain rfl:=oi h
 exact Tj ⟨lr,Z,s,Q,C,D,Z,Z,t⟩
 exact Tz
 refine Tn (pt e 1) 47 Z Z Z d (Fa QcB s Z) Z (Tn c 47 Z Z Z d (Lb 2 pl25 Z Z Z) Z (Tn (Iv r) 47 Z Z Z d (Mv t) Z ?_))
 obtain ⟨b4,h⟩:=Qa1 h
 obtain ⟨j4,l5,g5,g6,hhas74⟩:=l.at b4.1 b4.2 (by decide)
 obtain ⟨k3,rfl,k4⟩:=QaW g6
 refine Tn (.pointer (some j4)) 47 Z Z Z d (indexAddr (n:=a0.Topics.length) underlying25 sz50 Z Z b4.1 b4.2 g5) Z (Tn (.pointer (some (j4.add 1))) 47 Z Z Z d (Fa Ql3 Z Z) Z (Tn (Sv ((rd a0.Topics r).Name)) 47 Z Z Z d (loadM pl9 Z (hhas74 1 _ Z)) Z (Tn (pt p 1) 47 Z Z Z d (Fa Ql3 D Z) Z (Tn (Sv ((rd a0.Topics a).Name)) 47 Z Z Z d (Lb 0 pl9 Z Z Z) Z (Tn (Bv (decide (((rd a0.Topics r).Name)=((rd a0.Topics a).Name)))) 47 Z Z Z d (seql Z Z) Z (qt (Bv (decide (((rd a0.Topics r).Name)=((rd a0.Topics a).Name)))) Z (Pf Z d Z) (Ta Z ((Ag Z).eo) Z ?_ ?_)))))))
 rintro _ _ _ - ⟨rfl,rfl,rfl⟩
 refine⟨(Sl Z), ?_⟩
 refine Ti (Bn ?_)
 obtain rfl:=oi h
 exact Tj ⟨lr,Z,s,Q,C,D,Z,Z,t⟩
 exact Tz
 obtain ⟨g1,g2⟩:=j1
 rintro n0 n1 n2 ⟨g7,rfl,d3,d4,d5,d6,d7,d8,d9⟩
 exact Cg (qM (Iv r) d9 (qu (Iv (i64.wrap (r+1))) (add Z Z) (qa (Iv (i64.wrap (r+1))) (Wz (WQ.again (g1,g2,i64.wrap (r+1)) (oi h).symm ⟨(a7.trans g7),Z,d3,d4,d5,d6,d7,d8,Z⟩)))))
 refine WC.exit (WQ.thenE (WQ.leaveE (g0,c6) (oi h).symm (fun g8=> ?_)))
 subst g8
 have h:=i9
 refine WQ.blockH ?_
 obtain rfl:=oi h
 exact Tj ⟨a7,Z,s,Q,C,D,d2,b2⟩
 obtain ⟨c4,c5⟩:=i5
 rintro n3 k9 n4 ⟨I,rfl,q,u,w,j,e0,e1⟩
 have l0:=(G.trans N).trans I
 refine Cs ?_
 obtain ⟨g9,j5,h⟩:=bnd h
 refine Jf (fun(g9:Bool) k Y H'=>k9.le Y∧[(p, .cells (l50 (rd a0.Topics a) b).toArray 50 (0,0))]::[(o, .cells #[(Sv ⟨#[]⟩),(Iv 0),(Iv 0)] 36 (0,0))]::[(e, .cells (l29 a0 f c g i).toArray 29 (0,0))]::F=H'∧k 1=(pt e 0)∧k 2=(pt o 0)∧k 3=(Iv a)∧k 4=(pt p 0)∧k 83=(Bv g9)) g9 ?_ ?_
 have h:=j5
 refine Cg (qu (pt p 0) (Fa QkJ j Z) (qu (Iv ((rd a0.Topics a).Id)) (Lb 0 pl3 Z Z Z) (qM (Iv c4) e0 (qu (Bv (decide (((rd a0.Topics a).Id)≤c4))) (leq Z Z) (qm (Bv (decide (((rd a0.Topics a).Id)≤c4))) ?_)))))
 rcases Bi h with⟨x,h⟩ |⟨x,h⟩
 iterate 5 refine Of 62 Z Z x Z ?_
 refine qu (Bv true) (Pt Z x Z) (qm (Bv true) ?_)
 iterate 4 refine Of 69 Z Z Z Z ?_
 refine qu (Bv true) (Pt Z Z Z) (qm (Bv true) (Of 75 Z Z Z Z (qu (Bv true) (Pt Z Z Z) (qm (Bv true) ?_))))
 iterate 4 refine Of 78 Z Z Z Z ?_
 refine qu (Bv true) (Pt Z Z Z) (Wz ?_)
 obtain rfl:=oi h
 exact Tj ⟨lr,Z,q,u,w,j,Z⟩
 refine qo 62 x (pt p 0) (Fa QkJ j Z) (qo 62 x (Iv ((rd a0.Topics a).Id)) (Lb 0 pl3 Z Z Z) (qo 62 x (pt e 4) (Fa QmS q Z) (qo 62 x (Iv a0.Last) (Lb 2 pl3 Z Z Z) (qo 62 x (Bv (decide (a0.Last<((rd a0.Topics a).Id)))) (gtr Z Z) (qu (Bv (decide (a0.Last<((rd a0.Topics a).Id)))) (Pf Z x Z) (qm (Bv (decide (a0.Last<((rd a0.Topics a).Id)))) ?_))))))
 rcases Bi h with⟨z,h⟩ |⟨z,h⟩
 iterate 4 refine Of 69 Z Z z Z ?_
 refine qu (Bv true) (Pt Z z Z) (qm (Bv true) (Of 75 Z Z Z Z (qu (Bv true) (Pt Z Z Z) (qm (Bv true) ?_))))
 iterate 4 refine Of 78 Z Z Z Z ?_
 refine qu (Bv true) (Pt Z Z Z) (Wz ?_)
 obtain rfl:=oi h
 exact Tj ⟨lr,Z,q,u,w,j,Z⟩
 refine qo 69 z (pt p 1) (Fa Ql3 j Z) (qo 69 z (Sv ((rd a0.Topics a).Name)) (Lb 0 pl9 Z Z Z) (On 69 Z Z z ?_))
 obtain ⟨e2,j6,h⟩:=bnd h
 refine We (Ca co93 (Qg4 ((rd a0.Topics a).Name) _ e2 j6) (Qb2 Z)) Z ?_
 rintro _ n5 _ R ⟨_,⟨rfl,rfl⟩,rfl⟩
 refine WL.a0 (qo 69 z (Bv (!e2)) (PO.not Z) (qu (Bv (!e2)) (Pf Z z Z) (qm (Bv (!e2)) ?_)))
 rcases Bi h with⟨a2,h⟩ |⟨a2,h⟩
 refine Of 75 Z Z a2 Z (qu (Bv true) (Pt Z a2 Z) (qm (Bv true) ?_))
 iterate 4 refine Of 78 Z Z Z Z ?_
 refine qu (Bv true) (Pt Z Z Z) (Wz ?_)
 obtain rfl:=oi h
 exact Tj ⟨R,Z,q,u,w,j,Z⟩
 refine On 75 Z Z a2 (qM (Bv c5) e1 (qu (Bv c5) (Pf Z a2 Z) (qm (Bv c5) ?_)))
 rcases Bi h with⟨A,h⟩ |⟨A,h⟩
 iterate 4 refine Of 78 Z Z A Z ?_
 refine qu (Bv true) (Pt Z A Z) (Wz ?_)
 obtain rfl:=oi h
 exact Tj ⟨R,Z,q,u,w,j,Z⟩
 refine qo 78 A (pt p 2) (Fa Qd0 j Z) (qo 78 A b (Lb 0 pl48 Z Z Z) (On 78 Z Z A ?_))
 have m:=m.mono (I.trans R)
 refine qu (Iv (((rd a0.Topics a).Parts).length:Int)) (lenS underlying48 Z m.len) (qo 78 A (Bv (decide ((256:Int)<(((rd a0.Topics a).Parts).length:Int)))) (gtr Z Z) (qu (Bv (decide ((256:Int)<(((rd a0.Topics a).Parts).length:Int)))) (Pf Z A Z) (Wz ?_)))
 obtain rfl:=oi h
 exact Tj ⟨R,Z,q,u,w,j,Z⟩
 rintro n6 l1 n7 ⟨S,rfl,e3,T,b5,e4,c7⟩
 have j7:=l0.trans S
 refine Ch h c7 (fun j8 h=> ?_) (fun j8 h=> ?_)
 refine Sr (qM (Iv a) b5 (qu (.agg #[(Sv ⟨#[116,111,112,105,99]⟩),(Iv a),(Iv 2)]) (Bl (cl:=[(Sv ⟨#[116,111,112,105,99]⟩),(Iv a),(Iv 2)]) ze36 fp36 (Pc (Sv ⟨#[116,111,112,105,99]⟩) Z Z (Pc (Iv a) Z Z (Pc (Iv 2) Z Z Pz))) Z) (WL.f1 (We (Sg (v:=(.agg #[(Sv ⟨#[116,111,112,105,99]⟩),(Iv a),(Iv 2)])) (vl:=[(Sv ⟨#[116,111,112,105,99]⟩),(Iv a),(Iv 2)]) (arr':=[(Sv ⟨#[116,111,112,105,99]⟩),(Iv a),(Iv 2)]) Z sz36 T Z (onb Z) Z Z Z) Z ?_))))
 rintro _ _ _ - ⟨rfl,rfl⟩
 refine Nt (Cr (Tr (Br (Tr ?_))))
 have h:=KK.early h f0
 refine WQ.leaveR (inr ((⟨#[116,111,112,105,99]⟩:ByteArray),a,(2:Int))) (oi h).symm (fun J=> ?_)
 subst J
 have h:=(QdZ c3)
 refine Br (Tr ?_)
 have h:=KK.early h e9
 exact Qa (Dr (Qa (Dr (Rd h [] (fun _ hs=>hs.drop) (QbA Z (Rc (cs:=[(Sv ⟨#[116,111,112,105,99]⟩),(Iv a),(Iv 2)]) 0 ag36 sz36 T Z Z)) j7 ⟨Z,Z⟩))))
 refine Ck (Tc (Sr (qa (Iv 0) (Nt (Bk ?_)))))
 obtain ⟨n8,j9,f2⟩:=bnd h
 clear h
 refine WC.loop j9 (fun(B:Int) k Y H'=>l1.le Y∧[(p, .cells (l50 (rd a0.Topics a) b).toArray 50 (0,0))]::[(o, .cells #[(Sv ⟨#[]⟩),(Iv 0),(Iv 0)] 36 (0,0))]::[(e, .cells (l29 a0 f c g i).toArray 29 (0,0))]::F=H'∧k 1=(pt e 0)∧k 2=(pt o 0)∧k 3=(Iv a)∧k 4=(pt p 0)∧k 8=(Iv B)) ?_ ?_
 exact⟨lr,Z,e3,T,b5,e4,Z⟩
 rintro B n9 o0 o1 o2 h ⟨K,rfl,U,E,V,W,X⟩
 have e5:=j7.trans K
 unfold Qf4 at h
 refine Cs (Sr (qM (Iv B) X (qu (pt p 2) (Fa Qd0 W Z) (qu b (Lb 0 pl48 Z Z Z) ?_))))
 have m:=m.mono ((I.trans S).trans K)
 refine qu (Iv (((rd a0.Topics a).Parts).length:Int)) (lenS underlying48 Z m.len) (qu (Bv (decide (B<(((rd a0.Topics a).Parts).length:Int)))) (lss Z Z) (Nt (Ch h Z (fun k0 h=> ?_) (fun k0 h=> ?_))))
 refine Ck (Tc (Cs (Bk (Cs (WC.draw [0,0,2,0,14,30,63,127] (.pure 0 (.pure 1 (.pure 2 (.pure 3 (.pure 4 (.pure 5 (.alt 6 (.pure 7 .done) .none))))))) Qc3 (by kernel_rfl) (qt (a29_ a0 f c g i) Z (La (cs:=(l29 a0 f c g i)) 2 ag29 sz29 U Z Z) (qt (pt p 2) Z (Fa Qd0 W Z) (qt b Z (Lb 0 pl48 Z Z Z) (qt (Iv B) Z (Mv X) ?_)))))))))
 obtain ⟨b6,h⟩:=Qa1 h
 obtain ⟨l2,l6,h0,h1,hhas99⟩:=m.at b6.1 b6.2 (by decide)
 obtain ⟨a3,a4,a5,a6,rfl,c8,c9,d0,d1⟩:=QcY h1
 refine qt (.pointer (some l2)) Z (indexAddr (n:=((rd a0.Topics a).Parts).length) underlying48 sz53 Z Z b6.1 b6.2 h0) (qt (a53_ (rd ((rd a0.Topics a).Parts) B) a3 a4 a5 a6) Z (loadMA (cs:=(l53 (rd ((rd a0.Topics a).Parts) B) a3 a4 a5 a6)) ag53 sz53 Z hhas99) ?_)
 obtain ⟨f3,h2,h⟩:=bnd h
 have b9:=b9.mono e5
 have l:=l.mono ((I.trans S).trans K)
 have c0:=c0.mono e5
 have c1:=c1.mono e5
 refine Ta Z (Ca co95 (Qu7 a0 (rd ((rd a0.Topics a).Parts) B) _ _ _ _ _ _ _ _ _ b9 l c0 c1 c8 c9 d0 d1 f3 h2) (QaS Z Z)) Z ?_ ?_
 rintro _ l7 _ b7 ⟨_,⟨rfl,rfl⟩,rfl⟩
 refine⟨(Sl Z), ?_⟩
 refine WT.a0 (qt (Bv (!f3)) Z (PO.not Z) (Ti (Tc (Ch h Z (fun h3 h=> ?_) (fun h3 h=> ?_)))))
 refine Sr (qM (Iv a) V (qu (.agg #[(Sv ⟨#[116,111,112,105,99]⟩),(Iv a),(Iv 10)]) (Bl (cl:=[(Sv ⟨#[116,111,112,105,99]⟩),(Iv a),(Iv 10)]) ze36 fp36 (Pc (Sv ⟨#[116,111,112,105,99]⟩) Z Z (Pc (Iv a) Z Z (Pc (Iv 10) Z Z Pz))) Z) (WL.f1 (We (Sg (v:=(.agg #[(Sv ⟨#[116,111,112,105,99]⟩),(Iv a),(Iv 10)])) (vl:=[(Sv ⟨#[116,111,112,105,99]⟩),(Iv a),(Iv 10)]) (arr':=[(Sv ⟨#[116,111,112,105,99]⟩),(Iv a),(Iv 10)]) Z sz36 E Z (onb Z) Z Z Z) Z ?_))))
 rintro _ _ _ - ⟨rfl,rfl⟩
 refine Nt (Cr (Br (Tr (WQ.leaveR (inr ((⟨#[116,111,112,105,99]⟩:ByteArray),a,(10:Int))) (oi h).symm (fun a8=> ?_)))))
 subst a8
 have h:=(QdZ f2)
 refine Br (Br (Tr ?_))
 have h:=KK.early h f0
 refine WQ.leaveR (inr ((⟨#[116,111,112,105,99]⟩:ByteArray),a,(10:Int))) (oi h).symm (fun J=> ?_)
 subst J
 have h:=(QdZ c3)
 refine Br (Tr ?_)
 have h:=KK.early h e9
 exact Qa (Dr (Qa (Dr (Rd h [] (fun _ hs=>hs.drop) (QbA Z (Rc (cs:=[(Sv ⟨#[116,111,112,105,99]⟩),(Iv a),(Iv 10)]) 0 ag36 sz36 E Z Z)) (e5.trans b7) ⟨Z,Z⟩))))
 exact Ck (Bn (Tc (Cg (qM (Iv B) X (qu (Iv (i64.wrap (B+1))) (add Z Z) (qa (Iv (i64.wrap (B+1))) (Wz (WQ.again (i64.wrap (B+1)) (oi h).symm ⟨(K.trans b7),Z,U,E,V,W,Z⟩))))))))
 exact Tz
 refine WC.exit (WQ.thenE (WQ.leaveE (inl ()) (oi h).symm (fun a8=> ?_)))
 subst a8
 have h:=QeV f2
 exact WQ.blockH (Bn (Dr (WQ.thenFE h ⟨((I.trans S).trans K),Z,U,E,V⟩)))
 rintro _ o3 o4 o5 rfl ⟨h4,rfl,e6,e7,e8⟩
 have h:=(Sum.elim_inl _ _ _).symm.trans h
 exact Cg (qM (Iv a) e8 (qu (Iv (i64.wrap (a+1))) (add Z Z) (qa (Iv (i64.wrap (a+1))) (Wz (WQ.again (i64.wrap (a+1)) (oi h).symm ⟨(N.trans h4),Z,e6,e7,Z⟩)))))
 refine WC.exit (WQ.thenE (WQ.leaveE (inl ()) (oi h).symm (fun J=> ?_)))
 subst J
 have h:=QeV c3
 exact WQ.blockH (WQ.thenFE h ⟨N,Z,b0⟩)
 rintro _ o6 o7 o8 rfl ⟨h5,rfl,b8⟩
 have h:=(Sum.elim_inl _ _ _).symm.trans h
 refine Sr (qu (.agg #[(Sv ⟨#[]⟩),(Iv 0),(Iv 0)]) (Bl (cl:=[(Sv ⟨#[]⟩),(Iv 0),(Iv 0)]) ze36 fp36 Pz Z) (We (Sg (v:=(.agg #[(Sv ⟨#[]⟩),(Iv 0),(Iv 0)])) (vl:=[(Sv ⟨#[]⟩),(Iv 0),(Iv 0)]) (arr':=[(Sv ⟨#[]⟩),(Iv 0),(Iv 0)]) Z sz36 b8 Z (onb Z) Z Z Z) Z ?_))
 rintro _ _ _ - ⟨rfl,rfl⟩
 exact Nt (Cr (Qa (Dr (Rd h [] (fun _ hs=>hs.drop) (QbA Z (Rc (cs:=[(Sv ⟨#[]⟩),(Iv 0),(Iv 0)]) 0 ag36 sz36 b8 Z Z)) (G.trans h5) ⟨Z,Z⟩))))
noncomputable def QfH (a0:QaA) (g:Int):Option (Int⊕(Unit⊕(ByteArray×Int×Int))):=
 match g with
 |a=>
 (if(decide (a<(a0.Configs.length:Int)))=true then(((grd (0≤a∧a<a0.Configs.length) ((Qe7 a0 ((rd a0.Configs a).Topic)).bind fun(i,b)=>(((if(!b)=true then(if(decide (((rd a0.Configs a).Topic)≠(0:Int)))=true then(some true)else((Qe5 ((rd a0.Configs a).Key)).bind fun c=>(if(!c)=true then(some true)else(some (decide ((256:Int)<(((rd a0.Configs a).Value).size:Int)))))))else((Qe5 ((rd a0.Configs a).Key)).bind fun d=>(if(!d)=true then(some true)else(some (decide ((256:Int)<(((rd a0.Configs a).Value).size:Int))))))):Option Bool).bind fun e=>(if e=true then(((some (inr (inr ((⟨#[99,111,110,102,105,103]⟩:ByteArray),a,(2:Int)))))).bind fun r=>some (inr r))else(if(decide (a=(0:Int)))=true then(some (inl ()))else(grd (0≤i64.wrap (a - (1:Int))∧i64.wrap (a - (1:Int))<a0.Configs.length) (((if(decide (((rd a0.Configs a).Topic)<((rd a0.Configs (i64.wrap (a - (1:Int)))).Topic)))=true then(some true)else(if(decide (((rd a0.Configs (i64.wrap (a - (1:Int)))).Topic)=((rd a0.Configs a).Topic)))=true then(some (!Op.bytesLess ((rd a0.Configs (i64.wrap (a - (1:Int)))).Key).toList ((rd a0.Configs a).Key).toList))else(some false))):Option Bool).bind fun f=>(if f=true then(((some (inr (inr ((⟨#[99,111,110,102,105,103]⟩:ByteArray),a,(10:Int)))))).bind fun r=>some (inr r))else(some (inl ())))))))))):Option (Unit⊕(Int⊕(Unit⊕(ByteArray×Int×Int))))).bind (Sum.elim (fun _=>(some (inl (i64.wrap (a+(1:Int)))))) some))else(some (inr (inl ()))))
noncomputable def QhM (a0:QaA):Option QaM:=
 ((((iter (QfH a0) (0:Int)).bind (Sum.elim (fun _=>(some (inl ()))) (fun(a,b,c)=>(((some (⟨a,b,c⟩:QaM))).bind fun r=>some (inr r))))):Option (Unit⊕QaM)).bind (Sum.elim (fun _=>(some Q1R)) some))
def Qo1 (a0:QaA) (b c d e:Value):QaM→Value→IM→HL→Prop:=
 fun(a:QaM) (v:Value) (g:IM) (f:HL)=>(.agg #[(.string a.Op),(.int .i64 a.At),(.int .i64 a.Code)])=v∧f=[]
theorem Qq9 (a0:QaA) (M:IM) (i j b k:Value) (P:RS QaG M i a0.Brokers) (Q:RS QaI M j a0.Topics) (r:RS QaH M b a0.Configs) (R:RS QaL M k a0.Done) (c0:QaM) (h:QhM a0=some c0):
 Tri prog 65 #[(a29_ a0 i j b k)] M [] (Qo1 a0 i j b k c0):=by
 unfold QhM at h
 refine Te func65 Z Z ?_
 intro F ρ e3
 refine Sr (We (box (cs:=(l29 a0 i j b k).toArray) (congrArg Value.cells (asE (a29_ a0 i j b k) (e3 0)))) Z ?_)
 rintro _ _ _ - ⟨rfl,w,rfl,rfl⟩
 refine We (Al ze36 Z) Z ?_
 rintro _ _ _ - ⟨rfl,C,rfl,rfl⟩
 refine Nt ?_
 obtain ⟨d4,c1,h⟩:=bnd h
 refine WC.joinE (fun(_:Unit) D Y H'=>M.le Y∧[(C, .cells #[(Sv ⟨#[]⟩),(Iv 0),(Iv 0)] 36 (0,0))]::[(w, .cells (l29 a0 i j b k).toArray 29 (0,0))]::F=H'∧D 2=(pt C 0)) d4 ?_ ?_
 have b0:=h
 have h:=c1
 refine Sr (qa (Iv 0) (Nt (Bk ?_)))
 obtain ⟨e4,c2,S⟩:=bnd h
 clear h
 refine WC.loop c2 (fun(a:Int) D Y H'=>M.le Y∧[(C, .cells #[(Sv ⟨#[]⟩),(Iv 0),(Iv 0)] 36 (0,0))]::[(w, .cells (l29 a0 i j b k).toArray 29 (0,0))]::F=H'∧D 1=(pt w 0)∧D 2=(pt C 0)∧D 3=(Iv a)) ?_ ?_
 exact⟨lr,Z,Z,Z,Z⟩
 rintro a e5 e6 d5 e7 h ⟨l,rfl,c,m,e⟩
 unfold QfH at h
 refine Cs (Sr (qM (Iv a) e (qu (pt w 2) (Fa QdY c Z) (qu b (Lb 1 pl26 Z Z Z) ?_))))
 have r:=r.mono l
 refine qu (Iv (a0.Configs.length:Int)) (lenS underlying26 Z r.len) (qu (Bv (decide (a<(a0.Configs.length:Int)))) (lss Z Z) (Nt (Ch h Z (fun c3 h=> ?_) (fun c3 h=> ?_))))
 refine Ck (Tc ?_)
 obtain ⟨d6,c4,h⟩:=bnd h
 refine WC.joinE (fun(_:Unit) D Y H'=>d5.le Y∧[(C, .cells #[(Sv ⟨#[]⟩),(Iv 0),(Iv 0)] 36 (0,0))]::[(w, .cells (l29 a0 i j b k).toArray 29 (0,0))]::F=H'∧D 1=(pt w 0)∧D 2=(pt C 0)∧D 3=(Iv a)) d6 ?_ ?_
 have b1:=h
 have h:=c4
 refine Bk (Sr (qu (pt w 2) (Fa QdY c Z) (qu b (Lb 1 pl26 Z Z Z) (qM (Iv a) e ?_))))
 obtain ⟨K,h⟩:=Qa1 h
 obtain ⟨d7,e1,b2,b3,hhas36⟩:=r.at K.1 K.2 (by decide)
 obtain rfl:=QbJ b3
 refine qu (.pointer (some d7)) (indexAddr (n:=a0.Configs.length) underlying26 sz74 Z Z K.1 K.2 b2) (qu (a74_ (rd a0.Configs a)) (loadMA (cs:=(l74 (rd a0.Configs a))) ag74 sz74 Z hhas36) (We (Al ze74 Z) Z ?_))
 rintro _ _ _ - ⟨rfl,x,rfl,rfl⟩
 refine We (Sg (v:=(a74_ (rd a0.Configs a))) (vl:=(l74 (rd a0.Configs a))) (arr':=(l74 (rd a0.Configs a))) Z sz74 Z Z (onb Z) Z Z Z) Z ?_
 rintro _ _ _ - ⟨rfl,rfl⟩
 refine Ns (qu (a29_ a0 i j b k) (La (cs:=(l29 a0 i j b k)) 2 ag29 sz29 c Z Z) (qu (pt x 0) (Fa QeP Z Z) (qu (Iv ((rd a0.Configs a).Topic)) (Lb 0 pl3 Z Z Z) ?_)))
 obtain ⟨⟨I,J⟩,c5,h⟩:=bnd h
 have P:=P.mono l
 have Q:=Q.mono l
 have R:=R.mono l
 refine We (Ca co96 (QiC a0 ((rd a0.Configs a).Topic) _ _ _ _ _ P Q r R (I,J) c5) (QaS Z Z)) Z ?_
 rintro _ d8 _ y ⟨_,⟨f,rfl,rfl,a2⟩,rfl⟩
 refine WL.a0 (qm (.tuple #[(a50_ I f),(Bv J)]) (qu (a50_ I f) (Xt Z Z) (qu (Bv J) (Xt Z Z) (We (Al ze50 Z) Z ?_))))
 rintro _ _ _ - ⟨rfl,c6,rfl,rfl⟩
 refine We (Sg (v:=(a50_ I f)) (vl:=(l50 I f)) (arr':=(l50 I f)) Z sz50 Z Z (QaX (Oc Z (Oc Z (Oc (RS.one a2) Oz)))) Z Z Z) Z ?_
 rintro _ _ _ - ⟨rfl,rfl⟩
 refine qa (Bv J) (Nt (Cs ?_))
 obtain ⟨b4,c7,h⟩:=bnd h
 refine Jf (fun(b4:Bool) D Y H'=>d8.le Y∧[(c6, .cells (l50 I f).toArray 50 (0,0))]::[(x, .cells (l74 (rd a0.Configs a)).toArray 74 (0,0))]::[(C, .cells #[(Sv ⟨#[]⟩),(Iv 0),(Iv 0)] 36 (0,0))]::[(w, .cells (l29 a0 i j b k).toArray 29 (0,0))]::F=H'∧D 1=(pt w 0)∧D 2=(pt C 0)∧D 3=(Iv a)∧D 4=(pt x 0)∧D 45=(Bv b4)) b4 ?_ ?_
 have h:=c7
 refine Cg (qm (Bv J) (qu (Bv (!J)) (PO.not Z) (qm (Bv (!J)) ?_)))
 rcases Bi h with⟨z,h⟩ |⟨z,h⟩
 refine qo 29 z (pt x 0) (Fa QeP Z Z) (qo 29 z (Iv ((rd a0.Configs a).Topic)) (Lb 1 pl3 Z Z Z) (qo 29 z (Bv (decide (((rd a0.Configs a).Topic)≠0))) (neq Z Z) (qu (Bv (decide (((rd a0.Configs a).Topic)≠0))) (Pt Z z Z) (qm (Bv (decide (((rd a0.Configs a).Topic)≠0))) ?_))))
 rcases Bi h with⟨s,h⟩ |⟨s,h⟩
 iterate 4 refine Of 34 Z Z s Z ?_
 refine qu (Bv true) (Pt Z s Z) (qm (Bv true) ?_)
 iterate 4 refine Of 40 Z Z Z Z ?_
 refine qu (Bv true) (Pt Z Z Z) (Wz ?_)
 obtain rfl:=oi h
 exact Tj ⟨lr,Z,c,m,e,Z,Z⟩
 refine qo 34 s (pt x 1) (Fa QgQ Z Z) (qo 34 s (Sv ((rd a0.Configs a).Key)) (Lb 1 pl9 Z Z Z) (On 34 Z Z s ?_))
 obtain ⟨a3,c8,h⟩:=bnd h
 refine We (Ca co93 (Qg4 ((rd a0.Configs a).Key) _ a3 c8) (Qb2 Z)) Z ?_
 rintro _ e8 _ T ⟨_,⟨rfl,rfl⟩,rfl⟩
 refine WL.a0 (qo 34 s (Bv (!a3)) (PO.not Z) (qu (Bv (!a3)) (Pf Z s Z) (qm (Bv (!a3)) ?_)))
 rcases Bi h with⟨t,h⟩ |⟨t,h⟩
 iterate 4 refine Of 40 Z Z t Z ?_
 refine qu (Bv true) (Pt Z t Z) (Wz ?_)
 obtain rfl:=oi h
 exact Tj ⟨T,Z,c,m,e,Z,Z⟩
 refine qo 40 t (pt x 2) (Fa QgR Z Z) (qo 40 t (Sv ((rd a0.Configs a).Value)) (Lb 1 pl9 Z Z Z) (qo 40 t (Iv (((rd a0.Configs a).Value).size:Int)) (lenStr underlying9 Z) (qo 40 t (Bv (decide ((256:Int)<(((rd a0.Configs a).Value).size:Int)))) (gtr Z Z) (qu (Bv (decide ((256:Int)<(((rd a0.Configs a).Value).size:Int)))) (Pf Z t Z) (Wz ?_)))))
 obtain rfl:=oi h
 exact Tj ⟨T,Z,c,m,e,Z,Z⟩
 iterate 3 refine Of 29 Z Z z Z ?_
 refine qu (Bv false) (Pf Z z Z) (qm (Bv false) (qo 34 Z (pt x 1) (Fa QgQ Z Z) (qo 34 Z (Sv ((rd a0.Configs a).Key)) (Lb 1 pl9 Z Z Z) (On 34 Z Z Z ?_))))
 obtain ⟨a4,c9,h⟩:=bnd h
 refine We (Ca co93 (Qg4 ((rd a0.Configs a).Key) _ a4 c9) (Qb2 Z)) Z ?_
 rintro _ e9 _ U ⟨_,⟨rfl,rfl⟩,rfl⟩
 refine WL.a0 (qo 34 Z (Bv (!a4)) (PO.not Z) (qu (Bv (!a4)) (Pf Z Z Z) (qm (Bv (!a4)) ?_)))
 rcases Bi h with⟨u,h⟩ |⟨u,h⟩
 iterate 4 refine Of 40 Z Z u Z ?_
 refine qu (Bv true) (Pt Z u Z) (Wz ?_)
 obtain rfl:=oi h
 exact Tj ⟨U,Z,c,m,e,Z,Z⟩
 refine qo 40 u (pt x 2) (Fa QgR Z Z) (qo 40 u (Sv ((rd a0.Configs a).Value)) (Lb 1 pl9 Z Z Z) (qo 40 u (Iv (((rd a0.Configs a).Value).size:Int)) (lenStr underlying9 Z) (qo 40 u (Bv (decide ((256:Int)<(((rd a0.Configs a).Value).size:Int)))) (gtr Z Z) (qu (Bv (decide ((256:Int)<(((rd a0.Configs a).Value).size:Int)))) (Pf Z u Z) (Wz ?_)))))
 obtain rfl:=oi h
 exact Tj ⟨U,Z,c,m,e,Z,Z⟩
 rintro f0 d9 f1 ⟨A,rfl,p,o,g,E,V⟩
 refine Ch h V (fun d0 h=> ?_) (fun d0 h=> ?_)
 refine Sr (qM (Iv a) g (qu (.agg #[(Sv ⟨#[99,111,110,102,105,103]⟩),(Iv a),(Iv 2)]) (Bl (cl:=[(Sv ⟨#[99,111,110,102,105,103]⟩),(Iv a),(Iv 2)]) ze36 fp36 (Pc (Sv ⟨#[99,111,110,102,105,103]⟩) Z Z (Pc (Iv a) Z Z (Pc (Iv 2) Z Z Pz))) Z) (Wb (We (Sg (v:=(.agg #[(Sv ⟨#[99,111,110,102,105,103]⟩),(Iv a),(Iv 2)])) (vl:=[(Sv ⟨#[99,111,110,102,105,103]⟩),(Iv a),(Iv 2)]) (arr':=[(Sv ⟨#[99,111,110,102,105,103]⟩),(Iv a),(Iv 2)]) Z sz36 o Z (onb Z) Z Z Z) Z ?_))))
 rintro _ _ _ - ⟨rfl,rfl⟩
 refine Nt (Cr (Tr (Br (Tr ?_))))
 have h:=KK.early h b1
 refine WQ.leaveR (inr ((⟨#[99,111,110,102,105,103]⟩:ByteArray),a,(2:Int))) (oi h).symm (fun B=> ?_)
 subst B
 have h:=(QdZ S)
 refine Br (Tr ?_)
 have h:=KK.early h b0
 exact Qa (Dr (Qa (Dr (Qa (Dr (Rd h [] (fun _ hs=>hs.drop) (QbA Z (Rc (cs:=[(Sv ⟨#[99,111,110,102,105,103]⟩),(Iv a),(Iv 2)]) 0 ag36 sz36 o Z Z)) ((l.trans y).trans A) ⟨Z,Z⟩))))))
 refine Ck (Tc (Cs (Sr (qM (Iv a) g (qu (Bv (decide (a=0))) (eql Z Z) (Nt (Ch h Z (fun d1 h=> ?_) (fun d1 h=> ?_))))))))
 exact WC.exit (WQ.thenE (WQ.blockH (Dr (Dr (WQ.thenFE h ⟨(y.trans A),Z,p,o,g⟩)))))
 refine Ck (Tc (Sr (qu (pt w 2) (Fa QdY p Z) (qu b (Lb 3 pl26 Z Z Z) (qM (Iv a) g (qu (Iv (i64.wrap (a - 1))) (PO.sub Z Z) ?_))))))
 obtain ⟨L,h⟩:=Qa1 h
 have r:=r.mono (y.trans A)
 obtain ⟨e0,e2,b5,b6,hhas70⟩:=r.at L.1 L.2 (by decide)
 obtain rfl:=QbJ b6
 refine qu (.pointer (some e0)) (indexAddr (n:=a0.Configs.length) underlying26 sz74 Z Z L.1 L.2 b5) (qu (a74_ (rd a0.Configs (i64.wrap (a - 1)))) (loadMA (cs:=(l74 (rd a0.Configs (i64.wrap (a - 1))))) ag74 sz74 Z hhas70) (We (Al ze74 Z) Z ?_))
 rintro _ _ _ - ⟨rfl,a5,rfl,rfl⟩
 refine We (Sg (v:=(a74_ (rd a0.Configs (i64.wrap (a - 1))))) (vl:=(l74 (rd a0.Configs (i64.wrap (a - 1))))) (arr':=(l74 (rd a0.Configs (i64.wrap (a - 1))))) Z sz74 Z Z (onb Z) Z Z Z) Z ?_
 rintro _ _ _ - ⟨rfl,rfl⟩
 refine Nt ?_
 obtain ⟨b7,d2,h⟩:=bnd h
 refine Jf (fun(b7:Bool) D Y H'=>d9.le Y∧[(a5, .cells (l74 (rd a0.Configs (i64.wrap (a - 1)))).toArray 74 (0,0))]::[(c6, .cells (l50 I f).toArray 50 (0,0))]::[(x, .cells (l74 (rd a0.Configs a)).toArray 74 (0,0))]::[(C, .cells #[(Sv ⟨#[]⟩),(Iv 0),(Iv 0)] 36 (0,0))]::[(w, .cells (l29 a0 i j b k).toArray 29 (0,0))]::F=H'∧D 1=(pt w 0)∧D 2=(pt C 0)∧D 3=(Iv a)∧D 74=(Bv b7)) b7 ?_ ?_
 have h:=d2
 refine Cg (qu (pt a5 0) (Fa QeP Z Z) (qu (Iv ((rd a0.Configs (i64.wrap (a - 1))).Topic)) (Lb 0 pl3 Z Z Z) (qu (pt x 0) (Fa QeP E Z) (qu (Iv ((rd a0.Configs a).Topic)) (Lb 2 pl3 Z Z Z) (qu (Bv (decide (((rd a0.Configs a).Topic)<((rd a0.Configs (i64.wrap (a - 1))).Topic)))) (gtr Z Z) (qm (Bv (decide (((rd a0.Configs a).Topic)<((rd a0.Configs (i64.wrap (a - 1))).Topic)))) ?_))))))
 rcases Bi h with⟨d,h⟩ |⟨d,h⟩
 iterate 6 refine Of 61 Z Z d Z ?_
 refine WL.offU 67 Z Z Z (WL.offU 67 Z Z Z (WL.offU 67 Z Z Z (WL.offU 67 Z Z Z (WL.offU 67 Z Z Z (Of 61 Z Z d Z (qu (Bv true) (Pt Z d Z) (Wz ?_)))))))
 obtain rfl:=oi h
 exact Tj ⟨lr,Z,p,o,g,Z⟩
 refine qo 61 d (pt a5 0) (Fa QeP Z Z) (qo 61 d (Iv ((rd a0.Configs (i64.wrap (a - 1))).Topic)) (Lb 0 pl3 Z Z Z) (qo 61 d (pt x 0) (Fa QeP E Z) (qo 61 d (Iv ((rd a0.Configs a).Topic)) (Lb 2 pl3 Z Z Z) (qo 61 d (Bv (decide (((rd a0.Configs (i64.wrap (a - 1))).Topic)=((rd a0.Configs a).Topic)))) (eql Z Z) (On 61 Z Z d (qm (Bv (decide (((rd a0.Configs (i64.wrap (a - 1))).Topic)=((rd a0.Configs a).Topic)))) ?_))))))
 rcases Bi h with⟨q,h⟩ |⟨q,h⟩
 refine qo 67 q (pt a5 1) (Fa QgQ Z Z) (qo 67 q (Sv ((rd a0.Configs (i64.wrap (a - 1))).Key)) (Lb 0 pl9 Z Z Z) (qo 67 q (pt x 1) (Fa QgQ E Z) (qo 67 q (Sv ((rd a0.Configs a).Key)) (Lb 2 pl9 Z Z Z) (qo 67 q (Bv (!Op.bytesLess ((rd a0.Configs (i64.wrap (a - 1))).Key).toList ((rd a0.Configs a).Key).toList)) (sgeq Z Z) (qo 61 d (Bv (!Op.bytesLess ((rd a0.Configs (i64.wrap (a - 1))).Key).toList ((rd a0.Configs a).Key).toList)) (Pt Z q Z) (qu (Bv (!Op.bytesLess ((rd a0.Configs (i64.wrap (a - 1))).Key).toList ((rd a0.Configs a).Key).toList)) (Pf Z d Z) (Wz ?_)))))))
 obtain rfl:=oi h
 exact Tj ⟨lr,Z,p,o,g,Z⟩
 iterate 5 refine Of 67 Z Z q Z ?_
 refine qo 61 d (Bv false) (Pf Z q Z) (qu (Bv false) (Pf Z d Z) (Wz ?_))
 obtain rfl:=oi h
 exact Tj ⟨lr,Z,p,o,g,Z⟩
 rintro f2 f4 f5 ⟨W,rfl,a6,G,N,X⟩
 refine Ch h X (fun d3 h=> ?_) (fun d3 h=> ?_)
 refine Sr (qM (Iv a) N (qu (.agg #[(Sv ⟨#[99,111,110,102,105,103]⟩),(Iv a),(Iv 10)]) (Bl (cl:=[(Sv ⟨#[99,111,110,102,105,103]⟩),(Iv a),(Iv 10)]) ze36 fp36 (Pc (Sv ⟨#[99,111,110,102,105,103]⟩) Z Z (Pc (Iv a) Z Z (Pc (Iv 10) Z Z Pz))) Z) (WL.f3 (We (Sg (v:=(.agg #[(Sv ⟨#[99,111,110,102,105,103]⟩),(Iv a),(Iv 10)])) (vl:=[(Sv ⟨#[99,111,110,102,105,103]⟩),(Iv a),(Iv 10)]) (arr':=[(Sv ⟨#[99,111,110,102,105,103]⟩),(Iv a),(Iv 10)]) Z sz36 G Z (onb Z) Z Z Z) Z ?_))))
 rintro _ _ _ - ⟨rfl,rfl⟩
 refine Nt (Cr (Br (Tr ?_)))
 have h:=KK.early h b1
 refine WQ.leaveR (inr ((⟨#[99,111,110,102,105,103]⟩:ByteArray),a,(10:Int))) (oi h).symm (fun B=> ?_)
 subst B
 have h:=(QdZ S)
 refine Br (Tr ?_)
 have h:=KK.early h b0
 exact Qa (Dr (Qa (Dr (Qa (Dr (Qa (Dr (Rd h [] (fun _ hs=>hs.drop) (QbA Z (Rc (cs:=[(Sv ⟨#[99,111,110,102,105,103]⟩),(Iv a),(Iv 10)]) 0 ag36 sz36 G Z Z)) (((l.trans y).trans A).trans W) ⟨Z,Z⟩))))))))
 exact Ck (Bn (Dr (Dr (Dr (WQ.thenFE h ⟨((y.trans A).trans W),Z,a6,G,N⟩)))))
 rintro _ f6 f7 f8 rfl ⟨b8,rfl,a7,a8,a9⟩
 have h:=(Sum.elim_inl _ _ _).symm.trans h
 exact Cg (qM (Iv a) a9 (qu (Iv (i64.wrap (a+1))) (add Z Z) (qa (Iv (i64.wrap (a+1))) (Wz (WQ.again (i64.wrap (a+1)) (oi h).symm ⟨(l.trans b8),Z,a7,a8,Z⟩)))))
 refine WC.exit (WQ.thenE (WQ.leaveE (inl ()) (oi h).symm (fun B=> ?_)))
 subst B
 have h:=QeV S
 exact WQ.blockH (WQ.thenFE h ⟨l,Z,m⟩)
 rintro _ f9 g0 g1 rfl ⟨b9,rfl,O⟩
 have h:=(Sum.elim_inl _ _ _).symm.trans h
 refine Sr (qu (.agg #[(Sv ⟨#[]⟩),(Iv 0),(Iv 0)]) (Bl (cl:=[(Sv ⟨#[]⟩),(Iv 0),(Iv 0)]) ze36 fp36 Pz Z) (We (Sg (v:=(.agg #[(Sv ⟨#[]⟩),(Iv 0),(Iv 0)])) (vl:=[(Sv ⟨#[]⟩),(Iv 0),(Iv 0)]) (arr':=[(Sv ⟨#[]⟩),(Iv 0),(Iv 0)]) Z sz36 O Z (onb Z) Z Z Z) Z ?_))
 rintro _ _ _ - ⟨rfl,rfl⟩
 exact Nt (Cr (Qa (Dr (Rd h [] (fun _ hs=>hs.drop) (QbA Z (Rc (cs:=[(Sv ⟨#[]⟩),(Iv 0),(Iv 0)]) 0 ag36 sz36 O Z Z)) b9 ⟨Z,Z⟩))))

end Go.Proofs.YtfkmkgpoddbbfaaGreatDoor.G
