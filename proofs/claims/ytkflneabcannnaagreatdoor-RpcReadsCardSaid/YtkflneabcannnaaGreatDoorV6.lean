/- Go functions: what they come to, and that they do. Printed by a program of the session (gen). -/
import Derived.Test.YtkflneabcannnaaGreatDoorVF
import Derived.Test.YtkflneabcannnaaGreatDoorV5
import Derived.Test.YtkflneabcannnaaGreatDoorKConv
import Derived.Test.YtkflneabcannnaaGreatDoorKShar2
import Derived.Test.YtkflneabcannnaaGreatDoorKTight2
set_option linter.unusedVariables false
set_option linter.unusedSimpArgs false
set_option maxHeartbeats 8000000
set_option maxRecDepth 100000
namespace Go.Proofs.YtkflneabcannnaaGreatDoor.G
open Go Go.KK
open PO EO IntKind Sum Tryz

noncomputable def f_ref05_Cursor_Int (a0:T_ref05_Cursor) (a1:Int):Option (Int×Int×Int×ByteArray×Int):=
 ((((f_ref02_Read a0.B a0.S (⟨(1:Int),a1,(0:Int)⟩:T_ref02_Ask)).bind fun(c,a)=>(some (c,a.Num,a.Flag,a.Text,a.Row))):Option (T_ref02_State×Int×Bool×(List Int)×(List Int))).bind fun(b,d,e,f,g)=>(some (i64.wrap d,b.At,b.Code,b.Op,b.Where)))
def f_ref05_Cursor_Int_post (a0:T_ref05_Cursor) (a1:Int) (a:Value) (b:Nat):(Int×Int×Int×ByteArray×Int)→Value→IM→HL→Prop:=
 fun(p_:(Int×Int×Int×ByteArray×Int)) (v:Value) (M':IM) (H':HL)=>match p_ with |(c,d,e,f,g)=>(.int .i64 c)=v∧H'=[[(b, .cells #[a,(.int .i64 d),(.int .i64 e),(.string f),(.int .i64 g)] 98 (0,0))]]
theorem f_ref05_Cursor_Int_ok (a0:T_ref05_Cursor) (a1:Int) (M:IM) (o:Value) (s:Nat) (r:RS (Kd.int .u8) M o a0.B) (res:(Int×Int×Int×ByteArray×Int)) (h:f_ref05_Cursor_Int a0 a1=some res):
 Tri prog 58 #[(pt s 0),(Iv a1)] M [[(s, .cells (l98 a0 o).toArray 98 (0,0))]] (f_ref05_Cursor_Int_post a0 a1 o s res):=by
 unfold f_ref05_Cursor_Int at h
 refine Te func58 Z Z ?_
 intro F ρ hρ
 refine Sr (qa (Iv 0) (Nt ?_))
 obtain ⟨b2,b3,h⟩:=bnd h
 refine Jf (fun(p_:(T_ref02_State×Int×Bool×(List Int)×(List Int))) ρ' M' H'=>match p_ with |(l,P,b4,b5,b6)=>∃ a6 V Q R T,M.le M'∧[(s, .cells (l98 a0 o).toArray 98 (0,0))]::[(a6, .cells (l96 l).toArray 96 (0,0))]::[(V, .cells #[(Uv P),(Bv b4),Q,R] 130 (0,0))]::T::F=H'∧ρ' 0=(pt s 0)∧ρ' 5=(pt a6 0)∧ρ' 6=(pt V 0)∧RS (Kd.int .u8) M' Q b5∧OwnS (Kd.int .i64) M' R b6 T) b2 ?_ ?_
 have h:=b3
 refine WC.draw [0,1,3,7,0,16,48,112,0,256,1023,2047,4095,4095,0,0,57343,131071] (.pure 0 (.pure 1 (.pure 2 (.pure 3 (.pure 4 (.pure 5 (.pure 6 (.pure 7 (.pure 8 (.pure 9 (.alt 10 (.pure 11 (.pure 12 (.pure 13 (.alt 14 (.alt 15 (.alt 16 (.alt 17 .done .none) .none) .none) (.alt 15 (.alt 14 (.alt 16 (.alt 17 .done .none) .none) .none) .none))))) (.alt 14 (.alt 10 (.pure 11 (.pure 12 (.pure 13 (.alt 15 (.alt 16 (.alt 17 .done .none) .none) .none)))) (.alt 15 (.alt 10 (.pure 11 (.pure 12 (.pure 13 (.alt 16 (.alt 17 .done .none) .none)))) .none) .none)) (.alt 15 (.alt 10 (.pure 11 (.pure 12 (.pure 13 (.alt 14 (.alt 16 (.alt 17 .done .none) .none) .none)))) (.alt 14 (.alt 10 (.pure 11 (.pure 12 (.pure 13 (.alt 16 (.alt 17 .done .none) .none)))) .none) .none)) .none))))))))))))) mixed (by kernel_rfl) (qt (pt s 0) Z (Mv (hρ 0)) (qt (pt s 0) Z (Nk Z) (qt (pt s 0) Z (Fa fo98_0 Z Z) (qt o Z (Lb 0 pl23 Z Z Z) (qt (pt s 0) Z (Mv (hρ 0)) (qt (pt s 0) Z (Nk Z) (qt (pt s 1) Z (Fa fo98_1 Z Z) (qt (a96_ a0.S) Z (La (cs:=(l96 a0.S)) 0 ag96 sz96 Z Z Z) (qt (Iv a1) Z (Mv (hρ 1)) (qt (.agg #[(Iv 1),(Iv a1),(Iv 0)]) Z (Bl (cl:=[(Iv 1),(Iv a1),(Iv 0)]) ze134 fp134 (Pc (Iv 1) Z Z (Pc (Iv a1) Z Z Pz)) Z) ?_))))))))))
 have b7:=h
 obtain ⟨⟨p,q⟩,b8,h⟩:=bnd h
 refine Ta Z (Ca co86 (f_ref02_Read_ok a0.B a0.S (⟨(1:Int),a1,(0:Int)⟩:T_ref02_Ask) _ _ r (p,q) b8) (args3 Z Z Z)) Z ?_ ?_
 rintro _ d9 _ U ⟨_,⟨a,b,t,rfl,rfl,m,n⟩,rfl⟩
 refine⟨(Sl Z), ?_⟩
 refine WT.a1 (qt (.tuple #[(a96_ p),(a130_ q a b)]) Z (Mv Z) (qt (a96_ p) Z (Xt Z Z) (qt (a130_ q a b) Z (Xt Z Z) ?_)))
 have b9:=h
 refine Ta Z (Al ze96 Z) Z ?_ ?_
 rintro _ _ _ - ⟨rfl,c9,rfl,rfl⟩
 refine⟨(Ss Z (Xt Z Z) Z (Ss Z (Xt Z Z) Z (Ss Z (Mv Z) Z (Ss Z (Bl (cl:=[(Iv 1),(Iv a1),(Iv 0)]) ze134 fp134 (Pc (Iv 1) Z Z (Pc (Iv a1) Z Z Pz)) Z) Z (Ss Z (Mv (hρ 1)) Z (Ss Z (La (cs:=(l96 a0.S)) 2 ag96 sz96 Z Z Z) Z (Ss Z (Fa fo98_1 Z Z) Z (Ss Z (Nk Z) Z (Ss Z (Mv (hρ 0)) Z (Ss Z (Lb 2 pl23 Z Z Z) Z (Ss Z (Fa fo98_0 Z Z) Z (Ss Z (Nk Z) Z (Ss Z (Mv (hρ 0)) Z trivial))))))))))))), ?_⟩
 refine Ta Z (Al ze130 Z) Z ?_ ?_
 rintro _ _ _ - ⟨rfl,d0,rfl,rfl⟩
 refine⟨(Ss Z (Xt Z Z) Z (Ss Z (Xt Z Z) Z (Ss Z (Mv Z) Z (Ss Z (Bl (cl:=[(Iv 1),(Iv a1),(Iv 0)]) ze134 fp134 (Pc (Iv 1) Z Z (Pc (Iv a1) Z Z Pz)) Z) Z (Ss Z (Mv (hρ 1)) Z (Ss Z (La (cs:=(l96 a0.S)) 3 ag96 sz96 Z Z Z) Z (Ss Z (Fa fo98_1 Z Z) Z (Ss Z (Nk Z) Z (Ss Z (Mv (hρ 0)) Z (Ss Z (Lb 3 pl23 Z Z Z) Z (Ss Z (Fa fo98_0 Z Z) Z (Ss Z (Nk Z) Z (Ss Z (Mv (hρ 0)) Z trivial))))))))))))), ?_⟩
 refine WT.f1 (Ta Z (Sg (v:=(a96_ p)) (vl:=(l96 p)) (arr':=(l96 p)) Z sz96 Z Z (onb Z) Z Z Z) Z ?_ ?_)
 rintro _ _ _ - ⟨rfl,rfl⟩
 refine⟨(Ss Z (Xt Z Z) Z (Sl Z)), ?_⟩
 refine WT.f1 (Ta Z (Sg (v:=(a130_ q a b)) (vl:=(l130 q a b)) (arr':=(l130 q a b)) Z sz130 Z Z (onesOf (Oc Z (Oc Z (Oc (RS.one m) (Oc (Ow n) Oz))))) Z Z Z) Z ?_ ?_)
 rintro _ _ _ - ⟨rfl,rfl⟩
 refine⟨(Sl Z), ?_⟩
 refine Ti (Qb (Qa (Qb (WQ.f3 ?_))))
 obtain rfl:=oi h
 exact Tj ⟨c9,d0,a,b,t,U,Z,(hρ 0),Z,Z,m,n⟩
 exact Tz
 exact Tz
 exact Tz
 have h:=b9
 refine Ta Z (Al ze130 Z) Z ?_ ?_
 rintro _ _ _ - ⟨rfl,d1,rfl,rfl⟩
 refine⟨(Ss Z (Xt Z Z) Z (Ss Z (Xt Z Z) Z (Ss Z (Mv Z) Z (Ss Z (Bl (cl:=[(Iv 1),(Iv a1),(Iv 0)]) ze134 fp134 (Pc (Iv 1) Z Z (Pc (Iv a1) Z Z Pz)) Z) Z (Ss Z (Mv (hρ 1)) Z (Ss Z (La (cs:=(l96 a0.S)) 2 ag96 sz96 Z Z Z) Z (Ss Z (Fa fo98_1 Z Z) Z (Ss Z (Nk Z) Z (Ss Z (Mv (hρ 0)) Z (Ss Z (Lb 2 pl23 Z Z Z) Z (Ss Z (Fa fo98_0 Z Z) Z (Ss Z (Nk Z) Z (Ss Z (Mv (hρ 0)) Z trivial))))))))))))), ?_⟩
 refine Ta Z (Al ze96 Z) Z ?_ ?_
 rintro _ _ _ - ⟨rfl,d2,rfl,rfl⟩
 refine⟨(Ss Z (Xt Z Z) Z (Ss Z (Xt Z Z) Z (Ss Z (Mv Z) Z (Ss Z (Bl (cl:=[(Iv 1),(Iv a1),(Iv 0)]) ze134 fp134 (Pc (Iv 1) Z Z (Pc (Iv a1) Z Z Pz)) Z) Z (Ss Z (Mv (hρ 1)) Z (Ss Z (La (cs:=(l96 a0.S)) 3 ag96 sz96 Z Z Z) Z (Ss Z (Fa fo98_1 Z Z) Z (Ss Z (Nk Z) Z (Ss Z (Mv (hρ 0)) Z (Ss Z (Lb 3 pl23 Z Z Z) Z (Ss Z (Fa fo98_0 Z Z) Z (Ss Z (Nk Z) Z (Ss Z (Mv (hρ 0)) Z trivial))))))))))))), ?_⟩
 refine Ta Z (Sg (v:=(a96_ p)) (vl:=(l96 p)) (arr':=(l96 p)) Z sz96 Z Z (onb Z) Z Z Z) Z ?_ ?_
 rintro _ _ _ - ⟨rfl,rfl⟩
 refine⟨(Ss Z (Xt Z Z) Z (Sl Z)), ?_⟩
 refine WT.f1 (Ta Z (Sg (v:=(a130_ q a b)) (vl:=(l130 q a b)) (arr':=(l130 q a b)) Z sz130 Z Z (onesOf (Oc Z (Oc Z (Oc (RS.one m) (Oc (Ow n) Oz))))) Z Z Z) Z ?_ ?_)
 rintro _ _ _ - ⟨rfl,rfl⟩
 refine⟨(Sl Z), ?_⟩
 refine Ti (Qb (Qa (Qb (WQ.f3 ?_))))
 obtain rfl:=oi h
 exact Tj ⟨d2,d1,a,b,t,U,Z,(hρ 0),Z,Z,m,n⟩
 exact Tz
 exact Tz
 exact Tz
 exact Tz
 have h:=b7
 have c0:=h
 refine Ta Z (Al ze96 Z) Z ?_ ?_
 rintro _ _ _ - ⟨rfl,c1,rfl,rfl⟩
 refine⟨(Ss Z (Bl (cl:=[(Iv 1),(Iv a1),(Iv 0)]) ze134 fp134 (Pc (Iv 1) Z Z (Pc (Iv a1) Z Z Pz)) Z) Z (Ss Z (Mv (hρ 1)) Z (Ss Z (La (cs:=(l96 a0.S)) 1 ag96 sz96 Z Z Z) Z (Ss Z (Fa fo98_1 Z Z) Z (Ss Z (Nk Z) Z (Ss Z (Mv (hρ 0)) Z (Ss Z (Lb 1 pl23 Z Z Z) Z (Ss Z (Fa fo98_0 Z Z) Z (Ss Z (Nk Z) Z (Ss Z (Mv (hρ 0)) Z trivial)))))))))), ?_⟩
 have c2:=h
 obtain ⟨⟨E,G⟩,c3,h⟩:=bnd h
 refine Ta Z (Ca co86 (f_ref02_Read_ok a0.B a0.S (⟨(1:Int),a1,(0:Int)⟩:T_ref02_Ask) _ _ r (E,G) c3) (args3 Z Z Z)) Z ?_ ?_
 rintro _ e0 _ a7 ⟨_,⟨c,d,W,rfl,rfl,u,w⟩,rfl⟩
 refine⟨(Sl Z), ?_⟩
 refine WT.a1 (qt (.tuple #[(a96_ E),(a130_ G c d)]) Z (Mv Z) (qt (a96_ E) Z (Xt Z Z) (qt (a130_ G c d) Z (Xt Z Z) (Ta Z (Al ze130 Z) Z ?_ ?_))))
 rintro _ _ _ - ⟨rfl,d3,rfl,rfl⟩
 refine⟨(Ss Z (Xt Z Z) Z (Ss Z (Xt Z Z) Z (Ss Z (Mv Z) Z (Ss Z (Bl (cl:=[(Iv 1),(Iv a1),(Iv 0)]) ze134 fp134 (Pc (Iv 1) Z Z (Pc (Iv a1) Z Z Pz)) Z) Z (Ss Z (Mv (hρ 1)) Z (Ss Z (La (cs:=(l96 a0.S)) 3 ag96 sz96 Z Z Z) Z (Ss Z (Fa fo98_1 Z Z) Z (Ss Z (Nk Z) Z (Ss Z (Mv (hρ 0)) Z (Ss Z (Lb 3 pl23 Z Z Z) Z (Ss Z (Fa fo98_0 Z Z) Z (Ss Z (Nk Z) Z (Ss Z (Mv (hρ 0)) Z trivial))))))))))))), ?_⟩
 refine WT.f2 (Ta Z (Sg (v:=(a96_ E)) (vl:=(l96 E)) (arr':=(l96 E)) Z sz96 Z Z (onb Z) Z Z Z) Z ?_ ?_)
 rintro _ _ _ - ⟨rfl,rfl⟩
 refine⟨(Ss Z (Xt Z Z) Z (Sl Z)), ?_⟩
 refine WT.f1 (Ta Z (Sg (v:=(a130_ G c d)) (vl:=(l130 G c d)) (arr':=(l130 G c d)) Z sz130 Z Z (onesOf (Oc Z (Oc Z (Oc (RS.one u) (Oc (Ow w) Oz))))) Z Z Z) Z ?_ ?_)
 rintro _ _ _ - ⟨rfl,rfl⟩
 refine⟨(Sl Z), ?_⟩
 refine Ti (Qb (Qa (Qb (WQ.f3 ?_))))
 obtain rfl:=oi h
 exact Tj ⟨c1,d3,c,d,W,a7,Z,(hρ 0),Z,Z,u,w⟩
 exact Tz
 exact Tz
 exact Tz
 have h:=c2
 refine Ta Z (Al ze130 Z) Z ?_ ?_
 rintro _ _ _ - ⟨rfl,d4,rfl,rfl⟩
 refine⟨(Ss Z (Bl (cl:=[(Iv 1),(Iv a1),(Iv 0)]) ze134 fp134 (Pc (Iv 1) Z Z (Pc (Iv a1) Z Z Pz)) Z) Z (Ss Z (Mv (hρ 1)) Z (Ss Z (La (cs:=(l96 a0.S)) 2 ag96 sz96 Z Z Z) Z (Ss Z (Fa fo98_1 Z Z) Z (Ss Z (Nk Z) Z (Ss Z (Mv (hρ 0)) Z (Ss Z (Lb 2 pl23 Z Z Z) Z (Ss Z (Fa fo98_0 Z Z) Z (Ss Z (Nk Z) Z (Ss Z (Mv (hρ 0)) Z trivial)))))))))), ?_⟩
 obtain ⟨⟨I,J⟩,c4,h⟩:=bnd h
 refine Ta Z (Ca co86 (f_ref02_Read_ok a0.B a0.S (⟨(1:Int),a1,(0:Int)⟩:T_ref02_Ask) _ _ r (I,J) c4) (args3 Z Z Z)) Z ?_ ?_
 rintro _ e1 _ a8 ⟨_,⟨e,f,X,rfl,rfl,x,y⟩,rfl⟩
 refine⟨(Sl Z), ?_⟩
 refine WT.a1 (qt (.tuple #[(a96_ I),(a130_ J e f)]) Z (Mv Z) (qt (a96_ I) Z (Xt Z Z) (qt (a130_ J e f) Z (Xt Z Z) (WT.f2 (Ta Z (Sg (v:=(a96_ I)) (vl:=(l96 I)) (arr':=(l96 I)) Z sz96 Z Z (onb Z) Z Z Z) Z ?_ ?_)))))
 rintro _ _ _ - ⟨rfl,rfl⟩
 refine⟨(Ss Z (Xt Z Z) Z (Sl Z)), ?_⟩
 refine WT.f2 (Ta Z (Sg (v:=(a130_ J e f)) (vl:=(l130 J e f)) (arr':=(l130 J e f)) Z sz130 Z Z (onesOf (Oc Z (Oc Z (Oc (RS.one x) (Oc (Ow y) Oz))))) Z Z Z) Z ?_ ?_)
 rintro _ _ _ - ⟨rfl,rfl⟩
 refine⟨(Sl Z), ?_⟩
 refine Ti (Qb (Qa (Qb (WQ.f3 ?_))))
 obtain rfl:=oi h
 exact Tj ⟨c1,d4,e,f,X,a8,Z,(hρ 0),Z,Z,x,y⟩
 exact Tz
 exact Tz
 exact Tz
 exact Tz
 have h:=c0
 refine Ta Z (Al ze130 Z) Z ?_ ?_
 rintro _ _ _ - ⟨rfl,c5,rfl,rfl⟩
 refine⟨(Ss Z (Bl (cl:=[(Iv 1),(Iv a1),(Iv 0)]) ze134 fp134 (Pc (Iv 1) Z Z (Pc (Iv a1) Z Z Pz)) Z) Z (Ss Z (Mv (hρ 1)) Z (Ss Z (La (cs:=(l96 a0.S)) 1 ag96 sz96 Z Z Z) Z (Ss Z (Fa fo98_1 Z Z) Z (Ss Z (Nk Z) Z (Ss Z (Mv (hρ 0)) Z (Ss Z (Lb 1 pl23 Z Z Z) Z (Ss Z (Fa fo98_0 Z Z) Z (Ss Z (Nk Z) Z (Ss Z (Mv (hρ 0)) Z trivial)))))))))), ?_⟩
 have c6:=h
 obtain ⟨⟨K,L⟩,c7,h⟩:=bnd h
 refine Ta Z (Ca co86 (f_ref02_Read_ok a0.B a0.S (⟨(1:Int),a1,(0:Int)⟩:T_ref02_Ask) _ _ r (K,L) c7) (args3 Z Z Z)) Z ?_ ?_
 rintro _ e2 _ a9 ⟨_,⟨g,i,Y,rfl,rfl,z,A⟩,rfl⟩
 refine⟨(Sl Z), ?_⟩
 refine WT.a1 (qt (.tuple #[(a96_ K),(a130_ L g i)]) Z (Mv Z) (qt (a96_ K) Z (Xt Z Z) (qt (a130_ L g i) Z (Xt Z Z) (Ta Z (Al ze96 Z) Z ?_ ?_))))
 rintro _ _ _ - ⟨rfl,d5,rfl,rfl⟩
 refine⟨(Ss Z (Xt Z Z) Z (Ss Z (Xt Z Z) Z (Ss Z (Mv Z) Z (Ss Z (Bl (cl:=[(Iv 1),(Iv a1),(Iv 0)]) ze134 fp134 (Pc (Iv 1) Z Z (Pc (Iv a1) Z Z Pz)) Z) Z (Ss Z (Mv (hρ 1)) Z (Ss Z (La (cs:=(l96 a0.S)) 3 ag96 sz96 Z Z Z) Z (Ss Z (Fa fo98_1 Z Z) Z (Ss Z (Nk Z) Z (Ss Z (Mv (hρ 0)) Z (Ss Z (Lb 3 pl23 Z Z Z) Z (Ss Z (Fa fo98_0 Z Z) Z (Ss Z (Nk Z) Z (Ss Z (Mv (hρ 0)) Z trivial))))))))))))), ?_⟩
 refine Ta Z (Sg (v:=(a96_ K)) (vl:=(l96 K)) (arr':=(l96 K)) Z sz96 Z Z (onb Z) Z Z Z) Z ?_ ?_
 rintro _ _ _ - ⟨rfl,rfl⟩
 refine⟨(Ss Z (Xt Z Z) Z (Sl Z)), ?_⟩
 refine WT.f2 (Ta Z (Sg (v:=(a130_ L g i)) (vl:=(l130 L g i)) (arr':=(l130 L g i)) Z sz130 Z Z (onesOf (Oc Z (Oc Z (Oc (RS.one z) (Oc (Ow A) Oz))))) Z Z Z) Z ?_ ?_)
 rintro _ _ _ - ⟨rfl,rfl⟩
 refine⟨(Sl Z), ?_⟩
 refine Ti (Qb (Qa (Qb (WQ.f3 ?_))))
 obtain rfl:=oi h
 exact Tj ⟨d5,c5,g,i,Y,a9,Z,(hρ 0),Z,Z,z,A⟩
 exact Tz
 exact Tz
 exact Tz
 have h:=c6
 refine Ta Z (Al ze96 Z) Z ?_ ?_
 rintro _ _ _ - ⟨rfl,d6,rfl,rfl⟩
 refine⟨(Ss Z (Bl (cl:=[(Iv 1),(Iv a1),(Iv 0)]) ze134 fp134 (Pc (Iv 1) Z Z (Pc (Iv a1) Z Z Pz)) Z) Z (Ss Z (Mv (hρ 1)) Z (Ss Z (La (cs:=(l96 a0.S)) 2 ag96 sz96 Z Z Z) Z (Ss Z (Fa fo98_1 Z Z) Z (Ss Z (Nk Z) Z (Ss Z (Mv (hρ 0)) Z (Ss Z (Lb 2 pl23 Z Z Z) Z (Ss Z (Fa fo98_0 Z Z) Z (Ss Z (Nk Z) Z (Ss Z (Mv (hρ 0)) Z trivial)))))))))), ?_⟩
 obtain ⟨⟨N,O⟩,c8,h⟩:=bnd h
 refine Ta Z (Ca co86 (f_ref02_Read_ok a0.B a0.S (⟨(1:Int),a1,(0:Int)⟩:T_ref02_Ask) _ _ r (N,O) c8) (args3 Z Z Z)) Z ?_ ?_
 rintro _ e3 _ b0 ⟨_,⟨j,k,a2,rfl,rfl,C,D⟩,rfl⟩
 refine⟨(Sl Z), ?_⟩
 refine WT.a1 (qt (.tuple #[(a96_ N),(a130_ O j k)]) Z (Mv Z) (qt (a96_ N) Z (Xt Z Z) (qt (a130_ O j k) Z (Xt Z Z) (WT.f1 (Ta Z (Sg (v:=(a96_ N)) (vl:=(l96 N)) (arr':=(l96 N)) Z sz96 Z Z (onb Z) Z Z Z) Z ?_ ?_)))))
 rintro _ _ _ - ⟨rfl,rfl⟩
 refine⟨(Ss Z (Xt Z Z) Z (Sl Z)), ?_⟩
 refine WT.f2 (Ta Z (Sg (v:=(a130_ O j k)) (vl:=(l130 O j k)) (arr':=(l130 O j k)) Z sz130 Z Z (onesOf (Oc Z (Oc Z (Oc (RS.one C) (Oc (Ow D) Oz))))) Z Z Z) Z ?_ ?_)
 rintro _ _ _ - ⟨rfl,rfl⟩
 refine⟨(Sl Z), ?_⟩
 refine Ti (Qb (Qa (Qb (WQ.f3 ?_))))
 obtain rfl:=oi h
 exact Tj ⟨d6,c5,j,k,a2,b0,Z,(hρ 0),Z,Z,C,D⟩
 exact Tz
 exact Tz
 exact Tz
 exact Tz
 exact Tz
 obtain ⟨l,P,b4,b5,b6⟩:=b2
 rintro e4 e5 e6 ⟨a6,V,Q,R,T,b1,rfl,a3,a4,a5,d7,d8⟩
 refine Sr (qM (pt s 0) a3 (qu (a96_ l) (La (cs:=(l96 l)) 1 ag96 sz96 a4 Z Z) (qu (pt s 0) (Nk Z) (qu (pt s 1) (Fa fo98_1 Z Z) (We (Sg (v:=(a96_ l)) (vl:=(l96 l)) (arr':=[o,(Iv l.At),(Iv l.Code),(Sv l.Op),(Iv l.Where)]) Z sz96 Z Z (onb Z) Z Z Z) Z ?_)))))
 rintro _ _ _ - ⟨rfl,rfl⟩
 refine Ns (qu (pt V 0) (Fa fo130_0 a5 Z) (qu (Uv P) (Lb 2 pl105 Z Z Z) (qu (Iv (i64.wrap P)) (conv us105 underlying3 Z) (qa (Iv (i64.wrap P)) (Nt (Cr (Qa (Dr (Qa (Dr (Qa ?_)))))))))))
 exact Dr (Rf h [[(s, .cells #[o,(Iv l.At),(Iv l.Code),(Sv l.Op),(Iv l.Where)] 98 (0,0))]] Z (Rs Z Z) b1 ⟨Z,Z⟩)
noncomputable def f_ref07_has_l0 (a1:Int) (b:ByteArray) (s_:Int):Option (Int⊕(Unit⊕Unit)):=
 match s_ with
 |a=>
 (if(decide (a<(b.size:Int)))=true then(grd (0≤a∧a<b.size) (if(decide ((btAt b a)=a1))=true then(some (inr (inr ())))else(some (inl (i64.wrap (a+(1:Int)))))))else(some (inr (inl ()))))
noncomputable def f_ref07_has (a0:Int) (a1:Int):Option Bool:=
 (((if(decide (a0=(1:Int)))=true then(some (⟨#[97,112]⟩:ByteArray))else(if(decide (a0=(2:Int)))=true then(some (⟨#[97,103,108]⟩:ByteArray))else(if(decide (a0=(3:Int)))=true then(some (⟨#[112]⟩:ByteArray))else(if(decide (a0=(4:Int)))=true then(some (⟨#[108,112,104,99,98]⟩:ByteArray))else(((if(decide (a0=(5:Int)))=true then(some (decide (a0=(5:Int))))else(some (decide (a0=(6:Int))))):Option Bool).bind fun a=>(if a=true then(some (⟨#[108]⟩:ByteArray))else(if(decide (a0=(7:Int)))=true then(some (⟨#[112,111]⟩:ByteArray))else(if(decide (a0=(8:Int)))=true then(some (⟨#[108,112,99,115,111,100]⟩:ByteArray))else(some (⟨#[]⟩:ByteArray)))))))))):Option ByteArray).bind fun b=>((((iter (f_ref07_has_l0 a1 b) (0:Int)).bind (Sum.elim (fun _=>(some (inl ()))) (fun _=>(((some true)).bind fun r=>some (inr r))))):Option (Unit⊕Bool)).bind (Sum.elim (fun _=>(some false)) some)))
def f_ref07_has_post (a0:Int) (a1:Int):Bool→Value→IM→HL→Prop:=
 fun(a:Bool) (v:Value) (M':IM) (H':HL)=>(.bool a)=v∧H'=[]
theorem f_ref07_has_ok (a0:Int) (a1:Int) (M:IM) (res:Bool) (h:f_ref07_has a0 a1=some res):
 Tri prog 41 #[(Iv a0),(Yv a1)] M [] (f_ref07_has_post a0 a1 res):=by
 unfold f_ref07_has at h
 refine Te func41 Z Z ?_
 intro F ρ hρ
 refine Sr (qa (Bv false) (Ns (qa (Sv ⟨#[]⟩) (Nt ?_))))
 obtain ⟨c,u,h⟩:=bnd h
 refine Jf (fun(c:ByteArray) ρ' M' H'=>M.le M'∧F=H'∧ρ' 1=(Yv a1)∧ρ' 5=(Sv c)) c ?_ ?_
 have h:=u
 refine Sr (qM (Iv a0) (hρ 0) (Nt (Bk (Sr (qu (Bv (decide (a0=1))) (eql Z Z) (qa (Bv (decide (a0=1))) (Nt (Ch h Z (fun v h=> ?_) (fun v h=> ?_)))))))))
 refine Cg (qa (Sv ⟨#[97,112]⟩) (Wz (Bn ?_)))
 obtain rfl:=oi h
 exact Tj ⟨lr,Z,(hρ 1),Z⟩
 refine Sr (qu (Bv (decide (a0=2))) (eql Z Z) (qa (Bv (decide (a0=2))) (Nt (Ch h Z (fun w h=> ?_) (fun w h=> ?_)))))
 refine Cg (qa (Sv ⟨#[97,103,108]⟩) (Wz (Bn ?_)))
 obtain rfl:=oi h
 exact Tj ⟨lr,Z,(hρ 1),Z⟩
 refine Sr (qu (Bv (decide (a0=3))) (eql Z Z) (qa (Bv (decide (a0=3))) (Nt (Ch h Z (fun x h=> ?_) (fun x h=> ?_)))))
 refine Cg (qa (Sv ⟨#[112]⟩) (Wz (Bn ?_)))
 obtain rfl:=oi h
 exact Tj ⟨lr,Z,(hρ 1),Z⟩
 refine Sr (qu (Bv (decide (a0=4))) (eql Z Z) (qa (Bv (decide (a0=4))) (Nt (Ch h Z (fun y h=> ?_) (fun y h=> ?_)))))
 refine Cg (qa (Sv ⟨#[108,112,104,99,98]⟩) (Wz (Bn ?_)))
 obtain rfl:=oi h
 exact Tj ⟨lr,Z,(hρ 1),Z⟩
 obtain ⟨s,z,h⟩:=bnd h
 refine Jf (fun(s:Bool) ρ' M' H'=>M.le M'∧F=H'∧ρ' 1=(Yv a1)∧ρ' 5=(Sv ⟨#[]⟩)∧ρ' 7=(Iv a0)∧ρ' 16=(Bv s)) s ?_ ?_
 have h:=z
 refine Sr (qu (Bv (decide (a0=5))) (eql Z Z) (qa (Bv (decide (a0=5))) (Nt (Ch h Z (fun A h=> ?_) (fun A h=> ?_)))))
 refine Ck ?_
 obtain rfl:=oi h
 exact Tj ⟨lr,Z,(hρ 1),Z,Z,Z⟩
 refine Cg (qu (Bv (decide (a0=6))) (eql Z Z) (qa (Bv (decide (a0=6))) (Wz ?_)))
 obtain rfl:=oi h
 exact Tj ⟨lr,Z,(hρ 1),Z,Z,Z⟩
 rintro O P Q ⟨d,rfl,a,n,j,l⟩
 refine Ch h l (fun B h=> ?_) (fun B h=> ?_)
 refine Cg (qa (Sv ⟨#[108]⟩) (Wz (Bn ?_)))
 obtain rfl:=oi h
 exact Tj ⟨d,Z,a,Z⟩
 refine Sr (qu (Bv (decide (a0=7))) (eql j Z) (qa (Bv (decide (a0=7))) (Nt (Ch h Z (fun C h=> ?_) (fun C h=> ?_)))))
 refine Cg (qa (Sv ⟨#[112,111]⟩) (Wz (Bn ?_)))
 obtain rfl:=oi h
 exact Tj ⟨d,Z,a,Z⟩
 refine Sr (qu (Bv (decide (a0=8))) (eql j Z) (qa (Bv (decide (a0=8))) (Nt (Ch h Z (fun D h=> ?_) (fun D h=> ?_)))))
 refine Cg (qa (Sv ⟨#[108,112,99,115,111,100]⟩) (Wz (Bn ?_)))
 obtain rfl:=oi h
 exact Tj ⟨d,Z,a,Z⟩
 refine Ck (Bn ?_)
 obtain rfl:=oi h
 exact Tj ⟨d,Z,a,n⟩
 rintro R E S ⟨m,rfl,o,p⟩
 obtain ⟨N,G,h⟩:=bnd h
 refine WC.joinE (fun(_:Unit) ρ' M' H'=>E.le M'∧F=H') N ?_ ?_
 have I:=h
 have h:=G
 refine Sr (qa (Iv 0) (Nt (Bk ?_)))
 obtain ⟨T,J,q⟩:=bnd h
 clear h
 refine WC.loop J (fun(b:Int) ρ' M' H'=>E.le M'∧F=H'∧ρ' 1=(Yv a1)∧ρ' 5=(Sv c)∧ρ' 6=(Iv b)) ?_ ?_
 exact⟨lr,Z,o,p,Z⟩
 rintro b U V W X h ⟨g,rfl,k,e,f⟩
 unfold f_ref07_has_l0 at h
 refine Cs (Sr (qM (Iv b) f (qM (Sv c) e (qu (Iv (c.size:Int)) (lenStr underlying9 Z) (qu (Bv (decide (b<(c.size:Int)))) (lss Z Z) (Nt (Ch h Z (fun K h=> ?_) (fun K h=> ?_))))))))
 refine Ck (Tc (Cs (Bk (Sr (qM (Sv c) e (qM (Iv b) f ?_))))))
 obtain ⟨r,h⟩:=grd_i h
 refine qu (Yv (btAt c b)) (indexStr underlying9 Z Z r.1 (strAt r)) (qM (Yv a1) k (qu (Bv (decide ((btAt c b)=a1))) (eql Z Z) (Nt (Ch h Z (fun L h=> ?_) (fun L h=> ?_)))))
 refine Sr (qa (Bv true) (Nt (Cr (Br (Tr (WQ.leaveR (inr ()) (oi h).symm (fun i=> ?_)))))))
 subst i
 have h:=(elimR q)
 refine Br (Tr ?_)
 have h:=KK.early h I
 exact Rf h [] Z (Rs Z Z) (m.trans g) ⟨Z,Z⟩
 exact Ck (Bn (Tc (Cg (qM (Iv b) f (qu (Iv (i64.wrap (b+1))) (add Z Z) (qa (Iv (i64.wrap (b+1))) (Wz (WQ.again (i64.wrap (b+1)) (oi h).symm ⟨g,Z,k,e,Z⟩))))))))
 refine WC.exit (WQ.thenE (WQ.leaveE (inl ()) (oi h).symm (fun i=> ?_)))
 subst i
 have h:=elimL q
 exact WQ.blockH (WQ.thenFE h ⟨g,Z⟩)
 rintro _ Y a2 a3 rfl ⟨t,rfl⟩
 have h:=(Sum.elim_inl _ _ _).symm.trans h
 exact Sr (qa (Bv false) (Nt (Cr (Rf h [] Z (Rs Z Z) (m.trans t) ⟨Z,Z⟩))))
noncomputable def f_ref05_Cursor_Flag (a0:T_ref05_Cursor):Option (Bool×Int×Int×ByteArray×Int):=
 ((((f_ref02_Read a0.B a0.S (⟨(2:Int),(0:Int),(0:Int)⟩:T_ref02_Ask)).bind fun(c,a)=>(some (c,a.Num,a.Flag,a.Text,a.Row))):Option (T_ref02_State×Int×Bool×(List Int)×(List Int))).bind fun(b,e,d,f,g)=>(some (d,b.At,b.Code,b.Op,b.Where)))
def f_ref05_Cursor_Flag_post (a0:T_ref05_Cursor) (a:Value) (b:Nat):(Bool×Int×Int×ByteArray×Int)→Value→IM→HL→Prop:=
 fun(p_:(Bool×Int×Int×ByteArray×Int)) (v:Value) (M':IM) (H':HL)=>match p_ with |(c,d,e,f,g)=>(.bool c)=v∧H'=[[(b, .cells #[a,(.int .i64 d),(.int .i64 e),(.string f),(.int .i64 g)] 98 (0,0))]]
theorem f_ref05_Cursor_Flag_ok (a0:T_ref05_Cursor) (M:IM) (o:Value) (s:Nat) (r:RS (Kd.int .u8) M o a0.B) (res:(Bool×Int×Int×ByteArray×Int)) (h:f_ref05_Cursor_Flag a0=some res):
 Tri prog 87 #[(pt s 0)] M [[(s, .cells (l98 a0 o).toArray 98 (0,0))]] (f_ref05_Cursor_Flag_post a0 o s res):=by
 unfold f_ref05_Cursor_Flag at h
 refine Te func87 Z Z ?_
 intro F ρ hρ
 refine Sr (qa (Bv false) (Nt ?_))
 obtain ⟨b2,b3,h⟩:=bnd h
 refine Jf (fun(p_:(T_ref02_State×Int×Bool×(List Int)×(List Int))) ρ' M' H'=>match p_ with |(l,b4,U,b5,b6)=>∃ a6 V P Q R,M.le M'∧[(s, .cells (l98 a0 o).toArray 98 (0,0))]::[(a6, .cells (l96 l).toArray 96 (0,0))]::[(V, .cells #[(Uv b4),(Bv U),P,Q] 130 (0,0))]::R::F=H'∧ρ' 0=(pt s 0)∧ρ' 3=(pt a6 0)∧ρ' 4=(pt V 0)∧RS (Kd.int .u8) M' P b5∧OwnS (Kd.int .i64) M' Q b6 R) b2 ?_ ?_
 have h:=b3
 refine WC.draw [0,1,3,7,0,16,48,112,0,511,1023,2047,2047,0,0,28671,65535] (.pure 0 (.pure 1 (.pure 2 (.pure 3 (.pure 4 (.pure 5 (.pure 6 (.pure 7 (.pure 8 (.alt 9 (.pure 10 (.pure 11 (.pure 12 (.alt 13 (.alt 14 (.alt 15 (.alt 16 .done .none) .none) .none) (.alt 14 (.alt 13 (.alt 15 (.alt 16 .done .none) .none) .none) .none))))) (.alt 13 (.alt 9 (.pure 10 (.pure 11 (.pure 12 (.alt 14 (.alt 15 (.alt 16 .done .none) .none) .none)))) (.alt 14 (.alt 9 (.pure 10 (.pure 11 (.pure 12 (.alt 15 (.alt 16 .done .none) .none)))) .none) .none)) (.alt 14 (.alt 9 (.pure 10 (.pure 11 (.pure 12 (.alt 13 (.alt 15 (.alt 16 .done .none) .none) .none)))) (.alt 13 (.alt 9 (.pure 10 (.pure 11 (.pure 12 (.alt 15 (.alt 16 .done .none) .none)))) .none) .none)) .none)))))))))))) mixed (by kernel_rfl) (qt (pt s 0) Z (Mv (hρ 0)) (qt (pt s 0) Z (Nk Z) (qt (pt s 0) Z (Fa fo98_0 Z Z) (qt o Z (Lb 0 pl23 Z Z Z) (qt (pt s 0) Z (Mv (hρ 0)) (qt (pt s 0) Z (Nk Z) (qt (pt s 1) Z (Fa fo98_1 Z Z) (qt (a96_ a0.S) Z (La (cs:=(l96 a0.S)) 0 ag96 sz96 Z Z Z) (qt (.agg #[(Iv 2),(Iv 0),(Iv 0)]) Z (Bl (cl:=[(Iv 2),(Iv 0),(Iv 0)]) ze134 fp134 (Pc (Iv 2) Z Z Pz) Z) ?_)))))))))
 have b7:=h
 obtain ⟨⟨p,q⟩,b8,h⟩:=bnd h
 refine Ta Z (Ca co86 (f_ref02_Read_ok a0.B a0.S (⟨(2:Int),(0:Int),(0:Int)⟩:T_ref02_Ask) _ _ r (p,q) b8) (args3 Z Z Z)) Z ?_ ?_
 rintro _ d9 _ T ⟨_,⟨a,b,t,rfl,rfl,m,n⟩,rfl⟩
 refine⟨(Sl Z), ?_⟩
 refine WT.a1 (qt (.tuple #[(a96_ p),(a130_ q a b)]) Z (Mv Z) (qt (a96_ p) Z (Xt Z Z) (qt (a130_ q a b) Z (Xt Z Z) ?_)))
 have b9:=h
 refine Ta Z (Al ze96 Z) Z ?_ ?_
 rintro _ _ _ - ⟨rfl,c9,rfl,rfl⟩
 refine⟨(Ss Z (Xt Z Z) Z (Ss Z (Xt Z Z) Z (Ss Z (Mv Z) Z (Ss Z (Bl (cl:=[(Iv 2),(Iv 0),(Iv 0)]) ze134 fp134 (Pc (Iv 2) Z Z Pz) Z) Z (Ss Z (La (cs:=(l96 a0.S)) 2 ag96 sz96 Z Z Z) Z (Ss Z (Fa fo98_1 Z Z) Z (Ss Z (Nk Z) Z (Ss Z (Mv (hρ 0)) Z (Ss Z (Lb 2 pl23 Z Z Z) Z (Ss Z (Fa fo98_0 Z Z) Z (Ss Z (Nk Z) Z (Ss Z (Mv (hρ 0)) Z trivial)))))))))))), ?_⟩
 refine Ta Z (Al ze130 Z) Z ?_ ?_
 rintro _ _ _ - ⟨rfl,d0,rfl,rfl⟩
 refine⟨(Ss Z (Xt Z Z) Z (Ss Z (Xt Z Z) Z (Ss Z (Mv Z) Z (Ss Z (Bl (cl:=[(Iv 2),(Iv 0),(Iv 0)]) ze134 fp134 (Pc (Iv 2) Z Z Pz) Z) Z (Ss Z (La (cs:=(l96 a0.S)) 3 ag96 sz96 Z Z Z) Z (Ss Z (Fa fo98_1 Z Z) Z (Ss Z (Nk Z) Z (Ss Z (Mv (hρ 0)) Z (Ss Z (Lb 3 pl23 Z Z Z) Z (Ss Z (Fa fo98_0 Z Z) Z (Ss Z (Nk Z) Z (Ss Z (Mv (hρ 0)) Z trivial)))))))))))), ?_⟩
 refine WT.f1 (Ta Z (Sg (v:=(a96_ p)) (vl:=(l96 p)) (arr':=(l96 p)) Z sz96 Z Z (onb Z) Z Z Z) Z ?_ ?_)
 rintro _ _ _ - ⟨rfl,rfl⟩
 refine⟨(Ss Z (Xt Z Z) Z (Sl Z)), ?_⟩
 refine WT.f1 (Ta Z (Sg (v:=(a130_ q a b)) (vl:=(l130 q a b)) (arr':=(l130 q a b)) Z sz130 Z Z (onesOf (Oc Z (Oc Z (Oc (RS.one m) (Oc (Ow n) Oz))))) Z Z Z) Z ?_ ?_)
 rintro _ _ _ - ⟨rfl,rfl⟩
 refine⟨(Sl Z), ?_⟩
 refine Ti (Qb (Qa (Qb (WQ.f3 ?_))))
 obtain rfl:=oi h
 exact Tj ⟨c9,d0,a,b,t,T,Z,(hρ 0),Z,Z,m,n⟩
 exact Tz
 exact Tz
 exact Tz
 have h:=b9
 refine Ta Z (Al ze130 Z) Z ?_ ?_
 rintro _ _ _ - ⟨rfl,d1,rfl,rfl⟩
 refine⟨(Ss Z (Xt Z Z) Z (Ss Z (Xt Z Z) Z (Ss Z (Mv Z) Z (Ss Z (Bl (cl:=[(Iv 2),(Iv 0),(Iv 0)]) ze134 fp134 (Pc (Iv 2) Z Z Pz) Z) Z (Ss Z (La (cs:=(l96 a0.S)) 2 ag96 sz96 Z Z Z) Z (Ss Z (Fa fo98_1 Z Z) Z (Ss Z (Nk Z) Z (Ss Z (Mv (hρ 0)) Z (Ss Z (Lb 2 pl23 Z Z Z) Z (Ss Z (Fa fo98_0 Z Z) Z (Ss Z (Nk Z) Z (Ss Z (Mv (hρ 0)) Z trivial)))))))))))), ?_⟩
 refine Ta Z (Al ze96 Z) Z ?_ ?_
 rintro _ _ _ - ⟨rfl,d2,rfl,rfl⟩
 refine⟨(Ss Z (Xt Z Z) Z (Ss Z (Xt Z Z) Z (Ss Z (Mv Z) Z (Ss Z (Bl (cl:=[(Iv 2),(Iv 0),(Iv 0)]) ze134 fp134 (Pc (Iv 2) Z Z Pz) Z) Z (Ss Z (La (cs:=(l96 a0.S)) 3 ag96 sz96 Z Z Z) Z (Ss Z (Fa fo98_1 Z Z) Z (Ss Z (Nk Z) Z (Ss Z (Mv (hρ 0)) Z (Ss Z (Lb 3 pl23 Z Z Z) Z (Ss Z (Fa fo98_0 Z Z) Z (Ss Z (Nk Z) Z (Ss Z (Mv (hρ 0)) Z trivial)))))))))))), ?_⟩
 refine Ta Z (Sg (v:=(a96_ p)) (vl:=(l96 p)) (arr':=(l96 p)) Z sz96 Z Z (onb Z) Z Z Z) Z ?_ ?_
 rintro _ _ _ - ⟨rfl,rfl⟩
 refine⟨(Ss Z (Xt Z Z) Z (Sl Z)), ?_⟩
 refine WT.f1 (Ta Z (Sg (v:=(a130_ q a b)) (vl:=(l130 q a b)) (arr':=(l130 q a b)) Z sz130 Z Z (onesOf (Oc Z (Oc Z (Oc (RS.one m) (Oc (Ow n) Oz))))) Z Z Z) Z ?_ ?_)
 rintro _ _ _ - ⟨rfl,rfl⟩
 refine⟨(Sl Z), ?_⟩
 refine Ti (Qb (Qa (Qb (WQ.f3 ?_))))
 obtain rfl:=oi h
 exact Tj ⟨d2,d1,a,b,t,T,Z,(hρ 0),Z,Z,m,n⟩
 exact Tz
 exact Tz
 exact Tz
 exact Tz
 have h:=b7
 have c0:=h
 refine Ta Z (Al ze96 Z) Z ?_ ?_
 rintro _ _ _ - ⟨rfl,c1,rfl,rfl⟩
 refine⟨(Ss Z (Bl (cl:=[(Iv 2),(Iv 0),(Iv 0)]) ze134 fp134 (Pc (Iv 2) Z Z Pz) Z) Z (Ss Z (La (cs:=(l96 a0.S)) 1 ag96 sz96 Z Z Z) Z (Ss Z (Fa fo98_1 Z Z) Z (Ss Z (Nk Z) Z (Ss Z (Mv (hρ 0)) Z (Ss Z (Lb 1 pl23 Z Z Z) Z (Ss Z (Fa fo98_0 Z Z) Z (Ss Z (Nk Z) Z (Ss Z (Mv (hρ 0)) Z trivial))))))))), ?_⟩
 have c2:=h
 obtain ⟨⟨E,G⟩,c3,h⟩:=bnd h
 refine Ta Z (Ca co86 (f_ref02_Read_ok a0.B a0.S (⟨(2:Int),(0:Int),(0:Int)⟩:T_ref02_Ask) _ _ r (E,G) c3) (args3 Z Z Z)) Z ?_ ?_
 rintro _ e0 _ a7 ⟨_,⟨c,d,W,rfl,rfl,u,w⟩,rfl⟩
 refine⟨(Sl Z), ?_⟩
 refine WT.a1 (qt (.tuple #[(a96_ E),(a130_ G c d)]) Z (Mv Z) (qt (a96_ E) Z (Xt Z Z) (qt (a130_ G c d) Z (Xt Z Z) (Ta Z (Al ze130 Z) Z ?_ ?_))))
 rintro _ _ _ - ⟨rfl,d3,rfl,rfl⟩
 refine⟨(Ss Z (Xt Z Z) Z (Ss Z (Xt Z Z) Z (Ss Z (Mv Z) Z (Ss Z (Bl (cl:=[(Iv 2),(Iv 0),(Iv 0)]) ze134 fp134 (Pc (Iv 2) Z Z Pz) Z) Z (Ss Z (La (cs:=(l96 a0.S)) 3 ag96 sz96 Z Z Z) Z (Ss Z (Fa fo98_1 Z Z) Z (Ss Z (Nk Z) Z (Ss Z (Mv (hρ 0)) Z (Ss Z (Lb 3 pl23 Z Z Z) Z (Ss Z (Fa fo98_0 Z Z) Z (Ss Z (Nk Z) Z (Ss Z (Mv (hρ 0)) Z trivial)))))))))))), ?_⟩
 refine WT.f2 (Ta Z (Sg (v:=(a96_ E)) (vl:=(l96 E)) (arr':=(l96 E)) Z sz96 Z Z (onb Z) Z Z Z) Z ?_ ?_)
 rintro _ _ _ - ⟨rfl,rfl⟩
 refine⟨(Ss Z (Xt Z Z) Z (Sl Z)), ?_⟩
 refine WT.f1 (Ta Z (Sg (v:=(a130_ G c d)) (vl:=(l130 G c d)) (arr':=(l130 G c d)) Z sz130 Z Z (onesOf (Oc Z (Oc Z (Oc (RS.one u) (Oc (Ow w) Oz))))) Z Z Z) Z ?_ ?_)
 rintro _ _ _ - ⟨rfl,rfl⟩
 refine⟨(Sl Z), ?_⟩
 refine Ti (Qb (Qa (Qb (WQ.f3 ?_))))
 obtain rfl:=oi h
 exact Tj ⟨c1,d3,c,d,W,a7,Z,(hρ 0),Z,Z,u,w⟩
 exact Tz
 exact Tz
 exact Tz
 have h:=c2
 refine Ta Z (Al ze130 Z) Z ?_ ?_
 rintro _ _ _ - ⟨rfl,d4,rfl,rfl⟩
 refine⟨(Ss Z (Bl (cl:=[(Iv 2),(Iv 0),(Iv 0)]) ze134 fp134 (Pc (Iv 2) Z Z Pz) Z) Z (Ss Z (La (cs:=(l96 a0.S)) 2 ag96 sz96 Z Z Z) Z (Ss Z (Fa fo98_1 Z Z) Z (Ss Z (Nk Z) Z (Ss Z (Mv (hρ 0)) Z (Ss Z (Lb 2 pl23 Z Z Z) Z (Ss Z (Fa fo98_0 Z Z) Z (Ss Z (Nk Z) Z (Ss Z (Mv (hρ 0)) Z trivial))))))))), ?_⟩
 obtain ⟨⟨I,J⟩,c4,h⟩:=bnd h
 refine Ta Z (Ca co86 (f_ref02_Read_ok a0.B a0.S (⟨(2:Int),(0:Int),(0:Int)⟩:T_ref02_Ask) _ _ r (I,J) c4) (args3 Z Z Z)) Z ?_ ?_
 rintro _ e1 _ a8 ⟨_,⟨e,f,X,rfl,rfl,x,y⟩,rfl⟩
 refine⟨(Sl Z), ?_⟩
 refine WT.a1 (qt (.tuple #[(a96_ I),(a130_ J e f)]) Z (Mv Z) (qt (a96_ I) Z (Xt Z Z) (qt (a130_ J e f) Z (Xt Z Z) (WT.f2 (Ta Z (Sg (v:=(a96_ I)) (vl:=(l96 I)) (arr':=(l96 I)) Z sz96 Z Z (onb Z) Z Z Z) Z ?_ ?_)))))
 rintro _ _ _ - ⟨rfl,rfl⟩
 refine⟨(Ss Z (Xt Z Z) Z (Sl Z)), ?_⟩
 refine WT.f2 (Ta Z (Sg (v:=(a130_ J e f)) (vl:=(l130 J e f)) (arr':=(l130 J e f)) Z sz130 Z Z (onesOf (Oc Z (Oc Z (Oc (RS.one x) (Oc (Ow y) Oz))))) Z Z Z) Z ?_ ?_)
 rintro _ _ _ - ⟨rfl,rfl⟩
 refine⟨(Sl Z), ?_⟩
 refine Ti (Qb (Qa (Qb (WQ.f3 ?_))))
 obtain rfl:=oi h
 exact Tj ⟨c1,d4,e,f,X,a8,Z,(hρ 0),Z,Z,x,y⟩
 exact Tz
 exact Tz
 exact Tz
 exact Tz
 have h:=c0
 refine Ta Z (Al ze130 Z) Z ?_ ?_
 rintro _ _ _ - ⟨rfl,c5,rfl,rfl⟩
 refine⟨(Ss Z (Bl (cl:=[(Iv 2),(Iv 0),(Iv 0)]) ze134 fp134 (Pc (Iv 2) Z Z Pz) Z) Z (Ss Z (La (cs:=(l96 a0.S)) 1 ag96 sz96 Z Z Z) Z (Ss Z (Fa fo98_1 Z Z) Z (Ss Z (Nk Z) Z (Ss Z (Mv (hρ 0)) Z (Ss Z (Lb 1 pl23 Z Z Z) Z (Ss Z (Fa fo98_0 Z Z) Z (Ss Z (Nk Z) Z (Ss Z (Mv (hρ 0)) Z trivial))))))))), ?_⟩
 have c6:=h
 obtain ⟨⟨K,L⟩,c7,h⟩:=bnd h
 refine Ta Z (Ca co86 (f_ref02_Read_ok a0.B a0.S (⟨(2:Int),(0:Int),(0:Int)⟩:T_ref02_Ask) _ _ r (K,L) c7) (args3 Z Z Z)) Z ?_ ?_
 rintro _ e2 _ a9 ⟨_,⟨g,i,Y,rfl,rfl,z,A⟩,rfl⟩
 refine⟨(Sl Z), ?_⟩
 refine WT.a1 (qt (.tuple #[(a96_ K),(a130_ L g i)]) Z (Mv Z) (qt (a96_ K) Z (Xt Z Z) (qt (a130_ L g i) Z (Xt Z Z) (Ta Z (Al ze96 Z) Z ?_ ?_))))
 rintro _ _ _ - ⟨rfl,d5,rfl,rfl⟩
 refine⟨(Ss Z (Xt Z Z) Z (Ss Z (Xt Z Z) Z (Ss Z (Mv Z) Z (Ss Z (Bl (cl:=[(Iv 2),(Iv 0),(Iv 0)]) ze134 fp134 (Pc (Iv 2) Z Z Pz) Z) Z (Ss Z (La (cs:=(l96 a0.S)) 3 ag96 sz96 Z Z Z) Z (Ss Z (Fa fo98_1 Z Z) Z (Ss Z (Nk Z) Z (Ss Z (Mv (hρ 0)) Z (Ss Z (Lb 3 pl23 Z Z Z) Z (Ss Z (Fa fo98_0 Z Z) Z (Ss Z (Nk Z) Z (Ss Z (Mv (hρ 0)) Z trivial)))))))))))), ?_⟩
 refine Ta Z (Sg (v:=(a96_ K)) (vl:=(l96 K)) (arr':=(l96 K)) Z sz96 Z Z (onb Z) Z Z Z) Z ?_ ?_
 rintro _ _ _ - ⟨rfl,rfl⟩
 refine⟨(Ss Z (Xt Z Z) Z (Sl Z)), ?_⟩
 refine WT.f2 (Ta Z (Sg (v:=(a130_ L g i)) (vl:=(l130 L g i)) (arr':=(l130 L g i)) Z sz130 Z Z (onesOf (Oc Z (Oc Z (Oc (RS.one z) (Oc (Ow A) Oz))))) Z Z Z) Z ?_ ?_)
 rintro _ _ _ - ⟨rfl,rfl⟩
 refine⟨(Sl Z), ?_⟩
 refine Ti (Qb (Qa (Qb (WQ.f3 ?_))))
 obtain rfl:=oi h
 exact Tj ⟨d5,c5,g,i,Y,a9,Z,(hρ 0),Z,Z,z,A⟩
 exact Tz
 exact Tz
 exact Tz
 have h:=c6
 refine Ta Z (Al ze96 Z) Z ?_ ?_
 rintro _ _ _ - ⟨rfl,d6,rfl,rfl⟩
 refine⟨(Ss Z (Bl (cl:=[(Iv 2),(Iv 0),(Iv 0)]) ze134 fp134 (Pc (Iv 2) Z Z Pz) Z) Z (Ss Z (La (cs:=(l96 a0.S)) 2 ag96 sz96 Z Z Z) Z (Ss Z (Fa fo98_1 Z Z) Z (Ss Z (Nk Z) Z (Ss Z (Mv (hρ 0)) Z (Ss Z (Lb 2 pl23 Z Z Z) Z (Ss Z (Fa fo98_0 Z Z) Z (Ss Z (Nk Z) Z (Ss Z (Mv (hρ 0)) Z trivial))))))))), ?_⟩
 obtain ⟨⟨N,O⟩,c8,h⟩:=bnd h
 refine Ta Z (Ca co86 (f_ref02_Read_ok a0.B a0.S (⟨(2:Int),(0:Int),(0:Int)⟩:T_ref02_Ask) _ _ r (N,O) c8) (args3 Z Z Z)) Z ?_ ?_
 rintro _ e3 _ b0 ⟨_,⟨j,k,a2,rfl,rfl,C,D⟩,rfl⟩
 refine⟨(Sl Z), ?_⟩
 refine WT.a1 (qt (.tuple #[(a96_ N),(a130_ O j k)]) Z (Mv Z) (qt (a96_ N) Z (Xt Z Z) (qt (a130_ O j k) Z (Xt Z Z) (WT.f1 (Ta Z (Sg (v:=(a96_ N)) (vl:=(l96 N)) (arr':=(l96 N)) Z sz96 Z Z (onb Z) Z Z Z) Z ?_ ?_)))))
 rintro _ _ _ - ⟨rfl,rfl⟩
 refine⟨(Ss Z (Xt Z Z) Z (Sl Z)), ?_⟩
 refine WT.f2 (Ta Z (Sg (v:=(a130_ O j k)) (vl:=(l130 O j k)) (arr':=(l130 O j k)) Z sz130 Z Z (onesOf (Oc Z (Oc Z (Oc (RS.one C) (Oc (Ow D) Oz))))) Z Z Z) Z ?_ ?_)
 rintro _ _ _ - ⟨rfl,rfl⟩
 refine⟨(Sl Z), ?_⟩
 refine Ti (Qb (Qa (Qb (WQ.f3 ?_))))
 obtain rfl:=oi h
 exact Tj ⟨d6,c5,j,k,a2,b0,Z,(hρ 0),Z,Z,C,D⟩
 exact Tz
 exact Tz
 exact Tz
 exact Tz
 exact Tz
 obtain ⟨l,b4,U,b5,b6⟩:=b2
 rintro e4 e5 e6 ⟨a6,V,P,Q,R,b1,rfl,a3,a4,a5,d7,d8⟩
 refine Sr (qM (pt s 0) a3 (qu (a96_ l) (La (cs:=(l96 l)) 1 ag96 sz96 a4 Z Z) (qu (pt s 0) (Nk Z) (qu (pt s 1) (Fa fo98_1 Z Z) (We (Sg (v:=(a96_ l)) (vl:=(l96 l)) (arr':=[o,(Iv l.At),(Iv l.Code),(Sv l.Op),(Iv l.Where)]) Z sz96 Z Z (onb Z) Z Z Z) Z ?_)))))
 rintro _ _ _ - ⟨rfl,rfl⟩
 refine Ns (qu (pt V 1) (Fa fo130_1 a5 Z) (qu (Bv U) (Lb 2 pl4 Z Z Z) (qa (Bv U) (Nt (Cr (Qa (Dr (Qa (Dr (Qa (Dr ?_)))))))))))
 exact Rf h [[(s, .cells #[o,(Iv l.At),(Iv l.Code),(Sv l.Op),(Iv l.Where)] 98 (0,0))]] Z (Rs Z Z) b1 ⟨Z,Z⟩
noncomputable def f_ref07_yes (a0:T_ref05_Cursor) (a1:Bool):Option (Bool×Int×Int×ByteArray×Int):=
 (if(!a1)=true then(some (false,a0.S.At,a0.S.Code,a0.S.Op,a0.S.Where))else((f_ref05_Cursor_Flag a0).bind fun(a,b,c,d,e)=>(some (a,b,c,d,e))))
def f_ref07_yes_post (a0:T_ref05_Cursor) (a1:Bool) (a:Value) (b:Nat):(Bool×Int×Int×ByteArray×Int)→Value→IM→HL→Prop:=
 fun(p_:(Bool×Int×Int×ByteArray×Int)) (v:Value) (M':IM) (H':HL)=>match p_ with |(c,d,e,f,g)=>(.bool c)=v∧H'=[[(b, .cells #[a,(.int .i64 d),(.int .i64 e),(.string f),(.int .i64 g)] 98 (0,0))]]
theorem f_ref07_yes_ok (a0:T_ref05_Cursor) (a1:Bool) (M:IM) (a:Value) (c:Nat) (d:RS (Kd.int .u8) M a a0.B) (res:(Bool×Int×Int×ByteArray×Int)) (h:f_ref07_yes a0 a1=some res):
 Tri prog 59 #[(pt c 0),(Bv a1)] M [[(c, .cells (l98 a0 a).toArray 98 (0,0))]] (f_ref07_yes_post a0 a1 a c res):=by
 unfold f_ref07_yes at h
 refine Te func59 Z Z ?_
 intro F ρ hρ
 refine Sr (qa (Bv false) (Nt (Cs (Sr (qM (Bv a1) (hρ 1) (qu (Bv (!a1)) (PO.not Z) (Nt (Ch h Z (fun e h=> ?_) (fun e h=> ?_)))))))))
 exact Sr (qa (Bv false) (Nt (Cr (Tr (Rf h [[(c, .cells (l98 a0 a).toArray 98 (0,0))]] Z (Rs Z Z) lr ⟨Z,Z⟩)))))
 refine Ck (Tc (Sr (qM (pt c 0) (hρ 0) ?_)))
 obtain ⟨⟨f,g,i,j,k⟩,l,h⟩:=bnd h
 refine We (Cb co87 (f_ref05_Cursor_Flag_ok a0 _ _ _ d (f,g,i,j,k) l) (args1 Z)) Z ?_
 rintro _ m _ b ⟨_,⟨rfl,rfl⟩,rfl⟩
 exact WL.a1 (qa (Bv f) (Nt (Cr (Rf h [[(c, .cells #[a,(Iv g),(Iv i),(Sv j),(Iv k)] 98 (0,0))]] Z (Rs Z Z) b ⟨Z,Z⟩))))
noncomputable def f_ref07_some (a0:T_ref05_Cursor) (a1:Bool):Option (Int×Int×Int×ByteArray×Int):=
 (if(!a1)=true then(some ((0:Int),a0.S.At,a0.S.Code,a0.S.Op,a0.S.Where))else((f_ref05_Cursor_Int a0 (1073741824:Int)).bind fun(a,b,c,d,e)=>(some (a,b,c,d,e))))
def f_ref07_some_post (a0:T_ref05_Cursor) (a1:Bool) (a:Value) (b:Nat):(Int×Int×Int×ByteArray×Int)→Value→IM→HL→Prop:=
 fun(p_:(Int×Int×Int×ByteArray×Int)) (v:Value) (M':IM) (H':HL)=>match p_ with |(c,d,e,f,g)=>(.int .i64 c)=v∧H'=[[(b, .cells #[a,(.int .i64 d),(.int .i64 e),(.string f),(.int .i64 g)] 98 (0,0))]]
theorem f_ref07_some_ok (a0:T_ref05_Cursor) (a1:Bool) (M:IM) (a:Value) (c:Nat) (d:RS (Kd.int .u8) M a a0.B) (res:(Int×Int×Int×ByteArray×Int)) (h:f_ref07_some a0 a1=some res):
 Tri prog 60 #[(pt c 0),(Bv a1)] M [[(c, .cells (l98 a0 a).toArray 98 (0,0))]] (f_ref07_some_post a0 a1 a c res):=by
 unfold f_ref07_some at h
 refine Te func60 Z Z ?_
 intro F ρ hρ
 refine Sr (qa (Iv 0) (Nt (Cs (Sr (qM (Bv a1) (hρ 1) (qu (Bv (!a1)) (PO.not Z) (Nt (Ch h Z (fun e h=> ?_) (fun e h=> ?_)))))))))
 exact Sr (qa (Iv 0) (Nt (Cr (Tr (Rf h [[(c, .cells (l98 a0 a).toArray 98 (0,0))]] Z (Rs Z Z) lr ⟨Z,Z⟩)))))
 refine Ck (Tc (Sr (qM (pt c 0) (hρ 0) ?_)))
 obtain ⟨⟨f,g,i,j,k⟩,l,h⟩:=bnd h
 refine We (Cb co58 (f_ref05_Cursor_Int_ok a0 (1073741824:Int) _ _ _ d (f,g,i,j,k) l) (args2 Z Z)) Z ?_
 rintro _ m _ b ⟨_,⟨rfl,rfl⟩,rfl⟩
 exact WL.a1 (qa (Iv f) (Nt (Cr (Rf h [[(c, .cells #[a,(Iv g),(Iv i),(Sv j),(Iv k)] 98 (0,0))]] Z (Rs Z Z) b ⟨Z,Z⟩))))
noncomputable def f_ref05_Cursor_Text (a0:T_ref05_Cursor) (a1:Int):Option ((List Int)×Int×Int×ByteArray×Int):=
 ((((f_ref02_Read a0.B a0.S (⟨(3:Int),a1,(0:Int)⟩:T_ref02_Ask)).bind fun(c,a)=>(some (c,a.Num,a.Flag,a.Text,a.Row))):Option (T_ref02_State×Int×Bool×(List Int)×(List Int))).bind fun(b,e,f,d,g)=>(some (d,b.At,b.Code,b.Op,b.Where)))
def f_ref05_Cursor_Text_post (a0:T_ref05_Cursor) (a1:Int) (a:Value) (c:Nat):((List Int)×Int×Int×ByteArray×Int)→Value→IM→HL→Prop:=
 fun(p_:((List Int)×Int×Int×ByteArray×Int)) (v:Value) (M':IM) (H':HL)=>match p_ with |(d,e,f,g,i)=>∃ b,b=v∧H'=[[(c, .cells #[a,(.int .i64 e),(.int .i64 f),(.string g),(.int .i64 i)] 98 (0,0))]]∧RS (Kd.int .u8) M' b d
theorem f_ref05_Cursor_Text_ok (a0:T_ref05_Cursor) (a1:Int) (M:IM) (o:Value) (t:Nat) (s:RS (Kd.int .u8) M o a0.B) (res:((List Int)×Int×Int×ByteArray×Int)) (h:f_ref05_Cursor_Text a0 a1=some res):
 Tri prog 61 #[(pt t 0),(Iv a1)] M [[(t, .cells (l98 a0 o).toArray 98 (0,0))]] (f_ref05_Cursor_Text_post a0 a1 o t res):=by
 unfold f_ref05_Cursor_Text at h
 refine Te func61 Z Z ?_
 intro F ρ hρ
 refine Sr (qa Zs (Nt ?_))
 obtain ⟨b1,b2,h⟩:=bnd h
 refine Jf (fun(p_:(T_ref02_State×Int×Bool×(List Int)×(List Int))) ρ' M' H'=>match p_ with |(l,b3,b4,b5,b6)=>∃ a5 U p Q R,M.le M'∧[(t, .cells (l98 a0 o).toArray 98 (0,0))]::[(a5, .cells (l96 l).toArray 96 (0,0))]::[(U, .cells #[(Uv b3),(Bv b4),p,Q] 130 (0,0))]::R::F=H'∧ρ' 0=(pt t 0)∧ρ' 5=(pt a5 0)∧ρ' 6=(pt U 0)∧RS (Kd.int .u8) M' p b5∧OwnS (Kd.int .i64) M' Q b6 R) b1 ?_ ?_
 have h:=b2
 refine WC.draw [0,1,3,7,0,16,48,112,0,256,1023,2047,4095,4095,0,0,57343,131071] (.pure 0 (.pure 1 (.pure 2 (.pure 3 (.pure 4 (.pure 5 (.pure 6 (.pure 7 (.pure 8 (.pure 9 (.alt 10 (.pure 11 (.pure 12 (.pure 13 (.alt 14 (.alt 15 (.alt 16 (.alt 17 .done .none) .none) .none) (.alt 15 (.alt 14 (.alt 16 (.alt 17 .done .none) .none) .none) .none))))) (.alt 14 (.alt 10 (.pure 11 (.pure 12 (.pure 13 (.alt 15 (.alt 16 (.alt 17 .done .none) .none) .none)))) (.alt 15 (.alt 10 (.pure 11 (.pure 12 (.pure 13 (.alt 16 (.alt 17 .done .none) .none)))) .none) .none)) (.alt 15 (.alt 10 (.pure 11 (.pure 12 (.pure 13 (.alt 14 (.alt 16 (.alt 17 .done .none) .none) .none)))) (.alt 14 (.alt 10 (.pure 11 (.pure 12 (.pure 13 (.alt 16 (.alt 17 .done .none) .none)))) .none) .none)) .none))))))))))))) mixed (by kernel_rfl) (qt (pt t 0) Z (Mv (hρ 0)) (qt (pt t 0) Z (Nk Z) (qt (pt t 0) Z (Fa fo98_0 Z Z) (qt o Z (Lb 0 pl23 Z Z Z) (qt (pt t 0) Z (Mv (hρ 0)) (qt (pt t 0) Z (Nk Z) (qt (pt t 1) Z (Fa fo98_1 Z Z) (qt (a96_ a0.S) Z (La (cs:=(l96 a0.S)) 0 ag96 sz96 Z Z Z) (qt (Iv a1) Z (Mv (hρ 1)) (qt (.agg #[(Iv 3),(Iv a1),(Iv 0)]) Z (Bl (cl:=[(Iv 3),(Iv a1),(Iv 0)]) ze134 fp134 (Pc (Iv 3) Z Z (Pc (Iv a1) Z Z Pz)) Z) ?_))))))))))
 have b7:=h
 obtain ⟨⟨q,r⟩,b8,h⟩:=bnd h
 refine Ta Z (Ca co86 (f_ref02_Read_ok a0.B a0.S (⟨(3:Int),a1,(0:Int)⟩:T_ref02_Ask) _ _ s (q,r) b8) (args3 Z Z Z)) Z ?_ ?_
 rintro _ d9 _ T ⟨_,⟨a,b,u,rfl,rfl,m,n⟩,rfl⟩
 refine⟨(Sl Z), ?_⟩
 refine WT.a1 (qt (.tuple #[(a96_ q),(a130_ r a b)]) Z (Mv Z) (qt (a96_ q) Z (Xt Z Z) (qt (a130_ r a b) Z (Xt Z Z) ?_)))
 have b9:=h
 refine Ta Z (Al ze96 Z) Z ?_ ?_
 rintro _ _ _ - ⟨rfl,d0,rfl,rfl⟩
 refine⟨(Ss Z (Xt Z Z) Z (Ss Z (Xt Z Z) Z (Ss Z (Mv Z) Z (Ss Z (Bl (cl:=[(Iv 3),(Iv a1),(Iv 0)]) ze134 fp134 (Pc (Iv 3) Z Z (Pc (Iv a1) Z Z Pz)) Z) Z (Ss Z (Mv (hρ 1)) Z (Ss Z (La (cs:=(l96 a0.S)) 2 ag96 sz96 Z Z Z) Z (Ss Z (Fa fo98_1 Z Z) Z (Ss Z (Nk Z) Z (Ss Z (Mv (hρ 0)) Z (Ss Z (Lb 2 pl23 Z Z Z) Z (Ss Z (Fa fo98_0 Z Z) Z (Ss Z (Nk Z) Z (Ss Z (Mv (hρ 0)) Z trivial))))))))))))), ?_⟩
 refine Ta Z (Al ze130 Z) Z ?_ ?_
 rintro _ _ _ - ⟨rfl,d1,rfl,rfl⟩
 refine⟨(Ss Z (Xt Z Z) Z (Ss Z (Xt Z Z) Z (Ss Z (Mv Z) Z (Ss Z (Bl (cl:=[(Iv 3),(Iv a1),(Iv 0)]) ze134 fp134 (Pc (Iv 3) Z Z (Pc (Iv a1) Z Z Pz)) Z) Z (Ss Z (Mv (hρ 1)) Z (Ss Z (La (cs:=(l96 a0.S)) 3 ag96 sz96 Z Z Z) Z (Ss Z (Fa fo98_1 Z Z) Z (Ss Z (Nk Z) Z (Ss Z (Mv (hρ 0)) Z (Ss Z (Lb 3 pl23 Z Z Z) Z (Ss Z (Fa fo98_0 Z Z) Z (Ss Z (Nk Z) Z (Ss Z (Mv (hρ 0)) Z trivial))))))))))))), ?_⟩
 refine WT.f1 (Ta Z (Sg (v:=(a96_ q)) (vl:=(l96 q)) (arr':=(l96 q)) Z sz96 Z Z (onb Z) Z Z Z) Z ?_ ?_)
 rintro _ _ _ - ⟨rfl,rfl⟩
 refine⟨(Ss Z (Xt Z Z) Z (Sl Z)), ?_⟩
 refine WT.f1 (Ta Z (Sg (v:=(a130_ r a b)) (vl:=(l130 r a b)) (arr':=(l130 r a b)) Z sz130 Z Z (onesOf (Oc Z (Oc Z (Oc (RS.one m) (Oc (Ow n) Oz))))) Z Z Z) Z ?_ ?_)
 rintro _ _ _ - ⟨rfl,rfl⟩
 refine⟨(Sl Z), ?_⟩
 refine Ti (Qb (Qa (Qb (WQ.f3 ?_))))
 obtain rfl:=oi h
 exact Tj ⟨d0,d1,a,b,u,T,Z,(hρ 0),Z,Z,m,n⟩
 exact Tz
 exact Tz
 exact Tz
 have h:=b9
 refine Ta Z (Al ze130 Z) Z ?_ ?_
 rintro _ _ _ - ⟨rfl,d2,rfl,rfl⟩
 refine⟨(Ss Z (Xt Z Z) Z (Ss Z (Xt Z Z) Z (Ss Z (Mv Z) Z (Ss Z (Bl (cl:=[(Iv 3),(Iv a1),(Iv 0)]) ze134 fp134 (Pc (Iv 3) Z Z (Pc (Iv a1) Z Z Pz)) Z) Z (Ss Z (Mv (hρ 1)) Z (Ss Z (La (cs:=(l96 a0.S)) 2 ag96 sz96 Z Z Z) Z (Ss Z (Fa fo98_1 Z Z) Z (Ss Z (Nk Z) Z (Ss Z (Mv (hρ 0)) Z (Ss Z (Lb 2 pl23 Z Z Z) Z (Ss Z (Fa fo98_0 Z Z) Z (Ss Z (Nk Z) Z (Ss Z (Mv (hρ 0)) Z trivial))))))))))))), ?_⟩
 refine Ta Z (Al ze96 Z) Z ?_ ?_
 rintro _ _ _ - ⟨rfl,d3,rfl,rfl⟩
 refine⟨(Ss Z (Xt Z Z) Z (Ss Z (Xt Z Z) Z (Ss Z (Mv Z) Z (Ss Z (Bl (cl:=[(Iv 3),(Iv a1),(Iv 0)]) ze134 fp134 (Pc (Iv 3) Z Z (Pc (Iv a1) Z Z Pz)) Z) Z (Ss Z (Mv (hρ 1)) Z (Ss Z (La (cs:=(l96 a0.S)) 3 ag96 sz96 Z Z Z) Z (Ss Z (Fa fo98_1 Z Z) Z (Ss Z (Nk Z) Z (Ss Z (Mv (hρ 0)) Z (Ss Z (Lb 3 pl23 Z Z Z) Z (Ss Z (Fa fo98_0 Z Z) Z (Ss Z (Nk Z) Z (Ss Z (Mv (hρ 0)) Z trivial))))))))))))), ?_⟩
 refine Ta Z (Sg (v:=(a96_ q)) (vl:=(l96 q)) (arr':=(l96 q)) Z sz96 Z Z (onb Z) Z Z Z) Z ?_ ?_
 rintro _ _ _ - ⟨rfl,rfl⟩
 refine⟨(Ss Z (Xt Z Z) Z (Sl Z)), ?_⟩
 refine WT.f1 (Ta Z (Sg (v:=(a130_ r a b)) (vl:=(l130 r a b)) (arr':=(l130 r a b)) Z sz130 Z Z (onesOf (Oc Z (Oc Z (Oc (RS.one m) (Oc (Ow n) Oz))))) Z Z Z) Z ?_ ?_)
 rintro _ _ _ - ⟨rfl,rfl⟩
 refine⟨(Sl Z), ?_⟩
 refine Ti (Qb (Qa (Qb (WQ.f3 ?_))))
 obtain rfl:=oi h
 exact Tj ⟨d3,d2,a,b,u,T,Z,(hρ 0),Z,Z,m,n⟩
 exact Tz
 exact Tz
 exact Tz
 exact Tz
 have h:=b7
 have c0:=h
 refine Ta Z (Al ze96 Z) Z ?_ ?_
 rintro _ _ _ - ⟨rfl,c1,rfl,rfl⟩
 refine⟨(Ss Z (Bl (cl:=[(Iv 3),(Iv a1),(Iv 0)]) ze134 fp134 (Pc (Iv 3) Z Z (Pc (Iv a1) Z Z Pz)) Z) Z (Ss Z (Mv (hρ 1)) Z (Ss Z (La (cs:=(l96 a0.S)) 1 ag96 sz96 Z Z Z) Z (Ss Z (Fa fo98_1 Z Z) Z (Ss Z (Nk Z) Z (Ss Z (Mv (hρ 0)) Z (Ss Z (Lb 1 pl23 Z Z Z) Z (Ss Z (Fa fo98_0 Z Z) Z (Ss Z (Nk Z) Z (Ss Z (Mv (hρ 0)) Z trivial)))))))))), ?_⟩
 have c2:=h
 obtain ⟨⟨G,I⟩,c3,h⟩:=bnd h
 refine Ta Z (Ca co86 (f_ref02_Read_ok a0.B a0.S (⟨(3:Int),a1,(0:Int)⟩:T_ref02_Ask) _ _ s (G,I) c3) (args3 Z Z Z)) Z ?_ ?_
 rintro _ e0 _ a6 ⟨_,⟨c,d,V,rfl,rfl,w,x⟩,rfl⟩
 refine⟨(Sl Z), ?_⟩
 refine WT.a1 (qt (.tuple #[(a96_ G),(a130_ I c d)]) Z (Mv Z) (qt (a96_ G) Z (Xt Z Z) (qt (a130_ I c d) Z (Xt Z Z) (Ta Z (Al ze130 Z) Z ?_ ?_))))
 rintro _ _ _ - ⟨rfl,d4,rfl,rfl⟩
 refine⟨(Ss Z (Xt Z Z) Z (Ss Z (Xt Z Z) Z (Ss Z (Mv Z) Z (Ss Z (Bl (cl:=[(Iv 3),(Iv a1),(Iv 0)]) ze134 fp134 (Pc (Iv 3) Z Z (Pc (Iv a1) Z Z Pz)) Z) Z (Ss Z (Mv (hρ 1)) Z (Ss Z (La (cs:=(l96 a0.S)) 3 ag96 sz96 Z Z Z) Z (Ss Z (Fa fo98_1 Z Z) Z (Ss Z (Nk Z) Z (Ss Z (Mv (hρ 0)) Z (Ss Z (Lb 3 pl23 Z Z Z) Z (Ss Z (Fa fo98_0 Z Z) Z (Ss Z (Nk Z) Z (Ss Z (Mv (hρ 0)) Z trivial))))))))))))), ?_⟩
 refine WT.f2 (Ta Z (Sg (v:=(a96_ G)) (vl:=(l96 G)) (arr':=(l96 G)) Z sz96 Z Z (onb Z) Z Z Z) Z ?_ ?_)
 rintro _ _ _ - ⟨rfl,rfl⟩
 refine⟨(Ss Z (Xt Z Z) Z (Sl Z)), ?_⟩
 refine WT.f1 (Ta Z (Sg (v:=(a130_ I c d)) (vl:=(l130 I c d)) (arr':=(l130 I c d)) Z sz130 Z Z (onesOf (Oc Z (Oc Z (Oc (RS.one w) (Oc (Ow x) Oz))))) Z Z Z) Z ?_ ?_)
 rintro _ _ _ - ⟨rfl,rfl⟩
 refine⟨(Sl Z), ?_⟩
 refine Ti (Qb (Qa (Qb (WQ.f3 ?_))))
 obtain rfl:=oi h
 exact Tj ⟨c1,d4,c,d,V,a6,Z,(hρ 0),Z,Z,w,x⟩
 exact Tz
 exact Tz
 exact Tz
 have h:=c2
 refine Ta Z (Al ze130 Z) Z ?_ ?_
 rintro _ _ _ - ⟨rfl,d5,rfl,rfl⟩
 refine⟨(Ss Z (Bl (cl:=[(Iv 3),(Iv a1),(Iv 0)]) ze134 fp134 (Pc (Iv 3) Z Z (Pc (Iv a1) Z Z Pz)) Z) Z (Ss Z (Mv (hρ 1)) Z (Ss Z (La (cs:=(l96 a0.S)) 2 ag96 sz96 Z Z Z) Z (Ss Z (Fa fo98_1 Z Z) Z (Ss Z (Nk Z) Z (Ss Z (Mv (hρ 0)) Z (Ss Z (Lb 2 pl23 Z Z Z) Z (Ss Z (Fa fo98_0 Z Z) Z (Ss Z (Nk Z) Z (Ss Z (Mv (hρ 0)) Z trivial)))))))))), ?_⟩
 obtain ⟨⟨J,K⟩,c4,h⟩:=bnd h
 refine Ta Z (Ca co86 (f_ref02_Read_ok a0.B a0.S (⟨(3:Int),a1,(0:Int)⟩:T_ref02_Ask) _ _ s (J,K) c4) (args3 Z Z Z)) Z ?_ ?_
 rintro _ e1 _ a7 ⟨_,⟨e,f,W,rfl,rfl,y,z⟩,rfl⟩
 refine⟨(Sl Z), ?_⟩
 refine WT.a1 (qt (.tuple #[(a96_ J),(a130_ K e f)]) Z (Mv Z) (qt (a96_ J) Z (Xt Z Z) (qt (a130_ K e f) Z (Xt Z Z) (WT.f2 (Ta Z (Sg (v:=(a96_ J)) (vl:=(l96 J)) (arr':=(l96 J)) Z sz96 Z Z (onb Z) Z Z Z) Z ?_ ?_)))))
 rintro _ _ _ - ⟨rfl,rfl⟩
 refine⟨(Ss Z (Xt Z Z) Z (Sl Z)), ?_⟩
 refine WT.f2 (Ta Z (Sg (v:=(a130_ K e f)) (vl:=(l130 K e f)) (arr':=(l130 K e f)) Z sz130 Z Z (onesOf (Oc Z (Oc Z (Oc (RS.one y) (Oc (Ow z) Oz))))) Z Z Z) Z ?_ ?_)
 rintro _ _ _ - ⟨rfl,rfl⟩
 refine⟨(Sl Z), ?_⟩
 refine Ti (Qb (Qa (Qb (WQ.f3 ?_))))
 obtain rfl:=oi h
 exact Tj ⟨c1,d5,e,f,W,a7,Z,(hρ 0),Z,Z,y,z⟩
 exact Tz
 exact Tz
 exact Tz
 exact Tz
 have h:=c0
 refine Ta Z (Al ze130 Z) Z ?_ ?_
 rintro _ _ _ - ⟨rfl,c5,rfl,rfl⟩
 refine⟨(Ss Z (Bl (cl:=[(Iv 3),(Iv a1),(Iv 0)]) ze134 fp134 (Pc (Iv 3) Z Z (Pc (Iv a1) Z Z Pz)) Z) Z (Ss Z (Mv (hρ 1)) Z (Ss Z (La (cs:=(l96 a0.S)) 1 ag96 sz96 Z Z Z) Z (Ss Z (Fa fo98_1 Z Z) Z (Ss Z (Nk Z) Z (Ss Z (Mv (hρ 0)) Z (Ss Z (Lb 1 pl23 Z Z Z) Z (Ss Z (Fa fo98_0 Z Z) Z (Ss Z (Nk Z) Z (Ss Z (Mv (hρ 0)) Z trivial)))))))))), ?_⟩
 have c6:=h
 obtain ⟨⟨L,N⟩,c7,h⟩:=bnd h
 refine Ta Z (Ca co86 (f_ref02_Read_ok a0.B a0.S (⟨(3:Int),a1,(0:Int)⟩:T_ref02_Ask) _ _ s (L,N) c7) (args3 Z Z Z)) Z ?_ ?_
 rintro _ e2 _ a8 ⟨_,⟨g,i,X,rfl,rfl,A,C⟩,rfl⟩
 refine⟨(Sl Z), ?_⟩
 refine WT.a1 (qt (.tuple #[(a96_ L),(a130_ N g i)]) Z (Mv Z) (qt (a96_ L) Z (Xt Z Z) (qt (a130_ N g i) Z (Xt Z Z) (Ta Z (Al ze96 Z) Z ?_ ?_))))
 rintro _ _ _ - ⟨rfl,d6,rfl,rfl⟩
 refine⟨(Ss Z (Xt Z Z) Z (Ss Z (Xt Z Z) Z (Ss Z (Mv Z) Z (Ss Z (Bl (cl:=[(Iv 3),(Iv a1),(Iv 0)]) ze134 fp134 (Pc (Iv 3) Z Z (Pc (Iv a1) Z Z Pz)) Z) Z (Ss Z (Mv (hρ 1)) Z (Ss Z (La (cs:=(l96 a0.S)) 3 ag96 sz96 Z Z Z) Z (Ss Z (Fa fo98_1 Z Z) Z (Ss Z (Nk Z) Z (Ss Z (Mv (hρ 0)) Z (Ss Z (Lb 3 pl23 Z Z Z) Z (Ss Z (Fa fo98_0 Z Z) Z (Ss Z (Nk Z) Z (Ss Z (Mv (hρ 0)) Z trivial))))))))))))), ?_⟩
 refine Ta Z (Sg (v:=(a96_ L)) (vl:=(l96 L)) (arr':=(l96 L)) Z sz96 Z Z (onb Z) Z Z Z) Z ?_ ?_
 rintro _ _ _ - ⟨rfl,rfl⟩
 refine⟨(Ss Z (Xt Z Z) Z (Sl Z)), ?_⟩
 refine WT.f2 (Ta Z (Sg (v:=(a130_ N g i)) (vl:=(l130 N g i)) (arr':=(l130 N g i)) Z sz130 Z Z (onesOf (Oc Z (Oc Z (Oc (RS.one A) (Oc (Ow C) Oz))))) Z Z Z) Z ?_ ?_)
 rintro _ _ _ - ⟨rfl,rfl⟩
 refine⟨(Sl Z), ?_⟩
 refine Ti (Qb (Qa (Qb (WQ.f3 ?_))))
 obtain rfl:=oi h
 exact Tj ⟨d6,c5,g,i,X,a8,Z,(hρ 0),Z,Z,A,C⟩
 exact Tz
 exact Tz
 exact Tz
 have h:=c6
 refine Ta Z (Al ze96 Z) Z ?_ ?_
 rintro _ _ _ - ⟨rfl,d7,rfl,rfl⟩
 refine⟨(Ss Z (Bl (cl:=[(Iv 3),(Iv a1),(Iv 0)]) ze134 fp134 (Pc (Iv 3) Z Z (Pc (Iv a1) Z Z Pz)) Z) Z (Ss Z (Mv (hρ 1)) Z (Ss Z (La (cs:=(l96 a0.S)) 2 ag96 sz96 Z Z Z) Z (Ss Z (Fa fo98_1 Z Z) Z (Ss Z (Nk Z) Z (Ss Z (Mv (hρ 0)) Z (Ss Z (Lb 2 pl23 Z Z Z) Z (Ss Z (Fa fo98_0 Z Z) Z (Ss Z (Nk Z) Z (Ss Z (Mv (hρ 0)) Z trivial)))))))))), ?_⟩
 obtain ⟨⟨O,P⟩,c8,h⟩:=bnd h
 refine Ta Z (Ca co86 (f_ref02_Read_ok a0.B a0.S (⟨(3:Int),a1,(0:Int)⟩:T_ref02_Ask) _ _ s (O,P) c8) (args3 Z Z Z)) Z ?_ ?_
 rintro _ e3 _ a9 ⟨_,⟨j,k,Y,rfl,rfl,D,E⟩,rfl⟩
 refine⟨(Sl Z), ?_⟩
 refine WT.a1 (qt (.tuple #[(a96_ O),(a130_ P j k)]) Z (Mv Z) (qt (a96_ O) Z (Xt Z Z) (qt (a130_ P j k) Z (Xt Z Z) (WT.f1 (Ta Z (Sg (v:=(a96_ O)) (vl:=(l96 O)) (arr':=(l96 O)) Z sz96 Z Z (onb Z) Z Z Z) Z ?_ ?_)))))
 rintro _ _ _ - ⟨rfl,rfl⟩
 refine⟨(Ss Z (Xt Z Z) Z (Sl Z)), ?_⟩
 refine WT.f2 (Ta Z (Sg (v:=(a130_ P j k)) (vl:=(l130 P j k)) (arr':=(l130 P j k)) Z sz130 Z Z (onesOf (Oc Z (Oc Z (Oc (RS.one D) (Oc (Ow E) Oz))))) Z Z Z) Z ?_ ?_)
 rintro _ _ _ - ⟨rfl,rfl⟩
 refine⟨(Sl Z), ?_⟩
 refine Ti (Qb (Qa (Qb (WQ.f3 ?_))))
 obtain rfl:=oi h
 exact Tj ⟨d7,c5,j,k,Y,a9,Z,(hρ 0),Z,Z,D,E⟩
 exact Tz
 exact Tz
 exact Tz
 exact Tz
 exact Tz
 obtain ⟨l,b3,b4,b5,b6⟩:=b1
 rintro e4 e5 e6 ⟨a5,U,p,Q,R,b0,rfl,a2,a3,a4,c9,d8⟩
 refine Sr (qM (pt t 0) a2 (qu (a96_ l) (La (cs:=(l96 l)) 1 ag96 sz96 a3 Z Z) (qu (pt t 0) (Nk Z) (qu (pt t 1) (Fa fo98_1 Z Z) (We (Sg (v:=(a96_ l)) (vl:=(l96 l)) (arr':=[o,(Iv l.At),(Iv l.Code),(Sv l.Op),(Iv l.Where)]) Z sz96 Z Z (onb Z) Z Z Z) Z ?_)))))
 rintro _ _ _ - ⟨rfl,rfl⟩
 refine Ns (qu (pt U 2) (Fa fo130_2 a4 Z) (qu p (Lb 2 pl23 Z Z Z) (qa p (Nt (Cr (Qa (Dr (Qa (Dr (Qa (Dr ?_)))))))))))
 exact Rf h [[(t, .cells #[o,(Iv l.At),(Iv l.Code),(Sv l.Op),(Iv l.Where)] 98 (0,0))]] Z (Rs Z Z) b0 ⟨p,Z,Z,c9⟩
noncomputable def f_ref05_Cursor_Refuse (a0:T_ref05_Cursor) (a1:ByteArray) (a2:Int):Option (Int×ByteArray×Int):=
 (if(decide (a0.S.Code=(0:Int)))=true then(some (a2,a1,a0.S.At))else(some (a0.S.Code,a0.S.Op,a0.S.Where)))
def f_ref05_Cursor_Refuse_post (a0:T_ref05_Cursor) (a1:ByteArray) (a2:Int) (a:Value) (b:Nat):(Int×ByteArray×Int)→Value→IM→HL→Prop:=
 fun(p_:(Int×ByteArray×Int)) (v:Value) (M':IM) (H':HL)=>match p_ with |(c,d,e)=>(.tuple #[])=v∧H'=[[(b, .cells #[a,(.int .i64 a0.S.At),(.int .i64 c),(.string d),(.int .i64 e)] 98 (0,0))]]
theorem f_ref05_Cursor_Refuse_ok (a0:T_ref05_Cursor) (a1:ByteArray) (a2:Int) (M:IM) (a:Value) (b:Nat) (d:RS (Kd.int .u8) M a a0.B) (res:(Int×ByteArray×Int)) (h:f_ref05_Cursor_Refuse a0 a1 a2=some res):
 Tri prog 88 #[(pt b 0),(Sv a1),(Iv a2)] M [[(b, .cells (l98 a0 a).toArray 98 (0,0))]] (f_ref05_Cursor_Refuse_post a0 a1 a2 a b res):=by
 unfold f_ref05_Cursor_Refuse at h
 refine Te func88 Z Z ?_
 intro F ρ hρ
 refine Sr (qM (pt b 0) (hρ 0) (qu (pt b 0) (Nk Z) (qu (pt b 1) (Fa fo98_1 Z Z) (qu (pt b 2) (Fa fo96_1 Z Z) (qu (Iv a0.S.Code) (Lb 0 pl38 Z Z Z) (qu (Bv (decide (a0.S.Code=0))) (eql Z Z) (Nt (Ch h Z (fun c h=> ?_) (fun c h=> ?_)))))))))
 refine WC.draw [0,0,2,6,14,30,0,0,0,256,768,1792,3840,8190,16383,32767,65535] (.pure 0 (.pure 1 (.pure 2 (.pure 3 (.pure 4 (.pure 5 (.pure 6 (.pure 7 (.pure 8 (.pure 9 (.pure 10 (.pure 11 (.pure 12 (.pure 13 (.pure 14 (.pure 15 (.alt 16 .done .none))))))))))))))))) mixed (by kernel_rfl) (qt (pt b 0) Z (Mv (hρ 0)) (qt (pt b 0) Z (Mv (hρ 0)) (qt (pt b 0) Z (Nk Z) (qt (pt b 1) Z (Fa fo98_1 Z Z) (qt (pt b 1) Z (Fa fo96_0 Z Z) (qt (Iv a0.S.At) Z (Lb 0 pl3 Z Z Z) (qt (Iv a2) Z (Mv (hρ 2)) (qt (Sv a1) Z (Mv (hρ 1)) (qt (pt b 0) Z (Mv (hρ 0)) (qt (pt b 0) Z (Nk Z) (qt (pt b 1) Z (Fa fo98_1 Z Z) ?_)))))))))))
 refine qt (pt b 1) Z (Fa fo96_0 Z Z) (qt (Iv a0.S.At) Z (Lb 0 pl3 Z Z Z) (qt (.agg #[(Iv a0.S.At),(Iv a2),(Sv a1),(Iv a0.S.At)]) Z (Bl (cl:=[(Iv a0.S.At),(Iv a2),(Sv a1),(Iv a0.S.At)]) ze96 fp96 (Pc (Iv a0.S.At) Z Z (Pc (Iv a2) Z Z (Pc (Sv a1) Z Z (Pc (Iv a0.S.At) Z Z Pz)))) Z) (qt (pt b 0) Z (Nk Z) (qt (pt b 1) Z (Fa fo98_1 Z Z) (Ta Z (Sg (v:=(.agg #[(Iv a0.S.At),(Iv a2),(Sv a1),(Iv a0.S.At)])) (vl:=[(Iv a0.S.At),(Iv a2),(Sv a1),(Iv a0.S.At)]) (arr':=[a,(Iv a0.S.At),(Iv a2),(Sv a1),(Iv a0.S.At)]) Z sz96 Z Z (onb Z) Z Z Z) Z ?_ ?_)))))
 rintro _ _ _ - ⟨rfl,rfl⟩
 refine⟨(Sl Z), ?_⟩
 exact Ti (WQ.endsF h [[(b, .cells #[a,(Iv a0.S.At),(Iv a2),(Sv a1),(Iv a0.S.At)] 98 (0,0))]] Z (results0 Z) lr ⟨Z,Z⟩)
 exact Tz
 exact Ck (WQ.endsF h [[(b, .cells (l98 a0 a).toArray 98 (0,0))]] Z (results0 Z) lr ⟨Z,Z⟩)
noncomputable def f_ref05_has_l0 (a1:Int) (b:ByteArray) (s_:Int):Option (Int⊕(Unit⊕Unit)):=
 match s_ with
 |a=>
 (if(decide (a<(b.size:Int)))=true then(grd (0≤a∧a<b.size) (if(decide ((btAt b a)=a1))=true then(some (inr (inr ())))else(some (inl (i64.wrap (a+(1:Int)))))))else(some (inr (inl ()))))
noncomputable def f_ref05_has (a0:Int) (a1:Int):Option Bool:=
 (((if(decide (a0=(2:Int)))=true then(some (⟨#[98,101,114]⟩:ByteArray))else(((if(decide (a0=(3:Int)))=true then(some (decide (a0=(3:Int))))else(if(decide (a0=(4:Int)))=true then(some (decide (a0=(4:Int))))else(if(decide (a0=(5:Int)))=true then(some (decide (a0=(5:Int))))else(some (decide (a0=(6:Int))))))):Option Bool).bind fun a=>(if a=true then(some (⟨#[98,101]⟩:ByteArray))else(if(decide (a0=(7:Int)))=true then(some (⟨#[116,110]⟩:ByteArray))else(if(decide (a0=(8:Int)))=true then(some (⟨#[116,112,108,105,109]⟩:ByteArray))else(if(decide (a0=(9:Int)))=true then(some (⟨#[116,101,112,108,105,109,120]⟩:ByteArray))else(if(decide (a0=(10:Int)))=true then(some (⟨#[116,107,118,102]⟩:ByteArray))else(if(decide (a0=(11:Int)))=true then(some (⟨#[116]⟩:ByteArray))else(if(decide (a0=(12:Int)))=true then(some (⟨#[97]⟩:ByteArray))else(some (⟨#[]⟩:ByteArray))))))))))):Option ByteArray).bind fun b=>((((iter (f_ref05_has_l0 a1 b) (0:Int)).bind (Sum.elim (fun _=>(some (inl ()))) (fun _=>(((some true)).bind fun r=>some (inr r))))):Option (Unit⊕Bool)).bind (Sum.elim (fun _=>(some false)) some)))
def f_ref05_has_post (a0:Int) (a1:Int):Bool→Value→IM→HL→Prop:=
 fun(a:Bool) (v:Value) (M':IM) (H':HL)=>(.bool a)=v∧H'=[]
theorem f_ref05_has_ok (a0:Int) (a1:Int) (M:IM) (res:Bool) (h:f_ref05_has a0 a1=some res):
 Tri prog 105 #[(Iv a0),(Yv a1)] M [] (f_ref05_has_post a0 a1 res):=by
 unfold f_ref05_has at h
 refine Te func105 Z Z ?_
 intro F ρ hρ
 refine Sr (qa (Bv false) (Ns (qa (Sv ⟨#[]⟩) (Nt ?_))))
 obtain ⟨e,u,h⟩:=bnd h
 refine Jf (fun(e:ByteArray) ρ' M' H'=>M.le M'∧F=H'∧ρ' 1=(Yv a1)∧ρ' 5=(Sv e)) e ?_ ?_
 have h:=u
 refine Sr (qM (Iv a0) (hρ 0) (Nt (Bk (Sr (qu (Bv (decide (a0=2))) (eql Z Z) (qa (Bv (decide (a0=2))) (Nt (Ch h Z (fun v h=> ?_) (fun v h=> ?_)))))))))
 refine Cg (qa (Sv ⟨#[98,101,114]⟩) (Wz (Bn ?_)))
 obtain rfl:=oi h
 exact Tj ⟨lr,Z,(hρ 1),Z⟩
 obtain ⟨s,w,h⟩:=bnd h
 refine Jf (fun(s:Bool) ρ' M' H'=>M.le M'∧F=H'∧ρ' 1=(Yv a1)∧ρ' 5=(Sv ⟨#[]⟩)∧ρ' 7=(Iv a0)∧ρ' 10=(Bv s)) s ?_ ?_
 have h:=w
 refine Sr (qu (Bv (decide (a0=3))) (eql Z Z) (qa (Bv (decide (a0=3))) (Nt (Ch h Z (fun x h=> ?_) (fun x h=> ?_)))))
 refine Ck ?_
 obtain rfl:=oi h
 exact Tj ⟨lr,Z,(hρ 1),Z,Z,Z⟩
 refine Sr (qu (Bv (decide (a0=4))) (eql Z Z) (qa (Bv (decide (a0=4))) (Nt (Ch h Z (fun y h=> ?_) (fun y h=> ?_)))))
 refine Ck ?_
 obtain rfl:=oi h
 exact Tj ⟨lr,Z,(hρ 1),Z,Z,Z⟩
 refine Sr (qu (Bv (decide (a0=5))) (eql Z Z) (qa (Bv (decide (a0=5))) (Nt (Ch h Z (fun z h=> ?_) (fun z h=> ?_)))))
 refine Ck ?_
 obtain rfl:=oi h
 exact Tj ⟨lr,Z,(hρ 1),Z,Z,Z⟩
 refine Cg (qu (Bv (decide (a0=6))) (eql Z Z) (qa (Bv (decide (a0=6))) (Wz ?_)))
 obtain rfl:=oi h
 exact Tj ⟨lr,Z,(hρ 1),Z,Z,Z⟩
 rintro R S T ⟨b,rfl,a,n,c,l⟩
 refine Ch h l (fun A h=> ?_) (fun A h=> ?_)
 refine Cg (qa (Sv ⟨#[98,101]⟩) (Wz (Bn ?_)))
 obtain rfl:=oi h
 exact Tj ⟨b,Z,a,Z⟩
 refine Sr (qu (Bv (decide (a0=7))) (eql c Z) (qa (Bv (decide (a0=7))) (Nt (Ch h Z (fun B h=> ?_) (fun B h=> ?_)))))
 refine Cg (qa (Sv ⟨#[116,110]⟩) (Wz (Bn ?_)))
 obtain rfl:=oi h
 exact Tj ⟨b,Z,a,Z⟩
 refine Sr (qu (Bv (decide (a0=8))) (eql c Z) (qa (Bv (decide (a0=8))) (Nt (Ch h Z (fun C h=> ?_) (fun C h=> ?_)))))
 refine Cg (qa (Sv ⟨#[116,112,108,105,109]⟩) (Wz (Bn ?_)))
 obtain rfl:=oi h
 exact Tj ⟨b,Z,a,Z⟩
 refine Sr (qu (Bv (decide (a0=9))) (eql c Z) (qa (Bv (decide (a0=9))) (Nt (Ch h Z (fun D h=> ?_) (fun D h=> ?_)))))
 refine Cg (qa (Sv ⟨#[116,101,112,108,105,109,120]⟩) (Wz (Bn ?_)))
 obtain rfl:=oi h
 exact Tj ⟨b,Z,a,Z⟩
 refine Sr (qu (Bv (decide (a0=10))) (eql c Z) (qa (Bv (decide (a0=10))) (Nt (Ch h Z (fun E h=> ?_) (fun E h=> ?_)))))
 refine Cg (qa (Sv ⟨#[116,107,118,102]⟩) (Wz (Bn ?_)))
 obtain rfl:=oi h
 exact Tj ⟨b,Z,a,Z⟩
 refine Sr (qu (Bv (decide (a0=11))) (eql c Z) (qa (Bv (decide (a0=11))) (Nt (Ch h Z (fun G h=> ?_) (fun G h=> ?_)))))
 refine Cg (qa (Sv ⟨#[116]⟩) (Wz (Bn ?_)))
 obtain rfl:=oi h
 exact Tj ⟨b,Z,a,Z⟩
 refine Sr (qu (Bv (decide (a0=12))) (eql c Z) (qa (Bv (decide (a0=12))) (Nt (Ch h Z (fun I h=> ?_) (fun I h=> ?_)))))
 refine Cg (qa (Sv ⟨#[97]⟩) (Wz (Bn ?_)))
 obtain rfl:=oi h
 exact Tj ⟨b,Z,a,Z⟩
 refine Ck (Bn ?_)
 obtain rfl:=oi h
 exact Tj ⟨b,Z,a,n⟩
 rintro U J V ⟨m,rfl,o,p⟩
 obtain ⟨Q,K,h⟩:=bnd h
 refine WC.joinE (fun(_:Unit) ρ' M' H'=>J.le M'∧F=H') Q ?_ ?_
 have L:=h
 have h:=K
 refine Sr (qa (Iv 0) (Nt (Bk ?_)))
 obtain ⟨W,N,q⟩:=bnd h
 clear h
 refine WC.loop N (fun(d:Int) ρ' M' H'=>J.le M'∧F=H'∧ρ' 1=(Yv a1)∧ρ' 5=(Sv e)∧ρ' 6=(Iv d)) ?_ ?_
 exact⟨lr,Z,o,p,Z⟩
 rintro d X Y a2 a3 h ⟨i,rfl,k,f,g⟩
 unfold f_ref05_has_l0 at h
 refine Cs (Sr (qM (Iv d) g (qM (Sv e) f (qu (Iv (e.size:Int)) (lenStr underlying9 Z) (qu (Bv (decide (d<(e.size:Int)))) (lss Z Z) (Nt (Ch h Z (fun O h=> ?_) (fun O h=> ?_))))))))
 refine Ck (Tc (Cs (Bk (Sr (qM (Sv e) f (qM (Iv d) g ?_))))))
 obtain ⟨r,h⟩:=grd_i h
 refine qu (Yv (btAt e d)) (indexStr underlying9 Z Z r.1 (strAt r)) (qM (Yv a1) k (qu (Bv (decide ((btAt e d)=a1))) (eql Z Z) (Nt (Ch h Z (fun P h=> ?_) (fun P h=> ?_)))))
 refine Sr (qa (Bv true) (Nt (Cr (Br (Tr (WQ.leaveR (inr ()) (oi h).symm (fun j=> ?_)))))))
 subst j
 have h:=(elimR q)
 refine Br (Tr ?_)
 have h:=KK.early h L
 exact Rf h [] Z (Rs Z Z) (m.trans i) ⟨Z,Z⟩
 exact Ck (Bn (Tc (Cg (qM (Iv d) g (qu (Iv (i64.wrap (d+1))) (add Z Z) (qa (Iv (i64.wrap (d+1))) (Wz (WQ.again (i64.wrap (d+1)) (oi h).symm ⟨i,Z,k,f,Z⟩))))))))
 refine WC.exit (WQ.thenE (WQ.leaveE (inl ()) (oi h).symm (fun j=> ?_)))
 subst j
 have h:=elimL q
 exact WQ.blockH (WQ.thenFE h ⟨i,Z⟩)
 rintro _ a4 a5 a6 rfl ⟨t,rfl⟩
 have h:=(Sum.elim_inl _ _ _).symm.trans h
 exact Sr (qa (Bv false) (Nt (Cr (Rf h [] Z (Rs Z Z) (m.trans t) ⟨Z,Z⟩))))
noncomputable def f_ref05_Cursor_some (a0:T_ref05_Cursor) (a1:Bool):Option (Int×Int×Int×ByteArray×Int):=
 (if(!a1)=true then(some ((0:Int),a0.S.At,a0.S.Code,a0.S.Op,a0.S.Where))else((f_ref05_Cursor_Int a0 (1073741824:Int)).bind fun(a,b,c,d,e)=>(some (a,b,c,d,e))))
def f_ref05_Cursor_some_post (a0:T_ref05_Cursor) (a1:Bool) (a:Value) (b:Nat):(Int×Int×Int×ByteArray×Int)→Value→IM→HL→Prop:=
 fun(p_:(Int×Int×Int×ByteArray×Int)) (v:Value) (M':IM) (H':HL)=>match p_ with |(c,d,e,f,g)=>(.int .i64 c)=v∧H'=[[(b, .cells #[a,(.int .i64 d),(.int .i64 e),(.string f),(.int .i64 g)] 98 (0,0))]]
theorem f_ref05_Cursor_some_ok (a0:T_ref05_Cursor) (a1:Bool) (M:IM) (a:Value) (c:Nat) (d:RS (Kd.int .u8) M a a0.B) (res:(Int×Int×Int×ByteArray×Int)) (h:f_ref05_Cursor_some a0 a1=some res):
 Tri prog 130 #[(pt c 0),(Bv a1)] M [[(c, .cells (l98 a0 a).toArray 98 (0,0))]] (f_ref05_Cursor_some_post a0 a1 a c res):=by
 unfold f_ref05_Cursor_some at h
 refine Te func130 Z Z ?_
 intro F ρ hρ
 refine Sr (qa (Iv 0) (Nt (Cs (Sr (qM (Bv a1) (hρ 1) (qu (Bv (!a1)) (PO.not Z) (Nt (Ch h Z (fun e h=> ?_) (fun e h=> ?_)))))))))
 exact Sr (qa (Iv 0) (Nt (Cr (Tr (Rf h [[(c, .cells (l98 a0 a).toArray 98 (0,0))]] Z (Rs Z Z) lr ⟨Z,Z⟩)))))
 refine Ck (Tc (Sr (qM (pt c 0) (hρ 0) ?_)))
 obtain ⟨⟨f,g,i,j,k⟩,l,h⟩:=bnd h
 refine We (Cb co58 (f_ref05_Cursor_Int_ok a0 (1073741824:Int) _ _ _ d (f,g,i,j,k) l) (args2 Z Z)) Z ?_
 rintro _ m _ b ⟨_,⟨rfl,rfl⟩,rfl⟩
 exact WL.a1 (qa (Iv f) (Nt (Cr (Rf h [[(c, .cells #[a,(Iv g),(Iv i),(Sv j),(Iv k)] 98 (0,0))]] Z (Rs Z Z) b ⟨Z,Z⟩))))
noncomputable def f_ref05_Cursor_word (a0:T_ref05_Cursor) (a1:Bool):Option (ByteArray×Int×Int×ByteArray×Int):=
 (if(!a1)=true then(some ((⟨#[]⟩:ByteArray),a0.S.At,a0.S.Code,a0.S.Op,a0.S.Where))else((f_ref05_Cursor_Text a0 (256:Int)).bind fun(a,b,c,d,e)=>(some (strOfNums a,b,c,d,e))))
def f_ref05_Cursor_word_post (a0:T_ref05_Cursor) (a1:Bool) (a:Value) (b:Nat):(ByteArray×Int×Int×ByteArray×Int)→Value→IM→HL→Prop:=
 fun(p_:(ByteArray×Int×Int×ByteArray×Int)) (v:Value) (M':IM) (H':HL)=>match p_ with |(c,d,e,f,g)=>(.string c)=v∧H'=[[(b, .cells #[a,(.int .i64 d),(.int .i64 e),(.string f),(.int .i64 g)] 98 (0,0))]]
theorem f_ref05_Cursor_word_ok (a0:T_ref05_Cursor) (a1:Bool) (M:IM) (a:Value) (d:Nat) (e:RS (Kd.int .u8) M a a0.B) (res:(ByteArray×Int×Int×ByteArray×Int)) (h:f_ref05_Cursor_word a0 a1=some res):
 Tri prog 131 #[(pt d 0),(Bv a1)] M [[(d, .cells (l98 a0 a).toArray 98 (0,0))]] (f_ref05_Cursor_word_post a0 a1 a d res):=by
 unfold f_ref05_Cursor_word at h
 refine Te func131 Z Z ?_
 intro F ρ hρ
 refine Sr (qa (Sv ⟨#[]⟩) (Nt (Cs (Sr (qM (Bv a1) (hρ 1) (qu (Bv (!a1)) (PO.not Z) (Nt (Ch h Z (fun f h=> ?_) (fun f h=> ?_)))))))))
 exact Sr (qa (Sv ⟨#[]⟩) (Nt (Cr (Tr (Rf h [[(d, .cells (l98 a0 a).toArray 98 (0,0))]] Z (Rs Z Z) lr ⟨Z,Z⟩)))))
 refine Ck (Tc (Sr (qM (pt d 0) (hρ 0) ?_)))
 obtain ⟨⟨b,g,i,j,k⟩,l,h⟩:=bnd h
 refine We (Cb co61 (f_ref05_Cursor_Text_ok a0 (256:Int) _ _ _ e (b,g,i,j,k) l) (args2 Z Z)) Z ?_
 rintro _ o _ c ⟨_,⟨n,rfl,rfl,m⟩,rfl⟩
 exact WL.a1 (qu (Sv (strOfNums b)) (b2s (ys:=b) underlying23 underlying5 underlying9 Z (m.src _)) (qa (Sv (strOfNums b)) (Nt (Cr (Rf h [[(d, .cells #[a,(Iv g),(Iv i),(Sv j),(Iv k)] 98 (0,0))]] Z (Rs Z Z) c ⟨Z,Z⟩)))))
noncomputable def f_ref05_Cursor_Row (a0:T_ref05_Cursor) (a1:Int) (a2:Int):Option ((List Int)×Int×Int×ByteArray×Int):=
 ((((f_ref02_Read a0.B a0.S (⟨(4:Int),a1,a2⟩:T_ref02_Ask)).bind fun(c,a)=>(some (c,a.Num,a.Flag,a.Text,a.Row))):Option (T_ref02_State×Int×Bool×(List Int)×(List Int))).bind fun(b,e,f,g,d)=>(some (d,b.At,b.Code,b.Op,b.Where)))
def f_ref05_Cursor_Row_post (a0:T_ref05_Cursor) (a1:Int) (a2:Int) (a:Value) (d:Nat):((List Int)×Int×Int×ByteArray×Int)→Value→IM→HL→Prop:=
 fun(p_:((List Int)×Int×Int×ByteArray×Int)) (v:Value) (M':IM) (H':HL)=>match p_ with |(e,f,g,i,j)=>∃ b c,b=v∧H'=[[(d, .cells #[a,(.int .i64 f),(.int .i64 g),(.string i),(.int .i64 j)] 98 (0,0))],c]∧OwnS (Kd.int .i64) M' b e c
theorem f_ref05_Cursor_Row_ok (a0:T_ref05_Cursor) (a1:Int) (a2:Int) (M:IM) (o:Value) (u:Nat) (s:RS (Kd.int .u8) M o a0.B) (res:((List Int)×Int×Int×ByteArray×Int)) (h:f_ref05_Cursor_Row a0 a1 a2=some res):
 Tri prog 145 #[(pt u 0),(Iv a1),(Iv a2)] M [[(u, .cells (l98 a0 o).toArray 98 (0,0))]] (f_ref05_Cursor_Row_post a0 a1 a2 o u res):=by
 unfold f_ref05_Cursor_Row at h
 refine Te func145 Z Z ?_
 intro F ρ hρ
 refine Sr (qa Zs (Nt ?_))
 obtain ⟨b2,b3,h⟩:=bnd h
 refine Jf (fun(p_:(T_ref02_State×Int×Bool×(List Int)×(List Int))) ρ' M' H'=>match p_ with |(l,b4,b5,b6,b7)=>∃ a6 U R p t,M.le M'∧[(u, .cells (l98 a0 o).toArray 98 (0,0))]::[(a6, .cells (l96 l).toArray 96 (0,0))]::[(U, .cells #[(Uv b4),(Bv b5),R,p] 130 (0,0))]::t::F=H'∧ρ' 0=(pt u 0)∧ρ' 7=(pt a6 0)∧ρ' 8=(pt U 0)∧RS (Kd.int .u8) M' R b6∧OwnS (Kd.int .i64) M' p b7 t) b2 ?_ ?_
 have h:=b3
 refine WC.draw [0,1,3,7,0,16,48,112,0,0,768,2047,4095,8191,8191,0,0,114687,262143] (.pure 0 (.pure 1 (.pure 2 (.pure 3 (.pure 4 (.pure 5 (.pure 6 (.pure 7 (.pure 8 (.pure 9 (.pure 10 (.alt 11 (.pure 12 (.pure 13 (.pure 14 (.alt 15 (.alt 16 (.alt 17 (.alt 18 .done .none) .none) .none) (.alt 16 (.alt 15 (.alt 17 (.alt 18 .done .none) .none) .none) .none))))) (.alt 15 (.alt 11 (.pure 12 (.pure 13 (.pure 14 (.alt 16 (.alt 17 (.alt 18 .done .none) .none) .none)))) (.alt 16 (.alt 11 (.pure 12 (.pure 13 (.pure 14 (.alt 17 (.alt 18 .done .none) .none)))) .none) .none)) (.alt 16 (.alt 11 (.pure 12 (.pure 13 (.pure 14 (.alt 15 (.alt 17 (.alt 18 .done .none) .none) .none)))) (.alt 15 (.alt 11 (.pure 12 (.pure 13 (.pure 14 (.alt 17 (.alt 18 .done .none) .none)))) .none) .none)) .none)))))))))))))) mixed (by kernel_rfl) (qt (pt u 0) Z (Mv (hρ 0)) (qt (pt u 0) Z (Nk Z) (qt (pt u 0) Z (Fa fo98_0 Z Z) (qt o Z (Lb 0 pl23 Z Z Z) (qt (pt u 0) Z (Mv (hρ 0)) (qt (pt u 0) Z (Nk Z) (qt (pt u 1) Z (Fa fo98_1 Z Z) (qt (a96_ a0.S) Z (La (cs:=(l96 a0.S)) 0 ag96 sz96 Z Z Z) (qt (Iv a1) Z (Mv (hρ 1)) (qt (Iv a2) Z (Mv (hρ 2)) (qt (.agg #[(Iv 4),(Iv a1),(Iv a2)]) Z (Bl (cl:=[(Iv 4),(Iv a1),(Iv a2)]) ze134 fp134 (Pc (Iv 4) Z Z (Pc (Iv a1) Z Z (Pc (Iv a2) Z Z Pz))) Z) ?_)))))))))))
 have b8:=h
 obtain ⟨⟨q,r⟩,b9,h⟩:=bnd h
 refine Ta Z (Ca co86 (f_ref02_Read_ok a0.B a0.S (⟨(4:Int),a1,a2⟩:T_ref02_Ask) _ _ s (q,r) b9) (args3 Z Z Z)) Z ?_ ?_
 rintro _ e0 _ T ⟨_,⟨a,b,w,rfl,rfl,m,n⟩,rfl⟩
 refine⟨(Sl Z), ?_⟩
 refine WT.a1 (qt (.tuple #[(a96_ q),(a130_ r a b)]) Z (Mv Z) (qt (a96_ q) Z (Xt Z Z) (qt (a130_ r a b) Z (Xt Z Z) ?_)))
 have c0:=h
 refine Ta Z (Al ze96 Z) Z ?_ ?_
 rintro _ _ _ - ⟨rfl,d1,rfl,rfl⟩
 refine⟨(Ss Z (Xt Z Z) Z (Ss Z (Xt Z Z) Z (Ss Z (Mv Z) Z (Ss Z (Bl (cl:=[(Iv 4),(Iv a1),(Iv a2)]) ze134 fp134 (Pc (Iv 4) Z Z (Pc (Iv a1) Z Z (Pc (Iv a2) Z Z Pz))) Z) Z (Ss Z (Mv (hρ 2)) Z (Ss Z (Mv (hρ 1)) Z (Ss Z (La (cs:=(l96 a0.S)) 2 ag96 sz96 Z Z Z) Z (Ss Z (Fa fo98_1 Z Z) Z (Ss Z (Nk Z) Z (Ss Z (Mv (hρ 0)) Z (Ss Z (Lb 2 pl23 Z Z Z) Z (Ss Z (Fa fo98_0 Z Z) Z (Ss Z (Nk Z) Z (Ss Z (Mv (hρ 0)) Z trivial)))))))))))))), ?_⟩
 refine Ta Z (Al ze130 Z) Z ?_ ?_
 rintro _ _ _ - ⟨rfl,d2,rfl,rfl⟩
 refine⟨(Ss Z (Xt Z Z) Z (Ss Z (Xt Z Z) Z (Ss Z (Mv Z) Z (Ss Z (Bl (cl:=[(Iv 4),(Iv a1),(Iv a2)]) ze134 fp134 (Pc (Iv 4) Z Z (Pc (Iv a1) Z Z (Pc (Iv a2) Z Z Pz))) Z) Z (Ss Z (Mv (hρ 2)) Z (Ss Z (Mv (hρ 1)) Z (Ss Z (La (cs:=(l96 a0.S)) 3 ag96 sz96 Z Z Z) Z (Ss Z (Fa fo98_1 Z Z) Z (Ss Z (Nk Z) Z (Ss Z (Mv (hρ 0)) Z (Ss Z (Lb 3 pl23 Z Z Z) Z (Ss Z (Fa fo98_0 Z Z) Z (Ss Z (Nk Z) Z (Ss Z (Mv (hρ 0)) Z trivial)))))))))))))), ?_⟩
 refine WT.f1 (Ta Z (Sg (v:=(a96_ q)) (vl:=(l96 q)) (arr':=(l96 q)) Z sz96 Z Z (onb Z) Z Z Z) Z ?_ ?_)
 rintro _ _ _ - ⟨rfl,rfl⟩
 refine⟨(Ss Z (Xt Z Z) Z (Sl Z)), ?_⟩
 refine WT.f1 (Ta Z (Sg (v:=(a130_ r a b)) (vl:=(l130 r a b)) (arr':=(l130 r a b)) Z sz130 Z Z (onesOf (Oc Z (Oc Z (Oc (RS.one m) (Oc (Ow n) Oz))))) Z Z Z) Z ?_ ?_)
 rintro _ _ _ - ⟨rfl,rfl⟩
 refine⟨(Sl Z), ?_⟩
 refine Ti (Qb (Qa (Qb (WQ.f3 ?_))))
 obtain rfl:=oi h
 exact Tj ⟨d1,d2,a,b,w,T,Z,(hρ 0),Z,Z,m,n⟩
 exact Tz
 exact Tz
 exact Tz
 have h:=c0
 refine Ta Z (Al ze130 Z) Z ?_ ?_
 rintro _ _ _ - ⟨rfl,d3,rfl,rfl⟩
 refine⟨(Ss Z (Xt Z Z) Z (Ss Z (Xt Z Z) Z (Ss Z (Mv Z) Z (Ss Z (Bl (cl:=[(Iv 4),(Iv a1),(Iv a2)]) ze134 fp134 (Pc (Iv 4) Z Z (Pc (Iv a1) Z Z (Pc (Iv a2) Z Z Pz))) Z) Z (Ss Z (Mv (hρ 2)) Z (Ss Z (Mv (hρ 1)) Z (Ss Z (La (cs:=(l96 a0.S)) 2 ag96 sz96 Z Z Z) Z (Ss Z (Fa fo98_1 Z Z) Z (Ss Z (Nk Z) Z (Ss Z (Mv (hρ 0)) Z (Ss Z (Lb 2 pl23 Z Z Z) Z (Ss Z (Fa fo98_0 Z Z) Z (Ss Z (Nk Z) Z (Ss Z (Mv (hρ 0)) Z trivial)))))))))))))), ?_⟩
 refine Ta Z (Al ze96 Z) Z ?_ ?_
 rintro _ _ _ - ⟨rfl,d4,rfl,rfl⟩
 refine⟨(Ss Z (Xt Z Z) Z (Ss Z (Xt Z Z) Z (Ss Z (Mv Z) Z (Ss Z (Bl (cl:=[(Iv 4),(Iv a1),(Iv a2)]) ze134 fp134 (Pc (Iv 4) Z Z (Pc (Iv a1) Z Z (Pc (Iv a2) Z Z Pz))) Z) Z (Ss Z (Mv (hρ 2)) Z (Ss Z (Mv (hρ 1)) Z (Ss Z (La (cs:=(l96 a0.S)) 3 ag96 sz96 Z Z Z) Z (Ss Z (Fa fo98_1 Z Z) Z (Ss Z (Nk Z) Z (Ss Z (Mv (hρ 0)) Z (Ss Z (Lb 3 pl23 Z Z Z) Z (Ss Z (Fa fo98_0 Z Z) Z (Ss Z (Nk Z) Z (Ss Z (Mv (hρ 0)) Z trivial)))))))))))))), ?_⟩
 refine Ta Z (Sg (v:=(a96_ q)) (vl:=(l96 q)) (arr':=(l96 q)) Z sz96 Z Z (onb Z) Z Z Z) Z ?_ ?_
 rintro _ _ _ - ⟨rfl,rfl⟩
 refine⟨(Ss Z (Xt Z Z) Z (Sl Z)), ?_⟩
 refine WT.f1 (Ta Z (Sg (v:=(a130_ r a b)) (vl:=(l130 r a b)) (arr':=(l130 r a b)) Z sz130 Z Z (onesOf (Oc Z (Oc Z (Oc (RS.one m) (Oc (Ow n) Oz))))) Z Z Z) Z ?_ ?_)
 rintro _ _ _ - ⟨rfl,rfl⟩
 refine⟨(Sl Z), ?_⟩
 refine Ti (Qb (Qa (Qb (WQ.f3 ?_))))
 obtain rfl:=oi h
 exact Tj ⟨d4,d3,a,b,w,T,Z,(hρ 0),Z,Z,m,n⟩
 exact Tz
 exact Tz
 exact Tz
 exact Tz
 have h:=b8
 have c1:=h
 refine Ta Z (Al ze96 Z) Z ?_ ?_
 rintro _ _ _ - ⟨rfl,c2,rfl,rfl⟩
 refine⟨(Ss Z (Bl (cl:=[(Iv 4),(Iv a1),(Iv a2)]) ze134 fp134 (Pc (Iv 4) Z Z (Pc (Iv a1) Z Z (Pc (Iv a2) Z Z Pz))) Z) Z (Ss Z (Mv (hρ 2)) Z (Ss Z (Mv (hρ 1)) Z (Ss Z (La (cs:=(l96 a0.S)) 1 ag96 sz96 Z Z Z) Z (Ss Z (Fa fo98_1 Z Z) Z (Ss Z (Nk Z) Z (Ss Z (Mv (hρ 0)) Z (Ss Z (Lb 1 pl23 Z Z Z) Z (Ss Z (Fa fo98_0 Z Z) Z (Ss Z (Nk Z) Z (Ss Z (Mv (hρ 0)) Z trivial))))))))))), ?_⟩
 have c3:=h
 obtain ⟨⟨I,J⟩,c4,h⟩:=bnd h
 refine Ta Z (Ca co86 (f_ref02_Read_ok a0.B a0.S (⟨(4:Int),a1,a2⟩:T_ref02_Ask) _ _ s (I,J) c4) (args3 Z Z Z)) Z ?_ ?_
 rintro _ e1 _ a7 ⟨_,⟨c,d,V,rfl,rfl,x,y⟩,rfl⟩
 refine⟨(Sl Z), ?_⟩
 refine WT.a1 (qt (.tuple #[(a96_ I),(a130_ J c d)]) Z (Mv Z) (qt (a96_ I) Z (Xt Z Z) (qt (a130_ J c d) Z (Xt Z Z) (Ta Z (Al ze130 Z) Z ?_ ?_))))
 rintro _ _ _ - ⟨rfl,d5,rfl,rfl⟩
 refine⟨(Ss Z (Xt Z Z) Z (Ss Z (Xt Z Z) Z (Ss Z (Mv Z) Z (Ss Z (Bl (cl:=[(Iv 4),(Iv a1),(Iv a2)]) ze134 fp134 (Pc (Iv 4) Z Z (Pc (Iv a1) Z Z (Pc (Iv a2) Z Z Pz))) Z) Z (Ss Z (Mv (hρ 2)) Z (Ss Z (Mv (hρ 1)) Z (Ss Z (La (cs:=(l96 a0.S)) 3 ag96 sz96 Z Z Z) Z (Ss Z (Fa fo98_1 Z Z) Z (Ss Z (Nk Z) Z (Ss Z (Mv (hρ 0)) Z (Ss Z (Lb 3 pl23 Z Z Z) Z (Ss Z (Fa fo98_0 Z Z) Z (Ss Z (Nk Z) Z (Ss Z (Mv (hρ 0)) Z trivial)))))))))))))), ?_⟩
 refine WT.f2 (Ta Z (Sg (v:=(a96_ I)) (vl:=(l96 I)) (arr':=(l96 I)) Z sz96 Z Z (onb Z) Z Z Z) Z ?_ ?_)
 rintro _ _ _ - ⟨rfl,rfl⟩
 refine⟨(Ss Z (Xt Z Z) Z (Sl Z)), ?_⟩
 refine WT.f1 (Ta Z (Sg (v:=(a130_ J c d)) (vl:=(l130 J c d)) (arr':=(l130 J c d)) Z sz130 Z Z (onesOf (Oc Z (Oc Z (Oc (RS.one x) (Oc (Ow y) Oz))))) Z Z Z) Z ?_ ?_)
 rintro _ _ _ - ⟨rfl,rfl⟩
 refine⟨(Sl Z), ?_⟩
 refine Ti (Qb (Qa (Qb (WQ.f3 ?_))))
 obtain rfl:=oi h
 exact Tj ⟨c2,d5,c,d,V,a7,Z,(hρ 0),Z,Z,x,y⟩
 exact Tz
 exact Tz
 exact Tz
 have h:=c3
 refine Ta Z (Al ze130 Z) Z ?_ ?_
 rintro _ _ _ - ⟨rfl,d6,rfl,rfl⟩
 refine⟨(Ss Z (Bl (cl:=[(Iv 4),(Iv a1),(Iv a2)]) ze134 fp134 (Pc (Iv 4) Z Z (Pc (Iv a1) Z Z (Pc (Iv a2) Z Z Pz))) Z) Z (Ss Z (Mv (hρ 2)) Z (Ss Z (Mv (hρ 1)) Z (Ss Z (La (cs:=(l96 a0.S)) 2 ag96 sz96 Z Z Z) Z (Ss Z (Fa fo98_1 Z Z) Z (Ss Z (Nk Z) Z (Ss Z (Mv (hρ 0)) Z (Ss Z (Lb 2 pl23 Z Z Z) Z (Ss Z (Fa fo98_0 Z Z) Z (Ss Z (Nk Z) Z (Ss Z (Mv (hρ 0)) Z trivial))))))))))), ?_⟩
 obtain ⟨⟨K,L⟩,c5,h⟩:=bnd h
 refine Ta Z (Ca co86 (f_ref02_Read_ok a0.B a0.S (⟨(4:Int),a1,a2⟩:T_ref02_Ask) _ _ s (K,L) c5) (args3 Z Z Z)) Z ?_ ?_
 rintro _ e2 _ a8 ⟨_,⟨e,f,W,rfl,rfl,z,A⟩,rfl⟩
 refine⟨(Sl Z), ?_⟩
 refine WT.a1 (qt (.tuple #[(a96_ K),(a130_ L e f)]) Z (Mv Z) (qt (a96_ K) Z (Xt Z Z) (qt (a130_ L e f) Z (Xt Z Z) (WT.f2 (Ta Z (Sg (v:=(a96_ K)) (vl:=(l96 K)) (arr':=(l96 K)) Z sz96 Z Z (onb Z) Z Z Z) Z ?_ ?_)))))
 rintro _ _ _ - ⟨rfl,rfl⟩
 refine⟨(Ss Z (Xt Z Z) Z (Sl Z)), ?_⟩
 refine WT.f2 (Ta Z (Sg (v:=(a130_ L e f)) (vl:=(l130 L e f)) (arr':=(l130 L e f)) Z sz130 Z Z (onesOf (Oc Z (Oc Z (Oc (RS.one z) (Oc (Ow A) Oz))))) Z Z Z) Z ?_ ?_)
 rintro _ _ _ - ⟨rfl,rfl⟩
 refine⟨(Sl Z), ?_⟩
 refine Ti (Qb (Qa (Qb (WQ.f3 ?_))))
 obtain rfl:=oi h
 exact Tj ⟨c2,d6,e,f,W,a8,Z,(hρ 0),Z,Z,z,A⟩
 exact Tz
 exact Tz
 exact Tz
 exact Tz
 have h:=c1
 refine Ta Z (Al ze130 Z) Z ?_ ?_
 rintro _ _ _ - ⟨rfl,c6,rfl,rfl⟩
 refine⟨(Ss Z (Bl (cl:=[(Iv 4),(Iv a1),(Iv a2)]) ze134 fp134 (Pc (Iv 4) Z Z (Pc (Iv a1) Z Z (Pc (Iv a2) Z Z Pz))) Z) Z (Ss Z (Mv (hρ 2)) Z (Ss Z (Mv (hρ 1)) Z (Ss Z (La (cs:=(l96 a0.S)) 1 ag96 sz96 Z Z Z) Z (Ss Z (Fa fo98_1 Z Z) Z (Ss Z (Nk Z) Z (Ss Z (Mv (hρ 0)) Z (Ss Z (Lb 1 pl23 Z Z Z) Z (Ss Z (Fa fo98_0 Z Z) Z (Ss Z (Nk Z) Z (Ss Z (Mv (hρ 0)) Z trivial))))))))))), ?_⟩
 have c7:=h
 obtain ⟨⟨N,O⟩,c8,h⟩:=bnd h
 refine Ta Z (Ca co86 (f_ref02_Read_ok a0.B a0.S (⟨(4:Int),a1,a2⟩:T_ref02_Ask) _ _ s (N,O) c8) (args3 Z Z Z)) Z ?_ ?_
 rintro _ e3 _ a9 ⟨_,⟨g,i,X,rfl,rfl,C,D⟩,rfl⟩
 refine⟨(Sl Z), ?_⟩
 refine WT.a1 (qt (.tuple #[(a96_ N),(a130_ O g i)]) Z (Mv Z) (qt (a96_ N) Z (Xt Z Z) (qt (a130_ O g i) Z (Xt Z Z) (Ta Z (Al ze96 Z) Z ?_ ?_))))
 rintro _ _ _ - ⟨rfl,d7,rfl,rfl⟩
 refine⟨(Ss Z (Xt Z Z) Z (Ss Z (Xt Z Z) Z (Ss Z (Mv Z) Z (Ss Z (Bl (cl:=[(Iv 4),(Iv a1),(Iv a2)]) ze134 fp134 (Pc (Iv 4) Z Z (Pc (Iv a1) Z Z (Pc (Iv a2) Z Z Pz))) Z) Z (Ss Z (Mv (hρ 2)) Z (Ss Z (Mv (hρ 1)) Z (Ss Z (La (cs:=(l96 a0.S)) 3 ag96 sz96 Z Z Z) Z (Ss Z (Fa fo98_1 Z Z) Z (Ss Z (Nk Z) Z (Ss Z (Mv (hρ 0)) Z (Ss Z (Lb 3 pl23 Z Z Z) Z (Ss Z (Fa fo98_0 Z Z) Z (Ss Z (Nk Z) Z (Ss Z (Mv (hρ 0)) Z trivial)))))))))))))), ?_⟩
 refine Ta Z (Sg (v:=(a96_ N)) (vl:=(l96 N)) (arr':=(l96 N)) Z sz96 Z Z (onb Z) Z Z Z) Z ?_ ?_
 rintro _ _ _ - ⟨rfl,rfl⟩
 refine⟨(Ss Z (Xt Z Z) Z (Sl Z)), ?_⟩
 refine WT.f2 (Ta Z (Sg (v:=(a130_ O g i)) (vl:=(l130 O g i)) (arr':=(l130 O g i)) Z sz130 Z Z (onesOf (Oc Z (Oc Z (Oc (RS.one C) (Oc (Ow D) Oz))))) Z Z Z) Z ?_ ?_)
 rintro _ _ _ - ⟨rfl,rfl⟩
 refine⟨(Sl Z), ?_⟩
 refine Ti (Qb (Qa (Qb (WQ.f3 ?_))))
 obtain rfl:=oi h
 exact Tj ⟨d7,c6,g,i,X,a9,Z,(hρ 0),Z,Z,C,D⟩
 exact Tz
 exact Tz
 exact Tz
 have h:=c7
 refine Ta Z (Al ze96 Z) Z ?_ ?_
 rintro _ _ _ - ⟨rfl,d8,rfl,rfl⟩
 refine⟨(Ss Z (Bl (cl:=[(Iv 4),(Iv a1),(Iv a2)]) ze134 fp134 (Pc (Iv 4) Z Z (Pc (Iv a1) Z Z (Pc (Iv a2) Z Z Pz))) Z) Z (Ss Z (Mv (hρ 2)) Z (Ss Z (Mv (hρ 1)) Z (Ss Z (La (cs:=(l96 a0.S)) 2 ag96 sz96 Z Z Z) Z (Ss Z (Fa fo98_1 Z Z) Z (Ss Z (Nk Z) Z (Ss Z (Mv (hρ 0)) Z (Ss Z (Lb 2 pl23 Z Z Z) Z (Ss Z (Fa fo98_0 Z Z) Z (Ss Z (Nk Z) Z (Ss Z (Mv (hρ 0)) Z trivial))))))))))), ?_⟩
 obtain ⟨⟨P,Q⟩,c9,h⟩:=bnd h
 refine Ta Z (Ca co86 (f_ref02_Read_ok a0.B a0.S (⟨(4:Int),a1,a2⟩:T_ref02_Ask) _ _ s (P,Q) c9) (args3 Z Z Z)) Z ?_ ?_
 rintro _ e4 _ b0 ⟨_,⟨j,k,Y,rfl,rfl,E,G⟩,rfl⟩
 refine⟨(Sl Z), ?_⟩
 refine WT.a1 (qt (.tuple #[(a96_ P),(a130_ Q j k)]) Z (Mv Z) (qt (a96_ P) Z (Xt Z Z) (qt (a130_ Q j k) Z (Xt Z Z) (WT.f1 (Ta Z (Sg (v:=(a96_ P)) (vl:=(l96 P)) (arr':=(l96 P)) Z sz96 Z Z (onb Z) Z Z Z) Z ?_ ?_)))))
 rintro _ _ _ - ⟨rfl,rfl⟩
 refine⟨(Ss Z (Xt Z Z) Z (Sl Z)), ?_⟩
 refine WT.f2 (Ta Z (Sg (v:=(a130_ Q j k)) (vl:=(l130 Q j k)) (arr':=(l130 Q j k)) Z sz130 Z Z (onesOf (Oc Z (Oc Z (Oc (RS.one E) (Oc (Ow G) Oz))))) Z Z Z) Z ?_ ?_)
 rintro _ _ _ - ⟨rfl,rfl⟩
 refine⟨(Sl Z), ?_⟩
 refine Ti (Qb (Qa (Qb (WQ.f3 ?_))))
 obtain rfl:=oi h
 exact Tj ⟨d8,c6,j,k,Y,b0,Z,(hρ 0),Z,Z,E,G⟩
 exact Tz
 exact Tz
 exact Tz
 exact Tz
 exact Tz
 obtain ⟨l,b4,b5,b6,b7⟩:=b2
 rintro e5 e6 e7 ⟨a6,U,R,p,t,b1,rfl,a3,a4,a5,d9,d0⟩
 refine Sr (qM (pt u 0) a3 (qu (a96_ l) (La (cs:=(l96 l)) 1 ag96 sz96 a4 Z Z) (qu (pt u 0) (Nk Z) (qu (pt u 1) (Fa fo98_1 Z Z) (We (Sg (v:=(a96_ l)) (vl:=(l96 l)) (arr':=[o,(Iv l.At),(Iv l.Code),(Sv l.Op),(Iv l.Where)]) Z sz96 Z Z (onb Z) Z Z Z) Z ?_)))))
 rintro _ _ _ - ⟨rfl,rfl⟩
 exact Ns (qu (pt U 3) (Fa fo130_3 a5 Z) (qu p (Lb 2 pl56 Z Z Z) (qa p (Nt (Cr (Qa (Dr (Qa (Dr (Rf h [[(u, .cells #[o,(Iv l.At),(Iv l.Code),(Sv l.Op),(Iv l.Where)] 98 (0,0))],t] Z (Rs Z Z) b1 ⟨p,t,Z,Z,d0⟩))))))))))
noncomputable def f_ref05_Cursor_brokers (a0:T_ref05_Cursor) (a1:Bool):Option ((List Int)×Int×Int×ByteArray×Int):=
 (if(!a1)=true then(some ([],a0.S.At,a0.S.Code,a0.S.Op,a0.S.Where))else((f_ref05_Cursor_Row a0 (7:Int) (64:Int)).bind fun(a,b,c,d,e)=>(some (a,b,c,d,e))))
def f_ref05_Cursor_brokers_post (a0:T_ref05_Cursor) (a1:Bool) (a:Value) (d:Nat):((List Int)×Int×Int×ByteArray×Int)→Value→IM→HL→Prop:=
 fun(p_:((List Int)×Int×Int×ByteArray×Int)) (v:Value) (M':IM) (H':HL)=>match p_ with |(e,f,g,i,j)=>∃ b c,b=v∧H'=[[(d, .cells #[a,(.int .i64 f),(.int .i64 g),(.string i),(.int .i64 j)] 98 (0,0))],c]∧OwnS (Kd.int .i64) M' b e c
theorem f_ref05_Cursor_brokers_ok (a0:T_ref05_Cursor) (a1:Bool) (M:IM) (a:Value) (e:Nat) (f:RS (Kd.int .u8) M a a0.B) (res:((List Int)×Int×Int×ByteArray×Int)) (h:f_ref05_Cursor_brokers a0 a1=some res):
 Tri prog 132 #[(pt e 0),(Bv a1)] M [[(e, .cells (l98 a0 a).toArray 98 (0,0))]] (f_ref05_Cursor_brokers_post a0 a1 a e res):=by
 unfold f_ref05_Cursor_brokers at h
 refine Te func132 Z Z ?_
 intro F ρ hρ
 refine Sr (qa Zs (Nt (Cs (Sr (qM (Bv a1) (hρ 1) (qu (Bv (!a1)) (PO.not Z) (Nt (Ch h Z (fun g h=> ?_) (fun g h=> ?_)))))))))
 exact Sr (qa Zs (Nt (Cr (Tr (WQ.e0 (Qa (Rf h [[(e, .cells (l98 a0 a).toArray 98 (0,0))],[]] Z (Rs Z Z) lr ⟨Zs,[],Z,Z,(OwnS.nil _ _)⟩)))))))
 refine Ck (Tc (Sr (qM (pt e 0) (hρ 0) ?_)))
 obtain ⟨⟨o,i,j,k,l⟩,m,h⟩:=bnd h
 refine We (Cb co145 (f_ref05_Cursor_Row_ok a0 (7:Int) (64:Int) _ _ _ f (o,i,j,k,l) m) (args3 Z Z Z)) Z ?_
 rintro _ p _ d ⟨_,⟨b,c,rfl,rfl,n⟩,rfl⟩
 exact WL.a2 (qa b (Nt (Cr (Rf h [[(e, .cells #[a,(Iv i),(Iv j),(Sv k),(Iv l)] 98 (0,0))],c] Z (Rs Z Z) d ⟨b,c,Z,Z,n⟩))))
noncomputable def f_ref05_num (a0:Int) (a1:Bool) (a2:Int) (a3:Int):Option Bool:=
 (if a1=true then(((if(decide (a2≤a0))=true then(some (decide (a0≤a3)))else(some false)):Option Bool).bind fun a=>(some a))else(some (decide (a0=(0:Int)))))
def f_ref05_num_post (a0:Int) (a1:Bool) (a2:Int) (a3:Int):Bool→Value→IM→HL→Prop:=
 fun(a:Bool) (v:Value) (M':IM) (H':HL)=>(.bool a)=v∧H'=[]
theorem f_ref05_num_ok (a0:Int) (a1:Bool) (a2:Int) (a3:Int) (M:IM) (res:Bool) (h:f_ref05_num a0 a1 a2 a3=some res):
 Tri prog 134 #[(Iv a0),(Bv a1),(Iv a2),(Iv a3)] M [] (f_ref05_num_post a0 a1 a2 a3 res):=by
 unfold f_ref05_num at h
 refine Te func134 Z Z ?_
 intro F ρ hρ
 refine Sr (qa (Bv false) (Nt (Cs (Sr (qM (Bv a1) (hρ 1) (Nt (Ch h Z (fun e h=> ?_) (fun e h=> ?_))))))))
 obtain ⟨c,f,h⟩:=bnd h
 refine Jf (fun(c:Bool) ρ' M' H'=>M.le M'∧F=H'∧ρ' 8=(Bv c)) c ?_ ?_
 have h:=f
 refine Cg (qM (Iv a0) (hρ 0) (qM (Iv a2) (hρ 2) (qu (Bv (decide (a2≤a0))) (geq Z Z) (qm (Bv (decide (a2≤a0))) ?_))))
 rcases Bi h with⟨a,h⟩ |⟨a,h⟩
 refine On 13 Z Z a (qM (Iv a0) (hρ 0) (On 13 Z Z a (qM (Iv a3) (hρ 3) (qo 13 a (Bv (decide (a0≤a3))) (leq Z Z) (qu (Bv (decide (a0≤a3))) (Pt Z a Z) (qa (Bv (decide (a0≤a3))) (Wz ?_)))))))
 obtain rfl:=oi h
 exact Tj ⟨lr,Z,Z⟩
 iterate 3 refine Of 13 Z Z a Z ?_
 refine qu (Bv false) (Pf Z a Z) (qa (Bv false) (Wz ?_))
 obtain rfl:=oi h
 exact Tj ⟨lr,Z,Z⟩
 rintro g i j ⟨d,rfl,b⟩
 exact Cr (Tr (Rf h [] Z (Rs Z b) d ⟨Z,Z⟩))
 exact Ck (Tc (Sr (qM (Iv a0) (hρ 0) (qu (Bv (decide (a0=0))) (eql Z Z) (qa (Bv (decide (a0=0))) (Nt (Cr (Rf h [] Z (Rs Z Z) lr ⟨Z,Z⟩))))))))
noncomputable def f_ref05_numbers (a0:T_api_Record):Option T_ref05_Wrong:=
 (((if(decide (a0.Kind=(10:Int)))=true then(some (0:Int))else(some (1:Int))):Option Int).bind fun c=>((f_ref05_has a0.Kind (98:Int)).bind fun d=>((f_ref05_num a0.Broker d (1:Int) (64:Int)).bind fun e=>(if(!e)=true then(some (⟨(⟨#[98,114,111,107,101,114]⟩:ByteArray),a0.Broker,(2:Int)⟩:T_ref05_Wrong))else((f_ref05_has a0.Kind (101:Int)).bind fun f=>((f_ref05_num a0.Epoch f (0:Int) (1073741824:Int)).bind fun g=>(if(!g)=true then(some (⟨(⟨#[101,112,111,99,104]⟩:ByteArray),a0.Epoch,(2:Int)⟩:T_ref05_Wrong))else((f_ref05_has a0.Kind (116:Int)).bind fun i=>((f_ref05_num a0.Topic i c (1073741824:Int)).bind fun j=>(if(!j)=true then(some (⟨(⟨#[116,111,112,105,99]⟩:ByteArray),a0.Topic,(2:Int)⟩:T_ref05_Wrong))else((f_ref05_has a0.Kind (112:Int)).bind fun k=>((f_ref05_num a0.Part k (0:Int) (255:Int)).bind fun l=>(if(!l)=true then(some (⟨(⟨#[112,97,114,116]⟩:ByteArray),a0.Part,(2:Int)⟩:T_ref05_Wrong))else((f_ref05_has a0.Kind (108:Int)).bind fun m=>((f_ref05_num a0.Leader m (0:Int) (64:Int)).bind fun n=>(if(!n)=true then(some (⟨(⟨#[108,101,97,100,101,114]⟩:ByteArray),a0.Leader,(2:Int)⟩:T_ref05_Wrong))else((((f_ref05_has a0.Kind (97:Int)).bind fun o=>((f_ref05_num a0.Client o (1:Int) (1073741824:Int)).bind fun p=>(if(!p)=true then(some true)else((f_ref05_has a0.Kind (97:Int)).bind fun q=>((f_ref05_num a0.Serial q (1:Int) (1073741824:Int)).bind fun r=>(if(!r)=true then(some true)else((f_ref05_has a0.Kind (97:Int)).bind fun a=>((f_ref05_num a0.Code a (0:Int) (21:Int)).bind fun b=>(some (!b)))))))))):Option Bool).bind fun s=>(if s=true then(some (⟨(⟨#[97,115,107,101,114]⟩:ByteArray),a0.Client,(2:Int)⟩:T_ref05_Wrong))else(some lit6_)))))))))))))))))))
def f_ref05_numbers_post (a0:T_api_Record) (a b c d:Value):T_ref05_Wrong→Value→IM→HL→Prop:=
 fun(e:T_ref05_Wrong) (v:Value) (M':IM) (H':HL)=>(.agg #[(.string e.Op),(.int .i64 e.At),(.int .i64 e.Code)])=v∧H'=[]
theorem f_ref05_numbers_ok (a0:T_api_Record) (M:IM) (i j k l:Value) (d7:RS (Kd.int .i64) M i a0.Ids) (d8:RS (Kd.int .i64) M j a0.Isr) (d9:RS (Kd.int .i64) M k a0.Add) (e0:RS (Kd.int .i64) M l a0.Drop) (res:T_ref05_Wrong) (h:f_ref05_numbers a0=some res):
 Tri prog 104 #[(a58_ a0 i j k l)] M [] (f_ref05_numbers_post a0 i j k l res):=by
 unfold f_ref05_numbers at h
 refine Te func104 Z Z ?_
 intro F ρ hρ
 refine Sr (We (box (cs:=(l58 a0 i j k l).toArray) (congrArg Value.cells (asE (a58_ a0 i j k l) (hρ 0)))) Z ?_)
 rintro _ _ _ - ⟨rfl,g,rfl,rfl⟩
 refine We (Al ze40 Z) Z ?_
 rintro _ _ _ - ⟨rfl,x,rfl,rfl⟩
 refine Ns (qu (pt g 0) (Fa fo58_0 Z Z) (qu (Iv a0.Kind) (Lb 1 pl3 Z Z Z) (qa (Iv a0.Kind) (Ns (qa (Iv 1073741824) (Ns (qa (Iv 1) (Nt ?_))))))))
 obtain ⟨r,Y,h⟩:=bnd h
 refine Jf (fun(r:Int) ρ' M' H'=>M.le M'∧[(x, .cells #[(Sv ⟨#[]⟩),(Iv 0),(Iv 0)] 40 (0,0))]::[(g, .cells (l58 a0 i j k l).toArray 58 (0,0))]::F=H'∧ρ' 1=(pt g 0)∧ρ' 2=(pt x 0)∧ρ' 3=(Iv a0.Kind)∧ρ' 4=(Iv 1073741824)∧ρ' 5=(Iv r)) r ?_ ?_
 have h:=Y
 refine Sr (qm (Iv a0.Kind) (qu (Bv (decide (a0.Kind=10))) (eql Z Z) (Nt (Ch h Z (fun a1 h=> ?_) (fun a1 h=> ?_)))))
 refine Cg (qa (Iv 0) (Wz ?_))
 obtain rfl:=oi h
 exact Tj ⟨lr,Z,Z,Z,Z,Z,Z⟩
 refine Ck ?_
 obtain rfl:=oi h
 exact Tj ⟨lr,Z,Z,Z,Z,Z,Z⟩
 rintro f0 f1 f2 ⟨D,rfl,a,d,e,f,p⟩
 refine Cs (Cs (WC.draw [0,1,0,4,15,31] (.pure 0 (.pure 1 (.pure 2 (.alt 3 (.alt 4 (.pure 5 .done) .none) .none)))) mixed (by kernel_rfl) (qt (pt g 1) Z (Fa fo58_1 a Z) (qt (Iv a0.Broker) Z (Lb 1 pl3 Z Z Z) (qt (Iv a0.Kind) Z (Mv e) ?_)))))
 obtain ⟨a2,a3,h⟩:=bnd h
 refine Ta Z (Ca co105 (f_ref05_has_ok a0.Kind (98:Int) _ a2 a3) (args2 Z Z)) Z ?_ ?_
 rintro _ f3 _ E ⟨_,⟨rfl,rfl⟩,rfl⟩
 have e1:=D.trans E
 refine⟨(Sk 1 Z (Ss Z (Lb 1 pl3 Z Z Z) Z (Ss Z (Fa fo58_1 a Z) Z trivial))), ?_⟩
 refine WT.a0 ?_
 obtain ⟨a4,a5,h⟩:=bnd h
 refine Ta Z (Ca co134 (f_ref05_num_ok a0.Broker a2 (1:Int) (64:Int) _ a4 a5) (args4 Z Z Z Z)) Z ?_ ?_
 rintro _ f4 _ G ⟨_,⟨rfl,rfl⟩,rfl⟩
 have a6:=e1.trans G
 refine⟨(Sl Z), ?_⟩
 refine WT.a0 (qt (Bv (!a4)) Z (PO.not Z) (Ti (Tc (Ch h Z (fun a7 h=> ?_) (fun a7 h=> ?_)))))
 refine Sr (qu (pt g 1) (Fa fo58_1 a Z) (qu (Iv a0.Broker) (Lb 1 pl3 Z Z Z) (qu (.agg #[(Sv ⟨#[98,114,111,107,101,114]⟩),(Iv a0.Broker),(Iv 2)]) (Bl (cl:=[(Sv ⟨#[98,114,111,107,101,114]⟩),(Iv a0.Broker),(Iv 2)]) ze40 fp40 (Pc (Sv ⟨#[98,114,111,107,101,114]⟩) Z Z (Pc (Iv a0.Broker) Z Z (Pc (Iv 2) Z Z Pz))) Z) (We (Sg (v:=(.agg #[(Sv ⟨#[98,114,111,107,101,114]⟩),(Iv a0.Broker),(Iv 2)])) (vl:=[(Sv ⟨#[98,114,111,107,101,114]⟩),(Iv a0.Broker),(Iv 2)]) (arr':=[(Sv ⟨#[98,114,111,107,101,114]⟩),(Iv a0.Broker),(Iv 2)]) Z sz40 d Z (onb Z) Z Z Z) Z ?_))))
 rintro _ _ _ - ⟨rfl,rfl⟩
 exact Nt (Cr (Tr (Qa (Dr (Rd h [] (fun _ hs=>hs.drop) (resultsL1 Z (Rc (cs:=[(Sv ⟨#[98,114,111,107,101,114]⟩),(Iv a0.Broker),(Iv 2)]) 0 ag40 sz40 d Z Z)) a6 ⟨Z,Z⟩)))))
 refine Ck (Tc (Cs (Cs (WC.draw [0,1,0,4,0,31,63] (.pure 0 (.pure 1 (.pure 2 (.pure 4 (.alt 3 (.alt 5 (.pure 6 .done) .none) .none))))) mixed (by kernel_rfl) (qt (pt g 2) Z (Fa fo58_2 a Z) (qt (Iv a0.Epoch) Z (Lb 1 pl3 Z Z Z) (qt (Iv a0.Kind) Z (Mv e) (qt (Iv 1073741824) Z (Mv f) ?_))))))))
 obtain ⟨a8,a9,h⟩:=bnd h
 refine Ta Z (Ca co105 (f_ref05_has_ok a0.Kind (101:Int) _ a8 a9) (args2 Z Z)) Z ?_ ?_
 rintro _ f5 _ I ⟨_,⟨rfl,rfl⟩,rfl⟩
 have e2:=a6.trans I
 refine⟨(Ss Z (Mv f) Z (Sk 1 Z (Ss Z (Lb 1 pl3 Z Z Z) Z (Ss Z (Fa fo58_2 a Z) Z trivial)))), ?_⟩
 refine WT.a0 ?_
 obtain ⟨b0,b1,h⟩:=bnd h
 refine Ta Z (Ca co134 (f_ref05_num_ok a0.Epoch a8 (0:Int) (1073741824:Int) _ b0 b1) (args4 Z Z Z Z)) Z ?_ ?_
 rintro _ f6 _ J ⟨_,⟨rfl,rfl⟩,rfl⟩
 have b2:=e2.trans J
 refine⟨(Sl Z), ?_⟩
 refine WT.a0 (qt (Bv (!b0)) Z (PO.not Z) (Ti (Tc (Ch h Z (fun b3 h=> ?_) (fun b3 h=> ?_)))))
 refine Sr (qu (pt g 2) (Fa fo58_2 a Z) (qu (Iv a0.Epoch) (Lb 1 pl3 Z Z Z) (qu (.agg #[(Sv ⟨#[101,112,111,99,104]⟩),(Iv a0.Epoch),(Iv 2)]) (Bl (cl:=[(Sv ⟨#[101,112,111,99,104]⟩),(Iv a0.Epoch),(Iv 2)]) ze40 fp40 (Pc (Sv ⟨#[101,112,111,99,104]⟩) Z Z (Pc (Iv a0.Epoch) Z Z (Pc (Iv 2) Z Z Pz))) Z) (We (Sg (v:=(.agg #[(Sv ⟨#[101,112,111,99,104]⟩),(Iv a0.Epoch),(Iv 2)])) (vl:=[(Sv ⟨#[101,112,111,99,104]⟩),(Iv a0.Epoch),(Iv 2)]) (arr':=[(Sv ⟨#[101,112,111,99,104]⟩),(Iv a0.Epoch),(Iv 2)]) Z sz40 d Z (onb Z) Z Z Z) Z ?_))))
 rintro _ _ _ - ⟨rfl,rfl⟩
 exact Nt (Cr (Tr (Qa (Dr (Rd h [] (fun _ hs=>hs.drop) (resultsL1 Z (Rc (cs:=[(Sv ⟨#[101,112,111,99,104]⟩),(Iv a0.Epoch),(Iv 2)]) 0 ag40 sz40 d Z Z)) b2 ⟨Z,Z⟩)))))
 refine Ck (Tc (Cs (Cs (WC.draw [0,1,0,4,0,0,63,127] (.pure 0 (.pure 1 (.pure 2 (.pure 4 (.pure 5 (.alt 3 (.alt 6 (.pure 7 .done) .none) .none)))))) mixed (by kernel_rfl) (qt (pt g 3) Z (Fa fo58_3 a Z) (qt (Iv a0.Topic) Z (Lb 1 pl3 Z Z Z) (qt (Iv a0.Kind) Z (Mv e) (qt (Iv r) Z (Mv p) (qt (Iv 1073741824) Z (Mv f) ?_)))))))))
 obtain ⟨b4,b5,h⟩:=bnd h
 refine Ta Z (Ca co105 (f_ref05_has_ok a0.Kind (116:Int) _ b4 b5) (args2 Z Z)) Z ?_ ?_
 rintro _ f7 _ K ⟨_,⟨rfl,rfl⟩,rfl⟩
 have e3:=b2.trans K
 refine⟨(Ss Z (Mv f) Z (Ss Z (Mv p) Z (Sk 1 Z (Ss Z (Lb 1 pl3 Z Z Z) Z (Ss Z (Fa fo58_3 a Z) Z trivial))))), ?_⟩
 refine WT.a0 ?_
 obtain ⟨b6,b7,h⟩:=bnd h
 refine Ta Z (Ca co134 (f_ref05_num_ok a0.Topic b4 r (1073741824:Int) _ b6 b7) (args4 Z Z Z Z)) Z ?_ ?_
 rintro _ f8 _ L ⟨_,⟨rfl,rfl⟩,rfl⟩
 have b8:=e3.trans L
 refine⟨(Sl Z), ?_⟩
 refine WT.a0 (qt (Bv (!b6)) Z (PO.not Z) (Ti (Tc (Ch h Z (fun b9 h=> ?_) (fun b9 h=> ?_)))))
 refine Sr (qu (pt g 3) (Fa fo58_3 a Z) (qu (Iv a0.Topic) (Lb 1 pl3 Z Z Z) (qu (.agg #[(Sv ⟨#[116,111,112,105,99]⟩),(Iv a0.Topic),(Iv 2)]) (Bl (cl:=[(Sv ⟨#[116,111,112,105,99]⟩),(Iv a0.Topic),(Iv 2)]) ze40 fp40 (Pc (Sv ⟨#[116,111,112,105,99]⟩) Z Z (Pc (Iv a0.Topic) Z Z (Pc (Iv 2) Z Z Pz))) Z) (We (Sg (v:=(.agg #[(Sv ⟨#[116,111,112,105,99]⟩),(Iv a0.Topic),(Iv 2)])) (vl:=[(Sv ⟨#[116,111,112,105,99]⟩),(Iv a0.Topic),(Iv 2)]) (arr':=[(Sv ⟨#[116,111,112,105,99]⟩),(Iv a0.Topic),(Iv 2)]) Z sz40 d Z (onb Z) Z Z Z) Z ?_))))
 rintro _ _ _ - ⟨rfl,rfl⟩
 exact Nt (Cr (Tr (Qa (Dr (Rd h [] (fun _ hs=>hs.drop) (resultsL1 Z (Rc (cs:=[(Sv ⟨#[116,111,112,105,99]⟩),(Iv a0.Topic),(Iv 2)]) 0 ag40 sz40 d Z Z)) b8 ⟨Z,Z⟩)))))
 refine Ck (Tc (Cs (Cs (WC.draw [0,1,0,4,15,31] (.pure 0 (.pure 1 (.pure 2 (.alt 3 (.alt 4 (.pure 5 .done) .none) .none)))) mixed (by kernel_rfl) (qt (pt g 4) Z (Fa fo58_4 a Z) (qt (Iv a0.Part) Z (Lb 1 pl3 Z Z Z) (qt (Iv a0.Kind) Z (Mv e) ?_)))))))
 obtain ⟨c0,c1,h⟩:=bnd h
 refine Ta Z (Ca co105 (f_ref05_has_ok a0.Kind (112:Int) _ c0 c1) (args2 Z Z)) Z ?_ ?_
 rintro _ f9 _ N ⟨_,⟨rfl,rfl⟩,rfl⟩
 have e4:=b8.trans N
 refine⟨(Sk 1 Z (Ss Z (Lb 1 pl3 Z Z Z) Z (Ss Z (Fa fo58_4 a Z) Z trivial))), ?_⟩
 refine WT.a0 ?_
 obtain ⟨c2,c3,h⟩:=bnd h
 refine Ta Z (Ca co134 (f_ref05_num_ok a0.Part c0 (0:Int) (255:Int) _ c2 c3) (args4 Z Z Z Z)) Z ?_ ?_
 rintro _ g0 _ O ⟨_,⟨rfl,rfl⟩,rfl⟩
 have c4:=e4.trans O
 refine⟨(Sl Z), ?_⟩
 refine WT.a0 (qt (Bv (!c2)) Z (PO.not Z) (Ti (Tc (Ch h Z (fun c5 h=> ?_) (fun c5 h=> ?_)))))
 refine Sr (qu (pt g 4) (Fa fo58_4 a Z) (qu (Iv a0.Part) (Lb 1 pl3 Z Z Z) (qu (.agg #[(Sv ⟨#[112,97,114,116]⟩),(Iv a0.Part),(Iv 2)]) (Bl (cl:=[(Sv ⟨#[112,97,114,116]⟩),(Iv a0.Part),(Iv 2)]) ze40 fp40 (Pc (Sv ⟨#[112,97,114,116]⟩) Z Z (Pc (Iv a0.Part) Z Z (Pc (Iv 2) Z Z Pz))) Z) (We (Sg (v:=(.agg #[(Sv ⟨#[112,97,114,116]⟩),(Iv a0.Part),(Iv 2)])) (vl:=[(Sv ⟨#[112,97,114,116]⟩),(Iv a0.Part),(Iv 2)]) (arr':=[(Sv ⟨#[112,97,114,116]⟩),(Iv a0.Part),(Iv 2)]) Z sz40 d Z (onb Z) Z Z Z) Z ?_))))
 rintro _ _ _ - ⟨rfl,rfl⟩
 exact Nt (Cr (Tr (Qa (Dr (Rd h [] (fun _ hs=>hs.drop) (resultsL1 Z (Rc (cs:=[(Sv ⟨#[112,97,114,116]⟩),(Iv a0.Part),(Iv 2)]) 0 ag40 sz40 d Z Z)) c4 ⟨Z,Z⟩)))))
 refine Ck (Tc (Cs (Cs (WC.draw [0,1,0,4,15,31] (.pure 0 (.pure 1 (.pure 2 (.alt 3 (.alt 4 (.pure 5 .done) .none) .none)))) mixed (by kernel_rfl) (qt (pt g 5) Z (Fa fo58_5 a Z) (qt (Iv a0.Leader) Z (Lb 1 pl3 Z Z Z) (qt (Iv a0.Kind) Z (Mv e) ?_)))))))
 obtain ⟨c6,c7,h⟩:=bnd h
 refine Ta Z (Ca co105 (f_ref05_has_ok a0.Kind (108:Int) _ c6 c7) (args2 Z Z)) Z ?_ ?_
 rintro _ g1 _ P ⟨_,⟨rfl,rfl⟩,rfl⟩
 have e5:=c4.trans P
 refine⟨(Sk 1 Z (Ss Z (Lb 1 pl3 Z Z Z) Z (Ss Z (Fa fo58_5 a Z) Z trivial))), ?_⟩
 refine WT.a0 ?_
 obtain ⟨c8,c9,h⟩:=bnd h
 refine Ta Z (Ca co134 (f_ref05_num_ok a0.Leader c6 (0:Int) (64:Int) _ c8 c9) (args4 Z Z Z Z)) Z ?_ ?_
 rintro _ e6 _ Q ⟨_,⟨rfl,rfl⟩,rfl⟩
 have R:=e5.trans Q
 refine⟨(Sl Z), ?_⟩
 refine WT.a0 (qt (Bv (!c8)) Z (PO.not Z) (Ti (Tc (Ch h Z (fun d0 h=> ?_) (fun d0 h=> ?_)))))
 refine Sr (qu (pt g 5) (Fa fo58_5 a Z) (qu (Iv a0.Leader) (Lb 1 pl3 Z Z Z) (qu (.agg #[(Sv ⟨#[108,101,97,100,101,114]⟩),(Iv a0.Leader),(Iv 2)]) (Bl (cl:=[(Sv ⟨#[108,101,97,100,101,114]⟩),(Iv a0.Leader),(Iv 2)]) ze40 fp40 (Pc (Sv ⟨#[108,101,97,100,101,114]⟩) Z Z (Pc (Iv a0.Leader) Z Z (Pc (Iv 2) Z Z Pz))) Z) (We (Sg (v:=(.agg #[(Sv ⟨#[108,101,97,100,101,114]⟩),(Iv a0.Leader),(Iv 2)])) (vl:=[(Sv ⟨#[108,101,97,100,101,114]⟩),(Iv a0.Leader),(Iv 2)]) (arr':=[(Sv ⟨#[108,101,97,100,101,114]⟩),(Iv a0.Leader),(Iv 2)]) Z sz40 d Z (onb Z) Z Z Z) Z ?_))))
 rintro _ _ _ - ⟨rfl,rfl⟩
 exact Nt (Cr (Tr (Qa (Dr (Rd h [] (fun _ hs=>hs.drop) (resultsL1 Z (Rc (cs:=[(Sv ⟨#[108,101,97,100,101,114]⟩),(Iv a0.Leader),(Iv 2)]) 0 ag40 sz40 d Z Z)) R ⟨Z,Z⟩)))))
 refine Ck (Tc (Cs ?_))
 obtain ⟨S,d1,h⟩:=bnd h
 refine Jf (fun(S:Bool) ρ' M' H'=>e6.le M'∧[(x, .cells #[(Sv ⟨#[]⟩),(Iv 0),(Iv 0)] 40 (0,0))]::[(g, .cells (l58 a0 i j k l).toArray 58 (0,0))]::F=H'∧ρ' 1=(pt g 0)∧ρ' 2=(pt x 0)∧ρ' 81=(Bv S)) S ?_ ?_
 have h:=d1
 refine WC.draw [0,1,0,4,0,31,63,127,255,511,255,1279,255,8191,16383,32767,65535,131071,262143,131071,655359,2097151,4194303,8388607] (.pure 0 (.pure 1 (.pure 2 (.pure 4 (.alt 3 (.alt 5 (.pure 6 (.pure 7 (.pure 8 (.pure 9 (.pure 10 (.pure 12 (.alt 11 (.alt 13 (.pure 14 (.pure 15 (.pure 16 (.pure 17 (.pure 18 (.pure 19 (.alt 20 (.alt 21 (.pure 22 (.pure 23 .done)) .none) .none))))))) .none) .none))))))) .none) .none))))) mixed (by kernel_rfl) (qt (pt g 6) Z (Fa fo58_6 a Z) (qt (Iv a0.Client) Z (Lb 1 pl3 Z Z Z) (qt (Iv a0.Kind) Z (Mv e) (qt (Iv 1073741824) Z (Mv f) ?_))))
 obtain ⟨d2,d3,h⟩:=bnd h
 refine Ta Z (Ca co105 (f_ref05_has_ok a0.Kind (97:Int) _ d2 d3) (args2 Z Z)) Z ?_ ?_
 rintro _ g2 _ n ⟨_,⟨rfl,rfl⟩,rfl⟩
 refine⟨(Ss Z (Mv f) Z (Sk 1 Z (Ss Z (Lb 1 pl3 Z Z Z) Z (Ss Z (Fa fo58_6 a Z) Z trivial)))), ?_⟩
 refine WT.a0 ?_
 obtain ⟨T,d4,h⟩:=bnd h
 refine Ta Z (Ca co134 (f_ref05_num_ok a0.Client d2 (1:Int) (1073741824:Int) _ T d4) (args4 Z Z Z Z)) Z ?_ ?_
 rintro _ g3 _ o ⟨_,⟨rfl,rfl⟩,rfl⟩
 refine⟨(Sl Z), ?_⟩
 refine WT.a0 (qt (Bv (!T)) Z (PO.not Z) (qt (Bv (!T)) Z (Mv Z) ?_))
 rcases Bi h with⟨c,h⟩ |⟨c,h⟩
 refine Tf 65 Z Z Z c Z (Tf 65 Z Z Z c Z (Tf 65 Z Z Z c Z (Tf 65 Z Z Z c Z (Tg 65 Z Z Z c Z ⟨(St (Sf 65 Z Z Z c Z) (Sk 1 Z (St (Sf 65 Z Z Z c Z) (St (Sf 65 Z Z Z c Z) (Sl Z))))), ?_⟩ ?_))))
 refine Tg 65 Z Z Z c Z ⟨(Sl Z), ?_⟩ ?_
 refine Tf 65 Z Z Z c Z (qt (Bv true) Z (Pt Z c Z) (qt (Bv true) Z (Mv Z) (Tf 74 Z Z Z Z Z (Tf 74 Z Z Z Z Z (Tf 74 Z Z Z Z Z (Tg 74 Z Z Z Z Z ⟨(Sk 1 Z (St (Sf 74 Z Z Z Z Z) (St (Sf 74 Z Z Z Z Z) (Sl Z)))), ?_⟩ ?_))))))
 refine Tg 74 Z Z Z Z Z ⟨(Sl Z), ?_⟩ ?_
 refine Tf 74 Z Z Z Z Z (qt (Bv true) Z (Pt Z Z Z) (Ti ?_))
 obtain rfl:=oi h
 exact Tj ⟨(n.trans o),Z,a,d,Z⟩
 exact Tz
 exact Tz
 exact Tz
 exact Tz
 refine Tn (pt g 7) 65 Z Z Z c (Fa fo58_7 a Z) Z (Tn (Iv a0.Serial) 65 Z Z Z c (Lb 1 pl3 Z Z Z) Z (Tn (Iv a0.Kind) 65 Z Z Z c (Mv e) Z (Tn (Iv 1073741824) 65 Z Z Z c (Mv f) Z ?_)))
 obtain ⟨d5,d6,h⟩:=bnd h
 refine WT.altOn 65 Z Z Z c (Ca co105 (f_ref05_has_ok a0.Kind (97:Int) _ d5 d6) (args2 Z Z)) Z ?_ ?_
 rintro _ g4 _ s ⟨_,⟨rfl,rfl⟩,rfl⟩
 refine⟨(St (StabA.on 65 Z Z Z c (Mv f) Z) (Sk 1 Z (St (StabA.on 65 Z Z Z c (Lb 1 pl3 Z Z Z) Z) (St (StabA.on 65 Z Z Z c (Fa fo58_7 a Z) Z) (Sl Z))))), ?_⟩
 refine WT.a0 ?_
 obtain ⟨y,U,h⟩:=bnd h
 refine WT.altOn 65 Z Z Z c (Ca co134 (f_ref05_num_ok a0.Serial d5 (1:Int) (1073741824:Int) _ y U) (args4 Z Z Z Z)) Z ?_ ?_
 rintro _ e7 _ q ⟨_,⟨rfl,rfl⟩,rfl⟩
 refine⟨(Sl Z), ?_⟩
 refine WT.a0 (Tn (Bv (!y)) 65 Z Z Z c (PO.not Z) Z (qt (Bv (!y)) Z (Pf Z c Z) (qt (Bv (!y)) Z (Mv Z) ?_)))
 rcases Bi h with⟨b,h⟩ |⟨b,h⟩
 refine Tf 74 Z Z Z b Z (Tf 74 Z Z Z b Z (Tf 74 Z Z Z b Z (Tg 74 Z Z Z b Z ⟨(Sk 1 Z (St (Sf 74 Z Z Z b Z) (St (Sf 74 Z Z Z b Z) (Sl Z)))), ?_⟩ ?_)))
 refine Tg 74 Z Z Z b Z ⟨(Sl Z), ?_⟩ ?_
 refine Tf 74 Z Z Z b Z (qt (Bv true) Z (Pt Z b Z) (Ti ?_))
 obtain rfl:=oi h
 exact Tj ⟨(((n.trans o).trans s).trans q),Z,a,d,Z⟩
 exact Tz
 exact Tz
 refine Tn (pt g 8) 74 Z Z Z b (Fa fo58_8 a Z) Z (Tn (Iv a0.Code) 74 Z Z Z b (Lb 1 pl3 Z Z Z) Z (Tn (Iv a0.Kind) 74 Z Z Z b (Mv e) Z ?_))
 obtain ⟨C,V,h⟩:=bnd h
 refine WT.altOn 74 Z Z Z b (Ca co105 (f_ref05_has_ok a0.Kind (97:Int) _ C V) (args2 Z Z)) Z ?_ ?_
 rintro _ e8 _ z ⟨_,⟨rfl,rfl⟩,rfl⟩
 refine⟨(Sk 1 Z (St (StabA.on 74 Z Z Z b (Lb 1 pl3 Z Z Z) Z) (St (StabA.on 74 Z Z Z b (Fa fo58_8 a Z) Z) (Sl Z)))), ?_⟩
 refine WT.a0 ?_
 obtain ⟨t,W,h⟩:=bnd h
 refine WT.altOn 74 Z Z Z b (Ca co134 (f_ref05_num_ok a0.Code C (0:Int) (21:Int) _ t W) (args4 Z Z Z Z)) Z ?_ ?_
 rintro _ e9 _ A ⟨_,⟨rfl,rfl⟩,rfl⟩
 refine⟨(Sl Z), ?_⟩
 refine WT.a0 (Tn (Bv (!t)) 74 Z Z Z b (PO.not Z) Z (qt (Bv (!t)) Z (Pf Z b Z) (Ti ?_)))
 obtain rfl:=oi h
 exact Tj ⟨(((((n.trans o).trans s).trans q).trans z).trans A),Z,a,d,Z⟩
 exact Tz
 exact Tz
 exact Tz
 exact Tz
 exact Tz
 exact Tz
 rintro g5 g6 g7 ⟨u,rfl,B,m,w⟩
 refine Ch h w (fun X h=> ?_) (fun X h=> ?_)
 refine Sr (qu (pt g 6) (Fa fo58_6 B Z) (qu (Iv a0.Client) (Lb 1 pl3 Z Z Z) (qu (.agg #[(Sv ⟨#[97,115,107,101,114]⟩),(Iv a0.Client),(Iv 2)]) (Bl (cl:=[(Sv ⟨#[97,115,107,101,114]⟩),(Iv a0.Client),(Iv 2)]) ze40 fp40 (Pc (Sv ⟨#[97,115,107,101,114]⟩) Z Z (Pc (Iv a0.Client) Z Z (Pc (Iv 2) Z Z Pz))) Z) (We (Sg (v:=(.agg #[(Sv ⟨#[97,115,107,101,114]⟩),(Iv a0.Client),(Iv 2)])) (vl:=[(Sv ⟨#[97,115,107,101,114]⟩),(Iv a0.Client),(Iv 2)]) (arr':=[(Sv ⟨#[97,115,107,101,114]⟩),(Iv a0.Client),(Iv 2)]) Z sz40 m Z (onb Z) Z Z Z) Z ?_))))
 rintro _ _ _ - ⟨rfl,rfl⟩
 exact Nt (Cr (Tr (Qa (Dr (Rd h [] (fun _ hs=>hs.drop) (resultsL1 Z (Rc (cs:=[(Sv ⟨#[97,115,107,101,114]⟩),(Iv a0.Client),(Iv 2)]) 0 ag40 sz40 m Z Z)) (R.trans u) ⟨Z,Z⟩)))))
 refine Ck (Tc (Sr (qu (.agg #[(Sv ⟨#[]⟩),(Iv 0),(Iv 0)]) (Bl (cl:=[(Sv ⟨#[]⟩),(Iv 0),(Iv 0)]) ze40 fp40 Pz Z) (We (Sg (v:=(.agg #[(Sv ⟨#[]⟩),(Iv 0),(Iv 0)])) (vl:=[(Sv ⟨#[]⟩),(Iv 0),(Iv 0)]) (arr':=[(Sv ⟨#[]⟩),(Iv 0),(Iv 0)]) Z sz40 m Z (onb Z) Z Z Z) Z ?_))))
 rintro _ _ _ - ⟨rfl,rfl⟩
 exact Nt (Cr (Qa (Dr (Rd h [] (fun _ hs=>hs.drop) (resultsL1 Z (Rc (cs:=[(Sv ⟨#[]⟩),(Iv 0),(Iv 0)]) 0 ag40 sz40 m Z Z)) (R.trans u) ⟨Z,Z⟩))))
 exact Tz
 exact Tz
 exact Tz
 exact Tz
 exact Tz
 exact Tz
 exact Tz
 exact Tz
 exact Tz
 exact Tz

end Go.Proofs.YtkflneabcannnaaGreatDoor.G
