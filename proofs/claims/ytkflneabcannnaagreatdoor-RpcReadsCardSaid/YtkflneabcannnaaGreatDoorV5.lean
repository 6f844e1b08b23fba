/- Go functions: what they come to, and that they do. Printed by a program of the session (gen). -/
import Derived.Test.YtkflneabcannnaaGreatDoorVF
import Derived.Test.YtkflneabcannnaaGreatDoorV1
import Derived.Test.YtkflneabcannnaaGreatDoorV2
import Derived.Test.YtkflneabcannnaaGreatDoorV3
import Derived.Test.YtkflneabcannnaaGreatDoorV4
import Derived.Test.YtkflneabcannnaaGreatDoorKConv
import Derived.Test.YtkflneabcannnaaGreatDoorKShar2
import Derived.Test.YtkflneabcannnaaGreatDoorKTight2
set_option linter.unusedVariables false
set_option linter.unusedSimpArgs false
set_option maxHeartbeats 8000000
set_option maxRecDepth 100000
namespace Go.Proofs.YtkflneabcannnaaGreatDoor.G
open Go Go.KK
open PO EO IntKind Sum Tryz

noncomputable def f_law07_works:Option Bool:=
 ((f_rpc_Put lit1_).bind fun(a,f)=>((f_rpc_Read a).bind fun(g,i)=>((f_rpc_Read (⟨(9:Int),[]⟩:T_api_Frame)).bind fun(p,j)=>(((if f.isNil=true then(if(decide (a.Kind=(4:Int)))=true then(if i.isNil=true then((f_rpc_Same g lit1_).bind fun k=>(if k=true then((f_fault_Is j (5:Int)).bind fun l=>(if l=true then((f_rpc_Check lit1_).bind fun m=>(if m.isNil=true then((f_rpc_Check (⟨(1:Int),(1:Int),(1:Int),(0:Int),false,false,(0:Int),(0:Int),(0:Int),(0:Int),(0:Int),[],(0:Int),(0:Int),[]⟩:T_api_Rpc)).bind fun n=>((f_fault_Is n (2:Int)).bind fun b=>(if b=true then((f_rpc_Copy lit1_).bind fun c=>((f_rpc_Same lit1_ c).bind fun d=>(if d=true then((f_rpc_Same lit1_ lit4_).bind fun e=>(some (!e,[lit2_])))else(some (false,[lit2_])))))else(some (false,[lit2_])))))else(some (false,[lit2_]))))else(some (false,[lit2_]))))else(some (false,[lit2_]))))else(some (false,[lit2_])))else(some (false,[lit2_])))else(some (false,[lit2_]))):Option (Bool×(List T_api_Batch))).bind fun(o,q)=>(some o)))))
def f_law07_works_post:Bool→Value→IM→HL→Prop:=
 fun(a:Bool) (v:Value) (M':IM) (H':HL)=>(.bool a)=v∧H'=[]
theorem f_law07_works_ok (M:IM) (hE:Env M) (res:Bool) (h:f_law07_works=some res):
 Tri prog 9 #[] M [] (f_law07_works_post res):=by
 unfold f_law07_works at h
 refine Te func9 Z Z ?_
 intro F ρ hρ
 refine Sr (qa (Bv false) (Ns (qu (.agg #[(Iv 1),(Iv 0),(Iv 0),(Iv 0),(Iv 0),(Iv 0),(Iv 0),(Iv 0),(Iv 0),(Bv false),(Sv ⟨#[]⟩),(Sv ⟨#[]⟩),(Sv ⟨#[]⟩),(Sv ⟨#[]⟩),Zs,Zs,Zs,Zs]) (Bl (cl:=[(Iv 1),(Iv 0),(Iv 0),(Iv 0),(Iv 0),(Iv 0),(Iv 0),(Iv 0),(Iv 0),(Bv false),(Sv ⟨#[]⟩),(Sv ⟨#[]⟩),(Sv ⟨#[]⟩),(Sv ⟨#[]⟩),Zs,Zs,Zs,Zs]) ze58 fp58 (Pc (Iv 1) Z Z Pz) Z) (We (buildSliceL (cl:=[(Iv 1),(Iv 0),(Iv 0),(Iv 0),(Iv 0),(Iv 0),(Iv 0),(Iv 0),(Iv 0),(Bv false),(Sv ⟨#[]⟩),(Sv ⟨#[]⟩),(Sv ⟨#[]⟩),(Sv ⟨#[]⟩),Zs,Zs,Zs,Zs]) underlying53 iz58 Z (Pc (.agg #[(Iv 1),(Iv 0),(Iv 0),(Iv 0),(Iv 0),(Iv 0),(Iv 0),(Iv 0),(Iv 0),(Bv false),(Sv ⟨#[]⟩),(Sv ⟨#[]⟩),(Sv ⟨#[]⟩),(Sv ⟨#[]⟩),Zs,Zs,Zs,Zs]) Z Z Pz) Z) Z ?_))))
 rintro _ _ _ - ⟨rfl,u,rfl,rfl⟩
 have e3:OwnS kd_api_Record M (.slice (some ⟨u,0,none⟩) 1 1) [lit3_] [(u, .cells #[(Iv 1),(Iv 0),(Iv 0),(Iv 0),(Iv 0),(Iv 0),(Iv 0),(Iv 0),(Iv 0),(Bv false),(Sv ⟨#[]⟩),(Sv ⟨#[]⟩),(Sv ⟨#[]⟩),(Sv ⟨#[]⟩),Zs,Zs,Zs,Zs] 58 (0,0))]:=OwnS.rows (css:=[[(Iv 1),(Iv 0),(Iv 0),(Iv 0),(Iv 0),(Iv 0),(Iv 0),(Iv 0),(Iv 0),(Bv false),(Sv ⟨#[]⟩),(Sv ⟨#[]⟩),(Sv ⟨#[]⟩),(Sv ⟨#[]⟩),Zs,Zs,Zs,Zs]]) (Rows.cons (kd_api_Record_mk (x:=lit3_) (RS.nil _ _) (RS.nil _ _) (RS.nil _ _) (RS.nil _ _)) Rows.nil) Z Z
 refine qu (.agg #[(Iv 3),(Iv 6),(.slice (some ⟨u,0,none⟩) 1 1)]) (Bl (cl:=[(Iv 3),(Iv 6),(.slice (some ⟨u,0,none⟩) 1 1)]) ze55 fp55 (Pc (Iv 3) Z Z (Pc (Iv 6) Z Z (Parts.cons ((congrArg Value.cells (show ev _ _=(.slice (some ⟨u,0,none⟩) 1 1) from Z)).trans e3.cells) Pz))) Z) (WL.know (fun _ hs=>e3.rs hs) (fun e4=> ?_))
 refine WL.freeze (fun V=> ?_)
 refine We (buildSliceL (cl:=[(Iv 3),(Iv 6),(.slice (some ⟨u,0,none⟩) 1 1)]) underlying22 iz55 Z (Pc (.agg #[(Iv 3),(Iv 6),(.slice (some ⟨u,0,none⟩) 1 1)]) Z Z Pz) Z) Z ?_
 rintro _ _ _ - ⟨rfl,b,rfl,rfl⟩
 have a:OwnS kd_api_Batch (M.add [(u, .cells #[(Iv 1),(Iv 0),(Iv 0),(Iv 0),(Iv 0),(Iv 0),(Iv 0),(Iv 0),(Iv 0),(Bv false),(Sv ⟨#[]⟩),(Sv ⟨#[]⟩),(Sv ⟨#[]⟩),(Sv ⟨#[]⟩),Zs,Zs,Zs,Zs] 58 (0,0))]) (.slice (some ⟨b,0,none⟩) 1 1) [lit2_] [(b, .cells #[(Iv 3),(Iv 6),(.slice (some ⟨u,0,none⟩) 1 1)] 55 (0,0))]:=OwnS.rows (css:=[[(Iv 3),(Iv 6),(.slice (some ⟨u,0,none⟩) 1 1)]]) (Rows.cons (kd_api_Batch_mk (x:=lit2_) e4) Rows.nil) Z Z
 refine qu (.agg #[(Iv 4),(Iv 1),(Iv 2),(Iv 3),(Bv false),(Bv false),(Iv 1),(Iv 5),(Iv 2),(Iv 4),(Iv 0),(.slice (some ⟨b,0,none⟩) 1 1),(Iv 0),(Iv 0),Zs]) (Bl (cl:=[(Iv 4),(Iv 1),(Iv 2),(Iv 3),(Bv false),(Bv false),(Iv 1),(Iv 5),(Iv 2),(Iv 4),(Iv 0),(.slice (some ⟨b,0,none⟩) 1 1),(Iv 0),(Iv 0),Zs]) ze25 fp25 (Pc (Iv 4) Z Z (Pc (Iv 1) Z Z (Pc (Iv 2) Z Z (Pc (Iv 3) Z Z (Pc (Iv 1) Z Z (Pc (Iv 5) Z Z (Pc (Iv 2) Z Z (Pc (Iv 4) Z Z (Parts.cons ((congrArg Value.cells (show ev _ _=(.slice (some ⟨b,0,none⟩) 1 1) from Z)).trans a.cells) Pz))))))))) Z) (We (Al ze25 Z) Z ?_)
 rintro _ _ _ - ⟨rfl,h0,rfl,rfl⟩
 refine We (Sg (v:=(.agg #[(Iv 4),(Iv 1),(Iv 2),(Iv 3),(Bv false),(Bv false),(Iv 1),(Iv 5),(Iv 2),(Iv 4),(Iv 0),(.slice (some ⟨b,0,none⟩) 1 1),(Iv 0),(Iv 0),Zs])) (vl:=[(Iv 4),(Iv 1),(Iv 2),(Iv 3),(Bv false),(Bv false),(Iv 1),(Iv 5),(Iv 2),(Iv 4),(Iv 0),(.slice (some ⟨b,0,none⟩) 1 1),(Iv 0),(Iv 0),Zs]) (arr':=[(Iv 4),(Iv 1),(Iv 2),(Iv 3),(Bv false),(Bv false),(Iv 1),(Iv 5),(Iv 2),(Iv 4),(Iv 0),(.slice (some ⟨b,0,none⟩) 1 1),(Iv 0),(Iv 0),Zs]) Z sz25 Z Z (onesOf (Oc Z (Oc Z (Oc Z (Oc Z (Oc Z (Oc Z (Oc Z (Oc Z (Oc Z (Oc Z (Oc Z (Oc (Ow a) (Oc Z (Oc Z (Oc Z Oz)))))))))))))))) Z Z (by kernel_rfl)) Z ?_
 rintro _ _ _ - ⟨rfl,rfl⟩
 refine Ns (qu (.agg #[(Iv 4),(Iv 1),(Iv 2),(Iv 3),(Bv false),(Bv false),(Iv 1),(Iv 5),(Iv 2),(Iv 4),(Iv 0),(.slice (some ⟨b,0,none⟩) 1 1),(Iv 0),(Iv 0),Zs]) (La (cs:=[(Iv 4),(Iv 1),(Iv 2),(Iv 3),(Bv false),(Bv false),(Iv 1),(Iv 5),(Iv 2),(Iv 4),(Iv 0),(.slice (some ⟨b,0,none⟩) 1 1),(Iv 0),(Iv 0),Zs]) 0 ag25 sz25 Z Z Z) ?_)
 obtain ⟨⟨n,K⟩,e5,h⟩:=bnd h
 refine WL.f1 (We (Cb co10 (Tri.lend a.excl fun w0_ H0_ hs0_=>(f_rpc_Put_ok lit1_ _ _ _ (a.rs hs0_) (RS.nil _ _) (n,K) e5)) (args1 Z)) Z ?_)
 rintro _ _ _ L ⟨_,⟨e6,i4,h1,rfl,rfl,⟨g,b1,rfl,rfl,s⟩⟩,rfl⟩
 have s:OwnS (Kd.int .u8) (e6.minus [(b, .cells #[(Iv 3),(Iv 6),(.slice (some ⟨u,0,none⟩) 1 1)] 55 (0,0))]) g n.Body b1:=s.any (Kd.int_flat _)
 refine WL.a2 (qm (.tuple #[(.agg #[(Iv n.Kind),g]),(GV K)]) (qu (.agg #[(Iv n.Kind),g]) (Xt Z Z) (qu (GV K) (Xt Z Z) (We (Al ze29 Z) Z ?_))))
 rintro _ _ _ - ⟨rfl,e7,rfl,rfl⟩
 refine We (Sg (v:=(.agg #[(Iv n.Kind),g])) (vl:=[(Iv n.Kind),g]) (arr':=[(Iv n.Kind),g]) Z sz29 Z Z (onesOf (Oc Z (Oc (Ow s) Oz))) Z Z Z) Z ?_
 rintro _ _ _ - ⟨rfl,rfl⟩
 refine qa (GV K) (Ns (qu (.agg #[(Iv n.Kind),g]) (La (cs:=[(Iv n.Kind),g]) 0 ag29 sz29 Z Z Z) (Wb (WL.know (fun _ hs=>s.rs hs) (fun e8=> ?_)))))
 refine WL.freeze (fun N=> ?_)
 obtain ⟨⟨z,J⟩,e9,h⟩:=bnd h
 have hE:=hE.mono ((V.trans L).trans N)
 refine We (Ca co11 (f_rpc_Read_ok n _ _ e8 hE (z,J) e9) (args1 Z)) Z ?_
 rintro _ j8 _ O ⟨_,⟨e,W,f,X,rfl,rfl,l,m⟩,rfl⟩
 have h2:=(L.trans N).trans O
 refine WL.a2 (qm (.tuple #[(a25_ z e f),(GV J)]) (qu (a25_ z e f) (Xt Z Z) (qu (GV J) (Xt Z Z) (We (Al ze25 Z) Z ?_))))
 rintro _ _ _ - ⟨rfl,h3,rfl,rfl⟩
 refine We (Sg (v:=(a25_ z e f)) (vl:=(l25 z e f)) (arr':=(l25 z e f)) Z sz25 Z Z (onesOf (Oc Z (Oc Z (Oc Z (Oc Z (Oc Z (Oc Z (Oc Z (Oc Z (Oc Z (Oc Z (Oc Z (Oc (Ow l) (Oc Z (Oc Z (Oc (Ow m) Oz)))))))))))))))) Z Z (by kernel_rfl)) Z ?_
 rintro _ _ _ - ⟨rfl,rfl⟩
 refine qa (GV J) (Ns (qu (.agg #[(Iv 9),Zs]) (Bl (cl:=[(Iv 9),Zs]) ze29 fp29 (Pc (Iv 9) Z Z Pz) Z) ?_))
 obtain ⟨⟨P,U⟩,f0,h⟩:=bnd h
 have hE:=hE.mono O
 refine We (Ca co11 (f_rpc_Read_ok (⟨(9:Int),[]⟩:T_api_Frame) _ _ (RS.nil _ _) hE (P,U) f0) (args1 Z)) Z ?_
 rintro _ h4 _ C ⟨_,⟨j,Y,k,a4,rfl,rfl,a5,a6⟩,rfl⟩
 have b2:=h2.trans C
 refine WL.a2 (qm (.tuple #[(a25_ P j k),(GV U)]) (qu (a25_ P j k) (Xt Z Z) (qu (GV U) (Xt Z Z) (We (Al ze25 Z) Z ?_))))
 rintro _ _ _ - ⟨rfl,h5,rfl,rfl⟩
 refine We (Sg (v:=(a25_ P j k)) (vl:=(l25 P j k)) (arr':=(l25 P j k)) Z sz25 Z Z (onesOf (Oc Z (Oc Z (Oc Z (Oc Z (Oc Z (Oc Z (Oc Z (Oc Z (Oc Z (Oc Z (Oc Z (Oc (Ow a5) (Oc Z (Oc Z (Oc (Ow a6) Oz)))))))))))))))) Z Z (by kernel_rfl)) Z ?_
 rintro _ _ _ - ⟨rfl,rfl⟩
 refine qa (GV U) (Nt ?_)
 obtain ⟨f3,f8,h⟩:=bnd h
 refine Jf (fun(p_:(Bool×(List T_api_Batch))) ρ' M' H'=>match p_ with |(f9,g0)=>∃ a7,h4.le M'∧[(h5, .cells (l25 P j k).toArray 25 (0,0))]::[(h3, .cells (l25 z e f).toArray 25 (0,0))]::[(e7, .cells #[(Iv n.Kind),g] 29 (0,0))]::[(h0, .cells #[(Iv 4),(Iv 1),(Iv 2),(Iv 3),(Bv false),(Bv false),(Iv 1),(Iv 5),(Iv 2),(Iv 4),(Iv 0),a7,(Iv 0),(Iv 0),Zs] 25 (0,0))]::Y::a4::W::X::F=H'∧ρ' 0=(Bv f9)∧RS kd_api_Batch M' a7 g0) f3 ?_ ?_
 have h:=f8
 refine WC.draw [0,1,3,7,15,31,63,127,255,511,1023,2047,4095,4095,16383,32767,65535,131071,262143,524287,1048575,2097151,4194303,8388607,16777215,33554431,67108863,134217727,268435455,536870911,1073741823,2147483647,2147483647,6442450943,17179869183,34359738367,68719476735,137438953471,137438953471,549755813887,1099511627775,2199023255551,4398046511103] (.pure 0 (.pure 1 (.pure 2 (.pure 3 (.pure 4 (.pure 5 (.pure 6 (.pure 7 (.pure 8 (.pure 9 (.pure 10 (.pure 11 (.pure 12 (.pure 13 (.alt 14 (.pure 15 (.pure 16 (.pure 17 (.alt 18 (.pure 19 (.pure 20 (.pure 21 (.alt 22 (.pure 23 (.pure 24 (.pure 25 (.pure 26 (.alt 27 (.alt 28 (.pure 29 (.pure 30 (.pure 31 (.pure 32 (.alt 33 (.alt 34 (.pure 35 (.pure 36 (.pure 37 (.pure 38 (.alt 39 (.pure 40 (.pure 41 (.pure 42 .done))) .none))))) .none) .none))))) .none) .none))))) .none)))) .none)))) .none))))))))))))))) mixed (by kernel_rfl) (qt (GV K) Z (Mv Z) (qt (Bv K.isNil) Z (errNil underlying31 Z) (qt (Bv K.isNil) Z (Mv Z) ?_)))
 rcases Bi h with⟨o,h⟩ |⟨o,h⟩
 refine Tn (pt e7 0) 30 Z Z Z o (Fa fo29_0 Z Z) Z (Tn (Iv n.Kind) 30 Z Z Z o (Lb 6 pl3 Z Z Z) Z (Tn (Bv (decide (n.Kind=4))) 30 Z Z Z o (eql Z Z) Z (qt (Bv (decide (n.Kind=4))) Z (Pt Z o Z) (qt (Bv (decide (n.Kind=4))) Z (Mv Z) ?_))))
 rcases Bi h with⟨w,h⟩ |⟨w,h⟩
 refine Tn (GV J) 35 Z Z Z w (Mv Z) Z (Tn (Bv J.isNil) 35 Z Z Z w (errNil underlying31 Z) Z (qt (Bv J.isNil) Z (Pt Z w Z) (qt (Bv J.isNil) Z (Mv Z) ?_)))
 rcases Bi h with⟨p,h⟩ |⟨p,h⟩
 refine Tn (a25_ z e f) 39 Z Z Z p (La (cs:=(l25 z e f)) 3 ag25 sz25 Z Z Z) Z (Tn (.agg #[(Iv 4),(Iv 1),(Iv 2),(Iv 3),(Bv false),(Bv false),(Iv 1),(Iv 5),(Iv 2),(Iv 4),(Iv 0),(.slice (some ⟨b,0,none⟩) 1 1),(Iv 0),(Iv 0),Zs]) 39 Z Z Z p (La (cs:=[(Iv 4),(Iv 1),(Iv 2),(Iv 3),(Bv false),(Bv false),(Iv 1),(Iv 5),(Iv 2),(Iv 4),(Iv 0),(.slice (some ⟨b,0,none⟩) 1 1),(Iv 0),(Iv 0),Zs]) 8 ag25 sz25 Z Z Z) Z ?_)
 obtain ⟨c4,g1,h⟩:=bnd h
 refine WT.f7 (WT.f6 (WT.f6 ?_))
 have l:=l.mono C
 have m:=m.mono C
 have a:=a.mono b2
 refine WT.altOn 39 Z Z Z p (EO.call3 co17 (Tri.lend l.excl fun w0_ H0_ hs0_=>(Tri.lend m.excl fun w1_ H1_ hs1_=>(Tri.lend a.excl fun w2_ H2_ hs2_=>(f_rpc_Same_ok z lit1_ _ _ _ _ _ (((l.rs hs0_).mono (IM.le_add _ _)).mono (IM.le_add _ _)) (((m.mono (IM.le_add _ _)).rs hs1_).mono (IM.le_add _ _)) (((a.mono (IM.le_add _ _)).mono (IM.le_add _ _)).rs hs2_) (RS.nil _ _) c4 g1)))) (args2 Z Z)) Z ?_ ?_
 rintro _ _ _ Q ⟨_,⟨i5,i6,h6,rfl,rfl,⟨i7,i8,h7,rfl,rfl,⟨i9,j0,h8,rfl,rfl,⟨rfl,rfl⟩⟩⟩⟩,rfl⟩
 refine⟨(Sl Z), ?_⟩
 refine WT.a3 (qt (Bv c4) Z (Pt Z p Z) (qt (Bv c4) Z (Mv Z) ?_))
 rcases Bi h with⟨y,h⟩ |⟨y,h⟩
 refine Tn (GV U) 44 Z Z Z y (Mv Z) Z ?_
 obtain ⟨c5,g2,h⟩:=bnd h
 refine WT.altOn 44 Z Z Z y (Ca co22 (f_fault_Is_ok U (5:Int) _ c5 g2) (args2 Z Z)) Z ?_ ?_
 rintro _ j9 _ c6 ⟨_,⟨rfl,rfl⟩,rfl⟩
 have b3:=Q.trans c6
 refine⟨(Sl Z), ?_⟩
 refine WT.a0 (qt (Bv c5) Z (Pt Z y Z) (qt (Bv c5) Z (Mv Z) ?_))
 rcases Bi h with⟨q,h⟩ |⟨q,h⟩
 refine Tn (.agg #[(Iv 4),(Iv 1),(Iv 2),(Iv 3),(Bv false),(Bv false),(Iv 1),(Iv 5),(Iv 2),(Iv 4),(Iv 0),(.slice (some ⟨b,0,none⟩) 1 1),(Iv 0),(Iv 0),Zs]) 48 Z Z Z q (La (cs:=[(Iv 4),(Iv 1),(Iv 2),(Iv 3),(Bv false),(Bv false),(Iv 1),(Iv 5),(Iv 2),(Iv 4),(Iv 0),(.slice (some ⟨b,0,none⟩) 1 1),(Iv 0),(Iv 0),Zs]) 8 ag25 sz25 Z Z Z) Z ?_
 obtain ⟨b4,g3,h⟩:=bnd h
 refine WT.f2 ?_
 have a:=a.mono b3
 refine WT.altOn 48 Z Z Z q (Cb co16 (Tri.lend a.excl fun w0_ H0_ hs0_=>(f_rpc_Check_ok lit1_ _ _ _ (a.rs hs0_) (RS.nil _ _) b4 g3)) (args1 Z)) Z ?_ ?_
 rintro _ _ _ D ⟨_,⟨j1,j2,h9,rfl,rfl,⟨rfl,rfl⟩⟩,rfl⟩
 have g4:=b3.trans D
 refine⟨(Sl Z), ?_⟩
 refine WT.a1 (Tn (Bv b4.isNil) 48 Z Z Z q (errNil underlying31 Z) Z (qt (Bv b4.isNil) Z (Pt Z q Z) (qt (Bv b4.isNil) Z (Mv Z) ?_)))
 rcases Bi h with⟨r,h⟩ |⟨r,h⟩
 refine Tn (.agg #[(Iv 1),(Iv 1),(Iv 1),(Iv 0),(Bv false),(Bv false),(Iv 0),(Iv 0),(Iv 0),(Iv 0),(Iv 0),Zs,(Iv 0),(Iv 0),Zs]) 53 Z Z Z r (Bl (cl:=[(Iv 1),(Iv 1),(Iv 1),(Iv 0),(Bv false),(Bv false),(Iv 0),(Iv 0),(Iv 0),(Iv 0),(Iv 0),Zs,(Iv 0),(Iv 0),Zs]) ze25 fp25 (Pc (Iv 1) Z Z (Pc (Iv 1) Z Z (Pc (Iv 1) Z Z Pz))) Z) Z ?_
 obtain ⟨g5,g6,h⟩:=bnd h
 refine WT.altOn 53 Z Z Z r (Ca co16 (f_rpc_Check_ok (⟨(1:Int),(1:Int),(1:Int),(0:Int),false,false,(0:Int),(0:Int),(0:Int),(0:Int),(0:Int),[],(0:Int),(0:Int),[]⟩:T_api_Rpc) _ _ _ (RS.nil _ _) (RS.nil _ _) g5 g6) (args1 Z)) Z ?_ ?_
 rintro _ j3 _ E ⟨_,⟨rfl,rfl⟩,rfl⟩
 have g7:=g4.trans E
 refine⟨(Sl Z), ?_⟩
 refine WT.a0 ?_
 obtain ⟨a8,c7,h⟩:=bnd h
 refine WT.altOn 53 Z Z Z r (Ca co22 (f_fault_Is_ok g5 (2:Int) _ a8 c7) (args2 Z Z)) Z ?_ ?_
 rintro _ j4 _ G ⟨_,⟨rfl,rfl⟩,rfl⟩
 have a9:=g7.trans G
 refine⟨(Sl Z), ?_⟩
 refine WT.a0 (qt (Bv a8) Z (Pt Z r Z) (qt (Bv a8) Z (Mv Z) ?_))
 rcases Bi h with⟨c,h⟩ |⟨c,h⟩
 refine Tn (.agg #[(Iv 4),(Iv 1),(Iv 2),(Iv 3),(Bv false),(Bv false),(Iv 1),(Iv 5),(Iv 2),(Iv 4),(Iv 0),(.slice (some ⟨b,0,none⟩) 1 1),(Iv 0),(Iv 0),Zs]) 58 Z Z Z c (La (cs:=[(Iv 4),(Iv 1),(Iv 2),(Iv 3),(Bv false),(Bv false),(Iv 1),(Iv 5),(Iv 2),(Iv 4),(Iv 0),(.slice (some ⟨b,0,none⟩) 1 1),(Iv 0),(Iv 0),Zs]) 8 ag25 sz25 Z Z Z) Z (Tn (.agg #[(Iv 4),(Iv 1),(Iv 2),(Iv 3),(Bv false),(Bv false),(Iv 1),(Iv 5),(Iv 2),(Iv 4),(Iv 0),(.slice (some ⟨b,0,none⟩) 1 1),(Iv 0),(Iv 0),Zs]) 58 Z Z Z c (La (cs:=[(Iv 4),(Iv 1),(Iv 2),(Iv 3),(Bv false),(Bv false),(Iv 1),(Iv 5),(Iv 2),(Iv 4),(Iv 0),(.slice (some ⟨b,0,none⟩) 1 1),(Iv 0),(Iv 0),Zs]) 8 ag25 sz25 Z Z Z) Z ?_)
 have a:=a.mono ((D.trans E).trans G)
 refine WT.know (fun _ hs=>a.rs hs) (fun d=> ?_)
 refine WT.freeze (fun R=> ?_)
 obtain ⟨c3,c8,h⟩:=bnd h
 refine WT.altOn 58 Z Z Z c (Ca co18 (f_rpc_Copy_ok lit1_ _ _ _ d (RS.nil _ _) c3 c8) (args1 Z)) Z ?_ ?_
 rintro _ j5 _ I ⟨_,⟨d9,e0,e1,e2,rfl,rfl,A,B⟩,rfl⟩
 refine⟨(Sk 1 Z (St (StabA.on 58 Z Z Z c (La (cs:=[(Iv 4),(Iv 1),(Iv 2),(Iv 3),(Bv false),(Bv false),(Iv 1),(Iv 5),(Iv 2),(Iv 4),(Iv 0),(.slice (some ⟨b,0,none⟩) 1 1),(Iv 0),(Iv 0),Zs]) 9 ag25 sz25 Z Z Z) Z) (Sl Z))), ?_⟩
 refine WT.a2 ?_
 obtain ⟨b0,c9,h⟩:=bnd h
 refine WT.f1 (WT.f1 ?_)
 have d:=d.mono I
 refine WT.altOn 58 Z Z Z c (EO.call2 co17 (Tri.lend A.excl fun w0_ H0_ hs0_=>(Tri.lend B.excl fun w1_ H1_ hs1_=>(f_rpc_Same_ok lit1_ c3 _ _ _ _ _ ((d.mono (IM.le_add _ _)).mono (IM.le_add _ _)) (RS.nil _ _) ((A.rs hs0_).mono (IM.le_add _ _)) ((B.mono (IM.le_add _ _)).rs hs1_) b0 c9))) (args2 Z Z)) Z ?_ ?_
 rintro _ _ _ t ⟨_,⟨i0,i1,g8,rfl,rfl,⟨i2,i3,g9,rfl,rfl,⟨rfl,rfl⟩⟩⟩,rfl⟩
 refine⟨(Sl Z), ?_⟩
 refine WT.a2 (qt (Bv b0) Z (Pt Z c Z) (qt (Bv b0) Z (Mv Z) ?_))
 rcases Bi h with⟨i,h⟩ |⟨i,h⟩
 refine Tn (.agg #[(Iv 4),(Iv 1),(Iv 2),(Iv 3),(Bv false),(Bv false),(Iv 1),(Iv 5),(Iv 2),(Iv 4),(Iv 0),(.slice (some ⟨b,0,none⟩) 1 1),(Iv 0),(Iv 0),Zs]) 64 Z Z Z i (La (cs:=[(Iv 4),(Iv 1),(Iv 2),(Iv 3),(Bv false),(Bv false),(Iv 1),(Iv 5),(Iv 2),(Iv 4),(Iv 0),(.slice (some ⟨b,0,none⟩) 1 1),(Iv 0),(Iv 0),Zs]) 9 ag25 sz25 Z Z Z) Z (Tn (.agg z25_.toArray) 64 Z Z Z i (Bl (cl:=z25_) ze25 fp25 Pz Z) Z ?_)
 obtain ⟨S,d0,h⟩:=bnd h
 have d:=d.mono t
 refine WT.altOn 64 Z Z Z i (Ca co17 (f_rpc_Same_ok lit1_ lit4_ _ _ _ _ _ d (RS.nil _ _) (RS.nil _ _) (RS.nil _ _) S d0) (args2 Z Z)) Z ?_ ?_
 rintro _ j6 _ T ⟨_,⟨rfl,rfl⟩,rfl⟩
 refine⟨(Sl Z), ?_⟩
 refine WT.a0 (Tn (Bv (!S)) 64 Z Z Z i (PO.not Z) Z (qt (Bv (!S)) Z (Pt Z i Z) (qt (Bv (!S)) Z (Ag Z) (Ti (Dr (Dr (Qa (Qa (WQ.f4 (WQ.f4 (WQ.f7 ?_)))))))))))
 refine WQ.f7 (WQ.f7 (WQ.f7 ?_))
 obtain rfl:=oi h
 refine Tj ?_
 have d:=d.mono T
 exact⟨(.slice (some ⟨b,0,none⟩) 1 1),((((a9.trans R).trans I).trans t).trans T),Z,Z,d⟩
 exact Tz
 refine Tf 64 Z Z Z i Z (Tf 64 Z Z Z i Z (Tg 64 Z Z Z i Z ⟨(Sl Z), ?_⟩ ?_))
 refine Tf 64 Z Z Z i Z (qt (Bv false) Z (Pf Z i Z) (qt (Bv false) Z (Ag Z) (Ti (Dr (Dr (Qa (Qa (WQ.f4 (WQ.f4 (WQ.f7 (WQ.f7 ?_)))))))))))
 refine WQ.f7 (WQ.f7 ?_)
 obtain rfl:=oi h
 refine Tj ?_
 have d:=d.mono t
 exact⟨(.slice (some ⟨b,0,none⟩) 1 1),(((a9.trans R).trans I).trans t),Z,Z,d⟩
 exact Tz
 exact Tz
 exact Tz
 refine Tf 58 Z Z Z c Z (Tf 58 Z Z Z c Z (Tg 58 Z Z Z c Z ⟨(Sk 1 Z (St (Sf 58 Z Z Z c Z) (Sl Z))), ?_⟩ ?_))
 refine Tg 58 Z Z Z c Z ⟨(Sl Z), ?_⟩ ?_
 refine qt (Bv false) Z (Pf Z c Z) (qt (Bv false) Z (Mv Z) (Tf 64 Z Z Z Z Z (Tf 64 Z Z Z Z Z (Tg 64 Z Z Z Z Z ⟨(Sl Z), ?_⟩ ?_))))
 refine Tf 64 Z Z Z Z Z (qt (Bv false) Z (Pf Z Z Z) (qt (Bv false) Z (Ag Z) (Ti ?_)))
 have a:=a.mono ((D.trans E).trans G)
 refine WQ.know (fun _ hs=>a.rs hs) (fun d1=> ?_)
 refine WQ.freeze (fun b5=> ?_)
 refine Qa (Qa (WQ.f4 (WQ.f4 (WQ.f7 (WQ.f7 (WQ.f7 (WQ.f7 ?_)))))))
 obtain rfl:=oi h
 exact Tj ⟨(.slice (some ⟨b,0,none⟩) 1 1),(a9.trans b5),Z,Z,d1⟩
 exact Tz
 exact Tz
 exact Tz
 exact Tz
 exact Tz
 refine Tf 53 Z Z Z r Z (Tg 53 Z Z Z r Z ⟨(Sl Z), ?_⟩ ?_)
 refine Tg 53 Z Z Z r Z ⟨(Sl Z), ?_⟩ ?_
 refine qt (Bv false) Z (Pf Z r Z) (qt (Bv false) Z (Mv Z) (Tf 58 Z Z Z Z Z (Tf 58 Z Z Z Z Z (Tg 58 Z Z Z Z Z ⟨(Sk 1 Z (St (Sf 58 Z Z Z Z Z) (Sl Z))), ?_⟩ ?_))))
 refine Tg 58 Z Z Z Z Z ⟨(Sl Z), ?_⟩ ?_
 refine qt (Bv false) Z (Pf Z Z Z) (qt (Bv false) Z (Mv Z) (Tf 64 Z Z Z Z Z (Tf 64 Z Z Z Z Z (Tg 64 Z Z Z Z Z ⟨(Sl Z), ?_⟩ ?_))))
 refine Tf 64 Z Z Z Z Z (qt (Bv false) Z (Pf Z Z Z) (qt (Bv false) Z (Ag Z) (Ti ?_)))
 have a:=a.mono D
 refine WQ.know (fun _ hs=>a.rs hs) (fun d2=> ?_)
 refine WQ.freeze (fun b6=> ?_)
 refine Qa (Qa (WQ.f4 (WQ.f4 (WQ.f7 (WQ.f7 (WQ.f7 (WQ.f7 ?_)))))))
 obtain rfl:=oi h
 exact Tj ⟨(.slice (some ⟨b,0,none⟩) 1 1),(g4.trans b6),Z,Z,d2⟩
 exact Tz
 exact Tz
 exact Tz
 exact Tz
 exact Tz
 exact Tz
 refine Tf 48 Z Z Z q Z (Tg 48 Z Z Z q Z ⟨(Sl Z), ?_⟩ ?_)
 refine Tf 48 Z Z Z q Z (qt (Bv false) Z (Pf Z q Z) (qt (Bv false) Z (Mv Z) (Tf 53 Z Z Z Z Z (Tg 53 Z Z Z Z Z ⟨(Sl Z), ?_⟩ ?_))))
 refine Tg 53 Z Z Z Z Z ⟨(Sl Z), ?_⟩ ?_
 refine qt (Bv false) Z (Pf Z Z Z) (qt (Bv false) Z (Mv Z) (Tf 58 Z Z Z Z Z (Tf 58 Z Z Z Z Z (Tg 58 Z Z Z Z Z ⟨(Sk 1 Z (St (Sf 58 Z Z Z Z Z) (Sl Z))), ?_⟩ ?_))))
 refine Tg 58 Z Z Z Z Z ⟨(Sl Z), ?_⟩ ?_
 refine qt (Bv false) Z (Pf Z Z Z) (qt (Bv false) Z (Mv Z) (Tf 64 Z Z Z Z Z (Tf 64 Z Z Z Z Z (Tg 64 Z Z Z Z Z ⟨(Sl Z), ?_⟩ ?_))))
 refine Tf 64 Z Z Z Z Z (qt (Bv false) Z (Pf Z Z Z) (qt (Bv false) Z (Ag Z) (Ti (Qb ?_))))
 have a:=a.mono b3
 refine WQ.know (fun _ hs=>a.rs hs) (fun d3=> ?_)
 refine WQ.freeze (fun b7=> ?_)
 refine Qa (Qa (WQ.f4 (WQ.f4 (WQ.f7 (WQ.f7 (WQ.f7 (WQ.f7 ?_)))))))
 obtain rfl:=oi h
 exact Tj ⟨(.slice (some ⟨b,0,none⟩) 1 1),(b3.trans b7),Z,Z,d3⟩
 exact Tz
 exact Tz
 exact Tz
 exact Tz
 exact Tz
 exact Tz
 exact Tz
 refine Tf 44 Z Z Z y Z (Tg 44 Z Z Z y Z ⟨(Sl Z), ?_⟩ ?_)
 refine qt (Bv false) Z (Pf Z y Z) (qt (Bv false) Z (Mv Z) (Tf 48 Z Z Z Z Z (Tg 48 Z Z Z Z Z ⟨(Sl Z), ?_⟩ ?_)))
 refine Tf 48 Z Z Z Z Z (qt (Bv false) Z (Pf Z Z Z) (qt (Bv false) Z (Mv Z) (Tf 53 Z Z Z Z Z (Tg 53 Z Z Z Z Z ⟨(Sl Z), ?_⟩ ?_))))
 refine Tg 53 Z Z Z Z Z ⟨(Sl Z), ?_⟩ ?_
 refine qt (Bv false) Z (Pf Z Z Z) (qt (Bv false) Z (Mv Z) (Tf 58 Z Z Z Z Z (Tf 58 Z Z Z Z Z (Tg 58 Z Z Z Z Z ⟨(Sk 1 Z (St (Sf 58 Z Z Z Z Z) (Sl Z))), ?_⟩ ?_))))
 refine Tg 58 Z Z Z Z Z ⟨(Sl Z), ?_⟩ ?_
 refine qt (Bv false) Z (Pf Z Z Z) (qt (Bv false) Z (Mv Z) (Tf 64 Z Z Z Z Z (Tf 64 Z Z Z Z Z (Tg 64 Z Z Z Z Z ⟨(Sl Z), ?_⟩ ?_))))
 refine Tf 64 Z Z Z Z Z (qt (Bv false) Z (Pf Z Z Z) (qt (Bv false) Z (Ag Z) (Ti (Qb ?_))))
 have a:=a.mono Q
 refine WQ.know (fun _ hs=>a.rs hs) (fun d4=> ?_)
 refine WQ.freeze (fun b8=> ?_)
 refine Qa (Qa (WQ.f4 (WQ.f4 (WQ.f7 (WQ.f7 (WQ.f7 (WQ.f7 ?_)))))))
 obtain rfl:=oi h
 exact Tj ⟨(.slice (some ⟨b,0,none⟩) 1 1),(Q.trans b8),Z,Z,d4⟩
 exact Tz
 exact Tz
 exact Tz
 exact Tz
 exact Tz
 exact Tz
 exact Tz
 exact Tz
 refine Tf 39 Z Z Z p Z (Tf 39 Z Z Z p Z (Tg 39 Z Z Z p Z ⟨(Sl Z), ?_⟩ ?_))
 refine qt (Bv false) Z (Pf Z p Z) (qt (Bv false) Z (Mv Z) (Tf 44 Z Z Z Z Z (Tg 44 Z Z Z Z Z ⟨(Sl Z), ?_⟩ ?_)))
 refine qt (Bv false) Z (Pf Z Z Z) (qt (Bv false) Z (Mv Z) (Tf 48 Z Z Z Z Z (Tg 48 Z Z Z Z Z ⟨(Sl Z), ?_⟩ ?_)))
 refine Tf 48 Z Z Z Z Z (qt (Bv false) Z (Pf Z Z Z) (qt (Bv false) Z (Mv Z) (Tf 53 Z Z Z Z Z (Tg 53 Z Z Z Z Z ⟨(Sl Z), ?_⟩ ?_))))
 refine Tg 53 Z Z Z Z Z ⟨(Sl Z), ?_⟩ ?_
 refine qt (Bv false) Z (Pf Z Z Z) (qt (Bv false) Z (Mv Z) (Tf 58 Z Z Z Z Z (Tf 58 Z Z Z Z Z (Tg 58 Z Z Z Z Z ⟨(Sk 1 Z (St (Sf 58 Z Z Z Z Z) (Sl Z))), ?_⟩ ?_))))
 refine Tg 58 Z Z Z Z Z ⟨(Sl Z), ?_⟩ ?_
 refine qt (Bv false) Z (Pf Z Z Z) (qt (Bv false) Z (Mv Z) (Tf 64 Z Z Z Z Z (Tf 64 Z Z Z Z Z (Tg 64 Z Z Z Z Z ⟨(Sl Z), ?_⟩ ?_))))
 refine Tf 64 Z Z Z Z Z (qt (Bv false) Z (Pf Z Z Z) (qt (Bv false) Z (Ag Z) (Ti (WQ.f7 ?_))))
 have a:=a.mono b2
 refine WQ.know (fun _ hs=>a.rs hs) (fun d5=> ?_)
 refine WQ.freeze (fun b9=> ?_)
 refine WQ.f5 (WQ.f5 (WQ.f4 (WQ.f4 (WQ.f7 (WQ.f7 (WQ.f7 (WQ.f7 ?_)))))))
 obtain rfl:=oi h
 exact Tj ⟨(.slice (some ⟨b,0,none⟩) 1 1),b9,Z,Z,d5⟩
 exact Tz
 exact Tz
 exact Tz
 exact Tz
 exact Tz
 exact Tz
 exact Tz
 exact Tz
 refine Tf 35 Z Z Z w Z (Tf 35 Z Z Z w Z (qt (Bv false) Z (Pf Z w Z) (qt (Bv false) Z (Mv Z) (Tf 39 Z Z Z Z Z (Tf 39 Z Z Z Z Z (Tg 39 Z Z Z Z Z ⟨(Sl Z), ?_⟩ ?_))))))
 refine qt (Bv false) Z (Pf Z Z Z) (qt (Bv false) Z (Mv Z) (Tf 44 Z Z Z Z Z (Tg 44 Z Z Z Z Z ⟨(Sl Z), ?_⟩ ?_)))
 refine qt (Bv false) Z (Pf Z Z Z) (qt (Bv false) Z (Mv Z) (Tf 48 Z Z Z Z Z (Tg 48 Z Z Z Z Z ⟨(Sl Z), ?_⟩ ?_)))
 refine Tf 48 Z Z Z Z Z (qt (Bv false) Z (Pf Z Z Z) (qt (Bv false) Z (Mv Z) (Tf 53 Z Z Z Z Z (Tg 53 Z Z Z Z Z ⟨(Sl Z), ?_⟩ ?_))))
 refine Tg 53 Z Z Z Z Z ⟨(Sl Z), ?_⟩ ?_
 refine qt (Bv false) Z (Pf Z Z Z) (qt (Bv false) Z (Mv Z) (Tf 58 Z Z Z Z Z (Tf 58 Z Z Z Z Z (Tg 58 Z Z Z Z Z ⟨(Sk 1 Z (St (Sf 58 Z Z Z Z Z) (Sl Z))), ?_⟩ ?_))))
 refine Tg 58 Z Z Z Z Z ⟨(Sl Z), ?_⟩ ?_
 refine qt (Bv false) Z (Pf Z Z Z) (qt (Bv false) Z (Mv Z) (Tf 64 Z Z Z Z Z (Tf 64 Z Z Z Z Z (Tg 64 Z Z Z Z Z ⟨(Sl Z), ?_⟩ ?_))))
 refine Tf 64 Z Z Z Z Z (qt (Bv false) Z (Pf Z Z Z) (qt (Bv false) Z (Ag Z) (Ti (WQ.f7 ?_))))
 have a:=a.mono b2
 refine WQ.know (fun _ hs=>a.rs hs) (fun d6=> ?_)
 refine WQ.freeze (fun c0=> ?_)
 refine WQ.f5 (WQ.f5 (WQ.f4 (WQ.f4 (WQ.f7 (WQ.f7 (WQ.f7 (WQ.f7 ?_)))))))
 obtain rfl:=oi h
 exact Tj ⟨(.slice (some ⟨b,0,none⟩) 1 1),c0,Z,Z,d6⟩
 exact Tz
 exact Tz
 exact Tz
 exact Tz
 exact Tz
 exact Tz
 exact Tz
 exact Tz
 refine Tf 30 Z Z Z o Z (Tf 30 Z Z Z o Z (Tf 30 Z Z Z o Z (qt (Bv false) Z (Pf Z o Z) (qt (Bv false) Z (Mv Z) (Tf 35 Z Z Z Z Z (Tf 35 Z Z Z Z Z (qt (Bv false) Z (Pf Z Z Z) (qt (Bv false) Z (Mv Z) (Tf 39 Z Z Z Z Z (Tf 39 Z Z Z Z Z (Tg 39 Z Z Z Z Z ⟨(Sl Z), ?_⟩ ?_)))))))))))
 refine qt (Bv false) Z (Pf Z Z Z) (qt (Bv false) Z (Mv Z) (Tf 44 Z Z Z Z Z (Tg 44 Z Z Z Z Z ⟨(Sl Z), ?_⟩ ?_)))
 refine qt (Bv false) Z (Pf Z Z Z) (qt (Bv false) Z (Mv Z) (Tf 48 Z Z Z Z Z (Tg 48 Z Z Z Z Z ⟨(Sl Z), ?_⟩ ?_)))
 refine Tf 48 Z Z Z Z Z (qt (Bv false) Z (Pf Z Z Z) (qt (Bv false) Z (Mv Z) (Tf 53 Z Z Z Z Z (Tg 53 Z Z Z Z Z ⟨(Sl Z), ?_⟩ ?_))))
 refine Tg 53 Z Z Z Z Z ⟨(Sl Z), ?_⟩ ?_
 refine qt (Bv false) Z (Pf Z Z Z) (qt (Bv false) Z (Mv Z) (Tf 58 Z Z Z Z Z (Tf 58 Z Z Z Z Z (Tg 58 Z Z Z Z Z ⟨(Sk 1 Z (St (Sf 58 Z Z Z Z Z) (Sl Z))), ?_⟩ ?_))))
 refine Tg 58 Z Z Z Z Z ⟨(Sl Z), ?_⟩ ?_
 refine qt (Bv false) Z (Pf Z Z Z) (qt (Bv false) Z (Mv Z) (Tf 64 Z Z Z Z Z (Tf 64 Z Z Z Z Z (Tg 64 Z Z Z Z Z ⟨(Sl Z), ?_⟩ ?_))))
 refine Tf 64 Z Z Z Z Z (qt (Bv false) Z (Pf Z Z Z) (qt (Bv false) Z (Ag Z) (Ti (WQ.f7 ?_))))
 have a:=a.mono b2
 refine WQ.know (fun _ hs=>a.rs hs) (fun d7=> ?_)
 refine WQ.freeze (fun c1=> ?_)
 refine WQ.f5 (WQ.f5 (WQ.f4 (WQ.f4 (WQ.f7 (WQ.f7 (WQ.f7 (WQ.f7 ?_)))))))
 obtain rfl:=oi h
 exact Tj ⟨(.slice (some ⟨b,0,none⟩) 1 1),c1,Z,Z,d7⟩
 exact Tz
 exact Tz
 exact Tz
 exact Tz
 exact Tz
 exact Tz
 exact Tz
 exact Tz
 obtain ⟨f9,g0⟩:=f3
 rintro k0 k1 k2 ⟨a7,d8,rfl,c2,j7⟩
 exact Cr (Dr (Dr (Dr (Dr (Dr (Dr (Dr (Dr (Rf h [] Z (Rs Z c2) (((((V.trans L).trans N).trans O).trans C).trans d8) ⟨Z,Z⟩)))))))))
noncomputable def f_ref07_no (a0:ByteArray) (a1:Int) (a2:Int):Option T_ref06_Wrong:=
 (some (⟨(⟨a0,a1,a2⟩:T_ref05_Wrong),(-1:Int)⟩:T_ref06_Wrong))
def f_ref07_no_post (a0:ByteArray) (a1:Int) (a2:Int):T_ref06_Wrong→Value→IM→HL→Prop:=
 fun(a:T_ref06_Wrong) (v:Value) (M':IM) (H':HL)=>(.agg #[(.string a.W.Op),(.int .i64 a.W.At),(.int .i64 a.W.Code),(.int .i64 a.Record)])=v∧H'=[]
theorem f_ref07_no_ok (a0:ByteArray) (a1:Int) (a2:Int) (M:IM) (res:T_ref06_Wrong) (h:f_ref07_no a0 a1 a2=some res):
 Tri prog 40 #[(Sv a0),(Iv a1),(Iv a2)] M [] (f_ref07_no_post a0 a1 a2 res):=by
 unfold f_ref07_no at h
 refine Te func40 Z Z ?_
 intro F ρ hρ
 refine Sr (We (Al ze42 Z) Z ?_)
 rintro _ _ _ - ⟨rfl,a,rfl,rfl⟩
 refine Ns (qM (Sv a0) (hρ 0) (qM (Iv a1) (hρ 1) (qM (Iv a2) (hρ 2) (qu (.agg #[(Sv a0),(Iv a1),(Iv a2)]) (Bl (cl:=[(Sv a0),(Iv a1),(Iv a2)]) ze40 fp40 (Pc (Sv a0) Z Z (Pc (Iv a1) Z Z (Pc (Iv a2) Z Z Pz))) Z) (qu (.agg #[(Sv a0),(Iv a1),(Iv a2),(Iv (-1:Int))]) (Bl (cl:=[(Sv a0),(Iv a1),(Iv a2),(Iv (-1:Int))]) ze42 fp42 (Pc (.agg #[(Sv a0),(Iv a1),(Iv a2)]) Z Z (Pc (Iv (-1:Int)) Z Z Pz)) Z) (We (Sg (v:=(.agg #[(Sv a0),(Iv a1),(Iv a2),(Iv (-1:Int))])) (vl:=[(Sv a0),(Iv a1),(Iv a2),(Iv (-1:Int))]) (arr':=[(Sv a0),(Iv a1),(Iv a2),(Iv (-1:Int))]) Z sz42 Z Z (onb Z) Z Z Z) Z ?_))))))
 rintro _ _ _ - ⟨rfl,rfl⟩
 exact Nt (Cr (Rd h [] (fun _ hs=>hs.drop) (resultsL1 Z (Rc (cs:=[(Sv a0),(Iv a1),(Iv a2),(Iv (-1:Int))]) 0 ag42 sz42 Z Z Z)) lr ⟨Z,Z⟩))
noncomputable def f_ref02_above (a0:Int):Option Int:=
 (if(decide (a0<(0:Int)))=true then(some (0:Int))else(some (u64.wrap a0)))
def f_ref02_above_post (a0:Int):Int→Value→IM→HL→Prop:=
 fun(a:Int) (v:Value) (M':IM) (H':HL)=>(.int .u64 a)=v∧H'=[]
theorem f_ref02_above_ok (a0:Int) (M:IM) (res:Int) (h:f_ref02_above a0=some res):
 Tri prog 126 #[(Iv a0)] M [] (f_ref02_above_post a0 res):=by
 unfold f_ref02_above at h
 refine Te func126 Z Z ?_
 intro F ρ hρ
 refine Sr (qa (Uv 0) (Nt (Cs (Sr (qM (Iv a0) (hρ 0) (qu (Bv (decide (a0<0))) (lss Z Z) (Nt (Ch h Z (fun a h=> ?_) (fun a h=> ?_)))))))))
 exact Sr (qa (Uv 0) (Nt (Cr (Tr (Rf h [] Z (Rs Z Z) lr ⟨Z,Z⟩)))))
 exact Ck (Tc (Sr (qM (Iv a0) (hρ 0) (qu (Uv (u64.wrap a0)) (conv us3 underlying105 Z) (qa (Uv (u64.wrap a0)) (Nt (Cr (Rf h [] Z (Rs Z Z) lr ⟨Z,Z⟩))))))))
noncomputable def f_ref02_bad (a0:T_ref02_State) (a1:ByteArray) (a2:Int) (a3:Int):Option T_ref02_State:=
 (if(decide (a0.Code≠(0:Int)))=true then(some a0)else(some (⟨a0.At,a3,a1,a2⟩:T_ref02_State)))
def f_ref02_bad_post (a0:T_ref02_State) (a1:ByteArray) (a2:Int) (a3:Int):T_ref02_State→Value→IM→HL→Prop:=
 fun(a:T_ref02_State) (v:Value) (M':IM) (H':HL)=>(.agg #[(.int .i64 a.At),(.int .i64 a.Code),(.string a.Op),(.int .i64 a.Where)])=v∧H'=[]
theorem f_ref02_bad_ok (a0:T_ref02_State) (a1:ByteArray) (a2:Int) (a3:Int) (M:IM) (res:T_ref02_State) (h:f_ref02_bad a0 a1 a2 a3=some res):
 Tri prog 127 #[(a96_ a0),(Sv a1),(Iv a2),(Iv a3)] M [] (f_ref02_bad_post a0 a1 a2 a3 res):=by
 unfold f_ref02_bad at h
 refine Te func127 Z Z ?_
 intro F ρ hρ
 refine Sr (We (box (cs:=(l96 a0).toArray) (congrArg Value.cells (asE (a96_ a0) (hρ 0)))) Z ?_)
 rintro _ _ _ - ⟨rfl,a,rfl,rfl⟩
 refine We (Al ze96 Z) Z ?_
 rintro _ _ _ - ⟨rfl,c,rfl,rfl⟩
 refine Nt (Cs (Sr (qu (pt a 1) (Fa fo96_1 Z Z) (qu (Iv a0.Code) (Lb 1 pl38 Z Z Z) (qu (Bv (decide (a0.Code≠0))) (neq Z Z) (Nt (Ch h Z (fun b h=> ?_) (fun b h=> ?_))))))))
 refine Sr (qu (a96_ a0) (La (cs:=(l96 a0)) 1 ag96 sz96 Z Z Z) (We (Sg (v:=(a96_ a0)) (vl:=(l96 a0)) (arr':=(l96 a0)) Z sz96 Z Z (onb Z) Z Z Z) Z ?_))
 rintro _ _ _ - ⟨rfl,rfl⟩
 exact Nt (Cr (Tr (Qa (Dr (Rd h [] (fun _ hs=>hs.drop) (resultsL1 Z (Rc (cs:=(l96 a0)) 0 ag96 sz96 Z Z Z)) lr ⟨Z,Z⟩)))))
 refine Ck (Tc (Sr (qu (pt a 0) (Fa fo96_0 Z Z) (qu (Iv a0.At) (Lb 1 pl3 Z Z Z) (qM (Iv a3) (hρ 3) (qM (Sv a1) (hρ 1) (qM (Iv a2) (hρ 2) (qu (.agg #[(Iv a0.At),(Iv a3),(Sv a1),(Iv a2)]) (Bl (cl:=[(Iv a0.At),(Iv a3),(Sv a1),(Iv a2)]) ze96 fp96 (Pc (Iv a0.At) Z Z (Pc (Iv a3) Z Z (Pc (Sv a1) Z Z (Pc (Iv a2) Z Z Pz)))) Z) (We (Sg (v:=(.agg #[(Iv a0.At),(Iv a3),(Sv a1),(Iv a2)])) (vl:=[(Iv a0.At),(Iv a3),(Sv a1),(Iv a2)]) (arr':=[(Iv a0.At),(Iv a3),(Sv a1),(Iv a2)]) Z sz96 Z Z (onb Z) Z Z Z) Z ?_)))))))))
 rintro _ _ _ - ⟨rfl,rfl⟩
 exact Nt (Cr (Qa (Dr (Rd h [] (fun _ hs=>hs.drop) (resultsL1 Z (Rc (cs:=[(Iv a0.At),(Iv a3),(Sv a1),(Iv a2)]) 0 ag96 sz96 Z Z Z)) lr ⟨Z,Z⟩))))
noncomputable def f_ref02_size (a0:Int):Option Int:=
 (if(decide (a0<(64:Int)))=true then(some (1:Int))else(if(decide (a0<(16384:Int)))=true then(some (2:Int))else(if(decide (a0<(1073741824:Int)))=true then(some (4:Int))else(some (8:Int)))))
def f_ref02_size_post (a0:Int):Int→Value→IM→HL→Prop:=
 fun(a:Int) (v:Value) (M':IM) (H':HL)=>(.int .i64 a)=v∧H'=[]
theorem f_ref02_size_ok (a0:Int) (M:IM) (res:Int) (h:f_ref02_size a0=some res):
 Tri prog 144 #[(Uv a0)] M [] (f_ref02_size_post a0 res):=by
 unfold f_ref02_size at h
 refine Te func144 Z Z ?_
 intro F ρ hρ
 refine Sr (qa (Iv 0) (Nt (Cs (Sr (qM (Uv a0) (hρ 0) (qu (Bv (decide (a0<64))) (lss Z Z) (Nt (Ch h Z (fun a h=> ?_) (fun a h=> ?_)))))))))
 exact Sr (qa (Iv 1) (Nt (Cr (Tr (Rf h [] Z (Rs Z Z) lr ⟨Z,Z⟩)))))
 refine Ck (Tc (Cs (Sr (qM (Uv a0) (hρ 0) (qu (Bv (decide (a0<16384))) (lss Z Z) (Nt (Ch h Z (fun b h=> ?_) (fun b h=> ?_))))))))
 exact Sr (qa (Iv 2) (Nt (Cr (Tr (Rf h [] Z (Rs Z Z) lr ⟨Z,Z⟩)))))
 refine Ck (Tc (Cs (Sr (qM (Uv a0) (hρ 0) (qu (Bv (decide (a0<1073741824))) (lss Z Z) (Nt (Ch h Z (fun c h=> ?_) (fun c h=> ?_))))))))
 exact Sr (qa (Iv 4) (Nt (Cr (Tr (Rf h [] Z (Rs Z Z) lr ⟨Z,Z⟩)))))
 exact Ck (Tc (Sr (qa (Iv 8) (Nt (Cr (Rf h [] Z (Rs Z Z) lr ⟨Z,Z⟩))))))
noncomputable def f_ref02_num_l0 (s_:(Int×Int)):Option ((Int×Int)⊕Int):=
 match s_ with
 |(a,b)=>
 (if(decide ((0:Int)<b))=true then(some (inl (i64.wrap (a*(2:Int)),u8.wrap (b - (1:Int)))))else(some (inr a)))
noncomputable def f_ref02_num_l1 (a0:(List Int)) (a1:T_ref02_State) (c:Int) (s_:(Int×Int)):Option ((Int×Int)⊕Int):=
 match s_ with
 |(b,a)=>
 (if(decide (a<c))=true then(grd (0≤i64.wrap (a1.At+a)∧i64.wrap (a1.At+a)<a0.length) (some (inl (u64.wrap ((u64.wrap (b*(256:Int)))+(u64.wrap (rd a0 (i64.wrap (a1.At+a))))),i64.wrap (a+(1:Int))))))else(some (inr b)))
noncomputable def f_ref02_num (a0:(List Int)) (a1:T_ref02_State) (a2:Int):Option (T_ref02_State×Int):=
 (if(decide (a1.Code≠(0:Int)))=true then(some (a1,(0:Int)))else(if(decide ((a0.length:Int)≤a1.At))=true then((f_ref02_bad a1 (⟨#[110,117,109]⟩:ByteArray) a1.At (3:Int)).bind fun c=>(some (c,(0:Int))))else(((grd (0≤a1.At∧a1.At<a0.length) ((iter (f_ref02_num_l0) ((1:Int),u8.wrap ((rd a0 a1.At).tdiv (64:Int)))).bind (fun(d:Int)=>(some d)))):Option Int).bind fun a=>(if(decide ((a0.length:Int)<(i64.wrap (a1.At+a))))=true then((f_ref02_bad a1 (⟨#[110,117,109]⟩:ByteArray) a1.At (3:Int)).bind fun e=>(some (e,(0:Int))))else(grd (0≤a1.At∧a1.At<a0.length) ((((iter (f_ref02_num_l1 a0 a1 a) (u64.wrap ((rd a0 a1.At).tmod (64:Int)),(1:Int))).bind (fun(f:Int)=>(some f))):Option Int).bind fun b=>((f_ref02_size b).bind fun g=>(if(decide (g≠a))=true then((f_ref02_bad a1 (⟨#[110,117,109]⟩:ByteArray) a1.At (5:Int)).bind fun i=>(some (i,(0:Int))))else(if(decide (a2<b))=true then((f_ref02_bad a1 (⟨#[110,117,109]⟩:ByteArray) a1.At (6:Int)).bind fun j=>(some (j,(0:Int))))else(some ((⟨i64.wrap (a1.At+a),(0:Int),(⟨#[]⟩:ByteArray),(0:Int)⟩:T_ref02_State),b)))))))))))
def f_ref02_num_post (a0:(List Int)) (a1:T_ref02_State) (a2:Int) (c:Value):(T_ref02_State×Int)→Value→IM→HL→Prop:=
 fun(p_:(T_ref02_State×Int)) (v:Value) (M':IM) (H':HL)=>match p_ with |(a,b)=>(.tuple #[(.agg #[(.int .i64 a.At),(.int .i64 a.Code),(.string a.Op),(.int .i64 a.Where)]),(.int .u64 b)])=v∧H'=[]
theorem f_ref02_num_ok (a0:(List Int)) (a1:T_ref02_State) (a2:Int) (M:IM) (Q:Value) (W:RS (Kd.int .u8) M Q a0) (res:(T_ref02_State×Int)) (h:f_ref02_num a0 a1 a2=some res):
 Tri prog 125 #[Q,(a96_ a1),(Uv a2)] M [] (f_ref02_num_post a0 a1 a2 Q res):=by
 unfold f_ref02_num at h
 refine Te func125 Z Z ?_
 intro F ρ hρ
 refine Sr (We (box (cs:=(l96 a1).toArray) (congrArg Value.cells (asE (a96_ a1) (hρ 1)))) Z ?_)
 rintro _ _ _ - ⟨rfl,b,rfl,rfl⟩
 refine We (Al ze96 Z) Z ?_
 rintro _ _ _ - ⟨rfl,q,rfl,rfl⟩
 refine qa (Uv 0) (Nt (Cs (Sr (qu (pt b 1) (Fa fo96_1 Z Z) (qu (Iv a1.Code) (Lb 1 pl38 Z Z Z) (qu (Bv (decide (a1.Code≠0))) (neq Z Z) (Nt (Ch h Z (fun b5 h=> ?_) (fun b5 h=> ?_)))))))))
 refine Sr (qu (a96_ a1) (La (cs:=(l96 a1)) 1 ag96 sz96 Z Z Z) (We (Sg (v:=(a96_ a1)) (vl:=(l96 a1)) (arr':=(l96 a1)) Z sz96 Z Z (onb Z) Z Z Z) Z ?_))
 rintro _ _ _ - ⟨rfl,rfl⟩
 exact qa (Uv 0) (Nt (Cr (Tr (Qa (Dr (Rd h [] (fun _ hs=>hs.drop) (resultsLN Z (RVs.cons (Rc (cs:=(l96 a1)) 0 ag96 sz96 Z Z Z) (RVs.cons (RV.tmp Z) RVs.nil))) lr ⟨Z,Z⟩))))))
 refine Ck (Tc (Cs (Sr (qu (pt b 0) (Fa fo96_0 Z Z) (qu (Iv a1.At) (Lb 1 pl3 Z Z Z) (qM Q (hρ 0) (qu (Iv (a0.length:Int)) (lenS underlying23 Z W.len) (qu (Bv (decide ((a0.length:Int)≤a1.At))) (geq Z Z) (Nt (Ch h Z (fun b6 h=> ?_) (fun b6 h=> ?_)))))))))))
 refine Sr (qu (a96_ a1) (La (cs:=(l96 a1)) 1 ag96 sz96 Z Z Z) (qu (pt b 0) (Fa fo96_0 Z Z) (qu (Iv a1.At) (Lb 1 pl3 Z Z Z) ?_)))
 obtain ⟨R,b7,h⟩:=bnd h
 refine We (Ca co127 (f_ref02_bad_ok a1 (⟨#[110,117,109]⟩:ByteArray) a1.At (3:Int) _ R b7) (args4 Z Z Z Z)) Z ?_
 rintro _ e1 _ a3 ⟨_,⟨rfl,rfl⟩,rfl⟩
 refine WL.a0 (We (Sg (v:=(a96_ R)) (vl:=(l96 R)) (arr':=(l96 R)) Z sz96 Z Z (onb Z) Z Z Z) Z ?_)
 rintro _ _ _ - ⟨rfl,rfl⟩
 exact qa (Uv 0) (Nt (Cr (Tr (Qa (Dr (Rd h [] (fun _ hs=>hs.drop) (resultsLN Z (RVs.cons (Rc (cs:=(l96 R)) 0 ag96 sz96 Z Z Z) (RVs.cons (RV.tmp Z) RVs.nil))) a3 ⟨Z,Z⟩))))))
 refine Ck (Tc (Sr (qa (Iv 1) (Nt ?_))))
 obtain ⟨a,b8,h⟩:=bnd h
 refine Jf (fun(a:Int) ρ' M' H'=>M.le M'∧[(q, .cells z96_.toArray 96 (0,0))]::[(b, .cells (l96 a1).toArray 96 (0,0))]::F=H'∧ρ' 0=Q∧ρ' 2=(Uv a2)∧ρ' 4=(pt b 0)∧ρ' 6=(pt q 0)∧ρ' 8=(Iv a)) a ?_ ?_
 have h:=b8
 refine Sr (qM Q (hρ 0) (qu (pt b 0) (Fa fo96_0 Z Z) (qu (Iv a1.At) (Lb 1 pl3 Z Z Z) ?_)))
 obtain ⟨z,h⟩:=grd_i h
 obtain ⟨d5,d8,a4,a5,hhas37⟩:=W.at z.1 z.2 (by decide)
 obtain rfl:=a5
 refine qu (.pointer (some d5)) (indexAddr (n:=a0.length) underlying23 sz5 Z Z z.1 z.2 a4) (qu (Yv (rd a0 a1.At)) (loadM pl5 Z (IM.has0 hhas37)) (qu (Yv (u8.wrap ((rd a0 a1.At).tdiv (64:Int)))) (quo Z Z (by decide)) (qa (Yv (u8.wrap ((rd a0 a1.At).tdiv (64:Int)))) (Nt (Bk ?_)))))
 obtain ⟨e2,b9,c0⟩:=bnd h
 clear h
 refine WC.loop b9 (fun(p_:(Int×Int)) ρ' M' H'=>match p_ with |(u,r)=>M.le M'∧[(q, .cells z96_.toArray 96 (0,0))]::[(b, .cells (l96 a1).toArray 96 (0,0))]::F=H'∧ρ' 0=Q∧ρ' 2=(Uv a2)∧ρ' 4=(pt b 0)∧ρ' 6=(pt q 0)∧ρ' 8=(Iv u)∧ρ' 9=(Yv r)) ?_ ?_
 exact⟨lr,Z,(hρ 0),(hρ 2),Z,Z,Z,Z⟩
 rintro ⟨u,r⟩ e3 e4 e5 e6 h ⟨S,rfl,A,B,C,D,E,G⟩
 unfold f_ref02_num_l0 at h
 refine Cs (Sr (qM (Yv r) G (qu (Bv (decide ((0:Int)<r))) (gtr Z Z) (Nt (Ch h Z (fun c1 h=> ?_) (fun c1 h=> ?_))))))
 refine Ck (Tc (Cs (Bk (Cg (qM (Iv u) E (qu (Iv (i64.wrap (u*(2:Int)))) (mul Z Z) (qa (Iv (i64.wrap (u*(2:Int)))) (Wz (Bn (Tc (Cg ?_)))))))))))
 exact qM (Yv r) G (qu (Yv (u8.wrap (r - 1))) (PO.sub Z Z) (qa (Yv (u8.wrap (r - 1))) (Wz (WQ.again (i64.wrap (u*(2:Int)),u8.wrap (r - 1)) (oi h).symm ⟨S,Z,A,B,C,D,Z,Z⟩))))
 refine WC.exit (WQ.thenE (WQ.leaveE u (oi h).symm (fun a6=> ?_)))
 subst a6
 have h:=c0
 refine WQ.blockH ?_
 obtain rfl:=oi h
 exact Tj ⟨S,Z,A,B,C,D,E⟩
 rintro e7 c2 e8 ⟨g,rfl,k,X,e,l,I⟩
 refine Cs (Sr (qu (pt b 0) (Fa fo96_0 e Z) (qu (Iv a1.At) (Lb 1 pl3 Z Z Z) (qM (Iv a) I (qu (Iv (i64.wrap (a1.At+a))) (add Z Z) (qM Q k ?_))))))
 have W:=W.mono g
 refine qu (Iv (a0.length:Int)) (lenS underlying23 Z W.len) (qu (Bv (decide ((a0.length:Int)<(i64.wrap (a1.At+a))))) (gtr Z Z) (Nt (Ch h Z (fun c3 h=> ?_) (fun c3 h=> ?_))))
 refine Sr (qu (a96_ a1) (La (cs:=(l96 a1)) 1 ag96 sz96 e Z Z) (qu (pt b 0) (Fa fo96_0 e Z) (qu (Iv a1.At) (Lb 1 pl3 Z Z Z) ?_)))
 obtain ⟨T,c4,h⟩:=bnd h
 refine We (Ca co127 (f_ref02_bad_ok a1 (⟨#[110,117,109]⟩:ByteArray) a1.At (3:Int) _ T c4) (args4 Z Z Z Z)) Z ?_
 rintro _ e9 _ a7 ⟨_,⟨rfl,rfl⟩,rfl⟩
 refine WL.a0 (We (Sg (v:=(a96_ T)) (vl:=(l96 T)) (arr':=(l96 T)) Z sz96 l Z (onb Z) Z Z Z) Z ?_)
 rintro _ _ _ - ⟨rfl,rfl⟩
 exact qa (Uv 0) (Nt (Cr (Tr (Qa (Dr (Rd h [] (fun _ hs=>hs.drop) (resultsLN Z (RVs.cons (Rc (cs:=(l96 T)) 0 ag96 sz96 l Z Z) (RVs.cons (RV.tmp Z) RVs.nil))) (g.trans a7) ⟨Z,Z⟩))))))
 refine Ck (Tc (Sr (qM Q k (qu (pt b 0) (Fa fo96_0 e Z) (qu (Iv a1.At) (Lb 1 pl3 Z Z Z) ?_)))))
 obtain ⟨J,h⟩:=grd_i h
 obtain ⟨d6,d9,a8,a9,hhas55⟩:=W.at J.1 J.2 (by decide)
 obtain rfl:=a9
 refine qu (.pointer (some d6)) (indexAddr (n:=a0.length) underlying23 sz5 Z Z J.1 J.2 a8) (qu (Yv (rd a0 a1.At)) (loadM pl5 Z (IM.has0 hhas55)) (qu (Yv ((rd a0 a1.At).tmod (64:Int))) (rem Z Z (by decide)) (qu (Uv (u64.wrap ((rd a0 a1.At).tmod (64:Int)))) (conv us5 underlying105 Z) (qa (Uv (u64.wrap ((rd a0 a1.At).tmod (64:Int)))) (Nt ?_)))))
 obtain ⟨m,c5,h⟩:=bnd h
 refine Jf (fun(m:Int) ρ' M' H'=>c2.le M'∧[(q, .cells z96_.toArray 96 (0,0))]::[(b, .cells (l96 a1).toArray 96 (0,0))]::F=H'∧ρ' 2=(Uv a2)∧ρ' 4=(pt b 0)∧ρ' 6=(pt q 0)∧ρ' 8=(Iv a)∧ρ' 10=(Uv m)) m ?_ ?_
 have h:=c5
 refine Sr (qa (Iv 1) (Nt (Bk ?_)))
 obtain ⟨f0,c6,c7⟩:=bnd h
 clear h
 refine WC.loop c6 (fun(p_:(Int×Int)) ρ' M' H'=>match p_ with |(s,d)=>c2.le M'∧[(q, .cells z96_.toArray 96 (0,0))]::[(b, .cells (l96 a1).toArray 96 (0,0))]::F=H'∧ρ' 0=Q∧ρ' 2=(Uv a2)∧ρ' 4=(pt b 0)∧ρ' 6=(pt q 0)∧ρ' 8=(Iv a)∧ρ' 10=(Uv s)∧ρ' 11=(Iv d)) ?_ ?_
 exact⟨lr,Z,k,X,e,l,I,Z,Z⟩
 rintro ⟨s,d⟩ f1 f2 f3 f4 h ⟨w,rfl,K,L,o,N,p,t,i⟩
 unfold f_ref02_num_l1 at h
 refine Cs (Sr (qM (Iv d) i (qM (Iv a) p (qu (Bv (decide (d<a))) (lss Z Z) (Nt (Ch h Z (fun c8 h=> ?_) (fun c8 h=> ?_)))))))
 refine Ck (Tc (Cs (Bk (Cg (qM (Uv s) t (qu (Uv (u64.wrap (s*(256:Int)))) (mul Z Z) (qM Q K (qu (pt b 0) (Fa fo96_0 o Z) (qu (Iv a1.At) (Lb 1 pl3 Z Z Z) (qM (Iv d) i (qu (Iv (i64.wrap (a1.At+d))) (add Z Z) ?_)))))))))))
 obtain ⟨O,h⟩:=grd_i h
 have W:=W.mono w
 obtain ⟨d7,e0,b0,b1,hhas69⟩:=W.at O.1 O.2 (by decide)
 obtain rfl:=b1
 refine qu (.pointer (some d7)) (indexAddr (n:=a0.length) underlying23 sz5 Z Z O.1 O.2 b0) (qu (Yv (rd a0 (i64.wrap (a1.At+d)))) (loadM pl5 Z (IM.has0 hhas69)) (qu (Uv (u64.wrap (rd a0 (i64.wrap (a1.At+d))))) (conv us5 underlying105 Z) (qu (Uv (u64.wrap ((u64.wrap (s*(256:Int)))+(u64.wrap (rd a0 (i64.wrap (a1.At+d))))))) (add Z Z) (qa (Uv (u64.wrap ((u64.wrap (s*(256:Int)))+(u64.wrap (rd a0 (i64.wrap (a1.At+d))))))) (Wz (Bn (Tc (Cg (qM (Iv d) i (qu (Iv (i64.wrap (d+1))) (add Z Z) (qa (Iv (i64.wrap (d+1))) ?_)))))))))))
 exact Wz (WQ.again (u64.wrap ((u64.wrap (s*(256:Int)))+(u64.wrap (rd a0 (i64.wrap (a1.At+d))))),i64.wrap (d+1)) (oi h).symm ⟨w,Z,K,L,o,N,p,Z,Z⟩)
 refine WC.exit (WQ.thenE (WQ.leaveE s (oi h).symm (fun b2=> ?_)))
 subst b2
 have h:=c7
 refine WQ.blockH ?_
 obtain rfl:=oi h
 exact Tj ⟨w,Z,L,o,N,p,t⟩
 rintro f5 f6 f7 ⟨x,rfl,Y,f,c,P,j⟩
 refine Cs (Sr (qM (Uv m) j ?_))
 obtain ⟨c9,d0,h⟩:=bnd h
 refine We (Ca co144 (f_ref02_size_ok m _ c9 d0) (args1 Z)) Z ?_
 rintro _ f8 _ y ⟨_,⟨rfl,rfl⟩,rfl⟩
 refine WL.a0 (qM (Iv a) P (qu (Bv (decide (c9≠a))) (neq Z Z) (Nt (Ch h Z (fun d1 h=> ?_) (fun d1 h=> ?_)))))
 refine Sr (qu (a96_ a1) (La (cs:=(l96 a1)) 1 ag96 sz96 f Z Z) (qu (pt b 0) (Fa fo96_0 f Z) (qu (Iv a1.At) (Lb 1 pl3 Z Z Z) ?_)))
 obtain ⟨U,d2,h⟩:=bnd h
 refine We (Ca co127 (f_ref02_bad_ok a1 (⟨#[110,117,109]⟩:ByteArray) a1.At (5:Int) _ U d2) (args4 Z Z Z Z)) Z ?_
 rintro _ f9 _ b3 ⟨_,⟨rfl,rfl⟩,rfl⟩
 refine WL.a0 (We (Sg (v:=(a96_ U)) (vl:=(l96 U)) (arr':=(l96 U)) Z sz96 c Z (onb Z) Z Z Z) Z ?_)
 rintro _ _ _ - ⟨rfl,rfl⟩
 exact qa (Uv 0) (Nt (Cr (Tr (Qa (Dr (Rd h [] (fun _ hs=>hs.drop) (resultsLN Z (RVs.cons (Rc (cs:=(l96 U)) 0 ag96 sz96 c Z Z) (RVs.cons (RV.tmp Z) RVs.nil))) (((g.trans x).trans y).trans b3) ⟨Z,Z⟩))))))
 refine Ck (Tc (Cs (Sr (qM (Uv m) j (qM (Uv a2) Y (qu (Bv (decide (a2<m))) (gtr Z Z) (Nt (Ch h Z (fun d3 h=> ?_) (fun d3 h=> ?_)))))))))
 refine Sr (qu (a96_ a1) (La (cs:=(l96 a1)) 1 ag96 sz96 f Z Z) (qu (pt b 0) (Fa fo96_0 f Z) (qu (Iv a1.At) (Lb 1 pl3 Z Z Z) ?_)))
 obtain ⟨V,d4,h⟩:=bnd h
 refine We (Ca co127 (f_ref02_bad_ok a1 (⟨#[110,117,109]⟩:ByteArray) a1.At (6:Int) _ V d4) (args4 Z Z Z Z)) Z ?_
 rintro _ g0 _ b4 ⟨_,⟨rfl,rfl⟩,rfl⟩
 refine WL.a0 (We (Sg (v:=(a96_ V)) (vl:=(l96 V)) (arr':=(l96 V)) Z sz96 c Z (onb Z) Z Z Z) Z ?_)
 rintro _ _ _ - ⟨rfl,rfl⟩
 exact qa (Uv 0) (Nt (Cr (Tr (Qa (Dr (Rd h [] (fun _ hs=>hs.drop) (resultsLN Z (RVs.cons (Rc (cs:=(l96 V)) 0 ag96 sz96 c Z Z) (RVs.cons (RV.tmp Z) RVs.nil))) (((g.trans x).trans y).trans b4) ⟨Z,Z⟩))))))
 refine Ck (Tc (Sr (qu (pt b 0) (Fa fo96_0 f Z) (qu (Iv a1.At) (Lb 1 pl3 Z Z Z) (qM (Iv a) P (qu (Iv (i64.wrap (a1.At+a))) (add Z Z) (qu (.agg #[(Iv (i64.wrap (a1.At+a))),(Iv 0),(Sv ⟨#[]⟩),(Iv 0)]) (Bl (cl:=[(Iv (i64.wrap (a1.At+a))),(Iv 0),(Sv ⟨#[]⟩),(Iv 0)]) ze96 fp96 (Pc (Iv (i64.wrap (a1.At+a))) Z Z Pz) Z) (qM (Uv m) j (We (Sg (v:=(.agg #[(Iv (i64.wrap (a1.At+a))),(Iv 0),(Sv ⟨#[]⟩),(Iv 0)])) (vl:=[(Iv (i64.wrap (a1.At+a))),(Iv 0),(Sv ⟨#[]⟩),(Iv 0)]) (arr':=[(Iv (i64.wrap (a1.At+a))),(Iv 0),(Sv ⟨#[]⟩),(Iv 0)]) Z sz96 c Z (onb Z) Z Z Z) Z ?_)))))))))
 rintro _ _ _ - ⟨rfl,rfl⟩
 exact qa (Uv m) (Nt (Cr (Qa (Dr (Rd h [] (fun _ hs=>hs.drop) (resultsLN Z (RVs.cons (Rc (cs:=[(Iv (i64.wrap (a1.At+a))),(Iv 0),(Sv ⟨#[]⟩),(Iv 0)]) 0 ag96 sz96 c Z Z) (RVs.cons (RV.tmp Z) RVs.nil))) ((g.trans x).trans y) ⟨Z,Z⟩)))))
noncomputable def f_ref02_text (a0:(List Int)) (a1:T_ref02_State) (a2:Int):Option (T_ref02_State×(List Int)):=
 ((((f_ref02_above a2).bind fun c=>((f_ref02_num a0 a1 c).bind fun(d,e)=>(some (d,e)))):Option (T_ref02_State×Int)).bind fun(a,b)=>(if(decide (a.Code≠(0:Int)))=true then(some (a,[]))else(if(decide ((u64.wrap (i64.wrap ((a0.length:Int)- a.At)))<b))=true then((f_ref02_bad (⟨a1.At,(0:Int),(⟨#[]⟩:ByteArray),(0:Int)⟩:T_ref02_State) (⟨#[116,101,120,116]⟩:ByteArray) a1.At (3:Int)).bind fun f=>(some (f,[])))else(grd (0≤a.At∧a.At≤i64.wrap (a.At+(i64.wrap b))∧i64.wrap (a.At+(i64.wrap b))≤(a0.length:Int)) (some ((⟨i64.wrap (a.At+(i64.wrap b)),(0:Int),(⟨#[]⟩:ByteArray),(0:Int)⟩:T_ref02_State),sub a0 a.At (i64.wrap (a.At+(i64.wrap b)))))))))
def f_ref02_text_post (a0:(List Int)) (a1:T_ref02_State) (a2:Int) (d:Value):(T_ref02_State×(List Int))→Value→IM→HL→Prop:=
 fun(p_:(T_ref02_State×(List Int))) (v:Value) (M':IM) (H':HL)=>match p_ with |(b,c)=>∃ a,(.tuple #[(.agg #[(.int .i64 b.At),(.int .i64 b.Code),(.string b.Op),(.int .i64 b.Where)]),a])=v∧H'=[]∧RS (Kd.int .u8) M' a c
theorem f_ref02_text_ok (a0:(List Int)) (a1:T_ref02_State) (a2:Int) (M:IM) (u:Value) (k:RS (Kd.int .u8) M u a0) (res:(T_ref02_State×(List Int))) (h:f_ref02_text a0 a1 a2=some res):
 Tri prog 128 #[u,(a96_ a1),(Iv a2)] M [] (f_ref02_text_post a0 a1 a2 u res):=by
 unfold f_ref02_text at h
 refine Te func128 Z Z ?_
 intro F ρ hρ
 refine Sr (We (box (cs:=(l96 a1).toArray) (congrArg Value.cells (asE (a96_ a1) (hρ 1)))) Z ?_)
 rintro _ _ _ - ⟨rfl,w,rfl,rfl⟩
 refine We (Al ze96 Z) Z ?_
 rintro _ _ _ - ⟨rfl,G,rfl,rfl⟩
 refine qa Zs (Nt ?_)
 obtain ⟨I,J,h⟩:=bnd h
 refine Jf (fun(p_:(T_ref02_State×Int)) ρ' M' H'=>match p_ with |(a,b)=>∃ j,M.le M'∧[(G, .cells z96_.toArray 96 (0,0))]::[(w, .cells (l96 a1).toArray 96 (0,0))]::[(j, .cells (l96 a).toArray 96 (0,0))]::F=H'∧ρ' 0=u∧ρ' 4=(pt w 0)∧ρ' 6=(pt G 0)∧ρ' 8=(pt j 0)∧ρ' 9=(Uv b)) I ?_ ?_
 have h:=J
 refine WC.draw [0,0,0,4,15,31,63,63,0,383,1023] (.pure 0 (.pure 1 (.pure 2 (.alt 3 (.alt 4 (.pure 5 (.pure 6 (.pure 7 (.alt 8 (.alt 9 (.pure 10 .done) .none) .none)))) (.alt 8 (.alt 4 (.pure 5 (.pure 6 (.pure 7 (.alt 9 (.pure 10 .done) .none)))) .none) .none)) (.alt 8 (.alt 3 (.alt 4 (.pure 5 (.pure 6 (.pure 7 (.alt 9 (.pure 10 .done) .none)))) .none) .none) .none))))) mixed (by kernel_rfl) (qt u Z (Mv (hρ 0)) (qt (a96_ a1) Z (La (cs:=(l96 a1)) 1 ag96 sz96 Z Z Z) (qt (Iv a2) Z (Mv (hρ 2)) ?_)))
 have K:=h
 obtain ⟨A,L,h⟩:=bnd h
 refine Ta Z (Ca co126 (f_ref02_above_ok a2 _ A L) (args1 Z)) Z ?_ ?_
 rintro _ a4 _ m ⟨_,⟨rfl,rfl⟩,rfl⟩
 refine⟨(Sk 1 Z (Ss Z (La (cs:=(l96 a1)) 1 ag96 sz96 Z Z Z) Z (Ss Z (Mv (hρ 0)) Z trivial))), ?_⟩
 refine WT.a0 ?_
 have N:=h
 obtain ⟨⟨p,x⟩,O,h⟩:=bnd h
 have k:=k.mono m
 refine Ta Z (Ca co125 (f_ref02_num_ok a0 a1 A _ _ k (p,x) O) (args3 Z Z Z)) Z ?_ ?_
 rintro _ a5 _ B ⟨_,⟨rfl,rfl⟩,rfl⟩
 refine⟨(Sl Z), ?_⟩
 refine WT.a0 (qt (.tuple #[(a96_ p),(Uv x)]) Z (Mv Z) (qt (a96_ p) Z (Xt Z Z) (qt (Uv x) Z (Xt Z Z) (Ta Z (Al ze96 Z) Z ?_ ?_))))
 rintro _ _ _ - ⟨rfl,W,rfl,rfl⟩
 refine⟨(Ss Z (Xt Z Z) Z (Ss Z (Xt Z Z) Z (Ss Z (Mv Z) Z (Ss Z (Mv (hρ 2)) Z (Ss Z (La (cs:=(l96 a1)) 2 ag96 sz96 Z Z Z) Z (Ss Z (Mv (hρ 0)) Z trivial)))))), ?_⟩
 refine Ta Z (Sg (v:=(a96_ p)) (vl:=(l96 p)) (arr':=(l96 p)) Z sz96 Z Z (onb Z) Z Z Z) Z ?_ ?_
 rintro _ _ _ - ⟨rfl,rfl⟩
 refine⟨(Ss Z (Xt Z Z) Z (Sl Z)), ?_⟩
 refine qt (Uv x) Z (Ag Z) (Ti (Qb (Qb ?_)))
 obtain rfl:=oi h
 exact Tj ⟨W,(m.trans B),Z,(hρ 0),Z,Z,Z,Z⟩
 exact Tz
 exact Tz
 have h:=N
 refine Ta Z (Al ze96 Z) Z ?_ ?_
 rintro _ _ _ - ⟨rfl,X,rfl,rfl⟩
 refine⟨(Ss Z (Mv (hρ 2)) Z (Ss Z (La (cs:=(l96 a1)) 2 ag96 sz96 Z Z Z) Z (Ss Z (Mv (hρ 0)) Z trivial))), ?_⟩
 obtain ⟨⟨q,y⟩,P,h⟩:=bnd h
 refine Ta Z (Ca co125 (f_ref02_num_ok a0 a1 A _ _ k (q,y) P) (args3 Z Z Z)) Z ?_ ?_
 rintro _ a6 _ C ⟨_,⟨rfl,rfl⟩,rfl⟩
 refine⟨(Sl Z), ?_⟩
 refine WT.a0 (qt (.tuple #[(a96_ q),(Uv y)]) Z (Mv Z) (qt (a96_ q) Z (Xt Z Z) (qt (Uv y) Z (Xt Z Z) (Ta Z (Sg (v:=(a96_ q)) (vl:=(l96 q)) (arr':=(l96 q)) Z sz96 Z Z (onb Z) Z Z Z) Z ?_ ?_))))
 rintro _ _ _ - ⟨rfl,rfl⟩
 refine⟨(Ss Z (Xt Z Z) Z (Sl Z)), ?_⟩
 refine qt (Uv y) Z (Ag Z) (Ti (Qb (Qb ?_)))
 obtain rfl:=oi h
 exact Tj ⟨X,(m.trans C),Z,(hρ 0),Z,Z,Z,Z⟩
 exact Tz
 exact Tz
 exact Tz
 have h:=K
 refine Ta Z (Al ze96 Z) Z ?_ ?_
 rintro _ _ _ - ⟨rfl,Y,rfl,rfl⟩
 refine⟨(Ss Z (Mv (hρ 2)) Z (Ss Z (La (cs:=(l96 a1)) 2 ag96 sz96 Z Z Z) Z (Ss Z (Mv (hρ 0)) Z trivial))), ?_⟩
 obtain ⟨Q,R,h⟩:=bnd h
 refine Ta Z (Ca co126 (f_ref02_above_ok a2 _ Q R) (args1 Z)) Z ?_ ?_
 rintro _ a7 _ s ⟨_,⟨rfl,rfl⟩,rfl⟩
 refine⟨(Sk 1 Z (Ss Z (La (cs:=(l96 a1)) 2 ag96 sz96 Z Z Z) Z (Ss Z (Mv (hρ 0)) Z trivial))), ?_⟩
 refine WT.a0 ?_
 obtain ⟨⟨r,z⟩,S,h⟩:=bnd h
 have k:=k.mono s
 refine Ta Z (Ca co125 (f_ref02_num_ok a0 a1 Q _ _ k (r,z) S) (args3 Z Z Z)) Z ?_ ?_
 rintro _ a8 _ D ⟨_,⟨rfl,rfl⟩,rfl⟩
 refine⟨(Sl Z), ?_⟩
 refine WT.a0 (qt (.tuple #[(a96_ r),(Uv z)]) Z (Mv Z) (qt (a96_ r) Z (Xt Z Z) (qt (Uv z) Z (Xt Z Z) (Ta Z (Sg (v:=(a96_ r)) (vl:=(l96 r)) (arr':=(l96 r)) Z sz96 Z Z (onb Z) Z Z Z) Z ?_ ?_))))
 rintro _ _ _ - ⟨rfl,rfl⟩
 refine⟨(Ss Z (Xt Z Z) Z (Sl Z)), ?_⟩
 refine qt (Uv z) Z (Ag Z) (Ti (Qb (Qb ?_)))
 obtain rfl:=oi h
 exact Tj ⟨Y,(s.trans D),Z,(hρ 0),Z,Z,Z,Z⟩
 exact Tz
 exact Tz
 exact Tz
 exact Tz
 obtain ⟨a,b⟩:=I
 rintro a9 b0 b1 ⟨j,g,rfl,i,o,e,c,f⟩
 refine Cs (Sr (qu (pt j 1) (Fa fo96_1 c Z) (qu (Iv a.Code) (Lb 2 pl38 Z Z Z) (qu (Bv (decide (a.Code≠0))) (neq Z Z) (Nt (Ch h Z (fun T h=> ?_) (fun T h=> ?_)))))))
 refine Sr (qu (a96_ a) (La (cs:=(l96 a)) 2 ag96 sz96 c Z Z) (We (Sg (v:=(a96_ a)) (vl:=(l96 a)) (arr':=(l96 a)) Z sz96 e Z (onb Z) Z Z Z) Z ?_))
 rintro _ _ _ - ⟨rfl,rfl⟩
 exact qa Zs (Nt (Cr (Tr (Qa (Dr (Qa (Dr (Rd h [] (fun _ hs=>hs.drop) (resultsLN Z (RVs.cons (Rc (cs:=(l96 a)) 0 ag96 sz96 e Z Z) (RVs.cons (RV.tmp Z) RVs.nil))) g ⟨Zs,Z,Z,RS.nil _ _⟩))))))))
 refine Ck (Tc (Cs (Sr (qM u i ?_))))
 have k:=k.mono g
 refine qu (Iv (a0.length:Int)) (lenS underlying23 Z k.len) (qu (pt j 0) (Fa fo96_0 c Z) (qu (Iv a.At) (Lb 2 pl3 Z Z Z) (qu (Iv (i64.wrap ((a0.length:Int)- a.At))) (PO.sub Z Z) (qu (Uv (u64.wrap (i64.wrap ((a0.length:Int)- a.At)))) (conv us3 underlying105 Z) (qM (Uv b) f (qu (Bv (decide ((u64.wrap (i64.wrap ((a0.length:Int)- a.At)))<b))) (lss Z Z) (Nt (Ch h Z (fun U h=> ?_) (fun U h=> ?_)))))))))
 refine Sr (qu (pt w 0) (Fa fo96_0 o Z) (qu (Iv a1.At) (Lb 1 pl3 Z Z Z) (qu (.agg #[(Iv a1.At),(Iv 0),(Sv ⟨#[]⟩),(Iv 0)]) (Bl (cl:=[(Iv a1.At),(Iv 0),(Sv ⟨#[]⟩),(Iv 0)]) ze96 fp96 (Pc (Iv a1.At) Z Z Pz) Z) (qu (pt w 0) (Fa fo96_0 o Z) (qu (Iv a1.At) (Lb 1 pl3 Z Z Z) ?_)))))
 obtain ⟨t,V,h⟩:=bnd h
 refine We (Ca co127 (f_ref02_bad_ok (⟨a1.At,(0:Int),(⟨#[]⟩:ByteArray),(0:Int)⟩:T_ref02_State) (⟨#[116,101,120,116]⟩:ByteArray) a1.At (3:Int) _ t V) (args4 Z Z Z Z)) Z ?_
 rintro _ b2 _ E ⟨_,⟨rfl,rfl⟩,rfl⟩
 refine WL.a0 (We (Sg (v:=(a96_ t)) (vl:=(l96 t)) (arr':=(l96 t)) Z sz96 e Z (onb Z) Z Z Z) Z ?_)
 rintro _ _ _ - ⟨rfl,rfl⟩
 exact qa Zs (Nt (Cr (Tr (Qa (Dr (Qa (Dr (Rd h [] (fun _ hs=>hs.drop) (resultsLN Z (RVs.cons (Rc (cs:=(l96 t)) 0 ag96 sz96 e Z Z) (RVs.cons (RV.tmp Z) RVs.nil))) (g.trans E) ⟨Zs,Z,Z,RS.nil _ _⟩))))))))
 refine Ck (Tc (Cs (WC.draw [0,1,0,4,15,31,0,0,128,0,512,0,2048,7680,16320,63,65535] (.pure 0 (.pure 1 (.pure 2 (.pure 3 (.pure 4 (.pure 5 (.pure 6 (.pure 7 (.pure 8 (.pure 9 (.pure 10 (.pure 11 (.pure 12 (.pure 13 (.pure 14 (.alt 15 (.pure 16 .done) .none)))))))))))))))) mixed (by kernel_rfl) (qt (pt j 0) Z (Fa fo96_0 c Z) (qt (Iv a.At) Z (Lb 2 pl3 Z Z Z) (qt (Uv b) Z (Mv f) (qt (Iv (i64.wrap b)) Z (conv us105 underlying3 Z) (qt (Iv (i64.wrap (a.At+(i64.wrap b)))) Z (add Z Z) (qt (.agg #[(Iv (i64.wrap (a.At+(i64.wrap b)))),(Iv 0),(Sv ⟨#[]⟩),(Iv 0)]) Z (Bl (cl:=[(Iv (i64.wrap (a.At+(i64.wrap b)))),(Iv 0),(Sv ⟨#[]⟩),(Iv 0)]) ze96 fp96 (Pc (Iv (i64.wrap (a.At+(i64.wrap b)))) Z Z Pz) Z) (qt u Z (Mv i) (qt (pt j 0) Z (Fa fo96_0 c Z) ?_)))))))))))
 refine qt (Iv a.At) Z (Lb 2 pl3 Z Z Z) (qt (pt j 0) Z (Fa fo96_0 c Z) (qt (Iv a.At) Z (Lb 2 pl3 Z Z Z) (qt (Uv b) Z (Mv f) (qt (Iv (i64.wrap b)) Z (conv us105 underlying3 Z) (qt (Iv (i64.wrap (a.At+(i64.wrap b)))) Z (add Z Z) ?_)))))
 obtain ⟨d,h⟩:=grd_i h
 have a3:=k.sub d.1 d.2.1 d.2.2
 refine qt (slV u 1 (a.At).toNat (i64.wrap (a.At+(i64.wrap b))).toNat) Z (slice (n:=a0.length) (l:=(a.At).toNat) (h:=(i64.wrap (a.At+(i64.wrap b))).toNat) underlying23 sz5 Z k.len k.cap ⟨_,_,Z,d.1,Z⟩ ⟨_,_,Z,(Int.le_trans d.1 d.2.1),Z⟩ (Int.toNat_le_toNat d.2.1) (toNat_le_len d.2.2)) (Ta Z (Sg (v:=(.agg #[(Iv (i64.wrap (a.At+(i64.wrap b)))),(Iv 0),(Sv ⟨#[]⟩),(Iv 0)])) (vl:=[(Iv (i64.wrap (a.At+(i64.wrap b)))),(Iv 0),(Sv ⟨#[]⟩),(Iv 0)]) (arr':=[(Iv (i64.wrap (a.At+(i64.wrap b)))),(Iv 0),(Sv ⟨#[]⟩),(Iv 0)]) Z sz96 e Z (onb Z) Z Z Z) Z ?_ ?_)
 rintro _ _ _ - ⟨rfl,rfl⟩
 refine⟨(Ss Z (slice (n:=a0.length) (l:=(a.At).toNat) (h:=(i64.wrap (a.At+(i64.wrap b))).toNat) underlying23 sz5 Z k.len k.cap ⟨_,_,Z,d.1,Z⟩ ⟨_,_,Z,(Int.le_trans d.1 d.2.1),Z⟩ (Int.toNat_le_toNat d.2.1) (toNat_le_len d.2.2)) Z (Ss Z (add Z Z) Z (Ss Z (conv us105 underlying3 Z) Z (Ss Z (Mv f) Z (Ss Z (Lb 2 pl3 Z Z Z) Z (Ss Z (Fa fo96_0 c Z) Z (Ss Z (Lb 2 pl3 Z Z Z) Z (Ss Z (Fa fo96_0 c Z) Z (Ss Z (Mv i) Z (Sl Z)))))))))), ?_⟩
 exact qt (slV u 1 (a.At).toNat (i64.wrap (a.At+(i64.wrap b))).toNat) Z (Ag Z) (Ti (Tc (Cr (Qa (Dr (Qa (Dr (Rd h [] (fun _ hs=>hs.drop) (resultsLN Z (RVs.cons (Rc (cs:=[(Iv (i64.wrap (a.At+(i64.wrap b)))),(Iv 0),(Sv ⟨#[]⟩),(Iv 0)]) 0 ag96 sz96 e Z Z) (RVs.cons (RV.tmp Z) RVs.nil))) g ⟨(slV u 1 (a.At).toNat (i64.wrap (a.At+(i64.wrap b))).toNat),Z,Z,a3⟩))))))))
 exact Tz
noncomputable def f_ref02_row_l0 (a0:(List Int)) (a3:Int) (j:Int) (s_:((List Int)×Int×Int×Int×ByteArray×Int)):Option (((List Int)×Int×Int×Int×ByteArray×Int)⊕((List Int)×Int×Int×ByteArray×Int)):=
 match s_ with
 |(b,d,e,c,f,g)=>
 (((if(decide (d<j))=true then(some (decide (c=(0:Int))))else(some false)):Option Bool).bind fun k=>(if k=true then((((f_ref02_above a3).bind fun l=>((f_ref02_num a0 (⟨e,c,f,g⟩:T_ref02_State) l).bind fun(m,n)=>(some (m,n)))):Option (T_ref02_State×Int)).bind fun(a,i)=>(grd (b.length+[i64.wrap i].length≤274877906944) (some (inl (b++[i64.wrap i],u64.wrap (d+(1:Int)),a.At,a.Code,a.Op,a.Where)))))else(some (inr (b,e,c,f,g)))))
noncomputable def f_ref02_row (a0:(List Int)) (a1:T_ref02_State) (a2:Int) (a3:Int):Option (T_ref02_State×(List Int)):=
 ((((f_ref02_above a2).bind fun f=>((f_ref02_num a0 a1 f).bind fun(g,i)=>(some (g,i)))):Option (T_ref02_State×Int)).bind fun(a,j)=>((((iter (f_ref02_row_l0 a0 a3 j) ([],(0:Int),a.At,a.Code,a.Op,a.Where)).bind (fun(k,l,m,n,o)=>(some (k,l,m,n,o)))):Option ((List Int)×Int×Int×ByteArray×Int)).bind fun(p,c,b,d,e)=>(if(decide (b≠(0:Int)))=true then(some ((⟨c,b,d,e⟩:T_ref02_State),[]))else(some ((⟨c,b,d,e⟩:T_ref02_State),p)))))
def f_ref02_row_post (a0:(List Int)) (a1:T_ref02_State) (a2:Int) (a3:Int) (e:Value):(T_ref02_State×(List Int))→Value→IM→HL→Prop:=
 fun(p_:(T_ref02_State×(List Int))) (v:Value) (M':IM) (H':HL)=>match p_ with |(c,d)=>∃ a b,(.tuple #[(.agg #[(.int .i64 c.At),(.int .i64 c.Code),(.string c.Op),(.int .i64 c.Where)]),a])=v∧H'=[b]∧OwnS (Kd.int .i64) M' a d b
theorem f_ref02_row_ok (a0:(List Int)) (a1:T_ref02_State) (a2:Int) (a3:Int) (M:IM) (v0:Value) (U:RS (Kd.int .u8) M v0 a0) (res:(T_ref02_State×(List Int))) (h:f_ref02_row a0 a1 a2 a3=some res):
 Tri prog 129 #[v0,(a96_ a1),(Iv a2),(Iv a3)] M [] (f_ref02_row_post a0 a1 a2 a3 v0 res):=by
 unfold f_ref02_row at h
 refine Te func129 Z Z ?_
 intro F ρ hρ
 refine Sr (We (box (cs:=(l96 a1).toArray) (congrArg Value.cells (asE (a96_ a1) (hρ 1)))) Z ?_)
 rintro _ _ _ - ⟨rfl,b0,rfl,rfl⟩
 refine We (Al ze96 Z) Z ?_
 rintro _ _ _ - ⟨rfl,D,rfl,rfl⟩
 refine qa Zs (Nt ?_)
 obtain ⟨f8,f9,h⟩:=bnd h
 refine Jf (fun(p_:(T_ref02_State×Int)) ρ' M' H'=>match p_ with |(g0,O)=>∃ n,M.le M'∧[(D, .cells z96_.toArray 96 (0,0))]::[(b0, .cells (l96 a1).toArray 96 (0,0))]::[(n, .cells (l96 g0).toArray 96 (0,0))]::F=H'∧ρ' 0=v0∧ρ' 3=(Iv a3)∧ρ' 8=(pt D 0)∧ρ' 10=(pt n 0)∧ρ' 11=(Uv O)) f8 ?_ ?_
 have h:=f9
 refine WC.draw [0,0,0,4,15,31,63,63,0,383,1023] (.pure 0 (.pure 1 (.pure 2 (.alt 3 (.alt 4 (.pure 5 (.pure 6 (.pure 7 (.alt 8 (.alt 9 (.pure 10 .done) .none) .none)))) (.alt 8 (.alt 4 (.pure 5 (.pure 6 (.pure 7 (.alt 9 (.pure 10 .done) .none)))) .none) .none)) (.alt 8 (.alt 3 (.alt 4 (.pure 5 (.pure 6 (.pure 7 (.alt 9 (.pure 10 .done) .none)))) .none) .none) .none))))) mixed (by kernel_rfl) (qt v0 Z (Mv (hρ 0)) (qt (a96_ a1) Z (La (cs:=(l96 a1)) 1 ag96 sz96 Z Z Z) (qt (Iv a2) Z (Mv (hρ 2)) ?_)))
 have g1:=h
 obtain ⟨e2,g2,h⟩:=bnd h
 refine Ta Z (Ca co126 (f_ref02_above_ok a2 _ e2 g2) (args1 Z)) Z ?_ ?_
 rintro _ k1 _ S ⟨_,⟨rfl,rfl⟩,rfl⟩
 refine⟨(Sk 1 Z (Ss Z (La (cs:=(l96 a1)) 1 ag96 sz96 Z Z Z) Z (Ss Z (Mv (hρ 0)) Z trivial))), ?_⟩
 refine WT.a0 ?_
 have g3:=h
 obtain ⟨⟨a6,c5⟩,g4,h⟩:=bnd h
 have U:=U.mono S
 refine Ta Z (Ca co125 (f_ref02_num_ok a0 a1 e2 _ _ U (a6,c5) g4) (args3 Z Z Z)) Z ?_ ?_
 rintro _ k2 _ e3 ⟨_,⟨rfl,rfl⟩,rfl⟩
 refine⟨(Sl Z), ?_⟩
 refine WT.a0 (qt (.tuple #[(a96_ a6),(Uv c5)]) Z (Mv Z) (qt (a96_ a6) Z (Xt Z Z) (qt (Uv c5) Z (Xt Z Z) (Ta Z (Al ze96 Z) Z ?_ ?_))))
 rintro _ _ _ - ⟨rfl,j1,rfl,rfl⟩
 refine⟨(Ss Z (Xt Z Z) Z (Ss Z (Xt Z Z) Z (Ss Z (Mv Z) Z (Ss Z (Mv (hρ 2)) Z (Ss Z (La (cs:=(l96 a1)) 2 ag96 sz96 Z Z Z) Z (Ss Z (Mv (hρ 0)) Z trivial)))))), ?_⟩
 refine Ta Z (Sg (v:=(a96_ a6)) (vl:=(l96 a6)) (arr':=(l96 a6)) Z sz96 Z Z (onb Z) Z Z Z) Z ?_ ?_
 rintro _ _ _ - ⟨rfl,rfl⟩
 refine⟨(Ss Z (Xt Z Z) Z (Sl Z)), ?_⟩
 refine qt (Uv c5) Z (Ag Z) (Ti (Qb (Qb ?_)))
 obtain rfl:=oi h
 exact Tj ⟨j1,(S.trans e3),Z,(hρ 0),(hρ 3),Z,Z,Z⟩
 exact Tz
 exact Tz
 have h:=g3
 refine Ta Z (Al ze96 Z) Z ?_ ?_
 rintro _ _ _ - ⟨rfl,j2,rfl,rfl⟩
 refine⟨(Ss Z (Mv (hρ 2)) Z (Ss Z (La (cs:=(l96 a1)) 2 ag96 sz96 Z Z Z) Z (Ss Z (Mv (hρ 0)) Z trivial))), ?_⟩
 obtain ⟨⟨a7,c6⟩,g5,h⟩:=bnd h
 refine Ta Z (Ca co125 (f_ref02_num_ok a0 a1 e2 _ _ U (a7,c6) g5) (args3 Z Z Z)) Z ?_ ?_
 rintro _ k3 _ e4 ⟨_,⟨rfl,rfl⟩,rfl⟩
 refine⟨(Sl Z), ?_⟩
 refine WT.a0 (qt (.tuple #[(a96_ a7),(Uv c6)]) Z (Mv Z) (qt (a96_ a7) Z (Xt Z Z) (qt (Uv c6) Z (Xt Z Z) (Ta Z (Sg (v:=(a96_ a7)) (vl:=(l96 a7)) (arr':=(l96 a7)) Z sz96 Z Z (onb Z) Z Z Z) Z ?_ ?_))))
 rintro _ _ _ - ⟨rfl,rfl⟩
 refine⟨(Ss Z (Xt Z Z) Z (Sl Z)), ?_⟩
 refine qt (Uv c6) Z (Ag Z) (Ti (Qb (Qb ?_)))
 obtain rfl:=oi h
 exact Tj ⟨j2,(S.trans e4),Z,(hρ 0),(hρ 3),Z,Z,Z⟩
 exact Tz
 exact Tz
 exact Tz
 have h:=g1
 refine Ta Z (Al ze96 Z) Z ?_ ?_
 rintro _ _ _ - ⟨rfl,j3,rfl,rfl⟩
 refine⟨(Ss Z (Mv (hρ 2)) Z (Ss Z (La (cs:=(l96 a1)) 2 ag96 sz96 Z Z Z) Z (Ss Z (Mv (hρ 0)) Z trivial))), ?_⟩
 obtain ⟨g6,g7,h⟩:=bnd h
 refine Ta Z (Ca co126 (f_ref02_above_ok a2 _ g6 g7) (args1 Z)) Z ?_ ?_
 rintro _ k4 _ b1 ⟨_,⟨rfl,rfl⟩,rfl⟩
 refine⟨(Sk 1 Z (Ss Z (La (cs:=(l96 a1)) 2 ag96 sz96 Z Z Z) Z (Ss Z (Mv (hρ 0)) Z trivial))), ?_⟩
 refine WT.a0 ?_
 obtain ⟨⟨a8,c7⟩,g8,h⟩:=bnd h
 have U:=U.mono b1
 refine Ta Z (Ca co125 (f_ref02_num_ok a0 a1 g6 _ _ U (a8,c7) g8) (args3 Z Z Z)) Z ?_ ?_
 rintro _ k5 _ e5 ⟨_,⟨rfl,rfl⟩,rfl⟩
 refine⟨(Sl Z), ?_⟩
 refine WT.a0 (qt (.tuple #[(a96_ a8),(Uv c7)]) Z (Mv Z) (qt (a96_ a8) Z (Xt Z Z) (qt (Uv c7) Z (Xt Z Z) (Ta Z (Sg (v:=(a96_ a8)) (vl:=(l96 a8)) (arr':=(l96 a8)) Z sz96 Z Z (onb Z) Z Z Z) Z ?_ ?_))))
 rintro _ _ _ - ⟨rfl,rfl⟩
 refine⟨(Ss Z (Xt Z Z) Z (Sl Z)), ?_⟩
 refine qt (Uv c7) Z (Ag Z) (Ti (Qb (Qb ?_)))
 obtain rfl:=oi h
 exact Tj ⟨j3,(b1.trans e5),Z,(hρ 0),(hρ 3),Z,Z,Z⟩
 exact Tz
 exact Tz
 exact Tz
 exact Tz
 obtain ⟨g0,O⟩:=f8
 rintro k6 g9 k7 ⟨n,L,rfl,c8,c9,d0,b2,b3⟩
 refine Sr (qa Zs (Nt ?_))
 obtain ⟨h1,h2,h⟩:=bnd h
 refine Jf (fun(p_:((List Int)×Int×Int×ByteArray×Int)) ρ' M' H'=>match p_ with |(h3,j,e,k,l)=>∃ E P,g9.le M'∧[(D, .cells z96_.toArray 96 (0,0))]::[(b0, .cells (l96 a1).toArray 96 (0,0))]::[(n, .cells #[(Iv j),(Iv e),(Sv k),(Iv l)] 96 (0,0))]::P::F=H'∧ρ' 8=(pt D 0)∧ρ' 10=(pt n 0)∧ρ' 12=E∧OwnS (Kd.int .i64) M' E h3 P) h1 ?_ ?_
 have h:=h2
 refine Sr (qa (Uv 0) (Nt (Bk (WC.e0 (WC.f3 (WC.f3 (WC.f3 ?_)))))))
 obtain ⟨k8,h4,h5⟩:=bnd h
 clear h
 refine WC.loop h4 (fun(p_:((List Int)×Int×Int×Int×ByteArray×Int)) ρ' M' H'=>match p_ with |(b4,r,f,d,g,i)=>∃ s G,g9.le M'∧[(D, .cells z96_.toArray 96 (0,0))]::[(b0, .cells (l96 a1).toArray 96 (0,0))]::[(n, .cells #[(Iv f),(Iv d),(Sv g),(Iv i)] 96 (0,0))]::G::F=H'∧ρ' 0=v0∧ρ' 3=(Iv a3)∧ρ' 8=(pt D 0)∧ρ' 10=(pt n 0)∧ρ' 11=(Uv O)∧ρ' 12=s∧ρ' 13=(Uv r)∧OwnS (Kd.int .i64) M' s b4 G) ?_ ?_
 exact⟨Zs,[],lr,Z,c8,c9,d0,b2,b3,Z,Z,(OwnS.nil _ _)⟩
 rintro ⟨b4,r,f,d,g,i⟩ k9 l0 j4 l1 h ⟨s,G,N,rfl,V,W,X,t,u,Q,w,I⟩
 unfold f_ref02_row_l0 at h
 refine Cs ?_
 obtain ⟨e6,h6,h⟩:=bnd h
 refine Jf (fun(e6:Bool) ρ' M' H'=>j4.le M'∧[(D, .cells z96_.toArray 96 (0,0))]::[(b0, .cells (l96 a1).toArray 96 (0,0))]::[(n, .cells #[(Iv f),(Iv d),(Sv g),(Iv i)] 96 (0,0))]::G::F=H'∧ρ' 0=v0∧ρ' 3=(Iv a3)∧ρ' 8=(pt D 0)∧ρ' 10=(pt n 0)∧ρ' 11=(Uv O)∧ρ' 12=s∧ρ' 13=(Uv r)∧ρ' 31=(Bv e6)) e6 ?_ ?_
 have h:=h6
 refine Cg (qM (Uv r) w (qM (Uv O) u (qu (Bv (decide (r<O))) (lss Z Z) (qm (Bv (decide (r<O))) ?_))))
 rcases Bi h with⟨x,h⟩ |⟨x,h⟩
 refine qo 27 x (pt n 1) (Fa fo96_1 t Z) (qo 27 x (Iv d) (Lb 2 pl38 Z Z Z) (qo 27 x (Bv (decide (d=0))) (eql Z Z) (qu (Bv (decide (d=0))) (Pt Z x Z) (Wz ?_))))
 obtain rfl:=oi h
 exact Tj ⟨lr,Z,V,W,X,t,u,Q,w,Z⟩
 iterate 3 refine Of 27 Z Z x Z ?_
 refine qu (Bv false) (Pf Z x Z) (Wz ?_)
 obtain rfl:=oi h
 exact Tj ⟨lr,Z,V,W,X,t,u,Q,w,Z⟩
 rintro l2 j5 l3 ⟨o,rfl,b,c,p,a,y,m,z,b5⟩
 refine Ch h b5 (fun h7 h=> ?_) (fun h7 h=> ?_)
 refine Ck (Tc (Cs (Bk ?_)))
 obtain ⟨h8,h9,h⟩:=bnd h
 refine Jf (fun(p_:(T_ref02_State×Int)) ρ' M' H'=>match p_ with |(A,B)=>∃ e7,j5.le M'∧[(D, .cells z96_.toArray 96 (0,0))]::[(b0, .cells (l96 a1).toArray 96 (0,0))]::[(n, .cells #[(Iv f),(Iv d),(Sv g),(Iv i)] 96 (0,0))]::[(e7, .cells (l96 A).toArray 96 (0,0))]::G::F=H'∧ρ' 0=v0∧ρ' 3=(Iv a3)∧ρ' 8=(pt D 0)∧ρ' 10=(pt n 0)∧ρ' 11=(Uv O)∧ρ' 12=s∧ρ' 13=(Uv r)∧ρ' 14=(pt e7 0)∧ρ' 15=(Uv B)) h8 ?_ ?_
 have h:=h9
 refine WC.draw [0,0,0,4,15,31,63,63,0,383,1023] (.pure 0 (.pure 1 (.pure 2 (.alt 3 (.alt 4 (.pure 5 (.pure 6 (.pure 7 (.alt 8 (.alt 9 (.pure 10 .done) .none) .none)))) (.alt 8 (.alt 4 (.pure 5 (.pure 6 (.pure 7 (.alt 9 (.pure 10 .done) .none)))) .none) .none)) (.alt 8 (.alt 3 (.alt 4 (.pure 5 (.pure 6 (.pure 7 (.alt 9 (.pure 10 .done) .none)))) .none) .none) .none))))) mixed (by kernel_rfl) (qt v0 Z (Mv b) (qt (.agg #[(Iv f),(Iv d),(Sv g),(Iv i)]) Z (La (cs:=[(Iv f),(Iv d),(Sv g),(Iv i)]) 2 ag96 sz96 a Z Z) (qt (Iv a3) Z (Mv c) ?_)))
 have i0:=h
 obtain ⟨e8,i1,h⟩:=bnd h
 refine Ta Z (Ca co126 (f_ref02_above_ok a3 _ e8 i1) (args1 Z)) Z ?_ ?_
 rintro _ l4 _ T ⟨_,⟨rfl,rfl⟩,rfl⟩
 refine⟨(Sk 1 Z (Ss Z (La (cs:=[(Iv f),(Iv d),(Sv g),(Iv i)]) 2 ag96 sz96 a Z Z) Z (Ss Z (Mv b) Z trivial))), ?_⟩
 refine WT.a0 ?_
 have i2:=h
 obtain ⟨⟨a9,d1⟩,i3,h⟩:=bnd h
 have U:=U.mono (((L.trans N).trans o).trans T)
 refine Ta Z (Ca co125 (f_ref02_num_ok a0 (⟨f,d,g,i⟩:T_ref02_State) e8 _ _ U (a9,d1) i3) (args3 Z Z Z)) Z ?_ ?_
 rintro _ j7 _ d2 ⟨_,⟨rfl,rfl⟩,rfl⟩
 refine⟨(Sl Z), ?_⟩
 refine WT.a0 (qt (.tuple #[(a96_ a9),(Uv d1)]) Z (Mv Z) (qt (a96_ a9) Z (Xt Z Z) (qt (Uv d1) Z (Xt Z Z) (Ta Z (Al ze96 Z) Z ?_ ?_))))
 rintro _ _ _ - ⟨rfl,i4,rfl,rfl⟩
 refine⟨(Ss Z (Xt Z Z) Z (Ss Z (Xt Z Z) Z (Ss Z (Mv Z) Z (Ss Z (Mv c) Z (Ss Z (La (cs:=[(Iv f),(Iv d),(Sv g),(Iv i)]) 3 ag96 sz96 a Z Z) Z (Ss Z (Mv b) Z trivial)))))), ?_⟩
 refine Ta Z (Sg (v:=(a96_ a9)) (vl:=(l96 a9)) (arr':=(l96 a9)) Z sz96 Z Z (onb Z) Z Z Z) Z ?_ ?_
 rintro _ _ _ - ⟨rfl,rfl⟩
 refine⟨(Ss Z (Xt Z Z) Z (Sl Z)), ?_⟩
 refine qt (Uv d1) Z (Ag Z) (Ti (WQ.f4 (Qa (WQ.f4 (WQ.f4 (WQ.f4 ?_))))))
 obtain rfl:=oi h
 exact Tj ⟨i4,(T.trans d2),Z,b,c,p,a,y,m,z,Z,Z⟩
 exact Tz
 exact Tz
 have h:=i2
 refine Ta Z (Al ze96 Z) Z ?_ ?_
 rintro _ _ _ - ⟨rfl,i5,rfl,rfl⟩
 refine⟨(Ss Z (Mv c) Z (Ss Z (La (cs:=[(Iv f),(Iv d),(Sv g),(Iv i)]) 3 ag96 sz96 a Z Z) Z (Ss Z (Mv b) Z trivial))), ?_⟩
 obtain ⟨⟨J,Y⟩,e9,h⟩:=bnd h
 refine Ta Z (Ca co125 (f_ref02_num_ok a0 (⟨f,d,g,i⟩:T_ref02_State) e8 _ _ U (J,Y) e9) (args3 Z Z Z)) Z ?_ ?_
 rintro _ j8 _ d3 ⟨_,⟨rfl,rfl⟩,rfl⟩
 refine⟨(Sl Z), ?_⟩
 refine WT.a0 (qt (.tuple #[(a96_ J),(Uv Y)]) Z (Mv Z) (qt (a96_ J) Z (Xt Z Z) (qt (Uv Y) Z (Xt Z Z) (Ta Z (Sg (v:=(a96_ J)) (vl:=(l96 J)) (arr':=(l96 J)) Z sz96 Z Z (onb Z) Z Z Z) Z ?_ ?_))))
 rintro _ _ _ - ⟨rfl,rfl⟩
 refine⟨(Ss Z (Xt Z Z) Z (Sl Z)), ?_⟩
 refine qt (Uv Y) Z (Ag Z) (Ti (WQ.f4 (Qa (WQ.f4 (WQ.f4 (WQ.f4 ?_))))))
 obtain rfl:=oi h
 exact Tj ⟨i5,(T.trans d3),Z,b,c,p,a,y,m,z,Z,Z⟩
 exact Tz
 exact Tz
 exact Tz
 have h:=i0
 refine Ta Z (Al ze96 Z) Z ?_ ?_
 rintro _ _ _ - ⟨rfl,i6,rfl,rfl⟩
 refine⟨(Ss Z (Mv c) Z (Ss Z (La (cs:=[(Iv f),(Iv d),(Sv g),(Iv i)]) 3 ag96 sz96 a Z Z) Z (Ss Z (Mv b) Z trivial))), ?_⟩
 obtain ⟨d8,f0,h⟩:=bnd h
 refine Ta Z (Ca co126 (f_ref02_above_ok a3 _ d8 f0) (args1 Z)) Z ?_ ?_
 rintro _ j9 _ a4 ⟨_,⟨rfl,rfl⟩,rfl⟩
 refine⟨(Sk 1 Z (Ss Z (La (cs:=[(Iv f),(Iv d),(Sv g),(Iv i)]) 3 ag96 sz96 a Z Z) Z (Ss Z (Mv b) Z trivial))), ?_⟩
 refine WT.a0 ?_
 obtain ⟨⟨K,a5⟩,f1,h⟩:=bnd h
 have U:=U.mono (((L.trans N).trans o).trans a4)
 refine Ta Z (Ca co125 (f_ref02_num_ok a0 (⟨f,d,g,i⟩:T_ref02_State) d8 _ _ U (K,a5) f1) (args3 Z Z Z)) Z ?_ ?_
 rintro _ k0 _ d4 ⟨_,⟨rfl,rfl⟩,rfl⟩
 refine⟨(Sl Z), ?_⟩
 refine WT.a0 (qt (.tuple #[(a96_ K),(Uv a5)]) Z (Mv Z) (qt (a96_ K) Z (Xt Z Z) (qt (Uv a5) Z (Xt Z Z) (Ta Z (Sg (v:=(a96_ K)) (vl:=(l96 K)) (arr':=(l96 K)) Z sz96 Z Z (onb Z) Z Z Z) Z ?_ ?_))))
 rintro _ _ _ - ⟨rfl,rfl⟩
 refine⟨(Ss Z (Xt Z Z) Z (Sl Z)), ?_⟩
 refine qt (Uv a5) Z (Ag Z) (Ti (WQ.f4 (Qa (WQ.f4 (WQ.f4 (WQ.f4 ?_))))))
 obtain rfl:=oi h
 exact Tj ⟨i6,(a4.trans d4),Z,b,c,p,a,y,m,z,Z,Z⟩
 exact Tz
 exact Tz
 exact Tz
 exact Tz
 obtain ⟨A,B⟩:=h8
 rintro l5 j6 l6 ⟨e7,b6,rfl,d5,d6,d7,R,b7,b8,b9,c0,c1⟩
 refine Sr (qu (a96_ A) (La (cs:=(l96 A)) 3 ag96 sz96 c0 Z Z) (Wb (We (Sg (v:=(a96_ A)) (vl:=(l96 A)) (arr':=(l96 A)) Z sz96 R Z (onb Z) Z Z Z) Z ?_)))
 rintro _ _ _ - ⟨rfl,rfl⟩
 refine Nt (Cg (qM s b8 (qM (Uv B) c1 (qu (Iv (i64.wrap B)) (conv us105 underlying3 Z) (We (buildSliceL (cl:=[(Iv (i64.wrap B))]) underlying56 iz3 Z (Pc (Iv (i64.wrap B)) Z Z Pz) Z) Z ?_)))))
 rintro _ _ _ - ⟨rfl,d9,rfl,rfl⟩
 have i7:OwnS (Kd.int .i64) j6 (.slice (some ⟨d9,0,none⟩) 1 1) [i64.wrap B] [(d9, .cells #[(Iv (i64.wrap B))] 3 (0,0))]:=OwnS.rows (css:=[[(Iv (i64.wrap B))]]) (Rows.cons Z Rows.nil) Z Z
 obtain ⟨f2,h⟩:=grd_i h
 refine WL.f5 ?_
 have I:=I.mono (o.trans b6)
 refine We (append (dd:=(Kd.int .i64)) (xs:=b4) (ys:=[i64.wrap B]) underlying56 underlying56 in3 Z (appB (by decide) f2) (by decide) Z Z I (i7.src 1 Z)) Z ?_
 rintro e1 _ _ - ⟨rfl,i8,rfl,i9⟩
 refine qa e1 (Wz (Bn (Tc (Cg (qM (Uv r) b9 (qu (Uv (u64.wrap (r+1))) (add Z Z) (qa (Uv (u64.wrap (r+1))) (Wz (Qa (Dr (WQ.f4 ?_)))))))))))
 exact Dr (Qa (WQ.f3 (WQ.f3 (WQ.again (b4++[i64.wrap B],u64.wrap (r+1),A.At,A.Code,A.Op,A.Where) (oi h).symm ⟨e1,i8,((N.trans o).trans b6),Z,d5,d6,d7,R,b7,Z,Z,i9⟩))))
 refine WC.exit (WQ.thenE (WQ.leaveE (b4,f,d,g,i) (oi h).symm (fun f6=> ?_)))
 subst f6
 have h:=h5
 refine WQ.blockH ?_
 obtain rfl:=oi h
 refine Tj ?_
 have I:=I.mono o
 exact⟨s,G,(N.trans o),Z,p,a,m,I⟩
 obtain ⟨h3,j,e,k,l⟩:=h1
 rintro l7 l8 l9 ⟨E,P,c2,rfl,q,C,c3,j0⟩
 refine Cs (Sr (qu (pt n 1) (Fa fo96_1 C Z) (qu (Iv e) (Lb 2 pl38 Z Z Z) (qu (Bv (decide (e≠0))) (neq Z Z) (Nt (Ch h Z (fun f7 h=> ?_) (fun f7 h=> ?_)))))))
 refine Sr (qu (.agg #[(Iv j),(Iv e),(Sv k),(Iv l)]) (La (cs:=[(Iv j),(Iv e),(Sv k),(Iv l)]) 2 ag96 sz96 C Z Z) (We (Sg (v:=(.agg #[(Iv j),(Iv e),(Sv k),(Iv l)])) (vl:=[(Iv j),(Iv e),(Sv k),(Iv l)]) (arr':=[(Iv j),(Iv e),(Sv k),(Iv l)]) Z sz96 q Z (onb Z) Z Z Z) Z ?_))
 rintro _ _ _ - ⟨rfl,rfl⟩
 refine qa Zs (Nt (Cr (Tr (WQ.e0 (Qb (Dr (Qb (Dr (Qb (Dr (Qa ?_)))))))))))
 exact Rd h [[]] (fun _ hs=>hs.drop) (resultsLN Z (RVs.cons (Rc (cs:=[(Iv j),(Iv e),(Sv k),(Iv l)]) 0 ag96 sz96 q Z Z) (RVs.cons (RV.tmp Z) RVs.nil))) (L.trans c2) ⟨Zs,[],Z,Z,(OwnS.nil _ _)⟩
 refine Ck (Tc (Sr (qu (.agg #[(Iv j),(Iv e),(Sv k),(Iv l)]) (La (cs:=[(Iv j),(Iv e),(Sv k),(Iv l)]) 2 ag96 sz96 C Z Z) (qM E c3 (We (Sg (v:=(.agg #[(Iv j),(Iv e),(Sv k),(Iv l)])) (vl:=[(Iv j),(Iv e),(Sv k),(Iv l)]) (arr':=[(Iv j),(Iv e),(Sv k),(Iv l)]) Z sz96 q Z (onb Z) Z Z Z) Z ?_)))))
 rintro _ _ _ - ⟨rfl,rfl⟩
 exact qa E (Nt (Cr (Qa (Dr (Qa (Dr (Rd h [P] (fun _ hs=>hs.drop) (resultsLN Z (RVs.cons (Rc (cs:=[(Iv j),(Iv e),(Sv k),(Iv l)]) 0 ag96 sz96 q Z Z) (RVs.cons (RV.tmp Z) RVs.nil))) (L.trans c2) ⟨E,P,Z,Z,j0⟩)))))))
noncomputable def f_ref02_Read (a0:(List Int)) (a1:T_ref02_State) (a2:T_ref02_Ask):Option (T_ref02_State×T_ref02_Got):=
 (if(decide (a1.Code≠(0:Int)))=true then(some (a1,(⟨(0:Int),false,[],[]⟩:T_ref02_Got)))else(((if(decide (a2.Kind=(0:Int)))=true then(some (decide (a2.Kind=(0:Int))))else(some (decide (a2.Kind=(1:Int))))):Option Bool).bind fun e=>(if e=true then((((f_ref02_above a2.Most).bind fun f=>((f_ref02_num a0 a1 f).bind fun(g,i)=>(some (g,i)))):Option (T_ref02_State×Int)).bind fun(j,k)=>(some (j,(⟨k,false,[],[]⟩:T_ref02_Got))))else(if(decide (a2.Kind=(2:Int)))=true then(if(decide ((a0.length:Int)≤a1.At))=true then((f_ref02_bad a1 (⟨#[102,108,97,103]⟩:ByteArray) a1.At (3:Int)).bind fun l=>(some (l,(⟨(0:Int),false,[],[]⟩:T_ref02_Got))))else(grd (0≤a1.At∧a1.At<a0.length) (if(decide ((1:Int)<(rd a0 a1.At)))=true then((f_ref02_bad a1 (⟨#[102,108,97,103]⟩:ByteArray) a1.At (5:Int)).bind fun m=>(some (m,(⟨(0:Int),false,[],[]⟩:T_ref02_Got))))else(grd (0≤a1.At∧a1.At<a0.length) (some ((⟨i64.wrap (a1.At+(1:Int)),(0:Int),(⟨#[]⟩:ByteArray),(0:Int)⟩:T_ref02_State),(⟨(0:Int),decide ((rd a0 a1.At)=(1:Int)),[],[]⟩:T_ref02_Got)))))))else(if(decide (a2.Kind=(3:Int)))=true then((f_ref02_text a0 a1 a2.Most).bind fun(a,b)=>(some (a,(⟨(0:Int),false,b,[]⟩:T_ref02_Got))))else((f_ref02_row a0 a1 a2.Most a2.Each).bind fun(c,d)=>(some (c,(⟨(0:Int),false,[],d⟩:T_ref02_Got)))))))))
def f_ref02_Read_post (a0:(List Int)) (a1:T_ref02_State) (a2:T_ref02_Ask) (f:Value):(T_ref02_State×T_ref02_Got)→Value→IM→HL→Prop:=
 fun(p_:(T_ref02_State×T_ref02_Got)) (v:Value) (M':IM) (H':HL)=>match p_ with |(d,e)=>∃ a b c,(.tuple #[(.agg #[(.int .i64 d.At),(.int .i64 d.Code),(.string d.Op),(.int .i64 d.Where)]),(.agg #[(.int .u64 e.Num),(.bool e.Flag),a,b])])=v∧H'=[c]∧RS (Kd.int .u8) M' a e.Text∧OwnS (Kd.int .i64) M' b e.Row c
theorem f_ref02_Read_ok (a0:(List Int)) (a1:T_ref02_State) (a2:T_ref02_Ask) (M:IM) (L:Value) (p:RS (Kd.int .u8) M L a0) (res:(T_ref02_State×T_ref02_Got)) (h:f_ref02_Read a0 a1 a2=some res):
 Tri prog 86 #[L,(a96_ a1),(a134_ a2)] M [] (f_ref02_Read_post a0 a1 a2 L res):=by
 unfold f_ref02_Read at h
 refine Te func86 Z Z ?_
 intro F ρ hρ
 refine Sr (We (box (cs:=(l96 a1).toArray) (congrArg Value.cells (asE (a96_ a1) (hρ 1)))) Z ?_)
 rintro _ _ _ - ⟨rfl,l,rfl,rfl⟩
 refine We (box (cs:=(l134 a2).toArray) (congrArg Value.cells (asE (a134_ a2) (hρ 2)))) Z ?_
 rintro _ _ _ - ⟨rfl,q,rfl,rfl⟩
 refine We (Al ze96 Z) Z ?_
 rintro _ _ _ - ⟨rfl,N,rfl,rfl⟩
 refine We (Al ze130 Z) Z ?_
 rintro _ _ _ - ⟨rfl,O,rfl,rfl⟩
 refine Nt (Cs (Sr (qu (pt l 1) (Fa fo96_1 Z Z) (qu (Iv a1.Code) (Lb 3 pl38 Z Z Z) (qu (Bv (decide (a1.Code≠0))) (neq Z Z) (Nt (Ch h Z (fun b5 h=> ?_) (fun b5 h=> ?_))))))))
 refine Sr (qu (a96_ a1) (La (cs:=(l96 a1)) 3 ag96 sz96 Z Z Z) (qu (.agg #[(Uv 0),(Bv false),Zs,Zs]) (Bl (cl:=[(Uv 0),(Bv false),Zs,Zs]) ze130 fp130 Pz Z) (WL.f1 (We (Sg (v:=(a96_ a1)) (vl:=(l96 a1)) (arr':=(l96 a1)) Z sz96 Z Z (onb Z) Z Z Z) Z ?_))))
 rintro _ _ _ - ⟨rfl,rfl⟩
 refine WL.f1 (We (Sg (v:=(.agg #[(Uv 0),(Bv false),Zs,Zs])) (vl:=[(Uv 0),(Bv false),Zs,Zs]) (arr':=[(Uv 0),(Bv false),Zs,Zs]) Z sz130 Z Z (onb Z) Z Z Z) Z ?_)
 rintro _ _ _ - ⟨rfl,rfl⟩
 exact Nt (Cr (Tr (WQ.e0 (WQ.f3 (Dr (WQ.f3 (Dr (Qa (Qb (Rd h [[]] (fun _ hs=>hs.drop.drop) (resultsLN Z (RVs.cons (Rc (cs:=(l96 a1)) 0 ag96 sz96 Z Z Z) (RVs.cons (Rc (cs:=[(Uv 0),(Bv false),Zs,Zs]) 1 ag130 sz130 Z Z Z) RVs.nil))) lr ⟨Zs,Zs,[],Z,Z,RS.nil _ _,(OwnS.nil _ _)⟩))))))))))
 refine Ck (Tc (Cs (Sr (qu (pt q 0) (Fa fo134_0 Z Z) (qu (Iv a2.Kind) (Lb 2 pl3 Z Z Z) (Nt (Bk ?_)))))))
 obtain ⟨W,b6,h⟩:=bnd h
 refine Jf (fun(W:Bool) ρ' M' H'=>M.le M'∧[(O, .cells #[(Uv 0),(Bv false),Zs,Zs] 130 (0,0))]::[(N, .cells z96_.toArray 96 (0,0))]::[(q, .cells (l134 a2).toArray 134 (0,0))]::[(l, .cells (l96 a1).toArray 96 (0,0))]::F=H'∧ρ' 0=L∧ρ' 4=(pt l 0)∧ρ' 5=(pt q 0)∧ρ' 6=(pt N 0)∧ρ' 7=(pt O 0)∧ρ' 20=(Iv a2.Kind)∧ρ' 21=(Bv W)) W ?_ ?_
 have h:=b6
 refine Sr (qu (Bv (decide (a2.Kind=0))) (eql Z Z) (qa (Bv (decide (a2.Kind=0))) (Nt (Ch h Z (fun b7 h=> ?_) (fun b7 h=> ?_)))))
 refine Ck ?_
 obtain rfl:=oi h
 exact Tj ⟨lr,Z,(hρ 0),Z,Z,Z,Z,Z,Z⟩
 refine Cg (qu (Bv (decide (a2.Kind=1))) (eql Z Z) (qa (Bv (decide (a2.Kind=1))) (Wz ?_)))
 obtain rfl:=oi h
 exact Tj ⟨lr,Z,(hρ 0),Z,Z,Z,Z,Z,Z⟩
 rintro e9 d6 f0 ⟨g,rfl,d,a,i,b,c,r,D⟩
 refine Ch h D (fun b8 h=> ?_) (fun b8 h=> ?_)
 obtain ⟨b9,c0,h⟩:=bnd h
 refine Jf (fun(p_:(T_ref02_State×Int)) ρ' M' H'=>match p_ with |(s,m)=>∃ X,d6.le M'∧[(O, .cells #[(Uv 0),(Bv false),Zs,Zs] 130 (0,0))]::[(N, .cells z96_.toArray 96 (0,0))]::[(q, .cells (l134 a2).toArray 134 (0,0))]::[(l, .cells (l96 a1).toArray 96 (0,0))]::[(X, .cells (l96 s).toArray 96 (0,0))]::F=H'∧ρ' 6=(pt N 0)∧ρ' 7=(pt O 0)∧ρ' 8=(pt X 0)∧ρ' 9=(Uv m)) b9 ?_ ?_
 have h:=c0
 refine WC.draw [0,0,0,4,12,31,63,127,127,0,767,2047] (.pure 0 (.pure 1 (.pure 2 (.pure 3 (.alt 4 (.alt 5 (.pure 6 (.pure 7 (.pure 8 (.alt 9 (.alt 10 (.pure 11 .done) .none) .none)))) (.alt 9 (.alt 5 (.pure 6 (.pure 7 (.pure 8 (.alt 10 (.pure 11 .done) .none)))) .none) .none)) (.alt 9 (.alt 4 (.alt 5 (.pure 6 (.pure 7 (.pure 8 (.alt 10 (.pure 11 .done) .none)))) .none) .none) .none)))))) mixed (by kernel_rfl) (qt L Z (Mv d) (qt (a96_ a1) Z (La (cs:=(l96 a1)) 3 ag96 sz96 a Z Z) (qt (pt q 1) Z (Fa fo134_1 i Z) (qt (Iv a2.Most) Z (Lb 2 pl3 Z Z Z) ?_))))
 have c1:=h
 obtain ⟨Y,c2,h⟩:=bnd h
 refine Ta Z (Ca co126 (f_ref02_above_ok a2.Most _ Y c2) (args1 Z)) Z ?_ ?_
 rintro _ f2 _ t ⟨_,⟨rfl,rfl⟩,rfl⟩
 refine⟨(Sk 2 Z (Ss Z (La (cs:=(l96 a1)) 3 ag96 sz96 a Z Z) Z (Ss Z (Mv d) Z trivial))), ?_⟩
 refine WT.a0 ?_
 have c3:=h
 obtain ⟨⟨A,P⟩,c4,h⟩:=bnd h
 have p:=p.mono (g.trans t)
 refine Ta Z (Ca co125 (f_ref02_num_ok a0 a1 Y _ _ p (A,P) c4) (args3 Z Z Z)) Z ?_ ?_
 rintro _ f5 _ a3 ⟨_,⟨rfl,rfl⟩,rfl⟩
 refine⟨(Sl Z), ?_⟩
 refine WT.a0 (qt (.tuple #[(a96_ A),(Uv P)]) Z (Mv Z) (qt (a96_ A) Z (Xt Z Z) (qt (Uv P) Z (Xt Z Z) (Ta Z (Al ze96 Z) Z ?_ ?_))))
 rintro _ _ _ - ⟨rfl,d7,rfl,rfl⟩
 refine⟨(Ss Z (Xt Z Z) Z (Ss Z (Xt Z Z) Z (Ss Z (Mv Z) Z (Ss Z (Lb 3 pl3 Z Z Z) Z (Ss Z (Fa fo134_1 i Z) Z (Ss Z (La (cs:=(l96 a1)) 4 ag96 sz96 a Z Z) Z (Ss Z (Mv d) Z trivial))))))), ?_⟩
 refine Ta Z (Sg (v:=(a96_ A)) (vl:=(l96 A)) (arr':=(l96 A)) Z sz96 Z Z (onb Z) Z Z Z) Z ?_ ?_
 rintro _ _ _ - ⟨rfl,rfl⟩
 refine⟨(Ss Z (Xt Z Z) Z (Sl Z)), ?_⟩
 refine qt (Uv P) Z (Ag Z) (Ti (WQ.f4 (WQ.f4 (WQ.f4 (WQ.f4 ?_)))))
 obtain rfl:=oi h
 exact Tj ⟨d7,(t.trans a3),Z,b,c,Z,Z⟩
 exact Tz
 exact Tz
 have h:=c3
 refine Ta Z (Al ze96 Z) Z ?_ ?_
 rintro _ _ _ - ⟨rfl,d8,rfl,rfl⟩
 refine⟨(Ss Z (Lb 3 pl3 Z Z Z) Z (Ss Z (Fa fo134_1 i Z) Z (Ss Z (La (cs:=(l96 a1)) 4 ag96 sz96 a Z Z) Z (Ss Z (Mv d) Z trivial)))), ?_⟩
 obtain ⟨⟨B,Q⟩,c5,h⟩:=bnd h
 refine Ta Z (Ca co125 (f_ref02_num_ok a0 a1 Y _ _ p (B,Q) c5) (args3 Z Z Z)) Z ?_ ?_
 rintro _ f6 _ a4 ⟨_,⟨rfl,rfl⟩,rfl⟩
 refine⟨(Sl Z), ?_⟩
 refine WT.a0 (qt (.tuple #[(a96_ B),(Uv Q)]) Z (Mv Z) (qt (a96_ B) Z (Xt Z Z) (qt (Uv Q) Z (Xt Z Z) (Ta Z (Sg (v:=(a96_ B)) (vl:=(l96 B)) (arr':=(l96 B)) Z sz96 Z Z (onb Z) Z Z Z) Z ?_ ?_))))
 rintro _ _ _ - ⟨rfl,rfl⟩
 refine⟨(Ss Z (Xt Z Z) Z (Sl Z)), ?_⟩
 refine qt (Uv Q) Z (Ag Z) (Ti (WQ.f4 (WQ.f4 (WQ.f4 (WQ.f4 ?_)))))
 obtain rfl:=oi h
 exact Tj ⟨d8,(t.trans a4),Z,b,c,Z,Z⟩
 exact Tz
 exact Tz
 exact Tz
 have h:=c1
 refine Ta Z (Al ze96 Z) Z ?_ ?_
 rintro _ _ _ - ⟨rfl,d9,rfl,rfl⟩
 refine⟨(Ss Z (Lb 3 pl3 Z Z Z) Z (Ss Z (Fa fo134_1 i Z) Z (Ss Z (La (cs:=(l96 a1)) 4 ag96 sz96 a Z Z) Z (Ss Z (Mv d) Z trivial)))), ?_⟩
 obtain ⟨c6,c7,h⟩:=bnd h
 refine Ta Z (Ca co126 (f_ref02_above_ok a2.Most _ c6 c7) (args1 Z)) Z ?_ ?_
 rintro _ f7 _ E ⟨_,⟨rfl,rfl⟩,rfl⟩
 refine⟨(Sk 2 Z (Ss Z (La (cs:=(l96 a1)) 4 ag96 sz96 a Z Z) Z (Ss Z (Mv d) Z trivial))), ?_⟩
 refine WT.a0 ?_
 obtain ⟨⟨C,R⟩,c8,h⟩:=bnd h
 have p:=p.mono (g.trans E)
 refine Ta Z (Ca co125 (f_ref02_num_ok a0 a1 c6 _ _ p (C,R) c8) (args3 Z Z Z)) Z ?_ ?_
 rintro _ f8 _ a5 ⟨_,⟨rfl,rfl⟩,rfl⟩
 refine⟨(Sl Z), ?_⟩
 refine WT.a0 (qt (.tuple #[(a96_ C),(Uv R)]) Z (Mv Z) (qt (a96_ C) Z (Xt Z Z) (qt (Uv R) Z (Xt Z Z) (Ta Z (Sg (v:=(a96_ C)) (vl:=(l96 C)) (arr':=(l96 C)) Z sz96 Z Z (onb Z) Z Z Z) Z ?_ ?_))))
 rintro _ _ _ - ⟨rfl,rfl⟩
 refine⟨(Ss Z (Xt Z Z) Z (Sl Z)), ?_⟩
 refine qt (Uv R) Z (Ag Z) (Ti (WQ.f4 (WQ.f4 (WQ.f4 (WQ.f4 ?_)))))
 obtain rfl:=oi h
 exact Tj ⟨d9,(E.trans a5),Z,b,c,Z,Z⟩
 exact Tz
 exact Tz
 exact Tz
 exact Tz
 obtain ⟨s,m⟩:=b9
 rintro f9 g0 g1 ⟨X,a6,rfl,x,y,S,T⟩
 refine Sr (qu (a96_ s) (La (cs:=(l96 s)) 4 ag96 sz96 S Z Z) (qM (Uv m) T (qu (.agg #[(Uv m),(Bv false),Zs,Zs]) (Bl (cl:=[(Uv m),(Bv false),Zs,Zs]) ze130 fp130 (Pc (Uv m) Z Z Pz) Z) (WL.f1 (We (Sg (v:=(a96_ s)) (vl:=(l96 s)) (arr':=(l96 s)) Z sz96 x Z (onb Z) Z Z Z) Z ?_)))))
 rintro _ _ _ - ⟨rfl,rfl⟩
 refine WL.f1 (We (Sg (v:=(.agg #[(Uv m),(Bv false),Zs,Zs])) (vl:=[(Uv m),(Bv false),Zs,Zs]) (arr':=[(Uv m),(Bv false),Zs,Zs]) Z sz130 y Z (onb Z) Z Z Z) Z ?_)
 rintro _ _ _ - ⟨rfl,rfl⟩
 refine Nt (Cr (Br (Tr (WQ.e0 (WQ.f3 (Dr (WQ.f3 (Dr (WQ.f3 (Dr (Qa ?_)))))))))))
 exact Qb (Rd h [[]] (fun _ hs=>hs.drop.drop) (resultsLN Z (RVs.cons (Rc (cs:=(l96 s)) 0 ag96 sz96 x Z Z) (RVs.cons (Rc (cs:=[(Uv m),(Bv false),Zs,Zs]) 1 ag130 sz130 y Z Z) RVs.nil))) (g.trans a6) ⟨Zs,Zs,[],Z,Z,RS.nil _ _,(OwnS.nil _ _)⟩)
 refine Sr (qu (Bv (decide (a2.Kind=2))) (eql r Z) (qa (Bv (decide (a2.Kind=2))) (Nt (Ch h Z (fun c9 h=> ?_) (fun c9 h=> ?_)))))
 refine Cs (Sr (qu (pt l 0) (Fa fo96_0 a Z) (qu (Iv a1.At) (Lb 3 pl3 Z Z Z) (qM L d ?_))))
 have p:=p.mono g
 refine qu (Iv (a0.length:Int)) (lenS underlying23 Z p.len) (qu (Bv (decide ((a0.length:Int)≤a1.At))) (geq Z Z) (Nt (Ch h Z (fun d0 h=> ?_) (fun d0 h=> ?_))))
 refine Sr (qu (a96_ a1) (La (cs:=(l96 a1)) 3 ag96 sz96 a Z Z) (qu (pt l 0) (Fa fo96_0 a Z) (qu (Iv a1.At) (Lb 3 pl3 Z Z Z) ?_)))
 obtain ⟨G,d1,h⟩:=bnd h
 refine We (Ca co127 (f_ref02_bad_ok a1 (⟨#[102,108,97,103]⟩:ByteArray) a1.At (3:Int) _ G d1) (args4 Z Z Z Z)) Z ?_
 rintro _ g2 _ a7 ⟨_,⟨rfl,rfl⟩,rfl⟩
 refine WL.a0 (qu (.agg #[(Uv 0),(Bv false),Zs,Zs]) (Bl (cl:=[(Uv 0),(Bv false),Zs,Zs]) ze130 fp130 Pz Z) (WL.f1 (We (Sg (v:=(a96_ G)) (vl:=(l96 G)) (arr':=(l96 G)) Z sz96 b Z (onb Z) Z Z Z) Z ?_)))
 rintro _ _ _ - ⟨rfl,rfl⟩
 refine WL.f1 (We (Sg (v:=(.agg #[(Uv 0),(Bv false),Zs,Zs])) (vl:=[(Uv 0),(Bv false),Zs,Zs]) (arr':=[(Uv 0),(Bv false),Zs,Zs]) Z sz130 c Z (onb Z) Z Z Z) Z ?_)
 rintro _ _ _ - ⟨rfl,rfl⟩
 refine Nt (Cr (Tr (Br (Tr (WQ.e0 (WQ.f3 (Dr (WQ.f3 (Dr (Qa (Qb ?_)))))))))))
 exact Rd h [[]] (fun _ hs=>hs.drop.drop) (resultsLN Z (RVs.cons (Rc (cs:=(l96 G)) 0 ag96 sz96 b Z Z) (RVs.cons (Rc (cs:=[(Uv 0),(Bv false),Zs,Zs]) 1 ag130 sz130 c Z Z) RVs.nil))) (g.trans a7) ⟨Zs,Zs,[],Z,Z,RS.nil _ _,(OwnS.nil _ _)⟩
 refine Ck (Tc (Cs (Sr (qM L d (qu (pt l 0) (Fa fo96_0 a Z) (qu (Iv a1.At) (Lb 3 pl3 Z Z Z) ?_))))))
 obtain ⟨z,h⟩:=grd_i h
 obtain ⟨e1,e3,a8,a9,hhas85⟩:=p.at z.1 z.2 (by decide)
 obtain rfl:=a9
 refine qu (.pointer (some e1)) (indexAddr (n:=a0.length) underlying23 sz5 Z Z z.1 z.2 a8) (qu (Yv (rd a0 a1.At)) (loadM pl5 Z (IM.has0 hhas85)) (qu (Bv (decide ((1:Int)<(rd a0 a1.At)))) (gtr Z Z) (Nt (Ch h Z (fun d2 h=> ?_) (fun d2 h=> ?_)))))
 refine Sr (qu (a96_ a1) (La (cs:=(l96 a1)) 3 ag96 sz96 a Z Z) (qu (pt l 0) (Fa fo96_0 a Z) (qu (Iv a1.At) (Lb 3 pl3 Z Z Z) ?_)))
 obtain ⟨I,d3,h⟩:=bnd h
 refine We (Ca co127 (f_ref02_bad_ok a1 (⟨#[102,108,97,103]⟩:ByteArray) a1.At (5:Int) _ I d3) (args4 Z Z Z Z)) Z ?_
 rintro _ g3 _ b0 ⟨_,⟨rfl,rfl⟩,rfl⟩
 refine WL.a0 (qu (.agg #[(Uv 0),(Bv false),Zs,Zs]) (Bl (cl:=[(Uv 0),(Bv false),Zs,Zs]) ze130 fp130 Pz Z) (WL.f1 (We (Sg (v:=(a96_ I)) (vl:=(l96 I)) (arr':=(l96 I)) Z sz96 b Z (onb Z) Z Z Z) Z ?_)))
 rintro _ _ _ - ⟨rfl,rfl⟩
 refine WL.f1 (We (Sg (v:=(.agg #[(Uv 0),(Bv false),Zs,Zs])) (vl:=[(Uv 0),(Bv false),Zs,Zs]) (arr':=[(Uv 0),(Bv false),Zs,Zs]) Z sz130 c Z (onb Z) Z Z Z) Z ?_)
 rintro _ _ _ - ⟨rfl,rfl⟩
 refine Nt (Cr (Tr (Br (Tr (WQ.e0 (WQ.f3 (Dr (WQ.f3 (Dr (Qa (Qb ?_)))))))))))
 exact Rd h [[]] (fun _ hs=>hs.drop.drop) (resultsLN Z (RVs.cons (Rc (cs:=(l96 I)) 0 ag96 sz96 b Z Z) (RVs.cons (Rc (cs:=[(Uv 0),(Bv false),Zs,Zs]) 1 ag130 sz130 c Z Z) RVs.nil))) (g.trans b0) ⟨Zs,Zs,[],Z,Z,RS.nil _ _,(OwnS.nil _ _)⟩
 refine Ck (Tc (Cs (WC.draw [0,1,3,7,0,0,32,112,240,496,1008,15,4095] (.pure 0 (.pure 1 (.pure 2 (.pure 3 (.pure 4 (.pure 5 (.pure 6 (.pure 7 (.pure 8 (.pure 9 (.pure 10 (.alt 11 (.alt 12 .done .none) .none)))))))))))) mixed (by kernel_rfl) (qt (pt l 0) Z (Fa fo96_0 a Z) (qt (Iv a1.At) Z (Lb 3 pl3 Z Z Z) (qt (Iv (i64.wrap (a1.At+1))) Z (add Z Z) (qt (.agg #[(Iv (i64.wrap (a1.At+1))),(Iv 0),(Sv ⟨#[]⟩),(Iv 0)]) Z (Bl (cl:=[(Iv (i64.wrap (a1.At+1))),(Iv 0),(Sv ⟨#[]⟩),(Iv 0)]) ze96 fp96 (Pc (Iv (i64.wrap (a1.At+1))) Z Z Pz) Z) (qt L Z (Mv d) (qt (pt l 0) Z (Fa fo96_0 a Z) (qt (Iv a1.At) Z (Lb 3 pl3 Z Z Z) ?_))))))))))
 obtain ⟨o,h⟩:=grd_i h
 obtain ⟨e2,e4,J,b1,hhas99⟩:=p.at o.1 o.2 (by decide)
 obtain rfl:=b1
 refine qt (.pointer (some e2)) Z (indexAddr (n:=a0.length) underlying23 sz5 Z Z o.1 o.2 J) (qt (Yv (rd a0 a1.At)) Z (loadM pl5 Z (IM.has0 hhas99)) (qt (Bv (decide ((rd a0 a1.At)=1))) Z (eql Z Z) (qt (.agg #[(Uv 0),(Bv (decide ((rd a0 a1.At)=1))),Zs,Zs]) Z (Bl (cl:=[(Uv 0),(Bv (decide ((rd a0 a1.At)=1))),Zs,Zs]) ze130 fp130 (Pc (Bv (decide ((rd a0 a1.At)=1))) Z Z Pz) Z) (WT.f1 (Ta Z (Sg (v:=(.agg #[(Iv (i64.wrap (a1.At+1))),(Iv 0),(Sv ⟨#[]⟩),(Iv 0)])) (vl:=[(Iv (i64.wrap (a1.At+1))),(Iv 0),(Sv ⟨#[]⟩),(Iv 0)]) (arr':=[(Iv (i64.wrap (a1.At+1))),(Iv 0),(Sv ⟨#[]⟩),(Iv 0)]) Z sz96 b Z (onb Z) Z Z Z) Z ?_ ?_)))))
 rintro _ _ _ - ⟨rfl,rfl⟩
 refine⟨(Ss Z (Bl (cl:=[(Uv 0),(Bv (decide ((rd a0 a1.At)=1))),Zs,Zs]) ze130 fp130 (Pc (Bv (decide ((rd a0 a1.At)=1))) Z Z Pz) Z) Z (Ss Z (eql Z Z) Z (Ss Z (loadM pl5 Z (IM.has0 hhas99)) Z (Ss Z (indexAddr (n:=a0.length) underlying23 sz5 Z Z o.1 o.2 J) Z (Ss Z (Lb 3 pl3 Z Z Z) Z (Ss Z (Fa fo96_0 a Z) Z (Ss Z (Mv d) Z (Sl Z)))))))), ?_⟩
 refine WT.f1 (Ta Z (Sg (v:=(.agg #[(Uv 0),(Bv (decide ((rd a0 a1.At)=1))),Zs,Zs])) (vl:=[(Uv 0),(Bv (decide ((rd a0 a1.At)=1))),Zs,Zs]) (arr':=[(Uv 0),(Bv (decide ((rd a0 a1.At)=1))),Zs,Zs]) Z sz130 c Z (onb Z) Z Z Z) Z ?_ ?_)
 rintro _ _ _ - ⟨rfl,rfl⟩
 refine⟨(Sl Z), ?_⟩
 refine Ti (Tc (Cr (Br (Tr (WQ.e0 (WQ.f3 (Dr (WQ.f3 (Dr (Qa (Qb ?_)))))))))))
 exact Rd h [[]] (fun _ hs=>hs.drop.drop) (resultsLN Z (RVs.cons (Rc (cs:=[(Iv (i64.wrap (a1.At+1))),(Iv 0),(Sv ⟨#[]⟩),(Iv 0)]) 0 ag96 sz96 b Z Z) (RVs.cons (Rc (cs:=[(Uv 0),(Bv (decide ((rd a0 a1.At)=1))),Zs,Zs]) 1 ag130 sz130 c Z Z) RVs.nil))) g ⟨Zs,Zs,[],Z,Z,RS.nil _ _,(OwnS.nil _ _)⟩
 exact Tz
 exact Tz
 refine Sr (qu (Bv (decide (a2.Kind=3))) (eql r Z) (qa (Bv (decide (a2.Kind=3))) (Nt (Ch h Z (fun b2 h=> ?_) (fun b2 h=> ?_)))))
 refine Sr (qM L d (qu (a96_ a1) (La (cs:=(l96 a1)) 3 ag96 sz96 a Z Z) (qu (pt q 1) (Fa fo134_1 i Z) (qu (Iv a2.Most) (Lb 2 pl3 Z Z Z) ?_))))
 obtain ⟨⟨j,d4⟩,b3,h⟩:=bnd h
 have p:=p.mono g
 refine We (Ca co128 (f_ref02_text_ok a0 a1 a2.Most _ _ p (j,d4) b3) (args3 Z Z Z)) Z ?_
 rintro _ e5 _ U ⟨_,⟨e,rfl,rfl,u⟩,rfl⟩
 refine WL.a0 (qm (.tuple #[(a96_ j),e]) (qu (a96_ j) (Xt Z Z) (qu e (Xt Z Z) (We (Al ze96 Z) Z ?_))))
 rintro _ _ _ - ⟨rfl,e6,rfl,rfl⟩
 refine We (Sg (v:=(a96_ j)) (vl:=(l96 j)) (arr':=(l96 j)) Z sz96 Z Z (onb Z) Z Z Z) Z ?_
 rintro _ _ _ - ⟨rfl,rfl⟩
 refine qa e (Ns (qu (a96_ j) (La (cs:=(l96 j)) 0 ag96 sz96 Z Z Z) (qm e (qu (.agg #[(Uv 0),(Bv false),e,Zs]) (Bl (cl:=[(Uv 0),(Bv false),e,Zs]) ze130 fp130 (Parts.cons ((congrArg Value.cells (show ev _ _=e from Z)).trans u.cells) Pz) Z) (Wb (We (Sg (v:=(a96_ j)) (vl:=(l96 j)) (arr':=(l96 j)) Z sz96 b Z (onb Z) Z Z Z) Z ?_))))))
 rintro _ _ _ - ⟨rfl,rfl⟩
 refine Wb (We (Sg (v:=(.agg #[(Uv 0),(Bv false),e,Zs])) (vl:=[(Uv 0),(Bv false),e,Zs]) (arr':=[(Uv 0),(Bv false),e,Zs]) Z sz130 c Z (onesOf (Oc Z (Oc Z (Oc (RS.one u) (Oc Z Oz))))) Z Z Z) Z ?_)
 rintro _ _ _ - ⟨rfl,rfl⟩
 refine Nt (Cr (Br (Tr (WQ.e0 (WQ.f3 (Dr (WQ.f3 (Dr (WQ.f3 (Dr (Qa ?_)))))))))))
 exact Qb (Rd h [[]] (fun _ hs=>hs.drop.drop) (resultsLN Z (RVs.cons (Rc (cs:=(l96 j)) 0 ag96 sz96 b Z Z) (RVs.cons (Rc (cs:=[(Uv 0),(Bv false),e,Zs]) 1 ag130 sz130 c Z Z) RVs.nil))) (g.trans U) ⟨e,Zs,[],Z,Z,u,(OwnS.nil _ _)⟩)
 refine Ck (Bn (Tc (Sr (qM L d (qu (a96_ a1) (La (cs:=(l96 a1)) 3 ag96 sz96 a Z Z) (qu (pt q 1) (Fa fo134_1 i Z) (qu (Iv a2.Most) (Lb 2 pl3 Z Z Z) (qu (pt q 2) (Fa fo134_2 i Z) (qu (Iv a2.Each) (Lb 2 pl3 Z Z Z) ?_)))))))))
 obtain ⟨⟨k,d5⟩,b4,h⟩:=bnd h
 have p:=p.mono g
 refine We (Ca co129 (f_ref02_row_ok a0 a1 a2.Most a2.Each _ _ p (k,d5) b4) (args4 Z Z Z Z)) Z ?_
 rintro _ e7 _ V ⟨_,⟨f,K,rfl,rfl,w⟩,rfl⟩
 refine WL.a1 (qm (.tuple #[(a96_ k),f]) (qu (a96_ k) (Xt Z Z) (qu f (Xt Z Z) (We (Al ze96 Z) Z ?_))))
 rintro _ _ _ - ⟨rfl,e8,rfl,rfl⟩
 refine We (Sg (v:=(a96_ k)) (vl:=(l96 k)) (arr':=(l96 k)) Z sz96 Z Z (onb Z) Z Z Z) Z ?_
 rintro _ _ _ - ⟨rfl,rfl⟩
 refine qa f (Ns (qu (a96_ k) (La (cs:=(l96 k)) 0 ag96 sz96 Z Z Z) (qm f (qu (.agg #[(Uv 0),(Bv false),Zs,f]) (Bl (cl:=[(Uv 0),(Bv false),Zs,f]) ze130 fp130 (Parts.cons ((congrArg Value.cells (show ev _ _=f from Z)).trans w.cells) Pz) Z) (WL.f3 (We (Sg (v:=(a96_ k)) (vl:=(l96 k)) (arr':=(l96 k)) Z sz96 b Z (onb Z) Z Z Z) Z ?_))))))
 rintro _ _ _ - ⟨rfl,rfl⟩
 refine WL.f3 (We (Sg (v:=(.agg #[(Uv 0),(Bv false),Zs,f])) (vl:=[(Uv 0),(Bv false),Zs,f]) (arr':=[(Uv 0),(Bv false),Zs,f]) Z sz130 c Z (onesOf (Oc Z (Oc Z (Oc Z (Oc (Ow w) Oz))))) Z Z Z) Z ?_)
 rintro _ _ _ - ⟨rfl,rfl⟩
 exact Nt (Cr (Qb (Dr (WQ.f3 (Dr (WQ.f3 (Dr (Qb (Qa (Qb (Rd h [K] (fun _ hs=>hs.drop.drop) (resultsLN Z (RVs.cons (Rc (cs:=(l96 k)) 0 ag96 sz96 b Z Z) (RVs.cons (Rc (cs:=[(Uv 0),(Bv false),Zs,f]) 1 ag130 sz130 c Z Z) RVs.nil))) (g.trans V) ⟨Zs,f,K,Z,Z,RS.nil _ _,w⟩)))))))))))

end Go.Proofs.YtkflneabcannnaaGreatDoor.G
