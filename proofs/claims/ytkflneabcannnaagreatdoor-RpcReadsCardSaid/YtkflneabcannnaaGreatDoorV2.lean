/- Go functions: what they come to, and that they do. Printed by a program of the session (gen). -/
import Derived.Test.YtkflneabcannnaaGreatDoorVF
import Derived.Test.YtkflneabcannnaaGreatDoorV0
import Derived.Test.YtkflneabcannnaaGreatDoorV1
import Derived.Test.YtkflneabcannnaaGreatDoorKConv
import Derived.Test.YtkflneabcannnaaGreatDoorKShar2
import Derived.Test.YtkflneabcannnaaGreatDoorKTight2
set_option linter.unusedVariables false
set_option linter.unusedSimpArgs false
set_option maxHeartbeats 8000000
set_option maxRecDepth 100000
namespace Go.Proofs.YtkflneabcannnaaGreatDoor.G
open Go Go.KK
open PO EO IntKind Sum Tryz

noncomputable def f_rpc_Put_l0 (a0:T_api_Rpc) (s_:(Int×(List Int))):Option ((Int×(List Int))⊕((List Int)⊕(GErr×(List Int)))):=
 match s_ with
 |(a,b)=>
 (if(decide (a<(a0.Batches.length:Int)))=true then(grd (0≤a∧a<a0.Batches.length) ((f_batch_Put (rd a0.Batches a)).bind fun(c,d)=>(if(!d.isNil)=true then((f_fault_Wrap (⟨#[98,97,116,99,104]⟩:ByteArray) a d).bind fun e=>(some (inr (inr (e,b)))))else(grd (b.length+c.length≤274877906944) (some (inl (i64.wrap (a+(1:Int)),b++c)))))))else(some (inr (inl b))))
noncomputable def f_rpc_Put (a0:T_api_Rpc):Option (T_api_Frame×GErr):=
 ((f_rpc_Check a0).bind fun d=>(if(!d.isNil)=true then(some ((⟨(0:Int),[]⟩:T_api_Frame),d))else((f_rpc_about a0.Kind).bind fun a=>((((f_wire_Int [] a0.From).bind fun w=>((f_wire_Int w a0.To).bind fun x=>((f_wire_Int x a0.Term).bind fun y=>(some y)))):Option (List Int)).bind fun e=>(((if(decide ((andI .i64 a (1:Int))≠(0:Int)))=true then((f_wire_Flag e a0.Pre).bind fun z=>(some z))else(some e)):Option (List Int)).bind fun f=>(((if(decide ((andI .i64 a (2:Int))≠(0:Int)))=true then((f_wire_Flag f a0.Ok).bind fun g=>(some g))else(some f)):Option (List Int)).bind fun i=>((f_rpc_Put_1 (4:Int) a0.Leader a i).bind fun j=>((f_rpc_Put_1 (8:Int) a0.At a j).bind fun k=>((f_rpc_Put_1 (8:Int) a0.AtTerm a k).bind fun l=>((f_rpc_Put_1 (16:Int) a0.High a l).bind fun m=>((f_rpc_Put_1 (32:Int) a0.Code a m).bind fun n=>((f_rpc_Put_1 (128:Int) a0.Size a n).bind fun o=>((f_rpc_Put_1 (256:Int) a0.Pos a o).bind fun c=>(((if(decide (a0.Kind=(8:Int)))=true then((f_wire_Text c a0.Data).bind fun p=>(some p))else(some c)):Option (List Int)).bind fun q=>((f_rpc_Put_1 (64:Int) (a0.Batches.length:Int) a q).bind fun s=>((((iter (f_rpc_Put_l0 a0) ((0:Int),s)).bind (Sum.elim (fun(t:(List Int))=>(some (inl t))) (fun(u,A)=>(((some ((⟨(0:Int),[]⟩:T_api_Frame),u))).bind fun r=>some (inr r))))):Option ((List Int)⊕(T_api_Frame×GErr))).bind (Sum.elim (fun(b:(List Int))=>(if(decide ((16384:Int)<(b.length:Int)))=true then((f_fault_New (⟨#[109,101,115,115,97,103,101]⟩:ByteArray) (b.length:Int) (6:Int)).bind fun v=>(some ((⟨(0:Int),[]⟩:T_api_Frame),v)))else(some ((⟨a0.Kind,b⟩:T_api_Frame),GErr.nil)))) some)))))))))))))))))
def f_rpc_Put_post (a0:T_api_Rpc) (c d:Value):(T_api_Frame×GErr)→Value→IM→HL→Prop:=
 fun(p_:(T_api_Frame×GErr)) (v:Value) (M':IM) (H':HL)=>match p_ with |(e,f)=>∃ a b,(.tuple #[(.agg #[(.int .i64 e.Kind),a]),(GV f)])=v∧H'=[b]∧OwnS (Kd.int .u8) M' a e.Body b
theorem f_rpc_Put_ok (a0:T_api_Rpc) (M:IM) (c f:Value) (m:RS kd_api_Batch M c a0.Batches) (L:RS (Kd.int .u8) M f a0.Data) (res:(T_api_Frame×GErr)) (h:f_rpc_Put a0=some res):
 Tri prog 10 #[(a25_ a0 c f)] M [] (f_rpc_Put_post a0 c f res):=by
 unfold f_rpc_Put at h
 refine Te func10 Z Z ?_
 intro F ρ hρ
 refine Sr (We (box (cs:=(l25 a0 c f).toArray) (congrArg Value.cells (asE (a25_ a0 c f) (hρ 0)))) Z ?_)
 rintro _ _ _ - ⟨rfl,d,rfl,rfl⟩
 refine We (Al ze29 Z) Z ?_
 rintro _ _ _ - ⟨rfl,w,rfl,rfl⟩
 refine qa (GV GErr.nil) (Nt (Cs (Sr (qu (a25_ a0 c f) (La (cs:=(l25 a0 c f)) 1 ag25 sz25 Z Z Z) ?_))))
 obtain ⟨c4,m9,h⟩:=bnd h
 refine We (Ca co16 (f_rpc_Check_ok a0 _ _ _ m L c4 m9) (args1 Z)) Z ?_
 rintro _ y7 _ c5 ⟨_,⟨rfl,rfl⟩,rfl⟩
 refine WL.a0 (qa (GV c4) (Ns (qm (GV c4) (qu (Bv (!c4.isNil)) (errNotNil underlying31 Z) (Nt (Ch h Z (fun n0 h=> ?_) (fun n0 h=> ?_)))))))
 refine Sr (qu (.agg #[(Iv 0),Zs]) (Bl (cl:=[(Iv 0),Zs]) ze29 fp29 Pz Z) (qm (GV c4) (We (Sg (v:=(.agg #[(Iv 0),Zs])) (vl:=[(Iv 0),Zs]) (arr':=[(Iv 0),Zs]) Z sz29 Z Z (onb Z) Z Z Z) Z ?_)))
 rintro _ _ _ - ⟨rfl,rfl⟩
 exact qa (GV c4) (Nt (Cr (Tr (WQ.e0 (Qb (Dr (Qa (Rd h [[]] (fun _ hs=>hs.drop) (resultsLN Z (RVs.cons (Rc (cs:=[(Iv 0),Zs]) 0 ag29 sz29 Z Z Z) (RVs.cons (RV.tmp Z) RVs.nil))) c5 ⟨Zs,[],Z,Z,(OwnS.nil _ _)⟩))))))))
 refine Ck (Tc (Sr (qu (pt d 0) (Fa fo25_0 Z Z) (qu (Iv a0.Kind) (Lb 1 pl3 Z Z Z) ?_))))
 obtain ⟨k,n1,h⟩:=bnd h
 refine We (Ca co23 (f_rpc_about_ok a0.Kind _ k n1) (args1 Z)) Z ?_
 rintro _ s2 _ i6 ⟨_,⟨rfl,rfl⟩,rfl⟩
 refine WL.a0 (We (Al ze3 Z) Z ?_)
 rintro _ _ _ - ⟨rfl,e,rfl,rfl⟩
 refine We (Es (Iv k) [(Iv k)] Z sz3 Z Z Z Z Z Z) Z ?_
 rintro _ _ _ - ⟨rfl,rfl⟩
 refine Nt ?_
 obtain ⟨e6,n2,h⟩:=bnd h
 refine Jf (fun(e6:(List Int)) ρ' M' H'=>∃ a V b5,s2.le M'∧[(e, .cells #[(Iv k)] 3 (0,0))]::[(w, .cells #[(Iv 0),Zs] 29 (0,0))]::[(d, .cells (l25 a0 c f).toArray 25 (0,0))]::[(a, .cells #[V] 23 (0,0))]::b5::F=H'∧ρ' 1=(pt d 0)∧ρ' 2=(pt w 0)∧ρ' 5=(pt e 0)∧ρ' 6=(pt a 0)∧OwnS (Kd.int .u8) M' V e6 b5) e6 ?_ ?_
 have h:=n2
 refine WC.draw [0,1,3,0,8,31,0,64,255,0,1023] (.pure 0 (.pure 1 (.pure 3 (.pure 4 (.pure 6 (.pure 7 (.alt 2 (.alt 5 (.alt 8 (.alt 9 (.alt 10 .done .none) .none) (.alt 9 (.alt 8 (.alt 10 .done .none) .none) .none)) (.alt 9 (.alt 5 (.alt 8 (.alt 10 .done .none) .none) .none) .none)) (.alt 9 (.alt 2 (.alt 5 (.alt 8 (.alt 10 .done .none) .none) .none) .none) .none)))))))) mixed (by kernel_rfl) (qt (pt d 1) Z (Fa fo25_1 Z Z) (qt (Iv a0.From) Z (Lb 2 pl3 Z Z Z) (qt (pt d 2) Z (Fa fo25_2 Z Z) (qt (Iv a0.To) Z (Lb 2 pl3 Z Z Z) (qt (pt d 3) Z (Fa fo25_3 Z Z) (qt (Iv a0.Term) Z (Lb 2 pl3 Z Z Z) ?_))))))
 have n3:=h
 obtain ⟨i7,n4,h⟩:=bnd h
 refine WT.e0 (Ta Z (Cb co24 (f_wire_Int_ok [] a0.From _ _ _ (OwnS.nil _ _) i7 n4) (args2 Z Z)) Z ?_ ?_)
 rintro _ y8 _ a4 ⟨_,⟨t8,t9,rfl,rfl,g9⟩,rfl⟩
 refine⟨(Ss Z (Lb 3 pl3 Z Z Z) Z (Ss Z (Fa fo25_3 Z Z) Z (Ss Z (Lb 3 pl3 Z Z Z) Z (Ss Z (Fa fo25_2 Z Z) Z (Sl Z))))), ?_⟩
 refine WT.a1 ?_
 have n5:=h
 obtain ⟨i8,n6,h⟩:=bnd h
 refine Ta Z (Cb co24 (f_wire_Int_ok i7 a0.To _ _ _ g9 i8 n6) (args2 Z Z)) Z ?_ ?_
 rintro _ y9 _ c6 ⟨_,⟨u0,u1,rfl,rfl,h0⟩,rfl⟩
 refine⟨(Ss Z (Lb 3 pl3 Z Z Z) Z (Ss Z (Fa fo25_3 Z Z) Z (Sl Z))), ?_⟩
 refine WT.a1 ?_
 have n7:=h
 obtain ⟨s3,n8,h⟩:=bnd h
 refine Ta Z (Cb co24 (f_wire_Int_ok i8 a0.Term _ _ _ h0 s3 n8) (args2 Z Z)) Z ?_ ?_
 rintro _ z0 _ i9 ⟨_,⟨c7,n9,rfl,rfl,c8⟩,rfl⟩
 refine⟨(Sl Z), ?_⟩
 refine WT.a1 (Ta Z (Al ze23 Z) Z ?_ ?_)
 rintro _ _ _ - ⟨rfl,s4,rfl,rfl⟩
 refine⟨(Ss Z (Lb 4 pl3 Z Z Z) Z (Ss Z (Fa fo25_3 Z Z) Z (Ss Z (Lb 4 pl3 Z Z Z) Z (Ss Z (Fa fo25_2 Z Z) Z (Ss Z (Lb 4 pl3 Z Z Z) Z (Ss Z (Fa fo25_1 Z Z) Z trivial)))))), ?_⟩
 refine Ta Z (Es c7 [c7] c8.cells sz23 Z Z (Ow c8) Z Z Z) Z ?_ ?_
 rintro _ _ _ - ⟨rfl,rfl⟩
 refine⟨(Sl Z), ?_⟩
 refine Ti (Qa (Qa (WQ.f4 (WQ.f4 (WQ.f4 ?_)))))
 obtain rfl:=oi h
 exact Tj ⟨s4,c7,n9,((a4.trans c6).trans i9),Z,Z,Z,Z,Z,c8⟩
 exact Tz
 exact Tz
 have h:=n7
 refine Ta Z (Al ze23 Z) Z ?_ ?_
 rintro _ _ _ - ⟨rfl,s5,rfl,rfl⟩
 refine⟨(Ss Z (Lb 4 pl3 Z Z Z) Z (Ss Z (Fa fo25_3 Z Z) Z (Ss Z (Lb 4 pl3 Z Z Z) Z (Ss Z (Fa fo25_2 Z Z) Z (Ss Z (Lb 4 pl3 Z Z Z) Z (Ss Z (Fa fo25_1 Z Z) Z trivial)))))), ?_⟩
 obtain ⟨s6,o0,h⟩:=bnd h
 refine WT.f1 (Ta Z (Cb co24 (f_wire_Int_ok i8 a0.Term _ _ _ h0 s6 o0) (args2 Z Z)) Z ?_ ?_)
 rintro _ z1 _ j0 ⟨_,⟨c9,o1,rfl,rfl,d0⟩,rfl⟩
 refine⟨(Sl Z), ?_⟩
 refine WT.a1 (WT.f1 (Ta Z (Es c9 [c9] d0.cells sz23 Z Z (Ow d0) Z Z Z) Z ?_ ?_))
 rintro _ _ _ - ⟨rfl,rfl⟩
 refine⟨(Sl Z), ?_⟩
 refine Ti (Qa (Qa (WQ.f4 (WQ.f4 (WQ.f4 ?_)))))
 obtain rfl:=oi h
 exact Tj ⟨s5,c9,o1,((a4.trans c6).trans j0),Z,Z,Z,Z,Z,d0⟩
 exact Tz
 exact Tz
 exact Tz
 have h:=n5
 refine Ta Z (Al ze23 Z) Z ?_ ?_
 rintro _ _ _ - ⟨rfl,s7,rfl,rfl⟩
 refine⟨(Ss Z (Lb 4 pl3 Z Z Z) Z (Ss Z (Fa fo25_3 Z Z) Z (Ss Z (Lb 4 pl3 Z Z Z) Z (Ss Z (Fa fo25_2 Z Z) Z (Ss Z (Lb 4 pl3 Z Z Z) Z (Ss Z (Fa fo25_1 Z Z) Z trivial)))))), ?_⟩
 obtain ⟨o2,o3,h⟩:=bnd h
 refine WT.f1 (Ta Z (Cb co24 (f_wire_Int_ok i7 a0.To _ _ _ g9 o2 o3) (args2 Z Z)) Z ?_ ?_)
 rintro _ z2 _ j1 ⟨_,⟨u2,u3,rfl,rfl,o4⟩,rfl⟩
 refine⟨(Ss Z (Lb 4 pl3 Z Z Z) Z (Ss Z (Fa fo25_3 Z Z) Z (Sl Z))), ?_⟩
 refine WT.a1 ?_
 obtain ⟨s8,o5,h⟩:=bnd h
 refine Ta Z (Cb co24 (f_wire_Int_ok o2 a0.Term _ _ _ o4 s8 o5) (args2 Z Z)) Z ?_ ?_
 rintro _ z3 _ j2 ⟨_,⟨d1,o6,rfl,rfl,d2⟩,rfl⟩
 refine⟨(Sl Z), ?_⟩
 refine WT.a1 (WT.f1 (Ta Z (Es d1 [d1] d2.cells sz23 Z Z (Ow d2) Z Z Z) Z ?_ ?_))
 rintro _ _ _ - ⟨rfl,rfl⟩
 refine⟨(Sl Z), ?_⟩
 refine Ti (Qa (Qa (WQ.f4 (WQ.f4 (WQ.f4 ?_)))))
 obtain rfl:=oi h
 exact Tj ⟨s7,d1,o6,((a4.trans j1).trans j2),Z,Z,Z,Z,Z,d2⟩
 exact Tz
 exact Tz
 exact Tz
 exact Tz
 have h:=n3
 refine Ta Z (Al ze23 Z) Z ?_ ?_
 rintro _ _ _ - ⟨rfl,s9,rfl,rfl⟩
 refine⟨(Ss Z (Lb 4 pl3 Z Z Z) Z (Ss Z (Fa fo25_3 Z Z) Z (Ss Z (Lb 4 pl3 Z Z Z) Z (Ss Z (Fa fo25_2 Z Z) Z (Ss Z (Lb 4 pl3 Z Z Z) Z (Ss Z (Fa fo25_1 Z Z) Z trivial)))))), ?_⟩
 obtain ⟨o7,o8,h⟩:=bnd h
 refine WT.e0 (Ta Z (Cb co24 (f_wire_Int_ok [] a0.From _ _ _ (OwnS.nil _ _) o7 o8) (args2 Z Z)) Z ?_ ?_)
 rintro _ z4 _ j3 ⟨_,⟨u4,u5,rfl,rfl,o9⟩,rfl⟩
 refine⟨(Ss Z (Lb 5 pl3 Z Z Z) Z (Ss Z (Fa fo25_3 Z Z) Z (Ss Z (Lb 5 pl3 Z Z Z) Z (Ss Z (Fa fo25_2 Z Z) Z (Sl Z))))), ?_⟩
 refine WT.a1 ?_
 obtain ⟨p0,p1,h⟩:=bnd h
 refine Ta Z (Cb co24 (f_wire_Int_ok o7 a0.To _ _ _ o9 p0 p1) (args2 Z Z)) Z ?_ ?_
 rintro _ z5 _ j4 ⟨_,⟨u6,u7,rfl,rfl,p2⟩,rfl⟩
 refine⟨(Ss Z (Lb 5 pl3 Z Z Z) Z (Ss Z (Fa fo25_3 Z Z) Z (Sl Z))), ?_⟩
 refine WT.a1 ?_
 obtain ⟨t0,p3,h⟩:=bnd h
 refine Ta Z (Cb co24 (f_wire_Int_ok p0 a0.Term _ _ _ p2 t0 p3) (args2 Z Z)) Z ?_ ?_
 rintro _ z6 _ j5 ⟨_,⟨d3,p4,rfl,rfl,d4⟩,rfl⟩
 refine⟨(Sl Z), ?_⟩
 refine WT.a1 (WT.f1 (Ta Z (Es d3 [d3] d4.cells sz23 Z Z (Ow d4) Z Z Z) Z ?_ ?_))
 rintro _ _ _ - ⟨rfl,rfl⟩
 refine⟨(Sl Z), ?_⟩
 refine Ti (Qb (Dr (Qa (Qa (WQ.f4 (WQ.f4 (WQ.f4 ?_)))))))
 obtain rfl:=oi h
 exact Tj ⟨s9,d3,p4,((j3.trans j4).trans j5),Z,Z,Z,Z,Z,d4⟩
 exact Tz
 exact Tz
 exact Tz
 exact Tz
 exact Tz
 rintro z7 t1 z8 ⟨a,V,b5,j6,rfl,N,b6,x,p,h1⟩
 have t2:=(c5.trans i6).trans j6
 refine Sr (qu (.func (.func 25) #[] #[(pt e 0),(pt a 0)]) (makeFunc2 (args0) (args2 (asE (Value.pointer (some ⟨e,0,none⟩)) x) (asE (Value.pointer (some ⟨a,0,none⟩)) p))) (qa (.func (.func 25) #[] #[(pt e 0),(pt a 0)]) (Nt ?_)))
 obtain ⟨e7,p5,h⟩:=bnd h
 refine Jf (fun(e7:(List Int)) ρ' M' H'=>∃ W b7,t1.le M'∧[(e, .cells #[(Iv k)] 3 (0,0))]::[(w, .cells #[(Iv 0),Zs] 29 (0,0))]::[(d, .cells (l25 a0 c f).toArray 25 (0,0))]::[(a, .cells #[W] 23 (0,0))]::b7::F=H'∧ρ' 1=(pt d 0)∧ρ' 2=(pt w 0)∧ρ' 5=(pt e 0)∧ρ' 6=(pt a 0)∧ρ' 7=(.func (.func 25) #[] #[(pt e 0),(pt a 0)])∧OwnS (Kd.int .u8) M' W e7 b7) e7 ?_ ?_
 have h:=p5
 refine Sr (qu (Iv k) (Lb 0 pl3 x Z Z) (qu (Iv (andI .i64 k (1:Int))) (PO.and Z Z) (qu (Bv (decide ((andI .i64 k (1:Int))≠0))) (neq Z Z) (Nt (Ch h Z (fun p6 h=> ?_) (fun p6 h=> ?_))))))
 refine Cg (qu V (Lb 3 pl23 p Z Z) (qu (pt d 4) (Fa fo25_4 N Z) (qu (Bv a0.Pre) (Lb 2 pl4 Z Z Z) ?_)))
 obtain ⟨t3,p7,h⟩:=bnd h
 refine WL.f4 (We (Cb co26 (f_wire_Flag_ok e6 a0.Pre _ _ _ h1 t3 p7) (args2 Z Z)) Z ?_)
 rintro _ z9 _ j7 ⟨_,⟨a5,j8,rfl,rfl,a6⟩,rfl⟩
 refine WL.a1 (WL.f4 (We (Es a5 [a5] a6.cells sz23 p Z (Ow a6) Z Z Z) Z ?_))
 rintro _ _ _ - ⟨rfl,rfl⟩
 refine Wz (Qa (Qa (WQ.f4 (WQ.f4 (WQ.f4 ?_)))))
 obtain rfl:=oi h
 exact Tj ⟨a5,j8,j7,Z,N,b6,x,p,Z,a6⟩
 refine Ck ?_
 obtain rfl:=oi h
 exact Tj ⟨V,b5,lr,Z,N,b6,x,p,Z,h1⟩
 rintro A0 t4 A1 ⟨W,b7,j9,rfl,O,b8,e8,y,b9,h2⟩
 have t5:=t2.trans j9
 obtain ⟨c0,k0,h⟩:=bnd h
 refine Jf (fun(c0:(List Int)) ρ' M' H'=>∃ a7 a8,t4.le M'∧[(e, .cells #[(Iv k)] 3 (0,0))]::[(w, .cells #[(Iv 0),Zs] 29 (0,0))]::[(d, .cells (l25 a0 c f).toArray 25 (0,0))]::[(a, .cells #[a7] 23 (0,0))]::a8::F=H'∧ρ' 1=(pt d 0)∧ρ' 2=(pt w 0)∧ρ' 6=(pt a 0)∧ρ' 7=(.func (.func 25) #[] #[(pt e 0),(pt a 0)])∧OwnS (Kd.int .u8) M' a7 c0 a8) c0 ?_ ?_
 have h:=k0
 refine Sr (qu (Iv k) (Lb 0 pl3 e8 Z Z) (qu (Iv (andI .i64 k (2:Int))) (PO.and Z Z) (qu (Bv (decide ((andI .i64 k (2:Int))≠0))) (neq Z Z) (Nt (Ch h Z (fun k1 h=> ?_) (fun k1 h=> ?_))))))
 refine Cg (qu W (Lb 3 pl23 y Z Z) (qu (pt d 5) (Fa fo25_5 O Z) (qu (Bv a0.Ok) (Lb 2 pl4 Z Z Z) ?_)))
 obtain ⟨p8,k2,h⟩:=bnd h
 refine WL.f4 (We (Cb co26 (f_wire_Flag_ok e7 a0.Ok _ _ _ h2 p8 k2) (args2 Z Z)) Z ?_)
 rintro _ u9 _ e9 ⟨_,⟨a9,k3,rfl,rfl,b0⟩,rfl⟩
 refine WL.a1 (WL.f4 (We (Es a9 [a9] b0.cells sz23 y Z (Ow b0) Z Z Z) Z ?_))
 rintro _ _ _ - ⟨rfl,rfl⟩
 refine Wz (Qa (Qa (WQ.f4 (WQ.f4 (WQ.f4 ?_)))))
 obtain rfl:=oi h
 exact Tj ⟨a9,k3,e9,Z,O,b8,y,b9,b0⟩
 refine Ck ?_
 obtain rfl:=oi h
 exact Tj ⟨W,b7,lr,Z,O,b8,y,b9,h2⟩
 rintro v0 v1 v2 ⟨a7,a8,f0,rfl,b,X,q,g,k4⟩
 have p9:=t5.trans f0
 refine Sr (qM (.func (.func 25) #[] #[(pt e 0),(pt a 0)]) g (qu (pt d 6) (Fa fo25_6 b Z) (qu (Iv a0.Leader) (Lb 2 pl3 Z Z Z) ?_)))
 obtain ⟨h3,k5,h⟩:=bnd h
 refine WL.f4 (WL.f4 (Wb (We (callV3 (first:=#[]) (cap:=#[(pt e 0),(pt a 0)]) co25 Z (f_rpc_Put_1_ok (4:Int) a0.Leader k c0 _ _ _ _ _ k4 h3 k5) (argsV2 Z Z Z)) Z ?_)))
 rintro _ v3 _ f5 ⟨_,⟨v4,v5,rfl,rfl,q0⟩,rfl⟩
 have q1:=p9.trans f5
 refine WL.a3 (Ns (qM (.func (.func 25) #[] #[(pt e 0),(pt a 0)]) g (qu (pt d 7) (Fa fo25_7 b Z) (qu (Iv a0.At) (Lb 4 pl3 Z Z Z) ?_))))
 obtain ⟨h4,k6,h⟩:=bnd h
 refine Wb (Wb (Wb (We (callV3 (first:=#[]) (cap:=#[(pt e 0),(pt a 0)]) co25 Z (f_rpc_Put_1_ok (8:Int) a0.At k h3 _ _ _ _ _ q0 h4 k6) (argsV2 Z Z Z)) Z ?_)))
 rintro _ v6 _ f7 ⟨_,⟨v7,v8,rfl,rfl,q2⟩,rfl⟩
 have q3:=q1.trans f7
 refine WL.a3 (Ns (qM (.func (.func 25) #[] #[(pt e 0),(pt a 0)]) g (qu (pt d 8) (Fa fo25_8 b Z) (qu (Iv a0.AtTerm) (Lb 4 pl3 Z Z Z) ?_))))
 obtain ⟨h5,k7,h⟩:=bnd h
 refine Wb (Wb (Wb (We (callV3 (first:=#[]) (cap:=#[(pt e 0),(pt a 0)]) co25 Z (f_rpc_Put_1_ok (8:Int) a0.AtTerm k h4 _ _ _ _ _ q2 h5 k7) (argsV2 Z Z Z)) Z ?_)))
 rintro _ v9 _ f8 ⟨_,⟨w0,w1,rfl,rfl,q4⟩,rfl⟩
 have q5:=q3.trans f8
 refine WL.a3 (Ns (qM (.func (.func 25) #[] #[(pt e 0),(pt a 0)]) g (qu (pt d 9) (Fa fo25_9 b Z) (qu (Iv a0.High) (Lb 4 pl3 Z Z Z) ?_))))
 obtain ⟨h6,k8,h⟩:=bnd h
 refine Wb (Wb (Wb (We (callV3 (first:=#[]) (cap:=#[(pt e 0),(pt a 0)]) co25 Z (f_rpc_Put_1_ok (16:Int) a0.High k h5 _ _ _ _ _ q4 h6 k8) (argsV2 Z Z Z)) Z ?_)))
 rintro _ w2 _ f9 ⟨_,⟨w3,w4,rfl,rfl,q6⟩,rfl⟩
 have q7:=q5.trans f9
 refine WL.a3 (Ns (qM (.func (.func 25) #[] #[(pt e 0),(pt a 0)]) g (qu (pt d 10) (Fa fo25_10 b Z) (qu (Iv a0.Code) (Lb 4 pl3 Z Z Z) ?_))))
 obtain ⟨h7,k9,h⟩:=bnd h
 refine Wb (Wb (Wb (We (callV3 (first:=#[]) (cap:=#[(pt e 0),(pt a 0)]) co25 Z (f_rpc_Put_1_ok (32:Int) a0.Code k h6 _ _ _ _ _ q6 h7 k9) (argsV2 Z Z Z)) Z ?_)))
 rintro _ w5 _ g0 ⟨_,⟨w6,w7,rfl,rfl,q8⟩,rfl⟩
 have q9:=q7.trans g0
 refine WL.a3 (Ns (qM (.func (.func 25) #[] #[(pt e 0),(pt a 0)]) g (qu (pt d 12) (Fa fo25_12 b Z) (qu (Iv a0.Size) (Lb 4 pl3 Z Z Z) ?_))))
 obtain ⟨h8,l0,h⟩:=bnd h
 refine Wb (Wb (Wb (We (callV3 (first:=#[]) (cap:=#[(pt e 0),(pt a 0)]) co25 Z (f_rpc_Put_1_ok (128:Int) a0.Size k h7 _ _ _ _ _ q8 h8 l0) (argsV2 Z Z Z)) Z ?_)))
 rintro _ w8 _ g1 ⟨_,⟨w9,x0,rfl,rfl,r0⟩,rfl⟩
 have r1:=q9.trans g1
 refine WL.a3 (Ns (qM (.func (.func 25) #[] #[(pt e 0),(pt a 0)]) g (qu (pt d 13) (Fa fo25_13 b Z) (qu (Iv a0.Pos) (Lb 4 pl3 Z Z Z) ?_))))
 obtain ⟨h9,l1,h⟩:=bnd h
 refine Wb (Wb (Wb (We (callV3 (first:=#[]) (cap:=#[(pt e 0),(pt a 0)]) co25 Z (f_rpc_Put_1_ok (256:Int) a0.Pos k h8 _ _ _ _ _ r0 h9 l1) (argsV2 Z Z Z)) Z ?_)))
 rintro _ r2 _ g2 ⟨_,⟨i0,r3,rfl,rfl,i1⟩,rfl⟩
 have i2:=r1.trans g2
 refine WL.a3 (Nt ?_)
 obtain ⟨c1,l2,h⟩:=bnd h
 refine Jf (fun(c1:(List Int)) ρ' M' H'=>∃ b1 b2,r2.le M'∧[(e, .cells #[(Iv k)] 3 (0,0))]::[(a, .cells #[b1] 23 (0,0))]::[(w, .cells #[(Iv 0),Zs] 29 (0,0))]::[(d, .cells (l25 a0 c f).toArray 25 (0,0))]::b2::F=H'∧ρ' 1=(pt d 0)∧ρ' 2=(pt w 0)∧ρ' 6=(pt a 0)∧ρ' 7=(.func (.func 25) #[] #[(pt e 0),(pt a 0)])∧OwnS (Kd.int .u8) M' b1 c1 b2) c1 ?_ ?_
 have h:=l2
 refine Sr (qu (pt d 0) (Fa fo25_0 b Z) (qu (Iv a0.Kind) (Lb 4 pl3 Z Z Z) (qu (Bv (decide (a0.Kind=8))) (eql Z Z) (Nt (Ch h Z (fun l3 h=> ?_) (fun l3 h=> ?_))))))
 refine Cg (qu i0 (Lb 1 pl23 q Z Z) (qu (pt d 14) (Fa fo25_14 b Z) (qu f (Lb 4 pl23 Z Z Z) ?_)))
 obtain ⟨r4,l4,h⟩:=bnd h
 refine Wb ?_
 have L:=L.mono i2
 refine We (Cb co27 (f_wire_Text_ok h9 a0.Data _ _ _ _ i1 L r4 l4) (args2 Z Z)) Z ?_
 rintro _ x1 _ g3 ⟨_,⟨b3,l5,rfl,rfl,b4⟩,rfl⟩
 refine WL.a1 (Wb (We (Es b3 [b3] b4.cells sz23 q Z (Ow b4) Z Z Z) Z ?_))
 rintro _ _ _ - ⟨rfl,rfl⟩
 refine Wz (Qa (WQ.f4 (WQ.f4 (WQ.f3 (WQ.f4 ?_)))))
 obtain rfl:=oi h
 exact Tj ⟨b3,l5,g3,Z,b,X,q,g,b4⟩
 refine Ck (Qb (WQ.f4 (WQ.f4 (WQ.f4 (WQ.f4 ?_)))))
 obtain rfl:=oi h
 exact Tj ⟨i0,r3,lr,Z,b,X,q,g,i1⟩
 rintro x2 x3 x4 ⟨b1,b2,g4,rfl,A,d5,d6,d7,l6⟩
 have i3:=i2.trans g4
 refine Sr (qM (.func (.func 25) #[] #[(pt e 0),(pt a 0)]) d7 (qu (pt d 11) (Fa fo25_11 A Z) (qu c (Lb 3 pl22 Z Z Z) ?_)))
 have m:=m.mono i3
 refine qu (Iv (a0.Batches.length:Int)) (lenS underlying22 Z m.len) ?_
 obtain ⟨r5,l7,h⟩:=bnd h
 refine WL.f4 (Wb (Wb (We (callV3 (first:=#[]) (cap:=#[(pt e 0),(pt a 0)]) co25 Z (f_rpc_Put_1_ok (64:Int) (a0.Batches.length:Int) k c1 _ _ _ _ _ l6 r5 l7) (argsV2 Z Z Z)) Z ?_)))
 rintro _ i4 _ c2 ⟨_,⟨r6,r7,rfl,rfl,r8⟩,rfl⟩
 have d8:=i3.trans c2
 refine WL.a3 (Nt ?_)
 obtain ⟨r9,l8,h⟩:=bnd h
 refine WC.joinE (fun(G:(List Int)) ρ' M' H'=>∃ i B,i4.le M'∧[(e, .cells #[(Iv k)] 3 (0,0))]::[(a, .cells #[i] 23 (0,0))]::[(w, .cells #[(Iv 0),Zs] 29 (0,0))]::[(d, .cells (l25 a0 c f).toArray 25 (0,0))]::B::F=H'∧ρ' 1=(pt d 0)∧ρ' 2=(pt w 0)∧ρ' 6=(pt a 0)∧OwnS (Kd.int .u8) M' i G B) r9 ?_ ?_
 have l9:=h
 have h:=l8
 refine Sr (qu (pt d 11) (Fa fo25_11 A Z) (qu c (Lb 4 pl22 Z Z Z) ?_))
 have m:=m.mono c2
 refine qu (Iv (a0.Batches.length:Int)) (lenS underlying22 Z m.len) (qm (Iv 0) (Nt (Bk (WC.f2 (WC.f4 (WC.f4 (WC.f4 (WC.f4 ?_))))))))
 obtain ⟨x5,m0,d9⟩:=bnd h
 clear h
 refine WC.loop m0 (fun(p_:(Int×(List Int))) ρ' M' H'=>match p_ with |(j,I)=>∃ C P,i4.le M'∧[(e, .cells #[(Iv k)] 3 (0,0))]::[(a, .cells #[C] 23 (0,0))]::[(w, .cells #[(Iv 0),Zs] 29 (0,0))]::[(d, .cells (l25 a0 c f).toArray 25 (0,0))]::P::F=H'∧ρ' 1=(pt d 0)∧ρ' 2=(pt w 0)∧ρ' 6=(pt a 0)∧ρ' 86=c∧ρ' 87=(Iv (a0.Batches.length:Int))∧ρ' 88=(Iv j)∧OwnS (Kd.int .u8) M' C I P) ?_ ?_
 exact⟨r6,r7,lr,Z,A,d5,d6,Z,Z,Z,r8⟩
 rintro ⟨j,I⟩ x6 x7 x8 x9 h ⟨C,P,z,rfl,Y,r,s,J,K,o,Q⟩
 unfold f_rpc_Put_l0 at h
 refine Sr (qu (Bv (decide (j<(a0.Batches.length:Int)))) (lss o K) (Nt (Cs (Ch h Z (fun m1 h=> ?_) (fun m1 h=> ?_)))))
 refine Ck (Tc (Cs (Bk (Sr (qM (Iv j) o ?_)))))
 obtain ⟨R,h⟩:=grd_i h
 have m:=m.mono z
 obtain ⟨s0,t6,g5,g6,hhas187⟩:=m.at R.1 R.2 (by decide)
 obtain ⟨l,rfl,a2⟩:=kd_api_Batch_open g6
 refine qu (.pointer (some s0)) (indexAddr (n:=a0.Batches.length) underlying22 sz55 J o R.1 R.2 g5) (qu (a55_ (rd a0.Batches j) l) (loadMA (cs:=(l55 (rd a0.Batches j) l)) ag55 sz55 Z hhas187) (We (Al ze55 Z) Z ?_))
 rintro _ _ _ - ⟨rfl,y0,rfl,rfl⟩
 refine qa (Iv j) (We (Sg (v:=(a55_ (rd a0.Batches j) l)) (vl:=(l55 (rd a0.Batches j) l)) (arr':=(l55 (rd a0.Batches j) l)) Z sz55 Z Z (onesOf (Oc Z (Oc Z (Oc (RS.one a2) Oz)))) Z Z Z) Z ?_)
 rintro _ _ _ - ⟨rfl,rfl⟩
 refine Ns (qu (a55_ (rd a0.Batches j) l) (La (cs:=(l55 (rd a0.Batches j) l)) 0 ag55 sz55 Z Z Z) ?_)
 obtain ⟨⟨e1,u⟩,m2,h⟩:=bnd h
 refine We (Ca co28 (f_batch_Put_ok (rd a0.Batches j) _ _ a2 (e1,u) m2) (args1 Z)) Z ?_
 rintro _ y1 _ S ⟨_,⟨T,t7,rfl,rfl,m3⟩,rfl⟩
 refine WL.a1 (qm (.tuple #[T,(GV u)]) (qu T (Xt Z Z) (qu (GV u) (Xt Z Z) (qa T (qa (GV u) (Nt (Cs (Sr (qm (GV u) (qu (Bv (!u.isNil)) (errNotNil underlying31 Z) (Nt ?_)))))))))))
 refine Ch h Z (fun m4 h=> ?_) (fun m4 h=> ?_)
 refine Sr (qu (.agg #[(Iv 0),Zs]) (Bl (cl:=[(Iv 0),Zs]) ze29 fp29 Pz Z) (qm (Iv j) (qm (GV u) ?_)))
 obtain ⟨e2,m5,h⟩:=bnd h
 refine We (Ca co29 (f_fault_Wrap_ok ⟨#[98,97,116,99,104]⟩ j u _ e2 m5) (args3 Z Z Z)) Z ?_
 rintro _ y2 _ g7 ⟨_,⟨rfl,rfl⟩,rfl⟩
 refine WL.a0 (WL.f4 (We (Sg (v:=(.agg #[(Iv 0),Zs])) (vl:=[(Iv 0),Zs]) (arr':=[(Iv 0),Zs]) Z sz29 r Z (onb Z) Z Z Z) Z ?_))
 rintro _ _ _ - ⟨rfl,rfl⟩
 refine qa (GV e2) (Nt (Cr (Tr (Br (Tr (WQ.leaveR (inr (e2,I)) (oi h).symm (fun U=> ?_)))))))
 subst U
 have h:=(elimR d9)
 refine Br (Tr ?_)
 have h:=KK.early h l9
 refine WQ.e0 (Qb (Dr (Qb (Dr (Qb (Dr (Qb (Dr (Qb (Dr (Qb ?_)))))))))))
 exact Dr (Qa (Rd h [[]] (fun _ hs=>hs.drop) (resultsLN Z (RVs.cons (Rc (cs:=[(Iv 0),Zs]) 0 ag29 sz29 r Z Z) (RVs.cons (RV.tmp Z) RVs.nil))) (((d8.trans z).trans S).trans g7) ⟨Zs,[],Z,Z,(OwnS.nil _ _)⟩))
 refine Ck (Tc (Cg (qu C (Lb 3 pl23 s Z Z) (qm T ?_))))
 obtain ⟨m6,h⟩:=grd_i h
 refine WL.f6 ?_
 have Q:=Q.mono S
 refine We (append (dd:=(Kd.int .u8)) (xs:=I) (ys:=e1) underlying23 underlying23 in5 Z (appB (by decide) m6) (by decide) Z Z Q (m3.src 1 Z)) Z ?_
 rintro e3 _ _ - ⟨rfl,s1,rfl,e4⟩
 refine WL.f4 (We (Es e3 [e3] e4.cells sz23 s Z (Ow e4) Z Z Z) Z ?_)
 rintro _ _ _ - ⟨rfl,rfl⟩
 refine Wz (Bn (Tc (Cg (qu (Iv (i64.wrap (j+1))) (add o Z) (qm (Iv (i64.wrap (j+1))) (Wz (Qb (Dr (Qb (Dr (Qa ?_)))))))))))
 exact WQ.f4 (WQ.f4 (WQ.f3 (WQ.f4 (WQ.again (i64.wrap (j+1),I++e1) (oi h).symm ⟨e3,s1,(z.trans S),Z,Y,r,s,J,K,Z,e4⟩))))
 refine WC.exit (WQ.thenE (WQ.leaveE (inl I) (oi h).symm (fun U=> ?_)))
 subst U
 have h:=elimL d9
 exact WQ.blockH (WQ.thenFE h ⟨C,P,z,Z,Y,r,s,Q⟩)
 rintro G y3 y4 y5 rfl ⟨i,B,c3,rfl,e5,t,D,E⟩
 have h:=(Sum.elim_inl _ _ _).symm.trans h
 refine Cs (Sr (qu i (Lb 1 pl23 D Z Z) (qu (Iv (G.length:Int)) (lenS underlying23 Z E.len) (qu (Bv (decide ((16384:Int)<(G.length:Int)))) (gtr Z Z) (Nt (Ch h Z (fun m7 h=> ?_) (fun m7 h=> ?_)))))))
 refine Sr (qu (.agg #[(Iv 0),Zs]) (Bl (cl:=[(Iv 0),Zs]) ze29 fp29 Pz Z) (qu i (Lb 1 pl23 D Z Z) (qu (Iv (G.length:Int)) (lenS underlying23 Z E.len) ?_)))
 obtain ⟨i5,m8,h⟩:=bnd h
 refine We (Ca co30 (f_fault_New_ok ⟨#[109,101,115,115,97,103,101]⟩ (G.length:Int) (6:Int) _ i5 m8) (args3 Z Z Z)) Z ?_
 rintro _ y6 _ g8 ⟨_,⟨rfl,rfl⟩,rfl⟩
 refine WL.a0 (Wb (We (Sg (v:=(.agg #[(Iv 0),Zs])) (vl:=[(Iv 0),Zs]) (arr':=[(Iv 0),Zs]) Z sz29 t Z (onb Z) Z Z Z) Z ?_))
 rintro _ _ _ - ⟨rfl,rfl⟩
 refine qa (GV i5) (Nt (Cr (Tr (WQ.e0 (Qb (Dr (Qb (Dr (Qb (Dr (Qb ?_)))))))))))
 exact Dr (Qa (Rd h [[]] (fun _ hs=>hs.drop) (resultsLN Z (RVs.cons (Rc (cs:=[(Iv 0),Zs]) 0 ag29 sz29 t Z Z) (RVs.cons (RV.tmp Z) RVs.nil))) ((d8.trans c3).trans g8) ⟨Zs,[],Z,Z,(OwnS.nil _ _)⟩))
 refine Ck (Tc (Sr (qu (pt d 0) (Fa fo25_0 e5 Z) (qu (Iv a0.Kind) (Lb 3 pl3 Z Z Z) (qu i (Lb 1 pl23 D Z Z) (qu (.agg #[(Iv a0.Kind),i]) (Bl (cl:=[(Iv a0.Kind),i]) ze29 fp29 (Pc (Iv a0.Kind) Z Z (Parts.cons ((congrArg Value.cells (show ev _ _=i from Z)).trans E.cells) Pz)) Z) (Wb (We (Sg (v:=(.agg #[(Iv a0.Kind),i])) (vl:=[(Iv a0.Kind),i]) (arr':=[(Iv a0.Kind),i]) Z sz29 t Z (onesOf (Oc Z (Oc (Ow E) Oz))) Z Z Z) Z ?_))))))))
 rintro _ _ _ - ⟨rfl,rfl⟩
 exact qa (GV GErr.nil) (Nt (Cr (Qa (Dr (Qa (Dr (Qa (Dr (Rd h [B] (fun _ hs=>hs.drop) (resultsLN Z (RVs.cons (Rc (cs:=[(Iv a0.Kind),i]) 0 ag29 sz29 t Z Z) (RVs.cons (RV.tmp Z) RVs.nil))) (d8.trans c3) ⟨i,B,Z,Z,E⟩)))))))))
noncomputable def f_wire_Read (a0:(List Int)):Option T_wire_Reader:=
 (some (⟨a0,(0:Int),GErr.nil⟩:T_wire_Reader))
def f_wire_Read_post (a0:(List Int)) (e:Value):T_wire_Reader→Value→IM→HL→Prop:=
 fun(c:T_wire_Reader) (v:Value) (M':IM) (H':HL)=>∃ d a,(.pointer (some ⟨d,0,none⟩))=v∧H'=[[(d, .cells #[a,(.int .i64 c.at_),(GV c.err)] 110 (0,0))]]∧RS (Kd.int .u8) M' a c.b
theorem f_wire_Read_ok (a0:(List Int)) (M:IM) (a:Value) (c:RS (Kd.int .u8) M a a0) (res:T_wire_Reader) (h:f_wire_Read a0=some res):
 Tri prog 31 #[a] M [] (f_wire_Read_post a0 a res):=by
 unfold f_wire_Read at h
 refine Te func31 Z Z ?_
 intro F ρ hρ
 refine Sr (qa (.pointer none) (Ns (qM a (hρ 0) (qu (.agg #[a,(Iv 0),(GV GErr.nil)]) (Bl (cl:=[a,(Iv 0),(GV GErr.nil)]) ze110 fp110 (Parts.cons ((congrArg Value.cells (show ev _ _=a from Z)).trans c.cells) Pz) Z) (We (box (cs:=#[a,(Iv 0),(GV GErr.nil)]) (congrArg Value.cells (show ev _ _=(.agg #[a,(Iv 0),(GV GErr.nil)]) from Z))) Z ?_)))))
 rintro _ _ _ - ⟨rfl,b,rfl,rfl⟩
 exact qa (pt b 0) (Nt (Cr (Rf h [[(b, .cells #[a,(Iv 0),(GV GErr.nil)] 110 (0,0))]] Z (Rs Z Z) lr ⟨b,a,Z,Z,c⟩)))
noncomputable def f_wire_Reader_fail (a0:T_wire_Reader) (a1:ByteArray) (a2:Int) (a3:Int):Option GErr:=
 (if a0.err.isNil=true then((f_fault_New a1 a2 a3).bind fun a=>(some a))else(some a0.err))
def f_wire_Reader_fail_post (a0:T_wire_Reader) (a1:ByteArray) (a2:Int) (a3:Int) (a:Value) (b:Nat):GErr→Value→IM→HL→Prop:=
 fun(c:GErr) (v:Value) (M':IM) (H':HL)=>(.tuple #[])=v∧H'=[[(b, .cells #[a,(.int .i64 a0.at_),(GV c)] 110 (0,0))]]
theorem f_wire_Reader_fail_ok (a0:T_wire_Reader) (a1:ByteArray) (a2:Int) (a3:Int) (M:IM) (a:Value) (c:Nat) (i:RS (Kd.int .u8) M a a0.b) (res:GErr) (h:f_wire_Reader_fail a0 a1 a2 a3=some res):
 Tri prog 69 #[(pt c 0),(Sv a1),(Iv a2),(Iv a3)] M [[(c, .cells #[a,(Iv a0.at_),(GV a0.err)] 110 (0,0))]] (f_wire_Reader_fail_post a0 a1 a2 a3 a c res):=by
 unfold f_wire_Reader_fail at h
 refine Te func69 Z Z ?_
 intro F ρ hρ
 refine Sr (qM (pt c 0) (hρ 0) (qu (pt c 0) (Nk Z) (qu (pt c 2) (Fa fo110_2 Z Z) (qu (GV a0.err) (Lb 0 pl31 Z Z Z) (qu (Bv a0.err.isNil) (errNil underlying31 Z) (Nt (Ch h Z (fun f h=> ?_) (fun f h=> ?_))))))))
 refine Cg (qM (pt c 0) (hρ 0) (qM (Sv a1) (hρ 1) (qM (Iv a2) (hρ 2) (qM (Iv a3) (hρ 3) ?_))))
 obtain ⟨d,g,h⟩:=bnd h
 refine We (Ca co30 (f_fault_New_ok a1 a2 a3 _ d g) (args3 Z Z Z)) Z ?_
 rintro _ j _ e ⟨_,⟨rfl,rfl⟩,rfl⟩
 refine WL.a0 (qu (pt c 0) (Nk Z) (qu (pt c 2) (Fa fo110_2 Z Z) (We (Es (GV d) [a,(Iv a0.at_),(GV d)] (GErr.val_cells _ _ _ _) sz31 Z Z (GErr.val_one _ _ _ _) Z Z Z) Z ?_)))
 rintro _ _ _ - ⟨rfl,rfl⟩
 exact Wz (WQ.endsF h [[(c, .cells #[a,(Iv a0.at_),(GV d)] 110 (0,0))]] Z (results0 Z) e ⟨Z,Z⟩)
 exact Ck (WQ.endsF h [[(c, .cells #[a,(Iv a0.at_),(GV a0.err)] 110 (0,0))]] Z (results0 Z) lr ⟨Z,Z⟩)
noncomputable def f_wire_Reader_Num_1 (a0:Int) (a1:(List Int)) (a2:Int):Option (Int×Int):=
 (grd (0≤a2∧a2<a1.length) (some (orI .u64 (shlI .u64 a0 (8:Int)) (u64.wrap (rd a1 a2)),i64.wrap (a2+(1:Int)))))
def f_wire_Reader_Num_1_post (a0:Int) (a1:(List Int)) (a2:Int) (a:Value) (b c d:Nat):(Int×Int)→Value→IM→HL→Prop:=
 fun(p_:(Int×Int)) (v:Value) (M':IM) (H':HL)=>match p_ with |(e,f)=>(.tuple #[])=v∧H'=[[(b, .cells #[(.int .u64 e)] 105 (0,0))],[(c, .cells #[a] 23 (0,0))],[(d, .cells #[(.int .i64 f)] 3 (0,0))]]
theorem f_wire_Reader_Num_1_ok (a0:Int) (a1:(List Int)) (a2:Int) (M:IM) (d:Value) (e f g:Nat) (k:RS (Kd.int .u8) M d a1) (res:(Int×Int)) (h:f_wire_Reader_Num_1 a0 a1 a2=some res):
 Tri prog 98 #[(pt e 0),(pt f 0),(pt g 0)] M [[(e, .cells #[(Uv a0)] 105 (0,0))],[(f, .cells #[d] 23 (0,0))],[(g, .cells #[(Iv a2)] 3 (0,0))]] (f_wire_Reader_Num_1_post a0 a1 a2 d e f g res):=by
 unfold f_wire_Reader_Num_1 at h
 refine Te func98 Z Z ?_
 intro F ρ hρ
 refine Cs (WC.draw [0,1,0,0,12,28,60,127,255] (.pure 0 (.pure 1 (.pure 2 (.pure 3 (.pure 4 (.pure 5 (.pure 6 (.pure 7 (.alt 8 .done .none))))))))) mixed (by kernel_rfl) (qt (Uv a0) Z (Lb 0 pl105 (hρ 0) Z Z) (qt (Uv (shlI .u64 a0 (8:Int))) Z (shl Z Z (by decide)) (qt d Z (Lb 1 pl23 (hρ 1) Z Z) (qt (Iv a2) Z (Lb 2 pl3 (hρ 2) Z Z) ?_)))))
 obtain ⟨a,h⟩:=grd_i h
 obtain ⟨i,j,b,c,hhas26⟩:=k.at a.1 a.2 (by decide)
 obtain rfl:=c
 refine qt (.pointer (some i)) Z (indexAddr (n:=a1.length) underlying23 sz5 Z Z a.1 a.2 b) (qt (Yv (rd a1 a2)) Z (loadM pl5 Z (IM.has0 hhas26)) (qt (Uv (u64.wrap (rd a1 a2))) Z (conv us5 underlying105 Z) (qt (Uv (orI .u64 (shlI .u64 a0 (8:Int)) (u64.wrap (rd a1 a2)))) Z (PO.or Z Z) (Ta Z (Es (Uv (orI .u64 (shlI .u64 a0 (8:Int)) (u64.wrap (rd a1 a2)))) [(Uv (orI .u64 (shlI .u64 a0 (8:Int)) (u64.wrap (rd a1 a2))))] Z sz105 (hρ 0) Z Z Z Z Z) Z ?_ ?_))))
 rintro _ _ _ - ⟨rfl,rfl⟩
 refine⟨(Sl Z), ?_⟩
 refine Ti (Tc (Cg (qu (Iv a2) (Lb 2 pl3 (hρ 2) Z Z) (qu (Iv (i64.wrap (a2+1))) (add Z Z) (Wb (We (Es (Iv (i64.wrap (a2+1))) [(Iv (i64.wrap (a2+1)))] Z sz3 (hρ 2) Z Z Z Z Z) Z ?_))))))
 rintro _ _ _ - ⟨rfl,rfl⟩
 exact Wz (Qb (Qb (WQ.endsF h [[(e, .cells #[(Uv (orI .u64 (shlI .u64 a0 (8:Int)) (u64.wrap (rd a1 a2))))] 105 (0,0))],[(f, .cells #[d] 23 (0,0))],[(g, .cells #[(Iv (i64.wrap (a2+1)))] 3 (0,0))]] Z (results0 Z) lr ⟨Z,Z⟩)))
 exact Tz
noncomputable def f_wire_Reader_Num (a0:T_wire_Reader) (a1:Int):Option (Int×Int×GErr):=
 (if(!a0.err.isNil)=true then(some ((0:Int),a0.at_,a0.err))else(grd (0≤a0.at_∧a0.at_≤(a0.b.length:Int)∧(a0.b.length:Int)≤(a0.b.length:Int)) (if(decide (((sub a0.b a0.at_ (a0.b.length:Int)).length:Int)=(0:Int)))=true then((f_wire_Reader_fail a0 (⟨#[110,117,109]⟩:ByteArray) a0.at_ (3:Int)).bind fun e=>(some ((0:Int),a0.at_,e)))else(grd (0≤(0:Int)∧(0:Int)<(sub a0.b a0.at_ (a0.b.length:Int)).length) (grd (0≤shrI .u8 (rd (sub a0.b a0.at_ (a0.b.length:Int)) (0:Int)) (6:Int)) (if(decide (((sub a0.b a0.at_ (a0.b.length:Int)).length:Int)<(shlI .i64 (1:Int) (shrI .u8 (rd (sub a0.b a0.at_ (a0.b.length:Int)) (0:Int)) (6:Int)))))=true then((f_wire_Reader_fail a0 (⟨#[110,117,109]⟩:ByteArray) a0.at_ (3:Int)).bind fun f=>(some ((0:Int),a0.at_,f)))else(grd (0≤(0:Int)∧(0:Int)<(sub a0.b a0.at_ (a0.b.length:Int)).length) (((((((if(decide ((shlI .i64 (1:Int) (shrI .u8 (rd (sub a0.b a0.at_ (a0.b.length:Int)) (0:Int)) (6:Int)))=(8:Int)))=true then((f_wire_Reader_Num_1 (u64.wrap (andI .u8 (rd (sub a0.b a0.at_ (a0.b.length:Int)) (0:Int)) (63:Int))) (sub a0.b a0.at_ (a0.b.length:Int)) (1:Int)).bind fun(g,i)=>((f_wire_Reader_Num_1 g (sub a0.b a0.at_ (a0.b.length:Int)) i).bind fun(j,k)=>((f_wire_Reader_Num_1 j (sub a0.b a0.at_ (a0.b.length:Int)) k).bind fun(l,m)=>((f_wire_Reader_Num_1 l (sub a0.b a0.at_ (a0.b.length:Int)) m).bind fun(n,o)=>(some (inl (u64.wrap ((0:Int)+(1073725440:Int)),o,n)))))))else(if(decide ((shlI .i64 (1:Int) (shrI .u8 (rd (sub a0.b a0.at_ (a0.b.length:Int)) (0:Int)) (6:Int)))=(4:Int)))=true then(some (inl ((0:Int),(1:Int),u64.wrap (andI .u8 (rd (sub a0.b a0.at_ (a0.b.length:Int)) (0:Int)) (63:Int)))))else(if(decide ((shlI .i64 (1:Int) (shrI .u8 (rd (sub a0.b a0.at_ (a0.b.length:Int)) (0:Int)) (6:Int)))=(2:Int)))=true then(((some (inl ((0:Int),(1:Int),u64.wrap (andI .u8 (rd (sub a0.b a0.at_ (a0.b.length:Int)) (0:Int)) (63:Int)))))).bind fun r=>some (inr r))else(((((some ((0:Int),(1:Int),u64.wrap (andI .u8 (rd (sub a0.b a0.at_ (a0.b.length:Int)) (0:Int)) (63:Int))))).bind fun r=>some (inr r))).bind fun r=>some (inr r))))):Option ((Int×Int×Int)⊕((Int×Int×Int)⊕(Int×Int×Int)))).bind (Sum.elim (fun(p,q,s)=>((f_wire_Reader_Num_1 s (sub a0.b a0.at_ (a0.b.length:Int)) q).bind fun(t,u)=>((f_wire_Reader_Num_1 t (sub a0.b a0.at_ (a0.b.length:Int)) u).bind fun(v,w)=>(some (inl (u64.wrap (p+(16320:Int)),w,v)))))) some)):Option ((Int×Int×Int)⊕(Int×Int×Int))).bind (Sum.elim (fun(x,y,z)=>((f_wire_Reader_Num_1 z (sub a0.b a0.at_ (a0.b.length:Int)) y).bind fun(A,B)=>(some (u64.wrap (x+(64:Int)),B,A)))) some)):Option (Int×Int×Int)).bind fun(C,D,a)=>(if(decide (a<C))=true then((f_wire_Reader_fail a0 (⟨#[110,117,109]⟩:ByteArray) a0.at_ (5:Int)).bind fun c=>(some ((0:Int),a0.at_,c)))else(if(decide (a1<a))=true then((f_wire_Reader_fail a0 (⟨#[110,117,109]⟩:ByteArray) a0.at_ (6:Int)).bind fun d=>(some ((0:Int),a0.at_,d)))else(some (a,i64.wrap (a0.at_+(shlI .i64 (1:Int) (shrI .u8 (rd (sub a0.b a0.at_ (a0.b.length:Int)) (0:Int)) (6:Int)))),a0.err))))))))))))
def f_wire_Reader_Num_post (a0:T_wire_Reader) (a1:Int) (a:Value) (b:Nat):(Int×Int×GErr)→Value→IM→HL→Prop:=
 fun(p_:(Int×Int×GErr)) (v:Value) (M':IM) (H':HL)=>match p_ with |(c,d,e)=>(.int .u64 c)=v∧H'=[[(b, .cells #[a,(.int .i64 d),(GV e)] 110 (0,0))]]
theorem f_wire_Reader_Num_ok (a0:T_wire_Reader) (a1:Int) (M:IM) (a:Value) (e:Nat) (i:RS (Kd.int .u8) M a a0.b) (res:(Int×Int×GErr)) (h:f_wire_Reader_Num a0 a1=some res):
 Tri prog 68 #[(pt e 0),(Uv a1)] M [[(e, .cells #[a,(Iv a0.at_),(GV a0.err)] 110 (0,0))]] (f_wire_Reader_Num_post a0 a1 a e res):=by
 unfold f_wire_Reader_Num at h
 refine Te func68 Z Z ?_
 intro F ρ hρ
 refine Sr (qa (Uv 0) (Nt (Cs (Sr (qM (pt e 0) (hρ 0) (qu (pt e 0) (Nk Z) (qu (pt e 2) (Fa fo110_2 Z Z) (qu (GV a0.err) (Lb 0 pl31 Z Z Z) (qu (Bv (!a0.err.isNil)) (errNotNil underlying31 Z) (Nt (Ch h Z (fun b9 h=> ?_) (fun b9 h=> ?_))))))))))))
 exact Sr (qa (Uv 0) (Nt (Cr (Tr (Rf h [[(e, .cells #[a,(Iv a0.at_),(GV a0.err)] 110 (0,0))]] Z (Rs Z Z) lr ⟨Z,Z⟩)))))
 refine Ck (Tc (Cs (WC.draw [0,1,3,7,0,16,48,112,255,0,1023] (.pure 0 (.pure 1 (.pure 2 (.pure 3 (.pure 4 (.pure 5 (.pure 6 (.pure 7 (.pure 8 (.alt 9 (.alt 10 .done .none) .none)))))))))) mixed (by kernel_rfl) (qt (pt e 0) Z (Mv (hρ 0)) (qt (pt e 0) Z (Nk Z) (qt (pt e 0) Z (Fa fo110_0 Z Z) (qt a Z (Lb 0 pl23 Z Z Z) (qt (pt e 0) Z (Mv (hρ 0)) (qt (pt e 0) Z (Nk Z) (qt (pt e 1) Z (Fa fo110_1 Z Z) (qt (Iv a0.at_) Z (Lb 0 pl3 Z Z Z) ?_)))))))))))
 obtain ⟨j,h⟩:=grd_i h
 have c:=i.sub j.1 j.2.1 j.2.2
 refine qt (slV a 1 (a0.at_).toNat ((a0.b.length:Int)).toNat) Z (slice (n:=a0.b.length) (l:=(a0.at_).toNat) (h:=((a0.b.length:Int)).toNat) underlying23 sz5 Z i.len i.cap ⟨_,_,Z,j.1,Z⟩ (boundN_ Z) (Int.toNat_le_toNat j.2.1) (toNat_le_len j.2.2)) (Ta Z (Al ze23 Z) Z ?_ ?_)
 rintro _ _ _ - ⟨rfl,f,rfl,rfl⟩
 refine⟨(Ss Z (slice (n:=a0.b.length) (l:=(a0.at_).toNat) (h:=((a0.b.length:Int)).toNat) underlying23 sz5 Z i.len i.cap ⟨_,_,Z,j.1,Z⟩ (boundN_ Z) (Int.toNat_le_toNat j.2.1) (toNat_le_len j.2.2)) Z (Ss Z (Lb 1 pl3 Z Z Z) Z (Ss Z (Fa fo110_1 Z Z) Z (Ss Z (Nk Z) Z (Ss Z (Mv (hρ 0)) Z (Ss Z (Lb 1 pl23 Z Z Z) Z (Ss Z (Fa fo110_0 Z Z) Z (Ss Z (Nk Z) Z (Ss Z (Mv (hρ 0)) Z trivial))))))))), ?_⟩
 refine Ta Z (Es (slV a 1 (a0.at_).toNat ((a0.b.length:Int)).toNat) [(slV a 1 (a0.at_).toNat ((a0.b.length:Int)).toNat)] c.cells sz23 Z Z (RS.one c) Z Z Z) Z ?_ ?_
 rintro _ _ _ - ⟨rfl,rfl⟩
 refine⟨(Sl Z), ?_⟩
 refine Ti (Tc (Cs (Sr (qu (slV a 1 (a0.at_).toNat ((a0.b.length:Int)).toNat) (Lb 0 pl23 Z Z Z) (qu (Iv ((sub a0.b a0.at_ (a0.b.length:Int)).length:Int)) (lenS underlying23 Z c.len) (qu (Bv (decide (((sub a0.b a0.at_ (a0.b.length:Int)).length:Int)=(0:Int)))) (eql Z Z) (Nt (Ch h Z (fun c0 h=> ?_) (fun c0 h=> ?_)))))))))
 refine Sr (qM (pt e 0) (hρ 0) (qM (pt e 0) (hρ 0) (qu (pt e 0) (Nk Z) (qu (pt e 1) (Fa fo110_1 Z Z) (qu (Iv a0.at_) (Lb 1 pl3 Z Z Z) ?_)))))
 obtain ⟨c1,c2,h⟩:=bnd h
 refine WL.f1 (We (Cb co69 (f_wire_Reader_fail_ok a0 (⟨#[110,117,109]⟩:ByteArray) a0.at_ (3:Int) _ _ _ i c1 c2) (args4 Z Z Z Z)) Z ?_)
 rintro _ g9 _ a2 ⟨_,⟨rfl,rfl⟩,rfl⟩
 exact WL.a1 (Ns (qa (Uv 0) (Nt (Cr (Tr (Qa (Dr (Rf h [[(e, .cells #[a,(Iv a0.at_),(GV c1)] 110 (0,0))]] Z (Rs Z Z) a2 ⟨Z,Z⟩))))))))
 refine Ck (Tc (Sr (qu (slV a 1 (a0.at_).toNat ((a0.b.length:Int)).toNat) (Lb 0 pl23 Z Z Z) ?_)))
 obtain ⟨r,h⟩:=grd_i h
 obtain ⟨f2,g4,a4,a5,hhas35⟩:=c.at r.1 r.2 (by decide)
 obtain rfl:=a5
 refine qu (.pointer (some f2)) (indexAddr (n:=(sub a0.b a0.at_ (a0.b.length:Int)).length) underlying23 sz5 Z Z r.1 r.2 a4) (qu (Yv (rd (sub a0.b a0.at_ (a0.b.length:Int)) (0:Int))) (loadM pl5 Z (IM.has0 hhas35)) (qu (Yv (shrI .u8 (rd (sub a0.b a0.at_ (a0.b.length:Int)) (0:Int)) (6:Int))) (shr Z Z (by decide)) ?_))
 obtain ⟨c3,h⟩:=grd_i h
 refine qu (Iv (shlI .i64 1 (shrI .u8 (rd (sub a0.b a0.at_ (a0.b.length:Int)) (0:Int)) (6:Int)))) (shl Z Z c3) (qa (Iv (shlI .i64 1 (shrI .u8 (rd (sub a0.b a0.at_ (a0.b.length:Int)) (0:Int)) (6:Int)))) (Nt (Cs (Sr (qu (slV a 1 (a0.at_).toNat ((a0.b.length:Int)).toNat) (Lb 0 pl23 Z Z Z) (qu (Iv ((sub a0.b a0.at_ (a0.b.length:Int)).length:Int)) (lenS underlying23 Z c.len) (qm (Iv (shlI .i64 1 (shrI .u8 (rd (sub a0.b a0.at_ (a0.b.length:Int)) (0:Int)) (6:Int)))) (qu (Bv (decide (((sub a0.b a0.at_ (a0.b.length:Int)).length:Int)<(shlI .i64 1 (shrI .u8 (rd (sub a0.b a0.at_ (a0.b.length:Int)) (0:Int)) (6:Int)))))) (lss Z Z) (Nt (Ch h Z (fun c4 h=> ?_) (fun c4 h=> ?_)))))))))))
 refine Sr (qM (pt e 0) (hρ 0) (qM (pt e 0) (hρ 0) (qu (pt e 0) (Nk Z) (qu (pt e 1) (Fa fo110_1 Z Z) (qu (Iv a0.at_) (Lb 1 pl3 Z Z Z) ?_)))))
 obtain ⟨c5,c6,h⟩:=bnd h
 refine WL.f1 (We (Cb co69 (f_wire_Reader_fail_ok a0 (⟨#[110,117,109]⟩:ByteArray) a0.at_ (3:Int) _ _ _ i c5 c6) (args4 Z Z Z Z)) Z ?_)
 rintro _ h0 _ a6 ⟨_,⟨rfl,rfl⟩,rfl⟩
 exact WL.a1 (Ns (qa (Uv 0) (Nt (Cr (Tr (Qa (Dr (Rf h [[(e, .cells #[a,(Iv a0.at_),(GV c5)] 110 (0,0))]] Z (Rs Z Z) a6 ⟨Z,Z⟩))))))))
 refine Ck (Tc (Sr (qu (slV a 1 (a0.at_).toNat ((a0.b.length:Int)).toNat) (Lb 0 pl23 Z Z Z) ?_)))
 obtain ⟨s,h⟩:=grd_i h
 obtain ⟨f4,g5,a7,a8,hhas48⟩:=c.at s.1 s.2 (by decide)
 obtain rfl:=a8
 refine qu (.pointer (some f4)) (indexAddr (n:=(sub a0.b a0.at_ (a0.b.length:Int)).length) underlying23 sz5 Z Z s.1 s.2 a7) (qu (Yv (rd (sub a0.b a0.at_ (a0.b.length:Int)) (0:Int))) (loadM pl5 Z (IM.has0 hhas48)) (qu (Yv (andI .u8 (rd (sub a0.b a0.at_ (a0.b.length:Int)) (0:Int)) (63:Int))) (PO.and Z Z) (qu (Uv (u64.wrap (andI .u8 (rd (sub a0.b a0.at_ (a0.b.length:Int)) (0:Int)) (63:Int)))) (conv us5 underlying105 Z) (We (Al ze105 Z) Z ?_))))
 rintro _ _ _ - ⟨rfl,d,rfl,rfl⟩
 refine We (Al ze3 Z) Z ?_
 rintro _ _ _ - ⟨rfl,g,rfl,rfl⟩
 refine WL.f1 (We (Es (Uv (u64.wrap (andI .u8 (rd (sub a0.b a0.at_ (a0.b.length:Int)) (0:Int)) (63:Int)))) [(Uv (u64.wrap (andI .u8 (rd (sub a0.b a0.at_ (a0.b.length:Int)) (0:Int)) (63:Int))))] Z sz105 Z Z Z Z Z Z) Z ?_)
 rintro _ _ _ - ⟨rfl,rfl⟩
 refine WL.f1 (We (Es (Iv 1) [(Iv 1)] Z sz3 Z Z Z Z Z Z) Z ?_)
 rintro _ _ _ - ⟨rfl,rfl⟩
 refine Ns (qu (.func (.func 98) #[] #[(pt d 0),(pt f 0),(pt g 0)]) (makeFunc2 (args0) (args3 (show ev _ _=(pt d 0) from Z) (show ev _ _=(pt f 0) from Z) (show ev _ _=(pt g 0) from Z))) (qa (.func (.func 98) #[] #[(pt d 0),(pt f 0),(pt g 0)]) (Ns (qa (Uv 0) (Nt ?_)))))
 obtain ⟨c7,c8,h⟩:=bnd h
 refine Jf (fun(p_:(Int×Int×Int)) ρ' M' H'=>match p_ with |(t,c9,o)=>M.le M'∧[(g, .cells #[(Iv c9)] 3 (0,0))]::[(d, .cells #[(Uv o)] 105 (0,0))]::[(f, .cells #[(slV a 1 (a0.at_).toNat ((a0.b.length:Int)).toNat)] 23 (0,0))]::[(e, .cells #[a,(Iv a0.at_),(GV a0.err)] 110 (0,0))]::F=H'∧ρ' 0=(pt e 0)∧ρ' 1=(Uv a1)∧ρ' 6=(Iv (shlI .i64 1 (shrI .u8 (rd (sub a0.b a0.at_ (a0.b.length:Int)) (0:Int)) (6:Int))))∧ρ' 7=(pt d 0)∧ρ' 10=(Uv t)) c7 ?_ ?_
 have h:=c8
 refine Sr (qm (Iv (shlI .i64 1 (shrI .u8 (rd (sub a0.b a0.at_ (a0.b.length:Int)) (0:Int)) (6:Int)))) (Nt (Bk ?_)))
 obtain ⟨f5,d0,h⟩:=bnd h
 refine WC.joinE (fun(p_:(Int×Int×Int)) ρ' M' H'=>match p_ with |(u,a9,b0)=>M.le M'∧[(g, .cells #[(Iv a9)] 3 (0,0))]::[(d, .cells #[(Uv b0)] 105 (0,0))]::[(f, .cells #[(slV a 1 (a0.at_).toNat ((a0.b.length:Int)).toNat)] 23 (0,0))]::[(e, .cells #[a,(Iv a0.at_),(GV a0.err)] 110 (0,0))]::F=H'∧ρ' 0=(pt e 0)∧ρ' 1=(Uv a1)∧ρ' 6=(Iv (shlI .i64 1 (shrI .u8 (rd (sub a0.b a0.at_ (a0.b.length:Int)) (0:Int)) (6:Int))))∧ρ' 7=(pt d 0)∧ρ' 9=(.func (.func 98) #[] #[(pt d 0),(pt f 0),(pt g 0)])∧ρ' 10=(Uv u)) f5 ?_ ?_
 have d1:=h
 have h:=d0
 refine Bk ?_
 obtain ⟨f6,d2,h⟩:=bnd h
 refine WC.joinE (fun(p_:(Int×Int×Int)) ρ' M' H'=>match p_ with |(v,b1,b2)=>M.le M'∧[(g, .cells #[(Iv b1)] 3 (0,0))]::[(d, .cells #[(Uv b2)] 105 (0,0))]::[(f, .cells #[(slV a 1 (a0.at_).toNat ((a0.b.length:Int)).toNat)] 23 (0,0))]::[(e, .cells #[a,(Iv a0.at_),(GV a0.err)] 110 (0,0))]::F=H'∧ρ' 0=(pt e 0)∧ρ' 1=(Uv a1)∧ρ' 6=(Iv (shlI .i64 1 (shrI .u8 (rd (sub a0.b a0.at_ (a0.b.length:Int)) (0:Int)) (6:Int))))∧ρ' 7=(pt d 0)∧ρ' 9=(.func (.func 98) #[] #[(pt d 0),(pt f 0),(pt g 0)])∧ρ' 10=(Uv v)) f6 ?_ ?_
 have W:=h
 have h:=d2
 refine Bk (Cs (Bk (Cs (Cs (Sr (qu (Bv (decide ((shlI .i64 1 (shrI .u8 (rd (sub a0.b a0.at_ (a0.b.length:Int)) (0:Int)) (6:Int)))=8))) (eql Z Z) (qa (Bv (decide ((shlI .i64 1 (shrI .u8 (rd (sub a0.b a0.at_ (a0.b.length:Int)) (0:Int)) (6:Int)))=8))) (Nt (Ch h Z (fun d3 h=> ?_) (fun d3 h=> ?_))))))))))
 refine WC.exit (WQ.thenE (WQ.thenE (WQ.blockH (Tc (Sr (qm (.func (.func 98) #[] #[(pt d 0),(pt f 0),(pt g 0)]) ?_))))))
 obtain ⟨⟨d4,d5⟩,d6,h⟩:=bnd h
 refine Wb (Wb (We (callV3 (first:=#[]) (cap:=#[(pt d 0),(pt f 0),(pt g 0)]) co98 Z (f_wire_Reader_Num_1_ok (u64.wrap (andI .u8 (rd (sub a0.b a0.at_ (a0.b.length:Int)) (0:Int)) (63:Int))) (sub a0.b a0.at_ (a0.b.length:Int)) (1:Int) _ _ _ _ _ c (d4,d5) d6) (argsV0 Z)) Z ?_))
 rintro _ h1 _ w ⟨_,⟨rfl,rfl⟩,rfl⟩
 refine WL.a3 (Ns (qm (.func (.func 98) #[] #[(pt d 0),(pt f 0),(pt g 0)]) ?_))
 obtain ⟨⟨d7,d8⟩,d9,h⟩:=bnd h
 refine Wb (Wb (Wb ?_))
 have c:=c.mono w
 refine We (callV3 (first:=#[]) (cap:=#[(pt d 0),(pt f 0),(pt g 0)]) co98 Z (f_wire_Reader_Num_1_ok d4 (sub a0.b a0.at_ (a0.b.length:Int)) d5 _ _ _ _ _ c (d7,d8) d9) (argsV0 Z)) Z ?_
 rintro _ h2 _ x ⟨_,⟨rfl,rfl⟩,rfl⟩
 refine WL.a3 (Ns (qm (.func (.func 98) #[] #[(pt d 0),(pt f 0),(pt g 0)]) ?_))
 obtain ⟨⟨e0,e1⟩,e2,h⟩:=bnd h
 refine Wb (Wb (Wb ?_))
 have c:=c.mono x
 refine We (callV3 (first:=#[]) (cap:=#[(pt d 0),(pt f 0),(pt g 0)]) co98 Z (f_wire_Reader_Num_1_ok d7 (sub a0.b a0.at_ (a0.b.length:Int)) d8 _ _ _ _ _ c (e0,e1) e2) (argsV0 Z)) Z ?_
 rintro _ h3 _ y ⟨_,⟨rfl,rfl⟩,rfl⟩
 refine WL.a3 (Ns (qm (.func (.func 98) #[] #[(pt d 0),(pt f 0),(pt g 0)]) ?_))
 obtain ⟨⟨f7,f8⟩,e3,h⟩:=bnd h
 refine Wb (Wb (Wb ?_))
 have c:=c.mono y
 refine We (callV3 (first:=#[]) (cap:=#[(pt d 0),(pt f 0),(pt g 0)]) co98 Z (f_wire_Reader_Num_1_ok e0 (sub a0.b a0.at_ (a0.b.length:Int)) e1 _ _ _ _ _ c (f7,f8) e3) (argsV0 Z)) Z ?_
 rintro _ h4 _ b3 ⟨_,⟨rfl,rfl⟩,rfl⟩
 refine WL.a3 (Nt (Cg (qm (Uv 0) (qu (Uv (u64.wrap ((0:Int)+(1073725440:Int)))) (add Z Z) (qa (Uv (u64.wrap ((0:Int)+(1073725440:Int)))) (Wz (Bn (WQ.f3 (Qb (Qb (WQ.f3 ?_)))))))))))
 exact WQ.thenFE h ⟨(((w.trans x).trans y).trans b3),Z,(hρ 0),(hρ 1),Z,Z,Z,Z⟩
 refine Ck (Tc (Cs (Sr (qu (Bv (decide ((shlI .i64 1 (shrI .u8 (rd (sub a0.b a0.at_ (a0.b.length:Int)) (0:Int)) (6:Int)))=4))) (eql Z Z) (qa (Bv (decide ((shlI .i64 1 (shrI .u8 (rd (sub a0.b a0.at_ (a0.b.length:Int)) (0:Int)) (6:Int)))=4))) (Nt (Ch h Z (fun e4 h=> ?_) (fun e4 h=> ?_))))))))
 exact WC.exit (WQ.thenE (WQ.thenE (WQ.blockM Z (WQ.thenE (WQ.blockH (WQ.thenFE h ⟨lr,Z,(hρ 0),(hρ 1),Z,Z,Z,Z⟩))))))
 refine Ck (Tc (Sr (qu (Bv (decide ((shlI .i64 1 (shrI .u8 (rd (sub a0.b a0.at_ (a0.b.length:Int)) (0:Int)) (6:Int)))=2))) (eql Z Z) (qa (Bv (decide ((shlI .i64 1 (shrI .u8 (rd (sub a0.b a0.at_ (a0.b.length:Int)) (0:Int)) (6:Int)))=2))) (Nt (Ch h Z (fun e5 h=> ?_) (fun e5 h=> ?_)))))))
 refine WC.exit (WQ.thenE (WQ.blockM Z (WQ.thenE (WQ.blockM Z (WQ.thenE ?_)))))
 have h:=KK.early h W
 exact WQ.blockH (WQ.thenFE h ⟨lr,Z,(hρ 0),(hρ 1),Z,Z,Z,Z⟩)
 refine Ck (Tc (WC.exit (WQ.blockM Z (WQ.thenE (WQ.blockM Z (WQ.thenE ?_))))))
 have h:=KK.early h W
 refine WQ.blockM Z (WQ.thenE ?_)
 have h:=KK.early h d1
 refine WQ.blockH ?_
 obtain rfl:=oi h
 exact Tj ⟨lr,Z,(hρ 0),(hρ 1),Z,Z,Z⟩
 rintro ⟨v,b1,b2⟩ h5 h6 h7 rfl ⟨z,rfl,G,I,J,K,p,A⟩
 have h:=(Sum.elim_inl _ _ _).symm.trans h
 refine Sr (qM (.func (.func 98) #[] #[(pt d 0),(pt f 0),(pt g 0)]) p ?_)
 obtain ⟨⟨e6,e7⟩,e8,h⟩:=bnd h
 refine Wb (Wb ?_)
 have c:=c.mono z
 refine We (callV3 (first:=#[]) (cap:=#[(pt d 0),(pt f 0),(pt g 0)]) co98 Z (f_wire_Reader_Num_1_ok b2 (sub a0.b a0.at_ (a0.b.length:Int)) b1 _ _ _ _ _ c (e6,e7) e8) (argsV0 Z)) Z ?_
 rintro _ h8 _ B ⟨_,⟨rfl,rfl⟩,rfl⟩
 refine WL.a3 (Ns (qM (.func (.func 98) #[] #[(pt d 0),(pt f 0),(pt g 0)]) p ?_))
 obtain ⟨⟨f9,g1⟩,e9,h⟩:=bnd h
 refine Wb (Wb (Wb ?_))
 have c:=c.mono B
 refine We (callV3 (first:=#[]) (cap:=#[(pt d 0),(pt f 0),(pt g 0)]) co98 Z (f_wire_Reader_Num_1_ok e6 (sub a0.b a0.at_ (a0.b.length:Int)) e7 _ _ _ _ _ c (f9,g1) e9) (argsV0 Z)) Z ?_
 rintro _ h9 _ b4 ⟨_,⟨rfl,rfl⟩,rfl⟩
 refine WL.a3 (Nt (Cg (qM (Uv v) A (qu (Uv (u64.wrap (v+16320))) (add Z Z) (qa (Uv (u64.wrap (v+16320))) (Wz (Bn (WQ.f3 (Qb (Qb (WQ.f3 ?_)))))))))))
 exact WQ.thenFE h ⟨((z.trans B).trans b4),Z,G,I,J,K,p,Z⟩
 rintro ⟨u,a9,b0⟩ i0 i1 i2 rfl ⟨C,rfl,L,N,O,P,Q,D⟩
 have h:=(Sum.elim_inl _ _ _).symm.trans h
 refine Cs (Sr (qM (.func (.func 98) #[] #[(pt d 0),(pt f 0),(pt g 0)]) Q ?_))
 obtain ⟨⟨g2,g3⟩,f0,h⟩:=bnd h
 refine Wb (Wb ?_)
 have c:=c.mono C
 refine We (callV3 (first:=#[]) (cap:=#[(pt d 0),(pt f 0),(pt g 0)]) co98 Z (f_wire_Reader_Num_1_ok b0 (sub a0.b a0.at_ (a0.b.length:Int)) a9 _ _ _ _ _ c (g2,g3) f0) (argsV0 Z)) Z ?_
 rintro _ g6 _ R ⟨_,⟨rfl,rfl⟩,rfl⟩
 refine WL.a3 (Nt (Cg (qM (Uv u) D (qu (Uv (u64.wrap (u+64))) (add Z Z) (qa (Uv (u64.wrap (u+64))) (Nt (WC.exit (WQ.blockH (WQ.f3 (Qb (Qb ?_)))))))))))
 refine WQ.f3 ?_
 obtain rfl:=oi h
 exact Tj ⟨(C.trans R),Z,L,N,O,P,Z⟩
 obtain ⟨t,c9,o⟩:=c7
 rintro i3 i4 i5 ⟨m,rfl,k,S,T,q,E⟩
 refine Cs (Bk (Sr (qu (Uv o) (Lb 1 pl105 q Z Z) (qM (Uv t) E (qu (Bv (decide (o<t))) (lss Z Z) (qa (Bv (decide (o<t))) (Nt (Ch h Z (fun b5 h=> ?_) (fun b5 h=> ?_)))))))))
 refine Sr (qM (pt e 0) k (qM (pt e 0) k (qu (pt e 0) (Nk Z) (qu (pt e 1) (Fa fo110_1 Z Z) (qu (Iv a0.at_) (Lb 3 pl3 Z Z Z) ?_)))))
 obtain ⟨X,b6,h⟩:=bnd h
 refine WL.f3 ?_
 have i:=i.mono m
 refine We (Cb co69 (f_wire_Reader_fail_ok a0 (⟨#[110,117,109]⟩:ByteArray) a0.at_ (5:Int) _ _ _ i X b6) (args4 Z Z Z Z)) Z ?_
 rintro _ g7 _ U ⟨_,⟨rfl,rfl⟩,rfl⟩
 refine WL.a1 (Ns (qa (Uv 0) (Nt (Cr (Br (Tr (Qa (Dr (Qa (Dr (Qa ?_)))))))))))
 exact Dr (Rf h [[(e, .cells #[a,(Iv a0.at_),(GV X)] 110 (0,0))]] Z (Rs Z Z) (m.trans U) ⟨Z,Z⟩)
 refine Sr (qu (Uv o) (Lb 1 pl105 q Z Z) (qM (Uv a1) S (qu (Bv (decide (a1<o))) (gtr Z Z) (qa (Bv (decide (a1<o))) (Nt (Ch h Z (fun b7 h=> ?_) (fun b7 h=> ?_)))))))
 refine Sr (qM (pt e 0) k (qM (pt e 0) k (qu (pt e 0) (Nk Z) (qu (pt e 1) (Fa fo110_1 Z Z) (qu (Iv a0.at_) (Lb 3 pl3 Z Z Z) ?_)))))
 obtain ⟨Y,b8,h⟩:=bnd h
 refine WL.f3 ?_
 have i:=i.mono m
 refine We (Cb co69 (f_wire_Reader_fail_ok a0 (⟨#[110,117,109]⟩:ByteArray) a0.at_ (6:Int) _ _ _ i Y b8) (args4 Z Z Z Z)) Z ?_
 rintro _ g8 _ V ⟨_,⟨rfl,rfl⟩,rfl⟩
 refine WL.a1 (Ns (qa (Uv 0) (Nt (Cr (Br (Tr (Qa (Dr (Qa (Dr (Qa ?_)))))))))))
 exact Dr (Rf h [[(e, .cells #[a,(Iv a0.at_),(GV Y)] 110 (0,0))]] Z (Rs Z Z) (m.trans V) ⟨Z,Z⟩)
 refine Ck (Bn (Tc (Sr (qM (pt e 0) k (qu (pt e 0) (Nk Z) (qu (pt e 1) (Fa fo110_1 Z Z) (qu (Iv a0.at_) (Lb 3 pl3 Z Z Z) (qM (Iv (shlI .i64 1 (shrI .u8 (rd (sub a0.b a0.at_ (a0.b.length:Int)) (0:Int)) (6:Int)))) T (qu (Iv (i64.wrap (a0.at_+(shlI .i64 1 (shrI .u8 (rd (sub a0.b a0.at_ (a0.b.length:Int)) (0:Int)) (6:Int)))))) (add Z Z) (qu (pt e 0) (Nk Z) (qu (pt e 1) (Fa fo110_1 Z Z) ?_)))))))))))
 refine WL.f3 (We (Es (Iv (i64.wrap (a0.at_+(shlI .i64 1 (shrI .u8 (rd (sub a0.b a0.at_ (a0.b.length:Int)) (0:Int)) (6:Int)))))) [a,(Iv (i64.wrap (a0.at_+(shlI .i64 1 (shrI .u8 (rd (sub a0.b a0.at_ (a0.b.length:Int)) (0:Int)) (6:Int)))))),(GV a0.err)] Z sz3 Z Z Z Z Z Z) Z ?_)
 rintro _ _ _ - ⟨rfl,rfl⟩
 exact Ns (qu (Uv o) (Lb 2 pl105 q Z Z) (qa (Uv o) (Nt (Cr (Qa (Dr (Qa (Dr (Qa (Dr (Rf h [[(e, .cells #[a,(Iv (i64.wrap (a0.at_+(shlI .i64 1 (shrI .u8 (rd (sub a0.b a0.at_ (a0.b.length:Int)) (0:Int)) (6:Int)))))),(GV a0.err)] 110 (0,0))]] Z (Rs Z Z) m ⟨Z,Z⟩)))))))))))
 exact Tz
 exact Tz
noncomputable def f_wire_Reader_Int (a0:T_wire_Reader) (a1:Int):Option (Int×Int×GErr):=
 ((f_wire_Reader_Num a0 (u64.wrap (if a1<(0:Int)then(0:Int)else a1))).bind fun(a,b,c)=>(some (i64.wrap a,b,c)))
def f_wire_Reader_Int_post (a0:T_wire_Reader) (a1:Int) (a:Value) (b:Nat):(Int×Int×GErr)→Value→IM→HL→Prop:=
 fun(p_:(Int×Int×GErr)) (v:Value) (M':IM) (H':HL)=>match p_ with |(c,d,e)=>(.int .i64 c)=v∧H'=[[(b, .cells #[a,(.int .i64 d),(GV e)] 110 (0,0))]]
theorem f_wire_Reader_Int_ok (a0:T_wire_Reader) (a1:Int) (M:IM) (a:Value) (e:Nat) (f:RS (Kd.int .u8) M a a0.b) (res:(Int×Int×GErr)) (h:f_wire_Reader_Int a0 a1=some res):
 Tri prog 32 #[(pt e 0),(Iv a1)] M [[(e, .cells #[a,(Iv a0.at_),(GV a0.err)] 110 (0,0))]] (f_wire_Reader_Int_post a0 a1 a e res):=by
 unfold f_wire_Reader_Int at h
 refine Te func32 Z Z ?_
 intro F ρ hρ
 refine Sr (qa (Iv 0) (Ns (qM (pt e 0) (hρ 0) (qM (Iv a1) (hρ 1) (qu (Iv (if a1<0 then(0:Int)else a1)) (PO.max Z Z) (qu (Uv (u64.wrap (if a1<0 then(0:Int)else a1))) (conv us3 underlying105 Z) ?_))))))
 obtain ⟨⟨c,g,i⟩,j,h⟩:=bnd h
 refine We (Cb co68 (f_wire_Reader_Num_ok a0 (u64.wrap (if a1<0 then(0:Int)else a1)) _ _ _ f (c,g,i) j) (args2 Z Z)) Z ?_
 rintro _ k _ d ⟨_,⟨rfl,rfl⟩,rfl⟩
 exact WL.a1 (qu (Iv (i64.wrap c)) (conv us105 underlying3 Z) (qa (Iv (i64.wrap c)) (Nt (Cr (Rf h [[(e, .cells #[a,(Iv g),(GV i)] 110 (0,0))]] Z (Rs Z Z) d ⟨Z,Z⟩)))))
noncomputable def f_wire_Reader_Flag (a0:T_wire_Reader):Option (Bool×Int×GErr):=
 (((if(!a0.err.isNil)=true then(some (inl a0.err))else(if(decide ((a0.b.length:Int)≤a0.at_))=true then((f_wire_Reader_fail a0 (⟨#[102,108,97,103]⟩:ByteArray) a0.at_ (3:Int)).bind fun a=>(some (inl a)))else(grd (0≤a0.at_∧a0.at_<a0.b.length) (if(decide ((1:Int)<(rd a0.b a0.at_)))=true then((f_wire_Reader_fail a0 (⟨#[102,108,97,103]⟩:ByteArray) a0.at_ (5:Int)).bind fun c=>(some (inl c)))else(grd (0≤i64.wrap ((i64.wrap (a0.at_+(1:Int)))- (1:Int))∧i64.wrap ((i64.wrap (a0.at_+(1:Int)))- (1:Int))<a0.b.length) (((some (decide ((rd a0.b (i64.wrap ((i64.wrap (a0.at_+(1:Int)))- (1:Int))))=(1:Int)),i64.wrap (a0.at_+(1:Int)),a0.err))).bind fun r=>some (inr r))))))):Option (GErr⊕(Bool×Int×GErr))).bind (Sum.elim (fun(d:GErr)=>(some (false,a0.at_,d))) some))
def f_wire_Reader_Flag_post (a0:T_wire_Reader) (a:Value) (b:Nat):(Bool×Int×GErr)→Value→IM→HL→Prop:=
 fun(p_:(Bool×Int×GErr)) (v:Value) (M':IM) (H':HL)=>match p_ with |(c,d,e)=>(.bool c)=v∧H'=[[(b, .cells #[a,(.int .i64 d),(GV e)] 110 (0,0))]]
theorem f_wire_Reader_Flag_ok (a0:T_wire_Reader) (M:IM) (c:Value) (a:Nat) (d:RS (Kd.int .u8) M c a0.b) (res:(Bool×Int×GErr)) (h:f_wire_Reader_Flag a0=some res):
 Tri prog 34 #[(pt a 0)] M [[(a, .cells #[c,(Iv a0.at_),(GV a0.err)] 110 (0,0))]] (f_wire_Reader_Flag_post a0 c a res):=by
 unfold f_wire_Reader_Flag at h
 refine Te func34 Z Z ?_
 intro F ρ hρ
 refine Sr (qa (Bv false) (Nt ?_))
 obtain ⟨x,q,h⟩:=bnd h
 refine WC.joinE (fun(g:GErr) ρ' M' H'=>M.le M'∧[(a, .cells #[c,(Iv a0.at_),(GV g)] 110 (0,0))]::F=H') x ?_ ?_
 have r:=h
 have h:=q
 refine Bk (Sr (qM (pt a 0) (hρ 0) (qu (pt a 0) (Nk Z) (qu (pt a 2) (Fa fo110_2 Z Z) (qu (GV a0.err) (Lb 0 pl31 Z Z Z) (qu (Bv (!a0.err.isNil)) (errNotNil underlying31 Z) (qa (Bv (!a0.err.isNil)) (Nt (Ch h Z (fun s h=> ?_) (fun s h=> ?_))))))))))
 exact Ck (Bn (WQ.thenFE h ⟨lr,Z⟩))
 refine Cs (WC.draw [0,1,3,7,0,16,48,112,240,511,1023] (.pure 0 (.pure 1 (.pure 2 (.pure 3 (.pure 4 (.pure 5 (.pure 6 (.pure 7 (.pure 8 (.pure 9 (.pure 10 .done))))))))))) mixed (by kernel_rfl) (qt (pt a 0) Z (Mv (hρ 0)) (qt (pt a 0) Z (Nk Z) (qt (pt a 1) Z (Fa fo110_1 Z Z) (qt (Iv a0.at_) Z (Lb 0 pl3 Z Z Z) (qt (pt a 0) Z (Mv (hρ 0)) (qt (pt a 0) Z (Nk Z) (qt (pt a 0) Z (Fa fo110_0 Z Z) (qt c Z (Lb 0 pl23 Z Z Z) (qt (Iv (a0.b.length:Int)) Z (lenS underlying23 Z d.len) (qt (Bv (decide ((a0.b.length:Int)≤a0.at_))) Z (geq Z Z) ?_)))))))))))
 refine qt (Bv (decide ((a0.b.length:Int)≤a0.at_))) Z (Ag Z) (Ti (Tc (Ch h Z (fun t h=> ?_) (fun t h=> ?_))))
 refine Cg (qM (pt a 0) (hρ 0) (qM (pt a 0) (hρ 0) (qu (pt a 0) (Nk Z) (qu (pt a 1) (Fa fo110_1 Z Z) (qu (Iv a0.at_) (Lb 0 pl3 Z Z Z) ?_)))))
 obtain ⟨y,u,h⟩:=bnd h
 refine We (Cb co69 (f_wire_Reader_fail_ok a0 (⟨#[102,108,97,103]⟩:ByteArray) a0.at_ (3:Int) _ _ _ d y u) (args4 Z Z Z Z)) Z ?_
 rintro _ E _ i ⟨_,⟨rfl,rfl⟩,rfl⟩
 exact WL.a1 (Wz (Bn (WQ.thenFE h ⟨i,Z⟩)))
 refine Cs (WC.draw [0,1,3,7,0,16,48,112,255,511,1023,2047] (.pure 0 (.pure 1 (.pure 2 (.pure 3 (.pure 4 (.pure 5 (.pure 6 (.pure 7 (.pure 8 (.pure 9 (.pure 10 (.pure 11 .done)))))))))))) mixed (by kernel_rfl) (qt (pt a 0) Z (Mv (hρ 0)) (qt (pt a 0) Z (Nk Z) (qt (pt a 0) Z (Fa fo110_0 Z Z) (qt c Z (Lb 0 pl23 Z Z Z) (qt (pt a 0) Z (Mv (hρ 0)) (qt (pt a 0) Z (Nk Z) (qt (pt a 1) Z (Fa fo110_1 Z Z) (qt (Iv a0.at_) Z (Lb 0 pl3 Z Z Z) ?_)))))))))
 obtain ⟨e,h⟩:=grd_i h
 obtain ⟨z,C,j,k,hhas34⟩:=d.at e.1 e.2 (by decide)
 obtain rfl:=k
 refine qt (.pointer (some z)) Z (indexAddr (n:=a0.b.length) underlying23 sz5 Z Z e.1 e.2 j) (qt (Yv (rd a0.b a0.at_)) Z (loadM pl5 Z (IM.has0 hhas34)) (qt (Bv (decide ((1:Int)<(rd a0.b a0.at_)))) Z (gtr Z Z) (qt (Bv (decide ((1:Int)<(rd a0.b a0.at_)))) Z (Ag Z) (Ti (Tc (Ch h Z (fun v h=> ?_) (fun v h=> ?_)))))))
 refine Cg (qM (pt a 0) (hρ 0) (qM (pt a 0) (hρ 0) (qu (pt a 0) (Nk Z) (qu (pt a 1) (Fa fo110_1 Z Z) (qu (Iv a0.at_) (Lb 0 pl3 Z Z Z) ?_)))))
 obtain ⟨A,w,h⟩:=bnd h
 refine We (Cb co69 (f_wire_Reader_fail_ok a0 (⟨#[102,108,97,103]⟩:ByteArray) a0.at_ (5:Int) _ _ _ d A w) (args4 Z Z Z Z)) Z ?_
 rintro _ G _ l ⟨_,⟨rfl,rfl⟩,rfl⟩
 exact WL.a1 (Wz (Bn (WQ.thenFE h ⟨l,Z⟩)))
 refine Sr (qM (pt a 0) (hρ 0) (qu (pt a 0) (Nk Z) (qu (pt a 1) (Fa fo110_1 Z Z) (qu (Iv a0.at_) (Lb 0 pl3 Z Z Z) (qu (Iv (i64.wrap (a0.at_+1))) (add Z Z) (qu (pt a 0) (Nk Z) (qu (pt a 1) (Fa fo110_1 Z Z) (We (Es (Iv (i64.wrap (a0.at_+1))) [c,(Iv (i64.wrap (a0.at_+1))),(GV a0.err)] Z sz3 Z Z Z Z Z Z) Z ?_))))))))
 rintro _ _ _ - ⟨rfl,rfl⟩
 refine Nt (Cs (WC.draw [0,1,3,7,0,16,48,112,240,511,1023,2047,4095] (.pure 0 (.pure 1 (.pure 2 (.pure 3 (.pure 4 (.pure 5 (.pure 6 (.pure 7 (.pure 8 (.pure 9 (.pure 10 (.pure 11 (.pure 12 .done))))))))))))) mixed (by kernel_rfl) (qt (pt a 0) Z (Mv (hρ 0)) (qt (pt a 0) Z (Nk Z) (qt (pt a 0) Z (Fa fo110_0 Z Z) (qt c Z (Lb 0 pl23 Z Z Z) (qt (pt a 0) Z (Mv (hρ 0)) (qt (pt a 0) Z (Nk Z) (qt (pt a 1) Z (Fa fo110_1 Z Z) (qt (Iv (i64.wrap (a0.at_+1))) Z (Lb 0 pl3 Z Z Z) (qt (Iv (i64.wrap ((i64.wrap (a0.at_+1))- 1))) Z (PO.sub Z Z) ?_)))))))))))
 obtain ⟨f,h⟩:=grd_i h
 obtain ⟨B,D,m,o,hhas46⟩:=d.at f.1 f.2 (by decide)
 obtain rfl:=o
 refine qt (.pointer (some B)) Z (indexAddr (n:=a0.b.length) underlying23 sz5 Z Z f.1 f.2 m) (qt (Yv (rd a0.b (i64.wrap ((i64.wrap (a0.at_+1))- 1)))) Z (loadM pl5 Z (IM.has0 hhas46)) (qt (Bv (decide ((rd a0.b (i64.wrap ((i64.wrap (a0.at_+1))- 1)))=1))) Z (eql Z Z) (qt (Bv (decide ((rd a0.b (i64.wrap ((i64.wrap (a0.at_+1))- 1)))=1))) Z (Ag Z) (Ti (Tc (Cr (Br (Tr ?_))))))))
 have h:=KK.early h r
 exact Rf h [[(a, .cells #[c,(Iv (i64.wrap (a0.at_+1))),(GV a0.err)] 110 (0,0))]] Z (Rs Z Z) lr ⟨Z,Z⟩
 rintro g I J K rfl ⟨p,rfl⟩
 have h:=(Sum.elim_inl _ _ _).symm.trans h
 exact Sr (qa (Bv false) (Nt (Cr (Rf h [[(a, .cells #[c,(Iv a0.at_),(GV g)] 110 (0,0))]] Z (Rs Z Z) p ⟨Z,Z⟩))))
noncomputable def f_rpc_Read_1 (a0:Int) (a1:Int) (a2q:T_wire_Reader):Option (Int×Int×GErr):=
 (if(decide ((andI .i64 a1 a0)=(0:Int)))=true then(some ((0:Int),a2q.at_,a2q.err))else((f_wire_Reader_Int a2q (1073741824:Int)).bind fun(a,b,c)=>(some (a,b,c))))
def f_rpc_Read_1_post (a0:Int) (a1:Int) (a2q:T_wire_Reader) (v2q_0:Value) (a b g2q:Nat):(Int×Int×GErr)→Value→IM→HL→Prop:=
 fun(p_:(Int×Int×GErr)) (v:Value) (M':IM) (H':HL)=>match p_ with |(c,d,e)=>(.int .i64 c)=v∧H'=[[(a, .cells #[(.int .i64 a1)] 3 (0,0))],[(g2q, .cells #[v2q_0,(.int .i64 d),(GV e)] 110 (0,0))],[(b, .cells #[(.pointer (some ⟨g2q,0,none⟩))] 69 (0,0))]]
theorem f_rpc_Read_1_ok (a0:Int) (a1:Int) (a2q:T_wire_Reader) (M:IM) (v2q_0:Value) (c d g2q:Nat) (h2q_0:RS (Kd.int .u8) M v2q_0 a2q.b) (res:(Int×Int×GErr)) (h:f_rpc_Read_1 a0 a1 a2q=some res):
 Tri prog 33 #[(Iv a0),(pt c 0),(pt d 0)] M [[(c, .cells #[(Iv a1)] 3 (0,0))],[(g2q, .cells #[v2q_0,(Iv a2q.at_),(GV a2q.err)] 110 (0,0))],[(d, .cells #[(pt g2q 0)] 69 (0,0))]] (f_rpc_Read_1_post a0 a1 a2q v2q_0 c d g2q res):=by
 unfold f_rpc_Read_1 at h
 refine Te func33 Z Z ?_
 intro F ρ hρ
 refine Sr (qa (Iv 0) (Nt (Cs (Sr (qu (Iv a1) (Lb 0 pl3 (hρ 1) Z Z) (qM (Iv a0) (hρ 0) (qu (Iv (andI .i64 a1 a0)) (PO.and Z Z) (qu (Bv (decide ((andI .i64 a1 a0)=0))) (eql Z Z) (Nt (Ch h Z (fun e h=> ?_) (fun e h=> ?_)))))))))))
 exact Sr (qa (Iv 0) (Nt (Cr (Tr (Rf h [[(c, .cells #[(Iv a1)] 3 (0,0))],[(g2q, .cells #[v2q_0,(Iv a2q.at_),(GV a2q.err)] 110 (0,0))],[(d, .cells #[(pt g2q 0)] 69 (0,0))]] Z (Rs Z Z) lr ⟨Z,Z⟩)))))
 refine Ck (Tc (Sr (qu (pt g2q 0) (Lb 2 pl69 (hρ 2) Z Z) ?_)))
 obtain ⟨⟨f,g,i⟩,j,h⟩:=bnd h
 refine WL.f1 (We (Cb co32 (f_wire_Reader_Int_ok a2q (1073741824:Int) _ _ _ h2q_0 (f,g,i) j) (args2 Z Z)) Z ?_)
 rintro _ k _ a ⟨_,⟨rfl,rfl⟩,rfl⟩
 exact WL.a1 (qa (Iv f) (Nt (Cr (Qb (Qa (Qb (Rf h [[(c, .cells #[(Iv a1)] 3 (0,0))],[(g2q, .cells #[v2q_0,(Iv g),(GV i)] 110 (0,0))],[(d, .cells #[(pt g2q 0)] 69 (0,0))]] Z (Rs Z Z) a ⟨Z,Z⟩)))))))
noncomputable def f_slices_Clone_byte_byte (a0:(List Int)):Option (List Int):=
 (grd (([]:List Int).length+a0.length≤274877906944) (some (([]:List Int)++a0)))
def f_slices_Clone_byte_byte_post (a0:(List Int)) (d:Value):(List Int)→Value→IM→HL→Prop:=
 fun(c:(List Int)) (v:Value) (M':IM) (H':HL)=>∃ a b,a=v∧H'=[b]∧OwnS (Kd.int .u8) M' a c b
theorem f_slices_Clone_byte_byte_ok (a0:(List Int)) (M:IM) (d:Value) (j:RS (Kd.int .u8) M d a0) (res:(List Int)) (h:f_slices_Clone_byte_byte a0=some res):
 Tri prog 54 #[d] M [] (f_slices_Clone_byte_byte_post a0 d res):=by
 unfold f_slices_Clone_byte_byte at h
 refine Te func54 Z Z ?_
 intro F ρ hρ
 refine Sr (qa Zs (Nt (Cs (Sr (qM d (hρ 0) (qu (Bv (nilS d)) (sliceNil underlying23 Z j.len Z) (Nt (Cd (b:=nilS d) Z (fun c=> ?_) (fun c=> ?_)))))))))
 obtain rfl:=j.nilxs (by decide) c
 have h:=Eq.trans (a:=((some []):Option (List Int))) (by simp [grd]) h
 exact Sr (qa Zs (Nt (Cr (Tr (WQ.e0 (Rf h [[]] Z (Rs Z Z) lr ⟨Zs,[],Z,Z,(OwnS.nil _ _)⟩))))))
 refine Ck (Tc (Sr (We (buildSliceL (cl:=[]) underlying23 iz5 Z Pz Z) Z ?_)))
 rintro _ _ _ - ⟨rfl,e,rfl,rfl⟩
 have k:OwnS (Kd.int .u8) M (.slice (some ⟨e,0,none⟩) 0 0) [] [(e, .cells #[] 5 (0,0))]:=OwnS.rows (css:=[]) Rows.nil Z Z
 refine qM d (hρ 0) ?_
 obtain ⟨f,h⟩:=grd_i h
 refine We (append (dd:=(Kd.int .u8)) (xs:=[]) (ys:=a0) underlying23 underlying23 in5 Z (appB (by decide) f) (by decide) Z Z k (j.src _)) Z ?_
 rintro g _ _ - ⟨rfl,i,rfl,l⟩
 exact qa g (Nt (Cr (Rf h [i] Z (Rs Z Z) lr ⟨g,i,Z,Z,l⟩)))
noncomputable def f_wire_Reader_Text (a0:T_wire_Reader) (a1:Int):Option ((List Int)×Int×GErr):=
 ((f_wire_Reader_Int a0 a1).bind fun(a,c,d)=>(if(!d.isNil)=true then(some ([],c,d))else(if(decide ((i64.wrap ((a0.b.length:Int)- c))<a))=true then((f_wire_Reader_fail (⟨a0.b,a0.at_,d⟩:T_wire_Reader) (⟨#[116,101,120,116]⟩:ByteArray) a0.at_ (3:Int)).bind fun e=>(some ([],a0.at_,e)))else(grd (0≤i64.wrap ((i64.wrap (c+a))- a)∧i64.wrap ((i64.wrap (c+a))- a)≤i64.wrap (c+a)∧i64.wrap (c+a)≤(a0.b.length:Int)) ((f_slices_Clone_byte_byte (sub a0.b (i64.wrap ((i64.wrap (c+a))- a)) (i64.wrap (c+a)))).bind fun f=>(some (f,i64.wrap (c+a),d)))))))
def f_wire_Reader_Text_post (a0:T_wire_Reader) (a1:Int) (a:Value) (d:Nat):((List Int)×Int×GErr)→Value→IM→HL→Prop:=
 fun(p_:((List Int)×Int×GErr)) (v:Value) (M':IM) (H':HL)=>match p_ with |(e,f,g)=>∃ b c,b=v∧H'=[[(d, .cells #[a,(.int .i64 f),(GV g)] 110 (0,0))],c]∧OwnS (Kd.int .u8) M' b e c
theorem f_wire_Reader_Text_ok (a0:T_wire_Reader) (a1:Int) (M:IM) (e:Value) (d:Nat) (f:RS (Kd.int .u8) M e a0.b) (res:((List Int)×Int×GErr)) (h:f_wire_Reader_Text a0 a1=some res):
 Tri prog 35 #[(pt d 0),(Iv a1)] M [[(d, .cells #[e,(Iv a0.at_),(GV a0.err)] 110 (0,0))]] (f_wire_Reader_Text_post a0 a1 e d res):=by
 unfold f_wire_Reader_Text at h
 refine Te func35 Z Z ?_
 intro F ρ hρ
 refine Sr (qa Zs (Ns (qM (pt d 0) (hρ 0) (qu (pt d 0) (Nk Z) (qu (pt d 1) (Fa fo110_1 Z Z) (qu (Iv a0.at_) (Lb 0 pl3 Z Z Z) (qa (Iv a0.at_) (Ns (qM (pt d 0) (hρ 0) (qM (Iv a1) (hρ 1) ?_))))))))))
 obtain ⟨⟨a,c,j⟩,q,h⟩:=bnd h
 refine We (Cb co32 (f_wire_Reader_Int_ok a0 a1 _ _ _ f (a,c,j) q) (args2 Z Z)) Z ?_
 rintro _ z _ i ⟨_,⟨rfl,rfl⟩,rfl⟩
 refine WL.a1 (qa (Iv a) (Nt (Cs (Sr (qM (pt d 0) (hρ 0) (qu (pt d 0) (Nk Z) (qu (pt d 2) (Fa fo110_2 Z Z) (qu (GV j) (Lb 0 pl31 Z Z Z) (qu (Bv (!j.isNil)) (errNotNil underlying31 Z) (Nt (Ch h Z (fun r h=> ?_) (fun r h=> ?_))))))))))))
 exact Sr (qa Zs (Nt (Cr (Tr (WQ.e0 (Qa (Rf h [[(d, .cells #[e,(Iv c),(GV j)] 110 (0,0))],[]] Z (Rs Z Z) i ⟨Zs,[],Z,Z,(OwnS.nil _ _)⟩)))))))
 refine Ck (Tc (Cs (Cs (WC.draw [0,0,2,6,14,30,0,64,192,448,1022,2047] (.pure 0 (.pure 1 (.pure 2 (.pure 3 (.pure 4 (.pure 5 (.pure 6 (.pure 7 (.pure 8 (.pure 9 (.pure 10 (.pure 11 .done)))))))))))) mixed (by kernel_rfl) (qt (Iv a) Z (Mv Z) (qt (pt d 0) Z (Mv (hρ 0)) (qt (pt d 0) Z (Nk Z) (qt (pt d 0) Z (Fa fo110_0 Z Z) (qt e Z (Lb 0 pl23 Z Z Z) ?_)))))))))
 have f:=f.mono i
 refine qt (Iv (a0.b.length:Int)) Z (lenS underlying23 Z f.len) (qt (pt d 0) Z (Mv (hρ 0)) (qt (pt d 0) Z (Nk Z) (qt (pt d 1) Z (Fa fo110_1 Z Z) (qt (Iv c) Z (Lb 0 pl3 Z Z Z) (qt (Iv (i64.wrap ((a0.b.length:Int)- c))) Z (PO.sub Z Z) (qt (Bv (decide ((i64.wrap ((a0.b.length:Int)- c))<a))) Z (gtr Z Z) (Ti (Tc (Ch h Z (fun s h=> ?_) (fun s h=> ?_))))))))))
 refine Sr (qM (pt d 0) (hρ 0) (qm (Iv a0.at_) (qu (pt d 0) (Nk Z) (qu (pt d 1) (Fa fo110_1 Z Z) (We (Es (Iv a0.at_) [e,(Iv a0.at_),(GV j)] Z sz3 Z Z Z Z Z Z) Z ?_)))))
 rintro _ _ _ - ⟨rfl,rfl⟩
 refine Ns (qM (pt d 0) (hρ 0) (qm (Iv a0.at_) ?_))
 obtain ⟨t,u,h⟩:=bnd h
 refine We (Cb co69 (f_wire_Reader_fail_ok (⟨a0.b,a0.at_,j⟩:T_wire_Reader) (⟨#[116,101,120,116]⟩:ByteArray) a0.at_ (3:Int) _ _ _ f t u) (args4 Z Z Z Z)) Z ?_
 rintro _ A _ o ⟨_,⟨rfl,rfl⟩,rfl⟩
 exact WL.a1 (Ns (qa Zs (Nt (Cr (Tr (WQ.e0 (Qa (Rf h [[(d, .cells #[e,(Iv a0.at_),(GV t)] 110 (0,0))],[]] Z (Rs Z Z) (i.trans o) ⟨Zs,[],Z,Z,(OwnS.nil _ _)⟩))))))))
 refine Ck (Tc (Sr (qM (pt d 0) (hρ 0) (qu (pt d 0) (Nk Z) (qu (pt d 1) (Fa fo110_1 Z Z) (qu (Iv c) (Lb 0 pl3 Z Z Z) (qm (Iv a) (qu (Iv (i64.wrap (c+a))) (add Z Z) (qu (pt d 0) (Nk Z) (qu (pt d 1) (Fa fo110_1 Z Z) (We (Es (Iv (i64.wrap (c+a))) [e,(Iv (i64.wrap (c+a))),(GV j)] Z sz3 Z Z Z Z Z Z) Z ?_)))))))))))
 rintro _ _ _ - ⟨rfl,rfl⟩
 refine Nt (Cs (WC.draw [0,1,3,7,0,16,48,112,0,496,0,1024,3072,7168,16383,32767,65535] (.pure 0 (.pure 1 (.pure 2 (.pure 3 (.pure 4 (.pure 5 (.pure 6 (.pure 7 (.pure 8 (.pure 9 (.pure 10 (.pure 11 (.pure 12 (.pure 13 (.pure 14 (.alt 15 (.pure 16 .done) .none)))))))))))))))) mixed (by kernel_rfl) (qt (pt d 0) Z (Mv (hρ 0)) (qt (pt d 0) Z (Nk Z) (qt (pt d 0) Z (Fa fo110_0 Z Z) (qt e Z (Lb 0 pl23 Z Z Z) (qt (pt d 0) Z (Mv (hρ 0)) (qt (pt d 0) Z (Nk Z) (qt (pt d 1) Z (Fa fo110_1 Z Z) (qt (Iv (i64.wrap (c+a))) Z (Lb 0 pl3 Z Z Z) (qt (Iv a) Z (Mv Z) ?_)))))))))))
 refine qt (Iv (i64.wrap ((i64.wrap (c+a))- a))) Z (PO.sub Z Z) (qt (pt d 0) Z (Mv (hρ 0)) (qt (pt d 0) Z (Nk Z) (qt (pt d 1) Z (Fa fo110_1 Z Z) (qt (Iv (i64.wrap (c+a))) Z (Lb 0 pl3 Z Z Z) ?_))))
 obtain ⟨g,h⟩:=grd_i h
 have x:=f.sub g.1 g.2.1 g.2.2
 refine qt (slV e 1 (i64.wrap ((i64.wrap (c+a))- a)).toNat (i64.wrap (c+a)).toNat) Z (slice (n:=a0.b.length) (l:=(i64.wrap ((i64.wrap (c+a))- a)).toNat) (h:=(i64.wrap (c+a)).toNat) underlying23 sz5 Z f.len f.cap ⟨_,_,Z,g.1,Z⟩ ⟨_,_,Z,(Int.le_trans g.1 g.2.1),Z⟩ (Int.toNat_le_toNat g.2.1) (toNat_le_len g.2.2)) ?_
 obtain ⟨y,v,h⟩:=bnd h
 refine Ta Z (Ca co54 (f_slices_Clone_byte_byte_ok (sub a0.b (i64.wrap ((i64.wrap (c+a))- a)) (i64.wrap (c+a))) _ _ x y v) (args1 Z)) Z ?_ ?_
 rintro _ B _ p ⟨_,⟨k,m,rfl,rfl,w⟩,rfl⟩
 refine⟨(Sl Z), ?_⟩
 exact WT.a1 (qt k Z (Ag Z) (Ti (Tc (Cr (Qa (Rf h [[(d, .cells #[e,(Iv (i64.wrap (c+a))),(GV j)] 110 (0,0))],m] Z (Rs Z Z) (i.trans p) ⟨k,m,Z,Z,w⟩))))))
 exact Tz
noncomputable def f_wire_Reader_Err (a0:T_wire_Reader):Option GErr:=
 (some a0.err)
def f_wire_Reader_Err_post (a0:T_wire_Reader) (a:Value) (b:Nat):GErr→Value→IM→HL→Prop:=
 fun(c:GErr) (v:Value) (M':IM) (H':HL)=>(GV c)=v∧H'=[[(b, .cells #[a,(.int .i64 a0.at_),(GV a0.err)] 110 (0,0))]]
theorem f_wire_Reader_Err_ok (a0:T_wire_Reader) (M:IM) (a:Value) (c:Nat) (d:RS (Kd.int .u8) M a a0.b) (res:GErr) (h:f_wire_Reader_Err a0=some res):
 Tri prog 36 #[(pt c 0)] M [[(c, .cells #[a,(Iv a0.at_),(GV a0.err)] 110 (0,0))]] (f_wire_Reader_Err_post a0 a c res):=by
 unfold f_wire_Reader_Err at h
 refine Te func36 Z Z ?_
 intro F ρ hρ
 exact Sr (qa (GV GErr.nil) (Ns (qM (pt c 0) (hρ 0) (qu (pt c 0) (Nk Z) (qu (pt c 2) (Fa fo110_2 Z Z) (qu (GV a0.err) (Lb 0 pl31 Z Z Z) (qa (GV a0.err) (Nt (Cr (Rf h [[(c, .cells #[a,(Iv a0.at_),(GV a0.err)] 110 (0,0))]] Z (Rs Z Z) lr ⟨Z,Z⟩))))))))))
noncomputable def f_wire_Reader_At (a0:T_wire_Reader):Option Int:=
 (some a0.at_)
def f_wire_Reader_At_post (a0:T_wire_Reader) (a:Value) (b:Nat):Int→Value→IM→HL→Prop:=
 fun(c:Int) (v:Value) (M':IM) (H':HL)=>(.int .i64 c)=v∧H'=[[(b, .cells #[a,(.int .i64 a0.at_),(GV a0.err)] 110 (0,0))]]
theorem f_wire_Reader_At_ok (a0:T_wire_Reader) (M:IM) (a:Value) (c:Nat) (d:RS (Kd.int .u8) M a a0.b) (res:Int) (h:f_wire_Reader_At a0=some res):
 Tri prog 70 #[(pt c 0)] M [[(c, .cells #[a,(Iv a0.at_),(GV a0.err)] 110 (0,0))]] (f_wire_Reader_At_post a0 a c res):=by
 unfold f_wire_Reader_At at h
 refine Te func70 Z Z ?_
 intro F ρ hρ
 exact Sr (qa (Iv 0) (Ns (qM (pt c 0) (hρ 0) (qu (pt c 0) (Nk Z) (qu (pt c 1) (Fa fo110_1 Z Z) (qu (Iv a0.at_) (Lb 0 pl3 Z Z Z) (qa (Iv a0.at_) (Nt (Cr (Rf h [[(c, .cells #[a,(Iv a0.at_),(GV a0.err)] 110 (0,0))]] Z (Rs Z Z) lr ⟨Z,Z⟩))))))))))
noncomputable def f_wire_Reader_Refuse (a0:T_wire_Reader) (a1:ByteArray) (a2:Int):Option GErr:=
 ((f_wire_Reader_fail a0 a1 a0.at_ a2).bind fun a=>(some a))
def f_wire_Reader_Refuse_post (a0:T_wire_Reader) (a1:ByteArray) (a2:Int) (a:Value) (b:Nat):GErr→Value→IM→HL→Prop:=
 fun(c:GErr) (v:Value) (M':IM) (H':HL)=>(.tuple #[])=v∧H'=[[(b, .cells #[a,(.int .i64 a0.at_),(GV c)] 110 (0,0))]]
theorem f_wire_Reader_Refuse_ok (a0:T_wire_Reader) (a1:ByteArray) (a2:Int) (M:IM) (a:Value) (c:Nat) (e:RS (Kd.int .u8) M a a0.b) (res:GErr) (h:f_wire_Reader_Refuse a0 a1 a2=some res):
 Tri prog 71 #[(pt c 0),(Sv a1),(Iv a2)] M [[(c, .cells #[a,(Iv a0.at_),(GV a0.err)] 110 (0,0))]] (f_wire_Reader_Refuse_post a0 a1 a2 a c res):=by
 unfold f_wire_Reader_Refuse at h
 refine Te func71 Z Z ?_
 intro F ρ hρ
 refine Cg (qM (pt c 0) (hρ 0) (qM (Sv a1) (hρ 1) (qM (pt c 0) (hρ 0) (qu (pt c 0) (Nk Z) (qu (pt c 1) (Fa fo110_1 Z Z) (qu (Iv a0.at_) (Lb 0 pl3 Z Z Z) (qM (Iv a2) (hρ 2) ?_)))))))
 obtain ⟨f,g,h⟩:=bnd h
 refine We (Cb co69 (f_wire_Reader_fail_ok a0 a1 a0.at_ a2 _ _ _ e f g) (args4 Z Z Z Z)) Z ?_
 rintro _ i _ d ⟨_,⟨rfl,rfl⟩,rfl⟩
 exact WL.a1 (Wz (WQ.endsF h [[(c, .cells #[a,(Iv a0.at_),(GV f)] 110 (0,0))]] Z (results0 Z) d ⟨Z,Z⟩))
noncomputable def f_record_Read_1 (a0:Int) (a1:Int) (a2q:T_wire_Reader):Option (Int×Int×GErr):=
 (if(decide ((andI .i64 a1 a0)=(0:Int)))=true then(some ((0:Int),a2q.at_,a2q.err))else((f_wire_Reader_Int a2q (1073741824:Int)).bind fun(a,b,c)=>(some (a,b,c))))
def f_record_Read_1_post (a0:Int) (a1:Int) (a2q:T_wire_Reader) (v2q_0:Value) (a b g2q:Nat):(Int×Int×GErr)→Value→IM→HL→Prop:=
 fun(p_:(Int×Int×GErr)) (v:Value) (M':IM) (H':HL)=>match p_ with |(c,d,e)=>(.int .i64 c)=v∧H'=[[(a, .cells #[(.int .i64 a1)] 3 (0,0))],[(g2q, .cells #[v2q_0,(.int .i64 d),(GV e)] 110 (0,0))],[(b, .cells #[(.pointer (some ⟨g2q,0,none⟩))] 69 (0,0))]]
theorem f_record_Read_1_ok (a0:Int) (a1:Int) (a2q:T_wire_Reader) (M:IM) (v2q_0:Value) (c d g2q:Nat) (h2q_0:RS (Kd.int .u8) M v2q_0 a2q.b) (res:(Int×Int×GErr)) (h:f_record_Read_1 a0 a1 a2q=some res):
 Tri prog 99 #[(Iv a0),(pt c 0),(pt d 0)] M [[(c, .cells #[(Iv a1)] 3 (0,0))],[(g2q, .cells #[v2q_0,(Iv a2q.at_),(GV a2q.err)] 110 (0,0))],[(d, .cells #[(pt g2q 0)] 69 (0,0))]] (f_record_Read_1_post a0 a1 a2q v2q_0 c d g2q res):=by
 unfold f_record_Read_1 at h
 refine Te func99 Z Z ?_
 intro F ρ hρ
 refine Sr (qa (Iv 0) (Nt (Cs (Sr (qu (Iv a1) (Lb 0 pl3 (hρ 1) Z Z) (qM (Iv a0) (hρ 0) (qu (Iv (andI .i64 a1 a0)) (PO.and Z Z) (qu (Bv (decide ((andI .i64 a1 a0)=0))) (eql Z Z) (Nt (Ch h Z (fun e h=> ?_) (fun e h=> ?_)))))))))))
 exact Sr (qa (Iv 0) (Nt (Cr (Tr (Rf h [[(c, .cells #[(Iv a1)] 3 (0,0))],[(g2q, .cells #[v2q_0,(Iv a2q.at_),(GV a2q.err)] 110 (0,0))],[(d, .cells #[(pt g2q 0)] 69 (0,0))]] Z (Rs Z Z) lr ⟨Z,Z⟩)))))
 refine Ck (Tc (Sr (qu (pt g2q 0) (Lb 2 pl69 (hρ 2) Z Z) ?_)))
 obtain ⟨⟨f,g,i⟩,j,h⟩:=bnd h
 refine WL.f1 (We (Cb co32 (f_wire_Reader_Int_ok a2q (1073741824:Int) _ _ _ h2q_0 (f,g,i) j) (args2 Z Z)) Z ?_)
 rintro _ k _ a ⟨_,⟨rfl,rfl⟩,rfl⟩
 exact WL.a1 (qa (Iv f) (Nt (Cr (Qb (Qa (Qb (Rf h [[(c, .cells #[(Iv a1)] 3 (0,0))],[(g2q, .cells #[v2q_0,(Iv g),(GV i)] 110 (0,0))],[(d, .cells #[(pt g2q 0)] 69 (0,0))]] Z (Rs Z Z) a ⟨Z,Z⟩)))))))
noncomputable def f_record_Read_2 (a0:Int) (a1:Int) (a2q:T_wire_Reader):Option (ByteArray×Int×GErr):=
 (if(decide ((andI .i64 a1 a0)=(0:Int)))=true then(some ((⟨#[]⟩:ByteArray),a2q.at_,a2q.err))else((f_wire_Reader_Text a2q (256:Int)).bind fun(a,b,c)=>(some (strOfNums a,b,c))))
def f_record_Read_2_post (a0:Int) (a1:Int) (a2q:T_wire_Reader) (v2q_0:Value) (a b g2q:Nat):(ByteArray×Int×GErr)→Value→IM→HL→Prop:=
 fun(p_:(ByteArray×Int×GErr)) (v:Value) (M':IM) (H':HL)=>match p_ with |(c,d,e)=>(.string c)=v∧H'=[[(a, .cells #[(.int .i64 a1)] 3 (0,0))],[(g2q, .cells #[v2q_0,(.int .i64 d),(GV e)] 110 (0,0))],[(b, .cells #[(.pointer (some ⟨g2q,0,none⟩))] 69 (0,0))]]
theorem f_record_Read_2_ok (a0:Int) (a1:Int) (a2q:T_wire_Reader) (M:IM) (v2q_0:Value) (d e g2q:Nat) (h2q_0:RS (Kd.int .u8) M v2q_0 a2q.b) (res:(ByteArray×Int×GErr)) (h:f_record_Read_2 a0 a1 a2q=some res):
 Tri prog 100 #[(Iv a0),(pt d 0),(pt e 0)] M [[(d, .cells #[(Iv a1)] 3 (0,0))],[(g2q, .cells #[v2q_0,(Iv a2q.at_),(GV a2q.err)] 110 (0,0))],[(e, .cells #[(pt g2q 0)] 69 (0,0))]] (f_record_Read_2_post a0 a1 a2q v2q_0 d e g2q res):=by
 unfold f_record_Read_2 at h
 refine Te func100 Z Z ?_
 intro F ρ hρ
 refine Sr (qa (Sv ⟨#[]⟩) (Nt (Cs (Sr (qu (Iv a1) (Lb 0 pl3 (hρ 1) Z Z) (qM (Iv a0) (hρ 0) (qu (Iv (andI .i64 a1 a0)) (PO.and Z Z) (qu (Bv (decide ((andI .i64 a1 a0)=0))) (eql Z Z) (Nt (Ch h Z (fun f h=> ?_) (fun f h=> ?_)))))))))))
 exact Sr (qa (Sv ⟨#[]⟩) (Nt (Cr (Tr (Rf h [[(d, .cells #[(Iv a1)] 3 (0,0))],[(g2q, .cells #[v2q_0,(Iv a2q.at_),(GV a2q.err)] 110 (0,0))],[(e, .cells #[(pt g2q 0)] 69 (0,0))]] Z (Rs Z Z) lr ⟨Z,Z⟩)))))
 refine Ck (Tc (Sr (qu (pt g2q 0) (Lb 2 pl69 (hρ 2) Z Z) ?_)))
 obtain ⟨⟨a,g,i⟩,j,h⟩:=bnd h
 refine WL.f1 (We (Cb co35 (f_wire_Reader_Text_ok a2q (256:Int) _ _ _ h2q_0 (a,g,i) j) (args2 Z Z)) Z ?_)
 rintro _ n _ c ⟨_,⟨l,m,rfl,rfl,k⟩,rfl⟩
 exact WL.a2 (qu (Sv (strOfNums a)) (b2s (ys:=a) underlying23 underlying5 underlying9 Z (k.src 1 Z)) (qa (Sv (strOfNums a)) (Nt (Cr (Qa (Dr (Qb (Qa (Qb (Rf h [[(d, .cells #[(Iv a1)] 3 (0,0))],[(g2q, .cells #[v2q_0,(Iv g),(GV i)] 110 (0,0))],[(e, .cells #[(pt g2q 0)] 69 (0,0))]] Z (Rs Z Z) c ⟨Z,Z⟩))))))))))
noncomputable def f_wire_Reader_Row_l0 (a0:T_wire_Reader) (a2:Int) (g:Int) (s_:((List Int)×Int×Int×GErr)):Option (((List Int)×Int×Int×GErr)⊕((List Int)×Int×GErr)):=
 match s_ with
 |(a,d,e,c)=>
 (((if(decide (d<g))=true then(some c.isNil)else(some false)):Option Bool).bind fun i=>(if i=true then((f_wire_Reader_Int (⟨a0.b,e,c⟩:T_wire_Reader) a2).bind fun(f,j,k)=>(grd (a.length+[f].length≤274877906944) (some (inl (a++[f],i64.wrap (d+(1:Int)),j,k)))))else(some (inr (a,e,c)))))
noncomputable def f_wire_Reader_Row (a0:T_wire_Reader) (a1:Int) (a2:Int):Option ((List Int)×Int×GErr):=
 ((f_wire_Reader_Int a0 a1).bind fun(c,d,e)=>((((iter (f_wire_Reader_Row_l0 a0 a2 c) ([],(0:Int),d,e)).bind (fun(f,g,i)=>(some (f,g,i)))):Option ((List Int)×Int×GErr)).bind fun(j,b,a)=>(if(!a.isNil)=true then(some ([],b,a))else(some (j,b,a)))))
def f_wire_Reader_Row_post (a0:T_wire_Reader) (a1:Int) (a2:Int) (a:Value) (d:Nat):((List Int)×Int×GErr)→Value→IM→HL→Prop:=
 fun(p_:((List Int)×Int×GErr)) (v:Value) (M':IM) (H':HL)=>match p_ with |(e,f,g)=>∃ b c,b=v∧H'=[[(d, .cells #[a,(.int .i64 f),(GV g)] 110 (0,0))],c]∧OwnS (Kd.int .i64) M' b e c
theorem f_wire_Reader_Row_ok (a0:T_wire_Reader) (a1:Int) (a2:Int) (M:IM) (c:Value) (j:Nat) (v:RS (Kd.int .u8) M c a0.b) (res:((List Int)×Int×GErr)) (h:f_wire_Reader_Row a0 a1 a2=some res):
 Tri prog 102 #[(pt j 0),(Iv a1),(Iv a2)] M [[(j, .cells #[c,(Iv a0.at_),(GV a0.err)] 110 (0,0))]] (f_wire_Reader_Row_post a0 a1 a2 c j res):=by
 unfold f_wire_Reader_Row at h
 refine Te func102 Z Z ?_
 intro F ρ hρ
 refine Sr (qa Zs (Ns (qM (pt j 0) (hρ 0) (qM (Iv a1) (hρ 1) ?_))))
 obtain ⟨⟨s,b1,b2⟩,Q,h⟩:=bnd h
 refine We (Cb co32 (f_wire_Reader_Int_ok a0 a1 _ _ _ v (s,b1,b2) Q) (args2 Z Z)) Z ?_
 rintro _ R _ t ⟨_,⟨rfl,rfl⟩,rfl⟩
 refine WL.a1 (qa (Iv s) (Ns (qa Zs (Nt ?_))))
 obtain ⟨S,T,h⟩:=bnd h
 refine Jf (fun(p_:((List Int)×Int×GErr)) ρ' M' H'=>match p_ with |(U,I,A)=>∃ f o,R.le M'∧[(j, .cells #[c,(Iv I),(GV A)] 110 (0,0))]::o::F=H'∧ρ' 0=(pt j 0)∧ρ' 8=f∧OwnS (Kd.int .i64) M' f U o) S ?_ ?_
 have h:=T
 refine Sr (qa (Iv 0) (Nt (Bk (WC.e0 (WC.f1 ?_)))))
 obtain ⟨b8,V,W⟩:=bnd h
 clear h
 refine WC.loop V (fun(p_:((List Int)×Int×Int×GErr)) ρ' M' H'=>match p_ with |(B,e,C,p)=>∃ g q,R.le M'∧[(j, .cells #[c,(Iv C),(GV p)] 110 (0,0))]::q::F=H'∧ρ' 0=(pt j 0)∧ρ' 2=(Iv a2)∧ρ' 7=(Iv s)∧ρ' 8=g∧ρ' 9=(Iv e)∧OwnS (Kd.int .i64) M' g B q) ?_ ?_
 exact⟨Zs,[],lr,Z,(hρ 0),(hρ 2),Z,Z,Z,(OwnS.nil _ _)⟩
 rintro ⟨B,e,C,p⟩ b9 c0 b3 c1 h ⟨g,q,u,rfl,k,w,l,x,m,i⟩
 unfold f_wire_Reader_Row_l0 at h
 refine Cs ?_
 obtain ⟨O,X,h⟩:=bnd h
 refine Jf (fun(O:Bool) ρ' M' H'=>b3.le M'∧[(j, .cells #[c,(Iv C),(GV p)] 110 (0,0))]::q::F=H'∧ρ' 0=(pt j 0)∧ρ' 2=(Iv a2)∧ρ' 7=(Iv s)∧ρ' 8=g∧ρ' 9=(Iv e)∧ρ' 22=(Bv O)) O ?_ ?_
 have h:=X
 refine Cg (qM (Iv e) m (qM (Iv s) l (qu (Bv (decide (e<s))) (lss Z Z) (qm (Bv (decide (e<s))) ?_))))
 rcases Bi h with⟨a,h⟩ |⟨a,h⟩
 refine On 16 Z Z a (qM (pt j 0) k (qo 16 a (pt j 0) (Nk Z) (qo 16 a (pt j 2) (Fa fo110_2 Z Z) (qo 16 a (GV p) (Lb 0 pl31 Z Z Z) (qo 16 a (Bv p.isNil) (errNil underlying31 Z) (qu (Bv p.isNil) (Pt Z a Z) (Wz ?_)))))))
 obtain rfl:=oi h
 exact Tj ⟨lr,Z,k,w,l,x,m,Z⟩
 iterate 5 refine Of 16 Z Z a Z ?_
 refine qu (Bv false) (Pf Z a Z) (Wz ?_)
 obtain rfl:=oi h
 exact Tj ⟨lr,Z,k,w,l,x,m,Z⟩
 rintro c2 c3 c4 ⟨d,rfl,n,y,J,z,K,D⟩
 refine Ch h D (fun Y h=> ?_) (fun Y h=> ?_)
 refine Ck (Tc (Cs (Bk (Cg (qM g z (qM (pt j 0) n (qM (Iv a2) y ?_)))))))
 obtain ⟨⟨r,a3,a4⟩,a5,h⟩:=bnd h
 have v:=v.mono ((t.trans u).trans d)
 refine We (Cb co32 (f_wire_Reader_Int_ok (⟨a0.b,C,p⟩:T_wire_Reader) a2 _ _ _ v (r,a3,a4) a5) (args2 Z Z)) Z ?_
 rintro _ b4 _ E ⟨_,⟨rfl,rfl⟩,rfl⟩
 refine WL.a1 (We (buildSliceL (cl:=[(Iv r)]) underlying56 iz3 Z (Pc (Iv r) Z Z Pz) Z) Z ?_)
 rintro _ _ _ - ⟨rfl,a6,rfl,rfl⟩
 have b5:OwnS (Kd.int .i64) b4 (.slice (some ⟨a6,0,none⟩) 1 1) [r] [(a6, .cells #[(Iv r)] 3 (0,0))]:=OwnS.rows (css:=[[(Iv r)]]) (Rows.cons Z Rows.nil) Z Z
 obtain ⟨a7,h⟩:=grd_i h
 refine Wb ?_
 have i:=i.mono (d.trans E)
 refine We (append (dd:=(Kd.int .i64)) (xs:=B) (ys:=[r]) underlying56 underlying56 in3 Z (appB (by decide) a7) (by decide) Z Z i (b5.src 1 Z)) Z ?_
 rintro a8 _ _ - ⟨rfl,b6,rfl,b7⟩
 refine qa a8 (Wz (Bn (Tc (Cg (qM (Iv e) K (qu (Iv (i64.wrap (e+1))) (add Z Z) (qa (Iv (i64.wrap (e+1))) (Wz (Qa (Dr (Qa ?_)))))))))))
 exact WQ.again (B++[r],i64.wrap (e+1),a3,a4) (oi h).symm ⟨a8,b6,((u.trans d).trans E),Z,n,y,J,Z,Z,b7⟩
 refine WC.exit (WQ.thenE (WQ.leaveE (B,C,p) (oi h).symm (fun P=> ?_)))
 subst P
 have h:=W
 refine WQ.blockH ?_
 obtain rfl:=oi h
 refine Tj ?_
 have i:=i.mono d
 exact⟨g,q,(u.trans d),Z,n,z,i⟩
 obtain ⟨U,I,A⟩:=S
 rintro c5 c6 c7 ⟨f,o,G,rfl,L,N,a9⟩
 refine Cs (Sr (qM (pt j 0) L (qu (pt j 0) (Nk Z) (qu (pt j 2) (Fa fo110_2 Z Z) (qu (GV A) (Lb 0 pl31 Z Z Z) (qu (Bv (!A.isNil)) (errNotNil underlying31 Z) (Nt (Ch h Z (fun b0 h=> ?_) (fun b0 h=> ?_)))))))))
 exact Sr (qa Zs (Nt (Cr (Tr (WQ.e0 (Qb (Dr (Qa (Rf h [[(j, .cells #[c,(Iv I),(GV A)] 110 (0,0))],[]] Z (Rs Z Z) (t.trans G) ⟨Zs,[],Z,Z,(OwnS.nil _ _)⟩)))))))))
 exact Ck (Tc (Sr (qM f N (qa f (Nt (Cr (Rf h [[(j, .cells #[c,(Iv I),(GV A)] 110 (0,0))],o] Z (Rs Z Z) (t.trans G) ⟨f,o,Z,Z,a9⟩)))))))
noncomputable def f_record_Read_3 (a0:Int) (a1:Int) (a2q:T_wire_Reader):Option ((List Int)×Int×GErr):=
 (if(decide ((andI .i64 a1 a0)=(0:Int)))=true then(some ([],a2q.at_,a2q.err))else((f_wire_Reader_Row a2q (7:Int) (64:Int)).bind fun(a,b,c)=>(some (a,b,c))))
def f_record_Read_3_post (a0:Int) (a1:Int) (a2q:T_wire_Reader) (v2q_0:Value) (c d g2q:Nat):((List Int)×Int×GErr)→Value→IM→HL→Prop:=
 fun(p_:((List Int)×Int×GErr)) (v:Value) (M':IM) (H':HL)=>match p_ with |(e,f,g)=>∃ a b,a=v∧H'=[[(c, .cells #[(.int .i64 a1)] 3 (0,0))],[(g2q, .cells #[v2q_0,(.int .i64 f),(GV g)] 110 (0,0))],[(d, .cells #[(.pointer (some ⟨g2q,0,none⟩))] 69 (0,0))],b]∧OwnS (Kd.int .i64) M' a e b
theorem f_record_Read_3_ok (a0:Int) (a1:Int) (a2q:T_wire_Reader) (M:IM) (v2q_0:Value) (e f g2q:Nat) (h2q_0:RS (Kd.int .u8) M v2q_0 a2q.b) (res:((List Int)×Int×GErr)) (h:f_record_Read_3 a0 a1 a2q=some res):
 Tri prog 101 #[(Iv a0),(pt e 0),(pt f 0)] M [[(e, .cells #[(Iv a1)] 3 (0,0))],[(g2q, .cells #[v2q_0,(Iv a2q.at_),(GV a2q.err)] 110 (0,0))],[(f, .cells #[(pt g2q 0)] 69 (0,0))]] (f_record_Read_3_post a0 a1 a2q v2q_0 e f g2q res):=by
 unfold f_record_Read_3 at h
 refine Te func101 Z Z ?_
 intro F ρ hρ
 refine Sr (qa Zs (Nt (Cs (Sr (qu (Iv a1) (Lb 0 pl3 (hρ 1) Z Z) (qM (Iv a0) (hρ 0) (qu (Iv (andI .i64 a1 a0)) (PO.and Z Z) (qu (Bv (decide ((andI .i64 a1 a0)=0))) (eql Z Z) (Nt (Ch h Z (fun g h=> ?_) (fun g h=> ?_)))))))))))
 exact Sr (qa Zs (Nt (Cr (Tr (WQ.e0 (WQ.f3 (WQ.f3 (WQ.f3 (Rf h [[(e, .cells #[(Iv a1)] 3 (0,0))],[(g2q, .cells #[v2q_0,(Iv a2q.at_),(GV a2q.err)] 110 (0,0))],[(f, .cells #[(pt g2q 0)] 69 (0,0))],[]] Z (Rs Z Z) lr ⟨Zs,[],Z,Z,(OwnS.nil _ _)⟩)))))))))
 refine Ck (Tc (Sr (qu (pt g2q 0) (Lb 2 pl69 (hρ 2) Z Z) ?_)))
 obtain ⟨⟨m,i,j⟩,k,h⟩:=bnd h
 refine WL.f1 (We (Cb co102 (f_wire_Reader_Row_ok a2q (7:Int) (64:Int) _ _ _ h2q_0 (m,i,j) k) (args3 Z Z Z)) Z ?_)
 rintro _ n _ d ⟨_,⟨a,c,rfl,rfl,l⟩,rfl⟩
 exact WL.a2 (qa a (Nt (Cr (Qa (WQ.f3 (Qb (WQ.f3 (Rf h [[(e, .cells #[(Iv a1)] 3 (0,0))],[(g2q, .cells #[v2q_0,(Iv i),(GV j)] 110 (0,0))],[(f, .cells #[(pt g2q 0)] 69 (0,0))],c] Z (Rs Z Z) d ⟨a,c,Z,Z,l⟩))))))))
noncomputable def f_api_Fault_Unwrap (a0:T_api_Fault):Option GErr:=
 (some a0.Err)
def f_api_Fault_Unwrap_post (a0:T_api_Fault):GErr→Value→IM→HL→Prop:=
 fun(a:GErr) (v:Value) (M':IM) (H':HL)=>(GV a)=v∧H'=[]
theorem f_api_Fault_Unwrap_ok (a0:T_api_Fault) (M:IM) (res:GErr) (h:f_api_Fault_Unwrap a0=some res):
 Tri prog 168 #[(a108_ a0)] M [] (f_api_Fault_Unwrap_post a0 res):=by
 unfold f_api_Fault_Unwrap at h
 refine Te func168 Z Z ?_
 intro F ρ hρ
 refine Sr (We (box (cs:=(l108 a0).toArray) (congrArg Value.cells (asE (a108_ a0) (hρ 0)))) Z ?_)
 rintro _ _ _ - ⟨rfl,a,rfl,rfl⟩
 exact qa (GV GErr.nil) (Ns (qu (pt a 2) (Fa fo108_2 Z Z) (qu (GV a0.Err) (Lb 0 pl31 Z Z Z) (qa (GV a0.Err) (Nt (Cr (Dr (Rf h [] Z (Rs Z Z) lr ⟨Z,Z⟩))))))))
noncomputable def f_errors_as_code_l0 (a1:Int) (s_:GErr):Option (GErr⊕(Bool×Int)):=
 match s_ with
 |b=>
 (match b with | .nil=>none | .code c=>(some (inr (true,c))) | .fault d a28 e=>((f_api_Fault_Unwrap (⟨d,a28,e⟩:T_api_Fault)).bind fun a=>(if a.isNil=true then(some (inr (false,a1)))else(some (inl a)))) | .other f=>(some (inr (false,a1))))
noncomputable def f_errors_as_code (a0:GErr) (a1:Int):Option (Bool×Int):=
 ((iter (f_errors_as_code_l0 a1) a0).bind (fun(a,b)=>(some (a,b))))
def f_errors_as_code_post (a0:GErr) (a1:Int) (a b:Nat):(Bool×Int)→Value→IM→HL→Prop:=
 fun(p_:(Bool×Int)) (v:Value) (M':IM) (H':HL)=>match p_ with |(c,d)=>(.bool c)=v∧H'=[[(a, .cells #[(.int .i64 d)] 38 (0,0))],[(b, .cells #[(.pointer (some ⟨a,0,none⟩))] 119 (0,0))]]
theorem f_errors_as_code_ok (a0:GErr) (a1:Int) (M:IM) (k m:Nat) (res:(Bool×Int)) (h:f_errors_as_code a0 a1=some res):
 Tri prog 111 #[(GV a0),(.iface 119 (pt k 0)),(.agg #[(pt 1 119),(pt m 0),(Uv 150)]),(.iface 184 (.agg #[.pointer (some ⟨1,38,none⟩)]))] M [[(k, .cells #[(Iv a1)] 38 (0,0))],[(m, .cells #[(pt k 0)] 119 (0,0))]] (f_errors_as_code_post a0 a1 k m res):=by
 unfold f_errors_as_code at h
 refine Te func111 Z Z ?_
 intro F ρ hρ
 refine Sr (We (box (cs:=#[(pt 1 119),(pt m 0),(Uv 150)]) (congrArg Value.cells (asE (.agg #[(pt 1 119),(pt m 0),(Uv 150)]) (hρ 2)))) Z ?_)
 rintro _ _ _ - ⟨rfl,u,rfl,rfl⟩
 refine qa (Bv false) (Nt (Bk ?_))
 obtain ⟨A,w,n⟩:=bnd h
 clear h
 refine WC.loop w (fun(s:GErr) ρ' M' H'=>M.le M'∧[(u, .cells #[(pt 1 119),(pt m 0),(Uv 150)] 153 (0,0))]::[(k, .cells #[(Iv a1)] 38 (0,0))]::[(m, .cells #[(pt k 0)] 119 (0,0))]::F=H'∧ρ' 0=(GV s)∧ρ' 1=(.iface 119 (pt k 0))∧ρ' 3=(.iface 184 (.agg #[.pointer (some ⟨1,38,none⟩)]))∧ρ' 6=(pt u 0)) ?_ ?_
 exact⟨lr,Z,(hρ 0),(hρ 1),(hρ 3),Z⟩
 rintro s B C D E h ⟨g,rfl,a,t,c,l⟩
 unfold f_errors_as_code_l0 at h
 refine Bk (Cs (Sr (qM (GV s) a ?_)))
 rcases s with _ |i |⟨d,a28,e⟩ |j
 refine We (extP xt91 (args1 (show ev _ _= .nilIface from Z)) tyNil) Z ?_
 rintro _ _ _ - ⟨rfl,rfl,rfl⟩
 exact qM (.iface 184 (.agg #[.pointer (some ⟨1,38,none⟩)])) c (nones h)
 refine We (extP xt91 (args1 (show ev _ _=(.iface 38 (Iv i)) from Z)) (ty38 _)) Z ?_
 rintro _ _ _ - ⟨rfl,rfl,rfl⟩
 refine qM (.iface 184 (.agg #[.pointer (some ⟨1,38,none⟩)])) c (We (invE (show ev _ _=(.iface 184 (.agg #[.pointer (some ⟨1,38,none⟩)])) from Z) (mm_AssignableTo (pt 1 38)) xt173 (inv1 Z) mr_AssignableTo_38_38) Z ?_)
 rintro _ _ _ - ⟨rfl,rfl,rfl⟩
 refine Nt (WC.condT (b:=true) Z Z (Sr (qu (.agg #[(pt 1 119),(pt m 0),(Uv 150)]) (La (cs:=[(pt 1 119),(pt m 0),(Uv 150)]) 0 ag153 sz153 l Z Z) (We (rvElem (r:=fun p=> .agg #[(pt 1 38), .pointer (some p), .int .u64 386]) 2 xt137 pp119_150 Z pl119 el119 mk38 (args1 (show ev _ _=(.agg #[(pt 1 119),(pt m 0),(Uv 150)]) from Z)) Z) Z ?_))))
 rintro _ _ _ - ⟨rfl,rfl,rfl⟩
 refine qM (GV (GErr.code i)) a (We (valueOf xt108 (args1 (show ev _ _=(.iface 38 (Iv i)) from Z)) (vo38 i)) Z ?_)
 rintro _ _ _ - ⟨rfl,z,rfl,rfl⟩
 refine Wb (We (rvSet (arr:=[(Iv a1)]) (vl:=[(Iv i)]) (v:=(Iv i)) xt138 pp38_386 pp38_130 Z da38 (args2 (show ev _ _=(.agg #[(pt 1 38),(pt k 0),(Uv 386)]) from Z) (show ev _ _=(.agg #[(pt 1 38),(pt z 0),(Uv 130)]) from Z)) (fun _ hs=>run_loadPlain pl38 (hs.cellC 1 Z (chunkCell_lit.trans Z))) Z sz38 Z (onb Z)) Z ?_)
 rintro _ _ _ - ⟨rfl,rfl,rfl⟩
 refine Ns (qa (Bv true) (Nt (Cr (Tr (Br (WQ.leaveR (true,i) (oi h).symm (fun f=> ?_)))))))
 subst f
 have h:=n
 exact Br (Qa (Dr (Qa (Dr (Rf h [[(k, .cells #[(Iv i)] 38 (0,0))],[(m, .cells #[(pt k 0)] 119 (0,0))]] Z (Rs Z Z) g ⟨Z,Z⟩)))))
 refine We (extP xt91 (args1 (show ev _ _=(.iface 108 (.agg #[.string d, .int .i64 a28,GV e])) from Z)) (ty108 _)) Z ?_
 rintro _ _ _ - ⟨rfl,rfl,rfl⟩
 refine qM (.iface 184 (.agg #[.pointer (some ⟨1,38,none⟩)])) c (We (invE (show ev _ _=(.iface 184 (.agg #[.pointer (some ⟨1,108,none⟩)])) from Z) (mm_AssignableTo (pt 1 108)) xt173 (inv1 Z) mr_AssignableTo_108_38) Z ?_)
 rintro _ _ _ - ⟨rfl,rfl,rfl⟩
 refine Nt (WC.condF (b:=false) Z Z (Ck (Tc (Cs (Sr (qM (GV (GErr.fault d a28 e)) a (qu (.tuple #[.nilIface,(Bv false)]) (asserts (show ev _ _=(.iface 108 (.agg #[.string d, .int .i64 a28,GV e])) from Z) (la108_196 _ _)) (qm (.tuple #[.nilIface,(Bv false)]) (qu .nilIface (Xt Z Z) (qu (Bv false) (Xt Z Z) (qa .nilIface ?_)))))))))))
 refine qa (Bv false) (Ns (qm (Bv false) (qm (Bv false) ?_)))
 iterate 3 refine Of 31 Z Z Z Z ?_
 refine qu (Bv false) (Pf Z Z Z) (Nt (WC.condF (b:=false) Z Z (Ck (Tc (Sr (qM (GV (GErr.fault d a28 e)) a (Nt (Bk (Sr (qu (.tuple #[(GV (GErr.fault d a28 e)),(Bv true)]) (asserts (show ev _ _=(.iface 108 (.agg #[.string d, .int .i64 a28,GV e])) from Z) (ha108_189 _ _)) (qu (Bv true) (Xt Z Z) ?_)))))))))))
 refine qu (GV (GErr.fault d a28 e)) (Xt Z Z) (Nt (WC.condT (b:=true) Z Z (Sr (qa (GV (GErr.fault d a28 e)) (Ns (qm (GV (GErr.fault d a28 e)) ?_))))))
 obtain ⟨o,x,h⟩:=bnd h
 refine We (invT (show ev _ _=(.iface 108 (.agg #[.string d, .int .i64 a28,GV e])) from Z) (me108_Unwrap _) co168 inv0 (f_api_Fault_Unwrap_ok (⟨d,a28,e⟩:T_api_Fault) _ o x)) Z ?_
 rintro _ G _ q ⟨_,⟨rfl,rfl⟩,rfl⟩
 refine WL.a0 (qa (GV o) (Ns (qm (GV o) (qu (Bv o.isNil) (errNil underlying31 Z) (Nt (Ch h Z (fun y h=> ?_) (fun y h=> ?_)))))))
 refine Sr (qa (Bv false) (Nt (Cr (Br (Br (WQ.leaveR (false,a1) (oi h).symm (fun f=> ?_)))))))
 subst f
 have h:=n
 exact Br (Dr (Rf h [[(k, .cells #[(Iv a1)] 38 (0,0))],[(m, .cells #[(pt k 0)] 119 (0,0))]] Z (Rs Z Z) (g.trans q) ⟨Z,Z⟩))
 exact Ck (Bn (Bn (WQ.again o (oi h).symm ⟨(g.trans q),Z,Z,t,c,l⟩)))
 refine We (extP xt91 (args1 (show ev _ _=(.iface 0 (.pointer (some j))) from Z)) (ty0 _)) Z ?_
 rintro _ _ _ - ⟨rfl,rfl,rfl⟩
 refine qM (.iface 184 (.agg #[.pointer (some ⟨1,38,none⟩)])) c (We (invE (show ev _ _=(.iface 184 (.agg #[.pointer (some ⟨1,0,none⟩)])) from Z) (mm_AssignableTo (pt 1 0)) xt173 (inv1 Z) mr_AssignableTo_0_38) Z ?_)
 rintro _ _ _ - ⟨rfl,rfl,rfl⟩
 refine Nt (WC.condF (b:=false) Z Z (Ck (Tc (Cs (Sr (qM (GV (GErr.other j)) a (qu (.tuple #[.nilIface,(Bv false)]) (asserts (show ev _ _=(.iface 0 (.pointer (some j))) from Z) (la0_196 _ _)) (qm (.tuple #[.nilIface,(Bv false)]) (qu .nilIface (Xt Z Z) (qu (Bv false) (Xt Z Z) (qa .nilIface ?_)))))))))))
 refine qa (Bv false) (Ns (qm (Bv false) (qm (Bv false) ?_)))
 iterate 3 refine Of 31 Z Z Z Z ?_
 refine qu (Bv false) (Pf Z Z Z) (Nt (WC.condF (b:=false) Z Z (Ck (Tc (Sr (qM (GV (GErr.other j)) a (Nt (Bk (Sr (qu (.tuple #[.nilIface,(Bv false)]) (asserts (show ev _ _=(.iface 0 (.pointer (some j))) from Z) (la0_189 _ _)) (qu (Bv false) (Xt Z Z) ?_)))))))))))
 refine qu .nilIface (Xt Z Z) (Nt (WC.condF (b:=false) Z Z (Sr (qu (.tuple #[.nilIface,(Bv false)]) (asserts (show ev _ _=(.iface 0 (.pointer (some j))) from Z) (la0_190 _ _)) (qu (Bv false) (Xt Z Z) (qu .nilIface (Xt Z Z) (Nt (WC.condF (b:=false) Z Z (Sr (qa (GV (GErr.other j)) (Ns ?_)))))))))))
 refine qa (Bv false) (Nt (Cr (Br (Br (WQ.leaveR (false,a1) (oi h).symm (fun f=> ?_))))))
 subst f
 have h:=n
 exact Br (Dr (Rf h [[(k, .cells #[(Iv a1)] 38 (0,0))],[(m, .cells #[(pt k 0)] 119 (0,0))]] Z (Rs Z Z) g ⟨Z,Z⟩))
noncomputable def f_errors_As_code (a0:GErr) (a1:Int):Option (Bool×Int):=
 (if a0.isNil=true then(some (false,a1))else((f_errors_as_code a0 a1).bind fun(a,b)=>(some (a,b))))
def f_errors_As_code_post (a0:GErr) (a1:Int) (a:Nat):(Bool×Int)→Value→IM→HL→Prop:=
 fun(p_:(Bool×Int)) (v:Value) (M':IM) (H':HL)=>match p_ with |(b,c)=>(.bool b)=v∧H'=[[(a, .cells #[(.int .i64 c)] 38 (0,0))]]
theorem f_errors_As_code_ok (a0:GErr) (a1:Int) (M:IM) (c:Nat) (hE:Env M) (res:(Bool×Int)) (h:f_errors_As_code a0 a1=some res):
 Tri prog 75 #[(GV a0),(.iface 119 (pt c 0))] M [[(c, .cells #[(Iv a1)] 38 (0,0))]] (f_errors_As_code_post a0 a1 c res):=by
 unfold f_errors_As_code at h
 refine Te func75 Z Z ?_
 intro F ρ hρ
 refine Sr (qa (Bv false) (Nt (Cs (Sr (qM (GV a0) (hρ 0) (qu (Bv a0.isNil) (errNil underlying31 Z) (Nt (Ch h Z (fun e h=> ?_) (fun e h=> ?_)))))))))
 exact Sr (qa (Bv false) (Nt (Cr (Tr (Rf h [[(c, .cells #[(Iv a1)] 38 (0,0))]] Z (Rs Z Z) lr ⟨Z,Z⟩)))))
 refine Ck (Tc (Cs (Sr (qM (.iface 119 (pt c 0)) (hρ 1) (qu (Bv false) (ifcNil underlying20 Z) (Nt (WC.condF (b:=false) Z Z (Ck (Tc (Sr (qM (.iface 119 (pt c 0)) (hρ 1) ?_)))))))))))
 refine We (valueOf xt108 (args1 (show ev _ _=(.iface 119 (pt c 0)) from Z)) (vo119 ⟨c,0,none⟩)) Z ?_
 rintro _ _ _ - ⟨rfl,a,rfl,rfl⟩
 refine We (Al ze153 Z) Z ?_
 rintro _ _ _ - ⟨rfl,j,rfl,rfl⟩
 refine We (Sg (v:=(.agg #[(pt 1 119),(pt a 0),(Uv 150)])) (vl:=[(pt 1 119),(pt a 0),(Uv 150)]) (arr':=[(pt 1 119),(pt a 0),(Uv 150)]) Z sz153 Z Z (onb Z) Z Z Z) Z ?_
 rintro _ _ _ - ⟨rfl,rfl⟩
 refine Ns (qu (.agg #[(pt 1 119),(pt a 0),(Uv 150)]) (La (cs:=[(pt 1 119),(pt a 0),(Uv 150)]) 0 ag153 sz153 Z Z Z) (We (extP xt109 (args1 (show ev _ _=(.agg #[(pt 1 119),(pt a 0),(Uv 150)]) from Z)) (vt119_150 _)) Z ?_))
 rintro _ _ _ - ⟨rfl,rfl,rfl⟩
 refine qa (.iface 184 (.agg #[.pointer (some ⟨1,119,none⟩)])) (Nt (Cs (Sr (qm (.iface 184 (.agg #[.pointer (some ⟨1,119,none⟩)])) (We (invE (show ev _ _=(.iface 184 (.agg #[.pointer (some ⟨1,119,none⟩)])) from Z) (mm_Kind (pt 1 119)) xt163 inv0 mr_Kind_119) Z ?_)))))
 rintro _ _ _ - ⟨rfl,rfl,rfl⟩
 refine qu (Bv false) (neqR Z Z (by decide)) (qm (Bv false) (qo 20 Z (.agg #[(pt 1 119),(pt a 0),(Uv 150)]) (La (cs:=[(pt 1 119),(pt a 0),(Uv 150)]) 0 ag153 sz153 Z Z Z) (On 20 Z Z Z (We (isNil 1 xt110 pp119_150 Z pl119 (args1 (show ev _ _=(.agg #[(pt 1 119),(pt a 0),(Uv 150)]) from Z)) Z) Z ?_))))
 rintro _ _ _ - ⟨rfl,rfl,rfl⟩
 refine qu (Bv false) (Pf Z Z Z) (Nt (WC.condF (b:=false) Z Z (Ck (Tc (Sr (qm (.iface 184 (.agg #[.pointer (some ⟨1,119,none⟩)])) (We (invE (show ev _ _=(.iface 184 (.agg #[.pointer (some ⟨1,119,none⟩)])) from Z) (mm_Elem (pt 1 119)) xt175 inv0 mr_Elem_119) Z ?_)))))))
 rintro _ _ _ - ⟨rfl,rfl,rfl⟩
 refine qa (.iface 184 (.agg #[.pointer (some ⟨1,38,none⟩)])) (Nt (Cs (Sr (qm (.iface 184 (.agg #[.pointer (some ⟨1,38,none⟩)])) (We (invE (show ev _ _=(.iface 184 (.agg #[.pointer (some ⟨1,38,none⟩)])) from Z) (mm_Kind (pt 1 38)) xt163 inv0 mr_Kind_38) Z ?_)))))
 rintro _ _ _ - ⟨rfl,rfl,rfl⟩
 refine qu (Bv true) (neqR Z Z (by decide)) (qm (Bv true) (On 30 Z Z Z (qm (.iface 184 (.agg #[.pointer (some ⟨1,38,none⟩)])) (qo 30 Z (.iface 184 (.agg #[.pointer (some ⟨1,31,none⟩)])) (loadG pl138 hE) (On 30 Z Z Z (We (invE (show ev _ _=(.iface 184 (.agg #[.pointer (some ⟨1,38,none⟩)])) from Z) (mm_Implements (pt 1 38)) xt176 (inv1 Z) mr_Implements_38_31) Z ?_))))))
 rintro _ _ _ - ⟨rfl,rfl,rfl⟩
 refine qo 30 Z (Bv (!true)) (PO.not Z) (qu (Bv (!true)) (Pt Z Z Z) (Nt (WC.condF (b:= !true) Z Z (Ck (Tc (Sr (qM (GV a0) (hρ 0) (qM (.iface 119 (pt c 0)) (hρ 1) (qu (.agg #[(pt 1 119),(pt a 0),(Uv 150)]) (La (cs:=[(pt 1 119),(pt a 0),(Uv 150)]) 0 ag153 sz153 Z Z Z) (qm (.iface 184 (.agg #[.pointer (some ⟨1,38,none⟩)])) ?_))))))))))
 obtain ⟨⟨f,g⟩,i,h⟩:=bnd h
 refine WL.f1 (Wb (We (EO.call2 co111 (f_errors_as_code_ok a0 a1 _ _ _ (f,g) i) (args4 Z Z Z Z)) Z ?_))
 rintro _ k _ d ⟨_,⟨rfl,rfl⟩,rfl⟩
 exact WL.a2 (qa (Bv f) (Nt (Cr (Qa (Dr (Qa (Dr (Rf h [[(c, .cells #[(Iv g)] 38 (0,0))]] Z (Rs Z Z) d ⟨Z,Z⟩))))))))
noncomputable def f_fault_Of (a0:GErr):Option Int:=
 (if a0.isNil=true then(some (0:Int))else((f_errors_As_code a0 (0:Int)).bind fun(a,b)=>(if a=true then(some b)else(some (21:Int)))))
def f_fault_Of_post (a0:GErr):Int→Value→IM→HL→Prop:=
 fun(a:Int) (v:Value) (M':IM) (H':HL)=>(.int .i64 a)=v∧H'=[]
theorem f_fault_Of_ok (a0:GErr) (M:IM) (hE:Env M) (res:Int) (h:f_fault_Of a0=some res):
 Tri prog 45 #[(GV a0)] M [] (f_fault_Of_post a0 res):=by
 unfold f_fault_Of at h
 refine Te func45 Z Z ?_
 intro F ρ hρ
 refine Sr (qa (Iv 0) (Nt (Cs (Sr (qM (GV a0) (hρ 0) (qu (Bv a0.isNil) (errNil underlying31 Z) (Nt (Ch h Z (fun c h=> ?_) (fun c h=> ?_)))))))))
 exact Sr (qa (Iv 0) (Nt (Cr (Tr (Rf h [] Z (Rs Z Z) lr ⟨Z,Z⟩)))))
 refine Ck (Tc (Sr (We (Al ze38 Z) Z ?_)))
 rintro _ _ _ - ⟨rfl,f,rfl,rfl⟩
 refine Nt (Cs (Sr (qM (GV a0) (hρ 0) (qu (.iface 119 (pt f 0)) (makeInterface cc119 Z) ?_))))
 obtain ⟨⟨g,b⟩,d,h⟩:=bnd h
 refine We (Cb co75 (f_errors_As_code_ok a0 (0:Int) _ _ hE (g,b) d) (args2 Z Z)) Z ?_
 rintro _ i _ a ⟨_,⟨rfl,rfl⟩,rfl⟩
 refine WL.a1 (Nt (Ch h Z (fun e h=> ?_) (fun e h=> ?_)))
 exact Sr (qu (Iv b) (Lb 0 pl38 Z Z Z) (qa (Iv b) (Nt (Cr (Tr (Dr (Rf h [] Z (Rs Z Z) a ⟨Z,Z⟩)))))))
 exact Ck (Tc (Sr (qa (Iv 21) (Nt (Cr (Dr (Rf h [] Z (Rs Z Z) a ⟨Z,Z⟩)))))))

end Go.Proofs.YtkflneabcannnaaGreatDoor.G
