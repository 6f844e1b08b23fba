/- Go functions: what they come to, and that they do. Printed by a program of the session (gen). -/
import Derived.Test.YtpcbipcdfccnnaaGreatYF
import Derived.Test.YtpcbipcdfccnnaaGreatY5
import Derived.Test.YtpcbipcdfccnnaaGreatY6
import Derived.Test.YtpcbipcdfccnnaaGreatY10
import Derived.Test.YtpcbipcdfccnnaaGreatY13
import Derived.Test.YtpcbipcdfccnnaaGreatKShar2
import Derived.Test.YtpcbipcdfccnnaaGreatKConv
import Derived.Test.YtpcbipcdfccnnaaGreatKMap
import Derived.Test.YtpcbipcdfccnnaaGreatKTight2
set_option linter.unusedVariables false
set_option linter.unusedSimpArgs false
set_option maxHeartbeats 8000000
set_option maxRecDepth 100000
namespace Go.Proofs.YtpcbipcdfccnnaaGreat.G
open Go Go.KK

noncomputable def f_ref15_Same_l0 (a0:T_api_Image) (a1:T_api_Image) (s_:Int):Option (Int⊕(Unit⊕Unit)):=
 match s_ with
 |x32=>
 (if(decide (x32<(a0.Brokers.length:Int)))=true then(grd (0≤x32∧x32<a0.Brokers.length) (grd (0≤x32∧x32<a1.Brokers.length) (if(!(andL [decide (((rd a0.Brokers x32).Id)=((rd a1.Brokers x32).Id)),decide (((rd a0.Brokers x32).Epoch)=((rd a1.Brokers x32).Epoch)),((rd a0.Brokers x32).Rack)==((rd a1.Brokers x32).Rack),((rd a0.Brokers x32).Fenced)==((rd a1.Brokers x32).Fenced),((rd a0.Brokers x32).Leaving)==((rd a1.Brokers x32).Leaving)]))=true then(some (Sum.inr (Sum.inr ())))else(some (Sum.inl (IntKind.i64.wrap (x32+(1:Int))))))))else(some (Sum.inr (Sum.inl ()))))
noncomputable def f_ref15_Same_l1 (a0:T_api_Image) (a1:T_api_Image) (s_:Int):Option (Int⊕(Unit⊕Unit)):=
 match s_ with
 |x51=>
 (if(decide (x51<(a0.Topics.length:Int)))=true then(grd (0≤x51∧x51<a0.Topics.length) (grd (0≤x51∧x51<a1.Topics.length) ((f_ref15_sameTopic (rd a0.Topics x51) (rd a1.Topics x51)).bind fun r67=>(if(!r67)=true then(some (Sum.inr (Sum.inr ())))else(some (Sum.inl (IntKind.i64.wrap (x51+(1:Int)))))))))else(some (Sum.inr (Sum.inl ()))))
noncomputable def f_ref15_Same_l2 (a0:T_api_Image) (a1:T_api_Image) (s_:Int):Option (Int⊕(Unit⊕Unit)):=
 match s_ with
 |x75=>
 (if(decide (x75<(a0.Configs.length:Int)))=true then(grd (0≤x75∧x75<a0.Configs.length) (grd (0≤x75∧x75<a1.Configs.length) (if(!(andL [decide (((rd a0.Configs x75).Topic)=((rd a1.Configs x75).Topic)),((rd a0.Configs x75).Key)==((rd a1.Configs x75).Key),((rd a0.Configs x75).Value)==((rd a1.Configs x75).Value)]))=true then(some (Sum.inr (Sum.inr ())))else(some (Sum.inl (IntKind.i64.wrap (x75+(1:Int))))))))else(some (Sum.inr (Sum.inl ()))))
noncomputable def f_ref15_Same_l3 (a0:T_api_Image) (a1:T_api_Image) (s_:Int):Option (Int⊕(Unit⊕Unit)):=
 match s_ with
 |x94=>
 (if(decide (x94<(a0.Done.length:Int)))=true then(grd (0≤x94∧x94<a0.Done.length) (grd (0≤x94∧x94<a1.Done.length) (if(!(andL [decide (((rd a0.Done x94).Client)=((rd a1.Done x94).Client)),decide (((rd a0.Done x94).Serial)=((rd a1.Done x94).Serial)),decide (((rd a0.Done x94).Code)=((rd a1.Done x94).Code))]))=true then(some (Sum.inr (Sum.inr ())))else(some (Sum.inl (IntKind.i64.wrap (x94+(1:Int))))))))else(some (Sum.inr (Sum.inl ()))))
noncomputable def f_ref15_Same (a0:T_api_Image) (a1:T_api_Image):Option Bool:=
 (((if(decide (a0.Last≠a1.Last))=true then(some true)else(if(decide ((a0.Brokers.length:Int)≠(a1.Brokers.length:Int)))=true then(some true)else(if(decide ((a0.Topics.length:Int)≠(a1.Topics.length:Int)))=true then(some true)else(if(decide ((a0.Configs.length:Int)≠(a1.Configs.length:Int)))=true then(some true)else(some (decide ((a0.Done.length:Int)≠(a1.Done.length:Int)))))))):Option Bool).bind fun x23=>(if x23=true then(some false)else((((iter (f_ref15_Same_l0 a0 a1) (0:Int)).bind (Sum.elim (fun _=>(some (Sum.inl ()))) (fun _=>(((some false)).bind fun r=>some (Sum.inr r))))):Option (Unit⊕Bool)).bind (Sum.elim (fun _=>((((iter (f_ref15_Same_l1 a0 a1) (0:Int)).bind (Sum.elim (fun _=>(some (Sum.inl ()))) (fun _=>(((some false)).bind fun r=>some (Sum.inr r))))):Option (Unit⊕Bool)).bind (Sum.elim (fun _=>((((iter (f_ref15_Same_l2 a0 a1) (0:Int)).bind (Sum.elim (fun _=>(some (Sum.inl ()))) (fun _=>(((some false)).bind fun r=>some (Sum.inr r))))):Option (Unit⊕Bool)).bind (Sum.elim (fun _=>((((iter (f_ref15_Same_l3 a0 a1) (0:Int)).bind (Sum.elim (fun _=>(some (Sum.inl ()))) (fun _=>(((some false)).bind fun r=>some (Sum.inr r))))):Option (Unit⊕Bool)).bind (Sum.elim (fun _=>(some true)) some))) some))) some))) some))))
def f_ref15_Same_post (a0:T_api_Image) (a1:T_api_Image) (v0_0 v0_1 v0_2 v0_3 v1_0 v1_1 v1_2 v1_3:Value):Bool→Value→IM→HL→Prop:=
 fun(r0:Bool) (v:Value) (M':IM) (H':HL)=>(.bool r0)=v∧H'=[]
theorem f_ref15_Same_ok (a0:T_api_Image) (a1:T_api_Image) (M:IM) (v0_0 v0_1 v0_2 v0_3 v1_0 v1_1 v1_2 v1_3:Value) (h0_0:RS kd_api_Broker M v0_0 a0.Brokers) (h0_1:RS kd_api_Topic M v0_1 a0.Topics) (h0_2:RS kd_api_Config M v0_2 a0.Configs) (h0_3:RS kd_api_Done M v0_3 a0.Done) (h1_0:RS kd_api_Broker M v1_0 a1.Brokers) (h1_1:RS kd_api_Topic M v1_1 a1.Topics) (h1_2:RS kd_api_Config M v1_2 a1.Configs) (h1_3:RS kd_api_Done M v1_3 a1.Done) (res:Bool) (h:f_ref15_Same a0 a1=some res):
 Tri Tryz.prog 10 #[(a29_ a0 v0_0 v0_1 v0_2 v0_3),(a29_ a1 v1_0 v1_1 v1_2 v1_3)] M [] (f_ref15_Same_post a0 a1 v0_0 v0_1 v0_2 v0_3 v1_0 v1_1 v1_2 v1_3 res):=by
 unfold f_ref15_Same at h
 refine Te Tryz.func10 Z Z ?_
 intro F ρ hρ
 refine Sr (We (EO.box (cs:=(l29 a0 v0_0 v0_1 v0_2 v0_3).toArray) (congrArg Value.cells (asE (a29_ a0 v0_0 v0_1 v0_2 v0_3) (hρ 0)))) Z ?_)
 rintro _ _ _ - ⟨rfl,g21,rfl,rfl⟩
 refine We (EO.box (cs:=(l29 a1 v1_0 v1_1 v1_2 v1_3).toArray) (congrArg Value.cells (asE (a29_ a1 v1_0 v1_1 v1_2 v1_3) (hρ 1)))) Z ?_
 rintro _ _ _ - ⟨rfl,g22,rfl,rfl⟩
 refine qa (Bv false) (Nt (Cs ?_))
 obtain ⟨x23,hj24,h⟩:=bnd h
 refine Jf (fun(x23:Bool) ρ' M' H'=>M.le M'∧[(g22, .cells (l29 a1 v1_0 v1_1 v1_2 v1_3).toArray 29 (0,0))]::[(g21, .cells (l29 a0 v0_0 v0_1 v0_2 v0_3).toArray 29 (0,0))]::F=H'∧ρ' 2=(pt g21 0)∧ρ' 3=(pt g22 0)∧ρ' 49=(Bv x23)) x23 ?_ ?_
 have h:=hj24
 refine Cg (qu (pt g21 4) (Fa fo29_4 Z Z) (qu (Iv a0.Last) (Lb 1 pl3 Z Z Z) (qu (pt g22 4) (Fa fo29_4 Z Z) (qu (Iv a1.Last) (Lb 0 pl3 Z Z Z) (qu (Bv (decide (a0.Last≠a1.Last))) (PO.neq Z Z) (qm (Bv (decide (a0.Last≠a1.Last))) ?_))))))
 rcases Bi h with⟨hb25,h⟩ |⟨hb25,h⟩
 iterate 7 refine Of 14 Z Z hb25 Z ?_
 refine qu (Bv true) (Pt Z hb25 Z) (qm (Bv true) ?_)
 iterate 7 refine Of 23 Z Z Z Z ?_
 refine qu (Bv true) (Pt Z Z Z) (qm (Bv true) ?_)
 iterate 7 refine Of 32 Z Z Z Z ?_
 refine qu (Bv true) (Pt Z Z Z) (qm (Bv true) ?_)
 iterate 7 refine Of 41 Z Z Z Z ?_
 refine qu (Bv true) (Pt Z Z Z) (Wz ?_)
 obtain rfl:=oi h
 exact Tj ⟨lr,Z,Z,Z,Z⟩
 refine qo 14 hb25 (pt g21 0) (Fa fo29_0 Z Z) (qo 14 hb25 v0_0 (Lb 1 pl24 Z Z Z) (qo 14 hb25 (Iv (a0.Brokers.length:Int)) (PO.lenS Tryz.underlying24 Z h0_0.len) (qo 14 hb25 (pt g22 0) (Fa fo29_0 Z Z) (qo 14 hb25 v1_0 (Lb 0 pl24 Z Z Z) (qo 14 hb25 (Iv (a1.Brokers.length:Int)) (PO.lenS Tryz.underlying24 Z h1_0.len) (qo 14 hb25 (Bv (decide ((a0.Brokers.length:Int)≠(a1.Brokers.length:Int)))) (PO.neq Z Z) (qu (Bv (decide ((a0.Brokers.length:Int)≠(a1.Brokers.length:Int)))) (Pf Z hb25 Z) (qm (Bv (decide ((a0.Brokers.length:Int)≠(a1.Brokers.length:Int)))) ?_))))))))
 rcases Bi h with⟨hb26,h⟩ |⟨hb26,h⟩
 iterate 7 refine Of 23 Z Z hb26 Z ?_
 refine qu (Bv true) (Pt Z hb26 Z) (qm (Bv true) ?_)
 iterate 7 refine Of 32 Z Z Z Z ?_
 refine qu (Bv true) (Pt Z Z Z) (qm (Bv true) ?_)
 iterate 7 refine Of 41 Z Z Z Z ?_
 refine qu (Bv true) (Pt Z Z Z) (Wz ?_)
 obtain rfl:=oi h
 exact Tj ⟨lr,Z,Z,Z,Z⟩
 refine qo 23 hb26 (pt g21 1) (Fa fo29_1 Z Z) (qo 23 hb26 v0_1 (Lb 1 pl25 Z Z Z) (qo 23 hb26 (Iv (a0.Topics.length:Int)) (PO.lenS Tryz.underlying25 Z h0_1.len) (qo 23 hb26 (pt g22 1) (Fa fo29_1 Z Z) (qo 23 hb26 v1_1 (Lb 0 pl25 Z Z Z) (qo 23 hb26 (Iv (a1.Topics.length:Int)) (PO.lenS Tryz.underlying25 Z h1_1.len) (qo 23 hb26 (Bv (decide ((a0.Topics.length:Int)≠(a1.Topics.length:Int)))) (PO.neq Z Z) (qu (Bv (decide ((a0.Topics.length:Int)≠(a1.Topics.length:Int)))) (Pf Z hb26 Z) (qm (Bv (decide ((a0.Topics.length:Int)≠(a1.Topics.length:Int)))) ?_))))))))
 rcases Bi h with⟨hb27,h⟩ |⟨hb27,h⟩
 iterate 7 refine Of 32 Z Z hb27 Z ?_
 refine qu (Bv true) (Pt Z hb27 Z) (qm (Bv true) ?_)
 iterate 7 refine Of 41 Z Z Z Z ?_
 refine qu (Bv true) (Pt Z Z Z) (Wz ?_)
 obtain rfl:=oi h
 exact Tj ⟨lr,Z,Z,Z,Z⟩
 refine qo 32 hb27 (pt g21 2) (Fa fo29_2 Z Z) (qo 32 hb27 v0_2 (Lb 1 pl26 Z Z Z) (qo 32 hb27 (Iv (a0.Configs.length:Int)) (PO.lenS Tryz.underlying26 Z h0_2.len) (qo 32 hb27 (pt g22 2) (Fa fo29_2 Z Z) (qo 32 hb27 v1_2 (Lb 0 pl26 Z Z Z) (qo 32 hb27 (Iv (a1.Configs.length:Int)) (PO.lenS Tryz.underlying26 Z h1_2.len) (qo 32 hb27 (Bv (decide ((a0.Configs.length:Int)≠(a1.Configs.length:Int)))) (PO.neq Z Z) (qu (Bv (decide ((a0.Configs.length:Int)≠(a1.Configs.length:Int)))) (Pf Z hb27 Z) (qm (Bv (decide ((a0.Configs.length:Int)≠(a1.Configs.length:Int)))) ?_))))))))
 rcases Bi h with⟨hb28,h⟩ |⟨hb28,h⟩
 iterate 7 refine Of 41 Z Z hb28 Z ?_
 refine qu (Bv true) (Pt Z hb28 Z) (Wz ?_)
 obtain rfl:=oi h
 exact Tj ⟨lr,Z,Z,Z,Z⟩
 refine qo 41 hb28 (pt g21 3) (Fa fo29_3 Z Z) (qo 41 hb28 v0_3 (Lb 1 pl27 Z Z Z) (qo 41 hb28 (Iv (a0.Done.length:Int)) (PO.lenS Tryz.underlying27 Z h0_3.len) (qo 41 hb28 (pt g22 3) (Fa fo29_3 Z Z) (qo 41 hb28 v1_3 (Lb 0 pl27 Z Z Z) (qo 41 hb28 (Iv (a1.Done.length:Int)) (PO.lenS Tryz.underlying27 Z h1_3.len) (qo 41 hb28 (Bv (decide ((a0.Done.length:Int)≠(a1.Done.length:Int)))) (PO.neq Z Z) (qu (Bv (decide ((a0.Done.length:Int)≠(a1.Done.length:Int)))) (Pf Z hb28 Z) (Wz ?_))))))))
 obtain rfl:=oi h
 exact Tj ⟨lr,Z,Z,Z,Z⟩
 rintro ρ24 M24 H24 ⟨hle24,rfl,hs24_2,hs24_3,hs24_49⟩
 refine Ch h hs24_49 (fun hb29 h=> ?_) (fun hb29 h=> ?_)
 exact Sr (qa (Bv false) (Nt (Cr (Tr (Dr (Dr (Rf h [] Z (Rs Z Z) hle24 ⟨Z,Z⟩)))))))
 refine Ck (Tc ?_)
 obtain ⟨j30,hj30,h⟩:=bnd h
 refine WC.joinE (fun(_:Unit) ρ' M' H'=>M24.le M'∧[(g22, .cells (l29 a1 v1_0 v1_1 v1_2 v1_3).toArray 29 (0,0))]::[(g21, .cells (l29 a0 v0_0 v0_1 v0_2 v0_3).toArray 29 (0,0))]::F=H'∧ρ' 2=(pt g21 0)∧ρ' 3=(pt g22 0)) j30 ?_ ?_
 have h330:=h
 have h:=hj30
 refine Sr (qa (Iv 0) (Nt (Bk ?_)))
 obtain ⟨e31,he31,hK31⟩:=bnd h
 clear h
 refine WC.loop he31 (fun(x32:Int) ρ' M' H'=>M24.le M'∧[(g22, .cells (l29 a1 v1_0 v1_1 v1_2 v1_3).toArray 29 (0,0))]::[(g21, .cells (l29 a0 v0_0 v0_1 v0_2 v0_3).toArray 29 (0,0))]::F=H'∧ρ' 2=(pt g21 0)∧ρ' 3=(pt g22 0)∧ρ' 5=(Iv x32)) ?_ ?_
 exact⟨lr,Z,hs24_2,hs24_3,Z⟩
 rintro x32 o31 ρ31 M31 H31 h ⟨hle31,rfl,hs31_2,hs31_3,hs31_5⟩
 unfold f_ref15_Same_l0 at h
 refine Cs (Sr (qM (Iv x32) hs31_5 (qu (pt g21 0) (Fa fo29_0 hs31_2 Z) (qu v0_0 (Lb 1 pl24 Z Z Z) ?_))))
 have h0_0:=h0_0.mono (hle24.trans hle31)
 refine qu (Iv (a0.Brokers.length:Int)) (PO.lenS Tryz.underlying24 Z h0_0.len) (qu (Bv (decide (x32<(a0.Brokers.length:Int)))) (PO.lss Z Z) (Nt (Ch h Z (fun hb33 h=> ?_) (fun hb33 h=> ?_))))
 refine Ck (Tc (Cs (Bk (Cs (WC.draw [0,1,0,7,15,0,32,0,224,480,1023] (.pure 0 (.pure 1 (.pure 2 (.pure 3 (.pure 4 (.pure 5 (.pure 6 (.pure 7 (.pure 8 (.pure 9 (.pure 10 .done))))))))))) mixed (by kernel_rfl) (qt (pt g21 0) Z (Fa fo29_0 hs31_2 Z) (qt v0_0 Z (Lb 1 pl24 Z Z Z) (qt (Iv x32) Z (Mv hs31_5) ?_))))))))
 obtain ⟨hg34,h⟩:=grd_i h
 obtain ⟨p35,cs36,hat37,hrc38,hhas39⟩:=h0_0.at hg34.1 hg34.2 (by decide)
 obtain rfl:=kd_api_Broker_open hrc38
 refine qt (.pointer (some p35)) Z (PO.indexAddr (n:=a0.Brokers.length) Tryz.underlying24 sz59 Z Z hg34.1 hg34.2 hat37) (qt (a59_ (rd a0.Brokers x32)) Z (PO.loadMA (cs:=(l59 (rd a0.Brokers x32))) ag59 sz59 Z hhas39) (qt (pt g22 0) Z (Fa fo29_0 hs31_3 Z) (qt v1_0 Z (Lb 0 pl24 Z Z Z) (qt (Iv x32) Z (Mv hs31_5) ?_))))
 obtain ⟨hg41,h⟩:=grd_i h
 have h1_0:=h1_0.mono (hle24.trans hle31)
 obtain ⟨p42,cs43,hat44,hrc45,hhas46⟩:=h1_0.at hg41.1 hg41.2 (by decide)
 obtain rfl:=kd_api_Broker_open hrc45
 refine qt (.pointer (some p42)) Z (PO.indexAddr (n:=a1.Brokers.length) Tryz.underlying24 sz59 Z Z hg41.1 hg41.2 hat44) (qt (a59_ (rd a1.Brokers x32)) Z (PO.loadMA (cs:=(l59 (rd a1.Brokers x32))) ag59 sz59 Z hhas46) (qt (Bv (!(andL [decide (((rd a0.Brokers x32).Id)=((rd a1.Brokers x32).Id)),decide (((rd a0.Brokers x32).Epoch)=((rd a1.Brokers x32).Epoch)),((rd a0.Brokers x32).Rack)==((rd a1.Brokers x32).Rack),((rd a0.Brokers x32).Fenced)==((rd a1.Brokers x32).Fenced),((rd a0.Brokers x32).Leaving)==((rd a1.Brokers x32).Leaving)]))) Z (PO.neqAgg eg59 Z Z (run_equal_struct Tryz.underlying59 eq59 (EqFs.cons (by decide) pl3 Z Z (EqC.int Tryz.underlying3) (EqFs.cons (by decide) pl3 Z Z (EqC.int Tryz.underlying3) (EqFs.cons (by decide) pl9 Z Z (EqC.str Tryz.underlying9) (EqFs.cons (by decide) pl4 Z Z (EqC.bool Tryz.underlying4) (EqFs.cons (by decide) pl4 Z Z (EqC.bool Tryz.underlying4) EqFs.nil))))))) (Ti (Tc (Ch h Z (fun hb48 h=> ?_) (fun hb48 h=> ?_))))))
 refine Sr (qa (Bv false) (Nt (Cr (Br (Tr (WQ.leaveR (Sum.inr ()) (oi h).symm (fun heq31=> ?_)))))))
 subst heq31
 have h:=(elimR hK31)
 refine Br (Tr ?_)
 have h:=KK.early h h330
 exact Dr (Dr (Rf h [] Z (Rs Z Z) (hle24.trans hle31) ⟨Z,Z⟩))
 exact Ck (Bn (Tc (Cg (qM (Iv x32) hs31_5 (qu (Iv (IntKind.i64.wrap (x32+1))) (PO.add Z Z) (qa (Iv (IntKind.i64.wrap (x32+1))) (Wz (WQ.again (IntKind.i64.wrap (x32+1)) (oi h).symm ⟨hle31,Z,hs31_2,hs31_3,Z⟩))))))))
 refine WC.exit (WQ.thenE (WQ.leaveE (Sum.inl ()) (oi h).symm (fun heq31=> ?_)))
 subst heq31
 have h:=elimL hK31
 exact WQ.blockH (WQ.thenFE h ⟨hle31,Z,hs31_2,hs31_3⟩)
 rintro _ ρ30 M30 H30 rfl ⟨hle30,rfl,hs30_2,hs30_3⟩
 have L30:=hle24.trans hle30
 have h:=(Sum.elim_inl _ _ _).symm.trans h
 obtain ⟨j49,hj49,h⟩:=bnd h
 refine WC.joinE (fun(_:Unit) ρ' M' H'=>M30.le M'∧[(g22, .cells (l29 a1 v1_0 v1_1 v1_2 v1_3).toArray 29 (0,0))]::[(g21, .cells (l29 a0 v0_0 v0_1 v0_2 v0_3).toArray 29 (0,0))]::F=H'∧ρ' 2=(pt g21 0)∧ρ' 3=(pt g22 0)) j49 ?_ ?_
 have h349:=h
 have h:=hj49
 refine Sr (qa (Iv 0) (Nt (Bk ?_)))
 obtain ⟨e50,he50,hK50⟩:=bnd h
 clear h
 refine WC.loop he50 (fun(x51:Int) ρ' M' H'=>M30.le M'∧[(g22, .cells (l29 a1 v1_0 v1_1 v1_2 v1_3).toArray 29 (0,0))]::[(g21, .cells (l29 a0 v0_0 v0_1 v0_2 v0_3).toArray 29 (0,0))]::F=H'∧ρ' 2=(pt g21 0)∧ρ' 3=(pt g22 0)∧ρ' 6=(Iv x51)) ?_ ?_
 exact⟨lr,Z,hs30_2,hs30_3,Z⟩
 rintro x51 o50 ρ50 M50 H50 h ⟨hle50,rfl,hs50_2,hs50_3,hs50_6⟩
 unfold f_ref15_Same_l1 at h
 refine Cs (Sr (qM (Iv x51) hs50_6 (qu (pt g21 1) (Fa fo29_1 hs50_2 Z) (qu v0_1 (Lb 1 pl25 Z Z Z) ?_))))
 have h0_1:=h0_1.mono (L30.trans hle50)
 refine qu (Iv (a0.Topics.length:Int)) (PO.lenS Tryz.underlying25 Z h0_1.len) (qu (Bv (decide (x51<(a0.Topics.length:Int)))) (PO.lss Z Z) (Nt (Ch h Z (fun hb52 h=> ?_) (fun hb52 h=> ?_))))
 refine Ck (Tc (Cs (Bk (Cs (WC.draw [0,1,0,7,15,0,32,0,224,480,1023,2047] (.pure 0 (.pure 1 (.pure 2 (.pure 3 (.pure 4 (.pure 5 (.pure 6 (.pure 7 (.pure 8 (.pure 9 (.alt 10 (.pure 11 .done) .none))))))))))) mixed (by kernel_rfl) (qt (pt g21 1) Z (Fa fo29_1 hs50_2 Z) (qt v0_1 Z (Lb 1 pl25 Z Z Z) (qt (Iv x51) Z (Mv hs50_6) ?_))))))))
 obtain ⟨hg53,h⟩:=grd_i h
 obtain ⟨p54,cs55,hat56,hrc57,hhas58⟩:=h0_1.at hg53.1 hg53.2 (by decide)
 obtain ⟨vw59_2,rfl,hw59_2⟩:=kd_api_Topic_open hrc57
 refine qt (.pointer (some p54)) Z (PO.indexAddr (n:=a0.Topics.length) Tryz.underlying25 sz52 Z Z hg53.1 hg53.2 hat56) (qt (a52_ (rd a0.Topics x51) vw59_2) Z (PO.loadMA (cs:=(l52 (rd a0.Topics x51) vw59_2)) ag52 sz52 Z hhas58) (qt (pt g22 1) Z (Fa fo29_1 hs50_3 Z) (qt v1_1 Z (Lb 0 pl25 Z Z Z) (qt (Iv x51) Z (Mv hs50_6) ?_))))
 obtain ⟨hg60,h⟩:=grd_i h
 have h1_1:=h1_1.mono (L30.trans hle50)
 obtain ⟨p61,cs62,hat63,hrc64,hhas65⟩:=h1_1.at hg60.1 hg60.2 (by decide)
 obtain ⟨vw66_2,rfl,hw66_2⟩:=kd_api_Topic_open hrc64
 refine qt (.pointer (some p61)) Z (PO.indexAddr (n:=a1.Topics.length) Tryz.underlying25 sz52 Z Z hg60.1 hg60.2 hat63) (qt (a52_ (rd a1.Topics x51) vw66_2) Z (PO.loadMA (cs:=(l52 (rd a1.Topics x51) vw66_2)) ag52 sz52 Z hhas65) ?_)
 obtain ⟨r67,hr68,h⟩:=bnd h
 refine Ta Z (Ca co39 (f_ref15_sameTopic_ok (rd a0.Topics x51) (rd a1.Topics x51) _ _ _ hw59_2 hw66_2 r67 hr68) (args2 Z Z)) Z ?_ ?_
 rintro _ M69 _ hle70 ⟨_,⟨rfl,rfl⟩,rfl⟩
 refine⟨(Sl Z), ?_⟩
 refine WT.a0 (qt (Bv (!r67)) Z (PO.not Z) (Ti (Tc (Ch h Z (fun hb72 h=> ?_) (fun hb72 h=> ?_)))))
 refine Sr (qa (Bv false) (Nt (Cr (Br (Tr (WQ.leaveR (Sum.inr ()) (oi h).symm (fun heq50=> ?_)))))))
 subst heq50
 have h:=(elimR hK50)
 refine Br (Tr ?_)
 have h:=KK.early h h349
 exact Dr (Dr (Rf h [] Z (Rs Z Z) ((L30.trans hle50).trans hle70) ⟨Z,Z⟩))
 exact Ck (Bn (Tc (Cg (qM (Iv x51) hs50_6 (qu (Iv (IntKind.i64.wrap (x51+1))) (PO.add Z Z) (qa (Iv (IntKind.i64.wrap (x51+1))) (Wz (WQ.again (IntKind.i64.wrap (x51+1)) (oi h).symm ⟨(hle50.trans hle70),Z,hs50_2,hs50_3,Z⟩))))))))
 exact Tz
 refine WC.exit (WQ.thenE (WQ.leaveE (Sum.inl ()) (oi h).symm (fun heq50=> ?_)))
 subst heq50
 have h:=elimL hK50
 exact WQ.blockH (WQ.thenFE h ⟨hle50,Z,hs50_2,hs50_3⟩)
 rintro _ ρ49 M49 H49 rfl ⟨hle49,rfl,hs49_2,hs49_3⟩
 have L49:=L30.trans hle49
 have h:=(Sum.elim_inl _ _ _).symm.trans h
 obtain ⟨j73,hj73,h⟩:=bnd h
 refine WC.joinE (fun(_:Unit) ρ' M' H'=>M49.le M'∧[(g22, .cells (l29 a1 v1_0 v1_1 v1_2 v1_3).toArray 29 (0,0))]::[(g21, .cells (l29 a0 v0_0 v0_1 v0_2 v0_3).toArray 29 (0,0))]::F=H'∧ρ' 2=(pt g21 0)∧ρ' 3=(pt g22 0)) j73 ?_ ?_
 have h373:=h
 have h:=hj73
 refine Sr (qa (Iv 0) (Nt (Bk ?_)))
 obtain ⟨e74,he74,hK74⟩:=bnd h
 clear h
 refine WC.loop he74 (fun(x75:Int) ρ' M' H'=>M49.le M'∧[(g22, .cells (l29 a1 v1_0 v1_1 v1_2 v1_3).toArray 29 (0,0))]::[(g21, .cells (l29 a0 v0_0 v0_1 v0_2 v0_3).toArray 29 (0,0))]::F=H'∧ρ' 2=(pt g21 0)∧ρ' 3=(pt g22 0)∧ρ' 7=(Iv x75)) ?_ ?_
 exact⟨lr,Z,hs49_2,hs49_3,Z⟩
 rintro x75 o74 ρ74 M74 H74 h ⟨hle74,rfl,hs74_2,hs74_3,hs74_7⟩
 have L74:=L49.trans hle74
 unfold f_ref15_Same_l2 at h
 refine Cs (Sr (qM (Iv x75) hs74_7 (qu (pt g21 2) (Fa fo29_2 hs74_2 Z) (qu v0_2 (Lb 1 pl26 Z Z Z) ?_))))
 have h0_2:=h0_2.mono L74
 refine qu (Iv (a0.Configs.length:Int)) (PO.lenS Tryz.underlying26 Z h0_2.len) (qu (Bv (decide (x75<(a0.Configs.length:Int)))) (PO.lss Z Z) (Nt (Ch h Z (fun hb76 h=> ?_) (fun hb76 h=> ?_))))
 refine Ck (Tc (Cs (Bk (Cs (WC.draw [0,1,0,7,15,0,32,0,224,480,1023] (.pure 0 (.pure 1 (.pure 2 (.pure 3 (.pure 4 (.pure 5 (.pure 6 (.pure 7 (.pure 8 (.pure 9 (.pure 10 .done))))))))))) mixed (by kernel_rfl) (qt (pt g21 2) Z (Fa fo29_2 hs74_2 Z) (qt v0_2 Z (Lb 1 pl26 Z Z Z) (qt (Iv x75) Z (Mv hs74_7) ?_))))))))
 obtain ⟨hg77,h⟩:=grd_i h
 obtain ⟨p78,cs79,hat80,hrc81,hhas82⟩:=h0_2.at hg77.1 hg77.2 (by decide)
 obtain rfl:=kd_api_Config_open hrc81
 refine qt (.pointer (some p78)) Z (PO.indexAddr (n:=a0.Configs.length) Tryz.underlying26 sz64 Z Z hg77.1 hg77.2 hat80) (qt (a64_ (rd a0.Configs x75)) Z (PO.loadMA (cs:=(l64 (rd a0.Configs x75))) ag64 sz64 Z hhas82) (qt (pt g22 2) Z (Fa fo29_2 hs74_3 Z) (qt v1_2 Z (Lb 0 pl26 Z Z Z) (qt (Iv x75) Z (Mv hs74_7) ?_))))
 obtain ⟨hg84,h⟩:=grd_i h
 have h1_2:=h1_2.mono L74
 obtain ⟨p85,cs86,hat87,hrc88,hhas89⟩:=h1_2.at hg84.1 hg84.2 (by decide)
 obtain rfl:=kd_api_Config_open hrc88
 refine qt (.pointer (some p85)) Z (PO.indexAddr (n:=a1.Configs.length) Tryz.underlying26 sz64 Z Z hg84.1 hg84.2 hat87) (qt (a64_ (rd a1.Configs x75)) Z (PO.loadMA (cs:=(l64 (rd a1.Configs x75))) ag64 sz64 Z hhas89) (qt (Bv (!(andL [decide (((rd a0.Configs x75).Topic)=((rd a1.Configs x75).Topic)),((rd a0.Configs x75).Key)==((rd a1.Configs x75).Key),((rd a0.Configs x75).Value)==((rd a1.Configs x75).Value)]))) Z (PO.neqAgg eg64 Z Z (run_equal_struct Tryz.underlying64 eq64 (EqFs.cons (by decide) pl3 Z Z (EqC.int Tryz.underlying3) (EqFs.cons (by decide) pl9 Z Z (EqC.str Tryz.underlying9) (EqFs.cons (by decide) pl9 Z Z (EqC.str Tryz.underlying9) EqFs.nil))))) (Ti (Tc (Ch h Z (fun hb91 h=> ?_) (fun hb91 h=> ?_))))))
 refine Sr (qa (Bv false) (Nt (Cr (Br (Tr (WQ.leaveR (Sum.inr ()) (oi h).symm (fun heq74=> ?_)))))))
 subst heq74
 have h:=(elimR hK74)
 refine Br (Tr ?_)
 have h:=KK.early h h373
 exact Dr (Dr (Rf h [] Z (Rs Z Z) L74 ⟨Z,Z⟩))
 exact Ck (Bn (Tc (Cg (qM (Iv x75) hs74_7 (qu (Iv (IntKind.i64.wrap (x75+1))) (PO.add Z Z) (qa (Iv (IntKind.i64.wrap (x75+1))) (Wz (WQ.again (IntKind.i64.wrap (x75+1)) (oi h).symm ⟨hle74,Z,hs74_2,hs74_3,Z⟩))))))))
 refine WC.exit (WQ.thenE (WQ.leaveE (Sum.inl ()) (oi h).symm (fun heq74=> ?_)))
 subst heq74
 have h:=elimL hK74
 exact WQ.blockH (WQ.thenFE h ⟨hle74,Z,hs74_2,hs74_3⟩)
 rintro _ ρ73 M73 H73 rfl ⟨hle73,rfl,hs73_2,hs73_3⟩
 have L73:=L49.trans hle73
 have h:=(Sum.elim_inl _ _ _).symm.trans h
 obtain ⟨j92,hj92,h⟩:=bnd h
 refine WC.joinE (fun(_:Unit) ρ' M' H'=>M73.le M'∧[(g22, .cells (l29 a1 v1_0 v1_1 v1_2 v1_3).toArray 29 (0,0))]::[(g21, .cells (l29 a0 v0_0 v0_1 v0_2 v0_3).toArray 29 (0,0))]::F=H') j92 ?_ ?_
 have h392:=h
 have h:=hj92
 refine Sr (qa (Iv 0) (Nt (Bk ?_)))
 obtain ⟨e93,he93,hK93⟩:=bnd h
 clear h
 refine WC.loop he93 (fun(x94:Int) ρ' M' H'=>M73.le M'∧[(g22, .cells (l29 a1 v1_0 v1_1 v1_2 v1_3).toArray 29 (0,0))]::[(g21, .cells (l29 a0 v0_0 v0_1 v0_2 v0_3).toArray 29 (0,0))]::F=H'∧ρ' 2=(pt g21 0)∧ρ' 3=(pt g22 0)∧ρ' 8=(Iv x94)) ?_ ?_
 exact⟨lr,Z,hs73_2,hs73_3,Z⟩
 rintro x94 o93 ρ93 M93 H93 h ⟨hle93,rfl,hs93_2,hs93_3,hs93_8⟩
 have L93:=L73.trans hle93
 unfold f_ref15_Same_l3 at h
 refine Cs (Sr (qM (Iv x94) hs93_8 (qu (pt g21 3) (Fa fo29_3 hs93_2 Z) (qu v0_3 (Lb 1 pl27 Z Z Z) ?_))))
 have h0_3:=h0_3.mono L93
 refine qu (Iv (a0.Done.length:Int)) (PO.lenS Tryz.underlying27 Z h0_3.len) (qu (Bv (decide (x94<(a0.Done.length:Int)))) (PO.lss Z Z) (Nt (Ch h Z (fun hb95 h=> ?_) (fun hb95 h=> ?_))))
 refine Ck (Tc (Cs (Bk (Cs (WC.draw [0,1,0,7,15,0,32,0,224,480,1023] (.pure 0 (.pure 1 (.pure 2 (.pure 3 (.pure 4 (.pure 5 (.pure 6 (.pure 7 (.pure 8 (.pure 9 (.pure 10 .done))))))))))) mixed (by kernel_rfl) (qt (pt g21 3) Z (Fa fo29_3 hs93_2 Z) (qt v0_3 Z (Lb 1 pl27 Z Z Z) (qt (Iv x94) Z (Mv hs93_8) ?_))))))))
 obtain ⟨hg96,h⟩:=grd_i h
 obtain ⟨p97,cs98,hat99,hrc100,hhas101⟩:=h0_3.at hg96.1 hg96.2 (by decide)
 obtain rfl:=kd_api_Done_open hrc100
 refine qt (.pointer (some p97)) Z (PO.indexAddr (n:=a0.Done.length) Tryz.underlying27 sz66 Z Z hg96.1 hg96.2 hat99) (qt (a66_ (rd a0.Done x94)) Z (PO.loadMA (cs:=(l66 (rd a0.Done x94))) ag66 sz66 Z hhas101) (qt (pt g22 3) Z (Fa fo29_3 hs93_3 Z) (qt v1_3 Z (Lb 0 pl27 Z Z Z) (qt (Iv x94) Z (Mv hs93_8) ?_))))
 obtain ⟨hg103,h⟩:=grd_i h
 have h1_3:=h1_3.mono L93
 obtain ⟨p104,cs105,hat106,hrc107,hhas108⟩:=h1_3.at hg103.1 hg103.2 (by decide)
 obtain rfl:=kd_api_Done_open hrc107
 refine qt (.pointer (some p104)) Z (PO.indexAddr (n:=a1.Done.length) Tryz.underlying27 sz66 Z Z hg103.1 hg103.2 hat106) (qt (a66_ (rd a1.Done x94)) Z (PO.loadMA (cs:=(l66 (rd a1.Done x94))) ag66 sz66 Z hhas108) (qt (Bv (!(andL [decide (((rd a0.Done x94).Client)=((rd a1.Done x94).Client)),decide (((rd a0.Done x94).Serial)=((rd a1.Done x94).Serial)),decide (((rd a0.Done x94).Code)=((rd a1.Done x94).Code))]))) Z (PO.neqAgg eg66 Z Z (run_equal_struct Tryz.underlying66 eq66 (EqFs.cons (by decide) pl3 Z Z (EqC.int Tryz.underlying3) (EqFs.cons (by decide) pl3 Z Z (EqC.int Tryz.underlying3) (EqFs.cons (by decide) pl3 Z Z (EqC.int Tryz.underlying3) EqFs.nil))))) (Ti (Tc (Ch h Z (fun hb110 h=> ?_) (fun hb110 h=> ?_))))))
 refine Sr (qa (Bv false) (Nt (Cr (Br (Tr (WQ.leaveR (Sum.inr ()) (oi h).symm (fun heq93=> ?_)))))))
 subst heq93
 have h:=(elimR hK93)
 refine Br (Tr ?_)
 have h:=KK.early h h392
 exact Dr (Dr (Rf h [] Z (Rs Z Z) L93 ⟨Z,Z⟩))
 exact Ck (Bn (Tc (Cg (qM (Iv x94) hs93_8 (qu (Iv (IntKind.i64.wrap (x94+1))) (PO.add Z Z) (qa (Iv (IntKind.i64.wrap (x94+1))) (Wz (WQ.again (IntKind.i64.wrap (x94+1)) (oi h).symm ⟨hle93,Z,hs93_2,hs93_3,Z⟩))))))))
 refine WC.exit (WQ.thenE (WQ.leaveE (Sum.inl ()) (oi h).symm (fun heq93=> ?_)))
 subst heq93
 have h:=elimL hK93
 exact WQ.blockH (WQ.thenFE h ⟨hle93,Z⟩)
 rintro _ ρ92 M92 H92 rfl ⟨hle92,rfl⟩
 have h:=(Sum.elim_inl _ _ _).symm.trans h
 exact Sr (qa (Bv true) (Nt (Cr (Dr (Dr (Rf h [] Z (Rs Z Z) (L73.trans hle92) ⟨Z,Z⟩))))))
noncomputable def f_law16_DumpGoes_l0 (a1:(List T_api_Record)) (s_:(Int×(List T_api_Broker)×(List T_api_Topic)×(List T_api_Config)×(List T_api_Done)×Int×(List T_api_Broker)×(List T_api_Topic)×(List T_api_Config)×(List T_api_Done)×Int)):Option ((Int×(List T_api_Broker)×(List T_api_Topic)×(List T_api_Config)×(List T_api_Done)×Int×(List T_api_Broker)×(List T_api_Topic)×(List T_api_Config)×(List T_api_Done)×Int)⊕(((List T_api_Broker)×(List T_api_Topic)×(List T_api_Config)×(List T_api_Done)×Int×(List T_api_Broker)×(List T_api_Topic)×(List T_api_Config)×(List T_api_Done)×Int)⊕((List T_api_Broker)×(List T_api_Topic)×(List T_api_Config)×(List T_api_Done)×Int×(List T_api_Broker)×(List T_api_Topic)×(List T_api_Config)×(List T_api_Done)×Int))):=
 match s_ with
 |(x69,x70,x71,x72,x73,x74,x75,x76,x77,x78,x79)=>
 (if(decide (x69<(a1.length:Int)))=true then(((grd (0≤x69∧x69<a1.length) ((f_ref15_Apply (⟨x70,x71,x72,x73,x74⟩:T_api_Image) (rd a1 x69)).bind fun(r125,r126)=>(some (r125.Brokers,r125.Topics,r125.Configs,r125.Done,r125.Last,r126)))):Option ((List T_api_Broker)×(List T_api_Topic)×(List T_api_Config)×(List T_api_Done)×Int×Int)).bind fun(x110,x111,x112,x113,x114,x115)=>(((grd (0≤x69∧x69<a1.length) ((f_ref15_Apply (⟨x75,x76,x77,x78,x79⟩:T_api_Image) (rd a1 x69)).bind fun(r157,r158)=>(some (r157.Brokers,r157.Topics,r157.Configs,r157.Done,r157.Last,r158)))):Option ((List T_api_Broker)×(List T_api_Topic)×(List T_api_Config)×(List T_api_Done)×Int×Int)).bind fun(x142,x143,x144,x145,x146,x147)=>(((if(decide (x115≠x147))=true then(some true)else((f_ref15_Same (⟨x110,x111,x112,x113,x114⟩:T_api_Image) (⟨x142,x143,x144,x145,x146⟩:T_api_Image)).bind fun r176=>(some (!r176)))):Option Bool).bind fun x173=>(if x173=true then(some (Sum.inr (Sum.inr (x75,x76,x77,x78,x79,x70,x71,x72,x73,x74))))else(some (Sum.inl (IntKind.i64.wrap (x69+(1:Int)),x110,x111,x112,x113,x114,x142,x143,x144,x145,x146)))))))else(some (Sum.inr (Sum.inl (x75,x76,x77,x78,x79,x70,x71,x72,x73,x74)))))
noncomputable def f_law16_DumpGoes (a0:(List T_api_Record)) (a1:(List T_api_Record)):Option Bool:=
 (((if(decide ((60:Int)<(a0.length:Int)))=true then(some true)else(some (decide ((60:Int)<(a1.length:Int))))):Option Bool).bind fun x21=>(if x21=true then((f_law16_works).bind fun r25=>(some r25))else((f_law15_Made a0).bind fun r30=>((f_dump_Put r30).bind fun(r36,r37)=>((f_dump_Read r36).bind fun(r45,r46)=>(((if(!r37.isNil)=true then(some true)else(some (!r46.isNil))):Option Bool).bind fun x53=>(if x53=true then(some false)else((((iter (f_law16_DumpGoes_l0 a1) ((0:Int),r30.Brokers,r30.Topics,r30.Configs,r30.Done,r30.Last,r45.Brokers,r45.Topics,r45.Configs,r45.Done,r45.Last)).bind (Sum.elim (fun(x88,x89,x90,x91,x92,x93,x94,x95,x96,x97)=>(some (Sum.inl (x88,x89,x90,x91,x92,x93,x94,x95,x96,x97)))) (fun(x98,x99,x100,x101,x102,x103,x104,x105,x106,x107)=>(((some false)).bind fun r=>some (Sum.inr r))))):Option (((List T_api_Broker)×(List T_api_Topic)×(List T_api_Config)×(List T_api_Done)×Int×(List T_api_Broker)×(List T_api_Topic)×(List T_api_Config)×(List T_api_Done)×Int)⊕Bool)).bind (Sum.elim (fun(x57,x58,x59,x60,x61,x62,x63,x64,x65,x66)=>((f_law16_works).bind fun r182=>(some r182))) some)))))))))
def f_law16_DumpGoes_post (a0:(List T_api_Record)) (a1:(List T_api_Record)) (v0 v1:Value):Bool→Value→IM→HL→Prop:=
 fun(r0:Bool) (v:Value) (M':IM) (H':HL)=>(.bool r0)=v∧H'=[]
theorem f_law16_DumpGoes_ok (a0:(List T_api_Record)) (a1:(List T_api_Record)) (M:IM) (v0 v1:Value) (h0:RS kd_api_Record M v0 a0) (h1:RS kd_api_Record M v1 a1) (res:Bool) (h:f_law16_DumpGoes a0 a1=some res):
 Tri Tryz.prog 4 #[v0,v1] M [] (f_law16_DumpGoes_post a0 a1 v0 v1 res):=by
 unfold f_law16_DumpGoes at h
 refine Te Tryz.func4 Z Z ?_
 intro F ρ hρ
 refine Sr (qa (Bv false) (Nt (Cs ?_)))
 obtain ⟨x21,hj22,h⟩:=bnd h
 refine Jf (fun(x21:Bool) ρ' M' H'=>M.le M'∧F=H'∧ρ' 0=v0∧ρ' 1=v1∧ρ' 22=(Bv x21)) x21 ?_ ?_
 have h:=hj22
 refine Cg (qM v0 (hρ 0) (qu (Iv (a0.length:Int)) (PO.lenS Tryz.underlying22 Z h0.len) (qu (Bv (decide ((60:Int)<(a0.length:Int)))) (PO.gtr Z Z) (qm (Bv (decide ((60:Int)<(a0.length:Int)))) ?_))))
 rcases Bi h with⟨hb23,h⟩ |⟨hb23,h⟩
 iterate 3 refine Of 18 Z Z hb23 Z ?_
 refine qu (Bv true) (Pt Z hb23 Z) (Wz ?_)
 obtain rfl:=oi h
 exact Tj ⟨lr,Z,(hρ 0),(hρ 1),Z⟩
 refine On 18 Z Z hb23 (qM v1 (hρ 1) (qo 18 hb23 (Iv (a1.length:Int)) (PO.lenS Tryz.underlying22 Z h1.len) (qo 18 hb23 (Bv (decide ((60:Int)<(a1.length:Int)))) (PO.gtr Z Z) (qu (Bv (decide ((60:Int)<(a1.length:Int)))) (Pf Z hb23 Z) (Wz ?_)))))
 obtain rfl:=oi h
 exact Tj ⟨lr,Z,(hρ 0),(hρ 1),Z⟩
 rintro ρ22 M22 H22 ⟨hle22,rfl,hs22_0,hs22_1,hs22_22⟩
 refine Ch h hs22_22 (fun hb24 h=> ?_) (fun hb24 h=> ?_)
 refine Sr ?_
 obtain ⟨r25,hr26,h⟩:=bnd h
 refine We (Ca co6 (f_law16_works_ok _ r25 hr26) (args0)) Z ?_
 rintro _ M27 _ hle28 ⟨_,⟨rfl,rfl⟩,rfl⟩
 exact WL.a0 (qa (Bv r25) (Nt (Cr (Tr (Rf h [] Z (Rs Z Z) (hle22.trans hle28) ⟨Z,Z⟩)))))
 refine Ck (Tc (Sr (qM v0 hs22_0 ?_)))
 obtain ⟨r30,hr31,h⟩:=bnd h
 have h0:=h0.mono hle22
 refine We (Ca co7 (f_law15_Made_ok a0 _ _ h0 r30 hr31) (args1 Z)) Z ?_
 rintro _ M32 _ hle33 ⟨_,⟨vq34_0,vq34_1,vq34_2,vq34_3,rfl,rfl,hq34_0,hq34_1,hq34_2,hq34_3⟩,rfl⟩
 refine WL.a0 (We (Al ze29 Z) Z ?_)
 rintro _ _ _ - ⟨rfl,g35,rfl,rfl⟩
 refine We (Sg (v:=(a29_ r30 vq34_0 vq34_1 vq34_2 vq34_3)) (vl:=(l29 r30 vq34_0 vq34_1 vq34_2 vq34_3)) (arr':=(l29 r30 vq34_0 vq34_1 vq34_2 vq34_3)) Z sz29 Z Z (onesOf (Oc (RS.one hq34_0) (Oc (RS.one hq34_1) (Oc (RS.one hq34_2) (Oc (RS.one hq34_3) (Oc Z Oz)))))) Z Z Z) Z ?_
 rintro _ _ _ - ⟨rfl,rfl⟩
 refine Ns (qu (a29_ r30 vq34_0 vq34_1 vq34_2 vq34_3) (La (cs:=(l29 r30 vq34_0 vq34_1 vq34_2 vq34_3)) 0 ag29 sz29 Z Z Z) ?_)
 obtain ⟨⟨r36,r37⟩,hr38,h⟩:=bnd h
 refine We (Ca co8 (f_dump_Put_ok r30 _ _ _ _ _ hq34_0 hq34_1 hq34_2 hq34_3 (r36,r37) hr38) (args1 Z)) Z ?_
 rintro _ M39 _ hle40 ⟨_,⟨vq41,cq41,rfl,rfl,hq41⟩,rfl⟩
 have L40:=(hle22.trans hle33).trans hle40
 refine WL.a1 (qm (.tuple #[vq41,(GV r37)]) (qu vq41 (Xt Z Z) (qu (GV r37) (Xt Z Z) (qa vq41 (qa (GV r37) (Ns (qm vq41 (WL.know (fun _ hs=>hq41.rs hs) (fun hf44=> ?_)))))))))
 refine WL.freeze (fun hle43=> ?_)
 obtain ⟨⟨r45,r46⟩,hr47,h⟩:=bnd h
 refine We (Ca co9 (f_dump_Read_ok r36 _ _ hf44 (r45,r46) hr47) (args1 Z)) Z ?_
 rintro _ M48 _ hle49 ⟨_,⟨vq50_0,cq50_0,vq50_1,cq50_1,vq50_2,cq50_2,vq50_3,cq50_3,rfl,rfl,hq50_0,hq50_1,hq50_2,hq50_3⟩,rfl⟩
 have L49:=(hle40.trans hle43).trans hle49
 have L49_1:=(((hle22.trans hle33).trans hle40).trans hle43).trans hle49
 refine WL.a4 (qm (.tuple #[(a29_ r45 vq50_0 vq50_1 vq50_2 vq50_3),(GV r46)]) (qu (a29_ r45 vq50_0 vq50_1 vq50_2 vq50_3) (Xt Z Z) (qu (GV r46) (Xt Z Z) (We (Al ze29 Z) Z ?_))))
 rintro _ _ _ - ⟨rfl,g52,rfl,rfl⟩
 refine We (Sg (v:=(a29_ r45 vq50_0 vq50_1 vq50_2 vq50_3)) (vl:=(l29 r45 vq50_0 vq50_1 vq50_2 vq50_3)) (arr':=(l29 r45 vq50_0 vq50_1 vq50_2 vq50_3)) Z sz29 Z Z (onesOf (Oc (Ow hq50_0) (Oc (Ow hq50_1) (Oc (Ow hq50_2) (Oc (Ow hq50_3) (Oc Z Oz)))))) Z Z Z) Z ?_
 rintro _ _ _ - ⟨rfl,rfl⟩
 refine qa (GV r46) (Nt (Cs ?_))
 obtain ⟨x53,hj54,h⟩:=bnd h
 refine Jf (fun(x53:Bool) ρ' M' H'=>M48.le M'∧[(g52, .cells (l29 r45 vq50_0 vq50_1 vq50_2 vq50_3).toArray 29 (0,0))]::[(g35, .cells (l29 r30 vq34_0 vq34_1 vq34_2 vq34_3).toArray 29 (0,0))]::cq50_0::cq50_1::cq50_2::cq50_3::F=H'∧ρ' 1=v1∧ρ' 5=(pt g35 0)∧ρ' 8=(pt g52 0)∧ρ' 41=(Bv x53)) x53 ?_ ?_
 have h:=hj54
 refine Cg (qm (GV r37) (qu (Bv (!r37.isNil)) (PO.errNotNil Tryz.underlying33 Z) (qm (Bv (!r37.isNil)) ?_)))
 rcases Bi h with⟨hb55,h⟩ |⟨hb55,h⟩
 iterate 2 refine Of 38 Z Z hb55 Z ?_
 refine qu (Bv true) (Pt Z hb55 Z) (Wz (WQ.f4 (WQ.f4 (WQ.f4 (WQ.f4 (WQ.f5 (WQ.f5 ?_)))))))
 obtain rfl:=oi h
 exact Tj ⟨lr,Z,hs22_1,Z,Z,Z⟩
 refine On 38 Z Z hb55 (qm (GV r46) (qo 38 hb55 (Bv (!r46.isNil)) (PO.errNotNil Tryz.underlying33 Z) (qu (Bv (!r46.isNil)) (Pf Z hb55 Z) (Wz (WQ.f4 (WQ.f4 (WQ.f4 (WQ.f4 (WQ.f5 (WQ.f5 ?_))))))))))
 obtain rfl:=oi h
 exact Tj ⟨lr,Z,hs22_1,Z,Z,Z⟩
 rintro ρ54 M54 H54 ⟨hle54,rfl,hs54_1,hs54_5,hs54_8,hs54_41⟩
 have L54:=L49.trans hle54
 have L54_1:=L49_1.trans hle54
 refine Ch h hs54_41 (fun hb56 h=> ?_) (fun hb56 h=> ?_)
 exact Sr (qa (Bv false) (Nt (Cr (Tr (Dr (Dr (Dr (Dr (Dr (Dr (Rf h [] Z (Rs Z Z) L54_1 ⟨Z,Z⟩)))))))))))
 refine Ck (Tc ?_)
 obtain ⟨j67,hj67,h⟩:=bnd h
 refine WC.joinE (fun(p_:((List T_api_Broker)×(List T_api_Topic)×(List T_api_Config)×(List T_api_Done)×Int×(List T_api_Broker)×(List T_api_Topic)×(List T_api_Config)×(List T_api_Done)×Int)) ρ' M' H'=>match p_ with |(x57,x58,x59,x60,x61,x62,x63,x64,x65,x66)=>∃ vx57 vx58 vx59 vx60 vx62 vx63 vx64 vx65,M54.le M'∧[(g52, .cells #[vx57,vx58,vx59,vx60,(Iv x61)] 29 (0,0))]::[(g35, .cells #[vx62,vx63,vx64,vx65,(Iv x66)] 29 (0,0))]::F=H'∧RS kd_api_Broker M' vx57 x57∧RS kd_api_Topic M' vx58 x58∧RS kd_api_Config M' vx59 x59∧RS kd_api_Done M' vx60 x60∧RS kd_api_Broker M' vx62 x62∧RS kd_api_Topic M' vx63 x63∧RS kd_api_Config M' vx64 x64∧RS kd_api_Done M' vx65 x65) j67 ?_ ?_
 have h367:=h
 have h:=hj67
 refine Sr (qa (Iv 0) (Nt (Bk (WC.f2 ?_))))
 have hq50_0:=hq50_0.mono hle54
 refine WC.know (fun _ hs=>hq50_0.rs hs) (fun hf81=> ?_)
 refine WC.freeze (fun hle80=> ?_)
 refine WC.f2 ?_
 have hq50_1:=hq50_1.mono (hle54.trans hle80)
 refine WC.know (fun _ hs=>hq50_1.rs hs) (fun hf83=> ?_)
 refine WC.freeze (fun hle82=> ?_)
 refine WC.f2 ?_
 have hq50_2:=hq50_2.mono ((hle54.trans hle80).trans hle82)
 refine WC.know (fun _ hs=>hq50_2.rs hs) (fun hf85=> ?_)
 refine WC.freeze (fun hle84=> ?_)
 refine WC.f2 ?_
 have hq50_3:=hq50_3.mono (((hle54.trans hle80).trans hle82).trans hle84)
 refine WC.know (fun _ hs=>hq50_3.rs hs) (fun hf87=> ?_)
 refine WC.freeze (fun hle86=> ?_)
 obtain ⟨e68,he68,hK68⟩:=bnd h
 clear h
 refine WC.loop he68 (fun(p_:(Int×(List T_api_Broker)×(List T_api_Topic)×(List T_api_Config)×(List T_api_Done)×Int×(List T_api_Broker)×(List T_api_Topic)×(List T_api_Config)×(List T_api_Done)×Int)) ρ' M' H'=>match p_ with |(x69,x70,x71,x72,x73,x74,x75,x76,x77,x78,x79)=>∃ vx70 vx71 vx72 vx73 vx75 vx76 vx77 vx78,((((M54.add cq50_0).add cq50_1).add cq50_2).add cq50_3).le M'∧[(g52, .cells #[vx75,vx76,vx77,vx78,(Iv x79)] 29 (0,0))]::[(g35, .cells #[vx70,vx71,vx72,vx73,(Iv x74)] 29 (0,0))]::F=H'∧ρ' 1=v1∧ρ' 5=(pt g35 0)∧ρ' 8=(pt g52 0)∧ρ' 10=(Iv x69)∧RS kd_api_Broker M' vx70 x70∧RS kd_api_Topic M' vx71 x71∧RS kd_api_Config M' vx72 x72∧RS kd_api_Done M' vx73 x73∧RS kd_api_Broker M' vx75 x75∧RS kd_api_Topic M' vx76 x76∧RS kd_api_Config M' vx77 x77∧RS kd_api_Done M' vx78 x78) ?_ ?_
 have hq34_0:=hq34_0.mono ((((L54.trans hle80).trans hle82).trans hle84).trans hle86)
 have hq34_1:=hq34_1.mono ((((L54.trans hle80).trans hle82).trans hle84).trans hle86)
 have hq34_2:=hq34_2.mono ((((L54.trans hle80).trans hle82).trans hle84).trans hle86)
 have hq34_3:=hq34_3.mono ((((L54.trans hle80).trans hle82).trans hle84).trans hle86)
 have hf81:=hf81.mono ((hle82.trans hle84).trans hle86)
 have hf83:=hf83.mono (hle84.trans hle86)
 have hf85:=hf85.mono hle86
 exact⟨vq34_0,vq34_1,vq34_2,vq34_3,vq50_0,vq50_1,vq50_2,vq50_3,lr,Z,hs54_1,hs54_5,hs54_8,Z,hq34_0,hq34_1,hq34_2,hq34_3,hf81,hf83,hf85,hf87⟩
 rintro ⟨x69,x70,x71,x72,x73,x74,x75,x76,x77,x78,x79⟩ o68 ρ68 M68 H68 h ⟨vx70,vx71,vx72,vx73,vx75,vx76,vx77,vx78,hle68,rfl,hs68_1,hs68_5,hs68_8,hs68_10,hx70,hx71,hx72,hx73,hx75,hx76,hx77,hx78⟩
 unfold f_law16_DumpGoes_l0 at h
 refine Cs (Sr (qM (Iv x69) hs68_10 (qM v1 hs68_1 ?_)))
 have h1:=h1.mono (((((L54_1.trans hle80).trans hle82).trans hle84).trans hle86).trans hle68)
 refine qu (Iv (a1.length:Int)) (PO.lenS Tryz.underlying22 Z h1.len) (qu (Bv (decide (x69<(a1.length:Int)))) (PO.lss Z Z) (Nt (Ch h Z (fun hb108 h=> ?_) (fun hb108 h=> ?_))))
 refine Ck (Tc (Cs (Bk ?_)))
 obtain ⟨j116,hj116,h⟩:=bnd h
 refine Jf (fun(p_:((List T_api_Broker)×(List T_api_Topic)×(List T_api_Config)×(List T_api_Done)×Int×Int)) ρ' M' H'=>match p_ with |(x110,x111,x112,x113,x114,x115)=>∃ g109 vx110 vx111 vx112 vx113,M68.le M'∧[(g52, .cells #[vx75,vx76,vx77,vx78,(Iv x79)] 29 (0,0))]::[(g35, .cells #[vx70,vx71,vx72,vx73,(Iv x74)] 29 (0,0))]::[(g109, .cells #[vx110,vx111,vx112,vx113,(Iv x114)] 29 (0,0))]::F=H'∧ρ' 1=v1∧ρ' 5=(pt g35 0)∧ρ' 8=(pt g52 0)∧ρ' 10=(Iv x69)∧ρ' 11=(pt g109 0)∧ρ' 12=(Iv x115)∧RS kd_api_Broker M' vx110 x110∧RS kd_api_Topic M' vx111 x111∧RS kd_api_Config M' vx112 x112∧RS kd_api_Done M' vx113 x113) j116 ?_ ?_
 have h:=hj116
 refine WC.draw [0,0,0,6,14,31,63,127,127,0,767,2047] (.pure 0 (.pure 1 (.pure 2 (.pure 3 (.pure 4 (.alt 5 (.pure 6 (.pure 7 (.pure 8 (.alt 9 (.alt 10 (.pure 11 .done) .none) .none)))) (.alt 9 (.alt 5 (.pure 6 (.pure 7 (.pure 8 (.alt 10 (.pure 11 .done) .none)))) .none) .none))))))) mixed (by kernel_rfl) (qt (.agg #[vx70,vx71,vx72,vx73,(Iv x74)]) Z (La (cs:=[vx70,vx71,vx72,vx73,(Iv x74)]) 1 ag29 sz29 hs68_5 Z Z) (qt v1 Z (Mv hs68_1) (qt (Iv x69) Z (Mv hs68_10) ?_)))
 obtain ⟨hg117,h⟩:=grd_i h
 obtain ⟨p118,cs119,hat120,hrc121,hhas122⟩:=h1.at hg117.1 hg117.2 (by decide)
 obtain ⟨vw123_14,vw123_15,vw123_16,vw123_17,rfl,hw123_14,hw123_15,hw123_16,hw123_17⟩:=kd_api_Record_open hrc121
 refine qt (.pointer (some p118)) Z (PO.indexAddr (n:=a1.length) Tryz.underlying22 sz45 Z Z hg117.1 hg117.2 hat120) (qt (a45_ (rd a1 x69) vw123_14 vw123_15 vw123_16 vw123_17) Z (PO.loadMA (cs:=(l45 (rd a1 x69) vw123_14 vw123_15 vw123_16 vw123_17)) ag45 sz45 Z hhas122) ?_)
 have hk124:=h
 obtain ⟨⟨r125,r126⟩,hr127,h⟩:=bnd h
 refine Ta Z (Ca co11 (f_ref15_Apply_ok (⟨x70,x71,x72,x73,x74⟩:T_api_Image) (rd a1 x69) _ _ _ _ _ _ _ _ _ hx70 hx71 hx72 hx73 hw123_14 hw123_15 hw123_16 hw123_17 (r125,r126) hr127) (args2 Z Z)) Z ?_ ?_
 rintro _ M128 _ hle129 ⟨_,⟨vq130_0,vq130_1,vq130_2,vq130_3,rfl,rfl,hq130_0,hq130_1,hq130_2,hq130_3⟩,rfl⟩
 refine⟨(Sl Z), ?_⟩
 refine WT.a0 (qt (.tuple #[(a29_ r125 vq130_0 vq130_1 vq130_2 vq130_3),(Iv r126)]) Z (Mv Z) (qt (a29_ r125 vq130_0 vq130_1 vq130_2 vq130_3) Z (Xt Z Z) (qt (Iv r126) Z (Xt Z Z) (Ta Z (Al ze29 Z) Z ?_ ?_))))
 rintro _ _ _ - ⟨rfl,g132,rfl,rfl⟩
 have hhas122:=hhas122.mono hle129
 refine⟨(Ss Z (Xt Z Z) Z (Ss Z (Xt Z Z) Z (Ss Z (Mv Z) Z (Ss Z (PO.loadMA (cs:=(l45 (rd a1 x69) vw123_14 vw123_15 vw123_16 vw123_17)) ag45 sz45 Z hhas122) Z (Ss Z (PO.indexAddr (n:=a1.length) Tryz.underlying22 sz45 Z Z hg117.1 hg117.2 hat120) Z (Ss Z (Mv hs68_10) Z (Ss Z (Mv hs68_1) Z (Ss Z (La (cs:=[vx70,vx71,vx72,vx73,(Iv x74)]) 2 ag29 sz29 hs68_5 Z Z) Z trivial)))))))), ?_⟩
 refine Ta Z (Sg (v:=(a29_ r125 vq130_0 vq130_1 vq130_2 vq130_3)) (vl:=(l29 r125 vq130_0 vq130_1 vq130_2 vq130_3)) (arr':=(l29 r125 vq130_0 vq130_1 vq130_2 vq130_3)) Z sz29 Z Z (onesOf (Oc (RS.one hq130_0) (Oc (RS.one hq130_1) (Oc (RS.one hq130_2) (Oc (RS.one hq130_3) (Oc Z Oz)))))) Z Z Z) Z ?_ ?_
 rintro _ _ _ - ⟨rfl,rfl⟩
 refine⟨(Ss Z (Xt Z Z) Z (Sl Z)), ?_⟩
 refine qt (Iv r126) Z (Ag Z) (Ti (Qb (Qb ?_)))
 obtain rfl:=oi h
 exact Tj ⟨g132,vq130_0,vq130_1,vq130_2,vq130_3,hle129,Z,hs68_1,hs68_5,hs68_8,hs68_10,Z,Z,hq130_0,hq130_1,hq130_2,hq130_3⟩
 exact Tz
 exact Tz
 have h:=hk124
 refine Ta Z (Al ze29 Z) Z ?_ ?_
 rintro _ _ _ - ⟨rfl,g133,rfl,rfl⟩
 refine⟨(Ss Z (PO.loadMA (cs:=(l45 (rd a1 x69) vw123_14 vw123_15 vw123_16 vw123_17)) ag45 sz45 Z hhas122) Z (Ss Z (PO.indexAddr (n:=a1.length) Tryz.underlying22 sz45 Z Z hg117.1 hg117.2 hat120) Z (Ss Z (Mv hs68_10) Z (Ss Z (Mv hs68_1) Z (Ss Z (La (cs:=[vx70,vx71,vx72,vx73,(Iv x74)]) 2 ag29 sz29 hs68_5 Z Z) Z trivial))))), ?_⟩
 obtain ⟨⟨r134,r135⟩,hr136,h⟩:=bnd h
 refine Ta Z (Ca co11 (f_ref15_Apply_ok (⟨x70,x71,x72,x73,x74⟩:T_api_Image) (rd a1 x69) _ _ _ _ _ _ _ _ _ hx70 hx71 hx72 hx73 hw123_14 hw123_15 hw123_16 hw123_17 (r134,r135) hr136) (args2 Z Z)) Z ?_ ?_
 rintro _ M137 _ hle138 ⟨_,⟨vq139_0,vq139_1,vq139_2,vq139_3,rfl,rfl,hq139_0,hq139_1,hq139_2,hq139_3⟩,rfl⟩
 refine⟨(Sl Z), ?_⟩
 refine WT.a0 (qt (.tuple #[(a29_ r134 vq139_0 vq139_1 vq139_2 vq139_3),(Iv r135)]) Z (Mv Z) (qt (a29_ r134 vq139_0 vq139_1 vq139_2 vq139_3) Z (Xt Z Z) (qt (Iv r135) Z (Xt Z Z) (Ta Z (Sg (v:=(a29_ r134 vq139_0 vq139_1 vq139_2 vq139_3)) (vl:=(l29 r134 vq139_0 vq139_1 vq139_2 vq139_3)) (arr':=(l29 r134 vq139_0 vq139_1 vq139_2 vq139_3)) Z sz29 Z Z (onesOf (Oc (RS.one hq139_0) (Oc (RS.one hq139_1) (Oc (RS.one hq139_2) (Oc (RS.one hq139_3) (Oc Z Oz)))))) Z Z Z) Z ?_ ?_))))
 rintro _ _ _ - ⟨rfl,rfl⟩
 refine⟨(Ss Z (Xt Z Z) Z (Sl Z)), ?_⟩
 refine qt (Iv r135) Z (Ag Z) (Ti (Qb (Qb ?_)))
 obtain rfl:=oi h
 exact Tj ⟨g133,vq139_0,vq139_1,vq139_2,vq139_3,hle138,Z,hs68_1,hs68_5,hs68_8,hs68_10,Z,Z,hq139_0,hq139_1,hq139_2,hq139_3⟩
 exact Tz
 exact Tz
 exact Tz
 obtain ⟨x110,x111,x112,x113,x114,x115⟩:=j116
 rintro ρ116 M116 H116 ⟨g109,vx110,vx111,vx112,vx113,hle116,rfl,hs116_1,hs116_5,hs116_8,hs116_10,hs116_11,hs116_12,hx110,hx111,hx112,hx113⟩
 obtain ⟨j148,hj148,h⟩:=bnd h
 refine Jf (fun(p_:((List T_api_Broker)×(List T_api_Topic)×(List T_api_Config)×(List T_api_Done)×Int×Int)) ρ' M' H'=>match p_ with |(x142,x143,x144,x145,x146,x147)=>∃ g141 vx142 vx143 vx144 vx145,M116.le M'∧[(g52, .cells #[vx75,vx76,vx77,vx78,(Iv x79)] 29 (0,0))]::[(g35, .cells #[vx70,vx71,vx72,vx73,(Iv x74)] 29 (0,0))]::[(g109, .cells #[vx110,vx111,vx112,vx113,(Iv x114)] 29 (0,0))]::[(g141, .cells #[vx142,vx143,vx144,vx145,(Iv x146)] 29 (0,0))]::F=H'∧ρ' 1=v1∧ρ' 5=(pt g35 0)∧ρ' 8=(pt g52 0)∧ρ' 10=(Iv x69)∧ρ' 11=(pt g109 0)∧ρ' 12=(Iv x115)∧ρ' 13=(pt g141 0)∧ρ' 14=(Iv x147)∧RS kd_api_Broker M' vx142 x142∧RS kd_api_Topic M' vx143 x143∧RS kd_api_Config M' vx144 x144∧RS kd_api_Done M' vx145 x145) j148 ?_ ?_
 have h:=hj148
 refine WC.draw [0,0,0,6,14,31,63,127,127,0,767,2047] (.pure 0 (.pure 1 (.pure 2 (.pure 3 (.pure 4 (.alt 5 (.pure 6 (.pure 7 (.pure 8 (.alt 9 (.alt 10 (.pure 11 .done) .none) .none)))) (.alt 9 (.alt 5 (.pure 6 (.pure 7 (.pure 8 (.alt 10 (.pure 11 .done) .none)))) .none) .none))))))) mixed (by kernel_rfl) (qt (.agg #[vx75,vx76,vx77,vx78,(Iv x79)]) Z (La (cs:=[vx75,vx76,vx77,vx78,(Iv x79)]) 0 ag29 sz29 hs116_8 Z Z) (qt v1 Z (Mv hs116_1) (qt (Iv x69) Z (Mv hs116_10) ?_)))
 obtain ⟨hg149,h⟩:=grd_i h
 have h1:=h1.mono hle116
 obtain ⟨p150,cs151,hat152,hrc153,hhas154⟩:=h1.at hg149.1 hg149.2 (by decide)
 obtain ⟨vw155_14,vw155_15,vw155_16,vw155_17,rfl,hw155_14,hw155_15,hw155_16,hw155_17⟩:=kd_api_Record_open hrc153
 refine qt (.pointer (some p150)) Z (PO.indexAddr (n:=a1.length) Tryz.underlying22 sz45 Z Z hg149.1 hg149.2 hat152) (qt (a45_ (rd a1 x69) vw155_14 vw155_15 vw155_16 vw155_17) Z (PO.loadMA (cs:=(l45 (rd a1 x69) vw155_14 vw155_15 vw155_16 vw155_17)) ag45 sz45 Z hhas154) ?_)
 have hk156:=h
 obtain ⟨⟨r157,r158⟩,hr159,h⟩:=bnd h
 have hx75:=hx75.mono hle116
 have hx76:=hx76.mono hle116
 have hx77:=hx77.mono hle116
 have hx78:=hx78.mono hle116
 refine Ta Z (Ca co11 (f_ref15_Apply_ok (⟨x75,x76,x77,x78,x79⟩:T_api_Image) (rd a1 x69) _ _ _ _ _ _ _ _ _ hx75 hx76 hx77 hx78 hw155_14 hw155_15 hw155_16 hw155_17 (r157,r158) hr159) (args2 Z Z)) Z ?_ ?_
 rintro _ M160 _ hle161 ⟨_,⟨vq162_0,vq162_1,vq162_2,vq162_3,rfl,rfl,hq162_0,hq162_1,hq162_2,hq162_3⟩,rfl⟩
 refine⟨(Sl Z), ?_⟩
 refine WT.a0 (qt (.tuple #[(a29_ r157 vq162_0 vq162_1 vq162_2 vq162_3),(Iv r158)]) Z (Mv Z) (qt (a29_ r157 vq162_0 vq162_1 vq162_2 vq162_3) Z (Xt Z Z) (qt (Iv r158) Z (Xt Z Z) (Ta Z (Al ze29 Z) Z ?_ ?_))))
 rintro _ _ _ - ⟨rfl,g164,rfl,rfl⟩
 have hhas154:=hhas154.mono hle161
 refine⟨(Ss Z (Xt Z Z) Z (Ss Z (Xt Z Z) Z (Ss Z (Mv Z) Z (Ss Z (PO.loadMA (cs:=(l45 (rd a1 x69) vw155_14 vw155_15 vw155_16 vw155_17)) ag45 sz45 Z hhas154) Z (Ss Z (PO.indexAddr (n:=a1.length) Tryz.underlying22 sz45 Z Z hg149.1 hg149.2 hat152) Z (Ss Z (Mv hs116_10) Z (Ss Z (Mv hs116_1) Z (Ss Z (La (cs:=[vx75,vx76,vx77,vx78,(Iv x79)]) 1 ag29 sz29 hs116_8 Z Z) Z trivial)))))))), ?_⟩
 refine Ta Z (Sg (v:=(a29_ r157 vq162_0 vq162_1 vq162_2 vq162_3)) (vl:=(l29 r157 vq162_0 vq162_1 vq162_2 vq162_3)) (arr':=(l29 r157 vq162_0 vq162_1 vq162_2 vq162_3)) Z sz29 Z Z (onesOf (Oc (RS.one hq162_0) (Oc (RS.one hq162_1) (Oc (RS.one hq162_2) (Oc (RS.one hq162_3) (Oc Z Oz)))))) Z Z Z) Z ?_ ?_
 rintro _ _ _ - ⟨rfl,rfl⟩
 refine⟨(Ss Z (Xt Z Z) Z (Sl Z)), ?_⟩
 refine qt (Iv r158) Z (Ag Z) (Ti (WQ.f3 (WQ.f3 (WQ.f3 ?_))))
 obtain rfl:=oi h
 exact Tj ⟨g164,vq162_0,vq162_1,vq162_2,vq162_3,hle161,Z,hs116_1,hs116_5,hs116_8,hs116_10,hs116_11,hs116_12,Z,Z,hq162_0,hq162_1,hq162_2,hq162_3⟩
 exact Tz
 exact Tz
 have h:=hk156
 refine Ta Z (Al ze29 Z) Z ?_ ?_
 rintro _ _ _ - ⟨rfl,g165,rfl,rfl⟩
 refine⟨(Ss Z (PO.loadMA (cs:=(l45 (rd a1 x69) vw155_14 vw155_15 vw155_16 vw155_17)) ag45 sz45 Z hhas154) Z (Ss Z (PO.indexAddr (n:=a1.length) Tryz.underlying22 sz45 Z Z hg149.1 hg149.2 hat152) Z (Ss Z (Mv hs116_10) Z (Ss Z (Mv hs116_1) Z (Ss Z (La (cs:=[vx75,vx76,vx77,vx78,(Iv x79)]) 1 ag29 sz29 hs116_8 Z Z) Z trivial))))), ?_⟩
 obtain ⟨⟨r166,r167⟩,hr168,h⟩:=bnd h
 refine Ta Z (Ca co11 (f_ref15_Apply_ok (⟨x75,x76,x77,x78,x79⟩:T_api_Image) (rd a1 x69) _ _ _ _ _ _ _ _ _ hx75 hx76 hx77 hx78 hw155_14 hw155_15 hw155_16 hw155_17 (r166,r167) hr168) (args2 Z Z)) Z ?_ ?_
 rintro _ M169 _ hle170 ⟨_,⟨vq171_0,vq171_1,vq171_2,vq171_3,rfl,rfl,hq171_0,hq171_1,hq171_2,hq171_3⟩,rfl⟩
 refine⟨(Sl Z), ?_⟩
 refine WT.a0 (qt (.tuple #[(a29_ r166 vq171_0 vq171_1 vq171_2 vq171_3),(Iv r167)]) Z (Mv Z) (qt (a29_ r166 vq171_0 vq171_1 vq171_2 vq171_3) Z (Xt Z Z) (qt (Iv r167) Z (Xt Z Z) (Ta Z (Sg (v:=(a29_ r166 vq171_0 vq171_1 vq171_2 vq171_3)) (vl:=(l29 r166 vq171_0 vq171_1 vq171_2 vq171_3)) (arr':=(l29 r166 vq171_0 vq171_1 vq171_2 vq171_3)) Z sz29 Z Z (onesOf (Oc (RS.one hq171_0) (Oc (RS.one hq171_1) (Oc (RS.one hq171_2) (Oc (RS.one hq171_3) (Oc Z Oz)))))) Z Z Z) Z ?_ ?_))))
 rintro _ _ _ - ⟨rfl,rfl⟩
 refine⟨(Ss Z (Xt Z Z) Z (Sl Z)), ?_⟩
 refine qt (Iv r167) Z (Ag Z) (Ti (WQ.f3 (WQ.f3 (WQ.f3 ?_))))
 obtain rfl:=oi h
 exact Tj ⟨g165,vq171_0,vq171_1,vq171_2,vq171_3,hle170,Z,hs116_1,hs116_5,hs116_8,hs116_10,hs116_11,hs116_12,Z,Z,hq171_0,hq171_1,hq171_2,hq171_3⟩
 exact Tz
 exact Tz
 exact Tz
 obtain ⟨x142,x143,x144,x145,x146,x147⟩:=j148
 rintro ρ148 M148 H148 ⟨g141,vx142,vx143,vx144,vx145,hle148,rfl,hs148_1,hs148_5,hs148_8,hs148_10,hs148_11,hs148_12,hs148_13,hs148_14,hx142,hx143,hx144,hx145⟩
 refine Cs ?_
 obtain ⟨x173,hj174,h⟩:=bnd h
 refine Jf (fun(x173:Bool) ρ' M' H'=>M148.le M'∧[(g52, .cells #[vx75,vx76,vx77,vx78,(Iv x79)] 29 (0,0))]::[(g35, .cells #[vx70,vx71,vx72,vx73,(Iv x74)] 29 (0,0))]::[(g109, .cells #[vx110,vx111,vx112,vx113,(Iv x114)] 29 (0,0))]::[(g141, .cells #[vx142,vx143,vx144,vx145,(Iv x146)] 29 (0,0))]::F=H'∧ρ' 1=v1∧ρ' 5=(pt g35 0)∧ρ' 8=(pt g52 0)∧ρ' 10=(Iv x69)∧ρ' 11=(pt g109 0)∧ρ' 13=(pt g141 0)∧ρ' 74=(Bv x173)) x173 ?_ ?_
 have h:=hj174
 refine Cg (qM (Iv x115) hs148_12 (qM (Iv x147) hs148_14 (qu (Bv (decide (x115≠x147))) (PO.neq Z Z) (qm (Bv (decide (x115≠x147))) ?_))))
 rcases Bi h with⟨hb175,h⟩ |⟨hb175,h⟩
 iterate 4 refine Of 69 Z Z hb175 Z ?_
 refine qu (Bv true) (Pt Z hb175 Z) (Wz ?_)
 obtain rfl:=oi h
 exact Tj ⟨lr,Z,hs148_1,hs148_5,hs148_8,hs148_10,hs148_11,hs148_13,Z⟩
 refine qo 69 hb175 (.agg #[vx110,vx111,vx112,vx113,(Iv x114)]) (La (cs:=[vx110,vx111,vx112,vx113,(Iv x114)]) 2 ag29 sz29 hs148_11 Z Z) (qo 69 hb175 (.agg #[vx142,vx143,vx144,vx145,(Iv x146)]) (La (cs:=[vx142,vx143,vx144,vx145,(Iv x146)]) 3 ag29 sz29 hs148_13 Z Z) (On 69 Z Z hb175 ?_))
 obtain ⟨r176,hr177,h⟩:=bnd h
 have hx110:=hx110.mono hle148
 have hx111:=hx111.mono hle148
 have hx112:=hx112.mono hle148
 have hx113:=hx113.mono hle148
 refine We (Ca co10 (f_ref15_Same_ok (⟨x110,x111,x112,x113,x114⟩:T_api_Image) (⟨x142,x143,x144,x145,x146⟩:T_api_Image) _ _ _ _ _ _ _ _ _ hx110 hx111 hx112 hx113 hx142 hx143 hx144 hx145 r176 hr177) (args2 Z Z)) Z ?_
 rintro _ M178 _ hle179 ⟨_,⟨rfl,rfl⟩,rfl⟩
 refine WL.a0 (qo 69 hb175 (Bv (!r176)) (PO.not Z) (qu (Bv (!r176)) (Pf Z hb175 Z) (Wz ?_)))
 obtain rfl:=oi h
 exact Tj ⟨hle179,Z,hs148_1,hs148_5,hs148_8,hs148_10,hs148_11,hs148_13,Z⟩
 rintro ρ174 M174 H174 ⟨hle174,rfl,hs174_1,hs174_5,hs174_8,hs174_10,hs174_11,hs174_13,hs174_74⟩
 refine Ch h hs174_74 (fun hb181 h=> ?_) (fun hb181 h=> ?_)
 refine Sr (qa (Bv false) (Nt (Cr (Tr (Br (Tr (WQ.leaveR (Sum.inr (x75,x76,x77,x78,x79,x70,x71,x72,x73,x74)) (oi h).symm (fun heq68=> ?_))))))))
 subst heq68
 have h:=(elimR hK68)
 refine Br (Tr ?_)
 have h:=KK.early h h367
 exact Dr (Dr (Dr (Dr (Rf h [] Z (Rs Z Z) ((((((((L54_1.trans hle80).trans hle82).trans hle84).trans hle86).trans hle68).trans hle116).trans hle148).trans hle174) ⟨Z,Z⟩))))
 refine Ck (Tc (Sr (qu (.agg #[vx110,vx111,vx112,vx113,(Iv x114)]) (La (cs:=[vx110,vx111,vx112,vx113,(Iv x114)]) 2 ag29 sz29 hs174_11 Z Z) (WL.f1 ?_))))
 have hx110:=hx110.mono (hle148.trans hle174)
 have hx111:=hx111.mono (hle148.trans hle174)
 have hx112:=hx112.mono (hle148.trans hle174)
 have hx113:=hx113.mono (hle148.trans hle174)
 refine We (Sg (v:=(.agg #[vx110,vx111,vx112,vx113,(Iv x114)])) (vl:=[vx110,vx111,vx112,vx113,(Iv x114)]) (arr':=[vx110,vx111,vx112,vx113,(Iv x114)]) Z sz29 hs174_5 Z (onesOf (Oc (RS.one hx110) (Oc (RS.one hx111) (Oc (RS.one hx112) (Oc (RS.one hx113) (Oc Z Oz)))))) Z Z Z) Z ?_
 rintro _ _ _ - ⟨rfl,rfl⟩
 refine Nt (Cg (qu (.agg #[vx142,vx143,vx144,vx145,(Iv x146)]) (La (cs:=[vx142,vx143,vx144,vx145,(Iv x146)]) 3 ag29 sz29 hs174_13 Z Z) (WL.f1 ?_)))
 have hx142:=hx142.mono hle174
 have hx143:=hx143.mono hle174
 have hx144:=hx144.mono hle174
 have hx145:=hx145.mono hle174
 refine We (Sg (v:=(.agg #[vx142,vx143,vx144,vx145,(Iv x146)])) (vl:=[vx142,vx143,vx144,vx145,(Iv x146)]) (arr':=[vx142,vx143,vx144,vx145,(Iv x146)]) Z sz29 hs174_8 Z (onesOf (Oc (RS.one hx142) (Oc (RS.one hx143) (Oc (RS.one hx144) (Oc (RS.one hx145) (Oc Z Oz)))))) Z Z Z) Z ?_
 rintro _ _ _ - ⟨rfl,rfl⟩
 refine Wz (Bn (Tc (Cg (qM (Iv x69) hs174_10 (qu (Iv (IntKind.i64.wrap (x69+1))) (PO.add Z Z) (qa (Iv (IntKind.i64.wrap (x69+1))) (Wz (Qb (Dr (Qb (Dr ?_)))))))))))
 exact WQ.again (IntKind.i64.wrap (x69+1),x110,x111,x112,x113,x114,x142,x143,x144,x145,x146) (oi h).symm ⟨vx110,vx111,vx112,vx113,vx142,vx143,vx144,vx145,(((hle68.trans hle116).trans hle148).trans hle174),Z,hs174_1,hs174_5,hs174_8,Z,hx110,hx111,hx112,hx113,hx142,hx143,hx144,hx145⟩
 refine WC.exit (WQ.thenE (WQ.leaveE (Sum.inl (x75,x76,x77,x78,x79,x70,x71,x72,x73,x74)) (oi h).symm (fun heq68=> ?_)))
 subst heq68
 have h:=elimL hK68
 exact WQ.blockH (WQ.thenFE h ⟨vx75,vx76,vx77,vx78,vx70,vx71,vx72,vx73,((((hle80.trans hle82).trans hle84).trans hle86).trans hle68),Z,hx75,hx76,hx77,hx78,hx70,hx71,hx72,hx73⟩)
 rintro ⟨x57,x58,x59,x60,x61,x62,x63,x64,x65,x66⟩ ρ67 M67 H67 rfl ⟨vx57,vx58,vx59,vx60,vx62,vx63,vx64,vx65,hle67,rfl,hx57,hx58,hx59,hx60,hx62,hx63,hx64,hx65⟩
 have h:=(Sum.elim_inl _ _ _).symm.trans h
 refine Sr ?_
 obtain ⟨r182,hr183,h⟩:=bnd h
 refine We (Ca co6 (f_law16_works_ok _ r182 hr183) (args0)) Z ?_
 rintro _ M184 _ hle185 ⟨_,⟨rfl,rfl⟩,rfl⟩
 exact WL.a0 (qa (Bv r182) (Nt (Cr (Dr (Dr (Rf h [] Z (Rs Z Z) ((L54_1.trans hle67).trans hle185) ⟨Z,Z⟩))))))

end Go.Proofs.YtpcbipcdfccnnaaGreat.G
