/- Go functions: what they come to, and that they do. Printed by a program of the session (gen). -/
import Derived.Test.YtpcbipcdfccnnaaGreatWF
import Derived.Test.YtpcbipcdfccnnaaGreatW6
import Derived.Test.YtpcbipcdfccnnaaGreatW10
import Derived.Test.YtpcbipcdfccnnaaGreatW13
import Derived.Test.YtpcbipcdfccnnaaGreatKShar2
import Derived.Test.YtpcbipcdfccnnaaGreatKConv
import Derived.Test.YtpcbipcdfccnnaaGreatKMap
import Derived.Test.YtpcbipcdfccnnaaGreatKTight2
set_option linter.unusedVariables false
set_option linter.unusedSimpArgs false
set_option maxHeartbeats 8000000
set_option maxRecDepth 100000
namespace Go.Proofs.YtpcbipcdfccnnaaGreat.G
open Go Go.KK

noncomputable def f_ref15_Same_l0 (a0:T_api_Image) (a1:T_api_Image) (s_:Int):Option (Int⊕(Unit⊕Unit)):=
 match s_ with
 |x32=>
 (if(decide (x32<(a0.Brokers.length:Int)))=true then(grd (0≤x32∧x32<a0.Brokers.length) (grd (0≤x32∧x32<a1.Brokers.length) (if(!(andL [decide (((rd a0.Brokers x32).Id)=((rd a1.Brokers x32).Id)),decide (((rd a0.Brokers x32).Epoch)=((rd a1.Brokers x32).Epoch)),((rd a0.Brokers x32).Rack)==((rd a1.Brokers x32).Rack),((rd a0.Brokers x32).Fenced)==((rd a1.Brokers x32).Fenced),((rd a0.Brokers x32).Leaving)==((rd a1.Brokers x32).Leaving)]))=true then(some (Sum.inr (Sum.inr ())))else(some (Sum.inl (IntKind.i64.wrap (x32+(1:Int))))))))else(some (Sum.inr (Sum.inl ()))))
noncomputable def f_ref15_Same_l1 (a0:T_api_Image) (a1:T_api_Image) (s_:Int):Option (Int⊕(Unit⊕Unit)):=
 match s_ with
 |x51=>
 (if(decide (x51<(a0.Topics.length:Int)))=true then(grd (0≤x51∧x51<a0.Topics.length) (grd (0≤x51∧x51<a1.Topics.length) ((f_ref15_sameTopic (rd a0.Topics x51) (rd a1.Topics x51)).bind fun r67=>(if(!r67)=true then(some (Sum.inr (Sum.inr ())))else(some (Sum.inl (IntKind.i64.wrap (x51+(1:Int)))))))))else(some (Sum.inr (Sum.inl ()))))
noncomputable def f_ref15_Same_l2 (a0:T_api_Image) (a1:T_api_Image) (s_:Int):Option (Int⊕(Unit⊕Unit)):=
 match s_ with
 |x75=>
 (if(decide (x75<(a0.Configs.length:Int)))=true then(grd (0≤x75∧x75<a0.Configs.length) (grd (0≤x75∧x75<a1.Configs.length) (if(!(andL [decide (((rd a0.Configs x75).Topic)=((rd a1.Configs x75).Topic)),((rd a0.Configs x75).Key)==((rd a1.Configs x75).Key),((rd a0.Configs x75).Value)==((rd a1.Configs x75).Value)]))=true then(some (Sum.inr (Sum.inr ())))else(some (Sum.inl (IntKind.i64.wrap (x75+(1:Int))))))))else(some (Sum.inr (Sum.inl ()))))
noncomputable def f_ref15_Same_l3 (a0:T_api_Image) (a1:T_api_Image) (s_:Int):Option (Int⊕(Unit⊕Unit)):=
 match s_ with
 |x94=>
 (if(decide (x94<(a0.Done.length:Int)))=true then(grd (0≤x94∧x94<a0.Done.length) (grd (0≤x94∧x94<a1.Done.length) (if(!(andL [decide (((rd a0.Done x94).Client)=((rd a1.Done x94).Client)),decide (((rd a0.Done x94).Serial)=((rd a1.Done x94).Serial)),decide (((rd a0.Done x94).Code)=((rd a1.Done x94).Code))]))=true then(some (Sum.inr (Sum.inr ())))else(some (Sum.inl (IntKind.i64.wrap (x94+(1:Int))))))))else(some (Sum.inr (Sum.inl ()))))
noncomputable def f_ref15_Same (a0:T_api_Image) (a1:T_api_Image):Option Bool:=
 (((if(decide (a0.Last≠a1.Last))=true then(some true)else(if(decide ((a0.Brokers.length:Int)≠(a1.Brokers.length:Int)))=true then(some true)else(if(decide ((a0.Topics.length:Int)≠(a1.Topics.length:Int)))=true then(some true)else(if(decide ((a0.Configs.length:Int)≠(a1.Configs.length:Int)))=true then(some true)else(some (decide ((a0.Done.length:Int)≠(a1.Done.length:Int)))))))):Option Bool).bind fun x23=>(if x23=true then(some false)else((((iter (f_ref15_Same_l0 a0 a1) (0:Int)).bind (Sum.elim (fun _=>(some (Sum.inl ()))) (fun _=>(((some false)).bind fun r=>some (Sum.inr r))))):Option (Unit⊕Bool)).bind (Sum.elim (fun _=>((((iter (f_ref15_Same_l1 a0 a1) (0:Int)).bind (Sum.elim (fun _=>(some (Sum.inl ()))) (fun _=>(((some false)).bind fun r=>some (Sum.inr r))))):Option (Unit⊕Bool)).bind (Sum.elim (fun _=>((((iter (f_ref15_Same_l2 a0 a1) (0:Int)).bind (Sum.elim (fun _=>(some (Sum.inl ()))) (fun _=>(((some false)).bind fun r=>some (Sum.inr r))))):Option (Unit⊕Bool)).bind (Sum.elim (fun _=>((((iter (f_ref15_Same_l3 a0 a1) (0:Int)).bind (Sum.elim (fun _=>(some (Sum.inl ()))) (fun _=>(((some false)).bind fun r=>some (Sum.inr r))))):Option (Unit⊕Bool)).bind (Sum.elim (fun _=>(some true)) some))) some))) some))) some))))
def f_ref15_Same_post (a0:T_api_Image) (a1:T_api_Image) (v0_0 v0_1 v0_2 v0_3 v1_0 v1_1 v1_2 v1_3:Value):Bool→Value→IM→HL→Prop:=
 fun(r0:Bool) (v:Value) (M':IM) (H':HL)=>(.bool r0)=v∧H'=[]
theorem f_ref15_Same_ok (a0:T_api_Image) (a1:T_api_Image) (M:IM) (v0_0 v0_1 v0_2 v0_3 v1_0 v1_1 v1_2 v1_3:Value) (h0_0:RS kd_api_Broker M v0_0 a0.Brokers) (h0_1:RS kd_api_Topic M v0_1 a0.Topics) (h0_2:RS kd_api_Config M v0_2 a0.Configs) (h0_3:RS kd_api_Done M v0_3 a0.Done) (h1_0:RS kd_api_Broker M v1_0 a1.Brokers) (h1_1:RS kd_api_Topic M v1_1 a1.Topics) (h1_2:RS kd_api_Config M v1_2 a1.Configs) (h1_3:RS kd_api_Done M v1_3 a1.Done) (res:Bool) (h:f_ref15_Same a0 a1=some res):
 Tri Tryz.prog 10 #[(a29_ a0 v0_0 v0_1 v0_2 v0_3),(a29_ a1 v1_0 v1_1 v1_2 v1_3)] M [] (f_ref15_Same_post a0 a1 v0_0 v0_1 v0_2 v0_3 v1_0 v1_1 v1_2 v1_3 res):=by
 unfold f_ref15_Same at h
 refine Te Tryz.func10 Z Z ?_
 intro F ρ hρ
 refine Sr (We (EO.box (cs:=(l29 a0 v0_0 v0_1 v0_2 v0_3).toArray) (congrArg Value.cells (asE (a29_ a0 v0_0 v0_1 v0_2 v0_3) (hρ 0)))) Z ?_)
 rintro _ _ _ - ⟨rfl,g21,rfl,rfl⟩
 refine We (EO.box (cs:=(l29 a1 v1_0 v1_1 v1_2 v1_3).toArray) (congrArg Value.cells (asE (a29_ a1 v1_0 v1_1 v1_2 v1_3) (hρ 1)))) Z ?_
 rintro _ _ _ - ⟨rfl,g22,rfl,rfl⟩
 refine qa (Bv false) (Nt (Cs ?_))
 obtain ⟨x23,hj24,h⟩:=bnd h
 refine Jf (fun(x23:Bool) ρ' M' H'=>M.le M'∧[(g22, .cells (l29 a1 v1_0 v1_1 v1_2 v1_3).toArray 29 (0,0))]::[(g21, .cells (l29 a0 v0_0 v0_1 v0_2 v0_3).toArray 29 (0,0))]::F=H'∧ρ' 2=(pt g21 0)∧ρ' 3=(pt g22 0)∧ρ' 49=(Bv x23)) x23 ?_ ?_
 have h:=hj24
 refine Cg (qu (pt g21 4) (Fa fo29_4 Z Z) (qu (Iv a0.Last) (Lb 1 pl3 Z Z Z) (qu (pt g22 4) (Fa fo29_4 Z Z) (qu (Iv a1.Last) (Lb 0 pl3 Z Z Z) (qu (Bv (decide (a0.Last≠a1.Last))) (PO.neq Z Z) (qm (Bv (decide (a0.Last≠a1.Last))) ?_))))))
 rcases Bi h with⟨hb25,h⟩ |⟨hb25,h⟩
 iterate 7 refine Of 14 Z Z hb25 Z ?_
 refine qu (Bv true) (Pt Z hb25 Z) (qm (Bv true) ?_)
 iterate 7 refine Of 23 Z Z Z Z ?_
 refine qu (Bv true) (Pt Z Z Z) (qm (Bv true) ?_)
 iterate 7 refine Of 32 Z Z Z Z ?_
 refine qu (Bv true) (Pt Z Z Z) (qm (Bv true) ?_)
 iterate 7 refine Of 41 Z Z Z Z ?_
 refine qu (Bv true) (Pt Z Z Z) (Wz ?_)
 obtain rfl:=oi h
 exact Tj ⟨lr,Z,Z,Z,Z⟩
 refine qo 14 hb25 (pt g21 0) (Fa fo29_0 Z Z) (qo 14 hb25 v0_0 (Lb 1 pl24 Z Z Z) (qo 14 hb25 (Iv (a0.Brokers.length:Int)) (PO.lenS Tryz.underlying24 Z h0_0.len) (qo 14 hb25 (pt g22 0) (Fa fo29_0 Z Z) (qo 14 hb25 v1_0 (Lb 0 pl24 Z Z Z) (qo 14 hb25 (Iv (a1.Brokers.length:Int)) (PO.lenS Tryz.underlying24 Z h1_0.len) (qo 14 hb25 (Bv (decide ((a0.Brokers.length:Int)≠(a1.Brokers.length:Int)))) (PO.neq Z Z) (qu (Bv (decide ((a0.Brokers.length:Int)≠(a1.Brokers.length:Int)))) (Pf Z hb25 Z) (qm (Bv (decide ((a0.Brokers.length:Int)≠(a1.Brokers.length:Int)))) ?_))))))))
 rcases Bi h with⟨hb26,h⟩ |⟨hb26,h⟩
 iterate 7 refine Of 23 Z Z hb26 Z ?_
 refine qu (Bv true) (Pt Z hb26 Z) (qm (Bv true) ?_)
 iterate 7 refine Of 32 Z Z Z Z ?_
 refine qu (Bv true) (Pt Z Z Z) (qm (Bv true) ?_)
 iterate 7 refine Of 41 Z Z Z Z ?_
 refine qu (Bv true) (Pt Z Z Z) (Wz ?_)
 obtain rfl:=oi h
 exact Tj ⟨lr,Z,Z,Z,Z⟩
 refine qo 23 hb26 (pt g21 1) (Fa fo29_1 Z Z) (qo 23 hb26 v0_1 (Lb 1 pl25 Z Z Z) (qo 23 hb26 (Iv (a0.Topics.length:Int)) (PO.lenS Tryz.underlying25 Z h0_1.len) (qo 23 hb26 (pt g22 1) (Fa fo29_1 Z Z) (qo 23 hb26 v1_1 (Lb 0 pl25 Z Z Z) (qo 23 hb26 (Iv (a1.Topics.length:Int)) (PO.lenS Tryz.underlying25 Z h1_1.len) (qo 23 hb26 (Bv (decide ((a0.Topics.length:Int)≠(a1.Topics.length:Int)))) (PO.neq Z Z) (qu (Bv (decide ((a0.Topics.length:Int)≠(a1.Topics.length:Int)))) (Pf Z hb26 Z) (qm (Bv (decide ((a0.Topics.length:Int)≠(a1.Topics.length:Int)))) ?_))))))))
 rcases Bi h with⟨hb27,h⟩ |⟨hb27,h⟩
 iterate 7 refine Of 32 Z Z hb27 Z ?_
 refine qu (Bv true) (Pt Z hb27 Z) (qm (Bv true) ?_)
 iterate 7 refine Of 41 Z Z Z Z ?_
 refine qu (Bv true) (Pt Z Z Z) (Wz ?_)
 obtain rfl:=oi h
 exact Tj ⟨lr,Z,Z,Z,Z⟩
 refine qo 32 hb27 (pt g21 2) (Fa fo29_2 Z Z) (qo 32 hb27 v0_2 (Lb 1 pl26 Z Z Z) (qo 32 hb27 (Iv (a0.Configs.length:Int)) (PO.lenS Tryz.underlying26 Z h0_2.len) (qo 32 hb27 (pt g22 2) (Fa fo29_2 Z Z) (qo 32 hb27 v1_2 (Lb 0 pl26 Z Z Z) (qo 32 hb27 (Iv (a1.Configs.length:Int)) (PO.lenS Tryz.underlying26 Z h1_2.len) (qo 32 hb27 (Bv (decide ((a0.Configs.length:Int)≠(a1.Configs.length:Int)))) (PO.neq Z Z) (qu (Bv (decide ((a0.Configs.length:Int)≠(a1.Configs.length:Int)))) (Pf Z hb27 Z) (qm (Bv (decide ((a0.Configs.length:Int)≠(a1.Configs.length:Int)))) ?_))))))))
 rcases Bi h with⟨hb28,h⟩ |⟨hb28,h⟩
 iterate 7 refine Of 41 Z Z hb28 Z ?_
 refine qu (Bv true) (Pt Z hb28 Z) (Wz ?_)
 obtain rfl:=oi h
 exact Tj ⟨lr,Z,Z,Z,Z⟩
 refine qo 41 hb28 (pt g21 3) (Fa fo29_3 Z Z) (qo 41 hb28 v0_3 (Lb 1 pl27 Z Z Z) (qo 41 hb28 (Iv (a0.Done.length:Int)) (PO.lenS Tryz.underlying27 Z h0_3.len) (qo 41 hb28 (pt g22 3) (Fa fo29_3 Z Z) (qo 41 hb28 v1_3 (Lb 0 pl27 Z Z Z) (qo 41 hb28 (Iv (a1.Done.length:Int)) (PO.lenS Tryz.underlying27 Z h1_3.len) (qo 41 hb28 (Bv (decide ((a0.Done.length:Int)≠(a1.Done.length:Int)))) (PO.neq Z Z) (qu (Bv (decide ((a0.Done.length:Int)≠(a1.Done.length:Int)))) (Pf Z hb28 Z) (Wz ?_))))))))
 obtain rfl:=oi h
 exact Tj ⟨lr,Z,Z,Z,Z⟩
 rintro ρ24 M24 H24 ⟨hle24,rfl,hs24_2,hs24_3,hs24_49⟩
 refine Ch h hs24_49 (fun hb29 h=> ?_) (fun hb29 h=> ?_)
 exact Sr (qa (Bv false) (Nt (Cr (Tr (Dr (Dr (Rf h [] Z (Rs Z Z) hle24 ⟨Z,Z⟩)))))))
 refine Ck (Tc ?_)
 obtain ⟨j30,hj30,h⟩:=bnd h
 refine WC.joinE (fun(_:Unit) ρ' M' H'=>M24.le M'∧[(g22, .cells (l29 a1 v1_0 v1_1 v1_2 v1_3).toArray 29 (0,0))]::[(g21, .cells (l29 a0 v0_0 v0_1 v0_2 v0_3).toArray 29 (0,0))]::F=H'∧ρ' 2=(pt g21 0)∧ρ' 3=(pt g22 0)) j30 ?_ ?_
 have h330:=h
 have h:=hj30
 refine Sr (qa (Iv 0) (Nt (Bk ?_)))
 obtain ⟨e31,he31,hK31⟩:=bnd h
 clear h
 refine WC.loop he31 (fun(x32:Int) ρ' M' H'=>M24.le M'∧[(g22, .cells (l29 a1 v1_0 v1_1 v1_2 v1_3).toArray 29 (0,0))]::[(g21, .cells (l29 a0 v0_0 v0_1 v0_2 v0_3).toArray 29 (0,0))]::F=H'∧ρ' 2=(pt g21 0)∧ρ' 3=(pt g22 0)∧ρ' 5=(Iv x32)) ?_ ?_
 exact⟨lr,Z,hs24_2,hs24_3,Z⟩
 rintro x32 o31 ρ31 M31 H31 h ⟨hle31,rfl,hs31_2,hs31_3,hs31_5⟩
 unfold f_ref15_Same_l0 at h
 refine Cs (Sr (qM (Iv x32) hs31_5 (qu (pt g21 0) (Fa fo29_0 hs31_2 Z) (qu v0_0 (Lb 1 pl24 Z Z Z) ?_))))
 have h0_0:=h0_0.mono (hle24.trans hle31)
 refine qu (Iv (a0.Brokers.length:Int)) (PO.lenS Tryz.underlying24 Z h0_0.len) (qu (Bv (decide (x32<(a0.Brokers.length:Int)))) (PO.lss Z Z) (Nt (Ch h Z (fun hb33 h=> ?_) (fun hb33 h=> ?_))))
 refine Ck (Tc (Cs (Bk (Cs (WC.draw [0,1,0,7,15,0,32,0,224,480,1023] (.pure 0 (.pure 1 (.pure 2 (.pure 3 (.pure 4 (.pure 5 (.pure 6 (.pure 7 (.pure 8 (.pure 9 (.pure 10 .done))))))))))) mixed (by kernel_rfl) (qt (pt g21 0) Z (Fa fo29_0 hs31_2 Z) (qt v0_0 Z (Lb 1 pl24 Z Z Z) (qt (Iv x32) Z (Mv hs31_5) ?_))))))))
 obtain ⟨hg34,h⟩:=grd_i h
 obtain ⟨p35,cs36,hat37,hrc38,hhas39⟩:=h0_0.at hg34.1 hg34.2 (by decide)
 obtain rfl:=kd_api_Broker_open hrc38
 refine qt (.pointer (some p35)) Z (PO.indexAddr (n:=a0.Brokers.length) Tryz.underlying24 sz59 Z Z hg34.1 hg34.2 hat37) (qt (a59_ (rd a0.Brokers x32)) Z (PO.loadMA (cs:=(l59 (rd a0.Brokers x32))) ag59 sz59 Z hhas39) (qt (pt g22 0) Z (Fa fo29_0 hs31_3 Z) (qt v1_0 Z (Lb 0 pl24 Z Z Z) (qt (Iv x32) Z (Mv hs31_5) ?_))))
 obtain ⟨hg41,h⟩:=grd_i h
 have h1_0:=h1_0.mono (hle24.trans hle31)
 obtain ⟨p42,cs43,hat44,hrc45,hhas46⟩:=h1_0.at hg41.1 hg41.2 (by decide)
 obtain rfl:=kd_api_Broker_open hrc45
 refine qt (.pointer (some p42)) Z (PO.indexAddr (n:=a1.Brokers.length) Tryz.underlying24 sz59 Z Z hg41.1 hg41.2 hat44) (qt (a59_ (rd a1.Brokers x32)) Z (PO.loadMA (cs:=(l59 (rd a1.Brokers x32))) ag59 sz59 Z hhas46) (qt (Bv (!(andL [decide (((rd a0.Brokers x32).Id)=((rd a1.Brokers x32).Id)),decide (((rd a0.Brokers x32).Epoch)=((rd a1.Brokers x32).Epoch)),((rd a0.Brokers x32).Rack)==((rd a1.Brokers x32).Rack),((rd a0.Brokers x32).Fenced)==((rd a1.Brokers x32).Fenced),((rd a0.Brokers x32).Leaving)==((rd a1.Brokers x32).Leaving)]))) Z (PO.neqAgg eg59 Z Z (run_equal_struct Tryz.underlying59 eq59 (EqFs.cons (by decide) pl3 Z Z (EqC.int Tryz.underlying3) (EqFs.cons (by decide) pl3 Z Z (EqC.int Tryz.underlying3) (EqFs.cons (by decide) pl9 Z Z (EqC.str Tryz.underlying9) (EqFs.cons (by decide) pl4 Z Z (EqC.bool Tryz.underlying4) (EqFs.cons (by decide) pl4 Z Z (EqC.bool Tryz.underlying4) EqFs.nil))))))) (Ti (Tc (Ch h Z (fun hb48 h=> ?_) (fun hb48 h=> ?_))))))
 refine Sr (qa (Bv false) (Nt (Cr (Br (Tr (WQ.leaveR (Sum.inr ()) (oi h).symm (fun heq31=> ?_)))))))
 subst heq31
 have h:=(elimR hK31)
 refine Br (Tr ?_)
 have h:=KK.early h h330
 exact Dr (Dr (Rf h [] Z (Rs Z Z) (hle24.trans hle31) ⟨Z,Z⟩))
 exact Ck (Bn (Tc (Cg (qM (Iv x32) hs31_5 (qu (Iv (IntKind.i64.wrap (x32+1))) (PO.add Z Z) (qa (Iv (IntKind.i64.wrap (x32+1))) (Wz (WQ.again (IntKind.i64.wrap (x32+1)) (oi h).symm ⟨hle31,Z,hs31_2,hs31_3,Z⟩))))))))
 refine WC.exit (WQ.thenE (WQ.leaveE (Sum.inl ()) (oi h).symm (fun heq31=> ?_)))
 subst heq31
 have h:=elimL hK31
 exact WQ.blockH (WQ.thenFE h ⟨hle31,Z,hs31_2,hs31_3⟩)
 rintro _ ρ30 M30 H30 rfl ⟨hle30,rfl,hs30_2,hs30_3⟩
 have L30:=hle24.trans hle30
 have h:=(Sum.elim_inl _ _ _).symm.trans h
 obtain ⟨j49,hj49,h⟩:=bnd h
 refine WC.joinE (fun(_:Unit) ρ' M' H'=>M30.le M'∧[(g22, .cells (l29 a1 v1_0 v1_1 v1_2 v1_3).toArray 29 (0,0))]::[(g21, .cells (l29 a0 v0_0 v0_1 v0_2 v0_3).toArray 29 (0,0))]::F=H'∧ρ' 2=(pt g21 0)∧ρ' 3=(pt g22 0)) j49 ?_ ?_
 have h349:=h
 have h:=hj49
 refine Sr (qa (Iv 0) (Nt (Bk ?_)))
 obtain ⟨e50,he50,hK50⟩:=bnd h
 clear h
 refine WC.loop he50 (fun(x51:Int) ρ' M' H'=>M30.le M'∧[(g22, .cells (l29 a1 v1_0 v1_1 v1_2 v1_3).toArray 29 (0,0))]::[(g21, .cells (l29 a0 v0_0 v0_1 v0_2 v0_3).toArray 29 (0,0))]::F=H'∧ρ' 2=(pt g21 0)∧ρ' 3=(pt g22 0)∧ρ' 6=(Iv x51)) ?_ ?_
 exact⟨lr,Z,hs30_2,hs30_3,Z⟩
 rintro x51 o50 ρ50 M50 H50 h ⟨hle50,rfl,hs50_2,hs50_3,hs50_6⟩
 unfold f_ref15_Same_l1 at h
 refine Cs (Sr (qM (Iv x51) hs50_6 (qu (pt g21 1) (Fa fo29_1 hs50_2 Z) (qu v0_1 (Lb 1 pl25 Z Z Z) ?_))))
 have h0_1:=h0_1.mono (L30.trans hle50)
 refine qu (Iv (a0.Topics.length:Int)) (PO.lenS Tryz.underlying25 Z h0_1.len) (qu (Bv (decide (x51<(a0.Topics.length:Int)))) (PO.lss Z Z) (Nt (Ch h Z (fun hb52 h=> ?_) (fun hb52 h=> ?_))))
 refine Ck (Tc (Cs (Bk (Cs (WC.draw [0,1,0,7,15,0,32,0,224,480,1023,2047] (.pure 0 (.pure 1 (.pure 2 (.pure 3 (.pure 4 (.pure 5 (.pure 6 (.pure 7 (.pure 8 (.pure 9 (.alt 10 (.pure 11 .done) .none))))))))))) mixed (by kernel_rfl) (qt (pt g21 1) Z (Fa fo29_1 hs50_2 Z) (qt v0_1 Z (Lb 1 pl25 Z Z Z) (qt (Iv x51) Z (Mv hs50_6) ?_))))))))
 obtain ⟨hg53,h⟩:=grd_i h
 obtain ⟨p54,cs55,hat56,hrc57,hhas58⟩:=h0_1.at hg53.1 hg53.2 (by decide)
 obtain ⟨vw59_2,rfl,hw59_2⟩:=kd_api_Topic_open hrc57
 refine qt (.pointer (some p54)) Z (PO.indexAddr (n:=a0.Topics.length) Tryz.underlying25 sz52 Z Z hg53.1 hg53.2 hat56) (qt (a52_ (rd a0.Topics x51) vw59_2) Z (PO.loadMA (cs:=(l52 (rd a0.Topics x51) vw59_2)) ag52 sz52 Z hhas58) (qt (pt g22 1) Z (Fa fo29_1 hs50_3 Z) (qt v1_1 Z (Lb 0 pl25 Z Z Z) (qt (Iv x51) Z (Mv hs50_6) ?_))))
 obtain ⟨hg60,h⟩:=grd_i h
 have h1_1:=h1_1.mono (L30.trans hle50)
 obtain ⟨p61,cs62,hat63,hrc64,hhas65⟩:=h1_1.at hg60.1 hg60.2 (by decide)
 obtain ⟨vw66_2,rfl,hw66_2⟩:=kd_api_Topic_open hrc64
 refine qt (.pointer (some p61)) Z (PO.indexAddr (n:=a1.Topics.length) Tryz.underlying25 sz52 Z Z hg60.1 hg60.2 hat63) (qt (a52_ (rd a1.Topics x51) vw66_2) Z (PO.loadMA (cs:=(l52 (rd a1.Topics x51) vw66_2)) ag52 sz52 Z hhas65) ?_)
 obtain ⟨r67,hr68,h⟩:=bnd h
 refine Ta Z (Ca co39 (f_ref15_sameTopic_ok (rd a0.Topics x51) (rd a1.Topics x51) _ _ _ hw59_2 hw66_2 r67 hr68) (args2 Z Z)) Z ?_ ?_
 rintro _ M69 _ hle70 ⟨_,⟨rfl,rfl⟩,rfl⟩
 refine⟨(Sl Z), ?_⟩
 refine WT.a0 (qt (Bv (!r67)) Z (PO.not Z) (Ti (Tc (Ch h Z (fun hb72 h=> ?_) (fun hb72 h=> ?_)))))
 refine Sr (qa (Bv false) (Nt (Cr (Br (Tr (WQ.leaveR (Sum.inr ()) (oi h).symm (fun heq50=> ?_)))))))
 subst heq50
 have h:=(elimR hK50)
 refine Br (Tr ?_)
 have h:=KK.early h h349
 exact Dr (Dr (Rf h [] Z (Rs Z Z) ((L30.trans hle50).trans hle70) ⟨Z,Z⟩))
 exact Ck (Bn (Tc (Cg (qM (Iv x51) hs50_6 (qu (Iv (IntKind.i64.wrap (x51+1))) (PO.add Z Z) (qa (Iv (IntKind.i64.wrap (x51+1))) (Wz (WQ.again (IntKind.i64.wrap (x51+1)) (oi h).symm ⟨(hle50.trans hle70),Z,hs50_2,hs50_3,Z⟩))))))))
 exact Tz
 refine WC.exit (WQ.thenE (WQ.leaveE (Sum.inl ()) (oi h).symm (fun heq50=> ?_)))
 subst heq50
 have h:=elimL hK50
 exact WQ.blockH (WQ.thenFE h ⟨hle50,Z,hs50_2,hs50_3⟩)
 rintro _ ρ49 M49 H49 rfl ⟨hle49,rfl,hs49_2,hs49_3⟩
 have L49:=L30.trans hle49
 have h:=(Sum.elim_inl _ _ _).symm.trans h
 obtain ⟨j73,hj73,h⟩:=bnd h
 refine WC.joinE (fun(_:Unit) ρ' M' H'=>M49.le M'∧[(g22, .cells (l29 a1 v1_0 v1_1 v1_2 v1_3).toArray 29 (0,0))]::[(g21, .cells (l29 a0 v0_0 v0_1 v0_2 v0_3).toArray 29 (0,0))]::F=H'∧ρ' 2=(pt g21 0)∧ρ' 3=(pt g22 0)) j73 ?_ ?_
 have h373:=h
 have h:=hj73
 refine Sr (qa (Iv 0) (Nt (Bk ?_)))
 obtain ⟨e74,he74,hK74⟩:=bnd h
 clear h
 refine WC.loop he74 (fun(x75:Int) ρ' M' H'=>M49.le M'∧[(g22, .cells (l29 a1 v1_0 v1_1 v1_2 v1_3).toArray 29 (0,0))]::[(g21, .cells (l29 a0 v0_0 v0_1 v0_2 v0_3).toArray 29 (0,0))]::F=H'∧ρ' 2=(pt g21 0)∧ρ' 3=(pt g22 0)∧ρ' 7=(Iv x75)) ?_ ?_
 exact⟨lr,Z,hs49_2,hs49_3,Z⟩
 rintro x75 o74 ρ74 M74 H74 h ⟨hle74,rfl,hs74_2,hs74_3,hs74_7⟩
 have L74:=L49.trans hle74
 unfold f_ref15_Same_l2 at h
 refine Cs (Sr (qM (Iv x75) hs74_7 (qu (pt g21 2) (Fa fo29_2 hs74_2 Z) (qu v0_2 (Lb 1 pl26 Z Z Z) ?_))))
 have h0_2:=h0_2.mono L74
 refine qu (Iv (a0.Configs.length:Int)) (PO.lenS Tryz.underlying26 Z h0_2.len) (qu (Bv (decide (x75<(a0.Configs.length:Int)))) (PO.lss Z Z) (Nt (Ch h Z (fun hb76 h=> ?_) (fun hb76 h=> ?_))))
 refine Ck (Tc (Cs (Bk (Cs (WC.draw [0,1,0,7,15,0,32,0,224,480,1023] (.pure 0 (.pure 1 (.pure 2 (.pure 3 (.pure 4 (.pure 5 (.pure 6 (.pure 7 (.pure 8 (.pure 9 (.pure 10 .done))))))))))) mixed (by kernel_rfl) (qt (pt g21 2) Z (Fa fo29_2 hs74_2 Z) (qt v0_2 Z (Lb 1 pl26 Z Z Z) (qt (Iv x75) Z (Mv hs74_7) ?_))))))))
 obtain ⟨hg77,h⟩:=grd_i h
 obtain ⟨p78,cs79,hat80,hrc81,hhas82⟩:=h0_2.at hg77.1 hg77.2 (by decide)
 obtain rfl:=kd_api_Config_open hrc81
 refine qt (.pointer (some p78)) Z (PO.indexAddr (n:=a0.Configs.length) Tryz.underlying26 sz64 Z Z hg77.1 hg77.2 hat80) (qt (a64_ (rd a0.Configs x75)) Z (PO.loadMA (cs:=(l64 (rd a0.Configs x75))) ag64 sz64 Z hhas82) (qt (pt g22 2) Z (Fa fo29_2 hs74_3 Z) (qt v1_2 Z (Lb 0 pl26 Z Z Z) (qt (Iv x75) Z (Mv hs74_7) ?_))))
 obtain ⟨hg84,h⟩:=grd_i h
 have h1_2:=h1_2.mono L74
 obtain ⟨p85,cs86,hat87,hrc88,hhas89⟩:=h1_2.at hg84.1 hg84.2 (by decide)
 obtain rfl:=kd_api_Config_open hrc88
 refine qt (.pointer (some p85)) Z (PO.indexAddr (n:=a1.Configs.length) Tryz.underlying26 sz64 Z Z hg84.1 hg84.2 hat87) (qt (a64_ (rd a1.Configs x75)) Z (PO.loadMA (cs:=(l64 (rd a1.Configs x75))) ag64 sz64 Z hhas89) (qt (Bv (!(andL [decide (((rd a0.Configs x75).Topic)=((rd a1.Configs x75).Topic)),((rd a0.Configs x75).Key)==((rd a1.Configs x75).Key),((rd a0.Configs x75).Value)==((rd a1.Configs x75).Value)]))) Z (PO.neqAgg eg64 Z Z (run_equal_struct Tryz.underlying64 eq64 (EqFs.cons (by decide) pl3 Z Z (EqC.int Tryz.underlying3) (EqFs.cons (by decide) pl9 Z Z (EqC.str Tryz.underlying9) (EqFs.cons (by decide) pl9 Z Z (EqC.str Tryz.underlying9) EqFs.nil))))) (Ti (Tc (Ch h Z (fun hb91 h=> ?_) (fun hb91 h=> ?_))))))
 refine Sr (qa (Bv false) (Nt (Cr (Br (Tr (WQ.leaveR (Sum.inr ()) (oi h).symm (fun heq74=> ?_)))))))
 subst heq74
 have h:=(elimR hK74)
 refine Br (Tr ?_)
 have h:=KK.early h h373
 exact Dr (Dr (Rf h [] Z (Rs Z Z) L74 ⟨Z,Z⟩))
 exact Ck (Bn (Tc (Cg (qM (Iv x75) hs74_7 (qu (Iv (IntKind.i64.wrap (x75+1))) (PO.add Z Z) (qa (Iv (IntKind.i64.wrap (x75+1))) (Wz (WQ.again (IntKind.i64.wrap (x75+1)) (oi h).symm ⟨hle74,Z,hs74_2,hs74_3,Z⟩))))))))
 refine WC.exit (WQ.thenE (WQ.leaveE (Sum.inl ()) (oi h).symm (fun heq74=> ?_)))
 subst heq74
 have h:=elimL hK74
 exact WQ.blockH (WQ.thenFE h ⟨hle74,Z,hs74_2,hs74_3⟩)
 rintro _ ρ73 M73 H73 rfl ⟨hle73,rfl,hs73_2,hs73_3⟩
 have L73:=L49.trans hle73
 have h:=(Sum.elim_inl _ _ _).symm.trans h
 obtain ⟨j92,hj92,h⟩:=bnd h
 refine WC.joinE (fun(_:Unit) ρ' M' H'=>M73.le M'∧[(g22, .cells (l29 a1 v1_0 v1_1 v1_2 v1_3).toArray 29 (0,0))]::[(g21, .cells (l29 a0 v0_0 v0_1 v0_2 v0_3).toArray 29 (0,0))]::F=H') j92 ?_ ?_
 have h392:=h
 have h:=hj92
 refine Sr (qa (Iv 0) (Nt (Bk ?_)))
 obtain ⟨e93,he93,hK93⟩:=bnd h
 clear h
 refine WC.loop he93 (fun(x94:Int) ρ' M' H'=>M73.le M'∧[(g22, .cells (l29 a1 v1_0 v1_1 v1_2 v1_3).toArray 29 (0,0))]::[(g21, .cells (l29 a0 v0_0 v0_1 v0_2 v0_3).toArray 29 (0,0))]::F=H'∧ρ' 2=(pt g21 0)∧ρ' 3=(pt g22 0)∧ρ' 8=(Iv x94)) ?_ ?_
 exact⟨lr,Z,hs73_2,hs73_3,Z⟩
 rintro x94 o93 ρ93 M93 H93 h ⟨hle93,rfl,hs93_2,hs93_3,hs93_8⟩
 have L93:=L73.trans hle93
 unfold f_ref15_Same_l3 at h
 refine Cs (Sr (qM (Iv x94) hs93_8 (qu (pt g21 3) (Fa fo29_3 hs93_2 Z) (qu v0_3 (Lb 1 pl27 Z Z Z) ?_))))
 have h0_3:=h0_3.mono L93
 refine qu (Iv (a0.Done.length:Int)) (PO.lenS Tryz.underlying27 Z h0_3.len) (qu (Bv (decide (x94<(a0.Done.length:Int)))) (PO.lss Z Z) (Nt (Ch h Z (fun hb95 h=> ?_) (fun hb95 h=> ?_))))
 refine Ck (Tc (Cs (Bk (Cs (WC.draw [0,1,0,7,15,0,32,0,224,480,1023] (.pure 0 (.pure 1 (.pure 2 (.pure 3 (.pure 4 (.pure 5 (.pure 6 (.pure 7 (.pure 8 (.pure 9 (.pure 10 .done))))))))))) mixed (by kernel_rfl) (qt (pt g21 3) Z (Fa fo29_3 hs93_2 Z) (qt v0_3 Z (Lb 1 pl27 Z Z Z) (qt (Iv x94) Z (Mv hs93_8) ?_))))))))
 obtain ⟨hg96,h⟩:=grd_i h
 obtain ⟨p97,cs98,hat99,hrc100,hhas101⟩:=h0_3.at hg96.1 hg96.2 (by decide)
 obtain rfl:=kd_api_Done_open hrc100
 refine qt (.pointer (some p97)) Z (PO.indexAddr (n:=a0.Done.length) Tryz.underlying27 sz66 Z Z hg96.1 hg96.2 hat99) (qt (a66_ (rd a0.Done x94)) Z (PO.loadMA (cs:=(l66 (rd a0.Done x94))) ag66 sz66 Z hhas101) (qt (pt g22 3) Z (Fa fo29_3 hs93_3 Z) (qt v1_3 Z (Lb 0 pl27 Z Z Z) (qt (Iv x94) Z (Mv hs93_8) ?_))))
 obtain ⟨hg103,h⟩:=grd_i h
 have h1_3:=h1_3.mono L93
 obtain ⟨p104,cs105,hat106,hrc107,hhas108⟩:=h1_3.at hg103.1 hg103.2 (by decide)
 obtain rfl:=kd_api_Done_open hrc107
 refine qt (.pointer (some p104)) Z (PO.indexAddr (n:=a1.Done.length) Tryz.underlying27 sz66 Z Z hg103.1 hg103.2 hat106) (qt (a66_ (rd a1.Done x94)) Z (PO.loadMA (cs:=(l66 (rd a1.Done x94))) ag66 sz66 Z hhas108) (qt (Bv (!(andL [decide (((rd a0.Done x94).Client)=((rd a1.Done x94).Client)),decide (((rd a0.Done x94).Serial)=((rd a1.Done x94).Serial)),decide (((rd a0.Done x94).Code)=((rd a1.Done x94).Code))]))) Z (PO.neqAgg eg66 Z Z (run_equal_struct Tryz.underlying66 eq66 (EqFs.cons (by decide) pl3 Z Z (EqC.int Tryz.underlying3) (EqFs.cons (by decide) pl3 Z Z (EqC.int Tryz.underlying3) (EqFs.cons (by decide) pl3 Z Z (EqC.int Tryz.underlying3) EqFs.nil))))) (Ti (Tc (Ch h Z (fun hb110 h=> ?_) (fun hb110 h=> ?_))))))
 refine Sr (qa (Bv false) (Nt (Cr (Br (Tr (WQ.leaveR (Sum.inr ()) (oi h).symm (fun heq93=> ?_)))))))
 subst heq93
 have h:=(elimR hK93)
 refine Br (Tr ?_)
 have h:=KK.early h h392
 exact Dr (Dr (Rf h [] Z (Rs Z Z) L93 ⟨Z,Z⟩))
 exact Ck (Bn (Tc (Cg (qM (Iv x94) hs93_8 (qu (Iv (IntKind.i64.wrap (x94+1))) (PO.add Z Z) (qa (Iv (IntKind.i64.wrap (x94+1))) (Wz (WQ.again (IntKind.i64.wrap (x94+1)) (oi h).symm ⟨hle93,Z,hs93_2,hs93_3,Z⟩))))))))
 refine WC.exit (WQ.thenE (WQ.leaveE (Sum.inl ()) (oi h).symm (fun heq93=> ?_)))
 subst heq93
 have h:=elimL hK93
 exact WQ.blockH (WQ.thenFE h ⟨hle93,Z⟩)
 rintro _ ρ92 M92 H92 rfl ⟨hle92,rfl⟩
 have h:=(Sum.elim_inl _ _ _).symm.trans h
 exact Sr (qa (Bv true) (Nt (Cr (Dr (Dr (Rf h [] Z (Rs Z Z) (L73.trans hle92) ⟨Z,Z⟩))))))
noncomputable def f_law16_DumpWhole (a0:(List T_api_Record)):Option Bool:=
 (if(decide ((80:Int)<(a0.length:Int)))=true then((f_law16_works).bind fun r22=>(some r22))else((f_law15_Made a0).bind fun r27=>((f_dump_Put r27).bind fun(r33,r34)=>((f_dump_Read r33).bind fun(r42,r43)=>(((if r34.isNil=true then(if r43.isNil=true then((f_ref15_Same r27 r42).bind fun r54=>(if r54=true then((f_law16_works).bind fun r72=>(some r72))else(some false)))else(some false))else(some false)):Option Bool).bind fun x50=>(some x50))))))
def f_law16_DumpWhole_post (a0:(List T_api_Record)) (v0:Value):Bool→Value→IM→HL→Prop:=
 fun(r0:Bool) (v:Value) (M':IM) (H':HL)=>(.bool r0)=v∧H'=[]
theorem f_law16_DumpWhole_ok (a0:(List T_api_Record)) (M:IM) (v0:Value) (h0:RS kd_api_Record M v0 a0) (res:Bool) (h:f_law16_DumpWhole a0=some res):
 Tri Tryz.prog 3 #[v0] M [] (f_law16_DumpWhole_post a0 v0 res):=by
 unfold f_law16_DumpWhole at h
 refine Te Tryz.func3 Z Z ?_
 intro F ρ hρ
 refine Sr (qa (Bv false) (Nt (Cs (Sr (qM v0 (hρ 0) (qu (Iv (a0.length:Int)) (PO.lenS Tryz.underlying22 Z h0.len) (qu (Bv (decide ((80:Int)<(a0.length:Int)))) (PO.gtr Z Z) (Nt (Ch h Z (fun hb21 h=> ?_) (fun hb21 h=> ?_))))))))))
 refine Sr ?_
 obtain ⟨r22,hr23,h⟩:=bnd h
 refine We (Ca co6 (f_law16_works_ok _ r22 hr23) (args0)) Z ?_
 rintro _ M24 _ hle25 ⟨_,⟨rfl,rfl⟩,rfl⟩
 exact WL.a0 (qa (Bv r22) (Nt (Cr (Tr (Rf h [] Z (Rs Z Z) hle25 ⟨Z,Z⟩)))))
 refine Ck (Tc (Sr (qM v0 (hρ 0) ?_)))
 obtain ⟨r27,hr28,h⟩:=bnd h
 refine We (Ca co7 (f_law15_Made_ok a0 _ _ h0 r27 hr28) (args1 Z)) Z ?_
 rintro _ M29 _ hle30 ⟨_,⟨vq31_0,vq31_1,vq31_2,vq31_3,rfl,rfl,hq31_0,hq31_1,hq31_2,hq31_3⟩,rfl⟩
 refine WL.a0 (We (Al ze29 Z) Z ?_)
 rintro _ _ _ - ⟨rfl,g32,rfl,rfl⟩
 refine We (Sg (v:=(a29_ r27 vq31_0 vq31_1 vq31_2 vq31_3)) (vl:=(l29 r27 vq31_0 vq31_1 vq31_2 vq31_3)) (arr':=(l29 r27 vq31_0 vq31_1 vq31_2 vq31_3)) Z sz29 Z Z (onesOf (Oc (RS.one hq31_0) (Oc (RS.one hq31_1) (Oc (RS.one hq31_2) (Oc (RS.one hq31_3) (Oc Z Oz)))))) Z Z Z) Z ?_
 rintro _ _ _ - ⟨rfl,rfl⟩
 refine Ns (qu (a29_ r27 vq31_0 vq31_1 vq31_2 vq31_3) (La (cs:=(l29 r27 vq31_0 vq31_1 vq31_2 vq31_3)) 0 ag29 sz29 Z Z Z) ?_)
 obtain ⟨⟨r33,r34⟩,hr35,h⟩:=bnd h
 refine We (Ca co8 (f_dump_Put_ok r27 _ _ _ _ _ hq31_0 hq31_1 hq31_2 hq31_3 (r33,r34) hr35) (args1 Z)) Z ?_
 rintro _ M36 _ hle37 ⟨_,⟨vq38,cq38,rfl,rfl,hq38⟩,rfl⟩
 refine WL.a1 (qm (.tuple #[vq38,(GV r34)]) (qu vq38 (Xt Z Z) (qu (GV r34) (Xt Z Z) (qa vq38 (qa (GV r34) (Ns (qm vq38 (WL.know (fun _ hs=>hq38.rs hs) (fun hf41=> ?_)))))))))
 refine WL.freeze (fun hle40=> ?_)
 obtain ⟨⟨r42,r43⟩,hr44,h⟩:=bnd h
 refine We (Ca co9 (f_dump_Read_ok r33 _ _ hf41 (r42,r43) hr44) (args1 Z)) Z ?_
 rintro _ M45 _ hle46 ⟨_,⟨vq47_0,cq47_0,vq47_1,cq47_1,vq47_2,cq47_2,vq47_3,cq47_3,rfl,rfl,hq47_0,hq47_1,hq47_2,hq47_3⟩,rfl⟩
 have L46:=(hle37.trans hle40).trans hle46
 refine WL.a4 (qm (.tuple #[(a29_ r42 vq47_0 vq47_1 vq47_2 vq47_3),(GV r43)]) (qu (a29_ r42 vq47_0 vq47_1 vq47_2 vq47_3) (Xt Z Z) (qu (GV r43) (Xt Z Z) (We (Al ze29 Z) Z ?_))))
 rintro _ _ _ - ⟨rfl,g49,rfl,rfl⟩
 refine We (Sg (v:=(a29_ r42 vq47_0 vq47_1 vq47_2 vq47_3)) (vl:=(l29 r42 vq47_0 vq47_1 vq47_2 vq47_3)) (arr':=(l29 r42 vq47_0 vq47_1 vq47_2 vq47_3)) Z sz29 Z Z (onesOf (Oc (Ow hq47_0) (Oc (Ow hq47_1) (Oc (Ow hq47_2) (Oc (Ow hq47_3) (Oc Z Oz)))))) Z Z Z) Z ?_
 rintro _ _ _ - ⟨rfl,rfl⟩
 refine qa (GV r43) (Nt ?_)
 obtain ⟨x50,hj51,h⟩:=bnd h
 refine Jf (fun(x50:Bool) ρ' M' H'=>M45.le M'∧[(g49, .cells (l29 r42 vq47_0 vq47_1 vq47_2 vq47_3).toArray 29 (0,0))]::[(g32, .cells (l29 r27 vq31_0 vq31_1 vq31_2 vq31_3).toArray 29 (0,0))]::cq47_0::cq47_1::cq47_2::cq47_3::F=H'∧ρ' 2=(Bv x50)) x50 ?_ ?_
 have h:=hj51
 refine Cg (qm (GV r34) (qu (Bv r34.isNil) (PO.errNil Tryz.underlying33 Z) (qm (Bv r34.isNil) ?_)))
 rcases Bi h with⟨hb52,h⟩ |⟨hb52,h⟩
 refine On 26 Z Z hb52 (qm (GV r43) (qo 26 hb52 (Bv r43.isNil) (PO.errNil Tryz.underlying33 Z) (qu (Bv r43.isNil) (Pt Z hb52 Z) (qm (Bv r43.isNil) ?_))))
 rcases Bi h with⟨hb53,h⟩ |⟨hb53,h⟩
 refine qo 30 hb53 (a29_ r27 vq31_0 vq31_1 vq31_2 vq31_3) (La (cs:=(l29 r27 vq31_0 vq31_1 vq31_2 vq31_3)) 5 ag29 sz29 Z Z Z) (qo 30 hb53 (a29_ r42 vq47_0 vq47_1 vq47_2 vq47_3) (La (cs:=(l29 r42 vq47_0 vq47_1 vq47_2 vq47_3)) 0 ag29 sz29 Z Z Z) (On 30 Z Z hb53 ?_))
 obtain ⟨r54,hr55,h⟩:=bnd h
 refine WL.f4 (WL.f4 (WL.f4 (WL.f4 ?_)))
 have hq31_0:=hq31_0.mono L46
 have hq31_1:=hq31_1.mono L46
 have hq31_2:=hq31_2.mono L46
 have hq31_3:=hq31_3.mono L46
 refine We (EO.call4 co10 (Tri.lend hq47_0.excl fun w0_ H0_ hs0_=>(Tri.lend hq47_1.excl fun w1_ H1_ hs1_=>(Tri.lend hq47_2.excl fun w2_ H2_ hs2_=>(Tri.lend hq47_3.excl fun w3_ H3_ hs3_=>(f_ref15_Same_ok r27 r42 _ _ _ _ _ _ _ _ _ ((((hq31_0.mono (IM.le_add _ _)).mono (IM.le_add _ _)).mono (IM.le_add _ _)).mono (IM.le_add _ _)) ((((hq31_1.mono (IM.le_add _ _)).mono (IM.le_add _ _)).mono (IM.le_add _ _)).mono (IM.le_add _ _)) ((((hq31_2.mono (IM.le_add _ _)).mono (IM.le_add _ _)).mono (IM.le_add _ _)).mono (IM.le_add _ _)) ((((hq31_3.mono (IM.le_add _ _)).mono (IM.le_add _ _)).mono (IM.le_add _ _)).mono (IM.le_add _ _)) ((((hq47_0.rs hs0_).mono (IM.le_add _ _)).mono (IM.le_add _ _)).mono (IM.le_add _ _)) ((((hq47_1.mono (IM.le_add _ _)).rs hs1_).mono (IM.le_add _ _)).mono (IM.le_add _ _)) ((((hq47_2.mono (IM.le_add _ _)).mono (IM.le_add _ _)).rs hs2_).mono (IM.le_add _ _)) ((((hq47_3.mono (IM.le_add _ _)).mono (IM.le_add _ _)).mono (IM.le_add _ _)).rs hs3_) r54 hr55))))) (args2 Z Z)) Z ?_
 rintro _ _ _ hle57 ⟨_,⟨Ml68,Hl69,hll70,rfl,rfl,⟨Ml65,Hl66,hll67,rfl,rfl,⟨Ml62,Hl63,hll64,rfl,rfl,⟨Ml59,Hl60,hll61,rfl,rfl,⟨rfl,rfl⟩⟩⟩⟩⟩,rfl⟩
 refine WL.a4 (qu (Bv r54) (Pt Z hb53 Z) (qm (Bv r54) ?_))
 rcases Bi h with⟨hb71,h⟩ |⟨hb71,h⟩
 refine On 35 Z Z hb71 ?_
 obtain ⟨r72,hr73,h⟩:=bnd h
 refine We (Ca co6 (f_law16_works_ok _ r72 hr73) (args0)) Z ?_
 rintro _ M74 _ hle75 ⟨_,⟨rfl,rfl⟩,rfl⟩
 refine WL.a0 (qu (Bv r72) (Pt Z hb71 Z) (qa (Bv r72) (Wz (WQ.f3 (WQ.f3 (WQ.f3 (WQ.f3 (WQ.f5 (WQ.f5 ?_)))))))))
 obtain rfl:=oi h
 exact Tj ⟨(hle57.trans hle75),Z,Z⟩
 refine Of 35 Z Z hb71 Z (qu (Bv false) (Pf Z hb71 Z) (qa (Bv false) (Wz (WQ.f3 (WQ.f3 (WQ.f3 (WQ.f3 (WQ.f5 (WQ.f5 ?_)))))))))
 obtain rfl:=oi h
 exact Tj ⟨hle57,Z,Z⟩
 iterate 3 refine Of 30 Z Z hb53 Z ?_
 refine qu (Bv false) (Pf Z hb53 Z) (qm (Bv false) (Of 35 Z Z Z Z (qu (Bv false) (Pf Z Z Z) (qa (Bv false) (Wz (WQ.f4 (WQ.f4 (WQ.f4 (WQ.f4 (WQ.f5 (WQ.f5 ?_)))))))))))
 obtain rfl:=oi h
 exact Tj ⟨lr,Z,Z⟩
 iterate 2 refine Of 26 Z Z hb52 Z ?_
 refine qu (Bv false) (Pf Z hb52 Z) (qm (Bv false) ?_)
 iterate 3 refine Of 30 Z Z Z Z ?_
 refine qu (Bv false) (Pf Z Z Z) (qm (Bv false) (Of 35 Z Z Z Z (qu (Bv false) (Pf Z Z Z) (qa (Bv false) (Wz (WQ.f4 (WQ.f4 (WQ.f4 (WQ.f4 (WQ.f5 (WQ.f5 ?_)))))))))))
 obtain rfl:=oi h
 exact Tj ⟨lr,Z,Z⟩
 rintro ρ51 M51 H51 ⟨hle51,rfl,hs51_2⟩
 exact Cr (Dr (Dr (Dr (Dr (Dr (Dr (Rf h [] Z (Rs Z hs51_2) ((((hle30.trans hle37).trans hle40).trans hle46).trans hle51) ⟨Z,Z⟩)))))))

end Go.Proofs.YtpcbipcdfccnnaaGreat.G
