/- Go functions: what they come to, and that they do. Printed by a program of the session (gen). -/
import Derived.Test.YtpcbipcdfccnnaaGreatSF
import Derived.Test.YtpcbipcdfccnnaaGreatS1
import Derived.Test.YtpcbipcdfccnnaaGreatKShar2
import Derived.Test.YtpcbipcdfccnnaaGreatKConv
import Derived.Test.YtpcbipcdfccnnaaGreatKMap
import Derived.Test.YtpcbipcdfccnnaaGreatKShar
import Derived.Test.YtpcbipcdfccnnaaGreatKTight2
set_option linter.unusedVariables false
set_option linter.unusedSimpArgs false
set_option maxHeartbeats 8000000
set_option maxRecDepth 100000
namespace Go.Proofs.YtpcbipcdfccnnaaGreat.G
open Go Go.KK

noncomputable def f_ref15_used_l1 (a0:T_api_Image) (a1:Int) (x24:Int) (s_:Int):Option (Int⊕(Unit⊕Unit)):=
 match s_ with
 |x28=>
 (grd (0≤x24∧x24<a0.Topics.length) (if(decide (x28<(((rd a0.Topics x24).Parts).length:Int)))=true then(grd (0≤x24∧x24<a0.Topics.length) (grd (0≤x28∧x28<((rd a0.Topics x24).Parts).length) ((f_ref15_Has ((rd ((rd a0.Topics x24).Parts) x28).Ids) a1).bind fun r51=>(if r51=true then(some (Sum.inr (Sum.inr ())))else(some (Sum.inl (IntKind.i64.wrap (x28+(1:Int)))))))))else(some (Sum.inr (Sum.inl ())))))
noncomputable def f_ref15_used_l0 (a0:T_api_Image) (a1:Int) (s_:Int):Option (Int⊕(Unit⊕Unit)):=
 match s_ with
 |x24=>
 (if(decide (x24<(a0.Topics.length:Int)))=true then((((iter (f_ref15_used_l1 a0 a1 x24) (0:Int)).bind (Sum.elim (fun _=>(some (Sum.inl ()))) (fun _=>(((some (Sum.inr (Sum.inr ())))).bind fun r=>some (Sum.inr r))))):Option (Unit⊕(Int⊕(Unit⊕Unit)))).bind (Sum.elim (fun _=>(some (Sum.inl (IntKind.i64.wrap (x24+(1:Int)))))) some))else(some (Sum.inr (Sum.inl ()))))
noncomputable def f_ref15_used (a0:T_api_Image) (a1:Int):Option Bool:=
 ((((iter (f_ref15_used_l0 a0 a1) (0:Int)).bind (Sum.elim (fun _=>(some (Sum.inl ()))) (fun _=>(((some true)).bind fun r=>some (Sum.inr r))))):Option (Unit⊕Bool)).bind (Sum.elim (fun _=>(some false)) some))
def f_ref15_used_post (a0:T_api_Image) (a1:Int) (v0_0 v0_1 v0_2 v0_3:Value):Bool→Value→IM→HL→Prop:=
 fun(r0:Bool) (v:Value) (M':IM) (H':HL)=>(.bool r0)=v∧H'=[]
theorem f_ref15_used_ok (a0:T_api_Image) (a1:Int) (M:IM) (v0_0 v0_1 v0_2 v0_3:Value) (h0_0:RS kd_api_Broker M v0_0 a0.Brokers) (h0_1:RS kd_api_Topic M v0_1 a0.Topics) (h0_2:RS kd_api_Config M v0_2 a0.Configs) (h0_3:RS kd_api_Done M v0_3 a0.Done) (res:Bool) (h:f_ref15_used a0 a1=some res):
 Tri Tryz.prog 66 #[(a29_ a0 v0_0 v0_1 v0_2 v0_3),(Iv a1)] M [] (f_ref15_used_post a0 a1 v0_0 v0_1 v0_2 v0_3 res):=by
 unfold f_ref15_used at h
 refine Te Tryz.func66 Z Z ?_
 intro F ρ hρ
 refine Sr (We (EO.box (cs:=(l29 a0 v0_0 v0_1 v0_2 v0_3).toArray) (congrArg Value.cells (asE (a29_ a0 v0_0 v0_1 v0_2 v0_3) (hρ 0)))) Z ?_)
 rintro _ _ _ - ⟨rfl,g21,rfl,rfl⟩
 refine qa (Bv false) (Nt ?_)
 obtain ⟨j22,hj22,h⟩:=bnd h
 refine WC.joinE (fun(_:Unit) ρ' M' H'=>M.le M'∧[(g21, .cells (l29 a0 v0_0 v0_1 v0_2 v0_3).toArray 29 (0,0))]::F=H') j22 ?_ ?_
 have h322:=h
 have h:=hj22
 refine Sr (qa (Iv 0) (Nt (Bk ?_)))
 obtain ⟨e23,he23,hK23⟩:=bnd h
 clear h
 refine WC.loop he23 (fun(x24:Int) ρ' M' H'=>M.le M'∧[(g21, .cells (l29 a0 v0_0 v0_1 v0_2 v0_3).toArray 29 (0,0))]::F=H'∧ρ' 1=(Iv a1)∧ρ' 2=(pt g21 0)∧ρ' 5=(Iv x24)) ?_ ?_
 exact⟨lr,Z,(hρ 1),Z,Z⟩
 rintro x24 o23 ρ23 M23 H23 h ⟨hle23,rfl,hs23_1,hs23_2,hs23_5⟩
 unfold f_ref15_used_l0 at h
 refine Cs (Sr (qM (Iv x24) hs23_5 (qu (pt g21 1) (Fa fo29_1 hs23_2 Z) (qu v0_1 (Lb 0 pl25 Z Z Z) ?_))))
 have h0_1:=h0_1.mono hle23
 refine qu (Iv (a0.Topics.length:Int)) (PO.lenS Tryz.underlying25 Z h0_1.len) (qu (Bv (decide (x24<(a0.Topics.length:Int)))) (PO.lss Z Z) (Nt (Ch h Z (fun hb25 h=> ?_) (fun hb25 h=> ?_))))
 refine Ck (Tc ?_)
 obtain ⟨j26,hj26,h⟩:=bnd h
 refine WC.joinE (fun(_:Unit) ρ' M' H'=>M23.le M'∧[(g21, .cells (l29 a0 v0_0 v0_1 v0_2 v0_3).toArray 29 (0,0))]::F=H'∧ρ' 1=(Iv a1)∧ρ' 2=(pt g21 0)∧ρ' 5=(Iv x24)) j26 ?_ ?_
 have h326:=h
 have h:=hj26
 refine Bk (Sr (qa (Iv 0) (Nt (Bk ?_))))
 obtain ⟨e27,he27,hK27⟩:=bnd h
 clear h
 refine WC.loop he27 (fun(x28:Int) ρ' M' H'=>M23.le M'∧[(g21, .cells (l29 a0 v0_0 v0_1 v0_2 v0_3).toArray 29 (0,0))]::F=H'∧ρ' 1=(Iv a1)∧ρ' 2=(pt g21 0)∧ρ' 5=(Iv x24)∧ρ' 6=(Iv x28)) ?_ ?_
 exact⟨lr,Z,hs23_1,hs23_2,hs23_5,Z⟩
 rintro x28 o27 ρ27 M27 H27 h ⟨hle27,rfl,hs27_1,hs27_2,hs27_5,hs27_6⟩
 unfold f_ref15_used_l1 at h
 refine Cs (Sr (qM (Iv x28) hs27_6 (qu (pt g21 1) (Fa fo29_1 hs27_2 Z) (qu v0_1 (Lb 0 pl25 Z Z Z) (qM (Iv x24) hs27_5 ?_)))))
 obtain ⟨hg29,h⟩:=grd_i h
 have h0_1:=h0_1.mono hle27
 obtain ⟨p30,cs31,hat32,hrc33,hhas34⟩:=h0_1.at hg29.1 hg29.2 (by decide)
 obtain ⟨vw35_2,rfl,hw35_2⟩:=kd_api_Topic_open hrc33
 refine qu (.pointer (some p30)) (PO.indexAddr (n:=a0.Topics.length) Tryz.underlying25 sz52 Z Z hg29.1 hg29.2 hat32) (qu (.pointer (some (p30.add 2))) (Fa fo52_2 Z Z) (qu vw35_2 (PO.loadM pl50 Z (hhas34 2 _ Z)) (qu (Iv (((rd a0.Topics x24).Parts).length:Int)) (PO.lenS Tryz.underlying50 Z hw35_2.len) (qu (Bv (decide (x28<(((rd a0.Topics x24).Parts).length:Int)))) (PO.lss Z Z) (Nt (Ch h Z (fun hb36 h=> ?_) (fun hb36 h=> ?_)))))))
 refine Ck (Tc (Cs (Bk (Sr (qu (pt g21 1) (Fa fo29_1 hs27_2 Z) (qu v0_1 (Lb 0 pl25 Z Z Z) (qM (Iv x24) hs27_5 ?_)))))))
 obtain ⟨hg37,h⟩:=grd_i h
 obtain ⟨p38,cs39,hat40,hrc41,hhas42⟩:=h0_1.at hg37.1 hg37.2 (by decide)
 obtain ⟨vw43_2,rfl,hw43_2⟩:=kd_api_Topic_open hrc41
 refine qu (.pointer (some p38)) (PO.indexAddr (n:=a0.Topics.length) Tryz.underlying25 sz52 Z Z hg37.1 hg37.2 hat40) (qu (.pointer (some (p38.add 2))) (Fa fo52_2 Z Z) (qu vw43_2 (PO.loadM pl50 Z (hhas42 2 _ Z)) (qM (Iv x28) hs27_6 ?_)))
 obtain ⟨hg44,h⟩:=grd_i h
 obtain ⟨p45,cs46,hat47,hrc48,hhas49⟩:=hw43_2.at hg44.1 hg44.2 (by decide)
 obtain ⟨vw50_0,vw50_1,vw50_4,vw50_5,rfl,hw50_0,hw50_1,hw50_4,hw50_5⟩:=kd_api_Part_open hrc48
 refine qu (.pointer (some p45)) (PO.indexAddr (n:=((rd a0.Topics x24).Parts).length) Tryz.underlying50 sz54 Z Z hg44.1 hg44.2 hat47) (qu (.pointer (some (p45.add 0))) (Fa fo54_0 Z Z) (qu vw50_0 (PO.loadM pl43 Z (IM.has0 hhas49)) (qM (Iv a1) hs27_1 ?_)))
 obtain ⟨r51,hr52,h⟩:=bnd h
 refine We (Ca co84 (f_ref15_Has_ok ((rd ((rd a0.Topics x24).Parts) x28).Ids) a1 _ _ hw50_0 r51 hr52) (args2 Z Z)) Z ?_
 rintro _ M53 _ hle54 ⟨_,⟨rfl,rfl⟩,rfl⟩
 refine WL.a0 (Nt (Ch h Z (fun hb56 h=> ?_) (fun hb56 h=> ?_)))
 refine Sr (qa (Bv true) (Nt (Cr (Br (Tr (WQ.leaveR (Sum.inr ()) (oi h).symm (fun heq27=> ?_)))))))
 subst heq27
 have h:=(elimR hK27)
 refine Br (Br (Tr ?_))
 have h:=KK.early h h326
 refine WQ.leaveR (Sum.inr ()) (oi h).symm (fun heq23=> ?_)
 subst heq23
 have h:=(elimR hK23)
 refine Br (Tr ?_)
 have h:=KK.early h h322
 exact Dr (Rf h [] Z (Rs Z Z) ((hle23.trans hle27).trans hle54) ⟨Z,Z⟩)
 exact Ck (Bn (Tc (Cg (qM (Iv x28) hs27_6 (qu (Iv (IntKind.i64.wrap (x28+1))) (PO.add Z Z) (qa (Iv (IntKind.i64.wrap (x28+1))) (Wz (WQ.again (IntKind.i64.wrap (x28+1)) (oi h).symm ⟨(hle27.trans hle54),Z,hs27_1,hs27_2,hs27_5,Z⟩))))))))
 refine WC.exit (WQ.thenE (WQ.leaveE (Sum.inl ()) (oi h).symm (fun heq27=> ?_)))
 subst heq27
 have h:=elimL hK27
 exact WQ.blockH (Bn (WQ.thenFE h ⟨hle27,Z,hs27_1,hs27_2,hs27_5⟩))
 rintro _ ρ26 M26 H26 rfl ⟨hle26,rfl,hs26_1,hs26_2,hs26_5⟩
 have h:=(Sum.elim_inl _ _ _).symm.trans h
 exact Cg (qM (Iv x24) hs26_5 (qu (Iv (IntKind.i64.wrap (x24+1))) (PO.add Z Z) (qa (Iv (IntKind.i64.wrap (x24+1))) (Wz (WQ.again (IntKind.i64.wrap (x24+1)) (oi h).symm ⟨(hle23.trans hle26),Z,hs26_1,hs26_2,Z⟩)))))
 refine WC.exit (WQ.thenE (WQ.leaveE (Sum.inl ()) (oi h).symm (fun heq23=> ?_)))
 subst heq23
 have h:=elimL hK23
 exact WQ.blockH (WQ.thenFE h ⟨hle23,Z⟩)
 rintro _ ρ22 M22 H22 rfl ⟨hle22,rfl⟩
 have h:=(Sum.elim_inl _ _ _).symm.trans h
 exact Sr (qa (Bv false) (Nt (Cr (Dr (Rf h [] Z (Rs Z Z) hle22 ⟨Z,Z⟩)))))
noncomputable def f_ref15_broker_l0 (a0:T_api_Image) (r24:T_api_Broker) (s_:(Int×(List T_api_Broker))):Option ((Int×(List T_api_Broker))⊕(List T_api_Broker)):=
 match s_ with
 |(x64,x65)=>
 (if(decide (x64<(a0.Brokers.length:Int)))=true then(((grd (0≤x64∧x64<a0.Brokers.length) (if(decide (((rd a0.Brokers x64).Id)≠r24.Id))=true then(grd (0≤x64∧x64<a0.Brokers.length) (grd (x65.length+[(rd a0.Brokers x64)].length≤274877906944) (some (x65++[(rd a0.Brokers x64)]))))else(some x65))):Option (List T_api_Broker)).bind fun x68=>(some (Sum.inl (IntKind.i64.wrap (x64+(1:Int)),x68))))else(some (Sum.inr x65)))
noncomputable def f_ref15_broker (a0:T_api_Image) (a1:T_api_Record):Option (T_api_Image×Int):=
 ((f_ref15_Broker a0 a1.Broker).bind fun(r24,r25)=>(if(!r25)=true then(some (a0,(8:Int)))else(if(decide (r24.Epoch≠a1.Epoch))=true then(some (a0,(11:Int)))else(((if(decide (a1.Kind=(3:Int)))=true then(((if r24.Fenced=true then(some true)else((f_ref15_Leads a0 r24.Id).bind fun r42=>(some r42))):Option Bool).bind fun x39=>(if x39=true then(((some (a0,(10:Int)))).bind fun r=>some (Sum.inr r))else(some (Sum.inl (true,r24.Leaving)))))else(if(decide (a1.Kind=(4:Int)))=true then(if(!r24.Fenced)=true then(((some (a0,(10:Int)))).bind fun r=>some (Sum.inr r))else(some (Sum.inl (false,false))))else(if(decide (a1.Kind=(5:Int)))=true then(((if r24.Fenced=true then(some true)else(some r24.Leaving)):Option Bool).bind fun x51=>(if x51=true then(((some (a0,(10:Int)))).bind fun r=>some (Sum.inr r))else(some (Sum.inl (r24.Fenced,true)))))else((f_ref15_used a0 r24.Id).bind fun r55=>(if r55=true then(((some (a0,(10:Int)))).bind fun r=>some (Sum.inr r))else((((iter (f_ref15_broker_l0 a0 r24) ((0:Int),[])).bind (fun(x66:(List T_api_Broker))=>(some x66))):Option (List T_api_Broker)).bind fun x61=>(((some ((⟨x61,a0.Topics,a0.Configs,a0.Done,a0.Last⟩:T_api_Image),(0:Int)))).bind fun r=>some (Sum.inr r)))))))):Option ((Bool×Bool)⊕(T_api_Image×Int))).bind (Sum.elim (fun(x35,x36)=>((f_ref15_putBroker a0.Brokers (⟨r24.Id,r24.Epoch,r24.Rack,x35,x36⟩:T_api_Broker)).bind fun r95=>(some ((⟨r95,a0.Topics,a0.Configs,a0.Done,a0.Last⟩:T_api_Image),(0:Int))))) some)))))
def f_ref15_broker_post (a0:T_api_Image) (a1:T_api_Record) (v0_0 v0_1 v0_2 v0_3 v1_14 v1_15 v1_16 v1_17:Value):(T_api_Image×Int)→Value→IM→HL→Prop:=
 fun(p_:(T_api_Image×Int)) (v:Value) (M':IM) (H':HL)=>match p_ with |(r0,r1)=>∃ vz0_0 vz0_1 vz0_2 vz0_3,(.tuple #[(.agg #[vz0_0,vz0_1,vz0_2,vz0_3,(.int .i64 r0.Last)]),(.int .i64 r1)])=v∧H'=[]∧RS kd_api_Broker M' vz0_0 r0.Brokers∧RS kd_api_Topic M' vz0_1 r0.Topics∧RS kd_api_Config M' vz0_2 r0.Configs∧RS kd_api_Done M' vz0_3 r0.Done
theorem f_ref15_broker_ok (a0:T_api_Image) (a1:T_api_Record) (M:IM) (v0_0 v0_1 v0_2 v0_3 v1_14 v1_15 v1_16 v1_17:Value) (h0_0:RS kd_api_Broker M v0_0 a0.Brokers) (h0_1:RS kd_api_Topic M v0_1 a0.Topics) (h0_2:RS kd_api_Config M v0_2 a0.Configs) (h0_3:RS kd_api_Done M v0_3 a0.Done) (h1_14:RS (Kd.int .i64) M v1_14 a1.Ids) (h1_15:RS (Kd.int .i64) M v1_15 a1.Isr) (h1_16:RS (Kd.int .i64) M v1_16 a1.Add) (h1_17:RS (Kd.int .i64) M v1_17 a1.Drop) (res:(T_api_Image×Int)) (h:f_ref15_broker a0 a1=some res):
 Tri Tryz.prog 42 #[(a29_ a0 v0_0 v0_1 v0_2 v0_3),(a45_ a1 v1_14 v1_15 v1_16 v1_17)] M [] (f_ref15_broker_post a0 a1 v0_0 v0_1 v0_2 v0_3 v1_14 v1_15 v1_16 v1_17 res):=by
 unfold f_ref15_broker at h
 refine Te Tryz.func42 Z Z ?_
 intro F ρ hρ
 refine Sr (We (EO.box (cs:=(l29 a0 v0_0 v0_1 v0_2 v0_3).toArray) (congrArg Value.cells (asE (a29_ a0 v0_0 v0_1 v0_2 v0_3) (hρ 0)))) Z ?_)
 rintro _ _ _ - ⟨rfl,g21,rfl,rfl⟩
 refine We (EO.box (cs:=(l45 a1 v1_14 v1_15 v1_16 v1_17).toArray) (congrArg Value.cells (asE (a45_ a1 v1_14 v1_15 v1_16 v1_17) (hρ 1)))) Z ?_
 rintro _ _ _ - ⟨rfl,g22,rfl,rfl⟩
 refine We (Al ze29 Z) Z ?_
 rintro _ _ _ - ⟨rfl,g23,rfl,rfl⟩
 refine qa (Iv 0) (Ns (qu (a29_ a0 v0_0 v0_1 v0_2 v0_3) (La (cs:=(l29 a0 v0_0 v0_1 v0_2 v0_3)) 2 ag29 sz29 Z Z Z) (qu (pt g22 1) (Fa fo45_1 Z Z) (qu (Iv a1.Broker) (Lb 1 pl3 Z Z Z) ?_))))
 obtain ⟨⟨r24,r25⟩,hr26,h⟩:=bnd h
 refine We (Ca co63 (f_ref15_Broker_ok a0 a1.Broker _ _ _ _ _ h0_0 h0_1 h0_2 h0_3 (r24,r25) hr26) (args2 Z Z)) Z ?_
 rintro _ M27 _ hle28 ⟨_,⟨rfl,rfl⟩,rfl⟩
 refine WL.a0 (qm (.tuple #[(a59_ r24),(Bv r25)]) (qu (a59_ r24) (Xt Z Z) (qu (Bv r25) (Xt Z Z) (We (Al ze59 Z) Z ?_))))
 rintro _ _ _ - ⟨rfl,g31,rfl,rfl⟩
 refine We (Sg (v:=(a59_ r24)) (vl:=(l59 r24)) (arr':=(l59 r24)) Z sz59 Z Z (onb Z) Z Z Z) Z ?_
 rintro _ _ _ - ⟨rfl,rfl⟩
 refine qa (Bv r25) (Nt (Cs (Sr (qm (Bv r25) (qu (Bv (!r25)) (PO.not Z) (Nt (Ch h Z (fun hb32 h=> ?_) (fun hb32 h=> ?_))))))))
 refine Sr (qu (a29_ a0 v0_0 v0_1 v0_2 v0_3) (La (cs:=(l29 a0 v0_0 v0_1 v0_2 v0_3)) 3 ag29 sz29 Z Z Z) (WL.f1 ?_))
 have h0_0:=h0_0.mono hle28
 have h0_1:=h0_1.mono hle28
 have h0_2:=h0_2.mono hle28
 have h0_3:=h0_3.mono hle28
 refine We (Sg (v:=(a29_ a0 v0_0 v0_1 v0_2 v0_3)) (vl:=(l29 a0 v0_0 v0_1 v0_2 v0_3)) (arr':=(l29 a0 v0_0 v0_1 v0_2 v0_3)) Z sz29 Z Z (onesOf (Oc (RS.one h0_0) (Oc (RS.one h0_1) (Oc (RS.one h0_2) (Oc (RS.one h0_3) (Oc Z Oz)))))) Z Z Z) Z ?_
 rintro _ _ _ - ⟨rfl,rfl⟩
 exact qa (Iv 8) (Nt (Cr (Tr (Qa (Dr (Qa (Dr (Qa (Dr (Rd h [] (fun _ hs=>hs.drop) (resultsLN Z (RVs.cons (Rc (cs:=(l29 a0 v0_0 v0_1 v0_2 v0_3)) 0 ag29 sz29 Z Z Z) (RVs.cons (RV.tmp Z) RVs.nil))) hle28 ⟨v0_0,v0_1,v0_2,v0_3,Z,Z,h0_0,h0_1,h0_2,h0_3⟩))))))))))
 refine Ck (Tc (Cs (Sr (qu (pt g31 1) (Fa fo59_1 Z Z) (qu (Iv r24.Epoch) (Lb 0 pl3 Z Z Z) (qu (pt g22 2) (Fa fo45_2 Z Z) (qu (Iv a1.Epoch) (Lb 2 pl3 Z Z Z) (qu (Bv (decide (r24.Epoch≠a1.Epoch))) (PO.neq Z Z) (Nt (Ch h Z (fun hb33 h=> ?_) (fun hb33 h=> ?_)))))))))))
 refine Sr (qu (a29_ a0 v0_0 v0_1 v0_2 v0_3) (La (cs:=(l29 a0 v0_0 v0_1 v0_2 v0_3)) 3 ag29 sz29 Z Z Z) (WL.f1 ?_))
 have h0_0:=h0_0.mono hle28
 have h0_1:=h0_1.mono hle28
 have h0_2:=h0_2.mono hle28
 have h0_3:=h0_3.mono hle28
 refine We (Sg (v:=(a29_ a0 v0_0 v0_1 v0_2 v0_3)) (vl:=(l29 a0 v0_0 v0_1 v0_2 v0_3)) (arr':=(l29 a0 v0_0 v0_1 v0_2 v0_3)) Z sz29 Z Z (onesOf (Oc (RS.one h0_0) (Oc (RS.one h0_1) (Oc (RS.one h0_2) (Oc (RS.one h0_3) (Oc Z Oz)))))) Z Z Z) Z ?_
 rintro _ _ _ - ⟨rfl,rfl⟩
 exact qa (Iv 11) (Nt (Cr (Tr (Qa (Dr (Qa (Dr (Qa (Dr (Rd h [] (fun _ hs=>hs.drop) (resultsLN Z (RVs.cons (Rc (cs:=(l29 a0 v0_0 v0_1 v0_2 v0_3)) 0 ag29 sz29 Z Z Z) (RVs.cons (RV.tmp Z) RVs.nil))) hle28 ⟨v0_0,v0_1,v0_2,v0_3,Z,Z,h0_0,h0_1,h0_2,h0_3⟩))))))))))
 refine Ck (Tc (Sr (qu (a29_ a0 v0_0 v0_1 v0_2 v0_3) (La (cs:=(l29 a0 v0_0 v0_1 v0_2 v0_3)) 3 ag29 sz29 Z Z Z) (We (Al ze29 Z) Z ?_))))
 rintro _ _ _ - ⟨rfl,g34,rfl,rfl⟩
 have h0_0:=h0_0.mono hle28
 have h0_1:=h0_1.mono hle28
 have h0_2:=h0_2.mono hle28
 have h0_3:=h0_3.mono hle28
 refine We (Sg (v:=(a29_ a0 v0_0 v0_1 v0_2 v0_3)) (vl:=(l29 a0 v0_0 v0_1 v0_2 v0_3)) (arr':=(l29 a0 v0_0 v0_1 v0_2 v0_3)) Z sz29 Z Z (onesOf (Oc (RS.one h0_0) (Oc (RS.one h0_1) (Oc (RS.one h0_2) (Oc (RS.one h0_3) (Oc Z Oz)))))) Z Z Z) Z ?_
 rintro _ _ _ - ⟨rfl,rfl⟩
 refine Nt ?_
 obtain ⟨j37,hj37,h⟩:=bnd h
 refine WC.joinE (fun(p_:(Bool×Bool)) ρ' M' H'=>match p_ with |(x35,x36)=>M27.le M'∧[(g34, .cells (l29 a0 v0_0 v0_1 v0_2 v0_3).toArray 29 (0,0))]::[(g31, .cells #[(Iv r24.Id),(Iv r24.Epoch),(Sv r24.Rack),(Bv x35),(Bv x36)] 59 (0,0))]::[(g23, .cells z29_.toArray 29 (0,0))]::[(g22, .cells (l45 a1 v1_14 v1_15 v1_16 v1_17).toArray 45 (0,0))]::[(g21, .cells (l29 a0 v0_0 v0_1 v0_2 v0_3).toArray 29 (0,0))]::F=H'∧ρ' 2=(pt g21 0)∧ρ' 4=(pt g23 0)∧ρ' 6=(pt g31 0)∧ρ' 8=(pt g34 0)) j37 ?_ ?_
 have h337:=h
 have h:=hj37
 refine Sr (qu (pt g22 0) (Fa fo45_0 Z Z) (qu (Iv a1.Kind) (Lb 3 pl3 Z Z Z) (Nt (Bk (Sr (qu (Bv (decide (a1.Kind=3))) (PO.eql Z Z) (qa (Bv (decide (a1.Kind=3))) (Nt (Ch h Z (fun hb38 h=> ?_) (fun hb38 h=> ?_))))))))))
 refine Cs ?_
 obtain ⟨x39,hj40,h⟩:=bnd h
 refine Jf (fun(x39:Bool) ρ' M' H'=>M27.le M'∧[(g34, .cells (l29 a0 v0_0 v0_1 v0_2 v0_3).toArray 29 (0,0))]::[(g31, .cells (l59 r24).toArray 59 (0,0))]::[(g23, .cells z29_.toArray 29 (0,0))]::[(g22, .cells (l45 a1 v1_14 v1_15 v1_16 v1_17).toArray 45 (0,0))]::[(g21, .cells (l29 a0 v0_0 v0_1 v0_2 v0_3).toArray 29 (0,0))]::F=H'∧ρ' 2=(pt g21 0)∧ρ' 4=(pt g23 0)∧ρ' 6=(pt g31 0)∧ρ' 8=(pt g34 0)∧ρ' 71=(Bv x39)) x39 ?_ ?_
 have h:=hj40
 refine Cg (qu (pt g31 3) (Fa fo59_3 Z Z) (qu (Bv r24.Fenced) (Lb 1 pl4 Z Z Z) (qm (Bv r24.Fenced) ?_)))
 rcases Bi h with⟨hb41,h⟩ |⟨hb41,h⟩
 iterate 4 refine Of 66 Z Z hb41 Z ?_
 refine qu (Bv true) (Pt Z hb41 Z) (Wz ?_)
 obtain rfl:=oi h
 exact Tj ⟨lr,Z,Z,Z,Z,Z,Z⟩
 refine qo 66 hb41 (a29_ a0 v0_0 v0_1 v0_2 v0_3) (La (cs:=(l29 a0 v0_0 v0_1 v0_2 v0_3)) 4 ag29 sz29 Z Z Z) (qo 66 hb41 (pt g31 0) (Fa fo59_0 Z Z) (qo 66 hb41 (Iv r24.Id) (Lb 1 pl3 Z Z Z) (On 66 Z Z hb41 ?_)))
 obtain ⟨r42,hr43,h⟩:=bnd h
 refine We (Ca co64 (f_ref15_Leads_ok a0 r24.Id _ _ _ _ _ h0_0 h0_1 h0_2 h0_3 r42 hr43) (args2 Z Z)) Z ?_
 rintro _ M44 _ hle45 ⟨_,⟨rfl,rfl⟩,rfl⟩
 refine WL.a0 (qu (Bv r42) (Pf Z hb41 Z) (Wz ?_))
 obtain rfl:=oi h
 exact Tj ⟨hle45,Z,Z,Z,Z,Z,Z⟩
 rintro ρ40 M40 H40 ⟨hle40,rfl,hs40_2,hs40_4,hs40_6,hs40_8,hs40_71⟩
 refine Ch h hs40_71 (fun hb47 h=> ?_) (fun hb47 h=> ?_)
 refine Sr (qu (a29_ a0 v0_0 v0_1 v0_2 v0_3) (La (cs:=(l29 a0 v0_0 v0_1 v0_2 v0_3)) 4 ag29 sz29 hs40_2 Z Z) (Wb ?_))
 have h0_0:=h0_0.mono hle40
 have h0_1:=h0_1.mono hle40
 have h0_2:=h0_2.mono hle40
 have h0_3:=h0_3.mono hle40
 refine We (Sg (v:=(a29_ a0 v0_0 v0_1 v0_2 v0_3)) (vl:=(l29 a0 v0_0 v0_1 v0_2 v0_3)) (arr':=(l29 a0 v0_0 v0_1 v0_2 v0_3)) Z sz29 hs40_4 Z (onesOf (Oc (RS.one h0_0) (Oc (RS.one h0_1) (Oc (RS.one h0_2) (Oc (RS.one h0_3) (Oc Z Oz)))))) Z Z Z) Z ?_
 rintro _ _ _ - ⟨rfl,rfl⟩
 refine qa (Iv 10) (Nt (Cr (Tr (Br (Tr ?_)))))
 have h:=KK.early h h337
 exact Qa (Dr (Qa (Dr (Qa (Dr (Qa (Dr (Rd h [] (fun _ hs=>hs.drop) (resultsLN Z (RVs.cons (Rc (cs:=(l29 a0 v0_0 v0_1 v0_2 v0_3)) 0 ag29 sz29 hs40_4 Z Z) (RVs.cons (RV.tmp Z) RVs.nil))) (hle28.trans hle40) ⟨v0_0,v0_1,v0_2,v0_3,Z,Z,h0_0,h0_1,h0_2,h0_3⟩))))))))
 refine Ck (Tc (Cg (qu (pt g31 3) (Fa fo59_3 hs40_6 Z) (WL.f1 (We (Es (Bv true) [(Iv r24.Id),(Iv r24.Epoch),(Sv r24.Rack),(Bv true),(Bv r24.Leaving)] Z sz4 Z Z Z Z Z Z) Z ?_)))))
 rintro _ _ _ - ⟨rfl,rfl⟩
 exact Wz (Bn (WQ.f4 (WQ.f4 (WQ.f4 (WQ.f3 (WQ.f4 (WQ.thenFE h ⟨hle40,Z,hs40_2,hs40_4,hs40_6,hs40_8⟩)))))))
 refine Sr (qu (Bv (decide (a1.Kind=4))) (PO.eql Z Z) (qa (Bv (decide (a1.Kind=4))) (Nt (Ch h Z (fun hb48 h=> ?_) (fun hb48 h=> ?_)))))
 refine Cs (Sr (qu (pt g31 3) (Fa fo59_3 Z Z) (qu (Bv r24.Fenced) (Lb 1 pl4 Z Z Z) (qu (Bv (!r24.Fenced)) (PO.not Z) (Nt (Ch h Z (fun hb49 h=> ?_) (fun hb49 h=> ?_)))))))
 refine Sr (qu (a29_ a0 v0_0 v0_1 v0_2 v0_3) (La (cs:=(l29 a0 v0_0 v0_1 v0_2 v0_3)) 4 ag29 sz29 Z Z Z) (Wb (We (Sg (v:=(a29_ a0 v0_0 v0_1 v0_2 v0_3)) (vl:=(l29 a0 v0_0 v0_1 v0_2 v0_3)) (arr':=(l29 a0 v0_0 v0_1 v0_2 v0_3)) Z sz29 Z Z (onesOf (Oc (RS.one h0_0) (Oc (RS.one h0_1) (Oc (RS.one h0_2) (Oc (RS.one h0_3) (Oc Z Oz)))))) Z Z Z) Z ?_)))
 rintro _ _ _ - ⟨rfl,rfl⟩
 refine qa (Iv 10) (Nt (Cr (Tr (Br (Tr ?_)))))
 have h:=KK.early h h337
 exact Qa (Dr (Qa (Dr (Qa (Dr (Qa (Dr (Rd h [] (fun _ hs=>hs.drop) (resultsLN Z (RVs.cons (Rc (cs:=(l29 a0 v0_0 v0_1 v0_2 v0_3)) 0 ag29 sz29 Z Z Z) (RVs.cons (RV.tmp Z) RVs.nil))) hle28 ⟨v0_0,v0_1,v0_2,v0_3,Z,Z,h0_0,h0_1,h0_2,h0_3⟩))))))))
 refine Ck (Tc (Sr (qu (pt g31 3) (Fa fo59_3 Z Z) (WL.f1 (We (Es (Bv false) [(Iv r24.Id),(Iv r24.Epoch),(Sv r24.Rack),(Bv false),(Bv r24.Leaving)] Z sz4 Z Z Z Z Z Z) Z ?_)))))
 rintro _ _ _ - ⟨rfl,rfl⟩
 refine Nt (Cg (qu (pt g31 4) (Fa fo59_4 Z Z) (We (Es (Bv false) [(Iv r24.Id),(Iv r24.Epoch),(Sv r24.Rack),(Bv false),(Bv false)] Z sz4 Z Z Z Z Z Z) Z ?_)))
 rintro _ _ _ - ⟨rfl,rfl⟩
 exact Wz (Bn (WQ.f4 (WQ.f4 (WQ.f4 (WQ.f3 (WQ.f4 (WQ.thenFE h ⟨lr,Z,Z,Z,Z,Z⟩)))))))
 refine Sr (qu (Bv (decide (a1.Kind=5))) (PO.eql Z Z) (qa (Bv (decide (a1.Kind=5))) (Nt (Ch h Z (fun hb50 h=> ?_) (fun hb50 h=> ?_)))))
 refine Cs ?_
 obtain ⟨x51,hj52,h⟩:=bnd h
 refine Jf (fun(x51:Bool) ρ' M' H'=>M27.le M'∧[(g34, .cells (l29 a0 v0_0 v0_1 v0_2 v0_3).toArray 29 (0,0))]::[(g31, .cells (l59 r24).toArray 59 (0,0))]::[(g23, .cells z29_.toArray 29 (0,0))]::[(g22, .cells (l45 a1 v1_14 v1_15 v1_16 v1_17).toArray 45 (0,0))]::[(g21, .cells (l29 a0 v0_0 v0_1 v0_2 v0_3).toArray 29 (0,0))]::F=H'∧ρ' 2=(pt g21 0)∧ρ' 4=(pt g23 0)∧ρ' 6=(pt g31 0)∧ρ' 8=(pt g34 0)∧ρ' 89=(Bv x51)) x51 ?_ ?_
 have h:=hj52
 refine Cg (qu (pt g31 3) (Fa fo59_3 Z Z) (qu (Bv r24.Fenced) (Lb 1 pl4 Z Z Z) (qm (Bv r24.Fenced) ?_)))
 rcases Bi h with⟨hb53,h⟩ |⟨hb53,h⟩
 iterate 2 refine Of 86 Z Z hb53 Z ?_
 refine qu (Bv true) (Pt Z hb53 Z) (Wz ?_)
 obtain rfl:=oi h
 exact Tj ⟨lr,Z,Z,Z,Z,Z,Z⟩
 refine qo 86 hb53 (pt g31 4) (Fa fo59_4 Z Z) (qo 86 hb53 (Bv r24.Leaving) (Lb 1 pl4 Z Z Z) (qu (Bv r24.Leaving) (Pf Z hb53 Z) (Wz ?_)))
 obtain rfl:=oi h
 exact Tj ⟨lr,Z,Z,Z,Z,Z,Z⟩
 rintro ρ52 M52 H52 ⟨hle52,rfl,hs52_2,hs52_4,hs52_6,hs52_8,hs52_89⟩
 refine Ch h hs52_89 (fun hb54 h=> ?_) (fun hb54 h=> ?_)
 refine Sr (qu (a29_ a0 v0_0 v0_1 v0_2 v0_3) (La (cs:=(l29 a0 v0_0 v0_1 v0_2 v0_3)) 4 ag29 sz29 hs52_2 Z Z) (Wb ?_))
 have h0_0:=h0_0.mono hle52
 have h0_1:=h0_1.mono hle52
 have h0_2:=h0_2.mono hle52
 have h0_3:=h0_3.mono hle52
 refine We (Sg (v:=(a29_ a0 v0_0 v0_1 v0_2 v0_3)) (vl:=(l29 a0 v0_0 v0_1 v0_2 v0_3)) (arr':=(l29 a0 v0_0 v0_1 v0_2 v0_3)) Z sz29 hs52_4 Z (onesOf (Oc (RS.one h0_0) (Oc (RS.one h0_1) (Oc (RS.one h0_2) (Oc (RS.one h0_3) (Oc Z Oz)))))) Z Z Z) Z ?_
 rintro _ _ _ - ⟨rfl,rfl⟩
 refine qa (Iv 10) (Nt (Cr (Tr (Br (Tr ?_)))))
 have h:=KK.early h h337
 exact Qa (Dr (Qa (Dr (Qa (Dr (Qa (Dr (Rd h [] (fun _ hs=>hs.drop) (resultsLN Z (RVs.cons (Rc (cs:=(l29 a0 v0_0 v0_1 v0_2 v0_3)) 0 ag29 sz29 hs52_4 Z Z) (RVs.cons (RV.tmp Z) RVs.nil))) (hle28.trans hle52) ⟨v0_0,v0_1,v0_2,v0_3,Z,Z,h0_0,h0_1,h0_2,h0_3⟩))))))))
 refine Ck (Tc (Cg (qu (pt g31 4) (Fa fo59_4 hs52_6 Z) (WL.f1 (We (Es (Bv true) [(Iv r24.Id),(Iv r24.Epoch),(Sv r24.Rack),(Bv r24.Fenced),(Bv true)] Z sz4 Z Z Z Z Z Z) Z ?_)))))
 rintro _ _ _ - ⟨rfl,rfl⟩
 exact Wz (Bn (WQ.f4 (WQ.f4 (WQ.f4 (WQ.f3 (WQ.f4 (WQ.thenFE h ⟨hle52,Z,hs52_2,hs52_4,hs52_6,hs52_8⟩)))))))
 refine Cs (Sr (qu (a29_ a0 v0_0 v0_1 v0_2 v0_3) (La (cs:=(l29 a0 v0_0 v0_1 v0_2 v0_3)) 4 ag29 sz29 Z Z Z) (qu (pt g31 0) (Fa fo59_0 Z Z) (qu (Iv r24.Id) (Lb 1 pl3 Z Z Z) ?_))))
 obtain ⟨r55,hr56,h⟩:=bnd h
 refine We (Ca co66 (f_ref15_used_ok a0 r24.Id _ _ _ _ _ h0_0 h0_1 h0_2 h0_3 r55 hr56) (args2 Z Z)) Z ?_
 rintro _ M57 _ hle58 ⟨_,⟨rfl,rfl⟩,rfl⟩
 refine WL.a0 (Nt (Ch h Z (fun hb60 h=> ?_) (fun hb60 h=> ?_)))
 refine Sr (qu (a29_ a0 v0_0 v0_1 v0_2 v0_3) (La (cs:=(l29 a0 v0_0 v0_1 v0_2 v0_3)) 4 ag29 sz29 Z Z Z) (Wb ?_))
 have h0_0:=h0_0.mono hle58
 have h0_1:=h0_1.mono hle58
 have h0_2:=h0_2.mono hle58
 have h0_3:=h0_3.mono hle58
 refine We (Sg (v:=(a29_ a0 v0_0 v0_1 v0_2 v0_3)) (vl:=(l29 a0 v0_0 v0_1 v0_2 v0_3)) (arr':=(l29 a0 v0_0 v0_1 v0_2 v0_3)) Z sz29 Z Z (onesOf (Oc (RS.one h0_0) (Oc (RS.one h0_1) (Oc (RS.one h0_2) (Oc (RS.one h0_3) (Oc Z Oz)))))) Z Z Z) Z ?_
 rintro _ _ _ - ⟨rfl,rfl⟩
 refine qa (Iv 10) (Nt (Cr (Tr (Br (Tr ?_)))))
 have h:=KK.early h h337
 exact Qa (Dr (Qa (Dr (Qa (Dr (Qa (Dr (Rd h [] (fun _ hs=>hs.drop) (resultsLN Z (RVs.cons (Rc (cs:=(l29 a0 v0_0 v0_1 v0_2 v0_3)) 0 ag29 sz29 Z Z Z) (RVs.cons (RV.tmp Z) RVs.nil))) (hle28.trans hle58) ⟨v0_0,v0_1,v0_2,v0_3,Z,Z,h0_0,h0_1,h0_2,h0_3⟩))))))))
 refine Ck (Tc (Sr (qu (pt g34 0) (Fa fo29_0 Z Z) (We (Es Zs ((l29 a0 Zs v0_1 v0_2 v0_3)) Z sz24 Z Z Z Z Z Z) Z ?_))))
 rintro _ _ _ - ⟨rfl,rfl⟩
 refine Nt ?_
 obtain ⟨x61,hj62,h⟩:=bnd h
 refine Jf (fun(x61:(List T_api_Broker)) ρ' M' H'=>∃ vx61 cx61,M57.le M'∧[(g34, .cells (l29 a0 vx61 v0_1 v0_2 v0_3).toArray 29 (0,0))]::[(g31, .cells (l59 r24).toArray 59 (0,0))]::[(g23, .cells z29_.toArray 29 (0,0))]::[(g22, .cells (l45 a1 v1_14 v1_15 v1_16 v1_17).toArray 45 (0,0))]::[(g21, .cells (l29 a0 v0_0 v0_1 v0_2 v0_3).toArray 29 (0,0))]::cx61::F=H'∧ρ' 4=(pt g23 0)∧ρ' 8=(pt g34 0)∧OwnS kd_api_Broker M' vx61 x61 cx61) x61 ?_ ?_
 have h:=hj62
 refine Sr (qa (Iv 0) (Nt (Bk (WC.e0 (WC.f5 (WC.f5 (WC.f5 (WC.f5 (WC.f5 ?_)))))))))
 obtain ⟨e63,he63,hK63⟩:=bnd h
 clear h
 refine WC.loop he63 (fun(p_:(Int×(List T_api_Broker))) ρ' M' H'=>match p_ with |(x64,x65)=>∃ vx65 cx65,M57.le M'∧[(g34, .cells (l29 a0 vx65 v0_1 v0_2 v0_3).toArray 29 (0,0))]::[(g31, .cells (l59 r24).toArray 59 (0,0))]::[(g23, .cells z29_.toArray 29 (0,0))]::[(g22, .cells (l45 a1 v1_14 v1_15 v1_16 v1_17).toArray 45 (0,0))]::[(g21, .cells (l29 a0 v0_0 v0_1 v0_2 v0_3).toArray 29 (0,0))]::cx65::F=H'∧ρ' 2=(pt g21 0)∧ρ' 4=(pt g23 0)∧ρ' 6=(pt g31 0)∧ρ' 8=(pt g34 0)∧ρ' 9=(Iv x64)∧OwnS kd_api_Broker M' vx65 x65 cx65) ?_ ?_
 exact⟨Zs,[],lr,Z,Z,Z,Z,Z,Z,(OwnS.nil _ _)⟩
 rintro ⟨x64,x65⟩ o63 ρ63 M63 H63 h ⟨vx65,cx65,hle63,rfl,hs63_2,hs63_4,hs63_6,hs63_8,hs63_9,hx65⟩
 unfold f_ref15_broker_l0 at h
 refine Cs (Sr (qM (Iv x64) hs63_9 (qu (pt g21 0) (Fa fo29_0 hs63_2 Z) (qu v0_0 (Lb 4 pl24 Z Z Z) ?_))))
 have h0_0:=h0_0.mono (hle58.trans hle63)
 refine qu (Iv (a0.Brokers.length:Int)) (PO.lenS Tryz.underlying24 Z h0_0.len) (qu (Bv (decide (x64<(a0.Brokers.length:Int)))) (PO.lss Z Z) (Nt (Ch h Z (fun hb67 h=> ?_) (fun hb67 h=> ?_))))
 refine Ck (Tc ?_)
 obtain ⟨x68,hj69,h⟩:=bnd h
 refine Jf (fun(x68:(List T_api_Broker)) ρ' M' H'=>∃ vx68 cx68,M63.le M'∧[(g34, .cells (l29 a0 vx68 v0_1 v0_2 v0_3).toArray 29 (0,0))]::[(g31, .cells (l59 r24).toArray 59 (0,0))]::[(g23, .cells z29_.toArray 29 (0,0))]::[(g22, .cells (l45 a1 v1_14 v1_15 v1_16 v1_17).toArray 45 (0,0))]::[(g21, .cells (l29 a0 v0_0 v0_1 v0_2 v0_3).toArray 29 (0,0))]::cx68::F=H'∧ρ' 2=(pt g21 0)∧ρ' 4=(pt g23 0)∧ρ' 6=(pt g31 0)∧ρ' 8=(pt g34 0)∧ρ' 9=(Iv x64)∧OwnS kd_api_Broker M' vx68 x68 cx68) x68 ?_ ?_
 have h:=hj69
 refine Bk (Cs (WC.draw [0,1,0,7,15,31,0,64,255] (.pure 0 (.pure 1 (.pure 2 (.pure 3 (.pure 4 (.pure 5 (.pure 6 (.pure 7 (.pure 8 .done))))))))) mixed (by kernel_rfl) (qt (pt g21 0) Z (Fa fo29_0 hs63_2 Z) (qt v0_0 Z (Lb 4 pl24 Z Z Z) (qt (Iv x64) Z (Mv hs63_9) ?_)))))
 obtain ⟨hg70,h⟩:=grd_i h
 obtain ⟨p71,cs72,hat73,hrc74,hhas75⟩:=h0_0.at hg70.1 hg70.2 (by decide)
 obtain rfl:=kd_api_Broker_open hrc74
 refine qt (.pointer (some p71)) Z (PO.indexAddr (n:=a0.Brokers.length) Tryz.underlying24 sz59 Z Z hg70.1 hg70.2 hat73) (qt (.pointer (some (p71.add 0))) Z (Fa fo59_0 Z Z) (qt (Iv ((rd a0.Brokers x64).Id)) Z (PO.loadM pl3 Z (IM.has0 hhas75)) (qt (pt g31 0) Z (Fa fo59_0 hs63_6 Z) (qt (Iv r24.Id) Z (Lb 1 pl3 Z Z Z) (qt (Bv (decide (((rd a0.Brokers x64).Id)≠r24.Id))) Z (PO.neq Z Z) (Ti (Tc (Ch h Z (fun hb77 h=> ?_) (fun hb77 h=> ?_)))))))))
 refine WC.draw [0,1,0,4,0,28,60,124,255,511,1023] (.pure 0 (.pure 1 (.pure 2 (.pure 3 (.pure 4 (.pure 5 (.pure 6 (.alt 7 (.alt 8 (.pure 9 (.alt 10 .done .none)) .none) .none)))))))) mixed (by kernel_rfl) (qt (pt g34 0) Z (Fa fo29_0 hs63_8 Z) (qt vx65 Z (Lb 0 pl24 Z Z Z) (qt (pt g21 0) Z (Fa fo29_0 hs63_2 Z) (qt v0_0 Z (Lb 4 pl24 Z Z Z) (qt (Iv x64) Z (Mv hs63_9) ?_)))))
 obtain ⟨hg78,h⟩:=grd_i h
 obtain ⟨p79,cs80,hat81,hrc82,hhas83⟩:=h0_0.at hg78.1 hg78.2 (by decide)
 obtain rfl:=kd_api_Broker_open hrc82
 refine qt (.pointer (some p79)) Z (PO.indexAddr (n:=a0.Brokers.length) Tryz.underlying24 sz59 Z Z hg78.1 hg78.2 hat81) (qt (a59_ (rd a0.Brokers x64)) Z (PO.loadMA (cs:=(l59 (rd a0.Brokers x64))) ag59 sz59 Z hhas83) (Ta Z (EO.buildSliceL (cl:=(l59 (rd a0.Brokers x64))) Tryz.underlying24 iz59 Z (Pc (a59_ (rd a0.Brokers x64)) Z Z Pz) Z) Z ?_ ?_))
 rintro _ _ _ - ⟨rfl,g85,rfl,rfl⟩
 have h87:OwnS kd_api_Broker M63 (.slice (some ⟨g85,0,none⟩) 1 1) [(rd a0.Brokers x64)] [(g85, .cells (l59 (rd a0.Brokers x64)).toArray 59 (0,0))]:=OwnS.rows (css:=[(l59 (rd a0.Brokers x64))]) (Rows.cons (kd_api_Broker_mk (x:=(rd a0.Brokers x64))) Rows.nil) Z Z
 refine⟨(Sk 5 Z (Ss Z (Lb 1 pl24 Z Z Z) Z (Ss Z (Fa fo29_0 hs63_8 Z) Z trivial))), ?_⟩
 obtain ⟨hg91,h⟩:=grd_i h
 refine WT.f6 (Ta Z (EO.append (dd:=kd_api_Broker) (xs:=x65) (ys:=[(rd a0.Brokers x64)]) Tryz.underlying24 Tryz.underlying24 in59 Z (appB (by decide) hg91) (by decide) Z Z hx65 (h87.src 1 Z)) Z ?_ ?_)
 rintro v90 _ _ - ⟨rfl,c88,rfl,h89⟩
 refine⟨(Sl Z), ?_⟩
 refine qt (pt g34 0) Z (Fa fo29_0 hs63_8 Z) (WT.f2 (Ta Z (Es v90 ((l29 a0 v90 v0_1 v0_2 v0_3)) h89.cells sz24 Z Z (Ow h89) Z Z Z) Z ?_ ?_))
 rintro _ _ _ - ⟨rfl,rfl⟩
 refine⟨(Sl Z), ?_⟩
 refine Ti (Bn (Qb (Dr (Qa (WQ.f5 (WQ.f5 (WQ.f5 (WQ.f5 (WQ.f5 ?_)))))))))
 obtain rfl:=oi h
 exact Tj ⟨v90,c88,lr,Z,hs63_2,hs63_4,hs63_6,hs63_8,hs63_9,h89⟩
 exact Tz
 exact Tz
 exact Tz
 refine Ck (Bn ?_)
 obtain rfl:=oi h
 exact Tj ⟨vx65,cx65,lr,Z,hs63_2,hs63_4,hs63_6,hs63_8,hs63_9,hx65⟩
 rintro ρ69 M69 H69 ⟨vx68,cx68,hle69,rfl,hs69_2,hs69_4,hs69_6,hs69_8,hs69_9,hx68⟩
 exact Cg (qM (Iv x64) hs69_9 (qu (Iv (IntKind.i64.wrap (x64+1))) (PO.add Z Z) (qa (Iv (IntKind.i64.wrap (x64+1))) (Wz (WQ.again (IntKind.i64.wrap (x64+1),x68) (oi h).symm ⟨vx68,cx68,(hle63.trans hle69),Z,hs69_2,hs69_4,hs69_6,hs69_8,Z,hx68⟩)))))
 refine WC.exit (WQ.thenE (WQ.leaveE x65 (oi h).symm (fun heq63=> ?_)))
 subst heq63
 have h:=hK63
 refine WQ.blockH ?_
 obtain rfl:=oi h
 exact Tj ⟨vx65,cx65,hle63,Z,hs63_4,hs63_8,hx65⟩
 rintro ρ62 M62 H62 ⟨vx61,cx61,hle62,rfl,hs62_4,hs62_8,hx61⟩
 refine Sr (qu (a29_ a0 vx61 v0_1 v0_2 v0_3) (La (cs:=(l29 a0 vx61 v0_1 v0_2 v0_3)) 0 ag29 sz29 hs62_8 Z Z) (Wb ?_))
 have h0_1:=h0_1.mono (hle58.trans hle62)
 have h0_2:=h0_2.mono (hle58.trans hle62)
 have h0_3:=h0_3.mono (hle58.trans hle62)
 refine We (Sg (v:=(a29_ a0 vx61 v0_1 v0_2 v0_3)) (vl:=(l29 a0 vx61 v0_1 v0_2 v0_3)) (arr':=(l29 a0 vx61 v0_1 v0_2 v0_3)) Z sz29 hs62_4 Z (onesOf (Oc (Ow hx61) (Oc (RS.one h0_1) (Oc (RS.one h0_2) (Oc (RS.one h0_3) (Oc Z Oz)))))) Z Z Z) Z ?_
 rintro _ _ _ - ⟨rfl,rfl⟩
 refine qa (Iv 0) (Nt (Cr (Br (Tr ?_))))
 have h:=KK.early h h337
 refine WQ.f5 (WQ.know (fun _ hs=>hx61.rs hs) (fun hf94=> ?_))
 refine WQ.freeze (fun hle93=> ?_)
 refine Qa (Dr (Qa (Dr (Qa (Dr (Qa (Dr ?_)))))))
 have h0_1:=h0_1.mono hle93
 have h0_2:=h0_2.mono hle93
 have h0_3:=h0_3.mono hle93
 exact Rd h [] (fun _ hs=>hs.drop) (resultsLN Z (RVs.cons (Rc (cs:=(l29 a0 vx61 v0_1 v0_2 v0_3)) 0 ag29 sz29 hs62_4 Z Z) (RVs.cons (RV.tmp Z) RVs.nil))) (((hle28.trans hle58).trans hle62).trans hle93) ⟨vx61,v0_1,v0_2,v0_3,Z,Z,hf94,h0_1,h0_2,h0_3⟩
 rintro ⟨x35,x36⟩ ρ37 M37 H37 rfl ⟨hle37,rfl,hs37_2,hs37_4,hs37_6,hs37_8⟩
 have h:=(Sum.elim_inl _ _ _).symm.trans h
 refine Sr (qu (pt g21 0) (Fa fo29_0 hs37_2 Z) (qu v0_0 (Lb 4 pl24 Z Z Z) (qu (.agg #[(Iv r24.Id),(Iv r24.Epoch),(Sv r24.Rack),(Bv x35),(Bv x36)]) (La (cs:=[(Iv r24.Id),(Iv r24.Epoch),(Sv r24.Rack),(Bv x35),(Bv x36)]) 1 ag59 sz59 hs37_6 Z Z) ?_)))
 obtain ⟨r95,hr96,h⟩:=bnd h
 have h0_0:=h0_0.mono hle37
 refine We (Ca co65 (f_ref15_putBroker_ok a0.Brokers (⟨r24.Id,r24.Epoch,r24.Rack,x35,x36⟩:T_api_Broker) _ _ h0_0 r95 hr96) (args2 Z Z)) Z ?_
 rintro _ M97 _ hle98 ⟨_,⟨vq99,cq99,rfl,rfl,hq99⟩,rfl⟩
 refine WL.a1 (qu (pt g34 0) (Fa fo29_0 hs37_8 Z) (WL.f1 (We (Es vq99 ((l29 a0 vq99 v0_1 v0_2 v0_3)) hq99.cells sz24 Z Z (Ow hq99) Z Z Z) Z ?_)))
 rintro _ _ _ - ⟨rfl,rfl⟩
 refine Ns (qu (a29_ a0 vq99 v0_1 v0_2 v0_3) (La (cs:=(l29 a0 vq99 v0_1 v0_2 v0_3)) 0 ag29 sz29 hs37_8 Z Z) (WL.f3 ?_))
 have h0_1:=h0_1.mono (hle37.trans hle98)
 have h0_2:=h0_2.mono (hle37.trans hle98)
 have h0_3:=h0_3.mono (hle37.trans hle98)
 refine We (Sg (v:=(a29_ a0 vq99 v0_1 v0_2 v0_3)) (vl:=(l29 a0 vq99 v0_1 v0_2 v0_3)) (arr':=(l29 a0 vq99 v0_1 v0_2 v0_3)) Z sz29 hs37_4 Z (onesOf (Oc (Ow hq99) (Oc (RS.one h0_1) (Oc (RS.one h0_2) (Oc (RS.one h0_3) (Oc Z Oz)))))) Z Z Z) Z ?_
 rintro _ _ _ - ⟨rfl,rfl⟩
 refine qa (Iv 0) (Nt (Cr (Qb (WQ.know (fun _ hs=>hq99.rs hs) (fun hf101=> ?_)))))
 refine WQ.freeze (fun hle100=> ?_)
 refine Qa (Dr (Qa (Dr (Qa (Dr (Qa (Dr ?_)))))))
 have h0_1:=h0_1.mono hle100
 have h0_2:=h0_2.mono hle100
 have h0_3:=h0_3.mono hle100
 exact Rd h [] (fun _ hs=>hs.drop) (resultsLN Z (RVs.cons (Rc (cs:=(l29 a0 vq99 v0_1 v0_2 v0_3)) 0 ag29 sz29 hs37_4 Z Z) (RVs.cons (RV.tmp Z) RVs.nil))) (((hle28.trans hle37).trans hle98).trans hle100) ⟨vq99,v0_1,v0_2,v0_3,Z,Z,hf101,h0_1,h0_2,h0_3⟩
noncomputable def f_ref15_Topic_l0 (a0:T_api_Image) (a1:Int) (s_:Int):Option (Int⊕(Unit⊕(Int×ByteArray×(List T_api_Part)))):=
 match s_ with
 |x25=>
 (if(decide (x25<(a0.Topics.length:Int)))=true then(grd (0≤x25∧x25<a0.Topics.length) (if(decide (((rd a0.Topics x25).Id)=a1))=true then(grd (0≤x25∧x25<a0.Topics.length) (some (Sum.inr (Sum.inr ((rd a0.Topics x25).Id,(rd a0.Topics x25).Name,(rd a0.Topics x25).Parts)))))else(some (Sum.inl (IntKind.i64.wrap (x25+(1:Int)))))))else(some (Sum.inr (Sum.inl ()))))
noncomputable def f_ref15_Topic (a0:T_api_Image) (a1:Int):Option (T_api_Topic×Bool):=
 ((((iter (f_ref15_Topic_l0 a0 a1) (0:Int)).bind (Sum.elim (fun _=>(some (Sum.inl ()))) (fun(x26,x27,x28)=>(((some ((⟨x26,x27,x28⟩:T_api_Topic),true))).bind fun r=>some (Sum.inr r))))):Option (Unit⊕(T_api_Topic×Bool))).bind (Sum.elim (fun _=>(some ((⟨(0:Int),(⟨#[]⟩:ByteArray),[]⟩:T_api_Topic),false))) some))
def f_ref15_Topic_post (a0:T_api_Image) (a1:Int) (v0_0 v0_1 v0_2 v0_3:Value):(T_api_Topic×Bool)→Value→IM→HL→Prop:=
 fun(p_:(T_api_Topic×Bool)) (v:Value) (M':IM) (H':HL)=>match p_ with |(r0,r1)=>∃ vz0_2,(.tuple #[(.agg #[(.int .i64 r0.Id),(.string r0.Name),vz0_2]),(.bool r1)])=v∧H'=[]∧RS kd_api_Part M' vz0_2 r0.Parts
theorem f_ref15_Topic_ok (a0:T_api_Image) (a1:Int) (M:IM) (v0_0 v0_1 v0_2 v0_3:Value) (h0_0:RS kd_api_Broker M v0_0 a0.Brokers) (h0_1:RS kd_api_Topic M v0_1 a0.Topics) (h0_2:RS kd_api_Config M v0_2 a0.Configs) (h0_3:RS kd_api_Done M v0_3 a0.Done) (res:(T_api_Topic×Bool)) (h:f_ref15_Topic a0 a1=some res):
 Tri Tryz.prog 67 #[(a29_ a0 v0_0 v0_1 v0_2 v0_3),(Iv a1)] M [] (f_ref15_Topic_post a0 a1 v0_0 v0_1 v0_2 v0_3 res):=by
 unfold f_ref15_Topic at h
 refine Te Tryz.func67 Z Z ?_
 intro F ρ hρ
 refine Sr (We (EO.box (cs:=(l29 a0 v0_0 v0_1 v0_2 v0_3).toArray) (congrArg Value.cells (asE (a29_ a0 v0_0 v0_1 v0_2 v0_3) (hρ 0)))) Z ?_)
 rintro _ _ _ - ⟨rfl,g21,rfl,rfl⟩
 refine We (Al ze52 Z) Z ?_
 rintro _ _ _ - ⟨rfl,g22,rfl,rfl⟩
 refine qa (Bv false) (Nt ?_)
 obtain ⟨j23,hj23,h⟩:=bnd h
 refine WC.joinE (fun(_:Unit) ρ' M' H'=>M.le M'∧[(g22, .cells #[(Iv 0),(Sv ⟨#[]⟩),Zs] 52 (0,0))]::[(g21, .cells (l29 a0 v0_0 v0_1 v0_2 v0_3).toArray 29 (0,0))]::F=H'∧ρ' 4=(pt g22 0)) j23 ?_ ?_
 have h323:=h
 have h:=hj23
 refine Sr (qa (Iv 0) (Nt (Bk ?_)))
 obtain ⟨e24,he24,hK24⟩:=bnd h
 clear h
 refine WC.loop he24 (fun(x25:Int) ρ' M' H'=>M.le M'∧[(g22, .cells #[(Iv 0),(Sv ⟨#[]⟩),Zs] 52 (0,0))]::[(g21, .cells (l29 a0 v0_0 v0_1 v0_2 v0_3).toArray 29 (0,0))]::F=H'∧ρ' 1=(Iv a1)∧ρ' 2=(pt g21 0)∧ρ' 4=(pt g22 0)∧ρ' 6=(Iv x25)) ?_ ?_
 exact⟨lr,Z,(hρ 1),Z,Z,Z⟩
 rintro x25 o24 ρ24 M24 H24 h ⟨hle24,rfl,hs24_1,hs24_2,hs24_4,hs24_6⟩
 unfold f_ref15_Topic_l0 at h
 refine Cs (Sr (qM (Iv x25) hs24_6 (qu (pt g21 1) (Fa fo29_1 hs24_2 Z) (qu v0_1 (Lb 1 pl25 Z Z Z) ?_))))
 have h0_1:=h0_1.mono hle24
 refine qu (Iv (a0.Topics.length:Int)) (PO.lenS Tryz.underlying25 Z h0_1.len) (qu (Bv (decide (x25<(a0.Topics.length:Int)))) (PO.lss Z Z) (Nt (Ch h Z (fun hb29 h=> ?_) (fun hb29 h=> ?_))))
 refine Ck (Tc (Cs (Bk (Sr (qu (pt g21 1) (Fa fo29_1 hs24_2 Z) (qu v0_1 (Lb 1 pl25 Z Z Z) (qM (Iv x25) hs24_6 ?_)))))))
 obtain ⟨hg30,h⟩:=grd_i h
 obtain ⟨p31,cs32,hat33,hrc34,hhas35⟩:=h0_1.at hg30.1 hg30.2 (by decide)
 obtain ⟨vw36_2,rfl,hw36_2⟩:=kd_api_Topic_open hrc34
 refine qu (.pointer (some p31)) (PO.indexAddr (n:=a0.Topics.length) Tryz.underlying25 sz52 Z Z hg30.1 hg30.2 hat33) (qu (.pointer (some (p31.add 0))) (Fa fo52_0 Z Z) (qu (Iv ((rd a0.Topics x25).Id)) (PO.loadM pl3 Z (IM.has0 hhas35)) (qM (Iv a1) hs24_1 (qu (Bv (decide (((rd a0.Topics x25).Id)=a1))) (PO.eql Z Z) (Nt (Ch h Z (fun hb37 h=> ?_) (fun hb37 h=> ?_)))))))
 refine Sr (qu (pt g21 1) (Fa fo29_1 hs24_2 Z) (qu v0_1 (Lb 1 pl25 Z Z Z) (qM (Iv x25) hs24_6 ?_)))
 obtain ⟨hg38,h⟩:=grd_i h
 obtain ⟨p39,cs40,hat41,hrc42,hhas43⟩:=h0_1.at hg38.1 hg38.2 (by decide)
 obtain ⟨vw44_2,rfl,hw44_2⟩:=kd_api_Topic_open hrc42
 refine qu (.pointer (some p39)) (PO.indexAddr (n:=a0.Topics.length) Tryz.underlying25 sz52 Z Z hg38.1 hg38.2 hat41) (qu (a52_ (rd a0.Topics x25) vw44_2) (PO.loadMA (cs:=(l52 (rd a0.Topics x25) vw44_2)) ag52 sz52 Z hhas43) (We (Sg (v:=(a52_ (rd a0.Topics x25) vw44_2)) (vl:=(l52 (rd a0.Topics x25) vw44_2)) (arr':=(l52 (rd a0.Topics x25) vw44_2)) Z sz52 hs24_4 Z (onesOf (Oc Z (Oc Z (Oc (RS.one hw44_2) Oz)))) Z Z Z) Z ?_))
 rintro _ _ _ - ⟨rfl,rfl⟩
 refine qa (Bv true) (Nt (Cr (Br (Tr (WQ.leaveR (Sum.inr ((rd a0.Topics x25).Id,(rd a0.Topics x25).Name,(rd a0.Topics x25).Parts)) (oi h).symm (fun heq24=> ?_))))))
 subst heq24
 have h:=(elimR hK24)
 refine Br (Tr ?_)
 have h:=KK.early h h323
 exact Qa (Dr (Rd h [] (fun _ hs=>hs.drop) (resultsLN Z (RVs.cons (Rc (cs:=(l52 (rd a0.Topics x25) vw44_2)) 0 ag52 sz52 hs24_4 Z Z) (RVs.cons (RV.tmp Z) RVs.nil))) hle24 ⟨vw44_2,Z,Z,hw44_2⟩))
 exact Ck (Bn (Tc (Cg (qM (Iv x25) hs24_6 (qu (Iv (IntKind.i64.wrap (x25+1))) (PO.add Z Z) (qa (Iv (IntKind.i64.wrap (x25+1))) (Wz (WQ.again (IntKind.i64.wrap (x25+1)) (oi h).symm ⟨hle24,Z,hs24_1,hs24_2,hs24_4,Z⟩))))))))
 refine WC.exit (WQ.thenE (WQ.leaveE (Sum.inl ()) (oi h).symm (fun heq24=> ?_)))
 subst heq24
 have h:=elimL hK24
 exact WQ.blockH (WQ.thenFE h ⟨hle24,Z,hs24_4⟩)
 rintro _ ρ23 M23 H23 rfl ⟨hle23,rfl,hs23_4⟩
 have h:=(Sum.elim_inl _ _ _).symm.trans h
 refine Sr (qu (.agg #[(Iv 0),(Sv ⟨#[]⟩),Zs]) (Bl (cl:=[(Iv 0),(Sv ⟨#[]⟩),Zs]) ze52 fp52 Pz Z) (We (Sg (v:=(.agg #[(Iv 0),(Sv ⟨#[]⟩),Zs])) (vl:=[(Iv 0),(Sv ⟨#[]⟩),Zs]) (arr':=[(Iv 0),(Sv ⟨#[]⟩),Zs]) Z sz52 hs23_4 Z (onb Z) Z Z Z) Z ?_))
 rintro _ _ _ - ⟨rfl,rfl⟩
 exact qa (Bv false) (Nt (Cr (Qa (Dr (Rd h [] (fun _ hs=>hs.drop) (resultsLN Z (RVs.cons (Rc (cs:=[(Iv 0),(Sv ⟨#[]⟩),Zs]) 0 ag52 sz52 hs23_4 Z Z) (RVs.cons (RV.tmp Z) RVs.nil))) hle23 ⟨Zs,Z,Z,RS.nil _ _⟩)))))
noncomputable def f_ref15_Alive (a0:T_api_Image) (a1:Int):Option Bool:=
 ((f_ref15_Broker a0 a1).bind fun(r22,r23)=>(((if r23=true then(some (!r22.Fenced))else(some false)):Option Bool).bind fun x30=>(some x30)))
def f_ref15_Alive_post (a0:T_api_Image) (a1:Int) (v0_0 v0_1 v0_2 v0_3:Value):Bool→Value→IM→HL→Prop:=
 fun(r0:Bool) (v:Value) (M':IM) (H':HL)=>(.bool r0)=v∧H'=[]
theorem f_ref15_Alive_ok (a0:T_api_Image) (a1:Int) (M:IM) (v0_0 v0_1 v0_2 v0_3:Value) (h0_0:RS kd_api_Broker M v0_0 a0.Brokers) (h0_1:RS kd_api_Topic M v0_1 a0.Topics) (h0_2:RS kd_api_Config M v0_2 a0.Configs) (h0_3:RS kd_api_Done M v0_3 a0.Done) (res:Bool) (h:f_ref15_Alive a0 a1=some res):
 Tri Tryz.prog 85 #[(a29_ a0 v0_0 v0_1 v0_2 v0_3),(Iv a1)] M [] (f_ref15_Alive_post a0 a1 v0_0 v0_1 v0_2 v0_3 res):=by
 unfold f_ref15_Alive at h
 refine Te Tryz.func85 Z Z ?_
 intro F ρ hρ
 refine Sr (We (EO.box (cs:=(l29 a0 v0_0 v0_1 v0_2 v0_3).toArray) (congrArg Value.cells (asE (a29_ a0 v0_0 v0_1 v0_2 v0_3) (hρ 0)))) Z ?_)
 rintro _ _ _ - ⟨rfl,g21,rfl,rfl⟩
 refine qa (Bv false) (Ns (qu (a29_ a0 v0_0 v0_1 v0_2 v0_3) (La (cs:=(l29 a0 v0_0 v0_1 v0_2 v0_3)) 0 ag29 sz29 Z Z Z) (qM (Iv a1) (hρ 1) ?_)))
 obtain ⟨⟨r22,r23⟩,hr24,h⟩:=bnd h
 refine We (Ca co63 (f_ref15_Broker_ok a0 a1 _ _ _ _ _ h0_0 h0_1 h0_2 h0_3 (r22,r23) hr24) (args2 Z Z)) Z ?_
 rintro _ M25 _ hle26 ⟨_,⟨rfl,rfl⟩,rfl⟩
 refine WL.a0 (qm (.tuple #[(a59_ r22),(Bv r23)]) (qu (a59_ r22) (Xt Z Z) (qu (Bv r23) (Xt Z Z) (We (Al ze59 Z) Z ?_))))
 rintro _ _ _ - ⟨rfl,g29,rfl,rfl⟩
 refine We (Sg (v:=(a59_ r22)) (vl:=(l59 r22)) (arr':=(l59 r22)) Z sz59 Z Z (onb Z) Z Z Z) Z ?_
 rintro _ _ _ - ⟨rfl,rfl⟩
 refine qa (Bv r23) (Nt ?_)
 obtain ⟨x30,hj31,h⟩:=bnd h
 refine Jf (fun(x30:Bool) ρ' M' H'=>M25.le M'∧[(g29, .cells (l59 r22).toArray 59 (0,0))]::[(g21, .cells (l29 a0 v0_0 v0_1 v0_2 v0_3).toArray 29 (0,0))]::F=H'∧ρ' 4=(Bv x30)) x30 ?_ ?_
 have h:=hj31
 refine Cg (qm (Bv r23) (qm (Bv r23) ?_))
 rcases Bi h with⟨hb32,h⟩ |⟨hb32,h⟩
 refine qo 14 hb32 (pt g29 3) (Fa fo59_3 Z Z) (qo 14 hb32 (Bv r22.Fenced) (Lb 0 pl4 Z Z Z) (qo 14 hb32 (Bv (!r22.Fenced)) (PO.not Z) (qu (Bv (!r22.Fenced)) (Pt Z hb32 Z) (qa (Bv (!r22.Fenced)) (Wz ?_)))))
 obtain rfl:=oi h
 exact Tj ⟨lr,Z,Z⟩
 iterate 3 refine Of 14 Z Z hb32 Z ?_
 refine qu (Bv false) (Pf Z hb32 Z) (qa (Bv false) (Wz ?_))
 obtain rfl:=oi h
 exact Tj ⟨lr,Z,Z⟩
 rintro ρ31 M31 H31 ⟨hle31,rfl,hs31_4⟩
 exact Cr (Dr (Dr (Rf h [] Z (Rs Z hs31_4) (hle26.trans hle31) ⟨Z,Z⟩)))

end Go.Proofs.YtpcbipcdfccnnaaGreat.G
