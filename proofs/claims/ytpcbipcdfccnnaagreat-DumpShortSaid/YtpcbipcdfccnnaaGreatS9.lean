/- Go functions: what they come to, and that they do. Printed by a program of the session (gen). -/
import Derived.Test.YtpcbipcdfccnnaaGreatSF
import Derived.Test.YtpcbipcdfccnnaaGreatS6
import Derived.Test.YtpcbipcdfccnnaaGreatS8
import Derived.Test.YtpcbipcdfccnnaaGreatKShar2
import Derived.Test.YtpcbipcdfccnnaaGreatKConv
import Derived.Test.YtpcbipcdfccnnaaGreatKMap
import Derived.Test.YtpcbipcdfccnnaaGreatKShar
import Derived.Test.YtpcbipcdfccnnaaGreatKTight2
set_option linter.unusedVariables false
set_option linter.unusedSimpArgs false
set_option maxHeartbeats 8000000
set_option maxRecDepth 100000
namespace Go.Proofs.YtpcbipcdfccnnaaGreat.G
open Go Go.KK

noncomputable def f_dump_Check_l0 (a0:T_api_Image) (s_:((List ((Int×Int)×Int))×Int)):Option (((List ((Int×Int)×Int))×Int)⊕(Unit⊕GErr)):=
 match s_ with
 |(x51,x52)=>
 (if(decide (x52<(a0.Done.length:Int)))=true then(grd (0≤x52∧x52<a0.Done.length) (((if(decide (((rd a0.Done x52).Client)<(1:Int)))=true then(some true)else(if(decide ((1073741824:Int)<((rd a0.Done x52).Client)))=true then(some true)else(if(decide (((rd a0.Done x52).Serial)<(1:Int)))=true then(some true)else(if(decide ((1073741824:Int)<((rd a0.Done x52).Serial)))=true then(some true)else(if(decide (((rd a0.Done x52).Code)<(0:Int)))=true then(some true)else(if(decide ((21:Int)<((rd a0.Done x52).Code)))=true then(some true)else(some (decide ((1:Int)<(mpGet (mpPut x51 ((rd a0.Done x52).Client,(rd a0.Done x52).Serial) (IntKind.i64.wrap ((mpGet x51 ((rd a0.Done x52).Client,(rd a0.Done x52).Serial))+(1:Int)))) ((rd a0.Done x52).Client,(rd a0.Done x52).Serial))))))))))):Option Bool).bind fun x70=>(if x70=true then((f_fault_New (⟨#[100,111,110,101]⟩:ByteArray) x52 (2:Int)).bind fun r79=>(some (Sum.inr (Sum.inr r79))))else(some (Sum.inl (mpPut x51 ((rd a0.Done x52).Client,(rd a0.Done x52).Serial) (IntKind.i64.wrap ((mpGet x51 ((rd a0.Done x52).Client,(rd a0.Done x52).Serial))+(1:Int))),IntKind.i64.wrap (x52+(1:Int))))))))else(some (Sum.inr (Sum.inl ()))))
noncomputable def f_dump_Check (a0:T_api_Image):Option GErr:=
 ((f_dump_brokers a0).bind fun r22=>(if(!r22.isNil)=true then(some r22)else((f_dump_topics a0).bind fun r28=>(if(!r28.isNil)=true then(some r28)else((f_dump_configs a0).bind fun r34=>(if(!r34.isNil)=true then(some r34)else(if(decide ((64:Int)<(a0.Done.length:Int)))=true then((f_fault_New (⟨#[100,111,110,101]⟩:ByteArray) (a0.Done.length:Int) (6:Int)).bind fun r41=>(some r41))else((((iter (f_dump_Check_l0 a0) (([]:List ((Int×Int)×Int)),(0:Int))).bind (Sum.elim (fun _=>(some (Sum.inl ()))) (fun(x53:GErr)=>(((some x53)).bind fun r=>some (Sum.inr r))))):Option (Unit⊕GErr)).bind (Sum.elim (fun _=>(some GErr.nil)) some)))))))))
def f_dump_Check_post (a0:T_api_Image) (v0_0 v0_1 v0_2 v0_3:Value):GErr→Value→IM→HL→Prop:=
 fun(r0:GErr) (v:Value) (M':IM) (H':HL)=>(GV r0)=v∧H'=[]
theorem f_dump_Check_ok (a0:T_api_Image) (M:IM) (v0_0 v0_1 v0_2 v0_3:Value) (h0_0:RS kd_api_Broker M v0_0 a0.Brokers) (h0_1:RS kd_api_Topic M v0_1 a0.Topics) (h0_2:RS kd_api_Config M v0_2 a0.Configs) (h0_3:RS kd_api_Done M v0_3 a0.Done) (res:GErr) (h:f_dump_Check a0=some res):
 Tri Tryz.prog 14 #[(a29_ a0 v0_0 v0_1 v0_2 v0_3)] M [] (f_dump_Check_post a0 v0_0 v0_1 v0_2 v0_3 res):=by
 unfold f_dump_Check at h
 refine Te Tryz.func14 Z Z ?_
 intro F ρ hρ
 refine Sr (We (EO.box (cs:=(l29 a0 v0_0 v0_1 v0_2 v0_3).toArray) (congrArg Value.cells (asE (a29_ a0 v0_0 v0_1 v0_2 v0_3) (hρ 0)))) Z ?_)
 rintro _ _ _ - ⟨rfl,g21,rfl,rfl⟩
 refine qa (GV GErr.nil) (Nt (Cs (Sr (qu (a29_ a0 v0_0 v0_1 v0_2 v0_3) (La (cs:=(l29 a0 v0_0 v0_1 v0_2 v0_3)) 0 ag29 sz29 Z Z Z) ?_))))
 obtain ⟨r22,hr23,h⟩:=bnd h
 refine We (Ca co49 (f_dump_brokers_ok a0 _ _ _ _ _ h0_0 h0_1 h0_2 h0_3 r22 hr23) (args1 Z)) Z ?_
 rintro _ M24 _ hle25 ⟨_,⟨rfl,rfl⟩,rfl⟩
 refine WL.a0 (qa (GV r22) (Ns (qm (GV r22) (qu (Bv (!r22.isNil)) (PO.errNotNil Tryz.underlying33 Z) (Nt (Ch h Z (fun hb27 h=> ?_) (fun hb27 h=> ?_)))))))
 exact Sr (qm (GV r22) (qa (GV r22) (Nt (Cr (Tr (Dr (Rf h [] Z (Rs Z Z) hle25 ⟨Z,Z⟩)))))))
 refine Ck (Tc (Cs (Sr (qu (a29_ a0 v0_0 v0_1 v0_2 v0_3) (La (cs:=(l29 a0 v0_0 v0_1 v0_2 v0_3)) 0 ag29 sz29 Z Z Z) ?_))))
 obtain ⟨r28,hr29,h⟩:=bnd h
 have h0_0:=h0_0.mono hle25
 have h0_1:=h0_1.mono hle25
 have h0_2:=h0_2.mono hle25
 have h0_3:=h0_3.mono hle25
 refine We (Ca co50 (f_dump_topics_ok a0 _ _ _ _ _ h0_0 h0_1 h0_2 h0_3 r28 hr29) (args1 Z)) Z ?_
 rintro _ M30 _ hle31 ⟨_,⟨rfl,rfl⟩,rfl⟩
 refine WL.a0 (qa (GV r28) (Ns (qm (GV r28) (qu (Bv (!r28.isNil)) (PO.errNotNil Tryz.underlying33 Z) (Nt (Ch h Z (fun hb33 h=> ?_) (fun hb33 h=> ?_)))))))
 exact Sr (qm (GV r28) (qa (GV r28) (Nt (Cr (Tr (Dr (Rf h [] Z (Rs Z Z) (hle25.trans hle31) ⟨Z,Z⟩)))))))
 refine Ck (Tc (Cs (Sr (qu (a29_ a0 v0_0 v0_1 v0_2 v0_3) (La (cs:=(l29 a0 v0_0 v0_1 v0_2 v0_3)) 0 ag29 sz29 Z Z Z) ?_))))
 obtain ⟨r34,hr35,h⟩:=bnd h
 have h0_0:=h0_0.mono hle31
 have h0_1:=h0_1.mono hle31
 have h0_2:=h0_2.mono hle31
 have h0_3:=h0_3.mono hle31
 refine We (Ca co51 (f_dump_configs_ok a0 _ _ _ _ _ h0_0 h0_1 h0_2 h0_3 r34 hr35) (args1 Z)) Z ?_
 rintro _ M36 _ hle37 ⟨_,⟨rfl,rfl⟩,rfl⟩
 have L37:=(hle25.trans hle31).trans hle37
 refine WL.a0 (qa (GV r34) (Ns (qm (GV r34) (qu (Bv (!r34.isNil)) (PO.errNotNil Tryz.underlying33 Z) (Nt (Ch h Z (fun hb39 h=> ?_) (fun hb39 h=> ?_)))))))
 exact Sr (qm (GV r34) (qa (GV r34) (Nt (Cr (Tr (Dr (Rf h [] Z (Rs Z Z) L37 ⟨Z,Z⟩)))))))
 refine Ck (Tc (Cs (Sr (qu (pt g21 3) (Fa fo29_3 Z Z) (qu v0_3 (Lb 0 pl27 Z Z Z) ?_)))))
 have h0_3:=h0_3.mono hle37
 refine qu (Iv (a0.Done.length:Int)) (PO.lenS Tryz.underlying27 Z h0_3.len) (qu (Bv (decide ((64:Int)<(a0.Done.length:Int)))) (PO.gtr Z Z) (Nt (Ch h Z (fun hb40 h=> ?_) (fun hb40 h=> ?_))))
 refine Sr (qu (pt g21 3) (Fa fo29_3 Z Z) (qu v0_3 (Lb 0 pl27 Z Z Z) (qu (Iv (a0.Done.length:Int)) (PO.lenS Tryz.underlying27 Z h0_3.len) ?_)))
 obtain ⟨r41,hr42,h⟩:=bnd h
 refine We (Ca co52 (f_fault_New_ok ⟨#[100,111,110,101]⟩ (a0.Done.length:Int) (6:Int) _ r41 hr42) (args3 Z Z Z)) Z ?_
 rintro _ M43 _ hle44 ⟨_,⟨rfl,rfl⟩,rfl⟩
 exact WL.a0 (qa (GV r41) (Nt (Cr (Tr (Dr (Rf h [] Z (Rs Z Z) (L37.trans hle44) ⟨Z,Z⟩))))))
 refine Ck (Tc (Sr (We (EO.makeMap maV) Z ?_)))
 rintro v48 _ _ - ⟨rfl,c46,rfl,h47⟩
 refine qa v48 (Nt ?_)
 obtain ⟨j49,hj49,h⟩:=bnd h
 refine WC.joinE (fun(_:Unit) ρ' M' H'=>M36.le M'∧[(g21, .cells (l29 a0 v0_0 v0_1 v0_2 v0_3).toArray 29 (0,0))]::F=H') j49 ?_ ?_
 have h349:=h
 have h:=hj49
 refine Sr (qu (pt g21 3) (Fa fo29_3 Z Z) (qu v0_3 (Lb 1 pl27 Z Z Z) (qu (Iv (a0.Done.length:Int)) (PO.lenS Tryz.underlying27 Z h0_3.len) (qm (Iv 0) (Nt (Bk (WC.f1 ?_)))))))
 obtain ⟨e50,he50,hK50⟩:=bnd h
 clear h
 refine WC.loop he50 (fun(p_:((List ((Int×Int)×Int))×Int)) ρ' M' H'=>match p_ with |(x51,x52)=>∃ vx51 cx51,M36.le M'∧[(g21, .cells (l29 a0 v0_0 v0_1 v0_2 v0_3).toArray 29 (0,0))]::cx51::F=H'∧ρ' 6=vx51∧ρ' 35=v0_3∧ρ' 36=(Iv (a0.Done.length:Int))∧ρ' 37=(Iv x52)∧OwnMp maV M' vx51 x51 cx51) ?_ ?_
 exact⟨v48,c46,lr,Z,Z,Z,Z,Z,h47⟩
 rintro ⟨x51,x52⟩ o50 ρ50 M50 H50 h ⟨vx51,cx51,hle50,rfl,hs50_6,hs50_35,hs50_36,hs50_37,hx51⟩
 unfold f_dump_Check_l0 at h
 refine Sr (qu (Bv (decide (x52<(a0.Done.length:Int)))) (PO.lss hs50_37 hs50_36) (Nt (Cs (Ch h Z (fun hb54 h=> ?_) (fun hb54 h=> ?_)))))
 refine Ck (Tc (Cs (Bk (Sr (qM (Iv x52) hs50_37 ?_)))))
 obtain ⟨hg55,h⟩:=grd_i h
 have h0_3:=h0_3.mono hle50
 obtain ⟨p56,cs57,hat58,hrc59,hhas60⟩:=h0_3.at hg55.1 hg55.2 (by decide)
 obtain rfl:=kd_api_Done_open hrc59
 refine qu (.pointer (some p56)) (PO.indexAddr (n:=a0.Done.length) Tryz.underlying27 sz66 hs50_35 hs50_37 hg55.1 hg55.2 hat58) (qu (a66_ (rd a0.Done x52)) (PO.loadMA (cs:=(l66 (rd a0.Done x52))) ag66 sz66 Z hhas60) (We (Al ze66 Z) Z ?_))
 rintro _ _ _ - ⟨rfl,g62,rfl,rfl⟩
 refine qa (Iv x52) (We (Sg (v:=(a66_ (rd a0.Done x52))) (vl:=(l66 (rd a0.Done x52))) (arr':=(l66 (rd a0.Done x52))) Z sz66 Z Z (onb Z) Z Z Z) Z ?_)
 rintro _ _ _ - ⟨rfl,rfl⟩
 refine Ns (qu (pt g62 0) (Fa fo66_0 Z Z) (qu (Iv ((rd a0.Done x52).Client)) (Lb 0 pl3 Z Z Z) (qu (pt g62 1) (Fa fo66_1 Z Z) (qu (Iv ((rd a0.Done x52).Serial)) (Lb 0 pl3 Z Z Z) (qu (.agg #[(Iv ((rd a0.Done x52).Client)),(Iv ((rd a0.Done x52).Serial))]) (PO.buildAL (cl:=[(Iv ((rd a0.Done x52).Client)),(Iv ((rd a0.Done x52).Serial))]) ze95 Tryz.underlying95 sz3 (Pc (Iv ((rd a0.Done x52).Client)) Z Z (Pc (Iv ((rd a0.Done x52).Serial)) Z Z Pz)) Z) (We (Al ze95 Z) Z ?_))))))
 rintro _ _ _ - ⟨rfl,g63,rfl,rfl⟩
 refine We (Sg (v:=(.agg #[(Iv ((rd a0.Done x52).Client)),(Iv ((rd a0.Done x52).Serial))])) (vl:=[(Iv ((rd a0.Done x52).Client)),(Iv ((rd a0.Done x52).Serial))]) (arr':=[(Iv ((rd a0.Done x52).Client)),(Iv ((rd a0.Done x52).Serial))]) Z sz95 Z Z (onb Z) Z Z Z) Z ?_
 rintro _ _ _ - ⟨rfl,rfl⟩
 refine Nt (Cs (WC.draw [0,0,3,7,3,19,63] (.pure 0 (.pure 1 (.pure 2 (.pure 3 (.alt 4 (.pure 5 (.alt 6 .done .none)) .none))))) mixed (by kernel_rfl) (qt vx51 Z (Mv hs50_6) (qt (.agg #[(Iv ((rd a0.Done x52).Client)),(Iv ((rd a0.Done x52).Serial))]) Z (La (cs:=[(Iv ((rd a0.Done x52).Client)),(Iv ((rd a0.Done x52).Serial))]) 0 ag95 sz95 Z Z Z) (qt (Iv (mpGet x51 ((rd a0.Done x52).Client,(rd a0.Done x52).Serial))) Z (PO.lookup (val:=maV) (k:=((rd a0.Done x52).Client,(rd a0.Done x52).Serial)) 3 Tryz.underlying94 (MKey.arr Tryz.underlying95 Tryz.underlying3 pl3 sz3) ze3 Z Z Z hx51) (qt (Iv (IntKind.i64.wrap ((mpGet x51 ((rd a0.Done x52).Client,(rd a0.Done x52).Serial))+1))) Z (PO.add Z Z) (WT.f3 (Ta Z (EO.mapEntry (val:=maV) (k:=((rd a0.Done x52).Client,(rd a0.Done x52).Serial)) Tryz.underlying94 (MKey.arr Tryz.underlying95 Tryz.underlying3 pl3 sz3) ze3 Z Z hx51) Z ?_ ?_))))))))
 rintro _ _ _ - ⟨rfl,e66,c64,rfl,rfl,h65,h67⟩
 refine⟨(Ss Z (PO.add Z Z) Z (Ss Z (PO.lookup (val:=maV) (k:=((rd a0.Done x52).Client,(rd a0.Done x52).Serial)) 0 Tryz.underlying94 (MKey.arr Tryz.underlying95 Tryz.underlying3 pl3 sz3) ze3 Z Z Z h65) Z (Sl Z))), ?_⟩
 refine qt (Iv e66) Z (Xt Z Z) (Ta Z (EO.entryStore (val:=maV) (k:=((rd a0.Done x52).Client,(rd a0.Done x52).Serial)) Z Z Z h67) Z ?_ ?_)
 rintro _ _ _ - ⟨rfl,c68,rfl,h69⟩
 refine⟨(Sl Z), ?_⟩
 refine Ti (Tc ?_)
 obtain ⟨x70,hj71,h⟩:=bnd h
 refine Jf (fun(x70:Bool) ρ' M' H'=>M50.le M'∧[(g63, .cells #[(Iv ((rd a0.Done x52).Client)),(Iv ((rd a0.Done x52).Serial))] 95 (0,0))]::[(g62, .cells (l66 (rd a0.Done x52)).toArray 66 (0,0))]::[(g21, .cells (l29 a0 v0_0 v0_1 v0_2 v0_3).toArray 29 (0,0))]::c68::F=H'∧ρ' 6=vx51∧ρ' 7=(Iv x52)∧ρ' 35=v0_3∧ρ' 36=(Iv (a0.Done.length:Int))∧ρ' 37=(Iv x52)∧ρ' 86=(Bv x70)) x70 ?_ ?_
 have h:=hj71
 refine Cg (qu (pt g62 0) (Fa fo66_0 Z Z) (qu (Iv ((rd a0.Done x52).Client)) (Lb 2 pl3 Z Z Z) (qu (Bv (decide (((rd a0.Done x52).Client)<1))) (PO.lss Z Z) (qm (Bv (decide (((rd a0.Done x52).Client)<1))) ?_))))
 rcases Bi h with⟨hb72,h⟩ |⟨hb72,h⟩
 iterate 3 refine Of 56 Z Z hb72 Z ?_
 refine qu (Bv true) (Pt Z hb72 Z) (qm (Bv true) ?_)
 iterate 3 refine Of 61 Z Z Z Z ?_
 refine qu (Bv true) (Pt Z Z Z) (qm (Bv true) ?_)
 iterate 3 refine Of 66 Z Z Z Z ?_
 refine qu (Bv true) (Pt Z Z Z) (qm (Bv true) ?_)
 iterate 3 refine Of 71 Z Z Z Z ?_
 refine qu (Bv true) (Pt Z Z Z) (qm (Bv true) ?_)
 iterate 3 refine Of 76 Z Z Z Z ?_
 refine qu (Bv true) (Pt Z Z Z) (qm (Bv true) ?_)
 iterate 4 refine Of 81 Z Z Z Z ?_
 refine qu (Bv true) (Pt Z Z Z) (Wz (WQ.f3 (WQ.f3 (WQ.f3 ?_))))
 obtain rfl:=oi h
 exact Tj ⟨lr,Z,hs50_6,Z,hs50_35,hs50_36,hs50_37,Z⟩
 refine qo 56 hb72 (pt g62 0) (Fa fo66_0 Z Z) (qo 56 hb72 (Iv ((rd a0.Done x52).Client)) (Lb 2 pl3 Z Z Z) (qo 56 hb72 (Bv (decide ((1073741824:Int)<((rd a0.Done x52).Client)))) (PO.gtr Z Z) (qu (Bv (decide ((1073741824:Int)<((rd a0.Done x52).Client)))) (Pf Z hb72 Z) (qm (Bv (decide ((1073741824:Int)<((rd a0.Done x52).Client)))) ?_))))
 rcases Bi h with⟨hb73,h⟩ |⟨hb73,h⟩
 iterate 3 refine Of 61 Z Z hb73 Z ?_
 refine qu (Bv true) (Pt Z hb73 Z) (qm (Bv true) ?_)
 iterate 3 refine Of 66 Z Z Z Z ?_
 refine qu (Bv true) (Pt Z Z Z) (qm (Bv true) ?_)
 iterate 3 refine Of 71 Z Z Z Z ?_
 refine qu (Bv true) (Pt Z Z Z) (qm (Bv true) ?_)
 iterate 3 refine Of 76 Z Z Z Z ?_
 refine qu (Bv true) (Pt Z Z Z) (qm (Bv true) ?_)
 iterate 4 refine Of 81 Z Z Z Z ?_
 refine qu (Bv true) (Pt Z Z Z) (Wz (WQ.f3 (WQ.f3 (WQ.f3 ?_))))
 obtain rfl:=oi h
 exact Tj ⟨lr,Z,hs50_6,Z,hs50_35,hs50_36,hs50_37,Z⟩
 refine qo 61 hb73 (pt g62 1) (Fa fo66_1 Z Z) (qo 61 hb73 (Iv ((rd a0.Done x52).Serial)) (Lb 2 pl3 Z Z Z) (qo 61 hb73 (Bv (decide (((rd a0.Done x52).Serial)<1))) (PO.lss Z Z) (qu (Bv (decide (((rd a0.Done x52).Serial)<1))) (Pf Z hb73 Z) (qm (Bv (decide (((rd a0.Done x52).Serial)<1))) ?_))))
 rcases Bi h with⟨hb74,h⟩ |⟨hb74,h⟩
 iterate 3 refine Of 66 Z Z hb74 Z ?_
 refine qu (Bv true) (Pt Z hb74 Z) (qm (Bv true) ?_)
 iterate 3 refine Of 71 Z Z Z Z ?_
 refine qu (Bv true) (Pt Z Z Z) (qm (Bv true) ?_)
 iterate 3 refine Of 76 Z Z Z Z ?_
 refine qu (Bv true) (Pt Z Z Z) (qm (Bv true) ?_)
 iterate 4 refine Of 81 Z Z Z Z ?_
 refine qu (Bv true) (Pt Z Z Z) (Wz (WQ.f3 (WQ.f3 (WQ.f3 ?_))))
 obtain rfl:=oi h
 exact Tj ⟨lr,Z,hs50_6,Z,hs50_35,hs50_36,hs50_37,Z⟩
 refine qo 66 hb74 (pt g62 1) (Fa fo66_1 Z Z) (qo 66 hb74 (Iv ((rd a0.Done x52).Serial)) (Lb 2 pl3 Z Z Z) (qo 66 hb74 (Bv (decide ((1073741824:Int)<((rd a0.Done x52).Serial)))) (PO.gtr Z Z) (qu (Bv (decide ((1073741824:Int)<((rd a0.Done x52).Serial)))) (Pf Z hb74 Z) (qm (Bv (decide ((1073741824:Int)<((rd a0.Done x52).Serial)))) ?_))))
 rcases Bi h with⟨hb75,h⟩ |⟨hb75,h⟩
 iterate 3 refine Of 71 Z Z hb75 Z ?_
 refine qu (Bv true) (Pt Z hb75 Z) (qm (Bv true) ?_)
 iterate 3 refine Of 76 Z Z Z Z ?_
 refine qu (Bv true) (Pt Z Z Z) (qm (Bv true) ?_)
 iterate 4 refine Of 81 Z Z Z Z ?_
 refine qu (Bv true) (Pt Z Z Z) (Wz (WQ.f3 (WQ.f3 (WQ.f3 ?_))))
 obtain rfl:=oi h
 exact Tj ⟨lr,Z,hs50_6,Z,hs50_35,hs50_36,hs50_37,Z⟩
 refine qo 71 hb75 (pt g62 2) (Fa fo66_2 Z Z) (qo 71 hb75 (Iv ((rd a0.Done x52).Code)) (Lb 2 pl3 Z Z Z) (qo 71 hb75 (Bv (decide (((rd a0.Done x52).Code)<0))) (PO.lss Z Z) (qu (Bv (decide (((rd a0.Done x52).Code)<0))) (Pf Z hb75 Z) (qm (Bv (decide (((rd a0.Done x52).Code)<0))) ?_))))
 rcases Bi h with⟨hb76,h⟩ |⟨hb76,h⟩
 iterate 3 refine Of 76 Z Z hb76 Z ?_
 refine qu (Bv true) (Pt Z hb76 Z) (qm (Bv true) ?_)
 iterate 4 refine Of 81 Z Z Z Z ?_
 refine qu (Bv true) (Pt Z Z Z) (Wz (WQ.f3 (WQ.f3 (WQ.f3 ?_))))
 obtain rfl:=oi h
 exact Tj ⟨lr,Z,hs50_6,Z,hs50_35,hs50_36,hs50_37,Z⟩
 refine qo 76 hb76 (pt g62 2) (Fa fo66_2 Z Z) (qo 76 hb76 (Iv ((rd a0.Done x52).Code)) (Lb 2 pl3 Z Z Z) (qo 76 hb76 (Bv (decide ((21:Int)<((rd a0.Done x52).Code)))) (PO.gtr Z Z) (qu (Bv (decide ((21:Int)<((rd a0.Done x52).Code)))) (Pf Z hb76 Z) (qm (Bv (decide ((21:Int)<((rd a0.Done x52).Code)))) ?_))))
 rcases Bi h with⟨hb77,h⟩ |⟨hb77,h⟩
 iterate 4 refine Of 81 Z Z hb77 Z ?_
 refine qu (Bv true) (Pt Z hb77 Z) (Wz (WQ.f3 (WQ.f3 (WQ.f3 ?_))))
 obtain rfl:=oi h
 exact Tj ⟨lr,Z,hs50_6,Z,hs50_35,hs50_36,hs50_37,Z⟩
 refine On 81 Z Z hb77 (qM vx51 hs50_6 (qo 81 hb77 (.agg #[(Iv ((rd a0.Done x52).Client)),(Iv ((rd a0.Done x52).Serial))]) (La (cs:=[(Iv ((rd a0.Done x52).Client)),(Iv ((rd a0.Done x52).Serial))]) 1 ag95 sz95 Z Z Z) (qo 81 hb77 (Iv (mpGet (mpPut x51 ((rd a0.Done x52).Client,(rd a0.Done x52).Serial) (IntKind.i64.wrap ((mpGet x51 ((rd a0.Done x52).Client,(rd a0.Done x52).Serial))+1))) ((rd a0.Done x52).Client,(rd a0.Done x52).Serial))) (PO.lookup (val:=maV) (k:=((rd a0.Done x52).Client,(rd a0.Done x52).Serial)) 0 Tryz.underlying94 (MKey.arr Tryz.underlying95 Tryz.underlying3 pl3 sz3) ze3 Z Z Z h69) (qo 81 hb77 (Bv (decide ((1:Int)<(mpGet (mpPut x51 ((rd a0.Done x52).Client,(rd a0.Done x52).Serial) (IntKind.i64.wrap ((mpGet x51 ((rd a0.Done x52).Client,(rd a0.Done x52).Serial))+1))) ((rd a0.Done x52).Client,(rd a0.Done x52).Serial))))) (PO.gtr Z Z) (qu (Bv (decide ((1:Int)<(mpGet (mpPut x51 ((rd a0.Done x52).Client,(rd a0.Done x52).Serial) (IntKind.i64.wrap ((mpGet x51 ((rd a0.Done x52).Client,(rd a0.Done x52).Serial))+1))) ((rd a0.Done x52).Client,(rd a0.Done x52).Serial))))) (Pf Z hb77 Z) (Wz (WQ.f3 (WQ.f3 (WQ.f3 ?_)))))))))
 obtain rfl:=oi h
 exact Tj ⟨lr,Z,hs50_6,Z,hs50_35,hs50_36,hs50_37,Z⟩
 rintro ρ71 M71 H71 ⟨hle71,rfl,hs71_6,hs71_7,hs71_35,hs71_36,hs71_37,hs71_86⟩
 refine Ch h hs71_86 (fun hb78 h=> ?_) (fun hb78 h=> ?_)
 refine Sr (qM (Iv x52) hs71_7 ?_)
 obtain ⟨r79,hr80,h⟩:=bnd h
 refine We (Ca co52 (f_fault_New_ok ⟨#[100,111,110,101]⟩ x52 (2:Int) _ r79 hr80) (args3 Z Z Z)) Z ?_
 rintro _ M81 _ hle82 ⟨_,⟨rfl,rfl⟩,rfl⟩
 refine WL.a0 (qa (GV r79) (Nt (Cr (Br (Tr (WQ.leaveR (Sum.inr r79) (oi h).symm (fun heq50=> ?_)))))))
 subst heq50
 have h:=(elimR hK50)
 refine Br (Tr ?_)
 have h:=KK.early h h349
 exact Dr (Dr (Dr (Dr (Rf h [] Z (Rs Z Z) (((L37.trans hle50).trans hle71).trans hle82) ⟨Z,Z⟩))))
 refine Ck (Bn (Tc (Cg (qu (Iv (IntKind.i64.wrap (x52+1))) (PO.add hs71_37 Z) (qm (Iv (IntKind.i64.wrap (x52+1))) (Wz (Dr (Dr (WQ.again (mpPut x51 ((rd a0.Done x52).Client,(rd a0.Done x52).Serial) (IntKind.i64.wrap ((mpGet x51 ((rd a0.Done x52).Client,(rd a0.Done x52).Serial))+1)),IntKind.i64.wrap (x52+1)) (oi h).symm ?_)))))))))
 have h69:=h69.mono hle71
 exact⟨vx51,c68,(hle50.trans hle71),Z,hs71_6,hs71_35,hs71_36,Z,h69⟩
 exact Tz
 exact Tz
 refine WC.exit (WQ.thenE (WQ.leaveE (Sum.inl ()) (oi h).symm (fun heq50=> ?_)))
 subst heq50
 have h:=elimL hK50
 exact WQ.blockH (Qa (Dr (WQ.thenFE h ⟨hle50,Z⟩)))
 rintro _ ρ49 M49 H49 rfl ⟨hle49,rfl⟩
 have h:=(Sum.elim_inl _ _ _).symm.trans h
 exact Sr (qa (GV GErr.nil) (Nt (Cr (Dr (Rf h [] Z (Rs Z Z) (L37.trans hle49) ⟨Z,Z⟩)))))
noncomputable def f_wire_Num (a0:(List Int)) (a1:Int):Option (List Int):=
 (if(decide ((if(4611686018427387903:Int)<a1 then(4611686018427387903:Int)else a1)<(64:Int)))=true then(grd (a0.length+[IntKind.u8.wrap (if(4611686018427387903:Int)<a1 then(4611686018427387903:Int)else a1)].length≤274877906944) (some (a0++[IntKind.u8.wrap (if(4611686018427387903:Int)<a1 then(4611686018427387903:Int)else a1)])))else(if(decide ((if(4611686018427387903:Int)<a1 then(4611686018427387903:Int)else a1)<(16384:Int)))=true then(grd (a0.length+[orI .u8 (64:Int) (IntKind.u8.wrap (shrI .u64 (if(4611686018427387903:Int)<a1 then(4611686018427387903:Int)else a1) (8:Int))),IntKind.u8.wrap (if(4611686018427387903:Int)<a1 then(4611686018427387903:Int)else a1)].length≤274877906944) (some (a0++[orI .u8 (64:Int) (IntKind.u8.wrap (shrI .u64 (if(4611686018427387903:Int)<a1 then(4611686018427387903:Int)else a1) (8:Int))),IntKind.u8.wrap (if(4611686018427387903:Int)<a1 then(4611686018427387903:Int)else a1)])))else(if(decide ((if(4611686018427387903:Int)<a1 then(4611686018427387903:Int)else a1)<(1073741824:Int)))=true then(grd (a0.length+[orI .u8 (128:Int) (IntKind.u8.wrap (shrI .u64 (if(4611686018427387903:Int)<a1 then(4611686018427387903:Int)else a1) (24:Int))),IntKind.u8.wrap (shrI .u64 (if(4611686018427387903:Int)<a1 then(4611686018427387903:Int)else a1) (16:Int)),IntKind.u8.wrap (shrI .u64 (if(4611686018427387903:Int)<a1 then(4611686018427387903:Int)else a1) (8:Int)),IntKind.u8.wrap (if(4611686018427387903:Int)<a1 then(4611686018427387903:Int)else a1)].length≤274877906944) (some (a0++[orI .u8 (128:Int) (IntKind.u8.wrap (shrI .u64 (if(4611686018427387903:Int)<a1 then(4611686018427387903:Int)else a1) (24:Int))),IntKind.u8.wrap (shrI .u64 (if(4611686018427387903:Int)<a1 then(4611686018427387903:Int)else a1) (16:Int)),IntKind.u8.wrap (shrI .u64 (if(4611686018427387903:Int)<a1 then(4611686018427387903:Int)else a1) (8:Int)),IntKind.u8.wrap (if(4611686018427387903:Int)<a1 then(4611686018427387903:Int)else a1)])))else(grd (a0.length+[orI .u8 (192:Int) (IntKind.u8.wrap (shrI .u64 (if(4611686018427387903:Int)<a1 then(4611686018427387903:Int)else a1) (56:Int))),IntKind.u8.wrap (shrI .u64 (if(4611686018427387903:Int)<a1 then(4611686018427387903:Int)else a1) (48:Int)),IntKind.u8.wrap (shrI .u64 (if(4611686018427387903:Int)<a1 then(4611686018427387903:Int)else a1) (40:Int)),IntKind.u8.wrap (shrI .u64 (if(4611686018427387903:Int)<a1 then(4611686018427387903:Int)else a1) (32:Int)),IntKind.u8.wrap (shrI .u64 (if(4611686018427387903:Int)<a1 then(4611686018427387903:Int)else a1) (24:Int)),IntKind.u8.wrap (shrI .u64 (if(4611686018427387903:Int)<a1 then(4611686018427387903:Int)else a1) (16:Int)),IntKind.u8.wrap (shrI .u64 (if(4611686018427387903:Int)<a1 then(4611686018427387903:Int)else a1) (8:Int)),IntKind.u8.wrap (if(4611686018427387903:Int)<a1 then(4611686018427387903:Int)else a1)].length≤274877906944) (some (a0++[orI .u8 (192:Int) (IntKind.u8.wrap (shrI .u64 (if(4611686018427387903:Int)<a1 then(4611686018427387903:Int)else a1) (56:Int))),IntKind.u8.wrap (shrI .u64 (if(4611686018427387903:Int)<a1 then(4611686018427387903:Int)else a1) (48:Int)),IntKind.u8.wrap (shrI .u64 (if(4611686018427387903:Int)<a1 then(4611686018427387903:Int)else a1) (40:Int)),IntKind.u8.wrap (shrI .u64 (if(4611686018427387903:Int)<a1 then(4611686018427387903:Int)else a1) (32:Int)),IntKind.u8.wrap (shrI .u64 (if(4611686018427387903:Int)<a1 then(4611686018427387903:Int)else a1) (24:Int)),IntKind.u8.wrap (shrI .u64 (if(4611686018427387903:Int)<a1 then(4611686018427387903:Int)else a1) (16:Int)),IntKind.u8.wrap (shrI .u64 (if(4611686018427387903:Int)<a1 then(4611686018427387903:Int)else a1) (8:Int)),IntKind.u8.wrap (if(4611686018427387903:Int)<a1 then(4611686018427387903:Int)else a1)]))))))
def f_wire_Num_post (a0:(List Int)) (a1:Int) (v0:Value):(List Int)→Value→IM→HL→Prop:=
 fun(r0:(List Int)) (v:Value) (M':IM) (H':HL)=>∃ vz0 cz0,vz0=v∧H'=[cz0]∧OwnS (Kd.int .u8) M' vz0 r0 cz0
theorem f_wire_Num_ok (a0:(List Int)) (a1:Int) (M:IM) (v0:Value) (c0:Chunk) (h0:OwnS (Kd.int .u8) M v0 a0 c0) (res:(List Int)) (h:f_wire_Num a0 a1=some res):
 Tri Tryz.prog 53 #[v0,(Uv a1)] M [c0] (f_wire_Num_post a0 a1 v0 res):=by
 unfold f_wire_Num at h
 refine Te Tryz.func53 Z Z ?_
 intro F ρ hρ
 refine Sr (qa Zs (Ns (qM (Uv a1) (hρ 1) (qu (Uv (mn 4611686018427387903 a1)) (PO.min Z Z) (qa (Uv (mn 4611686018427387903 a1)) (Nt (Cs (Bk (Sr (qm (Uv (mn 4611686018427387903 a1)) (qu (Bv (decide ((mn 4611686018427387903 a1)<64))) (PO.lss Z Z) ?_)))))))))))
 refine qa (Bv (decide ((mn 4611686018427387903 a1)<64))) (Nt (Ch h Z (fun hb21 h=> ?_) (fun hb21 h=> ?_)))
 refine Sr (qM v0 (hρ 0) (qm (Uv (mn 4611686018427387903 a1)) (qu (Yv (IntKind.u8.wrap (mn 4611686018427387903 a1))) (PO.conv us97 Tryz.underlying5 Z) (We (EO.buildSliceL (cl:=[(Yv (IntKind.u8.wrap (mn 4611686018427387903 a1)))]) Tryz.underlying31 iz5 Z (Pc (Yv (IntKind.u8.wrap (mn 4611686018427387903 a1))) Z Z Pz) Z) Z ?_))))
 rintro _ _ _ - ⟨rfl,g22,rfl,rfl⟩
 have h24:OwnS (Kd.int .u8) M (.slice (some ⟨g22,0,none⟩) 1 1) [IntKind.u8.wrap (mn 4611686018427387903 a1)] [(g22, .cells #[(Yv (IntKind.u8.wrap (mn 4611686018427387903 a1)))] 5 (0,0))]:=OwnS.rows (css:=[[(Yv (IntKind.u8.wrap (mn 4611686018427387903 a1)))]]) (Rows.cons Z Rows.nil) Z Z
 obtain ⟨hg28,h⟩:=grd_i h
 refine WL.f1 (We (EO.append (dd:=(Kd.int .u8)) (xs:=a0) (ys:=[IntKind.u8.wrap (mn 4611686018427387903 a1)]) Tryz.underlying31 Tryz.underlying31 in5 Z (appB (by decide) hg28) (by decide) Z Z h0 (h24.src 1 Z)) Z ?_)
 rintro v27 _ _ - ⟨rfl,c25,rfl,h26⟩
 exact qa v27 (Nt (Cr (Br (Tr (Qa (Dr (Rf h [c25] Z (Rs Z Z) lr ⟨v27,c25,Z,Z,h26⟩)))))))
 refine Sr (qm (Uv (mn 4611686018427387903 a1)) (qu (Bv (decide ((mn 4611686018427387903 a1)<16384))) (PO.lss Z Z) (qa (Bv (decide ((mn 4611686018427387903 a1)<16384))) (Nt (Ch h Z (fun hb29 h=> ?_) (fun hb29 h=> ?_))))))
 refine Sr (qM v0 (hρ 0) (qm (Uv (mn 4611686018427387903 a1)) (qu (Uv (shrI .u64 (mn 4611686018427387903 a1) (8:Int))) (PO.shr Z Z (by decide)) (qu (Yv (IntKind.u8.wrap (shrI .u64 (mn 4611686018427387903 a1) (8:Int)))) (PO.conv us97 Tryz.underlying5 Z) (qu (Yv (orI .u8 64 (IntKind.u8.wrap (shrI .u64 (mn 4611686018427387903 a1) (8:Int))))) (PO.or Z Z) (qm (Uv (mn 4611686018427387903 a1)) (qu (Yv (IntKind.u8.wrap (mn 4611686018427387903 a1))) (PO.conv us97 Tryz.underlying5 Z) (We (EO.buildSliceL (cl:=[(Yv (orI .u8 64 (IntKind.u8.wrap (shrI .u64 (mn 4611686018427387903 a1) (8:Int))))),(Yv (IntKind.u8.wrap (mn 4611686018427387903 a1)))]) Tryz.underlying31 iz5 Z (Pc (Yv (orI .u8 64 (IntKind.u8.wrap (shrI .u64 (mn 4611686018427387903 a1) (8:Int))))) Z Z (Pc (Yv (IntKind.u8.wrap (mn 4611686018427387903 a1))) Z Z Pz)) Z) Z ?_))))))))
 rintro _ _ _ - ⟨rfl,g30,rfl,rfl⟩
 have h32:OwnS (Kd.int .u8) M (.slice (some ⟨g30,0,none⟩) 2 2) [orI .u8 64 (IntKind.u8.wrap (shrI .u64 (mn 4611686018427387903 a1) (8:Int))),IntKind.u8.wrap (mn 4611686018427387903 a1)] [(g30, .cells #[(Yv (orI .u8 64 (IntKind.u8.wrap (shrI .u64 (mn 4611686018427387903 a1) (8:Int))))),(Yv (IntKind.u8.wrap (mn 4611686018427387903 a1)))] 5 (0,0))]:=OwnS.rows (css:=[[(Yv (orI .u8 64 (IntKind.u8.wrap (shrI .u64 (mn 4611686018427387903 a1) (8:Int)))))],[(Yv (IntKind.u8.wrap (mn 4611686018427387903 a1)))]]) (Rows.cons Z (Rows.cons Z Rows.nil)) Z Z
 obtain ⟨hg36,h⟩:=grd_i h
 refine WL.f1 (We (EO.append (dd:=(Kd.int .u8)) (xs:=a0) (ys:=[orI .u8 64 (IntKind.u8.wrap (shrI .u64 (mn 4611686018427387903 a1) (8:Int))),IntKind.u8.wrap (mn 4611686018427387903 a1)]) Tryz.underlying31 Tryz.underlying31 in5 Z (appB (by decide) hg36) (by decide) Z Z h0 (h32.src 1 Z)) Z ?_)
 rintro v35 _ _ - ⟨rfl,c33,rfl,h34⟩
 exact qa v35 (Nt (Cr (Br (Tr (Qa (Dr (Rf h [c33] Z (Rs Z Z) lr ⟨v35,c33,Z,Z,h34⟩)))))))
 refine Sr (qm (Uv (mn 4611686018427387903 a1)) (qu (Bv (decide ((mn 4611686018427387903 a1)<1073741824))) (PO.lss Z Z) (qa (Bv (decide ((mn 4611686018427387903 a1)<1073741824))) (Nt (Ch h Z (fun hb37 h=> ?_) (fun hb37 h=> ?_))))))
 refine Sr (qM v0 (hρ 0) (qm (Uv (mn 4611686018427387903 a1)) (qu (Uv (shrI .u64 (mn 4611686018427387903 a1) (24:Int))) (PO.shr Z Z (by decide)) (qu (Yv (IntKind.u8.wrap (shrI .u64 (mn 4611686018427387903 a1) (24:Int)))) (PO.conv us97 Tryz.underlying5 Z) (qu (Yv (orI .u8 128 (IntKind.u8.wrap (shrI .u64 (mn 4611686018427387903 a1) (24:Int))))) (PO.or Z Z) (qm (Uv (mn 4611686018427387903 a1)) (qu (Uv (shrI .u64 (mn 4611686018427387903 a1) (16:Int))) (PO.shr Z Z (by decide)) (qu (Yv (IntKind.u8.wrap (shrI .u64 (mn 4611686018427387903 a1) (16:Int)))) (PO.conv us97 Tryz.underlying5 Z) (qm (Uv (mn 4611686018427387903 a1)) (qu (Uv (shrI .u64 (mn 4611686018427387903 a1) (8:Int))) (PO.shr Z Z (by decide)) (qu (Yv (IntKind.u8.wrap (shrI .u64 (mn 4611686018427387903 a1) (8:Int)))) (PO.conv us97 Tryz.underlying5 Z) ?_)))))))))))
 refine qm (Uv (mn 4611686018427387903 a1)) (qu (Yv (IntKind.u8.wrap (mn 4611686018427387903 a1))) (PO.conv us97 Tryz.underlying5 Z) (We (EO.buildSliceL (cl:=[(Yv (orI .u8 128 (IntKind.u8.wrap (shrI .u64 (mn 4611686018427387903 a1) (24:Int))))),(Yv (IntKind.u8.wrap (shrI .u64 (mn 4611686018427387903 a1) (16:Int)))),(Yv (IntKind.u8.wrap (shrI .u64 (mn 4611686018427387903 a1) (8:Int)))),(Yv (IntKind.u8.wrap (mn 4611686018427387903 a1)))]) Tryz.underlying31 iz5 Z (Pc (Yv (orI .u8 128 (IntKind.u8.wrap (shrI .u64 (mn 4611686018427387903 a1) (24:Int))))) Z Z (Pc (Yv (IntKind.u8.wrap (shrI .u64 (mn 4611686018427387903 a1) (16:Int)))) Z Z (Pc (Yv (IntKind.u8.wrap (shrI .u64 (mn 4611686018427387903 a1) (8:Int)))) Z Z (Pc (Yv (IntKind.u8.wrap (mn 4611686018427387903 a1))) Z Z Pz)))) Z) Z ?_))
 rintro _ _ _ - ⟨rfl,g38,rfl,rfl⟩
 have h40:OwnS (Kd.int .u8) M (.slice (some ⟨g38,0,none⟩) 4 4) [orI .u8 128 (IntKind.u8.wrap (shrI .u64 (mn 4611686018427387903 a1) (24:Int))),IntKind.u8.wrap (shrI .u64 (mn 4611686018427387903 a1) (16:Int)),IntKind.u8.wrap (shrI .u64 (mn 4611686018427387903 a1) (8:Int)),IntKind.u8.wrap (mn 4611686018427387903 a1)] [(g38, .cells #[(Yv (orI .u8 128 (IntKind.u8.wrap (shrI .u64 (mn 4611686018427387903 a1) (24:Int))))),(Yv (IntKind.u8.wrap (shrI .u64 (mn 4611686018427387903 a1) (16:Int)))),(Yv (IntKind.u8.wrap (shrI .u64 (mn 4611686018427387903 a1) (8:Int)))),(Yv (IntKind.u8.wrap (mn 4611686018427387903 a1)))] 5 (0,0))]:=OwnS.rows (css:=[[(Yv (orI .u8 128 (IntKind.u8.wrap (shrI .u64 (mn 4611686018427387903 a1) (24:Int)))))],[(Yv (IntKind.u8.wrap (shrI .u64 (mn 4611686018427387903 a1) (16:Int))))],[(Yv (IntKind.u8.wrap (shrI .u64 (mn 4611686018427387903 a1) (8:Int))))],[(Yv (IntKind.u8.wrap (mn 4611686018427387903 a1)))]]) (Rows.cons Z (Rows.cons Z (Rows.cons Z (Rows.cons Z Rows.nil)))) Z Z
 obtain ⟨hg44,h⟩:=grd_i h
 refine WL.f1 (We (EO.append (dd:=(Kd.int .u8)) (xs:=a0) (ys:=[orI .u8 128 (IntKind.u8.wrap (shrI .u64 (mn 4611686018427387903 a1) (24:Int))),IntKind.u8.wrap (shrI .u64 (mn 4611686018427387903 a1) (16:Int)),IntKind.u8.wrap (shrI .u64 (mn 4611686018427387903 a1) (8:Int)),IntKind.u8.wrap (mn 4611686018427387903 a1)]) Tryz.underlying31 Tryz.underlying31 in5 Z (appB (by decide) hg44) (by decide) Z Z h0 (h40.src 1 Z)) Z ?_)
 rintro v43 _ _ - ⟨rfl,c41,rfl,h42⟩
 exact qa v43 (Nt (Cr (Br (Tr (Qa (Dr (Rf h [c41] Z (Rs Z Z) lr ⟨v43,c41,Z,Z,h42⟩)))))))
 refine Ck (Bn (Tc (Sr (qM v0 (hρ 0) (qm (Uv (mn 4611686018427387903 a1)) (qu (Uv (shrI .u64 (mn 4611686018427387903 a1) (56:Int))) (PO.shr Z Z (by decide)) (qu (Yv (IntKind.u8.wrap (shrI .u64 (mn 4611686018427387903 a1) (56:Int)))) (PO.conv us97 Tryz.underlying5 Z) (qu (Yv (orI .u8 192 (IntKind.u8.wrap (shrI .u64 (mn 4611686018427387903 a1) (56:Int))))) (PO.or Z Z) (qm (Uv (mn 4611686018427387903 a1)) (qu (Uv (shrI .u64 (mn 4611686018427387903 a1) (48:Int))) (PO.shr Z Z (by decide)) (qu (Yv (IntKind.u8.wrap (shrI .u64 (mn 4611686018427387903 a1) (48:Int)))) (PO.conv us97 Tryz.underlying5 Z) ?_)))))))))))
 refine qm (Uv (mn 4611686018427387903 a1)) (qu (Uv (shrI .u64 (mn 4611686018427387903 a1) (40:Int))) (PO.shr Z Z (by decide)) (qu (Yv (IntKind.u8.wrap (shrI .u64 (mn 4611686018427387903 a1) (40:Int)))) (PO.conv us97 Tryz.underlying5 Z) (qm (Uv (mn 4611686018427387903 a1)) (qu (Uv (shrI .u64 (mn 4611686018427387903 a1) (32:Int))) (PO.shr Z Z (by decide)) (qu (Yv (IntKind.u8.wrap (shrI .u64 (mn 4611686018427387903 a1) (32:Int)))) (PO.conv us97 Tryz.underlying5 Z) (qm (Uv (mn 4611686018427387903 a1)) (qu (Uv (shrI .u64 (mn 4611686018427387903 a1) (24:Int))) (PO.shr Z Z (by decide)) (qu (Yv (IntKind.u8.wrap (shrI .u64 (mn 4611686018427387903 a1) (24:Int)))) (PO.conv us97 Tryz.underlying5 Z) (qm (Uv (mn 4611686018427387903 a1)) (qu (Uv (shrI .u64 (mn 4611686018427387903 a1) (16:Int))) (PO.shr Z Z (by decide)) (qu (Yv (IntKind.u8.wrap (shrI .u64 (mn 4611686018427387903 a1) (16:Int)))) (PO.conv us97 Tryz.underlying5 Z) ?_)))))))))))
 refine qm (Uv (mn 4611686018427387903 a1)) (qu (Uv (shrI .u64 (mn 4611686018427387903 a1) (8:Int))) (PO.shr Z Z (by decide)) (qu (Yv (IntKind.u8.wrap (shrI .u64 (mn 4611686018427387903 a1) (8:Int)))) (PO.conv us97 Tryz.underlying5 Z) (qm (Uv (mn 4611686018427387903 a1)) (qu (Yv (IntKind.u8.wrap (mn 4611686018427387903 a1))) (PO.conv us97 Tryz.underlying5 Z) (We (EO.buildSliceL (cl:=[(Yv (orI .u8 192 (IntKind.u8.wrap (shrI .u64 (mn 4611686018427387903 a1) (56:Int))))),(Yv (IntKind.u8.wrap (shrI .u64 (mn 4611686018427387903 a1) (48:Int)))),(Yv (IntKind.u8.wrap (shrI .u64 (mn 4611686018427387903 a1) (40:Int)))),(Yv (IntKind.u8.wrap (shrI .u64 (mn 4611686018427387903 a1) (32:Int)))),(Yv (IntKind.u8.wrap (shrI .u64 (mn 4611686018427387903 a1) (24:Int)))),(Yv (IntKind.u8.wrap (shrI .u64 (mn 4611686018427387903 a1) (16:Int)))),(Yv (IntKind.u8.wrap (shrI .u64 (mn 4611686018427387903 a1) (8:Int)))),(Yv (IntKind.u8.wrap (mn 4611686018427387903 a1)))]) Tryz.underlying31 iz5 Z (Pc (Yv (orI .u8 192 (IntKind.u8.wrap (shrI .u64 (mn 4611686018427387903 a1) (56:Int))))) Z Z (Pc (Yv (IntKind.u8.wrap (shrI .u64 (mn 4611686018427387903 a1) (48:Int)))) Z Z (Pc (Yv (IntKind.u8.wrap (shrI .u64 (mn 4611686018427387903 a1) (40:Int)))) Z Z (Pc (Yv (IntKind.u8.wrap (shrI .u64 (mn 4611686018427387903 a1) (32:Int)))) Z Z (Pc (Yv (IntKind.u8.wrap (shrI .u64 (mn 4611686018427387903 a1) (24:Int)))) Z Z (Pc (Yv (IntKind.u8.wrap (shrI .u64 (mn 4611686018427387903 a1) (16:Int)))) Z Z (Pc (Yv (IntKind.u8.wrap (shrI .u64 (mn 4611686018427387903 a1) (8:Int)))) Z Z (Pc (Yv (IntKind.u8.wrap (mn 4611686018427387903 a1))) Z Z Pz)))))))) Z) Z ?_)))))
 rintro _ _ _ - ⟨rfl,g45,rfl,rfl⟩
 have h47:OwnS (Kd.int .u8) M (.slice (some ⟨g45,0,none⟩) 8 8) [orI .u8 192 (IntKind.u8.wrap (shrI .u64 (mn 4611686018427387903 a1) (56:Int))),IntKind.u8.wrap (shrI .u64 (mn 4611686018427387903 a1) (48:Int)),IntKind.u8.wrap (shrI .u64 (mn 4611686018427387903 a1) (40:Int)),IntKind.u8.wrap (shrI .u64 (mn 4611686018427387903 a1) (32:Int)),IntKind.u8.wrap (shrI .u64 (mn 4611686018427387903 a1) (24:Int)),IntKind.u8.wrap (shrI .u64 (mn 4611686018427387903 a1) (16:Int)),IntKind.u8.wrap (shrI .u64 (mn 4611686018427387903 a1) (8:Int)),IntKind.u8.wrap (mn 4611686018427387903 a1)] [(g45, .cells #[(Yv (orI .u8 192 (IntKind.u8.wrap (shrI .u64 (mn 4611686018427387903 a1) (56:Int))))),(Yv (IntKind.u8.wrap (shrI .u64 (mn 4611686018427387903 a1) (48:Int)))),(Yv (IntKind.u8.wrap (shrI .u64 (mn 4611686018427387903 a1) (40:Int)))),(Yv (IntKind.u8.wrap (shrI .u64 (mn 4611686018427387903 a1) (32:Int)))),(Yv (IntKind.u8.wrap (shrI .u64 (mn 4611686018427387903 a1) (24:Int)))),(Yv (IntKind.u8.wrap (shrI .u64 (mn 4611686018427387903 a1) (16:Int)))),(Yv (IntKind.u8.wrap (shrI .u64 (mn 4611686018427387903 a1) (8:Int)))),(Yv (IntKind.u8.wrap (mn 4611686018427387903 a1)))] 5 (0,0))]:=OwnS.rows (css:=[[(Yv (orI .u8 192 (IntKind.u8.wrap (shrI .u64 (mn 4611686018427387903 a1) (56:Int)))))],[(Yv (IntKind.u8.wrap (shrI .u64 (mn 4611686018427387903 a1) (48:Int))))],[(Yv (IntKind.u8.wrap (shrI .u64 (mn 4611686018427387903 a1) (40:Int))))],[(Yv (IntKind.u8.wrap (shrI .u64 (mn 4611686018427387903 a1) (32:Int))))],[(Yv (IntKind.u8.wrap (shrI .u64 (mn 4611686018427387903 a1) (24:Int))))],[(Yv (IntKind.u8.wrap (shrI .u64 (mn 4611686018427387903 a1) (16:Int))))],[(Yv (IntKind.u8.wrap (shrI .u64 (mn 4611686018427387903 a1) (8:Int))))],[(Yv (IntKind.u8.wrap (mn 4611686018427387903 a1)))]]) (Rows.cons Z (Rows.cons Z (Rows.cons Z (Rows.cons Z (Rows.cons Z (Rows.cons Z (Rows.cons Z (Rows.cons Z Rows.nil)))))))) Z Z
 obtain ⟨hg51,h⟩:=grd_i h
 refine WL.f1 (We (EO.append (dd:=(Kd.int .u8)) (xs:=a0) (ys:=[orI .u8 192 (IntKind.u8.wrap (shrI .u64 (mn 4611686018427387903 a1) (56:Int))),IntKind.u8.wrap (shrI .u64 (mn 4611686018427387903 a1) (48:Int)),IntKind.u8.wrap (shrI .u64 (mn 4611686018427387903 a1) (40:Int)),IntKind.u8.wrap (shrI .u64 (mn 4611686018427387903 a1) (32:Int)),IntKind.u8.wrap (shrI .u64 (mn 4611686018427387903 a1) (24:Int)),IntKind.u8.wrap (shrI .u64 (mn 4611686018427387903 a1) (16:Int)),IntKind.u8.wrap (shrI .u64 (mn 4611686018427387903 a1) (8:Int)),IntKind.u8.wrap (mn 4611686018427387903 a1)]) Tryz.underlying31 Tryz.underlying31 in5 Z (appB (by decide) hg51) (by decide) Z Z h0 (h47.src 1 Z)) Z ?_)
 rintro v50 _ _ - ⟨rfl,c48,rfl,h49⟩
 exact qa v50 (Nt (Cr (Qa (Dr (Rf h [c48] Z (Rs Z Z) lr ⟨v50,c48,Z,Z,h49⟩)))))
noncomputable def f_wire_Int (a0:(List Int)) (a1:Int):Option (List Int):=
 ((f_wire_Num a0 (IntKind.u64.wrap (if a1<(0:Int)then(0:Int)else a1))).bind fun r21=>(some r21))
def f_wire_Int_post (a0:(List Int)) (a1:Int) (v0:Value):(List Int)→Value→IM→HL→Prop:=
 fun(r0:(List Int)) (v:Value) (M':IM) (H':HL)=>∃ vz0 cz0,vz0=v∧H'=[cz0]∧OwnS (Kd.int .u8) M' vz0 r0 cz0
theorem f_wire_Int_ok (a0:(List Int)) (a1:Int) (M:IM) (v0:Value) (c0:Chunk) (h0:OwnS (Kd.int .u8) M v0 a0 c0) (res:(List Int)) (h:f_wire_Int a0 a1=some res):
 Tri Tryz.prog 15 #[v0,(Iv a1)] M [c0] (f_wire_Int_post a0 a1 v0 res):=by
 unfold f_wire_Int at h
 refine Te Tryz.func15 Z Z ?_
 intro F ρ hρ
 refine Sr (qa Zs (Ns (qM v0 (hρ 0) (qM (Iv a1) (hρ 1) (qu (Iv (if a1<0 then(0:Int)else a1)) (PO.max Z Z) (qu (Uv (IntKind.u64.wrap (if a1<0 then(0:Int)else a1))) (PO.conv us3 Tryz.underlying97 Z) ?_))))))
 obtain ⟨r21,hr22,h⟩:=bnd h
 refine We (Cb co53 (f_wire_Num_ok a0 (IntKind.u64.wrap (if a1<0 then(0:Int)else a1)) _ _ _ h0 r21 hr22) (args2 Z Z)) Z ?_
 rintro _ M23 _ hle24 ⟨_,⟨vq25,cq25,rfl,rfl,hq25⟩,rfl⟩
 exact WL.a1 (qa vq25 (Nt (Cr (Rf h [cq25] Z (Rs Z Z) hle24 ⟨vq25,cq25,Z,Z,hq25⟩))))
noncomputable def f_wire_Text (a0:(List Int)) (a1:(List Int)):Option (List Int):=
 ((f_wire_Int a0 (a1.length:Int)).bind fun r21=>(grd (r21.length+a1.length≤274877906944) (some (r21++a1))))
def f_wire_Text_post (a0:(List Int)) (a1:(List Int)) (v0 v1:Value):(List Int)→Value→IM→HL→Prop:=
 fun(r0:(List Int)) (v:Value) (M':IM) (H':HL)=>∃ vz0 cz0,vz0=v∧H'=[cz0]∧OwnS (Kd.int .u8) M' vz0 r0 cz0
theorem f_wire_Text_ok (a0:(List Int)) (a1:(List Int)) (M:IM) (v0 v1:Value) (c0:Chunk) (h0:OwnS (Kd.int .u8) M v0 a0 c0) (h1:RS (Kd.int .u8) M v1 a1) (res:(List Int)) (h:f_wire_Text a0 a1=some res):
 Tri Tryz.prog 16 #[v0,v1] M [c0] (f_wire_Text_post a0 a1 v0 v1 res):=by
 unfold f_wire_Text at h
 refine Te Tryz.func16 Z Z ?_
 intro F ρ hρ
 refine Sr (qa Zs (Ns (qM v0 (hρ 0) (qM v1 (hρ 1) (qu (Iv (a1.length:Int)) (PO.lenS Tryz.underlying31 Z h1.len) ?_)))))
 obtain ⟨r21,hr22,h⟩:=bnd h
 refine We (Cb co15 (f_wire_Int_ok a0 (a1.length:Int) _ _ _ h0 r21 hr22) (args2 Z Z)) Z ?_
 rintro _ M23 _ hle24 ⟨_,⟨vq25,cq25,rfl,rfl,hq25⟩,rfl⟩
 refine WL.a1 (qM v1 (hρ 1) ?_)
 obtain ⟨hg29,h⟩:=grd_i h
 have h1:=h1.mono hle24
 refine We (EO.append (dd:=(Kd.int .u8)) (xs:=r21) (ys:=a1) Tryz.underlying31 Tryz.underlying31 in5 Z (appB (by decide) hg29) (by decide) Z Z hq25 (h1.src _)) Z ?_
 rintro v28 _ _ - ⟨rfl,c26,rfl,h27⟩
 exact qa v28 (Nt (Cr (Rf h [c26] Z (Rs Z Z) hle24 ⟨v28,c26,Z,Z,h27⟩)))
noncomputable def f_wire_Flag (a0:(List Int)) (a1:Bool):Option (List Int):=
 (if a1=true then(grd (a0.length+[(1:Int)].length≤274877906944) (some (a0++[(1:Int)])))else(grd (a0.length+[(0:Int)].length≤274877906944) (some (a0++[(0:Int)]))))
def f_wire_Flag_post (a0:(List Int)) (a1:Bool) (v0:Value):(List Int)→Value→IM→HL→Prop:=
 fun(r0:(List Int)) (v:Value) (M':IM) (H':HL)=>∃ vz0 cz0,vz0=v∧H'=[cz0]∧OwnS (Kd.int .u8) M' vz0 r0 cz0
theorem f_wire_Flag_ok (a0:(List Int)) (a1:Bool) (M:IM) (v0:Value) (c0:Chunk) (h0:OwnS (Kd.int .u8) M v0 a0 c0) (res:(List Int)) (h:f_wire_Flag a0 a1=some res):
 Tri Tryz.prog 17 #[v0,(Bv a1)] M [c0] (f_wire_Flag_post a0 a1 v0 res):=by
 unfold f_wire_Flag at h
 refine Te Tryz.func17 Z Z ?_
 intro F ρ hρ
 refine Sr (qa Zs (Nt (Cs (Sr (qM (Bv a1) (hρ 1) (Nt (Ch h Z (fun hb21 h=> ?_) (fun hb21 h=> ?_))))))))
 refine Sr (qM v0 (hρ 0) (We (EO.buildSliceL (cl:=[(Yv 1)]) Tryz.underlying31 iz5 Z (Pc (Yv 1) Z Z Pz) Z) Z ?_))
 rintro _ _ _ - ⟨rfl,g22,rfl,rfl⟩
 have h24:OwnS (Kd.int .u8) M (.slice (some ⟨g22,0,none⟩) 1 1) [(1:Int)] [(g22, .cells #[(Yv 1)] 5 (0,0))]:=OwnS.rows (css:=[[(Yv 1)]]) (Rows.cons Z Rows.nil) Z Z
 obtain ⟨hg28,h⟩:=grd_i h
 refine WL.f1 (We (EO.append (dd:=(Kd.int .u8)) (xs:=a0) (ys:=[(1:Int)]) Tryz.underlying31 Tryz.underlying31 in5 Z (appB (by decide) hg28) (by decide) Z Z h0 (h24.src 1 Z)) Z ?_)
 rintro v27 _ _ - ⟨rfl,c25,rfl,h26⟩
 exact qa v27 (Nt (Cr (Tr (Qa (Dr (Rf h [c25] Z (Rs Z Z) lr ⟨v27,c25,Z,Z,h26⟩))))))
 refine Ck (Tc (Sr (qM v0 (hρ 0) (We (EO.buildSliceL (cl:=[(Yv 0)]) Tryz.underlying31 iz5 Z (Pc (Yv 0) Z Z Pz) Z) Z ?_))))
 rintro _ _ _ - ⟨rfl,g29,rfl,rfl⟩
 have h31:OwnS (Kd.int .u8) M (.slice (some ⟨g29,0,none⟩) 1 1) [(0:Int)] [(g29, .cells #[(Yv 0)] 5 (0,0))]:=OwnS.rows (css:=[[(Yv 0)]]) (Rows.cons Z Rows.nil) Z Z
 obtain ⟨hg35,h⟩:=grd_i h
 refine WL.f1 (We (EO.append (dd:=(Kd.int .u8)) (xs:=a0) (ys:=[(0:Int)]) Tryz.underlying31 Tryz.underlying31 in5 Z (appB (by decide) hg35) (by decide) Z Z h0 (h31.src 1 Z)) Z ?_)
 rintro v34 _ _ - ⟨rfl,c32,rfl,h33⟩
 exact qa v34 (Nt (Cr (Qa (Dr (Rf h [c32] Z (Rs Z Z) lr ⟨v34,c32,Z,Z,h33⟩)))))
noncomputable def f_wire_Row_l0 (a1:(List Int)) (s_:((List Int)×Int)):Option (((List Int)×Int)⊕(List Int)):=
 match s_ with
 |(x29,x30)=>
 (if(decide (x30<(a1.length:Int)))=true then(grd (0≤x30∧x30<a1.length) ((f_wire_Int x29 (rd a1 x30)).bind fun r40=>(some (Sum.inl (r40,IntKind.i64.wrap (x30+(1:Int)))))))else(some (Sum.inr x29)))
noncomputable def f_wire_Row (a0:(List Int)) (a1:(List Int)):Option (List Int):=
 ((f_wire_Int a0 (a1.length:Int)).bind fun r21=>((((iter (f_wire_Row_l0 a1) (r21,(0:Int))).bind (fun(x31:(List Int))=>(some x31))):Option (List Int)).bind fun x26=>(some x26)))
def f_wire_Row_post (a0:(List Int)) (a1:(List Int)) (v0 v1:Value):(List Int)→Value→IM→HL→Prop:=
 fun(r0:(List Int)) (v:Value) (M':IM) (H':HL)=>∃ vz0 cz0,vz0=v∧H'=[cz0]∧OwnS (Kd.int .u8) M' vz0 r0 cz0
theorem f_wire_Row_ok (a0:(List Int)) (a1:(List Int)) (M:IM) (v0 v1:Value) (c0:Chunk) (h0:OwnS (Kd.int .u8) M v0 a0 c0) (h1:RS (Kd.int .i64) M v1 a1) (res:(List Int)) (h:f_wire_Row a0 a1=some res):
 Tri Tryz.prog 18 #[v0,v1] M [c0] (f_wire_Row_post a0 a1 v0 v1 res):=by
 unfold f_wire_Row at h
 refine Te Tryz.func18 Z Z ?_
 intro F ρ hρ
 refine Sr (qa Zs (Ns (qM v0 (hρ 0) (qM v1 (hρ 1) (qu (Iv (a1.length:Int)) (PO.lenS Tryz.underlying43 Z h1.len) ?_)))))
 obtain ⟨r21,hr22,h⟩:=bnd h
 refine We (Cb co15 (f_wire_Int_ok a0 (a1.length:Int) _ _ _ h0 r21 hr22) (args2 Z Z)) Z ?_
 rintro _ M23 _ hle24 ⟨_,⟨vq25,cq25,rfl,rfl,hq25⟩,rfl⟩
 refine WL.a1 (qa vq25 (Nt ?_))
 obtain ⟨x26,hj27,h⟩:=bnd h
 refine Jf (fun(x26:(List Int)) ρ' M' H'=>∃ vx26 cx26,M23.le M'∧cx26::F=H'∧ρ' 0=vx26∧OwnS (Kd.int .u8) M' vx26 x26 cx26) x26 ?_ ?_
 have h:=hj27
 refine Sr (qM v1 (hρ 1) ?_)
 have h1:=h1.mono hle24
 refine qu (Iv (a1.length:Int)) (PO.lenS Tryz.underlying43 Z h1.len) (qm (Iv 0) (Nt (Bk ?_)))
 obtain ⟨e28,he28,hK28⟩:=bnd h
 clear h
 refine WC.loop he28 (fun(p_:((List Int)×Int)) ρ' M' H'=>match p_ with |(x29,x30)=>∃ vx29 cx29,M23.le M'∧cx29::F=H'∧ρ' 0=vx29∧ρ' 11=v1∧ρ' 12=(Iv (a1.length:Int))∧ρ' 13=(Iv x30)∧OwnS (Kd.int .u8) M' vx29 x29 cx29) ?_ ?_
 exact⟨vq25,cq25,lr,Z,Z,Z,Z,Z,hq25⟩
 rintro ⟨x29,x30⟩ o28 ρ28 M28 H28 h ⟨vx29,cx29,hle28,rfl,hs28_0,hs28_11,hs28_12,hs28_13,hx29⟩
 unfold f_wire_Row_l0 at h
 refine Sr (qu (Bv (decide (x30<(a1.length:Int)))) (PO.lss hs28_13 hs28_12) (Nt (Cs (Ch h Z (fun hb32 h=> ?_) (fun hb32 h=> ?_)))))
 refine Ck (Tc (Cs (Bk (Sr ?_))))
 obtain ⟨hg33,h⟩:=grd_i h
 have h1:=h1.mono hle28
 obtain ⟨p34,cs35,hat36,hrc37,hhas38⟩:=h1.at hg33.1 hg33.2 (by decide)
 obtain rfl:=hrc37
 refine qu (.pointer (some p34)) (PO.indexAddr (n:=a1.length) Tryz.underlying43 sz3 hs28_11 hs28_13 hg33.1 hg33.2 hat36) (qu (Iv (rd a1 x30)) (PO.loadM pl3 Z (IM.has0 hhas38)) (qa (Iv (rd a1 x30)) (Nt (Cg (qM vx29 hs28_0 (qm (Iv (rd a1 x30)) ?_))))))
 obtain ⟨r40,hr41,h⟩:=bnd h
 refine We (Cb co15 (f_wire_Int_ok x29 (rd a1 x30) _ _ _ hx29 r40 hr41) (args2 Z Z)) Z ?_
 rintro _ M42 _ hle43 ⟨_,⟨vq44,cq44,rfl,rfl,hq44⟩,rfl⟩
 exact WL.a1 (qa vq44 (Wz (Bn (Tc (Cg (qu (Iv (IntKind.i64.wrap (x30+1))) (PO.add hs28_13 Z) (qm (Iv (IntKind.i64.wrap (x30+1))) (Wz (WQ.again (r40,IntKind.i64.wrap (x30+1)) (oi h).symm ⟨vq44,cq44,(hle28.trans hle43),Z,Z,hs28_11,hs28_12,Z,hq44⟩)))))))))
 refine WC.exit (WQ.thenE (WQ.leaveE x29 (oi h).symm (fun heq28=> ?_)))
 subst heq28
 have h:=hK28
 refine WQ.blockH ?_
 obtain rfl:=oi h
 exact Tj ⟨vx29,cx29,hle28,Z,hs28_0,hx29⟩
 rintro ρ27 M27 H27 ⟨vx26,cx26,hle27,rfl,hs27_0,hx26⟩
 exact Sr (qM vx26 hs27_0 (qa vx26 (Nt (Cr (Rf h [cx26] Z (Rs Z Z) (hle24.trans hle27) ⟨vx26,cx26,Z,Z,hx26⟩)))))

end Go.Proofs.YtpcbipcdfccnnaaGreat.G
