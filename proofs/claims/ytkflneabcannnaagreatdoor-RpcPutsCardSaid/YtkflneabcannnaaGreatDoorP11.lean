/- Go functions: what they come to, and that they do. Printed by a program of the session (gen). -/
import Derived.Test.YtkflneabcannnaaGreatDoorPF
import Derived.Test.YtkflneabcannnaaGreatDoorP8
import Derived.Test.YtkflneabcannnaaGreatDoorP10
import Derived.Test.YtkflneabcannnaaGreatDoorKConv
import Derived.Test.YtkflneabcannnaaGreatDoorKShar2
import Derived.Test.YtkflneabcannnaaGreatDoorKTight2
set_option linter.unusedVariables false
set_option linter.unusedSimpArgs false
set_option maxHeartbeats 8000000
set_option maxRecDepth 100000
namespace Go.Proofs.YtkflneabcannnaaGreatDoor.G
open Go Go.KK

noncomputable def f_ref07_Check_l0 (a0:T_api_Rpc) (s_:Int):Option (Int⊕(Unit⊕(ByteArray×Int×Int×Int))):=
 match s_ with
 |x218=>
 (if(decide (x218<(a0.Batches.length:Int)))=true then(grd (0≤x218∧x218<a0.Batches.length) ((f_ref06_Check (rd a0.Batches x218)).bind fun r231=>(if(decide (r231.W.Code≠(0:Int)))=true then(some (Sum.inr (Sum.inr (r231.W.Op,x218,r231.W.Code,(-1:Int)))))else(some (Sum.inl (IntKind.i64.wrap (x218+(1:Int))))))))else(some (Sum.inr (Sum.inl ()))))
noncomputable def f_ref07_Check (a0:T_api_Rpc):Option T_ref06_Wrong:=
 (((if(decide (a0.Kind<(1:Int)))=true then(some true)else(some (decide ((8:Int)<a0.Kind)))):Option Bool).bind fun x23=>(if x23=true then((f_ref07_no (⟨#[107,105,110,100]⟩:ByteArray) a0.Kind (5:Int)).bind fun r27=>(some r27))else(((if(decide (a0.From<(1:Int)))=true then(some true)else(if(decide ((1073741824:Int)<a0.From))=true then(some true)else(if(decide (a0.To<(1:Int)))=true then(some true)else(if(decide ((1073741824:Int)<a0.To))=true then(some true)else(some (decide (a0.From=a0.To))))))):Option Bool).bind fun x32=>(if x32=true then((f_ref07_no (⟨#[102,114,111,109]⟩:ByteArray) a0.From (2:Int)).bind fun r39=>(some r39))else(((if(decide (a0.Term<(0:Int)))=true then(some true)else(some (decide ((1073741824:Int)<a0.Term)))):Option Bool).bind fun x44=>(if x44=true then((f_ref07_no (⟨#[116,101,114,109]⟩:ByteArray) a0.Term (2:Int)).bind fun r48=>(some r48))else(((if a0.Pre=true then((f_ref07_has a0.Kind (97:Int)).bind fun r56=>(if(!r56)=true then(some true)else(if a0.Ok=true then((f_ref07_has a0.Kind (103:Int)).bind fun r63=>(some (!r63)))else(some false))))else(if a0.Ok=true then((f_ref07_has a0.Kind (103:Int)).bind fun r69=>(some (!r69)))else(some false))):Option Bool).bind fun x53=>(if x53=true then((f_ref07_no (⟨#[102,108,97,103]⟩:ByteArray) (1:Int) (1:Int)).bind fun r75=>(some r75))else((f_ref07_has a0.Kind (108:Int)).bind fun r80=>((f_ref07_num a0.Leader r80 (1073741824:Int)).bind fun r85=>(if(!r85)=true then((f_ref07_no (⟨#[108,101,97,100,101,114]⟩:ByteArray) a0.Leader (2:Int)).bind fun r91=>(some r91))else((((f_ref07_has a0.Kind (112:Int)).bind fun r98=>((f_ref07_num a0.At r98 (1073741824:Int)).bind fun r103=>(if(!r103)=true then(some true)else((f_ref07_has a0.Kind (112:Int)).bind fun r109=>((f_ref07_num a0.AtTerm r109 (1073741824:Int)).bind fun r114=>(some (!r114))))))):Option Bool).bind fun x96=>(if x96=true then((f_ref07_no (⟨#[112,108,97,99,101]⟩:ByteArray) a0.At (2:Int)).bind fun r120=>(some r120))else((f_ref07_has a0.Kind (104:Int)).bind fun r125=>((f_ref07_num a0.High r125 (1073741824:Int)).bind fun r130=>(if(!r130)=true then((f_ref07_no (⟨#[104,105,103,104]⟩:ByteArray) a0.High (2:Int)).bind fun r136=>(some r136))else((f_ref07_has a0.Kind (99:Int)).bind fun r141=>((f_ref07_num a0.Code r141 (21:Int)).bind fun r146=>(if(!r146)=true then((f_ref07_no (⟨#[99,111,100,101]⟩:ByteArray) a0.Code (2:Int)).bind fun r152=>(some r152))else((((f_ref07_has a0.Kind (115:Int)).bind fun r159=>((f_ref07_num a0.Size r159 (1073741824:Int)).bind fun r164=>(if(!r164)=true then(some true)else((f_ref07_has a0.Kind (111:Int)).bind fun r170=>((f_ref07_num a0.Pos r170 (1073741824:Int)).bind fun r175=>(some (!r175))))))):Option Bool).bind fun x157=>(if x157=true then((f_ref07_no (⟨#[115,105,122,101]⟩:ByteArray) a0.Size (2:Int)).bind fun r181=>(some r181))else(((if(decide ((512:Int)<(a0.Data.length:Int)))=true then(some true)else(if(decide ((0:Int)<(a0.Data.length:Int)))=true then((f_ref07_has a0.Kind (100:Int)).bind fun r190=>(some (!r190)))else(some false))):Option Bool).bind fun x186=>(if x186=true then((f_ref07_no (⟨#[100,97,116,97]⟩:ByteArray) (a0.Data.length:Int) (6:Int)).bind fun r196=>(some r196))else(((if(decide ((8:Int)<(a0.Batches.length:Int)))=true then(some true)else(if(decide ((0:Int)<(a0.Batches.length:Int)))=true then((f_ref07_has a0.Kind (98:Int)).bind fun r205=>(some (!r205)))else(some false))):Option Bool).bind fun x201=>(if x201=true then((f_ref07_no (⟨#[98,97,116,99,104,101,115]⟩:ByteArray) (a0.Batches.length:Int) (6:Int)).bind fun r211=>(some r211))else((((iter (f_ref07_Check_l0 a0) (0:Int)).bind (Sum.elim (fun _=>(some (Sum.inl ()))) (fun(x219,x220,x221,x222)=>(((some (⟨(⟨x219,x220,x221⟩:T_ref05_Wrong),x222⟩:T_ref06_Wrong))).bind fun r=>some (Sum.inr r))))):Option (Unit⊕T_ref06_Wrong)).bind (Sum.elim (fun _=>(some lit5_)) some)))))))))))))))))))))))))))
def f_ref07_Check_post (a0:T_api_Rpc) (v0_11 v0_14:Value):T_ref06_Wrong→Value→IM→HL→Prop:=
 fun(r0:T_ref06_Wrong) (v:Value) (M':IM) (H':HL)=>(.agg #[(.string r0.W.Op),(.int .i64 r0.W.At),(.int .i64 r0.W.Code),(.int .i64 r0.Record)])=v∧H'=[]
theorem f_ref07_Check_ok (a0:T_api_Rpc) (M:IM) (v0_11 v0_14:Value) (h0_11:RS kd_api_Batch M v0_11 a0.Batches) (h0_14:RS (Kd.int .u8) M v0_14 a0.Data) (res:T_ref06_Wrong) (h:f_ref07_Check a0=some res):
 Tri Tryz.prog 14 #[(a25_ a0 v0_11 v0_14)] M [] (f_ref07_Check_post a0 v0_11 v0_14 res):=by
 unfold f_ref07_Check at h
 refine Te Tryz.func14 Z Z ?_
 intro F ρ hρ
 refine Sr (We (EO.box (cs:=(l25 a0 v0_11 v0_14).toArray) (congrArg Value.cells (asE (a25_ a0 v0_11 v0_14) (hρ 0)))) Z ?_)
 rintro _ _ _ - ⟨rfl,g21,rfl,rfl⟩
 refine We (Al ze42 Z) Z ?_
 rintro _ _ _ - ⟨rfl,g22,rfl,rfl⟩
 refine Ns (qu (pt g21 0) (Fa fo25_0 Z Z) (qu (Iv a0.Kind) (Lb 1 pl3 Z Z Z) (qa (Iv a0.Kind) (Nt (Cs ?_)))))
 obtain ⟨x23,hj24,h⟩:=bnd h
 refine Jf (fun(x23:Bool) ρ' M' H'=>M.le M'∧[(g22, .cells z42_.toArray 42 (0,0))]::[(g21, .cells (l25 a0 v0_11 v0_14).toArray 25 (0,0))]::F=H'∧ρ' 1=(pt g21 0)∧ρ' 2=(pt g22 0)∧ρ' 3=(Iv a0.Kind)∧ρ' 13=(Bv x23)) x23 ?_ ?_
 have h:=hj24
 refine Cg (qm (Iv a0.Kind) (qu (Bv (decide (a0.Kind<1))) (PO.lss Z Z) (qm (Bv (decide (a0.Kind<1))) ?_)))
 rcases Bi h with⟨hb25,h⟩ |⟨hb25,h⟩
 iterate 2 refine Of 10 Z Z hb25 Z ?_
 refine qu (Bv true) (Pt Z hb25 Z) (Wz ?_)
 obtain rfl:=oi h
 exact Tj ⟨lr,Z,Z,Z,Z,Z⟩
 refine On 10 Z Z hb25 (qm (Iv a0.Kind) (qo 10 hb25 (Bv (decide ((8:Int)<a0.Kind))) (PO.gtr Z Z) (qu (Bv (decide ((8:Int)<a0.Kind))) (Pf Z hb25 Z) (Wz ?_))))
 obtain rfl:=oi h
 exact Tj ⟨lr,Z,Z,Z,Z,Z⟩
 rintro ρ24 M24 H24 ⟨hle24,rfl,hs24_1,hs24_2,hs24_3,hs24_13⟩
 refine Ch h hs24_13 (fun hb26 h=> ?_) (fun hb26 h=> ?_)
 refine Sr (qM (Iv a0.Kind) hs24_3 ?_)
 obtain ⟨r27,hr28,h⟩:=bnd h
 refine We (Ca co40 (f_ref07_no_ok ⟨#[107,105,110,100]⟩ a0.Kind (5:Int) _ r27 hr28) (args3 Z Z Z)) Z ?_
 rintro _ M29 _ hle30 ⟨_,⟨rfl,rfl⟩,rfl⟩
 refine WL.a0 (We (Sg (v:=(a42_ r27)) (vl:=(l42 r27)) (arr':=(l42 r27)) Z sz42 hs24_2 Z (onb Z) Z Z Z) Z ?_)
 rintro _ _ _ - ⟨rfl,rfl⟩
 exact Nt (Cr (Tr (Qa (Dr (Rd h [] (fun _ hs=>hs.drop) (resultsL1 Z (Rc (cs:=(l42 r27)) 0 ag42 sz42 hs24_2 Z Z)) (hle24.trans hle30) ⟨Z,Z⟩)))))
 refine Ck (Tc (Cs ?_))
 obtain ⟨x32,hj33,h⟩:=bnd h
 refine Jf (fun(x32:Bool) ρ' M' H'=>M24.le M'∧[(g22, .cells z42_.toArray 42 (0,0))]::[(g21, .cells (l25 a0 v0_11 v0_14).toArray 25 (0,0))]::F=H'∧ρ' 1=(pt g21 0)∧ρ' 2=(pt g22 0)∧ρ' 3=(Iv a0.Kind)∧ρ' 40=(Bv x32)) x32 ?_ ?_
 have h:=hj33
 refine Cg (qu (pt g21 1) (Fa fo25_1 hs24_1 Z) (qu (Iv a0.From) (Lb 1 pl3 Z Z Z) (qu (Bv (decide (a0.From<1))) (PO.lss Z Z) (qm (Bv (decide (a0.From<1))) ?_))))
 rcases Bi h with⟨hb34,h⟩ |⟨hb34,h⟩
 iterate 3 refine Of 19 Z Z hb34 Z ?_
 refine qu (Bv true) (Pt Z hb34 Z) (qm (Bv true) ?_)
 iterate 3 refine Of 24 Z Z Z Z ?_
 refine qu (Bv true) (Pt Z Z Z) (qm (Bv true) ?_)
 iterate 3 refine Of 29 Z Z Z Z ?_
 refine qu (Bv true) (Pt Z Z Z) (qm (Bv true) ?_)
 iterate 5 refine Of 34 Z Z Z Z ?_
 refine qu (Bv true) (Pt Z Z Z) (Wz ?_)
 obtain rfl:=oi h
 exact Tj ⟨lr,Z,hs24_1,hs24_2,hs24_3,Z⟩
 refine qo 19 hb34 (pt g21 1) (Fa fo25_1 hs24_1 Z) (qo 19 hb34 (Iv a0.From) (Lb 1 pl3 Z Z Z) (qo 19 hb34 (Bv (decide ((1073741824:Int)<a0.From))) (PO.gtr Z Z) (qu (Bv (decide ((1073741824:Int)<a0.From))) (Pf Z hb34 Z) (qm (Bv (decide ((1073741824:Int)<a0.From))) ?_))))
 rcases Bi h with⟨hb35,h⟩ |⟨hb35,h⟩
 iterate 3 refine Of 24 Z Z hb35 Z ?_
 refine qu (Bv true) (Pt Z hb35 Z) (qm (Bv true) ?_)
 iterate 3 refine Of 29 Z Z Z Z ?_
 refine qu (Bv true) (Pt Z Z Z) (qm (Bv true) ?_)
 iterate 5 refine Of 34 Z Z Z Z ?_
 refine qu (Bv true) (Pt Z Z Z) (Wz ?_)
 obtain rfl:=oi h
 exact Tj ⟨lr,Z,hs24_1,hs24_2,hs24_3,Z⟩
 refine qo 24 hb35 (pt g21 2) (Fa fo25_2 hs24_1 Z) (qo 24 hb35 (Iv a0.To) (Lb 1 pl3 Z Z Z) (qo 24 hb35 (Bv (decide (a0.To<1))) (PO.lss Z Z) (qu (Bv (decide (a0.To<1))) (Pf Z hb35 Z) (qm (Bv (decide (a0.To<1))) ?_))))
 rcases Bi h with⟨hb36,h⟩ |⟨hb36,h⟩
 iterate 3 refine Of 29 Z Z hb36 Z ?_
 refine qu (Bv true) (Pt Z hb36 Z) (qm (Bv true) ?_)
 iterate 5 refine Of 34 Z Z Z Z ?_
 refine qu (Bv true) (Pt Z Z Z) (Wz ?_)
 obtain rfl:=oi h
 exact Tj ⟨lr,Z,hs24_1,hs24_2,hs24_3,Z⟩
 refine qo 29 hb36 (pt g21 2) (Fa fo25_2 hs24_1 Z) (qo 29 hb36 (Iv a0.To) (Lb 1 pl3 Z Z Z) (qo 29 hb36 (Bv (decide ((1073741824:Int)<a0.To))) (PO.gtr Z Z) (qu (Bv (decide ((1073741824:Int)<a0.To))) (Pf Z hb36 Z) (qm (Bv (decide ((1073741824:Int)<a0.To))) ?_))))
 rcases Bi h with⟨hb37,h⟩ |⟨hb37,h⟩
 iterate 5 refine Of 34 Z Z hb37 Z ?_
 refine qu (Bv true) (Pt Z hb37 Z) (Wz ?_)
 obtain rfl:=oi h
 exact Tj ⟨lr,Z,hs24_1,hs24_2,hs24_3,Z⟩
 refine qo 34 hb37 (pt g21 1) (Fa fo25_1 hs24_1 Z) (qo 34 hb37 (Iv a0.From) (Lb 1 pl3 Z Z Z) (qo 34 hb37 (pt g21 2) (Fa fo25_2 hs24_1 Z) (qo 34 hb37 (Iv a0.To) (Lb 1 pl3 Z Z Z) (qo 34 hb37 (Bv (decide (a0.From=a0.To))) (PO.eql Z Z) (qu (Bv (decide (a0.From=a0.To))) (Pf Z hb37 Z) (Wz ?_))))))
 obtain rfl:=oi h
 exact Tj ⟨lr,Z,hs24_1,hs24_2,hs24_3,Z⟩
 rintro ρ33 M33 H33 ⟨hle33,rfl,hs33_1,hs33_2,hs33_3,hs33_40⟩
 have L33:=hle24.trans hle33
 refine Ch h hs33_40 (fun hb38 h=> ?_) (fun hb38 h=> ?_)
 refine Sr (qu (pt g21 1) (Fa fo25_1 hs33_1 Z) (qu (Iv a0.From) (Lb 1 pl3 Z Z Z) ?_))
 obtain ⟨r39,hr40,h⟩:=bnd h
 refine We (Ca co40 (f_ref07_no_ok ⟨#[102,114,111,109]⟩ a0.From (2:Int) _ r39 hr40) (args3 Z Z Z)) Z ?_
 rintro _ M41 _ hle42 ⟨_,⟨rfl,rfl⟩,rfl⟩
 refine WL.a0 (We (Sg (v:=(a42_ r39)) (vl:=(l42 r39)) (arr':=(l42 r39)) Z sz42 hs33_2 Z (onb Z) Z Z Z) Z ?_)
 rintro _ _ _ - ⟨rfl,rfl⟩
 exact Nt (Cr (Tr (Qa (Dr (Rd h [] (fun _ hs=>hs.drop) (resultsL1 Z (Rc (cs:=(l42 r39)) 0 ag42 sz42 hs33_2 Z Z)) (L33.trans hle42) ⟨Z,Z⟩)))))
 refine Ck (Tc (Cs ?_))
 obtain ⟨x44,hj45,h⟩:=bnd h
 refine Jf (fun(x44:Bool) ρ' M' H'=>M33.le M'∧[(g22, .cells z42_.toArray 42 (0,0))]::[(g21, .cells (l25 a0 v0_11 v0_14).toArray 25 (0,0))]::F=H'∧ρ' 1=(pt g21 0)∧ρ' 2=(pt g22 0)∧ρ' 3=(Iv a0.Kind)∧ρ' 51=(Bv x44)) x44 ?_ ?_
 have h:=hj45
 refine Cg (qu (pt g21 3) (Fa fo25_3 hs33_1 Z) (qu (Iv a0.Term) (Lb 1 pl3 Z Z Z) (qu (Bv (decide (a0.Term<0))) (PO.lss Z Z) (qm (Bv (decide (a0.Term<0))) ?_))))
 rcases Bi h with⟨hb46,h⟩ |⟨hb46,h⟩
 iterate 3 refine Of 47 Z Z hb46 Z ?_
 refine qu (Bv true) (Pt Z hb46 Z) (Wz ?_)
 obtain rfl:=oi h
 exact Tj ⟨lr,Z,hs33_1,hs33_2,hs33_3,Z⟩
 refine qo 47 hb46 (pt g21 3) (Fa fo25_3 hs33_1 Z) (qo 47 hb46 (Iv a0.Term) (Lb 1 pl3 Z Z Z) (qo 47 hb46 (Bv (decide ((1073741824:Int)<a0.Term))) (PO.gtr Z Z) (qu (Bv (decide ((1073741824:Int)<a0.Term))) (Pf Z hb46 Z) (Wz ?_))))
 obtain rfl:=oi h
 exact Tj ⟨lr,Z,hs33_1,hs33_2,hs33_3,Z⟩
 rintro ρ45 M45 H45 ⟨hle45,rfl,hs45_1,hs45_2,hs45_3,hs45_51⟩
 have L45:=L33.trans hle45
 refine Ch h hs45_51 (fun hb47 h=> ?_) (fun hb47 h=> ?_)
 refine Sr (qu (pt g21 3) (Fa fo25_3 hs45_1 Z) (qu (Iv a0.Term) (Lb 1 pl3 Z Z Z) ?_))
 obtain ⟨r48,hr49,h⟩:=bnd h
 refine We (Ca co40 (f_ref07_no_ok ⟨#[116,101,114,109]⟩ a0.Term (2:Int) _ r48 hr49) (args3 Z Z Z)) Z ?_
 rintro _ M50 _ hle51 ⟨_,⟨rfl,rfl⟩,rfl⟩
 refine WL.a0 (We (Sg (v:=(a42_ r48)) (vl:=(l42 r48)) (arr':=(l42 r48)) Z sz42 hs45_2 Z (onb Z) Z Z Z) Z ?_)
 rintro _ _ _ - ⟨rfl,rfl⟩
 exact Nt (Cr (Tr (Qa (Dr (Rd h [] (fun _ hs=>hs.drop) (resultsL1 Z (Rc (cs:=(l42 r48)) 0 ag42 sz42 hs45_2 Z Z)) (L45.trans hle51) ⟨Z,Z⟩)))))
 refine Ck (Tc (Cs ?_))
 obtain ⟨x53,hj54,h⟩:=bnd h
 refine Jf (fun(x53:Bool) ρ' M' H'=>M45.le M'∧[(g22, .cells z42_.toArray 42 (0,0))]::[(g21, .cells (l25 a0 v0_11 v0_14).toArray 25 (0,0))]::F=H'∧ρ' 1=(pt g21 0)∧ρ' 2=(pt g22 0)∧ρ' 3=(Iv a0.Kind)∧ρ' 70=(Bv x53)) x53 ?_ ?_
 have h:=hj54
 refine Cg (qu (pt g21 4) (Fa fo25_4 hs45_1 Z) (qu (Bv a0.Pre) (Lb 1 pl4 Z Z Z) (qm (Bv a0.Pre) ?_)))
 rcases Bi h with⟨hb55,h⟩ |⟨hb55,h⟩
 refine On 57 Z Z hb55 (qM (Iv a0.Kind) hs45_3 (On 57 Z Z hb55 ?_))
 obtain ⟨r56,hr57,h⟩:=bnd h
 refine We (Ca co41 (f_ref07_has_ok a0.Kind (97:Int) _ r56 hr57) (args2 Z Z)) Z ?_
 rintro _ M58 _ hle59 ⟨_,⟨rfl,rfl⟩,rfl⟩
 refine WL.a0 (qo 57 hb55 (Bv (!r56)) (PO.not Z) (qu (Bv (!r56)) (Pt Z hb55 Z) (qm (Bv (!r56)) ?_)))
 rcases Bi h with⟨hb61,h⟩ |⟨hb61,h⟩
 iterate 3 refine Of 62 Z Z hb61 Z ?_
 refine WL.offU 65 Z Z Z (WL.offU 65 Z Z Z (WL.offU 65 Z Z Z (Of 62 Z Z hb61 Z (qu (Bv true) (Pt Z hb61 Z) (Wz ?_)))))
 obtain rfl:=oi h
 exact Tj ⟨hle59,Z,hs45_1,hs45_2,hs45_3,Z⟩
 refine qo 62 hb61 (pt g21 5) (Fa fo25_5 hs45_1 Z) (qo 62 hb61 (Bv a0.Ok) (Lb 1 pl4 Z Z Z) (On 62 Z Z hb61 (qm (Bv a0.Ok) ?_)))
 rcases Bi h with⟨hb62,h⟩ |⟨hb62,h⟩
 refine On 65 Z Z hb62 (qM (Iv a0.Kind) hs45_3 (On 65 Z Z hb62 ?_))
 obtain ⟨r63,hr64,h⟩:=bnd h
 refine We (Ca co41 (f_ref07_has_ok a0.Kind (103:Int) _ r63 hr64) (args2 Z Z)) Z ?_
 rintro _ M65 _ hle66 ⟨_,⟨rfl,rfl⟩,rfl⟩
 refine WL.a0 (qo 65 hb62 (Bv (!r63)) (PO.not Z) (qo 62 hb61 (Bv (!r63)) (Pt Z hb62 Z) (qu (Bv (!r63)) (Pf Z hb61 Z) (Wz ?_))))
 obtain rfl:=oi h
 exact Tj ⟨(hle59.trans hle66),Z,hs45_1,hs45_2,hs45_3,Z⟩
 iterate 3 refine Of 65 Z Z hb62 Z ?_
 refine qo 62 hb61 (Bv false) (Pf Z hb62 Z) (qu (Bv false) (Pf Z hb61 Z) (Wz ?_))
 obtain rfl:=oi h
 exact Tj ⟨hle59,Z,hs45_1,hs45_2,hs45_3,Z⟩
 iterate 3 refine Of 57 Z Z hb55 Z ?_
 refine qu (Bv false) (Pf Z hb55 Z) (qm (Bv false) (qo 62 Z (pt g21 5) (Fa fo25_5 hs45_1 Z) (qo 62 Z (Bv a0.Ok) (Lb 1 pl4 Z Z Z) (On 62 Z Z Z (qm (Bv a0.Ok) ?_)))))
 rcases Bi h with⟨hb68,h⟩ |⟨hb68,h⟩
 refine On 65 Z Z hb68 (qM (Iv a0.Kind) hs45_3 (On 65 Z Z hb68 ?_))
 obtain ⟨r69,hr70,h⟩:=bnd h
 refine We (Ca co41 (f_ref07_has_ok a0.Kind (103:Int) _ r69 hr70) (args2 Z Z)) Z ?_
 rintro _ M71 _ hle72 ⟨_,⟨rfl,rfl⟩,rfl⟩
 refine WL.a0 (qo 65 hb68 (Bv (!r69)) (PO.not Z) (qo 62 Z (Bv (!r69)) (Pt Z hb68 Z) (qu (Bv (!r69)) (Pf Z Z Z) (Wz ?_))))
 obtain rfl:=oi h
 exact Tj ⟨hle72,Z,hs45_1,hs45_2,hs45_3,Z⟩
 iterate 3 refine Of 65 Z Z hb68 Z ?_
 refine qo 62 Z (Bv false) (Pf Z hb68 Z) (qu (Bv false) (Pf Z Z Z) (Wz ?_))
 obtain rfl:=oi h
 exact Tj ⟨lr,Z,hs45_1,hs45_2,hs45_3,Z⟩
 rintro ρ54 M54 H54 ⟨hle54,rfl,hs54_1,hs54_2,hs54_3,hs54_70⟩
 have L54:=L45.trans hle54
 refine Ch h hs54_70 (fun hb74 h=> ?_) (fun hb74 h=> ?_)
 refine Sr ?_
 obtain ⟨r75,hr76,h⟩:=bnd h
 refine We (Ca co40 (f_ref07_no_ok ⟨#[102,108,97,103]⟩ (1:Int) (1:Int) _ r75 hr76) (args3 Z Z Z)) Z ?_
 rintro _ M77 _ hle78 ⟨_,⟨rfl,rfl⟩,rfl⟩
 refine WL.a0 (We (Sg (v:=(a42_ r75)) (vl:=(l42 r75)) (arr':=(l42 r75)) Z sz42 hs54_2 Z (onb Z) Z Z Z) Z ?_)
 rintro _ _ _ - ⟨rfl,rfl⟩
 exact Nt (Cr (Tr (Qa (Dr (Rd h [] (fun _ hs=>hs.drop) (resultsL1 Z (Rc (cs:=(l42 r75)) 0 ag42 sz42 hs54_2 Z Z)) (L54.trans hle78) ⟨Z,Z⟩)))))
 refine Ck (Tc (Cs (Cs (WC.draw [0,1,0,4,15,31] (.pure 0 (.pure 1 (.pure 2 (.alt 3 (.alt 4 (.pure 5 .done) .none) .none)))) mixed (by kernel_rfl) (qt (pt g21 6) Z (Fa fo25_6 hs54_1 Z) (qt (Iv a0.Leader) Z (Lb 1 pl3 Z Z Z) (qt (Iv a0.Kind) Z (Mv hs54_3) ?_)))))))
 obtain ⟨r80,hr81,h⟩:=bnd h
 refine Ta Z (Ca co41 (f_ref07_has_ok a0.Kind (108:Int) _ r80 hr81) (args2 Z Z)) Z ?_ ?_
 rintro _ M82 _ hle83 ⟨_,⟨rfl,rfl⟩,rfl⟩
 have L83:=L54.trans hle83
 refine⟨(Sk 1 Z (Ss Z (Lb 1 pl3 Z Z Z) Z (Ss Z (Fa fo25_6 hs54_1 Z) Z trivial))), ?_⟩
 refine WT.a0 ?_
 obtain ⟨r85,hr86,h⟩:=bnd h
 refine Ta Z (Ca co42 (f_ref07_num_ok a0.Leader r80 (1073741824:Int) _ r85 hr86) (args3 Z Z Z)) Z ?_ ?_
 rintro _ M87 _ hle88 ⟨_,⟨rfl,rfl⟩,rfl⟩
 have L88:=L83.trans hle88
 refine⟨(Sl Z), ?_⟩
 refine WT.a0 (qt (Bv (!r85)) Z (PO.not Z) (Ti (Tc (Ch h Z (fun hb90 h=> ?_) (fun hb90 h=> ?_)))))
 refine Sr (qu (pt g21 6) (Fa fo25_6 hs54_1 Z) (qu (Iv a0.Leader) (Lb 1 pl3 Z Z Z) ?_))
 obtain ⟨r91,hr92,h⟩:=bnd h
 refine We (Ca co40 (f_ref07_no_ok ⟨#[108,101,97,100,101,114]⟩ a0.Leader (2:Int) _ r91 hr92) (args3 Z Z Z)) Z ?_
 rintro _ M93 _ hle94 ⟨_,⟨rfl,rfl⟩,rfl⟩
 refine WL.a0 (We (Sg (v:=(a42_ r91)) (vl:=(l42 r91)) (arr':=(l42 r91)) Z sz42 hs54_2 Z (onb Z) Z Z Z) Z ?_)
 rintro _ _ _ - ⟨rfl,rfl⟩
 exact Nt (Cr (Tr (Qa (Dr (Rd h [] (fun _ hs=>hs.drop) (resultsL1 Z (Rc (cs:=(l42 r91)) 0 ag42 sz42 hs54_2 Z Z)) (L88.trans hle94) ⟨Z,Z⟩)))))
 refine Ck (Tc (Cs ?_))
 obtain ⟨x96,hj97,h⟩:=bnd h
 refine Jf (fun(x96:Bool) ρ' M' H'=>M87.le M'∧[(g22, .cells z42_.toArray 42 (0,0))]::[(g21, .cells (l25 a0 v0_11 v0_14).toArray 25 (0,0))]::F=H'∧ρ' 1=(pt g21 0)∧ρ' 2=(pt g22 0)∧ρ' 3=(Iv a0.Kind)∧ρ' 94=(Bv x96)) x96 ?_ ?_
 have h:=hj97
 refine WC.draw [0,1,0,4,15,31,63,127,255,127,639,2047,4095,8191] (.pure 0 (.pure 1 (.pure 2 (.alt 3 (.alt 4 (.pure 5 (.pure 6 (.pure 7 (.pure 8 (.pure 9 (.alt 10 (.alt 11 (.pure 12 (.pure 13 .done)) .none) .none)))))) .none) .none)))) mixed (by kernel_rfl) (qt (pt g21 7) Z (Fa fo25_7 hs54_1 Z) (qt (Iv a0.At) Z (Lb 1 pl3 Z Z Z) (qt (Iv a0.Kind) Z (Mv hs54_3) ?_)))
 obtain ⟨r98,hr99,h⟩:=bnd h
 refine Ta Z (Ca co41 (f_ref07_has_ok a0.Kind (112:Int) _ r98 hr99) (args2 Z Z)) Z ?_ ?_
 rintro _ M100 _ hle101 ⟨_,⟨rfl,rfl⟩,rfl⟩
 refine⟨(Sk 1 Z (Ss Z (Lb 1 pl3 Z Z Z) Z (Ss Z (Fa fo25_7 hs54_1 Z) Z trivial))), ?_⟩
 refine WT.a0 ?_
 obtain ⟨r103,hr104,h⟩:=bnd h
 refine Ta Z (Ca co42 (f_ref07_num_ok a0.At r98 (1073741824:Int) _ r103 hr104) (args3 Z Z Z)) Z ?_ ?_
 rintro _ M105 _ hle106 ⟨_,⟨rfl,rfl⟩,rfl⟩
 refine⟨(Sl Z), ?_⟩
 refine WT.a0 (qt (Bv (!r103)) Z (PO.not Z) (qt (Bv (!r103)) Z (Mv Z) ?_))
 rcases Bi h with⟨hb108,h⟩ |⟨hb108,h⟩
 refine Tf 87 Z Z Z hb108 Z (Tf 87 Z Z Z hb108 Z (Tf 87 Z Z Z hb108 Z (Tg 87 Z Z Z hb108 Z ⟨(Sk 1 Z (St (Sf 87 Z Z Z hb108 Z) (St (Sf 87 Z Z Z hb108 Z) (Sl Z)))), ?_⟩ ?_)))
 refine Tg 87 Z Z Z hb108 Z ⟨(Sl Z), ?_⟩ ?_
 refine Tf 87 Z Z Z hb108 Z (qt (Bv true) Z (Pt Z hb108 Z) (Ti ?_))
 obtain rfl:=oi h
 exact Tj ⟨(hle101.trans hle106),Z,hs54_1,hs54_2,hs54_3,Z⟩
 exact Tz
 exact Tz
 refine Tn (pt g21 8) 87 Z Z Z hb108 (Fa fo25_8 hs54_1 Z) Z (Tn (Iv a0.AtTerm) 87 Z Z Z hb108 (Lb 1 pl3 Z Z Z) Z (Tn (Iv a0.Kind) 87 Z Z Z hb108 (Mv hs54_3) Z ?_))
 obtain ⟨r109,hr110,h⟩:=bnd h
 refine WT.altOn 87 Z Z Z hb108 (Ca co41 (f_ref07_has_ok a0.Kind (112:Int) _ r109 hr110) (args2 Z Z)) Z ?_ ?_
 rintro _ M111 _ hle112 ⟨_,⟨rfl,rfl⟩,rfl⟩
 refine⟨(Sk 1 Z (St (StabA.on 87 Z Z Z hb108 (Lb 1 pl3 Z Z Z) Z) (St (StabA.on 87 Z Z Z hb108 (Fa fo25_8 hs54_1 Z) Z) (Sl Z)))), ?_⟩
 refine WT.a0 ?_
 obtain ⟨r114,hr115,h⟩:=bnd h
 refine WT.altOn 87 Z Z Z hb108 (Ca co42 (f_ref07_num_ok a0.AtTerm r109 (1073741824:Int) _ r114 hr115) (args3 Z Z Z)) Z ?_ ?_
 rintro _ M116 _ hle117 ⟨_,⟨rfl,rfl⟩,rfl⟩
 refine⟨(Sl Z), ?_⟩
 refine WT.a0 (Tn (Bv (!r114)) 87 Z Z Z hb108 (PO.not Z) Z (qt (Bv (!r114)) Z (Pf Z hb108 Z) (Ti ?_)))
 obtain rfl:=oi h
 exact Tj ⟨(((hle101.trans hle106).trans hle112).trans hle117),Z,hs54_1,hs54_2,hs54_3,Z⟩
 exact Tz
 exact Tz
 exact Tz
 exact Tz
 rintro ρ97 M97 H97 ⟨hle97,rfl,hs97_1,hs97_2,hs97_3,hs97_94⟩
 have L97:=L88.trans hle97
 refine Ch h hs97_94 (fun hb119 h=> ?_) (fun hb119 h=> ?_)
 refine Sr (qu (pt g21 7) (Fa fo25_7 hs97_1 Z) (qu (Iv a0.At) (Lb 1 pl3 Z Z Z) ?_))
 obtain ⟨r120,hr121,h⟩:=bnd h
 refine We (Ca co40 (f_ref07_no_ok ⟨#[112,108,97,99,101]⟩ a0.At (2:Int) _ r120 hr121) (args3 Z Z Z)) Z ?_
 rintro _ M122 _ hle123 ⟨_,⟨rfl,rfl⟩,rfl⟩
 refine WL.a0 (We (Sg (v:=(a42_ r120)) (vl:=(l42 r120)) (arr':=(l42 r120)) Z sz42 hs97_2 Z (onb Z) Z Z Z) Z ?_)
 rintro _ _ _ - ⟨rfl,rfl⟩
 exact Nt (Cr (Tr (Qa (Dr (Rd h [] (fun _ hs=>hs.drop) (resultsL1 Z (Rc (cs:=(l42 r120)) 0 ag42 sz42 hs97_2 Z Z)) (L97.trans hle123) ⟨Z,Z⟩)))))
 refine Ck (Tc (Cs (Cs (WC.draw [0,1,0,4,15,31] (.pure 0 (.pure 1 (.pure 2 (.alt 3 (.alt 4 (.pure 5 .done) .none) .none)))) mixed (by kernel_rfl) (qt (pt g21 9) Z (Fa fo25_9 hs97_1 Z) (qt (Iv a0.High) Z (Lb 1 pl3 Z Z Z) (qt (Iv a0.Kind) Z (Mv hs97_3) ?_)))))))
 obtain ⟨r125,hr126,h⟩:=bnd h
 refine Ta Z (Ca co41 (f_ref07_has_ok a0.Kind (104:Int) _ r125 hr126) (args2 Z Z)) Z ?_ ?_
 rintro _ M127 _ hle128 ⟨_,⟨rfl,rfl⟩,rfl⟩
 have L128:=L97.trans hle128
 refine⟨(Sk 1 Z (Ss Z (Lb 1 pl3 Z Z Z) Z (Ss Z (Fa fo25_9 hs97_1 Z) Z trivial))), ?_⟩
 refine WT.a0 ?_
 obtain ⟨r130,hr131,h⟩:=bnd h
 refine Ta Z (Ca co42 (f_ref07_num_ok a0.High r125 (1073741824:Int) _ r130 hr131) (args3 Z Z Z)) Z ?_ ?_
 rintro _ M132 _ hle133 ⟨_,⟨rfl,rfl⟩,rfl⟩
 have L133:=L128.trans hle133
 refine⟨(Sl Z), ?_⟩
 refine WT.a0 (qt (Bv (!r130)) Z (PO.not Z) (Ti (Tc (Ch h Z (fun hb135 h=> ?_) (fun hb135 h=> ?_)))))
 refine Sr (qu (pt g21 9) (Fa fo25_9 hs97_1 Z) (qu (Iv a0.High) (Lb 1 pl3 Z Z Z) ?_))
 obtain ⟨r136,hr137,h⟩:=bnd h
 refine We (Ca co40 (f_ref07_no_ok ⟨#[104,105,103,104]⟩ a0.High (2:Int) _ r136 hr137) (args3 Z Z Z)) Z ?_
 rintro _ M138 _ hle139 ⟨_,⟨rfl,rfl⟩,rfl⟩
 refine WL.a0 (We (Sg (v:=(a42_ r136)) (vl:=(l42 r136)) (arr':=(l42 r136)) Z sz42 hs97_2 Z (onb Z) Z Z Z) Z ?_)
 rintro _ _ _ - ⟨rfl,rfl⟩
 exact Nt (Cr (Tr (Qa (Dr (Rd h [] (fun _ hs=>hs.drop) (resultsL1 Z (Rc (cs:=(l42 r136)) 0 ag42 sz42 hs97_2 Z Z)) (L133.trans hle139) ⟨Z,Z⟩)))))
 refine Ck (Tc (Cs (Cs (WC.draw [0,1,0,4,15,31] (.pure 0 (.pure 1 (.pure 2 (.alt 3 (.alt 4 (.pure 5 .done) .none) .none)))) mixed (by kernel_rfl) (qt (pt g21 10) Z (Fa fo25_10 hs97_1 Z) (qt (Iv a0.Code) Z (Lb 1 pl3 Z Z Z) (qt (Iv a0.Kind) Z (Mv hs97_3) ?_)))))))
 obtain ⟨r141,hr142,h⟩:=bnd h
 refine Ta Z (Ca co41 (f_ref07_has_ok a0.Kind (99:Int) _ r141 hr142) (args2 Z Z)) Z ?_ ?_
 rintro _ M143 _ hle144 ⟨_,⟨rfl,rfl⟩,rfl⟩
 have L144:=L133.trans hle144
 refine⟨(Sk 1 Z (Ss Z (Lb 1 pl3 Z Z Z) Z (Ss Z (Fa fo25_10 hs97_1 Z) Z trivial))), ?_⟩
 refine WT.a0 ?_
 obtain ⟨r146,hr147,h⟩:=bnd h
 refine Ta Z (Ca co42 (f_ref07_num_ok a0.Code r141 (21:Int) _ r146 hr147) (args3 Z Z Z)) Z ?_ ?_
 rintro _ M148 _ hle149 ⟨_,⟨rfl,rfl⟩,rfl⟩
 have L149:=L144.trans hle149
 refine⟨(Sl Z), ?_⟩
 refine WT.a0 (qt (Bv (!r146)) Z (PO.not Z) (Ti (Tc (Ch h Z (fun hb151 h=> ?_) (fun hb151 h=> ?_)))))
 refine Sr (qu (pt g21 10) (Fa fo25_10 hs97_1 Z) (qu (Iv a0.Code) (Lb 1 pl3 Z Z Z) ?_))
 obtain ⟨r152,hr153,h⟩:=bnd h
 refine We (Ca co40 (f_ref07_no_ok ⟨#[99,111,100,101]⟩ a0.Code (2:Int) _ r152 hr153) (args3 Z Z Z)) Z ?_
 rintro _ M154 _ hle155 ⟨_,⟨rfl,rfl⟩,rfl⟩
 refine WL.a0 (We (Sg (v:=(a42_ r152)) (vl:=(l42 r152)) (arr':=(l42 r152)) Z sz42 hs97_2 Z (onb Z) Z Z Z) Z ?_)
 rintro _ _ _ - ⟨rfl,rfl⟩
 exact Nt (Cr (Tr (Qa (Dr (Rd h [] (fun _ hs=>hs.drop) (resultsL1 Z (Rc (cs:=(l42 r152)) 0 ag42 sz42 hs97_2 Z Z)) (L149.trans hle155) ⟨Z,Z⟩)))))
 refine Ck (Tc (Cs ?_))
 obtain ⟨x157,hj158,h⟩:=bnd h
 refine Jf (fun(x157:Bool) ρ' M' H'=>M148.le M'∧[(g22, .cells z42_.toArray 42 (0,0))]::[(g21, .cells (l25 a0 v0_11 v0_14).toArray 25 (0,0))]::F=H'∧ρ' 1=(pt g21 0)∧ρ' 2=(pt g22 0)∧ρ' 3=(Iv a0.Kind)∧ρ' 129=(Bv x157)) x157 ?_ ?_
 have h:=hj158
 refine WC.draw [0,1,0,4,15,31,63,127,255,127,639,2047,4095,8191] (.pure 0 (.pure 1 (.pure 2 (.alt 3 (.alt 4 (.pure 5 (.pure 6 (.pure 7 (.pure 8 (.pure 9 (.alt 10 (.alt 11 (.pure 12 (.pure 13 .done)) .none) .none)))))) .none) .none)))) mixed (by kernel_rfl) (qt (pt g21 12) Z (Fa fo25_12 hs97_1 Z) (qt (Iv a0.Size) Z (Lb 1 pl3 Z Z Z) (qt (Iv a0.Kind) Z (Mv hs97_3) ?_)))
 obtain ⟨r159,hr160,h⟩:=bnd h
 refine Ta Z (Ca co41 (f_ref07_has_ok a0.Kind (115:Int) _ r159 hr160) (args2 Z Z)) Z ?_ ?_
 rintro _ M161 _ hle162 ⟨_,⟨rfl,rfl⟩,rfl⟩
 refine⟨(Sk 1 Z (Ss Z (Lb 1 pl3 Z Z Z) Z (Ss Z (Fa fo25_12 hs97_1 Z) Z trivial))), ?_⟩
 refine WT.a0 ?_
 obtain ⟨r164,hr165,h⟩:=bnd h
 refine Ta Z (Ca co42 (f_ref07_num_ok a0.Size r159 (1073741824:Int) _ r164 hr165) (args3 Z Z Z)) Z ?_ ?_
 rintro _ M166 _ hle167 ⟨_,⟨rfl,rfl⟩,rfl⟩
 refine⟨(Sl Z), ?_⟩
 refine WT.a0 (qt (Bv (!r164)) Z (PO.not Z) (qt (Bv (!r164)) Z (Mv Z) ?_))
 rcases Bi h with⟨hb169,h⟩ |⟨hb169,h⟩
 refine Tf 122 Z Z Z hb169 Z (Tf 122 Z Z Z hb169 Z (Tf 122 Z Z Z hb169 Z (Tg 122 Z Z Z hb169 Z ⟨(Sk 1 Z (St (Sf 122 Z Z Z hb169 Z) (St (Sf 122 Z Z Z hb169 Z) (Sl Z)))), ?_⟩ ?_)))
 refine Tg 122 Z Z Z hb169 Z ⟨(Sl Z), ?_⟩ ?_
 refine Tf 122 Z Z Z hb169 Z (qt (Bv true) Z (Pt Z hb169 Z) (Ti ?_))
 obtain rfl:=oi h
 exact Tj ⟨(hle162.trans hle167),Z,hs97_1,hs97_2,hs97_3,Z⟩
 exact Tz
 exact Tz
 refine Tn (pt g21 13) 122 Z Z Z hb169 (Fa fo25_13 hs97_1 Z) Z (Tn (Iv a0.Pos) 122 Z Z Z hb169 (Lb 1 pl3 Z Z Z) Z (Tn (Iv a0.Kind) 122 Z Z Z hb169 (Mv hs97_3) Z ?_))
 obtain ⟨r170,hr171,h⟩:=bnd h
 refine WT.altOn 122 Z Z Z hb169 (Ca co41 (f_ref07_has_ok a0.Kind (111:Int) _ r170 hr171) (args2 Z Z)) Z ?_ ?_
 rintro _ M172 _ hle173 ⟨_,⟨rfl,rfl⟩,rfl⟩
 refine⟨(Sk 1 Z (St (StabA.on 122 Z Z Z hb169 (Lb 1 pl3 Z Z Z) Z) (St (StabA.on 122 Z Z Z hb169 (Fa fo25_13 hs97_1 Z) Z) (Sl Z)))), ?_⟩
 refine WT.a0 ?_
 obtain ⟨r175,hr176,h⟩:=bnd h
 refine WT.altOn 122 Z Z Z hb169 (Ca co42 (f_ref07_num_ok a0.Pos r170 (1073741824:Int) _ r175 hr176) (args3 Z Z Z)) Z ?_ ?_
 rintro _ M177 _ hle178 ⟨_,⟨rfl,rfl⟩,rfl⟩
 refine⟨(Sl Z), ?_⟩
 refine WT.a0 (Tn (Bv (!r175)) 122 Z Z Z hb169 (PO.not Z) Z (qt (Bv (!r175)) Z (Pf Z hb169 Z) (Ti ?_)))
 obtain rfl:=oi h
 exact Tj ⟨(((hle162.trans hle167).trans hle173).trans hle178),Z,hs97_1,hs97_2,hs97_3,Z⟩
 exact Tz
 exact Tz
 exact Tz
 exact Tz
 rintro ρ158 M158 H158 ⟨hle158,rfl,hs158_1,hs158_2,hs158_3,hs158_129⟩
 have L158:=L149.trans hle158
 refine Ch h hs158_129 (fun hb180 h=> ?_) (fun hb180 h=> ?_)
 refine Sr (qu (pt g21 12) (Fa fo25_12 hs158_1 Z) (qu (Iv a0.Size) (Lb 1 pl3 Z Z Z) ?_))
 obtain ⟨r181,hr182,h⟩:=bnd h
 refine We (Ca co40 (f_ref07_no_ok ⟨#[115,105,122,101]⟩ a0.Size (2:Int) _ r181 hr182) (args3 Z Z Z)) Z ?_
 rintro _ M183 _ hle184 ⟨_,⟨rfl,rfl⟩,rfl⟩
 refine WL.a0 (We (Sg (v:=(a42_ r181)) (vl:=(l42 r181)) (arr':=(l42 r181)) Z sz42 hs158_2 Z (onb Z) Z Z Z) Z ?_)
 rintro _ _ _ - ⟨rfl,rfl⟩
 exact Nt (Cr (Tr (Qa (Dr (Rd h [] (fun _ hs=>hs.drop) (resultsL1 Z (Rc (cs:=(l42 r181)) 0 ag42 sz42 hs158_2 Z Z)) (L158.trans hle184) ⟨Z,Z⟩)))))
 refine Ck (Tc (Cs ?_))
 obtain ⟨x186,hj187,h⟩:=bnd h
 refine Jf (fun(x186:Bool) ρ' M' H'=>M158.le M'∧[(g22, .cells z42_.toArray 42 (0,0))]::[(g21, .cells (l25 a0 v0_11 v0_14).toArray 25 (0,0))]::F=H'∧ρ' 1=(pt g21 0)∧ρ' 2=(pt g22 0)∧ρ' 3=(Iv a0.Kind)∧ρ' 147=(Bv x186)) x186 ?_ ?_
 have h:=hj187
 refine Cg (qu (pt g21 14) (Fa fo25_14 hs158_1 Z) (qu v0_14 (Lb 1 pl23 Z Z Z) ?_))
 have h0_14:=h0_14.mono L158
 refine qu (Iv (a0.Data.length:Int)) (PO.lenS Tryz.underlying23 Z h0_14.len) (qu (Bv (decide ((512:Int)<(a0.Data.length:Int)))) (PO.gtr Z Z) (qm (Bv (decide ((512:Int)<(a0.Data.length:Int)))) ?_))
 rcases Bi h with⟨hb188,h⟩ |⟨hb188,h⟩
 iterate 5 refine Of 137 Z Z hb188 Z ?_
 refine WL.offU 142 Z Z Z (WL.offU 142 Z Z Z (WL.offU 142 Z Z Z (Of 137 Z Z hb188 Z (qu (Bv true) (Pt Z hb188 Z) (Wz ?_)))))
 obtain rfl:=oi h
 exact Tj ⟨lr,Z,hs158_1,hs158_2,hs158_3,Z⟩
 refine qo 137 hb188 (pt g21 14) (Fa fo25_14 hs158_1 Z) (qo 137 hb188 v0_14 (Lb 1 pl23 Z Z Z) (qo 137 hb188 (Iv (a0.Data.length:Int)) (PO.lenS Tryz.underlying23 Z h0_14.len) (qo 137 hb188 (Bv (decide ((0:Int)<(a0.Data.length:Int)))) (PO.gtr Z Z) (On 137 Z Z hb188 (qm (Bv (decide ((0:Int)<(a0.Data.length:Int)))) ?_)))))
 rcases Bi h with⟨hb189,h⟩ |⟨hb189,h⟩
 refine On 142 Z Z hb189 (qM (Iv a0.Kind) hs158_3 (On 142 Z Z hb189 ?_))
 obtain ⟨r190,hr191,h⟩:=bnd h
 refine We (Ca co41 (f_ref07_has_ok a0.Kind (100:Int) _ r190 hr191) (args2 Z Z)) Z ?_
 rintro _ M192 _ hle193 ⟨_,⟨rfl,rfl⟩,rfl⟩
 refine WL.a0 (qo 142 hb189 (Bv (!r190)) (PO.not Z) (qo 137 hb188 (Bv (!r190)) (Pt Z hb189 Z) (qu (Bv (!r190)) (Pf Z hb188 Z) (Wz ?_))))
 obtain rfl:=oi h
 exact Tj ⟨hle193,Z,hs158_1,hs158_2,hs158_3,Z⟩
 iterate 3 refine Of 142 Z Z hb189 Z ?_
 refine qo 137 hb188 (Bv false) (Pf Z hb189 Z) (qu (Bv false) (Pf Z hb188 Z) (Wz ?_))
 obtain rfl:=oi h
 exact Tj ⟨lr,Z,hs158_1,hs158_2,hs158_3,Z⟩
 rintro ρ187 M187 H187 ⟨hle187,rfl,hs187_1,hs187_2,hs187_3,hs187_147⟩
 have L187:=L158.trans hle187
 refine Ch h hs187_147 (fun hb195 h=> ?_) (fun hb195 h=> ?_)
 refine Sr (qu (pt g21 14) (Fa fo25_14 hs187_1 Z) (qu v0_14 (Lb 1 pl23 Z Z Z) ?_))
 have h0_14:=h0_14.mono L187
 refine qu (Iv (a0.Data.length:Int)) (PO.lenS Tryz.underlying23 Z h0_14.len) ?_
 obtain ⟨r196,hr197,h⟩:=bnd h
 refine We (Ca co40 (f_ref07_no_ok ⟨#[100,97,116,97]⟩ (a0.Data.length:Int) (6:Int) _ r196 hr197) (args3 Z Z Z)) Z ?_
 rintro _ M198 _ hle199 ⟨_,⟨rfl,rfl⟩,rfl⟩
 refine WL.a0 (We (Sg (v:=(a42_ r196)) (vl:=(l42 r196)) (arr':=(l42 r196)) Z sz42 hs187_2 Z (onb Z) Z Z Z) Z ?_)
 rintro _ _ _ - ⟨rfl,rfl⟩
 exact Nt (Cr (Tr (Qa (Dr (Rd h [] (fun _ hs=>hs.drop) (resultsL1 Z (Rc (cs:=(l42 r196)) 0 ag42 sz42 hs187_2 Z Z)) (L187.trans hle199) ⟨Z,Z⟩)))))
 refine Ck (Tc (Cs ?_))
 obtain ⟨x201,hj202,h⟩:=bnd h
 refine Jf (fun(x201:Bool) ρ' M' H'=>M187.le M'∧[(g22, .cells z42_.toArray 42 (0,0))]::[(g21, .cells (l25 a0 v0_11 v0_14).toArray 25 (0,0))]::F=H'∧ρ' 1=(pt g21 0)∧ρ' 2=(pt g22 0)∧ρ' 166=(Bv x201)) x201 ?_ ?_
 have h:=hj202
 refine Cg (qu (pt g21 11) (Fa fo25_11 hs187_1 Z) (qu v0_11 (Lb 1 pl22 Z Z Z) ?_))
 have h0_11:=h0_11.mono L187
 refine qu (Iv (a0.Batches.length:Int)) (PO.lenS Tryz.underlying22 Z h0_11.len) (qu (Bv (decide ((8:Int)<(a0.Batches.length:Int)))) (PO.gtr Z Z) (qm (Bv (decide ((8:Int)<(a0.Batches.length:Int)))) ?_))
 rcases Bi h with⟨hb203,h⟩ |⟨hb203,h⟩
 iterate 5 refine Of 156 Z Z hb203 Z ?_
 refine WL.offU 161 Z Z Z (WL.offU 161 Z Z Z (WL.offU 161 Z Z Z (Of 156 Z Z hb203 Z (qu (Bv true) (Pt Z hb203 Z) (Wz ?_)))))
 obtain rfl:=oi h
 exact Tj ⟨lr,Z,hs187_1,hs187_2,Z⟩
 refine qo 156 hb203 (pt g21 11) (Fa fo25_11 hs187_1 Z) (qo 156 hb203 v0_11 (Lb 1 pl22 Z Z Z) (qo 156 hb203 (Iv (a0.Batches.length:Int)) (PO.lenS Tryz.underlying22 Z h0_11.len) (qo 156 hb203 (Bv (decide ((0:Int)<(a0.Batches.length:Int)))) (PO.gtr Z Z) (On 156 Z Z hb203 (qm (Bv (decide ((0:Int)<(a0.Batches.length:Int)))) ?_)))))
 rcases Bi h with⟨hb204,h⟩ |⟨hb204,h⟩
 refine On 161 Z Z hb204 (qM (Iv a0.Kind) hs187_3 (On 161 Z Z hb204 ?_))
 obtain ⟨r205,hr206,h⟩:=bnd h
 refine We (Ca co41 (f_ref07_has_ok a0.Kind (98:Int) _ r205 hr206) (args2 Z Z)) Z ?_
 rintro _ M207 _ hle208 ⟨_,⟨rfl,rfl⟩,rfl⟩
 refine WL.a0 (qo 161 hb204 (Bv (!r205)) (PO.not Z) (qo 156 hb203 (Bv (!r205)) (Pt Z hb204 Z) (qu (Bv (!r205)) (Pf Z hb203 Z) (Wz ?_))))
 obtain rfl:=oi h
 exact Tj ⟨hle208,Z,hs187_1,hs187_2,Z⟩
 iterate 3 refine Of 161 Z Z hb204 Z ?_
 refine qo 156 hb203 (Bv false) (Pf Z hb204 Z) (qu (Bv false) (Pf Z hb203 Z) (Wz ?_))
 obtain rfl:=oi h
 exact Tj ⟨lr,Z,hs187_1,hs187_2,Z⟩
 rintro ρ202 M202 H202 ⟨hle202,rfl,hs202_1,hs202_2,hs202_166⟩
 have L202:=L187.trans hle202
 refine Ch h hs202_166 (fun hb210 h=> ?_) (fun hb210 h=> ?_)
 refine Sr (qu (pt g21 11) (Fa fo25_11 hs202_1 Z) (qu v0_11 (Lb 1 pl22 Z Z Z) ?_))
 have h0_11:=h0_11.mono L202
 refine qu (Iv (a0.Batches.length:Int)) (PO.lenS Tryz.underlying22 Z h0_11.len) ?_
 obtain ⟨r211,hr212,h⟩:=bnd h
 refine We (Ca co40 (f_ref07_no_ok ⟨#[98,97,116,99,104,101,115]⟩ (a0.Batches.length:Int) (6:Int) _ r211 hr212) (args3 Z Z Z)) Z ?_
 rintro _ M213 _ hle214 ⟨_,⟨rfl,rfl⟩,rfl⟩
 refine WL.a0 (We (Sg (v:=(a42_ r211)) (vl:=(l42 r211)) (arr':=(l42 r211)) Z sz42 hs202_2 Z (onb Z) Z Z Z) Z ?_)
 rintro _ _ _ - ⟨rfl,rfl⟩
 exact Nt (Cr (Tr (Qa (Dr (Rd h [] (fun _ hs=>hs.drop) (resultsL1 Z (Rc (cs:=(l42 r211)) 0 ag42 sz42 hs202_2 Z Z)) (L202.trans hle214) ⟨Z,Z⟩)))))
 refine Ck (Tc ?_)
 obtain ⟨j216,hj216,h⟩:=bnd h
 refine WC.joinE (fun(_:Unit) ρ' M' H'=>M202.le M'∧[(g22, .cells z42_.toArray 42 (0,0))]::[(g21, .cells (l25 a0 v0_11 v0_14).toArray 25 (0,0))]::F=H'∧ρ' 2=(pt g22 0)) j216 ?_ ?_
 have h3216:=h
 have h:=hj216
 refine Sr (qa (Iv 0) (Nt (Bk ?_)))
 obtain ⟨e217,he217,hK217⟩:=bnd h
 clear h
 refine WC.loop he217 (fun(x218:Int) ρ' M' H'=>M202.le M'∧[(g22, .cells z42_.toArray 42 (0,0))]::[(g21, .cells (l25 a0 v0_11 v0_14).toArray 25 (0,0))]::F=H'∧ρ' 1=(pt g21 0)∧ρ' 2=(pt g22 0)∧ρ' 4=(Iv x218)) ?_ ?_
 exact⟨lr,Z,hs202_1,hs202_2,Z⟩
 rintro x218 o217 ρ217 M217 H217 h ⟨hle217,rfl,hs217_1,hs217_2,hs217_4⟩
 unfold f_ref07_Check_l0 at h
 refine Cs (Sr (qM (Iv x218) hs217_4 (qu (pt g21 11) (Fa fo25_11 hs217_1 Z) (qu v0_11 (Lb 1 pl22 Z Z Z) ?_))))
 have h0_11:=h0_11.mono (L202.trans hle217)
 refine qu (Iv (a0.Batches.length:Int)) (PO.lenS Tryz.underlying22 Z h0_11.len) (qu (Bv (decide (x218<(a0.Batches.length:Int)))) (PO.lss Z Z) (Nt (Ch h Z (fun hb223 h=> ?_) (fun hb223 h=> ?_))))
 refine Ck (Tc (Cs (Bk (Sr (qu (pt g21 11) (Fa fo25_11 hs217_1 Z) (qu v0_11 (Lb 1 pl22 Z Z Z) (qM (Iv x218) hs217_4 ?_)))))))
 obtain ⟨hg224,h⟩:=grd_i h
 obtain ⟨p225,cs226,hat227,hrc228,hhas229⟩:=h0_11.at hg224.1 hg224.2 (by decide)
 obtain ⟨vw230_2,rfl,hw230_2⟩:=kd_api_Batch_open hrc228
 refine qu (.pointer (some p225)) (PO.indexAddr (n:=a0.Batches.length) Tryz.underlying22 sz55 Z Z hg224.1 hg224.2 hat227) (qu (a55_ (rd a0.Batches x218) vw230_2) (PO.loadMA (cs:=(l55 (rd a0.Batches x218) vw230_2)) ag55 sz55 Z hhas229) ?_)
 obtain ⟨r231,hr232,h⟩:=bnd h
 refine We (Ca co43 (f_ref06_Check_ok (rd a0.Batches x218) _ _ hw230_2 r231 hr232) (args1 Z)) Z ?_
 rintro _ M233 _ hle234 ⟨_,⟨rfl,rfl⟩,rfl⟩
 refine WL.a0 (We (Al ze42 Z) Z ?_)
 rintro _ _ _ - ⟨rfl,g236,rfl,rfl⟩
 refine We (Sg (v:=(a42_ r231)) (vl:=(l42 r231)) (arr':=(l42 r231)) Z sz42 Z Z (onb Z) Z Z Z) Z ?_
 rintro _ _ _ - ⟨rfl,rfl⟩
 refine Ns (qu (pt g236 0) (Fa fo42_0 Z Z) (qu (pt g236 2) (Fa fo40_2 Z Z) (qu (Iv r231.W.Code) (Lb 0 pl38 Z Z Z) (qu (Bv (decide (r231.W.Code≠0))) (PO.neq Z Z) (Nt (Ch h Z (fun hb237 h=> ?_) (fun hb237 h=> ?_)))))))
 refine Sr (qu (pt g236 0) (Fa fo42_0 Z Z) (qu (pt g236 0) (Fa fo40_0 Z Z) (qu (Sv r231.W.Op) (Lb 0 pl9 Z Z Z) (qM (Iv x218) hs217_4 (qu (pt g236 0) (Fa fo42_0 Z Z) (qu (pt g236 2) (Fa fo40_2 Z Z) (qu (Iv r231.W.Code) (Lb 0 pl38 Z Z Z) (qu (.agg #[(Sv r231.W.Op),(Iv x218),(Iv r231.W.Code)]) (Bl (cl:=[(Sv r231.W.Op),(Iv x218),(Iv r231.W.Code)]) ze40 fp40 (Pc (Sv r231.W.Op) Z Z (Pc (Iv x218) Z Z (Pc (Iv r231.W.Code) Z Z Pz))) Z) (qu (.agg #[(Sv r231.W.Op),(Iv x218),(Iv r231.W.Code),(Iv (-1:Int))]) (Bl (cl:=[(Sv r231.W.Op),(Iv x218),(Iv r231.W.Code),(Iv (-1:Int))]) ze42 fp42 (Pc (.agg #[(Sv r231.W.Op),(Iv x218),(Iv r231.W.Code)]) Z Z (Pc (Iv (-1:Int)) Z Z Pz)) Z) (WL.f1 (We (Sg (v:=(.agg #[(Sv r231.W.Op),(Iv x218),(Iv r231.W.Code),(Iv (-1:Int))])) (vl:=[(Sv r231.W.Op),(Iv x218),(Iv r231.W.Code),(Iv (-1:Int))]) (arr':=[(Sv r231.W.Op),(Iv x218),(Iv r231.W.Code),(Iv (-1:Int))]) Z sz42 hs217_2 Z (onb Z) Z Z Z) Z ?_)))))))))))
 rintro _ _ _ - ⟨rfl,rfl⟩
 refine Nt (Cr (Br (Tr (WQ.leaveR (Sum.inr (r231.W.Op,x218,r231.W.Code,(-1:Int))) (oi h).symm (fun heq217=> ?_)))))
 subst heq217
 have h:=(elimR hK217)
 refine Br (Tr ?_)
 have h:=KK.early h h3216
 exact Qa (Dr (Qa (Dr (Rd h [] (fun _ hs=>hs.drop) (resultsL1 Z (Rc (cs:=[(Sv r231.W.Op),(Iv x218),(Iv r231.W.Code),(Iv (-1:Int))]) 0 ag42 sz42 hs217_2 Z Z)) ((L202.trans hle217).trans hle234) ⟨Z,Z⟩))))
 exact Ck (Bn (Tc (Cg (qM (Iv x218) hs217_4 (qu (Iv (IntKind.i64.wrap (x218+1))) (PO.add Z Z) (qa (Iv (IntKind.i64.wrap (x218+1))) (Wz (Dr (WQ.again (IntKind.i64.wrap (x218+1)) (oi h).symm ⟨(hle217.trans hle234),Z,hs217_1,hs217_2,Z⟩)))))))))
 refine WC.exit (WQ.thenE (WQ.leaveE (Sum.inl ()) (oi h).symm (fun heq217=> ?_)))
 subst heq217
 have h:=elimL hK217
 exact WQ.blockH (WQ.thenFE h ⟨hle217,Z,hs217_2⟩)
 rintro _ ρ216 M216 H216 rfl ⟨hle216,rfl,hs216_2⟩
 have h:=(Sum.elim_inl _ _ _).symm.trans h
 refine Sr (qu (.agg #[(Sv ⟨#[]⟩),(Iv 0),(Iv 0),(Iv (-1:Int))]) (Bl (cl:=[(Sv ⟨#[]⟩),(Iv 0),(Iv 0),(Iv (-1:Int))]) ze42 fp42 (Pc (Iv (-1:Int)) Z Z Pz) Z) (We (Sg (v:=(.agg #[(Sv ⟨#[]⟩),(Iv 0),(Iv 0),(Iv (-1:Int))])) (vl:=[(Sv ⟨#[]⟩),(Iv 0),(Iv 0),(Iv (-1:Int))]) (arr':=[(Sv ⟨#[]⟩),(Iv 0),(Iv 0),(Iv (-1:Int))]) Z sz42 hs216_2 Z (onb Z) Z Z Z) Z ?_))
 rintro _ _ _ - ⟨rfl,rfl⟩
 exact Nt (Cr (Qa (Dr (Rd h [] (fun _ hs=>hs.drop) (resultsL1 Z (Rc (cs:=[(Sv ⟨#[]⟩),(Iv 0),(Iv 0),(Iv (-1:Int))]) 0 ag42 sz42 hs216_2 Z Z)) (L202.trans hle216) ⟨Z,Z⟩))))
 exact Tz
 exact Tz
 exact Tz
 exact Tz
 exact Tz
 exact Tz
noncomputable def f_ref02_size (a0:Int):Option Int:=
 (if(decide (a0<(64:Int)))=true then(some (1:Int))else(if(decide (a0<(16384:Int)))=true then(some (2:Int))else(if(decide (a0<(1073741824:Int)))=true then(some (4:Int))else(some (8:Int)))))
def f_ref02_size_post (a0:Int):Int→Value→IM→HL→Prop:=
 fun(r0:Int) (v:Value) (M':IM) (H':HL)=>(.int .i64 r0)=v∧H'=[]
theorem f_ref02_size_ok (a0:Int) (M:IM) (res:Int) (h:f_ref02_size a0=some res):
 Tri Tryz.prog 144 #[(Uv a0)] M [] (f_ref02_size_post a0 res):=by
 unfold f_ref02_size at h
 refine Te Tryz.func144 Z Z ?_
 intro F ρ hρ
 refine Sr (qa (Iv 0) (Nt (Cs (Sr (qM (Uv a0) (hρ 0) (qu (Bv (decide (a0<64))) (PO.lss Z Z) (Nt (Ch h Z (fun hb21 h=> ?_) (fun hb21 h=> ?_)))))))))
 exact Sr (qa (Iv 1) (Nt (Cr (Tr (Rf h [] Z (Rs Z Z) lr ⟨Z,Z⟩)))))
 refine Ck (Tc (Cs (Sr (qM (Uv a0) (hρ 0) (qu (Bv (decide (a0<16384))) (PO.lss Z Z) (Nt (Ch h Z (fun hb22 h=> ?_) (fun hb22 h=> ?_))))))))
 exact Sr (qa (Iv 2) (Nt (Cr (Tr (Rf h [] Z (Rs Z Z) lr ⟨Z,Z⟩)))))
 refine Ck (Tc (Cs (Sr (qM (Uv a0) (hρ 0) (qu (Bv (decide (a0<1073741824))) (PO.lss Z Z) (Nt (Ch h Z (fun hb23 h=> ?_) (fun hb23 h=> ?_))))))))
 exact Sr (qa (Iv 4) (Nt (Cr (Tr (Rf h [] Z (Rs Z Z) lr ⟨Z,Z⟩)))))
 exact Ck (Tc (Sr (qa (Iv 8) (Nt (Cr (Rf h [] Z (Rs Z Z) lr ⟨Z,Z⟩))))))
noncomputable def f_ref02_Num_l0 (s_:(Int×(List Int)×Int)):Option ((Int×(List Int)×Int)⊕(List Int)):=
 match s_ with
 |(x36,x37,x38)=>
 (if(decide ((0:Int)≤x38))=true then(grd (0≤x38∧x38<x37.length) (some (Sum.inl (IntKind.u64.wrap (x36.tdiv (256:Int)),x37.set (x38).toNat (IntKind.u8.wrap (x36.tmod (256:Int))),IntKind.i64.wrap (x38 - (1:Int))))))else(some (Sum.inr x37)))
noncomputable def f_ref02_Num_l1 (r24:Int) (s_:(Int×Int)):Option ((Int×Int)⊕Int):=
 match s_ with
 |(x53,x54)=>
 (if(decide (x54<r24))=true then(some (Sum.inl (IntKind.u8.wrap (x53+(64:Int)),IntKind.i64.wrap (x54*(2:Int)))))else(some (Sum.inr x53)))
noncomputable def f_ref02_Num (a0:Int):Option (List Int):=
 (((if(decide ((4611686018427387903:Int)<a0))=true then(some (4611686018427387903:Int))else(some a0)):Option Int).bind fun x21=>((f_ref02_size x21).bind fun r24=>(grd (0≤r24∧r24≤274877906944) ((((iter (f_ref02_Num_l0) (x21,List.replicate (r24).toNat (0:Int),IntKind.i64.wrap (r24 - (1:Int)))).bind (fun(x39:(List Int))=>(some x39))):Option (List Int)).bind fun x33=>((((iter (f_ref02_Num_l1 r24) ((0:Int),(1:Int))).bind (fun(x55:Int)=>(some x55))):Option Int).bind fun x50=>(grd (0≤(0:Int)∧(0:Int)<x33.length) (grd (0≤(0:Int)∧(0:Int)<x33.length) (some (x33.set ((0:Int)).toNat (IntKind.u8.wrap ((rd x33 (0:Int))+x50)))))))))))
def f_ref02_Num_post (a0:Int):(List Int)→Value→IM→HL→Prop:=
 fun(r0:(List Int)) (v:Value) (M':IM) (H':HL)=>∃ vz0 cz0,vz0=v∧H'=[cz0]∧OwnS (Kd.int .u8) M' vz0 r0 cz0
theorem f_ref02_Num_ok (a0:Int) (M:IM) (res:(List Int)) (h:f_ref02_Num a0=some res):
 Tri Tryz.prog 123 #[(Uv a0)] M [] (f_ref02_Num_post a0 res):=by
 unfold f_ref02_Num at h
 refine Te Tryz.func123 Z Z ?_
 intro F ρ hρ
 refine Sr (qa Zs (Ns (qM (Uv a0) (hρ 0) (qa (Uv a0) (Nt ?_)))))
 obtain ⟨x21,hj22,h⟩:=bnd h
 refine Jf (fun(x21:Int) ρ' M' H'=>M.le M'∧F=H'∧ρ' 3=(Uv x21)) x21 ?_ ?_
 have h:=hj22
 refine Sr (qm (Uv a0) (qu (Bv (decide ((4611686018427387903:Int)<a0))) (PO.gtr Z Z) (Nt (Ch h Z (fun hb23 h=> ?_) (fun hb23 h=> ?_)))))
 refine Cg (qa (Uv 4611686018427387903) (Wz ?_))
 obtain rfl:=oi h
 exact Tj ⟨lr,Z,Z⟩
 refine Ck ?_
 obtain rfl:=oi h
 exact Tj ⟨lr,Z,Z⟩
 rintro ρ22 M22 H22 ⟨hle22,rfl,hs22_3⟩
 refine Sr (qM (Uv x21) hs22_3 ?_)
 obtain ⟨r24,hr25,h⟩:=bnd h
 refine We (Ca co144 (f_ref02_size_ok x21 _ r24 hr25) (args1 Z)) Z ?_
 rintro _ M26 _ hle27 ⟨_,⟨rfl,rfl⟩,rfl⟩
 refine WL.a0 (qa (Iv r24) (Ns (qm (Iv r24) ?_)))
 obtain ⟨hg32,h⟩:=grd_i h
 refine We (EO.makeSlice (dd:=(Kd.int .u8)) Tryz.underlying23 in5 Z Z Z Z Z hg32.1 (by decide) (makeB Z hg32.1 hg32.2)) Z ?_
 rintro v31 _ _ - ⟨rfl,c29,rfl,h30⟩
 refine qa v31 (Nt ?_)
 obtain ⟨x33,hj34,h⟩:=bnd h
 refine Jf (fun(x33:(List Int)) ρ' M' H'=>∃ vx33 cx33,M26.le M'∧cx33::F=H'∧ρ' 4=(Iv r24)∧ρ' 5=vx33∧OwnS (Kd.int .u8) M' vx33 x33 cx33) x33 ?_ ?_
 have h:=hj34
 refine Sr (qm (Iv r24) (qu (Iv (IntKind.i64.wrap (r24 - 1))) (PO.sub Z Z) (qa (Iv (IntKind.i64.wrap (r24 - 1))) (Nt (Bk ?_)))))
 obtain ⟨e35,he35,hK35⟩:=bnd h
 clear h
 refine WC.loop he35 (fun(p_:(Int×(List Int)×Int)) ρ' M' H'=>match p_ with |(x36,x37,x38)=>∃ vx37 cx37,M26.le M'∧cx37::F=H'∧ρ' 3=(Uv x36)∧ρ' 4=(Iv r24)∧ρ' 5=vx37∧ρ' 6=(Iv x38)∧OwnS (Kd.int .u8) M' vx37 x37 cx37) ?_ ?_
 exact⟨v31,c29,lr,Z,hs22_3,Z,Z,Z,h30⟩
 rintro ⟨x36,x37,x38⟩ o35 ρ35 M35 H35 h ⟨vx37,cx37,hle35,rfl,hs35_3,hs35_4,hs35_5,hs35_6,hx37⟩
 unfold f_ref02_Num_l0 at h
 refine Cs (Sr (qM (Iv x38) hs35_6 (qu (Bv (decide ((0:Int)≤x38))) (PO.geq Z Z) (Nt (Ch h Z (fun hb40 h=> ?_) (fun hb40 h=> ?_))))))
 refine Ck (Tc (Cs (Bk (Sr (qM vx37 hs35_5 (qM (Iv x38) hs35_6 (qM (Uv x36) hs35_3 (qu (Uv (x36.tmod (256:Int))) (PO.rem Z Z (by decide)) (qu (Yv (IntKind.u8.wrap (x36.tmod (256:Int)))) (PO.conv us105 Tryz.underlying5 Z) ?_)))))))))
 obtain ⟨hg41,h⟩:=grd_i h
 obtain ⟨p42,cs43,hat44,hrc45,hhas46⟩:=hx37.at hg41.1 hg41.2
 obtain rfl:=hrc45
 refine qu (.pointer (some p42)) (PO.indexAddr (n:=x37.length) Tryz.underlying23 sz5 Z Z hg41.1 hg41.2 hat44) (We (EO.storeOwn (dd:=(Kd.int .u8)) (a:=(IntKind.u8.wrap (x36.tmod (256:Int)))) sz5 Z hat44 Z hg41.1 hg41.2 Z hx37 Z) Z ?_)
 rintro _ _ _ - ⟨rfl,c48,rfl,h49⟩
 refine Nt (Cg (qM (Uv x36) hs35_3 (qu (Uv (IntKind.u64.wrap (x36.tdiv (256:Int)))) (PO.quo Z Z (by decide)) (qa (Uv (IntKind.u64.wrap (x36.tdiv (256:Int)))) (Wz (Bn (Tc (Cg (qM (Iv x38) hs35_6 (qu (Iv (IntKind.i64.wrap (x38 - 1))) (PO.sub Z Z) (qa (Iv (IntKind.i64.wrap (x38 - 1))) ?_)))))))))))
 exact Wz (WQ.again (IntKind.u64.wrap (x36.tdiv (256:Int)),x37.set (x38).toNat (IntKind.u8.wrap (x36.tmod (256:Int))),IntKind.i64.wrap (x38 - 1)) (oi h).symm ⟨vx37,c48,hle35,Z,Z,hs35_4,hs35_5,Z,h49⟩)
 refine WC.exit (WQ.thenE (WQ.leaveE x37 (oi h).symm (fun heq35=> ?_)))
 subst heq35
 have h:=hK35
 refine WQ.blockH ?_
 obtain rfl:=oi h
 exact Tj ⟨vx37,cx37,hle35,Z,hs35_4,hs35_5,hx37⟩
 rintro ρ34 M34 H34 ⟨vx33,cx33,hle34,rfl,hs34_4,hs34_5,hx33⟩
 refine Sr (qa (Yv 0) (Nt ?_))
 obtain ⟨x50,hj51,h⟩:=bnd h
 refine Jf (fun(x50:Int) ρ' M' H'=>M34.le M'∧cx33::F=H'∧ρ' 5=vx33∧ρ' 7=(Yv x50)) x50 ?_ ?_
 have h:=hj51
 refine Sr (qa (Iv 1) (Nt (Bk ?_)))
 obtain ⟨e52,he52,hK52⟩:=bnd h
 clear h
 refine WC.loop he52 (fun(p_:(Int×Int)) ρ' M' H'=>match p_ with |(x53,x54)=>M34.le M'∧cx33::F=H'∧ρ' 4=(Iv r24)∧ρ' 5=vx33∧ρ' 7=(Yv x53)∧ρ' 8=(Iv x54)) ?_ ?_
 exact⟨lr,Z,hs34_4,hs34_5,Z,Z⟩
 rintro ⟨x53,x54⟩ o52 ρ52 M52 H52 h ⟨hle52,rfl,hs52_4,hs52_5,hs52_7,hs52_8⟩
 unfold f_ref02_Num_l1 at h
 refine Cs (Sr (qM (Iv x54) hs52_8 (qM (Iv r24) hs52_4 (qu (Bv (decide (x54<r24))) (PO.lss Z Z) (Nt (Ch h Z (fun hb56 h=> ?_) (fun hb56 h=> ?_)))))))
 refine Ck (Tc (Cs (Bk (Cg (qM (Yv x53) hs52_7 (qu (Yv (IntKind.u8.wrap (x53+64))) (PO.add Z Z) (qa (Yv (IntKind.u8.wrap (x53+64))) (Wz (Bn (Tc (Cg ?_)))))))))))
 exact qM (Iv x54) hs52_8 (qu (Iv (IntKind.i64.wrap (x54*(2:Int)))) (PO.mul Z Z) (qa (Iv (IntKind.i64.wrap (x54*(2:Int)))) (Wz (WQ.again (IntKind.u8.wrap (x53+64),IntKind.i64.wrap (x54*(2:Int))) (oi h).symm ⟨hle52,Z,hs52_4,hs52_5,Z,Z⟩))))
 refine WC.exit (WQ.thenE (WQ.leaveE x53 (oi h).symm (fun heq52=> ?_)))
 subst heq52
 have h:=hK52
 refine WQ.blockH ?_
 obtain rfl:=oi h
 exact Tj ⟨hle52,Z,hs52_5,hs52_7⟩
 rintro ρ51 M51 H51 ⟨hle51,rfl,hs51_5,hs51_7⟩
 refine Sr (qM vx33 hs51_5 (qM vx33 hs51_5 ?_))
 obtain ⟨hg57,h⟩:=grd_i h
 have hx33:=hx33.mono hle51
 obtain ⟨p58,cs59,hat60,hrc61,hhas62⟩:=hx33.at hg57.1 hg57.2
 obtain rfl:=hrc61
 refine qu (.pointer (some p58)) (PO.indexAddr (n:=x33.length) Tryz.underlying23 sz5 Z Z hg57.1 hg57.2 hat60) (qu (Yv (rd x33 (0:Int))) (PO.loadC 0 pl5 Z Z (chunkHas0 hhas62)) (qM (Yv x50) hs51_7 (qu (Yv (IntKind.u8.wrap ((rd x33 (0:Int))+x50))) (PO.add Z Z) ?_)))
 obtain ⟨hg64,h⟩:=grd_i h
 obtain ⟨p65,cs66,hat67,hrc68,hhas69⟩:=hx33.at hg64.1 hg64.2
 obtain rfl:=hrc68
 refine qu (.pointer (some p65)) (PO.indexAddr (n:=x33.length) Tryz.underlying23 sz5 Z Z hg64.1 hg64.2 hat67) (We (EO.storeOwn (dd:=(Kd.int .u8)) (a:=(IntKind.u8.wrap ((rd x33 (0:Int))+x50))) sz5 Z hat67 Z hg64.1 hg64.2 Z hx33 Z) Z ?_)
 rintro _ _ _ - ⟨rfl,c71,rfl,h72⟩
 exact Ns (qM vx33 hs51_5 (qa vx33 (Nt (Cr (Rf h [c71] Z (Rs Z Z) (((hle22.trans hle27).trans hle34).trans hle51) ⟨vx33,c71,Z,Z,h72⟩)))))
noncomputable def f_ref02_Int (a0:Int):Option (List Int):=
 (if(decide (a0<(0:Int)))=true then(some [(0:Int)])else((f_ref02_Num (IntKind.u64.wrap a0)).bind fun r25=>(some r25)))
def f_ref02_Int_post (a0:Int):(List Int)→Value→IM→HL→Prop:=
 fun(r0:(List Int)) (v:Value) (M':IM) (H':HL)=>∃ vz0 cz0,vz0=v∧H'=[cz0]∧OwnS (Kd.int .u8) M' vz0 r0 cz0
theorem f_ref02_Int_ok (a0:Int) (M:IM) (res:(List Int)) (h:f_ref02_Int a0=some res):
 Tri Tryz.prog 82 #[(Iv a0)] M [] (f_ref02_Int_post a0 res):=by
 unfold f_ref02_Int at h
 refine Te Tryz.func82 Z Z ?_
 intro F ρ hρ
 refine Sr (qa Zs (Nt (Cs (Sr (qM (Iv a0) (hρ 0) (qu (Bv (decide (a0<0))) (PO.lss Z Z) (Nt (Ch h Z (fun hb21 h=> ?_) (fun hb21 h=> ?_)))))))))
 refine Sr (We (EO.buildSliceL (cl:=[(Yv 0)]) Tryz.underlying23 iz5 Z (Pc (Yv 0) Z Z Pz) Z) Z ?_)
 rintro _ _ _ - ⟨rfl,g22,rfl,rfl⟩
 have h24:OwnS (Kd.int .u8) M (.slice (some ⟨g22,0,none⟩) 1 1) [(0:Int)] [(g22, .cells #[(Yv 0)] 5 (0,0))]:=OwnS.rows (css:=[[(Yv 0)]]) (Rows.cons Z Rows.nil) Z Z
 exact qa (.slice (some ⟨g22,0,none⟩) 1 1) (Nt (Cr (Tr (Rf h [[(g22, .cells #[(Yv 0)] 5 (0,0))]] Z (Rs Z Z) lr ⟨(.slice (some ⟨g22,0,none⟩) 1 1),[(g22, .cells #[(Yv 0)] 5 (0,0))],Z,Z,h24⟩))))
 refine Ck (Tc (Sr (qM (Iv a0) (hρ 0) (qu (Uv (IntKind.u64.wrap a0)) (PO.conv us3 Tryz.underlying105 Z) ?_))))
 obtain ⟨r25,hr26,h⟩:=bnd h
 refine We (Ca co123 (f_ref02_Num_ok (IntKind.u64.wrap a0) _ r25 hr26) (args1 Z)) Z ?_
 rintro _ M27 _ hle28 ⟨_,⟨vq29,cq29,rfl,rfl,hq29⟩,rfl⟩
 exact WL.a1 (qa vq29 (Nt (Cr (Rf h [cq29] Z (Rs Z Z) hle28 ⟨vq29,cq29,Z,Z,hq29⟩))))
noncomputable def f_ref05_int1 (a0:Int) (a1:Bool):Option (List Int):=
 (if(!a1)=true then(some [])else((f_ref02_Int a0).bind fun r23=>(some r23)))
def f_ref05_int1_post (a0:Int) (a1:Bool):(List Int)→Value→IM→HL→Prop:=
 fun(r0:(List Int)) (v:Value) (M':IM) (H':HL)=>∃ vz0 cz0,vz0=v∧H'=[cz0]∧OwnS (Kd.int .u8) M' vz0 r0 cz0
theorem f_ref05_int1_ok (a0:Int) (a1:Bool) (M:IM) (res:(List Int)) (h:f_ref05_int1 a0 a1=some res):
 Tri Tryz.prog 141 #[(Iv a0),(Bv a1)] M [] (f_ref05_int1_post a0 a1 res):=by
 unfold f_ref05_int1 at h
 refine Te Tryz.func141 Z Z ?_
 intro F ρ hρ
 refine Sr (qa Zs (Nt (Cs (Sr (qM (Bv a1) (hρ 1) (qu (Bv (!a1)) (PO.not Z) (Nt (Ch h Z (fun hb21 h=> ?_) (fun hb21 h=> ?_)))))))))
 exact Sr (qa Zs (Nt (Cr (Tr (WQ.e0 (Rf h [[]] Z (Rs Z Z) lr ⟨Zs,[],Z,Z,(OwnS.nil _ _)⟩))))))
 refine Ck (Tc (Sr (qM (Iv a0) (hρ 0) ?_)))
 obtain ⟨r23,hr24,h⟩:=bnd h
 refine We (Ca co82 (f_ref02_Int_ok a0 _ r23 hr24) (args1 Z)) Z ?_
 rintro _ M25 _ hle26 ⟨_,⟨vq27,cq27,rfl,rfl,hq27⟩,rfl⟩
 exact WL.a1 (qa vq27 (Nt (Cr (Rf h [cq27] Z (Rs Z Z) hle26 ⟨vq27,cq27,Z,Z,hq27⟩))))
noncomputable def f_ref02_Flag (a0:Bool):Option (List Int):=
 (if a0=true then(some [(1:Int)])else(some [(0:Int)]))
def f_ref02_Flag_post (a0:Bool):(List Int)→Value→IM→HL→Prop:=
 fun(r0:(List Int)) (v:Value) (M':IM) (H':HL)=>∃ vz0 cz0,vz0=v∧H'=[cz0]∧OwnS (Kd.int .u8) M' vz0 r0 cz0
theorem f_ref02_Flag_ok (a0:Bool) (M:IM) (res:(List Int)) (h:f_ref02_Flag a0=some res):
 Tri Tryz.prog 124 #[(Bv a0)] M [] (f_ref02_Flag_post a0 res):=by
 unfold f_ref02_Flag at h
 refine Te Tryz.func124 Z Z ?_
 intro F ρ hρ
 refine Sr (qa Zs (Nt (Cs (Sr (qM (Bv a0) (hρ 0) (Nt (Ch h Z (fun hb21 h=> ?_) (fun hb21 h=> ?_))))))))
 refine Sr (We (EO.buildSliceL (cl:=[(Yv 1)]) Tryz.underlying23 iz5 Z (Pc (Yv 1) Z Z Pz) Z) Z ?_)
 rintro _ _ _ - ⟨rfl,g22,rfl,rfl⟩
 have h24:OwnS (Kd.int .u8) M (.slice (some ⟨g22,0,none⟩) 1 1) [(1:Int)] [(g22, .cells #[(Yv 1)] 5 (0,0))]:=OwnS.rows (css:=[[(Yv 1)]]) (Rows.cons Z Rows.nil) Z Z
 exact qa (.slice (some ⟨g22,0,none⟩) 1 1) (Nt (Cr (Tr (Rf h [[(g22, .cells #[(Yv 1)] 5 (0,0))]] Z (Rs Z Z) lr ⟨(.slice (some ⟨g22,0,none⟩) 1 1),[(g22, .cells #[(Yv 1)] 5 (0,0))],Z,Z,h24⟩))))
 refine Ck (Tc (Sr (We (EO.buildSliceL (cl:=[(Yv 0)]) Tryz.underlying23 iz5 Z (Pc (Yv 0) Z Z Pz) Z) Z ?_)))
 rintro _ _ _ - ⟨rfl,g25,rfl,rfl⟩
 have h27:OwnS (Kd.int .u8) M (.slice (some ⟨g25,0,none⟩) 1 1) [(0:Int)] [(g25, .cells #[(Yv 0)] 5 (0,0))]:=OwnS.rows (css:=[[(Yv 0)]]) (Rows.cons Z Rows.nil) Z Z
 exact qa (.slice (some ⟨g25,0,none⟩) 1 1) (Nt (Cr (Rf h [[(g25, .cells #[(Yv 0)] 5 (0,0))]] Z (Rs Z Z) lr ⟨(.slice (some ⟨g25,0,none⟩) 1 1),[(g25, .cells #[(Yv 0)] 5 (0,0))],Z,Z,h27⟩)))
noncomputable def f_ref02_Text (a0:(List Int)):Option (List Int):=
 ((f_ref02_Int (a0.length:Int)).bind fun r21=>(grd (r21.length+a0.length≤274877906944) (some (r21++a0))))
def f_ref02_Text_post (a0:(List Int)) (v0:Value):(List Int)→Value→IM→HL→Prop:=
 fun(r0:(List Int)) (v:Value) (M':IM) (H':HL)=>∃ vz0 cz0,vz0=v∧H'=[cz0]∧OwnS (Kd.int .u8) M' vz0 r0 cz0
theorem f_ref02_Text_ok (a0:(List Int)) (M:IM) (v0:Value) (h0:RS (Kd.int .u8) M v0 a0) (res:(List Int)) (h:f_ref02_Text a0=some res):
 Tri Tryz.prog 85 #[v0] M [] (f_ref02_Text_post a0 v0 res):=by
 unfold f_ref02_Text at h
 refine Te Tryz.func85 Z Z ?_
 intro F ρ hρ
 refine Sr (qa Zs (Ns (qM v0 (hρ 0) (qu (Iv (a0.length:Int)) (PO.lenS Tryz.underlying23 Z h0.len) ?_))))
 obtain ⟨r21,hr22,h⟩:=bnd h
 refine We (Ca co82 (f_ref02_Int_ok (a0.length:Int) _ r21 hr22) (args1 Z)) Z ?_
 rintro _ M23 _ hle24 ⟨_,⟨vq25,cq25,rfl,rfl,hq25⟩,rfl⟩
 refine WL.a1 (qM v0 (hρ 0) ?_)
 obtain ⟨hg29,h⟩:=grd_i h
 have h0:=h0.mono hle24
 refine We (EO.append (dd:=(Kd.int .u8)) (xs:=r21) (ys:=a0) Tryz.underlying23 Tryz.underlying23 in5 Z (appB (by decide) hg29) (by decide) Z Z hq25 (h0.src _)) Z ?_
 rintro v28 _ _ - ⟨rfl,c26,rfl,h27⟩
 exact qa v28 (Nt (Cr (Rf h [c26] Z (Rs Z Z) hle24 ⟨v28,c26,Z,Z,h27⟩)))
noncomputable def f_ref05_text1 (a0:ByteArray) (a1:Bool):Option (List Int):=
 (if(!a1)=true then(some [])else((f_ref02_Text (bytesOf a0)).bind fun r26=>(some r26)))
def f_ref05_text1_post (a0:ByteArray) (a1:Bool):(List Int)→Value→IM→HL→Prop:=
 fun(r0:(List Int)) (v:Value) (M':IM) (H':HL)=>∃ vz0 cz0,vz0=v∧H'=[cz0]∧OwnS (Kd.int .u8) M' vz0 r0 cz0
theorem f_ref05_text1_ok (a0:ByteArray) (a1:Bool) (M:IM) (res:(List Int)) (h:f_ref05_text1 a0 a1=some res):
 Tri Tryz.prog 142 #[(Sv a0),(Bv a1)] M [] (f_ref05_text1_post a0 a1 res):=by
 unfold f_ref05_text1 at h
 refine Te Tryz.func142 Z Z ?_
 intro F ρ hρ
 refine Sr (qa Zs (Nt (Cs (Sr (qM (Bv a1) (hρ 1) (qu (Bv (!a1)) (PO.not Z) (Nt (Ch h Z (fun hb21 h=> ?_) (fun hb21 h=> ?_)))))))))
 exact Sr (qa Zs (Nt (Cr (Tr (WQ.e0 (Rf h [[]] Z (Rs Z Z) lr ⟨Zs,[],Z,Z,(OwnS.nil _ _)⟩))))))
 refine Ck (Tc (Sr (qM (Sv a0) (hρ 0) (We (EO.s2b Tryz.underlying9 Tryz.underlying23 Tryz.underlying5 Z) Z ?_))))
 rintro v25 _ _ - ⟨rfl,c23,rfl,h24⟩
 obtain ⟨r26,hr27,h⟩:=bnd h
 refine We (Cb co85 (Tri.lend h24.excl fun w0_ H0_ hs0_=>(f_ref02_Text_ok (bytesOf a0) _ _ (h24.rs hs0_) r26 hr27)) (args1 Z)) Z ?_
 rintro _ _ _ hle29 ⟨_,⟨Ml31,Hl32,hll33,rfl,rfl,⟨vq30,cq30,rfl,rfl,hq30⟩⟩,rfl⟩
 have hq30:OwnS (Kd.int .u8) (Ml31.minus c23) vq30 r26 cq30:=hq30.any (Kd.int_flat _)
 exact WL.a2 (qa vq30 (Nt (Cr (Dr (Rf h [cq30] Z (Rs Z Z) hle29 ⟨vq30,cq30,Z,Z,hq30⟩)))))
noncomputable def f_ref02_Row_l0 (a0:(List Int)) (s_:((List Int)×Int)):Option (((List Int)×Int)⊕(List Int)):=
 match s_ with
 |(x29,x30)=>
 (if(decide (x30<(a0.length:Int)))=true then(grd (0≤x30∧x30<a0.length) ((f_ref02_Int (rd a0 x30)).bind fun r40=>(grd (x29.length+r40.length≤274877906944) (some (Sum.inl (x29++r40,IntKind.i64.wrap (x30+(1:Int))))))))else(some (Sum.inr x29)))
noncomputable def f_ref02_Row (a0:(List Int)):Option (List Int):=
 ((f_ref02_Int (a0.length:Int)).bind fun r21=>((((iter (f_ref02_Row_l0 a0) (r21,(0:Int))).bind (fun(x31:(List Int))=>(some x31))):Option (List Int)).bind fun x26=>(some x26)))
def f_ref02_Row_post (a0:(List Int)) (v0:Value):(List Int)→Value→IM→HL→Prop:=
 fun(r0:(List Int)) (v:Value) (M':IM) (H':HL)=>∃ vz0 cz0,vz0=v∧H'=[cz0]∧OwnS (Kd.int .u8) M' vz0 r0 cz0
theorem f_ref02_Row_ok (a0:(List Int)) (M:IM) (v0:Value) (h0:RS (Kd.int .i64) M v0 a0) (res:(List Int)) (h:f_ref02_Row a0=some res):
 Tri Tryz.prog 147 #[v0] M [] (f_ref02_Row_post a0 v0 res):=by
 unfold f_ref02_Row at h
 refine Te Tryz.func147 Z Z ?_
 intro F ρ hρ
 refine Sr (qa Zs (Ns (qM v0 (hρ 0) (qu (Iv (a0.length:Int)) (PO.lenS Tryz.underlying56 Z h0.len) ?_))))
 obtain ⟨r21,hr22,h⟩:=bnd h
 refine We (Ca co82 (f_ref02_Int_ok (a0.length:Int) _ r21 hr22) (args1 Z)) Z ?_
 rintro _ M23 _ hle24 ⟨_,⟨vq25,cq25,rfl,rfl,hq25⟩,rfl⟩
 refine WL.a1 (qa vq25 (Nt ?_))
 obtain ⟨x26,hj27,h⟩:=bnd h
 refine Jf (fun(x26:(List Int)) ρ' M' H'=>∃ vx26 cx26,M23.le M'∧cx26::F=H'∧ρ' 3=vx26∧OwnS (Kd.int .u8) M' vx26 x26 cx26) x26 ?_ ?_
 have h:=hj27
 refine Sr (qa (Iv 0) (Nt (Bk ?_)))
 obtain ⟨e28,he28,hK28⟩:=bnd h
 clear h
 refine WC.loop he28 (fun(p_:((List Int)×Int)) ρ' M' H'=>match p_ with |(x29,x30)=>∃ vx29 cx29,M23.le M'∧cx29::F=H'∧ρ' 0=v0∧ρ' 3=vx29∧ρ' 4=(Iv x30)∧OwnS (Kd.int .u8) M' vx29 x29 cx29) ?_ ?_
 exact⟨vq25,cq25,lr,Z,(hρ 0),Z,Z,hq25⟩
 rintro ⟨x29,x30⟩ o28 ρ28 M28 H28 h ⟨vx29,cx29,hle28,rfl,hs28_0,hs28_3,hs28_4,hx29⟩
 unfold f_ref02_Row_l0 at h
 refine Cs (Sr (qM (Iv x30) hs28_4 (qM v0 hs28_0 ?_)))
 have h0:=h0.mono (hle24.trans hle28)
 refine qu (Iv (a0.length:Int)) (PO.lenS Tryz.underlying56 Z h0.len) (qu (Bv (decide (x30<(a0.length:Int)))) (PO.lss Z Z) (Nt (Ch h Z (fun hb32 h=> ?_) (fun hb32 h=> ?_))))
 refine Ck (Tc (Cs (Bk (Cg (qM vx29 hs28_3 (qM v0 hs28_0 (qM (Iv x30) hs28_4 ?_)))))))
 obtain ⟨hg33,h⟩:=grd_i h
 obtain ⟨p34,cs35,hat36,hrc37,hhas38⟩:=h0.at hg33.1 hg33.2 (by decide)
 obtain rfl:=hrc37
 refine qu (.pointer (some p34)) (PO.indexAddr (n:=a0.length) Tryz.underlying56 sz3 Z Z hg33.1 hg33.2 hat36) (qu (Iv (rd a0 x30)) (PO.loadM pl3 Z (IM.has0 hhas38)) ?_)
 obtain ⟨r40,hr41,h⟩:=bnd h
 refine We (Ca co82 (f_ref02_Int_ok (rd a0 x30) _ r40 hr41) (args1 Z)) Z ?_
 rintro _ M42 _ hle43 ⟨_,⟨vq44,cq44,rfl,rfl,hq44⟩,rfl⟩
 refine WL.a1 ?_
 obtain ⟨hg48,h⟩:=grd_i h
 refine WL.f1 ?_
 have hx29:=hx29.mono hle43
 refine We (EO.append (dd:=(Kd.int .u8)) (xs:=x29) (ys:=r40) Tryz.underlying23 Tryz.underlying23 in5 Z (appB (by decide) hg48) (by decide) Z Z hx29 (hq44.src 1 Z)) Z ?_
 rintro v47 _ _ - ⟨rfl,c45,rfl,h46⟩
 refine qa v47 (Wz (Bn (Tc (Cg (qM (Iv x30) hs28_4 (qu (Iv (IntKind.i64.wrap (x30+1))) (PO.add Z Z) (qa (Iv (IntKind.i64.wrap (x30+1))) (Wz (Qa (Dr (WQ.again (x29++r40,IntKind.i64.wrap (x30+1)) (oi h).symm ?_)))))))))))
 exact⟨v47,c45,(hle28.trans hle43),Z,hs28_0,Z,Z,h46⟩
 refine WC.exit (WQ.thenE (WQ.leaveE x29 (oi h).symm (fun heq28=> ?_)))
 subst heq28
 have h:=hK28
 refine WQ.blockH ?_
 obtain rfl:=oi h
 exact Tj ⟨vx29,cx29,hle28,Z,hs28_3,hx29⟩
 rintro ρ27 M27 H27 ⟨vx26,cx26,hle27,rfl,hs27_3,hx26⟩
 exact Sr (qM vx26 hs27_3 (qa vx26 (Nt (Cr (Rf h [cx26] Z (Rs Z Z) (hle24.trans hle27) ⟨vx26,cx26,Z,Z,hx26⟩)))))
noncomputable def f_ref05_row1 (a0:(List Int)) (a1:Bool):Option (List Int):=
 (if(!a1)=true then(some [])else((f_ref02_Row a0).bind fun r23=>(some r23)))
def f_ref05_row1_post (a0:(List Int)) (a1:Bool) (v0:Value):(List Int)→Value→IM→HL→Prop:=
 fun(r0:(List Int)) (v:Value) (M':IM) (H':HL)=>∃ vz0 cz0,vz0=v∧H'=[cz0]∧OwnS (Kd.int .u8) M' vz0 r0 cz0
theorem f_ref05_row1_ok (a0:(List Int)) (a1:Bool) (M:IM) (v0:Value) (h0:RS (Kd.int .i64) M v0 a0) (res:(List Int)) (h:f_ref05_row1 a0 a1=some res):
 Tri Tryz.prog 143 #[v0,(Bv a1)] M [] (f_ref05_row1_post a0 a1 v0 res):=by
 unfold f_ref05_row1 at h
 refine Te Tryz.func143 Z Z ?_
 intro F ρ hρ
 refine Sr (qa Zs (Nt (Cs (Sr (qM (Bv a1) (hρ 1) (qu (Bv (!a1)) (PO.not Z) (Nt (Ch h Z (fun hb21 h=> ?_) (fun hb21 h=> ?_)))))))))
 exact Sr (qa Zs (Nt (Cr (Tr (WQ.e0 (Rf h [[]] Z (Rs Z Z) lr ⟨Zs,[],Z,Z,(OwnS.nil _ _)⟩))))))
 refine Ck (Tc (Sr (qM v0 (hρ 0) ?_)))
 obtain ⟨r23,hr24,h⟩:=bnd h
 refine We (Ca co147 (f_ref02_Row_ok a0 _ _ h0 r23 hr24) (args1 Z)) Z ?_
 rintro _ M25 _ hle26 ⟨_,⟨vq27,cq27,rfl,rfl,hq27⟩,rfl⟩
 exact WL.a1 (qa vq27 (Nt (Cr (Rf h [cq27] Z (Rs Z Z) hle26 ⟨vq27,cq27,Z,Z,hq27⟩))))

end Go.Proofs.YtkflneabcannnaaGreatDoor.G
