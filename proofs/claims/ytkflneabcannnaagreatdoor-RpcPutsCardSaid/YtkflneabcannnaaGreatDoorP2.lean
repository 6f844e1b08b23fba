/- Go functions: what they come to, and that they do. Printed by a program of the session (gen). -/
import Derived.Test.YtkflneabcannnaaGreatDoorPF
import Derived.Test.YtkflneabcannnaaGreatDoorP0
import Derived.Test.YtkflneabcannnaaGreatDoorP1
import Derived.Test.YtkflneabcannnaaGreatDoorKConv
import Derived.Test.YtkflneabcannnaaGreatDoorKShar2
import Derived.Test.YtkflneabcannnaaGreatDoorKTight2
set_option linter.unusedVariables false
set_option linter.unusedSimpArgs false
set_option maxHeartbeats 8000000
set_option maxRecDepth 100000
namespace Go.Proofs.YtkflneabcannnaaGreatDoor.G
open Go Go.KK

noncomputable def f_rpc_Check_l0 (a0:T_api_Rpc) (s_:Int):Option (Int⊕(Unit⊕GErr)):=
 match s_ with
 |x212=>
 (if(decide (x212<(a0.Batches.length:Int)))=true then(grd (0≤x212∧x212<a0.Batches.length) ((f_batch_Check (rd a0.Batches x212)).bind fun r223=>(if(!r223.isNil)=true then((f_fault_Wrap (⟨#[98,97,116,99,104]⟩:ByteArray) x212 r223).bind fun r229=>(some (Sum.inr (Sum.inr r229))))else(some (Sum.inl (IntKind.i64.wrap (x212+(1:Int))))))))else(some (Sum.inr (Sum.inl ()))))
noncomputable def f_rpc_Check (a0:T_api_Rpc):Option GErr:=
 (((if(decide (a0.Kind<(1:Int)))=true then(some true)else(some (decide ((8:Int)<a0.Kind)))):Option Bool).bind fun x22=>(if x22=true then((f_fault_New (⟨#[107,105,110,100]⟩:ByteArray) a0.Kind (5:Int)).bind fun r26=>(some r26))else(((if(decide (a0.From<(1:Int)))=true then(some true)else(if(decide ((1073741824:Int)<a0.From))=true then(some true)else(if(decide (a0.To<(1:Int)))=true then(some true)else(if(decide ((1073741824:Int)<a0.To))=true then(some true)else(some (decide (a0.From=a0.To))))))):Option Bool).bind fun x31=>(if x31=true then((f_fault_New (⟨#[102,114,111,109]⟩:ByteArray) a0.From (2:Int)).bind fun r38=>(some r38))else(((if(decide (a0.Term<(0:Int)))=true then(some true)else(some (decide ((1073741824:Int)<a0.Term)))):Option Bool).bind fun x43=>(if x43=true then((f_fault_New (⟨#[116,101,114,109]⟩:ByteArray) a0.Term (2:Int)).bind fun r47=>(some r47))else((((f_rpc_Check_1 (1:Int) a0).bind fun r54=>(if(!r54)=true then(if a0.Pre=true then(some true)else((f_rpc_Check_1 (2:Int) a0).bind fun r61=>(if(!r61)=true then(some a0.Ok)else(some false))))else((f_rpc_Check_1 (2:Int) a0).bind fun r67=>(if(!r67)=true then(some a0.Ok)else(some false))))):Option Bool).bind fun x52=>(if x52=true then((f_fault_New (⟨#[102,108,97,103]⟩:ByteArray) (1:Int) (1:Int)).bind fun r74=>(some r74))else((f_rpc_Check_1 (4:Int) a0).bind fun r79=>((f_rpc_number a0.Leader r79 (1073741824:Int)).bind fun r84=>(if(!r84)=true then((f_fault_New (⟨#[108,101,97,100,101,114]⟩:ByteArray) a0.Leader (2:Int)).bind fun r90=>(some r90))else((((f_rpc_Check_1 (8:Int) a0).bind fun r97=>((f_rpc_number a0.At r97 (1073741824:Int)).bind fun r102=>(if(!r102)=true then(some true)else((f_rpc_Check_1 (8:Int) a0).bind fun r108=>((f_rpc_number a0.AtTerm r108 (1073741824:Int)).bind fun r113=>(some (!r113))))))):Option Bool).bind fun x95=>(if x95=true then((f_fault_New (⟨#[112,108,97,99,101]⟩:ByteArray) a0.At (2:Int)).bind fun r119=>(some r119))else((f_rpc_Check_1 (16:Int) a0).bind fun r124=>((f_rpc_number a0.High r124 (1073741824:Int)).bind fun r129=>(if(!r129)=true then((f_fault_New (⟨#[104,105,103,104]⟩:ByteArray) a0.High (2:Int)).bind fun r135=>(some r135))else((f_rpc_Check_1 (32:Int) a0).bind fun r140=>((f_rpc_number a0.Code r140 (21:Int)).bind fun r145=>(if(!r145)=true then((f_fault_New (⟨#[99,111,100,101]⟩:ByteArray) a0.Code (2:Int)).bind fun r151=>(some r151))else((((f_rpc_Check_1 (128:Int) a0).bind fun r158=>((f_rpc_number a0.Size r158 (1073741824:Int)).bind fun r163=>(if(!r163)=true then(some true)else((f_rpc_Check_1 (256:Int) a0).bind fun r169=>((f_rpc_number a0.Pos r169 (1073741824:Int)).bind fun r174=>(some (!r174))))))):Option Bool).bind fun x156=>(if x156=true then((f_fault_New (⟨#[115,105,122,101]⟩:ByteArray) a0.Size (2:Int)).bind fun r180=>(some r180))else(((if(decide ((512:Int)<(a0.Data.length:Int)))=true then(some true)else(if(decide ((0:Int)<(a0.Data.length:Int)))=true then(some (decide (a0.Kind≠(8:Int))))else(some false))):Option Bool).bind fun x185=>(if x185=true then((f_fault_New (⟨#[100,97,116,97]⟩:ByteArray) (a0.Data.length:Int) (6:Int)).bind fun r190=>(some r190))else(((if(decide ((8:Int)<(a0.Batches.length:Int)))=true then(some true)else((f_rpc_Check_1 (64:Int) a0).bind fun r198=>(if(!r198)=true then(some (decide ((0:Int)<(a0.Batches.length:Int))))else(some false)))):Option Bool).bind fun x195=>(if x195=true then((f_fault_New (⟨#[98,97,116,99,104,101,115]⟩:ByteArray) (a0.Batches.length:Int) (6:Int)).bind fun r205=>(some r205))else((((iter (f_rpc_Check_l0 a0) (0:Int)).bind (Sum.elim (fun _=>(some (Sum.inl ()))) (fun(x213:GErr)=>(((some x213)).bind fun r=>some (Sum.inr r))))):Option (Unit⊕GErr)).bind (Sum.elim (fun _=>(some GErr.nil)) some)))))))))))))))))))))))))))
def f_rpc_Check_post (a0:T_api_Rpc) (v0_11 v0_14:Value):GErr→Value→IM→HL→Prop:=
 fun(r0:GErr) (v:Value) (M':IM) (H':HL)=>(GV r0)=v∧H'=[]
theorem f_rpc_Check_ok (a0:T_api_Rpc) (M:IM) (v0_11 v0_14:Value) (h0_11:RS kd_api_Batch M v0_11 a0.Batches) (h0_14:RS (Kd.int .u8) M v0_14 a0.Data) (res:GErr) (h:f_rpc_Check a0=some res):
 Tri Tryz.prog 16 #[(a25_ a0 v0_11 v0_14)] M [] (f_rpc_Check_post a0 v0_11 v0_14 res):=by
 unfold f_rpc_Check at h
 refine Te Tryz.func16 Z Z ?_
 intro F ρ hρ
 refine Sr (We (EO.box (cs:=(l25 a0 v0_11 v0_14).toArray) (congrArg Value.cells (asE (a25_ a0 v0_11 v0_14) (hρ 0)))) Z ?_)
 rintro _ _ _ - ⟨rfl,g21,rfl,rfl⟩
 refine qa (GV GErr.nil) (Nt (Cs ?_))
 obtain ⟨x22,hj23,h⟩:=bnd h
 refine Jf (fun(x22:Bool) ρ' M' H'=>M.le M'∧[(g21, .cells (l25 a0 v0_11 v0_14).toArray 25 (0,0))]::F=H'∧ρ' 1=(pt g21 0)∧ρ' 14=(Bv x22)) x22 ?_ ?_
 have h:=hj23
 refine Cg (qu (pt g21 0) (Fa fo25_0 Z Z) (qu (Iv a0.Kind) (Lb 0 pl3 Z Z Z) (qu (Bv (decide (a0.Kind<1))) (PO.lss Z Z) (qm (Bv (decide (a0.Kind<1))) ?_))))
 rcases Bi h with⟨hb24,h⟩ |⟨hb24,h⟩
 iterate 3 refine Of 10 Z Z hb24 Z ?_
 refine qu (Bv true) (Pt Z hb24 Z) (Wz ?_)
 obtain rfl:=oi h
 exact Tj ⟨lr,Z,Z,Z⟩
 refine qo 10 hb24 (pt g21 0) (Fa fo25_0 Z Z) (qo 10 hb24 (Iv a0.Kind) (Lb 0 pl3 Z Z Z) (qo 10 hb24 (Bv (decide ((8:Int)<a0.Kind))) (PO.gtr Z Z) (qu (Bv (decide ((8:Int)<a0.Kind))) (Pf Z hb24 Z) (Wz ?_))))
 obtain rfl:=oi h
 exact Tj ⟨lr,Z,Z,Z⟩
 rintro ρ23 M23 H23 ⟨hle23,rfl,hs23_1,hs23_14⟩
 refine Ch h hs23_14 (fun hb25 h=> ?_) (fun hb25 h=> ?_)
 refine Sr (qu (pt g21 0) (Fa fo25_0 hs23_1 Z) (qu (Iv a0.Kind) (Lb 0 pl3 Z Z Z) ?_))
 obtain ⟨r26,hr27,h⟩:=bnd h
 refine We (Ca co30 (f_fault_New_ok ⟨#[107,105,110,100]⟩ a0.Kind (5:Int) _ r26 hr27) (args3 Z Z Z)) Z ?_
 rintro _ M28 _ hle29 ⟨_,⟨rfl,rfl⟩,rfl⟩
 exact WL.a0 (qa (GV r26) (Nt (Cr (Tr (Dr (Rf h [] Z (Rs Z Z) (hle23.trans hle29) ⟨Z,Z⟩))))))
 refine Ck (Tc (Sr (qu (.func (.func 47) #[] #[(pt g21 0)]) (PO.makeFunc2 (args0) (args1 (asE (Value.pointer (some ⟨g21,0,none⟩)) hs23_1))) (qa (.func (.func 47) #[] #[(pt g21 0)]) (Nt (Cs (Bk ?_)))))))
 obtain ⟨x31,hj32,h⟩:=bnd h
 refine Jf (fun(x31:Bool) ρ' M' H'=>M23.le M'∧[(g21, .cells (l25 a0 v0_11 v0_14).toArray 25 (0,0))]::F=H'∧ρ' 1=(pt g21 0)∧ρ' 3=(.func (.func 47) #[] #[(pt g21 0)])∧ρ' 19=(Bv x31)) x31 ?_ ?_
 have h:=hj32
 refine Cg (qu (pt g21 1) (Fa fo25_1 hs23_1 Z) (qu (Iv a0.From) (Lb 0 pl3 Z Z Z) (qu (Bv (decide (a0.From<1))) (PO.lss Z Z) (qm (Bv (decide (a0.From<1))) ?_))))
 rcases Bi h with⟨hb33,h⟩ |⟨hb33,h⟩
 iterate 3 refine Of 23 Z Z hb33 Z ?_
 refine qu (Bv true) (Pt Z hb33 Z) (qm (Bv true) ?_)
 iterate 3 refine Of 28 Z Z Z Z ?_
 refine qu (Bv true) (Pt Z Z Z) (qm (Bv true) ?_)
 iterate 3 refine Of 33 Z Z Z Z ?_
 refine qu (Bv true) (Pt Z Z Z) (qm (Bv true) ?_)
 iterate 5 refine Of 38 Z Z Z Z ?_
 refine qu (Bv true) (Pt Z Z Z) (qa (Bv true) (Wz ?_))
 obtain rfl:=oi h
 exact Tj ⟨lr,Z,hs23_1,Z,Z⟩
 refine qo 23 hb33 (pt g21 1) (Fa fo25_1 hs23_1 Z) (qo 23 hb33 (Iv a0.From) (Lb 0 pl3 Z Z Z) (qo 23 hb33 (Bv (decide ((1073741824:Int)<a0.From))) (PO.gtr Z Z) (qu (Bv (decide ((1073741824:Int)<a0.From))) (Pf Z hb33 Z) (qm (Bv (decide ((1073741824:Int)<a0.From))) ?_))))
 rcases Bi h with⟨hb34,h⟩ |⟨hb34,h⟩
 iterate 3 refine Of 28 Z Z hb34 Z ?_
 refine qu (Bv true) (Pt Z hb34 Z) (qm (Bv true) ?_)
 iterate 3 refine Of 33 Z Z Z Z ?_
 refine qu (Bv true) (Pt Z Z Z) (qm (Bv true) ?_)
 iterate 5 refine Of 38 Z Z Z Z ?_
 refine qu (Bv true) (Pt Z Z Z) (qa (Bv true) (Wz ?_))
 obtain rfl:=oi h
 exact Tj ⟨lr,Z,hs23_1,Z,Z⟩
 refine qo 28 hb34 (pt g21 2) (Fa fo25_2 hs23_1 Z) (qo 28 hb34 (Iv a0.To) (Lb 0 pl3 Z Z Z) (qo 28 hb34 (Bv (decide (a0.To<1))) (PO.lss Z Z) (qu (Bv (decide (a0.To<1))) (Pf Z hb34 Z) (qm (Bv (decide (a0.To<1))) ?_))))
 rcases Bi h with⟨hb35,h⟩ |⟨hb35,h⟩
 iterate 3 refine Of 33 Z Z hb35 Z ?_
 refine qu (Bv true) (Pt Z hb35 Z) (qm (Bv true) ?_)
 iterate 5 refine Of 38 Z Z Z Z ?_
 refine qu (Bv true) (Pt Z Z Z) (qa (Bv true) (Wz ?_))
 obtain rfl:=oi h
 exact Tj ⟨lr,Z,hs23_1,Z,Z⟩
 refine qo 33 hb35 (pt g21 2) (Fa fo25_2 hs23_1 Z) (qo 33 hb35 (Iv a0.To) (Lb 0 pl3 Z Z Z) (qo 33 hb35 (Bv (decide ((1073741824:Int)<a0.To))) (PO.gtr Z Z) (qu (Bv (decide ((1073741824:Int)<a0.To))) (Pf Z hb35 Z) (qm (Bv (decide ((1073741824:Int)<a0.To))) ?_))))
 rcases Bi h with⟨hb36,h⟩ |⟨hb36,h⟩
 iterate 5 refine Of 38 Z Z hb36 Z ?_
 refine qu (Bv true) (Pt Z hb36 Z) (qa (Bv true) (Wz ?_))
 obtain rfl:=oi h
 exact Tj ⟨lr,Z,hs23_1,Z,Z⟩
 refine qo 38 hb36 (pt g21 1) (Fa fo25_1 hs23_1 Z) (qo 38 hb36 (Iv a0.From) (Lb 0 pl3 Z Z Z) (qo 38 hb36 (pt g21 2) (Fa fo25_2 hs23_1 Z) (qo 38 hb36 (Iv a0.To) (Lb 0 pl3 Z Z Z) (qo 38 hb36 (Bv (decide (a0.From=a0.To))) (PO.eql Z Z) (qu (Bv (decide (a0.From=a0.To))) (Pf Z hb36 Z) (qa (Bv (decide (a0.From=a0.To))) (Wz ?_)))))))
 obtain rfl:=oi h
 exact Tj ⟨lr,Z,hs23_1,Z,Z⟩
 rintro ρ32 M32 H32 ⟨hle32,rfl,hs32_1,hs32_3,hs32_19⟩
 have L32:=hle23.trans hle32
 refine Ch h hs32_19 (fun hb37 h=> ?_) (fun hb37 h=> ?_)
 refine Sr (qu (pt g21 1) (Fa fo25_1 hs32_1 Z) (qu (Iv a0.From) (Lb 0 pl3 Z Z Z) ?_))
 obtain ⟨r38,hr39,h⟩:=bnd h
 refine We (Ca co30 (f_fault_New_ok ⟨#[102,114,111,109]⟩ a0.From (2:Int) _ r38 hr39) (args3 Z Z Z)) Z ?_
 rintro _ M40 _ hle41 ⟨_,⟨rfl,rfl⟩,rfl⟩
 exact WL.a0 (qa (GV r38) (Nt (Cr (Br (Tr (Dr (Rf h [] Z (Rs Z Z) (L32.trans hle41) ⟨Z,Z⟩)))))))
 obtain ⟨x43,hj44,h⟩:=bnd h
 refine Jf (fun(x43:Bool) ρ' M' H'=>M32.le M'∧[(g21, .cells (l25 a0 v0_11 v0_14).toArray 25 (0,0))]::F=H'∧ρ' 1=(pt g21 0)∧ρ' 3=(.func (.func 47) #[] #[(pt g21 0)])∧ρ' 48=(Bv x43)) x43 ?_ ?_
 have h:=hj44
 refine Cg (qu (pt g21 3) (Fa fo25_3 hs32_1 Z) (qu (Iv a0.Term) (Lb 0 pl3 Z Z Z) (qu (Bv (decide (a0.Term<0))) (PO.lss Z Z) (qm (Bv (decide (a0.Term<0))) ?_))))
 rcases Bi h with⟨hb45,h⟩ |⟨hb45,h⟩
 iterate 3 refine Of 52 Z Z hb45 Z ?_
 refine qu (Bv true) (Pt Z hb45 Z) (qa (Bv true) (Wz ?_))
 obtain rfl:=oi h
 exact Tj ⟨lr,Z,hs32_1,hs32_3,Z⟩
 refine qo 52 hb45 (pt g21 3) (Fa fo25_3 hs32_1 Z) (qo 52 hb45 (Iv a0.Term) (Lb 0 pl3 Z Z Z) (qo 52 hb45 (Bv (decide ((1073741824:Int)<a0.Term))) (PO.gtr Z Z) (qu (Bv (decide ((1073741824:Int)<a0.Term))) (Pf Z hb45 Z) (qa (Bv (decide ((1073741824:Int)<a0.Term))) (Wz ?_)))))
 obtain rfl:=oi h
 exact Tj ⟨lr,Z,hs32_1,hs32_3,Z⟩
 rintro ρ44 M44 H44 ⟨hle44,rfl,hs44_1,hs44_3,hs44_48⟩
 have L44:=L32.trans hle44
 refine Ch h hs44_48 (fun hb46 h=> ?_) (fun hb46 h=> ?_)
 refine Sr (qu (pt g21 3) (Fa fo25_3 hs44_1 Z) (qu (Iv a0.Term) (Lb 0 pl3 Z Z Z) ?_))
 obtain ⟨r47,hr48,h⟩:=bnd h
 refine We (Ca co30 (f_fault_New_ok ⟨#[116,101,114,109]⟩ a0.Term (2:Int) _ r47 hr48) (args3 Z Z Z)) Z ?_
 rintro _ M49 _ hle50 ⟨_,⟨rfl,rfl⟩,rfl⟩
 exact WL.a0 (qa (GV r47) (Nt (Cr (Br (Tr (Dr (Rf h [] Z (Rs Z Z) (L44.trans hle50) ⟨Z,Z⟩)))))))
 obtain ⟨x52,hj53,h⟩:=bnd h
 refine Jf (fun(x52:Bool) ρ' M' H'=>M44.le M'∧[(g21, .cells (l25 a0 v0_11 v0_14).toArray 25 (0,0))]::F=H'∧ρ' 1=(pt g21 0)∧ρ' 3=(.func (.func 47) #[] #[(pt g21 0)])∧ρ' 60=(Bv x52)) x52 ?_ ?_
 have h:=hj53
 refine Cg (qM (.func (.func 47) #[] #[(pt g21 0)]) hs44_3 ?_)
 obtain ⟨r54,hr55,h⟩:=bnd h
 have h0_11:=h0_11.mono L44
 have h0_14:=h0_14.mono L44
 refine We (EO.callV1 (first:=#[]) (cap:=#[(pt g21 0)]) co47 Z (f_rpc_Check_1_ok (1:Int) a0 _ _ _ _ h0_11 h0_14 r54 hr55) (argsV1 Z Z)) Z ?_
 rintro _ M56 _ hle57 ⟨_,⟨rfl,rfl⟩,rfl⟩
 refine WL.a1 (qu (Bv (!r54)) (PO.not Z) (qm (Bv (!r54)) ?_))
 rcases Bi h with⟨hb59,h⟩ |⟨hb59,h⟩
 refine qo 64 hb59 (pt g21 4) (Fa fo25_4 hs44_1 Z) (qo 64 hb59 (Bv a0.Pre) (Lb 0 pl4 Z Z Z) (qu (Bv a0.Pre) (Pt Z hb59 Z) (qm (Bv a0.Pre) ?_)))
 rcases Bi h with⟨hb60,h⟩ |⟨hb60,h⟩
 iterate 4 refine Of 68 Z Z hb60 Z ?_
 refine WL.offU 72 Z Z Z (WL.offU 72 Z Z Z (Of 68 Z Z hb60 Z (qu (Bv true) (Pt Z hb60 Z) (qa (Bv true) (Wz ?_)))))
 obtain rfl:=oi h
 exact Tj ⟨hle57,Z,hs44_1,hs44_3,Z⟩
 refine On 68 Z Z hb60 (qM (.func (.func 47) #[] #[(pt g21 0)]) hs44_3 (On 68 Z Z hb60 ?_))
 obtain ⟨r61,hr62,h⟩:=bnd h
 have h0_11:=h0_11.mono hle57
 have h0_14:=h0_14.mono hle57
 refine We (EO.callV1 (first:=#[]) (cap:=#[(pt g21 0)]) co47 Z (f_rpc_Check_1_ok (2:Int) a0 _ _ _ _ h0_11 h0_14 r61 hr62) (argsV1 Z Z)) Z ?_
 rintro _ M63 _ hle64 ⟨_,⟨rfl,rfl⟩,rfl⟩
 refine WL.a1 (qo 68 hb60 (Bv (!r61)) (PO.not Z) (On 68 Z Z hb60 (qm (Bv (!r61)) ?_)))
 rcases Bi h with⟨hb66,h⟩ |⟨hb66,h⟩
 refine qo 72 hb66 (pt g21 5) (Fa fo25_5 hs44_1 Z) (qo 72 hb66 (Bv a0.Ok) (Lb 0 pl4 Z Z Z) (qo 68 hb60 (Bv a0.Ok) (Pt Z hb66 Z) (qu (Bv a0.Ok) (Pf Z hb60 Z) (qa (Bv a0.Ok) (Wz ?_)))))
 obtain rfl:=oi h
 exact Tj ⟨(hle57.trans hle64),Z,hs44_1,hs44_3,Z⟩
 iterate 2 refine Of 72 Z Z hb66 Z ?_
 refine qo 68 hb60 (Bv false) (Pf Z hb66 Z) (qu (Bv false) (Pf Z hb60 Z) (qa (Bv false) (Wz ?_)))
 obtain rfl:=oi h
 exact Tj ⟨(hle57.trans hle64),Z,hs44_1,hs44_3,Z⟩
 iterate 2 refine Of 64 Z Z hb59 Z ?_
 refine qu (Bv false) (Pf Z hb59 Z) (qm (Bv false) (On 68 Z Z Z (qM (.func (.func 47) #[] #[(pt g21 0)]) hs44_3 (On 68 Z Z Z ?_))))
 obtain ⟨r67,hr68,h⟩:=bnd h
 have h0_11:=h0_11.mono hle57
 have h0_14:=h0_14.mono hle57
 refine We (EO.callV1 (first:=#[]) (cap:=#[(pt g21 0)]) co47 Z (f_rpc_Check_1_ok (2:Int) a0 _ _ _ _ h0_11 h0_14 r67 hr68) (argsV1 Z Z)) Z ?_
 rintro _ M69 _ hle70 ⟨_,⟨rfl,rfl⟩,rfl⟩
 refine WL.a1 (qo 68 Z (Bv (!r67)) (PO.not Z) (On 68 Z Z Z (qm (Bv (!r67)) ?_)))
 rcases Bi h with⟨hb72,h⟩ |⟨hb72,h⟩
 refine qo 72 hb72 (pt g21 5) (Fa fo25_5 hs44_1 Z) (qo 72 hb72 (Bv a0.Ok) (Lb 0 pl4 Z Z Z) (qo 68 Z (Bv a0.Ok) (Pt Z hb72 Z) (qu (Bv a0.Ok) (Pf Z Z Z) (qa (Bv a0.Ok) (Wz ?_)))))
 obtain rfl:=oi h
 exact Tj ⟨(hle57.trans hle70),Z,hs44_1,hs44_3,Z⟩
 iterate 2 refine Of 72 Z Z hb72 Z ?_
 refine qo 68 Z (Bv false) (Pf Z hb72 Z) (qu (Bv false) (Pf Z Z Z) (qa (Bv false) (Wz ?_)))
 obtain rfl:=oi h
 exact Tj ⟨(hle57.trans hle70),Z,hs44_1,hs44_3,Z⟩
 rintro ρ53 M53 H53 ⟨hle53,rfl,hs53_1,hs53_3,hs53_60⟩
 have L53:=L44.trans hle53
 refine Ch h hs53_60 (fun hb73 h=> ?_) (fun hb73 h=> ?_)
 refine Sr ?_
 obtain ⟨r74,hr75,h⟩:=bnd h
 refine We (Ca co30 (f_fault_New_ok ⟨#[102,108,97,103]⟩ (1:Int) (1:Int) _ r74 hr75) (args3 Z Z Z)) Z ?_
 rintro _ M76 _ hle77 ⟨_,⟨rfl,rfl⟩,rfl⟩
 exact WL.a0 (qa (GV r74) (Nt (Cr (Br (Tr (Dr (Rf h [] Z (Rs Z Z) (L53.trans hle77) ⟨Z,Z⟩)))))))
 refine Cs (WC.draw [0,1,0,4,15,31,63] (.pure 0 (.pure 1 (.pure 2 (.alt 3 (.alt 4 (.pure 5 (.pure 6 .done)) .none) .none)))) mixed (by kernel_rfl) (qt (pt g21 6) Z (Fa fo25_6 hs53_1 Z) (qt (Iv a0.Leader) Z (Lb 0 pl3 Z Z Z) (qt (.func (.func 47) #[] #[(pt g21 0)]) Z (Mv hs53_3) ?_))))
 obtain ⟨r79,hr80,h⟩:=bnd h
 have h0_11:=h0_11.mono L53
 have h0_14:=h0_14.mono L53
 refine Ta Z (EO.callV1 (first:=#[]) (cap:=#[(pt g21 0)]) co47 Z (f_rpc_Check_1_ok (4:Int) a0 _ _ _ _ h0_11 h0_14 r79 hr80) (argsV1 Z Z)) Z ?_ ?_
 rintro _ M81 _ hle82 ⟨_,⟨rfl,rfl⟩,rfl⟩
 have L82:=L53.trans hle82
 refine⟨(Sk 1 Z (Ss Z (Lb 0 pl3 Z Z Z) Z (Ss Z (Fa fo25_6 hs53_1 Z) Z trivial))), ?_⟩
 refine WT.a1 ?_
 obtain ⟨r84,hr85,h⟩:=bnd h
 refine Ta Z (Ca co48 (f_rpc_number_ok a0.Leader r79 (1073741824:Int) _ r84 hr85) (args3 Z Z Z)) Z ?_ ?_
 rintro _ M86 _ hle87 ⟨_,⟨rfl,rfl⟩,rfl⟩
 have L87:=L82.trans hle87
 refine⟨(Sl Z), ?_⟩
 refine WT.a0 (qt (Bv (!r84)) Z (PO.not Z) (qt (Bv (!r84)) Z (Ag Z) (Ti (Tc (Ch h Z (fun hb89 h=> ?_) (fun hb89 h=> ?_))))))
 refine Sr (qu (pt g21 6) (Fa fo25_6 hs53_1 Z) (qu (Iv a0.Leader) (Lb 0 pl3 Z Z Z) ?_))
 obtain ⟨r90,hr91,h⟩:=bnd h
 refine We (Ca co30 (f_fault_New_ok ⟨#[108,101,97,100,101,114]⟩ a0.Leader (2:Int) _ r90 hr91) (args3 Z Z Z)) Z ?_
 rintro _ M92 _ hle93 ⟨_,⟨rfl,rfl⟩,rfl⟩
 exact WL.a0 (qa (GV r90) (Nt (Cr (Br (Tr (Dr (Rf h [] Z (Rs Z Z) (L87.trans hle93) ⟨Z,Z⟩)))))))
 obtain ⟨x95,hj96,h⟩:=bnd h
 refine Jf (fun(x95:Bool) ρ' M' H'=>M86.le M'∧[(g21, .cells (l25 a0 v0_11 v0_14).toArray 25 (0,0))]::F=H'∧ρ' 1=(pt g21 0)∧ρ' 3=(.func (.func 47) #[] #[(pt g21 0)])∧ρ' 88=(Bv x95)) x95 ?_ ?_
 have h:=hj96
 refine WC.draw [0,1,0,4,15,31,63,127,255,127,639,2047,4095,8191,16383] (.pure 0 (.pure 1 (.pure 2 (.alt 3 (.alt 4 (.pure 5 (.pure 6 (.pure 7 (.pure 8 (.pure 9 (.alt 10 (.alt 11 (.pure 12 (.pure 13 (.pure 14 .done))) .none) .none)))))) .none) .none)))) mixed (by kernel_rfl) (qt (pt g21 7) Z (Fa fo25_7 hs53_1 Z) (qt (Iv a0.At) Z (Lb 0 pl3 Z Z Z) (qt (.func (.func 47) #[] #[(pt g21 0)]) Z (Mv hs53_3) ?_)))
 obtain ⟨r97,hr98,h⟩:=bnd h
 have h0_11:=h0_11.mono (hle82.trans hle87)
 have h0_14:=h0_14.mono (hle82.trans hle87)
 refine Ta Z (EO.callV1 (first:=#[]) (cap:=#[(pt g21 0)]) co47 Z (f_rpc_Check_1_ok (8:Int) a0 _ _ _ _ h0_11 h0_14 r97 hr98) (argsV1 Z Z)) Z ?_ ?_
 rintro _ M99 _ hle100 ⟨_,⟨rfl,rfl⟩,rfl⟩
 refine⟨(Sk 1 Z (Ss Z (Lb 0 pl3 Z Z Z) Z (Ss Z (Fa fo25_7 hs53_1 Z) Z trivial))), ?_⟩
 refine WT.a1 ?_
 obtain ⟨r102,hr103,h⟩:=bnd h
 refine Ta Z (Ca co48 (f_rpc_number_ok a0.At r97 (1073741824:Int) _ r102 hr103) (args3 Z Z Z)) Z ?_ ?_
 rintro _ M104 _ hle105 ⟨_,⟨rfl,rfl⟩,rfl⟩
 refine⟨(Sl Z), ?_⟩
 refine WT.a0 (qt (Bv (!r102)) Z (PO.not Z) (qt (Bv (!r102)) Z (Mv Z) ?_))
 rcases Bi h with⟨hb107,h⟩ |⟨hb107,h⟩
 refine Tf 95 Z Z Z hb107 Z (Tf 95 Z Z Z hb107 Z (Tf 95 Z Z Z hb107 Z (Tg 95 Z Z Z hb107 Z ⟨(Sk 1 Z (St (Sf 95 Z Z Z hb107 Z) (St (Sf 95 Z Z Z hb107 Z) (Sl Z)))), ?_⟩ ?_)))
 refine Tg 95 Z Z Z hb107 Z ⟨(Sl Z), ?_⟩ ?_
 refine Tf 95 Z Z Z hb107 Z (qt (Bv true) Z (Pt Z hb107 Z) (qt (Bv true) Z (Ag Z) (Ti ?_)))
 obtain rfl:=oi h
 exact Tj ⟨(hle100.trans hle105),Z,hs53_1,hs53_3,Z⟩
 exact Tz
 exact Tz
 refine Tn (pt g21 8) 95 Z Z Z hb107 (Fa fo25_8 hs53_1 Z) Z (Tn (Iv a0.AtTerm) 95 Z Z Z hb107 (Lb 0 pl3 Z Z Z) Z (Tn (.func (.func 47) #[] #[(pt g21 0)]) 95 Z Z Z hb107 (Mv hs53_3) Z ?_))
 obtain ⟨r108,hr109,h⟩:=bnd h
 have h0_11:=h0_11.mono (hle100.trans hle105)
 have h0_14:=h0_14.mono (hle100.trans hle105)
 refine WT.altOn 95 Z Z Z hb107 (EO.callV1 (first:=#[]) (cap:=#[(pt g21 0)]) co47 Z (f_rpc_Check_1_ok (8:Int) a0 _ _ _ _ h0_11 h0_14 r108 hr109) (argsV1 Z Z)) Z ?_ ?_
 rintro _ M110 _ hle111 ⟨_,⟨rfl,rfl⟩,rfl⟩
 refine⟨(Sk 1 Z (St (StabA.on 95 Z Z Z hb107 (Lb 0 pl3 Z Z Z) Z) (St (StabA.on 95 Z Z Z hb107 (Fa fo25_8 hs53_1 Z) Z) (Sl Z)))), ?_⟩
 refine WT.a1 ?_
 obtain ⟨r113,hr114,h⟩:=bnd h
 refine WT.altOn 95 Z Z Z hb107 (Ca co48 (f_rpc_number_ok a0.AtTerm r108 (1073741824:Int) _ r113 hr114) (args3 Z Z Z)) Z ?_ ?_
 rintro _ M115 _ hle116 ⟨_,⟨rfl,rfl⟩,rfl⟩
 refine⟨(Sl Z), ?_⟩
 refine WT.a0 (Tn (Bv (!r113)) 95 Z Z Z hb107 (PO.not Z) Z (qt (Bv (!r113)) Z (Pf Z hb107 Z) (qt (Bv (!r113)) Z (Ag Z) (Ti ?_))))
 obtain rfl:=oi h
 exact Tj ⟨(((hle100.trans hle105).trans hle111).trans hle116),Z,hs53_1,hs53_3,Z⟩
 exact Tz
 exact Tz
 exact Tz
 exact Tz
 rintro ρ96 M96 H96 ⟨hle96,rfl,hs96_1,hs96_3,hs96_88⟩
 have L96:=L87.trans hle96
 refine Ch h hs96_88 (fun hb118 h=> ?_) (fun hb118 h=> ?_)
 refine Sr (qu (pt g21 7) (Fa fo25_7 hs96_1 Z) (qu (Iv a0.At) (Lb 0 pl3 Z Z Z) ?_))
 obtain ⟨r119,hr120,h⟩:=bnd h
 refine We (Ca co30 (f_fault_New_ok ⟨#[112,108,97,99,101]⟩ a0.At (2:Int) _ r119 hr120) (args3 Z Z Z)) Z ?_
 rintro _ M121 _ hle122 ⟨_,⟨rfl,rfl⟩,rfl⟩
 exact WL.a0 (qa (GV r119) (Nt (Cr (Br (Tr (Dr (Rf h [] Z (Rs Z Z) (L96.trans hle122) ⟨Z,Z⟩)))))))
 refine Cs (WC.draw [0,1,0,4,15,31,63] (.pure 0 (.pure 1 (.pure 2 (.alt 3 (.alt 4 (.pure 5 (.pure 6 .done)) .none) .none)))) mixed (by kernel_rfl) (qt (pt g21 9) Z (Fa fo25_9 hs96_1 Z) (qt (Iv a0.High) Z (Lb 0 pl3 Z Z Z) (qt (.func (.func 47) #[] #[(pt g21 0)]) Z (Mv hs96_3) ?_))))
 obtain ⟨r124,hr125,h⟩:=bnd h
 have h0_11:=h0_11.mono ((hle82.trans hle87).trans hle96)
 have h0_14:=h0_14.mono ((hle82.trans hle87).trans hle96)
 refine Ta Z (EO.callV1 (first:=#[]) (cap:=#[(pt g21 0)]) co47 Z (f_rpc_Check_1_ok (16:Int) a0 _ _ _ _ h0_11 h0_14 r124 hr125) (argsV1 Z Z)) Z ?_ ?_
 rintro _ M126 _ hle127 ⟨_,⟨rfl,rfl⟩,rfl⟩
 have L127:=L96.trans hle127
 refine⟨(Sk 1 Z (Ss Z (Lb 0 pl3 Z Z Z) Z (Ss Z (Fa fo25_9 hs96_1 Z) Z trivial))), ?_⟩
 refine WT.a1 ?_
 obtain ⟨r129,hr130,h⟩:=bnd h
 refine Ta Z (Ca co48 (f_rpc_number_ok a0.High r124 (1073741824:Int) _ r129 hr130) (args3 Z Z Z)) Z ?_ ?_
 rintro _ M131 _ hle132 ⟨_,⟨rfl,rfl⟩,rfl⟩
 have L132:=L127.trans hle132
 refine⟨(Sl Z), ?_⟩
 refine WT.a0 (qt (Bv (!r129)) Z (PO.not Z) (qt (Bv (!r129)) Z (Ag Z) (Ti (Tc (Ch h Z (fun hb134 h=> ?_) (fun hb134 h=> ?_))))))
 refine Sr (qu (pt g21 9) (Fa fo25_9 hs96_1 Z) (qu (Iv a0.High) (Lb 0 pl3 Z Z Z) ?_))
 obtain ⟨r135,hr136,h⟩:=bnd h
 refine We (Ca co30 (f_fault_New_ok ⟨#[104,105,103,104]⟩ a0.High (2:Int) _ r135 hr136) (args3 Z Z Z)) Z ?_
 rintro _ M137 _ hle138 ⟨_,⟨rfl,rfl⟩,rfl⟩
 exact WL.a0 (qa (GV r135) (Nt (Cr (Br (Tr (Dr (Rf h [] Z (Rs Z Z) (L132.trans hle138) ⟨Z,Z⟩)))))))
 refine Cs (WC.draw [0,1,0,4,15,31,63] (.pure 0 (.pure 1 (.pure 2 (.alt 3 (.alt 4 (.pure 5 (.pure 6 .done)) .none) .none)))) mixed (by kernel_rfl) (qt (pt g21 10) Z (Fa fo25_10 hs96_1 Z) (qt (Iv a0.Code) Z (Lb 0 pl3 Z Z Z) (qt (.func (.func 47) #[] #[(pt g21 0)]) Z (Mv hs96_3) ?_))))
 obtain ⟨r140,hr141,h⟩:=bnd h
 have h0_11:=h0_11.mono (hle127.trans hle132)
 have h0_14:=h0_14.mono (hle127.trans hle132)
 refine Ta Z (EO.callV1 (first:=#[]) (cap:=#[(pt g21 0)]) co47 Z (f_rpc_Check_1_ok (32:Int) a0 _ _ _ _ h0_11 h0_14 r140 hr141) (argsV1 Z Z)) Z ?_ ?_
 rintro _ M142 _ hle143 ⟨_,⟨rfl,rfl⟩,rfl⟩
 have L143:=L132.trans hle143
 refine⟨(Sk 1 Z (Ss Z (Lb 0 pl3 Z Z Z) Z (Ss Z (Fa fo25_10 hs96_1 Z) Z trivial))), ?_⟩
 refine WT.a1 ?_
 obtain ⟨r145,hr146,h⟩:=bnd h
 refine Ta Z (Ca co48 (f_rpc_number_ok a0.Code r140 (21:Int) _ r145 hr146) (args3 Z Z Z)) Z ?_ ?_
 rintro _ M147 _ hle148 ⟨_,⟨rfl,rfl⟩,rfl⟩
 have L148:=hle143.trans hle148
 have L148_1:=L143.trans hle148
 refine⟨(Sl Z), ?_⟩
 refine WT.a0 (qt (Bv (!r145)) Z (PO.not Z) (qt (Bv (!r145)) Z (Ag Z) (Ti (Tc (Ch h Z (fun hb150 h=> ?_) (fun hb150 h=> ?_))))))
 refine Sr (qu (pt g21 10) (Fa fo25_10 hs96_1 Z) (qu (Iv a0.Code) (Lb 0 pl3 Z Z Z) ?_))
 obtain ⟨r151,hr152,h⟩:=bnd h
 refine We (Ca co30 (f_fault_New_ok ⟨#[99,111,100,101]⟩ a0.Code (2:Int) _ r151 hr152) (args3 Z Z Z)) Z ?_
 rintro _ M153 _ hle154 ⟨_,⟨rfl,rfl⟩,rfl⟩
 exact WL.a0 (qa (GV r151) (Nt (Cr (Br (Tr (Dr (Rf h [] Z (Rs Z Z) (L148_1.trans hle154) ⟨Z,Z⟩)))))))
 obtain ⟨x156,hj157,h⟩:=bnd h
 refine Jf (fun(x156:Bool) ρ' M' H'=>M147.le M'∧[(g21, .cells (l25 a0 v0_11 v0_14).toArray 25 (0,0))]::F=H'∧ρ' 1=(pt g21 0)∧ρ' 3=(.func (.func 47) #[] #[(pt g21 0)])∧ρ' 126=(Bv x156)) x156 ?_ ?_
 have h:=hj157
 refine WC.draw [0,1,0,4,15,31,63,127,255,127,639,2047,4095,8191,16383] (.pure 0 (.pure 1 (.pure 2 (.alt 3 (.alt 4 (.pure 5 (.pure 6 (.pure 7 (.pure 8 (.pure 9 (.alt 10 (.alt 11 (.pure 12 (.pure 13 (.pure 14 .done))) .none) .none)))))) .none) .none)))) mixed (by kernel_rfl) (qt (pt g21 12) Z (Fa fo25_12 hs96_1 Z) (qt (Iv a0.Size) Z (Lb 0 pl3 Z Z Z) (qt (.func (.func 47) #[] #[(pt g21 0)]) Z (Mv hs96_3) ?_)))
 obtain ⟨r158,hr159,h⟩:=bnd h
 have h0_11:=h0_11.mono L148
 have h0_14:=h0_14.mono L148
 refine Ta Z (EO.callV1 (first:=#[]) (cap:=#[(pt g21 0)]) co47 Z (f_rpc_Check_1_ok (128:Int) a0 _ _ _ _ h0_11 h0_14 r158 hr159) (argsV1 Z Z)) Z ?_ ?_
 rintro _ M160 _ hle161 ⟨_,⟨rfl,rfl⟩,rfl⟩
 refine⟨(Sk 1 Z (Ss Z (Lb 0 pl3 Z Z Z) Z (Ss Z (Fa fo25_12 hs96_1 Z) Z trivial))), ?_⟩
 refine WT.a1 ?_
 obtain ⟨r163,hr164,h⟩:=bnd h
 refine Ta Z (Ca co48 (f_rpc_number_ok a0.Size r158 (1073741824:Int) _ r163 hr164) (args3 Z Z Z)) Z ?_ ?_
 rintro _ M165 _ hle166 ⟨_,⟨rfl,rfl⟩,rfl⟩
 refine⟨(Sl Z), ?_⟩
 refine WT.a0 (qt (Bv (!r163)) Z (PO.not Z) (qt (Bv (!r163)) Z (Mv Z) ?_))
 rcases Bi h with⟨hb168,h⟩ |⟨hb168,h⟩
 refine Tf 133 Z Z Z hb168 Z (Tf 133 Z Z Z hb168 Z (Tf 133 Z Z Z hb168 Z (Tg 133 Z Z Z hb168 Z ⟨(Sk 1 Z (St (Sf 133 Z Z Z hb168 Z) (St (Sf 133 Z Z Z hb168 Z) (Sl Z)))), ?_⟩ ?_)))
 refine Tg 133 Z Z Z hb168 Z ⟨(Sl Z), ?_⟩ ?_
 refine Tf 133 Z Z Z hb168 Z (qt (Bv true) Z (Pt Z hb168 Z) (qt (Bv true) Z (Ag Z) (Ti ?_)))
 obtain rfl:=oi h
 exact Tj ⟨(hle161.trans hle166),Z,hs96_1,hs96_3,Z⟩
 exact Tz
 exact Tz
 refine Tn (pt g21 13) 133 Z Z Z hb168 (Fa fo25_13 hs96_1 Z) Z (Tn (Iv a0.Pos) 133 Z Z Z hb168 (Lb 0 pl3 Z Z Z) Z (Tn (.func (.func 47) #[] #[(pt g21 0)]) 133 Z Z Z hb168 (Mv hs96_3) Z ?_))
 obtain ⟨r169,hr170,h⟩:=bnd h
 have h0_11:=h0_11.mono (hle161.trans hle166)
 have h0_14:=h0_14.mono (hle161.trans hle166)
 refine WT.altOn 133 Z Z Z hb168 (EO.callV1 (first:=#[]) (cap:=#[(pt g21 0)]) co47 Z (f_rpc_Check_1_ok (256:Int) a0 _ _ _ _ h0_11 h0_14 r169 hr170) (argsV1 Z Z)) Z ?_ ?_
 rintro _ M171 _ hle172 ⟨_,⟨rfl,rfl⟩,rfl⟩
 refine⟨(Sk 1 Z (St (StabA.on 133 Z Z Z hb168 (Lb 0 pl3 Z Z Z) Z) (St (StabA.on 133 Z Z Z hb168 (Fa fo25_13 hs96_1 Z) Z) (Sl Z)))), ?_⟩
 refine WT.a1 ?_
 obtain ⟨r174,hr175,h⟩:=bnd h
 refine WT.altOn 133 Z Z Z hb168 (Ca co48 (f_rpc_number_ok a0.Pos r169 (1073741824:Int) _ r174 hr175) (args3 Z Z Z)) Z ?_ ?_
 rintro _ M176 _ hle177 ⟨_,⟨rfl,rfl⟩,rfl⟩
 refine⟨(Sl Z), ?_⟩
 refine WT.a0 (Tn (Bv (!r174)) 133 Z Z Z hb168 (PO.not Z) Z (qt (Bv (!r174)) Z (Pf Z hb168 Z) (qt (Bv (!r174)) Z (Ag Z) (Ti ?_))))
 obtain rfl:=oi h
 exact Tj ⟨(((hle161.trans hle166).trans hle172).trans hle177),Z,hs96_1,hs96_3,Z⟩
 exact Tz
 exact Tz
 exact Tz
 exact Tz
 rintro ρ157 M157 H157 ⟨hle157,rfl,hs157_1,hs157_3,hs157_126⟩
 have L157:=L148.trans hle157
 have L157_1:=L148_1.trans hle157
 refine Ch h hs157_126 (fun hb179 h=> ?_) (fun hb179 h=> ?_)
 refine Sr (qu (pt g21 12) (Fa fo25_12 hs157_1 Z) (qu (Iv a0.Size) (Lb 0 pl3 Z Z Z) ?_))
 obtain ⟨r180,hr181,h⟩:=bnd h
 refine We (Ca co30 (f_fault_New_ok ⟨#[115,105,122,101]⟩ a0.Size (2:Int) _ r180 hr181) (args3 Z Z Z)) Z ?_
 rintro _ M182 _ hle183 ⟨_,⟨rfl,rfl⟩,rfl⟩
 exact WL.a0 (qa (GV r180) (Nt (Cr (Br (Tr (Dr (Rf h [] Z (Rs Z Z) (L157_1.trans hle183) ⟨Z,Z⟩)))))))
 obtain ⟨x185,hj186,h⟩:=bnd h
 refine Jf (fun(x185:Bool) ρ' M' H'=>M157.le M'∧[(g21, .cells (l25 a0 v0_11 v0_14).toArray 25 (0,0))]::F=H'∧ρ' 1=(pt g21 0)∧ρ' 3=(.func (.func 47) #[] #[(pt g21 0)])∧ρ' 144=(Bv x185)) x185 ?_ ?_
 have h:=hj186
 refine Cg (qu (pt g21 14) (Fa fo25_14 hs157_1 Z) (qu v0_14 (Lb 0 pl23 Z Z Z) ?_))
 have h0_14:=h0_14.mono L157
 refine qu (Iv (a0.Data.length:Int)) (PO.lenS Tryz.underlying23 Z h0_14.len) (qu (Bv (decide ((512:Int)<(a0.Data.length:Int)))) (PO.gtr Z Z) (qm (Bv (decide ((512:Int)<(a0.Data.length:Int)))) ?_))
 rcases Bi h with⟨hb187,h⟩ |⟨hb187,h⟩
 iterate 5 refine Of 149 Z Z hb187 Z ?_
 refine WL.offU 154 Z Z Z (WL.offU 154 Z Z Z (WL.offU 154 Z Z Z (Of 149 Z Z hb187 Z (qu (Bv true) (Pt Z hb187 Z) (qa (Bv true) (Wz ?_))))))
 obtain rfl:=oi h
 exact Tj ⟨lr,Z,hs157_1,hs157_3,Z⟩
 refine qo 149 hb187 (pt g21 14) (Fa fo25_14 hs157_1 Z) (qo 149 hb187 v0_14 (Lb 0 pl23 Z Z Z) (qo 149 hb187 (Iv (a0.Data.length:Int)) (PO.lenS Tryz.underlying23 Z h0_14.len) (qo 149 hb187 (Bv (decide ((0:Int)<(a0.Data.length:Int)))) (PO.gtr Z Z) (On 149 Z Z hb187 (qm (Bv (decide ((0:Int)<(a0.Data.length:Int)))) ?_)))))
 rcases Bi h with⟨hb188,h⟩ |⟨hb188,h⟩
 refine qo 154 hb188 (pt g21 0) (Fa fo25_0 hs157_1 Z) (qo 154 hb188 (Iv a0.Kind) (Lb 0 pl3 Z Z Z) (qo 154 hb188 (Bv (decide (a0.Kind≠8))) (PO.neq Z Z) (qo 149 hb187 (Bv (decide (a0.Kind≠8))) (Pt Z hb188 Z) (qu (Bv (decide (a0.Kind≠8))) (Pf Z hb187 Z) (qa (Bv (decide (a0.Kind≠8))) (Wz ?_))))))
 obtain rfl:=oi h
 exact Tj ⟨lr,Z,hs157_1,hs157_3,Z⟩
 iterate 3 refine Of 154 Z Z hb188 Z ?_
 refine qo 149 hb187 (Bv false) (Pf Z hb188 Z) (qu (Bv false) (Pf Z hb187 Z) (qa (Bv false) (Wz ?_)))
 obtain rfl:=oi h
 exact Tj ⟨lr,Z,hs157_1,hs157_3,Z⟩
 rintro ρ186 M186 H186 ⟨hle186,rfl,hs186_1,hs186_3,hs186_144⟩
 have L186:=L157.trans hle186
 have L186_1:=L157_1.trans hle186
 refine Ch h hs186_144 (fun hb189 h=> ?_) (fun hb189 h=> ?_)
 refine Sr (qu (pt g21 14) (Fa fo25_14 hs186_1 Z) (qu v0_14 (Lb 0 pl23 Z Z Z) ?_))
 have h0_14:=h0_14.mono L186
 refine qu (Iv (a0.Data.length:Int)) (PO.lenS Tryz.underlying23 Z h0_14.len) ?_
 obtain ⟨r190,hr191,h⟩:=bnd h
 refine We (Ca co30 (f_fault_New_ok ⟨#[100,97,116,97]⟩ (a0.Data.length:Int) (6:Int) _ r190 hr191) (args3 Z Z Z)) Z ?_
 rintro _ M192 _ hle193 ⟨_,⟨rfl,rfl⟩,rfl⟩
 exact WL.a0 (qa (GV r190) (Nt (Cr (Br (Tr (Dr (Rf h [] Z (Rs Z Z) (L186_1.trans hle193) ⟨Z,Z⟩)))))))
 obtain ⟨x195,hj196,h⟩:=bnd h
 refine Jf (fun(x195:Bool) ρ' M' H'=>M186.le M'∧[(g21, .cells (l25 a0 v0_11 v0_14).toArray 25 (0,0))]::F=H'∧ρ' 1=(pt g21 0)∧ρ' 164=(Bv x195)) x195 ?_ ?_
 have h:=hj196
 refine Cg (qu (pt g21 11) (Fa fo25_11 hs186_1 Z) (qu v0_11 (Lb 0 pl22 Z Z Z) ?_))
 have h0_11:=h0_11.mono L186
 refine qu (Iv (a0.Batches.length:Int)) (PO.lenS Tryz.underlying22 Z h0_11.len) (qu (Bv (decide ((8:Int)<(a0.Batches.length:Int)))) (PO.gtr Z Z) (qm (Bv (decide ((8:Int)<(a0.Batches.length:Int)))) ?_))
 rcases Bi h with⟨hb197,h⟩ |⟨hb197,h⟩
 iterate 4 refine Of 169 Z Z hb197 Z ?_
 refine WL.offU 173 Z Z Z (WL.offU 173 Z Z Z (WL.offU 173 Z Z Z (WL.offU 173 Z Z Z (Of 169 Z Z hb197 Z (qu (Bv true) (Pt Z hb197 Z) (qa (Bv true) (Wz ?_)))))))
 obtain rfl:=oi h
 exact Tj ⟨lr,Z,hs186_1,Z⟩
 refine On 169 Z Z hb197 (qM (.func (.func 47) #[] #[(pt g21 0)]) hs186_3 (On 169 Z Z hb197 ?_))
 obtain ⟨r198,hr199,h⟩:=bnd h
 have h0_14:=h0_14.mono L186
 refine We (EO.callV1 (first:=#[]) (cap:=#[(pt g21 0)]) co47 Z (f_rpc_Check_1_ok (64:Int) a0 _ _ _ _ h0_11 h0_14 r198 hr199) (argsV1 Z Z)) Z ?_
 rintro _ M200 _ hle201 ⟨_,⟨rfl,rfl⟩,rfl⟩
 refine WL.a1 (qo 169 hb197 (Bv (!r198)) (PO.not Z) (On 169 Z Z hb197 (qm (Bv (!r198)) ?_)))
 rcases Bi h with⟨hb203,h⟩ |⟨hb203,h⟩
 refine qo 173 hb203 (pt g21 11) (Fa fo25_11 hs186_1 Z) (qo 173 hb203 v0_11 (Lb 0 pl22 Z Z Z) (On 173 Z Z hb203 ?_))
 have h0_11:=h0_11.mono hle201
 refine qu (Iv (a0.Batches.length:Int)) (PO.lenS Tryz.underlying22 Z h0_11.len) (qo 173 hb203 (Bv (decide ((0:Int)<(a0.Batches.length:Int)))) (PO.gtr Z Z) (qo 169 hb197 (Bv (decide ((0:Int)<(a0.Batches.length:Int)))) (Pt Z hb203 Z) (qu (Bv (decide ((0:Int)<(a0.Batches.length:Int)))) (Pf Z hb197 Z) (qa (Bv (decide ((0:Int)<(a0.Batches.length:Int)))) (Wz ?_)))))
 obtain rfl:=oi h
 exact Tj ⟨hle201,Z,hs186_1,Z⟩
 iterate 4 refine Of 173 Z Z hb203 Z ?_
 refine qo 169 hb197 (Bv false) (Pf Z hb203 Z) (qu (Bv false) (Pf Z hb197 Z) (qa (Bv false) (Wz ?_)))
 obtain rfl:=oi h
 exact Tj ⟨hle201,Z,hs186_1,Z⟩
 rintro ρ196 M196 H196 ⟨hle196,rfl,hs196_1,hs196_164⟩
 have L196:=L186_1.trans hle196
 refine Ch h hs196_164 (fun hb204 h=> ?_) (fun hb204 h=> ?_)
 refine Sr (qu (pt g21 11) (Fa fo25_11 hs196_1 Z) (qu v0_11 (Lb 0 pl22 Z Z Z) ?_))
 have h0_11:=h0_11.mono (L186.trans hle196)
 refine qu (Iv (a0.Batches.length:Int)) (PO.lenS Tryz.underlying22 Z h0_11.len) ?_
 obtain ⟨r205,hr206,h⟩:=bnd h
 refine We (Ca co30 (f_fault_New_ok ⟨#[98,97,116,99,104,101,115]⟩ (a0.Batches.length:Int) (6:Int) _ r205 hr206) (args3 Z Z Z)) Z ?_
 rintro _ M207 _ hle208 ⟨_,⟨rfl,rfl⟩,rfl⟩
 exact WL.a0 (qa (GV r205) (Nt (Cr (Br (Tr (Dr (Rf h [] Z (Rs Z Z) (L196.trans hle208) ⟨Z,Z⟩)))))))
 refine Ck (Bn (Tc ?_))
 obtain ⟨j210,hj210,h⟩:=bnd h
 refine WC.joinE (fun(_:Unit) ρ' M' H'=>M196.le M'∧[(g21, .cells (l25 a0 v0_11 v0_14).toArray 25 (0,0))]::F=H') j210 ?_ ?_
 have h3210:=h
 have h:=hj210
 refine Sr (qu (pt g21 11) (Fa fo25_11 hs196_1 Z) (qu v0_11 (Lb 0 pl22 Z Z Z) ?_))
 have h0_11:=h0_11.mono (L186.trans hle196)
 refine qu (Iv (a0.Batches.length:Int)) (PO.lenS Tryz.underlying22 Z h0_11.len) (qm (Iv 0) (Nt (Bk ?_)))
 obtain ⟨e211,he211,hK211⟩:=bnd h
 clear h
 refine WC.loop he211 (fun(x212:Int) ρ' M' H'=>M196.le M'∧[(g21, .cells (l25 a0 v0_11 v0_14).toArray 25 (0,0))]::F=H'∧ρ' 185=v0_11∧ρ' 186=(Iv (a0.Batches.length:Int))∧ρ' 187=(Iv x212)) ?_ ?_
 exact⟨lr,Z,Z,Z,Z⟩
 rintro x212 o211 ρ211 M211 H211 h ⟨hle211,rfl,hs211_185,hs211_186,hs211_187⟩
 unfold f_rpc_Check_l0 at h
 refine Sr (qu (Bv (decide (x212<(a0.Batches.length:Int)))) (PO.lss hs211_187 hs211_186) (Nt (Cs (Ch h Z (fun hb214 h=> ?_) (fun hb214 h=> ?_)))))
 refine Ck (Tc (Cs (Bk (Sr (qM (Iv x212) hs211_187 ?_)))))
 obtain ⟨hg215,h⟩:=grd_i h
 have h0_11:=h0_11.mono hle211
 obtain ⟨p216,cs217,hat218,hrc219,hhas220⟩:=h0_11.at hg215.1 hg215.2 (by decide)
 obtain ⟨vw221_2,rfl,hw221_2⟩:=kd_api_Batch_open hrc219
 refine qu (.pointer (some p216)) (PO.indexAddr (n:=a0.Batches.length) Tryz.underlying22 sz55 hs211_185 hs211_187 hg215.1 hg215.2 hat218) (qu (a55_ (rd a0.Batches x212) vw221_2) (PO.loadMA (cs:=(l55 (rd a0.Batches x212) vw221_2)) ag55 sz55 Z hhas220) (We (Al ze55 Z) Z ?_))
 rintro _ _ _ - ⟨rfl,g222,rfl,rfl⟩
 refine qa (Iv x212) (We (Sg (v:=(a55_ (rd a0.Batches x212) vw221_2)) (vl:=(l55 (rd a0.Batches x212) vw221_2)) (arr':=(l55 (rd a0.Batches x212) vw221_2)) Z sz55 Z Z (onesOf (Oc Z (Oc Z (Oc (RS.one hw221_2) Oz)))) Z Z Z) Z ?_)
 rintro _ _ _ - ⟨rfl,rfl⟩
 refine Ns (qu (a55_ (rd a0.Batches x212) vw221_2) (La (cs:=(l55 (rd a0.Batches x212) vw221_2)) 0 ag55 sz55 Z Z Z) ?_)
 obtain ⟨r223,hr224,h⟩:=bnd h
 refine We (Ca co49 (f_batch_Check_ok (rd a0.Batches x212) _ _ hw221_2 r223 hr224) (args1 Z)) Z ?_
 rintro _ M225 _ hle226 ⟨_,⟨rfl,rfl⟩,rfl⟩
 refine WL.a0 (qa (GV r223) (Ns (qm (GV r223) (qu (Bv (!r223.isNil)) (PO.errNotNil Tryz.underlying31 Z) (Nt (Ch h Z (fun hb228 h=> ?_) (fun hb228 h=> ?_)))))))
 refine Sr (qm (Iv x212) (qm (GV r223) ?_))
 obtain ⟨r229,hr230,h⟩:=bnd h
 refine We (Ca co29 (f_fault_Wrap_ok ⟨#[98,97,116,99,104]⟩ x212 r223 _ r229 hr230) (args3 Z Z Z)) Z ?_
 rintro _ M231 _ hle232 ⟨_,⟨rfl,rfl⟩,rfl⟩
 refine WL.a0 (qa (GV r229) (Nt (Cr (Br (Tr (WQ.leaveR (Sum.inr r229) (oi h).symm (fun heq211=> ?_)))))))
 subst heq211
 have h:=(elimR hK211)
 refine Br (Tr ?_)
 have h:=KK.early h h3210
 exact Dr (Dr (Rf h [] Z (Rs Z Z) (((L196.trans hle211).trans hle226).trans hle232) ⟨Z,Z⟩))
 exact Ck (Bn (Tc (Cg (qu (Iv (IntKind.i64.wrap (x212+1))) (PO.add hs211_187 Z) (qm (Iv (IntKind.i64.wrap (x212+1))) (Wz (Dr (WQ.again (IntKind.i64.wrap (x212+1)) (oi h).symm ⟨(hle211.trans hle226),Z,hs211_185,hs211_186,Z⟩))))))))
 refine WC.exit (WQ.thenE (WQ.leaveE (Sum.inl ()) (oi h).symm (fun heq211=> ?_)))
 subst heq211
 have h:=elimL hK211
 exact WQ.blockH (WQ.thenFE h ⟨hle211,Z⟩)
 rintro _ ρ210 M210 H210 rfl ⟨hle210,rfl⟩
 have h:=(Sum.elim_inl _ _ _).symm.trans h
 exact Sr (qa (GV GErr.nil) (Nt (Cr (Dr (Rf h [] Z (Rs Z Z) (L196.trans hle210) ⟨Z,Z⟩)))))
 exact Tz
 exact Tz
 exact Tz
 exact Tz
 exact Tz
 exact Tz
noncomputable def f_wire_Num (a0:(List Int)) (a1:Int):Option (List Int):=
 (if(decide ((if(4611686018427387903:Int)<a1 then(4611686018427387903:Int)else a1)<(64:Int)))=true then(grd (a0.length+[IntKind.u8.wrap (if(4611686018427387903:Int)<a1 then(4611686018427387903:Int)else a1)].length≤274877906944) (some (a0++[IntKind.u8.wrap (if(4611686018427387903:Int)<a1 then(4611686018427387903:Int)else a1)])))else(if(decide ((if(4611686018427387903:Int)<a1 then(4611686018427387903:Int)else a1)<(16384:Int)))=true then(grd (a0.length+[orI .u8 (64:Int) (IntKind.u8.wrap (shrI .u64 (if(4611686018427387903:Int)<a1 then(4611686018427387903:Int)else a1) (8:Int))),IntKind.u8.wrap (if(4611686018427387903:Int)<a1 then(4611686018427387903:Int)else a1)].length≤274877906944) (some (a0++[orI .u8 (64:Int) (IntKind.u8.wrap (shrI .u64 (if(4611686018427387903:Int)<a1 then(4611686018427387903:Int)else a1) (8:Int))),IntKind.u8.wrap (if(4611686018427387903:Int)<a1 then(4611686018427387903:Int)else a1)])))else(if(decide ((if(4611686018427387903:Int)<a1 then(4611686018427387903:Int)else a1)<(1073741824:Int)))=true then(grd (a0.length+[orI .u8 (128:Int) (IntKind.u8.wrap (shrI .u64 (if(4611686018427387903:Int)<a1 then(4611686018427387903:Int)else a1) (24:Int))),IntKind.u8.wrap (shrI .u64 (if(4611686018427387903:Int)<a1 then(4611686018427387903:Int)else a1) (16:Int)),IntKind.u8.wrap (shrI .u64 (if(4611686018427387903:Int)<a1 then(4611686018427387903:Int)else a1) (8:Int)),IntKind.u8.wrap (if(4611686018427387903:Int)<a1 then(4611686018427387903:Int)else a1)].length≤274877906944) (some (a0++[orI .u8 (128:Int) (IntKind.u8.wrap (shrI .u64 (if(4611686018427387903:Int)<a1 then(4611686018427387903:Int)else a1) (24:Int))),IntKind.u8.wrap (shrI .u64 (if(4611686018427387903:Int)<a1 then(4611686018427387903:Int)else a1) (16:Int)),IntKind.u8.wrap (shrI .u64 (if(4611686018427387903:Int)<a1 then(4611686018427387903:Int)else a1) (8:Int)),IntKind.u8.wrap (if(4611686018427387903:Int)<a1 then(4611686018427387903:Int)else a1)])))else(grd (a0.length+[orI .u8 (192:Int) (IntKind.u8.wrap (shrI .u64 (if(4611686018427387903:Int)<a1 then(4611686018427387903:Int)else a1) (56:Int))),IntKind.u8.wrap (shrI .u64 (if(4611686018427387903:Int)<a1 then(4611686018427387903:Int)else a1) (48:Int)),IntKind.u8.wrap (shrI .u64 (if(4611686018427387903:Int)<a1 then(4611686018427387903:Int)else a1) (40:Int)),IntKind.u8.wrap (shrI .u64 (if(4611686018427387903:Int)<a1 then(4611686018427387903:Int)else a1) (32:Int)),IntKind.u8.wrap (shrI .u64 (if(4611686018427387903:Int)<a1 then(4611686018427387903:Int)else a1) (24:Int)),IntKind.u8.wrap (shrI .u64 (if(4611686018427387903:Int)<a1 then(4611686018427387903:Int)else a1) (16:Int)),IntKind.u8.wrap (shrI .u64 (if(4611686018427387903:Int)<a1 then(4611686018427387903:Int)else a1) (8:Int)),IntKind.u8.wrap (if(4611686018427387903:Int)<a1 then(4611686018427387903:Int)else a1)].length≤274877906944) (some (a0++[orI .u8 (192:Int) (IntKind.u8.wrap (shrI .u64 (if(4611686018427387903:Int)<a1 then(4611686018427387903:Int)else a1) (56:Int))),IntKind.u8.wrap (shrI .u64 (if(4611686018427387903:Int)<a1 then(4611686018427387903:Int)else a1) (48:Int)),IntKind.u8.wrap (shrI .u64 (if(4611686018427387903:Int)<a1 then(4611686018427387903:Int)else a1) (40:Int)),IntKind.u8.wrap (shrI .u64 (if(4611686018427387903:Int)<a1 then(4611686018427387903:Int)else a1) (32:Int)),IntKind.u8.wrap (shrI .u64 (if(4611686018427387903:Int)<a1 then(4611686018427387903:Int)else a1) (24:Int)),IntKind.u8.wrap (shrI .u64 (if(4611686018427387903:Int)<a1 then(4611686018427387903:Int)else a1) (16:Int)),IntKind.u8.wrap (shrI .u64 (if(4611686018427387903:Int)<a1 then(4611686018427387903:Int)else a1) (8:Int)),IntKind.u8.wrap (if(4611686018427387903:Int)<a1 then(4611686018427387903:Int)else a1)]))))))
def f_wire_Num_post (a0:(List Int)) (a1:Int) (v0:Value):(List Int)→Value→IM→HL→Prop:=
 fun(r0:(List Int)) (v:Value) (M':IM) (H':HL)=>∃ vz0 cz0,vz0=v∧H'=[cz0]∧OwnS (Kd.int .u8) M' vz0 r0 cz0
theorem f_wire_Num_ok (a0:(List Int)) (a1:Int) (M:IM) (v0:Value) (c0:Chunk) (h0:OwnS (Kd.int .u8) M v0 a0 c0) (res:(List Int)) (h:f_wire_Num a0 a1=some res):
 Tri Tryz.prog 66 #[v0,(Uv a1)] M [c0] (f_wire_Num_post a0 a1 v0 res):=by
 unfold f_wire_Num at h
 refine Te Tryz.func66 Z Z ?_
 intro F ρ hρ
 refine Sr (qa Zs (Ns (qM (Uv a1) (hρ 1) (qu (Uv (mn 4611686018427387903 a1)) (PO.min Z Z) (qa (Uv (mn 4611686018427387903 a1)) (Nt (Cs (Bk (Sr (qm (Uv (mn 4611686018427387903 a1)) (qu (Bv (decide ((mn 4611686018427387903 a1)<64))) (PO.lss Z Z) ?_)))))))))))
 refine qa (Bv (decide ((mn 4611686018427387903 a1)<64))) (Nt (Ch h Z (fun hb21 h=> ?_) (fun hb21 h=> ?_)))
 refine Sr (qM v0 (hρ 0) (qm (Uv (mn 4611686018427387903 a1)) (qu (Yv (IntKind.u8.wrap (mn 4611686018427387903 a1))) (PO.conv us105 Tryz.underlying5 Z) (We (EO.buildSliceL (cl:=[(Yv (IntKind.u8.wrap (mn 4611686018427387903 a1)))]) Tryz.underlying23 iz5 Z (Pc (Yv (IntKind.u8.wrap (mn 4611686018427387903 a1))) Z Z Pz) Z) Z ?_))))
 rintro _ _ _ - ⟨rfl,g22,rfl,rfl⟩
 have h24:OwnS (Kd.int .u8) M (.slice (some ⟨g22,0,none⟩) 1 1) [IntKind.u8.wrap (mn 4611686018427387903 a1)] [(g22, .cells #[(Yv (IntKind.u8.wrap (mn 4611686018427387903 a1)))] 5 (0,0))]:=OwnS.rows (css:=[[(Yv (IntKind.u8.wrap (mn 4611686018427387903 a1)))]]) (Rows.cons Z Rows.nil) Z Z
 obtain ⟨hg28,h⟩:=grd_i h
 refine WL.f1 (We (EO.append (dd:=(Kd.int .u8)) (xs:=a0) (ys:=[IntKind.u8.wrap (mn 4611686018427387903 a1)]) Tryz.underlying23 Tryz.underlying23 in5 Z (appB (by decide) hg28) (by decide) Z Z h0 (h24.src 1 Z)) Z ?_)
 rintro v27 _ _ - ⟨rfl,c25,rfl,h26⟩
 exact qa v27 (Nt (Cr (Br (Tr (Qa (Dr (Rf h [c25] Z (Rs Z Z) lr ⟨v27,c25,Z,Z,h26⟩)))))))
 refine Sr (qm (Uv (mn 4611686018427387903 a1)) (qu (Bv (decide ((mn 4611686018427387903 a1)<16384))) (PO.lss Z Z) (qa (Bv (decide ((mn 4611686018427387903 a1)<16384))) (Nt (Ch h Z (fun hb29 h=> ?_) (fun hb29 h=> ?_))))))
 refine Sr (qM v0 (hρ 0) (qm (Uv (mn 4611686018427387903 a1)) (qu (Uv (shrI .u64 (mn 4611686018427387903 a1) (8:Int))) (PO.shr Z Z (by decide)) (qu (Yv (IntKind.u8.wrap (shrI .u64 (mn 4611686018427387903 a1) (8:Int)))) (PO.conv us105 Tryz.underlying5 Z) (qu (Yv (orI .u8 64 (IntKind.u8.wrap (shrI .u64 (mn 4611686018427387903 a1) (8:Int))))) (PO.or Z Z) (qm (Uv (mn 4611686018427387903 a1)) (qu (Yv (IntKind.u8.wrap (mn 4611686018427387903 a1))) (PO.conv us105 Tryz.underlying5 Z) (We (EO.buildSliceL (cl:=[(Yv (orI .u8 64 (IntKind.u8.wrap (shrI .u64 (mn 4611686018427387903 a1) (8:Int))))),(Yv (IntKind.u8.wrap (mn 4611686018427387903 a1)))]) Tryz.underlying23 iz5 Z (Pc (Yv (orI .u8 64 (IntKind.u8.wrap (shrI .u64 (mn 4611686018427387903 a1) (8:Int))))) Z Z (Pc (Yv (IntKind.u8.wrap (mn 4611686018427387903 a1))) Z Z Pz)) Z) Z ?_))))))))
 rintro _ _ _ - ⟨rfl,g30,rfl,rfl⟩
 have h32:OwnS (Kd.int .u8) M (.slice (some ⟨g30,0,none⟩) 2 2) [orI .u8 64 (IntKind.u8.wrap (shrI .u64 (mn 4611686018427387903 a1) (8:Int))),IntKind.u8.wrap (mn 4611686018427387903 a1)] [(g30, .cells #[(Yv (orI .u8 64 (IntKind.u8.wrap (shrI .u64 (mn 4611686018427387903 a1) (8:Int))))),(Yv (IntKind.u8.wrap (mn 4611686018427387903 a1)))] 5 (0,0))]:=OwnS.rows (css:=[[(Yv (orI .u8 64 (IntKind.u8.wrap (shrI .u64 (mn 4611686018427387903 a1) (8:Int)))))],[(Yv (IntKind.u8.wrap (mn 4611686018427387903 a1)))]]) (Rows.cons Z (Rows.cons Z Rows.nil)) Z Z
 obtain ⟨hg36,h⟩:=grd_i h
 refine WL.f1 (We (EO.append (dd:=(Kd.int .u8)) (xs:=a0) (ys:=[orI .u8 64 (IntKind.u8.wrap (shrI .u64 (mn 4611686018427387903 a1) (8:Int))),IntKind.u8.wrap (mn 4611686018427387903 a1)]) Tryz.underlying23 Tryz.underlying23 in5 Z (appB (by decide) hg36) (by decide) Z Z h0 (h32.src 1 Z)) Z ?_)
 rintro v35 _ _ - ⟨rfl,c33,rfl,h34⟩
 exact qa v35 (Nt (Cr (Br (Tr (Qa (Dr (Rf h [c33] Z (Rs Z Z) lr ⟨v35,c33,Z,Z,h34⟩)))))))
 refine Sr (qm (Uv (mn 4611686018427387903 a1)) (qu (Bv (decide ((mn 4611686018427387903 a1)<1073741824))) (PO.lss Z Z) (qa (Bv (decide ((mn 4611686018427387903 a1)<1073741824))) (Nt (Ch h Z (fun hb37 h=> ?_) (fun hb37 h=> ?_))))))
 refine Sr (qM v0 (hρ 0) (qm (Uv (mn 4611686018427387903 a1)) (qu (Uv (shrI .u64 (mn 4611686018427387903 a1) (24:Int))) (PO.shr Z Z (by decide)) (qu (Yv (IntKind.u8.wrap (shrI .u64 (mn 4611686018427387903 a1) (24:Int)))) (PO.conv us105 Tryz.underlying5 Z) (qu (Yv (orI .u8 128 (IntKind.u8.wrap (shrI .u64 (mn 4611686018427387903 a1) (24:Int))))) (PO.or Z Z) (qm (Uv (mn 4611686018427387903 a1)) (qu (Uv (shrI .u64 (mn 4611686018427387903 a1) (16:Int))) (PO.shr Z Z (by decide)) (qu (Yv (IntKind.u8.wrap (shrI .u64 (mn 4611686018427387903 a1) (16:Int)))) (PO.conv us105 Tryz.underlying5 Z) (qm (Uv (mn 4611686018427387903 a1)) (qu (Uv (shrI .u64 (mn 4611686018427387903 a1) (8:Int))) (PO.shr Z Z (by decide)) (qu (Yv (IntKind.u8.wrap (shrI .u64 (mn 4611686018427387903 a1) (8:Int)))) (PO.conv us105 Tryz.underlying5 Z) ?_)))))))))))
 refine qm (Uv (mn 4611686018427387903 a1)) (qu (Yv (IntKind.u8.wrap (mn 4611686018427387903 a1))) (PO.conv us105 Tryz.underlying5 Z) (We (EO.buildSliceL (cl:=[(Yv (orI .u8 128 (IntKind.u8.wrap (shrI .u64 (mn 4611686018427387903 a1) (24:Int))))),(Yv (IntKind.u8.wrap (shrI .u64 (mn 4611686018427387903 a1) (16:Int)))),(Yv (IntKind.u8.wrap (shrI .u64 (mn 4611686018427387903 a1) (8:Int)))),(Yv (IntKind.u8.wrap (mn 4611686018427387903 a1)))]) Tryz.underlying23 iz5 Z (Pc (Yv (orI .u8 128 (IntKind.u8.wrap (shrI .u64 (mn 4611686018427387903 a1) (24:Int))))) Z Z (Pc (Yv (IntKind.u8.wrap (shrI .u64 (mn 4611686018427387903 a1) (16:Int)))) Z Z (Pc (Yv (IntKind.u8.wrap (shrI .u64 (mn 4611686018427387903 a1) (8:Int)))) Z Z (Pc (Yv (IntKind.u8.wrap (mn 4611686018427387903 a1))) Z Z Pz)))) Z) Z ?_))
 rintro _ _ _ - ⟨rfl,g38,rfl,rfl⟩
 have h40:OwnS (Kd.int .u8) M (.slice (some ⟨g38,0,none⟩) 4 4) [orI .u8 128 (IntKind.u8.wrap (shrI .u64 (mn 4611686018427387903 a1) (24:Int))),IntKind.u8.wrap (shrI .u64 (mn 4611686018427387903 a1) (16:Int)),IntKind.u8.wrap (shrI .u64 (mn 4611686018427387903 a1) (8:Int)),IntKind.u8.wrap (mn 4611686018427387903 a1)] [(g38, .cells #[(Yv (orI .u8 128 (IntKind.u8.wrap (shrI .u64 (mn 4611686018427387903 a1) (24:Int))))),(Yv (IntKind.u8.wrap (shrI .u64 (mn 4611686018427387903 a1) (16:Int)))),(Yv (IntKind.u8.wrap (shrI .u64 (mn 4611686018427387903 a1) (8:Int)))),(Yv (IntKind.u8.wrap (mn 4611686018427387903 a1)))] 5 (0,0))]:=OwnS.rows (css:=[[(Yv (orI .u8 128 (IntKind.u8.wrap (shrI .u64 (mn 4611686018427387903 a1) (24:Int)))))],[(Yv (IntKind.u8.wrap (shrI .u64 (mn 4611686018427387903 a1) (16:Int))))],[(Yv (IntKind.u8.wrap (shrI .u64 (mn 4611686018427387903 a1) (8:Int))))],[(Yv (IntKind.u8.wrap (mn 4611686018427387903 a1)))]]) (Rows.cons Z (Rows.cons Z (Rows.cons Z (Rows.cons Z Rows.nil)))) Z Z
 obtain ⟨hg44,h⟩:=grd_i h
 refine WL.f1 (We (EO.append (dd:=(Kd.int .u8)) (xs:=a0) (ys:=[orI .u8 128 (IntKind.u8.wrap (shrI .u64 (mn 4611686018427387903 a1) (24:Int))),IntKind.u8.wrap (shrI .u64 (mn 4611686018427387903 a1) (16:Int)),IntKind.u8.wrap (shrI .u64 (mn 4611686018427387903 a1) (8:Int)),IntKind.u8.wrap (mn 4611686018427387903 a1)]) Tryz.underlying23 Tryz.underlying23 in5 Z (appB (by decide) hg44) (by decide) Z Z h0 (h40.src 1 Z)) Z ?_)
 rintro v43 _ _ - ⟨rfl,c41,rfl,h42⟩
 exact qa v43 (Nt (Cr (Br (Tr (Qa (Dr (Rf h [c41] Z (Rs Z Z) lr ⟨v43,c41,Z,Z,h42⟩)))))))
 refine Ck (Bn (Tc (Sr (qM v0 (hρ 0) (qm (Uv (mn 4611686018427387903 a1)) (qu (Uv (shrI .u64 (mn 4611686018427387903 a1) (56:Int))) (PO.shr Z Z (by decide)) (qu (Yv (IntKind.u8.wrap (shrI .u64 (mn 4611686018427387903 a1) (56:Int)))) (PO.conv us105 Tryz.underlying5 Z) (qu (Yv (orI .u8 192 (IntKind.u8.wrap (shrI .u64 (mn 4611686018427387903 a1) (56:Int))))) (PO.or Z Z) (qm (Uv (mn 4611686018427387903 a1)) (qu (Uv (shrI .u64 (mn 4611686018427387903 a1) (48:Int))) (PO.shr Z Z (by decide)) (qu (Yv (IntKind.u8.wrap (shrI .u64 (mn 4611686018427387903 a1) (48:Int)))) (PO.conv us105 Tryz.underlying5 Z) ?_)))))))))))
 refine qm (Uv (mn 4611686018427387903 a1)) (qu (Uv (shrI .u64 (mn 4611686018427387903 a1) (40:Int))) (PO.shr Z Z (by decide)) (qu (Yv (IntKind.u8.wrap (shrI .u64 (mn 4611686018427387903 a1) (40:Int)))) (PO.conv us105 Tryz.underlying5 Z) (qm (Uv (mn 4611686018427387903 a1)) (qu (Uv (shrI .u64 (mn 4611686018427387903 a1) (32:Int))) (PO.shr Z Z (by decide)) (qu (Yv (IntKind.u8.wrap (shrI .u64 (mn 4611686018427387903 a1) (32:Int)))) (PO.conv us105 Tryz.underlying5 Z) (qm (Uv (mn 4611686018427387903 a1)) (qu (Uv (shrI .u64 (mn 4611686018427387903 a1) (24:Int))) (PO.shr Z Z (by decide)) (qu (Yv (IntKind.u8.wrap (shrI .u64 (mn 4611686018427387903 a1) (24:Int)))) (PO.conv us105 Tryz.underlying5 Z) (qm (Uv (mn 4611686018427387903 a1)) (qu (Uv (shrI .u64 (mn 4611686018427387903 a1) (16:Int))) (PO.shr Z Z (by decide)) (qu (Yv (IntKind.u8.wrap (shrI .u64 (mn 4611686018427387903 a1) (16:Int)))) (PO.conv us105 Tryz.underlying5 Z) ?_)))))))))))
 refine qm (Uv (mn 4611686018427387903 a1)) (qu (Uv (shrI .u64 (mn 4611686018427387903 a1) (8:Int))) (PO.shr Z Z (by decide)) (qu (Yv (IntKind.u8.wrap (shrI .u64 (mn 4611686018427387903 a1) (8:Int)))) (PO.conv us105 Tryz.underlying5 Z) (qm (Uv (mn 4611686018427387903 a1)) (qu (Yv (IntKind.u8.wrap (mn 4611686018427387903 a1))) (PO.conv us105 Tryz.underlying5 Z) (We (EO.buildSliceL (cl:=[(Yv (orI .u8 192 (IntKind.u8.wrap (shrI .u64 (mn 4611686018427387903 a1) (56:Int))))),(Yv (IntKind.u8.wrap (shrI .u64 (mn 4611686018427387903 a1) (48:Int)))),(Yv (IntKind.u8.wrap (shrI .u64 (mn 4611686018427387903 a1) (40:Int)))),(Yv (IntKind.u8.wrap (shrI .u64 (mn 4611686018427387903 a1) (32:Int)))),(Yv (IntKind.u8.wrap (shrI .u64 (mn 4611686018427387903 a1) (24:Int)))),(Yv (IntKind.u8.wrap (shrI .u64 (mn 4611686018427387903 a1) (16:Int)))),(Yv (IntKind.u8.wrap (shrI .u64 (mn 4611686018427387903 a1) (8:Int)))),(Yv (IntKind.u8.wrap (mn 4611686018427387903 a1)))]) Tryz.underlying23 iz5 Z (Pc (Yv (orI .u8 192 (IntKind.u8.wrap (shrI .u64 (mn 4611686018427387903 a1) (56:Int))))) Z Z (Pc (Yv (IntKind.u8.wrap (shrI .u64 (mn 4611686018427387903 a1) (48:Int)))) Z Z (Pc (Yv (IntKind.u8.wrap (shrI .u64 (mn 4611686018427387903 a1) (40:Int)))) Z Z (Pc (Yv (IntKind.u8.wrap (shrI .u64 (mn 4611686018427387903 a1) (32:Int)))) Z Z (Pc (Yv (IntKind.u8.wrap (shrI .u64 (mn 4611686018427387903 a1) (24:Int)))) Z Z (Pc (Yv (IntKind.u8.wrap (shrI .u64 (mn 4611686018427387903 a1) (16:Int)))) Z Z (Pc (Yv (IntKind.u8.wrap (shrI .u64 (mn 4611686018427387903 a1) (8:Int)))) Z Z (Pc (Yv (IntKind.u8.wrap (mn 4611686018427387903 a1))) Z Z Pz)))))))) Z) Z ?_)))))
 rintro _ _ _ - ⟨rfl,g45,rfl,rfl⟩
 have h47:OwnS (Kd.int .u8) M (.slice (some ⟨g45,0,none⟩) 8 8) [orI .u8 192 (IntKind.u8.wrap (shrI .u64 (mn 4611686018427387903 a1) (56:Int))),IntKind.u8.wrap (shrI .u64 (mn 4611686018427387903 a1) (48:Int)),IntKind.u8.wrap (shrI .u64 (mn 4611686018427387903 a1) (40:Int)),IntKind.u8.wrap (shrI .u64 (mn 4611686018427387903 a1) (32:Int)),IntKind.u8.wrap (shrI .u64 (mn 4611686018427387903 a1) (24:Int)),IntKind.u8.wrap (shrI .u64 (mn 4611686018427387903 a1) (16:Int)),IntKind.u8.wrap (shrI .u64 (mn 4611686018427387903 a1) (8:Int)),IntKind.u8.wrap (mn 4611686018427387903 a1)] [(g45, .cells #[(Yv (orI .u8 192 (IntKind.u8.wrap (shrI .u64 (mn 4611686018427387903 a1) (56:Int))))),(Yv (IntKind.u8.wrap (shrI .u64 (mn 4611686018427387903 a1) (48:Int)))),(Yv (IntKind.u8.wrap (shrI .u64 (mn 4611686018427387903 a1) (40:Int)))),(Yv (IntKind.u8.wrap (shrI .u64 (mn 4611686018427387903 a1) (32:Int)))),(Yv (IntKind.u8.wrap (shrI .u64 (mn 4611686018427387903 a1) (24:Int)))),(Yv (IntKind.u8.wrap (shrI .u64 (mn 4611686018427387903 a1) (16:Int)))),(Yv (IntKind.u8.wrap (shrI .u64 (mn 4611686018427387903 a1) (8:Int)))),(Yv (IntKind.u8.wrap (mn 4611686018427387903 a1)))] 5 (0,0))]:=OwnS.rows (css:=[[(Yv (orI .u8 192 (IntKind.u8.wrap (shrI .u64 (mn 4611686018427387903 a1) (56:Int)))))],[(Yv (IntKind.u8.wrap (shrI .u64 (mn 4611686018427387903 a1) (48:Int))))],[(Yv (IntKind.u8.wrap (shrI .u64 (mn 4611686018427387903 a1) (40:Int))))],[(Yv (IntKind.u8.wrap (shrI .u64 (mn 4611686018427387903 a1) (32:Int))))],[(Yv (IntKind.u8.wrap (shrI .u64 (mn 4611686018427387903 a1) (24:Int))))],[(Yv (IntKind.u8.wrap (shrI .u64 (mn 4611686018427387903 a1) (16:Int))))],[(Yv (IntKind.u8.wrap (shrI .u64 (mn 4611686018427387903 a1) (8:Int))))],[(Yv (IntKind.u8.wrap (mn 4611686018427387903 a1)))]]) (Rows.cons Z (Rows.cons Z (Rows.cons Z (Rows.cons Z (Rows.cons Z (Rows.cons Z (Rows.cons Z (Rows.cons Z Rows.nil)))))))) Z Z
 obtain ⟨hg51,h⟩:=grd_i h
 refine WL.f1 (We (EO.append (dd:=(Kd.int .u8)) (xs:=a0) (ys:=[orI .u8 192 (IntKind.u8.wrap (shrI .u64 (mn 4611686018427387903 a1) (56:Int))),IntKind.u8.wrap (shrI .u64 (mn 4611686018427387903 a1) (48:Int)),IntKind.u8.wrap (shrI .u64 (mn 4611686018427387903 a1) (40:Int)),IntKind.u8.wrap (shrI .u64 (mn 4611686018427387903 a1) (32:Int)),IntKind.u8.wrap (shrI .u64 (mn 4611686018427387903 a1) (24:Int)),IntKind.u8.wrap (shrI .u64 (mn 4611686018427387903 a1) (16:Int)),IntKind.u8.wrap (shrI .u64 (mn 4611686018427387903 a1) (8:Int)),IntKind.u8.wrap (mn 4611686018427387903 a1)]) Tryz.underlying23 Tryz.underlying23 in5 Z (appB (by decide) hg51) (by decide) Z Z h0 (h47.src 1 Z)) Z ?_)
 rintro v50 _ _ - ⟨rfl,c48,rfl,h49⟩
 exact qa v50 (Nt (Cr (Qa (Dr (Rf h [c48] Z (Rs Z Z) lr ⟨v50,c48,Z,Z,h49⟩)))))
noncomputable def f_wire_Int (a0:(List Int)) (a1:Int):Option (List Int):=
 ((f_wire_Num a0 (IntKind.u64.wrap (if a1<(0:Int)then(0:Int)else a1))).bind fun r21=>(some r21))
def f_wire_Int_post (a0:(List Int)) (a1:Int) (v0:Value):(List Int)→Value→IM→HL→Prop:=
 fun(r0:(List Int)) (v:Value) (M':IM) (H':HL)=>∃ vz0 cz0,vz0=v∧H'=[cz0]∧OwnS (Kd.int .u8) M' vz0 r0 cz0
theorem f_wire_Int_ok (a0:(List Int)) (a1:Int) (M:IM) (v0:Value) (c0:Chunk) (h0:OwnS (Kd.int .u8) M v0 a0 c0) (res:(List Int)) (h:f_wire_Int a0 a1=some res):
 Tri Tryz.prog 24 #[v0,(Iv a1)] M [c0] (f_wire_Int_post a0 a1 v0 res):=by
 unfold f_wire_Int at h
 refine Te Tryz.func24 Z Z ?_
 intro F ρ hρ
 refine Sr (qa Zs (Ns (qM v0 (hρ 0) (qM (Iv a1) (hρ 1) (qu (Iv (if a1<0 then(0:Int)else a1)) (PO.max Z Z) (qu (Uv (IntKind.u64.wrap (if a1<0 then(0:Int)else a1))) (PO.conv us3 Tryz.underlying105 Z) ?_))))))
 obtain ⟨r21,hr22,h⟩:=bnd h
 refine We (Cb co66 (f_wire_Num_ok a0 (IntKind.u64.wrap (if a1<0 then(0:Int)else a1)) _ _ _ h0 r21 hr22) (args2 Z Z)) Z ?_
 rintro _ M23 _ hle24 ⟨_,⟨vq25,cq25,rfl,rfl,hq25⟩,rfl⟩
 exact WL.a1 (qa vq25 (Nt (Cr (Rf h [cq25] Z (Rs Z Z) hle24 ⟨vq25,cq25,Z,Z,hq25⟩))))
noncomputable def f_wire_Flag (a0:(List Int)) (a1:Bool):Option (List Int):=
 (if a1=true then(grd (a0.length+[(1:Int)].length≤274877906944) (some (a0++[(1:Int)])))else(grd (a0.length+[(0:Int)].length≤274877906944) (some (a0++[(0:Int)]))))
def f_wire_Flag_post (a0:(List Int)) (a1:Bool) (v0:Value):(List Int)→Value→IM→HL→Prop:=
 fun(r0:(List Int)) (v:Value) (M':IM) (H':HL)=>∃ vz0 cz0,vz0=v∧H'=[cz0]∧OwnS (Kd.int .u8) M' vz0 r0 cz0
theorem f_wire_Flag_ok (a0:(List Int)) (a1:Bool) (M:IM) (v0:Value) (c0:Chunk) (h0:OwnS (Kd.int .u8) M v0 a0 c0) (res:(List Int)) (h:f_wire_Flag a0 a1=some res):
 Tri Tryz.prog 26 #[v0,(Bv a1)] M [c0] (f_wire_Flag_post a0 a1 v0 res):=by
 unfold f_wire_Flag at h
 refine Te Tryz.func26 Z Z ?_
 intro F ρ hρ
 refine Sr (qa Zs (Nt (Cs (Sr (qM (Bv a1) (hρ 1) (Nt (Ch h Z (fun hb21 h=> ?_) (fun hb21 h=> ?_))))))))
 refine Sr (qM v0 (hρ 0) (We (EO.buildSliceL (cl:=[(Yv 1)]) Tryz.underlying23 iz5 Z (Pc (Yv 1) Z Z Pz) Z) Z ?_))
 rintro _ _ _ - ⟨rfl,g22,rfl,rfl⟩
 have h24:OwnS (Kd.int .u8) M (.slice (some ⟨g22,0,none⟩) 1 1) [(1:Int)] [(g22, .cells #[(Yv 1)] 5 (0,0))]:=OwnS.rows (css:=[[(Yv 1)]]) (Rows.cons Z Rows.nil) Z Z
 obtain ⟨hg28,h⟩:=grd_i h
 refine WL.f1 (We (EO.append (dd:=(Kd.int .u8)) (xs:=a0) (ys:=[(1:Int)]) Tryz.underlying23 Tryz.underlying23 in5 Z (appB (by decide) hg28) (by decide) Z Z h0 (h24.src 1 Z)) Z ?_)
 rintro v27 _ _ - ⟨rfl,c25,rfl,h26⟩
 exact qa v27 (Nt (Cr (Tr (Qa (Dr (Rf h [c25] Z (Rs Z Z) lr ⟨v27,c25,Z,Z,h26⟩))))))
 refine Ck (Tc (Sr (qM v0 (hρ 0) (We (EO.buildSliceL (cl:=[(Yv 0)]) Tryz.underlying23 iz5 Z (Pc (Yv 0) Z Z Pz) Z) Z ?_))))
 rintro _ _ _ - ⟨rfl,g29,rfl,rfl⟩
 have h31:OwnS (Kd.int .u8) M (.slice (some ⟨g29,0,none⟩) 1 1) [(0:Int)] [(g29, .cells #[(Yv 0)] 5 (0,0))]:=OwnS.rows (css:=[[(Yv 0)]]) (Rows.cons Z Rows.nil) Z Z
 obtain ⟨hg35,h⟩:=grd_i h
 refine WL.f1 (We (EO.append (dd:=(Kd.int .u8)) (xs:=a0) (ys:=[(0:Int)]) Tryz.underlying23 Tryz.underlying23 in5 Z (appB (by decide) hg35) (by decide) Z Z h0 (h31.src 1 Z)) Z ?_)
 rintro v34 _ _ - ⟨rfl,c32,rfl,h33⟩
 exact qa v34 (Nt (Cr (Qa (Dr (Rf h [c32] Z (Rs Z Z) lr ⟨v34,c32,Z,Z,h33⟩)))))
noncomputable def f_rpc_Put_1 (a0:Int) (a1:Int) (a2:Int) (a3:(List Int)):Option (List Int):=
 (if(decide ((andI .i64 a2 a0)≠(0:Int)))=true then((f_wire_Int a3 a1).bind fun r22=>(some r22))else(some a3))
def f_rpc_Put_1_post (a0:Int) (a1:Int) (a2:Int) (a3:(List Int)) (v3:Value) (g2 g3:Nat):(List Int)→Value→IM→HL→Prop:=
 fun(r0:(List Int)) (v:Value) (M':IM) (H':HL)=>∃ w0 d1,(.tuple #[])=v∧H'=[[(g2, .cells #[(.int .i64 a2)] 3 (0,0))],[(g3, .cells #[w0] 23 (0,0))],d1]∧OwnS (Kd.int .u8) M' w0 r0 d1
theorem f_rpc_Put_1_ok (a0:Int) (a1:Int) (a2:Int) (a3:(List Int)) (M:IM) (v3:Value) (g2 g3:Nat) (c3:Chunk) (h3:OwnS (Kd.int .u8) M v3 a3 c3) (res:(List Int)) (h:f_rpc_Put_1 a0 a1 a2 a3=some res):
 Tri Tryz.prog 25 #[(Iv a0),(Iv a1),(pt g2 0),(pt g3 0)] M [[(g2, .cells #[(Iv a2)] 3 (0,0))],[(g3, .cells #[v3] 23 (0,0))],c3] (f_rpc_Put_1_post a0 a1 a2 a3 v3 g2 g3 res):=by
 unfold f_rpc_Put_1 at h
 refine Te Tryz.func25 Z Z ?_
 intro F ρ hρ
 refine Sr (qu (Iv a2) (Lb 0 pl3 (hρ 2) Z Z) (qM (Iv a0) (hρ 0) (qu (Iv (andI .i64 a2 a0)) (PO.and Z Z) (qu (Bv (decide ((andI .i64 a2 a0)≠0))) (PO.neq Z Z) (Nt (Ch h Z (fun hb21 h=> ?_) (fun hb21 h=> ?_)))))))
 refine Cg (qu v3 (Lb 1 pl23 (hρ 3) Z Z) (qM (Iv a1) (hρ 1) ?_))
 obtain ⟨r22,hr23,h⟩:=bnd h
 refine Wb (We (Cb co24 (f_wire_Int_ok a3 a1 _ _ _ h3 r22 hr23) (args2 Z Z)) Z ?_)
 rintro _ M24 _ hle25 ⟨_,⟨vq26,cq26,rfl,rfl,hq26⟩,rfl⟩
 refine WL.a1 (Wb (We (Es vq26 [vq26] hq26.cells sz23 (hρ 3) Z (Ow hq26) Z Z Z) Z ?_))
 rintro _ _ _ - ⟨rfl,rfl⟩
 exact Wz (Qa (Qa (Qb (WQ.endsF h [[(g2, .cells #[(Iv a2)] 3 (0,0))],[(g3, .cells #[vq26] 23 (0,0))],cq26] Z (results0 Z) hle25 ⟨vq26,cq26,Z,Z,hq26⟩))))
 exact Ck (WQ.endsF h [[(g2, .cells #[(Iv a2)] 3 (0,0))],[(g3, .cells #[v3] 23 (0,0))],c3] Z (results0 Z) lr ⟨v3,c3,Z,Z,h3⟩)
noncomputable def f_wire_Text (a0:(List Int)) (a1:(List Int)):Option (List Int):=
 ((f_wire_Int a0 (a1.length:Int)).bind fun r21=>(grd (r21.length+a1.length≤274877906944) (some (r21++a1))))
def f_wire_Text_post (a0:(List Int)) (a1:(List Int)) (v0 v1:Value):(List Int)→Value→IM→HL→Prop:=
 fun(r0:(List Int)) (v:Value) (M':IM) (H':HL)=>∃ vz0 cz0,vz0=v∧H'=[cz0]∧OwnS (Kd.int .u8) M' vz0 r0 cz0
theorem f_wire_Text_ok (a0:(List Int)) (a1:(List Int)) (M:IM) (v0 v1:Value) (c0:Chunk) (h0:OwnS (Kd.int .u8) M v0 a0 c0) (h1:RS (Kd.int .u8) M v1 a1) (res:(List Int)) (h:f_wire_Text a0 a1=some res):
 Tri Tryz.prog 27 #[v0,v1] M [c0] (f_wire_Text_post a0 a1 v0 v1 res):=by
 unfold f_wire_Text at h
 refine Te Tryz.func27 Z Z ?_
 intro F ρ hρ
 refine Sr (qa Zs (Ns (qM v0 (hρ 0) (qM v1 (hρ 1) (qu (Iv (a1.length:Int)) (PO.lenS Tryz.underlying23 Z h1.len) ?_)))))
 obtain ⟨r21,hr22,h⟩:=bnd h
 refine We (Cb co24 (f_wire_Int_ok a0 (a1.length:Int) _ _ _ h0 r21 hr22) (args2 Z Z)) Z ?_
 rintro _ M23 _ hle24 ⟨_,⟨vq25,cq25,rfl,rfl,hq25⟩,rfl⟩
 refine WL.a1 (qM v1 (hρ 1) ?_)
 obtain ⟨hg29,h⟩:=grd_i h
 have h1:=h1.mono hle24
 refine We (EO.append (dd:=(Kd.int .u8)) (xs:=r21) (ys:=a1) Tryz.underlying23 Tryz.underlying23 in5 Z (appB (by decide) hg29) (by decide) Z Z hq25 (h1.src _)) Z ?_
 rintro v28 _ _ - ⟨rfl,c26,rfl,h27⟩
 exact qa v28 (Nt (Cr (Rf h [c26] Z (Rs Z Z) hle24 ⟨v28,c26,Z,Z,h27⟩)))
noncomputable def f_record_Put_1 (a0:Int) (a1:Int) (a2:Int) (a3:(List Int)):Option (List Int):=
 (if(decide ((andI .i64 a2 a0)≠(0:Int)))=true then((f_wire_Int a3 a1).bind fun r22=>(some r22))else(some a3))
def f_record_Put_1_post (a0:Int) (a1:Int) (a2:Int) (a3:(List Int)) (v3:Value) (g2 g3:Nat):(List Int)→Value→IM→HL→Prop:=
 fun(r0:(List Int)) (v:Value) (M':IM) (H':HL)=>∃ w0 d1,(.tuple #[])=v∧H'=[[(g2, .cells #[(.int .i64 a2)] 3 (0,0))],[(g3, .cells #[w0] 23 (0,0))],d1]∧OwnS (Kd.int .u8) M' w0 r0 d1
theorem f_record_Put_1_ok (a0:Int) (a1:Int) (a2:Int) (a3:(List Int)) (M:IM) (v3:Value) (g2 g3:Nat) (c3:Chunk) (h3:OwnS (Kd.int .u8) M v3 a3 c3) (res:(List Int)) (h:f_record_Put_1 a0 a1 a2 a3=some res):
 Tri Tryz.prog 94 #[(Iv a0),(Iv a1),(pt g2 0),(pt g3 0)] M [[(g2, .cells #[(Iv a2)] 3 (0,0))],[(g3, .cells #[v3] 23 (0,0))],c3] (f_record_Put_1_post a0 a1 a2 a3 v3 g2 g3 res):=by
 unfold f_record_Put_1 at h
 refine Te Tryz.func94 Z Z ?_
 intro F ρ hρ
 refine Sr (qu (Iv a2) (Lb 0 pl3 (hρ 2) Z Z) (qM (Iv a0) (hρ 0) (qu (Iv (andI .i64 a2 a0)) (PO.and Z Z) (qu (Bv (decide ((andI .i64 a2 a0)≠0))) (PO.neq Z Z) (Nt (Ch h Z (fun hb21 h=> ?_) (fun hb21 h=> ?_)))))))
 refine Cg (qu v3 (Lb 1 pl23 (hρ 3) Z Z) (qM (Iv a1) (hρ 1) ?_))
 obtain ⟨r22,hr23,h⟩:=bnd h
 refine Wb (We (Cb co24 (f_wire_Int_ok a3 a1 _ _ _ h3 r22 hr23) (args2 Z Z)) Z ?_)
 rintro _ M24 _ hle25 ⟨_,⟨vq26,cq26,rfl,rfl,hq26⟩,rfl⟩
 refine WL.a1 (Wb (We (Es vq26 [vq26] hq26.cells sz23 (hρ 3) Z (Ow hq26) Z Z Z) Z ?_))
 rintro _ _ _ - ⟨rfl,rfl⟩
 exact Wz (Qa (Qa (Qb (WQ.endsF h [[(g2, .cells #[(Iv a2)] 3 (0,0))],[(g3, .cells #[vq26] 23 (0,0))],cq26] Z (results0 Z) hle25 ⟨vq26,cq26,Z,Z,hq26⟩))))
 exact Ck (WQ.endsF h [[(g2, .cells #[(Iv a2)] 3 (0,0))],[(g3, .cells #[v3] 23 (0,0))],c3] Z (results0 Z) lr ⟨v3,c3,Z,Z,h3⟩)

end Go.Proofs.YtkflneabcannnaaGreatDoor.G
