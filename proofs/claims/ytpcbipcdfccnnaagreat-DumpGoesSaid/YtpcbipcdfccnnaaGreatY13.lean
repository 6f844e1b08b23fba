/- Go functions: what they come to, and that they do. Printed by a program of the session (gen). -/
import Derived.Test.YtpcbipcdfccnnaaGreatYF
import Derived.Test.YtpcbipcdfccnnaaGreatY0
import Derived.Test.YtpcbipcdfccnnaaGreatY3
import Derived.Test.YtpcbipcdfccnnaaGreatY6
import Derived.Test.YtpcbipcdfccnnaaGreatY7
import Derived.Test.YtpcbipcdfccnnaaGreatY9
import Derived.Test.YtpcbipcdfccnnaaGreatY10
import Derived.Test.YtpcbipcdfccnnaaGreatY11
import Derived.Test.YtpcbipcdfccnnaaGreatY12
import Derived.Test.YtpcbipcdfccnnaaGreatKShar2
import Derived.Test.YtpcbipcdfccnnaaGreatKConv
import Derived.Test.YtpcbipcdfccnnaaGreatKMap
import Derived.Test.YtpcbipcdfccnnaaGreatKTight2
set_option linter.unusedVariables false
set_option linter.unusedSimpArgs false
set_option maxHeartbeats 8000000
set_option maxRecDepth 100000
namespace Go.Proofs.YtpcbipcdfccnnaaGreat.G
open Go Go.KK

noncomputable def f_wire_Reader_End (a0:T_wire_Reader):Option (GErr×GErr):=
 (((if(decide (a0.at_<(a0.b.length:Int)))=true then((f_wire_Reader_fail a0 (⟨#[101,110,100]⟩:ByteArray) a0.at_ (5:Int)).bind fun r24=>(some r24))else(some a0.err)):Option GErr).bind fun x21=>(some (x21,x21)))
def f_wire_Reader_End_post (a0:T_wire_Reader) (v0_0:Value) (g0:Nat):(GErr×GErr)→Value→IM→HL→Prop:=
 fun(p_:(GErr×GErr)) (v:Value) (M':IM) (H':HL)=>match p_ with |(r0,r1)=>(GV r0)=v∧H'=[[(g0, .cells #[v0_0,(.int .i64 a0.at_),(GV r1)] 99 (0,0))]]
theorem f_wire_Reader_End_ok (a0:T_wire_Reader) (M:IM) (v0_0:Value) (g0:Nat) (h0_0:RS (Kd.int .u8) M v0_0 a0.b) (res:(GErr×GErr)) (h:f_wire_Reader_End a0=some res):
 Tri Tryz.prog 37 #[(pt g0 0)] M [[(g0, .cells #[v0_0,(Iv a0.at_),(GV a0.err)] 99 (0,0))]] (f_wire_Reader_End_post a0 v0_0 g0 res):=by
 unfold f_wire_Reader_End at h
 refine Te Tryz.func37 Z Z ?_
 intro F ρ hρ
 refine Sr (qa (GV GErr.nil) (Nt ?_))
 obtain ⟨x21,hj22,h⟩:=bnd h
 refine Jf (fun(x21:GErr) ρ' M' H'=>M.le M'∧[(g0, .cells #[v0_0,(Iv a0.at_),(GV x21)] 99 (0,0))]::F=H'∧ρ' 0=(pt g0 0)) x21 ?_ ?_
 have h:=hj22
 refine Cs (WC.draw [0,1,3,7,0,16,48,112,240,511] (.pure 0 (.pure 1 (.pure 2 (.pure 3 (.pure 4 (.pure 5 (.pure 6 (.pure 7 (.pure 8 (.pure 9 .done)))))))))) mixed (by kernel_rfl) (qt (pt g0 0) Z (Mv (hρ 0)) (qt (pt g0 0) Z (Nk Z) (qt (pt g0 1) Z (Fa fo99_1 Z Z) (qt (Iv a0.at_) Z (Lb 0 pl3 Z Z Z) (qt (pt g0 0) Z (Mv (hρ 0)) (qt (pt g0 0) Z (Nk Z) (qt (pt g0 0) Z (Fa fo99_0 Z Z) (qt v0_0 Z (Lb 0 pl31 Z Z Z) (qt (Iv (a0.b.length:Int)) Z (PO.lenS Tryz.underlying31 Z h0_0.len) (qt (Bv (decide (a0.at_<(a0.b.length:Int)))) Z (PO.lss Z Z) ?_)))))))))))
 refine Ti (Tc (Ch h Z (fun hb23 h=> ?_) (fun hb23 h=> ?_)))
 refine Cg (qM (pt g0 0) (hρ 0) (qM (pt g0 0) (hρ 0) (qu (pt g0 0) (Nk Z) (qu (pt g0 1) (Fa fo99_1 Z Z) (qu (Iv a0.at_) (Lb 0 pl3 Z Z Z) ?_)))))
 obtain ⟨r24,hr25,h⟩:=bnd h
 refine We (Cb co55 (f_wire_Reader_fail_ok a0 (⟨#[101,110,100]⟩:ByteArray) a0.at_ (5:Int) _ _ _ h0_0 r24 hr25) (args4 Z Z Z Z)) Z ?_
 rintro _ M26 _ hle27 ⟨_,⟨rfl,rfl⟩,rfl⟩
 refine WL.a1 (Wz ?_)
 obtain rfl:=oi h
 exact Tj ⟨hle27,Z,(hρ 0)⟩
 refine Ck ?_
 obtain rfl:=oi h
 exact Tj ⟨lr,Z,(hρ 0)⟩
 rintro ρ22 M22 H22 ⟨hle22,rfl,hs22_0⟩
 exact Sr (qM (pt g0 0) hs22_0 (qu (pt g0 0) (Nk Z) (qu (pt g0 2) (Fa fo99_2 Z Z) (qu (GV x21) (Lb 0 pl33 Z Z Z) (qa (GV x21) (Nt (Cr (Rf h [[(g0, .cells #[v0_0,(Iv a0.at_),(GV x21)] 99 (0,0))]] Z (Rs Z Z) hle22 ⟨Z,Z⟩))))))))
noncomputable def f_dump_Read (a0:(List Int)):Option (T_api_Image×GErr):=
 ((f_wire_Read a0).bind fun r22=>((f_dump_Read_1 r22).bind fun(r32,r33,r34)=>((f_dump_many_api_Broker_Read_4_Read_1_Read_2 (⟨r22.b,r33,r34⟩:T_wire_Reader) (64:Int)).bind fun(r40,r41,r42)=>((f_dump_many_api_Topic_Read_6_Read_1_Read_2_Read_5_Read_3 (⟨r22.b,r41,r42⟩:T_wire_Reader) (256:Int)).bind fun(r48,r49,r50)=>((f_dump_many_api_Config_Read_7_Read_1_Read_2 (⟨r22.b,r49,r50⟩:T_wire_Reader) (1073741824:Int)).bind fun(r55,r56,r57)=>((f_dump_many_api_Done_Read_8_Read_1 (⟨r22.b,r56,r57⟩:T_wire_Reader) (64:Int)).bind fun(r62,r63,r64)=>((f_wire_Reader_End (⟨r22.b,r63,r64⟩:T_wire_Reader)).bind fun(r69,r70)=>(if(!r69.isNil)=true then(some ((⟨[],[],[],[],(0:Int)⟩:T_api_Image),r69))else((f_dump_Check (⟨r40,r48,r55,r62,r32⟩:T_api_Image)).bind fun r80=>(if(!r80.isNil)=true then((f_fault_Wrap (⟨#[105,109,97,103,101]⟩:ByteArray) (a0.length:Int) r80).bind fun r98=>(some ((⟨[],[],[],[],(0:Int)⟩:T_api_Image),r98)))else(some ((⟨r40,r48,r55,r62,r32⟩:T_api_Image),GErr.nil))))))))))))
def f_dump_Read_post (a0:(List Int)) (v0:Value):(T_api_Image×GErr)→Value→IM→HL→Prop:=
 fun(p_:(T_api_Image×GErr)) (v:Value) (M':IM) (H':HL)=>match p_ with |(r0,r1)=>∃ vz0_0 cz0_0 vz0_1 cz0_1 vz0_2 cz0_2 vz0_3 cz0_3,(.tuple #[(.agg #[vz0_0,vz0_1,vz0_2,vz0_3,(.int .i64 r0.Last)]),(GV r1)])=v∧H'=[cz0_0,cz0_1,cz0_2,cz0_3]∧OwnS kd_api_Broker M' vz0_0 r0.Brokers cz0_0∧OwnS kd_api_Topic M' vz0_1 r0.Topics cz0_1∧OwnS kd_api_Config M' vz0_2 r0.Configs cz0_2∧OwnS kd_api_Done M' vz0_3 r0.Done cz0_3
theorem f_dump_Read_ok (a0:(List Int)) (M:IM) (v0:Value) (h0:RS (Kd.int .u8) M v0 a0) (res:(T_api_Image×GErr)) (h:f_dump_Read a0=some res):
 Tri Tryz.prog 9 #[v0] M [] (f_dump_Read_post a0 v0 res):=by
 unfold f_dump_Read at h
 refine Te Tryz.func9 Z Z ?_
 intro F ρ hρ
 refine Sr (We (Al ze29 Z) Z ?_)
 rintro _ _ _ - ⟨rfl,g21,rfl,rfl⟩
 refine qa (GV GErr.nil) (Ns (qM v0 (hρ 0) ?_))
 obtain ⟨r22,hr23,h⟩:=bnd h
 refine We (Ca co19 (f_wire_Read_ok a0 _ _ h0 r22 hr23) (args1 Z)) Z ?_
 rintro _ M24 _ hle25 ⟨_,⟨g26,vq27_0,rfl,rfl,hq27_0⟩,rfl⟩
 refine WL.a1 (We (Al ze67 Z) Z ?_)
 rintro _ _ _ - ⟨rfl,g28,rfl,rfl⟩
 refine We (Es (pt g26 0) [(pt g26 0)] Z sz67 Z Z Z Z Z Z) Z ?_
 rintro _ _ _ - ⟨rfl,rfl⟩
 refine Ns (qu (.func (.func 20) #[] #[(pt g28 0)]) (PO.makeFunc2 (args0) (args1 (show ev _ _=(pt g28 0) from Z))) (We (Al ze70 Z) Z ?_))
 rintro _ _ _ - ⟨rfl,g29,rfl,rfl⟩
 refine We (Es (.func (.func 20) #[] #[(pt g28 0)]) [(.func (.func 20) #[] #[(pt g28 0)])] Z sz70 Z Z Z Z Z Z) Z ?_
 rintro _ _ _ - ⟨rfl,rfl⟩
 refine Ns (qu (.func (.func 22) #[] #[(pt g28 0)]) (PO.makeFunc2 (args0) (args1 (show ev _ _=(pt g28 0) from Z))) (We (Al ze72 Z) Z ?_))
 rintro _ _ _ - ⟨rfl,g30,rfl,rfl⟩
 refine We (Es (.func (.func 22) #[] #[(pt g28 0)]) [(.func (.func 22) #[] #[(pt g28 0)])] Z sz72 Z Z Z Z Z Z) Z ?_
 rintro _ _ _ - ⟨rfl,rfl⟩
 refine Ns (qu (.func (.func 24) #[] #[(pt g28 0)]) (PO.makeFunc2 (args0) (args1 (show ev _ _=(pt g28 0) from Z))) (We (Al ze74 Z) Z ?_))
 rintro _ _ _ - ⟨rfl,g31,rfl,rfl⟩
 refine We (Es (.func (.func 24) #[] #[(pt g28 0)]) [(.func (.func 24) #[] #[(pt g28 0)])] Z sz74 Z Z Z Z Z Z) Z ?_
 rintro _ _ _ - ⟨rfl,rfl⟩
 refine Ns (qu (.func (.func 20) #[] #[(pt g28 0)]) (Lb 2 pl70 Z Z Z) ?_)
 obtain ⟨⟨r32,r33,r34⟩,hr35,h⟩:=bnd h
 refine WL.f3 (WL.f4 (We (EO.callV2 (first:=#[]) (cap:=#[(pt g28 0)]) co20 Z (f_dump_Read_1_ok r22 _ _ _ _ hq27_0 (r32,r33,r34) hr35) (argsV0 Z)) Z ?_))
 rintro _ M36 _ hle37 ⟨_,⟨rfl,rfl⟩,rfl⟩
 refine WL.a2 (qu (.agg #[Zs,Zs,Zs,Zs,(Iv r32)]) (Bl (cl:=[Zs,Zs,Zs,Zs,(Iv r32)]) ze29 fp29 (Pc (Iv r32) Z Z Pz) Z) (We (Al ze29 Z) Z ?_))
 rintro _ _ _ - ⟨rfl,g39,rfl,rfl⟩
 refine We (Sg (v:=(.agg #[Zs,Zs,Zs,Zs,(Iv r32)])) (vl:=[Zs,Zs,Zs,Zs,(Iv r32)]) (arr':=[Zs,Zs,Zs,Zs,(Iv r32)]) Z sz29 Z Z (onb Z) Z Z Z) Z ?_
 rintro _ _ _ - ⟨rfl,rfl⟩
 refine Ns (qu (pt g26 0) (Lb 2 pl67 Z Z Z) (qu (.func (.func 27) #[] #[(pt g29 0),(pt g30 0),(pt g28 0)]) (PO.makeFunc2 (args0) (args3 (show ev _ _=(pt g29 0) from Z) (show ev _ _=(pt g30 0) from Z) (show ev _ _=(pt g28 0) from Z))) ?_))
 obtain ⟨⟨r40,r41,r42⟩,hr43,h⟩:=bnd h
 refine WL.f4 (WL.f5 (WL.f4 (WL.f4 ?_)))
 have hq27_0:=hq27_0.mono hle37
 refine We (EO.call4 co26 (f_dump_many_api_Broker_Read_4_Read_1_Read_2_ok (⟨r22.b,r33,r34⟩:T_wire_Reader) (64:Int) _ _ _ _ _ _ hq27_0 (r40,r41,r42) hr43) (args3 Z Z Z)) Z ?_
 rintro _ M44 _ hle45 ⟨_,⟨vq46,cq46,rfl,rfl,hq46⟩,rfl⟩
 have L45:=(hle25.trans hle37).trans hle45
 refine WL.a5 (qu (pt g39 0) (Fa fo29_0 Z Z) (WL.f5 (We (Es vq46 [vq46,Zs,Zs,Zs,(Iv r32)] hq46.cells sz24 Z Z (Ow hq46) Z Z Z) Z ?_)))
 rintro _ _ _ - ⟨rfl,rfl⟩
 refine Ns (qu (.func (.func 29) #[] #[(pt g31 0),(pt g29 0)]) (PO.makeFunc2 (args0) (args2 (show ev _ _=(pt g31 0) from Z) (show ev _ _=(pt g29 0) from Z))) (We (Al ze77 Z) Z ?_))
 rintro _ _ _ - ⟨rfl,g47,rfl,rfl⟩
 refine We (Es (.func (.func 29) #[] #[(pt g31 0),(pt g29 0)]) [(.func (.func 29) #[] #[(pt g31 0),(pt g29 0)])] Z sz77 Z Z Z Z Z Z) Z ?_
 rintro _ _ _ - ⟨rfl,rfl⟩
 refine Ns (qu (pt g26 0) (Lb 3 pl67 Z Z Z) (qu (.func (.func 31) #[] #[(pt g29 0),(pt g30 0),(pt g28 0),(pt g47 0)]) (PO.makeFunc2 (args0) (args4 (show ev _ _=(pt g29 0) from Z) (show ev _ _=(pt g30 0) from Z) (show ev _ _=(pt g28 0) from Z) (show ev _ _=(pt g47 0) from Z))) ?_))
 obtain ⟨⟨r48,r49,r50⟩,hr51,h⟩:=bnd h
 refine WL.f7 (WL.f6 (WL.f6 (WL.f6 (WL.f6 ?_))))
 have hq27_0:=hq27_0.mono hle45
 refine We (EO.call6 co30 (f_dump_many_api_Topic_Read_6_Read_1_Read_2_Read_5_Read_3_ok (⟨r22.b,r41,r42⟩:T_wire_Reader) (256:Int) _ _ _ _ _ _ _ _ hq27_0 (r48,r49,r50) hr51) (args3 Z Z Z)) Z ?_
 rintro _ M52 _ hle53 ⟨_,⟨vq54,cq54,rfl,rfl,hq54⟩,rfl⟩
 have L53:=L45.trans hle53
 refine WL.a7 (qu (pt g39 1) (Fa fo29_1 Z Z) (WL.f7 (We (Es vq54 [vq46,vq54,Zs,Zs,(Iv r32)] hq54.cells sz25 Z Z (Ow hq54) Z Z Z) Z ?_)))
 rintro _ _ _ - ⟨rfl,rfl⟩
 refine Ns (qu (pt g26 0) (Lb 2 pl67 Z Z Z) (qu (.func (.func 34) #[] #[(pt g29 0),(pt g30 0),(pt g28 0)]) (PO.makeFunc2 (args0) (args3 (show ev _ _=(pt g29 0) from Z) (show ev _ _=(pt g30 0) from Z) (show ev _ _=(pt g28 0) from Z))) ?_))
 obtain ⟨⟨r55,r56,r57⟩,hr58,h⟩:=bnd h
 refine WL.f4 (WL.f4 (WL.f4 (WL.f4 ?_)))
 have hq27_0:=hq27_0.mono hle53
 refine We (EO.call4 co33 (f_dump_many_api_Config_Read_7_Read_1_Read_2_ok (⟨r22.b,r49,r50⟩:T_wire_Reader) (1073741824:Int) _ _ _ _ _ _ hq27_0 (r55,r56,r57) hr58) (args3 Z Z Z)) Z ?_
 rintro _ M59 _ hle60 ⟨_,⟨vq61,cq61,rfl,rfl,hq61⟩,rfl⟩
 have L60:=L53.trans hle60
 refine WL.a5 (qu (pt g39 2) (Fa fo29_2 Z Z) (WL.f5 (We (Es vq61 [vq46,vq54,vq61,Zs,(Iv r32)] hq61.cells sz26 Z Z (Ow hq61) Z Z Z) Z ?_)))
 rintro _ _ _ - ⟨rfl,rfl⟩
 refine Ns (qu (pt g26 0) (Lb 2 pl67 Z Z Z) (qu (.func (.func 36) #[] #[(pt g29 0)]) (PO.makeFunc2 (args0) (args1 (show ev _ _=(pt g29 0) from Z))) ?_))
 obtain ⟨⟨r62,r63,r64⟩,hr65,h⟩:=bnd h
 refine WL.f3 (WL.f3 (WL.f3 ?_))
 have hq27_0:=hq27_0.mono hle60
 refine We (EO.call3 co35 (f_dump_many_api_Done_Read_8_Read_1_ok (⟨r22.b,r56,r57⟩:T_wire_Reader) (64:Int) _ _ _ _ _ hq27_0 (r62,r63,r64) hr65) (args3 Z Z Z)) Z ?_
 rintro _ M66 _ hle67 ⟨_,⟨vq68,cq68,rfl,rfl,hq68⟩,rfl⟩
 have L67:=L60.trans hle67
 refine WL.a4 (qu (pt g39 3) (Fa fo29_3 Z Z) (WL.f4 (We (Es vq68 [vq46,vq54,vq61,vq68,(Iv r32)] hq68.cells sz27 Z Z (Ow hq68) Z Z Z) Z ?_)))
 rintro _ _ _ - ⟨rfl,rfl⟩
 refine Nt (Cs (Sr (qu (pt g26 0) (Lb 2 pl67 Z Z Z) ?_)))
 obtain ⟨⟨r69,r70⟩,hr71,h⟩:=bnd h
 refine WL.f1 ?_
 have hq27_0:=hq27_0.mono hle67
 refine We (Cb co37 (f_wire_Reader_End_ok (⟨r22.b,r63,r64⟩:T_wire_Reader) _ _ _ hq27_0 (r69,r70) hr71) (args1 Z)) Z ?_
 rintro _ M72 _ hle73 ⟨_,⟨rfl,rfl⟩,rfl⟩
 have L73:=L67.trans hle73
 refine WL.a1 (qa (GV r69) (Ns (qm (GV r69) (qu (Bv (!r69.isNil)) (PO.errNotNil Tryz.underlying33 Z) (Nt (Ch h Z (fun hb75 h=> ?_) (fun hb75 h=> ?_)))))))
 refine Sr (qu (.agg z29_.toArray) (Bl (cl:=z29_) ze29 fp29 Pz Z) (qm (GV r69) (WL.f11 (We (Sg (v:=(.agg z29_.toArray)) (vl:=z29_) (arr':=z29_) Z sz29 Z Z (onb Z) Z Z Z) Z ?_))))
 rintro _ _ _ - ⟨rfl,rfl⟩
 refine qa (GV r69) (Nt (Cr (Tr (WQ.e0 (WQ.e0 (WQ.e0 (WQ.e0 (WQ.f5 (Dr (WQ.f5 (Dr ?_)))))))))))
 refine WQ.f5 (Dr (WQ.f5 (Dr (WQ.f5 (Dr (WQ.f5 (Dr (WQ.f5 (Dr (WQ.f5 (Dr ?_)))))))))))
 exact WQ.f5 (Dr (WQ.f5 (Dr (WQ.f5 (Dr (Qa (Qb (WQ.f3 (WQ.f4 (Rd h [[],[],[],[]] (fun _ hs=>hs.drop) (resultsLN Z (RVs.cons (Rc (cs:=z29_) 0 ag29 sz29 Z Z Z) (RVs.cons (RV.tmp Z) RVs.nil))) L73 ⟨Zs,[],Zs,[],Zs,[],Zs,[],Z,Z,(OwnS.nil _ _),(OwnS.nil _ _),(OwnS.nil _ _),(OwnS.nil _ _)⟩))))))))))
 refine Ck (Tc (Cs (Sr (qu (.agg #[vq46,vq54,vq61,vq68,(Iv r32)]) (La (cs:=[vq46,vq54,vq61,vq68,(Iv r32)]) 1 ag29 sz29 Z Z Z) ?_))))
 obtain ⟨r80,hr81,h⟩:=bnd h
 refine WL.f4 (WL.f6 (WL.f9 (WL.f10 ?_)))
 have hq46:=hq46.mono (((hle53.trans hle60).trans hle67).trans hle73)
 have hq54:=hq54.mono ((hle60.trans hle67).trans hle73)
 have hq61:=hq61.mono (hle67.trans hle73)
 have hq68:=hq68.mono hle73
 refine We (EO.call4 co14 (Tri.lend hq46.excl fun w0_ H0_ hs0_=>(Tri.lend hq54.excl fun w1_ H1_ hs1_=>(Tri.lend hq61.excl fun w2_ H2_ hs2_=>(Tri.lend hq68.excl fun w3_ H3_ hs3_=>(f_dump_Check_ok (⟨r40,r48,r55,r62,r32⟩:T_api_Image) _ _ _ _ _ ((((hq46.rs hs0_).mono (IM.le_add _ _)).mono (IM.le_add _ _)).mono (IM.le_add _ _)) ((((hq54.mono (IM.le_add _ _)).rs hs1_).mono (IM.le_add _ _)).mono (IM.le_add _ _)) ((((hq61.mono (IM.le_add _ _)).mono (IM.le_add _ _)).rs hs2_).mono (IM.le_add _ _)) ((((hq68.mono (IM.le_add _ _)).mono (IM.le_add _ _)).mono (IM.le_add _ _)).rs hs3_) r80 hr81))))) (args1 Z)) Z ?_
 rintro _ _ _ hle83 ⟨_,⟨Ml94,Hl95,hll96,rfl,rfl,⟨Ml91,Hl92,hll93,rfl,rfl,⟨Ml88,Hl89,hll90,rfl,rfl,⟨Ml85,Hl86,hll87,rfl,rfl,⟨rfl,rfl⟩⟩⟩⟩⟩,rfl⟩
 have L83:=L73.trans hle83
 refine WL.a4 (qa (GV r80) (Ns (qm (GV r80) (qu (Bv (!r80.isNil)) (PO.errNotNil Tryz.underlying33 Z) (Nt (Ch h Z (fun hb97 h=> ?_) (fun hb97 h=> ?_)))))))
 refine Sr (qu (.agg z29_.toArray) (Bl (cl:=z29_) ze29 fp29 Pz Z) (qM v0 (hρ 0) ?_))
 have h0:=h0.mono L83
 refine qu (Iv (a0.length:Int)) (PO.lenS Tryz.underlying31 Z h0.len) (qm (GV r80) ?_)
 obtain ⟨r98,hr99,h⟩:=bnd h
 refine We (Ca co38 (f_fault_Wrap_ok ⟨#[105,109,97,103,101]⟩ (a0.length:Int) r80 _ r98 hr99) (args3 Z Z Z)) Z ?_
 rintro _ M100 _ hle101 ⟨_,⟨rfl,rfl⟩,rfl⟩
 refine WL.a0 (WL.f11 (We (Sg (v:=(.agg z29_.toArray)) (vl:=z29_) (arr':=z29_) Z sz29 Z Z (onb Z) Z Z Z) Z ?_))
 rintro _ _ _ - ⟨rfl,rfl⟩
 refine qa (GV r98) (Nt (Cr (Tr (WQ.e0 (WQ.e0 (WQ.e0 (WQ.e0 (WQ.f5 (Dr (WQ.f5 (Dr ?_)))))))))))
 refine WQ.f5 (Dr (WQ.f5 (Dr (WQ.f5 (Dr (WQ.f5 (Dr (WQ.f5 (Dr (WQ.f5 (Dr ?_)))))))))))
 exact WQ.f5 (Dr (WQ.f5 (Dr (WQ.f5 (Dr (Qa (Qb (WQ.f3 (WQ.f4 (Rd h [[],[],[],[]] (fun _ hs=>hs.drop) (resultsLN Z (RVs.cons (Rc (cs:=z29_) 0 ag29 sz29 Z Z Z) (RVs.cons (RV.tmp Z) RVs.nil))) (L83.trans hle101) ⟨Zs,[],Zs,[],Zs,[],Zs,[],Z,Z,(OwnS.nil _ _),(OwnS.nil _ _),(OwnS.nil _ _),(OwnS.nil _ _)⟩))))))))))
 refine Ck (Tc (Sr (qu (.agg #[vq46,vq54,vq61,vq68,(Iv r32)]) (La (cs:=[vq46,vq54,vq61,vq68,(Iv r32)]) 5 ag29 sz29 Z Z Z) (WL.f11 ?_))))
 have hq46:=hq46.mono hle83
 have hq54:=hq54.mono hle83
 have hq61:=hq61.mono hle83
 have hq68:=hq68.mono hle83
 refine We (Sg (v:=(.agg #[vq46,vq54,vq61,vq68,(Iv r32)])) (vl:=[vq46,vq54,vq61,vq68,(Iv r32)]) (arr':=[vq46,vq54,vq61,vq68,(Iv r32)]) Z sz29 Z Z (onesOf (Oc (Ow hq46) (Oc (Ow hq54) (Oc (Ow hq61) (Oc (Ow hq68) (Oc Z Oz)))))) Z Z Z) Z ?_
 rintro _ _ _ - ⟨rfl,rfl⟩
 refine qa (GV GErr.nil) (Nt (Cr (WQ.f5 (Dr (WQ.f5 (Dr (WQ.f5 (Dr (WQ.f5 (Dr (WQ.f5 ?_)))))))))))
 exact Dr (WQ.f5 (Dr (WQ.f5 (Dr (Rd h [cq46,cq54,cq61,cq68] (fun _ hs=>hs.drop) (resultsLN Z (RVs.cons (Rc (cs:=[vq46,vq54,vq61,vq68,(Iv r32)]) 0 ag29 sz29 Z Z Z) (RVs.cons (RV.tmp Z) RVs.nil))) L83 ⟨vq46,cq46,vq54,cq54,vq61,cq61,vq68,cq68,Z,Z,hq46,hq54,hq61,hq68⟩)))))
noncomputable def f_api_Fault_Unwrap (a0:T_api_Fault):Option GErr:=
 (some a0.Err)
def f_api_Fault_Unwrap_post (a0:T_api_Fault):GErr→Value→IM→HL→Prop:=
 fun(r0:GErr) (v:Value) (M':IM) (H':HL)=>(GV r0)=v∧H'=[]
theorem f_api_Fault_Unwrap_ok (a0:T_api_Fault) (M:IM) (res:GErr) (h:f_api_Fault_Unwrap a0=some res):
 Tri Tryz.prog 126 #[(a104_ a0)] M [] (f_api_Fault_Unwrap_post a0 res):=by
 unfold f_api_Fault_Unwrap at h
 refine Te Tryz.func126 Z Z ?_
 intro F ρ hρ
 refine Sr (We (EO.box (cs:=(l104 a0).toArray) (congrArg Value.cells (asE (a104_ a0) (hρ 0)))) Z ?_)
 rintro _ _ _ - ⟨rfl,g21,rfl,rfl⟩
 exact qa (GV GErr.nil) (Ns (qu (pt g21 2) (Fa fo104_2 Z Z) (qu (GV a0.Err) (Lb 0 pl33 Z Z Z) (qa (GV a0.Err) (Nt (Cr (Dr (Rf h [] Z (Rs Z Z) lr ⟨Z,Z⟩))))))))
noncomputable def f_errors_is_l0 (a1:Int) (s_:GErr):Option (GErr⊕Bool):=
 match s_ with
 |x22=>
 (match x22 with | .nil=>(some (Sum.inr false)) | .code n24=>(if(decide (n24=a1))=true then(some (Sum.inr true))else(some (Sum.inr false))) | .fault o25 a26 e27=>((f_api_Fault_Unwrap (⟨o25,a26,e27⟩:T_api_Fault)).bind fun r30=>(if r30.isNil=true then(some (Sum.inr false))else(some (Sum.inl r30)))) | .other b28=>(some (Sum.inr false)))
noncomputable def f_errors_is (a0:GErr) (a1:Int):Option Bool:=
 ((iter (f_errors_is_l0 a1) a0).bind (fun(x23:Bool)=>(some x23)))
def f_errors_is_post (a0:GErr) (a1:Int):Bool→Value→IM→HL→Prop:=
 fun(r0:Bool) (v:Value) (M':IM) (H':HL)=>(.bool r0)=v∧H'=[]
theorem f_errors_is_ok (a0:GErr) (a1:Int) (M:IM) (res:Bool) (h:f_errors_is a0 a1=some res):
 Tri Tryz.prog 74 #[(GV a0),(GV (GErr.code a1)),(Bv true)] M [] (f_errors_is_post a0 a1 res):=by
 unfold f_errors_is at h
 refine Te Tryz.func74 Z Z ?_
 intro F ρ hρ
 refine Sr (qa (Bv false) (Nt (Bk ?_)))
 obtain ⟨e21,he21,hK21⟩:=bnd h
 clear h
 refine WC.loop he21 (fun(x22:GErr) ρ' M' H'=>M.le M'∧F=H'∧ρ' 0=(GV x22)∧ρ' 1=(GV (GErr.code a1))∧ρ' 2=(Bv true)) ?_ ?_
 exact⟨lr,Z,(hρ 0),(hρ 1),(hρ 2)⟩
 rintro x22 o21 ρ21 M21 H21 h ⟨hle21,rfl,hs21_0,hs21_1,hs21_2⟩
 unfold f_errors_is_l0 at h
 refine Bk (Cs (Sr (qM (Bv true) hs21_2 (qm (Bv true) (On 15 Z Z Z (qM (GV x22) hs21_0 (On 15 Z Z Z (qM (GV (GErr.code a1)) hs21_1 (On 15 Z Z Z ?_)))))))))
 rcases x22 with _ |n24 |⟨o25,a26,e27⟩ |b28
 refine qu (Bv false) (PO.nilIfaceNe Tryz.underlying33 (show ev _ _= .nilIface from Z) (show ev _ _=(.iface 40 (Iv a1)) from Z)) (qu (Bv false) (Pt Z Z Z) (Nt (WC.condF (b:=false) Z Z (Ck (Tc (Cs (Sr (qM (GV GErr.nil) hs21_0 (qu (.tuple #[.nilIface,(Bv false)]) (PO.asserts (show ev _ _= .nilIface from Z) (run_assert_nil zo137 Tryz.underlying137)) (qm (.tuple #[.nilIface,(Bv false)]) (qu .nilIface (Xt Z Z) ?_)))))))))))
 refine qu (Bv false) (Xt Z Z) (qa .nilIface (qa (Bv false) (Ns (qm (Bv false) (qm (Bv false) ?_)))))
 iterate 3 refine Of 26 Z Z Z Z ?_
 refine qu (Bv false) (Pf Z Z Z) (Nt (WC.condF (b:=false) Z Z (Ck (Tc (Sr (qM (GV GErr.nil) hs21_0 (Nt (Bk (Sr (qu (.tuple #[.nilIface,(Bv false)]) (PO.asserts (show ev _ _= .nilIface from Z) (run_assert_nil zo140 Tryz.underlying140)) (qu (Bv false) (Xt Z Z) ?_)))))))))))
 refine qu .nilIface (Xt Z Z) (Nt (WC.condF (b:=false) Z Z (Sr (qu (.tuple #[.nilIface,(Bv false)]) (PO.asserts (show ev _ _= .nilIface from Z) (run_assert_nil zo141 Tryz.underlying141)) (qu (Bv false) (Xt Z Z) (qu .nilIface (Xt Z Z) (Nt (WC.condF (b:=false) Z Z (Sr (qa (GV GErr.nil) (Ns ?_)))))))))))
 refine qa (Bv false) (Nt (Cr (Br (Br (WQ.leaveR false (oi h).symm (fun heq21=> ?_))))))
 subst heq21
 have h:=hK21
 exact Br (Rf h [] Z (Rs Z Z) hle21 ⟨Z,Z⟩)
 refine qu (Bv (decide (n24=a1))) (PO.ifaceInt Tryz.underlying33 Tryz.underlying40 cm40 (show ev _ _=(.iface 40 (Iv n24)) from Z) (show ev _ _=(.iface 40 (Iv a1)) from Z)) (qu (Bv (decide (n24=a1))) (Pt Z Z Z) (Nt (Ch h Z (fun hb29 h=> ?_) (fun hb29 h=> ?_))))
 refine Sr (qa (Bv true) (Nt (Cr (Tr (Br (WQ.leaveR true (oi h).symm (fun heq21=> ?_)))))))
 subst heq21
 have h:=hK21
 exact Br (Rf h [] Z (Rs Z Z) hle21 ⟨Z,Z⟩)
 refine Ck (Tc (Cs (Sr (qM (GV (GErr.code n24)) hs21_0 (qu (.tuple #[.nilIface,(Bv false)]) (PO.asserts (show ev _ _=(.iface 40 (Iv n24)) from Z) (la40_137 _ _)) (qm (.tuple #[.nilIface,(Bv false)]) (qu .nilIface (Xt Z Z) (qu (Bv false) (Xt Z Z) (qa .nilIface (qa (Bv false) (Ns ?_)))))))))))
 refine qm (Bv false) (qm (Bv false) ?_)
 iterate 3 refine Of 26 Z Z Z Z ?_
 refine qu (Bv false) (Pf Z Z Z) (Nt (WC.condF (b:=false) Z Z (Ck (Tc (Sr (qM (GV (GErr.code n24)) hs21_0 (Nt (Bk (Sr (qu (.tuple #[.nilIface,(Bv false)]) (PO.asserts (show ev _ _=(.iface 40 (Iv n24)) from Z) (la40_140 _ _)) (qu (Bv false) (Xt Z Z) ?_)))))))))))
 refine qu .nilIface (Xt Z Z) (Nt (WC.condF (b:=false) Z Z (Sr (qu (.tuple #[.nilIface,(Bv false)]) (PO.asserts (show ev _ _=(.iface 40 (Iv n24)) from Z) (la40_141 _ _)) (qu (Bv false) (Xt Z Z) (qu .nilIface (Xt Z Z) (Nt (WC.condF (b:=false) Z Z (Sr (qa (GV (GErr.code n24)) (Ns ?_)))))))))))
 refine qa (Bv false) (Nt (Cr (Br (Br (WQ.leaveR false (oi h).symm (fun heq21=> ?_))))))
 subst heq21
 have h:=hK21
 exact Br (Rf h [] Z (Rs Z Z) hle21 ⟨Z,Z⟩)
 refine qu (Bv false) (PO.ifaceNe Tryz.underlying33 (show ev _ _=(.iface 104 (.agg #[.string o25, .int .i64 a26,GV e27])) from Z) (show ev _ _=(.iface 40 (Iv a1)) from Z) Z) (qu (Bv false) (Pt Z Z Z) (Nt (WC.condF (b:=false) Z Z (Ck (Tc (Cs (Sr (qM (GV (GErr.fault o25 a26 e27)) hs21_0 (qu (.tuple #[.nilIface,(Bv false)]) (PO.asserts (show ev _ _=(.iface 104 (.agg #[.string o25, .int .i64 a26,GV e27])) from Z) (la104_137 _ _)) (qm (.tuple #[.nilIface,(Bv false)]) (qu .nilIface (Xt Z Z) ?_)))))))))))
 refine qu (Bv false) (Xt Z Z) (qa .nilIface (qa (Bv false) (Ns (qm (Bv false) (qm (Bv false) ?_)))))
 iterate 3 refine Of 26 Z Z Z Z ?_
 refine qu (Bv false) (Pf Z Z Z) (Nt (WC.condF (b:=false) Z Z (Ck (Tc (Sr (qM (GV (GErr.fault o25 a26 e27)) hs21_0 (Nt (Bk (Sr (qu (.tuple #[(GV (GErr.fault o25 a26 e27)),(Bv true)]) (PO.asserts (show ev _ _=(.iface 104 (.agg #[.string o25, .int .i64 a26,GV e27])) from Z) (ha104_140 _ _)) (qu (Bv true) (Xt Z Z) ?_)))))))))))
 refine qu (GV (GErr.fault o25 a26 e27)) (Xt Z Z) (Nt (WC.condT (b:=true) Z Z (Sr (qa (GV (GErr.fault o25 a26 e27)) (Ns (qm (GV (GErr.fault o25 a26 e27)) ?_))))))
 obtain ⟨r30,hr31,h⟩:=bnd h
 refine We (EO.invT (show ev _ _=(.iface 104 (.agg #[.string o25, .int .i64 a26,GV e27])) from Z) (me104_Unwrap _) co126 inv0 (f_api_Fault_Unwrap_ok (⟨o25,a26,e27⟩:T_api_Fault) _ r30 hr31)) Z ?_
 rintro _ M32 _ hle33 ⟨_,⟨rfl,rfl⟩,rfl⟩
 refine WL.a0 (qa (GV r30) (Ns (qm (GV r30) (qu (Bv r30.isNil) (PO.errNil Tryz.underlying33 Z) (Nt (Ch h Z (fun hb35 h=> ?_) (fun hb35 h=> ?_)))))))
 refine Sr (qa (Bv false) (Nt (Cr (Br (Br (WQ.leaveR false (oi h).symm (fun heq21=> ?_)))))))
 subst heq21
 have h:=hK21
 exact Br (Rf h [] Z (Rs Z Z) (hle21.trans hle33) ⟨Z,Z⟩)
 exact Ck (Bn (Bn (WQ.again r30 (oi h).symm ⟨(hle21.trans hle33),Z,Z,hs21_1,hs21_2⟩)))
 refine qu (Bv false) (PO.ifaceNe Tryz.underlying33 (show ev _ _=(.iface 0 (.pointer (some b28))) from Z) (show ev _ _=(.iface 40 (Iv a1)) from Z) Z) (qu (Bv false) (Pt Z Z Z) (Nt (WC.condF (b:=false) Z Z (Ck (Tc (Cs (Sr (qM (GV (GErr.other b28)) hs21_0 (qu (.tuple #[.nilIface,(Bv false)]) (PO.asserts (show ev _ _=(.iface 0 (.pointer (some b28))) from Z) (la0_137 _ _)) (qm (.tuple #[.nilIface,(Bv false)]) (qu .nilIface (Xt Z Z) ?_)))))))))))
 refine qu (Bv false) (Xt Z Z) (qa .nilIface (qa (Bv false) (Ns (qm (Bv false) (qm (Bv false) ?_)))))
 iterate 3 refine Of 26 Z Z Z Z ?_
 refine qu (Bv false) (Pf Z Z Z) (Nt (WC.condF (b:=false) Z Z (Ck (Tc (Sr (qM (GV (GErr.other b28)) hs21_0 (Nt (Bk (Sr (qu (.tuple #[.nilIface,(Bv false)]) (PO.asserts (show ev _ _=(.iface 0 (.pointer (some b28))) from Z) (la0_140 _ _)) (qu (Bv false) (Xt Z Z) ?_)))))))))))
 refine qu .nilIface (Xt Z Z) (Nt (WC.condF (b:=false) Z Z (Sr (qu (.tuple #[.nilIface,(Bv false)]) (PO.asserts (show ev _ _=(.iface 0 (.pointer (some b28))) from Z) (la0_141 _ _)) (qu (Bv false) (Xt Z Z) (qu .nilIface (Xt Z Z) (Nt (WC.condF (b:=false) Z Z (Sr (qa (GV (GErr.other b28)) (Ns ?_)))))))))))
 refine qa (Bv false) (Nt (Cr (Br (Br (WQ.leaveR false (oi h).symm (fun heq21=> ?_))))))
 subst heq21
 have h:=hK21
 exact Br (Rf h [] Z (Rs Z Z) hle21 ⟨Z,Z⟩)
noncomputable def f_errors_Is (a0:GErr) (a1:Int):Option Bool:=
 (if a0.isNil=true then(match a0 with | .nil=>(some false) | .code n22=>(some (decide (n22=a1))) | .fault o23 a24 e25=>(some false) | .other b26=>(some false))else((f_errors_is a0 a1).bind fun r27=>(some r27)))
def f_errors_Is_post (a0:GErr) (a1:Int):Bool→Value→IM→HL→Prop:=
 fun(r0:Bool) (v:Value) (M':IM) (H':HL)=>(.bool r0)=v∧H'=[]
theorem f_errors_Is_ok (a0:GErr) (a1:Int) (M:IM) (res:Bool) (h:f_errors_Is a0 a1=some res):
 Tri Tryz.prog 48 #[(GV a0),(GV (GErr.code a1))] M [] (f_errors_Is_post a0 a1 res):=by
 unfold f_errors_Is at h
 refine Te Tryz.func48 Z Z ?_
 intro F ρ hρ
 refine Sr (qa (Bv false) (Nt (Cs (Sr (qM (GV a0) (hρ 0) (qu (Bv a0.isNil) (PO.errNil Tryz.underlying33 Z) (qm (Bv a0.isNil) ?_)))))))
 rcases Bi h with⟨hb21,h⟩ |⟨hb21,h⟩
 iterate 2 refine Of 8 Z Z hb21 Z ?_
 refine qu (Bv true) (Pt Z hb21 Z) (Nt (WC.condT (b:=true) Z Z (Sr (qM (GV a0) (hρ 0) (qM (GV (GErr.code a1)) (hρ 1) ?_)))))
 rcases a0 with _ |n22 |⟨o23,a24,e25⟩ |b26
 exact qu (Bv false) (PO.nilIfaceNe Tryz.underlying33 (show ev _ _= .nilIface from Z) (show ev _ _=(.iface 40 (Iv a1)) from Z)) (qa (Bv false) (Nt (Cr (Tr (Rf h [] Z (Rs Z Z) lr ⟨Z,Z⟩)))))
 exact qu (Bv (decide (n22=a1))) (PO.ifaceInt Tryz.underlying33 Tryz.underlying40 cm40 (show ev _ _=(.iface 40 (Iv n22)) from Z) (show ev _ _=(.iface 40 (Iv a1)) from Z)) (qa (Bv (decide (n22=a1))) (Nt (Cr (Tr (Rf h [] Z (Rs Z Z) lr ⟨Z,Z⟩)))))
 exact qu (Bv false) (PO.ifaceNe Tryz.underlying33 (show ev _ _=(.iface 104 (.agg #[.string o23, .int .i64 a24,GV e25])) from Z) (show ev _ _=(.iface 40 (Iv a1)) from Z) Z) (qa (Bv false) (Nt (Cr (Tr (Rf h [] Z (Rs Z Z) lr ⟨Z,Z⟩)))))
 exact qu (Bv false) (PO.ifaceNe Tryz.underlying33 (show ev _ _=(.iface 0 (.pointer (some b26))) from Z) (show ev _ _=(.iface 40 (Iv a1)) from Z) Z) (qa (Bv false) (Nt (Cr (Tr (Rf h [] Z (Rs Z Z) lr ⟨Z,Z⟩)))))
 refine On 8 Z Z hb21 (qM (GV (GErr.code a1)) (hρ 1) (qo 8 hb21 (Bv false) (PO.errNil (tc:=40) (tf:=104) (tp:=0) (e:=GErr.code a1) Tryz.underlying33 Z) (qu (Bv false) (Pf Z hb21 Z) (Nt (WC.condF (b:=false) Z Z (Ck (Tc (Sr (qM (GV (GErr.code a1)) (hρ 1) (We (EO.extP xt73 (args1 (show ev _ _=(.iface 40 (Iv a1)) from Z)) (ty40 _)) Z ?_))))))))))
 rintro _ _ _ - ⟨rfl,rfl,rfl⟩
 refine We (EO.invE (show ev _ _=(.iface 135 (.agg #[.pointer (some ⟨0,40,none⟩)])) from Z) (mm_Comparable (pt 0 40)) xt130 inv0 mr_Comparable_40) Z ?_
 rintro _ _ _ - ⟨rfl,rfl,rfl⟩
 refine qa (Bv true) (Ns (qM (GV a0) (hρ 0) (qM (GV (GErr.code a1)) (hρ 1) (qm (Bv true) ?_))))
 obtain ⟨r27,hr28,h⟩:=bnd h
 refine We (Ca co74 (f_errors_is_ok a0 a1 _ r27 hr28) (args3 Z Z Z)) Z ?_
 rintro _ M29 _ hle30 ⟨_,⟨rfl,rfl⟩,rfl⟩
 exact WL.a0 (qa (Bv r27) (Nt (Cr (Rf h [] Z (Rs Z Z) hle30 ⟨Z,Z⟩))))
noncomputable def f_fault_Is (a0:GErr) (a1:Int):Option Bool:=
 ((f_errors_Is a0 a1).bind fun r21=>(some r21))
def f_fault_Is_post (a0:GErr) (a1:Int):Bool→Value→IM→HL→Prop:=
 fun(r0:Bool) (v:Value) (M':IM) (H':HL)=>(.bool r0)=v∧H'=[]
theorem f_fault_Is_ok (a0:GErr) (a1:Int) (M:IM) (res:Bool) (h:f_fault_Is a0 a1=some res):
 Tri Tryz.prog 13 #[(GV a0),(Iv a1)] M [] (f_fault_Is_post a0 a1 res):=by
 unfold f_fault_Is at h
 refine Te Tryz.func13 Z Z ?_
 intro F ρ hρ
 refine Sr (qa (Bv false) (Ns (qM (GV a0) (hρ 0) (qM (Iv a1) (hρ 1) (qu (GV (GErr.code a1)) (PO.makeInterface cc40 Z) ?_)))))
 obtain ⟨r21,hr22,h⟩:=bnd h
 refine We (Ca co48 (f_errors_Is_ok a0 a1 _ r21 hr22) (args2 Z Z)) Z ?_
 rintro _ M23 _ hle24 ⟨_,⟨rfl,rfl⟩,rfl⟩
 exact WL.a0 (qa (Bv r21) (Nt (Cr (Rf h [] Z (Rs Z Z) hle24 ⟨Z,Z⟩))))
noncomputable def f_law16_works:Option Bool:=
 ((f_law15_First).bind fun r21=>((f_law15_Made r21).bind fun r28=>((f_dump_Put r28).bind fun(r34,r35)=>((f_dump_Read r34).bind fun(r43,r44)=>((f_dump_Read []).bind fun(r51,r52)=>(((if r35.isNil=true then(if r44.isNil=true then(if(decide ((r43.Topics.length:Int)=(1:Int)))=true then(grd (0≤(0:Int)∧(0:Int)<r43.Topics.length) (if(decide ((((rd r43.Topics (0:Int)).Parts).length:Int)=(1:Int)))=true then(grd (0≤(0:Int)∧(0:Int)<r43.Topics.length) (grd (0≤(0:Int)∧(0:Int)<((rd r43.Topics (0:Int)).Parts).length) (if(decide (((rd ((rd r43.Topics (0:Int)).Parts) (0:Int)).Leader)=(1:Int)))=true then((f_fault_Is r52 (3:Int)).bind fun r87=>(if r87=true then((f_dump_Check (⟨r28.Brokers,r28.Topics,r28.Configs,r28.Done,(0:Int)⟩:T_api_Image)).bind fun r93=>((f_fault_Is r93 (2:Int)).bind fun r98=>(if r98=true then((f_dump_Check r43).bind fun r104=>(some r104.isNil))else(some false))))else(some false)))else(some false))))else(some false)))else(some false))else(some false))else(some false)):Option Bool).bind fun x59=>(some x59)))))))
def f_law16_works_post:Bool→Value→IM→HL→Prop:=
 fun(r0:Bool) (v:Value) (M':IM) (H':HL)=>(.bool r0)=v∧H'=[]
theorem f_law16_works_ok (M:IM) (res:Bool) (h:f_law16_works=some res):
 Tri Tryz.prog 6 #[] M [] (f_law16_works_post res):=by
 unfold f_law16_works at h
 refine Te Tryz.func6 Z Z ?_
 intro F ρ hρ
 refine Sr (qa (Bv false) (Ns ?_))
 obtain ⟨r21,hr22,h⟩:=bnd h
 refine We (Ca co12 (f_law15_First_ok _ r21 hr22) (args0)) Z ?_
 rintro _ M23 _ hle24 ⟨_,⟨vq25,cq25,rfl,rfl,hq25⟩,rfl⟩
 refine WL.a1 (WL.know (fun _ hs=>hq25.rs hs) (fun hf27=> ?_))
 refine WL.freeze (fun hle26=> ?_)
 obtain ⟨r28,hr29,h⟩:=bnd h
 refine We (Ca co7 (f_law15_Made_ok r21 _ _ hf27 r28 hr29) (args1 Z)) Z ?_
 rintro _ M30 _ hle31 ⟨_,⟨vq32_0,vq32_1,vq32_2,vq32_3,rfl,rfl,hq32_0,hq32_1,hq32_2,hq32_3⟩,rfl⟩
 refine WL.a0 (We (Al ze29 Z) Z ?_)
 rintro _ _ _ - ⟨rfl,g33,rfl,rfl⟩
 refine We (Sg (v:=(a29_ r28 vq32_0 vq32_1 vq32_2 vq32_3)) (vl:=(l29 r28 vq32_0 vq32_1 vq32_2 vq32_3)) (arr':=(l29 r28 vq32_0 vq32_1 vq32_2 vq32_3)) Z sz29 Z Z (onesOf (Oc (RS.one hq32_0) (Oc (RS.one hq32_1) (Oc (RS.one hq32_2) (Oc (RS.one hq32_3) (Oc Z Oz)))))) Z Z Z) Z ?_
 rintro _ _ _ - ⟨rfl,rfl⟩
 refine Ns (qu (a29_ r28 vq32_0 vq32_1 vq32_2 vq32_3) (La (cs:=(l29 r28 vq32_0 vq32_1 vq32_2 vq32_3)) 0 ag29 sz29 Z Z Z) ?_)
 obtain ⟨⟨r34,r35⟩,hr36,h⟩:=bnd h
 refine We (Ca co8 (f_dump_Put_ok r28 _ _ _ _ _ hq32_0 hq32_1 hq32_2 hq32_3 (r34,r35) hr36) (args1 Z)) Z ?_
 rintro _ M37 _ hle38 ⟨_,⟨vq39,cq39,rfl,rfl,hq39⟩,rfl⟩
 refine WL.a1 (qm (.tuple #[vq39,(GV r35)]) (qu vq39 (Xt Z Z) (qu (GV r35) (Xt Z Z) (qa vq39 (qa (GV r35) (Ns (qm vq39 (WL.know (fun _ hs=>hq39.rs hs) (fun hf42=> ?_)))))))))
 refine WL.freeze (fun hle41=> ?_)
 obtain ⟨⟨r43,r44⟩,hr45,h⟩:=bnd h
 refine We (Ca co9 (f_dump_Read_ok r34 _ _ hf42 (r43,r44) hr45) (args1 Z)) Z ?_
 rintro _ M46 _ hle47 ⟨_,⟨vq48_0,cq48_0,vq48_1,cq48_1,vq48_2,cq48_2,vq48_3,cq48_3,rfl,rfl,hq48_0,hq48_1,hq48_2,hq48_3⟩,rfl⟩
 have L47:=(hle38.trans hle41).trans hle47
 refine WL.a4 (qm (.tuple #[(a29_ r43 vq48_0 vq48_1 vq48_2 vq48_3),(GV r44)]) (qu (a29_ r43 vq48_0 vq48_1 vq48_2 vq48_3) (Xt Z Z) (qu (GV r44) (Xt Z Z) (We (Al ze29 Z) Z ?_))))
 rintro _ _ _ - ⟨rfl,g50,rfl,rfl⟩
 refine We (Sg (v:=(a29_ r43 vq48_0 vq48_1 vq48_2 vq48_3)) (vl:=(l29 r43 vq48_0 vq48_1 vq48_2 vq48_3)) (arr':=(l29 r43 vq48_0 vq48_1 vq48_2 vq48_3)) Z sz29 Z Z (onesOf (Oc (Ow hq48_0) (Oc (Ow hq48_1) (Oc (Ow hq48_2) (Oc (Ow hq48_3) (Oc Z Oz)))))) Z Z Z) Z ?_
 rintro _ _ _ - ⟨rfl,rfl⟩
 refine qa (GV r44) (Ns ?_)
 obtain ⟨⟨r51,r52⟩,hr53,h⟩:=bnd h
 refine We (Ca co9 (f_dump_Read_ok [] _ _ (RS.nil _ _) (r51,r52) hr53) (args1 Z)) Z ?_
 rintro _ M54 _ hle55 ⟨_,⟨vq56_0,cq56_0,vq56_1,cq56_1,vq56_2,cq56_2,vq56_3,cq56_3,rfl,rfl,hq56_0,hq56_1,hq56_2,hq56_3⟩,rfl⟩
 have L55:=L47.trans hle55
 refine WL.a4 (qm (.tuple #[(a29_ r51 vq56_0 vq56_1 vq56_2 vq56_3),(GV r52)]) (qu (a29_ r51 vq56_0 vq56_1 vq56_2 vq56_3) (Xt Z Z) (qu (GV r52) (Xt Z Z) (We (Al ze29 Z) Z ?_))))
 rintro _ _ _ - ⟨rfl,g58,rfl,rfl⟩
 refine We (Sg (v:=(a29_ r51 vq56_0 vq56_1 vq56_2 vq56_3)) (vl:=(l29 r51 vq56_0 vq56_1 vq56_2 vq56_3)) (arr':=(l29 r51 vq56_0 vq56_1 vq56_2 vq56_3)) Z sz29 Z Z (onesOf (Oc (Ow hq56_0) (Oc (Ow hq56_1) (Oc (Ow hq56_2) (Oc (Ow hq56_3) (Oc Z Oz)))))) Z Z Z) Z ?_
 rintro _ _ _ - ⟨rfl,rfl⟩
 refine qa (GV r52) (Ns (qu (pt g33 4) (Fa fo29_4 Z Z) (WL.f10 (We (Es (Iv 0) [vq32_0,vq32_1,vq32_2,vq32_3,(Iv 0)] Z sz3 Z Z Z Z Z Z) Z ?_))))
 rintro _ _ _ - ⟨rfl,rfl⟩
 refine Nt ?_
 obtain ⟨x59,hj60,h⟩:=bnd h
 refine Jf (fun(x59:Bool) ρ' M' H'=>M54.le M'∧[(g33, .cells #[vq32_0,vq32_1,vq32_2,vq32_3,(Iv 0)] 29 (0,0))]::[(g58, .cells (l29 r51 vq56_0 vq56_1 vq56_2 vq56_3).toArray 29 (0,0))]::[(g50, .cells (l29 r43 vq48_0 vq48_1 vq48_2 vq48_3).toArray 29 (0,0))]::cq56_0::cq56_1::cq56_2::cq56_3::cq48_0::cq48_1::cq48_2::cq48_3::F=H'∧ρ' 0=(Bv x59)) x59 ?_ ?_
 have h:=hj60
 refine Cg (qm (GV r35) (qu (Bv r35.isNil) (PO.errNil Tryz.underlying33 Z) (qm (Bv r35.isNil) ?_)))
 rcases Bi h with⟨hb61,h⟩ |⟨hb61,h⟩
 refine On 27 Z Z hb61 (qm (GV r44) (qo 27 hb61 (Bv r44.isNil) (PO.errNil Tryz.underlying33 Z) (qu (Bv r44.isNil) (Pt Z hb61 Z) (qm (Bv r44.isNil) ?_))))
 rcases Bi h with⟨hb62,h⟩ |⟨hb62,h⟩
 refine qo 31 hb62 (pt g50 1) (Fa fo29_1 Z Z) (qo 31 hb62 vq48_1 (Lb 6 pl25 Z Z Z) (On 31 Z Z hb62 ?_))
 have hq48_1:=hq48_1.mono hle55
 refine qu (Iv (r43.Topics.length:Int)) (PO.lenS Tryz.underlying25 Z hq48_1.len) (qo 31 hb62 (Bv (decide ((r43.Topics.length:Int)=(1:Int)))) (PO.eql Z Z) (qu (Bv (decide ((r43.Topics.length:Int)=(1:Int)))) (Pt Z hb62 Z) (qm (Bv (decide ((r43.Topics.length:Int)=(1:Int)))) ?_)))
 rcases Bi h with⟨hb63,h⟩ |⟨hb63,h⟩
 refine qo 37 hb63 (pt g50 1) (Fa fo29_1 Z Z) (qo 37 hb63 vq48_1 (Lb 6 pl25 Z Z Z) (On 37 Z Z hb63 ?_))
 obtain ⟨hg64,h⟩:=grd_i h
 obtain ⟨p65,cs66,hat67,hrc68,hhas69⟩:=hq48_1.at hg64.1 hg64.2
 obtain ⟨vw70_2,rfl,hw70_2⟩:=kd_api_Topic_open hrc68
 refine qu (.pointer (some p65)) (PO.indexAddr (n:=r43.Topics.length) Tryz.underlying25 sz52 Z Z hg64.1 hg64.2 hat67) (qo 37 hb63 (.pointer (some (p65.add 2))) (Fa fo52_2 Z Z) (qo 37 hb63 vw70_2 (PO.loadC 8 pl50 Z Z (hhas69 2 _ Z)) (qo 37 hb63 (Iv (((rd r43.Topics (0:Int)).Parts).length:Int)) (PO.lenS Tryz.underlying50 Z hw70_2.len) (qo 37 hb63 (Bv (decide ((((rd r43.Topics (0:Int)).Parts).length:Int)=(1:Int)))) (PO.eql Z Z) (qu (Bv (decide ((((rd r43.Topics (0:Int)).Parts).length:Int)=(1:Int)))) (Pt Z hb63 Z) (qm (Bv (decide ((((rd r43.Topics (0:Int)).Parts).length:Int)=(1:Int)))) ?_))))))
 rcases Bi h with⟨hb71,h⟩ |⟨hb71,h⟩
 refine qo 46 hb71 (pt g50 1) (Fa fo29_1 Z Z) (qo 46 hb71 vq48_1 (Lb 6 pl25 Z Z Z) (On 46 Z Z hb71 ?_))
 obtain ⟨hg72,h⟩:=grd_i h
 obtain ⟨p73,cs74,hat75,hrc76,hhas77⟩:=hq48_1.at hg72.1 hg72.2
 obtain ⟨vw78_2,rfl,hw78_2⟩:=kd_api_Topic_open hrc76
 refine qu (.pointer (some p73)) (PO.indexAddr (n:=r43.Topics.length) Tryz.underlying25 sz52 Z Z hg72.1 hg72.2 hat75) (qo 46 hb71 (.pointer (some (p73.add 2))) (Fa fo52_2 Z Z) (qo 46 hb71 vw78_2 (PO.loadC 8 pl50 Z Z (hhas77 2 _ Z)) (On 46 Z Z hb71 ?_)))
 obtain ⟨hg79,h⟩:=grd_i h
 obtain ⟨p80,cs81,hat82,hrc83,hhas84⟩:=hw78_2.at hg79.1 hg79.2 (by decide)
 obtain ⟨vw85_0,vw85_1,vw85_4,vw85_5,rfl,hw85_0,hw85_1,hw85_4,hw85_5⟩:=kd_api_Part_open hrc83
 refine qu (.pointer (some p80)) (PO.indexAddr (n:=((rd r43.Topics (0:Int)).Parts).length) Tryz.underlying50 sz54 Z Z hg79.1 hg79.2 hat82) (qo 46 hb71 (.pointer (some (p80.add 2))) (Fa fo54_2 Z Z) (qo 46 hb71 (Iv ((rd ((rd r43.Topics (0:Int)).Parts) (0:Int)).Leader)) (PO.loadM pl3 Z (hhas84 2 _ Z)) (qo 46 hb71 (Bv (decide (((rd ((rd r43.Topics (0:Int)).Parts) (0:Int)).Leader)=1))) (PO.eql Z Z) (qu (Bv (decide (((rd ((rd r43.Topics (0:Int)).Parts) (0:Int)).Leader)=1))) (Pt Z hb71 Z) (qm (Bv (decide (((rd ((rd r43.Topics (0:Int)).Parts) (0:Int)).Leader)=1))) ?_)))))
 rcases Bi h with⟨hb86,h⟩ |⟨hb86,h⟩
 refine On 57 Z Z hb86 (qm (GV r52) (On 57 Z Z hb86 ?_))
 obtain ⟨r87,hr88,h⟩:=bnd h
 refine We (Ca co13 (f_fault_Is_ok r52 (3:Int) _ r87 hr88) (args2 Z Z)) Z ?_
 rintro _ M89 _ hle90 ⟨_,⟨rfl,rfl⟩,rfl⟩
 have L90:=L55.trans hle90
 refine WL.a0 (qu (Bv r87) (Pt Z hb86 Z) (qm (Bv r87) ?_))
 rcases Bi h with⟨hb92,h⟩ |⟨hb92,h⟩
 refine qo 61 hb92 (.agg #[vq32_0,vq32_1,vq32_2,vq32_3,(Iv 0)]) (La (cs:=[vq32_0,vq32_1,vq32_2,vq32_3,(Iv 0)]) 0 ag29 sz29 Z Z Z) (On 61 Z Z hb92 ?_)
 obtain ⟨r93,hr94,h⟩:=bnd h
 have hq32_0:=hq32_0.mono L90
 have hq32_1:=hq32_1.mono L90
 have hq32_2:=hq32_2.mono L90
 have hq32_3:=hq32_3.mono L90
 refine We (Ca co14 (f_dump_Check_ok (⟨r28.Brokers,r28.Topics,r28.Configs,r28.Done,(0:Int)⟩:T_api_Image) _ _ _ _ _ hq32_0 hq32_1 hq32_2 hq32_3 r93 hr94) (args1 Z)) Z ?_
 rintro _ M95 _ hle96 ⟨_,⟨rfl,rfl⟩,rfl⟩
 refine WL.a0 (On 61 Z Z hb92 ?_)
 obtain ⟨r98,hr99,h⟩:=bnd h
 refine We (Ca co13 (f_fault_Is_ok r93 (2:Int) _ r98 hr99) (args2 Z Z)) Z ?_
 rintro _ M100 _ hle101 ⟨_,⟨rfl,rfl⟩,rfl⟩
 have L101:=((hle55.trans hle90).trans hle96).trans hle101
 refine WL.a0 (qu (Bv r98) (Pt Z hb92 Z) (qm (Bv r98) ?_))
 rcases Bi h with⟨hb103,h⟩ |⟨hb103,h⟩
 refine qo 66 hb103 (a29_ r43 vq48_0 vq48_1 vq48_2 vq48_3) (La (cs:=(l29 r43 vq48_0 vq48_1 vq48_2 vq48_3)) 6 ag29 sz29 Z Z Z) (On 66 Z Z hb103 ?_)
 obtain ⟨r104,hr105,h⟩:=bnd h
 refine WL.f10 (WL.f10 (WL.f10 (WL.f10 ?_)))
 have hq48_0:=hq48_0.mono L101
 have hq48_1:=hq48_1.mono ((hle90.trans hle96).trans hle101)
 have hq48_2:=hq48_2.mono L101
 have hq48_3:=hq48_3.mono L101
 refine We (EO.call4 co14 (Tri.lend hq48_0.excl fun w0_ H0_ hs0_=>(Tri.lend hq48_1.excl fun w1_ H1_ hs1_=>(Tri.lend hq48_2.excl fun w2_ H2_ hs2_=>(Tri.lend hq48_3.excl fun w3_ H3_ hs3_=>(f_dump_Check_ok r43 _ _ _ _ _ ((((hq48_0.rs hs0_).mono (IM.le_add _ _)).mono (IM.le_add _ _)).mono (IM.le_add _ _)) ((((hq48_1.mono (IM.le_add _ _)).rs hs1_).mono (IM.le_add _ _)).mono (IM.le_add _ _)) ((((hq48_2.mono (IM.le_add _ _)).mono (IM.le_add _ _)).rs hs2_).mono (IM.le_add _ _)) ((((hq48_3.mono (IM.le_add _ _)).mono (IM.le_add _ _)).mono (IM.le_add _ _)).rs hs3_) r104 hr105))))) (args1 Z)) Z ?_
 rintro _ _ _ hle107 ⟨_,⟨Ml118,Hl119,hll120,rfl,rfl,⟨Ml115,Hl116,hll117,rfl,rfl,⟨Ml112,Hl113,hll114,rfl,rfl,⟨Ml109,Hl110,hll111,rfl,rfl,⟨rfl,rfl⟩⟩⟩⟩⟩,rfl⟩
 refine WL.a4 (qo 66 hb103 (Bv r104.isNil) (PO.errNil Tryz.underlying33 Z) (qu (Bv r104.isNil) (Pt Z hb103 Z) (qa (Bv r104.isNil) (Wz (WQ.f3 (WQ.f3 (WQ.f3 (WQ.f3 (WQ.f9 (WQ.f9 (WQ.f9 ?_)))))))))))
 refine WQ.f9 (WQ.f10 (WQ.f10 (WQ.f10 ?_)))
 obtain rfl:=oi h
 exact Tj ⟨(((hle90.trans hle96).trans hle101).trans hle107),Z,Z⟩
 iterate 3 refine Of 66 Z Z hb103 Z ?_
 refine qu (Bv false) (Pf Z hb103 Z) (qa (Bv false) (Wz (WQ.f10 (WQ.f10 (WQ.f10 (WQ.f10 (WQ.f9 (WQ.f9 (WQ.f9 (WQ.f9 (WQ.f10 ?_)))))))))))
 refine WQ.f10 (WQ.f10 ?_)
 obtain rfl:=oi h
 exact Tj ⟨((hle90.trans hle96).trans hle101),Z,Z⟩
 iterate 3 refine Of 61 Z Z hb92 Z ?_
 refine qu (Bv false) (Pf Z hb92 Z) (qm (Bv false) ?_)
 iterate 3 refine Of 66 Z Z Z Z ?_
 refine qu (Bv false) (Pf Z Z Z) (qa (Bv false) (Wz (WQ.f10 (WQ.f10 (WQ.f10 (WQ.f10 (WQ.f9 (WQ.f9 (WQ.f9 (WQ.f9 (WQ.f10 ?_)))))))))))
 refine WQ.f10 (WQ.f10 ?_)
 obtain rfl:=oi h
 exact Tj ⟨hle90,Z,Z⟩
 iterate 2 refine Of 57 Z Z hb86 Z ?_
 refine qu (Bv false) (Pf Z hb86 Z) (qm (Bv false) ?_)
 iterate 3 refine Of 61 Z Z Z Z ?_
 refine qu (Bv false) (Pf Z Z Z) (qm (Bv false) ?_)
 iterate 3 refine Of 66 Z Z Z Z ?_
 refine qu (Bv false) (Pf Z Z Z) (qa (Bv false) (Wz (WQ.f10 (WQ.f10 (WQ.f10 (WQ.f10 (WQ.f9 (WQ.f9 (WQ.f9 (WQ.f9 (WQ.f10 ?_)))))))))))
 refine WQ.f10 (WQ.f10 ?_)
 obtain rfl:=oi h
 exact Tj ⟨lr,Z,Z⟩
 iterate 9 refine Of 46 Z Z hb71 Z ?_
 refine qu (Bv false) (Pf Z hb71 Z) (qm (Bv false) ?_)
 iterate 2 refine Of 57 Z Z Z Z ?_
 refine qu (Bv false) (Pf Z Z Z) (qm (Bv false) ?_)
 iterate 3 refine Of 61 Z Z Z Z ?_
 refine qu (Bv false) (Pf Z Z Z) (qm (Bv false) ?_)
 iterate 3 refine Of 66 Z Z Z Z ?_
 refine qu (Bv false) (Pf Z Z Z) (qa (Bv false) (Wz (WQ.f10 (WQ.f10 (WQ.f10 (WQ.f10 (WQ.f9 (WQ.f9 (WQ.f9 (WQ.f9 (WQ.f10 ?_)))))))))))
 refine WQ.f10 (WQ.f10 ?_)
 obtain rfl:=oi h
 exact Tj ⟨lr,Z,Z⟩
 iterate 7 refine Of 37 Z Z hb63 Z ?_
 refine qu (Bv false) (Pf Z hb63 Z) (qm (Bv false) ?_)
 iterate 9 refine Of 46 Z Z Z Z ?_
 refine qu (Bv false) (Pf Z Z Z) (qm (Bv false) ?_)
 iterate 2 refine Of 57 Z Z Z Z ?_
 refine qu (Bv false) (Pf Z Z Z) (qm (Bv false) ?_)
 iterate 3 refine Of 61 Z Z Z Z ?_
 refine qu (Bv false) (Pf Z Z Z) (qm (Bv false) ?_)
 iterate 3 refine Of 66 Z Z Z Z ?_
 refine qu (Bv false) (Pf Z Z Z) (qa (Bv false) (Wz (WQ.f10 (WQ.f10 (WQ.f10 (WQ.f10 (WQ.f9 (WQ.f9 (WQ.f9 (WQ.f9 (WQ.f10 ?_)))))))))))
 refine WQ.f10 (WQ.f10 ?_)
 obtain rfl:=oi h
 exact Tj ⟨lr,Z,Z⟩
 iterate 4 refine Of 31 Z Z hb62 Z ?_
 refine qu (Bv false) (Pf Z hb62 Z) (qm (Bv false) ?_)
 iterate 7 refine Of 37 Z Z Z Z ?_
 refine qu (Bv false) (Pf Z Z Z) (qm (Bv false) ?_)
 iterate 9 refine Of 46 Z Z Z Z ?_
 refine qu (Bv false) (Pf Z Z Z) (qm (Bv false) ?_)
 iterate 2 refine Of 57 Z Z Z Z ?_
 refine qu (Bv false) (Pf Z Z Z) (qm (Bv false) ?_)
 iterate 3 refine Of 61 Z Z Z Z ?_
 refine qu (Bv false) (Pf Z Z Z) (qm (Bv false) ?_)
 iterate 3 refine Of 66 Z Z Z Z ?_
 refine qu (Bv false) (Pf Z Z Z) (qa (Bv false) (Wz (WQ.f10 (WQ.f10 (WQ.f10 (WQ.f10 (WQ.f9 (WQ.f9 (WQ.f9 (WQ.f9 (WQ.f10 ?_)))))))))))
 refine WQ.f10 (WQ.f10 ?_)
 obtain rfl:=oi h
 exact Tj ⟨lr,Z,Z⟩
 iterate 2 refine Of 27 Z Z hb61 Z ?_
 refine qu (Bv false) (Pf Z hb61 Z) (qm (Bv false) ?_)
 iterate 4 refine Of 31 Z Z Z Z ?_
 refine qu (Bv false) (Pf Z Z Z) (qm (Bv false) ?_)
 iterate 7 refine Of 37 Z Z Z Z ?_
 refine qu (Bv false) (Pf Z Z Z) (qm (Bv false) ?_)
 iterate 9 refine Of 46 Z Z Z Z ?_
 refine qu (Bv false) (Pf Z Z Z) (qm (Bv false) ?_)
 iterate 2 refine Of 57 Z Z Z Z ?_
 refine qu (Bv false) (Pf Z Z Z) (qm (Bv false) ?_)
 iterate 3 refine Of 61 Z Z Z Z ?_
 refine qu (Bv false) (Pf Z Z Z) (qm (Bv false) ?_)
 iterate 3 refine Of 66 Z Z Z Z ?_
 refine qu (Bv false) (Pf Z Z Z) (qa (Bv false) (Wz (WQ.f10 (WQ.f10 (WQ.f10 (WQ.f10 (WQ.f9 (WQ.f9 (WQ.f9 (WQ.f9 (WQ.f10 ?_)))))))))))
 refine WQ.f10 (WQ.f10 ?_)
 obtain rfl:=oi h
 exact Tj ⟨lr,Z,Z⟩
 rintro ρ60 M60 H60 ⟨hle60,rfl,hs60_0⟩
 refine Cr (Dr (Dr (Dr (Dr (Dr (Dr (Dr (Dr (Dr (Dr (Dr ?_)))))))))))
 exact Rf h [] Z (Rs Z hs60_0) (((((((hle24.trans hle26).trans hle31).trans hle38).trans hle41).trans hle47).trans hle55).trans hle60) ⟨Z,Z⟩
noncomputable def f_ref15_sameTopic_l0 (a0:T_api_Topic) (a1:T_api_Topic) (s_:Int):Option (Int⊕(Unit⊕Unit)):=
 match s_ with
 |x30=>
 (if(decide (x30<(a0.Parts.length:Int)))=true then(grd (0≤x30∧x30<a0.Parts.length) (grd (0≤x30∧x30<a1.Parts.length) ((f_ref15_SamePart (rd a0.Parts x30) (rd a1.Parts x30)).bind fun r46=>(if(!r46)=true then(some (Sum.inr (Sum.inr ())))else(some (Sum.inl (IntKind.i64.wrap (x30+(1:Int)))))))))else(some (Sum.inr (Sum.inl ()))))
noncomputable def f_ref15_sameTopic (a0:T_api_Topic) (a1:T_api_Topic):Option Bool:=
 (((if(decide (a0.Id≠a1.Id))=true then(some true)else(if(!decide (a0.Name=a1.Name))=true then(some true)else(some (decide ((a0.Parts.length:Int)≠(a1.Parts.length:Int)))))):Option Bool).bind fun x23=>(if x23=true then(some false)else((((iter (f_ref15_sameTopic_l0 a0 a1) (0:Int)).bind (Sum.elim (fun _=>(some (Sum.inl ()))) (fun _=>(((some false)).bind fun r=>some (Sum.inr r))))):Option (Unit⊕Bool)).bind (Sum.elim (fun _=>(some true)) some))))
def f_ref15_sameTopic_post (a0:T_api_Topic) (a1:T_api_Topic) (v0_2 v1_2:Value):Bool→Value→IM→HL→Prop:=
 fun(r0:Bool) (v:Value) (M':IM) (H':HL)=>(.bool r0)=v∧H'=[]
theorem f_ref15_sameTopic_ok (a0:T_api_Topic) (a1:T_api_Topic) (M:IM) (v0_2 v1_2:Value) (h0_2:RS kd_api_Part M v0_2 a0.Parts) (h1_2:RS kd_api_Part M v1_2 a1.Parts) (res:Bool) (h:f_ref15_sameTopic a0 a1=some res):
 Tri Tryz.prog 39 #[(a52_ a0 v0_2),(a52_ a1 v1_2)] M [] (f_ref15_sameTopic_post a0 a1 v0_2 v1_2 res):=by
 unfold f_ref15_sameTopic at h
 refine Te Tryz.func39 Z Z ?_
 intro F ρ hρ
 refine Sr (We (EO.box (cs:=(l52 a0 v0_2).toArray) (congrArg Value.cells (asE (a52_ a0 v0_2) (hρ 0)))) Z ?_)
 rintro _ _ _ - ⟨rfl,g21,rfl,rfl⟩
 refine We (EO.box (cs:=(l52 a1 v1_2).toArray) (congrArg Value.cells (asE (a52_ a1 v1_2) (hρ 1)))) Z ?_
 rintro _ _ _ - ⟨rfl,g22,rfl,rfl⟩
 refine qa (Bv false) (Nt (Cs ?_))
 obtain ⟨x23,hj24,h⟩:=bnd h
 refine Jf (fun(x23:Bool) ρ' M' H'=>M.le M'∧[(g22, .cells (l52 a1 v1_2).toArray 52 (0,0))]::[(g21, .cells (l52 a0 v0_2).toArray 52 (0,0))]::F=H'∧ρ' 2=(pt g21 0)∧ρ' 3=(pt g22 0)∧ρ' 26=(Bv x23)) x23 ?_ ?_
 have h:=hj24
 refine Cg (qu (pt g21 0) (Fa fo52_0 Z Z) (qu (Iv a0.Id) (Lb 1 pl3 Z Z Z) (qu (pt g22 0) (Fa fo52_0 Z Z) (qu (Iv a1.Id) (Lb 0 pl3 Z Z Z) (qu (Bv (decide (a0.Id≠a1.Id))) (PO.neq Z Z) (qm (Bv (decide (a0.Id≠a1.Id))) ?_))))))
 rcases Bi h with⟨hb25,h⟩ |⟨hb25,h⟩
 iterate 5 refine Of 11 Z Z hb25 Z ?_
 refine qu (Bv true) (Pt Z hb25 Z) (qm (Bv true) ?_)
 iterate 7 refine Of 18 Z Z Z Z ?_
 refine qu (Bv true) (Pt Z Z Z) (Wz ?_)
 obtain rfl:=oi h
 exact Tj ⟨lr,Z,Z,Z,Z⟩
 refine qo 11 hb25 (pt g21 1) (Fa fo52_1 Z Z) (qo 11 hb25 (Sv a0.Name) (Lb 1 pl9 Z Z Z) (qo 11 hb25 (pt g22 1) (Fa fo52_1 Z Z) (qo 11 hb25 (Sv a1.Name) (Lb 0 pl9 Z Z Z) (qo 11 hb25 (Bv (!decide (a0.Name=a1.Name))) (PO.sneq Z Z) (qu (Bv (!decide (a0.Name=a1.Name))) (Pf Z hb25 Z) (qm (Bv (!decide (a0.Name=a1.Name))) ?_))))))
 rcases Bi h with⟨hb26,h⟩ |⟨hb26,h⟩
 iterate 7 refine Of 18 Z Z hb26 Z ?_
 refine qu (Bv true) (Pt Z hb26 Z) (Wz ?_)
 obtain rfl:=oi h
 exact Tj ⟨lr,Z,Z,Z,Z⟩
 refine qo 18 hb26 (pt g21 2) (Fa fo52_2 Z Z) (qo 18 hb26 v0_2 (Lb 1 pl50 Z Z Z) (qo 18 hb26 (Iv (a0.Parts.length:Int)) (PO.lenS Tryz.underlying50 Z h0_2.len) (qo 18 hb26 (pt g22 2) (Fa fo52_2 Z Z) (qo 18 hb26 v1_2 (Lb 0 pl50 Z Z Z) (qo 18 hb26 (Iv (a1.Parts.length:Int)) (PO.lenS Tryz.underlying50 Z h1_2.len) (qo 18 hb26 (Bv (decide ((a0.Parts.length:Int)≠(a1.Parts.length:Int)))) (PO.neq Z Z) (qu (Bv (decide ((a0.Parts.length:Int)≠(a1.Parts.length:Int)))) (Pf Z hb26 Z) (Wz ?_))))))))
 obtain rfl:=oi h
 exact Tj ⟨lr,Z,Z,Z,Z⟩
 rintro ρ24 M24 H24 ⟨hle24,rfl,hs24_2,hs24_3,hs24_26⟩
 refine Ch h hs24_26 (fun hb27 h=> ?_) (fun hb27 h=> ?_)
 exact Sr (qa (Bv false) (Nt (Cr (Tr (Dr (Dr (Rf h [] Z (Rs Z Z) hle24 ⟨Z,Z⟩)))))))
 refine Ck (Tc ?_)
 obtain ⟨j28,hj28,h⟩:=bnd h
 refine WC.joinE (fun(_:Unit) ρ' M' H'=>M24.le M'∧[(g22, .cells (l52 a1 v1_2).toArray 52 (0,0))]::[(g21, .cells (l52 a0 v0_2).toArray 52 (0,0))]::F=H') j28 ?_ ?_
 have h328:=h
 have h:=hj28
 refine Sr (qa (Iv 0) (Nt (Bk ?_)))
 obtain ⟨e29,he29,hK29⟩:=bnd h
 clear h
 refine WC.loop he29 (fun(x30:Int) ρ' M' H'=>M24.le M'∧[(g22, .cells (l52 a1 v1_2).toArray 52 (0,0))]::[(g21, .cells (l52 a0 v0_2).toArray 52 (0,0))]::F=H'∧ρ' 2=(pt g21 0)∧ρ' 3=(pt g22 0)∧ρ' 5=(Iv x30)) ?_ ?_
 exact⟨lr,Z,hs24_2,hs24_3,Z⟩
 rintro x30 o29 ρ29 M29 H29 h ⟨hle29,rfl,hs29_2,hs29_3,hs29_5⟩
 unfold f_ref15_sameTopic_l0 at h
 refine Cs (Sr (qM (Iv x30) hs29_5 (qu (pt g21 2) (Fa fo52_2 hs29_2 Z) (qu v0_2 (Lb 1 pl50 Z Z Z) ?_))))
 have h0_2:=h0_2.mono (hle24.trans hle29)
 refine qu (Iv (a0.Parts.length:Int)) (PO.lenS Tryz.underlying50 Z h0_2.len) (qu (Bv (decide (x30<(a0.Parts.length:Int)))) (PO.lss Z Z) (Nt (Ch h Z (fun hb31 h=> ?_) (fun hb31 h=> ?_))))
 refine Ck (Tc (Cs (Bk (Cs (WC.draw [0,1,0,7,15,0,32,0,224,480,1023,2047] (.pure 0 (.pure 1 (.pure 2 (.pure 3 (.pure 4 (.pure 5 (.pure 6 (.pure 7 (.pure 8 (.pure 9 (.alt 10 (.pure 11 .done) .none))))))))))) mixed (by kernel_rfl) (qt (pt g21 2) Z (Fa fo52_2 hs29_2 Z) (qt v0_2 Z (Lb 1 pl50 Z Z Z) (qt (Iv x30) Z (Mv hs29_5) ?_))))))))
 obtain ⟨hg32,h⟩:=grd_i h
 obtain ⟨p33,cs34,hat35,hrc36,hhas37⟩:=h0_2.at hg32.1 hg32.2 (by decide)
 obtain ⟨vw38_0,vw38_1,vw38_4,vw38_5,rfl,hw38_0,hw38_1,hw38_4,hw38_5⟩:=kd_api_Part_open hrc36
 refine qt (.pointer (some p33)) Z (PO.indexAddr (n:=a0.Parts.length) Tryz.underlying50 sz54 Z Z hg32.1 hg32.2 hat35) (qt (a54_ (rd a0.Parts x30) vw38_0 vw38_1 vw38_4 vw38_5) Z (PO.loadMA (cs:=(l54 (rd a0.Parts x30) vw38_0 vw38_1 vw38_4 vw38_5)) ag54 sz54 Z hhas37) (qt (pt g22 2) Z (Fa fo52_2 hs29_3 Z) (qt v1_2 Z (Lb 0 pl50 Z Z Z) (qt (Iv x30) Z (Mv hs29_5) ?_))))
 obtain ⟨hg39,h⟩:=grd_i h
 have h1_2:=h1_2.mono (hle24.trans hle29)
 obtain ⟨p40,cs41,hat42,hrc43,hhas44⟩:=h1_2.at hg39.1 hg39.2 (by decide)
 obtain ⟨vw45_0,vw45_1,vw45_4,vw45_5,rfl,hw45_0,hw45_1,hw45_4,hw45_5⟩:=kd_api_Part_open hrc43
 refine qt (.pointer (some p40)) Z (PO.indexAddr (n:=a1.Parts.length) Tryz.underlying50 sz54 Z Z hg39.1 hg39.2 hat42) (qt (a54_ (rd a1.Parts x30) vw45_0 vw45_1 vw45_4 vw45_5) Z (PO.loadMA (cs:=(l54 (rd a1.Parts x30) vw45_0 vw45_1 vw45_4 vw45_5)) ag54 sz54 Z hhas44) ?_)
 obtain ⟨r46,hr47,h⟩:=bnd h
 refine Ta Z (Ca co58 (f_ref15_SamePart_ok (rd a0.Parts x30) (rd a1.Parts x30) _ _ _ _ _ _ _ _ _ hw38_0 hw38_1 hw38_4 hw38_5 hw45_0 hw45_1 hw45_4 hw45_5 r46 hr47) (args2 Z Z)) Z ?_ ?_
 rintro _ M48 _ hle49 ⟨_,⟨rfl,rfl⟩,rfl⟩
 refine⟨(Sl Z), ?_⟩
 refine WT.a0 (qt (Bv (!r46)) Z (PO.not Z) (Ti (Tc (Ch h Z (fun hb51 h=> ?_) (fun hb51 h=> ?_)))))
 refine Sr (qa (Bv false) (Nt (Cr (Br (Tr (WQ.leaveR (Sum.inr ()) (oi h).symm (fun heq29=> ?_)))))))
 subst heq29
 have h:=(elimR hK29)
 refine Br (Tr ?_)
 have h:=KK.early h h328
 exact Dr (Dr (Rf h [] Z (Rs Z Z) ((hle24.trans hle29).trans hle49) ⟨Z,Z⟩))
 exact Ck (Bn (Tc (Cg (qM (Iv x30) hs29_5 (qu (Iv (IntKind.i64.wrap (x30+1))) (PO.add Z Z) (qa (Iv (IntKind.i64.wrap (x30+1))) (Wz (WQ.again (IntKind.i64.wrap (x30+1)) (oi h).symm ⟨(hle29.trans hle49),Z,hs29_2,hs29_3,Z⟩))))))))
 exact Tz
 refine WC.exit (WQ.thenE (WQ.leaveE (Sum.inl ()) (oi h).symm (fun heq29=> ?_)))
 subst heq29
 have h:=elimL hK29
 exact WQ.blockH (WQ.thenFE h ⟨hle29,Z⟩)
 rintro _ ρ28 M28 H28 rfl ⟨hle28,rfl⟩
 have h:=(Sum.elim_inl _ _ _).symm.trans h
 exact Sr (qa (Bv true) (Nt (Cr (Dr (Dr (Rf h [] Z (Rs Z Z) (hle24.trans hle28) ⟨Z,Z⟩))))))

end Go.Proofs.YtpcbipcdfccnnaaGreat.G
