/- Go functions: what they come to, and that they do. Printed by a program of the session (gen). -/
import Derived.Test.YtpcbipcdfccnnaaGreatSF
import Derived.Test.YtpcbipcdfccnnaaGreatS0
import Derived.Test.YtpcbipcdfccnnaaGreatS6
import Derived.Test.YtpcbipcdfccnnaaGreatS7
import Derived.Test.YtpcbipcdfccnnaaGreatS9
import Derived.Test.YtpcbipcdfccnnaaGreatS10
import Derived.Test.YtpcbipcdfccnnaaGreatS11
import Derived.Test.YtpcbipcdfccnnaaGreatS12
import Derived.Test.YtpcbipcdfccnnaaGreatKShar2
import Derived.Test.YtpcbipcdfccnnaaGreatKConv
import Derived.Test.YtpcbipcdfccnnaaGreatKMap
import Derived.Test.YtpcbipcdfccnnaaGreatKShar
import Derived.Test.YtpcbipcdfccnnaaGreatKTight2
set_option linter.unusedVariables false
set_option linter.unusedSimpArgs false
set_option maxHeartbeats 8000000
set_option maxRecDepth 100000
namespace Go.Proofs.YtpcbipcdfccnnaaGreat.G
open Go Go.KK

noncomputable def f_wire_Reader_End (a0:T_wire_Reader):Option (GErr×GErr):=
 (((if(decide (a0.at_<(a0.b.length:Int)))=true then((f_wire_Reader_fail a0 (⟨#[101,110,100]⟩:ByteArray) a0.at_ (5:Int)).bind fun r24=>(some r24))else(some a0.err)):Option GErr).bind fun x21=>(some (x21,x21)))
def f_wire_Reader_End_post (a0:T_wire_Reader) (v0_0:Value) (g0:Nat):(GErr×GErr)→Value→IM→HL→Prop:=
 fun(p_:(GErr×GErr)) (v:Value) (M':IM) (H':HL)=>match p_ with |(r0,r1)=>(GV r0)=v∧H'=[[(g0, .cells #[v0_0,(.int .i64 a0.at_),(GV r1)] 99 (0,0))]]
theorem f_wire_Reader_End_ok (a0:T_wire_Reader) (M:IM) (v0_0:Value) (g0:Nat) (h0_0:RS (Kd.int .u8) M v0_0 a0.b) (res:(GErr×GErr)) (h:f_wire_Reader_End a0=some res):
 Tri Tryz.prog 37 #[(pt g0 0)] M [[(g0, .cells #[v0_0,(Iv a0.at_),(GV a0.err)] 99 (0,0))]] (f_wire_Reader_End_post a0 v0_0 g0 res):=by
 unfold f_wire_Reader_End at h
 refine Te Tryz.func37 Z Z ?_
 intro F ρ hρ
 refine Sr (qa (GV GErr.nil) (Nt ?_))
 obtain ⟨x21,hj22,h⟩:=bnd h
 refine Jf (fun(x21:GErr) ρ' M' H'=>M.le M'∧[(g0, .cells #[v0_0,(Iv a0.at_),(GV x21)] 99 (0,0))]::F=H'∧ρ' 0=(pt g0 0)) x21 ?_ ?_
 have h:=hj22
 refine Cs (WC.draw [0,1,3,7,0,16,48,112,240,511] (.pure 0 (.pure 1 (.pure 2 (.pure 3 (.pure 4 (.pure 5 (.pure 6 (.pure 7 (.pure 8 (.pure 9 .done)))))))))) mixed (by kernel_rfl) (qt (pt g0 0) Z (Mv (hρ 0)) (qt (pt g0 0) Z (Nk Z) (qt (pt g0 1) Z (Fa fo99_1 Z Z) (qt (Iv a0.at_) Z (Lb 0 pl3 Z Z Z) (qt (pt g0 0) Z (Mv (hρ 0)) (qt (pt g0 0) Z (Nk Z) (qt (pt g0 0) Z (Fa fo99_0 Z Z) (qt v0_0 Z (Lb 0 pl31 Z Z Z) (qt (Iv (a0.b.length:Int)) Z (PO.lenS Tryz.underlying31 Z h0_0.len) (qt (Bv (decide (a0.at_<(a0.b.length:Int)))) Z (PO.lss Z Z) ?_)))))))))))
 refine Ti (Tc (Ch h Z (fun hb23 h=> ?_) (fun hb23 h=> ?_)))
 refine Cg (qM (pt g0 0) (hρ 0) (qM (pt g0 0) (hρ 0) (qu (pt g0 0) (Nk Z) (qu (pt g0 1) (Fa fo99_1 Z Z) (qu (Iv a0.at_) (Lb 0 pl3 Z Z Z) ?_)))))
 obtain ⟨r24,hr25,h⟩:=bnd h
 refine We (Cb co55 (f_wire_Reader_fail_ok a0 (⟨#[101,110,100]⟩:ByteArray) a0.at_ (5:Int) _ _ _ h0_0 r24 hr25) (args4 Z Z Z Z)) Z ?_
 rintro _ M26 _ hle27 ⟨_,⟨rfl,rfl⟩,rfl⟩
 refine WL.a1 (Wz ?_)
 obtain rfl:=oi h
 exact Tj ⟨hle27,Z,(hρ 0)⟩
 refine Ck ?_
 obtain rfl:=oi h
 exact Tj ⟨lr,Z,(hρ 0)⟩
 rintro ρ22 M22 H22 ⟨hle22,rfl,hs22_0⟩
 exact Sr (qM (pt g0 0) hs22_0 (qu (pt g0 0) (Nk Z) (qu (pt g0 2) (Fa fo99_2 Z Z) (qu (GV x21) (Lb 0 pl33 Z Z Z) (qa (GV x21) (Nt (Cr (Rf h [[(g0, .cells #[v0_0,(Iv a0.at_),(GV x21)] 99 (0,0))]] Z (Rs Z Z) hle22 ⟨Z,Z⟩))))))))
noncomputable def f_dump_Read (a0:(List Int)):Option (T_api_Image×GErr):=
 ((f_wire_Read a0).bind fun r22=>((f_dump_Read_1 r22).bind fun(r32,r33,r34)=>((f_dump_many_api_Broker_Read_4_Read_1_Read_2 (⟨r22.b,r33,r34⟩:T_wire_Reader) (64:Int)).bind fun(r40,r41,r42)=>((f_dump_many_api_Topic_Read_6_Read_1_Read_2_Read_5_Read_3 (⟨r22.b,r41,r42⟩:T_wire_Reader) (256:Int)).bind fun(r48,r49,r50)=>((f_dump_many_api_Config_Read_7_Read_1_Read_2 (⟨r22.b,r49,r50⟩:T_wire_Reader) (1073741824:Int)).bind fun(r55,r56,r57)=>((f_dump_many_api_Done_Read_8_Read_1 (⟨r22.b,r56,r57⟩:T_wire_Reader) (64:Int)).bind fun(r62,r63,r64)=>((f_wire_Reader_End (⟨r22.b,r63,r64⟩:T_wire_Reader)).bind fun(r69,r70)=>(if(!r69.isNil)=true then(some ((⟨[],[],[],[],(0:Int)⟩:T_api_Image),r69))else((f_dump_Check (⟨r40,r48,r55,r62,r32⟩:T_api_Image)).bind fun r80=>(if(!r80.isNil)=true then((f_fault_Wrap (⟨#[105,109,97,103,101]⟩:ByteArray) (a0.length:Int) r80).bind fun r98=>(some ((⟨[],[],[],[],(0:Int)⟩:T_api_Image),r98)))else(some ((⟨r40,r48,r55,r62,r32⟩:T_api_Image),GErr.nil))))))))))))
def f_dump_Read_post (a0:(List Int)) (v0:Value):(T_api_Image×GErr)→Value→IM→HL→Prop:=
 fun(p_:(T_api_Image×GErr)) (v:Value) (M':IM) (H':HL)=>match p_ with |(r0,r1)=>∃ vz0_0 cz0_0 vz0_1 cz0_1 vz0_2 cz0_2 vz0_3 cz0_3,(.tuple #[(.agg #[vz0_0,vz0_1,vz0_2,vz0_3,(.int .i64 r0.Last)]),(GV r1)])=v∧H'=[cz0_0,cz0_1,cz0_2,cz0_3]∧OwnS kd_api_Broker M' vz0_0 r0.Brokers cz0_0∧OwnS kd_api_Topic M' vz0_1 r0.Topics cz0_1∧OwnS kd_api_Config M' vz0_2 r0.Configs cz0_2∧OwnS kd_api_Done M' vz0_3 r0.Done cz0_3
theorem f_dump_Read_ok (a0:(List Int)) (M:IM) (v0:Value) (h0:RS (Kd.int .u8) M v0 a0) (res:(T_api_Image×GErr)) (h:f_dump_Read a0=some res):
 Tri Tryz.prog 9 #[v0] M [] (f_dump_Read_post a0 v0 res):=by
 unfold f_dump_Read at h
 refine Te Tryz.func9 Z Z ?_
 intro F ρ hρ
 refine Sr (We (Al ze29 Z) Z ?_)
 rintro _ _ _ - ⟨rfl,g21,rfl,rfl⟩
 refine qa (GV GErr.nil) (Ns (qM v0 (hρ 0) ?_))
 obtain ⟨r22,hr23,h⟩:=bnd h
 refine We (Ca co19 (f_wire_Read_ok a0 _ _ h0 r22 hr23) (args1 Z)) Z ?_
 rintro _ M24 _ hle25 ⟨_,⟨g26,vq27_0,rfl,rfl,hq27_0⟩,rfl⟩
 refine WL.a1 (We (Al ze67 Z) Z ?_)
 rintro _ _ _ - ⟨rfl,g28,rfl,rfl⟩
 refine We (Es (pt g26 0) [(pt g26 0)] Z sz67 Z Z Z Z Z Z) Z ?_
 rintro _ _ _ - ⟨rfl,rfl⟩
 refine Ns (qu (.func (.func 20) #[] #[(pt g28 0)]) (PO.makeFunc2 (args0) (args1 (show ev _ _=(pt g28 0) from Z))) (We (Al ze70 Z) Z ?_))
 rintro _ _ _ - ⟨rfl,g29,rfl,rfl⟩
 refine We (Es (.func (.func 20) #[] #[(pt g28 0)]) [(.func (.func 20) #[] #[(pt g28 0)])] Z sz70 Z Z Z Z Z Z) Z ?_
 rintro _ _ _ - ⟨rfl,rfl⟩
 refine Ns (qu (.func (.func 22) #[] #[(pt g28 0)]) (PO.makeFunc2 (args0) (args1 (show ev _ _=(pt g28 0) from Z))) (We (Al ze72 Z) Z ?_))
 rintro _ _ _ - ⟨rfl,g30,rfl,rfl⟩
 refine We (Es (.func (.func 22) #[] #[(pt g28 0)]) [(.func (.func 22) #[] #[(pt g28 0)])] Z sz72 Z Z Z Z Z Z) Z ?_
 rintro _ _ _ - ⟨rfl,rfl⟩
 refine Ns (qu (.func (.func 24) #[] #[(pt g28 0)]) (PO.makeFunc2 (args0) (args1 (show ev _ _=(pt g28 0) from Z))) (We (Al ze74 Z) Z ?_))
 rintro _ _ _ - ⟨rfl,g31,rfl,rfl⟩
 refine We (Es (.func (.func 24) #[] #[(pt g28 0)]) [(.func (.func 24) #[] #[(pt g28 0)])] Z sz74 Z Z Z Z Z Z) Z ?_
 rintro _ _ _ - ⟨rfl,rfl⟩
 refine Ns (qu (.func (.func 20) #[] #[(pt g28 0)]) (Lb 2 pl70 Z Z Z) ?_)
 obtain ⟨⟨r32,r33,r34⟩,hr35,h⟩:=bnd h
 refine WL.f3 (WL.f4 (We (EO.callV2 (first:=#[]) (cap:=#[(pt g28 0)]) co20 Z (f_dump_Read_1_ok r22 _ _ _ _ hq27_0 (r32,r33,r34) hr35) (argsV0 Z)) Z ?_))
 rintro _ M36 _ hle37 ⟨_,⟨rfl,rfl⟩,rfl⟩
 refine WL.a2 (qu (.agg #[Zs,Zs,Zs,Zs,(Iv r32)]) (Bl (cl:=[Zs,Zs,Zs,Zs,(Iv r32)]) ze29 fp29 (Pc (Iv r32) Z Z Pz) Z) (We (Al ze29 Z) Z ?_))
 rintro _ _ _ - ⟨rfl,g39,rfl,rfl⟩
 refine We (Sg (v:=(.agg #[Zs,Zs,Zs,Zs,(Iv r32)])) (vl:=[Zs,Zs,Zs,Zs,(Iv r32)]) (arr':=[Zs,Zs,Zs,Zs,(Iv r32)]) Z sz29 Z Z (onb Z) Z Z Z) Z ?_
 rintro _ _ _ - ⟨rfl,rfl⟩
 refine Ns (qu (pt g26 0) (Lb 2 pl67 Z Z Z) (qu (.func (.func 27) #[] #[(pt g29 0),(pt g30 0),(pt g28 0)]) (PO.makeFunc2 (args0) (args3 (show ev _ _=(pt g29 0) from Z) (show ev _ _=(pt g30 0) from Z) (show ev _ _=(pt g28 0) from Z))) ?_))
 obtain ⟨⟨r40,r41,r42⟩,hr43,h⟩:=bnd h
 refine WL.f4 (WL.f5 (WL.f4 (WL.f4 ?_)))
 have hq27_0:=hq27_0.mono hle37
 refine We (EO.call4 co26 (f_dump_many_api_Broker_Read_4_Read_1_Read_2_ok (⟨r22.b,r33,r34⟩:T_wire_Reader) (64:Int) _ _ _ _ _ _ hq27_0 (r40,r41,r42) hr43) (args3 Z Z Z)) Z ?_
 rintro _ M44 _ hle45 ⟨_,⟨vq46,cq46,rfl,rfl,hq46⟩,rfl⟩
 have L45:=(hle25.trans hle37).trans hle45
 refine WL.a5 (qu (pt g39 0) (Fa fo29_0 Z Z) (WL.f5 (We (Es vq46 [vq46,Zs,Zs,Zs,(Iv r32)] hq46.cells sz24 Z Z (Ow hq46) Z Z Z) Z ?_)))
 rintro _ _ _ - ⟨rfl,rfl⟩
 refine Ns (qu (.func (.func 29) #[] #[(pt g31 0),(pt g29 0)]) (PO.makeFunc2 (args0) (args2 (show ev _ _=(pt g31 0) from Z) (show ev _ _=(pt g29 0) from Z))) (We (Al ze77 Z) Z ?_))
 rintro _ _ _ - ⟨rfl,g47,rfl,rfl⟩
 refine We (Es (.func (.func 29) #[] #[(pt g31 0),(pt g29 0)]) [(.func (.func 29) #[] #[(pt g31 0),(pt g29 0)])] Z sz77 Z Z Z Z Z Z) Z ?_
 rintro _ _ _ - ⟨rfl,rfl⟩
 refine Ns (qu (pt g26 0) (Lb 3 pl67 Z Z Z) (qu (.func (.func 31) #[] #[(pt g29 0),(pt g30 0),(pt g28 0),(pt g47 0)]) (PO.makeFunc2 (args0) (args4 (show ev _ _=(pt g29 0) from Z) (show ev _ _=(pt g30 0) from Z) (show ev _ _=(pt g28 0) from Z) (show ev _ _=(pt g47 0) from Z))) ?_))
 obtain ⟨⟨r48,r49,r50⟩,hr51,h⟩:=bnd h
 refine WL.f7 (WL.f6 (WL.f6 (WL.f6 (WL.f6 ?_))))
 have hq27_0:=hq27_0.mono hle45
 refine We (EO.call6 co30 (f_dump_many_api_Topic_Read_6_Read_1_Read_2_Read_5_Read_3_ok (⟨r22.b,r41,r42⟩:T_wire_Reader) (256:Int) _ _ _ _ _ _ _ _ hq27_0 (r48,r49,r50) hr51) (args3 Z Z Z)) Z ?_
 rintro _ M52 _ hle53 ⟨_,⟨vq54,cq54,rfl,rfl,hq54⟩,rfl⟩
 have L53:=L45.trans hle53
 refine WL.a7 (qu (pt g39 1) (Fa fo29_1 Z Z) (WL.f7 (We (Es vq54 [vq46,vq54,Zs,Zs,(Iv r32)] hq54.cells sz25 Z Z (Ow hq54) Z Z Z) Z ?_)))
 rintro _ _ _ - ⟨rfl,rfl⟩
 refine Ns (qu (pt g26 0) (Lb 2 pl67 Z Z Z) (qu (.func (.func 34) #[] #[(pt g29 0),(pt g30 0),(pt g28 0)]) (PO.makeFunc2 (args0) (args3 (show ev _ _=(pt g29 0) from Z) (show ev _ _=(pt g30 0) from Z) (show ev _ _=(pt g28 0) from Z))) ?_))
 obtain ⟨⟨r55,r56,r57⟩,hr58,h⟩:=bnd h
 refine WL.f4 (WL.f4 (WL.f4 (WL.f4 ?_)))
 have hq27_0:=hq27_0.mono hle53
 refine We (EO.call4 co33 (f_dump_many_api_Config_Read_7_Read_1_Read_2_ok (⟨r22.b,r49,r50⟩:T_wire_Reader) (1073741824:Int) _ _ _ _ _ _ hq27_0 (r55,r56,r57) hr58) (args3 Z Z Z)) Z ?_
 rintro _ M59 _ hle60 ⟨_,⟨vq61,cq61,rfl,rfl,hq61⟩,rfl⟩
 have L60:=L53.trans hle60
 refine WL.a5 (qu (pt g39 2) (Fa fo29_2 Z Z) (WL.f5 (We (Es vq61 [vq46,vq54,vq61,Zs,(Iv r32)] hq61.cells sz26 Z Z (Ow hq61) Z Z Z) Z ?_)))
 rintro _ _ _ - ⟨rfl,rfl⟩
 refine Ns (qu (pt g26 0) (Lb 2 pl67 Z Z Z) (qu (.func (.func 36) #[] #[(pt g29 0)]) (PO.makeFunc2 (args0) (args1 (show ev _ _=(pt g29 0) from Z))) ?_))
 obtain ⟨⟨r62,r63,r64⟩,hr65,h⟩:=bnd h
 refine WL.f3 (WL.f3 (WL.f3 ?_))
 have hq27_0:=hq27_0.mono hle60
 refine We (EO.call3 co35 (f_dump_many_api_Done_Read_8_Read_1_ok (⟨r22.b,r56,r57⟩:T_wire_Reader) (64:Int) _ _ _ _ _ hq27_0 (r62,r63,r64) hr65) (args3 Z Z Z)) Z ?_
 rintro _ M66 _ hle67 ⟨_,⟨vq68,cq68,rfl,rfl,hq68⟩,rfl⟩
 have L67:=L60.trans hle67
 refine WL.a4 (qu (pt g39 3) (Fa fo29_3 Z Z) (WL.f4 (We (Es vq68 [vq46,vq54,vq61,vq68,(Iv r32)] hq68.cells sz27 Z Z (Ow hq68) Z Z Z) Z ?_)))
 rintro _ _ _ - ⟨rfl,rfl⟩
 refine Nt (Cs (Sr (qu (pt g26 0) (Lb 2 pl67 Z Z Z) ?_)))
 obtain ⟨⟨r69,r70⟩,hr71,h⟩:=bnd h
 refine WL.f1 ?_
 have hq27_0:=hq27_0.mono hle67
 refine We (Cb co37 (f_wire_Reader_End_ok (⟨r22.b,r63,r64⟩:T_wire_Reader) _ _ _ hq27_0 (r69,r70) hr71) (args1 Z)) Z ?_
 rintro _ M72 _ hle73 ⟨_,⟨rfl,rfl⟩,rfl⟩
 have L73:=L67.trans hle73
 refine WL.a1 (qa (GV r69) (Ns (qm (GV r69) (qu (Bv (!r69.isNil)) (PO.errNotNil Tryz.underlying33 Z) (Nt (Ch h Z (fun hb75 h=> ?_) (fun hb75 h=> ?_)))))))
 refine Sr (qu (.agg z29_.toArray) (Bl (cl:=z29_) ze29 fp29 Pz Z) (qm (GV r69) (WL.f11 (We (Sg (v:=(.agg z29_.toArray)) (vl:=z29_) (arr':=z29_) Z sz29 Z Z (onb Z) Z Z Z) Z ?_))))
 rintro _ _ _ - ⟨rfl,rfl⟩
 refine qa (GV r69) (Nt (Cr (Tr (WQ.e0 (WQ.e0 (WQ.e0 (WQ.e0 (WQ.f5 (Dr (WQ.f5 (Dr ?_)))))))))))
 refine WQ.f5 (Dr (WQ.f5 (Dr (WQ.f5 (Dr (WQ.f5 (Dr (WQ.f5 (Dr (WQ.f5 (Dr ?_)))))))))))
 exact WQ.f5 (Dr (WQ.f5 (Dr (WQ.f5 (Dr (Qa (Qb (WQ.f3 (WQ.f4 (Rd h [[],[],[],[]] (fun _ hs=>hs.drop) (resultsLN Z (RVs.cons (Rc (cs:=z29_) 0 ag29 sz29 Z Z Z) (RVs.cons (RV.tmp Z) RVs.nil))) L73 ⟨Zs,[],Zs,[],Zs,[],Zs,[],Z,Z,(OwnS.nil _ _),(OwnS.nil _ _),(OwnS.nil _ _),(OwnS.nil _ _)⟩))))))))))
 refine Ck (Tc (Cs (Sr (qu (.agg #[vq46,vq54,vq61,vq68,(Iv r32)]) (La (cs:=[vq46,vq54,vq61,vq68,(Iv r32)]) 1 ag29 sz29 Z Z Z) ?_))))
 obtain ⟨r80,hr81,h⟩:=bnd h
 refine WL.f4 (WL.f6 (WL.f9 (WL.f10 ?_)))
 have hq46:=hq46.mono (((hle53.trans hle60).trans hle67).trans hle73)
 have hq54:=hq54.mono ((hle60.trans hle67).trans hle73)
 have hq61:=hq61.mono (hle67.trans hle73)
 have hq68:=hq68.mono hle73
 refine We (EO.call4 co14 (Tri.lend hq46.excl fun w0_ H0_ hs0_=>(Tri.lend hq54.excl fun w1_ H1_ hs1_=>(Tri.lend hq61.excl fun w2_ H2_ hs2_=>(Tri.lend hq68.excl fun w3_ H3_ hs3_=>(f_dump_Check_ok (⟨r40,r48,r55,r62,r32⟩:T_api_Image) _ _ _ _ _ ((((hq46.rs hs0_).mono (IM.le_add _ _)).mono (IM.le_add _ _)).mono (IM.le_add _ _)) ((((hq54.mono (IM.le_add _ _)).rs hs1_).mono (IM.le_add _ _)).mono (IM.le_add _ _)) ((((hq61.mono (IM.le_add _ _)).mono (IM.le_add _ _)).rs hs2_).mono (IM.le_add _ _)) ((((hq68.mono (IM.le_add _ _)).mono (IM.le_add _ _)).mono (IM.le_add _ _)).rs hs3_) r80 hr81))))) (args1 Z)) Z ?_
 rintro _ _ _ hle83 ⟨_,⟨Ml94,Hl95,hll96,rfl,rfl,⟨Ml91,Hl92,hll93,rfl,rfl,⟨Ml88,Hl89,hll90,rfl,rfl,⟨Ml85,Hl86,hll87,rfl,rfl,⟨rfl,rfl⟩⟩⟩⟩⟩,rfl⟩
 have L83:=L73.trans hle83
 refine WL.a4 (qa (GV r80) (Ns (qm (GV r80) (qu (Bv (!r80.isNil)) (PO.errNotNil Tryz.underlying33 Z) (Nt (Ch h Z (fun hb97 h=> ?_) (fun hb97 h=> ?_)))))))
 refine Sr (qu (.agg z29_.toArray) (Bl (cl:=z29_) ze29 fp29 Pz Z) (qM v0 (hρ 0) ?_))
 have h0:=h0.mono L83
 refine qu (Iv (a0.length:Int)) (PO.lenS Tryz.underlying31 Z h0.len) (qm (GV r80) ?_)
 obtain ⟨r98,hr99,h⟩:=bnd h
 refine We (Ca co38 (f_fault_Wrap_ok ⟨#[105,109,97,103,101]⟩ (a0.length:Int) r80 _ r98 hr99) (args3 Z Z Z)) Z ?_
 rintro _ M100 _ hle101 ⟨_,⟨rfl,rfl⟩,rfl⟩
 refine WL.a0 (WL.f11 (We (Sg (v:=(.agg z29_.toArray)) (vl:=z29_) (arr':=z29_) Z sz29 Z Z (onb Z) Z Z Z) Z ?_))
 rintro _ _ _ - ⟨rfl,rfl⟩
 refine qa (GV r98) (Nt (Cr (Tr (WQ.e0 (WQ.e0 (WQ.e0 (WQ.e0 (WQ.f5 (Dr (WQ.f5 (Dr ?_)))))))))))
 refine WQ.f5 (Dr (WQ.f5 (Dr (WQ.f5 (Dr (WQ.f5 (Dr (WQ.f5 (Dr (WQ.f5 (Dr ?_)))))))))))
 exact WQ.f5 (Dr (WQ.f5 (Dr (WQ.f5 (Dr (Qa (Qb (WQ.f3 (WQ.f4 (Rd h [[],[],[],[]] (fun _ hs=>hs.drop) (resultsLN Z (RVs.cons (Rc (cs:=z29_) 0 ag29 sz29 Z Z Z) (RVs.cons (RV.tmp Z) RVs.nil))) (L83.trans hle101) ⟨Zs,[],Zs,[],Zs,[],Zs,[],Z,Z,(OwnS.nil _ _),(OwnS.nil _ _),(OwnS.nil _ _),(OwnS.nil _ _)⟩))))))))))
 refine Ck (Tc (Sr (qu (.agg #[vq46,vq54,vq61,vq68,(Iv r32)]) (La (cs:=[vq46,vq54,vq61,vq68,(Iv r32)]) 5 ag29 sz29 Z Z Z) (WL.f11 ?_))))
 have hq46:=hq46.mono hle83
 have hq54:=hq54.mono hle83
 have hq61:=hq61.mono hle83
 have hq68:=hq68.mono hle83
 refine We (Sg (v:=(.agg #[vq46,vq54,vq61,vq68,(Iv r32)])) (vl:=[vq46,vq54,vq61,vq68,(Iv r32)]) (arr':=[vq46,vq54,vq61,vq68,(Iv r32)]) Z sz29 Z Z (onesOf (Oc (Ow hq46) (Oc (Ow hq54) (Oc (Ow hq61) (Oc (Ow hq68) (Oc Z Oz)))))) Z Z Z) Z ?_
 rintro _ _ _ - ⟨rfl,rfl⟩
 refine qa (GV GErr.nil) (Nt (Cr (WQ.f5 (Dr (WQ.f5 (Dr (WQ.f5 (Dr (WQ.f5 (Dr (WQ.f5 ?_)))))))))))
 exact Dr (WQ.f5 (Dr (WQ.f5 (Dr (Rd h [cq46,cq54,cq61,cq68] (fun _ hs=>hs.drop) (resultsLN Z (RVs.cons (Rc (cs:=[vq46,vq54,vq61,vq68,(Iv r32)]) 0 ag29 sz29 Z Z Z) (RVs.cons (RV.tmp Z) RVs.nil))) L83 ⟨vq46,cq46,vq54,cq54,vq61,cq61,vq68,cq68,Z,Z,hq46,hq54,hq61,hq68⟩)))))
noncomputable def f_api_Fault_Unwrap (a0:T_api_Fault):Option GErr:=
 (some a0.Err)
def f_api_Fault_Unwrap_post (a0:T_api_Fault):GErr→Value→IM→HL→Prop:=
 fun(r0:GErr) (v:Value) (M':IM) (H':HL)=>(GV r0)=v∧H'=[]
theorem f_api_Fault_Unwrap_ok (a0:T_api_Fault) (M:IM) (res:GErr) (h:f_api_Fault_Unwrap a0=some res):
 Tri Tryz.prog 126 #[(a104_ a0)] M [] (f_api_Fault_Unwrap_post a0 res):=by
 unfold f_api_Fault_Unwrap at h
 refine Te Tryz.func126 Z Z ?_
 intro F ρ hρ
 refine Sr (We (EO.box (cs:=(l104 a0).toArray) (congrArg Value.cells (asE (a104_ a0) (hρ 0)))) Z ?_)
 rintro _ _ _ - ⟨rfl,g21,rfl,rfl⟩
 exact qa (GV GErr.nil) (Ns (qu (pt g21 2) (Fa fo104_2 Z Z) (qu (GV a0.Err) (Lb 0 pl33 Z Z Z) (qa (GV a0.Err) (Nt (Cr (Dr (Rf h [] Z (Rs Z Z) lr ⟨Z,Z⟩))))))))
noncomputable def f_errors_is_l0 (a1:Int) (s_:GErr):Option (GErr⊕Bool):=
 match s_ with
 |x22=>
 (match x22 with | .nil=>(some (Sum.inr false)) | .code n24=>(if(decide (n24=a1))=true then(some (Sum.inr true))else(some (Sum.inr false))) | .fault o25 a26 e27=>((f_api_Fault_Unwrap (⟨o25,a26,e27⟩:T_api_Fault)).bind fun r30=>(if r30.isNil=true then(some (Sum.inr false))else(some (Sum.inl r30)))) | .other b28=>(some (Sum.inr false)))
noncomputable def f_errors_is (a0:GErr) (a1:Int):Option Bool:=
 ((iter (f_errors_is_l0 a1) a0).bind (fun(x23:Bool)=>(some x23)))
def f_errors_is_post (a0:GErr) (a1:Int):Bool→Value→IM→HL→Prop:=
 fun(r0:Bool) (v:Value) (M':IM) (H':HL)=>(.bool r0)=v∧H'=[]
theorem f_errors_is_ok (a0:GErr) (a1:Int) (M:IM) (res:Bool) (h:f_errors_is a0 a1=some res):
 Tri Tryz.prog 74 #[(GV a0),(GV (GErr.code a1)),(Bv true)] M [] (f_errors_is_post a0 a1 res):=by
 unfold f_errors_is at h
 refine Te Tryz.func74 Z Z ?_
 intro F ρ hρ
 refine Sr (qa (Bv false) (Nt (Bk ?_)))
 obtain ⟨e21,he21,hK21⟩:=bnd h
 clear h
 refine WC.loop he21 (fun(x22:GErr) ρ' M' H'=>M.le M'∧F=H'∧ρ' 0=(GV x22)∧ρ' 1=(GV (GErr.code a1))∧ρ' 2=(Bv true)) ?_ ?_
 exact⟨lr,Z,(hρ 0),(hρ 1),(hρ 2)⟩
 rintro x22 o21 ρ21 M21 H21 h ⟨hle21,rfl,hs21_0,hs21_1,hs21_2⟩
 unfold f_errors_is_l0 at h
 refine Bk (Cs (Sr (qM (Bv true) hs21_2 (qm (Bv true) (On 15 Z Z Z (qM (GV x22) hs21_0 (On 15 Z Z Z (qM (GV (GErr.code a1)) hs21_1 (On 15 Z Z Z ?_)))))))))
 rcases x22 with _ |n24 |⟨o25,a26,e27⟩ |b28
 refine qu (Bv false) (PO.nilIfaceNe Tryz.underlying33 (show ev _ _= .nilIface from Z) (show ev _ _=(.iface 40 (Iv a1)) from Z)) (qu (Bv false) (Pt Z Z Z) (Nt (WC.condF (b:=false) Z Z (Ck (Tc (Cs (Sr (qM (GV GErr.nil) hs21_0 (qu (.tuple #[.nilIface,(Bv false)]) (PO.asserts (show ev _ _= .nilIface from Z) (run_assert_nil zo137 Tryz.underlying137)) (qm (.tuple #[.nilIface,(Bv false)]) (qu .nilIface (Xt Z Z) ?_)))))))))))
 refine qu (Bv false) (Xt Z Z) (qa .nilIface (qa (Bv false) (Ns (qm (Bv false) (qm (Bv false) ?_)))))
 iterate 3 refine Of 26 Z Z Z Z ?_
 refine qu (Bv false) (Pf Z Z Z) (Nt (WC.condF (b:=false) Z Z (Ck (Tc (Sr (qM (GV GErr.nil) hs21_0 (Nt (Bk (Sr (qu (.tuple #[.nilIface,(Bv false)]) (PO.asserts (show ev _ _= .nilIface from Z) (run_assert_nil zo140 Tryz.underlying140)) (qu (Bv false) (Xt Z Z) ?_)))))))))))
 refine qu .nilIface (Xt Z Z) (Nt (WC.condF (b:=false) Z Z (Sr (qu (.tuple #[.nilIface,(Bv false)]) (PO.asserts (show ev _ _= .nilIface from Z) (run_assert_nil zo141 Tryz.underlying141)) (qu (Bv false) (Xt Z Z) (qu .nilIface (Xt Z Z) (Nt (WC.condF (b:=false) Z Z (Sr (qa (GV GErr.nil) (Ns ?_)))))))))))
 refine qa (Bv false) (Nt (Cr (Br (Br (WQ.leaveR false (oi h).symm (fun heq21=> ?_))))))
 subst heq21
 have h:=hK21
 exact Br (Rf h [] Z (Rs Z Z) hle21 ⟨Z,Z⟩)
 refine qu (Bv (decide (n24=a1))) (PO.ifaceInt Tryz.underlying33 Tryz.underlying40 cm40 (show ev _ _=(.iface 40 (Iv n24)) from Z) (show ev _ _=(.iface 40 (Iv a1)) from Z)) (qu (Bv (decide (n24=a1))) (Pt Z Z Z) (Nt (Ch h Z (fun hb29 h=> ?_) (fun hb29 h=> ?_))))
 refine Sr (qa (Bv true) (Nt (Cr (Tr (Br (WQ.leaveR true (oi h).symm (fun heq21=> ?_)))))))
 subst heq21
 have h:=hK21
 exact Br (Rf h [] Z (Rs Z Z) hle21 ⟨Z,Z⟩)
 refine Ck (Tc (Cs (Sr (qM (GV (GErr.code n24)) hs21_0 (qu (.tuple #[.nilIface,(Bv false)]) (PO.asserts (show ev _ _=(.iface 40 (Iv n24)) from Z) (la40_137 _ _)) (qm (.tuple #[.nilIface,(Bv false)]) (qu .nilIface (Xt Z Z) (qu (Bv false) (Xt Z Z) (qa .nilIface (qa (Bv false) (Ns ?_)))))))))))
 refine qm (Bv false) (qm (Bv false) ?_)
 iterate 3 refine Of 26 Z Z Z Z ?_
 refine qu (Bv false) (Pf Z Z Z) (Nt (WC.condF (b:=false) Z Z (Ck (Tc (Sr (qM (GV (GErr.code n24)) hs21_0 (Nt (Bk (Sr (qu (.tuple #[.nilIface,(Bv false)]) (PO.asserts (show ev _ _=(.iface 40 (Iv n24)) from Z) (la40_140 _ _)) (qu (Bv false) (Xt Z Z) ?_)))))))))))
 refine qu .nilIface (Xt Z Z) (Nt (WC.condF (b:=false) Z Z (Sr (qu (.tuple #[.nilIface,(Bv false)]) (PO.asserts (show ev _ _=(.iface 40 (Iv n24)) from Z) (la40_141 _ _)) (qu (Bv false) (Xt Z Z) (qu .nilIface (Xt Z Z) (Nt (WC.condF (b:=false) Z Z (Sr (qa (GV (GErr.code n24)) (Ns ?_)))))))))))
 refine qa (Bv false) (Nt (Cr (Br (Br (WQ.leaveR false (oi h).symm (fun heq21=> ?_))))))
 subst heq21
 have h:=hK21
 exact Br (Rf h [] Z (Rs Z Z) hle21 ⟨Z,Z⟩)
 refine qu (Bv false) (PO.ifaceNe Tryz.underlying33 (show ev _ _=(.iface 104 (.agg #[.string o25, .int .i64 a26,GV e27])) from Z) (show ev _ _=(.iface 40 (Iv a1)) from Z) Z) (qu (Bv false) (Pt Z Z Z) (Nt (WC.condF (b:=false) Z Z (Ck (Tc (Cs (Sr (qM (GV (GErr.fault o25 a26 e27)) hs21_0 (qu (.tuple #[.nilIface,(Bv false)]) (PO.asserts (show ev _ _=(.iface 104 (.agg #[.string o25, .int .i64 a26,GV e27])) from Z) (la104_137 _ _)) (qm (.tuple #[.nilIface,(Bv false)]) (qu .nilIface (Xt Z Z) ?_)))))))))))
 refine qu (Bv false) (Xt Z Z) (qa .nilIface (qa (Bv false) (Ns (qm (Bv false) (qm (Bv false) ?_)))))
 iterate 3 refine Of 26 Z Z Z Z ?_
 refine qu (Bv false) (Pf Z Z Z) (Nt (WC.condF (b:=false) Z Z (Ck (Tc (Sr (qM (GV (GErr.fault o25 a26 e27)) hs21_0 (Nt (Bk (Sr (qu (.tuple #[(GV (GErr.fault o25 a26 e27)),(Bv true)]) (PO.asserts (show ev _ _=(.iface 104 (.agg #[.string o25, .int .i64 a26,GV e27])) from Z) (ha104_140 _ _)) (qu (Bv true) (Xt Z Z) ?_)))))))))))
 refine qu (GV (GErr.fault o25 a26 e27)) (Xt Z Z) (Nt (WC.condT (b:=true) Z Z (Sr (qa (GV (GErr.fault o25 a26 e27)) (Ns (qm (GV (GErr.fault o25 a26 e27)) ?_))))))
 obtain ⟨r30,hr31,h⟩:=bnd h
 refine We (EO.invT (show ev _ _=(.iface 104 (.agg #[.string o25, .int .i64 a26,GV e27])) from Z) (me104_Unwrap _) co126 inv0 (f_api_Fault_Unwrap_ok (⟨o25,a26,e27⟩:T_api_Fault) _ r30 hr31)) Z ?_
 rintro _ M32 _ hle33 ⟨_,⟨rfl,rfl⟩,rfl⟩
 refine WL.a0 (qa (GV r30) (Ns (qm (GV r30) (qu (Bv r30.isNil) (PO.errNil Tryz.underlying33 Z) (Nt (Ch h Z (fun hb35 h=> ?_) (fun hb35 h=> ?_)))))))
 refine Sr (qa (Bv false) (Nt (Cr (Br (Br (WQ.leaveR false (oi h).symm (fun heq21=> ?_)))))))
 subst heq21
 have h:=hK21
 exact Br (Rf h [] Z (Rs Z Z) (hle21.trans hle33) ⟨Z,Z⟩)
 exact Ck (Bn (Bn (WQ.again r30 (oi h).symm ⟨(hle21.trans hle33),Z,Z,hs21_1,hs21_2⟩)))
 refine qu (Bv false) (PO.ifaceNe Tryz.underlying33 (show ev _ _=(.iface 0 (.pointer (some b28))) from Z) (show ev _ _=(.iface 40 (Iv a1)) from Z) Z) (qu (Bv false) (Pt Z Z Z) (Nt (WC.condF (b:=false) Z Z (Ck (Tc (Cs (Sr (qM (GV (GErr.other b28)) hs21_0 (qu (.tuple #[.nilIface,(Bv false)]) (PO.asserts (show ev _ _=(.iface 0 (.pointer (some b28))) from Z) (la0_137 _ _)) (qm (.tuple #[.nilIface,(Bv false)]) (qu .nilIface (Xt Z Z) ?_)))))))))))
 refine qu (Bv false) (Xt Z Z) (qa .nilIface (qa (Bv false) (Ns (qm (Bv false) (qm (Bv false) ?_)))))
 iterate 3 refine Of 26 Z Z Z Z ?_
 refine qu (Bv false) (Pf Z Z Z) (Nt (WC.condF (b:=false) Z Z (Ck (Tc (Sr (qM (GV (GErr.other b28)) hs21_0 (Nt (Bk (Sr (qu (.tuple #[.nilIface,(Bv false)]) (PO.asserts (show ev _ _=(.iface 0 (.pointer (some b28))) from Z) (la0_140 _ _)) (qu (Bv false) (Xt Z Z) ?_)))))))))))
 refine qu .nilIface (Xt Z Z) (Nt (WC.condF (b:=false) Z Z (Sr (qu (.tuple #[.nilIface,(Bv false)]) (PO.asserts (show ev _ _=(.iface 0 (.pointer (some b28))) from Z) (la0_141 _ _)) (qu (Bv false) (Xt Z Z) (qu .nilIface (Xt Z Z) (Nt (WC.condF (b:=false) Z Z (Sr (qa (GV (GErr.other b28)) (Ns ?_)))))))))))
 refine qa (Bv false) (Nt (Cr (Br (Br (WQ.leaveR false (oi h).symm (fun heq21=> ?_))))))
 subst heq21
 have h:=hK21
 exact Br (Rf h [] Z (Rs Z Z) hle21 ⟨Z,Z⟩)
noncomputable def f_errors_Is (a0:GErr) (a1:Int):Option Bool:=
 (if a0.isNil=true then(match a0 with | .nil=>(some false) | .code n22=>(some (decide (n22=a1))) | .fault o23 a24 e25=>(some false) | .other b26=>(some false))else((f_errors_is a0 a1).bind fun r27=>(some r27)))
def f_errors_Is_post (a0:GErr) (a1:Int):Bool→Value→IM→HL→Prop:=
 fun(r0:Bool) (v:Value) (M':IM) (H':HL)=>(.bool r0)=v∧H'=[]
theorem f_errors_Is_ok (a0:GErr) (a1:Int) (M:IM) (res:Bool) (h:f_errors_Is a0 a1=some res):
 Tri Tryz.prog 48 #[(GV a0),(GV (GErr.code a1))] M [] (f_errors_Is_post a0 a1 res):=by
 unfold f_errors_Is at h
 refine Te Tryz.func48 Z Z ?_
 intro F ρ hρ
 refine Sr (qa (Bv false) (Nt (Cs (Sr (qM (GV a0) (hρ 0) (qu (Bv a0.isNil) (PO.errNil Tryz.underlying33 Z) (qm (Bv a0.isNil) ?_)))))))
 rcases Bi h with⟨hb21,h⟩ |⟨hb21,h⟩
 iterate 2 refine Of 8 Z Z hb21 Z ?_
 refine qu (Bv true) (Pt Z hb21 Z) (Nt (WC.condT (b:=true) Z Z (Sr (qM (GV a0) (hρ 0) (qM (GV (GErr.code a1)) (hρ 1) ?_)))))
 rcases a0 with _ |n22 |⟨o23,a24,e25⟩ |b26
 exact qu (Bv false) (PO.nilIfaceNe Tryz.underlying33 (show ev _ _= .nilIface from Z) (show ev _ _=(.iface 40 (Iv a1)) from Z)) (qa (Bv false) (Nt (Cr (Tr (Rf h [] Z (Rs Z Z) lr ⟨Z,Z⟩)))))
 exact qu (Bv (decide (n22=a1))) (PO.ifaceInt Tryz.underlying33 Tryz.underlying40 cm40 (show ev _ _=(.iface 40 (Iv n22)) from Z) (show ev _ _=(.iface 40 (Iv a1)) from Z)) (qa (Bv (decide (n22=a1))) (Nt (Cr (Tr (Rf h [] Z (Rs Z Z) lr ⟨Z,Z⟩)))))
 exact qu (Bv false) (PO.ifaceNe Tryz.underlying33 (show ev _ _=(.iface 104 (.agg #[.string o23, .int .i64 a24,GV e25])) from Z) (show ev _ _=(.iface 40 (Iv a1)) from Z) Z) (qa (Bv false) (Nt (Cr (Tr (Rf h [] Z (Rs Z Z) lr ⟨Z,Z⟩)))))
 exact qu (Bv false) (PO.ifaceNe Tryz.underlying33 (show ev _ _=(.iface 0 (.pointer (some b26))) from Z) (show ev _ _=(.iface 40 (Iv a1)) from Z) Z) (qa (Bv false) (Nt (Cr (Tr (Rf h [] Z (Rs Z Z) lr ⟨Z,Z⟩)))))
 refine On 8 Z Z hb21 (qM (GV (GErr.code a1)) (hρ 1) (qo 8 hb21 (Bv false) (PO.errNil (tc:=40) (tf:=104) (tp:=0) (e:=GErr.code a1) Tryz.underlying33 Z) (qu (Bv false) (Pf Z hb21 Z) (Nt (WC.condF (b:=false) Z Z (Ck (Tc (Sr (qM (GV (GErr.code a1)) (hρ 1) (We (EO.extP xt73 (args1 (show ev _ _=(.iface 40 (Iv a1)) from Z)) (ty40 _)) Z ?_))))))))))
 rintro _ _ _ - ⟨rfl,rfl,rfl⟩
 refine We (EO.invE (show ev _ _=(.iface 135 (.agg #[.pointer (some ⟨0,40,none⟩)])) from Z) (mm_Comparable (pt 0 40)) xt130 inv0 mr_Comparable_40) Z ?_
 rintro _ _ _ - ⟨rfl,rfl,rfl⟩
 refine qa (Bv true) (Ns (qM (GV a0) (hρ 0) (qM (GV (GErr.code a1)) (hρ 1) (qm (Bv true) ?_))))
 obtain ⟨r27,hr28,h⟩:=bnd h
 refine We (Ca co74 (f_errors_is_ok a0 a1 _ r27 hr28) (args3 Z Z Z)) Z ?_
 rintro _ M29 _ hle30 ⟨_,⟨rfl,rfl⟩,rfl⟩
 exact WL.a0 (qa (Bv r27) (Nt (Cr (Rf h [] Z (Rs Z Z) hle30 ⟨Z,Z⟩))))
noncomputable def f_fault_Is (a0:GErr) (a1:Int):Option Bool:=
 ((f_errors_Is a0 a1).bind fun r21=>(some r21))
def f_fault_Is_post (a0:GErr) (a1:Int):Bool→Value→IM→HL→Prop:=
 fun(r0:Bool) (v:Value) (M':IM) (H':HL)=>(.bool r0)=v∧H'=[]
theorem f_fault_Is_ok (a0:GErr) (a1:Int) (M:IM) (res:Bool) (h:f_fault_Is a0 a1=some res):
 Tri Tryz.prog 13 #[(GV a0),(Iv a1)] M [] (f_fault_Is_post a0 a1 res):=by
 unfold f_fault_Is at h
 refine Te Tryz.func13 Z Z ?_
 intro F ρ hρ
 refine Sr (qa (Bv false) (Ns (qM (GV a0) (hρ 0) (qM (Iv a1) (hρ 1) (qu (GV (GErr.code a1)) (PO.makeInterface cc40 Z) ?_)))))
 obtain ⟨r21,hr22,h⟩:=bnd h
 refine We (Ca co48 (f_errors_Is_ok a0 a1 _ r21 hr22) (args2 Z Z)) Z ?_
 rintro _ M23 _ hle24 ⟨_,⟨rfl,rfl⟩,rfl⟩
 exact WL.a0 (qa (Bv r21) (Nt (Cr (Rf h [] Z (Rs Z Z) hle24 ⟨Z,Z⟩))))
noncomputable def f_law16_works:Option Bool:=
 ((f_law15_First).bind fun r21=>((f_law15_Made r21).bind fun r28=>((f_dump_Put r28).bind fun(r34,r35)=>((f_dump_Read r34).bind fun(r43,r44)=>((f_dump_Read []).bind fun(r51,r52)=>(((if r35.isNil=true then(if r44.isNil=true then(if(decide ((r43.Topics.length:Int)=(1:Int)))=true then(grd (0≤(0:Int)∧(0:Int)<r43.Topics.length) (if(decide ((((rd r43.Topics (0:Int)).Parts).length:Int)=(1:Int)))=true then(grd (0≤(0:Int)∧(0:Int)<r43.Topics.length) (grd (0≤(0:Int)∧(0:Int)<((rd r43.Topics (0:Int)).Parts).length) (if(decide (((rd ((rd r43.Topics (0:Int)).Parts) (0:Int)).Leader)=(1:Int)))=true then((f_fault_Is r52 (3:Int)).bind fun r87=>(if r87=true then((f_dump_Check (⟨r28.Brokers,r28.Topics,r28.Configs,r28.Done,(0:Int)⟩:T_api_Image)).bind fun r93=>((f_fault_Is r93 (2:Int)).bind fun r98=>(if r98=true then((f_dump_Check r43).bind fun r104=>(some r104.isNil))else(some false))))else(some false)))else(some false))))else(some false)))else(some false))else(some false))else(some false)):Option Bool).bind fun x59=>(some x59)))))))
def f_law16_works_post:Bool→Value→IM→HL→Prop:=
 fun(r0:Bool) (v:Value) (M':IM) (H':HL)=>(.bool r0)=v∧H'=[]
theorem f_law16_works_ok (M:IM) (res:Bool) (h:f_law16_works=some res):
 Tri Tryz.prog 6 #[] M [] (f_law16_works_post res):=by
 unfold f_law16_works at h
 refine Te Tryz.func6 Z Z ?_
 intro F ρ hρ
 refine Sr (qa (Bv false) (Ns ?_))
 obtain ⟨r21,hr22,h⟩:=bnd h
 refine We (Ca co12 (f_law15_First_ok _ r21 hr22) (args0)) Z ?_
 rintro _ M23 _ hle24 ⟨_,⟨vq25,cq25,rfl,rfl,hq25⟩,rfl⟩
 refine WL.a1 (WL.know (fun _ hs=>hq25.rs hs) (fun hf27=> ?_))
 refine WL.freeze (fun hle26=> ?_)
 obtain ⟨r28,hr29,h⟩:=bnd h
 refine We (Ca co7 (f_law15_Made_ok r21 _ _ hf27 r28 hr29) (args1 Z)) Z ?_
 rintro _ M30 _ hle31 ⟨_,⟨vq32_0,vq32_1,vq32_2,vq32_3,rfl,rfl,hq32_0,hq32_1,hq32_2,hq32_3⟩,rfl⟩
 refine WL.a0 (We (Al ze29 Z) Z ?_)
 rintro _ _ _ - ⟨rfl,g33,rfl,rfl⟩
 refine We (Sg (v:=(a29_ r28 vq32_0 vq32_1 vq32_2 vq32_3)) (vl:=(l29 r28 vq32_0 vq32_1 vq32_2 vq32_3)) (arr':=(l29 r28 vq32_0 vq32_1 vq32_2 vq32_3)) Z sz29 Z Z (onesOf (Oc (RS.one hq32_0) (Oc (RS.one hq32_1) (Oc (RS.one hq32_2) (Oc (RS.one hq32_3) (Oc Z Oz)))))) Z Z Z) Z ?_
 rintro _ _ _ - ⟨rfl,rfl⟩
 refine Ns (qu (a29_ r28 vq32_0 vq32_1 vq32_2 vq32_3) (La (cs:=(l29 r28 vq32_0 vq32_1 vq32_2 vq32_3)) 0 ag29 sz29 Z Z Z) ?_)
 obtain ⟨⟨r34,r35⟩,hr36,h⟩:=bnd h
 refine We (Ca co8 (f_dump_Put_ok r28 _ _ _ _ _ hq32_0 hq32_1 hq32_2 hq32_3 (r34,r35) hr36) (args1 Z)) Z ?_
 rintro _ M37 _ hle38 ⟨_,⟨vq39,cq39,rfl,rfl,hq39⟩,rfl⟩
 refine WL.a1 (qm (.tuple #[vq39,(GV r35)]) (qu vq39 (Xt Z Z) (qu (GV r35) (Xt Z Z) (qa vq39 (qa (GV r35) (Ns (qm vq39 (WL.know (fun _ hs=>hq39.rs hs) (fun hf42=> ?_)))))))))
 refine WL.freeze (fun hle41=> ?_)
 obtain ⟨⟨r43,r44⟩,hr45,h⟩:=bnd h
 refine We (Ca co9 (f_dump_Read_ok r34 _ _ hf42 (r43,r44) hr45) (args1 Z)) Z ?_
 rintro _ M46 _ hle47 ⟨_,⟨vq48_0,cq48_0,vq48_1,cq48_1,vq48_2,cq48_2,vq48_3,cq48_3,rfl,rfl,hq48_0,hq48_1,hq48_2,hq48_3⟩,rfl⟩
 have L47:=(hle38.trans hle41).trans hle47
 refine WL.a4 (qm (.tuple #[(a29_ r43 vq48_0 vq48_1 vq48_2 vq48_3),(GV r44)]) (qu (a29_ r43 vq48_0 vq48_1 vq48_2 vq48_3) (Xt Z Z) (qu (GV r44) (Xt Z Z) (We (Al ze29 Z) Z ?_))))
 rintro _ _ _ - ⟨rfl,g50,rfl,rfl⟩
 refine We (Sg (v:=(a29_ r43 vq48_0 vq48_1 vq48_2 vq48_3)) (vl:=(l29 r43 vq48_0 vq48_1 vq48_2 vq48_3)) (arr':=(l29 r43 vq48_0 vq48_1 vq48_2 vq48_3)) Z sz29 Z Z (onesOf (Oc (Ow hq48_0) (Oc (Ow hq48_1) (Oc (Ow hq48_2) (Oc (Ow hq48_3) (Oc Z Oz)))))) Z Z Z) Z ?_
 rintro _ _ _ - ⟨rfl,rfl⟩
 refine qa (GV r44) (Ns ?_)
 obtain ⟨⟨r51,r52⟩,hr53,h⟩:=bnd h
 refine We (Ca co9 (f_dump_Read_ok [] _ _ (RS.nil _ _) (r51,r52) hr53) (args1 Z)) Z ?_
 rintro _ M54 _ hle55 ⟨_,⟨vq56_0,cq56_0,vq56_1,cq56_1,vq56_2,cq56_2,vq56_3,cq56_3,rfl,rfl,hq56_0,hq56_1,hq56_2,hq56_3⟩,rfl⟩
 have L55:=L47.trans hle55
 refine WL.a4 (qm (.tuple #[(a29_ r51 vq56_0 vq56_1 vq56_2 vq56_3),(GV r52)]) (qu (a29_ r51 vq56_0 vq56_1 vq56_2 vq56_3) (Xt Z Z) (qu (GV r52) (Xt Z Z) (We (Al ze29 Z) Z ?_))))
 rintro _ _ _ - ⟨rfl,g58,rfl,rfl⟩
 refine We (Sg (v:=(a29_ r51 vq56_0 vq56_1 vq56_2 vq56_3)) (vl:=(l29 r51 vq56_0 vq56_1 vq56_2 vq56_3)) (arr':=(l29 r51 vq56_0 vq56_1 vq56_2 vq56_3)) Z sz29 Z Z (onesOf (Oc (Ow hq56_0) (Oc (Ow hq56_1) (Oc (Ow hq56_2) (Oc (Ow hq56_3) (Oc Z Oz)))))) Z Z Z) Z ?_
 rintro _ _ _ - ⟨rfl,rfl⟩
 refine qa (GV r52) (Ns (qu (pt g33 4) (Fa fo29_4 Z Z) (WL.f10 (We (Es (Iv 0) [vq32_0,vq32_1,vq32_2,vq32_3,(Iv 0)] Z sz3 Z Z Z Z Z Z) Z ?_))))
 rintro _ _ _ - ⟨rfl,rfl⟩
 refine Nt ?_
 obtain ⟨x59,hj60,h⟩:=bnd h
 refine Jf (fun(x59:Bool) ρ' M' H'=>M54.le M'∧[(g33, .cells #[vq32_0,vq32_1,vq32_2,vq32_3,(Iv 0)] 29 (0,0))]::[(g58, .cells (l29 r51 vq56_0 vq56_1 vq56_2 vq56_3).toArray 29 (0,0))]::[(g50, .cells (l29 r43 vq48_0 vq48_1 vq48_2 vq48_3).toArray 29 (0,0))]::cq56_0::cq56_1::cq56_2::cq56_3::cq48_0::cq48_1::cq48_2::cq48_3::F=H'∧ρ' 0=(Bv x59)) x59 ?_ ?_
 have h:=hj60
 refine Cg (qm (GV r35) (qu (Bv r35.isNil) (PO.errNil Tryz.underlying33 Z) (qm (Bv r35.isNil) ?_)))
 rcases Bi h with⟨hb61,h⟩ |⟨hb61,h⟩
 refine On 27 Z Z hb61 (qm (GV r44) (qo 27 hb61 (Bv r44.isNil) (PO.errNil Tryz.underlying33 Z) (qu (Bv r44.isNil) (Pt Z hb61 Z) (qm (Bv r44.isNil) ?_))))
 rcases Bi h with⟨hb62,h⟩ |⟨hb62,h⟩
 refine qo 31 hb62 (pt g50 1) (Fa fo29_1 Z Z) (qo 31 hb62 vq48_1 (Lb 6 pl25 Z Z Z) (On 31 Z Z hb62 ?_))
 have hq48_1:=hq48_1.mono hle55
 refine qu (Iv (r43.Topics.length:Int)) (PO.lenS Tryz.underlying25 Z hq48_1.len) (qo 31 hb62 (Bv (decide ((r43.Topics.length:Int)=(1:Int)))) (PO.eql Z Z) (qu (Bv (decide ((r43.Topics.length:Int)=(1:Int)))) (Pt Z hb62 Z) (qm (Bv (decide ((r43.Topics.length:Int)=(1:Int)))) ?_)))
 rcases Bi h with⟨hb63,h⟩ |⟨hb63,h⟩
 refine qo 37 hb63 (pt g50 1) (Fa fo29_1 Z Z) (qo 37 hb63 vq48_1 (Lb 6 pl25 Z Z Z) (On 37 Z Z hb63 ?_))
 obtain ⟨hg64,h⟩:=grd_i h
 obtain ⟨p65,cs66,hat67,hrc68,hhas69⟩:=hq48_1.at hg64.1 hg64.2
 obtain ⟨vw70_2,rfl,hw70_2⟩:=kd_api_Topic_open hrc68
 refine qu (.pointer (some p65)) (PO.indexAddr (n:=r43.Topics.length) Tryz.underlying25 sz52 Z Z hg64.1 hg64.2 hat67) (qo 37 hb63 (.pointer (some (p65.add 2))) (Fa fo52_2 Z Z) (qo 37 hb63 vw70_2 (PO.loadC 8 pl50 Z Z (hhas69 2 _ Z)) (qo 37 hb63 (Iv (((rd r43.Topics (0:Int)).Parts).length:Int)) (PO.lenS Tryz.underlying50 Z hw70_2.len) (qo 37 hb63 (Bv (decide ((((rd r43.Topics (0:Int)).Parts).length:Int)=(1:Int)))) (PO.eql Z Z) (qu (Bv (decide ((((rd r43.Topics (0:Int)).Parts).length:Int)=(1:Int)))) (Pt Z hb63 Z) (qm (Bv (decide ((((rd r43.Topics (0:Int)).Parts).length:Int)=(1:Int)))) ?_))))))
 rcases Bi h with⟨hb71,h⟩ |⟨hb71,h⟩
 refine qo 46 hb71 (pt g50 1) (Fa fo29_1 Z Z) (qo 46 hb71 vq48_1 (Lb 6 pl25 Z Z Z) (On 46 Z Z hb71 ?_))
 obtain ⟨hg72,h⟩:=grd_i h
 obtain ⟨p73,cs74,hat75,hrc76,hhas77⟩:=hq48_1.at hg72.1 hg72.2
 obtain ⟨vw78_2,rfl,hw78_2⟩:=kd_api_Topic_open hrc76
 refine qu (.pointer (some p73)) (PO.indexAddr (n:=r43.Topics.length) Tryz.underlying25 sz52 Z Z hg72.1 hg72.2 hat75) (qo 46 hb71 (.pointer (some (p73.add 2))) (Fa fo52_2 Z Z) (qo 46 hb71 vw78_2 (PO.loadC 8 pl50 Z Z (hhas77 2 _ Z)) (On 46 Z Z hb71 ?_)))
 obtain ⟨hg79,h⟩:=grd_i h
 obtain ⟨p80,cs81,hat82,hrc83,hhas84⟩:=hw78_2.at hg79.1 hg79.2 (by decide)
 obtain ⟨vw85_0,vw85_1,vw85_4,vw85_5,rfl,hw85_0,hw85_1,hw85_4,hw85_5⟩:=kd_api_Part_open hrc83
 refine qu (.pointer (some p80)) (PO.indexAddr (n:=((rd r43.Topics (0:Int)).Parts).length) Tryz.underlying50 sz54 Z Z hg79.1 hg79.2 hat82) (qo 46 hb71 (.pointer (some (p80.add 2))) (Fa fo54_2 Z Z) (qo 46 hb71 (Iv ((rd ((rd r43.Topics (0:Int)).Parts) (0:Int)).Leader)) (PO.loadM pl3 Z (hhas84 2 _ Z)) (qo 46 hb71 (Bv (decide (((rd ((rd r43.Topics (0:Int)).Parts) (0:Int)).Leader)=1))) (PO.eql Z Z) (qu (Bv (decide (((rd ((rd r43.Topics (0:Int)).Parts) (0:Int)).Leader)=1))) (Pt Z hb71 Z) (qm (Bv (decide (((rd ((rd r43.Topics (0:Int)).Parts) (0:Int)).Leader)=1))) ?_)))))
 rcases Bi h with⟨hb86,h⟩ |⟨hb86,h⟩
 refine On 57 Z Z hb86 (qm (GV r52) (On 57 Z Z hb86 ?_))
 obtain ⟨r87,hr88,h⟩:=bnd h
 refine We (Ca co13 (f_fault_Is_ok r52 (3:Int) _ r87 hr88) (args2 Z Z)) Z ?_
 rintro _ M89 _ hle90 ⟨_,⟨rfl,rfl⟩,rfl⟩
 have L90:=L55.trans hle90
 refine WL.a0 (qu (Bv r87) (Pt Z hb86 Z) (qm (Bv r87) ?_))
 rcases Bi h with⟨hb92,h⟩ |⟨hb92,h⟩
 refine qo 61 hb92 (.agg #[vq32_0,vq32_1,vq32_2,vq32_3,(Iv 0)]) (La (cs:=[vq32_0,vq32_1,vq32_2,vq32_3,(Iv 0)]) 0 ag29 sz29 Z Z Z) (On 61 Z Z hb92 ?_)
 obtain ⟨r93,hr94,h⟩:=bnd h
 have hq32_0:=hq32_0.mono L90
 have hq32_1:=hq32_1.mono L90
 have hq32_2:=hq32_2.mono L90
 have hq32_3:=hq32_3.mono L90
 refine We (Ca co14 (f_dump_Check_ok (⟨r28.Brokers,r28.Topics,r28.Configs,r28.Done,(0:Int)⟩:T_api_Image) _ _ _ _ _ hq32_0 hq32_1 hq32_2 hq32_3 r93 hr94) (args1 Z)) Z ?_
 rintro _ M95 _ hle96 ⟨_,⟨rfl,rfl⟩,rfl⟩
 refine WL.a0 (On 61 Z Z hb92 ?_)
 obtain ⟨r98,hr99,h⟩:=bnd h
 refine We (Ca co13 (f_fault_Is_ok r93 (2:Int) _ r98 hr99) (args2 Z Z)) Z ?_
 rintro _ M100 _ hle101 ⟨_,⟨rfl,rfl⟩,rfl⟩
 have L101:=((hle55.trans hle90).trans hle96).trans hle101
 refine WL.a0 (qu (Bv r98) (Pt Z hb92 Z) (qm (Bv r98) ?_))
 rcases Bi h with⟨hb103,h⟩ |⟨hb103,h⟩
 refine qo 66 hb103 (a29_ r43 vq48_0 vq48_1 vq48_2 vq48_3) (La (cs:=(l29 r43 vq48_0 vq48_1 vq48_2 vq48_3)) 6 ag29 sz29 Z Z Z) (On 66 Z Z hb103 ?_)
 obtain ⟨r104,hr105,h⟩:=bnd h
 refine WL.f10 (WL.f10 (WL.f10 (WL.f10 ?_)))
 have hq48_0:=hq48_0.mono L101
 have hq48_1:=hq48_1.mono ((hle90.trans hle96).trans hle101)
 have hq48_2:=hq48_2.mono L101
 have hq48_3:=hq48_3.mono L101
 refine We (EO.call4 co14 (Tri.lend hq48_0.excl fun w0_ H0_ hs0_=>(Tri.lend hq48_1.excl fun w1_ H1_ hs1_=>(Tri.lend hq48_2.excl fun w2_ H2_ hs2_=>(Tri.lend hq48_3.excl fun w3_ H3_ hs3_=>(f_dump_Check_ok r43 _ _ _ _ _ ((((hq48_0.rs hs0_).mono (IM.le_add _ _)).mono (IM.le_add _ _)).mono (IM.le_add _ _)) ((((hq48_1.mono (IM.le_add _ _)).rs hs1_).mono (IM.le_add _ _)).mono (IM.le_add _ _)) ((((hq48_2.mono (IM.le_add _ _)).mono (IM.le_add _ _)).rs hs2_).mono (IM.le_add _ _)) ((((hq48_3.mono (IM.le_add _ _)).mono (IM.le_add _ _)).mono (IM.le_add _ _)).rs hs3_) r104 hr105))))) (args1 Z)) Z ?_
 rintro _ _ _ hle107 ⟨_,⟨Ml118,Hl119,hll120,rfl,rfl,⟨Ml115,Hl116,hll117,rfl,rfl,⟨Ml112,Hl113,hll114,rfl,rfl,⟨Ml109,Hl110,hll111,rfl,rfl,⟨rfl,rfl⟩⟩⟩⟩⟩,rfl⟩
 refine WL.a4 (qo 66 hb103 (Bv r104.isNil) (PO.errNil Tryz.underlying33 Z) (qu (Bv r104.isNil) (Pt Z hb103 Z) (qa (Bv r104.isNil) (Wz (WQ.f3 (WQ.f3 (WQ.f3 (WQ.f3 (WQ.f9 (WQ.f9 (WQ.f9 ?_)))))))))))
 refine WQ.f9 (WQ.f10 (WQ.f10 (WQ.f10 ?_)))
 obtain rfl:=oi h
 exact Tj ⟨(((hle90.trans hle96).trans hle101).trans hle107),Z,Z⟩
 iterate 3 refine Of 66 Z Z hb103 Z ?_
 refine qu (Bv false) (Pf Z hb103 Z) (qa (Bv false) (Wz (WQ.f10 (WQ.f10 (WQ.f10 (WQ.f10 (WQ.f9 (WQ.f9 (WQ.f9 (WQ.f9 (WQ.f10 ?_)))))))))))
 refine WQ.f10 (WQ.f10 ?_)
 obtain rfl:=oi h
 exact Tj ⟨((hle90.trans hle96).trans hle101),Z,Z⟩
 iterate 3 refine Of 61 Z Z hb92 Z ?_
 refine qu (Bv false) (Pf Z hb92 Z) (qm (Bv false) ?_)
 iterate 3 refine Of 66 Z Z Z Z ?_
 refine qu (Bv false) (Pf Z Z Z) (qa (Bv false) (Wz (WQ.f10 (WQ.f10 (WQ.f10 (WQ.f10 (WQ.f9 (WQ.f9 (WQ.f9 (WQ.f9 (WQ.f10 ?_)))))))))))
 refine WQ.f10 (WQ.f10 ?_)
 obtain rfl:=oi h
 exact Tj ⟨hle90,Z,Z⟩
 iterate 2 refine Of 57 Z Z hb86 Z ?_
 refine qu (Bv false) (Pf Z hb86 Z) (qm (Bv false) ?_)
 iterate 3 refine Of 61 Z Z Z Z ?_
 refine qu (Bv false) (Pf Z Z Z) (qm (Bv false) ?_)
 iterate 3 refine Of 66 Z Z Z Z ?_
 refine qu (Bv false) (Pf Z Z Z) (qa (Bv false) (Wz (WQ.f10 (WQ.f10 (WQ.f10 (WQ.f10 (WQ.f9 (WQ.f9 (WQ.f9 (WQ.f9 (WQ.f10 ?_)))))))))))
 refine WQ.f10 (WQ.f10 ?_)
 obtain rfl:=oi h
 exact Tj ⟨lr,Z,Z⟩
 iterate 9 refine Of 46 Z Z hb71 Z ?_
 refine qu (Bv false) (Pf Z hb71 Z) (qm (Bv false) ?_)
 iterate 2 refine Of 57 Z Z Z Z ?_
 refine qu (Bv false) (Pf Z Z Z) (qm (Bv false) ?_)
 iterate 3 refine Of 61 Z Z Z Z ?_
 refine qu (Bv false) (Pf Z Z Z) (qm (Bv false) ?_)
 iterate 3 refine Of 66 Z Z Z Z ?_
 refine qu (Bv false) (Pf Z Z Z) (qa (Bv false) (Wz (WQ.f10 (WQ.f10 (WQ.f10 (WQ.f10 (WQ.f9 (WQ.f9 (WQ.f9 (WQ.f9 (WQ.f10 ?_)))))))))))
 refine WQ.f10 (WQ.f10 ?_)
 obtain rfl:=oi h
 exact Tj ⟨lr,Z,Z⟩
 iterate 7 refine Of 37 Z Z hb63 Z ?_
 refine qu (Bv false) (Pf Z hb63 Z) (qm (Bv false) ?_)
 iterate 9 refine Of 46 Z Z Z Z ?_
 refine qu (Bv false) (Pf Z Z Z) (qm (Bv false) ?_)
 iterate 2 refine Of 57 Z Z Z Z ?_
 refine qu (Bv false) (Pf Z Z Z) (qm (Bv false) ?_)
 iterate 3 refine Of 61 Z Z Z Z ?_
 refine qu (Bv false) (Pf Z Z Z) (qm (Bv false) ?_)
 iterate 3 refine Of 66 Z Z Z Z ?_
 refine qu (Bv false) (Pf Z Z Z) (qa (Bv false) (Wz (WQ.f10 (WQ.f10 (WQ.f10 (WQ.f10 (WQ.f9 (WQ.f9 (WQ.f9 (WQ.f9 (WQ.f10 ?_)))))))))))
 refine WQ.f10 (WQ.f10 ?_)
 obtain rfl:=oi h
 exact Tj ⟨lr,Z,Z⟩
 iterate 4 refine Of 31 Z Z hb62 Z ?_
 refine qu (Bv false) (Pf Z hb62 Z) (qm (Bv false) ?_)
 iterate 7 refine Of 37 Z Z Z Z ?_
 refine qu (Bv false) (Pf Z Z Z) (qm (Bv false) ?_)
 iterate 9 refine Of 46 Z Z Z Z ?_
 refine qu (Bv false) (Pf Z Z Z) (qm (Bv false) ?_)
 iterate 2 refine Of 57 Z Z Z Z ?_
 refine qu (Bv false) (Pf Z Z Z) (qm (Bv false) ?_)
 iterate 3 refine Of 61 Z Z Z Z ?_
 refine qu (Bv false) (Pf Z Z Z) (qm (Bv false) ?_)
 iterate 3 refine Of 66 Z Z Z Z ?_
 refine qu (Bv false) (Pf Z Z Z) (qa (Bv false) (Wz (WQ.f10 (WQ.f10 (WQ.f10 (WQ.f10 (WQ.f9 (WQ.f9 (WQ.f9 (WQ.f9 (WQ.f10 ?_)))))))))))
 refine WQ.f10 (WQ.f10 ?_)
 obtain rfl:=oi h
 exact Tj ⟨lr,Z,Z⟩
 iterate 2 refine Of 27 Z Z hb61 Z ?_
 refine qu (Bv false) (Pf Z hb61 Z) (qm (Bv false) ?_)
 iterate 4 refine Of 31 Z Z Z Z ?_
 refine qu (Bv false) (Pf Z Z Z) (qm (Bv false) ?_)
 iterate 7 refine Of 37 Z Z Z Z ?_
 refine qu (Bv false) (Pf Z Z Z) (qm (Bv false) ?_)
 iterate 9 refine Of 46 Z Z Z Z ?_
 refine qu (Bv false) (Pf Z Z Z) (qm (Bv false) ?_)
 iterate 2 refine Of 57 Z Z Z Z ?_
 refine qu (Bv false) (Pf Z Z Z) (qm (Bv false) ?_)
 iterate 3 refine Of 61 Z Z Z Z ?_
 refine qu (Bv false) (Pf Z Z Z) (qm (Bv false) ?_)
 iterate 3 refine Of 66 Z Z Z Z ?_
 refine qu (Bv false) (Pf Z Z Z) (qa (Bv false) (Wz (WQ.f10 (WQ.f10 (WQ.f10 (WQ.f10 (WQ.f9 (WQ.f9 (WQ.f9 (WQ.f9 (WQ.f10 ?_)))))))))))
 refine WQ.f10 (WQ.f10 ?_)
 obtain rfl:=oi h
 exact Tj ⟨lr,Z,Z⟩
 rintro ρ60 M60 H60 ⟨hle60,rfl,hs60_0⟩
 refine Cr (Dr (Dr (Dr (Dr (Dr (Dr (Dr (Dr (Dr (Dr (Dr ?_)))))))))))
 exact Rf h [] Z (Rs Z hs60_0) (((((((hle24.trans hle26).trans hle31).trans hle38).trans hle41).trans hle47).trans hle55).trans hle60) ⟨Z,Z⟩
noncomputable def f_law16_DumpShort (a0:(List T_api_Record)) (a1:Int) (a2:(List Int)):Option Bool:=
 (((if(decide ((60:Int)<(a0.length:Int)))=true then(some true)else(if(decide ((200:Int)<(a2.length:Int)))=true then(some true)else(some (decide ((a2.length:Int)=(0:Int)))))):Option Bool).bind fun x21=>(if x21=true then((f_law16_works).bind fun r26=>(some r26))else((f_law15_Made a0).bind fun r31=>((f_dump_Put r31).bind fun(r36,r37)=>(((if(!r37.isNil)=true then(some true)else(some (decide ((r36.length:Int)=(0:Int))))):Option Bool).bind fun x47=>(if x47=true then(some false)else(grd ((r36.length:Int)≠0) (grd (0≤(0:Int)∧(0:Int)≤(IntKind.i64.wrap a1).tmod (r36.length:Int)∧(IntKind.i64.wrap a1).tmod (r36.length:Int)≤(r36.length:Int)) ((f_dump_Read (sub r36 (0:Int) ((IntKind.i64.wrap a1).tmod (r36.length:Int)))).bind fun(r55,r56)=>(grd (r36.length+a2.length≤274877906944) ((f_dump_Read (r36++a2)).bind fun(r70,r71)=>(((if(!r56.isNil)=true then(if(!r71.isNil)=true then((f_law16_works).bind fun r82=>(some r82))else(some false))else(some false)):Option Bool).bind fun x78=>(some x78)))))))))))))
def f_law16_DumpShort_post (a0:(List T_api_Record)) (a1:Int) (a2:(List Int)) (v0 v2:Value):Bool→Value→IM→HL→Prop:=
 fun(r0:Bool) (v:Value) (M':IM) (H':HL)=>(.bool r0)=v∧H'=[]
theorem f_law16_DumpShort_ok (a0:(List T_api_Record)) (a1:Int) (a2:(List Int)) (M:IM) (v0 v2:Value) (h0:RS kd_api_Record M v0 a0) (h2:RS (Kd.int .u8) M v2 a2) (res:Bool) (h:f_law16_DumpShort a0 a1 a2=some res):
 Tri Tryz.prog 5 #[v0,(.int .u16 a1),v2] M [] (f_law16_DumpShort_post a0 a1 a2 v0 v2 res):=by
 unfold f_law16_DumpShort at h
 refine Te Tryz.func5 Z Z ?_
 intro F ρ hρ
 refine Sr (qa (Bv false) (Nt (Cs ?_)))
 obtain ⟨x21,hj22,h⟩:=bnd h
 refine Jf (fun(x21:Bool) ρ' M' H'=>M.le M'∧F=H'∧ρ' 0=v0∧ρ' 1=(.int .u16 a1)∧ρ' 2=v2∧ρ' 25=(Bv x21)) x21 ?_ ?_
 have h:=hj22
 refine Cg (qM v0 (hρ 0) (qu (Iv (a0.length:Int)) (PO.lenS Tryz.underlying22 Z h0.len) (qu (Bv (decide ((60:Int)<(a0.length:Int)))) (PO.gtr Z Z) (qm (Bv (decide ((60:Int)<(a0.length:Int)))) ?_))))
 rcases Bi h with⟨hb23,h⟩ |⟨hb23,h⟩
 iterate 3 refine Of 16 Z Z hb23 Z ?_
 refine qu (Bv true) (Pt Z hb23 Z) (qm (Bv true) ?_)
 iterate 3 refine Of 21 Z Z Z Z ?_
 refine qu (Bv true) (Pt Z Z Z) (Wz ?_)
 obtain rfl:=oi h
 exact Tj ⟨lr,Z,(hρ 0),(hρ 1),(hρ 2),Z⟩
 refine On 16 Z Z hb23 (qM v2 (hρ 2) (qo 16 hb23 (Iv (a2.length:Int)) (PO.lenS Tryz.underlying31 Z h2.len) (qo 16 hb23 (Bv (decide ((200:Int)<(a2.length:Int)))) (PO.gtr Z Z) (qu (Bv (decide ((200:Int)<(a2.length:Int)))) (Pf Z hb23 Z) (qm (Bv (decide ((200:Int)<(a2.length:Int)))) ?_)))))
 rcases Bi h with⟨hb24,h⟩ |⟨hb24,h⟩
 iterate 3 refine Of 21 Z Z hb24 Z ?_
 refine qu (Bv true) (Pt Z hb24 Z) (Wz ?_)
 obtain rfl:=oi h
 exact Tj ⟨lr,Z,(hρ 0),(hρ 1),(hρ 2),Z⟩
 refine On 21 Z Z hb24 (qM v2 (hρ 2) (qo 21 hb24 (Iv (a2.length:Int)) (PO.lenS Tryz.underlying31 Z h2.len) (qo 21 hb24 (Bv (decide ((a2.length:Int)=(0:Int)))) (PO.eql Z Z) (qu (Bv (decide ((a2.length:Int)=(0:Int)))) (Pf Z hb24 Z) (Wz ?_)))))
 obtain rfl:=oi h
 exact Tj ⟨lr,Z,(hρ 0),(hρ 1),(hρ 2),Z⟩
 rintro ρ22 M22 H22 ⟨hle22,rfl,hs22_0,hs22_1,hs22_2,hs22_25⟩
 refine Ch h hs22_25 (fun hb25 h=> ?_) (fun hb25 h=> ?_)
 refine Sr ?_
 obtain ⟨r26,hr27,h⟩:=bnd h
 refine We (Ca co6 (f_law16_works_ok _ r26 hr27) (args0)) Z ?_
 rintro _ M28 _ hle29 ⟨_,⟨rfl,rfl⟩,rfl⟩
 exact WL.a0 (qa (Bv r26) (Nt (Cr (Tr (Rf h [] Z (Rs Z Z) (hle22.trans hle29) ⟨Z,Z⟩)))))
 refine Ck (Tc (Sr (qM v0 hs22_0 ?_)))
 obtain ⟨r31,hr32,h⟩:=bnd h
 have h0:=h0.mono hle22
 refine We (Ca co7 (f_law15_Made_ok a0 _ _ h0 r31 hr32) (args1 Z)) Z ?_
 rintro _ M33 _ hle34 ⟨_,⟨vq35_0,vq35_1,vq35_2,vq35_3,rfl,rfl,hq35_0,hq35_1,hq35_2,hq35_3⟩,rfl⟩
 refine WL.a0 ?_
 obtain ⟨⟨r36,r37⟩,hr38,h⟩:=bnd h
 refine We (Ca co8 (f_dump_Put_ok r31 _ _ _ _ _ hq35_0 hq35_1 hq35_2 hq35_3 (r36,r37) hr38) (args1 Z)) Z ?_
 rintro _ M39 _ hle40 ⟨_,⟨vq41,cq41,rfl,rfl,hq41⟩,rfl⟩
 refine WL.a1 (WL.toSh hq41 (fun M45 c43 hle46 h44=> ?_))
 refine qm (.tuple #[vq41,(GV r37)]) (qu vq41 (Xt Z Z) (qu (GV r37) (Xt Z Z) (qa vq41 (qa (GV r37) (Nt (Cs ?_))))))
 obtain ⟨x47,hj48,h⟩:=bnd h
 refine Jf (fun(x47:Bool) ρ' M' H'=>M45.le M'∧c43::F=H'∧ρ' 1=(.int .u16 a1)∧ρ' 2=v2∧ρ' 7=vq41∧ρ' 39=(Bv x47)) x47 ?_ ?_
 have h:=hj48
 refine Cg (qm (GV r37) (qu (Bv (!r37.isNil)) (PO.errNotNil Tryz.underlying33 Z) (qm (Bv (!r37.isNil)) ?_)))
 rcases Bi h with⟨hb49,h⟩ |⟨hb49,h⟩
 iterate 3 refine Of 35 Z Z hb49 Z ?_
 refine qu (Bv true) (Pt Z hb49 Z) (Wz ?_)
 obtain rfl:=oi h
 exact Tj ⟨lr,Z,hs22_1,hs22_2,Z,Z⟩
 refine On 35 Z Z hb49 (qm vq41 (qo 35 hb49 (Iv (r36.length:Int)) (PO.lenS Tryz.underlying31 Z h44.len) (qo 35 hb49 (Bv (decide ((r36.length:Int)=(0:Int)))) (PO.eql Z Z) (qu (Bv (decide ((r36.length:Int)=(0:Int)))) (Pf Z hb49 Z) (Wz ?_)))))
 obtain rfl:=oi h
 exact Tj ⟨lr,Z,hs22_1,hs22_2,Z,Z⟩
 rintro ρ48 M48 H48 ⟨hle48,rfl,hs48_1,hs48_2,hs48_7,hs48_39⟩
 have L48:=(((hle22.trans hle34).trans hle40).trans hle46).trans hle48
 refine Ch h hs48_39 (fun hb50 h=> ?_) (fun hb50 h=> ?_)
 exact Sr (qa (Bv false) (Nt (Cr (Tr (Dr (Rf h [] Z (Rs Z Z) L48 ⟨Z,Z⟩))))))
 refine Ck (Tc (Sr (qM vq41 hs48_7 (qM (.int .u16 a1) hs48_1 (qu (Iv (IntKind.i64.wrap a1)) (PO.conv us47 Tryz.underlying3 Z) (qM vq41 hs48_7 ?_))))))
 have h44:=h44.mono hle48
 refine qu (Iv (r36.length:Int)) (PO.lenS Tryz.underlying31 Z h44.len) ?_
 obtain ⟨hg51,h⟩:=grd_i h
 refine qu (Iv ((IntKind.i64.wrap a1).tmod (r36.length:Int))) (PO.rem Z Z hg51) (WL.know (fun _ hs=>h44.rs (hs.front 0 Z)) (fun hf52=> ?_))
 obtain ⟨hg53,h⟩:=grd_i h
 have h54:=hf52.sub hg53.1 hg53.2.1 hg53.2.2
 refine qu (slV vq41 1 ((0:Int)).toNat ((IntKind.i64.wrap a1).tmod (r36.length:Int)).toNat) (PO.slice (n:=r36.length) (l:=((0:Int)).toNat) (h:=((IntKind.i64.wrap a1).tmod (r36.length:Int)).toNat) Tryz.underlying31 sz5 Z hf52.len hf52.cap (bound0 Z) ⟨_,_,Z,(Int.le_trans hg53.1 hg53.2.1),Z⟩ (Int.toNat_le_toNat hg53.2.1) (toNat_le_len hg53.2.2)) ?_
 obtain ⟨⟨r55,r56⟩,hr57,h⟩:=bnd h
 refine We (Ca co9 (f_dump_Read_ok (sub r36 (0:Int) ((IntKind.i64.wrap a1).tmod (r36.length:Int))) _ _ h54 (r55,r56) hr57) (args1 Z)) Z ?_
 rintro _ M58 _ hle59 ⟨_,⟨vq60_0,cq60_0,vq60_1,cq60_1,vq60_2,cq60_2,vq60_3,cq60_3,rfl,rfl,hq60_0,hq60_1,hq60_2,hq60_3⟩,rfl⟩
 refine WL.a4 (qm (.tuple #[(a29_ r55 vq60_0 vq60_1 vq60_2 vq60_3),(GV r56)]) (qu (a29_ r55 vq60_0 vq60_1 vq60_2 vq60_3) (Xt Z Z) (qu (GV r56) (Xt Z Z) (We (Al ze29 Z) Z ?_))))
 rintro _ _ _ - ⟨rfl,g62,rfl,rfl⟩
 refine We (Sg (v:=(a29_ r55 vq60_0 vq60_1 vq60_2 vq60_3)) (vl:=(l29 r55 vq60_0 vq60_1 vq60_2 vq60_3)) (arr':=(l29 r55 vq60_0 vq60_1 vq60_2 vq60_3)) Z sz29 Z Z (onesOf (Oc (Ow hq60_0) (Oc (Ow hq60_1) (Oc (Ow hq60_2) (Oc (Ow hq60_3) (Oc Z Oz)))))) Z Z Z) Z ?_
 rintro _ _ _ - ⟨rfl,rfl⟩
 refine qa (GV r56) (Ns (qM vq41 hs48_7 (qM v2 hs48_2 ?_)))
 obtain ⟨hg66,h⟩:=grd_i h
 refine WL.f5 ?_
 have h44:=h44.mono hle59
 have h2:=h2.mono (L48.trans hle59)
 refine We (EO.appendSh (dd:=(Kd.int .u8)) (xs:=r36) (ys:=a2) Tryz.underlying31 Tryz.underlying31 in5 Z (appB (by decide) hg66) (by decide) Z Z h44 (h2.src _)) Z ?_
 rintro v65 M67 _ hle68 ⟨c63,rfl,h64⟩
 refine WL.know (fun _ hs=>h64.rs (hs.front 0 Z)) (fun hf69=> ?_)
 obtain ⟨⟨r70,r71⟩,hr72,h⟩:=bnd h
 refine We (Ca co9 (f_dump_Read_ok (r36++a2) _ _ hf69 (r70,r71) hr72) (args1 Z)) Z ?_
 rintro _ M73 _ hle74 ⟨_,⟨vq75_0,cq75_0,vq75_1,cq75_1,vq75_2,cq75_2,vq75_3,cq75_3,rfl,rfl,hq75_0,hq75_1,hq75_2,hq75_3⟩,rfl⟩
 refine WL.a4 (qm (.tuple #[(a29_ r70 vq75_0 vq75_1 vq75_2 vq75_3),(GV r71)]) (qu (a29_ r70 vq75_0 vq75_1 vq75_2 vq75_3) (Xt Z Z) (qu (GV r71) (Xt Z Z) (We (Al ze29 Z) Z ?_))))
 rintro _ _ _ - ⟨rfl,g77,rfl,rfl⟩
 refine We (Sg (v:=(a29_ r70 vq75_0 vq75_1 vq75_2 vq75_3)) (vl:=(l29 r70 vq75_0 vq75_1 vq75_2 vq75_3)) (arr':=(l29 r70 vq75_0 vq75_1 vq75_2 vq75_3)) Z sz29 Z Z (onesOf (Oc (Ow hq75_0) (Oc (Ow hq75_1) (Oc (Ow hq75_2) (Oc (Ow hq75_3) (Oc Z Oz)))))) Z Z Z) Z ?_
 rintro _ _ _ - ⟨rfl,rfl⟩
 refine qa (GV r71) (Nt ?_)
 obtain ⟨x78,hj79,h⟩:=bnd h
 refine Jf (fun(x78:Bool) ρ' M' H'=>M73.le M'∧[(g77, .cells (l29 r70 vq75_0 vq75_1 vq75_2 vq75_3).toArray 29 (0,0))]::[(g62, .cells (l29 r55 vq60_0 vq60_1 vq60_2 vq60_3).toArray 29 (0,0))]::cq75_0::cq75_1::cq75_2::cq75_3::cq60_0::cq60_1::cq60_2::cq60_3::F=H'∧ρ' 6=(Bv x78)) x78 ?_ ?_
 have h:=hj79
 refine Cg (qm (GV r56) (qu (Bv (!r56.isNil)) (PO.errNotNil Tryz.underlying33 Z) (qm (Bv (!r56.isNil)) ?_)))
 rcases Bi h with⟨hb80,h⟩ |⟨hb80,h⟩
 refine On 60 Z Z hb80 (qm (GV r71) (qo 60 hb80 (Bv (!r71.isNil)) (PO.errNotNil Tryz.underlying33 Z) (qu (Bv (!r71.isNil)) (Pt Z hb80 Z) (qm (Bv (!r71.isNil)) ?_))))
 rcases Bi h with⟨hb81,h⟩ |⟨hb81,h⟩
 refine On 64 Z Z hb81 ?_
 obtain ⟨r82,hr83,h⟩:=bnd h
 refine We (Ca co6 (f_law16_works_ok _ r82 hr83) (args0)) Z ?_
 rintro _ M84 _ hle85 ⟨_,⟨rfl,rfl⟩,rfl⟩
 refine WL.a0 (qu (Bv r82) (Pt Z hb81 Z) (qa (Bv r82) (Wz (WQ.f5 (Dr (WQ.f9 (WQ.f9 (WQ.f9 (WQ.f9 (WQ.f8 (WQ.f8 ?_)))))))))))
 refine WQ.f8 (WQ.f8 (WQ.f9 (WQ.f9 ?_)))
 obtain rfl:=oi h
 exact Tj ⟨hle85,Z,Z⟩
 refine Of 64 Z Z hb81 Z (qu (Bv false) (Pf Z hb81 Z) (qa (Bv false) (Wz (WQ.f5 (Dr (WQ.f9 (WQ.f9 (WQ.f9 (WQ.f9 (WQ.f8 (WQ.f8 ?_)))))))))))
 refine WQ.f8 (WQ.f8 (WQ.f9 (WQ.f9 ?_)))
 obtain rfl:=oi h
 exact Tj ⟨lr,Z,Z⟩
 iterate 2 refine Of 60 Z Z hb80 Z ?_
 refine qu (Bv false) (Pf Z hb80 Z) (qm (Bv false) (Of 64 Z Z Z Z (qu (Bv false) (Pf Z Z Z) (qa (Bv false) (Wz (WQ.f5 (Dr (WQ.f9 (WQ.f9 (WQ.f9 (WQ.f9 ?_)))))))))))
 refine WQ.f8 (WQ.f8 (WQ.f8 (WQ.f8 (WQ.f9 (WQ.f9 ?_)))))
 obtain rfl:=oi h
 exact Tj ⟨lr,Z,Z⟩
 rintro ρ79 M79 H79 ⟨hle79,rfl,hs79_6⟩
 exact Cr (Dr (Dr (Dr (Dr (Dr (Dr (Dr (Dr (Dr (Dr (Rf h [] Z (Rs Z hs79_6) ((((L48.trans hle59).trans hle68).trans hle74).trans hle79) ⟨Z,Z⟩)))))))))))

end Go.Proofs.YtpcbipcdfccnnaaGreat.G
