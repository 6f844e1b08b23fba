/- Go functions: what they come to, and that they do. Printed by a program of the session (gen). -/
import Derived.Test.YtkflneabcannnaaGreatDoorPF
import Derived.Test.YtkflneabcannnaaGreatDoorP0
import Derived.Test.YtkflneabcannnaaGreatDoorKConv
import Derived.Test.YtkflneabcannnaaGreatDoorKShar2
import Derived.Test.YtkflneabcannnaaGreatDoorKTight2
set_option linter.unusedVariables false
set_option linter.unusedSimpArgs false
set_option maxHeartbeats 8000000
set_option maxRecDepth 100000
namespace Go.Proofs.YtkflneabcannnaaGreatDoor.G
open Go Go.KK

noncomputable def f_record_Check (a0:T_api_Record):Option GErr:=
 (((if(decide (a0.Kind<(1:Int)))=true then(some true)else(some (decide ((12:Int)<a0.Kind)))):Option Bool).bind fun x22=>(if x22=true then((f_fault_New (⟨#[107,105,110,100]⟩:ByteArray) a0.Kind (5:Int)).bind fun r26=>(some r26))else(((if(decide (a0.Kind≠(10:Int)))=true then(some (1:Int))else(some (0:Int))):Option Int).bind fun x31=>((f_record_Check_1 (1:Int) a0).bind fun r34=>((f_record_number a0.Broker r34 (1:Int) (64:Int)).bind fun r39=>(if(!r39)=true then((f_fault_New (⟨#[98,114,111,107,101,114]⟩:ByteArray) a0.Broker (2:Int)).bind fun r45=>(some r45))else((f_record_Check_1 (2:Int) a0).bind fun r50=>((f_record_number a0.Epoch r50 (0:Int) (1073741824:Int)).bind fun r55=>(if(!r55)=true then((f_fault_New (⟨#[101,112,111,99,104]⟩:ByteArray) a0.Epoch (2:Int)).bind fun r61=>(some r61))else((f_record_Check_1 (4:Int) a0).bind fun r66=>((f_record_number a0.Topic r66 x31 (1073741824:Int)).bind fun r71=>(if(!r71)=true then((f_fault_New (⟨#[116,111,112,105,99]⟩:ByteArray) a0.Topic (2:Int)).bind fun r77=>(some r77))else((f_record_Check_1 (8:Int) a0).bind fun r82=>((f_record_number a0.Part r82 (0:Int) (255:Int)).bind fun r87=>(if(!r87)=true then((f_fault_New (⟨#[112,97,114,116]⟩:ByteArray) a0.Part (2:Int)).bind fun r93=>(some r93))else((f_record_Check_1 (16:Int) a0).bind fun r98=>((f_record_number a0.Leader r98 (0:Int) (64:Int)).bind fun r103=>(if(!r103)=true then((f_fault_New (⟨#[108,101,97,100,101,114]⟩:ByteArray) a0.Leader (2:Int)).bind fun r109=>(some r109))else((((f_record_Check_1 (32:Int) a0).bind fun r116=>((f_record_number a0.Client r116 (1:Int) (1073741824:Int)).bind fun r121=>(if(!r121)=true then(some true)else((f_record_Check_1 (32:Int) a0).bind fun r127=>((f_record_number a0.Serial r127 (1:Int) (1073741824:Int)).bind fun r132=>(if(!r132)=true then(some true)else((f_record_Check_1 (32:Int) a0).bind fun r138=>((f_record_number a0.Code r138 (0:Int) (21:Int)).bind fun r143=>(some (!r143)))))))))):Option Bool).bind fun x114=>(if x114=true then((f_fault_New (⟨#[97,115,107,101,114]⟩:ByteArray) a0.Client (2:Int)).bind fun r149=>(some r149))else((((f_record_Check_1 (64:Int) a0).bind fun r156=>(if(!r156)=true then(some a0.Flag)else(some false))):Option Bool).bind fun x154=>(if x154=true then((f_fault_New (⟨#[102,108,97,103]⟩:ByteArray) (1:Int) (1:Int)).bind fun r163=>(some r163))else((((f_record_Check_1 (128:Int) a0).bind fun r170=>((f_record_text_116 a0.Name r170).bind fun r175=>(if(!r175)=true then(some true)else((f_record_Check_1 (256:Int) a0).bind fun r181=>((f_record_text_116 a0.Key r181).bind fun r186=>(if(!r186)=true then(some true)else((f_record_Check_1 (1024:Int) a0).bind fun r192=>((f_record_text_116 a0.Rack r192).bind fun r197=>(some (!r197)))))))))):Option Bool).bind fun x168=>(if x168=true then((f_fault_New (⟨#[110,97,109,101]⟩:ByteArray) (a0.Name.size:Int) (1:Int)).bind fun r203=>(some r203))else((((f_record_Check_1 (512:Int) a0).bind fun r210=>((f_record_text_113 a0.Value r210).bind fun r215=>(if(!r215)=true then(some true)else(if a0.Flag=true then(some (!decide (a0.Value=(⟨#[]⟩:ByteArray))))else(some false))))):Option Bool).bind fun x208=>(if x208=true then((f_fault_New (⟨#[118,97,108,117,101]⟩:ByteArray) (a0.Value.size:Int) (6:Int)).bind fun r223=>(some r223))else((((f_record_Check_1 (2048:Int) a0).bind fun r230=>((f_record_row a0.Ids r230).bind fun r235=>(if(!r235)=true then(some true)else((f_record_Check_1 (4096:Int) a0).bind fun r241=>((f_record_row a0.Isr r241).bind fun r246=>(if(!r246)=true then(some true)else((f_record_Check_1 (8192:Int) a0).bind fun r252=>((f_record_row a0.Add r252).bind fun r257=>(if(!r257)=true then(some true)else((f_record_Check_1 (8192:Int) a0).bind fun r263=>((f_record_row a0.Drop r263).bind fun r268=>(some (!r268))))))))))))):Option Bool).bind fun x228=>(if x228=true then((f_fault_New (⟨#[114,111,119]⟩:ByteArray) (a0.Ids.length:Int) (18:Int)).bind fun r274=>(some r274))else(some GErr.nil)))))))))))))))))))))))))))))
def f_record_Check_post (a0:T_api_Record) (v0_14 v0_15 v0_16 v0_17:Value):GErr→Value→IM→HL→Prop:=
 fun(r0:GErr) (v:Value) (M':IM) (H':HL)=>(GV r0)=v∧H'=[]
theorem f_record_Check_ok (a0:T_api_Record) (M:IM) (v0_14 v0_15 v0_16 v0_17:Value) (h0_14:RS (Kd.int .i64) M v0_14 a0.Ids) (h0_15:RS (Kd.int .i64) M v0_15 a0.Isr) (h0_16:RS (Kd.int .i64) M v0_16 a0.Add) (h0_17:RS (Kd.int .i64) M v0_17 a0.Drop) (res:GErr) (h:f_record_Check a0=some res):
 Tri Tryz.prog 77 #[(a58_ a0 v0_14 v0_15 v0_16 v0_17)] M [] (f_record_Check_post a0 v0_14 v0_15 v0_16 v0_17 res):=by
 unfold f_record_Check at h
 refine Te Tryz.func77 Z Z ?_
 intro F ρ hρ
 refine Sr (We (EO.box (cs:=(l58 a0 v0_14 v0_15 v0_16 v0_17).toArray) (congrArg Value.cells (asE (a58_ a0 v0_14 v0_15 v0_16 v0_17) (hρ 0)))) Z ?_)
 rintro _ _ _ - ⟨rfl,g21,rfl,rfl⟩
 refine qa (GV GErr.nil) (Nt (Cs ?_))
 obtain ⟨x22,hj23,h⟩:=bnd h
 refine Jf (fun(x22:Bool) ρ' M' H'=>M.le M'∧[(g21, .cells (l58 a0 v0_14 v0_15 v0_16 v0_17).toArray 58 (0,0))]::F=H'∧ρ' 1=(pt g21 0)∧ρ' 13=(Bv x22)) x22 ?_ ?_
 have h:=hj23
 refine Cg (qu (pt g21 0) (Fa fo58_0 Z Z) (qu (Iv a0.Kind) (Lb 0 pl3 Z Z Z) (qu (Bv (decide (a0.Kind<1))) (PO.lss Z Z) (qm (Bv (decide (a0.Kind<1))) ?_))))
 rcases Bi h with⟨hb24,h⟩ |⟨hb24,h⟩
 iterate 3 refine Of 9 Z Z hb24 Z ?_
 refine qu (Bv true) (Pt Z hb24 Z) (Wz ?_)
 obtain rfl:=oi h
 exact Tj ⟨lr,Z,Z,Z⟩
 refine qo 9 hb24 (pt g21 0) (Fa fo58_0 Z Z) (qo 9 hb24 (Iv a0.Kind) (Lb 0 pl3 Z Z Z) (qo 9 hb24 (Bv (decide ((12:Int)<a0.Kind))) (PO.gtr Z Z) (qu (Bv (decide ((12:Int)<a0.Kind))) (Pf Z hb24 Z) (Wz ?_))))
 obtain rfl:=oi h
 exact Tj ⟨lr,Z,Z,Z⟩
 rintro ρ23 M23 H23 ⟨hle23,rfl,hs23_1,hs23_13⟩
 refine Ch h hs23_13 (fun hb25 h=> ?_) (fun hb25 h=> ?_)
 refine Sr (qu (pt g21 0) (Fa fo58_0 hs23_1 Z) (qu (Iv a0.Kind) (Lb 0 pl3 Z Z Z) ?_))
 obtain ⟨r26,hr27,h⟩:=bnd h
 refine We (Ca co30 (f_fault_New_ok ⟨#[107,105,110,100]⟩ a0.Kind (5:Int) _ r26 hr27) (args3 Z Z Z)) Z ?_
 rintro _ M28 _ hle29 ⟨_,⟨rfl,rfl⟩,rfl⟩
 exact WL.a0 (qa (GV r26) (Nt (Cr (Tr (Dr (Rf h [] Z (Rs Z Z) (hle23.trans hle29) ⟨Z,Z⟩))))))
 refine Ck (Tc (Sr (qu (.func (.func 112) #[] #[(pt g21 0)]) (PO.makeFunc2 (args0) (args1 (asE (Value.pointer (some ⟨g21,0,none⟩)) hs23_1))) (qa (.func (.func 112) #[] #[(pt g21 0)]) (Ns (qa (Iv 0) (Nt ?_)))))))
 obtain ⟨x31,hj32,h⟩:=bnd h
 refine Jf (fun(x31:Int) ρ' M' H'=>M23.le M'∧[(g21, .cells (l58 a0 v0_14 v0_15 v0_16 v0_17).toArray 58 (0,0))]::F=H'∧ρ' 1=(pt g21 0)∧ρ' 3=(.func (.func 112) #[] #[(pt g21 0)])∧ρ' 4=(Iv x31)) x31 ?_ ?_
 have h:=hj32
 refine Sr (qu (pt g21 0) (Fa fo58_0 hs23_1 Z) (qu (Iv a0.Kind) (Lb 0 pl3 Z Z Z) (qu (Bv (decide (a0.Kind≠10))) (PO.neq Z Z) (Nt (Ch h Z (fun hb33 h=> ?_) (fun hb33 h=> ?_))))))
 refine Cg (qa (Iv 1) (Wz ?_))
 obtain rfl:=oi h
 exact Tj ⟨lr,Z,hs23_1,Z,Z⟩
 refine Ck ?_
 obtain rfl:=oi h
 exact Tj ⟨lr,Z,hs23_1,Z,Z⟩
 rintro ρ32 M32 H32 ⟨hle32,rfl,hs32_1,hs32_3,hs32_4⟩
 have L32:=hle23.trans hle32
 refine Sr (qa (.func (.func 113) #[] #[]) (Nt (Cs (Bk (Cs (WC.draw [0,1,0,4,15,31,63] (.pure 0 (.pure 1 (.pure 2 (.alt 3 (.alt 4 (.pure 5 (.pure 6 .done)) .none) .none)))) mixed (by kernel_rfl) (qt (pt g21 1) Z (Fa fo58_1 hs32_1 Z) (qt (Iv a0.Broker) Z (Lb 0 pl3 Z Z Z) (qt (.func (.func 112) #[] #[(pt g21 0)]) Z (Mv hs32_3) ?_)))))))))
 obtain ⟨r34,hr35,h⟩:=bnd h
 have h0_14:=h0_14.mono L32
 have h0_15:=h0_15.mono L32
 have h0_16:=h0_16.mono L32
 have h0_17:=h0_17.mono L32
 refine Ta Z (EO.callV1 (first:=#[]) (cap:=#[(pt g21 0)]) co112 Z (f_record_Check_1_ok (1:Int) a0 _ _ _ _ _ _ h0_14 h0_15 h0_16 h0_17 r34 hr35) (argsV1 Z Z)) Z ?_ ?_
 rintro _ M36 _ hle37 ⟨_,⟨rfl,rfl⟩,rfl⟩
 have L37:=L32.trans hle37
 refine⟨(Sk 1 Z (Ss Z (Lb 0 pl3 Z Z Z) Z (Ss Z (Fa fo58_1 hs32_1 Z) Z trivial))), ?_⟩
 refine WT.a1 ?_
 obtain ⟨r39,hr40,h⟩:=bnd h
 refine Ta Z (Ca co114 (f_record_number_ok a0.Broker r34 (1:Int) (64:Int) _ r39 hr40) (args4 Z Z Z Z)) Z ?_ ?_
 rintro _ M41 _ hle42 ⟨_,⟨rfl,rfl⟩,rfl⟩
 have L42:=L37.trans hle42
 refine⟨(Sl Z), ?_⟩
 refine WT.a0 (qt (Bv (!r39)) Z (PO.not Z) (qt (Bv (!r39)) Z (Ag Z) (Ti (Tc (Ch h Z (fun hb44 h=> ?_) (fun hb44 h=> ?_))))))
 refine Sr (qu (pt g21 1) (Fa fo58_1 hs32_1 Z) (qu (Iv a0.Broker) (Lb 0 pl3 Z Z Z) ?_))
 obtain ⟨r45,hr46,h⟩:=bnd h
 refine We (Ca co30 (f_fault_New_ok ⟨#[98,114,111,107,101,114]⟩ a0.Broker (2:Int) _ r45 hr46) (args3 Z Z Z)) Z ?_
 rintro _ M47 _ hle48 ⟨_,⟨rfl,rfl⟩,rfl⟩
 exact WL.a0 (qa (GV r45) (Nt (Cr (Br (Tr (Dr (Rf h [] Z (Rs Z Z) (L42.trans hle48) ⟨Z,Z⟩)))))))
 refine Cs (WC.draw [0,1,0,4,15,31,63] (.pure 0 (.pure 1 (.pure 2 (.alt 3 (.alt 4 (.pure 5 (.pure 6 .done)) .none) .none)))) mixed (by kernel_rfl) (qt (pt g21 2) Z (Fa fo58_2 hs32_1 Z) (qt (Iv a0.Epoch) Z (Lb 0 pl3 Z Z Z) (qt (.func (.func 112) #[] #[(pt g21 0)]) Z (Mv hs32_3) ?_))))
 obtain ⟨r50,hr51,h⟩:=bnd h
 have h0_14:=h0_14.mono (hle37.trans hle42)
 have h0_15:=h0_15.mono (hle37.trans hle42)
 have h0_16:=h0_16.mono (hle37.trans hle42)
 have h0_17:=h0_17.mono (hle37.trans hle42)
 refine Ta Z (EO.callV1 (first:=#[]) (cap:=#[(pt g21 0)]) co112 Z (f_record_Check_1_ok (2:Int) a0 _ _ _ _ _ _ h0_14 h0_15 h0_16 h0_17 r50 hr51) (argsV1 Z Z)) Z ?_ ?_
 rintro _ M52 _ hle53 ⟨_,⟨rfl,rfl⟩,rfl⟩
 have L53:=L42.trans hle53
 refine⟨(Sk 1 Z (Ss Z (Lb 0 pl3 Z Z Z) Z (Ss Z (Fa fo58_2 hs32_1 Z) Z trivial))), ?_⟩
 refine WT.a1 ?_
 obtain ⟨r55,hr56,h⟩:=bnd h
 refine Ta Z (Ca co114 (f_record_number_ok a0.Epoch r50 (0:Int) (1073741824:Int) _ r55 hr56) (args4 Z Z Z Z)) Z ?_ ?_
 rintro _ M57 _ hle58 ⟨_,⟨rfl,rfl⟩,rfl⟩
 have L58:=L53.trans hle58
 refine⟨(Sl Z), ?_⟩
 refine WT.a0 (qt (Bv (!r55)) Z (PO.not Z) (qt (Bv (!r55)) Z (Ag Z) (Ti (Tc (Ch h Z (fun hb60 h=> ?_) (fun hb60 h=> ?_))))))
 refine Sr (qu (pt g21 2) (Fa fo58_2 hs32_1 Z) (qu (Iv a0.Epoch) (Lb 0 pl3 Z Z Z) ?_))
 obtain ⟨r61,hr62,h⟩:=bnd h
 refine We (Ca co30 (f_fault_New_ok ⟨#[101,112,111,99,104]⟩ a0.Epoch (2:Int) _ r61 hr62) (args3 Z Z Z)) Z ?_
 rintro _ M63 _ hle64 ⟨_,⟨rfl,rfl⟩,rfl⟩
 exact WL.a0 (qa (GV r61) (Nt (Cr (Br (Tr (Dr (Rf h [] Z (Rs Z Z) (L58.trans hle64) ⟨Z,Z⟩)))))))
 refine Cs (WC.draw [0,1,0,4,0,31,63,127] (.pure 0 (.pure 1 (.pure 2 (.pure 4 (.alt 3 (.alt 5 (.pure 6 (.pure 7 .done)) .none) .none))))) mixed (by kernel_rfl) (qt (pt g21 3) Z (Fa fo58_3 hs32_1 Z) (qt (Iv a0.Topic) Z (Lb 0 pl3 Z Z Z) (qt (.func (.func 112) #[] #[(pt g21 0)]) Z (Mv hs32_3) (qt (Iv x31) Z (Mv hs32_4) ?_)))))
 obtain ⟨r66,hr67,h⟩:=bnd h
 have h0_14:=h0_14.mono (hle53.trans hle58)
 have h0_15:=h0_15.mono (hle53.trans hle58)
 have h0_16:=h0_16.mono (hle53.trans hle58)
 have h0_17:=h0_17.mono (hle53.trans hle58)
 refine Ta Z (EO.callV1 (first:=#[]) (cap:=#[(pt g21 0)]) co112 Z (f_record_Check_1_ok (4:Int) a0 _ _ _ _ _ _ h0_14 h0_15 h0_16 h0_17 r66 hr67) (argsV1 Z Z)) Z ?_ ?_
 rintro _ M68 _ hle69 ⟨_,⟨rfl,rfl⟩,rfl⟩
 have L69:=L58.trans hle69
 refine⟨(Ss Z (Mv hs32_4) Z (Sk 1 Z (Ss Z (Lb 0 pl3 Z Z Z) Z (Ss Z (Fa fo58_3 hs32_1 Z) Z trivial)))), ?_⟩
 refine WT.a1 ?_
 obtain ⟨r71,hr72,h⟩:=bnd h
 refine Ta Z (Ca co114 (f_record_number_ok a0.Topic r66 x31 (1073741824:Int) _ r71 hr72) (args4 Z Z Z Z)) Z ?_ ?_
 rintro _ M73 _ hle74 ⟨_,⟨rfl,rfl⟩,rfl⟩
 have L74:=L69.trans hle74
 refine⟨(Sl Z), ?_⟩
 refine WT.a0 (qt (Bv (!r71)) Z (PO.not Z) (qt (Bv (!r71)) Z (Ag Z) (Ti (Tc (Ch h Z (fun hb76 h=> ?_) (fun hb76 h=> ?_))))))
 refine Sr (qu (pt g21 3) (Fa fo58_3 hs32_1 Z) (qu (Iv a0.Topic) (Lb 0 pl3 Z Z Z) ?_))
 obtain ⟨r77,hr78,h⟩:=bnd h
 refine We (Ca co30 (f_fault_New_ok ⟨#[116,111,112,105,99]⟩ a0.Topic (2:Int) _ r77 hr78) (args3 Z Z Z)) Z ?_
 rintro _ M79 _ hle80 ⟨_,⟨rfl,rfl⟩,rfl⟩
 exact WL.a0 (qa (GV r77) (Nt (Cr (Br (Tr (Dr (Rf h [] Z (Rs Z Z) (L74.trans hle80) ⟨Z,Z⟩)))))))
 refine Cs (WC.draw [0,1,0,4,15,31,63] (.pure 0 (.pure 1 (.pure 2 (.alt 3 (.alt 4 (.pure 5 (.pure 6 .done)) .none) .none)))) mixed (by kernel_rfl) (qt (pt g21 4) Z (Fa fo58_4 hs32_1 Z) (qt (Iv a0.Part) Z (Lb 0 pl3 Z Z Z) (qt (.func (.func 112) #[] #[(pt g21 0)]) Z (Mv hs32_3) ?_))))
 obtain ⟨r82,hr83,h⟩:=bnd h
 have h0_14:=h0_14.mono (hle69.trans hle74)
 have h0_15:=h0_15.mono (hle69.trans hle74)
 have h0_16:=h0_16.mono (hle69.trans hle74)
 have h0_17:=h0_17.mono (hle69.trans hle74)
 refine Ta Z (EO.callV1 (first:=#[]) (cap:=#[(pt g21 0)]) co112 Z (f_record_Check_1_ok (8:Int) a0 _ _ _ _ _ _ h0_14 h0_15 h0_16 h0_17 r82 hr83) (argsV1 Z Z)) Z ?_ ?_
 rintro _ M84 _ hle85 ⟨_,⟨rfl,rfl⟩,rfl⟩
 have L85:=L74.trans hle85
 refine⟨(Sk 1 Z (Ss Z (Lb 0 pl3 Z Z Z) Z (Ss Z (Fa fo58_4 hs32_1 Z) Z trivial))), ?_⟩
 refine WT.a1 ?_
 obtain ⟨r87,hr88,h⟩:=bnd h
 refine Ta Z (Ca co114 (f_record_number_ok a0.Part r82 (0:Int) (255:Int) _ r87 hr88) (args4 Z Z Z Z)) Z ?_ ?_
 rintro _ M89 _ hle90 ⟨_,⟨rfl,rfl⟩,rfl⟩
 have L90:=L85.trans hle90
 refine⟨(Sl Z), ?_⟩
 refine WT.a0 (qt (Bv (!r87)) Z (PO.not Z) (qt (Bv (!r87)) Z (Ag Z) (Ti (Tc (Ch h Z (fun hb92 h=> ?_) (fun hb92 h=> ?_))))))
 refine Sr (qu (pt g21 4) (Fa fo58_4 hs32_1 Z) (qu (Iv a0.Part) (Lb 0 pl3 Z Z Z) ?_))
 obtain ⟨r93,hr94,h⟩:=bnd h
 refine We (Ca co30 (f_fault_New_ok ⟨#[112,97,114,116]⟩ a0.Part (2:Int) _ r93 hr94) (args3 Z Z Z)) Z ?_
 rintro _ M95 _ hle96 ⟨_,⟨rfl,rfl⟩,rfl⟩
 exact WL.a0 (qa (GV r93) (Nt (Cr (Br (Tr (Dr (Rf h [] Z (Rs Z Z) (L90.trans hle96) ⟨Z,Z⟩)))))))
 refine Cs (WC.draw [0,1,0,4,15,31,63] (.pure 0 (.pure 1 (.pure 2 (.alt 3 (.alt 4 (.pure 5 (.pure 6 .done)) .none) .none)))) mixed (by kernel_rfl) (qt (pt g21 5) Z (Fa fo58_5 hs32_1 Z) (qt (Iv a0.Leader) Z (Lb 0 pl3 Z Z Z) (qt (.func (.func 112) #[] #[(pt g21 0)]) Z (Mv hs32_3) ?_))))
 obtain ⟨r98,hr99,h⟩:=bnd h
 have h0_14:=h0_14.mono (hle85.trans hle90)
 have h0_15:=h0_15.mono (hle85.trans hle90)
 have h0_16:=h0_16.mono (hle85.trans hle90)
 have h0_17:=h0_17.mono (hle85.trans hle90)
 refine Ta Z (EO.callV1 (first:=#[]) (cap:=#[(pt g21 0)]) co112 Z (f_record_Check_1_ok (16:Int) a0 _ _ _ _ _ _ h0_14 h0_15 h0_16 h0_17 r98 hr99) (argsV1 Z Z)) Z ?_ ?_
 rintro _ M100 _ hle101 ⟨_,⟨rfl,rfl⟩,rfl⟩
 have L101:=L90.trans hle101
 refine⟨(Sk 1 Z (Ss Z (Lb 0 pl3 Z Z Z) Z (Ss Z (Fa fo58_5 hs32_1 Z) Z trivial))), ?_⟩
 refine WT.a1 ?_
 obtain ⟨r103,hr104,h⟩:=bnd h
 refine Ta Z (Ca co114 (f_record_number_ok a0.Leader r98 (0:Int) (64:Int) _ r103 hr104) (args4 Z Z Z Z)) Z ?_ ?_
 rintro _ M105 _ hle106 ⟨_,⟨rfl,rfl⟩,rfl⟩
 have L106:=hle101.trans hle106
 have L106_1:=L101.trans hle106
 refine⟨(Sl Z), ?_⟩
 refine WT.a0 (qt (Bv (!r103)) Z (PO.not Z) (qt (Bv (!r103)) Z (Ag Z) (Ti (Tc (Ch h Z (fun hb108 h=> ?_) (fun hb108 h=> ?_))))))
 refine Sr (qu (pt g21 5) (Fa fo58_5 hs32_1 Z) (qu (Iv a0.Leader) (Lb 0 pl3 Z Z Z) ?_))
 obtain ⟨r109,hr110,h⟩:=bnd h
 refine We (Ca co30 (f_fault_New_ok ⟨#[108,101,97,100,101,114]⟩ a0.Leader (2:Int) _ r109 hr110) (args3 Z Z Z)) Z ?_
 rintro _ M111 _ hle112 ⟨_,⟨rfl,rfl⟩,rfl⟩
 exact WL.a0 (qa (GV r109) (Nt (Cr (Br (Tr (Dr (Rf h [] Z (Rs Z Z) (L106_1.trans hle112) ⟨Z,Z⟩)))))))
 obtain ⟨x114,hj115,h⟩:=bnd h
 refine Jf (fun(x114:Bool) ρ' M' H'=>M105.le M'∧[(g21, .cells (l58 a0 v0_14 v0_15 v0_16 v0_17).toArray 58 (0,0))]::F=H'∧ρ' 1=(pt g21 0)∧ρ' 3=(.func (.func 112) #[] #[(pt g21 0)])∧ρ' 5=(.func (.func 113) #[] #[])∧ρ' 72=(Bv x114)) x114 ?_ ?_
 have h:=hj115
 refine WC.draw [0,1,0,4,15,31,63,127,255,127,639,2047,4095,8191,16383,32767,65535,32767,163839,524287,1048575,2097151,4194303] (.pure 0 (.pure 1 (.pure 2 (.alt 3 (.alt 4 (.pure 5 (.pure 6 (.pure 7 (.pure 8 (.pure 9 (.alt 10 (.alt 11 (.pure 12 (.pure 13 (.pure 14 (.pure 15 (.pure 16 (.pure 17 (.alt 18 (.alt 19 (.pure 20 (.pure 21 (.pure 22 .done))) .none) .none))))))) .none) .none)))))) .none) .none)))) mixed (by kernel_rfl) (qt (pt g21 6) Z (Fa fo58_6 hs32_1 Z) (qt (Iv a0.Client) Z (Lb 0 pl3 Z Z Z) (qt (.func (.func 112) #[] #[(pt g21 0)]) Z (Mv hs32_3) ?_)))
 obtain ⟨r116,hr117,h⟩:=bnd h
 have h0_14:=h0_14.mono L106
 have h0_15:=h0_15.mono L106
 have h0_16:=h0_16.mono L106
 have h0_17:=h0_17.mono L106
 refine Ta Z (EO.callV1 (first:=#[]) (cap:=#[(pt g21 0)]) co112 Z (f_record_Check_1_ok (32:Int) a0 _ _ _ _ _ _ h0_14 h0_15 h0_16 h0_17 r116 hr117) (argsV1 Z Z)) Z ?_ ?_
 rintro _ M118 _ hle119 ⟨_,⟨rfl,rfl⟩,rfl⟩
 refine⟨(Sk 1 Z (Ss Z (Lb 0 pl3 Z Z Z) Z (Ss Z (Fa fo58_6 hs32_1 Z) Z trivial))), ?_⟩
 refine WT.a1 ?_
 obtain ⟨r121,hr122,h⟩:=bnd h
 refine Ta Z (Ca co114 (f_record_number_ok a0.Client r116 (1:Int) (1073741824:Int) _ r121 hr122) (args4 Z Z Z Z)) Z ?_ ?_
 rintro _ M123 _ hle124 ⟨_,⟨rfl,rfl⟩,rfl⟩
 have L124:=hle119.trans hle124
 refine⟨(Sl Z), ?_⟩
 refine WT.a0 (qt (Bv (!r121)) Z (PO.not Z) (qt (Bv (!r121)) Z (Mv Z) ?_))
 rcases Bi h with⟨hb126,h⟩ |⟨hb126,h⟩
 refine Tf 79 Z Z Z hb126 Z (Tf 79 Z Z Z hb126 Z (Tf 79 Z Z Z hb126 Z (Tg 79 Z Z Z hb126 Z ⟨(Sk 1 Z (St (Sf 79 Z Z Z hb126 Z) (St (Sf 79 Z Z Z hb126 Z) (Sl Z)))), ?_⟩ ?_)))
 refine Tg 79 Z Z Z hb126 Z ⟨(Sl Z), ?_⟩ ?_
 refine Tf 79 Z Z Z hb126 Z (qt (Bv true) Z (Pt Z hb126 Z) (qt (Bv true) Z (Mv Z) (Tf 87 Z Z Z Z Z (Tf 87 Z Z Z Z Z (Tf 87 Z Z Z Z Z (Tg 87 Z Z Z Z Z ⟨(Sk 1 Z (St (Sf 87 Z Z Z Z Z) (St (Sf 87 Z Z Z Z Z) (Sl Z)))), ?_⟩ ?_))))))
 refine Tg 87 Z Z Z Z Z ⟨(Sl Z), ?_⟩ ?_
 refine Tf 87 Z Z Z Z Z (qt (Bv true) Z (Pt Z Z Z) (qt (Bv true) Z (Ag Z) (Ti ?_)))
 obtain rfl:=oi h
 exact Tj ⟨L124,Z,hs32_1,hs32_3,Z,Z⟩
 exact Tz
 exact Tz
 exact Tz
 exact Tz
 refine Tn (pt g21 7) 79 Z Z Z hb126 (Fa fo58_7 hs32_1 Z) Z (Tn (Iv a0.Serial) 79 Z Z Z hb126 (Lb 0 pl3 Z Z Z) Z (Tn (.func (.func 112) #[] #[(pt g21 0)]) 79 Z Z Z hb126 (Mv hs32_3) Z ?_))
 obtain ⟨r127,hr128,h⟩:=bnd h
 have h0_14:=h0_14.mono L124
 have h0_15:=h0_15.mono L124
 have h0_16:=h0_16.mono L124
 have h0_17:=h0_17.mono L124
 refine WT.altOn 79 Z Z Z hb126 (EO.callV1 (first:=#[]) (cap:=#[(pt g21 0)]) co112 Z (f_record_Check_1_ok (32:Int) a0 _ _ _ _ _ _ h0_14 h0_15 h0_16 h0_17 r127 hr128) (argsV1 Z Z)) Z ?_ ?_
 rintro _ M129 _ hle130 ⟨_,⟨rfl,rfl⟩,rfl⟩
 refine⟨(Sk 1 Z (St (StabA.on 79 Z Z Z hb126 (Lb 0 pl3 Z Z Z) Z) (St (StabA.on 79 Z Z Z hb126 (Fa fo58_7 hs32_1 Z) Z) (Sl Z)))), ?_⟩
 refine WT.a1 ?_
 obtain ⟨r132,hr133,h⟩:=bnd h
 refine WT.altOn 79 Z Z Z hb126 (Ca co114 (f_record_number_ok a0.Serial r127 (1:Int) (1073741824:Int) _ r132 hr133) (args4 Z Z Z Z)) Z ?_ ?_
 rintro _ M134 _ hle135 ⟨_,⟨rfl,rfl⟩,rfl⟩
 refine⟨(Sl Z), ?_⟩
 refine WT.a0 (Tn (Bv (!r132)) 79 Z Z Z hb126 (PO.not Z) Z (qt (Bv (!r132)) Z (Pf Z hb126 Z) (qt (Bv (!r132)) Z (Mv Z) ?_)))
 rcases Bi h with⟨hb137,h⟩ |⟨hb137,h⟩
 refine Tf 87 Z Z Z hb137 Z (Tf 87 Z Z Z hb137 Z (Tf 87 Z Z Z hb137 Z (Tg 87 Z Z Z hb137 Z ⟨(Sk 1 Z (St (Sf 87 Z Z Z hb137 Z) (St (Sf 87 Z Z Z hb137 Z) (Sl Z)))), ?_⟩ ?_)))
 refine Tg 87 Z Z Z hb137 Z ⟨(Sl Z), ?_⟩ ?_
 refine Tf 87 Z Z Z hb137 Z (qt (Bv true) Z (Pt Z hb137 Z) (qt (Bv true) Z (Ag Z) (Ti ?_)))
 obtain rfl:=oi h
 exact Tj ⟨((L124.trans hle130).trans hle135),Z,hs32_1,hs32_3,Z,Z⟩
 exact Tz
 exact Tz
 refine Tn (pt g21 8) 87 Z Z Z hb137 (Fa fo58_8 hs32_1 Z) Z (Tn (Iv a0.Code) 87 Z Z Z hb137 (Lb 0 pl3 Z Z Z) Z (Tn (.func (.func 112) #[] #[(pt g21 0)]) 87 Z Z Z hb137 (Mv hs32_3) Z ?_))
 obtain ⟨r138,hr139,h⟩:=bnd h
 have h0_14:=h0_14.mono (hle130.trans hle135)
 have h0_15:=h0_15.mono (hle130.trans hle135)
 have h0_16:=h0_16.mono (hle130.trans hle135)
 have h0_17:=h0_17.mono (hle130.trans hle135)
 refine WT.altOn 87 Z Z Z hb137 (EO.callV1 (first:=#[]) (cap:=#[(pt g21 0)]) co112 Z (f_record_Check_1_ok (32:Int) a0 _ _ _ _ _ _ h0_14 h0_15 h0_16 h0_17 r138 hr139) (argsV1 Z Z)) Z ?_ ?_
 rintro _ M140 _ hle141 ⟨_,⟨rfl,rfl⟩,rfl⟩
 refine⟨(Sk 1 Z (St (StabA.on 87 Z Z Z hb137 (Lb 0 pl3 Z Z Z) Z) (St (StabA.on 87 Z Z Z hb137 (Fa fo58_8 hs32_1 Z) Z) (Sl Z)))), ?_⟩
 refine WT.a1 ?_
 obtain ⟨r143,hr144,h⟩:=bnd h
 refine WT.altOn 87 Z Z Z hb137 (Ca co114 (f_record_number_ok a0.Code r138 (0:Int) (21:Int) _ r143 hr144) (args4 Z Z Z Z)) Z ?_ ?_
 rintro _ M145 _ hle146 ⟨_,⟨rfl,rfl⟩,rfl⟩
 refine⟨(Sl Z), ?_⟩
 refine WT.a0 (Tn (Bv (!r143)) 87 Z Z Z hb137 (PO.not Z) Z (qt (Bv (!r143)) Z (Pf Z hb137 Z) (qt (Bv (!r143)) Z (Ag Z) (Ti ?_))))
 obtain rfl:=oi h
 exact Tj ⟨((((L124.trans hle130).trans hle135).trans hle141).trans hle146),Z,hs32_1,hs32_3,Z,Z⟩
 exact Tz
 exact Tz
 exact Tz
 exact Tz
 exact Tz
 exact Tz
 rintro ρ115 M115 H115 ⟨hle115,rfl,hs115_1,hs115_3,hs115_5,hs115_72⟩
 have L115:=L106.trans hle115
 have L115_1:=L106_1.trans hle115
 refine Ch h hs115_72 (fun hb148 h=> ?_) (fun hb148 h=> ?_)
 refine Sr (qu (pt g21 6) (Fa fo58_6 hs115_1 Z) (qu (Iv a0.Client) (Lb 0 pl3 Z Z Z) ?_))
 obtain ⟨r149,hr150,h⟩:=bnd h
 refine We (Ca co30 (f_fault_New_ok ⟨#[97,115,107,101,114]⟩ a0.Client (2:Int) _ r149 hr150) (args3 Z Z Z)) Z ?_
 rintro _ M151 _ hle152 ⟨_,⟨rfl,rfl⟩,rfl⟩
 exact WL.a0 (qa (GV r149) (Nt (Cr (Br (Tr (Dr (Rf h [] Z (Rs Z Z) (L115_1.trans hle152) ⟨Z,Z⟩)))))))
 obtain ⟨x154,hj155,h⟩:=bnd h
 refine Jf (fun(x154:Bool) ρ' M' H'=>M115.le M'∧[(g21, .cells (l58 a0 v0_14 v0_15 v0_16 v0_17).toArray 58 (0,0))]::F=H'∧ρ' 1=(pt g21 0)∧ρ' 3=(.func (.func 112) #[] #[(pt g21 0)])∧ρ' 5=(.func (.func 113) #[] #[])∧ρ' 98=(Bv x154)) x154 ?_ ?_
 have h:=hj155
 refine Cg (qM (.func (.func 112) #[] #[(pt g21 0)]) hs115_3 ?_)
 obtain ⟨r156,hr157,h⟩:=bnd h
 have h0_14:=h0_14.mono L115
 have h0_15:=h0_15.mono L115
 have h0_16:=h0_16.mono L115
 have h0_17:=h0_17.mono L115
 refine We (EO.callV1 (first:=#[]) (cap:=#[(pt g21 0)]) co112 Z (f_record_Check_1_ok (64:Int) a0 _ _ _ _ _ _ h0_14 h0_15 h0_16 h0_17 r156 hr157) (argsV1 Z Z)) Z ?_
 rintro _ M158 _ hle159 ⟨_,⟨rfl,rfl⟩,rfl⟩
 refine WL.a1 (qu (Bv (!r156)) (PO.not Z) (qm (Bv (!r156)) ?_))
 rcases Bi h with⟨hb161,h⟩ |⟨hb161,h⟩
 refine qo 102 hb161 (pt g21 9) (Fa fo58_9 hs115_1 Z) (qo 102 hb161 (Bv a0.Flag) (Lb 0 pl4 Z Z Z) (qu (Bv a0.Flag) (Pt Z hb161 Z) (qa (Bv a0.Flag) (Wz ?_))))
 obtain rfl:=oi h
 exact Tj ⟨hle159,Z,hs115_1,hs115_3,hs115_5,Z⟩
 iterate 2 refine Of 102 Z Z hb161 Z ?_
 refine qu (Bv false) (Pf Z hb161 Z) (qa (Bv false) (Wz ?_))
 obtain rfl:=oi h
 exact Tj ⟨hle159,Z,hs115_1,hs115_3,hs115_5,Z⟩
 rintro ρ155 M155 H155 ⟨hle155,rfl,hs155_1,hs155_3,hs155_5,hs155_98⟩
 have L155:=L115.trans hle155
 have L155_1:=L115_1.trans hle155
 refine Ch h hs155_98 (fun hb162 h=> ?_) (fun hb162 h=> ?_)
 refine Sr ?_
 obtain ⟨r163,hr164,h⟩:=bnd h
 refine We (Ca co30 (f_fault_New_ok ⟨#[102,108,97,103]⟩ (1:Int) (1:Int) _ r163 hr164) (args3 Z Z Z)) Z ?_
 rintro _ M165 _ hle166 ⟨_,⟨rfl,rfl⟩,rfl⟩
 exact WL.a0 (qa (GV r163) (Nt (Cr (Br (Tr (Dr (Rf h [] Z (Rs Z Z) (L155_1.trans hle166) ⟨Z,Z⟩)))))))
 obtain ⟨x168,hj169,h⟩:=bnd h
 refine Jf (fun(x168:Bool) ρ' M' H'=>M155.le M'∧[(g21, .cells (l58 a0 v0_14 v0_15 v0_16 v0_17).toArray 58 (0,0))]::F=H'∧ρ' 1=(pt g21 0)∧ρ' 3=(.func (.func 112) #[] #[(pt g21 0)])∧ρ' 5=(.func (.func 113) #[] #[])∧ρ' 107=(Bv x168)) x168 ?_ ?_
 have h:=hj169
 refine WC.draw [0,1,0,4,15,31,63,127,255,127,639,2047,4095,8191,16383,32767,65535,32767,163839,524287,1048575,2097151,4194303] (.pure 0 (.pure 1 (.pure 2 (.alt 3 (.alt 4 (.pure 5 (.pure 6 (.pure 7 (.pure 8 (.pure 9 (.alt 10 (.alt 11 (.pure 12 (.pure 13 (.pure 14 (.pure 15 (.pure 16 (.pure 17 (.alt 18 (.alt 19 (.pure 20 (.pure 21 (.pure 22 .done))) .none) .none))))))) .none) .none)))))) .none) .none)))) mixed (by kernel_rfl) (qt (pt g21 10) Z (Fa fo58_10 hs155_1 Z) (qt (Sv a0.Name) Z (Lb 0 pl9 Z Z Z) (qt (.func (.func 112) #[] #[(pt g21 0)]) Z (Mv hs155_3) ?_)))
 obtain ⟨r170,hr171,h⟩:=bnd h
 have h0_14:=h0_14.mono L155
 have h0_15:=h0_15.mono L155
 have h0_16:=h0_16.mono L155
 have h0_17:=h0_17.mono L155
 refine Ta Z (EO.callV1 (first:=#[]) (cap:=#[(pt g21 0)]) co112 Z (f_record_Check_1_ok (128:Int) a0 _ _ _ _ _ _ h0_14 h0_15 h0_16 h0_17 r170 hr171) (argsV1 Z Z)) Z ?_ ?_
 rintro _ M172 _ hle173 ⟨_,⟨rfl,rfl⟩,rfl⟩
 refine⟨(Sk 1 Z (Ss Z (Lb 0 pl9 Z Z Z) Z (Ss Z (Fa fo58_10 hs155_1 Z) Z trivial))), ?_⟩
 refine WT.a1 ?_
 obtain ⟨r175,hr176,h⟩:=bnd h
 refine Ta Z (Ca co115 (f_record_text_116_ok a0.Name r170 _ r175 hr176) (args3 Z Z Z)) Z ?_ ?_
 rintro _ M177 _ hle178 ⟨_,⟨rfl,rfl⟩,rfl⟩
 have L178:=hle173.trans hle178
 refine⟨(Sl Z), ?_⟩
 refine WT.a0 (qt (Bv (!r175)) Z (PO.not Z) (qt (Bv (!r175)) Z (Mv Z) ?_))
 rcases Bi h with⟨hb180,h⟩ |⟨hb180,h⟩
 refine Tf 114 Z Z Z hb180 Z (Tf 114 Z Z Z hb180 Z (Tf 114 Z Z Z hb180 Z (Tg 114 Z Z Z hb180 Z ⟨(Sk 1 Z (St (Sf 114 Z Z Z hb180 Z) (St (Sf 114 Z Z Z hb180 Z) (Sl Z)))), ?_⟩ ?_)))
 refine Tg 114 Z Z Z hb180 Z ⟨(Sl Z), ?_⟩ ?_
 refine Tf 114 Z Z Z hb180 Z (qt (Bv true) Z (Pt Z hb180 Z) (qt (Bv true) Z (Mv Z) (Tf 122 Z Z Z Z Z (Tf 122 Z Z Z Z Z (Tf 122 Z Z Z Z Z (Tg 122 Z Z Z Z Z ⟨(Sk 1 Z (St (Sf 122 Z Z Z Z Z) (St (Sf 122 Z Z Z Z Z) (Sl Z)))), ?_⟩ ?_))))))
 refine Tg 122 Z Z Z Z Z ⟨(Sl Z), ?_⟩ ?_
 refine Tf 122 Z Z Z Z Z (qt (Bv true) Z (Pt Z Z Z) (qt (Bv true) Z (Ag Z) (Ti ?_)))
 obtain rfl:=oi h
 exact Tj ⟨L178,Z,hs155_1,hs155_3,hs155_5,Z⟩
 exact Tz
 exact Tz
 exact Tz
 exact Tz
 refine Tn (pt g21 11) 114 Z Z Z hb180 (Fa fo58_11 hs155_1 Z) Z (Tn (Sv a0.Key) 114 Z Z Z hb180 (Lb 0 pl9 Z Z Z) Z (Tn (.func (.func 112) #[] #[(pt g21 0)]) 114 Z Z Z hb180 (Mv hs155_3) Z ?_))
 obtain ⟨r181,hr182,h⟩:=bnd h
 have h0_14:=h0_14.mono L178
 have h0_15:=h0_15.mono L178
 have h0_16:=h0_16.mono L178
 have h0_17:=h0_17.mono L178
 refine WT.altOn 114 Z Z Z hb180 (EO.callV1 (first:=#[]) (cap:=#[(pt g21 0)]) co112 Z (f_record_Check_1_ok (256:Int) a0 _ _ _ _ _ _ h0_14 h0_15 h0_16 h0_17 r181 hr182) (argsV1 Z Z)) Z ?_ ?_
 rintro _ M183 _ hle184 ⟨_,⟨rfl,rfl⟩,rfl⟩
 refine⟨(Sk 1 Z (St (StabA.on 114 Z Z Z hb180 (Lb 0 pl9 Z Z Z) Z) (St (StabA.on 114 Z Z Z hb180 (Fa fo58_11 hs155_1 Z) Z) (Sl Z)))), ?_⟩
 refine WT.a1 ?_
 obtain ⟨r186,hr187,h⟩:=bnd h
 refine WT.altOn 114 Z Z Z hb180 (Ca co115 (f_record_text_116_ok a0.Key r181 _ r186 hr187) (args3 Z Z Z)) Z ?_ ?_
 rintro _ M188 _ hle189 ⟨_,⟨rfl,rfl⟩,rfl⟩
 refine⟨(Sl Z), ?_⟩
 refine WT.a0 (Tn (Bv (!r186)) 114 Z Z Z hb180 (PO.not Z) Z (qt (Bv (!r186)) Z (Pf Z hb180 Z) (qt (Bv (!r186)) Z (Mv Z) ?_)))
 rcases Bi h with⟨hb191,h⟩ |⟨hb191,h⟩
 refine Tf 122 Z Z Z hb191 Z (Tf 122 Z Z Z hb191 Z (Tf 122 Z Z Z hb191 Z (Tg 122 Z Z Z hb191 Z ⟨(Sk 1 Z (St (Sf 122 Z Z Z hb191 Z) (St (Sf 122 Z Z Z hb191 Z) (Sl Z)))), ?_⟩ ?_)))
 refine Tg 122 Z Z Z hb191 Z ⟨(Sl Z), ?_⟩ ?_
 refine Tf 122 Z Z Z hb191 Z (qt (Bv true) Z (Pt Z hb191 Z) (qt (Bv true) Z (Ag Z) (Ti ?_)))
 obtain rfl:=oi h
 exact Tj ⟨((L178.trans hle184).trans hle189),Z,hs155_1,hs155_3,hs155_5,Z⟩
 exact Tz
 exact Tz
 refine Tn (pt g21 13) 122 Z Z Z hb191 (Fa fo58_13 hs155_1 Z) Z (Tn (Sv a0.Rack) 122 Z Z Z hb191 (Lb 0 pl9 Z Z Z) Z (Tn (.func (.func 112) #[] #[(pt g21 0)]) 122 Z Z Z hb191 (Mv hs155_3) Z ?_))
 obtain ⟨r192,hr193,h⟩:=bnd h
 have h0_14:=h0_14.mono (hle184.trans hle189)
 have h0_15:=h0_15.mono (hle184.trans hle189)
 have h0_16:=h0_16.mono (hle184.trans hle189)
 have h0_17:=h0_17.mono (hle184.trans hle189)
 refine WT.altOn 122 Z Z Z hb191 (EO.callV1 (first:=#[]) (cap:=#[(pt g21 0)]) co112 Z (f_record_Check_1_ok (1024:Int) a0 _ _ _ _ _ _ h0_14 h0_15 h0_16 h0_17 r192 hr193) (argsV1 Z Z)) Z ?_ ?_
 rintro _ M194 _ hle195 ⟨_,⟨rfl,rfl⟩,rfl⟩
 refine⟨(Sk 1 Z (St (StabA.on 122 Z Z Z hb191 (Lb 0 pl9 Z Z Z) Z) (St (StabA.on 122 Z Z Z hb191 (Fa fo58_13 hs155_1 Z) Z) (Sl Z)))), ?_⟩
 refine WT.a1 ?_
 obtain ⟨r197,hr198,h⟩:=bnd h
 refine WT.altOn 122 Z Z Z hb191 (Ca co115 (f_record_text_116_ok a0.Rack r192 _ r197 hr198) (args3 Z Z Z)) Z ?_ ?_
 rintro _ M199 _ hle200 ⟨_,⟨rfl,rfl⟩,rfl⟩
 refine⟨(Sl Z), ?_⟩
 refine WT.a0 (Tn (Bv (!r197)) 122 Z Z Z hb191 (PO.not Z) Z (qt (Bv (!r197)) Z (Pf Z hb191 Z) (qt (Bv (!r197)) Z (Ag Z) (Ti ?_))))
 obtain rfl:=oi h
 exact Tj ⟨((((L178.trans hle184).trans hle189).trans hle195).trans hle200),Z,hs155_1,hs155_3,hs155_5,Z⟩
 exact Tz
 exact Tz
 exact Tz
 exact Tz
 exact Tz
 exact Tz
 rintro ρ169 M169 H169 ⟨hle169,rfl,hs169_1,hs169_3,hs169_5,hs169_107⟩
 have L169:=L155.trans hle169
 have L169_1:=L155_1.trans hle169
 refine Ch h hs169_107 (fun hb202 h=> ?_) (fun hb202 h=> ?_)
 refine Sr (qu (pt g21 10) (Fa fo58_10 hs169_1 Z) (qu (Sv a0.Name) (Lb 0 pl9 Z Z Z) (qu (Iv (a0.Name.size:Int)) (PO.lenStr Tryz.underlying9 Z) ?_)))
 obtain ⟨r203,hr204,h⟩:=bnd h
 refine We (Ca co30 (f_fault_New_ok ⟨#[110,97,109,101]⟩ (a0.Name.size:Int) (1:Int) _ r203 hr204) (args3 Z Z Z)) Z ?_
 rintro _ M205 _ hle206 ⟨_,⟨rfl,rfl⟩,rfl⟩
 exact WL.a0 (qa (GV r203) (Nt (Cr (Br (Tr (Dr (Rf h [] Z (Rs Z Z) (L169_1.trans hle206) ⟨Z,Z⟩)))))))
 obtain ⟨x208,hj209,h⟩:=bnd h
 refine Jf (fun(x208:Bool) ρ' M' H'=>M169.le M'∧[(g21, .cells (l58 a0 v0_14 v0_15 v0_16 v0_17).toArray 58 (0,0))]::F=H'∧ρ' 1=(pt g21 0)∧ρ' 3=(.func (.func 112) #[] #[(pt g21 0)])∧ρ' 134=(Bv x208)) x208 ?_ ?_
 have h:=hj209
 refine WC.draw [0,1,0,4,0,31,63,127,255,511,1023,2047,4095,8191,16383,32767,65535] (.pure 0 (.pure 1 (.pure 2 (.pure 4 (.alt 3 (.alt 5 (.pure 6 (.pure 7 (.pure 8 (.pure 9 (.pure 10 (.pure 11 (.pure 12 (.pure 13 (.pure 14 (.pure 15 (.pure 16 .done))))))))))) .none) .none))))) mixed (by kernel_rfl) (qt (pt g21 12) Z (Fa fo58_12 hs169_1 Z) (qt (Sv a0.Value) Z (Lb 0 pl9 Z Z Z) (qt (.func (.func 112) #[] #[(pt g21 0)]) Z (Mv hs169_3) (qt (.func (.func 113) #[] #[]) Z (Mv hs169_5) ?_))))
 obtain ⟨r210,hr211,h⟩:=bnd h
 have h0_14:=h0_14.mono L169
 have h0_15:=h0_15.mono L169
 have h0_16:=h0_16.mono L169
 have h0_17:=h0_17.mono L169
 refine Ta Z (EO.callV1 (first:=#[]) (cap:=#[(pt g21 0)]) co112 Z (f_record_Check_1_ok (512:Int) a0 _ _ _ _ _ _ h0_14 h0_15 h0_16 h0_17 r210 hr211) (argsV1 Z Z)) Z ?_ ?_
 rintro _ M212 _ hle213 ⟨_,⟨rfl,rfl⟩,rfl⟩
 refine⟨(Ss Z (Mv hs169_5) Z (Sk 1 Z (Ss Z (Lb 0 pl9 Z Z Z) Z (Ss Z (Fa fo58_12 hs169_1 Z) Z trivial)))), ?_⟩
 refine WT.a1 ?_
 obtain ⟨r215,hr216,h⟩:=bnd h
 refine Ta Z (Ca co115 (f_record_text_113_ok a0.Value r210 _ r215 hr216) (args3 Z Z Z)) Z ?_ ?_
 rintro _ M217 _ hle218 ⟨_,⟨rfl,rfl⟩,rfl⟩
 refine⟨(Sl Z), ?_⟩
 refine WT.a0 (qt (Bv (!r215)) Z (PO.not Z) (qt (Bv (!r215)) Z (Mv Z) ?_))
 rcases Bi h with⟨hb220,h⟩ |⟨hb220,h⟩
 refine Tf 142 Z Z Z hb220 Z (Tf 142 Z Z Z hb220 Z (Tf 142 Z Z Z hb220 Z (WT.pureOffU 145 Z Z Z Z (WT.pureOffU 145 Z Z Z Z (WT.pureOffU 145 Z Z Z Z (Tf 142 Z Z Z hb220 Z (qt (Bv true) Z (Pt Z hb220 Z) (qt (Bv true) Z (Ag Z) (Ti ?_)))))))))
 obtain rfl:=oi h
 exact Tj ⟨(hle213.trans hle218),Z,hs169_1,hs169_3,Z⟩
 refine Tn (pt g21 9) 142 Z Z Z hb220 (Fa fo58_9 hs169_1 Z) Z (Tn (Bv a0.Flag) 142 Z Z Z hb220 (Lb 0 pl4 Z Z Z) Z (Tn (Bv a0.Flag) 142 Z Z Z hb220 (Mv Z) Z ?_))
 rcases Bi h with⟨hb221,h⟩ |⟨hb221,h⟩
 refine Tn (pt g21 12) 145 Z Z Z hb221 (Fa fo58_12 hs169_1 Z) Z (Tn (Sv a0.Value) 145 Z Z Z hb221 (Lb 0 pl9 Z Z Z) Z (Tn (Bv (!decide (a0.Value=(⟨#[]⟩:ByteArray)))) 145 Z Z Z hb221 (PO.sneq Z Z) Z (Tn (Bv (!decide (a0.Value=(⟨#[]⟩:ByteArray)))) 142 Z Z Z hb220 (Pt Z hb221 Z) Z (qt (Bv (!decide (a0.Value=(⟨#[]⟩:ByteArray)))) Z (Pf Z hb220 Z) (qt (Bv (!decide (a0.Value=(⟨#[]⟩:ByteArray)))) Z (Ag Z) (Ti ?_))))))
 obtain rfl:=oi h
 exact Tj ⟨(hle213.trans hle218),Z,hs169_1,hs169_3,Z⟩
 refine Tf 145 Z Z Z hb221 Z (Tf 145 Z Z Z hb221 Z (Tf 145 Z Z Z hb221 Z (Tn (Bv false) 142 Z Z Z hb220 (Pf Z hb221 Z) Z (qt (Bv false) Z (Pf Z hb220 Z) (qt (Bv false) Z (Ag Z) (Ti ?_))))))
 obtain rfl:=oi h
 exact Tj ⟨(hle213.trans hle218),Z,hs169_1,hs169_3,Z⟩
 exact Tz
 exact Tz
 rintro ρ209 M209 H209 ⟨hle209,rfl,hs209_1,hs209_3,hs209_134⟩
 have L209:=L169.trans hle209
 have L209_1:=L169_1.trans hle209
 refine Ch h hs209_134 (fun hb222 h=> ?_) (fun hb222 h=> ?_)
 refine Sr (qu (pt g21 12) (Fa fo58_12 hs209_1 Z) (qu (Sv a0.Value) (Lb 0 pl9 Z Z Z) (qu (Iv (a0.Value.size:Int)) (PO.lenStr Tryz.underlying9 Z) ?_)))
 obtain ⟨r223,hr224,h⟩:=bnd h
 refine We (Ca co30 (f_fault_New_ok ⟨#[118,97,108,117,101]⟩ (a0.Value.size:Int) (6:Int) _ r223 hr224) (args3 Z Z Z)) Z ?_
 rintro _ M225 _ hle226 ⟨_,⟨rfl,rfl⟩,rfl⟩
 exact WL.a0 (qa (GV r223) (Nt (Cr (Br (Tr (Dr (Rf h [] Z (Rs Z Z) (L209_1.trans hle226) ⟨Z,Z⟩)))))))
 obtain ⟨x228,hj229,h⟩:=bnd h
 refine Jf (fun(x228:Bool) ρ' M' H'=>M209.le M'∧[(g21, .cells (l58 a0 v0_14 v0_15 v0_16 v0_17).toArray 58 (0,0))]::F=H'∧ρ' 1=(pt g21 0)∧ρ' 155=(Bv x228)) x228 ?_ ?_
 have h:=hj229
 refine WC.draw [0,1,0,4,15,31,63,127,255,127,639,2047,4095,8191,16383,32767,65535,32767,163839,524287,1048575,2097151,4194303,8388607,16777215,8388607,41943039,134217727,268435455,536870911,1073741823] (.pure 0 (.pure 1 (.pure 2 (.alt 3 (.alt 4 (.pure 5 (.pure 6 (.pure 7 (.pure 8 (.pure 9 (.alt 10 (.alt 11 (.pure 12 (.pure 13 (.pure 14 (.pure 15 (.pure 16 (.pure 17 (.alt 18 (.alt 19 (.pure 20 (.pure 21 (.pure 22 (.pure 23 (.pure 24 (.pure 25 (.alt 26 (.alt 27 (.pure 28 (.pure 29 (.pure 30 .done))) .none) .none))))))) .none) .none))))))) .none) .none)))))) .none) .none)))) mixed (by kernel_rfl) (qt (pt g21 14) Z (Fa fo58_14 hs209_1 Z) (qt v0_14 Z (Lb 0 pl56 Z Z Z) (qt (.func (.func 112) #[] #[(pt g21 0)]) Z (Mv hs209_3) ?_)))
 obtain ⟨r230,hr231,h⟩:=bnd h
 have h0_14:=h0_14.mono L209
 have h0_15:=h0_15.mono L209
 have h0_16:=h0_16.mono L209
 have h0_17:=h0_17.mono L209
 refine Ta Z (EO.callV1 (first:=#[]) (cap:=#[(pt g21 0)]) co112 Z (f_record_Check_1_ok (2048:Int) a0 _ _ _ _ _ _ h0_14 h0_15 h0_16 h0_17 r230 hr231) (argsV1 Z Z)) Z ?_ ?_
 rintro _ M232 _ hle233 ⟨_,⟨rfl,rfl⟩,rfl⟩
 refine⟨(Sk 1 Z (Ss Z (Lb 0 pl56 Z Z Z) Z (Ss Z (Fa fo58_14 hs209_1 Z) Z trivial))), ?_⟩
 refine WT.a1 ?_
 obtain ⟨r235,hr236,h⟩:=bnd h
 have h0_14:=h0_14.mono hle233
 refine Ta Z (Ca co117 (f_record_row_ok a0.Ids r230 _ _ h0_14 r235 hr236) (args2 Z Z)) Z ?_ ?_
 rintro _ M237 _ hle238 ⟨_,⟨rfl,rfl⟩,rfl⟩
 have L238:=hle233.trans hle238
 refine⟨(Sl Z), ?_⟩
 refine WT.a0 (qt (Bv (!r235)) Z (PO.not Z) (qt (Bv (!r235)) Z (Mv Z) ?_))
 rcases Bi h with⟨hb240,h⟩ |⟨hb240,h⟩
 refine Tf 162 Z Z Z hb240 Z (Tf 162 Z Z Z hb240 Z (Tf 162 Z Z Z hb240 Z (Tg 162 Z Z Z hb240 Z ⟨(Sk 1 Z (St (Sf 162 Z Z Z hb240 Z) (St (Sf 162 Z Z Z hb240 Z) (Sl Z)))), ?_⟩ ?_)))
 refine Tg 162 Z Z Z hb240 Z ⟨(Sl Z), ?_⟩ ?_
 refine Tf 162 Z Z Z hb240 Z (qt (Bv true) Z (Pt Z hb240 Z) (qt (Bv true) Z (Mv Z) (Tf 170 Z Z Z Z Z (Tf 170 Z Z Z Z Z (Tf 170 Z Z Z Z Z (Tg 170 Z Z Z Z Z ⟨(Sk 1 Z (St (Sf 170 Z Z Z Z Z) (St (Sf 170 Z Z Z Z Z) (Sl Z)))), ?_⟩ ?_))))))
 refine Tg 170 Z Z Z Z Z ⟨(Sl Z), ?_⟩ ?_
 refine Tf 170 Z Z Z Z Z (qt (Bv true) Z (Pt Z Z Z) (qt (Bv true) Z (Mv Z) (Tf 178 Z Z Z Z Z (Tf 178 Z Z Z Z Z (Tf 178 Z Z Z Z Z (Tg 178 Z Z Z Z Z ⟨(Sk 1 Z (St (Sf 178 Z Z Z Z Z) (St (Sf 178 Z Z Z Z Z) (Sl Z)))), ?_⟩ ?_))))))
 refine Tg 178 Z Z Z Z Z ⟨(Sl Z), ?_⟩ ?_
 refine Tf 178 Z Z Z Z Z (qt (Bv true) Z (Pt Z Z Z) (qt (Bv true) Z (Ag Z) (Ti ?_)))
 obtain rfl:=oi h
 exact Tj ⟨L238,Z,hs209_1,Z⟩
 exact Tz
 exact Tz
 exact Tz
 exact Tz
 exact Tz
 exact Tz
 refine Tn (pt g21 15) 162 Z Z Z hb240 (Fa fo58_15 hs209_1 Z) Z (Tn v0_15 162 Z Z Z hb240 (Lb 0 pl56 Z Z Z) Z (Tn (.func (.func 112) #[] #[(pt g21 0)]) 162 Z Z Z hb240 (Mv hs209_3) Z ?_))
 obtain ⟨r241,hr242,h⟩:=bnd h
 have h0_14:=h0_14.mono hle238
 have h0_15:=h0_15.mono L238
 have h0_16:=h0_16.mono L238
 have h0_17:=h0_17.mono L238
 refine WT.altOn 162 Z Z Z hb240 (EO.callV1 (first:=#[]) (cap:=#[(pt g21 0)]) co112 Z (f_record_Check_1_ok (4096:Int) a0 _ _ _ _ _ _ h0_14 h0_15 h0_16 h0_17 r241 hr242) (argsV1 Z Z)) Z ?_ ?_
 rintro _ M243 _ hle244 ⟨_,⟨rfl,rfl⟩,rfl⟩
 refine⟨(Sk 1 Z (St (StabA.on 162 Z Z Z hb240 (Lb 0 pl56 Z Z Z) Z) (St (StabA.on 162 Z Z Z hb240 (Fa fo58_15 hs209_1 Z) Z) (Sl Z)))), ?_⟩
 refine WT.a1 ?_
 obtain ⟨r246,hr247,h⟩:=bnd h
 have h0_15:=h0_15.mono hle244
 refine WT.altOn 162 Z Z Z hb240 (Ca co117 (f_record_row_ok a0.Isr r241 _ _ h0_15 r246 hr247) (args2 Z Z)) Z ?_ ?_
 rintro _ M248 _ hle249 ⟨_,⟨rfl,rfl⟩,rfl⟩
 have L249:=((hle233.trans hle238).trans hle244).trans hle249
 refine⟨(Sl Z), ?_⟩
 refine WT.a0 (Tn (Bv (!r246)) 162 Z Z Z hb240 (PO.not Z) Z (qt (Bv (!r246)) Z (Pf Z hb240 Z) (qt (Bv (!r246)) Z (Mv Z) ?_)))
 rcases Bi h with⟨hb251,h⟩ |⟨hb251,h⟩
 refine Tf 170 Z Z Z hb251 Z (Tf 170 Z Z Z hb251 Z (Tf 170 Z Z Z hb251 Z (Tg 170 Z Z Z hb251 Z ⟨(Sk 1 Z (St (Sf 170 Z Z Z hb251 Z) (St (Sf 170 Z Z Z hb251 Z) (Sl Z)))), ?_⟩ ?_)))
 refine Tg 170 Z Z Z hb251 Z ⟨(Sl Z), ?_⟩ ?_
 refine Tf 170 Z Z Z hb251 Z (qt (Bv true) Z (Pt Z hb251 Z) (qt (Bv true) Z (Mv Z) (Tf 178 Z Z Z Z Z (Tf 178 Z Z Z Z Z (Tf 178 Z Z Z Z Z (Tg 178 Z Z Z Z Z ⟨(Sk 1 Z (St (Sf 178 Z Z Z Z Z) (St (Sf 178 Z Z Z Z Z) (Sl Z)))), ?_⟩ ?_))))))
 refine Tg 178 Z Z Z Z Z ⟨(Sl Z), ?_⟩ ?_
 refine Tf 178 Z Z Z Z Z (qt (Bv true) Z (Pt Z Z Z) (qt (Bv true) Z (Ag Z) (Ti ?_)))
 obtain rfl:=oi h
 exact Tj ⟨L249,Z,hs209_1,Z⟩
 exact Tz
 exact Tz
 exact Tz
 exact Tz
 refine Tn (pt g21 16) 170 Z Z Z hb251 (Fa fo58_16 hs209_1 Z) Z (Tn v0_16 170 Z Z Z hb251 (Lb 0 pl56 Z Z Z) Z (Tn (.func (.func 112) #[] #[(pt g21 0)]) 170 Z Z Z hb251 (Mv hs209_3) Z ?_))
 obtain ⟨r252,hr253,h⟩:=bnd h
 have h0_14:=h0_14.mono (hle244.trans hle249)
 have h0_15:=h0_15.mono hle249
 have h0_16:=h0_16.mono (hle244.trans hle249)
 have h0_17:=h0_17.mono (hle244.trans hle249)
 refine WT.altOn 170 Z Z Z hb251 (EO.callV1 (first:=#[]) (cap:=#[(pt g21 0)]) co112 Z (f_record_Check_1_ok (8192:Int) a0 _ _ _ _ _ _ h0_14 h0_15 h0_16 h0_17 r252 hr253) (argsV1 Z Z)) Z ?_ ?_
 rintro _ M254 _ hle255 ⟨_,⟨rfl,rfl⟩,rfl⟩
 refine⟨(Sk 1 Z (St (StabA.on 170 Z Z Z hb251 (Lb 0 pl56 Z Z Z) Z) (St (StabA.on 170 Z Z Z hb251 (Fa fo58_16 hs209_1 Z) Z) (Sl Z)))), ?_⟩
 refine WT.a1 ?_
 obtain ⟨r257,hr258,h⟩:=bnd h
 have h0_16:=h0_16.mono hle255
 refine WT.altOn 170 Z Z Z hb251 (Ca co117 (f_record_row_ok a0.Add r252 _ _ h0_16 r257 hr258) (args2 Z Z)) Z ?_ ?_
 rintro _ M259 _ hle260 ⟨_,⟨rfl,rfl⟩,rfl⟩
 refine⟨(Sl Z), ?_⟩
 refine WT.a0 (Tn (Bv (!r257)) 170 Z Z Z hb251 (PO.not Z) Z (qt (Bv (!r257)) Z (Pf Z hb251 Z) (qt (Bv (!r257)) Z (Mv Z) ?_)))
 rcases Bi h with⟨hb262,h⟩ |⟨hb262,h⟩
 refine Tf 178 Z Z Z hb262 Z (Tf 178 Z Z Z hb262 Z (Tf 178 Z Z Z hb262 Z (Tg 178 Z Z Z hb262 Z ⟨(Sk 1 Z (St (Sf 178 Z Z Z hb262 Z) (St (Sf 178 Z Z Z hb262 Z) (Sl Z)))), ?_⟩ ?_)))
 refine Tg 178 Z Z Z hb262 Z ⟨(Sl Z), ?_⟩ ?_
 refine Tf 178 Z Z Z hb262 Z (qt (Bv true) Z (Pt Z hb262 Z) (qt (Bv true) Z (Ag Z) (Ti ?_)))
 obtain rfl:=oi h
 exact Tj ⟨((L249.trans hle255).trans hle260),Z,hs209_1,Z⟩
 exact Tz
 exact Tz
 refine Tn (pt g21 17) 178 Z Z Z hb262 (Fa fo58_17 hs209_1 Z) Z (Tn v0_17 178 Z Z Z hb262 (Lb 0 pl56 Z Z Z) Z (Tn (.func (.func 112) #[] #[(pt g21 0)]) 178 Z Z Z hb262 (Mv hs209_3) Z ?_))
 obtain ⟨r263,hr264,h⟩:=bnd h
 have h0_14:=h0_14.mono (hle255.trans hle260)
 have h0_15:=h0_15.mono (hle255.trans hle260)
 have h0_16:=h0_16.mono hle260
 have h0_17:=h0_17.mono (hle255.trans hle260)
 refine WT.altOn 178 Z Z Z hb262 (EO.callV1 (first:=#[]) (cap:=#[(pt g21 0)]) co112 Z (f_record_Check_1_ok (8192:Int) a0 _ _ _ _ _ _ h0_14 h0_15 h0_16 h0_17 r263 hr264) (argsV1 Z Z)) Z ?_ ?_
 rintro _ M265 _ hle266 ⟨_,⟨rfl,rfl⟩,rfl⟩
 refine⟨(Sk 1 Z (St (StabA.on 178 Z Z Z hb262 (Lb 0 pl56 Z Z Z) Z) (St (StabA.on 178 Z Z Z hb262 (Fa fo58_17 hs209_1 Z) Z) (Sl Z)))), ?_⟩
 refine WT.a1 ?_
 obtain ⟨r268,hr269,h⟩:=bnd h
 have h0_17:=h0_17.mono hle266
 refine WT.altOn 178 Z Z Z hb262 (Ca co117 (f_record_row_ok a0.Drop r263 _ _ h0_17 r268 hr269) (args2 Z Z)) Z ?_ ?_
 rintro _ M270 _ hle271 ⟨_,⟨rfl,rfl⟩,rfl⟩
 refine⟨(Sl Z), ?_⟩
 refine WT.a0 (Tn (Bv (!r268)) 178 Z Z Z hb262 (PO.not Z) Z (qt (Bv (!r268)) Z (Pf Z hb262 Z) (qt (Bv (!r268)) Z (Ag Z) (Ti ?_))))
 obtain rfl:=oi h
 exact Tj ⟨((((L249.trans hle255).trans hle260).trans hle266).trans hle271),Z,hs209_1,Z⟩
 exact Tz
 exact Tz
 exact Tz
 exact Tz
 exact Tz
 exact Tz
 exact Tz
 exact Tz
 rintro ρ229 M229 H229 ⟨hle229,rfl,hs229_1,hs229_155⟩
 refine Ch h hs229_155 (fun hb273 h=> ?_) (fun hb273 h=> ?_)
 refine Sr (qu (pt g21 14) (Fa fo58_14 hs229_1 Z) (qu v0_14 (Lb 0 pl56 Z Z Z) ?_))
 have h0_14:=h0_14.mono (L209.trans hle229)
 refine qu (Iv (a0.Ids.length:Int)) (PO.lenS Tryz.underlying56 Z h0_14.len) ?_
 obtain ⟨r274,hr275,h⟩:=bnd h
 refine We (Ca co30 (f_fault_New_ok ⟨#[114,111,119]⟩ (a0.Ids.length:Int) (18:Int) _ r274 hr275) (args3 Z Z Z)) Z ?_
 rintro _ M276 _ hle277 ⟨_,⟨rfl,rfl⟩,rfl⟩
 exact WL.a0 (qa (GV r274) (Nt (Cr (Br (Tr (Dr (Rf h [] Z (Rs Z Z) ((L209_1.trans hle229).trans hle277) ⟨Z,Z⟩)))))))
 exact Ck (Bn (Tc (Sr (qa (GV GErr.nil) (Nt (Cr (Dr (Rf h [] Z (Rs Z Z) (L209_1.trans hle229) ⟨Z,Z⟩))))))))
 exact Tz
 exact Tz
 exact Tz
 exact Tz
 exact Tz
 exact Tz
 exact Tz
 exact Tz
 exact Tz
 exact Tz
noncomputable def f_fault_Wrap (a0:ByteArray) (a1:Int) (a2:GErr):Option GErr:=
 (if a2.isNil=true then(some GErr.nil)else(some (GErr.fault a0 a1 a2)))
def f_fault_Wrap_post (a0:ByteArray) (a1:Int) (a2:GErr):GErr→Value→IM→HL→Prop:=
 fun(r0:GErr) (v:Value) (M':IM) (H':HL)=>(GV r0)=v∧H'=[]
theorem f_fault_Wrap_ok (a0:ByteArray) (a1:Int) (a2:GErr) (M:IM) (res:GErr) (h:f_fault_Wrap a0 a1 a2=some res):
 Tri Tryz.prog 29 #[(Sv a0),(Iv a1),(GV a2)] M [] (f_fault_Wrap_post a0 a1 a2 res):=by
 unfold f_fault_Wrap at h
 refine Te Tryz.func29 Z Z ?_
 intro F ρ hρ
 refine Sr (qa (GV GErr.nil) (Nt (Cs (Sr (qM (GV a2) (hρ 2) (qu (Bv a2.isNil) (PO.errNil Tryz.underlying31 Z) (Nt (Ch h Z (fun hb21 h=> ?_) (fun hb21 h=> ?_)))))))))
 exact Sr (qa (GV GErr.nil) (Nt (Cr (Tr (Rf h [] Z (Rs Z Z) lr ⟨Z,Z⟩)))))
 exact Ck (Tc (Sr (qM (Sv a0) (hρ 0) (qM (Iv a1) (hρ 1) (qM (GV a2) (hρ 2) (qu (.agg #[(Sv a0),(Iv a1),(GV a2)]) (Bl (cl:=[(Sv a0),(Iv a1),(GV a2)]) ze108 fp108 (Pc (Sv a0) Z Z (Pc (Iv a1) Z Z (Parts.cons ((congrArg Value.cells (show ev _ _=(GV a2) from Z)).trans (GErr.val_cells _ _ _ _)) Pz))) Z) (qu (GV (GErr.fault a0 a1 a2)) (PO.makeInterface cc108 Z) (qa (GV (GErr.fault a0 a1 a2)) (Nt (Cr (Rf h [] Z (Rs Z Z) lr ⟨Z,Z⟩)))))))))))
noncomputable def f_batch_Check_l0 (a0:T_api_Batch) (s_:Int):Option (Int⊕(Unit⊕GErr)):=
 match s_ with
 |x51=>
 (if(decide (x51<(a0.Records.length:Int)))=true then(grd (0≤x51∧x51<a0.Records.length) ((f_record_Check (rd a0.Records x51)).bind fun r62=>(if(!r62.isNil)=true then((f_fault_Wrap (⟨#[114,101,99,111,114,100]⟩:ByteArray) x51 r62).bind fun r68=>(some (Sum.inr (Sum.inr r68))))else(some (Sum.inl (IntKind.i64.wrap (x51+(1:Int))))))))else(some (Sum.inr (Sum.inl ()))))
noncomputable def f_batch_Check (a0:T_api_Batch):Option GErr:=
 (((if(decide (a0.Term<(1:Int)))=true then(some true)else(some (decide ((1073741824:Int)<a0.Term)))):Option Bool).bind fun x22=>(if x22=true then((f_fault_New (⟨#[116,101,114,109]⟩:ByteArray) a0.Term (2:Int)).bind fun r26=>(some r26))else(((if(decide (a0.Base<(0:Int)))=true then(some true)else(some (decide ((1073741824:Int)<a0.Base)))):Option Bool).bind fun x31=>(if x31=true then((f_fault_New (⟨#[98,97,115,101]⟩:ByteArray) a0.Base (2:Int)).bind fun r35=>(some r35))else(((if(decide ((a0.Records.length:Int)<(1:Int)))=true then(some true)else(some (decide ((64:Int)<(a0.Records.length:Int))))):Option Bool).bind fun x40=>(if x40=true then((f_fault_New (⟨#[114,101,99,111,114,100,115]⟩:ByteArray) (a0.Records.length:Int) (6:Int)).bind fun r44=>(some r44))else((((iter (f_batch_Check_l0 a0) (0:Int)).bind (Sum.elim (fun _=>(some (Sum.inl ()))) (fun(x52:GErr)=>(((some x52)).bind fun r=>some (Sum.inr r))))):Option (Unit⊕GErr)).bind (Sum.elim (fun _=>(some GErr.nil)) some))))))))
def f_batch_Check_post (a0:T_api_Batch) (v0_2:Value):GErr→Value→IM→HL→Prop:=
 fun(r0:GErr) (v:Value) (M':IM) (H':HL)=>(GV r0)=v∧H'=[]
theorem f_batch_Check_ok (a0:T_api_Batch) (M:IM) (v0_2:Value) (h0_2:RS kd_api_Record M v0_2 a0.Records) (res:GErr) (h:f_batch_Check a0=some res):
 Tri Tryz.prog 49 #[(a55_ a0 v0_2)] M [] (f_batch_Check_post a0 v0_2 res):=by
 unfold f_batch_Check at h
 refine Te Tryz.func49 Z Z ?_
 intro F ρ hρ
 refine Sr (We (EO.box (cs:=(l55 a0 v0_2).toArray) (congrArg Value.cells (asE (a55_ a0 v0_2) (hρ 0)))) Z ?_)
 rintro _ _ _ - ⟨rfl,g21,rfl,rfl⟩
 refine qa (GV GErr.nil) (Nt (Cs (Bk ?_)))
 obtain ⟨x22,hj23,h⟩:=bnd h
 refine Jf (fun(x22:Bool) ρ' M' H'=>M.le M'∧[(g21, .cells (l55 a0 v0_2).toArray 55 (0,0))]::F=H'∧ρ' 1=(pt g21 0)∧ρ' 6=(Bv x22)) x22 ?_ ?_
 have h:=hj23
 refine Cg (qu (pt g21 0) (Fa fo55_0 Z Z) (qu (Iv a0.Term) (Lb 0 pl3 Z Z Z) (qu (Bv (decide (a0.Term<1))) (PO.lss Z Z) (qm (Bv (decide (a0.Term<1))) ?_))))
 rcases Bi h with⟨hb24,h⟩ |⟨hb24,h⟩
 iterate 3 refine Of 10 Z Z hb24 Z ?_
 refine qu (Bv true) (Pt Z hb24 Z) (qa (Bv true) (Wz ?_))
 obtain rfl:=oi h
 exact Tj ⟨lr,Z,Z,Z⟩
 refine qo 10 hb24 (pt g21 0) (Fa fo55_0 Z Z) (qo 10 hb24 (Iv a0.Term) (Lb 0 pl3 Z Z Z) (qo 10 hb24 (Bv (decide ((1073741824:Int)<a0.Term))) (PO.gtr Z Z) (qu (Bv (decide ((1073741824:Int)<a0.Term))) (Pf Z hb24 Z) (qa (Bv (decide ((1073741824:Int)<a0.Term))) (Wz ?_)))))
 obtain rfl:=oi h
 exact Tj ⟨lr,Z,Z,Z⟩
 rintro ρ23 M23 H23 ⟨hle23,rfl,hs23_1,hs23_6⟩
 refine Ch h hs23_6 (fun hb25 h=> ?_) (fun hb25 h=> ?_)
 refine Sr (qu (pt g21 0) (Fa fo55_0 hs23_1 Z) (qu (Iv a0.Term) (Lb 0 pl3 Z Z Z) ?_))
 obtain ⟨r26,hr27,h⟩:=bnd h
 refine We (Ca co30 (f_fault_New_ok ⟨#[116,101,114,109]⟩ a0.Term (2:Int) _ r26 hr27) (args3 Z Z Z)) Z ?_
 rintro _ M28 _ hle29 ⟨_,⟨rfl,rfl⟩,rfl⟩
 exact WL.a0 (qa (GV r26) (Nt (Cr (Br (Tr (Dr (Rf h [] Z (Rs Z Z) (hle23.trans hle29) ⟨Z,Z⟩)))))))
 obtain ⟨x31,hj32,h⟩:=bnd h
 refine Jf (fun(x31:Bool) ρ' M' H'=>M23.le M'∧[(g21, .cells (l55 a0 v0_2).toArray 55 (0,0))]::F=H'∧ρ' 1=(pt g21 0)∧ρ' 18=(Bv x31)) x31 ?_ ?_
 have h:=hj32
 refine Cg (qu (pt g21 1) (Fa fo55_1 hs23_1 Z) (qu (Iv a0.Base) (Lb 0 pl3 Z Z Z) (qu (Bv (decide (a0.Base<0))) (PO.lss Z Z) (qm (Bv (decide (a0.Base<0))) ?_))))
 rcases Bi h with⟨hb33,h⟩ |⟨hb33,h⟩
 iterate 3 refine Of 22 Z Z hb33 Z ?_
 refine qu (Bv true) (Pt Z hb33 Z) (qa (Bv true) (Wz ?_))
 obtain rfl:=oi h
 exact Tj ⟨lr,Z,hs23_1,Z⟩
 refine qo 22 hb33 (pt g21 1) (Fa fo55_1 hs23_1 Z) (qo 22 hb33 (Iv a0.Base) (Lb 0 pl3 Z Z Z) (qo 22 hb33 (Bv (decide ((1073741824:Int)<a0.Base))) (PO.gtr Z Z) (qu (Bv (decide ((1073741824:Int)<a0.Base))) (Pf Z hb33 Z) (qa (Bv (decide ((1073741824:Int)<a0.Base))) (Wz ?_)))))
 obtain rfl:=oi h
 exact Tj ⟨lr,Z,hs23_1,Z⟩
 rintro ρ32 M32 H32 ⟨hle32,rfl,hs32_1,hs32_18⟩
 have L32:=hle23.trans hle32
 refine Ch h hs32_18 (fun hb34 h=> ?_) (fun hb34 h=> ?_)
 refine Sr (qu (pt g21 1) (Fa fo55_1 hs32_1 Z) (qu (Iv a0.Base) (Lb 0 pl3 Z Z Z) ?_))
 obtain ⟨r35,hr36,h⟩:=bnd h
 refine We (Ca co30 (f_fault_New_ok ⟨#[98,97,115,101]⟩ a0.Base (2:Int) _ r35 hr36) (args3 Z Z Z)) Z ?_
 rintro _ M37 _ hle38 ⟨_,⟨rfl,rfl⟩,rfl⟩
 exact WL.a0 (qa (GV r35) (Nt (Cr (Br (Tr (Dr (Rf h [] Z (Rs Z Z) (L32.trans hle38) ⟨Z,Z⟩)))))))
 obtain ⟨x40,hj41,h⟩:=bnd h
 refine Jf (fun(x40:Bool) ρ' M' H'=>M32.le M'∧[(g21, .cells (l55 a0 v0_2).toArray 55 (0,0))]::F=H'∧ρ' 1=(pt g21 0)∧ρ' 30=(Bv x40)) x40 ?_ ?_
 have h:=hj41
 refine Cg (qu (pt g21 2) (Fa fo55_2 hs32_1 Z) (qu v0_2 (Lb 0 pl53 Z Z Z) ?_))
 have h0_2:=h0_2.mono L32
 refine qu (Iv (a0.Records.length:Int)) (PO.lenS Tryz.underlying53 Z h0_2.len) (qu (Bv (decide ((a0.Records.length:Int)<(1:Int)))) (PO.lss Z Z) (qm (Bv (decide ((a0.Records.length:Int)<(1:Int)))) ?_))
 rcases Bi h with⟨hb42,h⟩ |⟨hb42,h⟩
 iterate 4 refine Of 35 Z Z hb42 Z ?_
 refine qu (Bv true) (Pt Z hb42 Z) (qa (Bv true) (Wz ?_))
 obtain rfl:=oi h
 exact Tj ⟨lr,Z,hs32_1,Z⟩
 refine qo 35 hb42 (pt g21 2) (Fa fo55_2 hs32_1 Z) (qo 35 hb42 v0_2 (Lb 0 pl53 Z Z Z) (qo 35 hb42 (Iv (a0.Records.length:Int)) (PO.lenS Tryz.underlying53 Z h0_2.len) (qo 35 hb42 (Bv (decide ((64:Int)<(a0.Records.length:Int)))) (PO.gtr Z Z) (qu (Bv (decide ((64:Int)<(a0.Records.length:Int)))) (Pf Z hb42 Z) (qa (Bv (decide ((64:Int)<(a0.Records.length:Int)))) (Wz ?_))))))
 obtain rfl:=oi h
 exact Tj ⟨lr,Z,hs32_1,Z⟩
 rintro ρ41 M41 H41 ⟨hle41,rfl,hs41_1,hs41_30⟩
 have L41:=L32.trans hle41
 refine Ch h hs41_30 (fun hb43 h=> ?_) (fun hb43 h=> ?_)
 refine Sr (qu (pt g21 2) (Fa fo55_2 hs41_1 Z) (qu v0_2 (Lb 0 pl53 Z Z Z) ?_))
 have h0_2:=h0_2.mono L41
 refine qu (Iv (a0.Records.length:Int)) (PO.lenS Tryz.underlying53 Z h0_2.len) ?_
 obtain ⟨r44,hr45,h⟩:=bnd h
 refine We (Ca co30 (f_fault_New_ok ⟨#[114,101,99,111,114,100,115]⟩ (a0.Records.length:Int) (6:Int) _ r44 hr45) (args3 Z Z Z)) Z ?_
 rintro _ M46 _ hle47 ⟨_,⟨rfl,rfl⟩,rfl⟩
 exact WL.a0 (qa (GV r44) (Nt (Cr (Br (Tr (Dr (Rf h [] Z (Rs Z Z) (L41.trans hle47) ⟨Z,Z⟩)))))))
 refine Ck (Bn (Tc ?_))
 obtain ⟨j49,hj49,h⟩:=bnd h
 refine WC.joinE (fun(_:Unit) ρ' M' H'=>M41.le M'∧[(g21, .cells (l55 a0 v0_2).toArray 55 (0,0))]::F=H') j49 ?_ ?_
 have h349:=h
 have h:=hj49
 refine Sr (qu (pt g21 2) (Fa fo55_2 hs41_1 Z) (qu v0_2 (Lb 0 pl53 Z Z Z) ?_))
 have h0_2:=h0_2.mono L41
 refine qu (Iv (a0.Records.length:Int)) (PO.lenS Tryz.underlying53 Z h0_2.len) (qm (Iv 0) (Nt (Bk ?_)))
 obtain ⟨e50,he50,hK50⟩:=bnd h
 clear h
 refine WC.loop he50 (fun(x51:Int) ρ' M' H'=>M41.le M'∧[(g21, .cells (l55 a0 v0_2).toArray 55 (0,0))]::F=H'∧ρ' 46=v0_2∧ρ' 47=(Iv (a0.Records.length:Int))∧ρ' 48=(Iv x51)) ?_ ?_
 exact⟨lr,Z,Z,Z,Z⟩
 rintro x51 o50 ρ50 M50 H50 h ⟨hle50,rfl,hs50_46,hs50_47,hs50_48⟩
 unfold f_batch_Check_l0 at h
 refine Sr (qu (Bv (decide (x51<(a0.Records.length:Int)))) (PO.lss hs50_48 hs50_47) (Nt (Cs (Ch h Z (fun hb53 h=> ?_) (fun hb53 h=> ?_)))))
 refine Ck (Tc (Cs (Bk (Sr (qM (Iv x51) hs50_48 ?_)))))
 obtain ⟨hg54,h⟩:=grd_i h
 have h0_2:=h0_2.mono hle50
 obtain ⟨p55,cs56,hat57,hrc58,hhas59⟩:=h0_2.at hg54.1 hg54.2 (by decide)
 obtain ⟨vw60_14,vw60_15,vw60_16,vw60_17,rfl,hw60_14,hw60_15,hw60_16,hw60_17⟩:=kd_api_Record_open hrc58
 refine qu (.pointer (some p55)) (PO.indexAddr (n:=a0.Records.length) Tryz.underlying53 sz58 hs50_46 hs50_48 hg54.1 hg54.2 hat57) (qu (a58_ (rd a0.Records x51) vw60_14 vw60_15 vw60_16 vw60_17) (PO.loadMA (cs:=(l58 (rd a0.Records x51) vw60_14 vw60_15 vw60_16 vw60_17)) ag58 sz58 Z hhas59) (We (Al ze58 Z) Z ?_))
 rintro _ _ _ - ⟨rfl,g61,rfl,rfl⟩
 refine qa (Iv x51) (We (Sg (v:=(a58_ (rd a0.Records x51) vw60_14 vw60_15 vw60_16 vw60_17)) (vl:=(l58 (rd a0.Records x51) vw60_14 vw60_15 vw60_16 vw60_17)) (arr':=(l58 (rd a0.Records x51) vw60_14 vw60_15 vw60_16 vw60_17)) Z sz58 Z Z (onesOf (Oc Z (Oc Z (Oc Z (Oc Z (Oc Z (Oc Z (Oc Z (Oc Z (Oc Z (Oc Z (Oc Z (Oc Z (Oc Z (Oc Z (Oc (RS.one hw60_14) (Oc (RS.one hw60_15) (Oc (RS.one hw60_16) (Oc (RS.one hw60_17) Oz))))))))))))))))))) Z Z (by kernel_rfl)) Z ?_)
 rintro _ _ _ - ⟨rfl,rfl⟩
 refine Ns (qu (a58_ (rd a0.Records x51) vw60_14 vw60_15 vw60_16 vw60_17) (La (cs:=(l58 (rd a0.Records x51) vw60_14 vw60_15 vw60_16 vw60_17)) 0 ag58 sz58 Z Z Z) ?_)
 obtain ⟨r62,hr63,h⟩:=bnd h
 refine We (Ca co77 (f_record_Check_ok (rd a0.Records x51) _ _ _ _ _ hw60_14 hw60_15 hw60_16 hw60_17 r62 hr63) (args1 Z)) Z ?_
 rintro _ M64 _ hle65 ⟨_,⟨rfl,rfl⟩,rfl⟩
 refine WL.a0 (qa (GV r62) (Ns (qm (GV r62) (qu (Bv (!r62.isNil)) (PO.errNotNil Tryz.underlying31 Z) (Nt (Ch h Z (fun hb67 h=> ?_) (fun hb67 h=> ?_)))))))
 refine Sr (qm (Iv x51) (qm (GV r62) ?_))
 obtain ⟨r68,hr69,h⟩:=bnd h
 refine We (Ca co29 (f_fault_Wrap_ok ⟨#[114,101,99,111,114,100]⟩ x51 r62 _ r68 hr69) (args3 Z Z Z)) Z ?_
 rintro _ M70 _ hle71 ⟨_,⟨rfl,rfl⟩,rfl⟩
 refine WL.a0 (qa (GV r68) (Nt (Cr (Br (Tr (WQ.leaveR (Sum.inr r68) (oi h).symm (fun heq50=> ?_)))))))
 subst heq50
 have h:=(elimR hK50)
 refine Br (Tr ?_)
 have h:=KK.early h h349
 exact Dr (Dr (Rf h [] Z (Rs Z Z) (((L41.trans hle50).trans hle65).trans hle71) ⟨Z,Z⟩))
 exact Ck (Bn (Tc (Cg (qu (Iv (IntKind.i64.wrap (x51+1))) (PO.add hs50_48 Z) (qm (Iv (IntKind.i64.wrap (x51+1))) (Wz (Dr (WQ.again (IntKind.i64.wrap (x51+1)) (oi h).symm ⟨(hle50.trans hle65),Z,hs50_46,hs50_47,Z⟩))))))))
 refine WC.exit (WQ.thenE (WQ.leaveE (Sum.inl ()) (oi h).symm (fun heq50=> ?_)))
 subst heq50
 have h:=elimL hK50
 exact WQ.blockH (WQ.thenFE h ⟨hle50,Z⟩)
 rintro _ ρ49 M49 H49 rfl ⟨hle49,rfl⟩
 have h:=(Sum.elim_inl _ _ _).symm.trans h
 exact Sr (qa (GV GErr.nil) (Nt (Cr (Dr (Rf h [] Z (Rs Z Z) (L41.trans hle49) ⟨Z,Z⟩)))))

end Go.Proofs.YtkflneabcannnaaGreatDoor.G
