/- Go functions: what they come to, and that they do. Printed by a program of the session (gen). -/
import Derived.Test.YtkflneabcannnaaGreatDoorPF
import Derived.Test.YtkflneabcannnaaGreatDoorP0
import Derived.Test.YtkflneabcannnaaGreatDoorP2
import Derived.Test.YtkflneabcannnaaGreatDoorP3
import Derived.Test.YtkflneabcannnaaGreatDoorP4
import Derived.Test.YtkflneabcannnaaGreatDoorP5
import Derived.Test.YtkflneabcannnaaGreatDoorKConv
import Derived.Test.YtkflneabcannnaaGreatDoorKShar2
import Derived.Test.YtkflneabcannnaaGreatDoorKTight2
set_option linter.unusedVariables false
set_option linter.unusedSimpArgs false
set_option maxHeartbeats 8000000
set_option maxRecDepth 100000
namespace Go.Proofs.YtkflneabcannnaaGreatDoor.G
open Go Go.KK

noncomputable def f_wire_Reader_End (a0:T_wire_Reader):Option (GErr×GErr):=
 (((if(decide (a0.at_<(a0.b.length:Int)))=true then((f_wire_Reader_fail a0 (⟨#[101,110,100]⟩:ByteArray) a0.at_ (5:Int)).bind fun r24=>(some r24))else(some a0.err)):Option GErr).bind fun x21=>(some (x21,x21)))
def f_wire_Reader_End_post (a0:T_wire_Reader) (v0_0:Value) (g0:Nat):(GErr×GErr)→Value→IM→HL→Prop:=
 fun(p_:(GErr×GErr)) (v:Value) (M':IM) (H':HL)=>match p_ with |(r0,r1)=>(GV r0)=v∧H'=[[(g0, .cells #[v0_0,(.int .i64 a0.at_),(GV r1)] 110 (0,0))]]
theorem f_wire_Reader_End_ok (a0:T_wire_Reader) (M:IM) (v0_0:Value) (g0:Nat) (h0_0:RS (Kd.int .u8) M v0_0 a0.b) (res:(GErr×GErr)) (h:f_wire_Reader_End a0=some res):
 Tri Tryz.prog 38 #[(pt g0 0)] M [[(g0, .cells #[v0_0,(Iv a0.at_),(GV a0.err)] 110 (0,0))]] (f_wire_Reader_End_post a0 v0_0 g0 res):=by
 unfold f_wire_Reader_End at h
 refine Te Tryz.func38 Z Z ?_
 intro F ρ hρ
 refine Sr (qa (GV GErr.nil) (Nt ?_))
 obtain ⟨x21,hj22,h⟩:=bnd h
 refine Jf (fun(x21:GErr) ρ' M' H'=>M.le M'∧[(g0, .cells #[v0_0,(Iv a0.at_),(GV x21)] 110 (0,0))]::F=H'∧ρ' 0=(pt g0 0)) x21 ?_ ?_
 have h:=hj22
 refine Cs (WC.draw [0,1,3,7,0,16,48,112,240,511] (.pure 0 (.pure 1 (.pure 2 (.pure 3 (.pure 4 (.pure 5 (.pure 6 (.pure 7 (.pure 8 (.pure 9 .done)))))))))) mixed (by kernel_rfl) (qt (pt g0 0) Z (Mv (hρ 0)) (qt (pt g0 0) Z (Nk Z) (qt (pt g0 1) Z (Fa fo110_1 Z Z) (qt (Iv a0.at_) Z (Lb 0 pl3 Z Z Z) (qt (pt g0 0) Z (Mv (hρ 0)) (qt (pt g0 0) Z (Nk Z) (qt (pt g0 0) Z (Fa fo110_0 Z Z) (qt v0_0 Z (Lb 0 pl23 Z Z Z) (qt (Iv (a0.b.length:Int)) Z (PO.lenS Tryz.underlying23 Z h0_0.len) (qt (Bv (decide (a0.at_<(a0.b.length:Int)))) Z (PO.lss Z Z) ?_)))))))))))
 refine Ti (Tc (Ch h Z (fun hb23 h=> ?_) (fun hb23 h=> ?_)))
 refine Cg (qM (pt g0 0) (hρ 0) (qM (pt g0 0) (hρ 0) (qu (pt g0 0) (Nk Z) (qu (pt g0 1) (Fa fo110_1 Z Z) (qu (Iv a0.at_) (Lb 0 pl3 Z Z Z) ?_)))))
 obtain ⟨r24,hr25,h⟩:=bnd h
 refine We (Cb co69 (f_wire_Reader_fail_ok a0 (⟨#[101,110,100]⟩:ByteArray) a0.at_ (5:Int) _ _ _ h0_0 r24 hr25) (args4 Z Z Z Z)) Z ?_
 rintro _ M26 _ hle27 ⟨_,⟨rfl,rfl⟩,rfl⟩
 refine WL.a1 (Wz ?_)
 obtain rfl:=oi h
 exact Tj ⟨hle27,Z,(hρ 0)⟩
 refine Ck ?_
 obtain rfl:=oi h
 exact Tj ⟨lr,Z,(hρ 0)⟩
 rintro ρ22 M22 H22 ⟨hle22,rfl,hs22_0⟩
 exact Sr (qM (pt g0 0) hs22_0 (qu (pt g0 0) (Nk Z) (qu (pt g0 2) (Fa fo110_2 Z Z) (qu (GV x21) (Lb 0 pl31 Z Z Z) (qa (GV x21) (Nt (Cr (Rf h [[(g0, .cells #[v0_0,(Iv a0.at_),(GV x21)] 110 (0,0))]] Z (Rs Z Z) hle22 ⟨Z,Z⟩))))))))
noncomputable def f_rpc_Read_l0 (r34:T_wire_Reader) (r234:Int) (s_:(Int×Int×GErr×(List T_api_Batch))):Option ((Int×Int×GErr×(List T_api_Batch))⊕(Int×GErr×(List T_api_Batch))):=
 match s_ with
 |(x242,x243,x244,x245)=>
 (((if(decide (x242<r234))=true then((f_wire_Reader_Err (⟨r34.b,x243,x244⟩:T_wire_Reader)).bind fun r252=>(some r252.isNil))else(some false)):Option Bool).bind fun x249=>(if x249=true then((f_batch_Next (⟨r34.b,x243,x244⟩:T_wire_Reader)).bind fun(r258,r259,r260)=>(grd (x245.length+[r258].length≤274877906944) (some (Sum.inl (IntKind.i64.wrap (x242+(1:Int)),r259,r260,x245++[r258])))))else(some (Sum.inr (x243,x244,x245)))))
noncomputable def f_rpc_Read (a0:T_api_Frame):Option (T_api_Rpc×GErr):=
 (((if(decide (a0.Kind<(1:Int)))=true then(some true)else(some (decide ((8:Int)<a0.Kind)))):Option Bool).bind fun x23=>(if x23=true then((f_fault_New (⟨#[107,105,110,100]⟩:ByteArray) a0.Kind (5:Int)).bind fun r27=>(some (lit4_,r27)))else((f_wire_Read a0.Body).bind fun r34=>((f_rpc_about a0.Kind).bind fun r41=>((((f_wire_Reader_Int r34 (1073741824:Int)).bind fun(r67,r68,r69)=>((f_wire_Reader_Int (⟨r34.b,r68,r69⟩:T_wire_Reader) (1073741824:Int)).bind fun(r75,r76,r77)=>((f_wire_Reader_Int (⟨r34.b,r76,r77⟩:T_wire_Reader) (1073741824:Int)).bind fun(r83,r84,r85)=>(some (a0.Kind,r67,r75,r83,false,false,(0:Int),(0:Int),(0:Int),(0:Int),(0:Int),[],(0:Int),(0:Int),[],r84,r85))))):Option (Int×Int×Int×Int×Bool×Bool×Int×Int×Int×Int×Int×(List T_api_Batch)×Int×Int×(List Int)×Int×GErr)).bind fun(x48,x49,x50,x51,x52,x53,x54,x55,x56,x57,x58,x59,x60,x61,x62,x63,x64)=>(((if(decide ((andI .i64 r41 (1:Int))≠(0:Int)))=true then((f_wire_Reader_Flag (⟨r34.b,x63,x64⟩:T_wire_Reader)).bind fun(r149,r150,r151)=>(some (r150,r151,r149)))else(some (x63,x64,x52))):Option (Int×GErr×Bool)).bind fun(x144,x145,x146)=>(((if(decide ((andI .i64 r41 (2:Int))≠(0:Int)))=true then((f_wire_Reader_Flag (⟨r34.b,x144,x145⟩:T_wire_Reader)).bind fun(r161,r162,r163)=>(some (r162,r163,r161)))else(some (x144,x145,x53))):Option (Int×GErr×Bool)).bind fun(x156,x157,x158)=>((f_rpc_Read_1 (4:Int) r41 (⟨r34.b,x156,x157⟩:T_wire_Reader)).bind fun(r168,r169,r170)=>((f_rpc_Read_1 (8:Int) r41 (⟨r34.b,r169,r170⟩:T_wire_Reader)).bind fun(r175,r176,r177)=>((f_rpc_Read_1 (8:Int) r41 (⟨r34.b,r176,r177⟩:T_wire_Reader)).bind fun(r182,r183,r184)=>((f_rpc_Read_1 (16:Int) r41 (⟨r34.b,r183,r184⟩:T_wire_Reader)).bind fun(r189,r190,r191)=>((f_rpc_Read_1 (32:Int) r41 (⟨r34.b,r190,r191⟩:T_wire_Reader)).bind fun(r196,r197,r198)=>((f_rpc_Read_1 (128:Int) r41 (⟨r34.b,r197,r198⟩:T_wire_Reader)).bind fun(r203,r204,r205)=>((f_rpc_Read_1 (256:Int) r41 (⟨r34.b,r204,r205⟩:T_wire_Reader)).bind fun(r210,r211,r212)=>(((if(decide (x48=(8:Int)))=true then((f_wire_Reader_Text (⟨r34.b,r211,r212⟩:T_wire_Reader) (512:Int)).bind fun(r222,r223,r224)=>(some (r222,r223,r224)))else(some (x62,r211,r212))):Option ((List Int)×Int×GErr)).bind fun(x217,x218,x219)=>(((if(decide ((andI .i64 r41 (64:Int))≠(0:Int)))=true then((f_wire_Reader_Int (⟨r34.b,x218,x219⟩:T_wire_Reader) (8:Int)).bind fun(r234,r235,r236)=>((iter (f_rpc_Read_l0 r34 r234) ((0:Int),r235,r236,x59)).bind (fun(x246,x247,x248)=>(some (x248,x246,x247)))))else(some (x59,x218,x219))):Option ((List T_api_Batch)×Int×GErr)).bind fun(x229,x230,x231)=>((f_wire_Reader_End (⟨r34.b,x230,x231⟩:T_wire_Reader)).bind fun(r277,r278)=>(if(!r277.isNil)=true then(some (lit4_,r277))else((f_rpc_Check (⟨x48,x49,x50,x51,x146,x158,r168,r175,r182,r189,r196,x229,r203,r210,x217⟩:T_api_Rpc)).bind fun r286=>(if(!r286.isNil)=true then(some (lit4_,r286))else(some ((⟨x48,x49,x50,x51,x146,x158,r168,r175,r182,r189,r196,x229,r203,r210,x217⟩:T_api_Rpc),GErr.nil))))))))))))))))))))))
def f_rpc_Read_post (a0:T_api_Frame) (v0_1:Value):(T_api_Rpc×GErr)→Value→IM→HL→Prop:=
 fun(p_:(T_api_Rpc×GErr)) (v:Value) (M':IM) (H':HL)=>match p_ with |(r0,r1)=>∃ vz0_11 cz0_11 vz0_14 cz0_14,(.tuple #[(.agg #[(.int .i64 r0.Kind),(.int .i64 r0.From),(.int .i64 r0.To),(.int .i64 r0.Term),(.bool r0.Pre),(.bool r0.Ok),(.int .i64 r0.Leader),(.int .i64 r0.At),(.int .i64 r0.AtTerm),(.int .i64 r0.High),(.int .i64 r0.Code),vz0_11,(.int .i64 r0.Size),(.int .i64 r0.Pos),vz0_14]),(GV r1)])=v∧H'=[cz0_11,cz0_14]∧OwnS kd_api_Batch M' vz0_11 r0.Batches cz0_11∧OwnS (Kd.int .u8) M' vz0_14 r0.Data cz0_14
theorem f_rpc_Read_ok (a0:T_api_Frame) (M:IM) (v0_1:Value) (h0_1:RS (Kd.int .u8) M v0_1 a0.Body) (hE:Env M) (res:(T_api_Rpc×GErr)) (h:f_rpc_Read a0=some res):
 Tri Tryz.prog 11 #[(.agg #[(Iv a0.Kind),v0_1])] M [] (f_rpc_Read_post a0 v0_1 res):=by
 unfold f_rpc_Read at h
 refine Te Tryz.func11 Z Z ?_
 intro F ρ hρ
 refine Sr (We (EO.box (cs:=#[(Iv a0.Kind),v0_1]) (congrArg Value.cells (asE (.agg #[(Iv a0.Kind),v0_1]) (hρ 0)))) Z ?_)
 rintro _ _ _ - ⟨rfl,g21,rfl,rfl⟩
 refine We (Al ze25 Z) Z ?_
 rintro _ _ _ - ⟨rfl,g22,rfl,rfl⟩
 refine qa (GV GErr.nil) (Nt (Cs ?_))
 obtain ⟨x23,hj24,h⟩:=bnd h
 refine Jf (fun(x23:Bool) ρ' M' H'=>M.le M'∧[(g22, .cells z25_.toArray 25 (0,0))]::[(g21, .cells #[(Iv a0.Kind),v0_1] 29 (0,0))]::F=H'∧ρ' 1=(pt g21 0)∧ρ' 2=(pt g22 0)∧ρ' 19=(Bv x23)) x23 ?_ ?_
 have h:=hj24
 refine Cg (qu (pt g21 0) (Fa fo29_0 Z Z) (qu (Iv a0.Kind) (Lb 1 pl3 Z Z Z) (qu (Bv (decide (a0.Kind<1))) (PO.lss Z Z) (qm (Bv (decide (a0.Kind<1))) ?_))))
 rcases Bi h with⟨hb25,h⟩ |⟨hb25,h⟩
 iterate 3 refine Of 15 Z Z hb25 Z ?_
 refine qu (Bv true) (Pt Z hb25 Z) (Wz ?_)
 obtain rfl:=oi h
 exact Tj ⟨lr,Z,Z,Z,Z⟩
 refine qo 15 hb25 (pt g21 0) (Fa fo29_0 Z Z) (qo 15 hb25 (Iv a0.Kind) (Lb 1 pl3 Z Z Z) (qo 15 hb25 (Bv (decide ((8:Int)<a0.Kind))) (PO.gtr Z Z) (qu (Bv (decide ((8:Int)<a0.Kind))) (Pf Z hb25 Z) (Wz ?_))))
 obtain rfl:=oi h
 exact Tj ⟨lr,Z,Z,Z,Z⟩
 rintro ρ24 M24 H24 ⟨hle24,rfl,hs24_1,hs24_2,hs24_19⟩
 refine Ch h hs24_19 (fun hb26 h=> ?_) (fun hb26 h=> ?_)
 refine Sr (qu (.agg z25_.toArray) (Bl (cl:=z25_) ze25 fp25 Pz Z) (qu (pt g21 0) (Fa fo29_0 hs24_1 Z) (qu (Iv a0.Kind) (Lb 1 pl3 Z Z Z) ?_)))
 obtain ⟨r27,hr28,h⟩:=bnd h
 refine We (Ca co30 (f_fault_New_ok ⟨#[107,105,110,100]⟩ a0.Kind (5:Int) _ r27 hr28) (args3 Z Z Z)) Z ?_
 rintro _ M29 _ hle30 ⟨_,⟨rfl,rfl⟩,rfl⟩
 refine WL.a0 (We (Sg (v:=(.agg z25_.toArray)) (vl:=z25_) (arr':=z25_) Z sz25 hs24_2 Z (onb Z) Z Z (by kernel_rfl)) Z ?_)
 rintro _ _ _ - ⟨rfl,rfl⟩
 exact qa (GV r27) (Nt (Cr (Tr (WQ.e0 (WQ.e0 (WQ.f3 (Dr (Qa (Qb (Rd h [[],[]] (fun _ hs=>hs.drop) (resultsLN Z (RVs.cons (Rc (cs:=z25_) 0 ag25 sz25 hs24_2 Z Z) (RVs.cons (RV.tmp Z) RVs.nil))) (hle24.trans hle30) ⟨Zs,[],Zs,[],Z,Z,(OwnS.nil _ _),(OwnS.nil _ _)⟩))))))))))
 refine Ck (Tc (Sr (qu (pt g21 1) (Fa fo29_1 hs24_1 Z) (qu v0_1 (Lb 1 pl23 Z Z Z) ?_))))
 obtain ⟨r34,hr35,h⟩:=bnd h
 have h0_1:=h0_1.mono hle24
 refine We (Ca co31 (f_wire_Read_ok a0.Body _ _ h0_1 r34 hr35) (args1 Z)) Z ?_
 rintro _ M36 _ hle37 ⟨_,⟨g38,vq39_0,rfl,rfl,hq39_0⟩,rfl⟩
 refine WL.a1 (We (Al ze69 Z) Z ?_)
 rintro _ _ _ - ⟨rfl,g40,rfl,rfl⟩
 refine We (Es (pt g38 0) [(pt g38 0)] Z sz69 Z Z Z Z Z Z) Z ?_
 rintro _ _ _ - ⟨rfl,rfl⟩
 refine Ns (qu (pt g21 0) (Fa fo29_0 hs24_1 Z) (qu (Iv a0.Kind) (Lb 3 pl3 Z Z Z) ?_))
 obtain ⟨r41,hr42,h⟩:=bnd h
 refine We (Ca co23 (f_rpc_about_ok a0.Kind _ r41 hr42) (args1 Z)) Z ?_
 rintro _ M43 _ hle44 ⟨_,⟨rfl,rfl⟩,rfl⟩
 have L44:=(hle24.trans hle37).trans hle44
 refine WL.a0 (We (Al ze3 Z) Z ?_)
 rintro _ _ _ - ⟨rfl,g46,rfl,rfl⟩
 refine We (Es (Iv r41) [(Iv r41)] Z sz3 Z Z Z Z Z Z) Z ?_
 rintro _ _ _ - ⟨rfl,rfl⟩
 refine Nt ?_
 obtain ⟨j65,hj65,h⟩:=bnd h
 refine Jf (fun(p_:(Int×Int×Int×Int×Bool×Bool×Int×Int×Int×Int×Int×(List T_api_Batch)×Int×Int×(List Int)×Int×GErr)) ρ' M' H'=>match p_ with |(x48,x49,x50,x51,x52,x53,x54,x55,x56,x57,x58,x59,x60,x61,x62,x63,x64)=>∃ g47 vx59 cx59 vx62 cx62,M43.le M'∧[(g46, .cells #[(Iv r41)] 3 (0,0))]::[(g40, .cells #[(pt g38 0)] 69 (0,0))]::[(g38, .cells #[vq39_0,(Iv x63),(GV x64)] 110 (0,0))]::[(g22, .cells z25_.toArray 25 (0,0))]::[(g21, .cells #[(Iv a0.Kind),v0_1] 29 (0,0))]::[(g47, .cells #[(Iv x48),(Iv x49),(Iv x50),(Iv x51),(Bv x52),(Bv x53),(Iv x54),(Iv x55),(Iv x56),(Iv x57),(Iv x58),vx59,(Iv x60),(Iv x61),vx62] 25 (0,0))]::cx59::cx62::F=H'∧ρ' 2=(pt g22 0)∧ρ' 4=(pt g40 0)∧ρ' 5=(pt g46 0)∧ρ' 6=(pt g47 0)∧OwnS kd_api_Batch M' vx59 x59 cx59∧OwnS (Kd.int .u8) M' vx62 x62 cx62) j65 ?_ ?_
 have h:=hj65
 refine WC.draw [0,1,0,4,0,28,0,124,255,0,1023] (.pure 0 (.pure 1 (.pure 2 (.pure 4 (.pure 6 (.alt 3 (.alt 5 (.alt 7 (.pure 8 (.alt 9 (.alt 10 .done .none) .none)) (.alt 9 (.alt 7 (.pure 8 (.alt 10 .done .none)) .none) .none)) (.alt 9 (.alt 5 (.alt 7 (.pure 8 (.alt 10 .done .none)) .none) .none) .none)) (.alt 9 (.alt 3 (.alt 5 (.alt 7 (.pure 8 (.alt 10 .done .none)) .none) .none) .none) .none))))))) mixed (by kernel_rfl) (qt (pt g21 0) Z (Fa fo29_0 hs24_1 Z) (qt (Iv a0.Kind) Z (Lb 4 pl3 Z Z Z) (qt (pt g38 0) Z (Lb 1 pl69 Z Z Z) (qt (pt g38 0) Z (Lb 1 pl69 Z Z Z) (qt (pt g38 0) Z (Lb 1 pl69 Z Z Z) ?_)))))
 have hk66:=h
 obtain ⟨⟨r67,r68,r69⟩,hr70,h⟩:=bnd h
 refine WT.f2 ?_
 have hq39_0:=hq39_0.mono hle44
 refine Ta Z (Cb co32 (f_wire_Reader_Int_ok r34 (1073741824:Int) _ _ _ hq39_0 (r67,r68,r69) hr70) (args2 Z Z)) Z ?_ ?_
 rintro _ M71 _ hle72 ⟨_,⟨rfl,rfl⟩,rfl⟩
 refine⟨(Ss Z (Lb 2 pl69 Z Z Z) Z (Ss Z (Lb 2 pl69 Z Z Z) Z (Sk 1 Z (Ss Z (Lb 4 pl3 Z Z Z) Z (Ss Z (Fa fo29_0 hs24_1 Z) Z trivial))))), ?_⟩
 refine WT.a1 ?_
 have hk74:=h
 obtain ⟨⟨r75,r76,r77⟩,hr78,h⟩:=bnd h
 have hq39_0:=hq39_0.mono hle72
 refine Ta Z (Cb co32 (f_wire_Reader_Int_ok (⟨r34.b,r68,r69⟩:T_wire_Reader) (1073741824:Int) _ _ _ hq39_0 (r75,r76,r77) hr78) (args2 Z Z)) Z ?_ ?_
 rintro _ M79 _ hle80 ⟨_,⟨rfl,rfl⟩,rfl⟩
 refine⟨(Ss Z (Lb 2 pl69 Z Z Z) Z (Sk 2 Z (Ss Z (Lb 4 pl3 Z Z Z) Z (Ss Z (Fa fo29_0 hs24_1 Z) Z trivial)))), ?_⟩
 refine WT.a1 ?_
 have hk82:=h
 obtain ⟨⟨r83,r84,r85⟩,hr86,h⟩:=bnd h
 have hq39_0:=hq39_0.mono hle80
 refine Ta Z (Cb co32 (f_wire_Reader_Int_ok (⟨r34.b,r76,r77⟩:T_wire_Reader) (1073741824:Int) _ _ _ hq39_0 (r83,r84,r85) hr86) (args2 Z Z)) Z ?_ ?_
 rintro _ M87 _ hle88 ⟨_,⟨rfl,rfl⟩,rfl⟩
 refine⟨(Sk 3 Z (Ss Z (Lb 4 pl3 Z Z Z) Z (Ss Z (Fa fo29_0 hs24_1 Z) Z trivial))), ?_⟩
 refine WT.a1 (qt (.agg #[(Iv a0.Kind),(Iv r67),(Iv r75),(Iv r83),(Bv false),(Bv false),(Iv 0),(Iv 0),(Iv 0),(Iv 0),(Iv 0),Zs,(Iv 0),(Iv 0),Zs]) Z (Bl (cl:=[(Iv a0.Kind),(Iv r67),(Iv r75),(Iv r83),(Bv false),(Bv false),(Iv 0),(Iv 0),(Iv 0),(Iv 0),(Iv 0),Zs,(Iv 0),(Iv 0),Zs]) ze25 fp25 (Pc (Iv a0.Kind) Z Z (Pc (Iv r67) Z Z (Pc (Iv r75) Z Z (Pc (Iv r83) Z Z Pz)))) Z) (Ta Z (Al ze25 Z) Z ?_ ?_))
 rintro _ _ _ - ⟨rfl,g90,rfl,rfl⟩
 refine⟨(Ss Z (Bl (cl:=[(Iv a0.Kind),(Iv r67),(Iv r75),(Iv r83),(Bv false),(Bv false),(Iv 0),(Iv 0),(Iv 0),(Iv 0),(Iv 0),Zs,(Iv 0),(Iv 0),Zs]) ze25 fp25 (Pc (Iv a0.Kind) Z Z (Pc (Iv r67) Z Z (Pc (Iv r75) Z Z (Pc (Iv r83) Z Z Pz)))) Z) Z (Ss Z (Lb 3 pl69 Z Z Z) Z (Ss Z (Lb 3 pl69 Z Z Z) Z (Ss Z (Lb 3 pl69 Z Z Z) Z (Ss Z (Lb 5 pl3 Z Z Z) Z (Ss Z (Fa fo29_0 hs24_1 Z) Z trivial)))))), ?_⟩
 refine Ta Z (Sg (v:=(.agg #[(Iv a0.Kind),(Iv r67),(Iv r75),(Iv r83),(Bv false),(Bv false),(Iv 0),(Iv 0),(Iv 0),(Iv 0),(Iv 0),Zs,(Iv 0),(Iv 0),Zs])) (vl:=[(Iv a0.Kind),(Iv r67),(Iv r75),(Iv r83),(Bv false),(Bv false),(Iv 0),(Iv 0),(Iv 0),(Iv 0),(Iv 0),Zs,(Iv 0),(Iv 0),Zs]) (arr':=[(Iv a0.Kind),(Iv r67),(Iv r75),(Iv r83),(Bv false),(Bv false),(Iv 0),(Iv 0),(Iv 0),(Iv 0),(Iv 0),Zs,(Iv 0),(Iv 0),Zs]) Z sz25 Z Z (onb Z) Z Z (by kernel_rfl)) Z ?_ ?_
 rintro _ _ _ - ⟨rfl,rfl⟩
 refine⟨(Sl Z), ?_⟩
 refine Ti (WQ.e0 (WQ.e0 (Qa (Qb (WQ.f7 (WQ.f7 (WQ.f5 (WQ.f7 (WQ.f7 ?_)))))))))
 obtain rfl:=oi h
 exact Tj ⟨g90,Zs,[],Zs,[],((hle72.trans hle80).trans hle88),Z,hs24_2,Z,Z,Z,(OwnS.nil _ _),(OwnS.nil _ _)⟩
 exact Tz
 exact Tz
 have h:=hk82
 refine Ta Z (Al ze25 Z) Z ?_ ?_
 rintro _ _ _ - ⟨rfl,g93,rfl,rfl⟩
 refine⟨(Ss Z (Lb 3 pl69 Z Z Z) Z (Ss Z (Lb 3 pl69 Z Z Z) Z (Ss Z (Lb 3 pl69 Z Z Z) Z (Ss Z (Lb 5 pl3 Z Z Z) Z (Ss Z (Fa fo29_0 hs24_1 Z) Z trivial))))), ?_⟩
 obtain ⟨⟨r94,r95,r96⟩,hr97,h⟩:=bnd h
 refine WT.f1 (Ta Z (Cb co32 (f_wire_Reader_Int_ok (⟨r34.b,r76,r77⟩:T_wire_Reader) (1073741824:Int) _ _ _ hq39_0 (r94,r95,r96) hr97) (args2 Z Z)) Z ?_ ?_)
 rintro _ M98 _ hle99 ⟨_,⟨rfl,rfl⟩,rfl⟩
 refine⟨(Sk 3 Z (Ss Z (Lb 5 pl3 Z Z Z) Z (Ss Z (Fa fo29_0 hs24_1 Z) Z trivial))), ?_⟩
 refine WT.a1 (qt (.agg #[(Iv a0.Kind),(Iv r67),(Iv r75),(Iv r94),(Bv false),(Bv false),(Iv 0),(Iv 0),(Iv 0),(Iv 0),(Iv 0),Zs,(Iv 0),(Iv 0),Zs]) Z (Bl (cl:=[(Iv a0.Kind),(Iv r67),(Iv r75),(Iv r94),(Bv false),(Bv false),(Iv 0),(Iv 0),(Iv 0),(Iv 0),(Iv 0),Zs,(Iv 0),(Iv 0),Zs]) ze25 fp25 (Pc (Iv a0.Kind) Z Z (Pc (Iv r67) Z Z (Pc (Iv r75) Z Z (Pc (Iv r94) Z Z Pz)))) Z) (WT.f1 (Ta Z (Sg (v:=(.agg #[(Iv a0.Kind),(Iv r67),(Iv r75),(Iv r94),(Bv false),(Bv false),(Iv 0),(Iv 0),(Iv 0),(Iv 0),(Iv 0),Zs,(Iv 0),(Iv 0),Zs])) (vl:=[(Iv a0.Kind),(Iv r67),(Iv r75),(Iv r94),(Bv false),(Bv false),(Iv 0),(Iv 0),(Iv 0),(Iv 0),(Iv 0),Zs,(Iv 0),(Iv 0),Zs]) (arr':=[(Iv a0.Kind),(Iv r67),(Iv r75),(Iv r94),(Bv false),(Bv false),(Iv 0),(Iv 0),(Iv 0),(Iv 0),(Iv 0),Zs,(Iv 0),(Iv 0),Zs]) Z sz25 Z Z (onb Z) Z Z (by kernel_rfl)) Z ?_ ?_)))
 rintro _ _ _ - ⟨rfl,rfl⟩
 refine⟨(Sl Z), ?_⟩
 refine Ti (WQ.e0 (WQ.e0 (Qa (Qb (WQ.f7 (WQ.f7 (WQ.f5 (WQ.f7 (WQ.f7 ?_)))))))))
 obtain rfl:=oi h
 exact Tj ⟨g93,Zs,[],Zs,[],((hle72.trans hle80).trans hle99),Z,hs24_2,Z,Z,Z,(OwnS.nil _ _),(OwnS.nil _ _)⟩
 exact Tz
 exact Tz
 exact Tz
 have h:=hk74
 refine Ta Z (Al ze25 Z) Z ?_ ?_
 rintro _ _ _ - ⟨rfl,g103,rfl,rfl⟩
 refine⟨(Ss Z (Lb 3 pl69 Z Z Z) Z (Ss Z (Lb 3 pl69 Z Z Z) Z (Ss Z (Lb 3 pl69 Z Z Z) Z (Ss Z (Lb 5 pl3 Z Z Z) Z (Ss Z (Fa fo29_0 hs24_1 Z) Z trivial))))), ?_⟩
 obtain ⟨⟨r104,r105,r106⟩,hr107,h⟩:=bnd h
 refine WT.f1 (Ta Z (Cb co32 (f_wire_Reader_Int_ok (⟨r34.b,r68,r69⟩:T_wire_Reader) (1073741824:Int) _ _ _ hq39_0 (r104,r105,r106) hr107) (args2 Z Z)) Z ?_ ?_)
 rintro _ M108 _ hle109 ⟨_,⟨rfl,rfl⟩,rfl⟩
 refine⟨(Ss Z (Lb 3 pl69 Z Z Z) Z (Sk 2 Z (Ss Z (Lb 5 pl3 Z Z Z) Z (Ss Z (Fa fo29_0 hs24_1 Z) Z trivial)))), ?_⟩
 refine WT.a1 ?_
 obtain ⟨⟨r111,r112,r113⟩,hr114,h⟩:=bnd h
 have hq39_0:=hq39_0.mono hle109
 refine Ta Z (Cb co32 (f_wire_Reader_Int_ok (⟨r34.b,r105,r106⟩:T_wire_Reader) (1073741824:Int) _ _ _ hq39_0 (r111,r112,r113) hr114) (args2 Z Z)) Z ?_ ?_
 rintro _ M115 _ hle116 ⟨_,⟨rfl,rfl⟩,rfl⟩
 refine⟨(Sk 3 Z (Ss Z (Lb 5 pl3 Z Z Z) Z (Ss Z (Fa fo29_0 hs24_1 Z) Z trivial))), ?_⟩
 refine WT.a1 (qt (.agg #[(Iv a0.Kind),(Iv r67),(Iv r104),(Iv r111),(Bv false),(Bv false),(Iv 0),(Iv 0),(Iv 0),(Iv 0),(Iv 0),Zs,(Iv 0),(Iv 0),Zs]) Z (Bl (cl:=[(Iv a0.Kind),(Iv r67),(Iv r104),(Iv r111),(Bv false),(Bv false),(Iv 0),(Iv 0),(Iv 0),(Iv 0),(Iv 0),Zs,(Iv 0),(Iv 0),Zs]) ze25 fp25 (Pc (Iv a0.Kind) Z Z (Pc (Iv r67) Z Z (Pc (Iv r104) Z Z (Pc (Iv r111) Z Z Pz)))) Z) (WT.f1 (Ta Z (Sg (v:=(.agg #[(Iv a0.Kind),(Iv r67),(Iv r104),(Iv r111),(Bv false),(Bv false),(Iv 0),(Iv 0),(Iv 0),(Iv 0),(Iv 0),Zs,(Iv 0),(Iv 0),Zs])) (vl:=[(Iv a0.Kind),(Iv r67),(Iv r104),(Iv r111),(Bv false),(Bv false),(Iv 0),(Iv 0),(Iv 0),(Iv 0),(Iv 0),Zs,(Iv 0),(Iv 0),Zs]) (arr':=[(Iv a0.Kind),(Iv r67),(Iv r104),(Iv r111),(Bv false),(Bv false),(Iv 0),(Iv 0),(Iv 0),(Iv 0),(Iv 0),Zs,(Iv 0),(Iv 0),Zs]) Z sz25 Z Z (onb Z) Z Z (by kernel_rfl)) Z ?_ ?_)))
 rintro _ _ _ - ⟨rfl,rfl⟩
 refine⟨(Sl Z), ?_⟩
 refine Ti (WQ.e0 (WQ.e0 (Qa (Qb (WQ.f7 (WQ.f7 (WQ.f5 (WQ.f7 (WQ.f7 ?_)))))))))
 obtain rfl:=oi h
 exact Tj ⟨g103,Zs,[],Zs,[],((hle72.trans hle109).trans hle116),Z,hs24_2,Z,Z,Z,(OwnS.nil _ _),(OwnS.nil _ _)⟩
 exact Tz
 exact Tz
 exact Tz
 exact Tz
 have h:=hk66
 refine Ta Z (Al ze25 Z) Z ?_ ?_
 rintro _ _ _ - ⟨rfl,g120,rfl,rfl⟩
 refine⟨(Ss Z (Lb 3 pl69 Z Z Z) Z (Ss Z (Lb 3 pl69 Z Z Z) Z (Ss Z (Lb 3 pl69 Z Z Z) Z (Ss Z (Lb 5 pl3 Z Z Z) Z (Ss Z (Fa fo29_0 hs24_1 Z) Z trivial))))), ?_⟩
 obtain ⟨⟨r121,r122,r123⟩,hr124,h⟩:=bnd h
 refine WT.f1 (Ta Z (Cb co32 (f_wire_Reader_Int_ok r34 (1073741824:Int) _ _ _ hq39_0 (r121,r122,r123) hr124) (args2 Z Z)) Z ?_ ?_)
 rintro _ M125 _ hle126 ⟨_,⟨rfl,rfl⟩,rfl⟩
 refine⟨(Ss Z (Lb 3 pl69 Z Z Z) Z (Ss Z (Lb 3 pl69 Z Z Z) Z (Sk 1 Z (Ss Z (Lb 5 pl3 Z Z Z) Z (Ss Z (Fa fo29_0 hs24_1 Z) Z trivial))))), ?_⟩
 refine WT.a1 ?_
 obtain ⟨⟨r128,r129,r130⟩,hr131,h⟩:=bnd h
 have hq39_0:=hq39_0.mono hle126
 refine Ta Z (Cb co32 (f_wire_Reader_Int_ok (⟨r34.b,r122,r123⟩:T_wire_Reader) (1073741824:Int) _ _ _ hq39_0 (r128,r129,r130) hr131) (args2 Z Z)) Z ?_ ?_
 rintro _ M132 _ hle133 ⟨_,⟨rfl,rfl⟩,rfl⟩
 refine⟨(Ss Z (Lb 3 pl69 Z Z Z) Z (Sk 2 Z (Ss Z (Lb 5 pl3 Z Z Z) Z (Ss Z (Fa fo29_0 hs24_1 Z) Z trivial)))), ?_⟩
 refine WT.a1 ?_
 obtain ⟨⟨r135,r136,r137⟩,hr138,h⟩:=bnd h
 have hq39_0:=hq39_0.mono hle133
 refine Ta Z (Cb co32 (f_wire_Reader_Int_ok (⟨r34.b,r129,r130⟩:T_wire_Reader) (1073741824:Int) _ _ _ hq39_0 (r135,r136,r137) hr138) (args2 Z Z)) Z ?_ ?_
 rintro _ M139 _ hle140 ⟨_,⟨rfl,rfl⟩,rfl⟩
 refine⟨(Sk 3 Z (Ss Z (Lb 5 pl3 Z Z Z) Z (Ss Z (Fa fo29_0 hs24_1 Z) Z trivial))), ?_⟩
 refine WT.a1 (qt (.agg #[(Iv a0.Kind),(Iv r121),(Iv r128),(Iv r135),(Bv false),(Bv false),(Iv 0),(Iv 0),(Iv 0),(Iv 0),(Iv 0),Zs,(Iv 0),(Iv 0),Zs]) Z (Bl (cl:=[(Iv a0.Kind),(Iv r121),(Iv r128),(Iv r135),(Bv false),(Bv false),(Iv 0),(Iv 0),(Iv 0),(Iv 0),(Iv 0),Zs,(Iv 0),(Iv 0),Zs]) ze25 fp25 (Pc (Iv a0.Kind) Z Z (Pc (Iv r121) Z Z (Pc (Iv r128) Z Z (Pc (Iv r135) Z Z Pz)))) Z) (WT.f1 (Ta Z (Sg (v:=(.agg #[(Iv a0.Kind),(Iv r121),(Iv r128),(Iv r135),(Bv false),(Bv false),(Iv 0),(Iv 0),(Iv 0),(Iv 0),(Iv 0),Zs,(Iv 0),(Iv 0),Zs])) (vl:=[(Iv a0.Kind),(Iv r121),(Iv r128),(Iv r135),(Bv false),(Bv false),(Iv 0),(Iv 0),(Iv 0),(Iv 0),(Iv 0),Zs,(Iv 0),(Iv 0),Zs]) (arr':=[(Iv a0.Kind),(Iv r121),(Iv r128),(Iv r135),(Bv false),(Bv false),(Iv 0),(Iv 0),(Iv 0),(Iv 0),(Iv 0),Zs,(Iv 0),(Iv 0),Zs]) Z sz25 Z Z (onb Z) Z Z (by kernel_rfl)) Z ?_ ?_)))
 rintro _ _ _ - ⟨rfl,rfl⟩
 refine⟨(Sl Z), ?_⟩
 refine Ti (WQ.e0 (WQ.e0 (Qa (Qb (WQ.f7 (WQ.f7 (WQ.f5 (WQ.f7 (WQ.f7 ?_)))))))))
 obtain rfl:=oi h
 exact Tj ⟨g120,Zs,[],Zs,[],((hle126.trans hle133).trans hle140),Z,hs24_2,Z,Z,Z,(OwnS.nil _ _),(OwnS.nil _ _)⟩
 exact Tz
 exact Tz
 exact Tz
 exact Tz
 exact Tz
 obtain ⟨x48,x49,x50,x51,x52,x53,x54,x55,x56,x57,x58,x59,x60,x61,x62,x63,x64⟩:=j65
 rintro ρ65 M65 H65 ⟨g47,vx59,cx59,vx62,cx62,hle65,rfl,hs65_2,hs65_4,hs65_5,hs65_6,hx59,hx62⟩
 have L65:=L44.trans hle65
 refine Sr (qu (.func (.func 33) #[] #[(pt g46 0),(pt g40 0)]) (PO.makeFunc2 (args0) (args2 (asE (Value.pointer (some ⟨g46,0,none⟩)) hs65_5) (asE (Value.pointer (some ⟨g40,0,none⟩)) hs65_4))) (qa (.func (.func 33) #[] #[(pt g46 0),(pt g40 0)]) (Nt ?_)))
 obtain ⟨j147,hj147,h⟩:=bnd h
 refine Jf (fun(p_:(Int×GErr×Bool)) ρ' M' H'=>match p_ with |(x144,x145,x146)=>M65.le M'∧[(g46, .cells #[(Iv r41)] 3 (0,0))]::[(g40, .cells #[(pt g38 0)] 69 (0,0))]::[(g38, .cells #[vq39_0,(Iv x144),(GV x145)] 110 (0,0))]::[(g22, .cells z25_.toArray 25 (0,0))]::[(g21, .cells #[(Iv a0.Kind),v0_1] 29 (0,0))]::[(g47, .cells #[(Iv x48),(Iv x49),(Iv x50),(Iv x51),(Bv x146),(Bv x53),(Iv x54),(Iv x55),(Iv x56),(Iv x57),(Iv x58),vx59,(Iv x60),(Iv x61),vx62] 25 (0,0))]::cx59::cx62::F=H'∧ρ' 2=(pt g22 0)∧ρ' 4=(pt g40 0)∧ρ' 5=(pt g46 0)∧ρ' 6=(pt g47 0)∧ρ' 7=(.func (.func 33) #[] #[(pt g46 0),(pt g40 0)])) j147 ?_ ?_
 have h:=hj147
 refine Sr (qu (Iv r41) (Lb 0 pl3 hs65_5 Z Z) (qu (Iv (andI .i64 r41 (1:Int))) (PO.and Z Z) (qu (Bv (decide ((andI .i64 r41 (1:Int))≠0))) (PO.neq Z Z) (Nt (Ch h Z (fun hb148 h=> ?_) (fun hb148 h=> ?_))))))
 refine Cg (qu (pt g38 0) (Lb 1 pl69 hs65_4 Z Z) ?_)
 obtain ⟨⟨r149,r150,r151⟩,hr152,h⟩:=bnd h
 refine Wb ?_
 have hq39_0:=hq39_0.mono (hle44.trans hle65)
 refine We (Cb co34 (f_wire_Reader_Flag_ok (⟨r34.b,x63,x64⟩:T_wire_Reader) _ _ _ hq39_0 (r149,r150,r151) hr152) (args1 Z)) Z ?_
 rintro _ M153 _ hle154 ⟨_,⟨rfl,rfl⟩,rfl⟩
 refine WL.a1 (qu (pt g47 4) (Fa fo25_4 hs65_6 Z) (WL.f5 (We (Es (Bv r149) [(Iv x48),(Iv x49),(Iv x50),(Iv x51),(Bv r149),(Bv x53),(Iv x54),(Iv x55),(Iv x56),(Iv x57),(Iv x58),vx59,(Iv x60),(Iv x61),vx62] Z sz4 Z Z Z Z Z (by kernel_rfl)) Z ?_)))
 rintro _ _ _ - ⟨rfl,rfl⟩
 refine Wz (WQ.f7 (WQ.f7 (Qb (WQ.f7 (WQ.f7 (WQ.f5 (WQ.f7 (WQ.f7 ?_))))))))
 obtain rfl:=oi h
 exact Tj ⟨hle154,Z,hs65_2,hs65_4,hs65_5,hs65_6,Z⟩
 refine Ck ?_
 obtain rfl:=oi h
 exact Tj ⟨lr,Z,hs65_2,hs65_4,hs65_5,hs65_6,Z⟩
 obtain ⟨x144,x145,x146⟩:=j147
 rintro ρ147 M147 H147 ⟨hle147,rfl,hs147_2,hs147_4,hs147_5,hs147_6,hs147_7⟩
 have L147:=L65.trans hle147
 obtain ⟨j159,hj159,h⟩:=bnd h
 refine Jf (fun(p_:(Int×GErr×Bool)) ρ' M' H'=>match p_ with |(x156,x157,x158)=>M147.le M'∧[(g46, .cells #[(Iv r41)] 3 (0,0))]::[(g40, .cells #[(pt g38 0)] 69 (0,0))]::[(g38, .cells #[vq39_0,(Iv x156),(GV x157)] 110 (0,0))]::[(g22, .cells z25_.toArray 25 (0,0))]::[(g21, .cells #[(Iv a0.Kind),v0_1] 29 (0,0))]::[(g47, .cells #[(Iv x48),(Iv x49),(Iv x50),(Iv x51),(Bv x146),(Bv x158),(Iv x54),(Iv x55),(Iv x56),(Iv x57),(Iv x58),vx59,(Iv x60),(Iv x61),vx62] 25 (0,0))]::cx59::cx62::F=H'∧ρ' 2=(pt g22 0)∧ρ' 4=(pt g40 0)∧ρ' 5=(pt g46 0)∧ρ' 6=(pt g47 0)∧ρ' 7=(.func (.func 33) #[] #[(pt g46 0),(pt g40 0)])) j159 ?_ ?_
 have h:=hj159
 refine Sr (qu (Iv r41) (Lb 0 pl3 hs147_5 Z Z) (qu (Iv (andI .i64 r41 (2:Int))) (PO.and Z Z) (qu (Bv (decide ((andI .i64 r41 (2:Int))≠0))) (PO.neq Z Z) (Nt (Ch h Z (fun hb160 h=> ?_) (fun hb160 h=> ?_))))))
 refine Cg (qu (pt g38 0) (Lb 1 pl69 hs147_4 Z Z) ?_)
 obtain ⟨⟨r161,r162,r163⟩,hr164,h⟩:=bnd h
 refine Wb ?_
 have hq39_0:=hq39_0.mono ((hle44.trans hle65).trans hle147)
 refine We (Cb co34 (f_wire_Reader_Flag_ok (⟨r34.b,x144,x145⟩:T_wire_Reader) _ _ _ hq39_0 (r161,r162,r163) hr164) (args1 Z)) Z ?_
 rintro _ M165 _ hle166 ⟨_,⟨rfl,rfl⟩,rfl⟩
 refine WL.a1 (qu (pt g47 5) (Fa fo25_5 hs147_6 Z) (WL.f5 (We (Es (Bv r161) [(Iv x48),(Iv x49),(Iv x50),(Iv x51),(Bv x146),(Bv r161),(Iv x54),(Iv x55),(Iv x56),(Iv x57),(Iv x58),vx59,(Iv x60),(Iv x61),vx62] Z sz4 Z Z Z Z Z (by kernel_rfl)) Z ?_)))
 rintro _ _ _ - ⟨rfl,rfl⟩
 refine Wz (WQ.f7 (WQ.f7 (Qb (WQ.f7 (WQ.f7 (WQ.f5 (WQ.f7 (WQ.f7 ?_))))))))
 obtain rfl:=oi h
 exact Tj ⟨hle166,Z,hs147_2,hs147_4,hs147_5,hs147_6,hs147_7⟩
 refine Ck ?_
 obtain rfl:=oi h
 exact Tj ⟨lr,Z,hs147_2,hs147_4,hs147_5,hs147_6,hs147_7⟩
 obtain ⟨x156,x157,x158⟩:=j159
 rintro ρ159 M159 H159 ⟨hle159,rfl,hs159_2,hs159_4,hs159_5,hs159_6,hs159_7⟩
 have L159:=L147.trans hle159
 refine Sr (qM (.func (.func 33) #[] #[(pt g46 0),(pt g40 0)]) hs159_7 ?_)
 obtain ⟨⟨r168,r169,r170⟩,hr171,h⟩:=bnd h
 refine WL.f1 (Wb (Wb ?_))
 have hq39_0:=hq39_0.mono (((hle44.trans hle65).trans hle147).trans hle159)
 refine We (EO.callV3 (first:=#[]) (cap:=#[(pt g46 0),(pt g40 0)]) co33 Z (f_rpc_Read_1_ok (4:Int) r41 (⟨r34.b,x156,x157⟩:T_wire_Reader) _ _ _ _ _ hq39_0 (r168,r169,r170) hr171) (argsV1 Z Z)) Z ?_
 rintro _ M172 _ hle173 ⟨_,⟨rfl,rfl⟩,rfl⟩
 have L173:=L159.trans hle173
 refine WL.a3 (qM (.func (.func 33) #[] #[(pt g46 0),(pt g40 0)]) hs159_7 ?_)
 obtain ⟨⟨r175,r176,r177⟩,hr178,h⟩:=bnd h
 refine Wb (Wb (Wb ?_))
 have hq39_0:=hq39_0.mono hle173
 refine We (EO.callV3 (first:=#[]) (cap:=#[(pt g46 0),(pt g40 0)]) co33 Z (f_rpc_Read_1_ok (8:Int) r41 (⟨r34.b,r169,r170⟩:T_wire_Reader) _ _ _ _ _ hq39_0 (r175,r176,r177) hr178) (argsV1 Z Z)) Z ?_
 rintro _ M179 _ hle180 ⟨_,⟨rfl,rfl⟩,rfl⟩
 have L180:=((hle147.trans hle159).trans hle173).trans hle180
 have L180_1:=L173.trans hle180
 refine WL.a3 (qM (.func (.func 33) #[] #[(pt g46 0),(pt g40 0)]) hs159_7 ?_)
 obtain ⟨⟨r182,r183,r184⟩,hr185,h⟩:=bnd h
 refine Wb (Wb (Wb ?_))
 have hq39_0:=hq39_0.mono hle180
 refine We (EO.callV3 (first:=#[]) (cap:=#[(pt g46 0),(pt g40 0)]) co33 Z (f_rpc_Read_1_ok (8:Int) r41 (⟨r34.b,r176,r177⟩:T_wire_Reader) _ _ _ _ _ hq39_0 (r182,r183,r184) hr185) (argsV1 Z Z)) Z ?_
 rintro _ M186 _ hle187 ⟨_,⟨rfl,rfl⟩,rfl⟩
 have L187:=L180.trans hle187
 have L187_1:=L180_1.trans hle187
 refine WL.a3 (qu (pt g47 6) (Fa fo25_6 hs159_6 Z) (WL.f5 (We (Es (Iv r168) [(Iv x48),(Iv x49),(Iv x50),(Iv x51),(Bv x146),(Bv x158),(Iv r168),(Iv x55),(Iv x56),(Iv x57),(Iv x58),vx59,(Iv x60),(Iv x61),vx62] Z sz3 Z Z Z Z Z (by kernel_rfl)) Z ?_)))
 rintro _ _ _ - ⟨rfl,rfl⟩
 refine qu (pt g47 7) (Fa fo25_7 hs159_6 Z) (We (Es (Iv r175) [(Iv x48),(Iv x49),(Iv x50),(Iv x51),(Bv x146),(Bv x158),(Iv r168),(Iv r175),(Iv x56),(Iv x57),(Iv x58),vx59,(Iv x60),(Iv x61),vx62] Z sz3 Z Z Z Z Z (by kernel_rfl)) Z ?_)
 rintro _ _ _ - ⟨rfl,rfl⟩
 refine qu (pt g47 8) (Fa fo25_8 hs159_6 Z) (We (Es (Iv r182) [(Iv x48),(Iv x49),(Iv x50),(Iv x51),(Bv x146),(Bv x158),(Iv r168),(Iv r175),(Iv r182),(Iv x57),(Iv x58),vx59,(Iv x60),(Iv x61),vx62] Z sz3 Z Z Z Z Z (by kernel_rfl)) Z ?_)
 rintro _ _ _ - ⟨rfl,rfl⟩
 refine Ns (qM (.func (.func 33) #[] #[(pt g46 0),(pt g40 0)]) hs159_7 ?_)
 obtain ⟨⟨r189,r190,r191⟩,hr192,h⟩:=bnd h
 refine WL.f3 (WL.f3 (WL.f3 ?_))
 have hq39_0:=hq39_0.mono hle187
 refine We (EO.callV3 (first:=#[]) (cap:=#[(pt g46 0),(pt g40 0)]) co33 Z (f_rpc_Read_1_ok (16:Int) r41 (⟨r34.b,r183,r184⟩:T_wire_Reader) _ _ _ _ _ hq39_0 (r189,r190,r191) hr192) (argsV1 Z Z)) Z ?_
 rintro _ M193 _ hle194 ⟨_,⟨rfl,rfl⟩,rfl⟩
 have L194:=L187.trans hle194
 have L194_1:=L187_1.trans hle194
 refine WL.a3 (qM (.func (.func 33) #[] #[(pt g46 0),(pt g40 0)]) hs159_7 ?_)
 obtain ⟨⟨r196,r197,r198⟩,hr199,h⟩:=bnd h
 refine Wb (Wb (Wb ?_))
 have hq39_0:=hq39_0.mono hle194
 refine We (EO.callV3 (first:=#[]) (cap:=#[(pt g46 0),(pt g40 0)]) co33 Z (f_rpc_Read_1_ok (32:Int) r41 (⟨r34.b,r190,r191⟩:T_wire_Reader) _ _ _ _ _ hq39_0 (r196,r197,r198) hr199) (argsV1 Z Z)) Z ?_
 rintro _ M200 _ hle201 ⟨_,⟨rfl,rfl⟩,rfl⟩
 have L201:=L194.trans hle201
 have L201_1:=L194_1.trans hle201
 refine WL.a3 (qM (.func (.func 33) #[] #[(pt g46 0),(pt g40 0)]) hs159_7 ?_)
 obtain ⟨⟨r203,r204,r205⟩,hr206,h⟩:=bnd h
 refine Wb (Wb (Wb ?_))
 have hq39_0:=hq39_0.mono hle201
 refine We (EO.callV3 (first:=#[]) (cap:=#[(pt g46 0),(pt g40 0)]) co33 Z (f_rpc_Read_1_ok (128:Int) r41 (⟨r34.b,r197,r198⟩:T_wire_Reader) _ _ _ _ _ hq39_0 (r203,r204,r205) hr206) (argsV1 Z Z)) Z ?_
 rintro _ M207 _ hle208 ⟨_,⟨rfl,rfl⟩,rfl⟩
 have L208:=L201.trans hle208
 have L208_1:=L201_1.trans hle208
 refine WL.a3 (qM (.func (.func 33) #[] #[(pt g46 0),(pt g40 0)]) hs159_7 ?_)
 obtain ⟨⟨r210,r211,r212⟩,hr213,h⟩:=bnd h
 refine Wb (Wb (Wb ?_))
 have hq39_0:=hq39_0.mono hle208
 refine We (EO.callV3 (first:=#[]) (cap:=#[(pt g46 0),(pt g40 0)]) co33 Z (f_rpc_Read_1_ok (256:Int) r41 (⟨r34.b,r204,r205⟩:T_wire_Reader) _ _ _ _ _ hq39_0 (r210,r211,r212) hr213) (argsV1 Z Z)) Z ?_
 rintro _ M214 _ hle215 ⟨_,⟨rfl,rfl⟩,rfl⟩
 have L215:=L208.trans hle215
 have L215_1:=L208_1.trans hle215
 refine WL.a3 (qu (pt g47 9) (Fa fo25_9 hs159_6 Z) (WL.f3 (We (Es (Iv r189) [(Iv x48),(Iv x49),(Iv x50),(Iv x51),(Bv x146),(Bv x158),(Iv r168),(Iv r175),(Iv r182),(Iv r189),(Iv x58),vx59,(Iv x60),(Iv x61),vx62] Z sz3 Z Z Z Z Z (by kernel_rfl)) Z ?_)))
 rintro _ _ _ - ⟨rfl,rfl⟩
 refine qu (pt g47 10) (Fa fo25_10 hs159_6 Z) (We (Es (Iv r196) [(Iv x48),(Iv x49),(Iv x50),(Iv x51),(Bv x146),(Bv x158),(Iv r168),(Iv r175),(Iv r182),(Iv r189),(Iv r196),vx59,(Iv x60),(Iv x61),vx62] Z sz3 Z Z Z Z Z (by kernel_rfl)) Z ?_)
 rintro _ _ _ - ⟨rfl,rfl⟩
 refine qu (pt g47 12) (Fa fo25_12 hs159_6 Z) (We (Es (Iv r203) [(Iv x48),(Iv x49),(Iv x50),(Iv x51),(Bv x146),(Bv x158),(Iv r168),(Iv r175),(Iv r182),(Iv r189),(Iv r196),vx59,(Iv r203),(Iv x61),vx62] Z sz3 Z Z Z Z Z (by kernel_rfl)) Z ?_)
 rintro _ _ _ - ⟨rfl,rfl⟩
 refine qu (pt g47 13) (Fa fo25_13 hs159_6 Z) (We (Es (Iv r210) [(Iv x48),(Iv x49),(Iv x50),(Iv x51),(Bv x146),(Bv x158),(Iv r168),(Iv r175),(Iv r182),(Iv r189),(Iv r196),vx59,(Iv r203),(Iv r210),vx62] Z sz3 Z Z Z Z Z (by kernel_rfl)) Z ?_)
 rintro _ _ _ - ⟨rfl,rfl⟩
 refine Nt ?_
 obtain ⟨j220,hj220,h⟩:=bnd h
 refine Jf (fun(p_:((List Int)×Int×GErr)) ρ' M' H'=>match p_ with |(x217,x218,x219)=>∃ vx217 cx217,M214.le M'∧[(g47, .cells #[(Iv x48),(Iv x49),(Iv x50),(Iv x51),(Bv x146),(Bv x158),(Iv r168),(Iv r175),(Iv r182),(Iv r189),(Iv r196),vx59,(Iv r203),(Iv r210),vx217] 25 (0,0))]::[(g46, .cells #[(Iv r41)] 3 (0,0))]::[(g38, .cells #[vq39_0,(Iv x218),(GV x219)] 110 (0,0))]::[(g40, .cells #[(pt g38 0)] 69 (0,0))]::[(g22, .cells z25_.toArray 25 (0,0))]::[(g21, .cells #[(Iv a0.Kind),v0_1] 29 (0,0))]::cx59::cx217::F=H'∧ρ' 2=(pt g22 0)∧ρ' 4=(pt g40 0)∧ρ' 5=(pt g46 0)∧ρ' 6=(pt g47 0)∧OwnS (Kd.int .u8) M' vx217 x217 cx217) j220 ?_ ?_
 have h:=hj220
 refine Sr (qu (pt g47 0) (Fa fo25_0 hs159_6 Z) (qu (Iv x48) (Lb 0 pl3 Z Z Z) (qu (Bv (decide (x48=8))) (PO.eql Z Z) (Nt (Ch h Z (fun hb221 h=> ?_) (fun hb221 h=> ?_))))))
 refine Cg (qu (pt g38 0) (Lb 3 pl69 hs159_4 Z Z) ?_)
 obtain ⟨⟨r222,r223,r224⟩,hr225,h⟩:=bnd h
 refine Wb ?_
 have hq39_0:=hq39_0.mono hle215
 refine We (Cb co35 (f_wire_Reader_Text_ok (⟨r34.b,r211,r212⟩:T_wire_Reader) (512:Int) _ _ _ hq39_0 (r222,r223,r224) hr225) (args2 Z Z)) Z ?_
 rintro _ M226 _ hle227 ⟨_,⟨vq228,cq228,rfl,rfl,hq228⟩,rfl⟩
 refine WL.a2 (qu (pt g47 14) (Fa fo25_14 hs159_6 Z) (Wb (We (Es vq228 [(Iv x48),(Iv x49),(Iv x50),(Iv x51),(Bv x146),(Bv x158),(Iv r168),(Iv r175),(Iv r182),(Iv r189),(Iv r196),vx59,(Iv r203),(Iv r210),vq228] hq228.cells sz23 Z Z (Ow hq228) Z Z (by kernel_rfl)) Z ?_)))
 rintro _ _ _ - ⟨rfl,rfl⟩
 refine Wz (WQ.f8 (Dr (Qb (WQ.f7 (WQ.f7 (WQ.f7 (WQ.f7 (WQ.f6 (WQ.f7 (WQ.f7 ?_))))))))))
 obtain rfl:=oi h
 exact Tj ⟨vq228,cq228,hle227,Z,hs159_2,hs159_4,hs159_5,hs159_6,hq228⟩
 refine Ck ?_
 obtain rfl:=oi h
 refine Tj ?_
 have hx62:=hx62.mono L215
 exact⟨vx62,cx62,lr,Z,hs159_2,hs159_4,hs159_5,hs159_6,hx62⟩
 obtain ⟨x217,x218,x219⟩:=j220
 rintro ρ220 M220 H220 ⟨vx217,cx217,hle220,rfl,hs220_2,hs220_4,hs220_5,hs220_6,hx217⟩
 have L220:=L215_1.trans hle220
 obtain ⟨j232,hj232,h⟩:=bnd h
 refine Jf (fun(p_:((List T_api_Batch)×Int×GErr)) ρ' M' H'=>match p_ with |(x229,x230,x231)=>∃ vx229 cx229,M220.le M'∧[(g47, .cells #[(Iv x48),(Iv x49),(Iv x50),(Iv x51),(Bv x146),(Bv x158),(Iv r168),(Iv r175),(Iv r182),(Iv r189),(Iv r196),vx229,(Iv r203),(Iv r210),vx217] 25 (0,0))]::[(g46, .cells #[(Iv r41)] 3 (0,0))]::[(g38, .cells #[vq39_0,(Iv x230),(GV x231)] 110 (0,0))]::[(g40, .cells #[(pt g38 0)] 69 (0,0))]::[(g22, .cells z25_.toArray 25 (0,0))]::[(g21, .cells #[(Iv a0.Kind),v0_1] 29 (0,0))]::cx229::cx217::F=H'∧ρ' 2=(pt g22 0)∧ρ' 4=(pt g40 0)∧ρ' 6=(pt g47 0)∧OwnS kd_api_Batch M' vx229 x229 cx229) j232 ?_ ?_
 have h:=hj232
 refine Sr (qu (Iv r41) (Lb 1 pl3 hs220_5 Z Z) (qu (Iv (andI .i64 r41 (64:Int))) (PO.and Z Z) (qu (Bv (decide ((andI .i64 r41 (64:Int))≠0))) (PO.neq Z Z) (Nt (Ch h Z (fun hb233 h=> ?_) (fun hb233 h=> ?_))))))
 refine Sr (qu (pt g38 0) (Lb 3 pl69 hs220_4 Z Z) ?_)
 obtain ⟨⟨r234,r235,r236⟩,hr237,h⟩:=bnd h
 refine Wb ?_
 have hq39_0:=hq39_0.mono (hle215.trans hle220)
 refine We (Cb co32 (f_wire_Reader_Int_ok (⟨r34.b,x218,x219⟩:T_wire_Reader) (8:Int) _ _ _ hq39_0 (r234,r235,r236) hr237) (args2 Z Z)) Z ?_
 rintro _ M238 _ hle239 ⟨_,⟨rfl,rfl⟩,rfl⟩
 refine WL.a1 (qa (Iv r234) (Ns (qa (Iv 0) (Nt (Bk ?_)))))
 obtain ⟨e241,he241,hK241⟩:=bnd h
 clear h
 refine WC.loop he241 (fun(p_:(Int×Int×GErr×(List T_api_Batch))) ρ' M' H'=>match p_ with |(x242,x243,x244,x245)=>∃ vx245 cx245,M238.le M'∧[(g38, .cells #[vq39_0,(Iv x243),(GV x244)] 110 (0,0))]::[(g47, .cells #[(Iv x48),(Iv x49),(Iv x50),(Iv x51),(Bv x146),(Bv x158),(Iv r168),(Iv r175),(Iv r182),(Iv r189),(Iv r196),vx245,(Iv r203),(Iv r210),vx217] 25 (0,0))]::[(g46, .cells #[(Iv r41)] 3 (0,0))]::[(g40, .cells #[(pt g38 0)] 69 (0,0))]::[(g22, .cells z25_.toArray 25 (0,0))]::[(g21, .cells #[(Iv a0.Kind),v0_1] 29 (0,0))]::cx245::cx217::F=H'∧ρ' 2=(pt g22 0)∧ρ' 4=(pt g40 0)∧ρ' 6=(pt g47 0)∧ρ' 8=(Iv r234)∧ρ' 9=(Iv x242)∧OwnS kd_api_Batch M' vx245 x245 cx245) ?_ ?_
 have hx59:=hx59.mono ((L215.trans hle220).trans hle239)
 exact⟨vx59,cx59,lr,Z,hs220_2,hs220_4,hs220_6,Z,Z,hx59⟩
 rintro ⟨x242,x243,x244,x245⟩ o241 ρ241 M241 H241 h ⟨vx245,cx245,hle241,rfl,hs241_2,hs241_4,hs241_6,hs241_8,hs241_9,hx245⟩
 unfold f_rpc_Read_l0 at h
 refine Cs ?_
 obtain ⟨x249,hj250,h⟩:=bnd h
 refine Jf (fun(x249:Bool) ρ' M' H'=>M241.le M'∧[(g38, .cells #[vq39_0,(Iv x243),(GV x244)] 110 (0,0))]::[(g47, .cells #[(Iv x48),(Iv x49),(Iv x50),(Iv x51),(Bv x146),(Bv x158),(Iv r168),(Iv r175),(Iv r182),(Iv r189),(Iv r196),vx245,(Iv r203),(Iv r210),vx217] 25 (0,0))]::[(g46, .cells #[(Iv r41)] 3 (0,0))]::[(g40, .cells #[(pt g38 0)] 69 (0,0))]::[(g22, .cells z25_.toArray 25 (0,0))]::[(g21, .cells #[(Iv a0.Kind),v0_1] 29 (0,0))]::cx245::cx217::F=H'∧ρ' 2=(pt g22 0)∧ρ' 4=(pt g40 0)∧ρ' 6=(pt g47 0)∧ρ' 8=(Iv r234)∧ρ' 9=(Iv x242)∧ρ' 91=(Bv x249)) x249 ?_ ?_
 have h:=hj250
 refine Cg (qM (Iv x242) hs241_9 (qM (Iv r234) hs241_8 (qu (Bv (decide (x242<r234))) (PO.lss Z Z) (qm (Bv (decide (x242<r234))) ?_))))
 rcases Bi h with⟨hb251,h⟩ |⟨hb251,h⟩
 refine qo 87 hb251 (pt g38 0) (Lb 3 pl69 hs241_4 Z Z) (On 87 Z Z hb251 ?_)
 obtain ⟨r252,hr253,h⟩:=bnd h
 have hq39_0:=hq39_0.mono (hle239.trans hle241)
 refine We (Cb co36 (f_wire_Reader_Err_ok (⟨r34.b,x243,x244⟩:T_wire_Reader) _ _ _ hq39_0 r252 hr253) (args1 Z)) Z ?_
 rintro _ M254 _ hle255 ⟨_,⟨rfl,rfl⟩,rfl⟩
 refine WL.a1 (qo 87 hb251 (Bv r252.isNil) (PO.errNil Tryz.underlying31 Z) (qu (Bv r252.isNil) (Pt Z hb251 Z) (Wz ?_)))
 obtain rfl:=oi h
 exact Tj ⟨hle255,Z,hs241_2,hs241_4,hs241_6,hs241_8,hs241_9,Z⟩
 iterate 3 refine Of 87 Z Z hb251 Z ?_
 refine qu (Bv false) (Pf Z hb251 Z) (Wz ?_)
 obtain rfl:=oi h
 exact Tj ⟨lr,Z,hs241_2,hs241_4,hs241_6,hs241_8,hs241_9,Z⟩
 rintro ρ250 M250 H250 ⟨hle250,rfl,hs250_2,hs250_4,hs250_6,hs250_8,hs250_9,hs250_91⟩
 refine Ch h hs250_91 (fun hb257 h=> ?_) (fun hb257 h=> ?_)
 refine Ck (Tc (Cs (Bk (WC.draw [0,1,0,4,12,31,63,127] (.pure 0 (.pure 1 (.pure 2 (.alt 3 (.alt 4 (.alt 5 (.pure 6 (.alt 7 .done .none)) .none) .none) .none)))) mixed (by kernel_rfl) (qt (pt g47 11) Z (Fa fo25_11 hs250_6 Z) (qt vx245 Z (Lb 1 pl22 Z Z Z) (qt (pt g38 0) Z (Lb 3 pl69 hs250_4 Z Z) ?_)))))))
 obtain ⟨⟨r258,r259,r260⟩,hr261,h⟩:=bnd h
 have hq39_0:=hq39_0.mono ((hle239.trans hle241).trans hle250)
 have hE:=hE.mono (((L220.trans hle239).trans hle241).trans hle250)
 refine Ta Z (Cb co37 (f_batch_Next_ok (⟨r34.b,x243,x244⟩:T_wire_Reader) _ _ _ hq39_0 hE (r258,r259,r260) hr261) (args1 Z)) Z ?_ ?_
 rintro _ M262 _ hle263 ⟨_,⟨vq264_2,cq264_2,rfl,rfl,hq264_2⟩,rfl⟩
 refine⟨(Sk 1 Z (Ss Z (Lb 2 pl22 Z Z Z) Z (Ss Z (Fa fo25_11 hs250_6 Z) Z trivial))), ?_⟩
 refine WT.a2 (WT.f1 (WT.know (fun _ hs=>hq264_2.rs hs) (fun hf269=> ?_)))
 refine WT.freeze (fun hle268=> ?_)
 refine Ta Z (EO.buildSliceL (cl:=(l55 r258 vq264_2)) Tryz.underlying22 iz55 Z (Pc (a55_ r258 vq264_2) Z Z Pz) Z) Z ?_ ?_
 rintro _ _ _ - ⟨rfl,g270,rfl,rfl⟩
 have h272:OwnS kd_api_Batch (M262.add cq264_2) (.slice (some ⟨g270,0,none⟩) 1 1) [r258] [(g270, .cells (l55 r258 vq264_2).toArray 55 (0,0))]:=OwnS.rows (css:=[(l55 r258 vq264_2)]) (Rows.cons (kd_api_Batch_mk (x:=r258) hf269) Rows.nil) Z Z
 refine⟨(Sk 1 Z (Ss Z (Lb 2 pl22 Z Z Z) Z (Ss Z (Fa fo25_11 hs250_6 Z) Z trivial))), ?_⟩
 obtain ⟨hg276,h⟩:=grd_i h
 refine WT.f7 ?_
 have hx245:=hx245.mono ((hle250.trans hle263).trans hle268)
 refine Ta Z (EO.append (dd:=kd_api_Batch) (xs:=x245) (ys:=[r258]) Tryz.underlying22 Tryz.underlying22 in55 Z (appB (by decide) hg276) (by decide) Z Z hx245 (h272.src 1 Z)) Z ?_ ?_
 rintro v275 _ _ - ⟨rfl,c273,rfl,h274⟩
 refine⟨(Sl Z), ?_⟩
 refine qt (pt g47 11) Z (Fa fo25_11 hs250_6 Z) (WT.f3 (Ta Z (Es v275 [(Iv x48),(Iv x49),(Iv x50),(Iv x51),(Bv x146),(Bv x158),(Iv r168),(Iv r175),(Iv r182),(Iv r189),(Iv r196),v275,(Iv r203),(Iv r210),vx217] h274.cells sz22 Z Z (Ow h274) Z Z (by kernel_rfl)) Z ?_ ?_))
 rintro _ _ _ - ⟨rfl,rfl⟩
 refine⟨(Sl Z), ?_⟩
 refine Ti (Bn (Tc (Cg (qM (Iv x242) hs250_9 (qu (Iv (IntKind.i64.wrap (x242+1))) (PO.add Z Z) (qa (Iv (IntKind.i64.wrap (x242+1))) (Wz (Qb (Dr (WQ.f7 (Qb ?_)))))))))))
 exact WQ.f7 (WQ.f7 (WQ.f7 (WQ.f7 (WQ.f6 (WQ.f7 (WQ.again (IntKind.i64.wrap (x242+1),r259,r260,x245++[r258]) (oi h).symm ⟨v275,c273,(((hle241.trans hle250).trans hle263).trans hle268),Z,hs250_2,hs250_4,hs250_6,hs250_8,Z,h274⟩))))))
 exact Tz
 exact Tz
 exact Tz
 exact Tz
 refine WC.exit (WQ.thenE (WQ.leaveE (x243,x244,x245) (oi h).symm (fun heq241=> ?_)))
 subst heq241
 have h:=hK241
 refine WQ.blockH (WQ.f7 (WQ.f7 (WQ.f7 (WQ.f7 (WQ.f7 (WQ.f5 (WQ.f7 (WQ.f7 ?_))))))))
 obtain rfl:=oi h
 refine Tj ?_
 have hx245:=hx245.mono hle250
 exact⟨vx245,cx245,((hle239.trans hle241).trans hle250),Z,hs250_2,hs250_4,hs250_6,hx245⟩
 refine Ck ?_
 obtain rfl:=oi h
 refine Tj ?_
 have hx59:=hx59.mono (L215.trans hle220)
 exact⟨vx59,cx59,lr,Z,hs220_2,hs220_4,hs220_6,hx59⟩
 obtain ⟨x229,x230,x231⟩:=j232
 rintro ρ232 M232 H232 ⟨vx229,cx229,hle232,rfl,hs232_2,hs232_4,hs232_6,hx229⟩
 have L232:=L220.trans hle232
 refine Cs (Sr (qu (pt g38 0) (Lb 3 pl69 hs232_4 Z Z) ?_))
 obtain ⟨⟨r277,r278⟩,hr279,h⟩:=bnd h
 refine Wb ?_
 have hq39_0:=hq39_0.mono ((hle215.trans hle220).trans hle232)
 refine We (Cb co38 (f_wire_Reader_End_ok (⟨r34.b,x230,x231⟩:T_wire_Reader) _ _ _ hq39_0 (r277,r278) hr279) (args1 Z)) Z ?_
 rintro _ M280 _ hle281 ⟨_,⟨rfl,rfl⟩,rfl⟩
 have L281:=L232.trans hle281
 refine WL.a1 (qa (GV r277) (Ns (qm (GV r277) (qu (Bv (!r277.isNil)) (PO.errNotNil Tryz.underlying31 Z) (Nt (Ch h Z (fun hb283 h=> ?_) (fun hb283 h=> ?_)))))))
 refine Sr (qu (.agg z25_.toArray) (Bl (cl:=z25_) ze25 fp25 Pz Z) (qm (GV r277) (WL.f4 (We (Sg (v:=(.agg z25_.toArray)) (vl:=z25_) (arr':=z25_) Z sz25 hs232_2 Z (onb Z) Z Z (by kernel_rfl)) Z ?_))))
 rintro _ _ _ - ⟨rfl,rfl⟩
 refine qa (GV r277) (Nt (Cr (Tr (WQ.e0 (WQ.e0 (WQ.f3 (Dr (WQ.f3 (Dr (WQ.f3 (Dr ?_)))))))))))
 exact WQ.f3 (Dr (WQ.f3 (Dr (WQ.f3 (Dr (WQ.f3 (Dr (Qa (Qb (Rd h [[],[]] (fun _ hs=>hs.drop) (resultsLN Z (RVs.cons (Rc (cs:=z25_) 0 ag25 sz25 hs232_2 Z Z) (RVs.cons (RV.tmp Z) RVs.nil))) L281 ⟨Zs,[],Zs,[],Z,Z,(OwnS.nil _ _),(OwnS.nil _ _)⟩))))))))))
 refine Ck (Tc (Cs (Sr (qu (.agg #[(Iv x48),(Iv x49),(Iv x50),(Iv x51),(Bv x146),(Bv x158),(Iv r168),(Iv r175),(Iv r182),(Iv r189),(Iv r196),vx229,(Iv r203),(Iv r210),vx217]) (La (cs:=[(Iv x48),(Iv x49),(Iv x50),(Iv x51),(Bv x146),(Bv x158),(Iv r168),(Iv r175),(Iv r182),(Iv r189),(Iv r196),vx229,(Iv r203),(Iv r210),vx217]) 1 ag25 sz25 hs232_6 Z Z) ?_))))
 obtain ⟨r286,hr287,h⟩:=bnd h
 refine WL.f7 (WL.f7 ?_)
 have hx229:=hx229.mono hle281
 have hx217:=hx217.mono (hle232.trans hle281)
 refine We (EO.call2 co16 (Tri.lend hx229.excl fun w0_ H0_ hs0_=>(Tri.lend hx217.excl fun w1_ H1_ hs1_=>(f_rpc_Check_ok (⟨x48,x49,x50,x51,x146,x158,r168,r175,r182,r189,r196,x229,r203,r210,x217⟩:T_api_Rpc) _ _ _ ((hx229.rs hs0_).mono (IM.le_add _ _)) ((hx217.mono (IM.le_add _ _)).rs hs1_) r286 hr287))) (args1 Z)) Z ?_
 rintro _ _ _ hle289 ⟨_,⟨Ml294,Hl295,hll296,rfl,rfl,⟨Ml291,Hl292,hll293,rfl,rfl,⟨rfl,rfl⟩⟩⟩,rfl⟩
 refine WL.a2 (qa (GV r286) (Ns (qm (GV r286) (qu (Bv (!r286.isNil)) (PO.errNotNil Tryz.underlying31 Z) (Nt (Ch h Z (fun hb297 h=> ?_) (fun hb297 h=> ?_)))))))
 refine Sr (qu (.agg z25_.toArray) (Bl (cl:=z25_) ze25 fp25 Pz Z) (qm (GV r286) (WL.f6 (We (Sg (v:=(.agg z25_.toArray)) (vl:=z25_) (arr':=z25_) Z sz25 hs232_2 Z (onb Z) Z Z (by kernel_rfl)) Z ?_))))
 rintro _ _ _ - ⟨rfl,rfl⟩
 refine qa (GV r286) (Nt (Cr (Tr (WQ.e0 (WQ.e0 (WQ.f3 (Dr (WQ.f3 (Dr (WQ.f3 (Dr ?_)))))))))))
 exact WQ.f3 (Dr (WQ.f3 (Dr (WQ.f3 (Dr (WQ.f3 (Dr (Qa (Qb (Rd h [[],[]] (fun _ hs=>hs.drop) (resultsLN Z (RVs.cons (Rc (cs:=z25_) 0 ag25 sz25 hs232_2 Z Z) (RVs.cons (RV.tmp Z) RVs.nil))) (L281.trans hle289) ⟨Zs,[],Zs,[],Z,Z,(OwnS.nil _ _),(OwnS.nil _ _)⟩))))))))))
 refine Ck (Tc (Sr (qu (.agg #[(Iv x48),(Iv x49),(Iv x50),(Iv x51),(Bv x146),(Bv x158),(Iv r168),(Iv r175),(Iv r182),(Iv r189),(Iv r196),vx229,(Iv r203),(Iv r210),vx217]) (La (cs:=[(Iv x48),(Iv x49),(Iv x50),(Iv x51),(Bv x146),(Bv x158),(Iv r168),(Iv r175),(Iv r182),(Iv r189),(Iv r196),vx229,(Iv r203),(Iv r210),vx217]) 3 ag25 sz25 hs232_6 Z Z) (WL.f6 ?_))))
 have hx229:=hx229.mono hle289
 have hx217:=hx217.mono hle289
 refine We (Sg (v:=(.agg #[(Iv x48),(Iv x49),(Iv x50),(Iv x51),(Bv x146),(Bv x158),(Iv r168),(Iv r175),(Iv r182),(Iv r189),(Iv r196),vx229,(Iv r203),(Iv r210),vx217])) (vl:=[(Iv x48),(Iv x49),(Iv x50),(Iv x51),(Bv x146),(Bv x158),(Iv r168),(Iv r175),(Iv r182),(Iv r189),(Iv r196),vx229,(Iv r203),(Iv r210),vx217]) (arr':=[(Iv x48),(Iv x49),(Iv x50),(Iv x51),(Bv x146),(Bv x158),(Iv r168),(Iv r175),(Iv r182),(Iv r189),(Iv r196),vx229,(Iv r203),(Iv r210),vx217]) Z sz25 hs232_2 Z (onesOf (Oc Z (Oc Z (Oc Z (Oc Z (Oc Z (Oc Z (Oc Z (Oc Z (Oc Z (Oc Z (Oc Z (Oc (Ow hx229) (Oc Z (Oc Z (Oc (Ow hx217) Oz)))))))))))))))) Z Z (by kernel_rfl)) Z ?_
 rintro _ _ _ - ⟨rfl,rfl⟩
 refine qa (GV GErr.nil) (Nt (Cr (WQ.f3 (Dr (WQ.f3 (Dr (WQ.f3 (Dr (WQ.f3 (Dr (WQ.f3 ?_)))))))))))
 exact Dr (Rd h [cx229,cx217] (fun _ hs=>hs.drop) (resultsLN Z (RVs.cons (Rc (cs:=[(Iv x48),(Iv x49),(Iv x50),(Iv x51),(Bv x146),(Bv x158),(Iv r168),(Iv r175),(Iv r182),(Iv r189),(Iv r196),vx229,(Iv r203),(Iv r210),vx217]) 0 ag25 sz25 hs232_2 Z Z) (RVs.cons (RV.tmp Z) RVs.nil))) (L281.trans hle289) ⟨vx229,cx229,vx217,cx217,Z,Z,hx229,hx217⟩)
noncomputable def f_rpc_Same_1 (a0:T_api_Rpc):Option (List Int):=
 (some [a0.Kind,a0.From,a0.To,a0.Term,a0.Leader,a0.At,a0.AtTerm,a0.High,a0.Code,a0.Size,a0.Pos])
def f_rpc_Same_1_post (a0:T_api_Rpc) (v0_11 v0_14:Value):(List Int)→Value→IM→HL→Prop:=
 fun(r0:(List Int)) (v:Value) (M':IM) (H':HL)=>(.agg #[(.int .i64 (rd r0 (0:Int))),(.int .i64 (rd r0 (1:Int))),(.int .i64 (rd r0 (2:Int))),(.int .i64 (rd r0 (3:Int))),(.int .i64 (rd r0 (4:Int))),(.int .i64 (rd r0 (5:Int))),(.int .i64 (rd r0 (6:Int))),(.int .i64 (rd r0 (7:Int))),(.int .i64 (rd r0 (8:Int))),(.int .i64 (rd r0 (9:Int))),(.int .i64 (rd r0 (10:Int)))])=v∧H'=[]
theorem f_rpc_Same_1_ok (a0:T_api_Rpc) (M:IM) (v0_11 v0_14:Value) (h0_11:RS kd_api_Batch M v0_11 a0.Batches) (h0_14:RS (Kd.int .u8) M v0_14 a0.Data) (res:(List Int)) (h:f_rpc_Same_1 a0=some res):
 Tri Tryz.prog 50 #[(a25_ a0 v0_11 v0_14)] M [] (f_rpc_Same_1_post a0 v0_11 v0_14 res):=by
 unfold f_rpc_Same_1 at h
 refine Te Tryz.func50 Z Z ?_
 intro F ρ hρ
 refine Sr (We (EO.box (cs:=(l25 a0 v0_11 v0_14).toArray) (congrArg Value.cells (asE (a25_ a0 v0_11 v0_14) (hρ 0)))) Z ?_)
 rintro _ _ _ - ⟨rfl,g21,rfl,rfl⟩
 refine We (Al ze85 Z) Z ?_
 rintro _ _ _ - ⟨rfl,g22,rfl,rfl⟩
 refine Ns (qu (pt g21 0) (Fa fo25_0 Z Z) (qu (Iv a0.Kind) (Lb 1 pl3 Z Z Z) (qu (pt g21 1) (Fa fo25_1 Z Z) (qu (Iv a0.From) (Lb 1 pl3 Z Z Z) (qu (pt g21 2) (Fa fo25_2 Z Z) (qu (Iv a0.To) (Lb 1 pl3 Z Z Z) (qu (pt g21 3) (Fa fo25_3 Z Z) (qu (Iv a0.Term) (Lb 1 pl3 Z Z Z) (qu (pt g21 6) (Fa fo25_6 Z Z) (qu (Iv a0.Leader) (Lb 1 pl3 Z Z Z) (qu (pt g21 7) (Fa fo25_7 Z Z) ?_)))))))))))
 refine qu (Iv a0.At) (Lb 1 pl3 Z Z Z) (qu (pt g21 8) (Fa fo25_8 Z Z) (qu (Iv a0.AtTerm) (Lb 1 pl3 Z Z Z) (qu (pt g21 9) (Fa fo25_9 Z Z) (qu (Iv a0.High) (Lb 1 pl3 Z Z Z) (qu (pt g21 10) (Fa fo25_10 Z Z) (qu (Iv a0.Code) (Lb 1 pl3 Z Z Z) (qu (pt g21 12) (Fa fo25_12 Z Z) (qu (Iv a0.Size) (Lb 1 pl3 Z Z Z) (qu (pt g21 13) (Fa fo25_13 Z Z) (qu (Iv a0.Pos) (Lb 1 pl3 Z Z Z) (qu (.agg #[(Iv a0.Kind),(Iv a0.From),(Iv a0.To),(Iv a0.Term),(Iv a0.Leader),(Iv a0.At),(Iv a0.AtTerm),(Iv a0.High),(Iv a0.Code),(Iv a0.Size),(Iv a0.Pos)]) (PO.buildAL (cl:=[(Iv a0.Kind),(Iv a0.From),(Iv a0.To),(Iv a0.Term),(Iv a0.Leader),(Iv a0.At),(Iv a0.AtTerm),(Iv a0.High),(Iv a0.Code),(Iv a0.Size),(Iv a0.Pos)]) ze85 Tryz.underlying85 sz3 (Pc (Iv a0.Kind) Z Z (Pc (Iv a0.From) Z Z (Pc (Iv a0.To) Z Z (Pc (Iv a0.Term) Z Z (Pc (Iv a0.Leader) Z Z (Pc (Iv a0.At) Z Z (Pc (Iv a0.AtTerm) Z Z (Pc (Iv a0.High) Z Z (Pc (Iv a0.Code) Z Z (Pc (Iv a0.Size) Z Z (Pc (Iv a0.Pos) Z Z Pz))))))))))) Z) ?_)))))))))))
 refine We (Sg (v:=(.agg #[(Iv a0.Kind),(Iv a0.From),(Iv a0.To),(Iv a0.Term),(Iv a0.Leader),(Iv a0.At),(Iv a0.AtTerm),(Iv a0.High),(Iv a0.Code),(Iv a0.Size),(Iv a0.Pos)])) (vl:=[(Iv a0.Kind),(Iv a0.From),(Iv a0.To),(Iv a0.Term),(Iv a0.Leader),(Iv a0.At),(Iv a0.AtTerm),(Iv a0.High),(Iv a0.Code),(Iv a0.Size),(Iv a0.Pos)]) (arr':=[(Iv a0.Kind),(Iv a0.From),(Iv a0.To),(Iv a0.Term),(Iv a0.Leader),(Iv a0.At),(Iv a0.AtTerm),(Iv a0.High),(Iv a0.Code),(Iv a0.Size),(Iv a0.Pos)]) Z sz85 Z Z (onb Z) Z Z (by kernel_rfl)) Z ?_
 rintro _ _ _ - ⟨rfl,rfl⟩
 exact Nt (Cr (Qa (Dr (Rd h [] (fun _ hs=>hs.drop) (resultsL1 Z (Rc (cs:=[(Iv a0.Kind),(Iv a0.From),(Iv a0.To),(Iv a0.Term),(Iv a0.Leader),(Iv a0.At),(Iv a0.AtTerm),(Iv a0.High),(Iv a0.Code),(Iv a0.Size),(Iv a0.Pos)]) 0 ag85 sz85 Z Z Z)) lr ⟨Z,Z⟩))))
noncomputable def f_slices_Equal_byte_byte_l0 (a0:(List Int)) (a1:(List Int)) (s_:Int):Option (Int⊕(Unit⊕Unit)):=
 match s_ with
 |x24=>
 (if(decide (x24<(a0.length:Int)))=true then(grd (0≤x24∧x24<a0.length) (grd (0≤x24∧x24<a1.length) (if(decide ((rd a0 x24)≠(rd a1 x24)))=true then(some (Sum.inr (Sum.inr ())))else(some (Sum.inl (IntKind.i64.wrap (x24+(1:Int))))))))else(some (Sum.inr (Sum.inl ()))))
noncomputable def f_slices_Equal_byte_byte (a0:(List Int)) (a1:(List Int)):Option Bool:=
 (if(decide ((a0.length:Int)≠(a1.length:Int)))=true then(some false)else((((iter (f_slices_Equal_byte_byte_l0 a0 a1) (0:Int)).bind (Sum.elim (fun _=>(some (Sum.inl ()))) (fun _=>(((some false)).bind fun r=>some (Sum.inr r))))):Option (Unit⊕Bool)).bind (Sum.elim (fun _=>(some true)) some)))
def f_slices_Equal_byte_byte_post (a0:(List Int)) (a1:(List Int)) (v0 v1:Value):Bool→Value→IM→HL→Prop:=
 fun(r0:Bool) (v:Value) (M':IM) (H':HL)=>(.bool r0)=v∧H'=[]
theorem f_slices_Equal_byte_byte_ok (a0:(List Int)) (a1:(List Int)) (M:IM) (v0 v1:Value) (h0:RS (Kd.int .u8) M v0 a0) (h1:RS (Kd.int .u8) M v1 a1) (res:Bool) (h:f_slices_Equal_byte_byte a0 a1=some res):
 Tri Tryz.prog 51 #[v0,v1] M [] (f_slices_Equal_byte_byte_post a0 a1 v0 v1 res):=by
 unfold f_slices_Equal_byte_byte at h
 refine Te Tryz.func51 Z Z ?_
 intro F ρ hρ
 refine Sr (qa (Bv false) (Nt (Cs (Sr (qM v0 (hρ 0) (qu (Iv (a0.length:Int)) (PO.lenS Tryz.underlying23 Z h0.len) (qM v1 (hρ 1) (qu (Iv (a1.length:Int)) (PO.lenS Tryz.underlying23 Z h1.len) (qu (Bv (decide ((a0.length:Int)≠(a1.length:Int)))) (PO.neq Z Z) (Nt (Ch h Z (fun hb21 h=> ?_) (fun hb21 h=> ?_))))))))))))
 exact Sr (qa (Bv false) (Nt (Cr (Tr (Rf h [] Z (Rs Z Z) lr ⟨Z,Z⟩)))))
 refine Ck (Tc ?_)
 obtain ⟨j22,hj22,h⟩:=bnd h
 refine WC.joinE (fun(_:Unit) ρ' M' H'=>M.le M'∧F=H') j22 ?_ ?_
 have h322:=h
 have h:=hj22
 refine Sr (qM v0 (hρ 0) (qu (Iv (a0.length:Int)) (PO.lenS Tryz.underlying23 Z h0.len) (qm (Iv 0) (Nt (Bk ?_)))))
 obtain ⟨e23,he23,hK23⟩:=bnd h
 clear h
 refine WC.loop he23 (fun(x24:Int) ρ' M' H'=>M.le M'∧F=H'∧ρ' 0=v0∧ρ' 1=v1∧ρ' 12=(Iv (a0.length:Int))∧ρ' 13=(Iv x24)) ?_ ?_
 exact⟨lr,Z,(hρ 0),(hρ 1),Z,Z⟩
 rintro x24 o23 ρ23 M23 H23 h ⟨hle23,rfl,hs23_0,hs23_1,hs23_12,hs23_13⟩
 unfold f_slices_Equal_byte_byte_l0 at h
 refine Sr (qu (Bv (decide (x24<(a0.length:Int)))) (PO.lss hs23_13 hs23_12) (Nt (Cs (Ch h Z (fun hb25 h=> ?_) (fun hb25 h=> ?_)))))
 refine Ck (Tc (Cs (Bk (Sr (qM (Iv x24) hs23_13 (qa (Iv x24) (Nt (Cs (WC.draw [0,0,3,7,0,0,48,112,255] (.pure 0 (.pure 1 (.pure 2 (.pure 3 (.pure 4 (.pure 5 (.pure 6 (.pure 7 (.pure 8 .done))))))))) mixed (by kernel_rfl) (qt v0 Z (Mv hs23_0) (qt (Iv x24) Z (Mv Z) ?_)))))))))))
 obtain ⟨hg26,h⟩:=grd_i h
 have h0:=h0.mono hle23
 obtain ⟨p27,cs28,hat29,hrc30,hhas31⟩:=h0.at hg26.1 hg26.2 (by decide)
 obtain rfl:=hrc30
 refine qt (.pointer (some p27)) Z (PO.indexAddr (n:=a0.length) Tryz.underlying23 sz5 Z Z hg26.1 hg26.2 hat29) (qt (Yv (rd a0 x24)) Z (PO.loadM pl5 Z (IM.has0 hhas31)) (qt v1 Z (Mv hs23_1) (qt (Iv x24) Z (Mv Z) ?_)))
 obtain ⟨hg33,h⟩:=grd_i h
 have h1:=h1.mono hle23
 obtain ⟨p34,cs35,hat36,hrc37,hhas38⟩:=h1.at hg33.1 hg33.2 (by decide)
 obtain rfl:=hrc37
 refine qt (.pointer (some p34)) Z (PO.indexAddr (n:=a1.length) Tryz.underlying23 sz5 Z Z hg33.1 hg33.2 hat36) (qt (Yv (rd a1 x24)) Z (PO.loadM pl5 Z (IM.has0 hhas38)) (qt (Bv (decide ((rd a0 x24)≠(rd a1 x24)))) Z (PO.neq Z Z) (Ti (Tc (Ch h Z (fun hb40 h=> ?_) (fun hb40 h=> ?_))))))
 refine Sr (qa (Bv false) (Nt (Cr (Br (Tr (WQ.leaveR (Sum.inr ()) (oi h).symm (fun heq23=> ?_)))))))
 subst heq23
 have h:=(elimR hK23)
 refine Br (Tr ?_)
 have h:=KK.early h h322
 exact Rf h [] Z (Rs Z Z) hle23 ⟨Z,Z⟩
 exact Ck (Bn (Tc (Cg (qu (Iv (IntKind.i64.wrap (x24+1))) (PO.add hs23_13 Z) (qm (Iv (IntKind.i64.wrap (x24+1))) (Wz (WQ.again (IntKind.i64.wrap (x24+1)) (oi h).symm ⟨hle23,Z,hs23_0,hs23_1,hs23_12,Z⟩)))))))
 refine WC.exit (WQ.thenE (WQ.leaveE (Sum.inl ()) (oi h).symm (fun heq23=> ?_)))
 subst heq23
 have h:=elimL hK23
 exact WQ.blockH (WQ.thenFE h ⟨hle23,Z⟩)
 rintro _ ρ22 M22 H22 rfl ⟨hle22,rfl⟩
 have h:=(Sum.elim_inl _ _ _).symm.trans h
 exact Sr (qa (Bv true) (Nt (Cr (Rf h [] Z (Rs Z Z) hle22 ⟨Z,Z⟩))))
noncomputable def f_slices_Equal_int_int_l0 (a0:(List Int)) (a1:(List Int)) (s_:Int):Option (Int⊕(Unit⊕Unit)):=
 match s_ with
 |x24=>
 (if(decide (x24<(a0.length:Int)))=true then(grd (0≤x24∧x24<a0.length) (grd (0≤x24∧x24<a1.length) (if(decide ((rd a0 x24)≠(rd a1 x24)))=true then(some (Sum.inr (Sum.inr ())))else(some (Sum.inl (IntKind.i64.wrap (x24+(1:Int))))))))else(some (Sum.inr (Sum.inl ()))))
noncomputable def f_slices_Equal_int_int (a0:(List Int)) (a1:(List Int)):Option Bool:=
 (if(decide ((a0.length:Int)≠(a1.length:Int)))=true then(some false)else((((iter (f_slices_Equal_int_int_l0 a0 a1) (0:Int)).bind (Sum.elim (fun _=>(some (Sum.inl ()))) (fun _=>(((some false)).bind fun r=>some (Sum.inr r))))):Option (Unit⊕Bool)).bind (Sum.elim (fun _=>(some true)) some)))
def f_slices_Equal_int_int_post (a0:(List Int)) (a1:(List Int)) (v0 v1:Value):Bool→Value→IM→HL→Prop:=
 fun(r0:Bool) (v:Value) (M':IM) (H':HL)=>(.bool r0)=v∧H'=[]
theorem f_slices_Equal_int_int_ok (a0:(List Int)) (a1:(List Int)) (M:IM) (v0 v1:Value) (h0:RS (Kd.int .i64) M v0 a0) (h1:RS (Kd.int .i64) M v1 a1) (res:Bool) (h:f_slices_Equal_int_int a0 a1=some res):
 Tri Tryz.prog 118 #[v0,v1] M [] (f_slices_Equal_int_int_post a0 a1 v0 v1 res):=by
 unfold f_slices_Equal_int_int at h
 refine Te Tryz.func118 Z Z ?_
 intro F ρ hρ
 refine Sr (qa (Bv false) (Nt (Cs (Sr (qM v0 (hρ 0) (qu (Iv (a0.length:Int)) (PO.lenS Tryz.underlying56 Z h0.len) (qM v1 (hρ 1) (qu (Iv (a1.length:Int)) (PO.lenS Tryz.underlying56 Z h1.len) (qu (Bv (decide ((a0.length:Int)≠(a1.length:Int)))) (PO.neq Z Z) (Nt (Ch h Z (fun hb21 h=> ?_) (fun hb21 h=> ?_))))))))))))
 exact Sr (qa (Bv false) (Nt (Cr (Tr (Rf h [] Z (Rs Z Z) lr ⟨Z,Z⟩)))))
 refine Ck (Tc ?_)
 obtain ⟨j22,hj22,h⟩:=bnd h
 refine WC.joinE (fun(_:Unit) ρ' M' H'=>M.le M'∧F=H') j22 ?_ ?_
 have h322:=h
 have h:=hj22
 refine Sr (qM v0 (hρ 0) (qu (Iv (a0.length:Int)) (PO.lenS Tryz.underlying56 Z h0.len) (qm (Iv 0) (Nt (Bk ?_)))))
 obtain ⟨e23,he23,hK23⟩:=bnd h
 clear h
 refine WC.loop he23 (fun(x24:Int) ρ' M' H'=>M.le M'∧F=H'∧ρ' 0=v0∧ρ' 1=v1∧ρ' 12=(Iv (a0.length:Int))∧ρ' 13=(Iv x24)) ?_ ?_
 exact⟨lr,Z,(hρ 0),(hρ 1),Z,Z⟩
 rintro x24 o23 ρ23 M23 H23 h ⟨hle23,rfl,hs23_0,hs23_1,hs23_12,hs23_13⟩
 unfold f_slices_Equal_int_int_l0 at h
 refine Sr (qu (Bv (decide (x24<(a0.length:Int)))) (PO.lss hs23_13 hs23_12) (Nt (Cs (Ch h Z (fun hb25 h=> ?_) (fun hb25 h=> ?_)))))
 refine Ck (Tc (Cs (Bk (Sr (qM (Iv x24) hs23_13 (qa (Iv x24) (Nt (Cs (WC.draw [0,0,3,7,0,0,48,112,255] (.pure 0 (.pure 1 (.pure 2 (.pure 3 (.pure 4 (.pure 5 (.pure 6 (.pure 7 (.pure 8 .done))))))))) mixed (by kernel_rfl) (qt v0 Z (Mv hs23_0) (qt (Iv x24) Z (Mv Z) ?_)))))))))))
 obtain ⟨hg26,h⟩:=grd_i h
 have h0:=h0.mono hle23
 obtain ⟨p27,cs28,hat29,hrc30,hhas31⟩:=h0.at hg26.1 hg26.2 (by decide)
 obtain rfl:=hrc30
 refine qt (.pointer (some p27)) Z (PO.indexAddr (n:=a0.length) Tryz.underlying56 sz3 Z Z hg26.1 hg26.2 hat29) (qt (Iv (rd a0 x24)) Z (PO.loadM pl3 Z (IM.has0 hhas31)) (qt v1 Z (Mv hs23_1) (qt (Iv x24) Z (Mv Z) ?_)))
 obtain ⟨hg33,h⟩:=grd_i h
 have h1:=h1.mono hle23
 obtain ⟨p34,cs35,hat36,hrc37,hhas38⟩:=h1.at hg33.1 hg33.2 (by decide)
 obtain rfl:=hrc37
 refine qt (.pointer (some p34)) Z (PO.indexAddr (n:=a1.length) Tryz.underlying56 sz3 Z Z hg33.1 hg33.2 hat36) (qt (Iv (rd a1 x24)) Z (PO.loadM pl3 Z (IM.has0 hhas38)) (qt (Bv (decide ((rd a0 x24)≠(rd a1 x24)))) Z (PO.neq Z Z) (Ti (Tc (Ch h Z (fun hb40 h=> ?_) (fun hb40 h=> ?_))))))
 refine Sr (qa (Bv false) (Nt (Cr (Br (Tr (WQ.leaveR (Sum.inr ()) (oi h).symm (fun heq23=> ?_)))))))
 subst heq23
 have h:=(elimR hK23)
 refine Br (Tr ?_)
 have h:=KK.early h h322
 exact Rf h [] Z (Rs Z Z) hle23 ⟨Z,Z⟩
 exact Ck (Bn (Tc (Cg (qu (Iv (IntKind.i64.wrap (x24+1))) (PO.add hs23_13 Z) (qm (Iv (IntKind.i64.wrap (x24+1))) (Wz (WQ.again (IntKind.i64.wrap (x24+1)) (oi h).symm ⟨hle23,Z,hs23_0,hs23_1,hs23_12,Z⟩)))))))
 refine WC.exit (WQ.thenE (WQ.leaveE (Sum.inl ()) (oi h).symm (fun heq23=> ?_)))
 subst heq23
 have h:=elimL hK23
 exact WQ.blockH (WQ.thenFE h ⟨hle23,Z⟩)
 rintro _ ρ22 M22 H22 rfl ⟨hle22,rfl⟩
 have h:=(Sum.elim_inl _ _ _).symm.trans h
 exact Sr (qa (Bv true) (Nt (Cr (Rf h [] Z (Rs Z Z) hle22 ⟨Z,Z⟩))))
noncomputable def f_record_Same_1 (a0:T_api_Record):Option (List Int):=
 (some [a0.Kind,a0.Broker,a0.Epoch,a0.Topic,a0.Part,a0.Leader,a0.Client,a0.Serial,a0.Code])
def f_record_Same_1_post (a0:T_api_Record) (v0_14 v0_15 v0_16 v0_17:Value):(List Int)→Value→IM→HL→Prop:=
 fun(r0:(List Int)) (v:Value) (M':IM) (H':HL)=>(.agg #[(.int .i64 (rd r0 (0:Int))),(.int .i64 (rd r0 (1:Int))),(.int .i64 (rd r0 (2:Int))),(.int .i64 (rd r0 (3:Int))),(.int .i64 (rd r0 (4:Int))),(.int .i64 (rd r0 (5:Int))),(.int .i64 (rd r0 (6:Int))),(.int .i64 (rd r0 (7:Int))),(.int .i64 (rd r0 (8:Int)))])=v∧H'=[]
theorem f_record_Same_1_ok (a0:T_api_Record) (M:IM) (v0_14 v0_15 v0_16 v0_17:Value) (h0_14:RS (Kd.int .i64) M v0_14 a0.Ids) (h0_15:RS (Kd.int .i64) M v0_15 a0.Isr) (h0_16:RS (Kd.int .i64) M v0_16 a0.Add) (h0_17:RS (Kd.int .i64) M v0_17 a0.Drop) (res:(List Int)) (h:f_record_Same_1 a0=some res):
 Tri Tryz.prog 119 #[(a58_ a0 v0_14 v0_15 v0_16 v0_17)] M [] (f_record_Same_1_post a0 v0_14 v0_15 v0_16 v0_17 res):=by
 unfold f_record_Same_1 at h
 refine Te Tryz.func119 Z Z ?_
 intro F ρ hρ
 refine Sr (We (EO.box (cs:=(l58 a0 v0_14 v0_15 v0_16 v0_17).toArray) (congrArg Value.cells (asE (a58_ a0 v0_14 v0_15 v0_16 v0_17) (hρ 0)))) Z ?_)
 rintro _ _ _ - ⟨rfl,g21,rfl,rfl⟩
 refine We (Al ze164 Z) Z ?_
 rintro _ _ _ - ⟨rfl,g22,rfl,rfl⟩
 refine Ns (qu (pt g21 0) (Fa fo58_0 Z Z) (qu (Iv a0.Kind) (Lb 1 pl3 Z Z Z) (qu (pt g21 1) (Fa fo58_1 Z Z) (qu (Iv a0.Broker) (Lb 1 pl3 Z Z Z) (qu (pt g21 2) (Fa fo58_2 Z Z) (qu (Iv a0.Epoch) (Lb 1 pl3 Z Z Z) (qu (pt g21 3) (Fa fo58_3 Z Z) (qu (Iv a0.Topic) (Lb 1 pl3 Z Z Z) (qu (pt g21 4) (Fa fo58_4 Z Z) (qu (Iv a0.Part) (Lb 1 pl3 Z Z Z) (qu (pt g21 5) (Fa fo58_5 Z Z) ?_)))))))))))
 refine qu (Iv a0.Leader) (Lb 1 pl3 Z Z Z) (qu (pt g21 6) (Fa fo58_6 Z Z) (qu (Iv a0.Client) (Lb 1 pl3 Z Z Z) (qu (pt g21 7) (Fa fo58_7 Z Z) (qu (Iv a0.Serial) (Lb 1 pl3 Z Z Z) (qu (pt g21 8) (Fa fo58_8 Z Z) (qu (Iv a0.Code) (Lb 1 pl3 Z Z Z) (qu (.agg #[(Iv a0.Kind),(Iv a0.Broker),(Iv a0.Epoch),(Iv a0.Topic),(Iv a0.Part),(Iv a0.Leader),(Iv a0.Client),(Iv a0.Serial),(Iv a0.Code)]) (PO.buildAL (cl:=[(Iv a0.Kind),(Iv a0.Broker),(Iv a0.Epoch),(Iv a0.Topic),(Iv a0.Part),(Iv a0.Leader),(Iv a0.Client),(Iv a0.Serial),(Iv a0.Code)]) ze164 Tryz.underlying164 sz3 (Pc (Iv a0.Kind) Z Z (Pc (Iv a0.Broker) Z Z (Pc (Iv a0.Epoch) Z Z (Pc (Iv a0.Topic) Z Z (Pc (Iv a0.Part) Z Z (Pc (Iv a0.Leader) Z Z (Pc (Iv a0.Client) Z Z (Pc (Iv a0.Serial) Z Z (Pc (Iv a0.Code) Z Z Pz))))))))) Z) (We (Sg (v:=(.agg #[(Iv a0.Kind),(Iv a0.Broker),(Iv a0.Epoch),(Iv a0.Topic),(Iv a0.Part),(Iv a0.Leader),(Iv a0.Client),(Iv a0.Serial),(Iv a0.Code)])) (vl:=[(Iv a0.Kind),(Iv a0.Broker),(Iv a0.Epoch),(Iv a0.Topic),(Iv a0.Part),(Iv a0.Leader),(Iv a0.Client),(Iv a0.Serial),(Iv a0.Code)]) (arr':=[(Iv a0.Kind),(Iv a0.Broker),(Iv a0.Epoch),(Iv a0.Topic),(Iv a0.Part),(Iv a0.Leader),(Iv a0.Client),(Iv a0.Serial),(Iv a0.Code)]) Z sz164 Z Z (onb Z) Z Z (by kernel_rfl)) Z ?_))))))))
 rintro _ _ _ - ⟨rfl,rfl⟩
 exact Nt (Cr (Qa (Dr (Rd h [] (fun _ hs=>hs.drop) (resultsL1 Z (Rc (cs:=[(Iv a0.Kind),(Iv a0.Broker),(Iv a0.Epoch),(Iv a0.Topic),(Iv a0.Part),(Iv a0.Leader),(Iv a0.Client),(Iv a0.Serial),(Iv a0.Code)]) 0 ag164 sz164 Z Z Z)) lr ⟨Z,Z⟩))))
noncomputable def f_record_Same_2 (a0:T_api_Record):Option (List ByteArray):=
 (some [a0.Name,a0.Key,a0.Value,a0.Rack])
def f_record_Same_2_post (a0:T_api_Record) (v0_14 v0_15 v0_16 v0_17:Value):(List ByteArray)→Value→IM→HL→Prop:=
 fun(r0:(List ByteArray)) (v:Value) (M':IM) (H':HL)=>(.agg #[(.string (rd r0 (0:Int))),(.string (rd r0 (1:Int))),(.string (rd r0 (2:Int))),(.string (rd r0 (3:Int)))])=v∧H'=[]
theorem f_record_Same_2_ok (a0:T_api_Record) (M:IM) (v0_14 v0_15 v0_16 v0_17:Value) (h0_14:RS (Kd.int .i64) M v0_14 a0.Ids) (h0_15:RS (Kd.int .i64) M v0_15 a0.Isr) (h0_16:RS (Kd.int .i64) M v0_16 a0.Add) (h0_17:RS (Kd.int .i64) M v0_17 a0.Drop) (res:(List ByteArray)) (h:f_record_Same_2 a0=some res):
 Tri Tryz.prog 120 #[(a58_ a0 v0_14 v0_15 v0_16 v0_17)] M [] (f_record_Same_2_post a0 v0_14 v0_15 v0_16 v0_17 res):=by
 unfold f_record_Same_2 at h
 refine Te Tryz.func120 Z Z ?_
 intro F ρ hρ
 refine Sr (We (EO.box (cs:=(l58 a0 v0_14 v0_15 v0_16 v0_17).toArray) (congrArg Value.cells (asE (a58_ a0 v0_14 v0_15 v0_16 v0_17) (hρ 0)))) Z ?_)
 rintro _ _ _ - ⟨rfl,g21,rfl,rfl⟩
 refine We (Al ze166 Z) Z ?_
 rintro _ _ _ - ⟨rfl,g22,rfl,rfl⟩
 refine Ns (qu (pt g21 10) (Fa fo58_10 Z Z) (qu (Sv a0.Name) (Lb 1 pl9 Z Z Z) (qu (pt g21 11) (Fa fo58_11 Z Z) (qu (Sv a0.Key) (Lb 1 pl9 Z Z Z) (qu (pt g21 12) (Fa fo58_12 Z Z) (qu (Sv a0.Value) (Lb 1 pl9 Z Z Z) (qu (pt g21 13) (Fa fo58_13 Z Z) (qu (Sv a0.Rack) (Lb 1 pl9 Z Z Z) (qu (.agg #[(Sv a0.Name),(Sv a0.Key),(Sv a0.Value),(Sv a0.Rack)]) (PO.buildAL (cl:=[(Sv a0.Name),(Sv a0.Key),(Sv a0.Value),(Sv a0.Rack)]) ze166 Tryz.underlying166 sz9 (Pc (Sv a0.Name) Z Z (Pc (Sv a0.Key) Z Z (Pc (Sv a0.Value) Z Z (Pc (Sv a0.Rack) Z Z Pz)))) Z) (We (Sg (v:=(.agg #[(Sv a0.Name),(Sv a0.Key),(Sv a0.Value),(Sv a0.Rack)])) (vl:=[(Sv a0.Name),(Sv a0.Key),(Sv a0.Value),(Sv a0.Rack)]) (arr':=[(Sv a0.Name),(Sv a0.Key),(Sv a0.Value),(Sv a0.Rack)]) Z sz166 Z Z (onb Z) Z Z Z) Z ?_))))))))))
 rintro _ _ _ - ⟨rfl,rfl⟩
 exact Nt (Cr (Qa (Dr (Rd h [] (fun _ hs=>hs.drop) (resultsL1 Z (Rc (cs:=[(Sv a0.Name),(Sv a0.Key),(Sv a0.Value),(Sv a0.Rack)]) 0 ag166 sz166 Z Z Z)) lr ⟨Z,Z⟩))))

end Go.Proofs.YtkflneabcannnaaGreatDoor.G
