/- Go functions: what they come to, and that they do. Printed by a program of the session (gen). -/
import Derived.Test.YtkflneabcannnaaGreatDoorPF
import Derived.Test.YtkflneabcannnaaGreatDoorP8
import Derived.Test.YtkflneabcannnaaGreatDoorP9
import Derived.Test.YtkflneabcannnaaGreatDoorKConv
import Derived.Test.YtkflneabcannnaaGreatDoorKShar2
import Derived.Test.YtkflneabcannnaaGreatDoorKTight2
set_option linter.unusedVariables false
set_option linter.unusedSimpArgs false
set_option maxHeartbeats 8000000
set_option maxRecDepth 100000
namespace Go.Proofs.YtkflneabcannnaaGreatDoor.G
open Go Go.KK

noncomputable def f_ref05_Check (a0:T_api_Record):Option T_ref05_Wrong:=
 (((if(decide (a0.Kind<(1:Int)))=true then(some true)else(some (decide ((12:Int)<a0.Kind)))):Option Bool).bind fun x23=>(if x23=true then(some (⟨(⟨#[107,105,110,100]⟩:ByteArray),a0.Kind,(5:Int)⟩:T_ref05_Wrong))else((f_ref05_numbers a0).bind fun r27=>(if(decide (r27.Code≠(0:Int)))=true then(some r27)else(((if a0.Flag=true then((f_ref05_has a0.Kind (102:Int)).bind fun r37=>(some (!r37)))else(some false)):Option Bool).bind fun x34=>(if x34=true then(some (⟨(⟨#[102,108,97,103]⟩:ByteArray),(1:Int),(1:Int)⟩:T_ref05_Wrong))else((((f_ref05_has a0.Kind (110:Int)).bind fun r45=>((f_ref05_name a0.Name r45).bind fun r50=>(if(!r50)=true then(some true)else((f_ref05_has a0.Kind (107:Int)).bind fun r56=>((f_ref05_name a0.Key r56).bind fun r61=>(if(!r61)=true then(some true)else((f_ref05_has a0.Kind (114:Int)).bind fun r67=>((f_ref05_name a0.Rack r67).bind fun r72=>(some (!r72)))))))))):Option Bool).bind fun x43=>(if x43=true then(some (⟨(⟨#[110,97,109,101]⟩:ByteArray),(a0.Name.size:Int),(1:Int)⟩:T_ref05_Wrong))else(((if(decide ((256:Int)<(a0.Value.size:Int)))=true then(some true)else(if(!decide (a0.Value=(⟨#[]⟩:ByteArray)))=true then(if a0.Flag=true then(some true)else((f_ref05_has a0.Kind (118:Int)).bind fun r83=>(some (!r83))))else(some false))):Option Bool).bind fun x78=>(if x78=true then(some (⟨(⟨#[118,97,108,117,101]⟩:ByteArray),(a0.Value.size:Int),(6:Int)⟩:T_ref05_Wrong))else((((f_ref05_has a0.Kind (105:Int)).bind fun r91=>((f_ref05_row a0.Ids r91).bind fun r96=>(if(!r96)=true then(some true)else((f_ref05_has a0.Kind (109:Int)).bind fun r102=>((f_ref05_row a0.Isr r102).bind fun r107=>(if(!r107)=true then(some true)else((f_ref05_has a0.Kind (120:Int)).bind fun r113=>((f_ref05_row a0.Add r113).bind fun r118=>(if(!r118)=true then(some true)else((f_ref05_has a0.Kind (120:Int)).bind fun r124=>((f_ref05_row a0.Drop r124).bind fun r129=>(some (!r129))))))))))))):Option Bool).bind fun x89=>(if x89=true then(some (⟨(⟨#[114,111,119]⟩:ByteArray),(a0.Ids.length:Int),(18:Int)⟩:T_ref05_Wrong))else(some lit6_)))))))))))))
def f_ref05_Check_post (a0:T_api_Record) (v0_14 v0_15 v0_16 v0_17:Value):T_ref05_Wrong→Value→IM→HL→Prop:=
 fun(r0:T_ref05_Wrong) (v:Value) (M':IM) (H':HL)=>(.agg #[(.string r0.Op),(.int .i64 r0.At),(.int .i64 r0.Code)])=v∧H'=[]
theorem f_ref05_Check_ok (a0:T_api_Record) (M:IM) (v0_14 v0_15 v0_16 v0_17:Value) (h0_14:RS (Kd.int .i64) M v0_14 a0.Ids) (h0_15:RS (Kd.int .i64) M v0_15 a0.Isr) (h0_16:RS (Kd.int .i64) M v0_16 a0.Add) (h0_17:RS (Kd.int .i64) M v0_17 a0.Drop) (res:T_ref05_Wrong) (h:f_ref05_Check a0=some res):
 Tri Tryz.prog 74 #[(a58_ a0 v0_14 v0_15 v0_16 v0_17)] M [] (f_ref05_Check_post a0 v0_14 v0_15 v0_16 v0_17 res):=by
 unfold f_ref05_Check at h
 refine Te Tryz.func74 Z Z ?_
 intro F ρ hρ
 refine Sr (We (EO.box (cs:=(l58 a0 v0_14 v0_15 v0_16 v0_17).toArray) (congrArg Value.cells (asE (a58_ a0 v0_14 v0_15 v0_16 v0_17) (hρ 0)))) Z ?_)
 rintro _ _ _ - ⟨rfl,g21,rfl,rfl⟩
 refine We (Al ze40 Z) Z ?_
 rintro _ _ _ - ⟨rfl,g22,rfl,rfl⟩
 refine Ns (qu (pt g21 0) (Fa fo58_0 Z Z) (qu (Iv a0.Kind) (Lb 1 pl3 Z Z Z) (qa (Iv a0.Kind) (Nt (Cs ?_)))))
 obtain ⟨x23,hj24,h⟩:=bnd h
 refine Jf (fun(x23:Bool) ρ' M' H'=>M.le M'∧[(g22, .cells #[(Sv ⟨#[]⟩),(Iv 0),(Iv 0)] 40 (0,0))]::[(g21, .cells (l58 a0 v0_14 v0_15 v0_16 v0_17).toArray 58 (0,0))]::F=H'∧ρ' 1=(pt g21 0)∧ρ' 2=(pt g22 0)∧ρ' 3=(Iv a0.Kind)∧ρ' 12=(Bv x23)) x23 ?_ ?_
 have h:=hj24
 refine Cg (qm (Iv a0.Kind) (qu (Bv (decide (a0.Kind<1))) (PO.lss Z Z) (qm (Bv (decide (a0.Kind<1))) ?_)))
 rcases Bi h with⟨hb25,h⟩ |⟨hb25,h⟩
 iterate 2 refine Of 9 Z Z hb25 Z ?_
 refine qu (Bv true) (Pt Z hb25 Z) (Wz ?_)
 obtain rfl:=oi h
 exact Tj ⟨lr,Z,Z,Z,Z,Z⟩
 refine On 9 Z Z hb25 (qm (Iv a0.Kind) (qo 9 hb25 (Bv (decide ((12:Int)<a0.Kind))) (PO.gtr Z Z) (qu (Bv (decide ((12:Int)<a0.Kind))) (Pf Z hb25 Z) (Wz ?_))))
 obtain rfl:=oi h
 exact Tj ⟨lr,Z,Z,Z,Z,Z⟩
 rintro ρ24 M24 H24 ⟨hle24,rfl,hs24_1,hs24_2,hs24_3,hs24_12⟩
 refine Ch h hs24_12 (fun hb26 h=> ?_) (fun hb26 h=> ?_)
 refine Sr (qM (Iv a0.Kind) hs24_3 (qu (.agg #[(Sv ⟨#[107,105,110,100]⟩),(Iv a0.Kind),(Iv 5)]) (Bl (cl:=[(Sv ⟨#[107,105,110,100]⟩),(Iv a0.Kind),(Iv 5)]) ze40 fp40 (Pc (Sv ⟨#[107,105,110,100]⟩) Z Z (Pc (Iv a0.Kind) Z Z (Pc (Iv 5) Z Z Pz))) Z) (We (Sg (v:=(.agg #[(Sv ⟨#[107,105,110,100]⟩),(Iv a0.Kind),(Iv 5)])) (vl:=[(Sv ⟨#[107,105,110,100]⟩),(Iv a0.Kind),(Iv 5)]) (arr':=[(Sv ⟨#[107,105,110,100]⟩),(Iv a0.Kind),(Iv 5)]) Z sz40 hs24_2 Z (onb Z) Z Z Z) Z ?_)))
 rintro _ _ _ - ⟨rfl,rfl⟩
 exact Nt (Cr (Tr (Qa (Dr (Rd h [] (fun _ hs=>hs.drop) (resultsL1 Z (Rc (cs:=[(Sv ⟨#[107,105,110,100]⟩),(Iv a0.Kind),(Iv 5)]) 0 ag40 sz40 hs24_2 Z Z)) hle24 ⟨Z,Z⟩)))))
 refine Ck (Tc (Cs (Sr (qu (a58_ a0 v0_14 v0_15 v0_16 v0_17) (La (cs:=(l58 a0 v0_14 v0_15 v0_16 v0_17)) 1 ag58 sz58 hs24_1 Z Z) ?_))))
 obtain ⟨r27,hr28,h⟩:=bnd h
 have h0_14:=h0_14.mono hle24
 have h0_15:=h0_15.mono hle24
 have h0_16:=h0_16.mono hle24
 have h0_17:=h0_17.mono hle24
 refine We (Ca co104 (f_ref05_numbers_ok a0 _ _ _ _ _ h0_14 h0_15 h0_16 h0_17 r27 hr28) (args1 Z)) Z ?_
 rintro _ M29 _ hle30 ⟨_,⟨rfl,rfl⟩,rfl⟩
 refine WL.a0 (We (Al ze40 Z) Z ?_)
 rintro _ _ _ - ⟨rfl,g32,rfl,rfl⟩
 refine We (Sg (v:=(a40_ r27)) (vl:=(l40 r27)) (arr':=(l40 r27)) Z sz40 Z Z (onb Z) Z Z Z) Z ?_
 rintro _ _ _ - ⟨rfl,rfl⟩
 refine Ns (qu (pt g32 2) (Fa fo40_2 Z Z) (qu (Iv r27.Code) (Lb 0 pl38 Z Z Z) (qu (Bv (decide (r27.Code≠0))) (PO.neq Z Z) (Nt (Ch h Z (fun hb33 h=> ?_) (fun hb33 h=> ?_))))))
 refine Sr (qu (a40_ r27) (La (cs:=(l40 r27)) 0 ag40 sz40 Z Z Z) (WL.f1 (We (Sg (v:=(a40_ r27)) (vl:=(l40 r27)) (arr':=(l40 r27)) Z sz40 hs24_2 Z (onb Z) Z Z Z) Z ?_)))
 rintro _ _ _ - ⟨rfl,rfl⟩
 exact Nt (Cr (Tr (Qa (Dr (Qa (Dr (Rd h [] (fun _ hs=>hs.drop) (resultsL1 Z (Rc (cs:=(l40 r27)) 0 ag40 sz40 hs24_2 Z Z)) (hle24.trans hle30) ⟨Z,Z⟩)))))))
 refine Ck (Tc (Cs ?_))
 obtain ⟨x34,hj35,h⟩:=bnd h
 refine Jf (fun(x34:Bool) ρ' M' H'=>M29.le M'∧[(g32, .cells (l40 r27).toArray 40 (0,0))]::[(g22, .cells #[(Sv ⟨#[]⟩),(Iv 0),(Iv 0)] 40 (0,0))]::[(g21, .cells (l58 a0 v0_14 v0_15 v0_16 v0_17).toArray 58 (0,0))]::F=H'∧ρ' 1=(pt g21 0)∧ρ' 2=(pt g22 0)∧ρ' 3=(Iv a0.Kind)∧ρ' 27=(Bv x34)) x34 ?_ ?_
 have h:=hj35
 refine Cg (qu (pt g21 9) (Fa fo58_9 hs24_1 Z) (qu (Bv a0.Flag) (Lb 2 pl4 Z Z Z) (qm (Bv a0.Flag) ?_)))
 rcases Bi h with⟨hb36,h⟩ |⟨hb36,h⟩
 refine On 23 Z Z hb36 (qM (Iv a0.Kind) hs24_3 (On 23 Z Z hb36 ?_))
 obtain ⟨r37,hr38,h⟩:=bnd h
 refine We (Ca co105 (f_ref05_has_ok a0.Kind (102:Int) _ r37 hr38) (args2 Z Z)) Z ?_
 rintro _ M39 _ hle40 ⟨_,⟨rfl,rfl⟩,rfl⟩
 refine WL.a0 (qo 23 hb36 (Bv (!r37)) (PO.not Z) (qu (Bv (!r37)) (Pt Z hb36 Z) (Wz ?_)))
 obtain rfl:=oi h
 exact Tj ⟨hle40,Z,hs24_1,hs24_2,hs24_3,Z⟩
 iterate 3 refine Of 23 Z Z hb36 Z ?_
 refine qu (Bv false) (Pf Z hb36 Z) (Wz ?_)
 obtain rfl:=oi h
 exact Tj ⟨lr,Z,hs24_1,hs24_2,hs24_3,Z⟩
 rintro ρ35 M35 H35 ⟨hle35,rfl,hs35_1,hs35_2,hs35_3,hs35_27⟩
 have L35:=(hle24.trans hle30).trans hle35
 refine Ch h hs35_27 (fun hb42 h=> ?_) (fun hb42 h=> ?_)
 refine Sr (qu (.agg #[(Sv ⟨#[102,108,97,103]⟩),(Iv 1),(Iv 1)]) (Bl (cl:=[(Sv ⟨#[102,108,97,103]⟩),(Iv 1),(Iv 1)]) ze40 fp40 (Pc (Sv ⟨#[102,108,97,103]⟩) Z Z (Pc (Iv 1) Z Z (Pc (Iv 1) Z Z Pz))) Z) (WL.f1 (We (Sg (v:=(.agg #[(Sv ⟨#[102,108,97,103]⟩),(Iv 1),(Iv 1)])) (vl:=[(Sv ⟨#[102,108,97,103]⟩),(Iv 1),(Iv 1)]) (arr':=[(Sv ⟨#[102,108,97,103]⟩),(Iv 1),(Iv 1)]) Z sz40 hs35_2 Z (onb Z) Z Z Z) Z ?_)))
 rintro _ _ _ - ⟨rfl,rfl⟩
 exact Nt (Cr (Tr (Qa (Dr (Qa (Dr (Rd h [] (fun _ hs=>hs.drop) (resultsL1 Z (Rc (cs:=[(Sv ⟨#[102,108,97,103]⟩),(Iv 1),(Iv 1)]) 0 ag40 sz40 hs35_2 Z Z)) L35 ⟨Z,Z⟩)))))))
 refine Ck (Tc (Cs ?_))
 obtain ⟨x43,hj44,h⟩:=bnd h
 refine Jf (fun(x43:Bool) ρ' M' H'=>M35.le M'∧[(g32, .cells (l40 r27).toArray 40 (0,0))]::[(g22, .cells #[(Sv ⟨#[]⟩),(Iv 0),(Iv 0)] 40 (0,0))]::[(g21, .cells (l58 a0 v0_14 v0_15 v0_16 v0_17).toArray 58 (0,0))]::F=H'∧ρ' 1=(pt g21 0)∧ρ' 2=(pt g22 0)∧ρ' 3=(Iv a0.Kind)∧ρ' 50=(Bv x43)) x43 ?_ ?_
 have h:=hj44
 refine WC.draw [0,1,0,4,15,31,63,127,255,127,639,2047,4095,8191,16383,32767,65535,32767,163839,524287,1048575,2097151] (.pure 0 (.pure 1 (.pure 2 (.alt 3 (.alt 4 (.pure 5 (.pure 6 (.pure 7 (.pure 8 (.pure 9 (.alt 10 (.alt 11 (.pure 12 (.pure 13 (.pure 14 (.pure 15 (.pure 16 (.pure 17 (.alt 18 (.alt 19 (.pure 20 (.pure 21 .done)) .none) .none))))))) .none) .none)))))) .none) .none)))) mixed (by kernel_rfl) (qt (pt g21 10) Z (Fa fo58_10 hs35_1 Z) (qt (Sv a0.Name) Z (Lb 2 pl9 Z Z Z) (qt (Iv a0.Kind) Z (Mv hs35_3) ?_)))
 obtain ⟨r45,hr46,h⟩:=bnd h
 refine Ta Z (Ca co105 (f_ref05_has_ok a0.Kind (110:Int) _ r45 hr46) (args2 Z Z)) Z ?_ ?_
 rintro _ M47 _ hle48 ⟨_,⟨rfl,rfl⟩,rfl⟩
 refine⟨(Sk 1 Z (Ss Z (Lb 2 pl9 Z Z Z) Z (Ss Z (Fa fo58_10 hs35_1 Z) Z trivial))), ?_⟩
 refine WT.a0 ?_
 obtain ⟨r50,hr51,h⟩:=bnd h
 refine Ta Z (Ca co106 (f_ref05_name_ok a0.Name r45 _ r50 hr51) (args2 Z Z)) Z ?_ ?_
 rintro _ M52 _ hle53 ⟨_,⟨rfl,rfl⟩,rfl⟩
 refine⟨(Sl Z), ?_⟩
 refine WT.a0 (qt (Bv (!r50)) Z (PO.not Z) (qt (Bv (!r50)) Z (Mv Z) ?_))
 rcases Bi h with⟨hb55,h⟩ |⟨hb55,h⟩
 refine Tf 35 Z Z Z hb55 Z (Tf 35 Z Z Z hb55 Z (Tf 35 Z Z Z hb55 Z (Tg 35 Z Z Z hb55 Z ⟨(Sk 1 Z (St (Sf 35 Z Z Z hb55 Z) (St (Sf 35 Z Z Z hb55 Z) (Sl Z)))), ?_⟩ ?_)))
 refine Tg 35 Z Z Z hb55 Z ⟨(Sl Z), ?_⟩ ?_
 refine Tf 35 Z Z Z hb55 Z (qt (Bv true) Z (Pt Z hb55 Z) (qt (Bv true) Z (Mv Z) (Tf 43 Z Z Z Z Z (Tf 43 Z Z Z Z Z (Tf 43 Z Z Z Z Z (Tg 43 Z Z Z Z Z ⟨(Sk 1 Z (St (Sf 43 Z Z Z Z Z) (St (Sf 43 Z Z Z Z Z) (Sl Z)))), ?_⟩ ?_))))))
 refine Tg 43 Z Z Z Z Z ⟨(Sl Z), ?_⟩ ?_
 refine Tf 43 Z Z Z Z Z (qt (Bv true) Z (Pt Z Z Z) (Ti ?_))
 obtain rfl:=oi h
 exact Tj ⟨(hle48.trans hle53),Z,hs35_1,hs35_2,hs35_3,Z⟩
 exact Tz
 exact Tz
 exact Tz
 exact Tz
 refine Tn (pt g21 11) 35 Z Z Z hb55 (Fa fo58_11 hs35_1 Z) Z (Tn (Sv a0.Key) 35 Z Z Z hb55 (Lb 2 pl9 Z Z Z) Z (Tn (Iv a0.Kind) 35 Z Z Z hb55 (Mv hs35_3) Z ?_))
 obtain ⟨r56,hr57,h⟩:=bnd h
 refine WT.altOn 35 Z Z Z hb55 (Ca co105 (f_ref05_has_ok a0.Kind (107:Int) _ r56 hr57) (args2 Z Z)) Z ?_ ?_
 rintro _ M58 _ hle59 ⟨_,⟨rfl,rfl⟩,rfl⟩
 refine⟨(Sk 1 Z (St (StabA.on 35 Z Z Z hb55 (Lb 2 pl9 Z Z Z) Z) (St (StabA.on 35 Z Z Z hb55 (Fa fo58_11 hs35_1 Z) Z) (Sl Z)))), ?_⟩
 refine WT.a0 ?_
 obtain ⟨r61,hr62,h⟩:=bnd h
 refine WT.altOn 35 Z Z Z hb55 (Ca co106 (f_ref05_name_ok a0.Key r56 _ r61 hr62) (args2 Z Z)) Z ?_ ?_
 rintro _ M63 _ hle64 ⟨_,⟨rfl,rfl⟩,rfl⟩
 refine⟨(Sl Z), ?_⟩
 refine WT.a0 (Tn (Bv (!r61)) 35 Z Z Z hb55 (PO.not Z) Z (qt (Bv (!r61)) Z (Pf Z hb55 Z) (qt (Bv (!r61)) Z (Mv Z) ?_)))
 rcases Bi h with⟨hb66,h⟩ |⟨hb66,h⟩
 refine Tf 43 Z Z Z hb66 Z (Tf 43 Z Z Z hb66 Z (Tf 43 Z Z Z hb66 Z (Tg 43 Z Z Z hb66 Z ⟨(Sk 1 Z (St (Sf 43 Z Z Z hb66 Z) (St (Sf 43 Z Z Z hb66 Z) (Sl Z)))), ?_⟩ ?_)))
 refine Tg 43 Z Z Z hb66 Z ⟨(Sl Z), ?_⟩ ?_
 refine Tf 43 Z Z Z hb66 Z (qt (Bv true) Z (Pt Z hb66 Z) (Ti ?_))
 obtain rfl:=oi h
 exact Tj ⟨(((hle48.trans hle53).trans hle59).trans hle64),Z,hs35_1,hs35_2,hs35_3,Z⟩
 exact Tz
 exact Tz
 refine Tn (pt g21 13) 43 Z Z Z hb66 (Fa fo58_13 hs35_1 Z) Z (Tn (Sv a0.Rack) 43 Z Z Z hb66 (Lb 2 pl9 Z Z Z) Z (Tn (Iv a0.Kind) 43 Z Z Z hb66 (Mv hs35_3) Z ?_))
 obtain ⟨r67,hr68,h⟩:=bnd h
 refine WT.altOn 43 Z Z Z hb66 (Ca co105 (f_ref05_has_ok a0.Kind (114:Int) _ r67 hr68) (args2 Z Z)) Z ?_ ?_
 rintro _ M69 _ hle70 ⟨_,⟨rfl,rfl⟩,rfl⟩
 refine⟨(Sk 1 Z (St (StabA.on 43 Z Z Z hb66 (Lb 2 pl9 Z Z Z) Z) (St (StabA.on 43 Z Z Z hb66 (Fa fo58_13 hs35_1 Z) Z) (Sl Z)))), ?_⟩
 refine WT.a0 ?_
 obtain ⟨r72,hr73,h⟩:=bnd h
 refine WT.altOn 43 Z Z Z hb66 (Ca co106 (f_ref05_name_ok a0.Rack r67 _ r72 hr73) (args2 Z Z)) Z ?_ ?_
 rintro _ M74 _ hle75 ⟨_,⟨rfl,rfl⟩,rfl⟩
 refine⟨(Sl Z), ?_⟩
 refine WT.a0 (Tn (Bv (!r72)) 43 Z Z Z hb66 (PO.not Z) Z (qt (Bv (!r72)) Z (Pf Z hb66 Z) (Ti ?_)))
 obtain rfl:=oi h
 exact Tj ⟨(((((hle48.trans hle53).trans hle59).trans hle64).trans hle70).trans hle75),Z,hs35_1,hs35_2,hs35_3,Z⟩
 exact Tz
 exact Tz
 exact Tz
 exact Tz
 exact Tz
 exact Tz
 rintro ρ44 M44 H44 ⟨hle44,rfl,hs44_1,hs44_2,hs44_3,hs44_50⟩
 have L44:=(hle30.trans hle35).trans hle44
 have L44_1:=L35.trans hle44
 refine Ch h hs44_50 (fun hb77 h=> ?_) (fun hb77 h=> ?_)
 refine Sr (qu (pt g21 10) (Fa fo58_10 hs44_1 Z) (qu (Sv a0.Name) (Lb 2 pl9 Z Z Z) (qu (Iv (a0.Name.size:Int)) (PO.lenStr Tryz.underlying9 Z) (qu (.agg #[(Sv ⟨#[110,97,109,101]⟩),(Iv (a0.Name.size:Int)),(Iv 1)]) (Bl (cl:=[(Sv ⟨#[110,97,109,101]⟩),(Iv (a0.Name.size:Int)),(Iv 1)]) ze40 fp40 (Pc (Sv ⟨#[110,97,109,101]⟩) Z Z (Pc (Iv (a0.Name.size:Int)) Z Z (Pc (Iv 1) Z Z Pz))) Z) (WL.f1 (We (Sg (v:=(.agg #[(Sv ⟨#[110,97,109,101]⟩),(Iv (a0.Name.size:Int)),(Iv 1)])) (vl:=[(Sv ⟨#[110,97,109,101]⟩),(Iv (a0.Name.size:Int)),(Iv 1)]) (arr':=[(Sv ⟨#[110,97,109,101]⟩),(Iv (a0.Name.size:Int)),(Iv 1)]) Z sz40 hs44_2 Z (onb Z) Z Z Z) Z ?_))))))
 rintro _ _ _ - ⟨rfl,rfl⟩
 exact Nt (Cr (Tr (Qa (Dr (Qa (Dr (Rd h [] (fun _ hs=>hs.drop) (resultsL1 Z (Rc (cs:=[(Sv ⟨#[110,97,109,101]⟩),(Iv (a0.Name.size:Int)),(Iv 1)]) 0 ag40 sz40 hs44_2 Z Z)) L44_1 ⟨Z,Z⟩)))))))
 refine Ck (Tc (Cs ?_))
 obtain ⟨x78,hj79,h⟩:=bnd h
 refine Jf (fun(x78:Bool) ρ' M' H'=>M44.le M'∧[(g32, .cells (l40 r27).toArray 40 (0,0))]::[(g22, .cells #[(Sv ⟨#[]⟩),(Iv 0),(Iv 0)] 40 (0,0))]::[(g21, .cells (l58 a0 v0_14 v0_15 v0_16 v0_17).toArray 58 (0,0))]::F=H'∧ρ' 1=(pt g21 0)∧ρ' 2=(pt g22 0)∧ρ' 3=(Iv a0.Kind)∧ρ' 72=(Bv x78)) x78 ?_ ?_
 have h:=hj79
 refine Cg (qu (pt g21 12) (Fa fo58_12 hs44_1 Z) (qu (Sv a0.Value) (Lb 2 pl9 Z Z Z) (qu (Iv (a0.Value.size:Int)) (PO.lenStr Tryz.underlying9 Z) (qu (Bv (decide ((256:Int)<(a0.Value.size:Int)))) (PO.gtr Z Z) (qm (Bv (decide ((256:Int)<(a0.Value.size:Int)))) ?_)))))
 rcases Bi h with⟨hb80,h⟩ |⟨hb80,h⟩
 iterate 4 refine Of 59 Z Z hb80 Z ?_
 refine WL.offU 63 Z Z Z (WL.offU 63 Z Z Z (WL.offU 63 Z Z Z (WL.offU 66 Z Z Z (WL.offU 66 Z Z Z (WL.offU 66 Z Z Z (WL.offU 63 Z Z Z (Of 59 Z Z hb80 Z (qu (Bv true) (Pt Z hb80 Z) (Wz ?_)))))))))
 obtain rfl:=oi h
 exact Tj ⟨lr,Z,hs44_1,hs44_2,hs44_3,Z⟩
 refine qo 59 hb80 (pt g21 12) (Fa fo58_12 hs44_1 Z) (qo 59 hb80 (Sv a0.Value) (Lb 2 pl9 Z Z Z) (qo 59 hb80 (Bv (!decide (a0.Value=(⟨#[]⟩:ByteArray)))) (PO.sneq Z Z) (On 59 Z Z hb80 (qm (Bv (!decide (a0.Value=(⟨#[]⟩:ByteArray)))) ?_))))
 rcases Bi h with⟨hb81,h⟩ |⟨hb81,h⟩
 refine qo 63 hb81 (pt g21 9) (Fa fo58_9 hs44_1 Z) (qo 63 hb81 (Bv a0.Flag) (Lb 2 pl4 Z Z Z) (On 63 Z Z hb81 (qm (Bv a0.Flag) ?_)))
 rcases Bi h with⟨hb82,h⟩ |⟨hb82,h⟩
 iterate 3 refine Of 66 Z Z hb82 Z ?_
 refine qo 63 hb81 (Bv true) (Pt Z hb82 Z) (qo 59 hb80 (Bv true) (Pt Z hb81 Z) (qu (Bv true) (Pf Z hb80 Z) (Wz ?_)))
 obtain rfl:=oi h
 exact Tj ⟨lr,Z,hs44_1,hs44_2,hs44_3,Z⟩
 refine On 66 Z Z hb82 (qM (Iv a0.Kind) hs44_3 (On 66 Z Z hb82 ?_))
 obtain ⟨r83,hr84,h⟩:=bnd h
 refine We (Ca co105 (f_ref05_has_ok a0.Kind (118:Int) _ r83 hr84) (args2 Z Z)) Z ?_
 rintro _ M85 _ hle86 ⟨_,⟨rfl,rfl⟩,rfl⟩
 refine WL.a0 (qo 66 hb82 (Bv (!r83)) (PO.not Z) (qo 63 hb81 (Bv (!r83)) (Pf Z hb82 Z) (qo 59 hb80 (Bv (!r83)) (Pt Z hb81 Z) (qu (Bv (!r83)) (Pf Z hb80 Z) (Wz ?_)))))
 obtain rfl:=oi h
 exact Tj ⟨hle86,Z,hs44_1,hs44_2,hs44_3,Z⟩
 iterate 3 refine Of 63 Z Z hb81 Z ?_
 refine WL.offU 66 Z Z Z (WL.offU 66 Z Z Z (WL.offU 66 Z Z Z (Of 63 Z Z hb81 Z (qo 59 hb80 (Bv false) (Pf Z hb81 Z) (qu (Bv false) (Pf Z hb80 Z) (Wz ?_))))))
 obtain rfl:=oi h
 exact Tj ⟨lr,Z,hs44_1,hs44_2,hs44_3,Z⟩
 rintro ρ79 M79 H79 ⟨hle79,rfl,hs79_1,hs79_2,hs79_3,hs79_72⟩
 have L79:=L44.trans hle79
 have L79_1:=L44_1.trans hle79
 refine Ch h hs79_72 (fun hb88 h=> ?_) (fun hb88 h=> ?_)
 refine Sr (qu (pt g21 12) (Fa fo58_12 hs79_1 Z) (qu (Sv a0.Value) (Lb 2 pl9 Z Z Z) (qu (Iv (a0.Value.size:Int)) (PO.lenStr Tryz.underlying9 Z) (qu (.agg #[(Sv ⟨#[118,97,108,117,101]⟩),(Iv (a0.Value.size:Int)),(Iv 6)]) (Bl (cl:=[(Sv ⟨#[118,97,108,117,101]⟩),(Iv (a0.Value.size:Int)),(Iv 6)]) ze40 fp40 (Pc (Sv ⟨#[118,97,108,117,101]⟩) Z Z (Pc (Iv (a0.Value.size:Int)) Z Z (Pc (Iv 6) Z Z Pz))) Z) (WL.f1 (We (Sg (v:=(.agg #[(Sv ⟨#[118,97,108,117,101]⟩),(Iv (a0.Value.size:Int)),(Iv 6)])) (vl:=[(Sv ⟨#[118,97,108,117,101]⟩),(Iv (a0.Value.size:Int)),(Iv 6)]) (arr':=[(Sv ⟨#[118,97,108,117,101]⟩),(Iv (a0.Value.size:Int)),(Iv 6)]) Z sz40 hs79_2 Z (onb Z) Z Z Z) Z ?_))))))
 rintro _ _ _ - ⟨rfl,rfl⟩
 exact Nt (Cr (Tr (Qa (Dr (Qa (Dr (Rd h [] (fun _ hs=>hs.drop) (resultsL1 Z (Rc (cs:=[(Sv ⟨#[118,97,108,117,101]⟩),(Iv (a0.Value.size:Int)),(Iv 6)]) 0 ag40 sz40 hs79_2 Z Z)) L79_1 ⟨Z,Z⟩)))))))
 refine Ck (Tc (Cs ?_))
 obtain ⟨x89,hj90,h⟩:=bnd h
 refine Jf (fun(x89:Bool) ρ' M' H'=>M79.le M'∧[(g32, .cells (l40 r27).toArray 40 (0,0))]::[(g22, .cells #[(Sv ⟨#[]⟩),(Iv 0),(Iv 0)] 40 (0,0))]::[(g21, .cells (l58 a0 v0_14 v0_15 v0_16 v0_17).toArray 58 (0,0))]::F=H'∧ρ' 1=(pt g21 0)∧ρ' 2=(pt g22 0)∧ρ' 106=(Bv x89)) x89 ?_ ?_
 have h:=hj90
 refine WC.draw [0,1,0,4,15,31,63,127,255,127,639,2047,4095,8191,16383,32767,65535,32767,163839,524287,1048575,2097151,4194303,8388607,16777215,8388607,41943039,134217727,268435455,536870911] (.pure 0 (.pure 1 (.pure 2 (.alt 3 (.alt 4 (.pure 5 (.pure 6 (.pure 7 (.pure 8 (.pure 9 (.alt 10 (.alt 11 (.pure 12 (.pure 13 (.pure 14 (.pure 15 (.pure 16 (.pure 17 (.alt 18 (.alt 19 (.pure 20 (.pure 21 (.pure 22 (.pure 23 (.pure 24 (.pure 25 (.alt 26 (.alt 27 (.pure 28 (.pure 29 .done)) .none) .none))))))) .none) .none))))))) .none) .none)))))) .none) .none)))) mixed (by kernel_rfl) (qt (pt g21 14) Z (Fa fo58_14 hs79_1 Z) (qt v0_14 Z (Lb 2 pl56 Z Z Z) (qt (Iv a0.Kind) Z (Mv hs79_3) ?_)))
 obtain ⟨r91,hr92,h⟩:=bnd h
 refine Ta Z (Ca co105 (f_ref05_has_ok a0.Kind (105:Int) _ r91 hr92) (args2 Z Z)) Z ?_ ?_
 rintro _ M93 _ hle94 ⟨_,⟨rfl,rfl⟩,rfl⟩
 have L94:=L79.trans hle94
 refine⟨(Sk 1 Z (Ss Z (Lb 2 pl56 Z Z Z) Z (Ss Z (Fa fo58_14 hs79_1 Z) Z trivial))), ?_⟩
 refine WT.a0 ?_
 obtain ⟨r96,hr97,h⟩:=bnd h
 have h0_14:=h0_14.mono L94
 refine Ta Z (Ca co107 (f_ref05_row_ok a0.Ids r91 _ _ h0_14 r96 hr97) (args2 Z Z)) Z ?_ ?_
 rintro _ M98 _ hle99 ⟨_,⟨rfl,rfl⟩,rfl⟩
 have L99:=L94.trans hle99
 refine⟨(Sl Z), ?_⟩
 refine WT.a0 (qt (Bv (!r96)) Z (PO.not Z) (qt (Bv (!r96)) Z (Mv Z) ?_))
 rcases Bi h with⟨hb101,h⟩ |⟨hb101,h⟩
 refine Tf 83 Z Z Z hb101 Z (Tf 83 Z Z Z hb101 Z (Tf 83 Z Z Z hb101 Z (Tg 83 Z Z Z hb101 Z ⟨(Sk 1 Z (St (Sf 83 Z Z Z hb101 Z) (St (Sf 83 Z Z Z hb101 Z) (Sl Z)))), ?_⟩ ?_)))
 refine Tg 83 Z Z Z hb101 Z ⟨(Sl Z), ?_⟩ ?_
 refine Tf 83 Z Z Z hb101 Z (qt (Bv true) Z (Pt Z hb101 Z) (qt (Bv true) Z (Mv Z) (Tf 91 Z Z Z Z Z (Tf 91 Z Z Z Z Z (Tf 91 Z Z Z Z Z (Tg 91 Z Z Z Z Z ⟨(Sk 1 Z (St (Sf 91 Z Z Z Z Z) (St (Sf 91 Z Z Z Z Z) (Sl Z)))), ?_⟩ ?_))))))
 refine Tg 91 Z Z Z Z Z ⟨(Sl Z), ?_⟩ ?_
 refine Tf 91 Z Z Z Z Z (qt (Bv true) Z (Pt Z Z Z) (qt (Bv true) Z (Mv Z) (Tf 99 Z Z Z Z Z (Tf 99 Z Z Z Z Z (Tf 99 Z Z Z Z Z (Tg 99 Z Z Z Z Z ⟨(Sk 1 Z (St (Sf 99 Z Z Z Z Z) (St (Sf 99 Z Z Z Z Z) (Sl Z)))), ?_⟩ ?_))))))
 refine Tg 99 Z Z Z Z Z ⟨(Sl Z), ?_⟩ ?_
 refine Tf 99 Z Z Z Z Z (qt (Bv true) Z (Pt Z Z Z) (Ti ?_))
 obtain rfl:=oi h
 exact Tj ⟨(hle94.trans hle99),Z,hs79_1,hs79_2,Z⟩
 exact Tz
 exact Tz
 exact Tz
 exact Tz
 exact Tz
 exact Tz
 refine Tn (pt g21 15) 83 Z Z Z hb101 (Fa fo58_15 hs79_1 Z) Z (Tn v0_15 83 Z Z Z hb101 (Lb 2 pl56 Z Z Z) Z (Tn (Iv a0.Kind) 83 Z Z Z hb101 (Mv hs79_3) Z ?_))
 obtain ⟨r102,hr103,h⟩:=bnd h
 refine WT.altOn 83 Z Z Z hb101 (Ca co105 (f_ref05_has_ok a0.Kind (109:Int) _ r102 hr103) (args2 Z Z)) Z ?_ ?_
 rintro _ M104 _ hle105 ⟨_,⟨rfl,rfl⟩,rfl⟩
 have L105:=L99.trans hle105
 refine⟨(Sk 1 Z (St (StabA.on 83 Z Z Z hb101 (Lb 2 pl56 Z Z Z) Z) (St (StabA.on 83 Z Z Z hb101 (Fa fo58_15 hs79_1 Z) Z) (Sl Z)))), ?_⟩
 refine WT.a0 ?_
 obtain ⟨r107,hr108,h⟩:=bnd h
 have h0_15:=h0_15.mono L105
 refine WT.altOn 83 Z Z Z hb101 (Ca co107 (f_ref05_row_ok a0.Isr r102 _ _ h0_15 r107 hr108) (args2 Z Z)) Z ?_ ?_
 rintro _ M109 _ hle110 ⟨_,⟨rfl,rfl⟩,rfl⟩
 have L110:=((hle94.trans hle99).trans hle105).trans hle110
 refine⟨(Sl Z), ?_⟩
 refine WT.a0 (Tn (Bv (!r107)) 83 Z Z Z hb101 (PO.not Z) Z (qt (Bv (!r107)) Z (Pf Z hb101 Z) (qt (Bv (!r107)) Z (Mv Z) ?_)))
 rcases Bi h with⟨hb112,h⟩ |⟨hb112,h⟩
 refine Tf 91 Z Z Z hb112 Z (Tf 91 Z Z Z hb112 Z (Tf 91 Z Z Z hb112 Z (Tg 91 Z Z Z hb112 Z ⟨(Sk 1 Z (St (Sf 91 Z Z Z hb112 Z) (St (Sf 91 Z Z Z hb112 Z) (Sl Z)))), ?_⟩ ?_)))
 refine Tg 91 Z Z Z hb112 Z ⟨(Sl Z), ?_⟩ ?_
 refine Tf 91 Z Z Z hb112 Z (qt (Bv true) Z (Pt Z hb112 Z) (qt (Bv true) Z (Mv Z) (Tf 99 Z Z Z Z Z (Tf 99 Z Z Z Z Z (Tf 99 Z Z Z Z Z (Tg 99 Z Z Z Z Z ⟨(Sk 1 Z (St (Sf 99 Z Z Z Z Z) (St (Sf 99 Z Z Z Z Z) (Sl Z)))), ?_⟩ ?_))))))
 refine Tg 99 Z Z Z Z Z ⟨(Sl Z), ?_⟩ ?_
 refine Tf 99 Z Z Z Z Z (qt (Bv true) Z (Pt Z Z Z) (Ti ?_))
 obtain rfl:=oi h
 exact Tj ⟨L110,Z,hs79_1,hs79_2,Z⟩
 exact Tz
 exact Tz
 exact Tz
 exact Tz
 refine Tn (pt g21 16) 91 Z Z Z hb112 (Fa fo58_16 hs79_1 Z) Z (Tn v0_16 91 Z Z Z hb112 (Lb 2 pl56 Z Z Z) Z (Tn (Iv a0.Kind) 91 Z Z Z hb112 (Mv hs79_3) Z ?_))
 obtain ⟨r113,hr114,h⟩:=bnd h
 refine WT.altOn 91 Z Z Z hb112 (Ca co105 (f_ref05_has_ok a0.Kind (120:Int) _ r113 hr114) (args2 Z Z)) Z ?_ ?_
 rintro _ M115 _ hle116 ⟨_,⟨rfl,rfl⟩,rfl⟩
 refine⟨(Sk 1 Z (St (StabA.on 91 Z Z Z hb112 (Lb 2 pl56 Z Z Z) Z) (St (StabA.on 91 Z Z Z hb112 (Fa fo58_16 hs79_1 Z) Z) (Sl Z)))), ?_⟩
 refine WT.a0 ?_
 obtain ⟨r118,hr119,h⟩:=bnd h
 have h0_16:=h0_16.mono ((L105.trans hle110).trans hle116)
 refine WT.altOn 91 Z Z Z hb112 (Ca co107 (f_ref05_row_ok a0.Add r113 _ _ h0_16 r118 hr119) (args2 Z Z)) Z ?_ ?_
 rintro _ M120 _ hle121 ⟨_,⟨rfl,rfl⟩,rfl⟩
 refine⟨(Sl Z), ?_⟩
 refine WT.a0 (Tn (Bv (!r118)) 91 Z Z Z hb112 (PO.not Z) Z (qt (Bv (!r118)) Z (Pf Z hb112 Z) (qt (Bv (!r118)) Z (Mv Z) ?_)))
 rcases Bi h with⟨hb123,h⟩ |⟨hb123,h⟩
 refine Tf 99 Z Z Z hb123 Z (Tf 99 Z Z Z hb123 Z (Tf 99 Z Z Z hb123 Z (Tg 99 Z Z Z hb123 Z ⟨(Sk 1 Z (St (Sf 99 Z Z Z hb123 Z) (St (Sf 99 Z Z Z hb123 Z) (Sl Z)))), ?_⟩ ?_)))
 refine Tg 99 Z Z Z hb123 Z ⟨(Sl Z), ?_⟩ ?_
 refine Tf 99 Z Z Z hb123 Z (qt (Bv true) Z (Pt Z hb123 Z) (Ti ?_))
 obtain rfl:=oi h
 exact Tj ⟨((L110.trans hle116).trans hle121),Z,hs79_1,hs79_2,Z⟩
 exact Tz
 exact Tz
 refine Tn (pt g21 17) 99 Z Z Z hb123 (Fa fo58_17 hs79_1 Z) Z (Tn v0_17 99 Z Z Z hb123 (Lb 2 pl56 Z Z Z) Z (Tn (Iv a0.Kind) 99 Z Z Z hb123 (Mv hs79_3) Z ?_))
 obtain ⟨r124,hr125,h⟩:=bnd h
 refine WT.altOn 99 Z Z Z hb123 (Ca co105 (f_ref05_has_ok a0.Kind (120:Int) _ r124 hr125) (args2 Z Z)) Z ?_ ?_
 rintro _ M126 _ hle127 ⟨_,⟨rfl,rfl⟩,rfl⟩
 refine⟨(Sk 1 Z (St (StabA.on 99 Z Z Z hb123 (Lb 2 pl56 Z Z Z) Z) (St (StabA.on 99 Z Z Z hb123 (Fa fo58_17 hs79_1 Z) Z) (Sl Z)))), ?_⟩
 refine WT.a0 ?_
 obtain ⟨r129,hr130,h⟩:=bnd h
 have h0_17:=h0_17.mono ((((L105.trans hle110).trans hle116).trans hle121).trans hle127)
 refine WT.altOn 99 Z Z Z hb123 (Ca co107 (f_ref05_row_ok a0.Drop r124 _ _ h0_17 r129 hr130) (args2 Z Z)) Z ?_ ?_
 rintro _ M131 _ hle132 ⟨_,⟨rfl,rfl⟩,rfl⟩
 refine⟨(Sl Z), ?_⟩
 refine WT.a0 (Tn (Bv (!r129)) 99 Z Z Z hb123 (PO.not Z) Z (qt (Bv (!r129)) Z (Pf Z hb123 Z) (Ti ?_)))
 obtain rfl:=oi h
 exact Tj ⟨((((L110.trans hle116).trans hle121).trans hle127).trans hle132),Z,hs79_1,hs79_2,Z⟩
 exact Tz
 exact Tz
 exact Tz
 exact Tz
 exact Tz
 exact Tz
 exact Tz
 exact Tz
 rintro ρ90 M90 H90 ⟨hle90,rfl,hs90_1,hs90_2,hs90_106⟩
 refine Ch h hs90_106 (fun hb134 h=> ?_) (fun hb134 h=> ?_)
 refine Sr (qu (pt g21 14) (Fa fo58_14 hs90_1 Z) (qu v0_14 (Lb 2 pl56 Z Z Z) ?_))
 have h0_14:=h0_14.mono (L79.trans hle90)
 refine qu (Iv (a0.Ids.length:Int)) (PO.lenS Tryz.underlying56 Z h0_14.len) (qu (.agg #[(Sv ⟨#[114,111,119]⟩),(Iv (a0.Ids.length:Int)),(Iv 18)]) (Bl (cl:=[(Sv ⟨#[114,111,119]⟩),(Iv (a0.Ids.length:Int)),(Iv 18)]) ze40 fp40 (Pc (Sv ⟨#[114,111,119]⟩) Z Z (Pc (Iv (a0.Ids.length:Int)) Z Z (Pc (Iv 18) Z Z Pz))) Z) (WL.f1 (We (Sg (v:=(.agg #[(Sv ⟨#[114,111,119]⟩),(Iv (a0.Ids.length:Int)),(Iv 18)])) (vl:=[(Sv ⟨#[114,111,119]⟩),(Iv (a0.Ids.length:Int)),(Iv 18)]) (arr':=[(Sv ⟨#[114,111,119]⟩),(Iv (a0.Ids.length:Int)),(Iv 18)]) Z sz40 hs90_2 Z (onb Z) Z Z Z) Z ?_)))
 rintro _ _ _ - ⟨rfl,rfl⟩
 exact Nt (Cr (Tr (Qa (Dr (Qa (Dr (Rd h [] (fun _ hs=>hs.drop) (resultsL1 Z (Rc (cs:=[(Sv ⟨#[114,111,119]⟩),(Iv (a0.Ids.length:Int)),(Iv 18)]) 0 ag40 sz40 hs90_2 Z Z)) (L79_1.trans hle90) ⟨Z,Z⟩)))))))
 refine Ck (Tc (Sr (qu (.agg #[(Sv ⟨#[]⟩),(Iv 0),(Iv 0)]) (Bl (cl:=[(Sv ⟨#[]⟩),(Iv 0),(Iv 0)]) ze40 fp40 Pz Z) (WL.f1 (We (Sg (v:=(.agg #[(Sv ⟨#[]⟩),(Iv 0),(Iv 0)])) (vl:=[(Sv ⟨#[]⟩),(Iv 0),(Iv 0)]) (arr':=[(Sv ⟨#[]⟩),(Iv 0),(Iv 0)]) Z sz40 hs90_2 Z (onb Z) Z Z Z) Z ?_)))))
 rintro _ _ _ - ⟨rfl,rfl⟩
 exact Nt (Cr (Qa (Dr (Qa (Dr (Rd h [] (fun _ hs=>hs.drop) (resultsL1 Z (Rc (cs:=[(Sv ⟨#[]⟩),(Iv 0),(Iv 0)]) 0 ag40 sz40 hs90_2 Z Z)) (L79_1.trans hle90) ⟨Z,Z⟩))))))
noncomputable def f_ref06_Check_l0 (a0:T_api_Batch) (s_:Int):Option (Int⊕(Unit⊕(ByteArray×Int×Int×Int))):=
 match s_ with
 |x37=>
 (if(decide (x37<(a0.Records.length:Int)))=true then(grd (0≤x37∧x37<a0.Records.length) ((f_ref05_Check (rd a0.Records x37)).bind fun r50=>(if(decide (r50.Code≠(0:Int)))=true then(some (Sum.inr (Sum.inr (r50.Op,x37,r50.Code,x37))))else(some (Sum.inl (IntKind.i64.wrap (x37+(1:Int))))))))else(some (Sum.inr (Sum.inl ()))))
noncomputable def f_ref06_Check (a0:T_api_Batch):Option T_ref06_Wrong:=
 (((if(decide (a0.Term<(1:Int)))=true then(some true)else(some (decide ((1073741824:Int)<a0.Term)))):Option Bool).bind fun x23=>(if x23=true then(some (⟨(⟨(⟨#[116,101,114,109]⟩:ByteArray),a0.Term,(2:Int)⟩:T_ref05_Wrong),(-1:Int)⟩:T_ref06_Wrong))else(((if(decide (a0.Base<(0:Int)))=true then(some true)else(some (decide ((1073741824:Int)<a0.Base)))):Option Bool).bind fun x27=>(if x27=true then(some (⟨(⟨(⟨#[98,97,115,101]⟩:ByteArray),a0.Base,(2:Int)⟩:T_ref05_Wrong),(-1:Int)⟩:T_ref06_Wrong))else(((if(decide ((a0.Records.length:Int)<(1:Int)))=true then(some true)else(some (decide ((64:Int)<(a0.Records.length:Int))))):Option Bool).bind fun x31=>(if x31=true then(some (⟨(⟨(⟨#[114,101,99,111,114,100,115]⟩:ByteArray),(a0.Records.length:Int),(6:Int)⟩:T_ref05_Wrong),(-1:Int)⟩:T_ref06_Wrong))else((((iter (f_ref06_Check_l0 a0) (0:Int)).bind (Sum.elim (fun _=>(some (Sum.inl ()))) (fun(x38,x39,x40,x41)=>(((some (⟨(⟨x38,x39,x40⟩:T_ref05_Wrong),x41⟩:T_ref06_Wrong))).bind fun r=>some (Sum.inr r))))):Option (Unit⊕T_ref06_Wrong)).bind (Sum.elim (fun _=>(some lit5_)) some))))))))
def f_ref06_Check_post (a0:T_api_Batch) (v0_2:Value):T_ref06_Wrong→Value→IM→HL→Prop:=
 fun(r0:T_ref06_Wrong) (v:Value) (M':IM) (H':HL)=>(.agg #[(.string r0.W.Op),(.int .i64 r0.W.At),(.int .i64 r0.W.Code),(.int .i64 r0.Record)])=v∧H'=[]
theorem f_ref06_Check_ok (a0:T_api_Batch) (M:IM) (v0_2:Value) (h0_2:RS kd_api_Record M v0_2 a0.Records) (res:T_ref06_Wrong) (h:f_ref06_Check a0=some res):
 Tri Tryz.prog 43 #[(a55_ a0 v0_2)] M [] (f_ref06_Check_post a0 v0_2 res):=by
 unfold f_ref06_Check at h
 refine Te Tryz.func43 Z Z ?_
 intro F ρ hρ
 refine Sr (We (EO.box (cs:=(l55 a0 v0_2).toArray) (congrArg Value.cells (asE (a55_ a0 v0_2) (hρ 0)))) Z ?_)
 rintro _ _ _ - ⟨rfl,g21,rfl,rfl⟩
 refine We (Al ze42 Z) Z ?_
 rintro _ _ _ - ⟨rfl,g22,rfl,rfl⟩
 refine Ns (qa (Iv 1073741824) (Nt (Cs ?_)))
 obtain ⟨x23,hj24,h⟩:=bnd h
 refine Jf (fun(x23:Bool) ρ' M' H'=>M.le M'∧[(g22, .cells z42_.toArray 42 (0,0))]::[(g21, .cells (l55 a0 v0_2).toArray 55 (0,0))]::F=H'∧ρ' 1=(pt g21 0)∧ρ' 2=(pt g22 0)∧ρ' 3=(Iv 1073741824)∧ρ' 14=(Bv x23)) x23 ?_ ?_
 have h:=hj24
 refine Cg (qu (pt g21 0) (Fa fo55_0 Z Z) (qu (Iv a0.Term) (Lb 1 pl3 Z Z Z) (qu (Bv (decide (a0.Term<1))) (PO.lss Z Z) (qm (Bv (decide (a0.Term<1))) ?_))))
 rcases Bi h with⟨hb25,h⟩ |⟨hb25,h⟩
 iterate 4 refine Of 9 Z Z hb25 Z ?_
 refine qu (Bv true) (Pt Z hb25 Z) (Wz ?_)
 obtain rfl:=oi h
 exact Tj ⟨lr,Z,Z,Z,Z,Z⟩
 refine qo 9 hb25 (pt g21 0) (Fa fo55_0 Z Z) (qo 9 hb25 (Iv a0.Term) (Lb 1 pl3 Z Z Z) (On 9 Z Z hb25 (qm (Iv 1073741824) (qo 9 hb25 (Bv (decide ((1073741824:Int)<a0.Term))) (PO.gtr Z Z) (qu (Bv (decide ((1073741824:Int)<a0.Term))) (Pf Z hb25 Z) (Wz ?_))))))
 obtain rfl:=oi h
 exact Tj ⟨lr,Z,Z,Z,Z,Z⟩
 rintro ρ24 M24 H24 ⟨hle24,rfl,hs24_1,hs24_2,hs24_3,hs24_14⟩
 refine Ch h hs24_14 (fun hb26 h=> ?_) (fun hb26 h=> ?_)
 refine Sr (qu (pt g21 0) (Fa fo55_0 hs24_1 Z) (qu (Iv a0.Term) (Lb 1 pl3 Z Z Z) (qu (.agg #[(Sv ⟨#[116,101,114,109]⟩),(Iv a0.Term),(Iv 2)]) (Bl (cl:=[(Sv ⟨#[116,101,114,109]⟩),(Iv a0.Term),(Iv 2)]) ze40 fp40 (Pc (Sv ⟨#[116,101,114,109]⟩) Z Z (Pc (Iv a0.Term) Z Z (Pc (Iv 2) Z Z Pz))) Z) (qu (.agg #[(Sv ⟨#[116,101,114,109]⟩),(Iv a0.Term),(Iv 2),(Iv (-1:Int))]) (Bl (cl:=[(Sv ⟨#[116,101,114,109]⟩),(Iv a0.Term),(Iv 2),(Iv (-1:Int))]) ze42 fp42 (Pc (.agg #[(Sv ⟨#[116,101,114,109]⟩),(Iv a0.Term),(Iv 2)]) Z Z (Pc (Iv (-1:Int)) Z Z Pz)) Z) (We (Sg (v:=(.agg #[(Sv ⟨#[116,101,114,109]⟩),(Iv a0.Term),(Iv 2),(Iv (-1:Int))])) (vl:=[(Sv ⟨#[116,101,114,109]⟩),(Iv a0.Term),(Iv 2),(Iv (-1:Int))]) (arr':=[(Sv ⟨#[116,101,114,109]⟩),(Iv a0.Term),(Iv 2),(Iv (-1:Int))]) Z sz42 hs24_2 Z (onb Z) Z Z Z) Z ?_)))))
 rintro _ _ _ - ⟨rfl,rfl⟩
 exact Nt (Cr (Tr (Qa (Dr (Rd h [] (fun _ hs=>hs.drop) (resultsL1 Z (Rc (cs:=[(Sv ⟨#[116,101,114,109]⟩),(Iv a0.Term),(Iv 2),(Iv (-1:Int))]) 0 ag42 sz42 hs24_2 Z Z)) hle24 ⟨Z,Z⟩)))))
 refine Ck (Tc (Cs ?_))
 obtain ⟨x27,hj28,h⟩:=bnd h
 refine Jf (fun(x27:Bool) ρ' M' H'=>M24.le M'∧[(g22, .cells z42_.toArray 42 (0,0))]::[(g21, .cells (l55 a0 v0_2).toArray 55 (0,0))]::F=H'∧ρ' 1=(pt g21 0)∧ρ' 2=(pt g22 0)∧ρ' 27=(Bv x27)) x27 ?_ ?_
 have h:=hj28
 refine Cg (qu (pt g21 1) (Fa fo55_1 hs24_1 Z) (qu (Iv a0.Base) (Lb 1 pl3 Z Z Z) (qu (Bv (decide (a0.Base<0))) (PO.lss Z Z) (qm (Bv (decide (a0.Base<0))) ?_))))
 rcases Bi h with⟨hb29,h⟩ |⟨hb29,h⟩
 iterate 4 refine Of 22 Z Z hb29 Z ?_
 refine qu (Bv true) (Pt Z hb29 Z) (Wz ?_)
 obtain rfl:=oi h
 exact Tj ⟨lr,Z,hs24_1,hs24_2,Z⟩
 refine qo 22 hb29 (pt g21 1) (Fa fo55_1 hs24_1 Z) (qo 22 hb29 (Iv a0.Base) (Lb 1 pl3 Z Z Z) (On 22 Z Z hb29 (qM (Iv 1073741824) hs24_3 (qo 22 hb29 (Bv (decide ((1073741824:Int)<a0.Base))) (PO.gtr Z Z) (qu (Bv (decide ((1073741824:Int)<a0.Base))) (Pf Z hb29 Z) (Wz ?_))))))
 obtain rfl:=oi h
 exact Tj ⟨lr,Z,hs24_1,hs24_2,Z⟩
 rintro ρ28 M28 H28 ⟨hle28,rfl,hs28_1,hs28_2,hs28_27⟩
 have L28:=hle24.trans hle28
 refine Ch h hs28_27 (fun hb30 h=> ?_) (fun hb30 h=> ?_)
 refine Sr (qu (pt g21 1) (Fa fo55_1 hs28_1 Z) (qu (Iv a0.Base) (Lb 1 pl3 Z Z Z) (qu (.agg #[(Sv ⟨#[98,97,115,101]⟩),(Iv a0.Base),(Iv 2)]) (Bl (cl:=[(Sv ⟨#[98,97,115,101]⟩),(Iv a0.Base),(Iv 2)]) ze40 fp40 (Pc (Sv ⟨#[98,97,115,101]⟩) Z Z (Pc (Iv a0.Base) Z Z (Pc (Iv 2) Z Z Pz))) Z) (qu (.agg #[(Sv ⟨#[98,97,115,101]⟩),(Iv a0.Base),(Iv 2),(Iv (-1:Int))]) (Bl (cl:=[(Sv ⟨#[98,97,115,101]⟩),(Iv a0.Base),(Iv 2),(Iv (-1:Int))]) ze42 fp42 (Pc (.agg #[(Sv ⟨#[98,97,115,101]⟩),(Iv a0.Base),(Iv 2)]) Z Z (Pc (Iv (-1:Int)) Z Z Pz)) Z) (We (Sg (v:=(.agg #[(Sv ⟨#[98,97,115,101]⟩),(Iv a0.Base),(Iv 2),(Iv (-1:Int))])) (vl:=[(Sv ⟨#[98,97,115,101]⟩),(Iv a0.Base),(Iv 2),(Iv (-1:Int))]) (arr':=[(Sv ⟨#[98,97,115,101]⟩),(Iv a0.Base),(Iv 2),(Iv (-1:Int))]) Z sz42 hs28_2 Z (onb Z) Z Z Z) Z ?_)))))
 rintro _ _ _ - ⟨rfl,rfl⟩
 exact Nt (Cr (Tr (Qa (Dr (Rd h [] (fun _ hs=>hs.drop) (resultsL1 Z (Rc (cs:=[(Sv ⟨#[98,97,115,101]⟩),(Iv a0.Base),(Iv 2),(Iv (-1:Int))]) 0 ag42 sz42 hs28_2 Z Z)) L28 ⟨Z,Z⟩)))))
 refine Ck (Tc (Cs ?_))
 obtain ⟨x31,hj32,h⟩:=bnd h
 refine Jf (fun(x31:Bool) ρ' M' H'=>M28.le M'∧[(g22, .cells z42_.toArray 42 (0,0))]::[(g21, .cells (l55 a0 v0_2).toArray 55 (0,0))]::F=H'∧ρ' 1=(pt g21 0)∧ρ' 2=(pt g22 0)∧ρ' 41=(Bv x31)) x31 ?_ ?_
 have h:=hj32
 refine Cg (qu (pt g21 2) (Fa fo55_2 hs28_1 Z) (qu v0_2 (Lb 1 pl53 Z Z Z) ?_))
 have h0_2:=h0_2.mono L28
 refine qu (Iv (a0.Records.length:Int)) (PO.lenS Tryz.underlying53 Z h0_2.len) (qu (Bv (decide ((a0.Records.length:Int)<(1:Int)))) (PO.lss Z Z) (qm (Bv (decide ((a0.Records.length:Int)<(1:Int)))) ?_))
 rcases Bi h with⟨hb33,h⟩ |⟨hb33,h⟩
 iterate 4 refine Of 36 Z Z hb33 Z ?_
 refine qu (Bv true) (Pt Z hb33 Z) (Wz ?_)
 obtain rfl:=oi h
 exact Tj ⟨lr,Z,hs28_1,hs28_2,Z⟩
 refine qo 36 hb33 (pt g21 2) (Fa fo55_2 hs28_1 Z) (qo 36 hb33 v0_2 (Lb 1 pl53 Z Z Z) (qo 36 hb33 (Iv (a0.Records.length:Int)) (PO.lenS Tryz.underlying53 Z h0_2.len) (qo 36 hb33 (Bv (decide ((64:Int)<(a0.Records.length:Int)))) (PO.gtr Z Z) (qu (Bv (decide ((64:Int)<(a0.Records.length:Int)))) (Pf Z hb33 Z) (Wz ?_)))))
 obtain rfl:=oi h
 exact Tj ⟨lr,Z,hs28_1,hs28_2,Z⟩
 rintro ρ32 M32 H32 ⟨hle32,rfl,hs32_1,hs32_2,hs32_41⟩
 have L32:=L28.trans hle32
 refine Ch h hs32_41 (fun hb34 h=> ?_) (fun hb34 h=> ?_)
 refine Sr (qu (pt g21 2) (Fa fo55_2 hs32_1 Z) (qu v0_2 (Lb 1 pl53 Z Z Z) ?_))
 have h0_2:=h0_2.mono L32
 refine qu (Iv (a0.Records.length:Int)) (PO.lenS Tryz.underlying53 Z h0_2.len) (qu (.agg #[(Sv ⟨#[114,101,99,111,114,100,115]⟩),(Iv (a0.Records.length:Int)),(Iv 6)]) (Bl (cl:=[(Sv ⟨#[114,101,99,111,114,100,115]⟩),(Iv (a0.Records.length:Int)),(Iv 6)]) ze40 fp40 (Pc (Sv ⟨#[114,101,99,111,114,100,115]⟩) Z Z (Pc (Iv (a0.Records.length:Int)) Z Z (Pc (Iv 6) Z Z Pz))) Z) (qu (.agg #[(Sv ⟨#[114,101,99,111,114,100,115]⟩),(Iv (a0.Records.length:Int)),(Iv 6),(Iv (-1:Int))]) (Bl (cl:=[(Sv ⟨#[114,101,99,111,114,100,115]⟩),(Iv (a0.Records.length:Int)),(Iv 6),(Iv (-1:Int))]) ze42 fp42 (Pc (.agg #[(Sv ⟨#[114,101,99,111,114,100,115]⟩),(Iv (a0.Records.length:Int)),(Iv 6)]) Z Z (Pc (Iv (-1:Int)) Z Z Pz)) Z) (We (Sg (v:=(.agg #[(Sv ⟨#[114,101,99,111,114,100,115]⟩),(Iv (a0.Records.length:Int)),(Iv 6),(Iv (-1:Int))])) (vl:=[(Sv ⟨#[114,101,99,111,114,100,115]⟩),(Iv (a0.Records.length:Int)),(Iv 6),(Iv (-1:Int))]) (arr':=[(Sv ⟨#[114,101,99,111,114,100,115]⟩),(Iv (a0.Records.length:Int)),(Iv 6),(Iv (-1:Int))]) Z sz42 hs32_2 Z (onb Z) Z Z Z) Z ?_)))
 rintro _ _ _ - ⟨rfl,rfl⟩
 exact Nt (Cr (Tr (Qa (Dr (Rd h [] (fun _ hs=>hs.drop) (resultsL1 Z (Rc (cs:=[(Sv ⟨#[114,101,99,111,114,100,115]⟩),(Iv (a0.Records.length:Int)),(Iv 6),(Iv (-1:Int))]) 0 ag42 sz42 hs32_2 Z Z)) L32 ⟨Z,Z⟩)))))
 refine Ck (Tc ?_)
 obtain ⟨j35,hj35,h⟩:=bnd h
 refine WC.joinE (fun(_:Unit) ρ' M' H'=>M32.le M'∧[(g22, .cells z42_.toArray 42 (0,0))]::[(g21, .cells (l55 a0 v0_2).toArray 55 (0,0))]::F=H'∧ρ' 2=(pt g22 0)) j35 ?_ ?_
 have h335:=h
 have h:=hj35
 refine Sr (qa (Iv 0) (Nt (Bk ?_)))
 obtain ⟨e36,he36,hK36⟩:=bnd h
 clear h
 refine WC.loop he36 (fun(x37:Int) ρ' M' H'=>M32.le M'∧[(g22, .cells z42_.toArray 42 (0,0))]::[(g21, .cells (l55 a0 v0_2).toArray 55 (0,0))]::F=H'∧ρ' 1=(pt g21 0)∧ρ' 2=(pt g22 0)∧ρ' 4=(Iv x37)) ?_ ?_
 exact⟨lr,Z,hs32_1,hs32_2,Z⟩
 rintro x37 o36 ρ36 M36 H36 h ⟨hle36,rfl,hs36_1,hs36_2,hs36_4⟩
 unfold f_ref06_Check_l0 at h
 refine Cs (Sr (qM (Iv x37) hs36_4 (qu (pt g21 2) (Fa fo55_2 hs36_1 Z) (qu v0_2 (Lb 1 pl53 Z Z Z) ?_))))
 have h0_2:=h0_2.mono (L32.trans hle36)
 refine qu (Iv (a0.Records.length:Int)) (PO.lenS Tryz.underlying53 Z h0_2.len) (qu (Bv (decide (x37<(a0.Records.length:Int)))) (PO.lss Z Z) (Nt (Ch h Z (fun hb42 h=> ?_) (fun hb42 h=> ?_))))
 refine Ck (Tc (Cs (Bk (Sr (qu (pt g21 2) (Fa fo55_2 hs36_1 Z) (qu v0_2 (Lb 1 pl53 Z Z Z) (qM (Iv x37) hs36_4 ?_)))))))
 obtain ⟨hg43,h⟩:=grd_i h
 obtain ⟨p44,cs45,hat46,hrc47,hhas48⟩:=h0_2.at hg43.1 hg43.2 (by decide)
 obtain ⟨vw49_14,vw49_15,vw49_16,vw49_17,rfl,hw49_14,hw49_15,hw49_16,hw49_17⟩:=kd_api_Record_open hrc47
 refine qu (.pointer (some p44)) (PO.indexAddr (n:=a0.Records.length) Tryz.underlying53 sz58 Z Z hg43.1 hg43.2 hat46) (qu (a58_ (rd a0.Records x37) vw49_14 vw49_15 vw49_16 vw49_17) (PO.loadMA (cs:=(l58 (rd a0.Records x37) vw49_14 vw49_15 vw49_16 vw49_17)) ag58 sz58 Z hhas48) ?_)
 obtain ⟨r50,hr51,h⟩:=bnd h
 refine We (Ca co74 (f_ref05_Check_ok (rd a0.Records x37) _ _ _ _ _ hw49_14 hw49_15 hw49_16 hw49_17 r50 hr51) (args1 Z)) Z ?_
 rintro _ M52 _ hle53 ⟨_,⟨rfl,rfl⟩,rfl⟩
 refine WL.a0 (We (Al ze40 Z) Z ?_)
 rintro _ _ _ - ⟨rfl,g55,rfl,rfl⟩
 refine We (Sg (v:=(a40_ r50)) (vl:=(l40 r50)) (arr':=(l40 r50)) Z sz40 Z Z (onb Z) Z Z Z) Z ?_
 rintro _ _ _ - ⟨rfl,rfl⟩
 refine Ns (qu (pt g55 2) (Fa fo40_2 Z Z) (qu (Iv r50.Code) (Lb 0 pl38 Z Z Z) (qu (Bv (decide (r50.Code≠0))) (PO.neq Z Z) (Nt (Ch h Z (fun hb56 h=> ?_) (fun hb56 h=> ?_))))))
 refine Sr (qu (pt g55 0) (Fa fo40_0 Z Z) (qu (Sv r50.Op) (Lb 0 pl9 Z Z Z) (qM (Iv x37) hs36_4 (qu (pt g55 2) (Fa fo40_2 Z Z) (qu (Iv r50.Code) (Lb 0 pl38 Z Z Z) (qu (.agg #[(Sv r50.Op),(Iv x37),(Iv r50.Code)]) (Bl (cl:=[(Sv r50.Op),(Iv x37),(Iv r50.Code)]) ze40 fp40 (Pc (Sv r50.Op) Z Z (Pc (Iv x37) Z Z (Pc (Iv r50.Code) Z Z Pz))) Z) (qM (Iv x37) hs36_4 (qu (.agg #[(Sv r50.Op),(Iv x37),(Iv r50.Code),(Iv x37)]) (Bl (cl:=[(Sv r50.Op),(Iv x37),(Iv r50.Code),(Iv x37)]) ze42 fp42 (Pc (.agg #[(Sv r50.Op),(Iv x37),(Iv r50.Code)]) Z Z (Pc (Iv x37) Z Z Pz)) Z) (WL.f1 (We (Sg (v:=(.agg #[(Sv r50.Op),(Iv x37),(Iv r50.Code),(Iv x37)])) (vl:=[(Sv r50.Op),(Iv x37),(Iv r50.Code),(Iv x37)]) (arr':=[(Sv r50.Op),(Iv x37),(Iv r50.Code),(Iv x37)]) Z sz42 hs36_2 Z (onb Z) Z Z Z) Z ?_))))))))))
 rintro _ _ _ - ⟨rfl,rfl⟩
 refine Nt (Cr (Br (Tr (WQ.leaveR (Sum.inr (r50.Op,x37,r50.Code,x37)) (oi h).symm (fun heq36=> ?_)))))
 subst heq36
 have h:=(elimR hK36)
 refine Br (Tr ?_)
 have h:=KK.early h h335
 exact Qa (Dr (Qa (Dr (Rd h [] (fun _ hs=>hs.drop) (resultsL1 Z (Rc (cs:=[(Sv r50.Op),(Iv x37),(Iv r50.Code),(Iv x37)]) 0 ag42 sz42 hs36_2 Z Z)) ((L32.trans hle36).trans hle53) ⟨Z,Z⟩))))
 exact Ck (Bn (Tc (Cg (qM (Iv x37) hs36_4 (qu (Iv (IntKind.i64.wrap (x37+1))) (PO.add Z Z) (qa (Iv (IntKind.i64.wrap (x37+1))) (Wz (Dr (WQ.again (IntKind.i64.wrap (x37+1)) (oi h).symm ⟨(hle36.trans hle53),Z,hs36_1,hs36_2,Z⟩)))))))))
 refine WC.exit (WQ.thenE (WQ.leaveE (Sum.inl ()) (oi h).symm (fun heq36=> ?_)))
 subst heq36
 have h:=elimL hK36
 exact WQ.blockH (WQ.thenFE h ⟨hle36,Z,hs36_2⟩)
 rintro _ ρ35 M35 H35 rfl ⟨hle35,rfl,hs35_2⟩
 have h:=(Sum.elim_inl _ _ _).symm.trans h
 refine Sr (qu (.agg #[(Sv ⟨#[]⟩),(Iv 0),(Iv 0),(Iv (-1:Int))]) (Bl (cl:=[(Sv ⟨#[]⟩),(Iv 0),(Iv 0),(Iv (-1:Int))]) ze42 fp42 (Pc (Iv (-1:Int)) Z Z Pz) Z) (We (Sg (v:=(.agg #[(Sv ⟨#[]⟩),(Iv 0),(Iv 0),(Iv (-1:Int))])) (vl:=[(Sv ⟨#[]⟩),(Iv 0),(Iv 0),(Iv (-1:Int))]) (arr':=[(Sv ⟨#[]⟩),(Iv 0),(Iv 0),(Iv (-1:Int))]) Z sz42 hs35_2 Z (onb Z) Z Z Z) Z ?_))
 rintro _ _ _ - ⟨rfl,rfl⟩
 exact Nt (Cr (Qa (Dr (Rd h [] (fun _ hs=>hs.drop) (resultsL1 Z (Rc (cs:=[(Sv ⟨#[]⟩),(Iv 0),(Iv 0),(Iv (-1:Int))]) 0 ag42 sz42 hs35_2 Z Z)) (L32.trans hle35) ⟨Z,Z⟩))))

end Go.Proofs.YtkflneabcannnaaGreatDoor.G
