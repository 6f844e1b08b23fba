/- Go functions: what they come to, and that they do. Printed by a program of the session (gen). -/
import Derived.Test.YtpcbipcdfccnnaaGreatSF
import Derived.Test.YtpcbipcdfccnnaaGreatS0
import Derived.Test.YtpcbipcdfccnnaaGreatKShar2
import Derived.Test.YtpcbipcdfccnnaaGreatKConv
import Derived.Test.YtpcbipcdfccnnaaGreatKMap
import Derived.Test.YtpcbipcdfccnnaaGreatKShar
import Derived.Test.YtpcbipcdfccnnaaGreatKTight2
set_option linter.unusedVariables false
set_option linter.unusedSimpArgs false
set_option maxHeartbeats 8000000
set_option maxRecDepth 100000
namespace Go.Proofs.YtpcbipcdfccnnaaGreat.G
open Go Go.KK

noncomputable def f_ref05_Check (a0:T_api_Record):Option T_ref05_Wrong:=
 (((if(decide (a0.Kind<(1:Int)))=true then(some true)else(some (decide ((12:Int)<a0.Kind)))):Option Bool).bind fun x23=>(if x23=true then(some (⟨(⟨#[107,105,110,100]⟩:ByteArray),a0.Kind,(5:Int)⟩:T_ref05_Wrong))else((f_ref05_numbers a0).bind fun r27=>(if(decide (r27.Code≠(0:Int)))=true then(some r27)else(((if a0.Flag=true then((f_ref05_has a0.Kind (102:Int)).bind fun r37=>(some (!r37)))else(some false)):Option Bool).bind fun x34=>(if x34=true then(some (⟨(⟨#[102,108,97,103]⟩:ByteArray),(1:Int),(1:Int)⟩:T_ref05_Wrong))else((((f_ref05_has a0.Kind (110:Int)).bind fun r45=>((f_ref05_name a0.Name r45).bind fun r50=>(if(!r50)=true then(some true)else((f_ref05_has a0.Kind (107:Int)).bind fun r56=>((f_ref05_name a0.Key r56).bind fun r61=>(if(!r61)=true then(some true)else((f_ref05_has a0.Kind (114:Int)).bind fun r67=>((f_ref05_name a0.Rack r67).bind fun r72=>(some (!r72)))))))))):Option Bool).bind fun x43=>(if x43=true then(some (⟨(⟨#[110,97,109,101]⟩:ByteArray),(a0.Name.size:Int),(1:Int)⟩:T_ref05_Wrong))else(((if(decide ((256:Int)<(a0.Value.size:Int)))=true then(some true)else(if(!decide (a0.Value=(⟨#[]⟩:ByteArray)))=true then(if a0.Flag=true then(some true)else((f_ref05_has a0.Kind (118:Int)).bind fun r83=>(some (!r83))))else(some false))):Option Bool).bind fun x78=>(if x78=true then(some (⟨(⟨#[118,97,108,117,101]⟩:ByteArray),(a0.Value.size:Int),(6:Int)⟩:T_ref05_Wrong))else((((f_ref05_has a0.Kind (105:Int)).bind fun r91=>((f_ref05_row a0.Ids r91).bind fun r96=>(if(!r96)=true then(some true)else((f_ref05_has a0.Kind (109:Int)).bind fun r102=>((f_ref05_row a0.Isr r102).bind fun r107=>(if(!r107)=true then(some true)else((f_ref05_has a0.Kind (120:Int)).bind fun r113=>((f_ref05_row a0.Add r113).bind fun r118=>(if(!r118)=true then(some true)else((f_ref05_has a0.Kind (120:Int)).bind fun r124=>((f_ref05_row a0.Drop r124).bind fun r129=>(some (!r129))))))))))))):Option Bool).bind fun x89=>(if x89=true then(some (⟨(⟨#[114,111,119]⟩:ByteArray),(a0.Ids.length:Int),(18:Int)⟩:T_ref05_Wrong))else(some (⟨(⟨#[]⟩:ByteArray),(0:Int),(0:Int)⟩:T_ref05_Wrong))))))))))))))
def f_ref05_Check_post (a0:T_api_Record) (v0_14 v0_15 v0_16 v0_17:Value):T_ref05_Wrong→Value→IM→HL→Prop:=
 fun(r0:T_ref05_Wrong) (v:Value) (M':IM) (H':HL)=>(.agg #[(.string r0.Op),(.int .i64 r0.At),(.int .i64 r0.Code)])=v∧H'=[]
theorem f_ref05_Check_ok (a0:T_api_Record) (M:IM) (v0_14 v0_15 v0_16 v0_17:Value) (h0_14:RS (Kd.int .i64) M v0_14 a0.Ids) (h0_15:RS (Kd.int .i64) M v0_15 a0.Isr) (h0_16:RS (Kd.int .i64) M v0_16 a0.Add) (h0_17:RS (Kd.int .i64) M v0_17 a0.Drop) (res:T_ref05_Wrong) (h:f_ref05_Check a0=some res):
 Tri Tryz.prog 40 #[(a45_ a0 v0_14 v0_15 v0_16 v0_17)] M [] (f_ref05_Check_post a0 v0_14 v0_15 v0_16 v0_17 res):=by
 unfold f_ref05_Check at h
 refine Te Tryz.func40 Z Z ?_
 intro F ρ hρ
 refine Sr (We (EO.box (cs:=(l45 a0 v0_14 v0_15 v0_16 v0_17).toArray) (congrArg Value.cells (asE (a45_ a0 v0_14 v0_15 v0_16 v0_17) (hρ 0)))) Z ?_)
 rintro _ _ _ - ⟨rfl,g21,rfl,rfl⟩
 refine We (Al ze89 Z) Z ?_
 rintro _ _ _ - ⟨rfl,g22,rfl,rfl⟩
 refine Ns (qu (pt g21 0) (Fa fo45_0 Z Z) (qu (Iv a0.Kind) (Lb 1 pl3 Z Z Z) (qa (Iv a0.Kind) (Nt (Cs ?_)))))
 obtain ⟨x23,hj24,h⟩:=bnd h
 refine Jf (fun(x23:Bool) ρ' M' H'=>M.le M'∧[(g22, .cells #[(Sv ⟨#[]⟩),(Iv 0),(Iv 0)] 89 (0,0))]::[(g21, .cells (l45 a0 v0_14 v0_15 v0_16 v0_17).toArray 45 (0,0))]::F=H'∧ρ' 1=(pt g21 0)∧ρ' 2=(pt g22 0)∧ρ' 3=(Iv a0.Kind)∧ρ' 12=(Bv x23)) x23 ?_ ?_
 have h:=hj24
 refine Cg (qm (Iv a0.Kind) (qu (Bv (decide (a0.Kind<1))) (PO.lss Z Z) (qm (Bv (decide (a0.Kind<1))) ?_)))
 rcases Bi h with⟨hb25,h⟩ |⟨hb25,h⟩
 iterate 2 refine Of 9 Z Z hb25 Z ?_
 refine qu (Bv true) (Pt Z hb25 Z) (Wz ?_)
 obtain rfl:=oi h
 exact Tj ⟨lr,Z,Z,Z,Z,Z⟩
 refine On 9 Z Z hb25 (qm (Iv a0.Kind) (qo 9 hb25 (Bv (decide ((12:Int)<a0.Kind))) (PO.gtr Z Z) (qu (Bv (decide ((12:Int)<a0.Kind))) (Pf Z hb25 Z) (Wz ?_))))
 obtain rfl:=oi h
 exact Tj ⟨lr,Z,Z,Z,Z,Z⟩
 rintro ρ24 M24 H24 ⟨hle24,rfl,hs24_1,hs24_2,hs24_3,hs24_12⟩
 refine Ch h hs24_12 (fun hb26 h=> ?_) (fun hb26 h=> ?_)
 refine Sr (qM (Iv a0.Kind) hs24_3 (qu (.agg #[(Sv ⟨#[107,105,110,100]⟩),(Iv a0.Kind),(Iv 5)]) (Bl (cl:=[(Sv ⟨#[107,105,110,100]⟩),(Iv a0.Kind),(Iv 5)]) ze89 fp89 (Pc (Sv ⟨#[107,105,110,100]⟩) Z Z (Pc (Iv a0.Kind) Z Z (Pc (Iv 5) Z Z Pz))) Z) (We (Sg (v:=(.agg #[(Sv ⟨#[107,105,110,100]⟩),(Iv a0.Kind),(Iv 5)])) (vl:=[(Sv ⟨#[107,105,110,100]⟩),(Iv a0.Kind),(Iv 5)]) (arr':=[(Sv ⟨#[107,105,110,100]⟩),(Iv a0.Kind),(Iv 5)]) Z sz89 hs24_2 Z (onb Z) Z Z Z) Z ?_)))
 rintro _ _ _ - ⟨rfl,rfl⟩
 exact Nt (Cr (Tr (Qa (Dr (Rd h [] (fun _ hs=>hs.drop) (resultsL1 Z (Rc (cs:=[(Sv ⟨#[107,105,110,100]⟩),(Iv a0.Kind),(Iv 5)]) 0 ag89 sz89 hs24_2 Z Z)) hle24 ⟨Z,Z⟩)))))
 refine Ck (Tc (Cs (Sr (qu (a45_ a0 v0_14 v0_15 v0_16 v0_17) (La (cs:=(l45 a0 v0_14 v0_15 v0_16 v0_17)) 1 ag45 sz45 hs24_1 Z Z) ?_))))
 obtain ⟨r27,hr28,h⟩:=bnd h
 have h0_14:=h0_14.mono hle24
 have h0_15:=h0_15.mono hle24
 have h0_16:=h0_16.mono hle24
 have h0_17:=h0_17.mono hle24
 refine We (Ca co59 (f_ref05_numbers_ok a0 _ _ _ _ _ h0_14 h0_15 h0_16 h0_17 r27 hr28) (args1 Z)) Z ?_
 rintro _ M29 _ hle30 ⟨_,⟨rfl,rfl⟩,rfl⟩
 refine WL.a0 (We (Al ze89 Z) Z ?_)
 rintro _ _ _ - ⟨rfl,g32,rfl,rfl⟩
 refine We (Sg (v:=(a89_ r27)) (vl:=(l89 r27)) (arr':=(l89 r27)) Z sz89 Z Z (onb Z) Z Z Z) Z ?_
 rintro _ _ _ - ⟨rfl,rfl⟩
 refine Ns (qu (pt g32 2) (Fa fo89_2 Z Z) (qu (Iv r27.Code) (Lb 0 pl40 Z Z Z) (qu (Bv (decide (r27.Code≠0))) (PO.neq Z Z) (Nt (Ch h Z (fun hb33 h=> ?_) (fun hb33 h=> ?_))))))
 refine Sr (qu (a89_ r27) (La (cs:=(l89 r27)) 0 ag89 sz89 Z Z Z) (WL.f1 (We (Sg (v:=(a89_ r27)) (vl:=(l89 r27)) (arr':=(l89 r27)) Z sz89 hs24_2 Z (onb Z) Z Z Z) Z ?_)))
 rintro _ _ _ - ⟨rfl,rfl⟩
 exact Nt (Cr (Tr (Qa (Dr (Qa (Dr (Rd h [] (fun _ hs=>hs.drop) (resultsL1 Z (Rc (cs:=(l89 r27)) 0 ag89 sz89 hs24_2 Z Z)) (hle24.trans hle30) ⟨Z,Z⟩)))))))
 refine Ck (Tc (Cs ?_))
 obtain ⟨x34,hj35,h⟩:=bnd h
 refine Jf (fun(x34:Bool) ρ' M' H'=>M29.le M'∧[(g32, .cells (l89 r27).toArray 89 (0,0))]::[(g22, .cells #[(Sv ⟨#[]⟩),(Iv 0),(Iv 0)] 89 (0,0))]::[(g21, .cells (l45 a0 v0_14 v0_15 v0_16 v0_17).toArray 45 (0,0))]::F=H'∧ρ' 1=(pt g21 0)∧ρ' 2=(pt g22 0)∧ρ' 3=(Iv a0.Kind)∧ρ' 27=(Bv x34)) x34 ?_ ?_
 have h:=hj35
 refine Cg (qu (pt g21 9) (Fa fo45_9 hs24_1 Z) (qu (Bv a0.Flag) (Lb 2 pl4 Z Z Z) (qm (Bv a0.Flag) ?_)))
 rcases Bi h with⟨hb36,h⟩ |⟨hb36,h⟩
 refine On 23 Z Z hb36 (qM (Iv a0.Kind) hs24_3 (On 23 Z Z hb36 ?_))
 obtain ⟨r37,hr38,h⟩:=bnd h
 refine We (Ca co60 (f_ref05_has_ok a0.Kind (102:Int) _ r37 hr38) (args2 Z Z)) Z ?_
 rintro _ M39 _ hle40 ⟨_,⟨rfl,rfl⟩,rfl⟩
 refine WL.a0 (qo 23 hb36 (Bv (!r37)) (PO.not Z) (qu (Bv (!r37)) (Pt Z hb36 Z) (Wz ?_)))
 obtain rfl:=oi h
 exact Tj ⟨hle40,Z,hs24_1,hs24_2,hs24_3,Z⟩
 iterate 3 refine Of 23 Z Z hb36 Z ?_
 refine qu (Bv false) (Pf Z hb36 Z) (Wz ?_)
 obtain rfl:=oi h
 exact Tj ⟨lr,Z,hs24_1,hs24_2,hs24_3,Z⟩
 rintro ρ35 M35 H35 ⟨hle35,rfl,hs35_1,hs35_2,hs35_3,hs35_27⟩
 have L35:=(hle24.trans hle30).trans hle35
 refine Ch h hs35_27 (fun hb42 h=> ?_) (fun hb42 h=> ?_)
 refine Sr (qu (.agg #[(Sv ⟨#[102,108,97,103]⟩),(Iv 1),(Iv 1)]) (Bl (cl:=[(Sv ⟨#[102,108,97,103]⟩),(Iv 1),(Iv 1)]) ze89 fp89 (Pc (Sv ⟨#[102,108,97,103]⟩) Z Z (Pc (Iv 1) Z Z (Pc (Iv 1) Z Z Pz))) Z) (WL.f1 (We (Sg (v:=(.agg #[(Sv ⟨#[102,108,97,103]⟩),(Iv 1),(Iv 1)])) (vl:=[(Sv ⟨#[102,108,97,103]⟩),(Iv 1),(Iv 1)]) (arr':=[(Sv ⟨#[102,108,97,103]⟩),(Iv 1),(Iv 1)]) Z sz89 hs35_2 Z (onb Z) Z Z Z) Z ?_)))
 rintro _ _ _ - ⟨rfl,rfl⟩
 exact Nt (Cr (Tr (Qa (Dr (Qa (Dr (Rd h [] (fun _ hs=>hs.drop) (resultsL1 Z (Rc (cs:=[(Sv ⟨#[102,108,97,103]⟩),(Iv 1),(Iv 1)]) 0 ag89 sz89 hs35_2 Z Z)) L35 ⟨Z,Z⟩)))))))
 refine Ck (Tc (Cs ?_))
 obtain ⟨x43,hj44,h⟩:=bnd h
 refine Jf (fun(x43:Bool) ρ' M' H'=>M35.le M'∧[(g32, .cells (l89 r27).toArray 89 (0,0))]::[(g22, .cells #[(Sv ⟨#[]⟩),(Iv 0),(Iv 0)] 89 (0,0))]::[(g21, .cells (l45 a0 v0_14 v0_15 v0_16 v0_17).toArray 45 (0,0))]::F=H'∧ρ' 1=(pt g21 0)∧ρ' 2=(pt g22 0)∧ρ' 3=(Iv a0.Kind)∧ρ' 50=(Bv x43)) x43 ?_ ?_
 have h:=hj44
 refine WC.draw [0,1,0,4,15,31,63,127,255,127,639,2047,4095,8191,16383,32767,65535,32767,163839,524287,1048575,2097151] (.pure 0 (.pure 1 (.pure 2 (.alt 3 (.alt 4 (.pure 5 (.pure 6 (.pure 7 (.pure 8 (.pure 9 (.alt 10 (.alt 11 (.pure 12 (.pure 13 (.pure 14 (.pure 15 (.pure 16 (.pure 17 (.alt 18 (.alt 19 (.pure 20 (.pure 21 .done)) .none) .none))))))) .none) .none)))))) .none) .none)))) mixed (by kernel_rfl) (qt (pt g21 10) Z (Fa fo45_10 hs35_1 Z) (qt (Sv a0.Name) Z (Lb 2 pl9 Z Z Z) (qt (Iv a0.Kind) Z (Mv hs35_3) ?_)))
 obtain ⟨r45,hr46,h⟩:=bnd h
 refine Ta Z (Ca co60 (f_ref05_has_ok a0.Kind (110:Int) _ r45 hr46) (args2 Z Z)) Z ?_ ?_
 rintro _ M47 _ hle48 ⟨_,⟨rfl,rfl⟩,rfl⟩
 refine⟨(Sk 1 Z (Ss Z (Lb 2 pl9 Z Z Z) Z (Ss Z (Fa fo45_10 hs35_1 Z) Z trivial))), ?_⟩
 refine WT.a0 ?_
 obtain ⟨r50,hr51,h⟩:=bnd h
 refine Ta Z (Ca co61 (f_ref05_name_ok a0.Name r45 _ r50 hr51) (args2 Z Z)) Z ?_ ?_
 rintro _ M52 _ hle53 ⟨_,⟨rfl,rfl⟩,rfl⟩
 refine⟨(Sl Z), ?_⟩
 refine WT.a0 (qt (Bv (!r50)) Z (PO.not Z) (qt (Bv (!r50)) Z (Mv Z) ?_))
 rcases Bi h with⟨hb55,h⟩ |⟨hb55,h⟩
 refine Tf 35 Z Z Z hb55 Z (Tf 35 Z Z Z hb55 Z (Tf 35 Z Z Z hb55 Z (Tg 35 Z Z Z hb55 Z ⟨(Sk 1 Z (St (Sf 35 Z Z Z hb55 Z) (St (Sf 35 Z Z Z hb55 Z) (Sl Z)))), ?_⟩ ?_)))
 refine Tg 35 Z Z Z hb55 Z ⟨(Sl Z), ?_⟩ ?_
 refine Tf 35 Z Z Z hb55 Z (qt (Bv true) Z (Pt Z hb55 Z) (qt (Bv true) Z (Mv Z) (Tf 43 Z Z Z Z Z (Tf 43 Z Z Z Z Z (Tf 43 Z Z Z Z Z (Tg 43 Z Z Z Z Z ⟨(Sk 1 Z (St (Sf 43 Z Z Z Z Z) (St (Sf 43 Z Z Z Z Z) (Sl Z)))), ?_⟩ ?_))))))
 refine Tg 43 Z Z Z Z Z ⟨(Sl Z), ?_⟩ ?_
 refine Tf 43 Z Z Z Z Z (qt (Bv true) Z (Pt Z Z Z) (Ti ?_))
 obtain rfl:=oi h
 exact Tj ⟨(hle48.trans hle53),Z,hs35_1,hs35_2,hs35_3,Z⟩
 exact Tz
 exact Tz
 exact Tz
 exact Tz
 refine Tn (pt g21 11) 35 Z Z Z hb55 (Fa fo45_11 hs35_1 Z) Z (Tn (Sv a0.Key) 35 Z Z Z hb55 (Lb 2 pl9 Z Z Z) Z (Tn (Iv a0.Kind) 35 Z Z Z hb55 (Mv hs35_3) Z ?_))
 obtain ⟨r56,hr57,h⟩:=bnd h
 refine WT.altOn 35 Z Z Z hb55 (Ca co60 (f_ref05_has_ok a0.Kind (107:Int) _ r56 hr57) (args2 Z Z)) Z ?_ ?_
 rintro _ M58 _ hle59 ⟨_,⟨rfl,rfl⟩,rfl⟩
 refine⟨(Sk 1 Z (St (StabA.on 35 Z Z Z hb55 (Lb 2 pl9 Z Z Z) Z) (St (StabA.on 35 Z Z Z hb55 (Fa fo45_11 hs35_1 Z) Z) (Sl Z)))), ?_⟩
 refine WT.a0 ?_
 obtain ⟨r61,hr62,h⟩:=bnd h
 refine WT.altOn 35 Z Z Z hb55 (Ca co61 (f_ref05_name_ok a0.Key r56 _ r61 hr62) (args2 Z Z)) Z ?_ ?_
 rintro _ M63 _ hle64 ⟨_,⟨rfl,rfl⟩,rfl⟩
 refine⟨(Sl Z), ?_⟩
 refine WT.a0 (Tn (Bv (!r61)) 35 Z Z Z hb55 (PO.not Z) Z (qt (Bv (!r61)) Z (Pf Z hb55 Z) (qt (Bv (!r61)) Z (Mv Z) ?_)))
 rcases Bi h with⟨hb66,h⟩ |⟨hb66,h⟩
 refine Tf 43 Z Z Z hb66 Z (Tf 43 Z Z Z hb66 Z (Tf 43 Z Z Z hb66 Z (Tg 43 Z Z Z hb66 Z ⟨(Sk 1 Z (St (Sf 43 Z Z Z hb66 Z) (St (Sf 43 Z Z Z hb66 Z) (Sl Z)))), ?_⟩ ?_)))
 refine Tg 43 Z Z Z hb66 Z ⟨(Sl Z), ?_⟩ ?_
 refine Tf 43 Z Z Z hb66 Z (qt (Bv true) Z (Pt Z hb66 Z) (Ti ?_))
 obtain rfl:=oi h
 exact Tj ⟨(((hle48.trans hle53).trans hle59).trans hle64),Z,hs35_1,hs35_2,hs35_3,Z⟩
 exact Tz
 exact Tz
 refine Tn (pt g21 13) 43 Z Z Z hb66 (Fa fo45_13 hs35_1 Z) Z (Tn (Sv a0.Rack) 43 Z Z Z hb66 (Lb 2 pl9 Z Z Z) Z (Tn (Iv a0.Kind) 43 Z Z Z hb66 (Mv hs35_3) Z ?_))
 obtain ⟨r67,hr68,h⟩:=bnd h
 refine WT.altOn 43 Z Z Z hb66 (Ca co60 (f_ref05_has_ok a0.Kind (114:Int) _ r67 hr68) (args2 Z Z)) Z ?_ ?_
 rintro _ M69 _ hle70 ⟨_,⟨rfl,rfl⟩,rfl⟩
 refine⟨(Sk 1 Z (St (StabA.on 43 Z Z Z hb66 (Lb 2 pl9 Z Z Z) Z) (St (StabA.on 43 Z Z Z hb66 (Fa fo45_13 hs35_1 Z) Z) (Sl Z)))), ?_⟩
 refine WT.a0 ?_
 obtain ⟨r72,hr73,h⟩:=bnd h
 refine WT.altOn 43 Z Z Z hb66 (Ca co61 (f_ref05_name_ok a0.Rack r67 _ r72 hr73) (args2 Z Z)) Z ?_ ?_
 rintro _ M74 _ hle75 ⟨_,⟨rfl,rfl⟩,rfl⟩
 refine⟨(Sl Z), ?_⟩
 refine WT.a0 (Tn (Bv (!r72)) 43 Z Z Z hb66 (PO.not Z) Z (qt (Bv (!r72)) Z (Pf Z hb66 Z) (Ti ?_)))
 obtain rfl:=oi h
 exact Tj ⟨(((((hle48.trans hle53).trans hle59).trans hle64).trans hle70).trans hle75),Z,hs35_1,hs35_2,hs35_3,Z⟩
 exact Tz
 exact Tz
 exact Tz
 exact Tz
 exact Tz
 exact Tz
 rintro ρ44 M44 H44 ⟨hle44,rfl,hs44_1,hs44_2,hs44_3,hs44_50⟩
 have L44:=(hle30.trans hle35).trans hle44
 have L44_1:=L35.trans hle44
 refine Ch h hs44_50 (fun hb77 h=> ?_) (fun hb77 h=> ?_)
 refine Sr (qu (pt g21 10) (Fa fo45_10 hs44_1 Z) (qu (Sv a0.Name) (Lb 2 pl9 Z Z Z) (qu (Iv (a0.Name.size:Int)) (PO.lenStr Tryz.underlying9 Z) (qu (.agg #[(Sv ⟨#[110,97,109,101]⟩),(Iv (a0.Name.size:Int)),(Iv 1)]) (Bl (cl:=[(Sv ⟨#[110,97,109,101]⟩),(Iv (a0.Name.size:Int)),(Iv 1)]) ze89 fp89 (Pc (Sv ⟨#[110,97,109,101]⟩) Z Z (Pc (Iv (a0.Name.size:Int)) Z Z (Pc (Iv 1) Z Z Pz))) Z) (WL.f1 (We (Sg (v:=(.agg #[(Sv ⟨#[110,97,109,101]⟩),(Iv (a0.Name.size:Int)),(Iv 1)])) (vl:=[(Sv ⟨#[110,97,109,101]⟩),(Iv (a0.Name.size:Int)),(Iv 1)]) (arr':=[(Sv ⟨#[110,97,109,101]⟩),(Iv (a0.Name.size:Int)),(Iv 1)]) Z sz89 hs44_2 Z (onb Z) Z Z Z) Z ?_))))))
 rintro _ _ _ - ⟨rfl,rfl⟩
 exact Nt (Cr (Tr (Qa (Dr (Qa (Dr (Rd h [] (fun _ hs=>hs.drop) (resultsL1 Z (Rc (cs:=[(Sv ⟨#[110,97,109,101]⟩),(Iv (a0.Name.size:Int)),(Iv 1)]) 0 ag89 sz89 hs44_2 Z Z)) L44_1 ⟨Z,Z⟩)))))))
 refine Ck (Tc (Cs ?_))
 obtain ⟨x78,hj79,h⟩:=bnd h
 refine Jf (fun(x78:Bool) ρ' M' H'=>M44.le M'∧[(g32, .cells (l89 r27).toArray 89 (0,0))]::[(g22, .cells #[(Sv ⟨#[]⟩),(Iv 0),(Iv 0)] 89 (0,0))]::[(g21, .cells (l45 a0 v0_14 v0_15 v0_16 v0_17).toArray 45 (0,0))]::F=H'∧ρ' 1=(pt g21 0)∧ρ' 2=(pt g22 0)∧ρ' 3=(Iv a0.Kind)∧ρ' 72=(Bv x78)) x78 ?_ ?_
 have h:=hj79
 refine Cg (qu (pt g21 12) (Fa fo45_12 hs44_1 Z) (qu (Sv a0.Value) (Lb 2 pl9 Z Z Z) (qu (Iv (a0.Value.size:Int)) (PO.lenStr Tryz.underlying9 Z) (qu (Bv (decide ((256:Int)<(a0.Value.size:Int)))) (PO.gtr Z Z) (qm (Bv (decide ((256:Int)<(a0.Value.size:Int)))) ?_)))))
 rcases Bi h with⟨hb80,h⟩ |⟨hb80,h⟩
 iterate 4 refine Of 59 Z Z hb80 Z ?_
 refine WL.offU 63 Z Z Z (WL.offU 63 Z Z Z (WL.offU 63 Z Z Z (WL.offU 66 Z Z Z (WL.offU 66 Z Z Z (WL.offU 66 Z Z Z (WL.offU 63 Z Z Z (Of 59 Z Z hb80 Z (qu (Bv true) (Pt Z hb80 Z) (Wz ?_)))))))))
 obtain rfl:=oi h
 exact Tj ⟨lr,Z,hs44_1,hs44_2,hs44_3,Z⟩
 refine qo 59 hb80 (pt g21 12) (Fa fo45_12 hs44_1 Z) (qo 59 hb80 (Sv a0.Value) (Lb 2 pl9 Z Z Z) (qo 59 hb80 (Bv (!decide (a0.Value=(⟨#[]⟩:ByteArray)))) (PO.sneq Z Z) (On 59 Z Z hb80 (qm (Bv (!decide (a0.Value=(⟨#[]⟩:ByteArray)))) ?_))))
 rcases Bi h with⟨hb81,h⟩ |⟨hb81,h⟩
 refine qo 63 hb81 (pt g21 9) (Fa fo45_9 hs44_1 Z) (qo 63 hb81 (Bv a0.Flag) (Lb 2 pl4 Z Z Z) (On 63 Z Z hb81 (qm (Bv a0.Flag) ?_)))
 rcases Bi h with⟨hb82,h⟩ |⟨hb82,h⟩
 iterate 3 refine Of 66 Z Z hb82 Z ?_
 refine qo 63 hb81 (Bv true) (Pt Z hb82 Z) (qo 59 hb80 (Bv true) (Pt Z hb81 Z) (qu (Bv true) (Pf Z hb80 Z) (Wz ?_)))
 obtain rfl:=oi h
 exact Tj ⟨lr,Z,hs44_1,hs44_2,hs44_3,Z⟩
 refine On 66 Z Z hb82 (qM (Iv a0.Kind) hs44_3 (On 66 Z Z hb82 ?_))
 obtain ⟨r83,hr84,h⟩:=bnd h
 refine We (Ca co60 (f_ref05_has_ok a0.Kind (118:Int) _ r83 hr84) (args2 Z Z)) Z ?_
 rintro _ M85 _ hle86 ⟨_,⟨rfl,rfl⟩,rfl⟩
 refine WL.a0 (qo 66 hb82 (Bv (!r83)) (PO.not Z) (qo 63 hb81 (Bv (!r83)) (Pf Z hb82 Z) (qo 59 hb80 (Bv (!r83)) (Pt Z hb81 Z) (qu (Bv (!r83)) (Pf Z hb80 Z) (Wz ?_)))))
 obtain rfl:=oi h
 exact Tj ⟨hle86,Z,hs44_1,hs44_2,hs44_3,Z⟩
 iterate 3 refine Of 63 Z Z hb81 Z ?_
 refine WL.offU 66 Z Z Z (WL.offU 66 Z Z Z (WL.offU 66 Z Z Z (Of 63 Z Z hb81 Z (qo 59 hb80 (Bv false) (Pf Z hb81 Z) (qu (Bv false) (Pf Z hb80 Z) (Wz ?_))))))
 obtain rfl:=oi h
 exact Tj ⟨lr,Z,hs44_1,hs44_2,hs44_3,Z⟩
 rintro ρ79 M79 H79 ⟨hle79,rfl,hs79_1,hs79_2,hs79_3,hs79_72⟩
 have L79:=L44.trans hle79
 have L79_1:=L44_1.trans hle79
 refine Ch h hs79_72 (fun hb88 h=> ?_) (fun hb88 h=> ?_)
 refine Sr (qu (pt g21 12) (Fa fo45_12 hs79_1 Z) (qu (Sv a0.Value) (Lb 2 pl9 Z Z Z) (qu (Iv (a0.Value.size:Int)) (PO.lenStr Tryz.underlying9 Z) (qu (.agg #[(Sv ⟨#[118,97,108,117,101]⟩),(Iv (a0.Value.size:Int)),(Iv 6)]) (Bl (cl:=[(Sv ⟨#[118,97,108,117,101]⟩),(Iv (a0.Value.size:Int)),(Iv 6)]) ze89 fp89 (Pc (Sv ⟨#[118,97,108,117,101]⟩) Z Z (Pc (Iv (a0.Value.size:Int)) Z Z (Pc (Iv 6) Z Z Pz))) Z) (WL.f1 (We (Sg (v:=(.agg #[(Sv ⟨#[118,97,108,117,101]⟩),(Iv (a0.Value.size:Int)),(Iv 6)])) (vl:=[(Sv ⟨#[118,97,108,117,101]⟩),(Iv (a0.Value.size:Int)),(Iv 6)]) (arr':=[(Sv ⟨#[118,97,108,117,101]⟩),(Iv (a0.Value.size:Int)),(Iv 6)]) Z sz89 hs79_2 Z (onb Z) Z Z Z) Z ?_))))))
 rintro _ _ _ - ⟨rfl,rfl⟩
 exact Nt (Cr (Tr (Qa (Dr (Qa (Dr (Rd h [] (fun _ hs=>hs.drop) (resultsL1 Z (Rc (cs:=[(Sv ⟨#[118,97,108,117,101]⟩),(Iv (a0.Value.size:Int)),(Iv 6)]) 0 ag89 sz89 hs79_2 Z Z)) L79_1 ⟨Z,Z⟩)))))))
 refine Ck (Tc (Cs ?_))
 obtain ⟨x89,hj90,h⟩:=bnd h
 refine Jf (fun(x89:Bool) ρ' M' H'=>M79.le M'∧[(g32, .cells (l89 r27).toArray 89 (0,0))]::[(g22, .cells #[(Sv ⟨#[]⟩),(Iv 0),(Iv 0)] 89 (0,0))]::[(g21, .cells (l45 a0 v0_14 v0_15 v0_16 v0_17).toArray 45 (0,0))]::F=H'∧ρ' 1=(pt g21 0)∧ρ' 2=(pt g22 0)∧ρ' 106=(Bv x89)) x89 ?_ ?_
 have h:=hj90
 refine WC.draw [0,1,0,4,15,31,63,127,255,127,639,2047,4095,8191,16383,32767,65535,32767,163839,524287,1048575,2097151,4194303,8388607,16777215,8388607,41943039,134217727,268435455,536870911] (.pure 0 (.pure 1 (.pure 2 (.alt 3 (.alt 4 (.pure 5 (.pure 6 (.pure 7 (.pure 8 (.pure 9 (.alt 10 (.alt 11 (.pure 12 (.pure 13 (.pure 14 (.pure 15 (.pure 16 (.pure 17 (.alt 18 (.alt 19 (.pure 20 (.pure 21 (.pure 22 (.pure 23 (.pure 24 (.pure 25 (.alt 26 (.alt 27 (.pure 28 (.pure 29 .done)) .none) .none))))))) .none) .none))))))) .none) .none)))))) .none) .none)))) mixed (by kernel_rfl) (qt (pt g21 14) Z (Fa fo45_14 hs79_1 Z) (qt v0_14 Z (Lb 2 pl43 Z Z Z) (qt (Iv a0.Kind) Z (Mv hs79_3) ?_)))
 obtain ⟨r91,hr92,h⟩:=bnd h
 refine Ta Z (Ca co60 (f_ref05_has_ok a0.Kind (105:Int) _ r91 hr92) (args2 Z Z)) Z ?_ ?_
 rintro _ M93 _ hle94 ⟨_,⟨rfl,rfl⟩,rfl⟩
 have L94:=L79.trans hle94
 refine⟨(Sk 1 Z (Ss Z (Lb 2 pl43 Z Z Z) Z (Ss Z (Fa fo45_14 hs79_1 Z) Z trivial))), ?_⟩
 refine WT.a0 ?_
 obtain ⟨r96,hr97,h⟩:=bnd h
 have h0_14:=h0_14.mono L94
 refine Ta Z (Ca co62 (f_ref05_row_ok a0.Ids r91 _ _ h0_14 r96 hr97) (args2 Z Z)) Z ?_ ?_
 rintro _ M98 _ hle99 ⟨_,⟨rfl,rfl⟩,rfl⟩
 have L99:=L94.trans hle99
 refine⟨(Sl Z), ?_⟩
 refine WT.a0 (qt (Bv (!r96)) Z (PO.not Z) (qt (Bv (!r96)) Z (Mv Z) ?_))
 rcases Bi h with⟨hb101,h⟩ |⟨hb101,h⟩
 refine Tf 83 Z Z Z hb101 Z (Tf 83 Z Z Z hb101 Z (Tf 83 Z Z Z hb101 Z (Tg 83 Z Z Z hb101 Z ⟨(Sk 1 Z (St (Sf 83 Z Z Z hb101 Z) (St (Sf 83 Z Z Z hb101 Z) (Sl Z)))), ?_⟩ ?_)))
 refine Tg 83 Z Z Z hb101 Z ⟨(Sl Z), ?_⟩ ?_
 refine Tf 83 Z Z Z hb101 Z (qt (Bv true) Z (Pt Z hb101 Z) (qt (Bv true) Z (Mv Z) (Tf 91 Z Z Z Z Z (Tf 91 Z Z Z Z Z (Tf 91 Z Z Z Z Z (Tg 91 Z Z Z Z Z ⟨(Sk 1 Z (St (Sf 91 Z Z Z Z Z) (St (Sf 91 Z Z Z Z Z) (Sl Z)))), ?_⟩ ?_))))))
 refine Tg 91 Z Z Z Z Z ⟨(Sl Z), ?_⟩ ?_
 refine Tf 91 Z Z Z Z Z (qt (Bv true) Z (Pt Z Z Z) (qt (Bv true) Z (Mv Z) (Tf 99 Z Z Z Z Z (Tf 99 Z Z Z Z Z (Tf 99 Z Z Z Z Z (Tg 99 Z Z Z Z Z ⟨(Sk 1 Z (St (Sf 99 Z Z Z Z Z) (St (Sf 99 Z Z Z Z Z) (Sl Z)))), ?_⟩ ?_))))))
 refine Tg 99 Z Z Z Z Z ⟨(Sl Z), ?_⟩ ?_
 refine Tf 99 Z Z Z Z Z (qt (Bv true) Z (Pt Z Z Z) (Ti ?_))
 obtain rfl:=oi h
 exact Tj ⟨(hle94.trans hle99),Z,hs79_1,hs79_2,Z⟩
 exact Tz
 exact Tz
 exact Tz
 exact Tz
 exact Tz
 exact Tz
 refine Tn (pt g21 15) 83 Z Z Z hb101 (Fa fo45_15 hs79_1 Z) Z (Tn v0_15 83 Z Z Z hb101 (Lb 2 pl43 Z Z Z) Z (Tn (Iv a0.Kind) 83 Z Z Z hb101 (Mv hs79_3) Z ?_))
 obtain ⟨r102,hr103,h⟩:=bnd h
 refine WT.altOn 83 Z Z Z hb101 (Ca co60 (f_ref05_has_ok a0.Kind (109:Int) _ r102 hr103) (args2 Z Z)) Z ?_ ?_
 rintro _ M104 _ hle105 ⟨_,⟨rfl,rfl⟩,rfl⟩
 have L105:=L99.trans hle105
 refine⟨(Sk 1 Z (St (StabA.on 83 Z Z Z hb101 (Lb 2 pl43 Z Z Z) Z) (St (StabA.on 83 Z Z Z hb101 (Fa fo45_15 hs79_1 Z) Z) (Sl Z)))), ?_⟩
 refine WT.a0 ?_
 obtain ⟨r107,hr108,h⟩:=bnd h
 have h0_15:=h0_15.mono L105
 refine WT.altOn 83 Z Z Z hb101 (Ca co62 (f_ref05_row_ok a0.Isr r102 _ _ h0_15 r107 hr108) (args2 Z Z)) Z ?_ ?_
 rintro _ M109 _ hle110 ⟨_,⟨rfl,rfl⟩,rfl⟩
 have L110:=((hle94.trans hle99).trans hle105).trans hle110
 refine⟨(Sl Z), ?_⟩
 refine WT.a0 (Tn (Bv (!r107)) 83 Z Z Z hb101 (PO.not Z) Z (qt (Bv (!r107)) Z (Pf Z hb101 Z) (qt (Bv (!r107)) Z (Mv Z) ?_)))
 rcases Bi h with⟨hb112,h⟩ |⟨hb112,h⟩
 refine Tf 91 Z Z Z hb112 Z (Tf 91 Z Z Z hb112 Z (Tf 91 Z Z Z hb112 Z (Tg 91 Z Z Z hb112 Z ⟨(Sk 1 Z (St (Sf 91 Z Z Z hb112 Z) (St (Sf 91 Z Z Z hb112 Z) (Sl Z)))), ?_⟩ ?_)))
 refine Tg 91 Z Z Z hb112 Z ⟨(Sl Z), ?_⟩ ?_
 refine Tf 91 Z Z Z hb112 Z (qt (Bv true) Z (Pt Z hb112 Z) (qt (Bv true) Z (Mv Z) (Tf 99 Z Z Z Z Z (Tf 99 Z Z Z Z Z (Tf 99 Z Z Z Z Z (Tg 99 Z Z Z Z Z ⟨(Sk 1 Z (St (Sf 99 Z Z Z Z Z) (St (Sf 99 Z Z Z Z Z) (Sl Z)))), ?_⟩ ?_))))))
 refine Tg 99 Z Z Z Z Z ⟨(Sl Z), ?_⟩ ?_
 refine Tf 99 Z Z Z Z Z (qt (Bv true) Z (Pt Z Z Z) (Ti ?_))
 obtain rfl:=oi h
 exact Tj ⟨L110,Z,hs79_1,hs79_2,Z⟩
 exact Tz
 exact Tz
 exact Tz
 exact Tz
 refine Tn (pt g21 16) 91 Z Z Z hb112 (Fa fo45_16 hs79_1 Z) Z (Tn v0_16 91 Z Z Z hb112 (Lb 2 pl43 Z Z Z) Z (Tn (Iv a0.Kind) 91 Z Z Z hb112 (Mv hs79_3) Z ?_))
 obtain ⟨r113,hr114,h⟩:=bnd h
 refine WT.altOn 91 Z Z Z hb112 (Ca co60 (f_ref05_has_ok a0.Kind (120:Int) _ r113 hr114) (args2 Z Z)) Z ?_ ?_
 rintro _ M115 _ hle116 ⟨_,⟨rfl,rfl⟩,rfl⟩
 refine⟨(Sk 1 Z (St (StabA.on 91 Z Z Z hb112 (Lb 2 pl43 Z Z Z) Z) (St (StabA.on 91 Z Z Z hb112 (Fa fo45_16 hs79_1 Z) Z) (Sl Z)))), ?_⟩
 refine WT.a0 ?_
 obtain ⟨r118,hr119,h⟩:=bnd h
 have h0_16:=h0_16.mono ((L105.trans hle110).trans hle116)
 refine WT.altOn 91 Z Z Z hb112 (Ca co62 (f_ref05_row_ok a0.Add r113 _ _ h0_16 r118 hr119) (args2 Z Z)) Z ?_ ?_
 rintro _ M120 _ hle121 ⟨_,⟨rfl,rfl⟩,rfl⟩
 refine⟨(Sl Z), ?_⟩
 refine WT.a0 (Tn (Bv (!r118)) 91 Z Z Z hb112 (PO.not Z) Z (qt (Bv (!r118)) Z (Pf Z hb112 Z) (qt (Bv (!r118)) Z (Mv Z) ?_)))
 rcases Bi h with⟨hb123,h⟩ |⟨hb123,h⟩
 refine Tf 99 Z Z Z hb123 Z (Tf 99 Z Z Z hb123 Z (Tf 99 Z Z Z hb123 Z (Tg 99 Z Z Z hb123 Z ⟨(Sk 1 Z (St (Sf 99 Z Z Z hb123 Z) (St (Sf 99 Z Z Z hb123 Z) (Sl Z)))), ?_⟩ ?_)))
 refine Tg 99 Z Z Z hb123 Z ⟨(Sl Z), ?_⟩ ?_
 refine Tf 99 Z Z Z hb123 Z (qt (Bv true) Z (Pt Z hb123 Z) (Ti ?_))
 obtain rfl:=oi h
 exact Tj ⟨((L110.trans hle116).trans hle121),Z,hs79_1,hs79_2,Z⟩
 exact Tz
 exact Tz
 refine Tn (pt g21 17) 99 Z Z Z hb123 (Fa fo45_17 hs79_1 Z) Z (Tn v0_17 99 Z Z Z hb123 (Lb 2 pl43 Z Z Z) Z (Tn (Iv a0.Kind) 99 Z Z Z hb123 (Mv hs79_3) Z ?_))
 obtain ⟨r124,hr125,h⟩:=bnd h
 refine WT.altOn 99 Z Z Z hb123 (Ca co60 (f_ref05_has_ok a0.Kind (120:Int) _ r124 hr125) (args2 Z Z)) Z ?_ ?_
 rintro _ M126 _ hle127 ⟨_,⟨rfl,rfl⟩,rfl⟩
 refine⟨(Sk 1 Z (St (StabA.on 99 Z Z Z hb123 (Lb 2 pl43 Z Z Z) Z) (St (StabA.on 99 Z Z Z hb123 (Fa fo45_17 hs79_1 Z) Z) (Sl Z)))), ?_⟩
 refine WT.a0 ?_
 obtain ⟨r129,hr130,h⟩:=bnd h
 have h0_17:=h0_17.mono ((((L105.trans hle110).trans hle116).trans hle121).trans hle127)
 refine WT.altOn 99 Z Z Z hb123 (Ca co62 (f_ref05_row_ok a0.Drop r124 _ _ h0_17 r129 hr130) (args2 Z Z)) Z ?_ ?_
 rintro _ M131 _ hle132 ⟨_,⟨rfl,rfl⟩,rfl⟩
 refine⟨(Sl Z), ?_⟩
 refine WT.a0 (Tn (Bv (!r129)) 99 Z Z Z hb123 (PO.not Z) Z (qt (Bv (!r129)) Z (Pf Z hb123 Z) (Ti ?_)))
 obtain rfl:=oi h
 exact Tj ⟨((((L110.trans hle116).trans hle121).trans hle127).trans hle132),Z,hs79_1,hs79_2,Z⟩
 exact Tz
 exact Tz
 exact Tz
 exact Tz
 exact Tz
 exact Tz
 exact Tz
 exact Tz
 rintro ρ90 M90 H90 ⟨hle90,rfl,hs90_1,hs90_2,hs90_106⟩
 refine Ch h hs90_106 (fun hb134 h=> ?_) (fun hb134 h=> ?_)
 refine Sr (qu (pt g21 14) (Fa fo45_14 hs90_1 Z) (qu v0_14 (Lb 2 pl43 Z Z Z) ?_))
 have h0_14:=h0_14.mono (L79.trans hle90)
 refine qu (Iv (a0.Ids.length:Int)) (PO.lenS Tryz.underlying43 Z h0_14.len) (qu (.agg #[(Sv ⟨#[114,111,119]⟩),(Iv (a0.Ids.length:Int)),(Iv 18)]) (Bl (cl:=[(Sv ⟨#[114,111,119]⟩),(Iv (a0.Ids.length:Int)),(Iv 18)]) ze89 fp89 (Pc (Sv ⟨#[114,111,119]⟩) Z Z (Pc (Iv (a0.Ids.length:Int)) Z Z (Pc (Iv 18) Z Z Pz))) Z) (WL.f1 (We (Sg (v:=(.agg #[(Sv ⟨#[114,111,119]⟩),(Iv (a0.Ids.length:Int)),(Iv 18)])) (vl:=[(Sv ⟨#[114,111,119]⟩),(Iv (a0.Ids.length:Int)),(Iv 18)]) (arr':=[(Sv ⟨#[114,111,119]⟩),(Iv (a0.Ids.length:Int)),(Iv 18)]) Z sz89 hs90_2 Z (onb Z) Z Z Z) Z ?_)))
 rintro _ _ _ - ⟨rfl,rfl⟩
 exact Nt (Cr (Tr (Qa (Dr (Qa (Dr (Rd h [] (fun _ hs=>hs.drop) (resultsL1 Z (Rc (cs:=[(Sv ⟨#[114,111,119]⟩),(Iv (a0.Ids.length:Int)),(Iv 18)]) 0 ag89 sz89 hs90_2 Z Z)) (L79_1.trans hle90) ⟨Z,Z⟩)))))))
 refine Ck (Tc (Sr (qu (.agg #[(Sv ⟨#[]⟩),(Iv 0),(Iv 0)]) (Bl (cl:=[(Sv ⟨#[]⟩),(Iv 0),(Iv 0)]) ze89 fp89 Pz Z) (WL.f1 (We (Sg (v:=(.agg #[(Sv ⟨#[]⟩),(Iv 0),(Iv 0)])) (vl:=[(Sv ⟨#[]⟩),(Iv 0),(Iv 0)]) (arr':=[(Sv ⟨#[]⟩),(Iv 0),(Iv 0)]) Z sz89 hs90_2 Z (onb Z) Z Z Z) Z ?_)))))
 rintro _ _ _ - ⟨rfl,rfl⟩
 exact Nt (Cr (Qa (Dr (Qa (Dr (Rd h [] (fun _ hs=>hs.drop) (resultsL1 Z (Rc (cs:=[(Sv ⟨#[]⟩),(Iv 0),(Iv 0)]) 0 ag89 sz89 hs90_2 Z Z)) (L79_1.trans hle90) ⟨Z,Z⟩))))))
noncomputable def f_ref15_Broker_l0 (a0:T_api_Image) (a1:Int) (s_:Int):Option (Int⊕(Unit⊕(Int×Int×ByteArray×Bool×Bool))):=
 match s_ with
 |x25=>
 (if(decide (x25<(a0.Brokers.length:Int)))=true then(grd (0≤x25∧x25<a0.Brokers.length) (if(decide (((rd a0.Brokers x25).Id)=a1))=true then(grd (0≤x25∧x25<a0.Brokers.length) (some (Sum.inr (Sum.inr ((rd a0.Brokers x25).Id,(rd a0.Brokers x25).Epoch,(rd a0.Brokers x25).Rack,(rd a0.Brokers x25).Fenced,(rd a0.Brokers x25).Leaving)))))else(some (Sum.inl (IntKind.i64.wrap (x25+(1:Int)))))))else(some (Sum.inr (Sum.inl ()))))
noncomputable def f_ref15_Broker (a0:T_api_Image) (a1:Int):Option (T_api_Broker×Bool):=
 ((((iter (f_ref15_Broker_l0 a0 a1) (0:Int)).bind (Sum.elim (fun _=>(some (Sum.inl ()))) (fun(x26,x27,x28,x29,x30)=>(((some ((⟨x26,x27,x28,x29,x30⟩:T_api_Broker),true))).bind fun r=>some (Sum.inr r))))):Option (Unit⊕(T_api_Broker×Bool))).bind (Sum.elim (fun _=>(some ((⟨(0:Int),(0:Int),(⟨#[]⟩:ByteArray),false,false⟩:T_api_Broker),false))) some))
def f_ref15_Broker_post (a0:T_api_Image) (a1:Int) (v0_0 v0_1 v0_2 v0_3:Value):(T_api_Broker×Bool)→Value→IM→HL→Prop:=
 fun(p_:(T_api_Broker×Bool)) (v:Value) (M':IM) (H':HL)=>match p_ with |(r0,r1)=>(.tuple #[(.agg #[(.int .i64 r0.Id),(.int .i64 r0.Epoch),(.string r0.Rack),(.bool r0.Fenced),(.bool r0.Leaving)]),(.bool r1)])=v∧H'=[]
theorem f_ref15_Broker_ok (a0:T_api_Image) (a1:Int) (M:IM) (v0_0 v0_1 v0_2 v0_3:Value) (h0_0:RS kd_api_Broker M v0_0 a0.Brokers) (h0_1:RS kd_api_Topic M v0_1 a0.Topics) (h0_2:RS kd_api_Config M v0_2 a0.Configs) (h0_3:RS kd_api_Done M v0_3 a0.Done) (res:(T_api_Broker×Bool)) (h:f_ref15_Broker a0 a1=some res):
 Tri Tryz.prog 63 #[(a29_ a0 v0_0 v0_1 v0_2 v0_3),(Iv a1)] M [] (f_ref15_Broker_post a0 a1 v0_0 v0_1 v0_2 v0_3 res):=by
 unfold f_ref15_Broker at h
 refine Te Tryz.func63 Z Z ?_
 intro F ρ hρ
 refine Sr (We (EO.box (cs:=(l29 a0 v0_0 v0_1 v0_2 v0_3).toArray) (congrArg Value.cells (asE (a29_ a0 v0_0 v0_1 v0_2 v0_3) (hρ 0)))) Z ?_)
 rintro _ _ _ - ⟨rfl,g21,rfl,rfl⟩
 refine We (Al ze59 Z) Z ?_
 rintro _ _ _ - ⟨rfl,g22,rfl,rfl⟩
 refine qa (Bv false) (Nt ?_)
 obtain ⟨j23,hj23,h⟩:=bnd h
 refine WC.joinE (fun(_:Unit) ρ' M' H'=>M.le M'∧[(g22, .cells z59_.toArray 59 (0,0))]::[(g21, .cells (l29 a0 v0_0 v0_1 v0_2 v0_3).toArray 29 (0,0))]::F=H'∧ρ' 4=(pt g22 0)) j23 ?_ ?_
 have h323:=h
 have h:=hj23
 refine Sr (qa (Iv 0) (Nt (Bk ?_)))
 obtain ⟨e24,he24,hK24⟩:=bnd h
 clear h
 refine WC.loop he24 (fun(x25:Int) ρ' M' H'=>M.le M'∧[(g22, .cells z59_.toArray 59 (0,0))]::[(g21, .cells (l29 a0 v0_0 v0_1 v0_2 v0_3).toArray 29 (0,0))]::F=H'∧ρ' 1=(Iv a1)∧ρ' 2=(pt g21 0)∧ρ' 4=(pt g22 0)∧ρ' 6=(Iv x25)) ?_ ?_
 exact⟨lr,Z,(hρ 1),Z,Z,Z⟩
 rintro x25 o24 ρ24 M24 H24 h ⟨hle24,rfl,hs24_1,hs24_2,hs24_4,hs24_6⟩
 unfold f_ref15_Broker_l0 at h
 refine Cs (Sr (qM (Iv x25) hs24_6 (qu (pt g21 0) (Fa fo29_0 hs24_2 Z) (qu v0_0 (Lb 1 pl24 Z Z Z) ?_))))
 have h0_0:=h0_0.mono hle24
 refine qu (Iv (a0.Brokers.length:Int)) (PO.lenS Tryz.underlying24 Z h0_0.len) (qu (Bv (decide (x25<(a0.Brokers.length:Int)))) (PO.lss Z Z) (Nt (Ch h Z (fun hb31 h=> ?_) (fun hb31 h=> ?_))))
 refine Ck (Tc (Cs (Bk (Sr (qu (pt g21 0) (Fa fo29_0 hs24_2 Z) (qu v0_0 (Lb 1 pl24 Z Z Z) (qM (Iv x25) hs24_6 ?_)))))))
 obtain ⟨hg32,h⟩:=grd_i h
 obtain ⟨p33,cs34,hat35,hrc36,hhas37⟩:=h0_0.at hg32.1 hg32.2 (by decide)
 obtain rfl:=kd_api_Broker_open hrc36
 refine qu (.pointer (some p33)) (PO.indexAddr (n:=a0.Brokers.length) Tryz.underlying24 sz59 Z Z hg32.1 hg32.2 hat35) (qu (.pointer (some (p33.add 0))) (Fa fo59_0 Z Z) (qu (Iv ((rd a0.Brokers x25).Id)) (PO.loadM pl3 Z (IM.has0 hhas37)) (qM (Iv a1) hs24_1 (qu (Bv (decide (((rd a0.Brokers x25).Id)=a1))) (PO.eql Z Z) (Nt (Ch h Z (fun hb39 h=> ?_) (fun hb39 h=> ?_)))))))
 refine Sr (qu (pt g21 0) (Fa fo29_0 hs24_2 Z) (qu v0_0 (Lb 1 pl24 Z Z Z) (qM (Iv x25) hs24_6 ?_)))
 obtain ⟨hg40,h⟩:=grd_i h
 obtain ⟨p41,cs42,hat43,hrc44,hhas45⟩:=h0_0.at hg40.1 hg40.2 (by decide)
 obtain rfl:=kd_api_Broker_open hrc44
 refine qu (.pointer (some p41)) (PO.indexAddr (n:=a0.Brokers.length) Tryz.underlying24 sz59 Z Z hg40.1 hg40.2 hat43) (qu (a59_ (rd a0.Brokers x25)) (PO.loadMA (cs:=(l59 (rd a0.Brokers x25))) ag59 sz59 Z hhas45) (We (Sg (v:=(a59_ (rd a0.Brokers x25))) (vl:=(l59 (rd a0.Brokers x25))) (arr':=(l59 (rd a0.Brokers x25))) Z sz59 hs24_4 Z (onb Z) Z Z Z) Z ?_))
 rintro _ _ _ - ⟨rfl,rfl⟩
 refine qa (Bv true) (Nt (Cr (Br (Tr (WQ.leaveR (Sum.inr ((rd a0.Brokers x25).Id,(rd a0.Brokers x25).Epoch,(rd a0.Brokers x25).Rack,(rd a0.Brokers x25).Fenced,(rd a0.Brokers x25).Leaving)) (oi h).symm (fun heq24=> ?_))))))
 subst heq24
 have h:=(elimR hK24)
 refine Br (Tr ?_)
 have h:=KK.early h h323
 exact Qa (Dr (Rd h [] (fun _ hs=>hs.drop) (resultsLN Z (RVs.cons (Rc (cs:=(l59 (rd a0.Brokers x25))) 0 ag59 sz59 hs24_4 Z Z) (RVs.cons (RV.tmp Z) RVs.nil))) hle24 ⟨Z,Z⟩))
 exact Ck (Bn (Tc (Cg (qM (Iv x25) hs24_6 (qu (Iv (IntKind.i64.wrap (x25+1))) (PO.add Z Z) (qa (Iv (IntKind.i64.wrap (x25+1))) (Wz (WQ.again (IntKind.i64.wrap (x25+1)) (oi h).symm ⟨hle24,Z,hs24_1,hs24_2,hs24_4,Z⟩))))))))
 refine WC.exit (WQ.thenE (WQ.leaveE (Sum.inl ()) (oi h).symm (fun heq24=> ?_)))
 subst heq24
 have h:=elimL hK24
 exact WQ.blockH (WQ.thenFE h ⟨hle24,Z,hs24_4⟩)
 rintro _ ρ23 M23 H23 rfl ⟨hle23,rfl,hs23_4⟩
 have h:=(Sum.elim_inl _ _ _).symm.trans h
 refine Sr (qu (.agg z59_.toArray) (Bl (cl:=z59_) ze59 fp59 Pz Z) (We (Sg (v:=(.agg z59_.toArray)) (vl:=z59_) (arr':=z59_) Z sz59 hs23_4 Z (onb Z) Z Z Z) Z ?_))
 rintro _ _ _ - ⟨rfl,rfl⟩
 exact qa (Bv false) (Nt (Cr (Qa (Dr (Rd h [] (fun _ hs=>hs.drop) (resultsLN Z (RVs.cons (Rc (cs:=z59_) 0 ag59 sz59 hs23_4 Z Z) (RVs.cons (RV.tmp Z) RVs.nil))) hle23 ⟨Z,Z⟩)))))
noncomputable def f_ref15_Leads_l1 (a0:T_api_Image) (a1:Int) (x24:Int) (s_:Int):Option (Int⊕(Unit⊕Unit)):=
 match s_ with
 |x28=>
 (grd (0≤x24∧x24<a0.Topics.length) (if(decide (x28<(((rd a0.Topics x24).Parts).length:Int)))=true then(grd (0≤x24∧x24<a0.Topics.length) (grd (0≤x28∧x28<((rd a0.Topics x24).Parts).length) (if(decide (((rd ((rd a0.Topics x24).Parts) x28).Leader)=a1))=true then(some (Sum.inr (Sum.inr ())))else(some (Sum.inl (IntKind.i64.wrap (x28+(1:Int))))))))else(some (Sum.inr (Sum.inl ())))))
noncomputable def f_ref15_Leads_l0 (a0:T_api_Image) (a1:Int) (s_:Int):Option (Int⊕(Unit⊕Unit)):=
 match s_ with
 |x24=>
 (if(decide (x24<(a0.Topics.length:Int)))=true then((((iter (f_ref15_Leads_l1 a0 a1 x24) (0:Int)).bind (Sum.elim (fun _=>(some (Sum.inl ()))) (fun _=>(((some (Sum.inr (Sum.inr ())))).bind fun r=>some (Sum.inr r))))):Option (Unit⊕(Int⊕(Unit⊕Unit)))).bind (Sum.elim (fun _=>(some (Sum.inl (IntKind.i64.wrap (x24+(1:Int)))))) some))else(some (Sum.inr (Sum.inl ()))))
noncomputable def f_ref15_Leads (a0:T_api_Image) (a1:Int):Option Bool:=
 ((((iter (f_ref15_Leads_l0 a0 a1) (0:Int)).bind (Sum.elim (fun _=>(some (Sum.inl ()))) (fun _=>(((some true)).bind fun r=>some (Sum.inr r))))):Option (Unit⊕Bool)).bind (Sum.elim (fun _=>(some false)) some))
def f_ref15_Leads_post (a0:T_api_Image) (a1:Int) (v0_0 v0_1 v0_2 v0_3:Value):Bool→Value→IM→HL→Prop:=
 fun(r0:Bool) (v:Value) (M':IM) (H':HL)=>(.bool r0)=v∧H'=[]
theorem f_ref15_Leads_ok (a0:T_api_Image) (a1:Int) (M:IM) (v0_0 v0_1 v0_2 v0_3:Value) (h0_0:RS kd_api_Broker M v0_0 a0.Brokers) (h0_1:RS kd_api_Topic M v0_1 a0.Topics) (h0_2:RS kd_api_Config M v0_2 a0.Configs) (h0_3:RS kd_api_Done M v0_3 a0.Done) (res:Bool) (h:f_ref15_Leads a0 a1=some res):
 Tri Tryz.prog 64 #[(a29_ a0 v0_0 v0_1 v0_2 v0_3),(Iv a1)] M [] (f_ref15_Leads_post a0 a1 v0_0 v0_1 v0_2 v0_3 res):=by
 unfold f_ref15_Leads at h
 refine Te Tryz.func64 Z Z ?_
 intro F ρ hρ
 refine Sr (We (EO.box (cs:=(l29 a0 v0_0 v0_1 v0_2 v0_3).toArray) (congrArg Value.cells (asE (a29_ a0 v0_0 v0_1 v0_2 v0_3) (hρ 0)))) Z ?_)
 rintro _ _ _ - ⟨rfl,g21,rfl,rfl⟩
 refine qa (Bv false) (Nt ?_)
 obtain ⟨j22,hj22,h⟩:=bnd h
 refine WC.joinE (fun(_:Unit) ρ' M' H'=>M.le M'∧[(g21, .cells (l29 a0 v0_0 v0_1 v0_2 v0_3).toArray 29 (0,0))]::F=H') j22 ?_ ?_
 have h322:=h
 have h:=hj22
 refine Sr (qa (Iv 0) (Nt (Bk ?_)))
 obtain ⟨e23,he23,hK23⟩:=bnd h
 clear h
 refine WC.loop he23 (fun(x24:Int) ρ' M' H'=>M.le M'∧[(g21, .cells (l29 a0 v0_0 v0_1 v0_2 v0_3).toArray 29 (0,0))]::F=H'∧ρ' 1=(Iv a1)∧ρ' 2=(pt g21 0)∧ρ' 5=(Iv x24)) ?_ ?_
 exact⟨lr,Z,(hρ 1),Z,Z⟩
 rintro x24 o23 ρ23 M23 H23 h ⟨hle23,rfl,hs23_1,hs23_2,hs23_5⟩
 unfold f_ref15_Leads_l0 at h
 refine Cs (Sr (qM (Iv x24) hs23_5 (qu (pt g21 1) (Fa fo29_1 hs23_2 Z) (qu v0_1 (Lb 0 pl25 Z Z Z) ?_))))
 have h0_1:=h0_1.mono hle23
 refine qu (Iv (a0.Topics.length:Int)) (PO.lenS Tryz.underlying25 Z h0_1.len) (qu (Bv (decide (x24<(a0.Topics.length:Int)))) (PO.lss Z Z) (Nt (Ch h Z (fun hb25 h=> ?_) (fun hb25 h=> ?_))))
 refine Ck (Tc ?_)
 obtain ⟨j26,hj26,h⟩:=bnd h
 refine WC.joinE (fun(_:Unit) ρ' M' H'=>M23.le M'∧[(g21, .cells (l29 a0 v0_0 v0_1 v0_2 v0_3).toArray 29 (0,0))]::F=H'∧ρ' 1=(Iv a1)∧ρ' 2=(pt g21 0)∧ρ' 5=(Iv x24)) j26 ?_ ?_
 have h326:=h
 have h:=hj26
 refine Bk (Sr (qa (Iv 0) (Nt (Bk ?_))))
 obtain ⟨e27,he27,hK27⟩:=bnd h
 clear h
 refine WC.loop he27 (fun(x28:Int) ρ' M' H'=>M23.le M'∧[(g21, .cells (l29 a0 v0_0 v0_1 v0_2 v0_3).toArray 29 (0,0))]::F=H'∧ρ' 1=(Iv a1)∧ρ' 2=(pt g21 0)∧ρ' 5=(Iv x24)∧ρ' 6=(Iv x28)) ?_ ?_
 exact⟨lr,Z,hs23_1,hs23_2,hs23_5,Z⟩
 rintro x28 o27 ρ27 M27 H27 h ⟨hle27,rfl,hs27_1,hs27_2,hs27_5,hs27_6⟩
 unfold f_ref15_Leads_l1 at h
 refine Cs (Sr (qM (Iv x28) hs27_6 (qu (pt g21 1) (Fa fo29_1 hs27_2 Z) (qu v0_1 (Lb 0 pl25 Z Z Z) (qM (Iv x24) hs27_5 ?_)))))
 obtain ⟨hg29,h⟩:=grd_i h
 have h0_1:=h0_1.mono hle27
 obtain ⟨p30,cs31,hat32,hrc33,hhas34⟩:=h0_1.at hg29.1 hg29.2 (by decide)
 obtain ⟨vw35_2,rfl,hw35_2⟩:=kd_api_Topic_open hrc33
 refine qu (.pointer (some p30)) (PO.indexAddr (n:=a0.Topics.length) Tryz.underlying25 sz52 Z Z hg29.1 hg29.2 hat32) (qu (.pointer (some (p30.add 2))) (Fa fo52_2 Z Z) (qu vw35_2 (PO.loadM pl50 Z (hhas34 2 _ Z)) (qu (Iv (((rd a0.Topics x24).Parts).length:Int)) (PO.lenS Tryz.underlying50 Z hw35_2.len) (qu (Bv (decide (x28<(((rd a0.Topics x24).Parts).length:Int)))) (PO.lss Z Z) (Nt (Ch h Z (fun hb36 h=> ?_) (fun hb36 h=> ?_)))))))
 refine Ck (Tc (Cs (Bk (Sr (qu (pt g21 1) (Fa fo29_1 hs27_2 Z) (qu v0_1 (Lb 0 pl25 Z Z Z) (qM (Iv x24) hs27_5 ?_)))))))
 obtain ⟨hg37,h⟩:=grd_i h
 obtain ⟨p38,cs39,hat40,hrc41,hhas42⟩:=h0_1.at hg37.1 hg37.2 (by decide)
 obtain ⟨vw43_2,rfl,hw43_2⟩:=kd_api_Topic_open hrc41
 refine qu (.pointer (some p38)) (PO.indexAddr (n:=a0.Topics.length) Tryz.underlying25 sz52 Z Z hg37.1 hg37.2 hat40) (qu (.pointer (some (p38.add 2))) (Fa fo52_2 Z Z) (qu vw43_2 (PO.loadM pl50 Z (hhas42 2 _ Z)) (qM (Iv x28) hs27_6 ?_)))
 obtain ⟨hg44,h⟩:=grd_i h
 obtain ⟨p45,cs46,hat47,hrc48,hhas49⟩:=hw43_2.at hg44.1 hg44.2 (by decide)
 obtain ⟨vw50_0,vw50_1,vw50_4,vw50_5,rfl,hw50_0,hw50_1,hw50_4,hw50_5⟩:=kd_api_Part_open hrc48
 refine qu (.pointer (some p45)) (PO.indexAddr (n:=((rd a0.Topics x24).Parts).length) Tryz.underlying50 sz54 Z Z hg44.1 hg44.2 hat47) (qu (.pointer (some (p45.add 2))) (Fa fo54_2 Z Z) (qu (Iv ((rd ((rd a0.Topics x24).Parts) x28).Leader)) (PO.loadM pl3 Z (hhas49 2 _ Z)) (qM (Iv a1) hs27_1 (qu (Bv (decide (((rd ((rd a0.Topics x24).Parts) x28).Leader)=a1))) (PO.eql Z Z) (Nt (Ch h Z (fun hb51 h=> ?_) (fun hb51 h=> ?_)))))))
 refine Sr (qa (Bv true) (Nt (Cr (Br (Tr (WQ.leaveR (Sum.inr ()) (oi h).symm (fun heq27=> ?_)))))))
 subst heq27
 have h:=(elimR hK27)
 refine Br (Br (Tr ?_))
 have h:=KK.early h h326
 refine WQ.leaveR (Sum.inr ()) (oi h).symm (fun heq23=> ?_)
 subst heq23
 have h:=(elimR hK23)
 refine Br (Tr ?_)
 have h:=KK.early h h322
 exact Dr (Rf h [] Z (Rs Z Z) (hle23.trans hle27) ⟨Z,Z⟩)
 exact Ck (Bn (Tc (Cg (qM (Iv x28) hs27_6 (qu (Iv (IntKind.i64.wrap (x28+1))) (PO.add Z Z) (qa (Iv (IntKind.i64.wrap (x28+1))) (Wz (WQ.again (IntKind.i64.wrap (x28+1)) (oi h).symm ⟨hle27,Z,hs27_1,hs27_2,hs27_5,Z⟩))))))))
 refine WC.exit (WQ.thenE (WQ.leaveE (Sum.inl ()) (oi h).symm (fun heq27=> ?_)))
 subst heq27
 have h:=elimL hK27
 exact WQ.blockH (Bn (WQ.thenFE h ⟨hle27,Z,hs27_1,hs27_2,hs27_5⟩))
 rintro _ ρ26 M26 H26 rfl ⟨hle26,rfl,hs26_1,hs26_2,hs26_5⟩
 have h:=(Sum.elim_inl _ _ _).symm.trans h
 exact Cg (qM (Iv x24) hs26_5 (qu (Iv (IntKind.i64.wrap (x24+1))) (PO.add Z Z) (qa (Iv (IntKind.i64.wrap (x24+1))) (Wz (WQ.again (IntKind.i64.wrap (x24+1)) (oi h).symm ⟨(hle23.trans hle26),Z,hs26_1,hs26_2,Z⟩)))))
 refine WC.exit (WQ.thenE (WQ.leaveE (Sum.inl ()) (oi h).symm (fun heq23=> ?_)))
 subst heq23
 have h:=elimL hK23
 exact WQ.blockH (WQ.thenFE h ⟨hle23,Z⟩)
 rintro _ ρ22 M22 H22 rfl ⟨hle22,rfl⟩
 have h:=(Sum.elim_inl _ _ _).symm.trans h
 exact Sr (qa (Bv false) (Nt (Cr (Dr (Rf h [] Z (Rs Z Z) hle22 ⟨Z,Z⟩)))))
noncomputable def f_ref15_putBroker_l0 (a0:(List T_api_Broker)) (a1:T_api_Broker) (s_:((List T_api_Broker)×Bool×Int)):Option (((List T_api_Broker)×Bool×Int)⊕((List T_api_Broker)×Bool)):=
 match s_ with
 |(x26,x27,x28)=>
 (if(decide (x28<(a0.length:Int)))=true then(((((((if(!x27)=true then(grd (0≤x28∧x28<a0.length) (some (decide (a1.Id≤((rd a0 x28).Id)))))else(some false)):Option Bool).bind fun x38=>(if x38=true then(grd (x26.length+[a1].length≤274877906944) (some (x26++[a1],true)))else(some (x26,x27)))):Option ((List T_api_Broker)×Bool)).bind fun(x35,x36)=>(grd (0≤x28∧x28<a0.length) (if(decide (((rd a0 x28).Id)≠a1.Id))=true then(grd (0≤x28∧x28<a0.length) (grd (x35.length+[(rd a0 x28)].length≤274877906944) (some (x35++[(rd a0 x28)],x36))))else(some (x35,x36))))):Option ((List T_api_Broker)×Bool)).bind fun(x32,x33)=>(some (Sum.inl (x32,x33,IntKind.i64.wrap (x28+(1:Int))))))else(some (Sum.inr (x26,x27))))
noncomputable def f_ref15_putBroker (a0:(List T_api_Broker)) (a1:T_api_Broker):Option (List T_api_Broker):=
 ((((iter (f_ref15_putBroker_l0 a0 a1) ([],false,(0:Int))).bind (fun(x29,x30)=>(some (x29,x30)))):Option ((List T_api_Broker)×Bool)).bind fun(x22,x23)=>(((if(!x23)=true then(grd (x22.length+[a1].length≤274877906944) (some (x22++[a1])))else(some x22)):Option (List T_api_Broker)).bind fun x79=>(some x79)))
def f_ref15_putBroker_post (a0:(List T_api_Broker)) (a1:T_api_Broker) (v0:Value):(List T_api_Broker)→Value→IM→HL→Prop:=
 fun(r0:(List T_api_Broker)) (v:Value) (M':IM) (H':HL)=>∃ vz0 cz0,vz0=v∧H'=[cz0]∧OwnS kd_api_Broker M' vz0 r0 cz0
theorem f_ref15_putBroker_ok (a0:(List T_api_Broker)) (a1:T_api_Broker) (M:IM) (v0:Value) (h0:RS kd_api_Broker M v0 a0) (res:(List T_api_Broker)) (h:f_ref15_putBroker a0 a1=some res):
 Tri Tryz.prog 65 #[v0,(a59_ a1)] M [] (f_ref15_putBroker_post a0 a1 v0 res):=by
 unfold f_ref15_putBroker at h
 refine Te Tryz.func65 Z Z ?_
 intro F ρ hρ
 refine Sr (We (EO.box (cs:=(l59 a1).toArray) (congrArg Value.cells (asE (a59_ a1) (hρ 1)))) Z ?_)
 rintro _ _ _ - ⟨rfl,g21,rfl,rfl⟩
 refine qa Zs (Ns (qa Zs (Ns (qa (Bv false) (Nt ?_)))))
 obtain ⟨j24,hj24,h⟩:=bnd h
 refine Jf (fun(p_:((List T_api_Broker)×Bool)) ρ' M' H'=>match p_ with |(x22,x23)=>∃ vx22 cx22,M.le M'∧[(g21, .cells (l59 a1).toArray 59 (0,0))]::cx22::F=H'∧ρ' 3=(pt g21 0)∧ρ' 5=vx22∧ρ' 6=(Bv x23)∧OwnS kd_api_Broker M' vx22 x22 cx22) j24 ?_ ?_
 have h:=hj24
 refine Sr (qa (Iv 0) (Nt (Bk (WC.e0 (WC.f1 ?_)))))
 obtain ⟨e25,he25,hK25⟩:=bnd h
 clear h
 refine WC.loop he25 (fun(p_:((List T_api_Broker)×Bool×Int)) ρ' M' H'=>match p_ with |(x26,x27,x28)=>∃ vx26 cx26,M.le M'∧[(g21, .cells (l59 a1).toArray 59 (0,0))]::cx26::F=H'∧ρ' 0=v0∧ρ' 3=(pt g21 0)∧ρ' 5=vx26∧ρ' 6=(Bv x27)∧ρ' 7=(Iv x28)∧OwnS kd_api_Broker M' vx26 x26 cx26) ?_ ?_
 exact⟨Zs,[],lr,Z,(hρ 0),Z,Z,Z,Z,(OwnS.nil _ _)⟩
 rintro ⟨x26,x27,x28⟩ o25 ρ25 M25 H25 h ⟨vx26,cx26,hle25,rfl,hs25_0,hs25_3,hs25_5,hs25_6,hs25_7,hx26⟩
 unfold f_ref15_putBroker_l0 at h
 refine Cs (Sr (qM (Iv x28) hs25_7 (qM v0 hs25_0 ?_)))
 have h0:=h0.mono hle25
 refine qu (Iv (a0.length:Int)) (PO.lenS Tryz.underlying24 Z h0.len) (qu (Bv (decide (x28<(a0.length:Int)))) (PO.lss Z Z) (Nt (Ch h Z (fun hb31 h=> ?_) (fun hb31 h=> ?_))))
 refine Ck (Tc ?_)
 obtain ⟨j34,hj34,h⟩:=bnd h
 refine Jf (fun(p_:((List T_api_Broker)×Bool)) ρ' M' H'=>match p_ with |(x32,x33)=>∃ vx32 cx32,M25.le M'∧[(g21, .cells (l59 a1).toArray 59 (0,0))]::cx32::F=H'∧ρ' 0=v0∧ρ' 3=(pt g21 0)∧ρ' 5=vx32∧ρ' 6=(Bv x33)∧ρ' 7=(Iv x28)∧OwnS kd_api_Broker M' vx32 x32 cx32) j34 ?_ ?_
 have h:=hj34
 refine Bk ?_
 obtain ⟨j37,hj37,h⟩:=bnd h
 refine Jf (fun(p_:((List T_api_Broker)×Bool)) ρ' M' H'=>match p_ with |(x35,x36)=>∃ vx35 cx35,M25.le M'∧[(g21, .cells (l59 a1).toArray 59 (0,0))]::cx35::F=H'∧ρ' 0=v0∧ρ' 3=(pt g21 0)∧ρ' 5=vx35∧ρ' 6=(Bv x36)∧ρ' 7=(Iv x28)∧OwnS kd_api_Broker M' vx35 x35 cx35) j37 ?_ ?_
 have h:=hj37
 obtain ⟨x38,hj39,h⟩:=bnd h
 refine Jf (fun(x38:Bool) ρ' M' H'=>M25.le M'∧[(g21, .cells (l59 a1).toArray 59 (0,0))]::cx26::F=H'∧ρ' 0=v0∧ρ' 3=(pt g21 0)∧ρ' 5=vx26∧ρ' 6=(Bv x27)∧ρ' 7=(Iv x28)∧ρ' 25=(Bv x38)) x38 ?_ ?_
 have h:=hj39
 refine WC.draw [0,1,3,7,7,31,63,127,7,263,1023,2047] (.pure 0 (.pure 1 (.pure 2 (.pure 3 (.pure 4 (.pure 5 (.pure 6 (.pure 7 (.pure 8 (.pure 9 (.pure 10 (.pure 11 .done)))))))))))) mixed (by kernel_rfl) (qt (Bv x27) Z (Mv hs25_6) (qt (Bv (!x27)) Z (PO.not Z) (qt (Bv (!x27)) Z (Mv Z) ?_)))
 rcases Bi h with⟨hb40,h⟩ |⟨hb40,h⟩
 refine Tn v0 16 Z Z Z hb40 (Mv hs25_0) Z (Tn (Iv x28) 16 Z Z Z hb40 (Mv hs25_7) Z ?_)
 obtain ⟨hg41,h⟩:=grd_i h
 obtain ⟨p42,cs43,hat44,hrc45,hhas46⟩:=h0.at hg41.1 hg41.2 (by decide)
 obtain rfl:=kd_api_Broker_open hrc45
 refine Tn (.pointer (some p42)) 16 Z Z Z hb40 (PO.indexAddr (n:=a0.length) Tryz.underlying24 sz59 Z Z hg41.1 hg41.2 hat44) Z (Tn (.pointer (some (p42.add 0))) 16 Z Z Z hb40 (Fa fo59_0 Z Z) Z (Tn (Iv ((rd a0 x28).Id)) 16 Z Z Z hb40 (PO.loadM pl3 Z (IM.has0 hhas46)) Z (Tn (pt g21 0) 16 Z Z Z hb40 (Fa fo59_0 hs25_3 Z) Z (Tn (Iv a1.Id) 16 Z Z Z hb40 (Lb 0 pl3 Z Z Z) Z (Tn (Bv (decide (a1.Id≤((rd a0 x28).Id)))) 16 Z Z Z hb40 (PO.geq Z Z) Z (qt (Bv (decide (a1.Id≤((rd a0 x28).Id)))) Z (Pt Z hb40 Z) (Ti ?_)))))))
 obtain rfl:=oi h
 exact Tj ⟨lr,Z,hs25_0,hs25_3,hs25_5,hs25_6,hs25_7,Z⟩
 refine Tf 16 Z Z Z hb40 Z (Tf 16 Z Z Z hb40 Z (Tf 16 Z Z Z hb40 Z (Tf 16 Z Z Z hb40 Z (Tf 16 Z Z Z hb40 Z (Tf 16 Z Z Z hb40 Z (Tf 16 Z Z Z hb40 Z (Tf 16 Z Z Z hb40 Z (qt (Bv false) Z (Pf Z hb40 Z) (Ti ?_)))))))))
 obtain rfl:=oi h
 exact Tj ⟨lr,Z,hs25_0,hs25_3,hs25_5,hs25_6,hs25_7,Z⟩
 rintro ρ39 M39 H39 ⟨hle39,rfl,hs39_0,hs39_3,hs39_5,hs39_6,hs39_7,hs39_25⟩
 refine Ch h hs39_25 (fun hb48 h=> ?_) (fun hb48 h=> ?_)
 refine Sr (qM vx26 hs39_5 (qu (a59_ a1) (La (cs:=(l59 a1)) 0 ag59 sz59 hs39_3 Z Z) (We (EO.buildSliceL (cl:=(l59 a1)) Tryz.underlying24 iz59 Z (Pc (a59_ a1) Z Z Pz) Z) Z ?_)))
 rintro _ _ _ - ⟨rfl,g49,rfl,rfl⟩
 have h51:OwnS kd_api_Broker M39 (.slice (some ⟨g49,0,none⟩) 1 1) [a1] [(g49, .cells (l59 a1).toArray 59 (0,0))]:=OwnS.rows (css:=[(l59 a1)]) (Rows.cons (kd_api_Broker_mk (x:=a1)) Rows.nil) Z Z
 obtain ⟨hg55,h⟩:=grd_i h
 refine Wb ?_
 have hx26:=hx26.mono hle39
 refine We (EO.append (dd:=kd_api_Broker) (xs:=x26) (ys:=[a1]) Tryz.underlying24 Tryz.underlying24 in59 Z (appB (by decide) hg55) (by decide) Z Z hx26 (h51.src 1 Z)) Z ?_
 rintro v54 _ _ - ⟨rfl,c52,rfl,h53⟩
 refine qa v54 (Nt (Cg (qa (Bv true) (Wz (Qa (Dr (Qa ?_)))))))
 obtain rfl:=oi h
 exact Tj ⟨v54,c52,hle39,Z,hs39_0,hs39_3,Z,Z,hs39_7,h53⟩
 refine Ck ?_
 obtain rfl:=oi h
 refine Tj ?_
 have hx26:=hx26.mono hle39
 exact⟨vx26,cx26,hle39,Z,hs39_0,hs39_3,hs39_5,hs39_6,hs39_7,hx26⟩
 obtain ⟨x35,x36⟩:=j37
 rintro ρ37 M37 H37 ⟨vx35,cx35,hle37,rfl,hs37_0,hs37_3,hs37_5,hs37_6,hs37_7,hx35⟩
 refine Cs (WC.draw [0,0,3,7,15,0,32,127] (.pure 0 (.pure 1 (.pure 2 (.pure 3 (.pure 4 (.pure 5 (.pure 6 (.pure 7 .done)))))))) mixed (by kernel_rfl) (qt v0 Z (Mv hs37_0) (qt (Iv x28) Z (Mv hs37_7) ?_)))
 obtain ⟨hg56,h⟩:=grd_i h
 have h0:=h0.mono hle37
 obtain ⟨p57,cs58,hat59,hrc60,hhas61⟩:=h0.at hg56.1 hg56.2 (by decide)
 obtain rfl:=kd_api_Broker_open hrc60
 refine qt (.pointer (some p57)) Z (PO.indexAddr (n:=a0.length) Tryz.underlying24 sz59 Z Z hg56.1 hg56.2 hat59) (qt (.pointer (some (p57.add 0))) Z (Fa fo59_0 Z Z) (qt (Iv ((rd a0 x28).Id)) Z (PO.loadM pl3 Z (IM.has0 hhas61)) (qt (pt g21 0) Z (Fa fo59_0 hs37_3 Z) (qt (Iv a1.Id) Z (Lb 0 pl3 Z Z Z) (qt (Bv (decide (((rd a0 x28).Id)≠a1.Id))) Z (PO.neq Z Z) (Ti (Tc (Ch h Z (fun hb63 h=> ?_) (fun hb63 h=> ?_)))))))))
 refine Cg (qM vx35 hs37_5 (qM v0 hs37_0 (qM (Iv x28) hs37_7 ?_)))
 obtain ⟨hg64,h⟩:=grd_i h
 obtain ⟨p65,cs66,hat67,hrc68,hhas69⟩:=h0.at hg64.1 hg64.2 (by decide)
 obtain rfl:=kd_api_Broker_open hrc68
 refine qu (.pointer (some p65)) (PO.indexAddr (n:=a0.length) Tryz.underlying24 sz59 Z Z hg64.1 hg64.2 hat67) (qu (a59_ (rd a0 x28)) (PO.loadMA (cs:=(l59 (rd a0 x28))) ag59 sz59 Z hhas69) (We (EO.buildSliceL (cl:=(l59 (rd a0 x28))) Tryz.underlying24 iz59 Z (Pc (a59_ (rd a0 x28)) Z Z Pz) Z) Z ?_))
 rintro _ _ _ - ⟨rfl,g71,rfl,rfl⟩
 have h73:OwnS kd_api_Broker M37 (.slice (some ⟨g71,0,none⟩) 1 1) [(rd a0 x28)] [(g71, .cells (l59 (rd a0 x28)).toArray 59 (0,0))]:=OwnS.rows (css:=[(l59 (rd a0 x28))]) (Rows.cons (kd_api_Broker_mk (x:=(rd a0 x28))) Rows.nil) Z Z
 obtain ⟨hg77,h⟩:=grd_i h
 refine Wb (We (EO.append (dd:=kd_api_Broker) (xs:=x35) (ys:=[(rd a0 x28)]) Tryz.underlying24 Tryz.underlying24 in59 Z (appB (by decide) hg77) (by decide) Z Z hx35 (h73.src 1 Z)) Z ?_)
 rintro v76 _ _ - ⟨rfl,c74,rfl,h75⟩
 refine qa v76 (Wz (Bn (Qa (Dr (Qa ?_)))))
 obtain rfl:=oi h
 exact Tj ⟨v76,c74,hle37,Z,hs37_0,hs37_3,Z,hs37_6,hs37_7,h75⟩
 refine Ck (Bn ?_)
 obtain rfl:=oi h
 exact Tj ⟨vx35,cx35,hle37,Z,hs37_0,hs37_3,hs37_5,hs37_6,hs37_7,hx35⟩
 obtain ⟨x32,x33⟩:=j34
 rintro ρ34 M34 H34 ⟨vx32,cx32,hle34,rfl,hs34_0,hs34_3,hs34_5,hs34_6,hs34_7,hx32⟩
 exact Cg (qM (Iv x28) hs34_7 (qu (Iv (IntKind.i64.wrap (x28+1))) (PO.add Z Z) (qa (Iv (IntKind.i64.wrap (x28+1))) (Wz (WQ.again (x32,x33,IntKind.i64.wrap (x28+1)) (oi h).symm ⟨vx32,cx32,(hle25.trans hle34),Z,hs34_0,hs34_3,hs34_5,hs34_6,Z,hx32⟩)))))
 refine WC.exit (WQ.thenE (WQ.leaveE (x26,x27) (oi h).symm (fun heq25=> ?_)))
 subst heq25
 have h:=hK25
 refine WQ.blockH ?_
 obtain rfl:=oi h
 exact Tj ⟨vx26,cx26,hle25,Z,hs25_3,hs25_5,hs25_6,hx26⟩
 obtain ⟨x22,x23⟩:=j24
 rintro ρ24 M24 H24 ⟨vx22,cx22,hle24,rfl,hs24_3,hs24_5,hs24_6,hx22⟩
 obtain ⟨x79,hj80,h⟩:=bnd h
 refine Jf (fun(x79:(List T_api_Broker)) ρ' M' H'=>∃ vx79 cx79,M24.le M'∧[(g21, .cells (l59 a1).toArray 59 (0,0))]::cx79::F=H'∧ρ' 5=vx79∧OwnS kd_api_Broker M' vx79 x79 cx79) x79 ?_ ?_
 have h:=hj80
 refine Sr (qM (Bv x23) hs24_6 (qu (Bv (!x23)) (PO.not Z) (Nt (Ch h Z (fun hb81 h=> ?_) (fun hb81 h=> ?_)))))
 refine Cg (qM vx22 hs24_5 (qu (a59_ a1) (La (cs:=(l59 a1)) 0 ag59 sz59 hs24_3 Z Z) (We (EO.buildSliceL (cl:=(l59 a1)) Tryz.underlying24 iz59 Z (Pc (a59_ a1) Z Z Pz) Z) Z ?_)))
 rintro _ _ _ - ⟨rfl,g82,rfl,rfl⟩
 have h84:OwnS kd_api_Broker M24 (.slice (some ⟨g82,0,none⟩) 1 1) [a1] [(g82, .cells (l59 a1).toArray 59 (0,0))]:=OwnS.rows (css:=[(l59 a1)]) (Rows.cons (kd_api_Broker_mk (x:=a1)) Rows.nil) Z Z
 obtain ⟨hg88,h⟩:=grd_i h
 refine Wb (We (EO.append (dd:=kd_api_Broker) (xs:=x22) (ys:=[a1]) Tryz.underlying24 Tryz.underlying24 in59 Z (appB (by decide) hg88) (by decide) Z Z hx22 (h84.src 1 Z)) Z ?_)
 rintro v87 _ _ - ⟨rfl,c85,rfl,h86⟩
 refine qa v87 (Wz (Qa (Dr (Qa ?_))))
 obtain rfl:=oi h
 exact Tj ⟨v87,c85,lr,Z,Z,h86⟩
 refine Ck ?_
 obtain rfl:=oi h
 exact Tj ⟨vx22,cx22,lr,Z,hs24_5,hx22⟩
 rintro ρ80 M80 H80 ⟨vx79,cx79,hle80,rfl,hs80_5,hx79⟩
 exact Sr (qM vx79 hs80_5 (qa vx79 (Nt (Cr (Dr (Rf h [cx79] Z (Rs Z Z) (hle24.trans hle80) ⟨vx79,cx79,Z,Z,hx79⟩))))))
noncomputable def f_ref15_register (a0:T_api_Image) (a1:T_api_Record):Option (T_api_Image×Int):=
 ((f_ref15_Broker a0 a1.Broker).bind fun(r24,r25)=>(((if r25=true then(some (decide (a1.Epoch≤r24.Epoch)))else(some false)):Option Bool).bind fun x32=>(if x32=true then(some (a0,(11:Int)))else(((if r25=true then((f_ref15_Leads a0 a1.Broker).bind fun r39=>(some r39))else(some false)):Option Bool).bind fun x36=>(if x36=true then(some (a0,(10:Int)))else((f_ref15_putBroker a0.Brokers (⟨a1.Broker,a1.Epoch,a1.Rack,true,false⟩:T_api_Broker)).bind fun r46=>(some ((⟨r46,a0.Topics,a0.Configs,a0.Done,a0.Last⟩:T_api_Image),(0:Int)))))))))
def f_ref15_register_post (a0:T_api_Image) (a1:T_api_Record) (v0_0 v0_1 v0_2 v0_3 v1_14 v1_15 v1_16 v1_17:Value):(T_api_Image×Int)→Value→IM→HL→Prop:=
 fun(p_:(T_api_Image×Int)) (v:Value) (M':IM) (H':HL)=>match p_ with |(r0,r1)=>∃ vz0_0 vz0_1 vz0_2 vz0_3,(.tuple #[(.agg #[vz0_0,vz0_1,vz0_2,vz0_3,(.int .i64 r0.Last)]),(.int .i64 r1)])=v∧H'=[]∧RS kd_api_Broker M' vz0_0 r0.Brokers∧RS kd_api_Topic M' vz0_1 r0.Topics∧RS kd_api_Config M' vz0_2 r0.Configs∧RS kd_api_Done M' vz0_3 r0.Done
theorem f_ref15_register_ok (a0:T_api_Image) (a1:T_api_Record) (M:IM) (v0_0 v0_1 v0_2 v0_3 v1_14 v1_15 v1_16 v1_17:Value) (h0_0:RS kd_api_Broker M v0_0 a0.Brokers) (h0_1:RS kd_api_Topic M v0_1 a0.Topics) (h0_2:RS kd_api_Config M v0_2 a0.Configs) (h0_3:RS kd_api_Done M v0_3 a0.Done) (h1_14:RS (Kd.int .i64) M v1_14 a1.Ids) (h1_15:RS (Kd.int .i64) M v1_15 a1.Isr) (h1_16:RS (Kd.int .i64) M v1_16 a1.Add) (h1_17:RS (Kd.int .i64) M v1_17 a1.Drop) (res:(T_api_Image×Int)) (h:f_ref15_register a0 a1=some res):
 Tri Tryz.prog 41 #[(a29_ a0 v0_0 v0_1 v0_2 v0_3),(a45_ a1 v1_14 v1_15 v1_16 v1_17)] M [] (f_ref15_register_post a0 a1 v0_0 v0_1 v0_2 v0_3 v1_14 v1_15 v1_16 v1_17 res):=by
 unfold f_ref15_register at h
 refine Te Tryz.func41 Z Z ?_
 intro F ρ hρ
 refine Sr (We (EO.box (cs:=(l29 a0 v0_0 v0_1 v0_2 v0_3).toArray) (congrArg Value.cells (asE (a29_ a0 v0_0 v0_1 v0_2 v0_3) (hρ 0)))) Z ?_)
 rintro _ _ _ - ⟨rfl,g21,rfl,rfl⟩
 refine We (EO.box (cs:=(l45 a1 v1_14 v1_15 v1_16 v1_17).toArray) (congrArg Value.cells (asE (a45_ a1 v1_14 v1_15 v1_16 v1_17) (hρ 1)))) Z ?_
 rintro _ _ _ - ⟨rfl,g22,rfl,rfl⟩
 refine We (Al ze29 Z) Z ?_
 rintro _ _ _ - ⟨rfl,g23,rfl,rfl⟩
 refine qa (Iv 0) (Ns (qu (a29_ a0 v0_0 v0_1 v0_2 v0_3) (La (cs:=(l29 a0 v0_0 v0_1 v0_2 v0_3)) 2 ag29 sz29 Z Z Z) (qu (pt g22 1) (Fa fo45_1 Z Z) (qu (Iv a1.Broker) (Lb 1 pl3 Z Z Z) ?_))))
 obtain ⟨⟨r24,r25⟩,hr26,h⟩:=bnd h
 refine We (Ca co63 (f_ref15_Broker_ok a0 a1.Broker _ _ _ _ _ h0_0 h0_1 h0_2 h0_3 (r24,r25) hr26) (args2 Z Z)) Z ?_
 rintro _ M27 _ hle28 ⟨_,⟨rfl,rfl⟩,rfl⟩
 refine WL.a0 (qm (.tuple #[(a59_ r24),(Bv r25)]) (qu (a59_ r24) (Xt Z Z) (qu (Bv r25) (Xt Z Z) (We (Al ze59 Z) Z ?_))))
 rintro _ _ _ - ⟨rfl,g31,rfl,rfl⟩
 refine We (Sg (v:=(a59_ r24)) (vl:=(l59 r24)) (arr':=(l59 r24)) Z sz59 Z Z (onb Z) Z Z Z) Z ?_
 rintro _ _ _ - ⟨rfl,rfl⟩
 refine qa (Bv r25) (Nt (Cs ?_))
 obtain ⟨x32,hj33,h⟩:=bnd h
 refine Jf (fun(x32:Bool) ρ' M' H'=>M27.le M'∧[(g31, .cells (l59 r24).toArray 59 (0,0))]::[(g23, .cells z29_.toArray 29 (0,0))]::[(g22, .cells (l45 a1 v1_14 v1_15 v1_16 v1_17).toArray 45 (0,0))]::[(g21, .cells (l29 a0 v0_0 v0_1 v0_2 v0_3).toArray 29 (0,0))]::F=H'∧ρ' 2=(pt g21 0)∧ρ' 3=(pt g22 0)∧ρ' 4=(pt g23 0)∧ρ' 7=(Bv r25)∧ρ' 23=(Bv x32)) x32 ?_ ?_
 have h:=hj33
 refine Cg (qm (Bv r25) (qm (Bv r25) ?_))
 rcases Bi h with⟨hb34,h⟩ |⟨hb34,h⟩
 refine qo 17 hb34 (pt g31 1) (Fa fo59_1 Z Z) (qo 17 hb34 (Iv r24.Epoch) (Lb 0 pl3 Z Z Z) (qo 17 hb34 (pt g22 2) (Fa fo45_2 Z Z) (qo 17 hb34 (Iv a1.Epoch) (Lb 2 pl3 Z Z Z) (qo 17 hb34 (Bv (decide (a1.Epoch≤r24.Epoch))) (PO.geq Z Z) (qu (Bv (decide (a1.Epoch≤r24.Epoch))) (Pt Z hb34 Z) (Wz ?_))))))
 obtain rfl:=oi h
 exact Tj ⟨lr,Z,Z,Z,Z,Z,Z⟩
 iterate 5 refine Of 17 Z Z hb34 Z ?_
 refine qu (Bv false) (Pf Z hb34 Z) (Wz ?_)
 obtain rfl:=oi h
 exact Tj ⟨lr,Z,Z,Z,Z,Z,Z⟩
 rintro ρ33 M33 H33 ⟨hle33,rfl,hs33_2,hs33_3,hs33_4,hs33_7,hs33_23⟩
 have L33:=hle28.trans hle33
 refine Ch h hs33_23 (fun hb35 h=> ?_) (fun hb35 h=> ?_)
 refine Sr (qu (a29_ a0 v0_0 v0_1 v0_2 v0_3) (La (cs:=(l29 a0 v0_0 v0_1 v0_2 v0_3)) 3 ag29 sz29 hs33_2 Z Z) (WL.f1 ?_))
 have h0_0:=h0_0.mono L33
 have h0_1:=h0_1.mono L33
 have h0_2:=h0_2.mono L33
 have h0_3:=h0_3.mono L33
 refine We (Sg (v:=(a29_ a0 v0_0 v0_1 v0_2 v0_3)) (vl:=(l29 a0 v0_0 v0_1 v0_2 v0_3)) (arr':=(l29 a0 v0_0 v0_1 v0_2 v0_3)) Z sz29 hs33_4 Z (onesOf (Oc (RS.one h0_0) (Oc (RS.one h0_1) (Oc (RS.one h0_2) (Oc (RS.one h0_3) (Oc Z Oz)))))) Z Z Z) Z ?_
 rintro _ _ _ - ⟨rfl,rfl⟩
 exact qa (Iv 11) (Nt (Cr (Tr (Qa (Dr (Qa (Dr (Qa (Dr (Rd h [] (fun _ hs=>hs.drop) (resultsLN Z (RVs.cons (Rc (cs:=(l29 a0 v0_0 v0_1 v0_2 v0_3)) 0 ag29 sz29 hs33_4 Z Z) (RVs.cons (RV.tmp Z) RVs.nil))) L33 ⟨v0_0,v0_1,v0_2,v0_3,Z,Z,h0_0,h0_1,h0_2,h0_3⟩))))))))))
 refine Ck (Tc (Cs ?_))
 obtain ⟨x36,hj37,h⟩:=bnd h
 refine Jf (fun(x36:Bool) ρ' M' H'=>M33.le M'∧[(g31, .cells (l59 r24).toArray 59 (0,0))]::[(g23, .cells z29_.toArray 29 (0,0))]::[(g22, .cells (l45 a1 v1_14 v1_15 v1_16 v1_17).toArray 45 (0,0))]::[(g21, .cells (l29 a0 v0_0 v0_1 v0_2 v0_3).toArray 29 (0,0))]::F=H'∧ρ' 2=(pt g21 0)∧ρ' 3=(pt g22 0)∧ρ' 4=(pt g23 0)∧ρ' 31=(Bv x36)) x36 ?_ ?_
 have h:=hj37
 refine Cg (qM (Bv r25) hs33_7 (qm (Bv r25) ?_))
 rcases Bi h with⟨hb38,h⟩ |⟨hb38,h⟩
 refine qo 26 hb38 (a29_ a0 v0_0 v0_1 v0_2 v0_3) (La (cs:=(l29 a0 v0_0 v0_1 v0_2 v0_3)) 3 ag29 sz29 hs33_2 Z Z) (qo 26 hb38 (pt g22 1) (Fa fo45_1 hs33_3 Z) (qo 26 hb38 (Iv a1.Broker) (Lb 2 pl3 Z Z Z) (On 26 Z Z hb38 ?_)))
 obtain ⟨r39,hr40,h⟩:=bnd h
 have h0_0:=h0_0.mono L33
 have h0_1:=h0_1.mono L33
 have h0_2:=h0_2.mono L33
 have h0_3:=h0_3.mono L33
 refine We (Ca co64 (f_ref15_Leads_ok a0 a1.Broker _ _ _ _ _ h0_0 h0_1 h0_2 h0_3 r39 hr40) (args2 Z Z)) Z ?_
 rintro _ M41 _ hle42 ⟨_,⟨rfl,rfl⟩,rfl⟩
 refine WL.a0 (qu (Bv r39) (Pt Z hb38 Z) (Wz ?_))
 obtain rfl:=oi h
 exact Tj ⟨hle42,Z,hs33_2,hs33_3,hs33_4,Z⟩
 iterate 4 refine Of 26 Z Z hb38 Z ?_
 refine qu (Bv false) (Pf Z hb38 Z) (Wz ?_)
 obtain rfl:=oi h
 exact Tj ⟨lr,Z,hs33_2,hs33_3,hs33_4,Z⟩
 rintro ρ37 M37 H37 ⟨hle37,rfl,hs37_2,hs37_3,hs37_4,hs37_31⟩
 have L37:=L33.trans hle37
 refine Ch h hs37_31 (fun hb44 h=> ?_) (fun hb44 h=> ?_)
 refine Sr (qu (a29_ a0 v0_0 v0_1 v0_2 v0_3) (La (cs:=(l29 a0 v0_0 v0_1 v0_2 v0_3)) 3 ag29 sz29 hs37_2 Z Z) (WL.f1 ?_))
 have h0_0:=h0_0.mono L37
 have h0_1:=h0_1.mono L37
 have h0_2:=h0_2.mono L37
 have h0_3:=h0_3.mono L37
 refine We (Sg (v:=(a29_ a0 v0_0 v0_1 v0_2 v0_3)) (vl:=(l29 a0 v0_0 v0_1 v0_2 v0_3)) (arr':=(l29 a0 v0_0 v0_1 v0_2 v0_3)) Z sz29 hs37_4 Z (onesOf (Oc (RS.one h0_0) (Oc (RS.one h0_1) (Oc (RS.one h0_2) (Oc (RS.one h0_3) (Oc Z Oz)))))) Z Z Z) Z ?_
 rintro _ _ _ - ⟨rfl,rfl⟩
 exact qa (Iv 10) (Nt (Cr (Tr (Qa (Dr (Qa (Dr (Qa (Dr (Rd h [] (fun _ hs=>hs.drop) (resultsLN Z (RVs.cons (Rc (cs:=(l29 a0 v0_0 v0_1 v0_2 v0_3)) 0 ag29 sz29 hs37_4 Z Z) (RVs.cons (RV.tmp Z) RVs.nil))) L37 ⟨v0_0,v0_1,v0_2,v0_3,Z,Z,h0_0,h0_1,h0_2,h0_3⟩))))))))))
 refine Ck (Tc (Sr (qu (a29_ a0 v0_0 v0_1 v0_2 v0_3) (La (cs:=(l29 a0 v0_0 v0_1 v0_2 v0_3)) 3 ag29 sz29 hs37_2 Z Z) (We (Al ze29 Z) Z ?_))))
 rintro _ _ _ - ⟨rfl,g45,rfl,rfl⟩
 have h0_0:=h0_0.mono L37
 have h0_1:=h0_1.mono L37
 have h0_2:=h0_2.mono L37
 have h0_3:=h0_3.mono L37
 refine We (Sg (v:=(a29_ a0 v0_0 v0_1 v0_2 v0_3)) (vl:=(l29 a0 v0_0 v0_1 v0_2 v0_3)) (arr':=(l29 a0 v0_0 v0_1 v0_2 v0_3)) Z sz29 Z Z (onesOf (Oc (RS.one h0_0) (Oc (RS.one h0_1) (Oc (RS.one h0_2) (Oc (RS.one h0_3) (Oc Z Oz)))))) Z Z Z) Z ?_
 rintro _ _ _ - ⟨rfl,rfl⟩
 refine Ns (qu (pt g21 0) (Fa fo29_0 hs37_2 Z) (qu v0_0 (Lb 4 pl24 Z Z Z) (qu (pt g22 1) (Fa fo45_1 hs37_3 Z) (qu (Iv a1.Broker) (Lb 3 pl3 Z Z Z) (qu (pt g22 2) (Fa fo45_2 hs37_3 Z) (qu (Iv a1.Epoch) (Lb 3 pl3 Z Z Z) (qu (pt g22 13) (Fa fo45_13 hs37_3 Z) (qu (Sv a1.Rack) (Lb 3 pl9 Z Z Z) (qu (.agg #[(Iv a1.Broker),(Iv a1.Epoch),(Sv a1.Rack),(Bv true),(Bv false)]) (Bl (cl:=[(Iv a1.Broker),(Iv a1.Epoch),(Sv a1.Rack),(Bv true),(Bv false)]) ze59 fp59 (Pc (Iv a1.Broker) Z Z (Pc (Iv a1.Epoch) Z Z (Pc (Sv a1.Rack) Z Z (Pc (Bv true) Z Z Pz)))) Z) ?_)))))))))
 obtain ⟨r46,hr47,h⟩:=bnd h
 refine We (Ca co65 (f_ref15_putBroker_ok a0.Brokers (⟨a1.Broker,a1.Epoch,a1.Rack,true,false⟩:T_api_Broker) _ _ h0_0 r46 hr47) (args2 Z Z)) Z ?_
 rintro _ M48 _ hle49 ⟨_,⟨vq50,cq50,rfl,rfl,hq50⟩,rfl⟩
 refine WL.a1 (qu (pt g45 0) (Fa fo29_0 Z Z) (WL.f1 (We (Es vq50 ((l29 a0 vq50 v0_1 v0_2 v0_3)) hq50.cells sz24 Z Z (Ow hq50) Z Z Z) Z ?_)))
 rintro _ _ _ - ⟨rfl,rfl⟩
 refine Ns (qu (a29_ a0 vq50 v0_1 v0_2 v0_3) (La (cs:=(l29 a0 vq50 v0_1 v0_2 v0_3)) 0 ag29 sz29 Z Z Z) (WL.f3 ?_))
 have h0_1:=h0_1.mono hle49
 have h0_2:=h0_2.mono hle49
 have h0_3:=h0_3.mono hle49
 refine We (Sg (v:=(a29_ a0 vq50 v0_1 v0_2 v0_3)) (vl:=(l29 a0 vq50 v0_1 v0_2 v0_3)) (arr':=(l29 a0 vq50 v0_1 v0_2 v0_3)) Z sz29 hs37_4 Z (onesOf (Oc (Ow hq50) (Oc (RS.one h0_1) (Oc (RS.one h0_2) (Oc (RS.one h0_3) (Oc Z Oz)))))) Z Z Z) Z ?_
 rintro _ _ _ - ⟨rfl,rfl⟩
 refine qa (Iv 0) (Nt (Cr (Qb (WQ.know (fun _ hs=>hq50.rs hs) (fun hf52=> ?_)))))
 refine WQ.freeze (fun hle51=> ?_)
 refine Qa (Dr (Qa (Dr (Qa (Dr (Qa (Dr ?_)))))))
 have h0_1:=h0_1.mono hle51
 have h0_2:=h0_2.mono hle51
 have h0_3:=h0_3.mono hle51
 exact Rd h [] (fun _ hs=>hs.drop) (resultsLN Z (RVs.cons (Rc (cs:=(l29 a0 vq50 v0_1 v0_2 v0_3)) 0 ag29 sz29 hs37_4 Z Z) (RVs.cons (RV.tmp Z) RVs.nil))) ((L37.trans hle49).trans hle51) ⟨vq50,v0_1,v0_2,v0_3,Z,Z,hf52,h0_1,h0_2,h0_3⟩
noncomputable def f_ref15_Has_l0 (a0:(List Int)) (a1:Int) (s_:Int):Option (Int⊕(Unit⊕Unit)):=
 match s_ with
 |x23=>
 (if(decide (x23<(a0.length:Int)))=true then(grd (0≤x23∧x23<a0.length) (if(decide ((rd a0 x23)=a1))=true then(some (Sum.inr (Sum.inr ())))else(some (Sum.inl (IntKind.i64.wrap (x23+(1:Int)))))))else(some (Sum.inr (Sum.inl ()))))
noncomputable def f_ref15_Has (a0:(List Int)) (a1:Int):Option Bool:=
 ((((iter (f_ref15_Has_l0 a0 a1) (0:Int)).bind (Sum.elim (fun _=>(some (Sum.inl ()))) (fun _=>(((some true)).bind fun r=>some (Sum.inr r))))):Option (Unit⊕Bool)).bind (Sum.elim (fun _=>(some false)) some))
def f_ref15_Has_post (a0:(List Int)) (a1:Int) (v0:Value):Bool→Value→IM→HL→Prop:=
 fun(r0:Bool) (v:Value) (M':IM) (H':HL)=>(.bool r0)=v∧H'=[]
theorem f_ref15_Has_ok (a0:(List Int)) (a1:Int) (M:IM) (v0:Value) (h0:RS (Kd.int .i64) M v0 a0) (res:Bool) (h:f_ref15_Has a0 a1=some res):
 Tri Tryz.prog 84 #[v0,(Iv a1)] M [] (f_ref15_Has_post a0 a1 v0 res):=by
 unfold f_ref15_Has at h
 refine Te Tryz.func84 Z Z ?_
 intro F ρ hρ
 refine Sr (qa (Bv false) (Nt ?_))
 obtain ⟨j21,hj21,h⟩:=bnd h
 refine WC.joinE (fun(_:Unit) ρ' M' H'=>M.le M'∧F=H') j21 ?_ ?_
 have h321:=h
 have h:=hj21
 refine Sr (qa (Iv 0) (Nt (Bk ?_)))
 obtain ⟨e22,he22,hK22⟩:=bnd h
 clear h
 refine WC.loop he22 (fun(x23:Int) ρ' M' H'=>M.le M'∧F=H'∧ρ' 0=v0∧ρ' 1=(Iv a1)∧ρ' 5=(Iv x23)) ?_ ?_
 exact⟨lr,Z,(hρ 0),(hρ 1),Z⟩
 rintro x23 o22 ρ22 M22 H22 h ⟨hle22,rfl,hs22_0,hs22_1,hs22_5⟩
 unfold f_ref15_Has_l0 at h
 refine Cs (Sr (qM (Iv x23) hs22_5 (qM v0 hs22_0 ?_)))
 have h0:=h0.mono hle22
 refine qu (Iv (a0.length:Int)) (PO.lenS Tryz.underlying43 Z h0.len) (qu (Bv (decide (x23<(a0.length:Int)))) (PO.lss Z Z) (Nt (Ch h Z (fun hb24 h=> ?_) (fun hb24 h=> ?_))))
 refine Ck (Tc (Cs (Bk (Sr (qM v0 hs22_0 (qM (Iv x23) hs22_5 ?_))))))
 obtain ⟨hg25,h⟩:=grd_i h
 obtain ⟨p26,cs27,hat28,hrc29,hhas30⟩:=h0.at hg25.1 hg25.2 (by decide)
 obtain rfl:=hrc29
 refine qu (.pointer (some p26)) (PO.indexAddr (n:=a0.length) Tryz.underlying43 sz3 Z Z hg25.1 hg25.2 hat28) (qu (Iv (rd a0 x23)) (PO.loadM pl3 Z (IM.has0 hhas30)) (qM (Iv a1) hs22_1 (qu (Bv (decide ((rd a0 x23)=a1))) (PO.eql Z Z) (Nt (Ch h Z (fun hb32 h=> ?_) (fun hb32 h=> ?_))))))
 refine Sr (qa (Bv true) (Nt (Cr (Br (Tr (WQ.leaveR (Sum.inr ()) (oi h).symm (fun heq22=> ?_)))))))
 subst heq22
 have h:=(elimR hK22)
 refine Br (Tr ?_)
 have h:=KK.early h h321
 exact Rf h [] Z (Rs Z Z) hle22 ⟨Z,Z⟩
 exact Ck (Bn (Tc (Cg (qM (Iv x23) hs22_5 (qu (Iv (IntKind.i64.wrap (x23+1))) (PO.add Z Z) (qa (Iv (IntKind.i64.wrap (x23+1))) (Wz (WQ.again (IntKind.i64.wrap (x23+1)) (oi h).symm ⟨hle22,Z,hs22_0,hs22_1,Z⟩))))))))
 refine WC.exit (WQ.thenE (WQ.leaveE (Sum.inl ()) (oi h).symm (fun heq22=> ?_)))
 subst heq22
 have h:=elimL hK22
 exact WQ.blockH (WQ.thenFE h ⟨hle22,Z⟩)
 rintro _ ρ21 M21 H21 rfl ⟨hle21,rfl⟩
 have h:=(Sum.elim_inl _ _ _).symm.trans h
 exact Sr (qa (Bv false) (Nt (Cr (Rf h [] Z (Rs Z Z) hle21 ⟨Z,Z⟩))))

end Go.Proofs.YtpcbipcdfccnnaaGreat.G
