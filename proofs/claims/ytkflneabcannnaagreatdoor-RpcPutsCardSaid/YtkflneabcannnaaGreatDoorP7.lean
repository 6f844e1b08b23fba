/- Go functions: what they come to, and that they do. Printed by a program of the session (gen). -/
import Derived.Test.YtkflneabcannnaaGreatDoorPF
import Derived.Test.YtkflneabcannnaaGreatDoorP4
import Derived.Test.YtkflneabcannnaaGreatDoorP6
import Derived.Test.YtkflneabcannnaaGreatDoorKConv
import Derived.Test.YtkflneabcannnaaGreatDoorKShar2
import Derived.Test.YtkflneabcannnaaGreatDoorKTight2
set_option linter.unusedVariables false
set_option linter.unusedSimpArgs false
set_option maxHeartbeats 8000000
set_option maxRecDepth 100000
namespace Go.Proofs.YtkflneabcannnaaGreatDoor.G
open Go Go.KK

noncomputable def f_record_Same (a0:T_api_Record) (a1:T_api_Record):Option Bool:=
 ((((f_slices_Equal_int_int a0.Ids a1.Ids).bind fun r25=>(if(!r25)=true then(some true)else((f_slices_Equal_int_int a0.Isr a1.Isr).bind fun r31=>(if(!r31)=true then(some true)else((f_slices_Equal_int_int a0.Add a1.Add).bind fun r37=>(if(!r37)=true then(some true)else((f_slices_Equal_int_int a0.Drop a1.Drop).bind fun r43=>(some (!r43))))))))):Option Bool).bind fun x23=>(if x23=true then(some false)else((((f_record_Same_1 a0).bind fun r51=>((f_record_Same_1 a1).bind fun r56=>(if(andL [decide ((rd r51 (0:Int))=(rd r56 (0:Int))),decide ((rd r51 (1:Int))=(rd r56 (1:Int))),decide ((rd r51 (2:Int))=(rd r56 (2:Int))),decide ((rd r51 (3:Int))=(rd r56 (3:Int))),decide ((rd r51 (4:Int))=(rd r56 (4:Int))),decide ((rd r51 (5:Int))=(rd r56 (5:Int))),decide ((rd r51 (6:Int))=(rd r56 (6:Int))),decide ((rd r51 (7:Int))=(rd r56 (7:Int))),decide ((rd r51 (8:Int))=(rd r56 (8:Int)))])=true then((f_record_Same_2 a0).bind fun r62=>((f_record_Same_2 a1).bind fun r67=>(if(andL [(rd r62 (0:Int))==(rd r67 (0:Int)),(rd r62 (1:Int))==(rd r67 (1:Int)),(rd r62 (2:Int))==(rd r67 (2:Int)),(rd r62 (3:Int))==(rd r67 (3:Int))])=true then(some (a0.Flag==a1.Flag))else(some false))))else(some false)))):Option Bool).bind fun x49=>(some x49))))
def f_record_Same_post (a0:T_api_Record) (a1:T_api_Record) (v0_14 v0_15 v0_16 v0_17 v1_14 v1_15 v1_16 v1_17:Value):Bool→Value→IM→HL→Prop:=
 fun(r0:Bool) (v:Value) (M':IM) (H':HL)=>(.bool r0)=v∧H'=[]
theorem f_record_Same_ok (a0:T_api_Record) (a1:T_api_Record) (M:IM) (v0_14 v0_15 v0_16 v0_17 v1_14 v1_15 v1_16 v1_17:Value) (h0_14:RS (Kd.int .i64) M v0_14 a0.Ids) (h0_15:RS (Kd.int .i64) M v0_15 a0.Isr) (h0_16:RS (Kd.int .i64) M v0_16 a0.Add) (h0_17:RS (Kd.int .i64) M v0_17 a0.Drop) (h1_14:RS (Kd.int .i64) M v1_14 a1.Ids) (h1_15:RS (Kd.int .i64) M v1_15 a1.Isr) (h1_16:RS (Kd.int .i64) M v1_16 a1.Add) (h1_17:RS (Kd.int .i64) M v1_17 a1.Drop) (res:Bool) (h:f_record_Same a0 a1=some res):
 Tri Tryz.prog 79 #[(a58_ a0 v0_14 v0_15 v0_16 v0_17),(a58_ a1 v1_14 v1_15 v1_16 v1_17)] M [] (f_record_Same_post a0 a1 v0_14 v0_15 v0_16 v0_17 v1_14 v1_15 v1_16 v1_17 res):=by
 unfold f_record_Same at h
 refine Te Tryz.func79 Z Z ?_
 intro F ρ hρ
 refine Sr (We (EO.box (cs:=(l58 a0 v0_14 v0_15 v0_16 v0_17).toArray) (congrArg Value.cells (asE (a58_ a0 v0_14 v0_15 v0_16 v0_17) (hρ 0)))) Z ?_)
 rintro _ _ _ - ⟨rfl,g21,rfl,rfl⟩
 refine We (EO.box (cs:=(l58 a1 v1_14 v1_15 v1_16 v1_17).toArray) (congrArg Value.cells (asE (a58_ a1 v1_14 v1_15 v1_16 v1_17) (hρ 1)))) Z ?_
 rintro _ _ _ - ⟨rfl,g22,rfl,rfl⟩
 refine qa (Bv false) (Nt (Cs ?_))
 obtain ⟨x23,hj24,h⟩:=bnd h
 refine Jf (fun(x23:Bool) ρ' M' H'=>M.le M'∧[(g22, .cells (l58 a1 v1_14 v1_15 v1_16 v1_17).toArray 58 (0,0))]::[(g21, .cells (l58 a0 v0_14 v0_15 v0_16 v0_17).toArray 58 (0,0))]::F=H'∧ρ' 2=(pt g21 0)∧ρ' 3=(pt g22 0)∧ρ' 36=(Bv x23)) x23 ?_ ?_
 have h:=hj24
 refine Cg (qu (pt g21 14) (Fa fo58_14 Z Z) (qu v0_14 (Lb 1 pl56 Z Z Z) (qu (pt g22 14) (Fa fo58_14 Z Z) (qu v1_14 (Lb 0 pl56 Z Z Z) ?_))))
 obtain ⟨r25,hr26,h⟩:=bnd h
 refine We (Ca co118 (f_slices_Equal_int_int_ok a0.Ids a1.Ids _ _ _ h0_14 h1_14 r25 hr26) (args2 Z Z)) Z ?_
 rintro _ M27 _ hle28 ⟨_,⟨rfl,rfl⟩,rfl⟩
 refine WL.a0 (qu (Bv (!r25)) (PO.not Z) (qm (Bv (!r25)) ?_))
 rcases Bi h with⟨hb30,h⟩ |⟨hb30,h⟩
 iterate 6 refine Of 13 Z Z hb30 Z ?_
 refine qu (Bv true) (Pt Z hb30 Z) (qm (Bv true) ?_)
 iterate 6 refine Of 21 Z Z Z Z ?_
 refine qu (Bv true) (Pt Z Z Z) (qm (Bv true) ?_)
 iterate 6 refine Of 29 Z Z Z Z ?_
 refine qu (Bv true) (Pt Z Z Z) (Wz ?_)
 obtain rfl:=oi h
 exact Tj ⟨hle28,Z,Z,Z,Z⟩
 refine qo 13 hb30 (pt g21 15) (Fa fo58_15 Z Z) (qo 13 hb30 v0_15 (Lb 1 pl56 Z Z Z) (qo 13 hb30 (pt g22 15) (Fa fo58_15 Z Z) (qo 13 hb30 v1_15 (Lb 0 pl56 Z Z Z) (On 13 Z Z hb30 ?_))))
 obtain ⟨r31,hr32,h⟩:=bnd h
 have h0_15:=h0_15.mono hle28
 have h1_15:=h1_15.mono hle28
 refine We (Ca co118 (f_slices_Equal_int_int_ok a0.Isr a1.Isr _ _ _ h0_15 h1_15 r31 hr32) (args2 Z Z)) Z ?_
 rintro _ M33 _ hle34 ⟨_,⟨rfl,rfl⟩,rfl⟩
 have L34:=hle28.trans hle34
 refine WL.a0 (qo 13 hb30 (Bv (!r31)) (PO.not Z) (qu (Bv (!r31)) (Pf Z hb30 Z) (qm (Bv (!r31)) ?_)))
 rcases Bi h with⟨hb36,h⟩ |⟨hb36,h⟩
 iterate 6 refine Of 21 Z Z hb36 Z ?_
 refine qu (Bv true) (Pt Z hb36 Z) (qm (Bv true) ?_)
 iterate 6 refine Of 29 Z Z Z Z ?_
 refine qu (Bv true) (Pt Z Z Z) (Wz ?_)
 obtain rfl:=oi h
 exact Tj ⟨L34,Z,Z,Z,Z⟩
 refine qo 21 hb36 (pt g21 16) (Fa fo58_16 Z Z) (qo 21 hb36 v0_16 (Lb 1 pl56 Z Z Z) (qo 21 hb36 (pt g22 16) (Fa fo58_16 Z Z) (qo 21 hb36 v1_16 (Lb 0 pl56 Z Z Z) (On 21 Z Z hb36 ?_))))
 obtain ⟨r37,hr38,h⟩:=bnd h
 have h0_16:=h0_16.mono L34
 have h1_16:=h1_16.mono L34
 refine We (Ca co118 (f_slices_Equal_int_int_ok a0.Add a1.Add _ _ _ h0_16 h1_16 r37 hr38) (args2 Z Z)) Z ?_
 rintro _ M39 _ hle40 ⟨_,⟨rfl,rfl⟩,rfl⟩
 have L40:=L34.trans hle40
 refine WL.a0 (qo 21 hb36 (Bv (!r37)) (PO.not Z) (qu (Bv (!r37)) (Pf Z hb36 Z) (qm (Bv (!r37)) ?_)))
 rcases Bi h with⟨hb42,h⟩ |⟨hb42,h⟩
 iterate 6 refine Of 29 Z Z hb42 Z ?_
 refine qu (Bv true) (Pt Z hb42 Z) (Wz ?_)
 obtain rfl:=oi h
 exact Tj ⟨L40,Z,Z,Z,Z⟩
 refine qo 29 hb42 (pt g21 17) (Fa fo58_17 Z Z) (qo 29 hb42 v0_17 (Lb 1 pl56 Z Z Z) (qo 29 hb42 (pt g22 17) (Fa fo58_17 Z Z) (qo 29 hb42 v1_17 (Lb 0 pl56 Z Z Z) (On 29 Z Z hb42 ?_))))
 obtain ⟨r43,hr44,h⟩:=bnd h
 have h0_17:=h0_17.mono L40
 have h1_17:=h1_17.mono L40
 refine We (Ca co118 (f_slices_Equal_int_int_ok a0.Drop a1.Drop _ _ _ h0_17 h1_17 r43 hr44) (args2 Z Z)) Z ?_
 rintro _ M45 _ hle46 ⟨_,⟨rfl,rfl⟩,rfl⟩
 refine WL.a0 (qo 29 hb42 (Bv (!r43)) (PO.not Z) (qu (Bv (!r43)) (Pf Z hb42 Z) (Wz ?_)))
 obtain rfl:=oi h
 exact Tj ⟨(L40.trans hle46),Z,Z,Z,Z⟩
 rintro ρ24 M24 H24 ⟨hle24,rfl,hs24_2,hs24_3,hs24_36⟩
 refine Ch h hs24_36 (fun hb48 h=> ?_) (fun hb48 h=> ?_)
 exact Sr (qa (Bv false) (Nt (Cr (Tr (Dr (Dr (Rf h [] Z (Rs Z Z) hle24 ⟨Z,Z⟩)))))))
 refine Ck (Tc (Sr (qa (.func (.func 119) #[] #[]) (Ns (qa (.func (.func 120) #[] #[]) (Nt ?_))))))
 obtain ⟨x49,hj50,h⟩:=bnd h
 refine Jf (fun(x49:Bool) ρ' M' H'=>M24.le M'∧[(g22, .cells (l58 a1 v1_14 v1_15 v1_16 v1_17).toArray 58 (0,0))]::[(g21, .cells (l58 a0 v0_14 v0_15 v0_16 v0_17).toArray 58 (0,0))]::F=H'∧ρ' 4=(Bv x49)) x49 ?_ ?_
 have h:=hj50
 refine WC.draw [0,0,3,0,0,31,63,127,255,255,1023,255,255,8191,16383,32767,65535,131071,262143,131071,655359,2097151,4194303,8388607] (.pure 0 (.pure 1 (.pure 3 (.pure 4 (.alt 2 (.alt 5 (.pure 6 (.pure 7 (.pure 8 (.pure 9 (.pure 11 (.pure 12 (.alt 10 (.alt 13 (.pure 14 (.pure 15 (.pure 16 (.pure 17 (.pure 18 (.pure 19 (.pure 20 (.pure 21 (.pure 22 (.pure 23 .done)))))))))) .none) .none))))))) .none) .none))))) mixed (by kernel_rfl) (qt (.func (.func 119) #[] #[]) Z (Mv Z) (qt (a58_ a0 v0_14 v0_15 v0_16 v0_17) Z (La (cs:=(l58 a0 v0_14 v0_15 v0_16 v0_17)) 1 ag58 sz58 hs24_2 Z Z) (qt (.func (.func 119) #[] #[]) Z (Mv Z) (qt (a58_ a1 v1_14 v1_15 v1_16 v1_17) Z (La (cs:=(l58 a1 v1_14 v1_15 v1_16 v1_17)) 0 ag58 sz58 hs24_3 Z Z) ?_))))
 obtain ⟨r51,hr52,h⟩:=bnd h
 have h0_14:=h0_14.mono hle24
 have h0_15:=h0_15.mono hle24
 have h0_16:=h0_16.mono hle24
 have h0_17:=h0_17.mono hle24
 refine Ta Z (EO.callV0 (first:=#[]) (cap:=#[]) co119 Z (f_record_Same_1_ok a0 _ _ _ _ _ h0_14 h0_15 h0_16 h0_17 r51 hr52) (argsV1 Z Z)) Z ?_ ?_
 rintro _ M53 _ hle54 ⟨_,⟨rfl,rfl⟩,rfl⟩
 refine⟨(Ss Z (La (cs:=(l58 a1 v1_14 v1_15 v1_16 v1_17)) 0 ag58 sz58 hs24_3 Z Z) Z (Ss Z (Mv Z) Z (Sl Z))), ?_⟩
 refine WT.a0 ?_
 obtain ⟨r56,hr57,h⟩:=bnd h
 have h1_14:=h1_14.mono (hle24.trans hle54)
 have h1_15:=h1_15.mono (hle24.trans hle54)
 have h1_16:=h1_16.mono (hle24.trans hle54)
 have h1_17:=h1_17.mono (hle24.trans hle54)
 refine Ta Z (EO.callV0 (first:=#[]) (cap:=#[]) co119 Z (f_record_Same_1_ok a1 _ _ _ _ _ h1_14 h1_15 h1_16 h1_17 r56 hr57) (argsV1 Z Z)) Z ?_ ?_
 rintro _ M58 _ hle59 ⟨_,⟨rfl,rfl⟩,rfl⟩
 have L59:=hle54.trans hle59
 refine⟨(Sl Z), ?_⟩
 refine WT.a0 (qt (Bv (andL [decide ((rd r51 (0:Int))=(rd r56 (0:Int))),decide ((rd r51 (1:Int))=(rd r56 (1:Int))),decide ((rd r51 (2:Int))=(rd r56 (2:Int))),decide ((rd r51 (3:Int))=(rd r56 (3:Int))),decide ((rd r51 (4:Int))=(rd r56 (4:Int))),decide ((rd r51 (5:Int))=(rd r56 (5:Int))),decide ((rd r51 (6:Int))=(rd r56 (6:Int))),decide ((rd r51 (7:Int))=(rd r56 (7:Int))),decide ((rd r51 (8:Int))=(rd r56 (8:Int)))])) Z (PO.eqAgg eg164 Z Z (run_equal_array Tryz.underlying164 pl3 sz3 (EqIs.cons Z Z (EqC.int Tryz.underlying3) (EqIs.cons Z Z (EqC.int Tryz.underlying3) (EqIs.cons Z Z (EqC.int Tryz.underlying3) (EqIs.cons Z Z (EqC.int Tryz.underlying3) (EqIs.cons Z Z (EqC.int Tryz.underlying3) (EqIs.cons Z Z (EqC.int Tryz.underlying3) (EqIs.cons Z Z (EqC.int Tryz.underlying3) (EqIs.cons Z Z (EqC.int Tryz.underlying3) (EqIs.cons Z Z (EqC.int Tryz.underlying3) EqIs.nil))))))))))) (qt (Bv (andL [decide ((rd r51 (0:Int))=(rd r56 (0:Int))),decide ((rd r51 (1:Int))=(rd r56 (1:Int))),decide ((rd r51 (2:Int))=(rd r56 (2:Int))),decide ((rd r51 (3:Int))=(rd r56 (3:Int))),decide ((rd r51 (4:Int))=(rd r56 (4:Int))),decide ((rd r51 (5:Int))=(rd r56 (5:Int))),decide ((rd r51 (6:Int))=(rd r56 (6:Int))),decide ((rd r51 (7:Int))=(rd r56 (7:Int))),decide ((rd r51 (8:Int))=(rd r56 (8:Int)))])) Z (Mv Z) ?_))
 rcases Bi h with⟨hb61,h⟩ |⟨hb61,h⟩
 refine Tn (.func (.func 120) #[] #[]) 44 Z Z Z hb61 (Mv Z) Z (Tn (a58_ a0 v0_14 v0_15 v0_16 v0_17) 44 Z Z Z hb61 (La (cs:=(l58 a0 v0_14 v0_15 v0_16 v0_17)) 1 ag58 sz58 hs24_2 Z Z) Z (Tn (.func (.func 120) #[] #[]) 44 Z Z Z hb61 (Mv Z) Z (Tn (a58_ a1 v1_14 v1_15 v1_16 v1_17) 44 Z Z Z hb61 (La (cs:=(l58 a1 v1_14 v1_15 v1_16 v1_17)) 0 ag58 sz58 hs24_3 Z Z) Z ?_)))
 obtain ⟨r62,hr63,h⟩:=bnd h
 have h0_14:=h0_14.mono L59
 have h0_15:=h0_15.mono L59
 have h0_16:=h0_16.mono L59
 have h0_17:=h0_17.mono L59
 refine WT.altOn 44 Z Z Z hb61 (EO.callV0 (first:=#[]) (cap:=#[]) co120 Z (f_record_Same_2_ok a0 _ _ _ _ _ h0_14 h0_15 h0_16 h0_17 r62 hr63) (argsV1 Z Z)) Z ?_ ?_
 rintro _ M64 _ hle65 ⟨_,⟨rfl,rfl⟩,rfl⟩
 refine⟨(St (StabA.on 44 Z Z Z hb61 (La (cs:=(l58 a1 v1_14 v1_15 v1_16 v1_17)) 0 ag58 sz58 hs24_3 Z Z) Z) (St (StabA.on 44 Z Z Z hb61 (Mv Z) Z) (Sl Z))), ?_⟩
 refine WT.a0 ?_
 obtain ⟨r67,hr68,h⟩:=bnd h
 have h1_14:=h1_14.mono (hle59.trans hle65)
 have h1_15:=h1_15.mono (hle59.trans hle65)
 have h1_16:=h1_16.mono (hle59.trans hle65)
 have h1_17:=h1_17.mono (hle59.trans hle65)
 refine WT.altOn 44 Z Z Z hb61 (EO.callV0 (first:=#[]) (cap:=#[]) co120 Z (f_record_Same_2_ok a1 _ _ _ _ _ h1_14 h1_15 h1_16 h1_17 r67 hr68) (argsV1 Z Z)) Z ?_ ?_
 rintro _ M69 _ hle70 ⟨_,⟨rfl,rfl⟩,rfl⟩
 refine⟨(Sl Z), ?_⟩
 refine WT.a0 (Tn (Bv (andL [(rd r62 (0:Int))==(rd r67 (0:Int)),(rd r62 (1:Int))==(rd r67 (1:Int)),(rd r62 (2:Int))==(rd r67 (2:Int)),(rd r62 (3:Int))==(rd r67 (3:Int))])) 44 Z Z Z hb61 (PO.eqAgg eg166 Z Z (run_equal_array Tryz.underlying166 pl9 sz9 (EqIs.cons Z Z (EqC.str Tryz.underlying9) (EqIs.cons Z Z (EqC.str Tryz.underlying9) (EqIs.cons Z Z (EqC.str Tryz.underlying9) (EqIs.cons Z Z (EqC.str Tryz.underlying9) EqIs.nil)))))) Z (qt (Bv (andL [(rd r62 (0:Int))==(rd r67 (0:Int)),(rd r62 (1:Int))==(rd r67 (1:Int)),(rd r62 (2:Int))==(rd r67 (2:Int)),(rd r62 (3:Int))==(rd r67 (3:Int))])) Z (Pt Z hb61 Z) (qt (Bv (andL [(rd r62 (0:Int))==(rd r67 (0:Int)),(rd r62 (1:Int))==(rd r67 (1:Int)),(rd r62 (2:Int))==(rd r67 (2:Int)),(rd r62 (3:Int))==(rd r67 (3:Int))])) Z (Mv Z) ?_)))
 rcases Bi h with⟨hb72,h⟩ |⟨hb72,h⟩
 refine Tn (pt g21 9) 53 Z Z Z hb72 (Fa fo58_9 hs24_2 Z) Z (Tn (Bv a0.Flag) 53 Z Z Z hb72 (Lb 1 pl4 Z Z Z) Z (Tn (pt g22 9) 53 Z Z Z hb72 (Fa fo58_9 hs24_3 Z) Z (Tn (Bv a1.Flag) 53 Z Z Z hb72 (Lb 0 pl4 Z Z Z) Z (Tn (Bv (a0.Flag==a1.Flag)) 53 Z Z Z hb72 (PO.beql Tryz.underlying4 Z Z) Z (qt (Bv (a0.Flag==a1.Flag)) Z (Pt Z hb72 Z) (qt (Bv (a0.Flag==a1.Flag)) Z (Ag Z) (Ti ?_)))))))
 obtain rfl:=oi h
 exact Tj ⟨((L59.trans hle65).trans hle70),Z,Z⟩
 refine Tf 53 Z Z Z hb72 Z (Tf 53 Z Z Z hb72 Z (Tf 53 Z Z Z hb72 Z (Tf 53 Z Z Z hb72 Z (Tf 53 Z Z Z hb72 Z (qt (Bv false) Z (Pf Z hb72 Z) (qt (Bv false) Z (Ag Z) (Ti ?_)))))))
 obtain rfl:=oi h
 exact Tj ⟨((L59.trans hle65).trans hle70),Z,Z⟩
 exact Tz
 exact Tz
 refine Tf 44 Z Z Z hb61 Z (Tf 44 Z Z Z hb61 Z (Tf 44 Z Z Z hb61 Z (Tf 44 Z Z Z hb61 Z (Tg 44 Z Z Z hb61 Z ⟨(St (Sf 44 Z Z Z hb61 Z) (St (Sf 44 Z Z Z hb61 Z) (Sl Z))), ?_⟩ ?_))))
 refine Tg 44 Z Z Z hb61 Z ⟨(Sl Z), ?_⟩ ?_
 refine Tf 44 Z Z Z hb61 Z (qt (Bv false) Z (Pf Z hb61 Z) (qt (Bv false) Z (Mv Z) (Tf 53 Z Z Z Z Z (Tf 53 Z Z Z Z Z (Tf 53 Z Z Z Z Z (Tf 53 Z Z Z Z Z (Tf 53 Z Z Z Z Z (qt (Bv false) Z (Pf Z Z Z) (qt (Bv false) Z (Ag Z) (Ti ?_))))))))))
 obtain rfl:=oi h
 exact Tj ⟨L59,Z,Z⟩
 exact Tz
 exact Tz
 exact Tz
 exact Tz
 rintro ρ50 M50 H50 ⟨hle50,rfl,hs50_4⟩
 exact Cr (Dr (Dr (Rf h [] Z (Rs Z hs50_4) (hle24.trans hle50) ⟨Z,Z⟩)))
noncomputable def f_slices_EqualFunc_api_Record_api_Record_api_Record_api_Record_79_l0 (a0:(List T_api_Record)) (a1:(List T_api_Record)) (s_:Int):Option (Int⊕(Unit⊕Unit)):=
 match s_ with
 |x24=>
 (if(decide (x24<(a0.length:Int)))=true then(grd (0≤x24∧x24<a0.length) (grd (0≤x24∧x24<a1.length) ((f_record_Same (rd a0 x24) (rd a1 x24)).bind fun r42=>(if(!r42)=true then(some (Sum.inr (Sum.inr ())))else(some (Sum.inl (IntKind.i64.wrap (x24+(1:Int)))))))))else(some (Sum.inr (Sum.inl ()))))
noncomputable def f_slices_EqualFunc_api_Record_api_Record_api_Record_api_Record_79 (a0:(List T_api_Record)) (a1:(List T_api_Record)):Option Bool:=
 (if(decide ((a0.length:Int)≠(a1.length:Int)))=true then(some false)else((((iter (f_slices_EqualFunc_api_Record_api_Record_api_Record_api_Record_79_l0 a0 a1) (0:Int)).bind (Sum.elim (fun _=>(some (Sum.inl ()))) (fun _=>(((some false)).bind fun r=>some (Sum.inr r))))):Option (Unit⊕Bool)).bind (Sum.elim (fun _=>(some true)) some)))
def f_slices_EqualFunc_api_Record_api_Record_api_Record_api_Record_79_post (a0:(List T_api_Record)) (a1:(List T_api_Record)) (v0 v1:Value):Bool→Value→IM→HL→Prop:=
 fun(r0:Bool) (v:Value) (M':IM) (H':HL)=>(.bool r0)=v∧H'=[]
theorem f_slices_EqualFunc_api_Record_api_Record_api_Record_api_Record_79_ok (a0:(List T_api_Record)) (a1:(List T_api_Record)) (M:IM) (v0 v1:Value) (h0:RS kd_api_Record M v0 a0) (h1:RS kd_api_Record M v1 a1) (res:Bool) (h:f_slices_EqualFunc_api_Record_api_Record_api_Record_api_Record_79 a0 a1=some res):
 Tri Tryz.prog 78 #[v0,v1,(.func (.func 79) #[] #[])] M [] (f_slices_EqualFunc_api_Record_api_Record_api_Record_api_Record_79_post a0 a1 v0 v1 res):=by
 unfold f_slices_EqualFunc_api_Record_api_Record_api_Record_api_Record_79 at h
 refine Te Tryz.func78 Z Z ?_
 intro F ρ hρ
 refine Sr (qa (Bv false) (Nt (Cs (Sr (qM v0 (hρ 0) (qu (Iv (a0.length:Int)) (PO.lenS Tryz.underlying53 Z h0.len) (qM v1 (hρ 1) (qu (Iv (a1.length:Int)) (PO.lenS Tryz.underlying53 Z h1.len) (qu (Bv (decide ((a0.length:Int)≠(a1.length:Int)))) (PO.neq Z Z) (Nt (Ch h Z (fun hb21 h=> ?_) (fun hb21 h=> ?_))))))))))))
 exact Sr (qa (Bv false) (Nt (Cr (Tr (Rf h [] Z (Rs Z Z) lr ⟨Z,Z⟩)))))
 refine Ck (Tc ?_)
 obtain ⟨j22,hj22,h⟩:=bnd h
 refine WC.joinE (fun(_:Unit) ρ' M' H'=>M.le M'∧F=H') j22 ?_ ?_
 have h322:=h
 have h:=hj22
 refine Sr (qM v0 (hρ 0) (qu (Iv (a0.length:Int)) (PO.lenS Tryz.underlying53 Z h0.len) (qm (Iv 0) (Nt (Bk ?_)))))
 obtain ⟨e23,he23,hK23⟩:=bnd h
 clear h
 refine WC.loop he23 (fun(x24:Int) ρ' M' H'=>M.le M'∧F=H'∧ρ' 1=v1∧ρ' 2=(.func (.func 79) #[] #[])∧ρ' 15=v0∧ρ' 16=(Iv (a0.length:Int))∧ρ' 17=(Iv x24)) ?_ ?_
 exact⟨lr,Z,(hρ 1),(hρ 2),Z,Z,Z⟩
 rintro x24 o23 ρ23 M23 H23 h ⟨hle23,rfl,hs23_1,hs23_2,hs23_15,hs23_16,hs23_17⟩
 unfold f_slices_EqualFunc_api_Record_api_Record_api_Record_api_Record_79_l0 at h
 refine Sr (qu (Bv (decide (x24<(a0.length:Int)))) (PO.lss hs23_17 hs23_16) (Nt (Cs (Ch h Z (fun hb25 h=> ?_) (fun hb25 h=> ?_)))))
 refine Ck (Tc (Cs (Bk (Sr (qM (Iv x24) hs23_17 ?_)))))
 obtain ⟨hg26,h⟩:=grd_i h
 have h0:=h0.mono hle23
 obtain ⟨p27,cs28,hat29,hrc30,hhas31⟩:=h0.at hg26.1 hg26.2 (by decide)
 obtain ⟨vw32_14,vw32_15,vw32_16,vw32_17,rfl,hw32_14,hw32_15,hw32_16,hw32_17⟩:=kd_api_Record_open hrc30
 refine qu (.pointer (some p27)) (PO.indexAddr (n:=a0.length) Tryz.underlying53 sz58 hs23_15 hs23_17 hg26.1 hg26.2 hat29) (qu (a58_ (rd a0 x24) vw32_14 vw32_15 vw32_16 vw32_17) (PO.loadMA (cs:=(l58 (rd a0 x24) vw32_14 vw32_15 vw32_16 vw32_17)) ag58 sz58 Z hhas31) (We (Al ze58 Z) Z ?_))
 rintro _ _ _ - ⟨rfl,g33,rfl,rfl⟩
 refine qa (Iv x24) (We (Sg (v:=(a58_ (rd a0 x24) vw32_14 vw32_15 vw32_16 vw32_17)) (vl:=(l58 (rd a0 x24) vw32_14 vw32_15 vw32_16 vw32_17)) (arr':=(l58 (rd a0 x24) vw32_14 vw32_15 vw32_16 vw32_17)) Z sz58 Z Z (onesOf (Oc Z (Oc Z (Oc Z (Oc Z (Oc Z (Oc Z (Oc Z (Oc Z (Oc Z (Oc Z (Oc Z (Oc Z (Oc Z (Oc Z (Oc (RS.one hw32_14) (Oc (RS.one hw32_15) (Oc (RS.one hw32_16) (Oc (RS.one hw32_17) Oz))))))))))))))))))) Z Z (by kernel_rfl)) Z ?_)
 rintro _ _ _ - ⟨rfl,rfl⟩
 refine Ns (qM v1 hs23_1 (qm (Iv x24) ?_))
 obtain ⟨hg34,h⟩:=grd_i h
 have h1:=h1.mono hle23
 obtain ⟨p35,cs36,hat37,hrc38,hhas39⟩:=h1.at hg34.1 hg34.2 (by decide)
 obtain ⟨vw40_14,vw40_15,vw40_16,vw40_17,rfl,hw40_14,hw40_15,hw40_16,hw40_17⟩:=kd_api_Record_open hrc38
 refine qu (.pointer (some p35)) (PO.indexAddr (n:=a1.length) Tryz.underlying53 sz58 Z Z hg34.1 hg34.2 hat37) (qu (a58_ (rd a1 x24) vw40_14 vw40_15 vw40_16 vw40_17) (PO.loadMA (cs:=(l58 (rd a1 x24) vw40_14 vw40_15 vw40_16 vw40_17)) ag58 sz58 Z hhas39) (We (Al ze58 Z) Z ?_))
 rintro _ _ _ - ⟨rfl,g41,rfl,rfl⟩
 refine We (Sg (v:=(a58_ (rd a1 x24) vw40_14 vw40_15 vw40_16 vw40_17)) (vl:=(l58 (rd a1 x24) vw40_14 vw40_15 vw40_16 vw40_17)) (arr':=(l58 (rd a1 x24) vw40_14 vw40_15 vw40_16 vw40_17)) Z sz58 Z Z (onesOf (Oc Z (Oc Z (Oc Z (Oc Z (Oc Z (Oc Z (Oc Z (Oc Z (Oc Z (Oc Z (Oc Z (Oc Z (Oc Z (Oc Z (Oc (RS.one hw40_14) (Oc (RS.one hw40_15) (Oc (RS.one hw40_16) (Oc (RS.one hw40_17) Oz))))))))))))))))))) Z Z (by kernel_rfl)) Z ?_
 rintro _ _ _ - ⟨rfl,rfl⟩
 refine Ns (qM (.func (.func 79) #[] #[]) hs23_2 (qu (a58_ (rd a0 x24) vw32_14 vw32_15 vw32_16 vw32_17) (La (cs:=(l58 (rd a0 x24) vw32_14 vw32_15 vw32_16 vw32_17)) 1 ag58 sz58 Z Z Z) (qu (a58_ (rd a1 x24) vw40_14 vw40_15 vw40_16 vw40_17) (La (cs:=(l58 (rd a1 x24) vw40_14 vw40_15 vw40_16 vw40_17)) 0 ag58 sz58 Z Z Z) ?_)))
 obtain ⟨r42,hr43,h⟩:=bnd h
 refine We (EO.callV0 (first:=#[]) (cap:=#[]) co79 Z (f_record_Same_ok (rd a0 x24) (rd a1 x24) _ _ _ _ _ _ _ _ _ hw32_14 hw32_15 hw32_16 hw32_17 hw40_14 hw40_15 hw40_16 hw40_17 r42 hr43) (argsV2 Z Z Z)) Z ?_
 rintro _ M44 _ hle45 ⟨_,⟨rfl,rfl⟩,rfl⟩
 refine WL.a0 (qu (Bv (!r42)) (PO.not Z) (Nt (Ch h Z (fun hb47 h=> ?_) (fun hb47 h=> ?_))))
 refine Sr (qa (Bv false) (Nt (Cr (Br (Tr (WQ.leaveR (Sum.inr ()) (oi h).symm (fun heq23=> ?_)))))))
 subst heq23
 have h:=(elimR hK23)
 refine Br (Tr ?_)
 have h:=KK.early h h322
 exact Dr (Dr (Rf h [] Z (Rs Z Z) (hle23.trans hle45) ⟨Z,Z⟩))
 exact Ck (Bn (Tc (Cg (qu (Iv (IntKind.i64.wrap (x24+1))) (PO.add hs23_17 Z) (qm (Iv (IntKind.i64.wrap (x24+1))) (Wz (Dr (Dr (WQ.again (IntKind.i64.wrap (x24+1)) (oi h).symm ⟨(hle23.trans hle45),Z,hs23_1,hs23_2,hs23_15,hs23_16,Z⟩)))))))))
 refine WC.exit (WQ.thenE (WQ.leaveE (Sum.inl ()) (oi h).symm (fun heq23=> ?_)))
 subst heq23
 have h:=elimL hK23
 exact WQ.blockH (WQ.thenFE h ⟨hle23,Z⟩)
 rintro _ ρ22 M22 H22 rfl ⟨hle22,rfl⟩
 have h:=(Sum.elim_inl _ _ _).symm.trans h
 exact Sr (qa (Bv true) (Nt (Cr (Rf h [] Z (Rs Z Z) hle22 ⟨Z,Z⟩))))
noncomputable def f_batch_Same (a0:T_api_Batch) (a1:T_api_Batch):Option Bool:=
 (((if(decide (a0.Term=a1.Term))=true then(if(decide (a0.Base=a1.Base))=true then((f_slices_EqualFunc_api_Record_api_Record_api_Record_api_Record_79 a0.Records a1.Records).bind fun r27=>(some r27))else(some false))else(some false)):Option Bool).bind fun x23=>(some x23))
def f_batch_Same_post (a0:T_api_Batch) (a1:T_api_Batch) (v0_2 v1_2:Value):Bool→Value→IM→HL→Prop:=
 fun(r0:Bool) (v:Value) (M':IM) (H':HL)=>(.bool r0)=v∧H'=[]
theorem f_batch_Same_ok (a0:T_api_Batch) (a1:T_api_Batch) (M:IM) (v0_2 v1_2:Value) (h0_2:RS kd_api_Record M v0_2 a0.Records) (h1_2:RS kd_api_Record M v1_2 a1.Records) (res:Bool) (h:f_batch_Same a0 a1=some res):
 Tri Tryz.prog 53 #[(a55_ a0 v0_2),(a55_ a1 v1_2)] M [] (f_batch_Same_post a0 a1 v0_2 v1_2 res):=by
 unfold f_batch_Same at h
 refine Te Tryz.func53 Z Z ?_
 intro F ρ hρ
 refine Sr (We (EO.box (cs:=(l55 a0 v0_2).toArray) (congrArg Value.cells (asE (a55_ a0 v0_2) (hρ 0)))) Z ?_)
 rintro _ _ _ - ⟨rfl,g21,rfl,rfl⟩
 refine We (EO.box (cs:=(l55 a1 v1_2).toArray) (congrArg Value.cells (asE (a55_ a1 v1_2) (hρ 1)))) Z ?_
 rintro _ _ _ - ⟨rfl,g22,rfl,rfl⟩
 refine qa (Bv false) (Nt ?_)
 obtain ⟨x23,hj24,h⟩:=bnd h
 refine Jf (fun(x23:Bool) ρ' M' H'=>M.le M'∧[(g22, .cells (l55 a1 v1_2).toArray 55 (0,0))]::[(g21, .cells (l55 a0 v0_2).toArray 55 (0,0))]::F=H'∧ρ' 4=(Bv x23)) x23 ?_ ?_
 have h:=hj24
 refine Cg (qu (pt g21 0) (Fa fo55_0 Z Z) (qu (Iv a0.Term) (Lb 1 pl3 Z Z Z) (qu (pt g22 0) (Fa fo55_0 Z Z) (qu (Iv a1.Term) (Lb 0 pl3 Z Z Z) (qu (Bv (decide (a0.Term=a1.Term))) (PO.eql Z Z) (qm (Bv (decide (a0.Term=a1.Term))) ?_))))))
 rcases Bi h with⟨hb25,h⟩ |⟨hb25,h⟩
 refine qo 10 hb25 (pt g21 1) (Fa fo55_1 Z Z) (qo 10 hb25 (Iv a0.Base) (Lb 1 pl3 Z Z Z) (qo 10 hb25 (pt g22 1) (Fa fo55_1 Z Z) (qo 10 hb25 (Iv a1.Base) (Lb 0 pl3 Z Z Z) (qo 10 hb25 (Bv (decide (a0.Base=a1.Base))) (PO.eql Z Z) (qu (Bv (decide (a0.Base=a1.Base))) (Pt Z hb25 Z) (qm (Bv (decide (a0.Base=a1.Base))) ?_))))))
 rcases Bi h with⟨hb26,h⟩ |⟨hb26,h⟩
 refine qo 17 hb26 (pt g21 2) (Fa fo55_2 Z Z) (qo 17 hb26 v0_2 (Lb 1 pl53 Z Z Z) (qo 17 hb26 (pt g22 2) (Fa fo55_2 Z Z) (qo 17 hb26 v1_2 (Lb 0 pl53 Z Z Z) (On 17 Z Z hb26 ?_))))
 obtain ⟨r27,hr28,h⟩:=bnd h
 refine We (Ca co78 (f_slices_EqualFunc_api_Record_api_Record_api_Record_api_Record_79_ok a0.Records a1.Records _ _ _ h0_2 h1_2 r27 hr28) (args3 Z Z Z)) Z ?_
 rintro _ M29 _ hle30 ⟨_,⟨rfl,rfl⟩,rfl⟩
 refine WL.a0 (qu (Bv r27) (Pt Z hb26 Z) (qa (Bv r27) (Wz ?_)))
 obtain rfl:=oi h
 exact Tj ⟨hle30,Z,Z⟩
 iterate 5 refine Of 17 Z Z hb26 Z ?_
 refine qu (Bv false) (Pf Z hb26 Z) (qa (Bv false) (Wz ?_))
 obtain rfl:=oi h
 exact Tj ⟨lr,Z,Z⟩
 iterate 5 refine Of 10 Z Z hb25 Z ?_
 refine qu (Bv false) (Pf Z hb25 Z) (qm (Bv false) ?_)
 iterate 5 refine Of 17 Z Z Z Z ?_
 refine qu (Bv false) (Pf Z Z Z) (qa (Bv false) (Wz ?_))
 obtain rfl:=oi h
 exact Tj ⟨lr,Z,Z⟩
 rintro ρ24 M24 H24 ⟨hle24,rfl,hs24_4⟩
 exact Cr (Dr (Dr (Rf h [] Z (Rs Z hs24_4) hle24 ⟨Z,Z⟩)))
noncomputable def f_slices_EqualFunc_api_Batch_api_Batch_api_Batch_api_Batch_53_l0 (a0:(List T_api_Batch)) (a1:(List T_api_Batch)) (s_:Int):Option (Int⊕(Unit⊕Unit)):=
 match s_ with
 |x24=>
 (if(decide (x24<(a0.length:Int)))=true then(grd (0≤x24∧x24<a0.length) (grd (0≤x24∧x24<a1.length) ((f_batch_Same (rd a0 x24) (rd a1 x24)).bind fun r42=>(if(!r42)=true then(some (Sum.inr (Sum.inr ())))else(some (Sum.inl (IntKind.i64.wrap (x24+(1:Int)))))))))else(some (Sum.inr (Sum.inl ()))))
noncomputable def f_slices_EqualFunc_api_Batch_api_Batch_api_Batch_api_Batch_53 (a0:(List T_api_Batch)) (a1:(List T_api_Batch)):Option Bool:=
 (if(decide ((a0.length:Int)≠(a1.length:Int)))=true then(some false)else((((iter (f_slices_EqualFunc_api_Batch_api_Batch_api_Batch_api_Batch_53_l0 a0 a1) (0:Int)).bind (Sum.elim (fun _=>(some (Sum.inl ()))) (fun _=>(((some false)).bind fun r=>some (Sum.inr r))))):Option (Unit⊕Bool)).bind (Sum.elim (fun _=>(some true)) some)))
def f_slices_EqualFunc_api_Batch_api_Batch_api_Batch_api_Batch_53_post (a0:(List T_api_Batch)) (a1:(List T_api_Batch)) (v0 v1:Value):Bool→Value→IM→HL→Prop:=
 fun(r0:Bool) (v:Value) (M':IM) (H':HL)=>(.bool r0)=v∧H'=[]
theorem f_slices_EqualFunc_api_Batch_api_Batch_api_Batch_api_Batch_53_ok (a0:(List T_api_Batch)) (a1:(List T_api_Batch)) (M:IM) (v0 v1:Value) (h0:RS kd_api_Batch M v0 a0) (h1:RS kd_api_Batch M v1 a1) (res:Bool) (h:f_slices_EqualFunc_api_Batch_api_Batch_api_Batch_api_Batch_53 a0 a1=some res):
 Tri Tryz.prog 52 #[v0,v1,(.func (.func 53) #[] #[])] M [] (f_slices_EqualFunc_api_Batch_api_Batch_api_Batch_api_Batch_53_post a0 a1 v0 v1 res):=by
 unfold f_slices_EqualFunc_api_Batch_api_Batch_api_Batch_api_Batch_53 at h
 refine Te Tryz.func52 Z Z ?_
 intro F ρ hρ
 refine Sr (qa (Bv false) (Nt (Cs (Sr (qM v0 (hρ 0) (qu (Iv (a0.length:Int)) (PO.lenS Tryz.underlying22 Z h0.len) (qM v1 (hρ 1) (qu (Iv (a1.length:Int)) (PO.lenS Tryz.underlying22 Z h1.len) (qu (Bv (decide ((a0.length:Int)≠(a1.length:Int)))) (PO.neq Z Z) (Nt (Ch h Z (fun hb21 h=> ?_) (fun hb21 h=> ?_))))))))))))
 exact Sr (qa (Bv false) (Nt (Cr (Tr (Rf h [] Z (Rs Z Z) lr ⟨Z,Z⟩)))))
 refine Ck (Tc ?_)
 obtain ⟨j22,hj22,h⟩:=bnd h
 refine WC.joinE (fun(_:Unit) ρ' M' H'=>M.le M'∧F=H') j22 ?_ ?_
 have h322:=h
 have h:=hj22
 refine Sr (qM v0 (hρ 0) (qu (Iv (a0.length:Int)) (PO.lenS Tryz.underlying22 Z h0.len) (qm (Iv 0) (Nt (Bk ?_)))))
 obtain ⟨e23,he23,hK23⟩:=bnd h
 clear h
 refine WC.loop he23 (fun(x24:Int) ρ' M' H'=>M.le M'∧F=H'∧ρ' 1=v1∧ρ' 2=(.func (.func 53) #[] #[])∧ρ' 15=v0∧ρ' 16=(Iv (a0.length:Int))∧ρ' 17=(Iv x24)) ?_ ?_
 exact⟨lr,Z,(hρ 1),(hρ 2),Z,Z,Z⟩
 rintro x24 o23 ρ23 M23 H23 h ⟨hle23,rfl,hs23_1,hs23_2,hs23_15,hs23_16,hs23_17⟩
 unfold f_slices_EqualFunc_api_Batch_api_Batch_api_Batch_api_Batch_53_l0 at h
 refine Sr (qu (Bv (decide (x24<(a0.length:Int)))) (PO.lss hs23_17 hs23_16) (Nt (Cs (Ch h Z (fun hb25 h=> ?_) (fun hb25 h=> ?_)))))
 refine Ck (Tc (Cs (Bk (Sr (qM (Iv x24) hs23_17 ?_)))))
 obtain ⟨hg26,h⟩:=grd_i h
 have h0:=h0.mono hle23
 obtain ⟨p27,cs28,hat29,hrc30,hhas31⟩:=h0.at hg26.1 hg26.2 (by decide)
 obtain ⟨vw32_2,rfl,hw32_2⟩:=kd_api_Batch_open hrc30
 refine qu (.pointer (some p27)) (PO.indexAddr (n:=a0.length) Tryz.underlying22 sz55 hs23_15 hs23_17 hg26.1 hg26.2 hat29) (qu (a55_ (rd a0 x24) vw32_2) (PO.loadMA (cs:=(l55 (rd a0 x24) vw32_2)) ag55 sz55 Z hhas31) (We (Al ze55 Z) Z ?_))
 rintro _ _ _ - ⟨rfl,g33,rfl,rfl⟩
 refine qa (Iv x24) (We (Sg (v:=(a55_ (rd a0 x24) vw32_2)) (vl:=(l55 (rd a0 x24) vw32_2)) (arr':=(l55 (rd a0 x24) vw32_2)) Z sz55 Z Z (onesOf (Oc Z (Oc Z (Oc (RS.one hw32_2) Oz)))) Z Z Z) Z ?_)
 rintro _ _ _ - ⟨rfl,rfl⟩
 refine Ns (qM v1 hs23_1 (qm (Iv x24) ?_))
 obtain ⟨hg34,h⟩:=grd_i h
 have h1:=h1.mono hle23
 obtain ⟨p35,cs36,hat37,hrc38,hhas39⟩:=h1.at hg34.1 hg34.2 (by decide)
 obtain ⟨vw40_2,rfl,hw40_2⟩:=kd_api_Batch_open hrc38
 refine qu (.pointer (some p35)) (PO.indexAddr (n:=a1.length) Tryz.underlying22 sz55 Z Z hg34.1 hg34.2 hat37) (qu (a55_ (rd a1 x24) vw40_2) (PO.loadMA (cs:=(l55 (rd a1 x24) vw40_2)) ag55 sz55 Z hhas39) (We (Al ze55 Z) Z ?_))
 rintro _ _ _ - ⟨rfl,g41,rfl,rfl⟩
 refine We (Sg (v:=(a55_ (rd a1 x24) vw40_2)) (vl:=(l55 (rd a1 x24) vw40_2)) (arr':=(l55 (rd a1 x24) vw40_2)) Z sz55 Z Z (onesOf (Oc Z (Oc Z (Oc (RS.one hw40_2) Oz)))) Z Z Z) Z ?_
 rintro _ _ _ - ⟨rfl,rfl⟩
 refine Ns (qM (.func (.func 53) #[] #[]) hs23_2 (qu (a55_ (rd a0 x24) vw32_2) (La (cs:=(l55 (rd a0 x24) vw32_2)) 1 ag55 sz55 Z Z Z) (qu (a55_ (rd a1 x24) vw40_2) (La (cs:=(l55 (rd a1 x24) vw40_2)) 0 ag55 sz55 Z Z Z) ?_)))
 obtain ⟨r42,hr43,h⟩:=bnd h
 refine We (EO.callV0 (first:=#[]) (cap:=#[]) co53 Z (f_batch_Same_ok (rd a0 x24) (rd a1 x24) _ _ _ hw32_2 hw40_2 r42 hr43) (argsV2 Z Z Z)) Z ?_
 rintro _ M44 _ hle45 ⟨_,⟨rfl,rfl⟩,rfl⟩
 refine WL.a0 (qu (Bv (!r42)) (PO.not Z) (Nt (Ch h Z (fun hb47 h=> ?_) (fun hb47 h=> ?_))))
 refine Sr (qa (Bv false) (Nt (Cr (Br (Tr (WQ.leaveR (Sum.inr ()) (oi h).symm (fun heq23=> ?_)))))))
 subst heq23
 have h:=(elimR hK23)
 refine Br (Tr ?_)
 have h:=KK.early h h322
 exact Dr (Dr (Rf h [] Z (Rs Z Z) (hle23.trans hle45) ⟨Z,Z⟩))
 exact Ck (Bn (Tc (Cg (qu (Iv (IntKind.i64.wrap (x24+1))) (PO.add hs23_17 Z) (qm (Iv (IntKind.i64.wrap (x24+1))) (Wz (Dr (Dr (WQ.again (IntKind.i64.wrap (x24+1)) (oi h).symm ⟨(hle23.trans hle45),Z,hs23_1,hs23_2,hs23_15,hs23_16,Z⟩)))))))))
 refine WC.exit (WQ.thenE (WQ.leaveE (Sum.inl ()) (oi h).symm (fun heq23=> ?_)))
 subst heq23
 have h:=elimL hK23
 exact WQ.blockH (WQ.thenFE h ⟨hle23,Z⟩)
 rintro _ ρ22 M22 H22 rfl ⟨hle22,rfl⟩
 have h:=(Sum.elim_inl _ _ _).symm.trans h
 exact Sr (qa (Bv true) (Nt (Cr (Rf h [] Z (Rs Z Z) hle22 ⟨Z,Z⟩))))
noncomputable def f_rpc_Same (a0:T_api_Rpc) (a1:T_api_Rpc):Option Bool:=
 ((((f_rpc_Same_1 a0).bind fun r25=>((f_rpc_Same_1 a1).bind fun r30=>(if(andL [decide ((rd r25 (0:Int))=(rd r30 (0:Int))),decide ((rd r25 (1:Int))=(rd r30 (1:Int))),decide ((rd r25 (2:Int))=(rd r30 (2:Int))),decide ((rd r25 (3:Int))=(rd r30 (3:Int))),decide ((rd r25 (4:Int))=(rd r30 (4:Int))),decide ((rd r25 (5:Int))=(rd r30 (5:Int))),decide ((rd r25 (6:Int))=(rd r30 (6:Int))),decide ((rd r25 (7:Int))=(rd r30 (7:Int))),decide ((rd r25 (8:Int))=(rd r30 (8:Int))),decide ((rd r25 (9:Int))=(rd r30 (9:Int))),decide ((rd r25 (10:Int))=(rd r30 (10:Int)))])=true then(if(a0.Pre==a1.Pre)=true then(if(a0.Ok==a1.Ok)=true then((f_slices_Equal_byte_byte a0.Data a1.Data).bind fun r38=>(if r38=true then((f_slices_EqualFunc_api_Batch_api_Batch_api_Batch_api_Batch_53 a0.Batches a1.Batches).bind fun r44=>(some r44))else(some false)))else(some false))else(some false))else(some false)))):Option Bool).bind fun x23=>(some x23))
def f_rpc_Same_post (a0:T_api_Rpc) (a1:T_api_Rpc) (v0_11 v0_14 v1_11 v1_14:Value):Bool→Value→IM→HL→Prop:=
 fun(r0:Bool) (v:Value) (M':IM) (H':HL)=>(.bool r0)=v∧H'=[]
theorem f_rpc_Same_ok (a0:T_api_Rpc) (a1:T_api_Rpc) (M:IM) (v0_11 v0_14 v1_11 v1_14:Value) (h0_11:RS kd_api_Batch M v0_11 a0.Batches) (h0_14:RS (Kd.int .u8) M v0_14 a0.Data) (h1_11:RS kd_api_Batch M v1_11 a1.Batches) (h1_14:RS (Kd.int .u8) M v1_14 a1.Data) (res:Bool) (h:f_rpc_Same a0 a1=some res):
 Tri Tryz.prog 17 #[(a25_ a0 v0_11 v0_14),(a25_ a1 v1_11 v1_14)] M [] (f_rpc_Same_post a0 a1 v0_11 v0_14 v1_11 v1_14 res):=by
 unfold f_rpc_Same at h
 refine Te Tryz.func17 Z Z ?_
 intro F ρ hρ
 refine Sr (We (EO.box (cs:=(l25 a0 v0_11 v0_14).toArray) (congrArg Value.cells (asE (a25_ a0 v0_11 v0_14) (hρ 0)))) Z ?_)
 rintro _ _ _ - ⟨rfl,g21,rfl,rfl⟩
 refine We (EO.box (cs:=(l25 a1 v1_11 v1_14).toArray) (congrArg Value.cells (asE (a25_ a1 v1_11 v1_14) (hρ 1)))) Z ?_
 rintro _ _ _ - ⟨rfl,g22,rfl,rfl⟩
 refine qa (Bv false) (Ns (qa (.func (.func 50) #[] #[]) (Nt ?_)))
 obtain ⟨x23,hj24,h⟩:=bnd h
 refine Jf (fun(x23:Bool) ρ' M' H'=>M.le M'∧[(g22, .cells (l25 a1 v1_11 v1_14).toArray 25 (0,0))]::[(g21, .cells (l25 a0 v0_11 v0_14).toArray 25 (0,0))]::F=H'∧ρ' 4=(Bv x23)) x23 ?_ ?_
 have h:=hj24
 refine WC.draw [0,0,3,0,0,31,63,127,255,511,255,1279,4095,8191,16383,32767,65535,32767,163839,524287,1048575,2097151,4194303,8388607,4194303,20971519,67108863,134217727,268435455,536870911,1073741823,536870911,2684354559,8589934591,17179869183,34359738367] (.pure 0 (.pure 1 (.pure 3 (.pure 4 (.alt 2 (.alt 5 (.pure 6 (.pure 7 (.pure 8 (.pure 9 (.pure 10 (.pure 11 (.pure 12 (.pure 13 (.pure 14 (.pure 15 (.pure 16 (.pure 17 (.pure 18 (.pure 19 (.pure 20 (.pure 21 (.pure 22 (.pure 23 (.pure 24 (.pure 25 (.alt 26 (.pure 27 (.pure 28 (.pure 29 (.pure 30 (.pure 31 (.pure 32 (.alt 33 (.pure 34 (.pure 35 .done)) .none))))))) .none))))))))))))))))))))) .none) .none))))) mixed (by kernel_rfl) (qt (.func (.func 50) #[] #[]) Z (Mv Z) (qt (a25_ a0 v0_11 v0_14) Z (La (cs:=(l25 a0 v0_11 v0_14)) 1 ag25 sz25 Z Z Z) (qt (.func (.func 50) #[] #[]) Z (Mv Z) (qt (a25_ a1 v1_11 v1_14) Z (La (cs:=(l25 a1 v1_11 v1_14)) 0 ag25 sz25 Z Z Z) ?_))))
 obtain ⟨r25,hr26,h⟩:=bnd h
 refine Ta Z (EO.callV0 (first:=#[]) (cap:=#[]) co50 Z (f_rpc_Same_1_ok a0 _ _ _ h0_11 h0_14 r25 hr26) (argsV1 Z Z)) Z ?_ ?_
 rintro _ M27 _ hle28 ⟨_,⟨rfl,rfl⟩,rfl⟩
 refine⟨(Ss Z (La (cs:=(l25 a1 v1_11 v1_14)) 0 ag25 sz25 Z Z Z) Z (Ss Z (Mv Z) Z (Sl Z))), ?_⟩
 refine WT.a0 ?_
 obtain ⟨r30,hr31,h⟩:=bnd h
 have h1_11:=h1_11.mono hle28
 have h1_14:=h1_14.mono hle28
 refine Ta Z (EO.callV0 (first:=#[]) (cap:=#[]) co50 Z (f_rpc_Same_1_ok a1 _ _ _ h1_11 h1_14 r30 hr31) (argsV1 Z Z)) Z ?_ ?_
 rintro _ M32 _ hle33 ⟨_,⟨rfl,rfl⟩,rfl⟩
 have L33:=hle28.trans hle33
 refine⟨(Sl Z), ?_⟩
 refine WT.a0 (qt (Bv (andL [decide ((rd r25 (0:Int))=(rd r30 (0:Int))),decide ((rd r25 (1:Int))=(rd r30 (1:Int))),decide ((rd r25 (2:Int))=(rd r30 (2:Int))),decide ((rd r25 (3:Int))=(rd r30 (3:Int))),decide ((rd r25 (4:Int))=(rd r30 (4:Int))),decide ((rd r25 (5:Int))=(rd r30 (5:Int))),decide ((rd r25 (6:Int))=(rd r30 (6:Int))),decide ((rd r25 (7:Int))=(rd r30 (7:Int))),decide ((rd r25 (8:Int))=(rd r30 (8:Int))),decide ((rd r25 (9:Int))=(rd r30 (9:Int))),decide ((rd r25 (10:Int))=(rd r30 (10:Int)))])) Z (PO.eqAgg eg85 Z Z (run_equal_array Tryz.underlying85 pl3 sz3 (EqIs.cons Z Z (EqC.int Tryz.underlying3) (EqIs.cons Z Z (EqC.int Tryz.underlying3) (EqIs.cons Z Z (EqC.int Tryz.underlying3) (EqIs.cons Z Z (EqC.int Tryz.underlying3) (EqIs.cons Z Z (EqC.int Tryz.underlying3) (EqIs.cons Z Z (EqC.int Tryz.underlying3) (EqIs.cons Z Z (EqC.int Tryz.underlying3) (EqIs.cons Z Z (EqC.int Tryz.underlying3) (EqIs.cons Z Z (EqC.int Tryz.underlying3) (EqIs.cons Z Z (EqC.int Tryz.underlying3) (EqIs.cons Z Z (EqC.int Tryz.underlying3) EqIs.nil))))))))))))) (qt (Bv (andL [decide ((rd r25 (0:Int))=(rd r30 (0:Int))),decide ((rd r25 (1:Int))=(rd r30 (1:Int))),decide ((rd r25 (2:Int))=(rd r30 (2:Int))),decide ((rd r25 (3:Int))=(rd r30 (3:Int))),decide ((rd r25 (4:Int))=(rd r30 (4:Int))),decide ((rd r25 (5:Int))=(rd r30 (5:Int))),decide ((rd r25 (6:Int))=(rd r30 (6:Int))),decide ((rd r25 (7:Int))=(rd r30 (7:Int))),decide ((rd r25 (8:Int))=(rd r30 (8:Int))),decide ((rd r25 (9:Int))=(rd r30 (9:Int))),decide ((rd r25 (10:Int))=(rd r30 (10:Int)))])) Z (Mv Z) ?_))
 rcases Bi h with⟨hb35,h⟩ |⟨hb35,h⟩
 refine Tn (pt g21 4) 13 Z Z Z hb35 (Fa fo25_4 Z Z) Z (Tn (Bv a0.Pre) 13 Z Z Z hb35 (Lb 1 pl4 Z Z Z) Z (Tn (pt g22 4) 13 Z Z Z hb35 (Fa fo25_4 Z Z) Z (Tn (Bv a1.Pre) 13 Z Z Z hb35 (Lb 0 pl4 Z Z Z) Z (Tn (Bv (a0.Pre==a1.Pre)) 13 Z Z Z hb35 (PO.beql Tryz.underlying4 Z Z) Z (qt (Bv (a0.Pre==a1.Pre)) Z (Pt Z hb35 Z) (qt (Bv (a0.Pre==a1.Pre)) Z (Mv Z) ?_))))))
 rcases Bi h with⟨hb36,h⟩ |⟨hb36,h⟩
 refine Tn (pt g21 5) 20 Z Z Z hb36 (Fa fo25_5 Z Z) Z (Tn (Bv a0.Ok) 20 Z Z Z hb36 (Lb 1 pl4 Z Z Z) Z (Tn (pt g22 5) 20 Z Z Z hb36 (Fa fo25_5 Z Z) Z (Tn (Bv a1.Ok) 20 Z Z Z hb36 (Lb 0 pl4 Z Z Z) Z (Tn (Bv (a0.Ok==a1.Ok)) 20 Z Z Z hb36 (PO.beql Tryz.underlying4 Z Z) Z (qt (Bv (a0.Ok==a1.Ok)) Z (Pt Z hb36 Z) (qt (Bv (a0.Ok==a1.Ok)) Z (Mv Z) ?_))))))
 rcases Bi h with⟨hb37,h⟩ |⟨hb37,h⟩
 refine Tn (pt g21 14) 27 Z Z Z hb37 (Fa fo25_14 Z Z) Z (Tn v0_14 27 Z Z Z hb37 (Lb 1 pl23 Z Z Z) Z (Tn (pt g22 14) 27 Z Z Z hb37 (Fa fo25_14 Z Z) Z (Tn v1_14 27 Z Z Z hb37 (Lb 0 pl23 Z Z Z) Z ?_)))
 obtain ⟨r38,hr39,h⟩:=bnd h
 have h0_14:=h0_14.mono L33
 have h1_14:=h1_14.mono hle33
 refine WT.altOn 27 Z Z Z hb37 (Ca co51 (f_slices_Equal_byte_byte_ok a0.Data a1.Data _ _ _ h0_14 h1_14 r38 hr39) (args2 Z Z)) Z ?_ ?_
 rintro _ M40 _ hle41 ⟨_,⟨rfl,rfl⟩,rfl⟩
 refine⟨(Sl Z), ?_⟩
 refine WT.a0 (qt (Bv r38) Z (Pt Z hb37 Z) (qt (Bv r38) Z (Mv Z) ?_))
 rcases Bi h with⟨hb43,h⟩ |⟨hb43,h⟩
 refine Tn (pt g21 11) 34 Z Z Z hb43 (Fa fo25_11 Z Z) Z (Tn v0_11 34 Z Z Z hb43 (Lb 1 pl22 Z Z Z) Z (Tn (pt g22 11) 34 Z Z Z hb43 (Fa fo25_11 Z Z) Z (Tn v1_11 34 Z Z Z hb43 (Lb 0 pl22 Z Z Z) Z ?_)))
 obtain ⟨r44,hr45,h⟩:=bnd h
 have h0_11:=h0_11.mono (L33.trans hle41)
 have h1_11:=h1_11.mono (hle33.trans hle41)
 refine WT.altOn 34 Z Z Z hb43 (Ca co52 (f_slices_EqualFunc_api_Batch_api_Batch_api_Batch_api_Batch_53_ok a0.Batches a1.Batches _ _ _ h0_11 h1_11 r44 hr45) (args3 Z Z Z)) Z ?_ ?_
 rintro _ M46 _ hle47 ⟨_,⟨rfl,rfl⟩,rfl⟩
 refine⟨(Sl Z), ?_⟩
 refine WT.a0 (qt (Bv r44) Z (Pt Z hb43 Z) (qt (Bv r44) Z (Ag Z) (Ti ?_)))
 obtain rfl:=oi h
 exact Tj ⟨((L33.trans hle41).trans hle47),Z,Z⟩
 exact Tz
 refine Tf 34 Z Z Z hb43 Z (Tf 34 Z Z Z hb43 Z (Tf 34 Z Z Z hb43 Z (Tf 34 Z Z Z hb43 Z (Tg 34 Z Z Z hb43 Z ⟨(Sl Z), ?_⟩ ?_))))
 refine qt (Bv false) Z (Pf Z hb43 Z) (qt (Bv false) Z (Ag Z) (Ti ?_))
 obtain rfl:=oi h
 exact Tj ⟨(L33.trans hle41),Z,Z⟩
 exact Tz
 exact Tz
 refine Tf 27 Z Z Z hb37 Z (Tf 27 Z Z Z hb37 Z (Tf 27 Z Z Z hb37 Z (Tf 27 Z Z Z hb37 Z (Tg 27 Z Z Z hb37 Z ⟨(Sl Z), ?_⟩ ?_))))
 refine qt (Bv false) Z (Pf Z hb37 Z) (qt (Bv false) Z (Mv Z) (Tf 34 Z Z Z Z Z (Tf 34 Z Z Z Z Z (Tf 34 Z Z Z Z Z (Tf 34 Z Z Z Z Z (Tg 34 Z Z Z Z Z ⟨(Sl Z), ?_⟩ ?_))))))
 refine qt (Bv false) Z (Pf Z Z Z) (qt (Bv false) Z (Ag Z) (Ti ?_))
 obtain rfl:=oi h
 exact Tj ⟨L33,Z,Z⟩
 exact Tz
 exact Tz
 refine Tf 20 Z Z Z hb36 Z (Tf 20 Z Z Z hb36 Z (Tf 20 Z Z Z hb36 Z (Tf 20 Z Z Z hb36 Z (Tf 20 Z Z Z hb36 Z (qt (Bv false) Z (Pf Z hb36 Z) (qt (Bv false) Z (Mv Z) (Tf 27 Z Z Z Z Z (Tf 27 Z Z Z Z Z (Tf 27 Z Z Z Z Z (Tf 27 Z Z Z Z Z (Tg 27 Z Z Z Z Z ⟨(Sl Z), ?_⟩ ?_)))))))))))
 refine qt (Bv false) Z (Pf Z Z Z) (qt (Bv false) Z (Mv Z) (Tf 34 Z Z Z Z Z (Tf 34 Z Z Z Z Z (Tf 34 Z Z Z Z Z (Tf 34 Z Z Z Z Z (Tg 34 Z Z Z Z Z ⟨(Sl Z), ?_⟩ ?_))))))
 refine qt (Bv false) Z (Pf Z Z Z) (qt (Bv false) Z (Ag Z) (Ti ?_))
 obtain rfl:=oi h
 exact Tj ⟨L33,Z,Z⟩
 exact Tz
 exact Tz
 refine Tf 13 Z Z Z hb35 Z (Tf 13 Z Z Z hb35 Z (Tf 13 Z Z Z hb35 Z (Tf 13 Z Z Z hb35 Z (Tf 13 Z Z Z hb35 Z (qt (Bv false) Z (Pf Z hb35 Z) (qt (Bv false) Z (Mv Z) (Tf 20 Z Z Z Z Z (Tf 20 Z Z Z Z Z (Tf 20 Z Z Z Z Z (Tf 20 Z Z Z Z Z (Tf 20 Z Z Z Z Z ?_)))))))))))
 refine qt (Bv false) Z (Pf Z Z Z) (qt (Bv false) Z (Mv Z) (Tf 27 Z Z Z Z Z (Tf 27 Z Z Z Z Z (Tf 27 Z Z Z Z Z (Tf 27 Z Z Z Z Z (Tg 27 Z Z Z Z Z ⟨(Sl Z), ?_⟩ ?_))))))
 refine qt (Bv false) Z (Pf Z Z Z) (qt (Bv false) Z (Mv Z) (Tf 34 Z Z Z Z Z (Tf 34 Z Z Z Z Z (Tf 34 Z Z Z Z Z (Tf 34 Z Z Z Z Z (Tg 34 Z Z Z Z Z ⟨(Sl Z), ?_⟩ ?_))))))
 refine qt (Bv false) Z (Pf Z Z Z) (qt (Bv false) Z (Ag Z) (Ti ?_))
 obtain rfl:=oi h
 exact Tj ⟨L33,Z,Z⟩
 exact Tz
 exact Tz
 exact Tz
 exact Tz
 rintro ρ24 M24 H24 ⟨hle24,rfl,hs24_4⟩
 exact Cr (Dr (Dr (Rf h [] Z (Rs Z hs24_4) hle24 ⟨Z,Z⟩)))
noncomputable def f_errors_is_l0 (a1:Int) (s_:GErr):Option (GErr⊕Bool):=
 match s_ with
 |x22=>
 (match x22 with | .nil=>(some (Sum.inr false)) | .code n24=>(if(decide (n24=a1))=true then(some (Sum.inr true))else(some (Sum.inr false))) | .fault o25 a26 e27=>((f_api_Fault_Unwrap (⟨o25,a26,e27⟩:T_api_Fault)).bind fun r30=>(if r30.isNil=true then(some (Sum.inr false))else(some (Sum.inl r30)))) | .other b28=>(some (Sum.inr false)))
noncomputable def f_errors_is (a0:GErr) (a1:Int):Option Bool:=
 ((iter (f_errors_is_l0 a1) a0).bind (fun(x23:Bool)=>(some x23)))
def f_errors_is_post (a0:GErr) (a1:Int):Bool→Value→IM→HL→Prop:=
 fun(r0:Bool) (v:Value) (M':IM) (H':HL)=>(.bool r0)=v∧H'=[]
theorem f_errors_is_ok (a0:GErr) (a1:Int) (M:IM) (res:Bool) (h:f_errors_is a0 a1=some res):
 Tri Tryz.prog 92 #[(GV a0),(GV (GErr.code a1)),(Bv true)] M [] (f_errors_is_post a0 a1 res):=by
 unfold f_errors_is at h
 refine Te Tryz.func92 Z Z ?_
 intro F ρ hρ
 refine Sr (qa (Bv false) (Nt (Bk ?_)))
 obtain ⟨e21,he21,hK21⟩:=bnd h
 clear h
 refine WC.loop he21 (fun(x22:GErr) ρ' M' H'=>M.le M'∧F=H'∧ρ' 0=(GV x22)∧ρ' 1=(GV (GErr.code a1))∧ρ' 2=(Bv true)) ?_ ?_
 exact⟨lr,Z,(hρ 0),(hρ 1),(hρ 2)⟩
 rintro x22 o21 ρ21 M21 H21 h ⟨hle21,rfl,hs21_0,hs21_1,hs21_2⟩
 unfold f_errors_is_l0 at h
 refine Bk (Cs (Sr (qM (Bv true) hs21_2 (qm (Bv true) (On 15 Z Z Z (qM (GV x22) hs21_0 (On 15 Z Z Z (qM (GV (GErr.code a1)) hs21_1 (On 15 Z Z Z ?_)))))))))
 rcases x22 with _ |n24 |⟨o25,a26,e27⟩ |b28
 refine qu (Bv false) (PO.nilIfaceNe Tryz.underlying31 (show ev _ _= .nilIface from Z) (show ev _ _=(.iface 38 (Iv a1)) from Z)) (qu (Bv false) (Pt Z Z Z) (Nt (WC.condF (b:=false) Z Z (Ck (Tc (Cs (Sr (qM (GV GErr.nil) hs21_0 (qu (.tuple #[.nilIface,(Bv false)]) (PO.asserts (show ev _ _= .nilIface from Z) (run_assert_nil zo186 Tryz.underlying186)) (qm (.tuple #[.nilIface,(Bv false)]) (qu .nilIface (Xt Z Z) ?_)))))))))))
 refine qu (Bv false) (Xt Z Z) (qa .nilIface (qa (Bv false) (Ns (qm (Bv false) (qm (Bv false) ?_)))))
 iterate 3 refine Of 26 Z Z Z Z ?_
 refine qu (Bv false) (Pf Z Z Z) (Nt (WC.condF (b:=false) Z Z (Ck (Tc (Sr (qM (GV GErr.nil) hs21_0 (Nt (Bk (Sr (qu (.tuple #[.nilIface,(Bv false)]) (PO.asserts (show ev _ _= .nilIface from Z) (run_assert_nil zo189 Tryz.underlying189)) (qu (Bv false) (Xt Z Z) ?_)))))))))))
 refine qu .nilIface (Xt Z Z) (Nt (WC.condF (b:=false) Z Z (Sr (qu (.tuple #[.nilIface,(Bv false)]) (PO.asserts (show ev _ _= .nilIface from Z) (run_assert_nil zo190 Tryz.underlying190)) (qu (Bv false) (Xt Z Z) (qu .nilIface (Xt Z Z) (Nt (WC.condF (b:=false) Z Z (Sr (qa (GV GErr.nil) (Ns ?_)))))))))))
 refine qa (Bv false) (Nt (Cr (Br (Br (WQ.leaveR false (oi h).symm (fun heq21=> ?_))))))
 subst heq21
 have h:=hK21
 exact Br (Rf h [] Z (Rs Z Z) hle21 ⟨Z,Z⟩)
 refine qu (Bv (decide (n24=a1))) (PO.ifaceInt Tryz.underlying31 Tryz.underlying38 cm38 (show ev _ _=(.iface 38 (Iv n24)) from Z) (show ev _ _=(.iface 38 (Iv a1)) from Z)) (qu (Bv (decide (n24=a1))) (Pt Z Z Z) (Nt (Ch h Z (fun hb29 h=> ?_) (fun hb29 h=> ?_))))
 refine Sr (qa (Bv true) (Nt (Cr (Tr (Br (WQ.leaveR true (oi h).symm (fun heq21=> ?_)))))))
 subst heq21
 have h:=hK21
 exact Br (Rf h [] Z (Rs Z Z) hle21 ⟨Z,Z⟩)
 refine Ck (Tc (Cs (Sr (qM (GV (GErr.code n24)) hs21_0 (qu (.tuple #[.nilIface,(Bv false)]) (PO.asserts (show ev _ _=(.iface 38 (Iv n24)) from Z) (la38_186 _ _)) (qm (.tuple #[.nilIface,(Bv false)]) (qu .nilIface (Xt Z Z) (qu (Bv false) (Xt Z Z) (qa .nilIface (qa (Bv false) (Ns ?_)))))))))))
 refine qm (Bv false) (qm (Bv false) ?_)
 iterate 3 refine Of 26 Z Z Z Z ?_
 refine qu (Bv false) (Pf Z Z Z) (Nt (WC.condF (b:=false) Z Z (Ck (Tc (Sr (qM (GV (GErr.code n24)) hs21_0 (Nt (Bk (Sr (qu (.tuple #[.nilIface,(Bv false)]) (PO.asserts (show ev _ _=(.iface 38 (Iv n24)) from Z) (la38_189 _ _)) (qu (Bv false) (Xt Z Z) ?_)))))))))))
 refine qu .nilIface (Xt Z Z) (Nt (WC.condF (b:=false) Z Z (Sr (qu (.tuple #[.nilIface,(Bv false)]) (PO.asserts (show ev _ _=(.iface 38 (Iv n24)) from Z) (la38_190 _ _)) (qu (Bv false) (Xt Z Z) (qu .nilIface (Xt Z Z) (Nt (WC.condF (b:=false) Z Z (Sr (qa (GV (GErr.code n24)) (Ns ?_)))))))))))
 refine qa (Bv false) (Nt (Cr (Br (Br (WQ.leaveR false (oi h).symm (fun heq21=> ?_))))))
 subst heq21
 have h:=hK21
 exact Br (Rf h [] Z (Rs Z Z) hle21 ⟨Z,Z⟩)
 refine qu (Bv false) (PO.ifaceNe Tryz.underlying31 (show ev _ _=(.iface 108 (.agg #[.string o25, .int .i64 a26,GV e27])) from Z) (show ev _ _=(.iface 38 (Iv a1)) from Z) Z) (qu (Bv false) (Pt Z Z Z) (Nt (WC.condF (b:=false) Z Z (Ck (Tc (Cs (Sr (qM (GV (GErr.fault o25 a26 e27)) hs21_0 (qu (.tuple #[.nilIface,(Bv false)]) (PO.asserts (show ev _ _=(.iface 108 (.agg #[.string o25, .int .i64 a26,GV e27])) from Z) (la108_186 _ _)) (qm (.tuple #[.nilIface,(Bv false)]) (qu .nilIface (Xt Z Z) ?_)))))))))))
 refine qu (Bv false) (Xt Z Z) (qa .nilIface (qa (Bv false) (Ns (qm (Bv false) (qm (Bv false) ?_)))))
 iterate 3 refine Of 26 Z Z Z Z ?_
 refine qu (Bv false) (Pf Z Z Z) (Nt (WC.condF (b:=false) Z Z (Ck (Tc (Sr (qM (GV (GErr.fault o25 a26 e27)) hs21_0 (Nt (Bk (Sr (qu (.tuple #[(GV (GErr.fault o25 a26 e27)),(Bv true)]) (PO.asserts (show ev _ _=(.iface 108 (.agg #[.string o25, .int .i64 a26,GV e27])) from Z) (ha108_189 _ _)) (qu (Bv true) (Xt Z Z) ?_)))))))))))
 refine qu (GV (GErr.fault o25 a26 e27)) (Xt Z Z) (Nt (WC.condT (b:=true) Z Z (Sr (qa (GV (GErr.fault o25 a26 e27)) (Ns (qm (GV (GErr.fault o25 a26 e27)) ?_))))))
 obtain ⟨r30,hr31,h⟩:=bnd h
 refine We (EO.invT (show ev _ _=(.iface 108 (.agg #[.string o25, .int .i64 a26,GV e27])) from Z) (me108_Unwrap _) co168 inv0 (f_api_Fault_Unwrap_ok (⟨o25,a26,e27⟩:T_api_Fault) _ r30 hr31)) Z ?_
 rintro _ M32 _ hle33 ⟨_,⟨rfl,rfl⟩,rfl⟩
 refine WL.a0 (qa (GV r30) (Ns (qm (GV r30) (qu (Bv r30.isNil) (PO.errNil Tryz.underlying31 Z) (Nt (Ch h Z (fun hb35 h=> ?_) (fun hb35 h=> ?_)))))))
 refine Sr (qa (Bv false) (Nt (Cr (Br (Br (WQ.leaveR false (oi h).symm (fun heq21=> ?_)))))))
 subst heq21
 have h:=hK21
 exact Br (Rf h [] Z (Rs Z Z) (hle21.trans hle33) ⟨Z,Z⟩)
 exact Ck (Bn (Bn (WQ.again r30 (oi h).symm ⟨(hle21.trans hle33),Z,Z,hs21_1,hs21_2⟩)))
 refine qu (Bv false) (PO.ifaceNe Tryz.underlying31 (show ev _ _=(.iface 0 (.pointer (some b28))) from Z) (show ev _ _=(.iface 38 (Iv a1)) from Z) Z) (qu (Bv false) (Pt Z Z Z) (Nt (WC.condF (b:=false) Z Z (Ck (Tc (Cs (Sr (qM (GV (GErr.other b28)) hs21_0 (qu (.tuple #[.nilIface,(Bv false)]) (PO.asserts (show ev _ _=(.iface 0 (.pointer (some b28))) from Z) (la0_186 _ _)) (qm (.tuple #[.nilIface,(Bv false)]) (qu .nilIface (Xt Z Z) ?_)))))))))))
 refine qu (Bv false) (Xt Z Z) (qa .nilIface (qa (Bv false) (Ns (qm (Bv false) (qm (Bv false) ?_)))))
 iterate 3 refine Of 26 Z Z Z Z ?_
 refine qu (Bv false) (Pf Z Z Z) (Nt (WC.condF (b:=false) Z Z (Ck (Tc (Sr (qM (GV (GErr.other b28)) hs21_0 (Nt (Bk (Sr (qu (.tuple #[.nilIface,(Bv false)]) (PO.asserts (show ev _ _=(.iface 0 (.pointer (some b28))) from Z) (la0_189 _ _)) (qu (Bv false) (Xt Z Z) ?_)))))))))))
 refine qu .nilIface (Xt Z Z) (Nt (WC.condF (b:=false) Z Z (Sr (qu (.tuple #[.nilIface,(Bv false)]) (PO.asserts (show ev _ _=(.iface 0 (.pointer (some b28))) from Z) (la0_190 _ _)) (qu (Bv false) (Xt Z Z) (qu .nilIface (Xt Z Z) (Nt (WC.condF (b:=false) Z Z (Sr (qa (GV (GErr.other b28)) (Ns ?_)))))))))))
 refine qa (Bv false) (Nt (Cr (Br (Br (WQ.leaveR false (oi h).symm (fun heq21=> ?_))))))
 subst heq21
 have h:=hK21
 exact Br (Rf h [] Z (Rs Z Z) hle21 ⟨Z,Z⟩)
noncomputable def f_errors_Is (a0:GErr) (a1:Int):Option Bool:=
 (if a0.isNil=true then(match a0 with | .nil=>(some false) | .code n22=>(some (decide (n22=a1))) | .fault o23 a24 e25=>(some false) | .other b26=>(some false))else((f_errors_is a0 a1).bind fun r27=>(some r27)))
def f_errors_Is_post (a0:GErr) (a1:Int):Bool→Value→IM→HL→Prop:=
 fun(r0:Bool) (v:Value) (M':IM) (H':HL)=>(.bool r0)=v∧H'=[]
theorem f_errors_Is_ok (a0:GErr) (a1:Int) (M:IM) (res:Bool) (h:f_errors_Is a0 a1=some res):
 Tri Tryz.prog 65 #[(GV a0),(GV (GErr.code a1))] M [] (f_errors_Is_post a0 a1 res):=by
 unfold f_errors_Is at h
 refine Te Tryz.func65 Z Z ?_
 intro F ρ hρ
 refine Sr (qa (Bv false) (Nt (Cs (Sr (qM (GV a0) (hρ 0) (qu (Bv a0.isNil) (PO.errNil Tryz.underlying31 Z) (qm (Bv a0.isNil) ?_)))))))
 rcases Bi h with⟨hb21,h⟩ |⟨hb21,h⟩
 iterate 2 refine Of 8 Z Z hb21 Z ?_
 refine qu (Bv true) (Pt Z hb21 Z) (Nt (WC.condT (b:=true) Z Z (Sr (qM (GV a0) (hρ 0) (qM (GV (GErr.code a1)) (hρ 1) ?_)))))
 rcases a0 with _ |n22 |⟨o23,a24,e25⟩ |b26
 exact qu (Bv false) (PO.nilIfaceNe Tryz.underlying31 (show ev _ _= .nilIface from Z) (show ev _ _=(.iface 38 (Iv a1)) from Z)) (qa (Bv false) (Nt (Cr (Tr (Rf h [] Z (Rs Z Z) lr ⟨Z,Z⟩)))))
 exact qu (Bv (decide (n22=a1))) (PO.ifaceInt Tryz.underlying31 Tryz.underlying38 cm38 (show ev _ _=(.iface 38 (Iv n22)) from Z) (show ev _ _=(.iface 38 (Iv a1)) from Z)) (qa (Bv (decide (n22=a1))) (Nt (Cr (Tr (Rf h [] Z (Rs Z Z) lr ⟨Z,Z⟩)))))
 exact qu (Bv false) (PO.ifaceNe Tryz.underlying31 (show ev _ _=(.iface 108 (.agg #[.string o23, .int .i64 a24,GV e25])) from Z) (show ev _ _=(.iface 38 (Iv a1)) from Z) Z) (qa (Bv false) (Nt (Cr (Tr (Rf h [] Z (Rs Z Z) lr ⟨Z,Z⟩)))))
 exact qu (Bv false) (PO.ifaceNe Tryz.underlying31 (show ev _ _=(.iface 0 (.pointer (some b26))) from Z) (show ev _ _=(.iface 38 (Iv a1)) from Z) Z) (qa (Bv false) (Nt (Cr (Tr (Rf h [] Z (Rs Z Z) lr ⟨Z,Z⟩)))))
 refine On 8 Z Z hb21 (qM (GV (GErr.code a1)) (hρ 1) (qo 8 hb21 (Bv false) (PO.errNil (tc:=38) (tf:=108) (tp:=0) (e:=GErr.code a1) Tryz.underlying31 Z) (qu (Bv false) (Pf Z hb21 Z) (Nt (WC.condF (b:=false) Z Z (Ck (Tc (Sr (qM (GV (GErr.code a1)) (hρ 1) (We (EO.extP xt91 (args1 (show ev _ _=(.iface 38 (Iv a1)) from Z)) (ty38 _)) Z ?_))))))))))
 rintro _ _ _ - ⟨rfl,rfl,rfl⟩
 refine We (EO.invE (show ev _ _=(.iface 184 (.agg #[.pointer (some ⟨1,38,none⟩)])) from Z) (mm_Comparable (pt 1 38)) xt174 inv0 mr_Comparable_38) Z ?_
 rintro _ _ _ - ⟨rfl,rfl,rfl⟩
 refine qa (Bv true) (Ns (qM (GV a0) (hρ 0) (qM (GV (GErr.code a1)) (hρ 1) (qm (Bv true) ?_))))
 obtain ⟨r27,hr28,h⟩:=bnd h
 refine We (Ca co92 (f_errors_is_ok a0 a1 _ r27 hr28) (args3 Z Z Z)) Z ?_
 rintro _ M29 _ hle30 ⟨_,⟨rfl,rfl⟩,rfl⟩
 exact WL.a0 (qa (Bv r27) (Nt (Cr (Rf h [] Z (Rs Z Z) hle30 ⟨Z,Z⟩))))
noncomputable def f_fault_Is (a0:GErr) (a1:Int):Option Bool:=
 ((f_errors_Is a0 a1).bind fun r21=>(some r21))
def f_fault_Is_post (a0:GErr) (a1:Int):Bool→Value→IM→HL→Prop:=
 fun(r0:Bool) (v:Value) (M':IM) (H':HL)=>(.bool r0)=v∧H'=[]
theorem f_fault_Is_ok (a0:GErr) (a1:Int) (M:IM) (res:Bool) (h:f_fault_Is a0 a1=some res):
 Tri Tryz.prog 22 #[(GV a0),(Iv a1)] M [] (f_fault_Is_post a0 a1 res):=by
 unfold f_fault_Is at h
 refine Te Tryz.func22 Z Z ?_
 intro F ρ hρ
 refine Sr (qa (Bv false) (Ns (qM (GV a0) (hρ 0) (qM (Iv a1) (hρ 1) (qu (GV (GErr.code a1)) (PO.makeInterface cc38 Z) ?_)))))
 obtain ⟨r21,hr22,h⟩:=bnd h
 refine We (Ca co65 (f_errors_Is_ok a0 a1 _ r21 hr22) (args2 Z Z)) Z ?_
 rintro _ M23 _ hle24 ⟨_,⟨rfl,rfl⟩,rfl⟩
 exact WL.a0 (qa (Bv r21) (Nt (Cr (Rf h [] Z (Rs Z Z) hle24 ⟨Z,Z⟩))))
noncomputable def f_slices_Clone_int_int (a0:(List Int)):Option (List Int):=
 (grd (([]:List Int).length+a0.length≤274877906944) (some (([]:List Int)++a0)))
def f_slices_Clone_int_int_post (a0:(List Int)) (v0:Value):(List Int)→Value→IM→HL→Prop:=
 fun(r0:(List Int)) (v:Value) (M':IM) (H':HL)=>∃ vz0 cz0,vz0=v∧H'=[cz0]∧OwnS (Kd.int .i64) M' vz0 r0 cz0
theorem f_slices_Clone_int_int_ok (a0:(List Int)) (M:IM) (v0:Value) (h0:RS (Kd.int .i64) M v0 a0) (res:(List Int)) (h:f_slices_Clone_int_int a0=some res):
 Tri Tryz.prog 140 #[v0] M [] (f_slices_Clone_int_int_post a0 v0 res):=by
 unfold f_slices_Clone_int_int at h
 refine Te Tryz.func140 Z Z ?_
 intro F ρ hρ
 refine Sr (qa Zs (Nt (Cs (Sr (qM v0 (hρ 0) (qu (Bv (nilS v0)) (PO.sliceNil Tryz.underlying56 Z h0.len Z) (Nt (Cd (b:=nilS v0) Z (fun hb21=> ?_) (fun hb21=> ?_)))))))))
 obtain rfl:=h0.nilxs (by decide) hb21
 have h:=Eq.trans (a:=((some []):Option (List Int))) (by simp [grd]) h
 exact Sr (qa Zs (Nt (Cr (Tr (WQ.e0 (Rf h [[]] Z (Rs Z Z) lr ⟨Zs,[],Z,Z,(OwnS.nil _ _)⟩))))))
 refine Ck (Tc (Sr (We (EO.buildSliceL (cl:=[]) Tryz.underlying56 iz3 Z Pz Z) Z ?_)))
 rintro _ _ _ - ⟨rfl,g23,rfl,rfl⟩
 have h25:OwnS (Kd.int .i64) M (.slice (some ⟨g23,0,none⟩) 0 0) [] [(g23, .cells #[] 3 (0,0))]:=OwnS.rows (css:=[]) Rows.nil Z Z
 refine qM v0 (hρ 0) ?_
 obtain ⟨hg29,h⟩:=grd_i h
 refine We (EO.append (dd:=(Kd.int .i64)) (xs:=[]) (ys:=a0) Tryz.underlying56 Tryz.underlying56 in3 Z (appB (by decide) hg29) (by decide) Z Z h25 (h0.src _)) Z ?_
 rintro v28 _ _ - ⟨rfl,c26,rfl,h27⟩
 exact qa v28 (Nt (Cr (Rf h [c26] Z (Rs Z Z) lr ⟨v28,c26,Z,Z,h27⟩)))
noncomputable def f_batch_one (a0:T_api_Record):Option T_api_Record:=
 ((f_slices_Clone_int_int a0.Ids).bind fun r23=>((f_slices_Clone_int_int a0.Isr).bind fun r28=>((f_slices_Clone_int_int a0.Add).bind fun r33=>((f_slices_Clone_int_int a0.Drop).bind fun r38=>(some (⟨a0.Kind,a0.Broker,a0.Epoch,a0.Topic,a0.Part,a0.Leader,a0.Client,a0.Serial,a0.Code,a0.Flag,a0.Name,a0.Key,a0.Value,a0.Rack,r23,r28,r33,r38⟩:T_api_Record))))))
def f_batch_one_post (a0:T_api_Record) (v0_14 v0_15 v0_16 v0_17:Value):T_api_Record→Value→IM→HL→Prop:=
 fun(r0:T_api_Record) (v:Value) (M':IM) (H':HL)=>∃ vz0_14 cz0_14 vz0_15 cz0_15 vz0_16 cz0_16 vz0_17 cz0_17,(.agg #[(.int .i64 r0.Kind),(.int .i64 r0.Broker),(.int .i64 r0.Epoch),(.int .i64 r0.Topic),(.int .i64 r0.Part),(.int .i64 r0.Leader),(.int .i64 r0.Client),(.int .i64 r0.Serial),(.int .i64 r0.Code),(.bool r0.Flag),(.string r0.Name),(.string r0.Key),(.string r0.Value),(.string r0.Rack),vz0_14,vz0_15,vz0_16,vz0_17])=v∧H'=[cz0_14,cz0_15,cz0_16,cz0_17]∧OwnS (Kd.int .i64) M' vz0_14 r0.Ids cz0_14∧OwnS (Kd.int .i64) M' vz0_15 r0.Isr cz0_15∧OwnS (Kd.int .i64) M' vz0_16 r0.Add cz0_16∧OwnS (Kd.int .i64) M' vz0_17 r0.Drop cz0_17
theorem f_batch_one_ok (a0:T_api_Record) (M:IM) (v0_14 v0_15 v0_16 v0_17:Value) (h0_14:RS (Kd.int .i64) M v0_14 a0.Ids) (h0_15:RS (Kd.int .i64) M v0_15 a0.Isr) (h0_16:RS (Kd.int .i64) M v0_16 a0.Add) (h0_17:RS (Kd.int .i64) M v0_17 a0.Drop) (res:T_api_Record) (h:f_batch_one a0=some res):
 Tri Tryz.prog 121 #[(a58_ a0 v0_14 v0_15 v0_16 v0_17)] M [] (f_batch_one_post a0 v0_14 v0_15 v0_16 v0_17 res):=by
 unfold f_batch_one at h
 refine Te Tryz.func121 Z Z ?_
 intro F ρ hρ
 refine Sr (We (EO.box (cs:=(l58 a0 v0_14 v0_15 v0_16 v0_17).toArray) (congrArg Value.cells (asE (a58_ a0 v0_14 v0_15 v0_16 v0_17) (hρ 0)))) Z ?_)
 rintro _ _ _ - ⟨rfl,g21,rfl,rfl⟩
 refine We (Al ze58 Z) Z ?_
 rintro _ _ _ - ⟨rfl,g22,rfl,rfl⟩
 refine Nt (Cs (WC.draw [0,1,3,0,8,31,31,127,255,511] (.pure 0 (.pure 1 (.pure 3 (.pure 4 (.alt 2 (.pure 6 (.alt 5 (.alt 7 (.pure 8 (.alt 9 .done .none)) .none) .none)) .none))))) mixed (by kernel_rfl) (qt (pt g21 14) Z (Fa fo58_14 Z Z) (qt v0_14 Z (Lb 1 pl56 Z Z Z) (qt (pt g21 15) Z (Fa fo58_15 Z Z) (qt v0_15 Z (Lb 1 pl56 Z Z Z) ?_))))))
 obtain ⟨r23,hr24,h⟩:=bnd h
 refine Ta Z (Ca co140 (f_slices_Clone_int_int_ok a0.Ids _ _ h0_14 r23 hr24) (args1 Z)) Z ?_ ?_
 rintro _ M25 _ hle26 ⟨_,⟨vq27,cq27,rfl,rfl,hq27⟩,rfl⟩
 refine⟨(Ss Z (Lb 2 pl56 Z Z Z) Z (Ss Z (Fa fo58_15 Z Z) Z (Sl Z))), ?_⟩
 refine WT.a1 (qt (pt g21 14) Z (Fa fo58_14 Z Z) ?_)
 obtain ⟨r28,hr29,h⟩:=bnd h
 have h0_15:=h0_15.mono hle26
 refine Ta Z (Ca co140 (f_slices_Clone_int_int_ok a0.Isr _ _ h0_15 r28 hr29) (args1 Z)) Z ?_ ?_
 rintro _ M30 _ hle31 ⟨_,⟨vq32,cq32,rfl,rfl,hq32⟩,rfl⟩
 refine⟨(Ss Z (Fa fo58_14 Z Z) Z (Sl Z)), ?_⟩
 refine WT.a1 (WT.f3 ?_)
 have hq27:=hq27.mono hle31
 refine Ta Z (Es vq27 ((l58 a0 vq27 v0_15 v0_16 v0_17)) hq27.cells sz56 Z Z (Ow hq27) Z Z (by kernel_rfl)) Z ?_ ?_
 rintro _ _ _ - ⟨rfl,rfl⟩
 refine⟨(Sl Z), ?_⟩
 refine qt (pt g21 15) Z (Fa fo58_15 Z Z) (Ta Z (Es vq32 ((l58 a0 vq27 vq32 v0_16 v0_17)) hq32.cells sz56 Z Z (Ow hq32) Z Z (by kernel_rfl)) Z ?_ ?_)
 rintro _ _ _ - ⟨rfl,rfl⟩
 refine⟨(Sl Z), ?_⟩
 refine Ti (Tc (Cs (WC.draw [0,1,3,0,8,31,31,127,255,511] (.pure 0 (.pure 1 (.pure 3 (.pure 4 (.alt 2 (.pure 6 (.alt 5 (.alt 7 (.pure 8 (.alt 9 .done .none)) .none) .none)) .none))))) mixed (by kernel_rfl) (qt (pt g21 16) Z (Fa fo58_16 Z Z) (qt v0_16 Z (Lb 0 pl56 Z Z Z) (qt (pt g21 17) Z (Fa fo58_17 Z Z) (qt v0_17 Z (Lb 0 pl56 Z Z Z) ?_)))))))
 obtain ⟨r33,hr34,h⟩:=bnd h
 have h0_16:=h0_16.mono (hle26.trans hle31)
 refine Ta Z (Ca co140 (f_slices_Clone_int_int_ok a0.Add _ _ h0_16 r33 hr34) (args1 Z)) Z ?_ ?_
 rintro _ M35 _ hle36 ⟨_,⟨vq37,cq37,rfl,rfl,hq37⟩,rfl⟩
 refine⟨(Ss Z (Lb 1 pl56 Z Z Z) Z (Ss Z (Fa fo58_17 Z Z) Z (Sl Z))), ?_⟩
 refine WT.a1 (qt (pt g21 16) Z (Fa fo58_16 Z Z) ?_)
 obtain ⟨r38,hr39,h⟩:=bnd h
 have h0_17:=h0_17.mono ((hle26.trans hle31).trans hle36)
 refine Ta Z (Ca co140 (f_slices_Clone_int_int_ok a0.Drop _ _ h0_17 r38 hr39) (args1 Z)) Z ?_ ?_
 rintro _ M40 _ hle41 ⟨_,⟨vq42,cq42,rfl,rfl,hq42⟩,rfl⟩
 refine⟨(Ss Z (Fa fo58_16 Z Z) Z (Sl Z)), ?_⟩
 refine WT.a1 (WT.f2 ?_)
 have hq37:=hq37.mono hle41
 refine Ta Z (Es vq37 ((l58 a0 vq27 vq32 vq37 v0_17)) hq37.cells sz56 Z Z (Ow hq37) Z Z (by kernel_rfl)) Z ?_ ?_
 rintro _ _ _ - ⟨rfl,rfl⟩
 refine⟨(Sl Z), ?_⟩
 refine qt (pt g21 17) Z (Fa fo58_17 Z Z) (Ta Z (Es vq42 ((l58 a0 vq27 vq32 vq37 vq42)) hq42.cells sz56 Z Z (Ow hq42) Z Z (by kernel_rfl)) Z ?_ ?_)
 rintro _ _ _ - ⟨rfl,rfl⟩
 refine⟨(Sl Z), ?_⟩
 refine Ti (Tc (Sr (qu (a58_ a0 vq27 vq32 vq37 vq42) (La (cs:=(l58 a0 vq27 vq32 vq37 vq42)) 0 ag58 sz58 Z Z Z) (WL.f5 ?_))))
 have hq27:=hq27.mono (hle36.trans hle41)
 have hq32:=hq32.mono (hle36.trans hle41)
 refine We (Sg (v:=(a58_ a0 vq27 vq32 vq37 vq42)) (vl:=(l58 a0 vq27 vq32 vq37 vq42)) (arr':=(l58 a0 vq27 vq32 vq37 vq42)) Z sz58 Z Z (onesOf (Oc Z (Oc Z (Oc Z (Oc Z (Oc Z (Oc Z (Oc Z (Oc Z (Oc Z (Oc Z (Oc Z (Oc Z (Oc Z (Oc Z (Oc (Ow hq27) (Oc (Ow hq32) (Oc (Ow hq37) (Oc (Ow hq42) Oz))))))))))))))))))) Z Z (by kernel_rfl)) Z ?_
 rintro _ _ _ - ⟨rfl,rfl⟩
 exact Nt (Cr (Qa (Dr (Qa (Qb (WQ.f3 (WQ.f4 (WQ.f4 (Rd h [cq27,cq32,cq37,cq42] (fun _ hs=>hs.drop) (resultsL1 Z (Rc (cs:=(l58 a0 vq27 vq32 vq37 vq42)) 0 ag58 sz58 Z Z Z)) (((hle26.trans hle31).trans hle36).trans hle41) ⟨vq27,cq27,vq32,cq32,vq37,cq37,vq42,cq42,Z,Z,hq27,hq32,hq37,hq42⟩)))))))))
 exact Tz
 exact Tz
 exact Tz
 exact Tz
 exact Tz
 exact Tz
 exact Tz
 exact Tz

end Go.Proofs.YtkflneabcannnaaGreatDoor.G
