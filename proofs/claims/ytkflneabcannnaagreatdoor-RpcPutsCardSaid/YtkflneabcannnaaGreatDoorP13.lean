/- Go functions: what they come to, and that they do. Printed by a program of the session (gen). -/
import Derived.Test.YtkflneabcannnaaGreatDoorPF
import Derived.Test.YtkflneabcannnaaGreatDoorP8
import Derived.Test.YtkflneabcannnaaGreatDoorP11
import Derived.Test.YtkflneabcannnaaGreatDoorP12
import Derived.Test.YtkflneabcannnaaGreatDoorKConv
import Derived.Test.YtkflneabcannnaaGreatDoorKShar2
import Derived.Test.YtkflneabcannnaaGreatDoorKTight2
set_option linter.unusedVariables false
set_option linter.unusedSimpArgs false
set_option maxHeartbeats 8000000
set_option maxRecDepth 100000
namespace Go.Proofs.YtkflneabcannnaaGreatDoor.G
open Go Go.KK

noncomputable def f_ref07_Bytes_l0 (a0:T_api_Rpc) (s_:((List Int)×Int)):Option (((List Int)×Int)⊕(List Int)):=
 match s_ with
 |(x205,x206)=>
 (if(decide (x206<(a0.Batches.length:Int)))=true then(grd (0≤x206∧x206<a0.Batches.length) ((f_ref06_Bytes (rd a0.Batches x206)).bind fun r216=>(grd (x205.length+r216.length≤274877906944) (some (Sum.inl (x205++r216,IntKind.i64.wrap (x206+(1:Int))))))))else(some (Sum.inr x205)))
noncomputable def f_ref07_Bytes (a0:T_api_Rpc):Option (List Int):=
 ((f_ref02_Int a0.From).bind fun r22=>((f_ref02_Int a0.To).bind fun r27=>(grd (r22.length+r27.length≤274877906944) ((f_ref02_Int a0.Term).bind fun r36=>(grd ((r22++r27).length+r36.length≤274877906944) ((f_ref07_has a0.Kind (97:Int)).bind fun r45=>((f_ref07_flag1 a0.Pre r45).bind fun r50=>(grd (((r22++r27)++r36).length+r50.length≤274877906944) ((f_ref07_has a0.Kind (103:Int)).bind fun r59=>((f_ref07_flag1 a0.Ok r59).bind fun r64=>(grd ((((r22++r27)++r36)++r50).length+r64.length≤274877906944) ((f_ref07_has a0.Kind (108:Int)).bind fun r73=>((f_ref07_int1 a0.Leader r73).bind fun r78=>(grd (((((r22++r27)++r36)++r50)++r64).length+r78.length≤274877906944) ((f_ref07_has a0.Kind (112:Int)).bind fun r87=>((f_ref07_int1 a0.At r87).bind fun r92=>(grd ((((((r22++r27)++r36)++r50)++r64)++r78).length+r92.length≤274877906944) ((f_ref07_has a0.Kind (112:Int)).bind fun r101=>((f_ref07_int1 a0.AtTerm r101).bind fun r106=>(grd (((((((r22++r27)++r36)++r50)++r64)++r78)++r92).length+r106.length≤274877906944) ((f_ref07_has a0.Kind (104:Int)).bind fun r115=>((f_ref07_int1 a0.High r115).bind fun r120=>(grd ((((((((r22++r27)++r36)++r50)++r64)++r78)++r92)++r106).length+r120.length≤274877906944) ((f_ref07_has a0.Kind (99:Int)).bind fun r129=>((f_ref07_int1 a0.Code r129).bind fun r134=>(grd (((((((((r22++r27)++r36)++r50)++r64)++r78)++r92)++r106)++r120).length+r134.length≤274877906944) ((f_ref07_has a0.Kind (115:Int)).bind fun r143=>((f_ref07_int1 a0.Size r143).bind fun r148=>(grd ((((((((((r22++r27)++r36)++r50)++r64)++r78)++r92)++r106)++r120)++r134).length+r148.length≤274877906944) ((f_ref07_has a0.Kind (111:Int)).bind fun r157=>((f_ref07_int1 a0.Pos r157).bind fun r162=>(grd (((((((((((r22++r27)++r36)++r50)++r64)++r78)++r92)++r106)++r120)++r134)++r148).length+r162.length≤274877906944) ((((f_ref07_has a0.Kind (100:Int)).bind fun r173=>(if r173=true then((f_ref02_Text a0.Data).bind fun r179=>(grd ((((((((((((r22++r27)++r36)++r50)++r64)++r78)++r92)++r106)++r120)++r134)++r148)++r162).length+r179.length≤274877906944) (some ((((((((((((r22++r27)++r36)++r50)++r64)++r78)++r92)++r106)++r120)++r134)++r148)++r162)++r179))))else(some (((((((((((r22++r27)++r36)++r50)++r64)++r78)++r92)++r106)++r120)++r134)++r148)++r162)))):Option (List Int)).bind fun x171=>((f_ref07_has a0.Kind (98:Int)).bind fun r188=>((f_ref07_int1 (a0.Batches.length:Int) r188).bind fun r193=>(grd (x171.length+r193.length≤274877906944) ((((iter (f_ref07_Bytes_l0 a0) (x171++r193,(0:Int))).bind (fun(x207:(List Int))=>(some x207))):Option (List Int)).bind fun x202=>(some x202))))))))))))))))))))))))))))))))))))))
def f_ref07_Bytes_post (a0:T_api_Rpc) (v0_11 v0_14:Value):(List Int)→Value→IM→HL→Prop:=
 fun(r0:(List Int)) (v:Value) (M':IM) (H':HL)=>∃ vz0 cz0,vz0=v∧H'=[cz0]∧OwnS (Kd.int .u8) M' vz0 r0 cz0
theorem f_ref07_Bytes_ok (a0:T_api_Rpc) (M:IM) (v0_11 v0_14:Value) (h0_11:RS kd_api_Batch M v0_11 a0.Batches) (h0_14:RS (Kd.int .u8) M v0_14 a0.Data) (res:(List Int)) (h:f_ref07_Bytes a0=some res):
 Tri Tryz.prog 57 #[(a25_ a0 v0_11 v0_14)] M [] (f_ref07_Bytes_post a0 v0_11 v0_14 res):=by
 unfold f_ref07_Bytes at h
 refine Te Tryz.func57 Z Z ?_
 intro F ρ hρ
 refine Sr (We (EO.box (cs:=(l25 a0 v0_11 v0_14).toArray) (congrArg Value.cells (asE (a25_ a0 v0_11 v0_14) (hρ 0)))) Z ?_)
 rintro _ _ _ - ⟨rfl,g21,rfl,rfl⟩
 refine qa Zs (Ns (qu (pt g21 0) (Fa fo25_0 Z Z) (qu (Iv a0.Kind) (Lb 0 pl3 Z Z Z) (qa (Iv a0.Kind) (Ns (qu (pt g21 1) (Fa fo25_1 Z Z) (qu (Iv a0.From) (Lb 0 pl3 Z Z Z) ?_)))))))
 obtain ⟨r22,hr23,h⟩:=bnd h
 refine We (Ca co82 (f_ref02_Int_ok a0.From _ r22 hr23) (args1 Z)) Z ?_
 rintro _ M24 _ hle25 ⟨_,⟨vq26,cq26,rfl,rfl,hq26⟩,rfl⟩
 refine WL.a1 (qa vq26 (Ns (qm vq26 (qu (pt g21 2) (Fa fo25_2 Z Z) (qu (Iv a0.To) (Lb 1 pl3 Z Z Z) ?_)))))
 obtain ⟨r27,hr28,h⟩:=bnd h
 refine We (Ca co82 (f_ref02_Int_ok a0.To _ r27 hr28) (args1 Z)) Z ?_
 rintro _ M29 _ hle30 ⟨_,⟨vq31,cq31,rfl,rfl,hq31⟩,rfl⟩
 refine WL.a1 ?_
 obtain ⟨hg35,h⟩:=grd_i h
 refine WL.f1 ?_
 have hq26:=hq26.mono hle30
 refine We (EO.append (dd:=(Kd.int .u8)) (xs:=r22) (ys:=r27) Tryz.underlying23 Tryz.underlying23 in5 Z (appB (by decide) hg35) (by decide) Z Z hq26 (hq31.src 1 Z)) Z ?_
 rintro v34 _ _ - ⟨rfl,c32,rfl,h33⟩
 refine qa v34 (Ns (qm v34 (qu (pt g21 3) (Fa fo25_3 Z Z) (qu (Iv a0.Term) (Lb 2 pl3 Z Z Z) ?_))))
 obtain ⟨r36,hr37,h⟩:=bnd h
 refine We (Ca co82 (f_ref02_Int_ok a0.Term _ r36 hr37) (args1 Z)) Z ?_
 rintro _ M38 _ hle39 ⟨_,⟨vq40,cq40,rfl,rfl,hq40⟩,rfl⟩
 refine WL.a1 ?_
 obtain ⟨hg44,h⟩:=grd_i h
 refine WL.f1 ?_
 have h33:=h33.mono hle39
 refine We (EO.append (dd:=(Kd.int .u8)) (xs:=r22++r27) (ys:=r36) Tryz.underlying23 Tryz.underlying23 in5 Z (appB (by decide) hg44) (by decide) Z Z h33 (hq40.src 1 Z)) Z ?_
 rintro v43 _ _ - ⟨rfl,c41,rfl,h42⟩
 refine qa v43 (Nt (Cs (WC.draw [0,0,2,0,8,30,63,127] (.pure 0 (.pure 1 (.pure 2 (.pure 3 (.alt 4 (.alt 5 (.alt 6 (.alt 7 .done .none) .none) .none) .none))))) mixed (by kernel_rfl) (qt v43 Z (Mv Z) (qt (pt g21 4) Z (Fa fo25_4 Z Z) (qt (Bv a0.Pre) Z (Lb 3 pl4 Z Z Z) (qt (Iv a0.Kind) Z (Mv Z) ?_)))))))
 obtain ⟨r45,hr46,h⟩:=bnd h
 refine Ta Z (Ca co41 (f_ref07_has_ok a0.Kind (97:Int) _ r45 hr46) (args2 Z Z)) Z ?_ ?_
 rintro _ M47 _ hle48 ⟨_,⟨rfl,rfl⟩,rfl⟩
 have L48:=((hle25.trans hle30).trans hle39).trans hle48
 refine⟨(Sk 1 Z (Ss Z (Lb 3 pl4 Z Z Z) Z (Ss Z (Fa fo25_4 Z Z) Z (Ss Z (Mv Z) Z trivial)))), ?_⟩
 refine WT.a0 ?_
 obtain ⟨r50,hr51,h⟩:=bnd h
 refine Ta Z (Ca co83 (f_ref07_flag1_ok a0.Pre r45 _ r50 hr51) (args2 Z Z)) Z ?_ ?_
 rintro _ M52 _ hle53 ⟨_,⟨vq54,cq54,rfl,rfl,hq54⟩,rfl⟩
 have L53:=L48.trans hle53
 refine⟨(Sk 3 Z (Ss Z (Mv Z) Z trivial)), ?_⟩
 refine WT.a1 ?_
 obtain ⟨hg58,h⟩:=grd_i h
 refine WT.f1 ?_
 have h42:=h42.mono (hle48.trans hle53)
 refine Ta Z (EO.append (dd:=(Kd.int .u8)) (xs:=(r22++r27)++r36) (ys:=r50) Tryz.underlying23 Tryz.underlying23 in5 Z (appB (by decide) hg58) (by decide) Z Z h42 (hq54.src 1 Z)) Z ?_ ?_
 rintro v57 _ _ - ⟨rfl,c55,rfl,h56⟩
 refine⟨(Sl Z), ?_⟩
 refine Ta Z ((Ag Z).eo) Z ?_ ?_
 rintro _ _ _ - ⟨rfl,rfl,rfl⟩
 refine⟨(Sl Z), ?_⟩
 refine Ti (Tc (Cs (WC.draw [0,0,2,0,8,30,63,127] (.pure 0 (.pure 1 (.pure 2 (.pure 3 (.alt 4 (.alt 5 (.alt 6 (.alt 7 .done .none) .none) .none) .none))))) mixed (by kernel_rfl) (qt v57 Z (Mv Z) (qt (pt g21 5) Z (Fa fo25_5 Z Z) (qt (Bv a0.Ok) Z (Lb 4 pl4 Z Z Z) (qt (Iv a0.Kind) Z (Mv Z) ?_)))))))
 obtain ⟨r59,hr60,h⟩:=bnd h
 refine Ta Z (Ca co41 (f_ref07_has_ok a0.Kind (103:Int) _ r59 hr60) (args2 Z Z)) Z ?_ ?_
 rintro _ M61 _ hle62 ⟨_,⟨rfl,rfl⟩,rfl⟩
 have L62:=L53.trans hle62
 refine⟨(Sk 1 Z (Ss Z (Lb 4 pl4 Z Z Z) Z (Ss Z (Fa fo25_5 Z Z) Z (Ss Z (Mv Z) Z trivial)))), ?_⟩
 refine WT.a0 ?_
 obtain ⟨r64,hr65,h⟩:=bnd h
 refine Ta Z (Ca co83 (f_ref07_flag1_ok a0.Ok r59 _ r64 hr65) (args2 Z Z)) Z ?_ ?_
 rintro _ M66 _ hle67 ⟨_,⟨vq68,cq68,rfl,rfl,hq68⟩,rfl⟩
 have L67:=L62.trans hle67
 refine⟨(Sk 3 Z (Ss Z (Mv Z) Z trivial)), ?_⟩
 refine WT.a1 ?_
 obtain ⟨hg72,h⟩:=grd_i h
 refine WT.f1 ?_
 have h56:=h56.mono (hle62.trans hle67)
 refine Ta Z (EO.append (dd:=(Kd.int .u8)) (xs:=((r22++r27)++r36)++r50) (ys:=r64) Tryz.underlying23 Tryz.underlying23 in5 Z (appB (by decide) hg72) (by decide) Z Z h56 (hq68.src 1 Z)) Z ?_ ?_
 rintro v71 _ _ - ⟨rfl,c69,rfl,h70⟩
 refine⟨(Sl Z), ?_⟩
 refine Ta Z ((Ag Z).eo) Z ?_ ?_
 rintro _ _ _ - ⟨rfl,rfl,rfl⟩
 refine⟨(Sl Z), ?_⟩
 refine Ti (Tc (Cs (WC.draw [0,0,2,0,8,30,63,127] (.pure 0 (.pure 1 (.pure 2 (.pure 3 (.alt 4 (.alt 5 (.alt 6 (.alt 7 .done .none) .none) .none) .none))))) mixed (by kernel_rfl) (qt v71 Z (Mv Z) (qt (pt g21 6) Z (Fa fo25_6 Z Z) (qt (Iv a0.Leader) Z (Lb 5 pl3 Z Z Z) (qt (Iv a0.Kind) Z (Mv Z) ?_)))))))
 obtain ⟨r73,hr74,h⟩:=bnd h
 refine Ta Z (Ca co41 (f_ref07_has_ok a0.Kind (108:Int) _ r73 hr74) (args2 Z Z)) Z ?_ ?_
 rintro _ M75 _ hle76 ⟨_,⟨rfl,rfl⟩,rfl⟩
 have L76:=L67.trans hle76
 refine⟨(Sk 1 Z (Ss Z (Lb 5 pl3 Z Z Z) Z (Ss Z (Fa fo25_6 Z Z) Z (Ss Z (Mv Z) Z trivial)))), ?_⟩
 refine WT.a0 ?_
 obtain ⟨r78,hr79,h⟩:=bnd h
 refine Ta Z (Ca co84 (f_ref07_int1_ok a0.Leader r73 _ r78 hr79) (args2 Z Z)) Z ?_ ?_
 rintro _ M80 _ hle81 ⟨_,⟨vq82,cq82,rfl,rfl,hq82⟩,rfl⟩
 have L81:=L76.trans hle81
 refine⟨(Sk 3 Z (Ss Z (Mv Z) Z trivial)), ?_⟩
 refine WT.a1 ?_
 obtain ⟨hg86,h⟩:=grd_i h
 refine WT.f1 ?_
 have h70:=h70.mono (hle76.trans hle81)
 refine Ta Z (EO.append (dd:=(Kd.int .u8)) (xs:=(((r22++r27)++r36)++r50)++r64) (ys:=r78) Tryz.underlying23 Tryz.underlying23 in5 Z (appB (by decide) hg86) (by decide) Z Z h70 (hq82.src 1 Z)) Z ?_ ?_
 rintro v85 _ _ - ⟨rfl,c83,rfl,h84⟩
 refine⟨(Sl Z), ?_⟩
 refine Ta Z ((Ag Z).eo) Z ?_ ?_
 rintro _ _ _ - ⟨rfl,rfl,rfl⟩
 refine⟨(Sl Z), ?_⟩
 refine Ti (Tc (Cs (WC.draw [0,0,2,0,8,30,63,127] (.pure 0 (.pure 1 (.pure 2 (.pure 3 (.alt 4 (.alt 5 (.alt 6 (.alt 7 .done .none) .none) .none) .none))))) mixed (by kernel_rfl) (qt v85 Z (Mv Z) (qt (pt g21 7) Z (Fa fo25_7 Z Z) (qt (Iv a0.At) Z (Lb 6 pl3 Z Z Z) (qt (Iv a0.Kind) Z (Mv Z) ?_)))))))
 obtain ⟨r87,hr88,h⟩:=bnd h
 refine Ta Z (Ca co41 (f_ref07_has_ok a0.Kind (112:Int) _ r87 hr88) (args2 Z Z)) Z ?_ ?_
 rintro _ M89 _ hle90 ⟨_,⟨rfl,rfl⟩,rfl⟩
 have L90:=L81.trans hle90
 refine⟨(Sk 1 Z (Ss Z (Lb 6 pl3 Z Z Z) Z (Ss Z (Fa fo25_7 Z Z) Z (Ss Z (Mv Z) Z trivial)))), ?_⟩
 refine WT.a0 ?_
 obtain ⟨r92,hr93,h⟩:=bnd h
 refine Ta Z (Ca co84 (f_ref07_int1_ok a0.At r87 _ r92 hr93) (args2 Z Z)) Z ?_ ?_
 rintro _ M94 _ hle95 ⟨_,⟨vq96,cq96,rfl,rfl,hq96⟩,rfl⟩
 have L95:=L90.trans hle95
 refine⟨(Sk 3 Z (Ss Z (Mv Z) Z trivial)), ?_⟩
 refine WT.a1 ?_
 obtain ⟨hg100,h⟩:=grd_i h
 refine WT.f1 ?_
 have h84:=h84.mono (hle90.trans hle95)
 refine Ta Z (EO.append (dd:=(Kd.int .u8)) (xs:=((((r22++r27)++r36)++r50)++r64)++r78) (ys:=r92) Tryz.underlying23 Tryz.underlying23 in5 Z (appB (by decide) hg100) (by decide) Z Z h84 (hq96.src 1 Z)) Z ?_ ?_
 rintro v99 _ _ - ⟨rfl,c97,rfl,h98⟩
 refine⟨(Sl Z), ?_⟩
 refine Ta Z ((Ag Z).eo) Z ?_ ?_
 rintro _ _ _ - ⟨rfl,rfl,rfl⟩
 refine⟨(Sl Z), ?_⟩
 refine Ti (Tc (Cs (WC.draw [0,0,2,0,8,30,63,127] (.pure 0 (.pure 1 (.pure 2 (.pure 3 (.alt 4 (.alt 5 (.alt 6 (.alt 7 .done .none) .none) .none) .none))))) mixed (by kernel_rfl) (qt v99 Z (Mv Z) (qt (pt g21 8) Z (Fa fo25_8 Z Z) (qt (Iv a0.AtTerm) Z (Lb 7 pl3 Z Z Z) (qt (Iv a0.Kind) Z (Mv Z) ?_)))))))
 obtain ⟨r101,hr102,h⟩:=bnd h
 refine Ta Z (Ca co41 (f_ref07_has_ok a0.Kind (112:Int) _ r101 hr102) (args2 Z Z)) Z ?_ ?_
 rintro _ M103 _ hle104 ⟨_,⟨rfl,rfl⟩,rfl⟩
 have L104:=L95.trans hle104
 refine⟨(Sk 1 Z (Ss Z (Lb 7 pl3 Z Z Z) Z (Ss Z (Fa fo25_8 Z Z) Z (Ss Z (Mv Z) Z trivial)))), ?_⟩
 refine WT.a0 ?_
 obtain ⟨r106,hr107,h⟩:=bnd h
 refine Ta Z (Ca co84 (f_ref07_int1_ok a0.AtTerm r101 _ r106 hr107) (args2 Z Z)) Z ?_ ?_
 rintro _ M108 _ hle109 ⟨_,⟨vq110,cq110,rfl,rfl,hq110⟩,rfl⟩
 have L109:=L104.trans hle109
 refine⟨(Sk 3 Z (Ss Z (Mv Z) Z trivial)), ?_⟩
 refine WT.a1 ?_
 obtain ⟨hg114,h⟩:=grd_i h
 refine WT.f1 ?_
 have h98:=h98.mono (hle104.trans hle109)
 refine Ta Z (EO.append (dd:=(Kd.int .u8)) (xs:=(((((r22++r27)++r36)++r50)++r64)++r78)++r92) (ys:=r106) Tryz.underlying23 Tryz.underlying23 in5 Z (appB (by decide) hg114) (by decide) Z Z h98 (hq110.src 1 Z)) Z ?_ ?_
 rintro v113 _ _ - ⟨rfl,c111,rfl,h112⟩
 refine⟨(Sl Z), ?_⟩
 refine Ta Z ((Ag Z).eo) Z ?_ ?_
 rintro _ _ _ - ⟨rfl,rfl,rfl⟩
 refine⟨(Sl Z), ?_⟩
 refine Ti (Tc (Cs (WC.draw [0,0,2,0,8,30,63,127] (.pure 0 (.pure 1 (.pure 2 (.pure 3 (.alt 4 (.alt 5 (.alt 6 (.alt 7 .done .none) .none) .none) .none))))) mixed (by kernel_rfl) (qt v113 Z (Mv Z) (qt (pt g21 9) Z (Fa fo25_9 Z Z) (qt (Iv a0.High) Z (Lb 8 pl3 Z Z Z) (qt (Iv a0.Kind) Z (Mv Z) ?_)))))))
 obtain ⟨r115,hr116,h⟩:=bnd h
 refine Ta Z (Ca co41 (f_ref07_has_ok a0.Kind (104:Int) _ r115 hr116) (args2 Z Z)) Z ?_ ?_
 rintro _ M117 _ hle118 ⟨_,⟨rfl,rfl⟩,rfl⟩
 have L118:=L109.trans hle118
 refine⟨(Sk 1 Z (Ss Z (Lb 8 pl3 Z Z Z) Z (Ss Z (Fa fo25_9 Z Z) Z (Ss Z (Mv Z) Z trivial)))), ?_⟩
 refine WT.a0 ?_
 obtain ⟨r120,hr121,h⟩:=bnd h
 refine Ta Z (Ca co84 (f_ref07_int1_ok a0.High r115 _ r120 hr121) (args2 Z Z)) Z ?_ ?_
 rintro _ M122 _ hle123 ⟨_,⟨vq124,cq124,rfl,rfl,hq124⟩,rfl⟩
 have L123:=L118.trans hle123
 refine⟨(Sk 3 Z (Ss Z (Mv Z) Z trivial)), ?_⟩
 refine WT.a1 ?_
 obtain ⟨hg128,h⟩:=grd_i h
 refine WT.f1 ?_
 have h112:=h112.mono (hle118.trans hle123)
 refine Ta Z (EO.append (dd:=(Kd.int .u8)) (xs:=((((((r22++r27)++r36)++r50)++r64)++r78)++r92)++r106) (ys:=r120) Tryz.underlying23 Tryz.underlying23 in5 Z (appB (by decide) hg128) (by decide) Z Z h112 (hq124.src 1 Z)) Z ?_ ?_
 rintro v127 _ _ - ⟨rfl,c125,rfl,h126⟩
 refine⟨(Sl Z), ?_⟩
 refine Ta Z ((Ag Z).eo) Z ?_ ?_
 rintro _ _ _ - ⟨rfl,rfl,rfl⟩
 refine⟨(Sl Z), ?_⟩
 refine Ti (Tc (Cs (WC.draw [0,0,2,0,8,30,63,127] (.pure 0 (.pure 1 (.pure 2 (.pure 3 (.alt 4 (.alt 5 (.alt 6 (.alt 7 .done .none) .none) .none) .none))))) mixed (by kernel_rfl) (qt v127 Z (Mv Z) (qt (pt g21 10) Z (Fa fo25_10 Z Z) (qt (Iv a0.Code) Z (Lb 9 pl3 Z Z Z) (qt (Iv a0.Kind) Z (Mv Z) ?_)))))))
 obtain ⟨r129,hr130,h⟩:=bnd h
 refine Ta Z (Ca co41 (f_ref07_has_ok a0.Kind (99:Int) _ r129 hr130) (args2 Z Z)) Z ?_ ?_
 rintro _ M131 _ hle132 ⟨_,⟨rfl,rfl⟩,rfl⟩
 have L132:=L123.trans hle132
 refine⟨(Sk 1 Z (Ss Z (Lb 9 pl3 Z Z Z) Z (Ss Z (Fa fo25_10 Z Z) Z (Ss Z (Mv Z) Z trivial)))), ?_⟩
 refine WT.a0 ?_
 obtain ⟨r134,hr135,h⟩:=bnd h
 refine Ta Z (Ca co84 (f_ref07_int1_ok a0.Code r129 _ r134 hr135) (args2 Z Z)) Z ?_ ?_
 rintro _ M136 _ hle137 ⟨_,⟨vq138,cq138,rfl,rfl,hq138⟩,rfl⟩
 have L137:=L132.trans hle137
 refine⟨(Sk 3 Z (Ss Z (Mv Z) Z trivial)), ?_⟩
 refine WT.a1 ?_
 obtain ⟨hg142,h⟩:=grd_i h
 refine WT.f1 ?_
 have h126:=h126.mono (hle132.trans hle137)
 refine Ta Z (EO.append (dd:=(Kd.int .u8)) (xs:=(((((((r22++r27)++r36)++r50)++r64)++r78)++r92)++r106)++r120) (ys:=r134) Tryz.underlying23 Tryz.underlying23 in5 Z (appB (by decide) hg142) (by decide) Z Z h126 (hq138.src 1 Z)) Z ?_ ?_
 rintro v141 _ _ - ⟨rfl,c139,rfl,h140⟩
 refine⟨(Sl Z), ?_⟩
 refine Ta Z ((Ag Z).eo) Z ?_ ?_
 rintro _ _ _ - ⟨rfl,rfl,rfl⟩
 refine⟨(Sl Z), ?_⟩
 refine Ti (Tc (Cs (WC.draw [0,0,2,0,8,30,63,127] (.pure 0 (.pure 1 (.pure 2 (.pure 3 (.alt 4 (.alt 5 (.alt 6 (.alt 7 .done .none) .none) .none) .none))))) mixed (by kernel_rfl) (qt v141 Z (Mv Z) (qt (pt g21 12) Z (Fa fo25_12 Z Z) (qt (Iv a0.Size) Z (Lb 10 pl3 Z Z Z) (qt (Iv a0.Kind) Z (Mv Z) ?_)))))))
 obtain ⟨r143,hr144,h⟩:=bnd h
 refine Ta Z (Ca co41 (f_ref07_has_ok a0.Kind (115:Int) _ r143 hr144) (args2 Z Z)) Z ?_ ?_
 rintro _ M145 _ hle146 ⟨_,⟨rfl,rfl⟩,rfl⟩
 have L146:=L137.trans hle146
 refine⟨(Sk 1 Z (Ss Z (Lb 10 pl3 Z Z Z) Z (Ss Z (Fa fo25_12 Z Z) Z (Ss Z (Mv Z) Z trivial)))), ?_⟩
 refine WT.a0 ?_
 obtain ⟨r148,hr149,h⟩:=bnd h
 refine Ta Z (Ca co84 (f_ref07_int1_ok a0.Size r143 _ r148 hr149) (args2 Z Z)) Z ?_ ?_
 rintro _ M150 _ hle151 ⟨_,⟨vq152,cq152,rfl,rfl,hq152⟩,rfl⟩
 have L151:=L146.trans hle151
 refine⟨(Sk 3 Z (Ss Z (Mv Z) Z trivial)), ?_⟩
 refine WT.a1 ?_
 obtain ⟨hg156,h⟩:=grd_i h
 refine WT.f1 ?_
 have h140:=h140.mono (hle146.trans hle151)
 refine Ta Z (EO.append (dd:=(Kd.int .u8)) (xs:=((((((((r22++r27)++r36)++r50)++r64)++r78)++r92)++r106)++r120)++r134) (ys:=r148) Tryz.underlying23 Tryz.underlying23 in5 Z (appB (by decide) hg156) (by decide) Z Z h140 (hq152.src 1 Z)) Z ?_ ?_
 rintro v155 _ _ - ⟨rfl,c153,rfl,h154⟩
 refine⟨(Sl Z), ?_⟩
 refine Ta Z ((Ag Z).eo) Z ?_ ?_
 rintro _ _ _ - ⟨rfl,rfl,rfl⟩
 refine⟨(Sl Z), ?_⟩
 refine Ti (Tc (Cs (WC.draw [0,0,2,0,8,30,63,127] (.pure 0 (.pure 1 (.pure 2 (.pure 3 (.alt 4 (.alt 5 (.alt 6 (.alt 7 .done .none) .none) .none) .none))))) mixed (by kernel_rfl) (qt v155 Z (Mv Z) (qt (pt g21 13) Z (Fa fo25_13 Z Z) (qt (Iv a0.Pos) Z (Lb 11 pl3 Z Z Z) (qt (Iv a0.Kind) Z (Mv Z) ?_)))))))
 obtain ⟨r157,hr158,h⟩:=bnd h
 refine Ta Z (Ca co41 (f_ref07_has_ok a0.Kind (111:Int) _ r157 hr158) (args2 Z Z)) Z ?_ ?_
 rintro _ M159 _ hle160 ⟨_,⟨rfl,rfl⟩,rfl⟩
 have L160:=L151.trans hle160
 refine⟨(Sk 1 Z (Ss Z (Lb 11 pl3 Z Z Z) Z (Ss Z (Fa fo25_13 Z Z) Z (Ss Z (Mv Z) Z trivial)))), ?_⟩
 refine WT.a0 ?_
 obtain ⟨r162,hr163,h⟩:=bnd h
 refine Ta Z (Ca co84 (f_ref07_int1_ok a0.Pos r157 _ r162 hr163) (args2 Z Z)) Z ?_ ?_
 rintro _ M164 _ hle165 ⟨_,⟨vq166,cq166,rfl,rfl,hq166⟩,rfl⟩
 have L165:=L160.trans hle165
 refine⟨(Sk 3 Z (Ss Z (Mv Z) Z trivial)), ?_⟩
 refine WT.a1 ?_
 obtain ⟨hg170,h⟩:=grd_i h
 refine WT.f1 ?_
 have h154:=h154.mono (hle160.trans hle165)
 refine Ta Z (EO.append (dd:=(Kd.int .u8)) (xs:=(((((((((r22++r27)++r36)++r50)++r64)++r78)++r92)++r106)++r120)++r134)++r148) (ys:=r162) Tryz.underlying23 Tryz.underlying23 in5 Z (appB (by decide) hg170) (by decide) Z Z h154 (hq166.src 1 Z)) Z ?_ ?_
 rintro v169 _ _ - ⟨rfl,c167,rfl,h168⟩
 refine⟨(Sl Z), ?_⟩
 refine Ta Z ((Ag Z).eo) Z ?_ ?_
 rintro _ _ _ - ⟨rfl,rfl,rfl⟩
 refine⟨(Sl Z), ?_⟩
 refine Ti (Tc ?_)
 obtain ⟨x171,hj172,h⟩:=bnd h
 refine Jf (fun(x171:(List Int)) ρ' M' H'=>∃ vx171 cx171,M164.le M'∧[(g21, .cells (l25 a0 v0_11 v0_14).toArray 25 (0,0))]::cx171::F=H'∧ρ' 1=(pt g21 0)∧ρ' 3=(Iv a0.Kind)∧ρ' 4=vx171∧OwnS (Kd.int .u8) M' vx171 x171 cx171) x171 ?_ ?_
 have h:=hj172
 refine Sr (qm (Iv a0.Kind) ?_)
 obtain ⟨r173,hr174,h⟩:=bnd h
 refine We (Ca co41 (f_ref07_has_ok a0.Kind (100:Int) _ r173 hr174) (args2 Z Z)) Z ?_
 rintro _ M175 _ hle176 ⟨_,⟨rfl,rfl⟩,rfl⟩
 refine WL.a0 (Nt (Ch h Z (fun hb178 h=> ?_) (fun hb178 h=> ?_)))
 refine Cg (qm v169 (qu (pt g21 14) (Fa fo25_14 Z Z) (qu v0_14 (Lb 12 pl23 Z Z Z) ?_)))
 obtain ⟨r179,hr180,h⟩:=bnd h
 have h0_14:=h0_14.mono (L165.trans hle176)
 refine We (Ca co85 (f_ref02_Text_ok a0.Data _ _ h0_14 r179 hr180) (args1 Z)) Z ?_
 rintro _ M181 _ hle182 ⟨_,⟨vq183,cq183,rfl,rfl,hq183⟩,rfl⟩
 refine WL.a1 ?_
 obtain ⟨hg187,h⟩:=grd_i h
 refine WL.f1 ?_
 have h168:=h168.mono (hle176.trans hle182)
 refine We (EO.append (dd:=(Kd.int .u8)) (xs:=((((((((((r22++r27)++r36)++r50)++r64)++r78)++r92)++r106)++r120)++r134)++r148)++r162) (ys:=r179) Tryz.underlying23 Tryz.underlying23 in5 Z (appB (by decide) hg187) (by decide) Z Z h168 (hq183.src 1 Z)) Z ?_
 rintro v186 _ _ - ⟨rfl,c184,rfl,h185⟩
 refine qa v186 (Wz (Qa (Dr (Qa (Dr (Qa (Dr (Qa (Dr (Qa (Dr ?_)))))))))))
 refine Qa (Dr (Qa (Dr (Qa (Dr (Qa (Dr (Qa (Dr (Qa (Dr ?_)))))))))))
 refine Qa (Dr (Qa ?_))
 obtain rfl:=oi h
 exact Tj ⟨v186,c184,(hle176.trans hle182),Z,Z,Z,Z,h185⟩
 refine Ck (Qa (Dr (Qa (Dr (Qa (Dr (Qa (Dr (Qa (Dr (Qa ?_)))))))))))
 refine Dr (Qa (Dr (Qa (Dr (Qa (Dr (Qa (Dr (Qa (Dr (Qa ?_)))))))))))
 obtain rfl:=oi h
 refine Tj ?_
 have h168:=h168.mono hle176
 exact⟨v169,c167,hle176,Z,Z,Z,Z,h168⟩
 rintro ρ172 M172 H172 ⟨vx171,cx171,hle172,rfl,hs172_1,hs172_3,hs172_4,hx171⟩
 refine Cs (WC.draw [0,0,2,6,0,16,62,127,255] (.pure 0 (.pure 1 (.pure 2 (.pure 3 (.pure 4 (.alt 5 (.alt 6 (.alt 7 (.alt 8 .done .none) .none) .none) .none)))))) mixed (by kernel_rfl) (qt vx171 Z (Mv hs172_4) (qt (pt g21 11) Z (Fa fo25_11 hs172_1 Z) (qt v0_11 Z (Lb 0 pl22 Z Z Z) ?_))))
 have h0_11:=h0_11.mono (L165.trans hle172)
 refine qt (Iv (a0.Batches.length:Int)) Z (PO.lenS Tryz.underlying22 Z h0_11.len) (qt (Iv a0.Kind) Z (Mv hs172_3) ?_)
 obtain ⟨r188,hr189,h⟩:=bnd h
 refine Ta Z (Ca co41 (f_ref07_has_ok a0.Kind (98:Int) _ r188 hr189) (args2 Z Z)) Z ?_ ?_
 rintro _ M190 _ hle191 ⟨_,⟨rfl,rfl⟩,rfl⟩
 have h0_11:=h0_11.mono hle191
 refine⟨(Sk 1 Z (Ss Z (PO.lenS Tryz.underlying22 Z h0_11.len) Z (Ss Z (Lb 0 pl22 Z Z Z) Z (Ss Z (Fa fo25_11 hs172_1 Z) Z (Ss Z (Mv hs172_4) Z trivial))))), ?_⟩
 refine WT.a0 ?_
 obtain ⟨r193,hr194,h⟩:=bnd h
 refine Ta Z (Ca co84 (f_ref07_int1_ok (a0.Batches.length:Int) r188 _ r193 hr194) (args2 Z Z)) Z ?_ ?_
 rintro _ M195 _ hle196 ⟨_,⟨vq197,cq197,rfl,rfl,hq197⟩,rfl⟩
 refine⟨(Sk 4 Z (Ss Z (Mv hs172_4) Z trivial)), ?_⟩
 refine WT.a1 ?_
 obtain ⟨hg201,h⟩:=grd_i h
 refine WT.f2 ?_
 have hx171:=hx171.mono (hle191.trans hle196)
 refine Ta Z (EO.append (dd:=(Kd.int .u8)) (xs:=x171) (ys:=r193) Tryz.underlying23 Tryz.underlying23 in5 Z (appB (by decide) hg201) (by decide) Z Z hx171 (hq197.src 1 Z)) Z ?_ ?_
 rintro v200 _ _ - ⟨rfl,c198,rfl,h199⟩
 refine⟨(Sl Z), ?_⟩
 refine Ta Z ((Ag Z).eo) Z ?_ ?_
 rintro _ _ _ - ⟨rfl,rfl,rfl⟩
 refine⟨(Sl Z), ?_⟩
 refine Ti (Tc ?_)
 obtain ⟨x202,hj203,h⟩:=bnd h
 refine Jf (fun(x202:(List Int)) ρ' M' H'=>∃ vx202 cx202,M195.le M'∧[(g21, .cells (l25 a0 v0_11 v0_14).toArray 25 (0,0))]::cx202::F=H'∧ρ' 4=vx202∧OwnS (Kd.int .u8) M' vx202 x202 cx202) x202 ?_ ?_
 have h:=hj203
 refine Sr (qa (Iv 0) (Nt (Bk (WC.f1 (WC.drop (WC.f1 ?_))))))
 obtain ⟨e204,he204,hK204⟩:=bnd h
 clear h
 refine WC.loop he204 (fun(p_:((List Int)×Int)) ρ' M' H'=>match p_ with |(x205,x206)=>∃ vx205 cx205,M195.le M'∧[(g21, .cells (l25 a0 v0_11 v0_14).toArray 25 (0,0))]::cx205::F=H'∧ρ' 1=(pt g21 0)∧ρ' 4=vx205∧ρ' 5=(Iv x206)∧OwnS (Kd.int .u8) M' vx205 x205 cx205) ?_ ?_
 exact⟨v200,c198,lr,Z,hs172_1,Z,Z,h199⟩
 rintro ⟨x205,x206⟩ o204 ρ204 M204 H204 h ⟨vx205,cx205,hle204,rfl,hs204_1,hs204_4,hs204_5,hx205⟩
 unfold f_ref07_Bytes_l0 at h
 refine Cs (Sr (qM (Iv x206) hs204_5 (qu (pt g21 11) (Fa fo25_11 hs204_1 Z) (qu v0_11 (Lb 0 pl22 Z Z Z) ?_))))
 have h0_11:=h0_11.mono (hle196.trans hle204)
 refine qu (Iv (a0.Batches.length:Int)) (PO.lenS Tryz.underlying22 Z h0_11.len) (qu (Bv (decide (x206<(a0.Batches.length:Int)))) (PO.lss Z Z) (Nt (Ch h Z (fun hb208 h=> ?_) (fun hb208 h=> ?_))))
 refine Ck (Tc (Cs (Bk (Cg (qM vx205 hs204_4 (qu (pt g21 11) (Fa fo25_11 hs204_1 Z) (qu v0_11 (Lb 0 pl22 Z Z Z) (qM (Iv x206) hs204_5 ?_))))))))
 obtain ⟨hg209,h⟩:=grd_i h
 obtain ⟨p210,cs211,hat212,hrc213,hhas214⟩:=h0_11.at hg209.1 hg209.2 (by decide)
 obtain ⟨vw215_2,rfl,hw215_2⟩:=kd_api_Batch_open hrc213
 refine qu (.pointer (some p210)) (PO.indexAddr (n:=a0.Batches.length) Tryz.underlying22 sz55 Z Z hg209.1 hg209.2 hat212) (qu (a55_ (rd a0.Batches x206) vw215_2) (PO.loadMA (cs:=(l55 (rd a0.Batches x206) vw215_2)) ag55 sz55 Z hhas214) ?_)
 obtain ⟨r216,hr217,h⟩:=bnd h
 refine We (Ca co81 (f_ref06_Bytes_ok (rd a0.Batches x206) _ _ hw215_2 r216 hr217) (args1 Z)) Z ?_
 rintro _ M218 _ hle219 ⟨_,⟨vq220,cq220,rfl,rfl,hq220⟩,rfl⟩
 refine WL.a1 ?_
 obtain ⟨hg224,h⟩:=grd_i h
 refine Wb ?_
 have hx205:=hx205.mono hle219
 refine We (EO.append (dd:=(Kd.int .u8)) (xs:=x205) (ys:=r216) Tryz.underlying23 Tryz.underlying23 in5 Z (appB (by decide) hg224) (by decide) Z Z hx205 (hq220.src 1 Z)) Z ?_
 rintro v223 _ _ - ⟨rfl,c221,rfl,h222⟩
 refine qa v223 (Wz (Bn (Tc (Cg (qM (Iv x206) hs204_5 (qu (Iv (IntKind.i64.wrap (x206+1))) (PO.add Z Z) (qa (Iv (IntKind.i64.wrap (x206+1))) (Wz (Qa (Dr (Qa ?_)))))))))))
 exact WQ.again (x205++r216,IntKind.i64.wrap (x206+1)) (oi h).symm ⟨v223,c221,(hle204.trans hle219),Z,hs204_1,Z,Z,h222⟩
 refine WC.exit (WQ.thenE (WQ.leaveE x205 (oi h).symm (fun heq204=> ?_)))
 subst heq204
 have h:=hK204
 refine WQ.blockH ?_
 obtain rfl:=oi h
 exact Tj ⟨vx205,cx205,hle204,Z,hs204_4,hx205⟩
 rintro ρ203 M203 H203 ⟨vx202,cx202,hle203,rfl,hs203_4,hx202⟩
 exact Sr (qM vx202 hs203_4 (qa vx202 (Nt (Cr (Dr (Rf h [cx202] Z (Rs Z Z) ((((L165.trans hle172).trans hle191).trans hle196).trans hle203) ⟨vx202,cx202,Z,Z,hx202⟩))))))
 exact Tz
 exact Tz
 exact Tz
 exact Tz
 exact Tz
 exact Tz
 exact Tz
 exact Tz
 exact Tz
 exact Tz
 exact Tz
 exact Tz
 exact Tz
 exact Tz
 exact Tz
 exact Tz
 exact Tz
 exact Tz
 exact Tz
 exact Tz
 exact Tz
 exact Tz
 exact Tz
 exact Tz
 exact Tz
 exact Tz
 exact Tz
 exact Tz
 exact Tz
 exact Tz
 exact Tz
 exact Tz
 exact Tz
 exact Tz
 exact Tz
 exact Tz
 exact Tz
 exact Tz
 exact Tz
 exact Tz
noncomputable def f_ref07_Put_l0 (a0:T_api_Rpc) (s_:Int):Option (Int⊕(Unit⊕(ByteArray×Int×Int×Int))):=
 match s_ with
 |x34=>
 (if(decide (x34<(a0.Batches.length:Int)))=true then(grd (0≤x34∧x34<a0.Batches.length) ((f_ref06_Put (rd a0.Batches x34)).bind fun(r47,r48)=>(if(decide (r48.W.Code≠(0:Int)))=true then(some (Sum.inr (Sum.inr (r48.W.Op,x34,r48.W.Code,(-1:Int)))))else(some (Sum.inl (IntKind.i64.wrap (x34+(1:Int))))))))else(some (Sum.inr (Sum.inl ()))))
noncomputable def f_ref07_Put (a0:T_api_Rpc):Option (T_api_Frame×T_ref06_Wrong):=
 ((f_ref07_Check a0).bind fun r24=>(if(decide (r24.W.Code≠(0:Int)))=true then(some ((⟨(0:Int),[]⟩:T_api_Frame),r24))else((((iter (f_ref07_Put_l0 a0) (0:Int)).bind (Sum.elim (fun _=>(some (Sum.inl ()))) (fun(x35,x36,x37,x38)=>(((some ((⟨(0:Int),[]⟩:T_api_Frame),(⟨(⟨x35,x36,x37⟩:T_ref05_Wrong),x38⟩:T_ref06_Wrong)))).bind fun r=>some (Sum.inr r))))):Option (Unit⊕(T_api_Frame×T_ref06_Wrong))).bind (Sum.elim (fun _=>((f_ref07_Bytes a0).bind fun r58=>(if(decide ((16384:Int)<(r58.length:Int)))=true then((f_ref07_no (⟨#[109,101,115,115,97,103,101]⟩:ByteArray) (r58.length:Int) (6:Int)).bind fun r64=>(some ((⟨(0:Int),[]⟩:T_api_Frame),r64)))else(some ((⟨a0.Kind,r58⟩:T_api_Frame),lit5_))))) some))))
def f_ref07_Put_post (a0:T_api_Rpc) (v0_11 v0_14:Value):(T_api_Frame×T_ref06_Wrong)→Value→IM→HL→Prop:=
 fun(p_:(T_api_Frame×T_ref06_Wrong)) (v:Value) (M':IM) (H':HL)=>match p_ with |(r0,r1)=>∃ vz0_1 cz0_1,(.tuple #[(.agg #[(.int .i64 r0.Kind),vz0_1]),(.agg #[(.string r1.W.Op),(.int .i64 r1.W.At),(.int .i64 r1.W.Code),(.int .i64 r1.Record)])])=v∧H'=[cz0_1]∧OwnS (Kd.int .u8) M' vz0_1 r0.Body cz0_1
theorem f_ref07_Put_ok (a0:T_api_Rpc) (M:IM) (v0_11 v0_14:Value) (h0_11:RS kd_api_Batch M v0_11 a0.Batches) (h0_14:RS (Kd.int .u8) M v0_14 a0.Data) (res:(T_api_Frame×T_ref06_Wrong)) (h:f_ref07_Put a0=some res):
 Tri Tryz.prog 19 #[(a25_ a0 v0_11 v0_14)] M [] (f_ref07_Put_post a0 v0_11 v0_14 res):=by
 unfold f_ref07_Put at h
 refine Te Tryz.func19 Z Z ?_
 intro F ρ hρ
 refine Sr (We (EO.box (cs:=(l25 a0 v0_11 v0_14).toArray) (congrArg Value.cells (asE (a25_ a0 v0_11 v0_14) (hρ 0)))) Z ?_)
 rintro _ _ _ - ⟨rfl,g21,rfl,rfl⟩
 refine We (Al ze29 Z) Z ?_
 rintro _ _ _ - ⟨rfl,g22,rfl,rfl⟩
 refine We (Al ze42 Z) Z ?_
 rintro _ _ _ - ⟨rfl,g23,rfl,rfl⟩
 refine Nt (Cs (Sr (qu (a25_ a0 v0_11 v0_14) (La (cs:=(l25 a0 v0_11 v0_14)) 2 ag25 sz25 Z Z Z) ?_)))
 obtain ⟨r24,hr25,h⟩:=bnd h
 refine We (Ca co14 (f_ref07_Check_ok a0 _ _ _ h0_11 h0_14 r24 hr25) (args1 Z)) Z ?_
 rintro _ M26 _ hle27 ⟨_,⟨rfl,rfl⟩,rfl⟩
 refine WL.a0 (We (Al ze42 Z) Z ?_)
 rintro _ _ _ - ⟨rfl,g29,rfl,rfl⟩
 refine We (Sg (v:=(a42_ r24)) (vl:=(l42 r24)) (arr':=(l42 r24)) Z sz42 Z Z (onb Z) Z Z Z) Z ?_
 rintro _ _ _ - ⟨rfl,rfl⟩
 refine Ns (qu (pt g29 0) (Fa fo42_0 Z Z) (qu (pt g29 2) (Fa fo40_2 Z Z) (qu (Iv r24.W.Code) (Lb 0 pl38 Z Z Z) (qu (Bv (decide (r24.W.Code≠0))) (PO.neq Z Z) (Nt (Ch h Z (fun hb30 h=> ?_) (fun hb30 h=> ?_)))))))
 refine Cs (WC.draw [0,0,1,7] (.pure 0 (.pure 1 (.alt 2 (.alt 3 .done .none) .none))) mixed (by kernel_rfl) (qt (.agg #[(Iv 0),Zs]) Z (Bl (cl:=[(Iv 0),Zs]) ze29 fp29 Pz Z) (qt (a42_ r24) Z (La (cs:=(l42 r24)) 0 ag42 sz42 Z Z Z) (WT.f2 (Ta Z (Sg (v:=(.agg #[(Iv 0),Zs])) (vl:=[(Iv 0),Zs]) (arr':=[(Iv 0),Zs]) Z sz29 Z Z (onb Z) Z Z Z) Z ?_ ?_)))))
 rintro _ _ _ - ⟨rfl,rfl⟩
 refine⟨(Ss Z (La (cs:=(l42 r24)) 1 ag42 sz42 Z Z Z) Z (Sl Z)), ?_⟩
 refine WT.f2 (Ta Z (Sg (v:=(a42_ r24)) (vl:=(l42 r24)) (arr':=(l42 r24)) Z sz42 Z Z (onb Z) Z Z Z) Z ?_ ?_)
 rintro _ _ _ - ⟨rfl,rfl⟩
 refine⟨(Sl Z), ?_⟩
 exact Ti (Tc (Cr (Tr (WQ.e0 (WQ.f3 (Dr (WQ.f3 (Dr (Qa (Qb (Rd h [[]] (fun _ hs=>hs.drop.drop) (resultsLN Z (RVs.cons (Rc (cs:=[(Iv 0),Zs]) 0 ag29 sz29 Z Z Z) (RVs.cons (Rc (cs:=(l42 r24)) 1 ag42 sz42 Z Z Z) RVs.nil))) hle27 ⟨Zs,[],Z,Z,(OwnS.nil _ _)⟩)))))))))))
 exact Tz
 exact Tz
 refine Ck (Tc ?_)
 obtain ⟨j32,hj32,h⟩:=bnd h
 refine WC.joinE (fun(_:Unit) ρ' M' H'=>M26.le M'∧[(g29, .cells (l42 r24).toArray 42 (0,0))]::[(g23, .cells z42_.toArray 42 (0,0))]::[(g22, .cells #[(Iv 0),Zs] 29 (0,0))]::[(g21, .cells (l25 a0 v0_11 v0_14).toArray 25 (0,0))]::F=H'∧ρ' 1=(pt g21 0)∧ρ' 2=(pt g22 0)∧ρ' 3=(pt g23 0)) j32 ?_ ?_
 have h332:=h
 have h:=hj32
 refine Sr (qa (Iv 0) (Nt (Bk ?_)))
 obtain ⟨e33,he33,hK33⟩:=bnd h
 clear h
 refine WC.loop he33 (fun(x34:Int) ρ' M' H'=>M26.le M'∧[(g29, .cells (l42 r24).toArray 42 (0,0))]::[(g23, .cells z42_.toArray 42 (0,0))]::[(g22, .cells #[(Iv 0),Zs] 29 (0,0))]::[(g21, .cells (l25 a0 v0_11 v0_14).toArray 25 (0,0))]::F=H'∧ρ' 1=(pt g21 0)∧ρ' 2=(pt g22 0)∧ρ' 3=(pt g23 0)∧ρ' 5=(Iv x34)) ?_ ?_
 exact⟨lr,Z,Z,Z,Z,Z⟩
 rintro x34 o33 ρ33 M33 H33 h ⟨hle33,rfl,hs33_1,hs33_2,hs33_3,hs33_5⟩
 unfold f_ref07_Put_l0 at h
 refine Cs (Sr (qM (Iv x34) hs33_5 (qu (pt g21 11) (Fa fo25_11 hs33_1 Z) (qu v0_11 (Lb 3 pl22 Z Z Z) ?_))))
 have h0_11:=h0_11.mono (hle27.trans hle33)
 refine qu (Iv (a0.Batches.length:Int)) (PO.lenS Tryz.underlying22 Z h0_11.len) (qu (Bv (decide (x34<(a0.Batches.length:Int)))) (PO.lss Z Z) (Nt (Ch h Z (fun hb39 h=> ?_) (fun hb39 h=> ?_))))
 refine Ck (Tc (Cs (Bk (Sr (qu (pt g21 11) (Fa fo25_11 hs33_1 Z) (qu v0_11 (Lb 3 pl22 Z Z Z) (qM (Iv x34) hs33_5 ?_)))))))
 obtain ⟨hg40,h⟩:=grd_i h
 obtain ⟨p41,cs42,hat43,hrc44,hhas45⟩:=h0_11.at hg40.1 hg40.2 (by decide)
 obtain ⟨vw46_2,rfl,hw46_2⟩:=kd_api_Batch_open hrc44
 refine qu (.pointer (some p41)) (PO.indexAddr (n:=a0.Batches.length) Tryz.underlying22 sz55 Z Z hg40.1 hg40.2 hat43) (qu (a55_ (rd a0.Batches x34) vw46_2) (PO.loadMA (cs:=(l55 (rd a0.Batches x34) vw46_2)) ag55 sz55 Z hhas45) ?_)
 obtain ⟨⟨r47,r48⟩,hr49,h⟩:=bnd h
 refine We (Ca co56 (f_ref06_Put_ok (rd a0.Batches x34) _ _ hw46_2 (r47,r48) hr49) (args1 Z)) Z ?_
 rintro _ M50 _ hle51 ⟨_,⟨vq52,cq52,rfl,rfl,hq52⟩,rfl⟩
 refine WL.a1 (qm (.tuple #[vq52,(a42_ r48)]) (qu vq52 (Xt Z Z) (qu (a42_ r48) (Xt Z Z) (We (Al ze42 Z) Z ?_))))
 rintro _ _ _ - ⟨rfl,g54,rfl,rfl⟩
 refine qa vq52 (We (Sg (v:=(a42_ r48)) (vl:=(l42 r48)) (arr':=(l42 r48)) Z sz42 Z Z (onb Z) Z Z Z) Z ?_)
 rintro _ _ _ - ⟨rfl,rfl⟩
 refine Ns (qu (pt g54 0) (Fa fo42_0 Z Z) (qu (pt g54 2) (Fa fo40_2 Z Z) (qu (Iv r48.W.Code) (Lb 0 pl38 Z Z Z) (qu (Bv (decide (r48.W.Code≠0))) (PO.neq Z Z) (Nt (Ch h Z (fun hb55 h=> ?_) (fun hb55 h=> ?_)))))))
 refine Cs (WC.draw [0,0,2,6,0,0,32,96,254,510,1,2047] (.pure 0 (.pure 1 (.pure 2 (.pure 3 (.pure 4 (.pure 5 (.pure 6 (.pure 7 (.pure 8 (.pure 9 (.alt 10 (.alt 11 .done .none) .none))))))))))) mixed (by kernel_rfl) (qt (.agg #[(Iv 0),Zs]) Z (Bl (cl:=[(Iv 0),Zs]) ze29 fp29 Pz Z) (qt (pt g54 0) Z (Fa fo42_0 Z Z) (qt (pt g54 0) Z (Fa fo40_0 Z Z) (qt (Sv r48.W.Op) Z (Lb 0 pl9 Z Z Z) (qt (Iv x34) Z (Mv hs33_5) (qt (pt g54 0) Z (Fa fo42_0 Z Z) (qt (pt g54 2) Z (Fa fo40_2 Z Z) (qt (Iv r48.W.Code) Z (Lb 0 pl38 Z Z Z) (qt (.agg #[(Sv r48.W.Op),(Iv x34),(Iv r48.W.Code)]) Z (Bl (cl:=[(Sv r48.W.Op),(Iv x34),(Iv r48.W.Code)]) ze40 fp40 (Pc (Sv r48.W.Op) Z Z (Pc (Iv x34) Z Z (Pc (Iv r48.W.Code) Z Z Pz))) Z) (qt (.agg #[(Sv r48.W.Op),(Iv x34),(Iv r48.W.Code),(Iv (-1:Int))]) Z (Bl (cl:=[(Sv r48.W.Op),(Iv x34),(Iv r48.W.Code),(Iv (-1:Int))]) ze42 fp42 (Pc (.agg #[(Sv r48.W.Op),(Iv x34),(Iv r48.W.Code)]) Z Z (Pc (Iv (-1:Int)) Z Z Pz)) Z) ?_)))))))))))
 refine WT.f4 (Ta Z (Sg (v:=(.agg #[(Iv 0),Zs])) (vl:=[(Iv 0),Zs]) (arr':=[(Iv 0),Zs]) Z sz29 hs33_2 Z (onb Z) Z Z Z) Z ?_ ?_)
 rintro _ _ _ - ⟨rfl,rfl⟩
 refine⟨(Ss Z (Bl (cl:=[(Sv r48.W.Op),(Iv x34),(Iv r48.W.Code),(Iv (-1:Int))]) ze42 fp42 (Pc (.agg #[(Sv r48.W.Op),(Iv x34),(Iv r48.W.Code)]) Z Z (Pc (Iv (-1:Int)) Z Z Pz)) Z) Z (Ss Z (Bl (cl:=[(Sv r48.W.Op),(Iv x34),(Iv r48.W.Code)]) ze40 fp40 (Pc (Sv r48.W.Op) Z Z (Pc (Iv x34) Z Z (Pc (Iv r48.W.Code) Z Z Pz))) Z) Z (Ss Z (Lb 1 pl38 Z Z Z) Z (Ss Z (Fa fo40_2 Z Z) Z (Ss Z (Fa fo42_0 Z Z) Z (Ss Z (Mv hs33_5) Z (Ss Z (Lb 1 pl9 Z Z Z) Z (Ss Z (Fa fo40_0 Z Z) Z (Ss Z (Fa fo42_0 Z Z) Z (Sl Z)))))))))), ?_⟩
 refine WT.f4 (Ta Z (Sg (v:=(.agg #[(Sv r48.W.Op),(Iv x34),(Iv r48.W.Code),(Iv (-1:Int))])) (vl:=[(Sv r48.W.Op),(Iv x34),(Iv r48.W.Code),(Iv (-1:Int))]) (arr':=[(Sv r48.W.Op),(Iv x34),(Iv r48.W.Code),(Iv (-1:Int))]) Z sz42 hs33_3 Z (onb Z) Z Z Z) Z ?_ ?_)
 rintro _ _ _ - ⟨rfl,rfl⟩
 refine⟨(Sl Z), ?_⟩
 refine Ti (Tc (Cr (Br (Tr (WQ.leaveR (Sum.inr (r48.W.Op,x34,r48.W.Code,(-1:Int))) (oi h).symm (fun heq33=> ?_))))))
 subst heq33
 have h:=(elimR hK33)
 refine Br (Tr ?_)
 have h:=KK.early h h332
 exact WQ.e0 (WQ.f3 (Dr (WQ.f3 (Dr (WQ.f3 (Dr (WQ.f3 (Dr (Qa (Qb (Rd h [[]] (fun _ hs=>hs.drop.drop) (resultsLN Z (RVs.cons (Rc (cs:=[(Iv 0),Zs]) 0 ag29 sz29 hs33_2 Z Z) (RVs.cons (Rc (cs:=[(Sv r48.W.Op),(Iv x34),(Iv r48.W.Code),(Iv (-1:Int))]) 1 ag42 sz42 hs33_3 Z Z) RVs.nil))) ((hle27.trans hle33).trans hle51) ⟨Zs,[],Z,Z,(OwnS.nil _ _)⟩)))))))))))
 exact Tz
 exact Tz
 exact Ck (Bn (Tc (Cg (qM (Iv x34) hs33_5 (qu (Iv (IntKind.i64.wrap (x34+1))) (PO.add Z Z) (qa (Iv (IntKind.i64.wrap (x34+1))) (Wz (Dr (Dr (WQ.again (IntKind.i64.wrap (x34+1)) (oi h).symm ⟨(hle33.trans hle51),Z,hs33_1,hs33_2,hs33_3,Z⟩))))))))))
 refine WC.exit (WQ.thenE (WQ.leaveE (Sum.inl ()) (oi h).symm (fun heq33=> ?_)))
 subst heq33
 have h:=elimL hK33
 exact WQ.blockH (WQ.thenFE h ⟨hle33,Z,hs33_1,hs33_2,hs33_3⟩)
 rintro _ ρ32 M32 H32 rfl ⟨hle32,rfl,hs32_1,hs32_2,hs32_3⟩
 have h:=(Sum.elim_inl _ _ _).symm.trans h
 refine Sr (qu (a25_ a0 v0_11 v0_14) (La (cs:=(l25 a0 v0_11 v0_14)) 3 ag25 sz25 hs32_1 Z Z) ?_)
 obtain ⟨r58,hr59,h⟩:=bnd h
 have h0_11:=h0_11.mono (hle27.trans hle32)
 have h0_14:=h0_14.mono (hle27.trans hle32)
 refine We (Ca co57 (f_ref07_Bytes_ok a0 _ _ _ h0_11 h0_14 r58 hr59) (args1 Z)) Z ?_
 rintro _ M60 _ hle61 ⟨_,⟨vq62,cq62,rfl,rfl,hq62⟩,rfl⟩
 refine WL.a1 (qa vq62 (Nt (Cs (Sr (qm vq62 (qu (Iv (r58.length:Int)) (PO.lenS Tryz.underlying23 Z hq62.len) (qu (Bv (decide ((16384:Int)<(r58.length:Int)))) (PO.gtr Z Z) (Nt (Ch h Z (fun hb63 h=> ?_) (fun hb63 h=> ?_))))))))))
 refine Sr (qu (.agg #[(Iv 0),Zs]) (Bl (cl:=[(Iv 0),Zs]) ze29 fp29 Pz Z) (qm vq62 (qu (Iv (r58.length:Int)) (PO.lenS Tryz.underlying23 Z hq62.len) ?_)))
 obtain ⟨r64,hr65,h⟩:=bnd h
 refine We (Ca co40 (f_ref07_no_ok ⟨#[109,101,115,115,97,103,101]⟩ (r58.length:Int) (6:Int) _ r64 hr65) (args3 Z Z Z)) Z ?_
 rintro _ M66 _ hle67 ⟨_,⟨rfl,rfl⟩,rfl⟩
 refine WL.a0 (WL.f3 (We (Sg (v:=(.agg #[(Iv 0),Zs])) (vl:=[(Iv 0),Zs]) (arr':=[(Iv 0),Zs]) Z sz29 hs32_2 Z (onb Z) Z Z Z) Z ?_))
 rintro _ _ _ - ⟨rfl,rfl⟩
 refine WL.f3 (We (Sg (v:=(a42_ r64)) (vl:=(l42 r64)) (arr':=(l42 r64)) Z sz42 hs32_3 Z (onb Z) Z Z Z) Z ?_)
 rintro _ _ _ - ⟨rfl,rfl⟩
 refine Nt (Cr (Tr (WQ.e0 (WQ.f3 (Dr (WQ.f3 (Dr (WQ.f3 (Dr (Qa (Qb ?_)))))))))))
 exact Rd h [[]] (fun _ hs=>hs.drop.drop) (resultsLN Z (RVs.cons (Rc (cs:=[(Iv 0),Zs]) 0 ag29 sz29 hs32_2 Z Z) (RVs.cons (Rc (cs:=(l42 r64)) 1 ag42 sz42 hs32_3 Z Z) RVs.nil))) (((hle27.trans hle32).trans hle61).trans hle67) ⟨Zs,[],Z,Z,(OwnS.nil _ _)⟩
 refine Ck (Tc (Sr (qu (pt g21 0) (Fa fo25_0 hs32_1 Z) (qu (Iv a0.Kind) (Lb 4 pl3 Z Z Z) (qm vq62 (qu (.agg #[(Iv a0.Kind),vq62]) (Bl (cl:=[(Iv a0.Kind),vq62]) ze29 fp29 (Pc (Iv a0.Kind) Z Z (Parts.cons ((congrArg Value.cells (show ev _ _=vq62 from Z)).trans hq62.cells) Pz)) Z) (qu (.agg #[(Sv ⟨#[]⟩),(Iv 0),(Iv 0),(Iv (-1:Int))]) (Bl (cl:=[(Sv ⟨#[]⟩),(Iv 0),(Iv 0),(Iv (-1:Int))]) ze42 fp42 (Pc (Iv (-1:Int)) Z Z Pz) Z) (WL.f3 (We (Sg (v:=(.agg #[(Iv a0.Kind),vq62])) (vl:=[(Iv a0.Kind),vq62]) (arr':=[(Iv a0.Kind),vq62]) Z sz29 hs32_2 Z (onesOf (Oc Z (Oc (Ow hq62) Oz))) Z Z Z) Z ?_)))))))))
 rintro _ _ _ - ⟨rfl,rfl⟩
 refine WL.f3 (We (Sg (v:=(.agg #[(Sv ⟨#[]⟩),(Iv 0),(Iv 0),(Iv (-1:Int))])) (vl:=[(Sv ⟨#[]⟩),(Iv 0),(Iv 0),(Iv (-1:Int))]) (arr':=[(Sv ⟨#[]⟩),(Iv 0),(Iv 0),(Iv (-1:Int))]) Z sz42 hs32_3 Z (onb Z) Z Z Z) Z ?_)
 rintro _ _ _ - ⟨rfl,rfl⟩
 exact Nt (Cr (WQ.f3 (Dr (WQ.f3 (Dr (Qb (Qa (Qb (Rd h [cq62] (fun _ hs=>hs.drop.drop) (resultsLN Z (RVs.cons (Rc (cs:=[(Iv a0.Kind),vq62]) 0 ag29 sz29 hs32_2 Z Z) (RVs.cons (Rc (cs:=[(Sv ⟨#[]⟩),(Iv 0),(Iv 0),(Iv (-1:Int))]) 1 ag42 sz42 hs32_3 Z Z) RVs.nil))) ((hle27.trans hle32).trans hle61) ⟨vq62,cq62,Z,Z,hq62⟩)))))))))
noncomputable def f_ref02_Same_l0 (a0:(List Int)) (a1:(List Int)) (s_:Int):Option (Int⊕(Unit⊕Unit)):=
 match s_ with
 |x24=>
 (if(decide (x24<(a0.length:Int)))=true then(grd (0≤x24∧x24<a0.length) (grd (0≤x24∧x24<a1.length) (if(decide ((rd a0 x24)≠(rd a1 x24)))=true then(some (Sum.inr (Sum.inr ())))else(some (Sum.inl (IntKind.i64.wrap (x24+(1:Int))))))))else(some (Sum.inr (Sum.inl ()))))
noncomputable def f_ref02_Same (a0:(List Int)) (a1:(List Int)):Option Bool:=
 (if(decide ((a0.length:Int)≠(a1.length:Int)))=true then(some false)else((((iter (f_ref02_Same_l0 a0 a1) (0:Int)).bind (Sum.elim (fun _=>(some (Sum.inl ()))) (fun _=>(((some false)).bind fun r=>some (Sum.inr r))))):Option (Unit⊕Bool)).bind (Sum.elim (fun _=>(some true)) some)))
def f_ref02_Same_post (a0:(List Int)) (a1:(List Int)) (v0 v1:Value):Bool→Value→IM→HL→Prop:=
 fun(r0:Bool) (v:Value) (M':IM) (H':HL)=>(.bool r0)=v∧H'=[]
theorem f_ref02_Same_ok (a0:(List Int)) (a1:(List Int)) (M:IM) (v0 v1:Value) (h0:RS (Kd.int .u8) M v0 a0) (h1:RS (Kd.int .u8) M v1 a1) (res:Bool) (h:f_ref02_Same a0 a1=some res):
 Tri Tryz.prog 13 #[v0,v1] M [] (f_ref02_Same_post a0 a1 v0 v1 res):=by
 unfold f_ref02_Same at h
 refine Te Tryz.func13 Z Z ?_
 intro F ρ hρ
 refine Sr (qa (Bv false) (Nt (Cs (Sr (qM v0 (hρ 0) (qu (Iv (a0.length:Int)) (PO.lenS Tryz.underlying23 Z h0.len) (qM v1 (hρ 1) (qu (Iv (a1.length:Int)) (PO.lenS Tryz.underlying23 Z h1.len) (qu (Bv (decide ((a0.length:Int)≠(a1.length:Int)))) (PO.neq Z Z) (Nt (Ch h Z (fun hb21 h=> ?_) (fun hb21 h=> ?_))))))))))))
 exact Sr (qa (Bv false) (Nt (Cr (Tr (Rf h [] Z (Rs Z Z) lr ⟨Z,Z⟩)))))
 refine Ck (Tc ?_)
 obtain ⟨j22,hj22,h⟩:=bnd h
 refine WC.joinE (fun(_:Unit) ρ' M' H'=>M.le M'∧F=H') j22 ?_ ?_
 have h322:=h
 have h:=hj22
 refine Sr (qa (Iv 0) (Nt (Bk ?_)))
 obtain ⟨e23,he23,hK23⟩:=bnd h
 clear h
 refine WC.loop he23 (fun(x24:Int) ρ' M' H'=>M.le M'∧F=H'∧ρ' 0=v0∧ρ' 1=v1∧ρ' 5=(Iv x24)) ?_ ?_
 exact⟨lr,Z,(hρ 0),(hρ 1),Z⟩
 rintro x24 o23 ρ23 M23 H23 h ⟨hle23,rfl,hs23_0,hs23_1,hs23_5⟩
 unfold f_ref02_Same_l0 at h
 refine Cs (Sr (qM (Iv x24) hs23_5 (qM v0 hs23_0 ?_)))
 have h0:=h0.mono hle23
 refine qu (Iv (a0.length:Int)) (PO.lenS Tryz.underlying23 Z h0.len) (qu (Bv (decide (x24<(a0.length:Int)))) (PO.lss Z Z) (Nt (Ch h Z (fun hb25 h=> ?_) (fun hb25 h=> ?_))))
 refine Ck (Tc (Cs (Bk (Cs (WC.draw [0,0,3,7,0,0,48,112,255] (.pure 0 (.pure 1 (.pure 2 (.pure 3 (.pure 4 (.pure 5 (.pure 6 (.pure 7 (.pure 8 .done))))))))) mixed (by kernel_rfl) (qt v0 Z (Mv hs23_0) (qt (Iv x24) Z (Mv hs23_5) ?_)))))))
 obtain ⟨hg26,h⟩:=grd_i h
 obtain ⟨p27,cs28,hat29,hrc30,hhas31⟩:=h0.at hg26.1 hg26.2 (by decide)
 obtain rfl:=hrc30
 refine qt (.pointer (some p27)) Z (PO.indexAddr (n:=a0.length) Tryz.underlying23 sz5 Z Z hg26.1 hg26.2 hat29) (qt (Yv (rd a0 x24)) Z (PO.loadM pl5 Z (IM.has0 hhas31)) (qt v1 Z (Mv hs23_1) (qt (Iv x24) Z (Mv hs23_5) ?_)))
 obtain ⟨hg33,h⟩:=grd_i h
 have h1:=h1.mono hle23
 obtain ⟨p34,cs35,hat36,hrc37,hhas38⟩:=h1.at hg33.1 hg33.2 (by decide)
 obtain rfl:=hrc37
 refine qt (.pointer (some p34)) Z (PO.indexAddr (n:=a1.length) Tryz.underlying23 sz5 Z Z hg33.1 hg33.2 hat36) (qt (Yv (rd a1 x24)) Z (PO.loadM pl5 Z (IM.has0 hhas38)) (qt (Bv (decide ((rd a0 x24)≠(rd a1 x24)))) Z (PO.neq Z Z) (Ti (Tc (Ch h Z (fun hb40 h=> ?_) (fun hb40 h=> ?_))))))
 refine Sr (qa (Bv false) (Nt (Cr (Br (Tr (WQ.leaveR (Sum.inr ()) (oi h).symm (fun heq23=> ?_)))))))
 subst heq23
 have h:=(elimR hK23)
 refine Br (Tr ?_)
 have h:=KK.early h h322
 exact Rf h [] Z (Rs Z Z) hle23 ⟨Z,Z⟩
 exact Ck (Bn (Tc (Cg (qM (Iv x24) hs23_5 (qu (Iv (IntKind.i64.wrap (x24+1))) (PO.add Z Z) (qa (Iv (IntKind.i64.wrap (x24+1))) (Wz (WQ.again (IntKind.i64.wrap (x24+1)) (oi h).symm ⟨hle23,Z,hs23_0,hs23_1,Z⟩))))))))
 refine WC.exit (WQ.thenE (WQ.leaveE (Sum.inl ()) (oi h).symm (fun heq23=> ?_)))
 subst heq23
 have h:=elimL hK23
 exact WQ.blockH (WQ.thenFE h ⟨hle23,Z⟩)
 rintro _ ρ22 M22 H22 rfl ⟨hle22,rfl⟩
 have h:=(Sum.elim_inl _ _ _).symm.trans h
 exact Sr (qa (Bv true) (Nt (Cr (Rf h [] Z (Rs Z Z) hle22 ⟨Z,Z⟩))))
noncomputable def f_errors_as_fault_l0 (a1:T_api_Fault) (s_:GErr):Option (GErr⊕(Bool×ByteArray×Int×GErr)):=
 match s_ with
 |x23=>
 (match x23 with | .nil=>none | .code n28=>(some (Sum.inr (false,a1.Op,a1.At,a1.Err))) | .fault o29 a30 e31=>(some (Sum.inr (true,o29,a30,e31))) | .other b32=>(some (Sum.inr (false,a1.Op,a1.At,a1.Err))))
noncomputable def f_errors_as_fault (a0:GErr) (a1:T_api_Fault):Option (Bool×ByteArray×Int×GErr):=
 ((iter (f_errors_as_fault_l0 a1) a0).bind (fun(x24,x25,x26,x27)=>(some (x24,x25,x26,x27))))
def f_errors_as_fault_post (a0:GErr) (a1:T_api_Fault) (g1 g2:Nat):(Bool×ByteArray×Int×GErr)→Value→IM→HL→Prop:=
 fun(p_:(Bool×ByteArray×Int×GErr)) (v:Value) (M':IM) (H':HL)=>match p_ with |(r0,r1,r2,r3)=>(.bool r0)=v∧H'=[[(g1, .cells #[(.string r1),(.int .i64 r2),(GV r3)] 108 (0,0))],[(g2, .cells #[(.pointer (some ⟨g1,0,none⟩))] 118 (0,0))]]
theorem f_errors_as_fault_ok (a0:GErr) (a1:T_api_Fault) (M:IM) (g1 g2:Nat) (res:(Bool×ByteArray×Int×GErr)) (h:f_errors_as_fault a0 a1=some res):
 Tri Tryz.prog 111 #[(GV a0),(.iface 118 (pt g1 0)),(.agg #[(pt 1 118),(pt g2 0),(Uv 150)]),(.iface 184 (.agg #[.pointer (some ⟨1,108,none⟩)]))] M [[(g1, .cells (l108 a1).toArray 108 (0,0))],[(g2, .cells #[(pt g1 0)] 118 (0,0))]] (f_errors_as_fault_post a0 a1 g1 g2 res):=by
 unfold f_errors_as_fault at h
 refine Te Tryz.func111 Z Z ?_
 intro F ρ hρ
 refine Sr (We (EO.box (cs:=#[(pt 1 118),(pt g2 0),(Uv 150)]) (congrArg Value.cells (asE (.agg #[(pt 1 118),(pt g2 0),(Uv 150)]) (hρ 2)))) Z ?_)
 rintro _ _ _ - ⟨rfl,g21,rfl,rfl⟩
 refine qa (Bv false) (Nt (Bk ?_))
 obtain ⟨e22,he22,hK22⟩:=bnd h
 clear h
 refine WC.loop he22 (fun(x23:GErr) ρ' M' H'=>M.le M'∧[(g21, .cells #[(pt 1 118),(pt g2 0),(Uv 150)] 153 (0,0))]::[(g1, .cells (l108 a1).toArray 108 (0,0))]::[(g2, .cells #[(pt g1 0)] 118 (0,0))]::F=H'∧ρ' 0=(GV x23)∧ρ' 1=(.iface 118 (pt g1 0))∧ρ' 3=(.iface 184 (.agg #[.pointer (some ⟨1,108,none⟩)]))∧ρ' 6=(pt g21 0)) ?_ ?_
 exact⟨lr,Z,(hρ 0),(hρ 1),(hρ 3),Z⟩
 rintro x23 o22 ρ22 M22 H22 h ⟨hle22,rfl,hs22_0,hs22_1,hs22_3,hs22_6⟩
 unfold f_errors_as_fault_l0 at h
 refine Bk (Cs (Sr (qM (GV x23) hs22_0 ?_)))
 rcases x23 with _ |n28 |⟨o29,a30,e31⟩ |b32
 refine We (EO.extP xt91 (args1 (show ev _ _= .nilIface from Z)) tyNil) Z ?_
 rintro _ _ _ - ⟨rfl,rfl,rfl⟩
 exact qM (.iface 184 (.agg #[.pointer (some ⟨1,108,none⟩)])) hs22_3 (nones h)
 refine We (EO.extP xt91 (args1 (show ev _ _=(.iface 38 (Iv n28)) from Z)) (ty38 _)) Z ?_
 rintro _ _ _ - ⟨rfl,rfl,rfl⟩
 refine qM (.iface 184 (.agg #[.pointer (some ⟨1,108,none⟩)])) hs22_3 (We (EO.invE (show ev _ _=(.iface 184 (.agg #[.pointer (some ⟨1,38,none⟩)])) from Z) (mm_AssignableTo (pt 1 38)) xt173 (inv1 Z) mr_AssignableTo_38_108) Z ?_)
 rintro _ _ _ - ⟨rfl,rfl,rfl⟩
 refine Nt (WC.condF (b:=false) Z Z (Ck (Tc (Cs (Sr (qM (GV (GErr.code n28)) hs22_0 (qu (.tuple #[.nilIface,(Bv false)]) (PO.asserts (show ev _ _=(.iface 38 (Iv n28)) from Z) (la38_196 _ _)) (qm (.tuple #[.nilIface,(Bv false)]) (qu .nilIface (Xt Z Z) (qu (Bv false) (Xt Z Z) (qa .nilIface ?_)))))))))))
 refine qa (Bv false) (Ns (qm (Bv false) (qm (Bv false) ?_)))
 iterate 3 refine Of 31 Z Z Z Z ?_
 refine qu (Bv false) (Pf Z Z Z) (Nt (WC.condF (b:=false) Z Z (Ck (Tc (Sr (qM (GV (GErr.code n28)) hs22_0 (Nt (Bk (Sr (qu (.tuple #[.nilIface,(Bv false)]) (PO.asserts (show ev _ _=(.iface 38 (Iv n28)) from Z) (la38_189 _ _)) (qu (Bv false) (Xt Z Z) ?_)))))))))))
 refine qu .nilIface (Xt Z Z) (Nt (WC.condF (b:=false) Z Z (Sr (qu (.tuple #[.nilIface,(Bv false)]) (PO.asserts (show ev _ _=(.iface 38 (Iv n28)) from Z) (la38_190 _ _)) (qu (Bv false) (Xt Z Z) (qu .nilIface (Xt Z Z) (Nt (WC.condF (b:=false) Z Z (Sr (qa (GV (GErr.code n28)) (Ns ?_)))))))))))
 refine qa (Bv false) (Nt (Cr (Br (Br (WQ.leaveR (false,a1.Op,a1.At,a1.Err) (oi h).symm (fun heq22=> ?_))))))
 subst heq22
 have h:=hK22
 exact Br (Dr (Rf h [[(g1, .cells (l108 a1).toArray 108 (0,0))],[(g2, .cells #[(pt g1 0)] 118 (0,0))]] Z (Rs Z Z) hle22 ⟨Z,Z⟩))
 refine We (EO.extP xt91 (args1 (show ev _ _=(.iface 108 (.agg #[.string o29, .int .i64 a30,GV e31])) from Z)) (ty108 _)) Z ?_
 rintro _ _ _ - ⟨rfl,rfl,rfl⟩
 refine qM (.iface 184 (.agg #[.pointer (some ⟨1,108,none⟩)])) hs22_3 (We (EO.invE (show ev _ _=(.iface 184 (.agg #[.pointer (some ⟨1,108,none⟩)])) from Z) (mm_AssignableTo (pt 1 108)) xt173 (inv1 Z) mr_AssignableTo_108_108) Z ?_)
 rintro _ _ _ - ⟨rfl,rfl,rfl⟩
 refine Nt (WC.condT (b:=true) Z Z (Sr (qu (.agg #[(pt 1 118),(pt g2 0),(Uv 150)]) (La (cs:=[(pt 1 118),(pt g2 0),(Uv 150)]) 0 ag153 sz153 hs22_6 Z Z) (We (EO.rvElem (r:=fun p=> .agg #[(pt 1 108), .pointer (some p), .int .u64 409]) 2 xt137 pp118_150 Z pl118 el118 mk108 (args1 (show ev _ _=(.agg #[(pt 1 118),(pt g2 0),(Uv 150)]) from Z)) Z) Z ?_))))
 rintro _ _ _ - ⟨rfl,rfl,rfl⟩
 refine qM (GV (GErr.fault o29 a30 e31)) hs22_0 (We (EO.valueOf xt108 (args1 (show ev _ _=(.iface 108 (.agg #[.string o29, .int .i64 a30,GV e31])) from Z)) (vo108 o29 a30 (GV e31))) Z ?_)
 rintro _ _ _ - ⟨rfl,g33,rfl,rfl⟩
 refine Wb (We (EO.rvSet (arr:=(l108 a1)) (vl:=[(Sv o29),(Iv a30),(GV e31)]) (v:=(.agg #[(Sv o29),(Iv a30),(GV e31)])) xt138 pp108_409 pp108_153 Z da108 (args2 (show ev _ _=(.agg #[(pt 1 108),(pt g1 0),(Uv 409)]) from Z) (show ev _ _=(.agg #[(pt 1 108),(pt g33 0),(Uv 153)]) from Z)) (fun _ hs=>run_loadAgg (cs:=[(Sv o29),(Iv a30),(GV e31)]) ag108 sz108 (fun i v hi=>by rw [add_lit];exact hs.cellC 1 Z (chunkCell_lit.trans (by simpa using hi)))) Z sz108 Z (onesOf (Oc Z (Oc Z (Oc (GErr.val_one _ _ _ _) Oz))))) Z ?_)
 rintro _ _ _ - ⟨rfl,rfl,rfl⟩
 refine Ns (qa (Bv true) (Nt (Cr (Tr (Br (WQ.leaveR (true,o29,a30,e31) (oi h).symm (fun heq22=> ?_)))))))
 subst heq22
 have h:=hK22
 exact Br (Qa (Dr (Qa (Dr (Rf h [[(g1, .cells #[(Sv o29),(Iv a30),(GV e31)] 108 (0,0))],[(g2, .cells #[(pt g1 0)] 118 (0,0))]] Z (Rs Z Z) hle22 ⟨Z,Z⟩)))))
 refine We (EO.extP xt91 (args1 (show ev _ _=(.iface 0 (.pointer (some b32))) from Z)) (ty0 _)) Z ?_
 rintro _ _ _ - ⟨rfl,rfl,rfl⟩
 refine qM (.iface 184 (.agg #[.pointer (some ⟨1,108,none⟩)])) hs22_3 (We (EO.invE (show ev _ _=(.iface 184 (.agg #[.pointer (some ⟨1,0,none⟩)])) from Z) (mm_AssignableTo (pt 1 0)) xt173 (inv1 Z) mr_AssignableTo_0_108) Z ?_)
 rintro _ _ _ - ⟨rfl,rfl,rfl⟩
 refine Nt (WC.condF (b:=false) Z Z (Ck (Tc (Cs (Sr (qM (GV (GErr.other b32)) hs22_0 (qu (.tuple #[.nilIface,(Bv false)]) (PO.asserts (show ev _ _=(.iface 0 (.pointer (some b32))) from Z) (la0_196 _ _)) (qm (.tuple #[.nilIface,(Bv false)]) (qu .nilIface (Xt Z Z) (qu (Bv false) (Xt Z Z) (qa .nilIface ?_)))))))))))
 refine qa (Bv false) (Ns (qm (Bv false) (qm (Bv false) ?_)))
 iterate 3 refine Of 31 Z Z Z Z ?_
 refine qu (Bv false) (Pf Z Z Z) (Nt (WC.condF (b:=false) Z Z (Ck (Tc (Sr (qM (GV (GErr.other b32)) hs22_0 (Nt (Bk (Sr (qu (.tuple #[.nilIface,(Bv false)]) (PO.asserts (show ev _ _=(.iface 0 (.pointer (some b32))) from Z) (la0_189 _ _)) (qu (Bv false) (Xt Z Z) ?_)))))))))))
 refine qu .nilIface (Xt Z Z) (Nt (WC.condF (b:=false) Z Z (Sr (qu (.tuple #[.nilIface,(Bv false)]) (PO.asserts (show ev _ _=(.iface 0 (.pointer (some b32))) from Z) (la0_190 _ _)) (qu (Bv false) (Xt Z Z) (qu .nilIface (Xt Z Z) (Nt (WC.condF (b:=false) Z Z (Sr (qa (GV (GErr.other b32)) (Ns ?_)))))))))))
 refine qa (Bv false) (Nt (Cr (Br (Br (WQ.leaveR (false,a1.Op,a1.At,a1.Err) (oi h).symm (fun heq22=> ?_))))))
 subst heq22
 have h:=hK22
 exact Br (Dr (Rf h [[(g1, .cells (l108 a1).toArray 108 (0,0))],[(g2, .cells #[(pt g1 0)] 118 (0,0))]] Z (Rs Z Z) hle22 ⟨Z,Z⟩))
noncomputable def f_errors_As_fault (a0:GErr) (a1:T_api_Fault):Option (Bool×ByteArray×Int×GErr):=
 (if a0.isNil=true then(some (false,a1.Op,a1.At,a1.Err))else((f_errors_as_fault a0 a1).bind fun(r24,r25,r26,r27)=>(some (r24,r25,r26,r27))))
def f_errors_As_fault_post (a0:GErr) (a1:T_api_Fault) (g1:Nat):(Bool×ByteArray×Int×GErr)→Value→IM→HL→Prop:=
 fun(p_:(Bool×ByteArray×Int×GErr)) (v:Value) (M':IM) (H':HL)=>match p_ with |(r0,r1,r2,r3)=>(.bool r0)=v∧H'=[[(g1, .cells #[(.string r1),(.int .i64 r2),(GV r3)] 108 (0,0))]]
theorem f_errors_As_fault_ok (a0:GErr) (a1:T_api_Fault) (M:IM) (g1:Nat) (hE:Env M) (res:(Bool×ByteArray×Int×GErr)) (h:f_errors_As_fault a0 a1=some res):
 Tri Tryz.prog 75 #[(GV a0),(.iface 118 (pt g1 0))] M [[(g1, .cells (l108 a1).toArray 108 (0,0))]] (f_errors_As_fault_post a0 a1 g1 res):=by
 unfold f_errors_As_fault at h
 refine Te Tryz.func75 Z Z ?_
 intro F ρ hρ
 refine Sr (qa (Bv false) (Nt (Cs (Sr (qM (GV a0) (hρ 0) (qu (Bv a0.isNil) (PO.errNil Tryz.underlying31 Z) (Nt (Ch h Z (fun hb21 h=> ?_) (fun hb21 h=> ?_)))))))))
 exact Sr (qa (Bv false) (Nt (Cr (Tr (Rf h [[(g1, .cells (l108 a1).toArray 108 (0,0))]] Z (Rs Z Z) lr ⟨Z,Z⟩)))))
 refine Ck (Tc (Cs (Sr (qM (.iface 118 (pt g1 0)) (hρ 1) (qu (Bv false) (PO.ifcNil Tryz.underlying20 Z) (Nt (WC.condF (b:=false) Z Z (Ck (Tc (Sr (qM (.iface 118 (pt g1 0)) (hρ 1) ?_)))))))))))
 refine We (EO.valueOf xt108 (args1 (show ev _ _=(.iface 118 (pt g1 0)) from Z)) (vo118 ⟨g1,0,none⟩)) Z ?_
 rintro _ _ _ - ⟨rfl,g22,rfl,rfl⟩
 refine We (Al ze153 Z) Z ?_
 rintro _ _ _ - ⟨rfl,g23,rfl,rfl⟩
 refine We (Sg (v:=(.agg #[(pt 1 118),(pt g22 0),(Uv 150)])) (vl:=[(pt 1 118),(pt g22 0),(Uv 150)]) (arr':=[(pt 1 118),(pt g22 0),(Uv 150)]) Z sz153 Z Z (onb Z) Z Z Z) Z ?_
 rintro _ _ _ - ⟨rfl,rfl⟩
 refine Ns (qu (.agg #[(pt 1 118),(pt g22 0),(Uv 150)]) (La (cs:=[(pt 1 118),(pt g22 0),(Uv 150)]) 0 ag153 sz153 Z Z Z) (We (EO.extP xt109 (args1 (show ev _ _=(.agg #[(pt 1 118),(pt g22 0),(Uv 150)]) from Z)) (vt118_150 _)) Z ?_))
 rintro _ _ _ - ⟨rfl,rfl,rfl⟩
 refine qa (.iface 184 (.agg #[.pointer (some ⟨1,118,none⟩)])) (Nt (Cs (Sr (qm (.iface 184 (.agg #[.pointer (some ⟨1,118,none⟩)])) (We (EO.invE (show ev _ _=(.iface 184 (.agg #[.pointer (some ⟨1,118,none⟩)])) from Z) (mm_Kind (pt 1 118)) xt163 inv0 mr_Kind_118) Z ?_)))))
 rintro _ _ _ - ⟨rfl,rfl,rfl⟩
 refine qu (Bv false) (PO.neqR Z Z (by decide)) (qm (Bv false) (qo 20 Z (.agg #[(pt 1 118),(pt g22 0),(Uv 150)]) (La (cs:=[(pt 1 118),(pt g22 0),(Uv 150)]) 0 ag153 sz153 Z Z Z) (On 20 Z Z Z (We (EO.isNil 1 xt110 pp118_150 Z pl118 (args1 (show ev _ _=(.agg #[(pt 1 118),(pt g22 0),(Uv 150)]) from Z)) Z) Z ?_))))
 rintro _ _ _ - ⟨rfl,rfl,rfl⟩
 refine qu (Bv false) (Pf Z Z Z) (Nt (WC.condF (b:=false) Z Z (Ck (Tc (Sr (qm (.iface 184 (.agg #[.pointer (some ⟨1,118,none⟩)])) (We (EO.invE (show ev _ _=(.iface 184 (.agg #[.pointer (some ⟨1,118,none⟩)])) from Z) (mm_Elem (pt 1 118)) xt175 inv0 mr_Elem_118) Z ?_)))))))
 rintro _ _ _ - ⟨rfl,rfl,rfl⟩
 refine qa (.iface 184 (.agg #[.pointer (some ⟨1,108,none⟩)])) (Nt (Cs (Sr (qm (.iface 184 (.agg #[.pointer (some ⟨1,108,none⟩)])) (We (EO.invE (show ev _ _=(.iface 184 (.agg #[.pointer (some ⟨1,108,none⟩)])) from Z) (mm_Kind (pt 1 108)) xt163 inv0 mr_Kind_108) Z ?_)))))
 rintro _ _ _ - ⟨rfl,rfl,rfl⟩
 refine qu (Bv true) (PO.neqR Z Z (by decide)) (qm (Bv true) (On 30 Z Z Z (qm (.iface 184 (.agg #[.pointer (some ⟨1,108,none⟩)])) (qo 30 Z (.iface 184 (.agg #[.pointer (some ⟨1,31,none⟩)])) (PO.loadG pl138 hE) (On 30 Z Z Z (We (EO.invE (show ev _ _=(.iface 184 (.agg #[.pointer (some ⟨1,108,none⟩)])) from Z) (mm_Implements (pt 1 108)) xt176 (inv1 Z) mr_Implements_108_31) Z ?_))))))
 rintro _ _ _ - ⟨rfl,rfl,rfl⟩
 refine qo 30 Z (Bv (!true)) (PO.not Z) (qu (Bv (!true)) (Pt Z Z Z) (Nt (WC.condF (b:= !true) Z Z (Ck (Tc (Sr (qM (GV a0) (hρ 0) (qM (.iface 118 (pt g1 0)) (hρ 1) (qu (.agg #[(pt 1 118),(pt g22 0),(Uv 150)]) (La (cs:=[(pt 1 118),(pt g22 0),(Uv 150)]) 0 ag153 sz153 Z Z Z) (qm (.iface 184 (.agg #[.pointer (some ⟨1,108,none⟩)])) ?_))))))))))
 obtain ⟨⟨r24,r25,r26,r27⟩,hr28,h⟩:=bnd h
 refine WL.f1 (Wb (We (EO.call2 co111 (f_errors_as_fault_ok a0 a1 _ _ _ (r24,r25,r26,r27) hr28) (args4 Z Z Z Z)) Z ?_))
 rintro _ M29 _ hle30 ⟨_,⟨rfl,rfl⟩,rfl⟩
 exact WL.a2 (qa (Bv r24) (Nt (Cr (Qa (Dr (Qa (Dr (Rf h [[(g1, .cells #[(Sv r25),(Iv r26),(GV r27)] 108 (0,0))]] Z (Rs Z Z) hle30 ⟨Z,Z⟩))))))))
noncomputable def f_fault_Where (a0:GErr):Option (Int×Bool):=
 ((f_errors_As_fault a0 (⟨(⟨#[]⟩:ByteArray),(0:Int),GErr.nil⟩:T_api_Fault)).bind fun(r22,r23,r24,r25)=>(if(!r22)=true then(some ((0:Int),false))else(some (r24,true))))
def f_fault_Where_post (a0:GErr):(Int×Bool)→Value→IM→HL→Prop:=
 fun(p_:(Int×Bool)) (v:Value) (M':IM) (H':HL)=>match p_ with |(r0,r1)=>(.tuple #[(.int .i64 r0),(.bool r1)])=v∧H'=[]
theorem f_fault_Where_ok (a0:GErr) (M:IM) (hE:Env M) (res:(Int×Bool)) (h:f_fault_Where a0=some res):
 Tri Tryz.prog 44 #[(GV a0)] M [] (f_fault_Where_post a0 res):=by
 unfold f_fault_Where at h
 refine Te Tryz.func44 Z Z ?_
 intro F ρ hρ
 refine Sr (qa (Iv 0) (qa (Bv false) (Ns (We (Al ze108 Z) Z ?_))))
 rintro _ _ _ - ⟨rfl,g21,rfl,rfl⟩
 refine Nt (Cs (Sr (qM (GV a0) (hρ 0) (qu (.iface 118 (pt g21 0)) (PO.makeInterface cc118 Z) ?_))))
 obtain ⟨⟨r22,r23,r24,r25⟩,hr26,h⟩:=bnd h
 refine We (Cb co75 (f_errors_As_fault_ok a0 (⟨(⟨#[]⟩:ByteArray),(0:Int),GErr.nil⟩:T_api_Fault) _ _ hE (r22,r23,r24,r25) hr26) (args2 Z Z)) Z ?_
 rintro _ M27 _ hle28 ⟨_,⟨rfl,rfl⟩,rfl⟩
 refine WL.a1 (qu (Bv (!r22)) (PO.not Z) (Nt (Ch h Z (fun hb30 h=> ?_) (fun hb30 h=> ?_))))
 exact Sr (qa (Iv 0) (qa (Bv false) (Nt (Cr (Tr (Dr (Rf h [] Z (results2 Z Z Z) hle28 ⟨Z,Z⟩)))))))
 exact Ck (Tc (Sr (qu (pt g21 1) (Fa fo108_1 Z Z) (qu (Iv r24) (Lb 0 pl3 Z Z Z) (qa (Iv r24) (qa (Bv true) (Nt (Cr (Dr (Rf h [] Z (results2 Z Z Z) hle28 ⟨Z,Z⟩))))))))))
noncomputable def f_fault_Path_l0 (s_:(GErr×(List ByteArray))):Option ((GErr×(List ByteArray))⊕(List ByteArray)):=
 match s_ with
 |(x24,x25)=>
 (if(!x24.isNil)=true then((f_errors_As_fault x24 (⟨(⟨#[]⟩:ByteArray),(0:Int),GErr.nil⟩:T_api_Fault)).bind fun(r29,r30,r31,r32)=>(if(!r29)=true then(some (Sum.inr x25))else(grd (x25.length+[r30].length≤274877906944) (some (Sum.inl (r32,x25++[r30]))))))else(some (Sum.inr x25)))
noncomputable def f_fault_Path (a0:GErr):Option (List ByteArray):=
 ((((iter (f_fault_Path_l0) (a0,[])).bind (fun(x26:(List ByteArray))=>(some x26))):Option (List ByteArray)).bind fun x21=>(some x21))
def f_fault_Path_post (a0:GErr):(List ByteArray)→Value→IM→HL→Prop:=
 fun(r0:(List ByteArray)) (v:Value) (M':IM) (H':HL)=>∃ vz0 cz0,vz0=v∧H'=[cz0]∧OwnS Kd.str M' vz0 r0 cz0
theorem f_fault_Path_ok (a0:GErr) (M:IM) (hE:Env M) (res:(List ByteArray)) (h:f_fault_Path a0=some res):
 Tri Tryz.prog 76 #[(GV a0)] M [] (f_fault_Path_post a0 res):=by
 unfold f_fault_Path at h
 refine Te Tryz.func76 Z Z ?_
 intro F ρ hρ
 refine Sr (qa Zs (Ns (qa Zs (Nt ?_))))
 obtain ⟨x21,hj22,h⟩:=bnd h
 refine Jf (fun(x21:(List ByteArray)) ρ' M' H'=>∃ vx21 cx21,M.le M'∧cx21::F=H'∧ρ' 3=vx21∧OwnS Kd.str M' vx21 x21 cx21) x21 ?_ ?_
 have h:=hj22
 refine Bk (WC.e0 ?_)
 obtain ⟨e23,he23,hK23⟩:=bnd h
 clear h
 refine WC.loop he23 (fun(p_:(GErr×(List ByteArray))) ρ' M' H'=>match p_ with |(x24,x25)=>∃ vx25 cx25,M.le M'∧cx25::F=H'∧ρ' 0=(GV x24)∧ρ' 3=vx25∧OwnS Kd.str M' vx25 x25 cx25) ?_ ?_
 exact⟨Zs,[],lr,Z,(hρ 0),Z,(OwnS.nil _ _)⟩
 rintro ⟨x24,x25⟩ o23 ρ23 M23 H23 h ⟨vx25,cx25,hle23,rfl,hs23_0,hs23_3,hx25⟩
 unfold f_fault_Path_l0 at h
 refine Cs (Sr (qM (GV x24) hs23_0 (qu (Bv (!x24.isNil)) (PO.errNotNil Tryz.underlying31 Z) (Nt (Ch h Z (fun hb27 h=> ?_) (fun hb27 h=> ?_))))))
 refine Ck (Tc (Bk (Sr (We (Al ze108 Z) Z ?_))))
 rintro _ _ _ - ⟨rfl,g28,rfl,rfl⟩
 refine Nt (Cs (Sr (qM (GV x24) hs23_0 (qu (.iface 118 (pt g28 0)) (PO.makeInterface cc118 Z) ?_))))
 obtain ⟨⟨r29,r30,r31,r32⟩,hr33,h⟩:=bnd h
 have hE:=hE.mono hle23
 refine We (Cb co75 (f_errors_As_fault_ok x24 (⟨(⟨#[]⟩:ByteArray),(0:Int),GErr.nil⟩:T_api_Fault) _ _ hE (r29,r30,r31,r32) hr33) (args2 Z Z)) Z ?_
 rintro _ M34 _ hle35 ⟨_,⟨rfl,rfl⟩,rfl⟩
 refine WL.a1 (qu (Bv (!r29)) (PO.not Z) (Nt (Ch h Z (fun hb37 h=> ?_) (fun hb37 h=> ?_))))
 refine WC.exit (WQ.thenE (WQ.blockM Z (WQ.leaveE x25 (oi h).symm (fun heq23=> ?_))))
 subst heq23
 have h:=hK23
 refine WQ.blockH (Dr ?_)
 obtain rfl:=oi h
 refine Tj ?_
 have hx25:=hx25.mono hle35
 exact⟨vx25,cx25,(hle23.trans hle35),Z,hs23_3,hx25⟩
 refine Ck (Tc (Sr (qM vx25 hs23_3 (qu (pt g28 0) (Fa fo108_0 Z Z) (qu (Sv r30) (Lb 0 pl9 Z Z Z) (We (EO.buildSliceL (cl:=[(Sv r30)]) Tryz.underlying120 iz9 Z (Pc (Sv r30) Z Z Pz) Z) Z ?_))))))
 rintro _ _ _ - ⟨rfl,g38,rfl,rfl⟩
 have h40:OwnS Kd.str M34 (.slice (some ⟨g38,0,none⟩) 1 1) [r30] [(g38, .cells #[(Sv r30)] 9 (0,0))]:=OwnS.rows (css:=[[(Sv r30)]]) (Rows.cons Z Rows.nil) Z Z
 obtain ⟨hg44,h⟩:=grd_i h
 refine Wb ?_
 have hx25:=hx25.mono hle35
 refine We (EO.append (dd:=Kd.str) (xs:=x25) (ys:=[r30]) Tryz.underlying120 Tryz.underlying120 in9 Z (appB (by decide) hg44) (by decide) Z Z hx25 (h40.src 1 Z)) Z ?_
 rintro v43 _ _ - ⟨rfl,c41,rfl,h42⟩
 refine qa v43 (Nt (Cg (qu (pt g28 2) (Fa fo108_2 Z Z) (qu (GV r32) (Lb 2 pl31 Z Z Z) (qa (GV r32) (Wz (Bn (Qa (Dr (Qa (Dr ?_)))))))))))
 exact WQ.again (r32,x25++[r30]) (oi h).symm ⟨v43,c41,(hle23.trans hle35),Z,Z,Z,h42⟩
 refine WC.exit (WQ.thenE (WQ.leaveE x25 (oi h).symm (fun heq23=> ?_)))
 subst heq23
 have h:=hK23
 refine WQ.blockH ?_
 obtain rfl:=oi h
 exact Tj ⟨vx25,cx25,hle23,Z,hs23_3,hx25⟩
 rintro ρ22 M22 H22 ⟨vx21,cx21,hle22,rfl,hs22_3,hx21⟩
 exact Sr (qM vx21 hs22_3 (qa vx21 (Nt (Cr (Rf h [cx21] Z (Rs Z Z) hle22 ⟨vx21,cx21,Z,Z,hx21⟩)))))
noncomputable def f_fault_Under_l0 (a1:ByteArray) (r22:(List ByteArray)) (s_:Int):Option (Int⊕(Unit⊕Unit)):=
 match s_ with
 |x28=>
 (if(decide (x28<(r22.length:Int)))=true then(grd (0≤x28∧x28<r22.length) (if(decide ((rd r22 x28)=a1))=true then(some (Sum.inr (Sum.inr ())))else(some (Sum.inl (IntKind.i64.wrap (x28+(1:Int)))))))else(some (Sum.inr (Sum.inl ()))))
noncomputable def f_fault_Under (a0:GErr) (a1:ByteArray):Option Bool:=
 ((((f_fault_Path a0).bind fun r22=>((iter (f_fault_Under_l0 a1 r22) (0:Int)).bind (Sum.elim (fun _=>(some (Sum.inl ()))) (fun _=>(((some true)).bind fun r=>some (Sum.inr r)))))):Option (Unit⊕Bool)).bind (Sum.elim (fun _=>(some false)) some))
def f_fault_Under_post (a0:GErr) (a1:ByteArray):Bool→Value→IM→HL→Prop:=
 fun(r0:Bool) (v:Value) (M':IM) (H':HL)=>(.bool r0)=v∧H'=[]
theorem f_fault_Under_ok (a0:GErr) (a1:ByteArray) (M:IM) (hE:Env M) (res:Bool) (h:f_fault_Under a0 a1=some res):
 Tri Tryz.prog 46 #[(GV a0),(Sv a1)] M [] (f_fault_Under_post a0 a1 res):=by
 unfold f_fault_Under at h
 refine Te Tryz.func46 Z Z ?_
 intro F ρ hρ
 refine Sr (qa (Bv false) (Nt ?_))
 obtain ⟨j21,hj21,h⟩:=bnd h
 refine WC.joinE (fun(_:Unit) ρ' M' H'=>M.le M'∧F=H') j21 ?_ ?_
 have h321:=h
 have h:=hj21
 refine Sr (qM (GV a0) (hρ 0) ?_)
 obtain ⟨r22,hr23,h⟩:=bnd h
 refine We (Ca co76 (f_fault_Path_ok a0 _ hE r22 hr23) (args1 Z)) Z ?_
 rintro _ M24 _ hle25 ⟨_,⟨vq26,cq26,rfl,rfl,hq26⟩,rfl⟩
 refine WL.a1 (qu (Iv (r22.length:Int)) (PO.lenS Tryz.underlying120 Z hq26.len) (qm (Iv 0) (Nt (Bk ?_))))
 obtain ⟨e27,he27,hK27⟩:=bnd h
 clear h
 refine WC.loop he27 (fun(x28:Int) ρ' M' H'=>M24.le M'∧cq26::F=H'∧ρ' 1=(Sv a1)∧ρ' 8=vq26∧ρ' 9=(Iv (r22.length:Int))∧ρ' 10=(Iv x28)) ?_ ?_
 exact⟨lr,Z,(hρ 1),Z,Z,Z⟩
 rintro x28 o27 ρ27 M27 H27 h ⟨hle27,rfl,hs27_1,hs27_8,hs27_9,hs27_10⟩
 unfold f_fault_Under_l0 at h
 refine Sr (qu (Bv (decide (x28<(r22.length:Int)))) (PO.lss hs27_10 hs27_9) (Nt (Cs (Ch h Z (fun hb29 h=> ?_) (fun hb29 h=> ?_)))))
 refine Ck (Tc (Cs (Bk (Sr ?_))))
 obtain ⟨hg30,h⟩:=grd_i h
 have hq26:=hq26.mono hle27
 obtain ⟨p31,cs32,hat33,hrc34,hhas35⟩:=hq26.at hg30.1 hg30.2
 obtain rfl:=hrc34
 refine qu (.pointer (some p31)) (PO.indexAddr (n:=r22.length) Tryz.underlying120 sz9 hs27_8 hs27_10 hg30.1 hg30.2 hat33) (qu (Sv (rd r22 x28)) (PO.loadC 0 pl9 Z Z (chunkHas0 hhas35)) (qa (Sv (rd r22 x28)) (Ns (qm (Sv (rd r22 x28)) (qM (Sv a1) hs27_1 (qu (Bv (decide ((rd r22 x28)=a1))) (PO.seql Z Z) (Nt (Ch h Z (fun hb37 h=> ?_) (fun hb37 h=> ?_)))))))))
 refine Sr (qa (Bv true) (Nt (Cr (Br (Tr (WQ.leaveR (Sum.inr ()) (oi h).symm (fun heq27=> ?_)))))))
 subst heq27
 have h:=(elimR hK27)
 refine Br (Tr ?_)
 have h:=KK.early h h321
 exact Dr (Rf h [] Z (Rs Z Z) (hle25.trans hle27) ⟨Z,Z⟩)
 exact Ck (Bn (Tc (Cg (qu (Iv (IntKind.i64.wrap (x28+1))) (PO.add hs27_10 Z) (qm (Iv (IntKind.i64.wrap (x28+1))) (Wz (WQ.again (IntKind.i64.wrap (x28+1)) (oi h).symm ⟨hle27,Z,hs27_1,hs27_8,hs27_9,Z⟩)))))))
 refine WC.exit (WQ.thenE (WQ.leaveE (Sum.inl ()) (oi h).symm (fun heq27=> ?_)))
 subst heq27
 have h:=elimL hK27
 exact WQ.blockH (Dr (WQ.thenFE h ⟨(hle25.trans hle27),Z⟩))
 rintro _ ρ21 M21 H21 rfl ⟨hle21,rfl⟩
 have h:=(Sum.elim_inl _ _ _).symm.trans h
 exact Sr (qa (Bv false) (Nt (Cr (Rf h [] Z (Rs Z Z) hle21 ⟨Z,Z⟩))))

end Go.Proofs.YtkflneabcannnaaGreatDoor.G
