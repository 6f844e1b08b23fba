/- Go functions: what they come to, and that they do. Printed by a program of the session (gen). -/
import Derived.Test.YtkflneabcannnaaGreatDoorPF
import Derived.Test.YtkflneabcannnaaGreatDoorP8
import Derived.Test.YtkflneabcannnaaGreatDoorP10
import Derived.Test.YtkflneabcannnaaGreatDoorP11
import Derived.Test.YtkflneabcannnaaGreatDoorKConv
import Derived.Test.YtkflneabcannnaaGreatDoorKShar2
import Derived.Test.YtkflneabcannnaaGreatDoorKTight2
set_option linter.unusedVariables false
set_option linter.unusedSimpArgs false
set_option maxHeartbeats 8000000
set_option maxRecDepth 100000
namespace Go.Proofs.YtkflneabcannnaaGreatDoor.G
open Go Go.KK

noncomputable def f_ref05_Bytes (a0:T_api_Record):Option (List Int):=
 ((f_ref05_has a0.Kind (98:Int)).bind fun r25=>((f_ref05_int1 a0.Broker r25).bind fun r30=>(grd ([IntKind.u8.wrap a0.Kind].length+r30.length≤274877906944) ((f_ref05_has a0.Kind (101:Int)).bind fun r39=>((f_ref05_int1 a0.Epoch r39).bind fun r44=>(grd (([IntKind.u8.wrap a0.Kind]++r30).length+r44.length≤274877906944) ((f_ref05_has a0.Kind (116:Int)).bind fun r53=>((f_ref05_int1 a0.Topic r53).bind fun r58=>(grd ((([IntKind.u8.wrap a0.Kind]++r30)++r44).length+r58.length≤274877906944) ((f_ref05_has a0.Kind (112:Int)).bind fun r67=>((f_ref05_int1 a0.Part r67).bind fun r72=>(grd (((([IntKind.u8.wrap a0.Kind]++r30)++r44)++r58).length+r72.length≤274877906944) ((f_ref05_has a0.Kind (108:Int)).bind fun r81=>((f_ref05_int1 a0.Leader r81).bind fun r86=>(grd ((((([IntKind.u8.wrap a0.Kind]++r30)++r44)++r58)++r72).length+r86.length≤274877906944) ((f_ref05_has a0.Kind (97:Int)).bind fun r95=>((f_ref05_int1 a0.Client r95).bind fun r100=>(grd (((((([IntKind.u8.wrap a0.Kind]++r30)++r44)++r58)++r72)++r86).length+r100.length≤274877906944) ((f_ref05_has a0.Kind (97:Int)).bind fun r109=>((f_ref05_int1 a0.Serial r109).bind fun r114=>(grd ((((((([IntKind.u8.wrap a0.Kind]++r30)++r44)++r58)++r72)++r86)++r100).length+r114.length≤274877906944) ((f_ref05_has a0.Kind (97:Int)).bind fun r123=>((f_ref05_int1 a0.Code r123).bind fun r128=>(grd (((((((([IntKind.u8.wrap a0.Kind]++r30)++r44)++r58)++r72)++r86)++r100)++r114).length+r128.length≤274877906944) ((((f_ref05_has a0.Kind (102:Int)).bind fun r139=>(if r139=true then((f_ref02_Flag a0.Flag).bind fun r145=>(grd ((((((((([IntKind.u8.wrap a0.Kind]++r30)++r44)++r58)++r72)++r86)++r100)++r114)++r128).length+r145.length≤274877906944) (some ((((((((([IntKind.u8.wrap a0.Kind]++r30)++r44)++r58)++r72)++r86)++r100)++r114)++r128)++r145))))else(some (((((((([IntKind.u8.wrap a0.Kind]++r30)++r44)++r58)++r72)++r86)++r100)++r114)++r128)))):Option (List Int)).bind fun x137=>((f_ref05_has a0.Kind (110:Int)).bind fun r154=>((f_ref05_text1 a0.Name r154).bind fun r159=>(grd (x137.length+r159.length≤274877906944) ((f_ref05_has a0.Kind (107:Int)).bind fun r168=>((f_ref05_text1 a0.Key r168).bind fun r173=>(grd ((x137++r159).length+r173.length≤274877906944) ((f_ref05_has a0.Kind (118:Int)).bind fun r182=>((f_ref05_text1 a0.Value r182).bind fun r187=>(grd (((x137++r159)++r173).length+r187.length≤274877906944) ((f_ref05_has a0.Kind (114:Int)).bind fun r196=>((f_ref05_text1 a0.Rack r196).bind fun r201=>(grd ((((x137++r159)++r173)++r187).length+r201.length≤274877906944) ((f_ref05_has a0.Kind (105:Int)).bind fun r210=>((f_ref05_row1 a0.Ids r210).bind fun r215=>(grd (((((x137++r159)++r173)++r187)++r201).length+r215.length≤274877906944) ((f_ref05_has a0.Kind (109:Int)).bind fun r224=>((f_ref05_row1 a0.Isr r224).bind fun r229=>(grd ((((((x137++r159)++r173)++r187)++r201)++r215).length+r229.length≤274877906944) ((f_ref05_has a0.Kind (120:Int)).bind fun r238=>((f_ref05_row1 a0.Add r238).bind fun r243=>(grd (((((((x137++r159)++r173)++r187)++r201)++r215)++r229).length+r243.length≤274877906944) ((f_ref05_has a0.Kind (120:Int)).bind fun r252=>((f_ref05_row1 a0.Drop r252).bind fun r257=>(grd ((((((((x137++r159)++r173)++r187)++r201)++r215)++r229)++r243).length+r257.length≤274877906944) (some ((((((((x137++r159)++r173)++r187)++r201)++r215)++r229)++r243)++r257)))))))))))))))))))))))))))))))))))))))))))))))))))
def f_ref05_Bytes_post (a0:T_api_Record) (v0_14 v0_15 v0_16 v0_17:Value):(List Int)→Value→IM→HL→Prop:=
 fun(r0:(List Int)) (v:Value) (M':IM) (H':HL)=>∃ vz0 cz0,vz0=v∧H'=[cz0]∧OwnS (Kd.int .u8) M' vz0 r0 cz0
theorem f_ref05_Bytes_ok (a0:T_api_Record) (M:IM) (v0_14 v0_15 v0_16 v0_17:Value) (h0_14:RS (Kd.int .i64) M v0_14 a0.Ids) (h0_15:RS (Kd.int .i64) M v0_15 a0.Isr) (h0_16:RS (Kd.int .i64) M v0_16 a0.Add) (h0_17:RS (Kd.int .i64) M v0_17 a0.Drop) (res:(List Int)) (h:f_ref05_Bytes a0=some res):
 Tri Tryz.prog 122 #[(a58_ a0 v0_14 v0_15 v0_16 v0_17)] M [] (f_ref05_Bytes_post a0 v0_14 v0_15 v0_16 v0_17 res):=by
 unfold f_ref05_Bytes at h
 refine Te Tryz.func122 Z Z ?_
 intro F ρ hρ
 refine Sr (We (EO.box (cs:=(l58 a0 v0_14 v0_15 v0_16 v0_17).toArray) (congrArg Value.cells (asE (a58_ a0 v0_14 v0_15 v0_16 v0_17) (hρ 0)))) Z ?_)
 rintro _ _ _ - ⟨rfl,g21,rfl,rfl⟩
 refine qa Zs (Ns (qu (pt g21 0) (Fa fo58_0 Z Z) (qu (Iv a0.Kind) (Lb 0 pl3 Z Z Z) (qa (Iv a0.Kind) (Ns (qm (Iv a0.Kind) (qu (Yv (IntKind.u8.wrap a0.Kind)) (PO.conv us3 Tryz.underlying5 Z) (We (EO.buildSliceL (cl:=[(Yv (IntKind.u8.wrap a0.Kind))]) Tryz.underlying23 iz5 Z (Pc (Yv (IntKind.u8.wrap a0.Kind)) Z Z Pz) Z) Z ?_))))))))
 rintro _ _ _ - ⟨rfl,g22,rfl,rfl⟩
 have h24:OwnS (Kd.int .u8) M (.slice (some ⟨g22,0,none⟩) 1 1) [IntKind.u8.wrap a0.Kind] [(g22, .cells #[(Yv (IntKind.u8.wrap a0.Kind))] 5 (0,0))]:=OwnS.rows (css:=[[(Yv (IntKind.u8.wrap a0.Kind))]]) (Rows.cons Z Rows.nil) Z Z
 refine qa (.slice (some ⟨g22,0,none⟩) 1 1) (Nt (Cs (WC.draw [0,0,2,0,8,30,63,127] (.pure 0 (.pure 1 (.pure 2 (.pure 3 (.alt 4 (.alt 5 (.alt 6 (.alt 7 .done .none) .none) .none) .none))))) mixed (by kernel_rfl) (qt (.slice (some ⟨g22,0,none⟩) 1 1) Z (Mv Z) (qt (pt g21 1) Z (Fa fo58_1 Z Z) (qt (Iv a0.Broker) Z (Lb 1 pl3 Z Z Z) (qt (Iv a0.Kind) Z (Mv Z) ?_)))))))
 obtain ⟨r25,hr26,h⟩:=bnd h
 refine Ta Z (Ca co105 (f_ref05_has_ok a0.Kind (98:Int) _ r25 hr26) (args2 Z Z)) Z ?_ ?_
 rintro _ M27 _ hle28 ⟨_,⟨rfl,rfl⟩,rfl⟩
 refine⟨(Sk 1 Z (Ss Z (Lb 1 pl3 Z Z Z) Z (Ss Z (Fa fo58_1 Z Z) Z (Ss Z (Mv Z) Z trivial)))), ?_⟩
 refine WT.a0 ?_
 obtain ⟨r30,hr31,h⟩:=bnd h
 refine Ta Z (Ca co141 (f_ref05_int1_ok a0.Broker r25 _ r30 hr31) (args2 Z Z)) Z ?_ ?_
 rintro _ M32 _ hle33 ⟨_,⟨vq34,cq34,rfl,rfl,hq34⟩,rfl⟩
 refine⟨(Sk 3 Z (Ss Z (Mv Z) Z trivial)), ?_⟩
 refine WT.a1 ?_
 obtain ⟨hg38,h⟩:=grd_i h
 refine WT.f1 ?_
 have h24:=h24.mono (hle28.trans hle33)
 refine Ta Z (EO.append (dd:=(Kd.int .u8)) (xs:=[IntKind.u8.wrap a0.Kind]) (ys:=r30) Tryz.underlying23 Tryz.underlying23 in5 Z (appB (by decide) hg38) (by decide) Z Z h24 (hq34.src 1 Z)) Z ?_ ?_
 rintro v37 _ _ - ⟨rfl,c35,rfl,h36⟩
 refine⟨(Sl Z), ?_⟩
 refine Ta Z ((Ag Z).eo) Z ?_ ?_
 rintro _ _ _ - ⟨rfl,rfl,rfl⟩
 refine⟨(Sl Z), ?_⟩
 refine Ti (Tc (Cs (WC.draw [0,0,2,0,8,30,63,127] (.pure 0 (.pure 1 (.pure 2 (.pure 3 (.alt 4 (.alt 5 (.alt 6 (.alt 7 .done .none) .none) .none) .none))))) mixed (by kernel_rfl) (qt v37 Z (Mv Z) (qt (pt g21 2) Z (Fa fo58_2 Z Z) (qt (Iv a0.Epoch) Z (Lb 2 pl3 Z Z Z) (qt (Iv a0.Kind) Z (Mv Z) ?_)))))))
 obtain ⟨r39,hr40,h⟩:=bnd h
 refine Ta Z (Ca co105 (f_ref05_has_ok a0.Kind (101:Int) _ r39 hr40) (args2 Z Z)) Z ?_ ?_
 rintro _ M41 _ hle42 ⟨_,⟨rfl,rfl⟩,rfl⟩
 have L42:=(hle28.trans hle33).trans hle42
 refine⟨(Sk 1 Z (Ss Z (Lb 2 pl3 Z Z Z) Z (Ss Z (Fa fo58_2 Z Z) Z (Ss Z (Mv Z) Z trivial)))), ?_⟩
 refine WT.a0 ?_
 obtain ⟨r44,hr45,h⟩:=bnd h
 refine Ta Z (Ca co141 (f_ref05_int1_ok a0.Epoch r39 _ r44 hr45) (args2 Z Z)) Z ?_ ?_
 rintro _ M46 _ hle47 ⟨_,⟨vq48,cq48,rfl,rfl,hq48⟩,rfl⟩
 have L47:=L42.trans hle47
 refine⟨(Sk 3 Z (Ss Z (Mv Z) Z trivial)), ?_⟩
 refine WT.a1 ?_
 obtain ⟨hg52,h⟩:=grd_i h
 refine WT.f1 ?_
 have h36:=h36.mono (hle42.trans hle47)
 refine Ta Z (EO.append (dd:=(Kd.int .u8)) (xs:=[IntKind.u8.wrap a0.Kind]++r30) (ys:=r44) Tryz.underlying23 Tryz.underlying23 in5 Z (appB (by decide) hg52) (by decide) Z Z h36 (hq48.src 1 Z)) Z ?_ ?_
 rintro v51 _ _ - ⟨rfl,c49,rfl,h50⟩
 refine⟨(Sl Z), ?_⟩
 refine Ta Z ((Ag Z).eo) Z ?_ ?_
 rintro _ _ _ - ⟨rfl,rfl,rfl⟩
 refine⟨(Sl Z), ?_⟩
 refine Ti (Tc (Cs (WC.draw [0,0,2,0,8,30,63,127] (.pure 0 (.pure 1 (.pure 2 (.pure 3 (.alt 4 (.alt 5 (.alt 6 (.alt 7 .done .none) .none) .none) .none))))) mixed (by kernel_rfl) (qt v51 Z (Mv Z) (qt (pt g21 3) Z (Fa fo58_3 Z Z) (qt (Iv a0.Topic) Z (Lb 3 pl3 Z Z Z) (qt (Iv a0.Kind) Z (Mv Z) ?_)))))))
 obtain ⟨r53,hr54,h⟩:=bnd h
 refine Ta Z (Ca co105 (f_ref05_has_ok a0.Kind (116:Int) _ r53 hr54) (args2 Z Z)) Z ?_ ?_
 rintro _ M55 _ hle56 ⟨_,⟨rfl,rfl⟩,rfl⟩
 have L56:=L47.trans hle56
 refine⟨(Sk 1 Z (Ss Z (Lb 3 pl3 Z Z Z) Z (Ss Z (Fa fo58_3 Z Z) Z (Ss Z (Mv Z) Z trivial)))), ?_⟩
 refine WT.a0 ?_
 obtain ⟨r58,hr59,h⟩:=bnd h
 refine Ta Z (Ca co141 (f_ref05_int1_ok a0.Topic r53 _ r58 hr59) (args2 Z Z)) Z ?_ ?_
 rintro _ M60 _ hle61 ⟨_,⟨vq62,cq62,rfl,rfl,hq62⟩,rfl⟩
 have L61:=L56.trans hle61
 refine⟨(Sk 3 Z (Ss Z (Mv Z) Z trivial)), ?_⟩
 refine WT.a1 ?_
 obtain ⟨hg66,h⟩:=grd_i h
 refine WT.f1 ?_
 have h50:=h50.mono (hle56.trans hle61)
 refine Ta Z (EO.append (dd:=(Kd.int .u8)) (xs:=([IntKind.u8.wrap a0.Kind]++r30)++r44) (ys:=r58) Tryz.underlying23 Tryz.underlying23 in5 Z (appB (by decide) hg66) (by decide) Z Z h50 (hq62.src 1 Z)) Z ?_ ?_
 rintro v65 _ _ - ⟨rfl,c63,rfl,h64⟩
 refine⟨(Sl Z), ?_⟩
 refine Ta Z ((Ag Z).eo) Z ?_ ?_
 rintro _ _ _ - ⟨rfl,rfl,rfl⟩
 refine⟨(Sl Z), ?_⟩
 refine Ti (Tc (Cs (WC.draw [0,0,2,0,8,30,63,127] (.pure 0 (.pure 1 (.pure 2 (.pure 3 (.alt 4 (.alt 5 (.alt 6 (.alt 7 .done .none) .none) .none) .none))))) mixed (by kernel_rfl) (qt v65 Z (Mv Z) (qt (pt g21 4) Z (Fa fo58_4 Z Z) (qt (Iv a0.Part) Z (Lb 4 pl3 Z Z Z) (qt (Iv a0.Kind) Z (Mv Z) ?_)))))))
 obtain ⟨r67,hr68,h⟩:=bnd h
 refine Ta Z (Ca co105 (f_ref05_has_ok a0.Kind (112:Int) _ r67 hr68) (args2 Z Z)) Z ?_ ?_
 rintro _ M69 _ hle70 ⟨_,⟨rfl,rfl⟩,rfl⟩
 have L70:=L61.trans hle70
 refine⟨(Sk 1 Z (Ss Z (Lb 4 pl3 Z Z Z) Z (Ss Z (Fa fo58_4 Z Z) Z (Ss Z (Mv Z) Z trivial)))), ?_⟩
 refine WT.a0 ?_
 obtain ⟨r72,hr73,h⟩:=bnd h
 refine Ta Z (Ca co141 (f_ref05_int1_ok a0.Part r67 _ r72 hr73) (args2 Z Z)) Z ?_ ?_
 rintro _ M74 _ hle75 ⟨_,⟨vq76,cq76,rfl,rfl,hq76⟩,rfl⟩
 have L75:=L70.trans hle75
 refine⟨(Sk 3 Z (Ss Z (Mv Z) Z trivial)), ?_⟩
 refine WT.a1 ?_
 obtain ⟨hg80,h⟩:=grd_i h
 refine WT.f1 ?_
 have h64:=h64.mono (hle70.trans hle75)
 refine Ta Z (EO.append (dd:=(Kd.int .u8)) (xs:=(([IntKind.u8.wrap a0.Kind]++r30)++r44)++r58) (ys:=r72) Tryz.underlying23 Tryz.underlying23 in5 Z (appB (by decide) hg80) (by decide) Z Z h64 (hq76.src 1 Z)) Z ?_ ?_
 rintro v79 _ _ - ⟨rfl,c77,rfl,h78⟩
 refine⟨(Sl Z), ?_⟩
 refine Ta Z ((Ag Z).eo) Z ?_ ?_
 rintro _ _ _ - ⟨rfl,rfl,rfl⟩
 refine⟨(Sl Z), ?_⟩
 refine Ti (Tc (Cs (WC.draw [0,0,2,0,8,30,63,127] (.pure 0 (.pure 1 (.pure 2 (.pure 3 (.alt 4 (.alt 5 (.alt 6 (.alt 7 .done .none) .none) .none) .none))))) mixed (by kernel_rfl) (qt v79 Z (Mv Z) (qt (pt g21 5) Z (Fa fo58_5 Z Z) (qt (Iv a0.Leader) Z (Lb 5 pl3 Z Z Z) (qt (Iv a0.Kind) Z (Mv Z) ?_)))))))
 obtain ⟨r81,hr82,h⟩:=bnd h
 refine Ta Z (Ca co105 (f_ref05_has_ok a0.Kind (108:Int) _ r81 hr82) (args2 Z Z)) Z ?_ ?_
 rintro _ M83 _ hle84 ⟨_,⟨rfl,rfl⟩,rfl⟩
 have L84:=L75.trans hle84
 refine⟨(Sk 1 Z (Ss Z (Lb 5 pl3 Z Z Z) Z (Ss Z (Fa fo58_5 Z Z) Z (Ss Z (Mv Z) Z trivial)))), ?_⟩
 refine WT.a0 ?_
 obtain ⟨r86,hr87,h⟩:=bnd h
 refine Ta Z (Ca co141 (f_ref05_int1_ok a0.Leader r81 _ r86 hr87) (args2 Z Z)) Z ?_ ?_
 rintro _ M88 _ hle89 ⟨_,⟨vq90,cq90,rfl,rfl,hq90⟩,rfl⟩
 have L89:=L84.trans hle89
 refine⟨(Sk 3 Z (Ss Z (Mv Z) Z trivial)), ?_⟩
 refine WT.a1 ?_
 obtain ⟨hg94,h⟩:=grd_i h
 refine WT.f1 ?_
 have h78:=h78.mono (hle84.trans hle89)
 refine Ta Z (EO.append (dd:=(Kd.int .u8)) (xs:=((([IntKind.u8.wrap a0.Kind]++r30)++r44)++r58)++r72) (ys:=r86) Tryz.underlying23 Tryz.underlying23 in5 Z (appB (by decide) hg94) (by decide) Z Z h78 (hq90.src 1 Z)) Z ?_ ?_
 rintro v93 _ _ - ⟨rfl,c91,rfl,h92⟩
 refine⟨(Sl Z), ?_⟩
 refine Ta Z ((Ag Z).eo) Z ?_ ?_
 rintro _ _ _ - ⟨rfl,rfl,rfl⟩
 refine⟨(Sl Z), ?_⟩
 refine Ti (Tc (Cs (WC.draw [0,0,2,0,8,30,63,127] (.pure 0 (.pure 1 (.pure 2 (.pure 3 (.alt 4 (.alt 5 (.alt 6 (.alt 7 .done .none) .none) .none) .none))))) mixed (by kernel_rfl) (qt v93 Z (Mv Z) (qt (pt g21 6) Z (Fa fo58_6 Z Z) (qt (Iv a0.Client) Z (Lb 6 pl3 Z Z Z) (qt (Iv a0.Kind) Z (Mv Z) ?_)))))))
 obtain ⟨r95,hr96,h⟩:=bnd h
 refine Ta Z (Ca co105 (f_ref05_has_ok a0.Kind (97:Int) _ r95 hr96) (args2 Z Z)) Z ?_ ?_
 rintro _ M97 _ hle98 ⟨_,⟨rfl,rfl⟩,rfl⟩
 have L98:=L89.trans hle98
 refine⟨(Sk 1 Z (Ss Z (Lb 6 pl3 Z Z Z) Z (Ss Z (Fa fo58_6 Z Z) Z (Ss Z (Mv Z) Z trivial)))), ?_⟩
 refine WT.a0 ?_
 obtain ⟨r100,hr101,h⟩:=bnd h
 refine Ta Z (Ca co141 (f_ref05_int1_ok a0.Client r95 _ r100 hr101) (args2 Z Z)) Z ?_ ?_
 rintro _ M102 _ hle103 ⟨_,⟨vq104,cq104,rfl,rfl,hq104⟩,rfl⟩
 have L103:=L98.trans hle103
 refine⟨(Sk 3 Z (Ss Z (Mv Z) Z trivial)), ?_⟩
 refine WT.a1 ?_
 obtain ⟨hg108,h⟩:=grd_i h
 refine WT.f1 ?_
 have h92:=h92.mono (hle98.trans hle103)
 refine Ta Z (EO.append (dd:=(Kd.int .u8)) (xs:=(((([IntKind.u8.wrap a0.Kind]++r30)++r44)++r58)++r72)++r86) (ys:=r100) Tryz.underlying23 Tryz.underlying23 in5 Z (appB (by decide) hg108) (by decide) Z Z h92 (hq104.src 1 Z)) Z ?_ ?_
 rintro v107 _ _ - ⟨rfl,c105,rfl,h106⟩
 refine⟨(Sl Z), ?_⟩
 refine Ta Z ((Ag Z).eo) Z ?_ ?_
 rintro _ _ _ - ⟨rfl,rfl,rfl⟩
 refine⟨(Sl Z), ?_⟩
 refine Ti (Tc (Cs (WC.draw [0,0,2,0,8,30,63,127] (.pure 0 (.pure 1 (.pure 2 (.pure 3 (.alt 4 (.alt 5 (.alt 6 (.alt 7 .done .none) .none) .none) .none))))) mixed (by kernel_rfl) (qt v107 Z (Mv Z) (qt (pt g21 7) Z (Fa fo58_7 Z Z) (qt (Iv a0.Serial) Z (Lb 7 pl3 Z Z Z) (qt (Iv a0.Kind) Z (Mv Z) ?_)))))))
 obtain ⟨r109,hr110,h⟩:=bnd h
 refine Ta Z (Ca co105 (f_ref05_has_ok a0.Kind (97:Int) _ r109 hr110) (args2 Z Z)) Z ?_ ?_
 rintro _ M111 _ hle112 ⟨_,⟨rfl,rfl⟩,rfl⟩
 have L112:=L103.trans hle112
 refine⟨(Sk 1 Z (Ss Z (Lb 7 pl3 Z Z Z) Z (Ss Z (Fa fo58_7 Z Z) Z (Ss Z (Mv Z) Z trivial)))), ?_⟩
 refine WT.a0 ?_
 obtain ⟨r114,hr115,h⟩:=bnd h
 refine Ta Z (Ca co141 (f_ref05_int1_ok a0.Serial r109 _ r114 hr115) (args2 Z Z)) Z ?_ ?_
 rintro _ M116 _ hle117 ⟨_,⟨vq118,cq118,rfl,rfl,hq118⟩,rfl⟩
 have L117:=L112.trans hle117
 refine⟨(Sk 3 Z (Ss Z (Mv Z) Z trivial)), ?_⟩
 refine WT.a1 ?_
 obtain ⟨hg122,h⟩:=grd_i h
 refine WT.f1 ?_
 have h106:=h106.mono (hle112.trans hle117)
 refine Ta Z (EO.append (dd:=(Kd.int .u8)) (xs:=((((([IntKind.u8.wrap a0.Kind]++r30)++r44)++r58)++r72)++r86)++r100) (ys:=r114) Tryz.underlying23 Tryz.underlying23 in5 Z (appB (by decide) hg122) (by decide) Z Z h106 (hq118.src 1 Z)) Z ?_ ?_
 rintro v121 _ _ - ⟨rfl,c119,rfl,h120⟩
 refine⟨(Sl Z), ?_⟩
 refine Ta Z ((Ag Z).eo) Z ?_ ?_
 rintro _ _ _ - ⟨rfl,rfl,rfl⟩
 refine⟨(Sl Z), ?_⟩
 refine Ti (Tc (Cs (WC.draw [0,0,2,0,8,30,63,127] (.pure 0 (.pure 1 (.pure 2 (.pure 3 (.alt 4 (.alt 5 (.alt 6 (.alt 7 .done .none) .none) .none) .none))))) mixed (by kernel_rfl) (qt v121 Z (Mv Z) (qt (pt g21 8) Z (Fa fo58_8 Z Z) (qt (Iv a0.Code) Z (Lb 8 pl3 Z Z Z) (qt (Iv a0.Kind) Z (Mv Z) ?_)))))))
 obtain ⟨r123,hr124,h⟩:=bnd h
 refine Ta Z (Ca co105 (f_ref05_has_ok a0.Kind (97:Int) _ r123 hr124) (args2 Z Z)) Z ?_ ?_
 rintro _ M125 _ hle126 ⟨_,⟨rfl,rfl⟩,rfl⟩
 have L126:=L117.trans hle126
 refine⟨(Sk 1 Z (Ss Z (Lb 8 pl3 Z Z Z) Z (Ss Z (Fa fo58_8 Z Z) Z (Ss Z (Mv Z) Z trivial)))), ?_⟩
 refine WT.a0 ?_
 obtain ⟨r128,hr129,h⟩:=bnd h
 refine Ta Z (Ca co141 (f_ref05_int1_ok a0.Code r123 _ r128 hr129) (args2 Z Z)) Z ?_ ?_
 rintro _ M130 _ hle131 ⟨_,⟨vq132,cq132,rfl,rfl,hq132⟩,rfl⟩
 have L131:=L126.trans hle131
 refine⟨(Sk 3 Z (Ss Z (Mv Z) Z trivial)), ?_⟩
 refine WT.a1 ?_
 obtain ⟨hg136,h⟩:=grd_i h
 refine WT.f1 ?_
 have h120:=h120.mono (hle126.trans hle131)
 refine Ta Z (EO.append (dd:=(Kd.int .u8)) (xs:=(((((([IntKind.u8.wrap a0.Kind]++r30)++r44)++r58)++r72)++r86)++r100)++r114) (ys:=r128) Tryz.underlying23 Tryz.underlying23 in5 Z (appB (by decide) hg136) (by decide) Z Z h120 (hq132.src 1 Z)) Z ?_ ?_
 rintro v135 _ _ - ⟨rfl,c133,rfl,h134⟩
 refine⟨(Sl Z), ?_⟩
 refine Ta Z ((Ag Z).eo) Z ?_ ?_
 rintro _ _ _ - ⟨rfl,rfl,rfl⟩
 refine⟨(Sl Z), ?_⟩
 refine Ti (Tc ?_)
 obtain ⟨x137,hj138,h⟩:=bnd h
 refine Jf (fun(x137:(List Int)) ρ' M' H'=>∃ vx137 cx137,M130.le M'∧[(g21, .cells (l58 a0 v0_14 v0_15 v0_16 v0_17).toArray 58 (0,0))]::cx137::F=H'∧ρ' 1=(pt g21 0)∧ρ' 3=(Iv a0.Kind)∧ρ' 4=vx137∧OwnS (Kd.int .u8) M' vx137 x137 cx137) x137 ?_ ?_
 have h:=hj138
 refine Sr (qm (Iv a0.Kind) ?_)
 obtain ⟨r139,hr140,h⟩:=bnd h
 refine We (Ca co105 (f_ref05_has_ok a0.Kind (102:Int) _ r139 hr140) (args2 Z Z)) Z ?_
 rintro _ M141 _ hle142 ⟨_,⟨rfl,rfl⟩,rfl⟩
 refine WL.a0 (Nt (Ch h Z (fun hb144 h=> ?_) (fun hb144 h=> ?_)))
 refine Cg (qm v135 (qu (pt g21 9) (Fa fo58_9 Z Z) (qu (Bv a0.Flag) (Lb 9 pl4 Z Z Z) ?_)))
 obtain ⟨r145,hr146,h⟩:=bnd h
 refine We (Ca co124 (f_ref02_Flag_ok a0.Flag _ r145 hr146) (args1 Z)) Z ?_
 rintro _ M147 _ hle148 ⟨_,⟨vq149,cq149,rfl,rfl,hq149⟩,rfl⟩
 refine WL.a1 ?_
 obtain ⟨hg153,h⟩:=grd_i h
 refine WL.f1 ?_
 have h134:=h134.mono (hle142.trans hle148)
 refine We (EO.append (dd:=(Kd.int .u8)) (xs:=((((((([IntKind.u8.wrap a0.Kind]++r30)++r44)++r58)++r72)++r86)++r100)++r114)++r128) (ys:=r145) Tryz.underlying23 Tryz.underlying23 in5 Z (appB (by decide) hg153) (by decide) Z Z h134 (hq149.src 1 Z)) Z ?_
 rintro v152 _ _ - ⟨rfl,c150,rfl,h151⟩
 refine qa v152 (Wz (Qa (Dr (Qa (Dr (Qa (Dr (Qa (Dr (Qa (Dr ?_)))))))))))
 refine Qa (Dr (Qa (Dr (Qa (Dr (Qa (Dr (Qa ?_))))))))
 obtain rfl:=oi h
 exact Tj ⟨v152,c150,(hle142.trans hle148),Z,Z,Z,Z,h151⟩
 refine Ck (Qa (Dr (Qa (Dr (Qa (Dr (Qa (Dr (Qa (Dr (Qa ?_)))))))))))
 refine Dr (Qa (Dr (Qa (Dr (Qa ?_)))))
 obtain rfl:=oi h
 refine Tj ?_
 have h134:=h134.mono hle142
 exact⟨v135,c133,hle142,Z,Z,Z,Z,h134⟩
 rintro ρ138 M138 H138 ⟨vx137,cx137,hle138,rfl,hs138_1,hs138_3,hs138_4,hx137⟩
 have L138:=L131.trans hle138
 refine Cs (WC.draw [0,0,2,0,8,30,63,127] (.pure 0 (.pure 1 (.pure 2 (.pure 3 (.alt 4 (.alt 5 (.alt 6 (.alt 7 .done .none) .none) .none) .none))))) mixed (by kernel_rfl) (qt vx137 Z (Mv hs138_4) (qt (pt g21 10) Z (Fa fo58_10 hs138_1 Z) (qt (Sv a0.Name) Z (Lb 0 pl9 Z Z Z) (qt (Iv a0.Kind) Z (Mv hs138_3) ?_)))))
 obtain ⟨r154,hr155,h⟩:=bnd h
 refine Ta Z (Ca co105 (f_ref05_has_ok a0.Kind (110:Int) _ r154 hr155) (args2 Z Z)) Z ?_ ?_
 rintro _ M156 _ hle157 ⟨_,⟨rfl,rfl⟩,rfl⟩
 have L157:=L138.trans hle157
 refine⟨(Sk 1 Z (Ss Z (Lb 0 pl9 Z Z Z) Z (Ss Z (Fa fo58_10 hs138_1 Z) Z (Ss Z (Mv hs138_4) Z trivial)))), ?_⟩
 refine WT.a0 ?_
 obtain ⟨r159,hr160,h⟩:=bnd h
 refine Ta Z (Ca co142 (f_ref05_text1_ok a0.Name r154 _ r159 hr160) (args2 Z Z)) Z ?_ ?_
 rintro _ M161 _ hle162 ⟨_,⟨vq163,cq163,rfl,rfl,hq163⟩,rfl⟩
 have L162:=L157.trans hle162
 refine⟨(Sk 3 Z (Ss Z (Mv hs138_4) Z trivial)), ?_⟩
 refine WT.a1 ?_
 obtain ⟨hg167,h⟩:=grd_i h
 refine WT.f2 ?_
 have hx137:=hx137.mono (hle157.trans hle162)
 refine Ta Z (EO.append (dd:=(Kd.int .u8)) (xs:=x137) (ys:=r159) Tryz.underlying23 Tryz.underlying23 in5 Z (appB (by decide) hg167) (by decide) Z Z hx137 (hq163.src 1 Z)) Z ?_ ?_
 rintro v166 _ _ - ⟨rfl,c164,rfl,h165⟩
 refine⟨(Sl Z), ?_⟩
 refine Ta Z ((Ag Z).eo) Z ?_ ?_
 rintro _ _ _ - ⟨rfl,rfl,rfl⟩
 refine⟨(Sl Z), ?_⟩
 refine Ti (Tc (Cs (WC.draw [0,0,2,0,8,30,63,127] (.pure 0 (.pure 1 (.pure 2 (.pure 3 (.alt 4 (.alt 5 (.alt 6 (.alt 7 .done .none) .none) .none) .none))))) mixed (by kernel_rfl) (qt v166 Z (Mv Z) (qt (pt g21 11) Z (Fa fo58_11 hs138_1 Z) (qt (Sv a0.Key) Z (Lb 2 pl9 Z Z Z) (qt (Iv a0.Kind) Z (Mv hs138_3) ?_)))))))
 obtain ⟨r168,hr169,h⟩:=bnd h
 refine Ta Z (Ca co105 (f_ref05_has_ok a0.Kind (107:Int) _ r168 hr169) (args2 Z Z)) Z ?_ ?_
 rintro _ M170 _ hle171 ⟨_,⟨rfl,rfl⟩,rfl⟩
 have L171:=L162.trans hle171
 refine⟨(Sk 1 Z (Ss Z (Lb 2 pl9 Z Z Z) Z (Ss Z (Fa fo58_11 hs138_1 Z) Z (Ss Z (Mv Z) Z trivial)))), ?_⟩
 refine WT.a0 ?_
 obtain ⟨r173,hr174,h⟩:=bnd h
 refine Ta Z (Ca co142 (f_ref05_text1_ok a0.Key r168 _ r173 hr174) (args2 Z Z)) Z ?_ ?_
 rintro _ M175 _ hle176 ⟨_,⟨vq177,cq177,rfl,rfl,hq177⟩,rfl⟩
 have L176:=L171.trans hle176
 refine⟨(Sk 3 Z (Ss Z (Mv Z) Z trivial)), ?_⟩
 refine WT.a1 ?_
 obtain ⟨hg181,h⟩:=grd_i h
 refine WT.f1 ?_
 have h165:=h165.mono (hle171.trans hle176)
 refine Ta Z (EO.append (dd:=(Kd.int .u8)) (xs:=x137++r159) (ys:=r173) Tryz.underlying23 Tryz.underlying23 in5 Z (appB (by decide) hg181) (by decide) Z Z h165 (hq177.src 1 Z)) Z ?_ ?_
 rintro v180 _ _ - ⟨rfl,c178,rfl,h179⟩
 refine⟨(Sl Z), ?_⟩
 refine Ta Z ((Ag Z).eo) Z ?_ ?_
 rintro _ _ _ - ⟨rfl,rfl,rfl⟩
 refine⟨(Sl Z), ?_⟩
 refine Ti (Tc (Cs (WC.draw [0,0,2,0,8,30,63,127] (.pure 0 (.pure 1 (.pure 2 (.pure 3 (.alt 4 (.alt 5 (.alt 6 (.alt 7 .done .none) .none) .none) .none))))) mixed (by kernel_rfl) (qt v180 Z (Mv Z) (qt (pt g21 12) Z (Fa fo58_12 hs138_1 Z) (qt (Sv a0.Value) Z (Lb 3 pl9 Z Z Z) (qt (Iv a0.Kind) Z (Mv hs138_3) ?_)))))))
 obtain ⟨r182,hr183,h⟩:=bnd h
 refine Ta Z (Ca co105 (f_ref05_has_ok a0.Kind (118:Int) _ r182 hr183) (args2 Z Z)) Z ?_ ?_
 rintro _ M184 _ hle185 ⟨_,⟨rfl,rfl⟩,rfl⟩
 have L185:=L176.trans hle185
 refine⟨(Sk 1 Z (Ss Z (Lb 3 pl9 Z Z Z) Z (Ss Z (Fa fo58_12 hs138_1 Z) Z (Ss Z (Mv Z) Z trivial)))), ?_⟩
 refine WT.a0 ?_
 obtain ⟨r187,hr188,h⟩:=bnd h
 refine Ta Z (Ca co142 (f_ref05_text1_ok a0.Value r182 _ r187 hr188) (args2 Z Z)) Z ?_ ?_
 rintro _ M189 _ hle190 ⟨_,⟨vq191,cq191,rfl,rfl,hq191⟩,rfl⟩
 have L190:=L185.trans hle190
 refine⟨(Sk 3 Z (Ss Z (Mv Z) Z trivial)), ?_⟩
 refine WT.a1 ?_
 obtain ⟨hg195,h⟩:=grd_i h
 refine WT.f1 ?_
 have h179:=h179.mono (hle185.trans hle190)
 refine Ta Z (EO.append (dd:=(Kd.int .u8)) (xs:=(x137++r159)++r173) (ys:=r187) Tryz.underlying23 Tryz.underlying23 in5 Z (appB (by decide) hg195) (by decide) Z Z h179 (hq191.src 1 Z)) Z ?_ ?_
 rintro v194 _ _ - ⟨rfl,c192,rfl,h193⟩
 refine⟨(Sl Z), ?_⟩
 refine Ta Z ((Ag Z).eo) Z ?_ ?_
 rintro _ _ _ - ⟨rfl,rfl,rfl⟩
 refine⟨(Sl Z), ?_⟩
 refine Ti (Tc (Cs (WC.draw [0,0,2,0,8,30,63,127] (.pure 0 (.pure 1 (.pure 2 (.pure 3 (.alt 4 (.alt 5 (.alt 6 (.alt 7 .done .none) .none) .none) .none))))) mixed (by kernel_rfl) (qt v194 Z (Mv Z) (qt (pt g21 13) Z (Fa fo58_13 hs138_1 Z) (qt (Sv a0.Rack) Z (Lb 4 pl9 Z Z Z) (qt (Iv a0.Kind) Z (Mv hs138_3) ?_)))))))
 obtain ⟨r196,hr197,h⟩:=bnd h
 refine Ta Z (Ca co105 (f_ref05_has_ok a0.Kind (114:Int) _ r196 hr197) (args2 Z Z)) Z ?_ ?_
 rintro _ M198 _ hle199 ⟨_,⟨rfl,rfl⟩,rfl⟩
 have L199:=L190.trans hle199
 refine⟨(Sk 1 Z (Ss Z (Lb 4 pl9 Z Z Z) Z (Ss Z (Fa fo58_13 hs138_1 Z) Z (Ss Z (Mv Z) Z trivial)))), ?_⟩
 refine WT.a0 ?_
 obtain ⟨r201,hr202,h⟩:=bnd h
 refine Ta Z (Ca co142 (f_ref05_text1_ok a0.Rack r196 _ r201 hr202) (args2 Z Z)) Z ?_ ?_
 rintro _ M203 _ hle204 ⟨_,⟨vq205,cq205,rfl,rfl,hq205⟩,rfl⟩
 have L204:=L199.trans hle204
 refine⟨(Sk 3 Z (Ss Z (Mv Z) Z trivial)), ?_⟩
 refine WT.a1 ?_
 obtain ⟨hg209,h⟩:=grd_i h
 refine WT.f1 ?_
 have h193:=h193.mono (hle199.trans hle204)
 refine Ta Z (EO.append (dd:=(Kd.int .u8)) (xs:=((x137++r159)++r173)++r187) (ys:=r201) Tryz.underlying23 Tryz.underlying23 in5 Z (appB (by decide) hg209) (by decide) Z Z h193 (hq205.src 1 Z)) Z ?_ ?_
 rintro v208 _ _ - ⟨rfl,c206,rfl,h207⟩
 refine⟨(Sl Z), ?_⟩
 refine Ta Z ((Ag Z).eo) Z ?_ ?_
 rintro _ _ _ - ⟨rfl,rfl,rfl⟩
 refine⟨(Sl Z), ?_⟩
 refine Ti (Tc (Cs (WC.draw [0,0,2,0,8,30,63,127] (.pure 0 (.pure 1 (.pure 2 (.pure 3 (.alt 4 (.alt 5 (.alt 6 (.alt 7 .done .none) .none) .none) .none))))) mixed (by kernel_rfl) (qt v208 Z (Mv Z) (qt (pt g21 14) Z (Fa fo58_14 hs138_1 Z) (qt v0_14 Z (Lb 5 pl56 Z Z Z) (qt (Iv a0.Kind) Z (Mv hs138_3) ?_)))))))
 obtain ⟨r210,hr211,h⟩:=bnd h
 refine Ta Z (Ca co105 (f_ref05_has_ok a0.Kind (105:Int) _ r210 hr211) (args2 Z Z)) Z ?_ ?_
 rintro _ M212 _ hle213 ⟨_,⟨rfl,rfl⟩,rfl⟩
 have L213:=L204.trans hle213
 refine⟨(Sk 1 Z (Ss Z (Lb 5 pl56 Z Z Z) Z (Ss Z (Fa fo58_14 hs138_1 Z) Z (Ss Z (Mv Z) Z trivial)))), ?_⟩
 refine WT.a0 ?_
 obtain ⟨r215,hr216,h⟩:=bnd h
 have h0_14:=h0_14.mono L213
 refine Ta Z (Ca co143 (f_ref05_row1_ok a0.Ids r210 _ _ h0_14 r215 hr216) (args2 Z Z)) Z ?_ ?_
 rintro _ M217 _ hle218 ⟨_,⟨vq219,cq219,rfl,rfl,hq219⟩,rfl⟩
 have L218:=L213.trans hle218
 refine⟨(Sk 3 Z (Ss Z (Mv Z) Z trivial)), ?_⟩
 refine WT.a1 ?_
 obtain ⟨hg223,h⟩:=grd_i h
 refine WT.f1 ?_
 have h207:=h207.mono (hle213.trans hle218)
 refine Ta Z (EO.append (dd:=(Kd.int .u8)) (xs:=(((x137++r159)++r173)++r187)++r201) (ys:=r215) Tryz.underlying23 Tryz.underlying23 in5 Z (appB (by decide) hg223) (by decide) Z Z h207 (hq219.src 1 Z)) Z ?_ ?_
 rintro v222 _ _ - ⟨rfl,c220,rfl,h221⟩
 refine⟨(Sl Z), ?_⟩
 refine Ta Z ((Ag Z).eo) Z ?_ ?_
 rintro _ _ _ - ⟨rfl,rfl,rfl⟩
 refine⟨(Sl Z), ?_⟩
 refine Ti (Tc (Cs (WC.draw [0,0,2,0,8,30,63,127] (.pure 0 (.pure 1 (.pure 2 (.pure 3 (.alt 4 (.alt 5 (.alt 6 (.alt 7 .done .none) .none) .none) .none))))) mixed (by kernel_rfl) (qt v222 Z (Mv Z) (qt (pt g21 15) Z (Fa fo58_15 hs138_1 Z) (qt v0_15 Z (Lb 6 pl56 Z Z Z) (qt (Iv a0.Kind) Z (Mv hs138_3) ?_)))))))
 obtain ⟨r224,hr225,h⟩:=bnd h
 refine Ta Z (Ca co105 (f_ref05_has_ok a0.Kind (109:Int) _ r224 hr225) (args2 Z Z)) Z ?_ ?_
 rintro _ M226 _ hle227 ⟨_,⟨rfl,rfl⟩,rfl⟩
 have L227:=L218.trans hle227
 refine⟨(Sk 1 Z (Ss Z (Lb 6 pl56 Z Z Z) Z (Ss Z (Fa fo58_15 hs138_1 Z) Z (Ss Z (Mv Z) Z trivial)))), ?_⟩
 refine WT.a0 ?_
 obtain ⟨r229,hr230,h⟩:=bnd h
 have h0_15:=h0_15.mono L227
 refine Ta Z (Ca co143 (f_ref05_row1_ok a0.Isr r224 _ _ h0_15 r229 hr230) (args2 Z Z)) Z ?_ ?_
 rintro _ M231 _ hle232 ⟨_,⟨vq233,cq233,rfl,rfl,hq233⟩,rfl⟩
 have L232:=L227.trans hle232
 refine⟨(Sk 3 Z (Ss Z (Mv Z) Z trivial)), ?_⟩
 refine WT.a1 ?_
 obtain ⟨hg237,h⟩:=grd_i h
 refine WT.f1 ?_
 have h221:=h221.mono (hle227.trans hle232)
 refine Ta Z (EO.append (dd:=(Kd.int .u8)) (xs:=((((x137++r159)++r173)++r187)++r201)++r215) (ys:=r229) Tryz.underlying23 Tryz.underlying23 in5 Z (appB (by decide) hg237) (by decide) Z Z h221 (hq233.src 1 Z)) Z ?_ ?_
 rintro v236 _ _ - ⟨rfl,c234,rfl,h235⟩
 refine⟨(Sl Z), ?_⟩
 refine Ta Z ((Ag Z).eo) Z ?_ ?_
 rintro _ _ _ - ⟨rfl,rfl,rfl⟩
 refine⟨(Sl Z), ?_⟩
 refine Ti (Tc (Cs (WC.draw [0,0,2,0,8,30,63,127] (.pure 0 (.pure 1 (.pure 2 (.pure 3 (.alt 4 (.alt 5 (.alt 6 (.alt 7 .done .none) .none) .none) .none))))) mixed (by kernel_rfl) (qt v236 Z (Mv Z) (qt (pt g21 16) Z (Fa fo58_16 hs138_1 Z) (qt v0_16 Z (Lb 7 pl56 Z Z Z) (qt (Iv a0.Kind) Z (Mv hs138_3) ?_)))))))
 obtain ⟨r238,hr239,h⟩:=bnd h
 refine Ta Z (Ca co105 (f_ref05_has_ok a0.Kind (120:Int) _ r238 hr239) (args2 Z Z)) Z ?_ ?_
 rintro _ M240 _ hle241 ⟨_,⟨rfl,rfl⟩,rfl⟩
 have L241:=L232.trans hle241
 refine⟨(Sk 1 Z (Ss Z (Lb 7 pl56 Z Z Z) Z (Ss Z (Fa fo58_16 hs138_1 Z) Z (Ss Z (Mv Z) Z trivial)))), ?_⟩
 refine WT.a0 ?_
 obtain ⟨r243,hr244,h⟩:=bnd h
 have h0_16:=h0_16.mono L241
 refine Ta Z (Ca co143 (f_ref05_row1_ok a0.Add r238 _ _ h0_16 r243 hr244) (args2 Z Z)) Z ?_ ?_
 rintro _ M245 _ hle246 ⟨_,⟨vq247,cq247,rfl,rfl,hq247⟩,rfl⟩
 refine⟨(Sk 3 Z (Ss Z (Mv Z) Z trivial)), ?_⟩
 refine WT.a1 ?_
 obtain ⟨hg251,h⟩:=grd_i h
 refine WT.f1 ?_
 have h235:=h235.mono (hle241.trans hle246)
 refine Ta Z (EO.append (dd:=(Kd.int .u8)) (xs:=(((((x137++r159)++r173)++r187)++r201)++r215)++r229) (ys:=r243) Tryz.underlying23 Tryz.underlying23 in5 Z (appB (by decide) hg251) (by decide) Z Z h235 (hq247.src 1 Z)) Z ?_ ?_
 rintro v250 _ _ - ⟨rfl,c248,rfl,h249⟩
 refine⟨(Sl Z), ?_⟩
 refine Ta Z ((Ag Z).eo) Z ?_ ?_
 rintro _ _ _ - ⟨rfl,rfl,rfl⟩
 refine⟨(Sl Z), ?_⟩
 refine Ti (Tc (Cs (WC.draw [0,0,2,0,8,30,63,127] (.pure 0 (.pure 1 (.pure 2 (.pure 3 (.alt 4 (.alt 5 (.alt 6 (.pure 7 .done) .none) .none) .none))))) mixed (by kernel_rfl) (qt v250 Z (Mv Z) (qt (pt g21 17) Z (Fa fo58_17 hs138_1 Z) (qt v0_17 Z (Lb 8 pl56 Z Z Z) (qt (Iv a0.Kind) Z (Mv hs138_3) ?_)))))))
 obtain ⟨r252,hr253,h⟩:=bnd h
 refine Ta Z (Ca co105 (f_ref05_has_ok a0.Kind (120:Int) _ r252 hr253) (args2 Z Z)) Z ?_ ?_
 rintro _ M254 _ hle255 ⟨_,⟨rfl,rfl⟩,rfl⟩
 refine⟨(Sk 1 Z (Ss Z (Lb 8 pl56 Z Z Z) Z (Ss Z (Fa fo58_17 hs138_1 Z) Z (Ss Z (Mv Z) Z trivial)))), ?_⟩
 refine WT.a0 ?_
 obtain ⟨r257,hr258,h⟩:=bnd h
 have h0_17:=h0_17.mono ((L241.trans hle246).trans hle255)
 refine Ta Z (Ca co143 (f_ref05_row1_ok a0.Drop r252 _ _ h0_17 r257 hr258) (args2 Z Z)) Z ?_ ?_
 rintro _ M259 _ hle260 ⟨_,⟨vq261,cq261,rfl,rfl,hq261⟩,rfl⟩
 refine⟨(Sk 3 Z (Ss Z (Mv Z) Z trivial)), ?_⟩
 refine WT.a1 ?_
 obtain ⟨hg265,h⟩:=grd_i h
 refine WT.f1 ?_
 have h249:=h249.mono (hle255.trans hle260)
 refine Ta Z (EO.append (dd:=(Kd.int .u8)) (xs:=((((((x137++r159)++r173)++r187)++r201)++r215)++r229)++r243) (ys:=r257) Tryz.underlying23 Tryz.underlying23 in5 Z (appB (by decide) hg265) (by decide) Z Z h249 (hq261.src 1 Z)) Z ?_ ?_
 rintro v264 _ _ - ⟨rfl,c262,rfl,h263⟩
 refine⟨(Sl Z), ?_⟩
 refine qt v264 Z (Ag Z) (Ti (Tc (Cr (Qa (Dr (Qa (Dr (Qa (Dr (Qa (Dr ?_)))))))))))
 exact Qa (Dr (Qa (Dr (Qa (Dr (Qa (Dr (Qa (Dr (Rf h [c262] Z (Rs Z Z) (((L241.trans hle246).trans hle255).trans hle260) ⟨v264,c262,Z,Z,h263⟩))))))))))
 exact Tz
 exact Tz
 exact Tz
 exact Tz
 exact Tz
 exact Tz
 exact Tz
 exact Tz
 exact Tz
 exact Tz
 exact Tz
 exact Tz
 exact Tz
 exact Tz
 exact Tz
 exact Tz
 exact Tz
 exact Tz
 exact Tz
 exact Tz
 exact Tz
 exact Tz
 exact Tz
 exact Tz
 exact Tz
 exact Tz
 exact Tz
 exact Tz
 exact Tz
 exact Tz
 exact Tz
 exact Tz
 exact Tz
 exact Tz
 exact Tz
 exact Tz
 exact Tz
 exact Tz
 exact Tz
 exact Tz
 exact Tz
 exact Tz
 exact Tz
 exact Tz
 exact Tz
 exact Tz
 exact Tz
 exact Tz
 exact Tz
 exact Tz
 exact Tz
 exact Tz
 exact Tz
 exact Tz
 exact Tz
 exact Tz
 exact Tz
 exact Tz
 exact Tz
 exact Tz
 exact Tz
 exact Tz
 exact Tz
noncomputable def f_ref06_Bytes_l0 (a0:T_api_Batch) (s_:((List Int)×Int)):Option (((List Int)×Int)⊕(List Int)):=
 match s_ with
 |(x48,x49)=>
 (if(decide (x49<(a0.Records.length:Int)))=true then(grd (0≤x49∧x49<a0.Records.length) ((f_ref05_Bytes (rd a0.Records x49)).bind fun r59=>(grd (x48.length+r59.length≤274877906944) (some (Sum.inl (x48++r59,IntKind.i64.wrap (x49+(1:Int))))))))else(some (Sum.inr x48)))
noncomputable def f_ref06_Bytes (a0:T_api_Batch):Option (List Int):=
 ((f_ref02_Int a0.Term).bind fun r22=>((f_ref02_Int a0.Base).bind fun r27=>(grd (r22.length+r27.length≤274877906944) ((f_ref02_Int (a0.Records.length:Int)).bind fun r36=>(grd ((r22++r27).length+r36.length≤274877906944) ((((iter (f_ref06_Bytes_l0 a0) ((r22++r27)++r36,(0:Int))).bind (fun(x50:(List Int))=>(some x50))):Option (List Int)).bind fun x45=>(some x45)))))))
def f_ref06_Bytes_post (a0:T_api_Batch) (v0_2:Value):(List Int)→Value→IM→HL→Prop:=
 fun(r0:(List Int)) (v:Value) (M':IM) (H':HL)=>∃ vz0 cz0,vz0=v∧H'=[cz0]∧OwnS (Kd.int .u8) M' vz0 r0 cz0
theorem f_ref06_Bytes_ok (a0:T_api_Batch) (M:IM) (v0_2:Value) (h0_2:RS kd_api_Record M v0_2 a0.Records) (res:(List Int)) (h:f_ref06_Bytes a0=some res):
 Tri Tryz.prog 81 #[(a55_ a0 v0_2)] M [] (f_ref06_Bytes_post a0 v0_2 res):=by
 unfold f_ref06_Bytes at h
 refine Te Tryz.func81 Z Z ?_
 intro F ρ hρ
 refine Sr (We (EO.box (cs:=(l55 a0 v0_2).toArray) (congrArg Value.cells (asE (a55_ a0 v0_2) (hρ 0)))) Z ?_)
 rintro _ _ _ - ⟨rfl,g21,rfl,rfl⟩
 refine qa Zs (Ns (qu (pt g21 0) (Fa fo55_0 Z Z) (qu (Iv a0.Term) (Lb 0 pl3 Z Z Z) ?_)))
 obtain ⟨r22,hr23,h⟩:=bnd h
 refine We (Ca co82 (f_ref02_Int_ok a0.Term _ r22 hr23) (args1 Z)) Z ?_
 rintro _ M24 _ hle25 ⟨_,⟨vq26,cq26,rfl,rfl,hq26⟩,rfl⟩
 refine WL.a1 (qa vq26 (Ns (qm vq26 (qu (pt g21 1) (Fa fo55_1 Z Z) (qu (Iv a0.Base) (Lb 1 pl3 Z Z Z) ?_)))))
 obtain ⟨r27,hr28,h⟩:=bnd h
 refine We (Ca co82 (f_ref02_Int_ok a0.Base _ r27 hr28) (args1 Z)) Z ?_
 rintro _ M29 _ hle30 ⟨_,⟨vq31,cq31,rfl,rfl,hq31⟩,rfl⟩
 refine WL.a1 ?_
 obtain ⟨hg35,h⟩:=grd_i h
 refine WL.f1 ?_
 have hq26:=hq26.mono hle30
 refine We (EO.append (dd:=(Kd.int .u8)) (xs:=r22) (ys:=r27) Tryz.underlying23 Tryz.underlying23 in5 Z (appB (by decide) hg35) (by decide) Z Z hq26 (hq31.src 1 Z)) Z ?_
 rintro v34 _ _ - ⟨rfl,c32,rfl,h33⟩
 refine qa v34 (Ns (qm v34 (qu (pt g21 2) (Fa fo55_2 Z Z) (qu v0_2 (Lb 2 pl53 Z Z Z) ?_))))
 have h0_2:=h0_2.mono (hle25.trans hle30)
 refine qu (Iv (a0.Records.length:Int)) (PO.lenS Tryz.underlying53 Z h0_2.len) ?_
 obtain ⟨r36,hr37,h⟩:=bnd h
 refine We (Ca co82 (f_ref02_Int_ok (a0.Records.length:Int) _ r36 hr37) (args1 Z)) Z ?_
 rintro _ M38 _ hle39 ⟨_,⟨vq40,cq40,rfl,rfl,hq40⟩,rfl⟩
 refine WL.a1 ?_
 obtain ⟨hg44,h⟩:=grd_i h
 refine WL.f1 ?_
 have h33:=h33.mono hle39
 refine We (EO.append (dd:=(Kd.int .u8)) (xs:=r22++r27) (ys:=r36) Tryz.underlying23 Tryz.underlying23 in5 Z (appB (by decide) hg44) (by decide) Z Z h33 (hq40.src 1 Z)) Z ?_
 rintro v43 _ _ - ⟨rfl,c41,rfl,h42⟩
 refine qa v43 (Nt ?_)
 obtain ⟨x45,hj46,h⟩:=bnd h
 refine Jf (fun(x45:(List Int)) ρ' M' H'=>∃ vx45 cx45,M38.le M'∧[(g21, .cells (l55 a0 v0_2).toArray 55 (0,0))]::cx45::F=H'∧ρ' 3=vx45∧OwnS (Kd.int .u8) M' vx45 x45 cx45) x45 ?_ ?_
 have h:=hj46
 refine Sr (qa (Iv 0) (Nt (Bk (WC.f1 (WC.drop (WC.f1 (WC.drop (WC.f1 ?_))))))))
 obtain ⟨e47,he47,hK47⟩:=bnd h
 clear h
 refine WC.loop he47 (fun(p_:((List Int)×Int)) ρ' M' H'=>match p_ with |(x48,x49)=>∃ vx48 cx48,M38.le M'∧[(g21, .cells (l55 a0 v0_2).toArray 55 (0,0))]::cx48::F=H'∧ρ' 1=(pt g21 0)∧ρ' 3=vx48∧ρ' 4=(Iv x49)∧OwnS (Kd.int .u8) M' vx48 x48 cx48) ?_ ?_
 exact⟨v43,c41,lr,Z,Z,Z,Z,h42⟩
 rintro ⟨x48,x49⟩ o47 ρ47 M47 H47 h ⟨vx48,cx48,hle47,rfl,hs47_1,hs47_3,hs47_4,hx48⟩
 unfold f_ref06_Bytes_l0 at h
 refine Cs (Sr (qM (Iv x49) hs47_4 (qu (pt g21 2) (Fa fo55_2 hs47_1 Z) (qu v0_2 (Lb 0 pl53 Z Z Z) ?_))))
 have h0_2:=h0_2.mono (hle39.trans hle47)
 refine qu (Iv (a0.Records.length:Int)) (PO.lenS Tryz.underlying53 Z h0_2.len) (qu (Bv (decide (x49<(a0.Records.length:Int)))) (PO.lss Z Z) (Nt (Ch h Z (fun hb51 h=> ?_) (fun hb51 h=> ?_))))
 refine Ck (Tc (Cs (Bk (Cg (qM vx48 hs47_3 (qu (pt g21 2) (Fa fo55_2 hs47_1 Z) (qu v0_2 (Lb 0 pl53 Z Z Z) (qM (Iv x49) hs47_4 ?_))))))))
 obtain ⟨hg52,h⟩:=grd_i h
 obtain ⟨p53,cs54,hat55,hrc56,hhas57⟩:=h0_2.at hg52.1 hg52.2 (by decide)
 obtain ⟨vw58_14,vw58_15,vw58_16,vw58_17,rfl,hw58_14,hw58_15,hw58_16,hw58_17⟩:=kd_api_Record_open hrc56
 refine qu (.pointer (some p53)) (PO.indexAddr (n:=a0.Records.length) Tryz.underlying53 sz58 Z Z hg52.1 hg52.2 hat55) (qu (a58_ (rd a0.Records x49) vw58_14 vw58_15 vw58_16 vw58_17) (PO.loadMA (cs:=(l58 (rd a0.Records x49) vw58_14 vw58_15 vw58_16 vw58_17)) ag58 sz58 Z hhas57) ?_)
 obtain ⟨r59,hr60,h⟩:=bnd h
 refine We (Ca co122 (f_ref05_Bytes_ok (rd a0.Records x49) _ _ _ _ _ hw58_14 hw58_15 hw58_16 hw58_17 r59 hr60) (args1 Z)) Z ?_
 rintro _ M61 _ hle62 ⟨_,⟨vq63,cq63,rfl,rfl,hq63⟩,rfl⟩
 refine WL.a1 ?_
 obtain ⟨hg67,h⟩:=grd_i h
 refine Wb ?_
 have hx48:=hx48.mono hle62
 refine We (EO.append (dd:=(Kd.int .u8)) (xs:=x48) (ys:=r59) Tryz.underlying23 Tryz.underlying23 in5 Z (appB (by decide) hg67) (by decide) Z Z hx48 (hq63.src 1 Z)) Z ?_
 rintro v66 _ _ - ⟨rfl,c64,rfl,h65⟩
 refine qa v66 (Wz (Bn (Tc (Cg (qM (Iv x49) hs47_4 (qu (Iv (IntKind.i64.wrap (x49+1))) (PO.add Z Z) (qa (Iv (IntKind.i64.wrap (x49+1))) (Wz (Qa (Dr (Qa ?_)))))))))))
 exact WQ.again (x48++r59,IntKind.i64.wrap (x49+1)) (oi h).symm ⟨v66,c64,(hle47.trans hle62),Z,hs47_1,Z,Z,h65⟩
 refine WC.exit (WQ.thenE (WQ.leaveE x48 (oi h).symm (fun heq47=> ?_)))
 subst heq47
 have h:=hK47
 refine WQ.blockH ?_
 obtain rfl:=oi h
 exact Tj ⟨vx48,cx48,hle47,Z,hs47_3,hx48⟩
 rintro ρ46 M46 H46 ⟨vx45,cx45,hle46,rfl,hs46_3,hx45⟩
 exact Sr (qM vx45 hs46_3 (qa vx45 (Nt (Cr (Dr (Rf h [cx45] Z (Rs Z Z) (((hle25.trans hle30).trans hle39).trans hle46) ⟨vx45,cx45,Z,Z,hx45⟩))))))
noncomputable def f_ref06_Put (a0:T_api_Batch):Option ((List Int)×T_ref06_Wrong):=
 ((f_ref06_Check a0).bind fun r23=>(if(decide (r23.W.Code≠(0:Int)))=true then(some ([],r23))else((f_ref06_Bytes a0).bind fun r31=>(if(decide ((16384:Int)<(r31.length:Int)))=true then(some ([],(⟨(⟨(⟨#[98,97,116,99,104]⟩:ByteArray),(r31.length:Int),(6:Int)⟩:T_ref05_Wrong),(-1:Int)⟩:T_ref06_Wrong)))else(some (r31,lit5_))))))
def f_ref06_Put_post (a0:T_api_Batch) (v0_2:Value):((List Int)×T_ref06_Wrong)→Value→IM→HL→Prop:=
 fun(p_:((List Int)×T_ref06_Wrong)) (v:Value) (M':IM) (H':HL)=>match p_ with |(r0,r1)=>∃ vz0 cz0,(.tuple #[vz0,(.agg #[(.string r1.W.Op),(.int .i64 r1.W.At),(.int .i64 r1.W.Code),(.int .i64 r1.Record)])])=v∧H'=[cz0]∧OwnS (Kd.int .u8) M' vz0 r0 cz0
theorem f_ref06_Put_ok (a0:T_api_Batch) (M:IM) (v0_2:Value) (h0_2:RS kd_api_Record M v0_2 a0.Records) (res:((List Int)×T_ref06_Wrong)) (h:f_ref06_Put a0=some res):
 Tri Tryz.prog 56 #[(a55_ a0 v0_2)] M [] (f_ref06_Put_post a0 v0_2 res):=by
 unfold f_ref06_Put at h
 refine Te Tryz.func56 Z Z ?_
 intro F ρ hρ
 refine Sr (We (EO.box (cs:=(l55 a0 v0_2).toArray) (congrArg Value.cells (asE (a55_ a0 v0_2) (hρ 0)))) Z ?_)
 rintro _ _ _ - ⟨rfl,g21,rfl,rfl⟩
 refine qa Zs (We (Al ze42 Z) Z ?_)
 rintro _ _ _ - ⟨rfl,g22,rfl,rfl⟩
 refine Nt (Cs (Sr (qu (a55_ a0 v0_2) (La (cs:=(l55 a0 v0_2)) 1 ag55 sz55 Z Z Z) ?_)))
 obtain ⟨r23,hr24,h⟩:=bnd h
 refine We (Ca co43 (f_ref06_Check_ok a0 _ _ h0_2 r23 hr24) (args1 Z)) Z ?_
 rintro _ M25 _ hle26 ⟨_,⟨rfl,rfl⟩,rfl⟩
 refine WL.a0 (We (Al ze42 Z) Z ?_)
 rintro _ _ _ - ⟨rfl,g28,rfl,rfl⟩
 refine We (Sg (v:=(a42_ r23)) (vl:=(l42 r23)) (arr':=(l42 r23)) Z sz42 Z Z (onb Z) Z Z Z) Z ?_
 rintro _ _ _ - ⟨rfl,rfl⟩
 refine Ns (qu (pt g28 0) (Fa fo42_0 Z Z) (qu (pt g28 2) (Fa fo40_2 Z Z) (qu (Iv r23.W.Code) (Lb 0 pl38 Z Z Z) (qu (Bv (decide (r23.W.Code≠0))) (PO.neq Z Z) (Nt (Ch h Z (fun hb29 h=> ?_) (fun hb29 h=> ?_)))))))
 refine Cs (WC.draw [0,0,3] (.pure 0 (.pure 1 (.alt 2 .done .none))) mixed (by kernel_rfl) (qt (a42_ r23) Z (La (cs:=(l42 r23)) 0 ag42 sz42 Z Z Z) (qt Zs Z (Ag Z) (WT.f1 (Ta Z (Sg (v:=(a42_ r23)) (vl:=(l42 r23)) (arr':=(l42 r23)) Z sz42 Z Z (onb Z) Z Z Z) Z ?_ ?_)))))
 rintro _ _ _ - ⟨rfl,rfl⟩
 refine⟨(Sl Z), ?_⟩
 exact Ti (Tc (Cr (Tr (WQ.e0 (Qb (Dr (Qb (Dr (Qa (Rd h [[]] (fun _ hs=>hs.drop) (resultsLN Z (RVs.cons (RV.tmp Z) (RVs.cons (Rc (cs:=(l42 r23)) 0 ag42 sz42 Z Z Z) RVs.nil))) hle26 ⟨Zs,[],Z,Z,(OwnS.nil _ _)⟩))))))))))
 exact Tz
 refine Ck (Tc (Sr (qu (a55_ a0 v0_2) (La (cs:=(l55 a0 v0_2)) 2 ag55 sz55 Z Z Z) ?_)))
 obtain ⟨r31,hr32,h⟩:=bnd h
 have h0_2:=h0_2.mono hle26
 refine We (Ca co81 (f_ref06_Bytes_ok a0 _ _ h0_2 r31 hr32) (args1 Z)) Z ?_
 rintro _ M33 _ hle34 ⟨_,⟨vq35,cq35,rfl,rfl,hq35⟩,rfl⟩
 refine WL.a1 (qa vq35 (Nt (Cs (Sr (qm vq35 (qu (Iv (r31.length:Int)) (PO.lenS Tryz.underlying23 Z hq35.len) (qu (Bv (decide ((16384:Int)<(r31.length:Int)))) (PO.gtr Z Z) (Nt (Ch h Z (fun hb36 h=> ?_) (fun hb36 h=> ?_))))))))))
 refine Sr (qm vq35 (qu (Iv (r31.length:Int)) (PO.lenS Tryz.underlying23 Z hq35.len) (qu (.agg #[(Sv ⟨#[98,97,116,99,104]⟩),(Iv (r31.length:Int)),(Iv 6)]) (Bl (cl:=[(Sv ⟨#[98,97,116,99,104]⟩),(Iv (r31.length:Int)),(Iv 6)]) ze40 fp40 (Pc (Sv ⟨#[98,97,116,99,104]⟩) Z Z (Pc (Iv (r31.length:Int)) Z Z (Pc (Iv 6) Z Z Pz))) Z) (qu (.agg #[(Sv ⟨#[98,97,116,99,104]⟩),(Iv (r31.length:Int)),(Iv 6),(Iv (-1:Int))]) (Bl (cl:=[(Sv ⟨#[98,97,116,99,104]⟩),(Iv (r31.length:Int)),(Iv 6),(Iv (-1:Int))]) ze42 fp42 (Pc (.agg #[(Sv ⟨#[98,97,116,99,104]⟩),(Iv (r31.length:Int)),(Iv 6)]) Z Z (Pc (Iv (-1:Int)) Z Z Pz)) Z) (qa Zs (Wb (We (Sg (v:=(.agg #[(Sv ⟨#[98,97,116,99,104]⟩),(Iv (r31.length:Int)),(Iv 6),(Iv (-1:Int))])) (vl:=[(Sv ⟨#[98,97,116,99,104]⟩),(Iv (r31.length:Int)),(Iv 6),(Iv (-1:Int))]) (arr':=[(Sv ⟨#[98,97,116,99,104]⟩),(Iv (r31.length:Int)),(Iv 6),(Iv (-1:Int))]) Z sz42 Z Z (onb Z) Z Z Z) Z ?_)))))))
 rintro _ _ _ - ⟨rfl,rfl⟩
 exact Nt (Cr (Tr (WQ.e0 (Qb (Dr (Qb (Dr (Qb (Dr (Qa (Rd h [[]] (fun _ hs=>hs.drop) (resultsLN Z (RVs.cons (RV.tmp Z) (RVs.cons (Rc (cs:=[(Sv ⟨#[98,97,116,99,104]⟩),(Iv (r31.length:Int)),(Iv 6),(Iv (-1:Int))]) 0 ag42 sz42 Z Z Z) RVs.nil))) (hle26.trans hle34) ⟨Zs,[],Z,Z,(OwnS.nil _ _)⟩)))))))))))
 refine Ck (Tc (Sr (qm vq35 (qu (.agg #[(Sv ⟨#[]⟩),(Iv 0),(Iv 0),(Iv (-1:Int))]) (Bl (cl:=[(Sv ⟨#[]⟩),(Iv 0),(Iv 0),(Iv (-1:Int))]) ze42 fp42 (Pc (Iv (-1:Int)) Z Z Pz) Z) (qa vq35 (Wb (We (Sg (v:=(.agg #[(Sv ⟨#[]⟩),(Iv 0),(Iv 0),(Iv (-1:Int))])) (vl:=[(Sv ⟨#[]⟩),(Iv 0),(Iv 0),(Iv (-1:Int))]) (arr':=[(Sv ⟨#[]⟩),(Iv 0),(Iv 0),(Iv (-1:Int))]) Z sz42 Z Z (onb Z) Z Z Z) Z ?_)))))))
 rintro _ _ _ - ⟨rfl,rfl⟩
 exact Nt (Cr (Qb (Dr (Qb (Dr (Rd h [cq35] (fun _ hs=>hs.drop) (resultsLN Z (RVs.cons (RV.tmp Z) (RVs.cons (Rc (cs:=[(Sv ⟨#[]⟩),(Iv 0),(Iv 0),(Iv (-1:Int))]) 0 ag42 sz42 Z Z Z) RVs.nil))) (hle26.trans hle34) ⟨vq35,cq35,Z,Z,hq35⟩))))))
noncomputable def f_ref07_flag1 (a0:Bool) (a1:Bool):Option (List Int):=
 (if(!a1)=true then(some [])else((f_ref02_Flag a0).bind fun r23=>(some r23)))
def f_ref07_flag1_post (a0:Bool) (a1:Bool):(List Int)→Value→IM→HL→Prop:=
 fun(r0:(List Int)) (v:Value) (M':IM) (H':HL)=>∃ vz0 cz0,vz0=v∧H'=[cz0]∧OwnS (Kd.int .u8) M' vz0 r0 cz0
theorem f_ref07_flag1_ok (a0:Bool) (a1:Bool) (M:IM) (res:(List Int)) (h:f_ref07_flag1 a0 a1=some res):
 Tri Tryz.prog 83 #[(Bv a0),(Bv a1)] M [] (f_ref07_flag1_post a0 a1 res):=by
 unfold f_ref07_flag1 at h
 refine Te Tryz.func83 Z Z ?_
 intro F ρ hρ
 refine Sr (qa Zs (Nt (Cs (Sr (qM (Bv a1) (hρ 1) (qu (Bv (!a1)) (PO.not Z) (Nt (Ch h Z (fun hb21 h=> ?_) (fun hb21 h=> ?_)))))))))
 exact Sr (qa Zs (Nt (Cr (Tr (WQ.e0 (Rf h [[]] Z (Rs Z Z) lr ⟨Zs,[],Z,Z,(OwnS.nil _ _)⟩))))))
 refine Ck (Tc (Sr (qM (Bv a0) (hρ 0) ?_)))
 obtain ⟨r23,hr24,h⟩:=bnd h
 refine We (Ca co124 (f_ref02_Flag_ok a0 _ r23 hr24) (args1 Z)) Z ?_
 rintro _ M25 _ hle26 ⟨_,⟨vq27,cq27,rfl,rfl,hq27⟩,rfl⟩
 exact WL.a1 (qa vq27 (Nt (Cr (Rf h [cq27] Z (Rs Z Z) hle26 ⟨vq27,cq27,Z,Z,hq27⟩))))
noncomputable def f_ref07_int1 (a0:Int) (a1:Bool):Option (List Int):=
 (if(!a1)=true then(some [])else((f_ref02_Int a0).bind fun r23=>(some r23)))
def f_ref07_int1_post (a0:Int) (a1:Bool):(List Int)→Value→IM→HL→Prop:=
 fun(r0:(List Int)) (v:Value) (M':IM) (H':HL)=>∃ vz0 cz0,vz0=v∧H'=[cz0]∧OwnS (Kd.int .u8) M' vz0 r0 cz0
theorem f_ref07_int1_ok (a0:Int) (a1:Bool) (M:IM) (res:(List Int)) (h:f_ref07_int1 a0 a1=some res):
 Tri Tryz.prog 84 #[(Iv a0),(Bv a1)] M [] (f_ref07_int1_post a0 a1 res):=by
 unfold f_ref07_int1 at h
 refine Te Tryz.func84 Z Z ?_
 intro F ρ hρ
 refine Sr (qa Zs (Nt (Cs (Sr (qM (Bv a1) (hρ 1) (qu (Bv (!a1)) (PO.not Z) (Nt (Ch h Z (fun hb21 h=> ?_) (fun hb21 h=> ?_)))))))))
 exact Sr (qa Zs (Nt (Cr (Tr (WQ.e0 (Rf h [[]] Z (Rs Z Z) lr ⟨Zs,[],Z,Z,(OwnS.nil _ _)⟩))))))
 refine Ck (Tc (Sr (qM (Iv a0) (hρ 0) ?_)))
 obtain ⟨r23,hr24,h⟩:=bnd h
 refine We (Ca co82 (f_ref02_Int_ok a0 _ r23 hr24) (args1 Z)) Z ?_
 rintro _ M25 _ hle26 ⟨_,⟨vq27,cq27,rfl,rfl,hq27⟩,rfl⟩
 exact WL.a1 (qa vq27 (Nt (Cr (Rf h [cq27] Z (Rs Z Z) hle26 ⟨vq27,cq27,Z,Z,hq27⟩))))

end Go.Proofs.YtkflneabcannnaaGreatDoor.G
