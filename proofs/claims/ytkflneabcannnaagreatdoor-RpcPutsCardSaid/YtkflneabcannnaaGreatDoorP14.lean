/- Go functions: what they come to, and that they do. Printed by a program of the session (gen). -/
import Derived.Test.YtkflneabcannnaaGreatDoorPF
import Derived.Test.YtkflneabcannnaaGreatDoorP0
import Derived.Test.YtkflneabcannnaaGreatDoorP3
import Derived.Test.YtkflneabcannnaaGreatDoorP5
import Derived.Test.YtkflneabcannnaaGreatDoorP8
import Derived.Test.YtkflneabcannnaaGreatDoorP13
import Derived.Test.YtkflneabcannnaaGreatDoorKConv
import Derived.Test.YtkflneabcannnaaGreatDoorKShar2
import Derived.Test.YtkflneabcannnaaGreatDoorKTight2
set_option linter.unusedVariables false
set_option linter.unusedSimpArgs false
set_option maxHeartbeats 8000000
set_option maxRecDepth 100000
namespace Go.Proofs.YtkflneabcannnaaGreatDoor.G
open Go Go.KK

noncomputable def f_law07_wrong (a0:GErr) (a1:T_ref06_Wrong):Option Bool:=
 (if a0.isNil=true then(some (decide (a1.W.Code=(0:Int))))else((f_fault_Where a0).bind fun(r23,r24)=>((((f_fault_Of a0).bind fun r32=>(if(decide (r32=a1.W.Code))=true then(if r24=true then(if(decide (r23=a1.W.At))=true then((f_fault_Under a0 a1.W.Op).bind fun r40=>(some r40))else(some false))else(some false))else(some false))):Option Bool).bind fun x30=>(some x30))))
def f_law07_wrong_post (a0:GErr) (a1:T_ref06_Wrong):Bool→Value→IM→HL→Prop:=
 fun(r0:Bool) (v:Value) (M':IM) (H':HL)=>(.bool r0)=v∧H'=[]
theorem f_law07_wrong_ok (a0:GErr) (a1:T_ref06_Wrong) (M:IM) (hE:Env M) (res:Bool) (h:f_law07_wrong a0 a1=some res):
 Tri Tryz.prog 15 #[(GV a0),(a42_ a1)] M [] (f_law07_wrong_post a0 a1 res):=by
 unfold f_law07_wrong at h
 refine Te Tryz.func15 Z Z ?_
 intro F ρ hρ
 refine Sr (We (EO.box (cs:=(l42 a1).toArray) (congrArg Value.cells (asE (a42_ a1) (hρ 1)))) Z ?_)
 rintro _ _ _ - ⟨rfl,g21,rfl,rfl⟩
 refine qa (Bv false) (Nt (Cs (Sr (qM (GV a0) (hρ 0) (qu (Bv a0.isNil) (PO.errNil Tryz.underlying31 Z) (Nt (Ch h Z (fun hb22 h=> ?_) (fun hb22 h=> ?_))))))))
 exact Sr (qu (pt g21 0) (Fa fo42_0 Z Z) (qu (pt g21 2) (Fa fo40_2 Z Z) (qu (Iv a1.W.Code) (Lb 0 pl38 Z Z Z) (qu (Bv (decide (a1.W.Code=0))) (PO.eql Z Z) (qa (Bv (decide (a1.W.Code=0))) (Nt (Cr (Tr (Dr (Rf h [] Z (Rs Z Z) lr ⟨Z,Z⟩))))))))))
 refine Ck (Tc (Sr (qM (GV a0) (hρ 0) ?_)))
 obtain ⟨⟨r23,r24⟩,hr25,h⟩:=bnd h
 refine We (Ca co44 (f_fault_Where_ok a0 _ hE (r23,r24) hr25) (args1 Z)) Z ?_
 rintro _ M26 _ hle27 ⟨_,⟨rfl,rfl⟩,rfl⟩
 refine WL.a0 (qm (.tuple #[(Iv r23),(Bv r24)]) (qu (Iv r23) (Xt Z Z) (qu (Bv r24) (Xt Z Z) (qa (Iv r23) (qa (Bv r24) (Nt ?_))))))
 obtain ⟨x30,hj31,h⟩:=bnd h
 refine Jf (fun(x30:Bool) ρ' M' H'=>M26.le M'∧[(g21, .cells (l42 a1).toArray 42 (0,0))]::F=H'∧ρ' 4=(Bv x30)) x30 ?_ ?_
 have h:=hj31
 refine WC.draw [0,1,0,4,12,31,63,127,255,511,1023,1023,3071,7167,16383,32767,65535,131071,131071,393215,917503,2097151,4194303,8388607] (.pure 0 (.pure 2 (.pure 3 (.pure 4 (.alt 1 (.pure 5 (.pure 6 (.pure 7 (.pure 8 (.pure 9 (.pure 10 (.pure 11 (.pure 12 (.pure 13 (.pure 14 (.pure 15 (.pure 16 (.pure 17 (.pure 18 (.pure 19 (.pure 20 (.alt 21 (.pure 22 (.pure 23 .done)) .none))))))))))))))))) .none))))) mixed (by kernel_rfl) (qt (GV a0) Z (Mv (hρ 0)) (qt (pt g21 0) Z (Fa fo42_0 Z Z) (qt (pt g21 2) Z (Fa fo40_2 Z Z) (qt (Iv a1.W.Code) Z (Lb 0 pl38 Z Z Z) ?_))))
 obtain ⟨r32,hr33,h⟩:=bnd h
 have hE:=hE.mono hle27
 refine Ta Z (Ca co45 (f_fault_Of_ok a0 _ hE r32 hr33) (args1 Z)) Z ?_ ?_
 rintro _ M34 _ hle35 ⟨_,⟨rfl,rfl⟩,rfl⟩
 refine⟨(Ss Z (Lb 0 pl38 Z Z Z) Z (Ss Z (Fa fo40_2 Z Z) Z (Ss Z (Fa fo42_0 Z Z) Z (Sl Z)))), ?_⟩
 refine WT.a0 (qt (Bv (decide (r32=a1.W.Code))) Z (PO.eql Z Z) (qt (Bv (decide (r32=a1.W.Code))) Z (Mv Z) ?_))
 rcases Bi h with⟨hb37,h⟩ |⟨hb37,h⟩
 refine Tn (Bv r24) 24 Z Z Z hb37 (Mv Z) Z (qt (Bv r24) Z (Pt Z hb37 Z) (qt (Bv r24) Z (Mv Z) ?_))
 rcases Bi h with⟨hb38,h⟩ |⟨hb38,h⟩
 refine Tn (Iv r23) 27 Z Z Z hb38 (Mv Z) Z (Tn (pt g21 0) 27 Z Z Z hb38 (Fa fo42_0 Z Z) Z (Tn (pt g21 1) 27 Z Z Z hb38 (Fa fo40_1 Z Z) Z (Tn (Iv a1.W.At) 27 Z Z Z hb38 (Lb 0 pl3 Z Z Z) Z (Tn (Bv (decide (r23=a1.W.At))) 27 Z Z Z hb38 (PO.eql Z Z) Z (qt (Bv (decide (r23=a1.W.At))) Z (Pt Z hb38 Z) (qt (Bv (decide (r23=a1.W.At))) Z (Mv Z) ?_))))))
 rcases Bi h with⟨hb39,h⟩ |⟨hb39,h⟩
 refine Tn (GV a0) 34 Z Z Z hb39 (Mv (hρ 0)) Z (Tn (pt g21 0) 34 Z Z Z hb39 (Fa fo42_0 Z Z) Z (Tn (pt g21 0) 34 Z Z Z hb39 (Fa fo40_0 Z Z) Z (Tn (Sv a1.W.Op) 34 Z Z Z hb39 (Lb 0 pl9 Z Z Z) Z ?_)))
 obtain ⟨r40,hr41,h⟩:=bnd h
 have hE:=hE.mono hle35
 refine WT.altOn 34 Z Z Z hb39 (Ca co46 (f_fault_Under_ok a0 a1.W.Op _ hE r40 hr41) (args2 Z Z)) Z ?_ ?_
 rintro _ M42 _ hle43 ⟨_,⟨rfl,rfl⟩,rfl⟩
 refine⟨(Sl Z), ?_⟩
 refine WT.a0 (qt (Bv r40) Z (Pt Z hb39 Z) (qt (Bv r40) Z (Ag Z) (Ti ?_)))
 obtain rfl:=oi h
 exact Tj ⟨(hle35.trans hle43),Z,Z⟩
 exact Tz
 refine Tf 34 Z Z Z hb39 Z (Tf 34 Z Z Z hb39 Z (Tf 34 Z Z Z hb39 Z (Tf 34 Z Z Z hb39 Z (Tg 34 Z Z Z hb39 Z ⟨(Sl Z), ?_⟩ ?_))))
 refine qt (Bv false) Z (Pf Z hb39 Z) (qt (Bv false) Z (Ag Z) (Ti ?_))
 obtain rfl:=oi h
 exact Tj ⟨hle35,Z,Z⟩
 exact Tz
 refine Tf 27 Z Z Z hb38 Z (Tf 27 Z Z Z hb38 Z (Tf 27 Z Z Z hb38 Z (Tf 27 Z Z Z hb38 Z (Tf 27 Z Z Z hb38 Z (qt (Bv false) Z (Pf Z hb38 Z) (qt (Bv false) Z (Mv Z) (Tf 34 Z Z Z Z Z (Tf 34 Z Z Z Z Z (Tf 34 Z Z Z Z Z (Tf 34 Z Z Z Z Z (Tg 34 Z Z Z Z Z ⟨(Sl Z), ?_⟩ ?_)))))))))))
 refine qt (Bv false) Z (Pf Z Z Z) (qt (Bv false) Z (Ag Z) (Ti ?_))
 obtain rfl:=oi h
 exact Tj ⟨hle35,Z,Z⟩
 exact Tz
 refine Tf 24 Z Z Z hb37 Z (qt (Bv false) Z (Pf Z hb37 Z) (qt (Bv false) Z (Mv Z) (Tf 27 Z Z Z Z Z (Tf 27 Z Z Z Z Z (Tf 27 Z Z Z Z Z (Tf 27 Z Z Z Z Z (Tf 27 Z Z Z Z Z (qt (Bv false) Z (Pf Z Z Z) (qt (Bv false) Z (Mv Z) (Tf 34 Z Z Z Z Z (Tf 34 Z Z Z Z Z ?_)))))))))))
 refine Tf 34 Z Z Z Z Z (Tf 34 Z Z Z Z Z (Tg 34 Z Z Z Z Z ⟨(Sl Z), ?_⟩ ?_))
 refine qt (Bv false) Z (Pf Z Z Z) (qt (Bv false) Z (Ag Z) (Ti ?_))
 obtain rfl:=oi h
 exact Tj ⟨hle35,Z,Z⟩
 exact Tz
 exact Tz
 rintro ρ31 M31 H31 ⟨hle31,rfl,hs31_4⟩
 exact Cr (Dr (Rf h [] Z (Rs Z hs31_4) (hle27.trans hle31) ⟨Z,Z⟩))
noncomputable def f_law07_RpcPuts (a0:T_api_Rpc):Option Bool:=
 ((f_ref07_Short a0).bind fun r22=>(if(!r22)=true then((f_law07_works).bind fun r28=>(some r28))else((f_rpc_Put a0).bind fun(r33,r34)=>((f_ref07_Put a0).bind fun(r41,r42)=>(((if(decide (r33.Kind=r41.Kind))=true then((f_ref02_Same r33.Body r41.Body).bind fun r53=>(if r53=true then((f_law07_wrong r34 r42).bind fun r65=>(if r65=true then((f_law07_works).bind fun r71=>(some r71))else(some false)))else(some false)))else(some false)):Option Bool).bind fun x50=>(some x50))))))
def f_law07_RpcPuts_post (a0:T_api_Rpc) (v0_11 v0_14:Value):Bool→Value→IM→HL→Prop:=
 fun(r0:Bool) (v:Value) (M':IM) (H':HL)=>(.bool r0)=v∧H'=[]
theorem f_law07_RpcPuts_ok (a0:T_api_Rpc) (M:IM) (v0_11 v0_14:Value) (h0_11:RS kd_api_Batch M v0_11 a0.Batches) (h0_14:RS (Kd.int .u8) M v0_14 a0.Data) (hE:Env M) (res:Bool) (h:f_law07_RpcPuts a0=some res):
 Tri Tryz.prog 6 #[(a25_ a0 v0_11 v0_14)] M [] (f_law07_RpcPuts_post a0 v0_11 v0_14 res):=by
 unfold f_law07_RpcPuts at h
 refine Te Tryz.func6 Z Z ?_
 intro F ρ hρ
 refine Sr (We (EO.box (cs:=(l25 a0 v0_11 v0_14).toArray) (congrArg Value.cells (asE (a25_ a0 v0_11 v0_14) (hρ 0)))) Z ?_)
 rintro _ _ _ - ⟨rfl,g21,rfl,rfl⟩
 refine qa (Bv false) (Nt (Cs (Sr (qu (a25_ a0 v0_11 v0_14) (La (cs:=(l25 a0 v0_11 v0_14)) 0 ag25 sz25 Z Z Z) ?_))))
 obtain ⟨r22,hr23,h⟩:=bnd h
 refine We (Ca co8 (f_ref07_Short_ok a0 _ _ _ h0_11 h0_14 r22 hr23) (args1 Z)) Z ?_
 rintro _ M24 _ hle25 ⟨_,⟨rfl,rfl⟩,rfl⟩
 refine WL.a0 (qu (Bv (!r22)) (PO.not Z) (Nt (Ch h Z (fun hb27 h=> ?_) (fun hb27 h=> ?_))))
 refine Sr ?_
 obtain ⟨r28,hr29,h⟩:=bnd h
 have hE:=hE.mono hle25
 refine We (Ca co9 (f_law07_works_ok _ hE r28 hr29) (args0)) Z ?_
 rintro _ M30 _ hle31 ⟨_,⟨rfl,rfl⟩,rfl⟩
 exact WL.a0 (qa (Bv r28) (Nt (Cr (Tr (Dr (Rf h [] Z (Rs Z Z) (hle25.trans hle31) ⟨Z,Z⟩))))))
 refine Ck (Tc (Sr (qu (a25_ a0 v0_11 v0_14) (La (cs:=(l25 a0 v0_11 v0_14)) 0 ag25 sz25 Z Z Z) ?_)))
 obtain ⟨⟨r33,r34⟩,hr35,h⟩:=bnd h
 have h0_11:=h0_11.mono hle25
 have h0_14:=h0_14.mono hle25
 refine We (Ca co10 (f_rpc_Put_ok a0 _ _ _ h0_11 h0_14 (r33,r34) hr35) (args1 Z)) Z ?_
 rintro _ M36 _ hle37 ⟨_,⟨vq38_1,cq38_1,rfl,rfl,hq38_1⟩,rfl⟩
 refine WL.a1 (qm (.tuple #[(.agg #[(Iv r33.Kind),vq38_1]),(GV r34)]) (qu (.agg #[(Iv r33.Kind),vq38_1]) (Xt Z Z) (qu (GV r34) (Xt Z Z) (We (Al ze29 Z) Z ?_))))
 rintro _ _ _ - ⟨rfl,g40,rfl,rfl⟩
 refine We (Sg (v:=(.agg #[(Iv r33.Kind),vq38_1])) (vl:=[(Iv r33.Kind),vq38_1]) (arr':=[(Iv r33.Kind),vq38_1]) Z sz29 Z Z (onesOf (Oc Z (Oc (Ow hq38_1) Oz))) Z Z Z) Z ?_
 rintro _ _ _ - ⟨rfl,rfl⟩
 refine qa (GV r34) (Ns (qu (a25_ a0 v0_11 v0_14) (La (cs:=(l25 a0 v0_11 v0_14)) 2 ag25 sz25 Z Z Z) ?_))
 obtain ⟨⟨r41,r42⟩,hr43,h⟩:=bnd h
 have h0_11:=h0_11.mono hle37
 have h0_14:=h0_14.mono hle37
 refine We (Ca co19 (f_ref07_Put_ok a0 _ _ _ h0_11 h0_14 (r41,r42) hr43) (args1 Z)) Z ?_
 rintro _ M44 _ hle45 ⟨_,⟨vq46_1,cq46_1,rfl,rfl,hq46_1⟩,rfl⟩
 refine WL.a1 (qm (.tuple #[(.agg #[(Iv r41.Kind),vq46_1]),(a42_ r42)]) (qu (.agg #[(Iv r41.Kind),vq46_1]) (Xt Z Z) (qu (a42_ r42) (Xt Z Z) (We (Al ze29 Z) Z ?_))))
 rintro _ _ _ - ⟨rfl,g48,rfl,rfl⟩
 refine We (Al ze42 Z) Z ?_
 rintro _ _ _ - ⟨rfl,g49,rfl,rfl⟩
 refine WL.f1 (We (Sg (v:=(.agg #[(Iv r41.Kind),vq46_1])) (vl:=[(Iv r41.Kind),vq46_1]) (arr':=[(Iv r41.Kind),vq46_1]) Z sz29 Z Z (onesOf (Oc Z (Oc (Ow hq46_1) Oz))) Z Z Z) Z ?_)
 rintro _ _ _ - ⟨rfl,rfl⟩
 refine WL.f1 (We (Sg (v:=(a42_ r42)) (vl:=(l42 r42)) (arr':=(l42 r42)) Z sz42 Z Z (onb Z) Z Z Z) Z ?_)
 rintro _ _ _ - ⟨rfl,rfl⟩
 refine Nt ?_
 obtain ⟨x50,hj51,h⟩:=bnd h
 refine Jf (fun(x50:Bool) ρ' M' H'=>M44.le M'∧[(g49, .cells (l42 r42).toArray 42 (0,0))]::[(g48, .cells #[(Iv r41.Kind),vq46_1] 29 (0,0))]::[(g40, .cells #[(Iv r33.Kind),vq38_1] 29 (0,0))]::[(g21, .cells (l25 a0 v0_11 v0_14).toArray 25 (0,0))]::cq46_1::cq38_1::F=H'∧ρ' 2=(Bv x50)) x50 ?_ ?_
 have h:=hj51
 refine Cg (qu (pt g40 0) (Fa fo29_0 Z Z) (qu (Iv r33.Kind) (Lb 3 pl3 Z Z Z) (qu (pt g48 0) (Fa fo29_0 Z Z) (qu (Iv r41.Kind) (Lb 1 pl3 Z Z Z) (qu (Bv (decide (r33.Kind=r41.Kind))) (PO.eql Z Z) (qm (Bv (decide (r33.Kind=r41.Kind))) ?_))))))
 rcases Bi h with⟨hb52,h⟩ |⟨hb52,h⟩
 refine qo 26 hb52 (pt g40 1) (Fa fo29_1 Z Z) (qo 26 hb52 vq38_1 (Lb 3 pl23 Z Z Z) (qo 26 hb52 (pt g48 1) (Fa fo29_1 Z Z) (qo 26 hb52 vq46_1 (Lb 1 pl23 Z Z Z) (On 26 Z Z hb52 ?_))))
 obtain ⟨r53,hr54,h⟩:=bnd h
 refine Wb (WL.f4 ?_)
 have hq38_1:=hq38_1.mono hle45
 refine We (EO.call2 co13 (Tri.lend hq38_1.excl fun w0_ H0_ hs0_=>(Tri.lend hq46_1.excl fun w1_ H1_ hs1_=>(f_ref02_Same_ok r33.Body r41.Body _ _ _ ((hq38_1.rs hs0_).mono (IM.le_add _ _)) ((hq46_1.mono (IM.le_add _ _)).rs hs1_) r53 hr54))) (args2 Z Z)) Z ?_
 rintro _ _ _ hle56 ⟨_,⟨Ml61,Hl62,hll63,rfl,rfl,⟨Ml58,Hl59,hll60,rfl,rfl,⟨rfl,rfl⟩⟩⟩,rfl⟩
 refine WL.a2 (qu (Bv r53) (Pt Z hb52 Z) (qm (Bv r53) ?_))
 rcases Bi h with⟨hb64,h⟩ |⟨hb64,h⟩
 refine On 33 Z Z hb64 (qm (GV r34) (qo 33 hb64 (a42_ r42) (La (cs:=(l42 r42)) 2 ag42 sz42 Z Z Z) (On 33 Z Z hb64 ?_)))
 obtain ⟨r65,hr66,h⟩:=bnd h
 have hE:=hE.mono (((hle25.trans hle37).trans hle45).trans hle56)
 refine We (Ca co15 (f_law07_wrong_ok r34 r42 _ hE r65 hr66) (args2 Z Z)) Z ?_
 rintro _ M67 _ hle68 ⟨_,⟨rfl,rfl⟩,rfl⟩
 refine WL.a0 (qu (Bv r65) (Pt Z hb64 Z) (qm (Bv r65) ?_))
 rcases Bi h with⟨hb70,h⟩ |⟨hb70,h⟩
 refine On 38 Z Z hb70 ?_
 obtain ⟨r71,hr72,h⟩:=bnd h
 have hE:=hE.mono hle68
 refine We (Ca co9 (f_law07_works_ok _ hE r71 hr72) (args0)) Z ?_
 rintro _ M73 _ hle74 ⟨_,⟨rfl,rfl⟩,rfl⟩
 refine WL.a0 (qu (Bv r71) (Pt Z hb70 Z) (qa (Bv r71) (Wz (Qa (WQ.f5 (WQ.f5 (WQ.f5 (WQ.f5 ?_))))))))
 obtain rfl:=oi h
 exact Tj ⟨((hle56.trans hle68).trans hle74),Z,Z⟩
 refine Of 38 Z Z hb70 Z (qu (Bv false) (Pf Z hb70 Z) (qa (Bv false) (Wz (Qa (WQ.f5 (WQ.f5 (WQ.f5 (WQ.f5 ?_))))))))
 obtain rfl:=oi h
 exact Tj ⟨(hle56.trans hle68),Z,Z⟩
 iterate 3 refine Of 33 Z Z hb64 Z ?_
 refine qu (Bv false) (Pf Z hb64 Z) (qm (Bv false) (Of 38 Z Z Z Z (qu (Bv false) (Pf Z Z Z) (qa (Bv false) (Wz (Qa (WQ.f5 (WQ.f5 (WQ.f5 (WQ.f5 ?_))))))))))
 obtain rfl:=oi h
 exact Tj ⟨hle56,Z,Z⟩
 iterate 5 refine Of 26 Z Z hb52 Z ?_
 refine qu (Bv false) (Pf Z hb52 Z) (qm (Bv false) ?_)
 iterate 3 refine Of 33 Z Z Z Z ?_
 refine qu (Bv false) (Pf Z Z Z) (qm (Bv false) (Of 38 Z Z Z Z (qu (Bv false) (Pf Z Z Z) (qa (Bv false) (Wz (WQ.f4 (WQ.f3 (WQ.f5 (WQ.f5 (WQ.f5 (WQ.f5 ?_)))))))))))
 obtain rfl:=oi h
 exact Tj ⟨lr,Z,Z⟩
 rintro ρ51 M51 H51 ⟨hle51,rfl,hs51_2⟩
 exact Cr (Dr (Dr (Dr (Dr (Dr (Dr (Rf h [] Z (Rs Z hs51_2) (((hle25.trans hle37).trans hle45).trans hle51) ⟨Z,Z⟩)))))))

end Go.Proofs.YtkflneabcannnaaGreatDoor.G
