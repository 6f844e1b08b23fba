/- Go functions: what they come to, and that they do. Printed by a program of the session (gen). -/
import Derived.Test.YtkflneabcannnaaGreatDoorPF
import Derived.Test.YtkflneabcannnaaGreatDoorP2
import Derived.Test.YtkflneabcannnaaGreatDoorP3
import Derived.Test.YtkflneabcannnaaGreatDoorP4
import Derived.Test.YtkflneabcannnaaGreatDoorP6
import Derived.Test.YtkflneabcannnaaGreatDoorP7
import Derived.Test.YtkflneabcannnaaGreatDoorKConv
import Derived.Test.YtkflneabcannnaaGreatDoorKShar2
import Derived.Test.YtkflneabcannnaaGreatDoorKTight2
set_option linter.unusedVariables false
set_option linter.unusedSimpArgs false
set_option maxHeartbeats 8000000
set_option maxRecDepth 100000
namespace Go.Proofs.YtkflneabcannnaaGreatDoor.G
open Go Go.KK

noncomputable def f_batch_Of_l0 (a2:(List T_api_Record)) (s_:(Int×(List T_api_Record))):Option ((Int×(List T_api_Record))⊕(List T_api_Record)):=
 match s_ with
 |(x26,x27)=>
 (if(decide (x26<(a2.length:Int)))=true then(grd (0≤x26∧x26<a2.length) ((f_batch_one (rd a2 x26)).bind fun r38=>(grd (x27.length+[r38].length≤274877906944) (some (Sum.inl (IntKind.i64.wrap (x26+(1:Int)),x27++[r38]))))))else(some (Sum.inr x27)))
noncomputable def f_batch_Of (a0:Int) (a1:Int) (a2:(List T_api_Record)):Option T_api_Batch:=
 ((((iter (f_batch_Of_l0 a2) ((0:Int),[])).bind (fun(x28:(List T_api_Record))=>(some x28))):Option (List T_api_Record)).bind fun x23=>(some (⟨a0,a1,x23⟩:T_api_Batch)))
def f_batch_Of_post (a0:Int) (a1:Int) (a2:(List T_api_Record)) (v2:Value):T_api_Batch→Value→IM→HL→Prop:=
 fun(r0:T_api_Batch) (v:Value) (M':IM) (H':HL)=>∃ vz0_2 cz0_2,(.agg #[(.int .i64 r0.Term),(.int .i64 r0.Base),vz0_2])=v∧H'=[cz0_2]∧OwnS kd_api_Record M' vz0_2 r0.Records cz0_2
theorem f_batch_Of_ok (a0:Int) (a1:Int) (a2:(List T_api_Record)) (M:IM) (v2:Value) (h2:RS kd_api_Record M v2 a2) (res:T_api_Batch) (h:f_batch_Of a0 a1 a2=some res):
 Tri Tryz.prog 80 #[(Iv a0),(Iv a1),v2] M [] (f_batch_Of_post a0 a1 a2 v2 res):=by
 unfold f_batch_Of at h
 refine Te Tryz.func80 Z Z ?_
 intro F ρ hρ
 refine Sr (We (Al ze55 Z) Z ?_)
 rintro _ _ _ - ⟨rfl,g21,rfl,rfl⟩
 refine Ns (qM (Iv a0) (hρ 0) (qM (Iv a1) (hρ 1) (qu (.agg #[(Iv a0),(Iv a1),Zs]) (Bl (cl:=[(Iv a0),(Iv a1),Zs]) ze55 fp55 (Pc (Iv a0) Z Z (Pc (Iv a1) Z Z Pz)) Z) (We (Al ze55 Z) Z ?_))))
 rintro _ _ _ - ⟨rfl,g22,rfl,rfl⟩
 refine We (Sg (v:=(.agg #[(Iv a0),(Iv a1),Zs])) (vl:=[(Iv a0),(Iv a1),Zs]) (arr':=[(Iv a0),(Iv a1),Zs]) Z sz55 Z Z (onb Z) Z Z Z) Z ?_
 rintro _ _ _ - ⟨rfl,rfl⟩
 refine Nt ?_
 obtain ⟨x23,hj24,h⟩:=bnd h
 refine Jf (fun(x23:(List T_api_Record)) ρ' M' H'=>∃ vx23 cx23,M.le M'∧[(g22, .cells #[(Iv a0),(Iv a1),vx23] 55 (0,0))]::[(g21, .cells #[(Iv 0),(Iv 0),Zs] 55 (0,0))]::cx23::F=H'∧ρ' 6=(pt g21 0)∧ρ' 7=(pt g22 0)∧OwnS kd_api_Record M' vx23 x23 cx23) x23 ?_ ?_
 have h:=hj24
 refine Sr (qM v2 (hρ 2) (qu (Iv (a2.length:Int)) (PO.lenS Tryz.underlying53 Z h2.len) (qm (Iv 0) (Nt (Bk (WC.e0 (WC.f2 (WC.f2 ?_))))))))
 obtain ⟨e25,he25,hK25⟩:=bnd h
 clear h
 refine WC.loop he25 (fun(p_:(Int×(List T_api_Record))) ρ' M' H'=>match p_ with |(x26,x27)=>∃ vx27 cx27,M.le M'∧[(g22, .cells #[(Iv a0),(Iv a1),vx27] 55 (0,0))]::[(g21, .cells #[(Iv 0),(Iv 0),Zs] 55 (0,0))]::cx27::F=H'∧ρ' 6=(pt g21 0)∧ρ' 7=(pt g22 0)∧ρ' 13=v2∧ρ' 14=(Iv (a2.length:Int))∧ρ' 15=(Iv x26)∧OwnS kd_api_Record M' vx27 x27 cx27) ?_ ?_
 exact⟨Zs,[],lr,Z,Z,Z,Z,Z,Z,(OwnS.nil _ _)⟩
 rintro ⟨x26,x27⟩ o25 ρ25 M25 H25 h ⟨vx27,cx27,hle25,rfl,hs25_6,hs25_7,hs25_13,hs25_14,hs25_15,hx27⟩
 unfold f_batch_Of_l0 at h
 refine Sr (qu (Bv (decide (x26<(a2.length:Int)))) (PO.lss hs25_15 hs25_14) (Nt (Cs (Ch h Z (fun hb29 h=> ?_) (fun hb29 h=> ?_)))))
 refine Ck (Tc (Cs (Bk (Sr ?_))))
 obtain ⟨hg30,h⟩:=grd_i h
 have h2:=h2.mono hle25
 obtain ⟨p31,cs32,hat33,hrc34,hhas35⟩:=h2.at hg30.1 hg30.2 (by decide)
 obtain ⟨vw36_14,vw36_15,vw36_16,vw36_17,rfl,hw36_14,hw36_15,hw36_16,hw36_17⟩:=kd_api_Record_open hrc34
 refine qu (.pointer (some p31)) (PO.indexAddr (n:=a2.length) Tryz.underlying53 sz58 hs25_13 hs25_15 hg30.1 hg30.2 hat33) (qu (a58_ (rd a2 x26) vw36_14 vw36_15 vw36_16 vw36_17) (PO.loadMA (cs:=(l58 (rd a2 x26) vw36_14 vw36_15 vw36_16 vw36_17)) ag58 sz58 Z hhas35) (We (Al ze58 Z) Z ?_))
 rintro _ _ _ - ⟨rfl,g37,rfl,rfl⟩
 refine We (Sg (v:=(a58_ (rd a2 x26) vw36_14 vw36_15 vw36_16 vw36_17)) (vl:=(l58 (rd a2 x26) vw36_14 vw36_15 vw36_16 vw36_17)) (arr':=(l58 (rd a2 x26) vw36_14 vw36_15 vw36_16 vw36_17)) Z sz58 Z Z (onesOf (Oc Z (Oc Z (Oc Z (Oc Z (Oc Z (Oc Z (Oc Z (Oc Z (Oc Z (Oc Z (Oc Z (Oc Z (Oc Z (Oc Z (Oc (RS.one hw36_14) (Oc (RS.one hw36_15) (Oc (RS.one hw36_16) (Oc (RS.one hw36_17) Oz))))))))))))))))))) Z Z (by kernel_rfl)) Z ?_
 rintro _ _ _ - ⟨rfl,rfl⟩
 refine Nt (WC.draw [0,1,0,4,12,31,63,127] (.pure 0 (.pure 1 (.pure 2 (.alt 3 (.alt 4 (.alt 5 (.pure 6 (.alt 7 .done .none)) .none) .none) .none)))) mixed (by kernel_rfl) (qt (pt g22 2) Z (Fa fo55_2 hs25_7 Z) (qt vx27 Z (Lb 1 pl53 Z Z Z) (qt (a58_ (rd a2 x26) vw36_14 vw36_15 vw36_16 vw36_17) Z (La (cs:=(l58 (rd a2 x26) vw36_14 vw36_15 vw36_16 vw36_17)) 0 ag58 sz58 Z Z Z) ?_))))
 obtain ⟨r38,hr39,h⟩:=bnd h
 refine Ta Z (Ca co121 (f_batch_one_ok (rd a2 x26) _ _ _ _ _ hw36_14 hw36_15 hw36_16 hw36_17 r38 hr39) (args1 Z)) Z ?_ ?_
 rintro _ M40 _ hle41 ⟨_,⟨vq42_14,cq42_14,vq42_15,cq42_15,vq42_16,cq42_16,vq42_17,cq42_17,rfl,rfl,hq42_14,hq42_15,hq42_16,hq42_17⟩,rfl⟩
 refine⟨(Sk 1 Z (Ss Z (Lb 5 pl53 Z Z Z) Z (Ss Z (Fa fo55_2 hs25_7 Z) Z trivial))), ?_⟩
 refine WT.a4 (WT.know (fun _ hs=>hq42_14.rs hs) (fun hf47=> ?_))
 refine WT.freeze (fun hle46=> ?_)
 have hq42_15:=hq42_15.mono hle46
 refine WT.know (fun _ hs=>hq42_15.rs hs) (fun hf52=> ?_)
 refine WT.freeze (fun hle51=> ?_)
 have hq42_16:=hq42_16.mono (hle46.trans hle51)
 refine WT.know (fun _ hs=>hq42_16.rs hs) (fun hf57=> ?_)
 refine WT.freeze (fun hle56=> ?_)
 have hq42_17:=hq42_17.mono ((hle46.trans hle51).trans hle56)
 refine WT.know (fun _ hs=>hq42_17.rs hs) (fun hf62=> ?_)
 refine WT.freeze (fun hle61=> ?_)
 refine Ta Z (EO.buildSliceL (cl:=(l58 r38 vq42_14 vq42_15 vq42_16 vq42_17)) Tryz.underlying53 iz58 Z (Pc (a58_ r38 vq42_14 vq42_15 vq42_16 vq42_17) Z Z Pz) Z) Z ?_ ?_
 rintro _ _ _ - ⟨rfl,g63,rfl,rfl⟩
 have hf47:=hf47.mono ((hle51.trans hle56).trans hle61)
 have hf52:=hf52.mono (hle56.trans hle61)
 have hf57:=hf57.mono hle61
 have h65:OwnS kd_api_Record ((((M40.add cq42_14).add cq42_15).add cq42_16).add cq42_17) (.slice (some ⟨g63,0,none⟩) 1 1) [r38] [(g63, .cells (l58 r38 vq42_14 vq42_15 vq42_16 vq42_17).toArray 58 (0,0))]:=OwnS.rows (css:=[(l58 r38 vq42_14 vq42_15 vq42_16 vq42_17)]) (Rows.cons (kd_api_Record_mk (x:=r38) hf47 hf52 hf57 hf62) Rows.nil) Z Z
 refine⟨(Sk 1 Z (Ss Z (Lb 2 pl53 Z Z Z) Z (Ss Z (Fa fo55_2 hs25_7 Z) Z trivial))), ?_⟩
 obtain ⟨hg69,h⟩:=grd_i h
 refine WT.f4 ?_
 have hx27:=hx27.mono ((((hle41.trans hle46).trans hle51).trans hle56).trans hle61)
 refine Ta Z (EO.append (dd:=kd_api_Record) (xs:=x27) (ys:=[r38]) Tryz.underlying53 Tryz.underlying53 in58 Z (appB (by decide) hg69) (by decide) Z Z hx27 (h65.src 1 Z)) Z ?_ ?_
 rintro v68 _ _ - ⟨rfl,c66,rfl,h67⟩
 refine⟨(Sl Z), ?_⟩
 refine qt (pt g22 2) Z (Fa fo55_2 hs25_7 Z) (WT.f3 (Ta Z (Es v68 [(Iv a0),(Iv a1),v68] h67.cells sz53 Z Z (Ow h67) Z Z Z) Z ?_ ?_))
 rintro _ _ _ - ⟨rfl,rfl⟩
 refine⟨(Sl Z), ?_⟩
 refine Ti (Bn (Tc (Cg (qu (Iv (IntKind.i64.wrap (x26+1))) (PO.add hs25_15 Z) (qm (Iv (IntKind.i64.wrap (x26+1))) (Wz (Qb (Dr (Qb (Dr (Qa ?_)))))))))))
 exact Qb (Qb (WQ.again (IntKind.i64.wrap (x26+1),x27++[r38]) (oi h).symm ⟨v68,c66,(((((hle25.trans hle41).trans hle46).trans hle51).trans hle56).trans hle61),Z,hs25_6,hs25_7,hs25_13,hs25_14,Z,h67⟩))
 exact Tz
 exact Tz
 exact Tz
 exact Tz
 refine WC.exit (WQ.thenE (WQ.leaveE x27 (oi h).symm (fun heq25=> ?_)))
 subst heq25
 have h:=hK25
 refine WQ.blockH ?_
 obtain rfl:=oi h
 exact Tj ⟨vx27,cx27,hle25,Z,hs25_6,hs25_7,hx27⟩
 rintro ρ24 M24 H24 ⟨vx23,cx23,hle24,rfl,hs24_6,hs24_7,hx23⟩
 refine Sr (qu (.agg #[(Iv a0),(Iv a1),vx23]) (La (cs:=[(Iv a0),(Iv a1),vx23]) 0 ag55 sz55 hs24_7 Z Z) (WL.f1 (We (Sg (v:=(.agg #[(Iv a0),(Iv a1),vx23])) (vl:=[(Iv a0),(Iv a1),vx23]) (arr':=[(Iv a0),(Iv a1),vx23]) Z sz55 hs24_6 Z (onesOf (Oc Z (Oc Z (Oc (Ow hx23) Oz)))) Z Z Z) Z ?_)))
 rintro _ _ _ - ⟨rfl,rfl⟩
 exact Nt (Cr (Qa (Dr (Rd h [cx23] (fun _ hs=>hs.drop) (resultsL1 Z (Rc (cs:=[(Iv a0),(Iv a1),vx23]) 0 ag55 sz55 hs24_6 Z Z)) hle24 ⟨vx23,cx23,Z,Z,hx23⟩))))
noncomputable def f_batch_Copy (a0:T_api_Batch):Option T_api_Batch:=
 ((f_batch_Of a0.Term a0.Base a0.Records).bind fun r23=>(some r23))
def f_batch_Copy_post (a0:T_api_Batch) (v0_2:Value):T_api_Batch→Value→IM→HL→Prop:=
 fun(r0:T_api_Batch) (v:Value) (M':IM) (H':HL)=>∃ vz0_2 cz0_2,(.agg #[(.int .i64 r0.Term),(.int .i64 r0.Base),vz0_2])=v∧H'=[cz0_2]∧OwnS kd_api_Record M' vz0_2 r0.Records cz0_2
theorem f_batch_Copy_ok (a0:T_api_Batch) (M:IM) (v0_2:Value) (h0_2:RS kd_api_Record M v0_2 a0.Records) (res:T_api_Batch) (h:f_batch_Copy a0=some res):
 Tri Tryz.prog 55 #[(a55_ a0 v0_2)] M [] (f_batch_Copy_post a0 v0_2 res):=by
 unfold f_batch_Copy at h
 refine Te Tryz.func55 Z Z ?_
 intro F ρ hρ
 refine Sr (We (EO.box (cs:=(l55 a0 v0_2).toArray) (congrArg Value.cells (asE (a55_ a0 v0_2) (hρ 0)))) Z ?_)
 rintro _ _ _ - ⟨rfl,g21,rfl,rfl⟩
 refine We (Al ze55 Z) Z ?_
 rintro _ _ _ - ⟨rfl,g22,rfl,rfl⟩
 refine Ns (qu (pt g21 0) (Fa fo55_0 Z Z) (qu (Iv a0.Term) (Lb 1 pl3 Z Z Z) (qu (pt g21 1) (Fa fo55_1 Z Z) (qu (Iv a0.Base) (Lb 1 pl3 Z Z Z) (qu (pt g21 2) (Fa fo55_2 Z Z) (qu v0_2 (Lb 1 pl53 Z Z Z) ?_))))))
 obtain ⟨r23,hr24,h⟩:=bnd h
 refine We (Ca co80 (f_batch_Of_ok a0.Term a0.Base a0.Records _ _ h0_2 r23 hr24) (args3 Z Z Z)) Z ?_
 rintro _ M25 _ hle26 ⟨_,⟨vq27_2,cq27_2,rfl,rfl,hq27_2⟩,rfl⟩
 refine WL.a1 (WL.f1 (We (Sg (v:=(a55_ r23 vq27_2)) (vl:=(l55 r23 vq27_2)) (arr':=(l55 r23 vq27_2)) Z sz55 Z Z (onesOf (Oc Z (Oc Z (Oc (Ow hq27_2) Oz)))) Z Z Z) Z ?_))
 rintro _ _ _ - ⟨rfl,rfl⟩
 exact Nt (Cr (Qb (Dr (Rd h [cq27_2] (fun _ hs=>hs.drop) (resultsL1 Z (Rc (cs:=(l55 r23 vq27_2)) 0 ag55 sz55 Z Z Z)) hle26 ⟨vq27_2,cq27_2,Z,Z,hq27_2⟩))))
noncomputable def f_rpc_Copy_l0 (a0:T_api_Rpc) (s_:((List T_api_Batch)×Int)):Option (((List T_api_Batch)×Int)⊕(List T_api_Batch)):=
 match s_ with
 |(x31,x32)=>
 (if(decide (x32<(a0.Batches.length:Int)))=true then(grd (0≤x32∧x32<a0.Batches.length) ((f_batch_Copy (rd a0.Batches x32)).bind fun r43=>(grd (x31.length+[r43].length≤274877906944) (some (Sum.inl (x31++[r43],IntKind.i64.wrap (x32+(1:Int))))))))else(some (Sum.inr x31)))
noncomputable def f_rpc_Copy (a0:T_api_Rpc):Option T_api_Rpc:=
 ((f_slices_Clone_byte_byte a0.Data).bind fun r23=>((((iter (f_rpc_Copy_l0 a0) ([],(0:Int))).bind (fun(x33:(List T_api_Batch))=>(some x33))):Option (List T_api_Batch)).bind fun x28=>(some (⟨a0.Kind,a0.From,a0.To,a0.Term,a0.Pre,a0.Ok,a0.Leader,a0.At,a0.AtTerm,a0.High,a0.Code,x28,a0.Size,a0.Pos,r23⟩:T_api_Rpc))))
def f_rpc_Copy_post (a0:T_api_Rpc) (v0_11 v0_14:Value):T_api_Rpc→Value→IM→HL→Prop:=
 fun(r0:T_api_Rpc) (v:Value) (M':IM) (H':HL)=>∃ vz0_11 cz0_11 vz0_14 cz0_14,(.agg #[(.int .i64 r0.Kind),(.int .i64 r0.From),(.int .i64 r0.To),(.int .i64 r0.Term),(.bool r0.Pre),(.bool r0.Ok),(.int .i64 r0.Leader),(.int .i64 r0.At),(.int .i64 r0.AtTerm),(.int .i64 r0.High),(.int .i64 r0.Code),vz0_11,(.int .i64 r0.Size),(.int .i64 r0.Pos),vz0_14])=v∧H'=[cz0_11,cz0_14]∧OwnS kd_api_Batch M' vz0_11 r0.Batches cz0_11∧OwnS (Kd.int .u8) M' vz0_14 r0.Data cz0_14
theorem f_rpc_Copy_ok (a0:T_api_Rpc) (M:IM) (v0_11 v0_14:Value) (h0_11:RS kd_api_Batch M v0_11 a0.Batches) (h0_14:RS (Kd.int .u8) M v0_14 a0.Data) (res:T_api_Rpc) (h:f_rpc_Copy a0=some res):
 Tri Tryz.prog 18 #[(a25_ a0 v0_11 v0_14)] M [] (f_rpc_Copy_post a0 v0_11 v0_14 res):=by
 unfold f_rpc_Copy at h
 refine Te Tryz.func18 Z Z ?_
 intro F ρ hρ
 refine Sr (We (EO.box (cs:=(l25 a0 v0_11 v0_14).toArray) (congrArg Value.cells (asE (a25_ a0 v0_11 v0_14) (hρ 0)))) Z ?_)
 rintro _ _ _ - ⟨rfl,g21,rfl,rfl⟩
 refine We (Al ze25 Z) Z ?_
 rintro _ _ _ - ⟨rfl,g22,rfl,rfl⟩
 refine Ns (qu (pt g21 14) (Fa fo25_14 Z Z) (qu v0_14 (Lb 1 pl23 Z Z Z) ?_))
 obtain ⟨r23,hr24,h⟩:=bnd h
 refine We (Ca co54 (f_slices_Clone_byte_byte_ok a0.Data _ _ h0_14 r23 hr24) (args1 Z)) Z ?_
 rintro _ M25 _ hle26 ⟨_,⟨vq27,cq27,rfl,rfl,hq27⟩,rfl⟩
 refine WL.a1 (qu (pt g21 14) (Fa fo25_14 Z Z) (Wb (We (Es vq27 ((l25 a0 v0_11 vq27)) hq27.cells sz23 Z Z (Ow hq27) Z Z (by kernel_rfl)) Z ?_)))
 rintro _ _ _ - ⟨rfl,rfl⟩
 refine Ns (qa Zs (Nt ?_))
 obtain ⟨x28,hj29,h⟩:=bnd h
 refine Jf (fun(x28:(List T_api_Batch)) ρ' M' H'=>∃ vx28 cx28,M25.le M'∧[(g21, .cells (l25 a0 v0_11 vq27).toArray 25 (0,0))]::[(g22, .cells z25_.toArray 25 (0,0))]::cx28::cq27::F=H'∧ρ' 1=(pt g21 0)∧ρ' 2=(pt g22 0)∧ρ' 3=vx28∧OwnS kd_api_Batch M' vx28 x28 cx28) x28 ?_ ?_
 have h:=hj29
 refine Sr (qu (pt g21 11) (Fa fo25_11 Z Z) (qu v0_11 (Lb 0 pl22 Z Z Z) ?_))
 have h0_11:=h0_11.mono hle26
 refine qu (Iv (a0.Batches.length:Int)) (PO.lenS Tryz.underlying22 Z h0_11.len) (qm (Iv 0) (Nt (Bk (WC.e0 (WC.f2 (WC.f1 (WC.f3 (WC.f3 ?_))))))))
 obtain ⟨e30,he30,hK30⟩:=bnd h
 clear h
 refine WC.loop he30 (fun(p_:((List T_api_Batch)×Int)) ρ' M' H'=>match p_ with |(x31,x32)=>∃ vx31 cx31,M25.le M'∧[(g21, .cells (l25 a0 v0_11 vq27).toArray 25 (0,0))]::[(g22, .cells z25_.toArray 25 (0,0))]::cx31::cq27::F=H'∧ρ' 1=(pt g21 0)∧ρ' 2=(pt g22 0)∧ρ' 3=vx31∧ρ' 11=v0_11∧ρ' 12=(Iv (a0.Batches.length:Int))∧ρ' 13=(Iv x32)∧OwnS kd_api_Batch M' vx31 x31 cx31) ?_ ?_
 exact⟨Zs,[],lr,Z,Z,Z,Z,Z,Z,Z,(OwnS.nil _ _)⟩
 rintro ⟨x31,x32⟩ o30 ρ30 M30 H30 h ⟨vx31,cx31,hle30,rfl,hs30_1,hs30_2,hs30_3,hs30_11,hs30_12,hs30_13,hx31⟩
 unfold f_rpc_Copy_l0 at h
 refine Sr (qu (Bv (decide (x32<(a0.Batches.length:Int)))) (PO.lss hs30_13 hs30_12) (Nt (Cs (Ch h Z (fun hb34 h=> ?_) (fun hb34 h=> ?_)))))
 refine Ck (Tc (Cs (Bk (Sr ?_))))
 obtain ⟨hg35,h⟩:=grd_i h
 have h0_11:=h0_11.mono hle30
 obtain ⟨p36,cs37,hat38,hrc39,hhas40⟩:=h0_11.at hg35.1 hg35.2 (by decide)
 obtain ⟨vw41_2,rfl,hw41_2⟩:=kd_api_Batch_open hrc39
 refine qu (.pointer (some p36)) (PO.indexAddr (n:=a0.Batches.length) Tryz.underlying22 sz55 hs30_11 hs30_13 hg35.1 hg35.2 hat38) (qu (a55_ (rd a0.Batches x32) vw41_2) (PO.loadMA (cs:=(l55 (rd a0.Batches x32) vw41_2)) ag55 sz55 Z hhas40) (We (Al ze55 Z) Z ?_))
 rintro _ _ _ - ⟨rfl,g42,rfl,rfl⟩
 refine We (Sg (v:=(a55_ (rd a0.Batches x32) vw41_2)) (vl:=(l55 (rd a0.Batches x32) vw41_2)) (arr':=(l55 (rd a0.Batches x32) vw41_2)) Z sz55 Z Z (onesOf (Oc Z (Oc Z (Oc (RS.one hw41_2) Oz)))) Z Z Z) Z ?_
 rintro _ _ _ - ⟨rfl,rfl⟩
 refine Nt (Cg (qM vx31 hs30_3 (qu (a55_ (rd a0.Batches x32) vw41_2) (La (cs:=(l55 (rd a0.Batches x32) vw41_2)) 0 ag55 sz55 Z Z Z) ?_)))
 obtain ⟨r43,hr44,h⟩:=bnd h
 refine We (Ca co55 (f_batch_Copy_ok (rd a0.Batches x32) _ _ hw41_2 r43 hr44) (args1 Z)) Z ?_
 rintro _ M45 _ hle46 ⟨_,⟨vq47_2,cq47_2,rfl,rfl,hq47_2⟩,rfl⟩
 refine WL.a1 (WL.know (fun _ hs=>hq47_2.rs hs) (fun hf52=> ?_))
 refine WL.freeze (fun hle51=> ?_)
 refine We (EO.buildSliceL (cl:=(l55 r43 vq47_2)) Tryz.underlying22 iz55 Z (Pc (a55_ r43 vq47_2) Z Z Pz) Z) Z ?_
 rintro _ _ _ - ⟨rfl,g53,rfl,rfl⟩
 have h55:OwnS kd_api_Batch (M45.add cq47_2) (.slice (some ⟨g53,0,none⟩) 1 1) [r43] [(g53, .cells (l55 r43 vq47_2).toArray 55 (0,0))]:=OwnS.rows (css:=[(l55 r43 vq47_2)]) (Rows.cons (kd_api_Batch_mk (x:=r43) hf52) Rows.nil) Z Z
 obtain ⟨hg59,h⟩:=grd_i h
 refine WL.f4 ?_
 have hx31:=hx31.mono (hle46.trans hle51)
 refine We (EO.append (dd:=kd_api_Batch) (xs:=x31) (ys:=[r43]) Tryz.underlying22 Tryz.underlying22 in55 Z (appB (by decide) hg59) (by decide) Z Z hx31 (h55.src 1 Z)) Z ?_
 rintro v58 _ _ - ⟨rfl,c56,rfl,h57⟩
 refine qa v58 (Wz (Bn (Tc (Cg (qu (Iv (IntKind.i64.wrap (x32+1))) (PO.add hs30_13 Z) (qm (Iv (IntKind.i64.wrap (x32+1))) (Wz (Qa (Dr (Qa (Dr ?_)))))))))))
 exact WQ.f3 (Qa (WQ.f3 (WQ.f3 (WQ.again (x31++[r43],IntKind.i64.wrap (x32+1)) (oi h).symm ⟨v58,c56,((hle30.trans hle46).trans hle51),Z,hs30_1,hs30_2,Z,hs30_11,hs30_12,Z,h57⟩))))
 refine WC.exit (WQ.thenE (WQ.leaveE x31 (oi h).symm (fun heq30=> ?_)))
 subst heq30
 have h:=hK30
 refine WQ.blockH ?_
 obtain rfl:=oi h
 exact Tj ⟨vx31,cx31,hle30,Z,hs30_1,hs30_2,hs30_3,hx31⟩
 rintro ρ29 M29 H29 ⟨vx28,cx28,hle29,rfl,hs29_1,hs29_2,hs29_3,hx28⟩
 refine Sr (qM vx28 hs29_3 (qu (pt g21 11) (Fa fo25_11 hs29_1 Z) (We (Es vx28 ((l25 a0 vx28 vq27)) hx28.cells sz22 Z Z (Ow hx28) Z Z (by kernel_rfl)) Z ?_)))
 rintro _ _ _ - ⟨rfl,rfl⟩
 refine Ns (qu (a25_ a0 vx28 vq27) (La (cs:=(l25 a0 vx28 vq27)) 0 ag25 sz25 hs29_1 Z Z) (WL.f1 ?_))
 have hq27:=hq27.mono hle29
 refine We (Sg (v:=(a25_ a0 vx28 vq27)) (vl:=(l25 a0 vx28 vq27)) (arr':=(l25 a0 vx28 vq27)) Z sz25 hs29_2 Z (onesOf (Oc Z (Oc Z (Oc Z (Oc Z (Oc Z (Oc Z (Oc Z (Oc Z (Oc Z (Oc Z (Oc Z (Oc (Ow hx28) (Oc Z (Oc Z (Oc (Ow hq27) Oz)))))))))))))))) Z Z (by kernel_rfl)) Z ?_
 rintro _ _ _ - ⟨rfl,rfl⟩
 exact Nt (Cr (Qa (Dr (Rd h [cx28,cq27] (fun _ hs=>hs.drop) (resultsL1 Z (Rc (cs:=(l25 a0 vx28 vq27)) 0 ag25 sz25 hs29_2 Z Z)) (hle26.trans hle29) ⟨vx28,cx28,vq27,cq27,Z,Z,hx28,hq27⟩))))
noncomputable def f_law07_works:Option Bool:=
 ((f_rpc_Put lit1_).bind fun(r33,r34)=>((f_rpc_Read r33).bind fun(r46,r47)=>((f_rpc_Read (⟨(9:Int),[]⟩:T_api_Frame)).bind fun(r54,r55)=>(((if r34.isNil=true then(if(decide (r33.Kind=(4:Int)))=true then(if r47.isNil=true then((f_rpc_Same r46 lit1_).bind fun r68=>(if r68=true then((f_fault_Is r55 (5:Int)).bind fun r83=>(if r83=true then((f_rpc_Check lit1_).bind fun r89=>(if r89.isNil=true then((f_rpc_Check (⟨(1:Int),(1:Int),(1:Int),(0:Int),false,false,(0:Int),(0:Int),(0:Int),(0:Int),(0:Int),[],(0:Int),(0:Int),[]⟩:T_api_Rpc)).bind fun r98=>((f_fault_Is r98 (2:Int)).bind fun r103=>(if r103=true then((f_rpc_Copy lit1_).bind fun r111=>((f_rpc_Same lit1_ r111).bind fun r116=>(if r116=true then((f_rpc_Same lit1_ lit4_).bind fun r128=>(some (!r128,[lit2_])))else(some (false,[lit2_])))))else(some (false,[lit2_])))))else(some (false,[lit2_]))))else(some (false,[lit2_]))))else(some (false,[lit2_]))))else(some (false,[lit2_])))else(some (false,[lit2_])))else(some (false,[lit2_]))):Option (Bool×(List T_api_Batch))).bind fun(x62,x63)=>(some x62)))))
def f_law07_works_post:Bool→Value→IM→HL→Prop:=
 fun(r0:Bool) (v:Value) (M':IM) (H':HL)=>(.bool r0)=v∧H'=[]
theorem f_law07_works_ok (M:IM) (hE:Env M) (res:Bool) (h:f_law07_works=some res):
 Tri Tryz.prog 9 #[] M [] (f_law07_works_post res):=by
 unfold f_law07_works at h
 refine Te Tryz.func9 Z Z ?_
 intro F ρ hρ
 refine Sr (qa (Bv false) (Ns (qu (.agg #[(Iv 1),(Iv 0),(Iv 0),(Iv 0),(Iv 0),(Iv 0),(Iv 0),(Iv 0),(Iv 0),(Bv false),(Sv ⟨#[]⟩),(Sv ⟨#[]⟩),(Sv ⟨#[]⟩),(Sv ⟨#[]⟩),Zs,Zs,Zs,Zs]) (Bl (cl:=[(Iv 1),(Iv 0),(Iv 0),(Iv 0),(Iv 0),(Iv 0),(Iv 0),(Iv 0),(Iv 0),(Bv false),(Sv ⟨#[]⟩),(Sv ⟨#[]⟩),(Sv ⟨#[]⟩),(Sv ⟨#[]⟩),Zs,Zs,Zs,Zs]) ze58 fp58 (Pc (Iv 1) Z Z Pz) Z) (We (EO.buildSliceL (cl:=[(Iv 1),(Iv 0),(Iv 0),(Iv 0),(Iv 0),(Iv 0),(Iv 0),(Iv 0),(Iv 0),(Bv false),(Sv ⟨#[]⟩),(Sv ⟨#[]⟩),(Sv ⟨#[]⟩),(Sv ⟨#[]⟩),Zs,Zs,Zs,Zs]) Tryz.underlying53 iz58 Z (Pc (.agg #[(Iv 1),(Iv 0),(Iv 0),(Iv 0),(Iv 0),(Iv 0),(Iv 0),(Iv 0),(Iv 0),(Bv false),(Sv ⟨#[]⟩),(Sv ⟨#[]⟩),(Sv ⟨#[]⟩),(Sv ⟨#[]⟩),Zs,Zs,Zs,Zs]) Z Z Pz) Z) Z ?_))))
 rintro _ _ _ - ⟨rfl,g21,rfl,rfl⟩
 have h23:OwnS kd_api_Record M (.slice (some ⟨g21,0,none⟩) 1 1) [lit3_] [(g21, .cells #[(Iv 1),(Iv 0),(Iv 0),(Iv 0),(Iv 0),(Iv 0),(Iv 0),(Iv 0),(Iv 0),(Bv false),(Sv ⟨#[]⟩),(Sv ⟨#[]⟩),(Sv ⟨#[]⟩),(Sv ⟨#[]⟩),Zs,Zs,Zs,Zs] 58 (0,0))]:=OwnS.rows (css:=[[(Iv 1),(Iv 0),(Iv 0),(Iv 0),(Iv 0),(Iv 0),(Iv 0),(Iv 0),(Iv 0),(Bv false),(Sv ⟨#[]⟩),(Sv ⟨#[]⟩),(Sv ⟨#[]⟩),(Sv ⟨#[]⟩),Zs,Zs,Zs,Zs]]) (Rows.cons (kd_api_Record_mk (x:=lit3_) (RS.nil _ _) (RS.nil _ _) (RS.nil _ _) (RS.nil _ _)) Rows.nil) Z Z
 refine qu (.agg #[(Iv 3),(Iv 6),(.slice (some ⟨g21,0,none⟩) 1 1)]) (Bl (cl:=[(Iv 3),(Iv 6),(.slice (some ⟨g21,0,none⟩) 1 1)]) ze55 fp55 (Pc (Iv 3) Z Z (Pc (Iv 6) Z Z (Parts.cons ((congrArg Value.cells (show ev _ _=(.slice (some ⟨g21,0,none⟩) 1 1) from Z)).trans h23.cells) Pz))) Z) (WL.know (fun _ hs=>h23.rs hs) (fun hf28=> ?_))
 refine WL.freeze (fun hle27=> ?_)
 refine We (EO.buildSliceL (cl:=[(Iv 3),(Iv 6),(.slice (some ⟨g21,0,none⟩) 1 1)]) Tryz.underlying22 iz55 Z (Pc (.agg #[(Iv 3),(Iv 6),(.slice (some ⟨g21,0,none⟩) 1 1)]) Z Z Pz) Z) Z ?_
 rintro _ _ _ - ⟨rfl,g29,rfl,rfl⟩
 have h31:OwnS kd_api_Batch (M.add [(g21, .cells #[(Iv 1),(Iv 0),(Iv 0),(Iv 0),(Iv 0),(Iv 0),(Iv 0),(Iv 0),(Iv 0),(Bv false),(Sv ⟨#[]⟩),(Sv ⟨#[]⟩),(Sv ⟨#[]⟩),(Sv ⟨#[]⟩),Zs,Zs,Zs,Zs] 58 (0,0))]) (.slice (some ⟨g29,0,none⟩) 1 1) [lit2_] [(g29, .cells #[(Iv 3),(Iv 6),(.slice (some ⟨g21,0,none⟩) 1 1)] 55 (0,0))]:=OwnS.rows (css:=[[(Iv 3),(Iv 6),(.slice (some ⟨g21,0,none⟩) 1 1)]]) (Rows.cons (kd_api_Batch_mk (x:=lit2_) hf28) Rows.nil) Z Z
 refine qu (.agg #[(Iv 4),(Iv 1),(Iv 2),(Iv 3),(Bv false),(Bv false),(Iv 1),(Iv 5),(Iv 2),(Iv 4),(Iv 0),(.slice (some ⟨g29,0,none⟩) 1 1),(Iv 0),(Iv 0),Zs]) (Bl (cl:=[(Iv 4),(Iv 1),(Iv 2),(Iv 3),(Bv false),(Bv false),(Iv 1),(Iv 5),(Iv 2),(Iv 4),(Iv 0),(.slice (some ⟨g29,0,none⟩) 1 1),(Iv 0),(Iv 0),Zs]) ze25 fp25 (Pc (Iv 4) Z Z (Pc (Iv 1) Z Z (Pc (Iv 2) Z Z (Pc (Iv 3) Z Z (Pc (Iv 1) Z Z (Pc (Iv 5) Z Z (Pc (Iv 2) Z Z (Pc (Iv 4) Z Z (Parts.cons ((congrArg Value.cells (show ev _ _=(.slice (some ⟨g29,0,none⟩) 1 1) from Z)).trans h31.cells) Pz))))))))) Z) (We (Al ze25 Z) Z ?_)
 rintro _ _ _ - ⟨rfl,g32,rfl,rfl⟩
 refine We (Sg (v:=(.agg #[(Iv 4),(Iv 1),(Iv 2),(Iv 3),(Bv false),(Bv false),(Iv 1),(Iv 5),(Iv 2),(Iv 4),(Iv 0),(.slice (some ⟨g29,0,none⟩) 1 1),(Iv 0),(Iv 0),Zs])) (vl:=[(Iv 4),(Iv 1),(Iv 2),(Iv 3),(Bv false),(Bv false),(Iv 1),(Iv 5),(Iv 2),(Iv 4),(Iv 0),(.slice (some ⟨g29,0,none⟩) 1 1),(Iv 0),(Iv 0),Zs]) (arr':=[(Iv 4),(Iv 1),(Iv 2),(Iv 3),(Bv false),(Bv false),(Iv 1),(Iv 5),(Iv 2),(Iv 4),(Iv 0),(.slice (some ⟨g29,0,none⟩) 1 1),(Iv 0),(Iv 0),Zs]) Z sz25 Z Z (onesOf (Oc Z (Oc Z (Oc Z (Oc Z (Oc Z (Oc Z (Oc Z (Oc Z (Oc Z (Oc Z (Oc Z (Oc (Ow h31) (Oc Z (Oc Z (Oc Z Oz)))))))))))))))) Z Z (by kernel_rfl)) Z ?_
 rintro _ _ _ - ⟨rfl,rfl⟩
 refine Ns (qu (.agg #[(Iv 4),(Iv 1),(Iv 2),(Iv 3),(Bv false),(Bv false),(Iv 1),(Iv 5),(Iv 2),(Iv 4),(Iv 0),(.slice (some ⟨g29,0,none⟩) 1 1),(Iv 0),(Iv 0),Zs]) (La (cs:=[(Iv 4),(Iv 1),(Iv 2),(Iv 3),(Bv false),(Bv false),(Iv 1),(Iv 5),(Iv 2),(Iv 4),(Iv 0),(.slice (some ⟨g29,0,none⟩) 1 1),(Iv 0),(Iv 0),Zs]) 0 ag25 sz25 Z Z Z) ?_)
 obtain ⟨⟨r33,r34⟩,hr35,h⟩:=bnd h
 refine WL.f1 (We (Cb co10 (Tri.lend h31.excl fun w0_ H0_ hs0_=>(f_rpc_Put_ok lit1_ _ _ _ (h31.rs hs0_) (RS.nil _ _) (r33,r34) hr35)) (args1 Z)) Z ?_)
 rintro _ _ _ hle37 ⟨_,⟨Ml40,Hl41,hll42,rfl,rfl,⟨vq38_1,cq38_1,rfl,rfl,hq38_1⟩⟩,rfl⟩
 have hq38_1:OwnS (Kd.int .u8) (Ml40.minus [(g29, .cells #[(Iv 3),(Iv 6),(.slice (some ⟨g21,0,none⟩) 1 1)] 55 (0,0))]) vq38_1 r33.Body cq38_1:=hq38_1.any (Kd.int_flat _)
 refine WL.a2 (qm (.tuple #[(.agg #[(Iv r33.Kind),vq38_1]),(GV r34)]) (qu (.agg #[(Iv r33.Kind),vq38_1]) (Xt Z Z) (qu (GV r34) (Xt Z Z) (We (Al ze29 Z) Z ?_))))
 rintro _ _ _ - ⟨rfl,g43,rfl,rfl⟩
 refine We (Sg (v:=(.agg #[(Iv r33.Kind),vq38_1])) (vl:=[(Iv r33.Kind),vq38_1]) (arr':=[(Iv r33.Kind),vq38_1]) Z sz29 Z Z (onesOf (Oc Z (Oc (Ow hq38_1) Oz))) Z Z Z) Z ?_
 rintro _ _ _ - ⟨rfl,rfl⟩
 refine qa (GV r34) (Ns (qu (.agg #[(Iv r33.Kind),vq38_1]) (La (cs:=[(Iv r33.Kind),vq38_1]) 0 ag29 sz29 Z Z Z) (Wb (WL.know (fun _ hs=>hq38_1.rs hs) (fun hf45=> ?_)))))
 refine WL.freeze (fun hle44=> ?_)
 obtain ⟨⟨r46,r47⟩,hr48,h⟩:=bnd h
 have hE:=hE.mono ((hle27.trans hle37).trans hle44)
 refine We (Ca co11 (f_rpc_Read_ok r33 _ _ hf45 hE (r46,r47) hr48) (args1 Z)) Z ?_
 rintro _ M49 _ hle50 ⟨_,⟨vq51_11,cq51_11,vq51_14,cq51_14,rfl,rfl,hq51_11,hq51_14⟩,rfl⟩
 have L50:=(hle37.trans hle44).trans hle50
 refine WL.a2 (qm (.tuple #[(a25_ r46 vq51_11 vq51_14),(GV r47)]) (qu (a25_ r46 vq51_11 vq51_14) (Xt Z Z) (qu (GV r47) (Xt Z Z) (We (Al ze25 Z) Z ?_))))
 rintro _ _ _ - ⟨rfl,g53,rfl,rfl⟩
 refine We (Sg (v:=(a25_ r46 vq51_11 vq51_14)) (vl:=(l25 r46 vq51_11 vq51_14)) (arr':=(l25 r46 vq51_11 vq51_14)) Z sz25 Z Z (onesOf (Oc Z (Oc Z (Oc Z (Oc Z (Oc Z (Oc Z (Oc Z (Oc Z (Oc Z (Oc Z (Oc Z (Oc (Ow hq51_11) (Oc Z (Oc Z (Oc (Ow hq51_14) Oz)))))))))))))))) Z Z (by kernel_rfl)) Z ?_
 rintro _ _ _ - ⟨rfl,rfl⟩
 refine qa (GV r47) (Ns (qu (.agg #[(Iv 9),Zs]) (Bl (cl:=[(Iv 9),Zs]) ze29 fp29 (Pc (Iv 9) Z Z Pz) Z) ?_))
 obtain ⟨⟨r54,r55⟩,hr56,h⟩:=bnd h
 have hE:=hE.mono hle50
 refine We (Ca co11 (f_rpc_Read_ok (⟨(9:Int),[]⟩:T_api_Frame) _ _ (RS.nil _ _) hE (r54,r55) hr56) (args1 Z)) Z ?_
 rintro _ M57 _ hle58 ⟨_,⟨vq59_11,cq59_11,vq59_14,cq59_14,rfl,rfl,hq59_11,hq59_14⟩,rfl⟩
 have L58:=L50.trans hle58
 refine WL.a2 (qm (.tuple #[(a25_ r54 vq59_11 vq59_14),(GV r55)]) (qu (a25_ r54 vq59_11 vq59_14) (Xt Z Z) (qu (GV r55) (Xt Z Z) (We (Al ze25 Z) Z ?_))))
 rintro _ _ _ - ⟨rfl,g61,rfl,rfl⟩
 refine We (Sg (v:=(a25_ r54 vq59_11 vq59_14)) (vl:=(l25 r54 vq59_11 vq59_14)) (arr':=(l25 r54 vq59_11 vq59_14)) Z sz25 Z Z (onesOf (Oc Z (Oc Z (Oc Z (Oc Z (Oc Z (Oc Z (Oc Z (Oc Z (Oc Z (Oc Z (Oc Z (Oc (Ow hq59_11) (Oc Z (Oc Z (Oc (Ow hq59_14) Oz)))))))))))))))) Z Z (by kernel_rfl)) Z ?_
 rintro _ _ _ - ⟨rfl,rfl⟩
 refine qa (GV r55) (Nt ?_)
 obtain ⟨j64,hj64,h⟩:=bnd h
 refine Jf (fun(p_:(Bool×(List T_api_Batch))) ρ' M' H'=>match p_ with |(x62,x63)=>∃ vx63,M57.le M'∧[(g61, .cells (l25 r54 vq59_11 vq59_14).toArray 25 (0,0))]::[(g53, .cells (l25 r46 vq51_11 vq51_14).toArray 25 (0,0))]::[(g43, .cells #[(Iv r33.Kind),vq38_1] 29 (0,0))]::[(g32, .cells #[(Iv 4),(Iv 1),(Iv 2),(Iv 3),(Bv false),(Bv false),(Iv 1),(Iv 5),(Iv 2),(Iv 4),(Iv 0),vx63,(Iv 0),(Iv 0),Zs] 25 (0,0))]::cq59_11::cq59_14::cq51_11::cq51_14::F=H'∧ρ' 0=(Bv x62)∧RS kd_api_Batch M' vx63 x63) j64 ?_ ?_
 have h:=hj64
 refine WC.draw [0,1,3,7,15,31,63,127,255,511,1023,2047,4095,4095,16383,32767,65535,131071,262143,524287,1048575,2097151,4194303,8388607,16777215,33554431,67108863,134217727,268435455,536870911,1073741823,2147483647,2147483647,6442450943,17179869183,34359738367,68719476735,137438953471,137438953471,549755813887,1099511627775,2199023255551,4398046511103] (.pure 0 (.pure 1 (.pure 2 (.pure 3 (.pure 4 (.pure 5 (.pure 6 (.pure 7 (.pure 8 (.pure 9 (.pure 10 (.pure 11 (.pure 12 (.pure 13 (.alt 14 (.pure 15 (.pure 16 (.pure 17 (.alt 18 (.pure 19 (.pure 20 (.pure 21 (.alt 22 (.pure 23 (.pure 24 (.pure 25 (.pure 26 (.alt 27 (.alt 28 (.pure 29 (.pure 30 (.pure 31 (.pure 32 (.alt 33 (.alt 34 (.pure 35 (.pure 36 (.pure 37 (.pure 38 (.alt 39 (.pure 40 (.pure 41 (.pure 42 .done))) .none))))) .none) .none))))) .none) .none))))) .none)))) .none)))) .none))))))))))))))) mixed (by kernel_rfl) (qt (GV r34) Z (Mv Z) (qt (Bv r34.isNil) Z (PO.errNil Tryz.underlying31 Z) (qt (Bv r34.isNil) Z (Mv Z) ?_)))
 rcases Bi h with⟨hb65,h⟩ |⟨hb65,h⟩
 refine Tn (pt g43 0) 30 Z Z Z hb65 (Fa fo29_0 Z Z) Z (Tn (Iv r33.Kind) 30 Z Z Z hb65 (Lb 6 pl3 Z Z Z) Z (Tn (Bv (decide (r33.Kind=4))) 30 Z Z Z hb65 (PO.eql Z Z) Z (qt (Bv (decide (r33.Kind=4))) Z (Pt Z hb65 Z) (qt (Bv (decide (r33.Kind=4))) Z (Mv Z) ?_))))
 rcases Bi h with⟨hb66,h⟩ |⟨hb66,h⟩
 refine Tn (GV r47) 35 Z Z Z hb66 (Mv Z) Z (Tn (Bv r47.isNil) 35 Z Z Z hb66 (PO.errNil Tryz.underlying31 Z) Z (qt (Bv r47.isNil) Z (Pt Z hb66 Z) (qt (Bv r47.isNil) Z (Mv Z) ?_)))
 rcases Bi h with⟨hb67,h⟩ |⟨hb67,h⟩
 refine Tn (a25_ r46 vq51_11 vq51_14) 39 Z Z Z hb67 (La (cs:=(l25 r46 vq51_11 vq51_14)) 3 ag25 sz25 Z Z Z) Z (Tn (.agg #[(Iv 4),(Iv 1),(Iv 2),(Iv 3),(Bv false),(Bv false),(Iv 1),(Iv 5),(Iv 2),(Iv 4),(Iv 0),(.slice (some ⟨g29,0,none⟩) 1 1),(Iv 0),(Iv 0),Zs]) 39 Z Z Z hb67 (La (cs:=[(Iv 4),(Iv 1),(Iv 2),(Iv 3),(Bv false),(Bv false),(Iv 1),(Iv 5),(Iv 2),(Iv 4),(Iv 0),(.slice (some ⟨g29,0,none⟩) 1 1),(Iv 0),(Iv 0),Zs]) 8 ag25 sz25 Z Z Z) Z ?_)
 obtain ⟨r68,hr69,h⟩:=bnd h
 refine WT.f7 (WT.f6 (WT.f6 ?_))
 have hq51_11:=hq51_11.mono hle58
 have hq51_14:=hq51_14.mono hle58
 have h31:=h31.mono L58
 refine WT.altOn 39 Z Z Z hb67 (EO.call3 co17 (Tri.lend hq51_11.excl fun w0_ H0_ hs0_=>(Tri.lend hq51_14.excl fun w1_ H1_ hs1_=>(Tri.lend h31.excl fun w2_ H2_ hs2_=>(f_rpc_Same_ok r46 lit1_ _ _ _ _ _ (((hq51_11.rs hs0_).mono (IM.le_add _ _)).mono (IM.le_add _ _)) (((hq51_14.mono (IM.le_add _ _)).rs hs1_).mono (IM.le_add _ _)) (((h31.mono (IM.le_add _ _)).mono (IM.le_add _ _)).rs hs2_) (RS.nil _ _) r68 hr69)))) (args2 Z Z)) Z ?_ ?_
 rintro _ _ _ hle71 ⟨_,⟨Ml79,Hl80,hll81,rfl,rfl,⟨Ml76,Hl77,hll78,rfl,rfl,⟨Ml73,Hl74,hll75,rfl,rfl,⟨rfl,rfl⟩⟩⟩⟩,rfl⟩
 refine⟨(Sl Z), ?_⟩
 refine WT.a3 (qt (Bv r68) Z (Pt Z hb67 Z) (qt (Bv r68) Z (Mv Z) ?_))
 rcases Bi h with⟨hb82,h⟩ |⟨hb82,h⟩
 refine Tn (GV r55) 44 Z Z Z hb82 (Mv Z) Z ?_
 obtain ⟨r83,hr84,h⟩:=bnd h
 refine WT.altOn 44 Z Z Z hb82 (Ca co22 (f_fault_Is_ok r55 (5:Int) _ r83 hr84) (args2 Z Z)) Z ?_ ?_
 rintro _ M85 _ hle86 ⟨_,⟨rfl,rfl⟩,rfl⟩
 have L86:=hle71.trans hle86
 refine⟨(Sl Z), ?_⟩
 refine WT.a0 (qt (Bv r83) Z (Pt Z hb82 Z) (qt (Bv r83) Z (Mv Z) ?_))
 rcases Bi h with⟨hb88,h⟩ |⟨hb88,h⟩
 refine Tn (.agg #[(Iv 4),(Iv 1),(Iv 2),(Iv 3),(Bv false),(Bv false),(Iv 1),(Iv 5),(Iv 2),(Iv 4),(Iv 0),(.slice (some ⟨g29,0,none⟩) 1 1),(Iv 0),(Iv 0),Zs]) 48 Z Z Z hb88 (La (cs:=[(Iv 4),(Iv 1),(Iv 2),(Iv 3),(Bv false),(Bv false),(Iv 1),(Iv 5),(Iv 2),(Iv 4),(Iv 0),(.slice (some ⟨g29,0,none⟩) 1 1),(Iv 0),(Iv 0),Zs]) 8 ag25 sz25 Z Z Z) Z ?_
 obtain ⟨r89,hr90,h⟩:=bnd h
 refine WT.f2 ?_
 have h31:=h31.mono L86
 refine WT.altOn 48 Z Z Z hb88 (Cb co16 (Tri.lend h31.excl fun w0_ H0_ hs0_=>(f_rpc_Check_ok lit1_ _ _ _ (h31.rs hs0_) (RS.nil _ _) r89 hr90)) (args1 Z)) Z ?_ ?_
 rintro _ _ _ hle92 ⟨_,⟨Ml94,Hl95,hll96,rfl,rfl,⟨rfl,rfl⟩⟩,rfl⟩
 have L92:=L86.trans hle92
 refine⟨(Sl Z), ?_⟩
 refine WT.a1 (Tn (Bv r89.isNil) 48 Z Z Z hb88 (PO.errNil Tryz.underlying31 Z) Z (qt (Bv r89.isNil) Z (Pt Z hb88 Z) (qt (Bv r89.isNil) Z (Mv Z) ?_)))
 rcases Bi h with⟨hb97,h⟩ |⟨hb97,h⟩
 refine Tn (.agg #[(Iv 1),(Iv 1),(Iv 1),(Iv 0),(Bv false),(Bv false),(Iv 0),(Iv 0),(Iv 0),(Iv 0),(Iv 0),Zs,(Iv 0),(Iv 0),Zs]) 53 Z Z Z hb97 (Bl (cl:=[(Iv 1),(Iv 1),(Iv 1),(Iv 0),(Bv false),(Bv false),(Iv 0),(Iv 0),(Iv 0),(Iv 0),(Iv 0),Zs,(Iv 0),(Iv 0),Zs]) ze25 fp25 (Pc (Iv 1) Z Z (Pc (Iv 1) Z Z (Pc (Iv 1) Z Z Pz))) Z) Z ?_
 obtain ⟨r98,hr99,h⟩:=bnd h
 refine WT.altOn 53 Z Z Z hb97 (Ca co16 (f_rpc_Check_ok (⟨(1:Int),(1:Int),(1:Int),(0:Int),false,false,(0:Int),(0:Int),(0:Int),(0:Int),(0:Int),[],(0:Int),(0:Int),[]⟩:T_api_Rpc) _ _ _ (RS.nil _ _) (RS.nil _ _) r98 hr99) (args1 Z)) Z ?_ ?_
 rintro _ M100 _ hle101 ⟨_,⟨rfl,rfl⟩,rfl⟩
 have L101:=L92.trans hle101
 refine⟨(Sl Z), ?_⟩
 refine WT.a0 ?_
 obtain ⟨r103,hr104,h⟩:=bnd h
 refine WT.altOn 53 Z Z Z hb97 (Ca co22 (f_fault_Is_ok r98 (2:Int) _ r103 hr104) (args2 Z Z)) Z ?_ ?_
 rintro _ M105 _ hle106 ⟨_,⟨rfl,rfl⟩,rfl⟩
 have L106:=L101.trans hle106
 refine⟨(Sl Z), ?_⟩
 refine WT.a0 (qt (Bv r103) Z (Pt Z hb97 Z) (qt (Bv r103) Z (Mv Z) ?_))
 rcases Bi h with⟨hb108,h⟩ |⟨hb108,h⟩
 refine Tn (.agg #[(Iv 4),(Iv 1),(Iv 2),(Iv 3),(Bv false),(Bv false),(Iv 1),(Iv 5),(Iv 2),(Iv 4),(Iv 0),(.slice (some ⟨g29,0,none⟩) 1 1),(Iv 0),(Iv 0),Zs]) 58 Z Z Z hb108 (La (cs:=[(Iv 4),(Iv 1),(Iv 2),(Iv 3),(Bv false),(Bv false),(Iv 1),(Iv 5),(Iv 2),(Iv 4),(Iv 0),(.slice (some ⟨g29,0,none⟩) 1 1),(Iv 0),(Iv 0),Zs]) 8 ag25 sz25 Z Z Z) Z (Tn (.agg #[(Iv 4),(Iv 1),(Iv 2),(Iv 3),(Bv false),(Bv false),(Iv 1),(Iv 5),(Iv 2),(Iv 4),(Iv 0),(.slice (some ⟨g29,0,none⟩) 1 1),(Iv 0),(Iv 0),Zs]) 58 Z Z Z hb108 (La (cs:=[(Iv 4),(Iv 1),(Iv 2),(Iv 3),(Bv false),(Bv false),(Iv 1),(Iv 5),(Iv 2),(Iv 4),(Iv 0),(.slice (some ⟨g29,0,none⟩) 1 1),(Iv 0),(Iv 0),Zs]) 8 ag25 sz25 Z Z Z) Z ?_)
 have h31:=h31.mono ((hle92.trans hle101).trans hle106)
 refine WT.know (fun _ hs=>h31.rs hs) (fun hf110=> ?_)
 refine WT.freeze (fun hle109=> ?_)
 obtain ⟨r111,hr112,h⟩:=bnd h
 refine WT.altOn 58 Z Z Z hb108 (Ca co18 (f_rpc_Copy_ok lit1_ _ _ _ hf110 (RS.nil _ _) r111 hr112) (args1 Z)) Z ?_ ?_
 rintro _ M113 _ hle114 ⟨_,⟨vq115_11,cq115_11,vq115_14,cq115_14,rfl,rfl,hq115_11,hq115_14⟩,rfl⟩
 refine⟨(Sk 1 Z (St (StabA.on 58 Z Z Z hb108 (La (cs:=[(Iv 4),(Iv 1),(Iv 2),(Iv 3),(Bv false),(Bv false),(Iv 1),(Iv 5),(Iv 2),(Iv 4),(Iv 0),(.slice (some ⟨g29,0,none⟩) 1 1),(Iv 0),(Iv 0),Zs]) 9 ag25 sz25 Z Z Z) Z) (Sl Z))), ?_⟩
 refine WT.a2 ?_
 obtain ⟨r116,hr117,h⟩:=bnd h
 refine WT.f1 (WT.f1 ?_)
 have hf110:=hf110.mono hle114
 refine WT.altOn 58 Z Z Z hb108 (EO.call2 co17 (Tri.lend hq115_11.excl fun w0_ H0_ hs0_=>(Tri.lend hq115_14.excl fun w1_ H1_ hs1_=>(f_rpc_Same_ok lit1_ r111 _ _ _ _ _ ((hf110.mono (IM.le_add _ _)).mono (IM.le_add _ _)) (RS.nil _ _) ((hq115_11.rs hs0_).mono (IM.le_add _ _)) ((hq115_14.mono (IM.le_add _ _)).rs hs1_) r116 hr117))) (args2 Z Z)) Z ?_ ?_
 rintro _ _ _ hle119 ⟨_,⟨Ml124,Hl125,hll126,rfl,rfl,⟨Ml121,Hl122,hll123,rfl,rfl,⟨rfl,rfl⟩⟩⟩,rfl⟩
 refine⟨(Sl Z), ?_⟩
 refine WT.a2 (qt (Bv r116) Z (Pt Z hb108 Z) (qt (Bv r116) Z (Mv Z) ?_))
 rcases Bi h with⟨hb127,h⟩ |⟨hb127,h⟩
 refine Tn (.agg #[(Iv 4),(Iv 1),(Iv 2),(Iv 3),(Bv false),(Bv false),(Iv 1),(Iv 5),(Iv 2),(Iv 4),(Iv 0),(.slice (some ⟨g29,0,none⟩) 1 1),(Iv 0),(Iv 0),Zs]) 64 Z Z Z hb127 (La (cs:=[(Iv 4),(Iv 1),(Iv 2),(Iv 3),(Bv false),(Bv false),(Iv 1),(Iv 5),(Iv 2),(Iv 4),(Iv 0),(.slice (some ⟨g29,0,none⟩) 1 1),(Iv 0),(Iv 0),Zs]) 9 ag25 sz25 Z Z Z) Z (Tn (.agg z25_.toArray) 64 Z Z Z hb127 (Bl (cl:=z25_) ze25 fp25 Pz Z) Z ?_)
 obtain ⟨r128,hr129,h⟩:=bnd h
 have hf110:=hf110.mono hle119
 refine WT.altOn 64 Z Z Z hb127 (Ca co17 (f_rpc_Same_ok lit1_ lit4_ _ _ _ _ _ hf110 (RS.nil _ _) (RS.nil _ _) (RS.nil _ _) r128 hr129) (args2 Z Z)) Z ?_ ?_
 rintro _ M130 _ hle131 ⟨_,⟨rfl,rfl⟩,rfl⟩
 refine⟨(Sl Z), ?_⟩
 refine WT.a0 (Tn (Bv (!r128)) 64 Z Z Z hb127 (PO.not Z) Z (qt (Bv (!r128)) Z (Pt Z hb127 Z) (qt (Bv (!r128)) Z (Ag Z) (Ti (Dr (Dr (Qa (Qa (WQ.f4 (WQ.f4 (WQ.f7 ?_)))))))))))
 refine WQ.f7 (WQ.f7 (WQ.f7 ?_))
 obtain rfl:=oi h
 refine Tj ?_
 have hf110:=hf110.mono hle131
 exact⟨(.slice (some ⟨g29,0,none⟩) 1 1),((((L106.trans hle109).trans hle114).trans hle119).trans hle131),Z,Z,hf110⟩
 exact Tz
 refine Tf 64 Z Z Z hb127 Z (Tf 64 Z Z Z hb127 Z (Tg 64 Z Z Z hb127 Z ⟨(Sl Z), ?_⟩ ?_))
 refine Tf 64 Z Z Z hb127 Z (qt (Bv false) Z (Pf Z hb127 Z) (qt (Bv false) Z (Ag Z) (Ti (Dr (Dr (Qa (Qa (WQ.f4 (WQ.f4 (WQ.f7 (WQ.f7 ?_)))))))))))
 refine WQ.f7 (WQ.f7 ?_)
 obtain rfl:=oi h
 refine Tj ?_
 have hf110:=hf110.mono hle119
 exact⟨(.slice (some ⟨g29,0,none⟩) 1 1),(((L106.trans hle109).trans hle114).trans hle119),Z,Z,hf110⟩
 exact Tz
 exact Tz
 exact Tz
 refine Tf 58 Z Z Z hb108 Z (Tf 58 Z Z Z hb108 Z (Tg 58 Z Z Z hb108 Z ⟨(Sk 1 Z (St (Sf 58 Z Z Z hb108 Z) (Sl Z))), ?_⟩ ?_))
 refine Tg 58 Z Z Z hb108 Z ⟨(Sl Z), ?_⟩ ?_
 refine qt (Bv false) Z (Pf Z hb108 Z) (qt (Bv false) Z (Mv Z) (Tf 64 Z Z Z Z Z (Tf 64 Z Z Z Z Z (Tg 64 Z Z Z Z Z ⟨(Sl Z), ?_⟩ ?_))))
 refine Tf 64 Z Z Z Z Z (qt (Bv false) Z (Pf Z Z Z) (qt (Bv false) Z (Ag Z) (Ti ?_)))
 have h31:=h31.mono ((hle92.trans hle101).trans hle106)
 refine WQ.know (fun _ hs=>h31.rs hs) (fun hf134=> ?_)
 refine WQ.freeze (fun hle133=> ?_)
 refine Qa (Qa (WQ.f4 (WQ.f4 (WQ.f7 (WQ.f7 (WQ.f7 (WQ.f7 ?_)))))))
 obtain rfl:=oi h
 exact Tj ⟨(.slice (some ⟨g29,0,none⟩) 1 1),(L106.trans hle133),Z,Z,hf134⟩
 exact Tz
 exact Tz
 exact Tz
 exact Tz
 exact Tz
 refine Tf 53 Z Z Z hb97 Z (Tg 53 Z Z Z hb97 Z ⟨(Sl Z), ?_⟩ ?_)
 refine Tg 53 Z Z Z hb97 Z ⟨(Sl Z), ?_⟩ ?_
 refine qt (Bv false) Z (Pf Z hb97 Z) (qt (Bv false) Z (Mv Z) (Tf 58 Z Z Z Z Z (Tf 58 Z Z Z Z Z (Tg 58 Z Z Z Z Z ⟨(Sk 1 Z (St (Sf 58 Z Z Z Z Z) (Sl Z))), ?_⟩ ?_))))
 refine Tg 58 Z Z Z Z Z ⟨(Sl Z), ?_⟩ ?_
 refine qt (Bv false) Z (Pf Z Z Z) (qt (Bv false) Z (Mv Z) (Tf 64 Z Z Z Z Z (Tf 64 Z Z Z Z Z (Tg 64 Z Z Z Z Z ⟨(Sl Z), ?_⟩ ?_))))
 refine Tf 64 Z Z Z Z Z (qt (Bv false) Z (Pf Z Z Z) (qt (Bv false) Z (Ag Z) (Ti ?_)))
 have h31:=h31.mono hle92
 refine WQ.know (fun _ hs=>h31.rs hs) (fun hf136=> ?_)
 refine WQ.freeze (fun hle135=> ?_)
 refine Qa (Qa (WQ.f4 (WQ.f4 (WQ.f7 (WQ.f7 (WQ.f7 (WQ.f7 ?_)))))))
 obtain rfl:=oi h
 exact Tj ⟨(.slice (some ⟨g29,0,none⟩) 1 1),(L92.trans hle135),Z,Z,hf136⟩
 exact Tz
 exact Tz
 exact Tz
 exact Tz
 exact Tz
 exact Tz
 refine Tf 48 Z Z Z hb88 Z (Tg 48 Z Z Z hb88 Z ⟨(Sl Z), ?_⟩ ?_)
 refine Tf 48 Z Z Z hb88 Z (qt (Bv false) Z (Pf Z hb88 Z) (qt (Bv false) Z (Mv Z) (Tf 53 Z Z Z Z Z (Tg 53 Z Z Z Z Z ⟨(Sl Z), ?_⟩ ?_))))
 refine Tg 53 Z Z Z Z Z ⟨(Sl Z), ?_⟩ ?_
 refine qt (Bv false) Z (Pf Z Z Z) (qt (Bv false) Z (Mv Z) (Tf 58 Z Z Z Z Z (Tf 58 Z Z Z Z Z (Tg 58 Z Z Z Z Z ⟨(Sk 1 Z (St (Sf 58 Z Z Z Z Z) (Sl Z))), ?_⟩ ?_))))
 refine Tg 58 Z Z Z Z Z ⟨(Sl Z), ?_⟩ ?_
 refine qt (Bv false) Z (Pf Z Z Z) (qt (Bv false) Z (Mv Z) (Tf 64 Z Z Z Z Z (Tf 64 Z Z Z Z Z (Tg 64 Z Z Z Z Z ⟨(Sl Z), ?_⟩ ?_))))
 refine Tf 64 Z Z Z Z Z (qt (Bv false) Z (Pf Z Z Z) (qt (Bv false) Z (Ag Z) (Ti (Qb ?_))))
 have h31:=h31.mono L86
 refine WQ.know (fun _ hs=>h31.rs hs) (fun hf138=> ?_)
 refine WQ.freeze (fun hle137=> ?_)
 refine Qa (Qa (WQ.f4 (WQ.f4 (WQ.f7 (WQ.f7 (WQ.f7 (WQ.f7 ?_)))))))
 obtain rfl:=oi h
 exact Tj ⟨(.slice (some ⟨g29,0,none⟩) 1 1),(L86.trans hle137),Z,Z,hf138⟩
 exact Tz
 exact Tz
 exact Tz
 exact Tz
 exact Tz
 exact Tz
 exact Tz
 refine Tf 44 Z Z Z hb82 Z (Tg 44 Z Z Z hb82 Z ⟨(Sl Z), ?_⟩ ?_)
 refine qt (Bv false) Z (Pf Z hb82 Z) (qt (Bv false) Z (Mv Z) (Tf 48 Z Z Z Z Z (Tg 48 Z Z Z Z Z ⟨(Sl Z), ?_⟩ ?_)))
 refine Tf 48 Z Z Z Z Z (qt (Bv false) Z (Pf Z Z Z) (qt (Bv false) Z (Mv Z) (Tf 53 Z Z Z Z Z (Tg 53 Z Z Z Z Z ⟨(Sl Z), ?_⟩ ?_))))
 refine Tg 53 Z Z Z Z Z ⟨(Sl Z), ?_⟩ ?_
 refine qt (Bv false) Z (Pf Z Z Z) (qt (Bv false) Z (Mv Z) (Tf 58 Z Z Z Z Z (Tf 58 Z Z Z Z Z (Tg 58 Z Z Z Z Z ⟨(Sk 1 Z (St (Sf 58 Z Z Z Z Z) (Sl Z))), ?_⟩ ?_))))
 refine Tg 58 Z Z Z Z Z ⟨(Sl Z), ?_⟩ ?_
 refine qt (Bv false) Z (Pf Z Z Z) (qt (Bv false) Z (Mv Z) (Tf 64 Z Z Z Z Z (Tf 64 Z Z Z Z Z (Tg 64 Z Z Z Z Z ⟨(Sl Z), ?_⟩ ?_))))
 refine Tf 64 Z Z Z Z Z (qt (Bv false) Z (Pf Z Z Z) (qt (Bv false) Z (Ag Z) (Ti (Qb ?_))))
 have h31:=h31.mono hle71
 refine WQ.know (fun _ hs=>h31.rs hs) (fun hf140=> ?_)
 refine WQ.freeze (fun hle139=> ?_)
 refine Qa (Qa (WQ.f4 (WQ.f4 (WQ.f7 (WQ.f7 (WQ.f7 (WQ.f7 ?_)))))))
 obtain rfl:=oi h
 exact Tj ⟨(.slice (some ⟨g29,0,none⟩) 1 1),(hle71.trans hle139),Z,Z,hf140⟩
 exact Tz
 exact Tz
 exact Tz
 exact Tz
 exact Tz
 exact Tz
 exact Tz
 exact Tz
 refine Tf 39 Z Z Z hb67 Z (Tf 39 Z Z Z hb67 Z (Tg 39 Z Z Z hb67 Z ⟨(Sl Z), ?_⟩ ?_))
 refine qt (Bv false) Z (Pf Z hb67 Z) (qt (Bv false) Z (Mv Z) (Tf 44 Z Z Z Z Z (Tg 44 Z Z Z Z Z ⟨(Sl Z), ?_⟩ ?_)))
 refine qt (Bv false) Z (Pf Z Z Z) (qt (Bv false) Z (Mv Z) (Tf 48 Z Z Z Z Z (Tg 48 Z Z Z Z Z ⟨(Sl Z), ?_⟩ ?_)))
 refine Tf 48 Z Z Z Z Z (qt (Bv false) Z (Pf Z Z Z) (qt (Bv false) Z (Mv Z) (Tf 53 Z Z Z Z Z (Tg 53 Z Z Z Z Z ⟨(Sl Z), ?_⟩ ?_))))
 refine Tg 53 Z Z Z Z Z ⟨(Sl Z), ?_⟩ ?_
 refine qt (Bv false) Z (Pf Z Z Z) (qt (Bv false) Z (Mv Z) (Tf 58 Z Z Z Z Z (Tf 58 Z Z Z Z Z (Tg 58 Z Z Z Z Z ⟨(Sk 1 Z (St (Sf 58 Z Z Z Z Z) (Sl Z))), ?_⟩ ?_))))
 refine Tg 58 Z Z Z Z Z ⟨(Sl Z), ?_⟩ ?_
 refine qt (Bv false) Z (Pf Z Z Z) (qt (Bv false) Z (Mv Z) (Tf 64 Z Z Z Z Z (Tf 64 Z Z Z Z Z (Tg 64 Z Z Z Z Z ⟨(Sl Z), ?_⟩ ?_))))
 refine Tf 64 Z Z Z Z Z (qt (Bv false) Z (Pf Z Z Z) (qt (Bv false) Z (Ag Z) (Ti (WQ.f7 ?_))))
 have h31:=h31.mono L58
 refine WQ.know (fun _ hs=>h31.rs hs) (fun hf142=> ?_)
 refine WQ.freeze (fun hle141=> ?_)
 refine WQ.f5 (WQ.f5 (WQ.f4 (WQ.f4 (WQ.f7 (WQ.f7 (WQ.f7 (WQ.f7 ?_)))))))
 obtain rfl:=oi h
 exact Tj ⟨(.slice (some ⟨g29,0,none⟩) 1 1),hle141,Z,Z,hf142⟩
 exact Tz
 exact Tz
 exact Tz
 exact Tz
 exact Tz
 exact Tz
 exact Tz
 exact Tz
 refine Tf 35 Z Z Z hb66 Z (Tf 35 Z Z Z hb66 Z (qt (Bv false) Z (Pf Z hb66 Z) (qt (Bv false) Z (Mv Z) (Tf 39 Z Z Z Z Z (Tf 39 Z Z Z Z Z (Tg 39 Z Z Z Z Z ⟨(Sl Z), ?_⟩ ?_))))))
 refine qt (Bv false) Z (Pf Z Z Z) (qt (Bv false) Z (Mv Z) (Tf 44 Z Z Z Z Z (Tg 44 Z Z Z Z Z ⟨(Sl Z), ?_⟩ ?_)))
 refine qt (Bv false) Z (Pf Z Z Z) (qt (Bv false) Z (Mv Z) (Tf 48 Z Z Z Z Z (Tg 48 Z Z Z Z Z ⟨(Sl Z), ?_⟩ ?_)))
 refine Tf 48 Z Z Z Z Z (qt (Bv false) Z (Pf Z Z Z) (qt (Bv false) Z (Mv Z) (Tf 53 Z Z Z Z Z (Tg 53 Z Z Z Z Z ⟨(Sl Z), ?_⟩ ?_))))
 refine Tg 53 Z Z Z Z Z ⟨(Sl Z), ?_⟩ ?_
 refine qt (Bv false) Z (Pf Z Z Z) (qt (Bv false) Z (Mv Z) (Tf 58 Z Z Z Z Z (Tf 58 Z Z Z Z Z (Tg 58 Z Z Z Z Z ⟨(Sk 1 Z (St (Sf 58 Z Z Z Z Z) (Sl Z))), ?_⟩ ?_))))
 refine Tg 58 Z Z Z Z Z ⟨(Sl Z), ?_⟩ ?_
 refine qt (Bv false) Z (Pf Z Z Z) (qt (Bv false) Z (Mv Z) (Tf 64 Z Z Z Z Z (Tf 64 Z Z Z Z Z (Tg 64 Z Z Z Z Z ⟨(Sl Z), ?_⟩ ?_))))
 refine Tf 64 Z Z Z Z Z (qt (Bv false) Z (Pf Z Z Z) (qt (Bv false) Z (Ag Z) (Ti (WQ.f7 ?_))))
 have h31:=h31.mono L58
 refine WQ.know (fun _ hs=>h31.rs hs) (fun hf144=> ?_)
 refine WQ.freeze (fun hle143=> ?_)
 refine WQ.f5 (WQ.f5 (WQ.f4 (WQ.f4 (WQ.f7 (WQ.f7 (WQ.f7 (WQ.f7 ?_)))))))
 obtain rfl:=oi h
 exact Tj ⟨(.slice (some ⟨g29,0,none⟩) 1 1),hle143,Z,Z,hf144⟩
 exact Tz
 exact Tz
 exact Tz
 exact Tz
 exact Tz
 exact Tz
 exact Tz
 exact Tz
 refine Tf 30 Z Z Z hb65 Z (Tf 30 Z Z Z hb65 Z (Tf 30 Z Z Z hb65 Z (qt (Bv false) Z (Pf Z hb65 Z) (qt (Bv false) Z (Mv Z) (Tf 35 Z Z Z Z Z (Tf 35 Z Z Z Z Z (qt (Bv false) Z (Pf Z Z Z) (qt (Bv false) Z (Mv Z) (Tf 39 Z Z Z Z Z (Tf 39 Z Z Z Z Z (Tg 39 Z Z Z Z Z ⟨(Sl Z), ?_⟩ ?_)))))))))))
 refine qt (Bv false) Z (Pf Z Z Z) (qt (Bv false) Z (Mv Z) (Tf 44 Z Z Z Z Z (Tg 44 Z Z Z Z Z ⟨(Sl Z), ?_⟩ ?_)))
 refine qt (Bv false) Z (Pf Z Z Z) (qt (Bv false) Z (Mv Z) (Tf 48 Z Z Z Z Z (Tg 48 Z Z Z Z Z ⟨(Sl Z), ?_⟩ ?_)))
 refine Tf 48 Z Z Z Z Z (qt (Bv false) Z (Pf Z Z Z) (qt (Bv false) Z (Mv Z) (Tf 53 Z Z Z Z Z (Tg 53 Z Z Z Z Z ⟨(Sl Z), ?_⟩ ?_))))
 refine Tg 53 Z Z Z Z Z ⟨(Sl Z), ?_⟩ ?_
 refine qt (Bv false) Z (Pf Z Z Z) (qt (Bv false) Z (Mv Z) (Tf 58 Z Z Z Z Z (Tf 58 Z Z Z Z Z (Tg 58 Z Z Z Z Z ⟨(Sk 1 Z (St (Sf 58 Z Z Z Z Z) (Sl Z))), ?_⟩ ?_))))
 refine Tg 58 Z Z Z Z Z ⟨(Sl Z), ?_⟩ ?_
 refine qt (Bv false) Z (Pf Z Z Z) (qt (Bv false) Z (Mv Z) (Tf 64 Z Z Z Z Z (Tf 64 Z Z Z Z Z (Tg 64 Z Z Z Z Z ⟨(Sl Z), ?_⟩ ?_))))
 refine Tf 64 Z Z Z Z Z (qt (Bv false) Z (Pf Z Z Z) (qt (Bv false) Z (Ag Z) (Ti (WQ.f7 ?_))))
 have h31:=h31.mono L58
 refine WQ.know (fun _ hs=>h31.rs hs) (fun hf146=> ?_)
 refine WQ.freeze (fun hle145=> ?_)
 refine WQ.f5 (WQ.f5 (WQ.f4 (WQ.f4 (WQ.f7 (WQ.f7 (WQ.f7 (WQ.f7 ?_)))))))
 obtain rfl:=oi h
 exact Tj ⟨(.slice (some ⟨g29,0,none⟩) 1 1),hle145,Z,Z,hf146⟩
 exact Tz
 exact Tz
 exact Tz
 exact Tz
 exact Tz
 exact Tz
 exact Tz
 exact Tz
 obtain ⟨x62,x63⟩:=j64
 rintro ρ64 M64 H64 ⟨vx63,hle64,rfl,hs64_0,hx63⟩
 exact Cr (Dr (Dr (Dr (Dr (Dr (Dr (Dr (Dr (Rf h [] Z (Rs Z hs64_0) (((((hle27.trans hle37).trans hle44).trans hle50).trans hle58).trans hle64) ⟨Z,Z⟩)))))))))
noncomputable def f_ref07_no (a0:ByteArray) (a1:Int) (a2:Int):Option T_ref06_Wrong:=
 (some (⟨(⟨a0,a1,a2⟩:T_ref05_Wrong),(-1:Int)⟩:T_ref06_Wrong))
def f_ref07_no_post (a0:ByteArray) (a1:Int) (a2:Int):T_ref06_Wrong→Value→IM→HL→Prop:=
 fun(r0:T_ref06_Wrong) (v:Value) (M':IM) (H':HL)=>(.agg #[(.string r0.W.Op),(.int .i64 r0.W.At),(.int .i64 r0.W.Code),(.int .i64 r0.Record)])=v∧H'=[]
theorem f_ref07_no_ok (a0:ByteArray) (a1:Int) (a2:Int) (M:IM) (res:T_ref06_Wrong) (h:f_ref07_no a0 a1 a2=some res):
 Tri Tryz.prog 40 #[(Sv a0),(Iv a1),(Iv a2)] M [] (f_ref07_no_post a0 a1 a2 res):=by
 unfold f_ref07_no at h
 refine Te Tryz.func40 Z Z ?_
 intro F ρ hρ
 refine Sr (We (Al ze42 Z) Z ?_)
 rintro _ _ _ - ⟨rfl,g21,rfl,rfl⟩
 refine Ns (qM (Sv a0) (hρ 0) (qM (Iv a1) (hρ 1) (qM (Iv a2) (hρ 2) (qu (.agg #[(Sv a0),(Iv a1),(Iv a2)]) (Bl (cl:=[(Sv a0),(Iv a1),(Iv a2)]) ze40 fp40 (Pc (Sv a0) Z Z (Pc (Iv a1) Z Z (Pc (Iv a2) Z Z Pz))) Z) (qu (.agg #[(Sv a0),(Iv a1),(Iv a2),(Iv (-1:Int))]) (Bl (cl:=[(Sv a0),(Iv a1),(Iv a2),(Iv (-1:Int))]) ze42 fp42 (Pc (.agg #[(Sv a0),(Iv a1),(Iv a2)]) Z Z (Pc (Iv (-1:Int)) Z Z Pz)) Z) (We (Sg (v:=(.agg #[(Sv a0),(Iv a1),(Iv a2),(Iv (-1:Int))])) (vl:=[(Sv a0),(Iv a1),(Iv a2),(Iv (-1:Int))]) (arr':=[(Sv a0),(Iv a1),(Iv a2),(Iv (-1:Int))]) Z sz42 Z Z (onb Z) Z Z Z) Z ?_))))))
 rintro _ _ _ - ⟨rfl,rfl⟩
 exact Nt (Cr (Rd h [] (fun _ hs=>hs.drop) (resultsL1 Z (Rc (cs:=[(Sv a0),(Iv a1),(Iv a2),(Iv (-1:Int))]) 0 ag42 sz42 Z Z Z)) lr ⟨Z,Z⟩))
noncomputable def f_ref07_has_l0 (a1:Int) (x21:ByteArray) (s_:Int):Option (Int⊕(Unit⊕Unit)):=
 match s_ with
 |x35=>
 (if(decide (x35<(x21.size:Int)))=true then(grd (0≤x35∧x35<x21.size) (if(decide ((btAt x21 x35)=a1))=true then(some (Sum.inr (Sum.inr ())))else(some (Sum.inl (IntKind.i64.wrap (x35+(1:Int)))))))else(some (Sum.inr (Sum.inl ()))))
noncomputable def f_ref07_has (a0:Int) (a1:Int):Option Bool:=
 (((if(decide (a0=(1:Int)))=true then(some (⟨#[97,112]⟩:ByteArray))else(if(decide (a0=(2:Int)))=true then(some (⟨#[97,103,108]⟩:ByteArray))else(if(decide (a0=(3:Int)))=true then(some (⟨#[112]⟩:ByteArray))else(if(decide (a0=(4:Int)))=true then(some (⟨#[108,112,104,99,98]⟩:ByteArray))else(((if(decide (a0=(5:Int)))=true then(some (decide (a0=(5:Int))))else(some (decide (a0=(6:Int))))):Option Bool).bind fun x27=>(if x27=true then(some (⟨#[108]⟩:ByteArray))else(if(decide (a0=(7:Int)))=true then(some (⟨#[112,111]⟩:ByteArray))else(if(decide (a0=(8:Int)))=true then(some (⟨#[108,112,99,115,111,100]⟩:ByteArray))else(some (⟨#[]⟩:ByteArray)))))))))):Option ByteArray).bind fun x21=>((((iter (f_ref07_has_l0 a1 x21) (0:Int)).bind (Sum.elim (fun _=>(some (Sum.inl ()))) (fun _=>(((some true)).bind fun r=>some (Sum.inr r))))):Option (Unit⊕Bool)).bind (Sum.elim (fun _=>(some false)) some)))
def f_ref07_has_post (a0:Int) (a1:Int):Bool→Value→IM→HL→Prop:=
 fun(r0:Bool) (v:Value) (M':IM) (H':HL)=>(.bool r0)=v∧H'=[]
theorem f_ref07_has_ok (a0:Int) (a1:Int) (M:IM) (res:Bool) (h:f_ref07_has a0 a1=some res):
 Tri Tryz.prog 41 #[(Iv a0),(Yv a1)] M [] (f_ref07_has_post a0 a1 res):=by
 unfold f_ref07_has at h
 refine Te Tryz.func41 Z Z ?_
 intro F ρ hρ
 refine Sr (qa (Bv false) (Ns (qa (Sv ⟨#[]⟩) (Nt ?_))))
 obtain ⟨x21,hj22,h⟩:=bnd h
 refine Jf (fun(x21:ByteArray) ρ' M' H'=>M.le M'∧F=H'∧ρ' 1=(Yv a1)∧ρ' 5=(Sv x21)) x21 ?_ ?_
 have h:=hj22
 refine Sr (qM (Iv a0) (hρ 0) (Nt (Bk (Sr (qu (Bv (decide (a0=1))) (PO.eql Z Z) (qa (Bv (decide (a0=1))) (Nt (Ch h Z (fun hb23 h=> ?_) (fun hb23 h=> ?_)))))))))
 refine Cg (qa (Sv ⟨#[97,112]⟩) (Wz (Bn ?_)))
 obtain rfl:=oi h
 exact Tj ⟨lr,Z,(hρ 1),Z⟩
 refine Sr (qu (Bv (decide (a0=2))) (PO.eql Z Z) (qa (Bv (decide (a0=2))) (Nt (Ch h Z (fun hb24 h=> ?_) (fun hb24 h=> ?_)))))
 refine Cg (qa (Sv ⟨#[97,103,108]⟩) (Wz (Bn ?_)))
 obtain rfl:=oi h
 exact Tj ⟨lr,Z,(hρ 1),Z⟩
 refine Sr (qu (Bv (decide (a0=3))) (PO.eql Z Z) (qa (Bv (decide (a0=3))) (Nt (Ch h Z (fun hb25 h=> ?_) (fun hb25 h=> ?_)))))
 refine Cg (qa (Sv ⟨#[112]⟩) (Wz (Bn ?_)))
 obtain rfl:=oi h
 exact Tj ⟨lr,Z,(hρ 1),Z⟩
 refine Sr (qu (Bv (decide (a0=4))) (PO.eql Z Z) (qa (Bv (decide (a0=4))) (Nt (Ch h Z (fun hb26 h=> ?_) (fun hb26 h=> ?_)))))
 refine Cg (qa (Sv ⟨#[108,112,104,99,98]⟩) (Wz (Bn ?_)))
 obtain rfl:=oi h
 exact Tj ⟨lr,Z,(hρ 1),Z⟩
 obtain ⟨x27,hj28,h⟩:=bnd h
 refine Jf (fun(x27:Bool) ρ' M' H'=>M.le M'∧F=H'∧ρ' 1=(Yv a1)∧ρ' 5=(Sv ⟨#[]⟩)∧ρ' 7=(Iv a0)∧ρ' 16=(Bv x27)) x27 ?_ ?_
 have h:=hj28
 refine Sr (qu (Bv (decide (a0=5))) (PO.eql Z Z) (qa (Bv (decide (a0=5))) (Nt (Ch h Z (fun hb29 h=> ?_) (fun hb29 h=> ?_)))))
 refine Ck ?_
 obtain rfl:=oi h
 exact Tj ⟨lr,Z,(hρ 1),Z,Z,Z⟩
 refine Cg (qu (Bv (decide (a0=6))) (PO.eql Z Z) (qa (Bv (decide (a0=6))) (Wz ?_)))
 obtain rfl:=oi h
 exact Tj ⟨lr,Z,(hρ 1),Z,Z,Z⟩
 rintro ρ28 M28 H28 ⟨hle28,rfl,hs28_1,hs28_5,hs28_7,hs28_16⟩
 refine Ch h hs28_16 (fun hb30 h=> ?_) (fun hb30 h=> ?_)
 refine Cg (qa (Sv ⟨#[108]⟩) (Wz (Bn ?_)))
 obtain rfl:=oi h
 exact Tj ⟨hle28,Z,hs28_1,Z⟩
 refine Sr (qu (Bv (decide (a0=7))) (PO.eql hs28_7 Z) (qa (Bv (decide (a0=7))) (Nt (Ch h Z (fun hb31 h=> ?_) (fun hb31 h=> ?_)))))
 refine Cg (qa (Sv ⟨#[112,111]⟩) (Wz (Bn ?_)))
 obtain rfl:=oi h
 exact Tj ⟨hle28,Z,hs28_1,Z⟩
 refine Sr (qu (Bv (decide (a0=8))) (PO.eql hs28_7 Z) (qa (Bv (decide (a0=8))) (Nt (Ch h Z (fun hb32 h=> ?_) (fun hb32 h=> ?_)))))
 refine Cg (qa (Sv ⟨#[108,112,99,115,111,100]⟩) (Wz (Bn ?_)))
 obtain rfl:=oi h
 exact Tj ⟨hle28,Z,hs28_1,Z⟩
 refine Ck (Bn ?_)
 obtain rfl:=oi h
 exact Tj ⟨hle28,Z,hs28_1,hs28_5⟩
 rintro ρ22 M22 H22 ⟨hle22,rfl,hs22_1,hs22_5⟩
 obtain ⟨j33,hj33,h⟩:=bnd h
 refine WC.joinE (fun(_:Unit) ρ' M' H'=>M22.le M'∧F=H') j33 ?_ ?_
 have h333:=h
 have h:=hj33
 refine Sr (qa (Iv 0) (Nt (Bk ?_)))
 obtain ⟨e34,he34,hK34⟩:=bnd h
 clear h
 refine WC.loop he34 (fun(x35:Int) ρ' M' H'=>M22.le M'∧F=H'∧ρ' 1=(Yv a1)∧ρ' 5=(Sv x21)∧ρ' 6=(Iv x35)) ?_ ?_
 exact⟨lr,Z,hs22_1,hs22_5,Z⟩
 rintro x35 o34 ρ34 M34 H34 h ⟨hle34,rfl,hs34_1,hs34_5,hs34_6⟩
 unfold f_ref07_has_l0 at h
 refine Cs (Sr (qM (Iv x35) hs34_6 (qM (Sv x21) hs34_5 (qu (Iv (x21.size:Int)) (PO.lenStr Tryz.underlying9 Z) (qu (Bv (decide (x35<(x21.size:Int)))) (PO.lss Z Z) (Nt (Ch h Z (fun hb36 h=> ?_) (fun hb36 h=> ?_))))))))
 refine Ck (Tc (Cs (Bk (Sr (qM (Sv x21) hs34_5 (qM (Iv x35) hs34_6 ?_))))))
 obtain ⟨hg37,h⟩:=grd_i h
 refine qu (Yv (btAt x21 x35)) (PO.indexStr Tryz.underlying9 Z Z hg37.1 (strAt hg37)) (qM (Yv a1) hs34_1 (qu (Bv (decide ((btAt x21 x35)=a1))) (PO.eql Z Z) (Nt (Ch h Z (fun hb39 h=> ?_) (fun hb39 h=> ?_)))))
 refine Sr (qa (Bv true) (Nt (Cr (Br (Tr (WQ.leaveR (Sum.inr ()) (oi h).symm (fun heq34=> ?_)))))))
 subst heq34
 have h:=(elimR hK34)
 refine Br (Tr ?_)
 have h:=KK.early h h333
 exact Rf h [] Z (Rs Z Z) (hle22.trans hle34) ⟨Z,Z⟩
 exact Ck (Bn (Tc (Cg (qM (Iv x35) hs34_6 (qu (Iv (IntKind.i64.wrap (x35+1))) (PO.add Z Z) (qa (Iv (IntKind.i64.wrap (x35+1))) (Wz (WQ.again (IntKind.i64.wrap (x35+1)) (oi h).symm ⟨hle34,Z,hs34_1,hs34_5,Z⟩))))))))
 refine WC.exit (WQ.thenE (WQ.leaveE (Sum.inl ()) (oi h).symm (fun heq34=> ?_)))
 subst heq34
 have h:=elimL hK34
 exact WQ.blockH (WQ.thenFE h ⟨hle34,Z⟩)
 rintro _ ρ33 M33 H33 rfl ⟨hle33,rfl⟩
 have h:=(Sum.elim_inl _ _ _).symm.trans h
 exact Sr (qa (Bv false) (Nt (Cr (Rf h [] Z (Rs Z Z) (hle22.trans hle33) ⟨Z,Z⟩))))
noncomputable def f_ref07_num (a0:Int) (a1:Bool) (a2:Int):Option Bool:=
 (if a1=true then(((if(decide ((0:Int)≤a0))=true then(some (decide (a0≤a2)))else(some false)):Option Bool).bind fun x22=>(some x22))else(some (decide (a0=(0:Int)))))
def f_ref07_num_post (a0:Int) (a1:Bool) (a2:Int):Bool→Value→IM→HL→Prop:=
 fun(r0:Bool) (v:Value) (M':IM) (H':HL)=>(.bool r0)=v∧H'=[]
theorem f_ref07_num_ok (a0:Int) (a1:Bool) (a2:Int) (M:IM) (res:Bool) (h:f_ref07_num a0 a1 a2=some res):
 Tri Tryz.prog 42 #[(Iv a0),(Bv a1),(Iv a2)] M [] (f_ref07_num_post a0 a1 a2 res):=by
 unfold f_ref07_num at h
 refine Te Tryz.func42 Z Z ?_
 intro F ρ hρ
 refine Sr (qa (Bv false) (Nt (Cs (Sr (qM (Bv a1) (hρ 1) (Nt (Ch h Z (fun hb21 h=> ?_) (fun hb21 h=> ?_))))))))
 obtain ⟨x22,hj23,h⟩:=bnd h
 refine Jf (fun(x22:Bool) ρ' M' H'=>M.le M'∧F=H'∧ρ' 6=(Bv x22)) x22 ?_ ?_
 have h:=hj23
 refine Cg (qM (Iv a0) (hρ 0) (qu (Bv (decide ((0:Int)≤a0))) (PO.geq Z Z) (qm (Bv (decide ((0:Int)≤a0))) ?_)))
 rcases Bi h with⟨hb24,h⟩ |⟨hb24,h⟩
 refine On 10 Z Z hb24 (qM (Iv a0) (hρ 0) (On 10 Z Z hb24 (qM (Iv a2) (hρ 2) (qo 10 hb24 (Bv (decide (a0≤a2))) (PO.leq Z Z) (qu (Bv (decide (a0≤a2))) (Pt Z hb24 Z) (qa (Bv (decide (a0≤a2))) (Wz ?_)))))))
 obtain rfl:=oi h
 exact Tj ⟨lr,Z,Z⟩
 iterate 3 refine Of 10 Z Z hb24 Z ?_
 refine qu (Bv false) (Pf Z hb24 Z) (qa (Bv false) (Wz ?_))
 obtain rfl:=oi h
 exact Tj ⟨lr,Z,Z⟩
 rintro ρ23 M23 H23 ⟨hle23,rfl,hs23_6⟩
 exact Cr (Tr (Rf h [] Z (Rs Z hs23_6) hle23 ⟨Z,Z⟩))
 exact Ck (Tc (Sr (qM (Iv a0) (hρ 0) (qu (Bv (decide (a0=0))) (PO.eql Z Z) (qa (Bv (decide (a0=0))) (Nt (Cr (Rf h [] Z (Rs Z Z) lr ⟨Z,Z⟩))))))))
noncomputable def f_ref05_has_l0 (a1:Int) (x21:ByteArray) (s_:Int):Option (Int⊕(Unit⊕Unit)):=
 match s_ with
 |x38=>
 (if(decide (x38<(x21.size:Int)))=true then(grd (0≤x38∧x38<x21.size) (if(decide ((btAt x21 x38)=a1))=true then(some (Sum.inr (Sum.inr ())))else(some (Sum.inl (IntKind.i64.wrap (x38+(1:Int)))))))else(some (Sum.inr (Sum.inl ()))))
noncomputable def f_ref05_has (a0:Int) (a1:Int):Option Bool:=
 (((if(decide (a0=(2:Int)))=true then(some (⟨#[98,101,114]⟩:ByteArray))else(((if(decide (a0=(3:Int)))=true then(some (decide (a0=(3:Int))))else(if(decide (a0=(4:Int)))=true then(some (decide (a0=(4:Int))))else(if(decide (a0=(5:Int)))=true then(some (decide (a0=(5:Int))))else(some (decide (a0=(6:Int))))))):Option Bool).bind fun x24=>(if x24=true then(some (⟨#[98,101]⟩:ByteArray))else(if(decide (a0=(7:Int)))=true then(some (⟨#[116,110]⟩:ByteArray))else(if(decide (a0=(8:Int)))=true then(some (⟨#[116,112,108,105,109]⟩:ByteArray))else(if(decide (a0=(9:Int)))=true then(some (⟨#[116,101,112,108,105,109,120]⟩:ByteArray))else(if(decide (a0=(10:Int)))=true then(some (⟨#[116,107,118,102]⟩:ByteArray))else(if(decide (a0=(11:Int)))=true then(some (⟨#[116]⟩:ByteArray))else(if(decide (a0=(12:Int)))=true then(some (⟨#[97]⟩:ByteArray))else(some (⟨#[]⟩:ByteArray))))))))))):Option ByteArray).bind fun x21=>((((iter (f_ref05_has_l0 a1 x21) (0:Int)).bind (Sum.elim (fun _=>(some (Sum.inl ()))) (fun _=>(((some true)).bind fun r=>some (Sum.inr r))))):Option (Unit⊕Bool)).bind (Sum.elim (fun _=>(some false)) some)))
def f_ref05_has_post (a0:Int) (a1:Int):Bool→Value→IM→HL→Prop:=
 fun(r0:Bool) (v:Value) (M':IM) (H':HL)=>(.bool r0)=v∧H'=[]
theorem f_ref05_has_ok (a0:Int) (a1:Int) (M:IM) (res:Bool) (h:f_ref05_has a0 a1=some res):
 Tri Tryz.prog 105 #[(Iv a0),(Yv a1)] M [] (f_ref05_has_post a0 a1 res):=by
 unfold f_ref05_has at h
 refine Te Tryz.func105 Z Z ?_
 intro F ρ hρ
 refine Sr (qa (Bv false) (Ns (qa (Sv ⟨#[]⟩) (Nt ?_))))
 obtain ⟨x21,hj22,h⟩:=bnd h
 refine Jf (fun(x21:ByteArray) ρ' M' H'=>M.le M'∧F=H'∧ρ' 1=(Yv a1)∧ρ' 5=(Sv x21)) x21 ?_ ?_
 have h:=hj22
 refine Sr (qM (Iv a0) (hρ 0) (Nt (Bk (Sr (qu (Bv (decide (a0=2))) (PO.eql Z Z) (qa (Bv (decide (a0=2))) (Nt (Ch h Z (fun hb23 h=> ?_) (fun hb23 h=> ?_)))))))))
 refine Cg (qa (Sv ⟨#[98,101,114]⟩) (Wz (Bn ?_)))
 obtain rfl:=oi h
 exact Tj ⟨lr,Z,(hρ 1),Z⟩
 obtain ⟨x24,hj25,h⟩:=bnd h
 refine Jf (fun(x24:Bool) ρ' M' H'=>M.le M'∧F=H'∧ρ' 1=(Yv a1)∧ρ' 5=(Sv ⟨#[]⟩)∧ρ' 7=(Iv a0)∧ρ' 10=(Bv x24)) x24 ?_ ?_
 have h:=hj25
 refine Sr (qu (Bv (decide (a0=3))) (PO.eql Z Z) (qa (Bv (decide (a0=3))) (Nt (Ch h Z (fun hb26 h=> ?_) (fun hb26 h=> ?_)))))
 refine Ck ?_
 obtain rfl:=oi h
 exact Tj ⟨lr,Z,(hρ 1),Z,Z,Z⟩
 refine Sr (qu (Bv (decide (a0=4))) (PO.eql Z Z) (qa (Bv (decide (a0=4))) (Nt (Ch h Z (fun hb27 h=> ?_) (fun hb27 h=> ?_)))))
 refine Ck ?_
 obtain rfl:=oi h
 exact Tj ⟨lr,Z,(hρ 1),Z,Z,Z⟩
 refine Sr (qu (Bv (decide (a0=5))) (PO.eql Z Z) (qa (Bv (decide (a0=5))) (Nt (Ch h Z (fun hb28 h=> ?_) (fun hb28 h=> ?_)))))
 refine Ck ?_
 obtain rfl:=oi h
 exact Tj ⟨lr,Z,(hρ 1),Z,Z,Z⟩
 refine Cg (qu (Bv (decide (a0=6))) (PO.eql Z Z) (qa (Bv (decide (a0=6))) (Wz ?_)))
 obtain rfl:=oi h
 exact Tj ⟨lr,Z,(hρ 1),Z,Z,Z⟩
 rintro ρ25 M25 H25 ⟨hle25,rfl,hs25_1,hs25_5,hs25_7,hs25_10⟩
 refine Ch h hs25_10 (fun hb29 h=> ?_) (fun hb29 h=> ?_)
 refine Cg (qa (Sv ⟨#[98,101]⟩) (Wz (Bn ?_)))
 obtain rfl:=oi h
 exact Tj ⟨hle25,Z,hs25_1,Z⟩
 refine Sr (qu (Bv (decide (a0=7))) (PO.eql hs25_7 Z) (qa (Bv (decide (a0=7))) (Nt (Ch h Z (fun hb30 h=> ?_) (fun hb30 h=> ?_)))))
 refine Cg (qa (Sv ⟨#[116,110]⟩) (Wz (Bn ?_)))
 obtain rfl:=oi h
 exact Tj ⟨hle25,Z,hs25_1,Z⟩
 refine Sr (qu (Bv (decide (a0=8))) (PO.eql hs25_7 Z) (qa (Bv (decide (a0=8))) (Nt (Ch h Z (fun hb31 h=> ?_) (fun hb31 h=> ?_)))))
 refine Cg (qa (Sv ⟨#[116,112,108,105,109]⟩) (Wz (Bn ?_)))
 obtain rfl:=oi h
 exact Tj ⟨hle25,Z,hs25_1,Z⟩
 refine Sr (qu (Bv (decide (a0=9))) (PO.eql hs25_7 Z) (qa (Bv (decide (a0=9))) (Nt (Ch h Z (fun hb32 h=> ?_) (fun hb32 h=> ?_)))))
 refine Cg (qa (Sv ⟨#[116,101,112,108,105,109,120]⟩) (Wz (Bn ?_)))
 obtain rfl:=oi h
 exact Tj ⟨hle25,Z,hs25_1,Z⟩
 refine Sr (qu (Bv (decide (a0=10))) (PO.eql hs25_7 Z) (qa (Bv (decide (a0=10))) (Nt (Ch h Z (fun hb33 h=> ?_) (fun hb33 h=> ?_)))))
 refine Cg (qa (Sv ⟨#[116,107,118,102]⟩) (Wz (Bn ?_)))
 obtain rfl:=oi h
 exact Tj ⟨hle25,Z,hs25_1,Z⟩
 refine Sr (qu (Bv (decide (a0=11))) (PO.eql hs25_7 Z) (qa (Bv (decide (a0=11))) (Nt (Ch h Z (fun hb34 h=> ?_) (fun hb34 h=> ?_)))))
 refine Cg (qa (Sv ⟨#[116]⟩) (Wz (Bn ?_)))
 obtain rfl:=oi h
 exact Tj ⟨hle25,Z,hs25_1,Z⟩
 refine Sr (qu (Bv (decide (a0=12))) (PO.eql hs25_7 Z) (qa (Bv (decide (a0=12))) (Nt (Ch h Z (fun hb35 h=> ?_) (fun hb35 h=> ?_)))))
 refine Cg (qa (Sv ⟨#[97]⟩) (Wz (Bn ?_)))
 obtain rfl:=oi h
 exact Tj ⟨hle25,Z,hs25_1,Z⟩
 refine Ck (Bn ?_)
 obtain rfl:=oi h
 exact Tj ⟨hle25,Z,hs25_1,hs25_5⟩
 rintro ρ22 M22 H22 ⟨hle22,rfl,hs22_1,hs22_5⟩
 obtain ⟨j36,hj36,h⟩:=bnd h
 refine WC.joinE (fun(_:Unit) ρ' M' H'=>M22.le M'∧F=H') j36 ?_ ?_
 have h336:=h
 have h:=hj36
 refine Sr (qa (Iv 0) (Nt (Bk ?_)))
 obtain ⟨e37,he37,hK37⟩:=bnd h
 clear h
 refine WC.loop he37 (fun(x38:Int) ρ' M' H'=>M22.le M'∧F=H'∧ρ' 1=(Yv a1)∧ρ' 5=(Sv x21)∧ρ' 6=(Iv x38)) ?_ ?_
 exact⟨lr,Z,hs22_1,hs22_5,Z⟩
 rintro x38 o37 ρ37 M37 H37 h ⟨hle37,rfl,hs37_1,hs37_5,hs37_6⟩
 unfold f_ref05_has_l0 at h
 refine Cs (Sr (qM (Iv x38) hs37_6 (qM (Sv x21) hs37_5 (qu (Iv (x21.size:Int)) (PO.lenStr Tryz.underlying9 Z) (qu (Bv (decide (x38<(x21.size:Int)))) (PO.lss Z Z) (Nt (Ch h Z (fun hb39 h=> ?_) (fun hb39 h=> ?_))))))))
 refine Ck (Tc (Cs (Bk (Sr (qM (Sv x21) hs37_5 (qM (Iv x38) hs37_6 ?_))))))
 obtain ⟨hg40,h⟩:=grd_i h
 refine qu (Yv (btAt x21 x38)) (PO.indexStr Tryz.underlying9 Z Z hg40.1 (strAt hg40)) (qM (Yv a1) hs37_1 (qu (Bv (decide ((btAt x21 x38)=a1))) (PO.eql Z Z) (Nt (Ch h Z (fun hb42 h=> ?_) (fun hb42 h=> ?_)))))
 refine Sr (qa (Bv true) (Nt (Cr (Br (Tr (WQ.leaveR (Sum.inr ()) (oi h).symm (fun heq37=> ?_)))))))
 subst heq37
 have h:=(elimR hK37)
 refine Br (Tr ?_)
 have h:=KK.early h h336
 exact Rf h [] Z (Rs Z Z) (hle22.trans hle37) ⟨Z,Z⟩
 exact Ck (Bn (Tc (Cg (qM (Iv x38) hs37_6 (qu (Iv (IntKind.i64.wrap (x38+1))) (PO.add Z Z) (qa (Iv (IntKind.i64.wrap (x38+1))) (Wz (WQ.again (IntKind.i64.wrap (x38+1)) (oi h).symm ⟨hle37,Z,hs37_1,hs37_5,Z⟩))))))))
 refine WC.exit (WQ.thenE (WQ.leaveE (Sum.inl ()) (oi h).symm (fun heq37=> ?_)))
 subst heq37
 have h:=elimL hK37
 exact WQ.blockH (WQ.thenFE h ⟨hle37,Z⟩)
 rintro _ ρ36 M36 H36 rfl ⟨hle36,rfl⟩
 have h:=(Sum.elim_inl _ _ _).symm.trans h
 exact Sr (qa (Bv false) (Nt (Cr (Rf h [] Z (Rs Z Z) (hle22.trans hle36) ⟨Z,Z⟩))))
noncomputable def f_ref05_num (a0:Int) (a1:Bool) (a2:Int) (a3:Int):Option Bool:=
 (if a1=true then(((if(decide (a2≤a0))=true then(some (decide (a0≤a3)))else(some false)):Option Bool).bind fun x22=>(some x22))else(some (decide (a0=(0:Int)))))
def f_ref05_num_post (a0:Int) (a1:Bool) (a2:Int) (a3:Int):Bool→Value→IM→HL→Prop:=
 fun(r0:Bool) (v:Value) (M':IM) (H':HL)=>(.bool r0)=v∧H'=[]
theorem f_ref05_num_ok (a0:Int) (a1:Bool) (a2:Int) (a3:Int) (M:IM) (res:Bool) (h:f_ref05_num a0 a1 a2 a3=some res):
 Tri Tryz.prog 134 #[(Iv a0),(Bv a1),(Iv a2),(Iv a3)] M [] (f_ref05_num_post a0 a1 a2 a3 res):=by
 unfold f_ref05_num at h
 refine Te Tryz.func134 Z Z ?_
 intro F ρ hρ
 refine Sr (qa (Bv false) (Nt (Cs (Sr (qM (Bv a1) (hρ 1) (Nt (Ch h Z (fun hb21 h=> ?_) (fun hb21 h=> ?_))))))))
 obtain ⟨x22,hj23,h⟩:=bnd h
 refine Jf (fun(x22:Bool) ρ' M' H'=>M.le M'∧F=H'∧ρ' 8=(Bv x22)) x22 ?_ ?_
 have h:=hj23
 refine Cg (qM (Iv a0) (hρ 0) (qM (Iv a2) (hρ 2) (qu (Bv (decide (a2≤a0))) (PO.geq Z Z) (qm (Bv (decide (a2≤a0))) ?_))))
 rcases Bi h with⟨hb24,h⟩ |⟨hb24,h⟩
 refine On 13 Z Z hb24 (qM (Iv a0) (hρ 0) (On 13 Z Z hb24 (qM (Iv a3) (hρ 3) (qo 13 hb24 (Bv (decide (a0≤a3))) (PO.leq Z Z) (qu (Bv (decide (a0≤a3))) (Pt Z hb24 Z) (qa (Bv (decide (a0≤a3))) (Wz ?_)))))))
 obtain rfl:=oi h
 exact Tj ⟨lr,Z,Z⟩
 iterate 3 refine Of 13 Z Z hb24 Z ?_
 refine qu (Bv false) (Pf Z hb24 Z) (qa (Bv false) (Wz ?_))
 obtain rfl:=oi h
 exact Tj ⟨lr,Z,Z⟩
 rintro ρ23 M23 H23 ⟨hle23,rfl,hs23_8⟩
 exact Cr (Tr (Rf h [] Z (Rs Z hs23_8) hle23 ⟨Z,Z⟩))
 exact Ck (Tc (Sr (qM (Iv a0) (hρ 0) (qu (Bv (decide (a0=0))) (PO.eql Z Z) (qa (Bv (decide (a0=0))) (Nt (Cr (Rf h [] Z (Rs Z Z) lr ⟨Z,Z⟩))))))))

end Go.Proofs.YtkflneabcannnaaGreatDoor.G
