/- Go functions: what they come to, and that they do. Printed by a program of the session (gen). -/
import Derived.Test.YtkflneabcannnaaGreatDoorPF
import Derived.Test.YtkflneabcannnaaGreatDoorKConv
import Derived.Test.YtkflneabcannnaaGreatDoorKShar2
import Derived.Test.YtkflneabcannnaaGreatDoorKTight2
set_option linter.unusedVariables false
set_option linter.unusedSimpArgs false
set_option maxHeartbeats 8000000
set_option maxRecDepth 100000
namespace Go.Proofs.YtkflneabcannnaaGreatDoor.G
open Go Go.KK

noncomputable def f_ref05_Short (a0:T_api_Record):Option Bool:=
 (((if(decide ((a0.Name.size:Int)≤(400:Int)))=true then(if(decide ((a0.Key.size:Int)≤(400:Int)))=true then(if(decide ((a0.Value.size:Int)≤(400:Int)))=true then(some (decide ((a0.Rack.size:Int)≤(400:Int))))else(some false))else(some false))else(some false)):Option Bool).bind fun x22=>(((if x22=true then(if(decide ((a0.Ids.length:Int)≤(60:Int)))=true then(if(decide ((a0.Isr.length:Int)≤(60:Int)))=true then(if(decide ((a0.Add.length:Int)≤(60:Int)))=true then(some (decide ((a0.Drop.length:Int)≤(60:Int))))else(some false))else(some false))else(some false))else(some false)):Option Bool).bind fun x27=>(some x27)))
def f_ref05_Short_post (a0:T_api_Record) (v0_14 v0_15 v0_16 v0_17:Value):Bool→Value→IM→HL→Prop:=
 fun(r0:Bool) (v:Value) (M':IM) (H':HL)=>(.bool r0)=v∧H'=[]
theorem f_ref05_Short_ok (a0:T_api_Record) (M:IM) (v0_14 v0_15 v0_16 v0_17:Value) (h0_14:RS (Kd.int .i64) M v0_14 a0.Ids) (h0_15:RS (Kd.int .i64) M v0_15 a0.Isr) (h0_16:RS (Kd.int .i64) M v0_16 a0.Add) (h0_17:RS (Kd.int .i64) M v0_17 a0.Drop) (res:Bool) (h:f_ref05_Short a0=some res):
 Tri Tryz.prog 64 #[(a58_ a0 v0_14 v0_15 v0_16 v0_17)] M [] (f_ref05_Short_post a0 v0_14 v0_15 v0_16 v0_17 res):=by
 unfold f_ref05_Short at h
 refine Te Tryz.func64 Z Z ?_
 intro F ρ hρ
 refine Sr (We (EO.box (cs:=(l58 a0 v0_14 v0_15 v0_16 v0_17).toArray) (congrArg Value.cells (asE (a58_ a0 v0_14 v0_15 v0_16 v0_17) (hρ 0)))) Z ?_)
 rintro _ _ _ - ⟨rfl,g21,rfl,rfl⟩
 refine qa (Bv false) (Nt ?_)
 obtain ⟨x22,hj23,h⟩:=bnd h
 refine Jf (fun(x22:Bool) ρ' M' H'=>M.le M'∧[(g21, .cells (l58 a0 v0_14 v0_15 v0_16 v0_17).toArray 58 (0,0))]::F=H'∧ρ' 1=(pt g21 0)∧ρ' 3=(Bv x22)) x22 ?_ ?_
 have h:=hj23
 refine Cg (qu (pt g21 10) (Fa fo58_10 Z Z) (qu (Sv a0.Name) (Lb 0 pl9 Z Z Z) (qu (Iv (a0.Name.size:Int)) (PO.lenStr Tryz.underlying9 Z) (qu (Bv (decide ((a0.Name.size:Int)≤(400:Int)))) (PO.leq Z Z) (qm (Bv (decide ((a0.Name.size:Int)≤(400:Int)))) ?_)))))
 rcases Bi h with⟨hb24,h⟩ |⟨hb24,h⟩
 refine qo 8 hb24 (pt g21 11) (Fa fo58_11 Z Z) (qo 8 hb24 (Sv a0.Key) (Lb 0 pl9 Z Z Z) (qo 8 hb24 (Iv (a0.Key.size:Int)) (PO.lenStr Tryz.underlying9 Z) (qo 8 hb24 (Bv (decide ((a0.Key.size:Int)≤(400:Int)))) (PO.leq Z Z) (qu (Bv (decide ((a0.Key.size:Int)≤(400:Int)))) (Pt Z hb24 Z) (qm (Bv (decide ((a0.Key.size:Int)≤(400:Int)))) ?_)))))
 rcases Bi h with⟨hb25,h⟩ |⟨hb25,h⟩
 refine qo 14 hb25 (pt g21 12) (Fa fo58_12 Z Z) (qo 14 hb25 (Sv a0.Value) (Lb 0 pl9 Z Z Z) (qo 14 hb25 (Iv (a0.Value.size:Int)) (PO.lenStr Tryz.underlying9 Z) (qo 14 hb25 (Bv (decide ((a0.Value.size:Int)≤(400:Int)))) (PO.leq Z Z) (qu (Bv (decide ((a0.Value.size:Int)≤(400:Int)))) (Pt Z hb25 Z) (qm (Bv (decide ((a0.Value.size:Int)≤(400:Int)))) ?_)))))
 rcases Bi h with⟨hb26,h⟩ |⟨hb26,h⟩
 refine qo 20 hb26 (pt g21 13) (Fa fo58_13 Z Z) (qo 20 hb26 (Sv a0.Rack) (Lb 0 pl9 Z Z Z) (qo 20 hb26 (Iv (a0.Rack.size:Int)) (PO.lenStr Tryz.underlying9 Z) (qo 20 hb26 (Bv (decide ((a0.Rack.size:Int)≤(400:Int)))) (PO.leq Z Z) (qu (Bv (decide ((a0.Rack.size:Int)≤(400:Int)))) (Pt Z hb26 Z) (qa (Bv (decide ((a0.Rack.size:Int)≤(400:Int)))) (Wz ?_))))))
 obtain rfl:=oi h
 exact Tj ⟨lr,Z,Z,Z⟩
 iterate 4 refine Of 20 Z Z hb26 Z ?_
 refine qu (Bv false) (Pf Z hb26 Z) (qa (Bv false) (Wz ?_))
 obtain rfl:=oi h
 exact Tj ⟨lr,Z,Z,Z⟩
 iterate 4 refine Of 14 Z Z hb25 Z ?_
 refine qu (Bv false) (Pf Z hb25 Z) (qm (Bv false) ?_)
 iterate 4 refine Of 20 Z Z Z Z ?_
 refine qu (Bv false) (Pf Z Z Z) (qa (Bv false) (Wz ?_))
 obtain rfl:=oi h
 exact Tj ⟨lr,Z,Z,Z⟩
 iterate 4 refine Of 8 Z Z hb24 Z ?_
 refine qu (Bv false) (Pf Z hb24 Z) (qm (Bv false) ?_)
 iterate 4 refine Of 14 Z Z Z Z ?_
 refine qu (Bv false) (Pf Z Z Z) (qm (Bv false) ?_)
 iterate 4 refine Of 20 Z Z Z Z ?_
 refine qu (Bv false) (Pf Z Z Z) (qa (Bv false) (Wz ?_))
 obtain rfl:=oi h
 exact Tj ⟨lr,Z,Z,Z⟩
 rintro ρ23 M23 H23 ⟨hle23,rfl,hs23_1,hs23_3⟩
 obtain ⟨x27,hj28,h⟩:=bnd h
 refine Jf (fun(x27:Bool) ρ' M' H'=>M23.le M'∧[(g21, .cells (l58 a0 v0_14 v0_15 v0_16 v0_17).toArray 58 (0,0))]::F=H'∧ρ' 2=(Bv x27)) x27 ?_ ?_
 have h:=hj28
 refine Cg (qM (Bv x22) hs23_3 (qm (Bv x22) ?_))
 rcases Bi h with⟨hb29,h⟩ |⟨hb29,h⟩
 refine qo 27 hb29 (pt g21 14) (Fa fo58_14 hs23_1 Z) (qo 27 hb29 v0_14 (Lb 0 pl56 Z Z Z) (On 27 Z Z hb29 ?_))
 have h0_14:=h0_14.mono hle23
 refine qu (Iv (a0.Ids.length:Int)) (PO.lenS Tryz.underlying56 Z h0_14.len) (qo 27 hb29 (Bv (decide ((a0.Ids.length:Int)≤(60:Int)))) (PO.leq Z Z) (qu (Bv (decide ((a0.Ids.length:Int)≤(60:Int)))) (Pt Z hb29 Z) (qm (Bv (decide ((a0.Ids.length:Int)≤(60:Int)))) ?_)))
 rcases Bi h with⟨hb30,h⟩ |⟨hb30,h⟩
 refine qo 33 hb30 (pt g21 15) (Fa fo58_15 hs23_1 Z) (qo 33 hb30 v0_15 (Lb 0 pl56 Z Z Z) (On 33 Z Z hb30 ?_))
 have h0_15:=h0_15.mono hle23
 refine qu (Iv (a0.Isr.length:Int)) (PO.lenS Tryz.underlying56 Z h0_15.len) (qo 33 hb30 (Bv (decide ((a0.Isr.length:Int)≤(60:Int)))) (PO.leq Z Z) (qu (Bv (decide ((a0.Isr.length:Int)≤(60:Int)))) (Pt Z hb30 Z) (qm (Bv (decide ((a0.Isr.length:Int)≤(60:Int)))) ?_)))
 rcases Bi h with⟨hb31,h⟩ |⟨hb31,h⟩
 refine qo 39 hb31 (pt g21 16) (Fa fo58_16 hs23_1 Z) (qo 39 hb31 v0_16 (Lb 0 pl56 Z Z Z) (On 39 Z Z hb31 ?_))
 have h0_16:=h0_16.mono hle23
 refine qu (Iv (a0.Add.length:Int)) (PO.lenS Tryz.underlying56 Z h0_16.len) (qo 39 hb31 (Bv (decide ((a0.Add.length:Int)≤(60:Int)))) (PO.leq Z Z) (qu (Bv (decide ((a0.Add.length:Int)≤(60:Int)))) (Pt Z hb31 Z) (qm (Bv (decide ((a0.Add.length:Int)≤(60:Int)))) ?_)))
 rcases Bi h with⟨hb32,h⟩ |⟨hb32,h⟩
 refine qo 45 hb32 (pt g21 17) (Fa fo58_17 hs23_1 Z) (qo 45 hb32 v0_17 (Lb 0 pl56 Z Z Z) (On 45 Z Z hb32 ?_))
 have h0_17:=h0_17.mono hle23
 refine qu (Iv (a0.Drop.length:Int)) (PO.lenS Tryz.underlying56 Z h0_17.len) (qo 45 hb32 (Bv (decide ((a0.Drop.length:Int)≤(60:Int)))) (PO.leq Z Z) (qu (Bv (decide ((a0.Drop.length:Int)≤(60:Int)))) (Pt Z hb32 Z) (qa (Bv (decide ((a0.Drop.length:Int)≤(60:Int)))) (Wz ?_))))
 obtain rfl:=oi h
 exact Tj ⟨lr,Z,Z⟩
 iterate 4 refine Of 45 Z Z hb32 Z ?_
 refine qu (Bv false) (Pf Z hb32 Z) (qa (Bv false) (Wz ?_))
 obtain rfl:=oi h
 exact Tj ⟨lr,Z,Z⟩
 iterate 4 refine Of 39 Z Z hb31 Z ?_
 refine qu (Bv false) (Pf Z hb31 Z) (qm (Bv false) ?_)
 iterate 4 refine Of 45 Z Z Z Z ?_
 refine qu (Bv false) (Pf Z Z Z) (qa (Bv false) (Wz ?_))
 obtain rfl:=oi h
 exact Tj ⟨lr,Z,Z⟩
 iterate 4 refine Of 33 Z Z hb30 Z ?_
 refine qu (Bv false) (Pf Z hb30 Z) (qm (Bv false) ?_)
 iterate 4 refine Of 39 Z Z Z Z ?_
 refine qu (Bv false) (Pf Z Z Z) (qm (Bv false) ?_)
 iterate 4 refine Of 45 Z Z Z Z ?_
 refine qu (Bv false) (Pf Z Z Z) (qa (Bv false) (Wz ?_))
 obtain rfl:=oi h
 exact Tj ⟨lr,Z,Z⟩
 iterate 4 refine Of 27 Z Z hb29 Z ?_
 refine qu (Bv false) (Pf Z hb29 Z) (qm (Bv false) ?_)
 iterate 4 refine Of 33 Z Z Z Z ?_
 refine qu (Bv false) (Pf Z Z Z) (qm (Bv false) ?_)
 iterate 4 refine Of 39 Z Z Z Z ?_
 refine qu (Bv false) (Pf Z Z Z) (qm (Bv false) ?_)
 iterate 4 refine Of 45 Z Z Z Z ?_
 refine qu (Bv false) (Pf Z Z Z) (qa (Bv false) (Wz ?_))
 obtain rfl:=oi h
 exact Tj ⟨lr,Z,Z⟩
 rintro ρ28 M28 H28 ⟨hle28,rfl,hs28_2⟩
 exact Cr (Dr (Rf h [] Z (Rs Z hs28_2) (hle23.trans hle28) ⟨Z,Z⟩))
noncomputable def f_ref06_Short_l0 (a0:(List T_api_Record)) (s_:Int):Option (Int⊕(Unit⊕Unit)):=
 match s_ with
 |x24=>
 (if(decide (x24<(a0.length:Int)))=true then(grd (0≤x24∧x24<a0.length) ((f_ref05_Short (rd a0 x24)).bind fun r33=>(if(!r33)=true then(some (Sum.inr (Sum.inr ())))else(some (Sum.inl (IntKind.i64.wrap (x24+(1:Int))))))))else(some (Sum.inr (Sum.inl ()))))
noncomputable def f_ref06_Short (a0:(List T_api_Record)):Option Bool:=
 (if(decide ((80:Int)<(a0.length:Int)))=true then(some false)else((((iter (f_ref06_Short_l0 a0) (0:Int)).bind (Sum.elim (fun _=>(some (Sum.inl ()))) (fun _=>(((some false)).bind fun r=>some (Sum.inr r))))):Option (Unit⊕Bool)).bind (Sum.elim (fun _=>(some true)) some)))
def f_ref06_Short_post (a0:(List T_api_Record)) (v0:Value):Bool→Value→IM→HL→Prop:=
 fun(r0:Bool) (v:Value) (M':IM) (H':HL)=>(.bool r0)=v∧H'=[]
theorem f_ref06_Short_ok (a0:(List T_api_Record)) (M:IM) (v0:Value) (h0:RS kd_api_Record M v0 a0) (res:Bool) (h:f_ref06_Short a0=some res):
 Tri Tryz.prog 21 #[v0] M [] (f_ref06_Short_post a0 v0 res):=by
 unfold f_ref06_Short at h
 refine Te Tryz.func21 Z Z ?_
 intro F ρ hρ
 refine Sr (qa (Bv false) (Nt (Cs (Sr (qM v0 (hρ 0) (qu (Iv (a0.length:Int)) (PO.lenS Tryz.underlying53 Z h0.len) (qu (Bv (decide ((80:Int)<(a0.length:Int)))) (PO.gtr Z Z) (Nt (Ch h Z (fun hb21 h=> ?_) (fun hb21 h=> ?_))))))))))
 exact Sr (qa (Bv false) (Nt (Cr (Tr (Rf h [] Z (Rs Z Z) lr ⟨Z,Z⟩)))))
 refine Ck (Tc ?_)
 obtain ⟨j22,hj22,h⟩:=bnd h
 refine WC.joinE (fun(_:Unit) ρ' M' H'=>M.le M'∧F=H') j22 ?_ ?_
 have h322:=h
 have h:=hj22
 refine Sr (qa (Iv 0) (Nt (Bk ?_)))
 obtain ⟨e23,he23,hK23⟩:=bnd h
 clear h
 refine WC.loop he23 (fun(x24:Int) ρ' M' H'=>M.le M'∧F=H'∧ρ' 0=v0∧ρ' 3=(Iv x24)) ?_ ?_
 exact⟨lr,Z,(hρ 0),Z⟩
 rintro x24 o23 ρ23 M23 H23 h ⟨hle23,rfl,hs23_0,hs23_3⟩
 unfold f_ref06_Short_l0 at h
 refine Cs (Sr (qM (Iv x24) hs23_3 (qM v0 hs23_0 ?_)))
 have h0:=h0.mono hle23
 refine qu (Iv (a0.length:Int)) (PO.lenS Tryz.underlying53 Z h0.len) (qu (Bv (decide (x24<(a0.length:Int)))) (PO.lss Z Z) (Nt (Ch h Z (fun hb25 h=> ?_) (fun hb25 h=> ?_))))
 refine Ck (Tc (Cs (Bk (Sr (qM v0 hs23_0 (qM (Iv x24) hs23_3 ?_))))))
 obtain ⟨hg26,h⟩:=grd_i h
 obtain ⟨p27,cs28,hat29,hrc30,hhas31⟩:=h0.at hg26.1 hg26.2 (by decide)
 obtain ⟨vw32_14,vw32_15,vw32_16,vw32_17,rfl,hw32_14,hw32_15,hw32_16,hw32_17⟩:=kd_api_Record_open hrc30
 refine qu (.pointer (some p27)) (PO.indexAddr (n:=a0.length) Tryz.underlying53 sz58 Z Z hg26.1 hg26.2 hat29) (qu (a58_ (rd a0 x24) vw32_14 vw32_15 vw32_16 vw32_17) (PO.loadMA (cs:=(l58 (rd a0 x24) vw32_14 vw32_15 vw32_16 vw32_17)) ag58 sz58 Z hhas31) ?_)
 obtain ⟨r33,hr34,h⟩:=bnd h
 refine We (Ca co64 (f_ref05_Short_ok (rd a0 x24) _ _ _ _ _ hw32_14 hw32_15 hw32_16 hw32_17 r33 hr34) (args1 Z)) Z ?_
 rintro _ M35 _ hle36 ⟨_,⟨rfl,rfl⟩,rfl⟩
 refine WL.a0 (qu (Bv (!r33)) (PO.not Z) (Nt (Ch h Z (fun hb38 h=> ?_) (fun hb38 h=> ?_))))
 refine Sr (qa (Bv false) (Nt (Cr (Br (Tr (WQ.leaveR (Sum.inr ()) (oi h).symm (fun heq23=> ?_)))))))
 subst heq23
 have h:=(elimR hK23)
 refine Br (Tr ?_)
 have h:=KK.early h h322
 exact Rf h [] Z (Rs Z Z) (hle23.trans hle36) ⟨Z,Z⟩
 exact Ck (Bn (Tc (Cg (qM (Iv x24) hs23_3 (qu (Iv (IntKind.i64.wrap (x24+1))) (PO.add Z Z) (qa (Iv (IntKind.i64.wrap (x24+1))) (Wz (WQ.again (IntKind.i64.wrap (x24+1)) (oi h).symm ⟨(hle23.trans hle36),Z,hs23_0,Z⟩))))))))
 refine WC.exit (WQ.thenE (WQ.leaveE (Sum.inl ()) (oi h).symm (fun heq23=> ?_)))
 subst heq23
 have h:=elimL hK23
 exact WQ.blockH (WQ.thenFE h ⟨hle23,Z⟩)
 rintro _ ρ22 M22 H22 rfl ⟨hle22,rfl⟩
 have h:=(Sum.elim_inl _ _ _).symm.trans h
 exact Sr (qa (Bv true) (Nt (Cr (Rf h [] Z (Rs Z Z) hle22 ⟨Z,Z⟩))))
noncomputable def f_ref07_Short_l0 (a0:T_api_Rpc) (s_:Int):Option (Int⊕(Unit⊕Unit)):=
 match s_ with
 |x28=>
 (if(decide (x28<(a0.Batches.length:Int)))=true then(grd (0≤x28∧x28<a0.Batches.length) ((f_ref06_Short ((rd a0.Batches x28).Records)).bind fun r37=>(if(!r37)=true then(some (Sum.inr (Sum.inr ())))else(some (Sum.inl (IntKind.i64.wrap (x28+(1:Int))))))))else(some (Sum.inr (Sum.inl ()))))
noncomputable def f_ref07_Short (a0:T_api_Rpc):Option Bool:=
 (((if(decide ((800:Int)<(a0.Data.length:Int)))=true then(some true)else(some (decide ((12:Int)<(a0.Batches.length:Int))))):Option Bool).bind fun x22=>(if x22=true then(some false)else((((iter (f_ref07_Short_l0 a0) (0:Int)).bind (Sum.elim (fun _=>(some (Sum.inl ()))) (fun _=>(((some false)).bind fun r=>some (Sum.inr r))))):Option (Unit⊕Bool)).bind (Sum.elim (fun _=>(some true)) some))))
def f_ref07_Short_post (a0:T_api_Rpc) (v0_11 v0_14:Value):Bool→Value→IM→HL→Prop:=
 fun(r0:Bool) (v:Value) (M':IM) (H':HL)=>(.bool r0)=v∧H'=[]
theorem f_ref07_Short_ok (a0:T_api_Rpc) (M:IM) (v0_11 v0_14:Value) (h0_11:RS kd_api_Batch M v0_11 a0.Batches) (h0_14:RS (Kd.int .u8) M v0_14 a0.Data) (res:Bool) (h:f_ref07_Short a0=some res):
 Tri Tryz.prog 8 #[(a25_ a0 v0_11 v0_14)] M [] (f_ref07_Short_post a0 v0_11 v0_14 res):=by
 unfold f_ref07_Short at h
 refine Te Tryz.func8 Z Z ?_
 intro F ρ hρ
 refine Sr (We (EO.box (cs:=(l25 a0 v0_11 v0_14).toArray) (congrArg Value.cells (asE (a25_ a0 v0_11 v0_14) (hρ 0)))) Z ?_)
 rintro _ _ _ - ⟨rfl,g21,rfl,rfl⟩
 refine qa (Bv false) (Nt (Cs ?_))
 obtain ⟨x22,hj23,h⟩:=bnd h
 refine Jf (fun(x22:Bool) ρ' M' H'=>M.le M'∧[(g21, .cells (l25 a0 v0_11 v0_14).toArray 25 (0,0))]::F=H'∧ρ' 1=(pt g21 0)∧ρ' 13=(Bv x22)) x22 ?_ ?_
 have h:=hj23
 refine Cg (qu (pt g21 14) (Fa fo25_14 Z Z) (qu v0_14 (Lb 0 pl23 Z Z Z) (qu (Iv (a0.Data.length:Int)) (PO.lenS Tryz.underlying23 Z h0_14.len) (qu (Bv (decide ((800:Int)<(a0.Data.length:Int)))) (PO.gtr Z Z) (qm (Bv (decide ((800:Int)<(a0.Data.length:Int)))) ?_)))))
 rcases Bi h with⟨hb24,h⟩ |⟨hb24,h⟩
 iterate 4 refine Of 8 Z Z hb24 Z ?_
 refine qu (Bv true) (Pt Z hb24 Z) (Wz ?_)
 obtain rfl:=oi h
 exact Tj ⟨lr,Z,Z,Z⟩
 refine qo 8 hb24 (pt g21 11) (Fa fo25_11 Z Z) (qo 8 hb24 v0_11 (Lb 0 pl22 Z Z Z) (qo 8 hb24 (Iv (a0.Batches.length:Int)) (PO.lenS Tryz.underlying22 Z h0_11.len) (qo 8 hb24 (Bv (decide ((12:Int)<(a0.Batches.length:Int)))) (PO.gtr Z Z) (qu (Bv (decide ((12:Int)<(a0.Batches.length:Int)))) (Pf Z hb24 Z) (Wz ?_)))))
 obtain rfl:=oi h
 exact Tj ⟨lr,Z,Z,Z⟩
 rintro ρ23 M23 H23 ⟨hle23,rfl,hs23_1,hs23_13⟩
 refine Ch h hs23_13 (fun hb25 h=> ?_) (fun hb25 h=> ?_)
 exact Sr (qa (Bv false) (Nt (Cr (Tr (Dr (Rf h [] Z (Rs Z Z) hle23 ⟨Z,Z⟩))))))
 refine Ck (Tc ?_)
 obtain ⟨j26,hj26,h⟩:=bnd h
 refine WC.joinE (fun(_:Unit) ρ' M' H'=>M23.le M'∧[(g21, .cells (l25 a0 v0_11 v0_14).toArray 25 (0,0))]::F=H') j26 ?_ ?_
 have h326:=h
 have h:=hj26
 refine Sr (qa (Iv 0) (Nt (Bk ?_)))
 obtain ⟨e27,he27,hK27⟩:=bnd h
 clear h
 refine WC.loop he27 (fun(x28:Int) ρ' M' H'=>M23.le M'∧[(g21, .cells (l25 a0 v0_11 v0_14).toArray 25 (0,0))]::F=H'∧ρ' 1=(pt g21 0)∧ρ' 3=(Iv x28)) ?_ ?_
 exact⟨lr,Z,hs23_1,Z⟩
 rintro x28 o27 ρ27 M27 H27 h ⟨hle27,rfl,hs27_1,hs27_3⟩
 unfold f_ref07_Short_l0 at h
 refine Cs (Sr (qM (Iv x28) hs27_3 (qu (pt g21 11) (Fa fo25_11 hs27_1 Z) (qu v0_11 (Lb 0 pl22 Z Z Z) ?_))))
 have h0_11:=h0_11.mono (hle23.trans hle27)
 refine qu (Iv (a0.Batches.length:Int)) (PO.lenS Tryz.underlying22 Z h0_11.len) (qu (Bv (decide (x28<(a0.Batches.length:Int)))) (PO.lss Z Z) (Nt (Ch h Z (fun hb29 h=> ?_) (fun hb29 h=> ?_))))
 refine Ck (Tc (Cs (Bk (Sr (qu (pt g21 11) (Fa fo25_11 hs27_1 Z) (qu v0_11 (Lb 0 pl22 Z Z Z) (qM (Iv x28) hs27_3 ?_)))))))
 obtain ⟨hg30,h⟩:=grd_i h
 obtain ⟨p31,cs32,hat33,hrc34,hhas35⟩:=h0_11.at hg30.1 hg30.2 (by decide)
 obtain ⟨vw36_2,rfl,hw36_2⟩:=kd_api_Batch_open hrc34
 refine qu (.pointer (some p31)) (PO.indexAddr (n:=a0.Batches.length) Tryz.underlying22 sz55 Z Z hg30.1 hg30.2 hat33) (qu (.pointer (some (p31.add 2))) (Fa fo55_2 Z Z) (qu vw36_2 (PO.loadM pl53 Z (hhas35 2 _ Z)) ?_))
 obtain ⟨r37,hr38,h⟩:=bnd h
 refine We (Ca co21 (f_ref06_Short_ok ((rd a0.Batches x28).Records) _ _ hw36_2 r37 hr38) (args1 Z)) Z ?_
 rintro _ M39 _ hle40 ⟨_,⟨rfl,rfl⟩,rfl⟩
 refine WL.a0 (qu (Bv (!r37)) (PO.not Z) (Nt (Ch h Z (fun hb42 h=> ?_) (fun hb42 h=> ?_))))
 refine Sr (qa (Bv false) (Nt (Cr (Br (Tr (WQ.leaveR (Sum.inr ()) (oi h).symm (fun heq27=> ?_)))))))
 subst heq27
 have h:=(elimR hK27)
 refine Br (Tr ?_)
 have h:=KK.early h h326
 exact Dr (Rf h [] Z (Rs Z Z) ((hle23.trans hle27).trans hle40) ⟨Z,Z⟩)
 exact Ck (Bn (Tc (Cg (qM (Iv x28) hs27_3 (qu (Iv (IntKind.i64.wrap (x28+1))) (PO.add Z Z) (qa (Iv (IntKind.i64.wrap (x28+1))) (Wz (WQ.again (IntKind.i64.wrap (x28+1)) (oi h).symm ⟨(hle27.trans hle40),Z,hs27_1,Z⟩))))))))
 refine WC.exit (WQ.thenE (WQ.leaveE (Sum.inl ()) (oi h).symm (fun heq27=> ?_)))
 subst heq27
 have h:=elimL hK27
 exact WQ.blockH (WQ.thenFE h ⟨hle27,Z⟩)
 rintro _ ρ26 M26 H26 rfl ⟨hle26,rfl⟩
 have h:=(Sum.elim_inl _ _ _).symm.trans h
 exact Sr (qa (Bv true) (Nt (Cr (Dr (Rf h [] Z (Rs Z Z) (hle23.trans hle26) ⟨Z,Z⟩)))))
noncomputable def f_fault_New (a0:ByteArray) (a1:Int) (a2:Int):Option GErr:=
 (some (GErr.fault a0 a1 (GErr.code a2)))
def f_fault_New_post (a0:ByteArray) (a1:Int) (a2:Int):GErr→Value→IM→HL→Prop:=
 fun(r0:GErr) (v:Value) (M':IM) (H':HL)=>(GV r0)=v∧H'=[]
theorem f_fault_New_ok (a0:ByteArray) (a1:Int) (a2:Int) (M:IM) (res:GErr) (h:f_fault_New a0 a1 a2=some res):
 Tri Tryz.prog 30 #[(Sv a0),(Iv a1),(Iv a2)] M [] (f_fault_New_post a0 a1 a2 res):=by
 unfold f_fault_New at h
 refine Te Tryz.func30 Z Z ?_
 intro F ρ hρ
 refine Sr (qa (GV GErr.nil) (Ns (qM (Sv a0) (hρ 0) (qM (Iv a1) (hρ 1) (qM (Iv a2) (hρ 2) (qu (GV (GErr.code a2)) (PO.makeInterface cc38 Z) (qu (.agg #[(Sv a0),(Iv a1),(GV (GErr.code a2))]) (Bl (cl:=[(Sv a0),(Iv a1),(GV (GErr.code a2))]) ze108 fp108 (Pc (Sv a0) Z Z (Pc (Iv a1) Z Z (Parts.cons ((congrArg Value.cells (show ev _ _=(GV (GErr.code a2)) from Z)).trans (GErr.val_cells _ _ _ _)) Pz))) Z) (qu (GV (GErr.fault a0 a1 (GErr.code a2))) (PO.makeInterface cc108 Z) (qa (GV (GErr.fault a0 a1 (GErr.code a2))) (Nt (Cr ?_)))))))))))
 exact Rf h [] Z (Rs Z Z) lr ⟨Z,Z⟩
noncomputable def f_rpc_about (a0:Int):Option Int:=
 (((((if(decide (a0=(8:Int)))=true then(some (Sum.inl (orI .i64 (0:Int) (416:Int))))else(((if(decide (a0=(5:Int)))=true then(some (decide (a0=(5:Int))))else(some (decide (a0=(6:Int))))):Option Bool).bind fun x26=>(if x26=true then(some (Sum.inl (0:Int)))else(if(decide (a0=(4:Int)))=true then(((some (orI .i64 (0:Int) (116:Int)))).bind fun r=>some (Sum.inr r))else(if(decide (a0=(2:Int)))=true then(((some (orI .i64 (0:Int) (7:Int)))).bind fun r=>some (Sum.inr r))else(if(decide (a0=(1:Int)))=true then(((some (orI .i64 (0:Int) (1:Int)))).bind fun r=>some (Sum.inr r))else(((some (0:Int))).bind fun r=>some (Sum.inr r)))))))):Option (Int⊕Int)).bind (Sum.elim (fun(x23:Int)=>(some (orI .i64 x23 (4:Int)))) some)):Option Int).bind fun x21=>(((((if(decide (a0=(1:Int)))=true then(some (decide (a0=(1:Int))))else(if(decide (a0=(3:Int)))=true then(some (decide (a0=(3:Int))))else(if(decide (a0=(4:Int)))=true then(some (decide (a0=(4:Int))))else(if(decide (a0=(7:Int)))=true then(some (decide (a0=(7:Int))))else(some (decide (a0=(8:Int)))))))):Option Bool).bind fun x35=>(if x35=true then(some (orI .i64 x21 (8:Int)))else(some x21))):Option Int).bind fun x33=>(((if(decide (a0=(7:Int)))=true then(some (orI .i64 x33 (256:Int)))else(some x33)):Option Int).bind fun x42=>(some x42))))
def f_rpc_about_post (a0:Int):Int→Value→IM→HL→Prop:=
 fun(r0:Int) (v:Value) (M':IM) (H':HL)=>(.int .i64 r0)=v∧H'=[]
theorem f_rpc_about_ok (a0:Int) (M:IM) (res:Int) (h:f_rpc_about a0=some res):
 Tri Tryz.prog 23 #[(Iv a0)] M [] (f_rpc_about_post a0 res):=by
 unfold f_rpc_about at h
 refine Te Tryz.func23 Z Z ?_
 intro F ρ hρ
 refine Sr (qa (Iv 0) (Ns (qa (Iv 0) (Nt ?_))))
 obtain ⟨x21,hj22,h⟩:=bnd h
 refine Jf (fun(x21:Int) ρ' M' H'=>M.le M'∧F=H'∧ρ' 0=(Iv a0)∧ρ' 3=(Iv x21)) x21 ?_ ?_
 have h:=hj22
 refine Sr (qM (Iv a0) (hρ 0) (Nt (Bk (Cs (Bk (Cs (Bk (Cs (Bk ?_)))))))))
 obtain ⟨j24,hj24,h⟩:=bnd h
 refine WC.joinE (fun(x23:Int) ρ' M' H'=>M.le M'∧F=H'∧ρ' 0=(Iv a0)∧ρ' 3=(Iv x23)) j24 ?_ ?_
 have h324:=h
 have h:=hj24
 refine Bk (Cs (Bk (Cs (Cs (Sr (qu (Bv (decide (a0=8))) (PO.eql Z Z) (qa (Bv (decide (a0=8))) (Nt (Ch h Z (fun hb25 h=> ?_) (fun hb25 h=> ?_))))))))))
 refine WC.exit (WQ.thenE (WQ.thenE (WQ.blockH (Tc (Cg (qm (Iv 0) (qu (Iv (orI .i64 0 (416:Int))) (PO.or Z Z) (qa (Iv (orI .i64 0 (416:Int))) (Wz (Bn (WQ.thenFE h ?_)))))))))))
 exact⟨lr,Z,(hρ 0),Z⟩
 refine Ck (Tc (Cs ?_))
 obtain ⟨x26,hj27,h⟩:=bnd h
 refine Jf (fun(x26:Bool) ρ' M' H'=>M.le M'∧F=H'∧ρ' 0=(Iv a0)∧ρ' 3=(Iv 0)∧ρ' 4=(Iv a0)∧ρ' 7=(Bv x26)) x26 ?_ ?_
 have h:=hj27
 refine Sr (qu (Bv (decide (a0=5))) (PO.eql Z Z) (qa (Bv (decide (a0=5))) (Nt (Ch h Z (fun hb28 h=> ?_) (fun hb28 h=> ?_)))))
 refine Ck ?_
 obtain rfl:=oi h
 exact Tj ⟨lr,Z,(hρ 0),Z,Z,Z⟩
 refine Cg (qu (Bv (decide (a0=6))) (PO.eql Z Z) (qa (Bv (decide (a0=6))) (Wz ?_)))
 obtain rfl:=oi h
 exact Tj ⟨lr,Z,(hρ 0),Z,Z,Z⟩
 rintro ρ27 M27 H27 ⟨hle27,rfl,hs27_0,hs27_3,hs27_4,hs27_7⟩
 refine Ch h hs27_7 (fun hb29 h=> ?_) (fun hb29 h=> ?_)
 exact WC.exit (WQ.thenE (WQ.thenE (WQ.blockM Z (WQ.thenE (WQ.blockH (WQ.thenFE h ⟨hle27,Z,hs27_0,hs27_3⟩))))))
 refine Ck (Tc (Cs (Sr (qu (Bv (decide (a0=4))) (PO.eql hs27_4 Z) (qa (Bv (decide (a0=4))) (Nt (Ch h Z (fun hb30 h=> ?_) (fun hb30 h=> ?_))))))))
 refine WC.exit (WQ.thenE (WQ.thenE (WQ.blockM Z (WQ.thenE (WQ.blockM Z (WQ.thenE ?_))))))
 have h:=KK.early h h324
 refine WQ.blockH (Tc (Sr (qM (Iv 0) hs27_3 (qu (Iv (orI .i64 0 (116:Int))) (PO.or Z Z) (qa (Iv (orI .i64 0 (116:Int))) (Nt (WC.exit (WQ.blockM Z (WQ.thenE (WQ.blockM Z (WQ.thenE ?_)))))))))))
 refine WQ.blockH ?_
 obtain rfl:=oi h
 exact Tj ⟨hle27,Z,hs27_0,Z⟩
 refine Ck (Tc (Cs (Sr (qu (Bv (decide (a0=2))) (PO.eql hs27_4 Z) (qa (Bv (decide (a0=2))) (Nt (Ch h Z (fun hb31 h=> ?_) (fun hb31 h=> ?_))))))))
 refine WC.exit (WQ.thenE (WQ.thenE (WQ.blockM Z (WQ.thenE (WQ.blockM Z (WQ.thenE ?_))))))
 have h:=KK.early h h324
 refine WQ.blockM Z (WQ.thenE (WQ.blockH (Tc (Sr (qM (Iv 0) hs27_3 (qu (Iv (orI .i64 0 (7:Int))) (PO.or Z Z) (qa (Iv (orI .i64 0 (7:Int))) (Nt (WC.exit (WQ.blockM Z (WQ.thenE ?_)))))))))))
 refine WQ.blockH ?_
 obtain rfl:=oi h
 exact Tj ⟨hle27,Z,hs27_0,Z⟩
 refine Ck (Tc (Sr (qu (Bv (decide (a0=1))) (PO.eql hs27_4 Z) (qa (Bv (decide (a0=1))) (Nt (Ch h Z (fun hb32 h=> ?_) (fun hb32 h=> ?_)))))))
 refine WC.exit (WQ.thenE (WQ.blockM Z (WQ.thenE (WQ.blockM Z (WQ.thenE ?_)))))
 have h:=KK.early h h324
 refine WQ.blockM Z (WQ.thenE (WQ.blockM Z (WQ.thenE (WQ.blockH (Tc (Sr (qM (Iv 0) hs27_3 (qu (Iv (orI .i64 0 (1:Int))) (PO.or Z Z) (qa (Iv (orI .i64 0 (1:Int))) (Nt (WC.exit ?_)))))))))))
 refine WQ.blockH ?_
 obtain rfl:=oi h
 exact Tj ⟨hle27,Z,hs27_0,Z⟩
 refine Ck (Tc (WC.exit (WQ.blockM Z (WQ.thenE (WQ.blockM Z (WQ.thenE ?_))))))
 have h:=KK.early h h324
 refine WQ.blockM Z (WQ.thenE (WQ.blockM Z (WQ.thenE (WQ.blockM Z (WQ.thenE (WQ.blockH ?_))))))
 obtain rfl:=oi h
 exact Tj ⟨hle27,Z,hs27_0,hs27_3⟩
 rintro x23 ρ24 M24 H24 rfl ⟨hle24,rfl,hs24_0,hs24_3⟩
 have h:=(Sum.elim_inl _ _ _).symm.trans h
 refine Sr (qM (Iv x23) hs24_3 (qu (Iv (orI .i64 x23 (4:Int))) (PO.or Z Z) (qa (Iv (orI .i64 x23 (4:Int))) (Nt (WC.exit (WQ.blockM Z (WQ.thenE (WQ.blockM Z (WQ.thenE (WQ.blockM Z (WQ.thenE ?_)))))))))))
 refine WQ.blockH ?_
 obtain rfl:=oi h
 exact Tj ⟨hle24,Z,hs24_0,Z⟩
 rintro ρ22 M22 H22 ⟨hle22,rfl,hs22_0,hs22_3⟩
 obtain ⟨x33,hj34,h⟩:=bnd h
 refine Jf (fun(x33:Int) ρ' M' H'=>M22.le M'∧F=H'∧ρ' 0=(Iv a0)∧ρ' 3=(Iv x33)) x33 ?_ ?_
 have h:=hj34
 refine Sr (qM (Iv a0) hs22_0 (Nt (Bk ?_)))
 obtain ⟨x35,hj36,h⟩:=bnd h
 refine Jf (fun(x35:Bool) ρ' M' H'=>M22.le M'∧F=H'∧ρ' 0=(Iv a0)∧ρ' 3=(Iv x21)∧ρ' 27=(Bv x35)) x35 ?_ ?_
 have h:=hj36
 refine Sr (qu (Bv (decide (a0=1))) (PO.eql Z Z) (qa (Bv (decide (a0=1))) (Nt (Ch h Z (fun hb37 h=> ?_) (fun hb37 h=> ?_)))))
 refine Ck ?_
 obtain rfl:=oi h
 exact Tj ⟨lr,Z,hs22_0,hs22_3,Z⟩
 refine Sr (qu (Bv (decide (a0=3))) (PO.eql Z Z) (qa (Bv (decide (a0=3))) (Nt (Ch h Z (fun hb38 h=> ?_) (fun hb38 h=> ?_)))))
 refine Ck ?_
 obtain rfl:=oi h
 exact Tj ⟨lr,Z,hs22_0,hs22_3,Z⟩
 refine Sr (qu (Bv (decide (a0=4))) (PO.eql Z Z) (qa (Bv (decide (a0=4))) (Nt (Ch h Z (fun hb39 h=> ?_) (fun hb39 h=> ?_)))))
 refine Ck ?_
 obtain rfl:=oi h
 exact Tj ⟨lr,Z,hs22_0,hs22_3,Z⟩
 refine Sr (qu (Bv (decide (a0=7))) (PO.eql Z Z) (qa (Bv (decide (a0=7))) (Nt (Ch h Z (fun hb40 h=> ?_) (fun hb40 h=> ?_)))))
 refine Ck ?_
 obtain rfl:=oi h
 exact Tj ⟨lr,Z,hs22_0,hs22_3,Z⟩
 refine Cg (qu (Bv (decide (a0=8))) (PO.eql Z Z) (qa (Bv (decide (a0=8))) (Wz ?_)))
 obtain rfl:=oi h
 exact Tj ⟨lr,Z,hs22_0,hs22_3,Z⟩
 rintro ρ36 M36 H36 ⟨hle36,rfl,hs36_0,hs36_3,hs36_27⟩
 refine Ch h hs36_27 (fun hb41 h=> ?_) (fun hb41 h=> ?_)
 refine Cg (qM (Iv x21) hs36_3 (qu (Iv (orI .i64 x21 (8:Int))) (PO.or Z Z) (qa (Iv (orI .i64 x21 (8:Int))) (Wz (Bn ?_)))))
 obtain rfl:=oi h
 exact Tj ⟨hle36,Z,hs36_0,Z⟩
 refine Ck (Bn ?_)
 obtain rfl:=oi h
 exact Tj ⟨hle36,Z,hs36_0,hs36_3⟩
 rintro ρ34 M34 H34 ⟨hle34,rfl,hs34_0,hs34_3⟩
 obtain ⟨x42,hj43,h⟩:=bnd h
 refine Jf (fun(x42:Int) ρ' M' H'=>M34.le M'∧F=H'∧ρ' 3=(Iv x42)) x42 ?_ ?_
 have h:=hj43
 refine Sr (qM (Iv a0) hs34_0 (qu (Bv (decide (a0=7))) (PO.eql Z Z) (Nt (Ch h Z (fun hb44 h=> ?_) (fun hb44 h=> ?_)))))
 refine Cg (qM (Iv x33) hs34_3 (qu (Iv (orI .i64 x33 (256:Int))) (PO.or Z Z) (qa (Iv (orI .i64 x33 (256:Int))) (Wz ?_))))
 obtain rfl:=oi h
 exact Tj ⟨lr,Z,Z⟩
 refine Ck ?_
 obtain rfl:=oi h
 exact Tj ⟨lr,Z,hs34_3⟩
 rintro ρ43 M43 H43 ⟨hle43,rfl,hs43_3⟩
 exact Sr (qM (Iv x42) hs43_3 (qa (Iv x42) (Nt (Cr (Rf h [] Z (Rs Z Z) ((hle22.trans hle34).trans hle43) ⟨Z,Z⟩)))))
noncomputable def f_rpc_Check_1 (a0:Int) (a1:T_api_Rpc):Option Bool:=
 ((f_rpc_about a1.Kind).bind fun r21=>(some (decide ((andI .i64 r21 a0)≠(0:Int)))))
def f_rpc_Check_1_post (a0:Int) (a1:T_api_Rpc) (v1_11 v1_14:Value) (g1:Nat):Bool→Value→IM→HL→Prop:=
 fun(r0:Bool) (v:Value) (M':IM) (H':HL)=>(.bool r0)=v∧H'=[[(g1, .cells #[(.int .i64 a1.Kind),(.int .i64 a1.From),(.int .i64 a1.To),(.int .i64 a1.Term),(.bool a1.Pre),(.bool a1.Ok),(.int .i64 a1.Leader),(.int .i64 a1.At),(.int .i64 a1.AtTerm),(.int .i64 a1.High),(.int .i64 a1.Code),v1_11,(.int .i64 a1.Size),(.int .i64 a1.Pos),v1_14] 25 (0,0))]]
theorem f_rpc_Check_1_ok (a0:Int) (a1:T_api_Rpc) (M:IM) (v1_11 v1_14:Value) (g1:Nat) (h1_11:RS kd_api_Batch M v1_11 a1.Batches) (h1_14:RS (Kd.int .u8) M v1_14 a1.Data) (res:Bool) (h:f_rpc_Check_1 a0 a1=some res):
 Tri Tryz.prog 47 #[(Iv a0),(pt g1 0)] M [[(g1, .cells (l25 a1 v1_11 v1_14).toArray 25 (0,0))]] (f_rpc_Check_1_post a0 a1 v1_11 v1_14 g1 res):=by
 unfold f_rpc_Check_1 at h
 refine Te Tryz.func47 Z Z ?_
 intro F ρ hρ
 refine Sr (qa (Bv false) (Ns (qu (pt g1 0) (Fa fo25_0 (hρ 1) Z) (qu (Iv a1.Kind) (Lb 0 pl3 Z Z Z) ?_))))
 obtain ⟨r21,hr22,h⟩:=bnd h
 refine We (Ca co23 (f_rpc_about_ok a1.Kind _ r21 hr22) (args1 Z)) Z ?_
 rintro _ M23 _ hle24 ⟨_,⟨rfl,rfl⟩,rfl⟩
 exact WL.a0 (qM (Iv a0) (hρ 0) (qu (Iv (andI .i64 r21 a0)) (PO.and Z Z) (qu (Bv (decide ((andI .i64 r21 a0)≠0))) (PO.neq Z Z) (qa (Bv (decide ((andI .i64 r21 a0)≠0))) (Nt (Cr (Rf h [[(g1, .cells (l25 a1 v1_11 v1_14).toArray 25 (0,0))]] Z (Rs Z Z) hle24 ⟨Z,Z⟩)))))))
noncomputable def f_rpc_number (a0:Int) (a1:Bool) (a2:Int):Option Bool:=
 (if(!a1)=true then(some (decide (a0=(0:Int))))else(((if(decide ((0:Int)≤a0))=true then(some (decide (a0≤a2)))else(some false)):Option Bool).bind fun x22=>(some x22)))
def f_rpc_number_post (a0:Int) (a1:Bool) (a2:Int):Bool→Value→IM→HL→Prop:=
 fun(r0:Bool) (v:Value) (M':IM) (H':HL)=>(.bool r0)=v∧H'=[]
theorem f_rpc_number_ok (a0:Int) (a1:Bool) (a2:Int) (M:IM) (res:Bool) (h:f_rpc_number a0 a1 a2=some res):
 Tri Tryz.prog 48 #[(Iv a0),(Bv a1),(Iv a2)] M [] (f_rpc_number_post a0 a1 a2 res):=by
 unfold f_rpc_number at h
 refine Te Tryz.func48 Z Z ?_
 intro F ρ hρ
 refine Sr (qa (Bv false) (Nt (Cs (Sr (qM (Bv a1) (hρ 1) (qu (Bv (!a1)) (PO.not Z) (Nt (Ch h Z (fun hb21 h=> ?_) (fun hb21 h=> ?_)))))))))
 exact Sr (qM (Iv a0) (hρ 0) (qu (Bv (decide (a0=0))) (PO.eql Z Z) (qa (Bv (decide (a0=0))) (Nt (Cr (Tr (Rf h [] Z (Rs Z Z) lr ⟨Z,Z⟩)))))))
 refine Ck (Tc ?_)
 obtain ⟨x22,hj23,h⟩:=bnd h
 refine Jf (fun(x22:Bool) ρ' M' H'=>M.le M'∧F=H'∧ρ' 6=(Bv x22)) x22 ?_ ?_
 have h:=hj23
 refine Cg (qM (Iv a0) (hρ 0) (qu (Bv (decide ((0:Int)≤a0))) (PO.geq Z Z) (qm (Bv (decide ((0:Int)≤a0))) ?_)))
 rcases Bi h with⟨hb24,h⟩ |⟨hb24,h⟩
 refine On 13 Z Z hb24 (qM (Iv a0) (hρ 0) (On 13 Z Z hb24 (qM (Iv a2) (hρ 2) (qo 13 hb24 (Bv (decide (a0≤a2))) (PO.leq Z Z) (qu (Bv (decide (a0≤a2))) (Pt Z hb24 Z) (qa (Bv (decide (a0≤a2))) (Wz ?_)))))))
 obtain rfl:=oi h
 exact Tj ⟨lr,Z,Z⟩
 iterate 3 refine Of 13 Z Z hb24 Z ?_
 refine qu (Bv false) (Pf Z hb24 Z) (qa (Bv false) (Wz ?_))
 obtain rfl:=oi h
 exact Tj ⟨lr,Z,Z⟩
 rintro ρ23 M23 H23 ⟨hle23,rfl,hs23_6⟩
 exact Cr (Rf h [] Z (Rs Z hs23_6) hle23 ⟨Z,Z⟩)
noncomputable def f_record_about (a0:Int):Option Int:=
 (if(decide (a0=(2:Int)))=true then(some (1027:Int))else(((if(decide (a0=(3:Int)))=true then(some (decide (a0=(3:Int))))else(if(decide (a0=(4:Int)))=true then(some (decide (a0=(4:Int))))else(if(decide (a0=(5:Int)))=true then(some (decide (a0=(5:Int))))else(some (decide (a0=(6:Int))))))):Option Bool).bind fun x22=>(if x22=true then(some (3:Int))else(if(decide (a0=(7:Int)))=true then(some (132:Int))else(if(decide (a0=(8:Int)))=true then(some (6172:Int))else(if(decide (a0=(9:Int)))=true then(some (14366:Int))else(if(decide (a0=(10:Int)))=true then(some (836:Int))else(if(decide (a0=(11:Int)))=true then(some (4:Int))else(if(decide (a0=(12:Int)))=true then(some (32:Int))else(some (0:Int)))))))))))
def f_record_about_post (a0:Int):Int→Value→IM→HL→Prop:=
 fun(r0:Int) (v:Value) (M':IM) (H':HL)=>(.int .i64 r0)=v∧H'=[]
theorem f_record_about_ok (a0:Int) (M:IM) (res:Int) (h:f_record_about a0=some res):
 Tri Tryz.prog 93 #[(Iv a0)] M [] (f_record_about_post a0 res):=by
 unfold f_record_about at h
 refine Te Tryz.func93 Z Z ?_
 intro F ρ hρ
 refine Sr (qa (Iv 0) (Nt (Cs (Sr (qM (Iv a0) (hρ 0) (Nt (Bk (Sr (qu (Bv (decide (a0=2))) (PO.eql Z Z) (qa (Bv (decide (a0=2))) (Nt ?_)))))))))))
 refine Ch h Z (fun hb21 h=> ?_) (fun hb21 h=> ?_)
 exact Sr (qa (Iv 1027) (Nt (Cr (Br (Tr (Rf h [] Z (Rs Z Z) lr ⟨Z,Z⟩))))))
 obtain ⟨x22,hj23,h⟩:=bnd h
 refine Jf (fun(x22:Bool) ρ' M' H'=>M.le M'∧F=H'∧ρ' 3=(Iv a0)∧ρ' 6=(Bv x22)) x22 ?_ ?_
 have h:=hj23
 refine Sr (qu (Bv (decide (a0=3))) (PO.eql Z Z) (qa (Bv (decide (a0=3))) (Nt (Ch h Z (fun hb24 h=> ?_) (fun hb24 h=> ?_)))))
 refine Ck ?_
 obtain rfl:=oi h
 exact Tj ⟨lr,Z,Z,Z⟩
 refine Sr (qu (Bv (decide (a0=4))) (PO.eql Z Z) (qa (Bv (decide (a0=4))) (Nt (Ch h Z (fun hb25 h=> ?_) (fun hb25 h=> ?_)))))
 refine Ck ?_
 obtain rfl:=oi h
 exact Tj ⟨lr,Z,Z,Z⟩
 refine Sr (qu (Bv (decide (a0=5))) (PO.eql Z Z) (qa (Bv (decide (a0=5))) (Nt (Ch h Z (fun hb26 h=> ?_) (fun hb26 h=> ?_)))))
 refine Ck ?_
 obtain rfl:=oi h
 exact Tj ⟨lr,Z,Z,Z⟩
 refine Cg (qu (Bv (decide (a0=6))) (PO.eql Z Z) (qa (Bv (decide (a0=6))) (Wz ?_)))
 obtain rfl:=oi h
 exact Tj ⟨lr,Z,Z,Z⟩
 rintro ρ23 M23 H23 ⟨hle23,rfl,hs23_3,hs23_6⟩
 refine Ch h hs23_6 (fun hb27 h=> ?_) (fun hb27 h=> ?_)
 exact Sr (qa (Iv 3) (Nt (Cr (Br (Tr (Rf h [] Z (Rs Z Z) hle23 ⟨Z,Z⟩))))))
 refine Sr (qu (Bv (decide (a0=7))) (PO.eql hs23_3 Z) (qa (Bv (decide (a0=7))) (Nt (Ch h Z (fun hb28 h=> ?_) (fun hb28 h=> ?_)))))
 exact Sr (qa (Iv 132) (Nt (Cr (Br (Tr (Rf h [] Z (Rs Z Z) hle23 ⟨Z,Z⟩))))))
 refine Sr (qu (Bv (decide (a0=8))) (PO.eql hs23_3 Z) (qa (Bv (decide (a0=8))) (Nt (Ch h Z (fun hb29 h=> ?_) (fun hb29 h=> ?_)))))
 exact Sr (qa (Iv 6172) (Nt (Cr (Br (Tr (Rf h [] Z (Rs Z Z) hle23 ⟨Z,Z⟩))))))
 refine Sr (qu (Bv (decide (a0=9))) (PO.eql hs23_3 Z) (qa (Bv (decide (a0=9))) (Nt (Ch h Z (fun hb30 h=> ?_) (fun hb30 h=> ?_)))))
 exact Sr (qa (Iv 14366) (Nt (Cr (Br (Tr (Rf h [] Z (Rs Z Z) hle23 ⟨Z,Z⟩))))))
 refine Sr (qu (Bv (decide (a0=10))) (PO.eql hs23_3 Z) (qa (Bv (decide (a0=10))) (Nt (Ch h Z (fun hb31 h=> ?_) (fun hb31 h=> ?_)))))
 exact Sr (qa (Iv 836) (Nt (Cr (Br (Tr (Rf h [] Z (Rs Z Z) hle23 ⟨Z,Z⟩))))))
 refine Sr (qu (Bv (decide (a0=11))) (PO.eql hs23_3 Z) (qa (Bv (decide (a0=11))) (Nt (Ch h Z (fun hb32 h=> ?_) (fun hb32 h=> ?_)))))
 exact Sr (qa (Iv 4) (Nt (Cr (Br (Tr (Rf h [] Z (Rs Z Z) hle23 ⟨Z,Z⟩))))))
 refine Sr (qu (Bv (decide (a0=12))) (PO.eql hs23_3 Z) (qa (Bv (decide (a0=12))) (Nt (Ch h Z (fun hb33 h=> ?_) (fun hb33 h=> ?_)))))
 exact Sr (qa (Iv 32) (Nt (Cr (Br (Tr (Rf h [] Z (Rs Z Z) hle23 ⟨Z,Z⟩))))))
 exact Ck (Bn (Tc (Sr (qa (Iv 0) (Nt (Cr (Rf h [] Z (Rs Z Z) hle23 ⟨Z,Z⟩)))))))
noncomputable def f_record_Check_1 (a0:Int) (a1:T_api_Record):Option Bool:=
 ((f_record_about a1.Kind).bind fun r21=>(some (decide ((andI .i64 r21 a0)≠(0:Int)))))
def f_record_Check_1_post (a0:Int) (a1:T_api_Record) (v1_14 v1_15 v1_16 v1_17:Value) (g1:Nat):Bool→Value→IM→HL→Prop:=
 fun(r0:Bool) (v:Value) (M':IM) (H':HL)=>(.bool r0)=v∧H'=[[(g1, .cells #[(.int .i64 a1.Kind),(.int .i64 a1.Broker),(.int .i64 a1.Epoch),(.int .i64 a1.Topic),(.int .i64 a1.Part),(.int .i64 a1.Leader),(.int .i64 a1.Client),(.int .i64 a1.Serial),(.int .i64 a1.Code),(.bool a1.Flag),(.string a1.Name),(.string a1.Key),(.string a1.Value),(.string a1.Rack),v1_14,v1_15,v1_16,v1_17] 58 (0,0))]]
theorem f_record_Check_1_ok (a0:Int) (a1:T_api_Record) (M:IM) (v1_14 v1_15 v1_16 v1_17:Value) (g1:Nat) (h1_14:RS (Kd.int .i64) M v1_14 a1.Ids) (h1_15:RS (Kd.int .i64) M v1_15 a1.Isr) (h1_16:RS (Kd.int .i64) M v1_16 a1.Add) (h1_17:RS (Kd.int .i64) M v1_17 a1.Drop) (res:Bool) (h:f_record_Check_1 a0 a1=some res):
 Tri Tryz.prog 112 #[(Iv a0),(pt g1 0)] M [[(g1, .cells (l58 a1 v1_14 v1_15 v1_16 v1_17).toArray 58 (0,0))]] (f_record_Check_1_post a0 a1 v1_14 v1_15 v1_16 v1_17 g1 res):=by
 unfold f_record_Check_1 at h
 refine Te Tryz.func112 Z Z ?_
 intro F ρ hρ
 refine Sr (qa (Bv false) (Ns (qu (pt g1 0) (Fa fo58_0 (hρ 1) Z) (qu (Iv a1.Kind) (Lb 0 pl3 Z Z Z) ?_))))
 obtain ⟨r21,hr22,h⟩:=bnd h
 refine We (Ca co93 (f_record_about_ok a1.Kind _ r21 hr22) (args1 Z)) Z ?_
 rintro _ M23 _ hle24 ⟨_,⟨rfl,rfl⟩,rfl⟩
 exact WL.a0 (qM (Iv a0) (hρ 0) (qu (Iv (andI .i64 r21 a0)) (PO.and Z Z) (qu (Bv (decide ((andI .i64 r21 a0)≠0))) (PO.neq Z Z) (qa (Bv (decide ((andI .i64 r21 a0)≠0))) (Nt (Cr (Rf h [[(g1, .cells (l58 a1 v1_14 v1_15 v1_16 v1_17).toArray 58 (0,0))]] Z (Rs Z Z) hle24 ⟨Z,Z⟩)))))))
noncomputable def f_record_number (a0:Int) (a1:Bool) (a2:Int) (a3:Int):Option Bool:=
 (if(!a1)=true then(some (decide (a0=(0:Int))))else(((if(decide (a2≤a0))=true then(some (decide (a0≤a3)))else(some false)):Option Bool).bind fun x22=>(some x22)))
def f_record_number_post (a0:Int) (a1:Bool) (a2:Int) (a3:Int):Bool→Value→IM→HL→Prop:=
 fun(r0:Bool) (v:Value) (M':IM) (H':HL)=>(.bool r0)=v∧H'=[]
theorem f_record_number_ok (a0:Int) (a1:Bool) (a2:Int) (a3:Int) (M:IM) (res:Bool) (h:f_record_number a0 a1 a2 a3=some res):
 Tri Tryz.prog 114 #[(Iv a0),(Bv a1),(Iv a2),(Iv a3)] M [] (f_record_number_post a0 a1 a2 a3 res):=by
 unfold f_record_number at h
 refine Te Tryz.func114 Z Z ?_
 intro F ρ hρ
 refine Sr (qa (Bv false) (Nt (Cs (Sr (qM (Bv a1) (hρ 1) (qu (Bv (!a1)) (PO.not Z) (Nt (Ch h Z (fun hb21 h=> ?_) (fun hb21 h=> ?_)))))))))
 exact Sr (qM (Iv a0) (hρ 0) (qu (Bv (decide (a0=0))) (PO.eql Z Z) (qa (Bv (decide (a0=0))) (Nt (Cr (Tr (Rf h [] Z (Rs Z Z) lr ⟨Z,Z⟩)))))))
 refine Ck (Tc ?_)
 obtain ⟨x22,hj23,h⟩:=bnd h
 refine Jf (fun(x22:Bool) ρ' M' H'=>M.le M'∧F=H'∧ρ' 8=(Bv x22)) x22 ?_ ?_
 have h:=hj23
 refine Cg (qM (Iv a0) (hρ 0) (qM (Iv a2) (hρ 2) (qu (Bv (decide (a2≤a0))) (PO.geq Z Z) (qm (Bv (decide (a2≤a0))) ?_))))
 rcases Bi h with⟨hb24,h⟩ |⟨hb24,h⟩
 refine On 16 Z Z hb24 (qM (Iv a0) (hρ 0) (On 16 Z Z hb24 (qM (Iv a3) (hρ 3) (qo 16 hb24 (Bv (decide (a0≤a3))) (PO.leq Z Z) (qu (Bv (decide (a0≤a3))) (Pt Z hb24 Z) (qa (Bv (decide (a0≤a3))) (Wz ?_)))))))
 obtain rfl:=oi h
 exact Tj ⟨lr,Z,Z⟩
 iterate 3 refine Of 16 Z Z hb24 Z ?_
 refine qu (Bv false) (Pf Z hb24 Z) (qa (Bv false) (Wz ?_))
 obtain rfl:=oi h
 exact Tj ⟨lr,Z,Z⟩
 rintro ρ23 M23 H23 ⟨hle23,rfl,hs23_8⟩
 exact Cr (Rf h [] Z (Rs Z hs23_8) hle23 ⟨Z,Z⟩)
noncomputable def f_record_Name_l0 (a0:ByteArray) (s_:Int):Option (Int⊕(Unit⊕Unit)):=
 match s_ with
 |x32=>
 (if(decide (x32<((bytesOf a0).length:Int)))=true then(grd (0≤x32∧x32<(bytesOf a0).length) (((if(decide ((97:Int)≤(rd (bytesOf a0) x32)))=true then(if(decide ((48:Int)≤(rd (bytesOf a0) x32)))=true then(some (decide ((rd (bytesOf a0) x32)≤(122:Int)),decide ((rd (bytesOf a0) x32)≤(57:Int))))else(some (decide ((rd (bytesOf a0) x32)≤(122:Int)),false)))else(if(decide ((48:Int)≤(rd (bytesOf a0) x32)))=true then(some (false,decide ((rd (bytesOf a0) x32)≤(57:Int))))else(some (false,false)))):Option (Bool×Bool)).bind fun(x41,x42)=>(((if(!x41)=true then(if(!x42)=true then(if(decide ((rd (bytesOf a0) x32)≠(46:Int)))=true then(some (decide ((rd (bytesOf a0) x32)≠(45:Int))))else(some false))else(some false))else(some false)):Option Bool).bind fun x47=>(if x47=true then(some (Sum.inr (Sum.inr ())))else(some (Sum.inl (IntKind.i64.wrap (x32+(1:Int)))))))))else(some (Sum.inr (Sum.inl ()))))
noncomputable def f_record_Name (a0:ByteArray):Option Bool:=
 (((if(decide (a0=(⟨#[]⟩:ByteArray)))=true then(some true)else(if(decide ((40:Int)<(a0.size:Int)))=true then(some true)else(if(decide (a0=(⟨#[46]⟩:ByteArray)))=true then(some true)else(some (decide (a0=(⟨#[46,46]⟩:ByteArray))))))):Option Bool).bind fun x21=>(if x21=true then(some false)else((((iter (f_record_Name_l0 a0) (0:Int)).bind (Sum.elim (fun _=>(some (Sum.inl ()))) (fun _=>(((some false)).bind fun r=>some (Sum.inr r))))):Option (Unit⊕Bool)).bind (Sum.elim (fun _=>(some true)) some))))
def f_record_Name_post (a0:ByteArray):Bool→Value→IM→HL→Prop:=
 fun(r0:Bool) (v:Value) (M':IM) (H':HL)=>(.bool r0)=v∧H'=[]
theorem f_record_Name_ok (a0:ByteArray) (M:IM) (res:Bool) (h:f_record_Name a0=some res):
 Tri Tryz.prog 116 #[(Sv a0)] M [] (f_record_Name_post a0 res):=by
 unfold f_record_Name at h
 refine Te Tryz.func116 Z Z ?_
 intro F ρ hρ
 refine Sr (qa (Bv false) (Nt (Cs ?_)))
 obtain ⟨x21,hj22,h⟩:=bnd h
 refine Jf (fun(x21:Bool) ρ' M' H'=>M.le M'∧F=H'∧ρ' 0=(Sv a0)∧ρ' 21=(Bv x21)) x21 ?_ ?_
 have h:=hj22
 refine Cg (qM (Sv a0) (hρ 0) (qu (Bv (decide (a0=(⟨#[]⟩:ByteArray)))) (PO.seql Z Z) (qm (Bv (decide (a0=(⟨#[]⟩:ByteArray)))) ?_)))
 rcases Bi h with⟨hb23,h⟩ |⟨hb23,h⟩
 iterate 3 refine Of 9 Z Z hb23 Z ?_
 refine qu (Bv true) (Pt Z hb23 Z) (qm (Bv true) ?_)
 iterate 2 refine Of 14 Z Z Z Z ?_
 refine qu (Bv true) (Pt Z Z Z) (qm (Bv true) ?_)
 iterate 2 refine Of 18 Z Z Z Z ?_
 refine qu (Bv true) (Pt Z Z Z) (Wz ?_)
 obtain rfl:=oi h
 exact Tj ⟨lr,Z,(hρ 0),Z⟩
 refine On 9 Z Z hb23 (qM (Sv a0) (hρ 0) (qo 9 hb23 (Iv (a0.size:Int)) (PO.lenStr Tryz.underlying9 Z) (qo 9 hb23 (Bv (decide ((40:Int)<(a0.size:Int)))) (PO.gtr Z Z) (qu (Bv (decide ((40:Int)<(a0.size:Int)))) (Pf Z hb23 Z) (qm (Bv (decide ((40:Int)<(a0.size:Int)))) ?_)))))
 rcases Bi h with⟨hb24,h⟩ |⟨hb24,h⟩
 iterate 2 refine Of 14 Z Z hb24 Z ?_
 refine qu (Bv true) (Pt Z hb24 Z) (qm (Bv true) ?_)
 iterate 2 refine Of 18 Z Z Z Z ?_
 refine qu (Bv true) (Pt Z Z Z) (Wz ?_)
 obtain rfl:=oi h
 exact Tj ⟨lr,Z,(hρ 0),Z⟩
 refine On 14 Z Z hb24 (qM (Sv a0) (hρ 0) (qo 14 hb24 (Bv (decide (a0=(⟨#[46]⟩:ByteArray)))) (PO.seql Z Z) (qu (Bv (decide (a0=(⟨#[46]⟩:ByteArray)))) (Pf Z hb24 Z) (qm (Bv (decide (a0=(⟨#[46]⟩:ByteArray)))) ?_))))
 rcases Bi h with⟨hb25,h⟩ |⟨hb25,h⟩
 iterate 2 refine Of 18 Z Z hb25 Z ?_
 refine qu (Bv true) (Pt Z hb25 Z) (Wz ?_)
 obtain rfl:=oi h
 exact Tj ⟨lr,Z,(hρ 0),Z⟩
 refine On 18 Z Z hb25 (qM (Sv a0) (hρ 0) (qo 18 hb25 (Bv (decide (a0=(⟨#[46,46]⟩:ByteArray)))) (PO.seql Z Z) (qu (Bv (decide (a0=(⟨#[46,46]⟩:ByteArray)))) (Pf Z hb25 Z) (Wz ?_))))
 obtain rfl:=oi h
 exact Tj ⟨lr,Z,(hρ 0),Z⟩
 rintro ρ22 M22 H22 ⟨hle22,rfl,hs22_0,hs22_21⟩
 refine Ch h hs22_21 (fun hb26 h=> ?_) (fun hb26 h=> ?_)
 exact Sr (qa (Bv false) (Nt (Cr (Tr (Rf h [] Z (Rs Z Z) hle22 ⟨Z,Z⟩)))))
 refine Ck (Tc ?_)
 obtain ⟨j27,hj27,h⟩:=bnd h
 refine WC.joinE (fun(_:Unit) ρ' M' H'=>M22.le M'∧F=H') j27 ?_ ?_
 have h327:=h
 have h:=hj27
 refine Sr (qM (Sv a0) hs22_0 (We (EO.s2b Tryz.underlying9 Tryz.underlying23 Tryz.underlying5 Z) Z ?_))
 rintro v30 _ _ - ⟨rfl,c28,rfl,h29⟩
 refine qu (Iv ((bytesOf a0).length:Int)) (PO.lenS Tryz.underlying23 Z h29.len) (qm (Iv 0) (Nt (Bk ?_)))
 obtain ⟨e31,he31,hK31⟩:=bnd h
 clear h
 refine WC.loop he31 (fun(x32:Int) ρ' M' H'=>M22.le M'∧c28::F=H'∧ρ' 23=v30∧ρ' 24=(Iv ((bytesOf a0).length:Int))∧ρ' 25=(Iv x32)) ?_ ?_
 exact⟨lr,Z,Z,Z,Z⟩
 rintro x32 o31 ρ31 M31 H31 h ⟨hle31,rfl,hs31_23,hs31_24,hs31_25⟩
 unfold f_record_Name_l0 at h
 refine Sr (qu (Bv (decide (x32<((bytesOf a0).length:Int)))) (PO.lss hs31_25 hs31_24) (Nt (Cs (Ch h Z (fun hb33 h=> ?_) (fun hb33 h=> ?_)))))
 refine Ck (Tc (Cs (Bk (Sr ?_))))
 obtain ⟨hg34,h⟩:=grd_i h
 have h29:=h29.mono hle31
 obtain ⟨p35,cs36,hat37,hrc38,hhas39⟩:=h29.at hg34.1 hg34.2
 obtain rfl:=hrc38
 refine qu (.pointer (some p35)) (PO.indexAddr (n:=(bytesOf a0).length) Tryz.underlying23 sz5 hs31_23 hs31_25 hg34.1 hg34.2 hat37) (qu (Yv (rd (bytesOf a0) x32)) (PO.loadC 0 pl5 Z Z (chunkHas0 hhas39)) (qa (Yv (rd (bytesOf a0) x32)) (Nt ?_)))
 obtain ⟨j43,hj43,h⟩:=bnd h
 refine Jf (fun(p_:(Bool×Bool)) ρ' M' H'=>match p_ with |(x41,x42)=>M31.le M'∧c28::F=H'∧ρ' 4=(Yv (rd (bytesOf a0) x32))∧ρ' 5=(Bv x41)∧ρ' 6=(Bv x42)∧ρ' 23=v30∧ρ' 24=(Iv ((bytesOf a0).length:Int))∧ρ' 25=(Iv x32)) j43 ?_ ?_
 have h:=hj43
 refine Cg (qm (Yv (rd (bytesOf a0) x32)) (qu (Bv (decide ((97:Int)≤(rd (bytesOf a0) x32)))) (PO.geq Z Z) (qm (Bv (decide ((97:Int)≤(rd (bytesOf a0) x32)))) ?_)))
 rcases Bi h with⟨hb44,h⟩ |⟨hb44,h⟩
 refine On 31 Z Z hb44 (qm (Yv (rd (bytesOf a0) x32)) (qo 31 hb44 (Bv (decide ((rd (bytesOf a0) x32)≤122))) (PO.leq Z Z) (qu (Bv (decide ((rd (bytesOf a0) x32)≤122))) (Pt Z hb44 Z) (qm (Yv (rd (bytesOf a0) x32)) (qu (Bv (decide ((48:Int)≤(rd (bytesOf a0) x32)))) (PO.geq Z Z) (qm (Bv (decide ((48:Int)≤(rd (bytesOf a0) x32)))) ?_))))))
 rcases Bi h with⟨hb45,h⟩ |⟨hb45,h⟩
 refine On 37 Z Z hb45 (qm (Yv (rd (bytesOf a0) x32)) (qo 37 hb45 (Bv (decide ((rd (bytesOf a0) x32)≤57))) (PO.leq Z Z) (qu (Bv (decide ((rd (bytesOf a0) x32)≤57))) (Pt Z hb45 Z) (qa (Bv (decide ((rd (bytesOf a0) x32)≤122))) (qa (Bv (decide ((rd (bytesOf a0) x32)≤57))) (Wz ?_))))))
 obtain rfl:=oi h
 exact Tj ⟨lr,Z,Z,Z,Z,hs31_23,hs31_24,hs31_25⟩
 iterate 2 refine Of 37 Z Z hb45 Z ?_
 refine qu (Bv false) (Pf Z hb45 Z) (qa (Bv (decide ((rd (bytesOf a0) x32)≤122))) (qa (Bv false) (Wz ?_)))
 obtain rfl:=oi h
 exact Tj ⟨lr,Z,Z,Z,Z,hs31_23,hs31_24,hs31_25⟩
 iterate 2 refine Of 31 Z Z hb44 Z ?_
 refine qu (Bv false) (Pf Z hb44 Z) (qm (Yv (rd (bytesOf a0) x32)) (qu (Bv (decide ((48:Int)≤(rd (bytesOf a0) x32)))) (PO.geq Z Z) (qm (Bv (decide ((48:Int)≤(rd (bytesOf a0) x32)))) ?_)))
 rcases Bi h with⟨hb46,h⟩ |⟨hb46,h⟩
 refine On 37 Z Z hb46 (qm (Yv (rd (bytesOf a0) x32)) (qo 37 hb46 (Bv (decide ((rd (bytesOf a0) x32)≤57))) (PO.leq Z Z) (qu (Bv (decide ((rd (bytesOf a0) x32)≤57))) (Pt Z hb46 Z) (qa (Bv false) (qa (Bv (decide ((rd (bytesOf a0) x32)≤57))) (Wz ?_))))))
 obtain rfl:=oi h
 exact Tj ⟨lr,Z,Z,Z,Z,hs31_23,hs31_24,hs31_25⟩
 iterate 2 refine Of 37 Z Z hb46 Z ?_
 refine qu (Bv false) (Pf Z hb46 Z) (qa (Bv false) (qa (Bv false) (Wz ?_)))
 obtain rfl:=oi h
 exact Tj ⟨lr,Z,Z,Z,Z,hs31_23,hs31_24,hs31_25⟩
 obtain ⟨x41,x42⟩:=j43
 rintro ρ43 M43 H43 ⟨hle43,rfl,hs43_4,hs43_5,hs43_6,hs43_23,hs43_24,hs43_25⟩
 obtain ⟨x47,hj48,h⟩:=bnd h
 refine Jf (fun(x47:Bool) ρ' M' H'=>M43.le M'∧c28::F=H'∧ρ' 23=v30∧ρ' 24=(Iv ((bytesOf a0).length:Int))∧ρ' 25=(Iv x32)∧ρ' 54=(Bv x47)) x47 ?_ ?_
 have h:=hj48
 refine Cg (qM (Bv x41) hs43_5 (qu (Bv (!x41)) (PO.not Z) (qm (Bv (!x41)) ?_)))
 rcases Bi h with⟨hb49,h⟩ |⟨hb49,h⟩
 refine On 43 Z Z hb49 (qM (Bv x42) hs43_6 (qo 43 hb49 (Bv (!x42)) (PO.not Z) (qu (Bv (!x42)) (Pt Z hb49 Z) (qm (Bv (!x42)) ?_))))
 rcases Bi h with⟨hb50,h⟩ |⟨hb50,h⟩
 refine On 47 Z Z hb50 (qM (Yv (rd (bytesOf a0) x32)) hs43_4 (qo 47 hb50 (Bv (decide ((rd (bytesOf a0) x32)≠46))) (PO.neq Z Z) (qu (Bv (decide ((rd (bytesOf a0) x32)≠46))) (Pt Z hb50 Z) (qm (Bv (decide ((rd (bytesOf a0) x32)≠46))) ?_))))
 rcases Bi h with⟨hb51,h⟩ |⟨hb51,h⟩
 refine On 51 Z Z hb51 (qM (Yv (rd (bytesOf a0) x32)) hs43_4 (qo 51 hb51 (Bv (decide ((rd (bytesOf a0) x32)≠45))) (PO.neq Z Z) (qu (Bv (decide ((rd (bytesOf a0) x32)≠45))) (Pt Z hb51 Z) (Wz ?_))))
 obtain rfl:=oi h
 exact Tj ⟨lr,Z,hs43_23,hs43_24,hs43_25,Z⟩
 iterate 2 refine Of 51 Z Z hb51 Z ?_
 refine qu (Bv false) (Pf Z hb51 Z) (Wz ?_)
 obtain rfl:=oi h
 exact Tj ⟨lr,Z,hs43_23,hs43_24,hs43_25,Z⟩
 iterate 2 refine Of 47 Z Z hb50 Z ?_
 refine qu (Bv false) (Pf Z hb50 Z) (qm (Bv false) ?_)
 iterate 2 refine Of 51 Z Z Z Z ?_
 refine qu (Bv false) (Pf Z Z Z) (Wz ?_)
 obtain rfl:=oi h
 exact Tj ⟨lr,Z,hs43_23,hs43_24,hs43_25,Z⟩
 iterate 2 refine Of 43 Z Z hb49 Z ?_
 refine qu (Bv false) (Pf Z hb49 Z) (qm (Bv false) ?_)
 iterate 2 refine Of 47 Z Z Z Z ?_
 refine qu (Bv false) (Pf Z Z Z) (qm (Bv false) ?_)
 iterate 2 refine Of 51 Z Z Z Z ?_
 refine qu (Bv false) (Pf Z Z Z) (Wz ?_)
 obtain rfl:=oi h
 exact Tj ⟨lr,Z,hs43_23,hs43_24,hs43_25,Z⟩
 rintro ρ48 M48 H48 ⟨hle48,rfl,hs48_23,hs48_24,hs48_25,hs48_54⟩
 refine Ch h hs48_54 (fun hb52 h=> ?_) (fun hb52 h=> ?_)
 refine Sr (qa (Bv false) (Nt (Cr (Br (Tr (WQ.leaveR (Sum.inr ()) (oi h).symm (fun heq31=> ?_)))))))
 subst heq31
 have h:=(elimR hK31)
 refine Br (Tr ?_)
 have h:=KK.early h h327
 exact Dr (Rf h [] Z (Rs Z Z) (((hle22.trans hle31).trans hle43).trans hle48) ⟨Z,Z⟩)
 exact Ck (Bn (Tc (Cg (qu (Iv (IntKind.i64.wrap (x32+1))) (PO.add hs48_25 Z) (qm (Iv (IntKind.i64.wrap (x32+1))) (Wz (WQ.again (IntKind.i64.wrap (x32+1)) (oi h).symm ⟨((hle31.trans hle43).trans hle48),Z,hs48_23,hs48_24,Z⟩)))))))
 refine WC.exit (WQ.thenE (WQ.leaveE (Sum.inl ()) (oi h).symm (fun heq31=> ?_)))
 subst heq31
 have h:=elimL hK31
 exact WQ.blockH (Dr (WQ.thenFE h ⟨hle31,Z⟩))
 rintro _ ρ27 M27 H27 rfl ⟨hle27,rfl⟩
 have h:=(Sum.elim_inl _ _ _).symm.trans h
 exact Sr (qa (Bv true) (Nt (Cr (Rf h [] Z (Rs Z Z) (hle22.trans hle27) ⟨Z,Z⟩))))
noncomputable def f_record_text_116 (a0:ByteArray) (a1:Bool):Option Bool:=
 (if(!a1)=true then(some (decide (a0=(⟨#[]⟩:ByteArray))))else((f_record_Name a0).bind fun r22=>(some r22)))
def f_record_text_116_post (a0:ByteArray) (a1:Bool):Bool→Value→IM→HL→Prop:=
 fun(r0:Bool) (v:Value) (M':IM) (H':HL)=>(.bool r0)=v∧H'=[]
theorem f_record_text_116_ok (a0:ByteArray) (a1:Bool) (M:IM) (res:Bool) (h:f_record_text_116 a0 a1=some res):
 Tri Tryz.prog 115 #[(Sv a0),(Bv a1),(.func (.func 116) #[] #[])] M [] (f_record_text_116_post a0 a1 res):=by
 unfold f_record_text_116 at h
 refine Te Tryz.func115 Z Z ?_
 intro F ρ hρ
 refine Sr (qa (Bv false) (Nt (Cs (Sr (qM (Bv a1) (hρ 1) (qu (Bv (!a1)) (PO.not Z) (Nt (Ch h Z (fun hb21 h=> ?_) (fun hb21 h=> ?_)))))))))
 exact Sr (qM (Sv a0) (hρ 0) (qu (Bv (decide (a0=(⟨#[]⟩:ByteArray)))) (PO.seql Z Z) (qa (Bv (decide (a0=(⟨#[]⟩:ByteArray)))) (Nt (Cr (Tr (Rf h [] Z (Rs Z Z) lr ⟨Z,Z⟩)))))))
 refine Ck (Tc (Sr (qM (.func (.func 116) #[] #[]) (hρ 2) (qM (Sv a0) (hρ 0) ?_))))
 obtain ⟨r22,hr23,h⟩:=bnd h
 refine We (EO.callV0 (first:=#[]) (cap:=#[]) co116 Z (f_record_Name_ok a0 _ r22 hr23) (argsV1 Z Z)) Z ?_
 rintro _ M24 _ hle25 ⟨_,⟨rfl,rfl⟩,rfl⟩
 exact WL.a0 (qa (Bv r22) (Nt (Cr (Rf h [] Z (Rs Z Z) hle25 ⟨Z,Z⟩))))
noncomputable def f_record_Check_2 (a0:ByteArray):Option Bool:=
 (some (decide ((a0.size:Int)≤(256:Int))))
def f_record_Check_2_post (a0:ByteArray):Bool→Value→IM→HL→Prop:=
 fun(r0:Bool) (v:Value) (M':IM) (H':HL)=>(.bool r0)=v∧H'=[]
theorem f_record_Check_2_ok (a0:ByteArray) (M:IM) (res:Bool) (h:f_record_Check_2 a0=some res):
 Tri Tryz.prog 113 #[(Sv a0)] M [] (f_record_Check_2_post a0 res):=by
 unfold f_record_Check_2 at h
 refine Te Tryz.func113 Z Z ?_
 intro F ρ hρ
 exact Sr (qa (Bv false) (Ns (qM (Sv a0) (hρ 0) (qu (Iv (a0.size:Int)) (PO.lenStr Tryz.underlying9 Z) (qu (Bv (decide ((a0.size:Int)≤(256:Int)))) (PO.leq Z Z) (qa (Bv (decide ((a0.size:Int)≤(256:Int)))) (Nt (Cr (Rf h [] Z (Rs Z Z) lr ⟨Z,Z⟩)))))))))
noncomputable def f_record_text_113 (a0:ByteArray) (a1:Bool):Option Bool:=
 (if(!a1)=true then(some (decide (a0=(⟨#[]⟩:ByteArray))))else((f_record_Check_2 a0).bind fun r22=>(some r22)))
def f_record_text_113_post (a0:ByteArray) (a1:Bool):Bool→Value→IM→HL→Prop:=
 fun(r0:Bool) (v:Value) (M':IM) (H':HL)=>(.bool r0)=v∧H'=[]
theorem f_record_text_113_ok (a0:ByteArray) (a1:Bool) (M:IM) (res:Bool) (h:f_record_text_113 a0 a1=some res):
 Tri Tryz.prog 115 #[(Sv a0),(Bv a1),(.func (.func 113) #[] #[])] M [] (f_record_text_113_post a0 a1 res):=by
 unfold f_record_text_113 at h
 refine Te Tryz.func115 Z Z ?_
 intro F ρ hρ
 refine Sr (qa (Bv false) (Nt (Cs (Sr (qM (Bv a1) (hρ 1) (qu (Bv (!a1)) (PO.not Z) (Nt (Ch h Z (fun hb21 h=> ?_) (fun hb21 h=> ?_)))))))))
 exact Sr (qM (Sv a0) (hρ 0) (qu (Bv (decide (a0=(⟨#[]⟩:ByteArray)))) (PO.seql Z Z) (qa (Bv (decide (a0=(⟨#[]⟩:ByteArray)))) (Nt (Cr (Tr (Rf h [] Z (Rs Z Z) lr ⟨Z,Z⟩)))))))
 refine Ck (Tc (Sr (qM (.func (.func 113) #[] #[]) (hρ 2) (qM (Sv a0) (hρ 0) ?_))))
 obtain ⟨r22,hr23,h⟩:=bnd h
 refine We (EO.callV0 (first:=#[]) (cap:=#[]) co113 Z (f_record_Check_2_ok a0 _ r22 hr23) (argsV1 Z Z)) Z ?_
 rintro _ M24 _ hle25 ⟨_,⟨rfl,rfl⟩,rfl⟩
 exact WL.a0 (qa (Bv r22) (Nt (Cr (Rf h [] Z (Rs Z Z) hle25 ⟨Z,Z⟩))))
noncomputable def f_slices_Index_int_int_l0 (a0:(List Int)) (a1:Int) (s_:Int):Option (Int⊕(Unit⊕Int)):=
 match s_ with
 |x23=>
 (if(decide (x23<(a0.length:Int)))=true then(grd (0≤x23∧x23<a0.length) (if(decide (a1=(rd a0 x23)))=true then(some (Sum.inr (Sum.inr x23)))else(some (Sum.inl (IntKind.i64.wrap (x23+(1:Int)))))))else(some (Sum.inr (Sum.inl ()))))
noncomputable def f_slices_Index_int_int (a0:(List Int)) (a1:Int):Option Int:=
 ((((iter (f_slices_Index_int_int_l0 a0 a1) (0:Int)).bind (Sum.elim (fun _=>(some (Sum.inl ()))) (fun(x24:Int)=>(((some x24)).bind fun r=>some (Sum.inr r))))):Option (Unit⊕Int)).bind (Sum.elim (fun _=>(some (-1:Int))) some))
def f_slices_Index_int_int_post (a0:(List Int)) (a1:Int) (v0:Value):Int→Value→IM→HL→Prop:=
 fun(r0:Int) (v:Value) (M':IM) (H':HL)=>(.int .i64 r0)=v∧H'=[]
theorem f_slices_Index_int_int_ok (a0:(List Int)) (a1:Int) (M:IM) (v0:Value) (h0:RS (Kd.int .i64) M v0 a0) (res:Int) (h:f_slices_Index_int_int a0 a1=some res):
 Tri Tryz.prog 148 #[v0,(Iv a1)] M [] (f_slices_Index_int_int_post a0 a1 v0 res):=by
 unfold f_slices_Index_int_int at h
 refine Te Tryz.func148 Z Z ?_
 intro F ρ hρ
 refine Sr (qa (Iv 0) (Nt ?_))
 obtain ⟨j21,hj21,h⟩:=bnd h
 refine WC.joinE (fun(_:Unit) ρ' M' H'=>M.le M'∧F=H') j21 ?_ ?_
 have h321:=h
 have h:=hj21
 refine Sr (qM v0 (hρ 0) (qu (Iv (a0.length:Int)) (PO.lenS Tryz.underlying56 Z h0.len) (qm (Iv 0) (Nt (Bk ?_)))))
 obtain ⟨e22,he22,hK22⟩:=bnd h
 clear h
 refine WC.loop he22 (fun(x23:Int) ρ' M' H'=>M.le M'∧F=H'∧ρ' 0=v0∧ρ' 1=(Iv a1)∧ρ' 7=(Iv (a0.length:Int))∧ρ' 8=(Iv x23)) ?_ ?_
 exact⟨lr,Z,(hρ 0),(hρ 1),Z,Z⟩
 rintro x23 o22 ρ22 M22 H22 h ⟨hle22,rfl,hs22_0,hs22_1,hs22_7,hs22_8⟩
 unfold f_slices_Index_int_int_l0 at h
 refine Sr (qu (Bv (decide (x23<(a0.length:Int)))) (PO.lss hs22_8 hs22_7) (Nt (Cs (Ch h Z (fun hb25 h=> ?_) (fun hb25 h=> ?_)))))
 refine Ck (Tc (Cs (Bk (Sr (qM (Iv x23) hs22_8 (qa (Iv x23) (Ns (qM (Iv a1) hs22_1 (qM v0 hs22_0 (qm (Iv x23) ?_))))))))))
 obtain ⟨hg26,h⟩:=grd_i h
 have h0:=h0.mono hle22
 obtain ⟨p27,cs28,hat29,hrc30,hhas31⟩:=h0.at hg26.1 hg26.2 (by decide)
 obtain rfl:=hrc30
 refine qu (.pointer (some p27)) (PO.indexAddr (n:=a0.length) Tryz.underlying56 sz3 Z Z hg26.1 hg26.2 hat29) (qu (Iv (rd a0 x23)) (PO.loadM pl3 Z (IM.has0 hhas31)) (qu (Bv (decide (a1=(rd a0 x23)))) (PO.eql Z Z) (Nt (Ch h Z (fun hb33 h=> ?_) (fun hb33 h=> ?_)))))
 refine Sr (qm (Iv x23) (qa (Iv x23) (Nt (Cr (Br (Tr (WQ.leaveR (Sum.inr x23) (oi h).symm (fun heq22=> ?_))))))))
 subst heq22
 have h:=(elimR hK22)
 refine Br (Tr ?_)
 have h:=KK.early h h321
 exact Rf h [] Z (Rs Z Z) hle22 ⟨Z,Z⟩
 exact Ck (Bn (Tc (Cg (qu (Iv (IntKind.i64.wrap (x23+1))) (PO.add hs22_8 Z) (qm (Iv (IntKind.i64.wrap (x23+1))) (Wz (WQ.again (IntKind.i64.wrap (x23+1)) (oi h).symm ⟨hle22,Z,hs22_0,hs22_1,hs22_7,Z⟩)))))))
 refine WC.exit (WQ.thenE (WQ.leaveE (Sum.inl ()) (oi h).symm (fun heq22=> ?_)))
 subst heq22
 have h:=elimL hK22
 exact WQ.blockH (WQ.thenFE h ⟨hle22,Z⟩)
 rintro _ ρ21 M21 H21 rfl ⟨hle21,rfl⟩
 have h:=(Sum.elim_inl _ _ _).symm.trans h
 exact Sr (qa (Iv (-1:Int)) (Nt (Cr (Rf h [] Z (Rs Z Z) hle21 ⟨Z,Z⟩))))
noncomputable def f_slices_Contains_int_int (a0:(List Int)) (a1:Int):Option Bool:=
 ((f_slices_Index_int_int a0 a1).bind fun r21=>(some (decide ((0:Int)≤r21))))
def f_slices_Contains_int_int_post (a0:(List Int)) (a1:Int) (v0:Value):Bool→Value→IM→HL→Prop:=
 fun(r0:Bool) (v:Value) (M':IM) (H':HL)=>(.bool r0)=v∧H'=[]
theorem f_slices_Contains_int_int_ok (a0:(List Int)) (a1:Int) (M:IM) (v0:Value) (h0:RS (Kd.int .i64) M v0 a0) (res:Bool) (h:f_slices_Contains_int_int a0 a1=some res):
 Tri Tryz.prog 146 #[v0,(Iv a1)] M [] (f_slices_Contains_int_int_post a0 a1 v0 res):=by
 unfold f_slices_Contains_int_int at h
 refine Te Tryz.func146 Z Z ?_
 intro F ρ hρ
 refine Sr (qa (Bv false) (Ns (qM v0 (hρ 0) (qM (Iv a1) (hρ 1) ?_))))
 obtain ⟨r21,hr22,h⟩:=bnd h
 refine We (Ca co148 (f_slices_Index_int_int_ok a0 a1 _ _ h0 r21 hr22) (args2 Z Z)) Z ?_
 rintro _ M23 _ hle24 ⟨_,⟨rfl,rfl⟩,rfl⟩
 exact WL.a0 (qu (Bv (decide ((0:Int)≤r21))) (PO.geq Z Z) (qa (Bv (decide ((0:Int)≤r21))) (Nt (Cr (Rf h [] Z (Rs Z Z) hle24 ⟨Z,Z⟩)))))
noncomputable def f_record_Brokers_l0 (a0:(List Int)) (s_:Int):Option (Int⊕(Unit⊕Unit)):=
 match s_ with
 |x24=>
 (if(decide (x24<(a0.length:Int)))=true then(grd (0≤x24∧x24<a0.length) (((if(decide ((rd a0 x24)<(1:Int)))=true then(some true)else(if(decide ((64:Int)<(rd a0 x24)))=true then(some true)else(grd (0≤(0:Int)∧(0:Int)≤x24∧x24≤(a0.length:Int)) ((f_slices_Contains_int_int (sub a0 (0:Int) x24) (rd a0 x24)).bind fun r39=>(some r39))))):Option Bool).bind fun x33=>(if x33=true then(some (Sum.inr (Sum.inr ())))else(some (Sum.inl (IntKind.i64.wrap (x24+(1:Int))))))))else(some (Sum.inr (Sum.inl ()))))
noncomputable def f_record_Brokers (a0:(List Int)):Option Bool:=
 (if(decide ((7:Int)<(a0.length:Int)))=true then(some false)else((((iter (f_record_Brokers_l0 a0) (0:Int)).bind (Sum.elim (fun _=>(some (Sum.inl ()))) (fun _=>(((some false)).bind fun r=>some (Sum.inr r))))):Option (Unit⊕Bool)).bind (Sum.elim (fun _=>(some true)) some)))
def f_record_Brokers_post (a0:(List Int)) (v0:Value):Bool→Value→IM→HL→Prop:=
 fun(r0:Bool) (v:Value) (M':IM) (H':HL)=>(.bool r0)=v∧H'=[]
theorem f_record_Brokers_ok (a0:(List Int)) (M:IM) (v0:Value) (h0:RS (Kd.int .i64) M v0 a0) (res:Bool) (h:f_record_Brokers a0=some res):
 Tri Tryz.prog 139 #[v0] M [] (f_record_Brokers_post a0 v0 res):=by
 unfold f_record_Brokers at h
 refine Te Tryz.func139 Z Z ?_
 intro F ρ hρ
 refine Sr (qa (Bv false) (Nt (Cs (Sr (qM v0 (hρ 0) (qu (Iv (a0.length:Int)) (PO.lenS Tryz.underlying56 Z h0.len) (qu (Bv (decide ((7:Int)<(a0.length:Int)))) (PO.gtr Z Z) (Nt (Ch h Z (fun hb21 h=> ?_) (fun hb21 h=> ?_))))))))))
 exact Sr (qa (Bv false) (Nt (Cr (Tr (Rf h [] Z (Rs Z Z) lr ⟨Z,Z⟩)))))
 refine Ck (Tc ?_)
 obtain ⟨j22,hj22,h⟩:=bnd h
 refine WC.joinE (fun(_:Unit) ρ' M' H'=>M.le M'∧F=H') j22 ?_ ?_
 have h322:=h
 have h:=hj22
 refine Sr (qM v0 (hρ 0) (qu (Iv (a0.length:Int)) (PO.lenS Tryz.underlying56 Z h0.len) (qm (Iv 0) (Nt (Bk ?_)))))
 obtain ⟨e23,he23,hK23⟩:=bnd h
 clear h
 refine WC.loop he23 (fun(x24:Int) ρ' M' H'=>M.le M'∧F=H'∧ρ' 0=v0∧ρ' 8=v0∧ρ' 9=(Iv (a0.length:Int))∧ρ' 10=(Iv x24)) ?_ ?_
 exact⟨lr,Z,(hρ 0),Z,Z,Z⟩
 rintro x24 o23 ρ23 M23 H23 h ⟨hle23,rfl,hs23_0,hs23_8,hs23_9,hs23_10⟩
 unfold f_record_Brokers_l0 at h
 refine Sr (qu (Bv (decide (x24<(a0.length:Int)))) (PO.lss hs23_10 hs23_9) (Nt (Cs (Ch h Z (fun hb25 h=> ?_) (fun hb25 h=> ?_)))))
 refine Ck (Tc (Cs (Bk (Sr (qM (Iv x24) hs23_10 ?_)))))
 obtain ⟨hg26,h⟩:=grd_i h
 have h0:=h0.mono hle23
 obtain ⟨p27,cs28,hat29,hrc30,hhas31⟩:=h0.at hg26.1 hg26.2 (by decide)
 obtain rfl:=hrc30
 refine qu (.pointer (some p27)) (PO.indexAddr (n:=a0.length) Tryz.underlying56 sz3 hs23_8 hs23_10 hg26.1 hg26.2 hat29) (qu (Iv (rd a0 x24)) (PO.loadM pl3 Z (IM.has0 hhas31)) (qa (Iv x24) (qa (Iv (rd a0 x24)) (Nt ?_))))
 obtain ⟨x33,hj34,h⟩:=bnd h
 refine Jf (fun(x33:Bool) ρ' M' H'=>M23.le M'∧F=H'∧ρ' 0=v0∧ρ' 8=v0∧ρ' 9=(Iv (a0.length:Int))∧ρ' 10=(Iv x24)∧ρ' 27=(Bv x33)) x33 ?_ ?_
 have h:=hj34
 refine Cg (qm (Iv (rd a0 x24)) (qu (Bv (decide ((rd a0 x24)<1))) (PO.lss Z Z) (qm (Bv (decide ((rd a0 x24)<1))) ?_)))
 rcases Bi h with⟨hb35,h⟩ |⟨hb35,h⟩
 iterate 2 refine Of 17 Z Z hb35 Z ?_
 refine qu (Bv true) (Pt Z hb35 Z) (qm (Bv true) ?_)
 iterate 5 refine Of 21 Z Z Z Z ?_
 refine qu (Bv true) (Pt Z Z Z) (Wz ?_)
 obtain rfl:=oi h
 exact Tj ⟨lr,Z,hs23_0,hs23_8,hs23_9,hs23_10,Z⟩
 refine On 17 Z Z hb35 (qm (Iv (rd a0 x24)) (qo 17 hb35 (Bv (decide ((64:Int)<(rd a0 x24)))) (PO.gtr Z Z) (qu (Bv (decide ((64:Int)<(rd a0 x24)))) (Pf Z hb35 Z) (qm (Bv (decide ((64:Int)<(rd a0 x24)))) ?_))))
 rcases Bi h with⟨hb36,h⟩ |⟨hb36,h⟩
 iterate 5 refine Of 21 Z Z hb36 Z ?_
 refine qu (Bv true) (Pt Z hb36 Z) (Wz ?_)
 obtain rfl:=oi h
 exact Tj ⟨lr,Z,hs23_0,hs23_8,hs23_9,hs23_10,Z⟩
 refine On 21 Z Z hb36 (qM v0 hs23_0 (On 21 Z Z hb36 (qm (Iv x24) (On 21 Z Z hb36 ?_))))
 obtain ⟨hg37,h⟩:=grd_i h
 have h38:=h0.sub hg37.1 hg37.2.1 hg37.2.2
 refine qu (slV v0 1 ((0:Int)).toNat (x24).toNat) (PO.slice (n:=a0.length) (l:=((0:Int)).toNat) (h:=(x24).toNat) Tryz.underlying56 sz3 Z h0.len h0.cap (bound0 Z) ⟨_,_,Z,(Int.le_trans hg37.1 hg37.2.1),Z⟩ (Int.toNat_le_toNat hg37.2.1) (toNat_le_len hg37.2.2)) (On 21 Z Z hb36 (qm (Iv (rd a0 x24)) (On 21 Z Z hb36 ?_)))
 obtain ⟨r39,hr40,h⟩:=bnd h
 refine We (Ca co146 (f_slices_Contains_int_int_ok (sub a0 (0:Int) x24) (rd a0 x24) _ _ h38 r39 hr40) (args2 Z Z)) Z ?_
 rintro _ M41 _ hle42 ⟨_,⟨rfl,rfl⟩,rfl⟩
 refine WL.a0 (qu (Bv r39) (Pf Z hb36 Z) (Wz ?_))
 obtain rfl:=oi h
 exact Tj ⟨hle42,Z,hs23_0,hs23_8,hs23_9,hs23_10,Z⟩
 rintro ρ34 M34 H34 ⟨hle34,rfl,hs34_0,hs34_8,hs34_9,hs34_10,hs34_27⟩
 refine Ch h hs34_27 (fun hb44 h=> ?_) (fun hb44 h=> ?_)
 refine Sr (qa (Bv false) (Nt (Cr (Br (Tr (WQ.leaveR (Sum.inr ()) (oi h).symm (fun heq23=> ?_)))))))
 subst heq23
 have h:=(elimR hK23)
 refine Br (Tr ?_)
 have h:=KK.early h h322
 exact Rf h [] Z (Rs Z Z) (hle23.trans hle34) ⟨Z,Z⟩
 exact Ck (Bn (Tc (Cg (qu (Iv (IntKind.i64.wrap (x24+1))) (PO.add hs34_10 Z) (qm (Iv (IntKind.i64.wrap (x24+1))) (Wz (WQ.again (IntKind.i64.wrap (x24+1)) (oi h).symm ⟨(hle23.trans hle34),Z,hs34_0,hs34_8,hs34_9,Z⟩)))))))
 refine WC.exit (WQ.thenE (WQ.leaveE (Sum.inl ()) (oi h).symm (fun heq23=> ?_)))
 subst heq23
 have h:=elimL hK23
 exact WQ.blockH (WQ.thenFE h ⟨hle23,Z⟩)
 rintro _ ρ22 M22 H22 rfl ⟨hle22,rfl⟩
 have h:=(Sum.elim_inl _ _ _).symm.trans h
 exact Sr (qa (Bv true) (Nt (Cr (Rf h [] Z (Rs Z Z) hle22 ⟨Z,Z⟩))))
noncomputable def f_record_row (a0:(List Int)) (a1:Bool):Option Bool:=
 (if(!a1)=true then(some (decide ((a0.length:Int)=(0:Int))))else((f_record_Brokers a0).bind fun r22=>(some r22)))
def f_record_row_post (a0:(List Int)) (a1:Bool) (v0:Value):Bool→Value→IM→HL→Prop:=
 fun(r0:Bool) (v:Value) (M':IM) (H':HL)=>(.bool r0)=v∧H'=[]
theorem f_record_row_ok (a0:(List Int)) (a1:Bool) (M:IM) (v0:Value) (h0:RS (Kd.int .i64) M v0 a0) (res:Bool) (h:f_record_row a0 a1=some res):
 Tri Tryz.prog 117 #[v0,(Bv a1)] M [] (f_record_row_post a0 a1 v0 res):=by
 unfold f_record_row at h
 refine Te Tryz.func117 Z Z ?_
 intro F ρ hρ
 refine Sr (qa (Bv false) (Nt (Cs (Sr (qM (Bv a1) (hρ 1) (qu (Bv (!a1)) (PO.not Z) (Nt (Ch h Z (fun hb21 h=> ?_) (fun hb21 h=> ?_)))))))))
 exact Sr (qM v0 (hρ 0) (qu (Iv (a0.length:Int)) (PO.lenS Tryz.underlying56 Z h0.len) (qu (Bv (decide ((a0.length:Int)=(0:Int)))) (PO.eql Z Z) (qa (Bv (decide ((a0.length:Int)=(0:Int)))) (Nt (Cr (Tr (Rf h [] Z (Rs Z Z) lr ⟨Z,Z⟩))))))))
 refine Ck (Tc (Sr (qM v0 (hρ 0) ?_)))
 obtain ⟨r22,hr23,h⟩:=bnd h
 refine We (Ca co139 (f_record_Brokers_ok a0 _ _ h0 r22 hr23) (args1 Z)) Z ?_
 rintro _ M24 _ hle25 ⟨_,⟨rfl,rfl⟩,rfl⟩
 exact WL.a0 (qa (Bv r22) (Nt (Cr (Rf h [] Z (Rs Z Z) hle25 ⟨Z,Z⟩))))

end Go.Proofs.YtkflneabcannnaaGreatDoor.G
