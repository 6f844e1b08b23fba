/- Go functions: what they come to, and that they do. Printed by a program of the session (gen). -/
import Derived.Test.YtkflneabcannnaaGreatDoorPF
import Derived.Test.YtkflneabcannnaaGreatDoorP0
import Derived.Test.YtkflneabcannnaaGreatDoorP1
import Derived.Test.YtkflneabcannnaaGreatDoorP2
import Derived.Test.YtkflneabcannnaaGreatDoorKConv
import Derived.Test.YtkflneabcannnaaGreatDoorKShar2
import Derived.Test.YtkflneabcannnaaGreatDoorKTight2
set_option linter.unusedVariables false
set_option linter.unusedSimpArgs false
set_option maxHeartbeats 8000000
set_option maxRecDepth 100000
namespace Go.Proofs.YtkflneabcannnaaGreatDoor.G
open Go Go.KK

noncomputable def f_record_Put_2 (a0:Int) (a1:ByteArray) (a2:Int) (a3:(List Int)):Option (List Int):=
 (if(decide ((andI .i64 a2 a0)≠(0:Int)))=true then((f_wire_Text a3 (bytesOf a1)).bind fun r25=>(some r25))else(some a3))
def f_record_Put_2_post (a0:Int) (a1:ByteArray) (a2:Int) (a3:(List Int)) (v3:Value) (g2 g3:Nat):(List Int)→Value→IM→HL→Prop:=
 fun(r0:(List Int)) (v:Value) (M':IM) (H':HL)=>∃ w0 d1,(.tuple #[])=v∧H'=[[(g2, .cells #[(.int .i64 a2)] 3 (0,0))],[(g3, .cells #[w0] 23 (0,0))],d1]∧OwnS (Kd.int .u8) M' w0 r0 d1
theorem f_record_Put_2_ok (a0:Int) (a1:ByteArray) (a2:Int) (a3:(List Int)) (M:IM) (v3:Value) (g2 g3:Nat) (c3:Chunk) (h3:OwnS (Kd.int .u8) M v3 a3 c3) (res:(List Int)) (h:f_record_Put_2 a0 a1 a2 a3=some res):
 Tri Tryz.prog 95 #[(Iv a0),(Sv a1),(pt g2 0),(pt g3 0)] M [[(g2, .cells #[(Iv a2)] 3 (0,0))],[(g3, .cells #[v3] 23 (0,0))],c3] (f_record_Put_2_post a0 a1 a2 a3 v3 g2 g3 res):=by
 unfold f_record_Put_2 at h
 refine Te Tryz.func95 Z Z ?_
 intro F ρ hρ
 refine Sr (qu (Iv a2) (Lb 0 pl3 (hρ 2) Z Z) (qM (Iv a0) (hρ 0) (qu (Iv (andI .i64 a2 a0)) (PO.and Z Z) (qu (Bv (decide ((andI .i64 a2 a0)≠0))) (PO.neq Z Z) (Nt (Ch h Z (fun hb21 h=> ?_) (fun hb21 h=> ?_)))))))
 refine Cg (qu v3 (Lb 1 pl23 (hρ 3) Z Z) (qM (Sv a1) (hρ 1) (We (EO.s2b Tryz.underlying9 Tryz.underlying23 Tryz.underlying5 Z) Z ?_)))
 rintro v24 _ _ - ⟨rfl,c22,rfl,h23⟩
 obtain ⟨r25,hr26,h⟩:=bnd h
 refine WL.f3 (WL.f1 (We (EO.call2 co27 (Tri.lend h23.excl fun w0_ H0_ hs0_=>(f_wire_Text_ok a3 (bytesOf a1) _ _ _ _ (h3.mono (IM.le_add _ _)) (h23.rs hs0_) r25 hr26)) (args2 Z Z)) Z ?_))
 rintro _ _ _ hle28 ⟨_,⟨Ml30,Hl31,hll32,rfl,rfl,⟨vq29,cq29,rfl,rfl,hq29⟩⟩,rfl⟩
 have hq29:OwnS (Kd.int .u8) (Ml30.minus c22) vq29 r25 cq29:=hq29.any (Kd.int_flat _)
 refine WL.a2 (WL.f3 (We (Es vq29 [vq29] hq29.cells sz23 (hρ 3) Z (Ow hq29) Z Z Z) Z ?_))
 rintro _ _ _ - ⟨rfl,rfl⟩
 exact Wz (Qa (Dr (Qa (Qa (Qb (WQ.endsF h [[(g2, .cells #[(Iv a2)] 3 (0,0))],[(g3, .cells #[vq29] 23 (0,0))],cq29] Z (results0 Z) hle28 ⟨vq29,cq29,Z,Z,hq29⟩))))))
 exact Ck (WQ.endsF h [[(g2, .cells #[(Iv a2)] 3 (0,0))],[(g3, .cells #[v3] 23 (0,0))],c3] Z (results0 Z) lr ⟨v3,c3,Z,Z,h3⟩)
noncomputable def f_wire_Row_l0 (a1:(List Int)) (s_:((List Int)×Int)):Option (((List Int)×Int)⊕(List Int)):=
 match s_ with
 |(x29,x30)=>
 (if(decide (x30<(a1.length:Int)))=true then(grd (0≤x30∧x30<a1.length) ((f_wire_Int x29 (rd a1 x30)).bind fun r40=>(some (Sum.inl (r40,IntKind.i64.wrap (x30+(1:Int)))))))else(some (Sum.inr x29)))
noncomputable def f_wire_Row (a0:(List Int)) (a1:(List Int)):Option (List Int):=
 ((f_wire_Int a0 (a1.length:Int)).bind fun r21=>((((iter (f_wire_Row_l0 a1) (r21,(0:Int))).bind (fun(x31:(List Int))=>(some x31))):Option (List Int)).bind fun x26=>(some x26)))
def f_wire_Row_post (a0:(List Int)) (a1:(List Int)) (v0 v1:Value):(List Int)→Value→IM→HL→Prop:=
 fun(r0:(List Int)) (v:Value) (M':IM) (H':HL)=>∃ vz0 cz0,vz0=v∧H'=[cz0]∧OwnS (Kd.int .u8) M' vz0 r0 cz0
theorem f_wire_Row_ok (a0:(List Int)) (a1:(List Int)) (M:IM) (v0 v1:Value) (c0:Chunk) (h0:OwnS (Kd.int .u8) M v0 a0 c0) (h1:RS (Kd.int .i64) M v1 a1) (res:(List Int)) (h:f_wire_Row a0 a1=some res):
 Tri Tryz.prog 97 #[v0,v1] M [c0] (f_wire_Row_post a0 a1 v0 v1 res):=by
 unfold f_wire_Row at h
 refine Te Tryz.func97 Z Z ?_
 intro F ρ hρ
 refine Sr (qa Zs (Ns (qM v0 (hρ 0) (qM v1 (hρ 1) (qu (Iv (a1.length:Int)) (PO.lenS Tryz.underlying56 Z h1.len) ?_)))))
 obtain ⟨r21,hr22,h⟩:=bnd h
 refine We (Cb co24 (f_wire_Int_ok a0 (a1.length:Int) _ _ _ h0 r21 hr22) (args2 Z Z)) Z ?_
 rintro _ M23 _ hle24 ⟨_,⟨vq25,cq25,rfl,rfl,hq25⟩,rfl⟩
 refine WL.a1 (qa vq25 (Nt ?_))
 obtain ⟨x26,hj27,h⟩:=bnd h
 refine Jf (fun(x26:(List Int)) ρ' M' H'=>∃ vx26 cx26,M23.le M'∧cx26::F=H'∧ρ' 0=vx26∧OwnS (Kd.int .u8) M' vx26 x26 cx26) x26 ?_ ?_
 have h:=hj27
 refine Sr (qM v1 (hρ 1) ?_)
 have h1:=h1.mono hle24
 refine qu (Iv (a1.length:Int)) (PO.lenS Tryz.underlying56 Z h1.len) (qm (Iv 0) (Nt (Bk ?_)))
 obtain ⟨e28,he28,hK28⟩:=bnd h
 clear h
 refine WC.loop he28 (fun(p_:((List Int)×Int)) ρ' M' H'=>match p_ with |(x29,x30)=>∃ vx29 cx29,M23.le M'∧cx29::F=H'∧ρ' 0=vx29∧ρ' 11=v1∧ρ' 12=(Iv (a1.length:Int))∧ρ' 13=(Iv x30)∧OwnS (Kd.int .u8) M' vx29 x29 cx29) ?_ ?_
 exact⟨vq25,cq25,lr,Z,Z,Z,Z,Z,hq25⟩
 rintro ⟨x29,x30⟩ o28 ρ28 M28 H28 h ⟨vx29,cx29,hle28,rfl,hs28_0,hs28_11,hs28_12,hs28_13,hx29⟩
 unfold f_wire_Row_l0 at h
 refine Sr (qu (Bv (decide (x30<(a1.length:Int)))) (PO.lss hs28_13 hs28_12) (Nt (Cs (Ch h Z (fun hb32 h=> ?_) (fun hb32 h=> ?_)))))
 refine Ck (Tc (Cs (Bk (Sr ?_))))
 obtain ⟨hg33,h⟩:=grd_i h
 have h1:=h1.mono hle28
 obtain ⟨p34,cs35,hat36,hrc37,hhas38⟩:=h1.at hg33.1 hg33.2 (by decide)
 obtain rfl:=hrc37
 refine qu (.pointer (some p34)) (PO.indexAddr (n:=a1.length) Tryz.underlying56 sz3 hs28_11 hs28_13 hg33.1 hg33.2 hat36) (qu (Iv (rd a1 x30)) (PO.loadM pl3 Z (IM.has0 hhas38)) (qa (Iv (rd a1 x30)) (Nt (Cg (qM vx29 hs28_0 (qm (Iv (rd a1 x30)) ?_))))))
 obtain ⟨r40,hr41,h⟩:=bnd h
 refine We (Cb co24 (f_wire_Int_ok x29 (rd a1 x30) _ _ _ hx29 r40 hr41) (args2 Z Z)) Z ?_
 rintro _ M42 _ hle43 ⟨_,⟨vq44,cq44,rfl,rfl,hq44⟩,rfl⟩
 exact WL.a1 (qa vq44 (Wz (Bn (Tc (Cg (qu (Iv (IntKind.i64.wrap (x30+1))) (PO.add hs28_13 Z) (qm (Iv (IntKind.i64.wrap (x30+1))) (Wz (WQ.again (r40,IntKind.i64.wrap (x30+1)) (oi h).symm ⟨vq44,cq44,(hle28.trans hle43),Z,Z,hs28_11,hs28_12,Z,hq44⟩)))))))))
 refine WC.exit (WQ.thenE (WQ.leaveE x29 (oi h).symm (fun heq28=> ?_)))
 subst heq28
 have h:=hK28
 refine WQ.blockH ?_
 obtain rfl:=oi h
 exact Tj ⟨vx29,cx29,hle28,Z,hs28_0,hx29⟩
 rintro ρ27 M27 H27 ⟨vx26,cx26,hle27,rfl,hs27_0,hx26⟩
 exact Sr (qM vx26 hs27_0 (qa vx26 (Nt (Cr (Rf h [cx26] Z (Rs Z Z) (hle24.trans hle27) ⟨vx26,cx26,Z,Z,hx26⟩)))))
noncomputable def f_record_Put_3 (a0:Int) (a1:(List Int)) (a2:Int) (a3:(List Int)):Option (List Int):=
 (if(decide ((andI .i64 a2 a0)≠(0:Int)))=true then((f_wire_Row a3 a1).bind fun r22=>(some r22))else(some a3))
def f_record_Put_3_post (a0:Int) (a1:(List Int)) (a2:Int) (a3:(List Int)) (v1 v3:Value) (g2 g3:Nat):(List Int)→Value→IM→HL→Prop:=
 fun(r0:(List Int)) (v:Value) (M':IM) (H':HL)=>∃ w0 d1,(.tuple #[])=v∧H'=[[(g2, .cells #[(.int .i64 a2)] 3 (0,0))],[(g3, .cells #[w0] 23 (0,0))],d1]∧OwnS (Kd.int .u8) M' w0 r0 d1
theorem f_record_Put_3_ok (a0:Int) (a1:(List Int)) (a2:Int) (a3:(List Int)) (M:IM) (v1 v3:Value) (g2 g3:Nat) (c3:Chunk) (h1:RS (Kd.int .i64) M v1 a1) (h3:OwnS (Kd.int .u8) M v3 a3 c3) (res:(List Int)) (h:f_record_Put_3 a0 a1 a2 a3=some res):
 Tri Tryz.prog 96 #[(Iv a0),v1,(pt g2 0),(pt g3 0)] M [[(g2, .cells #[(Iv a2)] 3 (0,0))],[(g3, .cells #[v3] 23 (0,0))],c3] (f_record_Put_3_post a0 a1 a2 a3 v1 v3 g2 g3 res):=by
 unfold f_record_Put_3 at h
 refine Te Tryz.func96 Z Z ?_
 intro F ρ hρ
 refine Sr (qu (Iv a2) (Lb 0 pl3 (hρ 2) Z Z) (qM (Iv a0) (hρ 0) (qu (Iv (andI .i64 a2 a0)) (PO.and Z Z) (qu (Bv (decide ((andI .i64 a2 a0)≠0))) (PO.neq Z Z) (Nt (Ch h Z (fun hb21 h=> ?_) (fun hb21 h=> ?_)))))))
 refine Cg (qu v3 (Lb 1 pl23 (hρ 3) Z Z) (qM v1 (hρ 1) ?_))
 obtain ⟨r22,hr23,h⟩:=bnd h
 refine Wb (We (Cb co97 (f_wire_Row_ok a3 a1 _ _ _ _ h3 h1 r22 hr23) (args2 Z Z)) Z ?_)
 rintro _ M24 _ hle25 ⟨_,⟨vq26,cq26,rfl,rfl,hq26⟩,rfl⟩
 refine WL.a1 (Wb (We (Es vq26 [vq26] hq26.cells sz23 (hρ 3) Z (Ow hq26) Z Z Z) Z ?_))
 rintro _ _ _ - ⟨rfl,rfl⟩
 exact Wz (Qa (Qa (Qb (WQ.endsF h [[(g2, .cells #[(Iv a2)] 3 (0,0))],[(g3, .cells #[vq26] 23 (0,0))],cq26] Z (results0 Z) hle25 ⟨vq26,cq26,Z,Z,hq26⟩))))
 exact Ck (WQ.endsF h [[(g2, .cells #[(Iv a2)] 3 (0,0))],[(g3, .cells #[v3] 23 (0,0))],c3] Z (results0 Z) lr ⟨v3,c3,Z,Z,h3⟩)
noncomputable def f_record_Put (a0:(List Int)) (a1:T_api_Record):Option ((List Int)×GErr):=
 ((f_record_Check a1).bind fun r23=>(if(!r23.isNil)=true then(some ([],r23))else((f_record_about a1.Kind).bind fun r30=>(grd (a0.length+[IntKind.u8.wrap a1.Kind].length≤274877906944) ((f_record_Put_1 (1:Int) a1.Broker r30 (a0++[IntKind.u8.wrap a1.Kind])).bind fun r43=>((f_record_Put_1 (2:Int) a1.Epoch r30 r43).bind fun r50=>((f_record_Put_1 (4:Int) a1.Topic r30 r50).bind fun r57=>((f_record_Put_1 (8:Int) a1.Part r30 r57).bind fun r64=>((f_record_Put_1 (16:Int) a1.Leader r30 r64).bind fun r71=>((f_record_Put_1 (32:Int) a1.Client r30 r71).bind fun r78=>((f_record_Put_1 (32:Int) a1.Serial r30 r78).bind fun r85=>((f_record_Put_1 (32:Int) a1.Code r30 r85).bind fun r92=>(((if(decide ((andI .i64 r30 (64:Int))≠(0:Int)))=true then((f_wire_Flag r92 a1.Flag).bind fun r102=>(some r102))else(some r92)):Option (List Int)).bind fun x99=>((f_record_Put_2 (128:Int) a1.Name r30 x99).bind fun r107=>((f_record_Put_2 (256:Int) a1.Key r30 r107).bind fun r114=>((f_record_Put_2 (512:Int) a1.Value r30 r114).bind fun r121=>((f_record_Put_2 (1024:Int) a1.Rack r30 r121).bind fun r128=>((f_record_Put_3 (2048:Int) a1.Ids r30 r128).bind fun r135=>((f_record_Put_3 (4096:Int) a1.Isr r30 r135).bind fun r142=>((f_record_Put_3 (8192:Int) a1.Add r30 r142).bind fun r149=>((f_record_Put_3 (8192:Int) a1.Drop r30 r149).bind fun r156=>(some (r156,GErr.nil)))))))))))))))))))))))
def f_record_Put_post (a0:(List Int)) (a1:T_api_Record) (v0 v1_14 v1_15 v1_16 v1_17:Value):((List Int)×GErr)→Value→IM→HL→Prop:=
 fun(p_:((List Int)×GErr)) (v:Value) (M':IM) (H':HL)=>match p_ with |(r0,r1)=>∃ vz0 cz0,(.tuple #[vz0,(GV r1)])=v∧H'=[cz0]∧OwnS (Kd.int .u8) M' vz0 r0 cz0
theorem f_record_Put_ok (a0:(List Int)) (a1:T_api_Record) (M:IM) (v0 v1_14 v1_15 v1_16 v1_17:Value) (c0:Chunk) (h0:OwnS (Kd.int .u8) M v0 a0 c0) (h1_14:RS (Kd.int .i64) M v1_14 a1.Ids) (h1_15:RS (Kd.int .i64) M v1_15 a1.Isr) (h1_16:RS (Kd.int .i64) M v1_16 a1.Add) (h1_17:RS (Kd.int .i64) M v1_17 a1.Drop) (res:((List Int)×GErr)) (h:f_record_Put a0 a1=some res):
 Tri Tryz.prog 67 #[v0,(a58_ a1 v1_14 v1_15 v1_16 v1_17)] M [c0] (f_record_Put_post a0 a1 v0 v1_14 v1_15 v1_16 v1_17 res):=by
 unfold f_record_Put at h
 refine Te Tryz.func67 Z Z ?_
 intro F ρ hρ
 refine Sr (We (EO.box (cs:=#[v0]) ((congrArg Value.cells (asE v0 (hρ 0))).trans h0.cells)) Z ?_)
 rintro _ _ _ - ⟨rfl,g21,rfl,rfl⟩
 refine We (EO.box (cs:=(l58 a1 v1_14 v1_15 v1_16 v1_17).toArray) (congrArg Value.cells (asE (a58_ a1 v1_14 v1_15 v1_16 v1_17) (hρ 1)))) Z ?_
 rintro _ _ _ - ⟨rfl,g22,rfl,rfl⟩
 refine qa Zs (qa (GV GErr.nil) (Nt (Cs (Sr (qu (a58_ a1 v1_14 v1_15 v1_16 v1_17) (La (cs:=(l58 a1 v1_14 v1_15 v1_16 v1_17)) 0 ag58 sz58 Z Z Z) ?_)))))
 obtain ⟨r23,hr24,h⟩:=bnd h
 refine We (Ca co77 (f_record_Check_ok a1 _ _ _ _ _ h1_14 h1_15 h1_16 h1_17 r23 hr24) (args1 Z)) Z ?_
 rintro _ M25 _ hle26 ⟨_,⟨rfl,rfl⟩,rfl⟩
 refine WL.a0 (qa (GV r23) (Ns (qm (GV r23) (qu (Bv (!r23.isNil)) (PO.errNotNil Tryz.underlying31 Z) (Nt (Ch h Z (fun hb28 h=> ?_) (fun hb28 h=> ?_)))))))
 refine Sr (qm (GV r23) (qa Zs (qa (GV r23) (Nt (Cr (Tr (WQ.e0 (Qa (Dr (Qa (Dr ?_)))))))))))
 exact Qa (Dr (Rf h [[]] Z (results2 Z Z Z) hle26 ⟨Zs,[],Z,Z,(OwnS.nil _ _)⟩))
 refine Ck (Tc (Sr (qu (pt g22 0) (Fa fo58_0 Z Z) (qu (Iv a1.Kind) (Lb 0 pl3 Z Z Z) ?_))))
 obtain ⟨r30,hr31,h⟩:=bnd h
 refine We (Ca co93 (f_record_about_ok a1.Kind _ r30 hr31) (args1 Z)) Z ?_
 rintro _ M32 _ hle33 ⟨_,⟨rfl,rfl⟩,rfl⟩
 refine WL.a0 (We (Al ze3 Z) Z ?_)
 rintro _ _ _ - ⟨rfl,g35,rfl,rfl⟩
 refine We (Es (Iv r30) [(Iv r30)] Z sz3 Z Z Z Z Z Z) Z ?_
 rintro _ _ _ - ⟨rfl,rfl⟩
 refine Ns (qu v0 (Lb 2 pl23 Z Z Z) (qu (pt g22 0) (Fa fo58_0 Z Z) (qu (Iv a1.Kind) (Lb 1 pl3 Z Z Z) (qu (Yv (IntKind.u8.wrap a1.Kind)) (PO.conv us3 Tryz.underlying5 Z) (We (EO.buildSliceL (cl:=[(Yv (IntKind.u8.wrap a1.Kind))]) Tryz.underlying23 iz5 Z (Pc (Yv (IntKind.u8.wrap a1.Kind)) Z Z Pz) Z) Z ?_)))))
 rintro _ _ _ - ⟨rfl,g36,rfl,rfl⟩
 have h38:OwnS (Kd.int .u8) M32 (.slice (some ⟨g36,0,none⟩) 1 1) [IntKind.u8.wrap a1.Kind] [(g36, .cells #[(Yv (IntKind.u8.wrap a1.Kind))] 5 (0,0))]:=OwnS.rows (css:=[[(Yv (IntKind.u8.wrap a1.Kind))]]) (Rows.cons Z Rows.nil) Z Z
 obtain ⟨hg42,h⟩:=grd_i h
 refine WL.f4 ?_
 have h0:=h0.mono (hle26.trans hle33)
 refine We (EO.append (dd:=(Kd.int .u8)) (xs:=a0) (ys:=[IntKind.u8.wrap a1.Kind]) Tryz.underlying23 Tryz.underlying23 in5 Z (appB (by decide) hg42) (by decide) Z Z h0 (h38.src 1 Z)) Z ?_
 rintro v41 _ _ - ⟨rfl,c39,rfl,h40⟩
 refine WL.f4 (We (Es v41 [v41] h40.cells sz23 Z Z (Ow h40) Z Z Z) Z ?_)
 rintro _ _ _ - ⟨rfl,rfl⟩
 refine Ns (qu (.func (.func 94) #[] #[(pt g35 0),(pt g21 0)]) (PO.makeFunc2 (args0) (args2 (show ev _ _=(pt g35 0) from Z) (show ev _ _=(pt g21 0) from Z))) (qa (.func (.func 94) #[] #[(pt g35 0),(pt g21 0)]) (Ns (qm (.func (.func 94) #[] #[(pt g35 0),(pt g21 0)]) (qu (pt g22 1) (Fa fo58_1 Z Z) (qu (Iv a1.Broker) (Lb 4 pl3 Z Z Z) ?_))))))
 obtain ⟨r43,hr44,h⟩:=bnd h
 refine WL.f1 (WL.f1 (WL.f3 (We (EO.callV3 (first:=#[]) (cap:=#[(pt g35 0),(pt g21 0)]) co94 Z (f_record_Put_1_ok (1:Int) a1.Broker r30 (a0++[IntKind.u8.wrap a1.Kind]) _ _ _ _ _ h40 r43 hr44) (argsV2 Z Z Z)) Z ?_)))
 rintro _ M45 _ hle46 ⟨_,⟨v47,c49,rfl,rfl,h48⟩,rfl⟩
 have L46:=(hle26.trans hle33).trans hle46
 refine WL.a3 (Ns (qm (.func (.func 94) #[] #[(pt g35 0),(pt g21 0)]) (qu (pt g22 2) (Fa fo58_2 Z Z) (qu (Iv a1.Epoch) (Lb 4 pl3 Z Z Z) ?_))))
 obtain ⟨r50,hr51,h⟩:=bnd h
 refine Wb (Wb (Wb (We (EO.callV3 (first:=#[]) (cap:=#[(pt g35 0),(pt g21 0)]) co94 Z (f_record_Put_1_ok (2:Int) a1.Epoch r30 r43 _ _ _ _ _ h48 r50 hr51) (argsV2 Z Z Z)) Z ?_)))
 rintro _ M52 _ hle53 ⟨_,⟨v54,c56,rfl,rfl,h55⟩,rfl⟩
 have L53:=L46.trans hle53
 refine WL.a3 (Ns (qm (.func (.func 94) #[] #[(pt g35 0),(pt g21 0)]) (qu (pt g22 3) (Fa fo58_3 Z Z) (qu (Iv a1.Topic) (Lb 4 pl3 Z Z Z) ?_))))
 obtain ⟨r57,hr58,h⟩:=bnd h
 refine Wb (Wb (Wb (We (EO.callV3 (first:=#[]) (cap:=#[(pt g35 0),(pt g21 0)]) co94 Z (f_record_Put_1_ok (4:Int) a1.Topic r30 r50 _ _ _ _ _ h55 r57 hr58) (argsV2 Z Z Z)) Z ?_)))
 rintro _ M59 _ hle60 ⟨_,⟨v61,c63,rfl,rfl,h62⟩,rfl⟩
 have L60:=L53.trans hle60
 refine WL.a3 (Ns (qm (.func (.func 94) #[] #[(pt g35 0),(pt g21 0)]) (qu (pt g22 4) (Fa fo58_4 Z Z) (qu (Iv a1.Part) (Lb 4 pl3 Z Z Z) ?_))))
 obtain ⟨r64,hr65,h⟩:=bnd h
 refine Wb (Wb (Wb (We (EO.callV3 (first:=#[]) (cap:=#[(pt g35 0),(pt g21 0)]) co94 Z (f_record_Put_1_ok (8:Int) a1.Part r30 r57 _ _ _ _ _ h62 r64 hr65) (argsV2 Z Z Z)) Z ?_)))
 rintro _ M66 _ hle67 ⟨_,⟨v68,c70,rfl,rfl,h69⟩,rfl⟩
 have L67:=L60.trans hle67
 refine WL.a3 (Ns (qm (.func (.func 94) #[] #[(pt g35 0),(pt g21 0)]) (qu (pt g22 5) (Fa fo58_5 Z Z) (qu (Iv a1.Leader) (Lb 4 pl3 Z Z Z) ?_))))
 obtain ⟨r71,hr72,h⟩:=bnd h
 refine Wb (Wb (Wb (We (EO.callV3 (first:=#[]) (cap:=#[(pt g35 0),(pt g21 0)]) co94 Z (f_record_Put_1_ok (16:Int) a1.Leader r30 r64 _ _ _ _ _ h69 r71 hr72) (argsV2 Z Z Z)) Z ?_)))
 rintro _ M73 _ hle74 ⟨_,⟨v75,c77,rfl,rfl,h76⟩,rfl⟩
 have L74:=L67.trans hle74
 refine WL.a3 (Ns (qm (.func (.func 94) #[] #[(pt g35 0),(pt g21 0)]) (qu (pt g22 6) (Fa fo58_6 Z Z) (qu (Iv a1.Client) (Lb 4 pl3 Z Z Z) ?_))))
 obtain ⟨r78,hr79,h⟩:=bnd h
 refine Wb (Wb (Wb (We (EO.callV3 (first:=#[]) (cap:=#[(pt g35 0),(pt g21 0)]) co94 Z (f_record_Put_1_ok (32:Int) a1.Client r30 r71 _ _ _ _ _ h76 r78 hr79) (argsV2 Z Z Z)) Z ?_)))
 rintro _ M80 _ hle81 ⟨_,⟨v82,c84,rfl,rfl,h83⟩,rfl⟩
 have L81:=L74.trans hle81
 refine WL.a3 (Ns (qm (.func (.func 94) #[] #[(pt g35 0),(pt g21 0)]) (qu (pt g22 7) (Fa fo58_7 Z Z) (qu (Iv a1.Serial) (Lb 4 pl3 Z Z Z) ?_))))
 obtain ⟨r85,hr86,h⟩:=bnd h
 refine Wb (Wb (Wb (We (EO.callV3 (first:=#[]) (cap:=#[(pt g35 0),(pt g21 0)]) co94 Z (f_record_Put_1_ok (32:Int) a1.Serial r30 r78 _ _ _ _ _ h83 r85 hr86) (argsV2 Z Z Z)) Z ?_)))
 rintro _ M87 _ hle88 ⟨_,⟨v89,c91,rfl,rfl,h90⟩,rfl⟩
 have L88:=L81.trans hle88
 refine WL.a3 (Ns (qm (.func (.func 94) #[] #[(pt g35 0),(pt g21 0)]) (qu (pt g22 8) (Fa fo58_8 Z Z) (qu (Iv a1.Code) (Lb 4 pl3 Z Z Z) ?_))))
 obtain ⟨r92,hr93,h⟩:=bnd h
 refine Wb (Wb (Wb (We (EO.callV3 (first:=#[]) (cap:=#[(pt g35 0),(pt g21 0)]) co94 Z (f_record_Put_1_ok (32:Int) a1.Code r30 r85 _ _ _ _ _ h90 r92 hr93) (argsV2 Z Z Z)) Z ?_)))
 rintro _ M94 _ hle95 ⟨_,⟨v96,c98,rfl,rfl,h97⟩,rfl⟩
 have L95:=L88.trans hle95
 refine WL.a3 (Nt ?_)
 obtain ⟨x99,hj100,h⟩:=bnd h
 refine Jf (fun(x99:(List Int)) ρ' M' H'=>∃ vx99 cx99,M94.le M'∧[(g35, .cells #[(Iv r30)] 3 (0,0))]::[(g21, .cells #[vx99] 23 (0,0))]::[(g22, .cells (l58 a1 v1_14 v1_15 v1_16 v1_17).toArray 58 (0,0))]::cx99::F=H'∧ρ' 2=(pt g21 0)∧ρ' 3=(pt g22 0)∧ρ' 7=(pt g35 0)∧OwnS (Kd.int .u8) M' vx99 x99 cx99) x99 ?_ ?_
 have h:=hj100
 refine Sr (qu (Iv r30) (Lb 0 pl3 Z Z Z) (qu (Iv (andI .i64 r30 (64:Int))) (PO.and Z Z) (qu (Bv (decide ((andI .i64 r30 (64:Int))≠0))) (PO.neq Z Z) (Nt (Ch h Z (fun hb101 h=> ?_) (fun hb101 h=> ?_))))))
 refine Cg (qu v96 (Lb 1 pl23 Z Z Z) (qu (pt g22 9) (Fa fo58_9 Z Z) (qu (Bv a1.Flag) (Lb 4 pl4 Z Z Z) ?_)))
 obtain ⟨r102,hr103,h⟩:=bnd h
 refine Wb (We (Cb co26 (f_wire_Flag_ok r92 a1.Flag _ _ _ h97 r102 hr103) (args2 Z Z)) Z ?_)
 rintro _ M104 _ hle105 ⟨_,⟨vq106,cq106,rfl,rfl,hq106⟩,rfl⟩
 refine WL.a1 (Wb (We (Es vq106 [vq106] hq106.cells sz23 Z Z (Ow hq106) Z Z Z) Z ?_))
 rintro _ _ _ - ⟨rfl,rfl⟩
 refine Wz (WQ.f3 (Dr (Qa (WQ.f3 (Qb (WQ.f3 ?_))))))
 obtain rfl:=oi h
 exact Tj ⟨vq106,cq106,hle105,Z,Z,Z,Z,hq106⟩
 refine Ck (WQ.f3 (Dr (Qb (WQ.f3 (WQ.f3 (WQ.f3 ?_))))))
 obtain rfl:=oi h
 exact Tj ⟨v96,c98,lr,Z,Z,Z,Z,h97⟩
 rintro ρ100 M100 H100 ⟨vx99,cx99,hle100,rfl,hs100_2,hs100_3,hs100_7,hx99⟩
 have L100:=L95.trans hle100
 refine Sr (qu (.func (.func 95) #[] #[(pt g35 0),(pt g21 0)]) (PO.makeFunc2 (args0) (args2 (asE (Value.pointer (some ⟨g35,0,none⟩)) hs100_7) (asE (Value.pointer (some ⟨g21,0,none⟩)) hs100_2))) (qa (.func (.func 95) #[] #[(pt g35 0),(pt g21 0)]) (Ns (qm (.func (.func 95) #[] #[(pt g35 0),(pt g21 0)]) (qu (pt g22 10) (Fa fo58_10 hs100_3 Z) (qu (Sv a1.Name) (Lb 2 pl9 Z Z Z) ?_))))))
 obtain ⟨r107,hr108,h⟩:=bnd h
 refine WL.f3 (Wb (Wb (We (EO.callV3 (first:=#[]) (cap:=#[(pt g35 0),(pt g21 0)]) co95 Z (f_record_Put_2_ok (128:Int) a1.Name r30 x99 _ _ _ _ _ hx99 r107 hr108) (argsV2 Z Z Z)) Z ?_)))
 rintro _ M109 _ hle110 ⟨_,⟨v111,c113,rfl,rfl,h112⟩,rfl⟩
 have L110:=L100.trans hle110
 refine WL.a3 (Ns (qm (.func (.func 95) #[] #[(pt g35 0),(pt g21 0)]) (qu (pt g22 11) (Fa fo58_11 hs100_3 Z) (qu (Sv a1.Key) (Lb 3 pl9 Z Z Z) ?_))))
 obtain ⟨r114,hr115,h⟩:=bnd h
 refine Wb (Wb (Wb (We (EO.callV3 (first:=#[]) (cap:=#[(pt g35 0),(pt g21 0)]) co95 Z (f_record_Put_2_ok (256:Int) a1.Key r30 r107 _ _ _ _ _ h112 r114 hr115) (argsV2 Z Z Z)) Z ?_)))
 rintro _ M116 _ hle117 ⟨_,⟨v118,c120,rfl,rfl,h119⟩,rfl⟩
 have L117:=L110.trans hle117
 refine WL.a3 (Ns (qm (.func (.func 95) #[] #[(pt g35 0),(pt g21 0)]) (qu (pt g22 12) (Fa fo58_12 hs100_3 Z) (qu (Sv a1.Value) (Lb 3 pl9 Z Z Z) ?_))))
 obtain ⟨r121,hr122,h⟩:=bnd h
 refine Wb (Wb (Wb (We (EO.callV3 (first:=#[]) (cap:=#[(pt g35 0),(pt g21 0)]) co95 Z (f_record_Put_2_ok (512:Int) a1.Value r30 r114 _ _ _ _ _ h119 r121 hr122) (argsV2 Z Z Z)) Z ?_)))
 rintro _ M123 _ hle124 ⟨_,⟨v125,c127,rfl,rfl,h126⟩,rfl⟩
 have L124:=L117.trans hle124
 refine WL.a3 (Ns (qm (.func (.func 95) #[] #[(pt g35 0),(pt g21 0)]) (qu (pt g22 13) (Fa fo58_13 hs100_3 Z) (qu (Sv a1.Rack) (Lb 3 pl9 Z Z Z) ?_))))
 obtain ⟨r128,hr129,h⟩:=bnd h
 refine Wb (Wb (Wb (We (EO.callV3 (first:=#[]) (cap:=#[(pt g35 0),(pt g21 0)]) co95 Z (f_record_Put_2_ok (1024:Int) a1.Rack r30 r121 _ _ _ _ _ h126 r128 hr129) (argsV2 Z Z Z)) Z ?_)))
 rintro _ M130 _ hle131 ⟨_,⟨v132,c134,rfl,rfl,h133⟩,rfl⟩
 have L131:=L124.trans hle131
 refine WL.a3 (Ns (qu (.func (.func 96) #[] #[(pt g35 0),(pt g21 0)]) (PO.makeFunc2 (args0) (args2 (asE (Value.pointer (some ⟨g35,0,none⟩)) hs100_7) (asE (Value.pointer (some ⟨g21,0,none⟩)) hs100_2))) (qa (.func (.func 96) #[] #[(pt g35 0),(pt g21 0)]) (Ns (qm (.func (.func 96) #[] #[(pt g35 0),(pt g21 0)]) (qu (pt g22 14) (Fa fo58_14 hs100_3 Z) (qu v1_14 (Lb 3 pl56 Z Z Z) ?_)))))))
 obtain ⟨r135,hr136,h⟩:=bnd h
 refine Wb (Wb (Wb ?_))
 have h1_14:=h1_14.mono L131
 refine We (EO.callV3 (first:=#[]) (cap:=#[(pt g35 0),(pt g21 0)]) co96 Z (f_record_Put_3_ok (2048:Int) a1.Ids r30 r128 _ _ _ _ _ _ h1_14 h133 r135 hr136) (argsV2 Z Z Z)) Z ?_
 rintro _ M137 _ hle138 ⟨_,⟨v139,c141,rfl,rfl,h140⟩,rfl⟩
 have L138:=L131.trans hle138
 refine WL.a3 (Ns (qm (.func (.func 96) #[] #[(pt g35 0),(pt g21 0)]) (qu (pt g22 15) (Fa fo58_15 hs100_3 Z) (qu v1_15 (Lb 3 pl56 Z Z Z) ?_))))
 obtain ⟨r142,hr143,h⟩:=bnd h
 refine Wb (Wb (Wb ?_))
 have h1_15:=h1_15.mono L138
 refine We (EO.callV3 (first:=#[]) (cap:=#[(pt g35 0),(pt g21 0)]) co96 Z (f_record_Put_3_ok (4096:Int) a1.Isr r30 r135 _ _ _ _ _ _ h1_15 h140 r142 hr143) (argsV2 Z Z Z)) Z ?_
 rintro _ M144 _ hle145 ⟨_,⟨v146,c148,rfl,rfl,h147⟩,rfl⟩
 have L145:=L138.trans hle145
 refine WL.a3 (Ns (qm (.func (.func 96) #[] #[(pt g35 0),(pt g21 0)]) (qu (pt g22 16) (Fa fo58_16 hs100_3 Z) (qu v1_16 (Lb 3 pl56 Z Z Z) ?_))))
 obtain ⟨r149,hr150,h⟩:=bnd h
 refine Wb (Wb (Wb ?_))
 have h1_16:=h1_16.mono L145
 refine We (EO.callV3 (first:=#[]) (cap:=#[(pt g35 0),(pt g21 0)]) co96 Z (f_record_Put_3_ok (8192:Int) a1.Add r30 r142 _ _ _ _ _ _ h1_16 h147 r149 hr150) (argsV2 Z Z Z)) Z ?_
 rintro _ M151 _ hle152 ⟨_,⟨v153,c155,rfl,rfl,h154⟩,rfl⟩
 refine WL.a3 (Ns (qm (.func (.func 96) #[] #[(pt g35 0),(pt g21 0)]) (qu (pt g22 17) (Fa fo58_17 hs100_3 Z) (qu v1_17 (Lb 3 pl56 Z Z Z) ?_))))
 obtain ⟨r156,hr157,h⟩:=bnd h
 refine Wb (Wb (Wb ?_))
 have h1_17:=h1_17.mono (L145.trans hle152)
 refine We (EO.callV3 (first:=#[]) (cap:=#[(pt g35 0),(pt g21 0)]) co96 Z (f_record_Put_3_ok (8192:Int) a1.Drop r30 r149 _ _ _ _ _ _ h1_17 h154 r156 hr157) (argsV2 Z Z Z)) Z ?_
 rintro _ M158 _ hle159 ⟨_,⟨v160,c162,rfl,rfl,h161⟩,rfl⟩
 exact WL.a3 (Ns (qu v160 (Lb 1 pl23 hs100_2 Z Z) (qa v160 (qa (GV GErr.nil) (Nt (Cr (Dr (Dr (Qa (Dr (Rf h [c162] Z (results2 Z Z Z) ((L145.trans hle152).trans hle159) ⟨v160,c162,Z,Z,h161⟩)))))))))))
noncomputable def f_batch_Put_l0 (a0:T_api_Batch) (s_:((List Int)×Int)):Option (((List Int)×Int)⊕((List Int)⊕((List Int)×GErr))):=
 match s_ with
 |(x48,x49)=>
 (if(decide (x49<(a0.Records.length:Int)))=true then(grd (0≤x49∧x49<a0.Records.length) ((f_record_Put x48 (rd a0.Records x49)).bind fun(r62,r63)=>(if(!r63.isNil)=true then((f_fault_Wrap (⟨#[114,101,99,111,114,100]⟩:ByteArray) x49 r63).bind fun r70=>(some (Sum.inr (Sum.inr ([],r70)))))else(some (Sum.inl (r62,IntKind.i64.wrap (x49+(1:Int))))))))else(some (Sum.inr (Sum.inl x48))))
noncomputable def f_batch_Put (a0:T_api_Batch):Option ((List Int)×GErr):=
 ((f_batch_Check a0).bind fun r22=>(if(!r22.isNil)=true then(some ([],r22))else((f_wire_Int [] a0.Term).bind fun r30=>((f_wire_Int r30 a0.Base).bind fun r35=>((f_wire_Int r35 (a0.Records.length:Int)).bind fun r40=>((((iter (f_batch_Put_l0 a0) (r40,(0:Int))).bind (Sum.elim (fun(x50:(List Int))=>(some (Sum.inl x50))) (fun(x51,x52)=>(((some (x51,x52))).bind fun r=>some (Sum.inr r))))):Option ((List Int)⊕((List Int)×GErr))).bind (Sum.elim (fun(x45:(List Int))=>(if(decide ((16384:Int)<(x45.length:Int)))=true then((f_fault_New (⟨#[98,97,116,99,104]⟩:ByteArray) (x45.length:Int) (6:Int)).bind fun r77=>(some ([],r77)))else(some (x45,GErr.nil)))) some)))))))
def f_batch_Put_post (a0:T_api_Batch) (v0_2:Value):((List Int)×GErr)→Value→IM→HL→Prop:=
 fun(p_:((List Int)×GErr)) (v:Value) (M':IM) (H':HL)=>match p_ with |(r0,r1)=>∃ vz0 cz0,(.tuple #[vz0,(GV r1)])=v∧H'=[cz0]∧OwnS (Kd.int .u8) M' vz0 r0 cz0
theorem f_batch_Put_ok (a0:T_api_Batch) (M:IM) (v0_2:Value) (h0_2:RS kd_api_Record M v0_2 a0.Records) (res:((List Int)×GErr)) (h:f_batch_Put a0=some res):
 Tri Tryz.prog 28 #[(a55_ a0 v0_2)] M [] (f_batch_Put_post a0 v0_2 res):=by
 unfold f_batch_Put at h
 refine Te Tryz.func28 Z Z ?_
 intro F ρ hρ
 refine Sr (We (EO.box (cs:=(l55 a0 v0_2).toArray) (congrArg Value.cells (asE (a55_ a0 v0_2) (hρ 0)))) Z ?_)
 rintro _ _ _ - ⟨rfl,g21,rfl,rfl⟩
 refine qa Zs (qa (GV GErr.nil) (Nt (Cs (Sr (qu (a55_ a0 v0_2) (La (cs:=(l55 a0 v0_2)) 0 ag55 sz55 Z Z Z) ?_)))))
 obtain ⟨r22,hr23,h⟩:=bnd h
 refine We (Ca co49 (f_batch_Check_ok a0 _ _ h0_2 r22 hr23) (args1 Z)) Z ?_
 rintro _ M24 _ hle25 ⟨_,⟨rfl,rfl⟩,rfl⟩
 refine WL.a0 (qa (GV r22) (Ns (qm (GV r22) (qu (Bv (!r22.isNil)) (PO.errNotNil Tryz.underlying31 Z) (Nt (Ch h Z (fun hb27 h=> ?_) (fun hb27 h=> ?_)))))))
 exact Sr (qm (GV r22) (qa Zs (qa (GV r22) (Nt (Cr (Tr (WQ.e0 (Qa (Dr (Rf h [[]] Z (results2 Z Z Z) hle25 ⟨Zs,[],Z,Z,(OwnS.nil _ _)⟩))))))))))
 refine Ck (Tc (Cs (WC.draw [0,1,3,0,8,31,0,64,192,511,1023] (.pure 0 (.pure 1 (.pure 3 (.pure 4 (.pure 6 (.pure 7 (.pure 8 (.alt 2 (.alt 5 (.alt 9 (.pure 10 .done) .none) .none) .none)))))))) mixed (by kernel_rfl) (qt (pt g21 0) Z (Fa fo55_0 Z Z) (qt (Iv a0.Term) Z (Lb 0 pl3 Z Z Z) (qt (pt g21 1) Z (Fa fo55_1 Z Z) (qt (Iv a0.Base) Z (Lb 0 pl3 Z Z Z) (qt (pt g21 2) Z (Fa fo55_2 Z Z) (qt v0_2 Z (Lb 0 pl53 Z Z Z) ?_)))))))))
 have h0_2:=h0_2.mono hle25
 refine qt (Iv (a0.Records.length:Int)) Z (PO.lenS Tryz.underlying53 Z h0_2.len) ?_
 obtain ⟨r30,hr31,h⟩:=bnd h
 refine WT.e0 (Ta Z (Cb co24 (f_wire_Int_ok [] a0.Term _ _ _ (OwnS.nil _ _) r30 hr31) (args2 Z Z)) Z ?_ ?_)
 rintro _ M32 _ hle33 ⟨_,⟨vq34,cq34,rfl,rfl,hq34⟩,rfl⟩
 have h0_2:=h0_2.mono hle33
 refine⟨(Ss Z (PO.lenS Tryz.underlying53 Z h0_2.len) Z (Ss Z (Lb 1 pl53 Z Z Z) Z (Ss Z (Fa fo55_2 Z Z) Z (Ss Z (Lb 1 pl3 Z Z Z) Z (Ss Z (Fa fo55_1 Z Z) Z (Sl Z)))))), ?_⟩
 refine WT.a1 ?_
 obtain ⟨r35,hr36,h⟩:=bnd h
 refine Ta Z (Cb co24 (f_wire_Int_ok r30 a0.Base _ _ _ hq34 r35 hr36) (args2 Z Z)) Z ?_ ?_
 rintro _ M37 _ hle38 ⟨_,⟨vq39,cq39,rfl,rfl,hq39⟩,rfl⟩
 have h0_2:=h0_2.mono hle38
 refine⟨(Ss Z (PO.lenS Tryz.underlying53 Z h0_2.len) Z (Ss Z (Lb 1 pl53 Z Z Z) Z (Ss Z (Fa fo55_2 Z Z) Z (Sl Z)))), ?_⟩
 refine WT.a1 ?_
 obtain ⟨r40,hr41,h⟩:=bnd h
 refine Ta Z (Cb co24 (f_wire_Int_ok r35 (a0.Records.length:Int) _ _ _ hq39 r40 hr41) (args2 Z Z)) Z ?_ ?_
 rintro _ M42 _ hle43 ⟨_,⟨vq44,cq44,rfl,rfl,hq44⟩,rfl⟩
 have L43:=((hle25.trans hle33).trans hle38).trans hle43
 refine⟨(Sl Z), ?_⟩
 refine WT.a1 (qt vq44 Z (Ag Z) (Ti (Tc ?_)))
 obtain ⟨j46,hj46,h⟩:=bnd h
 refine WC.joinE (fun(x45:(List Int)) ρ' M' H'=>∃ vx45 cx45,M42.le M'∧[(g21, .cells (l55 a0 v0_2).toArray 55 (0,0))]::cx45::F=H'∧ρ' 5=vx45∧OwnS (Kd.int .u8) M' vx45 x45 cx45) j46 ?_ ?_
 have h346:=h
 have h:=hj46
 refine Sr (qu (pt g21 2) (Fa fo55_2 Z Z) (qu v0_2 (Lb 1 pl53 Z Z Z) ?_))
 have h0_2:=h0_2.mono hle43
 refine qu (Iv (a0.Records.length:Int)) (PO.lenS Tryz.underlying53 Z h0_2.len) (qm (Iv 0) (Nt (Bk (WC.f1 ?_))))
 obtain ⟨e47,he47,hK47⟩:=bnd h
 clear h
 refine WC.loop he47 (fun(p_:((List Int)×Int)) ρ' M' H'=>match p_ with |(x48,x49)=>∃ vx48 cx48,M42.le M'∧[(g21, .cells (l55 a0 v0_2).toArray 55 (0,0))]::cx48::F=H'∧ρ' 5=vx48∧ρ' 26=v0_2∧ρ' 27=(Iv (a0.Records.length:Int))∧ρ' 28=(Iv x49)∧OwnS (Kd.int .u8) M' vx48 x48 cx48) ?_ ?_
 exact⟨vq44,cq44,lr,Z,Z,Z,Z,Z,hq44⟩
 rintro ⟨x48,x49⟩ o47 ρ47 M47 H47 h ⟨vx48,cx48,hle47,rfl,hs47_5,hs47_26,hs47_27,hs47_28,hx48⟩
 unfold f_batch_Put_l0 at h
 refine Sr (qu (Bv (decide (x49<(a0.Records.length:Int)))) (PO.lss hs47_28 hs47_27) (Nt (Cs (Ch h Z (fun hb53 h=> ?_) (fun hb53 h=> ?_)))))
 refine Ck (Tc (Cs (Bk (Sr (qM (Iv x49) hs47_28 ?_)))))
 obtain ⟨hg54,h⟩:=grd_i h
 have h0_2:=h0_2.mono hle47
 obtain ⟨p55,cs56,hat57,hrc58,hhas59⟩:=h0_2.at hg54.1 hg54.2 (by decide)
 obtain ⟨vw60_14,vw60_15,vw60_16,vw60_17,rfl,hw60_14,hw60_15,hw60_16,hw60_17⟩:=kd_api_Record_open hrc58
 refine qu (.pointer (some p55)) (PO.indexAddr (n:=a0.Records.length) Tryz.underlying53 sz58 hs47_26 hs47_28 hg54.1 hg54.2 hat57) (qu (a58_ (rd a0.Records x49) vw60_14 vw60_15 vw60_16 vw60_17) (PO.loadMA (cs:=(l58 (rd a0.Records x49) vw60_14 vw60_15 vw60_16 vw60_17)) ag58 sz58 Z hhas59) (We (Al ze58 Z) Z ?_))
 rintro _ _ _ - ⟨rfl,g61,rfl,rfl⟩
 refine qa (Iv x49) (We (Sg (v:=(a58_ (rd a0.Records x49) vw60_14 vw60_15 vw60_16 vw60_17)) (vl:=(l58 (rd a0.Records x49) vw60_14 vw60_15 vw60_16 vw60_17)) (arr':=(l58 (rd a0.Records x49) vw60_14 vw60_15 vw60_16 vw60_17)) Z sz58 Z Z (onesOf (Oc Z (Oc Z (Oc Z (Oc Z (Oc Z (Oc Z (Oc Z (Oc Z (Oc Z (Oc Z (Oc Z (Oc Z (Oc Z (Oc Z (Oc (RS.one hw60_14) (Oc (RS.one hw60_15) (Oc (RS.one hw60_16) (Oc (RS.one hw60_17) Oz))))))))))))))))))) Z Z (by kernel_rfl)) Z ?_)
 rintro _ _ _ - ⟨rfl,rfl⟩
 refine Ns (qM vx48 hs47_5 (qu (a58_ (rd a0.Records x49) vw60_14 vw60_15 vw60_16 vw60_17) (La (cs:=(l58 (rd a0.Records x49) vw60_14 vw60_15 vw60_16 vw60_17)) 0 ag58 sz58 Z Z Z) ?_))
 obtain ⟨⟨r62,r63⟩,hr64,h⟩:=bnd h
 refine Wb (We (Cb co67 (f_record_Put_ok x48 (rd a0.Records x49) _ _ _ _ _ _ _ hx48 hw60_14 hw60_15 hw60_16 hw60_17 (r62,r63) hr64) (args2 Z Z)) Z ?_)
 rintro _ M65 _ hle66 ⟨_,⟨vq67,cq67,rfl,rfl,hq67⟩,rfl⟩
 refine WL.a1 (qm (.tuple #[vq67,(GV r63)]) (qu vq67 (Xt Z Z) (qu (GV r63) (Xt Z Z) (qa vq67 (qa (GV r63) (Nt (Cs (Sr (qm (GV r63) (qu (Bv (!r63.isNil)) (PO.errNotNil Tryz.underlying31 Z) (Nt ?_)))))))))))
 refine Ch h Z (fun hb69 h=> ?_) (fun hb69 h=> ?_)
 refine Sr (qm (Iv x49) (qm (GV r63) ?_))
 obtain ⟨r70,hr71,h⟩:=bnd h
 refine We (Ca co29 (f_fault_Wrap_ok ⟨#[114,101,99,111,114,100]⟩ x49 r63 _ r70 hr71) (args3 Z Z Z)) Z ?_
 rintro _ M72 _ hle73 ⟨_,⟨rfl,rfl⟩,rfl⟩
 refine WL.a0 (qa Zs (qa (GV r70) (Nt (Cr (Tr (Br (Tr (WQ.leaveR (Sum.inr ([],r70)) (oi h).symm (fun heq47=> ?_)))))))))
 subst heq47
 have h:=(elimR hK47)
 refine Br (Tr ?_)
 have h:=KK.early h h346
 exact WQ.e0 (Qa (Dr (Qa (Dr (Qa (Dr (Rf h [[]] Z (results2 Z Z Z) (((L43.trans hle47).trans hle66).trans hle73) ⟨Zs,[],Z,Z,(OwnS.nil _ _)⟩)))))))
 refine Ck (Tc (Cg (qm vq67 (qa vq67 (Wz (Bn (Tc (Cg (qu (Iv (IntKind.i64.wrap (x49+1))) (PO.add hs47_28 Z) (qm (Iv (IntKind.i64.wrap (x49+1))) (Wz ?_)))))))))))
 exact Qa (Dr (Qa (WQ.again (r62,IntKind.i64.wrap (x49+1)) (oi h).symm ⟨vq67,cq67,(hle47.trans hle66),Z,Z,hs47_26,hs47_27,Z,hq67⟩)))
 refine WC.exit (WQ.thenE (WQ.leaveE (Sum.inl x48) (oi h).symm (fun heq47=> ?_)))
 subst heq47
 have h:=elimL hK47
 exact WQ.blockH (WQ.thenFE h ⟨vx48,cx48,hle47,Z,hs47_5,hx48⟩)
 rintro x45 ρ46 M46 H46 rfl ⟨vx45,cx45,hle46,rfl,hs46_5,hx45⟩
 have h:=(Sum.elim_inl _ _ _).symm.trans h
 refine Cs (Sr (qM vx45 hs46_5 (qu (Iv (x45.length:Int)) (PO.lenS Tryz.underlying23 Z hx45.len) (qu (Bv (decide ((16384:Int)<(x45.length:Int)))) (PO.gtr Z Z) (Nt (Ch h Z (fun hb76 h=> ?_) (fun hb76 h=> ?_)))))))
 refine Sr (qM vx45 hs46_5 (qu (Iv (x45.length:Int)) (PO.lenS Tryz.underlying23 Z hx45.len) ?_))
 obtain ⟨r77,hr78,h⟩:=bnd h
 refine We (Ca co30 (f_fault_New_ok ⟨#[98,97,116,99,104]⟩ (x45.length:Int) (6:Int) _ r77 hr78) (args3 Z Z Z)) Z ?_
 rintro _ M79 _ hle80 ⟨_,⟨rfl,rfl⟩,rfl⟩
 exact WL.a0 (qa Zs (qa (GV r77) (Nt (Cr (Tr (WQ.e0 (Qa (Dr (Qa (Dr (Rf h [[]] Z (results2 Z Z Z) ((L43.trans hle46).trans hle80) ⟨Zs,[],Z,Z,(OwnS.nil _ _)⟩)))))))))))
 exact Ck (Tc (Sr (qM vx45 hs46_5 (qa vx45 (qa (GV GErr.nil) (Nt (Cr (Dr (Rf h [cx45] Z (results2 Z Z Z) (L43.trans hle46) ⟨vx45,cx45,Z,Z,hx45⟩)))))))))
 exact Tz
 exact Tz
 exact Tz
noncomputable def f_rpc_Put_l0 (a0:T_api_Rpc) (s_:(Int×(List Int))):Option ((Int×(List Int))⊕((List Int)⊕(GErr×(List Int)))):=
 match s_ with
 |(x176,x177)=>
 (if(decide (x176<(a0.Batches.length:Int)))=true then(grd (0≤x176∧x176<a0.Batches.length) ((f_batch_Put (rd a0.Batches x176)).bind fun(r190,r191)=>(if(!r191.isNil)=true then((f_fault_Wrap (⟨#[98,97,116,99,104]⟩:ByteArray) x176 r191).bind fun r198=>(some (Sum.inr (Sum.inr (r198,x177)))))else(grd (x177.length+r190.length≤274877906944) (some (Sum.inl (IntKind.i64.wrap (x176+(1:Int)),x177++r190)))))))else(some (Sum.inr (Sum.inl x177))))
noncomputable def f_rpc_Put (a0:T_api_Rpc):Option (T_api_Frame×GErr):=
 ((f_rpc_Check a0).bind fun r23=>(if(!r23.isNil)=true then(some ((⟨(0:Int),[]⟩:T_api_Frame),r23))else((f_rpc_about a0.Kind).bind fun r30=>((((f_wire_Int [] a0.From).bind fun r41=>((f_wire_Int r41 a0.To).bind fun r47=>((f_wire_Int r47 a0.Term).bind fun r53=>(some r53)))):Option (List Int)).bind fun x37=>(((if(decide ((andI .i64 r30 (1:Int))≠(0:Int)))=true then((f_wire_Flag x37 a0.Pre).bind fun r96=>(some r96))else(some x37)):Option (List Int)).bind fun x93=>(((if(decide ((andI .i64 r30 (2:Int))≠(0:Int)))=true then((f_wire_Flag x93 a0.Ok).bind fun r104=>(some r104))else(some x93)):Option (List Int)).bind fun x101=>((f_rpc_Put_1 (4:Int) a0.Leader r30 x101).bind fun r109=>((f_rpc_Put_1 (8:Int) a0.At r30 r109).bind fun r116=>((f_rpc_Put_1 (8:Int) a0.AtTerm r30 r116).bind fun r123=>((f_rpc_Put_1 (16:Int) a0.High r30 r123).bind fun r130=>((f_rpc_Put_1 (32:Int) a0.Code r30 r130).bind fun r137=>((f_rpc_Put_1 (128:Int) a0.Size r30 r137).bind fun r144=>((f_rpc_Put_1 (256:Int) a0.Pos r30 r144).bind fun r151=>(((if(decide (a0.Kind=(8:Int)))=true then((f_wire_Text r151 a0.Data).bind fun r161=>(some r161))else(some r151)):Option (List Int)).bind fun x158=>((f_rpc_Put_1 (64:Int) (a0.Batches.length:Int) r30 x158).bind fun r166=>((((iter (f_rpc_Put_l0 a0) ((0:Int),r166)).bind (Sum.elim (fun(x178:(List Int))=>(some (Sum.inl x178))) (fun(x179,x180)=>(((some ((⟨(0:Int),[]⟩:T_api_Frame),x179))).bind fun r=>some (Sum.inr r))))):Option ((List Int)⊕(T_api_Frame×GErr))).bind (Sum.elim (fun(x173:(List Int))=>(if(decide ((16384:Int)<(x173.length:Int)))=true then((f_fault_New (⟨#[109,101,115,115,97,103,101]⟩:ByteArray) (x173.length:Int) (6:Int)).bind fun r210=>(some ((⟨(0:Int),[]⟩:T_api_Frame),r210)))else(some ((⟨a0.Kind,x173⟩:T_api_Frame),GErr.nil)))) some)))))))))))))))))
def f_rpc_Put_post (a0:T_api_Rpc) (v0_11 v0_14:Value):(T_api_Frame×GErr)→Value→IM→HL→Prop:=
 fun(p_:(T_api_Frame×GErr)) (v:Value) (M':IM) (H':HL)=>match p_ with |(r0,r1)=>∃ vz0_1 cz0_1,(.tuple #[(.agg #[(.int .i64 r0.Kind),vz0_1]),(GV r1)])=v∧H'=[cz0_1]∧OwnS (Kd.int .u8) M' vz0_1 r0.Body cz0_1
theorem f_rpc_Put_ok (a0:T_api_Rpc) (M:IM) (v0_11 v0_14:Value) (h0_11:RS kd_api_Batch M v0_11 a0.Batches) (h0_14:RS (Kd.int .u8) M v0_14 a0.Data) (res:(T_api_Frame×GErr)) (h:f_rpc_Put a0=some res):
 Tri Tryz.prog 10 #[(a25_ a0 v0_11 v0_14)] M [] (f_rpc_Put_post a0 v0_11 v0_14 res):=by
 unfold f_rpc_Put at h
 refine Te Tryz.func10 Z Z ?_
 intro F ρ hρ
 refine Sr (We (EO.box (cs:=(l25 a0 v0_11 v0_14).toArray) (congrArg Value.cells (asE (a25_ a0 v0_11 v0_14) (hρ 0)))) Z ?_)
 rintro _ _ _ - ⟨rfl,g21,rfl,rfl⟩
 refine We (Al ze29 Z) Z ?_
 rintro _ _ _ - ⟨rfl,g22,rfl,rfl⟩
 refine qa (GV GErr.nil) (Nt (Cs (Sr (qu (a25_ a0 v0_11 v0_14) (La (cs:=(l25 a0 v0_11 v0_14)) 1 ag25 sz25 Z Z Z) ?_))))
 obtain ⟨r23,hr24,h⟩:=bnd h
 refine We (Ca co16 (f_rpc_Check_ok a0 _ _ _ h0_11 h0_14 r23 hr24) (args1 Z)) Z ?_
 rintro _ M25 _ hle26 ⟨_,⟨rfl,rfl⟩,rfl⟩
 refine WL.a0 (qa (GV r23) (Ns (qm (GV r23) (qu (Bv (!r23.isNil)) (PO.errNotNil Tryz.underlying31 Z) (Nt (Ch h Z (fun hb28 h=> ?_) (fun hb28 h=> ?_)))))))
 refine Sr (qu (.agg #[(Iv 0),Zs]) (Bl (cl:=[(Iv 0),Zs]) ze29 fp29 Pz Z) (qm (GV r23) (We (Sg (v:=(.agg #[(Iv 0),Zs])) (vl:=[(Iv 0),Zs]) (arr':=[(Iv 0),Zs]) Z sz29 Z Z (onb Z) Z Z Z) Z ?_)))
 rintro _ _ _ - ⟨rfl,rfl⟩
 exact qa (GV r23) (Nt (Cr (Tr (WQ.e0 (Qb (Dr (Qa (Rd h [[]] (fun _ hs=>hs.drop) (resultsLN Z (RVs.cons (Rc (cs:=[(Iv 0),Zs]) 0 ag29 sz29 Z Z Z) (RVs.cons (RV.tmp Z) RVs.nil))) hle26 ⟨Zs,[],Z,Z,(OwnS.nil _ _)⟩))))))))
 refine Ck (Tc (Sr (qu (pt g21 0) (Fa fo25_0 Z Z) (qu (Iv a0.Kind) (Lb 1 pl3 Z Z Z) ?_))))
 obtain ⟨r30,hr31,h⟩:=bnd h
 refine We (Ca co23 (f_rpc_about_ok a0.Kind _ r30 hr31) (args1 Z)) Z ?_
 rintro _ M32 _ hle33 ⟨_,⟨rfl,rfl⟩,rfl⟩
 refine WL.a0 (We (Al ze3 Z) Z ?_)
 rintro _ _ _ - ⟨rfl,g35,rfl,rfl⟩
 refine We (Es (Iv r30) [(Iv r30)] Z sz3 Z Z Z Z Z Z) Z ?_
 rintro _ _ _ - ⟨rfl,rfl⟩
 refine Nt ?_
 obtain ⟨x37,hj38,h⟩:=bnd h
 refine Jf (fun(x37:(List Int)) ρ' M' H'=>∃ g36 vx37 cx37,M32.le M'∧[(g35, .cells #[(Iv r30)] 3 (0,0))]::[(g22, .cells #[(Iv 0),Zs] 29 (0,0))]::[(g21, .cells (l25 a0 v0_11 v0_14).toArray 25 (0,0))]::[(g36, .cells #[vx37] 23 (0,0))]::cx37::F=H'∧ρ' 1=(pt g21 0)∧ρ' 2=(pt g22 0)∧ρ' 5=(pt g35 0)∧ρ' 6=(pt g36 0)∧OwnS (Kd.int .u8) M' vx37 x37 cx37) x37 ?_ ?_
 have h:=hj38
 refine WC.draw [0,1,3,0,8,31,0,64,255,0,1023] (.pure 0 (.pure 1 (.pure 3 (.pure 4 (.pure 6 (.pure 7 (.alt 2 (.alt 5 (.alt 8 (.alt 9 (.alt 10 .done .none) .none) (.alt 9 (.alt 8 (.alt 10 .done .none) .none) .none)) (.alt 9 (.alt 5 (.alt 8 (.alt 10 .done .none) .none) .none) .none)) (.alt 9 (.alt 2 (.alt 5 (.alt 8 (.alt 10 .done .none) .none) .none) .none) .none)))))))) mixed (by kernel_rfl) (qt (pt g21 1) Z (Fa fo25_1 Z Z) (qt (Iv a0.From) Z (Lb 2 pl3 Z Z Z) (qt (pt g21 2) Z (Fa fo25_2 Z Z) (qt (Iv a0.To) Z (Lb 2 pl3 Z Z Z) (qt (pt g21 3) Z (Fa fo25_3 Z Z) (qt (Iv a0.Term) Z (Lb 2 pl3 Z Z Z) ?_))))))
 have hk39:=h
 obtain ⟨r41,hr42,h⟩:=bnd h
 refine WT.e0 (Ta Z (Cb co24 (f_wire_Int_ok [] a0.From _ _ _ (OwnS.nil _ _) r41 hr42) (args2 Z Z)) Z ?_ ?_)
 rintro _ M43 _ hle44 ⟨_,⟨vq45,cq45,rfl,rfl,hq45⟩,rfl⟩
 refine⟨(Ss Z (Lb 3 pl3 Z Z Z) Z (Ss Z (Fa fo25_3 Z Z) Z (Ss Z (Lb 3 pl3 Z Z Z) Z (Ss Z (Fa fo25_2 Z Z) Z (Sl Z))))), ?_⟩
 refine WT.a1 ?_
 have hk46:=h
 obtain ⟨r47,hr48,h⟩:=bnd h
 refine Ta Z (Cb co24 (f_wire_Int_ok r41 a0.To _ _ _ hq45 r47 hr48) (args2 Z Z)) Z ?_ ?_
 rintro _ M49 _ hle50 ⟨_,⟨vq51,cq51,rfl,rfl,hq51⟩,rfl⟩
 refine⟨(Ss Z (Lb 3 pl3 Z Z Z) Z (Ss Z (Fa fo25_3 Z Z) Z (Sl Z))), ?_⟩
 refine WT.a1 ?_
 have hk52:=h
 obtain ⟨r53,hr54,h⟩:=bnd h
 refine Ta Z (Cb co24 (f_wire_Int_ok r47 a0.Term _ _ _ hq51 r53 hr54) (args2 Z Z)) Z ?_ ?_
 rintro _ M55 _ hle56 ⟨_,⟨vq57,cq57,rfl,rfl,hq57⟩,rfl⟩
 refine⟨(Sl Z), ?_⟩
 refine WT.a1 (Ta Z (Al ze23 Z) Z ?_ ?_)
 rintro _ _ _ - ⟨rfl,g58,rfl,rfl⟩
 refine⟨(Ss Z (Lb 4 pl3 Z Z Z) Z (Ss Z (Fa fo25_3 Z Z) Z (Ss Z (Lb 4 pl3 Z Z Z) Z (Ss Z (Fa fo25_2 Z Z) Z (Ss Z (Lb 4 pl3 Z Z Z) Z (Ss Z (Fa fo25_1 Z Z) Z trivial)))))), ?_⟩
 refine Ta Z (Es vq57 [vq57] hq57.cells sz23 Z Z (Ow hq57) Z Z Z) Z ?_ ?_
 rintro _ _ _ - ⟨rfl,rfl⟩
 refine⟨(Sl Z), ?_⟩
 refine Ti (Qa (Qa (WQ.f4 (WQ.f4 (WQ.f4 ?_)))))
 obtain rfl:=oi h
 exact Tj ⟨g58,vq57,cq57,((hle44.trans hle50).trans hle56),Z,Z,Z,Z,Z,hq57⟩
 exact Tz
 exact Tz
 have h:=hk52
 refine Ta Z (Al ze23 Z) Z ?_ ?_
 rintro _ _ _ - ⟨rfl,g59,rfl,rfl⟩
 refine⟨(Ss Z (Lb 4 pl3 Z Z Z) Z (Ss Z (Fa fo25_3 Z Z) Z (Ss Z (Lb 4 pl3 Z Z Z) Z (Ss Z (Fa fo25_2 Z Z) Z (Ss Z (Lb 4 pl3 Z Z Z) Z (Ss Z (Fa fo25_1 Z Z) Z trivial)))))), ?_⟩
 obtain ⟨r60,hr61,h⟩:=bnd h
 refine WT.f1 (Ta Z (Cb co24 (f_wire_Int_ok r47 a0.Term _ _ _ hq51 r60 hr61) (args2 Z Z)) Z ?_ ?_)
 rintro _ M62 _ hle63 ⟨_,⟨vq64,cq64,rfl,rfl,hq64⟩,rfl⟩
 refine⟨(Sl Z), ?_⟩
 refine WT.a1 (WT.f1 (Ta Z (Es vq64 [vq64] hq64.cells sz23 Z Z (Ow hq64) Z Z Z) Z ?_ ?_))
 rintro _ _ _ - ⟨rfl,rfl⟩
 refine⟨(Sl Z), ?_⟩
 refine Ti (Qa (Qa (WQ.f4 (WQ.f4 (WQ.f4 ?_)))))
 obtain rfl:=oi h
 exact Tj ⟨g59,vq64,cq64,((hle44.trans hle50).trans hle63),Z,Z,Z,Z,Z,hq64⟩
 exact Tz
 exact Tz
 exact Tz
 have h:=hk46
 refine Ta Z (Al ze23 Z) Z ?_ ?_
 rintro _ _ _ - ⟨rfl,g65,rfl,rfl⟩
 refine⟨(Ss Z (Lb 4 pl3 Z Z Z) Z (Ss Z (Fa fo25_3 Z Z) Z (Ss Z (Lb 4 pl3 Z Z Z) Z (Ss Z (Fa fo25_2 Z Z) Z (Ss Z (Lb 4 pl3 Z Z Z) Z (Ss Z (Fa fo25_1 Z Z) Z trivial)))))), ?_⟩
 obtain ⟨r66,hr67,h⟩:=bnd h
 refine WT.f1 (Ta Z (Cb co24 (f_wire_Int_ok r41 a0.To _ _ _ hq45 r66 hr67) (args2 Z Z)) Z ?_ ?_)
 rintro _ M68 _ hle69 ⟨_,⟨vq70,cq70,rfl,rfl,hq70⟩,rfl⟩
 refine⟨(Ss Z (Lb 4 pl3 Z Z Z) Z (Ss Z (Fa fo25_3 Z Z) Z (Sl Z))), ?_⟩
 refine WT.a1 ?_
 obtain ⟨r71,hr72,h⟩:=bnd h
 refine Ta Z (Cb co24 (f_wire_Int_ok r66 a0.Term _ _ _ hq70 r71 hr72) (args2 Z Z)) Z ?_ ?_
 rintro _ M73 _ hle74 ⟨_,⟨vq75,cq75,rfl,rfl,hq75⟩,rfl⟩
 refine⟨(Sl Z), ?_⟩
 refine WT.a1 (WT.f1 (Ta Z (Es vq75 [vq75] hq75.cells sz23 Z Z (Ow hq75) Z Z Z) Z ?_ ?_))
 rintro _ _ _ - ⟨rfl,rfl⟩
 refine⟨(Sl Z), ?_⟩
 refine Ti (Qa (Qa (WQ.f4 (WQ.f4 (WQ.f4 ?_)))))
 obtain rfl:=oi h
 exact Tj ⟨g65,vq75,cq75,((hle44.trans hle69).trans hle74),Z,Z,Z,Z,Z,hq75⟩
 exact Tz
 exact Tz
 exact Tz
 exact Tz
 have h:=hk39
 refine Ta Z (Al ze23 Z) Z ?_ ?_
 rintro _ _ _ - ⟨rfl,g76,rfl,rfl⟩
 refine⟨(Ss Z (Lb 4 pl3 Z Z Z) Z (Ss Z (Fa fo25_3 Z Z) Z (Ss Z (Lb 4 pl3 Z Z Z) Z (Ss Z (Fa fo25_2 Z Z) Z (Ss Z (Lb 4 pl3 Z Z Z) Z (Ss Z (Fa fo25_1 Z Z) Z trivial)))))), ?_⟩
 obtain ⟨r78,hr79,h⟩:=bnd h
 refine WT.e0 (Ta Z (Cb co24 (f_wire_Int_ok [] a0.From _ _ _ (OwnS.nil _ _) r78 hr79) (args2 Z Z)) Z ?_ ?_)
 rintro _ M80 _ hle81 ⟨_,⟨vq82,cq82,rfl,rfl,hq82⟩,rfl⟩
 refine⟨(Ss Z (Lb 5 pl3 Z Z Z) Z (Ss Z (Fa fo25_3 Z Z) Z (Ss Z (Lb 5 pl3 Z Z Z) Z (Ss Z (Fa fo25_2 Z Z) Z (Sl Z))))), ?_⟩
 refine WT.a1 ?_
 obtain ⟨r83,hr84,h⟩:=bnd h
 refine Ta Z (Cb co24 (f_wire_Int_ok r78 a0.To _ _ _ hq82 r83 hr84) (args2 Z Z)) Z ?_ ?_
 rintro _ M85 _ hle86 ⟨_,⟨vq87,cq87,rfl,rfl,hq87⟩,rfl⟩
 refine⟨(Ss Z (Lb 5 pl3 Z Z Z) Z (Ss Z (Fa fo25_3 Z Z) Z (Sl Z))), ?_⟩
 refine WT.a1 ?_
 obtain ⟨r88,hr89,h⟩:=bnd h
 refine Ta Z (Cb co24 (f_wire_Int_ok r83 a0.Term _ _ _ hq87 r88 hr89) (args2 Z Z)) Z ?_ ?_
 rintro _ M90 _ hle91 ⟨_,⟨vq92,cq92,rfl,rfl,hq92⟩,rfl⟩
 refine⟨(Sl Z), ?_⟩
 refine WT.a1 (WT.f1 (Ta Z (Es vq92 [vq92] hq92.cells sz23 Z Z (Ow hq92) Z Z Z) Z ?_ ?_))
 rintro _ _ _ - ⟨rfl,rfl⟩
 refine⟨(Sl Z), ?_⟩
 refine Ti (Qb (Dr (Qa (Qa (WQ.f4 (WQ.f4 (WQ.f4 ?_)))))))
 obtain rfl:=oi h
 exact Tj ⟨g76,vq92,cq92,((hle81.trans hle86).trans hle91),Z,Z,Z,Z,Z,hq92⟩
 exact Tz
 exact Tz
 exact Tz
 exact Tz
 exact Tz
 rintro ρ38 M38 H38 ⟨g36,vx37,cx37,hle38,rfl,hs38_1,hs38_2,hs38_5,hs38_6,hx37⟩
 have L38:=(hle26.trans hle33).trans hle38
 refine Sr (qu (.func (.func 25) #[] #[(pt g35 0),(pt g36 0)]) (PO.makeFunc2 (args0) (args2 (asE (Value.pointer (some ⟨g35,0,none⟩)) hs38_5) (asE (Value.pointer (some ⟨g36,0,none⟩)) hs38_6))) (qa (.func (.func 25) #[] #[(pt g35 0),(pt g36 0)]) (Nt ?_)))
 obtain ⟨x93,hj94,h⟩:=bnd h
 refine Jf (fun(x93:(List Int)) ρ' M' H'=>∃ vx93 cx93,M38.le M'∧[(g35, .cells #[(Iv r30)] 3 (0,0))]::[(g22, .cells #[(Iv 0),Zs] 29 (0,0))]::[(g21, .cells (l25 a0 v0_11 v0_14).toArray 25 (0,0))]::[(g36, .cells #[vx93] 23 (0,0))]::cx93::F=H'∧ρ' 1=(pt g21 0)∧ρ' 2=(pt g22 0)∧ρ' 5=(pt g35 0)∧ρ' 6=(pt g36 0)∧ρ' 7=(.func (.func 25) #[] #[(pt g35 0),(pt g36 0)])∧OwnS (Kd.int .u8) M' vx93 x93 cx93) x93 ?_ ?_
 have h:=hj94
 refine Sr (qu (Iv r30) (Lb 0 pl3 hs38_5 Z Z) (qu (Iv (andI .i64 r30 (1:Int))) (PO.and Z Z) (qu (Bv (decide ((andI .i64 r30 (1:Int))≠0))) (PO.neq Z Z) (Nt (Ch h Z (fun hb95 h=> ?_) (fun hb95 h=> ?_))))))
 refine Cg (qu vx37 (Lb 3 pl23 hs38_6 Z Z) (qu (pt g21 4) (Fa fo25_4 hs38_1 Z) (qu (Bv a0.Pre) (Lb 2 pl4 Z Z Z) ?_)))
 obtain ⟨r96,hr97,h⟩:=bnd h
 refine WL.f4 (We (Cb co26 (f_wire_Flag_ok x37 a0.Pre _ _ _ hx37 r96 hr97) (args2 Z Z)) Z ?_)
 rintro _ M98 _ hle99 ⟨_,⟨vq100,cq100,rfl,rfl,hq100⟩,rfl⟩
 refine WL.a1 (WL.f4 (We (Es vq100 [vq100] hq100.cells sz23 hs38_6 Z (Ow hq100) Z Z Z) Z ?_))
 rintro _ _ _ - ⟨rfl,rfl⟩
 refine Wz (Qa (Qa (WQ.f4 (WQ.f4 (WQ.f4 ?_)))))
 obtain rfl:=oi h
 exact Tj ⟨vq100,cq100,hle99,Z,hs38_1,hs38_2,hs38_5,hs38_6,Z,hq100⟩
 refine Ck ?_
 obtain rfl:=oi h
 exact Tj ⟨vx37,cx37,lr,Z,hs38_1,hs38_2,hs38_5,hs38_6,Z,hx37⟩
 rintro ρ94 M94 H94 ⟨vx93,cx93,hle94,rfl,hs94_1,hs94_2,hs94_5,hs94_6,hs94_7,hx93⟩
 have L94:=L38.trans hle94
 obtain ⟨x101,hj102,h⟩:=bnd h
 refine Jf (fun(x101:(List Int)) ρ' M' H'=>∃ vx101 cx101,M94.le M'∧[(g35, .cells #[(Iv r30)] 3 (0,0))]::[(g22, .cells #[(Iv 0),Zs] 29 (0,0))]::[(g21, .cells (l25 a0 v0_11 v0_14).toArray 25 (0,0))]::[(g36, .cells #[vx101] 23 (0,0))]::cx101::F=H'∧ρ' 1=(pt g21 0)∧ρ' 2=(pt g22 0)∧ρ' 6=(pt g36 0)∧ρ' 7=(.func (.func 25) #[] #[(pt g35 0),(pt g36 0)])∧OwnS (Kd.int .u8) M' vx101 x101 cx101) x101 ?_ ?_
 have h:=hj102
 refine Sr (qu (Iv r30) (Lb 0 pl3 hs94_5 Z Z) (qu (Iv (andI .i64 r30 (2:Int))) (PO.and Z Z) (qu (Bv (decide ((andI .i64 r30 (2:Int))≠0))) (PO.neq Z Z) (Nt (Ch h Z (fun hb103 h=> ?_) (fun hb103 h=> ?_))))))
 refine Cg (qu vx93 (Lb 3 pl23 hs94_6 Z Z) (qu (pt g21 5) (Fa fo25_5 hs94_1 Z) (qu (Bv a0.Ok) (Lb 2 pl4 Z Z Z) ?_)))
 obtain ⟨r104,hr105,h⟩:=bnd h
 refine WL.f4 (We (Cb co26 (f_wire_Flag_ok x93 a0.Ok _ _ _ hx93 r104 hr105) (args2 Z Z)) Z ?_)
 rintro _ M106 _ hle107 ⟨_,⟨vq108,cq108,rfl,rfl,hq108⟩,rfl⟩
 refine WL.a1 (WL.f4 (We (Es vq108 [vq108] hq108.cells sz23 hs94_6 Z (Ow hq108) Z Z Z) Z ?_))
 rintro _ _ _ - ⟨rfl,rfl⟩
 refine Wz (Qa (Qa (WQ.f4 (WQ.f4 (WQ.f4 ?_)))))
 obtain rfl:=oi h
 exact Tj ⟨vq108,cq108,hle107,Z,hs94_1,hs94_2,hs94_6,hs94_7,hq108⟩
 refine Ck ?_
 obtain rfl:=oi h
 exact Tj ⟨vx93,cx93,lr,Z,hs94_1,hs94_2,hs94_6,hs94_7,hx93⟩
 rintro ρ102 M102 H102 ⟨vx101,cx101,hle102,rfl,hs102_1,hs102_2,hs102_6,hs102_7,hx101⟩
 have L102:=L94.trans hle102
 refine Sr (qM (.func (.func 25) #[] #[(pt g35 0),(pt g36 0)]) hs102_7 (qu (pt g21 6) (Fa fo25_6 hs102_1 Z) (qu (Iv a0.Leader) (Lb 2 pl3 Z Z Z) ?_)))
 obtain ⟨r109,hr110,h⟩:=bnd h
 refine WL.f4 (WL.f4 (Wb (We (EO.callV3 (first:=#[]) (cap:=#[(pt g35 0),(pt g36 0)]) co25 Z (f_rpc_Put_1_ok (4:Int) a0.Leader r30 x101 _ _ _ _ _ hx101 r109 hr110) (argsV2 Z Z Z)) Z ?_)))
 rintro _ M111 _ hle112 ⟨_,⟨v113,c115,rfl,rfl,h114⟩,rfl⟩
 have L112:=L102.trans hle112
 refine WL.a3 (Ns (qM (.func (.func 25) #[] #[(pt g35 0),(pt g36 0)]) hs102_7 (qu (pt g21 7) (Fa fo25_7 hs102_1 Z) (qu (Iv a0.At) (Lb 4 pl3 Z Z Z) ?_))))
 obtain ⟨r116,hr117,h⟩:=bnd h
 refine Wb (Wb (Wb (We (EO.callV3 (first:=#[]) (cap:=#[(pt g35 0),(pt g36 0)]) co25 Z (f_rpc_Put_1_ok (8:Int) a0.At r30 r109 _ _ _ _ _ h114 r116 hr117) (argsV2 Z Z Z)) Z ?_)))
 rintro _ M118 _ hle119 ⟨_,⟨v120,c122,rfl,rfl,h121⟩,rfl⟩
 have L119:=L112.trans hle119
 refine WL.a3 (Ns (qM (.func (.func 25) #[] #[(pt g35 0),(pt g36 0)]) hs102_7 (qu (pt g21 8) (Fa fo25_8 hs102_1 Z) (qu (Iv a0.AtTerm) (Lb 4 pl3 Z Z Z) ?_))))
 obtain ⟨r123,hr124,h⟩:=bnd h
 refine Wb (Wb (Wb (We (EO.callV3 (first:=#[]) (cap:=#[(pt g35 0),(pt g36 0)]) co25 Z (f_rpc_Put_1_ok (8:Int) a0.AtTerm r30 r116 _ _ _ _ _ h121 r123 hr124) (argsV2 Z Z Z)) Z ?_)))
 rintro _ M125 _ hle126 ⟨_,⟨v127,c129,rfl,rfl,h128⟩,rfl⟩
 have L126:=L119.trans hle126
 refine WL.a3 (Ns (qM (.func (.func 25) #[] #[(pt g35 0),(pt g36 0)]) hs102_7 (qu (pt g21 9) (Fa fo25_9 hs102_1 Z) (qu (Iv a0.High) (Lb 4 pl3 Z Z Z) ?_))))
 obtain ⟨r130,hr131,h⟩:=bnd h
 refine Wb (Wb (Wb (We (EO.callV3 (first:=#[]) (cap:=#[(pt g35 0),(pt g36 0)]) co25 Z (f_rpc_Put_1_ok (16:Int) a0.High r30 r123 _ _ _ _ _ h128 r130 hr131) (argsV2 Z Z Z)) Z ?_)))
 rintro _ M132 _ hle133 ⟨_,⟨v134,c136,rfl,rfl,h135⟩,rfl⟩
 have L133:=L126.trans hle133
 refine WL.a3 (Ns (qM (.func (.func 25) #[] #[(pt g35 0),(pt g36 0)]) hs102_7 (qu (pt g21 10) (Fa fo25_10 hs102_1 Z) (qu (Iv a0.Code) (Lb 4 pl3 Z Z Z) ?_))))
 obtain ⟨r137,hr138,h⟩:=bnd h
 refine Wb (Wb (Wb (We (EO.callV3 (first:=#[]) (cap:=#[(pt g35 0),(pt g36 0)]) co25 Z (f_rpc_Put_1_ok (32:Int) a0.Code r30 r130 _ _ _ _ _ h135 r137 hr138) (argsV2 Z Z Z)) Z ?_)))
 rintro _ M139 _ hle140 ⟨_,⟨v141,c143,rfl,rfl,h142⟩,rfl⟩
 have L140:=L133.trans hle140
 refine WL.a3 (Ns (qM (.func (.func 25) #[] #[(pt g35 0),(pt g36 0)]) hs102_7 (qu (pt g21 12) (Fa fo25_12 hs102_1 Z) (qu (Iv a0.Size) (Lb 4 pl3 Z Z Z) ?_))))
 obtain ⟨r144,hr145,h⟩:=bnd h
 refine Wb (Wb (Wb (We (EO.callV3 (first:=#[]) (cap:=#[(pt g35 0),(pt g36 0)]) co25 Z (f_rpc_Put_1_ok (128:Int) a0.Size r30 r137 _ _ _ _ _ h142 r144 hr145) (argsV2 Z Z Z)) Z ?_)))
 rintro _ M146 _ hle147 ⟨_,⟨v148,c150,rfl,rfl,h149⟩,rfl⟩
 have L147:=L140.trans hle147
 refine WL.a3 (Ns (qM (.func (.func 25) #[] #[(pt g35 0),(pt g36 0)]) hs102_7 (qu (pt g21 13) (Fa fo25_13 hs102_1 Z) (qu (Iv a0.Pos) (Lb 4 pl3 Z Z Z) ?_))))
 obtain ⟨r151,hr152,h⟩:=bnd h
 refine Wb (Wb (Wb (We (EO.callV3 (first:=#[]) (cap:=#[(pt g35 0),(pt g36 0)]) co25 Z (f_rpc_Put_1_ok (256:Int) a0.Pos r30 r144 _ _ _ _ _ h149 r151 hr152) (argsV2 Z Z Z)) Z ?_)))
 rintro _ M153 _ hle154 ⟨_,⟨v155,c157,rfl,rfl,h156⟩,rfl⟩
 have L154:=L147.trans hle154
 refine WL.a3 (Nt ?_)
 obtain ⟨x158,hj159,h⟩:=bnd h
 refine Jf (fun(x158:(List Int)) ρ' M' H'=>∃ vx158 cx158,M153.le M'∧[(g35, .cells #[(Iv r30)] 3 (0,0))]::[(g36, .cells #[vx158] 23 (0,0))]::[(g22, .cells #[(Iv 0),Zs] 29 (0,0))]::[(g21, .cells (l25 a0 v0_11 v0_14).toArray 25 (0,0))]::cx158::F=H'∧ρ' 1=(pt g21 0)∧ρ' 2=(pt g22 0)∧ρ' 6=(pt g36 0)∧ρ' 7=(.func (.func 25) #[] #[(pt g35 0),(pt g36 0)])∧OwnS (Kd.int .u8) M' vx158 x158 cx158) x158 ?_ ?_
 have h:=hj159
 refine Sr (qu (pt g21 0) (Fa fo25_0 hs102_1 Z) (qu (Iv a0.Kind) (Lb 4 pl3 Z Z Z) (qu (Bv (decide (a0.Kind=8))) (PO.eql Z Z) (Nt (Ch h Z (fun hb160 h=> ?_) (fun hb160 h=> ?_))))))
 refine Cg (qu v155 (Lb 1 pl23 hs102_6 Z Z) (qu (pt g21 14) (Fa fo25_14 hs102_1 Z) (qu v0_14 (Lb 4 pl23 Z Z Z) ?_)))
 obtain ⟨r161,hr162,h⟩:=bnd h
 refine Wb ?_
 have h0_14:=h0_14.mono L154
 refine We (Cb co27 (f_wire_Text_ok r151 a0.Data _ _ _ _ h156 h0_14 r161 hr162) (args2 Z Z)) Z ?_
 rintro _ M163 _ hle164 ⟨_,⟨vq165,cq165,rfl,rfl,hq165⟩,rfl⟩
 refine WL.a1 (Wb (We (Es vq165 [vq165] hq165.cells sz23 hs102_6 Z (Ow hq165) Z Z Z) Z ?_))
 rintro _ _ _ - ⟨rfl,rfl⟩
 refine Wz (Qa (WQ.f4 (WQ.f4 (WQ.f3 (WQ.f4 ?_)))))
 obtain rfl:=oi h
 exact Tj ⟨vq165,cq165,hle164,Z,hs102_1,hs102_2,hs102_6,hs102_7,hq165⟩
 refine Ck (Qb (WQ.f4 (WQ.f4 (WQ.f4 (WQ.f4 ?_)))))
 obtain rfl:=oi h
 exact Tj ⟨v155,c157,lr,Z,hs102_1,hs102_2,hs102_6,hs102_7,h156⟩
 rintro ρ159 M159 H159 ⟨vx158,cx158,hle159,rfl,hs159_1,hs159_2,hs159_6,hs159_7,hx158⟩
 have L159:=L154.trans hle159
 refine Sr (qM (.func (.func 25) #[] #[(pt g35 0),(pt g36 0)]) hs159_7 (qu (pt g21 11) (Fa fo25_11 hs159_1 Z) (qu v0_11 (Lb 3 pl22 Z Z Z) ?_)))
 have h0_11:=h0_11.mono L159
 refine qu (Iv (a0.Batches.length:Int)) (PO.lenS Tryz.underlying22 Z h0_11.len) ?_
 obtain ⟨r166,hr167,h⟩:=bnd h
 refine WL.f4 (Wb (Wb (We (EO.callV3 (first:=#[]) (cap:=#[(pt g35 0),(pt g36 0)]) co25 Z (f_rpc_Put_1_ok (64:Int) (a0.Batches.length:Int) r30 x158 _ _ _ _ _ hx158 r166 hr167) (argsV2 Z Z Z)) Z ?_)))
 rintro _ M168 _ hle169 ⟨_,⟨v170,c172,rfl,rfl,h171⟩,rfl⟩
 have L169:=L159.trans hle169
 refine WL.a3 (Nt ?_)
 obtain ⟨j174,hj174,h⟩:=bnd h
 refine WC.joinE (fun(x173:(List Int)) ρ' M' H'=>∃ vx173 cx173,M168.le M'∧[(g35, .cells #[(Iv r30)] 3 (0,0))]::[(g36, .cells #[vx173] 23 (0,0))]::[(g22, .cells #[(Iv 0),Zs] 29 (0,0))]::[(g21, .cells (l25 a0 v0_11 v0_14).toArray 25 (0,0))]::cx173::F=H'∧ρ' 1=(pt g21 0)∧ρ' 2=(pt g22 0)∧ρ' 6=(pt g36 0)∧OwnS (Kd.int .u8) M' vx173 x173 cx173) j174 ?_ ?_
 have h3174:=h
 have h:=hj174
 refine Sr (qu (pt g21 11) (Fa fo25_11 hs159_1 Z) (qu v0_11 (Lb 4 pl22 Z Z Z) ?_))
 have h0_11:=h0_11.mono hle169
 refine qu (Iv (a0.Batches.length:Int)) (PO.lenS Tryz.underlying22 Z h0_11.len) (qm (Iv 0) (Nt (Bk (WC.f2 (WC.f4 (WC.f4 (WC.f4 (WC.f4 ?_))))))))
 obtain ⟨e175,he175,hK175⟩:=bnd h
 clear h
 refine WC.loop he175 (fun(p_:(Int×(List Int))) ρ' M' H'=>match p_ with |(x176,x177)=>∃ vx177 cx177,M168.le M'∧[(g35, .cells #[(Iv r30)] 3 (0,0))]::[(g36, .cells #[vx177] 23 (0,0))]::[(g22, .cells #[(Iv 0),Zs] 29 (0,0))]::[(g21, .cells (l25 a0 v0_11 v0_14).toArray 25 (0,0))]::cx177::F=H'∧ρ' 1=(pt g21 0)∧ρ' 2=(pt g22 0)∧ρ' 6=(pt g36 0)∧ρ' 86=v0_11∧ρ' 87=(Iv (a0.Batches.length:Int))∧ρ' 88=(Iv x176)∧OwnS (Kd.int .u8) M' vx177 x177 cx177) ?_ ?_
 exact⟨v170,c172,lr,Z,hs159_1,hs159_2,hs159_6,Z,Z,Z,h171⟩
 rintro ⟨x176,x177⟩ o175 ρ175 M175 H175 h ⟨vx177,cx177,hle175,rfl,hs175_1,hs175_2,hs175_6,hs175_86,hs175_87,hs175_88,hx177⟩
 unfold f_rpc_Put_l0 at h
 refine Sr (qu (Bv (decide (x176<(a0.Batches.length:Int)))) (PO.lss hs175_88 hs175_87) (Nt (Cs (Ch h Z (fun hb181 h=> ?_) (fun hb181 h=> ?_)))))
 refine Ck (Tc (Cs (Bk (Sr (qM (Iv x176) hs175_88 ?_)))))
 obtain ⟨hg182,h⟩:=grd_i h
 have h0_11:=h0_11.mono hle175
 obtain ⟨p183,cs184,hat185,hrc186,hhas187⟩:=h0_11.at hg182.1 hg182.2 (by decide)
 obtain ⟨vw188_2,rfl,hw188_2⟩:=kd_api_Batch_open hrc186
 refine qu (.pointer (some p183)) (PO.indexAddr (n:=a0.Batches.length) Tryz.underlying22 sz55 hs175_86 hs175_88 hg182.1 hg182.2 hat185) (qu (a55_ (rd a0.Batches x176) vw188_2) (PO.loadMA (cs:=(l55 (rd a0.Batches x176) vw188_2)) ag55 sz55 Z hhas187) (We (Al ze55 Z) Z ?_))
 rintro _ _ _ - ⟨rfl,g189,rfl,rfl⟩
 refine qa (Iv x176) (We (Sg (v:=(a55_ (rd a0.Batches x176) vw188_2)) (vl:=(l55 (rd a0.Batches x176) vw188_2)) (arr':=(l55 (rd a0.Batches x176) vw188_2)) Z sz55 Z Z (onesOf (Oc Z (Oc Z (Oc (RS.one hw188_2) Oz)))) Z Z Z) Z ?_)
 rintro _ _ _ - ⟨rfl,rfl⟩
 refine Ns (qu (a55_ (rd a0.Batches x176) vw188_2) (La (cs:=(l55 (rd a0.Batches x176) vw188_2)) 0 ag55 sz55 Z Z Z) ?_)
 obtain ⟨⟨r190,r191⟩,hr192,h⟩:=bnd h
 refine We (Ca co28 (f_batch_Put_ok (rd a0.Batches x176) _ _ hw188_2 (r190,r191) hr192) (args1 Z)) Z ?_
 rintro _ M193 _ hle194 ⟨_,⟨vq195,cq195,rfl,rfl,hq195⟩,rfl⟩
 refine WL.a1 (qm (.tuple #[vq195,(GV r191)]) (qu vq195 (Xt Z Z) (qu (GV r191) (Xt Z Z) (qa vq195 (qa (GV r191) (Nt (Cs (Sr (qm (GV r191) (qu (Bv (!r191.isNil)) (PO.errNotNil Tryz.underlying31 Z) (Nt ?_)))))))))))
 refine Ch h Z (fun hb197 h=> ?_) (fun hb197 h=> ?_)
 refine Sr (qu (.agg #[(Iv 0),Zs]) (Bl (cl:=[(Iv 0),Zs]) ze29 fp29 Pz Z) (qm (Iv x176) (qm (GV r191) ?_)))
 obtain ⟨r198,hr199,h⟩:=bnd h
 refine We (Ca co29 (f_fault_Wrap_ok ⟨#[98,97,116,99,104]⟩ x176 r191 _ r198 hr199) (args3 Z Z Z)) Z ?_
 rintro _ M200 _ hle201 ⟨_,⟨rfl,rfl⟩,rfl⟩
 refine WL.a0 (WL.f4 (We (Sg (v:=(.agg #[(Iv 0),Zs])) (vl:=[(Iv 0),Zs]) (arr':=[(Iv 0),Zs]) Z sz29 hs175_2 Z (onb Z) Z Z Z) Z ?_))
 rintro _ _ _ - ⟨rfl,rfl⟩
 refine qa (GV r198) (Nt (Cr (Tr (Br (Tr (WQ.leaveR (Sum.inr (r198,x177)) (oi h).symm (fun heq175=> ?_)))))))
 subst heq175
 have h:=(elimR hK175)
 refine Br (Tr ?_)
 have h:=KK.early h h3174
 refine WQ.e0 (Qb (Dr (Qb (Dr (Qb (Dr (Qb (Dr (Qb (Dr (Qb ?_)))))))))))
 exact Dr (Qa (Rd h [[]] (fun _ hs=>hs.drop) (resultsLN Z (RVs.cons (Rc (cs:=[(Iv 0),Zs]) 0 ag29 sz29 hs175_2 Z Z) (RVs.cons (RV.tmp Z) RVs.nil))) (((L169.trans hle175).trans hle194).trans hle201) ⟨Zs,[],Z,Z,(OwnS.nil _ _)⟩))
 refine Ck (Tc (Cg (qu vx177 (Lb 3 pl23 hs175_6 Z Z) (qm vq195 ?_))))
 obtain ⟨hg207,h⟩:=grd_i h
 refine WL.f6 ?_
 have hx177:=hx177.mono hle194
 refine We (EO.append (dd:=(Kd.int .u8)) (xs:=x177) (ys:=r190) Tryz.underlying23 Tryz.underlying23 in5 Z (appB (by decide) hg207) (by decide) Z Z hx177 (hq195.src 1 Z)) Z ?_
 rintro v206 _ _ - ⟨rfl,c204,rfl,h205⟩
 refine WL.f4 (We (Es v206 [v206] h205.cells sz23 hs175_6 Z (Ow h205) Z Z Z) Z ?_)
 rintro _ _ _ - ⟨rfl,rfl⟩
 refine Wz (Bn (Tc (Cg (qu (Iv (IntKind.i64.wrap (x176+1))) (PO.add hs175_88 Z) (qm (Iv (IntKind.i64.wrap (x176+1))) (Wz (Qb (Dr (Qb (Dr (Qa ?_)))))))))))
 exact WQ.f4 (WQ.f4 (WQ.f3 (WQ.f4 (WQ.again (IntKind.i64.wrap (x176+1),x177++r190) (oi h).symm ⟨v206,c204,(hle175.trans hle194),Z,hs175_1,hs175_2,hs175_6,hs175_86,hs175_87,Z,h205⟩))))
 refine WC.exit (WQ.thenE (WQ.leaveE (Sum.inl x177) (oi h).symm (fun heq175=> ?_)))
 subst heq175
 have h:=elimL hK175
 exact WQ.blockH (WQ.thenFE h ⟨vx177,cx177,hle175,Z,hs175_1,hs175_2,hs175_6,hx177⟩)
 rintro x173 ρ174 M174 H174 rfl ⟨vx173,cx173,hle174,rfl,hs174_1,hs174_2,hs174_6,hx173⟩
 have h:=(Sum.elim_inl _ _ _).symm.trans h
 refine Cs (Sr (qu vx173 (Lb 1 pl23 hs174_6 Z Z) (qu (Iv (x173.length:Int)) (PO.lenS Tryz.underlying23 Z hx173.len) (qu (Bv (decide ((16384:Int)<(x173.length:Int)))) (PO.gtr Z Z) (Nt (Ch h Z (fun hb209 h=> ?_) (fun hb209 h=> ?_)))))))
 refine Sr (qu (.agg #[(Iv 0),Zs]) (Bl (cl:=[(Iv 0),Zs]) ze29 fp29 Pz Z) (qu vx173 (Lb 1 pl23 hs174_6 Z Z) (qu (Iv (x173.length:Int)) (PO.lenS Tryz.underlying23 Z hx173.len) ?_)))
 obtain ⟨r210,hr211,h⟩:=bnd h
 refine We (Ca co30 (f_fault_New_ok ⟨#[109,101,115,115,97,103,101]⟩ (x173.length:Int) (6:Int) _ r210 hr211) (args3 Z Z Z)) Z ?_
 rintro _ M212 _ hle213 ⟨_,⟨rfl,rfl⟩,rfl⟩
 refine WL.a0 (Wb (We (Sg (v:=(.agg #[(Iv 0),Zs])) (vl:=[(Iv 0),Zs]) (arr':=[(Iv 0),Zs]) Z sz29 hs174_2 Z (onb Z) Z Z Z) Z ?_))
 rintro _ _ _ - ⟨rfl,rfl⟩
 refine qa (GV r210) (Nt (Cr (Tr (WQ.e0 (Qb (Dr (Qb (Dr (Qb (Dr (Qb ?_)))))))))))
 exact Dr (Qa (Rd h [[]] (fun _ hs=>hs.drop) (resultsLN Z (RVs.cons (Rc (cs:=[(Iv 0),Zs]) 0 ag29 sz29 hs174_2 Z Z) (RVs.cons (RV.tmp Z) RVs.nil))) ((L169.trans hle174).trans hle213) ⟨Zs,[],Z,Z,(OwnS.nil _ _)⟩))
 refine Ck (Tc (Sr (qu (pt g21 0) (Fa fo25_0 hs174_1 Z) (qu (Iv a0.Kind) (Lb 3 pl3 Z Z Z) (qu vx173 (Lb 1 pl23 hs174_6 Z Z) (qu (.agg #[(Iv a0.Kind),vx173]) (Bl (cl:=[(Iv a0.Kind),vx173]) ze29 fp29 (Pc (Iv a0.Kind) Z Z (Parts.cons ((congrArg Value.cells (show ev _ _=vx173 from Z)).trans hx173.cells) Pz)) Z) (Wb (We (Sg (v:=(.agg #[(Iv a0.Kind),vx173])) (vl:=[(Iv a0.Kind),vx173]) (arr':=[(Iv a0.Kind),vx173]) Z sz29 hs174_2 Z (onesOf (Oc Z (Oc (Ow hx173) Oz))) Z Z Z) Z ?_))))))))
 rintro _ _ _ - ⟨rfl,rfl⟩
 exact qa (GV GErr.nil) (Nt (Cr (Qa (Dr (Qa (Dr (Qa (Dr (Rd h [cx173] (fun _ hs=>hs.drop) (resultsLN Z (RVs.cons (Rc (cs:=[(Iv a0.Kind),vx173]) 0 ag29 sz29 hs174_2 Z Z) (RVs.cons (RV.tmp Z) RVs.nil))) (L169.trans hle174) ⟨vx173,cx173,Z,Z,hx173⟩)))))))))
noncomputable def f_wire_Read (a0:(List Int)):Option T_wire_Reader:=
 (some (⟨a0,(0:Int),GErr.nil⟩:T_wire_Reader))
def f_wire_Read_post (a0:(List Int)) (v0:Value):T_wire_Reader→Value→IM→HL→Prop:=
 fun(r0:T_wire_Reader) (v:Value) (M':IM) (H':HL)=>∃ b0 vq0_0,(.pointer (some ⟨b0,0,none⟩))=v∧H'=[[(b0, .cells #[vq0_0,(.int .i64 r0.at_),(GV r0.err)] 110 (0,0))]]∧RS (Kd.int .u8) M' vq0_0 r0.b
theorem f_wire_Read_ok (a0:(List Int)) (M:IM) (v0:Value) (h0:RS (Kd.int .u8) M v0 a0) (res:T_wire_Reader) (h:f_wire_Read a0=some res):
 Tri Tryz.prog 31 #[v0] M [] (f_wire_Read_post a0 v0 res):=by
 unfold f_wire_Read at h
 refine Te Tryz.func31 Z Z ?_
 intro F ρ hρ
 refine Sr (qa (.pointer none) (Ns (qM v0 (hρ 0) (qu (.agg #[v0,(Iv 0),(GV GErr.nil)]) (Bl (cl:=[v0,(Iv 0),(GV GErr.nil)]) ze110 fp110 (Parts.cons ((congrArg Value.cells (show ev _ _=v0 from Z)).trans h0.cells) Pz) Z) (We (EO.box (cs:=#[v0,(Iv 0),(GV GErr.nil)]) (congrArg Value.cells (show ev _ _=(.agg #[v0,(Iv 0),(GV GErr.nil)]) from Z))) Z ?_)))))
 rintro _ _ _ - ⟨rfl,g21,rfl,rfl⟩
 exact qa (pt g21 0) (Nt (Cr (Rf h [[(g21, .cells #[v0,(Iv 0),(GV GErr.nil)] 110 (0,0))]] Z (Rs Z Z) lr ⟨g21,v0,Z,Z,h0⟩)))
noncomputable def f_wire_Reader_fail (a0:T_wire_Reader) (a1:ByteArray) (a2:Int) (a3:Int):Option GErr:=
 (if a0.err.isNil=true then((f_fault_New a1 a2 a3).bind fun r22=>(some r22))else(some a0.err))
def f_wire_Reader_fail_post (a0:T_wire_Reader) (a1:ByteArray) (a2:Int) (a3:Int) (v0_0:Value) (g0:Nat):GErr→Value→IM→HL→Prop:=
 fun(r0:GErr) (v:Value) (M':IM) (H':HL)=>(.tuple #[])=v∧H'=[[(g0, .cells #[v0_0,(.int .i64 a0.at_),(GV r0)] 110 (0,0))]]
theorem f_wire_Reader_fail_ok (a0:T_wire_Reader) (a1:ByteArray) (a2:Int) (a3:Int) (M:IM) (v0_0:Value) (g0:Nat) (h0_0:RS (Kd.int .u8) M v0_0 a0.b) (res:GErr) (h:f_wire_Reader_fail a0 a1 a2 a3=some res):
 Tri Tryz.prog 69 #[(pt g0 0),(Sv a1),(Iv a2),(Iv a3)] M [[(g0, .cells #[v0_0,(Iv a0.at_),(GV a0.err)] 110 (0,0))]] (f_wire_Reader_fail_post a0 a1 a2 a3 v0_0 g0 res):=by
 unfold f_wire_Reader_fail at h
 refine Te Tryz.func69 Z Z ?_
 intro F ρ hρ
 refine Sr (qM (pt g0 0) (hρ 0) (qu (pt g0 0) (Nk Z) (qu (pt g0 2) (Fa fo110_2 Z Z) (qu (GV a0.err) (Lb 0 pl31 Z Z Z) (qu (Bv a0.err.isNil) (PO.errNil Tryz.underlying31 Z) (Nt (Ch h Z (fun hb21 h=> ?_) (fun hb21 h=> ?_))))))))
 refine Cg (qM (pt g0 0) (hρ 0) (qM (Sv a1) (hρ 1) (qM (Iv a2) (hρ 2) (qM (Iv a3) (hρ 3) ?_))))
 obtain ⟨r22,hr23,h⟩:=bnd h
 refine We (Ca co30 (f_fault_New_ok a1 a2 a3 _ r22 hr23) (args3 Z Z Z)) Z ?_
 rintro _ M24 _ hle25 ⟨_,⟨rfl,rfl⟩,rfl⟩
 refine WL.a0 (qu (pt g0 0) (Nk Z) (qu (pt g0 2) (Fa fo110_2 Z Z) (We (Es (GV r22) [v0_0,(Iv a0.at_),(GV r22)] (GErr.val_cells _ _ _ _) sz31 Z Z (GErr.val_one _ _ _ _) Z Z Z) Z ?_)))
 rintro _ _ _ - ⟨rfl,rfl⟩
 exact Wz (WQ.endsF h [[(g0, .cells #[v0_0,(Iv a0.at_),(GV r22)] 110 (0,0))]] Z (results0 Z) hle25 ⟨Z,Z⟩)
 exact Ck (WQ.endsF h [[(g0, .cells #[v0_0,(Iv a0.at_),(GV a0.err)] 110 (0,0))]] Z (results0 Z) lr ⟨Z,Z⟩)

end Go.Proofs.YtkflneabcannnaaGreatDoor.G
