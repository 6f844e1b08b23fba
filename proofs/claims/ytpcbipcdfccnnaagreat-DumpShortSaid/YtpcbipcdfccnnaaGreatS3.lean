/- Go functions: what they come to, and that they do. Printed by a program of the session (gen). -/
import Derived.Test.YtpcbipcdfccnnaaGreatSF
import Derived.Test.YtpcbipcdfccnnaaGreatS1
import Derived.Test.YtpcbipcdfccnnaaGreatS2
import Derived.Test.YtpcbipcdfccnnaaGreatKShar2
import Derived.Test.YtpcbipcdfccnnaaGreatKConv
import Derived.Test.YtpcbipcdfccnnaaGreatKMap
import Derived.Test.YtpcbipcdfccnnaaGreatKShar
import Derived.Test.YtpcbipcdfccnnaaGreatKTight2
set_option linter.unusedVariables false
set_option linter.unusedSimpArgs false
set_option maxHeartbeats 8000000
set_option maxRecDepth 100000
namespace Go.Proofs.YtpcbipcdfccnnaaGreat.G
open Go Go.KK

noncomputable def f_ref15_Right_l0 (a0:T_api_Image) (a1:T_api_Part) (s_:Int):Option (Int⊕(Unit⊕Unit)):=
 match s_ with
 |x26=>
 (if(decide (x26<(a1.Ids.length:Int)))=true then(((grd (0≤x26∧x26<a1.Ids.length) ((f_ref15_Broker a0 (rd a1.Ids x26)).bind fun(r38,r39)=>(some r39))):Option Bool).bind fun x28=>(if(!x28)=true then(some (Sum.inr (Sum.inr ())))else(some (Sum.inl (IntKind.i64.wrap (x26+(1:Int)))))))else(some (Sum.inr (Sum.inl ()))))
noncomputable def f_ref15_Right_l1 (a1:T_api_Part) (s_:Int):Option (Int⊕(Unit⊕Unit)):=
 match s_ with
 |x58=>
 (if(decide (x58<(a1.Isr.length:Int)))=true then(grd (0≤x58∧x58<a1.Isr.length) ((f_ref15_Has a1.Ids (rd a1.Isr x58)).bind fun r67=>(if(!r67)=true then(some (Sum.inr (Sum.inr ())))else(some (Sum.inl (IntKind.i64.wrap (x58+(1:Int))))))))else(some (Sum.inr (Sum.inl ()))))
noncomputable def f_ref15_Right_l2 (a1:T_api_Part) (s_:Int):Option (Int⊕(Unit⊕Unit)):=
 match s_ with
 |x90=>
 (if(decide (x90<(a1.Add.length:Int)))=true then(((grd (0≤x90∧x90<a1.Add.length) ((f_ref15_Has a1.Ids (rd a1.Add x90)).bind fun r101=>(if(!r101)=true then(some true)else(grd (0≤x90∧x90<a1.Add.length) ((f_ref15_Has a1.Drop (rd a1.Add x90)).bind fun r114=>(some r114)))))):Option Bool).bind fun x92=>(if x92=true then(some (Sum.inr (Sum.inr ())))else(some (Sum.inl (IntKind.i64.wrap (x90+(1:Int)))))))else(some (Sum.inr (Sum.inl ()))))
noncomputable def f_ref15_Right_l3 (a1:T_api_Part) (s_:Int):Option (Int⊕(Unit⊕Unit)):=
 match s_ with
 |x122=>
 (if(decide (x122<(a1.Drop.length:Int)))=true then(grd (0≤x122∧x122<a1.Drop.length) ((f_ref15_Has a1.Ids (rd a1.Drop x122)).bind fun r131=>(if(!r131)=true then(some (Sum.inr (Sum.inr ())))else(some (Sum.inl (IntKind.i64.wrap (x122+(1:Int))))))))else(some (Sum.inr (Sum.inl ()))))
noncomputable def f_ref15_Right (a0:T_api_Image) (a1:T_api_Part):Option Int:=
 (if(decide ((a1.Ids.length:Int)=(0:Int)))=true then(some (18:Int))else((((iter (f_ref15_Right_l0 a0 a1) (0:Int)).bind (Sum.elim (fun _=>(some (Sum.inl ()))) (fun _=>(((some (18:Int))).bind fun r=>some (Sum.inr r))))):Option (Unit⊕Int)).bind (Sum.elim (fun _=>(if(decide ((a1.Isr.length:Int)=(0:Int)))=true then(some (18:Int))else((((iter (f_ref15_Right_l1 a1) (0:Int)).bind (Sum.elim (fun _=>(some (Sum.inl ()))) (fun _=>(((some (18:Int))).bind fun r=>some (Sum.inr r))))):Option (Unit⊕Int)).bind (Sum.elim (fun _=>(((if(decide (a1.Leader≠(0:Int)))=true then((f_ref15_Has a1.Isr a1.Leader).bind fun r76=>(if(!r76)=true then(some true)else((f_ref15_Alive a0 a1.Leader).bind fun r82=>(some (!r82)))))else(some false)):Option Bool).bind fun x73=>(if x73=true then(some (17:Int))else((((iter (f_ref15_Right_l2 a1) (0:Int)).bind (Sum.elim (fun _=>(some (Sum.inl ()))) (fun _=>(((some (18:Int))).bind fun r=>some (Sum.inr r))))):Option (Unit⊕Int)).bind (Sum.elim (fun _=>((((iter (f_ref15_Right_l3 a1) (0:Int)).bind (Sum.elim (fun _=>(some (Sum.inl ()))) (fun _=>(((some (18:Int))).bind fun r=>some (Sum.inr r))))):Option (Unit⊕Int)).bind (Sum.elim (fun _=>(some (0:Int))) some))) some))))) some)))) some)))
def f_ref15_Right_post (a0:T_api_Image) (a1:T_api_Part) (v0_0 v0_1 v0_2 v0_3 v1_0 v1_1 v1_4 v1_5:Value):Int→Value→IM→HL→Prop:=
 fun(r0:Int) (v:Value) (M':IM) (H':HL)=>(.int .i64 r0)=v∧H'=[]
theorem f_ref15_Right_ok (a0:T_api_Image) (a1:T_api_Part) (M:IM) (v0_0 v0_1 v0_2 v0_3 v1_0 v1_1 v1_4 v1_5:Value) (h0_0:RS kd_api_Broker M v0_0 a0.Brokers) (h0_1:RS kd_api_Topic M v0_1 a0.Topics) (h0_2:RS kd_api_Config M v0_2 a0.Configs) (h0_3:RS kd_api_Done M v0_3 a0.Done) (h1_0:RS (Kd.int .i64) M v1_0 a1.Ids) (h1_1:RS (Kd.int .i64) M v1_1 a1.Isr) (h1_4:RS (Kd.int .i64) M v1_4 a1.Add) (h1_5:RS (Kd.int .i64) M v1_5 a1.Drop) (res:Int) (h:f_ref15_Right a0 a1=some res):
 Tri Tryz.prog 68 #[(a29_ a0 v0_0 v0_1 v0_2 v0_3),(a54_ a1 v1_0 v1_1 v1_4 v1_5)] M [] (f_ref15_Right_post a0 a1 v0_0 v0_1 v0_2 v0_3 v1_0 v1_1 v1_4 v1_5 res):=by
 unfold f_ref15_Right at h
 refine Te Tryz.func68 Z Z ?_
 intro F ρ hρ
 refine Sr (We (EO.box (cs:=(l29 a0 v0_0 v0_1 v0_2 v0_3).toArray) (congrArg Value.cells (asE (a29_ a0 v0_0 v0_1 v0_2 v0_3) (hρ 0)))) Z ?_)
 rintro _ _ _ - ⟨rfl,g21,rfl,rfl⟩
 refine We (EO.box (cs:=(l54 a1 v1_0 v1_1 v1_4 v1_5).toArray) (congrArg Value.cells (asE (a54_ a1 v1_0 v1_1 v1_4 v1_5) (hρ 1)))) Z ?_
 rintro _ _ _ - ⟨rfl,g22,rfl,rfl⟩
 refine qa (Iv 0) (Nt (Cs (Sr (qu (pt g22 0) (Fa fo54_0 Z Z) (qu v1_0 (Lb 0 pl43 Z Z Z) (qu (Iv (a1.Ids.length:Int)) (PO.lenS Tryz.underlying43 Z h1_0.len) (qu (Bv (decide ((a1.Ids.length:Int)=(0:Int)))) (PO.eql Z Z) (Nt (Ch h Z (fun hb23 h=> ?_) (fun hb23 h=> ?_))))))))))
 exact Sr (qa (Iv 18) (Nt (Cr (Tr (Dr (Dr (Rf h [] Z (Rs Z Z) lr ⟨Z,Z⟩)))))))
 refine Ck (Tc ?_)
 obtain ⟨j24,hj24,h⟩:=bnd h
 refine WC.joinE (fun(_:Unit) ρ' M' H'=>M.le M'∧[(g22, .cells (l54 a1 v1_0 v1_1 v1_4 v1_5).toArray 54 (0,0))]::[(g21, .cells (l29 a0 v0_0 v0_1 v0_2 v0_3).toArray 29 (0,0))]::F=H'∧ρ' 2=(pt g21 0)∧ρ' 3=(pt g22 0)) j24 ?_ ?_
 have h324:=h
 have h:=hj24
 refine Sr (qa (Iv 0) (Nt (Bk ?_)))
 obtain ⟨e25,he25,hK25⟩:=bnd h
 clear h
 refine WC.loop he25 (fun(x26:Int) ρ' M' H'=>M.le M'∧[(g22, .cells (l54 a1 v1_0 v1_1 v1_4 v1_5).toArray 54 (0,0))]::[(g21, .cells (l29 a0 v0_0 v0_1 v0_2 v0_3).toArray 29 (0,0))]::F=H'∧ρ' 2=(pt g21 0)∧ρ' 3=(pt g22 0)∧ρ' 5=(Iv x26)) ?_ ?_
 exact⟨lr,Z,Z,Z,Z⟩
 rintro x26 o25 ρ25 M25 H25 h ⟨hle25,rfl,hs25_2,hs25_3,hs25_5⟩
 unfold f_ref15_Right_l0 at h
 refine Cs (Sr (qM (Iv x26) hs25_5 (qu (pt g22 0) (Fa fo54_0 hs25_3 Z) (qu v1_0 (Lb 0 pl43 Z Z Z) ?_))))
 have h1_0:=h1_0.mono hle25
 refine qu (Iv (a1.Ids.length:Int)) (PO.lenS Tryz.underlying43 Z h1_0.len) (qu (Bv (decide (x26<(a1.Ids.length:Int)))) (PO.lss Z Z) (Nt (Ch h Z (fun hb27 h=> ?_) (fun hb27 h=> ?_))))
 refine Ck (Tc (Cs (Bk ?_)))
 obtain ⟨x28,hj29,h⟩:=bnd h
 refine Jf (fun(x28:Bool) ρ' M' H'=>M25.le M'∧[(g22, .cells (l54 a1 v1_0 v1_1 v1_4 v1_5).toArray 54 (0,0))]::[(g21, .cells (l29 a0 v0_0 v0_1 v0_2 v0_3).toArray 29 (0,0))]::F=H'∧ρ' 2=(pt g21 0)∧ρ' 3=(pt g22 0)∧ρ' 5=(Iv x26)∧ρ' 7=(Bv x28)) x28 ?_ ?_
 have h:=hj29
 refine WC.draw [0,0,2,0,14,30,63,127,255,255,0,1535,4095] (.pure 0 (.pure 1 (.pure 2 (.pure 3 (.pure 4 (.pure 5 (.alt 6 (.pure 7 (.pure 8 (.pure 9 (.alt 10 (.alt 11 (.pure 12 .done) .none) .none)))) (.alt 10 (.alt 6 (.pure 7 (.pure 8 (.pure 9 (.alt 11 (.pure 12 .done) .none)))) .none) .none)))))))) mixed (by kernel_rfl) (qt (a29_ a0 v0_0 v0_1 v0_2 v0_3) Z (La (cs:=(l29 a0 v0_0 v0_1 v0_2 v0_3)) 1 ag29 sz29 hs25_2 Z Z) (qt (pt g22 0) Z (Fa fo54_0 hs25_3 Z) (qt v1_0 Z (Lb 0 pl43 Z Z Z) (qt (Iv x26) Z (Mv hs25_5) ?_))))
 obtain ⟨hg30,h⟩:=grd_i h
 obtain ⟨p31,cs32,hat33,hrc34,hhas35⟩:=h1_0.at hg30.1 hg30.2 (by decide)
 obtain rfl:=hrc34
 refine qt (.pointer (some p31)) Z (PO.indexAddr (n:=a1.Ids.length) Tryz.underlying43 sz3 Z Z hg30.1 hg30.2 hat33) (qt (Iv (rd a1.Ids x26)) Z (PO.loadM pl3 Z (IM.has0 hhas35)) ?_)
 have hk37:=h
 obtain ⟨⟨r38,r39⟩,hr40,h⟩:=bnd h
 have h0_0:=h0_0.mono hle25
 have h0_1:=h0_1.mono hle25
 have h0_2:=h0_2.mono hle25
 have h0_3:=h0_3.mono hle25
 refine Ta Z (Ca co63 (f_ref15_Broker_ok a0 (rd a1.Ids x26) _ _ _ _ _ h0_0 h0_1 h0_2 h0_3 (r38,r39) hr40) (args2 Z Z)) Z ?_ ?_
 rintro _ M41 _ hle42 ⟨_,⟨rfl,rfl⟩,rfl⟩
 refine⟨(Sl Z), ?_⟩
 refine WT.a0 (qt (.tuple #[(a59_ r38),(Bv r39)]) Z (Mv Z) (qt (a59_ r38) Z (Xt Z Z) (qt (Bv r39) Z (Xt Z Z) (Ta Z (Al ze59 Z) Z ?_ ?_))))
 rintro _ _ _ - ⟨rfl,g45,rfl,rfl⟩
 have hhas35:=hhas35.mono hle42
 refine⟨(Ss Z (Xt Z Z) Z (Ss Z (Xt Z Z) Z (Ss Z (Mv Z) Z (Ss Z (PO.loadM pl3 Z (IM.has0 hhas35)) Z (Ss Z (PO.indexAddr (n:=a1.Ids.length) Tryz.underlying43 sz3 Z Z hg30.1 hg30.2 hat33) Z (Ss Z (Mv hs25_5) Z (Ss Z (Lb 1 pl43 Z Z Z) Z (Ss Z (Fa fo54_0 hs25_3 Z) Z (Ss Z (La (cs:=(l29 a0 v0_0 v0_1 v0_2 v0_3)) 2 ag29 sz29 hs25_2 Z Z) Z trivial))))))))), ?_⟩
 refine Ta Z (Sg (v:=(a59_ r38)) (vl:=(l59 r38)) (arr':=(l59 r38)) Z sz59 Z Z (onb Z) Z Z Z) Z ?_ ?_
 rintro _ _ _ - ⟨rfl,rfl⟩
 refine⟨(Ss Z (Xt Z Z) Z (Sl Z)), ?_⟩
 refine qt (Bv r39) Z (Ag Z) (Ti (Dr ?_))
 obtain rfl:=oi h
 exact Tj ⟨hle42,Z,hs25_2,hs25_3,hs25_5,Z⟩
 exact Tz
 exact Tz
 have h:=hk37
 refine Ta Z (Al ze59 Z) Z ?_ ?_
 rintro _ _ _ - ⟨rfl,g46,rfl,rfl⟩
 refine⟨(Ss Z (PO.loadM pl3 Z (IM.has0 hhas35)) Z (Ss Z (PO.indexAddr (n:=a1.Ids.length) Tryz.underlying43 sz3 Z Z hg30.1 hg30.2 hat33) Z (Ss Z (Mv hs25_5) Z (Ss Z (Lb 1 pl43 Z Z Z) Z (Ss Z (Fa fo54_0 hs25_3 Z) Z (Ss Z (La (cs:=(l29 a0 v0_0 v0_1 v0_2 v0_3)) 2 ag29 sz29 hs25_2 Z Z) Z trivial)))))), ?_⟩
 obtain ⟨⟨r47,r48⟩,hr49,h⟩:=bnd h
 refine Ta Z (Ca co63 (f_ref15_Broker_ok a0 (rd a1.Ids x26) _ _ _ _ _ h0_0 h0_1 h0_2 h0_3 (r47,r48) hr49) (args2 Z Z)) Z ?_ ?_
 rintro _ M50 _ hle51 ⟨_,⟨rfl,rfl⟩,rfl⟩
 refine⟨(Sl Z), ?_⟩
 refine WT.a0 (qt (.tuple #[(a59_ r47),(Bv r48)]) Z (Mv Z) (qt (a59_ r47) Z (Xt Z Z) (qt (Bv r48) Z (Xt Z Z) (Ta Z (Sg (v:=(a59_ r47)) (vl:=(l59 r47)) (arr':=(l59 r47)) Z sz59 Z Z (onb Z) Z Z Z) Z ?_ ?_))))
 rintro _ _ _ - ⟨rfl,rfl⟩
 refine⟨(Ss Z (Xt Z Z) Z (Sl Z)), ?_⟩
 refine qt (Bv r48) Z (Ag Z) (Ti (Dr ?_))
 obtain rfl:=oi h
 exact Tj ⟨hle51,Z,hs25_2,hs25_3,hs25_5,Z⟩
 exact Tz
 exact Tz
 exact Tz
 rintro ρ29 M29 H29 ⟨hle29,rfl,hs29_2,hs29_3,hs29_5,hs29_7⟩
 refine Sr (qM (Bv x28) hs29_7 (qu (Bv (!x28)) (PO.not Z) (Nt (Ch h Z (fun hb54 h=> ?_) (fun hb54 h=> ?_)))))
 refine Sr (qa (Iv 18) (Nt (Cr (Br (Tr (WQ.leaveR (Sum.inr ()) (oi h).symm (fun heq25=> ?_)))))))
 subst heq25
 have h:=(elimR hK25)
 refine Br (Tr ?_)
 have h:=KK.early h h324
 exact Dr (Dr (Rf h [] Z (Rs Z Z) (hle25.trans hle29) ⟨Z,Z⟩))
 exact Ck (Bn (Tc (Cg (qM (Iv x26) hs29_5 (qu (Iv (IntKind.i64.wrap (x26+1))) (PO.add Z Z) (qa (Iv (IntKind.i64.wrap (x26+1))) (Wz (WQ.again (IntKind.i64.wrap (x26+1)) (oi h).symm ⟨(hle25.trans hle29),Z,hs29_2,hs29_3,Z⟩))))))))
 refine WC.exit (WQ.thenE (WQ.leaveE (Sum.inl ()) (oi h).symm (fun heq25=> ?_)))
 subst heq25
 have h:=elimL hK25
 exact WQ.blockH (WQ.thenFE h ⟨hle25,Z,hs25_2,hs25_3⟩)
 rintro _ ρ24 M24 H24 rfl ⟨hle24,rfl,hs24_2,hs24_3⟩
 have h:=(Sum.elim_inl _ _ _).symm.trans h
 refine Cs (Sr (qu (pt g22 1) (Fa fo54_1 hs24_3 Z) (qu v1_1 (Lb 0 pl43 Z Z Z) ?_)))
 have h1_1:=h1_1.mono hle24
 refine qu (Iv (a1.Isr.length:Int)) (PO.lenS Tryz.underlying43 Z h1_1.len) (qu (Bv (decide ((a1.Isr.length:Int)=(0:Int)))) (PO.eql Z Z) (Nt (Ch h Z (fun hb55 h=> ?_) (fun hb55 h=> ?_))))
 exact Sr (qa (Iv 18) (Nt (Cr (Tr (Dr (Dr (Rf h [] Z (Rs Z Z) hle24 ⟨Z,Z⟩)))))))
 refine Ck (Tc ?_)
 obtain ⟨j56,hj56,h⟩:=bnd h
 refine WC.joinE (fun(_:Unit) ρ' M' H'=>M24.le M'∧[(g22, .cells (l54 a1 v1_0 v1_1 v1_4 v1_5).toArray 54 (0,0))]::[(g21, .cells (l29 a0 v0_0 v0_1 v0_2 v0_3).toArray 29 (0,0))]::F=H'∧ρ' 2=(pt g21 0)∧ρ' 3=(pt g22 0)) j56 ?_ ?_
 have h356:=h
 have h:=hj56
 refine Sr (qa (Iv 0) (Nt (Bk ?_)))
 obtain ⟨e57,he57,hK57⟩:=bnd h
 clear h
 refine WC.loop he57 (fun(x58:Int) ρ' M' H'=>M24.le M'∧[(g22, .cells (l54 a1 v1_0 v1_1 v1_4 v1_5).toArray 54 (0,0))]::[(g21, .cells (l29 a0 v0_0 v0_1 v0_2 v0_3).toArray 29 (0,0))]::F=H'∧ρ' 2=(pt g21 0)∧ρ' 3=(pt g22 0)∧ρ' 8=(Iv x58)) ?_ ?_
 exact⟨lr,Z,hs24_2,hs24_3,Z⟩
 rintro x58 o57 ρ57 M57 H57 h ⟨hle57,rfl,hs57_2,hs57_3,hs57_8⟩
 unfold f_ref15_Right_l1 at h
 refine Cs (Sr (qM (Iv x58) hs57_8 (qu (pt g22 1) (Fa fo54_1 hs57_3 Z) (qu v1_1 (Lb 0 pl43 Z Z Z) ?_))))
 have h1_1:=h1_1.mono hle57
 refine qu (Iv (a1.Isr.length:Int)) (PO.lenS Tryz.underlying43 Z h1_1.len) (qu (Bv (decide (x58<(a1.Isr.length:Int)))) (PO.lss Z Z) (Nt (Ch h Z (fun hb59 h=> ?_) (fun hb59 h=> ?_))))
 refine Ck (Tc (Cs (Bk (Cs (WC.draw [0,1,0,4,0,28,60,127,255] (.pure 0 (.pure 1 (.pure 2 (.pure 3 (.pure 4 (.pure 5 (.pure 6 (.alt 7 (.pure 8 .done) .none)))))))) mixed (by kernel_rfl) (qt (pt g22 0) Z (Fa fo54_0 hs57_3 Z) (qt v1_0 Z (Lb 0 pl43 Z Z Z) (qt (pt g22 1) Z (Fa fo54_1 hs57_3 Z) (qt v1_1 Z (Lb 0 pl43 Z Z Z) (qt (Iv x58) Z (Mv hs57_8) ?_))))))))))
 obtain ⟨hg60,h⟩:=grd_i h
 obtain ⟨p61,cs62,hat63,hrc64,hhas65⟩:=h1_1.at hg60.1 hg60.2 (by decide)
 obtain rfl:=hrc64
 refine qt (.pointer (some p61)) Z (PO.indexAddr (n:=a1.Isr.length) Tryz.underlying43 sz3 Z Z hg60.1 hg60.2 hat63) (qt (Iv (rd a1.Isr x58)) Z (PO.loadM pl3 Z (IM.has0 hhas65)) ?_)
 obtain ⟨r67,hr68,h⟩:=bnd h
 have h1_0:=h1_0.mono (hle24.trans hle57)
 refine Ta Z (Ca co84 (f_ref15_Has_ok a1.Ids (rd a1.Isr x58) _ _ h1_0 r67 hr68) (args2 Z Z)) Z ?_ ?_
 rintro _ M69 _ hle70 ⟨_,⟨rfl,rfl⟩,rfl⟩
 refine⟨(Sl Z), ?_⟩
 refine WT.a0 (qt (Bv (!r67)) Z (PO.not Z) (Ti (Tc (Ch h Z (fun hb72 h=> ?_) (fun hb72 h=> ?_)))))
 refine Sr (qa (Iv 18) (Nt (Cr (Br (Tr (WQ.leaveR (Sum.inr ()) (oi h).symm (fun heq57=> ?_)))))))
 subst heq57
 have h:=(elimR hK57)
 refine Br (Tr ?_)
 have h:=KK.early h h356
 exact Dr (Dr (Rf h [] Z (Rs Z Z) ((hle24.trans hle57).trans hle70) ⟨Z,Z⟩))
 exact Ck (Bn (Tc (Cg (qM (Iv x58) hs57_8 (qu (Iv (IntKind.i64.wrap (x58+1))) (PO.add Z Z) (qa (Iv (IntKind.i64.wrap (x58+1))) (Wz (WQ.again (IntKind.i64.wrap (x58+1)) (oi h).symm ⟨(hle57.trans hle70),Z,hs57_2,hs57_3,Z⟩))))))))
 exact Tz
 refine WC.exit (WQ.thenE (WQ.leaveE (Sum.inl ()) (oi h).symm (fun heq57=> ?_)))
 subst heq57
 have h:=elimL hK57
 exact WQ.blockH (WQ.thenFE h ⟨hle57,Z,hs57_2,hs57_3⟩)
 rintro _ ρ56 M56 H56 rfl ⟨hle56,rfl,hs56_2,hs56_3⟩
 have L56:=hle24.trans hle56
 have h:=(Sum.elim_inl _ _ _).symm.trans h
 refine Cs ?_
 obtain ⟨x73,hj74,h⟩:=bnd h
 refine Jf (fun(x73:Bool) ρ' M' H'=>M56.le M'∧[(g22, .cells (l54 a1 v1_0 v1_1 v1_4 v1_5).toArray 54 (0,0))]::[(g21, .cells (l29 a0 v0_0 v0_1 v0_2 v0_3).toArray 29 (0,0))]::F=H'∧ρ' 3=(pt g22 0)∧ρ' 71=(Bv x73)) x73 ?_ ?_
 have h:=hj74
 refine Cg (qu (pt g22 2) (Fa fo54_2 hs56_3 Z) (qu (Iv a1.Leader) (Lb 0 pl3 Z Z Z) (qu (Bv (decide (a1.Leader≠0))) (PO.neq Z Z) (qm (Bv (decide (a1.Leader≠0))) ?_))))
 rcases Bi h with⟨hb75,h⟩ |⟨hb75,h⟩
 refine qo 57 hb75 (pt g22 1) (Fa fo54_1 hs56_3 Z) (qo 57 hb75 v1_1 (Lb 0 pl43 Z Z Z) (qo 57 hb75 (pt g22 2) (Fa fo54_2 hs56_3 Z) (qo 57 hb75 (Iv a1.Leader) (Lb 0 pl3 Z Z Z) (On 57 Z Z hb75 ?_))))
 obtain ⟨r76,hr77,h⟩:=bnd h
 have h1_1:=h1_1.mono hle56
 refine We (Ca co84 (f_ref15_Has_ok a1.Isr a1.Leader _ _ h1_1 r76 hr77) (args2 Z Z)) Z ?_
 rintro _ M78 _ hle79 ⟨_,⟨rfl,rfl⟩,rfl⟩
 have L79:=L56.trans hle79
 refine WL.a0 (qo 57 hb75 (Bv (!r76)) (PO.not Z) (On 57 Z Z hb75 (qm (Bv (!r76)) ?_)))
 rcases Bi h with⟨hb81,h⟩ |⟨hb81,h⟩
 iterate 5 refine Of 64 Z Z hb81 Z ?_
 refine qo 57 hb75 (Bv true) (Pt Z hb81 Z) (qu (Bv true) (Pt Z hb75 Z) (Wz ?_))
 obtain rfl:=oi h
 exact Tj ⟨hle79,Z,hs56_3,Z⟩
 refine qo 64 hb81 (a29_ a0 v0_0 v0_1 v0_2 v0_3) (La (cs:=(l29 a0 v0_0 v0_1 v0_2 v0_3)) 1 ag29 sz29 hs56_2 Z Z) (qo 64 hb81 (pt g22 2) (Fa fo54_2 hs56_3 Z) (qo 64 hb81 (Iv a1.Leader) (Lb 0 pl3 Z Z Z) (On 64 Z Z hb81 ?_)))
 obtain ⟨r82,hr83,h⟩:=bnd h
 have h0_0:=h0_0.mono L79
 have h0_1:=h0_1.mono L79
 have h0_2:=h0_2.mono L79
 have h0_3:=h0_3.mono L79
 refine We (Ca co85 (f_ref15_Alive_ok a0 a1.Leader _ _ _ _ _ h0_0 h0_1 h0_2 h0_3 r82 hr83) (args2 Z Z)) Z ?_
 rintro _ M84 _ hle85 ⟨_,⟨rfl,rfl⟩,rfl⟩
 refine WL.a0 (qo 64 hb81 (Bv (!r82)) (PO.not Z) (qo 57 hb75 (Bv (!r82)) (Pf Z hb81 Z) (qu (Bv (!r82)) (Pt Z hb75 Z) (Wz ?_))))
 obtain rfl:=oi h
 exact Tj ⟨(hle79.trans hle85),Z,hs56_3,Z⟩
 iterate 7 refine Of 57 Z Z hb75 Z ?_
 refine WL.offU 64 Z Z Z (WL.offU 64 Z Z Z (WL.offU 64 Z Z Z (WL.offU 64 Z Z Z (WL.offU 64 Z Z Z (Of 57 Z Z hb75 Z (qu (Bv false) (Pf Z hb75 Z) (Wz ?_)))))))
 obtain rfl:=oi h
 exact Tj ⟨lr,Z,hs56_3,Z⟩
 rintro ρ74 M74 H74 ⟨hle74,rfl,hs74_3,hs74_71⟩
 have L74:=L56.trans hle74
 refine Ch h hs74_71 (fun hb87 h=> ?_) (fun hb87 h=> ?_)
 exact Sr (qa (Iv 17) (Nt (Cr (Tr (Dr (Dr (Rf h [] Z (Rs Z Z) L74 ⟨Z,Z⟩)))))))
 refine Ck (Tc ?_)
 obtain ⟨j88,hj88,h⟩:=bnd h
 refine WC.joinE (fun(_:Unit) ρ' M' H'=>M74.le M'∧[(g22, .cells (l54 a1 v1_0 v1_1 v1_4 v1_5).toArray 54 (0,0))]::[(g21, .cells (l29 a0 v0_0 v0_1 v0_2 v0_3).toArray 29 (0,0))]::F=H'∧ρ' 3=(pt g22 0)) j88 ?_ ?_
 have h388:=h
 have h:=hj88
 refine Sr (qa (Iv 0) (Nt (Bk ?_)))
 obtain ⟨e89,he89,hK89⟩:=bnd h
 clear h
 refine WC.loop he89 (fun(x90:Int) ρ' M' H'=>M74.le M'∧[(g22, .cells (l54 a1 v1_0 v1_1 v1_4 v1_5).toArray 54 (0,0))]::[(g21, .cells (l29 a0 v0_0 v0_1 v0_2 v0_3).toArray 29 (0,0))]::F=H'∧ρ' 3=(pt g22 0)∧ρ' 9=(Iv x90)) ?_ ?_
 exact⟨lr,Z,hs74_3,Z⟩
 rintro x90 o89 ρ89 M89 H89 h ⟨hle89,rfl,hs89_3,hs89_9⟩
 have L89:=L74.trans hle89
 unfold f_ref15_Right_l2 at h
 refine Cs (Sr (qM (Iv x90) hs89_9 (qu (pt g22 4) (Fa fo54_4 hs89_3 Z) (qu v1_4 (Lb 0 pl43 Z Z Z) ?_))))
 have h1_4:=h1_4.mono L89
 refine qu (Iv (a1.Add.length:Int)) (PO.lenS Tryz.underlying43 Z h1_4.len) (qu (Bv (decide (x90<(a1.Add.length:Int)))) (PO.lss Z Z) (Nt (Ch h Z (fun hb91 h=> ?_) (fun hb91 h=> ?_))))
 refine Ck (Tc (Cs (Bk ?_)))
 obtain ⟨x92,hj93,h⟩:=bnd h
 refine Jf (fun(x92:Bool) ρ' M' H'=>M89.le M'∧[(g22, .cells (l54 a1 v1_0 v1_1 v1_4 v1_5).toArray 54 (0,0))]::[(g21, .cells (l29 a0 v0_0 v0_1 v0_2 v0_3).toArray 29 (0,0))]::F=H'∧ρ' 3=(pt g22 0)∧ρ' 9=(Iv x90)∧ρ' 97=(Bv x92)) x92 ?_ ?_
 have h:=hj93
 refine WC.draw [0,1,0,4,0,28,60,127,255,511,1023,2047,1023,5119,1023,29695,62463,131071,262143] (.pure 0 (.pure 1 (.pure 2 (.pure 3 (.pure 4 (.pure 5 (.pure 6 (.alt 7 (.pure 8 (.pure 9 (.pure 10 (.pure 11 (.pure 12 (.pure 13 (.pure 14 (.pure 15 (.pure 16 (.alt 17 (.pure 18 .done) .none)))))))))) .none)))))))) mixed (by kernel_rfl) (qt (pt g22 0) Z (Fa fo54_0 hs89_3 Z) (qt v1_0 Z (Lb 0 pl43 Z Z Z) (qt (pt g22 4) Z (Fa fo54_4 hs89_3 Z) (qt v1_4 Z (Lb 0 pl43 Z Z Z) (qt (Iv x90) Z (Mv hs89_9) ?_)))))
 obtain ⟨hg94,h⟩:=grd_i h
 obtain ⟨p95,cs96,hat97,hrc98,hhas99⟩:=h1_4.at hg94.1 hg94.2 (by decide)
 obtain rfl:=hrc98
 refine qt (.pointer (some p95)) Z (PO.indexAddr (n:=a1.Add.length) Tryz.underlying43 sz3 Z Z hg94.1 hg94.2 hat97) (qt (Iv (rd a1.Add x90)) Z (PO.loadM pl3 Z (IM.has0 hhas99)) ?_)
 obtain ⟨r101,hr102,h⟩:=bnd h
 have h1_0:=h1_0.mono L89
 refine Ta Z (Ca co84 (f_ref15_Has_ok a1.Ids (rd a1.Add x90) _ _ h1_0 r101 hr102) (args2 Z Z)) Z ?_ ?_
 rintro _ M103 _ hle104 ⟨_,⟨rfl,rfl⟩,rfl⟩
 refine⟨(Sl Z), ?_⟩
 refine WT.a0 (qt (Bv (!r101)) Z (PO.not Z) (qt (Bv (!r101)) Z (Mv Z) ?_))
 rcases Bi h with⟨hb106,h⟩ |⟨hb106,h⟩
 refine Tf 88 Z Z Z hb106 Z (Tf 88 Z Z Z hb106 Z (Tf 88 Z Z Z hb106 Z (Tf 88 Z Z Z hb106 Z (Tf 88 Z Z Z hb106 Z (Tf 88 Z Z Z hb106 Z (Tf 88 Z Z Z hb106 Z (Tg 88 Z Z Z hb106 Z ⟨(Sl Z), ?_⟩ ?_)))))))
 refine qt (Bv true) Z (Pt Z hb106 Z) (Ti ?_)
 obtain rfl:=oi h
 exact Tj ⟨hle104,Z,hs89_3,hs89_9,Z⟩
 exact Tz
 refine Tn (pt g22 5) 88 Z Z Z hb106 (Fa fo54_5 hs89_3 Z) Z (Tn v1_5 88 Z Z Z hb106 (Lb 0 pl43 Z Z Z) Z (Tn (pt g22 4) 88 Z Z Z hb106 (Fa fo54_4 hs89_3 Z) Z (Tn v1_4 88 Z Z Z hb106 (Lb 0 pl43 Z Z Z) Z (Tn (Iv x90) 88 Z Z Z hb106 (Mv hs89_9) Z ?_))))
 obtain ⟨hg107,h⟩:=grd_i h
 have h1_4:=h1_4.mono hle104
 obtain ⟨p108,cs109,hat110,hrc111,hhas112⟩:=h1_4.at hg107.1 hg107.2 (by decide)
 obtain rfl:=hrc111
 refine Tn (.pointer (some p108)) 88 Z Z Z hb106 (PO.indexAddr (n:=a1.Add.length) Tryz.underlying43 sz3 Z Z hg107.1 hg107.2 hat110) Z (Tn (Iv (rd a1.Add x90)) 88 Z Z Z hb106 (PO.loadM pl3 Z (IM.has0 hhas112)) Z ?_)
 obtain ⟨r114,hr115,h⟩:=bnd h
 have h1_5:=h1_5.mono (L89.trans hle104)
 refine WT.altOn 88 Z Z Z hb106 (Ca co84 (f_ref15_Has_ok a1.Drop (rd a1.Add x90) _ _ h1_5 r114 hr115) (args2 Z Z)) Z ?_ ?_
 rintro _ M116 _ hle117 ⟨_,⟨rfl,rfl⟩,rfl⟩
 refine⟨(Sl Z), ?_⟩
 refine WT.a0 (qt (Bv r114) Z (Pf Z hb106 Z) (Ti ?_))
 obtain rfl:=oi h
 exact Tj ⟨(hle104.trans hle117),Z,hs89_3,hs89_9,Z⟩
 exact Tz
 exact Tz
 rintro ρ93 M93 H93 ⟨hle93,rfl,hs93_3,hs93_9,hs93_97⟩
 refine Ch h hs93_97 (fun hb119 h=> ?_) (fun hb119 h=> ?_)
 refine Sr (qa (Iv 18) (Nt (Cr (Br (Tr (WQ.leaveR (Sum.inr ()) (oi h).symm (fun heq89=> ?_)))))))
 subst heq89
 have h:=(elimR hK89)
 refine Br (Tr ?_)
 have h:=KK.early h h388
 exact Dr (Dr (Rf h [] Z (Rs Z Z) (L89.trans hle93) ⟨Z,Z⟩))
 exact Ck (Bn (Tc (Cg (qM (Iv x90) hs93_9 (qu (Iv (IntKind.i64.wrap (x90+1))) (PO.add Z Z) (qa (Iv (IntKind.i64.wrap (x90+1))) (Wz (WQ.again (IntKind.i64.wrap (x90+1)) (oi h).symm ⟨(hle89.trans hle93),Z,hs93_3,Z⟩))))))))
 refine WC.exit (WQ.thenE (WQ.leaveE (Sum.inl ()) (oi h).symm (fun heq89=> ?_)))
 subst heq89
 have h:=elimL hK89
 exact WQ.blockH (WQ.thenFE h ⟨hle89,Z,hs89_3⟩)
 rintro _ ρ88 M88 H88 rfl ⟨hle88,rfl,hs88_3⟩
 have L88:=L74.trans hle88
 have h:=(Sum.elim_inl _ _ _).symm.trans h
 obtain ⟨j120,hj120,h⟩:=bnd h
 refine WC.joinE (fun(_:Unit) ρ' M' H'=>M88.le M'∧[(g22, .cells (l54 a1 v1_0 v1_1 v1_4 v1_5).toArray 54 (0,0))]::[(g21, .cells (l29 a0 v0_0 v0_1 v0_2 v0_3).toArray 29 (0,0))]::F=H') j120 ?_ ?_
 have h3120:=h
 have h:=hj120
 refine Sr (qa (Iv 0) (Nt (Bk ?_)))
 obtain ⟨e121,he121,hK121⟩:=bnd h
 clear h
 refine WC.loop he121 (fun(x122:Int) ρ' M' H'=>M88.le M'∧[(g22, .cells (l54 a1 v1_0 v1_1 v1_4 v1_5).toArray 54 (0,0))]::[(g21, .cells (l29 a0 v0_0 v0_1 v0_2 v0_3).toArray 29 (0,0))]::F=H'∧ρ' 3=(pt g22 0)∧ρ' 10=(Iv x122)) ?_ ?_
 exact⟨lr,Z,hs88_3,Z⟩
 rintro x122 o121 ρ121 M121 H121 h ⟨hle121,rfl,hs121_3,hs121_10⟩
 have L121:=L88.trans hle121
 unfold f_ref15_Right_l3 at h
 refine Cs (Sr (qM (Iv x122) hs121_10 (qu (pt g22 5) (Fa fo54_5 hs121_3 Z) (qu v1_5 (Lb 0 pl43 Z Z Z) ?_))))
 have h1_5:=h1_5.mono L121
 refine qu (Iv (a1.Drop.length:Int)) (PO.lenS Tryz.underlying43 Z h1_5.len) (qu (Bv (decide (x122<(a1.Drop.length:Int)))) (PO.lss Z Z) (Nt (Ch h Z (fun hb123 h=> ?_) (fun hb123 h=> ?_))))
 refine Ck (Tc (Cs (Bk (Cs (WC.draw [0,1,0,4,0,28,60,127,255] (.pure 0 (.pure 1 (.pure 2 (.pure 3 (.pure 4 (.pure 5 (.pure 6 (.alt 7 (.pure 8 .done) .none)))))))) mixed (by kernel_rfl) (qt (pt g22 0) Z (Fa fo54_0 hs121_3 Z) (qt v1_0 Z (Lb 0 pl43 Z Z Z) (qt (pt g22 5) Z (Fa fo54_5 hs121_3 Z) (qt v1_5 Z (Lb 0 pl43 Z Z Z) (qt (Iv x122) Z (Mv hs121_10) ?_))))))))))
 obtain ⟨hg124,h⟩:=grd_i h
 obtain ⟨p125,cs126,hat127,hrc128,hhas129⟩:=h1_5.at hg124.1 hg124.2 (by decide)
 obtain rfl:=hrc128
 refine qt (.pointer (some p125)) Z (PO.indexAddr (n:=a1.Drop.length) Tryz.underlying43 sz3 Z Z hg124.1 hg124.2 hat127) (qt (Iv (rd a1.Drop x122)) Z (PO.loadM pl3 Z (IM.has0 hhas129)) ?_)
 obtain ⟨r131,hr132,h⟩:=bnd h
 have h1_0:=h1_0.mono L121
 refine Ta Z (Ca co84 (f_ref15_Has_ok a1.Ids (rd a1.Drop x122) _ _ h1_0 r131 hr132) (args2 Z Z)) Z ?_ ?_
 rintro _ M133 _ hle134 ⟨_,⟨rfl,rfl⟩,rfl⟩
 refine⟨(Sl Z), ?_⟩
 refine WT.a0 (qt (Bv (!r131)) Z (PO.not Z) (Ti (Tc (Ch h Z (fun hb136 h=> ?_) (fun hb136 h=> ?_)))))
 refine Sr (qa (Iv 18) (Nt (Cr (Br (Tr (WQ.leaveR (Sum.inr ()) (oi h).symm (fun heq121=> ?_)))))))
 subst heq121
 have h:=(elimR hK121)
 refine Br (Tr ?_)
 have h:=KK.early h h3120
 exact Dr (Dr (Rf h [] Z (Rs Z Z) (L121.trans hle134) ⟨Z,Z⟩))
 exact Ck (Bn (Tc (Cg (qM (Iv x122) hs121_10 (qu (Iv (IntKind.i64.wrap (x122+1))) (PO.add Z Z) (qa (Iv (IntKind.i64.wrap (x122+1))) (Wz (WQ.again (IntKind.i64.wrap (x122+1)) (oi h).symm ⟨(hle121.trans hle134),Z,hs121_3,Z⟩))))))))
 exact Tz
 refine WC.exit (WQ.thenE (WQ.leaveE (Sum.inl ()) (oi h).symm (fun heq121=> ?_)))
 subst heq121
 have h:=elimL hK121
 exact WQ.blockH (WQ.thenFE h ⟨hle121,Z⟩)
 rintro _ ρ120 M120 H120 rfl ⟨hle120,rfl⟩
 have h:=(Sum.elim_inl _ _ _).symm.trans h
 exact Sr (qa (Iv 0) (Nt (Cr (Dr (Dr (Rf h [] Z (Rs Z Z) (L88.trans hle120) ⟨Z,Z⟩))))))
noncomputable def f_ref15_putPart_l0 (a0:T_api_Image) (a1:Int) (a2:Int) (a3:T_api_Part) (s_:(Int×(List T_api_Topic))):Option ((Int×(List T_api_Topic))⊕(List T_api_Topic)):=
 match s_ with
 |(x28,x29)=>
 (if(decide (x28<(a0.Topics.length:Int)))=true then(grd (0≤x28∧x28<a0.Topics.length) (((if(decide (((rd a0.Topics x28).Id)=a1))=true then(grd (0≤(0:Int)∧(0:Int)≤a2∧a2≤(((rd a0.Topics x28).Parts).length:Int)) (grd (([]:List T_api_Part).length+(sub ((rd a0.Topics x28).Parts) (0:Int) a2).length≤274877906944) (grd ((([]:List T_api_Part)++(sub ((rd a0.Topics x28).Parts) (0:Int) a2)).length+[a3].length≤274877906944) (((if(decide (a2<(((rd a0.Topics x28).Parts).length:Int)))=true then(grd (0≤IntKind.i64.wrap (a2+(1:Int))∧IntKind.i64.wrap (a2+(1:Int))≤(((rd a0.Topics x28).Parts).length:Int)∧(((rd a0.Topics x28).Parts).length:Int)≤(((rd a0.Topics x28).Parts).length:Int)) (grd (((([]:List T_api_Part)++(sub ((rd a0.Topics x28).Parts) (0:Int) a2))++[a3]).length+(sub ((rd a0.Topics x28).Parts) (IntKind.i64.wrap (a2+(1:Int))) (((rd a0.Topics x28).Parts).length:Int)).length≤274877906944) (some (((([]:List T_api_Part)++(sub ((rd a0.Topics x28).Parts) (0:Int) a2))++[a3])++(sub ((rd a0.Topics x28).Parts) (IntKind.i64.wrap (a2+(1:Int))) (((rd a0.Topics x28).Parts).length:Int))))))else(some ((([]:List T_api_Part)++(sub ((rd a0.Topics x28).Parts) (0:Int) a2))++[a3]))):Option (List T_api_Part)).bind fun x57=>(some x57)))))else(some ((rd a0.Topics x28).Parts))):Option (List T_api_Part)).bind fun x40=>(grd (x29.length+[(⟨(rd a0.Topics x28).Id,(rd a0.Topics x28).Name,x40⟩:T_api_Topic)].length≤274877906944) (some (Sum.inl (IntKind.i64.wrap (x28+(1:Int)),x29++[(⟨(rd a0.Topics x28).Id,(rd a0.Topics x28).Name,x40⟩:T_api_Topic)]))))))else(some (Sum.inr x29)))
noncomputable def f_ref15_putPart (a0:T_api_Image) (a1:Int) (a2:Int) (a3:T_api_Part):Option T_api_Image:=
 ((((iter (f_ref15_putPart_l0 a0 a1 a2 a3) ((0:Int),[])).bind (fun(x30:(List T_api_Topic))=>(some x30))):Option (List T_api_Topic)).bind fun x25=>(some (⟨a0.Brokers,x25,a0.Configs,a0.Done,a0.Last⟩:T_api_Image)))
def f_ref15_putPart_post (a0:T_api_Image) (a1:Int) (a2:Int) (a3:T_api_Part) (v0_0 v0_1 v0_2 v0_3 v3_0 v3_1 v3_4 v3_5:Value):T_api_Image→Value→IM→HL→Prop:=
 fun(r0:T_api_Image) (v:Value) (M':IM) (H':HL)=>∃ vz0_0 vz0_1 cz0_1 vz0_2 vz0_3,(.agg #[vz0_0,vz0_1,vz0_2,vz0_3,(.int .i64 r0.Last)])=v∧H'=[cz0_1]∧RS kd_api_Broker M' vz0_0 r0.Brokers∧OwnS kd_api_Topic M' vz0_1 r0.Topics cz0_1∧RS kd_api_Config M' vz0_2 r0.Configs∧RS kd_api_Done M' vz0_3 r0.Done
theorem f_ref15_putPart_ok (a0:T_api_Image) (a1:Int) (a2:Int) (a3:T_api_Part) (M:IM) (v0_0 v0_1 v0_2 v0_3 v3_0 v3_1 v3_4 v3_5:Value) (h0_0:RS kd_api_Broker M v0_0 a0.Brokers) (h0_1:RS kd_api_Topic M v0_1 a0.Topics) (h0_2:RS kd_api_Config M v0_2 a0.Configs) (h0_3:RS kd_api_Done M v0_3 a0.Done) (h3_0:RS (Kd.int .i64) M v3_0 a3.Ids) (h3_1:RS (Kd.int .i64) M v3_1 a3.Isr) (h3_4:RS (Kd.int .i64) M v3_4 a3.Add) (h3_5:RS (Kd.int .i64) M v3_5 a3.Drop) (res:T_api_Image) (h:f_ref15_putPart a0 a1 a2 a3=some res):
 Tri Tryz.prog 69 #[(a29_ a0 v0_0 v0_1 v0_2 v0_3),(Iv a1),(Iv a2),(a54_ a3 v3_0 v3_1 v3_4 v3_5)] M [] (f_ref15_putPart_post a0 a1 a2 a3 v0_0 v0_1 v0_2 v0_3 v3_0 v3_1 v3_4 v3_5 res):=by
 unfold f_ref15_putPart at h
 refine Te Tryz.func69 Z Z ?_
 intro F ρ hρ
 refine Sr (We (EO.box (cs:=(l29 a0 v0_0 v0_1 v0_2 v0_3).toArray) (congrArg Value.cells (asE (a29_ a0 v0_0 v0_1 v0_2 v0_3) (hρ 0)))) Z ?_)
 rintro _ _ _ - ⟨rfl,g21,rfl,rfl⟩
 refine We (EO.box (cs:=(l54 a3 v3_0 v3_1 v3_4 v3_5).toArray) (congrArg Value.cells (asE (a54_ a3 v3_0 v3_1 v3_4 v3_5) (hρ 3)))) Z ?_
 rintro _ _ _ - ⟨rfl,g22,rfl,rfl⟩
 refine We (Al ze29 Z) Z ?_
 rintro _ _ _ - ⟨rfl,g23,rfl,rfl⟩
 refine Ns (qu (a29_ a0 v0_0 v0_1 v0_2 v0_3) (La (cs:=(l29 a0 v0_0 v0_1 v0_2 v0_3)) 2 ag29 sz29 Z Z Z) (We (Al ze29 Z) Z ?_))
 rintro _ _ _ - ⟨rfl,g24,rfl,rfl⟩
 refine We (Sg (v:=(a29_ a0 v0_0 v0_1 v0_2 v0_3)) (vl:=(l29 a0 v0_0 v0_1 v0_2 v0_3)) (arr':=(l29 a0 v0_0 v0_1 v0_2 v0_3)) Z sz29 Z Z (onesOf (Oc (RS.one h0_0) (Oc (RS.one h0_1) (Oc (RS.one h0_2) (Oc (RS.one h0_3) (Oc Z Oz)))))) Z Z Z) Z ?_
 rintro _ _ _ - ⟨rfl,rfl⟩
 refine Ns (qu (pt g24 1) (Fa fo29_1 Z Z) (We (Es Zs ((l29 a0 v0_0 Zs v0_2 v0_3)) Z sz25 Z Z Z Z Z Z) Z ?_))
 rintro _ _ _ - ⟨rfl,rfl⟩
 refine Nt ?_
 obtain ⟨x25,hj26,h⟩:=bnd h
 refine Jf (fun(x25:(List T_api_Topic)) ρ' M' H'=>∃ vx25 cx25,M.le M'∧[(g24, .cells (l29 a0 v0_0 vx25 v0_2 v0_3).toArray 29 (0,0))]::[(g23, .cells z29_.toArray 29 (0,0))]::[(g22, .cells (l54 a3 v3_0 v3_1 v3_4 v3_5).toArray 54 (0,0))]::[(g21, .cells (l29 a0 v0_0 v0_1 v0_2 v0_3).toArray 29 (0,0))]::cx25::F=H'∧ρ' 8=(pt g23 0)∧ρ' 9=(pt g24 0)∧OwnS kd_api_Topic M' vx25 x25 cx25) x25 ?_ ?_
 have h:=hj26
 refine Sr (qa (Iv 0) (Nt (Bk (WC.e0 (WC.f4 (WC.f4 (WC.f4 (WC.f4 ?_))))))))
 obtain ⟨e27,he27,hK27⟩:=bnd h
 clear h
 refine WC.loop he27 (fun(p_:(Int×(List T_api_Topic))) ρ' M' H'=>match p_ with |(x28,x29)=>∃ vx29 cx29,M.le M'∧[(g24, .cells (l29 a0 v0_0 vx29 v0_2 v0_3).toArray 29 (0,0))]::[(g23, .cells z29_.toArray 29 (0,0))]::[(g22, .cells (l54 a3 v3_0 v3_1 v3_4 v3_5).toArray 54 (0,0))]::[(g21, .cells (l29 a0 v0_0 v0_1 v0_2 v0_3).toArray 29 (0,0))]::cx29::F=H'∧ρ' 1=(Iv a1)∧ρ' 2=(Iv a2)∧ρ' 4=(pt g21 0)∧ρ' 7=(pt g22 0)∧ρ' 8=(pt g23 0)∧ρ' 9=(pt g24 0)∧ρ' 10=(Iv x28)∧OwnS kd_api_Topic M' vx29 x29 cx29) ?_ ?_
 exact⟨Zs,[],lr,Z,(hρ 1),(hρ 2),Z,Z,Z,Z,Z,(OwnS.nil _ _)⟩
 rintro ⟨x28,x29⟩ o27 ρ27 M27 H27 h ⟨vx29,cx29,hle27,rfl,hs27_1,hs27_2,hs27_4,hs27_7,hs27_8,hs27_9,hs27_10,hx29⟩
 unfold f_ref15_putPart_l0 at h
 refine Cs (Sr (qM (Iv x28) hs27_10 (qu (pt g21 1) (Fa fo29_1 hs27_4 Z) (qu v0_1 (Lb 3 pl25 Z Z Z) ?_))))
 have h0_1:=h0_1.mono hle27
 refine qu (Iv (a0.Topics.length:Int)) (PO.lenS Tryz.underlying25 Z h0_1.len) (qu (Bv (decide (x28<(a0.Topics.length:Int)))) (PO.lss Z Z) (Nt (Ch h Z (fun hb31 h=> ?_) (fun hb31 h=> ?_))))
 refine Ck (Tc (Cs (Bk (Sr (qu (pt g21 1) (Fa fo29_1 hs27_4 Z) (qu v0_1 (Lb 3 pl25 Z Z Z) (qM (Iv x28) hs27_10 ?_)))))))
 obtain ⟨hg32,h⟩:=grd_i h
 obtain ⟨p33,cs34,hat35,hrc36,hhas37⟩:=h0_1.at hg32.1 hg32.2 (by decide)
 obtain ⟨vw38_2,rfl,hw38_2⟩:=kd_api_Topic_open hrc36
 refine qu (.pointer (some p33)) (PO.indexAddr (n:=a0.Topics.length) Tryz.underlying25 sz52 Z Z hg32.1 hg32.2 hat35) (qu (a52_ (rd a0.Topics x28) vw38_2) (PO.loadMA (cs:=(l52 (rd a0.Topics x28) vw38_2)) ag52 sz52 Z hhas37) (We (Al ze52 Z) Z ?_))
 rintro _ _ _ - ⟨rfl,g39,rfl,rfl⟩
 refine We (Sg (v:=(a52_ (rd a0.Topics x28) vw38_2)) (vl:=(l52 (rd a0.Topics x28) vw38_2)) (arr':=(l52 (rd a0.Topics x28) vw38_2)) Z sz52 Z Z (onesOf (Oc Z (Oc Z (Oc (RS.one hw38_2) Oz)))) Z Z Z) Z ?_
 rintro _ _ _ - ⟨rfl,rfl⟩
 refine Nt ?_
 obtain ⟨x40,hj41,h⟩:=bnd h
 refine Jf (fun(x40:(List T_api_Part)) ρ' M' H'=>∃ vx40,M27.le M'∧[(g39, .cells (l52 (rd a0.Topics x28) vx40).toArray 52 (0,0))]::[(g24, .cells (l29 a0 v0_0 vx29 v0_2 v0_3).toArray 29 (0,0))]::[(g23, .cells z29_.toArray 29 (0,0))]::[(g22, .cells (l54 a3 v3_0 v3_1 v3_4 v3_5).toArray 54 (0,0))]::[(g21, .cells (l29 a0 v0_0 v0_1 v0_2 v0_3).toArray 29 (0,0))]::cx29::F=H'∧ρ' 1=(Iv a1)∧ρ' 2=(Iv a2)∧ρ' 4=(pt g21 0)∧ρ' 7=(pt g22 0)∧ρ' 8=(pt g23 0)∧ρ' 9=(pt g24 0)∧ρ' 10=(Iv x28)∧ρ' 11=(pt g39 0)∧RS kd_api_Part M' vx40 x40) x40 ?_ ?_
 have h:=hj41
 refine Sr (qu (pt g39 0) (Fa fo52_0 Z Z) (qu (Iv ((rd a0.Topics x28).Id)) (Lb 0 pl3 Z Z Z) (qM (Iv a1) hs27_1 (qu (Bv (decide (((rd a0.Topics x28).Id)=a1))) (PO.eql Z Z) (Nt (Ch h Z (fun hb42 h=> ?_) (fun hb42 h=> ?_)))))))
 refine Sr (qa Zs (Ns (qm Zs (qu (pt g39 2) (Fa fo52_2 Z Z) (qu vw38_2 (Lb 0 pl50 Z Z Z) (qM (Iv a2) hs27_2 ?_))))))
 obtain ⟨hg43,h⟩:=grd_i h
 have h44:=hw38_2.sub hg43.1 hg43.2.1 hg43.2.2
 refine qu (slV vw38_2 6 ((0:Int)).toNat (a2).toNat) (PO.slice (n:=((rd a0.Topics x28).Parts).length) (l:=((0:Int)).toNat) (h:=(a2).toNat) Tryz.underlying50 sz54 Z hw38_2.len hw38_2.cap (bound0 Z) ⟨_,_,Z,(Int.le_trans hg43.1 hg43.2.1),Z⟩ (Int.toNat_le_toNat hg43.2.1) (toNat_le_len hg43.2.2)) ?_
 obtain ⟨hg49,h⟩:=grd_i h
 refine WL.e0 (We (EO.append (dd:=kd_api_Part) (xs:=[]) (ys:=sub ((rd a0.Topics x28).Parts) (0:Int) a2) Tryz.underlying50 Tryz.underlying50 in54 Z (appB (by decide) hg49) (by decide) Z Z (OwnS.nil _ _) (h44.src _)) Z ?_)
 rintro v48 _ _ - ⟨rfl,c46,rfl,h47⟩
 refine qa v48 (Ns (qm v48 (qu (a54_ a3 v3_0 v3_1 v3_4 v3_5) (La (cs:=(l54 a3 v3_0 v3_1 v3_4 v3_5)) 4 ag54 sz54 hs27_7 Z Z) (We (EO.buildSliceL (cl:=(l54 a3 v3_0 v3_1 v3_4 v3_5)) Tryz.underlying50 iz54 Z (Pc (a54_ a3 v3_0 v3_1 v3_4 v3_5) Z Z Pz) Z) Z ?_))))
 rintro _ _ _ - ⟨rfl,g50,rfl,rfl⟩
 have h3_0:=h3_0.mono hle27
 have h3_1:=h3_1.mono hle27
 have h3_4:=h3_4.mono hle27
 have h3_5:=h3_5.mono hle27
 have h52:OwnS kd_api_Part M27 (.slice (some ⟨g50,0,none⟩) 1 1) [a3] [(g50, .cells (l54 a3 v3_0 v3_1 v3_4 v3_5).toArray 54 (0,0))]:=OwnS.rows (css:=[(l54 a3 v3_0 v3_1 v3_4 v3_5)]) (Rows.cons (kd_api_Part_mk (x:=a3) h3_0 h3_1 h3_4 h3_5) Rows.nil) Z Z
 obtain ⟨hg56,h⟩:=grd_i h
 refine WL.f1 (We (EO.append (dd:=kd_api_Part) (xs:=([]:List T_api_Part)++(sub ((rd a0.Topics x28).Parts) (0:Int) a2)) (ys:=[a3]) Tryz.underlying50 Tryz.underlying50 in54 Z (appB (by decide) hg56) (by decide) Z Z h47 (h52.src 1 Z)) Z ?_)
 rintro v55 _ _ - ⟨rfl,c53,rfl,h54⟩
 refine qa v55 (Nt ?_)
 obtain ⟨x57,hj58,h⟩:=bnd h
 refine Jf (fun(x57:(List T_api_Part)) ρ' M' H'=>∃ vx57 cx57,M27.le M'∧[(g39, .cells (l52 (rd a0.Topics x28) vw38_2).toArray 52 (0,0))]::[(g24, .cells (l29 a0 v0_0 vx29 v0_2 v0_3).toArray 29 (0,0))]::[(g23, .cells z29_.toArray 29 (0,0))]::[(g22, .cells (l54 a3 v3_0 v3_1 v3_4 v3_5).toArray 54 (0,0))]::[(g21, .cells (l29 a0 v0_0 v0_1 v0_2 v0_3).toArray 29 (0,0))]::cx57::cx29::F=H'∧ρ' 1=(Iv a1)∧ρ' 2=(Iv a2)∧ρ' 4=(pt g21 0)∧ρ' 7=(pt g22 0)∧ρ' 8=(pt g23 0)∧ρ' 9=(pt g24 0)∧ρ' 10=(Iv x28)∧ρ' 11=(pt g39 0)∧ρ' 12=vx57∧OwnS kd_api_Part M' vx57 x57 cx57) x57 ?_ ?_
 have h:=hj58
 refine Sr (qM (Iv a2) hs27_2 (qu (pt g39 2) (Fa fo52_2 Z Z) (qu vw38_2 (Lb 2 pl50 Z Z Z) (qu (Iv (((rd a0.Topics x28).Parts).length:Int)) (PO.lenS Tryz.underlying50 Z hw38_2.len) (qu (Bv (decide (a2<(((rd a0.Topics x28).Parts).length:Int)))) (PO.lss Z Z) (Nt (Ch h Z (fun hb59 h=> ?_) (fun hb59 h=> ?_))))))))
 refine Cg (qm v55 (qu (pt g39 2) (Fa fo52_2 Z Z) (qu vw38_2 (Lb 2 pl50 Z Z Z) (qM (Iv a2) hs27_2 (qu (Iv (IntKind.i64.wrap (a2+1))) (PO.add Z Z) ?_)))))
 obtain ⟨hg60,h⟩:=grd_i h
 have h61:=hw38_2.sub hg60.1 hg60.2.1 hg60.2.2
 refine qu (slV vw38_2 6 (IntKind.i64.wrap (a2+1)).toNat ((((rd a0.Topics x28).Parts).length:Int)).toNat) (PO.slice (n:=((rd a0.Topics x28).Parts).length) (l:=(IntKind.i64.wrap (a2+1)).toNat) (h:=((((rd a0.Topics x28).Parts).length:Int)).toNat) Tryz.underlying50 sz54 Z hw38_2.len hw38_2.cap ⟨_,_,Z,hg60.1,Z⟩ (boundN_ Z) (Int.toNat_le_toNat hg60.2.1) (toNat_le_len hg60.2.2)) ?_
 obtain ⟨hg65,h⟩:=grd_i h
 refine We (EO.append (dd:=kd_api_Part) (xs:=(([]:List T_api_Part)++(sub ((rd a0.Topics x28).Parts) (0:Int) a2))++[a3]) (ys:=sub ((rd a0.Topics x28).Parts) (IntKind.i64.wrap (a2+1)) (((rd a0.Topics x28).Parts).length:Int)) Tryz.underlying50 Tryz.underlying50 in54 Z (appB (by decide) hg65) (by decide) Z Z h54 (h61.src _)) Z ?_
 rintro v64 _ _ - ⟨rfl,c62,rfl,h63⟩
 refine qa v64 (Wz (Qa (Dr (WQ.f6 (Qa (WQ.f6 (WQ.f6 (WQ.f6 (WQ.f6 (WQ.f6 ?_))))))))))
 obtain rfl:=oi h
 exact Tj ⟨v64,c62,lr,Z,hs27_1,hs27_2,hs27_4,hs27_7,hs27_8,hs27_9,hs27_10,Z,Z,h63⟩
 refine Ck (Qa (Dr (WQ.f6 (Qa (WQ.f6 (WQ.f6 (WQ.f6 (WQ.f6 (WQ.f6 ?_)))))))))
 obtain rfl:=oi h
 exact Tj ⟨v55,c53,lr,Z,hs27_1,hs27_2,hs27_4,hs27_7,hs27_8,hs27_9,hs27_10,Z,Z,h54⟩
 rintro ρ58 M58 H58 ⟨vx57,cx57,hle58,rfl,hs58_1,hs58_2,hs58_4,hs58_7,hs58_8,hs58_9,hs58_10,hs58_11,hs58_12,hx57⟩
 refine Cg (qM vx57 hs58_12 (qu (pt g39 2) (Fa fo52_2 hs58_11 Z) (We (Es vx57 ((l52 (rd a0.Topics x28) vx57)) hx57.cells sz50 Z Z (Ow hx57) Z Z Z) Z ?_)))
 rintro _ _ _ - ⟨rfl,rfl⟩
 refine Wz (WQ.f5 (WQ.know (fun _ hs=>hx57.rs hs) (fun hf67=> ?_)))
 refine WQ.freeze (fun hle66=> ?_)
 obtain rfl:=oi h
 exact Tj ⟨vx57,(hle58.trans hle66),Z,hs58_1,hs58_2,hs58_4,hs58_7,hs58_8,hs58_9,hs58_10,hs58_11,hf67⟩
 refine Ck ?_
 obtain rfl:=oi h
 exact Tj ⟨vw38_2,lr,Z,hs27_1,hs27_2,hs27_4,hs27_7,hs27_8,hs27_9,hs27_10,Z,hw38_2⟩
 rintro ρ41 M41 H41 ⟨vx40,hle41,rfl,hs41_1,hs41_2,hs41_4,hs41_7,hs41_8,hs41_9,hs41_10,hs41_11,hx40⟩
 refine Cg (qu (pt g24 1) (Fa fo29_1 hs41_9 Z) (qu vx29 (Lb 1 pl25 Z Z Z) (qu (a52_ (rd a0.Topics x28) vx40) (La (cs:=(l52 (rd a0.Topics x28) vx40)) 0 ag52 sz52 hs41_11 Z Z) (We (EO.buildSliceL (cl:=(l52 (rd a0.Topics x28) vx40)) Tryz.underlying25 iz52 Z (Pc (a52_ (rd a0.Topics x28) vx40) Z Z Pz) Z) Z ?_))))
 rintro _ _ _ - ⟨rfl,g68,rfl,rfl⟩
 have h70:OwnS kd_api_Topic M41 (.slice (some ⟨g68,0,none⟩) 1 1) [(⟨(rd a0.Topics x28).Id,(rd a0.Topics x28).Name,x40⟩:T_api_Topic)] [(g68, .cells (l52 (rd a0.Topics x28) vx40).toArray 52 (0,0))]:=OwnS.rows (css:=[(l52 (rd a0.Topics x28) vx40)]) (Rows.cons (kd_api_Topic_mk (x:=(⟨(rd a0.Topics x28).Id,(rd a0.Topics x28).Name,x40⟩:T_api_Topic)) hx40) Rows.nil) Z Z
 obtain ⟨hg74,h⟩:=grd_i h
 refine WL.f6 ?_
 have hx29:=hx29.mono hle41
 refine We (EO.append (dd:=kd_api_Topic) (xs:=x29) (ys:=[(⟨(rd a0.Topics x28).Id,(rd a0.Topics x28).Name,x40⟩:T_api_Topic)]) Tryz.underlying25 Tryz.underlying25 in52 Z (appB (by decide) hg74) (by decide) Z Z hx29 (h70.src 1 Z)) Z ?_
 rintro v73 _ _ - ⟨rfl,c71,rfl,h72⟩
 refine qu (pt g24 1) (Fa fo29_1 hs41_9 Z) (WL.f3 (We (Es v73 ((l29 a0 v0_0 v73 v0_2 v0_3)) h72.cells sz25 Z Z (Ow h72) Z Z Z) Z ?_))
 rintro _ _ _ - ⟨rfl,rfl⟩
 refine Wz (Bn (Tc (Cg (qM (Iv x28) hs41_10 (qu (Iv (IntKind.i64.wrap (x28+1))) (PO.add Z Z) (qa (Iv (IntKind.i64.wrap (x28+1))) (Wz (Qb (Dr (Qb (Dr ?_)))))))))))
 exact Qa (WQ.f4 (WQ.f4 (WQ.f4 (WQ.f4 (WQ.again (IntKind.i64.wrap (x28+1),x29++[(⟨(rd a0.Topics x28).Id,(rd a0.Topics x28).Name,x40⟩:T_api_Topic)]) (oi h).symm ⟨v73,c71,(hle27.trans hle41),Z,hs41_1,hs41_2,hs41_4,hs41_7,hs41_8,hs41_9,Z,h72⟩)))))
 refine WC.exit (WQ.thenE (WQ.leaveE x29 (oi h).symm (fun heq27=> ?_)))
 subst heq27
 have h:=hK27
 refine WQ.blockH ?_
 obtain rfl:=oi h
 exact Tj ⟨vx29,cx29,hle27,Z,hs27_8,hs27_9,hx29⟩
 rintro ρ26 M26 H26 ⟨vx25,cx25,hle26,rfl,hs26_8,hs26_9,hx25⟩
 refine Sr (qu (a29_ a0 v0_0 vx25 v0_2 v0_3) (La (cs:=(l29 a0 v0_0 vx25 v0_2 v0_3)) 0 ag29 sz29 hs26_9 Z Z) (WL.f1 ?_))
 have h0_0:=h0_0.mono hle26
 have h0_2:=h0_2.mono hle26
 have h0_3:=h0_3.mono hle26
 refine We (Sg (v:=(a29_ a0 v0_0 vx25 v0_2 v0_3)) (vl:=(l29 a0 v0_0 vx25 v0_2 v0_3)) (arr':=(l29 a0 v0_0 vx25 v0_2 v0_3)) Z sz29 hs26_8 Z (onesOf (Oc (RS.one h0_0) (Oc (Ow hx25) (Oc (RS.one h0_2) (Oc (RS.one h0_3) (Oc Z Oz)))))) Z Z Z) Z ?_
 rintro _ _ _ - ⟨rfl,rfl⟩
 exact Nt (Cr (Qa (Dr (Qa (Dr (Qa (Dr (Rd h [cx25] (fun _ hs=>hs.drop) (resultsL1 Z (Rc (cs:=(l29 a0 v0_0 vx25 v0_2 v0_3)) 0 ag29 sz29 hs26_8 Z Z)) hle26 ⟨v0_0,vx25,cx25,v0_2,v0_3,Z,Z,h0_0,hx25,h0_2,h0_3⟩))))))))
noncomputable def f_ref02_Ints_l0 (a0:(List Int)) (a1:(List Int)) (s_:Int):Option (Int⊕(Unit⊕Unit)):=
 match s_ with
 |x24=>
 (if(decide (x24<(a0.length:Int)))=true then(grd (0≤x24∧x24<a0.length) (grd (0≤x24∧x24<a1.length) (if(decide ((rd a0 x24)≠(rd a1 x24)))=true then(some (Sum.inr (Sum.inr ())))else(some (Sum.inl (IntKind.i64.wrap (x24+(1:Int))))))))else(some (Sum.inr (Sum.inl ()))))
noncomputable def f_ref02_Ints (a0:(List Int)) (a1:(List Int)):Option Bool:=
 (if(decide ((a0.length:Int)≠(a1.length:Int)))=true then(some false)else((((iter (f_ref02_Ints_l0 a0 a1) (0:Int)).bind (Sum.elim (fun _=>(some (Sum.inl ()))) (fun _=>(((some false)).bind fun r=>some (Sum.inr r))))):Option (Unit⊕Bool)).bind (Sum.elim (fun _=>(some true)) some)))
def f_ref02_Ints_post (a0:(List Int)) (a1:(List Int)) (v0 v1:Value):Bool→Value→IM→HL→Prop:=
 fun(r0:Bool) (v:Value) (M':IM) (H':HL)=>(.bool r0)=v∧H'=[]
theorem f_ref02_Ints_ok (a0:(List Int)) (a1:(List Int)) (M:IM) (v0 v1:Value) (h0:RS (Kd.int .i64) M v0 a0) (h1:RS (Kd.int .i64) M v1 a1) (res:Bool) (h:f_ref02_Ints a0 a1=some res):
 Tri Tryz.prog 80 #[v0,v1] M [] (f_ref02_Ints_post a0 a1 v0 v1 res):=by
 unfold f_ref02_Ints at h
 refine Te Tryz.func80 Z Z ?_
 intro F ρ hρ
 refine Sr (qa (Bv false) (Nt (Cs (Sr (qM v0 (hρ 0) (qu (Iv (a0.length:Int)) (PO.lenS Tryz.underlying43 Z h0.len) (qM v1 (hρ 1) (qu (Iv (a1.length:Int)) (PO.lenS Tryz.underlying43 Z h1.len) (qu (Bv (decide ((a0.length:Int)≠(a1.length:Int)))) (PO.neq Z Z) (Nt (Ch h Z (fun hb21 h=> ?_) (fun hb21 h=> ?_))))))))))))
 exact Sr (qa (Bv false) (Nt (Cr (Tr (Rf h [] Z (Rs Z Z) lr ⟨Z,Z⟩)))))
 refine Ck (Tc ?_)
 obtain ⟨j22,hj22,h⟩:=bnd h
 refine WC.joinE (fun(_:Unit) ρ' M' H'=>M.le M'∧F=H') j22 ?_ ?_
 have h322:=h
 have h:=hj22
 refine Sr (qa (Iv 0) (Nt (Bk ?_)))
 obtain ⟨e23,he23,hK23⟩:=bnd h
 clear h
 refine WC.loop he23 (fun(x24:Int) ρ' M' H'=>M.le M'∧F=H'∧ρ' 0=v0∧ρ' 1=v1∧ρ' 5=(Iv x24)) ?_ ?_
 exact⟨lr,Z,(hρ 0),(hρ 1),Z⟩
 rintro x24 o23 ρ23 M23 H23 h ⟨hle23,rfl,hs23_0,hs23_1,hs23_5⟩
 unfold f_ref02_Ints_l0 at h
 refine Cs (Sr (qM (Iv x24) hs23_5 (qM v0 hs23_0 ?_)))
 have h0:=h0.mono hle23
 refine qu (Iv (a0.length:Int)) (PO.lenS Tryz.underlying43 Z h0.len) (qu (Bv (decide (x24<(a0.length:Int)))) (PO.lss Z Z) (Nt (Ch h Z (fun hb25 h=> ?_) (fun hb25 h=> ?_))))
 refine Ck (Tc (Cs (Bk (Cs (WC.draw [0,0,3,7,0,0,48,112,255] (.pure 0 (.pure 1 (.pure 2 (.pure 3 (.pure 4 (.pure 5 (.pure 6 (.pure 7 (.pure 8 .done))))))))) mixed (by kernel_rfl) (qt v0 Z (Mv hs23_0) (qt (Iv x24) Z (Mv hs23_5) ?_)))))))
 obtain ⟨hg26,h⟩:=grd_i h
 obtain ⟨p27,cs28,hat29,hrc30,hhas31⟩:=h0.at hg26.1 hg26.2 (by decide)
 obtain rfl:=hrc30
 refine qt (.pointer (some p27)) Z (PO.indexAddr (n:=a0.length) Tryz.underlying43 sz3 Z Z hg26.1 hg26.2 hat29) (qt (Iv (rd a0 x24)) Z (PO.loadM pl3 Z (IM.has0 hhas31)) (qt v1 Z (Mv hs23_1) (qt (Iv x24) Z (Mv hs23_5) ?_)))
 obtain ⟨hg33,h⟩:=grd_i h
 have h1:=h1.mono hle23
 obtain ⟨p34,cs35,hat36,hrc37,hhas38⟩:=h1.at hg33.1 hg33.2 (by decide)
 obtain rfl:=hrc37
 refine qt (.pointer (some p34)) Z (PO.indexAddr (n:=a1.length) Tryz.underlying43 sz3 Z Z hg33.1 hg33.2 hat36) (qt (Iv (rd a1 x24)) Z (PO.loadM pl3 Z (IM.has0 hhas38)) (qt (Bv (decide ((rd a0 x24)≠(rd a1 x24)))) Z (PO.neq Z Z) (Ti (Tc (Ch h Z (fun hb40 h=> ?_) (fun hb40 h=> ?_))))))
 refine Sr (qa (Bv false) (Nt (Cr (Br (Tr (WQ.leaveR (Sum.inr ()) (oi h).symm (fun heq23=> ?_)))))))
 subst heq23
 have h:=(elimR hK23)
 refine Br (Tr ?_)
 have h:=KK.early h h322
 exact Rf h [] Z (Rs Z Z) hle23 ⟨Z,Z⟩
 exact Ck (Bn (Tc (Cg (qM (Iv x24) hs23_5 (qu (Iv (IntKind.i64.wrap (x24+1))) (PO.add Z Z) (qa (Iv (IntKind.i64.wrap (x24+1))) (Wz (WQ.again (IntKind.i64.wrap (x24+1)) (oi h).symm ⟨hle23,Z,hs23_0,hs23_1,Z⟩))))))))
 refine WC.exit (WQ.thenE (WQ.leaveE (Sum.inl ()) (oi h).symm (fun heq23=> ?_)))
 subst heq23
 have h:=elimL hK23
 exact WQ.blockH (WQ.thenFE h ⟨hle23,Z⟩)
 rintro _ ρ22 M22 H22 rfl ⟨hle22,rfl⟩
 have h:=(Sum.elim_inl _ _ _).symm.trans h
 exact Sr (qa (Bv true) (Nt (Cr (Rf h [] Z (Rs Z Z) hle22 ⟨Z,Z⟩))))
noncomputable def f_ref15_SamePart (a0:T_api_Part) (a1:T_api_Part):Option Bool:=
 (((if(decide (a0.Leader≠a1.Leader))=true then(some true)else(some (decide (a0.Epoch≠a1.Epoch)))):Option Bool).bind fun x23=>(if x23=true then(some false)else((((f_ref02_Ints a0.Ids a1.Ids).bind fun r29=>(if r29=true then((f_ref02_Ints a0.Isr a1.Isr).bind fun r35=>(some r35))else(some false))):Option Bool).bind fun x27=>(((if x27=true then((f_ref02_Ints a0.Add a1.Add).bind fun r43=>(if r43=true then((f_ref02_Ints a0.Drop a1.Drop).bind fun r49=>(some r49))else(some false)))else(some false)):Option Bool).bind fun x40=>(some x40)))))
def f_ref15_SamePart_post (a0:T_api_Part) (a1:T_api_Part) (v0_0 v0_1 v0_4 v0_5 v1_0 v1_1 v1_4 v1_5:Value):Bool→Value→IM→HL→Prop:=
 fun(r0:Bool) (v:Value) (M':IM) (H':HL)=>(.bool r0)=v∧H'=[]
theorem f_ref15_SamePart_ok (a0:T_api_Part) (a1:T_api_Part) (M:IM) (v0_0 v0_1 v0_4 v0_5 v1_0 v1_1 v1_4 v1_5:Value) (h0_0:RS (Kd.int .i64) M v0_0 a0.Ids) (h0_1:RS (Kd.int .i64) M v0_1 a0.Isr) (h0_4:RS (Kd.int .i64) M v0_4 a0.Add) (h0_5:RS (Kd.int .i64) M v0_5 a0.Drop) (h1_0:RS (Kd.int .i64) M v1_0 a1.Ids) (h1_1:RS (Kd.int .i64) M v1_1 a1.Isr) (h1_4:RS (Kd.int .i64) M v1_4 a1.Add) (h1_5:RS (Kd.int .i64) M v1_5 a1.Drop) (res:Bool) (h:f_ref15_SamePart a0 a1=some res):
 Tri Tryz.prog 58 #[(a54_ a0 v0_0 v0_1 v0_4 v0_5),(a54_ a1 v1_0 v1_1 v1_4 v1_5)] M [] (f_ref15_SamePart_post a0 a1 v0_0 v0_1 v0_4 v0_5 v1_0 v1_1 v1_4 v1_5 res):=by
 unfold f_ref15_SamePart at h
 refine Te Tryz.func58 Z Z ?_
 intro F ρ hρ
 refine Sr (We (EO.box (cs:=(l54 a0 v0_0 v0_1 v0_4 v0_5).toArray) (congrArg Value.cells (asE (a54_ a0 v0_0 v0_1 v0_4 v0_5) (hρ 0)))) Z ?_)
 rintro _ _ _ - ⟨rfl,g21,rfl,rfl⟩
 refine We (EO.box (cs:=(l54 a1 v1_0 v1_1 v1_4 v1_5).toArray) (congrArg Value.cells (asE (a54_ a1 v1_0 v1_1 v1_4 v1_5) (hρ 1)))) Z ?_
 rintro _ _ _ - ⟨rfl,g22,rfl,rfl⟩
 refine qa (Bv false) (Nt (Cs ?_))
 obtain ⟨x23,hj24,h⟩:=bnd h
 refine Jf (fun(x23:Bool) ρ' M' H'=>M.le M'∧[(g22, .cells (l54 a1 v1_0 v1_1 v1_4 v1_5).toArray 54 (0,0))]::[(g21, .cells (l54 a0 v0_0 v0_1 v0_4 v0_5).toArray 54 (0,0))]::F=H'∧ρ' 2=(pt g21 0)∧ρ' 3=(pt g22 0)∧ρ' 17=(Bv x23)) x23 ?_ ?_
 have h:=hj24
 refine Cg (qu (pt g21 2) (Fa fo54_2 Z Z) (qu (Iv a0.Leader) (Lb 1 pl3 Z Z Z) (qu (pt g22 2) (Fa fo54_2 Z Z) (qu (Iv a1.Leader) (Lb 0 pl3 Z Z Z) (qu (Bv (decide (a0.Leader≠a1.Leader))) (PO.neq Z Z) (qm (Bv (decide (a0.Leader≠a1.Leader))) ?_))))))
 rcases Bi h with⟨hb25,h⟩ |⟨hb25,h⟩
 iterate 5 refine Of 11 Z Z hb25 Z ?_
 refine qu (Bv true) (Pt Z hb25 Z) (Wz ?_)
 obtain rfl:=oi h
 exact Tj ⟨lr,Z,Z,Z,Z⟩
 refine qo 11 hb25 (pt g21 3) (Fa fo54_3 Z Z) (qo 11 hb25 (Iv a0.Epoch) (Lb 1 pl3 Z Z Z) (qo 11 hb25 (pt g22 3) (Fa fo54_3 Z Z) (qo 11 hb25 (Iv a1.Epoch) (Lb 0 pl3 Z Z Z) (qo 11 hb25 (Bv (decide (a0.Epoch≠a1.Epoch))) (PO.neq Z Z) (qu (Bv (decide (a0.Epoch≠a1.Epoch))) (Pf Z hb25 Z) (Wz ?_))))))
 obtain rfl:=oi h
 exact Tj ⟨lr,Z,Z,Z,Z⟩
 rintro ρ24 M24 H24 ⟨hle24,rfl,hs24_2,hs24_3,hs24_17⟩
 refine Ch h hs24_17 (fun hb26 h=> ?_) (fun hb26 h=> ?_)
 exact Sr (qa (Bv false) (Nt (Cr (Tr (Dr (Dr (Rf h [] Z (Rs Z Z) hle24 ⟨Z,Z⟩)))))))
 refine Ck (Tc ?_)
 obtain ⟨x27,hj28,h⟩:=bnd h
 refine Jf (fun(x27:Bool) ρ' M' H'=>M24.le M'∧[(g22, .cells (l54 a1 v1_0 v1_1 v1_4 v1_5).toArray 54 (0,0))]::[(g21, .cells (l54 a0 v0_0 v0_1 v0_4 v0_5).toArray 54 (0,0))]::F=H'∧ρ' 2=(pt g21 0)∧ρ' 3=(pt g22 0)∧ρ' 5=(Bv x27)) x27 ?_ ?_
 have h:=hj28
 refine Cg (qu (pt g21 0) (Fa fo54_0 hs24_2 Z) (qu v0_0 (Lb 1 pl43 Z Z Z) (qu (pt g22 0) (Fa fo54_0 hs24_3 Z) (qu v1_0 (Lb 0 pl43 Z Z Z) ?_))))
 obtain ⟨r29,hr30,h⟩:=bnd h
 have h0_0:=h0_0.mono hle24
 have h1_0:=h1_0.mono hle24
 refine We (Ca co80 (f_ref02_Ints_ok a0.Ids a1.Ids _ _ _ h0_0 h1_0 r29 hr30) (args2 Z Z)) Z ?_
 rintro _ M31 _ hle32 ⟨_,⟨rfl,rfl⟩,rfl⟩
 refine WL.a0 (qm (Bv r29) ?_)
 rcases Bi h with⟨hb34,h⟩ |⟨hb34,h⟩
 refine qo 23 hb34 (pt g21 1) (Fa fo54_1 hs24_2 Z) (qo 23 hb34 v0_1 (Lb 1 pl43 Z Z Z) (qo 23 hb34 (pt g22 1) (Fa fo54_1 hs24_3 Z) (qo 23 hb34 v1_1 (Lb 0 pl43 Z Z Z) (On 23 Z Z hb34 ?_))))
 obtain ⟨r35,hr36,h⟩:=bnd h
 have h0_1:=h0_1.mono (hle24.trans hle32)
 have h1_1:=h1_1.mono (hle24.trans hle32)
 refine We (Ca co80 (f_ref02_Ints_ok a0.Isr a1.Isr _ _ _ h0_1 h1_1 r35 hr36) (args2 Z Z)) Z ?_
 rintro _ M37 _ hle38 ⟨_,⟨rfl,rfl⟩,rfl⟩
 refine WL.a0 (qu (Bv r35) (Pt Z hb34 Z) (qa (Bv r35) (Wz ?_)))
 obtain rfl:=oi h
 exact Tj ⟨(hle32.trans hle38),Z,hs24_2,hs24_3,Z⟩
 iterate 5 refine Of 23 Z Z hb34 Z ?_
 refine qu (Bv false) (Pf Z hb34 Z) (qa (Bv false) (Wz ?_))
 obtain rfl:=oi h
 exact Tj ⟨hle32,Z,hs24_2,hs24_3,Z⟩
 rintro ρ28 M28 H28 ⟨hle28,rfl,hs28_2,hs28_3,hs28_5⟩
 obtain ⟨x40,hj41,h⟩:=bnd h
 refine Jf (fun(x40:Bool) ρ' M' H'=>M28.le M'∧[(g22, .cells (l54 a1 v1_0 v1_1 v1_4 v1_5).toArray 54 (0,0))]::[(g21, .cells (l54 a0 v0_0 v0_1 v0_4 v0_5).toArray 54 (0,0))]::F=H'∧ρ' 4=(Bv x40)) x40 ?_ ?_
 have h:=hj41
 refine Cg (qM (Bv x27) hs28_5 (qm (Bv x27) ?_))
 rcases Bi h with⟨hb42,h⟩ |⟨hb42,h⟩
 refine qo 31 hb42 (pt g21 4) (Fa fo54_4 hs28_2 Z) (qo 31 hb42 v0_4 (Lb 1 pl43 Z Z Z) (qo 31 hb42 (pt g22 4) (Fa fo54_4 hs28_3 Z) (qo 31 hb42 v1_4 (Lb 0 pl43 Z Z Z) (On 31 Z Z hb42 ?_))))
 obtain ⟨r43,hr44,h⟩:=bnd h
 have h0_4:=h0_4.mono (hle24.trans hle28)
 have h1_4:=h1_4.mono (hle24.trans hle28)
 refine We (Ca co80 (f_ref02_Ints_ok a0.Add a1.Add _ _ _ h0_4 h1_4 r43 hr44) (args2 Z Z)) Z ?_
 rintro _ M45 _ hle46 ⟨_,⟨rfl,rfl⟩,rfl⟩
 refine WL.a0 (qu (Bv r43) (Pt Z hb42 Z) (qm (Bv r43) ?_))
 rcases Bi h with⟨hb48,h⟩ |⟨hb48,h⟩
 refine qo 38 hb48 (pt g21 5) (Fa fo54_5 hs28_2 Z) (qo 38 hb48 v0_5 (Lb 1 pl43 Z Z Z) (qo 38 hb48 (pt g22 5) (Fa fo54_5 hs28_3 Z) (qo 38 hb48 v1_5 (Lb 0 pl43 Z Z Z) (On 38 Z Z hb48 ?_))))
 obtain ⟨r49,hr50,h⟩:=bnd h
 have h0_5:=h0_5.mono ((hle24.trans hle28).trans hle46)
 have h1_5:=h1_5.mono ((hle24.trans hle28).trans hle46)
 refine We (Ca co80 (f_ref02_Ints_ok a0.Drop a1.Drop _ _ _ h0_5 h1_5 r49 hr50) (args2 Z Z)) Z ?_
 rintro _ M51 _ hle52 ⟨_,⟨rfl,rfl⟩,rfl⟩
 refine WL.a0 (qu (Bv r49) (Pt Z hb48 Z) (qa (Bv r49) (Wz ?_)))
 obtain rfl:=oi h
 exact Tj ⟨(hle46.trans hle52),Z,Z⟩
 iterate 5 refine Of 38 Z Z hb48 Z ?_
 refine qu (Bv false) (Pf Z hb48 Z) (qa (Bv false) (Wz ?_))
 obtain rfl:=oi h
 exact Tj ⟨hle46,Z,Z⟩
 iterate 5 refine Of 31 Z Z hb42 Z ?_
 refine qu (Bv false) (Pf Z hb42 Z) (qm (Bv false) ?_)
 iterate 5 refine Of 38 Z Z Z Z ?_
 refine qu (Bv false) (Pf Z Z Z) (qa (Bv false) (Wz ?_))
 obtain rfl:=oi h
 exact Tj ⟨lr,Z,Z⟩
 rintro ρ41 M41 H41 ⟨hle41,rfl,hs41_4⟩
 exact Cr (Dr (Dr (Rf h [] Z (Rs Z hs41_4) ((hle24.trans hle28).trans hle41) ⟨Z,Z⟩)))

end Go.Proofs.YtpcbipcdfccnnaaGreat.G
