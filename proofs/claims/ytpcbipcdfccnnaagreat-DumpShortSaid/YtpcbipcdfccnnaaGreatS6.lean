/- Go functions: what they come to, and that they do. Printed by a program of the session (gen). -/
import Derived.Test.YtpcbipcdfccnnaaGreatSF
import Derived.Test.YtpcbipcdfccnnaaGreatS5
import Derived.Test.YtpcbipcdfccnnaaGreatKShar2
import Derived.Test.YtpcbipcdfccnnaaGreatKConv
import Derived.Test.YtpcbipcdfccnnaaGreatKMap
import Derived.Test.YtpcbipcdfccnnaaGreatKShar
import Derived.Test.YtpcbipcdfccnnaaGreatKTight2
set_option linter.unusedVariables false
set_option linter.unusedSimpArgs false
set_option maxHeartbeats 8000000
set_option maxRecDepth 100000
namespace Go.Proofs.YtpcbipcdfccnnaaGreat.G
open Go Go.KK

noncomputable def f_law15_Made_l0 (a0:(List T_api_Record)) (s_:(Int×(List T_api_Broker)×(List T_api_Topic)×(List T_api_Config)×(List T_api_Done)×Int)):Option ((Int×(List T_api_Broker)×(List T_api_Topic)×(List T_api_Config)×(List T_api_Done)×Int)⊕((List T_api_Broker)×(List T_api_Topic)×(List T_api_Config)×(List T_api_Done)×Int)):=
 match s_ with
 |(x30,x31,x32,x33,x34,x35)=>
 (if(decide (x30<(a0.length:Int)))=true then(((grd (0≤x30∧x30<a0.length) ((f_ref15_Apply (⟨x31,x32,x33,x34,x35⟩:T_api_Image) (rd a0 x30)).bind fun(r57,r58)=>(some (r57.Brokers,r57.Topics,r57.Configs,r57.Done,r57.Last)))):Option ((List T_api_Broker)×(List T_api_Topic)×(List T_api_Config)×(List T_api_Done)×Int)).bind fun(x43,x44,x45,x46,x47)=>(some (Sum.inl (IntKind.i64.wrap (x30+(1:Int)),x43,x44,x45,x46,x47))))else(some (Sum.inr (x31,x32,x33,x34,x35))))
noncomputable def f_law15_Made (a0:(List T_api_Record)):Option T_api_Image:=
 ((((iter (f_law15_Made_l0 a0) ((0:Int),[],[],[],[],(0:Int))).bind (fun(x36,x37,x38,x39,x40)=>(some (x36,x37,x38,x39,x40)))):Option ((List T_api_Broker)×(List T_api_Topic)×(List T_api_Config)×(List T_api_Done)×Int)).bind fun(x23,x24,x25,x26,x27)=>(some (⟨x23,x24,x25,x26,x27⟩:T_api_Image)))
def f_law15_Made_post (a0:(List T_api_Record)) (v0:Value):T_api_Image→Value→IM→HL→Prop:=
 fun(r0:T_api_Image) (v:Value) (M':IM) (H':HL)=>∃ vz0_0 vz0_1 vz0_2 vz0_3,(.agg #[vz0_0,vz0_1,vz0_2,vz0_3,(.int .i64 r0.Last)])=v∧H'=[]∧RS kd_api_Broker M' vz0_0 r0.Brokers∧RS kd_api_Topic M' vz0_1 r0.Topics∧RS kd_api_Config M' vz0_2 r0.Configs∧RS kd_api_Done M' vz0_3 r0.Done
theorem f_law15_Made_ok (a0:(List T_api_Record)) (M:IM) (v0:Value) (h0:RS kd_api_Record M v0 a0) (res:T_api_Image) (h:f_law15_Made a0=some res):
 Tri Tryz.prog 7 #[v0] M [] (f_law15_Made_post a0 v0 res):=by
 unfold f_law15_Made at h
 refine Te Tryz.func7 Z Z ?_
 intro F ρ hρ
 refine Sr (We (Al ze29 Z) Z ?_)
 rintro _ _ _ - ⟨rfl,g21,rfl,rfl⟩
 refine Ns (qu (.agg z29_.toArray) (Bl (cl:=z29_) ze29 fp29 Pz Z) (We (Al ze29 Z) Z ?_))
 rintro _ _ _ - ⟨rfl,g22,rfl,rfl⟩
 refine We (Sg (v:=(.agg z29_.toArray)) (vl:=z29_) (arr':=z29_) Z sz29 Z Z (onb Z) Z Z Z) Z ?_
 rintro _ _ _ - ⟨rfl,rfl⟩
 refine Nt ?_
 obtain ⟨j28,hj28,h⟩:=bnd h
 refine Jf (fun(p_:((List T_api_Broker)×(List T_api_Topic)×(List T_api_Config)×(List T_api_Done)×Int)) ρ' M' H'=>match p_ with |(x23,x24,x25,x26,x27)=>∃ vx23 vx24 vx25 vx26,M.le M'∧[(g22, .cells #[vx23,vx24,vx25,vx26,(Iv x27)] 29 (0,0))]::[(g21, .cells z29_.toArray 29 (0,0))]::F=H'∧ρ' 2=(pt g21 0)∧ρ' 3=(pt g22 0)∧RS kd_api_Broker M' vx23 x23∧RS kd_api_Topic M' vx24 x24∧RS kd_api_Config M' vx25 x25∧RS kd_api_Done M' vx26 x26) j28 ?_ ?_
 have h:=hj28
 refine Sr (qa (Iv 0) (Nt (Bk ?_)))
 obtain ⟨e29,he29,hK29⟩:=bnd h
 clear h
 refine WC.loop he29 (fun(p_:(Int×(List T_api_Broker)×(List T_api_Topic)×(List T_api_Config)×(List T_api_Done)×Int)) ρ' M' H'=>match p_ with |(x30,x31,x32,x33,x34,x35)=>∃ vx31 vx32 vx33 vx34,M.le M'∧[(g22, .cells #[vx31,vx32,vx33,vx34,(Iv x35)] 29 (0,0))]::[(g21, .cells z29_.toArray 29 (0,0))]::F=H'∧ρ' 0=v0∧ρ' 2=(pt g21 0)∧ρ' 3=(pt g22 0)∧ρ' 4=(Iv x30)∧RS kd_api_Broker M' vx31 x31∧RS kd_api_Topic M' vx32 x32∧RS kd_api_Config M' vx33 x33∧RS kd_api_Done M' vx34 x34) ?_ ?_
 exact⟨Zs,Zs,Zs,Zs,lr,Z,(hρ 0),Z,Z,Z,RS.nil _ _,RS.nil _ _,RS.nil _ _,RS.nil _ _⟩
 rintro ⟨x30,x31,x32,x33,x34,x35⟩ o29 ρ29 M29 H29 h ⟨vx31,vx32,vx33,vx34,hle29,rfl,hs29_0,hs29_2,hs29_3,hs29_4,hx31,hx32,hx33,hx34⟩
 unfold f_law15_Made_l0 at h
 refine Cs (Sr (qM (Iv x30) hs29_4 (qM v0 hs29_0 ?_)))
 have h0:=h0.mono hle29
 refine qu (Iv (a0.length:Int)) (PO.lenS Tryz.underlying22 Z h0.len) (qu (Bv (decide (x30<(a0.length:Int)))) (PO.lss Z Z) (Nt (Ch h Z (fun hb41 h=> ?_) (fun hb41 h=> ?_))))
 refine Ck (Tc (Cs (Bk ?_)))
 obtain ⟨j48,hj48,h⟩:=bnd h
 refine Jf (fun(p_:((List T_api_Broker)×(List T_api_Topic)×(List T_api_Config)×(List T_api_Done)×Int)) ρ' M' H'=>match p_ with |(x43,x44,x45,x46,x47)=>∃ g42 vx43 vx44 vx45 vx46,M29.le M'∧[(g22, .cells #[vx31,vx32,vx33,vx34,(Iv x35)] 29 (0,0))]::[(g21, .cells z29_.toArray 29 (0,0))]::[(g42, .cells #[vx43,vx44,vx45,vx46,(Iv x47)] 29 (0,0))]::F=H'∧ρ' 0=v0∧ρ' 2=(pt g21 0)∧ρ' 3=(pt g22 0)∧ρ' 4=(Iv x30)∧ρ' 5=(pt g42 0)∧RS kd_api_Broker M' vx43 x43∧RS kd_api_Topic M' vx44 x44∧RS kd_api_Config M' vx45 x45∧RS kd_api_Done M' vx46 x46) j48 ?_ ?_
 have h:=hj48
 refine WC.draw [0,0,0,6,14,31,63,127,127,0,767,2047] (.pure 0 (.pure 1 (.pure 2 (.pure 3 (.pure 4 (.alt 5 (.pure 6 (.pure 7 (.pure 8 (.alt 9 (.alt 10 (.pure 11 .done) .none) .none)))) (.alt 9 (.alt 5 (.pure 6 (.pure 7 (.pure 8 (.alt 10 (.pure 11 .done) .none)))) .none) .none))))))) mixed (by kernel_rfl) (qt (.agg #[vx31,vx32,vx33,vx34,(Iv x35)]) Z (La (cs:=[vx31,vx32,vx33,vx34,(Iv x35)]) 0 ag29 sz29 hs29_3 Z Z) (qt v0 Z (Mv hs29_0) (qt (Iv x30) Z (Mv hs29_4) ?_)))
 obtain ⟨hg49,h⟩:=grd_i h
 obtain ⟨p50,cs51,hat52,hrc53,hhas54⟩:=h0.at hg49.1 hg49.2 (by decide)
 obtain ⟨vw55_14,vw55_15,vw55_16,vw55_17,rfl,hw55_14,hw55_15,hw55_16,hw55_17⟩:=kd_api_Record_open hrc53
 refine qt (.pointer (some p50)) Z (PO.indexAddr (n:=a0.length) Tryz.underlying22 sz45 Z Z hg49.1 hg49.2 hat52) (qt (a45_ (rd a0 x30) vw55_14 vw55_15 vw55_16 vw55_17) Z (PO.loadMA (cs:=(l45 (rd a0 x30) vw55_14 vw55_15 vw55_16 vw55_17)) ag45 sz45 Z hhas54) ?_)
 have hk56:=h
 obtain ⟨⟨r57,r58⟩,hr59,h⟩:=bnd h
 refine Ta Z (Ca co11 (f_ref15_Apply_ok (⟨x31,x32,x33,x34,x35⟩:T_api_Image) (rd a0 x30) _ _ _ _ _ _ _ _ _ hx31 hx32 hx33 hx34 hw55_14 hw55_15 hw55_16 hw55_17 (r57,r58) hr59) (args2 Z Z)) Z ?_ ?_
 rintro _ M60 _ hle61 ⟨_,⟨vq62_0,vq62_1,vq62_2,vq62_3,rfl,rfl,hq62_0,hq62_1,hq62_2,hq62_3⟩,rfl⟩
 refine⟨(Sl Z), ?_⟩
 refine WT.a0 (qt (.tuple #[(a29_ r57 vq62_0 vq62_1 vq62_2 vq62_3),(Iv r58)]) Z (Mv Z) (qt (a29_ r57 vq62_0 vq62_1 vq62_2 vq62_3) Z (Xt Z Z) (qt (Iv r58) Z (Xt Z Z) (Ta Z (Al ze29 Z) Z ?_ ?_))))
 rintro _ _ _ - ⟨rfl,g64,rfl,rfl⟩
 have hhas54:=hhas54.mono hle61
 refine⟨(Ss Z (Xt Z Z) Z (Ss Z (Xt Z Z) Z (Ss Z (Mv Z) Z (Ss Z (PO.loadMA (cs:=(l45 (rd a0 x30) vw55_14 vw55_15 vw55_16 vw55_17)) ag45 sz45 Z hhas54) Z (Ss Z (PO.indexAddr (n:=a0.length) Tryz.underlying22 sz45 Z Z hg49.1 hg49.2 hat52) Z (Ss Z (Mv hs29_4) Z (Ss Z (Mv hs29_0) Z (Ss Z (La (cs:=[vx31,vx32,vx33,vx34,(Iv x35)]) 1 ag29 sz29 hs29_3 Z Z) Z trivial)))))))), ?_⟩
 refine Ta Z (Sg (v:=(a29_ r57 vq62_0 vq62_1 vq62_2 vq62_3)) (vl:=(l29 r57 vq62_0 vq62_1 vq62_2 vq62_3)) (arr':=(l29 r57 vq62_0 vq62_1 vq62_2 vq62_3)) Z sz29 Z Z (onesOf (Oc (RS.one hq62_0) (Oc (RS.one hq62_1) (Oc (RS.one hq62_2) (Oc (RS.one hq62_3) (Oc Z Oz)))))) Z Z Z) Z ?_ ?_
 rintro _ _ _ - ⟨rfl,rfl⟩
 refine⟨(Ss Z (Xt Z Z) Z (Sl Z)), ?_⟩
 refine qt (Iv r58) Z (Ag Z) (Ti (Qb (Qb ?_)))
 obtain rfl:=oi h
 exact Tj ⟨g64,vq62_0,vq62_1,vq62_2,vq62_3,hle61,Z,hs29_0,hs29_2,hs29_3,hs29_4,Z,hq62_0,hq62_1,hq62_2,hq62_3⟩
 exact Tz
 exact Tz
 have h:=hk56
 refine Ta Z (Al ze29 Z) Z ?_ ?_
 rintro _ _ _ - ⟨rfl,g65,rfl,rfl⟩
 refine⟨(Ss Z (PO.loadMA (cs:=(l45 (rd a0 x30) vw55_14 vw55_15 vw55_16 vw55_17)) ag45 sz45 Z hhas54) Z (Ss Z (PO.indexAddr (n:=a0.length) Tryz.underlying22 sz45 Z Z hg49.1 hg49.2 hat52) Z (Ss Z (Mv hs29_4) Z (Ss Z (Mv hs29_0) Z (Ss Z (La (cs:=[vx31,vx32,vx33,vx34,(Iv x35)]) 1 ag29 sz29 hs29_3 Z Z) Z trivial))))), ?_⟩
 obtain ⟨⟨r66,r67⟩,hr68,h⟩:=bnd h
 refine Ta Z (Ca co11 (f_ref15_Apply_ok (⟨x31,x32,x33,x34,x35⟩:T_api_Image) (rd a0 x30) _ _ _ _ _ _ _ _ _ hx31 hx32 hx33 hx34 hw55_14 hw55_15 hw55_16 hw55_17 (r66,r67) hr68) (args2 Z Z)) Z ?_ ?_
 rintro _ M69 _ hle70 ⟨_,⟨vq71_0,vq71_1,vq71_2,vq71_3,rfl,rfl,hq71_0,hq71_1,hq71_2,hq71_3⟩,rfl⟩
 refine⟨(Sl Z), ?_⟩
 refine WT.a0 (qt (.tuple #[(a29_ r66 vq71_0 vq71_1 vq71_2 vq71_3),(Iv r67)]) Z (Mv Z) (qt (a29_ r66 vq71_0 vq71_1 vq71_2 vq71_3) Z (Xt Z Z) (qt (Iv r67) Z (Xt Z Z) (Ta Z (Sg (v:=(a29_ r66 vq71_0 vq71_1 vq71_2 vq71_3)) (vl:=(l29 r66 vq71_0 vq71_1 vq71_2 vq71_3)) (arr':=(l29 r66 vq71_0 vq71_1 vq71_2 vq71_3)) Z sz29 Z Z (onesOf (Oc (RS.one hq71_0) (Oc (RS.one hq71_1) (Oc (RS.one hq71_2) (Oc (RS.one hq71_3) (Oc Z Oz)))))) Z Z Z) Z ?_ ?_))))
 rintro _ _ _ - ⟨rfl,rfl⟩
 refine⟨(Ss Z (Xt Z Z) Z (Sl Z)), ?_⟩
 refine qt (Iv r67) Z (Ag Z) (Ti (Qb (Qb ?_)))
 obtain rfl:=oi h
 exact Tj ⟨g65,vq71_0,vq71_1,vq71_2,vq71_3,hle70,Z,hs29_0,hs29_2,hs29_3,hs29_4,Z,hq71_0,hq71_1,hq71_2,hq71_3⟩
 exact Tz
 exact Tz
 exact Tz
 obtain ⟨x43,x44,x45,x46,x47⟩:=j48
 rintro ρ48 M48 H48 ⟨g42,vx43,vx44,vx45,vx46,hle48,rfl,hs48_0,hs48_2,hs48_3,hs48_4,hs48_5,hx43,hx44,hx45,hx46⟩
 refine Cg (qu (.agg #[vx43,vx44,vx45,vx46,(Iv x47)]) (La (cs:=[vx43,vx44,vx45,vx46,(Iv x47)]) 2 ag29 sz29 hs48_5 Z Z) (We (Sg (v:=(.agg #[vx43,vx44,vx45,vx46,(Iv x47)])) (vl:=[vx43,vx44,vx45,vx46,(Iv x47)]) (arr':=[vx43,vx44,vx45,vx46,(Iv x47)]) Z sz29 hs48_3 Z (onesOf (Oc (RS.one hx43) (Oc (RS.one hx44) (Oc (RS.one hx45) (Oc (RS.one hx46) (Oc Z Oz)))))) Z Z Z) Z ?_))
 rintro _ _ _ - ⟨rfl,rfl⟩
 exact Wz (Bn (Tc (Cg (qM (Iv x30) hs48_4 (qu (Iv (IntKind.i64.wrap (x30+1))) (PO.add Z Z) (qa (Iv (IntKind.i64.wrap (x30+1))) (Wz (Qb (Dr (WQ.again (IntKind.i64.wrap (x30+1),x43,x44,x45,x46,x47) (oi h).symm ⟨vx43,vx44,vx45,vx46,(hle29.trans hle48),Z,hs48_0,hs48_2,hs48_3,Z,hx43,hx44,hx45,hx46⟩))))))))))
 refine WC.exit (WQ.thenE (WQ.leaveE (x31,x32,x33,x34,x35) (oi h).symm (fun heq29=> ?_)))
 subst heq29
 have h:=hK29
 refine WQ.blockH ?_
 obtain rfl:=oi h
 exact Tj ⟨vx31,vx32,vx33,vx34,hle29,Z,hs29_2,hs29_3,hx31,hx32,hx33,hx34⟩
 obtain ⟨x23,x24,x25,x26,x27⟩:=j28
 rintro ρ28 M28 H28 ⟨vx23,vx24,vx25,vx26,hle28,rfl,hs28_2,hs28_3,hx23,hx24,hx25,hx26⟩
 refine Sr (qu (.agg #[vx23,vx24,vx25,vx26,(Iv x27)]) (La (cs:=[vx23,vx24,vx25,vx26,(Iv x27)]) 0 ag29 sz29 hs28_3 Z Z) (WL.f1 (We (Sg (v:=(.agg #[vx23,vx24,vx25,vx26,(Iv x27)])) (vl:=[vx23,vx24,vx25,vx26,(Iv x27)]) (arr':=[vx23,vx24,vx25,vx26,(Iv x27)]) Z sz29 hs28_2 Z (onesOf (Oc (RS.one hx23) (Oc (RS.one hx24) (Oc (RS.one hx25) (Oc (RS.one hx26) (Oc Z Oz)))))) Z Z Z) Z ?_)))
 rintro _ _ _ - ⟨rfl,rfl⟩
 exact Nt (Cr (Qa (Dr (Rd h [] (fun _ hs=>hs.drop) (resultsL1 Z (Rc (cs:=[vx23,vx24,vx25,vx26,(Iv x27)]) 0 ag29 sz29 hs28_2 Z Z)) hle28 ⟨vx23,vx24,vx25,vx26,Z,Z,hx23,hx24,hx25,hx26⟩))))
noncomputable def f_record_Name_l0 (a0:ByteArray) (s_:Int):Option (Int⊕(Unit⊕Unit)):=
 match s_ with
 |x32=>
 (if(decide (x32<((bytesOf a0).length:Int)))=true then(grd (0≤x32∧x32<(bytesOf a0).length) (((if(decide ((97:Int)≤(rd (bytesOf a0) x32)))=true then(if(decide ((48:Int)≤(rd (bytesOf a0) x32)))=true then(some (decide ((rd (bytesOf a0) x32)≤(122:Int)),decide ((rd (bytesOf a0) x32)≤(57:Int))))else(some (decide ((rd (bytesOf a0) x32)≤(122:Int)),false)))else(if(decide ((48:Int)≤(rd (bytesOf a0) x32)))=true then(some (false,decide ((rd (bytesOf a0) x32)≤(57:Int))))else(some (false,false)))):Option (Bool×Bool)).bind fun(x41,x42)=>(((if(!x41)=true then(if(!x42)=true then(if(decide ((rd (bytesOf a0) x32)≠(46:Int)))=true then(some (decide ((rd (bytesOf a0) x32)≠(45:Int))))else(some false))else(some false))else(some false)):Option Bool).bind fun x47=>(if x47=true then(some (Sum.inr (Sum.inr ())))else(some (Sum.inl (IntKind.i64.wrap (x32+(1:Int)))))))))else(some (Sum.inr (Sum.inl ()))))
noncomputable def f_record_Name (a0:ByteArray):Option Bool:=
 (((if(decide (a0=(⟨#[]⟩:ByteArray)))=true then(some true)else(if(decide ((40:Int)<(a0.size:Int)))=true then(some true)else(if(decide (a0=(⟨#[46]⟩:ByteArray)))=true then(some true)else(some (decide (a0=(⟨#[46,46]⟩:ByteArray))))))):Option Bool).bind fun x21=>(if x21=true then(some false)else((((iter (f_record_Name_l0 a0) (0:Int)).bind (Sum.elim (fun _=>(some (Sum.inl ()))) (fun _=>(((some false)).bind fun r=>some (Sum.inr r))))):Option (Unit⊕Bool)).bind (Sum.elim (fun _=>(some true)) some))))
def f_record_Name_post (a0:ByteArray):Bool→Value→IM→HL→Prop:=
 fun(r0:Bool) (v:Value) (M':IM) (H':HL)=>(.bool r0)=v∧H'=[]
theorem f_record_Name_ok (a0:ByteArray) (M:IM) (res:Bool) (h:f_record_Name a0=some res):
 Tri Tryz.prog 75 #[(Sv a0)] M [] (f_record_Name_post a0 res):=by
 unfold f_record_Name at h
 refine Te Tryz.func75 Z Z ?_
 intro F ρ hρ
 refine Sr (qa (Bv false) (Nt (Cs ?_)))
 obtain ⟨x21,hj22,h⟩:=bnd h
 refine Jf (fun(x21:Bool) ρ' M' H'=>M.le M'∧F=H'∧ρ' 0=(Sv a0)∧ρ' 21=(Bv x21)) x21 ?_ ?_
 have h:=hj22
 refine Cg (qM (Sv a0) (hρ 0) (qu (Bv (decide (a0=(⟨#[]⟩:ByteArray)))) (PO.seql Z Z) (qm (Bv (decide (a0=(⟨#[]⟩:ByteArray)))) ?_)))
 rcases Bi h with⟨hb23,h⟩ |⟨hb23,h⟩
 iterate 3 refine Of 9 Z Z hb23 Z ?_
 refine qu (Bv true) (Pt Z hb23 Z) (qm (Bv true) ?_)
 iterate 2 refine Of 14 Z Z Z Z ?_
 refine qu (Bv true) (Pt Z Z Z) (qm (Bv true) ?_)
 iterate 2 refine Of 18 Z Z Z Z ?_
 refine qu (Bv true) (Pt Z Z Z) (Wz ?_)
 obtain rfl:=oi h
 exact Tj ⟨lr,Z,(hρ 0),Z⟩
 refine On 9 Z Z hb23 (qM (Sv a0) (hρ 0) (qo 9 hb23 (Iv (a0.size:Int)) (PO.lenStr Tryz.underlying9 Z) (qo 9 hb23 (Bv (decide ((40:Int)<(a0.size:Int)))) (PO.gtr Z Z) (qu (Bv (decide ((40:Int)<(a0.size:Int)))) (Pf Z hb23 Z) (qm (Bv (decide ((40:Int)<(a0.size:Int)))) ?_)))))
 rcases Bi h with⟨hb24,h⟩ |⟨hb24,h⟩
 iterate 2 refine Of 14 Z Z hb24 Z ?_
 refine qu (Bv true) (Pt Z hb24 Z) (qm (Bv true) ?_)
 iterate 2 refine Of 18 Z Z Z Z ?_
 refine qu (Bv true) (Pt Z Z Z) (Wz ?_)
 obtain rfl:=oi h
 exact Tj ⟨lr,Z,(hρ 0),Z⟩
 refine On 14 Z Z hb24 (qM (Sv a0) (hρ 0) (qo 14 hb24 (Bv (decide (a0=(⟨#[46]⟩:ByteArray)))) (PO.seql Z Z) (qu (Bv (decide (a0=(⟨#[46]⟩:ByteArray)))) (Pf Z hb24 Z) (qm (Bv (decide (a0=(⟨#[46]⟩:ByteArray)))) ?_))))
 rcases Bi h with⟨hb25,h⟩ |⟨hb25,h⟩
 iterate 2 refine Of 18 Z Z hb25 Z ?_
 refine qu (Bv true) (Pt Z hb25 Z) (Wz ?_)
 obtain rfl:=oi h
 exact Tj ⟨lr,Z,(hρ 0),Z⟩
 refine On 18 Z Z hb25 (qM (Sv a0) (hρ 0) (qo 18 hb25 (Bv (decide (a0=(⟨#[46,46]⟩:ByteArray)))) (PO.seql Z Z) (qu (Bv (decide (a0=(⟨#[46,46]⟩:ByteArray)))) (Pf Z hb25 Z) (Wz ?_))))
 obtain rfl:=oi h
 exact Tj ⟨lr,Z,(hρ 0),Z⟩
 rintro ρ22 M22 H22 ⟨hle22,rfl,hs22_0,hs22_21⟩
 refine Ch h hs22_21 (fun hb26 h=> ?_) (fun hb26 h=> ?_)
 exact Sr (qa (Bv false) (Nt (Cr (Tr (Rf h [] Z (Rs Z Z) hle22 ⟨Z,Z⟩)))))
 refine Ck (Tc ?_)
 obtain ⟨j27,hj27,h⟩:=bnd h
 refine WC.joinE (fun(_:Unit) ρ' M' H'=>M22.le M'∧F=H') j27 ?_ ?_
 have h327:=h
 have h:=hj27
 refine Sr (qM (Sv a0) hs22_0 (We (EO.s2b Tryz.underlying9 Tryz.underlying31 Tryz.underlying5 Z) Z ?_))
 rintro v30 _ _ - ⟨rfl,c28,rfl,h29⟩
 refine qu (Iv ((bytesOf a0).length:Int)) (PO.lenS Tryz.underlying31 Z h29.len) (qm (Iv 0) (Nt (Bk ?_)))
 obtain ⟨e31,he31,hK31⟩:=bnd h
 clear h
 refine WC.loop he31 (fun(x32:Int) ρ' M' H'=>M22.le M'∧c28::F=H'∧ρ' 23=v30∧ρ' 24=(Iv ((bytesOf a0).length:Int))∧ρ' 25=(Iv x32)) ?_ ?_
 exact⟨lr,Z,Z,Z,Z⟩
 rintro x32 o31 ρ31 M31 H31 h ⟨hle31,rfl,hs31_23,hs31_24,hs31_25⟩
 unfold f_record_Name_l0 at h
 refine Sr (qu (Bv (decide (x32<((bytesOf a0).length:Int)))) (PO.lss hs31_25 hs31_24) (Nt (Cs (Ch h Z (fun hb33 h=> ?_) (fun hb33 h=> ?_)))))
 refine Ck (Tc (Cs (Bk (Sr ?_))))
 obtain ⟨hg34,h⟩:=grd_i h
 have h29:=h29.mono hle31
 obtain ⟨p35,cs36,hat37,hrc38,hhas39⟩:=h29.at hg34.1 hg34.2
 obtain rfl:=hrc38
 refine qu (.pointer (some p35)) (PO.indexAddr (n:=(bytesOf a0).length) Tryz.underlying31 sz5 hs31_23 hs31_25 hg34.1 hg34.2 hat37) (qu (Yv (rd (bytesOf a0) x32)) (PO.loadC 0 pl5 Z Z (chunkHas0 hhas39)) (qa (Yv (rd (bytesOf a0) x32)) (Nt ?_)))
 obtain ⟨j43,hj43,h⟩:=bnd h
 refine Jf (fun(p_:(Bool×Bool)) ρ' M' H'=>match p_ with |(x41,x42)=>M31.le M'∧c28::F=H'∧ρ' 4=(Yv (rd (bytesOf a0) x32))∧ρ' 5=(Bv x41)∧ρ' 6=(Bv x42)∧ρ' 23=v30∧ρ' 24=(Iv ((bytesOf a0).length:Int))∧ρ' 25=(Iv x32)) j43 ?_ ?_
 have h:=hj43
 refine Cg (qm (Yv (rd (bytesOf a0) x32)) (qu (Bv (decide ((97:Int)≤(rd (bytesOf a0) x32)))) (PO.geq Z Z) (qm (Bv (decide ((97:Int)≤(rd (bytesOf a0) x32)))) ?_)))
 rcases Bi h with⟨hb44,h⟩ |⟨hb44,h⟩
 refine On 31 Z Z hb44 (qm (Yv (rd (bytesOf a0) x32)) (qo 31 hb44 (Bv (decide ((rd (bytesOf a0) x32)≤122))) (PO.leq Z Z) (qu (Bv (decide ((rd (bytesOf a0) x32)≤122))) (Pt Z hb44 Z) (qm (Yv (rd (bytesOf a0) x32)) (qu (Bv (decide ((48:Int)≤(rd (bytesOf a0) x32)))) (PO.geq Z Z) (qm (Bv (decide ((48:Int)≤(rd (bytesOf a0) x32)))) ?_))))))
 rcases Bi h with⟨hb45,h⟩ |⟨hb45,h⟩
 refine On 37 Z Z hb45 (qm (Yv (rd (bytesOf a0) x32)) (qo 37 hb45 (Bv (decide ((rd (bytesOf a0) x32)≤57))) (PO.leq Z Z) (qu (Bv (decide ((rd (bytesOf a0) x32)≤57))) (Pt Z hb45 Z) (qa (Bv (decide ((rd (bytesOf a0) x32)≤122))) (qa (Bv (decide ((rd (bytesOf a0) x32)≤57))) (Wz ?_))))))
 obtain rfl:=oi h
 exact Tj ⟨lr,Z,Z,Z,Z,hs31_23,hs31_24,hs31_25⟩
 iterate 2 refine Of 37 Z Z hb45 Z ?_
 refine qu (Bv false) (Pf Z hb45 Z) (qa (Bv (decide ((rd (bytesOf a0) x32)≤122))) (qa (Bv false) (Wz ?_)))
 obtain rfl:=oi h
 exact Tj ⟨lr,Z,Z,Z,Z,hs31_23,hs31_24,hs31_25⟩
 iterate 2 refine Of 31 Z Z hb44 Z ?_
 refine qu (Bv false) (Pf Z hb44 Z) (qm (Yv (rd (bytesOf a0) x32)) (qu (Bv (decide ((48:Int)≤(rd (bytesOf a0) x32)))) (PO.geq Z Z) (qm (Bv (decide ((48:Int)≤(rd (bytesOf a0) x32)))) ?_)))
 rcases Bi h with⟨hb46,h⟩ |⟨hb46,h⟩
 refine On 37 Z Z hb46 (qm (Yv (rd (bytesOf a0) x32)) (qo 37 hb46 (Bv (decide ((rd (bytesOf a0) x32)≤57))) (PO.leq Z Z) (qu (Bv (decide ((rd (bytesOf a0) x32)≤57))) (Pt Z hb46 Z) (qa (Bv false) (qa (Bv (decide ((rd (bytesOf a0) x32)≤57))) (Wz ?_))))))
 obtain rfl:=oi h
 exact Tj ⟨lr,Z,Z,Z,Z,hs31_23,hs31_24,hs31_25⟩
 iterate 2 refine Of 37 Z Z hb46 Z ?_
 refine qu (Bv false) (Pf Z hb46 Z) (qa (Bv false) (qa (Bv false) (Wz ?_)))
 obtain rfl:=oi h
 exact Tj ⟨lr,Z,Z,Z,Z,hs31_23,hs31_24,hs31_25⟩
 obtain ⟨x41,x42⟩:=j43
 rintro ρ43 M43 H43 ⟨hle43,rfl,hs43_4,hs43_5,hs43_6,hs43_23,hs43_24,hs43_25⟩
 obtain ⟨x47,hj48,h⟩:=bnd h
 refine Jf (fun(x47:Bool) ρ' M' H'=>M43.le M'∧c28::F=H'∧ρ' 23=v30∧ρ' 24=(Iv ((bytesOf a0).length:Int))∧ρ' 25=(Iv x32)∧ρ' 54=(Bv x47)) x47 ?_ ?_
 have h:=hj48
 refine Cg (qM (Bv x41) hs43_5 (qu (Bv (!x41)) (PO.not Z) (qm (Bv (!x41)) ?_)))
 rcases Bi h with⟨hb49,h⟩ |⟨hb49,h⟩
 refine On 43 Z Z hb49 (qM (Bv x42) hs43_6 (qo 43 hb49 (Bv (!x42)) (PO.not Z) (qu (Bv (!x42)) (Pt Z hb49 Z) (qm (Bv (!x42)) ?_))))
 rcases Bi h with⟨hb50,h⟩ |⟨hb50,h⟩
 refine On 47 Z Z hb50 (qM (Yv (rd (bytesOf a0) x32)) hs43_4 (qo 47 hb50 (Bv (decide ((rd (bytesOf a0) x32)≠46))) (PO.neq Z Z) (qu (Bv (decide ((rd (bytesOf a0) x32)≠46))) (Pt Z hb50 Z) (qm (Bv (decide ((rd (bytesOf a0) x32)≠46))) ?_))))
 rcases Bi h with⟨hb51,h⟩ |⟨hb51,h⟩
 refine On 51 Z Z hb51 (qM (Yv (rd (bytesOf a0) x32)) hs43_4 (qo 51 hb51 (Bv (decide ((rd (bytesOf a0) x32)≠45))) (PO.neq Z Z) (qu (Bv (decide ((rd (bytesOf a0) x32)≠45))) (Pt Z hb51 Z) (Wz ?_))))
 obtain rfl:=oi h
 exact Tj ⟨lr,Z,hs43_23,hs43_24,hs43_25,Z⟩
 iterate 2 refine Of 51 Z Z hb51 Z ?_
 refine qu (Bv false) (Pf Z hb51 Z) (Wz ?_)
 obtain rfl:=oi h
 exact Tj ⟨lr,Z,hs43_23,hs43_24,hs43_25,Z⟩
 iterate 2 refine Of 47 Z Z hb50 Z ?_
 refine qu (Bv false) (Pf Z hb50 Z) (qm (Bv false) ?_)
 iterate 2 refine Of 51 Z Z Z Z ?_
 refine qu (Bv false) (Pf Z Z Z) (Wz ?_)
 obtain rfl:=oi h
 exact Tj ⟨lr,Z,hs43_23,hs43_24,hs43_25,Z⟩
 iterate 2 refine Of 43 Z Z hb49 Z ?_
 refine qu (Bv false) (Pf Z hb49 Z) (qm (Bv false) ?_)
 iterate 2 refine Of 47 Z Z Z Z ?_
 refine qu (Bv false) (Pf Z Z Z) (qm (Bv false) ?_)
 iterate 2 refine Of 51 Z Z Z Z ?_
 refine qu (Bv false) (Pf Z Z Z) (Wz ?_)
 obtain rfl:=oi h
 exact Tj ⟨lr,Z,hs43_23,hs43_24,hs43_25,Z⟩
 rintro ρ48 M48 H48 ⟨hle48,rfl,hs48_23,hs48_24,hs48_25,hs48_54⟩
 refine Ch h hs48_54 (fun hb52 h=> ?_) (fun hb52 h=> ?_)
 refine Sr (qa (Bv false) (Nt (Cr (Br (Tr (WQ.leaveR (Sum.inr ()) (oi h).symm (fun heq31=> ?_)))))))
 subst heq31
 have h:=(elimR hK31)
 refine Br (Tr ?_)
 have h:=KK.early h h327
 exact Dr (Rf h [] Z (Rs Z Z) (((hle22.trans hle31).trans hle43).trans hle48) ⟨Z,Z⟩)
 exact Ck (Bn (Tc (Cg (qu (Iv (IntKind.i64.wrap (x32+1))) (PO.add hs48_25 Z) (qm (Iv (IntKind.i64.wrap (x32+1))) (Wz (WQ.again (IntKind.i64.wrap (x32+1)) (oi h).symm ⟨((hle31.trans hle43).trans hle48),Z,hs48_23,hs48_24,Z⟩)))))))
 refine WC.exit (WQ.thenE (WQ.leaveE (Sum.inl ()) (oi h).symm (fun heq31=> ?_)))
 subst heq31
 have h:=elimL hK31
 exact WQ.blockH (Dr (WQ.thenFE h ⟨hle31,Z⟩))
 rintro _ ρ27 M27 H27 rfl ⟨hle27,rfl⟩
 have h:=(Sum.elim_inl _ _ _).symm.trans h
 exact Sr (qa (Bv true) (Nt (Cr (Rf h [] Z (Rs Z Z) (hle22.trans hle27) ⟨Z,Z⟩))))
noncomputable def f_fault_New (a0:ByteArray) (a1:Int) (a2:Int):Option GErr:=
 (some (GErr.fault a0 a1 (GErr.code a2)))
def f_fault_New_post (a0:ByteArray) (a1:Int) (a2:Int):GErr→Value→IM→HL→Prop:=
 fun(r0:GErr) (v:Value) (M':IM) (H':HL)=>(GV r0)=v∧H'=[]
theorem f_fault_New_ok (a0:ByteArray) (a1:Int) (a2:Int) (M:IM) (res:GErr) (h:f_fault_New a0 a1 a2=some res):
 Tri Tryz.prog 52 #[(Sv a0),(Iv a1),(Iv a2)] M [] (f_fault_New_post a0 a1 a2 res):=by
 unfold f_fault_New at h
 refine Te Tryz.func52 Z Z ?_
 intro F ρ hρ
 refine Sr (qa (GV GErr.nil) (Ns (qM (Sv a0) (hρ 0) (qM (Iv a1) (hρ 1) (qM (Iv a2) (hρ 2) (qu (GV (GErr.code a2)) (PO.makeInterface cc40 Z) (qu (.agg #[(Sv a0),(Iv a1),(GV (GErr.code a2))]) (Bl (cl:=[(Sv a0),(Iv a1),(GV (GErr.code a2))]) ze104 fp104 (Pc (Sv a0) Z Z (Pc (Iv a1) Z Z (Parts.cons ((congrArg Value.cells (show ev _ _=(GV (GErr.code a2)) from Z)).trans (GErr.val_cells _ _ _ _)) Pz))) Z) (qu (GV (GErr.fault a0 a1 (GErr.code a2))) (PO.makeInterface cc104 Z) (qa (GV (GErr.fault a0 a1 (GErr.code a2))) (Nt (Cr ?_)))))))))))
 exact Rf h [] Z (Rs Z Z) lr ⟨Z,Z⟩
noncomputable def f_image_Leads_1_1 (a0:T_api_Part) (a1:Int):Option Bool:=
 (some (decide (a0.Leader=a1)))
def f_image_Leads_1_1_post (a0:T_api_Part) (a1:Int) (v0_0 v0_1 v0_4 v0_5:Value) (g1:Nat):Bool→Value→IM→HL→Prop:=
 fun(r0:Bool) (v:Value) (M':IM) (H':HL)=>(.bool r0)=v∧H'=[[(g1, .cells #[(.int .i64 a1)] 3 (0,0))]]
theorem f_image_Leads_1_1_ok (a0:T_api_Part) (a1:Int) (M:IM) (v0_0 v0_1 v0_4 v0_5:Value) (g1:Nat) (h0_0:RS (Kd.int .i64) M v0_0 a0.Ids) (h0_1:RS (Kd.int .i64) M v0_1 a0.Isr) (h0_4:RS (Kd.int .i64) M v0_4 a0.Add) (h0_5:RS (Kd.int .i64) M v0_5 a0.Drop) (res:Bool) (h:f_image_Leads_1_1 a0 a1=some res):
 Tri Tryz.prog 89 #[(a54_ a0 v0_0 v0_1 v0_4 v0_5),(pt g1 0)] M [[(g1, .cells #[(Iv a1)] 3 (0,0))]] (f_image_Leads_1_1_post a0 a1 v0_0 v0_1 v0_4 v0_5 g1 res):=by
 unfold f_image_Leads_1_1 at h
 refine Te Tryz.func89 Z Z ?_
 intro F ρ hρ
 refine Sr (We (EO.box (cs:=(l54 a0 v0_0 v0_1 v0_4 v0_5).toArray) (congrArg Value.cells (asE (a54_ a0 v0_0 v0_1 v0_4 v0_5) (hρ 0)))) Z ?_)
 rintro _ _ _ - ⟨rfl,g21,rfl,rfl⟩
 exact qa (Bv false) (Ns (qu (pt g21 2) (Fa fo54_2 Z Z) (qu (Iv a0.Leader) (Lb 0 pl3 Z Z Z) (qu (Iv a1) (Lb 1 pl3 (hρ 1) Z Z) (qu (Bv (decide (a0.Leader=a1))) (PO.eql Z Z) (qa (Bv (decide (a0.Leader=a1))) (Nt (Cr (Dr (Rf h [[(g1, .cells #[(Iv a1)] 3 (0,0))]] Z (Rs Z Z) lr ⟨Z,Z⟩))))))))))
noncomputable def f_slices_IndexFunc_api_Part_Leads_1_1_l0 (a0:(List T_api_Part)) (a1k0:Int) (s_:Int):Option (Int⊕(Unit⊕Int)):=
 match s_ with
 |x23=>
 (if(decide (x23<(a0.length:Int)))=true then(grd (0≤x23∧x23<a0.length) ((f_image_Leads_1_1 (rd a0 x23) a1k0).bind fun r33=>(if r33=true then(some (Sum.inr (Sum.inr x23)))else(some (Sum.inl (IntKind.i64.wrap (x23+(1:Int))))))))else(some (Sum.inr (Sum.inl ()))))
noncomputable def f_slices_IndexFunc_api_Part_Leads_1_1 (a0:(List T_api_Part)) (a1k0:Int):Option Int:=
 ((((iter (f_slices_IndexFunc_api_Part_Leads_1_1_l0 a0 a1k0) (0:Int)).bind (Sum.elim (fun _=>(some (Sum.inl ()))) (fun(x24:Int)=>(((some x24)).bind fun r=>some (Sum.inr r))))):Option (Unit⊕Int)).bind (Sum.elim (fun _=>(some (-1:Int))) some))
def f_slices_IndexFunc_api_Part_Leads_1_1_post (a0:(List T_api_Part)) (a1k0:Int) (v0:Value) (g1k0:Nat):Int→Value→IM→HL→Prop:=
 fun(r0:Int) (v:Value) (M':IM) (H':HL)=>(.int .i64 r0)=v∧H'=[[(g1k0, .cells #[(.int .i64 a1k0)] 3 (0,0))]]
theorem f_slices_IndexFunc_api_Part_Leads_1_1_ok (a0:(List T_api_Part)) (a1k0:Int) (M:IM) (v0:Value) (g1k0:Nat) (h0:RS kd_api_Part M v0 a0) (res:Int) (h:f_slices_IndexFunc_api_Part_Leads_1_1 a0 a1k0=some res):
 Tri Tryz.prog 96 #[v0,(.func (.func 89) #[] #[(pt g1k0 0)])] M [[(g1k0, .cells #[(Iv a1k0)] 3 (0,0))]] (f_slices_IndexFunc_api_Part_Leads_1_1_post a0 a1k0 v0 g1k0 res):=by
 unfold f_slices_IndexFunc_api_Part_Leads_1_1 at h
 refine Te Tryz.func96 Z Z ?_
 intro F ρ hρ
 refine Sr (qa (Iv 0) (Nt ?_))
 obtain ⟨j21,hj21,h⟩:=bnd h
 refine WC.joinE (fun(_:Unit) ρ' M' H'=>M.le M'∧[(g1k0, .cells #[(Iv a1k0)] 3 (0,0))]::F=H') j21 ?_ ?_
 have h321:=h
 have h:=hj21
 refine Sr (qM v0 (hρ 0) (qu (Iv (a0.length:Int)) (PO.lenS Tryz.underlying50 Z h0.len) (qm (Iv 0) (Nt (Bk ?_)))))
 obtain ⟨e22,he22,hK22⟩:=bnd h
 clear h
 refine WC.loop he22 (fun(x23:Int) ρ' M' H'=>M.le M'∧[(g1k0, .cells #[(Iv a1k0)] 3 (0,0))]::F=H'∧ρ' 0=v0∧ρ' 1=(.func (.func 89) #[] #[(pt g1k0 0)])∧ρ' 7=(Iv (a0.length:Int))∧ρ' 8=(Iv x23)) ?_ ?_
 exact⟨lr,Z,(hρ 0),(hρ 1),Z,Z⟩
 rintro x23 o22 ρ22 M22 H22 h ⟨hle22,rfl,hs22_0,hs22_1,hs22_7,hs22_8⟩
 unfold f_slices_IndexFunc_api_Part_Leads_1_1_l0 at h
 refine Sr (qu (Bv (decide (x23<(a0.length:Int)))) (PO.lss hs22_8 hs22_7) (Nt (Cs (Ch h Z (fun hb25 h=> ?_) (fun hb25 h=> ?_)))))
 refine Ck (Tc (Cs (Bk (Sr (qM (Iv x23) hs22_8 (qa (Iv x23) (Ns (qM (.func (.func 89) #[] #[(pt g1k0 0)]) hs22_1 (qM v0 hs22_0 (qm (Iv x23) ?_))))))))))
 obtain ⟨hg26,h⟩:=grd_i h
 have h0:=h0.mono hle22
 obtain ⟨p27,cs28,hat29,hrc30,hhas31⟩:=h0.at hg26.1 hg26.2 (by decide)
 obtain ⟨vw32_0,vw32_1,vw32_4,vw32_5,rfl,hw32_0,hw32_1,hw32_4,hw32_5⟩:=kd_api_Part_open hrc30
 refine qu (.pointer (some p27)) (PO.indexAddr (n:=a0.length) Tryz.underlying50 sz54 Z Z hg26.1 hg26.2 hat29) (qu (a54_ (rd a0 x23) vw32_0 vw32_1 vw32_4 vw32_5) (PO.loadMA (cs:=(l54 (rd a0 x23) vw32_0 vw32_1 vw32_4 vw32_5)) ag54 sz54 Z hhas31) ?_)
 obtain ⟨r33,hr34,h⟩:=bnd h
 refine We (EO.callV1 (first:=#[]) (cap:=#[(pt g1k0 0)]) co89 Z (f_image_Leads_1_1_ok (rd a0 x23) a1k0 _ _ _ _ _ _ hw32_0 hw32_1 hw32_4 hw32_5 r33 hr34) (argsV1 Z Z)) Z ?_
 rintro _ M35 _ hle36 ⟨_,⟨rfl,rfl⟩,rfl⟩
 refine WL.a1 (Nt (Ch h Z (fun hb38 h=> ?_) (fun hb38 h=> ?_)))
 refine Sr (qm (Iv x23) (qa (Iv x23) (Nt (Cr (Br (Tr (WQ.leaveR (Sum.inr x23) (oi h).symm (fun heq22=> ?_))))))))
 subst heq22
 have h:=(elimR hK22)
 refine Br (Tr ?_)
 have h:=KK.early h h321
 exact Rf h [[(g1k0, .cells #[(Iv a1k0)] 3 (0,0))]] Z (Rs Z Z) (hle22.trans hle36) ⟨Z,Z⟩
 exact Ck (Bn (Tc (Cg (qu (Iv (IntKind.i64.wrap (x23+1))) (PO.add hs22_8 Z) (qm (Iv (IntKind.i64.wrap (x23+1))) (Wz (WQ.again (IntKind.i64.wrap (x23+1)) (oi h).symm ⟨(hle22.trans hle36),Z,hs22_0,hs22_1,hs22_7,Z⟩)))))))
 refine WC.exit (WQ.thenE (WQ.leaveE (Sum.inl ()) (oi h).symm (fun heq22=> ?_)))
 subst heq22
 have h:=elimL hK22
 exact WQ.blockH (WQ.thenFE h ⟨hle22,Z⟩)
 rintro _ ρ21 M21 H21 rfl ⟨hle21,rfl⟩
 have h:=(Sum.elim_inl _ _ _).symm.trans h
 exact Sr (qa (Iv (-1:Int)) (Nt (Cr (Rf h [[(g1k0, .cells #[(Iv a1k0)] 3 (0,0))]] Z (Rs Z Z) hle21 ⟨Z,Z⟩))))
noncomputable def f_slices_ContainsFunc_api_Part_Leads_1_1 (a0:(List T_api_Part)) (a1k0:Int):Option Bool:=
 ((f_slices_IndexFunc_api_Part_Leads_1_1 a0 a1k0).bind fun r21=>(some (decide ((0:Int)≤r21))))
def f_slices_ContainsFunc_api_Part_Leads_1_1_post (a0:(List T_api_Part)) (a1k0:Int) (v0:Value) (g1k0:Nat):Bool→Value→IM→HL→Prop:=
 fun(r0:Bool) (v:Value) (M':IM) (H':HL)=>(.bool r0)=v∧H'=[[(g1k0, .cells #[(.int .i64 a1k0)] 3 (0,0))]]
theorem f_slices_ContainsFunc_api_Part_Leads_1_1_ok (a0:(List T_api_Part)) (a1k0:Int) (M:IM) (v0:Value) (g1k0:Nat) (h0:RS kd_api_Part M v0 a0) (res:Bool) (h:f_slices_ContainsFunc_api_Part_Leads_1_1 a0 a1k0=some res):
 Tri Tryz.prog 88 #[v0,(.func (.func 89) #[] #[(pt g1k0 0)])] M [[(g1k0, .cells #[(Iv a1k0)] 3 (0,0))]] (f_slices_ContainsFunc_api_Part_Leads_1_1_post a0 a1k0 v0 g1k0 res):=by
 unfold f_slices_ContainsFunc_api_Part_Leads_1_1 at h
 refine Te Tryz.func88 Z Z ?_
 intro F ρ hρ
 refine Sr (qa (Bv false) (Ns (qM v0 (hρ 0) (qM (.func (.func 89) #[] #[(pt g1k0 0)]) (hρ 1) ?_))))
 obtain ⟨r21,hr22,h⟩:=bnd h
 refine We (Cb co96 (f_slices_IndexFunc_api_Part_Leads_1_1_ok a0 a1k0 _ _ _ h0 r21 hr22) (args2 Z Z)) Z ?_
 rintro _ M23 _ hle24 ⟨_,⟨rfl,rfl⟩,rfl⟩
 exact WL.a1 (qu (Bv (decide ((0:Int)≤r21))) (PO.geq Z Z) (qa (Bv (decide ((0:Int)≤r21))) (Nt (Cr (Rf h [[(g1k0, .cells #[(Iv a1k0)] 3 (0,0))]] Z (Rs Z Z) hle24 ⟨Z,Z⟩)))))
noncomputable def f_image_Leads_1 (a0:T_api_Topic) (a1:Int):Option Bool:=
 ((f_slices_ContainsFunc_api_Part_Leads_1_1 a0.Parts a1).bind fun r22=>(some r22))
def f_image_Leads_1_post (a0:T_api_Topic) (a1:Int) (v0_2:Value) (g1:Nat):Bool→Value→IM→HL→Prop:=
 fun(r0:Bool) (v:Value) (M':IM) (H':HL)=>(.bool r0)=v∧H'=[[(g1, .cells #[(.int .i64 a1)] 3 (0,0))]]
theorem f_image_Leads_1_ok (a0:T_api_Topic) (a1:Int) (M:IM) (v0_2:Value) (g1:Nat) (h0_2:RS kd_api_Part M v0_2 a0.Parts) (res:Bool) (h:f_image_Leads_1 a0 a1=some res):
 Tri Tryz.prog 87 #[(a52_ a0 v0_2),(pt g1 0)] M [[(g1, .cells #[(Iv a1)] 3 (0,0))]] (f_image_Leads_1_post a0 a1 v0_2 g1 res):=by
 unfold f_image_Leads_1 at h
 refine Te Tryz.func87 Z Z ?_
 intro F ρ hρ
 refine Sr (We (EO.box (cs:=(l52 a0 v0_2).toArray) (congrArg Value.cells (asE (a52_ a0 v0_2) (hρ 0)))) Z ?_)
 rintro _ _ _ - ⟨rfl,g21,rfl,rfl⟩
 refine qa (Bv false) (Ns (qu (pt g21 2) (Fa fo52_2 Z Z) (qu v0_2 (Lb 0 pl50 Z Z Z) (qu (.func (.func 89) #[] #[(pt g1 0)]) (PO.makeFunc2 (args0) (args1 (asE (Value.pointer (some ⟨g1,0,none⟩)) (hρ 1)))) ?_))))
 obtain ⟨r22,hr23,h⟩:=bnd h
 refine WL.f1 (We (Cb co88 (f_slices_ContainsFunc_api_Part_Leads_1_1_ok a0.Parts a1 _ _ _ h0_2 r22 hr23) (args2 Z Z)) Z ?_)
 rintro _ M24 _ hle25 ⟨_,⟨rfl,rfl⟩,rfl⟩
 exact WL.a1 (qa (Bv r22) (Nt (Cr (Qa (Dr (Rf h [[(g1, .cells #[(Iv a1)] 3 (0,0))]] Z (Rs Z Z) hle25 ⟨Z,Z⟩))))))
noncomputable def f_slices_IndexFunc_api_Topic_Leads_1_l0 (a0:(List T_api_Topic)) (a1k0:Int) (s_:Int):Option (Int⊕(Unit⊕Int)):=
 match s_ with
 |x23=>
 (if(decide (x23<(a0.length:Int)))=true then(grd (0≤x23∧x23<a0.length) ((f_image_Leads_1 (rd a0 x23) a1k0).bind fun r33=>(if r33=true then(some (Sum.inr (Sum.inr x23)))else(some (Sum.inl (IntKind.i64.wrap (x23+(1:Int))))))))else(some (Sum.inr (Sum.inl ()))))
noncomputable def f_slices_IndexFunc_api_Topic_Leads_1 (a0:(List T_api_Topic)) (a1k0:Int):Option Int:=
 ((((iter (f_slices_IndexFunc_api_Topic_Leads_1_l0 a0 a1k0) (0:Int)).bind (Sum.elim (fun _=>(some (Sum.inl ()))) (fun(x24:Int)=>(((some x24)).bind fun r=>some (Sum.inr r))))):Option (Unit⊕Int)).bind (Sum.elim (fun _=>(some (-1:Int))) some))
def f_slices_IndexFunc_api_Topic_Leads_1_post (a0:(List T_api_Topic)) (a1k0:Int) (v0:Value) (g1k0:Nat):Int→Value→IM→HL→Prop:=
 fun(r0:Int) (v:Value) (M':IM) (H':HL)=>(.int .i64 r0)=v∧H'=[[(g1k0, .cells #[(.int .i64 a1k0)] 3 (0,0))]]
theorem f_slices_IndexFunc_api_Topic_Leads_1_ok (a0:(List T_api_Topic)) (a1k0:Int) (M:IM) (v0:Value) (g1k0:Nat) (h0:RS kd_api_Topic M v0 a0) (res:Int) (h:f_slices_IndexFunc_api_Topic_Leads_1 a0 a1k0=some res):
 Tri Tryz.prog 95 #[v0,(.func (.func 87) #[] #[(pt g1k0 0)])] M [[(g1k0, .cells #[(Iv a1k0)] 3 (0,0))]] (f_slices_IndexFunc_api_Topic_Leads_1_post a0 a1k0 v0 g1k0 res):=by
 unfold f_slices_IndexFunc_api_Topic_Leads_1 at h
 refine Te Tryz.func95 Z Z ?_
 intro F ρ hρ
 refine Sr (qa (Iv 0) (Nt ?_))
 obtain ⟨j21,hj21,h⟩:=bnd h
 refine WC.joinE (fun(_:Unit) ρ' M' H'=>M.le M'∧[(g1k0, .cells #[(Iv a1k0)] 3 (0,0))]::F=H') j21 ?_ ?_
 have h321:=h
 have h:=hj21
 refine Sr (qM v0 (hρ 0) (qu (Iv (a0.length:Int)) (PO.lenS Tryz.underlying25 Z h0.len) (qm (Iv 0) (Nt (Bk ?_)))))
 obtain ⟨e22,he22,hK22⟩:=bnd h
 clear h
 refine WC.loop he22 (fun(x23:Int) ρ' M' H'=>M.le M'∧[(g1k0, .cells #[(Iv a1k0)] 3 (0,0))]::F=H'∧ρ' 0=v0∧ρ' 1=(.func (.func 87) #[] #[(pt g1k0 0)])∧ρ' 7=(Iv (a0.length:Int))∧ρ' 8=(Iv x23)) ?_ ?_
 exact⟨lr,Z,(hρ 0),(hρ 1),Z,Z⟩
 rintro x23 o22 ρ22 M22 H22 h ⟨hle22,rfl,hs22_0,hs22_1,hs22_7,hs22_8⟩
 unfold f_slices_IndexFunc_api_Topic_Leads_1_l0 at h
 refine Sr (qu (Bv (decide (x23<(a0.length:Int)))) (PO.lss hs22_8 hs22_7) (Nt (Cs (Ch h Z (fun hb25 h=> ?_) (fun hb25 h=> ?_)))))
 refine Ck (Tc (Cs (Bk (Sr (qM (Iv x23) hs22_8 (qa (Iv x23) (Ns (qM (.func (.func 87) #[] #[(pt g1k0 0)]) hs22_1 (qM v0 hs22_0 (qm (Iv x23) ?_))))))))))
 obtain ⟨hg26,h⟩:=grd_i h
 have h0:=h0.mono hle22
 obtain ⟨p27,cs28,hat29,hrc30,hhas31⟩:=h0.at hg26.1 hg26.2 (by decide)
 obtain ⟨vw32_2,rfl,hw32_2⟩:=kd_api_Topic_open hrc30
 refine qu (.pointer (some p27)) (PO.indexAddr (n:=a0.length) Tryz.underlying25 sz52 Z Z hg26.1 hg26.2 hat29) (qu (a52_ (rd a0 x23) vw32_2) (PO.loadMA (cs:=(l52 (rd a0 x23) vw32_2)) ag52 sz52 Z hhas31) ?_)
 obtain ⟨r33,hr34,h⟩:=bnd h
 refine We (EO.callV1 (first:=#[]) (cap:=#[(pt g1k0 0)]) co87 Z (f_image_Leads_1_ok (rd a0 x23) a1k0 _ _ _ hw32_2 r33 hr34) (argsV1 Z Z)) Z ?_
 rintro _ M35 _ hle36 ⟨_,⟨rfl,rfl⟩,rfl⟩
 refine WL.a1 (Nt (Ch h Z (fun hb38 h=> ?_) (fun hb38 h=> ?_)))
 refine Sr (qm (Iv x23) (qa (Iv x23) (Nt (Cr (Br (Tr (WQ.leaveR (Sum.inr x23) (oi h).symm (fun heq22=> ?_))))))))
 subst heq22
 have h:=(elimR hK22)
 refine Br (Tr ?_)
 have h:=KK.early h h321
 exact Rf h [[(g1k0, .cells #[(Iv a1k0)] 3 (0,0))]] Z (Rs Z Z) (hle22.trans hle36) ⟨Z,Z⟩
 exact Ck (Bn (Tc (Cg (qu (Iv (IntKind.i64.wrap (x23+1))) (PO.add hs22_8 Z) (qm (Iv (IntKind.i64.wrap (x23+1))) (Wz (WQ.again (IntKind.i64.wrap (x23+1)) (oi h).symm ⟨(hle22.trans hle36),Z,hs22_0,hs22_1,hs22_7,Z⟩)))))))
 refine WC.exit (WQ.thenE (WQ.leaveE (Sum.inl ()) (oi h).symm (fun heq22=> ?_)))
 subst heq22
 have h:=elimL hK22
 exact WQ.blockH (WQ.thenFE h ⟨hle22,Z⟩)
 rintro _ ρ21 M21 H21 rfl ⟨hle21,rfl⟩
 have h:=(Sum.elim_inl _ _ _).symm.trans h
 exact Sr (qa (Iv (-1:Int)) (Nt (Cr (Rf h [[(g1k0, .cells #[(Iv a1k0)] 3 (0,0))]] Z (Rs Z Z) hle21 ⟨Z,Z⟩))))
noncomputable def f_slices_ContainsFunc_api_Topic_Leads_1 (a0:(List T_api_Topic)) (a1k0:Int):Option Bool:=
 ((f_slices_IndexFunc_api_Topic_Leads_1 a0 a1k0).bind fun r21=>(some (decide ((0:Int)≤r21))))
def f_slices_ContainsFunc_api_Topic_Leads_1_post (a0:(List T_api_Topic)) (a1k0:Int) (v0:Value) (g1k0:Nat):Bool→Value→IM→HL→Prop:=
 fun(r0:Bool) (v:Value) (M':IM) (H':HL)=>(.bool r0)=v∧H'=[[(g1k0, .cells #[(.int .i64 a1k0)] 3 (0,0))]]
theorem f_slices_ContainsFunc_api_Topic_Leads_1_ok (a0:(List T_api_Topic)) (a1k0:Int) (M:IM) (v0:Value) (g1k0:Nat) (h0:RS kd_api_Topic M v0 a0) (res:Bool) (h:f_slices_ContainsFunc_api_Topic_Leads_1 a0 a1k0=some res):
 Tri Tryz.prog 86 #[v0,(.func (.func 87) #[] #[(pt g1k0 0)])] M [[(g1k0, .cells #[(Iv a1k0)] 3 (0,0))]] (f_slices_ContainsFunc_api_Topic_Leads_1_post a0 a1k0 v0 g1k0 res):=by
 unfold f_slices_ContainsFunc_api_Topic_Leads_1 at h
 refine Te Tryz.func86 Z Z ?_
 intro F ρ hρ
 refine Sr (qa (Bv false) (Ns (qM v0 (hρ 0) (qM (.func (.func 87) #[] #[(pt g1k0 0)]) (hρ 1) ?_))))
 obtain ⟨r21,hr22,h⟩:=bnd h
 refine We (Cb co95 (f_slices_IndexFunc_api_Topic_Leads_1_ok a0 a1k0 _ _ _ h0 r21 hr22) (args2 Z Z)) Z ?_
 rintro _ M23 _ hle24 ⟨_,⟨rfl,rfl⟩,rfl⟩
 exact WL.a1 (qu (Bv (decide ((0:Int)≤r21))) (PO.geq Z Z) (qa (Bv (decide ((0:Int)≤r21))) (Nt (Cr (Rf h [[(g1k0, .cells #[(Iv a1k0)] 3 (0,0))]] Z (Rs Z Z) hle24 ⟨Z,Z⟩)))))
noncomputable def f_image_Leads (a0:T_api_Image) (a1:Int):Option Bool:=
 ((f_slices_ContainsFunc_api_Topic_Leads_1 a0.Topics a1).bind fun r23=>(some r23))
def f_image_Leads_post (a0:T_api_Image) (a1:Int) (v0_0 v0_1 v0_2 v0_3:Value):Bool→Value→IM→HL→Prop:=
 fun(r0:Bool) (v:Value) (M':IM) (H':HL)=>(.bool r0)=v∧H'=[]
theorem f_image_Leads_ok (a0:T_api_Image) (a1:Int) (M:IM) (v0_0 v0_1 v0_2 v0_3:Value) (h0_0:RS kd_api_Broker M v0_0 a0.Brokers) (h0_1:RS kd_api_Topic M v0_1 a0.Topics) (h0_2:RS kd_api_Config M v0_2 a0.Configs) (h0_3:RS kd_api_Done M v0_3 a0.Done) (res:Bool) (h:f_image_Leads a0 a1=some res):
 Tri Tryz.prog 76 #[(a29_ a0 v0_0 v0_1 v0_2 v0_3),(Iv a1)] M [] (f_image_Leads_post a0 a1 v0_0 v0_1 v0_2 v0_3 res):=by
 unfold f_image_Leads at h
 refine Te Tryz.func76 Z Z ?_
 intro F ρ hρ
 refine Sr (We (EO.box (cs:=(l29 a0 v0_0 v0_1 v0_2 v0_3).toArray) (congrArg Value.cells (asE (a29_ a0 v0_0 v0_1 v0_2 v0_3) (hρ 0)))) Z ?_)
 rintro _ _ _ - ⟨rfl,g21,rfl,rfl⟩
 refine We (EO.box (cs:=#[(Iv a1)]) (congrArg Value.cells (asE (Iv a1) (hρ 1)))) Z ?_
 rintro _ _ _ - ⟨rfl,g22,rfl,rfl⟩
 refine qa (Bv false) (Ns (qu (pt g21 1) (Fa fo29_1 Z Z) (qu v0_1 (Lb 1 pl25 Z Z Z) (qu (.func (.func 87) #[] #[(pt g22 0)]) (PO.makeFunc2 (args0) (args1 (show ev _ _=(pt g22 0) from Z))) ?_))))
 obtain ⟨r23,hr24,h⟩:=bnd h
 refine We (Cb co86 (f_slices_ContainsFunc_api_Topic_Leads_1_ok a0.Topics a1 _ _ _ h0_1 r23 hr24) (args2 Z Z)) Z ?_
 rintro _ M25 _ hle26 ⟨_,⟨rfl,rfl⟩,rfl⟩
 exact WL.a1 (qa (Bv r23) (Nt (Cr (Dr (Dr (Rf h [] Z (Rs Z Z) hle26 ⟨Z,Z⟩))))))
noncomputable def f_dump_brokers_l0 (a0:T_api_Image) (s_:(Int×Int)):Option ((Int×Int)⊕(Unit⊕GErr)):=
 match s_ with
 |(x24,x25)=>
 (if(decide (x25<(a0.Brokers.length:Int)))=true then(grd (0≤x25∧x25<a0.Brokers.length) (((if(decide (((rd a0.Brokers x25).Id)≤x24))=true then(some true)else(if(decide ((64:Int)<((rd a0.Brokers x25).Id)))=true then(some true)else(if(decide (((rd a0.Brokers x25).Epoch)<(0:Int)))=true then(some true)else(if(decide ((1073741824:Int)<((rd a0.Brokers x25).Epoch)))=true then(some true)else((f_record_Name ((rd a0.Brokers x25).Rack)).bind fun r42=>(some (!r42))))))):Option Bool).bind fun x36=>(if x36=true then((f_fault_New (⟨#[98,114,111,107,101,114]⟩:ByteArray) x25 (2:Int)).bind fun r48=>(some (Sum.inr (Sum.inr r48))))else(((if((rd a0.Brokers x25).Fenced)=true then(if((rd a0.Brokers x25).Leaving)=true then((f_image_Leads a0 ((rd a0.Brokers x25).Id)).bind fun r57=>(some r57))else(some false))else(some false)):Option Bool).bind fun x53=>(if x53=true then((f_fault_New (⟨#[98,114,111,107,101,114]⟩:ByteArray) x25 (10:Int)).bind fun r63=>(some (Sum.inr (Sum.inr r63))))else(some (Sum.inl ((rd a0.Brokers x25).Id,IntKind.i64.wrap (x25+(1:Int))))))))))else(some (Sum.inr (Sum.inl ()))))
noncomputable def f_dump_brokers (a0:T_api_Image):Option GErr:=
 ((((iter (f_dump_brokers_l0 a0) ((0:Int),(0:Int))).bind (Sum.elim (fun _=>(some (Sum.inl ()))) (fun(x26:GErr)=>(((some x26)).bind fun r=>some (Sum.inr r))))):Option (Unit⊕GErr)).bind (Sum.elim (fun _=>(some GErr.nil)) some))
def f_dump_brokers_post (a0:T_api_Image) (v0_0 v0_1 v0_2 v0_3:Value):GErr→Value→IM→HL→Prop:=
 fun(r0:GErr) (v:Value) (M':IM) (H':HL)=>(GV r0)=v∧H'=[]
theorem f_dump_brokers_ok (a0:T_api_Image) (M:IM) (v0_0 v0_1 v0_2 v0_3:Value) (h0_0:RS kd_api_Broker M v0_0 a0.Brokers) (h0_1:RS kd_api_Topic M v0_1 a0.Topics) (h0_2:RS kd_api_Config M v0_2 a0.Configs) (h0_3:RS kd_api_Done M v0_3 a0.Done) (res:GErr) (h:f_dump_brokers a0=some res):
 Tri Tryz.prog 49 #[(a29_ a0 v0_0 v0_1 v0_2 v0_3)] M [] (f_dump_brokers_post a0 v0_0 v0_1 v0_2 v0_3 res):=by
 unfold f_dump_brokers at h
 refine Te Tryz.func49 Z Z ?_
 intro F ρ hρ
 refine Sr (We (EO.box (cs:=(l29 a0 v0_0 v0_1 v0_2 v0_3).toArray) (congrArg Value.cells (asE (a29_ a0 v0_0 v0_1 v0_2 v0_3) (hρ 0)))) Z ?_)
 rintro _ _ _ - ⟨rfl,g21,rfl,rfl⟩
 refine qa (GV GErr.nil) (Ns (qa (Iv 0) (Nt ?_)))
 obtain ⟨j22,hj22,h⟩:=bnd h
 refine WC.joinE (fun(_:Unit) ρ' M' H'=>M.le M'∧[(g21, .cells (l29 a0 v0_0 v0_1 v0_2 v0_3).toArray 29 (0,0))]::F=H') j22 ?_ ?_
 have h322:=h
 have h:=hj22
 refine Sr (qu (pt g21 0) (Fa fo29_0 Z Z) (qu v0_0 (Lb 0 pl24 Z Z Z) (qu (Iv (a0.Brokers.length:Int)) (PO.lenS Tryz.underlying24 Z h0_0.len) (qm (Iv 0) (Nt (Bk ?_))))))
 obtain ⟨e23,he23,hK23⟩:=bnd h
 clear h
 refine WC.loop he23 (fun(p_:(Int×Int)) ρ' M' H'=>match p_ with |(x24,x25)=>M.le M'∧[(g21, .cells (l29 a0 v0_0 v0_1 v0_2 v0_3).toArray 29 (0,0))]::F=H'∧ρ' 1=(pt g21 0)∧ρ' 3=(Iv x24)∧ρ' 7=v0_0∧ρ' 8=(Iv (a0.Brokers.length:Int))∧ρ' 9=(Iv x25)) ?_ ?_
 exact⟨lr,Z,Z,Z,Z,Z,Z⟩
 rintro ⟨x24,x25⟩ o23 ρ23 M23 H23 h ⟨hle23,rfl,hs23_1,hs23_3,hs23_7,hs23_8,hs23_9⟩
 unfold f_dump_brokers_l0 at h
 refine Sr (qu (Bv (decide (x25<(a0.Brokers.length:Int)))) (PO.lss hs23_9 hs23_8) (Nt (Cs (Ch h Z (fun hb27 h=> ?_) (fun hb27 h=> ?_)))))
 refine Ck (Tc (Cs (Bk (Sr (qM (Iv x25) hs23_9 ?_)))))
 obtain ⟨hg28,h⟩:=grd_i h
 have h0_0:=h0_0.mono hle23
 obtain ⟨p29,cs30,hat31,hrc32,hhas33⟩:=h0_0.at hg28.1 hg28.2 (by decide)
 obtain rfl:=kd_api_Broker_open hrc32
 refine qu (.pointer (some p29)) (PO.indexAddr (n:=a0.Brokers.length) Tryz.underlying24 sz59 hs23_7 hs23_9 hg28.1 hg28.2 hat31) (qu (a59_ (rd a0.Brokers x25)) (PO.loadMA (cs:=(l59 (rd a0.Brokers x25))) ag59 sz59 Z hhas33) (We (Al ze59 Z) Z ?_))
 rintro _ _ _ - ⟨rfl,g35,rfl,rfl⟩
 refine qa (Iv x25) (We (Sg (v:=(a59_ (rd a0.Brokers x25))) (vl:=(l59 (rd a0.Brokers x25))) (arr':=(l59 (rd a0.Brokers x25))) Z sz59 Z Z (onb Z) Z Z Z) Z ?_)
 rintro _ _ _ - ⟨rfl,rfl⟩
 refine Nt (Cs (Bk ?_))
 obtain ⟨x36,hj37,h⟩:=bnd h
 refine Jf (fun(x36:Bool) ρ' M' H'=>M23.le M'∧[(g35, .cells (l59 (rd a0.Brokers x25)).toArray 59 (0,0))]::[(g21, .cells (l29 a0 v0_0 v0_1 v0_2 v0_3).toArray 29 (0,0))]::F=H'∧ρ' 1=(pt g21 0)∧ρ' 4=(Iv x25)∧ρ' 5=(pt g35 0)∧ρ' 7=v0_0∧ρ' 8=(Iv (a0.Brokers.length:Int))∧ρ' 9=(Iv x25)∧ρ' 14=(Bv x36)) x36 ?_ ?_
 have h:=hj37
 refine Cg (qu (pt g35 0) (Fa fo59_0 Z Z) (qu (Iv ((rd a0.Brokers x25).Id)) (Lb 0 pl3 Z Z Z) (qM (Iv x24) hs23_3 (qu (Bv (decide (((rd a0.Brokers x25).Id)≤x24))) (PO.leq Z Z) (qm (Bv (decide (((rd a0.Brokers x25).Id)≤x24))) ?_)))))
 rcases Bi h with⟨hb38,h⟩ |⟨hb38,h⟩
 iterate 3 refine Of 19 Z Z hb38 Z ?_
 refine qu (Bv true) (Pt Z hb38 Z) (qm (Bv true) ?_)
 iterate 3 refine Of 24 Z Z Z Z ?_
 refine qu (Bv true) (Pt Z Z Z) (qm (Bv true) ?_)
 iterate 3 refine Of 29 Z Z Z Z ?_
 refine qu (Bv true) (Pt Z Z Z) (qm (Bv true) ?_)
 iterate 4 refine Of 34 Z Z Z Z ?_
 refine qu (Bv true) (Pt Z Z Z) (qa (Bv true) (Wz ?_))
 obtain rfl:=oi h
 exact Tj ⟨lr,Z,hs23_1,Z,Z,hs23_7,hs23_8,hs23_9,Z⟩
 refine qo 19 hb38 (pt g35 0) (Fa fo59_0 Z Z) (qo 19 hb38 (Iv ((rd a0.Brokers x25).Id)) (Lb 0 pl3 Z Z Z) (qo 19 hb38 (Bv (decide ((64:Int)<((rd a0.Brokers x25).Id)))) (PO.gtr Z Z) (qu (Bv (decide ((64:Int)<((rd a0.Brokers x25).Id)))) (Pf Z hb38 Z) (qm (Bv (decide ((64:Int)<((rd a0.Brokers x25).Id)))) ?_))))
 rcases Bi h with⟨hb39,h⟩ |⟨hb39,h⟩
 iterate 3 refine Of 24 Z Z hb39 Z ?_
 refine qu (Bv true) (Pt Z hb39 Z) (qm (Bv true) ?_)
 iterate 3 refine Of 29 Z Z Z Z ?_
 refine qu (Bv true) (Pt Z Z Z) (qm (Bv true) ?_)
 iterate 4 refine Of 34 Z Z Z Z ?_
 refine qu (Bv true) (Pt Z Z Z) (qa (Bv true) (Wz ?_))
 obtain rfl:=oi h
 exact Tj ⟨lr,Z,hs23_1,Z,Z,hs23_7,hs23_8,hs23_9,Z⟩
 refine qo 24 hb39 (pt g35 1) (Fa fo59_1 Z Z) (qo 24 hb39 (Iv ((rd a0.Brokers x25).Epoch)) (Lb 0 pl3 Z Z Z) (qo 24 hb39 (Bv (decide (((rd a0.Brokers x25).Epoch)<0))) (PO.lss Z Z) (qu (Bv (decide (((rd a0.Brokers x25).Epoch)<0))) (Pf Z hb39 Z) (qm (Bv (decide (((rd a0.Brokers x25).Epoch)<0))) ?_))))
 rcases Bi h with⟨hb40,h⟩ |⟨hb40,h⟩
 iterate 3 refine Of 29 Z Z hb40 Z ?_
 refine qu (Bv true) (Pt Z hb40 Z) (qm (Bv true) ?_)
 iterate 4 refine Of 34 Z Z Z Z ?_
 refine qu (Bv true) (Pt Z Z Z) (qa (Bv true) (Wz ?_))
 obtain rfl:=oi h
 exact Tj ⟨lr,Z,hs23_1,Z,Z,hs23_7,hs23_8,hs23_9,Z⟩
 refine qo 29 hb40 (pt g35 1) (Fa fo59_1 Z Z) (qo 29 hb40 (Iv ((rd a0.Brokers x25).Epoch)) (Lb 0 pl3 Z Z Z) (qo 29 hb40 (Bv (decide ((1073741824:Int)<((rd a0.Brokers x25).Epoch)))) (PO.gtr Z Z) (qu (Bv (decide ((1073741824:Int)<((rd a0.Brokers x25).Epoch)))) (Pf Z hb40 Z) (qm (Bv (decide ((1073741824:Int)<((rd a0.Brokers x25).Epoch)))) ?_))))
 rcases Bi h with⟨hb41,h⟩ |⟨hb41,h⟩
 iterate 4 refine Of 34 Z Z hb41 Z ?_
 refine qu (Bv true) (Pt Z hb41 Z) (qa (Bv true) (Wz ?_))
 obtain rfl:=oi h
 exact Tj ⟨lr,Z,hs23_1,Z,Z,hs23_7,hs23_8,hs23_9,Z⟩
 refine qo 34 hb41 (pt g35 2) (Fa fo59_2 Z Z) (qo 34 hb41 (Sv ((rd a0.Brokers x25).Rack)) (Lb 0 pl9 Z Z Z) (On 34 Z Z hb41 ?_))
 obtain ⟨r42,hr43,h⟩:=bnd h
 refine We (Ca co75 (f_record_Name_ok ((rd a0.Brokers x25).Rack) _ r42 hr43) (args1 Z)) Z ?_
 rintro _ M44 _ hle45 ⟨_,⟨rfl,rfl⟩,rfl⟩
 refine WL.a0 (qo 34 hb41 (Bv (!r42)) (PO.not Z) (qu (Bv (!r42)) (Pf Z hb41 Z) (qa (Bv (!r42)) (Wz ?_))))
 obtain rfl:=oi h
 exact Tj ⟨hle45,Z,hs23_1,Z,Z,hs23_7,hs23_8,hs23_9,Z⟩
 rintro ρ37 M37 H37 ⟨hle37,rfl,hs37_1,hs37_4,hs37_5,hs37_7,hs37_8,hs37_9,hs37_14⟩
 refine Ch h hs37_14 (fun hb47 h=> ?_) (fun hb47 h=> ?_)
 refine Sr (qM (Iv x25) hs37_4 ?_)
 obtain ⟨r48,hr49,h⟩:=bnd h
 refine We (Ca co52 (f_fault_New_ok ⟨#[98,114,111,107,101,114]⟩ x25 (2:Int) _ r48 hr49) (args3 Z Z Z)) Z ?_
 rintro _ M50 _ hle51 ⟨_,⟨rfl,rfl⟩,rfl⟩
 refine WL.a0 (qa (GV r48) (Nt (Cr (Br (Tr (Br (Tr (WQ.leaveR (Sum.inr r48) (oi h).symm (fun heq23=> ?_)))))))))
 subst heq23
 have h:=(elimR hK23)
 refine Br (Tr ?_)
 have h:=KK.early h h322
 exact Dr (Dr (Rf h [] Z (Rs Z Z) ((hle23.trans hle37).trans hle51) ⟨Z,Z⟩))
 obtain ⟨x53,hj54,h⟩:=bnd h
 refine Jf (fun(x53:Bool) ρ' M' H'=>M37.le M'∧[(g35, .cells (l59 (rd a0.Brokers x25)).toArray 59 (0,0))]::[(g21, .cells (l29 a0 v0_0 v0_1 v0_2 v0_3).toArray 29 (0,0))]::F=H'∧ρ' 1=(pt g21 0)∧ρ' 4=(Iv x25)∧ρ' 5=(pt g35 0)∧ρ' 7=v0_0∧ρ' 8=(Iv (a0.Brokers.length:Int))∧ρ' 9=(Iv x25)∧ρ' 42=(Bv x53)) x53 ?_ ?_
 have h:=hj54
 refine Cg (qu (pt g35 3) (Fa fo59_3 hs37_5 Z) (qu (Bv ((rd a0.Brokers x25).Fenced)) (Lb 0 pl4 Z Z Z) (qm (Bv ((rd a0.Brokers x25).Fenced)) ?_)))
 rcases Bi h with⟨hb55,h⟩ |⟨hb55,h⟩
 refine qo 45 hb55 (pt g35 4) (Fa fo59_4 hs37_5 Z) (qo 45 hb55 (Bv ((rd a0.Brokers x25).Leaving)) (Lb 0 pl4 Z Z Z) (qu (Bv ((rd a0.Brokers x25).Leaving)) (Pt Z hb55 Z) (qm (Bv ((rd a0.Brokers x25).Leaving)) ?_)))
 rcases Bi h with⟨hb56,h⟩ |⟨hb56,h⟩
 refine qo 49 hb56 (a29_ a0 v0_0 v0_1 v0_2 v0_3) (La (cs:=(l29 a0 v0_0 v0_1 v0_2 v0_3)) 1 ag29 sz29 hs37_1 Z Z) (qo 49 hb56 (pt g35 0) (Fa fo59_0 hs37_5 Z) (qo 49 hb56 (Iv ((rd a0.Brokers x25).Id)) (Lb 0 pl3 Z Z Z) (On 49 Z Z hb56 ?_)))
 obtain ⟨r57,hr58,h⟩:=bnd h
 have h0_0:=h0_0.mono hle37
 have h0_1:=h0_1.mono (hle23.trans hle37)
 have h0_2:=h0_2.mono (hle23.trans hle37)
 have h0_3:=h0_3.mono (hle23.trans hle37)
 refine We (Ca co76 (f_image_Leads_ok a0 ((rd a0.Brokers x25).Id) _ _ _ _ _ h0_0 h0_1 h0_2 h0_3 r57 hr58) (args2 Z Z)) Z ?_
 rintro _ M59 _ hle60 ⟨_,⟨rfl,rfl⟩,rfl⟩
 refine WL.a0 (qu (Bv r57) (Pt Z hb56 Z) (qa (Bv r57) (Wz ?_)))
 obtain rfl:=oi h
 exact Tj ⟨hle60,Z,hs37_1,hs37_4,hs37_5,hs37_7,hs37_8,hs37_9,Z⟩
 iterate 4 refine Of 49 Z Z hb56 Z ?_
 refine qu (Bv false) (Pf Z hb56 Z) (qa (Bv false) (Wz ?_))
 obtain rfl:=oi h
 exact Tj ⟨lr,Z,hs37_1,hs37_4,hs37_5,hs37_7,hs37_8,hs37_9,Z⟩
 iterate 2 refine Of 45 Z Z hb55 Z ?_
 refine qu (Bv false) (Pf Z hb55 Z) (qm (Bv false) ?_)
 iterate 4 refine Of 49 Z Z Z Z ?_
 refine qu (Bv false) (Pf Z Z Z) (qa (Bv false) (Wz ?_))
 obtain rfl:=oi h
 exact Tj ⟨lr,Z,hs37_1,hs37_4,hs37_5,hs37_7,hs37_8,hs37_9,Z⟩
 rintro ρ54 M54 H54 ⟨hle54,rfl,hs54_1,hs54_4,hs54_5,hs54_7,hs54_8,hs54_9,hs54_42⟩
 refine Ch h hs54_42 (fun hb62 h=> ?_) (fun hb62 h=> ?_)
 refine Sr (qM (Iv x25) hs54_4 ?_)
 obtain ⟨r63,hr64,h⟩:=bnd h
 refine We (Ca co52 (f_fault_New_ok ⟨#[98,114,111,107,101,114]⟩ x25 (10:Int) _ r63 hr64) (args3 Z Z Z)) Z ?_
 rintro _ M65 _ hle66 ⟨_,⟨rfl,rfl⟩,rfl⟩
 refine WL.a0 (qa (GV r63) (Nt (Cr (Br (Tr (Br (Tr (WQ.leaveR (Sum.inr r63) (oi h).symm (fun heq23=> ?_)))))))))
 subst heq23
 have h:=(elimR hK23)
 refine Br (Tr ?_)
 have h:=KK.early h h322
 exact Dr (Dr (Rf h [] Z (Rs Z Z) (((hle23.trans hle37).trans hle54).trans hle66) ⟨Z,Z⟩))
 refine Ck (Bn (Tc (Cg (qu (pt g35 0) (Fa fo59_0 hs54_5 Z) (qu (Iv ((rd a0.Brokers x25).Id)) (Lb 0 pl3 Z Z Z) (qa (Iv ((rd a0.Brokers x25).Id)) (Wz (Bn (Tc (Cg (qu (Iv (IntKind.i64.wrap (x25+1))) (PO.add hs54_9 Z) ?_)))))))))))
 exact qm (Iv (IntKind.i64.wrap (x25+1))) (Wz (Dr (WQ.again ((rd a0.Brokers x25).Id,IntKind.i64.wrap (x25+1)) (oi h).symm ⟨((hle23.trans hle37).trans hle54),Z,hs54_1,Z,hs54_7,hs54_8,Z⟩)))
 refine WC.exit (WQ.thenE (WQ.leaveE (Sum.inl ()) (oi h).symm (fun heq23=> ?_)))
 subst heq23
 have h:=elimL hK23
 exact WQ.blockH (WQ.thenFE h ⟨hle23,Z⟩)
 rintro _ ρ22 M22 H22 rfl ⟨hle22,rfl⟩
 have h:=(Sum.elim_inl _ _ _).symm.trans h
 exact Sr (qa (GV GErr.nil) (Nt (Cr (Dr (Rf h [] Z (Rs Z Z) hle22 ⟨Z,Z⟩)))))
noncomputable def f_slices_Index_int_int_l0 (a0:(List Int)) (a1:Int) (s_:Int):Option (Int⊕(Unit⊕Int)):=
 match s_ with
 |x23=>
 (if(decide (x23<(a0.length:Int)))=true then(grd (0≤x23∧x23<a0.length) (if(decide (a1=(rd a0 x23)))=true then(some (Sum.inr (Sum.inr x23)))else(some (Sum.inl (IntKind.i64.wrap (x23+(1:Int)))))))else(some (Sum.inr (Sum.inl ()))))
noncomputable def f_slices_Index_int_int (a0:(List Int)) (a1:Int):Option Int:=
 ((((iter (f_slices_Index_int_int_l0 a0 a1) (0:Int)).bind (Sum.elim (fun _=>(some (Sum.inl ()))) (fun(x24:Int)=>(((some x24)).bind fun r=>some (Sum.inr r))))):Option (Unit⊕Int)).bind (Sum.elim (fun _=>(some (-1:Int))) some))
def f_slices_Index_int_int_post (a0:(List Int)) (a1:Int) (v0:Value):Int→Value→IM→HL→Prop:=
 fun(r0:Int) (v:Value) (M':IM) (H':HL)=>(.int .i64 r0)=v∧H'=[]
theorem f_slices_Index_int_int_ok (a0:(List Int)) (a1:Int) (M:IM) (v0:Value) (h0:RS (Kd.int .i64) M v0 a0) (res:Int) (h:f_slices_Index_int_int a0 a1=some res):
 Tri Tryz.prog 101 #[v0,(Iv a1)] M [] (f_slices_Index_int_int_post a0 a1 v0 res):=by
 unfold f_slices_Index_int_int at h
 refine Te Tryz.func101 Z Z ?_
 intro F ρ hρ
 refine Sr (qa (Iv 0) (Nt ?_))
 obtain ⟨j21,hj21,h⟩:=bnd h
 refine WC.joinE (fun(_:Unit) ρ' M' H'=>M.le M'∧F=H') j21 ?_ ?_
 have h321:=h
 have h:=hj21
 refine Sr (qM v0 (hρ 0) (qu (Iv (a0.length:Int)) (PO.lenS Tryz.underlying43 Z h0.len) (qm (Iv 0) (Nt (Bk ?_)))))
 obtain ⟨e22,he22,hK22⟩:=bnd h
 clear h
 refine WC.loop he22 (fun(x23:Int) ρ' M' H'=>M.le M'∧F=H'∧ρ' 0=v0∧ρ' 1=(Iv a1)∧ρ' 7=(Iv (a0.length:Int))∧ρ' 8=(Iv x23)) ?_ ?_
 exact⟨lr,Z,(hρ 0),(hρ 1),Z,Z⟩
 rintro x23 o22 ρ22 M22 H22 h ⟨hle22,rfl,hs22_0,hs22_1,hs22_7,hs22_8⟩
 unfold f_slices_Index_int_int_l0 at h
 refine Sr (qu (Bv (decide (x23<(a0.length:Int)))) (PO.lss hs22_8 hs22_7) (Nt (Cs (Ch h Z (fun hb25 h=> ?_) (fun hb25 h=> ?_)))))
 refine Ck (Tc (Cs (Bk (Sr (qM (Iv x23) hs22_8 (qa (Iv x23) (Ns (qM (Iv a1) hs22_1 (qM v0 hs22_0 (qm (Iv x23) ?_))))))))))
 obtain ⟨hg26,h⟩:=grd_i h
 have h0:=h0.mono hle22
 obtain ⟨p27,cs28,hat29,hrc30,hhas31⟩:=h0.at hg26.1 hg26.2 (by decide)
 obtain rfl:=hrc30
 refine qu (.pointer (some p27)) (PO.indexAddr (n:=a0.length) Tryz.underlying43 sz3 Z Z hg26.1 hg26.2 hat29) (qu (Iv (rd a0 x23)) (PO.loadM pl3 Z (IM.has0 hhas31)) (qu (Bv (decide (a1=(rd a0 x23)))) (PO.eql Z Z) (Nt (Ch h Z (fun hb33 h=> ?_) (fun hb33 h=> ?_)))))
 refine Sr (qm (Iv x23) (qa (Iv x23) (Nt (Cr (Br (Tr (WQ.leaveR (Sum.inr x23) (oi h).symm (fun heq22=> ?_))))))))
 subst heq22
 have h:=(elimR hK22)
 refine Br (Tr ?_)
 have h:=KK.early h h321
 exact Rf h [] Z (Rs Z Z) hle22 ⟨Z,Z⟩
 exact Ck (Bn (Tc (Cg (qu (Iv (IntKind.i64.wrap (x23+1))) (PO.add hs22_8 Z) (qm (Iv (IntKind.i64.wrap (x23+1))) (Wz (WQ.again (IntKind.i64.wrap (x23+1)) (oi h).symm ⟨hle22,Z,hs22_0,hs22_1,hs22_7,Z⟩)))))))
 refine WC.exit (WQ.thenE (WQ.leaveE (Sum.inl ()) (oi h).symm (fun heq22=> ?_)))
 subst heq22
 have h:=elimL hK22
 exact WQ.blockH (WQ.thenFE h ⟨hle22,Z⟩)
 rintro _ ρ21 M21 H21 rfl ⟨hle21,rfl⟩
 have h:=(Sum.elim_inl _ _ _).symm.trans h
 exact Sr (qa (Iv (-1:Int)) (Nt (Cr (Rf h [] Z (Rs Z Z) hle21 ⟨Z,Z⟩))))
noncomputable def f_slices_Contains_int_int (a0:(List Int)) (a1:Int):Option Bool:=
 ((f_slices_Index_int_int a0 a1).bind fun r21=>(some (decide ((0:Int)≤r21))))
def f_slices_Contains_int_int_post (a0:(List Int)) (a1:Int) (v0:Value):Bool→Value→IM→HL→Prop:=
 fun(r0:Bool) (v:Value) (M':IM) (H':HL)=>(.bool r0)=v∧H'=[]
theorem f_slices_Contains_int_int_ok (a0:(List Int)) (a1:Int) (M:IM) (v0:Value) (h0:RS (Kd.int .i64) M v0 a0) (res:Bool) (h:f_slices_Contains_int_int a0 a1=some res):
 Tri Tryz.prog 97 #[v0,(Iv a1)] M [] (f_slices_Contains_int_int_post a0 a1 v0 res):=by
 unfold f_slices_Contains_int_int at h
 refine Te Tryz.func97 Z Z ?_
 intro F ρ hρ
 refine Sr (qa (Bv false) (Ns (qM v0 (hρ 0) (qM (Iv a1) (hρ 1) ?_))))
 obtain ⟨r21,hr22,h⟩:=bnd h
 refine We (Ca co101 (f_slices_Index_int_int_ok a0 a1 _ _ h0 r21 hr22) (args2 Z Z)) Z ?_
 rintro _ M23 _ hle24 ⟨_,⟨rfl,rfl⟩,rfl⟩
 exact WL.a0 (qu (Bv (decide ((0:Int)≤r21))) (PO.geq Z Z) (qa (Bv (decide ((0:Int)≤r21))) (Nt (Cr (Rf h [] Z (Rs Z Z) hle24 ⟨Z,Z⟩)))))
noncomputable def f_record_Brokers_l0 (a0:(List Int)) (s_:Int):Option (Int⊕(Unit⊕Unit)):=
 match s_ with
 |x24=>
 (if(decide (x24<(a0.length:Int)))=true then(grd (0≤x24∧x24<a0.length) (((if(decide ((rd a0 x24)<(1:Int)))=true then(some true)else(if(decide ((64:Int)<(rd a0 x24)))=true then(some true)else(grd (0≤(0:Int)∧(0:Int)≤x24∧x24≤(a0.length:Int)) ((f_slices_Contains_int_int (sub a0 (0:Int) x24) (rd a0 x24)).bind fun r39=>(some r39))))):Option Bool).bind fun x33=>(if x33=true then(some (Sum.inr (Sum.inr ())))else(some (Sum.inl (IntKind.i64.wrap (x24+(1:Int))))))))else(some (Sum.inr (Sum.inl ()))))
noncomputable def f_record_Brokers (a0:(List Int)):Option Bool:=
 (if(decide ((7:Int)<(a0.length:Int)))=true then(some false)else((((iter (f_record_Brokers_l0 a0) (0:Int)).bind (Sum.elim (fun _=>(some (Sum.inl ()))) (fun _=>(((some false)).bind fun r=>some (Sum.inr r))))):Option (Unit⊕Bool)).bind (Sum.elim (fun _=>(some true)) some)))
def f_record_Brokers_post (a0:(List Int)) (v0:Value):Bool→Value→IM→HL→Prop:=
 fun(r0:Bool) (v:Value) (M':IM) (H':HL)=>(.bool r0)=v∧H'=[]
theorem f_record_Brokers_ok (a0:(List Int)) (M:IM) (v0:Value) (h0:RS (Kd.int .i64) M v0 a0) (res:Bool) (h:f_record_Brokers a0=some res):
 Tri Tryz.prog 90 #[v0] M [] (f_record_Brokers_post a0 v0 res):=by
 unfold f_record_Brokers at h
 refine Te Tryz.func90 Z Z ?_
 intro F ρ hρ
 refine Sr (qa (Bv false) (Nt (Cs (Sr (qM v0 (hρ 0) (qu (Iv (a0.length:Int)) (PO.lenS Tryz.underlying43 Z h0.len) (qu (Bv (decide ((7:Int)<(a0.length:Int)))) (PO.gtr Z Z) (Nt (Ch h Z (fun hb21 h=> ?_) (fun hb21 h=> ?_))))))))))
 exact Sr (qa (Bv false) (Nt (Cr (Tr (Rf h [] Z (Rs Z Z) lr ⟨Z,Z⟩)))))
 refine Ck (Tc ?_)
 obtain ⟨j22,hj22,h⟩:=bnd h
 refine WC.joinE (fun(_:Unit) ρ' M' H'=>M.le M'∧F=H') j22 ?_ ?_
 have h322:=h
 have h:=hj22
 refine Sr (qM v0 (hρ 0) (qu (Iv (a0.length:Int)) (PO.lenS Tryz.underlying43 Z h0.len) (qm (Iv 0) (Nt (Bk ?_)))))
 obtain ⟨e23,he23,hK23⟩:=bnd h
 clear h
 refine WC.loop he23 (fun(x24:Int) ρ' M' H'=>M.le M'∧F=H'∧ρ' 0=v0∧ρ' 8=v0∧ρ' 9=(Iv (a0.length:Int))∧ρ' 10=(Iv x24)) ?_ ?_
 exact⟨lr,Z,(hρ 0),Z,Z,Z⟩
 rintro x24 o23 ρ23 M23 H23 h ⟨hle23,rfl,hs23_0,hs23_8,hs23_9,hs23_10⟩
 unfold f_record_Brokers_l0 at h
 refine Sr (qu (Bv (decide (x24<(a0.length:Int)))) (PO.lss hs23_10 hs23_9) (Nt (Cs (Ch h Z (fun hb25 h=> ?_) (fun hb25 h=> ?_)))))
 refine Ck (Tc (Cs (Bk (Sr (qM (Iv x24) hs23_10 ?_)))))
 obtain ⟨hg26,h⟩:=grd_i h
 have h0:=h0.mono hle23
 obtain ⟨p27,cs28,hat29,hrc30,hhas31⟩:=h0.at hg26.1 hg26.2 (by decide)
 obtain rfl:=hrc30
 refine qu (.pointer (some p27)) (PO.indexAddr (n:=a0.length) Tryz.underlying43 sz3 hs23_8 hs23_10 hg26.1 hg26.2 hat29) (qu (Iv (rd a0 x24)) (PO.loadM pl3 Z (IM.has0 hhas31)) (qa (Iv x24) (qa (Iv (rd a0 x24)) (Nt ?_))))
 obtain ⟨x33,hj34,h⟩:=bnd h
 refine Jf (fun(x33:Bool) ρ' M' H'=>M23.le M'∧F=H'∧ρ' 0=v0∧ρ' 8=v0∧ρ' 9=(Iv (a0.length:Int))∧ρ' 10=(Iv x24)∧ρ' 27=(Bv x33)) x33 ?_ ?_
 have h:=hj34
 refine Cg (qm (Iv (rd a0 x24)) (qu (Bv (decide ((rd a0 x24)<1))) (PO.lss Z Z) (qm (Bv (decide ((rd a0 x24)<1))) ?_)))
 rcases Bi h with⟨hb35,h⟩ |⟨hb35,h⟩
 iterate 2 refine Of 17 Z Z hb35 Z ?_
 refine qu (Bv true) (Pt Z hb35 Z) (qm (Bv true) ?_)
 iterate 5 refine Of 21 Z Z Z Z ?_
 refine qu (Bv true) (Pt Z Z Z) (Wz ?_)
 obtain rfl:=oi h
 exact Tj ⟨lr,Z,hs23_0,hs23_8,hs23_9,hs23_10,Z⟩
 refine On 17 Z Z hb35 (qm (Iv (rd a0 x24)) (qo 17 hb35 (Bv (decide ((64:Int)<(rd a0 x24)))) (PO.gtr Z Z) (qu (Bv (decide ((64:Int)<(rd a0 x24)))) (Pf Z hb35 Z) (qm (Bv (decide ((64:Int)<(rd a0 x24)))) ?_))))
 rcases Bi h with⟨hb36,h⟩ |⟨hb36,h⟩
 iterate 5 refine Of 21 Z Z hb36 Z ?_
 refine qu (Bv true) (Pt Z hb36 Z) (Wz ?_)
 obtain rfl:=oi h
 exact Tj ⟨lr,Z,hs23_0,hs23_8,hs23_9,hs23_10,Z⟩
 refine On 21 Z Z hb36 (qM v0 hs23_0 (On 21 Z Z hb36 (qm (Iv x24) (On 21 Z Z hb36 ?_))))
 obtain ⟨hg37,h⟩:=grd_i h
 have h38:=h0.sub hg37.1 hg37.2.1 hg37.2.2
 refine qu (slV v0 1 ((0:Int)).toNat (x24).toNat) (PO.slice (n:=a0.length) (l:=((0:Int)).toNat) (h:=(x24).toNat) Tryz.underlying43 sz3 Z h0.len h0.cap (bound0 Z) ⟨_,_,Z,(Int.le_trans hg37.1 hg37.2.1),Z⟩ (Int.toNat_le_toNat hg37.2.1) (toNat_le_len hg37.2.2)) (On 21 Z Z hb36 (qm (Iv (rd a0 x24)) (On 21 Z Z hb36 ?_)))
 obtain ⟨r39,hr40,h⟩:=bnd h
 refine We (Ca co97 (f_slices_Contains_int_int_ok (sub a0 (0:Int) x24) (rd a0 x24) _ _ h38 r39 hr40) (args2 Z Z)) Z ?_
 rintro _ M41 _ hle42 ⟨_,⟨rfl,rfl⟩,rfl⟩
 refine WL.a0 (qu (Bv r39) (Pf Z hb36 Z) (Wz ?_))
 obtain rfl:=oi h
 exact Tj ⟨hle42,Z,hs23_0,hs23_8,hs23_9,hs23_10,Z⟩
 rintro ρ34 M34 H34 ⟨hle34,rfl,hs34_0,hs34_8,hs34_9,hs34_10,hs34_27⟩
 refine Ch h hs34_27 (fun hb44 h=> ?_) (fun hb44 h=> ?_)
 refine Sr (qa (Bv false) (Nt (Cr (Br (Tr (WQ.leaveR (Sum.inr ()) (oi h).symm (fun heq23=> ?_)))))))
 subst heq23
 have h:=(elimR hK23)
 refine Br (Tr ?_)
 have h:=KK.early h h322
 exact Rf h [] Z (Rs Z Z) (hle23.trans hle34) ⟨Z,Z⟩
 exact Ck (Bn (Tc (Cg (qu (Iv (IntKind.i64.wrap (x24+1))) (PO.add hs34_10 Z) (qm (Iv (IntKind.i64.wrap (x24+1))) (Wz (WQ.again (IntKind.i64.wrap (x24+1)) (oi h).symm ⟨(hle23.trans hle34),Z,hs34_0,hs34_8,hs34_9,Z⟩)))))))
 refine WC.exit (WQ.thenE (WQ.leaveE (Sum.inl ()) (oi h).symm (fun heq23=> ?_)))
 subst heq23
 have h:=elimL hK23
 exact WQ.blockH (WQ.thenFE h ⟨hle23,Z⟩)
 rintro _ ρ22 M22 H22 rfl ⟨hle22,rfl⟩
 have h:=(Sum.elim_inl _ _ _).symm.trans h
 exact Sr (qa (Bv true) (Nt (Cr (Rf h [] Z (Rs Z Z) hle22 ⟨Z,Z⟩))))
noncomputable def f_image_broker_1 (a0:T_api_Broker):Option Int:=
 (some a0.Id)
def f_image_broker_1_post (a0:T_api_Broker):Int→Value→IM→HL→Prop:=
 fun(r0:Int) (v:Value) (M':IM) (H':HL)=>(.int .i64 r0)=v∧H'=[]
theorem f_image_broker_1_ok (a0:T_api_Broker) (M:IM) (res:Int) (h:f_image_broker_1 a0=some res):
 Tri Tryz.prog 103 #[(a59_ a0)] M [] (f_image_broker_1_post a0 res):=by
 unfold f_image_broker_1 at h
 refine Te Tryz.func103 Z Z ?_
 intro F ρ hρ
 refine Sr (We (EO.box (cs:=(l59 a0).toArray) (congrArg Value.cells (asE (a59_ a0) (hρ 0)))) Z ?_)
 rintro _ _ _ - ⟨rfl,g21,rfl,rfl⟩
 exact qa (Iv 0) (Ns (qu (pt g21 0) (Fa fo59_0 Z Z) (qu (Iv a0.Id) (Lb 0 pl3 Z Z Z) (qa (Iv a0.Id) (Nt (Cr (Dr (Rf h [] Z (Rs Z Z) lr ⟨Z,Z⟩))))))))
noncomputable def f_image_find_api_Broker_1_broker_1 (a0:T_api_Broker) (a1:Int):Option Int:=
 ((f_image_broker_1 a0).bind fun r22=>(some (IntKind.i64.wrap (r22 - a1))))
def f_image_find_api_Broker_1_broker_1_post (a0:T_api_Broker) (a1:Int) (g2:Nat):Int→Value→IM→HL→Prop:=
 fun(r0:Int) (v:Value) (M':IM) (H':HL)=>(.int .i64 r0)=v∧H'=[[(g2, .cells #[(.func (.func 103) #[] #[])] 157 (0,0))]]
theorem f_image_find_api_Broker_1_broker_1_ok (a0:T_api_Broker) (a1:Int) (M:IM) (g2:Nat) (res:Int) (h:f_image_find_api_Broker_1_broker_1 a0 a1=some res):
 Tri Tryz.prog 107 #[(a59_ a0),(Iv a1),(pt g2 0)] M [[(g2, .cells #[(.func (.func 103) #[] #[])] 157 (0,0))]] (f_image_find_api_Broker_1_broker_1_post a0 a1 g2 res):=by
 unfold f_image_find_api_Broker_1_broker_1 at h
 refine Te Tryz.func107 Z Z ?_
 intro F ρ hρ
 refine Sr (We (EO.box (cs:=(l59 a0).toArray) (congrArg Value.cells (asE (a59_ a0) (hρ 0)))) Z ?_)
 rintro _ _ _ - ⟨rfl,g21,rfl,rfl⟩
 refine qa (Iv 0) (Ns (qu (.func (.func 103) #[] #[]) (Lb 1 pl157 (hρ 2) Z Z) (qu (a59_ a0) (La (cs:=(l59 a0)) 0 ag59 sz59 Z Z Z) ?_)))
 obtain ⟨r22,hr23,h⟩:=bnd h
 refine We (EO.callV0 (first:=#[]) (cap:=#[]) co103 Z (f_image_broker_1_ok a0 _ r22 hr23) (argsV1 Z Z)) Z ?_
 rintro _ M24 _ hle25 ⟨_,⟨rfl,rfl⟩,rfl⟩
 exact WL.a0 (qM (Iv a1) (hρ 1) (qu (Iv (IntKind.i64.wrap (r22 - a1))) (PO.sub Z Z) (qa (Iv (IntKind.i64.wrap (r22 - a1))) (Nt (Cr (Dr (Rf h [[(g2, .cells #[(.func (.func 103) #[] #[])] 157 (0,0))]] Z (Rs Z Z) hle25 ⟨Z,Z⟩)))))))

end Go.Proofs.YtpcbipcdfccnnaaGreat.G
