/- Go functions: what they come to, and that they do. Printed by a program of the session (gen). -/
import Derived.Test.YtpcbipcdfccnnaaGreatSF
import Derived.Test.YtpcbipcdfccnnaaGreatS6
import Derived.Test.YtpcbipcdfccnnaaGreatS9
import Derived.Test.YtpcbipcdfccnnaaGreatKShar2
import Derived.Test.YtpcbipcdfccnnaaGreatKConv
import Derived.Test.YtpcbipcdfccnnaaGreatKMap
import Derived.Test.YtpcbipcdfccnnaaGreatKShar
import Derived.Test.YtpcbipcdfccnnaaGreatKTight2
set_option linter.unusedVariables false
set_option linter.unusedSimpArgs false
set_option maxHeartbeats 8000000
set_option maxRecDepth 100000
namespace Go.Proofs.YtpcbipcdfccnnaaGreat.G
open Go Go.KK

noncomputable def f_dump_Put_l0 (a0:T_api_Image) (s_:((List Int)×Int)):Option (((List Int)×Int)⊕(List Int)):=
 match s_ with
 |(x43,x44)=>
 (if(decide (x44<(a0.Brokers.length:Int)))=true then(grd (0≤x44∧x44<a0.Brokers.length) ((((f_wire_Int x43 ((rd a0.Brokers x44).Id)).bind fun r58=>((f_wire_Int r58 ((rd a0.Brokers x44).Epoch)).bind fun r64=>((f_wire_Text r64 (bytesOf ((rd a0.Brokers x44).Rack))).bind fun r72=>(some r72)))):Option (List Int)).bind fun x55=>((f_wire_Flag x55 ((rd a0.Brokers x44).Fenced)).bind fun r117=>((f_wire_Flag r117 ((rd a0.Brokers x44).Leaving)).bind fun r122=>(some (Sum.inl (r122,IntKind.i64.wrap (x44+(1:Int)))))))))else(some (Sum.inr x43)))
noncomputable def f_dump_Put_l2 (a0:T_api_Image) (x136:Int) (s_:((List Int)×Int)):Option (((List Int)×Int)⊕(List Int)):=
 match s_ with
 |(x195,x196)=>
 (if(decide (x196<(((rd a0.Topics x136).Parts).length:Int)))=true then(grd (0≤x196∧x196<((rd a0.Topics x136).Parts).length) ((f_wire_Row x195 ((rd ((rd a0.Topics x136).Parts) x196).Ids)).bind fun r207=>((f_wire_Row r207 ((rd ((rd a0.Topics x136).Parts) x196).Isr)).bind fun r212=>((f_wire_Int r212 ((rd ((rd a0.Topics x136).Parts) x196).Leader)).bind fun r217=>((f_wire_Int r217 ((rd ((rd a0.Topics x136).Parts) x196).Epoch)).bind fun r222=>((f_wire_Row r222 ((rd ((rd a0.Topics x136).Parts) x196).Add)).bind fun r227=>((f_wire_Row r227 ((rd ((rd a0.Topics x136).Parts) x196).Drop)).bind fun r232=>(some (Sum.inl (r232,IntKind.i64.wrap (x196+(1:Int))))))))))))else(some (Sum.inr x195)))
noncomputable def f_dump_Put_l1 (a0:T_api_Image) (s_:((List Int)×Int)):Option (((List Int)×Int)⊕(List Int)):=
 match s_ with
 |(x135,x136)=>
 (if(decide (x136<(a0.Topics.length:Int)))=true then(((grd (0≤x136∧x136<a0.Topics.length) ((((f_wire_Int x135 ((rd a0.Topics x136).Id)).bind fun r152=>((f_wire_Text r152 (bytesOf ((rd a0.Topics x136).Name))).bind fun r160=>((f_wire_Int r160 (((rd a0.Topics x136).Parts).length:Int)).bind fun r168=>(some r168)))):Option (List Int)).bind fun x149=>((iter (f_dump_Put_l2 a0 x136) (x149,(0:Int))).bind (fun(x197:(List Int))=>(some x197))))):Option (List Int)).bind fun x139=>(some (Sum.inl (x139,IntKind.i64.wrap (x136+(1:Int))))))else(some (Sum.inr x135)))
noncomputable def f_dump_Put_l3 (a0:T_api_Image) (s_:((List Int)×Int)):Option (((List Int)×Int)⊕(List Int)):=
 match s_ with
 |(x245,x246)=>
 (if(decide (x246<(a0.Configs.length:Int)))=true then(((grd (0≤x246∧x246<a0.Configs.length) ((f_wire_Int x245 ((rd a0.Configs x246).Topic)).bind fun r260=>((f_wire_Text r260 (bytesOf ((rd a0.Configs x246).Key))).bind fun r270=>((f_wire_Text r270 (bytesOf ((rd a0.Configs x246).Value))).bind fun r281=>(some r281))))):Option (List Int)).bind fun x249=>(some (Sum.inl (x249,IntKind.i64.wrap (x246+(1:Int))))))else(some (Sum.inr x245)))
noncomputable def f_dump_Put_l4 (a0:T_api_Image) (s_:((List Int)×Int)):Option (((List Int)×Int)⊕(List Int)):=
 match s_ with
 |(x463,x464)=>
 (if(decide (x464<(a0.Done.length:Int)))=true then(grd (0≤x464∧x464<a0.Done.length) ((f_wire_Int x463 ((rd a0.Done x464).Client)).bind fun r475=>((f_wire_Int r475 ((rd a0.Done x464).Serial)).bind fun r480=>((f_wire_Int r480 ((rd a0.Done x464).Code)).bind fun r485=>(some (Sum.inl (r485,IntKind.i64.wrap (x464+(1:Int)))))))))else(some (Sum.inr x463)))
noncomputable def f_dump_Put (a0:T_api_Image):Option ((List Int)×GErr):=
 ((f_dump_Check a0).bind fun r22=>(if(!r22.isNil)=true then(some ([],r22))else((f_wire_Int [] a0.Last).bind fun r30=>((f_wire_Int r30 (a0.Brokers.length:Int)).bind fun r35=>((((iter (f_dump_Put_l0 a0) (r35,(0:Int))).bind (fun(x45:(List Int))=>(some x45))):Option (List Int)).bind fun x40=>((f_wire_Int x40 (a0.Topics.length:Int)).bind fun r127=>((((iter (f_dump_Put_l1 a0) (r127,(0:Int))).bind (fun(x137:(List Int))=>(some x137))):Option (List Int)).bind fun x132=>((f_wire_Int x132 (a0.Configs.length:Int)).bind fun r237=>((((iter (f_dump_Put_l3 a0) (r237,(0:Int))).bind (fun(x247:(List Int))=>(some x247))):Option (List Int)).bind fun x242=>((f_wire_Int x242 (a0.Done.length:Int)).bind fun r455=>((((iter (f_dump_Put_l4 a0) (r455,(0:Int))).bind (fun(x465:(List Int))=>(some x465))):Option (List Int)).bind fun x460=>(some (x460,GErr.nil)))))))))))))
def f_dump_Put_post (a0:T_api_Image) (v0_0 v0_1 v0_2 v0_3:Value):((List Int)×GErr)→Value→IM→HL→Prop:=
 fun(p_:((List Int)×GErr)) (v:Value) (M':IM) (H':HL)=>match p_ with |(r0,r1)=>∃ vz0 cz0,(.tuple #[vz0,(GV r1)])=v∧H'=[cz0]∧OwnS (Kd.int .u8) M' vz0 r0 cz0
theorem f_dump_Put_ok (a0:T_api_Image) (M:IM) (v0_0 v0_1 v0_2 v0_3:Value) (h0_0:RS kd_api_Broker M v0_0 a0.Brokers) (h0_1:RS kd_api_Topic M v0_1 a0.Topics) (h0_2:RS kd_api_Config M v0_2 a0.Configs) (h0_3:RS kd_api_Done M v0_3 a0.Done) (res:((List Int)×GErr)) (h:f_dump_Put a0=some res):
 Tri Tryz.prog 8 #[(a29_ a0 v0_0 v0_1 v0_2 v0_3)] M [] (f_dump_Put_post a0 v0_0 v0_1 v0_2 v0_3 res):=by
 unfold f_dump_Put at h
 refine Te Tryz.func8 Z Z ?_
 intro F ρ hρ
 refine Sr (We (EO.box (cs:=(l29 a0 v0_0 v0_1 v0_2 v0_3).toArray) (congrArg Value.cells (asE (a29_ a0 v0_0 v0_1 v0_2 v0_3) (hρ 0)))) Z ?_)
 rintro _ _ _ - ⟨rfl,g21,rfl,rfl⟩
 refine qa Zs (qa (GV GErr.nil) (Nt (Cs (Sr (qu (a29_ a0 v0_0 v0_1 v0_2 v0_3) (La (cs:=(l29 a0 v0_0 v0_1 v0_2 v0_3)) 0 ag29 sz29 Z Z Z) ?_)))))
 obtain ⟨r22,hr23,h⟩:=bnd h
 refine We (Ca co14 (f_dump_Check_ok a0 _ _ _ _ _ h0_0 h0_1 h0_2 h0_3 r22 hr23) (args1 Z)) Z ?_
 rintro _ M24 _ hle25 ⟨_,⟨rfl,rfl⟩,rfl⟩
 refine WL.a0 (qa (GV r22) (Ns (qm (GV r22) (qu (Bv (!r22.isNil)) (PO.errNotNil Tryz.underlying33 Z) (Nt (Ch h Z (fun hb27 h=> ?_) (fun hb27 h=> ?_)))))))
 exact Sr (qm (GV r22) (qa Zs (qa (GV r22) (Nt (Cr (Tr (WQ.e0 (Qa (Dr (Rf h [[]] Z (results2 Z Z Z) hle25 ⟨Zs,[],Z,Z,(OwnS.nil _ _)⟩))))))))))
 refine Ck (Tc (Cs (WC.draw [0,1,3,0,8,24,63,127] (.pure 0 (.pure 1 (.pure 3 (.pure 4 (.pure 5 (.alt 2 (.alt 6 (.pure 7 .done) .none) .none)))))) mixed (by kernel_rfl) (qt (pt g21 4) Z (Fa fo29_4 Z Z) (qt (Iv a0.Last) Z (Lb 0 pl3 Z Z Z) (qt (pt g21 0) Z (Fa fo29_0 Z Z) (qt v0_0 Z (Lb 0 pl24 Z Z Z) ?_)))))))
 have h0_0:=h0_0.mono hle25
 refine qt (Iv (a0.Brokers.length:Int)) Z (PO.lenS Tryz.underlying24 Z h0_0.len) ?_
 obtain ⟨r30,hr31,h⟩:=bnd h
 refine WT.e0 (Ta Z (Cb co15 (f_wire_Int_ok [] a0.Last _ _ _ (OwnS.nil _ _) r30 hr31) (args2 Z Z)) Z ?_ ?_)
 rintro _ M32 _ hle33 ⟨_,⟨vq34,cq34,rfl,rfl,hq34⟩,rfl⟩
 have h0_0:=h0_0.mono hle33
 refine⟨(Ss Z (PO.lenS Tryz.underlying24 Z h0_0.len) Z (Ss Z (Lb 1 pl24 Z Z Z) Z (Ss Z (Fa fo29_0 Z Z) Z (Sl Z)))), ?_⟩
 refine WT.a1 ?_
 obtain ⟨r35,hr36,h⟩:=bnd h
 refine Ta Z (Cb co15 (f_wire_Int_ok r30 (a0.Brokers.length:Int) _ _ _ hq34 r35 hr36) (args2 Z Z)) Z ?_ ?_
 rintro _ M37 _ hle38 ⟨_,⟨vq39,cq39,rfl,rfl,hq39⟩,rfl⟩
 have L38:=(hle25.trans hle33).trans hle38
 refine⟨(Sl Z), ?_⟩
 refine WT.a1 (qt vq39 Z (Ag Z) (Ti (Tc ?_)))
 obtain ⟨x40,hj41,h⟩:=bnd h
 refine Jf (fun(x40:(List Int)) ρ' M' H'=>∃ vx40 cx40,M37.le M'∧[(g21, .cells (l29 a0 v0_0 v0_1 v0_2 v0_3).toArray 29 (0,0))]::cx40::F=H'∧ρ' 1=(pt g21 0)∧ρ' 5=vx40∧OwnS (Kd.int .u8) M' vx40 x40 cx40) x40 ?_ ?_
 have h:=hj41
 refine Sr (qu (pt g21 0) (Fa fo29_0 Z Z) (qu v0_0 (Lb 1 pl24 Z Z Z) ?_))
 have h0_0:=h0_0.mono hle38
 refine qu (Iv (a0.Brokers.length:Int)) (PO.lenS Tryz.underlying24 Z h0_0.len) (qm (Iv 0) (Nt (Bk (WC.f1 ?_))))
 obtain ⟨e42,he42,hK42⟩:=bnd h
 clear h
 refine WC.loop he42 (fun(p_:((List Int)×Int)) ρ' M' H'=>match p_ with |(x43,x44)=>∃ vx43 cx43,M37.le M'∧[(g21, .cells (l29 a0 v0_0 v0_1 v0_2 v0_3).toArray 29 (0,0))]::cx43::F=H'∧ρ' 1=(pt g21 0)∧ρ' 5=vx43∧ρ' 29=v0_0∧ρ' 30=(Iv (a0.Brokers.length:Int))∧ρ' 31=(Iv x44)∧OwnS (Kd.int .u8) M' vx43 x43 cx43) ?_ ?_
 exact⟨vq39,cq39,lr,Z,Z,Z,Z,Z,Z,hq39⟩
 rintro ⟨x43,x44⟩ o42 ρ42 M42 H42 h ⟨vx43,cx43,hle42,rfl,hs42_1,hs42_5,hs42_29,hs42_30,hs42_31,hx43⟩
 unfold f_dump_Put_l0 at h
 refine Sr (qu (Bv (decide (x44<(a0.Brokers.length:Int)))) (PO.lss hs42_31 hs42_30) (Nt (Cs (Ch h Z (fun hb46 h=> ?_) (fun hb46 h=> ?_)))))
 refine Ck (Tc (Cs (Bk (Sr ?_))))
 obtain ⟨hg47,h⟩:=grd_i h
 have h0_0:=h0_0.mono hle42
 obtain ⟨p48,cs49,hat50,hrc51,hhas52⟩:=h0_0.at hg47.1 hg47.2 (by decide)
 obtain rfl:=kd_api_Broker_open hrc51
 refine qu (.pointer (some p48)) (PO.indexAddr (n:=a0.Brokers.length) Tryz.underlying24 sz59 hs42_29 hs42_31 hg47.1 hg47.2 hat50) (qu (a59_ (rd a0.Brokers x44)) (PO.loadMA (cs:=(l59 (rd a0.Brokers x44))) ag59 sz59 Z hhas52) (We (Al ze59 Z) Z ?_))
 rintro _ _ _ - ⟨rfl,g54,rfl,rfl⟩
 refine We (Sg (v:=(a59_ (rd a0.Brokers x44))) (vl:=(l59 (rd a0.Brokers x44))) (arr':=(l59 (rd a0.Brokers x44))) Z sz59 Z Z (onb Z) Z Z Z) Z ?_
 rintro _ _ _ - ⟨rfl,rfl⟩
 refine Nt ?_
 obtain ⟨x55,hj56,h⟩:=bnd h
 refine Jf (fun(x55:(List Int)) ρ' M' H'=>∃ vx55 cx55,M42.le M'∧[(g54, .cells (l59 (rd a0.Brokers x44)).toArray 59 (0,0))]::[(g21, .cells (l29 a0 v0_0 v0_1 v0_2 v0_3).toArray 29 (0,0))]::cx55::F=H'∧ρ' 1=(pt g21 0)∧ρ' 5=vx55∧ρ' 7=(pt g54 0)∧ρ' 29=v0_0∧ρ' 30=(Iv (a0.Brokers.length:Int))∧ρ' 31=(Iv x44)∧OwnS (Kd.int .u8) M' vx55 x55 cx55) x55 ?_ ?_
 have h:=hj56
 refine WC.draw [0,0,2,7,0,16,63,0,128,384,1023,2047] (.pure 0 (.pure 1 (.pure 2 (.pure 4 (.pure 5 (.pure 7 (.pure 8 (.alt 3 (.alt 6 (.alt 9 (.alt 10 (.alt 11 .done .none) .none) .none) (.alt 9 (.alt 6 (.alt 10 (.alt 11 .done .none) .none) .none) .none)) (.alt 9 (.alt 3 (.alt 6 (.alt 10 (.alt 11 .done .none) .none) .none) .none) .none))))))))) mixed (by kernel_rfl) (qt vx43 Z (Mv hs42_5) (qt (pt g54 0) Z (Fa fo59_0 Z Z) (qt (Iv ((rd a0.Brokers x44).Id)) Z (Lb 0 pl3 Z Z Z) (qt (pt g54 1) Z (Fa fo59_1 Z Z) (qt (Iv ((rd a0.Brokers x44).Epoch)) Z (Lb 0 pl3 Z Z Z) (qt (pt g54 2) Z (Fa fo59_2 Z Z) (qt (Sv ((rd a0.Brokers x44).Rack)) Z (Lb 0 pl9 Z Z Z) ?_)))))))
 have hk57:=h
 obtain ⟨r58,hr59,h⟩:=bnd h
 refine WT.f2 (Ta Z (Cb co15 (f_wire_Int_ok x43 ((rd a0.Brokers x44).Id) _ _ _ hx43 r58 hr59) (args2 Z Z)) Z ?_ ?_)
 rintro _ M60 _ hle61 ⟨_,⟨vq62,cq62,rfl,rfl,hq62⟩,rfl⟩
 refine⟨(Ss Z (Lb 1 pl9 Z Z Z) Z (Ss Z (Fa fo59_2 Z Z) Z (Ss Z (Lb 1 pl3 Z Z Z) Z (Ss Z (Fa fo59_1 Z Z) Z (Sl Z))))), ?_⟩
 refine WT.a1 ?_
 have hk63:=h
 obtain ⟨r64,hr65,h⟩:=bnd h
 refine Ta Z (Cb co15 (f_wire_Int_ok r58 ((rd a0.Brokers x44).Epoch) _ _ _ hq62 r64 hr65) (args2 Z Z)) Z ?_ ?_
 rintro _ M66 _ hle67 ⟨_,⟨vq68,cq68,rfl,rfl,hq68⟩,rfl⟩
 refine⟨(Ss Z (Lb 1 pl9 Z Z Z) Z (Ss Z (Fa fo59_2 Z Z) Z (Sl Z))), ?_⟩
 refine WT.a1 (Ta Z (EO.s2b Tryz.underlying9 Tryz.underlying31 Tryz.underlying5 Z) Z ?_ ?_)
 rintro v71 _ _ - ⟨rfl,c69,rfl,h70⟩
 refine⟨(Sk 2 Z (Ss Z (Lb 2 pl3 Z Z Z) Z (Ss Z (Fa fo59_1 Z Z) Z (Ss Z (Lb 2 pl3 Z Z Z) Z (Ss Z (Fa fo59_0 Z Z) Z (Ss Z (Mv hs42_5) Z trivial)))))), ?_⟩
 obtain ⟨r72,hr73,h⟩:=bnd h
 refine WT.f1 (WT.f1 (Ta Z (EO.call2 co16 (Tri.lend h70.excl fun w0_ H0_ hs0_=>(f_wire_Text_ok r64 (bytesOf ((rd a0.Brokers x44).Rack)) _ _ _ _ (hq68.mono (IM.le_add _ _)) (h70.rs hs0_) r72 hr73)) (args2 Z Z)) Z ?_ ?_))
 rintro _ _ _ hle75 ⟨_,⟨Ml77,Hl78,hll79,rfl,rfl,⟨vq76,cq76,rfl,rfl,hq76⟩⟩,rfl⟩
 have hq76:OwnS (Kd.int .u8) (Ml77.minus c69) vq76 r72 cq76:=hq76.any (Kd.int_flat _)
 refine⟨(Sl Z), ?_⟩
 refine WT.a2 (Ta Z ((Ag Z).eo) Z ?_ ?_)
 rintro _ _ _ - ⟨rfl,rfl,rfl⟩
 refine⟨(Sl Z), ?_⟩
 refine Ti (Dr (Qb (Qb ?_)))
 obtain rfl:=oi h
 exact Tj ⟨vq76,cq76,((hle61.trans hle67).trans hle75),Z,hs42_1,Z,Z,hs42_29,hs42_30,hs42_31,hq76⟩
 exact Tz
 exact Tz
 exact Tz
 have h:=hk63
 refine Ta Z (EO.s2b Tryz.underlying9 Tryz.underlying31 Tryz.underlying5 Z) Z ?_ ?_
 rintro v82 _ _ - ⟨rfl,c80,rfl,h81⟩
 refine⟨(Sk 2 Z (Ss Z (Lb 2 pl3 Z Z Z) Z (Ss Z (Fa fo59_1 Z Z) Z (Ss Z (Lb 2 pl3 Z Z Z) Z (Ss Z (Fa fo59_0 Z Z) Z (Ss Z (Mv hs42_5) Z trivial)))))), ?_⟩
 obtain ⟨r83,hr84,h⟩:=bnd h
 refine WT.f1 (Ta Z (Cb co15 (f_wire_Int_ok r58 ((rd a0.Brokers x44).Epoch) _ _ _ hq62 r83 hr84) (args2 Z Z)) Z ?_ ?_)
 rintro _ M85 _ hle86 ⟨_,⟨vq87,cq87,rfl,rfl,hq87⟩,rfl⟩
 refine⟨(Ss Z (Lb 2 pl9 Z Z Z) Z (Ss Z (Fa fo59_2 Z Z) Z (Sl Z))), ?_⟩
 refine WT.a1 ?_
 obtain ⟨r88,hr89,h⟩:=bnd h
 refine WT.f1 ?_
 have h81:=h81.mono hle86
 refine Ta Z (EO.call2 co16 (Tri.lend h81.excl fun w0_ H0_ hs0_=>(f_wire_Text_ok r83 (bytesOf ((rd a0.Brokers x44).Rack)) _ _ _ _ (hq87.mono (IM.le_add _ _)) (h81.rs hs0_) r88 hr89)) (args2 Z Z)) Z ?_ ?_
 rintro _ _ _ hle91 ⟨_,⟨Ml93,Hl94,hll95,rfl,rfl,⟨vq92,cq92,rfl,rfl,hq92⟩⟩,rfl⟩
 have hq92:OwnS (Kd.int .u8) (Ml93.minus c80) vq92 r88 cq92:=hq92.any (Kd.int_flat _)
 refine⟨(Sl Z), ?_⟩
 refine WT.a2 (Ta Z ((Ag Z).eo) Z ?_ ?_)
 rintro _ _ _ - ⟨rfl,rfl,rfl⟩
 refine⟨(Sl Z), ?_⟩
 refine Ti (Dr (Qb (Qb ?_)))
 obtain rfl:=oi h
 exact Tj ⟨vq92,cq92,((hle61.trans hle86).trans hle91),Z,hs42_1,Z,Z,hs42_29,hs42_30,hs42_31,hq92⟩
 exact Tz
 exact Tz
 exact Tz
 exact Tz
 have h:=hk57
 refine Ta Z (EO.s2b Tryz.underlying9 Tryz.underlying31 Tryz.underlying5 Z) Z ?_ ?_
 rintro v98 _ _ - ⟨rfl,c96,rfl,h97⟩
 refine⟨(Sk 2 Z (Ss Z (Lb 2 pl3 Z Z Z) Z (Ss Z (Fa fo59_1 Z Z) Z (Ss Z (Lb 2 pl3 Z Z Z) Z (Ss Z (Fa fo59_0 Z Z) Z (Ss Z (Mv hs42_5) Z trivial)))))), ?_⟩
 obtain ⟨r99,hr100,h⟩:=bnd h
 refine WT.f1 (Ta Z (Cb co15 (f_wire_Int_ok x43 ((rd a0.Brokers x44).Id) _ _ _ hx43 r99 hr100) (args2 Z Z)) Z ?_ ?_)
 rintro _ M101 _ hle102 ⟨_,⟨vq103,cq103,rfl,rfl,hq103⟩,rfl⟩
 refine⟨(Ss Z (Lb 2 pl9 Z Z Z) Z (Ss Z (Fa fo59_2 Z Z) Z (Ss Z (Lb 2 pl3 Z Z Z) Z (Ss Z (Fa fo59_1 Z Z) Z (Sl Z))))), ?_⟩
 refine WT.a1 ?_
 obtain ⟨r104,hr105,h⟩:=bnd h
 refine Ta Z (Cb co15 (f_wire_Int_ok r99 ((rd a0.Brokers x44).Epoch) _ _ _ hq103 r104 hr105) (args2 Z Z)) Z ?_ ?_
 rintro _ M106 _ hle107 ⟨_,⟨vq108,cq108,rfl,rfl,hq108⟩,rfl⟩
 refine⟨(Ss Z (Lb 2 pl9 Z Z Z) Z (Ss Z (Fa fo59_2 Z Z) Z (Sl Z))), ?_⟩
 refine WT.a1 ?_
 obtain ⟨r109,hr110,h⟩:=bnd h
 refine WT.f1 ?_
 have h97:=h97.mono (hle102.trans hle107)
 refine Ta Z (EO.call2 co16 (Tri.lend h97.excl fun w0_ H0_ hs0_=>(f_wire_Text_ok r104 (bytesOf ((rd a0.Brokers x44).Rack)) _ _ _ _ (hq108.mono (IM.le_add _ _)) (h97.rs hs0_) r109 hr110)) (args2 Z Z)) Z ?_ ?_
 rintro _ _ _ hle112 ⟨_,⟨Ml114,Hl115,hll116,rfl,rfl,⟨vq113,cq113,rfl,rfl,hq113⟩⟩,rfl⟩
 have hq113:OwnS (Kd.int .u8) (Ml114.minus c96) vq113 r109 cq113:=hq113.any (Kd.int_flat _)
 refine⟨(Sl Z), ?_⟩
 refine WT.a2 (Ta Z ((Ag Z).eo) Z ?_ ?_)
 rintro _ _ _ - ⟨rfl,rfl,rfl⟩
 refine⟨(Sl Z), ?_⟩
 refine Ti (Dr (Qb (Qb ?_)))
 obtain rfl:=oi h
 exact Tj ⟨vq113,cq113,((hle102.trans hle107).trans hle112),Z,hs42_1,Z,Z,hs42_29,hs42_30,hs42_31,hq113⟩
 exact Tz
 exact Tz
 exact Tz
 exact Tz
 exact Tz
 rintro ρ56 M56 H56 ⟨vx55,cx55,hle56,rfl,hs56_1,hs56_5,hs56_7,hs56_29,hs56_30,hs56_31,hx55⟩
 refine WC.draw [0,0,2,7,0,16,63,127] (.pure 0 (.pure 1 (.pure 2 (.pure 4 (.pure 5 (.alt 3 (.alt 6 (.alt 7 .done .none) .none) .none)))))) mixed (by kernel_rfl) (qt vx55 Z (Mv hs56_5) (qt (pt g54 3) Z (Fa fo59_3 hs56_7 Z) (qt (Bv ((rd a0.Brokers x44).Fenced)) Z (Lb 0 pl4 Z Z Z) (qt (pt g54 4) Z (Fa fo59_4 hs56_7 Z) (qt (Bv ((rd a0.Brokers x44).Leaving)) Z (Lb 0 pl4 Z Z Z) ?_)))))
 obtain ⟨r117,hr118,h⟩:=bnd h
 refine WT.f2 (Ta Z (Cb co17 (f_wire_Flag_ok x55 ((rd a0.Brokers x44).Fenced) _ _ _ hx55 r117 hr118) (args2 Z Z)) Z ?_ ?_)
 rintro _ M119 _ hle120 ⟨_,⟨vq121,cq121,rfl,rfl,hq121⟩,rfl⟩
 refine⟨(Ss Z (Lb 1 pl4 Z Z Z) Z (Ss Z (Fa fo59_4 hs56_7 Z) Z (Sl Z))), ?_⟩
 refine WT.a1 ?_
 obtain ⟨r122,hr123,h⟩:=bnd h
 refine Ta Z (Cb co17 (f_wire_Flag_ok r117 ((rd a0.Brokers x44).Leaving) _ _ _ hq121 r122 hr123) (args2 Z Z)) Z ?_ ?_
 rintro _ M124 _ hle125 ⟨_,⟨vq126,cq126,rfl,rfl,hq126⟩,rfl⟩
 refine⟨(Sl Z), ?_⟩
 refine WT.a1 (Ta Z ((Ag Z).eo) Z ?_ ?_)
 rintro _ _ _ - ⟨rfl,rfl,rfl⟩
 refine⟨(Sl Z), ?_⟩
 exact Ti (Bn (Tc (Cg (qu (Iv (IntKind.i64.wrap (x44+1))) (PO.add hs56_31 Z) (qm (Iv (IntKind.i64.wrap (x44+1))) (Wz (Qa (Dr (Qa (WQ.again (r122,IntKind.i64.wrap (x44+1)) (oi h).symm ⟨vq126,cq126,(((hle42.trans hle56).trans hle120).trans hle125),Z,hs56_1,Z,hs56_29,hs56_30,Z,hq126⟩))))))))))
 exact Tz
 exact Tz
 exact Tz
 refine WC.exit (WQ.thenE (WQ.leaveE x43 (oi h).symm (fun heq42=> ?_)))
 subst heq42
 have h:=hK42
 refine WQ.blockH ?_
 obtain rfl:=oi h
 exact Tj ⟨vx43,cx43,hle42,Z,hs42_1,hs42_5,hx43⟩
 rintro ρ41 M41 H41 ⟨vx40,cx40,hle41,rfl,hs41_1,hs41_5,hx40⟩
 have L41:=L38.trans hle41
 refine Sr (qM vx40 hs41_5 (qu (pt g21 1) (Fa fo29_1 hs41_1 Z) (qu v0_1 (Lb 0 pl25 Z Z Z) ?_)))
 have h0_1:=h0_1.mono L41
 refine qu (Iv (a0.Topics.length:Int)) (PO.lenS Tryz.underlying25 Z h0_1.len) ?_
 obtain ⟨r127,hr128,h⟩:=bnd h
 refine WL.f1 (We (Cb co15 (f_wire_Int_ok x40 (a0.Topics.length:Int) _ _ _ hx40 r127 hr128) (args2 Z Z)) Z ?_)
 rintro _ M129 _ hle130 ⟨_,⟨vq131,cq131,rfl,rfl,hq131⟩,rfl⟩
 have L130:=L41.trans hle130
 refine WL.a1 (qa vq131 (Nt ?_))
 obtain ⟨x132,hj133,h⟩:=bnd h
 refine Jf (fun(x132:(List Int)) ρ' M' H'=>∃ vx132 cx132,M129.le M'∧[(g21, .cells (l29 a0 v0_0 v0_1 v0_2 v0_3).toArray 29 (0,0))]::cx132::F=H'∧ρ' 1=(pt g21 0)∧ρ' 5=vx132∧OwnS (Kd.int .u8) M' vx132 x132 cx132) x132 ?_ ?_
 have h:=hj133
 refine Sr (qu (pt g21 1) (Fa fo29_1 hs41_1 Z) (qu v0_1 (Lb 1 pl25 Z Z Z) ?_))
 have h0_1:=h0_1.mono hle130
 refine qu (Iv (a0.Topics.length:Int)) (PO.lenS Tryz.underlying25 Z h0_1.len) (qm (Iv 0) (Nt (Bk (WC.f1 ?_))))
 obtain ⟨e134,he134,hK134⟩:=bnd h
 clear h
 refine WC.loop he134 (fun(p_:((List Int)×Int)) ρ' M' H'=>match p_ with |(x135,x136)=>∃ vx135 cx135,M129.le M'∧[(g21, .cells (l29 a0 v0_0 v0_1 v0_2 v0_3).toArray 29 (0,0))]::cx135::F=H'∧ρ' 1=(pt g21 0)∧ρ' 5=vx135∧ρ' 60=v0_1∧ρ' 61=(Iv (a0.Topics.length:Int))∧ρ' 62=(Iv x136)∧OwnS (Kd.int .u8) M' vx135 x135 cx135) ?_ ?_
 exact⟨vq131,cq131,lr,Z,hs41_1,Z,Z,Z,Z,hq131⟩
 rintro ⟨x135,x136⟩ o134 ρ134 M134 H134 h ⟨vx135,cx135,hle134,rfl,hs134_1,hs134_5,hs134_60,hs134_61,hs134_62,hx135⟩
 unfold f_dump_Put_l1 at h
 refine Sr (qu (Bv (decide (x136<(a0.Topics.length:Int)))) (PO.lss hs134_62 hs134_61) (Nt (Cs (Ch h Z (fun hb138 h=> ?_) (fun hb138 h=> ?_)))))
 refine Ck (Tc ?_)
 obtain ⟨x139,hj140,h⟩:=bnd h
 refine Jf (fun(x139:(List Int)) ρ' M' H'=>∃ vx139 cx139,M134.le M'∧[(g21, .cells (l29 a0 v0_0 v0_1 v0_2 v0_3).toArray 29 (0,0))]::cx139::F=H'∧ρ' 1=(pt g21 0)∧ρ' 5=vx139∧ρ' 60=v0_1∧ρ' 61=(Iv (a0.Topics.length:Int))∧ρ' 62=(Iv x136)∧OwnS (Kd.int .u8) M' vx139 x139 cx139) x139 ?_ ?_
 have h:=hj140
 refine Bk (Sr ?_)
 obtain ⟨hg141,h⟩:=grd_i h
 have h0_1:=h0_1.mono hle134
 obtain ⟨p142,cs143,hat144,hrc145,hhas146⟩:=h0_1.at hg141.1 hg141.2 (by decide)
 obtain ⟨vw147_2,rfl,hw147_2⟩:=kd_api_Topic_open hrc145
 refine qu (.pointer (some p142)) (PO.indexAddr (n:=a0.Topics.length) Tryz.underlying25 sz52 hs134_60 hs134_62 hg141.1 hg141.2 hat144) (qu (a52_ (rd a0.Topics x136) vw147_2) (PO.loadMA (cs:=(l52 (rd a0.Topics x136) vw147_2)) ag52 sz52 Z hhas146) (We (Al ze52 Z) Z ?_))
 rintro _ _ _ - ⟨rfl,g148,rfl,rfl⟩
 refine We (Sg (v:=(a52_ (rd a0.Topics x136) vw147_2)) (vl:=(l52 (rd a0.Topics x136) vw147_2)) (arr':=(l52 (rd a0.Topics x136) vw147_2)) Z sz52 Z Z (onesOf (Oc Z (Oc Z (Oc (RS.one hw147_2) Oz)))) Z Z Z) Z ?_
 rintro _ _ _ - ⟨rfl,rfl⟩
 refine Nt ?_
 obtain ⟨x149,hj150,h⟩:=bnd h
 refine Jf (fun(x149:(List Int)) ρ' M' H'=>∃ vx149 cx149,M134.le M'∧[(g148, .cells (l52 (rd a0.Topics x136) vw147_2).toArray 52 (0,0))]::[(g21, .cells (l29 a0 v0_0 v0_1 v0_2 v0_3).toArray 29 (0,0))]::cx149::F=H'∧ρ' 1=(pt g21 0)∧ρ' 5=vx149∧ρ' 9=(pt g148 0)∧ρ' 60=v0_1∧ρ' 61=(Iv (a0.Topics.length:Int))∧ρ' 62=(Iv x136)∧OwnS (Kd.int .u8) M' vx149 x149 cx149) x149 ?_ ?_
 have h:=hj150
 refine WC.draw [0,0,2,7,0,16,48,127,0,256,768,2047,4095] (.pure 0 (.pure 1 (.pure 2 (.pure 4 (.pure 5 (.pure 8 (.pure 9 (.pure 10 (.alt 3 (.alt 6 (.alt 7 (.alt 11 (.alt 12 .done .none) .none) .none) .none) (.alt 6 (.alt 3 (.alt 7 (.alt 11 (.alt 12 .done .none) .none) .none) .none) .none)))))))))) mixed (by kernel_rfl) (qt vx135 Z (Mv hs134_5) (qt (pt g148 0) Z (Fa fo52_0 Z Z) (qt (Iv ((rd a0.Topics x136).Id)) Z (Lb 0 pl3 Z Z Z) (qt (pt g148 1) Z (Fa fo52_1 Z Z) (qt (Sv ((rd a0.Topics x136).Name)) Z (Lb 0 pl9 Z Z Z) (qt (pt g148 2) Z (Fa fo52_2 Z Z) (qt vw147_2 Z (Lb 0 pl50 Z Z Z) (qt (Iv (((rd a0.Topics x136).Parts).length:Int)) Z (PO.lenS Tryz.underlying50 Z hw147_2.len) ?_))))))))
 have hk151:=h
 obtain ⟨r152,hr153,h⟩:=bnd h
 refine WT.f2 (Ta Z (Cb co15 (f_wire_Int_ok x135 ((rd a0.Topics x136).Id) _ _ _ hx135 r152 hr153) (args2 Z Z)) Z ?_ ?_)
 rintro _ M154 _ hle155 ⟨_,⟨vq156,cq156,rfl,rfl,hq156⟩,rfl⟩
 have hw147_2:=hw147_2.mono hle155
 refine⟨(Ss Z (PO.lenS Tryz.underlying50 Z hw147_2.len) Z (Ss Z (Lb 1 pl50 Z Z Z) Z (Ss Z (Fa fo52_2 Z Z) Z (Ss Z (Lb 1 pl9 Z Z Z) Z (Ss Z (Fa fo52_1 Z Z) Z (Sl Z)))))), ?_⟩
 refine WT.a1 (Ta Z (EO.s2b Tryz.underlying9 Tryz.underlying31 Tryz.underlying5 Z) Z ?_ ?_)
 rintro v159 _ _ - ⟨rfl,c157,rfl,h158⟩
 refine⟨(Ss Z (PO.lenS Tryz.underlying50 Z hw147_2.len) Z (Ss Z (Lb 2 pl50 Z Z Z) Z (Ss Z (Fa fo52_2 Z Z) Z (Sk 2 Z (Ss Z (Lb 2 pl3 Z Z Z) Z (Ss Z (Fa fo52_0 Z Z) Z (Ss Z (Mv hs134_5) Z trivial))))))), ?_⟩
 obtain ⟨r160,hr161,h⟩:=bnd h
 refine WT.f1 (WT.f1 (Ta Z (EO.call2 co16 (Tri.lend h158.excl fun w0_ H0_ hs0_=>(f_wire_Text_ok r152 (bytesOf ((rd a0.Topics x136).Name)) _ _ _ _ (hq156.mono (IM.le_add _ _)) (h158.rs hs0_) r160 hr161)) (args2 Z Z)) Z ?_ ?_))
 rintro _ _ _ hle163 ⟨_,⟨Ml165,Hl166,hll167,rfl,rfl,⟨vq164,cq164,rfl,rfl,hq164⟩⟩,rfl⟩
 have hq164:OwnS (Kd.int .u8) (Ml165.minus c157) vq164 r160 cq164:=hq164.any (Kd.int_flat _)
 have hw147_2:=hw147_2.mono hle163
 refine⟨(Ss Z (PO.lenS Tryz.underlying50 Z hw147_2.len) Z (Ss Z (Lb 2 pl50 Z Z Z) Z (Ss Z (Fa fo52_2 Z Z) Z (Sl Z)))), ?_⟩
 refine WT.a2 ?_
 obtain ⟨r168,hr169,h⟩:=bnd h
 refine WT.f1 (Ta Z (Cb co15 (f_wire_Int_ok r160 (((rd a0.Topics x136).Parts).length:Int) _ _ _ hq164 r168 hr169) (args2 Z Z)) Z ?_ ?_)
 rintro _ M170 _ hle171 ⟨_,⟨vq172,cq172,rfl,rfl,hq172⟩,rfl⟩
 refine⟨(Sl Z), ?_⟩
 refine WT.a1 (Ta Z ((Ag Z).eo) Z ?_ ?_)
 rintro _ _ _ - ⟨rfl,rfl,rfl⟩
 refine⟨(Sl Z), ?_⟩
 refine Ti (Qa (Dr (Qb (Qb ?_))))
 obtain rfl:=oi h
 exact Tj ⟨vq172,cq172,((hle155.trans hle163).trans hle171),Z,hs134_1,Z,Z,hs134_60,hs134_61,hs134_62,hq172⟩
 exact Tz
 exact Tz
 exact Tz
 exact Tz
 have h:=hk151
 refine Ta Z (EO.s2b Tryz.underlying9 Tryz.underlying31 Tryz.underlying5 Z) Z ?_ ?_
 rintro v175 _ _ - ⟨rfl,c173,rfl,h174⟩
 refine⟨(Ss Z (PO.lenS Tryz.underlying50 Z hw147_2.len) Z (Ss Z (Lb 2 pl50 Z Z Z) Z (Ss Z (Fa fo52_2 Z Z) Z (Sk 2 Z (Ss Z (Lb 2 pl3 Z Z Z) Z (Ss Z (Fa fo52_0 Z Z) Z (Ss Z (Mv hs134_5) Z trivial))))))), ?_⟩
 obtain ⟨r176,hr177,h⟩:=bnd h
 refine WT.f1 (Ta Z (Cb co15 (f_wire_Int_ok x135 ((rd a0.Topics x136).Id) _ _ _ hx135 r176 hr177) (args2 Z Z)) Z ?_ ?_)
 rintro _ M178 _ hle179 ⟨_,⟨vq180,cq180,rfl,rfl,hq180⟩,rfl⟩
 have hw147_2:=hw147_2.mono hle179
 refine⟨(Ss Z (PO.lenS Tryz.underlying50 Z hw147_2.len) Z (Ss Z (Lb 2 pl50 Z Z Z) Z (Ss Z (Fa fo52_2 Z Z) Z (Ss Z (Lb 2 pl9 Z Z Z) Z (Ss Z (Fa fo52_1 Z Z) Z (Sl Z)))))), ?_⟩
 refine WT.a1 ?_
 obtain ⟨r181,hr182,h⟩:=bnd h
 refine WT.f1 ?_
 have h174:=h174.mono hle179
 refine Ta Z (EO.call2 co16 (Tri.lend h174.excl fun w0_ H0_ hs0_=>(f_wire_Text_ok r176 (bytesOf ((rd a0.Topics x136).Name)) _ _ _ _ (hq180.mono (IM.le_add _ _)) (h174.rs hs0_) r181 hr182)) (args2 Z Z)) Z ?_ ?_
 rintro _ _ _ hle184 ⟨_,⟨Ml186,Hl187,hll188,rfl,rfl,⟨vq185,cq185,rfl,rfl,hq185⟩⟩,rfl⟩
 have hq185:OwnS (Kd.int .u8) (Ml186.minus c173) vq185 r181 cq185:=hq185.any (Kd.int_flat _)
 have hw147_2:=hw147_2.mono hle184
 refine⟨(Ss Z (PO.lenS Tryz.underlying50 Z hw147_2.len) Z (Ss Z (Lb 2 pl50 Z Z Z) Z (Ss Z (Fa fo52_2 Z Z) Z (Sl Z)))), ?_⟩
 refine WT.a2 ?_
 obtain ⟨r189,hr190,h⟩:=bnd h
 refine WT.f1 (Ta Z (Cb co15 (f_wire_Int_ok r181 (((rd a0.Topics x136).Parts).length:Int) _ _ _ hq185 r189 hr190) (args2 Z Z)) Z ?_ ?_)
 rintro _ M191 _ hle192 ⟨_,⟨vq193,cq193,rfl,rfl,hq193⟩,rfl⟩
 refine⟨(Sl Z), ?_⟩
 refine WT.a1 (Ta Z ((Ag Z).eo) Z ?_ ?_)
 rintro _ _ _ - ⟨rfl,rfl,rfl⟩
 refine⟨(Sl Z), ?_⟩
 refine Ti (Qa (Dr (Qb (Qb ?_))))
 obtain rfl:=oi h
 exact Tj ⟨vq193,cq193,((hle179.trans hle184).trans hle192),Z,hs134_1,Z,Z,hs134_60,hs134_61,hs134_62,hq193⟩
 exact Tz
 exact Tz
 exact Tz
 exact Tz
 exact Tz
 rintro ρ150 M150 H150 ⟨vx149,cx149,hle150,rfl,hs150_1,hs150_5,hs150_9,hs150_60,hs150_61,hs150_62,hx149⟩
 refine Sr (qu (pt g148 2) (Fa fo52_2 hs150_9 Z) (qu vw147_2 (Lb 0 pl50 Z Z Z) ?_))
 have hw147_2:=hw147_2.mono hle150
 refine qu (Iv (((rd a0.Topics x136).Parts).length:Int)) (PO.lenS Tryz.underlying50 Z hw147_2.len) (qm (Iv 0) (Nt (Bk ?_)))
 obtain ⟨e194,he194,hK194⟩:=bnd h
 clear h
 refine WC.loop he194 (fun(p_:((List Int)×Int)) ρ' M' H'=>match p_ with |(x195,x196)=>∃ vx195 cx195,M150.le M'∧[(g148, .cells (l52 (rd a0.Topics x136) vw147_2).toArray 52 (0,0))]::[(g21, .cells (l29 a0 v0_0 v0_1 v0_2 v0_3).toArray 29 (0,0))]::cx195::F=H'∧ρ' 1=(pt g21 0)∧ρ' 5=vx195∧ρ' 60=v0_1∧ρ' 61=(Iv (a0.Topics.length:Int))∧ρ' 62=(Iv x136)∧ρ' 79=vw147_2∧ρ' 80=(Iv (((rd a0.Topics x136).Parts).length:Int))∧ρ' 81=(Iv x196)∧OwnS (Kd.int .u8) M' vx195 x195 cx195) ?_ ?_
 exact⟨vx149,cx149,lr,Z,hs150_1,hs150_5,hs150_60,hs150_61,hs150_62,Z,Z,Z,hx149⟩
 rintro ⟨x195,x196⟩ o194 ρ194 M194 H194 h ⟨vx195,cx195,hle194,rfl,hs194_1,hs194_5,hs194_60,hs194_61,hs194_62,hs194_79,hs194_80,hs194_81,hx195⟩
 unfold f_dump_Put_l2 at h
 refine Sr (qu (Bv (decide (x196<(((rd a0.Topics x136).Parts).length:Int)))) (PO.lss hs194_81 hs194_80) (Nt (Cs (Ch h Z (fun hb198 h=> ?_) (fun hb198 h=> ?_)))))
 refine Ck (Tc (Cs (Bk (Sr ?_))))
 obtain ⟨hg199,h⟩:=grd_i h
 have hw147_2:=hw147_2.mono hle194
 obtain ⟨p200,cs201,hat202,hrc203,hhas204⟩:=hw147_2.at hg199.1 hg199.2 (by decide)
 obtain ⟨vw205_0,vw205_1,vw205_4,vw205_5,rfl,hw205_0,hw205_1,hw205_4,hw205_5⟩:=kd_api_Part_open hrc203
 refine qu (.pointer (some p200)) (PO.indexAddr (n:=((rd a0.Topics x136).Parts).length) Tryz.underlying50 sz54 hs194_79 hs194_81 hg199.1 hg199.2 hat202) (qu (a54_ (rd ((rd a0.Topics x136).Parts) x196) vw205_0 vw205_1 vw205_4 vw205_5) (PO.loadMA (cs:=(l54 (rd ((rd a0.Topics x136).Parts) x196) vw205_0 vw205_1 vw205_4 vw205_5)) ag54 sz54 Z hhas204) (We (Al ze54 Z) Z ?_))
 rintro _ _ _ - ⟨rfl,g206,rfl,rfl⟩
 refine We (Sg (v:=(a54_ (rd ((rd a0.Topics x136).Parts) x196) vw205_0 vw205_1 vw205_4 vw205_5)) (vl:=(l54 (rd ((rd a0.Topics x136).Parts) x196) vw205_0 vw205_1 vw205_4 vw205_5)) (arr':=(l54 (rd ((rd a0.Topics x136).Parts) x196) vw205_0 vw205_1 vw205_4 vw205_5)) Z sz54 Z Z (onesOf (Oc (RS.one hw205_0) (Oc (RS.one hw205_1) (Oc Z (Oc Z (Oc (RS.one hw205_4) (Oc (RS.one hw205_5) Oz))))))) Z Z Z) Z ?_
 rintro _ _ _ - ⟨rfl,rfl⟩
 refine Nt (Cs (WC.draw [0,0,2,7,0,16,63,0,128,511,0,1024,4095,8191] (.pure 0 (.pure 1 (.pure 2 (.pure 4 (.pure 5 (.pure 7 (.pure 8 (.pure 10 (.pure 11 (.alt 3 (.alt 6 (.alt 9 (.alt 12 (.alt 13 .done .none) .none) .none) .none) .none)))))))))) mixed (by kernel_rfl) (qt vx195 Z (Mv hs194_5) (qt (pt g206 0) Z (Fa fo54_0 Z Z) (qt vw205_0 Z (Lb 0 pl43 Z Z Z) (qt (pt g206 1) Z (Fa fo54_1 Z Z) (qt vw205_1 Z (Lb 0 pl43 Z Z Z) (qt (pt g206 2) Z (Fa fo54_2 Z Z) (qt (Iv ((rd ((rd a0.Topics x136).Parts) x196).Leader)) Z (Lb 0 pl3 Z Z Z) (qt (pt g206 3) Z (Fa fo54_3 Z Z) (qt (Iv ((rd ((rd a0.Topics x136).Parts) x196).Epoch)) Z (Lb 0 pl3 Z Z Z) ?_)))))))))))
 obtain ⟨r207,hr208,h⟩:=bnd h
 refine WT.f3 (Ta Z (Cb co18 (f_wire_Row_ok x195 ((rd ((rd a0.Topics x136).Parts) x196).Ids) _ _ _ _ hx195 hw205_0 r207 hr208) (args2 Z Z)) Z ?_ ?_)
 rintro _ M209 _ hle210 ⟨_,⟨vq211,cq211,rfl,rfl,hq211⟩,rfl⟩
 refine⟨(Ss Z (Lb 1 pl3 Z Z Z) Z (Ss Z (Fa fo54_3 Z Z) Z (Ss Z (Lb 1 pl3 Z Z Z) Z (Ss Z (Fa fo54_2 Z Z) Z (Ss Z (Lb 1 pl43 Z Z Z) Z (Ss Z (Fa fo54_1 Z Z) Z (Sl Z))))))), ?_⟩
 refine WT.a1 ?_
 obtain ⟨r212,hr213,h⟩:=bnd h
 have hw205_1:=hw205_1.mono hle210
 refine Ta Z (Cb co18 (f_wire_Row_ok r207 ((rd ((rd a0.Topics x136).Parts) x196).Isr) _ _ _ _ hq211 hw205_1 r212 hr213) (args2 Z Z)) Z ?_ ?_
 rintro _ M214 _ hle215 ⟨_,⟨vq216,cq216,rfl,rfl,hq216⟩,rfl⟩
 refine⟨(Ss Z (Lb 1 pl3 Z Z Z) Z (Ss Z (Fa fo54_3 Z Z) Z (Ss Z (Lb 1 pl3 Z Z Z) Z (Ss Z (Fa fo54_2 Z Z) Z (Sl Z))))), ?_⟩
 refine WT.a1 ?_
 obtain ⟨r217,hr218,h⟩:=bnd h
 refine Ta Z (Cb co15 (f_wire_Int_ok r212 ((rd ((rd a0.Topics x136).Parts) x196).Leader) _ _ _ hq216 r217 hr218) (args2 Z Z)) Z ?_ ?_
 rintro _ M219 _ hle220 ⟨_,⟨vq221,cq221,rfl,rfl,hq221⟩,rfl⟩
 refine⟨(Ss Z (Lb 1 pl3 Z Z Z) Z (Ss Z (Fa fo54_3 Z Z) Z (Sl Z))), ?_⟩
 refine WT.a1 ?_
 obtain ⟨r222,hr223,h⟩:=bnd h
 refine Ta Z (Cb co15 (f_wire_Int_ok r217 ((rd ((rd a0.Topics x136).Parts) x196).Epoch) _ _ _ hq221 r222 hr223) (args2 Z Z)) Z ?_ ?_
 rintro _ M224 _ hle225 ⟨_,⟨vq226,cq226,rfl,rfl,hq226⟩,rfl⟩
 refine⟨(Sl Z), ?_⟩
 refine WT.a1 (Ta Z ((Ag Z).eo) Z ?_ ?_)
 rintro _ _ _ - ⟨rfl,rfl,rfl⟩
 refine⟨(Sl Z), ?_⟩
 refine Ti (Tc (WC.draw [0,0,2,7,0,16,63,127] (.pure 0 (.pure 1 (.pure 2 (.pure 4 (.pure 5 (.alt 3 (.alt 6 (.alt 7 .done .none) .none) .none)))))) mixed (by kernel_rfl) (qt vq226 Z (Mv Z) (qt (pt g206 4) Z (Fa fo54_4 Z Z) (qt vw205_4 Z (Lb 1 pl43 Z Z Z) (qt (pt g206 5) Z (Fa fo54_5 Z Z) (qt vw205_5 Z (Lb 1 pl43 Z Z Z) ?_)))))))
 obtain ⟨r227,hr228,h⟩:=bnd h
 have hw205_4:=hw205_4.mono (((hle210.trans hle215).trans hle220).trans hle225)
 refine Ta Z (Cb co18 (f_wire_Row_ok r222 ((rd ((rd a0.Topics x136).Parts) x196).Add) _ _ _ _ hq226 hw205_4 r227 hr228) (args2 Z Z)) Z ?_ ?_
 rintro _ M229 _ hle230 ⟨_,⟨vq231,cq231,rfl,rfl,hq231⟩,rfl⟩
 refine⟨(Ss Z (Lb 1 pl43 Z Z Z) Z (Ss Z (Fa fo54_5 Z Z) Z (Sl Z))), ?_⟩
 refine WT.a1 ?_
 obtain ⟨r232,hr233,h⟩:=bnd h
 have hw205_5:=hw205_5.mono ((((hle210.trans hle215).trans hle220).trans hle225).trans hle230)
 refine Ta Z (Cb co18 (f_wire_Row_ok r227 ((rd ((rd a0.Topics x136).Parts) x196).Drop) _ _ _ _ hq231 hw205_5 r232 hr233) (args2 Z Z)) Z ?_ ?_
 rintro _ M234 _ hle235 ⟨_,⟨vq236,cq236,rfl,rfl,hq236⟩,rfl⟩
 refine⟨(Sl Z), ?_⟩
 refine WT.a1 (Ta Z ((Ag Z).eo) Z ?_ ?_)
 rintro _ _ _ - ⟨rfl,rfl,rfl⟩
 refine⟨(Sl Z), ?_⟩
 refine Ti (Bn (Tc (Cg (qu (Iv (IntKind.i64.wrap (x196+1))) (PO.add hs194_81 Z) (qm (Iv (IntKind.i64.wrap (x196+1))) (Wz (Qa (Dr (Qb (Qb (WQ.again (r232,IntKind.i64.wrap (x196+1)) (oi h).symm ?_)))))))))))
 exact⟨vq236,cq236,((((((hle194.trans hle210).trans hle215).trans hle220).trans hle225).trans hle230).trans hle235),Z,hs194_1,Z,hs194_60,hs194_61,hs194_62,hs194_79,hs194_80,Z,hq236⟩
 exact Tz
 exact Tz
 exact Tz
 exact Tz
 exact Tz
 exact Tz
 exact Tz
 exact Tz
 refine WC.exit (WQ.thenE (WQ.leaveE x195 (oi h).symm (fun heq194=> ?_)))
 subst heq194
 have h:=hK194
 refine WQ.blockH (Bn (Dr ?_))
 obtain rfl:=oi h
 exact Tj ⟨vx195,cx195,(hle150.trans hle194),Z,hs194_1,hs194_5,hs194_60,hs194_61,hs194_62,hx195⟩
 rintro ρ140 M140 H140 ⟨vx139,cx139,hle140,rfl,hs140_1,hs140_5,hs140_60,hs140_61,hs140_62,hx139⟩
 exact Cg (qu (Iv (IntKind.i64.wrap (x136+1))) (PO.add hs140_62 Z) (qm (Iv (IntKind.i64.wrap (x136+1))) (Wz (WQ.again (x139,IntKind.i64.wrap (x136+1)) (oi h).symm ⟨vx139,cx139,(hle134.trans hle140),Z,hs140_1,hs140_5,hs140_60,hs140_61,Z,hx139⟩))))
 refine WC.exit (WQ.thenE (WQ.leaveE x135 (oi h).symm (fun heq134=> ?_)))
 subst heq134
 have h:=hK134
 refine WQ.blockH ?_
 obtain rfl:=oi h
 exact Tj ⟨vx135,cx135,hle134,Z,hs134_1,hs134_5,hx135⟩
 rintro ρ133 M133 H133 ⟨vx132,cx132,hle133,rfl,hs133_1,hs133_5,hx132⟩
 have L133:=L130.trans hle133
 refine Sr (qM vx132 hs133_5 (qu (pt g21 2) (Fa fo29_2 hs133_1 Z) (qu v0_2 (Lb 0 pl26 Z Z Z) ?_)))
 have h0_2:=h0_2.mono L133
 refine qu (Iv (a0.Configs.length:Int)) (PO.lenS Tryz.underlying26 Z h0_2.len) ?_
 obtain ⟨r237,hr238,h⟩:=bnd h
 refine WL.f1 (We (Cb co15 (f_wire_Int_ok x132 (a0.Configs.length:Int) _ _ _ hx132 r237 hr238) (args2 Z Z)) Z ?_)
 rintro _ M239 _ hle240 ⟨_,⟨vq241,cq241,rfl,rfl,hq241⟩,rfl⟩
 refine WL.a1 (qa vq241 (Nt ?_))
 obtain ⟨x242,hj243,h⟩:=bnd h
 refine Jf (fun(x242:(List Int)) ρ' M' H'=>∃ vx242 cx242,M239.le M'∧[(g21, .cells (l29 a0 v0_0 v0_1 v0_2 v0_3).toArray 29 (0,0))]::cx242::F=H'∧ρ' 1=(pt g21 0)∧ρ' 5=vx242∧OwnS (Kd.int .u8) M' vx242 x242 cx242) x242 ?_ ?_
 have h:=hj243
 refine Sr (qu (pt g21 2) (Fa fo29_2 hs133_1 Z) (qu v0_2 (Lb 1 pl26 Z Z Z) ?_))
 have h0_2:=h0_2.mono hle240
 refine qu (Iv (a0.Configs.length:Int)) (PO.lenS Tryz.underlying26 Z h0_2.len) (qm (Iv 0) (Nt (Bk (WC.f1 ?_))))
 obtain ⟨e244,he244,hK244⟩:=bnd h
 clear h
 refine WC.loop he244 (fun(p_:((List Int)×Int)) ρ' M' H'=>match p_ with |(x245,x246)=>∃ vx245 cx245,M239.le M'∧[(g21, .cells (l29 a0 v0_0 v0_1 v0_2 v0_3).toArray 29 (0,0))]::cx245::F=H'∧ρ' 1=(pt g21 0)∧ρ' 5=vx245∧ρ' 113=v0_2∧ρ' 114=(Iv (a0.Configs.length:Int))∧ρ' 115=(Iv x246)∧OwnS (Kd.int .u8) M' vx245 x245 cx245) ?_ ?_
 exact⟨vq241,cq241,lr,Z,hs133_1,Z,Z,Z,Z,hq241⟩
 rintro ⟨x245,x246⟩ o244 ρ244 M244 H244 h ⟨vx245,cx245,hle244,rfl,hs244_1,hs244_5,hs244_113,hs244_114,hs244_115,hx245⟩
 unfold f_dump_Put_l3 at h
 refine Sr (qu (Bv (decide (x246<(a0.Configs.length:Int)))) (PO.lss hs244_115 hs244_114) (Nt (Cs (Ch h Z (fun hb248 h=> ?_) (fun hb248 h=> ?_)))))
 refine Ck (Tc ?_)
 obtain ⟨x249,hj250,h⟩:=bnd h
 refine Jf (fun(x249:(List Int)) ρ' M' H'=>∃ vx249 cx249,M244.le M'∧[(g21, .cells (l29 a0 v0_0 v0_1 v0_2 v0_3).toArray 29 (0,0))]::cx249::F=H'∧ρ' 1=(pt g21 0)∧ρ' 5=vx249∧ρ' 113=v0_2∧ρ' 114=(Iv (a0.Configs.length:Int))∧ρ' 115=(Iv x246)∧OwnS (Kd.int .u8) M' vx249 x249 cx249) x249 ?_ ?_
 have h:=hj250
 refine Bk (Sr ?_)
 obtain ⟨hg251,h⟩:=grd_i h
 have h0_2:=h0_2.mono hle244
 obtain ⟨p252,cs253,hat254,hrc255,hhas256⟩:=h0_2.at hg251.1 hg251.2 (by decide)
 obtain rfl:=kd_api_Config_open hrc255
 refine qu (.pointer (some p252)) (PO.indexAddr (n:=a0.Configs.length) Tryz.underlying26 sz64 hs244_113 hs244_115 hg251.1 hg251.2 hat254) (qu (a64_ (rd a0.Configs x246)) (PO.loadMA (cs:=(l64 (rd a0.Configs x246))) ag64 sz64 Z hhas256) (We (Al ze64 Z) Z ?_))
 rintro _ _ _ - ⟨rfl,g258,rfl,rfl⟩
 refine We (Sg (v:=(a64_ (rd a0.Configs x246))) (vl:=(l64 (rd a0.Configs x246))) (arr':=(l64 (rd a0.Configs x246))) Z sz64 Z Z (onb Z) Z Z Z) Z ?_
 rintro _ _ _ - ⟨rfl,rfl⟩
 refine Nt (WC.draw [0,0,2,7,0,16,48,127,0,256,768,2047,4095] (.pure 0 (.pure 1 (.pure 2 (.pure 4 (.pure 5 (.pure 8 (.pure 9 (.alt 3 (.alt 6 (.alt 7 (.alt 10 (.alt 11 (.alt 12 .done .none) .none) .none) (.alt 10 (.alt 7 (.alt 11 (.alt 12 .done .none) .none) .none) .none)) (.alt 10 (.alt 6 (.alt 7 (.alt 11 (.alt 12 .done .none) .none) .none) .none) .none)) (.alt 6 (.alt 3 (.alt 7 (.alt 10 (.alt 11 (.alt 12 .done .none) .none) .none) (.alt 10 (.alt 7 (.alt 11 (.alt 12 .done .none) .none) .none) .none)) (.alt 10 (.alt 3 (.alt 7 (.alt 11 (.alt 12 .done .none) .none) .none) .none) .none)) (.alt 10 (.alt 3 (.alt 6 (.alt 7 (.alt 11 (.alt 12 .done .none) .none) .none) .none) (.alt 6 (.alt 3 (.alt 7 (.alt 11 (.alt 12 .done .none) .none) .none) .none) .none)) .none)))))))))) mixed (by kernel_rfl) (qt vx245 Z (Mv hs244_5) (qt (pt g258 0) Z (Fa fo64_0 Z Z) (qt (Iv ((rd a0.Configs x246).Topic)) Z (Lb 0 pl3 Z Z Z) (qt (pt g258 1) Z (Fa fo64_1 Z Z) (qt (Sv ((rd a0.Configs x246).Key)) Z (Lb 0 pl9 Z Z Z) (qt (pt g258 2) Z (Fa fo64_2 Z Z) (qt (Sv ((rd a0.Configs x246).Value)) Z (Lb 0 pl9 Z Z Z) ?_))))))))
 have hk259:=h
 obtain ⟨r260,hr261,h⟩:=bnd h
 refine WT.f2 (Ta Z (Cb co15 (f_wire_Int_ok x245 ((rd a0.Configs x246).Topic) _ _ _ hx245 r260 hr261) (args2 Z Z)) Z ?_ ?_)
 rintro _ M262 _ hle263 ⟨_,⟨vq264,cq264,rfl,rfl,hq264⟩,rfl⟩
 refine⟨(Ss Z (Lb 1 pl9 Z Z Z) Z (Ss Z (Fa fo64_2 Z Z) Z (Ss Z (Lb 1 pl9 Z Z Z) Z (Ss Z (Fa fo64_1 Z Z) Z (Sl Z))))), ?_⟩
 refine WT.a1 ?_
 have hk265:=h
 refine Ta Z (EO.s2b Tryz.underlying9 Tryz.underlying31 Tryz.underlying5 Z) Z ?_ ?_
 rintro v268 _ _ - ⟨rfl,c266,rfl,h267⟩
 refine⟨(Ss Z (Lb 2 pl9 Z Z Z) Z (Ss Z (Fa fo64_2 Z Z) Z (Sk 2 Z (Ss Z (Lb 2 pl3 Z Z Z) Z (Ss Z (Fa fo64_0 Z Z) Z (Ss Z (Mv hs244_5) Z trivial)))))), ?_⟩
 have hk269:=h
 obtain ⟨r270,hr271,h⟩:=bnd h
 refine WT.f1 (WT.f1 (Ta Z (EO.call2 co16 (Tri.lend h267.excl fun w0_ H0_ hs0_=>(f_wire_Text_ok r260 (bytesOf ((rd a0.Configs x246).Key)) _ _ _ _ (hq264.mono (IM.le_add _ _)) (h267.rs hs0_) r270 hr271)) (args2 Z Z)) Z ?_ ?_))
 rintro _ _ _ hle273 ⟨_,⟨Ml275,Hl276,hll277,rfl,rfl,⟨vq274,cq274,rfl,rfl,hq274⟩⟩,rfl⟩
 have hq274:OwnS (Kd.int .u8) (Ml275.minus c266) vq274 r270 cq274:=hq274.any (Kd.int_flat _)
 refine⟨(Ss Z (Lb 2 pl9 Z Z Z) Z (Ss Z (Fa fo64_2 Z Z) Z (Sl Z))), ?_⟩
 refine WT.a2 (Ta Z (EO.s2b Tryz.underlying9 Tryz.underlying31 Tryz.underlying5 Z) Z ?_ ?_)
 rintro v280 _ _ - ⟨rfl,c278,rfl,h279⟩
 refine⟨(Sk 2 Z (Ss Z (Lb 3 pl9 Z Z Z) Z (Ss Z (Fa fo64_1 Z Z) Z (Ss Z (Lb 3 pl3 Z Z Z) Z (Ss Z (Fa fo64_0 Z Z) Z (Ss Z (Mv hs244_5) Z trivial)))))), ?_⟩
 obtain ⟨r281,hr282,h⟩:=bnd h
 refine WT.f2 (WT.f1 (Ta Z (EO.call2 co16 (Tri.lend h279.excl fun w0_ H0_ hs0_=>(f_wire_Text_ok r270 (bytesOf ((rd a0.Configs x246).Value)) _ _ _ _ (hq274.mono (IM.le_add _ _)) (h279.rs hs0_) r281 hr282)) (args2 Z Z)) Z ?_ ?_))
 rintro _ _ _ hle284 ⟨_,⟨Ml286,Hl287,hll288,rfl,rfl,⟨vq285,cq285,rfl,rfl,hq285⟩⟩,rfl⟩
 have hq285:OwnS (Kd.int .u8) (Ml286.minus c278) vq285 r281 cq285:=hq285.any (Kd.int_flat _)
 refine⟨(Sl Z), ?_⟩
 refine WT.a2 (Ta Z ((Ag Z).eo) Z ?_ ?_)
 rintro _ _ _ - ⟨rfl,rfl,rfl⟩
 refine⟨(Sl Z), ?_⟩
 refine Ti (Bn (Dr (Qa (Dr (Qa (Dr (Qa ?_)))))))
 obtain rfl:=oi h
 exact Tj ⟨vq285,cq285,((hle263.trans hle273).trans hle284),Z,hs244_1,Z,hs244_113,hs244_114,hs244_115,hq285⟩
 exact Tz
 exact Tz
 exact Tz
 have h:=hk269
 refine Ta Z (EO.s2b Tryz.underlying9 Tryz.underlying31 Tryz.underlying5 Z) Z ?_ ?_
 rintro v291 _ _ - ⟨rfl,c289,rfl,h290⟩
 refine⟨(Sk 2 Z (Ss Z (Lb 3 pl9 Z Z Z) Z (Ss Z (Fa fo64_1 Z Z) Z (Ss Z (Lb 3 pl3 Z Z Z) Z (Ss Z (Fa fo64_0 Z Z) Z (Ss Z (Mv hs244_5) Z trivial)))))), ?_⟩
 obtain ⟨r292,hr293,h⟩:=bnd h
 refine WT.f2 (WT.f2 (Ta Z (EO.call2 co16 (Tri.lend h267.excl fun w0_ H0_ hs0_=>(f_wire_Text_ok r260 (bytesOf ((rd a0.Configs x246).Key)) _ _ _ _ (hq264.mono (IM.le_add _ _)) (h267.rs hs0_) r292 hr293)) (args2 Z Z)) Z ?_ ?_))
 rintro _ _ _ hle295 ⟨_,⟨Ml297,Hl298,hll299,rfl,rfl,⟨vq296,cq296,rfl,rfl,hq296⟩⟩,rfl⟩
 have hq296:OwnS (Kd.int .u8) (Ml297.minus c266) vq296 r292 cq296:=hq296.any (Kd.int_flat _)
 refine⟨(Ss Z (Lb 3 pl9 Z Z Z) Z (Ss Z (Fa fo64_2 Z Z) Z (Sl Z))), ?_⟩
 refine WT.a2 ?_
 obtain ⟨r300,hr301,h⟩:=bnd h
 refine WT.f1 (WT.f2 ?_)
 have h290:=h290.mono hle295
 refine Ta Z (EO.call2 co16 (Tri.lend h290.excl fun w0_ H0_ hs0_=>(f_wire_Text_ok r292 (bytesOf ((rd a0.Configs x246).Value)) _ _ _ _ (hq296.mono (IM.le_add _ _)) (h290.rs hs0_) r300 hr301)) (args2 Z Z)) Z ?_ ?_
 rintro _ _ _ hle303 ⟨_,⟨Ml305,Hl306,hll307,rfl,rfl,⟨vq304,cq304,rfl,rfl,hq304⟩⟩,rfl⟩
 have hq304:OwnS (Kd.int .u8) (Ml305.minus c289) vq304 r300 cq304:=hq304.any (Kd.int_flat _)
 refine⟨(Sl Z), ?_⟩
 refine WT.a2 (Ta Z ((Ag Z).eo) Z ?_ ?_)
 rintro _ _ _ - ⟨rfl,rfl,rfl⟩
 refine⟨(Sl Z), ?_⟩
 refine Ti (Bn (Dr (Qa (Dr (Qa (Dr (Qa ?_)))))))
 obtain rfl:=oi h
 exact Tj ⟨vq304,cq304,((hle263.trans hle295).trans hle303),Z,hs244_1,Z,hs244_113,hs244_114,hs244_115,hq304⟩
 exact Tz
 exact Tz
 exact Tz
 exact Tz
 have h:=hk265
 refine Ta Z (EO.s2b Tryz.underlying9 Tryz.underlying31 Tryz.underlying5 Z) Z ?_ ?_
 rintro v310 _ _ - ⟨rfl,c308,rfl,h309⟩
 refine⟨(Sk 2 Z (Ss Z (Lb 2 pl9 Z Z Z) Z (Ss Z (Fa fo64_1 Z Z) Z (Ss Z (Lb 2 pl3 Z Z Z) Z (Ss Z (Fa fo64_0 Z Z) Z (Ss Z (Mv hs244_5) Z trivial)))))), ?_⟩
 refine Ta Z (EO.s2b Tryz.underlying9 Tryz.underlying31 Tryz.underlying5 Z) Z ?_ ?_
 rintro v313 _ _ - ⟨rfl,c311,rfl,h312⟩
 refine⟨(Ss Z (Lb 3 pl9 Z Z Z) Z (Ss Z (Fa fo64_2 Z Z) Z (Sk 2 Z (Ss Z (Lb 3 pl3 Z Z Z) Z (Ss Z (Fa fo64_0 Z Z) Z (Ss Z (Mv hs244_5) Z trivial)))))), ?_⟩
 obtain ⟨r314,hr315,h⟩:=bnd h
 refine WT.f2 (WT.f1 (Ta Z (EO.call2 co16 (Tri.lend h312.excl fun w0_ H0_ hs0_=>(f_wire_Text_ok r260 (bytesOf ((rd a0.Configs x246).Key)) _ _ _ _ (hq264.mono (IM.le_add _ _)) (h312.rs hs0_) r314 hr315)) (args2 Z Z)) Z ?_ ?_))
 rintro _ _ _ hle317 ⟨_,⟨Ml319,Hl320,hll321,rfl,rfl,⟨vq318,cq318,rfl,rfl,hq318⟩⟩,rfl⟩
 have hq318:OwnS (Kd.int .u8) (Ml319.minus c311) vq318 r314 cq318:=hq318.any (Kd.int_flat _)
 refine⟨(Ss Z (Lb 3 pl9 Z Z Z) Z (Ss Z (Fa fo64_2 Z Z) Z (Sl Z))), ?_⟩
 refine WT.a2 ?_
 obtain ⟨r322,hr323,h⟩:=bnd h
 refine WT.f1 (WT.f2 ?_)
 have h309:=h309.mono hle317
 refine Ta Z (EO.call2 co16 (Tri.lend h309.excl fun w0_ H0_ hs0_=>(f_wire_Text_ok r314 (bytesOf ((rd a0.Configs x246).Value)) _ _ _ _ (hq318.mono (IM.le_add _ _)) (h309.rs hs0_) r322 hr323)) (args2 Z Z)) Z ?_ ?_
 rintro _ _ _ hle325 ⟨_,⟨Ml327,Hl328,hll329,rfl,rfl,⟨vq326,cq326,rfl,rfl,hq326⟩⟩,rfl⟩
 have hq326:OwnS (Kd.int .u8) (Ml327.minus c308) vq326 r322 cq326:=hq326.any (Kd.int_flat _)
 refine⟨(Sl Z), ?_⟩
 refine WT.a2 (Ta Z ((Ag Z).eo) Z ?_ ?_)
 rintro _ _ _ - ⟨rfl,rfl,rfl⟩
 refine⟨(Sl Z), ?_⟩
 refine Ti (Bn (Dr (Qa (Dr (Qa (Dr (Qa ?_)))))))
 obtain rfl:=oi h
 exact Tj ⟨vq326,cq326,((hle263.trans hle317).trans hle325),Z,hs244_1,Z,hs244_113,hs244_114,hs244_115,hq326⟩
 exact Tz
 exact Tz
 exact Tz
 exact Tz
 exact Tz
 have h:=hk259
 have hk330:=h
 refine Ta Z (EO.s2b Tryz.underlying9 Tryz.underlying31 Tryz.underlying5 Z) Z ?_ ?_
 rintro v333 _ _ - ⟨rfl,c331,rfl,h332⟩
 refine⟨(Ss Z (Lb 2 pl9 Z Z Z) Z (Ss Z (Fa fo64_2 Z Z) Z (Sk 2 Z (Ss Z (Lb 2 pl3 Z Z Z) Z (Ss Z (Fa fo64_0 Z Z) Z (Ss Z (Mv hs244_5) Z trivial)))))), ?_⟩
 have hk334:=h
 obtain ⟨r335,hr336,h⟩:=bnd h
 refine WT.f1 (Ta Z (Cb co15 (f_wire_Int_ok x245 ((rd a0.Configs x246).Topic) _ _ _ hx245 r335 hr336) (args2 Z Z)) Z ?_ ?_)
 rintro _ M337 _ hle338 ⟨_,⟨vq339,cq339,rfl,rfl,hq339⟩,rfl⟩
 refine⟨(Ss Z (Lb 2 pl9 Z Z Z) Z (Ss Z (Fa fo64_2 Z Z) Z (Ss Z (Lb 2 pl9 Z Z Z) Z (Ss Z (Fa fo64_1 Z Z) Z (Sl Z))))), ?_⟩
 refine WT.a1 ?_
 have hk340:=h
 obtain ⟨r341,hr342,h⟩:=bnd h
 refine WT.f1 ?_
 have h332:=h332.mono hle338
 refine Ta Z (EO.call2 co16 (Tri.lend h332.excl fun w0_ H0_ hs0_=>(f_wire_Text_ok r335 (bytesOf ((rd a0.Configs x246).Key)) _ _ _ _ (hq339.mono (IM.le_add _ _)) (h332.rs hs0_) r341 hr342)) (args2 Z Z)) Z ?_ ?_
 rintro _ _ _ hle344 ⟨_,⟨Ml346,Hl347,hll348,rfl,rfl,⟨vq345,cq345,rfl,rfl,hq345⟩⟩,rfl⟩
 have hq345:OwnS (Kd.int .u8) (Ml346.minus c331) vq345 r341 cq345:=hq345.any (Kd.int_flat _)
 refine⟨(Ss Z (Lb 2 pl9 Z Z Z) Z (Ss Z (Fa fo64_2 Z Z) Z (Sl Z))), ?_⟩
 refine WT.a2 (Ta Z (EO.s2b Tryz.underlying9 Tryz.underlying31 Tryz.underlying5 Z) Z ?_ ?_)
 rintro v351 _ _ - ⟨rfl,c349,rfl,h350⟩
 refine⟨(Sk 2 Z (Ss Z (Lb 3 pl9 Z Z Z) Z (Ss Z (Fa fo64_1 Z Z) Z (Ss Z (Lb 3 pl3 Z Z Z) Z (Ss Z (Fa fo64_0 Z Z) Z (Ss Z (Mv hs244_5) Z trivial)))))), ?_⟩
 obtain ⟨r352,hr353,h⟩:=bnd h
 refine WT.f2 (WT.f1 (Ta Z (EO.call2 co16 (Tri.lend h350.excl fun w0_ H0_ hs0_=>(f_wire_Text_ok r341 (bytesOf ((rd a0.Configs x246).Value)) _ _ _ _ (hq345.mono (IM.le_add _ _)) (h350.rs hs0_) r352 hr353)) (args2 Z Z)) Z ?_ ?_))
 rintro _ _ _ hle355 ⟨_,⟨Ml357,Hl358,hll359,rfl,rfl,⟨vq356,cq356,rfl,rfl,hq356⟩⟩,rfl⟩
 have hq356:OwnS (Kd.int .u8) (Ml357.minus c349) vq356 r352 cq356:=hq356.any (Kd.int_flat _)
 refine⟨(Sl Z), ?_⟩
 refine WT.a2 (Ta Z ((Ag Z).eo) Z ?_ ?_)
 rintro _ _ _ - ⟨rfl,rfl,rfl⟩
 refine⟨(Sl Z), ?_⟩
 refine Ti (Bn (Dr (Qa (Dr (Qa (Dr (Qa ?_)))))))
 obtain rfl:=oi h
 exact Tj ⟨vq356,cq356,((hle338.trans hle344).trans hle355),Z,hs244_1,Z,hs244_113,hs244_114,hs244_115,hq356⟩
 exact Tz
 exact Tz
 exact Tz
 have h:=hk340
 refine Ta Z (EO.s2b Tryz.underlying9 Tryz.underlying31 Tryz.underlying5 Z) Z ?_ ?_
 rintro v362 _ _ - ⟨rfl,c360,rfl,h361⟩
 refine⟨(Sk 2 Z (Ss Z (Lb 3 pl9 Z Z Z) Z (Ss Z (Fa fo64_1 Z Z) Z (Ss Z (Lb 3 pl3 Z Z Z) Z (Ss Z (Fa fo64_0 Z Z) Z (Ss Z (Mv hs244_5) Z trivial)))))), ?_⟩
 obtain ⟨r363,hr364,h⟩:=bnd h
 refine WT.f2 (WT.f2 (Ta Z (EO.call2 co16 (Tri.lend h332.excl fun w0_ H0_ hs0_=>(f_wire_Text_ok r335 (bytesOf ((rd a0.Configs x246).Key)) _ _ _ _ (hq339.mono (IM.le_add _ _)) (h332.rs hs0_) r363 hr364)) (args2 Z Z)) Z ?_ ?_))
 rintro _ _ _ hle366 ⟨_,⟨Ml368,Hl369,hll370,rfl,rfl,⟨vq367,cq367,rfl,rfl,hq367⟩⟩,rfl⟩
 have hq367:OwnS (Kd.int .u8) (Ml368.minus c331) vq367 r363 cq367:=hq367.any (Kd.int_flat _)
 refine⟨(Ss Z (Lb 3 pl9 Z Z Z) Z (Ss Z (Fa fo64_2 Z Z) Z (Sl Z))), ?_⟩
 refine WT.a2 ?_
 obtain ⟨r371,hr372,h⟩:=bnd h
 refine WT.f1 (WT.f2 ?_)
 have h361:=h361.mono hle366
 refine Ta Z (EO.call2 co16 (Tri.lend h361.excl fun w0_ H0_ hs0_=>(f_wire_Text_ok r363 (bytesOf ((rd a0.Configs x246).Value)) _ _ _ _ (hq367.mono (IM.le_add _ _)) (h361.rs hs0_) r371 hr372)) (args2 Z Z)) Z ?_ ?_
 rintro _ _ _ hle374 ⟨_,⟨Ml376,Hl377,hll378,rfl,rfl,⟨vq375,cq375,rfl,rfl,hq375⟩⟩,rfl⟩
 have hq375:OwnS (Kd.int .u8) (Ml376.minus c360) vq375 r371 cq375:=hq375.any (Kd.int_flat _)
 refine⟨(Sl Z), ?_⟩
 refine WT.a2 (Ta Z ((Ag Z).eo) Z ?_ ?_)
 rintro _ _ _ - ⟨rfl,rfl,rfl⟩
 refine⟨(Sl Z), ?_⟩
 refine Ti (Bn (Dr (Qa (Dr (Qa (Dr (Qa ?_)))))))
 obtain rfl:=oi h
 exact Tj ⟨vq375,cq375,((hle338.trans hle366).trans hle374),Z,hs244_1,Z,hs244_113,hs244_114,hs244_115,hq375⟩
 exact Tz
 exact Tz
 exact Tz
 exact Tz
 have h:=hk334
 refine Ta Z (EO.s2b Tryz.underlying9 Tryz.underlying31 Tryz.underlying5 Z) Z ?_ ?_
 rintro v381 _ _ - ⟨rfl,c379,rfl,h380⟩
 refine⟨(Sk 2 Z (Ss Z (Lb 3 pl9 Z Z Z) Z (Ss Z (Fa fo64_1 Z Z) Z (Ss Z (Lb 3 pl3 Z Z Z) Z (Ss Z (Fa fo64_0 Z Z) Z (Ss Z (Mv hs244_5) Z trivial)))))), ?_⟩
 obtain ⟨r382,hr383,h⟩:=bnd h
 refine WT.f1 (Ta Z (Cb co15 (f_wire_Int_ok x245 ((rd a0.Configs x246).Topic) _ _ _ hx245 r382 hr383) (args2 Z Z)) Z ?_ ?_)
 rintro _ M384 _ hle385 ⟨_,⟨vq386,cq386,rfl,rfl,hq386⟩,rfl⟩
 refine⟨(Ss Z (Lb 3 pl9 Z Z Z) Z (Ss Z (Fa fo64_2 Z Z) Z (Ss Z (Lb 3 pl9 Z Z Z) Z (Ss Z (Fa fo64_1 Z Z) Z (Sl Z))))), ?_⟩
 refine WT.a1 ?_
 obtain ⟨r387,hr388,h⟩:=bnd h
 refine WT.f2 ?_
 have h332:=h332.mono hle385
 refine Ta Z (EO.call2 co16 (Tri.lend h332.excl fun w0_ H0_ hs0_=>(f_wire_Text_ok r382 (bytesOf ((rd a0.Configs x246).Key)) _ _ _ _ (hq386.mono (IM.le_add _ _)) (h332.rs hs0_) r387 hr388)) (args2 Z Z)) Z ?_ ?_
 rintro _ _ _ hle390 ⟨_,⟨Ml392,Hl393,hll394,rfl,rfl,⟨vq391,cq391,rfl,rfl,hq391⟩⟩,rfl⟩
 have hq391:OwnS (Kd.int .u8) (Ml392.minus c331) vq391 r387 cq391:=hq391.any (Kd.int_flat _)
 refine⟨(Ss Z (Lb 3 pl9 Z Z Z) Z (Ss Z (Fa fo64_2 Z Z) Z (Sl Z))), ?_⟩
 refine WT.a2 ?_
 obtain ⟨r395,hr396,h⟩:=bnd h
 refine WT.f1 (WT.f2 ?_)
 have h380:=h380.mono (hle385.trans hle390)
 refine Ta Z (EO.call2 co16 (Tri.lend h380.excl fun w0_ H0_ hs0_=>(f_wire_Text_ok r387 (bytesOf ((rd a0.Configs x246).Value)) _ _ _ _ (hq391.mono (IM.le_add _ _)) (h380.rs hs0_) r395 hr396)) (args2 Z Z)) Z ?_ ?_
 rintro _ _ _ hle398 ⟨_,⟨Ml400,Hl401,hll402,rfl,rfl,⟨vq399,cq399,rfl,rfl,hq399⟩⟩,rfl⟩
 have hq399:OwnS (Kd.int .u8) (Ml400.minus c379) vq399 r395 cq399:=hq399.any (Kd.int_flat _)
 refine⟨(Sl Z), ?_⟩
 refine WT.a2 (Ta Z ((Ag Z).eo) Z ?_ ?_)
 rintro _ _ _ - ⟨rfl,rfl,rfl⟩
 refine⟨(Sl Z), ?_⟩
 refine Ti (Bn (Dr (Qa (Dr (Qa (Dr (Qa ?_)))))))
 obtain rfl:=oi h
 exact Tj ⟨vq399,cq399,((hle385.trans hle390).trans hle398),Z,hs244_1,Z,hs244_113,hs244_114,hs244_115,hq399⟩
 exact Tz
 exact Tz
 exact Tz
 exact Tz
 exact Tz
 have h:=hk330
 refine Ta Z (EO.s2b Tryz.underlying9 Tryz.underlying31 Tryz.underlying5 Z) Z ?_ ?_
 rintro v405 _ _ - ⟨rfl,c403,rfl,h404⟩
 refine⟨(Sk 2 Z (Ss Z (Lb 2 pl9 Z Z Z) Z (Ss Z (Fa fo64_1 Z Z) Z (Ss Z (Lb 2 pl3 Z Z Z) Z (Ss Z (Fa fo64_0 Z Z) Z (Ss Z (Mv hs244_5) Z trivial)))))), ?_⟩
 have hk406:=h
 obtain ⟨r407,hr408,h⟩:=bnd h
 refine WT.f1 (Ta Z (Cb co15 (f_wire_Int_ok x245 ((rd a0.Configs x246).Topic) _ _ _ hx245 r407 hr408) (args2 Z Z)) Z ?_ ?_)
 rintro _ M409 _ hle410 ⟨_,⟨vq411,cq411,rfl,rfl,hq411⟩,rfl⟩
 refine⟨(Ss Z (Lb 2 pl9 Z Z Z) Z (Ss Z (Fa fo64_2 Z Z) Z (Ss Z (Lb 2 pl9 Z Z Z) Z (Ss Z (Fa fo64_1 Z Z) Z (Sl Z))))), ?_⟩
 refine WT.a1 (Ta Z (EO.s2b Tryz.underlying9 Tryz.underlying31 Tryz.underlying5 Z) Z ?_ ?_)
 rintro v414 _ _ - ⟨rfl,c412,rfl,h413⟩
 refine⟨(Ss Z (Lb 3 pl9 Z Z Z) Z (Ss Z (Fa fo64_2 Z Z) Z (Sk 2 Z (Ss Z (Lb 3 pl3 Z Z Z) Z (Ss Z (Fa fo64_0 Z Z) Z (Ss Z (Mv hs244_5) Z trivial)))))), ?_⟩
 obtain ⟨r415,hr416,h⟩:=bnd h
 refine WT.f1 (WT.f1 (Ta Z (EO.call2 co16 (Tri.lend h413.excl fun w0_ H0_ hs0_=>(f_wire_Text_ok r407 (bytesOf ((rd a0.Configs x246).Key)) _ _ _ _ (hq411.mono (IM.le_add _ _)) (h413.rs hs0_) r415 hr416)) (args2 Z Z)) Z ?_ ?_))
 rintro _ _ _ hle418 ⟨_,⟨Ml420,Hl421,hll422,rfl,rfl,⟨vq419,cq419,rfl,rfl,hq419⟩⟩,rfl⟩
 have hq419:OwnS (Kd.int .u8) (Ml420.minus c412) vq419 r415 cq419:=hq419.any (Kd.int_flat _)
 refine⟨(Ss Z (Lb 3 pl9 Z Z Z) Z (Ss Z (Fa fo64_2 Z Z) Z (Sl Z))), ?_⟩
 refine WT.a2 ?_
 obtain ⟨r423,hr424,h⟩:=bnd h
 refine WT.f1 (WT.f2 ?_)
 have h404:=h404.mono (hle410.trans hle418)
 refine Ta Z (EO.call2 co16 (Tri.lend h404.excl fun w0_ H0_ hs0_=>(f_wire_Text_ok r415 (bytesOf ((rd a0.Configs x246).Value)) _ _ _ _ (hq419.mono (IM.le_add _ _)) (h404.rs hs0_) r423 hr424)) (args2 Z Z)) Z ?_ ?_
 rintro _ _ _ hle426 ⟨_,⟨Ml428,Hl429,hll430,rfl,rfl,⟨vq427,cq427,rfl,rfl,hq427⟩⟩,rfl⟩
 have hq427:OwnS (Kd.int .u8) (Ml428.minus c403) vq427 r423 cq427:=hq427.any (Kd.int_flat _)
 refine⟨(Sl Z), ?_⟩
 refine WT.a2 (Ta Z ((Ag Z).eo) Z ?_ ?_)
 rintro _ _ _ - ⟨rfl,rfl,rfl⟩
 refine⟨(Sl Z), ?_⟩
 refine Ti (Bn (Dr (Qa (Dr (Qa (Dr (Qa ?_)))))))
 obtain rfl:=oi h
 exact Tj ⟨vq427,cq427,((hle410.trans hle418).trans hle426),Z,hs244_1,Z,hs244_113,hs244_114,hs244_115,hq427⟩
 exact Tz
 exact Tz
 exact Tz
 exact Tz
 have h:=hk406
 refine Ta Z (EO.s2b Tryz.underlying9 Tryz.underlying31 Tryz.underlying5 Z) Z ?_ ?_
 rintro v433 _ _ - ⟨rfl,c431,rfl,h432⟩
 refine⟨(Ss Z (Lb 3 pl9 Z Z Z) Z (Ss Z (Fa fo64_2 Z Z) Z (Sk 2 Z (Ss Z (Lb 3 pl3 Z Z Z) Z (Ss Z (Fa fo64_0 Z Z) Z (Ss Z (Mv hs244_5) Z trivial)))))), ?_⟩
 obtain ⟨r434,hr435,h⟩:=bnd h
 refine WT.f1 (Ta Z (Cb co15 (f_wire_Int_ok x245 ((rd a0.Configs x246).Topic) _ _ _ hx245 r434 hr435) (args2 Z Z)) Z ?_ ?_)
 rintro _ M436 _ hle437 ⟨_,⟨vq438,cq438,rfl,rfl,hq438⟩,rfl⟩
 refine⟨(Ss Z (Lb 3 pl9 Z Z Z) Z (Ss Z (Fa fo64_2 Z Z) Z (Ss Z (Lb 3 pl9 Z Z Z) Z (Ss Z (Fa fo64_1 Z Z) Z (Sl Z))))), ?_⟩
 refine WT.a1 ?_
 obtain ⟨r439,hr440,h⟩:=bnd h
 refine WT.f1 ?_
 have h432:=h432.mono hle437
 refine Ta Z (EO.call2 co16 (Tri.lend h432.excl fun w0_ H0_ hs0_=>(f_wire_Text_ok r434 (bytesOf ((rd a0.Configs x246).Key)) _ _ _ _ (hq438.mono (IM.le_add _ _)) (h432.rs hs0_) r439 hr440)) (args2 Z Z)) Z ?_ ?_
 rintro _ _ _ hle442 ⟨_,⟨Ml444,Hl445,hll446,rfl,rfl,⟨vq443,cq443,rfl,rfl,hq443⟩⟩,rfl⟩
 have hq443:OwnS (Kd.int .u8) (Ml444.minus c431) vq443 r439 cq443:=hq443.any (Kd.int_flat _)
 refine⟨(Ss Z (Lb 3 pl9 Z Z Z) Z (Ss Z (Fa fo64_2 Z Z) Z (Sl Z))), ?_⟩
 refine WT.a2 ?_
 obtain ⟨r447,hr448,h⟩:=bnd h
 refine WT.f1 (WT.f2 ?_)
 have h404:=h404.mono (hle437.trans hle442)
 refine Ta Z (EO.call2 co16 (Tri.lend h404.excl fun w0_ H0_ hs0_=>(f_wire_Text_ok r439 (bytesOf ((rd a0.Configs x246).Value)) _ _ _ _ (hq443.mono (IM.le_add _ _)) (h404.rs hs0_) r447 hr448)) (args2 Z Z)) Z ?_ ?_
 rintro _ _ _ hle450 ⟨_,⟨Ml452,Hl453,hll454,rfl,rfl,⟨vq451,cq451,rfl,rfl,hq451⟩⟩,rfl⟩
 have hq451:OwnS (Kd.int .u8) (Ml452.minus c403) vq451 r447 cq451:=hq451.any (Kd.int_flat _)
 refine⟨(Sl Z), ?_⟩
 refine WT.a2 (Ta Z ((Ag Z).eo) Z ?_ ?_)
 rintro _ _ _ - ⟨rfl,rfl,rfl⟩
 refine⟨(Sl Z), ?_⟩
 refine Ti (Bn (Dr (Qa (Dr (Qa (Dr (Qa ?_)))))))
 obtain rfl:=oi h
 exact Tj ⟨vq451,cq451,((hle437.trans hle442).trans hle450),Z,hs244_1,Z,hs244_113,hs244_114,hs244_115,hq451⟩
 exact Tz
 exact Tz
 exact Tz
 exact Tz
 exact Tz
 exact Tz
 rintro ρ250 M250 H250 ⟨vx249,cx249,hle250,rfl,hs250_1,hs250_5,hs250_113,hs250_114,hs250_115,hx249⟩
 exact Cg (qu (Iv (IntKind.i64.wrap (x246+1))) (PO.add hs250_115 Z) (qm (Iv (IntKind.i64.wrap (x246+1))) (Wz (WQ.again (x249,IntKind.i64.wrap (x246+1)) (oi h).symm ⟨vx249,cx249,(hle244.trans hle250),Z,hs250_1,hs250_5,hs250_113,hs250_114,Z,hx249⟩))))
 refine WC.exit (WQ.thenE (WQ.leaveE x245 (oi h).symm (fun heq244=> ?_)))
 subst heq244
 have h:=hK244
 refine WQ.blockH ?_
 obtain rfl:=oi h
 exact Tj ⟨vx245,cx245,hle244,Z,hs244_1,hs244_5,hx245⟩
 rintro ρ243 M243 H243 ⟨vx242,cx242,hle243,rfl,hs243_1,hs243_5,hx242⟩
 refine Sr (qM vx242 hs243_5 (qu (pt g21 3) (Fa fo29_3 hs243_1 Z) (qu v0_3 (Lb 0 pl27 Z Z Z) ?_)))
 have h0_3:=h0_3.mono ((L133.trans hle240).trans hle243)
 refine qu (Iv (a0.Done.length:Int)) (PO.lenS Tryz.underlying27 Z h0_3.len) ?_
 obtain ⟨r455,hr456,h⟩:=bnd h
 refine WL.f1 (We (Cb co15 (f_wire_Int_ok x242 (a0.Done.length:Int) _ _ _ hx242 r455 hr456) (args2 Z Z)) Z ?_)
 rintro _ M457 _ hle458 ⟨_,⟨vq459,cq459,rfl,rfl,hq459⟩,rfl⟩
 refine WL.a1 (qa vq459 (Nt ?_))
 obtain ⟨x460,hj461,h⟩:=bnd h
 refine Jf (fun(x460:(List Int)) ρ' M' H'=>∃ vx460 cx460,M457.le M'∧[(g21, .cells (l29 a0 v0_0 v0_1 v0_2 v0_3).toArray 29 (0,0))]::cx460::F=H'∧ρ' 5=vx460∧OwnS (Kd.int .u8) M' vx460 x460 cx460) x460 ?_ ?_
 have h:=hj461
 refine Sr (qu (pt g21 3) (Fa fo29_3 hs243_1 Z) (qu v0_3 (Lb 1 pl27 Z Z Z) ?_))
 have h0_3:=h0_3.mono hle458
 refine qu (Iv (a0.Done.length:Int)) (PO.lenS Tryz.underlying27 Z h0_3.len) (qm (Iv 0) (Nt (Bk (WC.f1 ?_))))
 obtain ⟨e462,he462,hK462⟩:=bnd h
 clear h
 refine WC.loop he462 (fun(p_:((List Int)×Int)) ρ' M' H'=>match p_ with |(x463,x464)=>∃ vx463 cx463,M457.le M'∧[(g21, .cells (l29 a0 v0_0 v0_1 v0_2 v0_3).toArray 29 (0,0))]::cx463::F=H'∧ρ' 5=vx463∧ρ' 138=v0_3∧ρ' 139=(Iv (a0.Done.length:Int))∧ρ' 140=(Iv x464)∧OwnS (Kd.int .u8) M' vx463 x463 cx463) ?_ ?_
 exact⟨vq459,cq459,lr,Z,Z,Z,Z,Z,hq459⟩
 rintro ⟨x463,x464⟩ o462 ρ462 M462 H462 h ⟨vx463,cx463,hle462,rfl,hs462_5,hs462_138,hs462_139,hs462_140,hx463⟩
 unfold f_dump_Put_l4 at h
 refine Sr (qu (Bv (decide (x464<(a0.Done.length:Int)))) (PO.lss hs462_140 hs462_139) (Nt (Cs (Ch h Z (fun hb466 h=> ?_) (fun hb466 h=> ?_)))))
 refine Ck (Tc (Cs (Bk (Sr ?_))))
 obtain ⟨hg467,h⟩:=grd_i h
 have h0_3:=h0_3.mono hle462
 obtain ⟨p468,cs469,hat470,hrc471,hhas472⟩:=h0_3.at hg467.1 hg467.2 (by decide)
 obtain rfl:=kd_api_Done_open hrc471
 refine qu (.pointer (some p468)) (PO.indexAddr (n:=a0.Done.length) Tryz.underlying27 sz66 hs462_138 hs462_140 hg467.1 hg467.2 hat470) (qu (a66_ (rd a0.Done x464)) (PO.loadMA (cs:=(l66 (rd a0.Done x464))) ag66 sz66 Z hhas472) (We (Al ze66 Z) Z ?_))
 rintro _ _ _ - ⟨rfl,g474,rfl,rfl⟩
 refine We (Sg (v:=(a66_ (rd a0.Done x464))) (vl:=(l66 (rd a0.Done x464))) (arr':=(l66 (rd a0.Done x464))) Z sz66 Z Z (onb Z) Z Z Z) Z ?_
 rintro _ _ _ - ⟨rfl,rfl⟩
 refine Nt (WC.draw [0,0,2,7,0,16,63,0,128,511,1023] (.pure 0 (.pure 1 (.pure 2 (.pure 4 (.pure 5 (.pure 7 (.pure 8 (.alt 3 (.alt 6 (.alt 9 (.alt 10 .done .none) .none) .none) .none)))))))) mixed (by kernel_rfl) (qt vx463 Z (Mv hs462_5) (qt (pt g474 0) Z (Fa fo66_0 Z Z) (qt (Iv ((rd a0.Done x464).Client)) Z (Lb 0 pl3 Z Z Z) (qt (pt g474 1) Z (Fa fo66_1 Z Z) (qt (Iv ((rd a0.Done x464).Serial)) Z (Lb 0 pl3 Z Z Z) (qt (pt g474 2) Z (Fa fo66_2 Z Z) (qt (Iv ((rd a0.Done x464).Code)) Z (Lb 0 pl3 Z Z Z) ?_))))))))
 obtain ⟨r475,hr476,h⟩:=bnd h
 refine WT.f2 (Ta Z (Cb co15 (f_wire_Int_ok x463 ((rd a0.Done x464).Client) _ _ _ hx463 r475 hr476) (args2 Z Z)) Z ?_ ?_)
 rintro _ M477 _ hle478 ⟨_,⟨vq479,cq479,rfl,rfl,hq479⟩,rfl⟩
 refine⟨(Ss Z (Lb 1 pl3 Z Z Z) Z (Ss Z (Fa fo66_2 Z Z) Z (Ss Z (Lb 1 pl3 Z Z Z) Z (Ss Z (Fa fo66_1 Z Z) Z (Sl Z))))), ?_⟩
 refine WT.a1 ?_
 obtain ⟨r480,hr481,h⟩:=bnd h
 refine Ta Z (Cb co15 (f_wire_Int_ok r475 ((rd a0.Done x464).Serial) _ _ _ hq479 r480 hr481) (args2 Z Z)) Z ?_ ?_
 rintro _ M482 _ hle483 ⟨_,⟨vq484,cq484,rfl,rfl,hq484⟩,rfl⟩
 refine⟨(Ss Z (Lb 1 pl3 Z Z Z) Z (Ss Z (Fa fo66_2 Z Z) Z (Sl Z))), ?_⟩
 refine WT.a1 ?_
 obtain ⟨r485,hr486,h⟩:=bnd h
 refine Ta Z (Cb co15 (f_wire_Int_ok r480 ((rd a0.Done x464).Code) _ _ _ hq484 r485 hr486) (args2 Z Z)) Z ?_ ?_
 rintro _ M487 _ hle488 ⟨_,⟨vq489,cq489,rfl,rfl,hq489⟩,rfl⟩
 refine⟨(Sl Z), ?_⟩
 refine WT.a1 (Ta Z ((Ag Z).eo) Z ?_ ?_)
 rintro _ _ _ - ⟨rfl,rfl,rfl⟩
 refine⟨(Sl Z), ?_⟩
 exact Ti (Bn (Tc (Cg (qu (Iv (IntKind.i64.wrap (x464+1))) (PO.add hs462_140 Z) (qm (Iv (IntKind.i64.wrap (x464+1))) (Wz (Qa (Dr (Qa (WQ.again (r485,IntKind.i64.wrap (x464+1)) (oi h).symm ⟨vq489,cq489,(((hle462.trans hle478).trans hle483).trans hle488),Z,Z,hs462_138,hs462_139,Z,hq489⟩))))))))))
 exact Tz
 exact Tz
 exact Tz
 exact Tz
 refine WC.exit (WQ.thenE (WQ.leaveE x463 (oi h).symm (fun heq462=> ?_)))
 subst heq462
 have h:=hK462
 refine WQ.blockH ?_
 obtain rfl:=oi h
 exact Tj ⟨vx463,cx463,hle462,Z,hs462_5,hx463⟩
 rintro ρ461 M461 H461 ⟨vx460,cx460,hle461,rfl,hs461_5,hx460⟩
 exact Sr (qM vx460 hs461_5 (qa vx460 (qa (GV GErr.nil) (Nt (Cr (Dr (Rf h [cx460] Z (results2 Z Z Z) ((((L133.trans hle240).trans hle243).trans hle458).trans hle461) ⟨vx460,cx460,Z,Z,hx460⟩)))))))
 exact Tz
 exact Tz
noncomputable def f_wire_Read (a0:(List Int)):Option T_wire_Reader:=
 (some (⟨a0,(0:Int),GErr.nil⟩:T_wire_Reader))
def f_wire_Read_post (a0:(List Int)) (v0:Value):T_wire_Reader→Value→IM→HL→Prop:=
 fun(r0:T_wire_Reader) (v:Value) (M':IM) (H':HL)=>∃ b0 vq0_0,(.pointer (some ⟨b0,0,none⟩))=v∧H'=[[(b0, .cells #[vq0_0,(.int .i64 r0.at_),(GV r0.err)] 99 (0,0))]]∧RS (Kd.int .u8) M' vq0_0 r0.b
theorem f_wire_Read_ok (a0:(List Int)) (M:IM) (v0:Value) (h0:RS (Kd.int .u8) M v0 a0) (res:T_wire_Reader) (h:f_wire_Read a0=some res):
 Tri Tryz.prog 19 #[v0] M [] (f_wire_Read_post a0 v0 res):=by
 unfold f_wire_Read at h
 refine Te Tryz.func19 Z Z ?_
 intro F ρ hρ
 refine Sr (qa (.pointer none) (Ns (qM v0 (hρ 0) (qu (.agg #[v0,(Iv 0),(GV GErr.nil)]) (Bl (cl:=[v0,(Iv 0),(GV GErr.nil)]) ze99 fp99 (Parts.cons ((congrArg Value.cells (show ev _ _=v0 from Z)).trans h0.cells) Pz) Z) (We (EO.box (cs:=#[v0,(Iv 0),(GV GErr.nil)]) (congrArg Value.cells (show ev _ _=(.agg #[v0,(Iv 0),(GV GErr.nil)]) from Z))) Z ?_)))))
 rintro _ _ _ - ⟨rfl,g21,rfl,rfl⟩
 exact qa (pt g21 0) (Nt (Cr (Rf h [[(g21, .cells #[v0,(Iv 0),(GV GErr.nil)] 99 (0,0))]] Z (Rs Z Z) lr ⟨g21,v0,Z,Z,h0⟩)))
noncomputable def f_wire_Reader_fail (a0:T_wire_Reader) (a1:ByteArray) (a2:Int) (a3:Int):Option GErr:=
 (if a0.err.isNil=true then((f_fault_New a1 a2 a3).bind fun r22=>(some r22))else(some a0.err))
def f_wire_Reader_fail_post (a0:T_wire_Reader) (a1:ByteArray) (a2:Int) (a3:Int) (v0_0:Value) (g0:Nat):GErr→Value→IM→HL→Prop:=
 fun(r0:GErr) (v:Value) (M':IM) (H':HL)=>(.tuple #[])=v∧H'=[[(g0, .cells #[v0_0,(.int .i64 a0.at_),(GV r0)] 99 (0,0))]]
theorem f_wire_Reader_fail_ok (a0:T_wire_Reader) (a1:ByteArray) (a2:Int) (a3:Int) (M:IM) (v0_0:Value) (g0:Nat) (h0_0:RS (Kd.int .u8) M v0_0 a0.b) (res:GErr) (h:f_wire_Reader_fail a0 a1 a2 a3=some res):
 Tri Tryz.prog 55 #[(pt g0 0),(Sv a1),(Iv a2),(Iv a3)] M [[(g0, .cells #[v0_0,(Iv a0.at_),(GV a0.err)] 99 (0,0))]] (f_wire_Reader_fail_post a0 a1 a2 a3 v0_0 g0 res):=by
 unfold f_wire_Reader_fail at h
 refine Te Tryz.func55 Z Z ?_
 intro F ρ hρ
 refine Sr (qM (pt g0 0) (hρ 0) (qu (pt g0 0) (Nk Z) (qu (pt g0 2) (Fa fo99_2 Z Z) (qu (GV a0.err) (Lb 0 pl33 Z Z Z) (qu (Bv a0.err.isNil) (PO.errNil Tryz.underlying33 Z) (Nt (Ch h Z (fun hb21 h=> ?_) (fun hb21 h=> ?_))))))))
 refine Cg (qM (pt g0 0) (hρ 0) (qM (Sv a1) (hρ 1) (qM (Iv a2) (hρ 2) (qM (Iv a3) (hρ 3) ?_))))
 obtain ⟨r22,hr23,h⟩:=bnd h
 refine We (Ca co52 (f_fault_New_ok a1 a2 a3 _ r22 hr23) (args3 Z Z Z)) Z ?_
 rintro _ M24 _ hle25 ⟨_,⟨rfl,rfl⟩,rfl⟩
 refine WL.a0 (qu (pt g0 0) (Nk Z) (qu (pt g0 2) (Fa fo99_2 Z Z) (We (Es (GV r22) [v0_0,(Iv a0.at_),(GV r22)] (GErr.val_cells _ _ _ _) sz33 Z Z (GErr.val_one _ _ _ _) Z Z Z) Z ?_)))
 rintro _ _ _ - ⟨rfl,rfl⟩
 exact Wz (WQ.endsF h [[(g0, .cells #[v0_0,(Iv a0.at_),(GV r22)] 99 (0,0))]] Z (results0 Z) hle25 ⟨Z,Z⟩)
 exact Ck (WQ.endsF h [[(g0, .cells #[v0_0,(Iv a0.at_),(GV a0.err)] 99 (0,0))]] Z (results0 Z) lr ⟨Z,Z⟩)

end Go.Proofs.YtpcbipcdfccnnaaGreat.G
