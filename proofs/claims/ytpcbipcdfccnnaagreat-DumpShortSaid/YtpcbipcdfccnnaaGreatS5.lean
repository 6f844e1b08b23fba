/- Go functions: what they come to, and that they do. Printed by a program of the session (gen). -/
import Derived.Test.YtpcbipcdfccnnaaGreatSF
import Derived.Test.YtpcbipcdfccnnaaGreatS1
import Derived.Test.YtpcbipcdfccnnaaGreatS2
import Derived.Test.YtpcbipcdfccnnaaGreatS4
import Derived.Test.YtpcbipcdfccnnaaGreatKShar2
import Derived.Test.YtpcbipcdfccnnaaGreatKConv
import Derived.Test.YtpcbipcdfccnnaaGreatKMap
import Derived.Test.YtpcbipcdfccnnaaGreatKShar
import Derived.Test.YtpcbipcdfccnnaaGreatKTight2
set_option linter.unusedVariables false
set_option linter.unusedSimpArgs false
set_option maxHeartbeats 8000000
set_option maxRecDepth 100000
namespace Go.Proofs.YtpcbipcdfccnnaaGreat.G
open Go Go.KK

noncomputable def f_ref15_config_l0 (a0:T_api_Image) (a1:T_api_Record) (s_:(Bool×Int×(List T_api_Config))):Option ((Bool×Int×(List T_api_Config))⊕(Bool×(List T_api_Config))):=
 match s_ with
 |(x52,x53,x54)=>
 (if(decide (x53<(a0.Configs.length:Int)))=true then(((grd (0≤x53∧x53<a0.Configs.length) (((((if(!x52)=true then(if(decide (a1.Topic<((rd a0.Configs x53).Topic)))=true then(some true)else(if(decide (((rd a0.Configs x53).Topic)=a1.Topic))=true then(some (!Op.bytesLess ((rd a0.Configs x53).Key).toList a1.Key.toList))else(some false)))else(some false)):Option Bool).bind fun x72=>(if x72=true then(grd (x54.length+[(⟨a1.Topic,a1.Key,a1.Value⟩:T_api_Config)].length≤274877906944) (some (true,x54++[(⟨a1.Topic,a1.Key,a1.Value⟩:T_api_Config)])))else(some (x52,x54)))):Option (Bool×(List T_api_Config))).bind fun(x69,x70)=>(((if(decide (((rd a0.Configs x53).Topic)≠a1.Topic))=true then(some true)else(some (!decide (((rd a0.Configs x53).Key)=a1.Key)))):Option Bool).bind fun x85=>(if x85=true then(grd (x70.length+[(rd a0.Configs x53)].length≤274877906944) (some (x69,x70++[(rd a0.Configs x53)])))else(some (x69,x70)))))):Option (Bool×(List T_api_Config))).bind fun(x58,x59)=>(some (Sum.inl (x58,IntKind.i64.wrap (x53+(1:Int)),x59))))else(some (Sum.inr (x52,x54))))
noncomputable def f_ref15_config (a0:T_api_Image) (a1:T_api_Record):Option (T_api_Image×Int):=
 ((f_ref15_Topic a0 a1.Topic).bind fun(r24,r25)=>(((if(!r25)=true then(some (decide (a1.Topic≠(0:Int))))else(some false)):Option Bool).bind fun x32=>(if x32=true then(some (a0,(8:Int)))else((f_ref15_Config a0 a1.Topic a1.Key).bind fun(r36,r37)=>(((if a1.Flag=true then(some (!r37))else(some false)):Option Bool).bind fun x43=>(if x43=true then(some (a0,(8:Int)))else((((iter (f_ref15_config_l0 a0 a1) (a1.Flag,(0:Int),[])).bind (fun(x55,x56)=>(some (x55,x56)))):Option (Bool×(List T_api_Config))).bind fun(x48,x49)=>(((if(!x48)=true then(grd (x49.length+[(⟨a1.Topic,a1.Key,a1.Value⟩:T_api_Config)].length≤274877906944) (some (x49++[(⟨a1.Topic,a1.Key,a1.Value⟩:T_api_Config)])))else(some x49)):Option (List T_api_Config)).bind fun x97=>(some ((⟨a0.Brokers,a0.Topics,x97,a0.Done,a0.Last⟩:T_api_Image),(0:Int)))))))))))
def f_ref15_config_post (a0:T_api_Image) (a1:T_api_Record) (v0_0 v0_1 v0_2 v0_3 v1_14 v1_15 v1_16 v1_17:Value):(T_api_Image×Int)→Value→IM→HL→Prop:=
 fun(p_:(T_api_Image×Int)) (v:Value) (M':IM) (H':HL)=>match p_ with |(r0,r1)=>∃ vz0_0 vz0_1 vz0_2 vz0_3,(.tuple #[(.agg #[vz0_0,vz0_1,vz0_2,vz0_3,(.int .i64 r0.Last)]),(.int .i64 r1)])=v∧H'=[]∧RS kd_api_Broker M' vz0_0 r0.Brokers∧RS kd_api_Topic M' vz0_1 r0.Topics∧RS kd_api_Config M' vz0_2 r0.Configs∧RS kd_api_Done M' vz0_3 r0.Done
theorem f_ref15_config_ok (a0:T_api_Image) (a1:T_api_Record) (M:IM) (v0_0 v0_1 v0_2 v0_3 v1_14 v1_15 v1_16 v1_17:Value) (h0_0:RS kd_api_Broker M v0_0 a0.Brokers) (h0_1:RS kd_api_Topic M v0_1 a0.Topics) (h0_2:RS kd_api_Config M v0_2 a0.Configs) (h0_3:RS kd_api_Done M v0_3 a0.Done) (h1_14:RS (Kd.int .i64) M v1_14 a1.Ids) (h1_15:RS (Kd.int .i64) M v1_15 a1.Isr) (h1_16:RS (Kd.int .i64) M v1_16 a1.Add) (h1_17:RS (Kd.int .i64) M v1_17 a1.Drop) (res:(T_api_Image×Int)) (h:f_ref15_config a0 a1=some res):
 Tri Tryz.prog 46 #[(a29_ a0 v0_0 v0_1 v0_2 v0_3),(a45_ a1 v1_14 v1_15 v1_16 v1_17)] M [] (f_ref15_config_post a0 a1 v0_0 v0_1 v0_2 v0_3 v1_14 v1_15 v1_16 v1_17 res):=by
 unfold f_ref15_config at h
 refine Te Tryz.func46 Z Z ?_
 intro F ρ hρ
 refine Sr (We (EO.box (cs:=(l29 a0 v0_0 v0_1 v0_2 v0_3).toArray) (congrArg Value.cells (asE (a29_ a0 v0_0 v0_1 v0_2 v0_3) (hρ 0)))) Z ?_)
 rintro _ _ _ - ⟨rfl,g21,rfl,rfl⟩
 refine We (EO.box (cs:=(l45 a1 v1_14 v1_15 v1_16 v1_17).toArray) (congrArg Value.cells (asE (a45_ a1 v1_14 v1_15 v1_16 v1_17) (hρ 1)))) Z ?_
 rintro _ _ _ - ⟨rfl,g22,rfl,rfl⟩
 refine We (Al ze29 Z) Z ?_
 rintro _ _ _ - ⟨rfl,g23,rfl,rfl⟩
 refine qa (Iv 0) (Nt (Cs (Sr (qu (a29_ a0 v0_0 v0_1 v0_2 v0_3) (La (cs:=(l29 a0 v0_0 v0_1 v0_2 v0_3)) 2 ag29 sz29 Z Z Z) (qu (pt g22 3) (Fa fo45_3 Z Z) (qu (Iv a1.Topic) (Lb 1 pl3 Z Z Z) ?_))))))
 obtain ⟨⟨r24,r25⟩,hr26,h⟩:=bnd h
 refine We (Ca co67 (f_ref15_Topic_ok a0 a1.Topic _ _ _ _ _ h0_0 h0_1 h0_2 h0_3 (r24,r25) hr26) (args2 Z Z)) Z ?_
 rintro _ M27 _ hle28 ⟨_,⟨vq29_2,rfl,rfl,hq29_2⟩,rfl⟩
 refine WL.a0 (qm (.tuple #[(a52_ r24 vq29_2),(Bv r25)]) (qu (a52_ r24 vq29_2) (Xt Z Z) (qu (Bv r25) (Xt Z Z) (We (Al ze52 Z) Z ?_))))
 rintro _ _ _ - ⟨rfl,g31,rfl,rfl⟩
 refine We (Sg (v:=(a52_ r24 vq29_2)) (vl:=(l52 r24 vq29_2)) (arr':=(l52 r24 vq29_2)) Z sz52 Z Z (onesOf (Oc Z (Oc Z (Oc (RS.one hq29_2) Oz)))) Z Z Z) Z ?_
 rintro _ _ _ - ⟨rfl,rfl⟩
 refine qa (Bv r25) (Nt ?_)
 obtain ⟨x32,hj33,h⟩:=bnd h
 refine Jf (fun(x32:Bool) ρ' M' H'=>M27.le M'∧[(g31, .cells (l52 r24 vq29_2).toArray 52 (0,0))]::[(g23, .cells z29_.toArray 29 (0,0))]::[(g22, .cells (l45 a1 v1_14 v1_15 v1_16 v1_17).toArray 45 (0,0))]::[(g21, .cells (l29 a0 v0_0 v0_1 v0_2 v0_3).toArray 29 (0,0))]::F=H'∧ρ' 2=(pt g21 0)∧ρ' 3=(pt g22 0)∧ρ' 4=(pt g23 0)∧ρ' 27=(Bv x32)) x32 ?_ ?_
 have h:=hj33
 refine Cg (qm (Bv r25) (qu (Bv (!r25)) (PO.not Z) (qm (Bv (!r25)) ?_)))
 rcases Bi h with⟨hb34,h⟩ |⟨hb34,h⟩
 refine qo 23 hb34 (pt g22 3) (Fa fo45_3 Z Z) (qo 23 hb34 (Iv a1.Topic) (Lb 2 pl3 Z Z Z) (qo 23 hb34 (Bv (decide (a1.Topic≠0))) (PO.neq Z Z) (qu (Bv (decide (a1.Topic≠0))) (Pt Z hb34 Z) (Wz ?_))))
 obtain rfl:=oi h
 exact Tj ⟨lr,Z,Z,Z,Z,Z⟩
 iterate 3 refine Of 23 Z Z hb34 Z ?_
 refine qu (Bv false) (Pf Z hb34 Z) (Wz ?_)
 obtain rfl:=oi h
 exact Tj ⟨lr,Z,Z,Z,Z,Z⟩
 rintro ρ33 M33 H33 ⟨hle33,rfl,hs33_2,hs33_3,hs33_4,hs33_27⟩
 have L33:=hle28.trans hle33
 refine Ch h hs33_27 (fun hb35 h=> ?_) (fun hb35 h=> ?_)
 refine Sr (qu (a29_ a0 v0_0 v0_1 v0_2 v0_3) (La (cs:=(l29 a0 v0_0 v0_1 v0_2 v0_3)) 3 ag29 sz29 hs33_2 Z Z) (WL.f1 ?_))
 have h0_0:=h0_0.mono L33
 have h0_1:=h0_1.mono L33
 have h0_2:=h0_2.mono L33
 have h0_3:=h0_3.mono L33
 refine We (Sg (v:=(a29_ a0 v0_0 v0_1 v0_2 v0_3)) (vl:=(l29 a0 v0_0 v0_1 v0_2 v0_3)) (arr':=(l29 a0 v0_0 v0_1 v0_2 v0_3)) Z sz29 hs33_4 Z (onesOf (Oc (RS.one h0_0) (Oc (RS.one h0_1) (Oc (RS.one h0_2) (Oc (RS.one h0_3) (Oc Z Oz)))))) Z Z Z) Z ?_
 rintro _ _ _ - ⟨rfl,rfl⟩
 exact qa (Iv 8) (Nt (Cr (Tr (Qa (Dr (Qa (Dr (Qa (Dr (Rd h [] (fun _ hs=>hs.drop) (resultsLN Z (RVs.cons (Rc (cs:=(l29 a0 v0_0 v0_1 v0_2 v0_3)) 0 ag29 sz29 hs33_4 Z Z) (RVs.cons (RV.tmp Z) RVs.nil))) L33 ⟨v0_0,v0_1,v0_2,v0_3,Z,Z,h0_0,h0_1,h0_2,h0_3⟩))))))))))
 refine Ck (Tc (Sr (qu (a29_ a0 v0_0 v0_1 v0_2 v0_3) (La (cs:=(l29 a0 v0_0 v0_1 v0_2 v0_3)) 3 ag29 sz29 hs33_2 Z Z) (qu (pt g22 3) (Fa fo45_3 hs33_3 Z) (qu (Iv a1.Topic) (Lb 2 pl3 Z Z Z) (qu (pt g22 11) (Fa fo45_11 hs33_3 Z) (qu (Sv a1.Key) (Lb 2 pl9 Z Z Z) ?_)))))))
 obtain ⟨⟨r36,r37⟩,hr38,h⟩:=bnd h
 have h0_0:=h0_0.mono L33
 have h0_1:=h0_1.mono L33
 have h0_2:=h0_2.mono L33
 have h0_3:=h0_3.mono L33
 refine We (Ca co71 (f_ref15_Config_ok a0 a1.Topic a1.Key _ _ _ _ _ h0_0 h0_1 h0_2 h0_3 (r36,r37) hr38) (args3 Z Z Z)) Z ?_
 rintro _ M39 _ hle40 ⟨_,⟨rfl,rfl⟩,rfl⟩
 refine WL.a0 (qm (.tuple #[(Sv r36),(Bv r37)]) (qu (Sv r36) (Xt Z Z) (qu (Bv r37) (Xt Z Z) (qa (Sv r36) (qa (Bv r37) (Nt (Cs ?_)))))))
 obtain ⟨x43,hj44,h⟩:=bnd h
 refine Jf (fun(x43:Bool) ρ' M' H'=>M39.le M'∧[(g31, .cells (l52 r24 vq29_2).toArray 52 (0,0))]::[(g23, .cells z29_.toArray 29 (0,0))]::[(g22, .cells (l45 a1 v1_14 v1_15 v1_16 v1_17).toArray 45 (0,0))]::[(g21, .cells (l29 a0 v0_0 v0_1 v0_2 v0_3).toArray 29 (0,0))]::F=H'∧ρ' 2=(pt g21 0)∧ρ' 3=(pt g22 0)∧ρ' 4=(pt g23 0)∧ρ' 43=(Bv x43)) x43 ?_ ?_
 have h:=hj44
 refine Cg (qu (pt g22 9) (Fa fo45_9 hs33_3 Z) (qu (Bv a1.Flag) (Lb 2 pl4 Z Z Z) (qm (Bv a1.Flag) ?_)))
 rcases Bi h with⟨hb45,h⟩ |⟨hb45,h⟩
 refine On 40 Z Z hb45 (qm (Bv r37) (qo 40 hb45 (Bv (!r37)) (PO.not Z) (qu (Bv (!r37)) (Pt Z hb45 Z) (Wz ?_))))
 obtain rfl:=oi h
 exact Tj ⟨lr,Z,hs33_2,hs33_3,hs33_4,Z⟩
 iterate 2 refine Of 40 Z Z hb45 Z ?_
 refine qu (Bv false) (Pf Z hb45 Z) (Wz ?_)
 obtain rfl:=oi h
 exact Tj ⟨lr,Z,hs33_2,hs33_3,hs33_4,Z⟩
 rintro ρ44 M44 H44 ⟨hle44,rfl,hs44_2,hs44_3,hs44_4,hs44_43⟩
 have L44:=hle40.trans hle44
 refine Ch h hs44_43 (fun hb46 h=> ?_) (fun hb46 h=> ?_)
 refine Sr (qu (a29_ a0 v0_0 v0_1 v0_2 v0_3) (La (cs:=(l29 a0 v0_0 v0_1 v0_2 v0_3)) 3 ag29 sz29 hs44_2 Z Z) (WL.f1 ?_))
 have h0_0:=h0_0.mono L44
 have h0_1:=h0_1.mono L44
 have h0_2:=h0_2.mono L44
 have h0_3:=h0_3.mono L44
 refine We (Sg (v:=(a29_ a0 v0_0 v0_1 v0_2 v0_3)) (vl:=(l29 a0 v0_0 v0_1 v0_2 v0_3)) (arr':=(l29 a0 v0_0 v0_1 v0_2 v0_3)) Z sz29 hs44_4 Z (onesOf (Oc (RS.one h0_0) (Oc (RS.one h0_1) (Oc (RS.one h0_2) (Oc (RS.one h0_3) (Oc Z Oz)))))) Z Z Z) Z ?_
 rintro _ _ _ - ⟨rfl,rfl⟩
 exact qa (Iv 8) (Nt (Cr (Tr (Qa (Dr (Qa (Dr (Qa (Dr (Rd h [] (fun _ hs=>hs.drop) (resultsLN Z (RVs.cons (Rc (cs:=(l29 a0 v0_0 v0_1 v0_2 v0_3)) 0 ag29 sz29 hs44_4 Z Z) (RVs.cons (RV.tmp Z) RVs.nil))) ((L33.trans hle40).trans hle44) ⟨v0_0,v0_1,v0_2,v0_3,Z,Z,h0_0,h0_1,h0_2,h0_3⟩))))))))))
 refine Ck (Tc (Sr (qu (a29_ a0 v0_0 v0_1 v0_2 v0_3) (La (cs:=(l29 a0 v0_0 v0_1 v0_2 v0_3)) 3 ag29 sz29 hs44_2 Z Z) (We (Al ze29 Z) Z ?_))))
 rintro _ _ _ - ⟨rfl,g47,rfl,rfl⟩
 have h0_0:=h0_0.mono L44
 have h0_1:=h0_1.mono L44
 have h0_2:=h0_2.mono L44
 have h0_3:=h0_3.mono L44
 refine We (Sg (v:=(a29_ a0 v0_0 v0_1 v0_2 v0_3)) (vl:=(l29 a0 v0_0 v0_1 v0_2 v0_3)) (arr':=(l29 a0 v0_0 v0_1 v0_2 v0_3)) Z sz29 Z Z (onesOf (Oc (RS.one h0_0) (Oc (RS.one h0_1) (Oc (RS.one h0_2) (Oc (RS.one h0_3) (Oc Z Oz)))))) Z Z Z) Z ?_
 rintro _ _ _ - ⟨rfl,rfl⟩
 refine Ns (qu (pt g47 2) (Fa fo29_2 Z Z) (We (Es Zs ((l29 a0 v0_0 v0_1 Zs v0_3)) Z sz26 Z Z Z Z Z Z) Z ?_))
 rintro _ _ _ - ⟨rfl,rfl⟩
 refine Ns (qu (pt g22 9) (Fa fo45_9 hs44_3 Z) (qu (Bv a1.Flag) (Lb 3 pl4 Z Z Z) (qa (Bv a1.Flag) (Nt ?_))))
 obtain ⟨j50,hj50,h⟩:=bnd h
 refine Jf (fun(p_:(Bool×(List T_api_Config))) ρ' M' H'=>match p_ with |(x48,x49)=>∃ vx49 cx49,M44.le M'∧[(g47, .cells (l29 a0 v0_0 v0_1 vx49 v0_3).toArray 29 (0,0))]::[(g31, .cells (l52 r24 vq29_2).toArray 52 (0,0))]::[(g23, .cells z29_.toArray 29 (0,0))]::[(g22, .cells (l45 a1 v1_14 v1_15 v1_16 v1_17).toArray 45 (0,0))]::[(g21, .cells (l29 a0 v0_0 v0_1 v0_2 v0_3).toArray 29 (0,0))]::cx49::F=H'∧ρ' 3=(pt g22 0)∧ρ' 4=(pt g23 0)∧ρ' 10=(pt g47 0)∧ρ' 11=(Bv x48)∧OwnS kd_api_Config M' vx49 x49 cx49) j50 ?_ ?_
 have h:=hj50
 refine Sr (qa (Iv 0) (Nt (Bk (WC.e0 (WC.f5 (WC.f5 (WC.f5 (WC.f5 (WC.f5 ?_)))))))))
 obtain ⟨e51,he51,hK51⟩:=bnd h
 clear h
 refine WC.loop he51 (fun(p_:(Bool×Int×(List T_api_Config))) ρ' M' H'=>match p_ with |(x52,x53,x54)=>∃ vx54 cx54,M44.le M'∧[(g47, .cells (l29 a0 v0_0 v0_1 vx54 v0_3).toArray 29 (0,0))]::[(g31, .cells (l52 r24 vq29_2).toArray 52 (0,0))]::[(g23, .cells z29_.toArray 29 (0,0))]::[(g22, .cells (l45 a1 v1_14 v1_15 v1_16 v1_17).toArray 45 (0,0))]::[(g21, .cells (l29 a0 v0_0 v0_1 v0_2 v0_3).toArray 29 (0,0))]::cx54::F=H'∧ρ' 2=(pt g21 0)∧ρ' 3=(pt g22 0)∧ρ' 4=(pt g23 0)∧ρ' 10=(pt g47 0)∧ρ' 11=(Bv x52)∧ρ' 12=(Iv x53)∧OwnS kd_api_Config M' vx54 x54 cx54) ?_ ?_
 exact⟨Zs,[],lr,Z,hs44_2,hs44_3,hs44_4,Z,Z,Z,(OwnS.nil _ _)⟩
 rintro ⟨x52,x53,x54⟩ o51 ρ51 M51 H51 h ⟨vx54,cx54,hle51,rfl,hs51_2,hs51_3,hs51_4,hs51_10,hs51_11,hs51_12,hx54⟩
 unfold f_ref15_config_l0 at h
 refine Cs (Sr (qM (Iv x53) hs51_12 (qu (pt g21 2) (Fa fo29_2 hs51_2 Z) (qu v0_2 (Lb 4 pl26 Z Z Z) ?_))))
 have h0_2:=h0_2.mono hle51
 refine qu (Iv (a0.Configs.length:Int)) (PO.lenS Tryz.underlying26 Z h0_2.len) (qu (Bv (decide (x53<(a0.Configs.length:Int)))) (PO.lss Z Z) (Nt (Ch h Z (fun hb57 h=> ?_) (fun hb57 h=> ?_))))
 refine Ck (Tc ?_)
 obtain ⟨j60,hj60,h⟩:=bnd h
 refine Jf (fun(p_:(Bool×(List T_api_Config))) ρ' M' H'=>match p_ with |(x58,x59)=>∃ vx59 cx59,M51.le M'∧[(g47, .cells (l29 a0 v0_0 v0_1 vx59 v0_3).toArray 29 (0,0))]::[(g31, .cells (l52 r24 vq29_2).toArray 52 (0,0))]::[(g23, .cells z29_.toArray 29 (0,0))]::[(g22, .cells (l45 a1 v1_14 v1_15 v1_16 v1_17).toArray 45 (0,0))]::[(g21, .cells (l29 a0 v0_0 v0_1 v0_2 v0_3).toArray 29 (0,0))]::cx59::F=H'∧ρ' 2=(pt g21 0)∧ρ' 3=(pt g22 0)∧ρ' 4=(pt g23 0)∧ρ' 10=(pt g47 0)∧ρ' 11=(Bv x58)∧ρ' 12=(Iv x53)∧OwnS kd_api_Config M' vx59 x59 cx59) j60 ?_ ?_
 have h:=hj60
 refine Bk (Sr (qu (pt g21 2) (Fa fo29_2 hs51_2 Z) (qu v0_2 (Lb 4 pl26 Z Z Z) (qM (Iv x53) hs51_12 ?_))))
 obtain ⟨hg61,h⟩:=grd_i h
 obtain ⟨p62,cs63,hat64,hrc65,hhas66⟩:=h0_2.at hg61.1 hg61.2 (by decide)
 obtain rfl:=kd_api_Config_open hrc65
 refine qu (.pointer (some p62)) (PO.indexAddr (n:=a0.Configs.length) Tryz.underlying26 sz64 Z Z hg61.1 hg61.2 hat64) (qu (a64_ (rd a0.Configs x53)) (PO.loadMA (cs:=(l64 (rd a0.Configs x53))) ag64 sz64 Z hhas66) (We (Al ze64 Z) Z ?_))
 rintro _ _ _ - ⟨rfl,g68,rfl,rfl⟩
 refine We (Sg (v:=(a64_ (rd a0.Configs x53))) (vl:=(l64 (rd a0.Configs x53))) (arr':=(l64 (rd a0.Configs x53))) Z sz64 Z Z (onb Z) Z Z Z) Z ?_
 rintro _ _ _ - ⟨rfl,rfl⟩
 refine Nt ?_
 obtain ⟨j71,hj71,h⟩:=bnd h
 refine Jf (fun(p_:(Bool×(List T_api_Config))) ρ' M' H'=>match p_ with |(x69,x70)=>∃ vx70 cx70,M51.le M'∧[(g68, .cells (l64 (rd a0.Configs x53)).toArray 64 (0,0))]::[(g47, .cells (l29 a0 v0_0 v0_1 vx70 v0_3).toArray 29 (0,0))]::[(g31, .cells (l52 r24 vq29_2).toArray 52 (0,0))]::[(g23, .cells z29_.toArray 29 (0,0))]::[(g22, .cells (l45 a1 v1_14 v1_15 v1_16 v1_17).toArray 45 (0,0))]::[(g21, .cells (l29 a0 v0_0 v0_1 v0_2 v0_3).toArray 29 (0,0))]::cx70::F=H'∧ρ' 2=(pt g21 0)∧ρ' 3=(pt g22 0)∧ρ' 4=(pt g23 0)∧ρ' 10=(pt g47 0)∧ρ' 11=(Bv x69)∧ρ' 12=(Iv x53)∧ρ' 13=(pt g68 0)∧OwnS kd_api_Config M' vx70 x70 cx70) j71 ?_ ?_
 have h:=hj71
 obtain ⟨x72,hj73,h⟩:=bnd h
 refine Jf (fun(x72:Bool) ρ' M' H'=>M51.le M'∧[(g68, .cells (l64 (rd a0.Configs x53)).toArray 64 (0,0))]::[(g47, .cells (l29 a0 v0_0 v0_1 vx54 v0_3).toArray 29 (0,0))]::[(g31, .cells (l52 r24 vq29_2).toArray 52 (0,0))]::[(g23, .cells z29_.toArray 29 (0,0))]::[(g22, .cells (l45 a1 v1_14 v1_15 v1_16 v1_17).toArray 45 (0,0))]::[(g21, .cells (l29 a0 v0_0 v0_1 v0_2 v0_3).toArray 29 (0,0))]::cx54::F=H'∧ρ' 2=(pt g21 0)∧ρ' 3=(pt g22 0)∧ρ' 4=(pt g23 0)∧ρ' 10=(pt g47 0)∧ρ' 11=(Bv x52)∧ρ' 12=(Iv x53)∧ρ' 13=(pt g68 0)∧ρ' 83=(Bv x72)) x72 ?_ ?_
 have h:=hj73
 refine Cg (qM (Bv x52) hs51_11 (qu (Bv (!x52)) (PO.not Z) (qm (Bv (!x52)) ?_)))
 rcases Bi h with⟨hb74,h⟩ |⟨hb74,h⟩
 refine qo 63 hb74 (pt g68 0) (Fa fo64_0 Z Z) (qo 63 hb74 (Iv ((rd a0.Configs x53).Topic)) (Lb 0 pl3 Z Z Z) (qo 63 hb74 (pt g22 3) (Fa fo45_3 hs51_3 Z) (qo 63 hb74 (Iv a1.Topic) (Lb 4 pl3 Z Z Z) (qo 63 hb74 (Bv (decide (a1.Topic<((rd a0.Configs x53).Topic)))) (PO.gtr Z Z) (On 63 Z Z hb74 (qm (Bv (decide (a1.Topic<((rd a0.Configs x53).Topic)))) ?_))))))
 rcases Bi h with⟨hb75,h⟩ |⟨hb75,h⟩
 iterate 6 refine Of 69 Z Z hb75 Z ?_
 refine WL.offU 75 Z Z Z (WL.offU 75 Z Z Z (WL.offU 75 Z Z Z (WL.offU 75 Z Z Z (WL.offU 75 Z Z Z (Of 69 Z Z hb75 Z (qo 63 hb74 (Bv true) (Pt Z hb75 Z) (qu (Bv true) (Pt Z hb74 Z) (Wz ?_))))))))
 obtain rfl:=oi h
 exact Tj ⟨lr,Z,hs51_2,hs51_3,hs51_4,hs51_10,hs51_11,hs51_12,Z,Z⟩
 refine qo 69 hb75 (pt g68 0) (Fa fo64_0 Z Z) (qo 69 hb75 (Iv ((rd a0.Configs x53).Topic)) (Lb 0 pl3 Z Z Z) (qo 69 hb75 (pt g22 3) (Fa fo45_3 hs51_3 Z) (qo 69 hb75 (Iv a1.Topic) (Lb 4 pl3 Z Z Z) (qo 69 hb75 (Bv (decide (((rd a0.Configs x53).Topic)=a1.Topic))) (PO.eql Z Z) (On 69 Z Z hb75 (qm (Bv (decide (((rd a0.Configs x53).Topic)=a1.Topic))) ?_))))))
 rcases Bi h with⟨hb76,h⟩ |⟨hb76,h⟩
 refine qo 75 hb76 (pt g68 1) (Fa fo64_1 Z Z) (qo 75 hb76 (Sv ((rd a0.Configs x53).Key)) (Lb 0 pl9 Z Z Z) (qo 75 hb76 (pt g22 11) (Fa fo45_11 hs51_3 Z) (qo 75 hb76 (Sv a1.Key) (Lb 4 pl9 Z Z Z) (qo 75 hb76 (Bv (!Op.bytesLess ((rd a0.Configs x53).Key).toList a1.Key.toList)) (PO.sgeq Z Z) (qo 69 hb75 (Bv (!Op.bytesLess ((rd a0.Configs x53).Key).toList a1.Key.toList)) (Pt Z hb76 Z) (qo 63 hb74 (Bv (!Op.bytesLess ((rd a0.Configs x53).Key).toList a1.Key.toList)) (Pf Z hb75 Z) (qu (Bv (!Op.bytesLess ((rd a0.Configs x53).Key).toList a1.Key.toList)) (Pt Z hb74 Z) (Wz ?_))))))))
 obtain rfl:=oi h
 exact Tj ⟨lr,Z,hs51_2,hs51_3,hs51_4,hs51_10,hs51_11,hs51_12,Z,Z⟩
 iterate 5 refine Of 75 Z Z hb76 Z ?_
 refine qo 69 hb75 (Bv false) (Pf Z hb76 Z) (qo 63 hb74 (Bv false) (Pf Z hb75 Z) (qu (Bv false) (Pt Z hb74 Z) (Wz ?_)))
 obtain rfl:=oi h
 exact Tj ⟨lr,Z,hs51_2,hs51_3,hs51_4,hs51_10,hs51_11,hs51_12,Z,Z⟩
 iterate 6 refine Of 63 Z Z hb74 Z ?_
 refine WL.offU 69 Z Z Z (WL.offU 69 Z Z Z (WL.offU 69 Z Z Z (WL.offU 69 Z Z Z (WL.offU 69 Z Z Z (WL.offU 69 Z Z Z (WL.offU 75 Z Z Z (WL.offU 75 Z Z Z (WL.offU 75 Z Z Z (WL.offU 75 Z Z Z (WL.offU 75 Z Z Z (WL.offU 69 Z Z Z ?_)))))))))))
 refine Of 63 Z Z hb74 Z (qu (Bv false) (Pf Z hb74 Z) (Wz ?_))
 obtain rfl:=oi h
 exact Tj ⟨lr,Z,hs51_2,hs51_3,hs51_4,hs51_10,hs51_11,hs51_12,Z,Z⟩
 rintro ρ73 M73 H73 ⟨hle73,rfl,hs73_2,hs73_3,hs73_4,hs73_10,hs73_11,hs73_12,hs73_13,hs73_83⟩
 refine Ch h hs73_83 (fun hb77 h=> ?_) (fun hb77 h=> ?_)
 refine Sr (qu (pt g47 2) (Fa fo29_2 hs73_10 Z) (qu vx54 (Lb 1 pl26 Z Z Z) (qu (pt g22 3) (Fa fo45_3 hs73_3 Z) (qu (Iv a1.Topic) (Lb 4 pl3 Z Z Z) (qu (pt g22 11) (Fa fo45_11 hs73_3 Z) (qu (Sv a1.Key) (Lb 4 pl9 Z Z Z) (qu (pt g22 12) (Fa fo45_12 hs73_3 Z) (qu (Sv a1.Value) (Lb 4 pl9 Z Z Z) (qu (.agg #[(Iv a1.Topic),(Sv a1.Key),(Sv a1.Value)]) (Bl (cl:=[(Iv a1.Topic),(Sv a1.Key),(Sv a1.Value)]) ze64 fp64 (Pc (Iv a1.Topic) Z Z (Pc (Sv a1.Key) Z Z (Pc (Sv a1.Value) Z Z Pz))) Z) (We (EO.buildSliceL (cl:=[(Iv a1.Topic),(Sv a1.Key),(Sv a1.Value)]) Tryz.underlying26 iz64 Z (Pc (.agg #[(Iv a1.Topic),(Sv a1.Key),(Sv a1.Value)]) Z Z Pz) Z) Z ?_))))))))))
 rintro _ _ _ - ⟨rfl,g78,rfl,rfl⟩
 have h80:OwnS kd_api_Config M73 (.slice (some ⟨g78,0,none⟩) 1 1) [(⟨a1.Topic,a1.Key,a1.Value⟩:T_api_Config)] [(g78, .cells #[(Iv a1.Topic),(Sv a1.Key),(Sv a1.Value)] 64 (0,0))]:=OwnS.rows (css:=[[(Iv a1.Topic),(Sv a1.Key),(Sv a1.Value)]]) (Rows.cons (kd_api_Config_mk (x:=(⟨a1.Topic,a1.Key,a1.Value⟩:T_api_Config))) Rows.nil) Z Z
 obtain ⟨hg84,h⟩:=grd_i h
 refine WL.f7 ?_
 have hx54:=hx54.mono hle73
 refine We (EO.append (dd:=kd_api_Config) (xs:=x54) (ys:=[(⟨a1.Topic,a1.Key,a1.Value⟩:T_api_Config)]) Tryz.underlying26 Tryz.underlying26 in64 Z (appB (by decide) hg84) (by decide) Z Z hx54 (h80.src 1 Z)) Z ?_
 rintro v83 _ _ - ⟨rfl,c81,rfl,h82⟩
 refine qu (pt g47 2) (Fa fo29_2 hs73_10 Z) (WL.f3 (We (Es v83 ((l29 a0 v0_0 v0_1 v83 v0_3)) h82.cells sz26 Z Z (Ow h82) Z Z Z) Z ?_))
 rintro _ _ _ - ⟨rfl,rfl⟩
 refine Nt (Cg (qa (Bv true) (Wz (Qb (Dr (Qa (WQ.f6 (WQ.f6 (WQ.f6 (WQ.f6 (WQ.f5 ?_)))))))))))
 refine WQ.f6 ?_
 obtain rfl:=oi h
 exact Tj ⟨v83,c81,hle73,Z,hs73_2,hs73_3,hs73_4,hs73_10,Z,hs73_12,hs73_13,h82⟩
 refine Ck ?_
 obtain rfl:=oi h
 refine Tj ?_
 have hx54:=hx54.mono hle73
 exact⟨vx54,cx54,hle73,Z,hs73_2,hs73_3,hs73_4,hs73_10,hs73_11,hs73_12,hs73_13,hx54⟩
 obtain ⟨x69,x70⟩:=j71
 rintro ρ71 M71 H71 ⟨vx70,cx70,hle71,rfl,hs71_2,hs71_3,hs71_4,hs71_10,hs71_11,hs71_12,hs71_13,hx70⟩
 obtain ⟨x85,hj86,h⟩:=bnd h
 refine Jf (fun(x85:Bool) ρ' M' H'=>M71.le M'∧[(g68, .cells (l64 (rd a0.Configs x53)).toArray 64 (0,0))]::[(g47, .cells (l29 a0 v0_0 v0_1 vx70 v0_3).toArray 29 (0,0))]::[(g31, .cells (l52 r24 vq29_2).toArray 52 (0,0))]::[(g23, .cells z29_.toArray 29 (0,0))]::[(g22, .cells (l45 a1 v1_14 v1_15 v1_16 v1_17).toArray 45 (0,0))]::[(g21, .cells (l29 a0 v0_0 v0_1 v0_2 v0_3).toArray 29 (0,0))]::cx70::F=H'∧ρ' 2=(pt g21 0)∧ρ' 3=(pt g22 0)∧ρ' 4=(pt g23 0)∧ρ' 10=(pt g47 0)∧ρ' 11=(Bv x69)∧ρ' 12=(Iv x53)∧ρ' 13=(pt g68 0)∧ρ' 107=(Bv x85)) x85 ?_ ?_
 have h:=hj86
 refine Cg (qu (pt g68 0) (Fa fo64_0 hs71_13 Z) (qu (Iv ((rd a0.Configs x53).Topic)) (Lb 0 pl3 Z Z Z) (qu (pt g22 3) (Fa fo45_3 hs71_3 Z) (qu (Iv a1.Topic) (Lb 4 pl3 Z Z Z) (qu (Bv (decide (((rd a0.Configs x53).Topic)≠a1.Topic))) (PO.neq Z Z) (qm (Bv (decide (((rd a0.Configs x53).Topic)≠a1.Topic))) ?_))))))
 rcases Bi h with⟨hb87,h⟩ |⟨hb87,h⟩
 iterate 5 refine Of 101 Z Z hb87 Z ?_
 refine qu (Bv true) (Pt Z hb87 Z) (Wz ?_)
 obtain rfl:=oi h
 exact Tj ⟨lr,Z,hs71_2,hs71_3,hs71_4,hs71_10,hs71_11,hs71_12,hs71_13,Z⟩
 refine qo 101 hb87 (pt g68 1) (Fa fo64_1 hs71_13 Z) (qo 101 hb87 (Sv ((rd a0.Configs x53).Key)) (Lb 0 pl9 Z Z Z) (qo 101 hb87 (pt g22 11) (Fa fo45_11 hs71_3 Z) (qo 101 hb87 (Sv a1.Key) (Lb 4 pl9 Z Z Z) (qo 101 hb87 (Bv (!decide (((rd a0.Configs x53).Key)=a1.Key))) (PO.sneq Z Z) (qu (Bv (!decide (((rd a0.Configs x53).Key)=a1.Key))) (Pf Z hb87 Z) (Wz ?_))))))
 obtain rfl:=oi h
 exact Tj ⟨lr,Z,hs71_2,hs71_3,hs71_4,hs71_10,hs71_11,hs71_12,hs71_13,Z⟩
 rintro ρ86 M86 H86 ⟨hle86,rfl,hs86_2,hs86_3,hs86_4,hs86_10,hs86_11,hs86_12,hs86_13,hs86_107⟩
 refine Ch h hs86_107 (fun hb88 h=> ?_) (fun hb88 h=> ?_)
 refine Cg (qu (pt g47 2) (Fa fo29_2 hs86_10 Z) (qu vx70 (Lb 1 pl26 Z Z Z) (qu (a64_ (rd a0.Configs x53)) (La (cs:=(l64 (rd a0.Configs x53))) 0 ag64 sz64 hs86_13 Z Z) (We (EO.buildSliceL (cl:=(l64 (rd a0.Configs x53))) Tryz.underlying26 iz64 Z (Pc (a64_ (rd a0.Configs x53)) Z Z Pz) Z) Z ?_))))
 rintro _ _ _ - ⟨rfl,g89,rfl,rfl⟩
 have h91:OwnS kd_api_Config M86 (.slice (some ⟨g89,0,none⟩) 1 1) [(rd a0.Configs x53)] [(g89, .cells (l64 (rd a0.Configs x53)).toArray 64 (0,0))]:=OwnS.rows (css:=[(l64 (rd a0.Configs x53))]) (Rows.cons (kd_api_Config_mk (x:=(rd a0.Configs x53))) Rows.nil) Z Z
 obtain ⟨hg95,h⟩:=grd_i h
 refine WL.f7 ?_
 have hx70:=hx70.mono hle86
 refine We (EO.append (dd:=kd_api_Config) (xs:=x70) (ys:=[(rd a0.Configs x53)]) Tryz.underlying26 Tryz.underlying26 in64 Z (appB (by decide) hg95) (by decide) Z Z hx70 (h91.src 1 Z)) Z ?_
 rintro v94 _ _ - ⟨rfl,c92,rfl,h93⟩
 refine qu (pt g47 2) (Fa fo29_2 hs86_10 Z) (WL.f3 (We (Es v94 ((l29 a0 v0_0 v0_1 v94 v0_3)) h93.cells sz26 Z Z (Ow h93) Z Z Z) Z ?_))
 rintro _ _ _ - ⟨rfl,rfl⟩
 refine Wz (Bn (Qb (Dr (Qb (Dr (Qa (WQ.f5 (WQ.f5 (WQ.f5 (WQ.f5 (WQ.f5 ?_)))))))))))
 obtain rfl:=oi h
 exact Tj ⟨v94,c92,(hle71.trans hle86),Z,hs86_2,hs86_3,hs86_4,hs86_10,hs86_11,hs86_12,h93⟩
 refine Ck (Bn (Dr ?_))
 obtain rfl:=oi h
 refine Tj ?_
 have hx70:=hx70.mono hle86
 exact⟨vx70,cx70,(hle71.trans hle86),Z,hs86_2,hs86_3,hs86_4,hs86_10,hs86_11,hs86_12,hx70⟩
 obtain ⟨x58,x59⟩:=j60
 rintro ρ60 M60 H60 ⟨vx59,cx59,hle60,rfl,hs60_2,hs60_3,hs60_4,hs60_10,hs60_11,hs60_12,hx59⟩
 exact Cg (qM (Iv x53) hs60_12 (qu (Iv (IntKind.i64.wrap (x53+1))) (PO.add Z Z) (qa (Iv (IntKind.i64.wrap (x53+1))) (Wz (WQ.again (x58,IntKind.i64.wrap (x53+1),x59) (oi h).symm ⟨vx59,cx59,(hle51.trans hle60),Z,hs60_2,hs60_3,hs60_4,hs60_10,hs60_11,Z,hx59⟩)))))
 refine WC.exit (WQ.thenE (WQ.leaveE (x52,x54) (oi h).symm (fun heq51=> ?_)))
 subst heq51
 have h:=hK51
 refine WQ.blockH ?_
 obtain rfl:=oi h
 exact Tj ⟨vx54,cx54,hle51,Z,hs51_3,hs51_4,hs51_10,hs51_11,hx54⟩
 obtain ⟨x48,x49⟩:=j50
 rintro ρ50 M50 H50 ⟨vx49,cx49,hle50,rfl,hs50_3,hs50_4,hs50_10,hs50_11,hx49⟩
 obtain ⟨x97,hj98,h⟩:=bnd h
 refine Jf (fun(x97:(List T_api_Config)) ρ' M' H'=>∃ vx97 cx97,M50.le M'∧[(g47, .cells (l29 a0 v0_0 v0_1 vx97 v0_3).toArray 29 (0,0))]::[(g31, .cells (l52 r24 vq29_2).toArray 52 (0,0))]::[(g23, .cells z29_.toArray 29 (0,0))]::[(g22, .cells (l45 a1 v1_14 v1_15 v1_16 v1_17).toArray 45 (0,0))]::[(g21, .cells (l29 a0 v0_0 v0_1 v0_2 v0_3).toArray 29 (0,0))]::cx97::F=H'∧ρ' 4=(pt g23 0)∧ρ' 10=(pt g47 0)∧OwnS kd_api_Config M' vx97 x97 cx97) x97 ?_ ?_
 have h:=hj98
 refine Sr (qM (Bv x48) hs50_11 (qu (Bv (!x48)) (PO.not Z) (Nt (Ch h Z (fun hb99 h=> ?_) (fun hb99 h=> ?_)))))
 refine Cg (qu (pt g47 2) (Fa fo29_2 hs50_10 Z) (qu vx49 (Lb 0 pl26 Z Z Z) (qu (pt g22 3) (Fa fo45_3 hs50_3 Z) (qu (Iv a1.Topic) (Lb 3 pl3 Z Z Z) (qu (pt g22 11) (Fa fo45_11 hs50_3 Z) (qu (Sv a1.Key) (Lb 3 pl9 Z Z Z) (qu (pt g22 12) (Fa fo45_12 hs50_3 Z) (qu (Sv a1.Value) (Lb 3 pl9 Z Z Z) (qu (.agg #[(Iv a1.Topic),(Sv a1.Key),(Sv a1.Value)]) (Bl (cl:=[(Iv a1.Topic),(Sv a1.Key),(Sv a1.Value)]) ze64 fp64 (Pc (Iv a1.Topic) Z Z (Pc (Sv a1.Key) Z Z (Pc (Sv a1.Value) Z Z Pz))) Z) (We (EO.buildSliceL (cl:=[(Iv a1.Topic),(Sv a1.Key),(Sv a1.Value)]) Tryz.underlying26 iz64 Z (Pc (.agg #[(Iv a1.Topic),(Sv a1.Key),(Sv a1.Value)]) Z Z Pz) Z) Z ?_))))))))))
 rintro _ _ _ - ⟨rfl,g100,rfl,rfl⟩
 have h102:OwnS kd_api_Config M50 (.slice (some ⟨g100,0,none⟩) 1 1) [(⟨a1.Topic,a1.Key,a1.Value⟩:T_api_Config)] [(g100, .cells #[(Iv a1.Topic),(Sv a1.Key),(Sv a1.Value)] 64 (0,0))]:=OwnS.rows (css:=[[(Iv a1.Topic),(Sv a1.Key),(Sv a1.Value)]]) (Rows.cons (kd_api_Config_mk (x:=(⟨a1.Topic,a1.Key,a1.Value⟩:T_api_Config))) Rows.nil) Z Z
 obtain ⟨hg106,h⟩:=grd_i h
 refine WL.f6 (We (EO.append (dd:=kd_api_Config) (xs:=x49) (ys:=[(⟨a1.Topic,a1.Key,a1.Value⟩:T_api_Config)]) Tryz.underlying26 Tryz.underlying26 in64 Z (appB (by decide) hg106) (by decide) Z Z hx49 (h102.src 1 Z)) Z ?_)
 rintro v105 _ _ - ⟨rfl,c103,rfl,h104⟩
 refine qu (pt g47 2) (Fa fo29_2 hs50_10 Z) (Wb (We (Es v105 ((l29 a0 v0_0 v0_1 v105 v0_3)) h104.cells sz26 Z Z (Ow h104) Z Z Z) Z ?_))
 rintro _ _ _ - ⟨rfl,rfl⟩
 refine Wz (Qb (Dr (Qa (WQ.f5 (WQ.f5 (WQ.f5 (WQ.f5 (WQ.f5 ?_))))))))
 obtain rfl:=oi h
 exact Tj ⟨v105,c103,lr,Z,hs50_4,hs50_10,h104⟩
 refine Ck ?_
 obtain rfl:=oi h
 exact Tj ⟨vx49,cx49,lr,Z,hs50_4,hs50_10,hx49⟩
 rintro ρ98 M98 H98 ⟨vx97,cx97,hle98,rfl,hs98_4,hs98_10,hx97⟩
 refine Sr (qu (a29_ a0 v0_0 v0_1 vx97 v0_3) (La (cs:=(l29 a0 v0_0 v0_1 vx97 v0_3)) 0 ag29 sz29 hs98_10 Z Z) (Wb ?_))
 have h0_0:=h0_0.mono (hle50.trans hle98)
 have h0_1:=h0_1.mono (hle50.trans hle98)
 have h0_3:=h0_3.mono (hle50.trans hle98)
 refine We (Sg (v:=(a29_ a0 v0_0 v0_1 vx97 v0_3)) (vl:=(l29 a0 v0_0 v0_1 vx97 v0_3)) (arr':=(l29 a0 v0_0 v0_1 vx97 v0_3)) Z sz29 hs98_4 Z (onesOf (Oc (RS.one h0_0) (Oc (RS.one h0_1) (Oc (Ow hx97) (Oc (RS.one h0_3) (Oc Z Oz)))))) Z Z Z) Z ?_
 rintro _ _ _ - ⟨rfl,rfl⟩
 refine qa (Iv 0) (Nt (Cr (WQ.f5 (WQ.know (fun _ hs=>hx97.rs hs) (fun hf108=> ?_)))))
 refine WQ.freeze (fun hle107=> ?_)
 refine Qa (Dr (Qa (Dr (Qa (Dr (Qa (Dr ?_)))))))
 have h0_0:=h0_0.mono hle107
 have h0_1:=h0_1.mono hle107
 have h0_3:=h0_3.mono hle107
 exact Rd h [] (fun _ hs=>hs.drop) (resultsLN Z (RVs.cons (Rc (cs:=(l29 a0 v0_0 v0_1 vx97 v0_3)) 0 ag29 sz29 hs98_4 Z Z) (RVs.cons (RV.tmp Z) RVs.nil))) (((((L33.trans hle40).trans hle44).trans hle50).trans hle98).trans hle107) ⟨v0_0,v0_1,vx97,v0_3,Z,Z,h0_0,h0_1,hf108,h0_3⟩
noncomputable def f_ref15_Answered_l0 (a0:T_api_Image) (a1:Int) (a2:Int) (s_:Int):Option (Int⊕(Unit⊕Int)):=
 match s_ with
 |x24=>
 (if(decide (x24<(a0.Done.length:Int)))=true then(((grd (0≤x24∧x24<a0.Done.length) (if(decide (((rd a0.Done x24).Client)=a1))=true then(grd (0≤x24∧x24<a0.Done.length) (some (decide (((rd a0.Done x24).Serial)=a2))))else(some false))):Option Bool).bind fun x27=>(if x27=true then(grd (0≤x24∧x24<a0.Done.length) (some (Sum.inr (Sum.inr ((rd a0.Done x24).Code)))))else(some (Sum.inl (IntKind.i64.wrap (x24+(1:Int)))))))else(some (Sum.inr (Sum.inl ()))))
noncomputable def f_ref15_Answered (a0:T_api_Image) (a1:Int) (a2:Int):Option (Int×Bool):=
 ((((iter (f_ref15_Answered_l0 a0 a1 a2) (0:Int)).bind (Sum.elim (fun _=>(some (Sum.inl ()))) (fun(x25:Int)=>(((some (x25,true))).bind fun r=>some (Sum.inr r))))):Option (Unit⊕(Int×Bool))).bind (Sum.elim (fun _=>(some ((0:Int),false))) some))
def f_ref15_Answered_post (a0:T_api_Image) (a1:Int) (a2:Int) (v0_0 v0_1 v0_2 v0_3:Value):(Int×Bool)→Value→IM→HL→Prop:=
 fun(p_:(Int×Bool)) (v:Value) (M':IM) (H':HL)=>match p_ with |(r0,r1)=>(.tuple #[(.int .i64 r0),(.bool r1)])=v∧H'=[]
theorem f_ref15_Answered_ok (a0:T_api_Image) (a1:Int) (a2:Int) (M:IM) (v0_0 v0_1 v0_2 v0_3:Value) (h0_0:RS kd_api_Broker M v0_0 a0.Brokers) (h0_1:RS kd_api_Topic M v0_1 a0.Topics) (h0_2:RS kd_api_Config M v0_2 a0.Configs) (h0_3:RS kd_api_Done M v0_3 a0.Done) (res:(Int×Bool)) (h:f_ref15_Answered a0 a1 a2=some res):
 Tri Tryz.prog 72 #[(a29_ a0 v0_0 v0_1 v0_2 v0_3),(Iv a1),(Iv a2)] M [] (f_ref15_Answered_post a0 a1 a2 v0_0 v0_1 v0_2 v0_3 res):=by
 unfold f_ref15_Answered at h
 refine Te Tryz.func72 Z Z ?_
 intro F ρ hρ
 refine Sr (We (EO.box (cs:=(l29 a0 v0_0 v0_1 v0_2 v0_3).toArray) (congrArg Value.cells (asE (a29_ a0 v0_0 v0_1 v0_2 v0_3) (hρ 0)))) Z ?_)
 rintro _ _ _ - ⟨rfl,g21,rfl,rfl⟩
 refine qa (Iv 0) (qa (Bv false) (Nt ?_))
 obtain ⟨j22,hj22,h⟩:=bnd h
 refine WC.joinE (fun(_:Unit) ρ' M' H'=>M.le M'∧[(g21, .cells (l29 a0 v0_0 v0_1 v0_2 v0_3).toArray 29 (0,0))]::F=H') j22 ?_ ?_
 have h322:=h
 have h:=hj22
 refine Sr (qa (Iv 0) (Nt (Bk ?_)))
 obtain ⟨e23,he23,hK23⟩:=bnd h
 clear h
 refine WC.loop he23 (fun(x24:Int) ρ' M' H'=>M.le M'∧[(g21, .cells (l29 a0 v0_0 v0_1 v0_2 v0_3).toArray 29 (0,0))]::F=H'∧ρ' 1=(Iv a1)∧ρ' 2=(Iv a2)∧ρ' 3=(pt g21 0)∧ρ' 8=(Iv x24)) ?_ ?_
 exact⟨lr,Z,(hρ 1),(hρ 2),Z,Z⟩
 rintro x24 o23 ρ23 M23 H23 h ⟨hle23,rfl,hs23_1,hs23_2,hs23_3,hs23_8⟩
 unfold f_ref15_Answered_l0 at h
 refine Cs (Sr (qM (Iv x24) hs23_8 (qu (pt g21 3) (Fa fo29_3 hs23_3 Z) (qu v0_3 (Lb 0 pl27 Z Z Z) ?_))))
 have h0_3:=h0_3.mono hle23
 refine qu (Iv (a0.Done.length:Int)) (PO.lenS Tryz.underlying27 Z h0_3.len) (qu (Bv (decide (x24<(a0.Done.length:Int)))) (PO.lss Z Z) (Nt (Ch h Z (fun hb26 h=> ?_) (fun hb26 h=> ?_))))
 refine Ck (Tc (Cs (Bk ?_)))
 obtain ⟨x27,hj28,h⟩:=bnd h
 refine Jf (fun(x27:Bool) ρ' M' H'=>M23.le M'∧[(g21, .cells (l29 a0 v0_0 v0_1 v0_2 v0_3).toArray 29 (0,0))]::F=H'∧ρ' 1=(Iv a1)∧ρ' 2=(Iv a2)∧ρ' 3=(pt g21 0)∧ρ' 8=(Iv x24)∧ρ' 33=(Bv x27)) x27 ?_ ?_
 have h:=hj28
 refine Cg (qu (pt g21 3) (Fa fo29_3 hs23_3 Z) (qu v0_3 (Lb 0 pl27 Z Z Z) (qM (Iv x24) hs23_8 ?_)))
 obtain ⟨hg29,h⟩:=grd_i h
 obtain ⟨p30,cs31,hat32,hrc33,hhas34⟩:=h0_3.at hg29.1 hg29.2 (by decide)
 obtain rfl:=kd_api_Done_open hrc33
 refine qu (.pointer (some p30)) (PO.indexAddr (n:=a0.Done.length) Tryz.underlying27 sz66 Z Z hg29.1 hg29.2 hat32) (qu (.pointer (some (p30.add 0))) (Fa fo66_0 Z Z) (qu (Iv ((rd a0.Done x24).Client)) (PO.loadM pl3 Z (IM.has0 hhas34)) (qM (Iv a1) hs23_1 (qu (Bv (decide (((rd a0.Done x24).Client)=a1))) (PO.eql Z Z) (qm (Bv (decide (((rd a0.Done x24).Client)=a1))) ?_)))))
 rcases Bi h with⟨hb36,h⟩ |⟨hb36,h⟩
 refine qo 24 hb36 (pt g21 3) (Fa fo29_3 hs23_3 Z) (qo 24 hb36 v0_3 (Lb 0 pl27 Z Z Z) (On 24 Z Z hb36 (qM (Iv x24) hs23_8 (On 24 Z Z hb36 ?_))))
 obtain ⟨hg37,h⟩:=grd_i h
 obtain ⟨p38,cs39,hat40,hrc41,hhas42⟩:=h0_3.at hg37.1 hg37.2 (by decide)
 obtain rfl:=kd_api_Done_open hrc41
 refine qu (.pointer (some p38)) (PO.indexAddr (n:=a0.Done.length) Tryz.underlying27 sz66 Z Z hg37.1 hg37.2 hat40) (qo 24 hb36 (.pointer (some (p38.add 1))) (Fa fo66_1 Z Z) (qo 24 hb36 (Iv ((rd a0.Done x24).Serial)) (PO.loadM pl3 Z (hhas42 1 _ Z)) (On 24 Z Z hb36 (qM (Iv a2) hs23_2 (qo 24 hb36 (Bv (decide (((rd a0.Done x24).Serial)=a2))) (PO.eql Z Z) (qu (Bv (decide (((rd a0.Done x24).Serial)=a2))) (Pt Z hb36 Z) (Wz ?_)))))))
 obtain rfl:=oi h
 exact Tj ⟨lr,Z,hs23_1,hs23_2,hs23_3,hs23_8,Z⟩
 iterate 8 refine Of 24 Z Z hb36 Z ?_
 refine qu (Bv false) (Pf Z hb36 Z) (Wz ?_)
 obtain rfl:=oi h
 exact Tj ⟨lr,Z,hs23_1,hs23_2,hs23_3,hs23_8,Z⟩
 rintro ρ28 M28 H28 ⟨hle28,rfl,hs28_1,hs28_2,hs28_3,hs28_8,hs28_33⟩
 refine Ch h hs28_33 (fun hb44 h=> ?_) (fun hb44 h=> ?_)
 refine Sr (qu (pt g21 3) (Fa fo29_3 hs28_3 Z) (qu v0_3 (Lb 0 pl27 Z Z Z) (qM (Iv x24) hs28_8 ?_)))
 obtain ⟨hg45,h⟩:=grd_i h
 have h0_3:=h0_3.mono hle28
 obtain ⟨p46,cs47,hat48,hrc49,hhas50⟩:=h0_3.at hg45.1 hg45.2 (by decide)
 obtain rfl:=kd_api_Done_open hrc49
 refine qu (.pointer (some p46)) (PO.indexAddr (n:=a0.Done.length) Tryz.underlying27 sz66 Z Z hg45.1 hg45.2 hat48) (qu (.pointer (some (p46.add 2))) (Fa fo66_2 Z Z) (qu (Iv ((rd a0.Done x24).Code)) (PO.loadM pl3 Z (hhas50 2 _ Z)) (qa (Iv ((rd a0.Done x24).Code)) (qa (Bv true) (Nt (Cr (Br (Tr (WQ.leaveR (Sum.inr ((rd a0.Done x24).Code)) (oi h).symm (fun heq23=> ?_))))))))))
 subst heq23
 have h:=(elimR hK23)
 refine Br (Tr ?_)
 have h:=KK.early h h322
 exact Dr (Rf h [] Z (results2 Z Z Z) (hle23.trans hle28) ⟨Z,Z⟩)
 exact Ck (Bn (Tc (Cg (qM (Iv x24) hs28_8 (qu (Iv (IntKind.i64.wrap (x24+1))) (PO.add Z Z) (qa (Iv (IntKind.i64.wrap (x24+1))) (Wz (WQ.again (IntKind.i64.wrap (x24+1)) (oi h).symm ⟨(hle23.trans hle28),Z,hs28_1,hs28_2,hs28_3,Z⟩))))))))
 refine WC.exit (WQ.thenE (WQ.leaveE (Sum.inl ()) (oi h).symm (fun heq23=> ?_)))
 subst heq23
 have h:=elimL hK23
 exact WQ.blockH (WQ.thenFE h ⟨hle23,Z⟩)
 rintro _ ρ22 M22 H22 rfl ⟨hle22,rfl⟩
 have h:=(Sum.elim_inl _ _ _).symm.trans h
 exact Sr (qa (Iv 0) (qa (Bv false) (Nt (Cr (Dr (Rf h [] Z (results2 Z Z Z) hle22 ⟨Z,Z⟩))))))
noncomputable def f_ref15_done (a0:T_api_Image) (a1:T_api_Record):Option (T_api_Image×Int):=
 ((f_ref15_Answered a0 a1.Client a1.Serial).bind fun(r24,r25)=>(if r25=true then(some (a0,(9:Int)))else(((if(decide ((64:Int)≤(a0.Done.length:Int)))=true then(some (IntKind.i64.wrap ((a0.Done.length:Int)- (63:Int))))else(some (0:Int))):Option Int).bind fun x33=>(grd (0≤x33∧x33≤(a0.Done.length:Int)∧(a0.Done.length:Int)≤(a0.Done.length:Int)) (grd (([]:List T_api_Done).length+(sub a0.Done x33 (a0.Done.length:Int)).length≤274877906944) (grd ((([]:List T_api_Done)++(sub a0.Done x33 (a0.Done.length:Int))).length+[(⟨a1.Client,a1.Serial,a1.Code⟩:T_api_Done)].length≤274877906944) (some ((⟨a0.Brokers,a0.Topics,a0.Configs,(([]:List T_api_Done)++(sub a0.Done x33 (a0.Done.length:Int)))++[(⟨a1.Client,a1.Serial,a1.Code⟩:T_api_Done)],a0.Last⟩:T_api_Image),(0:Int)))))))))
def f_ref15_done_post (a0:T_api_Image) (a1:T_api_Record) (v0_0 v0_1 v0_2 v0_3 v1_14 v1_15 v1_16 v1_17:Value):(T_api_Image×Int)→Value→IM→HL→Prop:=
 fun(p_:(T_api_Image×Int)) (v:Value) (M':IM) (H':HL)=>match p_ with |(r0,r1)=>∃ vz0_0 vz0_1 vz0_2 vz0_3,(.tuple #[(.agg #[vz0_0,vz0_1,vz0_2,vz0_3,(.int .i64 r0.Last)]),(.int .i64 r1)])=v∧H'=[]∧RS kd_api_Broker M' vz0_0 r0.Brokers∧RS kd_api_Topic M' vz0_1 r0.Topics∧RS kd_api_Config M' vz0_2 r0.Configs∧RS kd_api_Done M' vz0_3 r0.Done
theorem f_ref15_done_ok (a0:T_api_Image) (a1:T_api_Record) (M:IM) (v0_0 v0_1 v0_2 v0_3 v1_14 v1_15 v1_16 v1_17:Value) (h0_0:RS kd_api_Broker M v0_0 a0.Brokers) (h0_1:RS kd_api_Topic M v0_1 a0.Topics) (h0_2:RS kd_api_Config M v0_2 a0.Configs) (h0_3:RS kd_api_Done M v0_3 a0.Done) (h1_14:RS (Kd.int .i64) M v1_14 a1.Ids) (h1_15:RS (Kd.int .i64) M v1_15 a1.Isr) (h1_16:RS (Kd.int .i64) M v1_16 a1.Add) (h1_17:RS (Kd.int .i64) M v1_17 a1.Drop) (res:(T_api_Image×Int)) (h:f_ref15_done a0 a1=some res):
 Tri Tryz.prog 47 #[(a29_ a0 v0_0 v0_1 v0_2 v0_3),(a45_ a1 v1_14 v1_15 v1_16 v1_17)] M [] (f_ref15_done_post a0 a1 v0_0 v0_1 v0_2 v0_3 v1_14 v1_15 v1_16 v1_17 res):=by
 unfold f_ref15_done at h
 refine Te Tryz.func47 Z Z ?_
 intro F ρ hρ
 refine Sr (We (EO.box (cs:=(l29 a0 v0_0 v0_1 v0_2 v0_3).toArray) (congrArg Value.cells (asE (a29_ a0 v0_0 v0_1 v0_2 v0_3) (hρ 0)))) Z ?_)
 rintro _ _ _ - ⟨rfl,g21,rfl,rfl⟩
 refine We (EO.box (cs:=(l45 a1 v1_14 v1_15 v1_16 v1_17).toArray) (congrArg Value.cells (asE (a45_ a1 v1_14 v1_15 v1_16 v1_17) (hρ 1)))) Z ?_
 rintro _ _ _ - ⟨rfl,g22,rfl,rfl⟩
 refine We (Al ze29 Z) Z ?_
 rintro _ _ _ - ⟨rfl,g23,rfl,rfl⟩
 refine qa (Iv 0) (Nt (Cs (Sr (qu (a29_ a0 v0_0 v0_1 v0_2 v0_3) (La (cs:=(l29 a0 v0_0 v0_1 v0_2 v0_3)) 2 ag29 sz29 Z Z Z) (qu (pt g22 6) (Fa fo45_6 Z Z) (qu (Iv a1.Client) (Lb 1 pl3 Z Z Z) (qu (pt g22 7) (Fa fo45_7 Z Z) (qu (Iv a1.Serial) (Lb 1 pl3 Z Z Z) ?_))))))))
 obtain ⟨⟨r24,r25⟩,hr26,h⟩:=bnd h
 refine We (Ca co72 (f_ref15_Answered_ok a0 a1.Client a1.Serial _ _ _ _ _ h0_0 h0_1 h0_2 h0_3 (r24,r25) hr26) (args3 Z Z Z)) Z ?_
 rintro _ M27 _ hle28 ⟨_,⟨rfl,rfl⟩,rfl⟩
 refine WL.a0 (qm (.tuple #[(Iv r24),(Bv r25)]) (qu (Iv r24) (Xt Z Z) (qu (Bv r25) (Xt Z Z) (qa (Iv r24) (qa (Bv r25) (Ns (qm (Bv r25) (Nt (Ch h Z (fun hb31 h=> ?_) (fun hb31 h=> ?_))))))))))
 refine Sr (qu (a29_ a0 v0_0 v0_1 v0_2 v0_3) (La (cs:=(l29 a0 v0_0 v0_1 v0_2 v0_3)) 2 ag29 sz29 Z Z Z) ?_)
 have h0_0:=h0_0.mono hle28
 have h0_1:=h0_1.mono hle28
 have h0_2:=h0_2.mono hle28
 have h0_3:=h0_3.mono hle28
 refine We (Sg (v:=(a29_ a0 v0_0 v0_1 v0_2 v0_3)) (vl:=(l29 a0 v0_0 v0_1 v0_2 v0_3)) (arr':=(l29 a0 v0_0 v0_1 v0_2 v0_3)) Z sz29 Z Z (onesOf (Oc (RS.one h0_0) (Oc (RS.one h0_1) (Oc (RS.one h0_2) (Oc (RS.one h0_3) (Oc Z Oz)))))) Z Z Z) Z ?_
 rintro _ _ _ - ⟨rfl,rfl⟩
 exact qa (Iv 9) (Nt (Cr (Tr (Qa (Dr (Qa (Dr (Rd h [] (fun _ hs=>hs.drop) (resultsLN Z (RVs.cons (Rc (cs:=(l29 a0 v0_0 v0_1 v0_2 v0_3)) 0 ag29 sz29 Z Z Z) (RVs.cons (RV.tmp Z) RVs.nil))) hle28 ⟨v0_0,v0_1,v0_2,v0_3,Z,Z,h0_0,h0_1,h0_2,h0_3⟩))))))))
 refine Ck (Tc (Sr (qu (a29_ a0 v0_0 v0_1 v0_2 v0_3) (La (cs:=(l29 a0 v0_0 v0_1 v0_2 v0_3)) 2 ag29 sz29 Z Z Z) (We (Al ze29 Z) Z ?_))))
 rintro _ _ _ - ⟨rfl,g32,rfl,rfl⟩
 have h0_0:=h0_0.mono hle28
 have h0_1:=h0_1.mono hle28
 have h0_2:=h0_2.mono hle28
 have h0_3:=h0_3.mono hle28
 refine We (Sg (v:=(a29_ a0 v0_0 v0_1 v0_2 v0_3)) (vl:=(l29 a0 v0_0 v0_1 v0_2 v0_3)) (arr':=(l29 a0 v0_0 v0_1 v0_2 v0_3)) Z sz29 Z Z (onesOf (Oc (RS.one h0_0) (Oc (RS.one h0_1) (Oc (RS.one h0_2) (Oc (RS.one h0_3) (Oc Z Oz)))))) Z Z Z) Z ?_
 rintro _ _ _ - ⟨rfl,rfl⟩
 refine Ns (qu (pt g32 3) (Fa fo29_3 Z Z) (We (Es Zs ((l29 a0 v0_0 v0_1 v0_2 Zs)) Z sz27 Z Z Z Z Z Z) Z ?_))
 rintro _ _ _ - ⟨rfl,rfl⟩
 refine Ns (qa (Iv 0) (Nt ?_))
 obtain ⟨x33,hj34,h⟩:=bnd h
 refine Jf (fun(x33:Int) ρ' M' H'=>M27.le M'∧[(g32, .cells (l29 a0 v0_0 v0_1 v0_2 Zs).toArray 29 (0,0))]::[(g23, .cells z29_.toArray 29 (0,0))]::[(g22, .cells (l45 a1 v1_14 v1_15 v1_16 v1_17).toArray 45 (0,0))]::[(g21, .cells (l29 a0 v0_0 v0_1 v0_2 v0_3).toArray 29 (0,0))]::F=H'∧ρ' 2=(pt g21 0)∧ρ' 3=(pt g22 0)∧ρ' 4=(pt g23 0)∧ρ' 8=(pt g32 0)∧ρ' 9=(Iv x33)) x33 ?_ ?_
 have h:=hj34
 refine Sr (qu (pt g21 3) (Fa fo29_3 Z Z) (qu v0_3 (Lb 3 pl27 Z Z Z) (qu (Iv (a0.Done.length:Int)) (PO.lenS Tryz.underlying27 Z h0_3.len) (qu (Bv (decide ((64:Int)≤(a0.Done.length:Int)))) (PO.geq Z Z) (Nt (Ch h Z (fun hb35 h=> ?_) (fun hb35 h=> ?_)))))))
 refine Cg (qu (pt g21 3) (Fa fo29_3 Z Z) (qu v0_3 (Lb 3 pl27 Z Z Z) (qu (Iv (a0.Done.length:Int)) (PO.lenS Tryz.underlying27 Z h0_3.len) (qu (Iv (IntKind.i64.wrap ((a0.Done.length:Int)- (63:Int)))) (PO.sub Z Z) (qa (Iv (IntKind.i64.wrap ((a0.Done.length:Int)- (63:Int)))) (Wz ?_))))))
 obtain rfl:=oi h
 exact Tj ⟨lr,Z,Z,Z,Z,Z,Z⟩
 refine Ck ?_
 obtain rfl:=oi h
 exact Tj ⟨lr,Z,Z,Z,Z,Z,Z⟩
 rintro ρ34 M34 H34 ⟨hle34,rfl,hs34_2,hs34_3,hs34_4,hs34_8,hs34_9⟩
 refine Cs (WC.draw [0,1,0,4,0,28,63,127,255] (.pure 0 (.pure 1 (.pure 2 (.pure 3 (.pure 4 (.pure 5 (.alt 6 (.pure 7 (.alt 8 .done .none)) .none))))))) mixed (by kernel_rfl) (qt (pt g32 3) Z (Fa fo29_3 hs34_8 Z) (qt Zs Z (Lb 0 pl27 Z Z Z) (qt (pt g21 3) Z (Fa fo29_3 hs34_2 Z) (qt v0_3 Z (Lb 3 pl27 Z Z Z) (qt (Iv x33) Z (Mv hs34_9) ?_))))))
 obtain ⟨hg36,h⟩:=grd_i h
 have h0_3:=h0_3.mono hle34
 have h37:=h0_3.sub hg36.1 hg36.2.1 hg36.2.2
 refine qt (slV v0_3 3 (x33).toNat ((a0.Done.length:Int)).toNat) Z (PO.slice (n:=a0.Done.length) (l:=(x33).toNat) (h:=((a0.Done.length:Int)).toNat) Tryz.underlying27 sz66 Z h0_3.len h0_3.cap ⟨_,_,Z,hg36.1,Z⟩ (boundN_ Z) (Int.toNat_le_toNat hg36.2.1) (toNat_le_len hg36.2.2)) ?_
 obtain ⟨hg42,h⟩:=grd_i h
 refine WT.e0 (Ta Z (EO.append (dd:=kd_api_Done) (xs:=[]) (ys:=sub a0.Done x33 (a0.Done.length:Int)) Tryz.underlying27 Tryz.underlying27 in66 Z (appB (by decide) hg42) (by decide) Z Z (OwnS.nil _ _) (h37.src _)) Z ?_ ?_)
 rintro v41 _ _ - ⟨rfl,c39,rfl,h40⟩
 refine⟨(Sl Z), ?_⟩
 refine qt (pt g32 3) Z (Fa fo29_3 hs34_8 Z) (WT.f1 (Ta Z (Es v41 ((l29 a0 v0_0 v0_1 v0_2 v41)) h40.cells sz27 Z Z (Ow h40) Z Z Z) Z ?_ ?_))
 rintro _ _ _ - ⟨rfl,rfl⟩
 refine⟨(Sl Z), ?_⟩
 refine Ti (Tc (Sr (qu (pt g32 3) (Fa fo29_3 hs34_8 Z) (qu v41 (Lb 0 pl27 Z Z Z) (qu (pt g22 6) (Fa fo45_6 hs34_3 Z) (qu (Iv a1.Client) (Lb 3 pl3 Z Z Z) (qu (pt g22 7) (Fa fo45_7 hs34_3 Z) (qu (Iv a1.Serial) (Lb 3 pl3 Z Z Z) (qu (pt g22 8) (Fa fo45_8 hs34_3 Z) (qu (Iv a1.Code) (Lb 3 pl3 Z Z Z) (qu (.agg #[(Iv a1.Client),(Iv a1.Serial),(Iv a1.Code)]) (Bl (cl:=[(Iv a1.Client),(Iv a1.Serial),(Iv a1.Code)]) ze66 fp66 (Pc (Iv a1.Client) Z Z (Pc (Iv a1.Serial) Z Z (Pc (Iv a1.Code) Z Z Pz))) Z) ?_)))))))))))
 refine We (EO.buildSliceL (cl:=[(Iv a1.Client),(Iv a1.Serial),(Iv a1.Code)]) Tryz.underlying27 iz66 Z (Pc (.agg #[(Iv a1.Client),(Iv a1.Serial),(Iv a1.Code)]) Z Z Pz) Z) Z ?_
 rintro _ _ _ - ⟨rfl,g43,rfl,rfl⟩
 have h45:OwnS kd_api_Done M34 (.slice (some ⟨g43,0,none⟩) 1 1) [(⟨a1.Client,a1.Serial,a1.Code⟩:T_api_Done)] [(g43, .cells #[(Iv a1.Client),(Iv a1.Serial),(Iv a1.Code)] 66 (0,0))]:=OwnS.rows (css:=[[(Iv a1.Client),(Iv a1.Serial),(Iv a1.Code)]]) (Rows.cons (kd_api_Done_mk (x:=(⟨a1.Client,a1.Serial,a1.Code⟩:T_api_Done))) Rows.nil) Z Z
 obtain ⟨hg49,h⟩:=grd_i h
 refine Wb (We (EO.append (dd:=kd_api_Done) (xs:=([]:List T_api_Done)++(sub a0.Done x33 (a0.Done.length:Int))) (ys:=[(⟨a1.Client,a1.Serial,a1.Code⟩:T_api_Done)]) Tryz.underlying27 Tryz.underlying27 in66 Z (appB (by decide) hg49) (by decide) Z Z h40 (h45.src 1 Z)) Z ?_)
 rintro v48 _ _ - ⟨rfl,c46,rfl,h47⟩
 refine qu (pt g32 3) (Fa fo29_3 hs34_8 Z) (Wb (We (Es v48 ((l29 a0 v0_0 v0_1 v0_2 v48)) h47.cells sz27 Z Z (Ow h47) Z Z Z) Z ?_))
 rintro _ _ _ - ⟨rfl,rfl⟩
 refine Ns (qu (a29_ a0 v0_0 v0_1 v0_2 v48) (La (cs:=(l29 a0 v0_0 v0_1 v0_2 v48)) 0 ag29 sz29 hs34_8 Z Z) (WL.f3 ?_))
 have h0_0:=h0_0.mono hle34
 have h0_1:=h0_1.mono hle34
 have h0_2:=h0_2.mono hle34
 refine We (Sg (v:=(a29_ a0 v0_0 v0_1 v0_2 v48)) (vl:=(l29 a0 v0_0 v0_1 v0_2 v48)) (arr':=(l29 a0 v0_0 v0_1 v0_2 v48)) Z sz29 hs34_4 Z (onesOf (Oc (RS.one h0_0) (Oc (RS.one h0_1) (Oc (RS.one h0_2) (Oc (Ow h47) (Oc Z Oz)))))) Z Z Z) Z ?_
 rintro _ _ _ - ⟨rfl,rfl⟩
 refine qa (Iv 0) (Nt (Cr (Qb (WQ.know (fun _ hs=>h47.rs hs) (fun hf51=> ?_)))))
 refine WQ.freeze (fun hle50=> ?_)
 refine Qa (Dr (Qa (Dr (Qa (Dr (Qa (Dr ?_)))))))
 have h0_0:=h0_0.mono hle50
 have h0_1:=h0_1.mono hle50
 have h0_2:=h0_2.mono hle50
 exact Rd h [] (fun _ hs=>hs.drop) (resultsLN Z (RVs.cons (Rc (cs:=(l29 a0 v0_0 v0_1 v0_2 v48)) 0 ag29 sz29 hs34_4 Z Z) (RVs.cons (RV.tmp Z) RVs.nil))) ((hle28.trans hle34).trans hle50) ⟨v0_0,v0_1,v0_2,v48,Z,Z,h0_0,h0_1,h0_2,hf51⟩
 exact Tz
 exact Tz
noncomputable def f_ref15_Apply (a0:T_api_Image) (a1:T_api_Record):Option (T_api_Image×Int):=
 ((f_ref05_Check a1).bind fun r24=>(if(decide (r24.Code≠(0:Int)))=true then(some (a0,r24.Code))else(if(decide (a1.Kind=(2:Int)))=true then((f_ref15_register a0 a1).bind fun(r32,r33)=>(some (r32,r33)))else(((if(decide (a1.Kind=(3:Int)))=true then(some (decide (a1.Kind=(3:Int))))else(if(decide (a1.Kind=(4:Int)))=true then(some (decide (a1.Kind=(4:Int))))else(if(decide (a1.Kind=(5:Int)))=true then(some (decide (a1.Kind=(5:Int))))else(some (decide (a1.Kind=(6:Int))))))):Option Bool).bind fun x39=>(if x39=true then((f_ref15_broker a0 a1).bind fun(r45,r46)=>(some (r45,r46)))else(((if(decide (a1.Kind=(8:Int)))=true then(some (decide (a1.Kind=(8:Int))))else(some (decide (a1.Kind=(9:Int))))):Option Bool).bind fun x52=>(if x52=true then((f_ref15_part a0 a1).bind fun(r56,r57)=>(some (r56,r57)))else(if(decide (a1.Kind=(7:Int)))=true then((f_ref15_topic a0 a1).bind fun(r64,r65)=>(some (r64,r65)))else(if(decide (a1.Kind=(11:Int)))=true then((f_ref15_drop a0 a1.Topic).bind fun(r72,r73)=>(some (r72,r73)))else(if(decide (a1.Kind=(10:Int)))=true then((f_ref15_config a0 a1).bind fun(r80,r81)=>(some (r80,r81)))else(if(decide (a1.Kind=(12:Int)))=true then((f_ref15_done a0 a1).bind fun(r88,r89)=>(some (r88,r89)))else(some (a0,(0:Int))))))))))))))
def f_ref15_Apply_post (a0:T_api_Image) (a1:T_api_Record) (v0_0 v0_1 v0_2 v0_3 v1_14 v1_15 v1_16 v1_17:Value):(T_api_Image×Int)→Value→IM→HL→Prop:=
 fun(p_:(T_api_Image×Int)) (v:Value) (M':IM) (H':HL)=>match p_ with |(r0,r1)=>∃ vz0_0 vz0_1 vz0_2 vz0_3,(.tuple #[(.agg #[vz0_0,vz0_1,vz0_2,vz0_3,(.int .i64 r0.Last)]),(.int .i64 r1)])=v∧H'=[]∧RS kd_api_Broker M' vz0_0 r0.Brokers∧RS kd_api_Topic M' vz0_1 r0.Topics∧RS kd_api_Config M' vz0_2 r0.Configs∧RS kd_api_Done M' vz0_3 r0.Done
theorem f_ref15_Apply_ok (a0:T_api_Image) (a1:T_api_Record) (M:IM) (v0_0 v0_1 v0_2 v0_3 v1_14 v1_15 v1_16 v1_17:Value) (h0_0:RS kd_api_Broker M v0_0 a0.Brokers) (h0_1:RS kd_api_Topic M v0_1 a0.Topics) (h0_2:RS kd_api_Config M v0_2 a0.Configs) (h0_3:RS kd_api_Done M v0_3 a0.Done) (h1_14:RS (Kd.int .i64) M v1_14 a1.Ids) (h1_15:RS (Kd.int .i64) M v1_15 a1.Isr) (h1_16:RS (Kd.int .i64) M v1_16 a1.Add) (h1_17:RS (Kd.int .i64) M v1_17 a1.Drop) (res:(T_api_Image×Int)) (h:f_ref15_Apply a0 a1=some res):
 Tri Tryz.prog 11 #[(a29_ a0 v0_0 v0_1 v0_2 v0_3),(a45_ a1 v1_14 v1_15 v1_16 v1_17)] M [] (f_ref15_Apply_post a0 a1 v0_0 v0_1 v0_2 v0_3 v1_14 v1_15 v1_16 v1_17 res):=by
 unfold f_ref15_Apply at h
 refine Te Tryz.func11 Z Z ?_
 intro F ρ hρ
 refine Sr (We (EO.box (cs:=(l29 a0 v0_0 v0_1 v0_2 v0_3).toArray) (congrArg Value.cells (asE (a29_ a0 v0_0 v0_1 v0_2 v0_3) (hρ 0)))) Z ?_)
 rintro _ _ _ - ⟨rfl,g21,rfl,rfl⟩
 refine We (EO.box (cs:=(l45 a1 v1_14 v1_15 v1_16 v1_17).toArray) (congrArg Value.cells (asE (a45_ a1 v1_14 v1_15 v1_16 v1_17) (hρ 1)))) Z ?_
 rintro _ _ _ - ⟨rfl,g22,rfl,rfl⟩
 refine We (Al ze29 Z) Z ?_
 rintro _ _ _ - ⟨rfl,g23,rfl,rfl⟩
 refine qa (Iv 0) (Nt (Cs (Sr (qu (a45_ a1 v1_14 v1_15 v1_16 v1_17) (La (cs:=(l45 a1 v1_14 v1_15 v1_16 v1_17)) 1 ag45 sz45 Z Z Z) ?_))))
 obtain ⟨r24,hr25,h⟩:=bnd h
 refine We (Ca co40 (f_ref05_Check_ok a1 _ _ _ _ _ h1_14 h1_15 h1_16 h1_17 r24 hr25) (args1 Z)) Z ?_
 rintro _ M26 _ hle27 ⟨_,⟨rfl,rfl⟩,rfl⟩
 refine WL.a0 (We (Al ze89 Z) Z ?_)
 rintro _ _ _ - ⟨rfl,g29,rfl,rfl⟩
 refine We (Sg (v:=(a89_ r24)) (vl:=(l89 r24)) (arr':=(l89 r24)) Z sz89 Z Z (onb Z) Z Z Z) Z ?_
 rintro _ _ _ - ⟨rfl,rfl⟩
 refine Ns (qu (pt g29 2) (Fa fo89_2 Z Z) (qu (Iv r24.Code) (Lb 0 pl40 Z Z Z) (qu (Bv (decide (r24.Code≠0))) (PO.neq Z Z) (Nt (Ch h Z (fun hb30 h=> ?_) (fun hb30 h=> ?_))))))
 refine Cs (WC.draw [0,0,2,1,15] (.pure 0 (.pure 1 (.pure 2 (.alt 3 (.pure 4 .done) .none)))) mixed (by kernel_rfl) (qt (a29_ a0 v0_0 v0_1 v0_2 v0_3) Z (La (cs:=(l29 a0 v0_0 v0_1 v0_2 v0_3)) 3 ag29 sz29 Z Z Z) (qt (pt g29 2) Z (Fa fo89_2 Z Z) (qt (Iv r24.Code) Z (Lb 0 pl40 Z Z Z) (WT.f1 ?_)))))
 have h0_0:=h0_0.mono hle27
 have h0_1:=h0_1.mono hle27
 have h0_2:=h0_2.mono hle27
 have h0_3:=h0_3.mono hle27
 refine Ta Z (Sg (v:=(a29_ a0 v0_0 v0_1 v0_2 v0_3)) (vl:=(l29 a0 v0_0 v0_1 v0_2 v0_3)) (arr':=(l29 a0 v0_0 v0_1 v0_2 v0_3)) Z sz29 Z Z (onesOf (Oc (RS.one h0_0) (Oc (RS.one h0_1) (Oc (RS.one h0_2) (Oc (RS.one h0_3) (Oc Z Oz)))))) Z Z Z) Z ?_ ?_
 rintro _ _ _ - ⟨rfl,rfl⟩
 refine⟨(Ss Z (Lb 1 pl40 Z Z Z) Z (Ss Z (Fa fo89_2 Z Z) Z (Sl Z))), ?_⟩
 exact qt (Iv r24.Code) Z (Ag Z) (Ti (Tc (Cr (Tr (Qa (Dr (Qa (Dr (Qa (Dr (Rd h [] (fun _ hs=>hs.drop) (resultsLN Z (RVs.cons (Rc (cs:=(l29 a0 v0_0 v0_1 v0_2 v0_3)) 0 ag29 sz29 Z Z Z) (RVs.cons (RV.tmp Z) RVs.nil))) hle27 ⟨v0_0,v0_1,v0_2,v0_3,Z,Z,h0_0,h0_1,h0_2,h0_3⟩)))))))))))
 exact Tz
 refine Ck (Tc (Cs (Sr (qu (pt g22 0) (Fa fo45_0 Z Z) (qu (Iv a1.Kind) (Lb 2 pl3 Z Z Z) (Nt (Bk (Sr (qu (Bv (decide (a1.Kind=2))) (PO.eql Z Z) (qa (Bv (decide (a1.Kind=2))) (Nt ?_)))))))))))
 refine Ch h Z (fun hb31 h=> ?_) (fun hb31 h=> ?_)
 refine Sr (qu (a29_ a0 v0_0 v0_1 v0_2 v0_3) (La (cs:=(l29 a0 v0_0 v0_1 v0_2 v0_3)) 3 ag29 sz29 Z Z Z) (qu (a45_ a1 v1_14 v1_15 v1_16 v1_17) (La (cs:=(l45 a1 v1_14 v1_15 v1_16 v1_17)) 2 ag45 sz45 Z Z Z) ?_))
 obtain ⟨⟨r32,r33⟩,hr34,h⟩:=bnd h
 have h0_0:=h0_0.mono hle27
 have h0_1:=h0_1.mono hle27
 have h0_2:=h0_2.mono hle27
 have h0_3:=h0_3.mono hle27
 have h1_14:=h1_14.mono hle27
 have h1_15:=h1_15.mono hle27
 have h1_16:=h1_16.mono hle27
 have h1_17:=h1_17.mono hle27
 refine We (Ca co41 (f_ref15_register_ok a0 a1 _ _ _ _ _ _ _ _ _ h0_0 h0_1 h0_2 h0_3 h1_14 h1_15 h1_16 h1_17 (r32,r33) hr34) (args2 Z Z)) Z ?_
 rintro _ M35 _ hle36 ⟨_,⟨vq37_0,vq37_1,vq37_2,vq37_3,rfl,rfl,hq37_0,hq37_1,hq37_2,hq37_3⟩,rfl⟩
 refine WL.a0 (qu (a29_ r32 vq37_0 vq37_1 vq37_2 vq37_3) (Xt Z Z) (qu (Iv r33) (Xt Z Z) (WL.f1 (We (Sg (v:=(a29_ r32 vq37_0 vq37_1 vq37_2 vq37_3)) (vl:=(l29 r32 vq37_0 vq37_1 vq37_2 vq37_3)) (arr':=(l29 r32 vq37_0 vq37_1 vq37_2 vq37_3)) Z sz29 Z Z (onesOf (Oc (RS.one hq37_0) (Oc (RS.one hq37_1) (Oc (RS.one hq37_2) (Oc (RS.one hq37_3) (Oc Z Oz)))))) Z Z Z) Z ?_))))
 rintro _ _ _ - ⟨rfl,rfl⟩
 exact qa (Iv r33) (Nt (Cr (Br (Tr (Qa (Dr (Qa (Dr (Qa (Dr (Rd h [] (fun _ hs=>hs.drop) (resultsLN Z (RVs.cons (Rc (cs:=(l29 r32 vq37_0 vq37_1 vq37_2 vq37_3)) 0 ag29 sz29 Z Z Z) (RVs.cons (RV.tmp Z) RVs.nil))) (hle27.trans hle36) ⟨vq37_0,vq37_1,vq37_2,vq37_3,Z,Z,hq37_0,hq37_1,hq37_2,hq37_3⟩)))))))))))
 obtain ⟨x39,hj40,h⟩:=bnd h
 refine Jf (fun(x39:Bool) ρ' M' H'=>M26.le M'∧[(g29, .cells (l89 r24).toArray 89 (0,0))]::[(g23, .cells z29_.toArray 29 (0,0))]::[(g22, .cells (l45 a1 v1_14 v1_15 v1_16 v1_17).toArray 45 (0,0))]::[(g21, .cells (l29 a0 v0_0 v0_1 v0_2 v0_3).toArray 29 (0,0))]::F=H'∧ρ' 2=(pt g21 0)∧ρ' 3=(pt g22 0)∧ρ' 4=(pt g23 0)∧ρ' 16=(Iv a1.Kind)∧ρ' 24=(Bv x39)) x39 ?_ ?_
 have h:=hj40
 refine Sr (qu (Bv (decide (a1.Kind=3))) (PO.eql Z Z) (qa (Bv (decide (a1.Kind=3))) (Nt (Ch h Z (fun hb41 h=> ?_) (fun hb41 h=> ?_)))))
 refine Ck ?_
 obtain rfl:=oi h
 exact Tj ⟨lr,Z,Z,Z,Z,Z,Z⟩
 refine Sr (qu (Bv (decide (a1.Kind=4))) (PO.eql Z Z) (qa (Bv (decide (a1.Kind=4))) (Nt (Ch h Z (fun hb42 h=> ?_) (fun hb42 h=> ?_)))))
 refine Ck ?_
 obtain rfl:=oi h
 exact Tj ⟨lr,Z,Z,Z,Z,Z,Z⟩
 refine Sr (qu (Bv (decide (a1.Kind=5))) (PO.eql Z Z) (qa (Bv (decide (a1.Kind=5))) (Nt (Ch h Z (fun hb43 h=> ?_) (fun hb43 h=> ?_)))))
 refine Ck ?_
 obtain rfl:=oi h
 exact Tj ⟨lr,Z,Z,Z,Z,Z,Z⟩
 refine Cg (qu (Bv (decide (a1.Kind=6))) (PO.eql Z Z) (qa (Bv (decide (a1.Kind=6))) (Wz ?_)))
 obtain rfl:=oi h
 exact Tj ⟨lr,Z,Z,Z,Z,Z,Z⟩
 rintro ρ40 M40 H40 ⟨hle40,rfl,hs40_2,hs40_3,hs40_4,hs40_16,hs40_24⟩
 have L40:=hle27.trans hle40
 refine Ch h hs40_24 (fun hb44 h=> ?_) (fun hb44 h=> ?_)
 refine Sr (qu (a29_ a0 v0_0 v0_1 v0_2 v0_3) (La (cs:=(l29 a0 v0_0 v0_1 v0_2 v0_3)) 3 ag29 sz29 hs40_2 Z Z) (qu (a45_ a1 v1_14 v1_15 v1_16 v1_17) (La (cs:=(l45 a1 v1_14 v1_15 v1_16 v1_17)) 2 ag45 sz45 hs40_3 Z Z) ?_))
 obtain ⟨⟨r45,r46⟩,hr47,h⟩:=bnd h
 have h0_0:=h0_0.mono L40
 have h0_1:=h0_1.mono L40
 have h0_2:=h0_2.mono L40
 have h0_3:=h0_3.mono L40
 have h1_14:=h1_14.mono L40
 have h1_15:=h1_15.mono L40
 have h1_16:=h1_16.mono L40
 have h1_17:=h1_17.mono L40
 refine We (Ca co42 (f_ref15_broker_ok a0 a1 _ _ _ _ _ _ _ _ _ h0_0 h0_1 h0_2 h0_3 h1_14 h1_15 h1_16 h1_17 (r45,r46) hr47) (args2 Z Z)) Z ?_
 rintro _ M48 _ hle49 ⟨_,⟨vq50_0,vq50_1,vq50_2,vq50_3,rfl,rfl,hq50_0,hq50_1,hq50_2,hq50_3⟩,rfl⟩
 refine WL.a0 (qu (a29_ r45 vq50_0 vq50_1 vq50_2 vq50_3) (Xt Z Z) (qu (Iv r46) (Xt Z Z) (WL.f1 (We (Sg (v:=(a29_ r45 vq50_0 vq50_1 vq50_2 vq50_3)) (vl:=(l29 r45 vq50_0 vq50_1 vq50_2 vq50_3)) (arr':=(l29 r45 vq50_0 vq50_1 vq50_2 vq50_3)) Z sz29 hs40_4 Z (onesOf (Oc (RS.one hq50_0) (Oc (RS.one hq50_1) (Oc (RS.one hq50_2) (Oc (RS.one hq50_3) (Oc Z Oz)))))) Z Z Z) Z ?_))))
 rintro _ _ _ - ⟨rfl,rfl⟩
 exact qa (Iv r46) (Nt (Cr (Br (Tr (Qa (Dr (Qa (Dr (Qa (Dr (Rd h [] (fun _ hs=>hs.drop) (resultsLN Z (RVs.cons (Rc (cs:=(l29 r45 vq50_0 vq50_1 vq50_2 vq50_3)) 0 ag29 sz29 hs40_4 Z Z) (RVs.cons (RV.tmp Z) RVs.nil))) (L40.trans hle49) ⟨vq50_0,vq50_1,vq50_2,vq50_3,Z,Z,hq50_0,hq50_1,hq50_2,hq50_3⟩)))))))))))
 obtain ⟨x52,hj53,h⟩:=bnd h
 refine Jf (fun(x52:Bool) ρ' M' H'=>M40.le M'∧[(g29, .cells (l89 r24).toArray 89 (0,0))]::[(g23, .cells z29_.toArray 29 (0,0))]::[(g22, .cells (l45 a1 v1_14 v1_15 v1_16 v1_17).toArray 45 (0,0))]::[(g21, .cells (l29 a0 v0_0 v0_1 v0_2 v0_3).toArray 29 (0,0))]::F=H'∧ρ' 2=(pt g21 0)∧ρ' 3=(pt g22 0)∧ρ' 4=(pt g23 0)∧ρ' 16=(Iv a1.Kind)∧ρ' 34=(Bv x52)) x52 ?_ ?_
 have h:=hj53
 refine Sr (qu (Bv (decide (a1.Kind=8))) (PO.eql hs40_16 Z) (qa (Bv (decide (a1.Kind=8))) (Nt (Ch h Z (fun hb54 h=> ?_) (fun hb54 h=> ?_)))))
 refine Ck ?_
 obtain rfl:=oi h
 exact Tj ⟨lr,Z,hs40_2,hs40_3,hs40_4,hs40_16,Z⟩
 refine Cg (qu (Bv (decide (a1.Kind=9))) (PO.eql hs40_16 Z) (qa (Bv (decide (a1.Kind=9))) (Wz ?_)))
 obtain rfl:=oi h
 exact Tj ⟨lr,Z,hs40_2,hs40_3,hs40_4,hs40_16,Z⟩
 rintro ρ53 M53 H53 ⟨hle53,rfl,hs53_2,hs53_3,hs53_4,hs53_16,hs53_34⟩
 have L53:=L40.trans hle53
 refine Ch h hs53_34 (fun hb55 h=> ?_) (fun hb55 h=> ?_)
 refine Sr (qu (a29_ a0 v0_0 v0_1 v0_2 v0_3) (La (cs:=(l29 a0 v0_0 v0_1 v0_2 v0_3)) 3 ag29 sz29 hs53_2 Z Z) (qu (a45_ a1 v1_14 v1_15 v1_16 v1_17) (La (cs:=(l45 a1 v1_14 v1_15 v1_16 v1_17)) 2 ag45 sz45 hs53_3 Z Z) ?_))
 obtain ⟨⟨r56,r57⟩,hr58,h⟩:=bnd h
 have h0_0:=h0_0.mono L53
 have h0_1:=h0_1.mono L53
 have h0_2:=h0_2.mono L53
 have h0_3:=h0_3.mono L53
 have h1_14:=h1_14.mono L53
 have h1_15:=h1_15.mono L53
 have h1_16:=h1_16.mono L53
 have h1_17:=h1_17.mono L53
 refine We (Ca co43 (f_ref15_part_ok a0 a1 _ _ _ _ _ _ _ _ _ h0_0 h0_1 h0_2 h0_3 h1_14 h1_15 h1_16 h1_17 (r56,r57) hr58) (args2 Z Z)) Z ?_
 rintro _ M59 _ hle60 ⟨_,⟨vq61_0,vq61_1,vq61_2,vq61_3,rfl,rfl,hq61_0,hq61_1,hq61_2,hq61_3⟩,rfl⟩
 refine WL.a0 (qu (a29_ r56 vq61_0 vq61_1 vq61_2 vq61_3) (Xt Z Z) (qu (Iv r57) (Xt Z Z) (WL.f1 (We (Sg (v:=(a29_ r56 vq61_0 vq61_1 vq61_2 vq61_3)) (vl:=(l29 r56 vq61_0 vq61_1 vq61_2 vq61_3)) (arr':=(l29 r56 vq61_0 vq61_1 vq61_2 vq61_3)) Z sz29 hs53_4 Z (onesOf (Oc (RS.one hq61_0) (Oc (RS.one hq61_1) (Oc (RS.one hq61_2) (Oc (RS.one hq61_3) (Oc Z Oz)))))) Z Z Z) Z ?_))))
 rintro _ _ _ - ⟨rfl,rfl⟩
 exact qa (Iv r57) (Nt (Cr (Br (Tr (Qa (Dr (Qa (Dr (Qa (Dr (Rd h [] (fun _ hs=>hs.drop) (resultsLN Z (RVs.cons (Rc (cs:=(l29 r56 vq61_0 vq61_1 vq61_2 vq61_3)) 0 ag29 sz29 hs53_4 Z Z) (RVs.cons (RV.tmp Z) RVs.nil))) (L53.trans hle60) ⟨vq61_0,vq61_1,vq61_2,vq61_3,Z,Z,hq61_0,hq61_1,hq61_2,hq61_3⟩)))))))))))
 refine Sr (qu (Bv (decide (a1.Kind=7))) (PO.eql hs53_16 Z) (qa (Bv (decide (a1.Kind=7))) (Nt (Ch h Z (fun hb63 h=> ?_) (fun hb63 h=> ?_)))))
 refine Sr (qu (a29_ a0 v0_0 v0_1 v0_2 v0_3) (La (cs:=(l29 a0 v0_0 v0_1 v0_2 v0_3)) 3 ag29 sz29 hs53_2 Z Z) (qu (a45_ a1 v1_14 v1_15 v1_16 v1_17) (La (cs:=(l45 a1 v1_14 v1_15 v1_16 v1_17)) 2 ag45 sz45 hs53_3 Z Z) ?_))
 obtain ⟨⟨r64,r65⟩,hr66,h⟩:=bnd h
 have h0_0:=h0_0.mono L53
 have h0_1:=h0_1.mono L53
 have h0_2:=h0_2.mono L53
 have h0_3:=h0_3.mono L53
 have h1_14:=h1_14.mono L53
 have h1_15:=h1_15.mono L53
 have h1_16:=h1_16.mono L53
 have h1_17:=h1_17.mono L53
 refine We (Ca co44 (f_ref15_topic_ok a0 a1 _ _ _ _ _ _ _ _ _ h0_0 h0_1 h0_2 h0_3 h1_14 h1_15 h1_16 h1_17 (r64,r65) hr66) (args2 Z Z)) Z ?_
 rintro _ M67 _ hle68 ⟨_,⟨vq69_0,vq69_1,vq69_2,vq69_3,rfl,rfl,hq69_0,hq69_1,hq69_2,hq69_3⟩,rfl⟩
 refine WL.a0 (qu (a29_ r64 vq69_0 vq69_1 vq69_2 vq69_3) (Xt Z Z) (qu (Iv r65) (Xt Z Z) (WL.f1 (We (Sg (v:=(a29_ r64 vq69_0 vq69_1 vq69_2 vq69_3)) (vl:=(l29 r64 vq69_0 vq69_1 vq69_2 vq69_3)) (arr':=(l29 r64 vq69_0 vq69_1 vq69_2 vq69_3)) Z sz29 hs53_4 Z (onesOf (Oc (RS.one hq69_0) (Oc (RS.one hq69_1) (Oc (RS.one hq69_2) (Oc (RS.one hq69_3) (Oc Z Oz)))))) Z Z Z) Z ?_))))
 rintro _ _ _ - ⟨rfl,rfl⟩
 exact qa (Iv r65) (Nt (Cr (Br (Tr (Qa (Dr (Qa (Dr (Qa (Dr (Rd h [] (fun _ hs=>hs.drop) (resultsLN Z (RVs.cons (Rc (cs:=(l29 r64 vq69_0 vq69_1 vq69_2 vq69_3)) 0 ag29 sz29 hs53_4 Z Z) (RVs.cons (RV.tmp Z) RVs.nil))) (L53.trans hle68) ⟨vq69_0,vq69_1,vq69_2,vq69_3,Z,Z,hq69_0,hq69_1,hq69_2,hq69_3⟩)))))))))))
 refine Sr (qu (Bv (decide (a1.Kind=11))) (PO.eql hs53_16 Z) (qa (Bv (decide (a1.Kind=11))) (Nt (Ch h Z (fun hb71 h=> ?_) (fun hb71 h=> ?_)))))
 refine Sr (qu (a29_ a0 v0_0 v0_1 v0_2 v0_3) (La (cs:=(l29 a0 v0_0 v0_1 v0_2 v0_3)) 3 ag29 sz29 hs53_2 Z Z) (qu (pt g22 3) (Fa fo45_3 hs53_3 Z) (qu (Iv a1.Topic) (Lb 2 pl3 Z Z Z) ?_)))
 obtain ⟨⟨r72,r73⟩,hr74,h⟩:=bnd h
 have h0_0:=h0_0.mono L53
 have h0_1:=h0_1.mono L53
 have h0_2:=h0_2.mono L53
 have h0_3:=h0_3.mono L53
 refine We (Ca co45 (f_ref15_drop_ok a0 a1.Topic _ _ _ _ _ h0_0 h0_1 h0_2 h0_3 (r72,r73) hr74) (args2 Z Z)) Z ?_
 rintro _ M75 _ hle76 ⟨_,⟨vq77_0,vq77_1,vq77_2,vq77_3,rfl,rfl,hq77_0,hq77_1,hq77_2,hq77_3⟩,rfl⟩
 refine WL.a0 (qu (a29_ r72 vq77_0 vq77_1 vq77_2 vq77_3) (Xt Z Z) (qu (Iv r73) (Xt Z Z) (WL.f1 (We (Sg (v:=(a29_ r72 vq77_0 vq77_1 vq77_2 vq77_3)) (vl:=(l29 r72 vq77_0 vq77_1 vq77_2 vq77_3)) (arr':=(l29 r72 vq77_0 vq77_1 vq77_2 vq77_3)) Z sz29 hs53_4 Z (onesOf (Oc (RS.one hq77_0) (Oc (RS.one hq77_1) (Oc (RS.one hq77_2) (Oc (RS.one hq77_3) (Oc Z Oz)))))) Z Z Z) Z ?_))))
 rintro _ _ _ - ⟨rfl,rfl⟩
 exact qa (Iv r73) (Nt (Cr (Br (Tr (Qa (Dr (Qa (Dr (Qa (Dr (Rd h [] (fun _ hs=>hs.drop) (resultsLN Z (RVs.cons (Rc (cs:=(l29 r72 vq77_0 vq77_1 vq77_2 vq77_3)) 0 ag29 sz29 hs53_4 Z Z) (RVs.cons (RV.tmp Z) RVs.nil))) (L53.trans hle76) ⟨vq77_0,vq77_1,vq77_2,vq77_3,Z,Z,hq77_0,hq77_1,hq77_2,hq77_3⟩)))))))))))
 refine Sr (qu (Bv (decide (a1.Kind=10))) (PO.eql hs53_16 Z) (qa (Bv (decide (a1.Kind=10))) (Nt (Ch h Z (fun hb79 h=> ?_) (fun hb79 h=> ?_)))))
 refine Sr (qu (a29_ a0 v0_0 v0_1 v0_2 v0_3) (La (cs:=(l29 a0 v0_0 v0_1 v0_2 v0_3)) 3 ag29 sz29 hs53_2 Z Z) (qu (a45_ a1 v1_14 v1_15 v1_16 v1_17) (La (cs:=(l45 a1 v1_14 v1_15 v1_16 v1_17)) 2 ag45 sz45 hs53_3 Z Z) ?_))
 obtain ⟨⟨r80,r81⟩,hr82,h⟩:=bnd h
 have h0_0:=h0_0.mono L53
 have h0_1:=h0_1.mono L53
 have h0_2:=h0_2.mono L53
 have h0_3:=h0_3.mono L53
 have h1_14:=h1_14.mono L53
 have h1_15:=h1_15.mono L53
 have h1_16:=h1_16.mono L53
 have h1_17:=h1_17.mono L53
 refine We (Ca co46 (f_ref15_config_ok a0 a1 _ _ _ _ _ _ _ _ _ h0_0 h0_1 h0_2 h0_3 h1_14 h1_15 h1_16 h1_17 (r80,r81) hr82) (args2 Z Z)) Z ?_
 rintro _ M83 _ hle84 ⟨_,⟨vq85_0,vq85_1,vq85_2,vq85_3,rfl,rfl,hq85_0,hq85_1,hq85_2,hq85_3⟩,rfl⟩
 refine WL.a0 (qu (a29_ r80 vq85_0 vq85_1 vq85_2 vq85_3) (Xt Z Z) (qu (Iv r81) (Xt Z Z) (WL.f1 (We (Sg (v:=(a29_ r80 vq85_0 vq85_1 vq85_2 vq85_3)) (vl:=(l29 r80 vq85_0 vq85_1 vq85_2 vq85_3)) (arr':=(l29 r80 vq85_0 vq85_1 vq85_2 vq85_3)) Z sz29 hs53_4 Z (onesOf (Oc (RS.one hq85_0) (Oc (RS.one hq85_1) (Oc (RS.one hq85_2) (Oc (RS.one hq85_3) (Oc Z Oz)))))) Z Z Z) Z ?_))))
 rintro _ _ _ - ⟨rfl,rfl⟩
 exact qa (Iv r81) (Nt (Cr (Br (Tr (Qa (Dr (Qa (Dr (Qa (Dr (Rd h [] (fun _ hs=>hs.drop) (resultsLN Z (RVs.cons (Rc (cs:=(l29 r80 vq85_0 vq85_1 vq85_2 vq85_3)) 0 ag29 sz29 hs53_4 Z Z) (RVs.cons (RV.tmp Z) RVs.nil))) (L53.trans hle84) ⟨vq85_0,vq85_1,vq85_2,vq85_3,Z,Z,hq85_0,hq85_1,hq85_2,hq85_3⟩)))))))))))
 refine Sr (qu (Bv (decide (a1.Kind=12))) (PO.eql hs53_16 Z) (qa (Bv (decide (a1.Kind=12))) (Nt (Ch h Z (fun hb87 h=> ?_) (fun hb87 h=> ?_)))))
 refine Sr (qu (a29_ a0 v0_0 v0_1 v0_2 v0_3) (La (cs:=(l29 a0 v0_0 v0_1 v0_2 v0_3)) 3 ag29 sz29 hs53_2 Z Z) (qu (a45_ a1 v1_14 v1_15 v1_16 v1_17) (La (cs:=(l45 a1 v1_14 v1_15 v1_16 v1_17)) 2 ag45 sz45 hs53_3 Z Z) ?_))
 obtain ⟨⟨r88,r89⟩,hr90,h⟩:=bnd h
 have h0_0:=h0_0.mono L53
 have h0_1:=h0_1.mono L53
 have h0_2:=h0_2.mono L53
 have h0_3:=h0_3.mono L53
 have h1_14:=h1_14.mono L53
 have h1_15:=h1_15.mono L53
 have h1_16:=h1_16.mono L53
 have h1_17:=h1_17.mono L53
 refine We (Ca co47 (f_ref15_done_ok a0 a1 _ _ _ _ _ _ _ _ _ h0_0 h0_1 h0_2 h0_3 h1_14 h1_15 h1_16 h1_17 (r88,r89) hr90) (args2 Z Z)) Z ?_
 rintro _ M91 _ hle92 ⟨_,⟨vq93_0,vq93_1,vq93_2,vq93_3,rfl,rfl,hq93_0,hq93_1,hq93_2,hq93_3⟩,rfl⟩
 refine WL.a0 (qu (a29_ r88 vq93_0 vq93_1 vq93_2 vq93_3) (Xt Z Z) (qu (Iv r89) (Xt Z Z) (WL.f1 (We (Sg (v:=(a29_ r88 vq93_0 vq93_1 vq93_2 vq93_3)) (vl:=(l29 r88 vq93_0 vq93_1 vq93_2 vq93_3)) (arr':=(l29 r88 vq93_0 vq93_1 vq93_2 vq93_3)) Z sz29 hs53_4 Z (onesOf (Oc (RS.one hq93_0) (Oc (RS.one hq93_1) (Oc (RS.one hq93_2) (Oc (RS.one hq93_3) (Oc Z Oz)))))) Z Z Z) Z ?_))))
 rintro _ _ _ - ⟨rfl,rfl⟩
 exact qa (Iv r89) (Nt (Cr (Br (Tr (Qa (Dr (Qa (Dr (Qa (Dr (Rd h [] (fun _ hs=>hs.drop) (resultsLN Z (RVs.cons (Rc (cs:=(l29 r88 vq93_0 vq93_1 vq93_2 vq93_3)) 0 ag29 sz29 hs53_4 Z Z) (RVs.cons (RV.tmp Z) RVs.nil))) (L53.trans hle92) ⟨vq93_0,vq93_1,vq93_2,vq93_3,Z,Z,hq93_0,hq93_1,hq93_2,hq93_3⟩)))))))))))
 refine Ck (Bn (Tc (Sr (qu (a29_ a0 v0_0 v0_1 v0_2 v0_3) (La (cs:=(l29 a0 v0_0 v0_1 v0_2 v0_3)) 3 ag29 sz29 hs53_2 Z Z) (WL.f1 ?_)))))
 have h0_0:=h0_0.mono L53
 have h0_1:=h0_1.mono L53
 have h0_2:=h0_2.mono L53
 have h0_3:=h0_3.mono L53
 refine We (Sg (v:=(a29_ a0 v0_0 v0_1 v0_2 v0_3)) (vl:=(l29 a0 v0_0 v0_1 v0_2 v0_3)) (arr':=(l29 a0 v0_0 v0_1 v0_2 v0_3)) Z sz29 hs53_4 Z (onesOf (Oc (RS.one h0_0) (Oc (RS.one h0_1) (Oc (RS.one h0_2) (Oc (RS.one h0_3) (Oc Z Oz)))))) Z Z Z) Z ?_
 rintro _ _ _ - ⟨rfl,rfl⟩
 exact qa (Iv 0) (Nt (Cr (Qa (Dr (Qa (Dr (Qa (Dr (Rd h [] (fun _ hs=>hs.drop) (resultsLN Z (RVs.cons (Rc (cs:=(l29 a0 v0_0 v0_1 v0_2 v0_3)) 0 ag29 sz29 hs53_4 Z Z) (RVs.cons (RV.tmp Z) RVs.nil))) L53 ⟨v0_0,v0_1,v0_2,v0_3,Z,Z,h0_0,h0_1,h0_2,h0_3⟩)))))))))

end Go.Proofs.YtpcbipcdfccnnaaGreat.G
