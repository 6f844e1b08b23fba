/- Go functions: what they come to, and that they do. Printed by a program of the session (gen). -/
import Derived.Test.YtpcbipcdfccnnaaGreatSF
import Derived.Test.YtpcbipcdfccnnaaGreatS2
import Derived.Test.YtpcbipcdfccnnaaGreatS3
import Derived.Test.YtpcbipcdfccnnaaGreatKShar2
import Derived.Test.YtpcbipcdfccnnaaGreatKConv
import Derived.Test.YtpcbipcdfccnnaaGreatKMap
import Derived.Test.YtpcbipcdfccnnaaGreatKShar
import Derived.Test.YtpcbipcdfccnnaaGreatKTight2
set_option linter.unusedVariables false
set_option linter.unusedSimpArgs false
set_option maxHeartbeats 8000000
set_option maxRecDepth 100000
namespace Go.Proofs.YtpcbipcdfccnnaaGreat.G
open Go Go.KK

noncomputable def f_ref15_part (a0:T_api_Image) (a1:T_api_Record):Option (T_api_Image×Int):=
 ((f_ref15_Topic a0 a1.Topic).bind fun(r24,r25)=>(if(!r25)=true then(some (a0,(8:Int)))else((f_ref15_Right a0 (⟨a1.Ids,a1.Isr,a1.Leader,a1.Epoch,a1.Add,a1.Drop⟩:T_api_Part)).bind fun r34=>(if(decide (r34≠(0:Int)))=true then(some (a0,r34))else(if(decide (a1.Kind=(8:Int)))=true then(if(decide (a1.Part≠(r24.Parts.length:Int)))=true then(some (a0,(10:Int)))else((f_ref15_putPart a0 a1.Topic a1.Part (⟨a1.Ids,a1.Isr,a1.Leader,a1.Epoch,a1.Add,a1.Drop⟩:T_api_Part)).bind fun r42=>(some (r42,(0:Int)))))else(if(decide ((r24.Parts.length:Int)≤a1.Part))=true then(some (a0,(8:Int)))else(grd (0≤a1.Part∧a1.Part<r24.Parts.length) (((if(decide (a1.Epoch<((rd r24.Parts a1.Part).Epoch)))=true then(some true)else(if(decide ((IntKind.i64.wrap (((rd r24.Parts a1.Part).Epoch)+(1:Int)))<a1.Epoch))=true then(some true)else(if(decide (a1.Epoch=((rd r24.Parts a1.Part).Epoch)))=true then(some (decide (a1.Leader≠((rd r24.Parts a1.Part).Leader))))else(some false)))):Option Bool).bind fun x58=>(if x58=true then(some (a0,(11:Int)))else((f_ref15_SamePart (rd r24.Parts a1.Part) (⟨a1.Ids,a1.Isr,a1.Leader,a1.Epoch,a1.Add,a1.Drop⟩:T_api_Part)).bind fun r64=>(if r64=true then(some (a0,(10:Int)))else((f_ref15_putPart a0 a1.Topic a1.Part (⟨a1.Ids,a1.Isr,a1.Leader,a1.Epoch,a1.Add,a1.Drop⟩:T_api_Part)).bind fun r70=>(some (r70,(0:Int)))))))))))))))
def f_ref15_part_post (a0:T_api_Image) (a1:T_api_Record) (v0_0 v0_1 v0_2 v0_3 v1_14 v1_15 v1_16 v1_17:Value):(T_api_Image×Int)→Value→IM→HL→Prop:=
 fun(p_:(T_api_Image×Int)) (v:Value) (M':IM) (H':HL)=>match p_ with |(r0,r1)=>∃ vz0_0 vz0_1 vz0_2 vz0_3,(.tuple #[(.agg #[vz0_0,vz0_1,vz0_2,vz0_3,(.int .i64 r0.Last)]),(.int .i64 r1)])=v∧H'=[]∧RS kd_api_Broker M' vz0_0 r0.Brokers∧RS kd_api_Topic M' vz0_1 r0.Topics∧RS kd_api_Config M' vz0_2 r0.Configs∧RS kd_api_Done M' vz0_3 r0.Done
theorem f_ref15_part_ok (a0:T_api_Image) (a1:T_api_Record) (M:IM) (v0_0 v0_1 v0_2 v0_3 v1_14 v1_15 v1_16 v1_17:Value) (h0_0:RS kd_api_Broker M v0_0 a0.Brokers) (h0_1:RS kd_api_Topic M v0_1 a0.Topics) (h0_2:RS kd_api_Config M v0_2 a0.Configs) (h0_3:RS kd_api_Done M v0_3 a0.Done) (h1_14:RS (Kd.int .i64) M v1_14 a1.Ids) (h1_15:RS (Kd.int .i64) M v1_15 a1.Isr) (h1_16:RS (Kd.int .i64) M v1_16 a1.Add) (h1_17:RS (Kd.int .i64) M v1_17 a1.Drop) (res:(T_api_Image×Int)) (h:f_ref15_part a0 a1=some res):
 Tri Tryz.prog 43 #[(a29_ a0 v0_0 v0_1 v0_2 v0_3),(a45_ a1 v1_14 v1_15 v1_16 v1_17)] M [] (f_ref15_part_post a0 a1 v0_0 v0_1 v0_2 v0_3 v1_14 v1_15 v1_16 v1_17 res):=by
 unfold f_ref15_part at h
 refine Te Tryz.func43 Z Z ?_
 intro F ρ hρ
 refine Sr (We (EO.box (cs:=(l29 a0 v0_0 v0_1 v0_2 v0_3).toArray) (congrArg Value.cells (asE (a29_ a0 v0_0 v0_1 v0_2 v0_3) (hρ 0)))) Z ?_)
 rintro _ _ _ - ⟨rfl,g21,rfl,rfl⟩
 refine We (EO.box (cs:=(l45 a1 v1_14 v1_15 v1_16 v1_17).toArray) (congrArg Value.cells (asE (a45_ a1 v1_14 v1_15 v1_16 v1_17) (hρ 1)))) Z ?_
 rintro _ _ _ - ⟨rfl,g22,rfl,rfl⟩
 refine We (Al ze29 Z) Z ?_
 rintro _ _ _ - ⟨rfl,g23,rfl,rfl⟩
 refine qa (Iv 0) (Ns (qu (a29_ a0 v0_0 v0_1 v0_2 v0_3) (La (cs:=(l29 a0 v0_0 v0_1 v0_2 v0_3)) 2 ag29 sz29 Z Z Z) (qu (pt g22 3) (Fa fo45_3 Z Z) (qu (Iv a1.Topic) (Lb 1 pl3 Z Z Z) ?_))))
 obtain ⟨⟨r24,r25⟩,hr26,h⟩:=bnd h
 refine We (Ca co67 (f_ref15_Topic_ok a0 a1.Topic _ _ _ _ _ h0_0 h0_1 h0_2 h0_3 (r24,r25) hr26) (args2 Z Z)) Z ?_
 rintro _ M27 _ hle28 ⟨_,⟨vq29_2,rfl,rfl,hq29_2⟩,rfl⟩
 refine WL.a0 (qm (.tuple #[(a52_ r24 vq29_2),(Bv r25)]) (qu (a52_ r24 vq29_2) (Xt Z Z) (qu (Bv r25) (Xt Z Z) (We (Al ze52 Z) Z ?_))))
 rintro _ _ _ - ⟨rfl,g31,rfl,rfl⟩
 refine We (Sg (v:=(a52_ r24 vq29_2)) (vl:=(l52 r24 vq29_2)) (arr':=(l52 r24 vq29_2)) Z sz52 Z Z (onesOf (Oc Z (Oc Z (Oc (RS.one hq29_2) Oz)))) Z Z Z) Z ?_
 rintro _ _ _ - ⟨rfl,rfl⟩
 refine qa (Bv r25) (Nt (Cs (Sr (qm (Bv r25) (qu (Bv (!r25)) (PO.not Z) (Nt (Ch h Z (fun hb32 h=> ?_) (fun hb32 h=> ?_))))))))
 refine Sr (qu (a29_ a0 v0_0 v0_1 v0_2 v0_3) (La (cs:=(l29 a0 v0_0 v0_1 v0_2 v0_3)) 3 ag29 sz29 Z Z Z) (WL.f1 ?_))
 have h0_0:=h0_0.mono hle28
 have h0_1:=h0_1.mono hle28
 have h0_2:=h0_2.mono hle28
 have h0_3:=h0_3.mono hle28
 refine We (Sg (v:=(a29_ a0 v0_0 v0_1 v0_2 v0_3)) (vl:=(l29 a0 v0_0 v0_1 v0_2 v0_3)) (arr':=(l29 a0 v0_0 v0_1 v0_2 v0_3)) Z sz29 Z Z (onesOf (Oc (RS.one h0_0) (Oc (RS.one h0_1) (Oc (RS.one h0_2) (Oc (RS.one h0_3) (Oc Z Oz)))))) Z Z Z) Z ?_
 rintro _ _ _ - ⟨rfl,rfl⟩
 exact qa (Iv 8) (Nt (Cr (Tr (Qa (Dr (Qa (Dr (Qa (Dr (Rd h [] (fun _ hs=>hs.drop) (resultsLN Z (RVs.cons (Rc (cs:=(l29 a0 v0_0 v0_1 v0_2 v0_3)) 0 ag29 sz29 Z Z Z) (RVs.cons (RV.tmp Z) RVs.nil))) hle28 ⟨v0_0,v0_1,v0_2,v0_3,Z,Z,h0_0,h0_1,h0_2,h0_3⟩))))))))))
 refine Ck (Tc (Sr (qu (pt g22 14) (Fa fo45_14 Z Z) (qu v1_14 (Lb 2 pl43 Z Z Z) (qu (pt g22 15) (Fa fo45_15 Z Z) (qu v1_15 (Lb 2 pl43 Z Z Z) (qu (pt g22 5) (Fa fo45_5 Z Z) (qu (Iv a1.Leader) (Lb 2 pl3 Z Z Z) (qu (pt g22 2) (Fa fo45_2 Z Z) (qu (Iv a1.Epoch) (Lb 2 pl3 Z Z Z) (qu (pt g22 16) (Fa fo45_16 Z Z) ?_)))))))))))
 refine qu v1_16 (Lb 2 pl43 Z Z Z) (qu (pt g22 17) (Fa fo45_17 Z Z) (qu v1_17 (Lb 2 pl43 Z Z Z) ?_))
 have h1_14:=h1_14.mono hle28
 have h1_15:=h1_15.mono hle28
 have h1_16:=h1_16.mono hle28
 have h1_17:=h1_17.mono hle28
 refine qu (.agg #[v1_14,v1_15,(Iv a1.Leader),(Iv a1.Epoch),v1_16,v1_17]) (Bl (cl:=[v1_14,v1_15,(Iv a1.Leader),(Iv a1.Epoch),v1_16,v1_17]) ze54 fp54 (Parts.cons ((congrArg Value.cells (show ev _ _=v1_14 from Z)).trans h1_14.cells) (Parts.cons ((congrArg Value.cells (show ev _ _=v1_15 from Z)).trans h1_15.cells) (Pc (Iv a1.Leader) Z Z (Pc (Iv a1.Epoch) Z Z (Parts.cons ((congrArg Value.cells (show ev _ _=v1_16 from Z)).trans h1_16.cells) (Parts.cons ((congrArg Value.cells (show ev _ _=v1_17 from Z)).trans h1_17.cells) Pz)))))) Z) (We (Al ze54 Z) Z ?_)
 rintro _ _ _ - ⟨rfl,g33,rfl,rfl⟩
 refine We (Sg (v:=(.agg #[v1_14,v1_15,(Iv a1.Leader),(Iv a1.Epoch),v1_16,v1_17])) (vl:=[v1_14,v1_15,(Iv a1.Leader),(Iv a1.Epoch),v1_16,v1_17]) (arr':=[v1_14,v1_15,(Iv a1.Leader),(Iv a1.Epoch),v1_16,v1_17]) Z sz54 Z Z (onesOf (Oc (RS.one h1_14) (Oc (RS.one h1_15) (Oc Z (Oc Z (Oc (RS.one h1_16) (Oc (RS.one h1_17) Oz))))))) Z Z Z) Z ?_
 rintro _ _ _ - ⟨rfl,rfl⟩
 refine Nt (Cs (Sr (qu (a29_ a0 v0_0 v0_1 v0_2 v0_3) (La (cs:=(l29 a0 v0_0 v0_1 v0_2 v0_3)) 4 ag29 sz29 Z Z Z) (qu (.agg #[v1_14,v1_15,(Iv a1.Leader),(Iv a1.Epoch),v1_16,v1_17]) (La (cs:=[v1_14,v1_15,(Iv a1.Leader),(Iv a1.Epoch),v1_16,v1_17]) 0 ag54 sz54 Z Z Z) ?_))))
 obtain ⟨r34,hr35,h⟩:=bnd h
 have h0_0:=h0_0.mono hle28
 have h0_1:=h0_1.mono hle28
 have h0_2:=h0_2.mono hle28
 have h0_3:=h0_3.mono hle28
 refine We (Ca co68 (f_ref15_Right_ok a0 (⟨a1.Ids,a1.Isr,a1.Leader,a1.Epoch,a1.Add,a1.Drop⟩:T_api_Part) _ _ _ _ _ _ _ _ _ h0_0 h0_1 h0_2 h0_3 h1_14 h1_15 h1_16 h1_17 r34 hr35) (args2 Z Z)) Z ?_
 rintro _ M36 _ hle37 ⟨_,⟨rfl,rfl⟩,rfl⟩
 have L37:=hle28.trans hle37
 refine WL.a0 (qa (Iv r34) (Ns (qm (Iv r34) (qu (Bv (decide (r34≠0))) (PO.neq Z Z) (Nt (Ch h Z (fun hb39 h=> ?_) (fun hb39 h=> ?_)))))))
 refine Sr (qu (a29_ a0 v0_0 v0_1 v0_2 v0_3) (La (cs:=(l29 a0 v0_0 v0_1 v0_2 v0_3)) 4 ag29 sz29 Z Z Z) (qm (Iv r34) (Wb ?_)))
 have h0_0:=h0_0.mono hle37
 have h0_1:=h0_1.mono hle37
 have h0_2:=h0_2.mono hle37
 have h0_3:=h0_3.mono hle37
 refine We (Sg (v:=(a29_ a0 v0_0 v0_1 v0_2 v0_3)) (vl:=(l29 a0 v0_0 v0_1 v0_2 v0_3)) (arr':=(l29 a0 v0_0 v0_1 v0_2 v0_3)) Z sz29 Z Z (onesOf (Oc (RS.one h0_0) (Oc (RS.one h0_1) (Oc (RS.one h0_2) (Oc (RS.one h0_3) (Oc Z Oz)))))) Z Z Z) Z ?_
 rintro _ _ _ - ⟨rfl,rfl⟩
 refine qa (Iv r34) (Nt (Cr (Tr (Qa (Dr (Qa (Dr (Qa (Dr (Qa (Dr ?_)))))))))))
 exact Rd h [] (fun _ hs=>hs.drop) (resultsLN Z (RVs.cons (Rc (cs:=(l29 a0 v0_0 v0_1 v0_2 v0_3)) 0 ag29 sz29 Z Z Z) (RVs.cons (RV.tmp Z) RVs.nil))) L37 ⟨v0_0,v0_1,v0_2,v0_3,Z,Z,h0_0,h0_1,h0_2,h0_3⟩
 refine Ck (Tc (Cs (Sr (qu (pt g22 0) (Fa fo45_0 Z Z) (qu (Iv a1.Kind) (Lb 3 pl3 Z Z Z) (qu (Bv (decide (a1.Kind=8))) (PO.eql Z Z) (Nt (Ch h Z (fun hb40 h=> ?_) (fun hb40 h=> ?_)))))))))
 refine Cs (Sr (qu (pt g22 4) (Fa fo45_4 Z Z) (qu (Iv a1.Part) (Lb 3 pl3 Z Z Z) (qu (pt g31 2) (Fa fo52_2 Z Z) (qu vq29_2 (Lb 1 pl50 Z Z Z) ?_)))))
 have hq29_2:=hq29_2.mono hle37
 refine qu (Iv (r24.Parts.length:Int)) (PO.lenS Tryz.underlying50 Z hq29_2.len) (qu (Bv (decide (a1.Part≠(r24.Parts.length:Int)))) (PO.neq Z Z) (Nt (Ch h Z (fun hb41 h=> ?_) (fun hb41 h=> ?_))))
 refine Sr (qu (a29_ a0 v0_0 v0_1 v0_2 v0_3) (La (cs:=(l29 a0 v0_0 v0_1 v0_2 v0_3)) 4 ag29 sz29 Z Z Z) (Wb ?_))
 have h0_0:=h0_0.mono hle37
 have h0_1:=h0_1.mono hle37
 have h0_2:=h0_2.mono hle37
 have h0_3:=h0_3.mono hle37
 refine We (Sg (v:=(a29_ a0 v0_0 v0_1 v0_2 v0_3)) (vl:=(l29 a0 v0_0 v0_1 v0_2 v0_3)) (arr':=(l29 a0 v0_0 v0_1 v0_2 v0_3)) Z sz29 Z Z (onesOf (Oc (RS.one h0_0) (Oc (RS.one h0_1) (Oc (RS.one h0_2) (Oc (RS.one h0_3) (Oc Z Oz)))))) Z Z Z) Z ?_
 rintro _ _ _ - ⟨rfl,rfl⟩
 refine qa (Iv 10) (Nt (Cr (Tr (Tr (Qa (Dr (Qa (Dr (Qa (Dr (Qa ?_)))))))))))
 exact Dr (Rd h [] (fun _ hs=>hs.drop) (resultsLN Z (RVs.cons (Rc (cs:=(l29 a0 v0_0 v0_1 v0_2 v0_3)) 0 ag29 sz29 Z Z Z) (RVs.cons (RV.tmp Z) RVs.nil))) L37 ⟨v0_0,v0_1,v0_2,v0_3,Z,Z,h0_0,h0_1,h0_2,h0_3⟩)
 refine Ck (Tc (Sr (qu (a29_ a0 v0_0 v0_1 v0_2 v0_3) (La (cs:=(l29 a0 v0_0 v0_1 v0_2 v0_3)) 4 ag29 sz29 Z Z Z) (qu (pt g22 3) (Fa fo45_3 Z Z) (qu (Iv a1.Topic) (Lb 3 pl3 Z Z Z) (qu (pt g22 4) (Fa fo45_4 Z Z) (qu (Iv a1.Part) (Lb 3 pl3 Z Z Z) (qu (.agg #[v1_14,v1_15,(Iv a1.Leader),(Iv a1.Epoch),v1_16,v1_17]) (La (cs:=[v1_14,v1_15,(Iv a1.Leader),(Iv a1.Epoch),v1_16,v1_17]) 0 ag54 sz54 Z Z Z) ?_))))))))
 obtain ⟨r42,hr43,h⟩:=bnd h
 have h0_0:=h0_0.mono hle37
 have h0_1:=h0_1.mono hle37
 have h0_2:=h0_2.mono hle37
 have h0_3:=h0_3.mono hle37
 have h1_14:=h1_14.mono hle37
 have h1_15:=h1_15.mono hle37
 have h1_16:=h1_16.mono hle37
 have h1_17:=h1_17.mono hle37
 refine We (Ca co69 (f_ref15_putPart_ok a0 a1.Topic a1.Part (⟨a1.Ids,a1.Isr,a1.Leader,a1.Epoch,a1.Add,a1.Drop⟩:T_api_Part) _ _ _ _ _ _ _ _ _ h0_0 h0_1 h0_2 h0_3 h1_14 h1_15 h1_16 h1_17 r42 hr43) (args4 Z Z Z Z)) Z ?_
 rintro _ M44 _ hle45 ⟨_,⟨vq46_0,vq46_1,cq46_1,vq46_2,vq46_3,rfl,rfl,hq46_0,hq46_1,hq46_2,hq46_3⟩,rfl⟩
 refine WL.a1 (WL.f3 (We (Sg (v:=(a29_ r42 vq46_0 vq46_1 vq46_2 vq46_3)) (vl:=(l29 r42 vq46_0 vq46_1 vq46_2 vq46_3)) (arr':=(l29 r42 vq46_0 vq46_1 vq46_2 vq46_3)) Z sz29 Z Z (onesOf (Oc (RS.one hq46_0) (Oc (Ow hq46_1) (Oc (RS.one hq46_2) (Oc (RS.one hq46_3) (Oc Z Oz)))))) Z Z Z) Z ?_))
 rintro _ _ _ - ⟨rfl,rfl⟩
 refine qa (Iv 0) (Nt (Cr (Tr (Qa (WQ.know (fun _ hs=>hq46_1.rs hs) (fun hf48=> ?_))))))
 refine WQ.freeze (fun hle47=> ?_)
 refine Qa (Dr (Qa (Dr (Qa (Dr (Qa (Dr ?_)))))))
 have hq46_0:=hq46_0.mono hle47
 have hq46_2:=hq46_2.mono hle47
 have hq46_3:=hq46_3.mono hle47
 exact Rd h [] (fun _ hs=>hs.drop) (resultsLN Z (RVs.cons (Rc (cs:=(l29 r42 vq46_0 vq46_1 vq46_2 vq46_3)) 0 ag29 sz29 Z Z Z) (RVs.cons (RV.tmp Z) RVs.nil))) ((L37.trans hle45).trans hle47) ⟨vq46_0,vq46_1,vq46_2,vq46_3,Z,Z,hq46_0,hf48,hq46_2,hq46_3⟩
 refine Ck (Tc (Cs (Sr (qu (pt g22 4) (Fa fo45_4 Z Z) (qu (Iv a1.Part) (Lb 3 pl3 Z Z Z) (qu (pt g31 2) (Fa fo52_2 Z Z) (qu vq29_2 (Lb 1 pl50 Z Z Z) ?_)))))))
 have hq29_2:=hq29_2.mono hle37
 refine qu (Iv (r24.Parts.length:Int)) (PO.lenS Tryz.underlying50 Z hq29_2.len) (qu (Bv (decide ((r24.Parts.length:Int)≤a1.Part))) (PO.geq Z Z) (Nt (Ch h Z (fun hb49 h=> ?_) (fun hb49 h=> ?_))))
 refine Sr (qu (a29_ a0 v0_0 v0_1 v0_2 v0_3) (La (cs:=(l29 a0 v0_0 v0_1 v0_2 v0_3)) 4 ag29 sz29 Z Z Z) (Wb ?_))
 have h0_0:=h0_0.mono hle37
 have h0_1:=h0_1.mono hle37
 have h0_2:=h0_2.mono hle37
 have h0_3:=h0_3.mono hle37
 refine We (Sg (v:=(a29_ a0 v0_0 v0_1 v0_2 v0_3)) (vl:=(l29 a0 v0_0 v0_1 v0_2 v0_3)) (arr':=(l29 a0 v0_0 v0_1 v0_2 v0_3)) Z sz29 Z Z (onesOf (Oc (RS.one h0_0) (Oc (RS.one h0_1) (Oc (RS.one h0_2) (Oc (RS.one h0_3) (Oc Z Oz)))))) Z Z Z) Z ?_
 rintro _ _ _ - ⟨rfl,rfl⟩
 refine qa (Iv 8) (Nt (Cr (Tr (Qa (Dr (Qa (Dr (Qa (Dr (Qa (Dr ?_)))))))))))
 exact Rd h [] (fun _ hs=>hs.drop) (resultsLN Z (RVs.cons (Rc (cs:=(l29 a0 v0_0 v0_1 v0_2 v0_3)) 0 ag29 sz29 Z Z Z) (RVs.cons (RV.tmp Z) RVs.nil))) L37 ⟨v0_0,v0_1,v0_2,v0_3,Z,Z,h0_0,h0_1,h0_2,h0_3⟩
 refine Ck (Tc (Sr (qu (pt g31 2) (Fa fo52_2 Z Z) (qu vq29_2 (Lb 1 pl50 Z Z Z) (qu (pt g22 4) (Fa fo45_4 Z Z) (qu (Iv a1.Part) (Lb 3 pl3 Z Z Z) ?_))))))
 obtain ⟨hg50,h⟩:=grd_i h
 obtain ⟨p51,cs52,hat53,hrc54,hhas55⟩:=hq29_2.at hg50.1 hg50.2 (by decide)
 obtain ⟨vw56_0,vw56_1,vw56_4,vw56_5,rfl,hw56_0,hw56_1,hw56_4,hw56_5⟩:=kd_api_Part_open hrc54
 refine qu (.pointer (some p51)) (PO.indexAddr (n:=r24.Parts.length) Tryz.underlying50 sz54 Z Z hg50.1 hg50.2 hat53) (qu (a54_ (rd r24.Parts a1.Part) vw56_0 vw56_1 vw56_4 vw56_5) (PO.loadMA (cs:=(l54 (rd r24.Parts a1.Part) vw56_0 vw56_1 vw56_4 vw56_5)) ag54 sz54 Z hhas55) (We (Al ze54 Z) Z ?_))
 rintro _ _ _ - ⟨rfl,g57,rfl,rfl⟩
 refine We (Sg (v:=(a54_ (rd r24.Parts a1.Part) vw56_0 vw56_1 vw56_4 vw56_5)) (vl:=(l54 (rd r24.Parts a1.Part) vw56_0 vw56_1 vw56_4 vw56_5)) (arr':=(l54 (rd r24.Parts a1.Part) vw56_0 vw56_1 vw56_4 vw56_5)) Z sz54 Z Z (onesOf (Oc (RS.one hw56_0) (Oc (RS.one hw56_1) (Oc Z (Oc Z (Oc (RS.one hw56_4) (Oc (RS.one hw56_5) Oz))))))) Z Z Z) Z ?_
 rintro _ _ _ - ⟨rfl,rfl⟩
 refine Nt (Cs ?_)
 obtain ⟨x58,hj59,h⟩:=bnd h
 refine Jf (fun(x58:Bool) ρ' M' H'=>M36.le M'∧[(g57, .cells (l54 (rd r24.Parts a1.Part) vw56_0 vw56_1 vw56_4 vw56_5).toArray 54 (0,0))]::[(g33, .cells #[v1_14,v1_15,(Iv a1.Leader),(Iv a1.Epoch),v1_16,v1_17] 54 (0,0))]::[(g31, .cells (l52 r24 vq29_2).toArray 52 (0,0))]::[(g23, .cells z29_.toArray 29 (0,0))]::[(g22, .cells (l45 a1 v1_14 v1_15 v1_16 v1_17).toArray 45 (0,0))]::[(g21, .cells (l29 a0 v0_0 v0_1 v0_2 v0_3).toArray 29 (0,0))]::F=H'∧ρ' 2=(pt g21 0)∧ρ' 3=(pt g22 0)∧ρ' 4=(pt g23 0)∧ρ' 8=(pt g33 0)∧ρ' 10=(pt g57 0)∧ρ' 97=(Bv x58)) x58 ?_ ?_
 have h:=hj59
 refine Cg (qu (pt g22 2) (Fa fo45_2 Z Z) (qu (Iv a1.Epoch) (Lb 4 pl3 Z Z Z) (qu (pt g57 3) (Fa fo54_3 Z Z) (qu (Iv ((rd r24.Parts a1.Part).Epoch)) (Lb 0 pl3 Z Z Z) (qu (Bv (decide (a1.Epoch<((rd r24.Parts a1.Part).Epoch)))) (PO.lss Z Z) (qm (Bv (decide (a1.Epoch<((rd r24.Parts a1.Part).Epoch)))) ?_))))))
 rcases Bi h with⟨hb60,h⟩ |⟨hb60,h⟩
 iterate 6 refine Of 76 Z Z hb60 Z ?_
 refine qu (Bv true) (Pt Z hb60 Z) (qm (Bv true) ?_)
 iterate 6 refine Of 84 Z Z Z Z ?_
 refine WL.offU 90 Z Z Z (WL.offU 90 Z Z Z (WL.offU 90 Z Z Z (WL.offU 90 Z Z Z (WL.offU 90 Z Z Z (Of 84 Z Z Z Z (qu (Bv true) (Pt Z Z Z) (Wz ?_)))))))
 obtain rfl:=oi h
 exact Tj ⟨lr,Z,Z,Z,Z,Z,Z,Z⟩
 refine qo 76 hb60 (pt g22 2) (Fa fo45_2 Z Z) (qo 76 hb60 (Iv a1.Epoch) (Lb 4 pl3 Z Z Z) (qo 76 hb60 (pt g57 3) (Fa fo54_3 Z Z) (qo 76 hb60 (Iv ((rd r24.Parts a1.Part).Epoch)) (Lb 0 pl3 Z Z Z) (qo 76 hb60 (Iv (IntKind.i64.wrap (((rd r24.Parts a1.Part).Epoch)+1))) (PO.add Z Z) (qo 76 hb60 (Bv (decide ((IntKind.i64.wrap (((rd r24.Parts a1.Part).Epoch)+1))<a1.Epoch))) (PO.gtr Z Z) (qu (Bv (decide ((IntKind.i64.wrap (((rd r24.Parts a1.Part).Epoch)+1))<a1.Epoch))) (Pf Z hb60 Z) (qm (Bv (decide ((IntKind.i64.wrap (((rd r24.Parts a1.Part).Epoch)+1))<a1.Epoch))) ?_)))))))
 rcases Bi h with⟨hb61,h⟩ |⟨hb61,h⟩
 iterate 6 refine Of 84 Z Z hb61 Z ?_
 refine WL.offU 90 Z Z Z (WL.offU 90 Z Z Z (WL.offU 90 Z Z Z (WL.offU 90 Z Z Z (WL.offU 90 Z Z Z (Of 84 Z Z hb61 Z (qu (Bv true) (Pt Z hb61 Z) (Wz ?_)))))))
 obtain rfl:=oi h
 exact Tj ⟨lr,Z,Z,Z,Z,Z,Z,Z⟩
 refine qo 84 hb61 (pt g22 2) (Fa fo45_2 Z Z) (qo 84 hb61 (Iv a1.Epoch) (Lb 4 pl3 Z Z Z) (qo 84 hb61 (pt g57 3) (Fa fo54_3 Z Z) (qo 84 hb61 (Iv ((rd r24.Parts a1.Part).Epoch)) (Lb 0 pl3 Z Z Z) (qo 84 hb61 (Bv (decide (a1.Epoch=((rd r24.Parts a1.Part).Epoch)))) (PO.eql Z Z) (On 84 Z Z hb61 (qm (Bv (decide (a1.Epoch=((rd r24.Parts a1.Part).Epoch)))) ?_))))))
 rcases Bi h with⟨hb62,h⟩ |⟨hb62,h⟩
 refine qo 90 hb62 (pt g22 5) (Fa fo45_5 Z Z) (qo 90 hb62 (Iv a1.Leader) (Lb 4 pl3 Z Z Z) (qo 90 hb62 (pt g57 2) (Fa fo54_2 Z Z) (qo 90 hb62 (Iv ((rd r24.Parts a1.Part).Leader)) (Lb 0 pl3 Z Z Z) (qo 90 hb62 (Bv (decide (a1.Leader≠((rd r24.Parts a1.Part).Leader)))) (PO.neq Z Z) (qo 84 hb61 (Bv (decide (a1.Leader≠((rd r24.Parts a1.Part).Leader)))) (Pt Z hb62 Z) (qu (Bv (decide (a1.Leader≠((rd r24.Parts a1.Part).Leader)))) (Pf Z hb61 Z) (Wz ?_)))))))
 obtain rfl:=oi h
 exact Tj ⟨lr,Z,Z,Z,Z,Z,Z,Z⟩
 iterate 5 refine Of 90 Z Z hb62 Z ?_
 refine qo 84 hb61 (Bv false) (Pf Z hb62 Z) (qu (Bv false) (Pf Z hb61 Z) (Wz ?_))
 obtain rfl:=oi h
 exact Tj ⟨lr,Z,Z,Z,Z,Z,Z,Z⟩
 rintro ρ59 M59 H59 ⟨hle59,rfl,hs59_2,hs59_3,hs59_4,hs59_8,hs59_10,hs59_97⟩
 have L59:=hle37.trans hle59
 refine Ch h hs59_97 (fun hb63 h=> ?_) (fun hb63 h=> ?_)
 refine Sr (qu (a29_ a0 v0_0 v0_1 v0_2 v0_3) (La (cs:=(l29 a0 v0_0 v0_1 v0_2 v0_3)) 5 ag29 sz29 hs59_2 Z Z) (WL.f3 ?_))
 have h0_0:=h0_0.mono L59
 have h0_1:=h0_1.mono L59
 have h0_2:=h0_2.mono L59
 have h0_3:=h0_3.mono L59
 refine We (Sg (v:=(a29_ a0 v0_0 v0_1 v0_2 v0_3)) (vl:=(l29 a0 v0_0 v0_1 v0_2 v0_3)) (arr':=(l29 a0 v0_0 v0_1 v0_2 v0_3)) Z sz29 hs59_4 Z (onesOf (Oc (RS.one h0_0) (Oc (RS.one h0_1) (Oc (RS.one h0_2) (Oc (RS.one h0_3) (Oc Z Oz)))))) Z Z Z) Z ?_
 rintro _ _ _ - ⟨rfl,rfl⟩
 refine qa (Iv 11) (Nt (Cr (Tr (Qa (Dr (Qa (Dr (Qa (Dr (Qa (Dr ?_)))))))))))
 exact Qa (Dr (Rd h [] (fun _ hs=>hs.drop) (resultsLN Z (RVs.cons (Rc (cs:=(l29 a0 v0_0 v0_1 v0_2 v0_3)) 0 ag29 sz29 hs59_4 Z Z) (RVs.cons (RV.tmp Z) RVs.nil))) (L37.trans hle59) ⟨v0_0,v0_1,v0_2,v0_3,Z,Z,h0_0,h0_1,h0_2,h0_3⟩))
 refine Ck (Tc (Cs (Sr (qu (a54_ (rd r24.Parts a1.Part) vw56_0 vw56_1 vw56_4 vw56_5) (La (cs:=(l54 (rd r24.Parts a1.Part) vw56_0 vw56_1 vw56_4 vw56_5)) 0 ag54 sz54 hs59_10 Z Z) (qu (.agg #[v1_14,v1_15,(Iv a1.Leader),(Iv a1.Epoch),v1_16,v1_17]) (La (cs:=[v1_14,v1_15,(Iv a1.Leader),(Iv a1.Epoch),v1_16,v1_17]) 1 ag54 sz54 hs59_8 Z Z) ?_)))))
 obtain ⟨r64,hr65,h⟩:=bnd h
 have hw56_0:=hw56_0.mono hle59
 have hw56_1:=hw56_1.mono hle59
 have hw56_4:=hw56_4.mono hle59
 have hw56_5:=hw56_5.mono hle59
 have h1_14:=h1_14.mono L59
 have h1_15:=h1_15.mono L59
 have h1_16:=h1_16.mono L59
 have h1_17:=h1_17.mono L59
 refine We (Ca co58 (f_ref15_SamePart_ok (rd r24.Parts a1.Part) (⟨a1.Ids,a1.Isr,a1.Leader,a1.Epoch,a1.Add,a1.Drop⟩:T_api_Part) _ _ _ _ _ _ _ _ _ hw56_0 hw56_1 hw56_4 hw56_5 h1_14 h1_15 h1_16 h1_17 r64 hr65) (args2 Z Z)) Z ?_
 rintro _ M66 _ hle67 ⟨_,⟨rfl,rfl⟩,rfl⟩
 have L67:=L59.trans hle67
 refine WL.a0 (Nt (Ch h Z (fun hb69 h=> ?_) (fun hb69 h=> ?_)))
 refine Sr (qu (a29_ a0 v0_0 v0_1 v0_2 v0_3) (La (cs:=(l29 a0 v0_0 v0_1 v0_2 v0_3)) 5 ag29 sz29 hs59_2 Z Z) (WL.f3 ?_))
 have h0_0:=h0_0.mono L67
 have h0_1:=h0_1.mono L67
 have h0_2:=h0_2.mono L67
 have h0_3:=h0_3.mono L67
 refine We (Sg (v:=(a29_ a0 v0_0 v0_1 v0_2 v0_3)) (vl:=(l29 a0 v0_0 v0_1 v0_2 v0_3)) (arr':=(l29 a0 v0_0 v0_1 v0_2 v0_3)) Z sz29 hs59_4 Z (onesOf (Oc (RS.one h0_0) (Oc (RS.one h0_1) (Oc (RS.one h0_2) (Oc (RS.one h0_3) (Oc Z Oz)))))) Z Z Z) Z ?_
 rintro _ _ _ - ⟨rfl,rfl⟩
 refine qa (Iv 10) (Nt (Cr (Tr (Qa (Dr (Qa (Dr (Qa (Dr (Qa (Dr ?_)))))))))))
 exact Qa (Dr (Rd h [] (fun _ hs=>hs.drop) (resultsLN Z (RVs.cons (Rc (cs:=(l29 a0 v0_0 v0_1 v0_2 v0_3)) 0 ag29 sz29 hs59_4 Z Z) (RVs.cons (RV.tmp Z) RVs.nil))) ((L37.trans hle59).trans hle67) ⟨v0_0,v0_1,v0_2,v0_3,Z,Z,h0_0,h0_1,h0_2,h0_3⟩))
 refine Ck (Tc (Sr (qu (a29_ a0 v0_0 v0_1 v0_2 v0_3) (La (cs:=(l29 a0 v0_0 v0_1 v0_2 v0_3)) 5 ag29 sz29 hs59_2 Z Z) (qu (pt g22 3) (Fa fo45_3 hs59_3 Z) (qu (Iv a1.Topic) (Lb 4 pl3 Z Z Z) (qu (pt g22 4) (Fa fo45_4 hs59_3 Z) (qu (Iv a1.Part) (Lb 4 pl3 Z Z Z) (qu (.agg #[v1_14,v1_15,(Iv a1.Leader),(Iv a1.Epoch),v1_16,v1_17]) (La (cs:=[v1_14,v1_15,(Iv a1.Leader),(Iv a1.Epoch),v1_16,v1_17]) 1 ag54 sz54 hs59_8 Z Z) ?_))))))))
 obtain ⟨r70,hr71,h⟩:=bnd h
 have h0_0:=h0_0.mono L67
 have h0_1:=h0_1.mono L67
 have h0_2:=h0_2.mono L67
 have h0_3:=h0_3.mono L67
 have h1_14:=h1_14.mono hle67
 have h1_15:=h1_15.mono hle67
 have h1_16:=h1_16.mono hle67
 have h1_17:=h1_17.mono hle67
 refine We (Ca co69 (f_ref15_putPart_ok a0 a1.Topic a1.Part (⟨a1.Ids,a1.Isr,a1.Leader,a1.Epoch,a1.Add,a1.Drop⟩:T_api_Part) _ _ _ _ _ _ _ _ _ h0_0 h0_1 h0_2 h0_3 h1_14 h1_15 h1_16 h1_17 r70 hr71) (args4 Z Z Z Z)) Z ?_
 rintro _ M72 _ hle73 ⟨_,⟨vq74_0,vq74_1,cq74_1,vq74_2,vq74_3,rfl,rfl,hq74_0,hq74_1,hq74_2,hq74_3⟩,rfl⟩
 refine WL.a1 (WL.f4 (We (Sg (v:=(a29_ r70 vq74_0 vq74_1 vq74_2 vq74_3)) (vl:=(l29 r70 vq74_0 vq74_1 vq74_2 vq74_3)) (arr':=(l29 r70 vq74_0 vq74_1 vq74_2 vq74_3)) Z sz29 hs59_4 Z (onesOf (Oc (RS.one hq74_0) (Oc (Ow hq74_1) (Oc (RS.one hq74_2) (Oc (RS.one hq74_3) (Oc Z Oz)))))) Z Z Z) Z ?_))
 rintro _ _ _ - ⟨rfl,rfl⟩
 refine qa (Iv 0) (Nt (Cr (Qa (WQ.know (fun _ hs=>hq74_1.rs hs) (fun hf76=> ?_)))))
 refine WQ.freeze (fun hle75=> ?_)
 refine Qa (Dr (Qa (Dr (Qa (Dr (Qa (Dr (Qa (Dr ?_)))))))))
 have hq74_0:=hq74_0.mono hle75
 have hq74_2:=hq74_2.mono hle75
 have hq74_3:=hq74_3.mono hle75
 exact Rd h [] (fun _ hs=>hs.drop) (resultsLN Z (RVs.cons (Rc (cs:=(l29 r70 vq74_0 vq74_1 vq74_2 vq74_3)) 0 ag29 sz29 hs59_4 Z Z) (RVs.cons (RV.tmp Z) RVs.nil))) ((((L37.trans hle59).trans hle67).trans hle73).trans hle75) ⟨vq74_0,vq74_1,vq74_2,vq74_3,Z,Z,hq74_0,hf76,hq74_2,hq74_3⟩
noncomputable def f_ref15_Named_l0 (a0:T_api_Image) (a1:ByteArray) (s_:Int):Option (Int⊕(Unit⊕(Int×ByteArray×(List T_api_Part)))):=
 match s_ with
 |x25=>
 (if(decide (x25<(a0.Topics.length:Int)))=true then(grd (0≤x25∧x25<a0.Topics.length) (if(decide (((rd a0.Topics x25).Name)=a1))=true then(grd (0≤x25∧x25<a0.Topics.length) (some (Sum.inr (Sum.inr ((rd a0.Topics x25).Id,(rd a0.Topics x25).Name,(rd a0.Topics x25).Parts)))))else(some (Sum.inl (IntKind.i64.wrap (x25+(1:Int)))))))else(some (Sum.inr (Sum.inl ()))))
noncomputable def f_ref15_Named (a0:T_api_Image) (a1:ByteArray):Option (T_api_Topic×Bool):=
 ((((iter (f_ref15_Named_l0 a0 a1) (0:Int)).bind (Sum.elim (fun _=>(some (Sum.inl ()))) (fun(x26,x27,x28)=>(((some ((⟨x26,x27,x28⟩:T_api_Topic),true))).bind fun r=>some (Sum.inr r))))):Option (Unit⊕(T_api_Topic×Bool))).bind (Sum.elim (fun _=>(some ((⟨(0:Int),(⟨#[]⟩:ByteArray),[]⟩:T_api_Topic),false))) some))
def f_ref15_Named_post (a0:T_api_Image) (a1:ByteArray) (v0_0 v0_1 v0_2 v0_3:Value):(T_api_Topic×Bool)→Value→IM→HL→Prop:=
 fun(p_:(T_api_Topic×Bool)) (v:Value) (M':IM) (H':HL)=>match p_ with |(r0,r1)=>∃ vz0_2,(.tuple #[(.agg #[(.int .i64 r0.Id),(.string r0.Name),vz0_2]),(.bool r1)])=v∧H'=[]∧RS kd_api_Part M' vz0_2 r0.Parts
theorem f_ref15_Named_ok (a0:T_api_Image) (a1:ByteArray) (M:IM) (v0_0 v0_1 v0_2 v0_3:Value) (h0_0:RS kd_api_Broker M v0_0 a0.Brokers) (h0_1:RS kd_api_Topic M v0_1 a0.Topics) (h0_2:RS kd_api_Config M v0_2 a0.Configs) (h0_3:RS kd_api_Done M v0_3 a0.Done) (res:(T_api_Topic×Bool)) (h:f_ref15_Named a0 a1=some res):
 Tri Tryz.prog 70 #[(a29_ a0 v0_0 v0_1 v0_2 v0_3),(Sv a1)] M [] (f_ref15_Named_post a0 a1 v0_0 v0_1 v0_2 v0_3 res):=by
 unfold f_ref15_Named at h
 refine Te Tryz.func70 Z Z ?_
 intro F ρ hρ
 refine Sr (We (EO.box (cs:=(l29 a0 v0_0 v0_1 v0_2 v0_3).toArray) (congrArg Value.cells (asE (a29_ a0 v0_0 v0_1 v0_2 v0_3) (hρ 0)))) Z ?_)
 rintro _ _ _ - ⟨rfl,g21,rfl,rfl⟩
 refine We (Al ze52 Z) Z ?_
 rintro _ _ _ - ⟨rfl,g22,rfl,rfl⟩
 refine qa (Bv false) (Nt ?_)
 obtain ⟨j23,hj23,h⟩:=bnd h
 refine WC.joinE (fun(_:Unit) ρ' M' H'=>M.le M'∧[(g22, .cells #[(Iv 0),(Sv ⟨#[]⟩),Zs] 52 (0,0))]::[(g21, .cells (l29 a0 v0_0 v0_1 v0_2 v0_3).toArray 29 (0,0))]::F=H'∧ρ' 4=(pt g22 0)) j23 ?_ ?_
 have h323:=h
 have h:=hj23
 refine Sr (qa (Iv 0) (Nt (Bk ?_)))
 obtain ⟨e24,he24,hK24⟩:=bnd h
 clear h
 refine WC.loop he24 (fun(x25:Int) ρ' M' H'=>M.le M'∧[(g22, .cells #[(Iv 0),(Sv ⟨#[]⟩),Zs] 52 (0,0))]::[(g21, .cells (l29 a0 v0_0 v0_1 v0_2 v0_3).toArray 29 (0,0))]::F=H'∧ρ' 1=(Sv a1)∧ρ' 2=(pt g21 0)∧ρ' 4=(pt g22 0)∧ρ' 6=(Iv x25)) ?_ ?_
 exact⟨lr,Z,(hρ 1),Z,Z,Z⟩
 rintro x25 o24 ρ24 M24 H24 h ⟨hle24,rfl,hs24_1,hs24_2,hs24_4,hs24_6⟩
 unfold f_ref15_Named_l0 at h
 refine Cs (Sr (qM (Iv x25) hs24_6 (qu (pt g21 1) (Fa fo29_1 hs24_2 Z) (qu v0_1 (Lb 1 pl25 Z Z Z) ?_))))
 have h0_1:=h0_1.mono hle24
 refine qu (Iv (a0.Topics.length:Int)) (PO.lenS Tryz.underlying25 Z h0_1.len) (qu (Bv (decide (x25<(a0.Topics.length:Int)))) (PO.lss Z Z) (Nt (Ch h Z (fun hb29 h=> ?_) (fun hb29 h=> ?_))))
 refine Ck (Tc (Cs (Bk (Sr (qu (pt g21 1) (Fa fo29_1 hs24_2 Z) (qu v0_1 (Lb 1 pl25 Z Z Z) (qM (Iv x25) hs24_6 ?_)))))))
 obtain ⟨hg30,h⟩:=grd_i h
 obtain ⟨p31,cs32,hat33,hrc34,hhas35⟩:=h0_1.at hg30.1 hg30.2 (by decide)
 obtain ⟨vw36_2,rfl,hw36_2⟩:=kd_api_Topic_open hrc34
 refine qu (.pointer (some p31)) (PO.indexAddr (n:=a0.Topics.length) Tryz.underlying25 sz52 Z Z hg30.1 hg30.2 hat33) (qu (.pointer (some (p31.add 1))) (Fa fo52_1 Z Z) (qu (Sv ((rd a0.Topics x25).Name)) (PO.loadM pl9 Z (hhas35 1 _ Z)) (qM (Sv a1) hs24_1 (qu (Bv (decide (((rd a0.Topics x25).Name)=a1))) (PO.seql Z Z) (Nt (Ch h Z (fun hb37 h=> ?_) (fun hb37 h=> ?_)))))))
 refine Sr (qu (pt g21 1) (Fa fo29_1 hs24_2 Z) (qu v0_1 (Lb 1 pl25 Z Z Z) (qM (Iv x25) hs24_6 ?_)))
 obtain ⟨hg38,h⟩:=grd_i h
 obtain ⟨p39,cs40,hat41,hrc42,hhas43⟩:=h0_1.at hg38.1 hg38.2 (by decide)
 obtain ⟨vw44_2,rfl,hw44_2⟩:=kd_api_Topic_open hrc42
 refine qu (.pointer (some p39)) (PO.indexAddr (n:=a0.Topics.length) Tryz.underlying25 sz52 Z Z hg38.1 hg38.2 hat41) (qu (a52_ (rd a0.Topics x25) vw44_2) (PO.loadMA (cs:=(l52 (rd a0.Topics x25) vw44_2)) ag52 sz52 Z hhas43) (We (Sg (v:=(a52_ (rd a0.Topics x25) vw44_2)) (vl:=(l52 (rd a0.Topics x25) vw44_2)) (arr':=(l52 (rd a0.Topics x25) vw44_2)) Z sz52 hs24_4 Z (onesOf (Oc Z (Oc Z (Oc (RS.one hw44_2) Oz)))) Z Z Z) Z ?_))
 rintro _ _ _ - ⟨rfl,rfl⟩
 refine qa (Bv true) (Nt (Cr (Br (Tr (WQ.leaveR (Sum.inr ((rd a0.Topics x25).Id,(rd a0.Topics x25).Name,(rd a0.Topics x25).Parts)) (oi h).symm (fun heq24=> ?_))))))
 subst heq24
 have h:=(elimR hK24)
 refine Br (Tr ?_)
 have h:=KK.early h h323
 exact Qa (Dr (Rd h [] (fun _ hs=>hs.drop) (resultsLN Z (RVs.cons (Rc (cs:=(l52 (rd a0.Topics x25) vw44_2)) 0 ag52 sz52 hs24_4 Z Z) (RVs.cons (RV.tmp Z) RVs.nil))) hle24 ⟨vw44_2,Z,Z,hw44_2⟩))
 exact Ck (Bn (Tc (Cg (qM (Iv x25) hs24_6 (qu (Iv (IntKind.i64.wrap (x25+1))) (PO.add Z Z) (qa (Iv (IntKind.i64.wrap (x25+1))) (Wz (WQ.again (IntKind.i64.wrap (x25+1)) (oi h).symm ⟨hle24,Z,hs24_1,hs24_2,hs24_4,Z⟩))))))))
 refine WC.exit (WQ.thenE (WQ.leaveE (Sum.inl ()) (oi h).symm (fun heq24=> ?_)))
 subst heq24
 have h:=elimL hK24
 exact WQ.blockH (WQ.thenFE h ⟨hle24,Z,hs24_4⟩)
 rintro _ ρ23 M23 H23 rfl ⟨hle23,rfl,hs23_4⟩
 have h:=(Sum.elim_inl _ _ _).symm.trans h
 refine Sr (qu (.agg #[(Iv 0),(Sv ⟨#[]⟩),Zs]) (Bl (cl:=[(Iv 0),(Sv ⟨#[]⟩),Zs]) ze52 fp52 Pz Z) (We (Sg (v:=(.agg #[(Iv 0),(Sv ⟨#[]⟩),Zs])) (vl:=[(Iv 0),(Sv ⟨#[]⟩),Zs]) (arr':=[(Iv 0),(Sv ⟨#[]⟩),Zs]) Z sz52 hs23_4 Z (onb Z) Z Z Z) Z ?_))
 rintro _ _ _ - ⟨rfl,rfl⟩
 exact qa (Bv false) (Nt (Cr (Qa (Dr (Rd h [] (fun _ hs=>hs.drop) (resultsLN Z (RVs.cons (Rc (cs:=[(Iv 0),(Sv ⟨#[]⟩),Zs]) 0 ag52 sz52 hs23_4 Z Z) (RVs.cons (RV.tmp Z) RVs.nil))) hle23 ⟨Zs,Z,Z,RS.nil _ _⟩)))))
noncomputable def f_ref15_topic (a0:T_api_Image) (a1:T_api_Record):Option (T_api_Image×Int):=
 (if(decide (a1.Topic≠(IntKind.i64.wrap (a0.Last+(1:Int)))))=true then(some (a0,(10:Int)))else((f_ref15_Named a0 a1.Name).bind fun(r25,r26)=>(if r26=true then(some (a0,(9:Int)))else(if(decide ((256:Int)≤(a0.Topics.length:Int)))=true then(some (a0,(6:Int)))else(grd (([]:List T_api_Topic).length+a0.Topics.length≤274877906944) (grd ((([]:List T_api_Topic)++a0.Topics).length+[(⟨a1.Topic,a1.Name,[]⟩:T_api_Topic)].length≤274877906944) (some ((⟨a0.Brokers,(([]:List T_api_Topic)++a0.Topics)++[(⟨a1.Topic,a1.Name,[]⟩:T_api_Topic)],a0.Configs,a0.Done,a1.Topic⟩:T_api_Image),(0:Int)))))))))
def f_ref15_topic_post (a0:T_api_Image) (a1:T_api_Record) (v0_0 v0_1 v0_2 v0_3 v1_14 v1_15 v1_16 v1_17:Value):(T_api_Image×Int)→Value→IM→HL→Prop:=
 fun(p_:(T_api_Image×Int)) (v:Value) (M':IM) (H':HL)=>match p_ with |(r0,r1)=>∃ vz0_0 vz0_1 vz0_2 vz0_3,(.tuple #[(.agg #[vz0_0,vz0_1,vz0_2,vz0_3,(.int .i64 r0.Last)]),(.int .i64 r1)])=v∧H'=[]∧RS kd_api_Broker M' vz0_0 r0.Brokers∧RS kd_api_Topic M' vz0_1 r0.Topics∧RS kd_api_Config M' vz0_2 r0.Configs∧RS kd_api_Done M' vz0_3 r0.Done
theorem f_ref15_topic_ok (a0:T_api_Image) (a1:T_api_Record) (M:IM) (v0_0 v0_1 v0_2 v0_3 v1_14 v1_15 v1_16 v1_17:Value) (h0_0:RS kd_api_Broker M v0_0 a0.Brokers) (h0_1:RS kd_api_Topic M v0_1 a0.Topics) (h0_2:RS kd_api_Config M v0_2 a0.Configs) (h0_3:RS kd_api_Done M v0_3 a0.Done) (h1_14:RS (Kd.int .i64) M v1_14 a1.Ids) (h1_15:RS (Kd.int .i64) M v1_15 a1.Isr) (h1_16:RS (Kd.int .i64) M v1_16 a1.Add) (h1_17:RS (Kd.int .i64) M v1_17 a1.Drop) (res:(T_api_Image×Int)) (h:f_ref15_topic a0 a1=some res):
 Tri Tryz.prog 44 #[(a29_ a0 v0_0 v0_1 v0_2 v0_3),(a45_ a1 v1_14 v1_15 v1_16 v1_17)] M [] (f_ref15_topic_post a0 a1 v0_0 v0_1 v0_2 v0_3 v1_14 v1_15 v1_16 v1_17 res):=by
 unfold f_ref15_topic at h
 refine Te Tryz.func44 Z Z ?_
 intro F ρ hρ
 refine Sr (We (EO.box (cs:=(l29 a0 v0_0 v0_1 v0_2 v0_3).toArray) (congrArg Value.cells (asE (a29_ a0 v0_0 v0_1 v0_2 v0_3) (hρ 0)))) Z ?_)
 rintro _ _ _ - ⟨rfl,g21,rfl,rfl⟩
 refine We (EO.box (cs:=(l45 a1 v1_14 v1_15 v1_16 v1_17).toArray) (congrArg Value.cells (asE (a45_ a1 v1_14 v1_15 v1_16 v1_17) (hρ 1)))) Z ?_
 rintro _ _ _ - ⟨rfl,g22,rfl,rfl⟩
 refine We (Al ze29 Z) Z ?_
 rintro _ _ _ - ⟨rfl,g23,rfl,rfl⟩
 refine qa (Iv 0) (Nt (Cs (Sr (qu (pt g22 3) (Fa fo45_3 Z Z) (qu (Iv a1.Topic) (Lb 1 pl3 Z Z Z) (qu (pt g21 4) (Fa fo29_4 Z Z) (qu (Iv a0.Last) (Lb 2 pl3 Z Z Z) (qu (Iv (IntKind.i64.wrap (a0.Last+1))) (PO.add Z Z) (qu (Bv (decide (a1.Topic≠(IntKind.i64.wrap (a0.Last+1))))) (PO.neq Z Z) (Nt (Ch h Z (fun hb24 h=> ?_) (fun hb24 h=> ?_))))))))))))
 refine Sr (qu (a29_ a0 v0_0 v0_1 v0_2 v0_3) (La (cs:=(l29 a0 v0_0 v0_1 v0_2 v0_3)) 2 ag29 sz29 Z Z Z) (We (Sg (v:=(a29_ a0 v0_0 v0_1 v0_2 v0_3)) (vl:=(l29 a0 v0_0 v0_1 v0_2 v0_3)) (arr':=(l29 a0 v0_0 v0_1 v0_2 v0_3)) Z sz29 Z Z (onesOf (Oc (RS.one h0_0) (Oc (RS.one h0_1) (Oc (RS.one h0_2) (Oc (RS.one h0_3) (Oc Z Oz)))))) Z Z Z) Z ?_))
 rintro _ _ _ - ⟨rfl,rfl⟩
 exact qa (Iv 10) (Nt (Cr (Tr (Qa (Dr (Qa (Dr (Rd h [] (fun _ hs=>hs.drop) (resultsLN Z (RVs.cons (Rc (cs:=(l29 a0 v0_0 v0_1 v0_2 v0_3)) 0 ag29 sz29 Z Z Z) (RVs.cons (RV.tmp Z) RVs.nil))) lr ⟨v0_0,v0_1,v0_2,v0_3,Z,Z,h0_0,h0_1,h0_2,h0_3⟩))))))))
 refine Ck (Tc (Cs (Sr (qu (a29_ a0 v0_0 v0_1 v0_2 v0_3) (La (cs:=(l29 a0 v0_0 v0_1 v0_2 v0_3)) 2 ag29 sz29 Z Z Z) (qu (pt g22 10) (Fa fo45_10 Z Z) (qu (Sv a1.Name) (Lb 1 pl9 Z Z Z) ?_))))))
 obtain ⟨⟨r25,r26⟩,hr27,h⟩:=bnd h
 refine We (Ca co70 (f_ref15_Named_ok a0 a1.Name _ _ _ _ _ h0_0 h0_1 h0_2 h0_3 (r25,r26) hr27) (args2 Z Z)) Z ?_
 rintro _ M28 _ hle29 ⟨_,⟨vq30_2,rfl,rfl,hq30_2⟩,rfl⟩
 refine WL.a0 (qm (.tuple #[(a52_ r25 vq30_2),(Bv r26)]) (qu (a52_ r25 vq30_2) (Xt Z Z) (qu (Bv r26) (Xt Z Z) (We (Al ze52 Z) Z ?_))))
 rintro _ _ _ - ⟨rfl,g32,rfl,rfl⟩
 refine We (Sg (v:=(a52_ r25 vq30_2)) (vl:=(l52 r25 vq30_2)) (arr':=(l52 r25 vq30_2)) Z sz52 Z Z (onesOf (Oc Z (Oc Z (Oc (RS.one hq30_2) Oz)))) Z Z Z) Z ?_
 rintro _ _ _ - ⟨rfl,rfl⟩
 refine qa (Bv r26) (Ns (qm (Bv r26) (Nt (Ch h Z (fun hb33 h=> ?_) (fun hb33 h=> ?_)))))
 refine Sr (qu (a29_ a0 v0_0 v0_1 v0_2 v0_3) (La (cs:=(l29 a0 v0_0 v0_1 v0_2 v0_3)) 3 ag29 sz29 Z Z Z) (WL.f1 ?_))
 have h0_0:=h0_0.mono hle29
 have h0_1:=h0_1.mono hle29
 have h0_2:=h0_2.mono hle29
 have h0_3:=h0_3.mono hle29
 refine We (Sg (v:=(a29_ a0 v0_0 v0_1 v0_2 v0_3)) (vl:=(l29 a0 v0_0 v0_1 v0_2 v0_3)) (arr':=(l29 a0 v0_0 v0_1 v0_2 v0_3)) Z sz29 Z Z (onesOf (Oc (RS.one h0_0) (Oc (RS.one h0_1) (Oc (RS.one h0_2) (Oc (RS.one h0_3) (Oc Z Oz)))))) Z Z Z) Z ?_
 rintro _ _ _ - ⟨rfl,rfl⟩
 exact qa (Iv 9) (Nt (Cr (Tr (Qa (Dr (Qa (Dr (Qa (Dr (Rd h [] (fun _ hs=>hs.drop) (resultsLN Z (RVs.cons (Rc (cs:=(l29 a0 v0_0 v0_1 v0_2 v0_3)) 0 ag29 sz29 Z Z Z) (RVs.cons (RV.tmp Z) RVs.nil))) hle29 ⟨v0_0,v0_1,v0_2,v0_3,Z,Z,h0_0,h0_1,h0_2,h0_3⟩))))))))))
 refine Ck (Tc (Cs (Sr (qu (pt g21 1) (Fa fo29_1 Z Z) (qu v0_1 (Lb 3 pl25 Z Z Z) ?_)))))
 have h0_1:=h0_1.mono hle29
 refine qu (Iv (a0.Topics.length:Int)) (PO.lenS Tryz.underlying25 Z h0_1.len) (qu (Bv (decide ((256:Int)≤(a0.Topics.length:Int)))) (PO.geq Z Z) (Nt (Ch h Z (fun hb34 h=> ?_) (fun hb34 h=> ?_))))
 refine Sr (qu (a29_ a0 v0_0 v0_1 v0_2 v0_3) (La (cs:=(l29 a0 v0_0 v0_1 v0_2 v0_3)) 3 ag29 sz29 Z Z Z) (WL.f1 ?_))
 have h0_0:=h0_0.mono hle29
 have h0_2:=h0_2.mono hle29
 have h0_3:=h0_3.mono hle29
 refine We (Sg (v:=(a29_ a0 v0_0 v0_1 v0_2 v0_3)) (vl:=(l29 a0 v0_0 v0_1 v0_2 v0_3)) (arr':=(l29 a0 v0_0 v0_1 v0_2 v0_3)) Z sz29 Z Z (onesOf (Oc (RS.one h0_0) (Oc (RS.one h0_1) (Oc (RS.one h0_2) (Oc (RS.one h0_3) (Oc Z Oz)))))) Z Z Z) Z ?_
 rintro _ _ _ - ⟨rfl,rfl⟩
 exact qa (Iv 6) (Nt (Cr (Tr (Qa (Dr (Qa (Dr (Qa (Dr (Rd h [] (fun _ hs=>hs.drop) (resultsLN Z (RVs.cons (Rc (cs:=(l29 a0 v0_0 v0_1 v0_2 v0_3)) 0 ag29 sz29 Z Z Z) (RVs.cons (RV.tmp Z) RVs.nil))) hle29 ⟨v0_0,v0_1,v0_2,v0_3,Z,Z,h0_0,h0_1,h0_2,h0_3⟩))))))))))
 refine Ck (Tc (Sr (qu (a29_ a0 v0_0 v0_1 v0_2 v0_3) (La (cs:=(l29 a0 v0_0 v0_1 v0_2 v0_3)) 3 ag29 sz29 Z Z Z) (We (Al ze29 Z) Z ?_))))
 rintro _ _ _ - ⟨rfl,g35,rfl,rfl⟩
 have h0_0:=h0_0.mono hle29
 have h0_2:=h0_2.mono hle29
 have h0_3:=h0_3.mono hle29
 refine We (Sg (v:=(a29_ a0 v0_0 v0_1 v0_2 v0_3)) (vl:=(l29 a0 v0_0 v0_1 v0_2 v0_3)) (arr':=(l29 a0 v0_0 v0_1 v0_2 v0_3)) Z sz29 Z Z (onesOf (Oc (RS.one h0_0) (Oc (RS.one h0_1) (Oc (RS.one h0_2) (Oc (RS.one h0_3) (Oc Z Oz)))))) Z Z Z) Z ?_
 rintro _ _ _ - ⟨rfl,rfl⟩
 refine Ns (qu (pt g35 1) (Fa fo29_1 Z Z) (We (Es Zs ((l29 a0 v0_0 Zs v0_2 v0_3)) Z sz25 Z Z Z Z Z Z) Z ?_))
 rintro _ _ _ - ⟨rfl,rfl⟩
 refine Ns (qu (pt g35 1) (Fa fo29_1 Z Z) (qu Zs (Lb 0 pl25 Z Z Z) (qu (pt g21 1) (Fa fo29_1 Z Z) (qu v0_1 (Lb 4 pl25 Z Z Z) ?_))))
 obtain ⟨hg40,h⟩:=grd_i h
 refine WL.e0 (We (EO.append (dd:=kd_api_Topic) (xs:=[]) (ys:=a0.Topics) Tryz.underlying25 Tryz.underlying25 in52 Z (appB (by decide) hg40) (by decide) Z Z (OwnS.nil _ _) (h0_1.src _)) Z ?_)
 rintro v39 _ _ - ⟨rfl,c37,rfl,h38⟩
 refine qu (pt g35 1) (Fa fo29_1 Z Z) (WL.f1 (We (Es v39 ((l29 a0 v0_0 v39 v0_2 v0_3)) h38.cells sz25 Z Z (Ow h38) Z Z Z) Z ?_))
 rintro _ _ _ - ⟨rfl,rfl⟩
 refine Ns (qu (pt g35 1) (Fa fo29_1 Z Z) (qu v39 (Lb 0 pl25 Z Z Z) (qu (pt g22 3) (Fa fo45_3 Z Z) (qu (Iv a1.Topic) (Lb 4 pl3 Z Z Z) (qu (pt g22 10) (Fa fo45_10 Z Z) (qu (Sv a1.Name) (Lb 4 pl9 Z Z Z) (qu (.agg #[(Iv a1.Topic),(Sv a1.Name),Zs]) (Bl (cl:=[(Iv a1.Topic),(Sv a1.Name),Zs]) ze52 fp52 (Pc (Iv a1.Topic) Z Z (Pc (Sv a1.Name) Z Z Pz)) Z) (We (EO.buildSliceL (cl:=[(Iv a1.Topic),(Sv a1.Name),Zs]) Tryz.underlying25 iz52 Z (Pc (.agg #[(Iv a1.Topic),(Sv a1.Name),Zs]) Z Z Pz) Z) Z ?_))))))))
 rintro _ _ _ - ⟨rfl,g41,rfl,rfl⟩
 have h43:OwnS kd_api_Topic M28 (.slice (some ⟨g41,0,none⟩) 1 1) [(⟨a1.Topic,a1.Name,[]⟩:T_api_Topic)] [(g41, .cells #[(Iv a1.Topic),(Sv a1.Name),Zs] 52 (0,0))]:=OwnS.rows (css:=[[(Iv a1.Topic),(Sv a1.Name),Zs]]) (Rows.cons (kd_api_Topic_mk (x:=(⟨a1.Topic,a1.Name,[]⟩:T_api_Topic)) (RS.nil _ _)) Rows.nil) Z Z
 obtain ⟨hg47,h⟩:=grd_i h
 refine Wb (We (EO.append (dd:=kd_api_Topic) (xs:=([]:List T_api_Topic)++a0.Topics) (ys:=[(⟨a1.Topic,a1.Name,[]⟩:T_api_Topic)]) Tryz.underlying25 Tryz.underlying25 in52 Z (appB (by decide) hg47) (by decide) Z Z h38 (h43.src 1 Z)) Z ?_)
 rintro v46 _ _ - ⟨rfl,c44,rfl,h45⟩
 refine qu (pt g35 1) (Fa fo29_1 Z Z) (Wb (We (Es v46 ((l29 a0 v0_0 v46 v0_2 v0_3)) h45.cells sz25 Z Z (Ow h45) Z Z Z) Z ?_))
 rintro _ _ _ - ⟨rfl,rfl⟩
 refine Ns (qu (pt g22 3) (Fa fo45_3 Z Z) (qu (Iv a1.Topic) (Lb 5 pl3 Z Z Z) (qu (pt g35 4) (Fa fo29_4 Z Z) (We (Es (Iv a1.Topic) [v0_0,v46,v0_2,v0_3,(Iv a1.Topic)] Z sz3 Z Z Z Z Z Z) Z ?_))))
 rintro _ _ _ - ⟨rfl,rfl⟩
 refine Ns (qu (.agg #[v0_0,v46,v0_2,v0_3,(Iv a1.Topic)]) (La (cs:=[v0_0,v46,v0_2,v0_3,(Iv a1.Topic)]) 0 ag29 sz29 Z Z Z) (WL.f4 (We (Sg (v:=(.agg #[v0_0,v46,v0_2,v0_3,(Iv a1.Topic)])) (vl:=[v0_0,v46,v0_2,v0_3,(Iv a1.Topic)]) (arr':=[v0_0,v46,v0_2,v0_3,(Iv a1.Topic)]) Z sz29 Z Z (onesOf (Oc (RS.one h0_0) (Oc (Ow h45) (Oc (RS.one h0_2) (Oc (RS.one h0_3) (Oc Z Oz)))))) Z Z Z) Z ?_)))
 rintro _ _ _ - ⟨rfl,rfl⟩
 refine qa (Iv 0) (Nt (Cr (Qb (WQ.know (fun _ hs=>h45.rs hs) (fun hf49=> ?_)))))
 refine WQ.freeze (fun hle48=> ?_)
 refine Qa (Dr (Qa (Dr (Qa (Dr (Qa (Dr (Qa (Dr ?_)))))))))
 have h0_0:=h0_0.mono hle48
 have h0_2:=h0_2.mono hle48
 have h0_3:=h0_3.mono hle48
 exact Rd h [] (fun _ hs=>hs.drop) (resultsLN Z (RVs.cons (Rc (cs:=[v0_0,v46,v0_2,v0_3,(Iv a1.Topic)]) 0 ag29 sz29 Z Z Z) (RVs.cons (RV.tmp Z) RVs.nil))) (hle29.trans hle48) ⟨v0_0,v46,v0_2,v0_3,Z,Z,h0_0,hf49,h0_2,h0_3⟩
noncomputable def f_ref15_drop_l0 (a0:T_api_Image) (a1:Int) (s_:(Int×(List T_api_Topic))):Option ((Int×(List T_api_Topic))⊕(List T_api_Topic)):=
 match s_ with
 |(x36,x37)=>
 (if(decide (x36<(a0.Topics.length:Int)))=true then(((grd (0≤x36∧x36<a0.Topics.length) (if(decide (((rd a0.Topics x36).Id)≠a1))=true then(grd (0≤x36∧x36<a0.Topics.length) (grd (x37.length+[(rd a0.Topics x36)].length≤274877906944) (some (x37++[(rd a0.Topics x36)]))))else(some x37))):Option (List T_api_Topic)).bind fun x40=>(some (Sum.inl (IntKind.i64.wrap (x36+(1:Int)),x40))))else(some (Sum.inr x37)))
noncomputable def f_ref15_drop_l1 (a0:T_api_Image) (a1:Int) (s_:(Int×(List T_api_Config))):Option ((Int×(List T_api_Config))⊕(List T_api_Config)):=
 match s_ with
 |(x68,x69)=>
 (if(decide (x68<(a0.Configs.length:Int)))=true then(((grd (0≤x68∧x68<a0.Configs.length) (if(decide (((rd a0.Configs x68).Topic)≠a1))=true then(grd (0≤x68∧x68<a0.Configs.length) (grd (x69.length+[(rd a0.Configs x68)].length≤274877906944) (some (x69++[(rd a0.Configs x68)]))))else(some x69))):Option (List T_api_Config)).bind fun x72=>(some (Sum.inl (IntKind.i64.wrap (x68+(1:Int)),x72))))else(some (Sum.inr x69)))
noncomputable def f_ref15_drop (a0:T_api_Image) (a1:Int):Option (T_api_Image×Int):=
 ((f_ref15_Topic a0 a1).bind fun(r23,r24)=>(if(!r24)=true then(some (a0,(8:Int)))else((((iter (f_ref15_drop_l0 a0 a1) ((0:Int),[])).bind (fun(x38:(List T_api_Topic))=>(some x38))):Option (List T_api_Topic)).bind fun x33=>((((iter (f_ref15_drop_l1 a0 a1) ((0:Int),[])).bind (fun(x70:(List T_api_Config))=>(some x70))):Option (List T_api_Config)).bind fun x65=>(some ((⟨a0.Brokers,x33,x65,a0.Done,a0.Last⟩:T_api_Image),(0:Int)))))))
def f_ref15_drop_post (a0:T_api_Image) (a1:Int) (v0_0 v0_1 v0_2 v0_3:Value):(T_api_Image×Int)→Value→IM→HL→Prop:=
 fun(p_:(T_api_Image×Int)) (v:Value) (M':IM) (H':HL)=>match p_ with |(r0,r1)=>∃ vz0_0 vz0_1 vz0_2 vz0_3,(.tuple #[(.agg #[vz0_0,vz0_1,vz0_2,vz0_3,(.int .i64 r0.Last)]),(.int .i64 r1)])=v∧H'=[]∧RS kd_api_Broker M' vz0_0 r0.Brokers∧RS kd_api_Topic M' vz0_1 r0.Topics∧RS kd_api_Config M' vz0_2 r0.Configs∧RS kd_api_Done M' vz0_3 r0.Done
theorem f_ref15_drop_ok (a0:T_api_Image) (a1:Int) (M:IM) (v0_0 v0_1 v0_2 v0_3:Value) (h0_0:RS kd_api_Broker M v0_0 a0.Brokers) (h0_1:RS kd_api_Topic M v0_1 a0.Topics) (h0_2:RS kd_api_Config M v0_2 a0.Configs) (h0_3:RS kd_api_Done M v0_3 a0.Done) (res:(T_api_Image×Int)) (h:f_ref15_drop a0 a1=some res):
 Tri Tryz.prog 45 #[(a29_ a0 v0_0 v0_1 v0_2 v0_3),(Iv a1)] M [] (f_ref15_drop_post a0 a1 v0_0 v0_1 v0_2 v0_3 res):=by
 unfold f_ref15_drop at h
 refine Te Tryz.func45 Z Z ?_
 intro F ρ hρ
 refine Sr (We (EO.box (cs:=(l29 a0 v0_0 v0_1 v0_2 v0_3).toArray) (congrArg Value.cells (asE (a29_ a0 v0_0 v0_1 v0_2 v0_3) (hρ 0)))) Z ?_)
 rintro _ _ _ - ⟨rfl,g21,rfl,rfl⟩
 refine We (Al ze29 Z) Z ?_
 rintro _ _ _ - ⟨rfl,g22,rfl,rfl⟩
 refine qa (Iv 0) (Nt (Cs (Sr (qu (a29_ a0 v0_0 v0_1 v0_2 v0_3) (La (cs:=(l29 a0 v0_0 v0_1 v0_2 v0_3)) 1 ag29 sz29 Z Z Z) (qM (Iv a1) (hρ 1) ?_)))))
 obtain ⟨⟨r23,r24⟩,hr25,h⟩:=bnd h
 refine We (Ca co67 (f_ref15_Topic_ok a0 a1 _ _ _ _ _ h0_0 h0_1 h0_2 h0_3 (r23,r24) hr25) (args2 Z Z)) Z ?_
 rintro _ M26 _ hle27 ⟨_,⟨vq28_2,rfl,rfl,hq28_2⟩,rfl⟩
 refine WL.a0 (qm (.tuple #[(a52_ r23 vq28_2),(Bv r24)]) (qu (a52_ r23 vq28_2) (Xt Z Z) (qu (Bv r24) (Xt Z Z) (We (Al ze52 Z) Z ?_))))
 rintro _ _ _ - ⟨rfl,g30,rfl,rfl⟩
 refine We (Sg (v:=(a52_ r23 vq28_2)) (vl:=(l52 r23 vq28_2)) (arr':=(l52 r23 vq28_2)) Z sz52 Z Z (onesOf (Oc Z (Oc Z (Oc (RS.one hq28_2) Oz)))) Z Z Z) Z ?_
 rintro _ _ _ - ⟨rfl,rfl⟩
 refine qa (Bv r24) (Ns (qm (Bv r24) (qu (Bv (!r24)) (PO.not Z) (Nt (Ch h Z (fun hb31 h=> ?_) (fun hb31 h=> ?_))))))
 refine Sr (qu (a29_ a0 v0_0 v0_1 v0_2 v0_3) (La (cs:=(l29 a0 v0_0 v0_1 v0_2 v0_3)) 2 ag29 sz29 Z Z Z) (WL.f1 ?_))
 have h0_0:=h0_0.mono hle27
 have h0_1:=h0_1.mono hle27
 have h0_2:=h0_2.mono hle27
 have h0_3:=h0_3.mono hle27
 refine We (Sg (v:=(a29_ a0 v0_0 v0_1 v0_2 v0_3)) (vl:=(l29 a0 v0_0 v0_1 v0_2 v0_3)) (arr':=(l29 a0 v0_0 v0_1 v0_2 v0_3)) Z sz29 Z Z (onesOf (Oc (RS.one h0_0) (Oc (RS.one h0_1) (Oc (RS.one h0_2) (Oc (RS.one h0_3) (Oc Z Oz)))))) Z Z Z) Z ?_
 rintro _ _ _ - ⟨rfl,rfl⟩
 exact qa (Iv 8) (Nt (Cr (Tr (Qa (Dr (Qa (Dr (Rd h [] (fun _ hs=>hs.drop) (resultsLN Z (RVs.cons (Rc (cs:=(l29 a0 v0_0 v0_1 v0_2 v0_3)) 0 ag29 sz29 Z Z Z) (RVs.cons (RV.tmp Z) RVs.nil))) hle27 ⟨v0_0,v0_1,v0_2,v0_3,Z,Z,h0_0,h0_1,h0_2,h0_3⟩))))))))
 refine Ck (Tc (Sr (qu (a29_ a0 v0_0 v0_1 v0_2 v0_3) (La (cs:=(l29 a0 v0_0 v0_1 v0_2 v0_3)) 2 ag29 sz29 Z Z Z) (We (Al ze29 Z) Z ?_))))
 rintro _ _ _ - ⟨rfl,g32,rfl,rfl⟩
 have h0_0:=h0_0.mono hle27
 have h0_1:=h0_1.mono hle27
 have h0_2:=h0_2.mono hle27
 have h0_3:=h0_3.mono hle27
 refine We (Sg (v:=(a29_ a0 v0_0 v0_1 v0_2 v0_3)) (vl:=(l29 a0 v0_0 v0_1 v0_2 v0_3)) (arr':=(l29 a0 v0_0 v0_1 v0_2 v0_3)) Z sz29 Z Z (onesOf (Oc (RS.one h0_0) (Oc (RS.one h0_1) (Oc (RS.one h0_2) (Oc (RS.one h0_3) (Oc Z Oz)))))) Z Z Z) Z ?_
 rintro _ _ _ - ⟨rfl,rfl⟩
 refine Ns (qu (pt g32 1) (Fa fo29_1 Z Z) (We (Es Zs ((l29 a0 v0_0 Zs v0_2 v0_3)) Z sz25 Z Z Z Z Z Z) Z ?_))
 rintro _ _ _ - ⟨rfl,rfl⟩
 refine Nt ?_
 obtain ⟨x33,hj34,h⟩:=bnd h
 refine Jf (fun(x33:(List T_api_Topic)) ρ' M' H'=>∃ vx33 cx33,M26.le M'∧[(g32, .cells (l29 a0 v0_0 vx33 v0_2 v0_3).toArray 29 (0,0))]::[(g30, .cells (l52 r23 vq28_2).toArray 52 (0,0))]::[(g22, .cells z29_.toArray 29 (0,0))]::[(g21, .cells (l29 a0 v0_0 v0_1 v0_2 v0_3).toArray 29 (0,0))]::cx33::F=H'∧ρ' 1=(Iv a1)∧ρ' 2=(pt g21 0)∧ρ' 4=(pt g22 0)∧ρ' 8=(pt g32 0)∧OwnS kd_api_Topic M' vx33 x33 cx33) x33 ?_ ?_
 have h:=hj34
 refine Sr (qa (Iv 0) (Nt (Bk (WC.e0 (WC.f4 (WC.f4 (WC.f4 (WC.f4 ?_))))))))
 obtain ⟨e35,he35,hK35⟩:=bnd h
 clear h
 refine WC.loop he35 (fun(p_:(Int×(List T_api_Topic))) ρ' M' H'=>match p_ with |(x36,x37)=>∃ vx37 cx37,M26.le M'∧[(g32, .cells (l29 a0 v0_0 vx37 v0_2 v0_3).toArray 29 (0,0))]::[(g30, .cells (l52 r23 vq28_2).toArray 52 (0,0))]::[(g22, .cells z29_.toArray 29 (0,0))]::[(g21, .cells (l29 a0 v0_0 v0_1 v0_2 v0_3).toArray 29 (0,0))]::cx37::F=H'∧ρ' 1=(Iv a1)∧ρ' 2=(pt g21 0)∧ρ' 4=(pt g22 0)∧ρ' 8=(pt g32 0)∧ρ' 9=(Iv x36)∧OwnS kd_api_Topic M' vx37 x37 cx37) ?_ ?_
 exact⟨Zs,[],lr,Z,(hρ 1),Z,Z,Z,Z,(OwnS.nil _ _)⟩
 rintro ⟨x36,x37⟩ o35 ρ35 M35 H35 h ⟨vx37,cx37,hle35,rfl,hs35_1,hs35_2,hs35_4,hs35_8,hs35_9,hx37⟩
 unfold f_ref15_drop_l0 at h
 refine Cs (Sr (qM (Iv x36) hs35_9 (qu (pt g21 1) (Fa fo29_1 hs35_2 Z) (qu v0_1 (Lb 3 pl25 Z Z Z) ?_))))
 have h0_1:=h0_1.mono hle35
 refine qu (Iv (a0.Topics.length:Int)) (PO.lenS Tryz.underlying25 Z h0_1.len) (qu (Bv (decide (x36<(a0.Topics.length:Int)))) (PO.lss Z Z) (Nt (Ch h Z (fun hb39 h=> ?_) (fun hb39 h=> ?_))))
 refine Ck (Tc ?_)
 obtain ⟨x40,hj41,h⟩:=bnd h
 refine Jf (fun(x40:(List T_api_Topic)) ρ' M' H'=>∃ vx40 cx40,M35.le M'∧[(g32, .cells (l29 a0 v0_0 vx40 v0_2 v0_3).toArray 29 (0,0))]::[(g30, .cells (l52 r23 vq28_2).toArray 52 (0,0))]::[(g22, .cells z29_.toArray 29 (0,0))]::[(g21, .cells (l29 a0 v0_0 v0_1 v0_2 v0_3).toArray 29 (0,0))]::cx40::F=H'∧ρ' 1=(Iv a1)∧ρ' 2=(pt g21 0)∧ρ' 4=(pt g22 0)∧ρ' 8=(pt g32 0)∧ρ' 9=(Iv x36)∧OwnS kd_api_Topic M' vx40 x40 cx40) x40 ?_ ?_
 have h:=hj41
 refine Bk (Sr (qu (pt g21 1) (Fa fo29_1 hs35_2 Z) (qu v0_1 (Lb 3 pl25 Z Z Z) (qM (Iv x36) hs35_9 ?_))))
 obtain ⟨hg42,h⟩:=grd_i h
 obtain ⟨p43,cs44,hat45,hrc46,hhas47⟩:=h0_1.at hg42.1 hg42.2 (by decide)
 obtain ⟨vw48_2,rfl,hw48_2⟩:=kd_api_Topic_open hrc46
 refine qu (.pointer (some p43)) (PO.indexAddr (n:=a0.Topics.length) Tryz.underlying25 sz52 Z Z hg42.1 hg42.2 hat45) (qu (.pointer (some (p43.add 0))) (Fa fo52_0 Z Z) (qu (Iv ((rd a0.Topics x36).Id)) (PO.loadM pl3 Z (IM.has0 hhas47)) (qM (Iv a1) hs35_1 (qu (Bv (decide (((rd a0.Topics x36).Id)≠a1))) (PO.neq Z Z) (Nt (Ch h Z (fun hb49 h=> ?_) (fun hb49 h=> ?_)))))))
 refine WC.draw [0,1,0,4,0,28,60,124,255,511,1023] (.pure 0 (.pure 1 (.pure 2 (.pure 3 (.pure 4 (.pure 5 (.pure 6 (.alt 7 (.alt 8 (.pure 9 (.alt 10 .done .none)) .none) .none)))))))) mixed (by kernel_rfl) (qt (pt g32 1) Z (Fa fo29_1 hs35_8 Z) (qt vx37 Z (Lb 0 pl25 Z Z Z) (qt (pt g21 1) Z (Fa fo29_1 hs35_2 Z) (qt v0_1 Z (Lb 3 pl25 Z Z Z) (qt (Iv x36) Z (Mv hs35_9) ?_)))))
 obtain ⟨hg50,h⟩:=grd_i h
 obtain ⟨p51,cs52,hat53,hrc54,hhas55⟩:=h0_1.at hg50.1 hg50.2 (by decide)
 obtain ⟨vw56_2,rfl,hw56_2⟩:=kd_api_Topic_open hrc54
 refine qt (.pointer (some p51)) Z (PO.indexAddr (n:=a0.Topics.length) Tryz.underlying25 sz52 Z Z hg50.1 hg50.2 hat53) (qt (a52_ (rd a0.Topics x36) vw56_2) Z (PO.loadMA (cs:=(l52 (rd a0.Topics x36) vw56_2)) ag52 sz52 Z hhas55) (Ta Z (EO.buildSliceL (cl:=(l52 (rd a0.Topics x36) vw56_2)) Tryz.underlying25 iz52 Z (Pc (a52_ (rd a0.Topics x36) vw56_2) Z Z Pz) Z) Z ?_ ?_))
 rintro _ _ _ - ⟨rfl,g57,rfl,rfl⟩
 have h59:OwnS kd_api_Topic M35 (.slice (some ⟨g57,0,none⟩) 1 1) [(rd a0.Topics x36)] [(g57, .cells (l52 (rd a0.Topics x36) vw56_2).toArray 52 (0,0))]:=OwnS.rows (css:=[(l52 (rd a0.Topics x36) vw56_2)]) (Rows.cons (kd_api_Topic_mk (x:=(rd a0.Topics x36)) hw56_2) Rows.nil) Z Z
 refine⟨(Sk 5 Z (Ss Z (Lb 1 pl25 Z Z Z) Z (Ss Z (Fa fo29_1 hs35_8 Z) Z trivial))), ?_⟩
 obtain ⟨hg63,h⟩:=grd_i h
 refine WT.f5 (Ta Z (EO.append (dd:=kd_api_Topic) (xs:=x37) (ys:=[(rd a0.Topics x36)]) Tryz.underlying25 Tryz.underlying25 in52 Z (appB (by decide) hg63) (by decide) Z Z hx37 (h59.src 1 Z)) Z ?_ ?_)
 rintro v62 _ _ - ⟨rfl,c60,rfl,h61⟩
 refine⟨(Sl Z), ?_⟩
 refine qt (pt g32 1) Z (Fa fo29_1 hs35_8 Z) (WT.f2 (Ta Z (Es v62 ((l29 a0 v0_0 v62 v0_2 v0_3)) h61.cells sz25 Z Z (Ow h61) Z Z Z) Z ?_ ?_))
 rintro _ _ _ - ⟨rfl,rfl⟩
 refine⟨(Sl Z), ?_⟩
 refine Ti (Bn (Qb (Dr (Qa (WQ.f4 (WQ.f4 (WQ.f4 (WQ.f4 ?_))))))))
 obtain rfl:=oi h
 exact Tj ⟨v62,c60,lr,Z,hs35_1,hs35_2,hs35_4,hs35_8,hs35_9,h61⟩
 exact Tz
 exact Tz
 exact Tz
 refine Ck (Bn ?_)
 obtain rfl:=oi h
 exact Tj ⟨vx37,cx37,lr,Z,hs35_1,hs35_2,hs35_4,hs35_8,hs35_9,hx37⟩
 rintro ρ41 M41 H41 ⟨vx40,cx40,hle41,rfl,hs41_1,hs41_2,hs41_4,hs41_8,hs41_9,hx40⟩
 exact Cg (qM (Iv x36) hs41_9 (qu (Iv (IntKind.i64.wrap (x36+1))) (PO.add Z Z) (qa (Iv (IntKind.i64.wrap (x36+1))) (Wz (WQ.again (IntKind.i64.wrap (x36+1),x40) (oi h).symm ⟨vx40,cx40,(hle35.trans hle41),Z,hs41_1,hs41_2,hs41_4,hs41_8,Z,hx40⟩)))))
 refine WC.exit (WQ.thenE (WQ.leaveE x37 (oi h).symm (fun heq35=> ?_)))
 subst heq35
 have h:=hK35
 refine WQ.blockH ?_
 obtain rfl:=oi h
 exact Tj ⟨vx37,cx37,hle35,Z,hs35_1,hs35_2,hs35_4,hs35_8,hx37⟩
 rintro ρ34 M34 H34 ⟨vx33,cx33,hle34,rfl,hs34_1,hs34_2,hs34_4,hs34_8,hx33⟩
 refine Sr (qu (pt g32 2) (Fa fo29_2 hs34_8 Z) (We (Es Zs ((l29 a0 v0_0 vx33 Zs v0_3)) Z sz26 Z Z Z Z Z Z) Z ?_))
 rintro _ _ _ - ⟨rfl,rfl⟩
 refine Nt ?_
 obtain ⟨x65,hj66,h⟩:=bnd h
 refine Jf (fun(x65:(List T_api_Config)) ρ' M' H'=>∃ vx65 cx65,M34.le M'∧[(g32, .cells (l29 a0 v0_0 vx33 vx65 v0_3).toArray 29 (0,0))]::[(g30, .cells (l52 r23 vq28_2).toArray 52 (0,0))]::[(g22, .cells z29_.toArray 29 (0,0))]::[(g21, .cells (l29 a0 v0_0 v0_1 v0_2 v0_3).toArray 29 (0,0))]::cx33::cx65::F=H'∧ρ' 4=(pt g22 0)∧ρ' 8=(pt g32 0)∧OwnS kd_api_Config M' vx65 x65 cx65) x65 ?_ ?_
 have h:=hj66
 refine Sr (qa (Iv 0) (Nt (Bk (WC.e0 (WC.f5 (WC.f5 (WC.f5 (WC.f5 (WC.f5 ?_)))))))))
 obtain ⟨e67,he67,hK67⟩:=bnd h
 clear h
 refine WC.loop he67 (fun(p_:(Int×(List T_api_Config))) ρ' M' H'=>match p_ with |(x68,x69)=>∃ vx69 cx69,M34.le M'∧[(g32, .cells (l29 a0 v0_0 vx33 vx69 v0_3).toArray 29 (0,0))]::[(g30, .cells (l52 r23 vq28_2).toArray 52 (0,0))]::[(g22, .cells z29_.toArray 29 (0,0))]::[(g21, .cells (l29 a0 v0_0 v0_1 v0_2 v0_3).toArray 29 (0,0))]::cx33::cx69::F=H'∧ρ' 1=(Iv a1)∧ρ' 2=(pt g21 0)∧ρ' 4=(pt g22 0)∧ρ' 8=(pt g32 0)∧ρ' 10=(Iv x68)∧OwnS kd_api_Config M' vx69 x69 cx69) ?_ ?_
 exact⟨Zs,[],lr,Z,hs34_1,hs34_2,hs34_4,hs34_8,Z,(OwnS.nil _ _)⟩
 rintro ⟨x68,x69⟩ o67 ρ67 M67 H67 h ⟨vx69,cx69,hle67,rfl,hs67_1,hs67_2,hs67_4,hs67_8,hs67_10,hx69⟩
 unfold f_ref15_drop_l1 at h
 refine Cs (Sr (qM (Iv x68) hs67_10 (qu (pt g21 2) (Fa fo29_2 hs67_2 Z) (qu v0_2 (Lb 3 pl26 Z Z Z) ?_))))
 have h0_2:=h0_2.mono (hle34.trans hle67)
 refine qu (Iv (a0.Configs.length:Int)) (PO.lenS Tryz.underlying26 Z h0_2.len) (qu (Bv (decide (x68<(a0.Configs.length:Int)))) (PO.lss Z Z) (Nt (Ch h Z (fun hb71 h=> ?_) (fun hb71 h=> ?_))))
 refine Ck (Tc ?_)
 obtain ⟨x72,hj73,h⟩:=bnd h
 refine Jf (fun(x72:(List T_api_Config)) ρ' M' H'=>∃ vx72 cx72,M67.le M'∧[(g32, .cells (l29 a0 v0_0 vx33 vx72 v0_3).toArray 29 (0,0))]::[(g30, .cells (l52 r23 vq28_2).toArray 52 (0,0))]::[(g22, .cells z29_.toArray 29 (0,0))]::[(g21, .cells (l29 a0 v0_0 v0_1 v0_2 v0_3).toArray 29 (0,0))]::cx33::cx72::F=H'∧ρ' 1=(Iv a1)∧ρ' 2=(pt g21 0)∧ρ' 4=(pt g22 0)∧ρ' 8=(pt g32 0)∧ρ' 10=(Iv x68)∧OwnS kd_api_Config M' vx72 x72 cx72) x72 ?_ ?_
 have h:=hj73
 refine Bk (Sr (qu (pt g21 2) (Fa fo29_2 hs67_2 Z) (qu v0_2 (Lb 3 pl26 Z Z Z) (qM (Iv x68) hs67_10 ?_))))
 obtain ⟨hg74,h⟩:=grd_i h
 obtain ⟨p75,cs76,hat77,hrc78,hhas79⟩:=h0_2.at hg74.1 hg74.2 (by decide)
 obtain rfl:=kd_api_Config_open hrc78
 refine qu (.pointer (some p75)) (PO.indexAddr (n:=a0.Configs.length) Tryz.underlying26 sz64 Z Z hg74.1 hg74.2 hat77) (qu (.pointer (some (p75.add 0))) (Fa fo64_0 Z Z) (qu (Iv ((rd a0.Configs x68).Topic)) (PO.loadM pl3 Z (IM.has0 hhas79)) (qM (Iv a1) hs67_1 (qu (Bv (decide (((rd a0.Configs x68).Topic)≠a1))) (PO.neq Z Z) (Nt (Ch h Z (fun hb81 h=> ?_) (fun hb81 h=> ?_)))))))
 refine WC.draw [0,1,0,4,0,28,60,124,255,511,1023] (.pure 0 (.pure 1 (.pure 2 (.pure 3 (.pure 4 (.pure 5 (.pure 6 (.alt 7 (.alt 8 (.pure 9 (.alt 10 .done .none)) .none) .none)))))))) mixed (by kernel_rfl) (qt (pt g32 2) Z (Fa fo29_2 hs67_8 Z) (qt vx69 Z (Lb 0 pl26 Z Z Z) (qt (pt g21 2) Z (Fa fo29_2 hs67_2 Z) (qt v0_2 Z (Lb 3 pl26 Z Z Z) (qt (Iv x68) Z (Mv hs67_10) ?_)))))
 obtain ⟨hg82,h⟩:=grd_i h
 obtain ⟨p83,cs84,hat85,hrc86,hhas87⟩:=h0_2.at hg82.1 hg82.2 (by decide)
 obtain rfl:=kd_api_Config_open hrc86
 refine qt (.pointer (some p83)) Z (PO.indexAddr (n:=a0.Configs.length) Tryz.underlying26 sz64 Z Z hg82.1 hg82.2 hat85) (qt (a64_ (rd a0.Configs x68)) Z (PO.loadMA (cs:=(l64 (rd a0.Configs x68))) ag64 sz64 Z hhas87) (Ta Z (EO.buildSliceL (cl:=(l64 (rd a0.Configs x68))) Tryz.underlying26 iz64 Z (Pc (a64_ (rd a0.Configs x68)) Z Z Pz) Z) Z ?_ ?_))
 rintro _ _ _ - ⟨rfl,g89,rfl,rfl⟩
 have h91:OwnS kd_api_Config M67 (.slice (some ⟨g89,0,none⟩) 1 1) [(rd a0.Configs x68)] [(g89, .cells (l64 (rd a0.Configs x68)).toArray 64 (0,0))]:=OwnS.rows (css:=[(l64 (rd a0.Configs x68))]) (Rows.cons (kd_api_Config_mk (x:=(rd a0.Configs x68))) Rows.nil) Z Z
 refine⟨(Sk 5 Z (Ss Z (Lb 1 pl26 Z Z Z) Z (Ss Z (Fa fo29_2 hs67_8 Z) Z trivial))), ?_⟩
 obtain ⟨hg95,h⟩:=grd_i h
 refine WT.f6 (Ta Z (EO.append (dd:=kd_api_Config) (xs:=x69) (ys:=[(rd a0.Configs x68)]) Tryz.underlying26 Tryz.underlying26 in64 Z (appB (by decide) hg95) (by decide) Z Z hx69 (h91.src 1 Z)) Z ?_ ?_)
 rintro v94 _ _ - ⟨rfl,c92,rfl,h93⟩
 refine⟨(Sl Z), ?_⟩
 refine qt (pt g32 2) Z (Fa fo29_2 hs67_8 Z) (WT.f2 (Ta Z (Es v94 ((l29 a0 v0_0 vx33 v94 v0_3)) h93.cells sz26 Z Z (Ow h93) Z Z Z) Z ?_ ?_))
 rintro _ _ _ - ⟨rfl,rfl⟩
 refine⟨(Sl Z), ?_⟩
 refine Ti (Bn (Qb (Dr (Qa (WQ.f5 (WQ.f5 (WQ.f5 (WQ.f5 (WQ.f5 ?_)))))))))
 obtain rfl:=oi h
 exact Tj ⟨v94,c92,lr,Z,hs67_1,hs67_2,hs67_4,hs67_8,hs67_10,h93⟩
 exact Tz
 exact Tz
 exact Tz
 refine Ck (Bn ?_)
 obtain rfl:=oi h
 exact Tj ⟨vx69,cx69,lr,Z,hs67_1,hs67_2,hs67_4,hs67_8,hs67_10,hx69⟩
 rintro ρ73 M73 H73 ⟨vx72,cx72,hle73,rfl,hs73_1,hs73_2,hs73_4,hs73_8,hs73_10,hx72⟩
 exact Cg (qM (Iv x68) hs73_10 (qu (Iv (IntKind.i64.wrap (x68+1))) (PO.add Z Z) (qa (Iv (IntKind.i64.wrap (x68+1))) (Wz (WQ.again (IntKind.i64.wrap (x68+1),x72) (oi h).symm ⟨vx72,cx72,(hle67.trans hle73),Z,hs73_1,hs73_2,hs73_4,hs73_8,Z,hx72⟩)))))
 refine WC.exit (WQ.thenE (WQ.leaveE x69 (oi h).symm (fun heq67=> ?_)))
 subst heq67
 have h:=hK67
 refine WQ.blockH ?_
 obtain rfl:=oi h
 exact Tj ⟨vx69,cx69,hle67,Z,hs67_4,hs67_8,hx69⟩
 rintro ρ66 M66 H66 ⟨vx65,cx65,hle66,rfl,hs66_4,hs66_8,hx65⟩
 refine Sr (qu (a29_ a0 v0_0 vx33 vx65 v0_3) (La (cs:=(l29 a0 v0_0 vx33 vx65 v0_3)) 0 ag29 sz29 hs66_8 Z Z) (Wb ?_))
 have h0_0:=h0_0.mono (hle34.trans hle66)
 have hx33:=hx33.mono hle66
 have h0_3:=h0_3.mono (hle34.trans hle66)
 refine We (Sg (v:=(a29_ a0 v0_0 vx33 vx65 v0_3)) (vl:=(l29 a0 v0_0 vx33 vx65 v0_3)) (arr':=(l29 a0 v0_0 vx33 vx65 v0_3)) Z sz29 hs66_4 Z (onesOf (Oc (RS.one h0_0) (Oc (Ow hx33) (Oc (Ow hx65) (Oc (RS.one h0_3) (Oc Z Oz)))))) Z Z Z) Z ?_
 rintro _ _ _ - ⟨rfl,rfl⟩
 refine qa (Iv 0) (Nt (Cr (WQ.f4 (WQ.know (fun _ hs=>hx33.rs hs) (fun hf98=> ?_)))))
 refine WQ.freeze (fun hle97=> ?_)
 refine WQ.f4 ?_
 have hx65:=hx65.mono hle97
 refine WQ.know (fun _ hs=>hx65.rs hs) (fun hf100=> ?_)
 refine WQ.freeze (fun hle99=> ?_)
 refine Qa (Dr (Qa (Dr (Qa (Dr ?_)))))
 have h0_0:=h0_0.mono (hle97.trans hle99)
 have hf98:=hf98.mono hle99
 have h0_3:=h0_3.mono (hle97.trans hle99)
 exact Rd h [] (fun _ hs=>hs.drop) (resultsLN Z (RVs.cons (Rc (cs:=(l29 a0 v0_0 vx33 vx65 v0_3)) 0 ag29 sz29 hs66_4 Z Z) (RVs.cons (RV.tmp Z) RVs.nil))) ((((hle27.trans hle34).trans hle66).trans hle97).trans hle99) ⟨v0_0,vx33,vx65,v0_3,Z,Z,h0_0,hf98,hf100,h0_3⟩
noncomputable def f_ref15_Config_l0 (a0:T_api_Image) (a1:Int) (a2:ByteArray) (s_:Int):Option (Int⊕(Unit⊕ByteArray)):=
 match s_ with
 |x24=>
 (if(decide (x24<(a0.Configs.length:Int)))=true then(((grd (0≤x24∧x24<a0.Configs.length) (if(decide (((rd a0.Configs x24).Topic)=a1))=true then(grd (0≤x24∧x24<a0.Configs.length) (some (decide (((rd a0.Configs x24).Key)=a2))))else(some false))):Option Bool).bind fun x27=>(if x27=true then(grd (0≤x24∧x24<a0.Configs.length) (some (Sum.inr (Sum.inr ((rd a0.Configs x24).Value)))))else(some (Sum.inl (IntKind.i64.wrap (x24+(1:Int)))))))else(some (Sum.inr (Sum.inl ()))))
noncomputable def f_ref15_Config (a0:T_api_Image) (a1:Int) (a2:ByteArray):Option (ByteArray×Bool):=
 ((((iter (f_ref15_Config_l0 a0 a1 a2) (0:Int)).bind (Sum.elim (fun _=>(some (Sum.inl ()))) (fun(x25:ByteArray)=>(((some (x25,true))).bind fun r=>some (Sum.inr r))))):Option (Unit⊕(ByteArray×Bool))).bind (Sum.elim (fun _=>(some ((⟨#[]⟩:ByteArray),false))) some))
def f_ref15_Config_post (a0:T_api_Image) (a1:Int) (a2:ByteArray) (v0_0 v0_1 v0_2 v0_3:Value):(ByteArray×Bool)→Value→IM→HL→Prop:=
 fun(p_:(ByteArray×Bool)) (v:Value) (M':IM) (H':HL)=>match p_ with |(r0,r1)=>(.tuple #[(.string r0),(.bool r1)])=v∧H'=[]
theorem f_ref15_Config_ok (a0:T_api_Image) (a1:Int) (a2:ByteArray) (M:IM) (v0_0 v0_1 v0_2 v0_3:Value) (h0_0:RS kd_api_Broker M v0_0 a0.Brokers) (h0_1:RS kd_api_Topic M v0_1 a0.Topics) (h0_2:RS kd_api_Config M v0_2 a0.Configs) (h0_3:RS kd_api_Done M v0_3 a0.Done) (res:(ByteArray×Bool)) (h:f_ref15_Config a0 a1 a2=some res):
 Tri Tryz.prog 71 #[(a29_ a0 v0_0 v0_1 v0_2 v0_3),(Iv a1),(Sv a2)] M [] (f_ref15_Config_post a0 a1 a2 v0_0 v0_1 v0_2 v0_3 res):=by
 unfold f_ref15_Config at h
 refine Te Tryz.func71 Z Z ?_
 intro F ρ hρ
 refine Sr (We (EO.box (cs:=(l29 a0 v0_0 v0_1 v0_2 v0_3).toArray) (congrArg Value.cells (asE (a29_ a0 v0_0 v0_1 v0_2 v0_3) (hρ 0)))) Z ?_)
 rintro _ _ _ - ⟨rfl,g21,rfl,rfl⟩
 refine qa (Sv ⟨#[]⟩) (qa (Bv false) (Nt ?_))
 obtain ⟨j22,hj22,h⟩:=bnd h
 refine WC.joinE (fun(_:Unit) ρ' M' H'=>M.le M'∧[(g21, .cells (l29 a0 v0_0 v0_1 v0_2 v0_3).toArray 29 (0,0))]::F=H') j22 ?_ ?_
 have h322:=h
 have h:=hj22
 refine Sr (qa (Iv 0) (Nt (Bk ?_)))
 obtain ⟨e23,he23,hK23⟩:=bnd h
 clear h
 refine WC.loop he23 (fun(x24:Int) ρ' M' H'=>M.le M'∧[(g21, .cells (l29 a0 v0_0 v0_1 v0_2 v0_3).toArray 29 (0,0))]::F=H'∧ρ' 1=(Iv a1)∧ρ' 2=(Sv a2)∧ρ' 3=(pt g21 0)∧ρ' 8=(Iv x24)) ?_ ?_
 exact⟨lr,Z,(hρ 1),(hρ 2),Z,Z⟩
 rintro x24 o23 ρ23 M23 H23 h ⟨hle23,rfl,hs23_1,hs23_2,hs23_3,hs23_8⟩
 unfold f_ref15_Config_l0 at h
 refine Cs (Sr (qM (Iv x24) hs23_8 (qu (pt g21 2) (Fa fo29_2 hs23_3 Z) (qu v0_2 (Lb 0 pl26 Z Z Z) ?_))))
 have h0_2:=h0_2.mono hle23
 refine qu (Iv (a0.Configs.length:Int)) (PO.lenS Tryz.underlying26 Z h0_2.len) (qu (Bv (decide (x24<(a0.Configs.length:Int)))) (PO.lss Z Z) (Nt (Ch h Z (fun hb26 h=> ?_) (fun hb26 h=> ?_))))
 refine Ck (Tc (Cs (Bk ?_)))
 obtain ⟨x27,hj28,h⟩:=bnd h
 refine Jf (fun(x27:Bool) ρ' M' H'=>M23.le M'∧[(g21, .cells (l29 a0 v0_0 v0_1 v0_2 v0_3).toArray 29 (0,0))]::F=H'∧ρ' 1=(Iv a1)∧ρ' 2=(Sv a2)∧ρ' 3=(pt g21 0)∧ρ' 8=(Iv x24)∧ρ' 33=(Bv x27)) x27 ?_ ?_
 have h:=hj28
 refine Cg (qu (pt g21 2) (Fa fo29_2 hs23_3 Z) (qu v0_2 (Lb 0 pl26 Z Z Z) (qM (Iv x24) hs23_8 ?_)))
 obtain ⟨hg29,h⟩:=grd_i h
 obtain ⟨p30,cs31,hat32,hrc33,hhas34⟩:=h0_2.at hg29.1 hg29.2 (by decide)
 obtain rfl:=kd_api_Config_open hrc33
 refine qu (.pointer (some p30)) (PO.indexAddr (n:=a0.Configs.length) Tryz.underlying26 sz64 Z Z hg29.1 hg29.2 hat32) (qu (.pointer (some (p30.add 0))) (Fa fo64_0 Z Z) (qu (Iv ((rd a0.Configs x24).Topic)) (PO.loadM pl3 Z (IM.has0 hhas34)) (qM (Iv a1) hs23_1 (qu (Bv (decide (((rd a0.Configs x24).Topic)=a1))) (PO.eql Z Z) (qm (Bv (decide (((rd a0.Configs x24).Topic)=a1))) ?_)))))
 rcases Bi h with⟨hb36,h⟩ |⟨hb36,h⟩
 refine qo 24 hb36 (pt g21 2) (Fa fo29_2 hs23_3 Z) (qo 24 hb36 v0_2 (Lb 0 pl26 Z Z Z) (On 24 Z Z hb36 (qM (Iv x24) hs23_8 (On 24 Z Z hb36 ?_))))
 obtain ⟨hg37,h⟩:=grd_i h
 obtain ⟨p38,cs39,hat40,hrc41,hhas42⟩:=h0_2.at hg37.1 hg37.2 (by decide)
 obtain rfl:=kd_api_Config_open hrc41
 refine qu (.pointer (some p38)) (PO.indexAddr (n:=a0.Configs.length) Tryz.underlying26 sz64 Z Z hg37.1 hg37.2 hat40) (qo 24 hb36 (.pointer (some (p38.add 1))) (Fa fo64_1 Z Z) (qo 24 hb36 (Sv ((rd a0.Configs x24).Key)) (PO.loadM pl9 Z (hhas42 1 _ Z)) (On 24 Z Z hb36 (qM (Sv a2) hs23_2 (qo 24 hb36 (Bv (decide (((rd a0.Configs x24).Key)=a2))) (PO.seql Z Z) (qu (Bv (decide (((rd a0.Configs x24).Key)=a2))) (Pt Z hb36 Z) (Wz ?_)))))))
 obtain rfl:=oi h
 exact Tj ⟨lr,Z,hs23_1,hs23_2,hs23_3,hs23_8,Z⟩
 iterate 8 refine Of 24 Z Z hb36 Z ?_
 refine qu (Bv false) (Pf Z hb36 Z) (Wz ?_)
 obtain rfl:=oi h
 exact Tj ⟨lr,Z,hs23_1,hs23_2,hs23_3,hs23_8,Z⟩
 rintro ρ28 M28 H28 ⟨hle28,rfl,hs28_1,hs28_2,hs28_3,hs28_8,hs28_33⟩
 refine Ch h hs28_33 (fun hb44 h=> ?_) (fun hb44 h=> ?_)
 refine Sr (qu (pt g21 2) (Fa fo29_2 hs28_3 Z) (qu v0_2 (Lb 0 pl26 Z Z Z) (qM (Iv x24) hs28_8 ?_)))
 obtain ⟨hg45,h⟩:=grd_i h
 have h0_2:=h0_2.mono hle28
 obtain ⟨p46,cs47,hat48,hrc49,hhas50⟩:=h0_2.at hg45.1 hg45.2 (by decide)
 obtain rfl:=kd_api_Config_open hrc49
 refine qu (.pointer (some p46)) (PO.indexAddr (n:=a0.Configs.length) Tryz.underlying26 sz64 Z Z hg45.1 hg45.2 hat48) (qu (.pointer (some (p46.add 2))) (Fa fo64_2 Z Z) (qu (Sv ((rd a0.Configs x24).Value)) (PO.loadM pl9 Z (hhas50 2 _ Z)) (qa (Sv ((rd a0.Configs x24).Value)) (qa (Bv true) (Nt (Cr (Br (Tr (WQ.leaveR (Sum.inr ((rd a0.Configs x24).Value)) (oi h).symm (fun heq23=> ?_))))))))))
 subst heq23
 have h:=(elimR hK23)
 refine Br (Tr ?_)
 have h:=KK.early h h322
 exact Dr (Rf h [] Z (results2 Z Z Z) (hle23.trans hle28) ⟨Z,Z⟩)
 exact Ck (Bn (Tc (Cg (qM (Iv x24) hs28_8 (qu (Iv (IntKind.i64.wrap (x24+1))) (PO.add Z Z) (qa (Iv (IntKind.i64.wrap (x24+1))) (Wz (WQ.again (IntKind.i64.wrap (x24+1)) (oi h).symm ⟨(hle23.trans hle28),Z,hs28_1,hs28_2,hs28_3,Z⟩))))))))
 refine WC.exit (WQ.thenE (WQ.leaveE (Sum.inl ()) (oi h).symm (fun heq23=> ?_)))
 subst heq23
 have h:=elimL hK23
 exact WQ.blockH (WQ.thenFE h ⟨hle23,Z⟩)
 rintro _ ρ22 M22 H22 rfl ⟨hle22,rfl⟩
 have h:=(Sum.elim_inl _ _ _).symm.trans h
 exact Sr (qa (Sv ⟨#[]⟩) (qa (Bv false) (Nt (Cr (Dr (Rf h [] Z (results2 Z Z Z) hle22 ⟨Z,Z⟩))))))

end Go.Proofs.YtpcbipcdfccnnaaGreat.G
