/- Go functions: what they come to, and that they do. Printed by a program of the session (gen). -/
import Derived.Test.YtkflneabcannnaaGreatDoorBF
import Derived.Test.YtkflneabcannnaaGreatDoorB13
import Derived.Test.YtkflneabcannnaaGreatDoorKConv
import Derived.Test.YtkflneabcannnaaGreatDoorKShar2
import Derived.Test.YtkflneabcannnaaGreatDoorKTight
set_option linter.unusedVariables false
set_option linter.unusedSimpArgs false
set_option maxHeartbeats 8000000
set_option maxRecDepth 100000
namespace Go.Proofs.YtkflneabcannnaaGreatDoor.G
open Go Go.KK

noncomputable def f_law07_RpcBack (a0 : T_api_Rpc) : Option Bool :=
  ((f_ref07_Short a0).bind fun (r22 : Bool) => (if (!r22) = true then ((f_law07_works).bind fun (r28 : Bool) => (some r28)) else ((f_rpc_Put a0).bind fun (r33, r34) => (if (!r34.isNil) = true then (((if (decide (r33.Kind = (0 : Int))) = true then (if (decide ((r33.Body.length : Int) = (0 : Int))) = true then ((f_law07_works).bind fun (r46 : Bool) => (some r46)) else (some false)) else (some false)) : Option Bool).bind fun (x42 : Bool) => (some x42)) else ((f_rpc_Read r33).bind fun (r53, r54) => (((if r54.isNil = true then ((f_ref07_Same r53 a0).bind fun (r64 : Bool) => (if r64 = true then ((f_law07_works).bind fun (r76 : Bool) => (some r76)) else (some false))) else (some false)) : Option Bool).bind fun (x61 : Bool) => (some x61)))))))
def f_law07_RpcBack_post (a0 : T_api_Rpc) (v0_11 v0_14 : Value) : Bool → Value → IM → HL → Prop :=
  fun (r0 : Bool) (v : Value) (M' : IM) (H' : HL) => (.bool r0) = v ∧ H' = []
theorem f_law07_RpcBack_ok (a0 : T_api_Rpc) (M : IM) (v0_11 v0_14 : Value) (h0_11 : RS kd_api_Batch M v0_11 a0.Batches) (h0_14 : RS (Kd.int .u8) M v0_14 a0.Data) (hE : Env M) (res : Bool) (h : f_law07_RpcBack a0 = some res) :
    Tri Tryz.prog 3 #[(a25_ a0 v0_11 v0_14)] M [] (f_law07_RpcBack_post a0 v0_11 v0_14 res) := by
 unfold f_law07_RpcBack at h
 refine Te Tryz.func3 rfl rfl ?_
 intro F ρ hρ
 refine Sr (We (EO.box (cs := (l25 a0 v0_11 v0_14).toArray) (congrArg Value.cells (asE (a25_ a0 v0_11 v0_14) (hρ 0)))) rfl ?_)
 rintro _ _ _ - ⟨rfl, g21, rfl, rfl⟩
 refine Pa (Bv false) rfl rfl (Nt (Cs (Sr (Pu (a25_ a0 v0_11 v0_14) (La (cs := (l25 a0 v0_11 v0_14)) 0 ag25 sz25 rfl rfl rfl) rfl ?_))))
 obtain ⟨r22, hr23, h⟩ := bnd h
 refine We (Ca co8 (f_ref07_Short_ok a0 _ _ _ h0_11 h0_14 r22 hr23) (args1 rfl)) rfl ?_
 rintro _ M24 _ hle25 ⟨_, ⟨rfl, rfl⟩, rfl⟩
 refine WL.a0 (Pu (Bv (!r22)) (PO.not rfl) rfl (Nt (Cd (b := !r22) rfl (fun hb27 => ?_) (fun hb27 => ?_))))
 have h := ite_t hb27 h
 refine Sr ?_
 obtain ⟨r28, hr29, h⟩ := bnd h
 have hE := hE.mono hle25
 refine We (Ca co9 (f_law07_works_ok _ hE r28 hr29) (args0)) rfl ?_
 rintro _ M30 _ hle31 ⟨_, ⟨rfl, rfl⟩, rfl⟩
 exact WL.a0 (Pa (Bv r28) rfl rfl (Nt (Cr (Tr (Dr (Rf h [] rfl (Rs rfl rfl) (hle25.trans hle31) ⟨rfl, rfl⟩))))))
 have h := ite_f hb27 h
 refine Ck (Tc (Sr (Pu (a25_ a0 v0_11 v0_14) (La (cs := (l25 a0 v0_11 v0_14)) 0 ag25 sz25 rfl rfl rfl) rfl ?_)))
 obtain ⟨⟨r33, r34⟩, hr35, h⟩ := bnd h
 have h0_11 := h0_11.mono hle25
 have h0_14 := h0_14.mono hle25
 refine We (Ca co10 (f_rpc_Put_ok a0 _ _ _ h0_11 h0_14 (r33, r34) hr35) (args1 rfl)) rfl ?_
 rintro _ M36 _ hle37 ⟨_, ⟨vq38_1, cq38_1, rfl, rfl, hq38_1⟩, rfl⟩
 refine WL.a1 (Pm (.tuple #[(.agg #[(Iv r33.Kind), vq38_1]), (GV r34)]) rfl rfl (Pu (.agg #[(Iv r33.Kind), vq38_1]) (Xt rfl rfl) rfl (Pu (GV r34) (Xt rfl rfl) rfl (We (Al ze29 rfl) rfl ?_))))
 rintro _ _ _ - ⟨rfl, g40, rfl, rfl⟩
 refine We (Sg (v := (.agg #[(Iv r33.Kind), vq38_1])) (vl := [(Iv r33.Kind), vq38_1]) (arr' := [(Iv r33.Kind), vq38_1]) rfl sz29 rfl rfl (onesOf (Oc rfl (Oc (Ow hq38_1) Oz))) rfl rfl rfl) rfl ?_
 rintro _ _ _ - ⟨rfl, rfl⟩
 refine Pa (GV r34) rfl rfl (Nt (Cs (Sr (Pm (GV r34) rfl rfl (Pu (Bv (!r34.isNil)) (PO.errNotNil Tryz.underlying31 rfl) rfl (Nt (Cd (b := !r34.isNil) rfl (fun hb41 => ?_) (fun hb41 => ?_))))))))
 have h := ite_t hb41 h
 obtain ⟨x42, hj43, h⟩ := bnd h
 refine Jf (fun (x42 : Bool) ρ' M' H' => M36.le M' ∧ [(g40, .cells #[(Iv r33.Kind), vq38_1] 29 (0, 0))] :: [(g21, .cells (l25 a0 v0_11 v0_14).toArray 25 (0, 0))] :: cq38_1 :: F = H' ∧ ρ' 2 = (Bv x42)) x42 ?_ ?_
 have h343 := h
 have h := hj43
 refine Cg (Pu (pt g40 0) (Fa fo29_0 rfl rfl) rfl (Pu (Iv r33.Kind) (Lb 0 pl3 rfl rfl rfl) rfl (Pu (Bv (decide (r33.Kind = 0))) (PO.eql rfl rfl) rfl (Pm (Bv (decide (r33.Kind = 0))) rfl rfl ?_))))
 rcases Bt (decide (r33.Kind = 0)) with hb44 | hb44
 have h := ite_t hb44 h
 refine On 21 rfl rfl hb44 (Pu (pt g40 1) (Fa fo29_1 rfl rfl) rfl (On 21 rfl rfl hb44 (Pu vq38_1 (Lb 0 pl23 rfl rfl rfl) rfl (On 21 rfl rfl hb44 (Pu (Iv (r33.Body.length : Int)) (PO.lenS Tryz.underlying23 rfl hq38_1.len) rfl (On 21 rfl rfl hb44 (Pu (Bv (decide ((r33.Body.length : Int) = (0 : Int)))) (PO.eql rfl rfl) rfl (Pu (Bv (decide ((r33.Body.length : Int) = (0 : Int)))) (Pt rfl hb44 rfl) rfl (Pm (Bv (decide ((r33.Body.length : Int) = (0 : Int)))) rfl rfl ?_)))))))))
 rcases Bt (decide ((r33.Body.length : Int) = (0 : Int))) with hb45 | hb45
 have h := ite_t hb45 h
 refine On 27 rfl rfl hb45 ?_
 obtain ⟨r46, hr47, h⟩ := bnd h
 have hE := hE.mono (hle25.trans hle37)
 refine We (Ca co9 (f_law07_works_ok _ hE r46 hr47) (args0)) rfl ?_
 rintro _ M48 _ hle49 ⟨_, ⟨rfl, rfl⟩, rfl⟩
 refine WL.a0 (Pu (Bv r46) (Pt rfl hb45 rfl) rfl (Pa (Bv r46) rfl rfl (Wz (Qa (Qb (Qb ?_))))))
 obtain rfl := oi h
 exact Tj ⟨hle49, rfl, rfl⟩
 have h := ite_f hb45 h
 refine Of 27 rfl rfl hb45 rfl (Pu (Bv false) (Pf rfl hb45 rfl) rfl (Pa (Bv false) rfl rfl (Wz (Qa (Qb (Qb ?_))))))
 obtain rfl := oi h
 exact Tj ⟨lr, rfl, rfl⟩
 have h := ite_f hb44 h
 iterate 4 refine Of 21 rfl rfl hb44 rfl ?_
 refine Pu (Bv false) (Pf rfl hb44 rfl) rfl (Pm (Bv false) rfl rfl (Of 27 rfl rfl rfl rfl (Pu (Bv false) (Pf rfl rfl rfl) rfl (Pa (Bv false) rfl rfl (Wz (Qa (Qb (Qb ?_))))))))
 obtain rfl := oi h
 exact Tj ⟨lr, rfl, rfl⟩
 rintro ρ43 M43 H43 ⟨hle43, rfl, hs43_2⟩
 exact Cr (Tr (Dr (Dr (Dr (Rf h [] rfl (Rs rfl hs43_2) ((hle25.trans hle37).trans hle43) ⟨rfl, rfl⟩)))))
 have h := ite_f hb41 h
 refine Ck (Tc (Sr (Pu (.agg #[(Iv r33.Kind), vq38_1]) (La (cs := [(Iv r33.Kind), vq38_1]) 0 ag29 sz29 rfl rfl rfl) rfl (WL.f1 (WL.know (fun _ hs => hq38_1.rs hs) (fun hf52 => ?_))))))
 refine WL.freeze (fun hle51 => ?_)
 obtain ⟨⟨r53, r54⟩, hr55, h⟩ := bnd h
 have hE := hE.mono ((hle25.trans hle37).trans hle51)
 refine We (Ca co11 (f_rpc_Read_ok r33 _ _ hf52 hE (r53, r54) hr55) (args1 rfl)) rfl ?_
 rintro _ M56 _ hle57 ⟨_, ⟨vq58_11, cq58_11, vq58_14, cq58_14, rfl, rfl, hq58_11, hq58_14⟩, rfl⟩
 refine WL.a2 (Pm (.tuple #[(a25_ r53 vq58_11 vq58_14), (GV r54)]) rfl rfl (Pu (a25_ r53 vq58_11 vq58_14) (Xt rfl rfl) rfl (Pu (GV r54) (Xt rfl rfl) rfl (We (Al ze25 rfl) rfl ?_))))
 rintro _ _ _ - ⟨rfl, g60, rfl, rfl⟩
 refine We (Sg (v := (a25_ r53 vq58_11 vq58_14)) (vl := (l25 r53 vq58_11 vq58_14)) (arr' := (l25 r53 vq58_11 vq58_14)) rfl sz25 rfl rfl (onesOf (Oc rfl (Oc rfl (Oc rfl (Oc rfl (Oc rfl (Oc rfl (Oc rfl (Oc rfl (Oc rfl (Oc rfl (Oc rfl (Oc (Ow hq58_11) (Oc rfl (Oc rfl (Oc (Ow hq58_14) Oz)))))))))))))))) rfl rfl (by kernel_rfl)) rfl ?_
 rintro _ _ _ - ⟨rfl, rfl⟩
 refine Pa (GV r54) rfl rfl (Nt ?_)
 obtain ⟨x61, hj62, h⟩ := bnd h
 refine Jf (fun (x61 : Bool) ρ' M' H' => M56.le M' ∧ [(g60, .cells (l25 r53 vq58_11 vq58_14).toArray 25 (0, 0))] :: [(g40, .cells #[(Iv r33.Kind), vq38_1] 29 (0, 0))] :: [(g21, .cells (l25 a0 v0_11 v0_14).toArray 25 (0, 0))] :: cq58_11 :: cq58_14 :: F = H' ∧ ρ' 2 = (Bv x61)) x61 ?_ ?_
 have h362 := h
 have h := hj62
 refine Cg (Pm (GV r54) rfl rfl (Pu (Bv r54.isNil) (PO.errNil Tryz.underlying31 rfl) rfl (Pm (Bv r54.isNil) rfl rfl ?_)))
 rcases Bt (r54.isNil) with hb63 | hb63
 have h := ite_t hb63 h
 refine On 37 rfl rfl hb63 (Pu (a25_ r53 vq58_11 vq58_14) (La (cs := (l25 r53 vq58_11 vq58_14)) 0 ag25 sz25 rfl rfl rfl) rfl (On 37 rfl rfl hb63 (Pu (a25_ a0 v0_11 v0_14) (La (cs := (l25 a0 v0_11 v0_14)) 4 ag25 sz25 rfl rfl rfl) rfl (On 37 rfl rfl hb63 ?_))))
 obtain ⟨r64, hr65, h⟩ := bnd h
 refine Wb (Wb ?_)
 have h0_11 := h0_11.mono ((hle37.trans hle51).trans hle57)
 have h0_14 := h0_14.mono ((hle37.trans hle51).trans hle57)
 refine We (EO.call2 co12 (Tri.lend hq58_11.excl fun w0_ H0_ hs0_ => (Tri.lend hq58_14.excl fun w1_ H1_ hs1_ => (f_ref07_Same_ok r53 a0 _ _ _ _ _ ((hq58_11.rs hs0_).mono (IM.le_add _ _)) ((hq58_14.mono (IM.le_add _ _)).rs hs1_) ((h0_11.mono (IM.le_add _ _)).mono (IM.le_add _ _)) ((h0_14.mono (IM.le_add _ _)).mono (IM.le_add _ _)) r64 hr65))) (args2 rfl rfl)) rfl ?_
 rintro _ _ _ hle67 ⟨_, ⟨Ml72, Hl73, hll74, rfl, rfl, ⟨Ml69, Hl70, hll71, rfl, rfl, ⟨rfl, rfl⟩⟩⟩, rfl⟩
 refine WL.a2 (Pu (Bv r64) (Pt rfl hb63 rfl) rfl (Pm (Bv r64) rfl rfl ?_))
 rcases Bt (r64) with hb75 | hb75
 have h := ite_t hb75 h
 refine On 42 rfl rfl hb75 ?_
 obtain ⟨r76, hr77, h⟩ := bnd h
 have hE := hE.mono (hle57.trans hle67)
 refine We (Ca co9 (f_law07_works_ok _ hE r76 hr77) (args0)) rfl ?_
 rintro _ M78 _ hle79 ⟨_, ⟨rfl, rfl⟩, rfl⟩
 refine WL.a0 (Pu (Bv r76) (Pt rfl hb75 rfl) rfl (Pa (Bv r76) rfl rfl (Wz (Qa (Qa (WQ.f4 (WQ.f4 (WQ.f4 ?_))))))))
 obtain rfl := oi h
 exact Tj ⟨(hle67.trans hle79), rfl, rfl⟩
 have h := ite_f hb75 h
 refine Of 42 rfl rfl hb75 rfl (Pu (Bv false) (Pf rfl hb75 rfl) rfl (Pa (Bv false) rfl rfl (Wz (Qa (Qa (WQ.f4 (WQ.f4 (WQ.f4 ?_))))))))
 obtain rfl := oi h
 exact Tj ⟨hle67, rfl, rfl⟩
 have h := ite_f hb63 h
 iterate 3 refine Of 37 rfl rfl hb63 rfl ?_
 refine Pu (Bv false) (Pf rfl hb63 rfl) rfl (Pm (Bv false) rfl rfl (Of 42 rfl rfl rfl rfl (Pu (Bv false) (Pf rfl rfl rfl) rfl (Pa (Bv false) rfl rfl (Wz (Qb (Qb (WQ.f4 (WQ.f4 (WQ.f4 ?_))))))))))
 obtain rfl := oi h
 exact Tj ⟨lr, rfl, rfl⟩
 rintro ρ62 M62 H62 ⟨hle62, rfl, hs62_2⟩
 exact Cr (Dr (Dr (Dr (Dr (Dr (Rf h [] rfl (Rs rfl hs62_2) ((((hle25.trans hle37).trans hle51).trans hle57).trans hle62) ⟨rfl, rfl⟩))))))


end Go.Proofs.YtkflneabcannnaaGreatDoor.G
