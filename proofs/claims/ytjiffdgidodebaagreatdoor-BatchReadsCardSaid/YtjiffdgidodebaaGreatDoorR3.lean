/- Go functions: what they come to, and that they do. Printed by a program of the session (gen). -/
import Derived.Test.YtjiffdgidodebaaGreatDoorRF
import Derived.Test.YtjiffdgidodebaaGreatDoorR2
import Derived.Test.YtjiffdgidodebaaGreatDoorKShar2
import Derived.Test.YtjiffdgidodebaaGreatDoorKConv
import Derived.Test.YtjiffdgidodebaaGreatDoorKTight
set_option linter.unusedVariables false
set_option linter.unusedSimpArgs false
set_option maxHeartbeats 8000000
set_option maxRecDepth 100000
namespace Go.Proofs.YtjiffdgidodebaaGreatDoor.G
open Go Go.KK

noncomputable def f_record_Put (a0 : (List Int)) (a1 : T_api_Record) : Option ((List Int) × GErr) :=
  ((f_record_Check a1).bind fun (r23 : GErr) => (if (!r23.isNil) = true then (some ([], r23)) else ((f_record_about a1.Kind).bind fun (r30 : Int) => (grd (a0.length + [IntKind.u8.wrap a1.Kind].length ≤ 274877906944) ((f_record_Put_1 (1 : Int) a1.Broker r30 (a0 ++ [IntKind.u8.wrap a1.Kind])).bind fun (r43 : (List Int)) => ((f_record_Put_1 (2 : Int) a1.Epoch r30 r43).bind fun (r50 : (List Int)) => ((f_record_Put_1 (4 : Int) a1.Topic r30 r50).bind fun (r57 : (List Int)) => ((f_record_Put_1 (8 : Int) a1.Part r30 r57).bind fun (r64 : (List Int)) => ((f_record_Put_1 (16 : Int) a1.Leader r30 r64).bind fun (r71 : (List Int)) => ((f_record_Put_1 (32 : Int) a1.Client r30 r71).bind fun (r78 : (List Int)) => ((f_record_Put_1 (32 : Int) a1.Serial r30 r78).bind fun (r85 : (List Int)) => ((f_record_Put_1 (32 : Int) a1.Code r30 r85).bind fun (r92 : (List Int)) => (((if (decide ((andI .i64 r30 (64 : Int)) ≠ (0 : Int))) = true then ((f_wire_Flag r92 a1.Flag).bind fun (r102 : (List Int)) => (some r102)) else (some r92)) : Option (List Int)).bind fun (x99 : (List Int)) => ((f_record_Put_2 (128 : Int) a1.Name r30 x99).bind fun (r107 : (List Int)) => ((f_record_Put_2 (256 : Int) a1.Key r30 r107).bind fun (r114 : (List Int)) => ((f_record_Put_2 (512 : Int) a1.Value r30 r114).bind fun (r121 : (List Int)) => ((f_record_Put_2 (1024 : Int) a1.Rack r30 r121).bind fun (r128 : (List Int)) => ((f_record_Put_3 (2048 : Int) a1.Ids r30 r128).bind fun (r135 : (List Int)) => ((f_record_Put_3 (4096 : Int) a1.Isr r30 r135).bind fun (r142 : (List Int)) => ((f_record_Put_3 (8192 : Int) a1.Add r30 r142).bind fun (r149 : (List Int)) => ((f_record_Put_3 (8192 : Int) a1.Drop r30 r149).bind fun (r156 : (List Int)) => (some (r156, GErr.nil)))))))))))))))))))))))
def f_record_Put_post (a0 : (List Int)) (a1 : T_api_Record) (v0 v1_14 v1_15 v1_16 v1_17 : Value) : ((List Int) × GErr) → Value → IM → HL → Prop :=
  fun (p_ : ((List Int) × GErr)) (v : Value) (M' : IM) (H' : HL) => match p_ with | (r0, r1) => ∃ vz0 cz0, (.tuple #[vz0, (GV r1)]) = v ∧ H' = [cz0] ∧ OwnS (Kd.int .u8) M' vz0 r0 cz0
theorem f_record_Put_ok (a0 : (List Int)) (a1 : T_api_Record) (M : IM) (v0 v1_14 v1_15 v1_16 v1_17 : Value) (c0 : Chunk) (h0 : OwnS (Kd.int .u8) M v0 a0 c0) (h1_14 : RS (Kd.int .i64) M v1_14 a1.Ids) (h1_15 : RS (Kd.int .i64) M v1_15 a1.Isr) (h1_16 : RS (Kd.int .i64) M v1_16 a1.Add) (h1_17 : RS (Kd.int .i64) M v1_17 a1.Drop) (res : ((List Int) × GErr)) (h : f_record_Put a0 a1 = some res) :
    Tri Tryz.prog 40 #[v0, (a67_ a1 v1_14 v1_15 v1_16 v1_17)] M [c0] (f_record_Put_post a0 a1 v0 v1_14 v1_15 v1_16 v1_17 res) := by
 unfold f_record_Put at h
 refine Te Tryz.func40 rfl rfl ?_
 intro F ρ hρ
 refine Sr (We (EO.box (cs := #[v0]) ((congrArg Value.cells (asE v0 (hρ 0))).trans h0.cells)) rfl ?_)
 rintro _ _ _ - ⟨rfl, g21, rfl, rfl⟩
 refine We (EO.box (cs := (l67 a1 v1_14 v1_15 v1_16 v1_17).toArray) (congrArg Value.cells (asE (a67_ a1 v1_14 v1_15 v1_16 v1_17) (hρ 1)))) rfl ?_
 rintro _ _ _ - ⟨rfl, g22, rfl, rfl⟩
 refine Pa Zs rfl rfl (Pa (GV GErr.nil) rfl rfl (Nt (Cs (Sr (Pu (a67_ a1 v1_14 v1_15 v1_16 v1_17) (La (cs := (l67 a1 v1_14 v1_15 v1_16 v1_17)) 0 ag67 sz67 rfl rfl rfl) rfl ?_)))))
 obtain ⟨r23, hr24, h⟩ := bnd h
 refine We (Ca co32 (f_record_Check_ok a1 _ _ _ _ _ h1_14 h1_15 h1_16 h1_17 r23 hr24) (args1 rfl)) rfl ?_
 rintro _ M25 _ hle26 ⟨_, ⟨rfl, rfl⟩, rfl⟩
 refine WL.a0 (Pa (GV r23) rfl rfl (Ns (Pm (GV r23) rfl rfl (Pu (Bv (!r23.isNil)) (PO.errNotNil Tryz.underlying29 rfl) rfl (Nt (Cd (b := !r23.isNil) rfl (fun hb28 => ?_) (fun hb28 => ?_)))))))
 have h := ite_t hb28 h
 refine Sr (Pm (GV r23) rfl rfl (Pa Zs rfl rfl (Pa (GV r23) rfl rfl (Nt (Cr (Tr (WQ.e0 (Qa (Dr (Qa (Dr ?_)))))))))))
 exact Qa (Dr (Rf h [[]] rfl (results2 rfl rfl rfl) hle26 ⟨Zs, [], rfl, rfl, (OwnS.nil _ _)⟩))
 have h := ite_f hb28 h
 refine Ck (Tc (Sr (Pu (pt g22 0) (Fa fo67_0 rfl rfl) rfl (Pu (Iv a1.Kind) (Lb 0 pl3 rfl rfl rfl) rfl ?_))))
 obtain ⟨r30, hr31, h⟩ := bnd h
 refine We (Ca co54 (f_record_about_ok a1.Kind _ r30 hr31) (args1 rfl)) rfl ?_
 rintro _ M32 _ hle33 ⟨_, ⟨rfl, rfl⟩, rfl⟩
 refine WL.a0 (We (Al ze3 rfl) rfl ?_)
 rintro _ _ _ - ⟨rfl, g35, rfl, rfl⟩
 refine We (Es (Iv r30) [(Iv r30)] rfl sz3 rfl rfl rfl rfl rfl rfl) rfl ?_
 rintro _ _ _ - ⟨rfl, rfl⟩
 refine Ns (Pu v0 (Lb 2 pl40 rfl rfl rfl) rfl (Pu (pt g22 0) (Fa fo67_0 rfl rfl) rfl (Pu (Iv a1.Kind) (Lb 1 pl3 rfl rfl rfl) rfl (Pu (Yv (IntKind.u8.wrap a1.Kind)) (PO.conv us3 Tryz.underlying5 rfl) rfl (We (EO.buildSliceL (cl := [(Yv (IntKind.u8.wrap a1.Kind))]) Tryz.underlying40 iz5 rfl (Pc (Yv (IntKind.u8.wrap a1.Kind)) rfl rfl Pz) rfl) rfl ?_)))))
 rintro _ _ _ - ⟨rfl, g36, rfl, rfl⟩
 have h38 : OwnS (Kd.int .u8) M32 (.slice (some ⟨g36, 0, none⟩) 1 1) [IntKind.u8.wrap a1.Kind] [(g36, .cells #[(Yv (IntKind.u8.wrap a1.Kind))] 5 (0, 0))] := OwnS.rows (css := [[(Yv (IntKind.u8.wrap a1.Kind))]]) (Rows.cons rfl Rows.nil) rfl rfl
 obtain ⟨hg42, h⟩ := grd_i h
 refine WL.f4 ?_
 have h0 := h0.mono (hle26.trans hle33)
 refine We (EO.append (dd := (Kd.int .u8)) (xs := a0) (ys := [IntKind.u8.wrap a1.Kind]) Tryz.underlying40 Tryz.underlying40 in5 rfl (appB (by decide) hg42) (by decide) rfl rfl h0 (h38.src 1 rfl)) rfl ?_
 rintro v41 _ _ - ⟨rfl, c39, rfl, h40⟩
 refine WL.f4 (We (Es v41 [v41] h40.cells sz40 rfl rfl (Ow h40) rfl rfl rfl) rfl ?_)
 rintro _ _ _ - ⟨rfl, rfl⟩
 refine Ns (Pu (.func (.func 70) #[] #[(pt g35 0), (pt g21 0)]) (PO.makeFunc2 (args0) (args2 (show ev _ _ = (pt g35 0) from rfl) (show ev _ _ = (pt g21 0) from rfl))) rfl (Pa (.func (.func 70) #[] #[(pt g35 0), (pt g21 0)]) rfl rfl (Ns (Pm (.func (.func 70) #[] #[(pt g35 0), (pt g21 0)]) rfl rfl (Pu (pt g22 1) (Fa fo67_1 rfl rfl) rfl (Pu (Iv a1.Broker) (Lb 4 pl3 rfl rfl rfl) rfl ?_))))))
 obtain ⟨r43, hr44, h⟩ := bnd h
 refine WL.f1 (WL.f1 (WL.f3 (We (EO.callV3 (first := #[]) (cap := #[(pt g35 0), (pt g21 0)]) co70 rfl (f_record_Put_1_ok (1 : Int) a1.Broker r30 (a0 ++ [IntKind.u8.wrap a1.Kind]) _ _ _ _ _ h40 r43 hr44) (argsV2 rfl rfl rfl)) rfl ?_)))
 rintro _ M45 _ hle46 ⟨_, ⟨v47, c49, rfl, rfl, h48⟩, rfl⟩
 refine WL.a3 (Ns (Pm (.func (.func 70) #[] #[(pt g35 0), (pt g21 0)]) rfl rfl (Pu (pt g22 2) (Fa fo67_2 rfl rfl) rfl (Pu (Iv a1.Epoch) (Lb 4 pl3 rfl rfl rfl) rfl ?_))))
 obtain ⟨r50, hr51, h⟩ := bnd h
 refine Wb (Wb (Wb (We (EO.callV3 (first := #[]) (cap := #[(pt g35 0), (pt g21 0)]) co70 rfl (f_record_Put_1_ok (2 : Int) a1.Epoch r30 r43 _ _ _ _ _ h48 r50 hr51) (argsV2 rfl rfl rfl)) rfl ?_)))
 rintro _ M52 _ hle53 ⟨_, ⟨v54, c56, rfl, rfl, h55⟩, rfl⟩
 refine WL.a3 (Ns (Pm (.func (.func 70) #[] #[(pt g35 0), (pt g21 0)]) rfl rfl (Pu (pt g22 3) (Fa fo67_3 rfl rfl) rfl (Pu (Iv a1.Topic) (Lb 4 pl3 rfl rfl rfl) rfl ?_))))
 obtain ⟨r57, hr58, h⟩ := bnd h
 refine Wb (Wb (Wb (We (EO.callV3 (first := #[]) (cap := #[(pt g35 0), (pt g21 0)]) co70 rfl (f_record_Put_1_ok (4 : Int) a1.Topic r30 r50 _ _ _ _ _ h55 r57 hr58) (argsV2 rfl rfl rfl)) rfl ?_)))
 rintro _ M59 _ hle60 ⟨_, ⟨v61, c63, rfl, rfl, h62⟩, rfl⟩
 refine WL.a3 (Ns (Pm (.func (.func 70) #[] #[(pt g35 0), (pt g21 0)]) rfl rfl (Pu (pt g22 4) (Fa fo67_4 rfl rfl) rfl (Pu (Iv a1.Part) (Lb 4 pl3 rfl rfl rfl) rfl ?_))))
 obtain ⟨r64, hr65, h⟩ := bnd h
 refine Wb (Wb (Wb (We (EO.callV3 (first := #[]) (cap := #[(pt g35 0), (pt g21 0)]) co70 rfl (f_record_Put_1_ok (8 : Int) a1.Part r30 r57 _ _ _ _ _ h62 r64 hr65) (argsV2 rfl rfl rfl)) rfl ?_)))
 rintro _ M66 _ hle67 ⟨_, ⟨v68, c70, rfl, rfl, h69⟩, rfl⟩
 refine WL.a3 (Ns (Pm (.func (.func 70) #[] #[(pt g35 0), (pt g21 0)]) rfl rfl (Pu (pt g22 5) (Fa fo67_5 rfl rfl) rfl (Pu (Iv a1.Leader) (Lb 4 pl3 rfl rfl rfl) rfl ?_))))
 obtain ⟨r71, hr72, h⟩ := bnd h
 refine Wb (Wb (Wb (We (EO.callV3 (first := #[]) (cap := #[(pt g35 0), (pt g21 0)]) co70 rfl (f_record_Put_1_ok (16 : Int) a1.Leader r30 r64 _ _ _ _ _ h69 r71 hr72) (argsV2 rfl rfl rfl)) rfl ?_)))
 rintro _ M73 _ hle74 ⟨_, ⟨v75, c77, rfl, rfl, h76⟩, rfl⟩
 refine WL.a3 (Ns (Pm (.func (.func 70) #[] #[(pt g35 0), (pt g21 0)]) rfl rfl (Pu (pt g22 6) (Fa fo67_6 rfl rfl) rfl (Pu (Iv a1.Client) (Lb 4 pl3 rfl rfl rfl) rfl ?_))))
 obtain ⟨r78, hr79, h⟩ := bnd h
 refine Wb (Wb (Wb (We (EO.callV3 (first := #[]) (cap := #[(pt g35 0), (pt g21 0)]) co70 rfl (f_record_Put_1_ok (32 : Int) a1.Client r30 r71 _ _ _ _ _ h76 r78 hr79) (argsV2 rfl rfl rfl)) rfl ?_)))
 rintro _ M80 _ hle81 ⟨_, ⟨v82, c84, rfl, rfl, h83⟩, rfl⟩
 refine WL.a3 (Ns (Pm (.func (.func 70) #[] #[(pt g35 0), (pt g21 0)]) rfl rfl (Pu (pt g22 7) (Fa fo67_7 rfl rfl) rfl (Pu (Iv a1.Serial) (Lb 4 pl3 rfl rfl rfl) rfl ?_))))
 obtain ⟨r85, hr86, h⟩ := bnd h
 refine Wb (Wb (Wb (We (EO.callV3 (first := #[]) (cap := #[(pt g35 0), (pt g21 0)]) co70 rfl (f_record_Put_1_ok (32 : Int) a1.Serial r30 r78 _ _ _ _ _ h83 r85 hr86) (argsV2 rfl rfl rfl)) rfl ?_)))
 rintro _ M87 _ hle88 ⟨_, ⟨v89, c91, rfl, rfl, h90⟩, rfl⟩
 refine WL.a3 (Ns (Pm (.func (.func 70) #[] #[(pt g35 0), (pt g21 0)]) rfl rfl (Pu (pt g22 8) (Fa fo67_8 rfl rfl) rfl (Pu (Iv a1.Code) (Lb 4 pl3 rfl rfl rfl) rfl ?_))))
 obtain ⟨r92, hr93, h⟩ := bnd h
 refine Wb (Wb (Wb (We (EO.callV3 (first := #[]) (cap := #[(pt g35 0), (pt g21 0)]) co70 rfl (f_record_Put_1_ok (32 : Int) a1.Code r30 r85 _ _ _ _ _ h90 r92 hr93) (argsV2 rfl rfl rfl)) rfl ?_)))
 rintro _ M94 _ hle95 ⟨_, ⟨v96, c98, rfl, rfl, h97⟩, rfl⟩
 refine WL.a3 (Nt ?_)
 obtain ⟨x99, hj100, h⟩ := bnd h
 refine Jf (fun (x99 : (List Int)) ρ' M' H' => ∃ vx99 cx99, M94.le M' ∧ [(g35, .cells #[(Iv r30)] 3 (0, 0))] :: [(g21, .cells #[vx99] 40 (0, 0))] :: [(g22, .cells (l67 a1 v1_14 v1_15 v1_16 v1_17).toArray 67 (0, 0))] :: cx99 :: F = H' ∧ ρ' 2 = (pt g21 0) ∧ ρ' 3 = (pt g22 0) ∧ ρ' 7 = (pt g35 0) ∧ OwnS (Kd.int .u8) M' vx99 x99 cx99) x99 ?_ ?_
 have h3100 := h
 have h := hj100
 refine Sr (Pu (Iv r30) (Lb 0 pl3 rfl rfl rfl) rfl (Pu (Iv (andI .i64 r30 (64 : Int))) (PO.and rfl rfl) rfl (Pu (Bv (decide ((andI .i64 r30 (64 : Int)) ≠ 0))) (PO.neq rfl rfl) rfl (Nt (Cd (b := decide ((andI .i64 r30 (64 : Int)) ≠ 0)) rfl (fun hb101 => ?_) (fun hb101 => ?_))))))
 have h := ite_t hb101 h
 refine Cg (Pu v96 (Lb 1 pl40 rfl rfl rfl) rfl (Pu (pt g22 9) (Fa fo67_9 rfl rfl) rfl (Pu (Bv a1.Flag) (Lb 4 pl4 rfl rfl rfl) rfl ?_)))
 obtain ⟨r102, hr103, h⟩ := bnd h
 refine Wb (We (Cb co71 (f_wire_Flag_ok r92 a1.Flag _ _ _ h97 r102 hr103) (args2 rfl rfl)) rfl ?_)
 rintro _ M104 _ hle105 ⟨_, ⟨vq106, cq106, rfl, rfl, hq106⟩, rfl⟩
 refine WL.a1 (Wb (We (Es vq106 [vq106] hq106.cells sz40 rfl rfl (Ow hq106) rfl rfl rfl) rfl ?_))
 rintro _ _ _ - ⟨rfl, rfl⟩
 refine Wz (WQ.f3 (Dr (Qa (WQ.f3 (Qb (WQ.f3 ?_))))))
 obtain rfl := oi h
 exact Tj ⟨vq106, cq106, hle105, rfl, rfl, rfl, rfl, hq106⟩
 have h := ite_f hb101 h
 refine Ck (WQ.f3 (Dr (Qb (WQ.f3 (WQ.f3 (WQ.f3 ?_))))))
 obtain rfl := oi h
 exact Tj ⟨v96, c98, lr, rfl, rfl, rfl, rfl, h97⟩
 rintro ρ100 M100 H100 ⟨vx99, cx99, hle100, rfl, hs100_2, hs100_3, hs100_7, hx99⟩
 refine Sr (Pu (.func (.func 72) #[] #[(pt g35 0), (pt g21 0)]) (PO.makeFunc2 (args0) (args2 (asE (Value.pointer (some ⟨g35, 0, none⟩)) hs100_7) (asE (Value.pointer (some ⟨g21, 0, none⟩)) hs100_2))) rfl (Pa (.func (.func 72) #[] #[(pt g35 0), (pt g21 0)]) rfl rfl (Ns (Pm (.func (.func 72) #[] #[(pt g35 0), (pt g21 0)]) rfl rfl (Pu (pt g22 10) (Fa fo67_10 hs100_3 rfl) rfl (Pu (Sv a1.Name) (Lb 2 pl9 rfl rfl rfl) rfl ?_))))))
 obtain ⟨r107, hr108, h⟩ := bnd h
 refine WL.f3 (Wb (Wb (We (EO.callV3 (first := #[]) (cap := #[(pt g35 0), (pt g21 0)]) co72 rfl (f_record_Put_2_ok (128 : Int) a1.Name r30 x99 _ _ _ _ _ hx99 r107 hr108) (argsV2 rfl rfl rfl)) rfl ?_)))
 rintro _ M109 _ hle110 ⟨_, ⟨v111, c113, rfl, rfl, h112⟩, rfl⟩
 refine WL.a3 (Ns (Pm (.func (.func 72) #[] #[(pt g35 0), (pt g21 0)]) rfl rfl (Pu (pt g22 11) (Fa fo67_11 hs100_3 rfl) rfl (Pu (Sv a1.Key) (Lb 3 pl9 rfl rfl rfl) rfl ?_))))
 obtain ⟨r114, hr115, h⟩ := bnd h
 refine Wb (Wb (Wb (We (EO.callV3 (first := #[]) (cap := #[(pt g35 0), (pt g21 0)]) co72 rfl (f_record_Put_2_ok (256 : Int) a1.Key r30 r107 _ _ _ _ _ h112 r114 hr115) (argsV2 rfl rfl rfl)) rfl ?_)))
 rintro _ M116 _ hle117 ⟨_, ⟨v118, c120, rfl, rfl, h119⟩, rfl⟩
 refine WL.a3 (Ns (Pm (.func (.func 72) #[] #[(pt g35 0), (pt g21 0)]) rfl rfl (Pu (pt g22 12) (Fa fo67_12 hs100_3 rfl) rfl (Pu (Sv a1.Value) (Lb 3 pl9 rfl rfl rfl) rfl ?_))))
 obtain ⟨r121, hr122, h⟩ := bnd h
 refine Wb (Wb (Wb (We (EO.callV3 (first := #[]) (cap := #[(pt g35 0), (pt g21 0)]) co72 rfl (f_record_Put_2_ok (512 : Int) a1.Value r30 r114 _ _ _ _ _ h119 r121 hr122) (argsV2 rfl rfl rfl)) rfl ?_)))
 rintro _ M123 _ hle124 ⟨_, ⟨v125, c127, rfl, rfl, h126⟩, rfl⟩
 refine WL.a3 (Ns (Pm (.func (.func 72) #[] #[(pt g35 0), (pt g21 0)]) rfl rfl (Pu (pt g22 13) (Fa fo67_13 hs100_3 rfl) rfl (Pu (Sv a1.Rack) (Lb 3 pl9 rfl rfl rfl) rfl ?_))))
 obtain ⟨r128, hr129, h⟩ := bnd h
 refine Wb (Wb (Wb (We (EO.callV3 (first := #[]) (cap := #[(pt g35 0), (pt g21 0)]) co72 rfl (f_record_Put_2_ok (1024 : Int) a1.Rack r30 r121 _ _ _ _ _ h126 r128 hr129) (argsV2 rfl rfl rfl)) rfl ?_)))
 rintro _ M130 _ hle131 ⟨_, ⟨v132, c134, rfl, rfl, h133⟩, rfl⟩
 refine WL.a3 (Ns (Pu (.func (.func 74) #[] #[(pt g35 0), (pt g21 0)]) (PO.makeFunc2 (args0) (args2 (asE (Value.pointer (some ⟨g35, 0, none⟩)) hs100_7) (asE (Value.pointer (some ⟨g21, 0, none⟩)) hs100_2))) rfl (Pa (.func (.func 74) #[] #[(pt g35 0), (pt g21 0)]) rfl rfl (Ns (Pm (.func (.func 74) #[] #[(pt g35 0), (pt g21 0)]) rfl rfl (Pu (pt g22 14) (Fa fo67_14 hs100_3 rfl) rfl (Pu v1_14 (Lb 3 pl65 rfl rfl rfl) rfl ?_)))))))
 obtain ⟨r135, hr136, h⟩ := bnd h
 refine Wb (Wb (Wb ?_))
 have h1_14 := h1_14.mono ((((((((((((((hle26.trans hle33).trans hle46).trans hle53).trans hle60).trans hle67).trans hle74).trans hle81).trans hle88).trans hle95).trans hle100).trans hle110).trans hle117).trans hle124).trans hle131)
 refine We (EO.callV3 (first := #[]) (cap := #[(pt g35 0), (pt g21 0)]) co74 rfl (f_record_Put_3_ok (2048 : Int) a1.Ids r30 r128 _ _ _ _ _ _ h1_14 h133 r135 hr136) (argsV2 rfl rfl rfl)) rfl ?_
 rintro _ M137 _ hle138 ⟨_, ⟨v139, c141, rfl, rfl, h140⟩, rfl⟩
 refine WL.a3 (Ns (Pm (.func (.func 74) #[] #[(pt g35 0), (pt g21 0)]) rfl rfl (Pu (pt g22 15) (Fa fo67_15 hs100_3 rfl) rfl (Pu v1_15 (Lb 3 pl65 rfl rfl rfl) rfl ?_))))
 obtain ⟨r142, hr143, h⟩ := bnd h
 refine Wb (Wb (Wb ?_))
 have h1_15 := h1_15.mono (((((((((((((((hle26.trans hle33).trans hle46).trans hle53).trans hle60).trans hle67).trans hle74).trans hle81).trans hle88).trans hle95).trans hle100).trans hle110).trans hle117).trans hle124).trans hle131).trans hle138)
 refine We (EO.callV3 (first := #[]) (cap := #[(pt g35 0), (pt g21 0)]) co74 rfl (f_record_Put_3_ok (4096 : Int) a1.Isr r30 r135 _ _ _ _ _ _ h1_15 h140 r142 hr143) (argsV2 rfl rfl rfl)) rfl ?_
 rintro _ M144 _ hle145 ⟨_, ⟨v146, c148, rfl, rfl, h147⟩, rfl⟩
 refine WL.a3 (Ns (Pm (.func (.func 74) #[] #[(pt g35 0), (pt g21 0)]) rfl rfl (Pu (pt g22 16) (Fa fo67_16 hs100_3 rfl) rfl (Pu v1_16 (Lb 3 pl65 rfl rfl rfl) rfl ?_))))
 obtain ⟨r149, hr150, h⟩ := bnd h
 refine Wb (Wb (Wb ?_))
 have h1_16 := h1_16.mono ((((((((((((((((hle26.trans hle33).trans hle46).trans hle53).trans hle60).trans hle67).trans hle74).trans hle81).trans hle88).trans hle95).trans hle100).trans hle110).trans hle117).trans hle124).trans hle131).trans hle138).trans hle145)
 refine We (EO.callV3 (first := #[]) (cap := #[(pt g35 0), (pt g21 0)]) co74 rfl (f_record_Put_3_ok (8192 : Int) a1.Add r30 r142 _ _ _ _ _ _ h1_16 h147 r149 hr150) (argsV2 rfl rfl rfl)) rfl ?_
 rintro _ M151 _ hle152 ⟨_, ⟨v153, c155, rfl, rfl, h154⟩, rfl⟩
 refine WL.a3 (Ns (Pm (.func (.func 74) #[] #[(pt g35 0), (pt g21 0)]) rfl rfl (Pu (pt g22 17) (Fa fo67_17 hs100_3 rfl) rfl (Pu v1_17 (Lb 3 pl65 rfl rfl rfl) rfl ?_))))
 obtain ⟨r156, hr157, h⟩ := bnd h
 refine Wb (Wb (Wb ?_))
 have h1_17 := h1_17.mono (((((((((((((((((hle26.trans hle33).trans hle46).trans hle53).trans hle60).trans hle67).trans hle74).trans hle81).trans hle88).trans hle95).trans hle100).trans hle110).trans hle117).trans hle124).trans hle131).trans hle138).trans hle145).trans hle152)
 refine We (EO.callV3 (first := #[]) (cap := #[(pt g35 0), (pt g21 0)]) co74 rfl (f_record_Put_3_ok (8192 : Int) a1.Drop r30 r149 _ _ _ _ _ _ h1_17 h154 r156 hr157) (argsV2 rfl rfl rfl)) rfl ?_
 rintro _ M158 _ hle159 ⟨_, ⟨v160, c162, rfl, rfl, h161⟩, rfl⟩
 exact WL.a3 (Ns (Pu v160 (Lb 1 pl40 hs100_2 rfl rfl) rfl (Pa v160 rfl rfl (Pa (GV GErr.nil) rfl rfl (Nt (Cr (Dr (Dr (Qa (Dr (Rf h [c162] rfl (results2 rfl rfl rfl) ((((((((((((((((((hle26.trans hle33).trans hle46).trans hle53).trans hle60).trans hle67).trans hle74).trans hle81).trans hle88).trans hle95).trans hle100).trans hle110).trans hle117).trans hle124).trans hle131).trans hle138).trans hle145).trans hle152).trans hle159) ⟨v160, c162, rfl, rfl, h161⟩)))))))))))

noncomputable def f_batch_Put_l0 (a0 : T_api_Batch) (s_ : ((List Int) × Int)) : Option (((List Int) × Int) ⊕ ((List Int) ⊕ ((List Int) × GErr))) :=
  match s_ with
  | (x48, x49) =>
    (if (decide (x49 < (a0.Records.length : Int))) = true then (grd (0 ≤ x49 ∧ x49 < a0.Records.length) ((f_record_Put x48 (rd a0.Records x49)).bind fun (r62, r63) => (if (!r63.isNil) = true then ((f_fault_Wrap (⟨#[114, 101, 99, 111, 114, 100]⟩ : ByteArray) x49 r63).bind fun (r70 : GErr) => (some (Sum.inr (Sum.inr ([], r70))))) else (some (Sum.inl (r62, IntKind.i64.wrap (x49 + (1 : Int)))))))) else (some (Sum.inr (Sum.inl x48))))
noncomputable def f_batch_Put (a0 : T_api_Batch) : Option ((List Int) × GErr) :=
  ((f_batch_Check a0).bind fun (r22 : GErr) => (if (!r22.isNil) = true then (some ([], r22)) else ((f_wire_Int [] a0.Term).bind fun (r30 : (List Int)) => ((f_wire_Int r30 a0.Base).bind fun (r35 : (List Int)) => ((f_wire_Int r35 (a0.Records.length : Int)).bind fun (r40 : (List Int)) => ((((iter (f_batch_Put_l0 a0) (r40, (0 : Int))).bind (Sum.elim (fun (x50 : (List Int)) => (some (Sum.inl x50))) (fun (x51, x52) => (((some (x51, x52))).bind fun r => some (Sum.inr r))))) : Option ((List Int) ⊕ ((List Int) × GErr))).bind (Sum.elim (fun (x45 : (List Int)) => (if (decide ((16384 : Int) < (x45.length : Int))) = true then ((f_fault_New (⟨#[98, 97, 116, 99, 104]⟩ : ByteArray) (x45.length : Int) (6 : Int)).bind fun (r77 : GErr) => (some ([], r77))) else (some (x45, GErr.nil)))) some)))))))
def f_batch_Put_post (a0 : T_api_Batch) (v0_2 : Value) : ((List Int) × GErr) → Value → IM → HL → Prop :=
  fun (p_ : ((List Int) × GErr)) (v : Value) (M' : IM) (H' : HL) => match p_ with | (r0, r1) => ∃ vz0 cz0, (.tuple #[vz0, (GV r1)]) = v ∧ H' = [cz0] ∧ OwnS (Kd.int .u8) M' vz0 r0 cz0
theorem f_batch_Put_ok (a0 : T_api_Batch) (M : IM) (v0_2 : Value) (h0_2 : RS kd_api_Record M v0_2 a0.Records) (res : ((List Int) × GErr)) (h : f_batch_Put a0 = some res) :
    Tri Tryz.prog 15 #[(a24_ a0 v0_2)] M [] (f_batch_Put_post a0 v0_2 res) := by
 unfold f_batch_Put at h
 refine Te Tryz.func15 rfl rfl ?_
 intro F ρ hρ
 refine Sr (We (EO.box (cs := (l24 a0 v0_2).toArray) (congrArg Value.cells (asE (a24_ a0 v0_2) (hρ 0)))) rfl ?_)
 rintro _ _ _ - ⟨rfl, g21, rfl, rfl⟩
 refine Pa Zs rfl rfl (Pa (GV GErr.nil) rfl rfl (Nt (Cs (Sr (Pu (a24_ a0 v0_2) (La (cs := (l24 a0 v0_2)) 0 ag24 sz24 rfl rfl rfl) rfl ?_)))))
 obtain ⟨r22, hr23, h⟩ := bnd h
 refine We (Ca co9 (f_batch_Check_ok a0 _ _ h0_2 r22 hr23) (args1 rfl)) rfl ?_
 rintro _ M24 _ hle25 ⟨_, ⟨rfl, rfl⟩, rfl⟩
 refine WL.a0 (Pa (GV r22) rfl rfl (Ns (Pm (GV r22) rfl rfl (Pu (Bv (!r22.isNil)) (PO.errNotNil Tryz.underlying29 rfl) rfl (Nt (Cd (b := !r22.isNil) rfl (fun hb27 => ?_) (fun hb27 => ?_)))))))
 have h := ite_t hb27 h
 exact Sr (Pm (GV r22) rfl rfl (Pa Zs rfl rfl (Pa (GV r22) rfl rfl (Nt (Cr (Tr (WQ.e0 (Qa (Dr (Rf h [[]] rfl (results2 rfl rfl rfl) hle25 ⟨Zs, [], rfl, rfl, (OwnS.nil _ _)⟩))))))))))
 have h := ite_f hb27 h
 refine Ck (Tc (Cs (WC.draw [0, 1, 3, 0, 8, 31, 0, 64, 192, 511, 1023] (.pure 0 (.pure 1 (.pure 3 (.pure 4 (.pure 6 (.pure 7 (.pure 8 (.alt 2 (.alt 5 (.alt 9 (.pure 10 .done) .none) .none) .none)))))))) mixed (by kernel_rfl) (Tp (pt g21 0) rfl (Fa fo24_0 rfl rfl) rfl (Tp (Iv a0.Term) rfl (Lb 0 pl3 rfl rfl rfl) rfl (Tp (pt g21 1) rfl (Fa fo24_1 rfl rfl) rfl (Tp (Iv a0.Base) rfl (Lb 0 pl3 rfl rfl rfl) rfl (Tp (pt g21 2) rfl (Fa fo24_2 rfl rfl) rfl (Tp v0_2 rfl (Lb 0 pl22 rfl rfl rfl) rfl ?_)))))))))
 have h0_2 := h0_2.mono hle25
 refine Tp (Iv (a0.Records.length : Int)) rfl (PO.lenS Tryz.underlying22 rfl h0_2.len) rfl ?_
 obtain ⟨r30, hr31, h⟩ := bnd h
 refine WT.e0 (Ta rfl (Cb co39 (f_wire_Int_ok [] a0.Term _ _ _ (OwnS.nil _ _) r30 hr31) (args2 rfl rfl)) rfl ?_ ?_)
 rintro _ M32 _ hle33 ⟨_, ⟨vq34, cq34, rfl, rfl, hq34⟩, rfl⟩
 have h0_2 := h0_2.mono hle33
 refine ⟨(Ss rfl (PO.lenS Tryz.underlying22 rfl h0_2.len) rfl (Ss rfl (Lb 1 pl22 rfl rfl rfl) rfl (Ss rfl (Fa fo24_2 rfl rfl) rfl (Ss rfl (Lb 1 pl3 rfl rfl rfl) rfl (Ss rfl (Fa fo24_1 rfl rfl) rfl (Sl rfl)))))), ?_⟩
 refine WT.a1 ?_
 obtain ⟨r35, hr36, h⟩ := bnd h
 refine Ta rfl (Cb co39 (f_wire_Int_ok r30 a0.Base _ _ _ hq34 r35 hr36) (args2 rfl rfl)) rfl ?_ ?_
 rintro _ M37 _ hle38 ⟨_, ⟨vq39, cq39, rfl, rfl, hq39⟩, rfl⟩
 have h0_2 := h0_2.mono hle38
 refine ⟨(Ss rfl (PO.lenS Tryz.underlying22 rfl h0_2.len) rfl (Ss rfl (Lb 1 pl22 rfl rfl rfl) rfl (Ss rfl (Fa fo24_2 rfl rfl) rfl (Sl rfl)))), ?_⟩
 refine WT.a1 ?_
 obtain ⟨r40, hr41, h⟩ := bnd h
 refine Ta rfl (Cb co39 (f_wire_Int_ok r35 (a0.Records.length : Int) _ _ _ hq39 r40 hr41) (args2 rfl rfl)) rfl ?_ ?_
 rintro _ M42 _ hle43 ⟨_, ⟨vq44, cq44, rfl, rfl, hq44⟩, rfl⟩
 refine ⟨(Sl rfl), ?_⟩
 refine WT.a1 (Tp vq44 rfl (Ag rfl) rfl (Ti (Tc ?_)))
 obtain ⟨j46, hj46, h⟩ := bnd h
 refine WC.joinE (fun (x45 : (List Int)) ρ' M' H' => ∃ vx45 cx45, M42.le M' ∧ [(g21, .cells (l24 a0 v0_2).toArray 24 (0, 0))] :: cx45 :: F = H' ∧ ρ' 5 = vx45 ∧ OwnS (Kd.int .u8) M' vx45 x45 cx45) j46 ?_ ?_
 have h346 := h
 have h := hj46
 refine Sr (Pu (pt g21 2) (Fa fo24_2 rfl rfl) rfl (Pu v0_2 (Lb 1 pl22 rfl rfl rfl) rfl ?_))
 have h0_2 := h0_2.mono hle43
 refine Pu (Iv (a0.Records.length : Int)) (PO.lenS Tryz.underlying22 rfl h0_2.len) rfl (Pm (Iv 0) rfl rfl (Nt (Bk (WC.f1 ?_))))
 obtain ⟨e47, he47, hK47⟩ := bnd h
 clear h
 refine WC.loop he47 (fun (p_ : ((List Int) × Int)) ρ' M' H' => match p_ with | (x48, x49) => ∃ vx48 cx48, M42.le M' ∧ [(g21, .cells (l24 a0 v0_2).toArray 24 (0, 0))] :: cx48 :: F = H' ∧ ρ' 5 = vx48 ∧ ρ' 26 = v0_2 ∧ ρ' 27 = (Iv (a0.Records.length : Int)) ∧ ρ' 28 = (Iv x49) ∧ OwnS (Kd.int .u8) M' vx48 x48 cx48) ?_ ?_
 exact ⟨vq44, cq44, lr, rfl, rfl, rfl, rfl, rfl, hq44⟩
 rintro ⟨x48, x49⟩ o47 ρ47 M47 H47 h ⟨vx48, cx48, hle47, rfl, hs47_5, hs47_26, hs47_27, hs47_28, hx48⟩
 unfold f_batch_Put_l0 at h
 refine Sr (Pu (Bv (decide (x49 < (a0.Records.length : Int)))) (PO.lss hs47_28 hs47_27) rfl (Nt (Cs (Cd (b := decide (x49 < (a0.Records.length : Int))) rfl (fun hb53 => ?_) (fun hb53 => ?_)))))
 have h := ite_t hb53 h
 refine Ck (Tc (Cs (Bk (Sr (Pm (Iv x49) hs47_28 rfl ?_)))))
 obtain ⟨hg54, h⟩ := grd_i h
 have h0_2 := h0_2.mono hle47
 obtain ⟨p55, cs56, hat57, hrc58, hhas59⟩ := h0_2.at hg54.1 hg54.2 (by decide)
 obtain ⟨vw60_14, vw60_15, vw60_16, vw60_17, rfl, hw60_14, hw60_15, hw60_16, hw60_17⟩ := kd_api_Record_open hrc58
 refine Pu (.pointer (some p55)) (PO.indexAddr (n := a0.Records.length) Tryz.underlying22 sz67 hs47_26 hs47_28 hg54.1 hg54.2 hat57) rfl (Pu (a67_ (rd a0.Records x49) vw60_14 vw60_15 vw60_16 vw60_17) (PO.loadMA (cs := (l67 (rd a0.Records x49) vw60_14 vw60_15 vw60_16 vw60_17)) ag67 sz67 rfl hhas59) rfl (We (Al ze67 rfl) rfl ?_))
 rintro _ _ _ - ⟨rfl, g61, rfl, rfl⟩
 refine Pa (Iv x49) rfl rfl (We (Sg (v := (a67_ (rd a0.Records x49) vw60_14 vw60_15 vw60_16 vw60_17)) (vl := (l67 (rd a0.Records x49) vw60_14 vw60_15 vw60_16 vw60_17)) (arr' := (l67 (rd a0.Records x49) vw60_14 vw60_15 vw60_16 vw60_17)) rfl sz67 rfl rfl (onesOf (Oc rfl (Oc rfl (Oc rfl (Oc rfl (Oc rfl (Oc rfl (Oc rfl (Oc rfl (Oc rfl (Oc rfl (Oc rfl (Oc rfl (Oc rfl (Oc rfl (Oc (RS.one hw60_14) (Oc (RS.one hw60_15) (Oc (RS.one hw60_16) (Oc (RS.one hw60_17) Oz))))))))))))))))))) rfl rfl (by kernel_rfl)) rfl ?_)
 rintro _ _ _ - ⟨rfl, rfl⟩
 refine Ns (Pm vx48 hs47_5 rfl (Pu (a67_ (rd a0.Records x49) vw60_14 vw60_15 vw60_16 vw60_17) (La (cs := (l67 (rd a0.Records x49) vw60_14 vw60_15 vw60_16 vw60_17)) 0 ag67 sz67 rfl rfl rfl) rfl ?_))
 obtain ⟨⟨r62, r63⟩, hr64, h⟩ := bnd h
 refine Wb (We (Cb co40 (f_record_Put_ok x48 (rd a0.Records x49) _ _ _ _ _ _ _ hx48 hw60_14 hw60_15 hw60_16 hw60_17 (r62, r63) hr64) (args2 rfl rfl)) rfl ?_)
 rintro _ M65 _ hle66 ⟨_, ⟨vq67, cq67, rfl, rfl, hq67⟩, rfl⟩
 refine WL.a1 (Pm (.tuple #[vq67, (GV r63)]) rfl rfl (Pu vq67 (Xt rfl rfl) rfl (Pu (GV r63) (Xt rfl rfl) rfl (Pa vq67 rfl rfl (Pa (GV r63) rfl rfl (Nt (Cs (Sr (Pm (GV r63) rfl rfl (Pu (Bv (!r63.isNil)) (PO.errNotNil Tryz.underlying29 rfl) rfl (Nt ?_)))))))))))
 refine Cd (b := !r63.isNil) rfl (fun hb69 => ?_) (fun hb69 => ?_)
 have h := ite_t hb69 h
 refine Sr (Pm (Iv x49) rfl rfl (Pm (GV r63) rfl rfl ?_))
 obtain ⟨r70, hr71, h⟩ := bnd h
 refine We (Ca co33 (f_fault_Wrap_ok ⟨#[114, 101, 99, 111, 114, 100]⟩ x49 r63 _ r70 hr71) (args3 rfl rfl rfl)) rfl ?_
 rintro _ M72 _ hle73 ⟨_, ⟨rfl, rfl⟩, rfl⟩
 refine WL.a0 (Pa Zs rfl rfl (Pa (GV r70) rfl rfl (Nt (Cr (Tr (Br (Tr (WQ.leaveR (Sum.inr ([], r70)) (oi h).symm (fun heq47 => ?_)))))))))
 subst heq47
 have h := (elimR hK47)
 refine Br (Tr ?_)
 have h := KK.early h h346
 exact WQ.e0 (Qa (Dr (Qa (Dr (Qa (Dr (Rf h [[]] rfl (results2 rfl rfl rfl) ((((((hle25.trans hle33).trans hle38).trans hle43).trans hle47).trans hle66).trans hle73) ⟨Zs, [], rfl, rfl, (OwnS.nil _ _)⟩)))))))
 have h := ite_f hb69 h
 refine Ck (Tc (Cg (Pm vq67 rfl rfl (Pa vq67 rfl rfl (Wz (Bn (Tc (Cg (Pu (Iv (IntKind.i64.wrap (x49 + 1))) (PO.add hs47_28 rfl) rfl (Pm (Iv (IntKind.i64.wrap (x49 + 1))) rfl rfl (Wz ?_)))))))))))
 exact Qa (Dr (Qa (WQ.again (r62, IntKind.i64.wrap (x49 + 1)) (oi h).symm ⟨vq67, cq67, (hle47.trans hle66), rfl, rfl, hs47_26, hs47_27, rfl, hq67⟩)))
 have h := ite_f hb53 h
 refine WC.exit (WQ.thenE (WQ.leaveE (Sum.inl x48) (oi h).symm (fun heq47 => ?_)))
 subst heq47
 have h := elimL hK47
 exact WQ.blockH (WQ.thenFE h ⟨vx48, cx48, hle47, rfl, hs47_5, hx48⟩)
 rintro x45 ρ46 M46 H46 rfl ⟨vx45, cx45, hle46, rfl, hs46_5, hx45⟩
 have h := (Sum.elim_inl _ _ _).symm.trans h
 refine Cs (Sr (Pm vx45 hs46_5 rfl (Pu (Iv (x45.length : Int)) (PO.lenS Tryz.underlying40 rfl hx45.len) rfl (Pu (Bv (decide ((16384 : Int) < (x45.length : Int)))) (PO.gtr rfl rfl) rfl (Nt (Cd (b := decide ((16384 : Int) < (x45.length : Int))) rfl (fun hb76 => ?_) (fun hb76 => ?_)))))))
 have h := ite_t hb76 h
 refine Sr (Pm vx45 hs46_5 rfl (Pu (Iv (x45.length : Int)) (PO.lenS Tryz.underlying40 rfl hx45.len) rfl ?_))
 obtain ⟨r77, hr78, h⟩ := bnd h
 refine We (Ca co31 (f_fault_New_ok ⟨#[98, 97, 116, 99, 104]⟩ (x45.length : Int) (6 : Int) _ r77 hr78) (args3 rfl rfl rfl)) rfl ?_
 rintro _ M79 _ hle80 ⟨_, ⟨rfl, rfl⟩, rfl⟩
 exact WL.a0 (Pa Zs rfl rfl (Pa (GV r77) rfl rfl (Nt (Cr (Tr (WQ.e0 (Qa (Dr (Qa (Dr (Rf h [[]] rfl (results2 rfl rfl rfl) (((((hle25.trans hle33).trans hle38).trans hle43).trans hle46).trans hle80) ⟨Zs, [], rfl, rfl, (OwnS.nil _ _)⟩)))))))))))
 have h := ite_f hb76 h
 exact Ck (Tc (Sr (Pm vx45 hs46_5 rfl (Pa vx45 rfl rfl (Pa (GV GErr.nil) rfl rfl (Nt (Cr (Dr (Rf h [cx45] rfl (results2 rfl rfl rfl) ((((hle25.trans hle33).trans hle38).trans hle43).trans hle46) ⟨vx45, cx45, rfl, rfl, hx45⟩)))))))))
 exact Tz
 exact Tz
 exact Tz

noncomputable def f_wire_Read (a0 : (List Int)) : Option T_wire_Reader :=
  (some (⟨a0, (0 : Int), GErr.nil⟩ : T_wire_Reader))
def f_wire_Read_post (a0 : (List Int)) (v0 : Value) : T_wire_Reader → Value → IM → HL → Prop :=
  fun (r0 : T_wire_Reader) (v : Value) (M' : IM) (H' : HL) => ∃ b0 vq0_0, (.pointer (some ⟨b0, 0, none⟩)) = v ∧ H' = [[(b0, .cells #[vq0_0, (.int .i64 r0.at_), (GV r0.err)] 85 (0, 0))]] ∧ RS (Kd.int .u8) M' vq0_0 r0.b
theorem f_wire_Read_ok (a0 : (List Int)) (M : IM) (v0 : Value) (h0 : RS (Kd.int .u8) M v0 a0) (res : T_wire_Reader) (h : f_wire_Read a0 = some res) :
    Tri Tryz.prog 20 #[v0] M [] (f_wire_Read_post a0 v0 res) := by
 unfold f_wire_Read at h
 refine Te Tryz.func20 rfl rfl ?_
 intro F ρ hρ
 refine Sr (Pa (.pointer none) rfl rfl (Ns (Pm v0 (hρ 0) rfl (Pu (.agg #[v0, (Iv 0), (GV GErr.nil)]) (Bl (cl := [v0, (Iv 0), (GV GErr.nil)]) ze85 fp85 (Parts.cons ((congrArg Value.cells (show ev _ _ = v0 from rfl)).trans h0.cells) Pz) rfl) rfl (We (EO.box (cs := #[v0, (Iv 0), (GV GErr.nil)]) (congrArg Value.cells (show ev _ _ = (.agg #[v0, (Iv 0), (GV GErr.nil)]) from rfl))) rfl ?_)))))
 rintro _ _ _ - ⟨rfl, g21, rfl, rfl⟩
 exact Pa (pt g21 0) rfl rfl (Nt (Cr (Rf h [[(g21, .cells #[v0, (Iv 0), (GV GErr.nil)] 85 (0, 0))]] rfl (Rs rfl rfl) lr ⟨g21, v0, rfl, rfl, h0⟩)))

noncomputable def f_wire_Reader_At (a0 : T_wire_Reader) : Option Int :=
  (some a0.at_)
def f_wire_Reader_At_post (a0 : T_wire_Reader) (v0_0 : Value) (g0 : Nat) : Int → Value → IM → HL → Prop :=
  fun (r0 : Int) (v : Value) (M' : IM) (H' : HL) => (.int .i64 r0) = v ∧ H' = [[(g0, .cells #[v0_0, (.int .i64 a0.at_), (GV a0.err)] 85 (0, 0))]]
theorem f_wire_Reader_At_ok (a0 : T_wire_Reader) (M : IM) (v0_0 : Value) (g0 : Nat) (h0_0 : RS (Kd.int .u8) M v0_0 a0.b) (res : Int) (h : f_wire_Reader_At a0 = some res) :
    Tri Tryz.prog 23 #[(pt g0 0)] M [[(g0, .cells #[v0_0, (Iv a0.at_), (GV a0.err)] 85 (0, 0))]] (f_wire_Reader_At_post a0 v0_0 g0 res) := by
 unfold f_wire_Reader_At at h
 refine Te Tryz.func23 rfl rfl ?_
 intro F ρ hρ
 exact Sr (Pa (Iv 0) rfl rfl (Ns (Pm (pt g0 0) (hρ 0) rfl (Pu (pt g0 0) (Nk rfl) rfl (Pu (pt g0 1) (Fa fo85_1 rfl rfl) rfl (Pu (Iv a0.at_) (Lb 0 pl3 rfl rfl rfl) rfl (Pa (Iv a0.at_) rfl rfl (Nt (Cr (Rf h [[(g0, .cells #[v0_0, (Iv a0.at_), (GV a0.err)] 85 (0, 0))]] rfl (Rs rfl rfl) lr ⟨rfl, rfl⟩))))))))))

noncomputable def f_wire_Reader_fail (a0 : T_wire_Reader) (a1 : ByteArray) (a2 : Int) (a3 : Int) : Option GErr :=
  (if a0.err.isNil = true then ((f_fault_New a1 a2 a3).bind fun (r22 : GErr) => (some r22)) else (some a0.err))
def f_wire_Reader_fail_post (a0 : T_wire_Reader) (a1 : ByteArray) (a2 : Int) (a3 : Int) (v0_0 : Value) (g0 : Nat) : GErr → Value → IM → HL → Prop :=
  fun (r0 : GErr) (v : Value) (M' : IM) (H' : HL) => (.tuple #[]) = v ∧ H' = [[(g0, .cells #[v0_0, (.int .i64 a0.at_), (GV r0)] 85 (0, 0))]]
theorem f_wire_Reader_fail_ok (a0 : T_wire_Reader) (a1 : ByteArray) (a2 : Int) (a3 : Int) (M : IM) (v0_0 : Value) (g0 : Nat) (h0_0 : RS (Kd.int .u8) M v0_0 a0.b) (res : GErr) (h : f_wire_Reader_fail a0 a1 a2 a3 = some res) :
    Tri Tryz.prog 78 #[(pt g0 0), (Sv a1), (Iv a2), (Iv a3)] M [[(g0, .cells #[v0_0, (Iv a0.at_), (GV a0.err)] 85 (0, 0))]] (f_wire_Reader_fail_post a0 a1 a2 a3 v0_0 g0 res) := by
 unfold f_wire_Reader_fail at h
 refine Te Tryz.func78 rfl rfl ?_
 intro F ρ hρ
 refine Sr (Pm (pt g0 0) (hρ 0) rfl (Pu (pt g0 0) (Nk rfl) rfl (Pu (pt g0 2) (Fa fo85_2 rfl rfl) rfl (Pu (GV a0.err) (Lb 0 pl29 rfl rfl rfl) rfl (Pu (Bv a0.err.isNil) (PO.errNil Tryz.underlying29 rfl) rfl (Nt (Cd (b := a0.err.isNil) rfl (fun hb21 => ?_) (fun hb21 => ?_))))))))
 have h := ite_t hb21 h
 refine Cg (Pm (pt g0 0) (hρ 0) rfl (Pm (Sv a1) (hρ 1) rfl (Pm (Iv a2) (hρ 2) rfl (Pm (Iv a3) (hρ 3) rfl ?_))))
 obtain ⟨r22, hr23, h⟩ := bnd h
 refine We (Ca co31 (f_fault_New_ok a1 a2 a3 _ r22 hr23) (args3 rfl rfl rfl)) rfl ?_
 rintro _ M24 _ hle25 ⟨_, ⟨rfl, rfl⟩, rfl⟩
 refine WL.a0 (Pu (pt g0 0) (Nk rfl) rfl (Pu (pt g0 2) (Fa fo85_2 rfl rfl) rfl (We (Es (GV r22) [v0_0, (Iv a0.at_), (GV r22)] (GErr.val_cells _ _ _ _) sz29 rfl rfl (GErr.val_one _ _ _ _) rfl rfl rfl) rfl ?_)))
 rintro _ _ _ - ⟨rfl, rfl⟩
 exact Wz (WQ.endsF h [[(g0, .cells #[v0_0, (Iv a0.at_), (GV r22)] 85 (0, 0))]] rfl (results0 rfl) hle25 ⟨rfl, rfl⟩)
 have h := ite_f hb21 h
 exact Ck (WQ.endsF h [[(g0, .cells #[v0_0, (Iv a0.at_), (GV a0.err)] 85 (0, 0))]] rfl (results0 rfl) lr ⟨rfl, rfl⟩)

noncomputable def f_wire_Reader_Num_1 (a0 : Int) (a1 : (List Int)) (a2 : Int) : Option (Int × Int) :=
  (grd (0 ≤ a2 ∧ a2 < a1.length) (some (orI .u64 (shlI .u64 a0 (8 : Int)) (IntKind.u64.wrap (rd a1 a2)), IntKind.i64.wrap (a2 + (1 : Int)))))
def f_wire_Reader_Num_1_post (a0 : Int) (a1 : (List Int)) (a2 : Int) (v1 : Value) (g0 g1 g2 : Nat) : (Int × Int) → Value → IM → HL → Prop :=
  fun (p_ : (Int × Int)) (v : Value) (M' : IM) (H' : HL) => match p_ with | (r0, r1) => (.tuple #[]) = v ∧ H' = [[(g0, .cells #[(.int .u64 r0)] 112 (0, 0))], [(g1, .cells #[v1] 40 (0, 0))], [(g2, .cells #[(.int .i64 r1)] 3 (0, 0))]]
theorem f_wire_Reader_Num_1_ok (a0 : Int) (a1 : (List Int)) (a2 : Int) (M : IM) (v1 : Value) (g0 g1 g2 : Nat) (h1 : RS (Kd.int .u8) M v1 a1) (res : (Int × Int)) (h : f_wire_Reader_Num_1 a0 a1 a2 = some res) :
    Tri Tryz.prog 108 #[(pt g0 0), (pt g1 0), (pt g2 0)] M [[(g0, .cells #[(Uv a0)] 112 (0, 0))], [(g1, .cells #[v1] 40 (0, 0))], [(g2, .cells #[(Iv a2)] 3 (0, 0))]] (f_wire_Reader_Num_1_post a0 a1 a2 v1 g0 g1 g2 res) := by
 unfold f_wire_Reader_Num_1 at h
 refine Te Tryz.func108 rfl rfl ?_
 intro F ρ hρ
 refine Cs (WC.draw [0, 1, 0, 0, 12, 28, 60, 127, 255] (.pure 0 (.pure 1 (.pure 2 (.pure 3 (.pure 4 (.pure 5 (.pure 6 (.pure 7 (.alt 8 .done .none))))))))) mixed (by kernel_rfl) (Tp (Uv a0) rfl (Lb 0 pl112 (hρ 0) rfl rfl) rfl (Tp (Uv (shlI .u64 a0 (8 : Int))) rfl (PO.shl rfl rfl (by decide)) rfl (Tp v1 rfl (Lb 1 pl40 (hρ 1) rfl rfl) rfl (Tp (Iv a2) rfl (Lb 2 pl3 (hρ 2) rfl rfl) rfl ?_)))))
 obtain ⟨hg21, h⟩ := grd_i h
 obtain ⟨p22, cs23, hat24, hrc25, hhas26⟩ := h1.at hg21.1 hg21.2 (by decide)
 obtain rfl := hrc25
 refine Tp (.pointer (some p22)) rfl (PO.indexAddr (n := a1.length) Tryz.underlying40 sz5 rfl rfl hg21.1 hg21.2 hat24) rfl (Tp (Yv (rd a1 a2)) rfl (PO.loadM pl5 rfl (IM.has0 hhas26)) rfl (Tp (Uv (IntKind.u64.wrap (rd a1 a2))) rfl (PO.conv us5 Tryz.underlying112 rfl) rfl (Tp (Uv (orI .u64 (shlI .u64 a0 (8 : Int)) (IntKind.u64.wrap (rd a1 a2)))) rfl (PO.or rfl rfl) rfl (Ta rfl (Es (Uv (orI .u64 (shlI .u64 a0 (8 : Int)) (IntKind.u64.wrap (rd a1 a2)))) [(Uv (orI .u64 (shlI .u64 a0 (8 : Int)) (IntKind.u64.wrap (rd a1 a2))))] rfl sz112 (hρ 0) rfl rfl rfl rfl rfl) rfl ?_ ?_))))
 rintro _ _ _ - ⟨rfl, rfl⟩
 refine ⟨(Sl rfl), ?_⟩
 refine Ti (Tc (Cg (Pu (Iv a2) (Lb 2 pl3 (hρ 2) rfl rfl) rfl (Pu (Iv (IntKind.i64.wrap (a2 + 1))) (PO.add rfl rfl) rfl (Wb (We (Es (Iv (IntKind.i64.wrap (a2 + 1))) [(Iv (IntKind.i64.wrap (a2 + 1)))] rfl sz3 (hρ 2) rfl rfl rfl rfl rfl) rfl ?_))))))
 rintro _ _ _ - ⟨rfl, rfl⟩
 exact Wz (Qb (Qb (WQ.endsF h [[(g0, .cells #[(Uv (orI .u64 (shlI .u64 a0 (8 : Int)) (IntKind.u64.wrap (rd a1 a2))))] 112 (0, 0))], [(g1, .cells #[v1] 40 (0, 0))], [(g2, .cells #[(Iv (IntKind.i64.wrap (a2 + 1)))] 3 (0, 0))]] rfl (results0 rfl) lr ⟨rfl, rfl⟩)))
 exact Tz

noncomputable def f_wire_Reader_Num (a0 : T_wire_Reader) (a1 : Int) : Option (Int × Int × GErr) :=
  (if (!a0.err.isNil) = true then (some ((0 : Int), a0.at_, a0.err)) else (grd (0 ≤ a0.at_ ∧ a0.at_ ≤ (a0.b.length : Int) ∧ (a0.b.length : Int) ≤ (a0.b.length : Int)) (if (decide (((sub a0.b a0.at_ (a0.b.length : Int)).length : Int) = (0 : Int))) = true then ((f_wire_Reader_fail a0 (⟨#[110, 117, 109]⟩ : ByteArray) a0.at_ (3 : Int)).bind fun (r26 : GErr) => (some ((0 : Int), a0.at_, r26))) else (grd (0 ≤ (0 : Int) ∧ (0 : Int) < (sub a0.b a0.at_ (a0.b.length : Int)).length) (grd (0 ≤ shrI .u8 (rd (sub a0.b a0.at_ (a0.b.length : Int)) (0 : Int)) (6 : Int)) (if (decide (((sub a0.b a0.at_ (a0.b.length : Int)).length : Int) < (shlI .i64 (1 : Int) (shrI .u8 (rd (sub a0.b a0.at_ (a0.b.length : Int)) (0 : Int)) (6 : Int))))) = true then ((f_wire_Reader_fail a0 (⟨#[110, 117, 109]⟩ : ByteArray) a0.at_ (3 : Int)).bind fun (r39 : GErr) => (some ((0 : Int), a0.at_, r39))) else (grd (0 ≤ (0 : Int) ∧ (0 : Int) < (sub a0.b a0.at_ (a0.b.length : Int)).length) (((((((if (decide ((shlI .i64 (1 : Int) (shrI .u8 (rd (sub a0.b a0.at_ (a0.b.length : Int)) (0 : Int)) (6 : Int))) = (8 : Int))) = true then ((f_wire_Reader_Num_1 (IntKind.u64.wrap (andI .u8 (rd (sub a0.b a0.at_ (a0.b.length : Int)) (0 : Int)) (63 : Int))) (sub a0.b a0.at_ (a0.b.length : Int)) (1 : Int)).bind fun (r65, r66) => ((f_wire_Reader_Num_1 r65 (sub a0.b a0.at_ (a0.b.length : Int)) r66).bind fun (r70, r71) => ((f_wire_Reader_Num_1 r70 (sub a0.b a0.at_ (a0.b.length : Int)) r71).bind fun (r75, r76) => ((f_wire_Reader_Num_1 r75 (sub a0.b a0.at_ (a0.b.length : Int)) r76).bind fun (r80, r81) => (some (Sum.inl (IntKind.u64.wrap ((0 : Int) + (1073725440 : Int)), r81, r80))))))) else (if (decide ((shlI .i64 (1 : Int) (shrI .u8 (rd (sub a0.b a0.at_ (a0.b.length : Int)) (0 : Int)) (6 : Int))) = (4 : Int))) = true then (some (Sum.inl ((0 : Int), (1 : Int), IntKind.u64.wrap (andI .u8 (rd (sub a0.b a0.at_ (a0.b.length : Int)) (0 : Int)) (63 : Int))))) else (if (decide ((shlI .i64 (1 : Int) (shrI .u8 (rd (sub a0.b a0.at_ (a0.b.length : Int)) (0 : Int)) (6 : Int))) = (2 : Int))) = true then (((some (Sum.inl ((0 : Int), (1 : Int), IntKind.u64.wrap (andI .u8 (rd (sub a0.b a0.at_ (a0.b.length : Int)) (0 : Int)) (63 : Int)))))).bind fun r => some (Sum.inr r)) else (((((some ((0 : Int), (1 : Int), IntKind.u64.wrap (andI .u8 (rd (sub a0.b a0.at_ (a0.b.length : Int)) (0 : Int)) (63 : Int))))).bind fun r => some (Sum.inr r))).bind fun r => some (Sum.inr r))))) : Option ((Int × Int × Int) ⊕ ((Int × Int × Int) ⊕ (Int × Int × Int)))).bind (Sum.elim (fun (x60, x61, x62) => ((f_wire_Reader_Num_1 x62 (sub a0.b a0.at_ (a0.b.length : Int)) x61).bind fun (r87, r88) => ((f_wire_Reader_Num_1 r87 (sub a0.b a0.at_ (a0.b.length : Int)) r88).bind fun (r92, r93) => (some (Sum.inl (IntKind.u64.wrap (x60 + (16320 : Int)), r93, r92)))))) some)) : Option ((Int × Int × Int) ⊕ (Int × Int × Int))).bind (Sum.elim (fun (x56, x57, x58) => ((f_wire_Reader_Num_1 x58 (sub a0.b a0.at_ (a0.b.length : Int)) x57).bind fun (r97, r98) => (some (IntKind.u64.wrap (x56 + (64 : Int)), r98, r97)))) some)) : Option (Int × Int × Int)).bind fun (x52, x53, x54) => (if (decide (x54 < x52)) = true then ((f_wire_Reader_fail a0 (⟨#[110, 117, 109]⟩ : ByteArray) a0.at_ (5 : Int)).bind fun (r103 : GErr) => (some ((0 : Int), a0.at_, r103))) else (if (decide (a1 < x54)) = true then ((f_wire_Reader_fail a0 (⟨#[110, 117, 109]⟩ : ByteArray) a0.at_ (6 : Int)).bind fun (r108 : GErr) => (some ((0 : Int), a0.at_, r108))) else (some (x54, IntKind.i64.wrap (a0.at_ + (shlI .i64 (1 : Int) (shrI .u8 (rd (sub a0.b a0.at_ (a0.b.length : Int)) (0 : Int)) (6 : Int)))), a0.err))))))))))))
def f_wire_Reader_Num_post (a0 : T_wire_Reader) (a1 : Int) (v0_0 : Value) (g0 : Nat) : (Int × Int × GErr) → Value → IM → HL → Prop :=
  fun (p_ : (Int × Int × GErr)) (v : Value) (M' : IM) (H' : HL) => match p_ with | (r0, r1, r2) => (.int .u64 r0) = v ∧ H' = [[(g0, .cells #[v0_0, (.int .i64 r1), (GV r2)] 85 (0, 0))]]
theorem f_wire_Reader_Num_ok (a0 : T_wire_Reader) (a1 : Int) (M : IM) (v0_0 : Value) (g0 : Nat) (h0_0 : RS (Kd.int .u8) M v0_0 a0.b) (res : (Int × Int × GErr)) (h : f_wire_Reader_Num a0 a1 = some res) :
    Tri Tryz.prog 80 #[(pt g0 0), (Uv a1)] M [[(g0, .cells #[v0_0, (Iv a0.at_), (GV a0.err)] 85 (0, 0))]] (f_wire_Reader_Num_post a0 a1 v0_0 g0 res) := by
 unfold f_wire_Reader_Num at h
 refine Te Tryz.func80 rfl rfl ?_
 intro F ρ hρ
 refine Sr (Pa (Uv 0) rfl rfl (Nt (Cs (Sr (Pm (pt g0 0) (hρ 0) rfl (Pu (pt g0 0) (Nk rfl) rfl (Pu (pt g0 2) (Fa fo85_2 rfl rfl) rfl (Pu (GV a0.err) (Lb 0 pl29 rfl rfl rfl) rfl (Pu (Bv (!a0.err.isNil)) (PO.errNotNil Tryz.underlying29 rfl) rfl (Nt (Cd (b := !a0.err.isNil) rfl (fun hb21 => ?_) (fun hb21 => ?_))))))))))))
 have h := ite_t hb21 h
 exact Sr (Pa (Uv 0) rfl rfl (Nt (Cr (Tr (Rf h [[(g0, .cells #[v0_0, (Iv a0.at_), (GV a0.err)] 85 (0, 0))]] rfl (Rs rfl rfl) lr ⟨rfl, rfl⟩)))))
 have h := ite_f hb21 h
 refine Ck (Tc (Cs (WC.draw [0, 1, 3, 7, 0, 16, 48, 112, 255, 0, 1023] (.pure 0 (.pure 1 (.pure 2 (.pure 3 (.pure 4 (.pure 5 (.pure 6 (.pure 7 (.pure 8 (.alt 9 (.alt 10 .done .none) .none)))))))))) mixed (by kernel_rfl) (Tp (pt g0 0) rfl (Mv (hρ 0)) rfl (Tp (pt g0 0) rfl (Nk rfl) rfl (Tp (pt g0 0) rfl (Fa fo85_0 rfl rfl) rfl (Tp v0_0 rfl (Lb 0 pl40 rfl rfl rfl) rfl (Tp (pt g0 0) rfl (Mv (hρ 0)) rfl (Tp (pt g0 0) rfl (Nk rfl) rfl (Tp (pt g0 1) rfl (Fa fo85_1 rfl rfl) rfl (Tp (Iv a0.at_) rfl (Lb 0 pl3 rfl rfl rfl) rfl ?_)))))))))))
 obtain ⟨hg22, h⟩ := grd_i h
 have h23 := h0_0.sub hg22.1 hg22.2.1 hg22.2.2
 refine Tp (slV v0_0 1 (a0.at_).toNat ((a0.b.length : Int)).toNat) rfl (PO.slice (n := a0.b.length) (l := (a0.at_).toNat) (h := ((a0.b.length : Int)).toNat) Tryz.underlying40 sz5 rfl h0_0.len h0_0.cap ⟨_, _, rfl, hg22.1, rfl⟩ (boundN_ rfl) (Int.toNat_le_toNat hg22.2.1) (toNat_le_len hg22.2.2)) rfl (Ta rfl (Al ze40 rfl) rfl ?_ ?_)
 rintro _ _ _ - ⟨rfl, g24, rfl, rfl⟩
 refine ⟨(Ss rfl (PO.slice (n := a0.b.length) (l := (a0.at_).toNat) (h := ((a0.b.length : Int)).toNat) Tryz.underlying40 sz5 rfl h0_0.len h0_0.cap ⟨_, _, rfl, hg22.1, rfl⟩ (boundN_ rfl) (Int.toNat_le_toNat hg22.2.1) (toNat_le_len hg22.2.2)) rfl (Ss rfl (Lb 1 pl3 rfl rfl rfl) rfl (Ss rfl (Fa fo85_1 rfl rfl) rfl (Ss rfl (Nk rfl) rfl (Ss rfl (Mv (hρ 0)) rfl (Ss rfl (Lb 1 pl40 rfl rfl rfl) rfl (Ss rfl (Fa fo85_0 rfl rfl) rfl (Ss rfl (Nk rfl) rfl (Ss rfl (Mv (hρ 0)) rfl trivial))))))))), ?_⟩
 refine Ta rfl (Es (slV v0_0 1 (a0.at_).toNat ((a0.b.length : Int)).toNat) [(slV v0_0 1 (a0.at_).toNat ((a0.b.length : Int)).toNat)] h23.cells sz40 rfl rfl (RS.one h23) rfl rfl rfl) rfl ?_ ?_
 rintro _ _ _ - ⟨rfl, rfl⟩
 refine ⟨(Sl rfl), ?_⟩
 refine Ti (Tc (Cs (Sr (Pu (slV v0_0 1 (a0.at_).toNat ((a0.b.length : Int)).toNat) (Lb 0 pl40 rfl rfl rfl) rfl (Pu (Iv ((sub a0.b a0.at_ (a0.b.length : Int)).length : Int)) (PO.lenS Tryz.underlying40 rfl h23.len) rfl (Pu (Bv (decide (((sub a0.b a0.at_ (a0.b.length : Int)).length : Int) = (0 : Int)))) (PO.eql rfl rfl) rfl (Nt (Cd (b := decide (((sub a0.b a0.at_ (a0.b.length : Int)).length : Int) = (0 : Int))) rfl (fun hb25 => ?_) (fun hb25 => ?_)))))))))
 have h := ite_t hb25 h
 refine Sr (Pm (pt g0 0) (hρ 0) rfl (Pm (pt g0 0) (hρ 0) rfl (Pu (pt g0 0) (Nk rfl) rfl (Pu (pt g0 1) (Fa fo85_1 rfl rfl) rfl (Pu (Iv a0.at_) (Lb 1 pl3 rfl rfl rfl) rfl ?_)))))
 obtain ⟨r26, hr27, h⟩ := bnd h
 refine WL.f1 (We (Cb co78 (f_wire_Reader_fail_ok a0 (⟨#[110, 117, 109]⟩ : ByteArray) a0.at_ (3 : Int) _ _ _ h0_0 r26 hr27) (args4 rfl rfl rfl rfl)) rfl ?_)
 rintro _ M28 _ hle29 ⟨_, ⟨rfl, rfl⟩, rfl⟩
 exact WL.a1 (Ns (Pa (Uv 0) rfl rfl (Nt (Cr (Tr (Qa (Dr (Rf h [[(g0, .cells #[v0_0, (Iv a0.at_), (GV r26)] 85 (0, 0))]] rfl (Rs rfl rfl) hle29 ⟨rfl, rfl⟩))))))))
 have h := ite_f hb25 h
 refine Ck (Tc (Sr (Pu (slV v0_0 1 (a0.at_).toNat ((a0.b.length : Int)).toNat) (Lb 0 pl40 rfl rfl rfl) rfl ?_)))
 obtain ⟨hg30, h⟩ := grd_i h
 obtain ⟨p31, cs32, hat33, hrc34, hhas35⟩ := h23.at hg30.1 hg30.2 (by decide)
 obtain rfl := hrc34
 refine Pu (.pointer (some p31)) (PO.indexAddr (n := (sub a0.b a0.at_ (a0.b.length : Int)).length) Tryz.underlying40 sz5 rfl rfl hg30.1 hg30.2 hat33) rfl (Pu (Yv (rd (sub a0.b a0.at_ (a0.b.length : Int)) (0 : Int))) (PO.loadM pl5 rfl (IM.has0 hhas35)) rfl (Pu (Yv (shrI .u8 (rd (sub a0.b a0.at_ (a0.b.length : Int)) (0 : Int)) (6 : Int))) (PO.shr rfl rfl (by decide)) rfl ?_))
 obtain ⟨hg37, h⟩ := grd_i h
 refine Pu (Iv (shlI .i64 1 (shrI .u8 (rd (sub a0.b a0.at_ (a0.b.length : Int)) (0 : Int)) (6 : Int)))) (PO.shl rfl rfl hg37) rfl (Pa (Iv (shlI .i64 1 (shrI .u8 (rd (sub a0.b a0.at_ (a0.b.length : Int)) (0 : Int)) (6 : Int)))) rfl rfl (Nt (Cs (Sr (Pu (slV v0_0 1 (a0.at_).toNat ((a0.b.length : Int)).toNat) (Lb 0 pl40 rfl rfl rfl) rfl (Pu (Iv ((sub a0.b a0.at_ (a0.b.length : Int)).length : Int)) (PO.lenS Tryz.underlying40 rfl h23.len) rfl (Pm (Iv (shlI .i64 1 (shrI .u8 (rd (sub a0.b a0.at_ (a0.b.length : Int)) (0 : Int)) (6 : Int)))) rfl rfl (Pu (Bv (decide (((sub a0.b a0.at_ (a0.b.length : Int)).length : Int) < (shlI .i64 1 (shrI .u8 (rd (sub a0.b a0.at_ (a0.b.length : Int)) (0 : Int)) (6 : Int)))))) (PO.lss rfl rfl) rfl (Nt (Cd (b := decide (((sub a0.b a0.at_ (a0.b.length : Int)).length : Int) < (shlI .i64 1 (shrI .u8 (rd (sub a0.b a0.at_ (a0.b.length : Int)) (0 : Int)) (6 : Int))))) rfl (fun hb38 => ?_) (fun hb38 => ?_)))))))))))
 have h := ite_t hb38 h
 refine Sr (Pm (pt g0 0) (hρ 0) rfl (Pm (pt g0 0) (hρ 0) rfl (Pu (pt g0 0) (Nk rfl) rfl (Pu (pt g0 1) (Fa fo85_1 rfl rfl) rfl (Pu (Iv a0.at_) (Lb 1 pl3 rfl rfl rfl) rfl ?_)))))
 obtain ⟨r39, hr40, h⟩ := bnd h
 refine WL.f1 (We (Cb co78 (f_wire_Reader_fail_ok a0 (⟨#[110, 117, 109]⟩ : ByteArray) a0.at_ (3 : Int) _ _ _ h0_0 r39 hr40) (args4 rfl rfl rfl rfl)) rfl ?_)
 rintro _ M41 _ hle42 ⟨_, ⟨rfl, rfl⟩, rfl⟩
 exact WL.a1 (Ns (Pa (Uv 0) rfl rfl (Nt (Cr (Tr (Qa (Dr (Rf h [[(g0, .cells #[v0_0, (Iv a0.at_), (GV r39)] 85 (0, 0))]] rfl (Rs rfl rfl) hle42 ⟨rfl, rfl⟩))))))))
 have h := ite_f hb38 h
 refine Ck (Tc (Sr (Pu (slV v0_0 1 (a0.at_).toNat ((a0.b.length : Int)).toNat) (Lb 0 pl40 rfl rfl rfl) rfl ?_)))
 obtain ⟨hg43, h⟩ := grd_i h
 obtain ⟨p44, cs45, hat46, hrc47, hhas48⟩ := h23.at hg43.1 hg43.2 (by decide)
 obtain rfl := hrc47
 refine Pu (.pointer (some p44)) (PO.indexAddr (n := (sub a0.b a0.at_ (a0.b.length : Int)).length) Tryz.underlying40 sz5 rfl rfl hg43.1 hg43.2 hat46) rfl (Pu (Yv (rd (sub a0.b a0.at_ (a0.b.length : Int)) (0 : Int))) (PO.loadM pl5 rfl (IM.has0 hhas48)) rfl (Pu (Yv (andI .u8 (rd (sub a0.b a0.at_ (a0.b.length : Int)) (0 : Int)) (63 : Int))) (PO.and rfl rfl) rfl (Pu (Uv (IntKind.u64.wrap (andI .u8 (rd (sub a0.b a0.at_ (a0.b.length : Int)) (0 : Int)) (63 : Int)))) (PO.conv us5 Tryz.underlying112 rfl) rfl (We (Al ze112 rfl) rfl ?_))))
 rintro _ _ _ - ⟨rfl, g50, rfl, rfl⟩
 refine We (Al ze3 rfl) rfl ?_
 rintro _ _ _ - ⟨rfl, g51, rfl, rfl⟩
 refine WL.f1 (We (Es (Uv (IntKind.u64.wrap (andI .u8 (rd (sub a0.b a0.at_ (a0.b.length : Int)) (0 : Int)) (63 : Int)))) [(Uv (IntKind.u64.wrap (andI .u8 (rd (sub a0.b a0.at_ (a0.b.length : Int)) (0 : Int)) (63 : Int))))] rfl sz112 rfl rfl rfl rfl rfl rfl) rfl ?_)
 rintro _ _ _ - ⟨rfl, rfl⟩
 refine WL.f1 (We (Es (Iv 1) [(Iv 1)] rfl sz3 rfl rfl rfl rfl rfl rfl) rfl ?_)
 rintro _ _ _ - ⟨rfl, rfl⟩
 refine Ns (Pu (.func (.func 108) #[] #[(pt g50 0), (pt g24 0), (pt g51 0)]) (PO.makeFunc2 (args0) (args3 (show ev _ _ = (pt g50 0) from rfl) (show ev _ _ = (pt g24 0) from rfl) (show ev _ _ = (pt g51 0) from rfl))) rfl (Pa (.func (.func 108) #[] #[(pt g50 0), (pt g24 0), (pt g51 0)]) rfl rfl (Ns (Pa (Uv 0) rfl rfl (Nt ?_)))))
 obtain ⟨j55, hj55, h⟩ := bnd h
 refine Jf (fun (p_ : (Int × Int × Int)) ρ' M' H' => match p_ with | (x52, x53, x54) => M.le M' ∧ [(g51, .cells #[(Iv x53)] 3 (0, 0))] :: [(g50, .cells #[(Uv x54)] 112 (0, 0))] :: [(g24, .cells #[(slV v0_0 1 (a0.at_).toNat ((a0.b.length : Int)).toNat)] 40 (0, 0))] :: [(g0, .cells #[v0_0, (Iv a0.at_), (GV a0.err)] 85 (0, 0))] :: F = H' ∧ ρ' 0 = (pt g0 0) ∧ ρ' 1 = (Uv a1) ∧ ρ' 6 = (Iv (shlI .i64 1 (shrI .u8 (rd (sub a0.b a0.at_ (a0.b.length : Int)) (0 : Int)) (6 : Int)))) ∧ ρ' 7 = (pt g50 0) ∧ ρ' 10 = (Uv x52)) j55 ?_ ?_
 have h355 := h
 have h := hj55
 refine Sr (Pm (Iv (shlI .i64 1 (shrI .u8 (rd (sub a0.b a0.at_ (a0.b.length : Int)) (0 : Int)) (6 : Int)))) rfl rfl (Nt (Bk ?_)))
 obtain ⟨j59, hj59, h⟩ := bnd h
 refine WC.joinE (fun (p_ : (Int × Int × Int)) ρ' M' H' => match p_ with | (x56, x57, x58) => M.le M' ∧ [(g51, .cells #[(Iv x57)] 3 (0, 0))] :: [(g50, .cells #[(Uv x58)] 112 (0, 0))] :: [(g24, .cells #[(slV v0_0 1 (a0.at_).toNat ((a0.b.length : Int)).toNat)] 40 (0, 0))] :: [(g0, .cells #[v0_0, (Iv a0.at_), (GV a0.err)] 85 (0, 0))] :: F = H' ∧ ρ' 0 = (pt g0 0) ∧ ρ' 1 = (Uv a1) ∧ ρ' 6 = (Iv (shlI .i64 1 (shrI .u8 (rd (sub a0.b a0.at_ (a0.b.length : Int)) (0 : Int)) (6 : Int)))) ∧ ρ' 7 = (pt g50 0) ∧ ρ' 9 = (.func (.func 108) #[] #[(pt g50 0), (pt g24 0), (pt g51 0)]) ∧ ρ' 10 = (Uv x56)) j59 ?_ ?_
 have h359 := h
 have h := hj59
 refine Bk ?_
 obtain ⟨j63, hj63, h⟩ := bnd h
 refine WC.joinE (fun (p_ : (Int × Int × Int)) ρ' M' H' => match p_ with | (x60, x61, x62) => M.le M' ∧ [(g51, .cells #[(Iv x61)] 3 (0, 0))] :: [(g50, .cells #[(Uv x62)] 112 (0, 0))] :: [(g24, .cells #[(slV v0_0 1 (a0.at_).toNat ((a0.b.length : Int)).toNat)] 40 (0, 0))] :: [(g0, .cells #[v0_0, (Iv a0.at_), (GV a0.err)] 85 (0, 0))] :: F = H' ∧ ρ' 0 = (pt g0 0) ∧ ρ' 1 = (Uv a1) ∧ ρ' 6 = (Iv (shlI .i64 1 (shrI .u8 (rd (sub a0.b a0.at_ (a0.b.length : Int)) (0 : Int)) (6 : Int)))) ∧ ρ' 7 = (pt g50 0) ∧ ρ' 9 = (.func (.func 108) #[] #[(pt g50 0), (pt g24 0), (pt g51 0)]) ∧ ρ' 10 = (Uv x60)) j63 ?_ ?_
 have h363 := h
 have h := hj63
 refine Bk (Cs (Bk (Cs (Cs (Sr (Pu (Bv (decide ((shlI .i64 1 (shrI .u8 (rd (sub a0.b a0.at_ (a0.b.length : Int)) (0 : Int)) (6 : Int))) = 8))) (PO.eql rfl rfl) rfl (Pa (Bv (decide ((shlI .i64 1 (shrI .u8 (rd (sub a0.b a0.at_ (a0.b.length : Int)) (0 : Int)) (6 : Int))) = 8))) rfl rfl (Nt (Cd (b := decide ((shlI .i64 1 (shrI .u8 (rd (sub a0.b a0.at_ (a0.b.length : Int)) (0 : Int)) (6 : Int))) = 8)) rfl (fun hb64 => ?_) (fun hb64 => ?_))))))))))
 have h := ite_t hb64 h
 refine WC.exit (WQ.thenE (WQ.thenE (WQ.blockH (Tc (Sr (Pm (.func (.func 108) #[] #[(pt g50 0), (pt g24 0), (pt g51 0)]) rfl rfl ?_))))))
 obtain ⟨⟨r65, r66⟩, hr67, h⟩ := bnd h
 refine Wb (Wb (We (EO.callV3 (first := #[]) (cap := #[(pt g50 0), (pt g24 0), (pt g51 0)]) co108 rfl (f_wire_Reader_Num_1_ok (IntKind.u64.wrap (andI .u8 (rd (sub a0.b a0.at_ (a0.b.length : Int)) (0 : Int)) (63 : Int))) (sub a0.b a0.at_ (a0.b.length : Int)) (1 : Int) _ _ _ _ _ h23 (r65, r66) hr67) (argsV0 rfl)) rfl ?_))
 rintro _ M68 _ hle69 ⟨_, ⟨rfl, rfl⟩, rfl⟩
 refine WL.a3 (Ns (Pm (.func (.func 108) #[] #[(pt g50 0), (pt g24 0), (pt g51 0)]) rfl rfl ?_))
 obtain ⟨⟨r70, r71⟩, hr72, h⟩ := bnd h
 refine Wb (Wb (Wb ?_))
 have h23 := h23.mono hle69
 refine We (EO.callV3 (first := #[]) (cap := #[(pt g50 0), (pt g24 0), (pt g51 0)]) co108 rfl (f_wire_Reader_Num_1_ok r65 (sub a0.b a0.at_ (a0.b.length : Int)) r66 _ _ _ _ _ h23 (r70, r71) hr72) (argsV0 rfl)) rfl ?_
 rintro _ M73 _ hle74 ⟨_, ⟨rfl, rfl⟩, rfl⟩
 refine WL.a3 (Ns (Pm (.func (.func 108) #[] #[(pt g50 0), (pt g24 0), (pt g51 0)]) rfl rfl ?_))
 obtain ⟨⟨r75, r76⟩, hr77, h⟩ := bnd h
 refine Wb (Wb (Wb ?_))
 have h23 := h23.mono hle74
 refine We (EO.callV3 (first := #[]) (cap := #[(pt g50 0), (pt g24 0), (pt g51 0)]) co108 rfl (f_wire_Reader_Num_1_ok r70 (sub a0.b a0.at_ (a0.b.length : Int)) r71 _ _ _ _ _ h23 (r75, r76) hr77) (argsV0 rfl)) rfl ?_
 rintro _ M78 _ hle79 ⟨_, ⟨rfl, rfl⟩, rfl⟩
 refine WL.a3 (Ns (Pm (.func (.func 108) #[] #[(pt g50 0), (pt g24 0), (pt g51 0)]) rfl rfl ?_))
 obtain ⟨⟨r80, r81⟩, hr82, h⟩ := bnd h
 refine Wb (Wb (Wb ?_))
 have h23 := h23.mono hle79
 refine We (EO.callV3 (first := #[]) (cap := #[(pt g50 0), (pt g24 0), (pt g51 0)]) co108 rfl (f_wire_Reader_Num_1_ok r75 (sub a0.b a0.at_ (a0.b.length : Int)) r76 _ _ _ _ _ h23 (r80, r81) hr82) (argsV0 rfl)) rfl ?_
 rintro _ M83 _ hle84 ⟨_, ⟨rfl, rfl⟩, rfl⟩
 refine WL.a3 (Nt (Cg (Pm (Uv 0) rfl rfl (Pu (Uv (IntKind.u64.wrap ((0 : Int) + (1073725440 : Int)))) (PO.add rfl rfl) rfl (Pa (Uv (IntKind.u64.wrap ((0 : Int) + (1073725440 : Int)))) rfl rfl (Wz (Bn (WQ.f3 (Qb (Qb (WQ.f3 ?_)))))))))))
 exact WQ.thenFE h ⟨(((hle69.trans hle74).trans hle79).trans hle84), rfl, (hρ 0), (hρ 1), rfl, rfl, rfl, rfl⟩
 have h := ite_f hb64 h
 refine Ck (Tc (Cs (Sr (Pu (Bv (decide ((shlI .i64 1 (shrI .u8 (rd (sub a0.b a0.at_ (a0.b.length : Int)) (0 : Int)) (6 : Int))) = 4))) (PO.eql rfl rfl) rfl (Pa (Bv (decide ((shlI .i64 1 (shrI .u8 (rd (sub a0.b a0.at_ (a0.b.length : Int)) (0 : Int)) (6 : Int))) = 4))) rfl rfl (Nt (Cd (b := decide ((shlI .i64 1 (shrI .u8 (rd (sub a0.b a0.at_ (a0.b.length : Int)) (0 : Int)) (6 : Int))) = 4)) rfl (fun hb85 => ?_) (fun hb85 => ?_))))))))
 have h := ite_t hb85 h
 exact WC.exit (WQ.thenE (WQ.thenE (WQ.blockM rfl (WQ.thenE (WQ.blockH (WQ.thenFE h ⟨lr, rfl, (hρ 0), (hρ 1), rfl, rfl, rfl, rfl⟩))))))
 have h := ite_f hb85 h
 refine Ck (Tc (Sr (Pu (Bv (decide ((shlI .i64 1 (shrI .u8 (rd (sub a0.b a0.at_ (a0.b.length : Int)) (0 : Int)) (6 : Int))) = 2))) (PO.eql rfl rfl) rfl (Pa (Bv (decide ((shlI .i64 1 (shrI .u8 (rd (sub a0.b a0.at_ (a0.b.length : Int)) (0 : Int)) (6 : Int))) = 2))) rfl rfl (Nt (Cd (b := decide ((shlI .i64 1 (shrI .u8 (rd (sub a0.b a0.at_ (a0.b.length : Int)) (0 : Int)) (6 : Int))) = 2)) rfl (fun hb86 => ?_) (fun hb86 => ?_)))))))
 have h := ite_t hb86 h
 refine WC.exit (WQ.thenE (WQ.blockM rfl (WQ.thenE (WQ.blockM rfl (WQ.thenE ?_)))))
 have h := KK.early h h363
 exact WQ.blockH (WQ.thenFE h ⟨lr, rfl, (hρ 0), (hρ 1), rfl, rfl, rfl, rfl⟩)
 have h := ite_f hb86 h
 refine Ck (Tc (WC.exit (WQ.blockM rfl (WQ.thenE (WQ.blockM rfl (WQ.thenE ?_))))))
 have h := KK.early h h363
 refine WQ.blockM rfl (WQ.thenE ?_)
 have h := KK.early h h359
 refine WQ.blockH ?_
 obtain rfl := oi h
 exact Tj ⟨lr, rfl, (hρ 0), (hρ 1), rfl, rfl, rfl⟩
 rintro ⟨x60, x61, x62⟩ ρ63 M63 H63 rfl ⟨hle63, rfl, hs63_0, hs63_1, hs63_6, hs63_7, hs63_9, hs63_10⟩
 have h := (Sum.elim_inl _ _ _).symm.trans h
 refine Sr (Pm (.func (.func 108) #[] #[(pt g50 0), (pt g24 0), (pt g51 0)]) hs63_9 rfl ?_)
 obtain ⟨⟨r87, r88⟩, hr89, h⟩ := bnd h
 refine Wb (Wb ?_)
 have h23 := h23.mono hle63
 refine We (EO.callV3 (first := #[]) (cap := #[(pt g50 0), (pt g24 0), (pt g51 0)]) co108 rfl (f_wire_Reader_Num_1_ok x62 (sub a0.b a0.at_ (a0.b.length : Int)) x61 _ _ _ _ _ h23 (r87, r88) hr89) (argsV0 rfl)) rfl ?_
 rintro _ M90 _ hle91 ⟨_, ⟨rfl, rfl⟩, rfl⟩
 refine WL.a3 (Ns (Pm (.func (.func 108) #[] #[(pt g50 0), (pt g24 0), (pt g51 0)]) hs63_9 rfl ?_))
 obtain ⟨⟨r92, r93⟩, hr94, h⟩ := bnd h
 refine Wb (Wb (Wb ?_))
 have h23 := h23.mono hle91
 refine We (EO.callV3 (first := #[]) (cap := #[(pt g50 0), (pt g24 0), (pt g51 0)]) co108 rfl (f_wire_Reader_Num_1_ok r87 (sub a0.b a0.at_ (a0.b.length : Int)) r88 _ _ _ _ _ h23 (r92, r93) hr94) (argsV0 rfl)) rfl ?_
 rintro _ M95 _ hle96 ⟨_, ⟨rfl, rfl⟩, rfl⟩
 refine WL.a3 (Nt (Cg (Pm (Uv x60) hs63_10 rfl (Pu (Uv (IntKind.u64.wrap (x60 + 16320))) (PO.add rfl rfl) rfl (Pa (Uv (IntKind.u64.wrap (x60 + 16320))) rfl rfl (Wz (Bn (WQ.f3 (Qb (Qb (WQ.f3 ?_)))))))))))
 exact WQ.thenFE h ⟨((hle63.trans hle91).trans hle96), rfl, hs63_0, hs63_1, hs63_6, hs63_7, hs63_9, rfl⟩
 rintro ⟨x56, x57, x58⟩ ρ59 M59 H59 rfl ⟨hle59, rfl, hs59_0, hs59_1, hs59_6, hs59_7, hs59_9, hs59_10⟩
 have h := (Sum.elim_inl _ _ _).symm.trans h
 refine Cs (Sr (Pm (.func (.func 108) #[] #[(pt g50 0), (pt g24 0), (pt g51 0)]) hs59_9 rfl ?_))
 obtain ⟨⟨r97, r98⟩, hr99, h⟩ := bnd h
 refine Wb (Wb ?_)
 have h23 := h23.mono hle59
 refine We (EO.callV3 (first := #[]) (cap := #[(pt g50 0), (pt g24 0), (pt g51 0)]) co108 rfl (f_wire_Reader_Num_1_ok x58 (sub a0.b a0.at_ (a0.b.length : Int)) x57 _ _ _ _ _ h23 (r97, r98) hr99) (argsV0 rfl)) rfl ?_
 rintro _ M100 _ hle101 ⟨_, ⟨rfl, rfl⟩, rfl⟩
 refine WL.a3 (Nt (Cg (Pm (Uv x56) hs59_10 rfl (Pu (Uv (IntKind.u64.wrap (x56 + 64))) (PO.add rfl rfl) rfl (Pa (Uv (IntKind.u64.wrap (x56 + 64))) rfl rfl (Nt (WC.exit (WQ.blockH (WQ.f3 (Qb (Qb ?_)))))))))))
 refine WQ.f3 ?_
 obtain rfl := oi h
 exact Tj ⟨(hle59.trans hle101), rfl, hs59_0, hs59_1, hs59_6, hs59_7, rfl⟩
 obtain ⟨x52, x53, x54⟩ := j55
 rintro ρ55 M55 H55 ⟨hle55, rfl, hs55_0, hs55_1, hs55_6, hs55_7, hs55_10⟩
 refine Cs (Bk (Sr (Pu (Uv x54) (Lb 1 pl112 hs55_7 rfl rfl) rfl (Pm (Uv x52) hs55_10 rfl (Pu (Bv (decide (x54 < x52))) (PO.lss rfl rfl) rfl (Pa (Bv (decide (x54 < x52))) rfl rfl (Nt (Cd (b := decide (x54 < x52)) rfl (fun hb102 => ?_) (fun hb102 => ?_)))))))))
 have h := ite_t hb102 h
 refine Sr (Pm (pt g0 0) hs55_0 rfl (Pm (pt g0 0) hs55_0 rfl (Pu (pt g0 0) (Nk rfl) rfl (Pu (pt g0 1) (Fa fo85_1 rfl rfl) rfl (Pu (Iv a0.at_) (Lb 3 pl3 rfl rfl rfl) rfl ?_)))))
 obtain ⟨r103, hr104, h⟩ := bnd h
 refine WL.f3 ?_
 have h0_0 := h0_0.mono hle55
 refine We (Cb co78 (f_wire_Reader_fail_ok a0 (⟨#[110, 117, 109]⟩ : ByteArray) a0.at_ (5 : Int) _ _ _ h0_0 r103 hr104) (args4 rfl rfl rfl rfl)) rfl ?_
 rintro _ M105 _ hle106 ⟨_, ⟨rfl, rfl⟩, rfl⟩
 refine WL.a1 (Ns (Pa (Uv 0) rfl rfl (Nt (Cr (Br (Tr (Qa (Dr (Qa (Dr (Qa ?_)))))))))))
 exact Dr (Rf h [[(g0, .cells #[v0_0, (Iv a0.at_), (GV r103)] 85 (0, 0))]] rfl (Rs rfl rfl) (hle55.trans hle106) ⟨rfl, rfl⟩)
 have h := ite_f hb102 h
 refine Sr (Pu (Uv x54) (Lb 1 pl112 hs55_7 rfl rfl) rfl (Pm (Uv a1) hs55_1 rfl (Pu (Bv (decide (a1 < x54))) (PO.gtr rfl rfl) rfl (Pa (Bv (decide (a1 < x54))) rfl rfl (Nt (Cd (b := decide (a1 < x54)) rfl (fun hb107 => ?_) (fun hb107 => ?_)))))))
 have h := ite_t hb107 h
 refine Sr (Pm (pt g0 0) hs55_0 rfl (Pm (pt g0 0) hs55_0 rfl (Pu (pt g0 0) (Nk rfl) rfl (Pu (pt g0 1) (Fa fo85_1 rfl rfl) rfl (Pu (Iv a0.at_) (Lb 3 pl3 rfl rfl rfl) rfl ?_)))))
 obtain ⟨r108, hr109, h⟩ := bnd h
 refine WL.f3 ?_
 have h0_0 := h0_0.mono hle55
 refine We (Cb co78 (f_wire_Reader_fail_ok a0 (⟨#[110, 117, 109]⟩ : ByteArray) a0.at_ (6 : Int) _ _ _ h0_0 r108 hr109) (args4 rfl rfl rfl rfl)) rfl ?_
 rintro _ M110 _ hle111 ⟨_, ⟨rfl, rfl⟩, rfl⟩
 refine WL.a1 (Ns (Pa (Uv 0) rfl rfl (Nt (Cr (Br (Tr (Qa (Dr (Qa (Dr (Qa ?_)))))))))))
 exact Dr (Rf h [[(g0, .cells #[v0_0, (Iv a0.at_), (GV r108)] 85 (0, 0))]] rfl (Rs rfl rfl) (hle55.trans hle111) ⟨rfl, rfl⟩)
 have h := ite_f hb107 h
 refine Ck (Bn (Tc (Sr (Pm (pt g0 0) hs55_0 rfl (Pu (pt g0 0) (Nk rfl) rfl (Pu (pt g0 1) (Fa fo85_1 rfl rfl) rfl (Pu (Iv a0.at_) (Lb 3 pl3 rfl rfl rfl) rfl (Pm (Iv (shlI .i64 1 (shrI .u8 (rd (sub a0.b a0.at_ (a0.b.length : Int)) (0 : Int)) (6 : Int)))) hs55_6 rfl (Pu (Iv (IntKind.i64.wrap (a0.at_ + (shlI .i64 1 (shrI .u8 (rd (sub a0.b a0.at_ (a0.b.length : Int)) (0 : Int)) (6 : Int)))))) (PO.add rfl rfl) rfl (Pu (pt g0 0) (Nk rfl) rfl (Pu (pt g0 1) (Fa fo85_1 rfl rfl) rfl ?_)))))))))))
 refine WL.f3 (We (Es (Iv (IntKind.i64.wrap (a0.at_ + (shlI .i64 1 (shrI .u8 (rd (sub a0.b a0.at_ (a0.b.length : Int)) (0 : Int)) (6 : Int)))))) [v0_0, (Iv (IntKind.i64.wrap (a0.at_ + (shlI .i64 1 (shrI .u8 (rd (sub a0.b a0.at_ (a0.b.length : Int)) (0 : Int)) (6 : Int)))))), (GV a0.err)] rfl sz3 rfl rfl rfl rfl rfl rfl) rfl ?_)
 rintro _ _ _ - ⟨rfl, rfl⟩
 exact Ns (Pu (Uv x54) (Lb 2 pl112 hs55_7 rfl rfl) rfl (Pa (Uv x54) rfl rfl (Nt (Cr (Qa (Dr (Qa (Dr (Qa (Dr (Rf h [[(g0, .cells #[v0_0, (Iv (IntKind.i64.wrap (a0.at_ + (shlI .i64 1 (shrI .u8 (rd (sub a0.b a0.at_ (a0.b.length : Int)) (0 : Int)) (6 : Int)))))), (GV a0.err)] 85 (0, 0))]] rfl (Rs rfl rfl) hle55 ⟨rfl, rfl⟩)))))))))))
 exact Tz
 exact Tz

noncomputable def f_wire_Reader_Int (a0 : T_wire_Reader) (a1 : Int) : Option (Int × Int × GErr) :=
  ((f_wire_Reader_Num a0 (IntKind.u64.wrap (if a1 < (0 : Int) then (0 : Int) else a1))).bind fun (r21, r22, r23) => (some (IntKind.i64.wrap r21, r22, r23)))
def f_wire_Reader_Int_post (a0 : T_wire_Reader) (a1 : Int) (v0_0 : Value) (g0 : Nat) : (Int × Int × GErr) → Value → IM → HL → Prop :=
  fun (p_ : (Int × Int × GErr)) (v : Value) (M' : IM) (H' : HL) => match p_ with | (r0, r1, r2) => (.int .i64 r0) = v ∧ H' = [[(g0, .cells #[v0_0, (.int .i64 r1), (GV r2)] 85 (0, 0))]]
theorem f_wire_Reader_Int_ok (a0 : T_wire_Reader) (a1 : Int) (M : IM) (v0_0 : Value) (g0 : Nat) (h0_0 : RS (Kd.int .u8) M v0_0 a0.b) (res : (Int × Int × GErr)) (h : f_wire_Reader_Int a0 a1 = some res) :
    Tri Tryz.prog 44 #[(pt g0 0), (Iv a1)] M [[(g0, .cells #[v0_0, (Iv a0.at_), (GV a0.err)] 85 (0, 0))]] (f_wire_Reader_Int_post a0 a1 v0_0 g0 res) := by
 unfold f_wire_Reader_Int at h
 refine Te Tryz.func44 rfl rfl ?_
 intro F ρ hρ
 refine Sr (Pa (Iv 0) rfl rfl (Ns (Pm (pt g0 0) (hρ 0) rfl (Pm (Iv a1) (hρ 1) rfl (Pu (Iv (if a1 < 0 then (0 : Int) else a1)) (PO.max rfl rfl) rfl (Pu (Uv (IntKind.u64.wrap (if a1 < 0 then (0 : Int) else a1))) (PO.conv us3 Tryz.underlying112 rfl) rfl ?_))))))
 obtain ⟨⟨r21, r22, r23⟩, hr24, h⟩ := bnd h
 refine We (Cb co80 (f_wire_Reader_Num_ok a0 (IntKind.u64.wrap (if a1 < 0 then (0 : Int) else a1)) _ _ _ h0_0 (r21, r22, r23) hr24) (args2 rfl rfl)) rfl ?_
 rintro _ M25 _ hle26 ⟨_, ⟨rfl, rfl⟩, rfl⟩
 exact WL.a1 (Pu (Iv (IntKind.i64.wrap r21)) (PO.conv us112 Tryz.underlying3 rfl) rfl (Pa (Iv (IntKind.i64.wrap r21)) rfl rfl (Nt (Cr (Rf h [[(g0, .cells #[v0_0, (Iv r22), (GV r23)] 85 (0, 0))]] rfl (Rs rfl rfl) hle26 ⟨rfl, rfl⟩)))))


end Go.Proofs.YtjiffdgidodebaaGreatDoor.G
