/- Go functions: what they come to, and that they do. Printed by a program of the session (gen). -/
import Derived.Test.YtkflneabcannnaaGreatDoorBF
import Derived.Test.YtkflneabcannnaaGreatDoorB4
import Derived.Test.YtkflneabcannnaaGreatDoorKConv
import Derived.Test.YtkflneabcannnaaGreatDoorKShar2
import Derived.Test.YtkflneabcannnaaGreatDoorKTight
set_option linter.unusedVariables false
set_option linter.unusedSimpArgs false
set_option maxHeartbeats 8000000
set_option maxRecDepth 100000
namespace Go.Proofs.YtkflneabcannnaaGreatDoor.G
open Go Go.KK

noncomputable def f_record_Put (a0 : (List Int)) (a1 : T_api_Record) : Option ((List Int) × GErr) :=
  ((f_record_Check a1).bind fun (r23 : GErr) => (if (!r23.isNil) = true then (some ([], r23)) else ((f_record_about a1.Kind).bind fun (r30 : Int) => (grd (a0.length + [IntKind.u8.wrap a1.Kind].length ≤ 274877906944) ((f_record_Put_1 (1 : Int) a1.Broker r30 (a0 ++ [IntKind.u8.wrap a1.Kind])).bind fun (r43 : (List Int)) => ((f_record_Put_1 (2 : Int) a1.Epoch r30 r43).bind fun (r50 : (List Int)) => ((f_record_Put_1 (4 : Int) a1.Topic r30 r50).bind fun (r57 : (List Int)) => ((f_record_Put_1 (8 : Int) a1.Part r30 r57).bind fun (r64 : (List Int)) => ((f_record_Put_1 (16 : Int) a1.Leader r30 r64).bind fun (r71 : (List Int)) => ((f_record_Put_1 (32 : Int) a1.Client r30 r71).bind fun (r78 : (List Int)) => ((f_record_Put_1 (32 : Int) a1.Serial r30 r78).bind fun (r85 : (List Int)) => ((f_record_Put_1 (32 : Int) a1.Code r30 r85).bind fun (r92 : (List Int)) => (((if (decide ((andI .i64 r30 (64 : Int)) ≠ (0 : Int))) = true then ((f_wire_Flag r92 a1.Flag).bind fun (r102 : (List Int)) => (some r102)) else (some r92)) : Option (List Int)).bind fun (x99 : (List Int)) => ((f_record_Put_2 (128 : Int) a1.Name r30 x99).bind fun (r107 : (List Int)) => ((f_record_Put_2 (256 : Int) a1.Key r30 r107).bind fun (r114 : (List Int)) => ((f_record_Put_2 (512 : Int) a1.Value r30 r114).bind fun (r121 : (List Int)) => ((f_record_Put_2 (1024 : Int) a1.Rack r30 r121).bind fun (r128 : (List Int)) => ((f_record_Put_3 (2048 : Int) a1.Ids r30 r128).bind fun (r135 : (List Int)) => ((f_record_Put_3 (4096 : Int) a1.Isr r30 r135).bind fun (r142 : (List Int)) => ((f_record_Put_3 (8192 : Int) a1.Add r30 r142).bind fun (r149 : (List Int)) => ((f_record_Put_3 (8192 : Int) a1.Drop r30 r149).bind fun (r156 : (List Int)) => (some (r156, GErr.nil)))))))))))))))))))))))
def f_record_Put_post (a0 : (List Int)) (a1 : T_api_Record) (v0 v1_14 v1_15 v1_16 v1_17 : Value) : ((List Int) × GErr) → Value → IM → HL → Prop :=
  fun (p_ : ((List Int) × GErr)) (v : Value) (M' : IM) (H' : HL) => match p_ with | (r0, r1) => ∃ vz0 cz0, (.tuple #[vz0, (GV r1)]) = v ∧ H' = [cz0] ∧ OwnS (Kd.int .u8) M' vz0 r0 cz0
theorem f_record_Put_ok (a0 : (List Int)) (a1 : T_api_Record) (M : IM) (v0 v1_14 v1_15 v1_16 v1_17 : Value) (c0 : Chunk) (h0 : OwnS (Kd.int .u8) M v0 a0 c0) (h1_14 : RS (Kd.int .i64) M v1_14 a1.Ids) (h1_15 : RS (Kd.int .i64) M v1_15 a1.Isr) (h1_16 : RS (Kd.int .i64) M v1_16 a1.Add) (h1_17 : RS (Kd.int .i64) M v1_17 a1.Drop) (res : ((List Int) × GErr)) (h : f_record_Put a0 a1 = some res) :
    Tri Tryz.prog 67 #[v0, (a58_ a1 v1_14 v1_15 v1_16 v1_17)] M [c0] (f_record_Put_post a0 a1 v0 v1_14 v1_15 v1_16 v1_17 res) := by
 unfold f_record_Put at h
 refine Te Tryz.func67 rfl rfl ?_
 intro F ρ hρ
 refine Sr (We (EO.box (cs := #[v0]) ((congrArg Value.cells (asE v0 (hρ 0))).trans h0.cells)) rfl ?_)
 rintro _ _ _ - ⟨rfl, g21, rfl, rfl⟩
 refine We (EO.box (cs := (l58 a1 v1_14 v1_15 v1_16 v1_17).toArray) (congrArg Value.cells (asE (a58_ a1 v1_14 v1_15 v1_16 v1_17) (hρ 1)))) rfl ?_
 rintro _ _ _ - ⟨rfl, g22, rfl, rfl⟩
 refine Pa Zs rfl rfl (Pa (GV GErr.nil) rfl rfl (Nt (Cs (Sr (Pu (a58_ a1 v1_14 v1_15 v1_16 v1_17) (La (cs := (l58 a1 v1_14 v1_15 v1_16 v1_17)) 0 ag58 sz58 rfl rfl rfl) rfl ?_)))))
 obtain ⟨r23, hr24, h⟩ := bnd h
 refine We (Ca co77 (f_record_Check_ok a1 _ _ _ _ _ h1_14 h1_15 h1_16 h1_17 r23 hr24) (args1 rfl)) rfl ?_
 rintro _ M25 _ hle26 ⟨_, ⟨rfl, rfl⟩, rfl⟩
 refine WL.a0 (Pa (GV r23) rfl rfl (Ns (Pm (GV r23) rfl rfl (Pu (Bv (!r23.isNil)) (PO.errNotNil Tryz.underlying31 rfl) rfl (Nt (Cd (b := !r23.isNil) rfl (fun hb28 => ?_) (fun hb28 => ?_)))))))
 have h := ite_t hb28 h
 refine Sr (Pm (GV r23) rfl rfl (Pa Zs rfl rfl (Pa (GV r23) rfl rfl (Nt (Cr (Tr (WQ.e0 (Qa (Dr (Qa (Dr ?_)))))))))))
 exact Qa (Dr (Rf h [[]] rfl (results2 rfl rfl rfl) hle26 ⟨Zs, [], rfl, rfl, (OwnS.nil _ _)⟩))
 have h := ite_f hb28 h
 refine Ck (Tc (Sr (Pu (pt g22 0) (Fa fo58_0 rfl rfl) rfl (Pu (Iv a1.Kind) (Lb 0 pl3 rfl rfl rfl) rfl ?_))))
 obtain ⟨r30, hr31, h⟩ := bnd h
 refine We (Ca co93 (f_record_about_ok a1.Kind _ r30 hr31) (args1 rfl)) rfl ?_
 rintro _ M32 _ hle33 ⟨_, ⟨rfl, rfl⟩, rfl⟩
 refine WL.a0 (We (Al ze3 rfl) rfl ?_)
 rintro _ _ _ - ⟨rfl, g35, rfl, rfl⟩
 refine We (Es (Iv r30) [(Iv r30)] rfl sz3 rfl rfl rfl rfl rfl rfl) rfl ?_
 rintro _ _ _ - ⟨rfl, rfl⟩
 refine Ns (Pu v0 (Lb 2 pl23 rfl rfl rfl) rfl (Pu (pt g22 0) (Fa fo58_0 rfl rfl) rfl (Pu (Iv a1.Kind) (Lb 1 pl3 rfl rfl rfl) rfl (Pu (Yv (IntKind.u8.wrap a1.Kind)) (PO.conv us3 Tryz.underlying5 rfl) rfl (We (EO.buildSliceL (cl := [(Yv (IntKind.u8.wrap a1.Kind))]) Tryz.underlying23 iz5 rfl (Pc (Yv (IntKind.u8.wrap a1.Kind)) rfl rfl Pz) rfl) rfl ?_)))))
 rintro _ _ _ - ⟨rfl, g36, rfl, rfl⟩
 have h38 : OwnS (Kd.int .u8) M32 (.slice (some ⟨g36, 0, none⟩) 1 1) [IntKind.u8.wrap a1.Kind] [(g36, .cells #[(Yv (IntKind.u8.wrap a1.Kind))] 5 (0, 0))] := OwnS.rows (css := [[(Yv (IntKind.u8.wrap a1.Kind))]]) (Rows.cons rfl Rows.nil) rfl rfl
 obtain ⟨hg42, h⟩ := grd_i h
 refine WL.f4 ?_
 have h0 := h0.mono (hle26.trans hle33)
 refine We (EO.append (dd := (Kd.int .u8)) (xs := a0) (ys := [IntKind.u8.wrap a1.Kind]) Tryz.underlying23 Tryz.underlying23 in5 rfl (appB (by decide) hg42) (by decide) rfl rfl h0 (h38.src 1 rfl)) rfl ?_
 rintro v41 _ _ - ⟨rfl, c39, rfl, h40⟩
 refine WL.f4 (We (Es v41 [v41] h40.cells sz23 rfl rfl (Ow h40) rfl rfl rfl) rfl ?_)
 rintro _ _ _ - ⟨rfl, rfl⟩
 refine Ns (Pu (.func (.func 94) #[] #[(pt g35 0), (pt g21 0)]) (PO.makeFunc2 (args0) (args2 (show ev _ _ = (pt g35 0) from rfl) (show ev _ _ = (pt g21 0) from rfl))) rfl (Pa (.func (.func 94) #[] #[(pt g35 0), (pt g21 0)]) rfl rfl (Ns (Pm (.func (.func 94) #[] #[(pt g35 0), (pt g21 0)]) rfl rfl (Pu (pt g22 1) (Fa fo58_1 rfl rfl) rfl (Pu (Iv a1.Broker) (Lb 4 pl3 rfl rfl rfl) rfl ?_))))))
 obtain ⟨r43, hr44, h⟩ := bnd h
 refine WL.f1 (WL.f1 (WL.f3 (We (EO.callV3 (first := #[]) (cap := #[(pt g35 0), (pt g21 0)]) co94 rfl (f_record_Put_1_ok (1 : Int) a1.Broker r30 (a0 ++ [IntKind.u8.wrap a1.Kind]) _ _ _ _ _ h40 r43 hr44) (argsV2 rfl rfl rfl)) rfl ?_)))
 rintro _ M45 _ hle46 ⟨_, ⟨v47, c49, rfl, rfl, h48⟩, rfl⟩
 refine WL.a3 (Ns (Pm (.func (.func 94) #[] #[(pt g35 0), (pt g21 0)]) rfl rfl (Pu (pt g22 2) (Fa fo58_2 rfl rfl) rfl (Pu (Iv a1.Epoch) (Lb 4 pl3 rfl rfl rfl) rfl ?_))))
 obtain ⟨r50, hr51, h⟩ := bnd h
 refine Wb (Wb (Wb (We (EO.callV3 (first := #[]) (cap := #[(pt g35 0), (pt g21 0)]) co94 rfl (f_record_Put_1_ok (2 : Int) a1.Epoch r30 r43 _ _ _ _ _ h48 r50 hr51) (argsV2 rfl rfl rfl)) rfl ?_)))
 rintro _ M52 _ hle53 ⟨_, ⟨v54, c56, rfl, rfl, h55⟩, rfl⟩
 refine WL.a3 (Ns (Pm (.func (.func 94) #[] #[(pt g35 0), (pt g21 0)]) rfl rfl (Pu (pt g22 3) (Fa fo58_3 rfl rfl) rfl (Pu (Iv a1.Topic) (Lb 4 pl3 rfl rfl rfl) rfl ?_))))
 obtain ⟨r57, hr58, h⟩ := bnd h
 refine Wb (Wb (Wb (We (EO.callV3 (first := #[]) (cap := #[(pt g35 0), (pt g21 0)]) co94 rfl (f_record_Put_1_ok (4 : Int) a1.Topic r30 r50 _ _ _ _ _ h55 r57 hr58) (argsV2 rfl rfl rfl)) rfl ?_)))
 rintro _ M59 _ hle60 ⟨_, ⟨v61, c63, rfl, rfl, h62⟩, rfl⟩
 refine WL.a3 (Ns (Pm (.func (.func 94) #[] #[(pt g35 0), (pt g21 0)]) rfl rfl (Pu (pt g22 4) (Fa fo58_4 rfl rfl) rfl (Pu (Iv a1.Part) (Lb 4 pl3 rfl rfl rfl) rfl ?_))))
 obtain ⟨r64, hr65, h⟩ := bnd h
 refine Wb (Wb (Wb (We (EO.callV3 (first := #[]) (cap := #[(pt g35 0), (pt g21 0)]) co94 rfl (f_record_Put_1_ok (8 : Int) a1.Part r30 r57 _ _ _ _ _ h62 r64 hr65) (argsV2 rfl rfl rfl)) rfl ?_)))
 rintro _ M66 _ hle67 ⟨_, ⟨v68, c70, rfl, rfl, h69⟩, rfl⟩
 refine WL.a3 (Ns (Pm (.func (.func 94) #[] #[(pt g35 0), (pt g21 0)]) rfl rfl (Pu (pt g22 5) (Fa fo58_5 rfl rfl) rfl (Pu (Iv a1.Leader) (Lb 4 pl3 rfl rfl rfl) rfl ?_))))
 obtain ⟨r71, hr72, h⟩ := bnd h
 refine Wb (Wb (Wb (We (EO.callV3 (first := #[]) (cap := #[(pt g35 0), (pt g21 0)]) co94 rfl (f_record_Put_1_ok (16 : Int) a1.Leader r30 r64 _ _ _ _ _ h69 r71 hr72) (argsV2 rfl rfl rfl)) rfl ?_)))
 rintro _ M73 _ hle74 ⟨_, ⟨v75, c77, rfl, rfl, h76⟩, rfl⟩
 refine WL.a3 (Ns (Pm (.func (.func 94) #[] #[(pt g35 0), (pt g21 0)]) rfl rfl (Pu (pt g22 6) (Fa fo58_6 rfl rfl) rfl (Pu (Iv a1.Client) (Lb 4 pl3 rfl rfl rfl) rfl ?_))))
 obtain ⟨r78, hr79, h⟩ := bnd h
 refine Wb (Wb (Wb (We (EO.callV3 (first := #[]) (cap := #[(pt g35 0), (pt g21 0)]) co94 rfl (f_record_Put_1_ok (32 : Int) a1.Client r30 r71 _ _ _ _ _ h76 r78 hr79) (argsV2 rfl rfl rfl)) rfl ?_)))
 rintro _ M80 _ hle81 ⟨_, ⟨v82, c84, rfl, rfl, h83⟩, rfl⟩
 refine WL.a3 (Ns (Pm (.func (.func 94) #[] #[(pt g35 0), (pt g21 0)]) rfl rfl (Pu (pt g22 7) (Fa fo58_7 rfl rfl) rfl (Pu (Iv a1.Serial) (Lb 4 pl3 rfl rfl rfl) rfl ?_))))
 obtain ⟨r85, hr86, h⟩ := bnd h
 refine Wb (Wb (Wb (We (EO.callV3 (first := #[]) (cap := #[(pt g35 0), (pt g21 0)]) co94 rfl (f_record_Put_1_ok (32 : Int) a1.Serial r30 r78 _ _ _ _ _ h83 r85 hr86) (argsV2 rfl rfl rfl)) rfl ?_)))
 rintro _ M87 _ hle88 ⟨_, ⟨v89, c91, rfl, rfl, h90⟩, rfl⟩
 refine WL.a3 (Ns (Pm (.func (.func 94) #[] #[(pt g35 0), (pt g21 0)]) rfl rfl (Pu (pt g22 8) (Fa fo58_8 rfl rfl) rfl (Pu (Iv a1.Code) (Lb 4 pl3 rfl rfl rfl) rfl ?_))))
 obtain ⟨r92, hr93, h⟩ := bnd h
 refine Wb (Wb (Wb (We (EO.callV3 (first := #[]) (cap := #[(pt g35 0), (pt g21 0)]) co94 rfl (f_record_Put_1_ok (32 : Int) a1.Code r30 r85 _ _ _ _ _ h90 r92 hr93) (argsV2 rfl rfl rfl)) rfl ?_)))
 rintro _ M94 _ hle95 ⟨_, ⟨v96, c98, rfl, rfl, h97⟩, rfl⟩
 refine WL.a3 (Nt ?_)
 obtain ⟨x99, hj100, h⟩ := bnd h
 refine Jf (fun (x99 : (List Int)) ρ' M' H' => ∃ vx99 cx99, M94.le M' ∧ [(g35, .cells #[(Iv r30)] 3 (0, 0))] :: [(g21, .cells #[vx99] 23 (0, 0))] :: [(g22, .cells (l58 a1 v1_14 v1_15 v1_16 v1_17).toArray 58 (0, 0))] :: cx99 :: F = H' ∧ ρ' 2 = (pt g21 0) ∧ ρ' 3 = (pt g22 0) ∧ ρ' 7 = (pt g35 0) ∧ OwnS (Kd.int .u8) M' vx99 x99 cx99) x99 ?_ ?_
 have h3100 := h
 have h := hj100
 refine Sr (Pu (Iv r30) (Lb 0 pl3 rfl rfl rfl) rfl (Pu (Iv (andI .i64 r30 (64 : Int))) (PO.and rfl rfl) rfl (Pu (Bv (decide ((andI .i64 r30 (64 : Int)) ≠ 0))) (PO.neq rfl rfl) rfl (Nt (Cd (b := decide ((andI .i64 r30 (64 : Int)) ≠ 0)) rfl (fun hb101 => ?_) (fun hb101 => ?_))))))
 have h := ite_t hb101 h
 refine Cg (Pu v96 (Lb 1 pl23 rfl rfl rfl) rfl (Pu (pt g22 9) (Fa fo58_9 rfl rfl) rfl (Pu (Bv a1.Flag) (Lb 4 pl4 rfl rfl rfl) rfl ?_)))
 obtain ⟨r102, hr103, h⟩ := bnd h
 refine Wb (We (Cb co26 (f_wire_Flag_ok r92 a1.Flag _ _ _ h97 r102 hr103) (args2 rfl rfl)) rfl ?_)
 rintro _ M104 _ hle105 ⟨_, ⟨vq106, cq106, rfl, rfl, hq106⟩, rfl⟩
 refine WL.a1 (Wb (We (Es vq106 [vq106] hq106.cells sz23 rfl rfl (Ow hq106) rfl rfl rfl) rfl ?_))
 rintro _ _ _ - ⟨rfl, rfl⟩
 refine Wz (WQ.f3 (Dr (Qa (WQ.f3 (Qb (WQ.f3 ?_))))))
 obtain rfl := oi h
 exact Tj ⟨vq106, cq106, hle105, rfl, rfl, rfl, rfl, hq106⟩
 have h := ite_f hb101 h
 refine Ck (WQ.f3 (Dr (Qb (WQ.f3 (WQ.f3 (WQ.f3 ?_))))))
 obtain rfl := oi h
 exact Tj ⟨v96, c98, lr, rfl, rfl, rfl, rfl, h97⟩
 rintro ρ100 M100 H100 ⟨vx99, cx99, hle100, rfl, hs100_2, hs100_3, hs100_7, hx99⟩
 refine Sr (Pu (.func (.func 95) #[] #[(pt g35 0), (pt g21 0)]) (PO.makeFunc2 (args0) (args2 (asE (Value.pointer (some ⟨g35, 0, none⟩)) hs100_7) (asE (Value.pointer (some ⟨g21, 0, none⟩)) hs100_2))) rfl (Pa (.func (.func 95) #[] #[(pt g35 0), (pt g21 0)]) rfl rfl (Ns (Pm (.func (.func 95) #[] #[(pt g35 0), (pt g21 0)]) rfl rfl (Pu (pt g22 10) (Fa fo58_10 hs100_3 rfl) rfl (Pu (Sv a1.Name) (Lb 2 pl9 rfl rfl rfl) rfl ?_))))))
 obtain ⟨r107, hr108, h⟩ := bnd h
 refine WL.f3 (Wb (Wb (We (EO.callV3 (first := #[]) (cap := #[(pt g35 0), (pt g21 0)]) co95 rfl (f_record_Put_2_ok (128 : Int) a1.Name r30 x99 _ _ _ _ _ hx99 r107 hr108) (argsV2 rfl rfl rfl)) rfl ?_)))
 rintro _ M109 _ hle110 ⟨_, ⟨v111, c113, rfl, rfl, h112⟩, rfl⟩
 refine WL.a3 (Ns (Pm (.func (.func 95) #[] #[(pt g35 0), (pt g21 0)]) rfl rfl (Pu (pt g22 11) (Fa fo58_11 hs100_3 rfl) rfl (Pu (Sv a1.Key) (Lb 3 pl9 rfl rfl rfl) rfl ?_))))
 obtain ⟨r114, hr115, h⟩ := bnd h
 refine Wb (Wb (Wb (We (EO.callV3 (first := #[]) (cap := #[(pt g35 0), (pt g21 0)]) co95 rfl (f_record_Put_2_ok (256 : Int) a1.Key r30 r107 _ _ _ _ _ h112 r114 hr115) (argsV2 rfl rfl rfl)) rfl ?_)))
 rintro _ M116 _ hle117 ⟨_, ⟨v118, c120, rfl, rfl, h119⟩, rfl⟩
 refine WL.a3 (Ns (Pm (.func (.func 95) #[] #[(pt g35 0), (pt g21 0)]) rfl rfl (Pu (pt g22 12) (Fa fo58_12 hs100_3 rfl) rfl (Pu (Sv a1.Value) (Lb 3 pl9 rfl rfl rfl) rfl ?_))))
 obtain ⟨r121, hr122, h⟩ := bnd h
 refine Wb (Wb (Wb (We (EO.callV3 (first := #[]) (cap := #[(pt g35 0), (pt g21 0)]) co95 rfl (f_record_Put_2_ok (512 : Int) a1.Value r30 r114 _ _ _ _ _ h119 r121 hr122) (argsV2 rfl rfl rfl)) rfl ?_)))
 rintro _ M123 _ hle124 ⟨_, ⟨v125, c127, rfl, rfl, h126⟩, rfl⟩
 refine WL.a3 (Ns (Pm (.func (.func 95) #[] #[(pt g35 0), (pt g21 0)]) rfl rfl (Pu (pt g22 13) (Fa fo58_13 hs100_3 rfl) rfl (Pu (Sv a1.Rack) (Lb 3 pl9 rfl rfl rfl) rfl ?_))))
 obtain ⟨r128, hr129, h⟩ := bnd h
 refine Wb (Wb (Wb (We (EO.callV3 (first := #[]) (cap := #[(pt g35 0), (pt g21 0)]) co95 rfl (f_record_Put_2_ok (1024 : Int) a1.Rack r30 r121 _ _ _ _ _ h126 r128 hr129) (argsV2 rfl rfl rfl)) rfl ?_)))
 rintro _ M130 _ hle131 ⟨_, ⟨v132, c134, rfl, rfl, h133⟩, rfl⟩
 refine WL.a3 (Ns (Pu (.func (.func 96) #[] #[(pt g35 0), (pt g21 0)]) (PO.makeFunc2 (args0) (args2 (asE (Value.pointer (some ⟨g35, 0, none⟩)) hs100_7) (asE (Value.pointer (some ⟨g21, 0, none⟩)) hs100_2))) rfl (Pa (.func (.func 96) #[] #[(pt g35 0), (pt g21 0)]) rfl rfl (Ns (Pm (.func (.func 96) #[] #[(pt g35 0), (pt g21 0)]) rfl rfl (Pu (pt g22 14) (Fa fo58_14 hs100_3 rfl) rfl (Pu v1_14 (Lb 3 pl56 rfl rfl rfl) rfl ?_)))))))
 obtain ⟨r135, hr136, h⟩ := bnd h
 refine Wb (Wb (Wb ?_))
 have h1_14 := h1_14.mono ((((((((((((((hle26.trans hle33).trans hle46).trans hle53).trans hle60).trans hle67).trans hle74).trans hle81).trans hle88).trans hle95).trans hle100).trans hle110).trans hle117).trans hle124).trans hle131)
 refine We (EO.callV3 (first := #[]) (cap := #[(pt g35 0), (pt g21 0)]) co96 rfl (f_record_Put_3_ok (2048 : Int) a1.Ids r30 r128 _ _ _ _ _ _ h1_14 h133 r135 hr136) (argsV2 rfl rfl rfl)) rfl ?_
 rintro _ M137 _ hle138 ⟨_, ⟨v139, c141, rfl, rfl, h140⟩, rfl⟩
 refine WL.a3 (Ns (Pm (.func (.func 96) #[] #[(pt g35 0), (pt g21 0)]) rfl rfl (Pu (pt g22 15) (Fa fo58_15 hs100_3 rfl) rfl (Pu v1_15 (Lb 3 pl56 rfl rfl rfl) rfl ?_))))
 obtain ⟨r142, hr143, h⟩ := bnd h
 refine Wb (Wb (Wb ?_))
 have h1_15 := h1_15.mono (((((((((((((((hle26.trans hle33).trans hle46).trans hle53).trans hle60).trans hle67).trans hle74).trans hle81).trans hle88).trans hle95).trans hle100).trans hle110).trans hle117).trans hle124).trans hle131).trans hle138)
 refine We (EO.callV3 (first := #[]) (cap := #[(pt g35 0), (pt g21 0)]) co96 rfl (f_record_Put_3_ok (4096 : Int) a1.Isr r30 r135 _ _ _ _ _ _ h1_15 h140 r142 hr143) (argsV2 rfl rfl rfl)) rfl ?_
 rintro _ M144 _ hle145 ⟨_, ⟨v146, c148, rfl, rfl, h147⟩, rfl⟩
 refine WL.a3 (Ns (Pm (.func (.func 96) #[] #[(pt g35 0), (pt g21 0)]) rfl rfl (Pu (pt g22 16) (Fa fo58_16 hs100_3 rfl) rfl (Pu v1_16 (Lb 3 pl56 rfl rfl rfl) rfl ?_))))
 obtain ⟨r149, hr150, h⟩ := bnd h
 refine Wb (Wb (Wb ?_))
 have h1_16 := h1_16.mono ((((((((((((((((hle26.trans hle33).trans hle46).trans hle53).trans hle60).trans hle67).trans hle74).trans hle81).trans hle88).trans hle95).trans hle100).trans hle110).trans hle117).trans hle124).trans hle131).trans hle138).trans hle145)
 refine We (EO.callV3 (first := #[]) (cap := #[(pt g35 0), (pt g21 0)]) co96 rfl (f_record_Put_3_ok (8192 : Int) a1.Add r30 r142 _ _ _ _ _ _ h1_16 h147 r149 hr150) (argsV2 rfl rfl rfl)) rfl ?_
 rintro _ M151 _ hle152 ⟨_, ⟨v153, c155, rfl, rfl, h154⟩, rfl⟩
 refine WL.a3 (Ns (Pm (.func (.func 96) #[] #[(pt g35 0), (pt g21 0)]) rfl rfl (Pu (pt g22 17) (Fa fo58_17 hs100_3 rfl) rfl (Pu v1_17 (Lb 3 pl56 rfl rfl rfl) rfl ?_))))
 obtain ⟨r156, hr157, h⟩ := bnd h
 refine Wb (Wb (Wb ?_))
 have h1_17 := h1_17.mono (((((((((((((((((hle26.trans hle33).trans hle46).trans hle53).trans hle60).trans hle67).trans hle74).trans hle81).trans hle88).trans hle95).trans hle100).trans hle110).trans hle117).trans hle124).trans hle131).trans hle138).trans hle145).trans hle152)
 refine We (EO.callV3 (first := #[]) (cap := #[(pt g35 0), (pt g21 0)]) co96 rfl (f_record_Put_3_ok (8192 : Int) a1.Drop r30 r149 _ _ _ _ _ _ h1_17 h154 r156 hr157) (argsV2 rfl rfl rfl)) rfl ?_
 rintro _ M158 _ hle159 ⟨_, ⟨v160, c162, rfl, rfl, h161⟩, rfl⟩
 exact WL.a3 (Ns (Pu v160 (Lb 1 pl23 hs100_2 rfl rfl) rfl (Pa v160 rfl rfl (Pa (GV GErr.nil) rfl rfl (Nt (Cr (Dr (Dr (Qa (Dr (Rf h [c162] rfl (results2 rfl rfl rfl) ((((((((((((((((((hle26.trans hle33).trans hle46).trans hle53).trans hle60).trans hle67).trans hle74).trans hle81).trans hle88).trans hle95).trans hle100).trans hle110).trans hle117).trans hle124).trans hle131).trans hle138).trans hle145).trans hle152).trans hle159) ⟨v160, c162, rfl, rfl, h161⟩)))))))))))

noncomputable def f_batch_Put_l0 (a0 : T_api_Batch) (s_ : ((List Int) × Int)) : Option (((List Int) × Int) ⊕ ((List Int) ⊕ ((List Int) × GErr))) :=
  match s_ with
  | (x48, x49) =>
    (if (decide (x49 < (a0.Records.length : Int))) = true then (grd (0 ≤ x49 ∧ x49 < a0.Records.length) ((f_record_Put x48 (rd a0.Records x49)).bind fun (r62, r63) => (if (!r63.isNil) = true then ((f_fault_Wrap (⟨#[114, 101, 99, 111, 114, 100]⟩ : ByteArray) x49 r63).bind fun (r70 : GErr) => (some (Sum.inr (Sum.inr ([], r70))))) else (some (Sum.inl (r62, IntKind.i64.wrap (x49 + (1 : Int)))))))) else (some (Sum.inr (Sum.inl x48))))
noncomputable def f_batch_Put (a0 : T_api_Batch) : Option ((List Int) × GErr) :=
  ((f_batch_Check a0).bind fun (r22 : GErr) => (if (!r22.isNil) = true then (some ([], r22)) else ((f_wire_Int [] a0.Term).bind fun (r30 : (List Int)) => ((f_wire_Int r30 a0.Base).bind fun (r35 : (List Int)) => ((f_wire_Int r35 (a0.Records.length : Int)).bind fun (r40 : (List Int)) => ((((iter (f_batch_Put_l0 a0) (r40, (0 : Int))).bind (Sum.elim (fun (x50 : (List Int)) => (some (Sum.inl x50))) (fun (x51, x52) => (((some (x51, x52))).bind fun r => some (Sum.inr r))))) : Option ((List Int) ⊕ ((List Int) × GErr))).bind (Sum.elim (fun (x45 : (List Int)) => (if (decide ((16384 : Int) < (x45.length : Int))) = true then ((f_fault_New (⟨#[98, 97, 116, 99, 104]⟩ : ByteArray) (x45.length : Int) (6 : Int)).bind fun (r77 : GErr) => (some ([], r77))) else (some (x45, GErr.nil)))) some)))))))
def f_batch_Put_post (a0 : T_api_Batch) (v0_2 : Value) : ((List Int) × GErr) → Value → IM → HL → Prop :=
  fun (p_ : ((List Int) × GErr)) (v : Value) (M' : IM) (H' : HL) => match p_ with | (r0, r1) => ∃ vz0 cz0, (.tuple #[vz0, (GV r1)]) = v ∧ H' = [cz0] ∧ OwnS (Kd.int .u8) M' vz0 r0 cz0
theorem f_batch_Put_ok (a0 : T_api_Batch) (M : IM) (v0_2 : Value) (h0_2 : RS kd_api_Record M v0_2 a0.Records) (res : ((List Int) × GErr)) (h : f_batch_Put a0 = some res) :
    Tri Tryz.prog 28 #[(a55_ a0 v0_2)] M [] (f_batch_Put_post a0 v0_2 res) := by
 unfold f_batch_Put at h
 refine Te Tryz.func28 rfl rfl ?_
 intro F ρ hρ
 refine Sr (We (EO.box (cs := (l55 a0 v0_2).toArray) (congrArg Value.cells (asE (a55_ a0 v0_2) (hρ 0)))) rfl ?_)
 rintro _ _ _ - ⟨rfl, g21, rfl, rfl⟩
 refine Pa Zs rfl rfl (Pa (GV GErr.nil) rfl rfl (Nt (Cs (Sr (Pu (a55_ a0 v0_2) (La (cs := (l55 a0 v0_2)) 0 ag55 sz55 rfl rfl rfl) rfl ?_)))))
 obtain ⟨r22, hr23, h⟩ := bnd h
 refine We (Ca co49 (f_batch_Check_ok a0 _ _ h0_2 r22 hr23) (args1 rfl)) rfl ?_
 rintro _ M24 _ hle25 ⟨_, ⟨rfl, rfl⟩, rfl⟩
 refine WL.a0 (Pa (GV r22) rfl rfl (Ns (Pm (GV r22) rfl rfl (Pu (Bv (!r22.isNil)) (PO.errNotNil Tryz.underlying31 rfl) rfl (Nt (Cd (b := !r22.isNil) rfl (fun hb27 => ?_) (fun hb27 => ?_)))))))
 have h := ite_t hb27 h
 exact Sr (Pm (GV r22) rfl rfl (Pa Zs rfl rfl (Pa (GV r22) rfl rfl (Nt (Cr (Tr (WQ.e0 (Qa (Dr (Rf h [[]] rfl (results2 rfl rfl rfl) hle25 ⟨Zs, [], rfl, rfl, (OwnS.nil _ _)⟩))))))))))
 have h := ite_f hb27 h
 refine Ck (Tc (Cs (WC.draw [0, 1, 3, 0, 8, 31, 0, 64, 192, 511, 1023] (.pure 0 (.pure 1 (.pure 3 (.pure 4 (.pure 6 (.pure 7 (.pure 8 (.alt 2 (.alt 5 (.alt 9 (.pure 10 .done) .none) .none) .none)))))))) mixed (by kernel_rfl) (Tp (pt g21 0) rfl (Fa fo55_0 rfl rfl) rfl (Tp (Iv a0.Term) rfl (Lb 0 pl3 rfl rfl rfl) rfl (Tp (pt g21 1) rfl (Fa fo55_1 rfl rfl) rfl (Tp (Iv a0.Base) rfl (Lb 0 pl3 rfl rfl rfl) rfl (Tp (pt g21 2) rfl (Fa fo55_2 rfl rfl) rfl (Tp v0_2 rfl (Lb 0 pl53 rfl rfl rfl) rfl ?_)))))))))
 have h0_2 := h0_2.mono hle25
 refine Tp (Iv (a0.Records.length : Int)) rfl (PO.lenS Tryz.underlying53 rfl h0_2.len) rfl ?_
 obtain ⟨r30, hr31, h⟩ := bnd h
 refine WT.e0 (Ta rfl (Cb co24 (f_wire_Int_ok [] a0.Term _ _ _ (OwnS.nil _ _) r30 hr31) (args2 rfl rfl)) rfl ?_ ?_)
 rintro _ M32 _ hle33 ⟨_, ⟨vq34, cq34, rfl, rfl, hq34⟩, rfl⟩
 have h0_2 := h0_2.mono hle33
 refine ⟨(Ss rfl (PO.lenS Tryz.underlying53 rfl h0_2.len) rfl (Ss rfl (Lb 1 pl53 rfl rfl rfl) rfl (Ss rfl (Fa fo55_2 rfl rfl) rfl (Ss rfl (Lb 1 pl3 rfl rfl rfl) rfl (Ss rfl (Fa fo55_1 rfl rfl) rfl (Sl rfl)))))), ?_⟩
 refine WT.a1 ?_
 obtain ⟨r35, hr36, h⟩ := bnd h
 refine Ta rfl (Cb co24 (f_wire_Int_ok r30 a0.Base _ _ _ hq34 r35 hr36) (args2 rfl rfl)) rfl ?_ ?_
 rintro _ M37 _ hle38 ⟨_, ⟨vq39, cq39, rfl, rfl, hq39⟩, rfl⟩
 have h0_2 := h0_2.mono hle38
 refine ⟨(Ss rfl (PO.lenS Tryz.underlying53 rfl h0_2.len) rfl (Ss rfl (Lb 1 pl53 rfl rfl rfl) rfl (Ss rfl (Fa fo55_2 rfl rfl) rfl (Sl rfl)))), ?_⟩
 refine WT.a1 ?_
 obtain ⟨r40, hr41, h⟩ := bnd h
 refine Ta rfl (Cb co24 (f_wire_Int_ok r35 (a0.Records.length : Int) _ _ _ hq39 r40 hr41) (args2 rfl rfl)) rfl ?_ ?_
 rintro _ M42 _ hle43 ⟨_, ⟨vq44, cq44, rfl, rfl, hq44⟩, rfl⟩
 refine ⟨(Sl rfl), ?_⟩
 refine WT.a1 (Tp vq44 rfl (Ag rfl) rfl (Ti (Tc ?_)))
 obtain ⟨j46, hj46, h⟩ := bnd h
 refine WC.joinE (fun (x45 : (List Int)) ρ' M' H' => ∃ vx45 cx45, M42.le M' ∧ [(g21, .cells (l55 a0 v0_2).toArray 55 (0, 0))] :: cx45 :: F = H' ∧ ρ' 5 = vx45 ∧ OwnS (Kd.int .u8) M' vx45 x45 cx45) j46 ?_ ?_
 have h346 := h
 have h := hj46
 refine Sr (Pu (pt g21 2) (Fa fo55_2 rfl rfl) rfl (Pu v0_2 (Lb 1 pl53 rfl rfl rfl) rfl ?_))
 have h0_2 := h0_2.mono hle43
 refine Pu (Iv (a0.Records.length : Int)) (PO.lenS Tryz.underlying53 rfl h0_2.len) rfl (Pm (Iv 0) rfl rfl (Nt (Bk (WC.f1 ?_))))
 obtain ⟨e47, he47, hK47⟩ := bnd h
 clear h
 refine WC.loop he47 (fun (p_ : ((List Int) × Int)) ρ' M' H' => match p_ with | (x48, x49) => ∃ vx48 cx48, M42.le M' ∧ [(g21, .cells (l55 a0 v0_2).toArray 55 (0, 0))] :: cx48 :: F = H' ∧ ρ' 5 = vx48 ∧ ρ' 26 = v0_2 ∧ ρ' 27 = (Iv (a0.Records.length : Int)) ∧ ρ' 28 = (Iv x49) ∧ OwnS (Kd.int .u8) M' vx48 x48 cx48) ?_ ?_
 exact ⟨vq44, cq44, lr, rfl, rfl, rfl, rfl, rfl, hq44⟩
 rintro ⟨x48, x49⟩ o47 ρ47 M47 H47 h ⟨vx48, cx48, hle47, rfl, hs47_5, hs47_26, hs47_27, hs47_28, hx48⟩
 unfold f_batch_Put_l0 at h
 refine Sr (Pu (Bv (decide (x49 < (a0.Records.length : Int)))) (PO.lss hs47_28 hs47_27) rfl (Nt (Cs (Cd (b := decide (x49 < (a0.Records.length : Int))) rfl (fun hb53 => ?_) (fun hb53 => ?_)))))
 have h := ite_t hb53 h
 refine Ck (Tc (Cs (Bk (Sr (Pm (Iv x49) hs47_28 rfl ?_)))))
 obtain ⟨hg54, h⟩ := grd_i h
 have h0_2 := h0_2.mono hle47
 obtain ⟨p55, cs56, hat57, hrc58, hhas59⟩ := h0_2.at hg54.1 hg54.2 (by decide)
 obtain ⟨vw60_14, vw60_15, vw60_16, vw60_17, rfl, hw60_14, hw60_15, hw60_16, hw60_17⟩ := kd_api_Record_open hrc58
 refine Pu (.pointer (some p55)) (PO.indexAddr (n := a0.Records.length) Tryz.underlying53 sz58 hs47_26 hs47_28 hg54.1 hg54.2 hat57) rfl (Pu (a58_ (rd a0.Records x49) vw60_14 vw60_15 vw60_16 vw60_17) (PO.loadMA (cs := (l58 (rd a0.Records x49) vw60_14 vw60_15 vw60_16 vw60_17)) ag58 sz58 rfl hhas59) rfl (We (Al ze58 rfl) rfl ?_))
 rintro _ _ _ - ⟨rfl, g61, rfl, rfl⟩
 refine Pa (Iv x49) rfl rfl (We (Sg (v := (a58_ (rd a0.Records x49) vw60_14 vw60_15 vw60_16 vw60_17)) (vl := (l58 (rd a0.Records x49) vw60_14 vw60_15 vw60_16 vw60_17)) (arr' := (l58 (rd a0.Records x49) vw60_14 vw60_15 vw60_16 vw60_17)) rfl sz58 rfl rfl (onesOf (Oc rfl (Oc rfl (Oc rfl (Oc rfl (Oc rfl (Oc rfl (Oc rfl (Oc rfl (Oc rfl (Oc rfl (Oc rfl (Oc rfl (Oc rfl (Oc rfl (Oc (RS.one hw60_14) (Oc (RS.one hw60_15) (Oc (RS.one hw60_16) (Oc (RS.one hw60_17) Oz))))))))))))))))))) rfl rfl (by kernel_rfl)) rfl ?_)
 rintro _ _ _ - ⟨rfl, rfl⟩
 refine Ns (Pm vx48 hs47_5 rfl (Pu (a58_ (rd a0.Records x49) vw60_14 vw60_15 vw60_16 vw60_17) (La (cs := (l58 (rd a0.Records x49) vw60_14 vw60_15 vw60_16 vw60_17)) 0 ag58 sz58 rfl rfl rfl) rfl ?_))
 obtain ⟨⟨r62, r63⟩, hr64, h⟩ := bnd h
 refine Wb (We (Cb co67 (f_record_Put_ok x48 (rd a0.Records x49) _ _ _ _ _ _ _ hx48 hw60_14 hw60_15 hw60_16 hw60_17 (r62, r63) hr64) (args2 rfl rfl)) rfl ?_)
 rintro _ M65 _ hle66 ⟨_, ⟨vq67, cq67, rfl, rfl, hq67⟩, rfl⟩
 refine WL.a1 (Pm (.tuple #[vq67, (GV r63)]) rfl rfl (Pu vq67 (Xt rfl rfl) rfl (Pu (GV r63) (Xt rfl rfl) rfl (Pa vq67 rfl rfl (Pa (GV r63) rfl rfl (Nt (Cs (Sr (Pm (GV r63) rfl rfl (Pu (Bv (!r63.isNil)) (PO.errNotNil Tryz.underlying31 rfl) rfl (Nt ?_)))))))))))
 refine Cd (b := !r63.isNil) rfl (fun hb69 => ?_) (fun hb69 => ?_)
 have h := ite_t hb69 h
 refine Sr (Pm (Iv x49) rfl rfl (Pm (GV r63) rfl rfl ?_))
 obtain ⟨r70, hr71, h⟩ := bnd h
 refine We (Ca co29 (f_fault_Wrap_ok ⟨#[114, 101, 99, 111, 114, 100]⟩ x49 r63 _ r70 hr71) (args3 rfl rfl rfl)) rfl ?_
 rintro _ M72 _ hle73 ⟨_, ⟨rfl, rfl⟩, rfl⟩
 refine WL.a0 (Pa Zs rfl rfl (Pa (GV r70) rfl rfl (Nt (Cr (Tr (Br (Tr (WQ.leaveR (Sum.inr ([], r70)) (oi h).symm (fun heq47 => ?_)))))))))
 subst heq47
 have h := (elimR hK47)
 refine Br (Tr ?_)
 have h := KK.early h h346
 exact WQ.e0 (Qa (Dr (Qa (Dr (Qa (Dr (Rf h [[]] rfl (results2 rfl rfl rfl) ((((((hle25.trans hle33).trans hle38).trans hle43).trans hle47).trans hle66).trans hle73) ⟨Zs, [], rfl, rfl, (OwnS.nil _ _)⟩)))))))
 have h := ite_f hb69 h
 refine Ck (Tc (Cg (Pm vq67 rfl rfl (Pa vq67 rfl rfl (Wz (Bn (Tc (Cg (Pu (Iv (IntKind.i64.wrap (x49 + 1))) (PO.add hs47_28 rfl) rfl (Pm (Iv (IntKind.i64.wrap (x49 + 1))) rfl rfl (Wz ?_)))))))))))
 exact Qa (Dr (Qa (WQ.again (r62, IntKind.i64.wrap (x49 + 1)) (oi h).symm ⟨vq67, cq67, (hle47.trans hle66), rfl, rfl, hs47_26, hs47_27, rfl, hq67⟩)))
 have h := ite_f hb53 h
 refine WC.exit (WQ.thenE (WQ.leaveE (Sum.inl x48) (oi h).symm (fun heq47 => ?_)))
 subst heq47
 have h := elimL hK47
 exact WQ.blockH (WQ.thenFE h ⟨vx48, cx48, hle47, rfl, hs47_5, hx48⟩)
 rintro x45 ρ46 M46 H46 rfl ⟨vx45, cx45, hle46, rfl, hs46_5, hx45⟩
 have h := (Sum.elim_inl _ _ _).symm.trans h
 refine Cs (Sr (Pm vx45 hs46_5 rfl (Pu (Iv (x45.length : Int)) (PO.lenS Tryz.underlying23 rfl hx45.len) rfl (Pu (Bv (decide ((16384 : Int) < (x45.length : Int)))) (PO.gtr rfl rfl) rfl (Nt (Cd (b := decide ((16384 : Int) < (x45.length : Int))) rfl (fun hb76 => ?_) (fun hb76 => ?_)))))))
 have h := ite_t hb76 h
 refine Sr (Pm vx45 hs46_5 rfl (Pu (Iv (x45.length : Int)) (PO.lenS Tryz.underlying23 rfl hx45.len) rfl ?_))
 obtain ⟨r77, hr78, h⟩ := bnd h
 refine We (Ca co30 (f_fault_New_ok ⟨#[98, 97, 116, 99, 104]⟩ (x45.length : Int) (6 : Int) _ r77 hr78) (args3 rfl rfl rfl)) rfl ?_
 rintro _ M79 _ hle80 ⟨_, ⟨rfl, rfl⟩, rfl⟩
 exact WL.a0 (Pa Zs rfl rfl (Pa (GV r77) rfl rfl (Nt (Cr (Tr (WQ.e0 (Qa (Dr (Qa (Dr (Rf h [[]] rfl (results2 rfl rfl rfl) (((((hle25.trans hle33).trans hle38).trans hle43).trans hle46).trans hle80) ⟨Zs, [], rfl, rfl, (OwnS.nil _ _)⟩)))))))))))
 have h := ite_f hb76 h
 exact Ck (Tc (Sr (Pm vx45 hs46_5 rfl (Pa vx45 rfl rfl (Pa (GV GErr.nil) rfl rfl (Nt (Cr (Dr (Rf h [cx45] rfl (results2 rfl rfl rfl) ((((hle25.trans hle33).trans hle38).trans hle43).trans hle46) ⟨vx45, cx45, rfl, rfl, hx45⟩)))))))))
 exact Tz
 exact Tz
 exact Tz

noncomputable def f_rpc_Put_l0 (a0 : T_api_Rpc) (s_ : (Int × (List Int))) : Option ((Int × (List Int)) ⊕ ((List Int) ⊕ (GErr × (List Int)))) :=
  match s_ with
  | (x176, x177) =>
    (if (decide (x176 < (a0.Batches.length : Int))) = true then (grd (0 ≤ x176 ∧ x176 < a0.Batches.length) ((f_batch_Put (rd a0.Batches x176)).bind fun (r190, r191) => (if (!r191.isNil) = true then ((f_fault_Wrap (⟨#[98, 97, 116, 99, 104]⟩ : ByteArray) x176 r191).bind fun (r198 : GErr) => (some (Sum.inr (Sum.inr (r198, x177))))) else (grd (x177.length + r190.length ≤ 274877906944) (some (Sum.inl (IntKind.i64.wrap (x176 + (1 : Int)), x177 ++ r190))))))) else (some (Sum.inr (Sum.inl x177))))
noncomputable def f_rpc_Put (a0 : T_api_Rpc) : Option (T_api_Frame × GErr) :=
  ((f_rpc_Check a0).bind fun (r23 : GErr) => (if (!r23.isNil) = true then (some ((⟨(0 : Int), []⟩ : T_api_Frame), r23)) else ((f_rpc_about a0.Kind).bind fun (r30 : Int) => ((((f_wire_Int [] a0.From).bind fun (r41 : (List Int)) => ((f_wire_Int r41 a0.To).bind fun (r47 : (List Int)) => ((f_wire_Int r47 a0.Term).bind fun (r53 : (List Int)) => (some r53)))) : Option (List Int)).bind fun (x37 : (List Int)) => (((if (decide ((andI .i64 r30 (1 : Int)) ≠ (0 : Int))) = true then ((f_wire_Flag x37 a0.Pre).bind fun (r96 : (List Int)) => (some r96)) else (some x37)) : Option (List Int)).bind fun (x93 : (List Int)) => (((if (decide ((andI .i64 r30 (2 : Int)) ≠ (0 : Int))) = true then ((f_wire_Flag x93 a0.Ok).bind fun (r104 : (List Int)) => (some r104)) else (some x93)) : Option (List Int)).bind fun (x101 : (List Int)) => ((f_rpc_Put_1 (4 : Int) a0.Leader r30 x101).bind fun (r109 : (List Int)) => ((f_rpc_Put_1 (8 : Int) a0.At r30 r109).bind fun (r116 : (List Int)) => ((f_rpc_Put_1 (8 : Int) a0.AtTerm r30 r116).bind fun (r123 : (List Int)) => ((f_rpc_Put_1 (16 : Int) a0.High r30 r123).bind fun (r130 : (List Int)) => ((f_rpc_Put_1 (32 : Int) a0.Code r30 r130).bind fun (r137 : (List Int)) => ((f_rpc_Put_1 (128 : Int) a0.Size r30 r137).bind fun (r144 : (List Int)) => ((f_rpc_Put_1 (256 : Int) a0.Pos r30 r144).bind fun (r151 : (List Int)) => (((if (decide (a0.Kind = (8 : Int))) = true then ((f_wire_Text r151 a0.Data).bind fun (r161 : (List Int)) => (some r161)) else (some r151)) : Option (List Int)).bind fun (x158 : (List Int)) => ((f_rpc_Put_1 (64 : Int) (a0.Batches.length : Int) r30 x158).bind fun (r166 : (List Int)) => ((((iter (f_rpc_Put_l0 a0) ((0 : Int), r166)).bind (Sum.elim (fun (x178 : (List Int)) => (some (Sum.inl x178))) (fun (x179, x180) => (((some ((⟨(0 : Int), []⟩ : T_api_Frame), x179))).bind fun r => some (Sum.inr r))))) : Option ((List Int) ⊕ (T_api_Frame × GErr))).bind (Sum.elim (fun (x173 : (List Int)) => (if (decide ((16384 : Int) < (x173.length : Int))) = true then ((f_fault_New (⟨#[109, 101, 115, 115, 97, 103, 101]⟩ : ByteArray) (x173.length : Int) (6 : Int)).bind fun (r210 : GErr) => (some ((⟨(0 : Int), []⟩ : T_api_Frame), r210))) else (some ((⟨a0.Kind, x173⟩ : T_api_Frame), GErr.nil)))) some)))))))))))))))))
def f_rpc_Put_post (a0 : T_api_Rpc) (v0_11 v0_14 : Value) : (T_api_Frame × GErr) → Value → IM → HL → Prop :=
  fun (p_ : (T_api_Frame × GErr)) (v : Value) (M' : IM) (H' : HL) => match p_ with | (r0, r1) => ∃ vz0_1 cz0_1, (.tuple #[(.agg #[(.int .i64 r0.Kind), vz0_1]), (GV r1)]) = v ∧ H' = [cz0_1] ∧ OwnS (Kd.int .u8) M' vz0_1 r0.Body cz0_1
theorem f_rpc_Put_ok (a0 : T_api_Rpc) (M : IM) (v0_11 v0_14 : Value) (h0_11 : RS kd_api_Batch M v0_11 a0.Batches) (h0_14 : RS (Kd.int .u8) M v0_14 a0.Data) (res : (T_api_Frame × GErr)) (h : f_rpc_Put a0 = some res) :
    Tri Tryz.prog 10 #[(a25_ a0 v0_11 v0_14)] M [] (f_rpc_Put_post a0 v0_11 v0_14 res) := by
 unfold f_rpc_Put at h
 refine Te Tryz.func10 rfl rfl ?_
 intro F ρ hρ
 refine Sr (We (EO.box (cs := (l25 a0 v0_11 v0_14).toArray) (congrArg Value.cells (asE (a25_ a0 v0_11 v0_14) (hρ 0)))) rfl ?_)
 rintro _ _ _ - ⟨rfl, g21, rfl, rfl⟩
 refine We (Al ze29 rfl) rfl ?_
 rintro _ _ _ - ⟨rfl, g22, rfl, rfl⟩
 refine Pa (GV GErr.nil) rfl rfl (Nt (Cs (Sr (Pu (a25_ a0 v0_11 v0_14) (La (cs := (l25 a0 v0_11 v0_14)) 1 ag25 sz25 rfl rfl rfl) rfl ?_))))
 obtain ⟨r23, hr24, h⟩ := bnd h
 refine We (Ca co16 (f_rpc_Check_ok a0 _ _ _ h0_11 h0_14 r23 hr24) (args1 rfl)) rfl ?_
 rintro _ M25 _ hle26 ⟨_, ⟨rfl, rfl⟩, rfl⟩
 refine WL.a0 (Pa (GV r23) rfl rfl (Ns (Pm (GV r23) rfl rfl (Pu (Bv (!r23.isNil)) (PO.errNotNil Tryz.underlying31 rfl) rfl (Nt (Cd (b := !r23.isNil) rfl (fun hb28 => ?_) (fun hb28 => ?_)))))))
 have h := ite_t hb28 h
 refine Sr (Pu (.agg #[(Iv 0), Zs]) (Bl (cl := [(Iv 0), Zs]) ze29 fp29 Pz rfl) rfl (Pm (GV r23) rfl rfl (We (Sg (v := (.agg #[(Iv 0), Zs])) (vl := [(Iv 0), Zs]) (arr' := [(Iv 0), Zs]) rfl sz29 rfl rfl (onb rfl) rfl rfl rfl) rfl ?_)))
 rintro _ _ _ - ⟨rfl, rfl⟩
 exact Pa (GV r23) rfl rfl (Nt (Cr (Tr (WQ.e0 (Qb (Dr (Qa (Rd h [[]] (fun _ hs => hs.drop) (resultsLN rfl (RVs.cons (Rc (cs := [(Iv 0), Zs]) 0 ag29 sz29 rfl rfl rfl) (RVs.cons (RV.tmp rfl) RVs.nil))) hle26 ⟨Zs, [], rfl, rfl, (OwnS.nil _ _)⟩))))))))
 have h := ite_f hb28 h
 refine Ck (Tc (Sr (Pu (pt g21 0) (Fa fo25_0 rfl rfl) rfl (Pu (Iv a0.Kind) (Lb 1 pl3 rfl rfl rfl) rfl ?_))))
 obtain ⟨r30, hr31, h⟩ := bnd h
 refine We (Ca co23 (f_rpc_about_ok a0.Kind _ r30 hr31) (args1 rfl)) rfl ?_
 rintro _ M32 _ hle33 ⟨_, ⟨rfl, rfl⟩, rfl⟩
 refine WL.a0 (We (Al ze3 rfl) rfl ?_)
 rintro _ _ _ - ⟨rfl, g35, rfl, rfl⟩
 refine We (Es (Iv r30) [(Iv r30)] rfl sz3 rfl rfl rfl rfl rfl rfl) rfl ?_
 rintro _ _ _ - ⟨rfl, rfl⟩
 refine Nt ?_
 obtain ⟨x37, hj38, h⟩ := bnd h
 refine Jf (fun (x37 : (List Int)) ρ' M' H' => ∃ g36 vx37 cx37, M32.le M' ∧ [(g35, .cells #[(Iv r30)] 3 (0, 0))] :: [(g22, .cells #[(Iv 0), Zs] 29 (0, 0))] :: [(g21, .cells (l25 a0 v0_11 v0_14).toArray 25 (0, 0))] :: [(g36, .cells #[vx37] 23 (0, 0))] :: cx37 :: F = H' ∧ ρ' 1 = (pt g21 0) ∧ ρ' 2 = (pt g22 0) ∧ ρ' 5 = (pt g35 0) ∧ ρ' 6 = (pt g36 0) ∧ OwnS (Kd.int .u8) M' vx37 x37 cx37) x37 ?_ ?_
 have h338 := h
 have h := hj38
 refine WC.draw [0, 1, 3, 0, 8, 31, 0, 64, 255, 0, 1023] (.pure 0 (.pure 1 (.pure 3 (.pure 4 (.pure 6 (.pure 7 (.alt 2 (.alt 5 (.alt 8 (.alt 9 (.alt 10 .done .none) .none) (.alt 9 (.alt 8 (.alt 10 .done .none) .none) .none)) (.alt 9 (.alt 5 (.alt 8 (.alt 10 .done .none) .none) .none) .none)) (.alt 9 (.alt 2 (.alt 5 (.alt 8 (.alt 10 .done .none) .none) .none) .none) .none)))))))) mixed (by kernel_rfl) (Tp (pt g21 1) rfl (Fa fo25_1 rfl rfl) rfl (Tp (Iv a0.From) rfl (Lb 2 pl3 rfl rfl rfl) rfl (Tp (pt g21 2) rfl (Fa fo25_2 rfl rfl) rfl (Tp (Iv a0.To) rfl (Lb 2 pl3 rfl rfl rfl) rfl (Tp (pt g21 3) rfl (Fa fo25_3 rfl rfl) rfl (Tp (Iv a0.Term) rfl (Lb 2 pl3 rfl rfl rfl) rfl ?_))))))
 have hk39 := h
 obtain ⟨r41, hr42, h⟩ := bnd h
 refine WT.e0 (Ta rfl (Cb co24 (f_wire_Int_ok [] a0.From _ _ _ (OwnS.nil _ _) r41 hr42) (args2 rfl rfl)) rfl ?_ ?_)
 rintro _ M43 _ hle44 ⟨_, ⟨vq45, cq45, rfl, rfl, hq45⟩, rfl⟩
 refine ⟨(Ss rfl (Lb 3 pl3 rfl rfl rfl) rfl (Ss rfl (Fa fo25_3 rfl rfl) rfl (Ss rfl (Lb 3 pl3 rfl rfl rfl) rfl (Ss rfl (Fa fo25_2 rfl rfl) rfl (Sl rfl))))), ?_⟩
 refine WT.a1 ?_
 have hk46 := h
 obtain ⟨r47, hr48, h⟩ := bnd h
 refine Ta rfl (Cb co24 (f_wire_Int_ok r41 a0.To _ _ _ hq45 r47 hr48) (args2 rfl rfl)) rfl ?_ ?_
 rintro _ M49 _ hle50 ⟨_, ⟨vq51, cq51, rfl, rfl, hq51⟩, rfl⟩
 refine ⟨(Ss rfl (Lb 3 pl3 rfl rfl rfl) rfl (Ss rfl (Fa fo25_3 rfl rfl) rfl (Sl rfl))), ?_⟩
 refine WT.a1 ?_
 have hk52 := h
 obtain ⟨r53, hr54, h⟩ := bnd h
 refine Ta rfl (Cb co24 (f_wire_Int_ok r47 a0.Term _ _ _ hq51 r53 hr54) (args2 rfl rfl)) rfl ?_ ?_
 rintro _ M55 _ hle56 ⟨_, ⟨vq57, cq57, rfl, rfl, hq57⟩, rfl⟩
 refine ⟨(Sl rfl), ?_⟩
 refine WT.a1 (Ta rfl (Al ze23 rfl) rfl ?_ ?_)
 rintro _ _ _ - ⟨rfl, g58, rfl, rfl⟩
 refine ⟨(Ss rfl (Lb 4 pl3 rfl rfl rfl) rfl (Ss rfl (Fa fo25_3 rfl rfl) rfl (Ss rfl (Lb 4 pl3 rfl rfl rfl) rfl (Ss rfl (Fa fo25_2 rfl rfl) rfl (Ss rfl (Lb 4 pl3 rfl rfl rfl) rfl (Ss rfl (Fa fo25_1 rfl rfl) rfl trivial)))))), ?_⟩
 refine Ta rfl (Es vq57 [vq57] hq57.cells sz23 rfl rfl (Ow hq57) rfl rfl rfl) rfl ?_ ?_
 rintro _ _ _ - ⟨rfl, rfl⟩
 refine ⟨(Sl rfl), ?_⟩
 refine Ti (Qa (Qa (WQ.f4 (WQ.f4 (WQ.f4 ?_)))))
 obtain rfl := oi h
 exact Tj ⟨g58, vq57, cq57, ((hle44.trans hle50).trans hle56), rfl, rfl, rfl, rfl, rfl, hq57⟩
 exact Tz
 exact Tz
 have h := hk52
 refine Ta rfl (Al ze23 rfl) rfl ?_ ?_
 rintro _ _ _ - ⟨rfl, g59, rfl, rfl⟩
 refine ⟨(Ss rfl (Lb 4 pl3 rfl rfl rfl) rfl (Ss rfl (Fa fo25_3 rfl rfl) rfl (Ss rfl (Lb 4 pl3 rfl rfl rfl) rfl (Ss rfl (Fa fo25_2 rfl rfl) rfl (Ss rfl (Lb 4 pl3 rfl rfl rfl) rfl (Ss rfl (Fa fo25_1 rfl rfl) rfl trivial)))))), ?_⟩
 obtain ⟨r60, hr61, h⟩ := bnd h
 refine WT.f1 (Ta rfl (Cb co24 (f_wire_Int_ok r47 a0.Term _ _ _ hq51 r60 hr61) (args2 rfl rfl)) rfl ?_ ?_)
 rintro _ M62 _ hle63 ⟨_, ⟨vq64, cq64, rfl, rfl, hq64⟩, rfl⟩
 refine ⟨(Sl rfl), ?_⟩
 refine WT.a1 (WT.f1 (Ta rfl (Es vq64 [vq64] hq64.cells sz23 rfl rfl (Ow hq64) rfl rfl rfl) rfl ?_ ?_))
 rintro _ _ _ - ⟨rfl, rfl⟩
 refine ⟨(Sl rfl), ?_⟩
 refine Ti (Qa (Qa (WQ.f4 (WQ.f4 (WQ.f4 ?_)))))
 obtain rfl := oi h
 exact Tj ⟨g59, vq64, cq64, ((hle44.trans hle50).trans hle63), rfl, rfl, rfl, rfl, rfl, hq64⟩
 exact Tz
 exact Tz
 exact Tz
 have h := hk46
 refine Ta rfl (Al ze23 rfl) rfl ?_ ?_
 rintro _ _ _ - ⟨rfl, g65, rfl, rfl⟩
 refine ⟨(Ss rfl (Lb 4 pl3 rfl rfl rfl) rfl (Ss rfl (Fa fo25_3 rfl rfl) rfl (Ss rfl (Lb 4 pl3 rfl rfl rfl) rfl (Ss rfl (Fa fo25_2 rfl rfl) rfl (Ss rfl (Lb 4 pl3 rfl rfl rfl) rfl (Ss rfl (Fa fo25_1 rfl rfl) rfl trivial)))))), ?_⟩
 obtain ⟨r66, hr67, h⟩ := bnd h
 refine WT.f1 (Ta rfl (Cb co24 (f_wire_Int_ok r41 a0.To _ _ _ hq45 r66 hr67) (args2 rfl rfl)) rfl ?_ ?_)
 rintro _ M68 _ hle69 ⟨_, ⟨vq70, cq70, rfl, rfl, hq70⟩, rfl⟩
 refine ⟨(Ss rfl (Lb 4 pl3 rfl rfl rfl) rfl (Ss rfl (Fa fo25_3 rfl rfl) rfl (Sl rfl))), ?_⟩
 refine WT.a1 ?_
 obtain ⟨r71, hr72, h⟩ := bnd h
 refine Ta rfl (Cb co24 (f_wire_Int_ok r66 a0.Term _ _ _ hq70 r71 hr72) (args2 rfl rfl)) rfl ?_ ?_
 rintro _ M73 _ hle74 ⟨_, ⟨vq75, cq75, rfl, rfl, hq75⟩, rfl⟩
 refine ⟨(Sl rfl), ?_⟩
 refine WT.a1 (WT.f1 (Ta rfl (Es vq75 [vq75] hq75.cells sz23 rfl rfl (Ow hq75) rfl rfl rfl) rfl ?_ ?_))
 rintro _ _ _ - ⟨rfl, rfl⟩
 refine ⟨(Sl rfl), ?_⟩
 refine Ti (Qa (Qa (WQ.f4 (WQ.f4 (WQ.f4 ?_)))))
 obtain rfl := oi h
 exact Tj ⟨g65, vq75, cq75, ((hle44.trans hle69).trans hle74), rfl, rfl, rfl, rfl, rfl, hq75⟩
 exact Tz
 exact Tz
 exact Tz
 exact Tz
 have h := hk39
 refine Ta rfl (Al ze23 rfl) rfl ?_ ?_
 rintro _ _ _ - ⟨rfl, g76, rfl, rfl⟩
 refine ⟨(Ss rfl (Lb 4 pl3 rfl rfl rfl) rfl (Ss rfl (Fa fo25_3 rfl rfl) rfl (Ss rfl (Lb 4 pl3 rfl rfl rfl) rfl (Ss rfl (Fa fo25_2 rfl rfl) rfl (Ss rfl (Lb 4 pl3 rfl rfl rfl) rfl (Ss rfl (Fa fo25_1 rfl rfl) rfl trivial)))))), ?_⟩
 obtain ⟨r78, hr79, h⟩ := bnd h
 refine WT.e0 (Ta rfl (Cb co24 (f_wire_Int_ok [] a0.From _ _ _ (OwnS.nil _ _) r78 hr79) (args2 rfl rfl)) rfl ?_ ?_)
 rintro _ M80 _ hle81 ⟨_, ⟨vq82, cq82, rfl, rfl, hq82⟩, rfl⟩
 refine ⟨(Ss rfl (Lb 5 pl3 rfl rfl rfl) rfl (Ss rfl (Fa fo25_3 rfl rfl) rfl (Ss rfl (Lb 5 pl3 rfl rfl rfl) rfl (Ss rfl (Fa fo25_2 rfl rfl) rfl (Sl rfl))))), ?_⟩
 refine WT.a1 ?_
 obtain ⟨r83, hr84, h⟩ := bnd h
 refine Ta rfl (Cb co24 (f_wire_Int_ok r78 a0.To _ _ _ hq82 r83 hr84) (args2 rfl rfl)) rfl ?_ ?_
 rintro _ M85 _ hle86 ⟨_, ⟨vq87, cq87, rfl, rfl, hq87⟩, rfl⟩
 refine ⟨(Ss rfl (Lb 5 pl3 rfl rfl rfl) rfl (Ss rfl (Fa fo25_3 rfl rfl) rfl (Sl rfl))), ?_⟩
 refine WT.a1 ?_
 obtain ⟨r88, hr89, h⟩ := bnd h
 refine Ta rfl (Cb co24 (f_wire_Int_ok r83 a0.Term _ _ _ hq87 r88 hr89) (args2 rfl rfl)) rfl ?_ ?_
 rintro _ M90 _ hle91 ⟨_, ⟨vq92, cq92, rfl, rfl, hq92⟩, rfl⟩
 refine ⟨(Sl rfl), ?_⟩
 refine WT.a1 (WT.f1 (Ta rfl (Es vq92 [vq92] hq92.cells sz23 rfl rfl (Ow hq92) rfl rfl rfl) rfl ?_ ?_))
 rintro _ _ _ - ⟨rfl, rfl⟩
 refine ⟨(Sl rfl), ?_⟩
 refine Ti (Qb (Dr (Qa (Qa (WQ.f4 (WQ.f4 (WQ.f4 ?_)))))))
 obtain rfl := oi h
 exact Tj ⟨g76, vq92, cq92, ((hle81.trans hle86).trans hle91), rfl, rfl, rfl, rfl, rfl, hq92⟩
 exact Tz
 exact Tz
 exact Tz
 exact Tz
 exact Tz
 rintro ρ38 M38 H38 ⟨g36, vx37, cx37, hle38, rfl, hs38_1, hs38_2, hs38_5, hs38_6, hx37⟩
 refine Sr (Pu (.func (.func 25) #[] #[(pt g35 0), (pt g36 0)]) (PO.makeFunc2 (args0) (args2 (asE (Value.pointer (some ⟨g35, 0, none⟩)) hs38_5) (asE (Value.pointer (some ⟨g36, 0, none⟩)) hs38_6))) rfl (Pa (.func (.func 25) #[] #[(pt g35 0), (pt g36 0)]) rfl rfl (Nt ?_)))
 obtain ⟨x93, hj94, h⟩ := bnd h
 refine Jf (fun (x93 : (List Int)) ρ' M' H' => ∃ vx93 cx93, M38.le M' ∧ [(g35, .cells #[(Iv r30)] 3 (0, 0))] :: [(g22, .cells #[(Iv 0), Zs] 29 (0, 0))] :: [(g21, .cells (l25 a0 v0_11 v0_14).toArray 25 (0, 0))] :: [(g36, .cells #[vx93] 23 (0, 0))] :: cx93 :: F = H' ∧ ρ' 1 = (pt g21 0) ∧ ρ' 2 = (pt g22 0) ∧ ρ' 5 = (pt g35 0) ∧ ρ' 6 = (pt g36 0) ∧ ρ' 7 = (.func (.func 25) #[] #[(pt g35 0), (pt g36 0)]) ∧ OwnS (Kd.int .u8) M' vx93 x93 cx93) x93 ?_ ?_
 have h394 := h
 have h := hj94
 refine Sr (Pu (Iv r30) (Lb 0 pl3 hs38_5 rfl rfl) rfl (Pu (Iv (andI .i64 r30 (1 : Int))) (PO.and rfl rfl) rfl (Pu (Bv (decide ((andI .i64 r30 (1 : Int)) ≠ 0))) (PO.neq rfl rfl) rfl (Nt (Cd (b := decide ((andI .i64 r30 (1 : Int)) ≠ 0)) rfl (fun hb95 => ?_) (fun hb95 => ?_))))))
 have h := ite_t hb95 h
 refine Cg (Pu vx37 (Lb 3 pl23 hs38_6 rfl rfl) rfl (Pu (pt g21 4) (Fa fo25_4 hs38_1 rfl) rfl (Pu (Bv a0.Pre) (Lb 2 pl4 rfl rfl rfl) rfl ?_)))
 obtain ⟨r96, hr97, h⟩ := bnd h
 refine WL.f4 (We (Cb co26 (f_wire_Flag_ok x37 a0.Pre _ _ _ hx37 r96 hr97) (args2 rfl rfl)) rfl ?_)
 rintro _ M98 _ hle99 ⟨_, ⟨vq100, cq100, rfl, rfl, hq100⟩, rfl⟩
 refine WL.a1 (WL.f4 (We (Es vq100 [vq100] hq100.cells sz23 hs38_6 rfl (Ow hq100) rfl rfl rfl) rfl ?_))
 rintro _ _ _ - ⟨rfl, rfl⟩
 refine Wz (Qa (Qa (WQ.f4 (WQ.f4 (WQ.f4 ?_)))))
 obtain rfl := oi h
 exact Tj ⟨vq100, cq100, hle99, rfl, hs38_1, hs38_2, hs38_5, hs38_6, rfl, hq100⟩
 have h := ite_f hb95 h
 refine Ck ?_
 obtain rfl := oi h
 exact Tj ⟨vx37, cx37, lr, rfl, hs38_1, hs38_2, hs38_5, hs38_6, rfl, hx37⟩
 rintro ρ94 M94 H94 ⟨vx93, cx93, hle94, rfl, hs94_1, hs94_2, hs94_5, hs94_6, hs94_7, hx93⟩
 obtain ⟨x101, hj102, h⟩ := bnd h
 refine Jf (fun (x101 : (List Int)) ρ' M' H' => ∃ vx101 cx101, M94.le M' ∧ [(g35, .cells #[(Iv r30)] 3 (0, 0))] :: [(g22, .cells #[(Iv 0), Zs] 29 (0, 0))] :: [(g21, .cells (l25 a0 v0_11 v0_14).toArray 25 (0, 0))] :: [(g36, .cells #[vx101] 23 (0, 0))] :: cx101 :: F = H' ∧ ρ' 1 = (pt g21 0) ∧ ρ' 2 = (pt g22 0) ∧ ρ' 6 = (pt g36 0) ∧ ρ' 7 = (.func (.func 25) #[] #[(pt g35 0), (pt g36 0)]) ∧ OwnS (Kd.int .u8) M' vx101 x101 cx101) x101 ?_ ?_
 have h3102 := h
 have h := hj102
 refine Sr (Pu (Iv r30) (Lb 0 pl3 hs94_5 rfl rfl) rfl (Pu (Iv (andI .i64 r30 (2 : Int))) (PO.and rfl rfl) rfl (Pu (Bv (decide ((andI .i64 r30 (2 : Int)) ≠ 0))) (PO.neq rfl rfl) rfl (Nt (Cd (b := decide ((andI .i64 r30 (2 : Int)) ≠ 0)) rfl (fun hb103 => ?_) (fun hb103 => ?_))))))
 have h := ite_t hb103 h
 refine Cg (Pu vx93 (Lb 3 pl23 hs94_6 rfl rfl) rfl (Pu (pt g21 5) (Fa fo25_5 hs94_1 rfl) rfl (Pu (Bv a0.Ok) (Lb 2 pl4 rfl rfl rfl) rfl ?_)))
 obtain ⟨r104, hr105, h⟩ := bnd h
 refine WL.f4 (We (Cb co26 (f_wire_Flag_ok x93 a0.Ok _ _ _ hx93 r104 hr105) (args2 rfl rfl)) rfl ?_)
 rintro _ M106 _ hle107 ⟨_, ⟨vq108, cq108, rfl, rfl, hq108⟩, rfl⟩
 refine WL.a1 (WL.f4 (We (Es vq108 [vq108] hq108.cells sz23 hs94_6 rfl (Ow hq108) rfl rfl rfl) rfl ?_))
 rintro _ _ _ - ⟨rfl, rfl⟩
 refine Wz (Qa (Qa (WQ.f4 (WQ.f4 (WQ.f4 ?_)))))
 obtain rfl := oi h
 exact Tj ⟨vq108, cq108, hle107, rfl, hs94_1, hs94_2, hs94_6, hs94_7, hq108⟩
 have h := ite_f hb103 h
 refine Ck ?_
 obtain rfl := oi h
 exact Tj ⟨vx93, cx93, lr, rfl, hs94_1, hs94_2, hs94_6, hs94_7, hx93⟩
 rintro ρ102 M102 H102 ⟨vx101, cx101, hle102, rfl, hs102_1, hs102_2, hs102_6, hs102_7, hx101⟩
 refine Sr (Pm (.func (.func 25) #[] #[(pt g35 0), (pt g36 0)]) hs102_7 rfl (Pu (pt g21 6) (Fa fo25_6 hs102_1 rfl) rfl (Pu (Iv a0.Leader) (Lb 2 pl3 rfl rfl rfl) rfl ?_)))
 obtain ⟨r109, hr110, h⟩ := bnd h
 refine WL.f4 (WL.f4 (Wb (We (EO.callV3 (first := #[]) (cap := #[(pt g35 0), (pt g36 0)]) co25 rfl (f_rpc_Put_1_ok (4 : Int) a0.Leader r30 x101 _ _ _ _ _ hx101 r109 hr110) (argsV2 rfl rfl rfl)) rfl ?_)))
 rintro _ M111 _ hle112 ⟨_, ⟨v113, c115, rfl, rfl, h114⟩, rfl⟩
 refine WL.a3 (Ns (Pm (.func (.func 25) #[] #[(pt g35 0), (pt g36 0)]) hs102_7 rfl (Pu (pt g21 7) (Fa fo25_7 hs102_1 rfl) rfl (Pu (Iv a0.At) (Lb 4 pl3 rfl rfl rfl) rfl ?_))))
 obtain ⟨r116, hr117, h⟩ := bnd h
 refine Wb (Wb (Wb (We (EO.callV3 (first := #[]) (cap := #[(pt g35 0), (pt g36 0)]) co25 rfl (f_rpc_Put_1_ok (8 : Int) a0.At r30 r109 _ _ _ _ _ h114 r116 hr117) (argsV2 rfl rfl rfl)) rfl ?_)))
 rintro _ M118 _ hle119 ⟨_, ⟨v120, c122, rfl, rfl, h121⟩, rfl⟩
 refine WL.a3 (Ns (Pm (.func (.func 25) #[] #[(pt g35 0), (pt g36 0)]) hs102_7 rfl (Pu (pt g21 8) (Fa fo25_8 hs102_1 rfl) rfl (Pu (Iv a0.AtTerm) (Lb 4 pl3 rfl rfl rfl) rfl ?_))))
 obtain ⟨r123, hr124, h⟩ := bnd h
 refine Wb (Wb (Wb (We (EO.callV3 (first := #[]) (cap := #[(pt g35 0), (pt g36 0)]) co25 rfl (f_rpc_Put_1_ok (8 : Int) a0.AtTerm r30 r116 _ _ _ _ _ h121 r123 hr124) (argsV2 rfl rfl rfl)) rfl ?_)))
 rintro _ M125 _ hle126 ⟨_, ⟨v127, c129, rfl, rfl, h128⟩, rfl⟩
 refine WL.a3 (Ns (Pm (.func (.func 25) #[] #[(pt g35 0), (pt g36 0)]) hs102_7 rfl (Pu (pt g21 9) (Fa fo25_9 hs102_1 rfl) rfl (Pu (Iv a0.High) (Lb 4 pl3 rfl rfl rfl) rfl ?_))))
 obtain ⟨r130, hr131, h⟩ := bnd h
 refine Wb (Wb (Wb (We (EO.callV3 (first := #[]) (cap := #[(pt g35 0), (pt g36 0)]) co25 rfl (f_rpc_Put_1_ok (16 : Int) a0.High r30 r123 _ _ _ _ _ h128 r130 hr131) (argsV2 rfl rfl rfl)) rfl ?_)))
 rintro _ M132 _ hle133 ⟨_, ⟨v134, c136, rfl, rfl, h135⟩, rfl⟩
 refine WL.a3 (Ns (Pm (.func (.func 25) #[] #[(pt g35 0), (pt g36 0)]) hs102_7 rfl (Pu (pt g21 10) (Fa fo25_10 hs102_1 rfl) rfl (Pu (Iv a0.Code) (Lb 4 pl3 rfl rfl rfl) rfl ?_))))
 obtain ⟨r137, hr138, h⟩ := bnd h
 refine Wb (Wb (Wb (We (EO.callV3 (first := #[]) (cap := #[(pt g35 0), (pt g36 0)]) co25 rfl (f_rpc_Put_1_ok (32 : Int) a0.Code r30 r130 _ _ _ _ _ h135 r137 hr138) (argsV2 rfl rfl rfl)) rfl ?_)))
 rintro _ M139 _ hle140 ⟨_, ⟨v141, c143, rfl, rfl, h142⟩, rfl⟩
 refine WL.a3 (Ns (Pm (.func (.func 25) #[] #[(pt g35 0), (pt g36 0)]) hs102_7 rfl (Pu (pt g21 12) (Fa fo25_12 hs102_1 rfl) rfl (Pu (Iv a0.Size) (Lb 4 pl3 rfl rfl rfl) rfl ?_))))
 obtain ⟨r144, hr145, h⟩ := bnd h
 refine Wb (Wb (Wb (We (EO.callV3 (first := #[]) (cap := #[(pt g35 0), (pt g36 0)]) co25 rfl (f_rpc_Put_1_ok (128 : Int) a0.Size r30 r137 _ _ _ _ _ h142 r144 hr145) (argsV2 rfl rfl rfl)) rfl ?_)))
 rintro _ M146 _ hle147 ⟨_, ⟨v148, c150, rfl, rfl, h149⟩, rfl⟩
 refine WL.a3 (Ns (Pm (.func (.func 25) #[] #[(pt g35 0), (pt g36 0)]) hs102_7 rfl (Pu (pt g21 13) (Fa fo25_13 hs102_1 rfl) rfl (Pu (Iv a0.Pos) (Lb 4 pl3 rfl rfl rfl) rfl ?_))))
 obtain ⟨r151, hr152, h⟩ := bnd h
 refine Wb (Wb (Wb (We (EO.callV3 (first := #[]) (cap := #[(pt g35 0), (pt g36 0)]) co25 rfl (f_rpc_Put_1_ok (256 : Int) a0.Pos r30 r144 _ _ _ _ _ h149 r151 hr152) (argsV2 rfl rfl rfl)) rfl ?_)))
 rintro _ M153 _ hle154 ⟨_, ⟨v155, c157, rfl, rfl, h156⟩, rfl⟩
 refine WL.a3 (Nt ?_)
 obtain ⟨x158, hj159, h⟩ := bnd h
 refine Jf (fun (x158 : (List Int)) ρ' M' H' => ∃ vx158 cx158, M153.le M' ∧ [(g35, .cells #[(Iv r30)] 3 (0, 0))] :: [(g36, .cells #[vx158] 23 (0, 0))] :: [(g22, .cells #[(Iv 0), Zs] 29 (0, 0))] :: [(g21, .cells (l25 a0 v0_11 v0_14).toArray 25 (0, 0))] :: cx158 :: F = H' ∧ ρ' 1 = (pt g21 0) ∧ ρ' 2 = (pt g22 0) ∧ ρ' 6 = (pt g36 0) ∧ ρ' 7 = (.func (.func 25) #[] #[(pt g35 0), (pt g36 0)]) ∧ OwnS (Kd.int .u8) M' vx158 x158 cx158) x158 ?_ ?_
 have h3159 := h
 have h := hj159
 refine Sr (Pu (pt g21 0) (Fa fo25_0 hs102_1 rfl) rfl (Pu (Iv a0.Kind) (Lb 4 pl3 rfl rfl rfl) rfl (Pu (Bv (decide (a0.Kind = 8))) (PO.eql rfl rfl) rfl (Nt (Cd (b := decide (a0.Kind = 8)) rfl (fun hb160 => ?_) (fun hb160 => ?_))))))
 have h := ite_t hb160 h
 refine Cg (Pu v155 (Lb 1 pl23 hs102_6 rfl rfl) rfl (Pu (pt g21 14) (Fa fo25_14 hs102_1 rfl) rfl (Pu v0_14 (Lb 4 pl23 rfl rfl rfl) rfl ?_)))
 obtain ⟨r161, hr162, h⟩ := bnd h
 refine Wb ?_
 have h0_14 := h0_14.mono (((((((((((hle26.trans hle33).trans hle38).trans hle94).trans hle102).trans hle112).trans hle119).trans hle126).trans hle133).trans hle140).trans hle147).trans hle154)
 refine We (Cb co27 (f_wire_Text_ok r151 a0.Data _ _ _ _ h156 h0_14 r161 hr162) (args2 rfl rfl)) rfl ?_
 rintro _ M163 _ hle164 ⟨_, ⟨vq165, cq165, rfl, rfl, hq165⟩, rfl⟩
 refine WL.a1 (Wb (We (Es vq165 [vq165] hq165.cells sz23 hs102_6 rfl (Ow hq165) rfl rfl rfl) rfl ?_))
 rintro _ _ _ - ⟨rfl, rfl⟩
 refine Wz (Qa (WQ.f4 (WQ.f4 (WQ.f3 (WQ.f4 ?_)))))
 obtain rfl := oi h
 exact Tj ⟨vq165, cq165, hle164, rfl, hs102_1, hs102_2, hs102_6, hs102_7, hq165⟩
 have h := ite_f hb160 h
 refine Ck (Qb (WQ.f4 (WQ.f4 (WQ.f4 (WQ.f4 ?_)))))
 obtain rfl := oi h
 exact Tj ⟨v155, c157, lr, rfl, hs102_1, hs102_2, hs102_6, hs102_7, h156⟩
 rintro ρ159 M159 H159 ⟨vx158, cx158, hle159, rfl, hs159_1, hs159_2, hs159_6, hs159_7, hx158⟩
 refine Sr (Pm (.func (.func 25) #[] #[(pt g35 0), (pt g36 0)]) hs159_7 rfl (Pu (pt g21 11) (Fa fo25_11 hs159_1 rfl) rfl (Pu v0_11 (Lb 3 pl22 rfl rfl rfl) rfl ?_)))
 have h0_11 := h0_11.mono ((((((((((((hle26.trans hle33).trans hle38).trans hle94).trans hle102).trans hle112).trans hle119).trans hle126).trans hle133).trans hle140).trans hle147).trans hle154).trans hle159)
 refine Pu (Iv (a0.Batches.length : Int)) (PO.lenS Tryz.underlying22 rfl h0_11.len) rfl ?_
 obtain ⟨r166, hr167, h⟩ := bnd h
 refine WL.f4 (Wb (Wb (We (EO.callV3 (first := #[]) (cap := #[(pt g35 0), (pt g36 0)]) co25 rfl (f_rpc_Put_1_ok (64 : Int) (a0.Batches.length : Int) r30 x158 _ _ _ _ _ hx158 r166 hr167) (argsV2 rfl rfl rfl)) rfl ?_)))
 rintro _ M168 _ hle169 ⟨_, ⟨v170, c172, rfl, rfl, h171⟩, rfl⟩
 refine WL.a3 (Nt ?_)
 obtain ⟨j174, hj174, h⟩ := bnd h
 refine WC.joinE (fun (x173 : (List Int)) ρ' M' H' => ∃ vx173 cx173, M168.le M' ∧ [(g35, .cells #[(Iv r30)] 3 (0, 0))] :: [(g36, .cells #[vx173] 23 (0, 0))] :: [(g22, .cells #[(Iv 0), Zs] 29 (0, 0))] :: [(g21, .cells (l25 a0 v0_11 v0_14).toArray 25 (0, 0))] :: cx173 :: F = H' ∧ ρ' 1 = (pt g21 0) ∧ ρ' 2 = (pt g22 0) ∧ ρ' 6 = (pt g36 0) ∧ OwnS (Kd.int .u8) M' vx173 x173 cx173) j174 ?_ ?_
 have h3174 := h
 have h := hj174
 refine Sr (Pu (pt g21 11) (Fa fo25_11 hs159_1 rfl) rfl (Pu v0_11 (Lb 4 pl22 rfl rfl rfl) rfl ?_))
 have h0_11 := h0_11.mono hle169
 refine Pu (Iv (a0.Batches.length : Int)) (PO.lenS Tryz.underlying22 rfl h0_11.len) rfl (Pm (Iv 0) rfl rfl (Nt (Bk (WC.f2 (WC.f4 (WC.f4 (WC.f4 (WC.f4 ?_))))))))
 obtain ⟨e175, he175, hK175⟩ := bnd h
 clear h
 refine WC.loop he175 (fun (p_ : (Int × (List Int))) ρ' M' H' => match p_ with | (x176, x177) => ∃ vx177 cx177, M168.le M' ∧ [(g35, .cells #[(Iv r30)] 3 (0, 0))] :: [(g36, .cells #[vx177] 23 (0, 0))] :: [(g22, .cells #[(Iv 0), Zs] 29 (0, 0))] :: [(g21, .cells (l25 a0 v0_11 v0_14).toArray 25 (0, 0))] :: cx177 :: F = H' ∧ ρ' 1 = (pt g21 0) ∧ ρ' 2 = (pt g22 0) ∧ ρ' 6 = (pt g36 0) ∧ ρ' 86 = v0_11 ∧ ρ' 87 = (Iv (a0.Batches.length : Int)) ∧ ρ' 88 = (Iv x176) ∧ OwnS (Kd.int .u8) M' vx177 x177 cx177) ?_ ?_
 exact ⟨v170, c172, lr, rfl, hs159_1, hs159_2, hs159_6, rfl, rfl, rfl, h171⟩
 rintro ⟨x176, x177⟩ o175 ρ175 M175 H175 h ⟨vx177, cx177, hle175, rfl, hs175_1, hs175_2, hs175_6, hs175_86, hs175_87, hs175_88, hx177⟩
 unfold f_rpc_Put_l0 at h
 refine Sr (Pu (Bv (decide (x176 < (a0.Batches.length : Int)))) (PO.lss hs175_88 hs175_87) rfl (Nt (Cs (Cd (b := decide (x176 < (a0.Batches.length : Int))) rfl (fun hb181 => ?_) (fun hb181 => ?_)))))
 have h := ite_t hb181 h
 refine Ck (Tc (Cs (Bk (Sr (Pm (Iv x176) hs175_88 rfl ?_)))))
 obtain ⟨hg182, h⟩ := grd_i h
 have h0_11 := h0_11.mono hle175
 obtain ⟨p183, cs184, hat185, hrc186, hhas187⟩ := h0_11.at hg182.1 hg182.2 (by decide)
 obtain ⟨vw188_2, rfl, hw188_2⟩ := kd_api_Batch_open hrc186
 refine Pu (.pointer (some p183)) (PO.indexAddr (n := a0.Batches.length) Tryz.underlying22 sz55 hs175_86 hs175_88 hg182.1 hg182.2 hat185) rfl (Pu (a55_ (rd a0.Batches x176) vw188_2) (PO.loadMA (cs := (l55 (rd a0.Batches x176) vw188_2)) ag55 sz55 rfl hhas187) rfl (We (Al ze55 rfl) rfl ?_))
 rintro _ _ _ - ⟨rfl, g189, rfl, rfl⟩
 refine Pa (Iv x176) rfl rfl (We (Sg (v := (a55_ (rd a0.Batches x176) vw188_2)) (vl := (l55 (rd a0.Batches x176) vw188_2)) (arr' := (l55 (rd a0.Batches x176) vw188_2)) rfl sz55 rfl rfl (onesOf (Oc rfl (Oc rfl (Oc (RS.one hw188_2) Oz)))) rfl rfl rfl) rfl ?_)
 rintro _ _ _ - ⟨rfl, rfl⟩
 refine Ns (Pu (a55_ (rd a0.Batches x176) vw188_2) (La (cs := (l55 (rd a0.Batches x176) vw188_2)) 0 ag55 sz55 rfl rfl rfl) rfl ?_)
 obtain ⟨⟨r190, r191⟩, hr192, h⟩ := bnd h
 refine We (Ca co28 (f_batch_Put_ok (rd a0.Batches x176) _ _ hw188_2 (r190, r191) hr192) (args1 rfl)) rfl ?_
 rintro _ M193 _ hle194 ⟨_, ⟨vq195, cq195, rfl, rfl, hq195⟩, rfl⟩
 refine WL.a1 (Pm (.tuple #[vq195, (GV r191)]) rfl rfl (Pu vq195 (Xt rfl rfl) rfl (Pu (GV r191) (Xt rfl rfl) rfl (Pa vq195 rfl rfl (Pa (GV r191) rfl rfl (Nt (Cs (Sr (Pm (GV r191) rfl rfl (Pu (Bv (!r191.isNil)) (PO.errNotNil Tryz.underlying31 rfl) rfl (Nt ?_)))))))))))
 refine Cd (b := !r191.isNil) rfl (fun hb197 => ?_) (fun hb197 => ?_)
 have h := ite_t hb197 h
 refine Sr (Pu (.agg #[(Iv 0), Zs]) (Bl (cl := [(Iv 0), Zs]) ze29 fp29 Pz rfl) rfl (Pm (Iv x176) rfl rfl (Pm (GV r191) rfl rfl ?_)))
 obtain ⟨r198, hr199, h⟩ := bnd h
 refine We (Ca co29 (f_fault_Wrap_ok ⟨#[98, 97, 116, 99, 104]⟩ x176 r191 _ r198 hr199) (args3 rfl rfl rfl)) rfl ?_
 rintro _ M200 _ hle201 ⟨_, ⟨rfl, rfl⟩, rfl⟩
 refine WL.a0 (WL.f4 (We (Sg (v := (.agg #[(Iv 0), Zs])) (vl := [(Iv 0), Zs]) (arr' := [(Iv 0), Zs]) rfl sz29 hs175_2 rfl (onb rfl) rfl rfl rfl) rfl ?_))
 rintro _ _ _ - ⟨rfl, rfl⟩
 refine Pa (GV r198) rfl rfl (Nt (Cr (Tr (Br (Tr (WQ.leaveR (Sum.inr (r198, x177)) (oi h).symm (fun heq175 => ?_)))))))
 subst heq175
 have h := (elimR hK175)
 refine Br (Tr ?_)
 have h := KK.early h h3174
 refine WQ.e0 (Qb (Dr (Qb (Dr (Qb (Dr (Qb (Dr (Qb (Dr (Qb ?_)))))))))))
 exact Dr (Qa (Rd h [[]] (fun _ hs => hs.drop) (resultsLN rfl (RVs.cons (Rc (cs := [(Iv 0), Zs]) 0 ag29 sz29 hs175_2 rfl rfl) (RVs.cons (RV.tmp rfl) RVs.nil))) ((((((((((((((((hle26.trans hle33).trans hle38).trans hle94).trans hle102).trans hle112).trans hle119).trans hle126).trans hle133).trans hle140).trans hle147).trans hle154).trans hle159).trans hle169).trans hle175).trans hle194).trans hle201) ⟨Zs, [], rfl, rfl, (OwnS.nil _ _)⟩))
 have h := ite_f hb197 h
 refine Ck (Tc (Cg (Pu vx177 (Lb 3 pl23 hs175_6 rfl rfl) rfl (Pm vq195 rfl rfl ?_))))
 obtain ⟨hg207, h⟩ := grd_i h
 refine WL.f6 ?_
 have hx177 := hx177.mono hle194
 refine We (EO.append (dd := (Kd.int .u8)) (xs := x177) (ys := r190) Tryz.underlying23 Tryz.underlying23 in5 rfl (appB (by decide) hg207) (by decide) rfl rfl hx177 (hq195.src 1 rfl)) rfl ?_
 rintro v206 _ _ - ⟨rfl, c204, rfl, h205⟩
 refine WL.f4 (We (Es v206 [v206] h205.cells sz23 hs175_6 rfl (Ow h205) rfl rfl rfl) rfl ?_)
 rintro _ _ _ - ⟨rfl, rfl⟩
 refine Wz (Bn (Tc (Cg (Pu (Iv (IntKind.i64.wrap (x176 + 1))) (PO.add hs175_88 rfl) rfl (Pm (Iv (IntKind.i64.wrap (x176 + 1))) rfl rfl (Wz (Qb (Dr (Qb (Dr (Qa ?_)))))))))))
 exact WQ.f4 (WQ.f4 (WQ.f3 (WQ.f4 (WQ.again (IntKind.i64.wrap (x176 + 1), x177 ++ r190) (oi h).symm ⟨v206, c204, (hle175.trans hle194), rfl, hs175_1, hs175_2, hs175_6, hs175_86, hs175_87, rfl, h205⟩))))
 have h := ite_f hb181 h
 refine WC.exit (WQ.thenE (WQ.leaveE (Sum.inl x177) (oi h).symm (fun heq175 => ?_)))
 subst heq175
 have h := elimL hK175
 exact WQ.blockH (WQ.thenFE h ⟨vx177, cx177, hle175, rfl, hs175_1, hs175_2, hs175_6, hx177⟩)
 rintro x173 ρ174 M174 H174 rfl ⟨vx173, cx173, hle174, rfl, hs174_1, hs174_2, hs174_6, hx173⟩
 have h := (Sum.elim_inl _ _ _).symm.trans h
 refine Cs (Sr (Pu vx173 (Lb 1 pl23 hs174_6 rfl rfl) rfl (Pu (Iv (x173.length : Int)) (PO.lenS Tryz.underlying23 rfl hx173.len) rfl (Pu (Bv (decide ((16384 : Int) < (x173.length : Int)))) (PO.gtr rfl rfl) rfl (Nt (Cd (b := decide ((16384 : Int) < (x173.length : Int))) rfl (fun hb209 => ?_) (fun hb209 => ?_)))))))
 have h := ite_t hb209 h
 refine Sr (Pu (.agg #[(Iv 0), Zs]) (Bl (cl := [(Iv 0), Zs]) ze29 fp29 Pz rfl) rfl (Pu vx173 (Lb 1 pl23 hs174_6 rfl rfl) rfl (Pu (Iv (x173.length : Int)) (PO.lenS Tryz.underlying23 rfl hx173.len) rfl ?_)))
 obtain ⟨r210, hr211, h⟩ := bnd h
 refine We (Ca co30 (f_fault_New_ok ⟨#[109, 101, 115, 115, 97, 103, 101]⟩ (x173.length : Int) (6 : Int) _ r210 hr211) (args3 rfl rfl rfl)) rfl ?_
 rintro _ M212 _ hle213 ⟨_, ⟨rfl, rfl⟩, rfl⟩
 refine WL.a0 (Wb (We (Sg (v := (.agg #[(Iv 0), Zs])) (vl := [(Iv 0), Zs]) (arr' := [(Iv 0), Zs]) rfl sz29 hs174_2 rfl (onb rfl) rfl rfl rfl) rfl ?_))
 rintro _ _ _ - ⟨rfl, rfl⟩
 refine Pa (GV r210) rfl rfl (Nt (Cr (Tr (WQ.e0 (Qb (Dr (Qb (Dr (Qb (Dr (Qb ?_)))))))))))
 exact Dr (Qa (Rd h [[]] (fun _ hs => hs.drop) (resultsLN rfl (RVs.cons (Rc (cs := [(Iv 0), Zs]) 0 ag29 sz29 hs174_2 rfl rfl) (RVs.cons (RV.tmp rfl) RVs.nil))) (((((((((((((((hle26.trans hle33).trans hle38).trans hle94).trans hle102).trans hle112).trans hle119).trans hle126).trans hle133).trans hle140).trans hle147).trans hle154).trans hle159).trans hle169).trans hle174).trans hle213) ⟨Zs, [], rfl, rfl, (OwnS.nil _ _)⟩))
 have h := ite_f hb209 h
 refine Ck (Tc (Sr (Pu (pt g21 0) (Fa fo25_0 hs174_1 rfl) rfl (Pu (Iv a0.Kind) (Lb 3 pl3 rfl rfl rfl) rfl (Pu vx173 (Lb 1 pl23 hs174_6 rfl rfl) rfl (Pu (.agg #[(Iv a0.Kind), vx173]) (Bl (cl := [(Iv a0.Kind), vx173]) ze29 fp29 (Pc (Iv a0.Kind) rfl rfl (Parts.cons ((congrArg Value.cells (show ev _ _ = vx173 from rfl)).trans hx173.cells) Pz)) rfl) rfl (Wb (We (Sg (v := (.agg #[(Iv a0.Kind), vx173])) (vl := [(Iv a0.Kind), vx173]) (arr' := [(Iv a0.Kind), vx173]) rfl sz29 hs174_2 rfl (onesOf (Oc rfl (Oc (Ow hx173) Oz))) rfl rfl rfl) rfl ?_))))))))
 rintro _ _ _ - ⟨rfl, rfl⟩
 exact Pa (GV GErr.nil) rfl rfl (Nt (Cr (Qa (Dr (Qa (Dr (Qa (Dr (Rd h [cx173] (fun _ hs => hs.drop) (resultsLN rfl (RVs.cons (Rc (cs := [(Iv a0.Kind), vx173]) 0 ag29 sz29 hs174_2 rfl rfl) (RVs.cons (RV.tmp rfl) RVs.nil))) ((((((((((((((hle26.trans hle33).trans hle38).trans hle94).trans hle102).trans hle112).trans hle119).trans hle126).trans hle133).trans hle140).trans hle147).trans hle154).trans hle159).trans hle169).trans hle174) ⟨vx173, cx173, rfl, rfl, hx173⟩)))))))))

noncomputable def f_wire_Read (a0 : (List Int)) : Option T_wire_Reader :=
  (some (⟨a0, (0 : Int), GErr.nil⟩ : T_wire_Reader))
def f_wire_Read_post (a0 : (List Int)) (v0 : Value) : T_wire_Reader → Value → IM → HL → Prop :=
  fun (r0 : T_wire_Reader) (v : Value) (M' : IM) (H' : HL) => ∃ b0 vq0_0, (.pointer (some ⟨b0, 0, none⟩)) = v ∧ H' = [[(b0, .cells #[vq0_0, (.int .i64 r0.at_), (GV r0.err)] 110 (0, 0))]] ∧ RS (Kd.int .u8) M' vq0_0 r0.b
theorem f_wire_Read_ok (a0 : (List Int)) (M : IM) (v0 : Value) (h0 : RS (Kd.int .u8) M v0 a0) (res : T_wire_Reader) (h : f_wire_Read a0 = some res) :
    Tri Tryz.prog 31 #[v0] M [] (f_wire_Read_post a0 v0 res) := by
 unfold f_wire_Read at h
 refine Te Tryz.func31 rfl rfl ?_
 intro F ρ hρ
 refine Sr (Pa (.pointer none) rfl rfl (Ns (Pm v0 (hρ 0) rfl (Pu (.agg #[v0, (Iv 0), (GV GErr.nil)]) (Bl (cl := [v0, (Iv 0), (GV GErr.nil)]) ze110 fp110 (Parts.cons ((congrArg Value.cells (show ev _ _ = v0 from rfl)).trans h0.cells) Pz) rfl) rfl (We (EO.box (cs := #[v0, (Iv 0), (GV GErr.nil)]) (congrArg Value.cells (show ev _ _ = (.agg #[v0, (Iv 0), (GV GErr.nil)]) from rfl))) rfl ?_)))))
 rintro _ _ _ - ⟨rfl, g21, rfl, rfl⟩
 exact Pa (pt g21 0) rfl rfl (Nt (Cr (Rf h [[(g21, .cells #[v0, (Iv 0), (GV GErr.nil)] 110 (0, 0))]] rfl (Rs rfl rfl) lr ⟨g21, v0, rfl, rfl, h0⟩)))


end Go.Proofs.YtkflneabcannnaaGreatDoor.G
