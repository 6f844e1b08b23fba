/- Go functions: what they come to, and that they do. Printed by a program of the session (gen). -/
import Derived.Test.YtkflneabcannnaaGreatDoorOF
import Derived.Test.YtkflneabcannnaaGreatDoorO0
import Derived.Test.YtkflneabcannnaaGreatDoorO1
import Derived.Test.YtkflneabcannnaaGreatDoorO2
import Derived.Test.YtkflneabcannnaaGreatDoorO3
import Derived.Test.YtkflneabcannnaaGreatDoorKConv
import Derived.Test.YtkflneabcannnaaGreatDoorKShar2
import Derived.Test.YtkflneabcannnaaGreatDoorKFld
import Derived.Test.YtkflneabcannnaaGreatDoorKTight2
set_option linter.unusedVariables false
set_option linter.unusedSimpArgs false
set_option maxHeartbeats 8000000
set_option maxRecDepth 100000
namespace Go.Proofs.YtkflneabcannnaaGreatDoor.G
open Go Go.KK

noncomputable def f_rpc_Put_l0 (a0 : T_api_Rpc) (s_ : (Int × (List Int))) : Option ((Int × (List Int)) ⊕ ((List Int) ⊕ (GErr × (List Int)))) :=
  match s_ with
  | (x176, x177) =>
    (if (decide (x176 < (a0.Batches.length : Int))) = true then (grd (0 ≤ x176 ∧ x176 < a0.Batches.length) ((f_batch_Put (rd a0.Batches x176)).bind fun (r190, r191) => (if (!r191.isNil) = true then ((f_fault_Wrap (⟨#[98, 97, 116, 99, 104]⟩ : ByteArray) x176 r191).bind fun r198 => (some (Sum.inr (Sum.inr (r198, x177))))) else (grd (x177.length + r190.length ≤ 274877906944) (some (Sum.inl (IntKind.i64.wrap (x176 + (1 : Int)), x177 ++ r190))))))) else (some (Sum.inr (Sum.inl x177))))
noncomputable def f_rpc_Put (a0 : T_api_Rpc) : Option (T_api_Frame × GErr) :=
  ((f_rpc_Check a0).bind fun r23 => (if (!r23.isNil) = true then (some ((⟨(0 : Int), []⟩ : T_api_Frame), r23)) else ((f_rpc_about a0.Kind).bind fun r30 => ((((f_wire_Int [] a0.From).bind fun r41 => ((f_wire_Int r41 a0.To).bind fun r47 => ((f_wire_Int r47 a0.Term).bind fun r53 => (some r53)))) : Option (List Int)).bind fun x37 => (((if (decide ((andI .i64 r30 (1 : Int)) ≠ (0 : Int))) = true then ((f_wire_Flag x37 a0.Pre).bind fun r96 => (some r96)) else (some x37)) : Option (List Int)).bind fun x93 => (((if (decide ((andI .i64 r30 (2 : Int)) ≠ (0 : Int))) = true then ((f_wire_Flag x93 a0.Ok).bind fun r104 => (some r104)) else (some x93)) : Option (List Int)).bind fun x101 => ((f_rpc_Put_1 (4 : Int) a0.Leader r30 x101).bind fun r109 => ((f_rpc_Put_1 (8 : Int) a0.At r30 r109).bind fun r116 => ((f_rpc_Put_1 (8 : Int) a0.AtTerm r30 r116).bind fun r123 => ((f_rpc_Put_1 (16 : Int) a0.High r30 r123).bind fun r130 => ((f_rpc_Put_1 (32 : Int) a0.Code r30 r130).bind fun r137 => ((f_rpc_Put_1 (128 : Int) a0.Size r30 r137).bind fun r144 => ((f_rpc_Put_1 (256 : Int) a0.Pos r30 r144).bind fun r151 => (((if (decide (a0.Kind = (8 : Int))) = true then ((f_wire_Text r151 a0.Data).bind fun r161 => (some r161)) else (some r151)) : Option (List Int)).bind fun x158 => ((f_rpc_Put_1 (64 : Int) (a0.Batches.length : Int) r30 x158).bind fun r166 => ((((iter (f_rpc_Put_l0 a0) ((0 : Int), r166)).bind (Sum.elim (fun (x178 : (List Int)) => (some (Sum.inl x178))) (fun (x179, x180) => (((some ((⟨(0 : Int), []⟩ : T_api_Frame), x179))).bind fun r => some (Sum.inr r))))) : Option ((List Int) ⊕ (T_api_Frame × GErr))).bind (Sum.elim (fun (x173 : (List Int)) => (if (decide ((16384 : Int) < (x173.length : Int))) = true then ((f_fault_New (⟨#[109, 101, 115, 115, 97, 103, 101]⟩ : ByteArray) (x173.length : Int) (6 : Int)).bind fun r210 => (some ((⟨(0 : Int), []⟩ : T_api_Frame), r210))) else (some ((⟨a0.Kind, x173⟩ : T_api_Frame), GErr.nil)))) some)))))))))))))))))
def f_rpc_Put_post (a0 : T_api_Rpc) (v0_11 v0_14 : Value) : (T_api_Frame × GErr) → Value → IM → HL → Prop :=
  fun (p_ : (T_api_Frame × GErr)) (v : Value) (M' : IM) (H' : HL) => match p_ with | (r0, r1) => ∃ vz0_1 cz0_1, (.tuple #[(.agg #[(.int .i64 r0.Kind), vz0_1]), (GV r1)]) = v ∧ H' = [cz0_1] ∧ OwnS (Kd.int .u8) M' vz0_1 r0.Body cz0_1
theorem f_rpc_Put_ok (a0 : T_api_Rpc) (M : IM) (v0_11 v0_14 : Value) (h0_11 : RS kd_api_Batch M v0_11 a0.Batches) (h0_14 : RS (Kd.int .u8) M v0_14 a0.Data) (res : (T_api_Frame × GErr)) (h : f_rpc_Put a0 = some res) :
    Tri Tryz.prog 10 #[(a25_ a0 v0_11 v0_14)] M [] (f_rpc_Put_post a0 v0_11 v0_14 res) := by
 unfold f_rpc_Put at h
 refine Te Tryz.func10 rfl rfl ?_
 intro F ρ hρ
 refine Sr (We (EO.box (cs := (l25 a0 v0_11 v0_14).toArray) (congrArg Value.cells (asE (a25_ a0 v0_11 v0_14) (hρ 0)))) rfl ?_)
 rintro _ _ _ - ⟨rfl, g21, rfl, rfl⟩
 refine We (Al ze29 rfl) rfl ?_
 rintro _ _ _ - ⟨rfl, g22, rfl, rfl⟩
 refine qa (GV GErr.nil) (Nt (Cs (Sr (qu (a25_ a0 v0_11 v0_14) (La (cs := (l25 a0 v0_11 v0_14)) 1 ag25 sz25 rfl rfl rfl) ?_))))
 obtain ⟨r23, hr24, h⟩ := bnd h
 refine We (Ca co16 (f_rpc_Check_ok a0 _ _ _ h0_11 h0_14 r23 hr24) (args1 rfl)) rfl ?_
 rintro _ M25 _ hle26 ⟨_, ⟨rfl, rfl⟩, rfl⟩
 refine WL.a0 (qa (GV r23) (Ns (qm (GV r23) (qu (Bv (!r23.isNil)) (PO.errNotNil Tryz.underlying31 rfl) (Nt (Cd (b := !r23.isNil) rfl (fun hb28 => ?_) (fun hb28 => ?_)))))))
 have h := ite_t hb28 h
 refine Sr (qu (.agg #[(Iv 0), Zs]) (Bl (cl := [(Iv 0), Zs]) ze29 fp29 Pz rfl) (qm (GV r23) (We (Sg (v := (.agg #[(Iv 0), Zs])) (vl := [(Iv 0), Zs]) (arr' := [(Iv 0), Zs]) rfl sz29 rfl rfl (onb rfl) rfl rfl rfl) rfl ?_)))
 rintro _ _ _ - ⟨rfl, rfl⟩
 exact qa (GV r23) (Nt (Cr (Tr (WQ.e0 (Qb (Dr (Qa (Rd h [[]] (fun _ hs => hs.drop) (resultsLN rfl (RVs.cons (Rc (cs := [(Iv 0), Zs]) 0 ag29 sz29 rfl rfl rfl) (RVs.cons (RV.tmp rfl) RVs.nil))) hle26 ⟨Zs, [], rfl, rfl, (OwnS.nil _ _)⟩))))))))
 have h := ite_f hb28 h
 refine Ck (Tc (Sr (qu (pt g21 0) (Fa fo25_0 rfl rfl) (qu (Iv a0.Kind) (Lb 1 pl3 rfl rfl rfl) ?_))))
 obtain ⟨r30, hr31, h⟩ := bnd h
 refine We (Ca co23 (f_rpc_about_ok a0.Kind _ r30 hr31) (args1 rfl)) rfl ?_
 rintro _ M32 _ hle33 ⟨_, ⟨rfl, rfl⟩, rfl⟩
 refine WL.a0 (We (Al ze3 rfl) rfl ?_)
 rintro _ _ _ - ⟨rfl, g35, rfl, rfl⟩
 refine We (Es (Iv r30) [(Iv r30)] rfl sz3 rfl rfl rfl rfl rfl rfl) rfl ?_
 rintro _ _ _ - ⟨rfl, rfl⟩
 refine Nt ?_
 obtain ⟨x37, hj38, h⟩ := bnd h
 refine Jf (fun (x37 : (List Int)) ρ' M' H' => ∃ g36 vx37 cx37, M32.le M' ∧ [(g35, .cells #[(Iv r30)] 3 (0, 0))] :: [(g22, .cells #[(Iv 0), Zs] 29 (0, 0))] :: [(g21, .cells (l25 a0 v0_11 v0_14).toArray 25 (0, 0))] :: [(g36, .cells #[vx37] 23 (0, 0))] :: cx37 :: F = H' ∧ ρ' 1 = (pt g21 0) ∧ ρ' 2 = (pt g22 0) ∧ ρ' 5 = (pt g35 0) ∧ ρ' 6 = (pt g36 0) ∧ OwnS (Kd.int .u8) M' vx37 x37 cx37) x37 ?_ ?_
 have h := hj38
 refine WC.draw [0, 1, 3, 0, 8, 31, 0, 64, 255, 0, 1023] (.pure 0 (.pure 1 (.pure 3 (.pure 4 (.pure 6 (.pure 7 (.alt 2 (.alt 5 (.alt 8 (.alt 9 (.alt 10 .done .none) .none) (.alt 9 (.alt 8 (.alt 10 .done .none) .none) .none)) (.alt 9 (.alt 5 (.alt 8 (.alt 10 .done .none) .none) .none) .none)) (.alt 9 (.alt 2 (.alt 5 (.alt 8 (.alt 10 .done .none) .none) .none) .none) .none)))))))) mixed (by kernel_rfl) (qt (pt g21 1) rfl (Fa fo25_1 rfl rfl) (qt (Iv a0.From) rfl (Lb 2 pl3 rfl rfl rfl) (qt (pt g21 2) rfl (Fa fo25_2 rfl rfl) (qt (Iv a0.To) rfl (Lb 2 pl3 rfl rfl rfl) (qt (pt g21 3) rfl (Fa fo25_3 rfl rfl) (qt (Iv a0.Term) rfl (Lb 2 pl3 rfl rfl rfl) ?_))))))
 have hk39 := h
 obtain ⟨r41, hr42, h⟩ := bnd h
 refine WT.e0 (Ta rfl (Cb co24 (f_wire_Int_ok [] a0.From _ _ _ (OwnS.nil _ _) r41 hr42) (args2 rfl rfl)) rfl ?_ ?_)
 rintro _ M43 _ hle44 ⟨_, ⟨vq45, cq45, rfl, rfl, hq45⟩, rfl⟩
 refine ⟨(Ss rfl (Lb 3 pl3 rfl rfl rfl) rfl (Ss rfl (Fa fo25_3 rfl rfl) rfl (Ss rfl (Lb 3 pl3 rfl rfl rfl) rfl (Ss rfl (Fa fo25_2 rfl rfl) rfl (Sl rfl))))), ?_⟩
 refine WT.a1 ?_
 have hk46 := h
 obtain ⟨r47, hr48, h⟩ := bnd h
 refine Ta rfl (Cb co24 (f_wire_Int_ok r41 a0.To _ _ _ hq45 r47 hr48) (args2 rfl rfl)) rfl ?_ ?_
 rintro _ M49 _ hle50 ⟨_, ⟨vq51, cq51, rfl, rfl, hq51⟩, rfl⟩
 refine ⟨(Ss rfl (Lb 3 pl3 rfl rfl rfl) rfl (Ss rfl (Fa fo25_3 rfl rfl) rfl (Sl rfl))), ?_⟩
 refine WT.a1 ?_
 have hk52 := h
 obtain ⟨r53, hr54, h⟩ := bnd h
 refine Ta rfl (Cb co24 (f_wire_Int_ok r47 a0.Term _ _ _ hq51 r53 hr54) (args2 rfl rfl)) rfl ?_ ?_
 rintro _ M55 _ hle56 ⟨_, ⟨vq57, cq57, rfl, rfl, hq57⟩, rfl⟩
 refine ⟨(Sl rfl), ?_⟩
 refine WT.a1 (Ta rfl (Al ze23 rfl) rfl ?_ ?_)
 rintro _ _ _ - ⟨rfl, g58, rfl, rfl⟩
 refine ⟨(Ss rfl (Lb 4 pl3 rfl rfl rfl) rfl (Ss rfl (Fa fo25_3 rfl rfl) rfl (Ss rfl (Lb 4 pl3 rfl rfl rfl) rfl (Ss rfl (Fa fo25_2 rfl rfl) rfl (Ss rfl (Lb 4 pl3 rfl rfl rfl) rfl (Ss rfl (Fa fo25_1 rfl rfl) rfl trivial)))))), ?_⟩
 refine Ta rfl (Es vq57 [vq57] hq57.cells sz23 rfl rfl (Ow hq57) rfl rfl rfl) rfl ?_ ?_
 rintro _ _ _ - ⟨rfl, rfl⟩
 refine ⟨(Sl rfl), ?_⟩
 refine Ti (Qa (Qa (WQ.f4 (WQ.f4 (WQ.f4 ?_)))))
 obtain rfl := oi h
 exact Tj ⟨g58, vq57, cq57, ((hle44.trans hle50).trans hle56), rfl, rfl, rfl, rfl, rfl, hq57⟩
 exact Tz
 exact Tz
 have h := hk52
 refine Ta rfl (Al ze23 rfl) rfl ?_ ?_
 rintro _ _ _ - ⟨rfl, g59, rfl, rfl⟩
 refine ⟨(Ss rfl (Lb 4 pl3 rfl rfl rfl) rfl (Ss rfl (Fa fo25_3 rfl rfl) rfl (Ss rfl (Lb 4 pl3 rfl rfl rfl) rfl (Ss rfl (Fa fo25_2 rfl rfl) rfl (Ss rfl (Lb 4 pl3 rfl rfl rfl) rfl (Ss rfl (Fa fo25_1 rfl rfl) rfl trivial)))))), ?_⟩
 obtain ⟨r60, hr61, h⟩ := bnd h
 refine WT.f1 (Ta rfl (Cb co24 (f_wire_Int_ok r47 a0.Term _ _ _ hq51 r60 hr61) (args2 rfl rfl)) rfl ?_ ?_)
 rintro _ M62 _ hle63 ⟨_, ⟨vq64, cq64, rfl, rfl, hq64⟩, rfl⟩
 refine ⟨(Sl rfl), ?_⟩
 refine WT.a1 (WT.f1 (Ta rfl (Es vq64 [vq64] hq64.cells sz23 rfl rfl (Ow hq64) rfl rfl rfl) rfl ?_ ?_))
 rintro _ _ _ - ⟨rfl, rfl⟩
 refine ⟨(Sl rfl), ?_⟩
 refine Ti (Qa (Qa (WQ.f4 (WQ.f4 (WQ.f4 ?_)))))
 obtain rfl := oi h
 exact Tj ⟨g59, vq64, cq64, ((hle44.trans hle50).trans hle63), rfl, rfl, rfl, rfl, rfl, hq64⟩
 exact Tz
 exact Tz
 exact Tz
 have h := hk46
 refine Ta rfl (Al ze23 rfl) rfl ?_ ?_
 rintro _ _ _ - ⟨rfl, g65, rfl, rfl⟩
 refine ⟨(Ss rfl (Lb 4 pl3 rfl rfl rfl) rfl (Ss rfl (Fa fo25_3 rfl rfl) rfl (Ss rfl (Lb 4 pl3 rfl rfl rfl) rfl (Ss rfl (Fa fo25_2 rfl rfl) rfl (Ss rfl (Lb 4 pl3 rfl rfl rfl) rfl (Ss rfl (Fa fo25_1 rfl rfl) rfl trivial)))))), ?_⟩
 obtain ⟨r66, hr67, h⟩ := bnd h
 refine WT.f1 (Ta rfl (Cb co24 (f_wire_Int_ok r41 a0.To _ _ _ hq45 r66 hr67) (args2 rfl rfl)) rfl ?_ ?_)
 rintro _ M68 _ hle69 ⟨_, ⟨vq70, cq70, rfl, rfl, hq70⟩, rfl⟩
 refine ⟨(Ss rfl (Lb 4 pl3 rfl rfl rfl) rfl (Ss rfl (Fa fo25_3 rfl rfl) rfl (Sl rfl))), ?_⟩
 refine WT.a1 ?_
 obtain ⟨r71, hr72, h⟩ := bnd h
 refine Ta rfl (Cb co24 (f_wire_Int_ok r66 a0.Term _ _ _ hq70 r71 hr72) (args2 rfl rfl)) rfl ?_ ?_
 rintro _ M73 _ hle74 ⟨_, ⟨vq75, cq75, rfl, rfl, hq75⟩, rfl⟩
 refine ⟨(Sl rfl), ?_⟩
 refine WT.a1 (WT.f1 (Ta rfl (Es vq75 [vq75] hq75.cells sz23 rfl rfl (Ow hq75) rfl rfl rfl) rfl ?_ ?_))
 rintro _ _ _ - ⟨rfl, rfl⟩
 refine ⟨(Sl rfl), ?_⟩
 refine Ti (Qa (Qa (WQ.f4 (WQ.f4 (WQ.f4 ?_)))))
 obtain rfl := oi h
 exact Tj ⟨g65, vq75, cq75, ((hle44.trans hle69).trans hle74), rfl, rfl, rfl, rfl, rfl, hq75⟩
 exact Tz
 exact Tz
 exact Tz
 exact Tz
 have h := hk39
 refine Ta rfl (Al ze23 rfl) rfl ?_ ?_
 rintro _ _ _ - ⟨rfl, g76, rfl, rfl⟩
 refine ⟨(Ss rfl (Lb 4 pl3 rfl rfl rfl) rfl (Ss rfl (Fa fo25_3 rfl rfl) rfl (Ss rfl (Lb 4 pl3 rfl rfl rfl) rfl (Ss rfl (Fa fo25_2 rfl rfl) rfl (Ss rfl (Lb 4 pl3 rfl rfl rfl) rfl (Ss rfl (Fa fo25_1 rfl rfl) rfl trivial)))))), ?_⟩
 obtain ⟨r78, hr79, h⟩ := bnd h
 refine WT.e0 (Ta rfl (Cb co24 (f_wire_Int_ok [] a0.From _ _ _ (OwnS.nil _ _) r78 hr79) (args2 rfl rfl)) rfl ?_ ?_)
 rintro _ M80 _ hle81 ⟨_, ⟨vq82, cq82, rfl, rfl, hq82⟩, rfl⟩
 refine ⟨(Ss rfl (Lb 5 pl3 rfl rfl rfl) rfl (Ss rfl (Fa fo25_3 rfl rfl) rfl (Ss rfl (Lb 5 pl3 rfl rfl rfl) rfl (Ss rfl (Fa fo25_2 rfl rfl) rfl (Sl rfl))))), ?_⟩
 refine WT.a1 ?_
 obtain ⟨r83, hr84, h⟩ := bnd h
 refine Ta rfl (Cb co24 (f_wire_Int_ok r78 a0.To _ _ _ hq82 r83 hr84) (args2 rfl rfl)) rfl ?_ ?_
 rintro _ M85 _ hle86 ⟨_, ⟨vq87, cq87, rfl, rfl, hq87⟩, rfl⟩
 refine ⟨(Ss rfl (Lb 5 pl3 rfl rfl rfl) rfl (Ss rfl (Fa fo25_3 rfl rfl) rfl (Sl rfl))), ?_⟩
 refine WT.a1 ?_
 obtain ⟨r88, hr89, h⟩ := bnd h
 refine Ta rfl (Cb co24 (f_wire_Int_ok r83 a0.Term _ _ _ hq87 r88 hr89) (args2 rfl rfl)) rfl ?_ ?_
 rintro _ M90 _ hle91 ⟨_, ⟨vq92, cq92, rfl, rfl, hq92⟩, rfl⟩
 refine ⟨(Sl rfl), ?_⟩
 refine WT.a1 (WT.f1 (Ta rfl (Es vq92 [vq92] hq92.cells sz23 rfl rfl (Ow hq92) rfl rfl rfl) rfl ?_ ?_))
 rintro _ _ _ - ⟨rfl, rfl⟩
 refine ⟨(Sl rfl), ?_⟩
 refine Ti (Qb (Dr (Qa (Qa (WQ.f4 (WQ.f4 (WQ.f4 ?_)))))))
 obtain rfl := oi h
 exact Tj ⟨g76, vq92, cq92, ((hle81.trans hle86).trans hle91), rfl, rfl, rfl, rfl, rfl, hq92⟩
 exact Tz
 exact Tz
 exact Tz
 exact Tz
 exact Tz
 rintro ρ38 M38 H38 ⟨g36, vx37, cx37, hle38, rfl, hs38_1, hs38_2, hs38_5, hs38_6, hx37⟩
 have L38 := (hle26.trans hle33).trans hle38
 refine Sr (qu (.func (.func 25) #[] #[(pt g35 0), (pt g36 0)]) (PO.makeFunc2 (args0) (args2 (asE (Value.pointer (some ⟨g35, 0, none⟩)) hs38_5) (asE (Value.pointer (some ⟨g36, 0, none⟩)) hs38_6))) (qa (.func (.func 25) #[] #[(pt g35 0), (pt g36 0)]) (Nt ?_)))
 obtain ⟨x93, hj94, h⟩ := bnd h
 refine Jf (fun (x93 : (List Int)) ρ' M' H' => ∃ vx93 cx93, M38.le M' ∧ [(g35, .cells #[(Iv r30)] 3 (0, 0))] :: [(g22, .cells #[(Iv 0), Zs] 29 (0, 0))] :: [(g21, .cells (l25 a0 v0_11 v0_14).toArray 25 (0, 0))] :: [(g36, .cells #[vx93] 23 (0, 0))] :: cx93 :: F = H' ∧ ρ' 1 = (pt g21 0) ∧ ρ' 2 = (pt g22 0) ∧ ρ' 5 = (pt g35 0) ∧ ρ' 6 = (pt g36 0) ∧ ρ' 7 = (.func (.func 25) #[] #[(pt g35 0), (pt g36 0)]) ∧ OwnS (Kd.int .u8) M' vx93 x93 cx93) x93 ?_ ?_
 have h := hj94
 refine Sr (qu (Iv r30) (Lb 0 pl3 hs38_5 rfl rfl) (qu (Iv (andI .i64 r30 (1 : Int))) (PO.and rfl rfl) (qu (Bv (decide ((andI .i64 r30 (1 : Int)) ≠ 0))) (PO.neq rfl rfl) (Nt (Cd (b := decide ((andI .i64 r30 (1 : Int)) ≠ 0)) rfl (fun hb95 => ?_) (fun hb95 => ?_))))))
 have h := ite_t hb95 h
 refine Cg (qu vx37 (Lb 3 pl23 hs38_6 rfl rfl) (qu (pt g21 4) (Fa fo25_4 hs38_1 rfl) (qu (Bv a0.Pre) (Lb 2 pl4 rfl rfl rfl) ?_)))
 obtain ⟨r96, hr97, h⟩ := bnd h
 refine WL.f4 (We (Cb co26 (f_wire_Flag_ok x37 a0.Pre _ _ _ hx37 r96 hr97) (args2 rfl rfl)) rfl ?_)
 rintro _ M98 _ hle99 ⟨_, ⟨vq100, cq100, rfl, rfl, hq100⟩, rfl⟩
 refine WL.a1 (WL.f4 (We (Es vq100 [vq100] hq100.cells sz23 hs38_6 rfl (Ow hq100) rfl rfl rfl) rfl ?_))
 rintro _ _ _ - ⟨rfl, rfl⟩
 refine Wz (Qa (Qa (WQ.f4 (WQ.f4 (WQ.f4 ?_)))))
 obtain rfl := oi h
 exact Tj ⟨vq100, cq100, hle99, rfl, hs38_1, hs38_2, hs38_5, hs38_6, rfl, hq100⟩
 have h := ite_f hb95 h
 refine Ck ?_
 obtain rfl := oi h
 exact Tj ⟨vx37, cx37, lr, rfl, hs38_1, hs38_2, hs38_5, hs38_6, rfl, hx37⟩
 rintro ρ94 M94 H94 ⟨vx93, cx93, hle94, rfl, hs94_1, hs94_2, hs94_5, hs94_6, hs94_7, hx93⟩
 have L94 := L38.trans hle94
 obtain ⟨x101, hj102, h⟩ := bnd h
 refine Jf (fun (x101 : (List Int)) ρ' M' H' => ∃ vx101 cx101, M94.le M' ∧ [(g35, .cells #[(Iv r30)] 3 (0, 0))] :: [(g22, .cells #[(Iv 0), Zs] 29 (0, 0))] :: [(g21, .cells (l25 a0 v0_11 v0_14).toArray 25 (0, 0))] :: [(g36, .cells #[vx101] 23 (0, 0))] :: cx101 :: F = H' ∧ ρ' 1 = (pt g21 0) ∧ ρ' 2 = (pt g22 0) ∧ ρ' 6 = (pt g36 0) ∧ ρ' 7 = (.func (.func 25) #[] #[(pt g35 0), (pt g36 0)]) ∧ OwnS (Kd.int .u8) M' vx101 x101 cx101) x101 ?_ ?_
 have h := hj102
 refine Sr (qu (Iv r30) (Lb 0 pl3 hs94_5 rfl rfl) (qu (Iv (andI .i64 r30 (2 : Int))) (PO.and rfl rfl) (qu (Bv (decide ((andI .i64 r30 (2 : Int)) ≠ 0))) (PO.neq rfl rfl) (Nt (Cd (b := decide ((andI .i64 r30 (2 : Int)) ≠ 0)) rfl (fun hb103 => ?_) (fun hb103 => ?_))))))
 have h := ite_t hb103 h
 refine Cg (qu vx93 (Lb 3 pl23 hs94_6 rfl rfl) (qu (pt g21 5) (Fa fo25_5 hs94_1 rfl) (qu (Bv a0.Ok) (Lb 2 pl4 rfl rfl rfl) ?_)))
 obtain ⟨r104, hr105, h⟩ := bnd h
 refine WL.f4 (We (Cb co26 (f_wire_Flag_ok x93 a0.Ok _ _ _ hx93 r104 hr105) (args2 rfl rfl)) rfl ?_)
 rintro _ M106 _ hle107 ⟨_, ⟨vq108, cq108, rfl, rfl, hq108⟩, rfl⟩
 refine WL.a1 (WL.f4 (We (Es vq108 [vq108] hq108.cells sz23 hs94_6 rfl (Ow hq108) rfl rfl rfl) rfl ?_))
 rintro _ _ _ - ⟨rfl, rfl⟩
 refine Wz (Qa (Qa (WQ.f4 (WQ.f4 (WQ.f4 ?_)))))
 obtain rfl := oi h
 exact Tj ⟨vq108, cq108, hle107, rfl, hs94_1, hs94_2, hs94_6, hs94_7, hq108⟩
 have h := ite_f hb103 h
 refine Ck ?_
 obtain rfl := oi h
 exact Tj ⟨vx93, cx93, lr, rfl, hs94_1, hs94_2, hs94_6, hs94_7, hx93⟩
 rintro ρ102 M102 H102 ⟨vx101, cx101, hle102, rfl, hs102_1, hs102_2, hs102_6, hs102_7, hx101⟩
 have L102 := L94.trans hle102
 refine Sr (qM (.func (.func 25) #[] #[(pt g35 0), (pt g36 0)]) hs102_7 (qu (pt g21 6) (Fa fo25_6 hs102_1 rfl) (qu (Iv a0.Leader) (Lb 2 pl3 rfl rfl rfl) ?_)))
 obtain ⟨r109, hr110, h⟩ := bnd h
 refine WL.f4 (WL.f4 (Wb (We (EO.callV3 (first := #[]) (cap := #[(pt g35 0), (pt g36 0)]) co25 rfl (f_rpc_Put_1_ok (4 : Int) a0.Leader r30 x101 _ _ _ _ _ hx101 r109 hr110) (argsV2 rfl rfl rfl)) rfl ?_)))
 rintro _ M111 _ hle112 ⟨_, ⟨v113, c115, rfl, rfl, h114⟩, rfl⟩
 have L112 := L102.trans hle112
 refine WL.a3 (Ns (qM (.func (.func 25) #[] #[(pt g35 0), (pt g36 0)]) hs102_7 (qu (pt g21 7) (Fa fo25_7 hs102_1 rfl) (qu (Iv a0.At) (Lb 4 pl3 rfl rfl rfl) ?_))))
 obtain ⟨r116, hr117, h⟩ := bnd h
 refine Wb (Wb (Wb (We (EO.callV3 (first := #[]) (cap := #[(pt g35 0), (pt g36 0)]) co25 rfl (f_rpc_Put_1_ok (8 : Int) a0.At r30 r109 _ _ _ _ _ h114 r116 hr117) (argsV2 rfl rfl rfl)) rfl ?_)))
 rintro _ M118 _ hle119 ⟨_, ⟨v120, c122, rfl, rfl, h121⟩, rfl⟩
 have L119 := L112.trans hle119
 refine WL.a3 (Ns (qM (.func (.func 25) #[] #[(pt g35 0), (pt g36 0)]) hs102_7 (qu (pt g21 8) (Fa fo25_8 hs102_1 rfl) (qu (Iv a0.AtTerm) (Lb 4 pl3 rfl rfl rfl) ?_))))
 obtain ⟨r123, hr124, h⟩ := bnd h
 refine Wb (Wb (Wb (We (EO.callV3 (first := #[]) (cap := #[(pt g35 0), (pt g36 0)]) co25 rfl (f_rpc_Put_1_ok (8 : Int) a0.AtTerm r30 r116 _ _ _ _ _ h121 r123 hr124) (argsV2 rfl rfl rfl)) rfl ?_)))
 rintro _ M125 _ hle126 ⟨_, ⟨v127, c129, rfl, rfl, h128⟩, rfl⟩
 have L126 := L119.trans hle126
 refine WL.a3 (Ns (qM (.func (.func 25) #[] #[(pt g35 0), (pt g36 0)]) hs102_7 (qu (pt g21 9) (Fa fo25_9 hs102_1 rfl) (qu (Iv a0.High) (Lb 4 pl3 rfl rfl rfl) ?_))))
 obtain ⟨r130, hr131, h⟩ := bnd h
 refine Wb (Wb (Wb (We (EO.callV3 (first := #[]) (cap := #[(pt g35 0), (pt g36 0)]) co25 rfl (f_rpc_Put_1_ok (16 : Int) a0.High r30 r123 _ _ _ _ _ h128 r130 hr131) (argsV2 rfl rfl rfl)) rfl ?_)))
 rintro _ M132 _ hle133 ⟨_, ⟨v134, c136, rfl, rfl, h135⟩, rfl⟩
 have L133 := L126.trans hle133
 refine WL.a3 (Ns (qM (.func (.func 25) #[] #[(pt g35 0), (pt g36 0)]) hs102_7 (qu (pt g21 10) (Fa fo25_10 hs102_1 rfl) (qu (Iv a0.Code) (Lb 4 pl3 rfl rfl rfl) ?_))))
 obtain ⟨r137, hr138, h⟩ := bnd h
 refine Wb (Wb (Wb (We (EO.callV3 (first := #[]) (cap := #[(pt g35 0), (pt g36 0)]) co25 rfl (f_rpc_Put_1_ok (32 : Int) a0.Code r30 r130 _ _ _ _ _ h135 r137 hr138) (argsV2 rfl rfl rfl)) rfl ?_)))
 rintro _ M139 _ hle140 ⟨_, ⟨v141, c143, rfl, rfl, h142⟩, rfl⟩
 have L140 := L133.trans hle140
 refine WL.a3 (Ns (qM (.func (.func 25) #[] #[(pt g35 0), (pt g36 0)]) hs102_7 (qu (pt g21 12) (Fa fo25_12 hs102_1 rfl) (qu (Iv a0.Size) (Lb 4 pl3 rfl rfl rfl) ?_))))
 obtain ⟨r144, hr145, h⟩ := bnd h
 refine Wb (Wb (Wb (We (EO.callV3 (first := #[]) (cap := #[(pt g35 0), (pt g36 0)]) co25 rfl (f_rpc_Put_1_ok (128 : Int) a0.Size r30 r137 _ _ _ _ _ h142 r144 hr145) (argsV2 rfl rfl rfl)) rfl ?_)))
 rintro _ M146 _ hle147 ⟨_, ⟨v148, c150, rfl, rfl, h149⟩, rfl⟩
 have L147 := L140.trans hle147
 refine WL.a3 (Ns (qM (.func (.func 25) #[] #[(pt g35 0), (pt g36 0)]) hs102_7 (qu (pt g21 13) (Fa fo25_13 hs102_1 rfl) (qu (Iv a0.Pos) (Lb 4 pl3 rfl rfl rfl) ?_))))
 obtain ⟨r151, hr152, h⟩ := bnd h
 refine Wb (Wb (Wb (We (EO.callV3 (first := #[]) (cap := #[(pt g35 0), (pt g36 0)]) co25 rfl (f_rpc_Put_1_ok (256 : Int) a0.Pos r30 r144 _ _ _ _ _ h149 r151 hr152) (argsV2 rfl rfl rfl)) rfl ?_)))
 rintro _ M153 _ hle154 ⟨_, ⟨v155, c157, rfl, rfl, h156⟩, rfl⟩
 have L154 := L147.trans hle154
 refine WL.a3 (Nt ?_)
 obtain ⟨x158, hj159, h⟩ := bnd h
 refine Jf (fun (x158 : (List Int)) ρ' M' H' => ∃ vx158 cx158, M153.le M' ∧ [(g35, .cells #[(Iv r30)] 3 (0, 0))] :: [(g36, .cells #[vx158] 23 (0, 0))] :: [(g22, .cells #[(Iv 0), Zs] 29 (0, 0))] :: [(g21, .cells (l25 a0 v0_11 v0_14).toArray 25 (0, 0))] :: cx158 :: F = H' ∧ ρ' 1 = (pt g21 0) ∧ ρ' 2 = (pt g22 0) ∧ ρ' 6 = (pt g36 0) ∧ ρ' 7 = (.func (.func 25) #[] #[(pt g35 0), (pt g36 0)]) ∧ OwnS (Kd.int .u8) M' vx158 x158 cx158) x158 ?_ ?_
 have h := hj159
 refine Sr (qu (pt g21 0) (Fa fo25_0 hs102_1 rfl) (qu (Iv a0.Kind) (Lb 4 pl3 rfl rfl rfl) (qu (Bv (decide (a0.Kind = 8))) (PO.eql rfl rfl) (Nt (Cd (b := decide (a0.Kind = 8)) rfl (fun hb160 => ?_) (fun hb160 => ?_))))))
 have h := ite_t hb160 h
 refine Cg (qu v155 (Lb 1 pl23 hs102_6 rfl rfl) (qu (pt g21 14) (Fa fo25_14 hs102_1 rfl) (qu v0_14 (Lb 4 pl23 rfl rfl rfl) ?_)))
 obtain ⟨r161, hr162, h⟩ := bnd h
 refine Wb ?_
 have h0_14 := h0_14.mono L154
 refine We (Cb co27 (f_wire_Text_ok r151 a0.Data _ _ _ _ h156 h0_14 r161 hr162) (args2 rfl rfl)) rfl ?_
 rintro _ M163 _ hle164 ⟨_, ⟨vq165, cq165, rfl, rfl, hq165⟩, rfl⟩
 refine WL.a1 (Wb (We (Es vq165 [vq165] hq165.cells sz23 hs102_6 rfl (Ow hq165) rfl rfl rfl) rfl ?_))
 rintro _ _ _ - ⟨rfl, rfl⟩
 refine Wz (Qa (WQ.f4 (WQ.f4 (WQ.f3 (WQ.f4 ?_)))))
 obtain rfl := oi h
 exact Tj ⟨vq165, cq165, hle164, rfl, hs102_1, hs102_2, hs102_6, hs102_7, hq165⟩
 have h := ite_f hb160 h
 refine Ck (Qb (WQ.f4 (WQ.f4 (WQ.f4 (WQ.f4 ?_)))))
 obtain rfl := oi h
 exact Tj ⟨v155, c157, lr, rfl, hs102_1, hs102_2, hs102_6, hs102_7, h156⟩
 rintro ρ159 M159 H159 ⟨vx158, cx158, hle159, rfl, hs159_1, hs159_2, hs159_6, hs159_7, hx158⟩
 have L159 := L154.trans hle159
 refine Sr (qM (.func (.func 25) #[] #[(pt g35 0), (pt g36 0)]) hs159_7 (qu (pt g21 11) (Fa fo25_11 hs159_1 rfl) (qu v0_11 (Lb 3 pl22 rfl rfl rfl) ?_)))
 have h0_11 := h0_11.mono L159
 refine qu (Iv (a0.Batches.length : Int)) (PO.lenS Tryz.underlying22 rfl h0_11.len) ?_
 obtain ⟨r166, hr167, h⟩ := bnd h
 refine WL.f4 (Wb (Wb (We (EO.callV3 (first := #[]) (cap := #[(pt g35 0), (pt g36 0)]) co25 rfl (f_rpc_Put_1_ok (64 : Int) (a0.Batches.length : Int) r30 x158 _ _ _ _ _ hx158 r166 hr167) (argsV2 rfl rfl rfl)) rfl ?_)))
 rintro _ M168 _ hle169 ⟨_, ⟨v170, c172, rfl, rfl, h171⟩, rfl⟩
 have L169 := L159.trans hle169
 refine WL.a3 (Nt ?_)
 obtain ⟨j174, hj174, h⟩ := bnd h
 refine WC.joinE (fun (x173 : (List Int)) ρ' M' H' => ∃ vx173 cx173, M168.le M' ∧ [(g35, .cells #[(Iv r30)] 3 (0, 0))] :: [(g36, .cells #[vx173] 23 (0, 0))] :: [(g22, .cells #[(Iv 0), Zs] 29 (0, 0))] :: [(g21, .cells (l25 a0 v0_11 v0_14).toArray 25 (0, 0))] :: cx173 :: F = H' ∧ ρ' 1 = (pt g21 0) ∧ ρ' 2 = (pt g22 0) ∧ ρ' 6 = (pt g36 0) ∧ OwnS (Kd.int .u8) M' vx173 x173 cx173) j174 ?_ ?_
 have h3174 := h
 have h := hj174
 refine Sr (qu (pt g21 11) (Fa fo25_11 hs159_1 rfl) (qu v0_11 (Lb 4 pl22 rfl rfl rfl) ?_))
 have h0_11 := h0_11.mono hle169
 refine qu (Iv (a0.Batches.length : Int)) (PO.lenS Tryz.underlying22 rfl h0_11.len) (qm (Iv 0) (Nt (Bk (WC.f2 (WC.f4 (WC.f4 (WC.f4 (WC.f4 ?_))))))))
 obtain ⟨e175, he175, hK175⟩ := bnd h
 clear h
 refine WC.loop he175 (fun (p_ : (Int × (List Int))) ρ' M' H' => match p_ with | (x176, x177) => ∃ vx177 cx177, M168.le M' ∧ [(g35, .cells #[(Iv r30)] 3 (0, 0))] :: [(g36, .cells #[vx177] 23 (0, 0))] :: [(g22, .cells #[(Iv 0), Zs] 29 (0, 0))] :: [(g21, .cells (l25 a0 v0_11 v0_14).toArray 25 (0, 0))] :: cx177 :: F = H' ∧ ρ' 1 = (pt g21 0) ∧ ρ' 2 = (pt g22 0) ∧ ρ' 6 = (pt g36 0) ∧ ρ' 86 = v0_11 ∧ ρ' 87 = (Iv (a0.Batches.length : Int)) ∧ ρ' 88 = (Iv x176) ∧ OwnS (Kd.int .u8) M' vx177 x177 cx177) ?_ ?_
 exact ⟨v170, c172, lr, rfl, hs159_1, hs159_2, hs159_6, rfl, rfl, rfl, h171⟩
 rintro ⟨x176, x177⟩ o175 ρ175 M175 H175 h ⟨vx177, cx177, hle175, rfl, hs175_1, hs175_2, hs175_6, hs175_86, hs175_87, hs175_88, hx177⟩
 unfold f_rpc_Put_l0 at h
 refine Sr (qu (Bv (decide (x176 < (a0.Batches.length : Int)))) (PO.lss hs175_88 hs175_87) (Nt (Cs (Cd (b := decide (x176 < (a0.Batches.length : Int))) rfl (fun hb181 => ?_) (fun hb181 => ?_)))))
 have h := ite_t hb181 h
 refine Ck (Tc (Cs (Bk (Sr (qM (Iv x176) hs175_88 ?_)))))
 obtain ⟨hg182, h⟩ := grd_i h
 have h0_11 := h0_11.mono hle175
 obtain ⟨p183, cs184, hat185, hrc186, hhas187⟩ := h0_11.at hg182.1 hg182.2 (by decide)
 obtain ⟨vw188_2, rfl, hw188_2⟩ := kd_api_Batch_open hrc186
 refine qu (.pointer (some p183)) (PO.indexAddr (n := a0.Batches.length) Tryz.underlying22 sz55 hs175_86 hs175_88 hg182.1 hg182.2 hat185) (qu (a55_ (rd a0.Batches x176) vw188_2) (PO.loadMA (cs := (l55 (rd a0.Batches x176) vw188_2)) ag55 sz55 rfl hhas187) (We (Al ze55 rfl) rfl ?_))
 rintro _ _ _ - ⟨rfl, g189, rfl, rfl⟩
 refine qa (Iv x176) (We (Sg (v := (a55_ (rd a0.Batches x176) vw188_2)) (vl := (l55 (rd a0.Batches x176) vw188_2)) (arr' := (l55 (rd a0.Batches x176) vw188_2)) rfl sz55 rfl rfl (onesOf (Oc rfl (Oc rfl (Oc (RS.one hw188_2) Oz)))) rfl rfl rfl) rfl ?_)
 rintro _ _ _ - ⟨rfl, rfl⟩
 refine Ns (qu (a55_ (rd a0.Batches x176) vw188_2) (La (cs := (l55 (rd a0.Batches x176) vw188_2)) 0 ag55 sz55 rfl rfl rfl) ?_)
 obtain ⟨⟨r190, r191⟩, hr192, h⟩ := bnd h
 refine We (Ca co28 (f_batch_Put_ok (rd a0.Batches x176) _ _ hw188_2 (r190, r191) hr192) (args1 rfl)) rfl ?_
 rintro _ M193 _ hle194 ⟨_, ⟨vq195, cq195, rfl, rfl, hq195⟩, rfl⟩
 refine WL.a1 (qm (.tuple #[vq195, (GV r191)]) (qu vq195 (Xt rfl rfl) (qu (GV r191) (Xt rfl rfl) (qa vq195 (qa (GV r191) (Nt (Cs (Sr (qm (GV r191) (qu (Bv (!r191.isNil)) (PO.errNotNil Tryz.underlying31 rfl) (Nt ?_)))))))))))
 refine Cd (b := !r191.isNil) rfl (fun hb197 => ?_) (fun hb197 => ?_)
 have h := ite_t hb197 h
 refine Sr (qu (.agg #[(Iv 0), Zs]) (Bl (cl := [(Iv 0), Zs]) ze29 fp29 Pz rfl) (qm (Iv x176) (qm (GV r191) ?_)))
 obtain ⟨r198, hr199, h⟩ := bnd h
 refine We (Ca co29 (f_fault_Wrap_ok ⟨#[98, 97, 116, 99, 104]⟩ x176 r191 _ r198 hr199) (args3 rfl rfl rfl)) rfl ?_
 rintro _ M200 _ hle201 ⟨_, ⟨rfl, rfl⟩, rfl⟩
 refine WL.a0 (WL.f4 (We (Sg (v := (.agg #[(Iv 0), Zs])) (vl := [(Iv 0), Zs]) (arr' := [(Iv 0), Zs]) rfl sz29 hs175_2 rfl (onb rfl) rfl rfl rfl) rfl ?_))
 rintro _ _ _ - ⟨rfl, rfl⟩
 refine qa (GV r198) (Nt (Cr (Tr (Br (Tr (WQ.leaveR (Sum.inr (r198, x177)) (oi h).symm (fun heq175 => ?_)))))))
 subst heq175
 have h := (elimR hK175)
 refine Br (Tr ?_)
 have h := KK.early h h3174
 refine WQ.e0 (Qb (Dr (Qb (Dr (Qb (Dr (Qb (Dr (Qb (Dr (Qb ?_)))))))))))
 exact Dr (Qa (Rd h [[]] (fun _ hs => hs.drop) (resultsLN rfl (RVs.cons (Rc (cs := [(Iv 0), Zs]) 0 ag29 sz29 hs175_2 rfl rfl) (RVs.cons (RV.tmp rfl) RVs.nil))) (((L169.trans hle175).trans hle194).trans hle201) ⟨Zs, [], rfl, rfl, (OwnS.nil _ _)⟩))
 have h := ite_f hb197 h
 refine Ck (Tc (Cg (qu vx177 (Lb 3 pl23 hs175_6 rfl rfl) (qm vq195 ?_))))
 obtain ⟨hg207, h⟩ := grd_i h
 refine WL.f6 ?_
 have hx177 := hx177.mono hle194
 refine We (EO.append (dd := (Kd.int .u8)) (xs := x177) (ys := r190) Tryz.underlying23 Tryz.underlying23 in5 rfl (appB (by decide) hg207) (by decide) rfl rfl hx177 (hq195.src 1 rfl)) rfl ?_
 rintro v206 _ _ - ⟨rfl, c204, rfl, h205⟩
 refine WL.f4 (We (Es v206 [v206] h205.cells sz23 hs175_6 rfl (Ow h205) rfl rfl rfl) rfl ?_)
 rintro _ _ _ - ⟨rfl, rfl⟩
 refine Wz (Bn (Tc (Cg (qu (Iv (IntKind.i64.wrap (x176 + 1))) (PO.add hs175_88 rfl) (qm (Iv (IntKind.i64.wrap (x176 + 1))) (Wz (Qb (Dr (Qb (Dr (Qa ?_)))))))))))
 exact WQ.f4 (WQ.f4 (WQ.f3 (WQ.f4 (WQ.again (IntKind.i64.wrap (x176 + 1), x177 ++ r190) (oi h).symm ⟨v206, c204, (hle175.trans hle194), rfl, hs175_1, hs175_2, hs175_6, hs175_86, hs175_87, rfl, h205⟩))))
 have h := ite_f hb181 h
 refine WC.exit (WQ.thenE (WQ.leaveE (Sum.inl x177) (oi h).symm (fun heq175 => ?_)))
 subst heq175
 have h := elimL hK175
 exact WQ.blockH (WQ.thenFE h ⟨vx177, cx177, hle175, rfl, hs175_1, hs175_2, hs175_6, hx177⟩)
 rintro x173 ρ174 M174 H174 rfl ⟨vx173, cx173, hle174, rfl, hs174_1, hs174_2, hs174_6, hx173⟩
 have h := (Sum.elim_inl _ _ _).symm.trans h
 refine Cs (Sr (qu vx173 (Lb 1 pl23 hs174_6 rfl rfl) (qu (Iv (x173.length : Int)) (PO.lenS Tryz.underlying23 rfl hx173.len) (qu (Bv (decide ((16384 : Int) < (x173.length : Int)))) (PO.gtr rfl rfl) (Nt (Cd (b := decide ((16384 : Int) < (x173.length : Int))) rfl (fun hb209 => ?_) (fun hb209 => ?_)))))))
 have h := ite_t hb209 h
 refine Sr (qu (.agg #[(Iv 0), Zs]) (Bl (cl := [(Iv 0), Zs]) ze29 fp29 Pz rfl) (qu vx173 (Lb 1 pl23 hs174_6 rfl rfl) (qu (Iv (x173.length : Int)) (PO.lenS Tryz.underlying23 rfl hx173.len) ?_)))
 obtain ⟨r210, hr211, h⟩ := bnd h
 refine We (Ca co30 (f_fault_New_ok ⟨#[109, 101, 115, 115, 97, 103, 101]⟩ (x173.length : Int) (6 : Int) _ r210 hr211) (args3 rfl rfl rfl)) rfl ?_
 rintro _ M212 _ hle213 ⟨_, ⟨rfl, rfl⟩, rfl⟩
 refine WL.a0 (Wb (We (Sg (v := (.agg #[(Iv 0), Zs])) (vl := [(Iv 0), Zs]) (arr' := [(Iv 0), Zs]) rfl sz29 hs174_2 rfl (onb rfl) rfl rfl rfl) rfl ?_))
 rintro _ _ _ - ⟨rfl, rfl⟩
 refine qa (GV r210) (Nt (Cr (Tr (WQ.e0 (Qb (Dr (Qb (Dr (Qb (Dr (Qb ?_)))))))))))
 exact Dr (Qa (Rd h [[]] (fun _ hs => hs.drop) (resultsLN rfl (RVs.cons (Rc (cs := [(Iv 0), Zs]) 0 ag29 sz29 hs174_2 rfl rfl) (RVs.cons (RV.tmp rfl) RVs.nil))) ((L169.trans hle174).trans hle213) ⟨Zs, [], rfl, rfl, (OwnS.nil _ _)⟩))
 have h := ite_f hb209 h
 refine Ck (Tc (Sr (qu (pt g21 0) (Fa fo25_0 hs174_1 rfl) (qu (Iv a0.Kind) (Lb 3 pl3 rfl rfl rfl) (qu vx173 (Lb 1 pl23 hs174_6 rfl rfl) (qu (.agg #[(Iv a0.Kind), vx173]) (Bl (cl := [(Iv a0.Kind), vx173]) ze29 fp29 (Pc (Iv a0.Kind) rfl rfl (Parts.cons ((congrArg Value.cells (show ev _ _ = vx173 from rfl)).trans hx173.cells) Pz)) rfl) (Wb (We (Sg (v := (.agg #[(Iv a0.Kind), vx173])) (vl := [(Iv a0.Kind), vx173]) (arr' := [(Iv a0.Kind), vx173]) rfl sz29 hs174_2 rfl (onesOf (Oc rfl (Oc (Ow hx173) Oz))) rfl rfl rfl) rfl ?_))))))))
 rintro _ _ _ - ⟨rfl, rfl⟩
 exact qa (GV GErr.nil) (Nt (Cr (Qa (Dr (Qa (Dr (Qa (Dr (Rd h [cx173] (fun _ hs => hs.drop) (resultsLN rfl (RVs.cons (Rc (cs := [(Iv a0.Kind), vx173]) 0 ag29 sz29 hs174_2 rfl rfl) (RVs.cons (RV.tmp rfl) RVs.nil))) (L169.trans hle174) ⟨vx173, cx173, rfl, rfl, hx173⟩)))))))))

noncomputable def f_wire_Read (a0 : (List Int)) : Option T_wire_Reader :=
  (some (⟨a0, (0 : Int), GErr.nil⟩ : T_wire_Reader))
def f_wire_Read_post (a0 : (List Int)) (v0 : Value) : T_wire_Reader → Value → IM → HL → Prop :=
  fun (r0 : T_wire_Reader) (v : Value) (M' : IM) (H' : HL) => ∃ b0 vq0_0, (.pointer (some ⟨b0, 0, none⟩)) = v ∧ H' = [[(b0, .cells #[vq0_0, (.int .i64 r0.at_), (GV r0.err)] 110 (0, 0))]] ∧ RS (Kd.int .u8) M' vq0_0 r0.b
theorem f_wire_Read_ok (a0 : (List Int)) (M : IM) (v0 : Value) (h0 : RS (Kd.int .u8) M v0 a0) (res : T_wire_Reader) (h : f_wire_Read a0 = some res) :
    Tri Tryz.prog 31 #[v0] M [] (f_wire_Read_post a0 v0 res) := by
 unfold f_wire_Read at h
 refine Te Tryz.func31 rfl rfl ?_
 intro F ρ hρ
 refine Sr (qa (.pointer none) (Ns (qM v0 (hρ 0) (qu (.agg #[v0, (Iv 0), (GV GErr.nil)]) (Bl (cl := [v0, (Iv 0), (GV GErr.nil)]) ze110 fp110 (Parts.cons ((congrArg Value.cells (show ev _ _ = v0 from rfl)).trans h0.cells) Pz) rfl) (We (EO.box (cs := #[v0, (Iv 0), (GV GErr.nil)]) (congrArg Value.cells (show ev _ _ = (.agg #[v0, (Iv 0), (GV GErr.nil)]) from rfl))) rfl ?_)))))
 rintro _ _ _ - ⟨rfl, g21, rfl, rfl⟩
 exact qa (pt g21 0) (Nt (Cr (Rf h [[(g21, .cells #[v0, (Iv 0), (GV GErr.nil)] 110 (0, 0))]] rfl (Rs rfl rfl) lr ⟨g21, v0, rfl, rfl, h0⟩)))

noncomputable def f_wire_Reader_fail (a0 : T_wire_Reader) (a1 : ByteArray) (a2 : Int) (a3 : Int) : Option GErr :=
  (if a0.err.isNil = true then ((f_fault_New a1 a2 a3).bind fun r22 => (some r22)) else (some a0.err))
def f_wire_Reader_fail_post (a0 : T_wire_Reader) (a1 : ByteArray) (a2 : Int) (a3 : Int) (v0_0 : Value) (g0 : Nat) : GErr → Value → IM → HL → Prop :=
  fun (r0 : GErr) (v : Value) (M' : IM) (H' : HL) => (.tuple #[]) = v ∧ H' = [[(g0, .cells #[v0_0, (.int .i64 a0.at_), (GV r0)] 110 (0, 0))]]
theorem f_wire_Reader_fail_ok (a0 : T_wire_Reader) (a1 : ByteArray) (a2 : Int) (a3 : Int) (M : IM) (v0_0 : Value) (g0 : Nat) (h0_0 : RS (Kd.int .u8) M v0_0 a0.b) (res : GErr) (h : f_wire_Reader_fail a0 a1 a2 a3 = some res) :
    Tri Tryz.prog 69 #[(pt g0 0), (Sv a1), (Iv a2), (Iv a3)] M [[(g0, .cells #[v0_0, (Iv a0.at_), (GV a0.err)] 110 (0, 0))]] (f_wire_Reader_fail_post a0 a1 a2 a3 v0_0 g0 res) := by
 unfold f_wire_Reader_fail at h
 refine Te Tryz.func69 rfl rfl ?_
 intro F ρ hρ
 refine Sr (qM (pt g0 0) (hρ 0) (qu (pt g0 0) (Nk rfl) (qu (pt g0 2) (Fa fo110_2 rfl rfl) (qu (GV a0.err) (Lb 0 pl31 rfl rfl rfl) (qu (Bv a0.err.isNil) (PO.errNil Tryz.underlying31 rfl) (Nt (Cd (b := a0.err.isNil) rfl (fun hb21 => ?_) (fun hb21 => ?_))))))))
 have h := ite_t hb21 h
 refine Cg (qM (pt g0 0) (hρ 0) (qM (Sv a1) (hρ 1) (qM (Iv a2) (hρ 2) (qM (Iv a3) (hρ 3) ?_))))
 obtain ⟨r22, hr23, h⟩ := bnd h
 refine We (Ca co30 (f_fault_New_ok a1 a2 a3 _ r22 hr23) (args3 rfl rfl rfl)) rfl ?_
 rintro _ M24 _ hle25 ⟨_, ⟨rfl, rfl⟩, rfl⟩
 refine WL.a0 (qu (pt g0 0) (Nk rfl) (qu (pt g0 2) (Fa fo110_2 rfl rfl) (We (Es (GV r22) [v0_0, (Iv a0.at_), (GV r22)] (GErr.val_cells _ _ _ _) sz31 rfl rfl (GErr.val_one _ _ _ _) rfl rfl rfl) rfl ?_)))
 rintro _ _ _ - ⟨rfl, rfl⟩
 exact Wz (WQ.endsF h [[(g0, .cells #[v0_0, (Iv a0.at_), (GV r22)] 110 (0, 0))]] rfl (results0 rfl) hle25 ⟨rfl, rfl⟩)
 have h := ite_f hb21 h
 exact Ck (WQ.endsF h [[(g0, .cells #[v0_0, (Iv a0.at_), (GV a0.err)] 110 (0, 0))]] rfl (results0 rfl) lr ⟨rfl, rfl⟩)

noncomputable def f_wire_Reader_Num_1 (a0 : Int) (a1 : (List Int)) (a2 : Int) : Option (Int × Int) :=
  (grd (0 ≤ a2 ∧ a2 < a1.length) (some (orI .u64 (shlI .u64 a0 (8 : Int)) (IntKind.u64.wrap (rd a1 a2)), IntKind.i64.wrap (a2 + (1 : Int)))))
def f_wire_Reader_Num_1_post (a0 : Int) (a1 : (List Int)) (a2 : Int) (v1 : Value) (g0 g1 g2 : Nat) : (Int × Int) → Value → IM → HL → Prop :=
  fun (p_ : (Int × Int)) (v : Value) (M' : IM) (H' : HL) => match p_ with | (r0, r1) => (.tuple #[]) = v ∧ H' = [[(g0, .cells #[(.int .u64 r0)] 105 (0, 0))], [(g1, .cells #[v1] 23 (0, 0))], [(g2, .cells #[(.int .i64 r1)] 3 (0, 0))]]
theorem f_wire_Reader_Num_1_ok (a0 : Int) (a1 : (List Int)) (a2 : Int) (M : IM) (v1 : Value) (g0 g1 g2 : Nat) (h1 : RS (Kd.int .u8) M v1 a1) (res : (Int × Int)) (h : f_wire_Reader_Num_1 a0 a1 a2 = some res) :
    Tri Tryz.prog 98 #[(pt g0 0), (pt g1 0), (pt g2 0)] M [[(g0, .cells #[(Uv a0)] 105 (0, 0))], [(g1, .cells #[v1] 23 (0, 0))], [(g2, .cells #[(Iv a2)] 3 (0, 0))]] (f_wire_Reader_Num_1_post a0 a1 a2 v1 g0 g1 g2 res) := by
 unfold f_wire_Reader_Num_1 at h
 refine Te Tryz.func98 rfl rfl ?_
 intro F ρ hρ
 refine Cs (WC.draw [0, 1, 0, 0, 12, 28, 60, 127, 255] (.pure 0 (.pure 1 (.pure 2 (.pure 3 (.pure 4 (.pure 5 (.pure 6 (.pure 7 (.alt 8 .done .none))))))))) mixed (by kernel_rfl) (qt (Uv a0) rfl (Lb 0 pl105 (hρ 0) rfl rfl) (qt (Uv (shlI .u64 a0 (8 : Int))) rfl (PO.shl rfl rfl (by decide)) (qt v1 rfl (Lb 1 pl23 (hρ 1) rfl rfl) (qt (Iv a2) rfl (Lb 2 pl3 (hρ 2) rfl rfl) ?_)))))
 obtain ⟨hg21, h⟩ := grd_i h
 obtain ⟨p22, cs23, hat24, hrc25, hhas26⟩ := h1.at hg21.1 hg21.2 (by decide)
 obtain rfl := hrc25
 refine qt (.pointer (some p22)) rfl (PO.indexAddr (n := a1.length) Tryz.underlying23 sz5 rfl rfl hg21.1 hg21.2 hat24) (qt (Yv (rd a1 a2)) rfl (PO.loadM pl5 rfl (IM.has0 hhas26)) (qt (Uv (IntKind.u64.wrap (rd a1 a2))) rfl (PO.conv us5 Tryz.underlying105 rfl) (qt (Uv (orI .u64 (shlI .u64 a0 (8 : Int)) (IntKind.u64.wrap (rd a1 a2)))) rfl (PO.or rfl rfl) (Ta rfl (Es (Uv (orI .u64 (shlI .u64 a0 (8 : Int)) (IntKind.u64.wrap (rd a1 a2)))) [(Uv (orI .u64 (shlI .u64 a0 (8 : Int)) (IntKind.u64.wrap (rd a1 a2))))] rfl sz105 (hρ 0) rfl rfl rfl rfl rfl) rfl ?_ ?_))))
 rintro _ _ _ - ⟨rfl, rfl⟩
 refine ⟨(Sl rfl), ?_⟩
 refine Ti (Tc (Cg (qu (Iv a2) (Lb 2 pl3 (hρ 2) rfl rfl) (qu (Iv (IntKind.i64.wrap (a2 + 1))) (PO.add rfl rfl) (Wb (We (Es (Iv (IntKind.i64.wrap (a2 + 1))) [(Iv (IntKind.i64.wrap (a2 + 1)))] rfl sz3 (hρ 2) rfl rfl rfl rfl rfl) rfl ?_))))))
 rintro _ _ _ - ⟨rfl, rfl⟩
 exact Wz (Qb (Qb (WQ.endsF h [[(g0, .cells #[(Uv (orI .u64 (shlI .u64 a0 (8 : Int)) (IntKind.u64.wrap (rd a1 a2))))] 105 (0, 0))], [(g1, .cells #[v1] 23 (0, 0))], [(g2, .cells #[(Iv (IntKind.i64.wrap (a2 + 1)))] 3 (0, 0))]] rfl (results0 rfl) lr ⟨rfl, rfl⟩)))
 exact Tz

noncomputable def f_wire_Reader_Num (a0 : T_wire_Reader) (a1 : Int) : Option (Int × Int × GErr) :=
  (if (!a0.err.isNil) = true then (some ((0 : Int), a0.at_, a0.err)) else (grd (0 ≤ a0.at_ ∧ a0.at_ ≤ (a0.b.length : Int) ∧ (a0.b.length : Int) ≤ (a0.b.length : Int)) (if (decide (((sub a0.b a0.at_ (a0.b.length : Int)).length : Int) = (0 : Int))) = true then ((f_wire_Reader_fail a0 (⟨#[110, 117, 109]⟩ : ByteArray) a0.at_ (3 : Int)).bind fun r26 => (some ((0 : Int), a0.at_, r26))) else (grd (0 ≤ (0 : Int) ∧ (0 : Int) < (sub a0.b a0.at_ (a0.b.length : Int)).length) (grd (0 ≤ shrI .u8 (rd (sub a0.b a0.at_ (a0.b.length : Int)) (0 : Int)) (6 : Int)) (if (decide (((sub a0.b a0.at_ (a0.b.length : Int)).length : Int) < (shlI .i64 (1 : Int) (shrI .u8 (rd (sub a0.b a0.at_ (a0.b.length : Int)) (0 : Int)) (6 : Int))))) = true then ((f_wire_Reader_fail a0 (⟨#[110, 117, 109]⟩ : ByteArray) a0.at_ (3 : Int)).bind fun r39 => (some ((0 : Int), a0.at_, r39))) else (grd (0 ≤ (0 : Int) ∧ (0 : Int) < (sub a0.b a0.at_ (a0.b.length : Int)).length) (((((((if (decide ((shlI .i64 (1 : Int) (shrI .u8 (rd (sub a0.b a0.at_ (a0.b.length : Int)) (0 : Int)) (6 : Int))) = (8 : Int))) = true then ((f_wire_Reader_Num_1 (IntKind.u64.wrap (andI .u8 (rd (sub a0.b a0.at_ (a0.b.length : Int)) (0 : Int)) (63 : Int))) (sub a0.b a0.at_ (a0.b.length : Int)) (1 : Int)).bind fun (r65, r66) => ((f_wire_Reader_Num_1 r65 (sub a0.b a0.at_ (a0.b.length : Int)) r66).bind fun (r70, r71) => ((f_wire_Reader_Num_1 r70 (sub a0.b a0.at_ (a0.b.length : Int)) r71).bind fun (r75, r76) => ((f_wire_Reader_Num_1 r75 (sub a0.b a0.at_ (a0.b.length : Int)) r76).bind fun (r80, r81) => (some (Sum.inl (IntKind.u64.wrap ((0 : Int) + (1073725440 : Int)), r81, r80))))))) else (if (decide ((shlI .i64 (1 : Int) (shrI .u8 (rd (sub a0.b a0.at_ (a0.b.length : Int)) (0 : Int)) (6 : Int))) = (4 : Int))) = true then (some (Sum.inl ((0 : Int), (1 : Int), IntKind.u64.wrap (andI .u8 (rd (sub a0.b a0.at_ (a0.b.length : Int)) (0 : Int)) (63 : Int))))) else (if (decide ((shlI .i64 (1 : Int) (shrI .u8 (rd (sub a0.b a0.at_ (a0.b.length : Int)) (0 : Int)) (6 : Int))) = (2 : Int))) = true then (((some (Sum.inl ((0 : Int), (1 : Int), IntKind.u64.wrap (andI .u8 (rd (sub a0.b a0.at_ (a0.b.length : Int)) (0 : Int)) (63 : Int)))))).bind fun r => some (Sum.inr r)) else (((((some ((0 : Int), (1 : Int), IntKind.u64.wrap (andI .u8 (rd (sub a0.b a0.at_ (a0.b.length : Int)) (0 : Int)) (63 : Int))))).bind fun r => some (Sum.inr r))).bind fun r => some (Sum.inr r))))) : Option ((Int × Int × Int) ⊕ ((Int × Int × Int) ⊕ (Int × Int × Int)))).bind (Sum.elim (fun (x60, x61, x62) => ((f_wire_Reader_Num_1 x62 (sub a0.b a0.at_ (a0.b.length : Int)) x61).bind fun (r87, r88) => ((f_wire_Reader_Num_1 r87 (sub a0.b a0.at_ (a0.b.length : Int)) r88).bind fun (r92, r93) => (some (Sum.inl (IntKind.u64.wrap (x60 + (16320 : Int)), r93, r92)))))) some)) : Option ((Int × Int × Int) ⊕ (Int × Int × Int))).bind (Sum.elim (fun (x56, x57, x58) => ((f_wire_Reader_Num_1 x58 (sub a0.b a0.at_ (a0.b.length : Int)) x57).bind fun (r97, r98) => (some (IntKind.u64.wrap (x56 + (64 : Int)), r98, r97)))) some)) : Option (Int × Int × Int)).bind fun (x52, x53, x54) => (if (decide (x54 < x52)) = true then ((f_wire_Reader_fail a0 (⟨#[110, 117, 109]⟩ : ByteArray) a0.at_ (5 : Int)).bind fun r103 => (some ((0 : Int), a0.at_, r103))) else (if (decide (a1 < x54)) = true then ((f_wire_Reader_fail a0 (⟨#[110, 117, 109]⟩ : ByteArray) a0.at_ (6 : Int)).bind fun r108 => (some ((0 : Int), a0.at_, r108))) else (some (x54, IntKind.i64.wrap (a0.at_ + (shlI .i64 (1 : Int) (shrI .u8 (rd (sub a0.b a0.at_ (a0.b.length : Int)) (0 : Int)) (6 : Int)))), a0.err))))))))))))
def f_wire_Reader_Num_post (a0 : T_wire_Reader) (a1 : Int) (v0_0 : Value) (g0 : Nat) : (Int × Int × GErr) → Value → IM → HL → Prop :=
  fun (p_ : (Int × Int × GErr)) (v : Value) (M' : IM) (H' : HL) => match p_ with | (r0, r1, r2) => (.int .u64 r0) = v ∧ H' = [[(g0, .cells #[v0_0, (.int .i64 r1), (GV r2)] 110 (0, 0))]]
theorem f_wire_Reader_Num_ok (a0 : T_wire_Reader) (a1 : Int) (M : IM) (v0_0 : Value) (g0 : Nat) (h0_0 : RS (Kd.int .u8) M v0_0 a0.b) (res : (Int × Int × GErr)) (h : f_wire_Reader_Num a0 a1 = some res) :
    Tri Tryz.prog 68 #[(pt g0 0), (Uv a1)] M [[(g0, .cells #[v0_0, (Iv a0.at_), (GV a0.err)] 110 (0, 0))]] (f_wire_Reader_Num_post a0 a1 v0_0 g0 res) := by
 unfold f_wire_Reader_Num at h
 refine Te Tryz.func68 rfl rfl ?_
 intro F ρ hρ
 refine Sr (qa (Uv 0) (Nt (Cs (Sr (qM (pt g0 0) (hρ 0) (qu (pt g0 0) (Nk rfl) (qu (pt g0 2) (Fa fo110_2 rfl rfl) (qu (GV a0.err) (Lb 0 pl31 rfl rfl rfl) (qu (Bv (!a0.err.isNil)) (PO.errNotNil Tryz.underlying31 rfl) (Nt (Cd (b := !a0.err.isNil) rfl (fun hb21 => ?_) (fun hb21 => ?_))))))))))))
 have h := ite_t hb21 h
 exact Sr (qa (Uv 0) (Nt (Cr (Tr (Rf h [[(g0, .cells #[v0_0, (Iv a0.at_), (GV a0.err)] 110 (0, 0))]] rfl (Rs rfl rfl) lr ⟨rfl, rfl⟩)))))
 have h := ite_f hb21 h
 refine Ck (Tc (Cs (WC.draw [0, 1, 3, 7, 0, 16, 48, 112, 255, 0, 1023] (.pure 0 (.pure 1 (.pure 2 (.pure 3 (.pure 4 (.pure 5 (.pure 6 (.pure 7 (.pure 8 (.alt 9 (.alt 10 .done .none) .none)))))))))) mixed (by kernel_rfl) (qt (pt g0 0) rfl (Mv (hρ 0)) (qt (pt g0 0) rfl (Nk rfl) (qt (pt g0 0) rfl (Fa fo110_0 rfl rfl) (qt v0_0 rfl (Lb 0 pl23 rfl rfl rfl) (qt (pt g0 0) rfl (Mv (hρ 0)) (qt (pt g0 0) rfl (Nk rfl) (qt (pt g0 1) rfl (Fa fo110_1 rfl rfl) (qt (Iv a0.at_) rfl (Lb 0 pl3 rfl rfl rfl) ?_)))))))))))
 obtain ⟨hg22, h⟩ := grd_i h
 have h23 := h0_0.sub hg22.1 hg22.2.1 hg22.2.2
 refine qt (slV v0_0 1 (a0.at_).toNat ((a0.b.length : Int)).toNat) rfl (PO.slice (n := a0.b.length) (l := (a0.at_).toNat) (h := ((a0.b.length : Int)).toNat) Tryz.underlying23 sz5 rfl h0_0.len h0_0.cap ⟨_, _, rfl, hg22.1, rfl⟩ (boundN_ rfl) (Int.toNat_le_toNat hg22.2.1) (toNat_le_len hg22.2.2)) (Ta rfl (Al ze23 rfl) rfl ?_ ?_)
 rintro _ _ _ - ⟨rfl, g24, rfl, rfl⟩
 refine ⟨(Ss rfl (PO.slice (n := a0.b.length) (l := (a0.at_).toNat) (h := ((a0.b.length : Int)).toNat) Tryz.underlying23 sz5 rfl h0_0.len h0_0.cap ⟨_, _, rfl, hg22.1, rfl⟩ (boundN_ rfl) (Int.toNat_le_toNat hg22.2.1) (toNat_le_len hg22.2.2)) rfl (Ss rfl (Lb 1 pl3 rfl rfl rfl) rfl (Ss rfl (Fa fo110_1 rfl rfl) rfl (Ss rfl (Nk rfl) rfl (Ss rfl (Mv (hρ 0)) rfl (Ss rfl (Lb 1 pl23 rfl rfl rfl) rfl (Ss rfl (Fa fo110_0 rfl rfl) rfl (Ss rfl (Nk rfl) rfl (Ss rfl (Mv (hρ 0)) rfl trivial))))))))), ?_⟩
 refine Ta rfl (Es (slV v0_0 1 (a0.at_).toNat ((a0.b.length : Int)).toNat) [(slV v0_0 1 (a0.at_).toNat ((a0.b.length : Int)).toNat)] h23.cells sz23 rfl rfl (RS.one h23) rfl rfl rfl) rfl ?_ ?_
 rintro _ _ _ - ⟨rfl, rfl⟩
 refine ⟨(Sl rfl), ?_⟩
 refine Ti (Tc (Cs (Sr (qu (slV v0_0 1 (a0.at_).toNat ((a0.b.length : Int)).toNat) (Lb 0 pl23 rfl rfl rfl) (qu (Iv ((sub a0.b a0.at_ (a0.b.length : Int)).length : Int)) (PO.lenS Tryz.underlying23 rfl h23.len) (qu (Bv (decide (((sub a0.b a0.at_ (a0.b.length : Int)).length : Int) = (0 : Int)))) (PO.eql rfl rfl) (Nt (Cd (b := decide (((sub a0.b a0.at_ (a0.b.length : Int)).length : Int) = (0 : Int))) rfl (fun hb25 => ?_) (fun hb25 => ?_)))))))))
 have h := ite_t hb25 h
 refine Sr (qM (pt g0 0) (hρ 0) (qM (pt g0 0) (hρ 0) (qu (pt g0 0) (Nk rfl) (qu (pt g0 1) (Fa fo110_1 rfl rfl) (qu (Iv a0.at_) (Lb 1 pl3 rfl rfl rfl) ?_)))))
 obtain ⟨r26, hr27, h⟩ := bnd h
 refine WL.f1 (We (Cb co69 (f_wire_Reader_fail_ok a0 (⟨#[110, 117, 109]⟩ : ByteArray) a0.at_ (3 : Int) _ _ _ h0_0 r26 hr27) (args4 rfl rfl rfl rfl)) rfl ?_)
 rintro _ M28 _ hle29 ⟨_, ⟨rfl, rfl⟩, rfl⟩
 exact WL.a1 (Ns (qa (Uv 0) (Nt (Cr (Tr (Qa (Dr (Rf h [[(g0, .cells #[v0_0, (Iv a0.at_), (GV r26)] 110 (0, 0))]] rfl (Rs rfl rfl) hle29 ⟨rfl, rfl⟩))))))))
 have h := ite_f hb25 h
 refine Ck (Tc (Sr (qu (slV v0_0 1 (a0.at_).toNat ((a0.b.length : Int)).toNat) (Lb 0 pl23 rfl rfl rfl) ?_)))
 obtain ⟨hg30, h⟩ := grd_i h
 obtain ⟨p31, cs32, hat33, hrc34, hhas35⟩ := h23.at hg30.1 hg30.2 (by decide)
 obtain rfl := hrc34
 refine qu (.pointer (some p31)) (PO.indexAddr (n := (sub a0.b a0.at_ (a0.b.length : Int)).length) Tryz.underlying23 sz5 rfl rfl hg30.1 hg30.2 hat33) (qu (Yv (rd (sub a0.b a0.at_ (a0.b.length : Int)) (0 : Int))) (PO.loadM pl5 rfl (IM.has0 hhas35)) (qu (Yv (shrI .u8 (rd (sub a0.b a0.at_ (a0.b.length : Int)) (0 : Int)) (6 : Int))) (PO.shr rfl rfl (by decide)) ?_))
 obtain ⟨hg37, h⟩ := grd_i h
 refine qu (Iv (shlI .i64 1 (shrI .u8 (rd (sub a0.b a0.at_ (a0.b.length : Int)) (0 : Int)) (6 : Int)))) (PO.shl rfl rfl hg37) (qa (Iv (shlI .i64 1 (shrI .u8 (rd (sub a0.b a0.at_ (a0.b.length : Int)) (0 : Int)) (6 : Int)))) (Nt (Cs (Sr (qu (slV v0_0 1 (a0.at_).toNat ((a0.b.length : Int)).toNat) (Lb 0 pl23 rfl rfl rfl) (qu (Iv ((sub a0.b a0.at_ (a0.b.length : Int)).length : Int)) (PO.lenS Tryz.underlying23 rfl h23.len) (qm (Iv (shlI .i64 1 (shrI .u8 (rd (sub a0.b a0.at_ (a0.b.length : Int)) (0 : Int)) (6 : Int)))) (qu (Bv (decide (((sub a0.b a0.at_ (a0.b.length : Int)).length : Int) < (shlI .i64 1 (shrI .u8 (rd (sub a0.b a0.at_ (a0.b.length : Int)) (0 : Int)) (6 : Int)))))) (PO.lss rfl rfl) (Nt (Cd (b := decide (((sub a0.b a0.at_ (a0.b.length : Int)).length : Int) < (shlI .i64 1 (shrI .u8 (rd (sub a0.b a0.at_ (a0.b.length : Int)) (0 : Int)) (6 : Int))))) rfl (fun hb38 => ?_) (fun hb38 => ?_)))))))))))
 have h := ite_t hb38 h
 refine Sr (qM (pt g0 0) (hρ 0) (qM (pt g0 0) (hρ 0) (qu (pt g0 0) (Nk rfl) (qu (pt g0 1) (Fa fo110_1 rfl rfl) (qu (Iv a0.at_) (Lb 1 pl3 rfl rfl rfl) ?_)))))
 obtain ⟨r39, hr40, h⟩ := bnd h
 refine WL.f1 (We (Cb co69 (f_wire_Reader_fail_ok a0 (⟨#[110, 117, 109]⟩ : ByteArray) a0.at_ (3 : Int) _ _ _ h0_0 r39 hr40) (args4 rfl rfl rfl rfl)) rfl ?_)
 rintro _ M41 _ hle42 ⟨_, ⟨rfl, rfl⟩, rfl⟩
 exact WL.a1 (Ns (qa (Uv 0) (Nt (Cr (Tr (Qa (Dr (Rf h [[(g0, .cells #[v0_0, (Iv a0.at_), (GV r39)] 110 (0, 0))]] rfl (Rs rfl rfl) hle42 ⟨rfl, rfl⟩))))))))
 have h := ite_f hb38 h
 refine Ck (Tc (Sr (qu (slV v0_0 1 (a0.at_).toNat ((a0.b.length : Int)).toNat) (Lb 0 pl23 rfl rfl rfl) ?_)))
 obtain ⟨hg43, h⟩ := grd_i h
 obtain ⟨p44, cs45, hat46, hrc47, hhas48⟩ := h23.at hg43.1 hg43.2 (by decide)
 obtain rfl := hrc47
 refine qu (.pointer (some p44)) (PO.indexAddr (n := (sub a0.b a0.at_ (a0.b.length : Int)).length) Tryz.underlying23 sz5 rfl rfl hg43.1 hg43.2 hat46) (qu (Yv (rd (sub a0.b a0.at_ (a0.b.length : Int)) (0 : Int))) (PO.loadM pl5 rfl (IM.has0 hhas48)) (qu (Yv (andI .u8 (rd (sub a0.b a0.at_ (a0.b.length : Int)) (0 : Int)) (63 : Int))) (PO.and rfl rfl) (qu (Uv (IntKind.u64.wrap (andI .u8 (rd (sub a0.b a0.at_ (a0.b.length : Int)) (0 : Int)) (63 : Int)))) (PO.conv us5 Tryz.underlying105 rfl) (We (Al ze105 rfl) rfl ?_))))
 rintro _ _ _ - ⟨rfl, g50, rfl, rfl⟩
 refine We (Al ze3 rfl) rfl ?_
 rintro _ _ _ - ⟨rfl, g51, rfl, rfl⟩
 refine WL.f1 (We (Es (Uv (IntKind.u64.wrap (andI .u8 (rd (sub a0.b a0.at_ (a0.b.length : Int)) (0 : Int)) (63 : Int)))) [(Uv (IntKind.u64.wrap (andI .u8 (rd (sub a0.b a0.at_ (a0.b.length : Int)) (0 : Int)) (63 : Int))))] rfl sz105 rfl rfl rfl rfl rfl rfl) rfl ?_)
 rintro _ _ _ - ⟨rfl, rfl⟩
 refine WL.f1 (We (Es (Iv 1) [(Iv 1)] rfl sz3 rfl rfl rfl rfl rfl rfl) rfl ?_)
 rintro _ _ _ - ⟨rfl, rfl⟩
 refine Ns (qu (.func (.func 98) #[] #[(pt g50 0), (pt g24 0), (pt g51 0)]) (PO.makeFunc2 (args0) (args3 (show ev _ _ = (pt g50 0) from rfl) (show ev _ _ = (pt g24 0) from rfl) (show ev _ _ = (pt g51 0) from rfl))) (qa (.func (.func 98) #[] #[(pt g50 0), (pt g24 0), (pt g51 0)]) (Ns (qa (Uv 0) (Nt ?_)))))
 obtain ⟨j55, hj55, h⟩ := bnd h
 refine Jf (fun (p_ : (Int × Int × Int)) ρ' M' H' => match p_ with | (x52, x53, x54) => M.le M' ∧ [(g51, .cells #[(Iv x53)] 3 (0, 0))] :: [(g50, .cells #[(Uv x54)] 105 (0, 0))] :: [(g24, .cells #[(slV v0_0 1 (a0.at_).toNat ((a0.b.length : Int)).toNat)] 23 (0, 0))] :: [(g0, .cells #[v0_0, (Iv a0.at_), (GV a0.err)] 110 (0, 0))] :: F = H' ∧ ρ' 0 = (pt g0 0) ∧ ρ' 1 = (Uv a1) ∧ ρ' 6 = (Iv (shlI .i64 1 (shrI .u8 (rd (sub a0.b a0.at_ (a0.b.length : Int)) (0 : Int)) (6 : Int)))) ∧ ρ' 7 = (pt g50 0) ∧ ρ' 10 = (Uv x52)) j55 ?_ ?_
 have h := hj55
 refine Sr (qm (Iv (shlI .i64 1 (shrI .u8 (rd (sub a0.b a0.at_ (a0.b.length : Int)) (0 : Int)) (6 : Int)))) (Nt (Bk ?_)))
 obtain ⟨j59, hj59, h⟩ := bnd h
 refine WC.joinE (fun (p_ : (Int × Int × Int)) ρ' M' H' => match p_ with | (x56, x57, x58) => M.le M' ∧ [(g51, .cells #[(Iv x57)] 3 (0, 0))] :: [(g50, .cells #[(Uv x58)] 105 (0, 0))] :: [(g24, .cells #[(slV v0_0 1 (a0.at_).toNat ((a0.b.length : Int)).toNat)] 23 (0, 0))] :: [(g0, .cells #[v0_0, (Iv a0.at_), (GV a0.err)] 110 (0, 0))] :: F = H' ∧ ρ' 0 = (pt g0 0) ∧ ρ' 1 = (Uv a1) ∧ ρ' 6 = (Iv (shlI .i64 1 (shrI .u8 (rd (sub a0.b a0.at_ (a0.b.length : Int)) (0 : Int)) (6 : Int)))) ∧ ρ' 7 = (pt g50 0) ∧ ρ' 9 = (.func (.func 98) #[] #[(pt g50 0), (pt g24 0), (pt g51 0)]) ∧ ρ' 10 = (Uv x56)) j59 ?_ ?_
 have h359 := h
 have h := hj59
 refine Bk ?_
 obtain ⟨j63, hj63, h⟩ := bnd h
 refine WC.joinE (fun (p_ : (Int × Int × Int)) ρ' M' H' => match p_ with | (x60, x61, x62) => M.le M' ∧ [(g51, .cells #[(Iv x61)] 3 (0, 0))] :: [(g50, .cells #[(Uv x62)] 105 (0, 0))] :: [(g24, .cells #[(slV v0_0 1 (a0.at_).toNat ((a0.b.length : Int)).toNat)] 23 (0, 0))] :: [(g0, .cells #[v0_0, (Iv a0.at_), (GV a0.err)] 110 (0, 0))] :: F = H' ∧ ρ' 0 = (pt g0 0) ∧ ρ' 1 = (Uv a1) ∧ ρ' 6 = (Iv (shlI .i64 1 (shrI .u8 (rd (sub a0.b a0.at_ (a0.b.length : Int)) (0 : Int)) (6 : Int)))) ∧ ρ' 7 = (pt g50 0) ∧ ρ' 9 = (.func (.func 98) #[] #[(pt g50 0), (pt g24 0), (pt g51 0)]) ∧ ρ' 10 = (Uv x60)) j63 ?_ ?_
 have h363 := h
 have h := hj63
 refine Bk (Cs (Bk (Cs (Cs (Sr (qu (Bv (decide ((shlI .i64 1 (shrI .u8 (rd (sub a0.b a0.at_ (a0.b.length : Int)) (0 : Int)) (6 : Int))) = 8))) (PO.eql rfl rfl) (qa (Bv (decide ((shlI .i64 1 (shrI .u8 (rd (sub a0.b a0.at_ (a0.b.length : Int)) (0 : Int)) (6 : Int))) = 8))) (Nt (Cd (b := decide ((shlI .i64 1 (shrI .u8 (rd (sub a0.b a0.at_ (a0.b.length : Int)) (0 : Int)) (6 : Int))) = 8)) rfl (fun hb64 => ?_) (fun hb64 => ?_))))))))))
 have h := ite_t hb64 h
 refine WC.exit (WQ.thenE (WQ.thenE (WQ.blockH (Tc (Sr (qm (.func (.func 98) #[] #[(pt g50 0), (pt g24 0), (pt g51 0)]) ?_))))))
 obtain ⟨⟨r65, r66⟩, hr67, h⟩ := bnd h
 refine Wb (Wb (We (EO.callV3 (first := #[]) (cap := #[(pt g50 0), (pt g24 0), (pt g51 0)]) co98 rfl (f_wire_Reader_Num_1_ok (IntKind.u64.wrap (andI .u8 (rd (sub a0.b a0.at_ (a0.b.length : Int)) (0 : Int)) (63 : Int))) (sub a0.b a0.at_ (a0.b.length : Int)) (1 : Int) _ _ _ _ _ h23 (r65, r66) hr67) (argsV0 rfl)) rfl ?_))
 rintro _ M68 _ hle69 ⟨_, ⟨rfl, rfl⟩, rfl⟩
 refine WL.a3 (Ns (qm (.func (.func 98) #[] #[(pt g50 0), (pt g24 0), (pt g51 0)]) ?_))
 obtain ⟨⟨r70, r71⟩, hr72, h⟩ := bnd h
 refine Wb (Wb (Wb ?_))
 have h23 := h23.mono hle69
 refine We (EO.callV3 (first := #[]) (cap := #[(pt g50 0), (pt g24 0), (pt g51 0)]) co98 rfl (f_wire_Reader_Num_1_ok r65 (sub a0.b a0.at_ (a0.b.length : Int)) r66 _ _ _ _ _ h23 (r70, r71) hr72) (argsV0 rfl)) rfl ?_
 rintro _ M73 _ hle74 ⟨_, ⟨rfl, rfl⟩, rfl⟩
 refine WL.a3 (Ns (qm (.func (.func 98) #[] #[(pt g50 0), (pt g24 0), (pt g51 0)]) ?_))
 obtain ⟨⟨r75, r76⟩, hr77, h⟩ := bnd h
 refine Wb (Wb (Wb ?_))
 have h23 := h23.mono hle74
 refine We (EO.callV3 (first := #[]) (cap := #[(pt g50 0), (pt g24 0), (pt g51 0)]) co98 rfl (f_wire_Reader_Num_1_ok r70 (sub a0.b a0.at_ (a0.b.length : Int)) r71 _ _ _ _ _ h23 (r75, r76) hr77) (argsV0 rfl)) rfl ?_
 rintro _ M78 _ hle79 ⟨_, ⟨rfl, rfl⟩, rfl⟩
 refine WL.a3 (Ns (qm (.func (.func 98) #[] #[(pt g50 0), (pt g24 0), (pt g51 0)]) ?_))
 obtain ⟨⟨r80, r81⟩, hr82, h⟩ := bnd h
 refine Wb (Wb (Wb ?_))
 have h23 := h23.mono hle79
 refine We (EO.callV3 (first := #[]) (cap := #[(pt g50 0), (pt g24 0), (pt g51 0)]) co98 rfl (f_wire_Reader_Num_1_ok r75 (sub a0.b a0.at_ (a0.b.length : Int)) r76 _ _ _ _ _ h23 (r80, r81) hr82) (argsV0 rfl)) rfl ?_
 rintro _ M83 _ hle84 ⟨_, ⟨rfl, rfl⟩, rfl⟩
 refine WL.a3 (Nt (Cg (qm (Uv 0) (qu (Uv (IntKind.u64.wrap ((0 : Int) + (1073725440 : Int)))) (PO.add rfl rfl) (qa (Uv (IntKind.u64.wrap ((0 : Int) + (1073725440 : Int)))) (Wz (Bn (WQ.f3 (Qb (Qb (WQ.f3 ?_)))))))))))
 exact WQ.thenFE h ⟨(((hle69.trans hle74).trans hle79).trans hle84), rfl, (hρ 0), (hρ 1), rfl, rfl, rfl, rfl⟩
 have h := ite_f hb64 h
 refine Ck (Tc (Cs (Sr (qu (Bv (decide ((shlI .i64 1 (shrI .u8 (rd (sub a0.b a0.at_ (a0.b.length : Int)) (0 : Int)) (6 : Int))) = 4))) (PO.eql rfl rfl) (qa (Bv (decide ((shlI .i64 1 (shrI .u8 (rd (sub a0.b a0.at_ (a0.b.length : Int)) (0 : Int)) (6 : Int))) = 4))) (Nt (Cd (b := decide ((shlI .i64 1 (shrI .u8 (rd (sub a0.b a0.at_ (a0.b.length : Int)) (0 : Int)) (6 : Int))) = 4)) rfl (fun hb85 => ?_) (fun hb85 => ?_))))))))
 have h := ite_t hb85 h
 exact WC.exit (WQ.thenE (WQ.thenE (WQ.blockM rfl (WQ.thenE (WQ.blockH (WQ.thenFE h ⟨lr, rfl, (hρ 0), (hρ 1), rfl, rfl, rfl, rfl⟩))))))
 have h := ite_f hb85 h
 refine Ck (Tc (Sr (qu (Bv (decide ((shlI .i64 1 (shrI .u8 (rd (sub a0.b a0.at_ (a0.b.length : Int)) (0 : Int)) (6 : Int))) = 2))) (PO.eql rfl rfl) (qa (Bv (decide ((shlI .i64 1 (shrI .u8 (rd (sub a0.b a0.at_ (a0.b.length : Int)) (0 : Int)) (6 : Int))) = 2))) (Nt (Cd (b := decide ((shlI .i64 1 (shrI .u8 (rd (sub a0.b a0.at_ (a0.b.length : Int)) (0 : Int)) (6 : Int))) = 2)) rfl (fun hb86 => ?_) (fun hb86 => ?_)))))))
 have h := ite_t hb86 h
 refine WC.exit (WQ.thenE (WQ.blockM rfl (WQ.thenE (WQ.blockM rfl (WQ.thenE ?_)))))
 have h := KK.early h h363
 exact WQ.blockH (WQ.thenFE h ⟨lr, rfl, (hρ 0), (hρ 1), rfl, rfl, rfl, rfl⟩)
 have h := ite_f hb86 h
 refine Ck (Tc (WC.exit (WQ.blockM rfl (WQ.thenE (WQ.blockM rfl (WQ.thenE ?_))))))
 have h := KK.early h h363
 refine WQ.blockM rfl (WQ.thenE ?_)
 have h := KK.early h h359
 refine WQ.blockH ?_
 obtain rfl := oi h
 exact Tj ⟨lr, rfl, (hρ 0), (hρ 1), rfl, rfl, rfl⟩
 rintro ⟨x60, x61, x62⟩ ρ63 M63 H63 rfl ⟨hle63, rfl, hs63_0, hs63_1, hs63_6, hs63_7, hs63_9, hs63_10⟩
 have h := (Sum.elim_inl _ _ _).symm.trans h
 refine Sr (qM (.func (.func 98) #[] #[(pt g50 0), (pt g24 0), (pt g51 0)]) hs63_9 ?_)
 obtain ⟨⟨r87, r88⟩, hr89, h⟩ := bnd h
 refine Wb (Wb ?_)
 have h23 := h23.mono hle63
 refine We (EO.callV3 (first := #[]) (cap := #[(pt g50 0), (pt g24 0), (pt g51 0)]) co98 rfl (f_wire_Reader_Num_1_ok x62 (sub a0.b a0.at_ (a0.b.length : Int)) x61 _ _ _ _ _ h23 (r87, r88) hr89) (argsV0 rfl)) rfl ?_
 rintro _ M90 _ hle91 ⟨_, ⟨rfl, rfl⟩, rfl⟩
 refine WL.a3 (Ns (qM (.func (.func 98) #[] #[(pt g50 0), (pt g24 0), (pt g51 0)]) hs63_9 ?_))
 obtain ⟨⟨r92, r93⟩, hr94, h⟩ := bnd h
 refine Wb (Wb (Wb ?_))
 have h23 := h23.mono hle91
 refine We (EO.callV3 (first := #[]) (cap := #[(pt g50 0), (pt g24 0), (pt g51 0)]) co98 rfl (f_wire_Reader_Num_1_ok r87 (sub a0.b a0.at_ (a0.b.length : Int)) r88 _ _ _ _ _ h23 (r92, r93) hr94) (argsV0 rfl)) rfl ?_
 rintro _ M95 _ hle96 ⟨_, ⟨rfl, rfl⟩, rfl⟩
 refine WL.a3 (Nt (Cg (qM (Uv x60) hs63_10 (qu (Uv (IntKind.u64.wrap (x60 + 16320))) (PO.add rfl rfl) (qa (Uv (IntKind.u64.wrap (x60 + 16320))) (Wz (Bn (WQ.f3 (Qb (Qb (WQ.f3 ?_)))))))))))
 exact WQ.thenFE h ⟨((hle63.trans hle91).trans hle96), rfl, hs63_0, hs63_1, hs63_6, hs63_7, hs63_9, rfl⟩
 rintro ⟨x56, x57, x58⟩ ρ59 M59 H59 rfl ⟨hle59, rfl, hs59_0, hs59_1, hs59_6, hs59_7, hs59_9, hs59_10⟩
 have h := (Sum.elim_inl _ _ _).symm.trans h
 refine Cs (Sr (qM (.func (.func 98) #[] #[(pt g50 0), (pt g24 0), (pt g51 0)]) hs59_9 ?_))
 obtain ⟨⟨r97, r98⟩, hr99, h⟩ := bnd h
 refine Wb (Wb ?_)
 have h23 := h23.mono hle59
 refine We (EO.callV3 (first := #[]) (cap := #[(pt g50 0), (pt g24 0), (pt g51 0)]) co98 rfl (f_wire_Reader_Num_1_ok x58 (sub a0.b a0.at_ (a0.b.length : Int)) x57 _ _ _ _ _ h23 (r97, r98) hr99) (argsV0 rfl)) rfl ?_
 rintro _ M100 _ hle101 ⟨_, ⟨rfl, rfl⟩, rfl⟩
 refine WL.a3 (Nt (Cg (qM (Uv x56) hs59_10 (qu (Uv (IntKind.u64.wrap (x56 + 64))) (PO.add rfl rfl) (qa (Uv (IntKind.u64.wrap (x56 + 64))) (Nt (WC.exit (WQ.blockH (WQ.f3 (Qb (Qb ?_)))))))))))
 refine WQ.f3 ?_
 obtain rfl := oi h
 exact Tj ⟨(hle59.trans hle101), rfl, hs59_0, hs59_1, hs59_6, hs59_7, rfl⟩
 obtain ⟨x52, x53, x54⟩ := j55
 rintro ρ55 M55 H55 ⟨hle55, rfl, hs55_0, hs55_1, hs55_6, hs55_7, hs55_10⟩
 refine Cs (Bk (Sr (qu (Uv x54) (Lb 1 pl105 hs55_7 rfl rfl) (qM (Uv x52) hs55_10 (qu (Bv (decide (x54 < x52))) (PO.lss rfl rfl) (qa (Bv (decide (x54 < x52))) (Nt (Cd (b := decide (x54 < x52)) rfl (fun hb102 => ?_) (fun hb102 => ?_)))))))))
 have h := ite_t hb102 h
 refine Sr (qM (pt g0 0) hs55_0 (qM (pt g0 0) hs55_0 (qu (pt g0 0) (Nk rfl) (qu (pt g0 1) (Fa fo110_1 rfl rfl) (qu (Iv a0.at_) (Lb 3 pl3 rfl rfl rfl) ?_)))))
 obtain ⟨r103, hr104, h⟩ := bnd h
 refine WL.f3 ?_
 have h0_0 := h0_0.mono hle55
 refine We (Cb co69 (f_wire_Reader_fail_ok a0 (⟨#[110, 117, 109]⟩ : ByteArray) a0.at_ (5 : Int) _ _ _ h0_0 r103 hr104) (args4 rfl rfl rfl rfl)) rfl ?_
 rintro _ M105 _ hle106 ⟨_, ⟨rfl, rfl⟩, rfl⟩
 refine WL.a1 (Ns (qa (Uv 0) (Nt (Cr (Br (Tr (Qa (Dr (Qa (Dr (Qa ?_)))))))))))
 exact Dr (Rf h [[(g0, .cells #[v0_0, (Iv a0.at_), (GV r103)] 110 (0, 0))]] rfl (Rs rfl rfl) (hle55.trans hle106) ⟨rfl, rfl⟩)
 have h := ite_f hb102 h
 refine Sr (qu (Uv x54) (Lb 1 pl105 hs55_7 rfl rfl) (qM (Uv a1) hs55_1 (qu (Bv (decide (a1 < x54))) (PO.gtr rfl rfl) (qa (Bv (decide (a1 < x54))) (Nt (Cd (b := decide (a1 < x54)) rfl (fun hb107 => ?_) (fun hb107 => ?_)))))))
 have h := ite_t hb107 h
 refine Sr (qM (pt g0 0) hs55_0 (qM (pt g0 0) hs55_0 (qu (pt g0 0) (Nk rfl) (qu (pt g0 1) (Fa fo110_1 rfl rfl) (qu (Iv a0.at_) (Lb 3 pl3 rfl rfl rfl) ?_)))))
 obtain ⟨r108, hr109, h⟩ := bnd h
 refine WL.f3 ?_
 have h0_0 := h0_0.mono hle55
 refine We (Cb co69 (f_wire_Reader_fail_ok a0 (⟨#[110, 117, 109]⟩ : ByteArray) a0.at_ (6 : Int) _ _ _ h0_0 r108 hr109) (args4 rfl rfl rfl rfl)) rfl ?_
 rintro _ M110 _ hle111 ⟨_, ⟨rfl, rfl⟩, rfl⟩
 refine WL.a1 (Ns (qa (Uv 0) (Nt (Cr (Br (Tr (Qa (Dr (Qa (Dr (Qa ?_)))))))))))
 exact Dr (Rf h [[(g0, .cells #[v0_0, (Iv a0.at_), (GV r108)] 110 (0, 0))]] rfl (Rs rfl rfl) (hle55.trans hle111) ⟨rfl, rfl⟩)
 have h := ite_f hb107 h
 refine Ck (Bn (Tc (Sr (qM (pt g0 0) hs55_0 (qu (pt g0 0) (Nk rfl) (qu (pt g0 1) (Fa fo110_1 rfl rfl) (qu (Iv a0.at_) (Lb 3 pl3 rfl rfl rfl) (qM (Iv (shlI .i64 1 (shrI .u8 (rd (sub a0.b a0.at_ (a0.b.length : Int)) (0 : Int)) (6 : Int)))) hs55_6 (qu (Iv (IntKind.i64.wrap (a0.at_ + (shlI .i64 1 (shrI .u8 (rd (sub a0.b a0.at_ (a0.b.length : Int)) (0 : Int)) (6 : Int)))))) (PO.add rfl rfl) (qu (pt g0 0) (Nk rfl) (qu (pt g0 1) (Fa fo110_1 rfl rfl) ?_)))))))))))
 refine WL.f3 (We (Es (Iv (IntKind.i64.wrap (a0.at_ + (shlI .i64 1 (shrI .u8 (rd (sub a0.b a0.at_ (a0.b.length : Int)) (0 : Int)) (6 : Int)))))) [v0_0, (Iv (IntKind.i64.wrap (a0.at_ + (shlI .i64 1 (shrI .u8 (rd (sub a0.b a0.at_ (a0.b.length : Int)) (0 : Int)) (6 : Int)))))), (GV a0.err)] rfl sz3 rfl rfl rfl rfl rfl rfl) rfl ?_)
 rintro _ _ _ - ⟨rfl, rfl⟩
 exact Ns (qu (Uv x54) (Lb 2 pl105 hs55_7 rfl rfl) (qa (Uv x54) (Nt (Cr (Qa (Dr (Qa (Dr (Qa (Dr (Rf h [[(g0, .cells #[v0_0, (Iv (IntKind.i64.wrap (a0.at_ + (shlI .i64 1 (shrI .u8 (rd (sub a0.b a0.at_ (a0.b.length : Int)) (0 : Int)) (6 : Int)))))), (GV a0.err)] 110 (0, 0))]] rfl (Rs rfl rfl) hle55 ⟨rfl, rfl⟩)))))))))))
 exact Tz
 exact Tz

noncomputable def f_wire_Reader_Int (a0 : T_wire_Reader) (a1 : Int) : Option (Int × Int × GErr) :=
  ((f_wire_Reader_Num a0 (IntKind.u64.wrap (if a1 < (0 : Int) then (0 : Int) else a1))).bind fun (r21, r22, r23) => (some (IntKind.i64.wrap r21, r22, r23)))
def f_wire_Reader_Int_post (a0 : T_wire_Reader) (a1 : Int) (v0_0 : Value) (g0 : Nat) : (Int × Int × GErr) → Value → IM → HL → Prop :=
  fun (p_ : (Int × Int × GErr)) (v : Value) (M' : IM) (H' : HL) => match p_ with | (r0, r1, r2) => (.int .i64 r0) = v ∧ H' = [[(g0, .cells #[v0_0, (.int .i64 r1), (GV r2)] 110 (0, 0))]]
theorem f_wire_Reader_Int_ok (a0 : T_wire_Reader) (a1 : Int) (M : IM) (v0_0 : Value) (g0 : Nat) (h0_0 : RS (Kd.int .u8) M v0_0 a0.b) (res : (Int × Int × GErr)) (h : f_wire_Reader_Int a0 a1 = some res) :
    Tri Tryz.prog 32 #[(pt g0 0), (Iv a1)] M [[(g0, .cells #[v0_0, (Iv a0.at_), (GV a0.err)] 110 (0, 0))]] (f_wire_Reader_Int_post a0 a1 v0_0 g0 res) := by
 unfold f_wire_Reader_Int at h
 refine Te Tryz.func32 rfl rfl ?_
 intro F ρ hρ
 refine Sr (qa (Iv 0) (Ns (qM (pt g0 0) (hρ 0) (qM (Iv a1) (hρ 1) (qu (Iv (if a1 < 0 then (0 : Int) else a1)) (PO.max rfl rfl) (qu (Uv (IntKind.u64.wrap (if a1 < 0 then (0 : Int) else a1))) (PO.conv us3 Tryz.underlying105 rfl) ?_))))))
 obtain ⟨⟨r21, r22, r23⟩, hr24, h⟩ := bnd h
 refine We (Cb co68 (f_wire_Reader_Num_ok a0 (IntKind.u64.wrap (if a1 < 0 then (0 : Int) else a1)) _ _ _ h0_0 (r21, r22, r23) hr24) (args2 rfl rfl)) rfl ?_
 rintro _ M25 _ hle26 ⟨_, ⟨rfl, rfl⟩, rfl⟩
 exact WL.a1 (qu (Iv (IntKind.i64.wrap r21)) (PO.conv us105 Tryz.underlying3 rfl) (qa (Iv (IntKind.i64.wrap r21)) (Nt (Cr (Rf h [[(g0, .cells #[v0_0, (Iv r22), (GV r23)] 110 (0, 0))]] rfl (Rs rfl rfl) hle26 ⟨rfl, rfl⟩)))))


end Go.Proofs.YtkflneabcannnaaGreatDoor.G
