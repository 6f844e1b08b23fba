/- Go functions: what they come to, and that they do. Printed by a program of the session (gen). -/
import Derived.Test.YtkflneabcannnaaGreatDoorCF
import Derived.Test.YtkflneabcannnaaGreatDoorC11
import Derived.Test.YtkflneabcannnaaGreatDoorC12
import Derived.Test.YtkflneabcannnaaGreatDoorKConv
import Derived.Test.YtkflneabcannnaaGreatDoorKShar2
import Derived.Test.YtkflneabcannnaaGreatDoorKTight2
set_option linter.unusedVariables false
set_option linter.unusedSimpArgs false
set_option maxHeartbeats 8000000
set_option maxRecDepth 100000
namespace Go.Proofs.YtkflneabcannnaaGreatDoor.G
open Go Go.KK

noncomputable def f_ref07_Check_l0 (a0 : T_api_Rpc) (s_ : Int) : Option (Int ⊕ (Unit ⊕ (ByteArray × Int × Int × Int))) :=
  match s_ with
  | x218 =>
    (if (decide (x218 < (a0.Batches.length : Int))) = true then (grd (0 ≤ x218 ∧ x218 < a0.Batches.length) ((f_ref06_Check (rd a0.Batches x218)).bind fun r231 => (if (decide (r231.W.Code ≠ (0 : Int))) = true then (some (Sum.inr (Sum.inr (r231.W.Op, x218, r231.W.Code, (-1 : Int))))) else (some (Sum.inl (IntKind.i64.wrap (x218 + (1 : Int)))))))) else (some (Sum.inr (Sum.inl ()))))
noncomputable def f_ref07_Check (a0 : T_api_Rpc) : Option T_ref06_Wrong :=
  (((if (decide (a0.Kind < (1 : Int))) = true then (some true) else (some (decide ((8 : Int) < a0.Kind)))) : Option Bool).bind fun x23 => (if x23 = true then ((f_ref07_no (⟨#[107, 105, 110, 100]⟩ : ByteArray) a0.Kind (5 : Int)).bind fun r27 => (some r27)) else (((if (decide (a0.From < (1 : Int))) = true then (some true) else (if (decide ((1073741824 : Int) < a0.From)) = true then (some true) else (if (decide (a0.To < (1 : Int))) = true then (some true) else (if (decide ((1073741824 : Int) < a0.To)) = true then (some true) else (some (decide (a0.From = a0.To))))))) : Option Bool).bind fun x32 => (if x32 = true then ((f_ref07_no (⟨#[102, 114, 111, 109]⟩ : ByteArray) a0.From (2 : Int)).bind fun r39 => (some r39)) else (((if (decide (a0.Term < (0 : Int))) = true then (some true) else (some (decide ((1073741824 : Int) < a0.Term)))) : Option Bool).bind fun x44 => (if x44 = true then ((f_ref07_no (⟨#[116, 101, 114, 109]⟩ : ByteArray) a0.Term (2 : Int)).bind fun r48 => (some r48)) else (((if a0.Pre = true then ((f_ref07_has a0.Kind (97 : Int)).bind fun r56 => (if (!r56) = true then (some true) else (if a0.Ok = true then ((f_ref07_has a0.Kind (103 : Int)).bind fun r63 => (some (!r63))) else (some false)))) else (if a0.Ok = true then ((f_ref07_has a0.Kind (103 : Int)).bind fun r69 => (some (!r69))) else (some false))) : Option Bool).bind fun x53 => (if x53 = true then ((f_ref07_no (⟨#[102, 108, 97, 103]⟩ : ByteArray) (1 : Int) (1 : Int)).bind fun r75 => (some r75)) else ((f_ref07_has a0.Kind (108 : Int)).bind fun r80 => ((f_ref07_num a0.Leader r80 (1073741824 : Int)).bind fun r85 => (if (!r85) = true then ((f_ref07_no (⟨#[108, 101, 97, 100, 101, 114]⟩ : ByteArray) a0.Leader (2 : Int)).bind fun r91 => (some r91)) else ((((f_ref07_has a0.Kind (112 : Int)).bind fun r98 => ((f_ref07_num a0.At r98 (1073741824 : Int)).bind fun r103 => (if (!r103) = true then (some true) else ((f_ref07_has a0.Kind (112 : Int)).bind fun r109 => ((f_ref07_num a0.AtTerm r109 (1073741824 : Int)).bind fun r114 => (some (!r114))))))) : Option Bool).bind fun x96 => (if x96 = true then ((f_ref07_no (⟨#[112, 108, 97, 99, 101]⟩ : ByteArray) a0.At (2 : Int)).bind fun r120 => (some r120)) else ((f_ref07_has a0.Kind (104 : Int)).bind fun r125 => ((f_ref07_num a0.High r125 (1073741824 : Int)).bind fun r130 => (if (!r130) = true then ((f_ref07_no (⟨#[104, 105, 103, 104]⟩ : ByteArray) a0.High (2 : Int)).bind fun r136 => (some r136)) else ((f_ref07_has a0.Kind (99 : Int)).bind fun r141 => ((f_ref07_num a0.Code r141 (21 : Int)).bind fun r146 => (if (!r146) = true then ((f_ref07_no (⟨#[99, 111, 100, 101]⟩ : ByteArray) a0.Code (2 : Int)).bind fun r152 => (some r152)) else ((((f_ref07_has a0.Kind (115 : Int)).bind fun r159 => ((f_ref07_num a0.Size r159 (1073741824 : Int)).bind fun r164 => (if (!r164) = true then (some true) else ((f_ref07_has a0.Kind (111 : Int)).bind fun r170 => ((f_ref07_num a0.Pos r170 (1073741824 : Int)).bind fun r175 => (some (!r175))))))) : Option Bool).bind fun x157 => (if x157 = true then ((f_ref07_no (⟨#[115, 105, 122, 101]⟩ : ByteArray) a0.Size (2 : Int)).bind fun r181 => (some r181)) else (((if (decide ((512 : Int) < (a0.Data.length : Int))) = true then (some true) else (if (decide ((0 : Int) < (a0.Data.length : Int))) = true then ((f_ref07_has a0.Kind (100 : Int)).bind fun r190 => (some (!r190))) else (some false))) : Option Bool).bind fun x186 => (if x186 = true then ((f_ref07_no (⟨#[100, 97, 116, 97]⟩ : ByteArray) (a0.Data.length : Int) (6 : Int)).bind fun r196 => (some r196)) else (((if (decide ((8 : Int) < (a0.Batches.length : Int))) = true then (some true) else (if (decide ((0 : Int) < (a0.Batches.length : Int))) = true then ((f_ref07_has a0.Kind (98 : Int)).bind fun r205 => (some (!r205))) else (some false))) : Option Bool).bind fun x201 => (if x201 = true then ((f_ref07_no (⟨#[98, 97, 116, 99, 104, 101, 115]⟩ : ByteArray) (a0.Batches.length : Int) (6 : Int)).bind fun r211 => (some r211)) else ((((iter (f_ref07_Check_l0 a0) (0 : Int)).bind (Sum.elim (fun _ => (some (Sum.inl ()))) (fun (x219, x220, x221, x222) => (((some (⟨(⟨x219, x220, x221⟩ : T_ref05_Wrong), x222⟩ : T_ref06_Wrong))).bind fun r => some (Sum.inr r))))) : Option (Unit ⊕ T_ref06_Wrong)).bind (Sum.elim (fun _ => (some (⟨lit5_, (-1 : Int)⟩ : T_ref06_Wrong))) some)))))))))))))))))))))))))))
def f_ref07_Check_post (a0 : T_api_Rpc) (v0_11 v0_14 : Value) : T_ref06_Wrong → Value → IM → HL → Prop :=
  fun (r0 : T_ref06_Wrong) (v : Value) (M' : IM) (H' : HL) => (.agg #[(.string r0.W.Op), (.int .i64 r0.W.At), (.int .i64 r0.W.Code), (.int .i64 r0.Record)]) = v ∧ H' = []
theorem f_ref07_Check_ok (a0 : T_api_Rpc) (M : IM) (v0_11 v0_14 : Value) (h0_11 : RS kd_api_Batch M v0_11 a0.Batches) (h0_14 : RS (Kd.int .u8) M v0_14 a0.Data) (res : T_ref06_Wrong) (h : f_ref07_Check a0 = some res) :
    Tri Tryz.prog 14 #[(a25_ a0 v0_11 v0_14)] M [] (f_ref07_Check_post a0 v0_11 v0_14 res) := by
 unfold f_ref07_Check at h
 refine Te Tryz.func14 rfl rfl ?_
 intro F ρ hρ
 refine Sr (We (EO.box (cs := (l25 a0 v0_11 v0_14).toArray) (congrArg Value.cells (asE (a25_ a0 v0_11 v0_14) (hρ 0)))) rfl ?_)
 rintro _ _ _ - ⟨rfl, g21, rfl, rfl⟩
 refine We (Al ze42 rfl) rfl ?_
 rintro _ _ _ - ⟨rfl, g22, rfl, rfl⟩
 refine Ns (qu (pt g21 0) (Fa fo25_0 rfl rfl) (qu (Iv a0.Kind) (Lb 1 pl3 rfl rfl rfl) (qa (Iv a0.Kind) (Nt (Cs ?_)))))
 obtain ⟨x23, hj24, h⟩ := bnd h
 refine Jf (fun (x23 : Bool) ρ' M' H' => M.le M' ∧ [(g22, .cells z42_.toArray 42 (0, 0))] :: [(g21, .cells (l25 a0 v0_11 v0_14).toArray 25 (0, 0))] :: F = H' ∧ ρ' 1 = (pt g21 0) ∧ ρ' 2 = (pt g22 0) ∧ ρ' 3 = (Iv a0.Kind) ∧ ρ' 13 = (Bv x23)) x23 ?_ ?_
 have h := hj24
 refine Cg (qm (Iv a0.Kind) (qu (Bv (decide (a0.Kind < 1))) (PO.lss rfl rfl) (qm (Bv (decide (a0.Kind < 1))) ?_)))
 rcases Bt (decide (a0.Kind < 1)) with hb25 | hb25
 have h := ite_t hb25 h
 iterate 2 refine Of 10 rfl rfl hb25 rfl ?_
 refine qu (Bv true) (Pt rfl hb25 rfl) (Wz ?_)
 obtain rfl := oi h
 exact Tj ⟨lr, rfl, rfl, rfl, rfl, rfl⟩
 have h := ite_f hb25 h
 refine On 10 rfl rfl hb25 (qm (Iv a0.Kind) (qo 10 hb25 (Bv (decide ((8 : Int) < a0.Kind))) (PO.gtr rfl rfl) (qu (Bv (decide ((8 : Int) < a0.Kind))) (Pf rfl hb25 rfl) (Wz ?_))))
 obtain rfl := oi h
 exact Tj ⟨lr, rfl, rfl, rfl, rfl, rfl⟩
 rintro ρ24 M24 H24 ⟨hle24, rfl, hs24_1, hs24_2, hs24_3, hs24_13⟩
 refine Cd (b := x23) hs24_13 (fun hb26 => ?_) (fun hb26 => ?_)
 have h := ite_t hb26 h
 refine Sr (qM (Iv a0.Kind) hs24_3 ?_)
 obtain ⟨r27, hr28, h⟩ := bnd h
 refine We (Ca co40 (f_ref07_no_ok ⟨#[107, 105, 110, 100]⟩ a0.Kind (5 : Int) _ r27 hr28) (args3 rfl rfl rfl)) rfl ?_
 rintro _ M29 _ hle30 ⟨_, ⟨rfl, rfl⟩, rfl⟩
 refine WL.a0 (We (Sg (v := (a42_ r27)) (vl := (l42 r27)) (arr' := (l42 r27)) rfl sz42 hs24_2 rfl (onb rfl) rfl rfl rfl) rfl ?_)
 rintro _ _ _ - ⟨rfl, rfl⟩
 exact Nt (Cr (Tr (Qa (Dr (Rd h [] (fun _ hs => hs.drop) (resultsL1 rfl (Rc (cs := (l42 r27)) 0 ag42 sz42 hs24_2 rfl rfl)) (hle24.trans hle30) ⟨rfl, rfl⟩)))))
 have h := ite_f hb26 h
 refine Ck (Tc (Cs ?_))
 obtain ⟨x32, hj33, h⟩ := bnd h
 refine Jf (fun (x32 : Bool) ρ' M' H' => M24.le M' ∧ [(g22, .cells z42_.toArray 42 (0, 0))] :: [(g21, .cells (l25 a0 v0_11 v0_14).toArray 25 (0, 0))] :: F = H' ∧ ρ' 1 = (pt g21 0) ∧ ρ' 2 = (pt g22 0) ∧ ρ' 3 = (Iv a0.Kind) ∧ ρ' 40 = (Bv x32)) x32 ?_ ?_
 have h := hj33
 refine Cg (qu (pt g21 1) (Fa fo25_1 hs24_1 rfl) (qu (Iv a0.From) (Lb 1 pl3 rfl rfl rfl) (qu (Bv (decide (a0.From < 1))) (PO.lss rfl rfl) (qm (Bv (decide (a0.From < 1))) ?_))))
 rcases Bt (decide (a0.From < 1)) with hb34 | hb34
 have h := ite_t hb34 h
 iterate 3 refine Of 19 rfl rfl hb34 rfl ?_
 refine qu (Bv true) (Pt rfl hb34 rfl) (qm (Bv true) ?_)
 iterate 3 refine Of 24 rfl rfl rfl rfl ?_
 refine qu (Bv true) (Pt rfl rfl rfl) (qm (Bv true) ?_)
 iterate 3 refine Of 29 rfl rfl rfl rfl ?_
 refine qu (Bv true) (Pt rfl rfl rfl) (qm (Bv true) ?_)
 iterate 5 refine Of 34 rfl rfl rfl rfl ?_
 refine qu (Bv true) (Pt rfl rfl rfl) (Wz ?_)
 obtain rfl := oi h
 exact Tj ⟨lr, rfl, hs24_1, hs24_2, hs24_3, rfl⟩
 have h := ite_f hb34 h
 refine qo 19 hb34 (pt g21 1) (Fa fo25_1 hs24_1 rfl) (qo 19 hb34 (Iv a0.From) (Lb 1 pl3 rfl rfl rfl) (qo 19 hb34 (Bv (decide ((1073741824 : Int) < a0.From))) (PO.gtr rfl rfl) (qu (Bv (decide ((1073741824 : Int) < a0.From))) (Pf rfl hb34 rfl) (qm (Bv (decide ((1073741824 : Int) < a0.From))) ?_))))
 rcases Bt (decide ((1073741824 : Int) < a0.From)) with hb35 | hb35
 have h := ite_t hb35 h
 iterate 3 refine Of 24 rfl rfl hb35 rfl ?_
 refine qu (Bv true) (Pt rfl hb35 rfl) (qm (Bv true) ?_)
 iterate 3 refine Of 29 rfl rfl rfl rfl ?_
 refine qu (Bv true) (Pt rfl rfl rfl) (qm (Bv true) ?_)
 iterate 5 refine Of 34 rfl rfl rfl rfl ?_
 refine qu (Bv true) (Pt rfl rfl rfl) (Wz ?_)
 obtain rfl := oi h
 exact Tj ⟨lr, rfl, hs24_1, hs24_2, hs24_3, rfl⟩
 have h := ite_f hb35 h
 refine qo 24 hb35 (pt g21 2) (Fa fo25_2 hs24_1 rfl) (qo 24 hb35 (Iv a0.To) (Lb 1 pl3 rfl rfl rfl) (qo 24 hb35 (Bv (decide (a0.To < 1))) (PO.lss rfl rfl) (qu (Bv (decide (a0.To < 1))) (Pf rfl hb35 rfl) (qm (Bv (decide (a0.To < 1))) ?_))))
 rcases Bt (decide (a0.To < 1)) with hb36 | hb36
 have h := ite_t hb36 h
 iterate 3 refine Of 29 rfl rfl hb36 rfl ?_
 refine qu (Bv true) (Pt rfl hb36 rfl) (qm (Bv true) ?_)
 iterate 5 refine Of 34 rfl rfl rfl rfl ?_
 refine qu (Bv true) (Pt rfl rfl rfl) (Wz ?_)
 obtain rfl := oi h
 exact Tj ⟨lr, rfl, hs24_1, hs24_2, hs24_3, rfl⟩
 have h := ite_f hb36 h
 refine qo 29 hb36 (pt g21 2) (Fa fo25_2 hs24_1 rfl) (qo 29 hb36 (Iv a0.To) (Lb 1 pl3 rfl rfl rfl) (qo 29 hb36 (Bv (decide ((1073741824 : Int) < a0.To))) (PO.gtr rfl rfl) (qu (Bv (decide ((1073741824 : Int) < a0.To))) (Pf rfl hb36 rfl) (qm (Bv (decide ((1073741824 : Int) < a0.To))) ?_))))
 rcases Bt (decide ((1073741824 : Int) < a0.To)) with hb37 | hb37
 have h := ite_t hb37 h
 iterate 5 refine Of 34 rfl rfl hb37 rfl ?_
 refine qu (Bv true) (Pt rfl hb37 rfl) (Wz ?_)
 obtain rfl := oi h
 exact Tj ⟨lr, rfl, hs24_1, hs24_2, hs24_3, rfl⟩
 have h := ite_f hb37 h
 refine qo 34 hb37 (pt g21 1) (Fa fo25_1 hs24_1 rfl) (qo 34 hb37 (Iv a0.From) (Lb 1 pl3 rfl rfl rfl) (qo 34 hb37 (pt g21 2) (Fa fo25_2 hs24_1 rfl) (qo 34 hb37 (Iv a0.To) (Lb 1 pl3 rfl rfl rfl) (qo 34 hb37 (Bv (decide (a0.From = a0.To))) (PO.eql rfl rfl) (qu (Bv (decide (a0.From = a0.To))) (Pf rfl hb37 rfl) (Wz ?_))))))
 obtain rfl := oi h
 exact Tj ⟨lr, rfl, hs24_1, hs24_2, hs24_3, rfl⟩
 rintro ρ33 M33 H33 ⟨hle33, rfl, hs33_1, hs33_2, hs33_3, hs33_40⟩
 have L33 := hle24.trans hle33
 refine Cd (b := x32) hs33_40 (fun hb38 => ?_) (fun hb38 => ?_)
 have h := ite_t hb38 h
 refine Sr (qu (pt g21 1) (Fa fo25_1 hs33_1 rfl) (qu (Iv a0.From) (Lb 1 pl3 rfl rfl rfl) ?_))
 obtain ⟨r39, hr40, h⟩ := bnd h
 refine We (Ca co40 (f_ref07_no_ok ⟨#[102, 114, 111, 109]⟩ a0.From (2 : Int) _ r39 hr40) (args3 rfl rfl rfl)) rfl ?_
 rintro _ M41 _ hle42 ⟨_, ⟨rfl, rfl⟩, rfl⟩
 refine WL.a0 (We (Sg (v := (a42_ r39)) (vl := (l42 r39)) (arr' := (l42 r39)) rfl sz42 hs33_2 rfl (onb rfl) rfl rfl rfl) rfl ?_)
 rintro _ _ _ - ⟨rfl, rfl⟩
 exact Nt (Cr (Tr (Qa (Dr (Rd h [] (fun _ hs => hs.drop) (resultsL1 rfl (Rc (cs := (l42 r39)) 0 ag42 sz42 hs33_2 rfl rfl)) (L33.trans hle42) ⟨rfl, rfl⟩)))))
 have h := ite_f hb38 h
 refine Ck (Tc (Cs ?_))
 obtain ⟨x44, hj45, h⟩ := bnd h
 refine Jf (fun (x44 : Bool) ρ' M' H' => M33.le M' ∧ [(g22, .cells z42_.toArray 42 (0, 0))] :: [(g21, .cells (l25 a0 v0_11 v0_14).toArray 25 (0, 0))] :: F = H' ∧ ρ' 1 = (pt g21 0) ∧ ρ' 2 = (pt g22 0) ∧ ρ' 3 = (Iv a0.Kind) ∧ ρ' 51 = (Bv x44)) x44 ?_ ?_
 have h := hj45
 refine Cg (qu (pt g21 3) (Fa fo25_3 hs33_1 rfl) (qu (Iv a0.Term) (Lb 1 pl3 rfl rfl rfl) (qu (Bv (decide (a0.Term < 0))) (PO.lss rfl rfl) (qm (Bv (decide (a0.Term < 0))) ?_))))
 rcases Bt (decide (a0.Term < 0)) with hb46 | hb46
 have h := ite_t hb46 h
 iterate 3 refine Of 47 rfl rfl hb46 rfl ?_
 refine qu (Bv true) (Pt rfl hb46 rfl) (Wz ?_)
 obtain rfl := oi h
 exact Tj ⟨lr, rfl, hs33_1, hs33_2, hs33_3, rfl⟩
 have h := ite_f hb46 h
 refine qo 47 hb46 (pt g21 3) (Fa fo25_3 hs33_1 rfl) (qo 47 hb46 (Iv a0.Term) (Lb 1 pl3 rfl rfl rfl) (qo 47 hb46 (Bv (decide ((1073741824 : Int) < a0.Term))) (PO.gtr rfl rfl) (qu (Bv (decide ((1073741824 : Int) < a0.Term))) (Pf rfl hb46 rfl) (Wz ?_))))
 obtain rfl := oi h
 exact Tj ⟨lr, rfl, hs33_1, hs33_2, hs33_3, rfl⟩
 rintro ρ45 M45 H45 ⟨hle45, rfl, hs45_1, hs45_2, hs45_3, hs45_51⟩
 have L45 := L33.trans hle45
 refine Cd (b := x44) hs45_51 (fun hb47 => ?_) (fun hb47 => ?_)
 have h := ite_t hb47 h
 refine Sr (qu (pt g21 3) (Fa fo25_3 hs45_1 rfl) (qu (Iv a0.Term) (Lb 1 pl3 rfl rfl rfl) ?_))
 obtain ⟨r48, hr49, h⟩ := bnd h
 refine We (Ca co40 (f_ref07_no_ok ⟨#[116, 101, 114, 109]⟩ a0.Term (2 : Int) _ r48 hr49) (args3 rfl rfl rfl)) rfl ?_
 rintro _ M50 _ hle51 ⟨_, ⟨rfl, rfl⟩, rfl⟩
 refine WL.a0 (We (Sg (v := (a42_ r48)) (vl := (l42 r48)) (arr' := (l42 r48)) rfl sz42 hs45_2 rfl (onb rfl) rfl rfl rfl) rfl ?_)
 rintro _ _ _ - ⟨rfl, rfl⟩
 exact Nt (Cr (Tr (Qa (Dr (Rd h [] (fun _ hs => hs.drop) (resultsL1 rfl (Rc (cs := (l42 r48)) 0 ag42 sz42 hs45_2 rfl rfl)) (L45.trans hle51) ⟨rfl, rfl⟩)))))
 have h := ite_f hb47 h
 refine Ck (Tc (Cs ?_))
 obtain ⟨x53, hj54, h⟩ := bnd h
 refine Jf (fun (x53 : Bool) ρ' M' H' => M45.le M' ∧ [(g22, .cells z42_.toArray 42 (0, 0))] :: [(g21, .cells (l25 a0 v0_11 v0_14).toArray 25 (0, 0))] :: F = H' ∧ ρ' 1 = (pt g21 0) ∧ ρ' 2 = (pt g22 0) ∧ ρ' 3 = (Iv a0.Kind) ∧ ρ' 70 = (Bv x53)) x53 ?_ ?_
 have h := hj54
 refine Cg (qu (pt g21 4) (Fa fo25_4 hs45_1 rfl) (qu (Bv a0.Pre) (Lb 1 pl4 rfl rfl rfl) (qm (Bv a0.Pre) ?_)))
 rcases Bt (a0.Pre) with hb55 | hb55
 have h := ite_t hb55 h
 refine On 57 rfl rfl hb55 (qM (Iv a0.Kind) hs45_3 (On 57 rfl rfl hb55 ?_))
 obtain ⟨r56, hr57, h⟩ := bnd h
 refine We (Ca co41 (f_ref07_has_ok a0.Kind (97 : Int) _ r56 hr57) (args2 rfl rfl)) rfl ?_
 rintro _ M58 _ hle59 ⟨_, ⟨rfl, rfl⟩, rfl⟩
 refine WL.a0 (qo 57 hb55 (Bv (!r56)) (PO.not rfl) (qu (Bv (!r56)) (Pt rfl hb55 rfl) (qm (Bv (!r56)) ?_)))
 rcases Bt (!r56) with hb61 | hb61
 have h := ite_t hb61 h
 iterate 3 refine Of 62 rfl rfl hb61 rfl ?_
 refine WL.offU 65 rfl rfl rfl (WL.offU 65 rfl rfl rfl (WL.offU 65 rfl rfl rfl (Of 62 rfl rfl hb61 rfl (qu (Bv true) (Pt rfl hb61 rfl) (Wz ?_)))))
 obtain rfl := oi h
 exact Tj ⟨hle59, rfl, hs45_1, hs45_2, hs45_3, rfl⟩
 have h := ite_f hb61 h
 refine qo 62 hb61 (pt g21 5) (Fa fo25_5 hs45_1 rfl) (qo 62 hb61 (Bv a0.Ok) (Lb 1 pl4 rfl rfl rfl) (On 62 rfl rfl hb61 (qm (Bv a0.Ok) ?_)))
 rcases Bt (a0.Ok) with hb62 | hb62
 have h := ite_t hb62 h
 refine On 65 rfl rfl hb62 (qM (Iv a0.Kind) hs45_3 (On 65 rfl rfl hb62 ?_))
 obtain ⟨r63, hr64, h⟩ := bnd h
 refine We (Ca co41 (f_ref07_has_ok a0.Kind (103 : Int) _ r63 hr64) (args2 rfl rfl)) rfl ?_
 rintro _ M65 _ hle66 ⟨_, ⟨rfl, rfl⟩, rfl⟩
 refine WL.a0 (qo 65 hb62 (Bv (!r63)) (PO.not rfl) (qo 62 hb61 (Bv (!r63)) (Pt rfl hb62 rfl) (qu (Bv (!r63)) (Pf rfl hb61 rfl) (Wz ?_))))
 obtain rfl := oi h
 exact Tj ⟨(hle59.trans hle66), rfl, hs45_1, hs45_2, hs45_3, rfl⟩
 have h := ite_f hb62 h
 iterate 3 refine Of 65 rfl rfl hb62 rfl ?_
 refine qo 62 hb61 (Bv false) (Pf rfl hb62 rfl) (qu (Bv false) (Pf rfl hb61 rfl) (Wz ?_))
 obtain rfl := oi h
 exact Tj ⟨hle59, rfl, hs45_1, hs45_2, hs45_3, rfl⟩
 have h := ite_f hb55 h
 iterate 3 refine Of 57 rfl rfl hb55 rfl ?_
 refine qu (Bv false) (Pf rfl hb55 rfl) (qm (Bv false) (qo 62 rfl (pt g21 5) (Fa fo25_5 hs45_1 rfl) (qo 62 rfl (Bv a0.Ok) (Lb 1 pl4 rfl rfl rfl) (On 62 rfl rfl rfl (qm (Bv a0.Ok) ?_)))))
 rcases Bt (a0.Ok) with hb68 | hb68
 have h := ite_t hb68 h
 refine On 65 rfl rfl hb68 (qM (Iv a0.Kind) hs45_3 (On 65 rfl rfl hb68 ?_))
 obtain ⟨r69, hr70, h⟩ := bnd h
 refine We (Ca co41 (f_ref07_has_ok a0.Kind (103 : Int) _ r69 hr70) (args2 rfl rfl)) rfl ?_
 rintro _ M71 _ hle72 ⟨_, ⟨rfl, rfl⟩, rfl⟩
 refine WL.a0 (qo 65 hb68 (Bv (!r69)) (PO.not rfl) (qo 62 rfl (Bv (!r69)) (Pt rfl hb68 rfl) (qu (Bv (!r69)) (Pf rfl rfl rfl) (Wz ?_))))
 obtain rfl := oi h
 exact Tj ⟨hle72, rfl, hs45_1, hs45_2, hs45_3, rfl⟩
 have h := ite_f hb68 h
 iterate 3 refine Of 65 rfl rfl hb68 rfl ?_
 refine qo 62 rfl (Bv false) (Pf rfl hb68 rfl) (qu (Bv false) (Pf rfl rfl rfl) (Wz ?_))
 obtain rfl := oi h
 exact Tj ⟨lr, rfl, hs45_1, hs45_2, hs45_3, rfl⟩
 rintro ρ54 M54 H54 ⟨hle54, rfl, hs54_1, hs54_2, hs54_3, hs54_70⟩
 have L54 := L45.trans hle54
 refine Cd (b := x53) hs54_70 (fun hb74 => ?_) (fun hb74 => ?_)
 have h := ite_t hb74 h
 refine Sr ?_
 obtain ⟨r75, hr76, h⟩ := bnd h
 refine We (Ca co40 (f_ref07_no_ok ⟨#[102, 108, 97, 103]⟩ (1 : Int) (1 : Int) _ r75 hr76) (args3 rfl rfl rfl)) rfl ?_
 rintro _ M77 _ hle78 ⟨_, ⟨rfl, rfl⟩, rfl⟩
 refine WL.a0 (We (Sg (v := (a42_ r75)) (vl := (l42 r75)) (arr' := (l42 r75)) rfl sz42 hs54_2 rfl (onb rfl) rfl rfl rfl) rfl ?_)
 rintro _ _ _ - ⟨rfl, rfl⟩
 exact Nt (Cr (Tr (Qa (Dr (Rd h [] (fun _ hs => hs.drop) (resultsL1 rfl (Rc (cs := (l42 r75)) 0 ag42 sz42 hs54_2 rfl rfl)) (L54.trans hle78) ⟨rfl, rfl⟩)))))
 have h := ite_f hb74 h
 refine Ck (Tc (Cs (Cs (WC.draw [0, 1, 0, 4, 15, 31] (.pure 0 (.pure 1 (.pure 2 (.alt 3 (.alt 4 (.pure 5 .done) .none) .none)))) mixed (by kernel_rfl) (qt (pt g21 6) rfl (Fa fo25_6 hs54_1 rfl) (qt (Iv a0.Leader) rfl (Lb 1 pl3 rfl rfl rfl) (qt (Iv a0.Kind) rfl (Mv hs54_3) ?_)))))))
 obtain ⟨r80, hr81, h⟩ := bnd h
 refine Ta rfl (Ca co41 (f_ref07_has_ok a0.Kind (108 : Int) _ r80 hr81) (args2 rfl rfl)) rfl ?_ ?_
 rintro _ M82 _ hle83 ⟨_, ⟨rfl, rfl⟩, rfl⟩
 have L83 := L54.trans hle83
 refine ⟨(Sk 1 rfl (Ss rfl (Lb 1 pl3 rfl rfl rfl) rfl (Ss rfl (Fa fo25_6 hs54_1 rfl) rfl trivial))), ?_⟩
 refine WT.a0 ?_
 obtain ⟨r85, hr86, h⟩ := bnd h
 refine Ta rfl (Ca co42 (f_ref07_num_ok a0.Leader r80 (1073741824 : Int) _ r85 hr86) (args3 rfl rfl rfl)) rfl ?_ ?_
 rintro _ M87 _ hle88 ⟨_, ⟨rfl, rfl⟩, rfl⟩
 have L88 := L83.trans hle88
 refine ⟨(Sl rfl), ?_⟩
 refine WT.a0 (qt (Bv (!r85)) rfl (PO.not rfl) (Ti (Tc (Cd (b := !r85) rfl (fun hb90 => ?_) (fun hb90 => ?_)))))
 have h := ite_t hb90 h
 refine Sr (qu (pt g21 6) (Fa fo25_6 hs54_1 rfl) (qu (Iv a0.Leader) (Lb 1 pl3 rfl rfl rfl) ?_))
 obtain ⟨r91, hr92, h⟩ := bnd h
 refine We (Ca co40 (f_ref07_no_ok ⟨#[108, 101, 97, 100, 101, 114]⟩ a0.Leader (2 : Int) _ r91 hr92) (args3 rfl rfl rfl)) rfl ?_
 rintro _ M93 _ hle94 ⟨_, ⟨rfl, rfl⟩, rfl⟩
 refine WL.a0 (We (Sg (v := (a42_ r91)) (vl := (l42 r91)) (arr' := (l42 r91)) rfl sz42 hs54_2 rfl (onb rfl) rfl rfl rfl) rfl ?_)
 rintro _ _ _ - ⟨rfl, rfl⟩
 exact Nt (Cr (Tr (Qa (Dr (Rd h [] (fun _ hs => hs.drop) (resultsL1 rfl (Rc (cs := (l42 r91)) 0 ag42 sz42 hs54_2 rfl rfl)) (L88.trans hle94) ⟨rfl, rfl⟩)))))
 have h := ite_f hb90 h
 refine Ck (Tc (Cs ?_))
 obtain ⟨x96, hj97, h⟩ := bnd h
 refine Jf (fun (x96 : Bool) ρ' M' H' => M87.le M' ∧ [(g22, .cells z42_.toArray 42 (0, 0))] :: [(g21, .cells (l25 a0 v0_11 v0_14).toArray 25 (0, 0))] :: F = H' ∧ ρ' 1 = (pt g21 0) ∧ ρ' 2 = (pt g22 0) ∧ ρ' 3 = (Iv a0.Kind) ∧ ρ' 94 = (Bv x96)) x96 ?_ ?_
 have h := hj97
 refine WC.draw [0, 1, 0, 4, 15, 31, 63, 127, 255, 127, 639, 2047, 4095, 8191] (.pure 0 (.pure 1 (.pure 2 (.alt 3 (.alt 4 (.pure 5 (.pure 6 (.pure 7 (.pure 8 (.pure 9 (.alt 10 (.alt 11 (.pure 12 (.pure 13 .done)) .none) .none)))))) .none) .none)))) mixed (by kernel_rfl) (qt (pt g21 7) rfl (Fa fo25_7 hs54_1 rfl) (qt (Iv a0.At) rfl (Lb 1 pl3 rfl rfl rfl) (qt (Iv a0.Kind) rfl (Mv hs54_3) ?_)))
 obtain ⟨r98, hr99, h⟩ := bnd h
 refine Ta rfl (Ca co41 (f_ref07_has_ok a0.Kind (112 : Int) _ r98 hr99) (args2 rfl rfl)) rfl ?_ ?_
 rintro _ M100 _ hle101 ⟨_, ⟨rfl, rfl⟩, rfl⟩
 refine ⟨(Sk 1 rfl (Ss rfl (Lb 1 pl3 rfl rfl rfl) rfl (Ss rfl (Fa fo25_7 hs54_1 rfl) rfl trivial))), ?_⟩
 refine WT.a0 ?_
 obtain ⟨r103, hr104, h⟩ := bnd h
 refine Ta rfl (Ca co42 (f_ref07_num_ok a0.At r98 (1073741824 : Int) _ r103 hr104) (args3 rfl rfl rfl)) rfl ?_ ?_
 rintro _ M105 _ hle106 ⟨_, ⟨rfl, rfl⟩, rfl⟩
 refine ⟨(Sl rfl), ?_⟩
 refine WT.a0 (qt (Bv (!r103)) rfl (PO.not rfl) (qt (Bv (!r103)) rfl (Mv rfl) ?_))
 rcases Bt (!r103) with hb108 | hb108
 have h := ite_t hb108 h
 refine Tf 87 rfl rfl rfl hb108 rfl (Tf 87 rfl rfl rfl hb108 rfl (Tf 87 rfl rfl rfl hb108 rfl (Tg 87 rfl rfl rfl hb108 rfl ⟨(Sk 1 rfl (St (Sf 87 rfl rfl rfl hb108 rfl) (St (Sf 87 rfl rfl rfl hb108 rfl) (Sl rfl)))), ?_⟩ ?_)))
 refine Tg 87 rfl rfl rfl hb108 rfl ⟨(Sl rfl), ?_⟩ ?_
 refine Tf 87 rfl rfl rfl hb108 rfl (qt (Bv true) rfl (Pt rfl hb108 rfl) (Ti ?_))
 obtain rfl := oi h
 exact Tj ⟨(hle101.trans hle106), rfl, hs54_1, hs54_2, hs54_3, rfl⟩
 exact Tz
 exact Tz
 have h := ite_f hb108 h
 refine Tn (pt g21 8) 87 rfl rfl rfl hb108 (Fa fo25_8 hs54_1 rfl) rfl (Tn (Iv a0.AtTerm) 87 rfl rfl rfl hb108 (Lb 1 pl3 rfl rfl rfl) rfl (Tn (Iv a0.Kind) 87 rfl rfl rfl hb108 (Mv hs54_3) rfl ?_))
 obtain ⟨r109, hr110, h⟩ := bnd h
 refine WT.altOn 87 rfl rfl rfl hb108 (Ca co41 (f_ref07_has_ok a0.Kind (112 : Int) _ r109 hr110) (args2 rfl rfl)) rfl ?_ ?_
 rintro _ M111 _ hle112 ⟨_, ⟨rfl, rfl⟩, rfl⟩
 refine ⟨(Sk 1 rfl (St (StabA.on 87 rfl rfl rfl hb108 (Lb 1 pl3 rfl rfl rfl) rfl) (St (StabA.on 87 rfl rfl rfl hb108 (Fa fo25_8 hs54_1 rfl) rfl) (Sl rfl)))), ?_⟩
 refine WT.a0 ?_
 obtain ⟨r114, hr115, h⟩ := bnd h
 refine WT.altOn 87 rfl rfl rfl hb108 (Ca co42 (f_ref07_num_ok a0.AtTerm r109 (1073741824 : Int) _ r114 hr115) (args3 rfl rfl rfl)) rfl ?_ ?_
 rintro _ M116 _ hle117 ⟨_, ⟨rfl, rfl⟩, rfl⟩
 refine ⟨(Sl rfl), ?_⟩
 refine WT.a0 (Tn (Bv (!r114)) 87 rfl rfl rfl hb108 (PO.not rfl) rfl (qt (Bv (!r114)) rfl (Pf rfl hb108 rfl) (Ti ?_)))
 obtain rfl := oi h
 exact Tj ⟨(((hle101.trans hle106).trans hle112).trans hle117), rfl, hs54_1, hs54_2, hs54_3, rfl⟩
 exact Tz
 exact Tz
 exact Tz
 exact Tz
 rintro ρ97 M97 H97 ⟨hle97, rfl, hs97_1, hs97_2, hs97_3, hs97_94⟩
 have L97 := L88.trans hle97
 refine Cd (b := x96) hs97_94 (fun hb119 => ?_) (fun hb119 => ?_)
 have h := ite_t hb119 h
 refine Sr (qu (pt g21 7) (Fa fo25_7 hs97_1 rfl) (qu (Iv a0.At) (Lb 1 pl3 rfl rfl rfl) ?_))
 obtain ⟨r120, hr121, h⟩ := bnd h
 refine We (Ca co40 (f_ref07_no_ok ⟨#[112, 108, 97, 99, 101]⟩ a0.At (2 : Int) _ r120 hr121) (args3 rfl rfl rfl)) rfl ?_
 rintro _ M122 _ hle123 ⟨_, ⟨rfl, rfl⟩, rfl⟩
 refine WL.a0 (We (Sg (v := (a42_ r120)) (vl := (l42 r120)) (arr' := (l42 r120)) rfl sz42 hs97_2 rfl (onb rfl) rfl rfl rfl) rfl ?_)
 rintro _ _ _ - ⟨rfl, rfl⟩
 exact Nt (Cr (Tr (Qa (Dr (Rd h [] (fun _ hs => hs.drop) (resultsL1 rfl (Rc (cs := (l42 r120)) 0 ag42 sz42 hs97_2 rfl rfl)) (L97.trans hle123) ⟨rfl, rfl⟩)))))
 have h := ite_f hb119 h
 refine Ck (Tc (Cs (Cs (WC.draw [0, 1, 0, 4, 15, 31] (.pure 0 (.pure 1 (.pure 2 (.alt 3 (.alt 4 (.pure 5 .done) .none) .none)))) mixed (by kernel_rfl) (qt (pt g21 9) rfl (Fa fo25_9 hs97_1 rfl) (qt (Iv a0.High) rfl (Lb 1 pl3 rfl rfl rfl) (qt (Iv a0.Kind) rfl (Mv hs97_3) ?_)))))))
 obtain ⟨r125, hr126, h⟩ := bnd h
 refine Ta rfl (Ca co41 (f_ref07_has_ok a0.Kind (104 : Int) _ r125 hr126) (args2 rfl rfl)) rfl ?_ ?_
 rintro _ M127 _ hle128 ⟨_, ⟨rfl, rfl⟩, rfl⟩
 have L128 := L97.trans hle128
 refine ⟨(Sk 1 rfl (Ss rfl (Lb 1 pl3 rfl rfl rfl) rfl (Ss rfl (Fa fo25_9 hs97_1 rfl) rfl trivial))), ?_⟩
 refine WT.a0 ?_
 obtain ⟨r130, hr131, h⟩ := bnd h
 refine Ta rfl (Ca co42 (f_ref07_num_ok a0.High r125 (1073741824 : Int) _ r130 hr131) (args3 rfl rfl rfl)) rfl ?_ ?_
 rintro _ M132 _ hle133 ⟨_, ⟨rfl, rfl⟩, rfl⟩
 have L133 := L128.trans hle133
 refine ⟨(Sl rfl), ?_⟩
 refine WT.a0 (qt (Bv (!r130)) rfl (PO.not rfl) (Ti (Tc (Cd (b := !r130) rfl (fun hb135 => ?_) (fun hb135 => ?_)))))
 have h := ite_t hb135 h
 refine Sr (qu (pt g21 9) (Fa fo25_9 hs97_1 rfl) (qu (Iv a0.High) (Lb 1 pl3 rfl rfl rfl) ?_))
 obtain ⟨r136, hr137, h⟩ := bnd h
 refine We (Ca co40 (f_ref07_no_ok ⟨#[104, 105, 103, 104]⟩ a0.High (2 : Int) _ r136 hr137) (args3 rfl rfl rfl)) rfl ?_
 rintro _ M138 _ hle139 ⟨_, ⟨rfl, rfl⟩, rfl⟩
 refine WL.a0 (We (Sg (v := (a42_ r136)) (vl := (l42 r136)) (arr' := (l42 r136)) rfl sz42 hs97_2 rfl (onb rfl) rfl rfl rfl) rfl ?_)
 rintro _ _ _ - ⟨rfl, rfl⟩
 exact Nt (Cr (Tr (Qa (Dr (Rd h [] (fun _ hs => hs.drop) (resultsL1 rfl (Rc (cs := (l42 r136)) 0 ag42 sz42 hs97_2 rfl rfl)) (L133.trans hle139) ⟨rfl, rfl⟩)))))
 have h := ite_f hb135 h
 refine Ck (Tc (Cs (Cs (WC.draw [0, 1, 0, 4, 15, 31] (.pure 0 (.pure 1 (.pure 2 (.alt 3 (.alt 4 (.pure 5 .done) .none) .none)))) mixed (by kernel_rfl) (qt (pt g21 10) rfl (Fa fo25_10 hs97_1 rfl) (qt (Iv a0.Code) rfl (Lb 1 pl3 rfl rfl rfl) (qt (Iv a0.Kind) rfl (Mv hs97_3) ?_)))))))
 obtain ⟨r141, hr142, h⟩ := bnd h
 refine Ta rfl (Ca co41 (f_ref07_has_ok a0.Kind (99 : Int) _ r141 hr142) (args2 rfl rfl)) rfl ?_ ?_
 rintro _ M143 _ hle144 ⟨_, ⟨rfl, rfl⟩, rfl⟩
 have L144 := L133.trans hle144
 refine ⟨(Sk 1 rfl (Ss rfl (Lb 1 pl3 rfl rfl rfl) rfl (Ss rfl (Fa fo25_10 hs97_1 rfl) rfl trivial))), ?_⟩
 refine WT.a0 ?_
 obtain ⟨r146, hr147, h⟩ := bnd h
 refine Ta rfl (Ca co42 (f_ref07_num_ok a0.Code r141 (21 : Int) _ r146 hr147) (args3 rfl rfl rfl)) rfl ?_ ?_
 rintro _ M148 _ hle149 ⟨_, ⟨rfl, rfl⟩, rfl⟩
 have L149 := L144.trans hle149
 refine ⟨(Sl rfl), ?_⟩
 refine WT.a0 (qt (Bv (!r146)) rfl (PO.not rfl) (Ti (Tc (Cd (b := !r146) rfl (fun hb151 => ?_) (fun hb151 => ?_)))))
 have h := ite_t hb151 h
 refine Sr (qu (pt g21 10) (Fa fo25_10 hs97_1 rfl) (qu (Iv a0.Code) (Lb 1 pl3 rfl rfl rfl) ?_))
 obtain ⟨r152, hr153, h⟩ := bnd h
 refine We (Ca co40 (f_ref07_no_ok ⟨#[99, 111, 100, 101]⟩ a0.Code (2 : Int) _ r152 hr153) (args3 rfl rfl rfl)) rfl ?_
 rintro _ M154 _ hle155 ⟨_, ⟨rfl, rfl⟩, rfl⟩
 refine WL.a0 (We (Sg (v := (a42_ r152)) (vl := (l42 r152)) (arr' := (l42 r152)) rfl sz42 hs97_2 rfl (onb rfl) rfl rfl rfl) rfl ?_)
 rintro _ _ _ - ⟨rfl, rfl⟩
 exact Nt (Cr (Tr (Qa (Dr (Rd h [] (fun _ hs => hs.drop) (resultsL1 rfl (Rc (cs := (l42 r152)) 0 ag42 sz42 hs97_2 rfl rfl)) (L149.trans hle155) ⟨rfl, rfl⟩)))))
 have h := ite_f hb151 h
 refine Ck (Tc (Cs ?_))
 obtain ⟨x157, hj158, h⟩ := bnd h
 refine Jf (fun (x157 : Bool) ρ' M' H' => M148.le M' ∧ [(g22, .cells z42_.toArray 42 (0, 0))] :: [(g21, .cells (l25 a0 v0_11 v0_14).toArray 25 (0, 0))] :: F = H' ∧ ρ' 1 = (pt g21 0) ∧ ρ' 2 = (pt g22 0) ∧ ρ' 3 = (Iv a0.Kind) ∧ ρ' 129 = (Bv x157)) x157 ?_ ?_
 have h := hj158
 refine WC.draw [0, 1, 0, 4, 15, 31, 63, 127, 255, 127, 639, 2047, 4095, 8191] (.pure 0 (.pure 1 (.pure 2 (.alt 3 (.alt 4 (.pure 5 (.pure 6 (.pure 7 (.pure 8 (.pure 9 (.alt 10 (.alt 11 (.pure 12 (.pure 13 .done)) .none) .none)))))) .none) .none)))) mixed (by kernel_rfl) (qt (pt g21 12) rfl (Fa fo25_12 hs97_1 rfl) (qt (Iv a0.Size) rfl (Lb 1 pl3 rfl rfl rfl) (qt (Iv a0.Kind) rfl (Mv hs97_3) ?_)))
 obtain ⟨r159, hr160, h⟩ := bnd h
 refine Ta rfl (Ca co41 (f_ref07_has_ok a0.Kind (115 : Int) _ r159 hr160) (args2 rfl rfl)) rfl ?_ ?_
 rintro _ M161 _ hle162 ⟨_, ⟨rfl, rfl⟩, rfl⟩
 refine ⟨(Sk 1 rfl (Ss rfl (Lb 1 pl3 rfl rfl rfl) rfl (Ss rfl (Fa fo25_12 hs97_1 rfl) rfl trivial))), ?_⟩
 refine WT.a0 ?_
 obtain ⟨r164, hr165, h⟩ := bnd h
 refine Ta rfl (Ca co42 (f_ref07_num_ok a0.Size r159 (1073741824 : Int) _ r164 hr165) (args3 rfl rfl rfl)) rfl ?_ ?_
 rintro _ M166 _ hle167 ⟨_, ⟨rfl, rfl⟩, rfl⟩
 refine ⟨(Sl rfl), ?_⟩
 refine WT.a0 (qt (Bv (!r164)) rfl (PO.not rfl) (qt (Bv (!r164)) rfl (Mv rfl) ?_))
 rcases Bt (!r164) with hb169 | hb169
 have h := ite_t hb169 h
 refine Tf 122 rfl rfl rfl hb169 rfl (Tf 122 rfl rfl rfl hb169 rfl (Tf 122 rfl rfl rfl hb169 rfl (Tg 122 rfl rfl rfl hb169 rfl ⟨(Sk 1 rfl (St (Sf 122 rfl rfl rfl hb169 rfl) (St (Sf 122 rfl rfl rfl hb169 rfl) (Sl rfl)))), ?_⟩ ?_)))
 refine Tg 122 rfl rfl rfl hb169 rfl ⟨(Sl rfl), ?_⟩ ?_
 refine Tf 122 rfl rfl rfl hb169 rfl (qt (Bv true) rfl (Pt rfl hb169 rfl) (Ti ?_))
 obtain rfl := oi h
 exact Tj ⟨(hle162.trans hle167), rfl, hs97_1, hs97_2, hs97_3, rfl⟩
 exact Tz
 exact Tz
 have h := ite_f hb169 h
 refine Tn (pt g21 13) 122 rfl rfl rfl hb169 (Fa fo25_13 hs97_1 rfl) rfl (Tn (Iv a0.Pos) 122 rfl rfl rfl hb169 (Lb 1 pl3 rfl rfl rfl) rfl (Tn (Iv a0.Kind) 122 rfl rfl rfl hb169 (Mv hs97_3) rfl ?_))
 obtain ⟨r170, hr171, h⟩ := bnd h
 refine WT.altOn 122 rfl rfl rfl hb169 (Ca co41 (f_ref07_has_ok a0.Kind (111 : Int) _ r170 hr171) (args2 rfl rfl)) rfl ?_ ?_
 rintro _ M172 _ hle173 ⟨_, ⟨rfl, rfl⟩, rfl⟩
 refine ⟨(Sk 1 rfl (St (StabA.on 122 rfl rfl rfl hb169 (Lb 1 pl3 rfl rfl rfl) rfl) (St (StabA.on 122 rfl rfl rfl hb169 (Fa fo25_13 hs97_1 rfl) rfl) (Sl rfl)))), ?_⟩
 refine WT.a0 ?_
 obtain ⟨r175, hr176, h⟩ := bnd h
 refine WT.altOn 122 rfl rfl rfl hb169 (Ca co42 (f_ref07_num_ok a0.Pos r170 (1073741824 : Int) _ r175 hr176) (args3 rfl rfl rfl)) rfl ?_ ?_
 rintro _ M177 _ hle178 ⟨_, ⟨rfl, rfl⟩, rfl⟩
 refine ⟨(Sl rfl), ?_⟩
 refine WT.a0 (Tn (Bv (!r175)) 122 rfl rfl rfl hb169 (PO.not rfl) rfl (qt (Bv (!r175)) rfl (Pf rfl hb169 rfl) (Ti ?_)))
 obtain rfl := oi h
 exact Tj ⟨(((hle162.trans hle167).trans hle173).trans hle178), rfl, hs97_1, hs97_2, hs97_3, rfl⟩
 exact Tz
 exact Tz
 exact Tz
 exact Tz
 rintro ρ158 M158 H158 ⟨hle158, rfl, hs158_1, hs158_2, hs158_3, hs158_129⟩
 have L158 := L149.trans hle158
 refine Cd (b := x157) hs158_129 (fun hb180 => ?_) (fun hb180 => ?_)
 have h := ite_t hb180 h
 refine Sr (qu (pt g21 12) (Fa fo25_12 hs158_1 rfl) (qu (Iv a0.Size) (Lb 1 pl3 rfl rfl rfl) ?_))
 obtain ⟨r181, hr182, h⟩ := bnd h
 refine We (Ca co40 (f_ref07_no_ok ⟨#[115, 105, 122, 101]⟩ a0.Size (2 : Int) _ r181 hr182) (args3 rfl rfl rfl)) rfl ?_
 rintro _ M183 _ hle184 ⟨_, ⟨rfl, rfl⟩, rfl⟩
 refine WL.a0 (We (Sg (v := (a42_ r181)) (vl := (l42 r181)) (arr' := (l42 r181)) rfl sz42 hs158_2 rfl (onb rfl) rfl rfl rfl) rfl ?_)
 rintro _ _ _ - ⟨rfl, rfl⟩
 exact Nt (Cr (Tr (Qa (Dr (Rd h [] (fun _ hs => hs.drop) (resultsL1 rfl (Rc (cs := (l42 r181)) 0 ag42 sz42 hs158_2 rfl rfl)) (L158.trans hle184) ⟨rfl, rfl⟩)))))
 have h := ite_f hb180 h
 refine Ck (Tc (Cs ?_))
 obtain ⟨x186, hj187, h⟩ := bnd h
 refine Jf (fun (x186 : Bool) ρ' M' H' => M158.le M' ∧ [(g22, .cells z42_.toArray 42 (0, 0))] :: [(g21, .cells (l25 a0 v0_11 v0_14).toArray 25 (0, 0))] :: F = H' ∧ ρ' 1 = (pt g21 0) ∧ ρ' 2 = (pt g22 0) ∧ ρ' 3 = (Iv a0.Kind) ∧ ρ' 147 = (Bv x186)) x186 ?_ ?_
 have h := hj187
 refine Cg (qu (pt g21 14) (Fa fo25_14 hs158_1 rfl) (qu v0_14 (Lb 1 pl23 rfl rfl rfl) ?_))
 have h0_14 := h0_14.mono L158
 refine qu (Iv (a0.Data.length : Int)) (PO.lenS Tryz.underlying23 rfl h0_14.len) (qu (Bv (decide ((512 : Int) < (a0.Data.length : Int)))) (PO.gtr rfl rfl) (qm (Bv (decide ((512 : Int) < (a0.Data.length : Int)))) ?_))
 rcases Bt (decide ((512 : Int) < (a0.Data.length : Int))) with hb188 | hb188
 have h := ite_t hb188 h
 iterate 5 refine Of 137 rfl rfl hb188 rfl ?_
 refine WL.offU 142 rfl rfl rfl (WL.offU 142 rfl rfl rfl (WL.offU 142 rfl rfl rfl (Of 137 rfl rfl hb188 rfl (qu (Bv true) (Pt rfl hb188 rfl) (Wz ?_)))))
 obtain rfl := oi h
 exact Tj ⟨lr, rfl, hs158_1, hs158_2, hs158_3, rfl⟩
 have h := ite_f hb188 h
 refine qo 137 hb188 (pt g21 14) (Fa fo25_14 hs158_1 rfl) (qo 137 hb188 v0_14 (Lb 1 pl23 rfl rfl rfl) (qo 137 hb188 (Iv (a0.Data.length : Int)) (PO.lenS Tryz.underlying23 rfl h0_14.len) (qo 137 hb188 (Bv (decide ((0 : Int) < (a0.Data.length : Int)))) (PO.gtr rfl rfl) (On 137 rfl rfl hb188 (qm (Bv (decide ((0 : Int) < (a0.Data.length : Int)))) ?_)))))
 rcases Bt (decide ((0 : Int) < (a0.Data.length : Int))) with hb189 | hb189
 have h := ite_t hb189 h
 refine On 142 rfl rfl hb189 (qM (Iv a0.Kind) hs158_3 (On 142 rfl rfl hb189 ?_))
 obtain ⟨r190, hr191, h⟩ := bnd h
 refine We (Ca co41 (f_ref07_has_ok a0.Kind (100 : Int) _ r190 hr191) (args2 rfl rfl)) rfl ?_
 rintro _ M192 _ hle193 ⟨_, ⟨rfl, rfl⟩, rfl⟩
 refine WL.a0 (qo 142 hb189 (Bv (!r190)) (PO.not rfl) (qo 137 hb188 (Bv (!r190)) (Pt rfl hb189 rfl) (qu (Bv (!r190)) (Pf rfl hb188 rfl) (Wz ?_))))
 obtain rfl := oi h
 exact Tj ⟨hle193, rfl, hs158_1, hs158_2, hs158_3, rfl⟩
 have h := ite_f hb189 h
 iterate 3 refine Of 142 rfl rfl hb189 rfl ?_
 refine qo 137 hb188 (Bv false) (Pf rfl hb189 rfl) (qu (Bv false) (Pf rfl hb188 rfl) (Wz ?_))
 obtain rfl := oi h
 exact Tj ⟨lr, rfl, hs158_1, hs158_2, hs158_3, rfl⟩
 rintro ρ187 M187 H187 ⟨hle187, rfl, hs187_1, hs187_2, hs187_3, hs187_147⟩
 have L187 := L158.trans hle187
 refine Cd (b := x186) hs187_147 (fun hb195 => ?_) (fun hb195 => ?_)
 have h := ite_t hb195 h
 refine Sr (qu (pt g21 14) (Fa fo25_14 hs187_1 rfl) (qu v0_14 (Lb 1 pl23 rfl rfl rfl) ?_))
 have h0_14 := h0_14.mono L187
 refine qu (Iv (a0.Data.length : Int)) (PO.lenS Tryz.underlying23 rfl h0_14.len) ?_
 obtain ⟨r196, hr197, h⟩ := bnd h
 refine We (Ca co40 (f_ref07_no_ok ⟨#[100, 97, 116, 97]⟩ (a0.Data.length : Int) (6 : Int) _ r196 hr197) (args3 rfl rfl rfl)) rfl ?_
 rintro _ M198 _ hle199 ⟨_, ⟨rfl, rfl⟩, rfl⟩
 refine WL.a0 (We (Sg (v := (a42_ r196)) (vl := (l42 r196)) (arr' := (l42 r196)) rfl sz42 hs187_2 rfl (onb rfl) rfl rfl rfl) rfl ?_)
 rintro _ _ _ - ⟨rfl, rfl⟩
 exact Nt (Cr (Tr (Qa (Dr (Rd h [] (fun _ hs => hs.drop) (resultsL1 rfl (Rc (cs := (l42 r196)) 0 ag42 sz42 hs187_2 rfl rfl)) (L187.trans hle199) ⟨rfl, rfl⟩)))))
 have h := ite_f hb195 h
 refine Ck (Tc (Cs ?_))
 obtain ⟨x201, hj202, h⟩ := bnd h
 refine Jf (fun (x201 : Bool) ρ' M' H' => M187.le M' ∧ [(g22, .cells z42_.toArray 42 (0, 0))] :: [(g21, .cells (l25 a0 v0_11 v0_14).toArray 25 (0, 0))] :: F = H' ∧ ρ' 1 = (pt g21 0) ∧ ρ' 2 = (pt g22 0) ∧ ρ' 166 = (Bv x201)) x201 ?_ ?_
 have h := hj202
 refine Cg (qu (pt g21 11) (Fa fo25_11 hs187_1 rfl) (qu v0_11 (Lb 1 pl22 rfl rfl rfl) ?_))
 have h0_11 := h0_11.mono L187
 refine qu (Iv (a0.Batches.length : Int)) (PO.lenS Tryz.underlying22 rfl h0_11.len) (qu (Bv (decide ((8 : Int) < (a0.Batches.length : Int)))) (PO.gtr rfl rfl) (qm (Bv (decide ((8 : Int) < (a0.Batches.length : Int)))) ?_))
 rcases Bt (decide ((8 : Int) < (a0.Batches.length : Int))) with hb203 | hb203
 have h := ite_t hb203 h
 iterate 5 refine Of 156 rfl rfl hb203 rfl ?_
 refine WL.offU 161 rfl rfl rfl (WL.offU 161 rfl rfl rfl (WL.offU 161 rfl rfl rfl (Of 156 rfl rfl hb203 rfl (qu (Bv true) (Pt rfl hb203 rfl) (Wz ?_)))))
 obtain rfl := oi h
 exact Tj ⟨lr, rfl, hs187_1, hs187_2, rfl⟩
 have h := ite_f hb203 h
 refine qo 156 hb203 (pt g21 11) (Fa fo25_11 hs187_1 rfl) (qo 156 hb203 v0_11 (Lb 1 pl22 rfl rfl rfl) (qo 156 hb203 (Iv (a0.Batches.length : Int)) (PO.lenS Tryz.underlying22 rfl h0_11.len) (qo 156 hb203 (Bv (decide ((0 : Int) < (a0.Batches.length : Int)))) (PO.gtr rfl rfl) (On 156 rfl rfl hb203 (qm (Bv (decide ((0 : Int) < (a0.Batches.length : Int)))) ?_)))))
 rcases Bt (decide ((0 : Int) < (a0.Batches.length : Int))) with hb204 | hb204
 have h := ite_t hb204 h
 refine On 161 rfl rfl hb204 (qM (Iv a0.Kind) hs187_3 (On 161 rfl rfl hb204 ?_))
 obtain ⟨r205, hr206, h⟩ := bnd h
 refine We (Ca co41 (f_ref07_has_ok a0.Kind (98 : Int) _ r205 hr206) (args2 rfl rfl)) rfl ?_
 rintro _ M207 _ hle208 ⟨_, ⟨rfl, rfl⟩, rfl⟩
 refine WL.a0 (qo 161 hb204 (Bv (!r205)) (PO.not rfl) (qo 156 hb203 (Bv (!r205)) (Pt rfl hb204 rfl) (qu (Bv (!r205)) (Pf rfl hb203 rfl) (Wz ?_))))
 obtain rfl := oi h
 exact Tj ⟨hle208, rfl, hs187_1, hs187_2, rfl⟩
 have h := ite_f hb204 h
 iterate 3 refine Of 161 rfl rfl hb204 rfl ?_
 refine qo 156 hb203 (Bv false) (Pf rfl hb204 rfl) (qu (Bv false) (Pf rfl hb203 rfl) (Wz ?_))
 obtain rfl := oi h
 exact Tj ⟨lr, rfl, hs187_1, hs187_2, rfl⟩
 rintro ρ202 M202 H202 ⟨hle202, rfl, hs202_1, hs202_2, hs202_166⟩
 have L202 := L187.trans hle202
 refine Cd (b := x201) hs202_166 (fun hb210 => ?_) (fun hb210 => ?_)
 have h := ite_t hb210 h
 refine Sr (qu (pt g21 11) (Fa fo25_11 hs202_1 rfl) (qu v0_11 (Lb 1 pl22 rfl rfl rfl) ?_))
 have h0_11 := h0_11.mono L202
 refine qu (Iv (a0.Batches.length : Int)) (PO.lenS Tryz.underlying22 rfl h0_11.len) ?_
 obtain ⟨r211, hr212, h⟩ := bnd h
 refine We (Ca co40 (f_ref07_no_ok ⟨#[98, 97, 116, 99, 104, 101, 115]⟩ (a0.Batches.length : Int) (6 : Int) _ r211 hr212) (args3 rfl rfl rfl)) rfl ?_
 rintro _ M213 _ hle214 ⟨_, ⟨rfl, rfl⟩, rfl⟩
 refine WL.a0 (We (Sg (v := (a42_ r211)) (vl := (l42 r211)) (arr' := (l42 r211)) rfl sz42 hs202_2 rfl (onb rfl) rfl rfl rfl) rfl ?_)
 rintro _ _ _ - ⟨rfl, rfl⟩
 exact Nt (Cr (Tr (Qa (Dr (Rd h [] (fun _ hs => hs.drop) (resultsL1 rfl (Rc (cs := (l42 r211)) 0 ag42 sz42 hs202_2 rfl rfl)) (L202.trans hle214) ⟨rfl, rfl⟩)))))
 have h := ite_f hb210 h
 refine Ck (Tc ?_)
 obtain ⟨j216, hj216, h⟩ := bnd h
 refine WC.joinE (fun (_ : Unit) ρ' M' H' => M202.le M' ∧ [(g22, .cells z42_.toArray 42 (0, 0))] :: [(g21, .cells (l25 a0 v0_11 v0_14).toArray 25 (0, 0))] :: F = H' ∧ ρ' 2 = (pt g22 0)) j216 ?_ ?_
 have h3216 := h
 have h := hj216
 refine Sr (qa (Iv 0) (Nt (Bk ?_)))
 obtain ⟨e217, he217, hK217⟩ := bnd h
 clear h
 refine WC.loop he217 (fun (x218 : Int) ρ' M' H' => M202.le M' ∧ [(g22, .cells z42_.toArray 42 (0, 0))] :: [(g21, .cells (l25 a0 v0_11 v0_14).toArray 25 (0, 0))] :: F = H' ∧ ρ' 1 = (pt g21 0) ∧ ρ' 2 = (pt g22 0) ∧ ρ' 4 = (Iv x218)) ?_ ?_
 exact ⟨lr, rfl, hs202_1, hs202_2, rfl⟩
 rintro x218 o217 ρ217 M217 H217 h ⟨hle217, rfl, hs217_1, hs217_2, hs217_4⟩
 unfold f_ref07_Check_l0 at h
 refine Cs (Sr (qM (Iv x218) hs217_4 (qu (pt g21 11) (Fa fo25_11 hs217_1 rfl) (qu v0_11 (Lb 1 pl22 rfl rfl rfl) ?_))))
 have h0_11 := h0_11.mono (L202.trans hle217)
 refine qu (Iv (a0.Batches.length : Int)) (PO.lenS Tryz.underlying22 rfl h0_11.len) (qu (Bv (decide (x218 < (a0.Batches.length : Int)))) (PO.lss rfl rfl) (Nt (Cd (b := decide (x218 < (a0.Batches.length : Int))) rfl (fun hb223 => ?_) (fun hb223 => ?_))))
 have h := ite_t hb223 h
 refine Ck (Tc (Cs (Bk (Sr (qu (pt g21 11) (Fa fo25_11 hs217_1 rfl) (qu v0_11 (Lb 1 pl22 rfl rfl rfl) (qM (Iv x218) hs217_4 ?_)))))))
 obtain ⟨hg224, h⟩ := grd_i h
 obtain ⟨p225, cs226, hat227, hrc228, hhas229⟩ := h0_11.at hg224.1 hg224.2 (by decide)
 obtain ⟨vw230_2, rfl, hw230_2⟩ := kd_api_Batch_open hrc228
 refine qu (.pointer (some p225)) (PO.indexAddr (n := a0.Batches.length) Tryz.underlying22 sz55 rfl rfl hg224.1 hg224.2 hat227) (qu (a55_ (rd a0.Batches x218) vw230_2) (PO.loadMA (cs := (l55 (rd a0.Batches x218) vw230_2)) ag55 sz55 rfl hhas229) ?_)
 obtain ⟨r231, hr232, h⟩ := bnd h
 refine We (Ca co43 (f_ref06_Check_ok (rd a0.Batches x218) _ _ hw230_2 r231 hr232) (args1 rfl)) rfl ?_
 rintro _ M233 _ hle234 ⟨_, ⟨rfl, rfl⟩, rfl⟩
 refine WL.a0 (We (Al ze42 rfl) rfl ?_)
 rintro _ _ _ - ⟨rfl, g236, rfl, rfl⟩
 refine We (Sg (v := (a42_ r231)) (vl := (l42 r231)) (arr' := (l42 r231)) rfl sz42 rfl rfl (onb rfl) rfl rfl rfl) rfl ?_
 rintro _ _ _ - ⟨rfl, rfl⟩
 refine Ns (qu (pt g236 0) (Fa fo42_0 rfl rfl) (qu (pt g236 2) (Fa fo40_2 rfl rfl) (qu (Iv r231.W.Code) (Lb 0 pl38 rfl rfl rfl) (qu (Bv (decide (r231.W.Code ≠ 0))) (PO.neq rfl rfl) (Nt (Cd (b := decide (r231.W.Code ≠ 0)) rfl (fun hb237 => ?_) (fun hb237 => ?_)))))))
 have h := ite_t hb237 h
 refine Sr (qu (pt g236 0) (Fa fo42_0 rfl rfl) (qu (pt g236 0) (Fa fo40_0 rfl rfl) (qu (Sv r231.W.Op) (Lb 0 pl9 rfl rfl rfl) (qM (Iv x218) hs217_4 (qu (pt g236 0) (Fa fo42_0 rfl rfl) (qu (pt g236 2) (Fa fo40_2 rfl rfl) (qu (Iv r231.W.Code) (Lb 0 pl38 rfl rfl rfl) (qu (.agg #[(Sv r231.W.Op), (Iv x218), (Iv r231.W.Code)]) (Bl (cl := [(Sv r231.W.Op), (Iv x218), (Iv r231.W.Code)]) ze40 fp40 (Pc (Sv r231.W.Op) rfl rfl (Pc (Iv x218) rfl rfl (Pc (Iv r231.W.Code) rfl rfl Pz))) rfl) (qu (.agg #[(Sv r231.W.Op), (Iv x218), (Iv r231.W.Code), (Iv (-1 : Int))]) (Bl (cl := [(Sv r231.W.Op), (Iv x218), (Iv r231.W.Code), (Iv (-1 : Int))]) ze42 fp42 (Pc (.agg #[(Sv r231.W.Op), (Iv x218), (Iv r231.W.Code)]) rfl rfl (Pc (Iv (-1 : Int)) rfl rfl Pz)) rfl) (WL.f1 (We (Sg (v := (.agg #[(Sv r231.W.Op), (Iv x218), (Iv r231.W.Code), (Iv (-1 : Int))])) (vl := [(Sv r231.W.Op), (Iv x218), (Iv r231.W.Code), (Iv (-1 : Int))]) (arr' := [(Sv r231.W.Op), (Iv x218), (Iv r231.W.Code), (Iv (-1 : Int))]) rfl sz42 hs217_2 rfl (onb rfl) rfl rfl rfl) rfl ?_)))))))))))
 rintro _ _ _ - ⟨rfl, rfl⟩
 refine Nt (Cr (Br (Tr (WQ.leaveR (Sum.inr (r231.W.Op, x218, r231.W.Code, (-1 : Int))) (oi h).symm (fun heq217 => ?_)))))
 subst heq217
 have h := (elimR hK217)
 refine Br (Tr ?_)
 have h := KK.early h h3216
 exact Qa (Dr (Qa (Dr (Rd h [] (fun _ hs => hs.drop) (resultsL1 rfl (Rc (cs := [(Sv r231.W.Op), (Iv x218), (Iv r231.W.Code), (Iv (-1 : Int))]) 0 ag42 sz42 hs217_2 rfl rfl)) ((L202.trans hle217).trans hle234) ⟨rfl, rfl⟩))))
 have h := ite_f hb237 h
 exact Ck (Bn (Tc (Cg (qM (Iv x218) hs217_4 (qu (Iv (IntKind.i64.wrap (x218 + 1))) (PO.add rfl rfl) (qa (Iv (IntKind.i64.wrap (x218 + 1))) (Wz (Dr (WQ.again (IntKind.i64.wrap (x218 + 1)) (oi h).symm ⟨(hle217.trans hle234), rfl, hs217_1, hs217_2, rfl⟩)))))))))
 have h := ite_f hb223 h
 refine WC.exit (WQ.thenE (WQ.leaveE (Sum.inl ()) (oi h).symm (fun heq217 => ?_)))
 subst heq217
 have h := elimL hK217
 exact WQ.blockH (WQ.thenFE h ⟨hle217, rfl, hs217_2⟩)
 rintro _ ρ216 M216 H216 rfl ⟨hle216, rfl, hs216_2⟩
 have h := (Sum.elim_inl _ _ _).symm.trans h
 refine Sr (qu (.agg #[(Sv ⟨#[]⟩), (Iv 0), (Iv 0), (Iv (-1 : Int))]) (Bl (cl := [(Sv ⟨#[]⟩), (Iv 0), (Iv 0), (Iv (-1 : Int))]) ze42 fp42 (Pc (Iv (-1 : Int)) rfl rfl Pz) rfl) (We (Sg (v := (.agg #[(Sv ⟨#[]⟩), (Iv 0), (Iv 0), (Iv (-1 : Int))])) (vl := [(Sv ⟨#[]⟩), (Iv 0), (Iv 0), (Iv (-1 : Int))]) (arr' := [(Sv ⟨#[]⟩), (Iv 0), (Iv 0), (Iv (-1 : Int))]) rfl sz42 hs216_2 rfl (onb rfl) rfl rfl rfl) rfl ?_))
 rintro _ _ _ - ⟨rfl, rfl⟩
 exact Nt (Cr (Qa (Dr (Rd h [] (fun _ hs => hs.drop) (resultsL1 rfl (Rc (cs := [(Sv ⟨#[]⟩), (Iv 0), (Iv 0), (Iv (-1 : Int))]) 0 ag42 sz42 hs216_2 rfl rfl)) (L202.trans hle216) ⟨rfl, rfl⟩))))
 exact Tz
 exact Tz
 exact Tz
 exact Tz
 exact Tz
 exact Tz

noncomputable def f_errors_as_fault_l0 (a1 : T_api_Fault) (s_ : GErr) : Option (GErr ⊕ (Bool × ByteArray × Int × GErr)) :=
  match s_ with
  | x23 =>
    (match x23 with | .nil => none | .code n28 => (some (Sum.inr (false, a1.Op, a1.At, a1.Err))) | .fault o29 a30 e31 => (some (Sum.inr (true, o29, a30, e31))) | .other b32 => (some (Sum.inr (false, a1.Op, a1.At, a1.Err))))
noncomputable def f_errors_as_fault (a0 : GErr) (a1 : T_api_Fault) : Option (Bool × ByteArray × Int × GErr) :=
  ((iter (f_errors_as_fault_l0 a1) a0).bind (fun (x24, x25, x26, x27) => (some (x24, x25, x26, x27))))
def f_errors_as_fault_post (a0 : GErr) (a1 : T_api_Fault) (g1 g2 : Nat) : (Bool × ByteArray × Int × GErr) → Value → IM → HL → Prop :=
  fun (p_ : (Bool × ByteArray × Int × GErr)) (v : Value) (M' : IM) (H' : HL) => match p_ with | (r0, r1, r2, r3) => (.bool r0) = v ∧ H' = [[(g1, .cells #[(.string r1), (.int .i64 r2), (GV r3)] 108 (0, 0))], [(g2, .cells #[(.pointer (some ⟨g1, 0, none⟩))] 118 (0, 0))]]
theorem f_errors_as_fault_ok (a0 : GErr) (a1 : T_api_Fault) (M : IM) (g1 g2 : Nat) (res : (Bool × ByteArray × Int × GErr)) (h : f_errors_as_fault a0 a1 = some res) :
    Tri Tryz.prog 111 #[(GV a0), (.iface 118 (pt g1 0)), (.agg #[(pt 1 118), (pt g2 0), (Uv 150)]), (.iface 184 (.agg #[.pointer (some ⟨1, 108, none⟩)]))] M [[(g1, .cells (l108 a1).toArray 108 (0, 0))], [(g2, .cells #[(pt g1 0)] 118 (0, 0))]] (f_errors_as_fault_post a0 a1 g1 g2 res) := by
 unfold f_errors_as_fault at h
 refine Te Tryz.func111 rfl rfl ?_
 intro F ρ hρ
 refine Sr (We (EO.box (cs := #[(pt 1 118), (pt g2 0), (Uv 150)]) (congrArg Value.cells (asE (.agg #[(pt 1 118), (pt g2 0), (Uv 150)]) (hρ 2)))) rfl ?_)
 rintro _ _ _ - ⟨rfl, g21, rfl, rfl⟩
 refine qa (Bv false) (Nt (Bk ?_))
 obtain ⟨e22, he22, hK22⟩ := bnd h
 clear h
 refine WC.loop he22 (fun (x23 : GErr) ρ' M' H' => M.le M' ∧ [(g21, .cells #[(pt 1 118), (pt g2 0), (Uv 150)] 153 (0, 0))] :: [(g1, .cells (l108 a1).toArray 108 (0, 0))] :: [(g2, .cells #[(pt g1 0)] 118 (0, 0))] :: F = H' ∧ ρ' 0 = (GV x23) ∧ ρ' 1 = (.iface 118 (pt g1 0)) ∧ ρ' 3 = (.iface 184 (.agg #[.pointer (some ⟨1, 108, none⟩)])) ∧ ρ' 6 = (pt g21 0)) ?_ ?_
 exact ⟨lr, rfl, (hρ 0), (hρ 1), (hρ 3), rfl⟩
 rintro x23 o22 ρ22 M22 H22 h ⟨hle22, rfl, hs22_0, hs22_1, hs22_3, hs22_6⟩
 unfold f_errors_as_fault_l0 at h
 refine Bk (Cs (Sr (qM (GV x23) hs22_0 ?_)))
 rcases x23 with _ | n28 | ⟨o29, a30, e31⟩ | b32
 refine We (EO.extP xt91 (args1 (show ev _ _ = .nilIface from rfl)) tyNil) rfl ?_
 rintro _ _ _ - ⟨rfl, rfl, rfl⟩
 exact qM (.iface 184 (.agg #[.pointer (some ⟨1, 108, none⟩)])) hs22_3 (nones h)
 refine We (EO.extP xt91 (args1 (show ev _ _ = (.iface 38 (Iv n28)) from rfl)) (ty38 _)) rfl ?_
 rintro _ _ _ - ⟨rfl, rfl, rfl⟩
 refine qM (.iface 184 (.agg #[.pointer (some ⟨1, 108, none⟩)])) hs22_3 (We (EO.invE (show ev _ _ = (.iface 184 (.agg #[.pointer (some ⟨1, 38, none⟩)])) from rfl) (mm_AssignableTo (pt 1 38)) xt173 (inv1 rfl) mr_AssignableTo_38_108) rfl ?_)
 rintro _ _ _ - ⟨rfl, rfl, rfl⟩
 refine Nt (WC.condF (b := false) rfl rfl (Ck (Tc (Cs (Sr (qM (GV (GErr.code n28)) hs22_0 (qu (.tuple #[.nilIface, (Bv false)]) (PO.asserts (show ev _ _ = (.iface 38 (Iv n28)) from rfl) (la38_196 _ _)) (qm (.tuple #[.nilIface, (Bv false)]) (qu .nilIface (Xt rfl rfl) (qu (Bv false) (Xt rfl rfl) (qa .nilIface ?_)))))))))))
 refine qa (Bv false) (Ns (qm (Bv false) (qm (Bv false) ?_)))
 iterate 3 refine Of 31 rfl rfl rfl rfl ?_
 refine qu (Bv false) (Pf rfl rfl rfl) (Nt (WC.condF (b := false) rfl rfl (Ck (Tc (Sr (qM (GV (GErr.code n28)) hs22_0 (Nt (Bk (Sr (qu (.tuple #[.nilIface, (Bv false)]) (PO.asserts (show ev _ _ = (.iface 38 (Iv n28)) from rfl) (la38_189 _ _)) (qu (Bv false) (Xt rfl rfl) ?_)))))))))))
 refine qu .nilIface (Xt rfl rfl) (Nt (WC.condF (b := false) rfl rfl (Sr (qu (.tuple #[.nilIface, (Bv false)]) (PO.asserts (show ev _ _ = (.iface 38 (Iv n28)) from rfl) (la38_190 _ _)) (qu (Bv false) (Xt rfl rfl) (qu .nilIface (Xt rfl rfl) (Nt (WC.condF (b := false) rfl rfl (Sr (qa (GV (GErr.code n28)) (Ns ?_)))))))))))
 refine qa (Bv false) (Nt (Cr (Br (Br (WQ.leaveR (false, a1.Op, a1.At, a1.Err) (oi h).symm (fun heq22 => ?_))))))
 subst heq22
 have h := hK22
 exact Br (Dr (Rf h [[(g1, .cells (l108 a1).toArray 108 (0, 0))], [(g2, .cells #[(pt g1 0)] 118 (0, 0))]] rfl (Rs rfl rfl) hle22 ⟨rfl, rfl⟩))
 refine We (EO.extP xt91 (args1 (show ev _ _ = (.iface 108 (.agg #[.string o29, .int .i64 a30, GV e31])) from rfl)) (ty108 _)) rfl ?_
 rintro _ _ _ - ⟨rfl, rfl, rfl⟩
 refine qM (.iface 184 (.agg #[.pointer (some ⟨1, 108, none⟩)])) hs22_3 (We (EO.invE (show ev _ _ = (.iface 184 (.agg #[.pointer (some ⟨1, 108, none⟩)])) from rfl) (mm_AssignableTo (pt 1 108)) xt173 (inv1 rfl) mr_AssignableTo_108_108) rfl ?_)
 rintro _ _ _ - ⟨rfl, rfl, rfl⟩
 refine Nt (WC.condT (b := true) rfl rfl (Sr (qu (.agg #[(pt 1 118), (pt g2 0), (Uv 150)]) (La (cs := [(pt 1 118), (pt g2 0), (Uv 150)]) 0 ag153 sz153 hs22_6 rfl rfl) (We (EO.rvElem (r := fun p => .agg #[(pt 1 108), .pointer (some p), .int .u64 409]) 2 xt137 pp118_150 rfl pl118 el118 mk108 (args1 (show ev _ _ = (.agg #[(pt 1 118), (pt g2 0), (Uv 150)]) from rfl)) rfl) rfl ?_))))
 rintro _ _ _ - ⟨rfl, rfl, rfl⟩
 refine qM (GV (GErr.fault o29 a30 e31)) hs22_0 (We (EO.valueOf xt108 (args1 (show ev _ _ = (.iface 108 (.agg #[.string o29, .int .i64 a30, GV e31])) from rfl)) (vo108 o29 a30 (GV e31))) rfl ?_)
 rintro _ _ _ - ⟨rfl, g33, rfl, rfl⟩
 refine Wb (We (EO.rvSet (arr := (l108 a1)) (vl := [(Sv o29), (Iv a30), (GV e31)]) (v := (.agg #[(Sv o29), (Iv a30), (GV e31)])) xt138 pp108_409 pp108_153 rfl da108 (args2 (show ev _ _ = (.agg #[(pt 1 108), (pt g1 0), (Uv 409)]) from rfl) (show ev _ _ = (.agg #[(pt 1 108), (pt g33 0), (Uv 153)]) from rfl)) (fun _ hs => run_loadAgg (cs := [(Sv o29), (Iv a30), (GV e31)]) ag108 sz108 (fun i v hi => by rw [add_lit]; exact hs.cellC 1 rfl (chunkCell_lit.trans (by simpa using hi)))) rfl sz108 rfl (onesOf (Oc rfl (Oc rfl (Oc (GErr.val_one _ _ _ _) Oz))))) rfl ?_)
 rintro _ _ _ - ⟨rfl, rfl, rfl⟩
 refine Ns (qa (Bv true) (Nt (Cr (Tr (Br (WQ.leaveR (true, o29, a30, e31) (oi h).symm (fun heq22 => ?_)))))))
 subst heq22
 have h := hK22
 exact Br (Qa (Dr (Qa (Dr (Rf h [[(g1, .cells #[(Sv o29), (Iv a30), (GV e31)] 108 (0, 0))], [(g2, .cells #[(pt g1 0)] 118 (0, 0))]] rfl (Rs rfl rfl) hle22 ⟨rfl, rfl⟩)))))
 refine We (EO.extP xt91 (args1 (show ev _ _ = (.iface 0 (.pointer (some b32))) from rfl)) (ty0 _)) rfl ?_
 rintro _ _ _ - ⟨rfl, rfl, rfl⟩
 refine qM (.iface 184 (.agg #[.pointer (some ⟨1, 108, none⟩)])) hs22_3 (We (EO.invE (show ev _ _ = (.iface 184 (.agg #[.pointer (some ⟨1, 0, none⟩)])) from rfl) (mm_AssignableTo (pt 1 0)) xt173 (inv1 rfl) mr_AssignableTo_0_108) rfl ?_)
 rintro _ _ _ - ⟨rfl, rfl, rfl⟩
 refine Nt (WC.condF (b := false) rfl rfl (Ck (Tc (Cs (Sr (qM (GV (GErr.other b32)) hs22_0 (qu (.tuple #[.nilIface, (Bv false)]) (PO.asserts (show ev _ _ = (.iface 0 (.pointer (some b32))) from rfl) (la0_196 _ _)) (qm (.tuple #[.nilIface, (Bv false)]) (qu .nilIface (Xt rfl rfl) (qu (Bv false) (Xt rfl rfl) (qa .nilIface ?_)))))))))))
 refine qa (Bv false) (Ns (qm (Bv false) (qm (Bv false) ?_)))
 iterate 3 refine Of 31 rfl rfl rfl rfl ?_
 refine qu (Bv false) (Pf rfl rfl rfl) (Nt (WC.condF (b := false) rfl rfl (Ck (Tc (Sr (qM (GV (GErr.other b32)) hs22_0 (Nt (Bk (Sr (qu (.tuple #[.nilIface, (Bv false)]) (PO.asserts (show ev _ _ = (.iface 0 (.pointer (some b32))) from rfl) (la0_189 _ _)) (qu (Bv false) (Xt rfl rfl) ?_)))))))))))
 refine qu .nilIface (Xt rfl rfl) (Nt (WC.condF (b := false) rfl rfl (Sr (qu (.tuple #[.nilIface, (Bv false)]) (PO.asserts (show ev _ _ = (.iface 0 (.pointer (some b32))) from rfl) (la0_190 _ _)) (qu (Bv false) (Xt rfl rfl) (qu .nilIface (Xt rfl rfl) (Nt (WC.condF (b := false) rfl rfl (Sr (qa (GV (GErr.other b32)) (Ns ?_)))))))))))
 refine qa (Bv false) (Nt (Cr (Br (Br (WQ.leaveR (false, a1.Op, a1.At, a1.Err) (oi h).symm (fun heq22 => ?_))))))
 subst heq22
 have h := hK22
 exact Br (Dr (Rf h [[(g1, .cells (l108 a1).toArray 108 (0, 0))], [(g2, .cells #[(pt g1 0)] 118 (0, 0))]] rfl (Rs rfl rfl) hle22 ⟨rfl, rfl⟩))

noncomputable def f_errors_As_fault (a0 : GErr) (a1 : T_api_Fault) : Option (Bool × ByteArray × Int × GErr) :=
  (if a0.isNil = true then (some (false, a1.Op, a1.At, a1.Err)) else ((f_errors_as_fault a0 a1).bind fun (r24, r25, r26, r27) => (some (r24, r25, r26, r27))))
def f_errors_As_fault_post (a0 : GErr) (a1 : T_api_Fault) (g1 : Nat) : (Bool × ByteArray × Int × GErr) → Value → IM → HL → Prop :=
  fun (p_ : (Bool × ByteArray × Int × GErr)) (v : Value) (M' : IM) (H' : HL) => match p_ with | (r0, r1, r2, r3) => (.bool r0) = v ∧ H' = [[(g1, .cells #[(.string r1), (.int .i64 r2), (GV r3)] 108 (0, 0))]]
theorem f_errors_As_fault_ok (a0 : GErr) (a1 : T_api_Fault) (M : IM) (g1 : Nat) (hE : Env M) (res : (Bool × ByteArray × Int × GErr)) (h : f_errors_As_fault a0 a1 = some res) :
    Tri Tryz.prog 75 #[(GV a0), (.iface 118 (pt g1 0))] M [[(g1, .cells (l108 a1).toArray 108 (0, 0))]] (f_errors_As_fault_post a0 a1 g1 res) := by
 unfold f_errors_As_fault at h
 refine Te Tryz.func75 rfl rfl ?_
 intro F ρ hρ
 refine Sr (qa (Bv false) (Nt (Cs (Sr (qM (GV a0) (hρ 0) (qu (Bv a0.isNil) (PO.errNil Tryz.underlying31 rfl) (Nt (Cd (b := a0.isNil) rfl (fun hb21 => ?_) (fun hb21 => ?_)))))))))
 have h := ite_t hb21 h
 exact Sr (qa (Bv false) (Nt (Cr (Tr (Rf h [[(g1, .cells (l108 a1).toArray 108 (0, 0))]] rfl (Rs rfl rfl) lr ⟨rfl, rfl⟩)))))
 have h := ite_f hb21 h
 refine Ck (Tc (Cs (Sr (qM (.iface 118 (pt g1 0)) (hρ 1) (qu (Bv false) (PO.ifcNil Tryz.underlying20 rfl) (Nt (WC.condF (b := false) rfl rfl (Ck (Tc (Sr (qM (.iface 118 (pt g1 0)) (hρ 1) ?_)))))))))))
 refine We (EO.valueOf xt108 (args1 (show ev _ _ = (.iface 118 (pt g1 0)) from rfl)) (vo118 ⟨g1, 0, none⟩)) rfl ?_
 rintro _ _ _ - ⟨rfl, g22, rfl, rfl⟩
 refine We (Al ze153 rfl) rfl ?_
 rintro _ _ _ - ⟨rfl, g23, rfl, rfl⟩
 refine We (Sg (v := (.agg #[(pt 1 118), (pt g22 0), (Uv 150)])) (vl := [(pt 1 118), (pt g22 0), (Uv 150)]) (arr' := [(pt 1 118), (pt g22 0), (Uv 150)]) rfl sz153 rfl rfl (onb rfl) rfl rfl rfl) rfl ?_
 rintro _ _ _ - ⟨rfl, rfl⟩
 refine Ns (qu (.agg #[(pt 1 118), (pt g22 0), (Uv 150)]) (La (cs := [(pt 1 118), (pt g22 0), (Uv 150)]) 0 ag153 sz153 rfl rfl rfl) (We (EO.extP xt109 (args1 (show ev _ _ = (.agg #[(pt 1 118), (pt g22 0), (Uv 150)]) from rfl)) (vt118_150 _)) rfl ?_))
 rintro _ _ _ - ⟨rfl, rfl, rfl⟩
 refine qa (.iface 184 (.agg #[.pointer (some ⟨1, 118, none⟩)])) (Nt (Cs (Sr (qm (.iface 184 (.agg #[.pointer (some ⟨1, 118, none⟩)])) (We (EO.invE (show ev _ _ = (.iface 184 (.agg #[.pointer (some ⟨1, 118, none⟩)])) from rfl) (mm_Kind (pt 1 118)) xt163 inv0 mr_Kind_118) rfl ?_)))))
 rintro _ _ _ - ⟨rfl, rfl, rfl⟩
 refine qu (Bv false) (PO.neqR rfl rfl (by decide)) (qm (Bv false) (qo 20 rfl (.agg #[(pt 1 118), (pt g22 0), (Uv 150)]) (La (cs := [(pt 1 118), (pt g22 0), (Uv 150)]) 0 ag153 sz153 rfl rfl rfl) (On 20 rfl rfl rfl (We (EO.isNil 1 xt110 pp118_150 rfl pl118 (args1 (show ev _ _ = (.agg #[(pt 1 118), (pt g22 0), (Uv 150)]) from rfl)) rfl) rfl ?_))))
 rintro _ _ _ - ⟨rfl, rfl, rfl⟩
 refine qu (Bv false) (Pf rfl rfl rfl) (Nt (WC.condF (b := false) rfl rfl (Ck (Tc (Sr (qm (.iface 184 (.agg #[.pointer (some ⟨1, 118, none⟩)])) (We (EO.invE (show ev _ _ = (.iface 184 (.agg #[.pointer (some ⟨1, 118, none⟩)])) from rfl) (mm_Elem (pt 1 118)) xt175 inv0 mr_Elem_118) rfl ?_)))))))
 rintro _ _ _ - ⟨rfl, rfl, rfl⟩
 refine qa (.iface 184 (.agg #[.pointer (some ⟨1, 108, none⟩)])) (Nt (Cs (Sr (qm (.iface 184 (.agg #[.pointer (some ⟨1, 108, none⟩)])) (We (EO.invE (show ev _ _ = (.iface 184 (.agg #[.pointer (some ⟨1, 108, none⟩)])) from rfl) (mm_Kind (pt 1 108)) xt163 inv0 mr_Kind_108) rfl ?_)))))
 rintro _ _ _ - ⟨rfl, rfl, rfl⟩
 refine qu (Bv true) (PO.neqR rfl rfl (by decide)) (qm (Bv true) (On 30 rfl rfl rfl (qm (.iface 184 (.agg #[.pointer (some ⟨1, 108, none⟩)])) (qo 30 rfl (.iface 184 (.agg #[.pointer (some ⟨1, 31, none⟩)])) (PO.loadG pl138 hE) (On 30 rfl rfl rfl (We (EO.invE (show ev _ _ = (.iface 184 (.agg #[.pointer (some ⟨1, 108, none⟩)])) from rfl) (mm_Implements (pt 1 108)) xt176 (inv1 rfl) mr_Implements_108_31) rfl ?_))))))
 rintro _ _ _ - ⟨rfl, rfl, rfl⟩
 refine qo 30 rfl (Bv (!true)) (PO.not rfl) (qu (Bv (!true)) (Pt rfl rfl rfl) (Nt (WC.condF (b := !true) rfl rfl (Ck (Tc (Sr (qM (GV a0) (hρ 0) (qM (.iface 118 (pt g1 0)) (hρ 1) (qu (.agg #[(pt 1 118), (pt g22 0), (Uv 150)]) (La (cs := [(pt 1 118), (pt g22 0), (Uv 150)]) 0 ag153 sz153 rfl rfl rfl) (qm (.iface 184 (.agg #[.pointer (some ⟨1, 108, none⟩)])) ?_))))))))))
 obtain ⟨⟨r24, r25, r26, r27⟩, hr28, h⟩ := bnd h
 refine WL.f1 (Wb (We (EO.call2 co111 (f_errors_as_fault_ok a0 a1 _ _ _ (r24, r25, r26, r27) hr28) (args4 rfl rfl rfl rfl)) rfl ?_))
 rintro _ M29 _ hle30 ⟨_, ⟨rfl, rfl⟩, rfl⟩
 exact WL.a2 (qa (Bv r24) (Nt (Cr (Qa (Dr (Qa (Dr (Rf h [[(g1, .cells #[(Sv r25), (Iv r26), (GV r27)] 108 (0, 0))]] rfl (Rs rfl rfl) hle30 ⟨rfl, rfl⟩))))))))

noncomputable def f_fault_Where (a0 : GErr) : Option (Int × Bool) :=
  ((f_errors_As_fault a0 (⟨(⟨#[]⟩ : ByteArray), (0 : Int), GErr.nil⟩ : T_api_Fault)).bind fun (r22, r23, r24, r25) => (if (!r22) = true then (some ((0 : Int), false)) else (some (r24, true))))
def f_fault_Where_post (a0 : GErr) : (Int × Bool) → Value → IM → HL → Prop :=
  fun (p_ : (Int × Bool)) (v : Value) (M' : IM) (H' : HL) => match p_ with | (r0, r1) => (.tuple #[(.int .i64 r0), (.bool r1)]) = v ∧ H' = []
theorem f_fault_Where_ok (a0 : GErr) (M : IM) (hE : Env M) (res : (Int × Bool)) (h : f_fault_Where a0 = some res) :
    Tri Tryz.prog 44 #[(GV a0)] M [] (f_fault_Where_post a0 res) := by
 unfold f_fault_Where at h
 refine Te Tryz.func44 rfl rfl ?_
 intro F ρ hρ
 refine Sr (qa (Iv 0) (qa (Bv false) (Ns (We (Al ze108 rfl) rfl ?_))))
 rintro _ _ _ - ⟨rfl, g21, rfl, rfl⟩
 refine Nt (Cs (Sr (qM (GV a0) (hρ 0) (qu (.iface 118 (pt g21 0)) (PO.makeInterface cc118 rfl) ?_))))
 obtain ⟨⟨r22, r23, r24, r25⟩, hr26, h⟩ := bnd h
 refine We (Cb co75 (f_errors_As_fault_ok a0 (⟨(⟨#[]⟩ : ByteArray), (0 : Int), GErr.nil⟩ : T_api_Fault) _ _ hE (r22, r23, r24, r25) hr26) (args2 rfl rfl)) rfl ?_
 rintro _ M27 _ hle28 ⟨_, ⟨rfl, rfl⟩, rfl⟩
 refine WL.a1 (qu (Bv (!r22)) (PO.not rfl) (Nt (Cd (b := !r22) rfl (fun hb30 => ?_) (fun hb30 => ?_))))
 have h := ite_t hb30 h
 exact Sr (qa (Iv 0) (qa (Bv false) (Nt (Cr (Tr (Dr (Rf h [] rfl (results2 rfl rfl rfl) hle28 ⟨rfl, rfl⟩)))))))
 have h := ite_f hb30 h
 exact Ck (Tc (Sr (qu (pt g21 1) (Fa fo108_1 rfl rfl) (qu (Iv r24) (Lb 0 pl3 rfl rfl rfl) (qa (Iv r24) (qa (Bv true) (Nt (Cr (Dr (Rf h [] rfl (results2 rfl rfl rfl) hle28 ⟨rfl, rfl⟩))))))))))


end Go.Proofs.YtkflneabcannnaaGreatDoor.G
