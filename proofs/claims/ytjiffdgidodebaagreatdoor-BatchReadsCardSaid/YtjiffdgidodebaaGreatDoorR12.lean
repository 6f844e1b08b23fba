/- Go functions: what they come to, and that they do. Printed by a program of the session (gen). -/
import Derived.Test.YtjiffdgidodebaaGreatDoorRF
import Derived.Test.YtjiffdgidodebaaGreatDoorR11
import Derived.Test.YtjiffdgidodebaaGreatDoorKShar2
import Derived.Test.YtjiffdgidodebaaGreatDoorKConv
import Derived.Test.YtjiffdgidodebaaGreatDoorKTight
set_option linter.unusedVariables false
set_option linter.unusedSimpArgs false
set_option maxHeartbeats 8000000
set_option maxRecDepth 100000
namespace Go.Proofs.YtjiffdgidodebaaGreatDoor.G
open Go Go.KK

noncomputable def f_ref05_Check (a0 : T_api_Record) : Option T_ref05_Wrong :=
  (((if (decide (a0.Kind < (1 : Int))) = true then (some true) else (some (decide ((12 : Int) < a0.Kind)))) : Option Bool).bind fun (x23 : Bool) => (if x23 = true then (some (⟨(⟨#[107, 105, 110, 100]⟩ : ByteArray), a0.Kind, (5 : Int)⟩ : T_ref05_Wrong)) else ((f_ref05_numbers a0).bind fun (r27 : T_ref05_Wrong) => (if (decide (r27.Code ≠ (0 : Int))) = true then (some r27) else (((if a0.Flag = true then ((f_ref05_has a0.Kind (102 : Int)).bind fun (r37 : Bool) => (some (!r37))) else (some false)) : Option Bool).bind fun (x34 : Bool) => (if x34 = true then (some (⟨(⟨#[102, 108, 97, 103]⟩ : ByteArray), (1 : Int), (1 : Int)⟩ : T_ref05_Wrong)) else ((((f_ref05_has a0.Kind (110 : Int)).bind fun (r45 : Bool) => ((f_ref05_name a0.Name r45).bind fun (r50 : Bool) => (if (!r50) = true then (some true) else ((f_ref05_has a0.Kind (107 : Int)).bind fun (r56 : Bool) => ((f_ref05_name a0.Key r56).bind fun (r61 : Bool) => (if (!r61) = true then (some true) else ((f_ref05_has a0.Kind (114 : Int)).bind fun (r67 : Bool) => ((f_ref05_name a0.Rack r67).bind fun (r72 : Bool) => (some (!r72)))))))))) : Option Bool).bind fun (x43 : Bool) => (if x43 = true then (some (⟨(⟨#[110, 97, 109, 101]⟩ : ByteArray), (a0.Name.size : Int), (1 : Int)⟩ : T_ref05_Wrong)) else (((if (decide ((256 : Int) < (a0.Value.size : Int))) = true then (some true) else (if (!decide (a0.Value = (⟨#[]⟩ : ByteArray))) = true then (if a0.Flag = true then (some true) else ((f_ref05_has a0.Kind (118 : Int)).bind fun (r83 : Bool) => (some (!r83)))) else (some false))) : Option Bool).bind fun (x78 : Bool) => (if x78 = true then (some (⟨(⟨#[118, 97, 108, 117, 101]⟩ : ByteArray), (a0.Value.size : Int), (6 : Int)⟩ : T_ref05_Wrong)) else ((((f_ref05_has a0.Kind (105 : Int)).bind fun (r91 : Bool) => ((f_ref05_row a0.Ids r91).bind fun (r96 : Bool) => (if (!r96) = true then (some true) else ((f_ref05_has a0.Kind (109 : Int)).bind fun (r102 : Bool) => ((f_ref05_row a0.Isr r102).bind fun (r107 : Bool) => (if (!r107) = true then (some true) else ((f_ref05_has a0.Kind (120 : Int)).bind fun (r113 : Bool) => ((f_ref05_row a0.Add r113).bind fun (r118 : Bool) => (if (!r118) = true then (some true) else ((f_ref05_has a0.Kind (120 : Int)).bind fun (r124 : Bool) => ((f_ref05_row a0.Drop r124).bind fun (r129 : Bool) => (some (!r129))))))))))))) : Option Bool).bind fun (x89 : Bool) => (if x89 = true then (some (⟨(⟨#[114, 111, 119]⟩ : ByteArray), (a0.Ids.length : Int), (18 : Int)⟩ : T_ref05_Wrong)) else (some (⟨(⟨#[]⟩ : ByteArray), (0 : Int), (0 : Int)⟩ : T_ref05_Wrong))))))))))))))
def f_ref05_Check_post (a0 : T_api_Record) (v0_14 v0_15 v0_16 v0_17 : Value) : T_ref05_Wrong → Value → IM → HL → Prop :=
  fun (r0 : T_ref05_Wrong) (v : Value) (M' : IM) (H' : HL) => (.agg #[(.string r0.Op), (.int .i64 r0.At), (.int .i64 r0.Code)]) = v ∧ H' = []
theorem f_ref05_Check_ok (a0 : T_api_Record) (M : IM) (v0_14 v0_15 v0_16 v0_17 : Value) (h0_14 : RS (Kd.int .i64) M v0_14 a0.Ids) (h0_15 : RS (Kd.int .i64) M v0_15 a0.Isr) (h0_16 : RS (Kd.int .i64) M v0_16 a0.Add) (h0_17 : RS (Kd.int .i64) M v0_17 a0.Drop) (res : T_ref05_Wrong) (h : f_ref05_Check a0 = some res) :
    Tri Tryz.prog 34 #[(a67_ a0 v0_14 v0_15 v0_16 v0_17)] M [] (f_ref05_Check_post a0 v0_14 v0_15 v0_16 v0_17 res) := by
 unfold f_ref05_Check at h
 refine Te Tryz.func34 rfl rfl ?_
 intro F ρ hρ
 refine Sr (We (EO.box (cs := (l67 a0 v0_14 v0_15 v0_16 v0_17).toArray) (congrArg Value.cells (asE (a67_ a0 v0_14 v0_15 v0_16 v0_17) (hρ 0)))) rfl ?_)
 rintro _ _ _ - ⟨rfl, g21, rfl, rfl⟩
 refine We (Al ze33 rfl) rfl ?_
 rintro _ _ _ - ⟨rfl, g22, rfl, rfl⟩
 refine Ns (Pu (pt g21 0) (Fa fo67_0 rfl rfl) rfl (Pu (Iv a0.Kind) (Lb 1 pl3 rfl rfl rfl) rfl (Pa (Iv a0.Kind) rfl rfl (Nt (Cs ?_)))))
 obtain ⟨x23, hj24, h⟩ := bnd h
 refine Jf (fun (x23 : Bool) ρ' M' H' => M.le M' ∧ [(g22, .cells #[(Sv ⟨#[]⟩), (Iv 0), (Iv 0)] 33 (0, 0))] :: [(g21, .cells (l67 a0 v0_14 v0_15 v0_16 v0_17).toArray 67 (0, 0))] :: F = H' ∧ ρ' 1 = (pt g21 0) ∧ ρ' 2 = (pt g22 0) ∧ ρ' 3 = (Iv a0.Kind) ∧ ρ' 12 = (Bv x23)) x23 ?_ ?_
 have h324 := h
 have h := hj24
 refine Cg (Pm (Iv a0.Kind) rfl rfl (Pu (Bv (decide (a0.Kind < 1))) (PO.lss rfl rfl) rfl (Pm (Bv (decide (a0.Kind < 1))) rfl rfl ?_)))
 rcases Bt (decide (a0.Kind < 1)) with hb25 | hb25
 have h := ite_t hb25 h
 iterate 2 refine Of 9 rfl rfl hb25 rfl ?_
 refine Pu (Bv true) (Pt rfl hb25 rfl) rfl (Wz ?_)
 obtain rfl := oi h
 exact Tj ⟨lr, rfl, rfl, rfl, rfl, rfl⟩
 have h := ite_f hb25 h
 refine On 9 rfl rfl hb25 (Pm (Iv a0.Kind) rfl rfl (On 9 rfl rfl hb25 (Pu (Bv (decide ((12 : Int) < a0.Kind))) (PO.gtr rfl rfl) rfl (Pu (Bv (decide ((12 : Int) < a0.Kind))) (Pf rfl hb25 rfl) rfl (Wz ?_)))))
 obtain rfl := oi h
 exact Tj ⟨lr, rfl, rfl, rfl, rfl, rfl⟩
 rintro ρ24 M24 H24 ⟨hle24, rfl, hs24_1, hs24_2, hs24_3, hs24_12⟩
 refine Cd (b := x23) hs24_12 (fun hb26 => ?_) (fun hb26 => ?_)
 have h := ite_t hb26 h
 refine Sr (Pm (Iv a0.Kind) hs24_3 rfl (Pu (.agg #[(Sv ⟨#[107, 105, 110, 100]⟩), (Iv a0.Kind), (Iv 5)]) (Bl (cl := [(Sv ⟨#[107, 105, 110, 100]⟩), (Iv a0.Kind), (Iv 5)]) ze33 fp33 (Pc (Sv ⟨#[107, 105, 110, 100]⟩) rfl rfl (Pc (Iv a0.Kind) rfl rfl (Pc (Iv 5) rfl rfl Pz))) rfl) rfl (We (Sg (v := (.agg #[(Sv ⟨#[107, 105, 110, 100]⟩), (Iv a0.Kind), (Iv 5)])) (vl := [(Sv ⟨#[107, 105, 110, 100]⟩), (Iv a0.Kind), (Iv 5)]) (arr' := [(Sv ⟨#[107, 105, 110, 100]⟩), (Iv a0.Kind), (Iv 5)]) rfl sz33 hs24_2 rfl (onb rfl) rfl rfl rfl) rfl ?_)))
 rintro _ _ _ - ⟨rfl, rfl⟩
 exact Nt (Cr (Tr (Qa (Dr (Rd h [] (fun _ hs => hs.drop) (resultsL1 rfl (Rc (cs := [(Sv ⟨#[107, 105, 110, 100]⟩), (Iv a0.Kind), (Iv 5)]) 0 ag33 sz33 hs24_2 rfl rfl)) hle24 ⟨rfl, rfl⟩)))))
 have h := ite_f hb26 h
 refine Ck (Tc (Cs (Sr (Pu (a67_ a0 v0_14 v0_15 v0_16 v0_17) (La (cs := (l67 a0 v0_14 v0_15 v0_16 v0_17)) 1 ag67 sz67 hs24_1 rfl rfl) rfl ?_))))
 obtain ⟨r27, hr28, h⟩ := bnd h
 have h0_14 := h0_14.mono hle24
 have h0_15 := h0_15.mono hle24
 have h0_16 := h0_16.mono hle24
 have h0_17 := h0_17.mono hle24
 refine We (Ca co60 (f_ref05_numbers_ok a0 _ _ _ _ _ h0_14 h0_15 h0_16 h0_17 r27 hr28) (args1 rfl)) rfl ?_
 rintro _ M29 _ hle30 ⟨_, ⟨rfl, rfl⟩, rfl⟩
 refine WL.a0 (We (Al ze33 rfl) rfl ?_)
 rintro _ _ _ - ⟨rfl, g32, rfl, rfl⟩
 refine We (Sg (v := (a33_ r27)) (vl := (l33 r27)) (arr' := (l33 r27)) rfl sz33 rfl rfl (onb rfl) rfl rfl rfl) rfl ?_
 rintro _ _ _ - ⟨rfl, rfl⟩
 refine Ns (Pu (pt g32 2) (Fa fo33_2 rfl rfl) rfl (Pu (Iv r27.Code) (Lb 0 pl31 rfl rfl rfl) rfl (Pu (Bv (decide (r27.Code ≠ 0))) (PO.neq rfl rfl) rfl (Nt (Cd (b := decide (r27.Code ≠ 0)) rfl (fun hb33 => ?_) (fun hb33 => ?_))))))
 have h := ite_t hb33 h
 refine Sr (Pu (a33_ r27) (La (cs := (l33 r27)) 0 ag33 sz33 rfl rfl rfl) rfl (WL.f1 (We (Sg (v := (a33_ r27)) (vl := (l33 r27)) (arr' := (l33 r27)) rfl sz33 hs24_2 rfl (onb rfl) rfl rfl rfl) rfl ?_)))
 rintro _ _ _ - ⟨rfl, rfl⟩
 exact Nt (Cr (Tr (Qa (Dr (Qa (Dr (Rd h [] (fun _ hs => hs.drop) (resultsL1 rfl (Rc (cs := (l33 r27)) 0 ag33 sz33 hs24_2 rfl rfl)) (hle24.trans hle30) ⟨rfl, rfl⟩)))))))
 have h := ite_f hb33 h
 refine Ck (Tc (Cs ?_))
 obtain ⟨x34, hj35, h⟩ := bnd h
 refine Jf (fun (x34 : Bool) ρ' M' H' => M29.le M' ∧ [(g32, .cells (l33 r27).toArray 33 (0, 0))] :: [(g22, .cells #[(Sv ⟨#[]⟩), (Iv 0), (Iv 0)] 33 (0, 0))] :: [(g21, .cells (l67 a0 v0_14 v0_15 v0_16 v0_17).toArray 67 (0, 0))] :: F = H' ∧ ρ' 1 = (pt g21 0) ∧ ρ' 2 = (pt g22 0) ∧ ρ' 3 = (Iv a0.Kind) ∧ ρ' 27 = (Bv x34)) x34 ?_ ?_
 have h335 := h
 have h := hj35
 refine Cg (Pu (pt g21 9) (Fa fo67_9 hs24_1 rfl) rfl (Pu (Bv a0.Flag) (Lb 2 pl4 rfl rfl rfl) rfl (Pm (Bv a0.Flag) rfl rfl ?_)))
 rcases Bt (a0.Flag) with hb36 | hb36
 have h := ite_t hb36 h
 refine On 23 rfl rfl hb36 (Pm (Iv a0.Kind) hs24_3 rfl (On 23 rfl rfl hb36 ?_))
 obtain ⟨r37, hr38, h⟩ := bnd h
 refine We (Ca co61 (f_ref05_has_ok a0.Kind (102 : Int) _ r37 hr38) (args2 rfl rfl)) rfl ?_
 rintro _ M39 _ hle40 ⟨_, ⟨rfl, rfl⟩, rfl⟩
 refine WL.a0 (On 23 rfl rfl hb36 (Pu (Bv (!r37)) (PO.not rfl) rfl (Pu (Bv (!r37)) (Pt rfl hb36 rfl) rfl (Wz ?_))))
 obtain rfl := oi h
 exact Tj ⟨hle40, rfl, hs24_1, hs24_2, hs24_3, rfl⟩
 have h := ite_f hb36 h
 iterate 3 refine Of 23 rfl rfl hb36 rfl ?_
 refine Pu (Bv false) (Pf rfl hb36 rfl) rfl (Wz ?_)
 obtain rfl := oi h
 exact Tj ⟨lr, rfl, hs24_1, hs24_2, hs24_3, rfl⟩
 rintro ρ35 M35 H35 ⟨hle35, rfl, hs35_1, hs35_2, hs35_3, hs35_27⟩
 refine Cd (b := x34) hs35_27 (fun hb42 => ?_) (fun hb42 => ?_)
 have h := ite_t hb42 h
 refine Sr (Pu (.agg #[(Sv ⟨#[102, 108, 97, 103]⟩), (Iv 1), (Iv 1)]) (Bl (cl := [(Sv ⟨#[102, 108, 97, 103]⟩), (Iv 1), (Iv 1)]) ze33 fp33 (Pc (Sv ⟨#[102, 108, 97, 103]⟩) rfl rfl (Pc (Iv 1) rfl rfl (Pc (Iv 1) rfl rfl Pz))) rfl) rfl (WL.f1 (We (Sg (v := (.agg #[(Sv ⟨#[102, 108, 97, 103]⟩), (Iv 1), (Iv 1)])) (vl := [(Sv ⟨#[102, 108, 97, 103]⟩), (Iv 1), (Iv 1)]) (arr' := [(Sv ⟨#[102, 108, 97, 103]⟩), (Iv 1), (Iv 1)]) rfl sz33 hs35_2 rfl (onb rfl) rfl rfl rfl) rfl ?_)))
 rintro _ _ _ - ⟨rfl, rfl⟩
 exact Nt (Cr (Tr (Qa (Dr (Qa (Dr (Rd h [] (fun _ hs => hs.drop) (resultsL1 rfl (Rc (cs := [(Sv ⟨#[102, 108, 97, 103]⟩), (Iv 1), (Iv 1)]) 0 ag33 sz33 hs35_2 rfl rfl)) ((hle24.trans hle30).trans hle35) ⟨rfl, rfl⟩)))))))
 have h := ite_f hb42 h
 refine Ck (Tc (Cs ?_))
 obtain ⟨x43, hj44, h⟩ := bnd h
 refine Jf (fun (x43 : Bool) ρ' M' H' => M35.le M' ∧ [(g32, .cells (l33 r27).toArray 33 (0, 0))] :: [(g22, .cells #[(Sv ⟨#[]⟩), (Iv 0), (Iv 0)] 33 (0, 0))] :: [(g21, .cells (l67 a0 v0_14 v0_15 v0_16 v0_17).toArray 67 (0, 0))] :: F = H' ∧ ρ' 1 = (pt g21 0) ∧ ρ' 2 = (pt g22 0) ∧ ρ' 3 = (Iv a0.Kind) ∧ ρ' 50 = (Bv x43)) x43 ?_ ?_
 have h344 := h
 have h := hj44
 refine WC.draw [0, 1, 0, 4, 15, 31, 63, 127, 255, 127, 639, 2047, 4095, 8191, 16383, 32767, 65535, 32767, 163839, 524287, 1048575, 2097151] (.pure 0 (.pure 1 (.pure 2 (.alt 3 (.alt 4 (.pure 5 (.pure 6 (.pure 7 (.pure 8 (.pure 9 (.alt 10 (.alt 11 (.pure 12 (.pure 13 (.pure 14 (.pure 15 (.pure 16 (.pure 17 (.alt 18 (.alt 19 (.pure 20 (.pure 21 .done)) .none) .none))))))) .none) .none)))))) .none) .none)))) mixed (by kernel_rfl) (Tp (pt g21 10) rfl (Fa fo67_10 hs35_1 rfl) rfl (Tp (Sv a0.Name) rfl (Lb 2 pl9 rfl rfl rfl) rfl (Tp (Iv a0.Kind) rfl (Mv hs35_3) rfl ?_)))
 obtain ⟨r45, hr46, h⟩ := bnd h
 refine Ta rfl (Ca co61 (f_ref05_has_ok a0.Kind (110 : Int) _ r45 hr46) (args2 rfl rfl)) rfl ?_ ?_
 rintro _ M47 _ hle48 ⟨_, ⟨rfl, rfl⟩, rfl⟩
 refine ⟨(Sk 1 rfl (Ss rfl (Lb 2 pl9 rfl rfl rfl) rfl (Ss rfl (Fa fo67_10 hs35_1 rfl) rfl trivial))), ?_⟩
 refine WT.a0 ?_
 obtain ⟨r50, hr51, h⟩ := bnd h
 refine Ta rfl (Ca co62 (f_ref05_name_ok a0.Name r45 _ r50 hr51) (args2 rfl rfl)) rfl ?_ ?_
 rintro _ M52 _ hle53 ⟨_, ⟨rfl, rfl⟩, rfl⟩
 refine ⟨(Sl rfl), ?_⟩
 refine WT.a0 (Tp (Bv (!r50)) rfl (PO.not rfl) rfl (Tp (Bv (!r50)) rfl (Mv rfl) rfl ?_))
 rcases Bt (!r50) with hb55 | hb55
 have h := ite_t hb55 h
 refine Tf 35 rfl rfl rfl hb55 rfl (Tf 35 rfl rfl rfl hb55 rfl (Tf 35 rfl rfl rfl hb55 rfl (Tg 35 rfl rfl rfl hb55 rfl ⟨(Sk 1 rfl (St (Sf 35 rfl rfl rfl hb55 rfl) (St (Sf 35 rfl rfl rfl hb55 rfl) (Sl rfl)))), ?_⟩ ?_)))
 refine Tg 35 rfl rfl rfl hb55 rfl ⟨(Sl rfl), ?_⟩ ?_
 refine Tf 35 rfl rfl rfl hb55 rfl (Tp (Bv true) rfl (Pt rfl hb55 rfl) rfl (Tp (Bv true) rfl (Mv rfl) rfl (Tf 43 rfl rfl rfl rfl rfl (Tf 43 rfl rfl rfl rfl rfl (Tf 43 rfl rfl rfl rfl rfl (Tg 43 rfl rfl rfl rfl rfl ⟨(Sk 1 rfl (St (Sf 43 rfl rfl rfl rfl rfl) (St (Sf 43 rfl rfl rfl rfl rfl) (Sl rfl)))), ?_⟩ ?_))))))
 refine Tg 43 rfl rfl rfl rfl rfl ⟨(Sl rfl), ?_⟩ ?_
 refine Tf 43 rfl rfl rfl rfl rfl (Tp (Bv true) rfl (Pt rfl rfl rfl) rfl (Ti ?_))
 obtain rfl := oi h
 exact Tj ⟨(hle48.trans hle53), rfl, hs35_1, hs35_2, hs35_3, rfl⟩
 exact Tz
 exact Tz
 exact Tz
 exact Tz
 have h := ite_f hb55 h
 refine Tn (pt g21 11) 35 rfl rfl rfl hb55 (Fa fo67_11 hs35_1 rfl) rfl (Tn (Sv a0.Key) 35 rfl rfl rfl hb55 (Lb 2 pl9 rfl rfl rfl) rfl (Tn (Iv a0.Kind) 35 rfl rfl rfl hb55 (Mv hs35_3) rfl ?_))
 obtain ⟨r56, hr57, h⟩ := bnd h
 refine WT.altOn 35 rfl rfl rfl hb55 (Ca co61 (f_ref05_has_ok a0.Kind (107 : Int) _ r56 hr57) (args2 rfl rfl)) rfl ?_ ?_
 rintro _ M58 _ hle59 ⟨_, ⟨rfl, rfl⟩, rfl⟩
 refine ⟨(Sk 1 rfl (St (StabA.on 35 rfl rfl rfl hb55 (Lb 2 pl9 rfl rfl rfl) rfl) (St (StabA.on 35 rfl rfl rfl hb55 (Fa fo67_11 hs35_1 rfl) rfl) (Sl rfl)))), ?_⟩
 refine WT.a0 ?_
 obtain ⟨r61, hr62, h⟩ := bnd h
 refine WT.altOn 35 rfl rfl rfl hb55 (Ca co62 (f_ref05_name_ok a0.Key r56 _ r61 hr62) (args2 rfl rfl)) rfl ?_ ?_
 rintro _ M63 _ hle64 ⟨_, ⟨rfl, rfl⟩, rfl⟩
 refine ⟨(Sl rfl), ?_⟩
 refine WT.a0 (Tn (Bv (!r61)) 35 rfl rfl rfl hb55 (PO.not rfl) rfl (Tp (Bv (!r61)) rfl (Pf rfl hb55 rfl) rfl (Tp (Bv (!r61)) rfl (Mv rfl) rfl ?_)))
 rcases Bt (!r61) with hb66 | hb66
 have h := ite_t hb66 h
 refine Tf 43 rfl rfl rfl hb66 rfl (Tf 43 rfl rfl rfl hb66 rfl (Tf 43 rfl rfl rfl hb66 rfl (Tg 43 rfl rfl rfl hb66 rfl ⟨(Sk 1 rfl (St (Sf 43 rfl rfl rfl hb66 rfl) (St (Sf 43 rfl rfl rfl hb66 rfl) (Sl rfl)))), ?_⟩ ?_)))
 refine Tg 43 rfl rfl rfl hb66 rfl ⟨(Sl rfl), ?_⟩ ?_
 refine Tf 43 rfl rfl rfl hb66 rfl (Tp (Bv true) rfl (Pt rfl hb66 rfl) rfl (Ti ?_))
 obtain rfl := oi h
 exact Tj ⟨(((hle48.trans hle53).trans hle59).trans hle64), rfl, hs35_1, hs35_2, hs35_3, rfl⟩
 exact Tz
 exact Tz
 have h := ite_f hb66 h
 refine Tn (pt g21 13) 43 rfl rfl rfl hb66 (Fa fo67_13 hs35_1 rfl) rfl (Tn (Sv a0.Rack) 43 rfl rfl rfl hb66 (Lb 2 pl9 rfl rfl rfl) rfl (Tn (Iv a0.Kind) 43 rfl rfl rfl hb66 (Mv hs35_3) rfl ?_))
 obtain ⟨r67, hr68, h⟩ := bnd h
 refine WT.altOn 43 rfl rfl rfl hb66 (Ca co61 (f_ref05_has_ok a0.Kind (114 : Int) _ r67 hr68) (args2 rfl rfl)) rfl ?_ ?_
 rintro _ M69 _ hle70 ⟨_, ⟨rfl, rfl⟩, rfl⟩
 refine ⟨(Sk 1 rfl (St (StabA.on 43 rfl rfl rfl hb66 (Lb 2 pl9 rfl rfl rfl) rfl) (St (StabA.on 43 rfl rfl rfl hb66 (Fa fo67_13 hs35_1 rfl) rfl) (Sl rfl)))), ?_⟩
 refine WT.a0 ?_
 obtain ⟨r72, hr73, h⟩ := bnd h
 refine WT.altOn 43 rfl rfl rfl hb66 (Ca co62 (f_ref05_name_ok a0.Rack r67 _ r72 hr73) (args2 rfl rfl)) rfl ?_ ?_
 rintro _ M74 _ hle75 ⟨_, ⟨rfl, rfl⟩, rfl⟩
 refine ⟨(Sl rfl), ?_⟩
 refine WT.a0 (Tn (Bv (!r72)) 43 rfl rfl rfl hb66 (PO.not rfl) rfl (Tp (Bv (!r72)) rfl (Pf rfl hb66 rfl) rfl (Ti ?_)))
 obtain rfl := oi h
 exact Tj ⟨(((((hle48.trans hle53).trans hle59).trans hle64).trans hle70).trans hle75), rfl, hs35_1, hs35_2, hs35_3, rfl⟩
 exact Tz
 exact Tz
 exact Tz
 exact Tz
 exact Tz
 exact Tz
 rintro ρ44 M44 H44 ⟨hle44, rfl, hs44_1, hs44_2, hs44_3, hs44_50⟩
 refine Cd (b := x43) hs44_50 (fun hb77 => ?_) (fun hb77 => ?_)
 have h := ite_t hb77 h
 refine Sr (Pu (pt g21 10) (Fa fo67_10 hs44_1 rfl) rfl (Pu (Sv a0.Name) (Lb 2 pl9 rfl rfl rfl) rfl (Pu (Iv (a0.Name.size : Int)) (PO.lenStr Tryz.underlying9 rfl) rfl (Pu (.agg #[(Sv ⟨#[110, 97, 109, 101]⟩), (Iv (a0.Name.size : Int)), (Iv 1)]) (Bl (cl := [(Sv ⟨#[110, 97, 109, 101]⟩), (Iv (a0.Name.size : Int)), (Iv 1)]) ze33 fp33 (Pc (Sv ⟨#[110, 97, 109, 101]⟩) rfl rfl (Pc (Iv (a0.Name.size : Int)) rfl rfl (Pc (Iv 1) rfl rfl Pz))) rfl) rfl (WL.f1 (We (Sg (v := (.agg #[(Sv ⟨#[110, 97, 109, 101]⟩), (Iv (a0.Name.size : Int)), (Iv 1)])) (vl := [(Sv ⟨#[110, 97, 109, 101]⟩), (Iv (a0.Name.size : Int)), (Iv 1)]) (arr' := [(Sv ⟨#[110, 97, 109, 101]⟩), (Iv (a0.Name.size : Int)), (Iv 1)]) rfl sz33 hs44_2 rfl (onb rfl) rfl rfl rfl) rfl ?_))))))
 rintro _ _ _ - ⟨rfl, rfl⟩
 exact Nt (Cr (Tr (Qa (Dr (Qa (Dr (Rd h [] (fun _ hs => hs.drop) (resultsL1 rfl (Rc (cs := [(Sv ⟨#[110, 97, 109, 101]⟩), (Iv (a0.Name.size : Int)), (Iv 1)]) 0 ag33 sz33 hs44_2 rfl rfl)) (((hle24.trans hle30).trans hle35).trans hle44) ⟨rfl, rfl⟩)))))))
 have h := ite_f hb77 h
 refine Ck (Tc (Cs ?_))
 obtain ⟨x78, hj79, h⟩ := bnd h
 refine Jf (fun (x78 : Bool) ρ' M' H' => M44.le M' ∧ [(g32, .cells (l33 r27).toArray 33 (0, 0))] :: [(g22, .cells #[(Sv ⟨#[]⟩), (Iv 0), (Iv 0)] 33 (0, 0))] :: [(g21, .cells (l67 a0 v0_14 v0_15 v0_16 v0_17).toArray 67 (0, 0))] :: F = H' ∧ ρ' 1 = (pt g21 0) ∧ ρ' 2 = (pt g22 0) ∧ ρ' 3 = (Iv a0.Kind) ∧ ρ' 72 = (Bv x78)) x78 ?_ ?_
 have h379 := h
 have h := hj79
 refine Cg (Pu (pt g21 12) (Fa fo67_12 hs44_1 rfl) rfl (Pu (Sv a0.Value) (Lb 2 pl9 rfl rfl rfl) rfl (Pu (Iv (a0.Value.size : Int)) (PO.lenStr Tryz.underlying9 rfl) rfl (Pu (Bv (decide ((256 : Int) < (a0.Value.size : Int)))) (PO.gtr rfl rfl) rfl (Pm (Bv (decide ((256 : Int) < (a0.Value.size : Int)))) rfl rfl ?_)))))
 rcases Bt (decide ((256 : Int) < (a0.Value.size : Int))) with hb80 | hb80
 have h := ite_t hb80 h
 iterate 4 refine Of 59 rfl rfl hb80 rfl ?_
 refine WL.offU 63 rfl rfl rfl (WL.offU 63 rfl rfl rfl (WL.offU 63 rfl rfl rfl (WL.offU 66 rfl rfl rfl (WL.offU 66 rfl rfl rfl (WL.offU 66 rfl rfl rfl (WL.offU 63 rfl rfl rfl (Of 59 rfl rfl hb80 rfl (Pu (Bv true) (Pt rfl hb80 rfl) rfl (Wz ?_)))))))))
 obtain rfl := oi h
 exact Tj ⟨lr, rfl, hs44_1, hs44_2, hs44_3, rfl⟩
 have h := ite_f hb80 h
 refine On 59 rfl rfl hb80 (Pu (pt g21 12) (Fa fo67_12 hs44_1 rfl) rfl (On 59 rfl rfl hb80 (Pu (Sv a0.Value) (Lb 2 pl9 rfl rfl rfl) rfl (On 59 rfl rfl hb80 (Pu (Bv (!decide (a0.Value = (⟨#[]⟩ : ByteArray)))) (PO.sneq rfl rfl) rfl (On 59 rfl rfl hb80 (Pm (Bv (!decide (a0.Value = (⟨#[]⟩ : ByteArray)))) rfl rfl ?_)))))))
 rcases Bt (!decide (a0.Value = (⟨#[]⟩ : ByteArray))) with hb81 | hb81
 have h := ite_t hb81 h
 refine On 63 rfl rfl hb81 (Pu (pt g21 9) (Fa fo67_9 hs44_1 rfl) rfl (On 63 rfl rfl hb81 (Pu (Bv a0.Flag) (Lb 2 pl4 rfl rfl rfl) rfl (On 63 rfl rfl hb81 (Pm (Bv a0.Flag) rfl rfl ?_)))))
 rcases Bt (a0.Flag) with hb82 | hb82
 have h := ite_t hb82 h
 iterate 3 refine Of 66 rfl rfl hb82 rfl ?_
 refine On 63 rfl rfl hb81 (Pu (Bv true) (Pt rfl hb82 rfl) rfl (On 59 rfl rfl hb80 (Pu (Bv true) (Pt rfl hb81 rfl) rfl (Pu (Bv true) (Pf rfl hb80 rfl) rfl (Wz ?_)))))
 obtain rfl := oi h
 exact Tj ⟨lr, rfl, hs44_1, hs44_2, hs44_3, rfl⟩
 have h := ite_f hb82 h
 refine On 66 rfl rfl hb82 (Pm (Iv a0.Kind) hs44_3 rfl (On 66 rfl rfl hb82 ?_))
 obtain ⟨r83, hr84, h⟩ := bnd h
 refine We (Ca co61 (f_ref05_has_ok a0.Kind (118 : Int) _ r83 hr84) (args2 rfl rfl)) rfl ?_
 rintro _ M85 _ hle86 ⟨_, ⟨rfl, rfl⟩, rfl⟩
 refine WL.a0 (On 66 rfl rfl hb82 (Pu (Bv (!r83)) (PO.not rfl) rfl (On 63 rfl rfl hb81 (Pu (Bv (!r83)) (Pf rfl hb82 rfl) rfl (On 59 rfl rfl hb80 (Pu (Bv (!r83)) (Pt rfl hb81 rfl) rfl (Pu (Bv (!r83)) (Pf rfl hb80 rfl) rfl (Wz ?_))))))))
 obtain rfl := oi h
 exact Tj ⟨hle86, rfl, hs44_1, hs44_2, hs44_3, rfl⟩
 have h := ite_f hb81 h
 iterate 3 refine Of 63 rfl rfl hb81 rfl ?_
 refine WL.offU 66 rfl rfl rfl (WL.offU 66 rfl rfl rfl (WL.offU 66 rfl rfl rfl (Of 63 rfl rfl hb81 rfl (On 59 rfl rfl hb80 (Pu (Bv false) (Pf rfl hb81 rfl) rfl (Pu (Bv false) (Pf rfl hb80 rfl) rfl (Wz ?_)))))))
 obtain rfl := oi h
 exact Tj ⟨lr, rfl, hs44_1, hs44_2, hs44_3, rfl⟩
 rintro ρ79 M79 H79 ⟨hle79, rfl, hs79_1, hs79_2, hs79_3, hs79_72⟩
 refine Cd (b := x78) hs79_72 (fun hb88 => ?_) (fun hb88 => ?_)
 have h := ite_t hb88 h
 refine Sr (Pu (pt g21 12) (Fa fo67_12 hs79_1 rfl) rfl (Pu (Sv a0.Value) (Lb 2 pl9 rfl rfl rfl) rfl (Pu (Iv (a0.Value.size : Int)) (PO.lenStr Tryz.underlying9 rfl) rfl (Pu (.agg #[(Sv ⟨#[118, 97, 108, 117, 101]⟩), (Iv (a0.Value.size : Int)), (Iv 6)]) (Bl (cl := [(Sv ⟨#[118, 97, 108, 117, 101]⟩), (Iv (a0.Value.size : Int)), (Iv 6)]) ze33 fp33 (Pc (Sv ⟨#[118, 97, 108, 117, 101]⟩) rfl rfl (Pc (Iv (a0.Value.size : Int)) rfl rfl (Pc (Iv 6) rfl rfl Pz))) rfl) rfl (WL.f1 (We (Sg (v := (.agg #[(Sv ⟨#[118, 97, 108, 117, 101]⟩), (Iv (a0.Value.size : Int)), (Iv 6)])) (vl := [(Sv ⟨#[118, 97, 108, 117, 101]⟩), (Iv (a0.Value.size : Int)), (Iv 6)]) (arr' := [(Sv ⟨#[118, 97, 108, 117, 101]⟩), (Iv (a0.Value.size : Int)), (Iv 6)]) rfl sz33 hs79_2 rfl (onb rfl) rfl rfl rfl) rfl ?_))))))
 rintro _ _ _ - ⟨rfl, rfl⟩
 exact Nt (Cr (Tr (Qa (Dr (Qa (Dr (Rd h [] (fun _ hs => hs.drop) (resultsL1 rfl (Rc (cs := [(Sv ⟨#[118, 97, 108, 117, 101]⟩), (Iv (a0.Value.size : Int)), (Iv 6)]) 0 ag33 sz33 hs79_2 rfl rfl)) ((((hle24.trans hle30).trans hle35).trans hle44).trans hle79) ⟨rfl, rfl⟩)))))))
 have h := ite_f hb88 h
 refine Ck (Tc (Cs ?_))
 obtain ⟨x89, hj90, h⟩ := bnd h
 refine Jf (fun (x89 : Bool) ρ' M' H' => M79.le M' ∧ [(g32, .cells (l33 r27).toArray 33 (0, 0))] :: [(g22, .cells #[(Sv ⟨#[]⟩), (Iv 0), (Iv 0)] 33 (0, 0))] :: [(g21, .cells (l67 a0 v0_14 v0_15 v0_16 v0_17).toArray 67 (0, 0))] :: F = H' ∧ ρ' 1 = (pt g21 0) ∧ ρ' 2 = (pt g22 0) ∧ ρ' 106 = (Bv x89)) x89 ?_ ?_
 have h390 := h
 have h := hj90
 refine WC.draw [0, 1, 0, 4, 15, 31, 63, 127, 255, 127, 639, 2047, 4095, 8191, 16383, 32767, 65535, 32767, 163839, 524287, 1048575, 2097151, 4194303, 8388607, 16777215, 8388607, 41943039, 134217727, 268435455, 536870911] (.pure 0 (.pure 1 (.pure 2 (.alt 3 (.alt 4 (.pure 5 (.pure 6 (.pure 7 (.pure 8 (.pure 9 (.alt 10 (.alt 11 (.pure 12 (.pure 13 (.pure 14 (.pure 15 (.pure 16 (.pure 17 (.alt 18 (.alt 19 (.pure 20 (.pure 21 (.pure 22 (.pure 23 (.pure 24 (.pure 25 (.alt 26 (.alt 27 (.pure 28 (.pure 29 .done)) .none) .none))))))) .none) .none))))))) .none) .none)))))) .none) .none)))) mixed (by kernel_rfl) (Tp (pt g21 14) rfl (Fa fo67_14 hs79_1 rfl) rfl (Tp v0_14 rfl (Lb 2 pl65 rfl rfl rfl) rfl (Tp (Iv a0.Kind) rfl (Mv hs79_3) rfl ?_)))
 obtain ⟨r91, hr92, h⟩ := bnd h
 refine Ta rfl (Ca co61 (f_ref05_has_ok a0.Kind (105 : Int) _ r91 hr92) (args2 rfl rfl)) rfl ?_ ?_
 rintro _ M93 _ hle94 ⟨_, ⟨rfl, rfl⟩, rfl⟩
 refine ⟨(Sk 1 rfl (Ss rfl (Lb 2 pl65 rfl rfl rfl) rfl (Ss rfl (Fa fo67_14 hs79_1 rfl) rfl trivial))), ?_⟩
 refine WT.a0 ?_
 obtain ⟨r96, hr97, h⟩ := bnd h
 have h0_14 := h0_14.mono ((((hle30.trans hle35).trans hle44).trans hle79).trans hle94)
 refine Ta rfl (Ca co63 (f_ref05_row_ok a0.Ids r91 _ _ h0_14 r96 hr97) (args2 rfl rfl)) rfl ?_ ?_
 rintro _ M98 _ hle99 ⟨_, ⟨rfl, rfl⟩, rfl⟩
 refine ⟨(Sl rfl), ?_⟩
 refine WT.a0 (Tp (Bv (!r96)) rfl (PO.not rfl) rfl (Tp (Bv (!r96)) rfl (Mv rfl) rfl ?_))
 rcases Bt (!r96) with hb101 | hb101
 have h := ite_t hb101 h
 refine Tf 83 rfl rfl rfl hb101 rfl (Tf 83 rfl rfl rfl hb101 rfl (Tf 83 rfl rfl rfl hb101 rfl (Tg 83 rfl rfl rfl hb101 rfl ⟨(Sk 1 rfl (St (Sf 83 rfl rfl rfl hb101 rfl) (St (Sf 83 rfl rfl rfl hb101 rfl) (Sl rfl)))), ?_⟩ ?_)))
 refine Tg 83 rfl rfl rfl hb101 rfl ⟨(Sl rfl), ?_⟩ ?_
 refine Tf 83 rfl rfl rfl hb101 rfl (Tp (Bv true) rfl (Pt rfl hb101 rfl) rfl (Tp (Bv true) rfl (Mv rfl) rfl (Tf 91 rfl rfl rfl rfl rfl (Tf 91 rfl rfl rfl rfl rfl (Tf 91 rfl rfl rfl rfl rfl (Tg 91 rfl rfl rfl rfl rfl ⟨(Sk 1 rfl (St (Sf 91 rfl rfl rfl rfl rfl) (St (Sf 91 rfl rfl rfl rfl rfl) (Sl rfl)))), ?_⟩ ?_))))))
 refine Tg 91 rfl rfl rfl rfl rfl ⟨(Sl rfl), ?_⟩ ?_
 refine Tf 91 rfl rfl rfl rfl rfl (Tp (Bv true) rfl (Pt rfl rfl rfl) rfl (Tp (Bv true) rfl (Mv rfl) rfl (Tf 99 rfl rfl rfl rfl rfl (Tf 99 rfl rfl rfl rfl rfl (Tf 99 rfl rfl rfl rfl rfl (Tg 99 rfl rfl rfl rfl rfl ⟨(Sk 1 rfl (St (Sf 99 rfl rfl rfl rfl rfl) (St (Sf 99 rfl rfl rfl rfl rfl) (Sl rfl)))), ?_⟩ ?_))))))
 refine Tg 99 rfl rfl rfl rfl rfl ⟨(Sl rfl), ?_⟩ ?_
 refine Tf 99 rfl rfl rfl rfl rfl (Tp (Bv true) rfl (Pt rfl rfl rfl) rfl (Ti ?_))
 obtain rfl := oi h
 exact Tj ⟨(hle94.trans hle99), rfl, hs79_1, hs79_2, rfl⟩
 exact Tz
 exact Tz
 exact Tz
 exact Tz
 exact Tz
 exact Tz
 have h := ite_f hb101 h
 refine Tn (pt g21 15) 83 rfl rfl rfl hb101 (Fa fo67_15 hs79_1 rfl) rfl (Tn v0_15 83 rfl rfl rfl hb101 (Lb 2 pl65 rfl rfl rfl) rfl (Tn (Iv a0.Kind) 83 rfl rfl rfl hb101 (Mv hs79_3) rfl ?_))
 obtain ⟨r102, hr103, h⟩ := bnd h
 refine WT.altOn 83 rfl rfl rfl hb101 (Ca co61 (f_ref05_has_ok a0.Kind (109 : Int) _ r102 hr103) (args2 rfl rfl)) rfl ?_ ?_
 rintro _ M104 _ hle105 ⟨_, ⟨rfl, rfl⟩, rfl⟩
 refine ⟨(Sk 1 rfl (St (StabA.on 83 rfl rfl rfl hb101 (Lb 2 pl65 rfl rfl rfl) rfl) (St (StabA.on 83 rfl rfl rfl hb101 (Fa fo67_15 hs79_1 rfl) rfl) (Sl rfl)))), ?_⟩
 refine WT.a0 ?_
 obtain ⟨r107, hr108, h⟩ := bnd h
 have h0_15 := h0_15.mono ((((((hle30.trans hle35).trans hle44).trans hle79).trans hle94).trans hle99).trans hle105)
 refine WT.altOn 83 rfl rfl rfl hb101 (Ca co63 (f_ref05_row_ok a0.Isr r102 _ _ h0_15 r107 hr108) (args2 rfl rfl)) rfl ?_ ?_
 rintro _ M109 _ hle110 ⟨_, ⟨rfl, rfl⟩, rfl⟩
 refine ⟨(Sl rfl), ?_⟩
 refine WT.a0 (Tn (Bv (!r107)) 83 rfl rfl rfl hb101 (PO.not rfl) rfl (Tp (Bv (!r107)) rfl (Pf rfl hb101 rfl) rfl (Tp (Bv (!r107)) rfl (Mv rfl) rfl ?_)))
 rcases Bt (!r107) with hb112 | hb112
 have h := ite_t hb112 h
 refine Tf 91 rfl rfl rfl hb112 rfl (Tf 91 rfl rfl rfl hb112 rfl (Tf 91 rfl rfl rfl hb112 rfl (Tg 91 rfl rfl rfl hb112 rfl ⟨(Sk 1 rfl (St (Sf 91 rfl rfl rfl hb112 rfl) (St (Sf 91 rfl rfl rfl hb112 rfl) (Sl rfl)))), ?_⟩ ?_)))
 refine Tg 91 rfl rfl rfl hb112 rfl ⟨(Sl rfl), ?_⟩ ?_
 refine Tf 91 rfl rfl rfl hb112 rfl (Tp (Bv true) rfl (Pt rfl hb112 rfl) rfl (Tp (Bv true) rfl (Mv rfl) rfl (Tf 99 rfl rfl rfl rfl rfl (Tf 99 rfl rfl rfl rfl rfl (Tf 99 rfl rfl rfl rfl rfl (Tg 99 rfl rfl rfl rfl rfl ⟨(Sk 1 rfl (St (Sf 99 rfl rfl rfl rfl rfl) (St (Sf 99 rfl rfl rfl rfl rfl) (Sl rfl)))), ?_⟩ ?_))))))
 refine Tg 99 rfl rfl rfl rfl rfl ⟨(Sl rfl), ?_⟩ ?_
 refine Tf 99 rfl rfl rfl rfl rfl (Tp (Bv true) rfl (Pt rfl rfl rfl) rfl (Ti ?_))
 obtain rfl := oi h
 exact Tj ⟨(((hle94.trans hle99).trans hle105).trans hle110), rfl, hs79_1, hs79_2, rfl⟩
 exact Tz
 exact Tz
 exact Tz
 exact Tz
 have h := ite_f hb112 h
 refine Tn (pt g21 16) 91 rfl rfl rfl hb112 (Fa fo67_16 hs79_1 rfl) rfl (Tn v0_16 91 rfl rfl rfl hb112 (Lb 2 pl65 rfl rfl rfl) rfl (Tn (Iv a0.Kind) 91 rfl rfl rfl hb112 (Mv hs79_3) rfl ?_))
 obtain ⟨r113, hr114, h⟩ := bnd h
 refine WT.altOn 91 rfl rfl rfl hb112 (Ca co61 (f_ref05_has_ok a0.Kind (120 : Int) _ r113 hr114) (args2 rfl rfl)) rfl ?_ ?_
 rintro _ M115 _ hle116 ⟨_, ⟨rfl, rfl⟩, rfl⟩
 refine ⟨(Sk 1 rfl (St (StabA.on 91 rfl rfl rfl hb112 (Lb 2 pl65 rfl rfl rfl) rfl) (St (StabA.on 91 rfl rfl rfl hb112 (Fa fo67_16 hs79_1 rfl) rfl) (Sl rfl)))), ?_⟩
 refine WT.a0 ?_
 obtain ⟨r118, hr119, h⟩ := bnd h
 have h0_16 := h0_16.mono ((((((((hle30.trans hle35).trans hle44).trans hle79).trans hle94).trans hle99).trans hle105).trans hle110).trans hle116)
 refine WT.altOn 91 rfl rfl rfl hb112 (Ca co63 (f_ref05_row_ok a0.Add r113 _ _ h0_16 r118 hr119) (args2 rfl rfl)) rfl ?_ ?_
 rintro _ M120 _ hle121 ⟨_, ⟨rfl, rfl⟩, rfl⟩
 refine ⟨(Sl rfl), ?_⟩
 refine WT.a0 (Tn (Bv (!r118)) 91 rfl rfl rfl hb112 (PO.not rfl) rfl (Tp (Bv (!r118)) rfl (Pf rfl hb112 rfl) rfl (Tp (Bv (!r118)) rfl (Mv rfl) rfl ?_)))
 rcases Bt (!r118) with hb123 | hb123
 have h := ite_t hb123 h
 refine Tf 99 rfl rfl rfl hb123 rfl (Tf 99 rfl rfl rfl hb123 rfl (Tf 99 rfl rfl rfl hb123 rfl (Tg 99 rfl rfl rfl hb123 rfl ⟨(Sk 1 rfl (St (Sf 99 rfl rfl rfl hb123 rfl) (St (Sf 99 rfl rfl rfl hb123 rfl) (Sl rfl)))), ?_⟩ ?_)))
 refine Tg 99 rfl rfl rfl hb123 rfl ⟨(Sl rfl), ?_⟩ ?_
 refine Tf 99 rfl rfl rfl hb123 rfl (Tp (Bv true) rfl (Pt rfl hb123 rfl) rfl (Ti ?_))
 obtain rfl := oi h
 exact Tj ⟨(((((hle94.trans hle99).trans hle105).trans hle110).trans hle116).trans hle121), rfl, hs79_1, hs79_2, rfl⟩
 exact Tz
 exact Tz
 have h := ite_f hb123 h
 refine Tn (pt g21 17) 99 rfl rfl rfl hb123 (Fa fo67_17 hs79_1 rfl) rfl (Tn v0_17 99 rfl rfl rfl hb123 (Lb 2 pl65 rfl rfl rfl) rfl (Tn (Iv a0.Kind) 99 rfl rfl rfl hb123 (Mv hs79_3) rfl ?_))
 obtain ⟨r124, hr125, h⟩ := bnd h
 refine WT.altOn 99 rfl rfl rfl hb123 (Ca co61 (f_ref05_has_ok a0.Kind (120 : Int) _ r124 hr125) (args2 rfl rfl)) rfl ?_ ?_
 rintro _ M126 _ hle127 ⟨_, ⟨rfl, rfl⟩, rfl⟩
 refine ⟨(Sk 1 rfl (St (StabA.on 99 rfl rfl rfl hb123 (Lb 2 pl65 rfl rfl rfl) rfl) (St (StabA.on 99 rfl rfl rfl hb123 (Fa fo67_17 hs79_1 rfl) rfl) (Sl rfl)))), ?_⟩
 refine WT.a0 ?_
 obtain ⟨r129, hr130, h⟩ := bnd h
 have h0_17 := h0_17.mono ((((((((((hle30.trans hle35).trans hle44).trans hle79).trans hle94).trans hle99).trans hle105).trans hle110).trans hle116).trans hle121).trans hle127)
 refine WT.altOn 99 rfl rfl rfl hb123 (Ca co63 (f_ref05_row_ok a0.Drop r124 _ _ h0_17 r129 hr130) (args2 rfl rfl)) rfl ?_ ?_
 rintro _ M131 _ hle132 ⟨_, ⟨rfl, rfl⟩, rfl⟩
 refine ⟨(Sl rfl), ?_⟩
 refine WT.a0 (Tn (Bv (!r129)) 99 rfl rfl rfl hb123 (PO.not rfl) rfl (Tp (Bv (!r129)) rfl (Pf rfl hb123 rfl) rfl (Ti ?_)))
 obtain rfl := oi h
 exact Tj ⟨(((((((hle94.trans hle99).trans hle105).trans hle110).trans hle116).trans hle121).trans hle127).trans hle132), rfl, hs79_1, hs79_2, rfl⟩
 exact Tz
 exact Tz
 exact Tz
 exact Tz
 exact Tz
 exact Tz
 exact Tz
 exact Tz
 rintro ρ90 M90 H90 ⟨hle90, rfl, hs90_1, hs90_2, hs90_106⟩
 refine Cd (b := x89) hs90_106 (fun hb134 => ?_) (fun hb134 => ?_)
 have h := ite_t hb134 h
 refine Sr (Pu (pt g21 14) (Fa fo67_14 hs90_1 rfl) rfl (Pu v0_14 (Lb 2 pl65 rfl rfl rfl) rfl ?_))
 have h0_14 := h0_14.mono ((((hle30.trans hle35).trans hle44).trans hle79).trans hle90)
 refine Pu (Iv (a0.Ids.length : Int)) (PO.lenS Tryz.underlying65 rfl h0_14.len) rfl (Pu (.agg #[(Sv ⟨#[114, 111, 119]⟩), (Iv (a0.Ids.length : Int)), (Iv 18)]) (Bl (cl := [(Sv ⟨#[114, 111, 119]⟩), (Iv (a0.Ids.length : Int)), (Iv 18)]) ze33 fp33 (Pc (Sv ⟨#[114, 111, 119]⟩) rfl rfl (Pc (Iv (a0.Ids.length : Int)) rfl rfl (Pc (Iv 18) rfl rfl Pz))) rfl) rfl (WL.f1 (We (Sg (v := (.agg #[(Sv ⟨#[114, 111, 119]⟩), (Iv (a0.Ids.length : Int)), (Iv 18)])) (vl := [(Sv ⟨#[114, 111, 119]⟩), (Iv (a0.Ids.length : Int)), (Iv 18)]) (arr' := [(Sv ⟨#[114, 111, 119]⟩), (Iv (a0.Ids.length : Int)), (Iv 18)]) rfl sz33 hs90_2 rfl (onb rfl) rfl rfl rfl) rfl ?_)))
 rintro _ _ _ - ⟨rfl, rfl⟩
 exact Nt (Cr (Tr (Qa (Dr (Qa (Dr (Rd h [] (fun _ hs => hs.drop) (resultsL1 rfl (Rc (cs := [(Sv ⟨#[114, 111, 119]⟩), (Iv (a0.Ids.length : Int)), (Iv 18)]) 0 ag33 sz33 hs90_2 rfl rfl)) (((((hle24.trans hle30).trans hle35).trans hle44).trans hle79).trans hle90) ⟨rfl, rfl⟩)))))))
 have h := ite_f hb134 h
 refine Ck (Tc (Sr (Pu (.agg #[(Sv ⟨#[]⟩), (Iv 0), (Iv 0)]) (Bl (cl := [(Sv ⟨#[]⟩), (Iv 0), (Iv 0)]) ze33 fp33 Pz rfl) rfl (WL.f1 (We (Sg (v := (.agg #[(Sv ⟨#[]⟩), (Iv 0), (Iv 0)])) (vl := [(Sv ⟨#[]⟩), (Iv 0), (Iv 0)]) (arr' := [(Sv ⟨#[]⟩), (Iv 0), (Iv 0)]) rfl sz33 hs90_2 rfl (onb rfl) rfl rfl rfl) rfl ?_)))))
 rintro _ _ _ - ⟨rfl, rfl⟩
 exact Nt (Cr (Qa (Dr (Qa (Dr (Rd h [] (fun _ hs => hs.drop) (resultsL1 rfl (Rc (cs := [(Sv ⟨#[]⟩), (Iv 0), (Iv 0)]) 0 ag33 sz33 hs90_2 rfl rfl)) (((((hle24.trans hle30).trans hle35).trans hle44).trans hle79).trans hle90) ⟨rfl, rfl⟩))))))


end Go.Proofs.YtjiffdgidodebaaGreatDoor.G
