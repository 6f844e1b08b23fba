/- Go functions: what they come to, and that they do. Printed by a program of the session (gen). -/
import Derived.Test.YtjiffdgidodebaaGreatDoorRF
import Derived.Test.YtjiffdgidodebaaGreatDoorR10
import Derived.Test.YtjiffdgidodebaaGreatDoorKShar2
import Derived.Test.YtjiffdgidodebaaGreatDoorKConv
import Derived.Test.YtjiffdgidodebaaGreatDoorKTight
set_option linter.unusedVariables false
set_option linter.unusedSimpArgs false
set_option maxHeartbeats 8000000
set_option maxRecDepth 100000
namespace Go.Proofs.YtjiffdgidodebaaGreatDoor.G
open Go Go.KK

noncomputable def f_ref05_numbers (a0 : T_api_Record) : Option T_ref05_Wrong :=
  (((if (decide (a0.Kind = (10 : Int))) = true then (some (0 : Int)) else (some (1 : Int))) : Option Int).bind fun (x23 : Int) => ((f_ref05_has a0.Kind (98 : Int)).bind fun (r26 : Bool) => ((f_ref05_num a0.Broker r26 (1 : Int) (64 : Int)).bind fun (r31 : Bool) => (if (!r31) = true then (some (⟨(⟨#[98, 114, 111, 107, 101, 114]⟩ : ByteArray), a0.Broker, (2 : Int)⟩ : T_ref05_Wrong)) else ((f_ref05_has a0.Kind (101 : Int)).bind fun (r37 : Bool) => ((f_ref05_num a0.Epoch r37 (0 : Int) (1073741824 : Int)).bind fun (r42 : Bool) => (if (!r42) = true then (some (⟨(⟨#[101, 112, 111, 99, 104]⟩ : ByteArray), a0.Epoch, (2 : Int)⟩ : T_ref05_Wrong)) else ((f_ref05_has a0.Kind (116 : Int)).bind fun (r48 : Bool) => ((f_ref05_num a0.Topic r48 x23 (1073741824 : Int)).bind fun (r53 : Bool) => (if (!r53) = true then (some (⟨(⟨#[116, 111, 112, 105, 99]⟩ : ByteArray), a0.Topic, (2 : Int)⟩ : T_ref05_Wrong)) else ((f_ref05_has a0.Kind (112 : Int)).bind fun (r59 : Bool) => ((f_ref05_num a0.Part r59 (0 : Int) (255 : Int)).bind fun (r64 : Bool) => (if (!r64) = true then (some (⟨(⟨#[112, 97, 114, 116]⟩ : ByteArray), a0.Part, (2 : Int)⟩ : T_ref05_Wrong)) else ((f_ref05_has a0.Kind (108 : Int)).bind fun (r70 : Bool) => ((f_ref05_num a0.Leader r70 (0 : Int) (64 : Int)).bind fun (r75 : Bool) => (if (!r75) = true then (some (⟨(⟨#[108, 101, 97, 100, 101, 114]⟩ : ByteArray), a0.Leader, (2 : Int)⟩ : T_ref05_Wrong)) else ((((f_ref05_has a0.Kind (97 : Int)).bind fun (r83 : Bool) => ((f_ref05_num a0.Client r83 (1 : Int) (1073741824 : Int)).bind fun (r88 : Bool) => (if (!r88) = true then (some true) else ((f_ref05_has a0.Kind (97 : Int)).bind fun (r94 : Bool) => ((f_ref05_num a0.Serial r94 (1 : Int) (1073741824 : Int)).bind fun (r99 : Bool) => (if (!r99) = true then (some true) else ((f_ref05_has a0.Kind (97 : Int)).bind fun (r105 : Bool) => ((f_ref05_num a0.Code r105 (0 : Int) (21 : Int)).bind fun (r110 : Bool) => (some (!r110)))))))))) : Option Bool).bind fun (x81 : Bool) => (if x81 = true then (some (⟨(⟨#[97, 115, 107, 101, 114]⟩ : ByteArray), a0.Client, (2 : Int)⟩ : T_ref05_Wrong)) else (some (⟨(⟨#[]⟩ : ByteArray), (0 : Int), (0 : Int)⟩ : T_ref05_Wrong))))))))))))))))))))
def f_ref05_numbers_post (a0 : T_api_Record) (v0_14 v0_15 v0_16 v0_17 : Value) : T_ref05_Wrong → Value → IM → HL → Prop :=
  fun (r0 : T_ref05_Wrong) (v : Value) (M' : IM) (H' : HL) => (.agg #[(.string r0.Op), (.int .i64 r0.At), (.int .i64 r0.Code)]) = v ∧ H' = []
theorem f_ref05_numbers_ok (a0 : T_api_Record) (M : IM) (v0_14 v0_15 v0_16 v0_17 : Value) (h0_14 : RS (Kd.int .i64) M v0_14 a0.Ids) (h0_15 : RS (Kd.int .i64) M v0_15 a0.Isr) (h0_16 : RS (Kd.int .i64) M v0_16 a0.Add) (h0_17 : RS (Kd.int .i64) M v0_17 a0.Drop) (res : T_ref05_Wrong) (h : f_ref05_numbers a0 = some res) :
    Tri Tryz.prog 60 #[(a67_ a0 v0_14 v0_15 v0_16 v0_17)] M [] (f_ref05_numbers_post a0 v0_14 v0_15 v0_16 v0_17 res) := by
 unfold f_ref05_numbers at h
 refine Te Tryz.func60 rfl rfl ?_
 intro F ρ hρ
 refine Sr (We (EO.box (cs := (l67 a0 v0_14 v0_15 v0_16 v0_17).toArray) (congrArg Value.cells (asE (a67_ a0 v0_14 v0_15 v0_16 v0_17) (hρ 0)))) rfl ?_)
 rintro _ _ _ - ⟨rfl, g21, rfl, rfl⟩
 refine We (Al ze33 rfl) rfl ?_
 rintro _ _ _ - ⟨rfl, g22, rfl, rfl⟩
 refine Ns (Pu (pt g21 0) (Fa fo67_0 rfl rfl) rfl (Pu (Iv a0.Kind) (Lb 1 pl3 rfl rfl rfl) rfl (Pa (Iv a0.Kind) rfl rfl (Ns (Pa (Iv 1073741824) rfl rfl (Ns (Pa (Iv 1) rfl rfl (Nt ?_))))))))
 obtain ⟨x23, hj24, h⟩ := bnd h
 refine Jf (fun (x23 : Int) ρ' M' H' => M.le M' ∧ [(g22, .cells #[(Sv ⟨#[]⟩), (Iv 0), (Iv 0)] 33 (0, 0))] :: [(g21, .cells (l67 a0 v0_14 v0_15 v0_16 v0_17).toArray 67 (0, 0))] :: F = H' ∧ ρ' 1 = (pt g21 0) ∧ ρ' 2 = (pt g22 0) ∧ ρ' 3 = (Iv a0.Kind) ∧ ρ' 4 = (Iv 1073741824) ∧ ρ' 5 = (Iv x23)) x23 ?_ ?_
 have h324 := h
 have h := hj24
 refine Sr (Pm (Iv a0.Kind) rfl rfl (Pu (Bv (decide (a0.Kind = 10))) (PO.eql rfl rfl) rfl (Nt (Cd (b := decide (a0.Kind = 10)) rfl (fun hb25 => ?_) (fun hb25 => ?_)))))
 have h := ite_t hb25 h
 refine Cg (Pa (Iv 0) rfl rfl (Wz ?_))
 obtain rfl := oi h
 exact Tj ⟨lr, rfl, rfl, rfl, rfl, rfl, rfl⟩
 have h := ite_f hb25 h
 refine Ck ?_
 obtain rfl := oi h
 exact Tj ⟨lr, rfl, rfl, rfl, rfl, rfl, rfl⟩
 rintro ρ24 M24 H24 ⟨hle24, rfl, hs24_1, hs24_2, hs24_3, hs24_4, hs24_5⟩
 refine Cs (Cs (WC.draw [0, 1, 0, 4, 15, 31] (.pure 0 (.pure 1 (.pure 2 (.alt 3 (.alt 4 (.pure 5 .done) .none) .none)))) mixed (by kernel_rfl) (Tp (pt g21 1) rfl (Fa fo67_1 hs24_1 rfl) rfl (Tp (Iv a0.Broker) rfl (Lb 1 pl3 rfl rfl rfl) rfl (Tp (Iv a0.Kind) rfl (Mv hs24_3) rfl ?_)))))
 obtain ⟨r26, hr27, h⟩ := bnd h
 refine Ta rfl (Ca co61 (f_ref05_has_ok a0.Kind (98 : Int) _ r26 hr27) (args2 rfl rfl)) rfl ?_ ?_
 rintro _ M28 _ hle29 ⟨_, ⟨rfl, rfl⟩, rfl⟩
 refine ⟨(Sk 1 rfl (Ss rfl (Lb 1 pl3 rfl rfl rfl) rfl (Ss rfl (Fa fo67_1 hs24_1 rfl) rfl trivial))), ?_⟩
 refine WT.a0 ?_
 obtain ⟨r31, hr32, h⟩ := bnd h
 refine Ta rfl (Ca co99 (f_ref05_num_ok a0.Broker r26 (1 : Int) (64 : Int) _ r31 hr32) (args4 rfl rfl rfl rfl)) rfl ?_ ?_
 rintro _ M33 _ hle34 ⟨_, ⟨rfl, rfl⟩, rfl⟩
 refine ⟨(Sl rfl), ?_⟩
 refine WT.a0 (Tp (Bv (!r31)) rfl (PO.not rfl) rfl (Ti (Tc (Cd (b := !r31) rfl (fun hb36 => ?_) (fun hb36 => ?_)))))
 have h := ite_t hb36 h
 refine Sr (Pu (pt g21 1) (Fa fo67_1 hs24_1 rfl) rfl (Pu (Iv a0.Broker) (Lb 1 pl3 rfl rfl rfl) rfl (Pu (.agg #[(Sv ⟨#[98, 114, 111, 107, 101, 114]⟩), (Iv a0.Broker), (Iv 2)]) (Bl (cl := [(Sv ⟨#[98, 114, 111, 107, 101, 114]⟩), (Iv a0.Broker), (Iv 2)]) ze33 fp33 (Pc (Sv ⟨#[98, 114, 111, 107, 101, 114]⟩) rfl rfl (Pc (Iv a0.Broker) rfl rfl (Pc (Iv 2) rfl rfl Pz))) rfl) rfl (We (Sg (v := (.agg #[(Sv ⟨#[98, 114, 111, 107, 101, 114]⟩), (Iv a0.Broker), (Iv 2)])) (vl := [(Sv ⟨#[98, 114, 111, 107, 101, 114]⟩), (Iv a0.Broker), (Iv 2)]) (arr' := [(Sv ⟨#[98, 114, 111, 107, 101, 114]⟩), (Iv a0.Broker), (Iv 2)]) rfl sz33 hs24_2 rfl (onb rfl) rfl rfl rfl) rfl ?_))))
 rintro _ _ _ - ⟨rfl, rfl⟩
 exact Nt (Cr (Tr (Qa (Dr (Rd h [] (fun _ hs => hs.drop) (resultsL1 rfl (Rc (cs := [(Sv ⟨#[98, 114, 111, 107, 101, 114]⟩), (Iv a0.Broker), (Iv 2)]) 0 ag33 sz33 hs24_2 rfl rfl)) ((hle24.trans hle29).trans hle34) ⟨rfl, rfl⟩)))))
 have h := ite_f hb36 h
 refine Ck (Tc (Cs (Cs (WC.draw [0, 1, 0, 4, 0, 31, 63] (.pure 0 (.pure 1 (.pure 2 (.pure 4 (.alt 3 (.alt 5 (.pure 6 .done) .none) .none))))) mixed (by kernel_rfl) (Tp (pt g21 2) rfl (Fa fo67_2 hs24_1 rfl) rfl (Tp (Iv a0.Epoch) rfl (Lb 1 pl3 rfl rfl rfl) rfl (Tp (Iv a0.Kind) rfl (Mv hs24_3) rfl (Tp (Iv 1073741824) rfl (Mv hs24_4) rfl ?_))))))))
 obtain ⟨r37, hr38, h⟩ := bnd h
 refine Ta rfl (Ca co61 (f_ref05_has_ok a0.Kind (101 : Int) _ r37 hr38) (args2 rfl rfl)) rfl ?_ ?_
 rintro _ M39 _ hle40 ⟨_, ⟨rfl, rfl⟩, rfl⟩
 refine ⟨(Ss rfl (Mv hs24_4) rfl (Sk 1 rfl (Ss rfl (Lb 1 pl3 rfl rfl rfl) rfl (Ss rfl (Fa fo67_2 hs24_1 rfl) rfl trivial)))), ?_⟩
 refine WT.a0 ?_
 obtain ⟨r42, hr43, h⟩ := bnd h
 refine Ta rfl (Ca co99 (f_ref05_num_ok a0.Epoch r37 (0 : Int) (1073741824 : Int) _ r42 hr43) (args4 rfl rfl rfl rfl)) rfl ?_ ?_
 rintro _ M44 _ hle45 ⟨_, ⟨rfl, rfl⟩, rfl⟩
 refine ⟨(Sl rfl), ?_⟩
 refine WT.a0 (Tp (Bv (!r42)) rfl (PO.not rfl) rfl (Ti (Tc (Cd (b := !r42) rfl (fun hb47 => ?_) (fun hb47 => ?_)))))
 have h := ite_t hb47 h
 refine Sr (Pu (pt g21 2) (Fa fo67_2 hs24_1 rfl) rfl (Pu (Iv a0.Epoch) (Lb 1 pl3 rfl rfl rfl) rfl (Pu (.agg #[(Sv ⟨#[101, 112, 111, 99, 104]⟩), (Iv a0.Epoch), (Iv 2)]) (Bl (cl := [(Sv ⟨#[101, 112, 111, 99, 104]⟩), (Iv a0.Epoch), (Iv 2)]) ze33 fp33 (Pc (Sv ⟨#[101, 112, 111, 99, 104]⟩) rfl rfl (Pc (Iv a0.Epoch) rfl rfl (Pc (Iv 2) rfl rfl Pz))) rfl) rfl (We (Sg (v := (.agg #[(Sv ⟨#[101, 112, 111, 99, 104]⟩), (Iv a0.Epoch), (Iv 2)])) (vl := [(Sv ⟨#[101, 112, 111, 99, 104]⟩), (Iv a0.Epoch), (Iv 2)]) (arr' := [(Sv ⟨#[101, 112, 111, 99, 104]⟩), (Iv a0.Epoch), (Iv 2)]) rfl sz33 hs24_2 rfl (onb rfl) rfl rfl rfl) rfl ?_))))
 rintro _ _ _ - ⟨rfl, rfl⟩
 exact Nt (Cr (Tr (Qa (Dr (Rd h [] (fun _ hs => hs.drop) (resultsL1 rfl (Rc (cs := [(Sv ⟨#[101, 112, 111, 99, 104]⟩), (Iv a0.Epoch), (Iv 2)]) 0 ag33 sz33 hs24_2 rfl rfl)) ((((hle24.trans hle29).trans hle34).trans hle40).trans hle45) ⟨rfl, rfl⟩)))))
 have h := ite_f hb47 h
 refine Ck (Tc (Cs (Cs (WC.draw [0, 1, 0, 4, 0, 0, 63, 127] (.pure 0 (.pure 1 (.pure 2 (.pure 4 (.pure 5 (.alt 3 (.alt 6 (.pure 7 .done) .none) .none)))))) mixed (by kernel_rfl) (Tp (pt g21 3) rfl (Fa fo67_3 hs24_1 rfl) rfl (Tp (Iv a0.Topic) rfl (Lb 1 pl3 rfl rfl rfl) rfl (Tp (Iv a0.Kind) rfl (Mv hs24_3) rfl (Tp (Iv x23) rfl (Mv hs24_5) rfl (Tp (Iv 1073741824) rfl (Mv hs24_4) rfl ?_)))))))))
 obtain ⟨r48, hr49, h⟩ := bnd h
 refine Ta rfl (Ca co61 (f_ref05_has_ok a0.Kind (116 : Int) _ r48 hr49) (args2 rfl rfl)) rfl ?_ ?_
 rintro _ M50 _ hle51 ⟨_, ⟨rfl, rfl⟩, rfl⟩
 refine ⟨(Ss rfl (Mv hs24_4) rfl (Ss rfl (Mv hs24_5) rfl (Sk 1 rfl (Ss rfl (Lb 1 pl3 rfl rfl rfl) rfl (Ss rfl (Fa fo67_3 hs24_1 rfl) rfl trivial))))), ?_⟩
 refine WT.a0 ?_
 obtain ⟨r53, hr54, h⟩ := bnd h
 refine Ta rfl (Ca co99 (f_ref05_num_ok a0.Topic r48 x23 (1073741824 : Int) _ r53 hr54) (args4 rfl rfl rfl rfl)) rfl ?_ ?_
 rintro _ M55 _ hle56 ⟨_, ⟨rfl, rfl⟩, rfl⟩
 refine ⟨(Sl rfl), ?_⟩
 refine WT.a0 (Tp (Bv (!r53)) rfl (PO.not rfl) rfl (Ti (Tc (Cd (b := !r53) rfl (fun hb58 => ?_) (fun hb58 => ?_)))))
 have h := ite_t hb58 h
 refine Sr (Pu (pt g21 3) (Fa fo67_3 hs24_1 rfl) rfl (Pu (Iv a0.Topic) (Lb 1 pl3 rfl rfl rfl) rfl (Pu (.agg #[(Sv ⟨#[116, 111, 112, 105, 99]⟩), (Iv a0.Topic), (Iv 2)]) (Bl (cl := [(Sv ⟨#[116, 111, 112, 105, 99]⟩), (Iv a0.Topic), (Iv 2)]) ze33 fp33 (Pc (Sv ⟨#[116, 111, 112, 105, 99]⟩) rfl rfl (Pc (Iv a0.Topic) rfl rfl (Pc (Iv 2) rfl rfl Pz))) rfl) rfl (We (Sg (v := (.agg #[(Sv ⟨#[116, 111, 112, 105, 99]⟩), (Iv a0.Topic), (Iv 2)])) (vl := [(Sv ⟨#[116, 111, 112, 105, 99]⟩), (Iv a0.Topic), (Iv 2)]) (arr' := [(Sv ⟨#[116, 111, 112, 105, 99]⟩), (Iv a0.Topic), (Iv 2)]) rfl sz33 hs24_2 rfl (onb rfl) rfl rfl rfl) rfl ?_))))
 rintro _ _ _ - ⟨rfl, rfl⟩
 exact Nt (Cr (Tr (Qa (Dr (Rd h [] (fun _ hs => hs.drop) (resultsL1 rfl (Rc (cs := [(Sv ⟨#[116, 111, 112, 105, 99]⟩), (Iv a0.Topic), (Iv 2)]) 0 ag33 sz33 hs24_2 rfl rfl)) ((((((hle24.trans hle29).trans hle34).trans hle40).trans hle45).trans hle51).trans hle56) ⟨rfl, rfl⟩)))))
 have h := ite_f hb58 h
 refine Ck (Tc (Cs (Cs (WC.draw [0, 1, 0, 4, 15, 31] (.pure 0 (.pure 1 (.pure 2 (.alt 3 (.alt 4 (.pure 5 .done) .none) .none)))) mixed (by kernel_rfl) (Tp (pt g21 4) rfl (Fa fo67_4 hs24_1 rfl) rfl (Tp (Iv a0.Part) rfl (Lb 1 pl3 rfl rfl rfl) rfl (Tp (Iv a0.Kind) rfl (Mv hs24_3) rfl ?_)))))))
 obtain ⟨r59, hr60, h⟩ := bnd h
 refine Ta rfl (Ca co61 (f_ref05_has_ok a0.Kind (112 : Int) _ r59 hr60) (args2 rfl rfl)) rfl ?_ ?_
 rintro _ M61 _ hle62 ⟨_, ⟨rfl, rfl⟩, rfl⟩
 refine ⟨(Sk 1 rfl (Ss rfl (Lb 1 pl3 rfl rfl rfl) rfl (Ss rfl (Fa fo67_4 hs24_1 rfl) rfl trivial))), ?_⟩
 refine WT.a0 ?_
 obtain ⟨r64, hr65, h⟩ := bnd h
 refine Ta rfl (Ca co99 (f_ref05_num_ok a0.Part r59 (0 : Int) (255 : Int) _ r64 hr65) (args4 rfl rfl rfl rfl)) rfl ?_ ?_
 rintro _ M66 _ hle67 ⟨_, ⟨rfl, rfl⟩, rfl⟩
 refine ⟨(Sl rfl), ?_⟩
 refine WT.a0 (Tp (Bv (!r64)) rfl (PO.not rfl) rfl (Ti (Tc (Cd (b := !r64) rfl (fun hb69 => ?_) (fun hb69 => ?_)))))
 have h := ite_t hb69 h
 refine Sr (Pu (pt g21 4) (Fa fo67_4 hs24_1 rfl) rfl (Pu (Iv a0.Part) (Lb 1 pl3 rfl rfl rfl) rfl (Pu (.agg #[(Sv ⟨#[112, 97, 114, 116]⟩), (Iv a0.Part), (Iv 2)]) (Bl (cl := [(Sv ⟨#[112, 97, 114, 116]⟩), (Iv a0.Part), (Iv 2)]) ze33 fp33 (Pc (Sv ⟨#[112, 97, 114, 116]⟩) rfl rfl (Pc (Iv a0.Part) rfl rfl (Pc (Iv 2) rfl rfl Pz))) rfl) rfl (We (Sg (v := (.agg #[(Sv ⟨#[112, 97, 114, 116]⟩), (Iv a0.Part), (Iv 2)])) (vl := [(Sv ⟨#[112, 97, 114, 116]⟩), (Iv a0.Part), (Iv 2)]) (arr' := [(Sv ⟨#[112, 97, 114, 116]⟩), (Iv a0.Part), (Iv 2)]) rfl sz33 hs24_2 rfl (onb rfl) rfl rfl rfl) rfl ?_))))
 rintro _ _ _ - ⟨rfl, rfl⟩
 exact Nt (Cr (Tr (Qa (Dr (Rd h [] (fun _ hs => hs.drop) (resultsL1 rfl (Rc (cs := [(Sv ⟨#[112, 97, 114, 116]⟩), (Iv a0.Part), (Iv 2)]) 0 ag33 sz33 hs24_2 rfl rfl)) ((((((((hle24.trans hle29).trans hle34).trans hle40).trans hle45).trans hle51).trans hle56).trans hle62).trans hle67) ⟨rfl, rfl⟩)))))
 have h := ite_f hb69 h
 refine Ck (Tc (Cs (Cs (WC.draw [0, 1, 0, 4, 15, 31] (.pure 0 (.pure 1 (.pure 2 (.alt 3 (.alt 4 (.pure 5 .done) .none) .none)))) mixed (by kernel_rfl) (Tp (pt g21 5) rfl (Fa fo67_5 hs24_1 rfl) rfl (Tp (Iv a0.Leader) rfl (Lb 1 pl3 rfl rfl rfl) rfl (Tp (Iv a0.Kind) rfl (Mv hs24_3) rfl ?_)))))))
 obtain ⟨r70, hr71, h⟩ := bnd h
 refine Ta rfl (Ca co61 (f_ref05_has_ok a0.Kind (108 : Int) _ r70 hr71) (args2 rfl rfl)) rfl ?_ ?_
 rintro _ M72 _ hle73 ⟨_, ⟨rfl, rfl⟩, rfl⟩
 refine ⟨(Sk 1 rfl (Ss rfl (Lb 1 pl3 rfl rfl rfl) rfl (Ss rfl (Fa fo67_5 hs24_1 rfl) rfl trivial))), ?_⟩
 refine WT.a0 ?_
 obtain ⟨r75, hr76, h⟩ := bnd h
 refine Ta rfl (Ca co99 (f_ref05_num_ok a0.Leader r70 (0 : Int) (64 : Int) _ r75 hr76) (args4 rfl rfl rfl rfl)) rfl ?_ ?_
 rintro _ M77 _ hle78 ⟨_, ⟨rfl, rfl⟩, rfl⟩
 refine ⟨(Sl rfl), ?_⟩
 refine WT.a0 (Tp (Bv (!r75)) rfl (PO.not rfl) rfl (Ti (Tc (Cd (b := !r75) rfl (fun hb80 => ?_) (fun hb80 => ?_)))))
 have h := ite_t hb80 h
 refine Sr (Pu (pt g21 5) (Fa fo67_5 hs24_1 rfl) rfl (Pu (Iv a0.Leader) (Lb 1 pl3 rfl rfl rfl) rfl (Pu (.agg #[(Sv ⟨#[108, 101, 97, 100, 101, 114]⟩), (Iv a0.Leader), (Iv 2)]) (Bl (cl := [(Sv ⟨#[108, 101, 97, 100, 101, 114]⟩), (Iv a0.Leader), (Iv 2)]) ze33 fp33 (Pc (Sv ⟨#[108, 101, 97, 100, 101, 114]⟩) rfl rfl (Pc (Iv a0.Leader) rfl rfl (Pc (Iv 2) rfl rfl Pz))) rfl) rfl (We (Sg (v := (.agg #[(Sv ⟨#[108, 101, 97, 100, 101, 114]⟩), (Iv a0.Leader), (Iv 2)])) (vl := [(Sv ⟨#[108, 101, 97, 100, 101, 114]⟩), (Iv a0.Leader), (Iv 2)]) (arr' := [(Sv ⟨#[108, 101, 97, 100, 101, 114]⟩), (Iv a0.Leader), (Iv 2)]) rfl sz33 hs24_2 rfl (onb rfl) rfl rfl rfl) rfl ?_))))
 rintro _ _ _ - ⟨rfl, rfl⟩
 exact Nt (Cr (Tr (Qa (Dr (Rd h [] (fun _ hs => hs.drop) (resultsL1 rfl (Rc (cs := [(Sv ⟨#[108, 101, 97, 100, 101, 114]⟩), (Iv a0.Leader), (Iv 2)]) 0 ag33 sz33 hs24_2 rfl rfl)) ((((((((((hle24.trans hle29).trans hle34).trans hle40).trans hle45).trans hle51).trans hle56).trans hle62).trans hle67).trans hle73).trans hle78) ⟨rfl, rfl⟩)))))
 have h := ite_f hb80 h
 refine Ck (Tc (Cs ?_))
 obtain ⟨x81, hj82, h⟩ := bnd h
 refine Jf (fun (x81 : Bool) ρ' M' H' => M77.le M' ∧ [(g22, .cells #[(Sv ⟨#[]⟩), (Iv 0), (Iv 0)] 33 (0, 0))] :: [(g21, .cells (l67 a0 v0_14 v0_15 v0_16 v0_17).toArray 67 (0, 0))] :: F = H' ∧ ρ' 1 = (pt g21 0) ∧ ρ' 2 = (pt g22 0) ∧ ρ' 81 = (Bv x81)) x81 ?_ ?_
 have h382 := h
 have h := hj82
 refine WC.draw [0, 1, 0, 4, 0, 31, 63, 127, 255, 511, 255, 1279, 255, 8191, 16383, 32767, 65535, 131071, 262143, 131071, 655359, 2097151, 4194303, 8388607] (.pure 0 (.pure 1 (.pure 2 (.pure 4 (.alt 3 (.alt 5 (.pure 6 (.pure 7 (.pure 8 (.pure 9 (.pure 10 (.pure 12 (.alt 11 (.alt 13 (.pure 14 (.pure 15 (.pure 16 (.pure 17 (.pure 18 (.pure 19 (.alt 20 (.alt 21 (.pure 22 (.pure 23 .done)) .none) .none))))))) .none) .none))))))) .none) .none))))) mixed (by kernel_rfl) (Tp (pt g21 6) rfl (Fa fo67_6 hs24_1 rfl) rfl (Tp (Iv a0.Client) rfl (Lb 1 pl3 rfl rfl rfl) rfl (Tp (Iv a0.Kind) rfl (Mv hs24_3) rfl (Tp (Iv 1073741824) rfl (Mv hs24_4) rfl ?_))))
 obtain ⟨r83, hr84, h⟩ := bnd h
 refine Ta rfl (Ca co61 (f_ref05_has_ok a0.Kind (97 : Int) _ r83 hr84) (args2 rfl rfl)) rfl ?_ ?_
 rintro _ M85 _ hle86 ⟨_, ⟨rfl, rfl⟩, rfl⟩
 refine ⟨(Ss rfl (Mv hs24_4) rfl (Sk 1 rfl (Ss rfl (Lb 1 pl3 rfl rfl rfl) rfl (Ss rfl (Fa fo67_6 hs24_1 rfl) rfl trivial)))), ?_⟩
 refine WT.a0 ?_
 obtain ⟨r88, hr89, h⟩ := bnd h
 refine Ta rfl (Ca co99 (f_ref05_num_ok a0.Client r83 (1 : Int) (1073741824 : Int) _ r88 hr89) (args4 rfl rfl rfl rfl)) rfl ?_ ?_
 rintro _ M90 _ hle91 ⟨_, ⟨rfl, rfl⟩, rfl⟩
 refine ⟨(Sl rfl), ?_⟩
 refine WT.a0 (Tp (Bv (!r88)) rfl (PO.not rfl) rfl (Tp (Bv (!r88)) rfl (Mv rfl) rfl ?_))
 rcases Bt (!r88) with hb93 | hb93
 have h := ite_t hb93 h
 refine Tf 65 rfl rfl rfl hb93 rfl (Tf 65 rfl rfl rfl hb93 rfl (Tf 65 rfl rfl rfl hb93 rfl (Tf 65 rfl rfl rfl hb93 rfl (Tg 65 rfl rfl rfl hb93 rfl ⟨(St (Sf 65 rfl rfl rfl hb93 rfl) (Sk 1 rfl (St (Sf 65 rfl rfl rfl hb93 rfl) (St (Sf 65 rfl rfl rfl hb93 rfl) (Sl rfl))))), ?_⟩ ?_))))
 refine Tg 65 rfl rfl rfl hb93 rfl ⟨(Sl rfl), ?_⟩ ?_
 refine Tf 65 rfl rfl rfl hb93 rfl (Tp (Bv true) rfl (Pt rfl hb93 rfl) rfl (Tp (Bv true) rfl (Mv rfl) rfl (Tf 74 rfl rfl rfl rfl rfl (Tf 74 rfl rfl rfl rfl rfl (Tf 74 rfl rfl rfl rfl rfl (Tg 74 rfl rfl rfl rfl rfl ⟨(Sk 1 rfl (St (Sf 74 rfl rfl rfl rfl rfl) (St (Sf 74 rfl rfl rfl rfl rfl) (Sl rfl)))), ?_⟩ ?_))))))
 refine Tg 74 rfl rfl rfl rfl rfl ⟨(Sl rfl), ?_⟩ ?_
 refine Tf 74 rfl rfl rfl rfl rfl (Tp (Bv true) rfl (Pt rfl rfl rfl) rfl (Ti ?_))
 obtain rfl := oi h
 exact Tj ⟨(hle86.trans hle91), rfl, hs24_1, hs24_2, rfl⟩
 exact Tz
 exact Tz
 exact Tz
 exact Tz
 have h := ite_f hb93 h
 refine Tn (pt g21 7) 65 rfl rfl rfl hb93 (Fa fo67_7 hs24_1 rfl) rfl (Tn (Iv a0.Serial) 65 rfl rfl rfl hb93 (Lb 1 pl3 rfl rfl rfl) rfl (Tn (Iv a0.Kind) 65 rfl rfl rfl hb93 (Mv hs24_3) rfl (Tn (Iv 1073741824) 65 rfl rfl rfl hb93 (Mv hs24_4) rfl ?_)))
 obtain ⟨r94, hr95, h⟩ := bnd h
 refine WT.altOn 65 rfl rfl rfl hb93 (Ca co61 (f_ref05_has_ok a0.Kind (97 : Int) _ r94 hr95) (args2 rfl rfl)) rfl ?_ ?_
 rintro _ M96 _ hle97 ⟨_, ⟨rfl, rfl⟩, rfl⟩
 refine ⟨(St (StabA.on 65 rfl rfl rfl hb93 (Mv hs24_4) rfl) (Sk 1 rfl (St (StabA.on 65 rfl rfl rfl hb93 (Lb 1 pl3 rfl rfl rfl) rfl) (St (StabA.on 65 rfl rfl rfl hb93 (Fa fo67_7 hs24_1 rfl) rfl) (Sl rfl))))), ?_⟩
 refine WT.a0 ?_
 obtain ⟨r99, hr100, h⟩ := bnd h
 refine WT.altOn 65 rfl rfl rfl hb93 (Ca co99 (f_ref05_num_ok a0.Serial r94 (1 : Int) (1073741824 : Int) _ r99 hr100) (args4 rfl rfl rfl rfl)) rfl ?_ ?_
 rintro _ M101 _ hle102 ⟨_, ⟨rfl, rfl⟩, rfl⟩
 refine ⟨(Sl rfl), ?_⟩
 refine WT.a0 (Tn (Bv (!r99)) 65 rfl rfl rfl hb93 (PO.not rfl) rfl (Tp (Bv (!r99)) rfl (Pf rfl hb93 rfl) rfl (Tp (Bv (!r99)) rfl (Mv rfl) rfl ?_)))
 rcases Bt (!r99) with hb104 | hb104
 have h := ite_t hb104 h
 refine Tf 74 rfl rfl rfl hb104 rfl (Tf 74 rfl rfl rfl hb104 rfl (Tf 74 rfl rfl rfl hb104 rfl (Tg 74 rfl rfl rfl hb104 rfl ⟨(Sk 1 rfl (St (Sf 74 rfl rfl rfl hb104 rfl) (St (Sf 74 rfl rfl rfl hb104 rfl) (Sl rfl)))), ?_⟩ ?_)))
 refine Tg 74 rfl rfl rfl hb104 rfl ⟨(Sl rfl), ?_⟩ ?_
 refine Tf 74 rfl rfl rfl hb104 rfl (Tp (Bv true) rfl (Pt rfl hb104 rfl) rfl (Ti ?_))
 obtain rfl := oi h
 exact Tj ⟨(((hle86.trans hle91).trans hle97).trans hle102), rfl, hs24_1, hs24_2, rfl⟩
 exact Tz
 exact Tz
 have h := ite_f hb104 h
 refine Tn (pt g21 8) 74 rfl rfl rfl hb104 (Fa fo67_8 hs24_1 rfl) rfl (Tn (Iv a0.Code) 74 rfl rfl rfl hb104 (Lb 1 pl3 rfl rfl rfl) rfl (Tn (Iv a0.Kind) 74 rfl rfl rfl hb104 (Mv hs24_3) rfl ?_))
 obtain ⟨r105, hr106, h⟩ := bnd h
 refine WT.altOn 74 rfl rfl rfl hb104 (Ca co61 (f_ref05_has_ok a0.Kind (97 : Int) _ r105 hr106) (args2 rfl rfl)) rfl ?_ ?_
 rintro _ M107 _ hle108 ⟨_, ⟨rfl, rfl⟩, rfl⟩
 refine ⟨(Sk 1 rfl (St (StabA.on 74 rfl rfl rfl hb104 (Lb 1 pl3 rfl rfl rfl) rfl) (St (StabA.on 74 rfl rfl rfl hb104 (Fa fo67_8 hs24_1 rfl) rfl) (Sl rfl)))), ?_⟩
 refine WT.a0 ?_
 obtain ⟨r110, hr111, h⟩ := bnd h
 refine WT.altOn 74 rfl rfl rfl hb104 (Ca co99 (f_ref05_num_ok a0.Code r105 (0 : Int) (21 : Int) _ r110 hr111) (args4 rfl rfl rfl rfl)) rfl ?_ ?_
 rintro _ M112 _ hle113 ⟨_, ⟨rfl, rfl⟩, rfl⟩
 refine ⟨(Sl rfl), ?_⟩
 refine WT.a0 (Tn (Bv (!r110)) 74 rfl rfl rfl hb104 (PO.not rfl) rfl (Tp (Bv (!r110)) rfl (Pf rfl hb104 rfl) rfl (Ti ?_)))
 obtain rfl := oi h
 exact Tj ⟨(((((hle86.trans hle91).trans hle97).trans hle102).trans hle108).trans hle113), rfl, hs24_1, hs24_2, rfl⟩
 exact Tz
 exact Tz
 exact Tz
 exact Tz
 exact Tz
 exact Tz
 rintro ρ82 M82 H82 ⟨hle82, rfl, hs82_1, hs82_2, hs82_81⟩
 refine Cd (b := x81) hs82_81 (fun hb115 => ?_) (fun hb115 => ?_)
 have h := ite_t hb115 h
 refine Sr (Pu (pt g21 6) (Fa fo67_6 hs82_1 rfl) rfl (Pu (Iv a0.Client) (Lb 1 pl3 rfl rfl rfl) rfl (Pu (.agg #[(Sv ⟨#[97, 115, 107, 101, 114]⟩), (Iv a0.Client), (Iv 2)]) (Bl (cl := [(Sv ⟨#[97, 115, 107, 101, 114]⟩), (Iv a0.Client), (Iv 2)]) ze33 fp33 (Pc (Sv ⟨#[97, 115, 107, 101, 114]⟩) rfl rfl (Pc (Iv a0.Client) rfl rfl (Pc (Iv 2) rfl rfl Pz))) rfl) rfl (We (Sg (v := (.agg #[(Sv ⟨#[97, 115, 107, 101, 114]⟩), (Iv a0.Client), (Iv 2)])) (vl := [(Sv ⟨#[97, 115, 107, 101, 114]⟩), (Iv a0.Client), (Iv 2)]) (arr' := [(Sv ⟨#[97, 115, 107, 101, 114]⟩), (Iv a0.Client), (Iv 2)]) rfl sz33 hs82_2 rfl (onb rfl) rfl rfl rfl) rfl ?_))))
 rintro _ _ _ - ⟨rfl, rfl⟩
 exact Nt (Cr (Tr (Qa (Dr (Rd h [] (fun _ hs => hs.drop) (resultsL1 rfl (Rc (cs := [(Sv ⟨#[97, 115, 107, 101, 114]⟩), (Iv a0.Client), (Iv 2)]) 0 ag33 sz33 hs82_2 rfl rfl)) (((((((((((hle24.trans hle29).trans hle34).trans hle40).trans hle45).trans hle51).trans hle56).trans hle62).trans hle67).trans hle73).trans hle78).trans hle82) ⟨rfl, rfl⟩)))))
 have h := ite_f hb115 h
 refine Ck (Tc (Sr (Pu (.agg #[(Sv ⟨#[]⟩), (Iv 0), (Iv 0)]) (Bl (cl := [(Sv ⟨#[]⟩), (Iv 0), (Iv 0)]) ze33 fp33 Pz rfl) rfl (We (Sg (v := (.agg #[(Sv ⟨#[]⟩), (Iv 0), (Iv 0)])) (vl := [(Sv ⟨#[]⟩), (Iv 0), (Iv 0)]) (arr' := [(Sv ⟨#[]⟩), (Iv 0), (Iv 0)]) rfl sz33 hs82_2 rfl (onb rfl) rfl rfl rfl) rfl ?_))))
 rintro _ _ _ - ⟨rfl, rfl⟩
 exact Nt (Cr (Qa (Dr (Rd h [] (fun _ hs => hs.drop) (resultsL1 rfl (Rc (cs := [(Sv ⟨#[]⟩), (Iv 0), (Iv 0)]) 0 ag33 sz33 hs82_2 rfl rfl)) (((((((((((hle24.trans hle29).trans hle34).trans hle40).trans hle45).trans hle51).trans hle56).trans hle62).trans hle67).trans hle73).trans hle78).trans hle82) ⟨rfl, rfl⟩))))
 exact Tz
 exact Tz
 exact Tz
 exact Tz
 exact Tz
 exact Tz
 exact Tz
 exact Tz
 exact Tz
 exact Tz

noncomputable def f_ref05_Name_l0 (a0 : ByteArray) (s_ : Int) : Option (Int ⊕ (Unit ⊕ Unit)) :=
  match s_ with
  | x29 =>
    (if (decide (x29 < (a0.size : Int))) = true then (grd (0 ≤ x29 ∧ x29 < a0.size) (((if (decide ((97 : Int) ≤ (btAt a0 x29))) = true then (if (decide ((btAt a0 x29) ≤ (122 : Int))) = true then (some true) else (if (decide ((48 : Int) ≤ (btAt a0 x29))) = true then (if (decide ((btAt a0 x29) ≤ (57 : Int))) = true then (some true) else (if (decide ((btAt a0 x29) = (46 : Int))) = true then (some true) else (some (decide ((btAt a0 x29) = (45 : Int)))))) else (if (decide ((btAt a0 x29) = (46 : Int))) = true then (some true) else (some (decide ((btAt a0 x29) = (45 : Int))))))) else (if (decide ((48 : Int) ≤ (btAt a0 x29))) = true then (if (decide ((btAt a0 x29) ≤ (57 : Int))) = true then (some true) else (if (decide ((btAt a0 x29) = (46 : Int))) = true then (some true) else (some (decide ((btAt a0 x29) = (45 : Int)))))) else (if (decide ((btAt a0 x29) = (46 : Int))) = true then (some true) else (some (decide ((btAt a0 x29) = (45 : Int))))))) : Option Bool).bind fun (x33 : Bool) => (if (!x33) = true then (some (Sum.inr (Sum.inr ()))) else (some (Sum.inl (IntKind.i64.wrap (x29 + (1 : Int)))))))) else (some (Sum.inr (Sum.inl ()))))
noncomputable def f_ref05_Name (a0 : ByteArray) : Option Bool :=
  (((if (decide ((a0.size : Int) < (1 : Int))) = true then (some true) else (if (decide ((40 : Int) < (a0.size : Int))) = true then (some true) else (if (decide (a0 = (⟨#[46]⟩ : ByteArray))) = true then (some true) else (some (decide (a0 = (⟨#[46, 46]⟩ : ByteArray))))))) : Option Bool).bind fun (x21 : Bool) => (if x21 = true then (some false) else ((((iter (f_ref05_Name_l0 a0) (0 : Int)).bind (Sum.elim (fun _ => (some (Sum.inl ()))) (fun _ => (((some false)).bind fun r => some (Sum.inr r))))) : Option (Unit ⊕ Bool)).bind (Sum.elim (fun _ => (some true)) some))))
def f_ref05_Name_post (a0 : ByteArray) : Bool → Value → IM → HL → Prop :=
  fun (r0 : Bool) (v : Value) (M' : IM) (H' : HL) => (.bool r0) = v ∧ H' = []
theorem f_ref05_Name_ok (a0 : ByteArray) (M : IM) (res : Bool) (h : f_ref05_Name a0 = some res) :
    Tri Tryz.prog 100 #[(Sv a0)] M [] (f_ref05_Name_post a0 res) := by
 unfold f_ref05_Name at h
 refine Te Tryz.func100 rfl rfl ?_
 intro F ρ hρ
 refine Sr (Pa (Bv false) rfl rfl (Nt (Cs ?_)))
 obtain ⟨x21, hj22, h⟩ := bnd h
 refine Jf (fun (x21 : Bool) ρ' M' H' => M.le M' ∧ F = H' ∧ ρ' 0 = (Sv a0) ∧ ρ' 21 = (Bv x21)) x21 ?_ ?_
 have h322 := h
 have h := hj22
 refine Cg (Pm (Sv a0) (hρ 0) rfl (Pu (Iv (a0.size : Int)) (PO.lenStr Tryz.underlying9 rfl) rfl (Pu (Bv (decide ((a0.size : Int) < (1 : Int)))) (PO.lss rfl rfl) rfl (Pm (Bv (decide ((a0.size : Int) < (1 : Int)))) rfl rfl ?_))))
 rcases Bt (decide ((a0.size : Int) < (1 : Int))) with hb23 | hb23
 have h := ite_t hb23 h
 iterate 3 refine Of 9 rfl rfl hb23 rfl ?_
 refine Pu (Bv true) (Pt rfl hb23 rfl) rfl (Pm (Bv true) rfl rfl ?_)
 iterate 2 refine Of 14 rfl rfl rfl rfl ?_
 refine Pu (Bv true) (Pt rfl rfl rfl) rfl (Pm (Bv true) rfl rfl ?_)
 iterate 2 refine Of 18 rfl rfl rfl rfl ?_
 refine Pu (Bv true) (Pt rfl rfl rfl) rfl (Wz ?_)
 obtain rfl := oi h
 exact Tj ⟨lr, rfl, (hρ 0), rfl⟩
 have h := ite_f hb23 h
 refine On 9 rfl rfl hb23 (Pm (Sv a0) (hρ 0) rfl (On 9 rfl rfl hb23 (Pu (Iv (a0.size : Int)) (PO.lenStr Tryz.underlying9 rfl) rfl (On 9 rfl rfl hb23 (Pu (Bv (decide ((40 : Int) < (a0.size : Int)))) (PO.gtr rfl rfl) rfl (Pu (Bv (decide ((40 : Int) < (a0.size : Int)))) (Pf rfl hb23 rfl) rfl (Pm (Bv (decide ((40 : Int) < (a0.size : Int)))) rfl rfl ?_)))))))
 rcases Bt (decide ((40 : Int) < (a0.size : Int))) with hb24 | hb24
 have h := ite_t hb24 h
 iterate 2 refine Of 14 rfl rfl hb24 rfl ?_
 refine Pu (Bv true) (Pt rfl hb24 rfl) rfl (Pm (Bv true) rfl rfl ?_)
 iterate 2 refine Of 18 rfl rfl rfl rfl ?_
 refine Pu (Bv true) (Pt rfl rfl rfl) rfl (Wz ?_)
 obtain rfl := oi h
 exact Tj ⟨lr, rfl, (hρ 0), rfl⟩
 have h := ite_f hb24 h
 refine On 14 rfl rfl hb24 (Pm (Sv a0) (hρ 0) rfl (On 14 rfl rfl hb24 (Pu (Bv (decide (a0 = (⟨#[46]⟩ : ByteArray)))) (PO.seql rfl rfl) rfl (Pu (Bv (decide (a0 = (⟨#[46]⟩ : ByteArray)))) (Pf rfl hb24 rfl) rfl (Pm (Bv (decide (a0 = (⟨#[46]⟩ : ByteArray)))) rfl rfl ?_)))))
 rcases Bt (decide (a0 = (⟨#[46]⟩ : ByteArray))) with hb25 | hb25
 have h := ite_t hb25 h
 iterate 2 refine Of 18 rfl rfl hb25 rfl ?_
 refine Pu (Bv true) (Pt rfl hb25 rfl) rfl (Wz ?_)
 obtain rfl := oi h
 exact Tj ⟨lr, rfl, (hρ 0), rfl⟩
 have h := ite_f hb25 h
 refine On 18 rfl rfl hb25 (Pm (Sv a0) (hρ 0) rfl (On 18 rfl rfl hb25 (Pu (Bv (decide (a0 = (⟨#[46, 46]⟩ : ByteArray)))) (PO.seql rfl rfl) rfl (Pu (Bv (decide (a0 = (⟨#[46, 46]⟩ : ByteArray)))) (Pf rfl hb25 rfl) rfl (Wz ?_)))))
 obtain rfl := oi h
 exact Tj ⟨lr, rfl, (hρ 0), rfl⟩
 rintro ρ22 M22 H22 ⟨hle22, rfl, hs22_0, hs22_21⟩
 refine Cd (b := x21) hs22_21 (fun hb26 => ?_) (fun hb26 => ?_)
 have h := ite_t hb26 h
 exact Sr (Pa (Bv false) rfl rfl (Nt (Cr (Tr (Rf h [] rfl (Rs rfl rfl) hle22 ⟨rfl, rfl⟩)))))
 have h := ite_f hb26 h
 refine Ck (Tc ?_)
 obtain ⟨j27, hj27, h⟩ := bnd h
 refine WC.joinE (fun (_ : Unit) ρ' M' H' => M22.le M' ∧ F = H') j27 ?_ ?_
 have h327 := h
 have h := hj27
 refine Sr (Pa (Iv 0) rfl rfl (Nt (Bk ?_)))
 obtain ⟨e28, he28, hK28⟩ := bnd h
 clear h
 refine WC.loop he28 (fun (x29 : Int) ρ' M' H' => M22.le M' ∧ F = H' ∧ ρ' 0 = (Sv a0) ∧ ρ' 3 = (Iv x29)) ?_ ?_
 exact ⟨lr, rfl, hs22_0, rfl⟩
 rintro x29 o28 ρ28 M28 H28 h ⟨hle28, rfl, hs28_0, hs28_3⟩
 unfold f_ref05_Name_l0 at h
 refine Cs (Sr (Pm (Iv x29) hs28_3 rfl (Pm (Sv a0) hs28_0 rfl (Pu (Iv (a0.size : Int)) (PO.lenStr Tryz.underlying9 rfl) rfl (Pu (Bv (decide (x29 < (a0.size : Int)))) (PO.lss rfl rfl) rfl (Nt (Cd (b := decide (x29 < (a0.size : Int))) rfl (fun hb30 => ?_) (fun hb30 => ?_))))))))
 have h := ite_t hb30 h
 refine Ck (Tc (Cs (Bk (Sr (Pm (Sv a0) hs28_0 rfl (Pm (Iv x29) hs28_3 rfl ?_))))))
 obtain ⟨hg31, h⟩ := grd_i h
 refine Pu (Yv (btAt a0 x29)) (PO.indexStr Tryz.underlying9 rfl rfl hg31.1 (strAt hg31)) rfl (Pa (Yv (btAt a0 x29)) rfl rfl (Nt ?_))
 obtain ⟨x33, hj34, h⟩ := bnd h
 refine Jf (fun (x33 : Bool) ρ' M' H' => M28.le M' ∧ F = H' ∧ ρ' 0 = (Sv a0) ∧ ρ' 3 = (Iv x29) ∧ ρ' 5 = (Bv x33)) x33 ?_ ?_
 have h334 := h
 have h := hj34
 refine Cg (Pm (Yv (btAt a0 x29)) rfl rfl (Pu (Bv (decide ((97 : Int) ≤ (btAt a0 x29)))) (PO.geq rfl rfl) rfl (Pm (Bv (decide ((97 : Int) ≤ (btAt a0 x29)))) rfl rfl ?_)))
 rcases Bt (decide ((97 : Int) ≤ (btAt a0 x29))) with hb35 | hb35
 have h := ite_t hb35 h
 refine On 33 rfl rfl hb35 (Pm (Yv (btAt a0 x29)) rfl rfl (On 33 rfl rfl hb35 (Pu (Bv (decide ((btAt a0 x29) ≤ 122))) (PO.leq rfl rfl) rfl (Pu (Bv (decide ((btAt a0 x29) ≤ 122))) (Pt rfl hb35 rfl) rfl (Pm (Bv (decide ((btAt a0 x29) ≤ 122))) rfl rfl ?_)))))
 rcases Bt (decide ((btAt a0 x29) ≤ 122)) with hb36 | hb36
 have h := ite_t hb36 h
 iterate 3 refine Of 37 rfl rfl hb36 rfl ?_
 refine WL.offU 40 rfl rfl rfl (WL.offU 40 rfl rfl rfl (Of 37 rfl rfl hb36 rfl (Pu (Bv true) (Pt rfl hb36 rfl) rfl (Pm (Bv true) rfl rfl ?_))))
 iterate 2 refine Of 45 rfl rfl rfl rfl ?_
 refine Pu (Bv true) (Pt rfl rfl rfl) rfl (Pm (Bv true) rfl rfl ?_)
 iterate 2 refine Of 49 rfl rfl rfl rfl ?_
 refine Pu (Bv true) (Pt rfl rfl rfl) rfl (Pa (Bv true) rfl rfl (Wz ?_))
 obtain rfl := oi h
 exact Tj ⟨lr, rfl, hs28_0, hs28_3, rfl⟩
 have h := ite_f hb36 h
 refine On 37 rfl rfl hb36 (Pm (Yv (btAt a0 x29)) rfl rfl (On 37 rfl rfl hb36 (Pu (Bv (decide ((48 : Int) ≤ (btAt a0 x29)))) (PO.geq rfl rfl) rfl (On 37 rfl rfl hb36 (Pm (Bv (decide ((48 : Int) ≤ (btAt a0 x29)))) rfl rfl ?_)))))
 rcases Bt (decide ((48 : Int) ≤ (btAt a0 x29))) with hb37 | hb37
 have h := ite_t hb37 h
 refine On 40 rfl rfl hb37 (Pm (Yv (btAt a0 x29)) rfl rfl (On 40 rfl rfl hb37 (Pu (Bv (decide ((btAt a0 x29) ≤ 57))) (PO.leq rfl rfl) rfl (On 37 rfl rfl hb36 (Pu (Bv (decide ((btAt a0 x29) ≤ 57))) (Pt rfl hb37 rfl) rfl (Pu (Bv (decide ((btAt a0 x29) ≤ 57))) (Pf rfl hb36 rfl) rfl (Pm (Bv (decide ((btAt a0 x29) ≤ 57))) rfl rfl ?_)))))))
 rcases Bt (decide ((btAt a0 x29) ≤ 57)) with hb38 | hb38
 have h := ite_t hb38 h
 iterate 2 refine Of 45 rfl rfl hb38 rfl ?_
 refine Pu (Bv true) (Pt rfl hb38 rfl) rfl (Pm (Bv true) rfl rfl ?_)
 iterate 2 refine Of 49 rfl rfl rfl rfl ?_
 refine Pu (Bv true) (Pt rfl rfl rfl) rfl (Pa (Bv true) rfl rfl (Wz ?_))
 obtain rfl := oi h
 exact Tj ⟨lr, rfl, hs28_0, hs28_3, rfl⟩
 have h := ite_f hb38 h
 refine On 45 rfl rfl hb38 (Pm (Yv (btAt a0 x29)) rfl rfl (On 45 rfl rfl hb38 (Pu (Bv (decide ((btAt a0 x29) = 46))) (PO.eql rfl rfl) rfl (Pu (Bv (decide ((btAt a0 x29) = 46))) (Pf rfl hb38 rfl) rfl (Pm (Bv (decide ((btAt a0 x29) = 46))) rfl rfl ?_)))))
 rcases Bt (decide ((btAt a0 x29) = 46)) with hb39 | hb39
 have h := ite_t hb39 h
 iterate 2 refine Of 49 rfl rfl hb39 rfl ?_
 refine Pu (Bv true) (Pt rfl hb39 rfl) rfl (Pa (Bv true) rfl rfl (Wz ?_))
 obtain rfl := oi h
 exact Tj ⟨lr, rfl, hs28_0, hs28_3, rfl⟩
 have h := ite_f hb39 h
 refine On 49 rfl rfl hb39 (Pm (Yv (btAt a0 x29)) rfl rfl (On 49 rfl rfl hb39 (Pu (Bv (decide ((btAt a0 x29) = 45))) (PO.eql rfl rfl) rfl (Pu (Bv (decide ((btAt a0 x29) = 45))) (Pf rfl hb39 rfl) rfl (Pa (Bv (decide ((btAt a0 x29) = 45))) rfl rfl (Wz ?_))))))
 obtain rfl := oi h
 exact Tj ⟨lr, rfl, hs28_0, hs28_3, rfl⟩
 have h := ite_f hb37 h
 iterate 2 refine Of 40 rfl rfl hb37 rfl ?_
 refine On 37 rfl rfl hb36 (Pu (Bv false) (Pf rfl hb37 rfl) rfl (Pu (Bv false) (Pf rfl hb36 rfl) rfl (Pm (Bv false) rfl rfl (On 45 rfl rfl rfl (Pm (Yv (btAt a0 x29)) rfl rfl (On 45 rfl rfl rfl (Pu (Bv (decide ((btAt a0 x29) = 46))) (PO.eql rfl rfl) rfl (Pu (Bv (decide ((btAt a0 x29) = 46))) (Pf rfl rfl rfl) rfl (Pm (Bv (decide ((btAt a0 x29) = 46))) rfl rfl ?_)))))))))
 rcases Bt (decide ((btAt a0 x29) = 46)) with hb40 | hb40
 have h := ite_t hb40 h
 iterate 2 refine Of 49 rfl rfl hb40 rfl ?_
 refine Pu (Bv true) (Pt rfl hb40 rfl) rfl (Pa (Bv true) rfl rfl (Wz ?_))
 obtain rfl := oi h
 exact Tj ⟨lr, rfl, hs28_0, hs28_3, rfl⟩
 have h := ite_f hb40 h
 refine On 49 rfl rfl hb40 (Pm (Yv (btAt a0 x29)) rfl rfl (On 49 rfl rfl hb40 (Pu (Bv (decide ((btAt a0 x29) = 45))) (PO.eql rfl rfl) rfl (Pu (Bv (decide ((btAt a0 x29) = 45))) (Pf rfl hb40 rfl) rfl (Pa (Bv (decide ((btAt a0 x29) = 45))) rfl rfl (Wz ?_))))))
 obtain rfl := oi h
 exact Tj ⟨lr, rfl, hs28_0, hs28_3, rfl⟩
 have h := ite_f hb35 h
 iterate 2 refine Of 33 rfl rfl hb35 rfl ?_
 refine Pu (Bv false) (Pf rfl hb35 rfl) rfl (Pm (Bv false) rfl rfl (On 37 rfl rfl rfl (Pm (Yv (btAt a0 x29)) rfl rfl (On 37 rfl rfl rfl (Pu (Bv (decide ((48 : Int) ≤ (btAt a0 x29)))) (PO.geq rfl rfl) rfl (On 37 rfl rfl rfl (Pm (Bv (decide ((48 : Int) ≤ (btAt a0 x29)))) rfl rfl ?_)))))))
 rcases Bt (decide ((48 : Int) ≤ (btAt a0 x29))) with hb41 | hb41
 have h := ite_t hb41 h
 refine On 40 rfl rfl hb41 (Pm (Yv (btAt a0 x29)) rfl rfl (On 40 rfl rfl hb41 (Pu (Bv (decide ((btAt a0 x29) ≤ 57))) (PO.leq rfl rfl) rfl (On 37 rfl rfl rfl (Pu (Bv (decide ((btAt a0 x29) ≤ 57))) (Pt rfl hb41 rfl) rfl (Pu (Bv (decide ((btAt a0 x29) ≤ 57))) (Pf rfl rfl rfl) rfl (Pm (Bv (decide ((btAt a0 x29) ≤ 57))) rfl rfl ?_)))))))
 rcases Bt (decide ((btAt a0 x29) ≤ 57)) with hb42 | hb42
 have h := ite_t hb42 h
 iterate 2 refine Of 45 rfl rfl hb42 rfl ?_
 refine Pu (Bv true) (Pt rfl hb42 rfl) rfl (Pm (Bv true) rfl rfl ?_)
 iterate 2 refine Of 49 rfl rfl rfl rfl ?_
 refine Pu (Bv true) (Pt rfl rfl rfl) rfl (Pa (Bv true) rfl rfl (Wz ?_))
 obtain rfl := oi h
 exact Tj ⟨lr, rfl, hs28_0, hs28_3, rfl⟩
 have h := ite_f hb42 h
 refine On 45 rfl rfl hb42 (Pm (Yv (btAt a0 x29)) rfl rfl (On 45 rfl rfl hb42 (Pu (Bv (decide ((btAt a0 x29) = 46))) (PO.eql rfl rfl) rfl (Pu (Bv (decide ((btAt a0 x29) = 46))) (Pf rfl hb42 rfl) rfl (Pm (Bv (decide ((btAt a0 x29) = 46))) rfl rfl ?_)))))
 rcases Bt (decide ((btAt a0 x29) = 46)) with hb43 | hb43
 have h := ite_t hb43 h
 iterate 2 refine Of 49 rfl rfl hb43 rfl ?_
 refine Pu (Bv true) (Pt rfl hb43 rfl) rfl (Pa (Bv true) rfl rfl (Wz ?_))
 obtain rfl := oi h
 exact Tj ⟨lr, rfl, hs28_0, hs28_3, rfl⟩
 have h := ite_f hb43 h
 refine On 49 rfl rfl hb43 (Pm (Yv (btAt a0 x29)) rfl rfl (On 49 rfl rfl hb43 (Pu (Bv (decide ((btAt a0 x29) = 45))) (PO.eql rfl rfl) rfl (Pu (Bv (decide ((btAt a0 x29) = 45))) (Pf rfl hb43 rfl) rfl (Pa (Bv (decide ((btAt a0 x29) = 45))) rfl rfl (Wz ?_))))))
 obtain rfl := oi h
 exact Tj ⟨lr, rfl, hs28_0, hs28_3, rfl⟩
 have h := ite_f hb41 h
 iterate 2 refine Of 40 rfl rfl hb41 rfl ?_
 refine On 37 rfl rfl rfl (Pu (Bv false) (Pf rfl hb41 rfl) rfl (Pu (Bv false) (Pf rfl rfl rfl) rfl (Pm (Bv false) rfl rfl (On 45 rfl rfl rfl (Pm (Yv (btAt a0 x29)) rfl rfl (On 45 rfl rfl rfl (Pu (Bv (decide ((btAt a0 x29) = 46))) (PO.eql rfl rfl) rfl (Pu (Bv (decide ((btAt a0 x29) = 46))) (Pf rfl rfl rfl) rfl (Pm (Bv (decide ((btAt a0 x29) = 46))) rfl rfl ?_)))))))))
 rcases Bt (decide ((btAt a0 x29) = 46)) with hb44 | hb44
 have h := ite_t hb44 h
 iterate 2 refine Of 49 rfl rfl hb44 rfl ?_
 refine Pu (Bv true) (Pt rfl hb44 rfl) rfl (Pa (Bv true) rfl rfl (Wz ?_))
 obtain rfl := oi h
 exact Tj ⟨lr, rfl, hs28_0, hs28_3, rfl⟩
 have h := ite_f hb44 h
 refine On 49 rfl rfl hb44 (Pm (Yv (btAt a0 x29)) rfl rfl (On 49 rfl rfl hb44 (Pu (Bv (decide ((btAt a0 x29) = 45))) (PO.eql rfl rfl) rfl (Pu (Bv (decide ((btAt a0 x29) = 45))) (Pf rfl hb44 rfl) rfl (Pa (Bv (decide ((btAt a0 x29) = 45))) rfl rfl (Wz ?_))))))
 obtain rfl := oi h
 exact Tj ⟨lr, rfl, hs28_0, hs28_3, rfl⟩
 rintro ρ34 M34 H34 ⟨hle34, rfl, hs34_0, hs34_3, hs34_5⟩
 refine Sr (Pm (Bv x33) hs34_5 rfl (Pu (Bv (!x33)) (PO.not rfl) rfl (Nt (Cd (b := !x33) rfl (fun hb45 => ?_) (fun hb45 => ?_)))))
 have h := ite_t hb45 h
 refine Sr (Pa (Bv false) rfl rfl (Nt (Cr (Br (Tr (WQ.leaveR (Sum.inr ()) (oi h).symm (fun heq28 => ?_)))))))
 subst heq28
 have h := (elimR hK28)
 refine Br (Tr ?_)
 have h := KK.early h h327
 exact Rf h [] rfl (Rs rfl rfl) ((hle22.trans hle28).trans hle34) ⟨rfl, rfl⟩
 have h := ite_f hb45 h
 exact Ck (Bn (Tc (Cg (Pm (Iv x29) hs34_3 rfl (Pu (Iv (IntKind.i64.wrap (x29 + 1))) (PO.add rfl rfl) rfl (Pa (Iv (IntKind.i64.wrap (x29 + 1))) rfl rfl (Wz (WQ.again (IntKind.i64.wrap (x29 + 1)) (oi h).symm ⟨(hle28.trans hle34), rfl, hs34_0, rfl⟩))))))))
 have h := ite_f hb30 h
 refine WC.exit (WQ.thenE (WQ.leaveE (Sum.inl ()) (oi h).symm (fun heq28 => ?_)))
 subst heq28
 have h := elimL hK28
 exact WQ.blockH (WQ.thenFE h ⟨hle28, rfl⟩)
 rintro _ ρ27 M27 H27 rfl ⟨hle27, rfl⟩
 have h := (Sum.elim_inl _ _ _).symm.trans h
 exact Sr (Pa (Bv true) rfl rfl (Nt (Cr (Rf h [] rfl (Rs rfl rfl) (hle22.trans hle27) ⟨rfl, rfl⟩))))

noncomputable def f_ref05_name (a0 : ByteArray) (a1 : Bool) : Option Bool :=
  (if a1 = true then ((f_ref05_Name a0).bind fun (r22 : Bool) => (some r22)) else (some (decide (a0 = (⟨#[]⟩ : ByteArray)))))
def f_ref05_name_post (a0 : ByteArray) (a1 : Bool) : Bool → Value → IM → HL → Prop :=
  fun (r0 : Bool) (v : Value) (M' : IM) (H' : HL) => (.bool r0) = v ∧ H' = []
theorem f_ref05_name_ok (a0 : ByteArray) (a1 : Bool) (M : IM) (res : Bool) (h : f_ref05_name a0 a1 = some res) :
    Tri Tryz.prog 62 #[(Sv a0), (Bv a1)] M [] (f_ref05_name_post a0 a1 res) := by
 unfold f_ref05_name at h
 refine Te Tryz.func62 rfl rfl ?_
 intro F ρ hρ
 refine Sr (Pa (Bv false) rfl rfl (Nt (Cs (Sr (Pm (Bv a1) (hρ 1) rfl (Nt (Cd (b := a1) rfl (fun hb21 => ?_) (fun hb21 => ?_))))))))
 have h := ite_t hb21 h
 refine Sr (Pm (Sv a0) (hρ 0) rfl ?_)
 obtain ⟨r22, hr23, h⟩ := bnd h
 refine We (Ca co100 (f_ref05_Name_ok a0 _ r22 hr23) (args1 rfl)) rfl ?_
 rintro _ M24 _ hle25 ⟨_, ⟨rfl, rfl⟩, rfl⟩
 exact WL.a0 (Pa (Bv r22) rfl rfl (Nt (Cr (Tr (Rf h [] rfl (Rs rfl rfl) hle25 ⟨rfl, rfl⟩)))))
 have h := ite_f hb21 h
 exact Ck (Tc (Sr (Pm (Sv a0) (hρ 0) rfl (Pu (Bv (decide (a0 = (⟨#[]⟩ : ByteArray)))) (PO.seql rfl rfl) rfl (Pa (Bv (decide (a0 = (⟨#[]⟩ : ByteArray)))) rfl rfl (Nt (Cr (Rf h [] rfl (Rs rfl rfl) lr ⟨rfl, rfl⟩))))))))

noncomputable def f_ref05_Brokers_l1 (a0 : (List Int)) (x24 : Int) (s_ : Int) : Option (Int ⊕ (Unit ⊕ Unit)) :=
  match s_ with
  | x46 =>
    (if (decide (x46 < x24)) = true then (grd (0 ≤ x46 ∧ x46 < a0.length) (grd (0 ≤ x24 ∧ x24 < a0.length) (if (decide ((rd a0 x46) = (rd a0 x24))) = true then (some (Sum.inr (Sum.inr ()))) else (some (Sum.inl (IntKind.i64.wrap (x46 + (1 : Int)))))))) else (some (Sum.inr (Sum.inl ()))))
noncomputable def f_ref05_Brokers_l0 (a0 : (List Int)) (s_ : Int) : Option (Int ⊕ (Unit ⊕ Unit)) :=
  match s_ with
  | x24 =>
    (if (decide (x24 < (a0.length : Int))) = true then (((((grd (0 ≤ x24 ∧ x24 < a0.length) (if (decide ((rd a0 x24) < (1 : Int))) = true then (some true) else (grd (0 ≤ x24 ∧ x24 < a0.length) (some (decide ((64 : Int) < (rd a0 x24))))))) : Option Bool).bind fun (x27 : Bool) => (if x27 = true then (((some (Sum.inr (Sum.inr ())))).bind fun r => some (Sum.inr r)) else ((iter (f_ref05_Brokers_l1 a0 x24) (0 : Int)).bind (Sum.elim (fun _ => (some (Sum.inl ()))) (fun _ => (((some (Sum.inr (Sum.inr ())))).bind fun r => some (Sum.inr r))))))) : Option (Unit ⊕ (Int ⊕ (Unit ⊕ Unit)))).bind (Sum.elim (fun _ => (some (Sum.inl (IntKind.i64.wrap (x24 + (1 : Int)))))) some)) else (some (Sum.inr (Sum.inl ()))))
noncomputable def f_ref05_Brokers (a0 : (List Int)) : Option Bool :=
  (if (decide ((7 : Int) < (a0.length : Int))) = true then (some false) else ((((iter (f_ref05_Brokers_l0 a0) (0 : Int)).bind (Sum.elim (fun _ => (some (Sum.inl ()))) (fun _ => (((some false)).bind fun r => some (Sum.inr r))))) : Option (Unit ⊕ Bool)).bind (Sum.elim (fun _ => (some true)) some)))
def f_ref05_Brokers_post (a0 : (List Int)) (v0 : Value) : Bool → Value → IM → HL → Prop :=
  fun (r0 : Bool) (v : Value) (M' : IM) (H' : HL) => (.bool r0) = v ∧ H' = []
theorem f_ref05_Brokers_ok (a0 : (List Int)) (M : IM) (v0 : Value) (h0 : RS (Kd.int .i64) M v0 a0) (res : Bool) (h : f_ref05_Brokers a0 = some res) :
    Tri Tryz.prog 101 #[v0] M [] (f_ref05_Brokers_post a0 v0 res) := by
 unfold f_ref05_Brokers at h
 refine Te Tryz.func101 rfl rfl ?_
 intro F ρ hρ
 refine Sr (Pa (Bv false) rfl rfl (Nt (Cs (Sr (Pm v0 (hρ 0) rfl (Pu (Iv (a0.length : Int)) (PO.lenS Tryz.underlying65 rfl h0.len) rfl (Pu (Bv (decide ((7 : Int) < (a0.length : Int)))) (PO.gtr rfl rfl) rfl (Nt (Cd (b := decide ((7 : Int) < (a0.length : Int))) rfl (fun hb21 => ?_) (fun hb21 => ?_))))))))))
 have h := ite_t hb21 h
 exact Sr (Pa (Bv false) rfl rfl (Nt (Cr (Tr (Rf h [] rfl (Rs rfl rfl) lr ⟨rfl, rfl⟩)))))
 have h := ite_f hb21 h
 refine Ck (Tc ?_)
 obtain ⟨j22, hj22, h⟩ := bnd h
 refine WC.joinE (fun (_ : Unit) ρ' M' H' => M.le M' ∧ F = H') j22 ?_ ?_
 have h322 := h
 have h := hj22
 refine Sr (Pa (Iv 0) rfl rfl (Nt (Bk ?_)))
 obtain ⟨e23, he23, hK23⟩ := bnd h
 clear h
 refine WC.loop he23 (fun (x24 : Int) ρ' M' H' => M.le M' ∧ F = H' ∧ ρ' 0 = v0 ∧ ρ' 3 = (Iv x24)) ?_ ?_
 exact ⟨lr, rfl, (hρ 0), rfl⟩
 rintro x24 o23 ρ23 M23 H23 h ⟨hle23, rfl, hs23_0, hs23_3⟩
 unfold f_ref05_Brokers_l0 at h
 refine Cs (Sr (Pm (Iv x24) hs23_3 rfl (Pm v0 hs23_0 rfl ?_)))
 have h0 := h0.mono hle23
 refine Pu (Iv (a0.length : Int)) (PO.lenS Tryz.underlying65 rfl h0.len) rfl (Pu (Bv (decide (x24 < (a0.length : Int)))) (PO.lss rfl rfl) rfl (Nt (Cd (b := decide (x24 < (a0.length : Int))) rfl (fun hb25 => ?_) (fun hb25 => ?_))))
 have h := ite_t hb25 h
 refine Ck (Tc ?_)
 obtain ⟨j26, hj26, h⟩ := bnd h
 refine WC.joinE (fun (_ : Unit) ρ' M' H' => M23.le M' ∧ F = H' ∧ ρ' 0 = v0 ∧ ρ' 3 = (Iv x24)) j26 ?_ ?_
 have h326 := h
 have h := hj26
 refine Bk (Cs ?_)
 obtain ⟨x27, hj28, h⟩ := bnd h
 refine Jf (fun (x27 : Bool) ρ' M' H' => M23.le M' ∧ F = H' ∧ ρ' 0 = v0 ∧ ρ' 3 = (Iv x24) ∧ ρ' 25 = (Bv x27)) x27 ?_ ?_
 have h328 := h
 have h := hj28
 refine Cg (Pm v0 hs23_0 rfl (Pm (Iv x24) hs23_3 rfl ?_))
 obtain ⟨hg29, h⟩ := grd_i h
 obtain ⟨p30, cs31, hat32, hrc33, hhas34⟩ := h0.at hg29.1 hg29.2 (by decide)
 obtain rfl := hrc33
 refine Pu (.pointer (some p30)) (PO.indexAddr (n := a0.length) Tryz.underlying65 sz3 rfl rfl hg29.1 hg29.2 hat32) rfl (Pu (Iv (rd a0 x24)) (PO.loadM pl3 rfl (IM.has0 hhas34)) rfl (Pu (Bv (decide ((rd a0 x24) < 1))) (PO.lss rfl rfl) rfl (Pm (Bv (decide ((rd a0 x24) < 1))) rfl rfl ?_)))
 rcases Bt (decide ((rd a0 x24) < 1)) with hb36 | hb36
 have h := ite_t hb36 h
 iterate 5 refine Of 19 rfl rfl hb36 rfl ?_
 refine Pu (Bv true) (Pt rfl hb36 rfl) rfl (Wz ?_)
 obtain rfl := oi h
 exact Tj ⟨lr, rfl, hs23_0, hs23_3, rfl⟩
 have h := ite_f hb36 h
 refine On 19 rfl rfl hb36 (Pm v0 hs23_0 rfl (On 19 rfl rfl hb36 (Pm (Iv x24) hs23_3 rfl (On 19 rfl rfl hb36 ?_))))
 obtain ⟨hg37, h⟩ := grd_i h
 obtain ⟨p38, cs39, hat40, hrc41, hhas42⟩ := h0.at hg37.1 hg37.2 (by decide)
 obtain rfl := hrc41
 refine Pu (.pointer (some p38)) (PO.indexAddr (n := a0.length) Tryz.underlying65 sz3 rfl rfl hg37.1 hg37.2 hat40) rfl (On 19 rfl rfl hb36 (Pu (Iv (rd a0 x24)) (PO.loadM pl3 rfl (IM.has0 hhas42)) rfl (On 19 rfl rfl hb36 (Pu (Bv (decide ((64 : Int) < (rd a0 x24)))) (PO.gtr rfl rfl) rfl (Pu (Bv (decide ((64 : Int) < (rd a0 x24)))) (Pf rfl hb36 rfl) rfl (Wz ?_))))))
 obtain rfl := oi h
 exact Tj ⟨lr, rfl, hs23_0, hs23_3, rfl⟩
 rintro ρ28 M28 H28 ⟨hle28, rfl, hs28_0, hs28_3, hs28_25⟩
 refine Cd (b := x27) hs28_25 (fun hb44 => ?_) (fun hb44 => ?_)
 have h := ite_t hb44 h
 refine Sr (Pa (Bv false) rfl rfl (Nt (Cr (Tr (Br (Tr ?_))))))
 have h := KK.early h h326
 refine WQ.leaveR (Sum.inr ()) (oi h).symm (fun heq23 => ?_)
 subst heq23
 have h := (elimR hK23)
 refine Br (Tr ?_)
 have h := KK.early h h322
 exact Rf h [] rfl (Rs rfl rfl) (hle23.trans hle28) ⟨rfl, rfl⟩
 have h := ite_f hb44 h
 refine Ck (Tc (Sr (Pa (Iv 0) rfl rfl (Nt (Bk ?_)))))
 obtain ⟨e45, he45, hK45⟩ := bnd h
 clear h
 refine WC.loop he45 (fun (x46 : Int) ρ' M' H' => M28.le M' ∧ F = H' ∧ ρ' 0 = v0 ∧ ρ' 3 = (Iv x24) ∧ ρ' 4 = (Iv x46)) ?_ ?_
 exact ⟨lr, rfl, hs28_0, hs28_3, rfl⟩
 rintro x46 o45 ρ45 M45 H45 h ⟨hle45, rfl, hs45_0, hs45_3, hs45_4⟩
 unfold f_ref05_Brokers_l1 at h
 refine Cs (Sr (Pm (Iv x46) hs45_4 rfl (Pm (Iv x24) hs45_3 rfl (Pu (Bv (decide (x46 < x24))) (PO.lss rfl rfl) rfl (Nt (Cd (b := decide (x46 < x24)) rfl (fun hb47 => ?_) (fun hb47 => ?_)))))))
 have h := ite_t hb47 h
 refine Ck (Tc (Cs (Bk (Cs (WC.draw [0, 0, 3, 7, 0, 0, 48, 112, 255] (.pure 0 (.pure 1 (.pure 2 (.pure 3 (.pure 4 (.pure 5 (.pure 6 (.pure 7 (.pure 8 .done))))))))) mixed (by kernel_rfl) (Tp v0 rfl (Mv hs45_0) rfl (Tp (Iv x46) rfl (Mv hs45_4) rfl ?_)))))))
 obtain ⟨hg48, h⟩ := grd_i h
 have h0 := h0.mono (hle28.trans hle45)
 obtain ⟨p49, cs50, hat51, hrc52, hhas53⟩ := h0.at hg48.1 hg48.2 (by decide)
 obtain rfl := hrc52
 refine Tp (.pointer (some p49)) rfl (PO.indexAddr (n := a0.length) Tryz.underlying65 sz3 rfl rfl hg48.1 hg48.2 hat51) rfl (Tp (Iv (rd a0 x46)) rfl (PO.loadM pl3 rfl (IM.has0 hhas53)) rfl (Tp v0 rfl (Mv hs45_0) rfl (Tp (Iv x24) rfl (Mv hs45_3) rfl ?_)))
 obtain ⟨hg55, h⟩ := grd_i h
 obtain ⟨p56, cs57, hat58, hrc59, hhas60⟩ := h0.at hg55.1 hg55.2 (by decide)
 obtain rfl := hrc59
 refine Tp (.pointer (some p56)) rfl (PO.indexAddr (n := a0.length) Tryz.underlying65 sz3 rfl rfl hg55.1 hg55.2 hat58) rfl (Tp (Iv (rd a0 x24)) rfl (PO.loadM pl3 rfl (IM.has0 hhas60)) rfl (Tp (Bv (decide ((rd a0 x46) = (rd a0 x24)))) rfl (PO.eql rfl rfl) rfl (Ti (Tc (Cd (b := decide ((rd a0 x46) = (rd a0 x24))) rfl (fun hb62 => ?_) (fun hb62 => ?_))))))
 have h := ite_t hb62 h
 refine Sr (Pa (Bv false) rfl rfl (Nt (Cr (Br (Tr (WQ.leaveR (Sum.inr ()) (oi h).symm (fun heq45 => ?_)))))))
 subst heq45
 have h := (elimR hK45)
 refine Br (Br (Tr ?_))
 have h := KK.early h h326
 refine WQ.leaveR (Sum.inr ()) (oi h).symm (fun heq23 => ?_)
 subst heq23
 have h := (elimR hK23)
 refine Br (Tr ?_)
 have h := KK.early h h322
 exact Rf h [] rfl (Rs rfl rfl) ((hle23.trans hle28).trans hle45) ⟨rfl, rfl⟩
 have h := ite_f hb62 h
 exact Ck (Bn (Tc (Cg (Pm (Iv x46) hs45_4 rfl (Pu (Iv (IntKind.i64.wrap (x46 + 1))) (PO.add rfl rfl) rfl (Pa (Iv (IntKind.i64.wrap (x46 + 1))) rfl rfl (Wz (WQ.again (IntKind.i64.wrap (x46 + 1)) (oi h).symm ⟨hle45, rfl, hs45_0, hs45_3, rfl⟩))))))))
 have h := ite_f hb47 h
 refine WC.exit (WQ.thenE (WQ.leaveE (Sum.inl ()) (oi h).symm (fun heq45 => ?_)))
 subst heq45
 have h := elimL hK45
 exact WQ.blockH (Bn (WQ.thenFE h ⟨(hle28.trans hle45), rfl, hs45_0, hs45_3⟩))
 rintro _ ρ26 M26 H26 rfl ⟨hle26, rfl, hs26_0, hs26_3⟩
 have h := (Sum.elim_inl _ _ _).symm.trans h
 exact Cg (Pm (Iv x24) hs26_3 rfl (Pu (Iv (IntKind.i64.wrap (x24 + 1))) (PO.add rfl rfl) rfl (Pa (Iv (IntKind.i64.wrap (x24 + 1))) rfl rfl (Wz (WQ.again (IntKind.i64.wrap (x24 + 1)) (oi h).symm ⟨(hle23.trans hle26), rfl, hs26_0, rfl⟩)))))
 have h := ite_f hb25 h
 refine WC.exit (WQ.thenE (WQ.leaveE (Sum.inl ()) (oi h).symm (fun heq23 => ?_)))
 subst heq23
 have h := elimL hK23
 exact WQ.blockH (WQ.thenFE h ⟨hle23, rfl⟩)
 rintro _ ρ22 M22 H22 rfl ⟨hle22, rfl⟩
 have h := (Sum.elim_inl _ _ _).symm.trans h
 exact Sr (Pa (Bv true) rfl rfl (Nt (Cr (Rf h [] rfl (Rs rfl rfl) hle22 ⟨rfl, rfl⟩))))

noncomputable def f_ref05_row (a0 : (List Int)) (a1 : Bool) : Option Bool :=
  (if a1 = true then ((f_ref05_Brokers a0).bind fun (r22 : Bool) => (some r22)) else (some (decide ((a0.length : Int) = (0 : Int)))))
def f_ref05_row_post (a0 : (List Int)) (a1 : Bool) (v0 : Value) : Bool → Value → IM → HL → Prop :=
  fun (r0 : Bool) (v : Value) (M' : IM) (H' : HL) => (.bool r0) = v ∧ H' = []
theorem f_ref05_row_ok (a0 : (List Int)) (a1 : Bool) (M : IM) (v0 : Value) (h0 : RS (Kd.int .i64) M v0 a0) (res : Bool) (h : f_ref05_row a0 a1 = some res) :
    Tri Tryz.prog 63 #[v0, (Bv a1)] M [] (f_ref05_row_post a0 a1 v0 res) := by
 unfold f_ref05_row at h
 refine Te Tryz.func63 rfl rfl ?_
 intro F ρ hρ
 refine Sr (Pa (Bv false) rfl rfl (Nt (Cs (Sr (Pm (Bv a1) (hρ 1) rfl (Nt (Cd (b := a1) rfl (fun hb21 => ?_) (fun hb21 => ?_))))))))
 have h := ite_t hb21 h
 refine Sr (Pm v0 (hρ 0) rfl ?_)
 obtain ⟨r22, hr23, h⟩ := bnd h
 refine We (Ca co101 (f_ref05_Brokers_ok a0 _ _ h0 r22 hr23) (args1 rfl)) rfl ?_
 rintro _ M24 _ hle25 ⟨_, ⟨rfl, rfl⟩, rfl⟩
 exact WL.a0 (Pa (Bv r22) rfl rfl (Nt (Cr (Tr (Rf h [] rfl (Rs rfl rfl) hle25 ⟨rfl, rfl⟩)))))
 have h := ite_f hb21 h
 exact Ck (Tc (Sr (Pm v0 (hρ 0) rfl (Pu (Iv (a0.length : Int)) (PO.lenS Tryz.underlying65 rfl h0.len) rfl (Pu (Bv (decide ((a0.length : Int) = (0 : Int)))) (PO.eql rfl rfl) rfl (Pa (Bv (decide ((a0.length : Int) = (0 : Int)))) rfl rfl (Nt (Cr (Rf h [] rfl (Rs rfl rfl) lr ⟨rfl, rfl⟩)))))))))


end Go.Proofs.YtjiffdgidodebaaGreatDoor.G
