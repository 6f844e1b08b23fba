/- Go functions: what they come to, and that they do. Printed by a program of the session (gen). -/
import Derived.Test.YtjgnbbakamellaaGreatDoorBF
import Derived.Test.YtjgnbbakamellaaGreatDoorB14
import Derived.Test.YtjgnbbakamellaaGreatDoorKConv
import Derived.Test.YtjgnbbakamellaaGreatDoorKEq2
set_option linter.unusedVariables false
set_option linter.unusedSimpArgs false
set_option maxHeartbeats 8000000
set_option maxRecDepth 100000
namespace Go.Proofs.YtjgnbbakamellaaGreatDoor.G
open Go Go.KK

noncomputable def f_ref22_Check (a0 : T_api_Request) : Option T_ref22_Wrong :=
  ((f_ref22_letters a0.Kind).bind fun (r23 : ByteArray) => (if (decide (r23 = (⟨#[]⟩ : ByteArray))) = true then (some (⟨(⟨#[107, 105, 110, 100]⟩ : ByteArray), a0.Kind, (5 : Int)⟩ : T_ref22_Wrong)) else (((if (decide (a0.Client < (1 : Int))) = true then (some true) else (if (decide ((1073741824 : Int) < a0.Client)) = true then (some true) else (if (decide (a0.Serial < (1 : Int))) = true then (some true) else (some (decide ((1073741824 : Int) < a0.Serial)))))) : Option Bool).bind fun (x29 : Bool) => (if x29 = true then (some (⟨(⟨#[99, 108, 105, 101, 110, 116]⟩ : ByteArray), a0.Client, (2 : Int)⟩ : T_ref22_Wrong)) else ((((f_ref22_has a0.Kind (110 : Int)).bind fun (r37 : Bool) => ((f_ref22_txt a0.Name r37 (40 : Int)).bind fun (r42 : Bool) => (if (!r42) = true then (some true) else ((f_ref22_has a0.Kind (107 : Int)).bind fun (r48 : Bool) => ((f_ref22_txt a0.Key r48 (40 : Int)).bind fun (r53 : Bool) => (if (!r53) = true then (some true) else ((f_ref22_has a0.Kind (99 : Int)).bind fun (r59 : Bool) => ((f_ref22_txt a0.Rack r59 (40 : Int)).bind fun (r64 : Bool) => (some (!r64)))))))))) : Option Bool).bind fun (x35 : Bool) => (if x35 = true then (some (⟨(⟨#[110, 97, 109, 101]⟩ : ByteArray), (a0.Name.size : Int), (6 : Int)⟩ : T_ref22_Wrong)) else ((((f_ref22_has a0.Kind (107 : Int)).bind fun (r72 : Bool) => ((f_ref22_txt a0.Value r72 (256 : Int)).bind fun (r77 : Bool) => (if (!r77) = true then (some true) else (if a0.Flag = true then ((f_ref22_has a0.Kind (107 : Int)).bind fun (r84 : Bool) => (some (!r84))) else (some false))))) : Option Bool).bind fun (x70 : Bool) => (if x70 = true then (some (⟨(⟨#[118, 97, 108, 117, 101]⟩ : ByteArray), (a0.Value.size : Int), (6 : Int)⟩ : T_ref22_Wrong)) else ((((f_ref22_has a0.Kind (113 : Int)).bind fun (r92 : Bool) => ((f_ref22_num a0.Parts r92 (256 : Int)).bind fun (r97 : Bool) => (if (!r97) = true then (some true) else ((f_ref22_has a0.Kind (114 : Int)).bind fun (r103 : Bool) => ((f_ref22_num a0.Replicas r103 (7 : Int)).bind fun (r108 : Bool) => (if (!r108) = true then (some true) else ((f_ref22_has a0.Kind (112 : Int)).bind fun (r114 : Bool) => ((f_ref22_num a0.Part r114 (256 : Int)).bind fun (r119 : Bool) => (some (!r119)))))))))) : Option Bool).bind fun (x90 : Bool) => (if x90 = true then (some (⟨(⟨#[110, 117, 109, 98, 101, 114]⟩ : ByteArray), a0.Parts, (2 : Int)⟩ : T_ref22_Wrong)) else ((((f_ref22_has a0.Kind (98 : Int)).bind fun (r127 : Bool) => ((f_ref22_num a0.Broker r127 (64 : Int)).bind fun (r132 : Bool) => (if (!r132) = true then (some true) else ((f_ref22_has a0.Kind (101 : Int)).bind fun (r138 : Bool) => ((f_ref22_num a0.Epoch r138 (1073741824 : Int)).bind fun (r143 : Bool) => (if (!r143) = true then (some true) else ((f_ref22_has a0.Kind (119 : Int)).bind fun (r149 : Bool) => ((f_ref22_said a0.Word r149).bind fun (r154 : Bool) => (some (!r154)))))))))) : Option Bool).bind fun (x125 : Bool) => (if x125 = true then (some (⟨(⟨#[98, 114, 111, 107, 101, 114]⟩ : ByteArray), a0.Broker, (2 : Int)⟩ : T_ref22_Wrong)) else (((if (decide ((0 : Int) < (a0.Ids.length : Int))) = true then ((f_ref22_has a0.Kind (105 : Int)).bind fun (r163 : Bool) => (if (!r163) = true then (some true) else ((f_ref05_Brokers a0.Ids).bind fun (r169 : Bool) => (some (!r169))))) else ((f_ref05_Brokers a0.Ids).bind fun (r174 : Bool) => (some (!r174)))) : Option Bool).bind fun (x160 : Bool) => (if x160 = true then (some (⟨(⟨#[105, 100, 115]⟩ : ByteArray), (a0.Ids.length : Int), (18 : Int)⟩ : T_ref22_Wrong)) else (some (⟨(⟨#[]⟩ : ByteArray), (0 : Int), (0 : Int)⟩ : T_ref22_Wrong))))))))))))))))
def f_ref22_Check_post (a0 : T_api_Request) (v0_10 : Value) : T_ref22_Wrong → Value → IM → HL → Prop :=
  fun (r0 : T_ref22_Wrong) (v : Value) (M' : IM) (H' : HL) => (.agg #[(.string r0.Op), (.int .i64 r0.At), (.int .i64 r0.Code)]) = v ∧ H' = []
theorem f_ref22_Check_ok (a0 : T_api_Request) (M : IM) (v0_10 : Value) (h0_10 : RS (Kd.int .i64) M v0_10 a0.Ids) (res : T_ref22_Wrong) (h : f_ref22_Check a0 = some res) :
    Tri Tryz.prog 38 #[(a28_ a0 v0_10)] M [] (f_ref22_Check_post a0 v0_10 res) := by
 unfold f_ref22_Check at h
 refine Tri.enter (fn := Tryz.f38) Tryz.func38 rfl (Nat.le_of_ble_eq_true rfl) ?_
 intro F ρ hρ
 refine Sr ?_
 refine WL.eff (EO.box (cs := (l28 a0 v0_10).toArray) (congrArg Value.cells (asE (a28_ a0 v0_10) (hρ 0)))) rfl ?_
 rintro _ _ _ - ⟨rfl, g21, rfl, rfl⟩
 refine WL.eff (EO.alloc ze37 rfl) rfl ?_
 rintro _ _ _ - ⟨rfl, g22, rfl, rfl⟩
 refine Ns ?_
 refine Pu (pt g21 2) (PO.fieldAddr fo28_2 rfl rfl) rfl ?_
 refine Pu (.int .i64 a0.Kind) (PO.loadB 1 pl3 rfl rfl rfl) rfl ?_
 refine Pa (.int .i64 a0.Kind) rfl rfl ?_
 refine Nt ?_
 refine WC.seq ?_
 refine Sr ?_
 refine Pm (.int .i64 a0.Kind) rfl rfl ?_
 obtain ⟨r23, hr24, h⟩ := bnd h
 refine WL.eff (EO.call0 co29 (f_ref22_letters_ok a0.Kind _ r23 hr24) (args1 rfl)) rfl ?_
 rintro _ M25 _ hle26 ⟨_, ⟨rfl, rfl⟩, rfl⟩
 have h0_10 := h0_10.mono hle26
 refine WL.a0 ?_
 refine Pu (.bool (decide (r23 = (⟨#[]⟩ : ByteArray)))) (PO.seql rfl rfl) rfl ?_
 refine Nt ?_
 refine WC.cond (b := decide (r23 = (⟨#[]⟩ : ByteArray))) rfl (fun hb28 => ?_) (fun hb28 => ?_)
 have h := ite_t hb28 h
 refine Sr ?_
 refine Pm (.int .i64 a0.Kind) rfl rfl ?_
 refine Pu (.agg #[(.string ⟨#[107, 105, 110, 100]⟩), (.int .i64 a0.Kind), (.int .i64 5)]) (PO.buildL (cl := [(.string ⟨#[107, 105, 110, 100]⟩), (.int .i64 a0.Kind), (.int .i64 5)]) ze37 fp37 (Parts.cons (congrArg Value.cells (show ev _ _ = (.string ⟨#[107, 105, 110, 100]⟩) from rfl)) (Parts.cons (congrArg Value.cells (show ev _ _ = (.int .i64 a0.Kind) from rfl)) (Parts.cons (congrArg Value.cells (show ev _ _ = (.int .i64 5) from rfl)) Parts.nil))) rfl) rfl ?_
 refine WL.eff (EO.storeL (v := (.agg #[(.string ⟨#[107, 105, 110, 100]⟩), (.int .i64 a0.Kind), (.int .i64 5)])) (vl := [(.string ⟨#[107, 105, 110, 100]⟩), (.int .i64 a0.Kind), (.int .i64 5)]) (arr' := [(.string ⟨#[107, 105, 110, 100]⟩), (.int .i64 a0.Kind), (.int .i64 5)]) rfl sz37 rfl rfl (onesOf (Ones.cons rfl (Ones.cons rfl (Ones.cons rfl Ones.nil)))) rfl rfl rfl) rfl ?_
 rintro _ _ _ - ⟨rfl, rfl⟩
 refine Nt ?_
 refine WC.ret ?_
 refine WQ.thenR ?_
 refine WQ.f1 ?_
 refine WQ.drop ?_
 exact WQ.returnsD h [] (fun _ hs => hs.drop) (resultsL1 rfl (RV.cellA (cs := [(.string ⟨#[107, 105, 110, 100]⟩), (.int .i64 a0.Kind), (.int .i64 5)]) 0 ag37 sz37 rfl rfl rfl)) hle26 ⟨rfl, rfl⟩
 have h := ite_f hb28 h
 refine WC.skip ?_
 refine WQ.thenC ?_
 refine WC.seq ?_
 obtain ⟨x29, hj30, h⟩ := bnd h
 refine WC.joinF (fun (x29 : Bool) ρ' M' H' => M25.le M' ∧ [(g22, .cells #[(.string ⟨#[]⟩), (.int .i64 0), (.int .i64 0)] 37 (0, 0))] :: [(g21, .cells (l28 a0 v0_10).toArray 28 (0, 0))] :: F = H' ∧ ρ' 1 = (pt g21 0) ∧ ρ' 2 = (pt g22 0) ∧ ρ' 3 = (.int .i64 a0.Kind) ∧ ρ' 28 = (.bool x29)) x29 ?_ ?_
 have h330 := h
 have h := hj30
 refine WC.region ?_
 refine Pu (pt g21 0) (PO.fieldAddr fo28_0 rfl rfl) rfl ?_
 refine Pu (.int .i64 a0.Client) (PO.loadB 1 pl3 rfl rfl rfl) rfl ?_
 refine Pu (.bool (decide (a0.Client < 1))) (PO.lss rfl rfl) rfl ?_
 refine Pm (.bool (decide (a0.Client < 1))) rfl rfl ?_
 rcases Bool.eq_false_or_eq_true (decide (a0.Client < 1)) with hb31 | hb31
 have h := ite_t hb31 h
 iterate 3 refine Of 14 rfl rfl hb31 rfl ?_
 refine Pu (.bool true) (PO.pickT rfl hb31 rfl) rfl ?_
 refine Pm (.bool true) rfl rfl ?_
 iterate 3 refine Of 19 rfl rfl rfl rfl ?_
 refine Pu (.bool true) (PO.pickT rfl rfl rfl) rfl ?_
 refine Pm (.bool true) rfl rfl ?_
 iterate 3 refine Of 24 rfl rfl rfl rfl ?_
 refine Pu (.bool true) (PO.pickT rfl rfl rfl) rfl ?_
 refine WL.nil ?_
 obtain rfl := Option.some.inj h
 refine WQ.thenJ ?_
 exact ⟨(IM.le.refl _), rfl, rfl, rfl, rfl, rfl⟩
 have h := ite_f hb31 h
 refine On 14 rfl rfl hb31 ?_
 refine Pu (pt g21 0) (PO.fieldAddr fo28_0 rfl rfl) rfl ?_
 refine On 14 rfl rfl hb31 ?_
 refine Pu (.int .i64 a0.Client) (PO.loadB 1 pl3 rfl rfl rfl) rfl ?_
 refine On 14 rfl rfl hb31 ?_
 refine Pu (.bool (decide ((1073741824 : Int) < a0.Client))) (PO.gtr rfl rfl) rfl ?_
 refine Pu (.bool (decide ((1073741824 : Int) < a0.Client))) (PO.pickF rfl hb31 rfl) rfl ?_
 refine Pm (.bool (decide ((1073741824 : Int) < a0.Client))) rfl rfl ?_
 rcases Bool.eq_false_or_eq_true (decide ((1073741824 : Int) < a0.Client)) with hb32 | hb32
 have h := ite_t hb32 h
 iterate 3 refine Of 19 rfl rfl hb32 rfl ?_
 refine Pu (.bool true) (PO.pickT rfl hb32 rfl) rfl ?_
 refine Pm (.bool true) rfl rfl ?_
 iterate 3 refine Of 24 rfl rfl rfl rfl ?_
 refine Pu (.bool true) (PO.pickT rfl rfl rfl) rfl ?_
 refine WL.nil ?_
 obtain rfl := Option.some.inj h
 refine WQ.thenJ ?_
 exact ⟨(IM.le.refl _), rfl, rfl, rfl, rfl, rfl⟩
 have h := ite_f hb32 h
 refine On 19 rfl rfl hb32 ?_
 refine Pu (pt g21 1) (PO.fieldAddr fo28_1 rfl rfl) rfl ?_
 refine On 19 rfl rfl hb32 ?_
 refine Pu (.int .i64 a0.Serial) (PO.loadB 1 pl3 rfl rfl rfl) rfl ?_
 refine On 19 rfl rfl hb32 ?_
 refine Pu (.bool (decide (a0.Serial < 1))) (PO.lss rfl rfl) rfl ?_
 refine Pu (.bool (decide (a0.Serial < 1))) (PO.pickF rfl hb32 rfl) rfl ?_
 refine Pm (.bool (decide (a0.Serial < 1))) rfl rfl ?_
 rcases Bool.eq_false_or_eq_true (decide (a0.Serial < 1)) with hb33 | hb33
 have h := ite_t hb33 h
 iterate 3 refine Of 24 rfl rfl hb33 rfl ?_
 refine Pu (.bool true) (PO.pickT rfl hb33 rfl) rfl ?_
 refine WL.nil ?_
 obtain rfl := Option.some.inj h
 refine WQ.thenJ ?_
 exact ⟨(IM.le.refl _), rfl, rfl, rfl, rfl, rfl⟩
 have h := ite_f hb33 h
 refine On 24 rfl rfl hb33 ?_
 refine Pu (pt g21 1) (PO.fieldAddr fo28_1 rfl rfl) rfl ?_
 refine On 24 rfl rfl hb33 ?_
 refine Pu (.int .i64 a0.Serial) (PO.loadB 1 pl3 rfl rfl rfl) rfl ?_
 refine On 24 rfl rfl hb33 ?_
 refine Pu (.bool (decide ((1073741824 : Int) < a0.Serial))) (PO.gtr rfl rfl) rfl ?_
 refine Pu (.bool (decide ((1073741824 : Int) < a0.Serial))) (PO.pickF rfl hb33 rfl) rfl ?_
 refine WL.nil ?_
 obtain rfl := Option.some.inj h
 refine WQ.thenJ ?_
 exact ⟨(IM.le.refl _), rfl, rfl, rfl, rfl, rfl⟩
 rintro ρ30 M30 H30 ⟨hle30, rfl, hs30_1, hs30_2, hs30_3, hs30_28⟩
 have h0_10 := h0_10.mono hle30
 refine WC.cond (b := x29) hs30_28 (fun hb34 => ?_) (fun hb34 => ?_)
 have h := ite_t hb34 h
 refine Sr ?_
 refine Pu (pt g21 0) (PO.fieldAddr fo28_0 hs30_1 rfl) rfl ?_
 refine Pu (.int .i64 a0.Client) (PO.loadB 1 pl3 rfl rfl rfl) rfl ?_
 refine Pu (.agg #[(.string ⟨#[99, 108, 105, 101, 110, 116]⟩), (.int .i64 a0.Client), (.int .i64 2)]) (PO.buildL (cl := [(.string ⟨#[99, 108, 105, 101, 110, 116]⟩), (.int .i64 a0.Client), (.int .i64 2)]) ze37 fp37 (Parts.cons (congrArg Value.cells (show ev _ _ = (.string ⟨#[99, 108, 105, 101, 110, 116]⟩) from rfl)) (Parts.cons (congrArg Value.cells (show ev _ _ = (.int .i64 a0.Client) from rfl)) (Parts.cons (congrArg Value.cells (show ev _ _ = (.int .i64 2) from rfl)) Parts.nil))) rfl) rfl ?_
 refine WL.eff (EO.storeL (v := (.agg #[(.string ⟨#[99, 108, 105, 101, 110, 116]⟩), (.int .i64 a0.Client), (.int .i64 2)])) (vl := [(.string ⟨#[99, 108, 105, 101, 110, 116]⟩), (.int .i64 a0.Client), (.int .i64 2)]) (arr' := [(.string ⟨#[99, 108, 105, 101, 110, 116]⟩), (.int .i64 a0.Client), (.int .i64 2)]) rfl sz37 hs30_2 rfl (onesOf (Ones.cons rfl (Ones.cons rfl (Ones.cons rfl Ones.nil)))) rfl rfl rfl) rfl ?_
 rintro _ _ _ - ⟨rfl, rfl⟩
 refine Nt ?_
 refine WC.ret ?_
 refine WQ.thenR ?_
 refine WQ.f1 ?_
 refine WQ.drop ?_
 exact WQ.returnsD h [] (fun _ hs => hs.drop) (resultsL1 rfl (RV.cellA (cs := [(.string ⟨#[99, 108, 105, 101, 110, 116]⟩), (.int .i64 a0.Client), (.int .i64 2)]) 0 ag37 sz37 hs30_2 rfl rfl)) (hle26.trans hle30) ⟨rfl, rfl⟩
 have h := ite_f hb34 h
 refine WC.skip ?_
 refine WQ.thenC ?_
 refine WC.seq ?_
 obtain ⟨x35, hj36, h⟩ := bnd h
 refine WC.joinF (fun (x35 : Bool) ρ' M' H' => M30.le M' ∧ [(g22, .cells #[(.string ⟨#[]⟩), (.int .i64 0), (.int .i64 0)] 37 (0, 0))] :: [(g21, .cells (l28 a0 v0_10).toArray 28 (0, 0))] :: F = H' ∧ ρ' 1 = (pt g21 0) ∧ ρ' 2 = (pt g22 0) ∧ ρ' 3 = (.int .i64 a0.Kind) ∧ ρ' 53 = (.bool x35)) x35 ?_ ?_
 have h336 := h
 have h := hj36
 refine WC.draw [0, 1, 0, 4, 15, 31, 63, 127, 255, 127, 639, 2047, 4095, 8191, 16383, 32767, 65535, 32767, 163839, 524287, 1048575, 2097151] (.pure 0 (.pure 1 (.pure 2 (.alt 3 (.alt 4 (.pure 5 (.pure 6 (.pure 7 (.pure 8 (.pure 9 (.alt 10 (.alt 11 (.pure 12 (.pure 13 (.pure 14 (.pure 15 (.pure 16 (.pure 17 (.alt 18 (.alt 19 (.pure 20 (.pure 21 .done)) .none) .none))))))) .none) .none)))))) .none) .none)))) mixed (by kernel_rfl) ?_
 refine Tp (pt g21 3) rfl (PO.fieldAddr fo28_3 hs30_1 rfl) rfl ?_
 refine Tp (.string a0.Name) rfl (PO.loadB 1 pl9 rfl rfl rfl) rfl ?_
 refine Tp (.int .i64 a0.Kind) rfl (PO.move hs30_3) rfl ?_
 obtain ⟨r37, hr38, h⟩ := bnd h
 refine WT.alt rfl (EO.call0 co33 (f_ref22_has_ok a0.Kind (110 : Int) _ r37 hr38) (args2 rfl rfl)) rfl ?_ ?_
 rintro _ M39 _ hle40 ⟨_, ⟨rfl, rfl⟩, rfl⟩
 have h0_10 := h0_10.mono hle40
 refine ⟨(StabL.anc rfl (StabL.st (StabA.of rfl (PO.loadB 1 pl9 rfl rfl rfl) rfl) (StabL.st (StabA.of rfl (PO.fieldAddr fo28_3 hs30_1 rfl) rfl) trivial))), ?_⟩
 refine WT.a0 ?_
 obtain ⟨r42, hr43, h⟩ := bnd h
 refine WT.alt rfl (EO.call0 co64 (f_ref22_txt_ok a0.Name r37 (40 : Int) _ r42 hr43) (args3 rfl rfl rfl)) rfl ?_ ?_
 rintro _ M44 _ hle45 ⟨_, ⟨rfl, rfl⟩, rfl⟩
 have h0_10 := h0_10.mono hle45
 refine ⟨(StabL.anc rfl (StabL.anc rfl (StabL.anc rfl trivial))), ?_⟩
 refine WT.a0 ?_
 refine Tp (.bool (!r42)) rfl (PO.not rfl) rfl ?_
 refine Tp (.bool (!r42)) rfl (PO.move rfl) rfl ?_
 rcases Bool.eq_false_or_eq_true (!r42) with hb47 | hb47
 have h := ite_t hb47 h
 refine WT.pureOff 38 rfl rfl rfl hb47 rfl ?_
 refine WT.pureOff 38 rfl rfl rfl hb47 rfl ?_
 refine WT.pureOff 38 rfl rfl rfl hb47 rfl ?_
 refine WT.altOff 38 rfl rfl rfl hb47 rfl ⟨(StabL.anc rfl (StabL.st (StabA.off 38 rfl rfl rfl hb47 rfl) (StabL.st (StabA.off 38 rfl rfl rfl hb47 rfl) (StabL.anc rfl (StabL.anc rfl (StabL.anc rfl (StabL.anc rfl (StabL.anc rfl trivial)))))))), ?_⟩ ?_
 refine WT.altOff 38 rfl rfl rfl hb47 rfl ⟨(StabL.anc rfl (StabL.anc rfl (StabL.anc rfl (StabL.anc rfl (StabL.anc rfl (StabL.anc rfl (StabL.anc rfl (StabL.anc rfl trivial)))))))), ?_⟩ ?_
 refine WT.pureOff 38 rfl rfl rfl hb47 rfl ?_
 refine Tp (.bool true) rfl (PO.pickT rfl hb47 rfl) rfl ?_
 refine Tp (.bool true) rfl (PO.move rfl) rfl ?_
 refine WT.pureOff 46 rfl rfl rfl rfl rfl ?_
 refine WT.pureOff 46 rfl rfl rfl rfl rfl ?_
 refine WT.pureOff 46 rfl rfl rfl rfl rfl ?_
 refine WT.altOff 46 rfl rfl rfl rfl rfl ⟨(StabL.anc rfl (StabL.st (StabA.off 46 rfl rfl rfl rfl rfl) (StabL.st (StabA.off 46 rfl rfl rfl rfl rfl) (StabL.anc rfl (StabL.anc rfl (StabL.anc rfl (StabL.anc rfl (StabL.anc rfl (StabL.anc rfl (StabL.anc rfl (StabL.anc rfl (StabL.anc rfl (StabL.anc rfl (StabL.anc rfl trivial)))))))))))))), ?_⟩ ?_
 refine WT.altOff 46 rfl rfl rfl rfl rfl ⟨(StabL.anc rfl (StabL.anc rfl (StabL.anc rfl (StabL.anc rfl (StabL.anc rfl (StabL.anc rfl (StabL.anc rfl (StabL.anc rfl (StabL.anc rfl (StabL.anc rfl (StabL.anc rfl (StabL.anc rfl (StabL.anc rfl (StabL.anc rfl trivial)))))))))))))), ?_⟩ ?_
 refine WT.pureOff 46 rfl rfl rfl rfl rfl ?_
 refine Tp (.bool true) rfl (PO.pickT rfl rfl rfl) rfl ?_
 refine WT.fin ?_
 obtain rfl := Option.some.inj h
 refine WQ.thenJ ?_
 exact ⟨(hle40.trans hle45), rfl, hs30_1, hs30_2, hs30_3, rfl⟩
 exact WT.no
 exact WT.no
 exact WT.no
 exact WT.no
 have h := ite_f hb47 h
 refine Tn (pt g21 4) 38 rfl rfl rfl hb47 (PO.fieldAddr fo28_4 hs30_1 rfl) rfl ?_
 refine Tn (.string a0.Key) 38 rfl rfl rfl hb47 (PO.loadB 1 pl9 rfl rfl rfl) rfl ?_
 refine Tn (.int .i64 a0.Kind) 38 rfl rfl rfl hb47 (PO.move hs30_3) rfl ?_
 obtain ⟨r48, hr49, h⟩ := bnd h
 refine WT.altOn 38 rfl rfl rfl hb47 (EO.call0 co33 (f_ref22_has_ok a0.Kind (107 : Int) _ r48 hr49) (args2 rfl rfl)) rfl ?_ ?_
 rintro _ M50 _ hle51 ⟨_, ⟨rfl, rfl⟩, rfl⟩
 have h0_10 := h0_10.mono hle51
 refine ⟨(StabL.anc rfl (StabL.st (StabA.on 38 rfl rfl rfl hb47 (PO.loadB 1 pl9 rfl rfl rfl) rfl) (StabL.st (StabA.on 38 rfl rfl rfl hb47 (PO.fieldAddr fo28_4 hs30_1 rfl) rfl) (StabL.anc rfl (StabL.anc rfl (StabL.anc rfl (StabL.anc rfl (StabL.anc rfl trivial)))))))), ?_⟩
 refine WT.a0 ?_
 obtain ⟨r53, hr54, h⟩ := bnd h
 refine WT.altOn 38 rfl rfl rfl hb47 (EO.call0 co64 (f_ref22_txt_ok a0.Key r48 (40 : Int) _ r53 hr54) (args3 rfl rfl rfl)) rfl ?_ ?_
 rintro _ M55 _ hle56 ⟨_, ⟨rfl, rfl⟩, rfl⟩
 have h0_10 := h0_10.mono hle56
 refine ⟨(StabL.anc rfl (StabL.anc rfl (StabL.anc rfl (StabL.anc rfl (StabL.anc rfl (StabL.anc rfl (StabL.anc rfl (StabL.anc rfl trivial)))))))), ?_⟩
 refine WT.a0 ?_
 refine Tn (.bool (!r53)) 38 rfl rfl rfl hb47 (PO.not rfl) rfl ?_
 refine Tp (.bool (!r53)) rfl (PO.pickF rfl hb47 rfl) rfl ?_
 refine Tp (.bool (!r53)) rfl (PO.move rfl) rfl ?_
 rcases Bool.eq_false_or_eq_true (!r53) with hb58 | hb58
 have h := ite_t hb58 h
 refine WT.pureOff 46 rfl rfl rfl hb58 rfl ?_
 refine WT.pureOff 46 rfl rfl rfl hb58 rfl ?_
 refine WT.pureOff 46 rfl rfl rfl hb58 rfl ?_
 refine WT.altOff 46 rfl rfl rfl hb58 rfl ⟨(StabL.anc rfl (StabL.st (StabA.off 46 rfl rfl rfl hb58 rfl) (StabL.st (StabA.off 46 rfl rfl rfl hb58 rfl) (StabL.anc rfl (StabL.anc rfl (StabL.anc rfl (StabL.anc rfl (StabL.anc rfl (StabL.anc rfl (StabL.anc rfl (StabL.anc rfl (StabL.anc rfl (StabL.anc rfl (StabL.anc rfl trivial)))))))))))))), ?_⟩ ?_
 refine WT.altOff 46 rfl rfl rfl hb58 rfl ⟨(StabL.anc rfl (StabL.anc rfl (StabL.anc rfl (StabL.anc rfl (StabL.anc rfl (StabL.anc rfl (StabL.anc rfl (StabL.anc rfl (StabL.anc rfl (StabL.anc rfl (StabL.anc rfl (StabL.anc rfl (StabL.anc rfl (StabL.anc rfl trivial)))))))))))))), ?_⟩ ?_
 refine WT.pureOff 46 rfl rfl rfl hb58 rfl ?_
 refine Tp (.bool true) rfl (PO.pickT rfl hb58 rfl) rfl ?_
 refine WT.fin ?_
 obtain rfl := Option.some.inj h
 refine WQ.thenJ ?_
 exact ⟨(((hle40.trans hle45).trans hle51).trans hle56), rfl, hs30_1, hs30_2, hs30_3, rfl⟩
 exact WT.no
 exact WT.no
 have h := ite_f hb58 h
 refine Tn (pt g21 13) 46 rfl rfl rfl hb58 (PO.fieldAddr fo28_13 hs30_1 rfl) rfl ?_
 refine Tn (.string a0.Rack) 46 rfl rfl rfl hb58 (PO.loadB 1 pl9 rfl rfl rfl) rfl ?_
 refine Tn (.int .i64 a0.Kind) 46 rfl rfl rfl hb58 (PO.move hs30_3) rfl ?_
 obtain ⟨r59, hr60, h⟩ := bnd h
 refine WT.altOn 46 rfl rfl rfl hb58 (EO.call0 co33 (f_ref22_has_ok a0.Kind (99 : Int) _ r59 hr60) (args2 rfl rfl)) rfl ?_ ?_
 rintro _ M61 _ hle62 ⟨_, ⟨rfl, rfl⟩, rfl⟩
 have h0_10 := h0_10.mono hle62
 refine ⟨(StabL.anc rfl (StabL.st (StabA.on 46 rfl rfl rfl hb58 (PO.loadB 1 pl9 rfl rfl rfl) rfl) (StabL.st (StabA.on 46 rfl rfl rfl hb58 (PO.fieldAddr fo28_13 hs30_1 rfl) rfl) (StabL.anc rfl (StabL.anc rfl (StabL.anc rfl (StabL.anc rfl (StabL.anc rfl (StabL.anc rfl (StabL.anc rfl (StabL.anc rfl (StabL.anc rfl (StabL.anc rfl (StabL.anc rfl trivial)))))))))))))), ?_⟩
 refine WT.a0 ?_
 obtain ⟨r64, hr65, h⟩ := bnd h
 refine WT.altOn 46 rfl rfl rfl hb58 (EO.call0 co64 (f_ref22_txt_ok a0.Rack r59 (40 : Int) _ r64 hr65) (args3 rfl rfl rfl)) rfl ?_ ?_
 rintro _ M66 _ hle67 ⟨_, ⟨rfl, rfl⟩, rfl⟩
 have h0_10 := h0_10.mono hle67
 refine ⟨(StabL.anc rfl (StabL.anc rfl (StabL.anc rfl (StabL.anc rfl (StabL.anc rfl (StabL.anc rfl (StabL.anc rfl (StabL.anc rfl (StabL.anc rfl (StabL.anc rfl (StabL.anc rfl (StabL.anc rfl (StabL.anc rfl (StabL.anc rfl trivial)))))))))))))), ?_⟩
 refine WT.a0 ?_
 refine Tn (.bool (!r64)) 46 rfl rfl rfl hb58 (PO.not rfl) rfl ?_
 refine Tp (.bool (!r64)) rfl (PO.pickF rfl hb58 rfl) rfl ?_
 refine WT.fin ?_
 obtain rfl := Option.some.inj h
 refine WQ.thenJ ?_
 exact ⟨(((((hle40.trans hle45).trans hle51).trans hle56).trans hle62).trans hle67), rfl, hs30_1, hs30_2, hs30_3, rfl⟩
 exact WT.no
 exact WT.no
 exact WT.no
 exact WT.no
 exact WT.no
 exact WT.no
 rintro ρ36 M36 H36 ⟨hle36, rfl, hs36_1, hs36_2, hs36_3, hs36_53⟩
 have h0_10 := h0_10.mono hle36
 refine WC.cond (b := x35) hs36_53 (fun hb69 => ?_) (fun hb69 => ?_)
 have h := ite_t hb69 h
 refine Sr ?_
 refine Pu (pt g21 3) (PO.fieldAddr fo28_3 hs36_1 rfl) rfl ?_
 refine Pu (.string a0.Name) (PO.loadB 1 pl9 rfl rfl rfl) rfl ?_
 refine Pu (.int .i64 (a0.Name.size : Int)) (PO.lenStr Tryz.underlying9 rfl) rfl ?_
 refine Pu (.agg #[(.string ⟨#[110, 97, 109, 101]⟩), (.int .i64 (a0.Name.size : Int)), (.int .i64 6)]) (PO.buildL (cl := [(.string ⟨#[110, 97, 109, 101]⟩), (.int .i64 (a0.Name.size : Int)), (.int .i64 6)]) ze37 fp37 (Parts.cons (congrArg Value.cells (show ev _ _ = (.string ⟨#[110, 97, 109, 101]⟩) from rfl)) (Parts.cons (congrArg Value.cells (show ev _ _ = (.int .i64 (a0.Name.size : Int)) from rfl)) (Parts.cons (congrArg Value.cells (show ev _ _ = (.int .i64 6) from rfl)) Parts.nil))) rfl) rfl ?_
 refine WL.eff (EO.storeL (v := (.agg #[(.string ⟨#[110, 97, 109, 101]⟩), (.int .i64 (a0.Name.size : Int)), (.int .i64 6)])) (vl := [(.string ⟨#[110, 97, 109, 101]⟩), (.int .i64 (a0.Name.size : Int)), (.int .i64 6)]) (arr' := [(.string ⟨#[110, 97, 109, 101]⟩), (.int .i64 (a0.Name.size : Int)), (.int .i64 6)]) rfl sz37 hs36_2 rfl (onesOf (Ones.cons rfl (Ones.cons rfl (Ones.cons rfl Ones.nil)))) rfl rfl rfl) rfl ?_
 rintro _ _ _ - ⟨rfl, rfl⟩
 refine Nt ?_
 refine WC.ret ?_
 refine WQ.thenR ?_
 refine WQ.f1 ?_
 refine WQ.drop ?_
 exact WQ.returnsD h [] (fun _ hs => hs.drop) (resultsL1 rfl (RV.cellA (cs := [(.string ⟨#[110, 97, 109, 101]⟩), (.int .i64 (a0.Name.size : Int)), (.int .i64 6)]) 0 ag37 sz37 hs36_2 rfl rfl)) ((hle26.trans hle30).trans hle36) ⟨rfl, rfl⟩
 have h := ite_f hb69 h
 refine WC.skip ?_
 refine WQ.thenC ?_
 refine WC.seq ?_
 obtain ⟨x70, hj71, h⟩ := bnd h
 refine WC.joinF (fun (x70 : Bool) ρ' M' H' => M36.le M' ∧ [(g22, .cells #[(.string ⟨#[]⟩), (.int .i64 0), (.int .i64 0)] 37 (0, 0))] :: [(g21, .cells (l28 a0 v0_10).toArray 28 (0, 0))] :: F = H' ∧ ρ' 1 = (pt g21 0) ∧ ρ' 2 = (pt g22 0) ∧ ρ' 3 = (.int .i64 a0.Kind) ∧ ρ' 72 = (.bool x70)) x70 ?_ ?_
 have h371 := h
 have h := hj71
 refine WC.draw [0, 1, 0, 4, 15, 31, 63, 127, 255, 511, 1023, 2047, 4095, 8191, 16383] (.pure 0 (.pure 1 (.pure 2 (.alt 3 (.alt 4 (.pure 5 (.pure 6 (.pure 7 (.pure 8 (.pure 9 (.pure 10 (.alt 11 (.pure 12 (.pure 13 (.pure 14 .done))) .none))))))) .none) .none)))) mixed (by kernel_rfl) ?_
 refine Tp (pt g21 5) rfl (PO.fieldAddr fo28_5 hs36_1 rfl) rfl ?_
 refine Tp (.string a0.Value) rfl (PO.loadB 1 pl9 rfl rfl rfl) rfl ?_
 refine Tp (.int .i64 a0.Kind) rfl (PO.move hs36_3) rfl ?_
 obtain ⟨r72, hr73, h⟩ := bnd h
 refine WT.alt rfl (EO.call0 co33 (f_ref22_has_ok a0.Kind (107 : Int) _ r72 hr73) (args2 rfl rfl)) rfl ?_ ?_
 rintro _ M74 _ hle75 ⟨_, ⟨rfl, rfl⟩, rfl⟩
 have h0_10 := h0_10.mono hle75
 refine ⟨(StabL.anc rfl (StabL.st (StabA.of rfl (PO.loadB 1 pl9 rfl rfl rfl) rfl) (StabL.st (StabA.of rfl (PO.fieldAddr fo28_5 hs36_1 rfl) rfl) trivial))), ?_⟩
 refine WT.a0 ?_
 obtain ⟨r77, hr78, h⟩ := bnd h
 refine WT.alt rfl (EO.call0 co64 (f_ref22_txt_ok a0.Value r72 (256 : Int) _ r77 hr78) (args3 rfl rfl rfl)) rfl ?_ ?_
 rintro _ M79 _ hle80 ⟨_, ⟨rfl, rfl⟩, rfl⟩
 have h0_10 := h0_10.mono hle80
 refine ⟨(StabL.anc rfl (StabL.anc rfl (StabL.anc rfl trivial))), ?_⟩
 refine WT.a0 ?_
 refine Tp (.bool (!r77)) rfl (PO.not rfl) rfl ?_
 refine Tp (.bool (!r77)) rfl (PO.move rfl) rfl ?_
 rcases Bool.eq_false_or_eq_true (!r77) with hb82 | hb82
 have h := ite_t hb82 h
 refine WT.pureOff 64 rfl rfl rfl hb82 rfl ?_
 refine WT.pureOff 64 rfl rfl rfl hb82 rfl ?_
 refine WT.pureOff 64 rfl rfl rfl hb82 rfl ?_
 refine WT.pureOffU 67 rfl rfl rfl  rfl ?_
 refine WT.altOffU 67 rfl rfl rfl  rfl ⟨(StabL.anc rfl (StabL.anc rfl (StabL.anc rfl (StabL.anc rfl (StabL.anc rfl (StabL.anc rfl (StabL.anc rfl (StabL.anc rfl (StabL.anc rfl trivial))))))))), ?_⟩ ?_
 refine WT.pureOffU 67 rfl rfl rfl  rfl ?_
 refine WT.pureOff 64 rfl rfl rfl hb82 rfl ?_
 refine Tp (.bool true) rfl (PO.pickT rfl hb82 rfl) rfl ?_
 refine WT.fin ?_
 obtain rfl := Option.some.inj h
 refine WQ.thenJ ?_
 exact ⟨(hle75.trans hle80), rfl, hs36_1, hs36_2, hs36_3, rfl⟩
 exact WT.no
 have h := ite_f hb82 h
 refine Tn (pt g21 6) 64 rfl rfl rfl hb82 (PO.fieldAddr fo28_6 hs36_1 rfl) rfl ?_
 refine Tn (.bool a0.Flag) 64 rfl rfl rfl hb82 (PO.loadB 1 pl4 rfl rfl rfl) rfl ?_
 refine Tn (.bool a0.Flag) 64 rfl rfl rfl hb82 (PO.move rfl) rfl ?_
 rcases Bool.eq_false_or_eq_true (a0.Flag) with hb83 | hb83
 have h := ite_t hb83 h
 refine Tn (.int .i64 a0.Kind) 67 rfl rfl rfl hb83 (PO.move hs36_3) rfl ?_
 obtain ⟨r84, hr85, h⟩ := bnd h
 refine WT.altOn 67 rfl rfl rfl hb83 (EO.call0 co33 (f_ref22_has_ok a0.Kind (107 : Int) _ r84 hr85) (args2 rfl rfl)) rfl ?_ ?_
 rintro _ M86 _ hle87 ⟨_, ⟨rfl, rfl⟩, rfl⟩
 have h0_10 := h0_10.mono hle87
 refine ⟨(StabL.anc rfl (StabL.anc rfl (StabL.anc rfl (StabL.anc rfl (StabL.anc rfl (StabL.anc rfl (StabL.anc rfl (StabL.anc rfl (StabL.anc rfl trivial))))))))), ?_⟩
 refine WT.a0 ?_
 refine Tn (.bool (!r84)) 67 rfl rfl rfl hb83 (PO.not rfl) rfl ?_
 refine Tn (.bool (!r84)) 64 rfl rfl rfl hb82 (PO.pickT rfl hb83 rfl) rfl ?_
 refine Tp (.bool (!r84)) rfl (PO.pickF rfl hb82 rfl) rfl ?_
 refine WT.fin ?_
 obtain rfl := Option.some.inj h
 refine WQ.thenJ ?_
 exact ⟨((hle75.trans hle80).trans hle87), rfl, hs36_1, hs36_2, hs36_3, rfl⟩
 exact WT.no
 have h := ite_f hb83 h
 refine WT.pureOff 67 rfl rfl rfl hb83 rfl ?_
 refine WT.altOff 67 rfl rfl rfl hb83 rfl ⟨(StabL.anc rfl (StabL.anc rfl (StabL.anc rfl (StabL.anc rfl (StabL.anc rfl (StabL.anc rfl (StabL.anc rfl (StabL.anc rfl (StabL.anc rfl trivial))))))))), ?_⟩ ?_
 refine WT.pureOff 67 rfl rfl rfl hb83 rfl ?_
 refine Tn (.bool false) 64 rfl rfl rfl hb82 (PO.pickF rfl hb83 rfl) rfl ?_
 refine Tp (.bool false) rfl (PO.pickF rfl hb82 rfl) rfl ?_
 refine WT.fin ?_
 obtain rfl := Option.some.inj h
 refine WQ.thenJ ?_
 exact ⟨(hle75.trans hle80), rfl, hs36_1, hs36_2, hs36_3, rfl⟩
 exact WT.no
 exact WT.no
 exact WT.no
 rintro ρ71 M71 H71 ⟨hle71, rfl, hs71_1, hs71_2, hs71_3, hs71_72⟩
 have h0_10 := h0_10.mono hle71
 refine WC.cond (b := x70) hs71_72 (fun hb89 => ?_) (fun hb89 => ?_)
 have h := ite_t hb89 h
 refine Sr ?_
 refine Pu (pt g21 5) (PO.fieldAddr fo28_5 hs71_1 rfl) rfl ?_
 refine Pu (.string a0.Value) (PO.loadB 1 pl9 rfl rfl rfl) rfl ?_
 refine Pu (.int .i64 (a0.Value.size : Int)) (PO.lenStr Tryz.underlying9 rfl) rfl ?_
 refine Pu (.agg #[(.string ⟨#[118, 97, 108, 117, 101]⟩), (.int .i64 (a0.Value.size : Int)), (.int .i64 6)]) (PO.buildL (cl := [(.string ⟨#[118, 97, 108, 117, 101]⟩), (.int .i64 (a0.Value.size : Int)), (.int .i64 6)]) ze37 fp37 (Parts.cons (congrArg Value.cells (show ev _ _ = (.string ⟨#[118, 97, 108, 117, 101]⟩) from rfl)) (Parts.cons (congrArg Value.cells (show ev _ _ = (.int .i64 (a0.Value.size : Int)) from rfl)) (Parts.cons (congrArg Value.cells (show ev _ _ = (.int .i64 6) from rfl)) Parts.nil))) rfl) rfl ?_
 refine WL.eff (EO.storeL (v := (.agg #[(.string ⟨#[118, 97, 108, 117, 101]⟩), (.int .i64 (a0.Value.size : Int)), (.int .i64 6)])) (vl := [(.string ⟨#[118, 97, 108, 117, 101]⟩), (.int .i64 (a0.Value.size : Int)), (.int .i64 6)]) (arr' := [(.string ⟨#[118, 97, 108, 117, 101]⟩), (.int .i64 (a0.Value.size : Int)), (.int .i64 6)]) rfl sz37 hs71_2 rfl (onesOf (Ones.cons rfl (Ones.cons rfl (Ones.cons rfl Ones.nil)))) rfl rfl rfl) rfl ?_
 rintro _ _ _ - ⟨rfl, rfl⟩
 refine Nt ?_
 refine WC.ret ?_
 refine WQ.thenR ?_
 refine WQ.f1 ?_
 refine WQ.drop ?_
 exact WQ.returnsD h [] (fun _ hs => hs.drop) (resultsL1 rfl (RV.cellA (cs := [(.string ⟨#[118, 97, 108, 117, 101]⟩), (.int .i64 (a0.Value.size : Int)), (.int .i64 6)]) 0 ag37 sz37 hs71_2 rfl rfl)) (((hle26.trans hle30).trans hle36).trans hle71) ⟨rfl, rfl⟩
 have h := ite_f hb89 h
 refine WC.skip ?_
 refine WQ.thenC ?_
 refine WC.seq ?_
 obtain ⟨x90, hj91, h⟩ := bnd h
 refine WC.joinF (fun (x90 : Bool) ρ' M' H' => M71.le M' ∧ [(g22, .cells #[(.string ⟨#[]⟩), (.int .i64 0), (.int .i64 0)] 37 (0, 0))] :: [(g21, .cells (l28 a0 v0_10).toArray 28 (0, 0))] :: F = H' ∧ ρ' 1 = (pt g21 0) ∧ ρ' 2 = (pt g22 0) ∧ ρ' 3 = (.int .i64 a0.Kind) ∧ ρ' 98 = (.bool x90)) x90 ?_ ?_
 have h391 := h
 have h := hj91
 refine WC.draw [0, 1, 0, 4, 15, 31, 63, 127, 255, 127, 639, 2047, 4095, 8191, 16383, 32767, 65535, 32767, 163839, 524287, 1048575, 2097151] (.pure 0 (.pure 1 (.pure 2 (.alt 3 (.alt 4 (.pure 5 (.pure 6 (.pure 7 (.pure 8 (.pure 9 (.alt 10 (.alt 11 (.pure 12 (.pure 13 (.pure 14 (.pure 15 (.pure 16 (.pure 17 (.alt 18 (.alt 19 (.pure 20 (.pure 21 .done)) .none) .none))))))) .none) .none)))))) .none) .none)))) mixed (by kernel_rfl) ?_
 refine Tp (pt g21 7) rfl (PO.fieldAddr fo28_7 hs71_1 rfl) rfl ?_
 refine Tp (.int .i64 a0.Parts) rfl (PO.loadB 1 pl3 rfl rfl rfl) rfl ?_
 refine Tp (.int .i64 a0.Kind) rfl (PO.move hs71_3) rfl ?_
 obtain ⟨r92, hr93, h⟩ := bnd h
 refine WT.alt rfl (EO.call0 co33 (f_ref22_has_ok a0.Kind (113 : Int) _ r92 hr93) (args2 rfl rfl)) rfl ?_ ?_
 rintro _ M94 _ hle95 ⟨_, ⟨rfl, rfl⟩, rfl⟩
 have h0_10 := h0_10.mono hle95
 refine ⟨(StabL.anc rfl (StabL.st (StabA.of rfl (PO.loadB 1 pl3 rfl rfl rfl) rfl) (StabL.st (StabA.of rfl (PO.fieldAddr fo28_7 hs71_1 rfl) rfl) trivial))), ?_⟩
 refine WT.a0 ?_
 obtain ⟨r97, hr98, h⟩ := bnd h
 refine WT.alt rfl (EO.call0 co65 (f_ref22_num_ok a0.Parts r92 (256 : Int) _ r97 hr98) (args3 rfl rfl rfl)) rfl ?_ ?_
 rintro _ M99 _ hle100 ⟨_, ⟨rfl, rfl⟩, rfl⟩
 have h0_10 := h0_10.mono hle100
 refine ⟨(StabL.anc rfl (StabL.anc rfl (StabL.anc rfl trivial))), ?_⟩
 refine WT.a0 ?_
 refine Tp (.bool (!r97)) rfl (PO.not rfl) rfl ?_
 refine Tp (.bool (!r97)) rfl (PO.move rfl) rfl ?_
 rcases Bool.eq_false_or_eq_true (!r97) with hb102 | hb102
 have h := ite_t hb102 h
 refine WT.pureOff 83 rfl rfl rfl hb102 rfl ?_
 refine WT.pureOff 83 rfl rfl rfl hb102 rfl ?_
 refine WT.pureOff 83 rfl rfl rfl hb102 rfl ?_
 refine WT.altOff 83 rfl rfl rfl hb102 rfl ⟨(StabL.anc rfl (StabL.st (StabA.off 83 rfl rfl rfl hb102 rfl) (StabL.st (StabA.off 83 rfl rfl rfl hb102 rfl) (StabL.anc rfl (StabL.anc rfl (StabL.anc rfl (StabL.anc rfl (StabL.anc rfl trivial)))))))), ?_⟩ ?_
 refine WT.altOff 83 rfl rfl rfl hb102 rfl ⟨(StabL.anc rfl (StabL.anc rfl (StabL.anc rfl (StabL.anc rfl (StabL.anc rfl (StabL.anc rfl (StabL.anc rfl (StabL.anc rfl trivial)))))))), ?_⟩ ?_
 refine WT.pureOff 83 rfl rfl rfl hb102 rfl ?_
 refine Tp (.bool true) rfl (PO.pickT rfl hb102 rfl) rfl ?_
 refine Tp (.bool true) rfl (PO.move rfl) rfl ?_
 refine WT.pureOff 91 rfl rfl rfl rfl rfl ?_
 refine WT.pureOff 91 rfl rfl rfl rfl rfl ?_
 refine WT.pureOff 91 rfl rfl rfl rfl rfl ?_
 refine WT.altOff 91 rfl rfl rfl rfl rfl ⟨(StabL.anc rfl (StabL.st (StabA.off 91 rfl rfl rfl rfl rfl) (StabL.st (StabA.off 91 rfl rfl rfl rfl rfl) (StabL.anc rfl (StabL.anc rfl (StabL.anc rfl (StabL.anc rfl (StabL.anc rfl (StabL.anc rfl (StabL.anc rfl (StabL.anc rfl (StabL.anc rfl (StabL.anc rfl (StabL.anc rfl trivial)))))))))))))), ?_⟩ ?_
 refine WT.altOff 91 rfl rfl rfl rfl rfl ⟨(StabL.anc rfl (StabL.anc rfl (StabL.anc rfl (StabL.anc rfl (StabL.anc rfl (StabL.anc rfl (StabL.anc rfl (StabL.anc rfl (StabL.anc rfl (StabL.anc rfl (StabL.anc rfl (StabL.anc rfl (StabL.anc rfl (StabL.anc rfl trivial)))))))))))))), ?_⟩ ?_
 refine WT.pureOff 91 rfl rfl rfl rfl rfl ?_
 refine Tp (.bool true) rfl (PO.pickT rfl rfl rfl) rfl ?_
 refine WT.fin ?_
 obtain rfl := Option.some.inj h
 refine WQ.thenJ ?_
 exact ⟨(hle95.trans hle100), rfl, hs71_1, hs71_2, hs71_3, rfl⟩
 exact WT.no
 exact WT.no
 exact WT.no
 exact WT.no
 have h := ite_f hb102 h
 refine Tn (pt g21 8) 83 rfl rfl rfl hb102 (PO.fieldAddr fo28_8 hs71_1 rfl) rfl ?_
 refine Tn (.int .i64 a0.Replicas) 83 rfl rfl rfl hb102 (PO.loadB 1 pl3 rfl rfl rfl) rfl ?_
 refine Tn (.int .i64 a0.Kind) 83 rfl rfl rfl hb102 (PO.move hs71_3) rfl ?_
 obtain ⟨r103, hr104, h⟩ := bnd h
 refine WT.altOn 83 rfl rfl rfl hb102 (EO.call0 co33 (f_ref22_has_ok a0.Kind (114 : Int) _ r103 hr104) (args2 rfl rfl)) rfl ?_ ?_
 rintro _ M105 _ hle106 ⟨_, ⟨rfl, rfl⟩, rfl⟩
 have h0_10 := h0_10.mono hle106
 refine ⟨(StabL.anc rfl (StabL.st (StabA.on 83 rfl rfl rfl hb102 (PO.loadB 1 pl3 rfl rfl rfl) rfl) (StabL.st (StabA.on 83 rfl rfl rfl hb102 (PO.fieldAddr fo28_8 hs71_1 rfl) rfl) (StabL.anc rfl (StabL.anc rfl (StabL.anc rfl (StabL.anc rfl (StabL.anc rfl trivial)))))))), ?_⟩
 refine WT.a0 ?_
 obtain ⟨r108, hr109, h⟩ := bnd h
 refine WT.altOn 83 rfl rfl rfl hb102 (EO.call0 co65 (f_ref22_num_ok a0.Replicas r103 (7 : Int) _ r108 hr109) (args3 rfl rfl rfl)) rfl ?_ ?_
 rintro _ M110 _ hle111 ⟨_, ⟨rfl, rfl⟩, rfl⟩
 have h0_10 := h0_10.mono hle111
 refine ⟨(StabL.anc rfl (StabL.anc rfl (StabL.anc rfl (StabL.anc rfl (StabL.anc rfl (StabL.anc rfl (StabL.anc rfl (StabL.anc rfl trivial)))))))), ?_⟩
 refine WT.a0 ?_
 refine Tn (.bool (!r108)) 83 rfl rfl rfl hb102 (PO.not rfl) rfl ?_
 refine Tp (.bool (!r108)) rfl (PO.pickF rfl hb102 rfl) rfl ?_
 refine Tp (.bool (!r108)) rfl (PO.move rfl) rfl ?_
 rcases Bool.eq_false_or_eq_true (!r108) with hb113 | hb113
 have h := ite_t hb113 h
 refine WT.pureOff 91 rfl rfl rfl hb113 rfl ?_
 refine WT.pureOff 91 rfl rfl rfl hb113 rfl ?_
 refine WT.pureOff 91 rfl rfl rfl hb113 rfl ?_
 refine WT.altOff 91 rfl rfl rfl hb113 rfl ⟨(StabL.anc rfl (StabL.st (StabA.off 91 rfl rfl rfl hb113 rfl) (StabL.st (StabA.off 91 rfl rfl rfl hb113 rfl) (StabL.anc rfl (StabL.anc rfl (StabL.anc rfl (StabL.anc rfl (StabL.anc rfl (StabL.anc rfl (StabL.anc rfl (StabL.anc rfl (StabL.anc rfl (StabL.anc rfl (StabL.anc rfl trivial)))))))))))))), ?_⟩ ?_
 refine WT.altOff 91 rfl rfl rfl hb113 rfl ⟨(StabL.anc rfl (StabL.anc rfl (StabL.anc rfl (StabL.anc rfl (StabL.anc rfl (StabL.anc rfl (StabL.anc rfl (StabL.anc rfl (StabL.anc rfl (StabL.anc rfl (StabL.anc rfl (StabL.anc rfl (StabL.anc rfl (StabL.anc rfl trivial)))))))))))))), ?_⟩ ?_
 refine WT.pureOff 91 rfl rfl rfl hb113 rfl ?_
 refine Tp (.bool true) rfl (PO.pickT rfl hb113 rfl) rfl ?_
 refine WT.fin ?_
 obtain rfl := Option.some.inj h
 refine WQ.thenJ ?_
 exact ⟨(((hle95.trans hle100).trans hle106).trans hle111), rfl, hs71_1, hs71_2, hs71_3, rfl⟩
 exact WT.no
 exact WT.no
 have h := ite_f hb113 h
 refine Tn (pt g21 9) 91 rfl rfl rfl hb113 (PO.fieldAddr fo28_9 hs71_1 rfl) rfl ?_
 refine Tn (.int .i64 a0.Part) 91 rfl rfl rfl hb113 (PO.loadB 1 pl3 rfl rfl rfl) rfl ?_
 refine Tn (.int .i64 a0.Kind) 91 rfl rfl rfl hb113 (PO.move hs71_3) rfl ?_
 obtain ⟨r114, hr115, h⟩ := bnd h
 refine WT.altOn 91 rfl rfl rfl hb113 (EO.call0 co33 (f_ref22_has_ok a0.Kind (112 : Int) _ r114 hr115) (args2 rfl rfl)) rfl ?_ ?_
 rintro _ M116 _ hle117 ⟨_, ⟨rfl, rfl⟩, rfl⟩
 have h0_10 := h0_10.mono hle117
 refine ⟨(StabL.anc rfl (StabL.st (StabA.on 91 rfl rfl rfl hb113 (PO.loadB 1 pl3 rfl rfl rfl) rfl) (StabL.st (StabA.on 91 rfl rfl rfl hb113 (PO.fieldAddr fo28_9 hs71_1 rfl) rfl) (StabL.anc rfl (StabL.anc rfl (StabL.anc rfl (StabL.anc rfl (StabL.anc rfl (StabL.anc rfl (StabL.anc rfl (StabL.anc rfl (StabL.anc rfl (StabL.anc rfl (StabL.anc rfl trivial)))))))))))))), ?_⟩
 refine WT.a0 ?_
 obtain ⟨r119, hr120, h⟩ := bnd h
 refine WT.altOn 91 rfl rfl rfl hb113 (EO.call0 co65 (f_ref22_num_ok a0.Part r114 (256 : Int) _ r119 hr120) (args3 rfl rfl rfl)) rfl ?_ ?_
 rintro _ M121 _ hle122 ⟨_, ⟨rfl, rfl⟩, rfl⟩
 have h0_10 := h0_10.mono hle122
 refine ⟨(StabL.anc rfl (StabL.anc rfl (StabL.anc rfl (StabL.anc rfl (StabL.anc rfl (StabL.anc rfl (StabL.anc rfl (StabL.anc rfl (StabL.anc rfl (StabL.anc rfl (StabL.anc rfl (StabL.anc rfl (StabL.anc rfl (StabL.anc rfl trivial)))))))))))))), ?_⟩
 refine WT.a0 ?_
 refine Tn (.bool (!r119)) 91 rfl rfl rfl hb113 (PO.not rfl) rfl ?_
 refine Tp (.bool (!r119)) rfl (PO.pickF rfl hb113 rfl) rfl ?_
 refine WT.fin ?_
 obtain rfl := Option.some.inj h
 refine WQ.thenJ ?_
 exact ⟨(((((hle95.trans hle100).trans hle106).trans hle111).trans hle117).trans hle122), rfl, hs71_1, hs71_2, hs71_3, rfl⟩
 exact WT.no
 exact WT.no
 exact WT.no
 exact WT.no
 exact WT.no
 exact WT.no
 rintro ρ91 M91 H91 ⟨hle91, rfl, hs91_1, hs91_2, hs91_3, hs91_98⟩
 have h0_10 := h0_10.mono hle91
 refine WC.cond (b := x90) hs91_98 (fun hb124 => ?_) (fun hb124 => ?_)
 have h := ite_t hb124 h
 refine Sr ?_
 refine Pu (pt g21 7) (PO.fieldAddr fo28_7 hs91_1 rfl) rfl ?_
 refine Pu (.int .i64 a0.Parts) (PO.loadB 1 pl3 rfl rfl rfl) rfl ?_
 refine Pu (.agg #[(.string ⟨#[110, 117, 109, 98, 101, 114]⟩), (.int .i64 a0.Parts), (.int .i64 2)]) (PO.buildL (cl := [(.string ⟨#[110, 117, 109, 98, 101, 114]⟩), (.int .i64 a0.Parts), (.int .i64 2)]) ze37 fp37 (Parts.cons (congrArg Value.cells (show ev _ _ = (.string ⟨#[110, 117, 109, 98, 101, 114]⟩) from rfl)) (Parts.cons (congrArg Value.cells (show ev _ _ = (.int .i64 a0.Parts) from rfl)) (Parts.cons (congrArg Value.cells (show ev _ _ = (.int .i64 2) from rfl)) Parts.nil))) rfl) rfl ?_
 refine WL.eff (EO.storeL (v := (.agg #[(.string ⟨#[110, 117, 109, 98, 101, 114]⟩), (.int .i64 a0.Parts), (.int .i64 2)])) (vl := [(.string ⟨#[110, 117, 109, 98, 101, 114]⟩), (.int .i64 a0.Parts), (.int .i64 2)]) (arr' := [(.string ⟨#[110, 117, 109, 98, 101, 114]⟩), (.int .i64 a0.Parts), (.int .i64 2)]) rfl sz37 hs91_2 rfl (onesOf (Ones.cons rfl (Ones.cons rfl (Ones.cons rfl Ones.nil)))) rfl rfl rfl) rfl ?_
 rintro _ _ _ - ⟨rfl, rfl⟩
 refine Nt ?_
 refine WC.ret ?_
 refine WQ.thenR ?_
 refine WQ.f1 ?_
 refine WQ.drop ?_
 exact WQ.returnsD h [] (fun _ hs => hs.drop) (resultsL1 rfl (RV.cellA (cs := [(.string ⟨#[110, 117, 109, 98, 101, 114]⟩), (.int .i64 a0.Parts), (.int .i64 2)]) 0 ag37 sz37 hs91_2 rfl rfl)) ((((hle26.trans hle30).trans hle36).trans hle71).trans hle91) ⟨rfl, rfl⟩
 have h := ite_f hb124 h
 refine WC.skip ?_
 refine WQ.thenC ?_
 refine WC.seq ?_
 obtain ⟨x125, hj126, h⟩ := bnd h
 refine WC.joinF (fun (x125 : Bool) ρ' M' H' => M91.le M' ∧ [(g22, .cells #[(.string ⟨#[]⟩), (.int .i64 0), (.int .i64 0)] 37 (0, 0))] :: [(g21, .cells (l28 a0 v0_10).toArray 28 (0, 0))] :: F = H' ∧ ρ' 1 = (pt g21 0) ∧ ρ' 2 = (pt g22 0) ∧ ρ' 3 = (.int .i64 a0.Kind) ∧ ρ' 123 = (.bool x125)) x125 ?_ ?_
 have h3126 := h
 have h := hj126
 refine WC.draw [0, 1, 0, 4, 15, 31, 63, 127, 255, 127, 639, 2047, 4095, 8191, 16383, 32767, 65535, 32767, 163839, 524287, 1048575, 2097151] (.pure 0 (.pure 1 (.pure 2 (.alt 3 (.alt 4 (.pure 5 (.pure 6 (.pure 7 (.pure 8 (.pure 9 (.alt 10 (.alt 11 (.pure 12 (.pure 13 (.pure 14 (.pure 15 (.pure 16 (.pure 17 (.alt 18 (.alt 19 (.pure 20 (.pure 21 .done)) .none) .none))))))) .none) .none)))))) .none) .none)))) mixed (by kernel_rfl) ?_
 refine Tp (pt g21 11) rfl (PO.fieldAddr fo28_11 hs91_1 rfl) rfl ?_
 refine Tp (.int .i64 a0.Broker) rfl (PO.loadB 1 pl3 rfl rfl rfl) rfl ?_
 refine Tp (.int .i64 a0.Kind) rfl (PO.move hs91_3) rfl ?_
 obtain ⟨r127, hr128, h⟩ := bnd h
 refine WT.alt rfl (EO.call0 co33 (f_ref22_has_ok a0.Kind (98 : Int) _ r127 hr128) (args2 rfl rfl)) rfl ?_ ?_
 rintro _ M129 _ hle130 ⟨_, ⟨rfl, rfl⟩, rfl⟩
 have h0_10 := h0_10.mono hle130
 refine ⟨(StabL.anc rfl (StabL.st (StabA.of rfl (PO.loadB 1 pl3 rfl rfl rfl) rfl) (StabL.st (StabA.of rfl (PO.fieldAddr fo28_11 hs91_1 rfl) rfl) trivial))), ?_⟩
 refine WT.a0 ?_
 obtain ⟨r132, hr133, h⟩ := bnd h
 refine WT.alt rfl (EO.call0 co65 (f_ref22_num_ok a0.Broker r127 (64 : Int) _ r132 hr133) (args3 rfl rfl rfl)) rfl ?_ ?_
 rintro _ M134 _ hle135 ⟨_, ⟨rfl, rfl⟩, rfl⟩
 have h0_10 := h0_10.mono hle135
 refine ⟨(StabL.anc rfl (StabL.anc rfl (StabL.anc rfl trivial))), ?_⟩
 refine WT.a0 ?_
 refine Tp (.bool (!r132)) rfl (PO.not rfl) rfl ?_
 refine Tp (.bool (!r132)) rfl (PO.move rfl) rfl ?_
 rcases Bool.eq_false_or_eq_true (!r132) with hb137 | hb137
 have h := ite_t hb137 h
 refine WT.pureOff 108 rfl rfl rfl hb137 rfl ?_
 refine WT.pureOff 108 rfl rfl rfl hb137 rfl ?_
 refine WT.pureOff 108 rfl rfl rfl hb137 rfl ?_
 refine WT.altOff 108 rfl rfl rfl hb137 rfl ⟨(StabL.anc rfl (StabL.st (StabA.off 108 rfl rfl rfl hb137 rfl) (StabL.st (StabA.off 108 rfl rfl rfl hb137 rfl) (StabL.anc rfl (StabL.anc rfl (StabL.anc rfl (StabL.anc rfl (StabL.anc rfl trivial)))))))), ?_⟩ ?_
 refine WT.altOff 108 rfl rfl rfl hb137 rfl ⟨(StabL.anc rfl (StabL.anc rfl (StabL.anc rfl (StabL.anc rfl (StabL.anc rfl (StabL.anc rfl (StabL.anc rfl (StabL.anc rfl trivial)))))))), ?_⟩ ?_
 refine WT.pureOff 108 rfl rfl rfl hb137 rfl ?_
 refine Tp (.bool true) rfl (PO.pickT rfl hb137 rfl) rfl ?_
 refine Tp (.bool true) rfl (PO.move rfl) rfl ?_
 refine WT.pureOff 116 rfl rfl rfl rfl rfl ?_
 refine WT.pureOff 116 rfl rfl rfl rfl rfl ?_
 refine WT.pureOff 116 rfl rfl rfl rfl rfl ?_
 refine WT.altOff 116 rfl rfl rfl rfl rfl ⟨(StabL.anc rfl (StabL.st (StabA.off 116 rfl rfl rfl rfl rfl) (StabL.st (StabA.off 116 rfl rfl rfl rfl rfl) (StabL.anc rfl (StabL.anc rfl (StabL.anc rfl (StabL.anc rfl (StabL.anc rfl (StabL.anc rfl (StabL.anc rfl (StabL.anc rfl (StabL.anc rfl (StabL.anc rfl (StabL.anc rfl trivial)))))))))))))), ?_⟩ ?_
 refine WT.altOff 116 rfl rfl rfl rfl rfl ⟨(StabL.anc rfl (StabL.anc rfl (StabL.anc rfl (StabL.anc rfl (StabL.anc rfl (StabL.anc rfl (StabL.anc rfl (StabL.anc rfl (StabL.anc rfl (StabL.anc rfl (StabL.anc rfl (StabL.anc rfl (StabL.anc rfl (StabL.anc rfl trivial)))))))))))))), ?_⟩ ?_
 refine WT.pureOff 116 rfl rfl rfl rfl rfl ?_
 refine Tp (.bool true) rfl (PO.pickT rfl rfl rfl) rfl ?_
 refine WT.fin ?_
 obtain rfl := Option.some.inj h
 refine WQ.thenJ ?_
 exact ⟨(hle130.trans hle135), rfl, hs91_1, hs91_2, hs91_3, rfl⟩
 exact WT.no
 exact WT.no
 exact WT.no
 exact WT.no
 have h := ite_f hb137 h
 refine Tn (pt g21 12) 108 rfl rfl rfl hb137 (PO.fieldAddr fo28_12 hs91_1 rfl) rfl ?_
 refine Tn (.int .i64 a0.Epoch) 108 rfl rfl rfl hb137 (PO.loadB 1 pl3 rfl rfl rfl) rfl ?_
 refine Tn (.int .i64 a0.Kind) 108 rfl rfl rfl hb137 (PO.move hs91_3) rfl ?_
 obtain ⟨r138, hr139, h⟩ := bnd h
 refine WT.altOn 108 rfl rfl rfl hb137 (EO.call0 co33 (f_ref22_has_ok a0.Kind (101 : Int) _ r138 hr139) (args2 rfl rfl)) rfl ?_ ?_
 rintro _ M140 _ hle141 ⟨_, ⟨rfl, rfl⟩, rfl⟩
 have h0_10 := h0_10.mono hle141
 refine ⟨(StabL.anc rfl (StabL.st (StabA.on 108 rfl rfl rfl hb137 (PO.loadB 1 pl3 rfl rfl rfl) rfl) (StabL.st (StabA.on 108 rfl rfl rfl hb137 (PO.fieldAddr fo28_12 hs91_1 rfl) rfl) (StabL.anc rfl (StabL.anc rfl (StabL.anc rfl (StabL.anc rfl (StabL.anc rfl trivial)))))))), ?_⟩
 refine WT.a0 ?_
 obtain ⟨r143, hr144, h⟩ := bnd h
 refine WT.altOn 108 rfl rfl rfl hb137 (EO.call0 co65 (f_ref22_num_ok a0.Epoch r138 (1073741824 : Int) _ r143 hr144) (args3 rfl rfl rfl)) rfl ?_ ?_
 rintro _ M145 _ hle146 ⟨_, ⟨rfl, rfl⟩, rfl⟩
 have h0_10 := h0_10.mono hle146
 refine ⟨(StabL.anc rfl (StabL.anc rfl (StabL.anc rfl (StabL.anc rfl (StabL.anc rfl (StabL.anc rfl (StabL.anc rfl (StabL.anc rfl trivial)))))))), ?_⟩
 refine WT.a0 ?_
 refine Tn (.bool (!r143)) 108 rfl rfl rfl hb137 (PO.not rfl) rfl ?_
 refine Tp (.bool (!r143)) rfl (PO.pickF rfl hb137 rfl) rfl ?_
 refine Tp (.bool (!r143)) rfl (PO.move rfl) rfl ?_
 rcases Bool.eq_false_or_eq_true (!r143) with hb148 | hb148
 have h := ite_t hb148 h
 refine WT.pureOff 116 rfl rfl rfl hb148 rfl ?_
 refine WT.pureOff 116 rfl rfl rfl hb148 rfl ?_
 refine WT.pureOff 116 rfl rfl rfl hb148 rfl ?_
 refine WT.altOff 116 rfl rfl rfl hb148 rfl ⟨(StabL.anc rfl (StabL.st (StabA.off 116 rfl rfl rfl hb148 rfl) (StabL.st (StabA.off 116 rfl rfl rfl hb148 rfl) (StabL.anc rfl (StabL.anc rfl (StabL.anc rfl (StabL.anc rfl (StabL.anc rfl (StabL.anc rfl (StabL.anc rfl (StabL.anc rfl (StabL.anc rfl (StabL.anc rfl (StabL.anc rfl trivial)))))))))))))), ?_⟩ ?_
 refine WT.altOff 116 rfl rfl rfl hb148 rfl ⟨(StabL.anc rfl (StabL.anc rfl (StabL.anc rfl (StabL.anc rfl (StabL.anc rfl (StabL.anc rfl (StabL.anc rfl (StabL.anc rfl (StabL.anc rfl (StabL.anc rfl (StabL.anc rfl (StabL.anc rfl (StabL.anc rfl (StabL.anc rfl trivial)))))))))))))), ?_⟩ ?_
 refine WT.pureOff 116 rfl rfl rfl hb148 rfl ?_
 refine Tp (.bool true) rfl (PO.pickT rfl hb148 rfl) rfl ?_
 refine WT.fin ?_
 obtain rfl := Option.some.inj h
 refine WQ.thenJ ?_
 exact ⟨(((hle130.trans hle135).trans hle141).trans hle146), rfl, hs91_1, hs91_2, hs91_3, rfl⟩
 exact WT.no
 exact WT.no
 have h := ite_f hb148 h
 refine Tn (pt g21 14) 116 rfl rfl rfl hb148 (PO.fieldAddr fo28_14 hs91_1 rfl) rfl ?_
 refine Tn (a26_ a0.Word) 116 rfl rfl rfl hb148 (PO.loadBA (cs := (l26 a0.Word)) 1 ag26 sz26 rfl rfl rfl) rfl ?_
 refine Tn (.int .i64 a0.Kind) 116 rfl rfl rfl hb148 (PO.move hs91_3) rfl ?_
 obtain ⟨r149, hr150, h⟩ := bnd h
 refine WT.altOn 116 rfl rfl rfl hb148 (EO.call0 co33 (f_ref22_has_ok a0.Kind (119 : Int) _ r149 hr150) (args2 rfl rfl)) rfl ?_ ?_
 rintro _ M151 _ hle152 ⟨_, ⟨rfl, rfl⟩, rfl⟩
 have h0_10 := h0_10.mono hle152
 refine ⟨(StabL.anc rfl (StabL.st (StabA.on 116 rfl rfl rfl hb148 (PO.loadBA (cs := (l26 a0.Word)) 1 ag26 sz26 rfl rfl rfl) rfl) (StabL.st (StabA.on 116 rfl rfl rfl hb148 (PO.fieldAddr fo28_14 hs91_1 rfl) rfl) (StabL.anc rfl (StabL.anc rfl (StabL.anc rfl (StabL.anc rfl (StabL.anc rfl (StabL.anc rfl (StabL.anc rfl (StabL.anc rfl (StabL.anc rfl (StabL.anc rfl (StabL.anc rfl trivial)))))))))))))), ?_⟩
 refine WT.a0 ?_
 obtain ⟨r154, hr155, h⟩ := bnd h
 refine WT.altOn 116 rfl rfl rfl hb148 (EO.call0 co66 (f_ref22_said_ok a0.Word r149 _ r154 hr155) (args2 rfl rfl)) rfl ?_ ?_
 rintro _ M156 _ hle157 ⟨_, ⟨rfl, rfl⟩, rfl⟩
 have h0_10 := h0_10.mono hle157
 refine ⟨(StabL.anc rfl (StabL.anc rfl (StabL.anc rfl (StabL.anc rfl (StabL.anc rfl (StabL.anc rfl (StabL.anc rfl (StabL.anc rfl (StabL.anc rfl (StabL.anc rfl (StabL.anc rfl (StabL.anc rfl (StabL.anc rfl (StabL.anc rfl trivial)))))))))))))), ?_⟩
 refine WT.a0 ?_
 refine Tn (.bool (!r154)) 116 rfl rfl rfl hb148 (PO.not rfl) rfl ?_
 refine Tp (.bool (!r154)) rfl (PO.pickF rfl hb148 rfl) rfl ?_
 refine WT.fin ?_
 obtain rfl := Option.some.inj h
 refine WQ.thenJ ?_
 exact ⟨(((((hle130.trans hle135).trans hle141).trans hle146).trans hle152).trans hle157), rfl, hs91_1, hs91_2, hs91_3, rfl⟩
 exact WT.no
 exact WT.no
 exact WT.no
 exact WT.no
 exact WT.no
 exact WT.no
 rintro ρ126 M126 H126 ⟨hle126, rfl, hs126_1, hs126_2, hs126_3, hs126_123⟩
 have h0_10 := h0_10.mono hle126
 refine WC.cond (b := x125) hs126_123 (fun hb159 => ?_) (fun hb159 => ?_)
 have h := ite_t hb159 h
 refine Sr ?_
 refine Pu (pt g21 11) (PO.fieldAddr fo28_11 hs126_1 rfl) rfl ?_
 refine Pu (.int .i64 a0.Broker) (PO.loadB 1 pl3 rfl rfl rfl) rfl ?_
 refine Pu (.agg #[(.string ⟨#[98, 114, 111, 107, 101, 114]⟩), (.int .i64 a0.Broker), (.int .i64 2)]) (PO.buildL (cl := [(.string ⟨#[98, 114, 111, 107, 101, 114]⟩), (.int .i64 a0.Broker), (.int .i64 2)]) ze37 fp37 (Parts.cons (congrArg Value.cells (show ev _ _ = (.string ⟨#[98, 114, 111, 107, 101, 114]⟩) from rfl)) (Parts.cons (congrArg Value.cells (show ev _ _ = (.int .i64 a0.Broker) from rfl)) (Parts.cons (congrArg Value.cells (show ev _ _ = (.int .i64 2) from rfl)) Parts.nil))) rfl) rfl ?_
 refine WL.eff (EO.storeL (v := (.agg #[(.string ⟨#[98, 114, 111, 107, 101, 114]⟩), (.int .i64 a0.Broker), (.int .i64 2)])) (vl := [(.string ⟨#[98, 114, 111, 107, 101, 114]⟩), (.int .i64 a0.Broker), (.int .i64 2)]) (arr' := [(.string ⟨#[98, 114, 111, 107, 101, 114]⟩), (.int .i64 a0.Broker), (.int .i64 2)]) rfl sz37 hs126_2 rfl (onesOf (Ones.cons rfl (Ones.cons rfl (Ones.cons rfl Ones.nil)))) rfl rfl rfl) rfl ?_
 rintro _ _ _ - ⟨rfl, rfl⟩
 refine Nt ?_
 refine WC.ret ?_
 refine WQ.thenR ?_
 refine WQ.f1 ?_
 refine WQ.drop ?_
 exact WQ.returnsD h [] (fun _ hs => hs.drop) (resultsL1 rfl (RV.cellA (cs := [(.string ⟨#[98, 114, 111, 107, 101, 114]⟩), (.int .i64 a0.Broker), (.int .i64 2)]) 0 ag37 sz37 hs126_2 rfl rfl)) (((((hle26.trans hle30).trans hle36).trans hle71).trans hle91).trans hle126) ⟨rfl, rfl⟩
 have h := ite_f hb159 h
 refine WC.skip ?_
 refine WQ.thenC ?_
 refine WC.seq ?_
 obtain ⟨x160, hj161, h⟩ := bnd h
 refine WC.joinF (fun (x160 : Bool) ρ' M' H' => M126.le M' ∧ [(g22, .cells #[(.string ⟨#[]⟩), (.int .i64 0), (.int .i64 0)] 37 (0, 0))] :: [(g21, .cells (l28 a0 v0_10).toArray 28 (0, 0))] :: F = H' ∧ ρ' 1 = (pt g21 0) ∧ ρ' 2 = (pt g22 0) ∧ ρ' 141 = (.bool x160)) x160 ?_ ?_
 have h3161 := h
 have h := hj161
 refine WC.region ?_
 refine Pu (pt g21 10) (PO.fieldAddr fo28_10 hs126_1 rfl) rfl ?_
 refine Pu v0_10 (PO.loadB 1 pl24 rfl rfl rfl) rfl ?_
 refine Pu (.int .i64 (a0.Ids.length : Int)) (PO.lenS Tryz.underlying24 rfl h0_10.len) rfl ?_
 refine Pu (.bool (decide ((0 : Int) < (a0.Ids.length : Int)))) (PO.gtr rfl rfl) rfl ?_
 refine Pm (.bool (decide ((0 : Int) < (a0.Ids.length : Int)))) rfl rfl ?_
 rcases Bool.eq_false_or_eq_true (decide ((0 : Int) < (a0.Ids.length : Int))) with hb162 | hb162
 have h := ite_t hb162 h
 refine On 131 rfl rfl hb162 ?_
 refine Pm (.int .i64 a0.Kind) hs126_3 rfl ?_
 refine On 131 rfl rfl hb162 ?_
 obtain ⟨r163, hr164, h⟩ := bnd h
 refine WL.eff (EO.call0 co33 (f_ref22_has_ok a0.Kind (105 : Int) _ r163 hr164) (args2 rfl rfl)) rfl ?_
 rintro _ M165 _ hle166 ⟨_, ⟨rfl, rfl⟩, rfl⟩
 have h0_10 := h0_10.mono hle166
 refine WL.a0 ?_
 refine On 131 rfl rfl hb162 ?_
 refine Pu (.bool (!r163)) (PO.not rfl) rfl ?_
 refine Pu (.bool (!r163)) (PO.pickT rfl hb162 rfl) rfl ?_
 refine Pm (.bool (!r163)) rfl rfl ?_
 rcases Bool.eq_false_or_eq_true (!r163) with hb168 | hb168
 have h := ite_t hb168 h
 iterate 4 refine Of 136 rfl rfl hb168 rfl ?_
 refine Pu (.bool true) (PO.pickT rfl hb168 rfl) rfl ?_
 refine WL.nil ?_
 obtain rfl := Option.some.inj h
 refine WQ.thenJ ?_
 exact ⟨hle166, rfl, hs126_1, hs126_2, rfl⟩
 have h := ite_f hb168 h
 refine On 136 rfl rfl hb168 ?_
 refine Pu (pt g21 10) (PO.fieldAddr fo28_10 hs126_1 rfl) rfl ?_
 refine On 136 rfl rfl hb168 ?_
 refine Pu v0_10 (PO.loadB 1 pl24 rfl rfl rfl) rfl ?_
 refine On 136 rfl rfl hb168 ?_
 obtain ⟨r169, hr170, h⟩ := bnd h
 refine WL.eff (EO.call0 co67 (f_ref05_Brokers_ok a0.Ids _ _ h0_10 r169 hr170) (args1 rfl)) rfl ?_
 rintro _ M171 _ hle172 ⟨_, ⟨rfl, rfl⟩, rfl⟩
 have h0_10 := h0_10.mono hle172
 refine WL.a0 ?_
 refine On 136 rfl rfl hb168 ?_
 refine Pu (.bool (!r169)) (PO.not rfl) rfl ?_
 refine Pu (.bool (!r169)) (PO.pickF rfl hb168 rfl) rfl ?_
 refine WL.nil ?_
 obtain rfl := Option.some.inj h
 refine WQ.thenJ ?_
 exact ⟨(hle166.trans hle172), rfl, hs126_1, hs126_2, rfl⟩
 have h := ite_f hb162 h
 iterate 3 refine Of 131 rfl rfl hb162 rfl ?_
 refine Pu (.bool false) (PO.pickF rfl hb162 rfl) rfl ?_
 refine Pm (.bool false) rfl rfl ?_
 refine On 136 rfl rfl rfl ?_
 refine Pu (pt g21 10) (PO.fieldAddr fo28_10 hs126_1 rfl) rfl ?_
 refine On 136 rfl rfl rfl ?_
 refine Pu v0_10 (PO.loadB 1 pl24 rfl rfl rfl) rfl ?_
 refine On 136 rfl rfl rfl ?_
 obtain ⟨r174, hr175, h⟩ := bnd h
 refine WL.eff (EO.call0 co67 (f_ref05_Brokers_ok a0.Ids _ _ h0_10 r174 hr175) (args1 rfl)) rfl ?_
 rintro _ M176 _ hle177 ⟨_, ⟨rfl, rfl⟩, rfl⟩
 have h0_10 := h0_10.mono hle177
 refine WL.a0 ?_
 refine On 136 rfl rfl rfl ?_
 refine Pu (.bool (!r174)) (PO.not rfl) rfl ?_
 refine Pu (.bool (!r174)) (PO.pickF rfl rfl rfl) rfl ?_
 refine WL.nil ?_
 obtain rfl := Option.some.inj h
 refine WQ.thenJ ?_
 exact ⟨hle177, rfl, hs126_1, hs126_2, rfl⟩
 rintro ρ161 M161 H161 ⟨hle161, rfl, hs161_1, hs161_2, hs161_141⟩
 have h0_10 := h0_10.mono hle161
 refine WC.cond (b := x160) hs161_141 (fun hb179 => ?_) (fun hb179 => ?_)
 have h := ite_t hb179 h
 refine Sr ?_
 refine Pu (pt g21 10) (PO.fieldAddr fo28_10 hs161_1 rfl) rfl ?_
 refine Pu v0_10 (PO.loadB 1 pl24 rfl rfl rfl) rfl ?_
 refine Pu (.int .i64 (a0.Ids.length : Int)) (PO.lenS Tryz.underlying24 rfl h0_10.len) rfl ?_
 refine Pu (.agg #[(.string ⟨#[105, 100, 115]⟩), (.int .i64 (a0.Ids.length : Int)), (.int .i64 18)]) (PO.buildL (cl := [(.string ⟨#[105, 100, 115]⟩), (.int .i64 (a0.Ids.length : Int)), (.int .i64 18)]) ze37 fp37 (Parts.cons (congrArg Value.cells (show ev _ _ = (.string ⟨#[105, 100, 115]⟩) from rfl)) (Parts.cons (congrArg Value.cells (show ev _ _ = (.int .i64 (a0.Ids.length : Int)) from rfl)) (Parts.cons (congrArg Value.cells (show ev _ _ = (.int .i64 18) from rfl)) Parts.nil))) rfl) rfl ?_
 refine WL.eff (EO.storeL (v := (.agg #[(.string ⟨#[105, 100, 115]⟩), (.int .i64 (a0.Ids.length : Int)), (.int .i64 18)])) (vl := [(.string ⟨#[105, 100, 115]⟩), (.int .i64 (a0.Ids.length : Int)), (.int .i64 18)]) (arr' := [(.string ⟨#[105, 100, 115]⟩), (.int .i64 (a0.Ids.length : Int)), (.int .i64 18)]) rfl sz37 hs161_2 rfl (onesOf (Ones.cons rfl (Ones.cons rfl (Ones.cons rfl Ones.nil)))) rfl rfl rfl) rfl ?_
 rintro _ _ _ - ⟨rfl, rfl⟩
 refine Nt ?_
 refine WC.ret ?_
 refine WQ.thenR ?_
 refine WQ.f1 ?_
 refine WQ.drop ?_
 exact WQ.returnsD h [] (fun _ hs => hs.drop) (resultsL1 rfl (RV.cellA (cs := [(.string ⟨#[105, 100, 115]⟩), (.int .i64 (a0.Ids.length : Int)), (.int .i64 18)]) 0 ag37 sz37 hs161_2 rfl rfl)) ((((((hle26.trans hle30).trans hle36).trans hle71).trans hle91).trans hle126).trans hle161) ⟨rfl, rfl⟩
 have h := ite_f hb179 h
 refine WC.skip ?_
 refine WQ.thenC ?_
 refine Sr ?_
 refine Pu (.agg #[(.string ⟨#[]⟩), (.int .i64 0), (.int .i64 0)]) (PO.buildL (cl := [(.string ⟨#[]⟩), (.int .i64 0), (.int .i64 0)]) ze37 fp37 Parts.nil rfl) rfl ?_
 refine WL.eff (EO.storeL (v := (.agg #[(.string ⟨#[]⟩), (.int .i64 0), (.int .i64 0)])) (vl := [(.string ⟨#[]⟩), (.int .i64 0), (.int .i64 0)]) (arr' := [(.string ⟨#[]⟩), (.int .i64 0), (.int .i64 0)]) rfl sz37 hs161_2 rfl (onesOf (Ones.cons rfl (Ones.cons rfl (Ones.cons rfl Ones.nil)))) rfl rfl rfl) rfl ?_
 rintro _ _ _ - ⟨rfl, rfl⟩
 refine Nt ?_
 refine WC.ret ?_
 refine WQ.f1 ?_
 refine WQ.drop ?_
 exact WQ.returnsD h [] (fun _ hs => hs.drop) (resultsL1 rfl (RV.cellA (cs := [(.string ⟨#[]⟩), (.int .i64 0), (.int .i64 0)]) 0 ag37 sz37 hs161_2 rfl rfl)) ((((((hle26.trans hle30).trans hle36).trans hle71).trans hle91).trans hle126).trans hle161) ⟨rfl, rfl⟩


end Go.Proofs.YtjgnbbakamellaaGreatDoor.G
