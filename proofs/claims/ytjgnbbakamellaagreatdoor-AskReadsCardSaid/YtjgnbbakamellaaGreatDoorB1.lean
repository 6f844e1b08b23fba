/- Go functions: what they come to, and that they do. Printed by a program of the session (gen). -/
import Derived.Test.YtjgnbbakamellaaGreatDoorBF
import Derived.Test.YtjgnbbakamellaaGreatDoorB0
import Derived.Test.YtjgnbbakamellaaGreatDoorKConv
import Derived.Test.YtjgnbbakamellaaGreatDoorKEq2
set_option linter.unusedVariables false
set_option linter.unusedSimpArgs false
set_option maxHeartbeats 8000000
set_option maxRecDepth 100000
namespace Go.Proofs.YtjgnbbakamellaaGreatDoor.G
open Go Go.KK

noncomputable def f_ask_Check (a0 : T_api_Request) : Option GErr :=
  ((f_ask_about a0.Kind).bind fun (r22 : Int) => (if (decide (r22 < (0 : Int))) = true then ((f_fault_New (⟨#[107, 105, 110, 100]⟩ : ByteArray) a0.Kind (5 : Int)).bind fun (r29 : GErr) => (some r29)) else (((if (decide (a0.Client < (1 : Int))) = true then (some true) else (if (decide ((1073741824 : Int) < a0.Client)) = true then (some true) else (if (decide (a0.Serial < (1 : Int))) = true then (some true) else (some (decide ((1073741824 : Int) < a0.Serial)))))) : Option Bool).bind fun (x34 : Bool) => (if x34 = true then ((f_fault_New (⟨#[99, 108, 105, 101, 110, 116]⟩ : ByteArray) a0.Client (2 : Int)).bind fun (r40 : GErr) => (some r40)) else ((((f_ask_Check_1 (1 : Int) r22).bind fun (r47 : Bool) => ((f_ask_text a0.Name r47 (40 : Int)).bind fun (r52 : Bool) => (if (!r52) = true then (some true) else ((f_ask_Check_1 (2 : Int) r22).bind fun (r58 : Bool) => ((f_ask_text a0.Key r58 (40 : Int)).bind fun (r63 : Bool) => (if (!r63) = true then (some true) else ((f_ask_Check_1 (256 : Int) r22).bind fun (r69 : Bool) => ((f_ask_text a0.Rack r69 (40 : Int)).bind fun (r74 : Bool) => (some (!r74)))))))))) : Option Bool).bind fun (x45 : Bool) => (if x45 = true then ((f_fault_New (⟨#[110, 97, 109, 101]⟩ : ByteArray) (a0.Name.size : Int) (6 : Int)).bind fun (r80 : GErr) => (some r80)) else ((((f_ask_Check_1 (2 : Int) r22).bind fun (r87 : Bool) => ((f_ask_text a0.Value r87 (256 : Int)).bind fun (r92 : Bool) => (if (!r92) = true then (some true) else ((f_ask_Check_1 (2 : Int) r22).bind fun (r98 : Bool) => (if (!r98) = true then (some a0.Flag) else (some false)))))) : Option Bool).bind fun (x85 : Bool) => (if x85 = true then ((f_fault_New (⟨#[118, 97, 108, 117, 101]⟩ : ByteArray) (a0.Value.size : Int) (6 : Int)).bind fun (r105 : GErr) => (some r105)) else ((((f_ask_Check_1 (4 : Int) r22).bind fun (r112 : Bool) => ((f_ask_number a0.Parts r112 (256 : Int)).bind fun (r117 : Bool) => (if (!r117) = true then (some true) else ((f_ask_Check_1 (8 : Int) r22).bind fun (r123 : Bool) => ((f_ask_number a0.Replicas r123 (7 : Int)).bind fun (r128 : Bool) => (if (!r128) = true then (some true) else ((f_ask_Check_1 (16 : Int) r22).bind fun (r134 : Bool) => ((f_ask_number a0.Part r134 (256 : Int)).bind fun (r139 : Bool) => (some (!r139)))))))))) : Option Bool).bind fun (x110 : Bool) => (if x110 = true then ((f_fault_New (⟨#[110, 117, 109, 98, 101, 114]⟩ : ByteArray) a0.Parts (2 : Int)).bind fun (r145 : GErr) => (some r145)) else ((((f_ask_Check_1 (64 : Int) r22).bind fun (r152 : Bool) => ((f_ask_number a0.Broker r152 (64 : Int)).bind fun (r157 : Bool) => (if (!r157) = true then (some true) else ((f_ask_Check_1 (128 : Int) r22).bind fun (r163 : Bool) => ((f_ask_number a0.Epoch r163 (1073741824 : Int)).bind fun (r168 : Bool) => (if (!r168) = true then (some true) else ((f_ask_Check_1 (512 : Int) r22).bind fun (r174 : Bool) => ((f_ask_said a0.Word r174).bind fun (r179 : Bool) => (some (!r179)))))))))) : Option Bool).bind fun (x150 : Bool) => (if x150 = true then ((f_fault_New (⟨#[98, 114, 111, 107, 101, 114]⟩ : ByteArray) a0.Broker (2 : Int)).bind fun (r185 : GErr) => (some r185)) else ((((f_ask_Check_1 (32 : Int) r22).bind fun (r192 : Bool) => (if (!r192) = true then (if (decide ((0 : Int) < (a0.Ids.length : Int))) = true then (some true) else ((f_record_Brokers a0.Ids).bind fun (r199 : Bool) => (some (!r199)))) else ((f_record_Brokers a0.Ids).bind fun (r204 : Bool) => (some (!r204))))) : Option Bool).bind fun (x190 : Bool) => (if x190 = true then ((f_fault_New (⟨#[105, 100, 115]⟩ : ByteArray) (a0.Ids.length : Int) (18 : Int)).bind fun (r210 : GErr) => (some r210)) else (some GErr.nil)))))))))))))))
def f_ask_Check_post (a0 : T_api_Request) (v0_10 : Value) : GErr → Value → IM → HL → Prop :=
  fun (r0 : GErr) (v : Value) (M' : IM) (H' : HL) => (GV r0) = v ∧ H' = []
theorem f_ask_Check_ok (a0 : T_api_Request) (M : IM) (v0_10 : Value) (h0_10 : RS (Kd.int .i64) M v0_10 a0.Ids) (res : GErr) (h : f_ask_Check a0 = some res) :
    Tri Tryz.prog 15 #[(a28_ a0 v0_10)] M [] (f_ask_Check_post a0 v0_10 res) := by
 unfold f_ask_Check at h
 refine Tri.enter (fn := Tryz.f15) Tryz.func15 rfl (Nat.le_of_ble_eq_true rfl) ?_
 intro F ρ hρ
 refine Sr ?_
 refine WL.eff (EO.box (cs := (l28 a0 v0_10).toArray) (congrArg Value.cells (asE (a28_ a0 v0_10) (hρ 0)))) rfl ?_
 rintro _ _ _ - ⟨rfl, g21, rfl, rfl⟩
 refine Pa (GV GErr.nil) rfl rfl ?_
 refine Ns ?_
 refine Pu (pt g21 2) (PO.fieldAddr fo28_2 rfl rfl) rfl ?_
 refine Pu (.int .i64 a0.Kind) (PO.loadB 0 pl3 rfl rfl rfl) rfl ?_
 obtain ⟨r22, hr23, h⟩ := bnd h
 refine WL.eff (EO.call0 co21 (f_ask_about_ok a0.Kind _ r22 hr23) (args1 rfl)) rfl ?_
 rintro _ M24 _ hle25 ⟨_, ⟨rfl, rfl⟩, rfl⟩
 have h0_10 := h0_10.mono hle25
 refine WL.a0 ?_
 refine WL.eff (EO.alloc ze3 rfl) rfl ?_
 rintro _ _ _ - ⟨rfl, g27, rfl, rfl⟩
 refine WL.eff (EO.storeL (v := (.int .i64 r22)) (vl := [(.int .i64 r22)]) (arr' := [(.int .i64 r22)]) rfl sz3 rfl rfl (onesOf (Ones.cons rfl Ones.nil)) rfl rfl rfl) rfl ?_
 rintro _ _ _ - ⟨rfl, rfl⟩
 refine Nt ?_
 refine WC.seq ?_
 refine Sr ?_
 refine Pu (.int .i64 r22) (PO.loadB 0 pl3 rfl rfl rfl) rfl ?_
 refine Pu (.bool (decide (r22 < 0))) (PO.lss rfl rfl) rfl ?_
 refine Nt ?_
 refine WC.cond (b := decide (r22 < 0)) rfl (fun hb28 => ?_) (fun hb28 => ?_)
 have h := ite_t hb28 h
 refine Sr ?_
 refine Pu (pt g21 2) (PO.fieldAddr fo28_2 rfl rfl) rfl ?_
 refine Pu (.int .i64 a0.Kind) (PO.loadB 1 pl3 rfl rfl rfl) rfl ?_
 obtain ⟨r29, hr30, h⟩ := bnd h
 refine WL.eff (EO.call0 co17 (f_fault_New_ok (⟨#[107, 105, 110, 100]⟩ : ByteArray) a0.Kind (5 : Int) _ r29 hr30) (args3 rfl rfl rfl)) rfl ?_
 rintro _ M31 _ hle32 ⟨_, ⟨rfl, rfl⟩, rfl⟩
 have h0_10 := h0_10.mono hle32
 refine WL.a0 ?_
 refine Pa (GV r29) rfl rfl ?_
 refine Nt ?_
 refine WC.ret ?_
 refine WQ.thenR ?_
 refine WQ.drop ?_
 refine WQ.drop ?_
 exact WQ.returnsF h [] rfl (results1 rfl rfl) (hle25.trans hle32) ⟨rfl, rfl⟩
 have h := ite_f hb28 h
 refine WC.skip ?_
 refine WQ.thenC ?_
 refine Sr ?_
 refine Pu (.func (.func 53) #[] #[(pt g27 0)]) (PO.makeFunc2 (args0) (args1 (show ev _ _ = (pt g27 0) from rfl))) rfl ?_
 refine Pa (.func (.func 53) #[] #[(pt g27 0)]) rfl rfl ?_
 refine Nt ?_
 refine WC.seq ?_
 refine WC.block ?_
 obtain ⟨x34, hj35, h⟩ := bnd h
 refine WC.joinF (fun (x34 : Bool) ρ' M' H' => M24.le M' ∧ [(g27, .cells #[(.int .i64 r22)] 3 (0, 0))] :: [(g21, .cells (l28 a0 v0_10).toArray 28 (0, 0))] :: F = H' ∧ ρ' 1 = (pt g21 0) ∧ ρ' 4 = (.func (.func 53) #[] #[(pt g27 0)]) ∧ ρ' 14 = (.bool x34)) x34 ?_ ?_
 have h335 := h
 have h := hj35
 refine WC.region ?_
 refine Pu (pt g21 0) (PO.fieldAddr fo28_0 rfl rfl) rfl ?_
 refine Pu (.int .i64 a0.Client) (PO.loadB 1 pl3 rfl rfl rfl) rfl ?_
 refine Pu (.bool (decide (a0.Client < 1))) (PO.lss rfl rfl) rfl ?_
 refine Pm (.bool (decide (a0.Client < 1))) rfl rfl ?_
 rcases Bool.eq_false_or_eq_true (decide (a0.Client < 1)) with hb36 | hb36
 have h := ite_t hb36 h
 iterate 3 refine Of 18 rfl rfl hb36 rfl ?_
 refine Pu (.bool true) (PO.pickT rfl hb36 rfl) rfl ?_
 refine Pm (.bool true) rfl rfl ?_
 iterate 3 refine Of 23 rfl rfl rfl rfl ?_
 refine Pu (.bool true) (PO.pickT rfl rfl rfl) rfl ?_
 refine Pm (.bool true) rfl rfl ?_
 iterate 3 refine Of 28 rfl rfl rfl rfl ?_
 refine Pu (.bool true) (PO.pickT rfl rfl rfl) rfl ?_
 refine Pa (.bool true) rfl rfl ?_
 refine WL.nil ?_
 obtain rfl := Option.some.inj h
 refine WQ.thenJ ?_
 exact ⟨(IM.le.refl _), rfl, rfl, rfl, rfl⟩
 have h := ite_f hb36 h
 refine On 18 rfl rfl hb36 ?_
 refine Pu (pt g21 0) (PO.fieldAddr fo28_0 rfl rfl) rfl ?_
 refine On 18 rfl rfl hb36 ?_
 refine Pu (.int .i64 a0.Client) (PO.loadB 1 pl3 rfl rfl rfl) rfl ?_
 refine On 18 rfl rfl hb36 ?_
 refine Pu (.bool (decide ((1073741824 : Int) < a0.Client))) (PO.gtr rfl rfl) rfl ?_
 refine Pu (.bool (decide ((1073741824 : Int) < a0.Client))) (PO.pickF rfl hb36 rfl) rfl ?_
 refine Pm (.bool (decide ((1073741824 : Int) < a0.Client))) rfl rfl ?_
 rcases Bool.eq_false_or_eq_true (decide ((1073741824 : Int) < a0.Client)) with hb37 | hb37
 have h := ite_t hb37 h
 iterate 3 refine Of 23 rfl rfl hb37 rfl ?_
 refine Pu (.bool true) (PO.pickT rfl hb37 rfl) rfl ?_
 refine Pm (.bool true) rfl rfl ?_
 iterate 3 refine Of 28 rfl rfl rfl rfl ?_
 refine Pu (.bool true) (PO.pickT rfl rfl rfl) rfl ?_
 refine Pa (.bool true) rfl rfl ?_
 refine WL.nil ?_
 obtain rfl := Option.some.inj h
 refine WQ.thenJ ?_
 exact ⟨(IM.le.refl _), rfl, rfl, rfl, rfl⟩
 have h := ite_f hb37 h
 refine On 23 rfl rfl hb37 ?_
 refine Pu (pt g21 1) (PO.fieldAddr fo28_1 rfl rfl) rfl ?_
 refine On 23 rfl rfl hb37 ?_
 refine Pu (.int .i64 a0.Serial) (PO.loadB 1 pl3 rfl rfl rfl) rfl ?_
 refine On 23 rfl rfl hb37 ?_
 refine Pu (.bool (decide (a0.Serial < 1))) (PO.lss rfl rfl) rfl ?_
 refine Pu (.bool (decide (a0.Serial < 1))) (PO.pickF rfl hb37 rfl) rfl ?_
 refine Pm (.bool (decide (a0.Serial < 1))) rfl rfl ?_
 rcases Bool.eq_false_or_eq_true (decide (a0.Serial < 1)) with hb38 | hb38
 have h := ite_t hb38 h
 iterate 3 refine Of 28 rfl rfl hb38 rfl ?_
 refine Pu (.bool true) (PO.pickT rfl hb38 rfl) rfl ?_
 refine Pa (.bool true) rfl rfl ?_
 refine WL.nil ?_
 obtain rfl := Option.some.inj h
 refine WQ.thenJ ?_
 exact ⟨(IM.le.refl _), rfl, rfl, rfl, rfl⟩
 have h := ite_f hb38 h
 refine On 28 rfl rfl hb38 ?_
 refine Pu (pt g21 1) (PO.fieldAddr fo28_1 rfl rfl) rfl ?_
 refine On 28 rfl rfl hb38 ?_
 refine Pu (.int .i64 a0.Serial) (PO.loadB 1 pl3 rfl rfl rfl) rfl ?_
 refine On 28 rfl rfl hb38 ?_
 refine Pu (.bool (decide ((1073741824 : Int) < a0.Serial))) (PO.gtr rfl rfl) rfl ?_
 refine Pu (.bool (decide ((1073741824 : Int) < a0.Serial))) (PO.pickF rfl hb38 rfl) rfl ?_
 refine Pa (.bool (decide ((1073741824 : Int) < a0.Serial))) rfl rfl ?_
 refine WL.nil ?_
 obtain rfl := Option.some.inj h
 refine WQ.thenJ ?_
 exact ⟨(IM.le.refl _), rfl, rfl, rfl, rfl⟩
 rintro ρ35 M35 H35 ⟨hle35, rfl, hs35_1, hs35_4, hs35_14⟩
 have h0_10 := h0_10.mono hle35
 refine WC.cond (b := x34) hs35_14 (fun hb39 => ?_) (fun hb39 => ?_)
 have h := ite_t hb39 h
 refine Sr ?_
 refine Pu (pt g21 0) (PO.fieldAddr fo28_0 hs35_1 rfl) rfl ?_
 refine Pu (.int .i64 a0.Client) (PO.loadB 1 pl3 rfl rfl rfl) rfl ?_
 obtain ⟨r40, hr41, h⟩ := bnd h
 refine WL.eff (EO.call0 co17 (f_fault_New_ok (⟨#[99, 108, 105, 101, 110, 116]⟩ : ByteArray) a0.Client (2 : Int) _ r40 hr41) (args3 rfl rfl rfl)) rfl ?_
 rintro _ M42 _ hle43 ⟨_, ⟨rfl, rfl⟩, rfl⟩
 have h0_10 := h0_10.mono hle43
 refine WL.a0 ?_
 refine Pa (GV r40) rfl rfl ?_
 refine Nt ?_
 refine WC.ret ?_
 refine WQ.blockR ?_
 refine WQ.thenR ?_
 refine WQ.drop ?_
 refine WQ.drop ?_
 exact WQ.returnsF h [] rfl (results1 rfl rfl) ((hle25.trans hle35).trans hle43) ⟨rfl, rfl⟩
 have h := ite_f hb39 h
 obtain ⟨x45, hj46, h⟩ := bnd h
 refine WC.joinF (fun (x45 : Bool) ρ' M' H' => M35.le M' ∧ [(g27, .cells #[(.int .i64 r22)] 3 (0, 0))] :: [(g21, .cells (l28 a0 v0_10).toArray 28 (0, 0))] :: F = H' ∧ ρ' 1 = (pt g21 0) ∧ ρ' 4 = (.func (.func 53) #[] #[(pt g27 0)]) ∧ ρ' 36 = (.bool x45)) x45 ?_ ?_
 have h346 := h
 have h := hj46
 refine WC.draw [0, 1, 0, 4, 15, 31, 63, 127, 255, 127, 639, 2047, 4095, 8191, 16383, 32767, 65535, 32767, 163839, 524287, 1048575, 2097151, 4194303] (.pure 0 (.pure 1 (.pure 2 (.alt 3 (.alt 4 (.pure 5 (.pure 6 (.pure 7 (.pure 8 (.pure 9 (.alt 10 (.alt 11 (.pure 12 (.pure 13 (.pure 14 (.pure 15 (.pure 16 (.pure 17 (.alt 18 (.alt 19 (.pure 20 (.pure 21 (.pure 22 .done))) .none) .none))))))) .none) .none)))))) .none) .none)))) mixed (by kernel_rfl) ?_
 refine Tp (pt g21 3) rfl (PO.fieldAddr fo28_3 hs35_1 rfl) rfl ?_
 refine Tp (.string a0.Name) rfl (PO.loadB 1 pl9 rfl rfl rfl) rfl ?_
 refine Tp (.func (.func 53) #[] #[(pt g27 0)]) rfl (PO.move hs35_4) rfl ?_
 obtain ⟨r47, hr48, h⟩ := bnd h
 refine WT.alt rfl (EO.callV1 (first := #[]) (cap := #[(pt g27 0)]) co53 rfl (f_ask_Check_1_ok (1 : Int) r22 _ _ r47 hr48) (argsV1 rfl rfl)) rfl ?_ ?_
 rintro _ M49 _ hle50 ⟨_, ⟨rfl, rfl⟩, rfl⟩
 have h0_10 := h0_10.mono hle50
 refine ⟨(StabL.anc rfl (StabL.st (StabA.of rfl (PO.loadB 1 pl9 rfl rfl rfl) rfl) (StabL.st (StabA.of rfl (PO.fieldAddr fo28_3 hs35_1 rfl) rfl) trivial))), ?_⟩
 refine WT.a1 ?_
 obtain ⟨r52, hr53, h⟩ := bnd h
 refine WT.alt rfl (EO.call0 co54 (f_ask_text_ok a0.Name r47 (40 : Int) _ r52 hr53) (args3 rfl rfl rfl)) rfl ?_ ?_
 rintro _ M54 _ hle55 ⟨_, ⟨rfl, rfl⟩, rfl⟩
 have h0_10 := h0_10.mono hle55
 refine ⟨(StabL.anc rfl (StabL.anc rfl (StabL.anc rfl trivial))), ?_⟩
 refine WT.a0 ?_
 refine Tp (.bool (!r52)) rfl (PO.not rfl) rfl ?_
 refine Tp (.bool (!r52)) rfl (PO.move rfl) rfl ?_
 rcases Bool.eq_false_or_eq_true (!r52) with hb57 | hb57
 have h := ite_t hb57 h
 refine WT.pureOff 43 rfl rfl rfl hb57 rfl ?_
 refine WT.pureOff 43 rfl rfl rfl hb57 rfl ?_
 refine WT.pureOff 43 rfl rfl rfl hb57 rfl ?_
 refine WT.altOff 43 rfl rfl rfl hb57 rfl ⟨(StabL.anc rfl (StabL.st (StabA.off 43 rfl rfl rfl hb57 rfl) (StabL.st (StabA.off 43 rfl rfl rfl hb57 rfl) (StabL.anc rfl (StabL.anc rfl (StabL.anc rfl (StabL.anc rfl (StabL.anc rfl trivial)))))))), ?_⟩ ?_
 refine WT.altOff 43 rfl rfl rfl hb57 rfl ⟨(StabL.anc rfl (StabL.anc rfl (StabL.anc rfl (StabL.anc rfl (StabL.anc rfl (StabL.anc rfl (StabL.anc rfl (StabL.anc rfl trivial)))))))), ?_⟩ ?_
 refine WT.pureOff 43 rfl rfl rfl hb57 rfl ?_
 refine Tp (.bool true) rfl (PO.pickT rfl hb57 rfl) rfl ?_
 refine Tp (.bool true) rfl (PO.move rfl) rfl ?_
 refine WT.pureOff 51 rfl rfl rfl rfl rfl ?_
 refine WT.pureOff 51 rfl rfl rfl rfl rfl ?_
 refine WT.pureOff 51 rfl rfl rfl rfl rfl ?_
 refine WT.altOff 51 rfl rfl rfl rfl rfl ⟨(StabL.anc rfl (StabL.st (StabA.off 51 rfl rfl rfl rfl rfl) (StabL.st (StabA.off 51 rfl rfl rfl rfl rfl) (StabL.anc rfl (StabL.anc rfl (StabL.anc rfl (StabL.anc rfl (StabL.anc rfl (StabL.anc rfl (StabL.anc rfl (StabL.anc rfl (StabL.anc rfl (StabL.anc rfl (StabL.anc rfl trivial)))))))))))))), ?_⟩ ?_
 refine WT.altOff 51 rfl rfl rfl rfl rfl ⟨(StabL.anc rfl (StabL.anc rfl (StabL.anc rfl (StabL.anc rfl (StabL.anc rfl (StabL.anc rfl (StabL.anc rfl (StabL.anc rfl (StabL.anc rfl (StabL.anc rfl (StabL.anc rfl (StabL.anc rfl (StabL.anc rfl (StabL.anc rfl trivial)))))))))))))), ?_⟩ ?_
 refine WT.pureOff 51 rfl rfl rfl rfl rfl ?_
 refine Tp (.bool true) rfl (PO.pickT rfl rfl rfl) rfl ?_
 refine Tp (.bool true) rfl (PO.assign rfl) rfl ?_
 refine WT.fin ?_
 obtain rfl := Option.some.inj h
 refine WQ.thenJ ?_
 exact ⟨(hle50.trans hle55), rfl, hs35_1, hs35_4, rfl⟩
 exact WT.no
 exact WT.no
 exact WT.no
 exact WT.no
 have h := ite_f hb57 h
 refine Tn (pt g21 4) 43 rfl rfl rfl hb57 (PO.fieldAddr fo28_4 hs35_1 rfl) rfl ?_
 refine Tn (.string a0.Key) 43 rfl rfl rfl hb57 (PO.loadB 1 pl9 rfl rfl rfl) rfl ?_
 refine Tn (.func (.func 53) #[] #[(pt g27 0)]) 43 rfl rfl rfl hb57 (PO.move hs35_4) rfl ?_
 obtain ⟨r58, hr59, h⟩ := bnd h
 refine WT.altOn 43 rfl rfl rfl hb57 (EO.callV1 (first := #[]) (cap := #[(pt g27 0)]) co53 rfl (f_ask_Check_1_ok (2 : Int) r22 _ _ r58 hr59) (argsV1 rfl rfl)) rfl ?_ ?_
 rintro _ M60 _ hle61 ⟨_, ⟨rfl, rfl⟩, rfl⟩
 have h0_10 := h0_10.mono hle61
 refine ⟨(StabL.anc rfl (StabL.st (StabA.on 43 rfl rfl rfl hb57 (PO.loadB 1 pl9 rfl rfl rfl) rfl) (StabL.st (StabA.on 43 rfl rfl rfl hb57 (PO.fieldAddr fo28_4 hs35_1 rfl) rfl) (StabL.anc rfl (StabL.anc rfl (StabL.anc rfl (StabL.anc rfl (StabL.anc rfl trivial)))))))), ?_⟩
 refine WT.a1 ?_
 obtain ⟨r63, hr64, h⟩ := bnd h
 refine WT.altOn 43 rfl rfl rfl hb57 (EO.call0 co54 (f_ask_text_ok a0.Key r58 (40 : Int) _ r63 hr64) (args3 rfl rfl rfl)) rfl ?_ ?_
 rintro _ M65 _ hle66 ⟨_, ⟨rfl, rfl⟩, rfl⟩
 have h0_10 := h0_10.mono hle66
 refine ⟨(StabL.anc rfl (StabL.anc rfl (StabL.anc rfl (StabL.anc rfl (StabL.anc rfl (StabL.anc rfl (StabL.anc rfl (StabL.anc rfl trivial)))))))), ?_⟩
 refine WT.a0 ?_
 refine Tn (.bool (!r63)) 43 rfl rfl rfl hb57 (PO.not rfl) rfl ?_
 refine Tp (.bool (!r63)) rfl (PO.pickF rfl hb57 rfl) rfl ?_
 refine Tp (.bool (!r63)) rfl (PO.move rfl) rfl ?_
 rcases Bool.eq_false_or_eq_true (!r63) with hb68 | hb68
 have h := ite_t hb68 h
 refine WT.pureOff 51 rfl rfl rfl hb68 rfl ?_
 refine WT.pureOff 51 rfl rfl rfl hb68 rfl ?_
 refine WT.pureOff 51 rfl rfl rfl hb68 rfl ?_
 refine WT.altOff 51 rfl rfl rfl hb68 rfl ⟨(StabL.anc rfl (StabL.st (StabA.off 51 rfl rfl rfl hb68 rfl) (StabL.st (StabA.off 51 rfl rfl rfl hb68 rfl) (StabL.anc rfl (StabL.anc rfl (StabL.anc rfl (StabL.anc rfl (StabL.anc rfl (StabL.anc rfl (StabL.anc rfl (StabL.anc rfl (StabL.anc rfl (StabL.anc rfl (StabL.anc rfl trivial)))))))))))))), ?_⟩ ?_
 refine WT.altOff 51 rfl rfl rfl hb68 rfl ⟨(StabL.anc rfl (StabL.anc rfl (StabL.anc rfl (StabL.anc rfl (StabL.anc rfl (StabL.anc rfl (StabL.anc rfl (StabL.anc rfl (StabL.anc rfl (StabL.anc rfl (StabL.anc rfl (StabL.anc rfl (StabL.anc rfl (StabL.anc rfl trivial)))))))))))))), ?_⟩ ?_
 refine WT.pureOff 51 rfl rfl rfl hb68 rfl ?_
 refine Tp (.bool true) rfl (PO.pickT rfl hb68 rfl) rfl ?_
 refine Tp (.bool true) rfl (PO.assign rfl) rfl ?_
 refine WT.fin ?_
 obtain rfl := Option.some.inj h
 refine WQ.thenJ ?_
 exact ⟨(((hle50.trans hle55).trans hle61).trans hle66), rfl, hs35_1, hs35_4, rfl⟩
 exact WT.no
 exact WT.no
 have h := ite_f hb68 h
 refine Tn (pt g21 13) 51 rfl rfl rfl hb68 (PO.fieldAddr fo28_13 hs35_1 rfl) rfl ?_
 refine Tn (.string a0.Rack) 51 rfl rfl rfl hb68 (PO.loadB 1 pl9 rfl rfl rfl) rfl ?_
 refine Tn (.func (.func 53) #[] #[(pt g27 0)]) 51 rfl rfl rfl hb68 (PO.move hs35_4) rfl ?_
 obtain ⟨r69, hr70, h⟩ := bnd h
 refine WT.altOn 51 rfl rfl rfl hb68 (EO.callV1 (first := #[]) (cap := #[(pt g27 0)]) co53 rfl (f_ask_Check_1_ok (256 : Int) r22 _ _ r69 hr70) (argsV1 rfl rfl)) rfl ?_ ?_
 rintro _ M71 _ hle72 ⟨_, ⟨rfl, rfl⟩, rfl⟩
 have h0_10 := h0_10.mono hle72
 refine ⟨(StabL.anc rfl (StabL.st (StabA.on 51 rfl rfl rfl hb68 (PO.loadB 1 pl9 rfl rfl rfl) rfl) (StabL.st (StabA.on 51 rfl rfl rfl hb68 (PO.fieldAddr fo28_13 hs35_1 rfl) rfl) (StabL.anc rfl (StabL.anc rfl (StabL.anc rfl (StabL.anc rfl (StabL.anc rfl (StabL.anc rfl (StabL.anc rfl (StabL.anc rfl (StabL.anc rfl (StabL.anc rfl (StabL.anc rfl trivial)))))))))))))), ?_⟩
 refine WT.a1 ?_
 obtain ⟨r74, hr75, h⟩ := bnd h
 refine WT.altOn 51 rfl rfl rfl hb68 (EO.call0 co54 (f_ask_text_ok a0.Rack r69 (40 : Int) _ r74 hr75) (args3 rfl rfl rfl)) rfl ?_ ?_
 rintro _ M76 _ hle77 ⟨_, ⟨rfl, rfl⟩, rfl⟩
 have h0_10 := h0_10.mono hle77
 refine ⟨(StabL.anc rfl (StabL.anc rfl (StabL.anc rfl (StabL.anc rfl (StabL.anc rfl (StabL.anc rfl (StabL.anc rfl (StabL.anc rfl (StabL.anc rfl (StabL.anc rfl (StabL.anc rfl (StabL.anc rfl (StabL.anc rfl (StabL.anc rfl trivial)))))))))))))), ?_⟩
 refine WT.a0 ?_
 refine Tn (.bool (!r74)) 51 rfl rfl rfl hb68 (PO.not rfl) rfl ?_
 refine Tp (.bool (!r74)) rfl (PO.pickF rfl hb68 rfl) rfl ?_
 refine Tp (.bool (!r74)) rfl (PO.assign rfl) rfl ?_
 refine WT.fin ?_
 obtain rfl := Option.some.inj h
 refine WQ.thenJ ?_
 exact ⟨(((((hle50.trans hle55).trans hle61).trans hle66).trans hle72).trans hle77), rfl, hs35_1, hs35_4, rfl⟩
 exact WT.no
 exact WT.no
 exact WT.no
 exact WT.no
 exact WT.no
 exact WT.no
 rintro ρ46 M46 H46 ⟨hle46, rfl, hs46_1, hs46_4, hs46_36⟩
 have h0_10 := h0_10.mono hle46
 refine WC.cond (b := x45) hs46_36 (fun hb79 => ?_) (fun hb79 => ?_)
 have h := ite_t hb79 h
 refine Sr ?_
 refine Pu (pt g21 3) (PO.fieldAddr fo28_3 hs46_1 rfl) rfl ?_
 refine Pu (.string a0.Name) (PO.loadB 1 pl9 rfl rfl rfl) rfl ?_
 refine Pu (.int .i64 (a0.Name.size : Int)) (PO.lenStr Tryz.underlying9 rfl) rfl ?_
 obtain ⟨r80, hr81, h⟩ := bnd h
 refine WL.eff (EO.call0 co17 (f_fault_New_ok (⟨#[110, 97, 109, 101]⟩ : ByteArray) (a0.Name.size : Int) (6 : Int) _ r80 hr81) (args3 rfl rfl rfl)) rfl ?_
 rintro _ M82 _ hle83 ⟨_, ⟨rfl, rfl⟩, rfl⟩
 have h0_10 := h0_10.mono hle83
 refine WL.a0 ?_
 refine Pa (GV r80) rfl rfl ?_
 refine Nt ?_
 refine WC.ret ?_
 refine WQ.blockR ?_
 refine WQ.thenR ?_
 refine WQ.drop ?_
 refine WQ.drop ?_
 exact WQ.returnsF h [] rfl (results1 rfl rfl) (((hle25.trans hle35).trans hle46).trans hle83) ⟨rfl, rfl⟩
 have h := ite_f hb79 h
 obtain ⟨x85, hj86, h⟩ := bnd h
 refine WC.joinF (fun (x85 : Bool) ρ' M' H' => M46.le M' ∧ [(g27, .cells #[(.int .i64 r22)] 3 (0, 0))] :: [(g21, .cells (l28 a0 v0_10).toArray 28 (0, 0))] :: F = H' ∧ ρ' 1 = (pt g21 0) ∧ ρ' 4 = (.func (.func 53) #[] #[(pt g27 0)]) ∧ ρ' 63 = (.bool x85)) x85 ?_ ?_
 have h386 := h
 have h := hj86
 refine WC.draw [0, 1, 0, 4, 15, 31, 63, 127, 255, 511, 1023, 2047, 4095, 8191, 16383, 32767] (.pure 0 (.pure 1 (.pure 2 (.alt 3 (.alt 4 (.pure 5 (.pure 6 (.pure 7 (.alt 8 (.pure 9 (.pure 10 (.pure 11 (.pure 12 (.pure 13 (.pure 14 (.pure 15 .done))))))) .none)))) .none) .none)))) mixed (by kernel_rfl) ?_
 refine Tp (pt g21 5) rfl (PO.fieldAddr fo28_5 hs46_1 rfl) rfl ?_
 refine Tp (.string a0.Value) rfl (PO.loadB 1 pl9 rfl rfl rfl) rfl ?_
 refine Tp (.func (.func 53) #[] #[(pt g27 0)]) rfl (PO.move hs46_4) rfl ?_
 obtain ⟨r87, hr88, h⟩ := bnd h
 refine WT.alt rfl (EO.callV1 (first := #[]) (cap := #[(pt g27 0)]) co53 rfl (f_ask_Check_1_ok (2 : Int) r22 _ _ r87 hr88) (argsV1 rfl rfl)) rfl ?_ ?_
 rintro _ M89 _ hle90 ⟨_, ⟨rfl, rfl⟩, rfl⟩
 have h0_10 := h0_10.mono hle90
 refine ⟨(StabL.anc rfl (StabL.st (StabA.of rfl (PO.loadB 1 pl9 rfl rfl rfl) rfl) (StabL.st (StabA.of rfl (PO.fieldAddr fo28_5 hs46_1 rfl) rfl) trivial))), ?_⟩
 refine WT.a1 ?_
 obtain ⟨r92, hr93, h⟩ := bnd h
 refine WT.alt rfl (EO.call0 co54 (f_ask_text_ok a0.Value r87 (256 : Int) _ r92 hr93) (args3 rfl rfl rfl)) rfl ?_ ?_
 rintro _ M94 _ hle95 ⟨_, ⟨rfl, rfl⟩, rfl⟩
 have h0_10 := h0_10.mono hle95
 refine ⟨(StabL.anc rfl (StabL.anc rfl (StabL.anc rfl trivial))), ?_⟩
 refine WT.a0 ?_
 refine Tp (.bool (!r92)) rfl (PO.not rfl) rfl ?_
 refine Tp (.bool (!r92)) rfl (PO.move rfl) rfl ?_
 rcases Bool.eq_false_or_eq_true (!r92) with hb97 | hb97
 have h := ite_t hb97 h
 refine WT.pureOff 70 rfl rfl rfl hb97 rfl ?_
 refine WT.altOff 70 rfl rfl rfl hb97 rfl ⟨(StabL.anc rfl (StabL.anc rfl (StabL.anc rfl (StabL.anc rfl (StabL.anc rfl (StabL.anc rfl trivial)))))), ?_⟩ ?_
 refine WT.pureOff 70 rfl rfl rfl hb97 rfl ?_
 refine WT.pureOff 70 rfl rfl rfl hb97 rfl ?_
 refine WT.pureOffU 74 rfl rfl rfl  rfl ?_
 refine WT.pureOffU 74 rfl rfl rfl  rfl ?_
 refine WT.pureOff 70 rfl rfl rfl hb97 rfl ?_
 refine Tp (.bool true) rfl (PO.pickT rfl hb97 rfl) rfl ?_
 refine Tp (.bool true) rfl (PO.assign rfl) rfl ?_
 refine WT.fin ?_
 obtain rfl := Option.some.inj h
 refine WQ.thenJ ?_
 exact ⟨(hle90.trans hle95), rfl, hs46_1, hs46_4, rfl⟩
 exact WT.no
 have h := ite_f hb97 h
 refine Tn (.func (.func 53) #[] #[(pt g27 0)]) 70 rfl rfl rfl hb97 (PO.move hs46_4) rfl ?_
 obtain ⟨r98, hr99, h⟩ := bnd h
 refine WT.altOn 70 rfl rfl rfl hb97 (EO.callV1 (first := #[]) (cap := #[(pt g27 0)]) co53 rfl (f_ask_Check_1_ok (2 : Int) r22 _ _ r98 hr99) (argsV1 rfl rfl)) rfl ?_ ?_
 rintro _ M100 _ hle101 ⟨_, ⟨rfl, rfl⟩, rfl⟩
 have h0_10 := h0_10.mono hle101
 refine ⟨(StabL.anc rfl (StabL.anc rfl (StabL.anc rfl (StabL.anc rfl (StabL.anc rfl (StabL.anc rfl trivial)))))), ?_⟩
 refine WT.a1 ?_
 refine Tn (.bool (!r98)) 70 rfl rfl rfl hb97 (PO.not rfl) rfl ?_
 refine Tn (.bool (!r98)) 70 rfl rfl rfl hb97 (PO.move rfl) rfl ?_
 rcases Bool.eq_false_or_eq_true (!r98) with hb103 | hb103
 have h := ite_t hb103 h
 refine Tn (pt g21 6) 74 rfl rfl rfl hb103 (PO.fieldAddr fo28_6 hs46_1 rfl) rfl ?_
 refine Tn (.bool a0.Flag) 74 rfl rfl rfl hb103 (PO.loadB 1 pl4 rfl rfl rfl) rfl ?_
 refine Tn (.bool a0.Flag) 70 rfl rfl rfl hb97 (PO.pickT rfl hb103 rfl) rfl ?_
 refine Tp (.bool a0.Flag) rfl (PO.pickF rfl hb97 rfl) rfl ?_
 refine Tp (.bool a0.Flag) rfl (PO.assign rfl) rfl ?_
 refine WT.fin ?_
 obtain rfl := Option.some.inj h
 refine WQ.thenJ ?_
 exact ⟨((hle90.trans hle95).trans hle101), rfl, hs46_1, hs46_4, rfl⟩
 have h := ite_f hb103 h
 refine WT.pureOff 74 rfl rfl rfl hb103 rfl ?_
 refine WT.pureOff 74 rfl rfl rfl hb103 rfl ?_
 refine Tn (.bool false) 70 rfl rfl rfl hb97 (PO.pickF rfl hb103 rfl) rfl ?_
 refine Tp (.bool false) rfl (PO.pickF rfl hb97 rfl) rfl ?_
 refine Tp (.bool false) rfl (PO.assign rfl) rfl ?_
 refine WT.fin ?_
 obtain rfl := Option.some.inj h
 refine WQ.thenJ ?_
 exact ⟨((hle90.trans hle95).trans hle101), rfl, hs46_1, hs46_4, rfl⟩
 exact WT.no
 exact WT.no
 exact WT.no
 rintro ρ86 M86 H86 ⟨hle86, rfl, hs86_1, hs86_4, hs86_63⟩
 have h0_10 := h0_10.mono hle86
 refine WC.cond (b := x85) hs86_63 (fun hb104 => ?_) (fun hb104 => ?_)
 have h := ite_t hb104 h
 refine Sr ?_
 refine Pu (pt g21 5) (PO.fieldAddr fo28_5 hs86_1 rfl) rfl ?_
 refine Pu (.string a0.Value) (PO.loadB 1 pl9 rfl rfl rfl) rfl ?_
 refine Pu (.int .i64 (a0.Value.size : Int)) (PO.lenStr Tryz.underlying9 rfl) rfl ?_
 obtain ⟨r105, hr106, h⟩ := bnd h
 refine WL.eff (EO.call0 co17 (f_fault_New_ok (⟨#[118, 97, 108, 117, 101]⟩ : ByteArray) (a0.Value.size : Int) (6 : Int) _ r105 hr106) (args3 rfl rfl rfl)) rfl ?_
 rintro _ M107 _ hle108 ⟨_, ⟨rfl, rfl⟩, rfl⟩
 have h0_10 := h0_10.mono hle108
 refine WL.a0 ?_
 refine Pa (GV r105) rfl rfl ?_
 refine Nt ?_
 refine WC.ret ?_
 refine WQ.blockR ?_
 refine WQ.thenR ?_
 refine WQ.drop ?_
 refine WQ.drop ?_
 exact WQ.returnsF h [] rfl (results1 rfl rfl) ((((hle25.trans hle35).trans hle46).trans hle86).trans hle108) ⟨rfl, rfl⟩
 have h := ite_f hb104 h
 obtain ⟨x110, hj111, h⟩ := bnd h
 refine WC.joinF (fun (x110 : Bool) ρ' M' H' => M86.le M' ∧ [(g27, .cells #[(.int .i64 r22)] 3 (0, 0))] :: [(g21, .cells (l28 a0 v0_10).toArray 28 (0, 0))] :: F = H' ∧ ρ' 1 = (pt g21 0) ∧ ρ' 4 = (.func (.func 53) #[] #[(pt g27 0)]) ∧ ρ' 83 = (.bool x110)) x110 ?_ ?_
 have h3111 := h
 have h := hj111
 refine WC.draw [0, 1, 0, 4, 15, 31, 63, 127, 255, 127, 639, 2047, 4095, 8191, 16383, 32767, 65535, 32767, 163839, 524287, 1048575, 2097151, 4194303] (.pure 0 (.pure 1 (.pure 2 (.alt 3 (.alt 4 (.pure 5 (.pure 6 (.pure 7 (.pure 8 (.pure 9 (.alt 10 (.alt 11 (.pure 12 (.pure 13 (.pure 14 (.pure 15 (.pure 16 (.pure 17 (.alt 18 (.alt 19 (.pure 20 (.pure 21 (.pure 22 .done))) .none) .none))))))) .none) .none)))))) .none) .none)))) mixed (by kernel_rfl) ?_
 refine Tp (pt g21 7) rfl (PO.fieldAddr fo28_7 hs86_1 rfl) rfl ?_
 refine Tp (.int .i64 a0.Parts) rfl (PO.loadB 1 pl3 rfl rfl rfl) rfl ?_
 refine Tp (.func (.func 53) #[] #[(pt g27 0)]) rfl (PO.move hs86_4) rfl ?_
 obtain ⟨r112, hr113, h⟩ := bnd h
 refine WT.alt rfl (EO.callV1 (first := #[]) (cap := #[(pt g27 0)]) co53 rfl (f_ask_Check_1_ok (4 : Int) r22 _ _ r112 hr113) (argsV1 rfl rfl)) rfl ?_ ?_
 rintro _ M114 _ hle115 ⟨_, ⟨rfl, rfl⟩, rfl⟩
 have h0_10 := h0_10.mono hle115
 refine ⟨(StabL.anc rfl (StabL.st (StabA.of rfl (PO.loadB 1 pl3 rfl rfl rfl) rfl) (StabL.st (StabA.of rfl (PO.fieldAddr fo28_7 hs86_1 rfl) rfl) trivial))), ?_⟩
 refine WT.a1 ?_
 obtain ⟨r117, hr118, h⟩ := bnd h
 refine WT.alt rfl (EO.call0 co55 (f_ask_number_ok a0.Parts r112 (256 : Int) _ r117 hr118) (args3 rfl rfl rfl)) rfl ?_ ?_
 rintro _ M119 _ hle120 ⟨_, ⟨rfl, rfl⟩, rfl⟩
 have h0_10 := h0_10.mono hle120
 refine ⟨(StabL.anc rfl (StabL.anc rfl (StabL.anc rfl trivial))), ?_⟩
 refine WT.a0 ?_
 refine Tp (.bool (!r117)) rfl (PO.not rfl) rfl ?_
 refine Tp (.bool (!r117)) rfl (PO.move rfl) rfl ?_
 rcases Bool.eq_false_or_eq_true (!r117) with hb122 | hb122
 have h := ite_t hb122 h
 refine WT.pureOff 90 rfl rfl rfl hb122 rfl ?_
 refine WT.pureOff 90 rfl rfl rfl hb122 rfl ?_
 refine WT.pureOff 90 rfl rfl rfl hb122 rfl ?_
 refine WT.altOff 90 rfl rfl rfl hb122 rfl ⟨(StabL.anc rfl (StabL.st (StabA.off 90 rfl rfl rfl hb122 rfl) (StabL.st (StabA.off 90 rfl rfl rfl hb122 rfl) (StabL.anc rfl (StabL.anc rfl (StabL.anc rfl (StabL.anc rfl (StabL.anc rfl trivial)))))))), ?_⟩ ?_
 refine WT.altOff 90 rfl rfl rfl hb122 rfl ⟨(StabL.anc rfl (StabL.anc rfl (StabL.anc rfl (StabL.anc rfl (StabL.anc rfl (StabL.anc rfl (StabL.anc rfl (StabL.anc rfl trivial)))))))), ?_⟩ ?_
 refine WT.pureOff 90 rfl rfl rfl hb122 rfl ?_
 refine Tp (.bool true) rfl (PO.pickT rfl hb122 rfl) rfl ?_
 refine Tp (.bool true) rfl (PO.move rfl) rfl ?_
 refine WT.pureOff 98 rfl rfl rfl rfl rfl ?_
 refine WT.pureOff 98 rfl rfl rfl rfl rfl ?_
 refine WT.pureOff 98 rfl rfl rfl rfl rfl ?_
 refine WT.altOff 98 rfl rfl rfl rfl rfl ⟨(StabL.anc rfl (StabL.st (StabA.off 98 rfl rfl rfl rfl rfl) (StabL.st (StabA.off 98 rfl rfl rfl rfl rfl) (StabL.anc rfl (StabL.anc rfl (StabL.anc rfl (StabL.anc rfl (StabL.anc rfl (StabL.anc rfl (StabL.anc rfl (StabL.anc rfl (StabL.anc rfl (StabL.anc rfl (StabL.anc rfl trivial)))))))))))))), ?_⟩ ?_
 refine WT.altOff 98 rfl rfl rfl rfl rfl ⟨(StabL.anc rfl (StabL.anc rfl (StabL.anc rfl (StabL.anc rfl (StabL.anc rfl (StabL.anc rfl (StabL.anc rfl (StabL.anc rfl (StabL.anc rfl (StabL.anc rfl (StabL.anc rfl (StabL.anc rfl (StabL.anc rfl (StabL.anc rfl trivial)))))))))))))), ?_⟩ ?_
 refine WT.pureOff 98 rfl rfl rfl rfl rfl ?_
 refine Tp (.bool true) rfl (PO.pickT rfl rfl rfl) rfl ?_
 refine Tp (.bool true) rfl (PO.assign rfl) rfl ?_
 refine WT.fin ?_
 obtain rfl := Option.some.inj h
 refine WQ.thenJ ?_
 exact ⟨(hle115.trans hle120), rfl, hs86_1, hs86_4, rfl⟩
 exact WT.no
 exact WT.no
 exact WT.no
 exact WT.no
 have h := ite_f hb122 h
 refine Tn (pt g21 8) 90 rfl rfl rfl hb122 (PO.fieldAddr fo28_8 hs86_1 rfl) rfl ?_
 refine Tn (.int .i64 a0.Replicas) 90 rfl rfl rfl hb122 (PO.loadB 1 pl3 rfl rfl rfl) rfl ?_
 refine Tn (.func (.func 53) #[] #[(pt g27 0)]) 90 rfl rfl rfl hb122 (PO.move hs86_4) rfl ?_
 obtain ⟨r123, hr124, h⟩ := bnd h
 refine WT.altOn 90 rfl rfl rfl hb122 (EO.callV1 (first := #[]) (cap := #[(pt g27 0)]) co53 rfl (f_ask_Check_1_ok (8 : Int) r22 _ _ r123 hr124) (argsV1 rfl rfl)) rfl ?_ ?_
 rintro _ M125 _ hle126 ⟨_, ⟨rfl, rfl⟩, rfl⟩
 have h0_10 := h0_10.mono hle126
 refine ⟨(StabL.anc rfl (StabL.st (StabA.on 90 rfl rfl rfl hb122 (PO.loadB 1 pl3 rfl rfl rfl) rfl) (StabL.st (StabA.on 90 rfl rfl rfl hb122 (PO.fieldAddr fo28_8 hs86_1 rfl) rfl) (StabL.anc rfl (StabL.anc rfl (StabL.anc rfl (StabL.anc rfl (StabL.anc rfl trivial)))))))), ?_⟩
 refine WT.a1 ?_
 obtain ⟨r128, hr129, h⟩ := bnd h
 refine WT.altOn 90 rfl rfl rfl hb122 (EO.call0 co55 (f_ask_number_ok a0.Replicas r123 (7 : Int) _ r128 hr129) (args3 rfl rfl rfl)) rfl ?_ ?_
 rintro _ M130 _ hle131 ⟨_, ⟨rfl, rfl⟩, rfl⟩
 have h0_10 := h0_10.mono hle131
 refine ⟨(StabL.anc rfl (StabL.anc rfl (StabL.anc rfl (StabL.anc rfl (StabL.anc rfl (StabL.anc rfl (StabL.anc rfl (StabL.anc rfl trivial)))))))), ?_⟩
 refine WT.a0 ?_
 refine Tn (.bool (!r128)) 90 rfl rfl rfl hb122 (PO.not rfl) rfl ?_
 refine Tp (.bool (!r128)) rfl (PO.pickF rfl hb122 rfl) rfl ?_
 refine Tp (.bool (!r128)) rfl (PO.move rfl) rfl ?_
 rcases Bool.eq_false_or_eq_true (!r128) with hb133 | hb133
 have h := ite_t hb133 h
 refine WT.pureOff 98 rfl rfl rfl hb133 rfl ?_
 refine WT.pureOff 98 rfl rfl rfl hb133 rfl ?_
 refine WT.pureOff 98 rfl rfl rfl hb133 rfl ?_
 refine WT.altOff 98 rfl rfl rfl hb133 rfl ⟨(StabL.anc rfl (StabL.st (StabA.off 98 rfl rfl rfl hb133 rfl) (StabL.st (StabA.off 98 rfl rfl rfl hb133 rfl) (StabL.anc rfl (StabL.anc rfl (StabL.anc rfl (StabL.anc rfl (StabL.anc rfl (StabL.anc rfl (StabL.anc rfl (StabL.anc rfl (StabL.anc rfl (StabL.anc rfl (StabL.anc rfl trivial)))))))))))))), ?_⟩ ?_
 refine WT.altOff 98 rfl rfl rfl hb133 rfl ⟨(StabL.anc rfl (StabL.anc rfl (StabL.anc rfl (StabL.anc rfl (StabL.anc rfl (StabL.anc rfl (StabL.anc rfl (StabL.anc rfl (StabL.anc rfl (StabL.anc rfl (StabL.anc rfl (StabL.anc rfl (StabL.anc rfl (StabL.anc rfl trivial)))))))))))))), ?_⟩ ?_
 refine WT.pureOff 98 rfl rfl rfl hb133 rfl ?_
 refine Tp (.bool true) rfl (PO.pickT rfl hb133 rfl) rfl ?_
 refine Tp (.bool true) rfl (PO.assign rfl) rfl ?_
 refine WT.fin ?_
 obtain rfl := Option.some.inj h
 refine WQ.thenJ ?_
 exact ⟨(((hle115.trans hle120).trans hle126).trans hle131), rfl, hs86_1, hs86_4, rfl⟩
 exact WT.no
 exact WT.no
 have h := ite_f hb133 h
 refine Tn (pt g21 9) 98 rfl rfl rfl hb133 (PO.fieldAddr fo28_9 hs86_1 rfl) rfl ?_
 refine Tn (.int .i64 a0.Part) 98 rfl rfl rfl hb133 (PO.loadB 1 pl3 rfl rfl rfl) rfl ?_
 refine Tn (.func (.func 53) #[] #[(pt g27 0)]) 98 rfl rfl rfl hb133 (PO.move hs86_4) rfl ?_
 obtain ⟨r134, hr135, h⟩ := bnd h
 refine WT.altOn 98 rfl rfl rfl hb133 (EO.callV1 (first := #[]) (cap := #[(pt g27 0)]) co53 rfl (f_ask_Check_1_ok (16 : Int) r22 _ _ r134 hr135) (argsV1 rfl rfl)) rfl ?_ ?_
 rintro _ M136 _ hle137 ⟨_, ⟨rfl, rfl⟩, rfl⟩
 have h0_10 := h0_10.mono hle137
 refine ⟨(StabL.anc rfl (StabL.st (StabA.on 98 rfl rfl rfl hb133 (PO.loadB 1 pl3 rfl rfl rfl) rfl) (StabL.st (StabA.on 98 rfl rfl rfl hb133 (PO.fieldAddr fo28_9 hs86_1 rfl) rfl) (StabL.anc rfl (StabL.anc rfl (StabL.anc rfl (StabL.anc rfl (StabL.anc rfl (StabL.anc rfl (StabL.anc rfl (StabL.anc rfl (StabL.anc rfl (StabL.anc rfl (StabL.anc rfl trivial)))))))))))))), ?_⟩
 refine WT.a1 ?_
 obtain ⟨r139, hr140, h⟩ := bnd h
 refine WT.altOn 98 rfl rfl rfl hb133 (EO.call0 co55 (f_ask_number_ok a0.Part r134 (256 : Int) _ r139 hr140) (args3 rfl rfl rfl)) rfl ?_ ?_
 rintro _ M141 _ hle142 ⟨_, ⟨rfl, rfl⟩, rfl⟩
 have h0_10 := h0_10.mono hle142
 refine ⟨(StabL.anc rfl (StabL.anc rfl (StabL.anc rfl (StabL.anc rfl (StabL.anc rfl (StabL.anc rfl (StabL.anc rfl (StabL.anc rfl (StabL.anc rfl (StabL.anc rfl (StabL.anc rfl (StabL.anc rfl (StabL.anc rfl (StabL.anc rfl trivial)))))))))))))), ?_⟩
 refine WT.a0 ?_
 refine Tn (.bool (!r139)) 98 rfl rfl rfl hb133 (PO.not rfl) rfl ?_
 refine Tp (.bool (!r139)) rfl (PO.pickF rfl hb133 rfl) rfl ?_
 refine Tp (.bool (!r139)) rfl (PO.assign rfl) rfl ?_
 refine WT.fin ?_
 obtain rfl := Option.some.inj h
 refine WQ.thenJ ?_
 exact ⟨(((((hle115.trans hle120).trans hle126).trans hle131).trans hle137).trans hle142), rfl, hs86_1, hs86_4, rfl⟩
 exact WT.no
 exact WT.no
 exact WT.no
 exact WT.no
 exact WT.no
 exact WT.no
 rintro ρ111 M111 H111 ⟨hle111, rfl, hs111_1, hs111_4, hs111_83⟩
 have h0_10 := h0_10.mono hle111
 refine WC.cond (b := x110) hs111_83 (fun hb144 => ?_) (fun hb144 => ?_)
 have h := ite_t hb144 h
 refine Sr ?_
 refine Pu (pt g21 7) (PO.fieldAddr fo28_7 hs111_1 rfl) rfl ?_
 refine Pu (.int .i64 a0.Parts) (PO.loadB 1 pl3 rfl rfl rfl) rfl ?_
 obtain ⟨r145, hr146, h⟩ := bnd h
 refine WL.eff (EO.call0 co17 (f_fault_New_ok (⟨#[110, 117, 109, 98, 101, 114]⟩ : ByteArray) a0.Parts (2 : Int) _ r145 hr146) (args3 rfl rfl rfl)) rfl ?_
 rintro _ M147 _ hle148 ⟨_, ⟨rfl, rfl⟩, rfl⟩
 have h0_10 := h0_10.mono hle148
 refine WL.a0 ?_
 refine Pa (GV r145) rfl rfl ?_
 refine Nt ?_
 refine WC.ret ?_
 refine WQ.blockR ?_
 refine WQ.thenR ?_
 refine WQ.drop ?_
 refine WQ.drop ?_
 exact WQ.returnsF h [] rfl (results1 rfl rfl) (((((hle25.trans hle35).trans hle46).trans hle86).trans hle111).trans hle148) ⟨rfl, rfl⟩
 have h := ite_f hb144 h
 obtain ⟨x150, hj151, h⟩ := bnd h
 refine WC.joinF (fun (x150 : Bool) ρ' M' H' => M111.le M' ∧ [(g27, .cells #[(.int .i64 r22)] 3 (0, 0))] :: [(g21, .cells (l28 a0 v0_10).toArray 28 (0, 0))] :: F = H' ∧ ρ' 1 = (pt g21 0) ∧ ρ' 4 = (.func (.func 53) #[] #[(pt g27 0)]) ∧ ρ' 109 = (.bool x150)) x150 ?_ ?_
 have h3151 := h
 have h := hj151
 refine WC.draw [0, 1, 0, 4, 15, 31, 63, 127, 255, 127, 639, 2047, 4095, 8191, 16383, 32767, 65535, 32767, 163839, 524287, 1048575, 2097151, 4194303] (.pure 0 (.pure 1 (.pure 2 (.alt 3 (.alt 4 (.pure 5 (.pure 6 (.pure 7 (.pure 8 (.pure 9 (.alt 10 (.alt 11 (.pure 12 (.pure 13 (.pure 14 (.pure 15 (.pure 16 (.pure 17 (.alt 18 (.alt 19 (.pure 20 (.pure 21 (.pure 22 .done))) .none) .none))))))) .none) .none)))))) .none) .none)))) mixed (by kernel_rfl) ?_
 refine Tp (pt g21 11) rfl (PO.fieldAddr fo28_11 hs111_1 rfl) rfl ?_
 refine Tp (.int .i64 a0.Broker) rfl (PO.loadB 1 pl3 rfl rfl rfl) rfl ?_
 refine Tp (.func (.func 53) #[] #[(pt g27 0)]) rfl (PO.move hs111_4) rfl ?_
 obtain ⟨r152, hr153, h⟩ := bnd h
 refine WT.alt rfl (EO.callV1 (first := #[]) (cap := #[(pt g27 0)]) co53 rfl (f_ask_Check_1_ok (64 : Int) r22 _ _ r152 hr153) (argsV1 rfl rfl)) rfl ?_ ?_
 rintro _ M154 _ hle155 ⟨_, ⟨rfl, rfl⟩, rfl⟩
 have h0_10 := h0_10.mono hle155
 refine ⟨(StabL.anc rfl (StabL.st (StabA.of rfl (PO.loadB 1 pl3 rfl rfl rfl) rfl) (StabL.st (StabA.of rfl (PO.fieldAddr fo28_11 hs111_1 rfl) rfl) trivial))), ?_⟩
 refine WT.a1 ?_
 obtain ⟨r157, hr158, h⟩ := bnd h
 refine WT.alt rfl (EO.call0 co55 (f_ask_number_ok a0.Broker r152 (64 : Int) _ r157 hr158) (args3 rfl rfl rfl)) rfl ?_ ?_
 rintro _ M159 _ hle160 ⟨_, ⟨rfl, rfl⟩, rfl⟩
 have h0_10 := h0_10.mono hle160
 refine ⟨(StabL.anc rfl (StabL.anc rfl (StabL.anc rfl trivial))), ?_⟩
 refine WT.a0 ?_
 refine Tp (.bool (!r157)) rfl (PO.not rfl) rfl ?_
 refine Tp (.bool (!r157)) rfl (PO.move rfl) rfl ?_
 rcases Bool.eq_false_or_eq_true (!r157) with hb162 | hb162
 have h := ite_t hb162 h
 refine WT.pureOff 116 rfl rfl rfl hb162 rfl ?_
 refine WT.pureOff 116 rfl rfl rfl hb162 rfl ?_
 refine WT.pureOff 116 rfl rfl rfl hb162 rfl ?_
 refine WT.altOff 116 rfl rfl rfl hb162 rfl ⟨(StabL.anc rfl (StabL.st (StabA.off 116 rfl rfl rfl hb162 rfl) (StabL.st (StabA.off 116 rfl rfl rfl hb162 rfl) (StabL.anc rfl (StabL.anc rfl (StabL.anc rfl (StabL.anc rfl (StabL.anc rfl trivial)))))))), ?_⟩ ?_
 refine WT.altOff 116 rfl rfl rfl hb162 rfl ⟨(StabL.anc rfl (StabL.anc rfl (StabL.anc rfl (StabL.anc rfl (StabL.anc rfl (StabL.anc rfl (StabL.anc rfl (StabL.anc rfl trivial)))))))), ?_⟩ ?_
 refine WT.pureOff 116 rfl rfl rfl hb162 rfl ?_
 refine Tp (.bool true) rfl (PO.pickT rfl hb162 rfl) rfl ?_
 refine Tp (.bool true) rfl (PO.move rfl) rfl ?_
 refine WT.pureOff 124 rfl rfl rfl rfl rfl ?_
 refine WT.pureOff 124 rfl rfl rfl rfl rfl ?_
 refine WT.pureOff 124 rfl rfl rfl rfl rfl ?_
 refine WT.altOff 124 rfl rfl rfl rfl rfl ⟨(StabL.anc rfl (StabL.st (StabA.off 124 rfl rfl rfl rfl rfl) (StabL.st (StabA.off 124 rfl rfl rfl rfl rfl) (StabL.anc rfl (StabL.anc rfl (StabL.anc rfl (StabL.anc rfl (StabL.anc rfl (StabL.anc rfl (StabL.anc rfl (StabL.anc rfl (StabL.anc rfl (StabL.anc rfl (StabL.anc rfl trivial)))))))))))))), ?_⟩ ?_
 refine WT.altOff 124 rfl rfl rfl rfl rfl ⟨(StabL.anc rfl (StabL.anc rfl (StabL.anc rfl (StabL.anc rfl (StabL.anc rfl (StabL.anc rfl (StabL.anc rfl (StabL.anc rfl (StabL.anc rfl (StabL.anc rfl (StabL.anc rfl (StabL.anc rfl (StabL.anc rfl (StabL.anc rfl trivial)))))))))))))), ?_⟩ ?_
 refine WT.pureOff 124 rfl rfl rfl rfl rfl ?_
 refine Tp (.bool true) rfl (PO.pickT rfl rfl rfl) rfl ?_
 refine Tp (.bool true) rfl (PO.assign rfl) rfl ?_
 refine WT.fin ?_
 obtain rfl := Option.some.inj h
 refine WQ.thenJ ?_
 exact ⟨(hle155.trans hle160), rfl, hs111_1, hs111_4, rfl⟩
 exact WT.no
 exact WT.no
 exact WT.no
 exact WT.no
 have h := ite_f hb162 h
 refine Tn (pt g21 12) 116 rfl rfl rfl hb162 (PO.fieldAddr fo28_12 hs111_1 rfl) rfl ?_
 refine Tn (.int .i64 a0.Epoch) 116 rfl rfl rfl hb162 (PO.loadB 1 pl3 rfl rfl rfl) rfl ?_
 refine Tn (.func (.func 53) #[] #[(pt g27 0)]) 116 rfl rfl rfl hb162 (PO.move hs111_4) rfl ?_
 obtain ⟨r163, hr164, h⟩ := bnd h
 refine WT.altOn 116 rfl rfl rfl hb162 (EO.callV1 (first := #[]) (cap := #[(pt g27 0)]) co53 rfl (f_ask_Check_1_ok (128 : Int) r22 _ _ r163 hr164) (argsV1 rfl rfl)) rfl ?_ ?_
 rintro _ M165 _ hle166 ⟨_, ⟨rfl, rfl⟩, rfl⟩
 have h0_10 := h0_10.mono hle166
 refine ⟨(StabL.anc rfl (StabL.st (StabA.on 116 rfl rfl rfl hb162 (PO.loadB 1 pl3 rfl rfl rfl) rfl) (StabL.st (StabA.on 116 rfl rfl rfl hb162 (PO.fieldAddr fo28_12 hs111_1 rfl) rfl) (StabL.anc rfl (StabL.anc rfl (StabL.anc rfl (StabL.anc rfl (StabL.anc rfl trivial)))))))), ?_⟩
 refine WT.a1 ?_
 obtain ⟨r168, hr169, h⟩ := bnd h
 refine WT.altOn 116 rfl rfl rfl hb162 (EO.call0 co55 (f_ask_number_ok a0.Epoch r163 (1073741824 : Int) _ r168 hr169) (args3 rfl rfl rfl)) rfl ?_ ?_
 rintro _ M170 _ hle171 ⟨_, ⟨rfl, rfl⟩, rfl⟩
 have h0_10 := h0_10.mono hle171
 refine ⟨(StabL.anc rfl (StabL.anc rfl (StabL.anc rfl (StabL.anc rfl (StabL.anc rfl (StabL.anc rfl (StabL.anc rfl (StabL.anc rfl trivial)))))))), ?_⟩
 refine WT.a0 ?_
 refine Tn (.bool (!r168)) 116 rfl rfl rfl hb162 (PO.not rfl) rfl ?_
 refine Tp (.bool (!r168)) rfl (PO.pickF rfl hb162 rfl) rfl ?_
 refine Tp (.bool (!r168)) rfl (PO.move rfl) rfl ?_
 rcases Bool.eq_false_or_eq_true (!r168) with hb173 | hb173
 have h := ite_t hb173 h
 refine WT.pureOff 124 rfl rfl rfl hb173 rfl ?_
 refine WT.pureOff 124 rfl rfl rfl hb173 rfl ?_
 refine WT.pureOff 124 rfl rfl rfl hb173 rfl ?_
 refine WT.altOff 124 rfl rfl rfl hb173 rfl ⟨(StabL.anc rfl (StabL.st (StabA.off 124 rfl rfl rfl hb173 rfl) (StabL.st (StabA.off 124 rfl rfl rfl hb173 rfl) (StabL.anc rfl (StabL.anc rfl (StabL.anc rfl (StabL.anc rfl (StabL.anc rfl (StabL.anc rfl (StabL.anc rfl (StabL.anc rfl (StabL.anc rfl (StabL.anc rfl (StabL.anc rfl trivial)))))))))))))), ?_⟩ ?_
 refine WT.altOff 124 rfl rfl rfl hb173 rfl ⟨(StabL.anc rfl (StabL.anc rfl (StabL.anc rfl (StabL.anc rfl (StabL.anc rfl (StabL.anc rfl (StabL.anc rfl (StabL.anc rfl (StabL.anc rfl (StabL.anc rfl (StabL.anc rfl (StabL.anc rfl (StabL.anc rfl (StabL.anc rfl trivial)))))))))))))), ?_⟩ ?_
 refine WT.pureOff 124 rfl rfl rfl hb173 rfl ?_
 refine Tp (.bool true) rfl (PO.pickT rfl hb173 rfl) rfl ?_
 refine Tp (.bool true) rfl (PO.assign rfl) rfl ?_
 refine WT.fin ?_
 obtain rfl := Option.some.inj h
 refine WQ.thenJ ?_
 exact ⟨(((hle155.trans hle160).trans hle166).trans hle171), rfl, hs111_1, hs111_4, rfl⟩
 exact WT.no
 exact WT.no
 have h := ite_f hb173 h
 refine Tn (pt g21 14) 124 rfl rfl rfl hb173 (PO.fieldAddr fo28_14 hs111_1 rfl) rfl ?_
 refine Tn (a26_ a0.Word) 124 rfl rfl rfl hb173 (PO.loadBA (cs := (l26 a0.Word)) 1 ag26 sz26 rfl rfl rfl) rfl ?_
 refine Tn (.func (.func 53) #[] #[(pt g27 0)]) 124 rfl rfl rfl hb173 (PO.move hs111_4) rfl ?_
 obtain ⟨r174, hr175, h⟩ := bnd h
 refine WT.altOn 124 rfl rfl rfl hb173 (EO.callV1 (first := #[]) (cap := #[(pt g27 0)]) co53 rfl (f_ask_Check_1_ok (512 : Int) r22 _ _ r174 hr175) (argsV1 rfl rfl)) rfl ?_ ?_
 rintro _ M176 _ hle177 ⟨_, ⟨rfl, rfl⟩, rfl⟩
 have h0_10 := h0_10.mono hle177
 refine ⟨(StabL.anc rfl (StabL.st (StabA.on 124 rfl rfl rfl hb173 (PO.loadBA (cs := (l26 a0.Word)) 1 ag26 sz26 rfl rfl rfl) rfl) (StabL.st (StabA.on 124 rfl rfl rfl hb173 (PO.fieldAddr fo28_14 hs111_1 rfl) rfl) (StabL.anc rfl (StabL.anc rfl (StabL.anc rfl (StabL.anc rfl (StabL.anc rfl (StabL.anc rfl (StabL.anc rfl (StabL.anc rfl (StabL.anc rfl (StabL.anc rfl (StabL.anc rfl trivial)))))))))))))), ?_⟩
 refine WT.a1 ?_
 obtain ⟨r179, hr180, h⟩ := bnd h
 refine WT.altOn 124 rfl rfl rfl hb173 (EO.call0 co56 (f_ask_said_ok a0.Word r174 _ r179 hr180) (args2 rfl rfl)) rfl ?_ ?_
 rintro _ M181 _ hle182 ⟨_, ⟨rfl, rfl⟩, rfl⟩
 have h0_10 := h0_10.mono hle182
 refine ⟨(StabL.anc rfl (StabL.anc rfl (StabL.anc rfl (StabL.anc rfl (StabL.anc rfl (StabL.anc rfl (StabL.anc rfl (StabL.anc rfl (StabL.anc rfl (StabL.anc rfl (StabL.anc rfl (StabL.anc rfl (StabL.anc rfl (StabL.anc rfl trivial)))))))))))))), ?_⟩
 refine WT.a0 ?_
 refine Tn (.bool (!r179)) 124 rfl rfl rfl hb173 (PO.not rfl) rfl ?_
 refine Tp (.bool (!r179)) rfl (PO.pickF rfl hb173 rfl) rfl ?_
 refine Tp (.bool (!r179)) rfl (PO.assign rfl) rfl ?_
 refine WT.fin ?_
 obtain rfl := Option.some.inj h
 refine WQ.thenJ ?_
 exact ⟨(((((hle155.trans hle160).trans hle166).trans hle171).trans hle177).trans hle182), rfl, hs111_1, hs111_4, rfl⟩
 exact WT.no
 exact WT.no
 exact WT.no
 exact WT.no
 exact WT.no
 exact WT.no
 rintro ρ151 M151 H151 ⟨hle151, rfl, hs151_1, hs151_4, hs151_109⟩
 have h0_10 := h0_10.mono hle151
 refine WC.cond (b := x150) hs151_109 (fun hb184 => ?_) (fun hb184 => ?_)
 have h := ite_t hb184 h
 refine Sr ?_
 refine Pu (pt g21 11) (PO.fieldAddr fo28_11 hs151_1 rfl) rfl ?_
 refine Pu (.int .i64 a0.Broker) (PO.loadB 1 pl3 rfl rfl rfl) rfl ?_
 obtain ⟨r185, hr186, h⟩ := bnd h
 refine WL.eff (EO.call0 co17 (f_fault_New_ok (⟨#[98, 114, 111, 107, 101, 114]⟩ : ByteArray) a0.Broker (2 : Int) _ r185 hr186) (args3 rfl rfl rfl)) rfl ?_
 rintro _ M187 _ hle188 ⟨_, ⟨rfl, rfl⟩, rfl⟩
 have h0_10 := h0_10.mono hle188
 refine WL.a0 ?_
 refine Pa (GV r185) rfl rfl ?_
 refine Nt ?_
 refine WC.ret ?_
 refine WQ.blockR ?_
 refine WQ.thenR ?_
 refine WQ.drop ?_
 refine WQ.drop ?_
 exact WQ.returnsF h [] rfl (results1 rfl rfl) ((((((hle25.trans hle35).trans hle46).trans hle86).trans hle111).trans hle151).trans hle188) ⟨rfl, rfl⟩
 have h := ite_f hb184 h
 obtain ⟨x190, hj191, h⟩ := bnd h
 refine WC.joinF (fun (x190 : Bool) ρ' M' H' => M151.le M' ∧ [(g27, .cells #[(.int .i64 r22)] 3 (0, 0))] :: [(g21, .cells (l28 a0 v0_10).toArray 28 (0, 0))] :: F = H' ∧ ρ' 1 = (pt g21 0) ∧ ρ' 135 = (.bool x190)) x190 ?_ ?_
 have h3191 := h
 have h := hj191
 refine WC.region ?_
 refine Pm (.func (.func 53) #[] #[(pt g27 0)]) hs151_4 rfl ?_
 obtain ⟨r192, hr193, h⟩ := bnd h
 refine WL.eff (EO.callV1 (first := #[]) (cap := #[(pt g27 0)]) co53 rfl (f_ask_Check_1_ok (32 : Int) r22 _ _ r192 hr193) (argsV1 rfl rfl)) rfl ?_
 rintro _ M194 _ hle195 ⟨_, ⟨rfl, rfl⟩, rfl⟩
 have h0_10 := h0_10.mono hle195
 refine WL.a1 ?_
 refine Pu (.bool (!r192)) (PO.not rfl) rfl ?_
 refine Pm (.bool (!r192)) rfl rfl ?_
 rcases Bool.eq_false_or_eq_true (!r192) with hb197 | hb197
 have h := ite_t hb197 h
 refine On 139 rfl rfl hb197 ?_
 refine Pu (pt g21 10) (PO.fieldAddr fo28_10 hs151_1 rfl) rfl ?_
 refine On 139 rfl rfl hb197 ?_
 refine Pu v0_10 (PO.loadB 1 pl24 rfl rfl rfl) rfl ?_
 refine On 139 rfl rfl hb197 ?_
 refine Pu (.int .i64 (a0.Ids.length : Int)) (PO.lenS Tryz.underlying24 rfl h0_10.len) rfl ?_
 refine On 139 rfl rfl hb197 ?_
 refine Pu (.bool (decide ((0 : Int) < (a0.Ids.length : Int)))) (PO.gtr rfl rfl) rfl ?_
 refine Pu (.bool (decide ((0 : Int) < (a0.Ids.length : Int)))) (PO.pickT rfl hb197 rfl) rfl ?_
 refine Pm (.bool (decide ((0 : Int) < (a0.Ids.length : Int)))) rfl rfl ?_
 rcases Bool.eq_false_or_eq_true (decide ((0 : Int) < (a0.Ids.length : Int))) with hb198 | hb198
 have h := ite_t hb198 h
 iterate 4 refine Of 145 rfl rfl hb198 rfl ?_
 refine Pu (.bool true) (PO.pickT rfl hb198 rfl) rfl ?_
 refine Pa (.bool true) rfl rfl ?_
 refine WL.nil ?_
 obtain rfl := Option.some.inj h
 refine WQ.thenJ ?_
 exact ⟨hle195, rfl, hs151_1, rfl⟩
 have h := ite_f hb198 h
 refine On 145 rfl rfl hb198 ?_
 refine Pu (pt g21 10) (PO.fieldAddr fo28_10 hs151_1 rfl) rfl ?_
 refine On 145 rfl rfl hb198 ?_
 refine Pu v0_10 (PO.loadB 1 pl24 rfl rfl rfl) rfl ?_
 refine On 145 rfl rfl hb198 ?_
 obtain ⟨r199, hr200, h⟩ := bnd h
 refine WL.eff (EO.call0 co57 (f_record_Brokers_ok a0.Ids _ _ h0_10 r199 hr200) (args1 rfl)) rfl ?_
 rintro _ M201 _ hle202 ⟨_, ⟨rfl, rfl⟩, rfl⟩
 have h0_10 := h0_10.mono hle202
 refine WL.a0 ?_
 refine On 145 rfl rfl hb198 ?_
 refine Pu (.bool (!r199)) (PO.not rfl) rfl ?_
 refine Pu (.bool (!r199)) (PO.pickF rfl hb198 rfl) rfl ?_
 refine Pa (.bool (!r199)) rfl rfl ?_
 refine WL.nil ?_
 obtain rfl := Option.some.inj h
 refine WQ.thenJ ?_
 exact ⟨(hle195.trans hle202), rfl, hs151_1, rfl⟩
 have h := ite_f hb197 h
 iterate 4 refine Of 139 rfl rfl hb197 rfl ?_
 refine Pu (.bool false) (PO.pickF rfl hb197 rfl) rfl ?_
 refine Pm (.bool false) rfl rfl ?_
 refine On 145 rfl rfl rfl ?_
 refine Pu (pt g21 10) (PO.fieldAddr fo28_10 hs151_1 rfl) rfl ?_
 refine On 145 rfl rfl rfl ?_
 refine Pu v0_10 (PO.loadB 1 pl24 rfl rfl rfl) rfl ?_
 refine On 145 rfl rfl rfl ?_
 obtain ⟨r204, hr205, h⟩ := bnd h
 refine WL.eff (EO.call0 co57 (f_record_Brokers_ok a0.Ids _ _ h0_10 r204 hr205) (args1 rfl)) rfl ?_
 rintro _ M206 _ hle207 ⟨_, ⟨rfl, rfl⟩, rfl⟩
 have h0_10 := h0_10.mono hle207
 refine WL.a0 ?_
 refine On 145 rfl rfl rfl ?_
 refine Pu (.bool (!r204)) (PO.not rfl) rfl ?_
 refine Pu (.bool (!r204)) (PO.pickF rfl rfl rfl) rfl ?_
 refine Pa (.bool (!r204)) rfl rfl ?_
 refine WL.nil ?_
 obtain rfl := Option.some.inj h
 refine WQ.thenJ ?_
 exact ⟨(hle195.trans hle207), rfl, hs151_1, rfl⟩
 rintro ρ191 M191 H191 ⟨hle191, rfl, hs191_1, hs191_135⟩
 have h0_10 := h0_10.mono hle191
 refine WC.cond (b := x190) hs191_135 (fun hb209 => ?_) (fun hb209 => ?_)
 have h := ite_t hb209 h
 refine Sr ?_
 refine Pu (pt g21 10) (PO.fieldAddr fo28_10 hs191_1 rfl) rfl ?_
 refine Pu v0_10 (PO.loadB 1 pl24 rfl rfl rfl) rfl ?_
 refine Pu (.int .i64 (a0.Ids.length : Int)) (PO.lenS Tryz.underlying24 rfl h0_10.len) rfl ?_
 obtain ⟨r210, hr211, h⟩ := bnd h
 refine WL.eff (EO.call0 co17 (f_fault_New_ok (⟨#[105, 100, 115]⟩ : ByteArray) (a0.Ids.length : Int) (18 : Int) _ r210 hr211) (args3 rfl rfl rfl)) rfl ?_
 rintro _ M212 _ hle213 ⟨_, ⟨rfl, rfl⟩, rfl⟩
 have h0_10 := h0_10.mono hle213
 refine WL.a0 ?_
 refine Pa (GV r210) rfl rfl ?_
 refine Nt ?_
 refine WC.ret ?_
 refine WQ.blockR ?_
 refine WQ.thenR ?_
 refine WQ.drop ?_
 refine WQ.drop ?_
 exact WQ.returnsF h [] rfl (results1 rfl rfl) (((((((hle25.trans hle35).trans hle46).trans hle86).trans hle111).trans hle151).trans hle191).trans hle213) ⟨rfl, rfl⟩
 have h := ite_f hb209 h
 refine WC.skip ?_
 refine WQ.blockN ?_
 refine WQ.thenC ?_
 refine Sr ?_
 refine Pa (GV GErr.nil) rfl rfl ?_
 refine Nt ?_
 refine WC.ret ?_
 refine WQ.drop ?_
 refine WQ.drop ?_
 exact WQ.returnsF h [] rfl (results1 rfl rfl) ((((((hle25.trans hle35).trans hle46).trans hle86).trans hle111).trans hle151).trans hle191) ⟨rfl, rfl⟩


end Go.Proofs.YtjgnbbakamellaaGreatDoor.G
