/- Go functions: what they come to, and that they do. Printed by a program of the session (gen). -/
import Derived.Test.YtjiffdgidodebaaDoorCF
import Derived.Test.YtjiffdgidodebaaDoorC1
import Derived.Test.YtjiffdgidodebaaDoorKShar2
import Derived.Test.YtjiffdgidodebaaDoorKConv
set_option linter.unusedVariables false
set_option linter.unusedSimpArgs false
set_option maxHeartbeats 8000000
set_option maxRecDepth 100000
namespace Go.Proofs.YtjiffdgidodebaaDoor.G
open Go Go.KK

noncomputable def f_record_Check (a0 : T_api_Record) : Option GErr :=
  (((if (decide (a0.Kind < (1 : Int))) = true then (some true) else (some (decide ((12 : Int) < a0.Kind)))) : Option Bool).bind fun (x22 : Bool) => (if x22 = true then ((f_fault_New (⟨#[107, 105, 110, 100]⟩ : ByteArray) a0.Kind (5 : Int)).bind fun (r26 : GErr) => (some r26)) else (((if (decide (a0.Kind ≠ (10 : Int))) = true then (some (1 : Int)) else (some (0 : Int))) : Option Int).bind fun (x31 : Int) => ((f_record_Check_1 (1 : Int) a0).bind fun (r34 : Bool) => ((f_record_number a0.Broker r34 (1 : Int) (64 : Int)).bind fun (r39 : Bool) => (if (!r39) = true then ((f_fault_New (⟨#[98, 114, 111, 107, 101, 114]⟩ : ByteArray) a0.Broker (2 : Int)).bind fun (r45 : GErr) => (some r45)) else ((f_record_Check_1 (2 : Int) a0).bind fun (r50 : Bool) => ((f_record_number a0.Epoch r50 (0 : Int) (1073741824 : Int)).bind fun (r55 : Bool) => (if (!r55) = true then ((f_fault_New (⟨#[101, 112, 111, 99, 104]⟩ : ByteArray) a0.Epoch (2 : Int)).bind fun (r61 : GErr) => (some r61)) else ((f_record_Check_1 (4 : Int) a0).bind fun (r66 : Bool) => ((f_record_number a0.Topic r66 x31 (1073741824 : Int)).bind fun (r71 : Bool) => (if (!r71) = true then ((f_fault_New (⟨#[116, 111, 112, 105, 99]⟩ : ByteArray) a0.Topic (2 : Int)).bind fun (r77 : GErr) => (some r77)) else ((f_record_Check_1 (8 : Int) a0).bind fun (r82 : Bool) => ((f_record_number a0.Part r82 (0 : Int) (255 : Int)).bind fun (r87 : Bool) => (if (!r87) = true then ((f_fault_New (⟨#[112, 97, 114, 116]⟩ : ByteArray) a0.Part (2 : Int)).bind fun (r93 : GErr) => (some r93)) else ((f_record_Check_1 (16 : Int) a0).bind fun (r98 : Bool) => ((f_record_number a0.Leader r98 (0 : Int) (64 : Int)).bind fun (r103 : Bool) => (if (!r103) = true then ((f_fault_New (⟨#[108, 101, 97, 100, 101, 114]⟩ : ByteArray) a0.Leader (2 : Int)).bind fun (r109 : GErr) => (some r109)) else ((((f_record_Check_1 (32 : Int) a0).bind fun (r116 : Bool) => ((f_record_number a0.Client r116 (1 : Int) (1073741824 : Int)).bind fun (r121 : Bool) => (if (!r121) = true then (some true) else ((f_record_Check_1 (32 : Int) a0).bind fun (r127 : Bool) => ((f_record_number a0.Serial r127 (1 : Int) (1073741824 : Int)).bind fun (r132 : Bool) => (if (!r132) = true then (some true) else ((f_record_Check_1 (32 : Int) a0).bind fun (r138 : Bool) => ((f_record_number a0.Code r138 (0 : Int) (21 : Int)).bind fun (r143 : Bool) => (some (!r143)))))))))) : Option Bool).bind fun (x114 : Bool) => (if x114 = true then ((f_fault_New (⟨#[97, 115, 107, 101, 114]⟩ : ByteArray) a0.Client (2 : Int)).bind fun (r149 : GErr) => (some r149)) else ((((f_record_Check_1 (64 : Int) a0).bind fun (r156 : Bool) => (if (!r156) = true then (some a0.Flag) else (some false))) : Option Bool).bind fun (x154 : Bool) => (if x154 = true then ((f_fault_New (⟨#[102, 108, 97, 103]⟩ : ByteArray) (1 : Int) (1 : Int)).bind fun (r163 : GErr) => (some r163)) else ((((f_record_Check_1 (128 : Int) a0).bind fun (r170 : Bool) => ((f_record_text_106 a0.Name r170).bind fun (r175 : Bool) => (if (!r175) = true then (some true) else ((f_record_Check_1 (256 : Int) a0).bind fun (r181 : Bool) => ((f_record_text_106 a0.Key r181).bind fun (r186 : Bool) => (if (!r186) = true then (some true) else ((f_record_Check_1 (1024 : Int) a0).bind fun (r192 : Bool) => ((f_record_text_106 a0.Rack r192).bind fun (r197 : Bool) => (some (!r197)))))))))) : Option Bool).bind fun (x168 : Bool) => (if x168 = true then ((f_fault_New (⟨#[110, 97, 109, 101]⟩ : ByteArray) (a0.Name.size : Int) (1 : Int)).bind fun (r203 : GErr) => (some r203)) else ((((f_record_Check_1 (512 : Int) a0).bind fun (r210 : Bool) => ((f_record_text_103 a0.Value r210).bind fun (r215 : Bool) => (if (!r215) = true then (some true) else (if a0.Flag = true then (some (!decide (a0.Value = (⟨#[]⟩ : ByteArray)))) else (some false))))) : Option Bool).bind fun (x208 : Bool) => (if x208 = true then ((f_fault_New (⟨#[118, 97, 108, 117, 101]⟩ : ByteArray) (a0.Value.size : Int) (6 : Int)).bind fun (r223 : GErr) => (some r223)) else ((((f_record_Check_1 (2048 : Int) a0).bind fun (r230 : Bool) => ((f_record_row a0.Ids r230).bind fun (r235 : Bool) => (if (!r235) = true then (some true) else ((f_record_Check_1 (4096 : Int) a0).bind fun (r241 : Bool) => ((f_record_row a0.Isr r241).bind fun (r246 : Bool) => (if (!r246) = true then (some true) else ((f_record_Check_1 (8192 : Int) a0).bind fun (r252 : Bool) => ((f_record_row a0.Add r252).bind fun (r257 : Bool) => (if (!r257) = true then (some true) else ((f_record_Check_1 (8192 : Int) a0).bind fun (r263 : Bool) => ((f_record_row a0.Drop r263).bind fun (r268 : Bool) => (some (!r268))))))))))))) : Option Bool).bind fun (x228 : Bool) => (if x228 = true then ((f_fault_New (⟨#[114, 111, 119]⟩ : ByteArray) (a0.Ids.length : Int) (18 : Int)).bind fun (r274 : GErr) => (some r274)) else (some GErr.nil)))))))))))))))))))))))))))))
def f_record_Check_post (a0 : T_api_Record) (v0_14 v0_15 v0_16 v0_17 : Value) : GErr → Value → IM → HL → Prop :=
  fun (r0 : GErr) (v : Value) (M' : IM) (H' : HL) => (GV r0) = v ∧ H' = []
theorem f_record_Check_ok (a0 : T_api_Record) (M : IM) (v0_14 v0_15 v0_16 v0_17 : Value) (h0_14 : RS (Kd.int .i64) M v0_14 a0.Ids) (h0_15 : RS (Kd.int .i64) M v0_15 a0.Isr) (h0_16 : RS (Kd.int .i64) M v0_16 a0.Add) (h0_17 : RS (Kd.int .i64) M v0_17 a0.Drop) (res : GErr) (h : f_record_Check a0 = some res) :
    Tri Tryd.prog 77 #[(a106_ a0 v0_14 v0_15 v0_16 v0_17)] M [] (f_record_Check_post a0 v0_14 v0_15 v0_16 v0_17 res) := by
 unfold f_record_Check at h
 refine Tri.enter (fn := Tryd.f77) Tryd.func77 rfl (Nat.le_of_ble_eq_true rfl) ?_
 intro F ρ hρ
 refine Sr ?_
 refine WL.eff (EO.box (cs := (l106 a0 v0_14 v0_15 v0_16 v0_17).toArray) (congrArg Value.cells (asE (a106_ a0 v0_14 v0_15 v0_16 v0_17) (hρ 0)))) rfl ?_
 rintro _ _ _ - ⟨rfl, g21, rfl, rfl⟩
 refine Pa (GV GErr.nil) rfl rfl ?_
 refine Nt ?_
 refine WC.seq ?_
 obtain ⟨x22, hj23, h⟩ := bnd h
 refine WC.joinF (fun (x22 : Bool) ρ' M' H' => M.le M' ∧ [(g21, .cells (l106 a0 v0_14 v0_15 v0_16 v0_17).toArray 106 (0, 0))] :: F = H' ∧ ρ' 1 = (pt g21 0) ∧ ρ' 13 = (.bool x22)) x22 ?_ ?_
 have h323 := h
 have h := hj23
 refine WC.region ?_
 refine Pu (pt g21 0) (PO.fieldAddr fo106_0 rfl rfl) rfl ?_
 refine Pu (.int .i64 a0.Kind) (PO.loadB 0 pl3 rfl rfl rfl) rfl ?_
 refine Pu (.bool (decide (a0.Kind < 1))) (PO.lss rfl rfl) rfl ?_
 refine Pm (.bool (decide (a0.Kind < 1))) rfl rfl ?_
 rcases Bool.eq_false_or_eq_true (decide (a0.Kind < 1)) with hb24 | hb24
 have h := ite_t hb24 h
 iterate 3 refine Of 9 rfl rfl hb24 rfl ?_
 refine Pu (.bool true) (PO.pickT rfl hb24 rfl) rfl ?_
 refine WL.nil ?_
 obtain rfl := Option.some.inj h
 refine WQ.thenJ ?_
 exact ⟨(IM.le.refl _), rfl, rfl, rfl⟩
 have h := ite_f hb24 h
 refine On 9 rfl rfl hb24 ?_
 refine Pu (pt g21 0) (PO.fieldAddr fo106_0 rfl rfl) rfl ?_
 refine On 9 rfl rfl hb24 ?_
 refine Pu (.int .i64 a0.Kind) (PO.loadB 0 pl3 rfl rfl rfl) rfl ?_
 refine On 9 rfl rfl hb24 ?_
 refine Pu (.bool (decide ((12 : Int) < a0.Kind))) (PO.gtr rfl rfl) rfl ?_
 refine Pu (.bool (decide ((12 : Int) < a0.Kind))) (PO.pickF rfl hb24 rfl) rfl ?_
 refine WL.nil ?_
 obtain rfl := Option.some.inj h
 refine WQ.thenJ ?_
 exact ⟨(IM.le.refl _), rfl, rfl, rfl⟩
 rintro ρ23 M23 H23 ⟨hle23, rfl, hs23_1, hs23_13⟩
 have h0_14 := h0_14.mono hle23
 have h0_15 := h0_15.mono hle23
 have h0_16 := h0_16.mono hle23
 have h0_17 := h0_17.mono hle23
 refine WC.cond (b := x22) hs23_13 (fun hb25 => ?_) (fun hb25 => ?_)
 have h := ite_t hb25 h
 refine Sr ?_
 refine Pu (pt g21 0) (PO.fieldAddr fo106_0 hs23_1 rfl) rfl ?_
 refine Pu (.int .i64 a0.Kind) (PO.loadB 0 pl3 rfl rfl rfl) rfl ?_
 obtain ⟨r26, hr27, h⟩ := bnd h
 refine WL.eff (EO.call0 co37 (f_fault_New_ok (⟨#[107, 105, 110, 100]⟩ : ByteArray) a0.Kind (5 : Int) _ r26 hr27) (args3 rfl rfl rfl)) rfl ?_
 rintro _ M28 _ hle29 ⟨_, ⟨rfl, rfl⟩, rfl⟩
 have h0_14 := h0_14.mono hle29
 have h0_15 := h0_15.mono hle29
 have h0_16 := h0_16.mono hle29
 have h0_17 := h0_17.mono hle29
 refine WL.a0 ?_
 refine Pa (GV r26) rfl rfl ?_
 refine Nt ?_
 refine WC.ret ?_
 refine WQ.thenR ?_
 refine WQ.drop ?_
 exact WQ.returnsF h [] rfl (results1 rfl rfl) (hle23.trans hle29) ⟨rfl, rfl⟩
 have h := ite_f hb25 h
 refine WC.skip ?_
 refine WQ.thenC ?_
 refine Sr ?_
 refine Pu (.func (.func 102) #[] #[(pt g21 0)]) (PO.makeFunc2 (args0) (args1 (asE (Value.pointer (some ⟨g21, 0, none⟩)) hs23_1))) rfl ?_
 refine Pa (.func (.func 102) #[] #[(pt g21 0)]) rfl rfl ?_
 refine Ns ?_
 refine Pa (.int .i64 0) rfl rfl ?_
 refine Nt ?_
 obtain ⟨x31, hj32, h⟩ := bnd h
 refine WC.joinF (fun (x31 : Int) ρ' M' H' => M23.le M' ∧ [(g21, .cells (l106 a0 v0_14 v0_15 v0_16 v0_17).toArray 106 (0, 0))] :: F = H' ∧ ρ' 1 = (pt g21 0) ∧ ρ' 3 = (.func (.func 102) #[] #[(pt g21 0)]) ∧ ρ' 4 = (.int .i64 x31)) x31 ?_ ?_
 have h332 := h
 have h := hj32
 refine Sr ?_
 refine Pu (pt g21 0) (PO.fieldAddr fo106_0 hs23_1 rfl) rfl ?_
 refine Pu (.int .i64 a0.Kind) (PO.loadB 0 pl3 rfl rfl rfl) rfl ?_
 refine Pu (.bool (decide (a0.Kind ≠ 10))) (PO.neq rfl rfl) rfl ?_
 refine Nt ?_
 refine WC.cond (b := decide (a0.Kind ≠ 10)) rfl (fun hb33 => ?_) (fun hb33 => ?_)
 have h := ite_t hb33 h
 refine WC.region ?_
 refine Pa (.int .i64 1) rfl rfl ?_
 refine WL.nil ?_
 obtain rfl := Option.some.inj h
 refine WQ.thenJ ?_
 exact ⟨(IM.le.refl _), rfl, hs23_1, rfl, rfl⟩
 have h := ite_f hb33 h
 refine WC.skip ?_
 obtain rfl := Option.some.inj h
 refine WQ.thenJ ?_
 exact ⟨(IM.le.refl _), rfl, hs23_1, rfl, rfl⟩
 rintro ρ32 M32 H32 ⟨hle32, rfl, hs32_1, hs32_3, hs32_4⟩
 have h0_14 := h0_14.mono hle32
 have h0_15 := h0_15.mono hle32
 have h0_16 := h0_16.mono hle32
 have h0_17 := h0_17.mono hle32
 refine Sr ?_
 refine Pa (.func (.func 103) #[] #[]) rfl rfl ?_
 refine Nt ?_
 refine WC.seq ?_
 refine WC.block ?_
 refine WC.seq ?_
 refine WC.draw [0, 1, 0, 4, 15, 31, 63] (.pure 0 (.pure 1 (.pure 2 (.alt 3 (.alt 4 (.pure 5 (.pure 6 .done)) .none) .none)))) mixed (by kernel_rfl) ?_
 refine Tp (pt g21 1) rfl (PO.fieldAddr fo106_1 hs32_1 rfl) rfl ?_
 refine Tp (.int .i64 a0.Broker) rfl (PO.loadB 0 pl3 rfl rfl rfl) rfl ?_
 refine Tp (.func (.func 102) #[] #[(pt g21 0)]) rfl (PO.move hs32_3) rfl ?_
 obtain ⟨r34, hr35, h⟩ := bnd h
 refine WT.alt rfl (EO.callV1 (first := #[]) (cap := #[(pt g21 0)]) co102 rfl (f_record_Check_1_ok (1 : Int) a0 _ _ _ _ _ _ h0_14 h0_15 h0_16 h0_17 r34 hr35) (argsV1 rfl rfl)) rfl ?_ ?_
 rintro _ M36 _ hle37 ⟨_, ⟨rfl, rfl⟩, rfl⟩
 have h0_14 := h0_14.mono hle37
 have h0_15 := h0_15.mono hle37
 have h0_16 := h0_16.mono hle37
 have h0_17 := h0_17.mono hle37
 refine ⟨(StabL.anc rfl (StabL.st (StabA.of rfl (PO.loadB 0 pl3 rfl rfl rfl) rfl) (StabL.st (StabA.of rfl (PO.fieldAddr fo106_1 hs32_1 rfl) rfl) trivial))), ?_⟩
 refine WT.a1 ?_
 obtain ⟨r39, hr40, h⟩ := bnd h
 refine WT.alt rfl (EO.call0 co104 (f_record_number_ok a0.Broker r34 (1 : Int) (64 : Int) _ r39 hr40) (args4 rfl rfl rfl rfl)) rfl ?_ ?_
 rintro _ M41 _ hle42 ⟨_, ⟨rfl, rfl⟩, rfl⟩
 have h0_14 := h0_14.mono hle42
 have h0_15 := h0_15.mono hle42
 have h0_16 := h0_16.mono hle42
 have h0_17 := h0_17.mono hle42
 refine ⟨(StabL.anc rfl (StabL.anc rfl (StabL.anc rfl trivial))), ?_⟩
 refine WT.a0 ?_
 refine Tp (.bool (!r39)) rfl (PO.not rfl) rfl ?_
 refine Tp (.bool (!r39)) rfl (PO.assign rfl) rfl ?_
 refine WT.fin ?_
 refine WQ.thenC ?_
 refine WC.cond (b := !r39) rfl (fun hb44 => ?_) (fun hb44 => ?_)
 have h := ite_t hb44 h
 refine Sr ?_
 refine Pu (pt g21 1) (PO.fieldAddr fo106_1 hs32_1 rfl) rfl ?_
 refine Pu (.int .i64 a0.Broker) (PO.loadB 0 pl3 rfl rfl rfl) rfl ?_
 obtain ⟨r45, hr46, h⟩ := bnd h
 refine WL.eff (EO.call0 co37 (f_fault_New_ok (⟨#[98, 114, 111, 107, 101, 114]⟩ : ByteArray) a0.Broker (2 : Int) _ r45 hr46) (args3 rfl rfl rfl)) rfl ?_
 rintro _ M47 _ hle48 ⟨_, ⟨rfl, rfl⟩, rfl⟩
 have h0_14 := h0_14.mono hle48
 have h0_15 := h0_15.mono hle48
 have h0_16 := h0_16.mono hle48
 have h0_17 := h0_17.mono hle48
 refine WL.a0 ?_
 refine Pa (GV r45) rfl rfl ?_
 refine Nt ?_
 refine WC.ret ?_
 refine WQ.blockR ?_
 refine WQ.thenR ?_
 refine WQ.drop ?_
 exact WQ.returnsF h [] rfl (results1 rfl rfl) ((((hle23.trans hle32).trans hle37).trans hle42).trans hle48) ⟨rfl, rfl⟩
 have h := ite_f hb44 h
 refine WC.seq ?_
 refine WC.draw [0, 1, 0, 4, 15, 31, 63] (.pure 0 (.pure 1 (.pure 2 (.alt 3 (.alt 4 (.pure 5 (.pure 6 .done)) .none) .none)))) mixed (by kernel_rfl) ?_
 refine Tp (pt g21 2) rfl (PO.fieldAddr fo106_2 hs32_1 rfl) rfl ?_
 refine Tp (.int .i64 a0.Epoch) rfl (PO.loadB 0 pl3 rfl rfl rfl) rfl ?_
 refine Tp (.func (.func 102) #[] #[(pt g21 0)]) rfl (PO.move hs32_3) rfl ?_
 obtain ⟨r50, hr51, h⟩ := bnd h
 refine WT.alt rfl (EO.callV1 (first := #[]) (cap := #[(pt g21 0)]) co102 rfl (f_record_Check_1_ok (2 : Int) a0 _ _ _ _ _ _ h0_14 h0_15 h0_16 h0_17 r50 hr51) (argsV1 rfl rfl)) rfl ?_ ?_
 rintro _ M52 _ hle53 ⟨_, ⟨rfl, rfl⟩, rfl⟩
 have h0_14 := h0_14.mono hle53
 have h0_15 := h0_15.mono hle53
 have h0_16 := h0_16.mono hle53
 have h0_17 := h0_17.mono hle53
 refine ⟨(StabL.anc rfl (StabL.st (StabA.of rfl (PO.loadB 0 pl3 rfl rfl rfl) rfl) (StabL.st (StabA.of rfl (PO.fieldAddr fo106_2 hs32_1 rfl) rfl) trivial))), ?_⟩
 refine WT.a1 ?_
 obtain ⟨r55, hr56, h⟩ := bnd h
 refine WT.alt rfl (EO.call0 co104 (f_record_number_ok a0.Epoch r50 (0 : Int) (1073741824 : Int) _ r55 hr56) (args4 rfl rfl rfl rfl)) rfl ?_ ?_
 rintro _ M57 _ hle58 ⟨_, ⟨rfl, rfl⟩, rfl⟩
 have h0_14 := h0_14.mono hle58
 have h0_15 := h0_15.mono hle58
 have h0_16 := h0_16.mono hle58
 have h0_17 := h0_17.mono hle58
 refine ⟨(StabL.anc rfl (StabL.anc rfl (StabL.anc rfl trivial))), ?_⟩
 refine WT.a0 ?_
 refine Tp (.bool (!r55)) rfl (PO.not rfl) rfl ?_
 refine Tp (.bool (!r55)) rfl (PO.assign rfl) rfl ?_
 refine WT.fin ?_
 refine WQ.thenC ?_
 refine WC.cond (b := !r55) rfl (fun hb60 => ?_) (fun hb60 => ?_)
 have h := ite_t hb60 h
 refine Sr ?_
 refine Pu (pt g21 2) (PO.fieldAddr fo106_2 hs32_1 rfl) rfl ?_
 refine Pu (.int .i64 a0.Epoch) (PO.loadB 0 pl3 rfl rfl rfl) rfl ?_
 obtain ⟨r61, hr62, h⟩ := bnd h
 refine WL.eff (EO.call0 co37 (f_fault_New_ok (⟨#[101, 112, 111, 99, 104]⟩ : ByteArray) a0.Epoch (2 : Int) _ r61 hr62) (args3 rfl rfl rfl)) rfl ?_
 rintro _ M63 _ hle64 ⟨_, ⟨rfl, rfl⟩, rfl⟩
 have h0_14 := h0_14.mono hle64
 have h0_15 := h0_15.mono hle64
 have h0_16 := h0_16.mono hle64
 have h0_17 := h0_17.mono hle64
 refine WL.a0 ?_
 refine Pa (GV r61) rfl rfl ?_
 refine Nt ?_
 refine WC.ret ?_
 refine WQ.blockR ?_
 refine WQ.thenR ?_
 refine WQ.drop ?_
 exact WQ.returnsF h [] rfl (results1 rfl rfl) ((((((hle23.trans hle32).trans hle37).trans hle42).trans hle53).trans hle58).trans hle64) ⟨rfl, rfl⟩
 have h := ite_f hb60 h
 refine WC.seq ?_
 refine WC.draw [0, 1, 0, 4, 0, 31, 63, 127] (.pure 0 (.pure 1 (.pure 2 (.pure 4 (.alt 3 (.alt 5 (.pure 6 (.pure 7 .done)) .none) .none))))) mixed (by kernel_rfl) ?_
 refine Tp (pt g21 3) rfl (PO.fieldAddr fo106_3 hs32_1 rfl) rfl ?_
 refine Tp (.int .i64 a0.Topic) rfl (PO.loadB 0 pl3 rfl rfl rfl) rfl ?_
 refine Tp (.func (.func 102) #[] #[(pt g21 0)]) rfl (PO.move hs32_3) rfl ?_
 refine Tp (.int .i64 x31) rfl (PO.move hs32_4) rfl ?_
 obtain ⟨r66, hr67, h⟩ := bnd h
 refine WT.alt rfl (EO.callV1 (first := #[]) (cap := #[(pt g21 0)]) co102 rfl (f_record_Check_1_ok (4 : Int) a0 _ _ _ _ _ _ h0_14 h0_15 h0_16 h0_17 r66 hr67) (argsV1 rfl rfl)) rfl ?_ ?_
 rintro _ M68 _ hle69 ⟨_, ⟨rfl, rfl⟩, rfl⟩
 have h0_14 := h0_14.mono hle69
 have h0_15 := h0_15.mono hle69
 have h0_16 := h0_16.mono hle69
 have h0_17 := h0_17.mono hle69
 refine ⟨(StabL.st (StabA.of rfl (PO.move hs32_4) rfl) (StabL.anc rfl (StabL.st (StabA.of rfl (PO.loadB 0 pl3 rfl rfl rfl) rfl) (StabL.st (StabA.of rfl (PO.fieldAddr fo106_3 hs32_1 rfl) rfl) trivial)))), ?_⟩
 refine WT.a1 ?_
 obtain ⟨r71, hr72, h⟩ := bnd h
 refine WT.alt rfl (EO.call0 co104 (f_record_number_ok a0.Topic r66 x31 (1073741824 : Int) _ r71 hr72) (args4 rfl rfl rfl rfl)) rfl ?_ ?_
 rintro _ M73 _ hle74 ⟨_, ⟨rfl, rfl⟩, rfl⟩
 have h0_14 := h0_14.mono hle74
 have h0_15 := h0_15.mono hle74
 have h0_16 := h0_16.mono hle74
 have h0_17 := h0_17.mono hle74
 refine ⟨(StabL.anc rfl (StabL.anc rfl (StabL.anc rfl (StabL.anc rfl trivial)))), ?_⟩
 refine WT.a0 ?_
 refine Tp (.bool (!r71)) rfl (PO.not rfl) rfl ?_
 refine Tp (.bool (!r71)) rfl (PO.assign rfl) rfl ?_
 refine WT.fin ?_
 refine WQ.thenC ?_
 refine WC.cond (b := !r71) rfl (fun hb76 => ?_) (fun hb76 => ?_)
 have h := ite_t hb76 h
 refine Sr ?_
 refine Pu (pt g21 3) (PO.fieldAddr fo106_3 hs32_1 rfl) rfl ?_
 refine Pu (.int .i64 a0.Topic) (PO.loadB 0 pl3 rfl rfl rfl) rfl ?_
 obtain ⟨r77, hr78, h⟩ := bnd h
 refine WL.eff (EO.call0 co37 (f_fault_New_ok (⟨#[116, 111, 112, 105, 99]⟩ : ByteArray) a0.Topic (2 : Int) _ r77 hr78) (args3 rfl rfl rfl)) rfl ?_
 rintro _ M79 _ hle80 ⟨_, ⟨rfl, rfl⟩, rfl⟩
 have h0_14 := h0_14.mono hle80
 have h0_15 := h0_15.mono hle80
 have h0_16 := h0_16.mono hle80
 have h0_17 := h0_17.mono hle80
 refine WL.a0 ?_
 refine Pa (GV r77) rfl rfl ?_
 refine Nt ?_
 refine WC.ret ?_
 refine WQ.blockR ?_
 refine WQ.thenR ?_
 refine WQ.drop ?_
 exact WQ.returnsF h [] rfl (results1 rfl rfl) ((((((((hle23.trans hle32).trans hle37).trans hle42).trans hle53).trans hle58).trans hle69).trans hle74).trans hle80) ⟨rfl, rfl⟩
 have h := ite_f hb76 h
 refine WC.seq ?_
 refine WC.draw [0, 1, 0, 4, 15, 31, 63] (.pure 0 (.pure 1 (.pure 2 (.alt 3 (.alt 4 (.pure 5 (.pure 6 .done)) .none) .none)))) mixed (by kernel_rfl) ?_
 refine Tp (pt g21 4) rfl (PO.fieldAddr fo106_4 hs32_1 rfl) rfl ?_
 refine Tp (.int .i64 a0.Part) rfl (PO.loadB 0 pl3 rfl rfl rfl) rfl ?_
 refine Tp (.func (.func 102) #[] #[(pt g21 0)]) rfl (PO.move hs32_3) rfl ?_
 obtain ⟨r82, hr83, h⟩ := bnd h
 refine WT.alt rfl (EO.callV1 (first := #[]) (cap := #[(pt g21 0)]) co102 rfl (f_record_Check_1_ok (8 : Int) a0 _ _ _ _ _ _ h0_14 h0_15 h0_16 h0_17 r82 hr83) (argsV1 rfl rfl)) rfl ?_ ?_
 rintro _ M84 _ hle85 ⟨_, ⟨rfl, rfl⟩, rfl⟩
 have h0_14 := h0_14.mono hle85
 have h0_15 := h0_15.mono hle85
 have h0_16 := h0_16.mono hle85
 have h0_17 := h0_17.mono hle85
 refine ⟨(StabL.anc rfl (StabL.st (StabA.of rfl (PO.loadB 0 pl3 rfl rfl rfl) rfl) (StabL.st (StabA.of rfl (PO.fieldAddr fo106_4 hs32_1 rfl) rfl) trivial))), ?_⟩
 refine WT.a1 ?_
 obtain ⟨r87, hr88, h⟩ := bnd h
 refine WT.alt rfl (EO.call0 co104 (f_record_number_ok a0.Part r82 (0 : Int) (255 : Int) _ r87 hr88) (args4 rfl rfl rfl rfl)) rfl ?_ ?_
 rintro _ M89 _ hle90 ⟨_, ⟨rfl, rfl⟩, rfl⟩
 have h0_14 := h0_14.mono hle90
 have h0_15 := h0_15.mono hle90
 have h0_16 := h0_16.mono hle90
 have h0_17 := h0_17.mono hle90
 refine ⟨(StabL.anc rfl (StabL.anc rfl (StabL.anc rfl trivial))), ?_⟩
 refine WT.a0 ?_
 refine Tp (.bool (!r87)) rfl (PO.not rfl) rfl ?_
 refine Tp (.bool (!r87)) rfl (PO.assign rfl) rfl ?_
 refine WT.fin ?_
 refine WQ.thenC ?_
 refine WC.cond (b := !r87) rfl (fun hb92 => ?_) (fun hb92 => ?_)
 have h := ite_t hb92 h
 refine Sr ?_
 refine Pu (pt g21 4) (PO.fieldAddr fo106_4 hs32_1 rfl) rfl ?_
 refine Pu (.int .i64 a0.Part) (PO.loadB 0 pl3 rfl rfl rfl) rfl ?_
 obtain ⟨r93, hr94, h⟩ := bnd h
 refine WL.eff (EO.call0 co37 (f_fault_New_ok (⟨#[112, 97, 114, 116]⟩ : ByteArray) a0.Part (2 : Int) _ r93 hr94) (args3 rfl rfl rfl)) rfl ?_
 rintro _ M95 _ hle96 ⟨_, ⟨rfl, rfl⟩, rfl⟩
 have h0_14 := h0_14.mono hle96
 have h0_15 := h0_15.mono hle96
 have h0_16 := h0_16.mono hle96
 have h0_17 := h0_17.mono hle96
 refine WL.a0 ?_
 refine Pa (GV r93) rfl rfl ?_
 refine Nt ?_
 refine WC.ret ?_
 refine WQ.blockR ?_
 refine WQ.thenR ?_
 refine WQ.drop ?_
 exact WQ.returnsF h [] rfl (results1 rfl rfl) ((((((((((hle23.trans hle32).trans hle37).trans hle42).trans hle53).trans hle58).trans hle69).trans hle74).trans hle85).trans hle90).trans hle96) ⟨rfl, rfl⟩
 have h := ite_f hb92 h
 refine WC.seq ?_
 refine WC.draw [0, 1, 0, 4, 15, 31, 63] (.pure 0 (.pure 1 (.pure 2 (.alt 3 (.alt 4 (.pure 5 (.pure 6 .done)) .none) .none)))) mixed (by kernel_rfl) ?_
 refine Tp (pt g21 5) rfl (PO.fieldAddr fo106_5 hs32_1 rfl) rfl ?_
 refine Tp (.int .i64 a0.Leader) rfl (PO.loadB 0 pl3 rfl rfl rfl) rfl ?_
 refine Tp (.func (.func 102) #[] #[(pt g21 0)]) rfl (PO.move hs32_3) rfl ?_
 obtain ⟨r98, hr99, h⟩ := bnd h
 refine WT.alt rfl (EO.callV1 (first := #[]) (cap := #[(pt g21 0)]) co102 rfl (f_record_Check_1_ok (16 : Int) a0 _ _ _ _ _ _ h0_14 h0_15 h0_16 h0_17 r98 hr99) (argsV1 rfl rfl)) rfl ?_ ?_
 rintro _ M100 _ hle101 ⟨_, ⟨rfl, rfl⟩, rfl⟩
 have h0_14 := h0_14.mono hle101
 have h0_15 := h0_15.mono hle101
 have h0_16 := h0_16.mono hle101
 have h0_17 := h0_17.mono hle101
 refine ⟨(StabL.anc rfl (StabL.st (StabA.of rfl (PO.loadB 0 pl3 rfl rfl rfl) rfl) (StabL.st (StabA.of rfl (PO.fieldAddr fo106_5 hs32_1 rfl) rfl) trivial))), ?_⟩
 refine WT.a1 ?_
 obtain ⟨r103, hr104, h⟩ := bnd h
 refine WT.alt rfl (EO.call0 co104 (f_record_number_ok a0.Leader r98 (0 : Int) (64 : Int) _ r103 hr104) (args4 rfl rfl rfl rfl)) rfl ?_ ?_
 rintro _ M105 _ hle106 ⟨_, ⟨rfl, rfl⟩, rfl⟩
 have h0_14 := h0_14.mono hle106
 have h0_15 := h0_15.mono hle106
 have h0_16 := h0_16.mono hle106
 have h0_17 := h0_17.mono hle106
 refine ⟨(StabL.anc rfl (StabL.anc rfl (StabL.anc rfl trivial))), ?_⟩
 refine WT.a0 ?_
 refine Tp (.bool (!r103)) rfl (PO.not rfl) rfl ?_
 refine Tp (.bool (!r103)) rfl (PO.assign rfl) rfl ?_
 refine WT.fin ?_
 refine WQ.thenC ?_
 refine WC.cond (b := !r103) rfl (fun hb108 => ?_) (fun hb108 => ?_)
 have h := ite_t hb108 h
 refine Sr ?_
 refine Pu (pt g21 5) (PO.fieldAddr fo106_5 hs32_1 rfl) rfl ?_
 refine Pu (.int .i64 a0.Leader) (PO.loadB 0 pl3 rfl rfl rfl) rfl ?_
 obtain ⟨r109, hr110, h⟩ := bnd h
 refine WL.eff (EO.call0 co37 (f_fault_New_ok (⟨#[108, 101, 97, 100, 101, 114]⟩ : ByteArray) a0.Leader (2 : Int) _ r109 hr110) (args3 rfl rfl rfl)) rfl ?_
 rintro _ M111 _ hle112 ⟨_, ⟨rfl, rfl⟩, rfl⟩
 have h0_14 := h0_14.mono hle112
 have h0_15 := h0_15.mono hle112
 have h0_16 := h0_16.mono hle112
 have h0_17 := h0_17.mono hle112
 refine WL.a0 ?_
 refine Pa (GV r109) rfl rfl ?_
 refine Nt ?_
 refine WC.ret ?_
 refine WQ.blockR ?_
 refine WQ.thenR ?_
 refine WQ.drop ?_
 exact WQ.returnsF h [] rfl (results1 rfl rfl) ((((((((((((hle23.trans hle32).trans hle37).trans hle42).trans hle53).trans hle58).trans hle69).trans hle74).trans hle85).trans hle90).trans hle101).trans hle106).trans hle112) ⟨rfl, rfl⟩
 have h := ite_f hb108 h
 obtain ⟨x114, hj115, h⟩ := bnd h
 refine WC.joinF (fun (x114 : Bool) ρ' M' H' => M105.le M' ∧ [(g21, .cells (l106 a0 v0_14 v0_15 v0_16 v0_17).toArray 106 (0, 0))] :: F = H' ∧ ρ' 1 = (pt g21 0) ∧ ρ' 3 = (.func (.func 102) #[] #[(pt g21 0)]) ∧ ρ' 5 = (.func (.func 103) #[] #[]) ∧ ρ' 72 = (.bool x114)) x114 ?_ ?_
 have h3115 := h
 have h := hj115
 refine WC.draw [0, 1, 0, 4, 15, 31, 63, 127, 255, 127, 639, 2047, 4095, 8191, 16383, 32767, 65535, 32767, 163839, 524287, 1048575, 2097151, 4194303] (.pure 0 (.pure 1 (.pure 2 (.alt 3 (.alt 4 (.pure 5 (.pure 6 (.pure 7 (.pure 8 (.pure 9 (.alt 10 (.alt 11 (.pure 12 (.pure 13 (.pure 14 (.pure 15 (.pure 16 (.pure 17 (.alt 18 (.alt 19 (.pure 20 (.pure 21 (.pure 22 .done))) .none) .none))))))) .none) .none)))))) .none) .none)))) mixed (by kernel_rfl) ?_
 refine Tp (pt g21 6) rfl (PO.fieldAddr fo106_6 hs32_1 rfl) rfl ?_
 refine Tp (.int .i64 a0.Client) rfl (PO.loadB 0 pl3 rfl rfl rfl) rfl ?_
 refine Tp (.func (.func 102) #[] #[(pt g21 0)]) rfl (PO.move hs32_3) rfl ?_
 obtain ⟨r116, hr117, h⟩ := bnd h
 refine WT.alt rfl (EO.callV1 (first := #[]) (cap := #[(pt g21 0)]) co102 rfl (f_record_Check_1_ok (32 : Int) a0 _ _ _ _ _ _ h0_14 h0_15 h0_16 h0_17 r116 hr117) (argsV1 rfl rfl)) rfl ?_ ?_
 rintro _ M118 _ hle119 ⟨_, ⟨rfl, rfl⟩, rfl⟩
 have h0_14 := h0_14.mono hle119
 have h0_15 := h0_15.mono hle119
 have h0_16 := h0_16.mono hle119
 have h0_17 := h0_17.mono hle119
 refine ⟨(StabL.anc rfl (StabL.st (StabA.of rfl (PO.loadB 0 pl3 rfl rfl rfl) rfl) (StabL.st (StabA.of rfl (PO.fieldAddr fo106_6 hs32_1 rfl) rfl) trivial))), ?_⟩
 refine WT.a1 ?_
 obtain ⟨r121, hr122, h⟩ := bnd h
 refine WT.alt rfl (EO.call0 co104 (f_record_number_ok a0.Client r116 (1 : Int) (1073741824 : Int) _ r121 hr122) (args4 rfl rfl rfl rfl)) rfl ?_ ?_
 rintro _ M123 _ hle124 ⟨_, ⟨rfl, rfl⟩, rfl⟩
 have h0_14 := h0_14.mono hle124
 have h0_15 := h0_15.mono hle124
 have h0_16 := h0_16.mono hle124
 have h0_17 := h0_17.mono hle124
 refine ⟨(StabL.anc rfl (StabL.anc rfl (StabL.anc rfl trivial))), ?_⟩
 refine WT.a0 ?_
 refine Tp (.bool (!r121)) rfl (PO.not rfl) rfl ?_
 refine Tp (.bool (!r121)) rfl (PO.move rfl) rfl ?_
 rcases Bool.eq_false_or_eq_true (!r121) with hb126 | hb126
 have h := ite_t hb126 h
 refine WT.pureOff 79 rfl rfl rfl hb126 rfl ?_
 refine WT.pureOff 79 rfl rfl rfl hb126 rfl ?_
 refine WT.pureOff 79 rfl rfl rfl hb126 rfl ?_
 refine WT.altOff 79 rfl rfl rfl hb126 rfl ⟨(StabL.anc rfl (StabL.st (StabA.off 79 rfl rfl rfl hb126 rfl) (StabL.st (StabA.off 79 rfl rfl rfl hb126 rfl) (StabL.anc rfl (StabL.anc rfl (StabL.anc rfl (StabL.anc rfl (StabL.anc rfl trivial)))))))), ?_⟩ ?_
 refine WT.altOff 79 rfl rfl rfl hb126 rfl ⟨(StabL.anc rfl (StabL.anc rfl (StabL.anc rfl (StabL.anc rfl (StabL.anc rfl (StabL.anc rfl (StabL.anc rfl (StabL.anc rfl trivial)))))))), ?_⟩ ?_
 refine WT.pureOff 79 rfl rfl rfl hb126 rfl ?_
 refine Tp (.bool true) rfl (PO.pickT rfl hb126 rfl) rfl ?_
 refine Tp (.bool true) rfl (PO.move rfl) rfl ?_
 refine WT.pureOff 87 rfl rfl rfl rfl rfl ?_
 refine WT.pureOff 87 rfl rfl rfl rfl rfl ?_
 refine WT.pureOff 87 rfl rfl rfl rfl rfl ?_
 refine WT.altOff 87 rfl rfl rfl rfl rfl ⟨(StabL.anc rfl (StabL.st (StabA.off 87 rfl rfl rfl rfl rfl) (StabL.st (StabA.off 87 rfl rfl rfl rfl rfl) (StabL.anc rfl (StabL.anc rfl (StabL.anc rfl (StabL.anc rfl (StabL.anc rfl (StabL.anc rfl (StabL.anc rfl (StabL.anc rfl (StabL.anc rfl (StabL.anc rfl (StabL.anc rfl trivial)))))))))))))), ?_⟩ ?_
 refine WT.altOff 87 rfl rfl rfl rfl rfl ⟨(StabL.anc rfl (StabL.anc rfl (StabL.anc rfl (StabL.anc rfl (StabL.anc rfl (StabL.anc rfl (StabL.anc rfl (StabL.anc rfl (StabL.anc rfl (StabL.anc rfl (StabL.anc rfl (StabL.anc rfl (StabL.anc rfl (StabL.anc rfl trivial)))))))))))))), ?_⟩ ?_
 refine WT.pureOff 87 rfl rfl rfl rfl rfl ?_
 refine Tp (.bool true) rfl (PO.pickT rfl rfl rfl) rfl ?_
 refine Tp (.bool true) rfl (PO.assign rfl) rfl ?_
 refine WT.fin ?_
 obtain rfl := Option.some.inj h
 refine WQ.thenJ ?_
 exact ⟨(hle119.trans hle124), rfl, hs32_1, hs32_3, rfl, rfl⟩
 exact WT.no
 exact WT.no
 exact WT.no
 exact WT.no
 have h := ite_f hb126 h
 refine Tn (pt g21 7) 79 rfl rfl rfl hb126 (PO.fieldAddr fo106_7 hs32_1 rfl) rfl ?_
 refine Tn (.int .i64 a0.Serial) 79 rfl rfl rfl hb126 (PO.loadB 0 pl3 rfl rfl rfl) rfl ?_
 refine Tn (.func (.func 102) #[] #[(pt g21 0)]) 79 rfl rfl rfl hb126 (PO.move hs32_3) rfl ?_
 obtain ⟨r127, hr128, h⟩ := bnd h
 refine WT.altOn 79 rfl rfl rfl hb126 (EO.callV1 (first := #[]) (cap := #[(pt g21 0)]) co102 rfl (f_record_Check_1_ok (32 : Int) a0 _ _ _ _ _ _ h0_14 h0_15 h0_16 h0_17 r127 hr128) (argsV1 rfl rfl)) rfl ?_ ?_
 rintro _ M129 _ hle130 ⟨_, ⟨rfl, rfl⟩, rfl⟩
 have h0_14 := h0_14.mono hle130
 have h0_15 := h0_15.mono hle130
 have h0_16 := h0_16.mono hle130
 have h0_17 := h0_17.mono hle130
 refine ⟨(StabL.anc rfl (StabL.st (StabA.on 79 rfl rfl rfl hb126 (PO.loadB 0 pl3 rfl rfl rfl) rfl) (StabL.st (StabA.on 79 rfl rfl rfl hb126 (PO.fieldAddr fo106_7 hs32_1 rfl) rfl) (StabL.anc rfl (StabL.anc rfl (StabL.anc rfl (StabL.anc rfl (StabL.anc rfl trivial)))))))), ?_⟩
 refine WT.a1 ?_
 obtain ⟨r132, hr133, h⟩ := bnd h
 refine WT.altOn 79 rfl rfl rfl hb126 (EO.call0 co104 (f_record_number_ok a0.Serial r127 (1 : Int) (1073741824 : Int) _ r132 hr133) (args4 rfl rfl rfl rfl)) rfl ?_ ?_
 rintro _ M134 _ hle135 ⟨_, ⟨rfl, rfl⟩, rfl⟩
 have h0_14 := h0_14.mono hle135
 have h0_15 := h0_15.mono hle135
 have h0_16 := h0_16.mono hle135
 have h0_17 := h0_17.mono hle135
 refine ⟨(StabL.anc rfl (StabL.anc rfl (StabL.anc rfl (StabL.anc rfl (StabL.anc rfl (StabL.anc rfl (StabL.anc rfl (StabL.anc rfl trivial)))))))), ?_⟩
 refine WT.a0 ?_
 refine Tn (.bool (!r132)) 79 rfl rfl rfl hb126 (PO.not rfl) rfl ?_
 refine Tp (.bool (!r132)) rfl (PO.pickF rfl hb126 rfl) rfl ?_
 refine Tp (.bool (!r132)) rfl (PO.move rfl) rfl ?_
 rcases Bool.eq_false_or_eq_true (!r132) with hb137 | hb137
 have h := ite_t hb137 h
 refine WT.pureOff 87 rfl rfl rfl hb137 rfl ?_
 refine WT.pureOff 87 rfl rfl rfl hb137 rfl ?_
 refine WT.pureOff 87 rfl rfl rfl hb137 rfl ?_
 refine WT.altOff 87 rfl rfl rfl hb137 rfl ⟨(StabL.anc rfl (StabL.st (StabA.off 87 rfl rfl rfl hb137 rfl) (StabL.st (StabA.off 87 rfl rfl rfl hb137 rfl) (StabL.anc rfl (StabL.anc rfl (StabL.anc rfl (StabL.anc rfl (StabL.anc rfl (StabL.anc rfl (StabL.anc rfl (StabL.anc rfl (StabL.anc rfl (StabL.anc rfl (StabL.anc rfl trivial)))))))))))))), ?_⟩ ?_
 refine WT.altOff 87 rfl rfl rfl hb137 rfl ⟨(StabL.anc rfl (StabL.anc rfl (StabL.anc rfl (StabL.anc rfl (StabL.anc rfl (StabL.anc rfl (StabL.anc rfl (StabL.anc rfl (StabL.anc rfl (StabL.anc rfl (StabL.anc rfl (StabL.anc rfl (StabL.anc rfl (StabL.anc rfl trivial)))))))))))))), ?_⟩ ?_
 refine WT.pureOff 87 rfl rfl rfl hb137 rfl ?_
 refine Tp (.bool true) rfl (PO.pickT rfl hb137 rfl) rfl ?_
 refine Tp (.bool true) rfl (PO.assign rfl) rfl ?_
 refine WT.fin ?_
 obtain rfl := Option.some.inj h
 refine WQ.thenJ ?_
 exact ⟨(((hle119.trans hle124).trans hle130).trans hle135), rfl, hs32_1, hs32_3, rfl, rfl⟩
 exact WT.no
 exact WT.no
 have h := ite_f hb137 h
 refine Tn (pt g21 8) 87 rfl rfl rfl hb137 (PO.fieldAddr fo106_8 hs32_1 rfl) rfl ?_
 refine Tn (.int .i64 a0.Code) 87 rfl rfl rfl hb137 (PO.loadB 0 pl3 rfl rfl rfl) rfl ?_
 refine Tn (.func (.func 102) #[] #[(pt g21 0)]) 87 rfl rfl rfl hb137 (PO.move hs32_3) rfl ?_
 obtain ⟨r138, hr139, h⟩ := bnd h
 refine WT.altOn 87 rfl rfl rfl hb137 (EO.callV1 (first := #[]) (cap := #[(pt g21 0)]) co102 rfl (f_record_Check_1_ok (32 : Int) a0 _ _ _ _ _ _ h0_14 h0_15 h0_16 h0_17 r138 hr139) (argsV1 rfl rfl)) rfl ?_ ?_
 rintro _ M140 _ hle141 ⟨_, ⟨rfl, rfl⟩, rfl⟩
 have h0_14 := h0_14.mono hle141
 have h0_15 := h0_15.mono hle141
 have h0_16 := h0_16.mono hle141
 have h0_17 := h0_17.mono hle141
 refine ⟨(StabL.anc rfl (StabL.st (StabA.on 87 rfl rfl rfl hb137 (PO.loadB 0 pl3 rfl rfl rfl) rfl) (StabL.st (StabA.on 87 rfl rfl rfl hb137 (PO.fieldAddr fo106_8 hs32_1 rfl) rfl) (StabL.anc rfl (StabL.anc rfl (StabL.anc rfl (StabL.anc rfl (StabL.anc rfl (StabL.anc rfl (StabL.anc rfl (StabL.anc rfl (StabL.anc rfl (StabL.anc rfl (StabL.anc rfl trivial)))))))))))))), ?_⟩
 refine WT.a1 ?_
 obtain ⟨r143, hr144, h⟩ := bnd h
 refine WT.altOn 87 rfl rfl rfl hb137 (EO.call0 co104 (f_record_number_ok a0.Code r138 (0 : Int) (21 : Int) _ r143 hr144) (args4 rfl rfl rfl rfl)) rfl ?_ ?_
 rintro _ M145 _ hle146 ⟨_, ⟨rfl, rfl⟩, rfl⟩
 have h0_14 := h0_14.mono hle146
 have h0_15 := h0_15.mono hle146
 have h0_16 := h0_16.mono hle146
 have h0_17 := h0_17.mono hle146
 refine ⟨(StabL.anc rfl (StabL.anc rfl (StabL.anc rfl (StabL.anc rfl (StabL.anc rfl (StabL.anc rfl (StabL.anc rfl (StabL.anc rfl (StabL.anc rfl (StabL.anc rfl (StabL.anc rfl (StabL.anc rfl (StabL.anc rfl (StabL.anc rfl trivial)))))))))))))), ?_⟩
 refine WT.a0 ?_
 refine Tn (.bool (!r143)) 87 rfl rfl rfl hb137 (PO.not rfl) rfl ?_
 refine Tp (.bool (!r143)) rfl (PO.pickF rfl hb137 rfl) rfl ?_
 refine Tp (.bool (!r143)) rfl (PO.assign rfl) rfl ?_
 refine WT.fin ?_
 obtain rfl := Option.some.inj h
 refine WQ.thenJ ?_
 exact ⟨(((((hle119.trans hle124).trans hle130).trans hle135).trans hle141).trans hle146), rfl, hs32_1, hs32_3, rfl, rfl⟩
 exact WT.no
 exact WT.no
 exact WT.no
 exact WT.no
 exact WT.no
 exact WT.no
 rintro ρ115 M115 H115 ⟨hle115, rfl, hs115_1, hs115_3, hs115_5, hs115_72⟩
 have h0_14 := h0_14.mono hle115
 have h0_15 := h0_15.mono hle115
 have h0_16 := h0_16.mono hle115
 have h0_17 := h0_17.mono hle115
 refine WC.cond (b := x114) hs115_72 (fun hb148 => ?_) (fun hb148 => ?_)
 have h := ite_t hb148 h
 refine Sr ?_
 refine Pu (pt g21 6) (PO.fieldAddr fo106_6 hs115_1 rfl) rfl ?_
 refine Pu (.int .i64 a0.Client) (PO.loadB 0 pl3 rfl rfl rfl) rfl ?_
 obtain ⟨r149, hr150, h⟩ := bnd h
 refine WL.eff (EO.call0 co37 (f_fault_New_ok (⟨#[97, 115, 107, 101, 114]⟩ : ByteArray) a0.Client (2 : Int) _ r149 hr150) (args3 rfl rfl rfl)) rfl ?_
 rintro _ M151 _ hle152 ⟨_, ⟨rfl, rfl⟩, rfl⟩
 have h0_14 := h0_14.mono hle152
 have h0_15 := h0_15.mono hle152
 have h0_16 := h0_16.mono hle152
 have h0_17 := h0_17.mono hle152
 refine WL.a0 ?_
 refine Pa (GV r149) rfl rfl ?_
 refine Nt ?_
 refine WC.ret ?_
 refine WQ.blockR ?_
 refine WQ.thenR ?_
 refine WQ.drop ?_
 exact WQ.returnsF h [] rfl (results1 rfl rfl) (((((((((((((hle23.trans hle32).trans hle37).trans hle42).trans hle53).trans hle58).trans hle69).trans hle74).trans hle85).trans hle90).trans hle101).trans hle106).trans hle115).trans hle152) ⟨rfl, rfl⟩
 have h := ite_f hb148 h
 obtain ⟨x154, hj155, h⟩ := bnd h
 refine WC.joinF (fun (x154 : Bool) ρ' M' H' => M115.le M' ∧ [(g21, .cells (l106 a0 v0_14 v0_15 v0_16 v0_17).toArray 106 (0, 0))] :: F = H' ∧ ρ' 1 = (pt g21 0) ∧ ρ' 3 = (.func (.func 102) #[] #[(pt g21 0)]) ∧ ρ' 5 = (.func (.func 103) #[] #[]) ∧ ρ' 98 = (.bool x154)) x154 ?_ ?_
 have h3155 := h
 have h := hj155
 refine WC.region ?_
 refine Pm (.func (.func 102) #[] #[(pt g21 0)]) hs115_3 rfl ?_
 obtain ⟨r156, hr157, h⟩ := bnd h
 refine WL.eff (EO.callV1 (first := #[]) (cap := #[(pt g21 0)]) co102 rfl (f_record_Check_1_ok (64 : Int) a0 _ _ _ _ _ _ h0_14 h0_15 h0_16 h0_17 r156 hr157) (argsV1 rfl rfl)) rfl ?_
 rintro _ M158 _ hle159 ⟨_, ⟨rfl, rfl⟩, rfl⟩
 have h0_14 := h0_14.mono hle159
 have h0_15 := h0_15.mono hle159
 have h0_16 := h0_16.mono hle159
 have h0_17 := h0_17.mono hle159
 refine WL.a1 ?_
 refine Pu (.bool (!r156)) (PO.not rfl) rfl ?_
 refine Pm (.bool (!r156)) rfl rfl ?_
 rcases Bool.eq_false_or_eq_true (!r156) with hb161 | hb161
 have h := ite_t hb161 h
 refine On 102 rfl rfl hb161 ?_
 refine Pu (pt g21 9) (PO.fieldAddr fo106_9 hs115_1 rfl) rfl ?_
 refine On 102 rfl rfl hb161 ?_
 refine Pu (.bool a0.Flag) (PO.loadB 0 pl4 rfl rfl rfl) rfl ?_
 refine Pu (.bool a0.Flag) (PO.pickT rfl hb161 rfl) rfl ?_
 refine Pa (.bool a0.Flag) rfl rfl ?_
 refine WL.nil ?_
 obtain rfl := Option.some.inj h
 refine WQ.thenJ ?_
 exact ⟨hle159, rfl, hs115_1, hs115_3, hs115_5, rfl⟩
 have h := ite_f hb161 h
 iterate 2 refine Of 102 rfl rfl hb161 rfl ?_
 refine Pu (.bool false) (PO.pickF rfl hb161 rfl) rfl ?_
 refine Pa (.bool false) rfl rfl ?_
 refine WL.nil ?_
 obtain rfl := Option.some.inj h
 refine WQ.thenJ ?_
 exact ⟨hle159, rfl, hs115_1, hs115_3, hs115_5, rfl⟩
 rintro ρ155 M155 H155 ⟨hle155, rfl, hs155_1, hs155_3, hs155_5, hs155_98⟩
 have h0_14 := h0_14.mono hle155
 have h0_15 := h0_15.mono hle155
 have h0_16 := h0_16.mono hle155
 have h0_17 := h0_17.mono hle155
 refine WC.cond (b := x154) hs155_98 (fun hb162 => ?_) (fun hb162 => ?_)
 have h := ite_t hb162 h
 refine Sr ?_
 obtain ⟨r163, hr164, h⟩ := bnd h
 refine WL.eff (EO.call0 co37 (f_fault_New_ok (⟨#[102, 108, 97, 103]⟩ : ByteArray) (1 : Int) (1 : Int) _ r163 hr164) (args3 rfl rfl rfl)) rfl ?_
 rintro _ M165 _ hle166 ⟨_, ⟨rfl, rfl⟩, rfl⟩
 have h0_14 := h0_14.mono hle166
 have h0_15 := h0_15.mono hle166
 have h0_16 := h0_16.mono hle166
 have h0_17 := h0_17.mono hle166
 refine WL.a0 ?_
 refine Pa (GV r163) rfl rfl ?_
 refine Nt ?_
 refine WC.ret ?_
 refine WQ.blockR ?_
 refine WQ.thenR ?_
 refine WQ.drop ?_
 exact WQ.returnsF h [] rfl (results1 rfl rfl) ((((((((((((((hle23.trans hle32).trans hle37).trans hle42).trans hle53).trans hle58).trans hle69).trans hle74).trans hle85).trans hle90).trans hle101).trans hle106).trans hle115).trans hle155).trans hle166) ⟨rfl, rfl⟩
 have h := ite_f hb162 h
 obtain ⟨x168, hj169, h⟩ := bnd h
 refine WC.joinF (fun (x168 : Bool) ρ' M' H' => M155.le M' ∧ [(g21, .cells (l106 a0 v0_14 v0_15 v0_16 v0_17).toArray 106 (0, 0))] :: F = H' ∧ ρ' 1 = (pt g21 0) ∧ ρ' 3 = (.func (.func 102) #[] #[(pt g21 0)]) ∧ ρ' 5 = (.func (.func 103) #[] #[]) ∧ ρ' 107 = (.bool x168)) x168 ?_ ?_
 have h3169 := h
 have h := hj169
 refine WC.draw [0, 1, 0, 4, 15, 31, 63, 127, 255, 127, 639, 2047, 4095, 8191, 16383, 32767, 65535, 32767, 163839, 524287, 1048575, 2097151, 4194303] (.pure 0 (.pure 1 (.pure 2 (.alt 3 (.alt 4 (.pure 5 (.pure 6 (.pure 7 (.pure 8 (.pure 9 (.alt 10 (.alt 11 (.pure 12 (.pure 13 (.pure 14 (.pure 15 (.pure 16 (.pure 17 (.alt 18 (.alt 19 (.pure 20 (.pure 21 (.pure 22 .done))) .none) .none))))))) .none) .none)))))) .none) .none)))) mixed (by kernel_rfl) ?_
 refine Tp (pt g21 10) rfl (PO.fieldAddr fo106_10 hs155_1 rfl) rfl ?_
 refine Tp (.string a0.Name) rfl (PO.loadB 0 pl9 rfl rfl rfl) rfl ?_
 refine Tp (.func (.func 102) #[] #[(pt g21 0)]) rfl (PO.move hs155_3) rfl ?_
 obtain ⟨r170, hr171, h⟩ := bnd h
 refine WT.alt rfl (EO.callV1 (first := #[]) (cap := #[(pt g21 0)]) co102 rfl (f_record_Check_1_ok (128 : Int) a0 _ _ _ _ _ _ h0_14 h0_15 h0_16 h0_17 r170 hr171) (argsV1 rfl rfl)) rfl ?_ ?_
 rintro _ M172 _ hle173 ⟨_, ⟨rfl, rfl⟩, rfl⟩
 have h0_14 := h0_14.mono hle173
 have h0_15 := h0_15.mono hle173
 have h0_16 := h0_16.mono hle173
 have h0_17 := h0_17.mono hle173
 refine ⟨(StabL.anc rfl (StabL.st (StabA.of rfl (PO.loadB 0 pl9 rfl rfl rfl) rfl) (StabL.st (StabA.of rfl (PO.fieldAddr fo106_10 hs155_1 rfl) rfl) trivial))), ?_⟩
 refine WT.a1 ?_
 obtain ⟨r175, hr176, h⟩ := bnd h
 refine WT.alt rfl (EO.call0 co105 (f_record_text_106_ok a0.Name r170 _ r175 hr176) (args3 rfl rfl rfl)) rfl ?_ ?_
 rintro _ M177 _ hle178 ⟨_, ⟨rfl, rfl⟩, rfl⟩
 have h0_14 := h0_14.mono hle178
 have h0_15 := h0_15.mono hle178
 have h0_16 := h0_16.mono hle178
 have h0_17 := h0_17.mono hle178
 refine ⟨(StabL.anc rfl (StabL.anc rfl (StabL.anc rfl trivial))), ?_⟩
 refine WT.a0 ?_
 refine Tp (.bool (!r175)) rfl (PO.not rfl) rfl ?_
 refine Tp (.bool (!r175)) rfl (PO.move rfl) rfl ?_
 rcases Bool.eq_false_or_eq_true (!r175) with hb180 | hb180
 have h := ite_t hb180 h
 refine WT.pureOff 114 rfl rfl rfl hb180 rfl ?_
 refine WT.pureOff 114 rfl rfl rfl hb180 rfl ?_
 refine WT.pureOff 114 rfl rfl rfl hb180 rfl ?_
 refine WT.altOff 114 rfl rfl rfl hb180 rfl ⟨(StabL.anc rfl (StabL.st (StabA.off 114 rfl rfl rfl hb180 rfl) (StabL.st (StabA.off 114 rfl rfl rfl hb180 rfl) (StabL.anc rfl (StabL.anc rfl (StabL.anc rfl (StabL.anc rfl (StabL.anc rfl trivial)))))))), ?_⟩ ?_
 refine WT.altOff 114 rfl rfl rfl hb180 rfl ⟨(StabL.anc rfl (StabL.anc rfl (StabL.anc rfl (StabL.anc rfl (StabL.anc rfl (StabL.anc rfl (StabL.anc rfl (StabL.anc rfl trivial)))))))), ?_⟩ ?_
 refine WT.pureOff 114 rfl rfl rfl hb180 rfl ?_
 refine Tp (.bool true) rfl (PO.pickT rfl hb180 rfl) rfl ?_
 refine Tp (.bool true) rfl (PO.move rfl) rfl ?_
 refine WT.pureOff 122 rfl rfl rfl rfl rfl ?_
 refine WT.pureOff 122 rfl rfl rfl rfl rfl ?_
 refine WT.pureOff 122 rfl rfl rfl rfl rfl ?_
 refine WT.altOff 122 rfl rfl rfl rfl rfl ⟨(StabL.anc rfl (StabL.st (StabA.off 122 rfl rfl rfl rfl rfl) (StabL.st (StabA.off 122 rfl rfl rfl rfl rfl) (StabL.anc rfl (StabL.anc rfl (StabL.anc rfl (StabL.anc rfl (StabL.anc rfl (StabL.anc rfl (StabL.anc rfl (StabL.anc rfl (StabL.anc rfl (StabL.anc rfl (StabL.anc rfl trivial)))))))))))))), ?_⟩ ?_
 refine WT.altOff 122 rfl rfl rfl rfl rfl ⟨(StabL.anc rfl (StabL.anc rfl (StabL.anc rfl (StabL.anc rfl (StabL.anc rfl (StabL.anc rfl (StabL.anc rfl (StabL.anc rfl (StabL.anc rfl (StabL.anc rfl (StabL.anc rfl (StabL.anc rfl (StabL.anc rfl (StabL.anc rfl trivial)))))))))))))), ?_⟩ ?_
 refine WT.pureOff 122 rfl rfl rfl rfl rfl ?_
 refine Tp (.bool true) rfl (PO.pickT rfl rfl rfl) rfl ?_
 refine Tp (.bool true) rfl (PO.assign rfl) rfl ?_
 refine WT.fin ?_
 obtain rfl := Option.some.inj h
 refine WQ.thenJ ?_
 exact ⟨(hle173.trans hle178), rfl, hs155_1, hs155_3, hs155_5, rfl⟩
 exact WT.no
 exact WT.no
 exact WT.no
 exact WT.no
 have h := ite_f hb180 h
 refine Tn (pt g21 11) 114 rfl rfl rfl hb180 (PO.fieldAddr fo106_11 hs155_1 rfl) rfl ?_
 refine Tn (.string a0.Key) 114 rfl rfl rfl hb180 (PO.loadB 0 pl9 rfl rfl rfl) rfl ?_
 refine Tn (.func (.func 102) #[] #[(pt g21 0)]) 114 rfl rfl rfl hb180 (PO.move hs155_3) rfl ?_
 obtain ⟨r181, hr182, h⟩ := bnd h
 refine WT.altOn 114 rfl rfl rfl hb180 (EO.callV1 (first := #[]) (cap := #[(pt g21 0)]) co102 rfl (f_record_Check_1_ok (256 : Int) a0 _ _ _ _ _ _ h0_14 h0_15 h0_16 h0_17 r181 hr182) (argsV1 rfl rfl)) rfl ?_ ?_
 rintro _ M183 _ hle184 ⟨_, ⟨rfl, rfl⟩, rfl⟩
 have h0_14 := h0_14.mono hle184
 have h0_15 := h0_15.mono hle184
 have h0_16 := h0_16.mono hle184
 have h0_17 := h0_17.mono hle184
 refine ⟨(StabL.anc rfl (StabL.st (StabA.on 114 rfl rfl rfl hb180 (PO.loadB 0 pl9 rfl rfl rfl) rfl) (StabL.st (StabA.on 114 rfl rfl rfl hb180 (PO.fieldAddr fo106_11 hs155_1 rfl) rfl) (StabL.anc rfl (StabL.anc rfl (StabL.anc rfl (StabL.anc rfl (StabL.anc rfl trivial)))))))), ?_⟩
 refine WT.a1 ?_
 obtain ⟨r186, hr187, h⟩ := bnd h
 refine WT.altOn 114 rfl rfl rfl hb180 (EO.call0 co105 (f_record_text_106_ok a0.Key r181 _ r186 hr187) (args3 rfl rfl rfl)) rfl ?_ ?_
 rintro _ M188 _ hle189 ⟨_, ⟨rfl, rfl⟩, rfl⟩
 have h0_14 := h0_14.mono hle189
 have h0_15 := h0_15.mono hle189
 have h0_16 := h0_16.mono hle189
 have h0_17 := h0_17.mono hle189
 refine ⟨(StabL.anc rfl (StabL.anc rfl (StabL.anc rfl (StabL.anc rfl (StabL.anc rfl (StabL.anc rfl (StabL.anc rfl (StabL.anc rfl trivial)))))))), ?_⟩
 refine WT.a0 ?_
 refine Tn (.bool (!r186)) 114 rfl rfl rfl hb180 (PO.not rfl) rfl ?_
 refine Tp (.bool (!r186)) rfl (PO.pickF rfl hb180 rfl) rfl ?_
 refine Tp (.bool (!r186)) rfl (PO.move rfl) rfl ?_
 rcases Bool.eq_false_or_eq_true (!r186) with hb191 | hb191
 have h := ite_t hb191 h
 refine WT.pureOff 122 rfl rfl rfl hb191 rfl ?_
 refine WT.pureOff 122 rfl rfl rfl hb191 rfl ?_
 refine WT.pureOff 122 rfl rfl rfl hb191 rfl ?_
 refine WT.altOff 122 rfl rfl rfl hb191 rfl ⟨(StabL.anc rfl (StabL.st (StabA.off 122 rfl rfl rfl hb191 rfl) (StabL.st (StabA.off 122 rfl rfl rfl hb191 rfl) (StabL.anc rfl (StabL.anc rfl (StabL.anc rfl (StabL.anc rfl (StabL.anc rfl (StabL.anc rfl (StabL.anc rfl (StabL.anc rfl (StabL.anc rfl (StabL.anc rfl (StabL.anc rfl trivial)))))))))))))), ?_⟩ ?_
 refine WT.altOff 122 rfl rfl rfl hb191 rfl ⟨(StabL.anc rfl (StabL.anc rfl (StabL.anc rfl (StabL.anc rfl (StabL.anc rfl (StabL.anc rfl (StabL.anc rfl (StabL.anc rfl (StabL.anc rfl (StabL.anc rfl (StabL.anc rfl (StabL.anc rfl (StabL.anc rfl (StabL.anc rfl trivial)))))))))))))), ?_⟩ ?_
 refine WT.pureOff 122 rfl rfl rfl hb191 rfl ?_
 refine Tp (.bool true) rfl (PO.pickT rfl hb191 rfl) rfl ?_
 refine Tp (.bool true) rfl (PO.assign rfl) rfl ?_
 refine WT.fin ?_
 obtain rfl := Option.some.inj h
 refine WQ.thenJ ?_
 exact ⟨(((hle173.trans hle178).trans hle184).trans hle189), rfl, hs155_1, hs155_3, hs155_5, rfl⟩
 exact WT.no
 exact WT.no
 have h := ite_f hb191 h
 refine Tn (pt g21 13) 122 rfl rfl rfl hb191 (PO.fieldAddr fo106_13 hs155_1 rfl) rfl ?_
 refine Tn (.string a0.Rack) 122 rfl rfl rfl hb191 (PO.loadB 0 pl9 rfl rfl rfl) rfl ?_
 refine Tn (.func (.func 102) #[] #[(pt g21 0)]) 122 rfl rfl rfl hb191 (PO.move hs155_3) rfl ?_
 obtain ⟨r192, hr193, h⟩ := bnd h
 refine WT.altOn 122 rfl rfl rfl hb191 (EO.callV1 (first := #[]) (cap := #[(pt g21 0)]) co102 rfl (f_record_Check_1_ok (1024 : Int) a0 _ _ _ _ _ _ h0_14 h0_15 h0_16 h0_17 r192 hr193) (argsV1 rfl rfl)) rfl ?_ ?_
 rintro _ M194 _ hle195 ⟨_, ⟨rfl, rfl⟩, rfl⟩
 have h0_14 := h0_14.mono hle195
 have h0_15 := h0_15.mono hle195
 have h0_16 := h0_16.mono hle195
 have h0_17 := h0_17.mono hle195
 refine ⟨(StabL.anc rfl (StabL.st (StabA.on 122 rfl rfl rfl hb191 (PO.loadB 0 pl9 rfl rfl rfl) rfl) (StabL.st (StabA.on 122 rfl rfl rfl hb191 (PO.fieldAddr fo106_13 hs155_1 rfl) rfl) (StabL.anc rfl (StabL.anc rfl (StabL.anc rfl (StabL.anc rfl (StabL.anc rfl (StabL.anc rfl (StabL.anc rfl (StabL.anc rfl (StabL.anc rfl (StabL.anc rfl (StabL.anc rfl trivial)))))))))))))), ?_⟩
 refine WT.a1 ?_
 obtain ⟨r197, hr198, h⟩ := bnd h
 refine WT.altOn 122 rfl rfl rfl hb191 (EO.call0 co105 (f_record_text_106_ok a0.Rack r192 _ r197 hr198) (args3 rfl rfl rfl)) rfl ?_ ?_
 rintro _ M199 _ hle200 ⟨_, ⟨rfl, rfl⟩, rfl⟩
 have h0_14 := h0_14.mono hle200
 have h0_15 := h0_15.mono hle200
 have h0_16 := h0_16.mono hle200
 have h0_17 := h0_17.mono hle200
 refine ⟨(StabL.anc rfl (StabL.anc rfl (StabL.anc rfl (StabL.anc rfl (StabL.anc rfl (StabL.anc rfl (StabL.anc rfl (StabL.anc rfl (StabL.anc rfl (StabL.anc rfl (StabL.anc rfl (StabL.anc rfl (StabL.anc rfl (StabL.anc rfl trivial)))))))))))))), ?_⟩
 refine WT.a0 ?_
 refine Tn (.bool (!r197)) 122 rfl rfl rfl hb191 (PO.not rfl) rfl ?_
 refine Tp (.bool (!r197)) rfl (PO.pickF rfl hb191 rfl) rfl ?_
 refine Tp (.bool (!r197)) rfl (PO.assign rfl) rfl ?_
 refine WT.fin ?_
 obtain rfl := Option.some.inj h
 refine WQ.thenJ ?_
 exact ⟨(((((hle173.trans hle178).trans hle184).trans hle189).trans hle195).trans hle200), rfl, hs155_1, hs155_3, hs155_5, rfl⟩
 exact WT.no
 exact WT.no
 exact WT.no
 exact WT.no
 exact WT.no
 exact WT.no
 rintro ρ169 M169 H169 ⟨hle169, rfl, hs169_1, hs169_3, hs169_5, hs169_107⟩
 have h0_14 := h0_14.mono hle169
 have h0_15 := h0_15.mono hle169
 have h0_16 := h0_16.mono hle169
 have h0_17 := h0_17.mono hle169
 refine WC.cond (b := x168) hs169_107 (fun hb202 => ?_) (fun hb202 => ?_)
 have h := ite_t hb202 h
 refine Sr ?_
 refine Pu (pt g21 10) (PO.fieldAddr fo106_10 hs169_1 rfl) rfl ?_
 refine Pu (.string a0.Name) (PO.loadB 0 pl9 rfl rfl rfl) rfl ?_
 refine Pu (.int .i64 (a0.Name.size : Int)) (PO.lenStr Tryd.underlying9 rfl) rfl ?_
 obtain ⟨r203, hr204, h⟩ := bnd h
 refine WL.eff (EO.call0 co37 (f_fault_New_ok (⟨#[110, 97, 109, 101]⟩ : ByteArray) (a0.Name.size : Int) (1 : Int) _ r203 hr204) (args3 rfl rfl rfl)) rfl ?_
 rintro _ M205 _ hle206 ⟨_, ⟨rfl, rfl⟩, rfl⟩
 have h0_14 := h0_14.mono hle206
 have h0_15 := h0_15.mono hle206
 have h0_16 := h0_16.mono hle206
 have h0_17 := h0_17.mono hle206
 refine WL.a0 ?_
 refine Pa (GV r203) rfl rfl ?_
 refine Nt ?_
 refine WC.ret ?_
 refine WQ.blockR ?_
 refine WQ.thenR ?_
 refine WQ.drop ?_
 exact WQ.returnsF h [] rfl (results1 rfl rfl) (((((((((((((((hle23.trans hle32).trans hle37).trans hle42).trans hle53).trans hle58).trans hle69).trans hle74).trans hle85).trans hle90).trans hle101).trans hle106).trans hle115).trans hle155).trans hle169).trans hle206) ⟨rfl, rfl⟩
 have h := ite_f hb202 h
 obtain ⟨x208, hj209, h⟩ := bnd h
 refine WC.joinF (fun (x208 : Bool) ρ' M' H' => M169.le M' ∧ [(g21, .cells (l106 a0 v0_14 v0_15 v0_16 v0_17).toArray 106 (0, 0))] :: F = H' ∧ ρ' 1 = (pt g21 0) ∧ ρ' 3 = (.func (.func 102) #[] #[(pt g21 0)]) ∧ ρ' 134 = (.bool x208)) x208 ?_ ?_
 have h3209 := h
 have h := hj209
 refine WC.draw [0, 1, 0, 4, 0, 31, 63, 127, 255, 511, 1023, 2047, 4095, 8191, 16383, 32767, 65535] (.pure 0 (.pure 1 (.pure 2 (.pure 4 (.alt 3 (.alt 5 (.pure 6 (.pure 7 (.pure 8 (.pure 9 (.pure 10 (.pure 11 (.pure 12 (.pure 13 (.pure 14 (.pure 15 (.pure 16 .done))))))))))) .none) .none))))) mixed (by kernel_rfl) ?_
 refine Tp (pt g21 12) rfl (PO.fieldAddr fo106_12 hs169_1 rfl) rfl ?_
 refine Tp (.string a0.Value) rfl (PO.loadB 0 pl9 rfl rfl rfl) rfl ?_
 refine Tp (.func (.func 102) #[] #[(pt g21 0)]) rfl (PO.move hs169_3) rfl ?_
 refine Tp (.func (.func 103) #[] #[]) rfl (PO.move hs169_5) rfl ?_
 obtain ⟨r210, hr211, h⟩ := bnd h
 refine WT.alt rfl (EO.callV1 (first := #[]) (cap := #[(pt g21 0)]) co102 rfl (f_record_Check_1_ok (512 : Int) a0 _ _ _ _ _ _ h0_14 h0_15 h0_16 h0_17 r210 hr211) (argsV1 rfl rfl)) rfl ?_ ?_
 rintro _ M212 _ hle213 ⟨_, ⟨rfl, rfl⟩, rfl⟩
 have h0_14 := h0_14.mono hle213
 have h0_15 := h0_15.mono hle213
 have h0_16 := h0_16.mono hle213
 have h0_17 := h0_17.mono hle213
 refine ⟨(StabL.st (StabA.of rfl (PO.move hs169_5) rfl) (StabL.anc rfl (StabL.st (StabA.of rfl (PO.loadB 0 pl9 rfl rfl rfl) rfl) (StabL.st (StabA.of rfl (PO.fieldAddr fo106_12 hs169_1 rfl) rfl) trivial)))), ?_⟩
 refine WT.a1 ?_
 obtain ⟨r215, hr216, h⟩ := bnd h
 refine WT.alt rfl (EO.call0 co105 (f_record_text_103_ok a0.Value r210 _ r215 hr216) (args3 rfl rfl rfl)) rfl ?_ ?_
 rintro _ M217 _ hle218 ⟨_, ⟨rfl, rfl⟩, rfl⟩
 have h0_14 := h0_14.mono hle218
 have h0_15 := h0_15.mono hle218
 have h0_16 := h0_16.mono hle218
 have h0_17 := h0_17.mono hle218
 refine ⟨(StabL.anc rfl (StabL.anc rfl (StabL.anc rfl (StabL.anc rfl trivial)))), ?_⟩
 refine WT.a0 ?_
 refine Tp (.bool (!r215)) rfl (PO.not rfl) rfl ?_
 refine Tp (.bool (!r215)) rfl (PO.move rfl) rfl ?_
 rcases Bool.eq_false_or_eq_true (!r215) with hb220 | hb220
 have h := ite_t hb220 h
 refine WT.pureOff 142 rfl rfl rfl hb220 rfl ?_
 refine WT.pureOff 142 rfl rfl rfl hb220 rfl ?_
 refine WT.pureOff 142 rfl rfl rfl hb220 rfl ?_
 refine WT.pureOffU 145 rfl rfl rfl  rfl ?_
 refine WT.pureOffU 145 rfl rfl rfl  rfl ?_
 refine WT.pureOffU 145 rfl rfl rfl  rfl ?_
 refine WT.pureOff 142 rfl rfl rfl hb220 rfl ?_
 refine Tp (.bool true) rfl (PO.pickT rfl hb220 rfl) rfl ?_
 refine Tp (.bool true) rfl (PO.assign rfl) rfl ?_
 refine WT.fin ?_
 obtain rfl := Option.some.inj h
 refine WQ.thenJ ?_
 exact ⟨(hle213.trans hle218), rfl, hs169_1, hs169_3, rfl⟩
 have h := ite_f hb220 h
 refine Tn (pt g21 9) 142 rfl rfl rfl hb220 (PO.fieldAddr fo106_9 hs169_1 rfl) rfl ?_
 refine Tn (.bool a0.Flag) 142 rfl rfl rfl hb220 (PO.loadB 0 pl4 rfl rfl rfl) rfl ?_
 refine Tn (.bool a0.Flag) 142 rfl rfl rfl hb220 (PO.move rfl) rfl ?_
 rcases Bool.eq_false_or_eq_true (a0.Flag) with hb221 | hb221
 have h := ite_t hb221 h
 refine Tn (pt g21 12) 145 rfl rfl rfl hb221 (PO.fieldAddr fo106_12 hs169_1 rfl) rfl ?_
 refine Tn (.string a0.Value) 145 rfl rfl rfl hb221 (PO.loadB 0 pl9 rfl rfl rfl) rfl ?_
 refine Tn (.bool (!decide (a0.Value = (⟨#[]⟩ : ByteArray)))) 145 rfl rfl rfl hb221 (PO.sneq rfl rfl) rfl ?_
 refine Tn (.bool (!decide (a0.Value = (⟨#[]⟩ : ByteArray)))) 142 rfl rfl rfl hb220 (PO.pickT rfl hb221 rfl) rfl ?_
 refine Tp (.bool (!decide (a0.Value = (⟨#[]⟩ : ByteArray)))) rfl (PO.pickF rfl hb220 rfl) rfl ?_
 refine Tp (.bool (!decide (a0.Value = (⟨#[]⟩ : ByteArray)))) rfl (PO.assign rfl) rfl ?_
 refine WT.fin ?_
 obtain rfl := Option.some.inj h
 refine WQ.thenJ ?_
 exact ⟨(hle213.trans hle218), rfl, hs169_1, hs169_3, rfl⟩
 have h := ite_f hb221 h
 refine WT.pureOff 145 rfl rfl rfl hb221 rfl ?_
 refine WT.pureOff 145 rfl rfl rfl hb221 rfl ?_
 refine WT.pureOff 145 rfl rfl rfl hb221 rfl ?_
 refine Tn (.bool false) 142 rfl rfl rfl hb220 (PO.pickF rfl hb221 rfl) rfl ?_
 refine Tp (.bool false) rfl (PO.pickF rfl hb220 rfl) rfl ?_
 refine Tp (.bool false) rfl (PO.assign rfl) rfl ?_
 refine WT.fin ?_
 obtain rfl := Option.some.inj h
 refine WQ.thenJ ?_
 exact ⟨(hle213.trans hle218), rfl, hs169_1, hs169_3, rfl⟩
 exact WT.no
 exact WT.no
 rintro ρ209 M209 H209 ⟨hle209, rfl, hs209_1, hs209_3, hs209_134⟩
 have h0_14 := h0_14.mono hle209
 have h0_15 := h0_15.mono hle209
 have h0_16 := h0_16.mono hle209
 have h0_17 := h0_17.mono hle209
 refine WC.cond (b := x208) hs209_134 (fun hb222 => ?_) (fun hb222 => ?_)
 have h := ite_t hb222 h
 refine Sr ?_
 refine Pu (pt g21 12) (PO.fieldAddr fo106_12 hs209_1 rfl) rfl ?_
 refine Pu (.string a0.Value) (PO.loadB 0 pl9 rfl rfl rfl) rfl ?_
 refine Pu (.int .i64 (a0.Value.size : Int)) (PO.lenStr Tryd.underlying9 rfl) rfl ?_
 obtain ⟨r223, hr224, h⟩ := bnd h
 refine WL.eff (EO.call0 co37 (f_fault_New_ok (⟨#[118, 97, 108, 117, 101]⟩ : ByteArray) (a0.Value.size : Int) (6 : Int) _ r223 hr224) (args3 rfl rfl rfl)) rfl ?_
 rintro _ M225 _ hle226 ⟨_, ⟨rfl, rfl⟩, rfl⟩
 have h0_14 := h0_14.mono hle226
 have h0_15 := h0_15.mono hle226
 have h0_16 := h0_16.mono hle226
 have h0_17 := h0_17.mono hle226
 refine WL.a0 ?_
 refine Pa (GV r223) rfl rfl ?_
 refine Nt ?_
 refine WC.ret ?_
 refine WQ.blockR ?_
 refine WQ.thenR ?_
 refine WQ.drop ?_
 exact WQ.returnsF h [] rfl (results1 rfl rfl) ((((((((((((((((hle23.trans hle32).trans hle37).trans hle42).trans hle53).trans hle58).trans hle69).trans hle74).trans hle85).trans hle90).trans hle101).trans hle106).trans hle115).trans hle155).trans hle169).trans hle209).trans hle226) ⟨rfl, rfl⟩
 have h := ite_f hb222 h
 obtain ⟨x228, hj229, h⟩ := bnd h
 refine WC.joinF (fun (x228 : Bool) ρ' M' H' => M209.le M' ∧ [(g21, .cells (l106 a0 v0_14 v0_15 v0_16 v0_17).toArray 106 (0, 0))] :: F = H' ∧ ρ' 1 = (pt g21 0) ∧ ρ' 155 = (.bool x228)) x228 ?_ ?_
 have h3229 := h
 have h := hj229
 refine WC.draw [0, 1, 0, 4, 15, 31, 63, 127, 255, 127, 639, 2047, 4095, 8191, 16383, 32767, 65535, 32767, 163839, 524287, 1048575, 2097151, 4194303, 8388607, 16777215, 8388607, 41943039, 134217727, 268435455, 536870911, 1073741823] (.pure 0 (.pure 1 (.pure 2 (.alt 3 (.alt 4 (.pure 5 (.pure 6 (.pure 7 (.pure 8 (.pure 9 (.alt 10 (.alt 11 (.pure 12 (.pure 13 (.pure 14 (.pure 15 (.pure 16 (.pure 17 (.alt 18 (.alt 19 (.pure 20 (.pure 21 (.pure 22 (.pure 23 (.pure 24 (.pure 25 (.alt 26 (.alt 27 (.pure 28 (.pure 29 (.pure 30 .done))) .none) .none))))))) .none) .none))))))) .none) .none)))))) .none) .none)))) mixed (by kernel_rfl) ?_
 refine Tp (pt g21 14) rfl (PO.fieldAddr fo106_14 hs209_1 rfl) rfl ?_
 refine Tp v0_14 rfl (PO.loadB 0 pl95 rfl rfl rfl) rfl ?_
 refine Tp (.func (.func 102) #[] #[(pt g21 0)]) rfl (PO.move hs209_3) rfl ?_
 obtain ⟨r230, hr231, h⟩ := bnd h
 refine WT.alt rfl (EO.callV1 (first := #[]) (cap := #[(pt g21 0)]) co102 rfl (f_record_Check_1_ok (2048 : Int) a0 _ _ _ _ _ _ h0_14 h0_15 h0_16 h0_17 r230 hr231) (argsV1 rfl rfl)) rfl ?_ ?_
 rintro _ M232 _ hle233 ⟨_, ⟨rfl, rfl⟩, rfl⟩
 have h0_14 := h0_14.mono hle233
 have h0_15 := h0_15.mono hle233
 have h0_16 := h0_16.mono hle233
 have h0_17 := h0_17.mono hle233
 refine ⟨(StabL.anc rfl (StabL.st (StabA.of rfl (PO.loadB 0 pl95 rfl rfl rfl) rfl) (StabL.st (StabA.of rfl (PO.fieldAddr fo106_14 hs209_1 rfl) rfl) trivial))), ?_⟩
 refine WT.a1 ?_
 obtain ⟨r235, hr236, h⟩ := bnd h
 refine WT.alt rfl (EO.call0 co107 (f_record_row_ok a0.Ids r230 _ _ h0_14 r235 hr236) (args2 rfl rfl)) rfl ?_ ?_
 rintro _ M237 _ hle238 ⟨_, ⟨rfl, rfl⟩, rfl⟩
 have h0_14 := h0_14.mono hle238
 have h0_15 := h0_15.mono hle238
 have h0_16 := h0_16.mono hle238
 have h0_17 := h0_17.mono hle238
 refine ⟨(StabL.anc rfl (StabL.anc rfl (StabL.anc rfl trivial))), ?_⟩
 refine WT.a0 ?_
 refine Tp (.bool (!r235)) rfl (PO.not rfl) rfl ?_
 refine Tp (.bool (!r235)) rfl (PO.move rfl) rfl ?_
 rcases Bool.eq_false_or_eq_true (!r235) with hb240 | hb240
 have h := ite_t hb240 h
 refine WT.pureOff 162 rfl rfl rfl hb240 rfl ?_
 refine WT.pureOff 162 rfl rfl rfl hb240 rfl ?_
 refine WT.pureOff 162 rfl rfl rfl hb240 rfl ?_
 refine WT.altOff 162 rfl rfl rfl hb240 rfl ⟨(StabL.anc rfl (StabL.st (StabA.off 162 rfl rfl rfl hb240 rfl) (StabL.st (StabA.off 162 rfl rfl rfl hb240 rfl) (StabL.anc rfl (StabL.anc rfl (StabL.anc rfl (StabL.anc rfl (StabL.anc rfl trivial)))))))), ?_⟩ ?_
 refine WT.altOff 162 rfl rfl rfl hb240 rfl ⟨(StabL.anc rfl (StabL.anc rfl (StabL.anc rfl (StabL.anc rfl (StabL.anc rfl (StabL.anc rfl (StabL.anc rfl (StabL.anc rfl trivial)))))))), ?_⟩ ?_
 refine WT.pureOff 162 rfl rfl rfl hb240 rfl ?_
 refine Tp (.bool true) rfl (PO.pickT rfl hb240 rfl) rfl ?_
 refine Tp (.bool true) rfl (PO.move rfl) rfl ?_
 refine WT.pureOff 170 rfl rfl rfl rfl rfl ?_
 refine WT.pureOff 170 rfl rfl rfl rfl rfl ?_
 refine WT.pureOff 170 rfl rfl rfl rfl rfl ?_
 refine WT.altOff 170 rfl rfl rfl rfl rfl ⟨(StabL.anc rfl (StabL.st (StabA.off 170 rfl rfl rfl rfl rfl) (StabL.st (StabA.off 170 rfl rfl rfl rfl rfl) (StabL.anc rfl (StabL.anc rfl (StabL.anc rfl (StabL.anc rfl (StabL.anc rfl (StabL.anc rfl (StabL.anc rfl (StabL.anc rfl (StabL.anc rfl (StabL.anc rfl (StabL.anc rfl trivial)))))))))))))), ?_⟩ ?_
 refine WT.altOff 170 rfl rfl rfl rfl rfl ⟨(StabL.anc rfl (StabL.anc rfl (StabL.anc rfl (StabL.anc rfl (StabL.anc rfl (StabL.anc rfl (StabL.anc rfl (StabL.anc rfl (StabL.anc rfl (StabL.anc rfl (StabL.anc rfl (StabL.anc rfl (StabL.anc rfl (StabL.anc rfl trivial)))))))))))))), ?_⟩ ?_
 refine WT.pureOff 170 rfl rfl rfl rfl rfl ?_
 refine Tp (.bool true) rfl (PO.pickT rfl rfl rfl) rfl ?_
 refine Tp (.bool true) rfl (PO.move rfl) rfl ?_
 refine WT.pureOff 178 rfl rfl rfl rfl rfl ?_
 refine WT.pureOff 178 rfl rfl rfl rfl rfl ?_
 refine WT.pureOff 178 rfl rfl rfl rfl rfl ?_
 refine WT.altOff 178 rfl rfl rfl rfl rfl ⟨(StabL.anc rfl (StabL.st (StabA.off 178 rfl rfl rfl rfl rfl) (StabL.st (StabA.off 178 rfl rfl rfl rfl rfl) (StabL.anc rfl (StabL.anc rfl (StabL.anc rfl (StabL.anc rfl (StabL.anc rfl (StabL.anc rfl (StabL.anc rfl (StabL.anc rfl (StabL.anc rfl (StabL.anc rfl (StabL.anc rfl (StabL.anc rfl (StabL.anc rfl (StabL.anc rfl (StabL.anc rfl (StabL.anc rfl (StabL.anc rfl trivial)))))))))))))))))))), ?_⟩ ?_
 refine WT.altOff 178 rfl rfl rfl rfl rfl ⟨(StabL.anc rfl (StabL.anc rfl (StabL.anc rfl (StabL.anc rfl (StabL.anc rfl (StabL.anc rfl (StabL.anc rfl (StabL.anc rfl (StabL.anc rfl (StabL.anc rfl (StabL.anc rfl (StabL.anc rfl (StabL.anc rfl (StabL.anc rfl (StabL.anc rfl (StabL.anc rfl (StabL.anc rfl (StabL.anc rfl (StabL.anc rfl (StabL.anc rfl trivial)))))))))))))))))))), ?_⟩ ?_
 refine WT.pureOff 178 rfl rfl rfl rfl rfl ?_
 refine Tp (.bool true) rfl (PO.pickT rfl rfl rfl) rfl ?_
 refine Tp (.bool true) rfl (PO.assign rfl) rfl ?_
 refine WT.fin ?_
 obtain rfl := Option.some.inj h
 refine WQ.thenJ ?_
 exact ⟨(hle233.trans hle238), rfl, hs209_1, rfl⟩
 exact WT.no
 exact WT.no
 exact WT.no
 exact WT.no
 exact WT.no
 exact WT.no
 have h := ite_f hb240 h
 refine Tn (pt g21 15) 162 rfl rfl rfl hb240 (PO.fieldAddr fo106_15 hs209_1 rfl) rfl ?_
 refine Tn v0_15 162 rfl rfl rfl hb240 (PO.loadB 0 pl95 rfl rfl rfl) rfl ?_
 refine Tn (.func (.func 102) #[] #[(pt g21 0)]) 162 rfl rfl rfl hb240 (PO.move hs209_3) rfl ?_
 obtain ⟨r241, hr242, h⟩ := bnd h
 refine WT.altOn 162 rfl rfl rfl hb240 (EO.callV1 (first := #[]) (cap := #[(pt g21 0)]) co102 rfl (f_record_Check_1_ok (4096 : Int) a0 _ _ _ _ _ _ h0_14 h0_15 h0_16 h0_17 r241 hr242) (argsV1 rfl rfl)) rfl ?_ ?_
 rintro _ M243 _ hle244 ⟨_, ⟨rfl, rfl⟩, rfl⟩
 have h0_14 := h0_14.mono hle244
 have h0_15 := h0_15.mono hle244
 have h0_16 := h0_16.mono hle244
 have h0_17 := h0_17.mono hle244
 refine ⟨(StabL.anc rfl (StabL.st (StabA.on 162 rfl rfl rfl hb240 (PO.loadB 0 pl95 rfl rfl rfl) rfl) (StabL.st (StabA.on 162 rfl rfl rfl hb240 (PO.fieldAddr fo106_15 hs209_1 rfl) rfl) (StabL.anc rfl (StabL.anc rfl (StabL.anc rfl (StabL.anc rfl (StabL.anc rfl trivial)))))))), ?_⟩
 refine WT.a1 ?_
 obtain ⟨r246, hr247, h⟩ := bnd h
 refine WT.altOn 162 rfl rfl rfl hb240 (EO.call0 co107 (f_record_row_ok a0.Isr r241 _ _ h0_15 r246 hr247) (args2 rfl rfl)) rfl ?_ ?_
 rintro _ M248 _ hle249 ⟨_, ⟨rfl, rfl⟩, rfl⟩
 have h0_14 := h0_14.mono hle249
 have h0_15 := h0_15.mono hle249
 have h0_16 := h0_16.mono hle249
 have h0_17 := h0_17.mono hle249
 refine ⟨(StabL.anc rfl (StabL.anc rfl (StabL.anc rfl (StabL.anc rfl (StabL.anc rfl (StabL.anc rfl (StabL.anc rfl (StabL.anc rfl trivial)))))))), ?_⟩
 refine WT.a0 ?_
 refine Tn (.bool (!r246)) 162 rfl rfl rfl hb240 (PO.not rfl) rfl ?_
 refine Tp (.bool (!r246)) rfl (PO.pickF rfl hb240 rfl) rfl ?_
 refine Tp (.bool (!r246)) rfl (PO.move rfl) rfl ?_
 rcases Bool.eq_false_or_eq_true (!r246) with hb251 | hb251
 have h := ite_t hb251 h
 refine WT.pureOff 170 rfl rfl rfl hb251 rfl ?_
 refine WT.pureOff 170 rfl rfl rfl hb251 rfl ?_
 refine WT.pureOff 170 rfl rfl rfl hb251 rfl ?_
 refine WT.altOff 170 rfl rfl rfl hb251 rfl ⟨(StabL.anc rfl (StabL.st (StabA.off 170 rfl rfl rfl hb251 rfl) (StabL.st (StabA.off 170 rfl rfl rfl hb251 rfl) (StabL.anc rfl (StabL.anc rfl (StabL.anc rfl (StabL.anc rfl (StabL.anc rfl (StabL.anc rfl (StabL.anc rfl (StabL.anc rfl (StabL.anc rfl (StabL.anc rfl (StabL.anc rfl trivial)))))))))))))), ?_⟩ ?_
 refine WT.altOff 170 rfl rfl rfl hb251 rfl ⟨(StabL.anc rfl (StabL.anc rfl (StabL.anc rfl (StabL.anc rfl (StabL.anc rfl (StabL.anc rfl (StabL.anc rfl (StabL.anc rfl (StabL.anc rfl (StabL.anc rfl (StabL.anc rfl (StabL.anc rfl (StabL.anc rfl (StabL.anc rfl trivial)))))))))))))), ?_⟩ ?_
 refine WT.pureOff 170 rfl rfl rfl hb251 rfl ?_
 refine Tp (.bool true) rfl (PO.pickT rfl hb251 rfl) rfl ?_
 refine Tp (.bool true) rfl (PO.move rfl) rfl ?_
 refine WT.pureOff 178 rfl rfl rfl rfl rfl ?_
 refine WT.pureOff 178 rfl rfl rfl rfl rfl ?_
 refine WT.pureOff 178 rfl rfl rfl rfl rfl ?_
 refine WT.altOff 178 rfl rfl rfl rfl rfl ⟨(StabL.anc rfl (StabL.st (StabA.off 178 rfl rfl rfl rfl rfl) (StabL.st (StabA.off 178 rfl rfl rfl rfl rfl) (StabL.anc rfl (StabL.anc rfl (StabL.anc rfl (StabL.anc rfl (StabL.anc rfl (StabL.anc rfl (StabL.anc rfl (StabL.anc rfl (StabL.anc rfl (StabL.anc rfl (StabL.anc rfl (StabL.anc rfl (StabL.anc rfl (StabL.anc rfl (StabL.anc rfl (StabL.anc rfl (StabL.anc rfl trivial)))))))))))))))))))), ?_⟩ ?_
 refine WT.altOff 178 rfl rfl rfl rfl rfl ⟨(StabL.anc rfl (StabL.anc rfl (StabL.anc rfl (StabL.anc rfl (StabL.anc rfl (StabL.anc rfl (StabL.anc rfl (StabL.anc rfl (StabL.anc rfl (StabL.anc rfl (StabL.anc rfl (StabL.anc rfl (StabL.anc rfl (StabL.anc rfl (StabL.anc rfl (StabL.anc rfl (StabL.anc rfl (StabL.anc rfl (StabL.anc rfl (StabL.anc rfl trivial)))))))))))))))))))), ?_⟩ ?_
 refine WT.pureOff 178 rfl rfl rfl rfl rfl ?_
 refine Tp (.bool true) rfl (PO.pickT rfl rfl rfl) rfl ?_
 refine Tp (.bool true) rfl (PO.assign rfl) rfl ?_
 refine WT.fin ?_
 obtain rfl := Option.some.inj h
 refine WQ.thenJ ?_
 exact ⟨(((hle233.trans hle238).trans hle244).trans hle249), rfl, hs209_1, rfl⟩
 exact WT.no
 exact WT.no
 exact WT.no
 exact WT.no
 have h := ite_f hb251 h
 refine Tn (pt g21 16) 170 rfl rfl rfl hb251 (PO.fieldAddr fo106_16 hs209_1 rfl) rfl ?_
 refine Tn v0_16 170 rfl rfl rfl hb251 (PO.loadB 0 pl95 rfl rfl rfl) rfl ?_
 refine Tn (.func (.func 102) #[] #[(pt g21 0)]) 170 rfl rfl rfl hb251 (PO.move hs209_3) rfl ?_
 obtain ⟨r252, hr253, h⟩ := bnd h
 refine WT.altOn 170 rfl rfl rfl hb251 (EO.callV1 (first := #[]) (cap := #[(pt g21 0)]) co102 rfl (f_record_Check_1_ok (8192 : Int) a0 _ _ _ _ _ _ h0_14 h0_15 h0_16 h0_17 r252 hr253) (argsV1 rfl rfl)) rfl ?_ ?_
 rintro _ M254 _ hle255 ⟨_, ⟨rfl, rfl⟩, rfl⟩
 have h0_14 := h0_14.mono hle255
 have h0_15 := h0_15.mono hle255
 have h0_16 := h0_16.mono hle255
 have h0_17 := h0_17.mono hle255
 refine ⟨(StabL.anc rfl (StabL.st (StabA.on 170 rfl rfl rfl hb251 (PO.loadB 0 pl95 rfl rfl rfl) rfl) (StabL.st (StabA.on 170 rfl rfl rfl hb251 (PO.fieldAddr fo106_16 hs209_1 rfl) rfl) (StabL.anc rfl (StabL.anc rfl (StabL.anc rfl (StabL.anc rfl (StabL.anc rfl (StabL.anc rfl (StabL.anc rfl (StabL.anc rfl (StabL.anc rfl (StabL.anc rfl (StabL.anc rfl trivial)))))))))))))), ?_⟩
 refine WT.a1 ?_
 obtain ⟨r257, hr258, h⟩ := bnd h
 refine WT.altOn 170 rfl rfl rfl hb251 (EO.call0 co107 (f_record_row_ok a0.Add r252 _ _ h0_16 r257 hr258) (args2 rfl rfl)) rfl ?_ ?_
 rintro _ M259 _ hle260 ⟨_, ⟨rfl, rfl⟩, rfl⟩
 have h0_14 := h0_14.mono hle260
 have h0_15 := h0_15.mono hle260
 have h0_16 := h0_16.mono hle260
 have h0_17 := h0_17.mono hle260
 refine ⟨(StabL.anc rfl (StabL.anc rfl (StabL.anc rfl (StabL.anc rfl (StabL.anc rfl (StabL.anc rfl (StabL.anc rfl (StabL.anc rfl (StabL.anc rfl (StabL.anc rfl (StabL.anc rfl (StabL.anc rfl (StabL.anc rfl (StabL.anc rfl trivial)))))))))))))), ?_⟩
 refine WT.a0 ?_
 refine Tn (.bool (!r257)) 170 rfl rfl rfl hb251 (PO.not rfl) rfl ?_
 refine Tp (.bool (!r257)) rfl (PO.pickF rfl hb251 rfl) rfl ?_
 refine Tp (.bool (!r257)) rfl (PO.move rfl) rfl ?_
 rcases Bool.eq_false_or_eq_true (!r257) with hb262 | hb262
 have h := ite_t hb262 h
 refine WT.pureOff 178 rfl rfl rfl hb262 rfl ?_
 refine WT.pureOff 178 rfl rfl rfl hb262 rfl ?_
 refine WT.pureOff 178 rfl rfl rfl hb262 rfl ?_
 refine WT.altOff 178 rfl rfl rfl hb262 rfl ⟨(StabL.anc rfl (StabL.st (StabA.off 178 rfl rfl rfl hb262 rfl) (StabL.st (StabA.off 178 rfl rfl rfl hb262 rfl) (StabL.anc rfl (StabL.anc rfl (StabL.anc rfl (StabL.anc rfl (StabL.anc rfl (StabL.anc rfl (StabL.anc rfl (StabL.anc rfl (StabL.anc rfl (StabL.anc rfl (StabL.anc rfl (StabL.anc rfl (StabL.anc rfl (StabL.anc rfl (StabL.anc rfl (StabL.anc rfl (StabL.anc rfl trivial)))))))))))))))))))), ?_⟩ ?_
 refine WT.altOff 178 rfl rfl rfl hb262 rfl ⟨(StabL.anc rfl (StabL.anc rfl (StabL.anc rfl (StabL.anc rfl (StabL.anc rfl (StabL.anc rfl (StabL.anc rfl (StabL.anc rfl (StabL.anc rfl (StabL.anc rfl (StabL.anc rfl (StabL.anc rfl (StabL.anc rfl (StabL.anc rfl (StabL.anc rfl (StabL.anc rfl (StabL.anc rfl (StabL.anc rfl (StabL.anc rfl (StabL.anc rfl trivial)))))))))))))))))))), ?_⟩ ?_
 refine WT.pureOff 178 rfl rfl rfl hb262 rfl ?_
 refine Tp (.bool true) rfl (PO.pickT rfl hb262 rfl) rfl ?_
 refine Tp (.bool true) rfl (PO.assign rfl) rfl ?_
 refine WT.fin ?_
 obtain rfl := Option.some.inj h
 refine WQ.thenJ ?_
 exact ⟨(((((hle233.trans hle238).trans hle244).trans hle249).trans hle255).trans hle260), rfl, hs209_1, rfl⟩
 exact WT.no
 exact WT.no
 have h := ite_f hb262 h
 refine Tn (pt g21 17) 178 rfl rfl rfl hb262 (PO.fieldAddr fo106_17 hs209_1 rfl) rfl ?_
 refine Tn v0_17 178 rfl rfl rfl hb262 (PO.loadB 0 pl95 rfl rfl rfl) rfl ?_
 refine Tn (.func (.func 102) #[] #[(pt g21 0)]) 178 rfl rfl rfl hb262 (PO.move hs209_3) rfl ?_
 obtain ⟨r263, hr264, h⟩ := bnd h
 refine WT.altOn 178 rfl rfl rfl hb262 (EO.callV1 (first := #[]) (cap := #[(pt g21 0)]) co102 rfl (f_record_Check_1_ok (8192 : Int) a0 _ _ _ _ _ _ h0_14 h0_15 h0_16 h0_17 r263 hr264) (argsV1 rfl rfl)) rfl ?_ ?_
 rintro _ M265 _ hle266 ⟨_, ⟨rfl, rfl⟩, rfl⟩
 have h0_14 := h0_14.mono hle266
 have h0_15 := h0_15.mono hle266
 have h0_16 := h0_16.mono hle266
 have h0_17 := h0_17.mono hle266
 refine ⟨(StabL.anc rfl (StabL.st (StabA.on 178 rfl rfl rfl hb262 (PO.loadB 0 pl95 rfl rfl rfl) rfl) (StabL.st (StabA.on 178 rfl rfl rfl hb262 (PO.fieldAddr fo106_17 hs209_1 rfl) rfl) (StabL.anc rfl (StabL.anc rfl (StabL.anc rfl (StabL.anc rfl (StabL.anc rfl (StabL.anc rfl (StabL.anc rfl (StabL.anc rfl (StabL.anc rfl (StabL.anc rfl (StabL.anc rfl (StabL.anc rfl (StabL.anc rfl (StabL.anc rfl (StabL.anc rfl (StabL.anc rfl (StabL.anc rfl trivial)))))))))))))))))))), ?_⟩
 refine WT.a1 ?_
 obtain ⟨r268, hr269, h⟩ := bnd h
 refine WT.altOn 178 rfl rfl rfl hb262 (EO.call0 co107 (f_record_row_ok a0.Drop r263 _ _ h0_17 r268 hr269) (args2 rfl rfl)) rfl ?_ ?_
 rintro _ M270 _ hle271 ⟨_, ⟨rfl, rfl⟩, rfl⟩
 have h0_14 := h0_14.mono hle271
 have h0_15 := h0_15.mono hle271
 have h0_16 := h0_16.mono hle271
 have h0_17 := h0_17.mono hle271
 refine ⟨(StabL.anc rfl (StabL.anc rfl (StabL.anc rfl (StabL.anc rfl (StabL.anc rfl (StabL.anc rfl (StabL.anc rfl (StabL.anc rfl (StabL.anc rfl (StabL.anc rfl (StabL.anc rfl (StabL.anc rfl (StabL.anc rfl (StabL.anc rfl (StabL.anc rfl (StabL.anc rfl (StabL.anc rfl (StabL.anc rfl (StabL.anc rfl (StabL.anc rfl trivial)))))))))))))))))))), ?_⟩
 refine WT.a0 ?_
 refine Tn (.bool (!r268)) 178 rfl rfl rfl hb262 (PO.not rfl) rfl ?_
 refine Tp (.bool (!r268)) rfl (PO.pickF rfl hb262 rfl) rfl ?_
 refine Tp (.bool (!r268)) rfl (PO.assign rfl) rfl ?_
 refine WT.fin ?_
 obtain rfl := Option.some.inj h
 refine WQ.thenJ ?_
 exact ⟨(((((((hle233.trans hle238).trans hle244).trans hle249).trans hle255).trans hle260).trans hle266).trans hle271), rfl, hs209_1, rfl⟩
 exact WT.no
 exact WT.no
 exact WT.no
 exact WT.no
 exact WT.no
 exact WT.no
 exact WT.no
 exact WT.no
 rintro ρ229 M229 H229 ⟨hle229, rfl, hs229_1, hs229_155⟩
 have h0_14 := h0_14.mono hle229
 have h0_15 := h0_15.mono hle229
 have h0_16 := h0_16.mono hle229
 have h0_17 := h0_17.mono hle229
 refine WC.cond (b := x228) hs229_155 (fun hb273 => ?_) (fun hb273 => ?_)
 have h := ite_t hb273 h
 refine Sr ?_
 refine Pu (pt g21 14) (PO.fieldAddr fo106_14 hs229_1 rfl) rfl ?_
 refine Pu v0_14 (PO.loadB 0 pl95 rfl rfl rfl) rfl ?_
 refine Pu (.int .i64 (a0.Ids.length : Int)) (PO.lenS Tryd.underlying95 rfl h0_14.len) rfl ?_
 obtain ⟨r274, hr275, h⟩ := bnd h
 refine WL.eff (EO.call0 co37 (f_fault_New_ok (⟨#[114, 111, 119]⟩ : ByteArray) (a0.Ids.length : Int) (18 : Int) _ r274 hr275) (args3 rfl rfl rfl)) rfl ?_
 rintro _ M276 _ hle277 ⟨_, ⟨rfl, rfl⟩, rfl⟩
 have h0_14 := h0_14.mono hle277
 have h0_15 := h0_15.mono hle277
 have h0_16 := h0_16.mono hle277
 have h0_17 := h0_17.mono hle277
 refine WL.a0 ?_
 refine Pa (GV r274) rfl rfl ?_
 refine Nt ?_
 refine WC.ret ?_
 refine WQ.blockR ?_
 refine WQ.thenR ?_
 refine WQ.drop ?_
 exact WQ.returnsF h [] rfl (results1 rfl rfl) (((((((((((((((((hle23.trans hle32).trans hle37).trans hle42).trans hle53).trans hle58).trans hle69).trans hle74).trans hle85).trans hle90).trans hle101).trans hle106).trans hle115).trans hle155).trans hle169).trans hle209).trans hle229).trans hle277) ⟨rfl, rfl⟩
 have h := ite_f hb273 h
 refine WC.skip ?_
 refine WQ.blockN ?_
 refine WQ.thenC ?_
 refine Sr ?_
 refine Pa (GV GErr.nil) rfl rfl ?_
 refine Nt ?_
 refine WC.ret ?_
 refine WQ.drop ?_
 exact WQ.returnsF h [] rfl (results1 rfl rfl) ((((((((((((((((hle23.trans hle32).trans hle37).trans hle42).trans hle53).trans hle58).trans hle69).trans hle74).trans hle85).trans hle90).trans hle101).trans hle106).trans hle115).trans hle155).trans hle169).trans hle209).trans hle229) ⟨rfl, rfl⟩
 exact WT.no
 exact WT.no
 exact WT.no
 exact WT.no
 exact WT.no
 exact WT.no
 exact WT.no
 exact WT.no
 exact WT.no
 exact WT.no


end Go.Proofs.YtjiffdgidodebaaDoor.G
