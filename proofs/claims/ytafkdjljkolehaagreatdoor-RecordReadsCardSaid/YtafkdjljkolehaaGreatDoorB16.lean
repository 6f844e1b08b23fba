/- Go functions: what they come to, and that they do. Printed by a program of the session (gen). -/
import Derived.Test.YtafkdjljkolehaaGreatDoorBF
import Derived.Test.YtafkdjljkolehaaGreatDoorB15
import Derived.Test.YtafkdjljkolehaaGreatDoorKConv
set_option linter.unusedVariables false
set_option linter.unusedSimpArgs false
set_option maxHeartbeats 8000000
set_option maxRecDepth 100000
namespace Go.Proofs.YtafkdjljkolehaaGreatDoor.G
open Go Go.KK

noncomputable def f_ref05_Same (a0 : T_api_Record) (a1 : T_api_Record) : Option Bool :=
  (((if (decide (a0.Kind ≠ a1.Kind)) = true then (some true) else (if (decide (a0.Broker ≠ a1.Broker)) = true then (some true) else (if (decide (a0.Epoch ≠ a1.Epoch)) = true then (some true) else (if (decide (a0.Topic ≠ a1.Topic)) = true then (some true) else (if (decide (a0.Part ≠ a1.Part)) = true then (some true) else (some (decide (a0.Leader ≠ a1.Leader)))))))) : Option Bool).bind fun (x23 : Bool) => (if x23 = true then (some false) else (((if (decide (a0.Client ≠ a1.Client)) = true then (some true) else (if (decide (a0.Serial ≠ a1.Serial)) = true then (some true) else (if (decide (a0.Code ≠ a1.Code)) = true then (some true) else (some (!(a0.Flag == a1.Flag)))))) : Option Bool).bind fun (x31 : Bool) => (if x31 = true then (some false) else (((if (!decide (a0.Name = a1.Name)) = true then (some true) else (if (!decide (a0.Key = a1.Key)) = true then (some true) else (if (!decide (a0.Value = a1.Value)) = true then (some true) else (some (!decide (a0.Rack = a1.Rack)))))) : Option Bool).bind fun (x37 : Bool) => (if x37 = true then (some false) else ((((f_ref02_Ints a0.Ids a1.Ids).bind fun (r45 : Bool) => (if r45 = true then ((f_ref02_Ints a0.Isr a1.Isr).bind fun (r51 : Bool) => (some r51)) else (some false))) : Option Bool).bind fun (x43 : Bool) => (((if x43 = true then ((f_ref02_Ints a0.Add a1.Add).bind fun (r59 : Bool) => (if r59 = true then ((f_ref02_Ints a0.Drop a1.Drop).bind fun (r65 : Bool) => (some r65)) else (some false))) else (some false)) : Option Bool).bind fun (x56 : Bool) => (some x56)))))))))
def f_ref05_Same_post (a0 : T_api_Record) (a1 : T_api_Record) (v0_14 v0_15 v0_16 v0_17 v1_14 v1_15 v1_16 v1_17 : Value) : Bool → Value → IM → HL → Prop :=
  fun (r0 : Bool) (v : Value) (M' : IM) (H' : HL) => (.bool r0) = v ∧ H' = []
theorem f_ref05_Same_ok (a0 : T_api_Record) (a1 : T_api_Record) (M : IM) (v0_14 v0_15 v0_16 v0_17 v1_14 v1_15 v1_16 v1_17 : Value) (h0_14 : RS (Kd.int .i64) M v0_14 a0.Ids) (h0_15 : RS (Kd.int .i64) M v0_15 a0.Isr) (h0_16 : RS (Kd.int .i64) M v0_16 a0.Add) (h0_17 : RS (Kd.int .i64) M v0_17 a0.Drop) (h1_14 : RS (Kd.int .i64) M v1_14 a1.Ids) (h1_15 : RS (Kd.int .i64) M v1_15 a1.Isr) (h1_16 : RS (Kd.int .i64) M v1_16 a1.Add) (h1_17 : RS (Kd.int .i64) M v1_17 a1.Drop) (res : Bool) (h : f_ref05_Same a0 a1 = some res) :
    Tri Tryz.prog 6 #[(a35_ a0 v0_14 v0_15 v0_16 v0_17), (a35_ a1 v1_14 v1_15 v1_16 v1_17)] M [] (f_ref05_Same_post a0 a1 v0_14 v0_15 v0_16 v0_17 v1_14 v1_15 v1_16 v1_17 res) := by
 unfold f_ref05_Same at h
 refine Tri.enter (fn := Tryz.f6) Tryz.func6 rfl (Nat.le_of_ble_eq_true rfl) ?_
 intro F ρ hρ
 refine Sr ?_
 refine WL.eff (EO.box (cs := (l35 a0 v0_14 v0_15 v0_16 v0_17).toArray) (congrArg Value.cells (asE (a35_ a0 v0_14 v0_15 v0_16 v0_17) (hρ 0)))) rfl ?_
 rintro _ _ _ - ⟨rfl, g21, rfl, rfl⟩
 refine WL.eff (EO.box (cs := (l35 a1 v1_14 v1_15 v1_16 v1_17).toArray) (congrArg Value.cells (asE (a35_ a1 v1_14 v1_15 v1_16 v1_17) (hρ 1)))) rfl ?_
 rintro _ _ _ - ⟨rfl, g22, rfl, rfl⟩
 refine Pa (.bool false) rfl rfl ?_
 refine Nt ?_
 refine WC.seq ?_
 obtain ⟨x23, hj24, h⟩ := bnd h
 refine WC.joinF (fun (x23 : Bool) ρ' M' H' => M.le M' ∧ [(g22, .cells (l35 a1 v1_14 v1_15 v1_16 v1_17).toArray 35 (0, 0))] :: [(g21, .cells (l35 a0 v0_14 v0_15 v0_16 v0_17).toArray 35 (0, 0))] :: F = H' ∧ ρ' 2 = (pt g21 0) ∧ ρ' 3 = (pt g22 0) ∧ ρ' 45 = (.bool x23)) x23 ?_ ?_
 have h324 := h
 have h := hj24
 refine WC.region ?_
 refine Pu (pt g21 0) (PO.fieldAddr fo35_0 rfl rfl) rfl ?_
 refine Pu (.int .i64 a0.Kind) (PO.loadB 1 pl3 rfl rfl rfl) rfl ?_
 refine Pu (pt g22 0) (PO.fieldAddr fo35_0 rfl rfl) rfl ?_
 refine Pu (.int .i64 a1.Kind) (PO.loadB 0 pl3 rfl rfl rfl) rfl ?_
 refine Pu (.bool (decide (a0.Kind ≠ a1.Kind))) (PO.neq rfl rfl) rfl ?_
 refine Pm (.bool (decide (a0.Kind ≠ a1.Kind))) rfl rfl ?_
 rcases Bool.eq_false_or_eq_true (decide (a0.Kind ≠ a1.Kind)) with hb25 | hb25
 have h := ite_t hb25 h
 iterate 5 refine Of 11 rfl rfl hb25 rfl ?_
 refine Pu (.bool true) (PO.pickT rfl hb25 rfl) rfl ?_
 refine Pm (.bool true) rfl rfl ?_
 iterate 5 refine Of 18 rfl rfl rfl rfl ?_
 refine Pu (.bool true) (PO.pickT rfl rfl rfl) rfl ?_
 refine Pm (.bool true) rfl rfl ?_
 iterate 5 refine Of 25 rfl rfl rfl rfl ?_
 refine Pu (.bool true) (PO.pickT rfl rfl rfl) rfl ?_
 refine Pm (.bool true) rfl rfl ?_
 iterate 5 refine Of 32 rfl rfl rfl rfl ?_
 refine Pu (.bool true) (PO.pickT rfl rfl rfl) rfl ?_
 refine Pm (.bool true) rfl rfl ?_
 iterate 5 refine Of 39 rfl rfl rfl rfl ?_
 refine Pu (.bool true) (PO.pickT rfl rfl rfl) rfl ?_
 refine WL.nil ?_
 obtain rfl := Option.some.inj h
 refine WQ.thenJ ?_
 exact ⟨(IM.le.refl _), rfl, rfl, rfl, rfl⟩
 have h := ite_f hb25 h
 refine On 11 rfl rfl hb25 ?_
 refine Pu (pt g21 1) (PO.fieldAddr fo35_1 rfl rfl) rfl ?_
 refine On 11 rfl rfl hb25 ?_
 refine Pu (.int .i64 a0.Broker) (PO.loadB 1 pl3 rfl rfl rfl) rfl ?_
 refine On 11 rfl rfl hb25 ?_
 refine Pu (pt g22 1) (PO.fieldAddr fo35_1 rfl rfl) rfl ?_
 refine On 11 rfl rfl hb25 ?_
 refine Pu (.int .i64 a1.Broker) (PO.loadB 0 pl3 rfl rfl rfl) rfl ?_
 refine On 11 rfl rfl hb25 ?_
 refine Pu (.bool (decide (a0.Broker ≠ a1.Broker))) (PO.neq rfl rfl) rfl ?_
 refine Pu (.bool (decide (a0.Broker ≠ a1.Broker))) (PO.pickF rfl hb25 rfl) rfl ?_
 refine Pm (.bool (decide (a0.Broker ≠ a1.Broker))) rfl rfl ?_
 rcases Bool.eq_false_or_eq_true (decide (a0.Broker ≠ a1.Broker)) with hb26 | hb26
 have h := ite_t hb26 h
 iterate 5 refine Of 18 rfl rfl hb26 rfl ?_
 refine Pu (.bool true) (PO.pickT rfl hb26 rfl) rfl ?_
 refine Pm (.bool true) rfl rfl ?_
 iterate 5 refine Of 25 rfl rfl rfl rfl ?_
 refine Pu (.bool true) (PO.pickT rfl rfl rfl) rfl ?_
 refine Pm (.bool true) rfl rfl ?_
 iterate 5 refine Of 32 rfl rfl rfl rfl ?_
 refine Pu (.bool true) (PO.pickT rfl rfl rfl) rfl ?_
 refine Pm (.bool true) rfl rfl ?_
 iterate 5 refine Of 39 rfl rfl rfl rfl ?_
 refine Pu (.bool true) (PO.pickT rfl rfl rfl) rfl ?_
 refine WL.nil ?_
 obtain rfl := Option.some.inj h
 refine WQ.thenJ ?_
 exact ⟨(IM.le.refl _), rfl, rfl, rfl, rfl⟩
 have h := ite_f hb26 h
 refine On 18 rfl rfl hb26 ?_
 refine Pu (pt g21 2) (PO.fieldAddr fo35_2 rfl rfl) rfl ?_
 refine On 18 rfl rfl hb26 ?_
 refine Pu (.int .i64 a0.Epoch) (PO.loadB 1 pl3 rfl rfl rfl) rfl ?_
 refine On 18 rfl rfl hb26 ?_
 refine Pu (pt g22 2) (PO.fieldAddr fo35_2 rfl rfl) rfl ?_
 refine On 18 rfl rfl hb26 ?_
 refine Pu (.int .i64 a1.Epoch) (PO.loadB 0 pl3 rfl rfl rfl) rfl ?_
 refine On 18 rfl rfl hb26 ?_
 refine Pu (.bool (decide (a0.Epoch ≠ a1.Epoch))) (PO.neq rfl rfl) rfl ?_
 refine Pu (.bool (decide (a0.Epoch ≠ a1.Epoch))) (PO.pickF rfl hb26 rfl) rfl ?_
 refine Pm (.bool (decide (a0.Epoch ≠ a1.Epoch))) rfl rfl ?_
 rcases Bool.eq_false_or_eq_true (decide (a0.Epoch ≠ a1.Epoch)) with hb27 | hb27
 have h := ite_t hb27 h
 iterate 5 refine Of 25 rfl rfl hb27 rfl ?_
 refine Pu (.bool true) (PO.pickT rfl hb27 rfl) rfl ?_
 refine Pm (.bool true) rfl rfl ?_
 iterate 5 refine Of 32 rfl rfl rfl rfl ?_
 refine Pu (.bool true) (PO.pickT rfl rfl rfl) rfl ?_
 refine Pm (.bool true) rfl rfl ?_
 iterate 5 refine Of 39 rfl rfl rfl rfl ?_
 refine Pu (.bool true) (PO.pickT rfl rfl rfl) rfl ?_
 refine WL.nil ?_
 obtain rfl := Option.some.inj h
 refine WQ.thenJ ?_
 exact ⟨(IM.le.refl _), rfl, rfl, rfl, rfl⟩
 have h := ite_f hb27 h
 refine On 25 rfl rfl hb27 ?_
 refine Pu (pt g21 3) (PO.fieldAddr fo35_3 rfl rfl) rfl ?_
 refine On 25 rfl rfl hb27 ?_
 refine Pu (.int .i64 a0.Topic) (PO.loadB 1 pl3 rfl rfl rfl) rfl ?_
 refine On 25 rfl rfl hb27 ?_
 refine Pu (pt g22 3) (PO.fieldAddr fo35_3 rfl rfl) rfl ?_
 refine On 25 rfl rfl hb27 ?_
 refine Pu (.int .i64 a1.Topic) (PO.loadB 0 pl3 rfl rfl rfl) rfl ?_
 refine On 25 rfl rfl hb27 ?_
 refine Pu (.bool (decide (a0.Topic ≠ a1.Topic))) (PO.neq rfl rfl) rfl ?_
 refine Pu (.bool (decide (a0.Topic ≠ a1.Topic))) (PO.pickF rfl hb27 rfl) rfl ?_
 refine Pm (.bool (decide (a0.Topic ≠ a1.Topic))) rfl rfl ?_
 rcases Bool.eq_false_or_eq_true (decide (a0.Topic ≠ a1.Topic)) with hb28 | hb28
 have h := ite_t hb28 h
 iterate 5 refine Of 32 rfl rfl hb28 rfl ?_
 refine Pu (.bool true) (PO.pickT rfl hb28 rfl) rfl ?_
 refine Pm (.bool true) rfl rfl ?_
 iterate 5 refine Of 39 rfl rfl rfl rfl ?_
 refine Pu (.bool true) (PO.pickT rfl rfl rfl) rfl ?_
 refine WL.nil ?_
 obtain rfl := Option.some.inj h
 refine WQ.thenJ ?_
 exact ⟨(IM.le.refl _), rfl, rfl, rfl, rfl⟩
 have h := ite_f hb28 h
 refine On 32 rfl rfl hb28 ?_
 refine Pu (pt g21 4) (PO.fieldAddr fo35_4 rfl rfl) rfl ?_
 refine On 32 rfl rfl hb28 ?_
 refine Pu (.int .i64 a0.Part) (PO.loadB 1 pl3 rfl rfl rfl) rfl ?_
 refine On 32 rfl rfl hb28 ?_
 refine Pu (pt g22 4) (PO.fieldAddr fo35_4 rfl rfl) rfl ?_
 refine On 32 rfl rfl hb28 ?_
 refine Pu (.int .i64 a1.Part) (PO.loadB 0 pl3 rfl rfl rfl) rfl ?_
 refine On 32 rfl rfl hb28 ?_
 refine Pu (.bool (decide (a0.Part ≠ a1.Part))) (PO.neq rfl rfl) rfl ?_
 refine Pu (.bool (decide (a0.Part ≠ a1.Part))) (PO.pickF rfl hb28 rfl) rfl ?_
 refine Pm (.bool (decide (a0.Part ≠ a1.Part))) rfl rfl ?_
 rcases Bool.eq_false_or_eq_true (decide (a0.Part ≠ a1.Part)) with hb29 | hb29
 have h := ite_t hb29 h
 iterate 5 refine Of 39 rfl rfl hb29 rfl ?_
 refine Pu (.bool true) (PO.pickT rfl hb29 rfl) rfl ?_
 refine WL.nil ?_
 obtain rfl := Option.some.inj h
 refine WQ.thenJ ?_
 exact ⟨(IM.le.refl _), rfl, rfl, rfl, rfl⟩
 have h := ite_f hb29 h
 refine On 39 rfl rfl hb29 ?_
 refine Pu (pt g21 5) (PO.fieldAddr fo35_5 rfl rfl) rfl ?_
 refine On 39 rfl rfl hb29 ?_
 refine Pu (.int .i64 a0.Leader) (PO.loadB 1 pl3 rfl rfl rfl) rfl ?_
 refine On 39 rfl rfl hb29 ?_
 refine Pu (pt g22 5) (PO.fieldAddr fo35_5 rfl rfl) rfl ?_
 refine On 39 rfl rfl hb29 ?_
 refine Pu (.int .i64 a1.Leader) (PO.loadB 0 pl3 rfl rfl rfl) rfl ?_
 refine On 39 rfl rfl hb29 ?_
 refine Pu (.bool (decide (a0.Leader ≠ a1.Leader))) (PO.neq rfl rfl) rfl ?_
 refine Pu (.bool (decide (a0.Leader ≠ a1.Leader))) (PO.pickF rfl hb29 rfl) rfl ?_
 refine WL.nil ?_
 obtain rfl := Option.some.inj h
 refine WQ.thenJ ?_
 exact ⟨(IM.le.refl _), rfl, rfl, rfl, rfl⟩
 rintro ρ24 M24 H24 ⟨hle24, rfl, hs24_2, hs24_3, hs24_45⟩
 have h1_14 := h1_14.mono hle24
 have h1_15 := h1_15.mono hle24
 have h1_16 := h1_16.mono hle24
 have h1_17 := h1_17.mono hle24
 have h0_14 := h0_14.mono hle24
 have h0_15 := h0_15.mono hle24
 have h0_16 := h0_16.mono hle24
 have h0_17 := h0_17.mono hle24
 refine WC.cond (b := x23) hs24_45 (fun hb30 => ?_) (fun hb30 => ?_)
 have h := ite_t hb30 h
 refine Sr ?_
 refine Pa (.bool false) rfl rfl ?_
 refine Nt ?_
 refine WC.ret ?_
 refine WQ.thenR ?_
 refine WQ.drop ?_
 refine WQ.drop ?_
 exact WQ.returnsF h [] rfl (results1 rfl rfl) hle24 ⟨rfl, rfl⟩
 have h := ite_f hb30 h
 refine WC.skip ?_
 refine WQ.thenC ?_
 refine WC.seq ?_
 obtain ⟨x31, hj32, h⟩ := bnd h
 refine WC.joinF (fun (x31 : Bool) ρ' M' H' => M24.le M' ∧ [(g22, .cells (l35 a1 v1_14 v1_15 v1_16 v1_17).toArray 35 (0, 0))] :: [(g21, .cells (l35 a0 v0_14 v0_15 v0_16 v0_17).toArray 35 (0, 0))] :: F = H' ∧ ρ' 2 = (pt g21 0) ∧ ρ' 3 = (pt g22 0) ∧ ρ' 71 = (.bool x31)) x31 ?_ ?_
 have h332 := h
 have h := hj32
 refine WC.region ?_
 refine Pu (pt g21 6) (PO.fieldAddr fo35_6 hs24_2 rfl) rfl ?_
 refine Pu (.int .i64 a0.Client) (PO.loadB 1 pl3 rfl rfl rfl) rfl ?_
 refine Pu (pt g22 6) (PO.fieldAddr fo35_6 hs24_3 rfl) rfl ?_
 refine Pu (.int .i64 a1.Client) (PO.loadB 0 pl3 rfl rfl rfl) rfl ?_
 refine Pu (.bool (decide (a0.Client ≠ a1.Client))) (PO.neq rfl rfl) rfl ?_
 refine Pm (.bool (decide (a0.Client ≠ a1.Client))) rfl rfl ?_
 rcases Bool.eq_false_or_eq_true (decide (a0.Client ≠ a1.Client)) with hb33 | hb33
 have h := ite_t hb33 h
 iterate 5 refine Of 51 rfl rfl hb33 rfl ?_
 refine Pu (.bool true) (PO.pickT rfl hb33 rfl) rfl ?_
 refine Pm (.bool true) rfl rfl ?_
 iterate 5 refine Of 58 rfl rfl rfl rfl ?_
 refine Pu (.bool true) (PO.pickT rfl rfl rfl) rfl ?_
 refine Pm (.bool true) rfl rfl ?_
 iterate 5 refine Of 65 rfl rfl rfl rfl ?_
 refine Pu (.bool true) (PO.pickT rfl rfl rfl) rfl ?_
 refine WL.nil ?_
 obtain rfl := Option.some.inj h
 refine WQ.thenJ ?_
 exact ⟨(IM.le.refl _), rfl, hs24_2, hs24_3, rfl⟩
 have h := ite_f hb33 h
 refine On 51 rfl rfl hb33 ?_
 refine Pu (pt g21 7) (PO.fieldAddr fo35_7 hs24_2 rfl) rfl ?_
 refine On 51 rfl rfl hb33 ?_
 refine Pu (.int .i64 a0.Serial) (PO.loadB 1 pl3 rfl rfl rfl) rfl ?_
 refine On 51 rfl rfl hb33 ?_
 refine Pu (pt g22 7) (PO.fieldAddr fo35_7 hs24_3 rfl) rfl ?_
 refine On 51 rfl rfl hb33 ?_
 refine Pu (.int .i64 a1.Serial) (PO.loadB 0 pl3 rfl rfl rfl) rfl ?_
 refine On 51 rfl rfl hb33 ?_
 refine Pu (.bool (decide (a0.Serial ≠ a1.Serial))) (PO.neq rfl rfl) rfl ?_
 refine Pu (.bool (decide (a0.Serial ≠ a1.Serial))) (PO.pickF rfl hb33 rfl) rfl ?_
 refine Pm (.bool (decide (a0.Serial ≠ a1.Serial))) rfl rfl ?_
 rcases Bool.eq_false_or_eq_true (decide (a0.Serial ≠ a1.Serial)) with hb34 | hb34
 have h := ite_t hb34 h
 iterate 5 refine Of 58 rfl rfl hb34 rfl ?_
 refine Pu (.bool true) (PO.pickT rfl hb34 rfl) rfl ?_
 refine Pm (.bool true) rfl rfl ?_
 iterate 5 refine Of 65 rfl rfl rfl rfl ?_
 refine Pu (.bool true) (PO.pickT rfl rfl rfl) rfl ?_
 refine WL.nil ?_
 obtain rfl := Option.some.inj h
 refine WQ.thenJ ?_
 exact ⟨(IM.le.refl _), rfl, hs24_2, hs24_3, rfl⟩
 have h := ite_f hb34 h
 refine On 58 rfl rfl hb34 ?_
 refine Pu (pt g21 8) (PO.fieldAddr fo35_8 hs24_2 rfl) rfl ?_
 refine On 58 rfl rfl hb34 ?_
 refine Pu (.int .i64 a0.Code) (PO.loadB 1 pl3 rfl rfl rfl) rfl ?_
 refine On 58 rfl rfl hb34 ?_
 refine Pu (pt g22 8) (PO.fieldAddr fo35_8 hs24_3 rfl) rfl ?_
 refine On 58 rfl rfl hb34 ?_
 refine Pu (.int .i64 a1.Code) (PO.loadB 0 pl3 rfl rfl rfl) rfl ?_
 refine On 58 rfl rfl hb34 ?_
 refine Pu (.bool (decide (a0.Code ≠ a1.Code))) (PO.neq rfl rfl) rfl ?_
 refine Pu (.bool (decide (a0.Code ≠ a1.Code))) (PO.pickF rfl hb34 rfl) rfl ?_
 refine Pm (.bool (decide (a0.Code ≠ a1.Code))) rfl rfl ?_
 rcases Bool.eq_false_or_eq_true (decide (a0.Code ≠ a1.Code)) with hb35 | hb35
 have h := ite_t hb35 h
 iterate 5 refine Of 65 rfl rfl hb35 rfl ?_
 refine Pu (.bool true) (PO.pickT rfl hb35 rfl) rfl ?_
 refine WL.nil ?_
 obtain rfl := Option.some.inj h
 refine WQ.thenJ ?_
 exact ⟨(IM.le.refl _), rfl, hs24_2, hs24_3, rfl⟩
 have h := ite_f hb35 h
 refine On 65 rfl rfl hb35 ?_
 refine Pu (pt g21 9) (PO.fieldAddr fo35_9 hs24_2 rfl) rfl ?_
 refine On 65 rfl rfl hb35 ?_
 refine Pu (.bool a0.Flag) (PO.loadB 1 pl4 rfl rfl rfl) rfl ?_
 refine On 65 rfl rfl hb35 ?_
 refine Pu (pt g22 9) (PO.fieldAddr fo35_9 hs24_3 rfl) rfl ?_
 refine On 65 rfl rfl hb35 ?_
 refine Pu (.bool a1.Flag) (PO.loadB 0 pl4 rfl rfl rfl) rfl ?_
 refine On 65 rfl rfl hb35 ?_
 refine Pu (.bool (!(a0.Flag == a1.Flag))) (PO.bneq Tryz.underlying4 rfl rfl) rfl ?_
 refine Pu (.bool (!(a0.Flag == a1.Flag))) (PO.pickF rfl hb35 rfl) rfl ?_
 refine WL.nil ?_
 obtain rfl := Option.some.inj h
 refine WQ.thenJ ?_
 exact ⟨(IM.le.refl _), rfl, hs24_2, hs24_3, rfl⟩
 rintro ρ32 M32 H32 ⟨hle32, rfl, hs32_2, hs32_3, hs32_71⟩
 have h1_14 := h1_14.mono hle32
 have h1_15 := h1_15.mono hle32
 have h1_16 := h1_16.mono hle32
 have h1_17 := h1_17.mono hle32
 have h0_14 := h0_14.mono hle32
 have h0_15 := h0_15.mono hle32
 have h0_16 := h0_16.mono hle32
 have h0_17 := h0_17.mono hle32
 refine WC.cond (b := x31) hs32_71 (fun hb36 => ?_) (fun hb36 => ?_)
 have h := ite_t hb36 h
 refine Sr ?_
 refine Pa (.bool false) rfl rfl ?_
 refine Nt ?_
 refine WC.ret ?_
 refine WQ.thenR ?_
 refine WQ.drop ?_
 refine WQ.drop ?_
 exact WQ.returnsF h [] rfl (results1 rfl rfl) (hle24.trans hle32) ⟨rfl, rfl⟩
 have h := ite_f hb36 h
 refine WC.skip ?_
 refine WQ.thenC ?_
 refine WC.seq ?_
 obtain ⟨x37, hj38, h⟩ := bnd h
 refine WC.joinF (fun (x37 : Bool) ρ' M' H' => M32.le M' ∧ [(g22, .cells (l35 a1 v1_14 v1_15 v1_16 v1_17).toArray 35 (0, 0))] :: [(g21, .cells (l35 a0 v0_14 v0_15 v0_16 v0_17).toArray 35 (0, 0))] :: F = H' ∧ ρ' 2 = (pt g21 0) ∧ ρ' 3 = (pt g22 0) ∧ ρ' 97 = (.bool x37)) x37 ?_ ?_
 have h338 := h
 have h := hj38
 refine WC.region ?_
 refine Pu (pt g21 10) (PO.fieldAddr fo35_10 hs32_2 rfl) rfl ?_
 refine Pu (.string a0.Name) (PO.loadB 1 pl9 rfl rfl rfl) rfl ?_
 refine Pu (pt g22 10) (PO.fieldAddr fo35_10 hs32_3 rfl) rfl ?_
 refine Pu (.string a1.Name) (PO.loadB 0 pl9 rfl rfl rfl) rfl ?_
 refine Pu (.bool (!decide (a0.Name = a1.Name))) (PO.sneq rfl rfl) rfl ?_
 refine Pm (.bool (!decide (a0.Name = a1.Name))) rfl rfl ?_
 rcases Bool.eq_false_or_eq_true (!decide (a0.Name = a1.Name)) with hb39 | hb39
 have h := ite_t hb39 h
 iterate 5 refine Of 77 rfl rfl hb39 rfl ?_
 refine Pu (.bool true) (PO.pickT rfl hb39 rfl) rfl ?_
 refine Pm (.bool true) rfl rfl ?_
 iterate 5 refine Of 84 rfl rfl rfl rfl ?_
 refine Pu (.bool true) (PO.pickT rfl rfl rfl) rfl ?_
 refine Pm (.bool true) rfl rfl ?_
 iterate 5 refine Of 91 rfl rfl rfl rfl ?_
 refine Pu (.bool true) (PO.pickT rfl rfl rfl) rfl ?_
 refine WL.nil ?_
 obtain rfl := Option.some.inj h
 refine WQ.thenJ ?_
 exact ⟨(IM.le.refl _), rfl, hs32_2, hs32_3, rfl⟩
 have h := ite_f hb39 h
 refine On 77 rfl rfl hb39 ?_
 refine Pu (pt g21 11) (PO.fieldAddr fo35_11 hs32_2 rfl) rfl ?_
 refine On 77 rfl rfl hb39 ?_
 refine Pu (.string a0.Key) (PO.loadB 1 pl9 rfl rfl rfl) rfl ?_
 refine On 77 rfl rfl hb39 ?_
 refine Pu (pt g22 11) (PO.fieldAddr fo35_11 hs32_3 rfl) rfl ?_
 refine On 77 rfl rfl hb39 ?_
 refine Pu (.string a1.Key) (PO.loadB 0 pl9 rfl rfl rfl) rfl ?_
 refine On 77 rfl rfl hb39 ?_
 refine Pu (.bool (!decide (a0.Key = a1.Key))) (PO.sneq rfl rfl) rfl ?_
 refine Pu (.bool (!decide (a0.Key = a1.Key))) (PO.pickF rfl hb39 rfl) rfl ?_
 refine Pm (.bool (!decide (a0.Key = a1.Key))) rfl rfl ?_
 rcases Bool.eq_false_or_eq_true (!decide (a0.Key = a1.Key)) with hb40 | hb40
 have h := ite_t hb40 h
 iterate 5 refine Of 84 rfl rfl hb40 rfl ?_
 refine Pu (.bool true) (PO.pickT rfl hb40 rfl) rfl ?_
 refine Pm (.bool true) rfl rfl ?_
 iterate 5 refine Of 91 rfl rfl rfl rfl ?_
 refine Pu (.bool true) (PO.pickT rfl rfl rfl) rfl ?_
 refine WL.nil ?_
 obtain rfl := Option.some.inj h
 refine WQ.thenJ ?_
 exact ⟨(IM.le.refl _), rfl, hs32_2, hs32_3, rfl⟩
 have h := ite_f hb40 h
 refine On 84 rfl rfl hb40 ?_
 refine Pu (pt g21 12) (PO.fieldAddr fo35_12 hs32_2 rfl) rfl ?_
 refine On 84 rfl rfl hb40 ?_
 refine Pu (.string a0.Value) (PO.loadB 1 pl9 rfl rfl rfl) rfl ?_
 refine On 84 rfl rfl hb40 ?_
 refine Pu (pt g22 12) (PO.fieldAddr fo35_12 hs32_3 rfl) rfl ?_
 refine On 84 rfl rfl hb40 ?_
 refine Pu (.string a1.Value) (PO.loadB 0 pl9 rfl rfl rfl) rfl ?_
 refine On 84 rfl rfl hb40 ?_
 refine Pu (.bool (!decide (a0.Value = a1.Value))) (PO.sneq rfl rfl) rfl ?_
 refine Pu (.bool (!decide (a0.Value = a1.Value))) (PO.pickF rfl hb40 rfl) rfl ?_
 refine Pm (.bool (!decide (a0.Value = a1.Value))) rfl rfl ?_
 rcases Bool.eq_false_or_eq_true (!decide (a0.Value = a1.Value)) with hb41 | hb41
 have h := ite_t hb41 h
 iterate 5 refine Of 91 rfl rfl hb41 rfl ?_
 refine Pu (.bool true) (PO.pickT rfl hb41 rfl) rfl ?_
 refine WL.nil ?_
 obtain rfl := Option.some.inj h
 refine WQ.thenJ ?_
 exact ⟨(IM.le.refl _), rfl, hs32_2, hs32_3, rfl⟩
 have h := ite_f hb41 h
 refine On 91 rfl rfl hb41 ?_
 refine Pu (pt g21 13) (PO.fieldAddr fo35_13 hs32_2 rfl) rfl ?_
 refine On 91 rfl rfl hb41 ?_
 refine Pu (.string a0.Rack) (PO.loadB 1 pl9 rfl rfl rfl) rfl ?_
 refine On 91 rfl rfl hb41 ?_
 refine Pu (pt g22 13) (PO.fieldAddr fo35_13 hs32_3 rfl) rfl ?_
 refine On 91 rfl rfl hb41 ?_
 refine Pu (.string a1.Rack) (PO.loadB 0 pl9 rfl rfl rfl) rfl ?_
 refine On 91 rfl rfl hb41 ?_
 refine Pu (.bool (!decide (a0.Rack = a1.Rack))) (PO.sneq rfl rfl) rfl ?_
 refine Pu (.bool (!decide (a0.Rack = a1.Rack))) (PO.pickF rfl hb41 rfl) rfl ?_
 refine WL.nil ?_
 obtain rfl := Option.some.inj h
 refine WQ.thenJ ?_
 exact ⟨(IM.le.refl _), rfl, hs32_2, hs32_3, rfl⟩
 rintro ρ38 M38 H38 ⟨hle38, rfl, hs38_2, hs38_3, hs38_97⟩
 have h1_14 := h1_14.mono hle38
 have h1_15 := h1_15.mono hle38
 have h1_16 := h1_16.mono hle38
 have h1_17 := h1_17.mono hle38
 have h0_14 := h0_14.mono hle38
 have h0_15 := h0_15.mono hle38
 have h0_16 := h0_16.mono hle38
 have h0_17 := h0_17.mono hle38
 refine WC.cond (b := x37) hs38_97 (fun hb42 => ?_) (fun hb42 => ?_)
 have h := ite_t hb42 h
 refine Sr ?_
 refine Pa (.bool false) rfl rfl ?_
 refine Nt ?_
 refine WC.ret ?_
 refine WQ.thenR ?_
 refine WQ.drop ?_
 refine WQ.drop ?_
 exact WQ.returnsF h [] rfl (results1 rfl rfl) ((hle24.trans hle32).trans hle38) ⟨rfl, rfl⟩
 have h := ite_f hb42 h
 refine WC.skip ?_
 refine WQ.thenC ?_
 obtain ⟨x43, hj44, h⟩ := bnd h
 refine WC.joinF (fun (x43 : Bool) ρ' M' H' => M38.le M' ∧ [(g22, .cells (l35 a1 v1_14 v1_15 v1_16 v1_17).toArray 35 (0, 0))] :: [(g21, .cells (l35 a0 v0_14 v0_15 v0_16 v0_17).toArray 35 (0, 0))] :: F = H' ∧ ρ' 2 = (pt g21 0) ∧ ρ' 3 = (pt g22 0) ∧ ρ' 5 = (.bool x43)) x43 ?_ ?_
 have h344 := h
 have h := hj44
 refine WC.region ?_
 refine Pu (pt g21 14) (PO.fieldAddr fo35_14 hs38_2 rfl) rfl ?_
 refine Pu v0_14 (PO.loadB 1 pl33 rfl rfl rfl) rfl ?_
 refine Pu (pt g22 14) (PO.fieldAddr fo35_14 hs38_3 rfl) rfl ?_
 refine Pu v1_14 (PO.loadB 0 pl33 rfl rfl rfl) rfl ?_
 obtain ⟨r45, hr46, h⟩ := bnd h
 refine WL.eff (EO.call0 co19 (f_ref02_Ints_ok a0.Ids a1.Ids _ _ _ h0_14 h1_14 r45 hr46) (args2 rfl rfl)) rfl ?_
 rintro _ M47 _ hle48 ⟨_, ⟨rfl, rfl⟩, rfl⟩
 have h0_14 := h0_14.mono hle48
 have h1_14 := h1_14.mono hle48
 have h1_15 := h1_15.mono hle48
 have h1_16 := h1_16.mono hle48
 have h1_17 := h1_17.mono hle48
 have h0_15 := h0_15.mono hle48
 have h0_16 := h0_16.mono hle48
 have h0_17 := h0_17.mono hle48
 refine WL.a0 ?_
 refine Pm (.bool r45) rfl rfl ?_
 rcases Bool.eq_false_or_eq_true (r45) with hb50 | hb50
 have h := ite_t hb50 h
 refine On 103 rfl rfl hb50 ?_
 refine Pu (pt g21 15) (PO.fieldAddr fo35_15 hs38_2 rfl) rfl ?_
 refine On 103 rfl rfl hb50 ?_
 refine Pu v0_15 (PO.loadB 1 pl33 rfl rfl rfl) rfl ?_
 refine On 103 rfl rfl hb50 ?_
 refine Pu (pt g22 15) (PO.fieldAddr fo35_15 hs38_3 rfl) rfl ?_
 refine On 103 rfl rfl hb50 ?_
 refine Pu v1_15 (PO.loadB 0 pl33 rfl rfl rfl) rfl ?_
 refine On 103 rfl rfl hb50 ?_
 obtain ⟨r51, hr52, h⟩ := bnd h
 refine WL.eff (EO.call0 co19 (f_ref02_Ints_ok a0.Isr a1.Isr _ _ _ h0_15 h1_15 r51 hr52) (args2 rfl rfl)) rfl ?_
 rintro _ M53 _ hle54 ⟨_, ⟨rfl, rfl⟩, rfl⟩
 have h0_14 := h0_14.mono hle54
 have h1_14 := h1_14.mono hle54
 have h0_15 := h0_15.mono hle54
 have h1_15 := h1_15.mono hle54
 have h1_16 := h1_16.mono hle54
 have h1_17 := h1_17.mono hle54
 have h0_16 := h0_16.mono hle54
 have h0_17 := h0_17.mono hle54
 refine WL.a0 ?_
 refine Pu (.bool r51) (PO.pickT rfl hb50 rfl) rfl ?_
 refine Pa (.bool r51) rfl rfl ?_
 refine WL.nil ?_
 obtain rfl := Option.some.inj h
 refine WQ.thenJ ?_
 exact ⟨(hle48.trans hle54), rfl, hs38_2, hs38_3, rfl⟩
 have h := ite_f hb50 h
 iterate 5 refine Of 103 rfl rfl hb50 rfl ?_
 refine Pu (.bool false) (PO.pickF rfl hb50 rfl) rfl ?_
 refine Pa (.bool false) rfl rfl ?_
 refine WL.nil ?_
 obtain rfl := Option.some.inj h
 refine WQ.thenJ ?_
 exact ⟨hle48, rfl, hs38_2, hs38_3, rfl⟩
 rintro ρ44 M44 H44 ⟨hle44, rfl, hs44_2, hs44_3, hs44_5⟩
 have h1_14 := h1_14.mono hle44
 have h1_15 := h1_15.mono hle44
 have h1_16 := h1_16.mono hle44
 have h1_17 := h1_17.mono hle44
 have h0_14 := h0_14.mono hle44
 have h0_15 := h0_15.mono hle44
 have h0_16 := h0_16.mono hle44
 have h0_17 := h0_17.mono hle44
 obtain ⟨x56, hj57, h⟩ := bnd h
 refine WC.joinF (fun (x56 : Bool) ρ' M' H' => M44.le M' ∧ [(g22, .cells (l35 a1 v1_14 v1_15 v1_16 v1_17).toArray 35 (0, 0))] :: [(g21, .cells (l35 a0 v0_14 v0_15 v0_16 v0_17).toArray 35 (0, 0))] :: F = H' ∧ ρ' 4 = (.bool x56)) x56 ?_ ?_
 have h357 := h
 have h := hj57
 refine WC.region ?_
 refine Pm (.bool x43) hs44_5 rfl ?_
 refine Pm (.bool x43) rfl rfl ?_
 rcases Bool.eq_false_or_eq_true (x43) with hb58 | hb58
 have h := ite_t hb58 h
 refine On 111 rfl rfl hb58 ?_
 refine Pu (pt g21 16) (PO.fieldAddr fo35_16 hs44_2 rfl) rfl ?_
 refine On 111 rfl rfl hb58 ?_
 refine Pu v0_16 (PO.loadB 1 pl33 rfl rfl rfl) rfl ?_
 refine On 111 rfl rfl hb58 ?_
 refine Pu (pt g22 16) (PO.fieldAddr fo35_16 hs44_3 rfl) rfl ?_
 refine On 111 rfl rfl hb58 ?_
 refine Pu v1_16 (PO.loadB 0 pl33 rfl rfl rfl) rfl ?_
 refine On 111 rfl rfl hb58 ?_
 obtain ⟨r59, hr60, h⟩ := bnd h
 refine WL.eff (EO.call0 co19 (f_ref02_Ints_ok a0.Add a1.Add _ _ _ h0_16 h1_16 r59 hr60) (args2 rfl rfl)) rfl ?_
 rintro _ M61 _ hle62 ⟨_, ⟨rfl, rfl⟩, rfl⟩
 have h0_16 := h0_16.mono hle62
 have h1_16 := h1_16.mono hle62
 have h1_14 := h1_14.mono hle62
 have h1_15 := h1_15.mono hle62
 have h1_17 := h1_17.mono hle62
 have h0_14 := h0_14.mono hle62
 have h0_15 := h0_15.mono hle62
 have h0_17 := h0_17.mono hle62
 refine WL.a0 ?_
 refine Pu (.bool r59) (PO.pickT rfl hb58 rfl) rfl ?_
 refine Pm (.bool r59) rfl rfl ?_
 rcases Bool.eq_false_or_eq_true (r59) with hb64 | hb64
 have h := ite_t hb64 h
 refine On 118 rfl rfl hb64 ?_
 refine Pu (pt g21 17) (PO.fieldAddr fo35_17 hs44_2 rfl) rfl ?_
 refine On 118 rfl rfl hb64 ?_
 refine Pu v0_17 (PO.loadB 1 pl33 rfl rfl rfl) rfl ?_
 refine On 118 rfl rfl hb64 ?_
 refine Pu (pt g22 17) (PO.fieldAddr fo35_17 hs44_3 rfl) rfl ?_
 refine On 118 rfl rfl hb64 ?_
 refine Pu v1_17 (PO.loadB 0 pl33 rfl rfl rfl) rfl ?_
 refine On 118 rfl rfl hb64 ?_
 obtain ⟨r65, hr66, h⟩ := bnd h
 refine WL.eff (EO.call0 co19 (f_ref02_Ints_ok a0.Drop a1.Drop _ _ _ h0_17 h1_17 r65 hr66) (args2 rfl rfl)) rfl ?_
 rintro _ M67 _ hle68 ⟨_, ⟨rfl, rfl⟩, rfl⟩
 have h0_16 := h0_16.mono hle68
 have h1_16 := h1_16.mono hle68
 have h0_17 := h0_17.mono hle68
 have h1_17 := h1_17.mono hle68
 have h1_14 := h1_14.mono hle68
 have h1_15 := h1_15.mono hle68
 have h0_14 := h0_14.mono hle68
 have h0_15 := h0_15.mono hle68
 refine WL.a0 ?_
 refine Pu (.bool r65) (PO.pickT rfl hb64 rfl) rfl ?_
 refine Pa (.bool r65) rfl rfl ?_
 refine WL.nil ?_
 obtain rfl := Option.some.inj h
 refine WQ.thenJ ?_
 exact ⟨(hle62.trans hle68), rfl, rfl⟩
 have h := ite_f hb64 h
 iterate 5 refine Of 118 rfl rfl hb64 rfl ?_
 refine Pu (.bool false) (PO.pickF rfl hb64 rfl) rfl ?_
 refine Pa (.bool false) rfl rfl ?_
 refine WL.nil ?_
 obtain rfl := Option.some.inj h
 refine WQ.thenJ ?_
 exact ⟨hle62, rfl, rfl⟩
 have h := ite_f hb58 h
 iterate 5 refine Of 111 rfl rfl hb58 rfl ?_
 refine Pu (.bool false) (PO.pickF rfl hb58 rfl) rfl ?_
 refine Pm (.bool false) rfl rfl ?_
 iterate 5 refine Of 118 rfl rfl rfl rfl ?_
 refine Pu (.bool false) (PO.pickF rfl rfl rfl) rfl ?_
 refine Pa (.bool false) rfl rfl ?_
 refine WL.nil ?_
 obtain rfl := Option.some.inj h
 refine WQ.thenJ ?_
 exact ⟨(IM.le.refl _), rfl, rfl⟩
 rintro ρ57 M57 H57 ⟨hle57, rfl, hs57_4⟩
 have h1_14 := h1_14.mono hle57
 have h1_15 := h1_15.mono hle57
 have h1_16 := h1_16.mono hle57
 have h1_17 := h1_17.mono hle57
 have h0_14 := h0_14.mono hle57
 have h0_15 := h0_15.mono hle57
 have h0_16 := h0_16.mono hle57
 have h0_17 := h0_17.mono hle57
 refine WC.ret ?_
 refine WQ.drop ?_
 refine WQ.drop ?_
 exact WQ.returnsF h [] rfl (results1 rfl hs57_4) ((((hle24.trans hle32).trans hle38).trans hle44).trans hle57) ⟨rfl, rfl⟩

noncomputable def f_wire_Reader_At (a0 : T_wire_Reader) : Option Int :=
  (some a0.at_)
def f_wire_Reader_At_post (a0 : T_wire_Reader) (v0_0 : Value) (g0 : Nat) : Int → Value → IM → HL → Prop :=
  fun (r0 : Int) (v : Value) (M' : IM) (H' : HL) => (.int .i64 r0) = v ∧ H' = [[(g0, .cells #[v0_0, (.int .i64 a0.at_), (GV a0.err)] 53 (0, 0))]]
theorem f_wire_Reader_At_ok (a0 : T_wire_Reader) (M : IM) (v0_0 : Value) (g0 : Nat) (h0_0 : RS (Kd.int .u8) M v0_0 a0.b) (res : Int) (h : f_wire_Reader_At a0 = some res) :
    Tri Tryz.prog 9 #[(pt g0 0)] M [[(g0, .cells #[v0_0, (.int .i64 a0.at_), (GV a0.err)] 53 (0, 0))]] (f_wire_Reader_At_post a0 v0_0 g0 res) := by
 unfold f_wire_Reader_At at h
 refine Tri.enter (fn := Tryz.f9) Tryz.func9 rfl (Nat.le_of_ble_eq_true rfl) ?_
 intro F ρ hρ
 refine Sr ?_
 refine Pa (.int .i64 0) rfl rfl ?_
 refine Ns ?_
 refine Pm (pt g0 0) (hρ 0) rfl ?_
 refine Pu (pt g0 0) (PO.nilCheck rfl) rfl ?_
 refine Pu (pt g0 1) (PO.fieldAddr fo53_1 rfl rfl) rfl ?_
 refine Pu (.int .i64 a0.at_) (PO.loadB 0 pl3 rfl rfl rfl) rfl ?_
 refine Pa (.int .i64 a0.at_) rfl rfl ?_
 refine Nt ?_
 refine WC.ret ?_
 exact WQ.returnsF h [[(g0, .cells #[v0_0, (.int .i64 a0.at_), (GV a0.err)] 53 (0, 0))]] rfl (results1 rfl rfl) (IM.le.refl _) ⟨rfl, rfl⟩

noncomputable def f_ref02_End (a0 : (List Int)) (a1 : T_ref02_State) : Option T_ref02_State :=
  (if (decide (a1.At < (a0.length : Int))) = true then ((f_ref02_bad a1 (⟨#[101, 110, 100]⟩ : ByteArray) a1.At (5 : Int)).bind fun (r24 : T_ref02_State) => (some r24)) else (some a1))
def f_ref02_End_post (a0 : (List Int)) (a1 : T_ref02_State) (v0 : Value) : T_ref02_State → Value → IM → HL → Prop :=
  fun (r0 : T_ref02_State) (v : Value) (M' : IM) (H' : HL) => (.agg #[(.int .i64 r0.At), (.int .i64 r0.Code), (.string r0.Op), (.int .i64 r0.Where)]) = v ∧ H' = []
theorem f_ref02_End_ok (a0 : (List Int)) (a1 : T_ref02_State) (M : IM) (v0 : Value) (h0 : RS (Kd.int .u8) M v0 a0) (res : T_ref02_State) (h : f_ref02_End a0 a1 = some res) :
    Tri Tryz.prog 39 #[v0, (a29_ a1)] M [] (f_ref02_End_post a0 a1 v0 res) := by
 unfold f_ref02_End at h
 refine Tri.enter (fn := Tryz.f39) Tryz.func39 rfl (Nat.le_of_ble_eq_true rfl) ?_
 intro F ρ hρ
 refine Sr ?_
 refine WL.eff (EO.box (cs := (l29 a1).toArray) (congrArg Value.cells (asE (a29_ a1) (hρ 1)))) rfl ?_
 rintro _ _ _ - ⟨rfl, g21, rfl, rfl⟩
 refine WL.eff (EO.alloc ze29 rfl) rfl ?_
 rintro _ _ _ - ⟨rfl, g22, rfl, rfl⟩
 refine Nt ?_
 refine WC.seq ?_
 refine Sr ?_
 refine Pu (pt g21 0) (PO.fieldAddr fo29_0 rfl rfl) rfl ?_
 refine Pu (.int .i64 a1.At) (PO.loadB 1 pl3 rfl rfl rfl) rfl ?_
 refine Pm v0 (hρ 0) rfl ?_
 refine Pu (.int .i64 (a0.length : Int)) (PO.lenS Tryz.underlying22 rfl h0.len) rfl ?_
 refine Pu (.bool (decide (a1.At < (a0.length : Int)))) (PO.lss rfl rfl) rfl ?_
 refine Nt ?_
 refine WC.cond (b := decide (a1.At < (a0.length : Int))) rfl (fun hb23 => ?_) (fun hb23 => ?_)
 have h := ite_t hb23 h
 refine Sr ?_
 refine Pu (a29_ a1) (PO.loadBA (cs := (l29 a1)) 1 ag29 sz29 rfl rfl rfl) rfl ?_
 refine Pu (pt g21 0) (PO.fieldAddr fo29_0 rfl rfl) rfl ?_
 refine Pu (.int .i64 a1.At) (PO.loadB 1 pl3 rfl rfl rfl) rfl ?_
 obtain ⟨r24, hr25, h⟩ := bnd h
 refine WL.eff (EO.call0 co70 (f_ref02_bad_ok a1 (⟨#[101, 110, 100]⟩ : ByteArray) a1.At (5 : Int) _ r24 hr25) (args4 rfl rfl rfl rfl)) rfl ?_
 rintro _ M26 _ hle27 ⟨_, ⟨rfl, rfl⟩, rfl⟩
 refine WL.a0 ?_
 refine WL.eff (EO.storeL (v := (a29_ r24)) (vl := (l29 r24)) (arr' := (l29 r24)) rfl sz29 rfl rfl (onesOf (Ones.cons rfl (Ones.cons rfl (Ones.cons rfl (Ones.cons rfl Ones.nil))))) rfl rfl rfl) rfl ?_
 rintro _ _ _ - ⟨rfl, rfl⟩
 refine Nt ?_
 refine WC.ret ?_
 refine WQ.thenR ?_
 refine WQ.f1 ?_
 refine WQ.drop ?_
 exact WQ.returnsD h [] (fun _ hs => hs.drop) (resultsL1 rfl (RV.cellA (cs := (l29 r24)) 0 ag29 sz29 rfl rfl rfl)) hle27 ⟨rfl, rfl⟩
 have h := ite_f hb23 h
 refine WC.skip ?_
 refine WQ.thenC ?_
 refine Sr ?_
 refine Pu (a29_ a1) (PO.loadBA (cs := (l29 a1)) 1 ag29 sz29 rfl rfl rfl) rfl ?_
 refine WL.eff (EO.storeL (v := (a29_ a1)) (vl := (l29 a1)) (arr' := (l29 a1)) rfl sz29 rfl rfl (onesOf (Ones.cons rfl (Ones.cons rfl (Ones.cons rfl (Ones.cons rfl Ones.nil))))) rfl rfl rfl) rfl ?_
 rintro _ _ _ - ⟨rfl, rfl⟩
 refine Nt ?_
 refine WC.ret ?_
 refine WQ.f1 ?_
 refine WQ.drop ?_
 exact WQ.returnsD h [] (fun _ hs => hs.drop) (resultsL1 rfl (RV.cellA (cs := (l29 a1)) 0 ag29 sz29 rfl rfl rfl)) (IM.le.refl _) ⟨rfl, rfl⟩

noncomputable def f_ref05_Cursor_End (a0 : T_ref05_Cursor) : Option (Int × Int × ByteArray × Int) :=
  ((f_ref02_End a0.B a0.S).bind fun (r21 : T_ref02_State) => (some (r21.At, r21.Code, r21.Op, r21.Where)))
def f_ref05_Cursor_End_post (a0 : T_ref05_Cursor) (v0_0 : Value) (g0 : Nat) : (Int × Int × ByteArray × Int) → Value → IM → HL → Prop :=
  fun (p_ : (Int × Int × ByteArray × Int)) (v : Value) (M' : IM) (H' : HL) => match p_ with | (r0, r1, r2, r3) => (.tuple #[]) = v ∧ H' = [[(g0, .cells #[v0_0, (.int .i64 r0), (.int .i64 r1), (.string r2), (.int .i64 r3)] 31 (0, 0))]]
theorem f_ref05_Cursor_End_ok (a0 : T_ref05_Cursor) (M : IM) (v0_0 : Value) (g0 : Nat) (h0_0 : RS (Kd.int .u8) M v0_0 a0.B) (res : (Int × Int × ByteArray × Int)) (h : f_ref05_Cursor_End a0 = some res) :
    Tri Tryz.prog 10 #[(pt g0 0)] M [[(g0, .cells (l31 a0 v0_0).toArray 31 (0, 0))]] (f_ref05_Cursor_End_post a0 v0_0 g0 res) := by
 unfold f_ref05_Cursor_End at h
 refine Tri.enter (fn := Tryz.f10) Tryz.func10 rfl (Nat.le_of_ble_eq_true rfl) ?_
 intro F ρ hρ
 refine WC.draw [0, 0, 2, 6, 14, 0, 32, 96, 224, 510, 1023, 2047, 4095] (.pure 0 (.pure 1 (.pure 2 (.pure 3 (.pure 4 (.pure 5 (.pure 6 (.pure 7 (.pure 8 (.alt 9 (.pure 10 (.pure 11 (.alt 12 .done .none))) .none)))))))))) mixed (by kernel_rfl) ?_
 refine Tp (pt g0 0) rfl (PO.move (hρ 0)) rfl ?_
 refine Tp (pt g0 0) rfl (PO.move (hρ 0)) rfl ?_
 refine Tp (pt g0 0) rfl (PO.nilCheck rfl) rfl ?_
 refine Tp (pt g0 0) rfl (PO.fieldAddr fo31_0 rfl rfl) rfl ?_
 refine Tp v0_0 rfl (PO.loadB 0 pl22 rfl rfl rfl) rfl ?_
 refine Tp (pt g0 0) rfl (PO.move (hρ 0)) rfl ?_
 refine Tp (pt g0 0) rfl (PO.nilCheck rfl) rfl ?_
 refine Tp (pt g0 1) rfl (PO.fieldAddr fo31_1 rfl rfl) rfl ?_
 refine Tp (a29_ a0.S) rfl (PO.loadBA (cs := (l29 a0.S)) 0 ag29 sz29 rfl rfl rfl) rfl ?_
 obtain ⟨r21, hr22, h⟩ := bnd h
 refine WT.alt rfl (EO.call0 co39 (f_ref02_End_ok a0.B a0.S _ _ h0_0 r21 hr22) (args2 rfl rfl)) rfl ?_ ?_
 rintro _ M23 _ hle24 ⟨_, ⟨rfl, rfl⟩, rfl⟩
 have h0_0 := h0_0.mono hle24
 refine ⟨(StabL.anc rfl (StabL.anc rfl (StabL.anc rfl (StabL.anc rfl (StabL.anc rfl (StabL.anc rfl (StabL.anc rfl (StabL.anc rfl (StabL.st (StabA.of rfl (PO.move (hρ 0)) rfl) trivial))))))))), ?_⟩
 refine WT.a0 ?_
 refine Tp (pt g0 0) rfl (PO.nilCheck rfl) rfl ?_
 refine Tp (pt g0 1) rfl (PO.fieldAddr fo31_1 rfl rfl) rfl ?_
 refine WT.alt rfl (EO.storeL (v := (a29_ r21)) (vl := (l29 r21)) (arr' := [v0_0, (.int .i64 r21.At), (.int .i64 r21.Code), (.string r21.Op), (.int .i64 r21.Where)]) rfl sz29 rfl rfl (onesOf (Ones.cons rfl (Ones.cons rfl (Ones.cons rfl (Ones.cons rfl Ones.nil))))) rfl rfl rfl) rfl ?_ ?_
 rintro _ _ _ - ⟨rfl, rfl⟩
 refine ⟨(StabL.anc rfl (StabL.anc rfl (StabL.anc rfl (StabL.anc rfl (StabL.anc rfl (StabL.anc rfl (StabL.anc rfl (StabL.anc rfl (StabL.anc rfl (StabL.anc rfl (StabL.anc rfl trivial))))))))))), ?_⟩
 refine WT.fin ?_
 exact WQ.endsF h [[(g0, .cells #[v0_0, (.int .i64 r21.At), (.int .i64 r21.Code), (.string r21.Op), (.int .i64 r21.Where)] 31 (0, 0))]] rfl (results0 rfl) hle24 ⟨rfl, rfl⟩
 exact WT.no
 exact WT.no

noncomputable def f_errors_as_fault_l0 (a1 : T_api_Fault) (s_ : GErr) : Option (GErr ⊕ (Bool × ByteArray × Int × GErr)) :=
  match s_ with
  | x23 =>
    (match x23 with | .nil => none | .code n28 => (some (Sum.inr (false, a1.Op, a1.At, a1.Err))) | .fault o29 a30 e31 => (some (Sum.inr (true, o29, a30, e31))) | .other b32 => (some (Sum.inr (false, a1.Op, a1.At, a1.Err))))
noncomputable def f_errors_as_fault (a0 : GErr) (a1 : T_api_Fault) : Option (Bool × ByteArray × Int × GErr) :=
  ((iter (f_errors_as_fault_l0 a1) a0).bind (fun (x24, x25, x26, x27) => (some (x24, x25, x26, x27))))
def f_errors_as_fault_post (a0 : GErr) (a1 : T_api_Fault) (g1 g2 : Nat) : (Bool × ByteArray × Int × GErr) → Value → IM → HL → Prop :=
  fun (p_ : (Bool × ByteArray × Int × GErr)) (v : Value) (M' : IM) (H' : HL) => match p_ with | (r0, r1, r2, r3) => (.bool r0) = v ∧ H' = [[(g1, .cells #[(.string r1), (.int .i64 r2), (GV r3)] 104 (0, 0))], [(g2, .cells #[(.pointer (some ⟨g1, 0, none⟩))] 105 (0, 0))]]
theorem f_errors_as_fault_ok (a0 : GErr) (a1 : T_api_Fault) (M : IM) (g1 g2 : Nat) (res : (Bool × ByteArray × Int × GErr)) (h : f_errors_as_fault a0 a1 = some res) :
    Tri Tryz.prog 80 #[(GV a0), (.iface 105 (pt g1 0)), (.agg #[(pt 1 105), (pt g2 0), (.int .u64 150)]), (.iface 133 (.agg #[.pointer (some ⟨1, 104, none⟩)]))] M [[(g1, .cells (l104 a1).toArray 104 (0, 0))], [(g2, .cells #[(pt g1 0)] 105 (0, 0))]] (f_errors_as_fault_post a0 a1 g1 g2 res) := by
 unfold f_errors_as_fault at h
 refine Tri.enter (fn := Tryz.f80) Tryz.func80 rfl (Nat.le_of_ble_eq_true rfl) ?_
 intro F ρ hρ
 refine Sr ?_
 refine WL.eff (EO.box (cs := #[(pt 1 105), (pt g2 0), (.int .u64 150)]) (congrArg Value.cells (asE (.agg #[(pt 1 105), (pt g2 0), (.int .u64 150)]) (hρ 2)))) rfl ?_
 rintro _ _ _ - ⟨rfl, g21, rfl, rfl⟩
 refine Pa (.bool false) rfl rfl ?_
 refine Nt ?_
 refine WC.block ?_
 obtain ⟨e22, he22, hK22⟩ := bnd h
 clear h
 refine WC.loop he22 (fun (x23 : GErr) ρ' M' H' => M.le M' ∧ [(g21, .cells #[(pt 1 105), (pt g2 0), (.int .u64 150)] 118 (0, 0))] :: [(g1, .cells (l104 a1).toArray 104 (0, 0))] :: [(g2, .cells #[(pt g1 0)] 105 (0, 0))] :: F = H' ∧ ρ' 0 = (GV x23) ∧ ρ' 1 = (.iface 105 (pt g1 0)) ∧ ρ' 3 = (.iface 133 (.agg #[.pointer (some ⟨1, 104, none⟩)])) ∧ ρ' 6 = (pt g21 0)) ?_ ?_
 exact ⟨(IM.le.refl _), rfl, (hρ 0), (hρ 1), (hρ 3), rfl⟩
 rintro x23 o22 ρ22 M22 H22 h ⟨hle22, rfl, hs22_0, hs22_1, hs22_3, hs22_6⟩
 unfold f_errors_as_fault_l0 at h
 refine WC.block ?_
 refine WC.seq ?_
 refine Sr ?_
 refine Pm (GV x23) hs22_0 rfl ?_
 rcases x23 with _ | n28 | ⟨o29, a30, e31⟩ | b32
 refine WL.eff (EO.extP xt73 (args1 (show ev _ _ = .nilIface from rfl)) tyNil) rfl ?_
 rintro _ _ _ - ⟨rfl, rfl, rfl⟩
 refine Pm (.iface 133 (.agg #[.pointer (some ⟨1, 104, none⟩)])) hs22_3 rfl ?_
 exact nones h
 refine WL.eff (EO.extP xt73 (args1 (show ev _ _ = (.iface 27 (.int .i64 n28)) from rfl)) (ty27 _)) rfl ?_
 rintro _ _ _ - ⟨rfl, rfl, rfl⟩
 refine Pm (.iface 133 (.agg #[.pointer (some ⟨1, 104, none⟩)])) hs22_3 rfl ?_
 refine WL.eff (EO.invE (show ev _ _ = (.iface 133 (.agg #[.pointer (some ⟨1, 27, none⟩)])) from rfl) (mm_AssignableTo (pt 1 27)) xt115 (inv1 rfl) mr_AssignableTo_27_104) rfl ?_
 rintro _ _ _ - ⟨rfl, rfl, rfl⟩
 refine Nt ?_
 refine WC.condF (b := false) rfl rfl ?_
 refine WC.skip ?_
 refine WQ.thenC ?_
 refine WC.seq ?_
 refine Sr ?_
 refine Pm (GV (GErr.code n28)) hs22_0 rfl ?_
 refine Pu (.tuple #[.nilIface, (.bool false)]) (PO.asserts (show ev _ _ = (.iface 27 (.int .i64 n28)) from rfl) (la27_144 _ _)) rfl ?_
 refine Pm (.tuple #[.nilIface, (.bool false)]) rfl rfl ?_
 refine Pu .nilIface (PO.extract rfl rfl) rfl ?_
 refine Pu (.bool false) (PO.extract rfl rfl) rfl ?_
 refine Pa .nilIface rfl rfl ?_
 refine Pa (.bool false) rfl rfl ?_
 refine Ns ?_
 refine Pm (.bool false) rfl rfl ?_
 refine Pm (.bool false) rfl rfl ?_
 iterate 3 refine Of 31 rfl rfl rfl rfl ?_
 refine Pu (.bool false) (PO.pickF rfl rfl rfl) rfl ?_
 refine Nt ?_
 refine WC.condF (b := false) rfl rfl ?_
 refine WC.skip ?_
 refine WQ.thenC ?_
 refine Sr ?_
 refine Pm (GV (GErr.code n28)) hs22_0 rfl ?_
 refine Nt ?_
 refine WC.block ?_
 refine Sr ?_
 refine Pu (.tuple #[.nilIface, (.bool false)]) (PO.asserts (show ev _ _ = (.iface 27 (.int .i64 n28)) from rfl) (la27_138 _ _)) rfl ?_
 refine Pu (.bool false) (PO.extract rfl rfl) rfl ?_
 refine Pu .nilIface (PO.extract rfl rfl) rfl ?_
 refine Nt ?_
 refine WC.condF (b := false) rfl rfl ?_
 refine Sr ?_
 refine Pu (.tuple #[.nilIface, (.bool false)]) (PO.asserts (show ev _ _ = (.iface 27 (.int .i64 n28)) from rfl) (la27_139 _ _)) rfl ?_
 refine Pu (.bool false) (PO.extract rfl rfl) rfl ?_
 refine Pu .nilIface (PO.extract rfl rfl) rfl ?_
 refine Nt ?_
 refine WC.condF (b := false) rfl rfl ?_
 refine Sr ?_
 refine Pa (GV (GErr.code n28)) rfl rfl ?_
 refine Ns ?_
 refine Pa (.bool false) rfl rfl ?_
 refine Nt ?_
 refine WC.ret ?_
 refine WQ.blockR ?_
 refine WQ.blockR ?_
 refine WQ.leaveR (false, a1.Op, a1.At, a1.Err) (Option.some.inj h).symm (fun heq22 => ?_)
 subst heq22
 have h := hK22
 refine WQ.blockR ?_
 refine WQ.drop ?_
 exact WQ.returnsF h [[(g1, .cells (l104 a1).toArray 104 (0, 0))], [(g2, .cells #[(pt g1 0)] 105 (0, 0))]] rfl (results1 rfl rfl) hle22 ⟨rfl, rfl⟩
 refine WL.eff (EO.extP xt73 (args1 (show ev _ _ = (.iface 104 (.agg #[.string o29, .int .i64 a30, GV e31])) from rfl)) (ty104 _)) rfl ?_
 rintro _ _ _ - ⟨rfl, rfl, rfl⟩
 refine Pm (.iface 133 (.agg #[.pointer (some ⟨1, 104, none⟩)])) hs22_3 rfl ?_
 refine WL.eff (EO.invE (show ev _ _ = (.iface 133 (.agg #[.pointer (some ⟨1, 104, none⟩)])) from rfl) (mm_AssignableTo (pt 1 104)) xt115 (inv1 rfl) mr_AssignableTo_104_104) rfl ?_
 rintro _ _ _ - ⟨rfl, rfl, rfl⟩
 refine Nt ?_
 refine WC.condT (b := true) rfl rfl ?_
 refine Sr ?_
 refine Pu (.agg #[(pt 1 105), (pt g2 0), (.int .u64 150)]) (PO.loadBA (cs := [(pt 1 105), (pt g2 0), (.int .u64 150)]) 0 ag118 sz118 hs22_6 rfl rfl) rfl ?_
 refine WL.eff (EO.rvElem (r := fun p => .agg #[(pt 1 104), .pointer (some p), .int .u64 409]) 2 xt88 pp105_150 rfl pl105 el105 mk104 (args1 (show ev _ _ = (.agg #[(pt 1 105), (pt g2 0), (.int .u64 150)]) from rfl)) rfl) rfl ?_
 rintro _ _ _ - ⟨rfl, rfl, rfl⟩
 refine Pm (GV (GErr.fault o29 a30 e31)) hs22_0 rfl ?_
 refine WL.eff (EO.valueOf xt77 (args1 (show ev _ _ = (.iface 104 (.agg #[.string o29, .int .i64 a30, GV e31])) from rfl)) (vo104 o29 a30 (GV e31))) rfl ?_
 rintro _ _ _ - ⟨rfl, g33, rfl, rfl⟩
 refine WL.f2 ?_
 refine WL.eff (EO.rvSet (arr := (l104 a1)) (vl := [(.string o29), (.int .i64 a30), (GV e31)]) (v := (.agg #[(.string o29), (.int .i64 a30), (GV e31)])) xt89 pp104_409 pp104_153 rfl da104 (args2 (show ev _ _ = (.agg #[(pt 1 104), (pt g1 0), (.int .u64 409)]) from rfl) (show ev _ _ = (.agg #[(pt 1 104), (pt g33 0), (.int .u64 153)]) from rfl)) (fun _ hs => run_loadAgg (cs := [(.string o29), (.int .i64 a30), (GV e31)]) ag104 sz104 (fun i v hi => by rw [add_lit]; exact hs.cellC 1 rfl (chunkCell_lit.trans (by simpa using hi)))) rfl sz104 rfl (onesOf (Ones.cons rfl (Ones.cons rfl (Ones.cons (GErr.val_one _ _ _ _) Ones.nil))))) rfl ?_
 rintro _ _ _ - ⟨rfl, rfl, rfl⟩
 refine Ns ?_
 refine Pa (.bool true) rfl rfl ?_
 refine Nt ?_
 refine WC.ret ?_
 refine WQ.thenR ?_
 refine WQ.blockR ?_
 refine WQ.leaveR (true, o29, a30, e31) (Option.some.inj h).symm (fun heq22 => ?_)
 subst heq22
 have h := hK22
 refine WQ.blockR ?_
 refine WQ.f1 ?_
 refine WQ.drop ?_
 refine WQ.f1 ?_
 refine WQ.drop ?_
 exact WQ.returnsF h [[(g1, .cells #[(.string o29), (.int .i64 a30), (GV e31)] 104 (0, 0))], [(g2, .cells #[(pt g1 0)] 105 (0, 0))]] rfl (results1 rfl rfl) hle22 ⟨rfl, rfl⟩
 refine WL.eff (EO.extP xt73 (args1 (show ev _ _ = (.iface 0 (.pointer (some b32))) from rfl)) (ty0 _)) rfl ?_
 rintro _ _ _ - ⟨rfl, rfl, rfl⟩
 refine Pm (.iface 133 (.agg #[.pointer (some ⟨1, 104, none⟩)])) hs22_3 rfl ?_
 refine WL.eff (EO.invE (show ev _ _ = (.iface 133 (.agg #[.pointer (some ⟨1, 0, none⟩)])) from rfl) (mm_AssignableTo (pt 1 0)) xt115 (inv1 rfl) mr_AssignableTo_0_104) rfl ?_
 rintro _ _ _ - ⟨rfl, rfl, rfl⟩
 refine Nt ?_
 refine WC.condF (b := false) rfl rfl ?_
 refine WC.skip ?_
 refine WQ.thenC ?_
 refine WC.seq ?_
 refine Sr ?_
 refine Pm (GV (GErr.other b32)) hs22_0 rfl ?_
 refine Pu (.tuple #[.nilIface, (.bool false)]) (PO.asserts (show ev _ _ = (.iface 0 (.pointer (some b32))) from rfl) (la0_144 _ _)) rfl ?_
 refine Pm (.tuple #[.nilIface, (.bool false)]) rfl rfl ?_
 refine Pu .nilIface (PO.extract rfl rfl) rfl ?_
 refine Pu (.bool false) (PO.extract rfl rfl) rfl ?_
 refine Pa .nilIface rfl rfl ?_
 refine Pa (.bool false) rfl rfl ?_
 refine Ns ?_
 refine Pm (.bool false) rfl rfl ?_
 refine Pm (.bool false) rfl rfl ?_
 iterate 3 refine Of 31 rfl rfl rfl rfl ?_
 refine Pu (.bool false) (PO.pickF rfl rfl rfl) rfl ?_
 refine Nt ?_
 refine WC.condF (b := false) rfl rfl ?_
 refine WC.skip ?_
 refine WQ.thenC ?_
 refine Sr ?_
 refine Pm (GV (GErr.other b32)) hs22_0 rfl ?_
 refine Nt ?_
 refine WC.block ?_
 refine Sr ?_
 refine Pu (.tuple #[.nilIface, (.bool false)]) (PO.asserts (show ev _ _ = (.iface 0 (.pointer (some b32))) from rfl) (la0_138 _ _)) rfl ?_
 refine Pu (.bool false) (PO.extract rfl rfl) rfl ?_
 refine Pu .nilIface (PO.extract rfl rfl) rfl ?_
 refine Nt ?_
 refine WC.condF (b := false) rfl rfl ?_
 refine Sr ?_
 refine Pu (.tuple #[.nilIface, (.bool false)]) (PO.asserts (show ev _ _ = (.iface 0 (.pointer (some b32))) from rfl) (la0_139 _ _)) rfl ?_
 refine Pu (.bool false) (PO.extract rfl rfl) rfl ?_
 refine Pu .nilIface (PO.extract rfl rfl) rfl ?_
 refine Nt ?_
 refine WC.condF (b := false) rfl rfl ?_
 refine Sr ?_
 refine Pa (GV (GErr.other b32)) rfl rfl ?_
 refine Ns ?_
 refine Pa (.bool false) rfl rfl ?_
 refine Nt ?_
 refine WC.ret ?_
 refine WQ.blockR ?_
 refine WQ.blockR ?_
 refine WQ.leaveR (false, a1.Op, a1.At, a1.Err) (Option.some.inj h).symm (fun heq22 => ?_)
 subst heq22
 have h := hK22
 refine WQ.blockR ?_
 refine WQ.drop ?_
 exact WQ.returnsF h [[(g1, .cells (l104 a1).toArray 104 (0, 0))], [(g2, .cells #[(pt g1 0)] 105 (0, 0))]] rfl (results1 rfl rfl) hle22 ⟨rfl, rfl⟩

noncomputable def f_errors_As_fault (a0 : GErr) (a1 : T_api_Fault) : Option (Bool × ByteArray × Int × GErr) :=
  (if a0.isNil = true then (some (false, a1.Op, a1.At, a1.Err)) else ((f_errors_as_fault a0 a1).bind fun (r24, r25, r26, r27) => (some (r24, r25, r26, r27))))
def f_errors_As_fault_post (a0 : GErr) (a1 : T_api_Fault) (g1 : Nat) : (Bool × ByteArray × Int × GErr) → Value → IM → HL → Prop :=
  fun (p_ : (Bool × ByteArray × Int × GErr)) (v : Value) (M' : IM) (H' : HL) => match p_ with | (r0, r1, r2, r3) => (.bool r0) = v ∧ H' = [[(g1, .cells #[(.string r1), (.int .i64 r2), (GV r3)] 104 (0, 0))]]
theorem f_errors_As_fault_ok (a0 : GErr) (a1 : T_api_Fault) (M : IM) (g1 : Nat) (hE : Env M) (res : (Bool × ByteArray × Int × GErr)) (h : f_errors_As_fault a0 a1 = some res) :
    Tri Tryz.prog 63 #[(GV a0), (.iface 105 (pt g1 0))] M [[(g1, .cells (l104 a1).toArray 104 (0, 0))]] (f_errors_As_fault_post a0 a1 g1 res) := by
 unfold f_errors_As_fault at h
 refine Tri.enter (fn := Tryz.f63) Tryz.func63 rfl (Nat.le_of_ble_eq_true rfl) ?_
 intro F ρ hρ
 refine Sr ?_
 refine Pa (.bool false) rfl rfl ?_
 refine Nt ?_
 refine WC.seq ?_
 refine Sr ?_
 refine Pm (GV a0) (hρ 0) rfl ?_
 refine Pu (.bool a0.isNil) (PO.errNil Tryz.underlying41 rfl) rfl ?_
 refine Nt ?_
 refine WC.cond (b := a0.isNil) rfl (fun hb21 => ?_) (fun hb21 => ?_)
 have h := ite_t hb21 h
 refine Sr ?_
 refine Pa (.bool false) rfl rfl ?_
 refine Nt ?_
 refine WC.ret ?_
 refine WQ.thenR ?_
 exact WQ.returnsF h [[(g1, .cells (l104 a1).toArray 104 (0, 0))]] rfl (results1 rfl rfl) (IM.le.refl _) ⟨rfl, rfl⟩
 have h := ite_f hb21 h
 refine WC.skip ?_
 refine WQ.thenC ?_
 refine WC.seq ?_
 refine Sr ?_
 refine Pm (.iface 105 (pt g1 0)) (hρ 1) rfl ?_
 refine Pu (.bool false) (PO.ifcNil Tryz.underlying20 rfl) rfl ?_
 refine Nt ?_
 refine WC.condF (b := false) rfl rfl ?_
 refine WC.skip ?_
 refine WQ.thenC ?_
 refine Sr ?_
 refine Pm (.iface 105 (pt g1 0)) (hρ 1) rfl ?_
 refine WL.eff (EO.valueOf xt77 (args1 (show ev _ _ = (.iface 105 (pt g1 0)) from rfl)) (vo105 ⟨g1, 0, none⟩)) rfl ?_
 rintro _ _ _ - ⟨rfl, g22, rfl, rfl⟩
 refine WL.eff (EO.alloc ze118 rfl) rfl ?_
 rintro _ _ _ - ⟨rfl, g23, rfl, rfl⟩
 refine WL.eff (EO.storeL (v := (.agg #[(pt 1 105), (pt g22 0), (.int .u64 150)])) (vl := [(pt 1 105), (pt g22 0), (.int .u64 150)]) (arr' := [(pt 1 105), (pt g22 0), (.int .u64 150)]) rfl sz118 rfl rfl (onesOf (Ones.cons rfl (Ones.cons rfl (Ones.cons rfl Ones.nil)))) rfl rfl rfl) rfl ?_
 rintro _ _ _ - ⟨rfl, rfl⟩
 refine Ns ?_
 refine Pu (.agg #[(pt 1 105), (pt g22 0), (.int .u64 150)]) (PO.loadBA (cs := [(pt 1 105), (pt g22 0), (.int .u64 150)]) 0 ag118 sz118 rfl rfl rfl) rfl ?_
 refine WL.eff (EO.extP xt78 (args1 (show ev _ _ = (.agg #[(pt 1 105), (pt g22 0), (.int .u64 150)]) from rfl)) (vt105_150 _)) rfl ?_
 rintro _ _ _ - ⟨rfl, rfl, rfl⟩
 refine Pa (.iface 133 (.agg #[.pointer (some ⟨1, 105, none⟩)])) rfl rfl ?_
 refine Nt ?_
 refine WC.seq ?_
 refine Sr ?_
 refine Pm (.iface 133 (.agg #[.pointer (some ⟨1, 105, none⟩)])) rfl rfl ?_
 refine WL.eff (EO.invE (show ev _ _ = (.iface 133 (.agg #[.pointer (some ⟨1, 105, none⟩)])) from rfl) (mm_Kind (pt 1 105)) xt105 inv0 mr_Kind_105) rfl ?_
 rintro _ _ _ - ⟨rfl, rfl, rfl⟩
 refine Pu (.bool false) (PO.neqR rfl rfl (by decide)) rfl ?_
 refine Pm (.bool false) rfl rfl ?_
 refine On 20 rfl rfl rfl ?_
 refine Pu (.agg #[(pt 1 105), (pt g22 0), (.int .u64 150)]) (PO.loadBA (cs := [(pt 1 105), (pt g22 0), (.int .u64 150)]) 0 ag118 sz118 rfl rfl rfl) rfl ?_
 refine On 20 rfl rfl rfl ?_
 refine WL.eff (EO.isNil 1 xt79 pp105_150 rfl pl105 (args1 (show ev _ _ = (.agg #[(pt 1 105), (pt g22 0), (.int .u64 150)]) from rfl)) rfl) rfl ?_
 rintro _ _ _ - ⟨rfl, rfl, rfl⟩
 refine Pu (.bool false) (PO.pickF rfl rfl rfl) rfl ?_
 refine Nt ?_
 refine WC.condF (b := false) rfl rfl ?_
 refine WC.skip ?_
 refine WQ.thenC ?_
 refine Sr ?_
 refine Pm (.iface 133 (.agg #[.pointer (some ⟨1, 105, none⟩)])) rfl rfl ?_
 refine WL.eff (EO.invE (show ev _ _ = (.iface 133 (.agg #[.pointer (some ⟨1, 105, none⟩)])) from rfl) (mm_Elem (pt 1 105)) xt117 inv0 mr_Elem_105) rfl ?_
 rintro _ _ _ - ⟨rfl, rfl, rfl⟩
 refine Pa (.iface 133 (.agg #[.pointer (some ⟨1, 104, none⟩)])) rfl rfl ?_
 refine Nt ?_
 refine WC.seq ?_
 refine Sr ?_
 refine Pm (.iface 133 (.agg #[.pointer (some ⟨1, 104, none⟩)])) rfl rfl ?_
 refine WL.eff (EO.invE (show ev _ _ = (.iface 133 (.agg #[.pointer (some ⟨1, 104, none⟩)])) from rfl) (mm_Kind (pt 1 104)) xt105 inv0 mr_Kind_104) rfl ?_
 rintro _ _ _ - ⟨rfl, rfl, rfl⟩
 refine Pu (.bool true) (PO.neqR rfl rfl (by decide)) rfl ?_
 refine Pm (.bool true) rfl rfl ?_
 refine On 30 rfl rfl rfl ?_
 refine Pm (.iface 133 (.agg #[.pointer (some ⟨1, 104, none⟩)])) rfl rfl ?_
 refine On 30 rfl rfl rfl ?_
 refine Pu (.iface 133 (.agg #[.pointer (some ⟨1, 41, none⟩)])) (PO.loadG pl110 hE) rfl ?_
 refine On 30 rfl rfl rfl ?_
 refine WL.eff (EO.invE (show ev _ _ = (.iface 133 (.agg #[.pointer (some ⟨1, 104, none⟩)])) from rfl) (mm_Implements (pt 1 104)) xt118 (inv1 rfl) mr_Implements_104_41) rfl ?_
 rintro _ _ _ - ⟨rfl, rfl, rfl⟩
 refine On 30 rfl rfl rfl ?_
 refine Pu (.bool (!true)) (PO.not rfl) rfl ?_
 refine Pu (.bool (!true)) (PO.pickT rfl rfl rfl) rfl ?_
 refine Nt ?_
 refine WC.condF (b := !true) rfl rfl ?_
 refine WC.skip ?_
 refine WQ.thenC ?_
 refine Sr ?_
 refine Pm (GV a0) (hρ 0) rfl ?_
 refine Pm (.iface 105 (pt g1 0)) (hρ 1) rfl ?_
 refine Pu (.agg #[(pt 1 105), (pt g22 0), (.int .u64 150)]) (PO.loadBA (cs := [(pt 1 105), (pt g22 0), (.int .u64 150)]) 0 ag118 sz118 rfl rfl rfl) rfl ?_
 refine Pm (.iface 133 (.agg #[.pointer (some ⟨1, 104, none⟩)])) rfl rfl ?_
 obtain ⟨⟨r24, r25, r26, r27⟩, hr28, h⟩ := bnd h
 refine WL.f1 ?_
 refine WL.f2 ?_
 refine WL.eff (EO.call2 co80 (f_errors_as_fault_ok a0 a1 _ _ _ (r24, r25, r26, r27) hr28) (args4 rfl rfl rfl rfl)) rfl ?_
 rintro _ M29 _ hle30 ⟨_, ⟨rfl, rfl⟩, rfl⟩
 have hE := hE.mono hle30
 refine WL.a2 ?_
 refine Pa (.bool r24) rfl rfl ?_
 refine Nt ?_
 refine WC.ret ?_
 refine WQ.f1 ?_
 refine WQ.drop ?_
 refine WQ.f1 ?_
 refine WQ.drop ?_
 exact WQ.returnsF h [[(g1, .cells #[(.string r25), (.int .i64 r26), (GV r27)] 104 (0, 0))]] rfl (results1 rfl rfl) hle30 ⟨rfl, rfl⟩

noncomputable def f_fault_Where (a0 : GErr) : Option (Int × Bool) :=
  ((f_errors_As_fault a0 (⟨(⟨#[]⟩ : ByteArray), (0 : Int), GErr.nil⟩ : T_api_Fault)).bind fun (r22, r23, r24, r25) => (if (!r22) = true then (some ((0 : Int), false)) else (some (r24, true))))
def f_fault_Where_post (a0 : GErr) : (Int × Bool) → Value → IM → HL → Prop :=
  fun (p_ : (Int × Bool)) (v : Value) (M' : IM) (H' : HL) => match p_ with | (r0, r1) => (.tuple #[(.int .i64 r0), (.bool r1)]) = v ∧ H' = []
theorem f_fault_Where_ok (a0 : GErr) (M : IM) (hE : Env M) (res : (Int × Bool)) (h : f_fault_Where a0 = some res) :
    Tri Tryz.prog 40 #[(GV a0)] M [] (f_fault_Where_post a0 res) := by
 unfold f_fault_Where at h
 refine Tri.enter (fn := Tryz.f40) Tryz.func40 rfl (Nat.le_of_ble_eq_true rfl) ?_
 intro F ρ hρ
 refine Sr ?_
 refine Pa (.int .i64 0) rfl rfl ?_
 refine Pa (.bool false) rfl rfl ?_
 refine Ns ?_
 refine WL.eff (EO.alloc ze104 rfl) rfl ?_
 rintro _ _ _ - ⟨rfl, g21, rfl, rfl⟩
 refine Nt ?_
 refine WC.seq ?_
 refine Sr ?_
 refine Pm (GV a0) (hρ 0) rfl ?_
 refine Pu (.iface 105 (pt g21 0)) (PO.makeInterface cc105 rfl) rfl ?_
 obtain ⟨⟨r22, r23, r24, r25⟩, hr26, h⟩ := bnd h
 refine WL.eff (EO.call1 co63 (f_errors_As_fault_ok a0 (⟨(⟨#[]⟩ : ByteArray), (0 : Int), GErr.nil⟩ : T_api_Fault) _ _ hE (r22, r23, r24, r25) hr26) (args2 rfl rfl)) rfl ?_
 rintro _ M27 _ hle28 ⟨_, ⟨rfl, rfl⟩, rfl⟩
 have hE := hE.mono hle28
 refine WL.a1 ?_
 refine Pu (.bool (!r22)) (PO.not rfl) rfl ?_
 refine Nt ?_
 refine WC.cond (b := !r22) rfl (fun hb30 => ?_) (fun hb30 => ?_)
 have h := ite_t hb30 h
 refine Sr ?_
 refine Pa (.int .i64 0) rfl rfl ?_
 refine Pa (.bool false) rfl rfl ?_
 refine Nt ?_
 refine WC.ret ?_
 refine WQ.thenR ?_
 refine WQ.drop ?_
 exact WQ.returnsF h [] rfl (results2 rfl rfl rfl) hle28 ⟨rfl, rfl⟩
 have h := ite_f hb30 h
 refine WC.skip ?_
 refine WQ.thenC ?_
 refine Sr ?_
 refine Pu (pt g21 1) (PO.fieldAddr fo104_1 rfl rfl) rfl ?_
 refine Pu (.int .i64 r24) (PO.loadB 0 pl3 rfl rfl rfl) rfl ?_
 refine Pa (.int .i64 r24) rfl rfl ?_
 refine Pa (.bool true) rfl rfl ?_
 refine Nt ?_
 refine WC.ret ?_
 refine WQ.drop ?_
 exact WQ.returnsF h [] rfl (results2 rfl rfl rfl) hle28 ⟨rfl, rfl⟩

noncomputable def f_fault_Path_l0 (s_ : (GErr × (List ByteArray))) : Option ((GErr × (List ByteArray)) ⊕ (List ByteArray)) :=
  match s_ with
  | (x24, x25) =>
    (if (!x24.isNil) = true then ((f_errors_As_fault x24 (⟨(⟨#[]⟩ : ByteArray), (0 : Int), GErr.nil⟩ : T_api_Fault)).bind fun (r29, r30, r31, r32) => (if (!r29) = true then (some (Sum.inr x25)) else (grd (x25.length + [r30].length ≤ 274877906944) (some (Sum.inl (r32, x25 ++ [r30])))))) else (some (Sum.inr x25)))
noncomputable def f_fault_Path (a0 : GErr) : Option (List ByteArray) :=
  ((((iter (f_fault_Path_l0) (a0, [])).bind (fun (x26 : (List ByteArray)) => (some x26))) : Option (List ByteArray)).bind fun (x21 : (List ByteArray)) => (some x21))
def f_fault_Path_post (a0 : GErr) : (List ByteArray) → Value → IM → HL → Prop :=
  fun (r0 : (List ByteArray)) (v : Value) (M' : IM) (H' : HL) => ∃ vz0 cz0, vz0 = v ∧ H' = [cz0] ∧ OwnS Kd.str M' vz0 r0 cz0
theorem f_fault_Path_ok (a0 : GErr) (M : IM) (hE : Env M) (res : (List ByteArray)) (h : f_fault_Path a0 = some res) :
    Tri Tryz.prog 71 #[(GV a0)] M [] (f_fault_Path_post a0 res) := by
 unfold f_fault_Path at h
 refine Tri.enter (fn := Tryz.f71) Tryz.func71 rfl (Nat.le_of_ble_eq_true rfl) ?_
 intro F ρ hρ
 refine Sr ?_
 refine Pa (.slice none 0 0) rfl rfl ?_
 refine Ns ?_
 refine Pa (.slice none 0 0) rfl rfl ?_
 refine Nt ?_
 obtain ⟨x21, hj22, h⟩ := bnd h
 refine WC.joinF (fun (x21 : (List ByteArray)) ρ' M' H' => ∃ vx21 cx21, M.le M' ∧ cx21 :: F = H' ∧ ρ' 3 = vx21 ∧ OwnS Kd.str M' vx21 x21 cx21) x21 ?_ ?_
 have h322 := h
 have h := hj22
 refine WC.block ?_
 refine WC.e0 ?_
 obtain ⟨e23, he23, hK23⟩ := bnd h
 clear h
 refine WC.loop he23 (fun (p_ : (GErr × (List ByteArray))) ρ' M' H' => match p_ with | (x24, x25) => ∃ vx25 cx25, M.le M' ∧ cx25 :: F = H' ∧ ρ' 0 = (GV x24) ∧ ρ' 3 = vx25 ∧ OwnS Kd.str M' vx25 x25 cx25) ?_ ?_
 exact ⟨(.slice none 0 0), [], (IM.le.refl _), rfl, (hρ 0), rfl, (OwnS.nil _ _)⟩
 rintro ⟨x24, x25⟩ o23 ρ23 M23 H23 h ⟨vx25, cx25, hle23, rfl, hs23_0, hs23_3, hx25⟩
 unfold f_fault_Path_l0 at h
 have hE := hE.mono hle23
 refine WC.seq ?_
 refine Sr ?_
 refine Pm (GV x24) hs23_0 rfl ?_
 refine Pu (.bool (!x24.isNil)) (PO.errNotNil Tryz.underlying41 rfl) rfl ?_
 refine Nt ?_
 refine WC.cond (b := !x24.isNil) rfl (fun hb27 => ?_) (fun hb27 => ?_)
 have h := ite_t hb27 h
 refine WC.skip ?_
 refine WQ.thenC ?_
 refine WC.block ?_
 refine Sr ?_
 refine WL.eff (EO.alloc ze104 rfl) rfl ?_
 rintro _ _ _ - ⟨rfl, g28, rfl, rfl⟩
 refine Nt ?_
 refine WC.seq ?_
 refine Sr ?_
 refine Pm (GV x24) hs23_0 rfl ?_
 refine Pu (.iface 105 (pt g28 0)) (PO.makeInterface cc105 rfl) rfl ?_
 obtain ⟨⟨r29, r30, r31, r32⟩, hr33, h⟩ := bnd h
 refine WL.eff (EO.call1 co63 (f_errors_As_fault_ok x24 (⟨(⟨#[]⟩ : ByteArray), (0 : Int), GErr.nil⟩ : T_api_Fault) _ _ hE (r29, r30, r31, r32) hr33) (args2 rfl rfl)) rfl ?_
 rintro _ M34 _ hle35 ⟨_, ⟨rfl, rfl⟩, rfl⟩
 have hx25 := hx25.mono hle35
 have hE := hE.mono hle35
 refine WL.a1 ?_
 refine Pu (.bool (!r29)) (PO.not rfl) rfl ?_
 refine Nt ?_
 refine WC.cond (b := !r29) rfl (fun hb37 => ?_) (fun hb37 => ?_)
 have h := ite_t hb37 h
 refine WC.exit ?_
 refine WQ.thenE ?_
 refine WQ.blockM rfl ?_
 refine WQ.leaveE x25 (Option.some.inj h).symm (fun heq23 => ?_)
 subst heq23
 have h := hK23
 refine WQ.blockH ?_
 refine WQ.drop ?_
 obtain rfl := Option.some.inj h
 refine WQ.thenJ ?_
 exact ⟨vx25, cx25, (hle23.trans hle35), rfl, hs23_3, hx25⟩
 have h := ite_f hb37 h
 refine WC.skip ?_
 refine WQ.thenC ?_
 refine Sr ?_
 refine Pm vx25 hs23_3 rfl ?_
 refine Pu (pt g28 0) (PO.fieldAddr fo104_0 rfl rfl) rfl ?_
 refine Pu (.string r30) (PO.loadB 0 pl9 rfl rfl rfl) rfl ?_
 refine WL.eff (EO.buildSliceL (cl := [(.string r30)]) Tryz.underlying106 iz9 rfl (Parts.cons (congrArg Value.cells (show ev _ _ = (.string r30) from rfl)) Parts.nil) rfl) rfl ?_
 rintro _ _ _ - ⟨rfl, g38, rfl, rfl⟩
 have h40 : OwnS Kd.str M34 (.slice (some ⟨g38, 0, none⟩) 1 1) [r30] [(g38, .cells #[(.string r30)] 9 (0, 0))] := OwnS.rows (css := [[(.string r30)]]) (Rows.cons rfl Rows.nil) rfl rfl
 obtain ⟨hg44, h⟩ := grd_i h
 refine WL.f2 ?_
 refine WL.eff (EO.append (dd := Kd.str) (xs := x25) (ys := [r30]) Tryz.underlying106 Tryz.underlying106 in9 rfl (appB (by decide) hg44) (by decide) rfl rfl hx25 (h40.src 1 rfl)) rfl ?_
 rintro v43 _ _ - ⟨rfl, c41, rfl, h42⟩
 refine Pa v43 rfl rfl ?_
 refine Nt ?_
 refine WC.region ?_
 refine Pu (pt g28 2) (PO.fieldAddr fo104_2 rfl rfl) rfl ?_
 refine Pu (GV r32) (PO.loadB 2 pl41 rfl rfl rfl) rfl ?_
 refine Pa (GV r32) rfl rfl ?_
 refine WL.nil ?_
 refine WQ.blockN ?_
 refine WQ.f1 ?_
 refine WQ.drop ?_
 refine WQ.f1 ?_
 refine WQ.drop ?_
 refine WQ.again (r32, x25 ++ [r30]) (Option.some.inj h).symm ?_
 exact ⟨v43, c41, (hle23.trans hle35), rfl, rfl, rfl, h42⟩
 have h := ite_f hb27 h
 refine WC.exit ?_
 refine WQ.thenE ?_
 refine WQ.leaveE x25 (Option.some.inj h).symm (fun heq23 => ?_)
 subst heq23
 have h := hK23
 refine WQ.blockH ?_
 obtain rfl := Option.some.inj h
 refine WQ.thenJ ?_
 exact ⟨vx25, cx25, hle23, rfl, hs23_3, hx25⟩
 rintro ρ22 M22 H22 ⟨vx21, cx21, hle22, rfl, hs22_3, hx21⟩
 have hE := hE.mono hle22
 refine Sr ?_
 refine Pm vx21 hs22_3 rfl ?_
 refine Pa vx21 rfl rfl ?_
 refine Nt ?_
 refine WC.ret ?_
 exact WQ.returnsF h [cx21] rfl (results1 rfl rfl) hle22 ⟨vx21, cx21, rfl, rfl, hx21⟩


end Go.Proofs.YtafkdjljkolehaaGreatDoor.G
