/- Go functions: what they come to, and that they do. Printed by a program of the session (gen). -/
import Derived.Test.YtafkdjljkolehaaDoorAF
import Derived.Test.YtafkdjljkolehaaDoorA8
import Derived.Test.YtafkdjljkolehaaDoorKConv
set_option linter.unusedVariables false
set_option linter.unusedSimpArgs false
set_option maxHeartbeats 8000000
set_option maxRecDepth 100000
namespace Go.Proofs.YtafkdjljkolehaaDoor.G
open Go Go.KK

noncomputable def f_ref05_Same (a0 : T_api_Record) (a1 : T_api_Record) : Option Bool :=
  (((if (decide (a0.Kind ≠ a1.Kind)) = true then (some true) else (if (decide (a0.Broker ≠ a1.Broker)) = true then (some true) else (if (decide (a0.Epoch ≠ a1.Epoch)) = true then (some true) else (if (decide (a0.Topic ≠ a1.Topic)) = true then (some true) else (if (decide (a0.Part ≠ a1.Part)) = true then (some true) else (some (decide (a0.Leader ≠ a1.Leader)))))))) : Option Bool).bind fun (x23 : Bool) => (if x23 = true then (some false) else (((if (decide (a0.Client ≠ a1.Client)) = true then (some true) else (if (decide (a0.Serial ≠ a1.Serial)) = true then (some true) else (if (decide (a0.Code ≠ a1.Code)) = true then (some true) else (some (!(a0.Flag == a1.Flag)))))) : Option Bool).bind fun (x31 : Bool) => (if x31 = true then (some false) else (((if (!decide (a0.Name = a1.Name)) = true then (some true) else (if (!decide (a0.Key = a1.Key)) = true then (some true) else (if (!decide (a0.Value = a1.Value)) = true then (some true) else (some (!decide (a0.Rack = a1.Rack)))))) : Option Bool).bind fun (x37 : Bool) => (if x37 = true then (some false) else ((((f_ref02_Ints a0.Ids a1.Ids).bind fun (r45 : Bool) => (if r45 = true then ((f_ref02_Ints a0.Isr a1.Isr).bind fun (r51 : Bool) => (some r51)) else (some false))) : Option Bool).bind fun (x43 : Bool) => (((if x43 = true then ((f_ref02_Ints a0.Add a1.Add).bind fun (r59 : Bool) => (if r59 = true then ((f_ref02_Ints a0.Drop a1.Drop).bind fun (r65 : Bool) => (some r65)) else (some false))) else (some false)) : Option Bool).bind fun (x56 : Bool) => (some x56)))))))))
def f_ref05_Same_post (a0 : T_api_Record) (a1 : T_api_Record) (v0_14 v0_15 v0_16 v0_17 v1_14 v1_15 v1_16 v1_17 : Value) : Bool → Value → IM → HL → Prop :=
  fun (r0 : Bool) (v : Value) (M' : IM) (H' : HL) => (.bool r0) = v ∧ H' = []
theorem f_ref05_Same_ok (a0 : T_api_Record) (a1 : T_api_Record) (M : IM) (v0_14 v0_15 v0_16 v0_17 v1_14 v1_15 v1_16 v1_17 : Value) (h0_14 : RS (Kd.int .i64) M v0_14 a0.Ids) (h0_15 : RS (Kd.int .i64) M v0_15 a0.Isr) (h0_16 : RS (Kd.int .i64) M v0_16 a0.Add) (h0_17 : RS (Kd.int .i64) M v0_17 a0.Drop) (h1_14 : RS (Kd.int .i64) M v1_14 a1.Ids) (h1_15 : RS (Kd.int .i64) M v1_15 a1.Isr) (h1_16 : RS (Kd.int .i64) M v1_16 a1.Add) (h1_17 : RS (Kd.int .i64) M v1_17 a1.Drop) (res : Bool) (h : f_ref05_Same a0 a1 = some res) :
    Tri Tryd.prog 14 #[(a24_ a0 v0_14 v0_15 v0_16 v0_17), (a24_ a1 v1_14 v1_15 v1_16 v1_17)] M [] (f_ref05_Same_post a0 a1 v0_14 v0_15 v0_16 v0_17 v1_14 v1_15 v1_16 v1_17 res) := by
 unfold f_ref05_Same at h
 refine Tri.enter (fn := Tryd.f14) Tryd.func14 rfl (Nat.le_of_ble_eq_true rfl) ?_
 intro F ρ hρ
 refine Sr ?_
 refine WL.eff (EO.box (cs := (l24 a0 v0_14 v0_15 v0_16 v0_17).toArray) (congrArg Value.cells (asE (a24_ a0 v0_14 v0_15 v0_16 v0_17) (hρ 0)))) rfl ?_
 rintro _ _ _ - ⟨rfl, g21, rfl, rfl⟩
 refine WL.eff (EO.box (cs := (l24 a1 v1_14 v1_15 v1_16 v1_17).toArray) (congrArg Value.cells (asE (a24_ a1 v1_14 v1_15 v1_16 v1_17) (hρ 1)))) rfl ?_
 rintro _ _ _ - ⟨rfl, g22, rfl, rfl⟩
 refine Pa (.bool false) rfl rfl ?_
 refine Nt ?_
 refine WC.seq ?_
 obtain ⟨x23, hj24, h⟩ := bnd h
 refine WC.joinF (fun (x23 : Bool) ρ' M' H' => M.le M' ∧ [(g22, .cells (l24 a1 v1_14 v1_15 v1_16 v1_17).toArray 24 (0, 0))] :: [(g21, .cells (l24 a0 v0_14 v0_15 v0_16 v0_17).toArray 24 (0, 0))] :: F = H' ∧ ρ' 2 = (pt g21 0) ∧ ρ' 3 = (pt g22 0) ∧ ρ' 45 = (.bool x23)) x23 ?_ ?_
 have h324 := h
 have h := hj24
 refine WC.region ?_
 refine Pu (pt g21 0) (PO.fieldAddr fo24_0 rfl rfl) rfl ?_
 refine Pu (.int .i64 a0.Kind) (PO.loadB 1 pl3 rfl rfl rfl) rfl ?_
 refine Pu (pt g22 0) (PO.fieldAddr fo24_0 rfl rfl) rfl ?_
 refine Pu (.int .i64 a1.Kind) (PO.loadB 0 pl3 rfl rfl rfl) rfl ?_
 refine Pu (.bool (decide (a0.Kind ≠ a1.Kind))) (PO.neq rfl rfl) rfl ?_
 refine Pm (.bool (decide (a0.Kind ≠ a1.Kind))) rfl rfl ?_
 rcases Bool.eq_false_or_eq_true (decide (a0.Kind ≠ a1.Kind)) with hb25 | hb25
 have h := ite_t hb25 h
 iterate 5 refine Of 11 rfl rfl hb25 rfl ?_
 refine Pu (.bool true) (PO.pickT rfl hb25 rfl) rfl ?_
 refine Pm (.bool true) rfl rfl ?_
 iterate 5 refine Of 18 rfl rfl rfl rfl ?_
 refine Pu (.bool true) (PO.pickT rfl rfl rfl) rfl ?_
 refine Pm (.bool true) rfl rfl ?_
 iterate 5 refine Of 25 rfl rfl rfl rfl ?_
 refine Pu (.bool true) (PO.pickT rfl rfl rfl) rfl ?_
 refine Pm (.bool true) rfl rfl ?_
 iterate 5 refine Of 32 rfl rfl rfl rfl ?_
 refine Pu (.bool true) (PO.pickT rfl rfl rfl) rfl ?_
 refine Pm (.bool true) rfl rfl ?_
 iterate 5 refine Of 39 rfl rfl rfl rfl ?_
 refine Pu (.bool true) (PO.pickT rfl rfl rfl) rfl ?_
 refine WL.nil ?_
 obtain rfl := Option.some.inj h
 refine WQ.thenJ ?_
 exact ⟨(IM.le.refl _), rfl, rfl, rfl, rfl⟩
 have h := ite_f hb25 h
 refine On 11 rfl rfl hb25 ?_
 refine Pu (pt g21 1) (PO.fieldAddr fo24_1 rfl rfl) rfl ?_
 refine On 11 rfl rfl hb25 ?_
 refine Pu (.int .i64 a0.Broker) (PO.loadB 1 pl3 rfl rfl rfl) rfl ?_
 refine On 11 rfl rfl hb25 ?_
 refine Pu (pt g22 1) (PO.fieldAddr fo24_1 rfl rfl) rfl ?_
 refine On 11 rfl rfl hb25 ?_
 refine Pu (.int .i64 a1.Broker) (PO.loadB 0 pl3 rfl rfl rfl) rfl ?_
 refine On 11 rfl rfl hb25 ?_
 refine Pu (.bool (decide (a0.Broker ≠ a1.Broker))) (PO.neq rfl rfl) rfl ?_
 refine Pu (.bool (decide (a0.Broker ≠ a1.Broker))) (PO.pickF rfl hb25 rfl) rfl ?_
 refine Pm (.bool (decide (a0.Broker ≠ a1.Broker))) rfl rfl ?_
 rcases Bool.eq_false_or_eq_true (decide (a0.Broker ≠ a1.Broker)) with hb26 | hb26
 have h := ite_t hb26 h
 iterate 5 refine Of 18 rfl rfl hb26 rfl ?_
 refine Pu (.bool true) (PO.pickT rfl hb26 rfl) rfl ?_
 refine Pm (.bool true) rfl rfl ?_
 iterate 5 refine Of 25 rfl rfl rfl rfl ?_
 refine Pu (.bool true) (PO.pickT rfl rfl rfl) rfl ?_
 refine Pm (.bool true) rfl rfl ?_
 iterate 5 refine Of 32 rfl rfl rfl rfl ?_
 refine Pu (.bool true) (PO.pickT rfl rfl rfl) rfl ?_
 refine Pm (.bool true) rfl rfl ?_
 iterate 5 refine Of 39 rfl rfl rfl rfl ?_
 refine Pu (.bool true) (PO.pickT rfl rfl rfl) rfl ?_
 refine WL.nil ?_
 obtain rfl := Option.some.inj h
 refine WQ.thenJ ?_
 exact ⟨(IM.le.refl _), rfl, rfl, rfl, rfl⟩
 have h := ite_f hb26 h
 refine On 18 rfl rfl hb26 ?_
 refine Pu (pt g21 2) (PO.fieldAddr fo24_2 rfl rfl) rfl ?_
 refine On 18 rfl rfl hb26 ?_
 refine Pu (.int .i64 a0.Epoch) (PO.loadB 1 pl3 rfl rfl rfl) rfl ?_
 refine On 18 rfl rfl hb26 ?_
 refine Pu (pt g22 2) (PO.fieldAddr fo24_2 rfl rfl) rfl ?_
 refine On 18 rfl rfl hb26 ?_
 refine Pu (.int .i64 a1.Epoch) (PO.loadB 0 pl3 rfl rfl rfl) rfl ?_
 refine On 18 rfl rfl hb26 ?_
 refine Pu (.bool (decide (a0.Epoch ≠ a1.Epoch))) (PO.neq rfl rfl) rfl ?_
 refine Pu (.bool (decide (a0.Epoch ≠ a1.Epoch))) (PO.pickF rfl hb26 rfl) rfl ?_
 refine Pm (.bool (decide (a0.Epoch ≠ a1.Epoch))) rfl rfl ?_
 rcases Bool.eq_false_or_eq_true (decide (a0.Epoch ≠ a1.Epoch)) with hb27 | hb27
 have h := ite_t hb27 h
 iterate 5 refine Of 25 rfl rfl hb27 rfl ?_
 refine Pu (.bool true) (PO.pickT rfl hb27 rfl) rfl ?_
 refine Pm (.bool true) rfl rfl ?_
 iterate 5 refine Of 32 rfl rfl rfl rfl ?_
 refine Pu (.bool true) (PO.pickT rfl rfl rfl) rfl ?_
 refine Pm (.bool true) rfl rfl ?_
 iterate 5 refine Of 39 rfl rfl rfl rfl ?_
 refine Pu (.bool true) (PO.pickT rfl rfl rfl) rfl ?_
 refine WL.nil ?_
 obtain rfl := Option.some.inj h
 refine WQ.thenJ ?_
 exact ⟨(IM.le.refl _), rfl, rfl, rfl, rfl⟩
 have h := ite_f hb27 h
 refine On 25 rfl rfl hb27 ?_
 refine Pu (pt g21 3) (PO.fieldAddr fo24_3 rfl rfl) rfl ?_
 refine On 25 rfl rfl hb27 ?_
 refine Pu (.int .i64 a0.Topic) (PO.loadB 1 pl3 rfl rfl rfl) rfl ?_
 refine On 25 rfl rfl hb27 ?_
 refine Pu (pt g22 3) (PO.fieldAddr fo24_3 rfl rfl) rfl ?_
 refine On 25 rfl rfl hb27 ?_
 refine Pu (.int .i64 a1.Topic) (PO.loadB 0 pl3 rfl rfl rfl) rfl ?_
 refine On 25 rfl rfl hb27 ?_
 refine Pu (.bool (decide (a0.Topic ≠ a1.Topic))) (PO.neq rfl rfl) rfl ?_
 refine Pu (.bool (decide (a0.Topic ≠ a1.Topic))) (PO.pickF rfl hb27 rfl) rfl ?_
 refine Pm (.bool (decide (a0.Topic ≠ a1.Topic))) rfl rfl ?_
 rcases Bool.eq_false_or_eq_true (decide (a0.Topic ≠ a1.Topic)) with hb28 | hb28
 have h := ite_t hb28 h
 iterate 5 refine Of 32 rfl rfl hb28 rfl ?_
 refine Pu (.bool true) (PO.pickT rfl hb28 rfl) rfl ?_
 refine Pm (.bool true) rfl rfl ?_
 iterate 5 refine Of 39 rfl rfl rfl rfl ?_
 refine Pu (.bool true) (PO.pickT rfl rfl rfl) rfl ?_
 refine WL.nil ?_
 obtain rfl := Option.some.inj h
 refine WQ.thenJ ?_
 exact ⟨(IM.le.refl _), rfl, rfl, rfl, rfl⟩
 have h := ite_f hb28 h
 refine On 32 rfl rfl hb28 ?_
 refine Pu (pt g21 4) (PO.fieldAddr fo24_4 rfl rfl) rfl ?_
 refine On 32 rfl rfl hb28 ?_
 refine Pu (.int .i64 a0.Part) (PO.loadB 1 pl3 rfl rfl rfl) rfl ?_
 refine On 32 rfl rfl hb28 ?_
 refine Pu (pt g22 4) (PO.fieldAddr fo24_4 rfl rfl) rfl ?_
 refine On 32 rfl rfl hb28 ?_
 refine Pu (.int .i64 a1.Part) (PO.loadB 0 pl3 rfl rfl rfl) rfl ?_
 refine On 32 rfl rfl hb28 ?_
 refine Pu (.bool (decide (a0.Part ≠ a1.Part))) (PO.neq rfl rfl) rfl ?_
 refine Pu (.bool (decide (a0.Part ≠ a1.Part))) (PO.pickF rfl hb28 rfl) rfl ?_
 refine Pm (.bool (decide (a0.Part ≠ a1.Part))) rfl rfl ?_
 rcases Bool.eq_false_or_eq_true (decide (a0.Part ≠ a1.Part)) with hb29 | hb29
 have h := ite_t hb29 h
 iterate 5 refine Of 39 rfl rfl hb29 rfl ?_
 refine Pu (.bool true) (PO.pickT rfl hb29 rfl) rfl ?_
 refine WL.nil ?_
 obtain rfl := Option.some.inj h
 refine WQ.thenJ ?_
 exact ⟨(IM.le.refl _), rfl, rfl, rfl, rfl⟩
 have h := ite_f hb29 h
 refine On 39 rfl rfl hb29 ?_
 refine Pu (pt g21 5) (PO.fieldAddr fo24_5 rfl rfl) rfl ?_
 refine On 39 rfl rfl hb29 ?_
 refine Pu (.int .i64 a0.Leader) (PO.loadB 1 pl3 rfl rfl rfl) rfl ?_
 refine On 39 rfl rfl hb29 ?_
 refine Pu (pt g22 5) (PO.fieldAddr fo24_5 rfl rfl) rfl ?_
 refine On 39 rfl rfl hb29 ?_
 refine Pu (.int .i64 a1.Leader) (PO.loadB 0 pl3 rfl rfl rfl) rfl ?_
 refine On 39 rfl rfl hb29 ?_
 refine Pu (.bool (decide (a0.Leader ≠ a1.Leader))) (PO.neq rfl rfl) rfl ?_
 refine Pu (.bool (decide (a0.Leader ≠ a1.Leader))) (PO.pickF rfl hb29 rfl) rfl ?_
 refine WL.nil ?_
 obtain rfl := Option.some.inj h
 refine WQ.thenJ ?_
 exact ⟨(IM.le.refl _), rfl, rfl, rfl, rfl⟩
 rintro ρ24 M24 H24 ⟨hle24, rfl, hs24_2, hs24_3, hs24_45⟩
 have h1_14 := h1_14.mono hle24
 have h1_15 := h1_15.mono hle24
 have h1_16 := h1_16.mono hle24
 have h1_17 := h1_17.mono hle24
 have h0_14 := h0_14.mono hle24
 have h0_15 := h0_15.mono hle24
 have h0_16 := h0_16.mono hle24
 have h0_17 := h0_17.mono hle24
 refine WC.cond (b := x23) hs24_45 (fun hb30 => ?_) (fun hb30 => ?_)
 have h := ite_t hb30 h
 refine Sr ?_
 refine Pa (.bool false) rfl rfl ?_
 refine Nt ?_
 refine WC.ret ?_
 refine WQ.thenR ?_
 refine WQ.drop ?_
 refine WQ.drop ?_
 exact WQ.returnsF h [] rfl (results1 rfl rfl) hle24 ⟨rfl, rfl⟩
 have h := ite_f hb30 h
 refine WC.skip ?_
 refine WQ.thenC ?_
 refine WC.seq ?_
 obtain ⟨x31, hj32, h⟩ := bnd h
 refine WC.joinF (fun (x31 : Bool) ρ' M' H' => M24.le M' ∧ [(g22, .cells (l24 a1 v1_14 v1_15 v1_16 v1_17).toArray 24 (0, 0))] :: [(g21, .cells (l24 a0 v0_14 v0_15 v0_16 v0_17).toArray 24 (0, 0))] :: F = H' ∧ ρ' 2 = (pt g21 0) ∧ ρ' 3 = (pt g22 0) ∧ ρ' 71 = (.bool x31)) x31 ?_ ?_
 have h332 := h
 have h := hj32
 refine WC.region ?_
 refine Pu (pt g21 6) (PO.fieldAddr fo24_6 hs24_2 rfl) rfl ?_
 refine Pu (.int .i64 a0.Client) (PO.loadB 1 pl3 rfl rfl rfl) rfl ?_
 refine Pu (pt g22 6) (PO.fieldAddr fo24_6 hs24_3 rfl) rfl ?_
 refine Pu (.int .i64 a1.Client) (PO.loadB 0 pl3 rfl rfl rfl) rfl ?_
 refine Pu (.bool (decide (a0.Client ≠ a1.Client))) (PO.neq rfl rfl) rfl ?_
 refine Pm (.bool (decide (a0.Client ≠ a1.Client))) rfl rfl ?_
 rcases Bool.eq_false_or_eq_true (decide (a0.Client ≠ a1.Client)) with hb33 | hb33
 have h := ite_t hb33 h
 iterate 5 refine Of 51 rfl rfl hb33 rfl ?_
 refine Pu (.bool true) (PO.pickT rfl hb33 rfl) rfl ?_
 refine Pm (.bool true) rfl rfl ?_
 iterate 5 refine Of 58 rfl rfl rfl rfl ?_
 refine Pu (.bool true) (PO.pickT rfl rfl rfl) rfl ?_
 refine Pm (.bool true) rfl rfl ?_
 iterate 5 refine Of 65 rfl rfl rfl rfl ?_
 refine Pu (.bool true) (PO.pickT rfl rfl rfl) rfl ?_
 refine WL.nil ?_
 obtain rfl := Option.some.inj h
 refine WQ.thenJ ?_
 exact ⟨(IM.le.refl _), rfl, hs24_2, hs24_3, rfl⟩
 have h := ite_f hb33 h
 refine On 51 rfl rfl hb33 ?_
 refine Pu (pt g21 7) (PO.fieldAddr fo24_7 hs24_2 rfl) rfl ?_
 refine On 51 rfl rfl hb33 ?_
 refine Pu (.int .i64 a0.Serial) (PO.loadB 1 pl3 rfl rfl rfl) rfl ?_
 refine On 51 rfl rfl hb33 ?_
 refine Pu (pt g22 7) (PO.fieldAddr fo24_7 hs24_3 rfl) rfl ?_
 refine On 51 rfl rfl hb33 ?_
 refine Pu (.int .i64 a1.Serial) (PO.loadB 0 pl3 rfl rfl rfl) rfl ?_
 refine On 51 rfl rfl hb33 ?_
 refine Pu (.bool (decide (a0.Serial ≠ a1.Serial))) (PO.neq rfl rfl) rfl ?_
 refine Pu (.bool (decide (a0.Serial ≠ a1.Serial))) (PO.pickF rfl hb33 rfl) rfl ?_
 refine Pm (.bool (decide (a0.Serial ≠ a1.Serial))) rfl rfl ?_
 rcases Bool.eq_false_or_eq_true (decide (a0.Serial ≠ a1.Serial)) with hb34 | hb34
 have h := ite_t hb34 h
 iterate 5 refine Of 58 rfl rfl hb34 rfl ?_
 refine Pu (.bool true) (PO.pickT rfl hb34 rfl) rfl ?_
 refine Pm (.bool true) rfl rfl ?_
 iterate 5 refine Of 65 rfl rfl rfl rfl ?_
 refine Pu (.bool true) (PO.pickT rfl rfl rfl) rfl ?_
 refine WL.nil ?_
 obtain rfl := Option.some.inj h
 refine WQ.thenJ ?_
 exact ⟨(IM.le.refl _), rfl, hs24_2, hs24_3, rfl⟩
 have h := ite_f hb34 h
 refine On 58 rfl rfl hb34 ?_
 refine Pu (pt g21 8) (PO.fieldAddr fo24_8 hs24_2 rfl) rfl ?_
 refine On 58 rfl rfl hb34 ?_
 refine Pu (.int .i64 a0.Code) (PO.loadB 1 pl3 rfl rfl rfl) rfl ?_
 refine On 58 rfl rfl hb34 ?_
 refine Pu (pt g22 8) (PO.fieldAddr fo24_8 hs24_3 rfl) rfl ?_
 refine On 58 rfl rfl hb34 ?_
 refine Pu (.int .i64 a1.Code) (PO.loadB 0 pl3 rfl rfl rfl) rfl ?_
 refine On 58 rfl rfl hb34 ?_
 refine Pu (.bool (decide (a0.Code ≠ a1.Code))) (PO.neq rfl rfl) rfl ?_
 refine Pu (.bool (decide (a0.Code ≠ a1.Code))) (PO.pickF rfl hb34 rfl) rfl ?_
 refine Pm (.bool (decide (a0.Code ≠ a1.Code))) rfl rfl ?_
 rcases Bool.eq_false_or_eq_true (decide (a0.Code ≠ a1.Code)) with hb35 | hb35
 have h := ite_t hb35 h
 iterate 5 refine Of 65 rfl rfl hb35 rfl ?_
 refine Pu (.bool true) (PO.pickT rfl hb35 rfl) rfl ?_
 refine WL.nil ?_
 obtain rfl := Option.some.inj h
 refine WQ.thenJ ?_
 exact ⟨(IM.le.refl _), rfl, hs24_2, hs24_3, rfl⟩
 have h := ite_f hb35 h
 refine On 65 rfl rfl hb35 ?_
 refine Pu (pt g21 9) (PO.fieldAddr fo24_9 hs24_2 rfl) rfl ?_
 refine On 65 rfl rfl hb35 ?_
 refine Pu (.bool a0.Flag) (PO.loadB 1 pl4 rfl rfl rfl) rfl ?_
 refine On 65 rfl rfl hb35 ?_
 refine Pu (pt g22 9) (PO.fieldAddr fo24_9 hs24_3 rfl) rfl ?_
 refine On 65 rfl rfl hb35 ?_
 refine Pu (.bool a1.Flag) (PO.loadB 0 pl4 rfl rfl rfl) rfl ?_
 refine On 65 rfl rfl hb35 ?_
 refine Pu (.bool (!(a0.Flag == a1.Flag))) (PO.bneq Tryd.underlying4 rfl rfl) rfl ?_
 refine Pu (.bool (!(a0.Flag == a1.Flag))) (PO.pickF rfl hb35 rfl) rfl ?_
 refine WL.nil ?_
 obtain rfl := Option.some.inj h
 refine WQ.thenJ ?_
 exact ⟨(IM.le.refl _), rfl, hs24_2, hs24_3, rfl⟩
 rintro ρ32 M32 H32 ⟨hle32, rfl, hs32_2, hs32_3, hs32_71⟩
 have h1_14 := h1_14.mono hle32
 have h1_15 := h1_15.mono hle32
 have h1_16 := h1_16.mono hle32
 have h1_17 := h1_17.mono hle32
 have h0_14 := h0_14.mono hle32
 have h0_15 := h0_15.mono hle32
 have h0_16 := h0_16.mono hle32
 have h0_17 := h0_17.mono hle32
 refine WC.cond (b := x31) hs32_71 (fun hb36 => ?_) (fun hb36 => ?_)
 have h := ite_t hb36 h
 refine Sr ?_
 refine Pa (.bool false) rfl rfl ?_
 refine Nt ?_
 refine WC.ret ?_
 refine WQ.thenR ?_
 refine WQ.drop ?_
 refine WQ.drop ?_
 exact WQ.returnsF h [] rfl (results1 rfl rfl) (hle24.trans hle32) ⟨rfl, rfl⟩
 have h := ite_f hb36 h
 refine WC.skip ?_
 refine WQ.thenC ?_
 refine WC.seq ?_
 obtain ⟨x37, hj38, h⟩ := bnd h
 refine WC.joinF (fun (x37 : Bool) ρ' M' H' => M32.le M' ∧ [(g22, .cells (l24 a1 v1_14 v1_15 v1_16 v1_17).toArray 24 (0, 0))] :: [(g21, .cells (l24 a0 v0_14 v0_15 v0_16 v0_17).toArray 24 (0, 0))] :: F = H' ∧ ρ' 2 = (pt g21 0) ∧ ρ' 3 = (pt g22 0) ∧ ρ' 97 = (.bool x37)) x37 ?_ ?_
 have h338 := h
 have h := hj38
 refine WC.region ?_
 refine Pu (pt g21 10) (PO.fieldAddr fo24_10 hs32_2 rfl) rfl ?_
 refine Pu (.string a0.Name) (PO.loadB 1 pl9 rfl rfl rfl) rfl ?_
 refine Pu (pt g22 10) (PO.fieldAddr fo24_10 hs32_3 rfl) rfl ?_
 refine Pu (.string a1.Name) (PO.loadB 0 pl9 rfl rfl rfl) rfl ?_
 refine Pu (.bool (!decide (a0.Name = a1.Name))) (PO.sneq rfl rfl) rfl ?_
 refine Pm (.bool (!decide (a0.Name = a1.Name))) rfl rfl ?_
 rcases Bool.eq_false_or_eq_true (!decide (a0.Name = a1.Name)) with hb39 | hb39
 have h := ite_t hb39 h
 iterate 5 refine Of 77 rfl rfl hb39 rfl ?_
 refine Pu (.bool true) (PO.pickT rfl hb39 rfl) rfl ?_
 refine Pm (.bool true) rfl rfl ?_
 iterate 5 refine Of 84 rfl rfl rfl rfl ?_
 refine Pu (.bool true) (PO.pickT rfl rfl rfl) rfl ?_
 refine Pm (.bool true) rfl rfl ?_
 iterate 5 refine Of 91 rfl rfl rfl rfl ?_
 refine Pu (.bool true) (PO.pickT rfl rfl rfl) rfl ?_
 refine WL.nil ?_
 obtain rfl := Option.some.inj h
 refine WQ.thenJ ?_
 exact ⟨(IM.le.refl _), rfl, hs32_2, hs32_3, rfl⟩
 have h := ite_f hb39 h
 refine On 77 rfl rfl hb39 ?_
 refine Pu (pt g21 11) (PO.fieldAddr fo24_11 hs32_2 rfl) rfl ?_
 refine On 77 rfl rfl hb39 ?_
 refine Pu (.string a0.Key) (PO.loadB 1 pl9 rfl rfl rfl) rfl ?_
 refine On 77 rfl rfl hb39 ?_
 refine Pu (pt g22 11) (PO.fieldAddr fo24_11 hs32_3 rfl) rfl ?_
 refine On 77 rfl rfl hb39 ?_
 refine Pu (.string a1.Key) (PO.loadB 0 pl9 rfl rfl rfl) rfl ?_
 refine On 77 rfl rfl hb39 ?_
 refine Pu (.bool (!decide (a0.Key = a1.Key))) (PO.sneq rfl rfl) rfl ?_
 refine Pu (.bool (!decide (a0.Key = a1.Key))) (PO.pickF rfl hb39 rfl) rfl ?_
 refine Pm (.bool (!decide (a0.Key = a1.Key))) rfl rfl ?_
 rcases Bool.eq_false_or_eq_true (!decide (a0.Key = a1.Key)) with hb40 | hb40
 have h := ite_t hb40 h
 iterate 5 refine Of 84 rfl rfl hb40 rfl ?_
 refine Pu (.bool true) (PO.pickT rfl hb40 rfl) rfl ?_
 refine Pm (.bool true) rfl rfl ?_
 iterate 5 refine Of 91 rfl rfl rfl rfl ?_
 refine Pu (.bool true) (PO.pickT rfl rfl rfl) rfl ?_
 refine WL.nil ?_
 obtain rfl := Option.some.inj h
 refine WQ.thenJ ?_
 exact ⟨(IM.le.refl _), rfl, hs32_2, hs32_3, rfl⟩
 have h := ite_f hb40 h
 refine On 84 rfl rfl hb40 ?_
 refine Pu (pt g21 12) (PO.fieldAddr fo24_12 hs32_2 rfl) rfl ?_
 refine On 84 rfl rfl hb40 ?_
 refine Pu (.string a0.Value) (PO.loadB 1 pl9 rfl rfl rfl) rfl ?_
 refine On 84 rfl rfl hb40 ?_
 refine Pu (pt g22 12) (PO.fieldAddr fo24_12 hs32_3 rfl) rfl ?_
 refine On 84 rfl rfl hb40 ?_
 refine Pu (.string a1.Value) (PO.loadB 0 pl9 rfl rfl rfl) rfl ?_
 refine On 84 rfl rfl hb40 ?_
 refine Pu (.bool (!decide (a0.Value = a1.Value))) (PO.sneq rfl rfl) rfl ?_
 refine Pu (.bool (!decide (a0.Value = a1.Value))) (PO.pickF rfl hb40 rfl) rfl ?_
 refine Pm (.bool (!decide (a0.Value = a1.Value))) rfl rfl ?_
 rcases Bool.eq_false_or_eq_true (!decide (a0.Value = a1.Value)) with hb41 | hb41
 have h := ite_t hb41 h
 iterate 5 refine Of 91 rfl rfl hb41 rfl ?_
 refine Pu (.bool true) (PO.pickT rfl hb41 rfl) rfl ?_
 refine WL.nil ?_
 obtain rfl := Option.some.inj h
 refine WQ.thenJ ?_
 exact ⟨(IM.le.refl _), rfl, hs32_2, hs32_3, rfl⟩
 have h := ite_f hb41 h
 refine On 91 rfl rfl hb41 ?_
 refine Pu (pt g21 13) (PO.fieldAddr fo24_13 hs32_2 rfl) rfl ?_
 refine On 91 rfl rfl hb41 ?_
 refine Pu (.string a0.Rack) (PO.loadB 1 pl9 rfl rfl rfl) rfl ?_
 refine On 91 rfl rfl hb41 ?_
 refine Pu (pt g22 13) (PO.fieldAddr fo24_13 hs32_3 rfl) rfl ?_
 refine On 91 rfl rfl hb41 ?_
 refine Pu (.string a1.Rack) (PO.loadB 0 pl9 rfl rfl rfl) rfl ?_
 refine On 91 rfl rfl hb41 ?_
 refine Pu (.bool (!decide (a0.Rack = a1.Rack))) (PO.sneq rfl rfl) rfl ?_
 refine Pu (.bool (!decide (a0.Rack = a1.Rack))) (PO.pickF rfl hb41 rfl) rfl ?_
 refine WL.nil ?_
 obtain rfl := Option.some.inj h
 refine WQ.thenJ ?_
 exact ⟨(IM.le.refl _), rfl, hs32_2, hs32_3, rfl⟩
 rintro ρ38 M38 H38 ⟨hle38, rfl, hs38_2, hs38_3, hs38_97⟩
 have h1_14 := h1_14.mono hle38
 have h1_15 := h1_15.mono hle38
 have h1_16 := h1_16.mono hle38
 have h1_17 := h1_17.mono hle38
 have h0_14 := h0_14.mono hle38
 have h0_15 := h0_15.mono hle38
 have h0_16 := h0_16.mono hle38
 have h0_17 := h0_17.mono hle38
 refine WC.cond (b := x37) hs38_97 (fun hb42 => ?_) (fun hb42 => ?_)
 have h := ite_t hb42 h
 refine Sr ?_
 refine Pa (.bool false) rfl rfl ?_
 refine Nt ?_
 refine WC.ret ?_
 refine WQ.thenR ?_
 refine WQ.drop ?_
 refine WQ.drop ?_
 exact WQ.returnsF h [] rfl (results1 rfl rfl) ((hle24.trans hle32).trans hle38) ⟨rfl, rfl⟩
 have h := ite_f hb42 h
 refine WC.skip ?_
 refine WQ.thenC ?_
 obtain ⟨x43, hj44, h⟩ := bnd h
 refine WC.joinF (fun (x43 : Bool) ρ' M' H' => M38.le M' ∧ [(g22, .cells (l24 a1 v1_14 v1_15 v1_16 v1_17).toArray 24 (0, 0))] :: [(g21, .cells (l24 a0 v0_14 v0_15 v0_16 v0_17).toArray 24 (0, 0))] :: F = H' ∧ ρ' 2 = (pt g21 0) ∧ ρ' 3 = (pt g22 0) ∧ ρ' 5 = (.bool x43)) x43 ?_ ?_
 have h344 := h
 have h := hj44
 refine WC.region ?_
 refine Pu (pt g21 14) (PO.fieldAddr fo24_14 hs38_2 rfl) rfl ?_
 refine Pu v0_14 (PO.loadB 1 pl22 rfl rfl rfl) rfl ?_
 refine Pu (pt g22 14) (PO.fieldAddr fo24_14 hs38_3 rfl) rfl ?_
 refine Pu v1_14 (PO.loadB 0 pl22 rfl rfl rfl) rfl ?_
 obtain ⟨r45, hr46, h⟩ := bnd h
 refine WL.eff (EO.call0 co45 (f_ref02_Ints_ok a0.Ids a1.Ids _ _ _ h0_14 h1_14 r45 hr46) (args2 rfl rfl)) rfl ?_
 rintro _ M47 _ hle48 ⟨_, ⟨rfl, rfl⟩, rfl⟩
 have h0_14 := h0_14.mono hle48
 have h1_14 := h1_14.mono hle48
 have h1_15 := h1_15.mono hle48
 have h1_16 := h1_16.mono hle48
 have h1_17 := h1_17.mono hle48
 have h0_15 := h0_15.mono hle48
 have h0_16 := h0_16.mono hle48
 have h0_17 := h0_17.mono hle48
 refine WL.a0 ?_
 refine Pm (.bool r45) rfl rfl ?_
 rcases Bool.eq_false_or_eq_true (r45) with hb50 | hb50
 have h := ite_t hb50 h
 refine On 103 rfl rfl hb50 ?_
 refine Pu (pt g21 15) (PO.fieldAddr fo24_15 hs38_2 rfl) rfl ?_
 refine On 103 rfl rfl hb50 ?_
 refine Pu v0_15 (PO.loadB 1 pl22 rfl rfl rfl) rfl ?_
 refine On 103 rfl rfl hb50 ?_
 refine Pu (pt g22 15) (PO.fieldAddr fo24_15 hs38_3 rfl) rfl ?_
 refine On 103 rfl rfl hb50 ?_
 refine Pu v1_15 (PO.loadB 0 pl22 rfl rfl rfl) rfl ?_
 refine On 103 rfl rfl hb50 ?_
 obtain ⟨r51, hr52, h⟩ := bnd h
 refine WL.eff (EO.call0 co45 (f_ref02_Ints_ok a0.Isr a1.Isr _ _ _ h0_15 h1_15 r51 hr52) (args2 rfl rfl)) rfl ?_
 rintro _ M53 _ hle54 ⟨_, ⟨rfl, rfl⟩, rfl⟩
 have h0_14 := h0_14.mono hle54
 have h1_14 := h1_14.mono hle54
 have h0_15 := h0_15.mono hle54
 have h1_15 := h1_15.mono hle54
 have h1_16 := h1_16.mono hle54
 have h1_17 := h1_17.mono hle54
 have h0_16 := h0_16.mono hle54
 have h0_17 := h0_17.mono hle54
 refine WL.a0 ?_
 refine Pu (.bool r51) (PO.pickT rfl hb50 rfl) rfl ?_
 refine Pa (.bool r51) rfl rfl ?_
 refine WL.nil ?_
 obtain rfl := Option.some.inj h
 refine WQ.thenJ ?_
 exact ⟨(hle48.trans hle54), rfl, hs38_2, hs38_3, rfl⟩
 have h := ite_f hb50 h
 iterate 5 refine Of 103 rfl rfl hb50 rfl ?_
 refine Pu (.bool false) (PO.pickF rfl hb50 rfl) rfl ?_
 refine Pa (.bool false) rfl rfl ?_
 refine WL.nil ?_
 obtain rfl := Option.some.inj h
 refine WQ.thenJ ?_
 exact ⟨hle48, rfl, hs38_2, hs38_3, rfl⟩
 rintro ρ44 M44 H44 ⟨hle44, rfl, hs44_2, hs44_3, hs44_5⟩
 have h1_14 := h1_14.mono hle44
 have h1_15 := h1_15.mono hle44
 have h1_16 := h1_16.mono hle44
 have h1_17 := h1_17.mono hle44
 have h0_14 := h0_14.mono hle44
 have h0_15 := h0_15.mono hle44
 have h0_16 := h0_16.mono hle44
 have h0_17 := h0_17.mono hle44
 obtain ⟨x56, hj57, h⟩ := bnd h
 refine WC.joinF (fun (x56 : Bool) ρ' M' H' => M44.le M' ∧ [(g22, .cells (l24 a1 v1_14 v1_15 v1_16 v1_17).toArray 24 (0, 0))] :: [(g21, .cells (l24 a0 v0_14 v0_15 v0_16 v0_17).toArray 24 (0, 0))] :: F = H' ∧ ρ' 4 = (.bool x56)) x56 ?_ ?_
 have h357 := h
 have h := hj57
 refine WC.region ?_
 refine Pm (.bool x43) hs44_5 rfl ?_
 refine Pm (.bool x43) rfl rfl ?_
 rcases Bool.eq_false_or_eq_true (x43) with hb58 | hb58
 have h := ite_t hb58 h
 refine On 111 rfl rfl hb58 ?_
 refine Pu (pt g21 16) (PO.fieldAddr fo24_16 hs44_2 rfl) rfl ?_
 refine On 111 rfl rfl hb58 ?_
 refine Pu v0_16 (PO.loadB 1 pl22 rfl rfl rfl) rfl ?_
 refine On 111 rfl rfl hb58 ?_
 refine Pu (pt g22 16) (PO.fieldAddr fo24_16 hs44_3 rfl) rfl ?_
 refine On 111 rfl rfl hb58 ?_
 refine Pu v1_16 (PO.loadB 0 pl22 rfl rfl rfl) rfl ?_
 refine On 111 rfl rfl hb58 ?_
 obtain ⟨r59, hr60, h⟩ := bnd h
 refine WL.eff (EO.call0 co45 (f_ref02_Ints_ok a0.Add a1.Add _ _ _ h0_16 h1_16 r59 hr60) (args2 rfl rfl)) rfl ?_
 rintro _ M61 _ hle62 ⟨_, ⟨rfl, rfl⟩, rfl⟩
 have h0_16 := h0_16.mono hle62
 have h1_16 := h1_16.mono hle62
 have h1_14 := h1_14.mono hle62
 have h1_15 := h1_15.mono hle62
 have h1_17 := h1_17.mono hle62
 have h0_14 := h0_14.mono hle62
 have h0_15 := h0_15.mono hle62
 have h0_17 := h0_17.mono hle62
 refine WL.a0 ?_
 refine Pu (.bool r59) (PO.pickT rfl hb58 rfl) rfl ?_
 refine Pm (.bool r59) rfl rfl ?_
 rcases Bool.eq_false_or_eq_true (r59) with hb64 | hb64
 have h := ite_t hb64 h
 refine On 118 rfl rfl hb64 ?_
 refine Pu (pt g21 17) (PO.fieldAddr fo24_17 hs44_2 rfl) rfl ?_
 refine On 118 rfl rfl hb64 ?_
 refine Pu v0_17 (PO.loadB 1 pl22 rfl rfl rfl) rfl ?_
 refine On 118 rfl rfl hb64 ?_
 refine Pu (pt g22 17) (PO.fieldAddr fo24_17 hs44_3 rfl) rfl ?_
 refine On 118 rfl rfl hb64 ?_
 refine Pu v1_17 (PO.loadB 0 pl22 rfl rfl rfl) rfl ?_
 refine On 118 rfl rfl hb64 ?_
 obtain ⟨r65, hr66, h⟩ := bnd h
 refine WL.eff (EO.call0 co45 (f_ref02_Ints_ok a0.Drop a1.Drop _ _ _ h0_17 h1_17 r65 hr66) (args2 rfl rfl)) rfl ?_
 rintro _ M67 _ hle68 ⟨_, ⟨rfl, rfl⟩, rfl⟩
 have h0_16 := h0_16.mono hle68
 have h1_16 := h1_16.mono hle68
 have h0_17 := h0_17.mono hle68
 have h1_17 := h1_17.mono hle68
 have h1_14 := h1_14.mono hle68
 have h1_15 := h1_15.mono hle68
 have h0_14 := h0_14.mono hle68
 have h0_15 := h0_15.mono hle68
 refine WL.a0 ?_
 refine Pu (.bool r65) (PO.pickT rfl hb64 rfl) rfl ?_
 refine Pa (.bool r65) rfl rfl ?_
 refine WL.nil ?_
 obtain rfl := Option.some.inj h
 refine WQ.thenJ ?_
 exact ⟨(hle62.trans hle68), rfl, rfl⟩
 have h := ite_f hb64 h
 iterate 5 refine Of 118 rfl rfl hb64 rfl ?_
 refine Pu (.bool false) (PO.pickF rfl hb64 rfl) rfl ?_
 refine Pa (.bool false) rfl rfl ?_
 refine WL.nil ?_
 obtain rfl := Option.some.inj h
 refine WQ.thenJ ?_
 exact ⟨hle62, rfl, rfl⟩
 have h := ite_f hb58 h
 iterate 5 refine Of 111 rfl rfl hb58 rfl ?_
 refine Pu (.bool false) (PO.pickF rfl hb58 rfl) rfl ?_
 refine Pm (.bool false) rfl rfl ?_
 iterate 5 refine Of 118 rfl rfl rfl rfl ?_
 refine Pu (.bool false) (PO.pickF rfl rfl rfl) rfl ?_
 refine Pa (.bool false) rfl rfl ?_
 refine WL.nil ?_
 obtain rfl := Option.some.inj h
 refine WQ.thenJ ?_
 exact ⟨(IM.le.refl _), rfl, rfl⟩
 rintro ρ57 M57 H57 ⟨hle57, rfl, hs57_4⟩
 have h1_14 := h1_14.mono hle57
 have h1_15 := h1_15.mono hle57
 have h1_16 := h1_16.mono hle57
 have h1_17 := h1_17.mono hle57
 have h0_14 := h0_14.mono hle57
 have h0_15 := h0_15.mono hle57
 have h0_16 := h0_16.mono hle57
 have h0_17 := h0_17.mono hle57
 refine WC.ret ?_
 refine WQ.drop ?_
 refine WQ.drop ?_
 exact WQ.returnsF h [] rfl (results1 rfl hs57_4) ((((hle24.trans hle32).trans hle38).trans hle44).trans hle57) ⟨rfl, rfl⟩

noncomputable def f_law05_RecordShort (a0 : T_api_Record) (a1 : Int) : Option Bool :=
  ((f_ref05_Short a0).bind fun (r22 : Bool) => (if (!r22) = true then ((f_law05_works).bind fun (r28 : Bool) => (some r28)) else ((f_record_Put [] a0).bind fun (r34, r35) => (if (!r35.isNil) = true then ((f_law05_works).bind fun (r42 : Bool) => (some r42)) else (if (decide ((r34.length : Int) = (0 : Int))) = true then (some false) else (grd ((r34.length : Int) ≠ 0) (grd (0 ≤ (0 : Int) ∧ (0 : Int) ≤ (IntKind.i64.wrap a1).tmod (r34.length : Int) ∧ (IntKind.i64.wrap a1).tmod (r34.length : Int) ≤ (r34.length : Int)) ((f_wire_Read (sub r34 (0 : Int) ((IntKind.i64.wrap a1).tmod (r34.length : Int)))).bind fun (r54 : T_wire_Reader) => ((f_record_Read r54).bind fun (r60, r61, r62) => ((((f_wire_Reader_Err (⟨r54.b, r61, r62⟩ : T_wire_Reader)).bind fun (r70 : GErr) => ((f_fault_Is r70 (3 : Int)).bind fun (r75 : Bool) => (if r75 = true then ((f_ref05_Same r60 (⟨(0 : Int), (0 : Int), (0 : Int), (0 : Int), (0 : Int), (0 : Int), (0 : Int), (0 : Int), (0 : Int), false, (⟨#[]⟩ : ByteArray), (⟨#[]⟩ : ByteArray), (⟨#[]⟩ : ByteArray), (⟨#[]⟩ : ByteArray), [], [], [], []⟩ : T_api_Record)).bind fun (r81 : Bool) => (if r81 = true then ((f_law05_works).bind fun (r99 : Bool) => (some r99)) else (some false))) else (some false)))) : Option Bool).bind fun (x68 : Bool) => (some x68)))))))))))
def f_law05_RecordShort_post (a0 : T_api_Record) (a1 : Int) (v0_14 v0_15 v0_16 v0_17 : Value) : Bool → Value → IM → HL → Prop :=
  fun (r0 : Bool) (v : Value) (M' : IM) (H' : HL) => (.bool r0) = v ∧ H' = []
theorem f_law05_RecordShort_ok (a0 : T_api_Record) (a1 : Int) (M : IM) (v0_14 v0_15 v0_16 v0_17 : Value) (h0_14 : RS (Kd.int .i64) M v0_14 a0.Ids) (h0_15 : RS (Kd.int .i64) M v0_15 a0.Isr) (h0_16 : RS (Kd.int .i64) M v0_16 a0.Add) (h0_17 : RS (Kd.int .i64) M v0_17 a0.Drop) (hE : Env M) (res : Bool) (h : f_law05_RecordShort a0 a1 = some res) :
    Tri Tryd.prog 3 #[(a24_ a0 v0_14 v0_15 v0_16 v0_17), (.int .u16 a1)] M [] (f_law05_RecordShort_post a0 a1 v0_14 v0_15 v0_16 v0_17 res) := by
 unfold f_law05_RecordShort at h
 refine Tri.enter (fn := Tryd.f3) Tryd.func3 rfl (Nat.le_of_ble_eq_true rfl) ?_
 intro F ρ hρ
 refine Sr ?_
 refine WL.eff (EO.box (cs := (l24 a0 v0_14 v0_15 v0_16 v0_17).toArray) (congrArg Value.cells (asE (a24_ a0 v0_14 v0_15 v0_16 v0_17) (hρ 0)))) rfl ?_
 rintro _ _ _ - ⟨rfl, g21, rfl, rfl⟩
 refine Pa (.bool false) rfl rfl ?_
 refine Nt ?_
 refine WC.seq ?_
 refine Sr ?_
 refine Pu (a24_ a0 v0_14 v0_15 v0_16 v0_17) (PO.loadBA (cs := (l24 a0 v0_14 v0_15 v0_16 v0_17)) 0 ag24 sz24 rfl rfl rfl) rfl ?_
 obtain ⟨r22, hr23, h⟩ := bnd h
 refine WL.eff (EO.call0 co7 (f_ref05_Short_ok a0 _ _ _ _ _ h0_14 h0_15 h0_16 h0_17 r22 hr23) (args1 rfl)) rfl ?_
 rintro _ M24 _ hle25 ⟨_, ⟨rfl, rfl⟩, rfl⟩
 have h0_14 := h0_14.mono hle25
 have h0_15 := h0_15.mono hle25
 have h0_16 := h0_16.mono hle25
 have h0_17 := h0_17.mono hle25
 have hE := hE.mono hle25
 refine WL.a0 ?_
 refine Pu (.bool (!r22)) (PO.not rfl) rfl ?_
 refine Nt ?_
 refine WC.cond (b := !r22) rfl (fun hb27 => ?_) (fun hb27 => ?_)
 have h := ite_t hb27 h
 refine Sr ?_
 obtain ⟨r28, hr29, h⟩ := bnd h
 refine WL.eff (EO.call0 co8 (f_law05_works_ok _ hE r28 hr29) (args0)) rfl ?_
 rintro _ M30 _ hle31 ⟨_, ⟨rfl, rfl⟩, rfl⟩
 have h0_14 := h0_14.mono hle31
 have h0_15 := h0_15.mono hle31
 have h0_16 := h0_16.mono hle31
 have h0_17 := h0_17.mono hle31
 have hE := hE.mono hle31
 refine WL.a0 ?_
 refine Pa (.bool r28) rfl rfl ?_
 refine Nt ?_
 refine WC.ret ?_
 refine WQ.thenR ?_
 refine WQ.drop ?_
 exact WQ.returnsF h [] rfl (results1 rfl rfl) (hle25.trans hle31) ⟨rfl, rfl⟩
 have h := ite_f hb27 h
 refine WC.skip ?_
 refine WQ.thenC ?_
 refine Sr ?_
 refine Pu (a24_ a0 v0_14 v0_15 v0_16 v0_17) (PO.loadBA (cs := (l24 a0 v0_14 v0_15 v0_16 v0_17)) 0 ag24 sz24 rfl rfl rfl) rfl ?_
 obtain ⟨⟨r34, r35⟩, hr36, h⟩ := bnd h
 refine WL.e0 ?_
 refine WL.eff (EO.call1 co9 (f_record_Put_ok [] a0 _ _ _ _ _ _ _ (OwnS.nil _ _) h0_14 h0_15 h0_16 h0_17 (r34, r35) hr36) (args2 rfl rfl)) rfl ?_
 rintro _ M37 _ hle38 ⟨_, ⟨vq39, cq39, rfl, rfl, hq39⟩, rfl⟩
 have h0_14 := h0_14.mono hle38
 have h0_15 := h0_15.mono hle38
 have h0_16 := h0_16.mono hle38
 have h0_17 := h0_17.mono hle38
 have hE := hE.mono hle38
 refine WL.a1 ?_
 refine Pm (.tuple #[vq39, (GV r35)]) rfl rfl ?_
 refine Pu vq39 (PO.extract rfl rfl) rfl ?_
 refine Pu (GV r35) (PO.extract rfl rfl) rfl ?_
 refine Pa vq39 rfl rfl ?_
 refine Pa (GV r35) rfl rfl ?_
 refine Nt ?_
 refine WC.seq ?_
 refine Sr ?_
 refine Pm (GV r35) rfl rfl ?_
 refine Pu (.bool (!r35.isNil)) (PO.errNotNil Tryd.underlying30 rfl) rfl ?_
 refine Nt ?_
 refine WC.cond (b := !r35.isNil) rfl (fun hb41 => ?_) (fun hb41 => ?_)
 have h := ite_t hb41 h
 refine Sr ?_
 obtain ⟨r42, hr43, h⟩ := bnd h
 refine WL.eff (EO.call0 co8 (f_law05_works_ok _ hE r42 hr43) (args0)) rfl ?_
 rintro _ M44 _ hle45 ⟨_, ⟨rfl, rfl⟩, rfl⟩
 have hq39 := hq39.mono hle45
 have h0_14 := h0_14.mono hle45
 have h0_15 := h0_15.mono hle45
 have h0_16 := h0_16.mono hle45
 have h0_17 := h0_17.mono hle45
 have hE := hE.mono hle45
 refine WL.a0 ?_
 refine Pa (.bool r42) rfl rfl ?_
 refine Nt ?_
 refine WC.ret ?_
 refine WQ.thenR ?_
 refine WQ.drop ?_
 refine WQ.drop ?_
 exact WQ.returnsF h [] rfl (results1 rfl rfl) ((hle25.trans hle38).trans hle45) ⟨rfl, rfl⟩
 have h := ite_f hb41 h
 refine WC.skip ?_
 refine WQ.thenC ?_
 refine WC.seq ?_
 refine Sr ?_
 refine Pm vq39 rfl rfl ?_
 refine Pu (.int .i64 (r34.length : Int)) (PO.lenS Tryd.underlying28 rfl hq39.len) rfl ?_
 refine Pu (.bool (decide ((r34.length : Int) = (0 : Int)))) (PO.eql rfl rfl) rfl ?_
 refine Nt ?_
 refine WC.cond (b := decide ((r34.length : Int) = (0 : Int))) rfl (fun hb47 => ?_) (fun hb47 => ?_)
 have h := ite_t hb47 h
 refine Sr ?_
 refine Pa (.bool false) rfl rfl ?_
 refine Nt ?_
 refine WC.ret ?_
 refine WQ.thenR ?_
 refine WQ.drop ?_
 refine WQ.drop ?_
 exact WQ.returnsF h [] rfl (results1 rfl rfl) (hle25.trans hle38) ⟨rfl, rfl⟩
 have h := ite_f hb47 h
 refine WC.skip ?_
 refine WQ.thenC ?_
 refine Sr ?_
 refine Pm vq39 rfl rfl ?_
 refine Pm (.int .u16 a1) (hρ 1) rfl ?_
 refine Pu (.int .i64 (IntKind.i64.wrap a1)) (PO.conv us25 Tryd.underlying3 rfl) rfl ?_
 refine Pm vq39 rfl rfl ?_
 refine Pu (.int .i64 (r34.length : Int)) (PO.lenS Tryd.underlying28 rfl hq39.len) rfl ?_
 obtain ⟨hg48, h⟩ := grd_i h
 refine Pu (.int .i64 ((IntKind.i64.wrap a1).tmod (r34.length : Int))) (PO.rem rfl rfl hg48) rfl ?_
 obtain ⟨hg49, h⟩ := grd_i h
 have h50 := hq39.sub hg49.1 hg49.2.1 hg49.2.2
 refine Pu (slV vq39 1 ((0 : Int)).toNat ((IntKind.i64.wrap a1).tmod (r34.length : Int)).toNat) (PO.slice (n := r34.length) (l := ((0 : Int)).toNat) (h := ((IntKind.i64.wrap a1).tmod (r34.length : Int)).toNat) Tryd.underlying28 sz5 rfl hq39.len hq39.cap (bound0 rfl) ⟨_, _, rfl, (Int.le_trans hg49.1 hg49.2.1), rfl⟩ (Int.toNat_le_toNat hg49.2.1) (toNat_le_len hg49.2.2)) rfl ?_
 refine WL.know (fun _ hs => hq39.rs hs) (fun hf52 => ?_)
 refine WL.know (fun _ hs => h50.rs hs) (fun hf53 => ?_)
 refine WL.freeze (fun hle51 => ?_)
 have h0_14 := h0_14.mono hle51
 have h0_15 := h0_15.mono hle51
 have h0_16 := h0_16.mono hle51
 have h0_17 := h0_17.mono hle51
 have hE := hE.mono hle51
 obtain ⟨r54, hr55, h⟩ := bnd h
 refine WL.eff (EO.call0 co10 (f_wire_Read_ok (sub r34 (0 : Int) ((IntKind.i64.wrap a1).tmod (r34.length : Int))) _ _ hf53 r54 hr55) (args1 rfl)) rfl ?_
 rintro _ M56 _ hle57 ⟨_, ⟨g58, vq59_0, rfl, rfl, hq59_0⟩, rfl⟩
 have hf52 := hf52.mono hle57
 have hf53 := hf53.mono hle57
 have h0_14 := h0_14.mono hle57
 have h0_15 := h0_15.mono hle57
 have h0_16 := h0_16.mono hle57
 have h0_17 := h0_17.mono hle57
 have hE := hE.mono hle57
 refine WL.a1 ?_
 refine Pa (pt g58 0) rfl rfl ?_
 refine Nt ?_
 refine WC.seq ?_
 refine Sr ?_
 refine Pm (pt g58 0) rfl rfl ?_
 refine Pu (.bool false) (PO.ptrNil Tryd.underlying33 rfl) rfl ?_
 refine Nt ?_
 refine WC.condF (b := false) rfl rfl ?_
 refine WC.skip ?_
 refine WQ.thenC ?_
 refine Sr ?_
 refine Pm (pt g58 0) rfl rfl ?_
 obtain ⟨⟨r60, r61, r62⟩, hr63, h⟩ := bnd h
 refine WL.eff (EO.call1 co11 (f_record_Read_ok r54 _ _ _ hq59_0 hE (r60, r61, r62) hr63) (args1 rfl)) rfl ?_
 rintro _ M64 _ hle65 ⟨_, ⟨vq66_14, cq66_14, vq66_15, cq66_15, vq66_16, cq66_16, vq66_17, cq66_17, rfl, rfl, hq66_14, hq66_15, hq66_16, hq66_17⟩, rfl⟩
 have h0_14 := h0_14.mono hle65
 have h0_15 := h0_15.mono hle65
 have h0_16 := h0_16.mono hle65
 have h0_17 := h0_17.mono hle65
 have hq59_0 := hq59_0.mono hle65
 have hE := hE.mono hle65
 refine WL.a5 ?_
 refine WL.eff (EO.alloc ze24 rfl) rfl ?_
 rintro _ _ _ - ⟨rfl, g67, rfl, rfl⟩
 refine WL.eff (EO.storeL (v := (a24_ r60 vq66_14 vq66_15 vq66_16 vq66_17)) (vl := (l24 r60 vq66_14 vq66_15 vq66_16 vq66_17)) (arr' := (l24 r60 vq66_14 vq66_15 vq66_16 vq66_17)) rfl sz24 rfl rfl (onesOf (Ones.cons rfl (Ones.cons rfl (Ones.cons rfl (Ones.cons rfl (Ones.cons rfl (Ones.cons rfl (Ones.cons rfl (Ones.cons rfl (Ones.cons rfl (Ones.cons rfl (Ones.cons rfl (Ones.cons rfl (Ones.cons rfl (Ones.cons rfl (Ones.cons (OwnS.one hq66_14) (Ones.cons (OwnS.one hq66_15) (Ones.cons (OwnS.one hq66_16) (Ones.cons (OwnS.one hq66_17) Ones.nil))))))))))))))))))) rfl rfl (by kernel_rfl)) rfl ?_
 rintro _ _ _ - ⟨rfl, rfl⟩
 refine Nt ?_
 obtain ⟨x68, hj69, h⟩ := bnd h
 refine WC.joinF (fun (x68 : Bool) ρ' M' H' => M64.le M' ∧ [(g67, .cells (l24 r60 vq66_14 vq66_15 vq66_16 vq66_17).toArray 24 (0, 0))] :: [(g58, .cells #[vq59_0, (.int .i64 r61), (GV r62)] 63 (0, 0))] :: [(g21, .cells (l24 a0 v0_14 v0_15 v0_16 v0_17).toArray 24 (0, 0))] :: cq66_14 :: cq66_15 :: cq66_16 :: cq66_17 :: F = H' ∧ ρ' 4 = (.bool x68)) x68 ?_ ?_
 have h369 := h
 have h := hj69
 refine WC.region ?_
 refine Pm (pt g58 0) rfl rfl ?_
 obtain ⟨r70, hr71, h⟩ := bnd h
 refine WL.f1 ?_
 refine WL.eff (EO.call1 co13 (f_wire_Reader_Err_ok (⟨r54.b, r61, r62⟩ : T_wire_Reader) _ _ _ hq59_0 r70 hr71) (args1 rfl)) rfl ?_
 rintro _ M72 _ hle73 ⟨_, ⟨rfl, rfl⟩, rfl⟩
 have h0_14 := h0_14.mono hle73
 have h0_15 := h0_15.mono hle73
 have h0_16 := h0_16.mono hle73
 have h0_17 := h0_17.mono hle73
 have hq59_0 := hq59_0.mono hle73
 have hq66_14 := hq66_14.mono hle73
 have hq66_15 := hq66_15.mono hle73
 have hq66_16 := hq66_16.mono hle73
 have hq66_17 := hq66_17.mono hle73
 have hE := hE.mono hle73
 refine WL.a1 ?_
 obtain ⟨r75, hr76, h⟩ := bnd h
 refine WL.eff (EO.call0 co12 (f_fault_Is_ok r70 (3 : Int) _ r75 hr76) (args2 rfl rfl)) rfl ?_
 rintro _ M77 _ hle78 ⟨_, ⟨rfl, rfl⟩, rfl⟩
 have h0_14 := h0_14.mono hle78
 have h0_15 := h0_15.mono hle78
 have h0_16 := h0_16.mono hle78
 have h0_17 := h0_17.mono hle78
 have hq59_0 := hq59_0.mono hle78
 have hq66_14 := hq66_14.mono hle78
 have hq66_15 := hq66_15.mono hle78
 have hq66_16 := hq66_16.mono hle78
 have hq66_17 := hq66_17.mono hle78
 have hE := hE.mono hle78
 refine WL.a0 ?_
 refine Pm (.bool r75) rfl rfl ?_
 rcases Bool.eq_false_or_eq_true (r75) with hb80 | hb80
 have h := ite_t hb80 h
 refine On 39 rfl rfl hb80 ?_
 refine Pu (a24_ r60 vq66_14 vq66_15 vq66_16 vq66_17) (PO.loadBA (cs := (l24 r60 vq66_14 vq66_15 vq66_16 vq66_17)) 1 ag24 sz24 rfl rfl rfl) rfl ?_
 refine On 39 rfl rfl hb80 ?_
 refine Pu (.agg z24_.toArray) (PO.buildL (cl := z24_) ze24 fp24 Parts.nil rfl) rfl ?_
 refine On 39 rfl rfl hb80 ?_
 obtain ⟨r81, hr82, h⟩ := bnd h
 refine WL.f5 ?_
 refine WL.f5 ?_
 refine WL.f5 ?_
 refine WL.f5 ?_
 refine WL.eff (EO.call4 co14 (Tri.lend fun w0_ H0_ hs0_ => (Tri.lend fun w1_ H1_ hs1_ => (Tri.lend fun w2_ H2_ hs2_ => (Tri.lend fun w3_ H3_ hs3_ => (f_ref05_Same_ok r60 (⟨(0 : Int), (0 : Int), (0 : Int), (0 : Int), (0 : Int), (0 : Int), (0 : Int), (0 : Int), (0 : Int), false, (⟨#[]⟩ : ByteArray), (⟨#[]⟩ : ByteArray), (⟨#[]⟩ : ByteArray), (⟨#[]⟩ : ByteArray), [], [], [], []⟩ : T_api_Record) _ _ _ _ _ _ _ _ _ ((((hq66_14.rs hs0_).mono (IM.le_add _ _)).mono (IM.le_add _ _)).mono (IM.le_add _ _)) ((((hq66_15.mono (IM.le_add _ _)).rs hs1_).mono (IM.le_add _ _)).mono (IM.le_add _ _)) ((((hq66_16.mono (IM.le_add _ _)).mono (IM.le_add _ _)).rs hs2_).mono (IM.le_add _ _)) ((((hq66_17.mono (IM.le_add _ _)).mono (IM.le_add _ _)).mono (IM.le_add _ _)).rs hs3_) (RS.nil _ _) (RS.nil _ _) (RS.nil _ _) (RS.nil _ _) r81 hr82))))) (args2 rfl rfl)) rfl ?_
 rintro _ _ _ hle84 ⟨_, ⟨Ml95, Hl96, hll97, rfl, rfl, ⟨Ml92, Hl93, hll94, rfl, rfl, ⟨Ml89, Hl90, hll91, rfl, rfl, ⟨Ml86, Hl87, hll88, rfl, rfl, ⟨rfl, rfl⟩⟩⟩⟩⟩, rfl⟩
 have hq66_14 := hq66_14.mono hle84
 have hq66_15 := hq66_15.mono hle84
 have hq66_16 := hq66_16.mono hle84
 have hq66_17 := hq66_17.mono hle84
 have h0_14 := h0_14.mono hle84
 have h0_15 := h0_15.mono hle84
 have h0_16 := h0_16.mono hle84
 have h0_17 := h0_17.mono hle84
 have hq59_0 := hq59_0.mono hle84
 have hE := hE.mono hle84
 refine WL.a4 ?_
 refine Pu (.bool r81) (PO.pickT rfl hb80 rfl) rfl ?_
 refine Pm (.bool r81) rfl rfl ?_
 rcases Bool.eq_false_or_eq_true (r81) with hb98 | hb98
 have h := ite_t hb98 h
 refine On 44 rfl rfl hb98 ?_
 obtain ⟨r99, hr100, h⟩ := bnd h
 refine WL.eff (EO.call0 co8 (f_law05_works_ok _ hE r99 hr100) (args0)) rfl ?_
 rintro _ M101 _ hle102 ⟨_, ⟨rfl, rfl⟩, rfl⟩
 have hq66_14 := hq66_14.mono hle102
 have hq66_15 := hq66_15.mono hle102
 have hq66_16 := hq66_16.mono hle102
 have hq66_17 := hq66_17.mono hle102
 have h0_14 := h0_14.mono hle102
 have h0_15 := h0_15.mono hle102
 have h0_16 := h0_16.mono hle102
 have h0_17 := h0_17.mono hle102
 have hq59_0 := hq59_0.mono hle102
 have hE := hE.mono hle102
 refine WL.a0 ?_
 refine Pu (.bool r99) (PO.pickT rfl hb98 rfl) rfl ?_
 refine Pa (.bool r99) rfl rfl ?_
 refine WL.nil ?_
 refine WQ.f3 ?_
 refine WQ.f3 ?_
 refine WQ.f3 ?_
 refine WQ.f3 ?_
 refine WQ.f6 ?_
 refine WQ.f5 ?_
 refine WQ.f6 ?_
 obtain rfl := Option.some.inj h
 refine WQ.thenJ ?_
 exact ⟨(((hle73.trans hle78).trans hle84).trans hle102), rfl, rfl⟩
 have h := ite_f hb98 h
 refine Of 44 rfl rfl hb98 rfl ?_
 refine Pu (.bool false) (PO.pickF rfl hb98 rfl) rfl ?_
 refine Pa (.bool false) rfl rfl ?_
 refine WL.nil ?_
 refine WQ.f3 ?_
 refine WQ.f3 ?_
 refine WQ.f3 ?_
 refine WQ.f3 ?_
 refine WQ.f6 ?_
 refine WQ.f5 ?_
 refine WQ.f6 ?_
 obtain rfl := Option.some.inj h
 refine WQ.thenJ ?_
 exact ⟨((hle73.trans hle78).trans hle84), rfl, rfl⟩
 have h := ite_f hb80 h
 iterate 3 refine Of 39 rfl rfl hb80 rfl ?_
 refine Pu (.bool false) (PO.pickF rfl hb80 rfl) rfl ?_
 refine Pm (.bool false) rfl rfl ?_
 refine Of 44 rfl rfl rfl rfl ?_
 refine Pu (.bool false) (PO.pickF rfl rfl rfl) rfl ?_
 refine Pa (.bool false) rfl rfl ?_
 refine WL.nil ?_
 refine WQ.f5 ?_
 refine WQ.f5 ?_
 refine WQ.f5 ?_
 refine WQ.f5 ?_
 refine WQ.f6 ?_
 refine WQ.f5 ?_
 refine WQ.f6 ?_
 obtain rfl := Option.some.inj h
 refine WQ.thenJ ?_
 exact ⟨(hle73.trans hle78), rfl, rfl⟩
 rintro ρ69 M69 H69 ⟨hle69, rfl, hs69_4⟩
 have hq66_14 := hq66_14.mono hle69
 have hq66_15 := hq66_15.mono hle69
 have hq66_16 := hq66_16.mono hle69
 have hq66_17 := hq66_17.mono hle69
 have hq59_0 := hq59_0.mono hle69
 have h0_14 := h0_14.mono hle69
 have h0_15 := h0_15.mono hle69
 have h0_16 := h0_16.mono hle69
 have h0_17 := h0_17.mono hle69
 have hE := hE.mono hle69
 refine WC.ret ?_
 refine WQ.drop ?_
 refine WQ.drop ?_
 refine WQ.drop ?_
 refine WQ.drop ?_
 refine WQ.drop ?_
 refine WQ.drop ?_
 refine WQ.drop ?_
 exact WQ.returnsF h [] rfl (results1 rfl hs69_4) (((((hle25.trans hle38).trans hle51).trans hle57).trans hle65).trans hle69) ⟨rfl, rfl⟩

noncomputable def f_wire_Reader_At (a0 : T_wire_Reader) : Option Int :=
  (some a0.at_)
def f_wire_Reader_At_post (a0 : T_wire_Reader) (v0_0 : Value) (g0 : Nat) : Int → Value → IM → HL → Prop :=
  fun (r0 : Int) (v : Value) (M' : IM) (H' : HL) => (.int .i64 r0) = v ∧ H' = [[(g0, .cells #[v0_0, (.int .i64 a0.at_), (GV a0.err)] 63 (0, 0))]]
theorem f_wire_Reader_At_ok (a0 : T_wire_Reader) (M : IM) (v0_0 : Value) (g0 : Nat) (h0_0 : RS (Kd.int .u8) M v0_0 a0.b) (res : Int) (h : f_wire_Reader_At a0 = some res) :
    Tri Tryd.prog 17 #[(pt g0 0)] M [[(g0, .cells #[v0_0, (.int .i64 a0.at_), (GV a0.err)] 63 (0, 0))]] (f_wire_Reader_At_post a0 v0_0 g0 res) := by
 unfold f_wire_Reader_At at h
 refine Tri.enter (fn := Tryd.f17) Tryd.func17 rfl (Nat.le_of_ble_eq_true rfl) ?_
 intro F ρ hρ
 refine Sr ?_
 refine Pa (.int .i64 0) rfl rfl ?_
 refine Ns ?_
 refine Pm (pt g0 0) (hρ 0) rfl ?_
 refine Pu (pt g0 0) (PO.nilCheck rfl) rfl ?_
 refine Pu (pt g0 1) (PO.fieldAddr fo63_1 rfl rfl) rfl ?_
 refine Pu (.int .i64 a0.at_) (PO.loadB 0 pl3 rfl rfl rfl) rfl ?_
 refine Pa (.int .i64 a0.at_) rfl rfl ?_
 refine Nt ?_
 refine WC.ret ?_
 exact WQ.returnsF h [[(g0, .cells #[v0_0, (.int .i64 a0.at_), (GV a0.err)] 63 (0, 0))]] rfl (results1 rfl rfl) (IM.le.refl _) ⟨rfl, rfl⟩

noncomputable def f_ref02_Same_l0 (a0 : (List Int)) (a1 : (List Int)) (s_ : Int) : Option (Int ⊕ (Unit ⊕ Unit)) :=
  match s_ with
  | x24 =>
    (if (decide (x24 < (a0.length : Int))) = true then (grd (0 ≤ x24 ∧ x24 < a0.length) (grd (0 ≤ x24 ∧ x24 < a1.length) (if (decide ((rd a0 x24) ≠ (rd a1 x24))) = true then (some (Sum.inr (Sum.inr ()))) else (some (Sum.inl (IntKind.i64.wrap (x24 + (1 : Int)))))))) else (some (Sum.inr (Sum.inl ()))))
noncomputable def f_ref02_Same (a0 : (List Int)) (a1 : (List Int)) : Option Bool :=
  (if (decide ((a0.length : Int) ≠ (a1.length : Int))) = true then (some false) else ((((iter (f_ref02_Same_l0 a0 a1) (0 : Int)).bind (Sum.elim (fun _ => (some (Sum.inl ()))) (fun _ => (((some false)).bind fun r => some (Sum.inr r))))) : Option (Unit ⊕ Bool)).bind (Sum.elim (fun _ => (some true)) some)))
def f_ref02_Same_post (a0 : (List Int)) (a1 : (List Int)) (v0 v1 : Value) : Bool → Value → IM → HL → Prop :=
  fun (r0 : Bool) (v : Value) (M' : IM) (H' : HL) => (.bool r0) = v ∧ H' = []
theorem f_ref02_Same_ok (a0 : (List Int)) (a1 : (List Int)) (M : IM) (v0 v1 : Value) (h0 : RS (Kd.int .u8) M v0 a0) (h1 : RS (Kd.int .u8) M v1 a1) (res : Bool) (h : f_ref02_Same a0 a1 = some res) :
    Tri Tryd.prog 16 #[v0, v1] M [] (f_ref02_Same_post a0 a1 v0 v1 res) := by
 unfold f_ref02_Same at h
 refine Tri.enter (fn := Tryd.f16) Tryd.func16 rfl (Nat.le_of_ble_eq_true rfl) ?_
 intro F ρ hρ
 refine Sr ?_
 refine Pa (.bool false) rfl rfl ?_
 refine Nt ?_
 refine WC.seq ?_
 refine Sr ?_
 refine Pm v0 (hρ 0) rfl ?_
 refine Pu (.int .i64 (a0.length : Int)) (PO.lenS Tryd.underlying28 rfl h0.len) rfl ?_
 refine Pm v1 (hρ 1) rfl ?_
 refine Pu (.int .i64 (a1.length : Int)) (PO.lenS Tryd.underlying28 rfl h1.len) rfl ?_
 refine Pu (.bool (decide ((a0.length : Int) ≠ (a1.length : Int)))) (PO.neq rfl rfl) rfl ?_
 refine Nt ?_
 refine WC.cond (b := decide ((a0.length : Int) ≠ (a1.length : Int))) rfl (fun hb21 => ?_) (fun hb21 => ?_)
 have h := ite_t hb21 h
 refine Sr ?_
 refine Pa (.bool false) rfl rfl ?_
 refine Nt ?_
 refine WC.ret ?_
 refine WQ.thenR ?_
 exact WQ.returnsF h [] rfl (results1 rfl rfl) (IM.le.refl _) ⟨rfl, rfl⟩
 have h := ite_f hb21 h
 refine WC.skip ?_
 refine WQ.thenC ?_
 obtain ⟨j22, hj22, h⟩ := bnd h
 refine WC.joinE (fun (_ : Unit) ρ' M' H' => M.le M' ∧ F = H') j22 ?_ ?_
 have h322 := h
 have h := hj22
 refine Sr ?_
 refine Pa (.int .i64 0) rfl rfl ?_
 refine Nt ?_
 refine WC.block ?_
 obtain ⟨e23, he23, hK23⟩ := bnd h
 clear h
 refine WC.loop he23 (fun (x24 : Int) ρ' M' H' => M.le M' ∧ F = H' ∧ ρ' 0 = v0 ∧ ρ' 1 = v1 ∧ ρ' 5 = (.int .i64 x24)) ?_ ?_
 exact ⟨(IM.le.refl _), rfl, (hρ 0), (hρ 1), rfl⟩
 rintro x24 o23 ρ23 M23 H23 h ⟨hle23, rfl, hs23_0, hs23_1, hs23_5⟩
 unfold f_ref02_Same_l0 at h
 have h0 := h0.mono hle23
 have h1 := h1.mono hle23
 refine WC.seq ?_
 refine Sr ?_
 refine Pm (.int .i64 x24) hs23_5 rfl ?_
 refine Pm v0 hs23_0 rfl ?_
 refine Pu (.int .i64 (a0.length : Int)) (PO.lenS Tryd.underlying28 rfl h0.len) rfl ?_
 refine Pu (.bool (decide (x24 < (a0.length : Int)))) (PO.lss rfl rfl) rfl ?_
 refine Nt ?_
 refine WC.cond (b := decide (x24 < (a0.length : Int))) rfl (fun hb25 => ?_) (fun hb25 => ?_)
 have h := ite_t hb25 h
 refine WC.skip ?_
 refine WQ.thenC ?_
 refine WC.seq ?_
 refine WC.block ?_
 refine WC.seq ?_
 refine WC.draw [0, 0, 3, 7, 0, 0, 48, 112, 255] (.pure 0 (.pure 1 (.pure 2 (.pure 3 (.pure 4 (.pure 5 (.pure 6 (.pure 7 (.pure 8 .done))))))))) mixed (by kernel_rfl) ?_
 refine Tp v0 rfl (PO.move hs23_0) rfl ?_
 refine Tp (.int .i64 x24) rfl (PO.move hs23_5) rfl ?_
 obtain ⟨hg26, h⟩ := grd_i h
 obtain ⟨p27, cs28, hat29, hrc30, hhas31⟩ := h0.at hg26.1 hg26.2 (by decide)
 obtain rfl := hrc30
 refine Tp (.pointer (some p27)) rfl (PO.indexAddr (n := a0.length) Tryd.underlying28 sz5 rfl rfl hg26.1 hg26.2 hat29) rfl ?_
 refine Tp (.int .u8 (rd a0 x24)) rfl (PO.loadM pl5 rfl (IM.has0 hhas31)) rfl ?_
 refine Tp v1 rfl (PO.move hs23_1) rfl ?_
 refine Tp (.int .i64 x24) rfl (PO.move hs23_5) rfl ?_
 obtain ⟨hg33, h⟩ := grd_i h
 obtain ⟨p34, cs35, hat36, hrc37, hhas38⟩ := h1.at hg33.1 hg33.2 (by decide)
 obtain rfl := hrc37
 refine Tp (.pointer (some p34)) rfl (PO.indexAddr (n := a1.length) Tryd.underlying28 sz5 rfl rfl hg33.1 hg33.2 hat36) rfl ?_
 refine Tp (.int .u8 (rd a1 x24)) rfl (PO.loadM pl5 rfl (IM.has0 hhas38)) rfl ?_
 refine Tp (.bool (decide ((rd a0 x24) ≠ (rd a1 x24)))) rfl (PO.neq rfl rfl) rfl ?_
 refine WT.fin ?_
 refine WQ.thenC ?_
 refine WC.cond (b := decide ((rd a0 x24) ≠ (rd a1 x24))) rfl (fun hb40 => ?_) (fun hb40 => ?_)
 have h := ite_t hb40 h
 refine Sr ?_
 refine Pa (.bool false) rfl rfl ?_
 refine Nt ?_
 refine WC.ret ?_
 refine WQ.blockR ?_
 refine WQ.thenR ?_
 refine WQ.leaveR (Sum.inr ()) (Option.some.inj h).symm (fun heq23 => ?_)
 subst heq23
 have h := (elimR hK23)
 refine WQ.blockR ?_
 refine WQ.thenR ?_
 have h := KK.early h h322
 exact WQ.returnsF h [] rfl (results1 rfl rfl) hle23 ⟨rfl, rfl⟩
 have h := ite_f hb40 h
 refine WC.skip ?_
 refine WQ.blockN ?_
 refine WQ.thenC ?_
 refine WC.region ?_
 refine Pm (.int .i64 x24) hs23_5 rfl ?_
 refine Pu (.int .i64 (IntKind.i64.wrap (x24 + 1))) (PO.add rfl rfl) rfl ?_
 refine Pa (.int .i64 (IntKind.i64.wrap (x24 + 1))) rfl rfl ?_
 refine WL.nil ?_
 refine WQ.again (IntKind.i64.wrap (x24 + 1)) (Option.some.inj h).symm ?_
 exact ⟨hle23, rfl, hs23_0, hs23_1, rfl⟩
 have h := ite_f hb25 h
 refine WC.exit ?_
 refine WQ.thenE ?_
 refine WQ.leaveE (Sum.inl ()) (Option.some.inj h).symm (fun heq23 => ?_)
 subst heq23
 have h := elimL hK23
 refine WQ.blockH ?_
 refine WQ.thenFE h ?_
 exact ⟨hle23, rfl⟩
 rintro _ ρ22 M22 H22 rfl ⟨hle22, rfl⟩
 have h := (Sum.elim_inl _ _ _).symm.trans h
 refine Sr ?_
 refine Pa (.bool true) rfl rfl ?_
 refine Nt ?_
 refine WC.ret ?_
 exact WQ.returnsF h [] rfl (results1 rfl rfl) hle22 ⟨rfl, rfl⟩


end Go.Proofs.YtafkdjljkolehaaDoor.G
