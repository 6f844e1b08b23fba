/- Go functions: what they come to, and that they do. Printed by a program of the session (gen). -/
import Derived.Test.YtjgnbbakamellaaAF
import Derived.Test.YtjgnbbakamellaaA9
import Derived.Test.YtjgnbbakamellaaKConv
import Derived.Test.YtjgnbbakamellaaKEq2
set_option linter.unusedVariables false
set_option linter.unusedSimpArgs false
namespace Go.Proofs.Ytjgnbbakamellaa.G
open Go Go.KK

noncomputable def f_ref22_Same (a0 : T_api_Request) (a1 : T_api_Request) : Option Bool :=
  (((if (decide (a0.Client ≠ a1.Client)) = true then (some true) else (if (decide (a0.Serial ≠ a1.Serial)) = true then (some true) else (if (decide (a0.Kind ≠ a1.Kind)) = true then (some true) else (if (!decide (a0.Name = a1.Name)) = true then (some true) else (if (!decide (a0.Key = a1.Key)) = true then (some true) else (some (!decide (a0.Value = a1.Value)))))))) : Option Bool).bind fun (x23 : Bool) => (if x23 = true then (some false) else (((if (!(a0.Flag == a1.Flag)) = true then (some true) else (if (decide (a0.Parts ≠ a1.Parts)) = true then (some true) else (if (decide (a0.Replicas ≠ a1.Replicas)) = true then (some true) else (if (decide (a0.Part ≠ a1.Part)) = true then (some true) else (if (decide (a0.Broker ≠ a1.Broker)) = true then (some true) else (some (decide (a0.Epoch ≠ a1.Epoch)))))))) : Option Bool).bind fun (x31 : Bool) => (if x31 = true then (some false) else (((if (decide (a0.Rack = a1.Rack)) = true then (if (andL [decide (a0.Word.Broker = a1.Word.Broker), decide (a0.Word.Epoch = a1.Word.Epoch), decide (a0.Word.High = a1.Word.High), a0.Word.Fence == a1.Word.Fence, a0.Word.Leave == a1.Word.Leave]) = true then ((f_ref02_Ints a0.Ids a1.Ids).bind fun (r43 : Bool) => (some r43)) else (some false)) else (some false)) : Option Bool).bind fun (x39 : Bool) => (some x39))))))
def f_ref22_Same_post (a0 : T_api_Request) (a1 : T_api_Request) (v0_10 v1_10 : Value) : Bool → Value → IM → HL → Prop :=
  fun (r0 : Bool) (v : Value) (M' : IM) (H' : HL) => (.bool r0) = v ∧ H' = []
set_option maxHeartbeats 8000000 in
set_option maxRecDepth 100000 in
theorem f_ref22_Same_ok (a0 : T_api_Request) (a1 : T_api_Request) (M : IM) (v0_10 v1_10 : Value) (h0_10 : RS (Kd.int .i64) M v0_10 a0.Ids) (h1_10 : RS (Kd.int .i64) M v1_10 a1.Ids) (res : Bool) (h : f_ref22_Same a0 a1 = some res) :
    Tri Try.prog 8 #[(a26_ a0 v0_10), (a26_ a1 v1_10)] M [] (f_ref22_Same_post a0 a1 v0_10 v1_10 res) := by
 unfold f_ref22_Same at h
 refine Tri.enter (fn := Try.f8) Try.func8 rfl (Nat.le_of_ble_eq_true rfl) ?_
 intro F ρ hρ
 refine Sr ?_
 refine WL.eff (EO.box (cs := (l26 a0 v0_10).toArray) (congrArg Value.cells (asE (a26_ a0 v0_10) (hρ 0)))) rfl ?_
 rintro _ _ _ - ⟨rfl, g21, rfl, rfl⟩
 refine WL.eff (EO.box (cs := (l26 a1 v1_10).toArray) (congrArg Value.cells (asE (a26_ a1 v1_10) (hρ 1)))) rfl ?_
 rintro _ _ _ - ⟨rfl, g22, rfl, rfl⟩
 refine Pa (.bool false) rfl rfl ?_
 refine Nt ?_
 refine WC.seq ?_
 obtain ⟨x23, hj24, h⟩ := bnd h
 refine WC.joinF (fun (x23 : Bool) ρ' M' H' => M.le M' ∧ [(g22, .cells (l26 a1 v1_10).toArray 26 (0, 0))] :: [(g21, .cells (l26 a0 v0_10).toArray 26 (0, 0))] :: F = H' ∧ ρ' 2 = (.pointer (some ⟨g21, 0, none⟩)) ∧ ρ' 3 = (.pointer (some ⟨g22, 0, none⟩)) ∧ ρ' 44 = (.bool x23)) x23 ?_ ?_
 have h324 := h
 have h := hj24
 refine WC.region ?_
 refine Pu (.pointer (some ⟨g21, 0, none⟩)) (PO.fieldAddr fo26_0 rfl rfl) rfl ?_
 refine Pu (.int .i64 a0.Client) (PO.loadB 1 pl3 rfl rfl rfl) rfl ?_
 refine Pu (.pointer (some ⟨g22, 0, none⟩)) (PO.fieldAddr fo26_0 rfl rfl) rfl ?_
 refine Pu (.int .i64 a1.Client) (PO.loadB 0 pl3 rfl rfl rfl) rfl ?_
 refine Pu (.bool (decide (a0.Client ≠ a1.Client))) (PO.neq rfl rfl) rfl ?_
 refine Pm (.bool (decide (a0.Client ≠ a1.Client))) rfl rfl ?_
 rcases Bool.eq_false_or_eq_true (decide (a0.Client ≠ a1.Client)) with hb25 | hb25
 have h := ite_t hb25 h
 iterate 5 refine Of 10 rfl rfl hb25 rfl ?_
 refine Pu (.bool true) (PO.pickT rfl hb25 rfl) rfl ?_
 refine Pm (.bool true) rfl rfl ?_
 iterate 5 refine Of 17 rfl rfl rfl rfl ?_
 refine Pu (.bool true) (PO.pickT rfl rfl rfl) rfl ?_
 refine Pm (.bool true) rfl rfl ?_
 iterate 5 refine Of 24 rfl rfl rfl rfl ?_
 refine Pu (.bool true) (PO.pickT rfl rfl rfl) rfl ?_
 refine Pm (.bool true) rfl rfl ?_
 iterate 5 refine Of 31 rfl rfl rfl rfl ?_
 refine Pu (.bool true) (PO.pickT rfl rfl rfl) rfl ?_
 refine Pm (.bool true) rfl rfl ?_
 iterate 5 refine Of 38 rfl rfl rfl rfl ?_
 refine Pu (.bool true) (PO.pickT rfl rfl rfl) rfl ?_
 refine WL.nil ?_
 obtain rfl := Option.some.inj h
 refine WQ.thenJ ?_
 exact ⟨(IM.le.refl _), rfl, rfl, rfl, rfl⟩
 have h := ite_f hb25 h
 refine On 10 rfl rfl hb25 ?_
 refine Pu (.pointer (some ⟨g21, 1, none⟩)) (PO.fieldAddr fo26_1 rfl rfl) rfl ?_
 refine On 10 rfl rfl hb25 ?_
 refine Pu (.int .i64 a0.Serial) (PO.loadB 1 pl3 rfl rfl rfl) rfl ?_
 refine On 10 rfl rfl hb25 ?_
 refine Pu (.pointer (some ⟨g22, 1, none⟩)) (PO.fieldAddr fo26_1 rfl rfl) rfl ?_
 refine On 10 rfl rfl hb25 ?_
 refine Pu (.int .i64 a1.Serial) (PO.loadB 0 pl3 rfl rfl rfl) rfl ?_
 refine On 10 rfl rfl hb25 ?_
 refine Pu (.bool (decide (a0.Serial ≠ a1.Serial))) (PO.neq rfl rfl) rfl ?_
 refine Pu (.bool (decide (a0.Serial ≠ a1.Serial))) (PO.pickF rfl hb25 rfl) rfl ?_
 refine Pm (.bool (decide (a0.Serial ≠ a1.Serial))) rfl rfl ?_
 rcases Bool.eq_false_or_eq_true (decide (a0.Serial ≠ a1.Serial)) with hb26 | hb26
 have h := ite_t hb26 h
 iterate 5 refine Of 17 rfl rfl hb26 rfl ?_
 refine Pu (.bool true) (PO.pickT rfl hb26 rfl) rfl ?_
 refine Pm (.bool true) rfl rfl ?_
 iterate 5 refine Of 24 rfl rfl rfl rfl ?_
 refine Pu (.bool true) (PO.pickT rfl rfl rfl) rfl ?_
 refine Pm (.bool true) rfl rfl ?_
 iterate 5 refine Of 31 rfl rfl rfl rfl ?_
 refine Pu (.bool true) (PO.pickT rfl rfl rfl) rfl ?_
 refine Pm (.bool true) rfl rfl ?_
 iterate 5 refine Of 38 rfl rfl rfl rfl ?_
 refine Pu (.bool true) (PO.pickT rfl rfl rfl) rfl ?_
 refine WL.nil ?_
 obtain rfl := Option.some.inj h
 refine WQ.thenJ ?_
 exact ⟨(IM.le.refl _), rfl, rfl, rfl, rfl⟩
 have h := ite_f hb26 h
 refine On 17 rfl rfl hb26 ?_
 refine Pu (.pointer (some ⟨g21, 2, none⟩)) (PO.fieldAddr fo26_2 rfl rfl) rfl ?_
 refine On 17 rfl rfl hb26 ?_
 refine Pu (.int .i64 a0.Kind) (PO.loadB 1 pl3 rfl rfl rfl) rfl ?_
 refine On 17 rfl rfl hb26 ?_
 refine Pu (.pointer (some ⟨g22, 2, none⟩)) (PO.fieldAddr fo26_2 rfl rfl) rfl ?_
 refine On 17 rfl rfl hb26 ?_
 refine Pu (.int .i64 a1.Kind) (PO.loadB 0 pl3 rfl rfl rfl) rfl ?_
 refine On 17 rfl rfl hb26 ?_
 refine Pu (.bool (decide (a0.Kind ≠ a1.Kind))) (PO.neq rfl rfl) rfl ?_
 refine Pu (.bool (decide (a0.Kind ≠ a1.Kind))) (PO.pickF rfl hb26 rfl) rfl ?_
 refine Pm (.bool (decide (a0.Kind ≠ a1.Kind))) rfl rfl ?_
 rcases Bool.eq_false_or_eq_true (decide (a0.Kind ≠ a1.Kind)) with hb27 | hb27
 have h := ite_t hb27 h
 iterate 5 refine Of 24 rfl rfl hb27 rfl ?_
 refine Pu (.bool true) (PO.pickT rfl hb27 rfl) rfl ?_
 refine Pm (.bool true) rfl rfl ?_
 iterate 5 refine Of 31 rfl rfl rfl rfl ?_
 refine Pu (.bool true) (PO.pickT rfl rfl rfl) rfl ?_
 refine Pm (.bool true) rfl rfl ?_
 iterate 5 refine Of 38 rfl rfl rfl rfl ?_
 refine Pu (.bool true) (PO.pickT rfl rfl rfl) rfl ?_
 refine WL.nil ?_
 obtain rfl := Option.some.inj h
 refine WQ.thenJ ?_
 exact ⟨(IM.le.refl _), rfl, rfl, rfl, rfl⟩
 have h := ite_f hb27 h
 refine On 24 rfl rfl hb27 ?_
 refine Pu (.pointer (some ⟨g21, 3, none⟩)) (PO.fieldAddr fo26_3 rfl rfl) rfl ?_
 refine On 24 rfl rfl hb27 ?_
 refine Pu (.string a0.Name) (PO.loadB 1 pl9 rfl rfl rfl) rfl ?_
 refine On 24 rfl rfl hb27 ?_
 refine Pu (.pointer (some ⟨g22, 3, none⟩)) (PO.fieldAddr fo26_3 rfl rfl) rfl ?_
 refine On 24 rfl rfl hb27 ?_
 refine Pu (.string a1.Name) (PO.loadB 0 pl9 rfl rfl rfl) rfl ?_
 refine On 24 rfl rfl hb27 ?_
 refine Pu (.bool (!decide (a0.Name = a1.Name))) (PO.sneq rfl rfl) rfl ?_
 refine Pu (.bool (!decide (a0.Name = a1.Name))) (PO.pickF rfl hb27 rfl) rfl ?_
 refine Pm (.bool (!decide (a0.Name = a1.Name))) rfl rfl ?_
 rcases Bool.eq_false_or_eq_true (!decide (a0.Name = a1.Name)) with hb28 | hb28
 have h := ite_t hb28 h
 iterate 5 refine Of 31 rfl rfl hb28 rfl ?_
 refine Pu (.bool true) (PO.pickT rfl hb28 rfl) rfl ?_
 refine Pm (.bool true) rfl rfl ?_
 iterate 5 refine Of 38 rfl rfl rfl rfl ?_
 refine Pu (.bool true) (PO.pickT rfl rfl rfl) rfl ?_
 refine WL.nil ?_
 obtain rfl := Option.some.inj h
 refine WQ.thenJ ?_
 exact ⟨(IM.le.refl _), rfl, rfl, rfl, rfl⟩
 have h := ite_f hb28 h
 refine On 31 rfl rfl hb28 ?_
 refine Pu (.pointer (some ⟨g21, 4, none⟩)) (PO.fieldAddr fo26_4 rfl rfl) rfl ?_
 refine On 31 rfl rfl hb28 ?_
 refine Pu (.string a0.Key) (PO.loadB 1 pl9 rfl rfl rfl) rfl ?_
 refine On 31 rfl rfl hb28 ?_
 refine Pu (.pointer (some ⟨g22, 4, none⟩)) (PO.fieldAddr fo26_4 rfl rfl) rfl ?_
 refine On 31 rfl rfl hb28 ?_
 refine Pu (.string a1.Key) (PO.loadB 0 pl9 rfl rfl rfl) rfl ?_
 refine On 31 rfl rfl hb28 ?_
 refine Pu (.bool (!decide (a0.Key = a1.Key))) (PO.sneq rfl rfl) rfl ?_
 refine Pu (.bool (!decide (a0.Key = a1.Key))) (PO.pickF rfl hb28 rfl) rfl ?_
 refine Pm (.bool (!decide (a0.Key = a1.Key))) rfl rfl ?_
 rcases Bool.eq_false_or_eq_true (!decide (a0.Key = a1.Key)) with hb29 | hb29
 have h := ite_t hb29 h
 iterate 5 refine Of 38 rfl rfl hb29 rfl ?_
 refine Pu (.bool true) (PO.pickT rfl hb29 rfl) rfl ?_
 refine WL.nil ?_
 obtain rfl := Option.some.inj h
 refine WQ.thenJ ?_
 exact ⟨(IM.le.refl _), rfl, rfl, rfl, rfl⟩
 have h := ite_f hb29 h
 refine On 38 rfl rfl hb29 ?_
 refine Pu (.pointer (some ⟨g21, 5, none⟩)) (PO.fieldAddr fo26_5 rfl rfl) rfl ?_
 refine On 38 rfl rfl hb29 ?_
 refine Pu (.string a0.Value) (PO.loadB 1 pl9 rfl rfl rfl) rfl ?_
 refine On 38 rfl rfl hb29 ?_
 refine Pu (.pointer (some ⟨g22, 5, none⟩)) (PO.fieldAddr fo26_5 rfl rfl) rfl ?_
 refine On 38 rfl rfl hb29 ?_
 refine Pu (.string a1.Value) (PO.loadB 0 pl9 rfl rfl rfl) rfl ?_
 refine On 38 rfl rfl hb29 ?_
 refine Pu (.bool (!decide (a0.Value = a1.Value))) (PO.sneq rfl rfl) rfl ?_
 refine Pu (.bool (!decide (a0.Value = a1.Value))) (PO.pickF rfl hb29 rfl) rfl ?_
 refine WL.nil ?_
 obtain rfl := Option.some.inj h
 refine WQ.thenJ ?_
 exact ⟨(IM.le.refl _), rfl, rfl, rfl, rfl⟩
 rintro ρ24 M24 H24 ⟨hle24, rfl, hs24_2, hs24_3, hs24_44⟩
 have h1_10 := h1_10.mono hle24
 have h0_10 := h0_10.mono hle24
 refine WC.cond (b := x23) hs24_44 (fun hb30 => ?_) (fun hb30 => ?_)
 have h := ite_t hb30 h
 refine Sr ?_
 refine Pa (.bool false) rfl rfl ?_
 refine Nt ?_
 refine WC.ret ?_
 refine WQ.thenR ?_
 refine WQ.drop ?_
 refine WQ.drop ?_
 exact WQ.returnsF h [] rfl (results1 rfl rfl) hle24 ⟨rfl, rfl⟩
 have h := ite_f hb30 h
 refine WC.skip ?_
 refine WQ.thenC ?_
 refine WC.seq ?_
 obtain ⟨x31, hj32, h⟩ := bnd h
 refine WC.joinF (fun (x31 : Bool) ρ' M' H' => M24.le M' ∧ [(g22, .cells (l26 a1 v1_10).toArray 26 (0, 0))] :: [(g21, .cells (l26 a0 v0_10).toArray 26 (0, 0))] :: F = H' ∧ ρ' 2 = (.pointer (some ⟨g21, 0, none⟩)) ∧ ρ' 3 = (.pointer (some ⟨g22, 0, none⟩)) ∧ ρ' 84 = (.bool x31)) x31 ?_ ?_
 have h332 := h
 have h := hj32
 refine WC.region ?_
 refine Pu (.pointer (some ⟨g21, 6, none⟩)) (PO.fieldAddr fo26_6 hs24_2 rfl) rfl ?_
 refine Pu (.bool a0.Flag) (PO.loadB 1 pl4 rfl rfl rfl) rfl ?_
 refine Pu (.pointer (some ⟨g22, 6, none⟩)) (PO.fieldAddr fo26_6 hs24_3 rfl) rfl ?_
 refine Pu (.bool a1.Flag) (PO.loadB 0 pl4 rfl rfl rfl) rfl ?_
 refine Pu (.bool (!(a0.Flag == a1.Flag))) (PO.bneq Try.underlying4 rfl rfl) rfl ?_
 refine Pm (.bool (!(a0.Flag == a1.Flag))) rfl rfl ?_
 rcases Bool.eq_false_or_eq_true (!(a0.Flag == a1.Flag)) with hb33 | hb33
 have h := ite_t hb33 h
 iterate 5 refine Of 50 rfl rfl hb33 rfl ?_
 refine Pu (.bool true) (PO.pickT rfl hb33 rfl) rfl ?_
 refine Pm (.bool true) rfl rfl ?_
 iterate 5 refine Of 57 rfl rfl rfl rfl ?_
 refine Pu (.bool true) (PO.pickT rfl rfl rfl) rfl ?_
 refine Pm (.bool true) rfl rfl ?_
 iterate 5 refine Of 64 rfl rfl rfl rfl ?_
 refine Pu (.bool true) (PO.pickT rfl rfl rfl) rfl ?_
 refine Pm (.bool true) rfl rfl ?_
 iterate 5 refine Of 71 rfl rfl rfl rfl ?_
 refine Pu (.bool true) (PO.pickT rfl rfl rfl) rfl ?_
 refine Pm (.bool true) rfl rfl ?_
 iterate 5 refine Of 78 rfl rfl rfl rfl ?_
 refine Pu (.bool true) (PO.pickT rfl rfl rfl) rfl ?_
 refine WL.nil ?_
 obtain rfl := Option.some.inj h
 refine WQ.thenJ ?_
 exact ⟨(IM.le.refl _), rfl, hs24_2, hs24_3, rfl⟩
 have h := ite_f hb33 h
 refine On 50 rfl rfl hb33 ?_
 refine Pu (.pointer (some ⟨g21, 7, none⟩)) (PO.fieldAddr fo26_7 hs24_2 rfl) rfl ?_
 refine On 50 rfl rfl hb33 ?_
 refine Pu (.int .i64 a0.Parts) (PO.loadB 1 pl3 rfl rfl rfl) rfl ?_
 refine On 50 rfl rfl hb33 ?_
 refine Pu (.pointer (some ⟨g22, 7, none⟩)) (PO.fieldAddr fo26_7 hs24_3 rfl) rfl ?_
 refine On 50 rfl rfl hb33 ?_
 refine Pu (.int .i64 a1.Parts) (PO.loadB 0 pl3 rfl rfl rfl) rfl ?_
 refine On 50 rfl rfl hb33 ?_
 refine Pu (.bool (decide (a0.Parts ≠ a1.Parts))) (PO.neq rfl rfl) rfl ?_
 refine Pu (.bool (decide (a0.Parts ≠ a1.Parts))) (PO.pickF rfl hb33 rfl) rfl ?_
 refine Pm (.bool (decide (a0.Parts ≠ a1.Parts))) rfl rfl ?_
 rcases Bool.eq_false_or_eq_true (decide (a0.Parts ≠ a1.Parts)) with hb34 | hb34
 have h := ite_t hb34 h
 iterate 5 refine Of 57 rfl rfl hb34 rfl ?_
 refine Pu (.bool true) (PO.pickT rfl hb34 rfl) rfl ?_
 refine Pm (.bool true) rfl rfl ?_
 iterate 5 refine Of 64 rfl rfl rfl rfl ?_
 refine Pu (.bool true) (PO.pickT rfl rfl rfl) rfl ?_
 refine Pm (.bool true) rfl rfl ?_
 iterate 5 refine Of 71 rfl rfl rfl rfl ?_
 refine Pu (.bool true) (PO.pickT rfl rfl rfl) rfl ?_
 refine Pm (.bool true) rfl rfl ?_
 iterate 5 refine Of 78 rfl rfl rfl rfl ?_
 refine Pu (.bool true) (PO.pickT rfl rfl rfl) rfl ?_
 refine WL.nil ?_
 obtain rfl := Option.some.inj h
 refine WQ.thenJ ?_
 exact ⟨(IM.le.refl _), rfl, hs24_2, hs24_3, rfl⟩
 have h := ite_f hb34 h
 refine On 57 rfl rfl hb34 ?_
 refine Pu (.pointer (some ⟨g21, 8, none⟩)) (PO.fieldAddr fo26_8 hs24_2 rfl) rfl ?_
 refine On 57 rfl rfl hb34 ?_
 refine Pu (.int .i64 a0.Replicas) (PO.loadB 1 pl3 rfl rfl rfl) rfl ?_
 refine On 57 rfl rfl hb34 ?_
 refine Pu (.pointer (some ⟨g22, 8, none⟩)) (PO.fieldAddr fo26_8 hs24_3 rfl) rfl ?_
 refine On 57 rfl rfl hb34 ?_
 refine Pu (.int .i64 a1.Replicas) (PO.loadB 0 pl3 rfl rfl rfl) rfl ?_
 refine On 57 rfl rfl hb34 ?_
 refine Pu (.bool (decide (a0.Replicas ≠ a1.Replicas))) (PO.neq rfl rfl) rfl ?_
 refine Pu (.bool (decide (a0.Replicas ≠ a1.Replicas))) (PO.pickF rfl hb34 rfl) rfl ?_
 refine Pm (.bool (decide (a0.Replicas ≠ a1.Replicas))) rfl rfl ?_
 rcases Bool.eq_false_or_eq_true (decide (a0.Replicas ≠ a1.Replicas)) with hb35 | hb35
 have h := ite_t hb35 h
 iterate 5 refine Of 64 rfl rfl hb35 rfl ?_
 refine Pu (.bool true) (PO.pickT rfl hb35 rfl) rfl ?_
 refine Pm (.bool true) rfl rfl ?_
 iterate 5 refine Of 71 rfl rfl rfl rfl ?_
 refine Pu (.bool true) (PO.pickT rfl rfl rfl) rfl ?_
 refine Pm (.bool true) rfl rfl ?_
 iterate 5 refine Of 78 rfl rfl rfl rfl ?_
 refine Pu (.bool true) (PO.pickT rfl rfl rfl) rfl ?_
 refine WL.nil ?_
 obtain rfl := Option.some.inj h
 refine WQ.thenJ ?_
 exact ⟨(IM.le.refl _), rfl, hs24_2, hs24_3, rfl⟩
 have h := ite_f hb35 h
 refine On 64 rfl rfl hb35 ?_
 refine Pu (.pointer (some ⟨g21, 9, none⟩)) (PO.fieldAddr fo26_9 hs24_2 rfl) rfl ?_
 refine On 64 rfl rfl hb35 ?_
 refine Pu (.int .i64 a0.Part) (PO.loadB 1 pl3 rfl rfl rfl) rfl ?_
 refine On 64 rfl rfl hb35 ?_
 refine Pu (.pointer (some ⟨g22, 9, none⟩)) (PO.fieldAddr fo26_9 hs24_3 rfl) rfl ?_
 refine On 64 rfl rfl hb35 ?_
 refine Pu (.int .i64 a1.Part) (PO.loadB 0 pl3 rfl rfl rfl) rfl ?_
 refine On 64 rfl rfl hb35 ?_
 refine Pu (.bool (decide (a0.Part ≠ a1.Part))) (PO.neq rfl rfl) rfl ?_
 refine Pu (.bool (decide (a0.Part ≠ a1.Part))) (PO.pickF rfl hb35 rfl) rfl ?_
 refine Pm (.bool (decide (a0.Part ≠ a1.Part))) rfl rfl ?_
 rcases Bool.eq_false_or_eq_true (decide (a0.Part ≠ a1.Part)) with hb36 | hb36
 have h := ite_t hb36 h
 iterate 5 refine Of 71 rfl rfl hb36 rfl ?_
 refine Pu (.bool true) (PO.pickT rfl hb36 rfl) rfl ?_
 refine Pm (.bool true) rfl rfl ?_
 iterate 5 refine Of 78 rfl rfl rfl rfl ?_
 refine Pu (.bool true) (PO.pickT rfl rfl rfl) rfl ?_
 refine WL.nil ?_
 obtain rfl := Option.some.inj h
 refine WQ.thenJ ?_
 exact ⟨(IM.le.refl _), rfl, hs24_2, hs24_3, rfl⟩
 have h := ite_f hb36 h
 refine On 71 rfl rfl hb36 ?_
 refine Pu (.pointer (some ⟨g21, 11, none⟩)) (PO.fieldAddr fo26_11 hs24_2 rfl) rfl ?_
 refine On 71 rfl rfl hb36 ?_
 refine Pu (.int .i64 a0.Broker) (PO.loadB 1 pl3 rfl rfl rfl) rfl ?_
 refine On 71 rfl rfl hb36 ?_
 refine Pu (.pointer (some ⟨g22, 11, none⟩)) (PO.fieldAddr fo26_11 hs24_3 rfl) rfl ?_
 refine On 71 rfl rfl hb36 ?_
 refine Pu (.int .i64 a1.Broker) (PO.loadB 0 pl3 rfl rfl rfl) rfl ?_
 refine On 71 rfl rfl hb36 ?_
 refine Pu (.bool (decide (a0.Broker ≠ a1.Broker))) (PO.neq rfl rfl) rfl ?_
 refine Pu (.bool (decide (a0.Broker ≠ a1.Broker))) (PO.pickF rfl hb36 rfl) rfl ?_
 refine Pm (.bool (decide (a0.Broker ≠ a1.Broker))) rfl rfl ?_
 rcases Bool.eq_false_or_eq_true (decide (a0.Broker ≠ a1.Broker)) with hb37 | hb37
 have h := ite_t hb37 h
 iterate 5 refine Of 78 rfl rfl hb37 rfl ?_
 refine Pu (.bool true) (PO.pickT rfl hb37 rfl) rfl ?_
 refine WL.nil ?_
 obtain rfl := Option.some.inj h
 refine WQ.thenJ ?_
 exact ⟨(IM.le.refl _), rfl, hs24_2, hs24_3, rfl⟩
 have h := ite_f hb37 h
 refine On 78 rfl rfl hb37 ?_
 refine Pu (.pointer (some ⟨g21, 12, none⟩)) (PO.fieldAddr fo26_12 hs24_2 rfl) rfl ?_
 refine On 78 rfl rfl hb37 ?_
 refine Pu (.int .i64 a0.Epoch) (PO.loadB 1 pl3 rfl rfl rfl) rfl ?_
 refine On 78 rfl rfl hb37 ?_
 refine Pu (.pointer (some ⟨g22, 12, none⟩)) (PO.fieldAddr fo26_12 hs24_3 rfl) rfl ?_
 refine On 78 rfl rfl hb37 ?_
 refine Pu (.int .i64 a1.Epoch) (PO.loadB 0 pl3 rfl rfl rfl) rfl ?_
 refine On 78 rfl rfl hb37 ?_
 refine Pu (.bool (decide (a0.Epoch ≠ a1.Epoch))) (PO.neq rfl rfl) rfl ?_
 refine Pu (.bool (decide (a0.Epoch ≠ a1.Epoch))) (PO.pickF rfl hb37 rfl) rfl ?_
 refine WL.nil ?_
 obtain rfl := Option.some.inj h
 refine WQ.thenJ ?_
 exact ⟨(IM.le.refl _), rfl, hs24_2, hs24_3, rfl⟩
 rintro ρ32 M32 H32 ⟨hle32, rfl, hs32_2, hs32_3, hs32_84⟩
 have h1_10 := h1_10.mono hle32
 have h0_10 := h0_10.mono hle32
 refine WC.cond (b := x31) hs32_84 (fun hb38 => ?_) (fun hb38 => ?_)
 have h := ite_t hb38 h
 refine Sr ?_
 refine Pa (.bool false) rfl rfl ?_
 refine Nt ?_
 refine WC.ret ?_
 refine WQ.thenR ?_
 refine WQ.drop ?_
 refine WQ.drop ?_
 exact WQ.returnsF h [] rfl (results1 rfl rfl) (hle24.trans hle32) ⟨rfl, rfl⟩
 have h := ite_f hb38 h
 refine WC.skip ?_
 refine WQ.thenC ?_
 obtain ⟨x39, hj40, h⟩ := bnd h
 refine WC.joinF (fun (x39 : Bool) ρ' M' H' => M32.le M' ∧ [(g22, .cells (l26 a1 v1_10).toArray 26 (0, 0))] :: [(g21, .cells (l26 a0 v0_10).toArray 26 (0, 0))] :: F = H' ∧ ρ' 4 = (.bool x39)) x39 ?_ ?_
 have h340 := h
 have h := hj40
 refine WC.region ?_
 refine Pu (.pointer (some ⟨g21, 13, none⟩)) (PO.fieldAddr fo26_13 hs32_2 rfl) rfl ?_
 refine Pu (.string a0.Rack) (PO.loadB 1 pl9 rfl rfl rfl) rfl ?_
 refine Pu (.pointer (some ⟨g22, 13, none⟩)) (PO.fieldAddr fo26_13 hs32_3 rfl) rfl ?_
 refine Pu (.string a1.Rack) (PO.loadB 0 pl9 rfl rfl rfl) rfl ?_
 refine Pu (.bool (decide (a0.Rack = a1.Rack))) (PO.seql rfl rfl) rfl ?_
 refine Pm (.bool (decide (a0.Rack = a1.Rack))) rfl rfl ?_
 rcases Bool.eq_false_or_eq_true (decide (a0.Rack = a1.Rack)) with hb41 | hb41
 have h := ite_t hb41 h
 refine On 90 rfl rfl hb41 ?_
 refine Pu (.pointer (some ⟨g21, 14, none⟩)) (PO.fieldAddr fo26_14 hs32_2 rfl) rfl ?_
 refine On 90 rfl rfl hb41 ?_
 refine Pu (a24_ a0.Word) (PO.loadBA (cs := (l24 a0.Word)) 1 ag24 sz24 rfl rfl rfl) rfl ?_
 refine On 90 rfl rfl hb41 ?_
 refine Pu (.pointer (some ⟨g22, 14, none⟩)) (PO.fieldAddr fo26_14 hs32_3 rfl) rfl ?_
 refine On 90 rfl rfl hb41 ?_
 refine Pu (a24_ a1.Word) (PO.loadBA (cs := (l24 a1.Word)) 0 ag24 sz24 rfl rfl rfl) rfl ?_
 refine On 90 rfl rfl hb41 ?_
 refine Pu (.bool (andL [decide (a0.Word.Broker = a1.Word.Broker), decide (a0.Word.Epoch = a1.Word.Epoch), decide (a0.Word.High = a1.Word.High), a0.Word.Fence == a1.Word.Fence, a0.Word.Leave == a1.Word.Leave])) (PO.eqAgg eg24 rfl rfl (run_equal_struct Try.underlying24 eq24 (EqFs.cons (by decide) pl3 rfl rfl (EqC.int Try.underlying3) (EqFs.cons (by decide) pl3 rfl rfl (EqC.int Try.underlying3) (EqFs.cons (by decide) pl3 rfl rfl (EqC.int Try.underlying3) (EqFs.cons (by decide) pl4 rfl rfl (EqC.bool Try.underlying4) (EqFs.cons (by decide) pl4 rfl rfl (EqC.bool Try.underlying4) EqFs.nil))))))) rfl ?_
 refine Pu (.bool (andL [decide (a0.Word.Broker = a1.Word.Broker), decide (a0.Word.Epoch = a1.Word.Epoch), decide (a0.Word.High = a1.Word.High), a0.Word.Fence == a1.Word.Fence, a0.Word.Leave == a1.Word.Leave])) (PO.pickT rfl hb41 rfl) rfl ?_
 refine Pm (.bool (andL [decide (a0.Word.Broker = a1.Word.Broker), decide (a0.Word.Epoch = a1.Word.Epoch), decide (a0.Word.High = a1.Word.High), a0.Word.Fence == a1.Word.Fence, a0.Word.Leave == a1.Word.Leave])) rfl rfl ?_
 rcases Bool.eq_false_or_eq_true (andL [decide (a0.Word.Broker = a1.Word.Broker), decide (a0.Word.Epoch = a1.Word.Epoch), decide (a0.Word.High = a1.Word.High), a0.Word.Fence == a1.Word.Fence, a0.Word.Leave == a1.Word.Leave]) with hb42 | hb42
 have h := ite_t hb42 h
 refine On 97 rfl rfl hb42 ?_
 refine Pu (.pointer (some ⟨g21, 10, none⟩)) (PO.fieldAddr fo26_10 hs32_2 rfl) rfl ?_
 refine On 97 rfl rfl hb42 ?_
 refine Pu v0_10 (PO.loadB 1 pl22 rfl rfl rfl) rfl ?_
 refine On 97 rfl rfl hb42 ?_
 refine Pu (.pointer (some ⟨g22, 10, none⟩)) (PO.fieldAddr fo26_10 hs32_3 rfl) rfl ?_
 refine On 97 rfl rfl hb42 ?_
 refine Pu v1_10 (PO.loadB 0 pl22 rfl rfl rfl) rfl ?_
 refine On 97 rfl rfl hb42 ?_
 obtain ⟨r43, hr44, h⟩ := bnd h
 refine WL.eff (EO.call0 co32 (f_ref02_Ints_ok a0.Ids a1.Ids _ _ _ h0_10 h1_10 r43 hr44) (args2 rfl rfl)) rfl ?_
 rintro _ M45 _ hle46 ⟨_, ⟨rfl, rfl⟩, rfl⟩
 have h0_10 := h0_10.mono hle46
 have h1_10 := h1_10.mono hle46
 refine WL.a0 ?_
 refine Pu (.bool r43) (PO.pickT rfl hb42 rfl) rfl ?_
 refine Pa (.bool r43) rfl rfl ?_
 refine WL.nil ?_
 obtain rfl := Option.some.inj h
 refine WQ.thenJ ?_
 exact ⟨hle46, rfl, rfl⟩
 have h := ite_f hb42 h
 iterate 5 refine Of 97 rfl rfl hb42 rfl ?_
 refine Pu (.bool false) (PO.pickF rfl hb42 rfl) rfl ?_
 refine Pa (.bool false) rfl rfl ?_
 refine WL.nil ?_
 obtain rfl := Option.some.inj h
 refine WQ.thenJ ?_
 exact ⟨(IM.le.refl _), rfl, rfl⟩
 have h := ite_f hb41 h
 iterate 5 refine Of 90 rfl rfl hb41 rfl ?_
 refine Pu (.bool false) (PO.pickF rfl hb41 rfl) rfl ?_
 refine Pm (.bool false) rfl rfl ?_
 iterate 5 refine Of 97 rfl rfl rfl rfl ?_
 refine Pu (.bool false) (PO.pickF rfl rfl rfl) rfl ?_
 refine Pa (.bool false) rfl rfl ?_
 refine WL.nil ?_
 obtain rfl := Option.some.inj h
 refine WQ.thenJ ?_
 exact ⟨(IM.le.refl _), rfl, rfl⟩
 rintro ρ40 M40 H40 ⟨hle40, rfl, hs40_4⟩
 have h1_10 := h1_10.mono hle40
 have h0_10 := h0_10.mono hle40
 refine WC.ret ?_
 refine WQ.drop ?_
 refine WQ.drop ?_
 exact WQ.returnsF h [] rfl (results1 rfl hs40_4) ((hle24.trans hle32).trans hle40) ⟨rfl, rfl⟩

noncomputable def f_ref02_Same_l0 (a0 : (List Int)) (a1 : (List Int)) (s_ : Int) : Option (Int ⊕ (Unit ⊕ Unit)) :=
  match s_ with
  | x24 =>
    (if (decide (x24 < (a0.length : Int))) = true then (grd (0 ≤ x24 ∧ x24 < a0.length) (grd (0 ≤ x24 ∧ x24 < a1.length) (if (decide ((rd a0 x24) ≠ (rd a1 x24))) = true then (some (Sum.inr (Sum.inr ()))) else (some (Sum.inl (IntKind.i64.wrap (x24 + (1 : Int)))))))) else (some (Sum.inr (Sum.inl ()))))
noncomputable def f_ref02_Same (a0 : (List Int)) (a1 : (List Int)) : Option Bool :=
  (if (decide ((a0.length : Int) ≠ (a1.length : Int))) = true then (some false) else ((((iter (f_ref02_Same_l0 a0 a1) (0 : Int)).bind (Sum.elim (fun _ => (some (Sum.inl ()))) (fun _ => (((some false)).bind fun r => some (Sum.inr r))))) : Option (Unit ⊕ Bool)).bind (Sum.elim (fun _ => (some true)) some)))
def f_ref02_Same_post (a0 : (List Int)) (a1 : (List Int)) (v0 v1 : Value) : Bool → Value → IM → HL → Prop :=
  fun (r0 : Bool) (v : Value) (M' : IM) (H' : HL) => (.bool r0) = v ∧ H' = []
set_option maxHeartbeats 8000000 in
set_option maxRecDepth 100000 in
theorem f_ref02_Same_ok (a0 : (List Int)) (a1 : (List Int)) (M : IM) (v0 v1 : Value) (h0 : RS (Kd.int .u8) M v0 a0) (h1 : RS (Kd.int .u8) M v1 a1) (res : Bool) (h : f_ref02_Same a0 a1 = some res) :
    Tri Try.prog 11 #[v0, v1] M [] (f_ref02_Same_post a0 a1 v0 v1 res) := by
 unfold f_ref02_Same at h
 refine Tri.enter (fn := Try.f11) Try.func11 rfl (Nat.le_of_ble_eq_true rfl) ?_
 intro F ρ hρ
 refine Sr ?_
 refine Pa (.bool false) rfl rfl ?_
 refine Nt ?_
 refine WC.seq ?_
 refine Sr ?_
 refine Pm v0 (hρ 0) rfl ?_
 refine Pu (.int .i64 (a0.length : Int)) (PO.lenS Try.underlying31 rfl h0.len) rfl ?_
 refine Pm v1 (hρ 1) rfl ?_
 refine Pu (.int .i64 (a1.length : Int)) (PO.lenS Try.underlying31 rfl h1.len) rfl ?_
 refine Pu (.bool (decide ((a0.length : Int) ≠ (a1.length : Int)))) (PO.neq rfl rfl) rfl ?_
 refine Nt ?_
 refine WC.cond (b := decide ((a0.length : Int) ≠ (a1.length : Int))) rfl (fun hb21 => ?_) (fun hb21 => ?_)
 have h := ite_t hb21 h
 refine Sr ?_
 refine Pa (.bool false) rfl rfl ?_
 refine Nt ?_
 refine WC.ret ?_
 refine WQ.thenR ?_
 exact WQ.returnsF h [] rfl (results1 rfl rfl) (IM.le.refl _) ⟨rfl, rfl⟩
 have h := ite_f hb21 h
 refine WC.skip ?_
 refine WQ.thenC ?_
 obtain ⟨j22, hj22, h⟩ := bnd h
 refine WC.joinE (fun (_ : Unit) ρ' M' H' => M.le M' ∧ F = H') j22 ?_ ?_
 have h322 := h
 have h := hj22
 refine Sr ?_
 refine Pa (.int .i64 0) rfl rfl ?_
 refine Nt ?_
 refine WC.block ?_
 obtain ⟨e23, he23, hK23⟩ := bnd h
 clear h
 refine WC.loop he23 (fun (x24 : Int) ρ' M' H' => M.le M' ∧ F = H' ∧ ρ' 0 = v0 ∧ ρ' 1 = v1 ∧ ρ' 5 = (.int .i64 x24)) ?_ ?_
 exact ⟨(IM.le.refl _), rfl, (hρ 0), (hρ 1), rfl⟩
 rintro x24 o23 ρ23 M23 H23 h ⟨hle23, rfl, hs23_0, hs23_1, hs23_5⟩
 unfold f_ref02_Same_l0 at h
 have h0 := h0.mono hle23
 have h1 := h1.mono hle23
 refine WC.seq ?_
 refine Sr ?_
 refine Pm (.int .i64 x24) hs23_5 rfl ?_
 refine Pm v0 hs23_0 rfl ?_
 refine Pu (.int .i64 (a0.length : Int)) (PO.lenS Try.underlying31 rfl h0.len) rfl ?_
 refine Pu (.bool (decide (x24 < (a0.length : Int)))) (PO.lss rfl rfl) rfl ?_
 refine Nt ?_
 refine WC.cond (b := decide (x24 < (a0.length : Int))) rfl (fun hb25 => ?_) (fun hb25 => ?_)
 have h := ite_t hb25 h
 refine WC.skip ?_
 refine WQ.thenC ?_
 refine WC.seq ?_
 refine WC.block ?_
 refine WC.seq ?_
 refine WC.draw [0, 0, 3, 7, 0, 0, 48, 112, 255] (.pure 0 (.pure 1 (.pure 2 (.pure 3 (.pure 4 (.pure 5 (.pure 6 (.pure 7 (.pure 8 .done))))))))) mixed (by kernel_rfl) ?_
 refine Tp v0 rfl (PO.move hs23_0) rfl ?_
 refine Tp (.int .i64 x24) rfl (PO.move hs23_5) rfl ?_
 obtain ⟨hg26, h⟩ := grd_i h
 obtain ⟨p27, cs28, hat29, hrc30, hhas31⟩ := h0.at hg26.1 hg26.2 (by decide)
 obtain rfl := hrc30
 refine Tp (.pointer (some p27)) rfl (PO.indexAddr (n := a0.length) Try.underlying31 sz5 rfl rfl hg26.1 hg26.2 hat29) rfl ?_
 refine Tp (.int .u8 (rd a0 x24)) rfl (PO.loadM pl5 rfl (IM.has0 hhas31)) rfl ?_
 refine Tp v1 rfl (PO.move hs23_1) rfl ?_
 refine Tp (.int .i64 x24) rfl (PO.move hs23_5) rfl ?_
 obtain ⟨hg33, h⟩ := grd_i h
 obtain ⟨p34, cs35, hat36, hrc37, hhas38⟩ := h1.at hg33.1 hg33.2 (by decide)
 obtain rfl := hrc37
 refine Tp (.pointer (some p34)) rfl (PO.indexAddr (n := a1.length) Try.underlying31 sz5 rfl rfl hg33.1 hg33.2 hat36) rfl ?_
 refine Tp (.int .u8 (rd a1 x24)) rfl (PO.loadM pl5 rfl (IM.has0 hhas38)) rfl ?_
 refine Tp (.bool (decide ((rd a0 x24) ≠ (rd a1 x24)))) rfl (PO.neq rfl rfl) rfl ?_
 refine WT.fin ?_
 refine WQ.thenC ?_
 refine WC.cond (b := decide ((rd a0 x24) ≠ (rd a1 x24))) rfl (fun hb40 => ?_) (fun hb40 => ?_)
 have h := ite_t hb40 h
 refine Sr ?_
 refine Pa (.bool false) rfl rfl ?_
 refine Nt ?_
 refine WC.ret ?_
 refine WQ.blockR ?_
 refine WQ.thenR ?_
 refine WQ.leaveR (Sum.inr ()) (Option.some.inj h).symm (fun heq23 => ?_)
 subst heq23
 have h := (elimR hK23)
 refine WQ.blockR ?_
 refine WQ.thenR ?_
 have h := KK.early h h322
 exact WQ.returnsF h [] rfl (results1 rfl rfl) hle23 ⟨rfl, rfl⟩
 have h := ite_f hb40 h
 refine WC.skip ?_
 refine WQ.blockN ?_
 refine WQ.thenC ?_
 refine WC.region ?_
 refine Pm (.int .i64 x24) hs23_5 rfl ?_
 refine Pu (.int .i64 (IntKind.i64.wrap (x24 + (1 : Int)))) (PO.add rfl rfl) rfl ?_
 refine Pa (.int .i64 (IntKind.i64.wrap (x24 + (1 : Int)))) rfl rfl ?_
 refine WL.nil ?_
 refine WQ.again (IntKind.i64.wrap (x24 + (1 : Int))) (Option.some.inj h).symm ?_
 exact ⟨hle23, rfl, hs23_0, hs23_1, rfl⟩
 have h := ite_f hb25 h
 refine WC.exit ?_
 refine WQ.thenE ?_
 refine WQ.leaveE (Sum.inl ()) (Option.some.inj h).symm (fun heq23 => ?_)
 subst heq23
 have h := elimL hK23
 refine WQ.blockH ?_
 refine WQ.thenFE h ?_
 exact ⟨hle23, rfl⟩
 rintro _ ρ22 M22 H22 rfl ⟨hle22, rfl⟩
 refine Sr ?_
 refine Pa (.bool true) rfl rfl ?_
 refine Nt ?_
 refine WC.ret ?_
 exact WQ.returnsF h [] rfl (results1 rfl rfl) hle22 ⟨rfl, rfl⟩

noncomputable def f_law22_AskBack (a0 : T_api_Request) (a1 : T_api_Reply) (a2 : (List Int)) : Option Bool :=
  ((((f_ref20_Short a0).bind fun (r25 : Bool) => (if (!r25) = true then (some true) else (some (decide ((1000 : Int) < (a2.length : Int)))))) : Option Bool).bind fun (x23 : Bool) => (if x23 = true then ((f_law22_works).bind fun (r32 : Bool) => (some r32)) else ((((f_ask_Put a0).bind fun (r38, r39) => (if r39.isNil = true then ((f_ask_Read r38).bind fun (r47, r48) => (((if (!r48.isNil) = true then (some true) else ((f_ref22_Same r47 a0).bind fun (r61 : Bool) => (some (!r61)))) : Option Bool).bind fun (x58 : Bool) => (if x58 = true then (((some false)).bind fun r => some (Sum.inr r)) else (some (Sum.inl ()))))) else (some (Sum.inl ())))) : Option (Unit ⊕ Bool)).bind (Sum.elim (fun _ => ((((f_ask_PutReply a1).bind fun (r71, r72) => (if r72.isNil = true then ((f_ask_ReadReply r71).bind fun (r80, r81) => (((if (!r81.isNil) = true then (some true) else (some (!(andL [decide (r80.Client = a1.Client), decide (r80.Serial = a1.Serial), decide (r80.Code = a1.Code), decide (r80.Leader = a1.Leader), andL [r80.Told.Fenced == a1.Told.Fenced, r80.Told.Leaving == a1.Told.Leaving, r80.Told.Stop == a1.Told.Stop]])))) : Option Bool).bind fun (x91 : Bool) => (if x91 = true then (((some false)).bind fun r => some (Sum.inr r)) else (some (Sum.inl ()))))) else (some (Sum.inl ())))) : Option (Unit ⊕ Bool)).bind (Sum.elim (fun _ => ((((f_ask_Read (⟨(16 : Int), a2⟩ : T_api_Frame)).bind fun (r96, r97) => (if r97.isNil = true then ((f_ask_Put r96).bind fun (r105, r106) => (((if (!r106.isNil) = true then (some true) else ((f_ref02_Same r105.Body a2).bind fun (r119 : Bool) => (some (!r119)))) : Option Bool).bind fun (x116 : Bool) => (if x116 = true then (((some false)).bind fun r => some (Sum.inr r)) else (some (Sum.inl ()))))) else (some (Sum.inl ())))) : Option (Unit ⊕ Bool)).bind (Sum.elim (fun _ => ((((f_ask_ReadReply (⟨(17 : Int), a2⟩ : T_api_Frame)).bind fun (r129, r130) => (if r130.isNil = true then ((f_ask_PutReply r129).bind fun (r138, r139) => (((if (!r139.isNil) = true then (some true) else ((f_ref02_Same r138.Body a2).bind fun (r149 : Bool) => (some (!r149)))) : Option Bool).bind fun (x146 : Bool) => (if x146 = true then (((some false)).bind fun r => some (Sum.inr r)) else (some (Sum.inl ()))))) else (some (Sum.inl ())))) : Option (Unit ⊕ Bool)).bind (Sum.elim (fun _ => ((f_law22_works).bind fun (r158 : Bool) => (some r158))) some))) some))) some))) some))))
def f_law22_AskBack_post (a0 : T_api_Request) (a1 : T_api_Reply) (a2 : (List Int)) (v0_10 v2 : Value) : Bool → Value → IM → HL → Prop :=
  fun (r0 : Bool) (v : Value) (M' : IM) (H' : HL) => (.bool r0) = v ∧ H' = []
set_option maxHeartbeats 8000000 in
set_option maxRecDepth 100000 in
theorem f_law22_AskBack_ok (a0 : T_api_Request) (a1 : T_api_Reply) (a2 : (List Int)) (M : IM) (v0_10 v2 : Value) (h0_10 : RS (Kd.int .i64) M v0_10 a0.Ids) (h2 : RS (Kd.int .u8) M v2 a2) (res : Bool) (h : f_law22_AskBack a0 a1 a2 = some res) :
    Tri Try.prog 3 #[(a26_ a0 v0_10), (a30_ a1), v2] M [] (f_law22_AskBack_post a0 a1 a2 v0_10 v2 res) := by
 unfold f_law22_AskBack at h
 refine Tri.enter (fn := Try.f3) Try.func3 rfl (Nat.le_of_ble_eq_true rfl) ?_
 intro F ρ hρ
 refine Sr ?_
 refine WL.eff (EO.box (cs := (l26 a0 v0_10).toArray) (congrArg Value.cells (asE (a26_ a0 v0_10) (hρ 0)))) rfl ?_
 rintro _ _ _ - ⟨rfl, g21, rfl, rfl⟩
 refine WL.eff (EO.box (cs := (l30 a1).toArray) (congrArg Value.cells (asE (a30_ a1) (hρ 1)))) rfl ?_
 rintro _ _ _ - ⟨rfl, g22, rfl, rfl⟩
 refine Pa (.bool false) rfl rfl ?_
 refine Nt ?_
 refine WC.seq ?_
 obtain ⟨x23, hj24, h⟩ := bnd h
 refine WC.joinF (fun (x23 : Bool) ρ' M' H' => M.le M' ∧ [(g22, .cells (l30 a1).toArray 30 (0, 0))] :: [(g21, .cells (l26 a0 v0_10).toArray 26 (0, 0))] :: F = H' ∧ ρ' 2 = v2 ∧ ρ' 3 = (.pointer (some ⟨g21, 0, none⟩)) ∧ ρ' 4 = (.pointer (some ⟨g22, 0, none⟩)) ∧ ρ' 30 = (.bool x23)) x23 ?_ ?_
 have h324 := h
 have h := hj24
 refine WC.region ?_
 refine Pu (a26_ a0 v0_10) (PO.loadBA (cs := (l26 a0 v0_10)) 1 ag26 sz26 rfl rfl rfl) rfl ?_
 obtain ⟨r25, hr26, h⟩ := bnd h
 refine WL.eff (EO.call0 co4 (f_ref20_Short_ok a0 _ _ h0_10 r25 hr26) (args1 rfl)) rfl ?_
 rintro _ M27 _ hle28 ⟨_, ⟨rfl, rfl⟩, rfl⟩
 have h2 := h2.mono hle28
 have h0_10 := h0_10.mono hle28
 refine WL.a0 ?_
 refine Pu (.bool (!r25)) (PO.not rfl) rfl ?_
 refine Pm (.bool (!r25)) rfl rfl ?_
 rcases Bool.eq_false_or_eq_true (!r25) with hb30 | hb30
 have h := ite_t hb30 h
 iterate 3 refine Of 26 rfl rfl hb30 rfl ?_
 refine Pu (.bool true) (PO.pickT rfl hb30 rfl) rfl ?_
 refine WL.nil ?_
 obtain rfl := Option.some.inj h
 refine WQ.thenJ ?_
 exact ⟨hle28, rfl, (hρ 2), rfl, rfl, rfl⟩
 have h := ite_f hb30 h
 refine On 26 rfl rfl hb30 ?_
 refine Pm v2 (hρ 2) rfl ?_
 refine On 26 rfl rfl hb30 ?_
 refine Pu (.int .i64 (a2.length : Int)) (PO.lenS Try.underlying31 rfl h2.len) rfl ?_
 refine On 26 rfl rfl hb30 ?_
 refine Pu (.bool (decide ((1000 : Int) < (a2.length : Int)))) (PO.gtr rfl rfl) rfl ?_
 refine Pu (.bool (decide ((1000 : Int) < (a2.length : Int)))) (PO.pickF rfl hb30 rfl) rfl ?_
 refine WL.nil ?_
 obtain rfl := Option.some.inj h
 refine WQ.thenJ ?_
 exact ⟨hle28, rfl, (hρ 2), rfl, rfl, rfl⟩
 rintro ρ24 M24 H24 ⟨hle24, rfl, hs24_2, hs24_3, hs24_4, hs24_30⟩
 have h2 := h2.mono hle24
 have h0_10 := h0_10.mono hle24
 refine WC.cond (b := x23) hs24_30 (fun hb31 => ?_) (fun hb31 => ?_)
 have h := ite_t hb31 h
 refine Sr ?_
 obtain ⟨r32, hr33, h⟩ := bnd h
 refine WL.eff (EO.call0 co5 (f_law22_works_ok _ r32 hr33) (args0)) rfl ?_
 rintro _ M34 _ hle35 ⟨_, ⟨rfl, rfl⟩, rfl⟩
 have h2 := h2.mono hle35
 have h0_10 := h0_10.mono hle35
 refine WL.a0 ?_
 refine Pa (.bool r32) rfl rfl ?_
 refine Nt ?_
 refine WC.ret ?_
 refine WQ.thenR ?_
 refine WQ.drop ?_
 refine WQ.drop ?_
 exact WQ.returnsF h [] rfl (results1 rfl rfl) (hle24.trans hle35) ⟨rfl, rfl⟩
 have h := ite_f hb31 h
 refine WC.skip ?_
 refine WQ.thenC ?_
 obtain ⟨j37, hj37, h⟩ := bnd h
 refine WC.joinE (fun (_ : Unit) ρ' M' H' => M24.le M' ∧ [(g22, .cells (l30 a1).toArray 30 (0, 0))] :: [(g21, .cells (l26 a0 v0_10).toArray 26 (0, 0))] :: F = H' ∧ ρ' 2 = v2 ∧ ρ' 4 = (.pointer (some ⟨g22, 0, none⟩))) j37 ?_ ?_
 have h337 := h
 have h := hj37
 refine Sr ?_
 refine Pu (a26_ a0 v0_10) (PO.loadBA (cs := (l26 a0 v0_10)) 1 ag26 sz26 hs24_3 rfl rfl) rfl ?_
 obtain ⟨⟨r38, r39⟩, hr40, h⟩ := bnd h
 refine WL.eff (EO.call0 co6 (f_ask_Put_ok a0 _ _ h0_10 (r38, r39) hr40) (args1 rfl)) rfl ?_
 rintro _ M41 _ hle42 ⟨_, ⟨vq43_1, cq43_1, rfl, rfl, hq43_1⟩, rfl⟩
 have h2 := h2.mono hle42
 have h0_10 := h0_10.mono hle42
 refine WL.a1 ?_
 refine Pm (.tuple #[(.agg #[(.int .i64 r38.Kind), vq43_1]), (GV r39)]) rfl rfl ?_
 refine Pu (.agg #[(.int .i64 r38.Kind), vq43_1]) (PO.extract rfl rfl) rfl ?_
 refine Pu (GV r39) (PO.extract rfl rfl) rfl ?_
 refine WL.eff (EO.alloc ze35 rfl) rfl ?_
 rintro _ _ _ - ⟨rfl, g45, rfl, rfl⟩
 refine WL.eff (EO.storeL (v := (.agg #[(.int .i64 r38.Kind), vq43_1])) (vl := [(.int .i64 r38.Kind), vq43_1]) (arr' := [(.int .i64 r38.Kind), vq43_1]) rfl sz35 rfl rfl (onesOf (Ones.cons rfl (Ones.cons (OwnS.one hq43_1) Ones.nil))) rfl rfl rfl) rfl ?_
 rintro _ _ _ - ⟨rfl, rfl⟩
 refine Pa (GV r39) rfl rfl ?_
 refine Ns ?_
 refine Pm (GV r39) rfl rfl ?_
 refine Pu (.bool r39.isNil) (PO.errNil Try.underlying37 rfl) rfl ?_
 refine Nt ?_
 refine WC.cond (b := r39.isNil) rfl (fun hb46 => ?_) (fun hb46 => ?_)
 have h := ite_t hb46 h
 refine Sr ?_
 refine Pu (.agg #[(.int .i64 r38.Kind), vq43_1]) (PO.loadBA (cs := [(.int .i64 r38.Kind), vq43_1]) 0 ag35 sz35 rfl rfl rfl) rfl ?_
 obtain ⟨⟨r47, r48⟩, hr49, h⟩ := bnd h
 refine WL.f1 ?_
 refine WL.eff (EO.call1 co7 (Tri.lend fun w0_ H0_ hs0_ => (f_ask_Read_ok r38 _ _ (hq43_1.rs hs0_) (r47, r48) hr49)) (args1 rfl)) rfl ?_
 rintro _ _ _ hle51 ⟨_, ⟨Ml54, Hl55, hll56, rfl, rfl, ⟨vq52_10, cq52_10, rfl, rfl, hq52_10⟩⟩, rfl⟩
 have h2 := h2.mono hle51
 have hq43_1 := hq43_1.mono hle51
 have h0_10 := h0_10.mono hle51
 have hq52_10 : OwnS (Kd.int .i64) (Ml54.minus cq43_1) vq52_10 r47.Ids cq52_10 := hq52_10.any (Kd.int_flat _)
 refine WL.a2 ?_
 refine Pm (.tuple #[(a26_ r47 vq52_10), (GV r48)]) rfl rfl ?_
 refine Pu (a26_ r47 vq52_10) (PO.extract rfl rfl) rfl ?_
 refine Pu (GV r48) (PO.extract rfl rfl) rfl ?_
 refine WL.eff (EO.alloc ze26 rfl) rfl ?_
 rintro _ _ _ - ⟨rfl, g57, rfl, rfl⟩
 refine WL.eff (EO.storeL (v := (a26_ r47 vq52_10)) (vl := (l26 r47 vq52_10)) (arr' := (l26 r47 vq52_10)) rfl sz26 rfl rfl (onesOf (Ones.cons rfl (Ones.cons rfl (Ones.cons rfl (Ones.cons rfl (Ones.cons rfl (Ones.cons rfl (Ones.cons rfl (Ones.cons rfl (Ones.cons rfl (Ones.cons rfl (Ones.cons (OwnS.one hq52_10) (Ones.cons rfl (Ones.cons rfl (Ones.cons rfl (Ones.cons rfl (Ones.cons rfl (Ones.cons rfl (Ones.cons rfl (Ones.cons rfl Ones.nil)))))))))))))))))))) rfl rfl (by kernel_rfl)) rfl ?_
 rintro _ _ _ - ⟨rfl, rfl⟩
 refine Pa (GV r48) rfl rfl ?_
 refine Nt ?_
 obtain ⟨x58, hj59, h⟩ := bnd h
 refine WC.joinF (fun (x58 : Bool) ρ' M' H' => (Ml54.minus cq43_1).le M' ∧ [(g57, .cells (l26 r47 vq52_10).toArray 26 (0, 0))] :: [(g45, .cells #[(.int .i64 r38.Kind), vq43_1] 35 (0, 0))] :: [(g22, .cells (l30 a1).toArray 30 (0, 0))] :: [(g21, .cells (l26 a0 v0_10).toArray 26 (0, 0))] :: cq52_10 :: cq43_1 :: F = H' ∧ ρ' 2 = v2 ∧ ρ' 4 = (.pointer (some ⟨g22, 0, none⟩)) ∧ ρ' 51 = (.bool x58)) x58 ?_ ?_
 have h359 := h
 have h := hj59
 refine WC.region ?_
 refine Pm (GV r48) rfl rfl ?_
 refine Pu (.bool (!r48.isNil)) (PO.errNotNil Try.underlying37 rfl) rfl ?_
 refine Pm (.bool (!r48.isNil)) rfl rfl ?_
 rcases Bool.eq_false_or_eq_true (!r48.isNil) with hb60 | hb60
 have h := ite_t hb60 h
 iterate 4 refine Of 46 rfl rfl hb60 rfl ?_
 refine Pu (.bool true) (PO.pickT rfl hb60 rfl) rfl ?_
 refine WL.nil ?_
 refine WQ.f1 ?_
 refine WQ.f2 ?_
 refine WQ.f5 ?_
 refine WQ.f5 ?_
 refine WQ.f5 ?_
 refine WQ.f5 ?_
 obtain rfl := Option.some.inj h
 refine WQ.thenJ ?_
 exact ⟨(IM.le.refl _), rfl, hs24_2, hs24_4, rfl⟩
 have h := ite_f hb60 h
 refine On 46 rfl rfl hb60 ?_
 refine Pu (a26_ r47 vq52_10) (PO.loadBA (cs := (l26 r47 vq52_10)) 0 ag26 sz26 rfl rfl rfl) rfl ?_
 refine On 46 rfl rfl hb60 ?_
 refine Pu (a26_ a0 v0_10) (PO.loadBA (cs := (l26 a0 v0_10)) 5 ag26 sz26 hs24_3 rfl rfl) rfl ?_
 refine On 46 rfl rfl hb60 ?_
 obtain ⟨r61, hr62, h⟩ := bnd h
 refine WL.f2 ?_
 refine WL.eff (EO.call1 co8 (Tri.lend fun w0_ H0_ hs0_ => (f_ref22_Same_ok r47 a0 _ _ _ (hq52_10.rs hs0_) (h0_10.mono (IM.le_add _ _)) r61 hr62)) (args2 rfl rfl)) rfl ?_
 rintro _ _ _ hle64 ⟨_, ⟨Ml66, Hl67, hll68, rfl, rfl, ⟨rfl, rfl⟩⟩, rfl⟩
 have h2 := h2.mono hle64
 have hq52_10 := hq52_10.mono hle64
 have h0_10 := h0_10.mono hle64
 have hq43_1 := hq43_1.mono hle64
 refine WL.a1 ?_
 refine On 46 rfl rfl hb60 ?_
 refine Pu (.bool (!r61)) (PO.not rfl) rfl ?_
 refine Pu (.bool (!r61)) (PO.pickF rfl hb60 rfl) rfl ?_
 refine WL.nil ?_
 refine WQ.f2 ?_
 refine WQ.f1 ?_
 refine WQ.f5 ?_
 refine WQ.f5 ?_
 refine WQ.f5 ?_
 refine WQ.f5 ?_
 obtain rfl := Option.some.inj h
 refine WQ.thenJ ?_
 exact ⟨hle64, rfl, hs24_2, hs24_4, rfl⟩
 rintro ρ59 M59 H59 ⟨hle59, rfl, hs59_2, hs59_4, hs59_51⟩
 have h2 := h2.mono hle59
 have hq52_10 := hq52_10.mono hle59
 have hq43_1 := hq43_1.mono hle59
 have h0_10 := h0_10.mono hle59
 refine WC.cond (b := x58) hs59_51 (fun hb69 => ?_) (fun hb69 => ?_)
 have h := ite_t hb69 h
 refine Sr ?_
 refine Pa (.bool false) rfl rfl ?_
 refine Nt ?_
 refine WC.ret ?_
 refine WQ.thenR ?_
 have h := KK.early h h337
 refine WQ.drop ?_
 refine WQ.drop ?_
 refine WQ.drop ?_
 refine WQ.drop ?_
 refine WQ.drop ?_
 refine WQ.drop ?_
 exact WQ.returnsF h [] rfl (results1 rfl rfl) (((hle24.trans hle42).trans hle51).trans hle59) ⟨rfl, rfl⟩
 have h := ite_f hb69 h
 refine WC.skip ?_
 refine WQ.drop ?_
 refine WQ.drop ?_
 refine WQ.f2 ?_
 refine WQ.drop ?_
 refine WQ.f2 ?_
 refine WQ.drop ?_
 refine WQ.thenFE h ?_
 exact ⟨((hle42.trans hle51).trans hle59), rfl, hs59_2, hs59_4⟩
 have h := ite_f hb46 h
 refine WC.skip ?_
 refine WQ.drop ?_
 refine WQ.drop ?_
 refine WQ.thenFE h ?_
 exact ⟨hle42, rfl, hs24_2, hs24_4⟩
 rintro _ ρ37 M37 H37 rfl ⟨hle37, rfl, hs37_2, hs37_4⟩
 have h2 := h2.mono hle37
 have h0_10 := h0_10.mono hle37
 obtain ⟨j70, hj70, h⟩ := bnd h
 refine WC.joinE (fun (_ : Unit) ρ' M' H' => M37.le M' ∧ [(g22, .cells (l30 a1).toArray 30 (0, 0))] :: [(g21, .cells (l26 a0 v0_10).toArray 26 (0, 0))] :: F = H' ∧ ρ' 2 = v2) j70 ?_ ?_
 have h370 := h
 have h := hj70
 refine Sr ?_
 refine Pu (a30_ a1) (PO.loadBA (cs := (l30 a1)) 0 ag30 sz30 hs37_4 rfl rfl) rfl ?_
 obtain ⟨⟨r71, r72⟩, hr73, h⟩ := bnd h
 refine WL.eff (EO.call0 co9 (f_ask_PutReply_ok a1 _ (r71, r72) hr73) (args1 rfl)) rfl ?_
 rintro _ M74 _ hle75 ⟨_, ⟨vq76_1, cq76_1, rfl, rfl, hq76_1⟩, rfl⟩
 have h2 := h2.mono hle75
 have h0_10 := h0_10.mono hle75
 refine WL.a1 ?_
 refine Pm (.tuple #[(.agg #[(.int .i64 r71.Kind), vq76_1]), (GV r72)]) rfl rfl ?_
 refine Pu (.agg #[(.int .i64 r71.Kind), vq76_1]) (PO.extract rfl rfl) rfl ?_
 refine Pu (GV r72) (PO.extract rfl rfl) rfl ?_
 refine WL.eff (EO.alloc ze35 rfl) rfl ?_
 rintro _ _ _ - ⟨rfl, g78, rfl, rfl⟩
 refine WL.eff (EO.storeL (v := (.agg #[(.int .i64 r71.Kind), vq76_1])) (vl := [(.int .i64 r71.Kind), vq76_1]) (arr' := [(.int .i64 r71.Kind), vq76_1]) rfl sz35 rfl rfl (onesOf (Ones.cons rfl (Ones.cons (OwnS.one hq76_1) Ones.nil))) rfl rfl rfl) rfl ?_
 rintro _ _ _ - ⟨rfl, rfl⟩
 refine Pa (GV r72) rfl rfl ?_
 refine Ns ?_
 refine Pm (GV r72) rfl rfl ?_
 refine Pu (.bool r72.isNil) (PO.errNil Try.underlying37 rfl) rfl ?_
 refine Nt ?_
 refine WC.cond (b := r72.isNil) rfl (fun hb79 => ?_) (fun hb79 => ?_)
 have h := ite_t hb79 h
 refine Sr ?_
 refine Pu (.agg #[(.int .i64 r71.Kind), vq76_1]) (PO.loadBA (cs := [(.int .i64 r71.Kind), vq76_1]) 0 ag35 sz35 rfl rfl rfl) rfl ?_
 obtain ⟨⟨r80, r81⟩, hr82, h⟩ := bnd h
 refine WL.f1 ?_
 refine WL.eff (EO.call1 co10 (Tri.lend fun w0_ H0_ hs0_ => (f_ask_ReadReply_ok r71 _ _ (hq76_1.rs hs0_) (r80, r81) hr82)) (args1 rfl)) rfl ?_
 rintro _ _ _ hle84 ⟨_, ⟨Ml87, Hl88, hll89, rfl, rfl, ⟨rfl, rfl⟩⟩, rfl⟩
 have h2 := h2.mono hle84
 have hq76_1 := hq76_1.mono hle84
 have h0_10 := h0_10.mono hle84
 refine WL.a1 ?_
 refine Pm (.tuple #[(a30_ r80), (GV r81)]) rfl rfl ?_
 refine Pu (a30_ r80) (PO.extract rfl rfl) rfl ?_
 refine Pu (GV r81) (PO.extract rfl rfl) rfl ?_
 refine WL.eff (EO.alloc ze30 rfl) rfl ?_
 rintro _ _ _ - ⟨rfl, g90, rfl, rfl⟩
 refine WL.eff (EO.storeL (v := (a30_ r80)) (vl := (l30 r80)) (arr' := (l30 r80)) rfl sz30 rfl rfl (onesOf (Ones.cons rfl (Ones.cons rfl (Ones.cons rfl (Ones.cons rfl (Ones.cons rfl (Ones.cons rfl (Ones.cons rfl Ones.nil)))))))) rfl rfl (by kernel_rfl)) rfl ?_
 rintro _ _ _ - ⟨rfl, rfl⟩
 refine Pa (GV r81) rfl rfl ?_
 refine Nt ?_
 obtain ⟨x91, hj92, h⟩ := bnd h
 refine WC.joinF (fun (x91 : Bool) ρ' M' H' => (Ml87.minus cq76_1).le M' ∧ [(g90, .cells (l30 r80).toArray 30 (0, 0))] :: [(g78, .cells #[(.int .i64 r71.Kind), vq76_1] 35 (0, 0))] :: [(g22, .cells (l30 a1).toArray 30 (0, 0))] :: [(g21, .cells (l26 a0 v0_10).toArray 26 (0, 0))] :: cq76_1 :: F = H' ∧ ρ' 2 = v2 ∧ ρ' 70 = (.bool x91)) x91 ?_ ?_
 have h392 := h
 have h := hj92
 refine WC.region ?_
 refine Pm (GV r81) rfl rfl ?_
 refine Pu (.bool (!r81.isNil)) (PO.errNotNil Try.underlying37 rfl) rfl ?_
 refine Pm (.bool (!r81.isNil)) rfl rfl ?_
 rcases Bool.eq_false_or_eq_true (!r81.isNil) with hb93 | hb93
 have h := ite_t hb93 h
 iterate 3 refine Of 66 rfl rfl hb93 rfl ?_
 refine Pu (.bool true) (PO.pickT rfl hb93 rfl) rfl ?_
 refine WL.nil ?_
 refine WQ.f1 ?_
 refine WQ.f4 ?_
 refine WQ.f4 ?_
 refine WQ.f4 ?_
 refine WQ.f4 ?_
 obtain rfl := Option.some.inj h
 refine WQ.thenJ ?_
 exact ⟨(IM.le.refl _), rfl, hs37_2, rfl⟩
 have h := ite_f hb93 h
 refine On 66 rfl rfl hb93 ?_
 refine Pu (a30_ r80) (PO.loadBA (cs := (l30 r80)) 0 ag30 sz30 rfl rfl rfl) rfl ?_
 refine On 66 rfl rfl hb93 ?_
 refine Pu (a30_ a1) (PO.loadBA (cs := (l30 a1)) 3 ag30 sz30 hs37_4 rfl rfl) rfl ?_
 refine On 66 rfl rfl hb93 ?_
 refine Pu (.bool (!(andL [decide (r80.Client = a1.Client), decide (r80.Serial = a1.Serial), decide (r80.Code = a1.Code), decide (r80.Leader = a1.Leader), andL [r80.Told.Fenced == a1.Told.Fenced, r80.Told.Leaving == a1.Told.Leaving, r80.Told.Stop == a1.Told.Stop]]))) (PO.neqAgg eg30 rfl rfl (run_equal_struct2 Try.underlying30 eq30 (EqFs2.cons (by decide) (PartEq.cell pl3 rfl rfl (EqC.int Try.underlying3)) (EqFs2.cons (by decide) (PartEq.cell pl3 rfl rfl (EqC.int Try.underlying3)) (EqFs2.cons (by decide) (PartEq.cell pl3 rfl rfl (EqC.int Try.underlying3)) (EqFs2.cons (by decide) (PartEq.cell pl3 rfl rfl (EqC.int Try.underlying3)) (EqFs2.cons (by decide) (PartEq.struct (us := (l28 r80.Told).toArray) (vs := (l28 a1.Told).toArray) ag28 sz28 rfl rfl Try.underlying28 eq28 (EqFs.cons (by decide) pl4 rfl rfl (EqC.bool Try.underlying4) (EqFs.cons (by decide) pl4 rfl rfl (EqC.bool Try.underlying4) (EqFs.cons (by decide) pl4 rfl rfl (EqC.bool Try.underlying4) EqFs.nil)))) EqFs2.nil))))))) rfl ?_
 refine Pu (.bool (!(andL [decide (r80.Client = a1.Client), decide (r80.Serial = a1.Serial), decide (r80.Code = a1.Code), decide (r80.Leader = a1.Leader), andL [r80.Told.Fenced == a1.Told.Fenced, r80.Told.Leaving == a1.Told.Leaving, r80.Told.Stop == a1.Told.Stop]]))) (PO.pickF rfl hb93 rfl) rfl ?_
 refine WL.nil ?_
 refine WQ.f1 ?_
 refine WQ.f4 ?_
 refine WQ.f4 ?_
 refine WQ.f4 ?_
 refine WQ.f4 ?_
 obtain rfl := Option.some.inj h
 refine WQ.thenJ ?_
 exact ⟨(IM.le.refl _), rfl, hs37_2, rfl⟩
 rintro ρ92 M92 H92 ⟨hle92, rfl, hs92_2, hs92_70⟩
 have h2 := h2.mono hle92
 have hq76_1 := hq76_1.mono hle92
 have h0_10 := h0_10.mono hle92
 refine WC.cond (b := x91) hs92_70 (fun hb94 => ?_) (fun hb94 => ?_)
 have h := ite_t hb94 h
 refine Sr ?_
 refine Pa (.bool false) rfl rfl ?_
 refine Nt ?_
 refine WC.ret ?_
 refine WQ.thenR ?_
 have h := KK.early h h370
 refine WQ.drop ?_
 refine WQ.drop ?_
 refine WQ.drop ?_
 refine WQ.drop ?_
 refine WQ.drop ?_
 exact WQ.returnsF h [] rfl (results1 rfl rfl) ((((hle24.trans hle37).trans hle75).trans hle84).trans hle92) ⟨rfl, rfl⟩
 have h := ite_f hb94 h
 refine WC.skip ?_
 refine WQ.drop ?_
 refine WQ.drop ?_
 refine WQ.f2 ?_
 refine WQ.drop ?_
 refine WQ.thenFE h ?_
 exact ⟨((hle75.trans hle84).trans hle92), rfl, hs92_2⟩
 have h := ite_f hb79 h
 refine WC.skip ?_
 refine WQ.drop ?_
 refine WQ.drop ?_
 refine WQ.thenFE h ?_
 exact ⟨hle75, rfl, hs37_2⟩
 rintro _ ρ70 M70 H70 rfl ⟨hle70, rfl, hs70_2⟩
 have h2 := h2.mono hle70
 have h0_10 := h0_10.mono hle70
 obtain ⟨j95, hj95, h⟩ := bnd h
 refine WC.joinE (fun (_ : Unit) ρ' M' H' => M70.le M' ∧ [(g22, .cells (l30 a1).toArray 30 (0, 0))] :: [(g21, .cells (l26 a0 v0_10).toArray 26 (0, 0))] :: F = H' ∧ ρ' 2 = v2) j95 ?_ ?_
 have h395 := h
 have h := hj95
 refine Sr ?_
 refine Pm v2 hs70_2 rfl ?_
 refine Pu (.agg #[(.int .i64 16), v2]) (PO.buildL (cl := [(.int .i64 16), v2]) ze35 fp35 (Parts.cons (congrArg Value.cells (show ev _ _ = (.int .i64 16) from rfl)) (Parts.cons ((congrArg Value.cells (show ev _ _ = v2 from rfl)).trans h2.cells) Parts.nil)) rfl) rfl ?_
 obtain ⟨⟨r96, r97⟩, hr98, h⟩ := bnd h
 refine WL.eff (EO.call0 co7 (f_ask_Read_ok (⟨(16 : Int), a2⟩ : T_api_Frame) _ _ h2 (r96, r97) hr98) (args1 rfl)) rfl ?_
 rintro _ M99 _ hle100 ⟨_, ⟨vq101_10, cq101_10, rfl, rfl, hq101_10⟩, rfl⟩
 have h2 := h2.mono hle100
 have h0_10 := h0_10.mono hle100
 refine WL.a1 ?_
 refine Pm (.tuple #[(a26_ r96 vq101_10), (GV r97)]) rfl rfl ?_
 refine Pu (a26_ r96 vq101_10) (PO.extract rfl rfl) rfl ?_
 refine Pu (GV r97) (PO.extract rfl rfl) rfl ?_
 refine WL.eff (EO.alloc ze26 rfl) rfl ?_
 rintro _ _ _ - ⟨rfl, g103, rfl, rfl⟩
 refine WL.eff (EO.storeL (v := (a26_ r96 vq101_10)) (vl := (l26 r96 vq101_10)) (arr' := (l26 r96 vq101_10)) rfl sz26 rfl rfl (onesOf (Ones.cons rfl (Ones.cons rfl (Ones.cons rfl (Ones.cons rfl (Ones.cons rfl (Ones.cons rfl (Ones.cons rfl (Ones.cons rfl (Ones.cons rfl (Ones.cons rfl (Ones.cons (OwnS.one hq101_10) (Ones.cons rfl (Ones.cons rfl (Ones.cons rfl (Ones.cons rfl (Ones.cons rfl (Ones.cons rfl (Ones.cons rfl (Ones.cons rfl Ones.nil)))))))))))))))))))) rfl rfl (by kernel_rfl)) rfl ?_
 rintro _ _ _ - ⟨rfl, rfl⟩
 refine Pa (GV r97) rfl rfl ?_
 refine Ns ?_
 refine Pm (GV r97) rfl rfl ?_
 refine Pu (.bool r97.isNil) (PO.errNil Try.underlying37 rfl) rfl ?_
 refine Nt ?_
 refine WC.cond (b := r97.isNil) rfl (fun hb104 => ?_) (fun hb104 => ?_)
 have h := ite_t hb104 h
 refine Sr ?_
 refine Pu (a26_ r96 vq101_10) (PO.loadBA (cs := (l26 r96 vq101_10)) 0 ag26 sz26 rfl rfl rfl) rfl ?_
 obtain ⟨⟨r105, r106⟩, hr107, h⟩ := bnd h
 refine WL.f1 ?_
 refine WL.eff (EO.call1 co6 (Tri.lend fun w0_ H0_ hs0_ => (f_ask_Put_ok r96 _ _ (hq101_10.rs hs0_) (r105, r106) hr107)) (args1 rfl)) rfl ?_
 rintro _ _ _ hle109 ⟨_, ⟨Ml112, Hl113, hll114, rfl, rfl, ⟨vq110_1, cq110_1, rfl, rfl, hq110_1⟩⟩, rfl⟩
 have h2 := h2.mono hle109
 have hq101_10 := hq101_10.mono hle109
 have h0_10 := h0_10.mono hle109
 have hq110_1 : OwnS (Kd.int .u8) (Ml112.minus cq101_10) vq110_1 r105.Body cq110_1 := hq110_1.any (Kd.int_flat _)
 refine WL.a2 ?_
 refine Pm (.tuple #[(.agg #[(.int .i64 r105.Kind), vq110_1]), (GV r106)]) rfl rfl ?_
 refine Pu (.agg #[(.int .i64 r105.Kind), vq110_1]) (PO.extract rfl rfl) rfl ?_
 refine Pu (GV r106) (PO.extract rfl rfl) rfl ?_
 refine WL.eff (EO.alloc ze35 rfl) rfl ?_
 rintro _ _ _ - ⟨rfl, g115, rfl, rfl⟩
 refine WL.eff (EO.storeL (v := (.agg #[(.int .i64 r105.Kind), vq110_1])) (vl := [(.int .i64 r105.Kind), vq110_1]) (arr' := [(.int .i64 r105.Kind), vq110_1]) rfl sz35 rfl rfl (onesOf (Ones.cons rfl (Ones.cons (OwnS.one hq110_1) Ones.nil))) rfl rfl rfl) rfl ?_
 rintro _ _ _ - ⟨rfl, rfl⟩
 refine Pa (GV r106) rfl rfl ?_
 refine Nt ?_
 obtain ⟨x116, hj117, h⟩ := bnd h
 refine WC.joinF (fun (x116 : Bool) ρ' M' H' => (Ml112.minus cq101_10).le M' ∧ [(g115, .cells #[(.int .i64 r105.Kind), vq110_1] 35 (0, 0))] :: [(g103, .cells (l26 r96 vq101_10).toArray 26 (0, 0))] :: [(g22, .cells (l30 a1).toArray 30 (0, 0))] :: [(g21, .cells (l26 a0 v0_10).toArray 26 (0, 0))] :: cq110_1 :: cq101_10 :: F = H' ∧ ρ' 2 = v2 ∧ ρ' 92 = (.bool x116)) x116 ?_ ?_
 have h3117 := h
 have h := hj117
 refine WC.region ?_
 refine Pm (GV r106) rfl rfl ?_
 refine Pu (.bool (!r106.isNil)) (PO.errNotNil Try.underlying37 rfl) rfl ?_
 refine Pm (.bool (!r106.isNil)) rfl rfl ?_
 rcases Bool.eq_false_or_eq_true (!r106.isNil) with hb118 | hb118
 have h := ite_t hb118 h
 iterate 5 refine Of 86 rfl rfl hb118 rfl ?_
 refine Pu (.bool true) (PO.pickT rfl hb118 rfl) rfl ?_
 refine WL.nil ?_
 refine WQ.f1 ?_
 refine WQ.f2 ?_
 refine WQ.f5 ?_
 refine WQ.f5 ?_
 refine WQ.f5 ?_
 refine WQ.f5 ?_
 obtain rfl := Option.some.inj h
 refine WQ.thenJ ?_
 exact ⟨(IM.le.refl _), rfl, hs70_2, rfl⟩
 have h := ite_f hb118 h
 refine On 86 rfl rfl hb118 ?_
 refine Pu (.pointer (some ⟨g115, 1, none⟩)) (PO.fieldAddr fo35_1 rfl rfl) rfl ?_
 refine On 86 rfl rfl hb118 ?_
 refine Pu vq110_1 (PO.loadB 0 pl31 rfl rfl rfl) rfl ?_
 refine On 86 rfl rfl hb118 ?_
 refine Pm v2 hs70_2 rfl ?_
 refine On 86 rfl rfl hb118 ?_
 obtain ⟨r119, hr120, h⟩ := bnd h
 refine WL.f2 ?_
 refine WL.eff (EO.call1 co11 (Tri.lend fun w0_ H0_ hs0_ => (f_ref02_Same_ok r105.Body a2 _ _ _ (hq110_1.rs hs0_) (h2.mono (IM.le_add _ _)) r119 hr120)) (args2 rfl rfl)) rfl ?_
 rintro _ _ _ hle122 ⟨_, ⟨Ml124, Hl125, hll126, rfl, rfl, ⟨rfl, rfl⟩⟩, rfl⟩
 have h2 := h2.mono hle122
 have hq110_1 := hq110_1.mono hle122
 have h0_10 := h0_10.mono hle122
 have hq101_10 := hq101_10.mono hle122
 refine WL.a1 ?_
 refine On 86 rfl rfl hb118 ?_
 refine Pu (.bool (!r119)) (PO.not rfl) rfl ?_
 refine Pu (.bool (!r119)) (PO.pickF rfl hb118 rfl) rfl ?_
 refine WL.nil ?_
 refine WQ.f2 ?_
 refine WQ.f1 ?_
 refine WQ.f5 ?_
 refine WQ.f5 ?_
 refine WQ.f5 ?_
 refine WQ.f5 ?_
 obtain rfl := Option.some.inj h
 refine WQ.thenJ ?_
 exact ⟨hle122, rfl, hs70_2, rfl⟩
 rintro ρ117 M117 H117 ⟨hle117, rfl, hs117_2, hs117_92⟩
 have h2 := h2.mono hle117
 have hq110_1 := hq110_1.mono hle117
 have hq101_10 := hq101_10.mono hle117
 have h0_10 := h0_10.mono hle117
 refine WC.cond (b := x116) hs117_92 (fun hb127 => ?_) (fun hb127 => ?_)
 have h := ite_t hb127 h
 refine Sr ?_
 refine Pa (.bool false) rfl rfl ?_
 refine Nt ?_
 refine WC.ret ?_
 refine WQ.thenR ?_
 have h := KK.early h h395
 refine WQ.drop ?_
 refine WQ.drop ?_
 refine WQ.drop ?_
 refine WQ.drop ?_
 refine WQ.drop ?_
 refine WQ.drop ?_
 exact WQ.returnsF h [] rfl (results1 rfl rfl) (((((hle24.trans hle37).trans hle70).trans hle100).trans hle109).trans hle117) ⟨rfl, rfl⟩
 have h := ite_f hb127 h
 refine WC.skip ?_
 refine WQ.drop ?_
 refine WQ.drop ?_
 refine WQ.f2 ?_
 refine WQ.drop ?_
 refine WQ.f2 ?_
 refine WQ.drop ?_
 refine WQ.thenFE h ?_
 exact ⟨((hle100.trans hle109).trans hle117), rfl, hs117_2⟩
 have h := ite_f hb104 h
 refine WC.skip ?_
 refine WQ.drop ?_
 refine WQ.drop ?_
 refine WQ.thenFE h ?_
 exact ⟨hle100, rfl, hs70_2⟩
 rintro _ ρ95 M95 H95 rfl ⟨hle95, rfl, hs95_2⟩
 have h2 := h2.mono hle95
 have h0_10 := h0_10.mono hle95
 obtain ⟨j128, hj128, h⟩ := bnd h
 refine WC.joinE (fun (_ : Unit) ρ' M' H' => M95.le M' ∧ [(g22, .cells (l30 a1).toArray 30 (0, 0))] :: [(g21, .cells (l26 a0 v0_10).toArray 26 (0, 0))] :: F = H') j128 ?_ ?_
 have h3128 := h
 have h := hj128
 refine Sr ?_
 refine Pm v2 hs95_2 rfl ?_
 refine Pu (.agg #[(.int .i64 17), v2]) (PO.buildL (cl := [(.int .i64 17), v2]) ze35 fp35 (Parts.cons (congrArg Value.cells (show ev _ _ = (.int .i64 17) from rfl)) (Parts.cons ((congrArg Value.cells (show ev _ _ = v2 from rfl)).trans h2.cells) Parts.nil)) rfl) rfl ?_
 obtain ⟨⟨r129, r130⟩, hr131, h⟩ := bnd h
 refine WL.eff (EO.call0 co10 (f_ask_ReadReply_ok (⟨(17 : Int), a2⟩ : T_api_Frame) _ _ h2 (r129, r130) hr131) (args1 rfl)) rfl ?_
 rintro _ M132 _ hle133 ⟨_, ⟨rfl, rfl⟩, rfl⟩
 have h2 := h2.mono hle133
 have h0_10 := h0_10.mono hle133
 refine WL.a0 ?_
 refine Pm (.tuple #[(a30_ r129), (GV r130)]) rfl rfl ?_
 refine Pu (a30_ r129) (PO.extract rfl rfl) rfl ?_
 refine Pu (GV r130) (PO.extract rfl rfl) rfl ?_
 refine WL.eff (EO.alloc ze30 rfl) rfl ?_
 rintro _ _ _ - ⟨rfl, g136, rfl, rfl⟩
 refine WL.eff (EO.storeL (v := (a30_ r129)) (vl := (l30 r129)) (arr' := (l30 r129)) rfl sz30 rfl rfl (onesOf (Ones.cons rfl (Ones.cons rfl (Ones.cons rfl (Ones.cons rfl (Ones.cons rfl (Ones.cons rfl (Ones.cons rfl Ones.nil)))))))) rfl rfl (by kernel_rfl)) rfl ?_
 rintro _ _ _ - ⟨rfl, rfl⟩
 refine Pa (GV r130) rfl rfl ?_
 refine Ns ?_
 refine Pm (GV r130) rfl rfl ?_
 refine Pu (.bool r130.isNil) (PO.errNil Try.underlying37 rfl) rfl ?_
 refine Nt ?_
 refine WC.cond (b := r130.isNil) rfl (fun hb137 => ?_) (fun hb137 => ?_)
 have h := ite_t hb137 h
 refine Sr ?_
 refine Pu (a30_ r129) (PO.loadBA (cs := (l30 r129)) 0 ag30 sz30 rfl rfl rfl) rfl ?_
 obtain ⟨⟨r138, r139⟩, hr140, h⟩ := bnd h
 refine WL.eff (EO.call0 co9 (f_ask_PutReply_ok r129 _ (r138, r139) hr140) (args1 rfl)) rfl ?_
 rintro _ M141 _ hle142 ⟨_, ⟨vq143_1, cq143_1, rfl, rfl, hq143_1⟩, rfl⟩
 have h2 := h2.mono hle142
 have h0_10 := h0_10.mono hle142
 refine WL.a1 ?_
 refine Pm (.tuple #[(.agg #[(.int .i64 r138.Kind), vq143_1]), (GV r139)]) rfl rfl ?_
 refine Pu (.agg #[(.int .i64 r138.Kind), vq143_1]) (PO.extract rfl rfl) rfl ?_
 refine Pu (GV r139) (PO.extract rfl rfl) rfl ?_
 refine WL.eff (EO.alloc ze35 rfl) rfl ?_
 rintro _ _ _ - ⟨rfl, g145, rfl, rfl⟩
 refine WL.eff (EO.storeL (v := (.agg #[(.int .i64 r138.Kind), vq143_1])) (vl := [(.int .i64 r138.Kind), vq143_1]) (arr' := [(.int .i64 r138.Kind), vq143_1]) rfl sz35 rfl rfl (onesOf (Ones.cons rfl (Ones.cons (OwnS.one hq143_1) Ones.nil))) rfl rfl rfl) rfl ?_
 rintro _ _ _ - ⟨rfl, rfl⟩
 refine Pa (GV r139) rfl rfl ?_
 refine Nt ?_
 obtain ⟨x146, hj147, h⟩ := bnd h
 refine WC.joinF (fun (x146 : Bool) ρ' M' H' => M141.le M' ∧ [(g145, .cells #[(.int .i64 r138.Kind), vq143_1] 35 (0, 0))] :: [(g136, .cells (l30 r129).toArray 30 (0, 0))] :: [(g22, .cells (l30 a1).toArray 30 (0, 0))] :: [(g21, .cells (l26 a0 v0_10).toArray 26 (0, 0))] :: cq143_1 :: F = H' ∧ ρ' 114 = (.bool x146)) x146 ?_ ?_
 have h3147 := h
 have h := hj147
 refine WC.region ?_
 refine Pm (GV r139) rfl rfl ?_
 refine Pu (.bool (!r139.isNil)) (PO.errNotNil Try.underlying37 rfl) rfl ?_
 refine Pm (.bool (!r139.isNil)) rfl rfl ?_
 rcases Bool.eq_false_or_eq_true (!r139.isNil) with hb148 | hb148
 have h := ite_t hb148 h
 iterate 5 refine Of 108 rfl rfl hb148 rfl ?_
 refine Pu (.bool true) (PO.pickT rfl hb148 rfl) rfl ?_
 refine WL.nil ?_
 refine WQ.f1 ?_
 refine WQ.f4 ?_
 refine WQ.f4 ?_
 refine WQ.f4 ?_
 refine WQ.f4 ?_
 obtain rfl := Option.some.inj h
 refine WQ.thenJ ?_
 exact ⟨(IM.le.refl _), rfl, rfl⟩
 have h := ite_f hb148 h
 refine On 108 rfl rfl hb148 ?_
 refine Pu (.pointer (some ⟨g145, 1, none⟩)) (PO.fieldAddr fo35_1 rfl rfl) rfl ?_
 refine On 108 rfl rfl hb148 ?_
 refine Pu vq143_1 (PO.loadB 0 pl31 rfl rfl rfl) rfl ?_
 refine On 108 rfl rfl hb148 ?_
 refine Pm v2 hs95_2 rfl ?_
 refine On 108 rfl rfl hb148 ?_
 obtain ⟨r149, hr150, h⟩ := bnd h
 refine WL.f1 ?_
 refine WL.eff (EO.call1 co11 (Tri.lend fun w0_ H0_ hs0_ => (f_ref02_Same_ok r138.Body a2 _ _ _ (hq143_1.rs hs0_) (h2.mono (IM.le_add _ _)) r149 hr150)) (args2 rfl rfl)) rfl ?_
 rintro _ _ _ hle152 ⟨_, ⟨Ml154, Hl155, hll156, rfl, rfl, ⟨rfl, rfl⟩⟩, rfl⟩
 have h2 := h2.mono hle152
 have hq143_1 := hq143_1.mono hle152
 have h0_10 := h0_10.mono hle152
 refine WL.a1 ?_
 refine On 108 rfl rfl hb148 ?_
 refine Pu (.bool (!r149)) (PO.not rfl) rfl ?_
 refine Pu (.bool (!r149)) (PO.pickF rfl hb148 rfl) rfl ?_
 refine WL.nil ?_
 refine WQ.f4 ?_
 refine WQ.f4 ?_
 refine WQ.f4 ?_
 refine WQ.f4 ?_
 obtain rfl := Option.some.inj h
 refine WQ.thenJ ?_
 exact ⟨hle152, rfl, rfl⟩
 rintro ρ147 M147 H147 ⟨hle147, rfl, hs147_114⟩
 have hq143_1 := hq143_1.mono hle147
 have h0_10 := h0_10.mono hle147
 refine WC.cond (b := x146) hs147_114 (fun hb157 => ?_) (fun hb157 => ?_)
 have h := ite_t hb157 h
 refine Sr ?_
 refine Pa (.bool false) rfl rfl ?_
 refine Nt ?_
 refine WC.ret ?_
 refine WQ.thenR ?_
 have h := KK.early h h3128
 refine WQ.drop ?_
 refine WQ.drop ?_
 refine WQ.drop ?_
 refine WQ.drop ?_
 refine WQ.drop ?_
 exact WQ.returnsF h [] rfl (results1 rfl rfl) ((((((hle24.trans hle37).trans hle70).trans hle95).trans hle133).trans hle142).trans hle147) ⟨rfl, rfl⟩
 have h := ite_f hb157 h
 refine WC.skip ?_
 refine WQ.drop ?_
 refine WQ.drop ?_
 refine WQ.f2 ?_
 refine WQ.drop ?_
 refine WQ.thenFE h ?_
 exact ⟨((hle133.trans hle142).trans hle147), rfl⟩
 have h := ite_f hb137 h
 refine WC.skip ?_
 refine WQ.drop ?_
 refine WQ.thenFE h ?_
 exact ⟨hle133, rfl⟩
 rintro _ ρ128 M128 H128 rfl ⟨hle128, rfl⟩
 have h0_10 := h0_10.mono hle128
 refine Sr ?_
 obtain ⟨r158, hr159, h⟩ := bnd h
 refine WL.eff (EO.call0 co5 (f_law22_works_ok _ r158 hr159) (args0)) rfl ?_
 rintro _ M160 _ hle161 ⟨_, ⟨rfl, rfl⟩, rfl⟩
 have h0_10 := h0_10.mono hle161
 refine WL.a0 ?_
 refine Pa (.bool r158) rfl rfl ?_
 refine Nt ?_
 refine WC.ret ?_
 refine WQ.drop ?_
 refine WQ.drop ?_
 exact WQ.returnsF h [] rfl (results1 rfl rfl) (((((hle24.trans hle37).trans hle70).trans hle95).trans hle128).trans hle161) ⟨rfl, rfl⟩


end Go.Proofs.Ytjgnbbakamellaa.G
