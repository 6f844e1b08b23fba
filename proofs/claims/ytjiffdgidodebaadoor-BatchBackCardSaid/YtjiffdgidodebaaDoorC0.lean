/- Go functions: what they come to, and that they do. Printed by a program of the session (gen). -/
import Derived.Test.YtjiffdgidodebaaDoorCF
import Derived.Test.YtjiffdgidodebaaDoorKShar2
import Derived.Test.YtjiffdgidodebaaDoorKConv
set_option linter.unusedVariables false
set_option linter.unusedSimpArgs false
set_option maxHeartbeats 8000000
set_option maxRecDepth 100000
namespace Go.Proofs.YtjiffdgidodebaaDoor.G
open Go Go.KK

noncomputable def f_ref05_Short (a0 : T_api_Record) : Option Bool :=
  (((if (decide ((a0.Name.size : Int) ≤ (400 : Int))) = true then (if (decide ((a0.Key.size : Int) ≤ (400 : Int))) = true then (if (decide ((a0.Value.size : Int) ≤ (400 : Int))) = true then (some (decide ((a0.Rack.size : Int) ≤ (400 : Int)))) else (some false)) else (some false)) else (some false)) : Option Bool).bind fun (x22 : Bool) => (((if x22 = true then (if (decide ((a0.Ids.length : Int) ≤ (60 : Int))) = true then (if (decide ((a0.Isr.length : Int) ≤ (60 : Int))) = true then (if (decide ((a0.Add.length : Int) ≤ (60 : Int))) = true then (some (decide ((a0.Drop.length : Int) ≤ (60 : Int)))) else (some false)) else (some false)) else (some false)) else (some false)) : Option Bool).bind fun (x27 : Bool) => (some x27)))
def f_ref05_Short_post (a0 : T_api_Record) (v0_14 v0_15 v0_16 v0_17 : Value) : Bool → Value → IM → HL → Prop :=
  fun (r0 : Bool) (v : Value) (M' : IM) (H' : HL) => (.bool r0) = v ∧ H' = []
theorem f_ref05_Short_ok (a0 : T_api_Record) (M : IM) (v0_14 v0_15 v0_16 v0_17 : Value) (h0_14 : RS (Kd.int .i64) M v0_14 a0.Ids) (h0_15 : RS (Kd.int .i64) M v0_15 a0.Isr) (h0_16 : RS (Kd.int .i64) M v0_16 a0.Add) (h0_17 : RS (Kd.int .i64) M v0_17 a0.Drop) (res : Bool) (h : f_ref05_Short a0 = some res) :
    Tri Tryd.prog 47 #[(a106_ a0 v0_14 v0_15 v0_16 v0_17)] M [] (f_ref05_Short_post a0 v0_14 v0_15 v0_16 v0_17 res) := by
 unfold f_ref05_Short at h
 refine Tri.enter (fn := Tryd.f47) Tryd.func47 rfl (Nat.le_of_ble_eq_true rfl) ?_
 intro F ρ hρ
 refine Sr ?_
 refine WL.eff (EO.box (cs := (l106 a0 v0_14 v0_15 v0_16 v0_17).toArray) (congrArg Value.cells (asE (a106_ a0 v0_14 v0_15 v0_16 v0_17) (hρ 0)))) rfl ?_
 rintro _ _ _ - ⟨rfl, g21, rfl, rfl⟩
 refine Pa (.bool false) rfl rfl ?_
 refine Nt ?_
 obtain ⟨x22, hj23, h⟩ := bnd h
 refine WC.joinF (fun (x22 : Bool) ρ' M' H' => M.le M' ∧ [(g21, .cells (l106 a0 v0_14 v0_15 v0_16 v0_17).toArray 106 (0, 0))] :: F = H' ∧ ρ' 1 = (pt g21 0) ∧ ρ' 3 = (.bool x22)) x22 ?_ ?_
 have h323 := h
 have h := hj23
 refine WC.region ?_
 refine Pu (pt g21 10) (PO.fieldAddr fo106_10 rfl rfl) rfl ?_
 refine Pu (.string a0.Name) (PO.loadB 0 pl9 rfl rfl rfl) rfl ?_
 refine Pu (.int .i64 (a0.Name.size : Int)) (PO.lenStr Tryd.underlying9 rfl) rfl ?_
 refine Pu (.bool (decide ((a0.Name.size : Int) ≤ (400 : Int)))) (PO.leq rfl rfl) rfl ?_
 refine Pm (.bool (decide ((a0.Name.size : Int) ≤ (400 : Int)))) rfl rfl ?_
 rcases Bool.eq_false_or_eq_true (decide ((a0.Name.size : Int) ≤ (400 : Int))) with hb24 | hb24
 have h := ite_t hb24 h
 refine On 8 rfl rfl hb24 ?_
 refine Pu (pt g21 11) (PO.fieldAddr fo106_11 rfl rfl) rfl ?_
 refine On 8 rfl rfl hb24 ?_
 refine Pu (.string a0.Key) (PO.loadB 0 pl9 rfl rfl rfl) rfl ?_
 refine On 8 rfl rfl hb24 ?_
 refine Pu (.int .i64 (a0.Key.size : Int)) (PO.lenStr Tryd.underlying9 rfl) rfl ?_
 refine On 8 rfl rfl hb24 ?_
 refine Pu (.bool (decide ((a0.Key.size : Int) ≤ (400 : Int)))) (PO.leq rfl rfl) rfl ?_
 refine Pu (.bool (decide ((a0.Key.size : Int) ≤ (400 : Int)))) (PO.pickT rfl hb24 rfl) rfl ?_
 refine Pm (.bool (decide ((a0.Key.size : Int) ≤ (400 : Int)))) rfl rfl ?_
 rcases Bool.eq_false_or_eq_true (decide ((a0.Key.size : Int) ≤ (400 : Int))) with hb25 | hb25
 have h := ite_t hb25 h
 refine On 14 rfl rfl hb25 ?_
 refine Pu (pt g21 12) (PO.fieldAddr fo106_12 rfl rfl) rfl ?_
 refine On 14 rfl rfl hb25 ?_
 refine Pu (.string a0.Value) (PO.loadB 0 pl9 rfl rfl rfl) rfl ?_
 refine On 14 rfl rfl hb25 ?_
 refine Pu (.int .i64 (a0.Value.size : Int)) (PO.lenStr Tryd.underlying9 rfl) rfl ?_
 refine On 14 rfl rfl hb25 ?_
 refine Pu (.bool (decide ((a0.Value.size : Int) ≤ (400 : Int)))) (PO.leq rfl rfl) rfl ?_
 refine Pu (.bool (decide ((a0.Value.size : Int) ≤ (400 : Int)))) (PO.pickT rfl hb25 rfl) rfl ?_
 refine Pm (.bool (decide ((a0.Value.size : Int) ≤ (400 : Int)))) rfl rfl ?_
 rcases Bool.eq_false_or_eq_true (decide ((a0.Value.size : Int) ≤ (400 : Int))) with hb26 | hb26
 have h := ite_t hb26 h
 refine On 20 rfl rfl hb26 ?_
 refine Pu (pt g21 13) (PO.fieldAddr fo106_13 rfl rfl) rfl ?_
 refine On 20 rfl rfl hb26 ?_
 refine Pu (.string a0.Rack) (PO.loadB 0 pl9 rfl rfl rfl) rfl ?_
 refine On 20 rfl rfl hb26 ?_
 refine Pu (.int .i64 (a0.Rack.size : Int)) (PO.lenStr Tryd.underlying9 rfl) rfl ?_
 refine On 20 rfl rfl hb26 ?_
 refine Pu (.bool (decide ((a0.Rack.size : Int) ≤ (400 : Int)))) (PO.leq rfl rfl) rfl ?_
 refine Pu (.bool (decide ((a0.Rack.size : Int) ≤ (400 : Int)))) (PO.pickT rfl hb26 rfl) rfl ?_
 refine Pa (.bool (decide ((a0.Rack.size : Int) ≤ (400 : Int)))) rfl rfl ?_
 refine WL.nil ?_
 obtain rfl := Option.some.inj h
 refine WQ.thenJ ?_
 exact ⟨(IM.le.refl _), rfl, rfl, rfl⟩
 have h := ite_f hb26 h
 iterate 4 refine Of 20 rfl rfl hb26 rfl ?_
 refine Pu (.bool false) (PO.pickF rfl hb26 rfl) rfl ?_
 refine Pa (.bool false) rfl rfl ?_
 refine WL.nil ?_
 obtain rfl := Option.some.inj h
 refine WQ.thenJ ?_
 exact ⟨(IM.le.refl _), rfl, rfl, rfl⟩
 have h := ite_f hb25 h
 iterate 4 refine Of 14 rfl rfl hb25 rfl ?_
 refine Pu (.bool false) (PO.pickF rfl hb25 rfl) rfl ?_
 refine Pm (.bool false) rfl rfl ?_
 iterate 4 refine Of 20 rfl rfl rfl rfl ?_
 refine Pu (.bool false) (PO.pickF rfl rfl rfl) rfl ?_
 refine Pa (.bool false) rfl rfl ?_
 refine WL.nil ?_
 obtain rfl := Option.some.inj h
 refine WQ.thenJ ?_
 exact ⟨(IM.le.refl _), rfl, rfl, rfl⟩
 have h := ite_f hb24 h
 iterate 4 refine Of 8 rfl rfl hb24 rfl ?_
 refine Pu (.bool false) (PO.pickF rfl hb24 rfl) rfl ?_
 refine Pm (.bool false) rfl rfl ?_
 iterate 4 refine Of 14 rfl rfl rfl rfl ?_
 refine Pu (.bool false) (PO.pickF rfl rfl rfl) rfl ?_
 refine Pm (.bool false) rfl rfl ?_
 iterate 4 refine Of 20 rfl rfl rfl rfl ?_
 refine Pu (.bool false) (PO.pickF rfl rfl rfl) rfl ?_
 refine Pa (.bool false) rfl rfl ?_
 refine WL.nil ?_
 obtain rfl := Option.some.inj h
 refine WQ.thenJ ?_
 exact ⟨(IM.le.refl _), rfl, rfl, rfl⟩
 rintro ρ23 M23 H23 ⟨hle23, rfl, hs23_1, hs23_3⟩
 have h0_14 := h0_14.mono hle23
 have h0_15 := h0_15.mono hle23
 have h0_16 := h0_16.mono hle23
 have h0_17 := h0_17.mono hle23
 obtain ⟨x27, hj28, h⟩ := bnd h
 refine WC.joinF (fun (x27 : Bool) ρ' M' H' => M23.le M' ∧ [(g21, .cells (l106 a0 v0_14 v0_15 v0_16 v0_17).toArray 106 (0, 0))] :: F = H' ∧ ρ' 2 = (.bool x27)) x27 ?_ ?_
 have h328 := h
 have h := hj28
 refine WC.region ?_
 refine Pm (.bool x22) hs23_3 rfl ?_
 refine Pm (.bool x22) rfl rfl ?_
 rcases Bool.eq_false_or_eq_true (x22) with hb29 | hb29
 have h := ite_t hb29 h
 refine On 27 rfl rfl hb29 ?_
 refine Pu (pt g21 14) (PO.fieldAddr fo106_14 hs23_1 rfl) rfl ?_
 refine On 27 rfl rfl hb29 ?_
 refine Pu v0_14 (PO.loadB 0 pl95 rfl rfl rfl) rfl ?_
 refine On 27 rfl rfl hb29 ?_
 refine Pu (.int .i64 (a0.Ids.length : Int)) (PO.lenS Tryd.underlying95 rfl h0_14.len) rfl ?_
 refine On 27 rfl rfl hb29 ?_
 refine Pu (.bool (decide ((a0.Ids.length : Int) ≤ (60 : Int)))) (PO.leq rfl rfl) rfl ?_
 refine Pu (.bool (decide ((a0.Ids.length : Int) ≤ (60 : Int)))) (PO.pickT rfl hb29 rfl) rfl ?_
 refine Pm (.bool (decide ((a0.Ids.length : Int) ≤ (60 : Int)))) rfl rfl ?_
 rcases Bool.eq_false_or_eq_true (decide ((a0.Ids.length : Int) ≤ (60 : Int))) with hb30 | hb30
 have h := ite_t hb30 h
 refine On 33 rfl rfl hb30 ?_
 refine Pu (pt g21 15) (PO.fieldAddr fo106_15 hs23_1 rfl) rfl ?_
 refine On 33 rfl rfl hb30 ?_
 refine Pu v0_15 (PO.loadB 0 pl95 rfl rfl rfl) rfl ?_
 refine On 33 rfl rfl hb30 ?_
 refine Pu (.int .i64 (a0.Isr.length : Int)) (PO.lenS Tryd.underlying95 rfl h0_15.len) rfl ?_
 refine On 33 rfl rfl hb30 ?_
 refine Pu (.bool (decide ((a0.Isr.length : Int) ≤ (60 : Int)))) (PO.leq rfl rfl) rfl ?_
 refine Pu (.bool (decide ((a0.Isr.length : Int) ≤ (60 : Int)))) (PO.pickT rfl hb30 rfl) rfl ?_
 refine Pm (.bool (decide ((a0.Isr.length : Int) ≤ (60 : Int)))) rfl rfl ?_
 rcases Bool.eq_false_or_eq_true (decide ((a0.Isr.length : Int) ≤ (60 : Int))) with hb31 | hb31
 have h := ite_t hb31 h
 refine On 39 rfl rfl hb31 ?_
 refine Pu (pt g21 16) (PO.fieldAddr fo106_16 hs23_1 rfl) rfl ?_
 refine On 39 rfl rfl hb31 ?_
 refine Pu v0_16 (PO.loadB 0 pl95 rfl rfl rfl) rfl ?_
 refine On 39 rfl rfl hb31 ?_
 refine Pu (.int .i64 (a0.Add.length : Int)) (PO.lenS Tryd.underlying95 rfl h0_16.len) rfl ?_
 refine On 39 rfl rfl hb31 ?_
 refine Pu (.bool (decide ((a0.Add.length : Int) ≤ (60 : Int)))) (PO.leq rfl rfl) rfl ?_
 refine Pu (.bool (decide ((a0.Add.length : Int) ≤ (60 : Int)))) (PO.pickT rfl hb31 rfl) rfl ?_
 refine Pm (.bool (decide ((a0.Add.length : Int) ≤ (60 : Int)))) rfl rfl ?_
 rcases Bool.eq_false_or_eq_true (decide ((a0.Add.length : Int) ≤ (60 : Int))) with hb32 | hb32
 have h := ite_t hb32 h
 refine On 45 rfl rfl hb32 ?_
 refine Pu (pt g21 17) (PO.fieldAddr fo106_17 hs23_1 rfl) rfl ?_
 refine On 45 rfl rfl hb32 ?_
 refine Pu v0_17 (PO.loadB 0 pl95 rfl rfl rfl) rfl ?_
 refine On 45 rfl rfl hb32 ?_
 refine Pu (.int .i64 (a0.Drop.length : Int)) (PO.lenS Tryd.underlying95 rfl h0_17.len) rfl ?_
 refine On 45 rfl rfl hb32 ?_
 refine Pu (.bool (decide ((a0.Drop.length : Int) ≤ (60 : Int)))) (PO.leq rfl rfl) rfl ?_
 refine Pu (.bool (decide ((a0.Drop.length : Int) ≤ (60 : Int)))) (PO.pickT rfl hb32 rfl) rfl ?_
 refine Pa (.bool (decide ((a0.Drop.length : Int) ≤ (60 : Int)))) rfl rfl ?_
 refine WL.nil ?_
 obtain rfl := Option.some.inj h
 refine WQ.thenJ ?_
 exact ⟨(IM.le.refl _), rfl, rfl⟩
 have h := ite_f hb32 h
 iterate 4 refine Of 45 rfl rfl hb32 rfl ?_
 refine Pu (.bool false) (PO.pickF rfl hb32 rfl) rfl ?_
 refine Pa (.bool false) rfl rfl ?_
 refine WL.nil ?_
 obtain rfl := Option.some.inj h
 refine WQ.thenJ ?_
 exact ⟨(IM.le.refl _), rfl, rfl⟩
 have h := ite_f hb31 h
 iterate 4 refine Of 39 rfl rfl hb31 rfl ?_
 refine Pu (.bool false) (PO.pickF rfl hb31 rfl) rfl ?_
 refine Pm (.bool false) rfl rfl ?_
 iterate 4 refine Of 45 rfl rfl rfl rfl ?_
 refine Pu (.bool false) (PO.pickF rfl rfl rfl) rfl ?_
 refine Pa (.bool false) rfl rfl ?_
 refine WL.nil ?_
 obtain rfl := Option.some.inj h
 refine WQ.thenJ ?_
 exact ⟨(IM.le.refl _), rfl, rfl⟩
 have h := ite_f hb30 h
 iterate 4 refine Of 33 rfl rfl hb30 rfl ?_
 refine Pu (.bool false) (PO.pickF rfl hb30 rfl) rfl ?_
 refine Pm (.bool false) rfl rfl ?_
 iterate 4 refine Of 39 rfl rfl rfl rfl ?_
 refine Pu (.bool false) (PO.pickF rfl rfl rfl) rfl ?_
 refine Pm (.bool false) rfl rfl ?_
 iterate 4 refine Of 45 rfl rfl rfl rfl ?_
 refine Pu (.bool false) (PO.pickF rfl rfl rfl) rfl ?_
 refine Pa (.bool false) rfl rfl ?_
 refine WL.nil ?_
 obtain rfl := Option.some.inj h
 refine WQ.thenJ ?_
 exact ⟨(IM.le.refl _), rfl, rfl⟩
 have h := ite_f hb29 h
 iterate 4 refine Of 27 rfl rfl hb29 rfl ?_
 refine Pu (.bool false) (PO.pickF rfl hb29 rfl) rfl ?_
 refine Pm (.bool false) rfl rfl ?_
 iterate 4 refine Of 33 rfl rfl rfl rfl ?_
 refine Pu (.bool false) (PO.pickF rfl rfl rfl) rfl ?_
 refine Pm (.bool false) rfl rfl ?_
 iterate 4 refine Of 39 rfl rfl rfl rfl ?_
 refine Pu (.bool false) (PO.pickF rfl rfl rfl) rfl ?_
 refine Pm (.bool false) rfl rfl ?_
 iterate 4 refine Of 45 rfl rfl rfl rfl ?_
 refine Pu (.bool false) (PO.pickF rfl rfl rfl) rfl ?_
 refine Pa (.bool false) rfl rfl ?_
 refine WL.nil ?_
 obtain rfl := Option.some.inj h
 refine WQ.thenJ ?_
 exact ⟨(IM.le.refl _), rfl, rfl⟩
 rintro ρ28 M28 H28 ⟨hle28, rfl, hs28_2⟩
 have h0_14 := h0_14.mono hle28
 have h0_15 := h0_15.mono hle28
 have h0_16 := h0_16.mono hle28
 have h0_17 := h0_17.mono hle28
 refine WC.ret ?_
 refine WQ.drop ?_
 exact WQ.returnsF h [] rfl (results1 rfl hs28_2) (hle23.trans hle28) ⟨rfl, rfl⟩

noncomputable def f_ref06_Short_l0 (a0 : (List T_api_Record)) (s_ : Int) : Option (Int ⊕ (Unit ⊕ Unit)) :=
  match s_ with
  | x24 =>
    (if (decide (x24 < (a0.length : Int))) = true then (grd (0 ≤ x24 ∧ x24 < a0.length) ((f_ref05_Short (rd a0 x24)).bind fun (r33 : Bool) => (if (!r33) = true then (some (Sum.inr (Sum.inr ()))) else (some (Sum.inl (IntKind.i64.wrap (x24 + (1 : Int)))))))) else (some (Sum.inr (Sum.inl ()))))
noncomputable def f_ref06_Short (a0 : (List T_api_Record)) : Option Bool :=
  (if (decide ((80 : Int) < (a0.length : Int))) = true then (some false) else ((((iter (f_ref06_Short_l0 a0) (0 : Int)).bind (Sum.elim (fun _ => (some (Sum.inl ()))) (fun _ => (((some false)).bind fun r => some (Sum.inr r))))) : Option (Unit ⊕ Bool)).bind (Sum.elim (fun _ => (some true)) some)))
def f_ref06_Short_post (a0 : (List T_api_Record)) (v0 : Value) : Bool → Value → IM → HL → Prop :=
  fun (r0 : Bool) (v : Value) (M' : IM) (H' : HL) => (.bool r0) = v ∧ H' = []
theorem f_ref06_Short_ok (a0 : (List T_api_Record)) (M : IM) (v0 : Value) (h0 : RS kd_api_Record M v0 a0) (res : Bool) (h : f_ref06_Short a0 = some res) :
    Tri Tryd.prog 27 #[v0] M [] (f_ref06_Short_post a0 v0 res) := by
 unfold f_ref06_Short at h
 refine Tri.enter (fn := Tryd.f27) Tryd.func27 rfl (Nat.le_of_ble_eq_true rfl) ?_
 intro F ρ hρ
 refine Sr ?_
 refine Pa (.bool false) rfl rfl ?_
 refine Nt ?_
 refine WC.seq ?_
 refine Sr ?_
 refine Pm v0 (hρ 0) rfl ?_
 refine Pu (.int .i64 (a0.length : Int)) (PO.lenS Tryd.underlying64 rfl h0.len) rfl ?_
 refine Pu (.bool (decide ((80 : Int) < (a0.length : Int)))) (PO.gtr rfl rfl) rfl ?_
 refine Nt ?_
 refine WC.cond (b := decide ((80 : Int) < (a0.length : Int))) rfl (fun hb21 => ?_) (fun hb21 => ?_)
 have h := ite_t hb21 h
 refine Sr ?_
 refine Pa (.bool false) rfl rfl ?_
 refine Nt ?_
 refine WC.ret ?_
 refine WQ.thenR ?_
 exact WQ.returnsF h [] rfl (results1 rfl rfl) (IM.le.refl _) ⟨rfl, rfl⟩
 have h := ite_f hb21 h
 refine WC.skip ?_
 refine WQ.thenC ?_
 obtain ⟨j22, hj22, h⟩ := bnd h
 refine WC.joinE (fun (_ : Unit) ρ' M' H' => M.le M' ∧ F = H') j22 ?_ ?_
 have h322 := h
 have h := hj22
 refine Sr ?_
 refine Pa (.int .i64 0) rfl rfl ?_
 refine Nt ?_
 refine WC.block ?_
 obtain ⟨e23, he23, hK23⟩ := bnd h
 clear h
 refine WC.loop he23 (fun (x24 : Int) ρ' M' H' => M.le M' ∧ F = H' ∧ ρ' 0 = v0 ∧ ρ' 3 = (.int .i64 x24)) ?_ ?_
 exact ⟨(IM.le.refl _), rfl, (hρ 0), rfl⟩
 rintro x24 o23 ρ23 M23 H23 h ⟨hle23, rfl, hs23_0, hs23_3⟩
 unfold f_ref06_Short_l0 at h
 have h0 := h0.mono hle23
 refine WC.seq ?_
 refine Sr ?_
 refine Pm (.int .i64 x24) hs23_3 rfl ?_
 refine Pm v0 hs23_0 rfl ?_
 refine Pu (.int .i64 (a0.length : Int)) (PO.lenS Tryd.underlying64 rfl h0.len) rfl ?_
 refine Pu (.bool (decide (x24 < (a0.length : Int)))) (PO.lss rfl rfl) rfl ?_
 refine Nt ?_
 refine WC.cond (b := decide (x24 < (a0.length : Int))) rfl (fun hb25 => ?_) (fun hb25 => ?_)
 have h := ite_t hb25 h
 refine WC.skip ?_
 refine WQ.thenC ?_
 refine WC.seq ?_
 refine WC.block ?_
 refine Sr ?_
 refine Pm v0 hs23_0 rfl ?_
 refine Pm (.int .i64 x24) hs23_3 rfl ?_
 obtain ⟨hg26, h⟩ := grd_i h
 obtain ⟨p27, cs28, hat29, hrc30, hhas31⟩ := h0.at hg26.1 hg26.2 (by decide)
 obtain ⟨vw32_14, vw32_15, vw32_16, vw32_17, rfl, hw32_14, hw32_15, hw32_16, hw32_17⟩ := kd_api_Record_open hrc30
 refine Pu (.pointer (some p27)) (PO.indexAddr (n := a0.length) Tryd.underlying64 sz106 rfl rfl hg26.1 hg26.2 hat29) rfl ?_
 refine Pu (a106_ (rd a0 x24) vw32_14 vw32_15 vw32_16 vw32_17) (PO.loadMA (cs := (l106 (rd a0 x24) vw32_14 vw32_15 vw32_16 vw32_17)) ag106 sz106 rfl hhas31) rfl ?_
 obtain ⟨r33, hr34, h⟩ := bnd h
 refine WL.eff (EO.call0 co47 (f_ref05_Short_ok (rd a0 x24) _ _ _ _ _ hw32_14 hw32_15 hw32_16 hw32_17 r33 hr34) (args1 rfl)) rfl ?_
 rintro _ M35 _ hle36 ⟨_, ⟨rfl, rfl⟩, rfl⟩
 have h0 := h0.mono hle36
 have hhas31 := hhas31.mono hle36
 have hw32_14 := hw32_14.mono hle36
 have hw32_15 := hw32_15.mono hle36
 have hw32_16 := hw32_16.mono hle36
 have hw32_17 := hw32_17.mono hle36
 refine WL.a0 ?_
 refine Pu (.bool (!r33)) (PO.not rfl) rfl ?_
 refine Nt ?_
 refine WC.cond (b := !r33) rfl (fun hb38 => ?_) (fun hb38 => ?_)
 have h := ite_t hb38 h
 refine Sr ?_
 refine Pa (.bool false) rfl rfl ?_
 refine Nt ?_
 refine WC.ret ?_
 refine WQ.blockR ?_
 refine WQ.thenR ?_
 refine WQ.leaveR (Sum.inr ()) (Option.some.inj h).symm (fun heq23 => ?_)
 subst heq23
 have h := (elimR hK23)
 refine WQ.blockR ?_
 refine WQ.thenR ?_
 have h := KK.early h h322
 exact WQ.returnsF h [] rfl (results1 rfl rfl) (hle23.trans hle36) ⟨rfl, rfl⟩
 have h := ite_f hb38 h
 refine WC.skip ?_
 refine WQ.blockN ?_
 refine WQ.thenC ?_
 refine WC.region ?_
 refine Pm (.int .i64 x24) hs23_3 rfl ?_
 refine Pu (.int .i64 (IntKind.i64.wrap (x24 + 1))) (PO.add rfl rfl) rfl ?_
 refine Pa (.int .i64 (IntKind.i64.wrap (x24 + 1))) rfl rfl ?_
 refine WL.nil ?_
 refine WQ.again (IntKind.i64.wrap (x24 + 1)) (Option.some.inj h).symm ?_
 exact ⟨(hle23.trans hle36), rfl, hs23_0, rfl⟩
 have h := ite_f hb25 h
 refine WC.exit ?_
 refine WQ.thenE ?_
 refine WQ.leaveE (Sum.inl ()) (Option.some.inj h).symm (fun heq23 => ?_)
 subst heq23
 have h := elimL hK23
 refine WQ.blockH ?_
 refine WQ.thenFE h ?_
 exact ⟨hle23, rfl⟩
 rintro _ ρ22 M22 H22 rfl ⟨hle22, rfl⟩
 have h := (Sum.elim_inl _ _ _).symm.trans h
 refine Sr ?_
 refine Pa (.bool true) rfl rfl ?_
 refine Nt ?_
 refine WC.ret ?_
 exact WQ.returnsF h [] rfl (results1 rfl rfl) hle22 ⟨rfl, rfl⟩

noncomputable def f_slices_Clone_int_int (a0 : (List Int)) : Option (List Int) :=
  (grd (([] : List Int).length + a0.length ≤ 274877906944) (some (([] : List Int) ++ a0)))
def f_slices_Clone_int_int_post (a0 : (List Int)) (v0 : Value) : (List Int) → Value → IM → HL → Prop :=
  fun (r0 : (List Int)) (v : Value) (M' : IM) (H' : HL) => ∃ vz0 cz0, vz0 = v ∧ H' = [cz0] ∧ OwnS (Kd.int .i64) M' vz0 r0 cz0
theorem f_slices_Clone_int_int_ok (a0 : (List Int)) (M : IM) (v0 : Value) (h0 : RS (Kd.int .i64) M v0 a0) (res : (List Int)) (h : f_slices_Clone_int_int a0 = some res) :
    Tri Tryd.prog 98 #[v0] M [] (f_slices_Clone_int_int_post a0 v0 res) := by
 unfold f_slices_Clone_int_int at h
 refine Tri.enter (fn := Tryd.f98) Tryd.func98 rfl (Nat.le_of_ble_eq_true rfl) ?_
 intro F ρ hρ
 refine Sr ?_
 refine Pa (.slice none 0 0) rfl rfl ?_
 refine Nt ?_
 refine WC.seq ?_
 refine Sr ?_
 refine Pm v0 (hρ 0) rfl ?_
 refine Pu (.bool (nilS v0)) (PO.sliceNil Tryd.underlying95 rfl h0.len rfl) rfl ?_
 refine Nt ?_
 refine WC.cond (b := nilS v0) rfl (fun hb21 => ?_) (fun hb21 => ?_)
 obtain rfl := h0.nilxs (by decide) hb21
 have h := Eq.trans (a := ((some []) : Option (List Int))) (by simp [grd]) h
 refine Sr ?_
 refine Pa (.slice none 0 0) rfl rfl ?_
 refine Nt ?_
 refine WC.ret ?_
 refine WQ.thenR ?_
 refine WQ.e0 ?_
 exact WQ.returnsF h [[]] rfl (results1 rfl rfl) (IM.le.refl _) ⟨(.slice none 0 0), [], rfl, rfl, (OwnS.nil _ _)⟩
 refine WC.skip ?_
 refine WQ.thenC ?_
 refine Sr ?_
 refine WL.eff (EO.buildSliceL (cl := []) Tryd.underlying95 iz3 rfl Parts.nil rfl) rfl ?_
 rintro _ _ _ - ⟨rfl, g23, rfl, rfl⟩
 have h25 : OwnS (Kd.int .i64) M (.slice (some ⟨g23, 0, none⟩) 0 0) [] [(g23, .cells #[] 3 (0, 0))] := OwnS.rows (css := []) Rows.nil rfl rfl
 refine Pm v0 (hρ 0) rfl ?_
 obtain ⟨hg29, h⟩ := grd_i h
 refine WL.eff (EO.append (dd := (Kd.int .i64)) (xs := []) (ys := a0) Tryd.underlying95 Tryd.underlying95 in3 rfl (appB (by decide) hg29) (by decide) rfl rfl h25 (h0.src _)) rfl ?_
 rintro v28 _ _ - ⟨rfl, c26, rfl, h27⟩
 refine Pa v28 rfl rfl ?_
 refine Nt ?_
 refine WC.ret ?_
 exact WQ.returnsF h [c26] rfl (results1 rfl rfl) (IM.le.refl _) ⟨v28, c26, rfl, rfl, h27⟩

noncomputable def f_batch_one (a0 : T_api_Record) : Option T_api_Record :=
  ((f_slices_Clone_int_int a0.Ids).bind fun (r23 : (List Int)) => ((f_slices_Clone_int_int a0.Isr).bind fun (r28 : (List Int)) => ((f_slices_Clone_int_int a0.Add).bind fun (r33 : (List Int)) => ((f_slices_Clone_int_int a0.Drop).bind fun (r38 : (List Int)) => (some (⟨a0.Kind, a0.Broker, a0.Epoch, a0.Topic, a0.Part, a0.Leader, a0.Client, a0.Serial, a0.Code, a0.Flag, a0.Name, a0.Key, a0.Value, a0.Rack, r23, r28, r33, r38⟩ : T_api_Record))))))
def f_batch_one_post (a0 : T_api_Record) (v0_14 v0_15 v0_16 v0_17 : Value) : T_api_Record → Value → IM → HL → Prop :=
  fun (r0 : T_api_Record) (v : Value) (M' : IM) (H' : HL) => ∃ vz0_14 cz0_14 vz0_15 cz0_15 vz0_16 cz0_16 vz0_17 cz0_17, (.agg #[(.int .i64 r0.Kind), (.int .i64 r0.Broker), (.int .i64 r0.Epoch), (.int .i64 r0.Topic), (.int .i64 r0.Part), (.int .i64 r0.Leader), (.int .i64 r0.Client), (.int .i64 r0.Serial), (.int .i64 r0.Code), (.bool r0.Flag), (.string r0.Name), (.string r0.Key), (.string r0.Value), (.string r0.Rack), vz0_14, vz0_15, vz0_16, vz0_17]) = v ∧ H' = [cz0_14, cz0_15, cz0_16, cz0_17] ∧ OwnS (Kd.int .i64) M' vz0_14 r0.Ids cz0_14 ∧ OwnS (Kd.int .i64) M' vz0_15 r0.Isr cz0_15 ∧ OwnS (Kd.int .i64) M' vz0_16 r0.Add cz0_16 ∧ OwnS (Kd.int .i64) M' vz0_17 r0.Drop cz0_17
theorem f_batch_one_ok (a0 : T_api_Record) (M : IM) (v0_14 v0_15 v0_16 v0_17 : Value) (h0_14 : RS (Kd.int .i64) M v0_14 a0.Ids) (h0_15 : RS (Kd.int .i64) M v0_15 a0.Isr) (h0_16 : RS (Kd.int .i64) M v0_16 a0.Add) (h0_17 : RS (Kd.int .i64) M v0_17 a0.Drop) (res : T_api_Record) (h : f_batch_one a0 = some res) :
    Tri Tryd.prog 74 #[(a106_ a0 v0_14 v0_15 v0_16 v0_17)] M [] (f_batch_one_post a0 v0_14 v0_15 v0_16 v0_17 res) := by
 unfold f_batch_one at h
 refine Tri.enter (fn := Tryd.f74) Tryd.func74 rfl (Nat.le_of_ble_eq_true rfl) ?_
 intro F ρ hρ
 refine Sr ?_
 refine WL.eff (EO.box (cs := (l106 a0 v0_14 v0_15 v0_16 v0_17).toArray) (congrArg Value.cells (asE (a106_ a0 v0_14 v0_15 v0_16 v0_17) (hρ 0)))) rfl ?_
 rintro _ _ _ - ⟨rfl, g21, rfl, rfl⟩
 refine WL.eff (EO.alloc ze106 rfl) rfl ?_
 rintro _ _ _ - ⟨rfl, g22, rfl, rfl⟩
 refine Nt ?_
 refine WC.seq ?_
 refine WC.draw [0, 1, 3, 0, 8, 31, 31, 127, 255, 511] (.pure 0 (.pure 1 (.pure 3 (.pure 4 (.alt 2 (.pure 6 (.alt 5 (.alt 7 (.pure 8 (.alt 9 .done .none)) .none) .none)) .none))))) mixed (by kernel_rfl) ?_
 refine Tp (pt g21 14) rfl (PO.fieldAddr fo106_14 rfl rfl) rfl ?_
 refine Tp v0_14 rfl (PO.loadB 1 pl95 rfl rfl rfl) rfl ?_
 refine Tp (pt g21 15) rfl (PO.fieldAddr fo106_15 rfl rfl) rfl ?_
 refine Tp v0_15 rfl (PO.loadB 1 pl95 rfl rfl rfl) rfl ?_
 obtain ⟨r23, hr24, h⟩ := bnd h
 refine WT.alt rfl (EO.call0 co98 (f_slices_Clone_int_int_ok a0.Ids _ _ h0_14 r23 hr24) (args1 rfl)) rfl ?_ ?_
 rintro _ M25 _ hle26 ⟨_, ⟨vq27, cq27, rfl, rfl, hq27⟩, rfl⟩
 have h0_14 := h0_14.mono hle26
 have h0_15 := h0_15.mono hle26
 have h0_16 := h0_16.mono hle26
 have h0_17 := h0_17.mono hle26
 refine ⟨(StabL.st (StabA.of rfl (PO.loadB 2 pl95 rfl rfl rfl) rfl) (StabL.st (StabA.of rfl (PO.fieldAddr fo106_15 rfl rfl) rfl) (StabL.anc rfl (StabL.anc rfl trivial)))), ?_⟩
 refine WT.a1 ?_
 refine Tp (pt g21 14) rfl (PO.fieldAddr fo106_14 rfl rfl) rfl ?_
 obtain ⟨r28, hr29, h⟩ := bnd h
 refine WT.alt rfl (EO.call0 co98 (f_slices_Clone_int_int_ok a0.Isr _ _ h0_15 r28 hr29) (args1 rfl)) rfl ?_ ?_
 rintro _ M30 _ hle31 ⟨_, ⟨vq32, cq32, rfl, rfl, hq32⟩, rfl⟩
 have h0_14 := h0_14.mono hle31
 have h0_15 := h0_15.mono hle31
 have hq27 := hq27.mono hle31
 have h0_16 := h0_16.mono hle31
 have h0_17 := h0_17.mono hle31
 refine ⟨(StabL.st (StabA.of rfl (PO.fieldAddr fo106_14 rfl rfl) rfl) (StabL.anc rfl (StabL.anc rfl (StabL.anc rfl (StabL.anc rfl trivial))))), ?_⟩
 refine WT.a1 ?_
 refine WT.f3 ?_
 refine WT.alt rfl (EO.storeL (v := vq27) (vl := [vq27]) (arr' := (l106 a0 vq27 v0_15 v0_16 v0_17)) hq27.cells sz95 rfl rfl (onesOf (Ones.cons (OwnS.one hq27) Ones.nil)) rfl rfl (by kernel_rfl)) rfl ?_ ?_
 rintro _ _ _ - ⟨rfl, rfl⟩
 refine ⟨(StabL.anc rfl (StabL.anc rfl (StabL.anc rfl (StabL.anc rfl (StabL.anc rfl trivial))))), ?_⟩
 refine Tp (pt g21 15) rfl (PO.fieldAddr fo106_15 rfl rfl) rfl ?_
 refine WT.alt rfl (EO.storeL (v := vq32) (vl := [vq32]) (arr' := (l106 a0 vq27 vq32 v0_16 v0_17)) hq32.cells sz95 rfl rfl (onesOf (Ones.cons (OwnS.one hq32) Ones.nil)) rfl rfl (by kernel_rfl)) rfl ?_ ?_
 rintro _ _ _ - ⟨rfl, rfl⟩
 refine ⟨(StabL.anc rfl (StabL.anc rfl (StabL.anc rfl (StabL.anc rfl (StabL.anc rfl (StabL.anc rfl trivial)))))), ?_⟩
 refine WT.fin ?_
 refine WQ.thenC ?_
 refine WC.seq ?_
 refine WC.draw [0, 1, 3, 0, 8, 31, 31, 127, 255, 511] (.pure 0 (.pure 1 (.pure 3 (.pure 4 (.alt 2 (.pure 6 (.alt 5 (.alt 7 (.pure 8 (.alt 9 .done .none)) .none) .none)) .none))))) mixed (by kernel_rfl) ?_
 refine Tp (pt g21 16) rfl (PO.fieldAddr fo106_16 rfl rfl) rfl ?_
 refine Tp v0_16 rfl (PO.loadB 0 pl95 rfl rfl rfl) rfl ?_
 refine Tp (pt g21 17) rfl (PO.fieldAddr fo106_17 rfl rfl) rfl ?_
 refine Tp v0_17 rfl (PO.loadB 0 pl95 rfl rfl rfl) rfl ?_
 obtain ⟨r33, hr34, h⟩ := bnd h
 refine WT.alt rfl (EO.call0 co98 (f_slices_Clone_int_int_ok a0.Add _ _ h0_16 r33 hr34) (args1 rfl)) rfl ?_ ?_
 rintro _ M35 _ hle36 ⟨_, ⟨vq37, cq37, rfl, rfl, hq37⟩, rfl⟩
 have h0_16 := h0_16.mono hle36
 have h0_17 := h0_17.mono hle36
 have hq27 := hq27.mono hle36
 have hq32 := hq32.mono hle36
 refine ⟨(StabL.st (StabA.of rfl (PO.loadB 1 pl95 rfl rfl rfl) rfl) (StabL.st (StabA.of rfl (PO.fieldAddr fo106_17 rfl rfl) rfl) (StabL.anc rfl (StabL.anc rfl trivial)))), ?_⟩
 refine WT.a1 ?_
 refine Tp (pt g21 16) rfl (PO.fieldAddr fo106_16 rfl rfl) rfl ?_
 obtain ⟨r38, hr39, h⟩ := bnd h
 refine WT.alt rfl (EO.call0 co98 (f_slices_Clone_int_int_ok a0.Drop _ _ h0_17 r38 hr39) (args1 rfl)) rfl ?_ ?_
 rintro _ M40 _ hle41 ⟨_, ⟨vq42, cq42, rfl, rfl, hq42⟩, rfl⟩
 have h0_16 := h0_16.mono hle41
 have h0_17 := h0_17.mono hle41
 have hq37 := hq37.mono hle41
 have hq27 := hq27.mono hle41
 have hq32 := hq32.mono hle41
 refine ⟨(StabL.st (StabA.of rfl (PO.fieldAddr fo106_16 rfl rfl) rfl) (StabL.anc rfl (StabL.anc rfl (StabL.anc rfl (StabL.anc rfl trivial))))), ?_⟩
 refine WT.a1 ?_
 refine WT.f2 ?_
 refine WT.alt rfl (EO.storeL (v := vq37) (vl := [vq37]) (arr' := (l106 a0 vq27 vq32 vq37 v0_17)) hq37.cells sz95 rfl rfl (onesOf (Ones.cons (OwnS.one hq37) Ones.nil)) rfl rfl (by kernel_rfl)) rfl ?_ ?_
 rintro _ _ _ - ⟨rfl, rfl⟩
 refine ⟨(StabL.anc rfl (StabL.anc rfl (StabL.anc rfl (StabL.anc rfl (StabL.anc rfl trivial))))), ?_⟩
 refine Tp (pt g21 17) rfl (PO.fieldAddr fo106_17 rfl rfl) rfl ?_
 refine WT.alt rfl (EO.storeL (v := vq42) (vl := [vq42]) (arr' := (l106 a0 vq27 vq32 vq37 vq42)) hq42.cells sz95 rfl rfl (onesOf (Ones.cons (OwnS.one hq42) Ones.nil)) rfl rfl (by kernel_rfl)) rfl ?_ ?_
 rintro _ _ _ - ⟨rfl, rfl⟩
 refine ⟨(StabL.anc rfl (StabL.anc rfl (StabL.anc rfl (StabL.anc rfl (StabL.anc rfl (StabL.anc rfl trivial)))))), ?_⟩
 refine WT.fin ?_
 refine WQ.thenC ?_
 refine Sr ?_
 refine Pu (a106_ a0 vq27 vq32 vq37 vq42) (PO.loadBA (cs := (l106 a0 vq27 vq32 vq37 vq42)) 0 ag106 sz106 rfl rfl rfl) rfl ?_
 refine WL.f5 ?_
 refine WL.eff (EO.storeL (v := (a106_ a0 vq27 vq32 vq37 vq42)) (vl := (l106 a0 vq27 vq32 vq37 vq42)) (arr' := (l106 a0 vq27 vq32 vq37 vq42)) rfl sz106 rfl rfl (onesOf (Ones.cons rfl (Ones.cons rfl (Ones.cons rfl (Ones.cons rfl (Ones.cons rfl (Ones.cons rfl (Ones.cons rfl (Ones.cons rfl (Ones.cons rfl (Ones.cons rfl (Ones.cons rfl (Ones.cons rfl (Ones.cons rfl (Ones.cons rfl (Ones.cons (OwnS.one hq27) (Ones.cons (OwnS.one hq32) (Ones.cons (OwnS.one hq37) (Ones.cons (OwnS.one hq42) Ones.nil))))))))))))))))))) rfl rfl (by kernel_rfl)) rfl ?_
 rintro _ _ _ - ⟨rfl, rfl⟩
 refine Nt ?_
 refine WC.ret ?_
 refine WQ.f1 ?_
 refine WQ.drop ?_
 refine WQ.f1 ?_
 refine WQ.f2 ?_
 refine WQ.f3 ?_
 refine WQ.f4 ?_
 refine WQ.f4 ?_
 exact WQ.returnsD h [cq27, cq32, cq37, cq42] (fun _ hs => hs.drop) (resultsL1 rfl (RV.cellA (cs := (l106 a0 vq27 vq32 vq37 vq42)) 0 ag106 sz106 rfl rfl rfl)) (((hle26.trans hle31).trans hle36).trans hle41) ⟨vq27, cq27, vq32, cq32, vq37, cq37, vq42, cq42, rfl, rfl, hq27, hq32, hq37, hq42⟩
 exact WT.no
 exact WT.no
 exact WT.no
 exact WT.no
 exact WT.no
 exact WT.no
 exact WT.no
 exact WT.no

noncomputable def f_batch_Of_l0 (a2 : (List T_api_Record)) (s_ : (Int × (List T_api_Record))) : Option ((Int × (List T_api_Record)) ⊕ (List T_api_Record)) :=
  match s_ with
  | (x26, x27) =>
    (if (decide (x26 < (a2.length : Int))) = true then (grd (0 ≤ x26 ∧ x26 < a2.length) ((f_batch_one (rd a2 x26)).bind fun (r38 : T_api_Record) => (grd (x27.length + [r38].length ≤ 274877906944) (some (Sum.inl (IntKind.i64.wrap (x26 + (1 : Int)), x27 ++ [r38])))))) else (some (Sum.inr x27)))
noncomputable def f_batch_Of (a0 : Int) (a1 : Int) (a2 : (List T_api_Record)) : Option T_api_Batch :=
  ((((iter (f_batch_Of_l0 a2) ((0 : Int), [])).bind (fun (x28 : (List T_api_Record)) => (some x28))) : Option (List T_api_Record)).bind fun (x23 : (List T_api_Record)) => (some (⟨a0, a1, x23⟩ : T_api_Batch)))
def f_batch_Of_post (a0 : Int) (a1 : Int) (a2 : (List T_api_Record)) (v2 : Value) : T_api_Batch → Value → IM → HL → Prop :=
  fun (r0 : T_api_Batch) (v : Value) (M' : IM) (H' : HL) => ∃ vz0_2 cz0_2, (.agg #[(.int .i64 r0.Term), (.int .i64 r0.Base), vz0_2]) = v ∧ H' = [cz0_2] ∧ OwnS kd_api_Record M' vz0_2 r0.Records cz0_2
theorem f_batch_Of_ok (a0 : Int) (a1 : Int) (a2 : (List T_api_Record)) (M : IM) (v2 : Value) (h2 : RS kd_api_Record M v2 a2) (res : T_api_Batch) (h : f_batch_Of a0 a1 a2 = some res) :
    Tri Tryd.prog 48 #[(.int .i64 a0), (.int .i64 a1), v2] M [] (f_batch_Of_post a0 a1 a2 v2 res) := by
 unfold f_batch_Of at h
 refine Tri.enter (fn := Tryd.f48) Tryd.func48 rfl (Nat.le_of_ble_eq_true rfl) ?_
 intro F ρ hρ
 refine Sr ?_
 refine WL.eff (EO.alloc ze66 rfl) rfl ?_
 rintro _ _ _ - ⟨rfl, g21, rfl, rfl⟩
 refine Ns ?_
 refine Pm (.int .i64 a0) (hρ 0) rfl ?_
 refine Pm (.int .i64 a1) (hρ 1) rfl ?_
 refine Pu (.agg #[(.int .i64 a0), (.int .i64 a1), (.slice none 0 0)]) (PO.buildL (cl := [(.int .i64 a0), (.int .i64 a1), (.slice none 0 0)]) ze66 fp66 (Parts.cons (congrArg Value.cells (show ev _ _ = (.int .i64 a0) from rfl)) (Parts.cons (congrArg Value.cells (show ev _ _ = (.int .i64 a1) from rfl)) Parts.nil)) rfl) rfl ?_
 refine WL.eff (EO.alloc ze66 rfl) rfl ?_
 rintro _ _ _ - ⟨rfl, g22, rfl, rfl⟩
 refine WL.eff (EO.storeL (v := (.agg #[(.int .i64 a0), (.int .i64 a1), (.slice none 0 0)])) (vl := [(.int .i64 a0), (.int .i64 a1), (.slice none 0 0)]) (arr' := [(.int .i64 a0), (.int .i64 a1), (.slice none 0 0)]) rfl sz66 rfl rfl (onesOf (Ones.cons rfl (Ones.cons rfl (Ones.cons rfl Ones.nil)))) rfl rfl rfl) rfl ?_
 rintro _ _ _ - ⟨rfl, rfl⟩
 refine Nt ?_
 obtain ⟨x23, hj24, h⟩ := bnd h
 refine WC.joinF (fun (x23 : (List T_api_Record)) ρ' M' H' => ∃ vx23 cx23, M.le M' ∧ [(g22, .cells #[(.int .i64 a0), (.int .i64 a1), vx23] 66 (0, 0))] :: [(g21, .cells #[(.int .i64 0), (.int .i64 0), (.slice none 0 0)] 66 (0, 0))] :: cx23 :: F = H' ∧ ρ' 6 = (pt g21 0) ∧ ρ' 7 = (pt g22 0) ∧ OwnS kd_api_Record M' vx23 x23 cx23) x23 ?_ ?_
 have h324 := h
 have h := hj24
 refine Sr ?_
 refine Pm v2 (hρ 2) rfl ?_
 refine Pu (.int .i64 (a2.length : Int)) (PO.lenS Tryd.underlying64 rfl h2.len) rfl ?_
 refine Pm (.int .i64 0) rfl rfl ?_
 refine Nt ?_
 refine WC.block ?_
 refine WC.e0 ?_
 refine WC.f2 ?_
 refine WC.f2 ?_
 obtain ⟨e25, he25, hK25⟩ := bnd h
 clear h
 refine WC.loop he25 (fun (p_ : (Int × (List T_api_Record))) ρ' M' H' => match p_ with | (x26, x27) => ∃ vx27 cx27, M.le M' ∧ [(g22, .cells #[(.int .i64 a0), (.int .i64 a1), vx27] 66 (0, 0))] :: [(g21, .cells #[(.int .i64 0), (.int .i64 0), (.slice none 0 0)] 66 (0, 0))] :: cx27 :: F = H' ∧ ρ' 6 = (pt g21 0) ∧ ρ' 7 = (pt g22 0) ∧ ρ' 13 = v2 ∧ ρ' 14 = (.int .i64 (a2.length : Int)) ∧ ρ' 15 = (.int .i64 x26) ∧ OwnS kd_api_Record M' vx27 x27 cx27) ?_ ?_
 exact ⟨(.slice none 0 0), [], (IM.le.refl _), rfl, rfl, rfl, rfl, rfl, rfl, (OwnS.nil _ _)⟩
 rintro ⟨x26, x27⟩ o25 ρ25 M25 H25 h ⟨vx27, cx27, hle25, rfl, hs25_6, hs25_7, hs25_13, hs25_14, hs25_15, hx27⟩
 unfold f_batch_Of_l0 at h
 have h2 := h2.mono hle25
 refine Sr ?_
 refine Pu (.bool (decide (x26 < (a2.length : Int)))) (PO.lss hs25_15 hs25_14) rfl ?_
 refine Nt ?_
 refine WC.seq ?_
 refine WC.cond (b := decide (x26 < (a2.length : Int))) rfl (fun hb29 => ?_) (fun hb29 => ?_)
 have h := ite_t hb29 h
 refine WC.skip ?_
 refine WQ.thenC ?_
 refine WC.seq ?_
 refine WC.block ?_
 refine Sr ?_
 obtain ⟨hg30, h⟩ := grd_i h
 obtain ⟨p31, cs32, hat33, hrc34, hhas35⟩ := h2.at hg30.1 hg30.2 (by decide)
 obtain ⟨vw36_14, vw36_15, vw36_16, vw36_17, rfl, hw36_14, hw36_15, hw36_16, hw36_17⟩ := kd_api_Record_open hrc34
 refine Pu (.pointer (some p31)) (PO.indexAddr (n := a2.length) Tryd.underlying64 sz106 hs25_13 hs25_15 hg30.1 hg30.2 hat33) rfl ?_
 refine Pu (a106_ (rd a2 x26) vw36_14 vw36_15 vw36_16 vw36_17) (PO.loadMA (cs := (l106 (rd a2 x26) vw36_14 vw36_15 vw36_16 vw36_17)) ag106 sz106 rfl hhas35) rfl ?_
 refine WL.eff (EO.alloc ze106 rfl) rfl ?_
 rintro _ _ _ - ⟨rfl, g37, rfl, rfl⟩
 refine WL.eff (EO.storeL (v := (a106_ (rd a2 x26) vw36_14 vw36_15 vw36_16 vw36_17)) (vl := (l106 (rd a2 x26) vw36_14 vw36_15 vw36_16 vw36_17)) (arr' := (l106 (rd a2 x26) vw36_14 vw36_15 vw36_16 vw36_17)) rfl sz106 rfl rfl (onesOf (Ones.cons rfl (Ones.cons rfl (Ones.cons rfl (Ones.cons rfl (Ones.cons rfl (Ones.cons rfl (Ones.cons rfl (Ones.cons rfl (Ones.cons rfl (Ones.cons rfl (Ones.cons rfl (Ones.cons rfl (Ones.cons rfl (Ones.cons rfl (Ones.cons (RS.one hw36_14) (Ones.cons (RS.one hw36_15) (Ones.cons (RS.one hw36_16) (Ones.cons (RS.one hw36_17) Ones.nil))))))))))))))))))) rfl rfl (by kernel_rfl)) rfl ?_
 rintro _ _ _ - ⟨rfl, rfl⟩
 refine Nt ?_
 refine WC.draw [0, 1, 0, 4, 12, 31, 63, 127] (.pure 0 (.pure 1 (.pure 2 (.alt 3 (.alt 4 (.alt 5 (.pure 6 (.alt 7 .done .none)) .none) .none) .none)))) mixed (by kernel_rfl) ?_
 refine Tp (pt g22 2) rfl (PO.fieldAddr fo66_2 hs25_7 rfl) rfl ?_
 refine Tp vx27 rfl (PO.loadB 1 pl64 rfl rfl rfl) rfl ?_
 refine Tp (a106_ (rd a2 x26) vw36_14 vw36_15 vw36_16 vw36_17) rfl (PO.loadBA (cs := (l106 (rd a2 x26) vw36_14 vw36_15 vw36_16 vw36_17)) 0 ag106 sz106 rfl rfl rfl) rfl ?_
 obtain ⟨r38, hr39, h⟩ := bnd h
 refine WT.alt rfl (EO.call0 co74 (f_batch_one_ok (rd a2 x26) _ _ _ _ _ hw36_14 hw36_15 hw36_16 hw36_17 r38 hr39) (args1 rfl)) rfl ?_ ?_
 rintro _ M40 _ hle41 ⟨_, ⟨vq42_14, cq42_14, vq42_15, cq42_15, vq42_16, cq42_16, vq42_17, cq42_17, rfl, rfl, hq42_14, hq42_15, hq42_16, hq42_17⟩, rfl⟩
 have h2 := h2.mono hle41
 have hx27 := hx27.mono hle41
 have hw36_14 := hw36_14.mono hle41
 have hw36_15 := hw36_15.mono hle41
 have hw36_16 := hw36_16.mono hle41
 have hw36_17 := hw36_17.mono hle41
 refine ⟨(StabL.anc rfl (StabL.st (StabA.of rfl (PO.loadB 5 pl64 rfl rfl rfl) rfl) (StabL.st (StabA.of rfl (PO.fieldAddr fo66_2 hs25_7 rfl) rfl) trivial))), ?_⟩
 refine WT.a4 ?_
 refine WT.know (fun _ hs => hq42_14.rs hs) (fun hf47 => ?_)
 refine WT.freeze (fun hle46 => ?_)
 have h2 := h2.mono hle46
 have hx27 := hx27.mono hle46
 have hw36_14 := hw36_14.mono hle46
 have hw36_15 := hw36_15.mono hle46
 have hw36_16 := hw36_16.mono hle46
 have hw36_17 := hw36_17.mono hle46
 have hq42_15 := hq42_15.mono hle46
 have hq42_16 := hq42_16.mono hle46
 have hq42_17 := hq42_17.mono hle46
 refine WT.know (fun _ hs => hq42_15.rs hs) (fun hf52 => ?_)
 refine WT.freeze (fun hle51 => ?_)
 have h2 := h2.mono hle51
 have hx27 := hx27.mono hle51
 have hw36_14 := hw36_14.mono hle51
 have hw36_15 := hw36_15.mono hle51
 have hw36_16 := hw36_16.mono hle51
 have hw36_17 := hw36_17.mono hle51
 have hf47 := hf47.mono hle51
 have hq42_16 := hq42_16.mono hle51
 have hq42_17 := hq42_17.mono hle51
 refine WT.know (fun _ hs => hq42_16.rs hs) (fun hf57 => ?_)
 refine WT.freeze (fun hle56 => ?_)
 have h2 := h2.mono hle56
 have hx27 := hx27.mono hle56
 have hw36_14 := hw36_14.mono hle56
 have hw36_15 := hw36_15.mono hle56
 have hw36_16 := hw36_16.mono hle56
 have hw36_17 := hw36_17.mono hle56
 have hf47 := hf47.mono hle56
 have hf52 := hf52.mono hle56
 have hq42_17 := hq42_17.mono hle56
 refine WT.know (fun _ hs => hq42_17.rs hs) (fun hf62 => ?_)
 refine WT.freeze (fun hle61 => ?_)
 have h2 := h2.mono hle61
 have hx27 := hx27.mono hle61
 have hw36_14 := hw36_14.mono hle61
 have hw36_15 := hw36_15.mono hle61
 have hw36_16 := hw36_16.mono hle61
 have hw36_17 := hw36_17.mono hle61
 have hf47 := hf47.mono hle61
 have hf52 := hf52.mono hle61
 have hf57 := hf57.mono hle61
 refine WT.alt rfl (EO.buildSliceL (cl := (l106 r38 vq42_14 vq42_15 vq42_16 vq42_17)) Tryd.underlying64 iz106 rfl (Parts.cons (congrArg Value.cells (show ev _ _ = (a106_ r38 vq42_14 vq42_15 vq42_16 vq42_17) from rfl)) Parts.nil) rfl) rfl ?_ ?_
 rintro _ _ _ - ⟨rfl, g63, rfl, rfl⟩
 have h65 : OwnS kd_api_Record ((((M40.add cq42_14).add cq42_15).add cq42_16).add cq42_17) (.slice (some ⟨g63, 0, none⟩) 1 1) [r38] [(g63, .cells (l106 r38 vq42_14 vq42_15 vq42_16 vq42_17).toArray 106 (0, 0))] := OwnS.rows (css := [(l106 r38 vq42_14 vq42_15 vq42_16 vq42_17)]) (Rows.cons (kd_api_Record_mk (x := r38) hf47 hf52 hf57 hf62) Rows.nil) rfl rfl
 refine ⟨(StabL.anc rfl (StabL.st (StabA.of rfl (PO.loadB 2 pl64 rfl rfl rfl) rfl) (StabL.st (StabA.of rfl (PO.fieldAddr fo66_2 hs25_7 rfl) rfl) trivial))), ?_⟩
 obtain ⟨hg69, h⟩ := grd_i h
 refine WT.f4 ?_
 refine WT.alt rfl (EO.append (dd := kd_api_Record) (xs := x27) (ys := [r38]) Tryd.underlying64 Tryd.underlying64 in106 rfl (appB (by decide) hg69) (by decide) rfl rfl hx27 (h65.src 1 rfl)) rfl ?_ ?_
 rintro v68 _ _ - ⟨rfl, c66, rfl, h67⟩
 refine ⟨(StabL.anc rfl (StabL.anc rfl (StabL.anc rfl trivial))), ?_⟩
 refine Tp (pt g22 2) rfl (PO.fieldAddr fo66_2 hs25_7 rfl) rfl ?_
 refine WT.f3 ?_
 refine WT.alt rfl (EO.storeL (v := v68) (vl := [v68]) (arr' := [(.int .i64 a0), (.int .i64 a1), v68]) h67.cells sz64 rfl rfl (onesOf (Ones.cons (OwnS.one h67) Ones.nil)) rfl rfl rfl) rfl ?_ ?_
 rintro _ _ _ - ⟨rfl, rfl⟩
 refine ⟨(StabL.anc rfl (StabL.anc rfl (StabL.anc rfl (StabL.anc rfl trivial)))), ?_⟩
 refine WT.fin ?_
 refine WQ.blockN ?_
 refine WQ.thenC ?_
 refine WC.region ?_
 refine Pu (.int .i64 (IntKind.i64.wrap (x26 + 1))) (PO.add hs25_15 rfl) rfl ?_
 refine Pm (.int .i64 (IntKind.i64.wrap (x26 + 1))) rfl rfl ?_
 refine WL.nil ?_
 refine WQ.f2 ?_
 refine WQ.drop ?_
 refine WQ.f2 ?_
 refine WQ.drop ?_
 refine WQ.f1 ?_
 refine WQ.f2 ?_
 refine WQ.f2 ?_
 refine WQ.again (IntKind.i64.wrap (x26 + 1), x27 ++ [r38]) (Option.some.inj h).symm ?_
 exact ⟨v68, c66, (((((hle25.trans hle41).trans hle46).trans hle51).trans hle56).trans hle61), rfl, hs25_6, hs25_7, hs25_13, hs25_14, rfl, h67⟩
 exact WT.no
 exact WT.no
 exact WT.no
 exact WT.no
 have h := ite_f hb29 h
 refine WC.exit ?_
 refine WQ.thenE ?_
 refine WQ.leaveE x27 (Option.some.inj h).symm (fun heq25 => ?_)
 subst heq25
 have h := hK25
 refine WQ.blockH ?_
 obtain rfl := Option.some.inj h
 refine WQ.thenJ ?_
 exact ⟨vx27, cx27, hle25, rfl, hs25_6, hs25_7, hx27⟩
 rintro ρ24 M24 H24 ⟨vx23, cx23, hle24, rfl, hs24_6, hs24_7, hx23⟩
 refine Sr ?_
 refine Pu (.agg #[(.int .i64 a0), (.int .i64 a1), vx23]) (PO.loadBA (cs := [(.int .i64 a0), (.int .i64 a1), vx23]) 0 ag66 sz66 hs24_7 rfl rfl) rfl ?_
 refine WL.f1 ?_
 refine WL.eff (EO.storeL (v := (.agg #[(.int .i64 a0), (.int .i64 a1), vx23])) (vl := [(.int .i64 a0), (.int .i64 a1), vx23]) (arr' := [(.int .i64 a0), (.int .i64 a1), vx23]) rfl sz66 hs24_6 rfl (onesOf (Ones.cons rfl (Ones.cons rfl (Ones.cons (OwnS.one hx23) Ones.nil)))) rfl rfl rfl) rfl ?_
 rintro _ _ _ - ⟨rfl, rfl⟩
 refine Nt ?_
 refine WC.ret ?_
 refine WQ.f1 ?_
 refine WQ.drop ?_
 exact WQ.returnsD h [cx23] (fun _ hs => hs.drop) (resultsL1 rfl (RV.cellA (cs := [(.int .i64 a0), (.int .i64 a1), vx23]) 0 ag66 sz66 hs24_6 rfl rfl)) hle24 ⟨vx23, cx23, rfl, rfl, hx23⟩

noncomputable def f_fault_New (a0 : ByteArray) (a1 : Int) (a2 : Int) : Option GErr :=
  (some (GErr.fault a0 a1 (GErr.code a2)))
def f_fault_New_post (a0 : ByteArray) (a1 : Int) (a2 : Int) : GErr → Value → IM → HL → Prop :=
  fun (r0 : GErr) (v : Value) (M' : IM) (H' : HL) => (GV r0) = v ∧ H' = []
theorem f_fault_New_ok (a0 : ByteArray) (a1 : Int) (a2 : Int) (M : IM) (res : GErr) (h : f_fault_New a0 a1 a2 = some res) :
    Tri Tryd.prog 37 #[(.string a0), (.int .i64 a1), (.int .i64 a2)] M [] (f_fault_New_post a0 a1 a2 res) := by
 unfold f_fault_New at h
 refine Tri.enter (fn := Tryd.f37) Tryd.func37 rfl (Nat.le_of_ble_eq_true rfl) ?_
 intro F ρ hρ
 refine Sr ?_
 refine Pa (GV GErr.nil) rfl rfl ?_
 refine Ns ?_
 refine Pm (.string a0) (hρ 0) rfl ?_
 refine Pm (.int .i64 a1) (hρ 1) rfl ?_
 refine Pm (.int .i64 a2) (hρ 2) rfl ?_
 refine Pu (GV (GErr.code a2)) (PO.makeInterface cc47 rfl) rfl ?_
 refine Pu (.agg #[(.string a0), (.int .i64 a1), (GV (GErr.code a2))]) (PO.buildL (cl := [(.string a0), (.int .i64 a1), (GV (GErr.code a2))]) ze89 fp89 (Parts.cons (congrArg Value.cells (show ev _ _ = (.string a0) from rfl)) (Parts.cons (congrArg Value.cells (show ev _ _ = (.int .i64 a1) from rfl)) (Parts.cons ((congrArg Value.cells (show ev _ _ = (GV (GErr.code a2)) from rfl)).trans (GErr.val_cells _ _ _ _)) Parts.nil))) rfl) rfl ?_
 refine Pu (GV (GErr.fault a0 a1 (GErr.code a2))) (PO.makeInterface cc89 rfl) rfl ?_
 refine Pa (GV (GErr.fault a0 a1 (GErr.code a2))) rfl rfl ?_
 refine Nt ?_
 refine WC.ret ?_
 exact WQ.returnsF h [] rfl (results1 rfl rfl) (IM.le.refl _) ⟨rfl, rfl⟩

noncomputable def f_record_about (a0 : Int) : Option Int :=
  (if (decide (a0 = (2 : Int))) = true then (some (1027 : Int)) else (((if (decide (a0 = (3 : Int))) = true then (some (decide (a0 = (3 : Int)))) else (if (decide (a0 = (4 : Int))) = true then (some (decide (a0 = (4 : Int)))) else (if (decide (a0 = (5 : Int))) = true then (some (decide (a0 = (5 : Int)))) else (some (decide (a0 = (6 : Int))))))) : Option Bool).bind fun (x22 : Bool) => (if x22 = true then (some (3 : Int)) else (if (decide (a0 = (7 : Int))) = true then (some (132 : Int)) else (if (decide (a0 = (8 : Int))) = true then (some (6172 : Int)) else (if (decide (a0 = (9 : Int))) = true then (some (14366 : Int)) else (if (decide (a0 = (10 : Int))) = true then (some (836 : Int)) else (if (decide (a0 = (11 : Int))) = true then (some (4 : Int)) else (if (decide (a0 = (12 : Int))) = true then (some (32 : Int)) else (some (0 : Int)))))))))))
def f_record_about_post (a0 : Int) : Int → Value → IM → HL → Prop :=
  fun (r0 : Int) (v : Value) (M' : IM) (H' : HL) => (.int .i64 r0) = v ∧ H' = []
theorem f_record_about_ok (a0 : Int) (M : IM) (res : Int) (h : f_record_about a0 = some res) :
    Tri Tryd.prog 79 #[(.int .i64 a0)] M [] (f_record_about_post a0 res) := by
 unfold f_record_about at h
 refine Tri.enter (fn := Tryd.f79) Tryd.func79 rfl (Nat.le_of_ble_eq_true rfl) ?_
 intro F ρ hρ
 refine Sr ?_
 refine Pa (.int .i64 0) rfl rfl ?_
 refine Nt ?_
 refine WC.seq ?_
 refine Sr ?_
 refine Pm (.int .i64 a0) (hρ 0) rfl ?_
 refine Nt ?_
 refine WC.block ?_
 refine Sr ?_
 refine Pu (.bool (decide (a0 = 2))) (PO.eql rfl rfl) rfl ?_
 refine Pa (.bool (decide (a0 = 2))) rfl rfl ?_
 refine Nt ?_
 refine WC.cond (b := decide (a0 = 2)) rfl (fun hb21 => ?_) (fun hb21 => ?_)
 have h := ite_t hb21 h
 refine Sr ?_
 refine Pa (.int .i64 1027) rfl rfl ?_
 refine Nt ?_
 refine WC.ret ?_
 refine WQ.blockR ?_
 refine WQ.thenR ?_
 exact WQ.returnsF h [] rfl (results1 rfl rfl) (IM.le.refl _) ⟨rfl, rfl⟩
 have h := ite_f hb21 h
 obtain ⟨x22, hj23, h⟩ := bnd h
 refine WC.joinF (fun (x22 : Bool) ρ' M' H' => M.le M' ∧ F = H' ∧ ρ' 3 = (.int .i64 a0) ∧ ρ' 6 = (.bool x22)) x22 ?_ ?_
 have h323 := h
 have h := hj23
 refine Sr ?_
 refine Pu (.bool (decide (a0 = 3))) (PO.eql rfl rfl) rfl ?_
 refine Pa (.bool (decide (a0 = 3))) rfl rfl ?_
 refine Nt ?_
 refine WC.cond (b := decide (a0 = 3)) rfl (fun hb24 => ?_) (fun hb24 => ?_)
 have h := ite_t hb24 h
 refine WC.skip ?_
 obtain rfl := Option.some.inj h
 refine WQ.thenJ ?_
 exact ⟨(IM.le.refl _), rfl, rfl, rfl⟩
 have h := ite_f hb24 h
 refine Sr ?_
 refine Pu (.bool (decide (a0 = 4))) (PO.eql rfl rfl) rfl ?_
 refine Pa (.bool (decide (a0 = 4))) rfl rfl ?_
 refine Nt ?_
 refine WC.cond (b := decide (a0 = 4)) rfl (fun hb25 => ?_) (fun hb25 => ?_)
 have h := ite_t hb25 h
 refine WC.skip ?_
 obtain rfl := Option.some.inj h
 refine WQ.thenJ ?_
 exact ⟨(IM.le.refl _), rfl, rfl, rfl⟩
 have h := ite_f hb25 h
 refine Sr ?_
 refine Pu (.bool (decide (a0 = 5))) (PO.eql rfl rfl) rfl ?_
 refine Pa (.bool (decide (a0 = 5))) rfl rfl ?_
 refine Nt ?_
 refine WC.cond (b := decide (a0 = 5)) rfl (fun hb26 => ?_) (fun hb26 => ?_)
 have h := ite_t hb26 h
 refine WC.skip ?_
 obtain rfl := Option.some.inj h
 refine WQ.thenJ ?_
 exact ⟨(IM.le.refl _), rfl, rfl, rfl⟩
 have h := ite_f hb26 h
 refine WC.region ?_
 refine Pu (.bool (decide (a0 = 6))) (PO.eql rfl rfl) rfl ?_
 refine Pa (.bool (decide (a0 = 6))) rfl rfl ?_
 refine WL.nil ?_
 obtain rfl := Option.some.inj h
 refine WQ.thenJ ?_
 exact ⟨(IM.le.refl _), rfl, rfl, rfl⟩
 rintro ρ23 M23 H23 ⟨hle23, rfl, hs23_3, hs23_6⟩
 refine WC.cond (b := x22) hs23_6 (fun hb27 => ?_) (fun hb27 => ?_)
 have h := ite_t hb27 h
 refine Sr ?_
 refine Pa (.int .i64 3) rfl rfl ?_
 refine Nt ?_
 refine WC.ret ?_
 refine WQ.blockR ?_
 refine WQ.thenR ?_
 exact WQ.returnsF h [] rfl (results1 rfl rfl) hle23 ⟨rfl, rfl⟩
 have h := ite_f hb27 h
 refine Sr ?_
 refine Pu (.bool (decide (a0 = 7))) (PO.eql hs23_3 rfl) rfl ?_
 refine Pa (.bool (decide (a0 = 7))) rfl rfl ?_
 refine Nt ?_
 refine WC.cond (b := decide (a0 = 7)) rfl (fun hb28 => ?_) (fun hb28 => ?_)
 have h := ite_t hb28 h
 refine Sr ?_
 refine Pa (.int .i64 132) rfl rfl ?_
 refine Nt ?_
 refine WC.ret ?_
 refine WQ.blockR ?_
 refine WQ.thenR ?_
 exact WQ.returnsF h [] rfl (results1 rfl rfl) hle23 ⟨rfl, rfl⟩
 have h := ite_f hb28 h
 refine Sr ?_
 refine Pu (.bool (decide (a0 = 8))) (PO.eql hs23_3 rfl) rfl ?_
 refine Pa (.bool (decide (a0 = 8))) rfl rfl ?_
 refine Nt ?_
 refine WC.cond (b := decide (a0 = 8)) rfl (fun hb29 => ?_) (fun hb29 => ?_)
 have h := ite_t hb29 h
 refine Sr ?_
 refine Pa (.int .i64 6172) rfl rfl ?_
 refine Nt ?_
 refine WC.ret ?_
 refine WQ.blockR ?_
 refine WQ.thenR ?_
 exact WQ.returnsF h [] rfl (results1 rfl rfl) hle23 ⟨rfl, rfl⟩
 have h := ite_f hb29 h
 refine Sr ?_
 refine Pu (.bool (decide (a0 = 9))) (PO.eql hs23_3 rfl) rfl ?_
 refine Pa (.bool (decide (a0 = 9))) rfl rfl ?_
 refine Nt ?_
 refine WC.cond (b := decide (a0 = 9)) rfl (fun hb30 => ?_) (fun hb30 => ?_)
 have h := ite_t hb30 h
 refine Sr ?_
 refine Pa (.int .i64 14366) rfl rfl ?_
 refine Nt ?_
 refine WC.ret ?_
 refine WQ.blockR ?_
 refine WQ.thenR ?_
 exact WQ.returnsF h [] rfl (results1 rfl rfl) hle23 ⟨rfl, rfl⟩
 have h := ite_f hb30 h
 refine Sr ?_
 refine Pu (.bool (decide (a0 = 10))) (PO.eql hs23_3 rfl) rfl ?_
 refine Pa (.bool (decide (a0 = 10))) rfl rfl ?_
 refine Nt ?_
 refine WC.cond (b := decide (a0 = 10)) rfl (fun hb31 => ?_) (fun hb31 => ?_)
 have h := ite_t hb31 h
 refine Sr ?_
 refine Pa (.int .i64 836) rfl rfl ?_
 refine Nt ?_
 refine WC.ret ?_
 refine WQ.blockR ?_
 refine WQ.thenR ?_
 exact WQ.returnsF h [] rfl (results1 rfl rfl) hle23 ⟨rfl, rfl⟩
 have h := ite_f hb31 h
 refine Sr ?_
 refine Pu (.bool (decide (a0 = 11))) (PO.eql hs23_3 rfl) rfl ?_
 refine Pa (.bool (decide (a0 = 11))) rfl rfl ?_
 refine Nt ?_
 refine WC.cond (b := decide (a0 = 11)) rfl (fun hb32 => ?_) (fun hb32 => ?_)
 have h := ite_t hb32 h
 refine Sr ?_
 refine Pa (.int .i64 4) rfl rfl ?_
 refine Nt ?_
 refine WC.ret ?_
 refine WQ.blockR ?_
 refine WQ.thenR ?_
 exact WQ.returnsF h [] rfl (results1 rfl rfl) hle23 ⟨rfl, rfl⟩
 have h := ite_f hb32 h
 refine Sr ?_
 refine Pu (.bool (decide (a0 = 12))) (PO.eql hs23_3 rfl) rfl ?_
 refine Pa (.bool (decide (a0 = 12))) rfl rfl ?_
 refine Nt ?_
 refine WC.cond (b := decide (a0 = 12)) rfl (fun hb33 => ?_) (fun hb33 => ?_)
 have h := ite_t hb33 h
 refine Sr ?_
 refine Pa (.int .i64 32) rfl rfl ?_
 refine Nt ?_
 refine WC.ret ?_
 refine WQ.blockR ?_
 refine WQ.thenR ?_
 exact WQ.returnsF h [] rfl (results1 rfl rfl) hle23 ⟨rfl, rfl⟩
 have h := ite_f hb33 h
 refine WC.skip ?_
 refine WQ.blockN ?_
 refine WQ.thenC ?_
 refine Sr ?_
 refine Pa (.int .i64 0) rfl rfl ?_
 refine Nt ?_
 refine WC.ret ?_
 exact WQ.returnsF h [] rfl (results1 rfl rfl) hle23 ⟨rfl, rfl⟩

noncomputable def f_record_Check_1 (a0 : Int) (a1 : T_api_Record) : Option Bool :=
  ((f_record_about a1.Kind).bind fun (r21 : Int) => (some (decide ((andI .i64 r21 a0) ≠ (0 : Int)))))
def f_record_Check_1_post (a0 : Int) (a1 : T_api_Record) (v1_14 v1_15 v1_16 v1_17 : Value) (g1 : Nat) : Bool → Value → IM → HL → Prop :=
  fun (r0 : Bool) (v : Value) (M' : IM) (H' : HL) => (.bool r0) = v ∧ H' = [[(g1, .cells #[(.int .i64 a1.Kind), (.int .i64 a1.Broker), (.int .i64 a1.Epoch), (.int .i64 a1.Topic), (.int .i64 a1.Part), (.int .i64 a1.Leader), (.int .i64 a1.Client), (.int .i64 a1.Serial), (.int .i64 a1.Code), (.bool a1.Flag), (.string a1.Name), (.string a1.Key), (.string a1.Value), (.string a1.Rack), v1_14, v1_15, v1_16, v1_17] 106 (0, 0))]]
theorem f_record_Check_1_ok (a0 : Int) (a1 : T_api_Record) (M : IM) (v1_14 v1_15 v1_16 v1_17 : Value) (g1 : Nat) (h1_14 : RS (Kd.int .i64) M v1_14 a1.Ids) (h1_15 : RS (Kd.int .i64) M v1_15 a1.Isr) (h1_16 : RS (Kd.int .i64) M v1_16 a1.Add) (h1_17 : RS (Kd.int .i64) M v1_17 a1.Drop) (res : Bool) (h : f_record_Check_1 a0 a1 = some res) :
    Tri Tryd.prog 102 #[(.int .i64 a0), (pt g1 0)] M [[(g1, .cells (l106 a1 v1_14 v1_15 v1_16 v1_17).toArray 106 (0, 0))]] (f_record_Check_1_post a0 a1 v1_14 v1_15 v1_16 v1_17 g1 res) := by
 unfold f_record_Check_1 at h
 refine Tri.enter (fn := Tryd.f102) Tryd.func102 rfl (Nat.le_of_ble_eq_true rfl) ?_
 intro F ρ hρ
 refine Sr ?_
 refine Pa (.bool false) rfl rfl ?_
 refine Ns ?_
 refine Pu (pt g1 0) (PO.fieldAddr fo106_0 (hρ 1) rfl) rfl ?_
 refine Pu (.int .i64 a1.Kind) (PO.loadB 0 pl3 rfl rfl rfl) rfl ?_
 obtain ⟨r21, hr22, h⟩ := bnd h
 refine WL.eff (EO.call0 co79 (f_record_about_ok a1.Kind _ r21 hr22) (args1 rfl)) rfl ?_
 rintro _ M23 _ hle24 ⟨_, ⟨rfl, rfl⟩, rfl⟩
 have h1_14 := h1_14.mono hle24
 have h1_15 := h1_15.mono hle24
 have h1_16 := h1_16.mono hle24
 have h1_17 := h1_17.mono hle24
 refine WL.a0 ?_
 refine Pm (.int .i64 a0) (hρ 0) rfl ?_
 refine Pu (.int .i64 (andI .i64 r21 a0)) (PO.and rfl rfl) rfl ?_
 refine Pu (.bool (decide ((andI .i64 r21 a0) ≠ 0))) (PO.neq rfl rfl) rfl ?_
 refine Pa (.bool (decide ((andI .i64 r21 a0) ≠ 0))) rfl rfl ?_
 refine Nt ?_
 refine WC.ret ?_
 exact WQ.returnsF h [[(g1, .cells (l106 a1 v1_14 v1_15 v1_16 v1_17).toArray 106 (0, 0))]] rfl (results1 rfl rfl) hle24 ⟨rfl, rfl⟩

noncomputable def f_record_number (a0 : Int) (a1 : Bool) (a2 : Int) (a3 : Int) : Option Bool :=
  (if (!a1) = true then (some (decide (a0 = (0 : Int)))) else (((if (decide (a2 ≤ a0)) = true then (some (decide (a0 ≤ a3))) else (some false)) : Option Bool).bind fun (x22 : Bool) => (some x22)))
def f_record_number_post (a0 : Int) (a1 : Bool) (a2 : Int) (a3 : Int) : Bool → Value → IM → HL → Prop :=
  fun (r0 : Bool) (v : Value) (M' : IM) (H' : HL) => (.bool r0) = v ∧ H' = []
theorem f_record_number_ok (a0 : Int) (a1 : Bool) (a2 : Int) (a3 : Int) (M : IM) (res : Bool) (h : f_record_number a0 a1 a2 a3 = some res) :
    Tri Tryd.prog 104 #[(.int .i64 a0), (.bool a1), (.int .i64 a2), (.int .i64 a3)] M [] (f_record_number_post a0 a1 a2 a3 res) := by
 unfold f_record_number at h
 refine Tri.enter (fn := Tryd.f104) Tryd.func104 rfl (Nat.le_of_ble_eq_true rfl) ?_
 intro F ρ hρ
 refine Sr ?_
 refine Pa (.bool false) rfl rfl ?_
 refine Nt ?_
 refine WC.seq ?_
 refine Sr ?_
 refine Pm (.bool a1) (hρ 1) rfl ?_
 refine Pu (.bool (!a1)) (PO.not rfl) rfl ?_
 refine Nt ?_
 refine WC.cond (b := !a1) rfl (fun hb21 => ?_) (fun hb21 => ?_)
 have h := ite_t hb21 h
 refine Sr ?_
 refine Pm (.int .i64 a0) (hρ 0) rfl ?_
 refine Pu (.bool (decide (a0 = 0))) (PO.eql rfl rfl) rfl ?_
 refine Pa (.bool (decide (a0 = 0))) rfl rfl ?_
 refine Nt ?_
 refine WC.ret ?_
 refine WQ.thenR ?_
 exact WQ.returnsF h [] rfl (results1 rfl rfl) (IM.le.refl _) ⟨rfl, rfl⟩
 have h := ite_f hb21 h
 refine WC.skip ?_
 refine WQ.thenC ?_
 obtain ⟨x22, hj23, h⟩ := bnd h
 refine WC.joinF (fun (x22 : Bool) ρ' M' H' => M.le M' ∧ F = H' ∧ ρ' 8 = (.bool x22)) x22 ?_ ?_
 have h323 := h
 have h := hj23
 refine WC.region ?_
 refine Pm (.int .i64 a0) (hρ 0) rfl ?_
 refine Pm (.int .i64 a2) (hρ 2) rfl ?_
 refine Pu (.bool (decide (a2 ≤ a0))) (PO.geq rfl rfl) rfl ?_
 refine Pm (.bool (decide (a2 ≤ a0))) rfl rfl ?_
 rcases Bool.eq_false_or_eq_true (decide (a2 ≤ a0)) with hb24 | hb24
 have h := ite_t hb24 h
 refine On 16 rfl rfl hb24 ?_
 refine Pm (.int .i64 a0) (hρ 0) rfl ?_
 refine On 16 rfl rfl hb24 ?_
 refine Pm (.int .i64 a3) (hρ 3) rfl ?_
 refine On 16 rfl rfl hb24 ?_
 refine Pu (.bool (decide (a0 ≤ a3))) (PO.leq rfl rfl) rfl ?_
 refine Pu (.bool (decide (a0 ≤ a3))) (PO.pickT rfl hb24 rfl) rfl ?_
 refine Pa (.bool (decide (a0 ≤ a3))) rfl rfl ?_
 refine WL.nil ?_
 obtain rfl := Option.some.inj h
 refine WQ.thenJ ?_
 exact ⟨(IM.le.refl _), rfl, rfl⟩
 have h := ite_f hb24 h
 iterate 3 refine Of 16 rfl rfl hb24 rfl ?_
 refine Pu (.bool false) (PO.pickF rfl hb24 rfl) rfl ?_
 refine Pa (.bool false) rfl rfl ?_
 refine WL.nil ?_
 obtain rfl := Option.some.inj h
 refine WQ.thenJ ?_
 exact ⟨(IM.le.refl _), rfl, rfl⟩
 rintro ρ23 M23 H23 ⟨hle23, rfl, hs23_8⟩
 refine WC.ret ?_
 exact WQ.returnsF h [] rfl (results1 rfl hs23_8) hle23 ⟨rfl, rfl⟩


end Go.Proofs.YtjiffdgidodebaaDoor.G
