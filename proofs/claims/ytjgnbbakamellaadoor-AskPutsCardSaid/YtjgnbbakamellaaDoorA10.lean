/- Go functions: what they come to, and that they do. Printed by a program of the session (gen). -/
import Derived.Test.YtjgnbbakamellaaDoorAF
import Derived.Test.YtjgnbbakamellaaDoorA9
import Derived.Test.YtjgnbbakamellaaDoorKConv
import Derived.Test.YtjgnbbakamellaaDoorKEq2
set_option linter.unusedVariables false
set_option linter.unusedSimpArgs false
namespace Go.Proofs.YtjgnbbakamellaaDoor.G
open Go Go.KK

noncomputable def f_ref22_num (a0 : Int) (a1 : Bool) (a2 : Int) : Option Bool :=
  (if a1 = true then (((if (decide ((0 : Int) ≤ a0)) = true then (some (decide (a0 ≤ a2))) else (some false)) : Option Bool).bind fun (x22 : Bool) => (some x22)) else (some (decide (a0 = (0 : Int)))))
def f_ref22_num_post (a0 : Int) (a1 : Bool) (a2 : Int) : Bool → Value → IM → HL → Prop :=
  fun (r0 : Bool) (v : Value) (M' : IM) (H' : HL) => (.bool r0) = v ∧ H' = []
set_option maxHeartbeats 8000000 in
set_option maxRecDepth 100000 in
theorem f_ref22_num_ok (a0 : Int) (a1 : Bool) (a2 : Int) (M : IM) (res : Bool) (h : f_ref22_num a0 a1 a2 = some res) :
    Tri Tryd.prog 63 #[(.int .i64 a0), (.bool a1), (.int .i64 a2)] M [] (f_ref22_num_post a0 a1 a2 res) := by
 unfold f_ref22_num at h
 refine Tri.enter (fn := Tryd.f63) Tryd.func63 rfl (Nat.le_of_ble_eq_true rfl) ?_
 intro F ρ hρ
 refine Sr ?_
 refine Pa (.bool false) rfl rfl ?_
 refine Nt ?_
 refine WC.seq ?_
 refine Sr ?_
 refine Pm (.bool a1) (hρ 1) rfl ?_
 refine Nt ?_
 refine WC.cond (b := a1) rfl (fun hb21 => ?_) (fun hb21 => ?_)
 have h := ite_t hb21 h
 obtain ⟨x22, hj23, h⟩ := bnd h
 refine WC.joinF (fun (x22 : Bool) ρ' M' H' => M.le M' ∧ F = H' ∧ ρ' 6 = (.bool x22)) x22 ?_ ?_
 have h323 := h
 have h := hj23
 refine WC.region ?_
 refine Pm (.int .i64 a0) (hρ 0) rfl ?_
 refine Pu (.bool (decide ((0 : Int) ≤ a0))) (PO.geq rfl rfl) rfl ?_
 refine Pm (.bool (decide ((0 : Int) ≤ a0))) rfl rfl ?_
 rcases Bool.eq_false_or_eq_true (decide ((0 : Int) ≤ a0)) with hb24 | hb24
 have h := ite_t hb24 h
 refine On 10 rfl rfl hb24 ?_
 refine Pm (.int .i64 a0) (hρ 0) rfl ?_
 refine On 10 rfl rfl hb24 ?_
 refine Pm (.int .i64 a2) (hρ 2) rfl ?_
 refine On 10 rfl rfl hb24 ?_
 refine Pu (.bool (decide (a0 ≤ a2))) (PO.leq rfl rfl) rfl ?_
 refine Pu (.bool (decide (a0 ≤ a2))) (PO.pickT rfl hb24 rfl) rfl ?_
 refine Pa (.bool (decide (a0 ≤ a2))) rfl rfl ?_
 refine WL.nil ?_
 obtain rfl := Option.some.inj h
 refine WQ.thenJ ?_
 exact ⟨(IM.le.refl _), rfl, rfl⟩
 have h := ite_f hb24 h
 iterate 3 refine Of 10 rfl rfl hb24 rfl ?_
 refine Pu (.bool false) (PO.pickF rfl hb24 rfl) rfl ?_
 refine Pa (.bool false) rfl rfl ?_
 refine WL.nil ?_
 obtain rfl := Option.some.inj h
 refine WQ.thenJ ?_
 exact ⟨(IM.le.refl _), rfl, rfl⟩
 rintro ρ23 M23 H23 ⟨hle23, rfl, hs23_6⟩
 refine WC.ret ?_
 refine WQ.thenR ?_
 exact WQ.returnsF h [] rfl (results1 rfl hs23_6) hle23 ⟨rfl, rfl⟩
 have h := ite_f hb21 h
 refine WC.skip ?_
 refine WQ.thenC ?_
 refine Sr ?_
 refine Pm (.int .i64 a0) (hρ 0) rfl ?_
 refine Pu (.bool (decide (a0 = (0 : Int)))) (PO.eql rfl rfl) rfl ?_
 refine Pa (.bool (decide (a0 = (0 : Int)))) rfl rfl ?_
 refine Nt ?_
 refine WC.ret ?_
 exact WQ.returnsF h [] rfl (results1 rfl rfl) (IM.le.refl _) ⟨rfl, rfl⟩

noncomputable def f_ref22_said (a0 : T_api_Word) (a1 : Bool) : Option Bool :=
  (if (!a1) = true then (((if (decide (a0.Broker = (0 : Int))) = true then (if (decide (a0.Epoch = (0 : Int))) = true then (if (decide (a0.High = (0 : Int))) = true then (if (!a0.Fence) = true then (some (!a0.Leave)) else (some false)) else (some false)) else (some false)) else (some false)) : Option Bool).bind fun (x23 : Bool) => (some x23)) else (((if (decide ((1 : Int) ≤ a0.Broker)) = true then ((f_ref22_num a0.Broker true (64 : Int)).bind fun (r32 : Bool) => (if r32 = true then ((f_ref22_num a0.Epoch true (1073741824 : Int)).bind fun (r38 : Bool) => (if r38 = true then ((f_ref22_num a0.High true (1073741824 : Int)).bind fun (r44 : Bool) => (some r44)) else (some false))) else (some false))) else (some false)) : Option Bool).bind fun (x29 : Bool) => (some x29)))
def f_ref22_said_post (a0 : T_api_Word) (a1 : Bool) : Bool → Value → IM → HL → Prop :=
  fun (r0 : Bool) (v : Value) (M' : IM) (H' : HL) => (.bool r0) = v ∧ H' = []
set_option maxHeartbeats 8000000 in
set_option maxRecDepth 100000 in
theorem f_ref22_said_ok (a0 : T_api_Word) (a1 : Bool) (M : IM) (res : Bool) (h : f_ref22_said a0 a1 = some res) :
    Tri Tryd.prog 64 #[(a66_ a0), (.bool a1)] M [] (f_ref22_said_post a0 a1 res) := by
 unfold f_ref22_said at h
 refine Tri.enter (fn := Tryd.f64) Tryd.func64 rfl (Nat.le_of_ble_eq_true rfl) ?_
 intro F ρ hρ
 refine Sr ?_
 refine WL.eff (EO.box (cs := (l66 a0).toArray) (congrArg Value.cells (asE (a66_ a0) (hρ 0)))) rfl ?_
 rintro _ _ _ - ⟨rfl, g21, rfl, rfl⟩
 refine Pa (.bool false) rfl rfl ?_
 refine Nt ?_
 refine WC.seq ?_
 refine Sr ?_
 refine Pm (.bool a1) (hρ 1) rfl ?_
 refine Pu (.bool (!a1)) (PO.not rfl) rfl ?_
 refine Nt ?_
 refine WC.cond (b := !a1) rfl (fun hb22 => ?_) (fun hb22 => ?_)
 have h := ite_t hb22 h
 obtain ⟨x23, hj24, h⟩ := bnd h
 refine WC.joinF (fun (x23 : Bool) ρ' M' H' => M.le M' ∧ [(g21, .cells (l66 a0).toArray 66 (0, 0))] :: F = H' ∧ ρ' 4 = (.bool x23)) x23 ?_ ?_
 have h324 := h
 have h := hj24
 refine WC.region ?_
 refine Pu (.pointer (some ⟨g21, 0, none⟩)) (PO.fieldAddr fo66_0 rfl rfl) rfl ?_
 refine Pu (.int .i64 a0.Broker) (PO.loadB 0 pl3 rfl rfl rfl) rfl ?_
 refine Pu (.bool (decide (a0.Broker = (0 : Int)))) (PO.eql rfl rfl) rfl ?_
 refine Pm (.bool (decide (a0.Broker = (0 : Int)))) rfl rfl ?_
 rcases Bool.eq_false_or_eq_true (decide (a0.Broker = (0 : Int))) with hb25 | hb25
 have h := ite_t hb25 h
 refine On 10 rfl rfl hb25 ?_
 refine Pu (.pointer (some ⟨g21, 1, none⟩)) (PO.fieldAddr fo66_1 rfl rfl) rfl ?_
 refine On 10 rfl rfl hb25 ?_
 refine Pu (.int .i64 a0.Epoch) (PO.loadB 0 pl3 rfl rfl rfl) rfl ?_
 refine On 10 rfl rfl hb25 ?_
 refine Pu (.bool (decide (a0.Epoch = (0 : Int)))) (PO.eql rfl rfl) rfl ?_
 refine Pu (.bool (decide (a0.Epoch = (0 : Int)))) (PO.pickT rfl hb25 rfl) rfl ?_
 refine Pm (.bool (decide (a0.Epoch = (0 : Int)))) rfl rfl ?_
 rcases Bool.eq_false_or_eq_true (decide (a0.Epoch = (0 : Int))) with hb26 | hb26
 have h := ite_t hb26 h
 refine On 15 rfl rfl hb26 ?_
 refine Pu (.pointer (some ⟨g21, 2, none⟩)) (PO.fieldAddr fo66_2 rfl rfl) rfl ?_
 refine On 15 rfl rfl hb26 ?_
 refine Pu (.int .i64 a0.High) (PO.loadB 0 pl3 rfl rfl rfl) rfl ?_
 refine On 15 rfl rfl hb26 ?_
 refine Pu (.bool (decide (a0.High = (0 : Int)))) (PO.eql rfl rfl) rfl ?_
 refine Pu (.bool (decide (a0.High = (0 : Int)))) (PO.pickT rfl hb26 rfl) rfl ?_
 refine Pm (.bool (decide (a0.High = (0 : Int)))) rfl rfl ?_
 rcases Bool.eq_false_or_eq_true (decide (a0.High = (0 : Int))) with hb27 | hb27
 have h := ite_t hb27 h
 refine On 20 rfl rfl hb27 ?_
 refine Pu (.pointer (some ⟨g21, 3, none⟩)) (PO.fieldAddr fo66_3 rfl rfl) rfl ?_
 refine On 20 rfl rfl hb27 ?_
 refine Pu (.bool a0.Fence) (PO.loadB 0 pl4 rfl rfl rfl) rfl ?_
 refine On 20 rfl rfl hb27 ?_
 refine Pu (.bool (!a0.Fence)) (PO.not rfl) rfl ?_
 refine Pu (.bool (!a0.Fence)) (PO.pickT rfl hb27 rfl) rfl ?_
 refine Pm (.bool (!a0.Fence)) rfl rfl ?_
 rcases Bool.eq_false_or_eq_true (!a0.Fence) with hb28 | hb28
 have h := ite_t hb28 h
 refine On 25 rfl rfl hb28 ?_
 refine Pu (.pointer (some ⟨g21, 4, none⟩)) (PO.fieldAddr fo66_4 rfl rfl) rfl ?_
 refine On 25 rfl rfl hb28 ?_
 refine Pu (.bool a0.Leave) (PO.loadB 0 pl4 rfl rfl rfl) rfl ?_
 refine On 25 rfl rfl hb28 ?_
 refine Pu (.bool (!a0.Leave)) (PO.not rfl) rfl ?_
 refine Pu (.bool (!a0.Leave)) (PO.pickT rfl hb28 rfl) rfl ?_
 refine Pa (.bool (!a0.Leave)) rfl rfl ?_
 refine WL.nil ?_
 obtain rfl := Option.some.inj h
 refine WQ.thenJ ?_
 exact ⟨(IM.le.refl _), rfl, rfl⟩
 have h := ite_f hb28 h
 iterate 3 refine Of 25 rfl rfl hb28 rfl ?_
 refine Pu (.bool false) (PO.pickF rfl hb28 rfl) rfl ?_
 refine Pa (.bool false) rfl rfl ?_
 refine WL.nil ?_
 obtain rfl := Option.some.inj h
 refine WQ.thenJ ?_
 exact ⟨(IM.le.refl _), rfl, rfl⟩
 have h := ite_f hb27 h
 iterate 3 refine Of 20 rfl rfl hb27 rfl ?_
 refine Pu (.bool false) (PO.pickF rfl hb27 rfl) rfl ?_
 refine Pm (.bool false) rfl rfl ?_
 iterate 3 refine Of 25 rfl rfl rfl rfl ?_
 refine Pu (.bool false) (PO.pickF rfl rfl rfl) rfl ?_
 refine Pa (.bool false) rfl rfl ?_
 refine WL.nil ?_
 obtain rfl := Option.some.inj h
 refine WQ.thenJ ?_
 exact ⟨(IM.le.refl _), rfl, rfl⟩
 have h := ite_f hb26 h
 iterate 3 refine Of 15 rfl rfl hb26 rfl ?_
 refine Pu (.bool false) (PO.pickF rfl hb26 rfl) rfl ?_
 refine Pm (.bool false) rfl rfl ?_
 iterate 3 refine Of 20 rfl rfl rfl rfl ?_
 refine Pu (.bool false) (PO.pickF rfl rfl rfl) rfl ?_
 refine Pm (.bool false) rfl rfl ?_
 iterate 3 refine Of 25 rfl rfl rfl rfl ?_
 refine Pu (.bool false) (PO.pickF rfl rfl rfl) rfl ?_
 refine Pa (.bool false) rfl rfl ?_
 refine WL.nil ?_
 obtain rfl := Option.some.inj h
 refine WQ.thenJ ?_
 exact ⟨(IM.le.refl _), rfl, rfl⟩
 have h := ite_f hb25 h
 iterate 3 refine Of 10 rfl rfl hb25 rfl ?_
 refine Pu (.bool false) (PO.pickF rfl hb25 rfl) rfl ?_
 refine Pm (.bool false) rfl rfl ?_
 iterate 3 refine Of 15 rfl rfl rfl rfl ?_
 refine Pu (.bool false) (PO.pickF rfl rfl rfl) rfl ?_
 refine Pm (.bool false) rfl rfl ?_
 iterate 3 refine Of 20 rfl rfl rfl rfl ?_
 refine Pu (.bool false) (PO.pickF rfl rfl rfl) rfl ?_
 refine Pm (.bool false) rfl rfl ?_
 iterate 3 refine Of 25 rfl rfl rfl rfl ?_
 refine Pu (.bool false) (PO.pickF rfl rfl rfl) rfl ?_
 refine Pa (.bool false) rfl rfl ?_
 refine WL.nil ?_
 obtain rfl := Option.some.inj h
 refine WQ.thenJ ?_
 exact ⟨(IM.le.refl _), rfl, rfl⟩
 rintro ρ24 M24 H24 ⟨hle24, rfl, hs24_4⟩
 refine WC.ret ?_
 refine WQ.thenR ?_
 refine WQ.drop ?_
 exact WQ.returnsF h [] rfl (results1 rfl hs24_4) hle24 ⟨rfl, rfl⟩
 have h := ite_f hb22 h
 refine WC.skip ?_
 refine WQ.thenC ?_
 obtain ⟨x29, hj30, h⟩ := bnd h
 refine WC.joinF (fun (x29 : Bool) ρ' M' H' => M.le M' ∧ [(g21, .cells (l66 a0).toArray 66 (0, 0))] :: F = H' ∧ ρ' 4 = (.bool x29)) x29 ?_ ?_
 have h330 := h
 have h := hj30
 refine WC.region ?_
 refine Pu (.pointer (some ⟨g21, 0, none⟩)) (PO.fieldAddr fo66_0 rfl rfl) rfl ?_
 refine Pu (.int .i64 a0.Broker) (PO.loadB 0 pl3 rfl rfl rfl) rfl ?_
 refine Pu (.bool (decide ((1 : Int) ≤ a0.Broker))) (PO.geq rfl rfl) rfl ?_
 refine Pm (.bool (decide ((1 : Int) ≤ a0.Broker))) rfl rfl ?_
 rcases Bool.eq_false_or_eq_true (decide ((1 : Int) ≤ a0.Broker)) with hb31 | hb31
 have h := ite_t hb31 h
 refine On 33 rfl rfl hb31 ?_
 refine Pu (.pointer (some ⟨g21, 0, none⟩)) (PO.fieldAddr fo66_0 rfl rfl) rfl ?_
 refine On 33 rfl rfl hb31 ?_
 refine Pu (.int .i64 a0.Broker) (PO.loadB 0 pl3 rfl rfl rfl) rfl ?_
 refine On 33 rfl rfl hb31 ?_
 obtain ⟨r32, hr33, h⟩ := bnd h
 refine WL.eff (EO.call0 co63 (f_ref22_num_ok a0.Broker true (64 : Int) _ r32 hr33) (args3 rfl rfl rfl)) rfl ?_
 rintro _ M34 _ hle35 ⟨_, ⟨rfl, rfl⟩, rfl⟩
 refine WL.a0 ?_
 refine Pu (.bool r32) (PO.pickT rfl hb31 rfl) rfl ?_
 refine Pm (.bool r32) rfl rfl ?_
 rcases Bool.eq_false_or_eq_true (r32) with hb37 | hb37
 have h := ite_t hb37 h
 refine On 38 rfl rfl hb37 ?_
 refine Pu (.pointer (some ⟨g21, 1, none⟩)) (PO.fieldAddr fo66_1 rfl rfl) rfl ?_
 refine On 38 rfl rfl hb37 ?_
 refine Pu (.int .i64 a0.Epoch) (PO.loadB 0 pl3 rfl rfl rfl) rfl ?_
 refine On 38 rfl rfl hb37 ?_
 obtain ⟨r38, hr39, h⟩ := bnd h
 refine WL.eff (EO.call0 co63 (f_ref22_num_ok a0.Epoch true (1073741824 : Int) _ r38 hr39) (args3 rfl rfl rfl)) rfl ?_
 rintro _ M40 _ hle41 ⟨_, ⟨rfl, rfl⟩, rfl⟩
 refine WL.a0 ?_
 refine Pu (.bool r38) (PO.pickT rfl hb37 rfl) rfl ?_
 refine Pm (.bool r38) rfl rfl ?_
 rcases Bool.eq_false_or_eq_true (r38) with hb43 | hb43
 have h := ite_t hb43 h
 refine On 43 rfl rfl hb43 ?_
 refine Pu (.pointer (some ⟨g21, 2, none⟩)) (PO.fieldAddr fo66_2 rfl rfl) rfl ?_
 refine On 43 rfl rfl hb43 ?_
 refine Pu (.int .i64 a0.High) (PO.loadB 0 pl3 rfl rfl rfl) rfl ?_
 refine On 43 rfl rfl hb43 ?_
 obtain ⟨r44, hr45, h⟩ := bnd h
 refine WL.eff (EO.call0 co63 (f_ref22_num_ok a0.High true (1073741824 : Int) _ r44 hr45) (args3 rfl rfl rfl)) rfl ?_
 rintro _ M46 _ hle47 ⟨_, ⟨rfl, rfl⟩, rfl⟩
 refine WL.a0 ?_
 refine Pu (.bool r44) (PO.pickT rfl hb43 rfl) rfl ?_
 refine Pa (.bool r44) rfl rfl ?_
 refine WL.nil ?_
 obtain rfl := Option.some.inj h
 refine WQ.thenJ ?_
 exact ⟨((hle35.trans hle41).trans hle47), rfl, rfl⟩
 have h := ite_f hb43 h
 iterate 3 refine Of 43 rfl rfl hb43 rfl ?_
 refine Pu (.bool false) (PO.pickF rfl hb43 rfl) rfl ?_
 refine Pa (.bool false) rfl rfl ?_
 refine WL.nil ?_
 obtain rfl := Option.some.inj h
 refine WQ.thenJ ?_
 exact ⟨(hle35.trans hle41), rfl, rfl⟩
 have h := ite_f hb37 h
 iterate 3 refine Of 38 rfl rfl hb37 rfl ?_
 refine Pu (.bool false) (PO.pickF rfl hb37 rfl) rfl ?_
 refine Pm (.bool false) rfl rfl ?_
 iterate 3 refine Of 43 rfl rfl rfl rfl ?_
 refine Pu (.bool false) (PO.pickF rfl rfl rfl) rfl ?_
 refine Pa (.bool false) rfl rfl ?_
 refine WL.nil ?_
 obtain rfl := Option.some.inj h
 refine WQ.thenJ ?_
 exact ⟨hle35, rfl, rfl⟩
 have h := ite_f hb31 h
 iterate 3 refine Of 33 rfl rfl hb31 rfl ?_
 refine Pu (.bool false) (PO.pickF rfl hb31 rfl) rfl ?_
 refine Pm (.bool false) rfl rfl ?_
 iterate 3 refine Of 38 rfl rfl rfl rfl ?_
 refine Pu (.bool false) (PO.pickF rfl rfl rfl) rfl ?_
 refine Pm (.bool false) rfl rfl ?_
 iterate 3 refine Of 43 rfl rfl rfl rfl ?_
 refine Pu (.bool false) (PO.pickF rfl rfl rfl) rfl ?_
 refine Pa (.bool false) rfl rfl ?_
 refine WL.nil ?_
 obtain rfl := Option.some.inj h
 refine WQ.thenJ ?_
 exact ⟨(IM.le.refl _), rfl, rfl⟩
 rintro ρ30 M30 H30 ⟨hle30, rfl, hs30_4⟩
 refine WC.ret ?_
 refine WQ.drop ?_
 exact WQ.returnsF h [] rfl (results1 rfl hs30_4) hle30 ⟨rfl, rfl⟩

noncomputable def f_ref05_Brokers_l1 (a0 : (List Int)) (x24 : Int) (s_ : Int) : Option (Int ⊕ (Unit ⊕ Unit)) :=
  match s_ with
  | x46 =>
    (if (decide (x46 < x24)) = true then (grd (0 ≤ x46 ∧ x46 < a0.length) (grd (0 ≤ x24 ∧ x24 < a0.length) (if (decide ((rd a0 x46) = (rd a0 x24))) = true then (some (Sum.inr (Sum.inr ()))) else (some (Sum.inl (IntKind.i64.wrap (x46 + (1 : Int)))))))) else (some (Sum.inr (Sum.inl ()))))
noncomputable def f_ref05_Brokers_l0 (a0 : (List Int)) (s_ : Int) : Option (Int ⊕ (Unit ⊕ Unit)) :=
  match s_ with
  | x24 =>
    (if (decide (x24 < (a0.length : Int))) = true then (((((grd (0 ≤ x24 ∧ x24 < a0.length) (if (decide ((rd a0 x24) < (1 : Int))) = true then (some true) else (grd (0 ≤ x24 ∧ x24 < a0.length) (some (decide ((64 : Int) < (rd a0 x24))))))) : Option Bool).bind fun (x27 : Bool) => (if x27 = true then (((some (Sum.inr (Sum.inr ())))).bind fun r => some (Sum.inr r)) else ((iter (f_ref05_Brokers_l1 a0 x24) (0 : Int)).bind (Sum.elim (fun _ => (some (Sum.inl ()))) (fun _ => (((some (Sum.inr (Sum.inr ())))).bind fun r => some (Sum.inr r))))))) : Option (Unit ⊕ (Int ⊕ (Unit ⊕ Unit)))).bind (Sum.elim (fun _ => (some (Sum.inl (IntKind.i64.wrap (x24 + (1 : Int)))))) some)) else (some (Sum.inr (Sum.inl ()))))
noncomputable def f_ref05_Brokers (a0 : (List Int)) : Option Bool :=
  (if (decide ((7 : Int) < (a0.length : Int))) = true then (some false) else ((((iter (f_ref05_Brokers_l0 a0) (0 : Int)).bind (Sum.elim (fun _ => (some (Sum.inl ()))) (fun _ => (((some false)).bind fun r => some (Sum.inr r))))) : Option (Unit ⊕ Bool)).bind (Sum.elim (fun _ => (some true)) some)))
def f_ref05_Brokers_post (a0 : (List Int)) (v0 : Value) : Bool → Value → IM → HL → Prop :=
  fun (r0 : Bool) (v : Value) (M' : IM) (H' : HL) => (.bool r0) = v ∧ H' = []
set_option maxHeartbeats 8000000 in
set_option maxRecDepth 100000 in
theorem f_ref05_Brokers_ok (a0 : (List Int)) (M : IM) (v0 : Value) (h0 : RS (Kd.int .i64) M v0 a0) (res : Bool) (h : f_ref05_Brokers a0 = some res) :
    Tri Tryd.prog 65 #[v0] M [] (f_ref05_Brokers_post a0 v0 res) := by
 unfold f_ref05_Brokers at h
 refine Tri.enter (fn := Tryd.f65) Tryd.func65 rfl (Nat.le_of_ble_eq_true rfl) ?_
 intro F ρ hρ
 refine Sr ?_
 refine Pa (.bool false) rfl rfl ?_
 refine Nt ?_
 refine WC.seq ?_
 refine Sr ?_
 refine Pm v0 (hρ 0) rfl ?_
 refine Pu (.int .i64 (a0.length : Int)) (PO.lenS Tryd.underlying64 rfl h0.len) rfl ?_
 refine Pu (.bool (decide ((7 : Int) < (a0.length : Int)))) (PO.gtr rfl rfl) rfl ?_
 refine Nt ?_
 refine WC.cond (b := decide ((7 : Int) < (a0.length : Int))) rfl (fun hb21 => ?_) (fun hb21 => ?_)
 have h := ite_t hb21 h
 refine Sr ?_
 refine Pa (.bool false) rfl rfl ?_
 refine Nt ?_
 refine WC.ret ?_
 refine WQ.thenR ?_
 exact WQ.returnsF h [] rfl (results1 rfl rfl) (IM.le.refl _) ⟨rfl, rfl⟩
 have h := ite_f hb21 h
 refine WC.skip ?_
 refine WQ.thenC ?_
 obtain ⟨j22, hj22, h⟩ := bnd h
 refine WC.joinE (fun (_ : Unit) ρ' M' H' => M.le M' ∧ F = H') j22 ?_ ?_
 have h322 := h
 have h := hj22
 refine Sr ?_
 refine Pa (.int .i64 0) rfl rfl ?_
 refine Nt ?_
 refine WC.block ?_
 obtain ⟨e23, he23, hK23⟩ := bnd h
 clear h
 refine WC.loop he23 (fun (x24 : Int) ρ' M' H' => M.le M' ∧ F = H' ∧ ρ' 0 = v0 ∧ ρ' 3 = (.int .i64 x24)) ?_ ?_
 exact ⟨(IM.le.refl _), rfl, (hρ 0), rfl⟩
 rintro x24 o23 ρ23 M23 H23 h ⟨hle23, rfl, hs23_0, hs23_3⟩
 unfold f_ref05_Brokers_l0 at h
 have h0 := h0.mono hle23
 refine WC.seq ?_
 refine Sr ?_
 refine Pm (.int .i64 x24) hs23_3 rfl ?_
 refine Pm v0 hs23_0 rfl ?_
 refine Pu (.int .i64 (a0.length : Int)) (PO.lenS Tryd.underlying64 rfl h0.len) rfl ?_
 refine Pu (.bool (decide (x24 < (a0.length : Int)))) (PO.lss rfl rfl) rfl ?_
 refine Nt ?_
 refine WC.cond (b := decide (x24 < (a0.length : Int))) rfl (fun hb25 => ?_) (fun hb25 => ?_)
 have h := ite_t hb25 h
 refine WC.skip ?_
 refine WQ.thenC ?_
 obtain ⟨j26, hj26, h⟩ := bnd h
 refine WC.joinE (fun (_ : Unit) ρ' M' H' => M23.le M' ∧ F = H' ∧ ρ' 0 = v0 ∧ ρ' 3 = (.int .i64 x24)) j26 ?_ ?_
 have h326 := h
 have h := hj26
 refine WC.block ?_
 refine WC.seq ?_
 obtain ⟨x27, hj28, h⟩ := bnd h
 refine WC.joinF (fun (x27 : Bool) ρ' M' H' => M23.le M' ∧ F = H' ∧ ρ' 0 = v0 ∧ ρ' 3 = (.int .i64 x24) ∧ ρ' 25 = (.bool x27)) x27 ?_ ?_
 have h328 := h
 have h := hj28
 refine WC.region ?_
 refine Pm v0 hs23_0 rfl ?_
 refine Pm (.int .i64 x24) hs23_3 rfl ?_
 obtain ⟨hg29, h⟩ := grd_i h
 obtain ⟨p30, cs31, hat32, hrc33, hhas34⟩ := h0.at hg29.1 hg29.2 (by decide)
 obtain rfl := hrc33
 refine Pu (.pointer (some p30)) (PO.indexAddr (n := a0.length) Tryd.underlying64 sz3 rfl rfl hg29.1 hg29.2 hat32) rfl ?_
 refine Pu (.int .i64 (rd a0 x24)) (PO.loadM pl3 rfl (IM.has0 hhas34)) rfl ?_
 refine Pu (.bool (decide ((rd a0 x24) < (1 : Int)))) (PO.lss rfl rfl) rfl ?_
 refine Pm (.bool (decide ((rd a0 x24) < (1 : Int)))) rfl rfl ?_
 rcases Bool.eq_false_or_eq_true (decide ((rd a0 x24) < (1 : Int))) with hb36 | hb36
 have h := ite_t hb36 h
 iterate 5 refine Of 19 rfl rfl hb36 rfl ?_
 refine Pu (.bool true) (PO.pickT rfl hb36 rfl) rfl ?_
 refine WL.nil ?_
 obtain rfl := Option.some.inj h
 refine WQ.thenJ ?_
 exact ⟨(IM.le.refl _), rfl, hs23_0, hs23_3, rfl⟩
 have h := ite_f hb36 h
 refine On 19 rfl rfl hb36 ?_
 refine Pm v0 hs23_0 rfl ?_
 refine On 19 rfl rfl hb36 ?_
 refine Pm (.int .i64 x24) hs23_3 rfl ?_
 refine On 19 rfl rfl hb36 ?_
 obtain ⟨hg37, h⟩ := grd_i h
 obtain ⟨p38, cs39, hat40, hrc41, hhas42⟩ := h0.at hg37.1 hg37.2 (by decide)
 obtain rfl := hrc41
 refine Pu (.pointer (some p38)) (PO.indexAddr (n := a0.length) Tryd.underlying64 sz3 rfl rfl hg37.1 hg37.2 hat40) rfl ?_
 refine On 19 rfl rfl hb36 ?_
 refine Pu (.int .i64 (rd a0 x24)) (PO.loadM pl3 rfl (IM.has0 hhas42)) rfl ?_
 refine On 19 rfl rfl hb36 ?_
 refine Pu (.bool (decide ((64 : Int) < (rd a0 x24)))) (PO.gtr rfl rfl) rfl ?_
 refine Pu (.bool (decide ((64 : Int) < (rd a0 x24)))) (PO.pickF rfl hb36 rfl) rfl ?_
 refine WL.nil ?_
 obtain rfl := Option.some.inj h
 refine WQ.thenJ ?_
 exact ⟨(IM.le.refl _), rfl, hs23_0, hs23_3, rfl⟩
 rintro ρ28 M28 H28 ⟨hle28, rfl, hs28_0, hs28_3, hs28_25⟩
 have h0 := h0.mono hle28
 refine WC.cond (b := x27) hs28_25 (fun hb44 => ?_) (fun hb44 => ?_)
 have h := ite_t hb44 h
 refine Sr ?_
 refine Pa (.bool false) rfl rfl ?_
 refine Nt ?_
 refine WC.ret ?_
 refine WQ.thenR ?_
 refine WQ.blockR ?_
 refine WQ.thenR ?_
 have h := KK.early h h326
 refine WQ.leaveR (Sum.inr ()) (Option.some.inj h).symm (fun heq23 => ?_)
 subst heq23
 have h := (elimR hK23)
 refine WQ.blockR ?_
 refine WQ.thenR ?_
 have h := KK.early h h322
 exact WQ.returnsF h [] rfl (results1 rfl rfl) (hle23.trans hle28) ⟨rfl, rfl⟩
 have h := ite_f hb44 h
 refine WC.skip ?_
 refine WQ.thenC ?_
 refine Sr ?_
 refine Pa (.int .i64 0) rfl rfl ?_
 refine Nt ?_
 refine WC.block ?_
 obtain ⟨e45, he45, hK45⟩ := bnd h
 clear h
 refine WC.loop he45 (fun (x46 : Int) ρ' M' H' => M28.le M' ∧ F = H' ∧ ρ' 0 = v0 ∧ ρ' 3 = (.int .i64 x24) ∧ ρ' 4 = (.int .i64 x46)) ?_ ?_
 exact ⟨(IM.le.refl _), rfl, hs28_0, hs28_3, rfl⟩
 rintro x46 o45 ρ45 M45 H45 h ⟨hle45, rfl, hs45_0, hs45_3, hs45_4⟩
 unfold f_ref05_Brokers_l1 at h
 have h0 := h0.mono hle45
 refine WC.seq ?_
 refine Sr ?_
 refine Pm (.int .i64 x46) hs45_4 rfl ?_
 refine Pm (.int .i64 x24) hs45_3 rfl ?_
 refine Pu (.bool (decide (x46 < x24))) (PO.lss rfl rfl) rfl ?_
 refine Nt ?_
 refine WC.cond (b := decide (x46 < x24)) rfl (fun hb47 => ?_) (fun hb47 => ?_)
 have h := ite_t hb47 h
 refine WC.skip ?_
 refine WQ.thenC ?_
 refine WC.seq ?_
 refine WC.block ?_
 refine WC.seq ?_
 refine WC.draw [0, 0, 3, 7, 0, 0, 48, 112, 255] (.pure 0 (.pure 1 (.pure 2 (.pure 3 (.pure 4 (.pure 5 (.pure 6 (.pure 7 (.pure 8 .done))))))))) mixed (by kernel_rfl) ?_
 refine Tp v0 rfl (PO.move hs45_0) rfl ?_
 refine Tp (.int .i64 x46) rfl (PO.move hs45_4) rfl ?_
 obtain ⟨hg48, h⟩ := grd_i h
 obtain ⟨p49, cs50, hat51, hrc52, hhas53⟩ := h0.at hg48.1 hg48.2 (by decide)
 obtain rfl := hrc52
 refine Tp (.pointer (some p49)) rfl (PO.indexAddr (n := a0.length) Tryd.underlying64 sz3 rfl rfl hg48.1 hg48.2 hat51) rfl ?_
 refine Tp (.int .i64 (rd a0 x46)) rfl (PO.loadM pl3 rfl (IM.has0 hhas53)) rfl ?_
 refine Tp v0 rfl (PO.move hs45_0) rfl ?_
 refine Tp (.int .i64 x24) rfl (PO.move hs45_3) rfl ?_
 obtain ⟨hg55, h⟩ := grd_i h
 obtain ⟨p56, cs57, hat58, hrc59, hhas60⟩ := h0.at hg55.1 hg55.2 (by decide)
 obtain rfl := hrc59
 refine Tp (.pointer (some p56)) rfl (PO.indexAddr (n := a0.length) Tryd.underlying64 sz3 rfl rfl hg55.1 hg55.2 hat58) rfl ?_
 refine Tp (.int .i64 (rd a0 x24)) rfl (PO.loadM pl3 rfl (IM.has0 hhas60)) rfl ?_
 refine Tp (.bool (decide ((rd a0 x46) = (rd a0 x24)))) rfl (PO.eql rfl rfl) rfl ?_
 refine WT.fin ?_
 refine WQ.thenC ?_
 refine WC.cond (b := decide ((rd a0 x46) = (rd a0 x24))) rfl (fun hb62 => ?_) (fun hb62 => ?_)
 have h := ite_t hb62 h
 refine Sr ?_
 refine Pa (.bool false) rfl rfl ?_
 refine Nt ?_
 refine WC.ret ?_
 refine WQ.blockR ?_
 refine WQ.thenR ?_
 refine WQ.leaveR (Sum.inr ()) (Option.some.inj h).symm (fun heq45 => ?_)
 subst heq45
 have h := (elimR hK45)
 refine WQ.blockR ?_
 refine WQ.blockR ?_
 refine WQ.thenR ?_
 have h := KK.early h h326
 refine WQ.leaveR (Sum.inr ()) (Option.some.inj h).symm (fun heq23 => ?_)
 subst heq23
 have h := (elimR hK23)
 refine WQ.blockR ?_
 refine WQ.thenR ?_
 have h := KK.early h h322
 exact WQ.returnsF h [] rfl (results1 rfl rfl) ((hle23.trans hle28).trans hle45) ⟨rfl, rfl⟩
 have h := ite_f hb62 h
 refine WC.skip ?_
 refine WQ.blockN ?_
 refine WQ.thenC ?_
 refine WC.region ?_
 refine Pm (.int .i64 x46) hs45_4 rfl ?_
 refine Pu (.int .i64 (IntKind.i64.wrap (x46 + (1 : Int)))) (PO.add rfl rfl) rfl ?_
 refine Pa (.int .i64 (IntKind.i64.wrap (x46 + (1 : Int)))) rfl rfl ?_
 refine WL.nil ?_
 refine WQ.again (IntKind.i64.wrap (x46 + (1 : Int))) (Option.some.inj h).symm ?_
 exact ⟨hle45, rfl, hs45_0, hs45_3, rfl⟩
 have h := ite_f hb47 h
 refine WC.exit ?_
 refine WQ.thenE ?_
 refine WQ.leaveE (Sum.inl ()) (Option.some.inj h).symm (fun heq45 => ?_)
 subst heq45
 have h := elimL hK45
 refine WQ.blockH ?_
 refine WQ.blockN ?_
 refine WQ.thenFE h ?_
 exact ⟨(hle28.trans hle45), rfl, hs45_0, hs45_3⟩
 rintro _ ρ26 M26 H26 rfl ⟨hle26, rfl, hs26_0, hs26_3⟩
 have h0 := h0.mono hle26
 refine WC.region ?_
 refine Pm (.int .i64 x24) hs26_3 rfl ?_
 refine Pu (.int .i64 (IntKind.i64.wrap (x24 + (1 : Int)))) (PO.add rfl rfl) rfl ?_
 refine Pa (.int .i64 (IntKind.i64.wrap (x24 + (1 : Int)))) rfl rfl ?_
 refine WL.nil ?_
 refine WQ.again (IntKind.i64.wrap (x24 + (1 : Int))) (Option.some.inj h).symm ?_
 exact ⟨(hle23.trans hle26), rfl, hs26_0, rfl⟩
 have h := ite_f hb25 h
 refine WC.exit ?_
 refine WQ.thenE ?_
 refine WQ.leaveE (Sum.inl ()) (Option.some.inj h).symm (fun heq23 => ?_)
 subst heq23
 have h := elimL hK23
 refine WQ.blockH ?_
 refine WQ.thenFE h ?_
 exact ⟨hle23, rfl⟩
 rintro _ ρ22 M22 H22 rfl ⟨hle22, rfl⟩
 refine Sr ?_
 refine Pa (.bool true) rfl rfl ?_
 refine Nt ?_
 refine WC.ret ?_
 exact WQ.returnsF h [] rfl (results1 rfl rfl) hle22 ⟨rfl, rfl⟩


end Go.Proofs.YtjgnbbakamellaaDoor.G
