/- Go functions: what they come to, and that they do. Printed by a program of the session (gen). -/
import Derived.Test.YtjiffdgidodebaaDoorCF
import Derived.Test.YtjiffdgidodebaaDoorC10
import Derived.Test.YtjiffdgidodebaaDoorKShar2
import Derived.Test.YtjiffdgidodebaaDoorKConv
set_option linter.unusedVariables false
set_option linter.unusedSimpArgs false
set_option maxHeartbeats 8000000
set_option maxRecDepth 100000
namespace Go.Proofs.YtjiffdgidodebaaDoor.G
open Go Go.KK

noncomputable def f_ref02_Ints_l0 (a0 : (List Int)) (a1 : (List Int)) (s_ : Int) : Option (Int ⊕ (Unit ⊕ Unit)) :=
  match s_ with
  | x24 =>
    (if (decide (x24 < (a0.length : Int))) = true then (grd (0 ≤ x24 ∧ x24 < a0.length) (grd (0 ≤ x24 ∧ x24 < a1.length) (if (decide ((rd a0 x24) ≠ (rd a1 x24))) = true then (some (Sum.inr (Sum.inr ()))) else (some (Sum.inl (IntKind.i64.wrap (x24 + (1 : Int)))))))) else (some (Sum.inr (Sum.inl ()))))
noncomputable def f_ref02_Ints (a0 : (List Int)) (a1 : (List Int)) : Option Bool :=
  (if (decide ((a0.length : Int) ≠ (a1.length : Int))) = true then (some false) else ((((iter (f_ref02_Ints_l0 a0 a1) (0 : Int)).bind (Sum.elim (fun _ => (some (Sum.inl ()))) (fun _ => (((some false)).bind fun r => some (Sum.inr r))))) : Option (Unit ⊕ Bool)).bind (Sum.elim (fun _ => (some true)) some)))
def f_ref02_Ints_post (a0 : (List Int)) (a1 : (List Int)) (v0 v1 : Value) : Bool → Value → IM → HL → Prop :=
  fun (r0 : Bool) (v : Value) (M' : IM) (H' : HL) => (.bool r0) = v ∧ H' = []
theorem f_ref02_Ints_ok (a0 : (List Int)) (a1 : (List Int)) (M : IM) (v0 v1 : Value) (h0 : RS (Kd.int .i64) M v0 a0) (h1 : RS (Kd.int .i64) M v1 a1) (res : Bool) (h : f_ref02_Ints a0 a1 = some res) :
    Tri Tryd.prog 88 #[v0, v1] M [] (f_ref02_Ints_post a0 a1 v0 v1 res) := by
 unfold f_ref02_Ints at h
 refine Tri.enter (fn := Tryd.f88) Tryd.func88 rfl (Nat.le_of_ble_eq_true rfl) ?_
 intro F ρ hρ
 refine Sr ?_
 refine Pa (.bool false) rfl rfl ?_
 refine Nt ?_
 refine WC.seq ?_
 refine Sr ?_
 refine Pm v0 (hρ 0) rfl ?_
 refine Pu (.int .i64 (a0.length : Int)) (PO.lenS Tryd.underlying95 rfl h0.len) rfl ?_
 refine Pm v1 (hρ 1) rfl ?_
 refine Pu (.int .i64 (a1.length : Int)) (PO.lenS Tryd.underlying95 rfl h1.len) rfl ?_
 refine Pu (.bool (decide ((a0.length : Int) ≠ (a1.length : Int)))) (PO.neq rfl rfl) rfl ?_
 refine Nt ?_
 refine WC.cond (b := decide ((a0.length : Int) ≠ (a1.length : Int))) rfl (fun hb21 => ?_) (fun hb21 => ?_)
 have h := ite_t hb21 h
 refine Sr ?_
 refine Pa (.bool false) rfl rfl ?_
 refine Nt ?_
 refine WC.ret ?_
 refine WQ.thenR ?_
 exact WQ.returnsF h [] rfl (results1 rfl rfl) (IM.le.refl _) ⟨rfl, rfl⟩
 have h := ite_f hb21 h
 refine WC.skip ?_
 refine WQ.thenC ?_
 obtain ⟨j22, hj22, h⟩ := bnd h
 refine WC.joinE (fun (_ : Unit) ρ' M' H' => M.le M' ∧ F = H') j22 ?_ ?_
 have h322 := h
 have h := hj22
 refine Sr ?_
 refine Pa (.int .i64 0) rfl rfl ?_
 refine Nt ?_
 refine WC.block ?_
 obtain ⟨e23, he23, hK23⟩ := bnd h
 clear h
 refine WC.loop he23 (fun (x24 : Int) ρ' M' H' => M.le M' ∧ F = H' ∧ ρ' 0 = v0 ∧ ρ' 1 = v1 ∧ ρ' 5 = (.int .i64 x24)) ?_ ?_
 exact ⟨(IM.le.refl _), rfl, (hρ 0), (hρ 1), rfl⟩
 rintro x24 o23 ρ23 M23 H23 h ⟨hle23, rfl, hs23_0, hs23_1, hs23_5⟩
 unfold f_ref02_Ints_l0 at h
 have h0 := h0.mono hle23
 have h1 := h1.mono hle23
 refine WC.seq ?_
 refine Sr ?_
 refine Pm (.int .i64 x24) hs23_5 rfl ?_
 refine Pm v0 hs23_0 rfl ?_
 refine Pu (.int .i64 (a0.length : Int)) (PO.lenS Tryd.underlying95 rfl h0.len) rfl ?_
 refine Pu (.bool (decide (x24 < (a0.length : Int)))) (PO.lss rfl rfl) rfl ?_
 refine Nt ?_
 refine WC.cond (b := decide (x24 < (a0.length : Int))) rfl (fun hb25 => ?_) (fun hb25 => ?_)
 have h := ite_t hb25 h
 refine WC.skip ?_
 refine WQ.thenC ?_
 refine WC.seq ?_
 refine WC.block ?_
 refine WC.seq ?_
 refine WC.draw [0, 0, 3, 7, 0, 0, 48, 112, 255] (.pure 0 (.pure 1 (.pure 2 (.pure 3 (.pure 4 (.pure 5 (.pure 6 (.pure 7 (.pure 8 .done))))))))) mixed (by kernel_rfl) ?_
 refine Tp v0 rfl (PO.move hs23_0) rfl ?_
 refine Tp (.int .i64 x24) rfl (PO.move hs23_5) rfl ?_
 obtain ⟨hg26, h⟩ := grd_i h
 obtain ⟨p27, cs28, hat29, hrc30, hhas31⟩ := h0.at hg26.1 hg26.2 (by decide)
 obtain rfl := hrc30
 refine Tp (.pointer (some p27)) rfl (PO.indexAddr (n := a0.length) Tryd.underlying95 sz3 rfl rfl hg26.1 hg26.2 hat29) rfl ?_
 refine Tp (.int .i64 (rd a0 x24)) rfl (PO.loadM pl3 rfl (IM.has0 hhas31)) rfl ?_
 refine Tp v1 rfl (PO.move hs23_1) rfl ?_
 refine Tp (.int .i64 x24) rfl (PO.move hs23_5) rfl ?_
 obtain ⟨hg33, h⟩ := grd_i h
 obtain ⟨p34, cs35, hat36, hrc37, hhas38⟩ := h1.at hg33.1 hg33.2 (by decide)
 obtain rfl := hrc37
 refine Tp (.pointer (some p34)) rfl (PO.indexAddr (n := a1.length) Tryd.underlying95 sz3 rfl rfl hg33.1 hg33.2 hat36) rfl ?_
 refine Tp (.int .i64 (rd a1 x24)) rfl (PO.loadM pl3 rfl (IM.has0 hhas38)) rfl ?_
 refine Tp (.bool (decide ((rd a0 x24) ≠ (rd a1 x24)))) rfl (PO.neq rfl rfl) rfl ?_
 refine WT.fin ?_
 refine WQ.thenC ?_
 refine WC.cond (b := decide ((rd a0 x24) ≠ (rd a1 x24))) rfl (fun hb40 => ?_) (fun hb40 => ?_)
 have h := ite_t hb40 h
 refine Sr ?_
 refine Pa (.bool false) rfl rfl ?_
 refine Nt ?_
 refine WC.ret ?_
 refine WQ.blockR ?_
 refine WQ.thenR ?_
 refine WQ.leaveR (Sum.inr ()) (Option.some.inj h).symm (fun heq23 => ?_)
 subst heq23
 have h := (elimR hK23)
 refine WQ.blockR ?_
 refine WQ.thenR ?_
 have h := KK.early h h322
 exact WQ.returnsF h [] rfl (results1 rfl rfl) hle23 ⟨rfl, rfl⟩
 have h := ite_f hb40 h
 refine WC.skip ?_
 refine WQ.blockN ?_
 refine WQ.thenC ?_
 refine WC.region ?_
 refine Pm (.int .i64 x24) hs23_5 rfl ?_
 refine Pu (.int .i64 (IntKind.i64.wrap (x24 + 1))) (PO.add rfl rfl) rfl ?_
 refine Pa (.int .i64 (IntKind.i64.wrap (x24 + 1))) rfl rfl ?_
 refine WL.nil ?_
 refine WQ.again (IntKind.i64.wrap (x24 + 1)) (Option.some.inj h).symm ?_
 exact ⟨hle23, rfl, hs23_0, hs23_1, rfl⟩
 have h := ite_f hb25 h
 refine WC.exit ?_
 refine WQ.thenE ?_
 refine WQ.leaveE (Sum.inl ()) (Option.some.inj h).symm (fun heq23 => ?_)
 subst heq23
 have h := elimL hK23
 refine WQ.blockH ?_
 refine WQ.thenFE h ?_
 exact ⟨hle23, rfl⟩
 rintro _ ρ22 M22 H22 rfl ⟨hle22, rfl⟩
 have h := (Sum.elim_inl _ _ _).symm.trans h
 refine Sr ?_
 refine Pa (.bool true) rfl rfl ?_
 refine Nt ?_
 refine WC.ret ?_
 exact WQ.returnsF h [] rfl (results1 rfl rfl) hle22 ⟨rfl, rfl⟩

noncomputable def f_ref05_Same (a0 : T_api_Record) (a1 : T_api_Record) : Option Bool :=
  (((if (decide (a0.Kind ≠ a1.Kind)) = true then (some true) else (if (decide (a0.Broker ≠ a1.Broker)) = true then (some true) else (if (decide (a0.Epoch ≠ a1.Epoch)) = true then (some true) else (if (decide (a0.Topic ≠ a1.Topic)) = true then (some true) else (if (decide (a0.Part ≠ a1.Part)) = true then (some true) else (some (decide (a0.Leader ≠ a1.Leader)))))))) : Option Bool).bind fun (x23 : Bool) => (if x23 = true then (some false) else (((if (decide (a0.Client ≠ a1.Client)) = true then (some true) else (if (decide (a0.Serial ≠ a1.Serial)) = true then (some true) else (if (decide (a0.Code ≠ a1.Code)) = true then (some true) else (some (!(a0.Flag == a1.Flag)))))) : Option Bool).bind fun (x31 : Bool) => (if x31 = true then (some false) else (((if (!decide (a0.Name = a1.Name)) = true then (some true) else (if (!decide (a0.Key = a1.Key)) = true then (some true) else (if (!decide (a0.Value = a1.Value)) = true then (some true) else (some (!decide (a0.Rack = a1.Rack)))))) : Option Bool).bind fun (x37 : Bool) => (if x37 = true then (some false) else ((((f_ref02_Ints a0.Ids a1.Ids).bind fun (r45 : Bool) => (if r45 = true then ((f_ref02_Ints a0.Isr a1.Isr).bind fun (r51 : Bool) => (some r51)) else (some false))) : Option Bool).bind fun (x43 : Bool) => (((if x43 = true then ((f_ref02_Ints a0.Add a1.Add).bind fun (r59 : Bool) => (if r59 = true then ((f_ref02_Ints a0.Drop a1.Drop).bind fun (r65 : Bool) => (some r65)) else (some false))) else (some false)) : Option Bool).bind fun (x56 : Bool) => (some x56)))))))))
def f_ref05_Same_post (a0 : T_api_Record) (a1 : T_api_Record) (v0_14 v0_15 v0_16 v0_17 v1_14 v1_15 v1_16 v1_17 : Value) : Bool → Value → IM → HL → Prop :=
  fun (r0 : Bool) (v : Value) (M' : IM) (H' : HL) => (.bool r0) = v ∧ H' = []
theorem f_ref05_Same_ok (a0 : T_api_Record) (a1 : T_api_Record) (M : IM) (v0_14 v0_15 v0_16 v0_17 v1_14 v1_15 v1_16 v1_17 : Value) (h0_14 : RS (Kd.int .i64) M v0_14 a0.Ids) (h0_15 : RS (Kd.int .i64) M v0_15 a0.Isr) (h0_16 : RS (Kd.int .i64) M v0_16 a0.Add) (h0_17 : RS (Kd.int .i64) M v0_17 a0.Drop) (h1_14 : RS (Kd.int .i64) M v1_14 a1.Ids) (h1_15 : RS (Kd.int .i64) M v1_15 a1.Isr) (h1_16 : RS (Kd.int .i64) M v1_16 a1.Add) (h1_17 : RS (Kd.int .i64) M v1_17 a1.Drop) (res : Bool) (h : f_ref05_Same a0 a1 = some res) :
    Tri Tryd.prog 57 #[(a106_ a0 v0_14 v0_15 v0_16 v0_17), (a106_ a1 v1_14 v1_15 v1_16 v1_17)] M [] (f_ref05_Same_post a0 a1 v0_14 v0_15 v0_16 v0_17 v1_14 v1_15 v1_16 v1_17 res) := by
 unfold f_ref05_Same at h
 refine Tri.enter (fn := Tryd.f57) Tryd.func57 rfl (Nat.le_of_ble_eq_true rfl) ?_
 intro F ρ hρ
 refine Sr ?_
 refine WL.eff (EO.box (cs := (l106 a0 v0_14 v0_15 v0_16 v0_17).toArray) (congrArg Value.cells (asE (a106_ a0 v0_14 v0_15 v0_16 v0_17) (hρ 0)))) rfl ?_
 rintro _ _ _ - ⟨rfl, g21, rfl, rfl⟩
 refine WL.eff (EO.box (cs := (l106 a1 v1_14 v1_15 v1_16 v1_17).toArray) (congrArg Value.cells (asE (a106_ a1 v1_14 v1_15 v1_16 v1_17) (hρ 1)))) rfl ?_
 rintro _ _ _ - ⟨rfl, g22, rfl, rfl⟩
 refine Pa (.bool false) rfl rfl ?_
 refine Nt ?_
 refine WC.seq ?_
 obtain ⟨x23, hj24, h⟩ := bnd h
 refine WC.joinF (fun (x23 : Bool) ρ' M' H' => M.le M' ∧ [(g22, .cells (l106 a1 v1_14 v1_15 v1_16 v1_17).toArray 106 (0, 0))] :: [(g21, .cells (l106 a0 v0_14 v0_15 v0_16 v0_17).toArray 106 (0, 0))] :: F = H' ∧ ρ' 2 = (pt g21 0) ∧ ρ' 3 = (pt g22 0) ∧ ρ' 45 = (.bool x23)) x23 ?_ ?_
 have h324 := h
 have h := hj24
 refine WC.region ?_
 refine Pu (pt g21 0) (PO.fieldAddr fo106_0 rfl rfl) rfl ?_
 refine Pu (.int .i64 a0.Kind) (PO.loadB 1 pl3 rfl rfl rfl) rfl ?_
 refine Pu (pt g22 0) (PO.fieldAddr fo106_0 rfl rfl) rfl ?_
 refine Pu (.int .i64 a1.Kind) (PO.loadB 0 pl3 rfl rfl rfl) rfl ?_
 refine Pu (.bool (decide (a0.Kind ≠ a1.Kind))) (PO.neq rfl rfl) rfl ?_
 refine Pm (.bool (decide (a0.Kind ≠ a1.Kind))) rfl rfl ?_
 rcases Bool.eq_false_or_eq_true (decide (a0.Kind ≠ a1.Kind)) with hb25 | hb25
 have h := ite_t hb25 h
 iterate 5 refine Of 11 rfl rfl hb25 rfl ?_
 refine Pu (.bool true) (PO.pickT rfl hb25 rfl) rfl ?_
 refine Pm (.bool true) rfl rfl ?_
 iterate 5 refine Of 18 rfl rfl rfl rfl ?_
 refine Pu (.bool true) (PO.pickT rfl rfl rfl) rfl ?_
 refine Pm (.bool true) rfl rfl ?_
 iterate 5 refine Of 25 rfl rfl rfl rfl ?_
 refine Pu (.bool true) (PO.pickT rfl rfl rfl) rfl ?_
 refine Pm (.bool true) rfl rfl ?_
 iterate 5 refine Of 32 rfl rfl rfl rfl ?_
 refine Pu (.bool true) (PO.pickT rfl rfl rfl) rfl ?_
 refine Pm (.bool true) rfl rfl ?_
 iterate 5 refine Of 39 rfl rfl rfl rfl ?_
 refine Pu (.bool true) (PO.pickT rfl rfl rfl) rfl ?_
 refine WL.nil ?_
 obtain rfl := Option.some.inj h
 refine WQ.thenJ ?_
 exact ⟨(IM.le.refl _), rfl, rfl, rfl, rfl⟩
 have h := ite_f hb25 h
 refine On 11 rfl rfl hb25 ?_
 refine Pu (pt g21 1) (PO.fieldAddr fo106_1 rfl rfl) rfl ?_
 refine On 11 rfl rfl hb25 ?_
 refine Pu (.int .i64 a0.Broker) (PO.loadB 1 pl3 rfl rfl rfl) rfl ?_
 refine On 11 rfl rfl hb25 ?_
 refine Pu (pt g22 1) (PO.fieldAddr fo106_1 rfl rfl) rfl ?_
 refine On 11 rfl rfl hb25 ?_
 refine Pu (.int .i64 a1.Broker) (PO.loadB 0 pl3 rfl rfl rfl) rfl ?_
 refine On 11 rfl rfl hb25 ?_
 refine Pu (.bool (decide (a0.Broker ≠ a1.Broker))) (PO.neq rfl rfl) rfl ?_
 refine Pu (.bool (decide (a0.Broker ≠ a1.Broker))) (PO.pickF rfl hb25 rfl) rfl ?_
 refine Pm (.bool (decide (a0.Broker ≠ a1.Broker))) rfl rfl ?_
 rcases Bool.eq_false_or_eq_true (decide (a0.Broker ≠ a1.Broker)) with hb26 | hb26
 have h := ite_t hb26 h
 iterate 5 refine Of 18 rfl rfl hb26 rfl ?_
 refine Pu (.bool true) (PO.pickT rfl hb26 rfl) rfl ?_
 refine Pm (.bool true) rfl rfl ?_
 iterate 5 refine Of 25 rfl rfl rfl rfl ?_
 refine Pu (.bool true) (PO.pickT rfl rfl rfl) rfl ?_
 refine Pm (.bool true) rfl rfl ?_
 iterate 5 refine Of 32 rfl rfl rfl rfl ?_
 refine Pu (.bool true) (PO.pickT rfl rfl rfl) rfl ?_
 refine Pm (.bool true) rfl rfl ?_
 iterate 5 refine Of 39 rfl rfl rfl rfl ?_
 refine Pu (.bool true) (PO.pickT rfl rfl rfl) rfl ?_
 refine WL.nil ?_
 obtain rfl := Option.some.inj h
 refine WQ.thenJ ?_
 exact ⟨(IM.le.refl _), rfl, rfl, rfl, rfl⟩
 have h := ite_f hb26 h
 refine On 18 rfl rfl hb26 ?_
 refine Pu (pt g21 2) (PO.fieldAddr fo106_2 rfl rfl) rfl ?_
 refine On 18 rfl rfl hb26 ?_
 refine Pu (.int .i64 a0.Epoch) (PO.loadB 1 pl3 rfl rfl rfl) rfl ?_
 refine On 18 rfl rfl hb26 ?_
 refine Pu (pt g22 2) (PO.fieldAddr fo106_2 rfl rfl) rfl ?_
 refine On 18 rfl rfl hb26 ?_
 refine Pu (.int .i64 a1.Epoch) (PO.loadB 0 pl3 rfl rfl rfl) rfl ?_
 refine On 18 rfl rfl hb26 ?_
 refine Pu (.bool (decide (a0.Epoch ≠ a1.Epoch))) (PO.neq rfl rfl) rfl ?_
 refine Pu (.bool (decide (a0.Epoch ≠ a1.Epoch))) (PO.pickF rfl hb26 rfl) rfl ?_
 refine Pm (.bool (decide (a0.Epoch ≠ a1.Epoch))) rfl rfl ?_
 rcases Bool.eq_false_or_eq_true (decide (a0.Epoch ≠ a1.Epoch)) with hb27 | hb27
 have h := ite_t hb27 h
 iterate 5 refine Of 25 rfl rfl hb27 rfl ?_
 refine Pu (.bool true) (PO.pickT rfl hb27 rfl) rfl ?_
 refine Pm (.bool true) rfl rfl ?_
 iterate 5 refine Of 32 rfl rfl rfl rfl ?_
 refine Pu (.bool true) (PO.pickT rfl rfl rfl) rfl ?_
 refine Pm (.bool true) rfl rfl ?_
 iterate 5 refine Of 39 rfl rfl rfl rfl ?_
 refine Pu (.bool true) (PO.pickT rfl rfl rfl) rfl ?_
 refine WL.nil ?_
 obtain rfl := Option.some.inj h
 refine WQ.thenJ ?_
 exact ⟨(IM.le.refl _), rfl, rfl, rfl, rfl⟩
 have h := ite_f hb27 h
 refine On 25 rfl rfl hb27 ?_
 refine Pu (pt g21 3) (PO.fieldAddr fo106_3 rfl rfl) rfl ?_
 refine On 25 rfl rfl hb27 ?_
 refine Pu (.int .i64 a0.Topic) (PO.loadB 1 pl3 rfl rfl rfl) rfl ?_
 refine On 25 rfl rfl hb27 ?_
 refine Pu (pt g22 3) (PO.fieldAddr fo106_3 rfl rfl) rfl ?_
 refine On 25 rfl rfl hb27 ?_
 refine Pu (.int .i64 a1.Topic) (PO.loadB 0 pl3 rfl rfl rfl) rfl ?_
 refine On 25 rfl rfl hb27 ?_
 refine Pu (.bool (decide (a0.Topic ≠ a1.Topic))) (PO.neq rfl rfl) rfl ?_
 refine Pu (.bool (decide (a0.Topic ≠ a1.Topic))) (PO.pickF rfl hb27 rfl) rfl ?_
 refine Pm (.bool (decide (a0.Topic ≠ a1.Topic))) rfl rfl ?_
 rcases Bool.eq_false_or_eq_true (decide (a0.Topic ≠ a1.Topic)) with hb28 | hb28
 have h := ite_t hb28 h
 iterate 5 refine Of 32 rfl rfl hb28 rfl ?_
 refine Pu (.bool true) (PO.pickT rfl hb28 rfl) rfl ?_
 refine Pm (.bool true) rfl rfl ?_
 iterate 5 refine Of 39 rfl rfl rfl rfl ?_
 refine Pu (.bool true) (PO.pickT rfl rfl rfl) rfl ?_
 refine WL.nil ?_
 obtain rfl := Option.some.inj h
 refine WQ.thenJ ?_
 exact ⟨(IM.le.refl _), rfl, rfl, rfl, rfl⟩
 have h := ite_f hb28 h
 refine On 32 rfl rfl hb28 ?_
 refine Pu (pt g21 4) (PO.fieldAddr fo106_4 rfl rfl) rfl ?_
 refine On 32 rfl rfl hb28 ?_
 refine Pu (.int .i64 a0.Part) (PO.loadB 1 pl3 rfl rfl rfl) rfl ?_
 refine On 32 rfl rfl hb28 ?_
 refine Pu (pt g22 4) (PO.fieldAddr fo106_4 rfl rfl) rfl ?_
 refine On 32 rfl rfl hb28 ?_
 refine Pu (.int .i64 a1.Part) (PO.loadB 0 pl3 rfl rfl rfl) rfl ?_
 refine On 32 rfl rfl hb28 ?_
 refine Pu (.bool (decide (a0.Part ≠ a1.Part))) (PO.neq rfl rfl) rfl ?_
 refine Pu (.bool (decide (a0.Part ≠ a1.Part))) (PO.pickF rfl hb28 rfl) rfl ?_
 refine Pm (.bool (decide (a0.Part ≠ a1.Part))) rfl rfl ?_
 rcases Bool.eq_false_or_eq_true (decide (a0.Part ≠ a1.Part)) with hb29 | hb29
 have h := ite_t hb29 h
 iterate 5 refine Of 39 rfl rfl hb29 rfl ?_
 refine Pu (.bool true) (PO.pickT rfl hb29 rfl) rfl ?_
 refine WL.nil ?_
 obtain rfl := Option.some.inj h
 refine WQ.thenJ ?_
 exact ⟨(IM.le.refl _), rfl, rfl, rfl, rfl⟩
 have h := ite_f hb29 h
 refine On 39 rfl rfl hb29 ?_
 refine Pu (pt g21 5) (PO.fieldAddr fo106_5 rfl rfl) rfl ?_
 refine On 39 rfl rfl hb29 ?_
 refine Pu (.int .i64 a0.Leader) (PO.loadB 1 pl3 rfl rfl rfl) rfl ?_
 refine On 39 rfl rfl hb29 ?_
 refine Pu (pt g22 5) (PO.fieldAddr fo106_5 rfl rfl) rfl ?_
 refine On 39 rfl rfl hb29 ?_
 refine Pu (.int .i64 a1.Leader) (PO.loadB 0 pl3 rfl rfl rfl) rfl ?_
 refine On 39 rfl rfl hb29 ?_
 refine Pu (.bool (decide (a0.Leader ≠ a1.Leader))) (PO.neq rfl rfl) rfl ?_
 refine Pu (.bool (decide (a0.Leader ≠ a1.Leader))) (PO.pickF rfl hb29 rfl) rfl ?_
 refine WL.nil ?_
 obtain rfl := Option.some.inj h
 refine WQ.thenJ ?_
 exact ⟨(IM.le.refl _), rfl, rfl, rfl, rfl⟩
 rintro ρ24 M24 H24 ⟨hle24, rfl, hs24_2, hs24_3, hs24_45⟩
 have h1_14 := h1_14.mono hle24
 have h1_15 := h1_15.mono hle24
 have h1_16 := h1_16.mono hle24
 have h1_17 := h1_17.mono hle24
 have h0_14 := h0_14.mono hle24
 have h0_15 := h0_15.mono hle24
 have h0_16 := h0_16.mono hle24
 have h0_17 := h0_17.mono hle24
 refine WC.cond (b := x23) hs24_45 (fun hb30 => ?_) (fun hb30 => ?_)
 have h := ite_t hb30 h
 refine Sr ?_
 refine Pa (.bool false) rfl rfl ?_
 refine Nt ?_
 refine WC.ret ?_
 refine WQ.thenR ?_
 refine WQ.drop ?_
 refine WQ.drop ?_
 exact WQ.returnsF h [] rfl (results1 rfl rfl) hle24 ⟨rfl, rfl⟩
 have h := ite_f hb30 h
 refine WC.skip ?_
 refine WQ.thenC ?_
 refine WC.seq ?_
 obtain ⟨x31, hj32, h⟩ := bnd h
 refine WC.joinF (fun (x31 : Bool) ρ' M' H' => M24.le M' ∧ [(g22, .cells (l106 a1 v1_14 v1_15 v1_16 v1_17).toArray 106 (0, 0))] :: [(g21, .cells (l106 a0 v0_14 v0_15 v0_16 v0_17).toArray 106 (0, 0))] :: F = H' ∧ ρ' 2 = (pt g21 0) ∧ ρ' 3 = (pt g22 0) ∧ ρ' 71 = (.bool x31)) x31 ?_ ?_
 have h332 := h
 have h := hj32
 refine WC.region ?_
 refine Pu (pt g21 6) (PO.fieldAddr fo106_6 hs24_2 rfl) rfl ?_
 refine Pu (.int .i64 a0.Client) (PO.loadB 1 pl3 rfl rfl rfl) rfl ?_
 refine Pu (pt g22 6) (PO.fieldAddr fo106_6 hs24_3 rfl) rfl ?_
 refine Pu (.int .i64 a1.Client) (PO.loadB 0 pl3 rfl rfl rfl) rfl ?_
 refine Pu (.bool (decide (a0.Client ≠ a1.Client))) (PO.neq rfl rfl) rfl ?_
 refine Pm (.bool (decide (a0.Client ≠ a1.Client))) rfl rfl ?_
 rcases Bool.eq_false_or_eq_true (decide (a0.Client ≠ a1.Client)) with hb33 | hb33
 have h := ite_t hb33 h
 iterate 5 refine Of 51 rfl rfl hb33 rfl ?_
 refine Pu (.bool true) (PO.pickT rfl hb33 rfl) rfl ?_
 refine Pm (.bool true) rfl rfl ?_
 iterate 5 refine Of 58 rfl rfl rfl rfl ?_
 refine Pu (.bool true) (PO.pickT rfl rfl rfl) rfl ?_
 refine Pm (.bool true) rfl rfl ?_
 iterate 5 refine Of 65 rfl rfl rfl rfl ?_
 refine Pu (.bool true) (PO.pickT rfl rfl rfl) rfl ?_
 refine WL.nil ?_
 obtain rfl := Option.some.inj h
 refine WQ.thenJ ?_
 exact ⟨(IM.le.refl _), rfl, hs24_2, hs24_3, rfl⟩
 have h := ite_f hb33 h
 refine On 51 rfl rfl hb33 ?_
 refine Pu (pt g21 7) (PO.fieldAddr fo106_7 hs24_2 rfl) rfl ?_
 refine On 51 rfl rfl hb33 ?_
 refine Pu (.int .i64 a0.Serial) (PO.loadB 1 pl3 rfl rfl rfl) rfl ?_
 refine On 51 rfl rfl hb33 ?_
 refine Pu (pt g22 7) (PO.fieldAddr fo106_7 hs24_3 rfl) rfl ?_
 refine On 51 rfl rfl hb33 ?_
 refine Pu (.int .i64 a1.Serial) (PO.loadB 0 pl3 rfl rfl rfl) rfl ?_
 refine On 51 rfl rfl hb33 ?_
 refine Pu (.bool (decide (a0.Serial ≠ a1.Serial))) (PO.neq rfl rfl) rfl ?_
 refine Pu (.bool (decide (a0.Serial ≠ a1.Serial))) (PO.pickF rfl hb33 rfl) rfl ?_
 refine Pm (.bool (decide (a0.Serial ≠ a1.Serial))) rfl rfl ?_
 rcases Bool.eq_false_or_eq_true (decide (a0.Serial ≠ a1.Serial)) with hb34 | hb34
 have h := ite_t hb34 h
 iterate 5 refine Of 58 rfl rfl hb34 rfl ?_
 refine Pu (.bool true) (PO.pickT rfl hb34 rfl) rfl ?_
 refine Pm (.bool true) rfl rfl ?_
 iterate 5 refine Of 65 rfl rfl rfl rfl ?_
 refine Pu (.bool true) (PO.pickT rfl rfl rfl) rfl ?_
 refine WL.nil ?_
 obtain rfl := Option.some.inj h
 refine WQ.thenJ ?_
 exact ⟨(IM.le.refl _), rfl, hs24_2, hs24_3, rfl⟩
 have h := ite_f hb34 h
 refine On 58 rfl rfl hb34 ?_
 refine Pu (pt g21 8) (PO.fieldAddr fo106_8 hs24_2 rfl) rfl ?_
 refine On 58 rfl rfl hb34 ?_
 refine Pu (.int .i64 a0.Code) (PO.loadB 1 pl3 rfl rfl rfl) rfl ?_
 refine On 58 rfl rfl hb34 ?_
 refine Pu (pt g22 8) (PO.fieldAddr fo106_8 hs24_3 rfl) rfl ?_
 refine On 58 rfl rfl hb34 ?_
 refine Pu (.int .i64 a1.Code) (PO.loadB 0 pl3 rfl rfl rfl) rfl ?_
 refine On 58 rfl rfl hb34 ?_
 refine Pu (.bool (decide (a0.Code ≠ a1.Code))) (PO.neq rfl rfl) rfl ?_
 refine Pu (.bool (decide (a0.Code ≠ a1.Code))) (PO.pickF rfl hb34 rfl) rfl ?_
 refine Pm (.bool (decide (a0.Code ≠ a1.Code))) rfl rfl ?_
 rcases Bool.eq_false_or_eq_true (decide (a0.Code ≠ a1.Code)) with hb35 | hb35
 have h := ite_t hb35 h
 iterate 5 refine Of 65 rfl rfl hb35 rfl ?_
 refine Pu (.bool true) (PO.pickT rfl hb35 rfl) rfl ?_
 refine WL.nil ?_
 obtain rfl := Option.some.inj h
 refine WQ.thenJ ?_
 exact ⟨(IM.le.refl _), rfl, hs24_2, hs24_3, rfl⟩
 have h := ite_f hb35 h
 refine On 65 rfl rfl hb35 ?_
 refine Pu (pt g21 9) (PO.fieldAddr fo106_9 hs24_2 rfl) rfl ?_
 refine On 65 rfl rfl hb35 ?_
 refine Pu (.bool a0.Flag) (PO.loadB 1 pl4 rfl rfl rfl) rfl ?_
 refine On 65 rfl rfl hb35 ?_
 refine Pu (pt g22 9) (PO.fieldAddr fo106_9 hs24_3 rfl) rfl ?_
 refine On 65 rfl rfl hb35 ?_
 refine Pu (.bool a1.Flag) (PO.loadB 0 pl4 rfl rfl rfl) rfl ?_
 refine On 65 rfl rfl hb35 ?_
 refine Pu (.bool (!(a0.Flag == a1.Flag))) (PO.bneq Tryd.underlying4 rfl rfl) rfl ?_
 refine Pu (.bool (!(a0.Flag == a1.Flag))) (PO.pickF rfl hb35 rfl) rfl ?_
 refine WL.nil ?_
 obtain rfl := Option.some.inj h
 refine WQ.thenJ ?_
 exact ⟨(IM.le.refl _), rfl, hs24_2, hs24_3, rfl⟩
 rintro ρ32 M32 H32 ⟨hle32, rfl, hs32_2, hs32_3, hs32_71⟩
 have h1_14 := h1_14.mono hle32
 have h1_15 := h1_15.mono hle32
 have h1_16 := h1_16.mono hle32
 have h1_17 := h1_17.mono hle32
 have h0_14 := h0_14.mono hle32
 have h0_15 := h0_15.mono hle32
 have h0_16 := h0_16.mono hle32
 have h0_17 := h0_17.mono hle32
 refine WC.cond (b := x31) hs32_71 (fun hb36 => ?_) (fun hb36 => ?_)
 have h := ite_t hb36 h
 refine Sr ?_
 refine Pa (.bool false) rfl rfl ?_
 refine Nt ?_
 refine WC.ret ?_
 refine WQ.thenR ?_
 refine WQ.drop ?_
 refine WQ.drop ?_
 exact WQ.returnsF h [] rfl (results1 rfl rfl) (hle24.trans hle32) ⟨rfl, rfl⟩
 have h := ite_f hb36 h
 refine WC.skip ?_
 refine WQ.thenC ?_
 refine WC.seq ?_
 obtain ⟨x37, hj38, h⟩ := bnd h
 refine WC.joinF (fun (x37 : Bool) ρ' M' H' => M32.le M' ∧ [(g22, .cells (l106 a1 v1_14 v1_15 v1_16 v1_17).toArray 106 (0, 0))] :: [(g21, .cells (l106 a0 v0_14 v0_15 v0_16 v0_17).toArray 106 (0, 0))] :: F = H' ∧ ρ' 2 = (pt g21 0) ∧ ρ' 3 = (pt g22 0) ∧ ρ' 97 = (.bool x37)) x37 ?_ ?_
 have h338 := h
 have h := hj38
 refine WC.region ?_
 refine Pu (pt g21 10) (PO.fieldAddr fo106_10 hs32_2 rfl) rfl ?_
 refine Pu (.string a0.Name) (PO.loadB 1 pl9 rfl rfl rfl) rfl ?_
 refine Pu (pt g22 10) (PO.fieldAddr fo106_10 hs32_3 rfl) rfl ?_
 refine Pu (.string a1.Name) (PO.loadB 0 pl9 rfl rfl rfl) rfl ?_
 refine Pu (.bool (!decide (a0.Name = a1.Name))) (PO.sneq rfl rfl) rfl ?_
 refine Pm (.bool (!decide (a0.Name = a1.Name))) rfl rfl ?_
 rcases Bool.eq_false_or_eq_true (!decide (a0.Name = a1.Name)) with hb39 | hb39
 have h := ite_t hb39 h
 iterate 5 refine Of 77 rfl rfl hb39 rfl ?_
 refine Pu (.bool true) (PO.pickT rfl hb39 rfl) rfl ?_
 refine Pm (.bool true) rfl rfl ?_
 iterate 5 refine Of 84 rfl rfl rfl rfl ?_
 refine Pu (.bool true) (PO.pickT rfl rfl rfl) rfl ?_
 refine Pm (.bool true) rfl rfl ?_
 iterate 5 refine Of 91 rfl rfl rfl rfl ?_
 refine Pu (.bool true) (PO.pickT rfl rfl rfl) rfl ?_
 refine WL.nil ?_
 obtain rfl := Option.some.inj h
 refine WQ.thenJ ?_
 exact ⟨(IM.le.refl _), rfl, hs32_2, hs32_3, rfl⟩
 have h := ite_f hb39 h
 refine On 77 rfl rfl hb39 ?_
 refine Pu (pt g21 11) (PO.fieldAddr fo106_11 hs32_2 rfl) rfl ?_
 refine On 77 rfl rfl hb39 ?_
 refine Pu (.string a0.Key) (PO.loadB 1 pl9 rfl rfl rfl) rfl ?_
 refine On 77 rfl rfl hb39 ?_
 refine Pu (pt g22 11) (PO.fieldAddr fo106_11 hs32_3 rfl) rfl ?_
 refine On 77 rfl rfl hb39 ?_
 refine Pu (.string a1.Key) (PO.loadB 0 pl9 rfl rfl rfl) rfl ?_
 refine On 77 rfl rfl hb39 ?_
 refine Pu (.bool (!decide (a0.Key = a1.Key))) (PO.sneq rfl rfl) rfl ?_
 refine Pu (.bool (!decide (a0.Key = a1.Key))) (PO.pickF rfl hb39 rfl) rfl ?_
 refine Pm (.bool (!decide (a0.Key = a1.Key))) rfl rfl ?_
 rcases Bool.eq_false_or_eq_true (!decide (a0.Key = a1.Key)) with hb40 | hb40
 have h := ite_t hb40 h
 iterate 5 refine Of 84 rfl rfl hb40 rfl ?_
 refine Pu (.bool true) (PO.pickT rfl hb40 rfl) rfl ?_
 refine Pm (.bool true) rfl rfl ?_
 iterate 5 refine Of 91 rfl rfl rfl rfl ?_
 refine Pu (.bool true) (PO.pickT rfl rfl rfl) rfl ?_
 refine WL.nil ?_
 obtain rfl := Option.some.inj h
 refine WQ.thenJ ?_
 exact ⟨(IM.le.refl _), rfl, hs32_2, hs32_3, rfl⟩
 have h := ite_f hb40 h
 refine On 84 rfl rfl hb40 ?_
 refine Pu (pt g21 12) (PO.fieldAddr fo106_12 hs32_2 rfl) rfl ?_
 refine On 84 rfl rfl hb40 ?_
 refine Pu (.string a0.Value) (PO.loadB 1 pl9 rfl rfl rfl) rfl ?_
 refine On 84 rfl rfl hb40 ?_
 refine Pu (pt g22 12) (PO.fieldAddr fo106_12 hs32_3 rfl) rfl ?_
 refine On 84 rfl rfl hb40 ?_
 refine Pu (.string a1.Value) (PO.loadB 0 pl9 rfl rfl rfl) rfl ?_
 refine On 84 rfl rfl hb40 ?_
 refine Pu (.bool (!decide (a0.Value = a1.Value))) (PO.sneq rfl rfl) rfl ?_
 refine Pu (.bool (!decide (a0.Value = a1.Value))) (PO.pickF rfl hb40 rfl) rfl ?_
 refine Pm (.bool (!decide (a0.Value = a1.Value))) rfl rfl ?_
 rcases Bool.eq_false_or_eq_true (!decide (a0.Value = a1.Value)) with hb41 | hb41
 have h := ite_t hb41 h
 iterate 5 refine Of 91 rfl rfl hb41 rfl ?_
 refine Pu (.bool true) (PO.pickT rfl hb41 rfl) rfl ?_
 refine WL.nil ?_
 obtain rfl := Option.some.inj h
 refine WQ.thenJ ?_
 exact ⟨(IM.le.refl _), rfl, hs32_2, hs32_3, rfl⟩
 have h := ite_f hb41 h
 refine On 91 rfl rfl hb41 ?_
 refine Pu (pt g21 13) (PO.fieldAddr fo106_13 hs32_2 rfl) rfl ?_
 refine On 91 rfl rfl hb41 ?_
 refine Pu (.string a0.Rack) (PO.loadB 1 pl9 rfl rfl rfl) rfl ?_
 refine On 91 rfl rfl hb41 ?_
 refine Pu (pt g22 13) (PO.fieldAddr fo106_13 hs32_3 rfl) rfl ?_
 refine On 91 rfl rfl hb41 ?_
 refine Pu (.string a1.Rack) (PO.loadB 0 pl9 rfl rfl rfl) rfl ?_
 refine On 91 rfl rfl hb41 ?_
 refine Pu (.bool (!decide (a0.Rack = a1.Rack))) (PO.sneq rfl rfl) rfl ?_
 refine Pu (.bool (!decide (a0.Rack = a1.Rack))) (PO.pickF rfl hb41 rfl) rfl ?_
 refine WL.nil ?_
 obtain rfl := Option.some.inj h
 refine WQ.thenJ ?_
 exact ⟨(IM.le.refl _), rfl, hs32_2, hs32_3, rfl⟩
 rintro ρ38 M38 H38 ⟨hle38, rfl, hs38_2, hs38_3, hs38_97⟩
 have h1_14 := h1_14.mono hle38
 have h1_15 := h1_15.mono hle38
 have h1_16 := h1_16.mono hle38
 have h1_17 := h1_17.mono hle38
 have h0_14 := h0_14.mono hle38
 have h0_15 := h0_15.mono hle38
 have h0_16 := h0_16.mono hle38
 have h0_17 := h0_17.mono hle38
 refine WC.cond (b := x37) hs38_97 (fun hb42 => ?_) (fun hb42 => ?_)
 have h := ite_t hb42 h
 refine Sr ?_
 refine Pa (.bool false) rfl rfl ?_
 refine Nt ?_
 refine WC.ret ?_
 refine WQ.thenR ?_
 refine WQ.drop ?_
 refine WQ.drop ?_
 exact WQ.returnsF h [] rfl (results1 rfl rfl) ((hle24.trans hle32).trans hle38) ⟨rfl, rfl⟩
 have h := ite_f hb42 h
 refine WC.skip ?_
 refine WQ.thenC ?_
 obtain ⟨x43, hj44, h⟩ := bnd h
 refine WC.joinF (fun (x43 : Bool) ρ' M' H' => M38.le M' ∧ [(g22, .cells (l106 a1 v1_14 v1_15 v1_16 v1_17).toArray 106 (0, 0))] :: [(g21, .cells (l106 a0 v0_14 v0_15 v0_16 v0_17).toArray 106 (0, 0))] :: F = H' ∧ ρ' 2 = (pt g21 0) ∧ ρ' 3 = (pt g22 0) ∧ ρ' 5 = (.bool x43)) x43 ?_ ?_
 have h344 := h
 have h := hj44
 refine WC.region ?_
 refine Pu (pt g21 14) (PO.fieldAddr fo106_14 hs38_2 rfl) rfl ?_
 refine Pu v0_14 (PO.loadB 1 pl95 rfl rfl rfl) rfl ?_
 refine Pu (pt g22 14) (PO.fieldAddr fo106_14 hs38_3 rfl) rfl ?_
 refine Pu v1_14 (PO.loadB 0 pl95 rfl rfl rfl) rfl ?_
 obtain ⟨r45, hr46, h⟩ := bnd h
 refine WL.eff (EO.call0 co88 (f_ref02_Ints_ok a0.Ids a1.Ids _ _ _ h0_14 h1_14 r45 hr46) (args2 rfl rfl)) rfl ?_
 rintro _ M47 _ hle48 ⟨_, ⟨rfl, rfl⟩, rfl⟩
 have h0_14 := h0_14.mono hle48
 have h1_14 := h1_14.mono hle48
 have h1_15 := h1_15.mono hle48
 have h1_16 := h1_16.mono hle48
 have h1_17 := h1_17.mono hle48
 have h0_15 := h0_15.mono hle48
 have h0_16 := h0_16.mono hle48
 have h0_17 := h0_17.mono hle48
 refine WL.a0 ?_
 refine Pm (.bool r45) rfl rfl ?_
 rcases Bool.eq_false_or_eq_true (r45) with hb50 | hb50
 have h := ite_t hb50 h
 refine On 103 rfl rfl hb50 ?_
 refine Pu (pt g21 15) (PO.fieldAddr fo106_15 hs38_2 rfl) rfl ?_
 refine On 103 rfl rfl hb50 ?_
 refine Pu v0_15 (PO.loadB 1 pl95 rfl rfl rfl) rfl ?_
 refine On 103 rfl rfl hb50 ?_
 refine Pu (pt g22 15) (PO.fieldAddr fo106_15 hs38_3 rfl) rfl ?_
 refine On 103 rfl rfl hb50 ?_
 refine Pu v1_15 (PO.loadB 0 pl95 rfl rfl rfl) rfl ?_
 refine On 103 rfl rfl hb50 ?_
 obtain ⟨r51, hr52, h⟩ := bnd h
 refine WL.eff (EO.call0 co88 (f_ref02_Ints_ok a0.Isr a1.Isr _ _ _ h0_15 h1_15 r51 hr52) (args2 rfl rfl)) rfl ?_
 rintro _ M53 _ hle54 ⟨_, ⟨rfl, rfl⟩, rfl⟩
 have h0_14 := h0_14.mono hle54
 have h1_14 := h1_14.mono hle54
 have h0_15 := h0_15.mono hle54
 have h1_15 := h1_15.mono hle54
 have h1_16 := h1_16.mono hle54
 have h1_17 := h1_17.mono hle54
 have h0_16 := h0_16.mono hle54
 have h0_17 := h0_17.mono hle54
 refine WL.a0 ?_
 refine Pu (.bool r51) (PO.pickT rfl hb50 rfl) rfl ?_
 refine Pa (.bool r51) rfl rfl ?_
 refine WL.nil ?_
 obtain rfl := Option.some.inj h
 refine WQ.thenJ ?_
 exact ⟨(hle48.trans hle54), rfl, hs38_2, hs38_3, rfl⟩
 have h := ite_f hb50 h
 iterate 5 refine Of 103 rfl rfl hb50 rfl ?_
 refine Pu (.bool false) (PO.pickF rfl hb50 rfl) rfl ?_
 refine Pa (.bool false) rfl rfl ?_
 refine WL.nil ?_
 obtain rfl := Option.some.inj h
 refine WQ.thenJ ?_
 exact ⟨hle48, rfl, hs38_2, hs38_3, rfl⟩
 rintro ρ44 M44 H44 ⟨hle44, rfl, hs44_2, hs44_3, hs44_5⟩
 have h1_14 := h1_14.mono hle44
 have h1_15 := h1_15.mono hle44
 have h1_16 := h1_16.mono hle44
 have h1_17 := h1_17.mono hle44
 have h0_14 := h0_14.mono hle44
 have h0_15 := h0_15.mono hle44
 have h0_16 := h0_16.mono hle44
 have h0_17 := h0_17.mono hle44
 obtain ⟨x56, hj57, h⟩ := bnd h
 refine WC.joinF (fun (x56 : Bool) ρ' M' H' => M44.le M' ∧ [(g22, .cells (l106 a1 v1_14 v1_15 v1_16 v1_17).toArray 106 (0, 0))] :: [(g21, .cells (l106 a0 v0_14 v0_15 v0_16 v0_17).toArray 106 (0, 0))] :: F = H' ∧ ρ' 4 = (.bool x56)) x56 ?_ ?_
 have h357 := h
 have h := hj57
 refine WC.region ?_
 refine Pm (.bool x43) hs44_5 rfl ?_
 refine Pm (.bool x43) rfl rfl ?_
 rcases Bool.eq_false_or_eq_true (x43) with hb58 | hb58
 have h := ite_t hb58 h
 refine On 111 rfl rfl hb58 ?_
 refine Pu (pt g21 16) (PO.fieldAddr fo106_16 hs44_2 rfl) rfl ?_
 refine On 111 rfl rfl hb58 ?_
 refine Pu v0_16 (PO.loadB 1 pl95 rfl rfl rfl) rfl ?_
 refine On 111 rfl rfl hb58 ?_
 refine Pu (pt g22 16) (PO.fieldAddr fo106_16 hs44_3 rfl) rfl ?_
 refine On 111 rfl rfl hb58 ?_
 refine Pu v1_16 (PO.loadB 0 pl95 rfl rfl rfl) rfl ?_
 refine On 111 rfl rfl hb58 ?_
 obtain ⟨r59, hr60, h⟩ := bnd h
 refine WL.eff (EO.call0 co88 (f_ref02_Ints_ok a0.Add a1.Add _ _ _ h0_16 h1_16 r59 hr60) (args2 rfl rfl)) rfl ?_
 rintro _ M61 _ hle62 ⟨_, ⟨rfl, rfl⟩, rfl⟩
 have h0_16 := h0_16.mono hle62
 have h1_16 := h1_16.mono hle62
 have h1_14 := h1_14.mono hle62
 have h1_15 := h1_15.mono hle62
 have h1_17 := h1_17.mono hle62
 have h0_14 := h0_14.mono hle62
 have h0_15 := h0_15.mono hle62
 have h0_17 := h0_17.mono hle62
 refine WL.a0 ?_
 refine Pu (.bool r59) (PO.pickT rfl hb58 rfl) rfl ?_
 refine Pm (.bool r59) rfl rfl ?_
 rcases Bool.eq_false_or_eq_true (r59) with hb64 | hb64
 have h := ite_t hb64 h
 refine On 118 rfl rfl hb64 ?_
 refine Pu (pt g21 17) (PO.fieldAddr fo106_17 hs44_2 rfl) rfl ?_
 refine On 118 rfl rfl hb64 ?_
 refine Pu v0_17 (PO.loadB 1 pl95 rfl rfl rfl) rfl ?_
 refine On 118 rfl rfl hb64 ?_
 refine Pu (pt g22 17) (PO.fieldAddr fo106_17 hs44_3 rfl) rfl ?_
 refine On 118 rfl rfl hb64 ?_
 refine Pu v1_17 (PO.loadB 0 pl95 rfl rfl rfl) rfl ?_
 refine On 118 rfl rfl hb64 ?_
 obtain ⟨r65, hr66, h⟩ := bnd h
 refine WL.eff (EO.call0 co88 (f_ref02_Ints_ok a0.Drop a1.Drop _ _ _ h0_17 h1_17 r65 hr66) (args2 rfl rfl)) rfl ?_
 rintro _ M67 _ hle68 ⟨_, ⟨rfl, rfl⟩, rfl⟩
 have h0_16 := h0_16.mono hle68
 have h1_16 := h1_16.mono hle68
 have h0_17 := h0_17.mono hle68
 have h1_17 := h1_17.mono hle68
 have h1_14 := h1_14.mono hle68
 have h1_15 := h1_15.mono hle68
 have h0_14 := h0_14.mono hle68
 have h0_15 := h0_15.mono hle68
 refine WL.a0 ?_
 refine Pu (.bool r65) (PO.pickT rfl hb64 rfl) rfl ?_
 refine Pa (.bool r65) rfl rfl ?_
 refine WL.nil ?_
 obtain rfl := Option.some.inj h
 refine WQ.thenJ ?_
 exact ⟨(hle62.trans hle68), rfl, rfl⟩
 have h := ite_f hb64 h
 iterate 5 refine Of 118 rfl rfl hb64 rfl ?_
 refine Pu (.bool false) (PO.pickF rfl hb64 rfl) rfl ?_
 refine Pa (.bool false) rfl rfl ?_
 refine WL.nil ?_
 obtain rfl := Option.some.inj h
 refine WQ.thenJ ?_
 exact ⟨hle62, rfl, rfl⟩
 have h := ite_f hb58 h
 iterate 5 refine Of 111 rfl rfl hb58 rfl ?_
 refine Pu (.bool false) (PO.pickF rfl hb58 rfl) rfl ?_
 refine Pm (.bool false) rfl rfl ?_
 iterate 5 refine Of 118 rfl rfl rfl rfl ?_
 refine Pu (.bool false) (PO.pickF rfl rfl rfl) rfl ?_
 refine Pa (.bool false) rfl rfl ?_
 refine WL.nil ?_
 obtain rfl := Option.some.inj h
 refine WQ.thenJ ?_
 exact ⟨(IM.le.refl _), rfl, rfl⟩
 rintro ρ57 M57 H57 ⟨hle57, rfl, hs57_4⟩
 have h1_14 := h1_14.mono hle57
 have h1_15 := h1_15.mono hle57
 have h1_16 := h1_16.mono hle57
 have h1_17 := h1_17.mono hle57
 have h0_14 := h0_14.mono hle57
 have h0_15 := h0_15.mono hle57
 have h0_16 := h0_16.mono hle57
 have h0_17 := h0_17.mono hle57
 refine WC.ret ?_
 refine WQ.drop ?_
 refine WQ.drop ?_
 exact WQ.returnsF h [] rfl (results1 rfl hs57_4) ((((hle24.trans hle32).trans hle38).trans hle44).trans hle57) ⟨rfl, rfl⟩

noncomputable def f_ref06_Same_l0 (a0 : T_api_Batch) (a1 : T_api_Batch) (s_ : Int) : Option (Int ⊕ (Unit ⊕ Unit)) :=
  match s_ with
  | x30 =>
    (if (decide (x30 < (a0.Records.length : Int))) = true then (grd (0 ≤ x30 ∧ x30 < a0.Records.length) (grd (0 ≤ x30 ∧ x30 < a1.Records.length) ((f_ref05_Same (rd a0.Records x30) (rd a1.Records x30)).bind fun (r46 : Bool) => (if (!r46) = true then (some (Sum.inr (Sum.inr ()))) else (some (Sum.inl (IntKind.i64.wrap (x30 + (1 : Int))))))))) else (some (Sum.inr (Sum.inl ()))))
noncomputable def f_ref06_Same (a0 : T_api_Batch) (a1 : T_api_Batch) : Option Bool :=
  (((if (decide (a0.Term ≠ a1.Term)) = true then (some true) else (if (decide (a0.Base ≠ a1.Base)) = true then (some true) else (some (decide ((a0.Records.length : Int) ≠ (a1.Records.length : Int)))))) : Option Bool).bind fun (x23 : Bool) => (if x23 = true then (some false) else ((((iter (f_ref06_Same_l0 a0 a1) (0 : Int)).bind (Sum.elim (fun _ => (some (Sum.inl ()))) (fun _ => (((some false)).bind fun r => some (Sum.inr r))))) : Option (Unit ⊕ Bool)).bind (Sum.elim (fun _ => (some true)) some))))
def f_ref06_Same_post (a0 : T_api_Batch) (a1 : T_api_Batch) (v0_2 v1_2 : Value) : Bool → Value → IM → HL → Prop :=
  fun (r0 : Bool) (v : Value) (M' : IM) (H' : HL) => (.bool r0) = v ∧ H' = []
theorem f_ref06_Same_ok (a0 : T_api_Batch) (a1 : T_api_Batch) (M : IM) (v0_2 v1_2 : Value) (h0_2 : RS kd_api_Record M v0_2 a0.Records) (h1_2 : RS kd_api_Record M v1_2 a1.Records) (res : Bool) (h : f_ref06_Same a0 a1 = some res) :
    Tri Tryd.prog 31 #[(a66_ a0 v0_2), (a66_ a1 v1_2)] M [] (f_ref06_Same_post a0 a1 v0_2 v1_2 res) := by
 unfold f_ref06_Same at h
 refine Tri.enter (fn := Tryd.f31) Tryd.func31 rfl (Nat.le_of_ble_eq_true rfl) ?_
 intro F ρ hρ
 refine Sr ?_
 refine WL.eff (EO.box (cs := (l66 a0 v0_2).toArray) (congrArg Value.cells (asE (a66_ a0 v0_2) (hρ 0)))) rfl ?_
 rintro _ _ _ - ⟨rfl, g21, rfl, rfl⟩
 refine WL.eff (EO.box (cs := (l66 a1 v1_2).toArray) (congrArg Value.cells (asE (a66_ a1 v1_2) (hρ 1)))) rfl ?_
 rintro _ _ _ - ⟨rfl, g22, rfl, rfl⟩
 refine Pa (.bool false) rfl rfl ?_
 refine Nt ?_
 refine WC.seq ?_
 obtain ⟨x23, hj24, h⟩ := bnd h
 refine WC.joinF (fun (x23 : Bool) ρ' M' H' => M.le M' ∧ [(g22, .cells (l66 a1 v1_2).toArray 66 (0, 0))] :: [(g21, .cells (l66 a0 v0_2).toArray 66 (0, 0))] :: F = H' ∧ ρ' 2 = (pt g21 0) ∧ ρ' 3 = (pt g22 0) ∧ ρ' 26 = (.bool x23)) x23 ?_ ?_
 have h324 := h
 have h := hj24
 refine WC.region ?_
 refine Pu (pt g21 0) (PO.fieldAddr fo66_0 rfl rfl) rfl ?_
 refine Pu (.int .i64 a0.Term) (PO.loadB 1 pl3 rfl rfl rfl) rfl ?_
 refine Pu (pt g22 0) (PO.fieldAddr fo66_0 rfl rfl) rfl ?_
 refine Pu (.int .i64 a1.Term) (PO.loadB 0 pl3 rfl rfl rfl) rfl ?_
 refine Pu (.bool (decide (a0.Term ≠ a1.Term))) (PO.neq rfl rfl) rfl ?_
 refine Pm (.bool (decide (a0.Term ≠ a1.Term))) rfl rfl ?_
 rcases Bool.eq_false_or_eq_true (decide (a0.Term ≠ a1.Term)) with hb25 | hb25
 have h := ite_t hb25 h
 iterate 5 refine Of 11 rfl rfl hb25 rfl ?_
 refine Pu (.bool true) (PO.pickT rfl hb25 rfl) rfl ?_
 refine Pm (.bool true) rfl rfl ?_
 iterate 7 refine Of 18 rfl rfl rfl rfl ?_
 refine Pu (.bool true) (PO.pickT rfl rfl rfl) rfl ?_
 refine WL.nil ?_
 obtain rfl := Option.some.inj h
 refine WQ.thenJ ?_
 exact ⟨(IM.le.refl _), rfl, rfl, rfl, rfl⟩
 have h := ite_f hb25 h
 refine On 11 rfl rfl hb25 ?_
 refine Pu (pt g21 1) (PO.fieldAddr fo66_1 rfl rfl) rfl ?_
 refine On 11 rfl rfl hb25 ?_
 refine Pu (.int .i64 a0.Base) (PO.loadB 1 pl3 rfl rfl rfl) rfl ?_
 refine On 11 rfl rfl hb25 ?_
 refine Pu (pt g22 1) (PO.fieldAddr fo66_1 rfl rfl) rfl ?_
 refine On 11 rfl rfl hb25 ?_
 refine Pu (.int .i64 a1.Base) (PO.loadB 0 pl3 rfl rfl rfl) rfl ?_
 refine On 11 rfl rfl hb25 ?_
 refine Pu (.bool (decide (a0.Base ≠ a1.Base))) (PO.neq rfl rfl) rfl ?_
 refine Pu (.bool (decide (a0.Base ≠ a1.Base))) (PO.pickF rfl hb25 rfl) rfl ?_
 refine Pm (.bool (decide (a0.Base ≠ a1.Base))) rfl rfl ?_
 rcases Bool.eq_false_or_eq_true (decide (a0.Base ≠ a1.Base)) with hb26 | hb26
 have h := ite_t hb26 h
 iterate 7 refine Of 18 rfl rfl hb26 rfl ?_
 refine Pu (.bool true) (PO.pickT rfl hb26 rfl) rfl ?_
 refine WL.nil ?_
 obtain rfl := Option.some.inj h
 refine WQ.thenJ ?_
 exact ⟨(IM.le.refl _), rfl, rfl, rfl, rfl⟩
 have h := ite_f hb26 h
 refine On 18 rfl rfl hb26 ?_
 refine Pu (pt g21 2) (PO.fieldAddr fo66_2 rfl rfl) rfl ?_
 refine On 18 rfl rfl hb26 ?_
 refine Pu v0_2 (PO.loadB 1 pl64 rfl rfl rfl) rfl ?_
 refine On 18 rfl rfl hb26 ?_
 refine Pu (.int .i64 (a0.Records.length : Int)) (PO.lenS Tryd.underlying64 rfl h0_2.len) rfl ?_
 refine On 18 rfl rfl hb26 ?_
 refine Pu (pt g22 2) (PO.fieldAddr fo66_2 rfl rfl) rfl ?_
 refine On 18 rfl rfl hb26 ?_
 refine Pu v1_2 (PO.loadB 0 pl64 rfl rfl rfl) rfl ?_
 refine On 18 rfl rfl hb26 ?_
 refine Pu (.int .i64 (a1.Records.length : Int)) (PO.lenS Tryd.underlying64 rfl h1_2.len) rfl ?_
 refine On 18 rfl rfl hb26 ?_
 refine Pu (.bool (decide ((a0.Records.length : Int) ≠ (a1.Records.length : Int)))) (PO.neq rfl rfl) rfl ?_
 refine Pu (.bool (decide ((a0.Records.length : Int) ≠ (a1.Records.length : Int)))) (PO.pickF rfl hb26 rfl) rfl ?_
 refine WL.nil ?_
 obtain rfl := Option.some.inj h
 refine WQ.thenJ ?_
 exact ⟨(IM.le.refl _), rfl, rfl, rfl, rfl⟩
 rintro ρ24 M24 H24 ⟨hle24, rfl, hs24_2, hs24_3, hs24_26⟩
 have h1_2 := h1_2.mono hle24
 have h0_2 := h0_2.mono hle24
 refine WC.cond (b := x23) hs24_26 (fun hb27 => ?_) (fun hb27 => ?_)
 have h := ite_t hb27 h
 refine Sr ?_
 refine Pa (.bool false) rfl rfl ?_
 refine Nt ?_
 refine WC.ret ?_
 refine WQ.thenR ?_
 refine WQ.drop ?_
 refine WQ.drop ?_
 exact WQ.returnsF h [] rfl (results1 rfl rfl) hle24 ⟨rfl, rfl⟩
 have h := ite_f hb27 h
 refine WC.skip ?_
 refine WQ.thenC ?_
 obtain ⟨j28, hj28, h⟩ := bnd h
 refine WC.joinE (fun (_ : Unit) ρ' M' H' => M24.le M' ∧ [(g22, .cells (l66 a1 v1_2).toArray 66 (0, 0))] :: [(g21, .cells (l66 a0 v0_2).toArray 66 (0, 0))] :: F = H') j28 ?_ ?_
 have h328 := h
 have h := hj28
 refine Sr ?_
 refine Pa (.int .i64 0) rfl rfl ?_
 refine Nt ?_
 refine WC.block ?_
 obtain ⟨e29, he29, hK29⟩ := bnd h
 clear h
 refine WC.loop he29 (fun (x30 : Int) ρ' M' H' => M24.le M' ∧ [(g22, .cells (l66 a1 v1_2).toArray 66 (0, 0))] :: [(g21, .cells (l66 a0 v0_2).toArray 66 (0, 0))] :: F = H' ∧ ρ' 2 = (pt g21 0) ∧ ρ' 3 = (pt g22 0) ∧ ρ' 5 = (.int .i64 x30)) ?_ ?_
 exact ⟨(IM.le.refl _), rfl, hs24_2, hs24_3, rfl⟩
 rintro x30 o29 ρ29 M29 H29 h ⟨hle29, rfl, hs29_2, hs29_3, hs29_5⟩
 unfold f_ref06_Same_l0 at h
 have h1_2 := h1_2.mono hle29
 have h0_2 := h0_2.mono hle29
 refine WC.seq ?_
 refine Sr ?_
 refine Pm (.int .i64 x30) hs29_5 rfl ?_
 refine Pu (pt g21 2) (PO.fieldAddr fo66_2 hs29_2 rfl) rfl ?_
 refine Pu v0_2 (PO.loadB 1 pl64 rfl rfl rfl) rfl ?_
 refine Pu (.int .i64 (a0.Records.length : Int)) (PO.lenS Tryd.underlying64 rfl h0_2.len) rfl ?_
 refine Pu (.bool (decide (x30 < (a0.Records.length : Int)))) (PO.lss rfl rfl) rfl ?_
 refine Nt ?_
 refine WC.cond (b := decide (x30 < (a0.Records.length : Int))) rfl (fun hb31 => ?_) (fun hb31 => ?_)
 have h := ite_t hb31 h
 refine WC.skip ?_
 refine WQ.thenC ?_
 refine WC.seq ?_
 refine WC.block ?_
 refine WC.seq ?_
 refine WC.draw [0, 1, 0, 7, 15, 0, 32, 0, 224, 480, 1023, 2047] (.pure 0 (.pure 1 (.pure 2 (.pure 3 (.pure 4 (.pure 5 (.pure 6 (.pure 7 (.pure 8 (.pure 9 (.alt 10 (.pure 11 .done) .none))))))))))) mixed (by kernel_rfl) ?_
 refine Tp (pt g21 2) rfl (PO.fieldAddr fo66_2 hs29_2 rfl) rfl ?_
 refine Tp v0_2 rfl (PO.loadB 1 pl64 rfl rfl rfl) rfl ?_
 refine Tp (.int .i64 x30) rfl (PO.move hs29_5) rfl ?_
 obtain ⟨hg32, h⟩ := grd_i h
 obtain ⟨p33, cs34, hat35, hrc36, hhas37⟩ := h0_2.at hg32.1 hg32.2 (by decide)
 obtain ⟨vw38_14, vw38_15, vw38_16, vw38_17, rfl, hw38_14, hw38_15, hw38_16, hw38_17⟩ := kd_api_Record_open hrc36
 refine Tp (.pointer (some p33)) rfl (PO.indexAddr (n := a0.Records.length) Tryd.underlying64 sz106 rfl rfl hg32.1 hg32.2 hat35) rfl ?_
 refine Tp (a106_ (rd a0.Records x30) vw38_14 vw38_15 vw38_16 vw38_17) rfl (PO.loadMA (cs := (l106 (rd a0.Records x30) vw38_14 vw38_15 vw38_16 vw38_17)) ag106 sz106 rfl hhas37) rfl ?_
 refine Tp (pt g22 2) rfl (PO.fieldAddr fo66_2 hs29_3 rfl) rfl ?_
 refine Tp v1_2 rfl (PO.loadB 0 pl64 rfl rfl rfl) rfl ?_
 refine Tp (.int .i64 x30) rfl (PO.move hs29_5) rfl ?_
 obtain ⟨hg39, h⟩ := grd_i h
 obtain ⟨p40, cs41, hat42, hrc43, hhas44⟩ := h1_2.at hg39.1 hg39.2 (by decide)
 obtain ⟨vw45_14, vw45_15, vw45_16, vw45_17, rfl, hw45_14, hw45_15, hw45_16, hw45_17⟩ := kd_api_Record_open hrc43
 refine Tp (.pointer (some p40)) rfl (PO.indexAddr (n := a1.Records.length) Tryd.underlying64 sz106 rfl rfl hg39.1 hg39.2 hat42) rfl ?_
 refine Tp (a106_ (rd a1.Records x30) vw45_14 vw45_15 vw45_16 vw45_17) rfl (PO.loadMA (cs := (l106 (rd a1.Records x30) vw45_14 vw45_15 vw45_16 vw45_17)) ag106 sz106 rfl hhas44) rfl ?_
 obtain ⟨r46, hr47, h⟩ := bnd h
 refine WT.alt rfl (EO.call0 co57 (f_ref05_Same_ok (rd a0.Records x30) (rd a1.Records x30) _ _ _ _ _ _ _ _ _ hw38_14 hw38_15 hw38_16 hw38_17 hw45_14 hw45_15 hw45_16 hw45_17 r46 hr47) (args2 rfl rfl)) rfl ?_ ?_
 rintro _ M48 _ hle49 ⟨_, ⟨rfl, rfl⟩, rfl⟩
 have h0_2 := h0_2.mono hle49
 have hhas37 := hhas37.mono hle49
 have hw38_14 := hw38_14.mono hle49
 have hw38_15 := hw38_15.mono hle49
 have hw38_16 := hw38_16.mono hle49
 have hw38_17 := hw38_17.mono hle49
 have h1_2 := h1_2.mono hle49
 have hhas44 := hhas44.mono hle49
 have hw45_14 := hw45_14.mono hle49
 have hw45_15 := hw45_15.mono hle49
 have hw45_16 := hw45_16.mono hle49
 have hw45_17 := hw45_17.mono hle49
 refine ⟨(StabL.anc rfl (StabL.anc rfl (StabL.anc rfl (StabL.anc rfl (StabL.anc rfl (StabL.anc rfl (StabL.anc rfl (StabL.anc rfl (StabL.anc rfl (StabL.anc rfl trivial)))))))))), ?_⟩
 refine WT.a0 ?_
 refine Tp (.bool (!r46)) rfl (PO.not rfl) rfl ?_
 refine WT.fin ?_
 refine WQ.thenC ?_
 refine WC.cond (b := !r46) rfl (fun hb51 => ?_) (fun hb51 => ?_)
 have h := ite_t hb51 h
 refine Sr ?_
 refine Pa (.bool false) rfl rfl ?_
 refine Nt ?_
 refine WC.ret ?_
 refine WQ.blockR ?_
 refine WQ.thenR ?_
 refine WQ.leaveR (Sum.inr ()) (Option.some.inj h).symm (fun heq29 => ?_)
 subst heq29
 have h := (elimR hK29)
 refine WQ.blockR ?_
 refine WQ.thenR ?_
 have h := KK.early h h328
 refine WQ.drop ?_
 refine WQ.drop ?_
 exact WQ.returnsF h [] rfl (results1 rfl rfl) ((hle24.trans hle29).trans hle49) ⟨rfl, rfl⟩
 have h := ite_f hb51 h
 refine WC.skip ?_
 refine WQ.blockN ?_
 refine WQ.thenC ?_
 refine WC.region ?_
 refine Pm (.int .i64 x30) hs29_5 rfl ?_
 refine Pu (.int .i64 (IntKind.i64.wrap (x30 + 1))) (PO.add rfl rfl) rfl ?_
 refine Pa (.int .i64 (IntKind.i64.wrap (x30 + 1))) rfl rfl ?_
 refine WL.nil ?_
 refine WQ.again (IntKind.i64.wrap (x30 + 1)) (Option.some.inj h).symm ?_
 exact ⟨(hle29.trans hle49), rfl, hs29_2, hs29_3, rfl⟩
 exact WT.no
 have h := ite_f hb31 h
 refine WC.exit ?_
 refine WQ.thenE ?_
 refine WQ.leaveE (Sum.inl ()) (Option.some.inj h).symm (fun heq29 => ?_)
 subst heq29
 have h := elimL hK29
 refine WQ.blockH ?_
 refine WQ.thenFE h ?_
 exact ⟨hle29, rfl⟩
 rintro _ ρ28 M28 H28 rfl ⟨hle28, rfl⟩
 have h := (Sum.elim_inl _ _ _).symm.trans h
 have h1_2 := h1_2.mono hle28
 have h0_2 := h0_2.mono hle28
 refine Sr ?_
 refine Pa (.bool true) rfl rfl ?_
 refine Nt ?_
 refine WC.ret ?_
 refine WQ.drop ?_
 refine WQ.drop ?_
 exact WQ.returnsF h [] rfl (results1 rfl rfl) (hle24.trans hle28) ⟨rfl, rfl⟩

noncomputable def f_ref02_Same_l0 (a0 : (List Int)) (a1 : (List Int)) (s_ : Int) : Option (Int ⊕ (Unit ⊕ Unit)) :=
  match s_ with
  | x24 =>
    (if (decide (x24 < (a0.length : Int))) = true then (grd (0 ≤ x24 ∧ x24 < a0.length) (grd (0 ≤ x24 ∧ x24 < a1.length) (if (decide ((rd a0 x24) ≠ (rd a1 x24))) = true then (some (Sum.inr (Sum.inr ()))) else (some (Sum.inl (IntKind.i64.wrap (x24 + (1 : Int)))))))) else (some (Sum.inr (Sum.inl ()))))
noncomputable def f_ref02_Same (a0 : (List Int)) (a1 : (List Int)) : Option Bool :=
  (if (decide ((a0.length : Int) ≠ (a1.length : Int))) = true then (some false) else ((((iter (f_ref02_Same_l0 a0 a1) (0 : Int)).bind (Sum.elim (fun _ => (some (Sum.inl ()))) (fun _ => (((some false)).bind fun r => some (Sum.inr r))))) : Option (Unit ⊕ Bool)).bind (Sum.elim (fun _ => (some true)) some)))
def f_ref02_Same_post (a0 : (List Int)) (a1 : (List Int)) (v0 v1 : Value) : Bool → Value → IM → HL → Prop :=
  fun (r0 : Bool) (v : Value) (M' : IM) (H' : HL) => (.bool r0) = v ∧ H' = []
theorem f_ref02_Same_ok (a0 : (List Int)) (a1 : (List Int)) (M : IM) (v0 v1 : Value) (h0 : RS (Kd.int .u8) M v0 a0) (h1 : RS (Kd.int .u8) M v1 a1) (res : Bool) (h : f_ref02_Same a0 a1 = some res) :
    Tri Tryd.prog 19 #[v0, v1] M [] (f_ref02_Same_post a0 a1 v0 v1 res) := by
 unfold f_ref02_Same at h
 refine Tri.enter (fn := Tryd.f19) Tryd.func19 rfl (Nat.le_of_ble_eq_true rfl) ?_
 intro F ρ hρ
 refine Sr ?_
 refine Pa (.bool false) rfl rfl ?_
 refine Nt ?_
 refine WC.seq ?_
 refine Sr ?_
 refine Pm v0 (hρ 0) rfl ?_
 refine Pu (.int .i64 (a0.length : Int)) (PO.lenS Tryd.underlying26 rfl h0.len) rfl ?_
 refine Pm v1 (hρ 1) rfl ?_
 refine Pu (.int .i64 (a1.length : Int)) (PO.lenS Tryd.underlying26 rfl h1.len) rfl ?_
 refine Pu (.bool (decide ((a0.length : Int) ≠ (a1.length : Int)))) (PO.neq rfl rfl) rfl ?_
 refine Nt ?_
 refine WC.cond (b := decide ((a0.length : Int) ≠ (a1.length : Int))) rfl (fun hb21 => ?_) (fun hb21 => ?_)
 have h := ite_t hb21 h
 refine Sr ?_
 refine Pa (.bool false) rfl rfl ?_
 refine Nt ?_
 refine WC.ret ?_
 refine WQ.thenR ?_
 exact WQ.returnsF h [] rfl (results1 rfl rfl) (IM.le.refl _) ⟨rfl, rfl⟩
 have h := ite_f hb21 h
 refine WC.skip ?_
 refine WQ.thenC ?_
 obtain ⟨j22, hj22, h⟩ := bnd h
 refine WC.joinE (fun (_ : Unit) ρ' M' H' => M.le M' ∧ F = H') j22 ?_ ?_
 have h322 := h
 have h := hj22
 refine Sr ?_
 refine Pa (.int .i64 0) rfl rfl ?_
 refine Nt ?_
 refine WC.block ?_
 obtain ⟨e23, he23, hK23⟩ := bnd h
 clear h
 refine WC.loop he23 (fun (x24 : Int) ρ' M' H' => M.le M' ∧ F = H' ∧ ρ' 0 = v0 ∧ ρ' 1 = v1 ∧ ρ' 5 = (.int .i64 x24)) ?_ ?_
 exact ⟨(IM.le.refl _), rfl, (hρ 0), (hρ 1), rfl⟩
 rintro x24 o23 ρ23 M23 H23 h ⟨hle23, rfl, hs23_0, hs23_1, hs23_5⟩
 unfold f_ref02_Same_l0 at h
 have h0 := h0.mono hle23
 have h1 := h1.mono hle23
 refine WC.seq ?_
 refine Sr ?_
 refine Pm (.int .i64 x24) hs23_5 rfl ?_
 refine Pm v0 hs23_0 rfl ?_
 refine Pu (.int .i64 (a0.length : Int)) (PO.lenS Tryd.underlying26 rfl h0.len) rfl ?_
 refine Pu (.bool (decide (x24 < (a0.length : Int)))) (PO.lss rfl rfl) rfl ?_
 refine Nt ?_
 refine WC.cond (b := decide (x24 < (a0.length : Int))) rfl (fun hb25 => ?_) (fun hb25 => ?_)
 have h := ite_t hb25 h
 refine WC.skip ?_
 refine WQ.thenC ?_
 refine WC.seq ?_
 refine WC.block ?_
 refine WC.seq ?_
 refine WC.draw [0, 0, 3, 7, 0, 0, 48, 112, 255] (.pure 0 (.pure 1 (.pure 2 (.pure 3 (.pure 4 (.pure 5 (.pure 6 (.pure 7 (.pure 8 .done))))))))) mixed (by kernel_rfl) ?_
 refine Tp v0 rfl (PO.move hs23_0) rfl ?_
 refine Tp (.int .i64 x24) rfl (PO.move hs23_5) rfl ?_
 obtain ⟨hg26, h⟩ := grd_i h
 obtain ⟨p27, cs28, hat29, hrc30, hhas31⟩ := h0.at hg26.1 hg26.2 (by decide)
 obtain rfl := hrc30
 refine Tp (.pointer (some p27)) rfl (PO.indexAddr (n := a0.length) Tryd.underlying26 sz5 rfl rfl hg26.1 hg26.2 hat29) rfl ?_
 refine Tp (.int .u8 (rd a0 x24)) rfl (PO.loadM pl5 rfl (IM.has0 hhas31)) rfl ?_
 refine Tp v1 rfl (PO.move hs23_1) rfl ?_
 refine Tp (.int .i64 x24) rfl (PO.move hs23_5) rfl ?_
 obtain ⟨hg33, h⟩ := grd_i h
 obtain ⟨p34, cs35, hat36, hrc37, hhas38⟩ := h1.at hg33.1 hg33.2 (by decide)
 obtain rfl := hrc37
 refine Tp (.pointer (some p34)) rfl (PO.indexAddr (n := a1.length) Tryd.underlying26 sz5 rfl rfl hg33.1 hg33.2 hat36) rfl ?_
 refine Tp (.int .u8 (rd a1 x24)) rfl (PO.loadM pl5 rfl (IM.has0 hhas38)) rfl ?_
 refine Tp (.bool (decide ((rd a0 x24) ≠ (rd a1 x24)))) rfl (PO.neq rfl rfl) rfl ?_
 refine WT.fin ?_
 refine WQ.thenC ?_
 refine WC.cond (b := decide ((rd a0 x24) ≠ (rd a1 x24))) rfl (fun hb40 => ?_) (fun hb40 => ?_)
 have h := ite_t hb40 h
 refine Sr ?_
 refine Pa (.bool false) rfl rfl ?_
 refine Nt ?_
 refine WC.ret ?_
 refine WQ.blockR ?_
 refine WQ.thenR ?_
 refine WQ.leaveR (Sum.inr ()) (Option.some.inj h).symm (fun heq23 => ?_)
 subst heq23
 have h := (elimR hK23)
 refine WQ.blockR ?_
 refine WQ.thenR ?_
 have h := KK.early h h322
 exact WQ.returnsF h [] rfl (results1 rfl rfl) hle23 ⟨rfl, rfl⟩
 have h := ite_f hb40 h
 refine WC.skip ?_
 refine WQ.blockN ?_
 refine WQ.thenC ?_
 refine WC.region ?_
 refine Pm (.int .i64 x24) hs23_5 rfl ?_
 refine Pu (.int .i64 (IntKind.i64.wrap (x24 + 1))) (PO.add rfl rfl) rfl ?_
 refine Pa (.int .i64 (IntKind.i64.wrap (x24 + 1))) rfl rfl ?_
 refine WL.nil ?_
 refine WQ.again (IntKind.i64.wrap (x24 + 1)) (Option.some.inj h).symm ?_
 exact ⟨hle23, rfl, hs23_0, hs23_1, rfl⟩
 have h := ite_f hb25 h
 refine WC.exit ?_
 refine WQ.thenE ?_
 refine WQ.leaveE (Sum.inl ()) (Option.some.inj h).symm (fun heq23 => ?_)
 subst heq23
 have h := elimL hK23
 refine WQ.blockH ?_
 refine WQ.thenFE h ?_
 exact ⟨hle23, rfl⟩
 rintro _ ρ22 M22 H22 rfl ⟨hle22, rfl⟩
 have h := (Sum.elim_inl _ _ _).symm.trans h
 refine Sr ?_
 refine Pa (.bool true) rfl rfl ?_
 refine Nt ?_
 refine WC.ret ?_
 exact WQ.returnsF h [] rfl (results1 rfl rfl) hle22 ⟨rfl, rfl⟩


end Go.Proofs.YtjiffdgidodebaaDoor.G
