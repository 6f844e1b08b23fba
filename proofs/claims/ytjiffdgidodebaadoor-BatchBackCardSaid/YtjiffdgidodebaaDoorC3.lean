/- Go functions: what they come to, and that they do. Printed by a program of the session (gen). -/
import Derived.Test.YtjiffdgidodebaaDoorCF
import Derived.Test.YtjiffdgidodebaaDoorC2
import Derived.Test.YtjiffdgidodebaaDoorKShar2
import Derived.Test.YtjiffdgidodebaaDoorKConv
set_option linter.unusedVariables false
set_option linter.unusedSimpArgs false
set_option maxHeartbeats 8000000
set_option maxRecDepth 100000
namespace Go.Proofs.YtjiffdgidodebaaDoor.G
open Go Go.KK

noncomputable def f_fault_Wrap (a0 : ByteArray) (a1 : Int) (a2 : GErr) : Option GErr :=
  (if a2.isNil = true then (some GErr.nil) else (some (GErr.fault a0 a1 a2)))
def f_fault_Wrap_post (a0 : ByteArray) (a1 : Int) (a2 : GErr) : GErr → Value → IM → HL → Prop :=
  fun (r0 : GErr) (v : Value) (M' : IM) (H' : HL) => (GV r0) = v ∧ H' = []
theorem f_fault_Wrap_ok (a0 : ByteArray) (a1 : Int) (a2 : GErr) (M : IM) (res : GErr) (h : f_fault_Wrap a0 a1 a2 = some res) :
    Tri Tryd.prog 36 #[(.string a0), (.int .i64 a1), (GV a2)] M [] (f_fault_Wrap_post a0 a1 a2 res) := by
 unfold f_fault_Wrap at h
 refine Tri.enter (fn := Tryd.f36) Tryd.func36 rfl (Nat.le_of_ble_eq_true rfl) ?_
 intro F ρ hρ
 refine Sr ?_
 refine Pa (GV GErr.nil) rfl rfl ?_
 refine Nt ?_
 refine WC.seq ?_
 refine Sr ?_
 refine Pm (GV a2) (hρ 2) rfl ?_
 refine Pu (.bool a2.isNil) (PO.errNil Tryd.underlying28 rfl) rfl ?_
 refine Nt ?_
 refine WC.cond (b := a2.isNil) rfl (fun hb21 => ?_) (fun hb21 => ?_)
 have h := ite_t hb21 h
 refine Sr ?_
 refine Pa (GV GErr.nil) rfl rfl ?_
 refine Nt ?_
 refine WC.ret ?_
 refine WQ.thenR ?_
 exact WQ.returnsF h [] rfl (results1 rfl rfl) (IM.le.refl _) ⟨rfl, rfl⟩
 have h := ite_f hb21 h
 refine WC.skip ?_
 refine WQ.thenC ?_
 refine Sr ?_
 refine Pm (.string a0) (hρ 0) rfl ?_
 refine Pm (.int .i64 a1) (hρ 1) rfl ?_
 refine Pm (GV a2) (hρ 2) rfl ?_
 refine Pu (.agg #[(.string a0), (.int .i64 a1), (GV a2)]) (PO.buildL (cl := [(.string a0), (.int .i64 a1), (GV a2)]) ze89 fp89 (Parts.cons (congrArg Value.cells (show ev _ _ = (.string a0) from rfl)) (Parts.cons (congrArg Value.cells (show ev _ _ = (.int .i64 a1) from rfl)) (Parts.cons ((congrArg Value.cells (show ev _ _ = (GV a2) from rfl)).trans (GErr.val_cells _ _ _ _)) Parts.nil))) rfl) rfl ?_
 refine Pu (GV (GErr.fault a0 a1 a2)) (PO.makeInterface cc89 rfl) rfl ?_
 refine Pa (GV (GErr.fault a0 a1 a2)) rfl rfl ?_
 refine Nt ?_
 refine WC.ret ?_
 exact WQ.returnsF h [] rfl (results1 rfl rfl) (IM.le.refl _) ⟨rfl, rfl⟩

noncomputable def f_batch_Check_l0 (a0 : T_api_Batch) (s_ : Int) : Option (Int ⊕ (Unit ⊕ GErr)) :=
  match s_ with
  | x51 =>
    (if (decide (x51 < (a0.Records.length : Int))) = true then (grd (0 ≤ x51 ∧ x51 < a0.Records.length) ((f_record_Check (rd a0.Records x51)).bind fun (r62 : GErr) => (if (!r62.isNil) = true then ((f_fault_Wrap (⟨#[114, 101, 99, 111, 114, 100]⟩ : ByteArray) x51 r62).bind fun (r68 : GErr) => (some (Sum.inr (Sum.inr r68)))) else (some (Sum.inl (IntKind.i64.wrap (x51 + (1 : Int)))))))) else (some (Sum.inr (Sum.inl ()))))
noncomputable def f_batch_Check (a0 : T_api_Batch) : Option GErr :=
  (((if (decide (a0.Term < (1 : Int))) = true then (some true) else (some (decide ((1073741824 : Int) < a0.Term)))) : Option Bool).bind fun (x22 : Bool) => (if x22 = true then ((f_fault_New (⟨#[116, 101, 114, 109]⟩ : ByteArray) a0.Term (2 : Int)).bind fun (r26 : GErr) => (some r26)) else (((if (decide (a0.Base < (0 : Int))) = true then (some true) else (some (decide ((1073741824 : Int) < a0.Base)))) : Option Bool).bind fun (x31 : Bool) => (if x31 = true then ((f_fault_New (⟨#[98, 97, 115, 101]⟩ : ByteArray) a0.Base (2 : Int)).bind fun (r35 : GErr) => (some r35)) else (((if (decide ((a0.Records.length : Int) < (1 : Int))) = true then (some true) else (some (decide ((64 : Int) < (a0.Records.length : Int))))) : Option Bool).bind fun (x40 : Bool) => (if x40 = true then ((f_fault_New (⟨#[114, 101, 99, 111, 114, 100, 115]⟩ : ByteArray) (a0.Records.length : Int) (6 : Int)).bind fun (r44 : GErr) => (some r44)) else ((((iter (f_batch_Check_l0 a0) (0 : Int)).bind (Sum.elim (fun _ => (some (Sum.inl ()))) (fun (x52 : GErr) => (((some x52)).bind fun r => some (Sum.inr r))))) : Option (Unit ⊕ GErr)).bind (Sum.elim (fun _ => (some GErr.nil)) some))))))))
def f_batch_Check_post (a0 : T_api_Batch) (v0_2 : Value) : GErr → Value → IM → HL → Prop :=
  fun (r0 : GErr) (v : Value) (M' : IM) (H' : HL) => (GV r0) = v ∧ H' = []
theorem f_batch_Check_ok (a0 : T_api_Batch) (M : IM) (v0_2 : Value) (h0_2 : RS kd_api_Record M v0_2 a0.Records) (res : GErr) (h : f_batch_Check a0 = some res) :
    Tri Tryd.prog 50 #[(a66_ a0 v0_2)] M [] (f_batch_Check_post a0 v0_2 res) := by
 unfold f_batch_Check at h
 refine Tri.enter (fn := Tryd.f50) Tryd.func50 rfl (Nat.le_of_ble_eq_true rfl) ?_
 intro F ρ hρ
 refine Sr ?_
 refine WL.eff (EO.box (cs := (l66 a0 v0_2).toArray) (congrArg Value.cells (asE (a66_ a0 v0_2) (hρ 0)))) rfl ?_
 rintro _ _ _ - ⟨rfl, g21, rfl, rfl⟩
 refine Pa (GV GErr.nil) rfl rfl ?_
 refine Nt ?_
 refine WC.seq ?_
 refine WC.block ?_
 obtain ⟨x22, hj23, h⟩ := bnd h
 refine WC.joinF (fun (x22 : Bool) ρ' M' H' => M.le M' ∧ [(g21, .cells (l66 a0 v0_2).toArray 66 (0, 0))] :: F = H' ∧ ρ' 1 = (pt g21 0) ∧ ρ' 6 = (.bool x22)) x22 ?_ ?_
 have h323 := h
 have h := hj23
 refine WC.region ?_
 refine Pu (pt g21 0) (PO.fieldAddr fo66_0 rfl rfl) rfl ?_
 refine Pu (.int .i64 a0.Term) (PO.loadB 0 pl3 rfl rfl rfl) rfl ?_
 refine Pu (.bool (decide (a0.Term < 1))) (PO.lss rfl rfl) rfl ?_
 refine Pm (.bool (decide (a0.Term < 1))) rfl rfl ?_
 rcases Bool.eq_false_or_eq_true (decide (a0.Term < 1)) with hb24 | hb24
 have h := ite_t hb24 h
 iterate 3 refine Of 10 rfl rfl hb24 rfl ?_
 refine Pu (.bool true) (PO.pickT rfl hb24 rfl) rfl ?_
 refine Pa (.bool true) rfl rfl ?_
 refine WL.nil ?_
 obtain rfl := Option.some.inj h
 refine WQ.thenJ ?_
 exact ⟨(IM.le.refl _), rfl, rfl, rfl⟩
 have h := ite_f hb24 h
 refine On 10 rfl rfl hb24 ?_
 refine Pu (pt g21 0) (PO.fieldAddr fo66_0 rfl rfl) rfl ?_
 refine On 10 rfl rfl hb24 ?_
 refine Pu (.int .i64 a0.Term) (PO.loadB 0 pl3 rfl rfl rfl) rfl ?_
 refine On 10 rfl rfl hb24 ?_
 refine Pu (.bool (decide ((1073741824 : Int) < a0.Term))) (PO.gtr rfl rfl) rfl ?_
 refine Pu (.bool (decide ((1073741824 : Int) < a0.Term))) (PO.pickF rfl hb24 rfl) rfl ?_
 refine Pa (.bool (decide ((1073741824 : Int) < a0.Term))) rfl rfl ?_
 refine WL.nil ?_
 obtain rfl := Option.some.inj h
 refine WQ.thenJ ?_
 exact ⟨(IM.le.refl _), rfl, rfl, rfl⟩
 rintro ρ23 M23 H23 ⟨hle23, rfl, hs23_1, hs23_6⟩
 have h0_2 := h0_2.mono hle23
 refine WC.cond (b := x22) hs23_6 (fun hb25 => ?_) (fun hb25 => ?_)
 have h := ite_t hb25 h
 refine Sr ?_
 refine Pu (pt g21 0) (PO.fieldAddr fo66_0 hs23_1 rfl) rfl ?_
 refine Pu (.int .i64 a0.Term) (PO.loadB 0 pl3 rfl rfl rfl) rfl ?_
 obtain ⟨r26, hr27, h⟩ := bnd h
 refine WL.eff (EO.call0 co37 (f_fault_New_ok (⟨#[116, 101, 114, 109]⟩ : ByteArray) a0.Term (2 : Int) _ r26 hr27) (args3 rfl rfl rfl)) rfl ?_
 rintro _ M28 _ hle29 ⟨_, ⟨rfl, rfl⟩, rfl⟩
 have h0_2 := h0_2.mono hle29
 refine WL.a0 ?_
 refine Pa (GV r26) rfl rfl ?_
 refine Nt ?_
 refine WC.ret ?_
 refine WQ.blockR ?_
 refine WQ.thenR ?_
 refine WQ.drop ?_
 exact WQ.returnsF h [] rfl (results1 rfl rfl) (hle23.trans hle29) ⟨rfl, rfl⟩
 have h := ite_f hb25 h
 obtain ⟨x31, hj32, h⟩ := bnd h
 refine WC.joinF (fun (x31 : Bool) ρ' M' H' => M23.le M' ∧ [(g21, .cells (l66 a0 v0_2).toArray 66 (0, 0))] :: F = H' ∧ ρ' 1 = (pt g21 0) ∧ ρ' 18 = (.bool x31)) x31 ?_ ?_
 have h332 := h
 have h := hj32
 refine WC.region ?_
 refine Pu (pt g21 1) (PO.fieldAddr fo66_1 hs23_1 rfl) rfl ?_
 refine Pu (.int .i64 a0.Base) (PO.loadB 0 pl3 rfl rfl rfl) rfl ?_
 refine Pu (.bool (decide (a0.Base < 0))) (PO.lss rfl rfl) rfl ?_
 refine Pm (.bool (decide (a0.Base < 0))) rfl rfl ?_
 rcases Bool.eq_false_or_eq_true (decide (a0.Base < 0)) with hb33 | hb33
 have h := ite_t hb33 h
 iterate 3 refine Of 22 rfl rfl hb33 rfl ?_
 refine Pu (.bool true) (PO.pickT rfl hb33 rfl) rfl ?_
 refine Pa (.bool true) rfl rfl ?_
 refine WL.nil ?_
 obtain rfl := Option.some.inj h
 refine WQ.thenJ ?_
 exact ⟨(IM.le.refl _), rfl, hs23_1, rfl⟩
 have h := ite_f hb33 h
 refine On 22 rfl rfl hb33 ?_
 refine Pu (pt g21 1) (PO.fieldAddr fo66_1 hs23_1 rfl) rfl ?_
 refine On 22 rfl rfl hb33 ?_
 refine Pu (.int .i64 a0.Base) (PO.loadB 0 pl3 rfl rfl rfl) rfl ?_
 refine On 22 rfl rfl hb33 ?_
 refine Pu (.bool (decide ((1073741824 : Int) < a0.Base))) (PO.gtr rfl rfl) rfl ?_
 refine Pu (.bool (decide ((1073741824 : Int) < a0.Base))) (PO.pickF rfl hb33 rfl) rfl ?_
 refine Pa (.bool (decide ((1073741824 : Int) < a0.Base))) rfl rfl ?_
 refine WL.nil ?_
 obtain rfl := Option.some.inj h
 refine WQ.thenJ ?_
 exact ⟨(IM.le.refl _), rfl, hs23_1, rfl⟩
 rintro ρ32 M32 H32 ⟨hle32, rfl, hs32_1, hs32_18⟩
 have h0_2 := h0_2.mono hle32
 refine WC.cond (b := x31) hs32_18 (fun hb34 => ?_) (fun hb34 => ?_)
 have h := ite_t hb34 h
 refine Sr ?_
 refine Pu (pt g21 1) (PO.fieldAddr fo66_1 hs32_1 rfl) rfl ?_
 refine Pu (.int .i64 a0.Base) (PO.loadB 0 pl3 rfl rfl rfl) rfl ?_
 obtain ⟨r35, hr36, h⟩ := bnd h
 refine WL.eff (EO.call0 co37 (f_fault_New_ok (⟨#[98, 97, 115, 101]⟩ : ByteArray) a0.Base (2 : Int) _ r35 hr36) (args3 rfl rfl rfl)) rfl ?_
 rintro _ M37 _ hle38 ⟨_, ⟨rfl, rfl⟩, rfl⟩
 have h0_2 := h0_2.mono hle38
 refine WL.a0 ?_
 refine Pa (GV r35) rfl rfl ?_
 refine Nt ?_
 refine WC.ret ?_
 refine WQ.blockR ?_
 refine WQ.thenR ?_
 refine WQ.drop ?_
 exact WQ.returnsF h [] rfl (results1 rfl rfl) ((hle23.trans hle32).trans hle38) ⟨rfl, rfl⟩
 have h := ite_f hb34 h
 obtain ⟨x40, hj41, h⟩ := bnd h
 refine WC.joinF (fun (x40 : Bool) ρ' M' H' => M32.le M' ∧ [(g21, .cells (l66 a0 v0_2).toArray 66 (0, 0))] :: F = H' ∧ ρ' 1 = (pt g21 0) ∧ ρ' 30 = (.bool x40)) x40 ?_ ?_
 have h341 := h
 have h := hj41
 refine WC.region ?_
 refine Pu (pt g21 2) (PO.fieldAddr fo66_2 hs32_1 rfl) rfl ?_
 refine Pu v0_2 (PO.loadB 0 pl64 rfl rfl rfl) rfl ?_
 refine Pu (.int .i64 (a0.Records.length : Int)) (PO.lenS Tryd.underlying64 rfl h0_2.len) rfl ?_
 refine Pu (.bool (decide ((a0.Records.length : Int) < (1 : Int)))) (PO.lss rfl rfl) rfl ?_
 refine Pm (.bool (decide ((a0.Records.length : Int) < (1 : Int)))) rfl rfl ?_
 rcases Bool.eq_false_or_eq_true (decide ((a0.Records.length : Int) < (1 : Int))) with hb42 | hb42
 have h := ite_t hb42 h
 iterate 4 refine Of 35 rfl rfl hb42 rfl ?_
 refine Pu (.bool true) (PO.pickT rfl hb42 rfl) rfl ?_
 refine Pa (.bool true) rfl rfl ?_
 refine WL.nil ?_
 obtain rfl := Option.some.inj h
 refine WQ.thenJ ?_
 exact ⟨(IM.le.refl _), rfl, hs32_1, rfl⟩
 have h := ite_f hb42 h
 refine On 35 rfl rfl hb42 ?_
 refine Pu (pt g21 2) (PO.fieldAddr fo66_2 hs32_1 rfl) rfl ?_
 refine On 35 rfl rfl hb42 ?_
 refine Pu v0_2 (PO.loadB 0 pl64 rfl rfl rfl) rfl ?_
 refine On 35 rfl rfl hb42 ?_
 refine Pu (.int .i64 (a0.Records.length : Int)) (PO.lenS Tryd.underlying64 rfl h0_2.len) rfl ?_
 refine On 35 rfl rfl hb42 ?_
 refine Pu (.bool (decide ((64 : Int) < (a0.Records.length : Int)))) (PO.gtr rfl rfl) rfl ?_
 refine Pu (.bool (decide ((64 : Int) < (a0.Records.length : Int)))) (PO.pickF rfl hb42 rfl) rfl ?_
 refine Pa (.bool (decide ((64 : Int) < (a0.Records.length : Int)))) rfl rfl ?_
 refine WL.nil ?_
 obtain rfl := Option.some.inj h
 refine WQ.thenJ ?_
 exact ⟨(IM.le.refl _), rfl, hs32_1, rfl⟩
 rintro ρ41 M41 H41 ⟨hle41, rfl, hs41_1, hs41_30⟩
 have h0_2 := h0_2.mono hle41
 refine WC.cond (b := x40) hs41_30 (fun hb43 => ?_) (fun hb43 => ?_)
 have h := ite_t hb43 h
 refine Sr ?_
 refine Pu (pt g21 2) (PO.fieldAddr fo66_2 hs41_1 rfl) rfl ?_
 refine Pu v0_2 (PO.loadB 0 pl64 rfl rfl rfl) rfl ?_
 refine Pu (.int .i64 (a0.Records.length : Int)) (PO.lenS Tryd.underlying64 rfl h0_2.len) rfl ?_
 obtain ⟨r44, hr45, h⟩ := bnd h
 refine WL.eff (EO.call0 co37 (f_fault_New_ok (⟨#[114, 101, 99, 111, 114, 100, 115]⟩ : ByteArray) (a0.Records.length : Int) (6 : Int) _ r44 hr45) (args3 rfl rfl rfl)) rfl ?_
 rintro _ M46 _ hle47 ⟨_, ⟨rfl, rfl⟩, rfl⟩
 have h0_2 := h0_2.mono hle47
 refine WL.a0 ?_
 refine Pa (GV r44) rfl rfl ?_
 refine Nt ?_
 refine WC.ret ?_
 refine WQ.blockR ?_
 refine WQ.thenR ?_
 refine WQ.drop ?_
 exact WQ.returnsF h [] rfl (results1 rfl rfl) (((hle23.trans hle32).trans hle41).trans hle47) ⟨rfl, rfl⟩
 have h := ite_f hb43 h
 refine WC.skip ?_
 refine WQ.blockN ?_
 refine WQ.thenC ?_
 obtain ⟨j49, hj49, h⟩ := bnd h
 refine WC.joinE (fun (_ : Unit) ρ' M' H' => M41.le M' ∧ [(g21, .cells (l66 a0 v0_2).toArray 66 (0, 0))] :: F = H') j49 ?_ ?_
 have h349 := h
 have h := hj49
 refine Sr ?_
 refine Pu (pt g21 2) (PO.fieldAddr fo66_2 hs41_1 rfl) rfl ?_
 refine Pu v0_2 (PO.loadB 0 pl64 rfl rfl rfl) rfl ?_
 refine Pu (.int .i64 (a0.Records.length : Int)) (PO.lenS Tryd.underlying64 rfl h0_2.len) rfl ?_
 refine Pm (.int .i64 0) rfl rfl ?_
 refine Nt ?_
 refine WC.block ?_
 obtain ⟨e50, he50, hK50⟩ := bnd h
 clear h
 refine WC.loop he50 (fun (x51 : Int) ρ' M' H' => M41.le M' ∧ [(g21, .cells (l66 a0 v0_2).toArray 66 (0, 0))] :: F = H' ∧ ρ' 46 = v0_2 ∧ ρ' 47 = (.int .i64 (a0.Records.length : Int)) ∧ ρ' 48 = (.int .i64 x51)) ?_ ?_
 exact ⟨(IM.le.refl _), rfl, rfl, rfl, rfl⟩
 rintro x51 o50 ρ50 M50 H50 h ⟨hle50, rfl, hs50_46, hs50_47, hs50_48⟩
 unfold f_batch_Check_l0 at h
 have h0_2 := h0_2.mono hle50
 refine Sr ?_
 refine Pu (.bool (decide (x51 < (a0.Records.length : Int)))) (PO.lss hs50_48 hs50_47) rfl ?_
 refine Nt ?_
 refine WC.seq ?_
 refine WC.cond (b := decide (x51 < (a0.Records.length : Int))) rfl (fun hb53 => ?_) (fun hb53 => ?_)
 have h := ite_t hb53 h
 refine WC.skip ?_
 refine WQ.thenC ?_
 refine WC.seq ?_
 refine WC.block ?_
 refine Sr ?_
 refine Pm (.int .i64 x51) hs50_48 rfl ?_
 obtain ⟨hg54, h⟩ := grd_i h
 obtain ⟨p55, cs56, hat57, hrc58, hhas59⟩ := h0_2.at hg54.1 hg54.2 (by decide)
 obtain ⟨vw60_14, vw60_15, vw60_16, vw60_17, rfl, hw60_14, hw60_15, hw60_16, hw60_17⟩ := kd_api_Record_open hrc58
 refine Pu (.pointer (some p55)) (PO.indexAddr (n := a0.Records.length) Tryd.underlying64 sz106 hs50_46 hs50_48 hg54.1 hg54.2 hat57) rfl ?_
 refine Pu (a106_ (rd a0.Records x51) vw60_14 vw60_15 vw60_16 vw60_17) (PO.loadMA (cs := (l106 (rd a0.Records x51) vw60_14 vw60_15 vw60_16 vw60_17)) ag106 sz106 rfl hhas59) rfl ?_
 refine WL.eff (EO.alloc ze106 rfl) rfl ?_
 rintro _ _ _ - ⟨rfl, g61, rfl, rfl⟩
 refine Pa (.int .i64 x51) rfl rfl ?_
 refine WL.eff (EO.storeL (v := (a106_ (rd a0.Records x51) vw60_14 vw60_15 vw60_16 vw60_17)) (vl := (l106 (rd a0.Records x51) vw60_14 vw60_15 vw60_16 vw60_17)) (arr' := (l106 (rd a0.Records x51) vw60_14 vw60_15 vw60_16 vw60_17)) rfl sz106 rfl rfl (onesOf (Ones.cons rfl (Ones.cons rfl (Ones.cons rfl (Ones.cons rfl (Ones.cons rfl (Ones.cons rfl (Ones.cons rfl (Ones.cons rfl (Ones.cons rfl (Ones.cons rfl (Ones.cons rfl (Ones.cons rfl (Ones.cons rfl (Ones.cons rfl (Ones.cons (RS.one hw60_14) (Ones.cons (RS.one hw60_15) (Ones.cons (RS.one hw60_16) (Ones.cons (RS.one hw60_17) Ones.nil))))))))))))))))))) rfl rfl (by kernel_rfl)) rfl ?_
 rintro _ _ _ - ⟨rfl, rfl⟩
 refine Ns ?_
 refine Pu (a106_ (rd a0.Records x51) vw60_14 vw60_15 vw60_16 vw60_17) (PO.loadBA (cs := (l106 (rd a0.Records x51) vw60_14 vw60_15 vw60_16 vw60_17)) 0 ag106 sz106 rfl rfl rfl) rfl ?_
 obtain ⟨r62, hr63, h⟩ := bnd h
 refine WL.eff (EO.call0 co77 (f_record_Check_ok (rd a0.Records x51) _ _ _ _ _ hw60_14 hw60_15 hw60_16 hw60_17 r62 hr63) (args1 rfl)) rfl ?_
 rintro _ M64 _ hle65 ⟨_, ⟨rfl, rfl⟩, rfl⟩
 have h0_2 := h0_2.mono hle65
 have hw60_14 := hw60_14.mono hle65
 have hw60_15 := hw60_15.mono hle65
 have hw60_16 := hw60_16.mono hle65
 have hw60_17 := hw60_17.mono hle65
 refine WL.a0 ?_
 refine Pa (GV r62) rfl rfl ?_
 refine Ns ?_
 refine Pm (GV r62) rfl rfl ?_
 refine Pu (.bool (!r62.isNil)) (PO.errNotNil Tryd.underlying28 rfl) rfl ?_
 refine Nt ?_
 refine WC.cond (b := !r62.isNil) rfl (fun hb67 => ?_) (fun hb67 => ?_)
 have h := ite_t hb67 h
 refine Sr ?_
 refine Pm (.int .i64 x51) rfl rfl ?_
 refine Pm (GV r62) rfl rfl ?_
 obtain ⟨r68, hr69, h⟩ := bnd h
 refine WL.eff (EO.call0 co36 (f_fault_Wrap_ok (⟨#[114, 101, 99, 111, 114, 100]⟩ : ByteArray) x51 r62 _ r68 hr69) (args3 rfl rfl rfl)) rfl ?_
 rintro _ M70 _ hle71 ⟨_, ⟨rfl, rfl⟩, rfl⟩
 have h0_2 := h0_2.mono hle71
 have hw60_14 := hw60_14.mono hle71
 have hw60_15 := hw60_15.mono hle71
 have hw60_16 := hw60_16.mono hle71
 have hw60_17 := hw60_17.mono hle71
 refine WL.a0 ?_
 refine Pa (GV r68) rfl rfl ?_
 refine Nt ?_
 refine WC.ret ?_
 refine WQ.blockR ?_
 refine WQ.thenR ?_
 refine WQ.leaveR (Sum.inr r68) (Option.some.inj h).symm (fun heq50 => ?_)
 subst heq50
 have h := (elimR hK50)
 refine WQ.blockR ?_
 refine WQ.thenR ?_
 have h := KK.early h h349
 refine WQ.drop ?_
 refine WQ.drop ?_
 exact WQ.returnsF h [] rfl (results1 rfl rfl) (((((hle23.trans hle32).trans hle41).trans hle50).trans hle65).trans hle71) ⟨rfl, rfl⟩
 have h := ite_f hb67 h
 refine WC.skip ?_
 refine WQ.blockN ?_
 refine WQ.thenC ?_
 refine WC.region ?_
 refine Pu (.int .i64 (IntKind.i64.wrap (x51 + 1))) (PO.add hs50_48 rfl) rfl ?_
 refine Pm (.int .i64 (IntKind.i64.wrap (x51 + 1))) rfl rfl ?_
 refine WL.nil ?_
 refine WQ.drop ?_
 refine WQ.again (IntKind.i64.wrap (x51 + 1)) (Option.some.inj h).symm ?_
 exact ⟨(hle50.trans hle65), rfl, hs50_46, hs50_47, rfl⟩
 have h := ite_f hb53 h
 refine WC.exit ?_
 refine WQ.thenE ?_
 refine WQ.leaveE (Sum.inl ()) (Option.some.inj h).symm (fun heq50 => ?_)
 subst heq50
 have h := elimL hK50
 refine WQ.blockH ?_
 refine WQ.thenFE h ?_
 exact ⟨hle50, rfl⟩
 rintro _ ρ49 M49 H49 rfl ⟨hle49, rfl⟩
 have h := (Sum.elim_inl _ _ _).symm.trans h
 have h0_2 := h0_2.mono hle49
 refine Sr ?_
 refine Pa (GV GErr.nil) rfl rfl ?_
 refine Nt ?_
 refine WC.ret ?_
 refine WQ.drop ?_
 exact WQ.returnsF h [] rfl (results1 rfl rfl) (((hle23.trans hle32).trans hle41).trans hle49) ⟨rfl, rfl⟩

noncomputable def f_wire_Num (a0 : (List Int)) (a1 : Int) : Option (List Int) :=
  (if (decide ((if (4611686018427387903 : Int) < a1 then (4611686018427387903 : Int) else a1) < (64 : Int))) = true then (grd (a0.length + [IntKind.u8.wrap (if (4611686018427387903 : Int) < a1 then (4611686018427387903 : Int) else a1)].length ≤ 274877906944) (some (a0 ++ [IntKind.u8.wrap (if (4611686018427387903 : Int) < a1 then (4611686018427387903 : Int) else a1)]))) else (if (decide ((if (4611686018427387903 : Int) < a1 then (4611686018427387903 : Int) else a1) < (16384 : Int))) = true then (grd (a0.length + [orI .u8 (64 : Int) (IntKind.u8.wrap (shrI .u64 (if (4611686018427387903 : Int) < a1 then (4611686018427387903 : Int) else a1) (8 : Int))), IntKind.u8.wrap (if (4611686018427387903 : Int) < a1 then (4611686018427387903 : Int) else a1)].length ≤ 274877906944) (some (a0 ++ [orI .u8 (64 : Int) (IntKind.u8.wrap (shrI .u64 (if (4611686018427387903 : Int) < a1 then (4611686018427387903 : Int) else a1) (8 : Int))), IntKind.u8.wrap (if (4611686018427387903 : Int) < a1 then (4611686018427387903 : Int) else a1)]))) else (if (decide ((if (4611686018427387903 : Int) < a1 then (4611686018427387903 : Int) else a1) < (1073741824 : Int))) = true then (grd (a0.length + [orI .u8 (128 : Int) (IntKind.u8.wrap (shrI .u64 (if (4611686018427387903 : Int) < a1 then (4611686018427387903 : Int) else a1) (24 : Int))), IntKind.u8.wrap (shrI .u64 (if (4611686018427387903 : Int) < a1 then (4611686018427387903 : Int) else a1) (16 : Int)), IntKind.u8.wrap (shrI .u64 (if (4611686018427387903 : Int) < a1 then (4611686018427387903 : Int) else a1) (8 : Int)), IntKind.u8.wrap (if (4611686018427387903 : Int) < a1 then (4611686018427387903 : Int) else a1)].length ≤ 274877906944) (some (a0 ++ [orI .u8 (128 : Int) (IntKind.u8.wrap (shrI .u64 (if (4611686018427387903 : Int) < a1 then (4611686018427387903 : Int) else a1) (24 : Int))), IntKind.u8.wrap (shrI .u64 (if (4611686018427387903 : Int) < a1 then (4611686018427387903 : Int) else a1) (16 : Int)), IntKind.u8.wrap (shrI .u64 (if (4611686018427387903 : Int) < a1 then (4611686018427387903 : Int) else a1) (8 : Int)), IntKind.u8.wrap (if (4611686018427387903 : Int) < a1 then (4611686018427387903 : Int) else a1)]))) else (grd (a0.length + [orI .u8 (192 : Int) (IntKind.u8.wrap (shrI .u64 (if (4611686018427387903 : Int) < a1 then (4611686018427387903 : Int) else a1) (56 : Int))), IntKind.u8.wrap (shrI .u64 (if (4611686018427387903 : Int) < a1 then (4611686018427387903 : Int) else a1) (48 : Int)), IntKind.u8.wrap (shrI .u64 (if (4611686018427387903 : Int) < a1 then (4611686018427387903 : Int) else a1) (40 : Int)), IntKind.u8.wrap (shrI .u64 (if (4611686018427387903 : Int) < a1 then (4611686018427387903 : Int) else a1) (32 : Int)), IntKind.u8.wrap (shrI .u64 (if (4611686018427387903 : Int) < a1 then (4611686018427387903 : Int) else a1) (24 : Int)), IntKind.u8.wrap (shrI .u64 (if (4611686018427387903 : Int) < a1 then (4611686018427387903 : Int) else a1) (16 : Int)), IntKind.u8.wrap (shrI .u64 (if (4611686018427387903 : Int) < a1 then (4611686018427387903 : Int) else a1) (8 : Int)), IntKind.u8.wrap (if (4611686018427387903 : Int) < a1 then (4611686018427387903 : Int) else a1)].length ≤ 274877906944) (some (a0 ++ [orI .u8 (192 : Int) (IntKind.u8.wrap (shrI .u64 (if (4611686018427387903 : Int) < a1 then (4611686018427387903 : Int) else a1) (56 : Int))), IntKind.u8.wrap (shrI .u64 (if (4611686018427387903 : Int) < a1 then (4611686018427387903 : Int) else a1) (48 : Int)), IntKind.u8.wrap (shrI .u64 (if (4611686018427387903 : Int) < a1 then (4611686018427387903 : Int) else a1) (40 : Int)), IntKind.u8.wrap (shrI .u64 (if (4611686018427387903 : Int) < a1 then (4611686018427387903 : Int) else a1) (32 : Int)), IntKind.u8.wrap (shrI .u64 (if (4611686018427387903 : Int) < a1 then (4611686018427387903 : Int) else a1) (24 : Int)), IntKind.u8.wrap (shrI .u64 (if (4611686018427387903 : Int) < a1 then (4611686018427387903 : Int) else a1) (16 : Int)), IntKind.u8.wrap (shrI .u64 (if (4611686018427387903 : Int) < a1 then (4611686018427387903 : Int) else a1) (8 : Int)), IntKind.u8.wrap (if (4611686018427387903 : Int) < a1 then (4611686018427387903 : Int) else a1)]))))))
def f_wire_Num_post (a0 : (List Int)) (a1 : Int) (v0 : Value) : (List Int) → Value → IM → HL → Prop :=
  fun (r0 : (List Int)) (v : Value) (M' : IM) (H' : HL) => ∃ vz0 cz0, vz0 = v ∧ H' = [cz0] ∧ OwnS (Kd.int .u8) M' vz0 r0 cz0
theorem f_wire_Num_ok (a0 : (List Int)) (a1 : Int) (M : IM) (v0 : Value) (c0 : Chunk) (h0 : OwnS (Kd.int .u8) M v0 a0 c0) (res : (List Int)) (h : f_wire_Num a0 a1 = some res) :
    Tri Tryd.prog 78 #[v0, (.int .u64 a1)] M [c0] (f_wire_Num_post a0 a1 v0 res) := by
 unfold f_wire_Num at h
 refine Tri.enter (fn := Tryd.f78) Tryd.func78 rfl (Nat.le_of_ble_eq_true rfl) ?_
 intro F ρ hρ
 refine Sr ?_
 refine Pa (.slice none 0 0) rfl rfl ?_
 refine Ns ?_
 refine Pm (.int .u64 a1) (hρ 1) rfl ?_
 refine Pu (.int .u64 (if (4611686018427387903 : Int) < a1 then (4611686018427387903 : Int) else a1)) (PO.min rfl rfl) rfl ?_
 refine Pa (.int .u64 (if (4611686018427387903 : Int) < a1 then (4611686018427387903 : Int) else a1)) rfl rfl ?_
 refine Nt ?_
 refine WC.seq ?_
 refine WC.block ?_
 refine Sr ?_
 refine Pm (.int .u64 (if (4611686018427387903 : Int) < a1 then (4611686018427387903 : Int) else a1)) rfl rfl ?_
 refine Pu (.bool (decide ((if (4611686018427387903 : Int) < a1 then (4611686018427387903 : Int) else a1) < 64))) (PO.lss rfl rfl) rfl ?_
 refine Pa (.bool (decide ((if (4611686018427387903 : Int) < a1 then (4611686018427387903 : Int) else a1) < 64))) rfl rfl ?_
 refine Nt ?_
 refine WC.cond (b := decide ((if (4611686018427387903 : Int) < a1 then (4611686018427387903 : Int) else a1) < 64)) rfl (fun hb21 => ?_) (fun hb21 => ?_)
 have h := ite_t hb21 h
 refine Sr ?_
 refine Pm v0 (hρ 0) rfl ?_
 refine Pm (.int .u64 (if (4611686018427387903 : Int) < a1 then (4611686018427387903 : Int) else a1)) rfl rfl ?_
 refine Pu (.int .u8 (IntKind.u8.wrap (if (4611686018427387903 : Int) < a1 then (4611686018427387903 : Int) else a1))) (PO.conv us42 Tryd.underlying5 rfl) rfl ?_
 refine WL.eff (EO.buildSliceL (cl := [(.int .u8 (IntKind.u8.wrap (if (4611686018427387903 : Int) < a1 then (4611686018427387903 : Int) else a1)))]) Tryd.underlying26 iz5 rfl (Parts.cons (congrArg Value.cells (show ev _ _ = (.int .u8 (IntKind.u8.wrap (if (4611686018427387903 : Int) < a1 then (4611686018427387903 : Int) else a1))) from rfl)) Parts.nil) rfl) rfl ?_
 rintro _ _ _ - ⟨rfl, g22, rfl, rfl⟩
 have h24 : OwnS (Kd.int .u8) M (.slice (some ⟨g22, 0, none⟩) 1 1) [IntKind.u8.wrap (if (4611686018427387903 : Int) < a1 then (4611686018427387903 : Int) else a1)] [(g22, .cells #[(.int .u8 (IntKind.u8.wrap (if (4611686018427387903 : Int) < a1 then (4611686018427387903 : Int) else a1)))] 5 (0, 0))] := OwnS.rows (css := [[(.int .u8 (IntKind.u8.wrap (if (4611686018427387903 : Int) < a1 then (4611686018427387903 : Int) else a1)))]]) (Rows.cons rfl Rows.nil) rfl rfl
 obtain ⟨hg28, h⟩ := grd_i h
 refine WL.f1 ?_
 refine WL.eff (EO.append (dd := (Kd.int .u8)) (xs := a0) (ys := [IntKind.u8.wrap (if (4611686018427387903 : Int) < a1 then (4611686018427387903 : Int) else a1)]) Tryd.underlying26 Tryd.underlying26 in5 rfl (appB (by decide) hg28) (by decide) rfl rfl h0 (h24.src 1 rfl)) rfl ?_
 rintro v27 _ _ - ⟨rfl, c25, rfl, h26⟩
 refine Pa v27 rfl rfl ?_
 refine Nt ?_
 refine WC.ret ?_
 refine WQ.blockR ?_
 refine WQ.thenR ?_
 refine WQ.f1 ?_
 refine WQ.drop ?_
 exact WQ.returnsF h [c25] rfl (results1 rfl rfl) (IM.le.refl _) ⟨v27, c25, rfl, rfl, h26⟩
 have h := ite_f hb21 h
 refine Sr ?_
 refine Pm (.int .u64 (if (4611686018427387903 : Int) < a1 then (4611686018427387903 : Int) else a1)) rfl rfl ?_
 refine Pu (.bool (decide ((if (4611686018427387903 : Int) < a1 then (4611686018427387903 : Int) else a1) < 16384))) (PO.lss rfl rfl) rfl ?_
 refine Pa (.bool (decide ((if (4611686018427387903 : Int) < a1 then (4611686018427387903 : Int) else a1) < 16384))) rfl rfl ?_
 refine Nt ?_
 refine WC.cond (b := decide ((if (4611686018427387903 : Int) < a1 then (4611686018427387903 : Int) else a1) < 16384)) rfl (fun hb29 => ?_) (fun hb29 => ?_)
 have h := ite_t hb29 h
 refine Sr ?_
 refine Pm v0 (hρ 0) rfl ?_
 refine Pm (.int .u64 (if (4611686018427387903 : Int) < a1 then (4611686018427387903 : Int) else a1)) rfl rfl ?_
 refine Pu (.int .u64 (shrI .u64 (if (4611686018427387903 : Int) < a1 then (4611686018427387903 : Int) else a1) (8 : Int))) (PO.shr rfl rfl (by decide)) rfl ?_
 refine Pu (.int .u8 (IntKind.u8.wrap (shrI .u64 (if (4611686018427387903 : Int) < a1 then (4611686018427387903 : Int) else a1) (8 : Int)))) (PO.conv us42 Tryd.underlying5 rfl) rfl ?_
 refine Pu (.int .u8 (orI .u8 (64 : Int) (IntKind.u8.wrap (shrI .u64 (if (4611686018427387903 : Int) < a1 then (4611686018427387903 : Int) else a1) (8 : Int))))) (PO.or rfl rfl) rfl ?_
 refine Pm (.int .u64 (if (4611686018427387903 : Int) < a1 then (4611686018427387903 : Int) else a1)) rfl rfl ?_
 refine Pu (.int .u8 (IntKind.u8.wrap (if (4611686018427387903 : Int) < a1 then (4611686018427387903 : Int) else a1))) (PO.conv us42 Tryd.underlying5 rfl) rfl ?_
 refine WL.eff (EO.buildSliceL (cl := [(.int .u8 (orI .u8 (64 : Int) (IntKind.u8.wrap (shrI .u64 (if (4611686018427387903 : Int) < a1 then (4611686018427387903 : Int) else a1) (8 : Int))))), (.int .u8 (IntKind.u8.wrap (if (4611686018427387903 : Int) < a1 then (4611686018427387903 : Int) else a1)))]) Tryd.underlying26 iz5 rfl (Parts.cons (congrArg Value.cells (show ev _ _ = (.int .u8 (orI .u8 (64 : Int) (IntKind.u8.wrap (shrI .u64 (if (4611686018427387903 : Int) < a1 then (4611686018427387903 : Int) else a1) (8 : Int))))) from rfl)) (Parts.cons (congrArg Value.cells (show ev _ _ = (.int .u8 (IntKind.u8.wrap (if (4611686018427387903 : Int) < a1 then (4611686018427387903 : Int) else a1))) from rfl)) Parts.nil)) rfl) rfl ?_
 rintro _ _ _ - ⟨rfl, g30, rfl, rfl⟩
 have h32 : OwnS (Kd.int .u8) M (.slice (some ⟨g30, 0, none⟩) 2 2) [orI .u8 (64 : Int) (IntKind.u8.wrap (shrI .u64 (if (4611686018427387903 : Int) < a1 then (4611686018427387903 : Int) else a1) (8 : Int))), IntKind.u8.wrap (if (4611686018427387903 : Int) < a1 then (4611686018427387903 : Int) else a1)] [(g30, .cells #[(.int .u8 (orI .u8 (64 : Int) (IntKind.u8.wrap (shrI .u64 (if (4611686018427387903 : Int) < a1 then (4611686018427387903 : Int) else a1) (8 : Int))))), (.int .u8 (IntKind.u8.wrap (if (4611686018427387903 : Int) < a1 then (4611686018427387903 : Int) else a1)))] 5 (0, 0))] := OwnS.rows (css := [[(.int .u8 (orI .u8 (64 : Int) (IntKind.u8.wrap (shrI .u64 (if (4611686018427387903 : Int) < a1 then (4611686018427387903 : Int) else a1) (8 : Int)))))], [(.int .u8 (IntKind.u8.wrap (if (4611686018427387903 : Int) < a1 then (4611686018427387903 : Int) else a1)))]]) (Rows.cons rfl (Rows.cons rfl Rows.nil)) rfl rfl
 obtain ⟨hg36, h⟩ := grd_i h
 refine WL.f1 ?_
 refine WL.eff (EO.append (dd := (Kd.int .u8)) (xs := a0) (ys := [orI .u8 (64 : Int) (IntKind.u8.wrap (shrI .u64 (if (4611686018427387903 : Int) < a1 then (4611686018427387903 : Int) else a1) (8 : Int))), IntKind.u8.wrap (if (4611686018427387903 : Int) < a1 then (4611686018427387903 : Int) else a1)]) Tryd.underlying26 Tryd.underlying26 in5 rfl (appB (by decide) hg36) (by decide) rfl rfl h0 (h32.src 1 rfl)) rfl ?_
 rintro v35 _ _ - ⟨rfl, c33, rfl, h34⟩
 refine Pa v35 rfl rfl ?_
 refine Nt ?_
 refine WC.ret ?_
 refine WQ.blockR ?_
 refine WQ.thenR ?_
 refine WQ.f1 ?_
 refine WQ.drop ?_
 exact WQ.returnsF h [c33] rfl (results1 rfl rfl) (IM.le.refl _) ⟨v35, c33, rfl, rfl, h34⟩
 have h := ite_f hb29 h
 refine Sr ?_
 refine Pm (.int .u64 (if (4611686018427387903 : Int) < a1 then (4611686018427387903 : Int) else a1)) rfl rfl ?_
 refine Pu (.bool (decide ((if (4611686018427387903 : Int) < a1 then (4611686018427387903 : Int) else a1) < 1073741824))) (PO.lss rfl rfl) rfl ?_
 refine Pa (.bool (decide ((if (4611686018427387903 : Int) < a1 then (4611686018427387903 : Int) else a1) < 1073741824))) rfl rfl ?_
 refine Nt ?_
 refine WC.cond (b := decide ((if (4611686018427387903 : Int) < a1 then (4611686018427387903 : Int) else a1) < 1073741824)) rfl (fun hb37 => ?_) (fun hb37 => ?_)
 have h := ite_t hb37 h
 refine Sr ?_
 refine Pm v0 (hρ 0) rfl ?_
 refine Pm (.int .u64 (if (4611686018427387903 : Int) < a1 then (4611686018427387903 : Int) else a1)) rfl rfl ?_
 refine Pu (.int .u64 (shrI .u64 (if (4611686018427387903 : Int) < a1 then (4611686018427387903 : Int) else a1) (24 : Int))) (PO.shr rfl rfl (by decide)) rfl ?_
 refine Pu (.int .u8 (IntKind.u8.wrap (shrI .u64 (if (4611686018427387903 : Int) < a1 then (4611686018427387903 : Int) else a1) (24 : Int)))) (PO.conv us42 Tryd.underlying5 rfl) rfl ?_
 refine Pu (.int .u8 (orI .u8 (128 : Int) (IntKind.u8.wrap (shrI .u64 (if (4611686018427387903 : Int) < a1 then (4611686018427387903 : Int) else a1) (24 : Int))))) (PO.or rfl rfl) rfl ?_
 refine Pm (.int .u64 (if (4611686018427387903 : Int) < a1 then (4611686018427387903 : Int) else a1)) rfl rfl ?_
 refine Pu (.int .u64 (shrI .u64 (if (4611686018427387903 : Int) < a1 then (4611686018427387903 : Int) else a1) (16 : Int))) (PO.shr rfl rfl (by decide)) rfl ?_
 refine Pu (.int .u8 (IntKind.u8.wrap (shrI .u64 (if (4611686018427387903 : Int) < a1 then (4611686018427387903 : Int) else a1) (16 : Int)))) (PO.conv us42 Tryd.underlying5 rfl) rfl ?_
 refine Pm (.int .u64 (if (4611686018427387903 : Int) < a1 then (4611686018427387903 : Int) else a1)) rfl rfl ?_
 refine Pu (.int .u64 (shrI .u64 (if (4611686018427387903 : Int) < a1 then (4611686018427387903 : Int) else a1) (8 : Int))) (PO.shr rfl rfl (by decide)) rfl ?_
 refine Pu (.int .u8 (IntKind.u8.wrap (shrI .u64 (if (4611686018427387903 : Int) < a1 then (4611686018427387903 : Int) else a1) (8 : Int)))) (PO.conv us42 Tryd.underlying5 rfl) rfl ?_
 refine Pm (.int .u64 (if (4611686018427387903 : Int) < a1 then (4611686018427387903 : Int) else a1)) rfl rfl ?_
 refine Pu (.int .u8 (IntKind.u8.wrap (if (4611686018427387903 : Int) < a1 then (4611686018427387903 : Int) else a1))) (PO.conv us42 Tryd.underlying5 rfl) rfl ?_
 refine WL.eff (EO.buildSliceL (cl := [(.int .u8 (orI .u8 (128 : Int) (IntKind.u8.wrap (shrI .u64 (if (4611686018427387903 : Int) < a1 then (4611686018427387903 : Int) else a1) (24 : Int))))), (.int .u8 (IntKind.u8.wrap (shrI .u64 (if (4611686018427387903 : Int) < a1 then (4611686018427387903 : Int) else a1) (16 : Int)))), (.int .u8 (IntKind.u8.wrap (shrI .u64 (if (4611686018427387903 : Int) < a1 then (4611686018427387903 : Int) else a1) (8 : Int)))), (.int .u8 (IntKind.u8.wrap (if (4611686018427387903 : Int) < a1 then (4611686018427387903 : Int) else a1)))]) Tryd.underlying26 iz5 rfl (Parts.cons (congrArg Value.cells (show ev _ _ = (.int .u8 (orI .u8 (128 : Int) (IntKind.u8.wrap (shrI .u64 (if (4611686018427387903 : Int) < a1 then (4611686018427387903 : Int) else a1) (24 : Int))))) from rfl)) (Parts.cons (congrArg Value.cells (show ev _ _ = (.int .u8 (IntKind.u8.wrap (shrI .u64 (if (4611686018427387903 : Int) < a1 then (4611686018427387903 : Int) else a1) (16 : Int)))) from rfl)) (Parts.cons (congrArg Value.cells (show ev _ _ = (.int .u8 (IntKind.u8.wrap (shrI .u64 (if (4611686018427387903 : Int) < a1 then (4611686018427387903 : Int) else a1) (8 : Int)))) from rfl)) (Parts.cons (congrArg Value.cells (show ev _ _ = (.int .u8 (IntKind.u8.wrap (if (4611686018427387903 : Int) < a1 then (4611686018427387903 : Int) else a1))) from rfl)) Parts.nil)))) rfl) rfl ?_
 rintro _ _ _ - ⟨rfl, g38, rfl, rfl⟩
 have h40 : OwnS (Kd.int .u8) M (.slice (some ⟨g38, 0, none⟩) 4 4) [orI .u8 (128 : Int) (IntKind.u8.wrap (shrI .u64 (if (4611686018427387903 : Int) < a1 then (4611686018427387903 : Int) else a1) (24 : Int))), IntKind.u8.wrap (shrI .u64 (if (4611686018427387903 : Int) < a1 then (4611686018427387903 : Int) else a1) (16 : Int)), IntKind.u8.wrap (shrI .u64 (if (4611686018427387903 : Int) < a1 then (4611686018427387903 : Int) else a1) (8 : Int)), IntKind.u8.wrap (if (4611686018427387903 : Int) < a1 then (4611686018427387903 : Int) else a1)] [(g38, .cells #[(.int .u8 (orI .u8 (128 : Int) (IntKind.u8.wrap (shrI .u64 (if (4611686018427387903 : Int) < a1 then (4611686018427387903 : Int) else a1) (24 : Int))))), (.int .u8 (IntKind.u8.wrap (shrI .u64 (if (4611686018427387903 : Int) < a1 then (4611686018427387903 : Int) else a1) (16 : Int)))), (.int .u8 (IntKind.u8.wrap (shrI .u64 (if (4611686018427387903 : Int) < a1 then (4611686018427387903 : Int) else a1) (8 : Int)))), (.int .u8 (IntKind.u8.wrap (if (4611686018427387903 : Int) < a1 then (4611686018427387903 : Int) else a1)))] 5 (0, 0))] := OwnS.rows (css := [[(.int .u8 (orI .u8 (128 : Int) (IntKind.u8.wrap (shrI .u64 (if (4611686018427387903 : Int) < a1 then (4611686018427387903 : Int) else a1) (24 : Int)))))], [(.int .u8 (IntKind.u8.wrap (shrI .u64 (if (4611686018427387903 : Int) < a1 then (4611686018427387903 : Int) else a1) (16 : Int))))], [(.int .u8 (IntKind.u8.wrap (shrI .u64 (if (4611686018427387903 : Int) < a1 then (4611686018427387903 : Int) else a1) (8 : Int))))], [(.int .u8 (IntKind.u8.wrap (if (4611686018427387903 : Int) < a1 then (4611686018427387903 : Int) else a1)))]]) (Rows.cons rfl (Rows.cons rfl (Rows.cons rfl (Rows.cons rfl Rows.nil)))) rfl rfl
 obtain ⟨hg44, h⟩ := grd_i h
 refine WL.f1 ?_
 refine WL.eff (EO.append (dd := (Kd.int .u8)) (xs := a0) (ys := [orI .u8 (128 : Int) (IntKind.u8.wrap (shrI .u64 (if (4611686018427387903 : Int) < a1 then (4611686018427387903 : Int) else a1) (24 : Int))), IntKind.u8.wrap (shrI .u64 (if (4611686018427387903 : Int) < a1 then (4611686018427387903 : Int) else a1) (16 : Int)), IntKind.u8.wrap (shrI .u64 (if (4611686018427387903 : Int) < a1 then (4611686018427387903 : Int) else a1) (8 : Int)), IntKind.u8.wrap (if (4611686018427387903 : Int) < a1 then (4611686018427387903 : Int) else a1)]) Tryd.underlying26 Tryd.underlying26 in5 rfl (appB (by decide) hg44) (by decide) rfl rfl h0 (h40.src 1 rfl)) rfl ?_
 rintro v43 _ _ - ⟨rfl, c41, rfl, h42⟩
 refine Pa v43 rfl rfl ?_
 refine Nt ?_
 refine WC.ret ?_
 refine WQ.blockR ?_
 refine WQ.thenR ?_
 refine WQ.f1 ?_
 refine WQ.drop ?_
 exact WQ.returnsF h [c41] rfl (results1 rfl rfl) (IM.le.refl _) ⟨v43, c41, rfl, rfl, h42⟩
 have h := ite_f hb37 h
 refine WC.skip ?_
 refine WQ.blockN ?_
 refine WQ.thenC ?_
 refine Sr ?_
 refine Pm v0 (hρ 0) rfl ?_
 refine Pm (.int .u64 (if (4611686018427387903 : Int) < a1 then (4611686018427387903 : Int) else a1)) rfl rfl ?_
 refine Pu (.int .u64 (shrI .u64 (if (4611686018427387903 : Int) < a1 then (4611686018427387903 : Int) else a1) (56 : Int))) (PO.shr rfl rfl (by decide)) rfl ?_
 refine Pu (.int .u8 (IntKind.u8.wrap (shrI .u64 (if (4611686018427387903 : Int) < a1 then (4611686018427387903 : Int) else a1) (56 : Int)))) (PO.conv us42 Tryd.underlying5 rfl) rfl ?_
 refine Pu (.int .u8 (orI .u8 (192 : Int) (IntKind.u8.wrap (shrI .u64 (if (4611686018427387903 : Int) < a1 then (4611686018427387903 : Int) else a1) (56 : Int))))) (PO.or rfl rfl) rfl ?_
 refine Pm (.int .u64 (if (4611686018427387903 : Int) < a1 then (4611686018427387903 : Int) else a1)) rfl rfl ?_
 refine Pu (.int .u64 (shrI .u64 (if (4611686018427387903 : Int) < a1 then (4611686018427387903 : Int) else a1) (48 : Int))) (PO.shr rfl rfl (by decide)) rfl ?_
 refine Pu (.int .u8 (IntKind.u8.wrap (shrI .u64 (if (4611686018427387903 : Int) < a1 then (4611686018427387903 : Int) else a1) (48 : Int)))) (PO.conv us42 Tryd.underlying5 rfl) rfl ?_
 refine Pm (.int .u64 (if (4611686018427387903 : Int) < a1 then (4611686018427387903 : Int) else a1)) rfl rfl ?_
 refine Pu (.int .u64 (shrI .u64 (if (4611686018427387903 : Int) < a1 then (4611686018427387903 : Int) else a1) (40 : Int))) (PO.shr rfl rfl (by decide)) rfl ?_
 refine Pu (.int .u8 (IntKind.u8.wrap (shrI .u64 (if (4611686018427387903 : Int) < a1 then (4611686018427387903 : Int) else a1) (40 : Int)))) (PO.conv us42 Tryd.underlying5 rfl) rfl ?_
 refine Pm (.int .u64 (if (4611686018427387903 : Int) < a1 then (4611686018427387903 : Int) else a1)) rfl rfl ?_
 refine Pu (.int .u64 (shrI .u64 (if (4611686018427387903 : Int) < a1 then (4611686018427387903 : Int) else a1) (32 : Int))) (PO.shr rfl rfl (by decide)) rfl ?_
 refine Pu (.int .u8 (IntKind.u8.wrap (shrI .u64 (if (4611686018427387903 : Int) < a1 then (4611686018427387903 : Int) else a1) (32 : Int)))) (PO.conv us42 Tryd.underlying5 rfl) rfl ?_
 refine Pm (.int .u64 (if (4611686018427387903 : Int) < a1 then (4611686018427387903 : Int) else a1)) rfl rfl ?_
 refine Pu (.int .u64 (shrI .u64 (if (4611686018427387903 : Int) < a1 then (4611686018427387903 : Int) else a1) (24 : Int))) (PO.shr rfl rfl (by decide)) rfl ?_
 refine Pu (.int .u8 (IntKind.u8.wrap (shrI .u64 (if (4611686018427387903 : Int) < a1 then (4611686018427387903 : Int) else a1) (24 : Int)))) (PO.conv us42 Tryd.underlying5 rfl) rfl ?_
 refine Pm (.int .u64 (if (4611686018427387903 : Int) < a1 then (4611686018427387903 : Int) else a1)) rfl rfl ?_
 refine Pu (.int .u64 (shrI .u64 (if (4611686018427387903 : Int) < a1 then (4611686018427387903 : Int) else a1) (16 : Int))) (PO.shr rfl rfl (by decide)) rfl ?_
 refine Pu (.int .u8 (IntKind.u8.wrap (shrI .u64 (if (4611686018427387903 : Int) < a1 then (4611686018427387903 : Int) else a1) (16 : Int)))) (PO.conv us42 Tryd.underlying5 rfl) rfl ?_
 refine Pm (.int .u64 (if (4611686018427387903 : Int) < a1 then (4611686018427387903 : Int) else a1)) rfl rfl ?_
 refine Pu (.int .u64 (shrI .u64 (if (4611686018427387903 : Int) < a1 then (4611686018427387903 : Int) else a1) (8 : Int))) (PO.shr rfl rfl (by decide)) rfl ?_
 refine Pu (.int .u8 (IntKind.u8.wrap (shrI .u64 (if (4611686018427387903 : Int) < a1 then (4611686018427387903 : Int) else a1) (8 : Int)))) (PO.conv us42 Tryd.underlying5 rfl) rfl ?_
 refine Pm (.int .u64 (if (4611686018427387903 : Int) < a1 then (4611686018427387903 : Int) else a1)) rfl rfl ?_
 refine Pu (.int .u8 (IntKind.u8.wrap (if (4611686018427387903 : Int) < a1 then (4611686018427387903 : Int) else a1))) (PO.conv us42 Tryd.underlying5 rfl) rfl ?_
 refine WL.eff (EO.buildSliceL (cl := [(.int .u8 (orI .u8 (192 : Int) (IntKind.u8.wrap (shrI .u64 (if (4611686018427387903 : Int) < a1 then (4611686018427387903 : Int) else a1) (56 : Int))))), (.int .u8 (IntKind.u8.wrap (shrI .u64 (if (4611686018427387903 : Int) < a1 then (4611686018427387903 : Int) else a1) (48 : Int)))), (.int .u8 (IntKind.u8.wrap (shrI .u64 (if (4611686018427387903 : Int) < a1 then (4611686018427387903 : Int) else a1) (40 : Int)))), (.int .u8 (IntKind.u8.wrap (shrI .u64 (if (4611686018427387903 : Int) < a1 then (4611686018427387903 : Int) else a1) (32 : Int)))), (.int .u8 (IntKind.u8.wrap (shrI .u64 (if (4611686018427387903 : Int) < a1 then (4611686018427387903 : Int) else a1) (24 : Int)))), (.int .u8 (IntKind.u8.wrap (shrI .u64 (if (4611686018427387903 : Int) < a1 then (4611686018427387903 : Int) else a1) (16 : Int)))), (.int .u8 (IntKind.u8.wrap (shrI .u64 (if (4611686018427387903 : Int) < a1 then (4611686018427387903 : Int) else a1) (8 : Int)))), (.int .u8 (IntKind.u8.wrap (if (4611686018427387903 : Int) < a1 then (4611686018427387903 : Int) else a1)))]) Tryd.underlying26 iz5 rfl (Parts.cons (congrArg Value.cells (show ev _ _ = (.int .u8 (orI .u8 (192 : Int) (IntKind.u8.wrap (shrI .u64 (if (4611686018427387903 : Int) < a1 then (4611686018427387903 : Int) else a1) (56 : Int))))) from rfl)) (Parts.cons (congrArg Value.cells (show ev _ _ = (.int .u8 (IntKind.u8.wrap (shrI .u64 (if (4611686018427387903 : Int) < a1 then (4611686018427387903 : Int) else a1) (48 : Int)))) from rfl)) (Parts.cons (congrArg Value.cells (show ev _ _ = (.int .u8 (IntKind.u8.wrap (shrI .u64 (if (4611686018427387903 : Int) < a1 then (4611686018427387903 : Int) else a1) (40 : Int)))) from rfl)) (Parts.cons (congrArg Value.cells (show ev _ _ = (.int .u8 (IntKind.u8.wrap (shrI .u64 (if (4611686018427387903 : Int) < a1 then (4611686018427387903 : Int) else a1) (32 : Int)))) from rfl)) (Parts.cons (congrArg Value.cells (show ev _ _ = (.int .u8 (IntKind.u8.wrap (shrI .u64 (if (4611686018427387903 : Int) < a1 then (4611686018427387903 : Int) else a1) (24 : Int)))) from rfl)) (Parts.cons (congrArg Value.cells (show ev _ _ = (.int .u8 (IntKind.u8.wrap (shrI .u64 (if (4611686018427387903 : Int) < a1 then (4611686018427387903 : Int) else a1) (16 : Int)))) from rfl)) (Parts.cons (congrArg Value.cells (show ev _ _ = (.int .u8 (IntKind.u8.wrap (shrI .u64 (if (4611686018427387903 : Int) < a1 then (4611686018427387903 : Int) else a1) (8 : Int)))) from rfl)) (Parts.cons (congrArg Value.cells (show ev _ _ = (.int .u8 (IntKind.u8.wrap (if (4611686018427387903 : Int) < a1 then (4611686018427387903 : Int) else a1))) from rfl)) Parts.nil)))))))) rfl) rfl ?_
 rintro _ _ _ - ⟨rfl, g45, rfl, rfl⟩
 have h47 : OwnS (Kd.int .u8) M (.slice (some ⟨g45, 0, none⟩) 8 8) [orI .u8 (192 : Int) (IntKind.u8.wrap (shrI .u64 (if (4611686018427387903 : Int) < a1 then (4611686018427387903 : Int) else a1) (56 : Int))), IntKind.u8.wrap (shrI .u64 (if (4611686018427387903 : Int) < a1 then (4611686018427387903 : Int) else a1) (48 : Int)), IntKind.u8.wrap (shrI .u64 (if (4611686018427387903 : Int) < a1 then (4611686018427387903 : Int) else a1) (40 : Int)), IntKind.u8.wrap (shrI .u64 (if (4611686018427387903 : Int) < a1 then (4611686018427387903 : Int) else a1) (32 : Int)), IntKind.u8.wrap (shrI .u64 (if (4611686018427387903 : Int) < a1 then (4611686018427387903 : Int) else a1) (24 : Int)), IntKind.u8.wrap (shrI .u64 (if (4611686018427387903 : Int) < a1 then (4611686018427387903 : Int) else a1) (16 : Int)), IntKind.u8.wrap (shrI .u64 (if (4611686018427387903 : Int) < a1 then (4611686018427387903 : Int) else a1) (8 : Int)), IntKind.u8.wrap (if (4611686018427387903 : Int) < a1 then (4611686018427387903 : Int) else a1)] [(g45, .cells #[(.int .u8 (orI .u8 (192 : Int) (IntKind.u8.wrap (shrI .u64 (if (4611686018427387903 : Int) < a1 then (4611686018427387903 : Int) else a1) (56 : Int))))), (.int .u8 (IntKind.u8.wrap (shrI .u64 (if (4611686018427387903 : Int) < a1 then (4611686018427387903 : Int) else a1) (48 : Int)))), (.int .u8 (IntKind.u8.wrap (shrI .u64 (if (4611686018427387903 : Int) < a1 then (4611686018427387903 : Int) else a1) (40 : Int)))), (.int .u8 (IntKind.u8.wrap (shrI .u64 (if (4611686018427387903 : Int) < a1 then (4611686018427387903 : Int) else a1) (32 : Int)))), (.int .u8 (IntKind.u8.wrap (shrI .u64 (if (4611686018427387903 : Int) < a1 then (4611686018427387903 : Int) else a1) (24 : Int)))), (.int .u8 (IntKind.u8.wrap (shrI .u64 (if (4611686018427387903 : Int) < a1 then (4611686018427387903 : Int) else a1) (16 : Int)))), (.int .u8 (IntKind.u8.wrap (shrI .u64 (if (4611686018427387903 : Int) < a1 then (4611686018427387903 : Int) else a1) (8 : Int)))), (.int .u8 (IntKind.u8.wrap (if (4611686018427387903 : Int) < a1 then (4611686018427387903 : Int) else a1)))] 5 (0, 0))] := OwnS.rows (css := [[(.int .u8 (orI .u8 (192 : Int) (IntKind.u8.wrap (shrI .u64 (if (4611686018427387903 : Int) < a1 then (4611686018427387903 : Int) else a1) (56 : Int)))))], [(.int .u8 (IntKind.u8.wrap (shrI .u64 (if (4611686018427387903 : Int) < a1 then (4611686018427387903 : Int) else a1) (48 : Int))))], [(.int .u8 (IntKind.u8.wrap (shrI .u64 (if (4611686018427387903 : Int) < a1 then (4611686018427387903 : Int) else a1) (40 : Int))))], [(.int .u8 (IntKind.u8.wrap (shrI .u64 (if (4611686018427387903 : Int) < a1 then (4611686018427387903 : Int) else a1) (32 : Int))))], [(.int .u8 (IntKind.u8.wrap (shrI .u64 (if (4611686018427387903 : Int) < a1 then (4611686018427387903 : Int) else a1) (24 : Int))))], [(.int .u8 (IntKind.u8.wrap (shrI .u64 (if (4611686018427387903 : Int) < a1 then (4611686018427387903 : Int) else a1) (16 : Int))))], [(.int .u8 (IntKind.u8.wrap (shrI .u64 (if (4611686018427387903 : Int) < a1 then (4611686018427387903 : Int) else a1) (8 : Int))))], [(.int .u8 (IntKind.u8.wrap (if (4611686018427387903 : Int) < a1 then (4611686018427387903 : Int) else a1)))]]) (Rows.cons rfl (Rows.cons rfl (Rows.cons rfl (Rows.cons rfl (Rows.cons rfl (Rows.cons rfl (Rows.cons rfl (Rows.cons rfl Rows.nil)))))))) rfl rfl
 obtain ⟨hg51, h⟩ := grd_i h
 refine WL.f1 ?_
 refine WL.eff (EO.append (dd := (Kd.int .u8)) (xs := a0) (ys := [orI .u8 (192 : Int) (IntKind.u8.wrap (shrI .u64 (if (4611686018427387903 : Int) < a1 then (4611686018427387903 : Int) else a1) (56 : Int))), IntKind.u8.wrap (shrI .u64 (if (4611686018427387903 : Int) < a1 then (4611686018427387903 : Int) else a1) (48 : Int)), IntKind.u8.wrap (shrI .u64 (if (4611686018427387903 : Int) < a1 then (4611686018427387903 : Int) else a1) (40 : Int)), IntKind.u8.wrap (shrI .u64 (if (4611686018427387903 : Int) < a1 then (4611686018427387903 : Int) else a1) (32 : Int)), IntKind.u8.wrap (shrI .u64 (if (4611686018427387903 : Int) < a1 then (4611686018427387903 : Int) else a1) (24 : Int)), IntKind.u8.wrap (shrI .u64 (if (4611686018427387903 : Int) < a1 then (4611686018427387903 : Int) else a1) (16 : Int)), IntKind.u8.wrap (shrI .u64 (if (4611686018427387903 : Int) < a1 then (4611686018427387903 : Int) else a1) (8 : Int)), IntKind.u8.wrap (if (4611686018427387903 : Int) < a1 then (4611686018427387903 : Int) else a1)]) Tryd.underlying26 Tryd.underlying26 in5 rfl (appB (by decide) hg51) (by decide) rfl rfl h0 (h47.src 1 rfl)) rfl ?_
 rintro v50 _ _ - ⟨rfl, c48, rfl, h49⟩
 refine Pa v50 rfl rfl ?_
 refine Nt ?_
 refine WC.ret ?_
 refine WQ.f1 ?_
 refine WQ.drop ?_
 exact WQ.returnsF h [c48] rfl (results1 rfl rfl) (IM.le.refl _) ⟨v50, c48, rfl, rfl, h49⟩

noncomputable def f_wire_Int (a0 : (List Int)) (a1 : Int) : Option (List Int) :=
  ((f_wire_Num a0 (IntKind.u64.wrap (if a1 < (0 : Int) then (0 : Int) else a1))).bind fun (r21 : (List Int)) => (some r21))
def f_wire_Int_post (a0 : (List Int)) (a1 : Int) (v0 : Value) : (List Int) → Value → IM → HL → Prop :=
  fun (r0 : (List Int)) (v : Value) (M' : IM) (H' : HL) => ∃ vz0 cz0, vz0 = v ∧ H' = [cz0] ∧ OwnS (Kd.int .u8) M' vz0 r0 cz0
theorem f_wire_Int_ok (a0 : (List Int)) (a1 : Int) (M : IM) (v0 : Value) (c0 : Chunk) (h0 : OwnS (Kd.int .u8) M v0 a0 c0) (res : (List Int)) (h : f_wire_Int a0 a1 = some res) :
    Tri Tryd.prog 52 #[v0, (.int .i64 a1)] M [c0] (f_wire_Int_post a0 a1 v0 res) := by
 unfold f_wire_Int at h
 refine Tri.enter (fn := Tryd.f52) Tryd.func52 rfl (Nat.le_of_ble_eq_true rfl) ?_
 intro F ρ hρ
 refine Sr ?_
 refine Pa (.slice none 0 0) rfl rfl ?_
 refine Ns ?_
 refine Pm v0 (hρ 0) rfl ?_
 refine Pm (.int .i64 a1) (hρ 1) rfl ?_
 refine Pu (.int .i64 (if a1 < 0 then (0 : Int) else a1)) (PO.max rfl rfl) rfl ?_
 refine Pu (.int .u64 (IntKind.u64.wrap (if a1 < 0 then (0 : Int) else a1))) (PO.conv us3 Tryd.underlying42 rfl) rfl ?_
 obtain ⟨r21, hr22, h⟩ := bnd h
 refine WL.eff (EO.call1 co78 (f_wire_Num_ok a0 (IntKind.u64.wrap (if a1 < 0 then (0 : Int) else a1)) _ _ _ h0 r21 hr22) (args2 rfl rfl)) rfl ?_
 rintro _ M23 _ hle24 ⟨_, ⟨vq25, cq25, rfl, rfl, hq25⟩, rfl⟩
 have h0 := h0.mono hle24
 refine WL.a1 ?_
 refine Pa vq25 rfl rfl ?_
 refine Nt ?_
 refine WC.ret ?_
 exact WQ.returnsF h [cq25] rfl (results1 rfl rfl) hle24 ⟨vq25, cq25, rfl, rfl, hq25⟩

noncomputable def f_record_Put_1 (a0 : Int) (a1 : Int) (a2 : Int) (a3 : (List Int)) : Option (List Int) :=
  (if (decide ((andI .i64 a2 a0) ≠ (0 : Int))) = true then ((f_wire_Int a3 a1).bind fun (r22 : (List Int)) => (some r22)) else (some a3))
def f_record_Put_1_post (a0 : Int) (a1 : Int) (a2 : Int) (a3 : (List Int)) (v3 : Value) (g2 g3 : Nat) : (List Int) → Value → IM → HL → Prop :=
  fun (r0 : (List Int)) (v : Value) (M' : IM) (H' : HL) => ∃ w0 d1, (.tuple #[]) = v ∧ H' = [[(g2, .cells #[(.int .i64 a2)] 3 (0, 0))], [(g3, .cells #[w0] 26 (0, 0))], d1] ∧ OwnS (Kd.int .u8) M' w0 r0 d1
theorem f_record_Put_1_ok (a0 : Int) (a1 : Int) (a2 : Int) (a3 : (List Int)) (M : IM) (v3 : Value) (g2 g3 : Nat) (c3 : Chunk) (h3 : OwnS (Kd.int .u8) M v3 a3 c3) (res : (List Int)) (h : f_record_Put_1 a0 a1 a2 a3 = some res) :
    Tri Tryd.prog 80 #[(.int .i64 a0), (.int .i64 a1), (pt g2 0), (pt g3 0)] M [[(g2, .cells #[(.int .i64 a2)] 3 (0, 0))], [(g3, .cells #[v3] 26 (0, 0))], c3] (f_record_Put_1_post a0 a1 a2 a3 v3 g2 g3 res) := by
 unfold f_record_Put_1 at h
 refine Tri.enter (fn := Tryd.f80) Tryd.func80 rfl (Nat.le_of_ble_eq_true rfl) ?_
 intro F ρ hρ
 refine Sr ?_
 refine Pu (.int .i64 a2) (PO.loadB 0 pl3 (hρ 2) rfl rfl) rfl ?_
 refine Pm (.int .i64 a0) (hρ 0) rfl ?_
 refine Pu (.int .i64 (andI .i64 a2 a0)) (PO.and rfl rfl) rfl ?_
 refine Pu (.bool (decide ((andI .i64 a2 a0) ≠ 0))) (PO.neq rfl rfl) rfl ?_
 refine Nt ?_
 refine WC.cond (b := decide ((andI .i64 a2 a0) ≠ 0)) rfl (fun hb21 => ?_) (fun hb21 => ?_)
 have h := ite_t hb21 h
 refine WC.region ?_
 refine Pu v3 (PO.loadB 1 pl26 (hρ 3) rfl rfl) rfl ?_
 refine Pm (.int .i64 a1) (hρ 1) rfl ?_
 obtain ⟨r22, hr23, h⟩ := bnd h
 refine WL.f2 ?_
 refine WL.eff (EO.call1 co52 (f_wire_Int_ok a3 a1 _ _ _ h3 r22 hr23) (args2 rfl rfl)) rfl ?_
 rintro _ M24 _ hle25 ⟨_, ⟨vq26, cq26, rfl, rfl, hq26⟩, rfl⟩
 have h3 := h3.mono hle25
 refine WL.a1 ?_
 refine WL.f2 ?_
 refine WL.eff (EO.storeL (v := vq26) (vl := [vq26]) (arr' := [vq26]) hq26.cells sz26 (hρ 3) rfl (onesOf (Ones.cons (OwnS.one hq26) Ones.nil)) rfl rfl rfl) rfl ?_
 rintro _ _ _ - ⟨rfl, rfl⟩
 refine WL.nil ?_
 refine WQ.f1 ?_
 refine WQ.f1 ?_
 refine WQ.f2 ?_
 exact WQ.endsF h [[(g2, .cells #[(.int .i64 a2)] 3 (0, 0))], [(g3, .cells #[vq26] 26 (0, 0))], cq26] rfl (results0 rfl) hle25 ⟨vq26, cq26, rfl, rfl, hq26⟩
 have h := ite_f hb21 h
 refine WC.skip ?_
 exact WQ.endsF h [[(g2, .cells #[(.int .i64 a2)] 3 (0, 0))], [(g3, .cells #[v3] 26 (0, 0))], c3] rfl (results0 rfl) (IM.le.refl _) ⟨v3, c3, rfl, rfl, h3⟩

noncomputable def f_wire_Flag (a0 : (List Int)) (a1 : Bool) : Option (List Int) :=
  (if a1 = true then (grd (a0.length + [(1 : Int)].length ≤ 274877906944) (some (a0 ++ [(1 : Int)]))) else (grd (a0.length + [(0 : Int)].length ≤ 274877906944) (some (a0 ++ [(0 : Int)]))))
def f_wire_Flag_post (a0 : (List Int)) (a1 : Bool) (v0 : Value) : (List Int) → Value → IM → HL → Prop :=
  fun (r0 : (List Int)) (v : Value) (M' : IM) (H' : HL) => ∃ vz0 cz0, vz0 = v ∧ H' = [cz0] ∧ OwnS (Kd.int .u8) M' vz0 r0 cz0
theorem f_wire_Flag_ok (a0 : (List Int)) (a1 : Bool) (M : IM) (v0 : Value) (c0 : Chunk) (h0 : OwnS (Kd.int .u8) M v0 a0 c0) (res : (List Int)) (h : f_wire_Flag a0 a1 = some res) :
    Tri Tryd.prog 81 #[v0, (.bool a1)] M [c0] (f_wire_Flag_post a0 a1 v0 res) := by
 unfold f_wire_Flag at h
 refine Tri.enter (fn := Tryd.f81) Tryd.func81 rfl (Nat.le_of_ble_eq_true rfl) ?_
 intro F ρ hρ
 refine Sr ?_
 refine Pa (.slice none 0 0) rfl rfl ?_
 refine Nt ?_
 refine WC.seq ?_
 refine Sr ?_
 refine Pm (.bool a1) (hρ 1) rfl ?_
 refine Nt ?_
 refine WC.cond (b := a1) rfl (fun hb21 => ?_) (fun hb21 => ?_)
 have h := ite_t hb21 h
 refine Sr ?_
 refine Pm v0 (hρ 0) rfl ?_
 refine WL.eff (EO.buildSliceL (cl := [(.int .u8 1)]) Tryd.underlying26 iz5 rfl (Parts.cons (congrArg Value.cells (show ev _ _ = (.int .u8 1) from rfl)) Parts.nil) rfl) rfl ?_
 rintro _ _ _ - ⟨rfl, g22, rfl, rfl⟩
 have h24 : OwnS (Kd.int .u8) M (.slice (some ⟨g22, 0, none⟩) 1 1) [(1 : Int)] [(g22, .cells #[(.int .u8 1)] 5 (0, 0))] := OwnS.rows (css := [[(.int .u8 1)]]) (Rows.cons rfl Rows.nil) rfl rfl
 obtain ⟨hg28, h⟩ := grd_i h
 refine WL.f1 ?_
 refine WL.eff (EO.append (dd := (Kd.int .u8)) (xs := a0) (ys := [(1 : Int)]) Tryd.underlying26 Tryd.underlying26 in5 rfl (appB (by decide) hg28) (by decide) rfl rfl h0 (h24.src 1 rfl)) rfl ?_
 rintro v27 _ _ - ⟨rfl, c25, rfl, h26⟩
 refine Pa v27 rfl rfl ?_
 refine Nt ?_
 refine WC.ret ?_
 refine WQ.thenR ?_
 refine WQ.f1 ?_
 refine WQ.drop ?_
 exact WQ.returnsF h [c25] rfl (results1 rfl rfl) (IM.le.refl _) ⟨v27, c25, rfl, rfl, h26⟩
 have h := ite_f hb21 h
 refine WC.skip ?_
 refine WQ.thenC ?_
 refine Sr ?_
 refine Pm v0 (hρ 0) rfl ?_
 refine WL.eff (EO.buildSliceL (cl := [(.int .u8 0)]) Tryd.underlying26 iz5 rfl (Parts.cons (congrArg Value.cells (show ev _ _ = (.int .u8 0) from rfl)) Parts.nil) rfl) rfl ?_
 rintro _ _ _ - ⟨rfl, g29, rfl, rfl⟩
 have h31 : OwnS (Kd.int .u8) M (.slice (some ⟨g29, 0, none⟩) 1 1) [(0 : Int)] [(g29, .cells #[(.int .u8 0)] 5 (0, 0))] := OwnS.rows (css := [[(.int .u8 0)]]) (Rows.cons rfl Rows.nil) rfl rfl
 obtain ⟨hg35, h⟩ := grd_i h
 refine WL.f1 ?_
 refine WL.eff (EO.append (dd := (Kd.int .u8)) (xs := a0) (ys := [(0 : Int)]) Tryd.underlying26 Tryd.underlying26 in5 rfl (appB (by decide) hg35) (by decide) rfl rfl h0 (h31.src 1 rfl)) rfl ?_
 rintro v34 _ _ - ⟨rfl, c32, rfl, h33⟩
 refine Pa v34 rfl rfl ?_
 refine Nt ?_
 refine WC.ret ?_
 refine WQ.f1 ?_
 refine WQ.drop ?_
 exact WQ.returnsF h [c32] rfl (results1 rfl rfl) (IM.le.refl _) ⟨v34, c32, rfl, rfl, h33⟩

noncomputable def f_wire_Text (a0 : (List Int)) (a1 : (List Int)) : Option (List Int) :=
  ((f_wire_Int a0 (a1.length : Int)).bind fun (r21 : (List Int)) => (grd (r21.length + a1.length ≤ 274877906944) (some (r21 ++ a1))))
def f_wire_Text_post (a0 : (List Int)) (a1 : (List Int)) (v0 v1 : Value) : (List Int) → Value → IM → HL → Prop :=
  fun (r0 : (List Int)) (v : Value) (M' : IM) (H' : HL) => ∃ vz0 cz0, vz0 = v ∧ H' = [cz0] ∧ OwnS (Kd.int .u8) M' vz0 r0 cz0
theorem f_wire_Text_ok (a0 : (List Int)) (a1 : (List Int)) (M : IM) (v0 v1 : Value) (c0 : Chunk) (h0 : OwnS (Kd.int .u8) M v0 a0 c0) (h1 : RS (Kd.int .u8) M v1 a1) (res : (List Int)) (h : f_wire_Text a0 a1 = some res) :
    Tri Tryd.prog 39 #[v0, v1] M [c0] (f_wire_Text_post a0 a1 v0 v1 res) := by
 unfold f_wire_Text at h
 refine Tri.enter (fn := Tryd.f39) Tryd.func39 rfl (Nat.le_of_ble_eq_true rfl) ?_
 intro F ρ hρ
 refine Sr ?_
 refine Pa (.slice none 0 0) rfl rfl ?_
 refine Ns ?_
 refine Pm v0 (hρ 0) rfl ?_
 refine Pm v1 (hρ 1) rfl ?_
 refine Pu (.int .i64 (a1.length : Int)) (PO.lenS Tryd.underlying26 rfl h1.len) rfl ?_
 obtain ⟨r21, hr22, h⟩ := bnd h
 refine WL.eff (EO.call1 co52 (f_wire_Int_ok a0 (a1.length : Int) _ _ _ h0 r21 hr22) (args2 rfl rfl)) rfl ?_
 rintro _ M23 _ hle24 ⟨_, ⟨vq25, cq25, rfl, rfl, hq25⟩, rfl⟩
 have h0 := h0.mono hle24
 have h1 := h1.mono hle24
 refine WL.a1 ?_
 refine Pm v1 (hρ 1) rfl ?_
 obtain ⟨hg29, h⟩ := grd_i h
 refine WL.eff (EO.append (dd := (Kd.int .u8)) (xs := r21) (ys := a1) Tryd.underlying26 Tryd.underlying26 in5 rfl (appB (by decide) hg29) (by decide) rfl rfl hq25 (h1.src _)) rfl ?_
 rintro v28 _ _ - ⟨rfl, c26, rfl, h27⟩
 refine Pa v28 rfl rfl ?_
 refine Nt ?_
 refine WC.ret ?_
 exact WQ.returnsF h [c26] rfl (results1 rfl rfl) hle24 ⟨v28, c26, rfl, rfl, h27⟩

noncomputable def f_record_Put_2 (a0 : Int) (a1 : ByteArray) (a2 : Int) (a3 : (List Int)) : Option (List Int) :=
  (if (decide ((andI .i64 a2 a0) ≠ (0 : Int))) = true then ((f_wire_Text a3 (bytesOf a1)).bind fun (r25 : (List Int)) => (some r25)) else (some a3))
def f_record_Put_2_post (a0 : Int) (a1 : ByteArray) (a2 : Int) (a3 : (List Int)) (v3 : Value) (g2 g3 : Nat) : (List Int) → Value → IM → HL → Prop :=
  fun (r0 : (List Int)) (v : Value) (M' : IM) (H' : HL) => ∃ w0 d1, (.tuple #[]) = v ∧ H' = [[(g2, .cells #[(.int .i64 a2)] 3 (0, 0))], [(g3, .cells #[w0] 26 (0, 0))], d1] ∧ OwnS (Kd.int .u8) M' w0 r0 d1
theorem f_record_Put_2_ok (a0 : Int) (a1 : ByteArray) (a2 : Int) (a3 : (List Int)) (M : IM) (v3 : Value) (g2 g3 : Nat) (c3 : Chunk) (h3 : OwnS (Kd.int .u8) M v3 a3 c3) (res : (List Int)) (h : f_record_Put_2 a0 a1 a2 a3 = some res) :
    Tri Tryd.prog 82 #[(.int .i64 a0), (.string a1), (pt g2 0), (pt g3 0)] M [[(g2, .cells #[(.int .i64 a2)] 3 (0, 0))], [(g3, .cells #[v3] 26 (0, 0))], c3] (f_record_Put_2_post a0 a1 a2 a3 v3 g2 g3 res) := by
 unfold f_record_Put_2 at h
 refine Tri.enter (fn := Tryd.f82) Tryd.func82 rfl (Nat.le_of_ble_eq_true rfl) ?_
 intro F ρ hρ
 refine Sr ?_
 refine Pu (.int .i64 a2) (PO.loadB 0 pl3 (hρ 2) rfl rfl) rfl ?_
 refine Pm (.int .i64 a0) (hρ 0) rfl ?_
 refine Pu (.int .i64 (andI .i64 a2 a0)) (PO.and rfl rfl) rfl ?_
 refine Pu (.bool (decide ((andI .i64 a2 a0) ≠ 0))) (PO.neq rfl rfl) rfl ?_
 refine Nt ?_
 refine WC.cond (b := decide ((andI .i64 a2 a0) ≠ 0)) rfl (fun hb21 => ?_) (fun hb21 => ?_)
 have h := ite_t hb21 h
 refine WC.region ?_
 refine Pu v3 (PO.loadB 1 pl26 (hρ 3) rfl rfl) rfl ?_
 refine Pm (.string a1) (hρ 1) rfl ?_
 refine WL.eff (EO.s2b Tryd.underlying9 Tryd.underlying26 Tryd.underlying5 rfl) rfl ?_
 rintro v24 _ _ - ⟨rfl, c22, rfl, h23⟩
 obtain ⟨r25, hr26, h⟩ := bnd h
 refine WL.f3 ?_
 refine WL.f1 ?_
 refine WL.eff (EO.call2 co39 (Tri.lend h23.excl fun w0_ H0_ hs0_ => (f_wire_Text_ok a3 (bytesOf a1) _ _ _ _ (h3.mono (IM.le_add _ _)) (h23.rs hs0_) r25 hr26)) (args2 rfl rfl)) rfl ?_
 rintro _ _ _ hle28 ⟨_, ⟨Ml30, Hl31, hll32, rfl, rfl, ⟨vq29, cq29, rfl, rfl, hq29⟩⟩, rfl⟩
 have h3 := h3.mono hle28
 have h23 := h23.mono hle28
 have hq29 : OwnS (Kd.int .u8) (Ml30.minus c22) vq29 r25 cq29 := hq29.any (Kd.int_flat _)
 refine WL.a2 ?_
 refine WL.f3 ?_
 refine WL.eff (EO.storeL (v := vq29) (vl := [vq29]) (arr' := [vq29]) hq29.cells sz26 (hρ 3) rfl (onesOf (Ones.cons (OwnS.one hq29) Ones.nil)) rfl rfl rfl) rfl ?_
 rintro _ _ _ - ⟨rfl, rfl⟩
 refine WL.nil ?_
 refine WQ.f1 ?_
 refine WQ.drop ?_
 refine WQ.f1 ?_
 refine WQ.f1 ?_
 refine WQ.f2 ?_
 exact WQ.endsF h [[(g2, .cells #[(.int .i64 a2)] 3 (0, 0))], [(g3, .cells #[vq29] 26 (0, 0))], cq29] rfl (results0 rfl) hle28 ⟨vq29, cq29, rfl, rfl, hq29⟩
 have h := ite_f hb21 h
 refine WC.skip ?_
 exact WQ.endsF h [[(g2, .cells #[(.int .i64 a2)] 3 (0, 0))], [(g3, .cells #[v3] 26 (0, 0))], c3] rfl (results0 rfl) (IM.le.refl _) ⟨v3, c3, rfl, rfl, h3⟩


end Go.Proofs.YtjiffdgidodebaaDoor.G
