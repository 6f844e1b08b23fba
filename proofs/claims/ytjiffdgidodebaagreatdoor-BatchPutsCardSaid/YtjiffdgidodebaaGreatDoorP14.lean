/- Go functions: what they come to, and that they do. Printed by a program of the session (gen). -/
import Derived.Test.YtjiffdgidodebaaGreatDoorPF
import Derived.Test.YtjiffdgidodebaaGreatDoorP13
import Derived.Test.YtjiffdgidodebaaGreatDoorKShar2
import Derived.Test.YtjiffdgidodebaaGreatDoorKConv
set_option linter.unusedVariables false
set_option linter.unusedSimpArgs false
set_option maxHeartbeats 8000000
set_option maxRecDepth 100000
namespace Go.Proofs.YtjiffdgidodebaaGreatDoor.G
open Go Go.KK

noncomputable def f_ref06_Check_l0 (a0 : T_api_Batch) (s_ : Int) : Option (Int ⊕ (Unit ⊕ (ByteArray × Int × Int × Int))) :=
  match s_ with
  | x37 =>
    (if (decide (x37 < (a0.Records.length : Int))) = true then (grd (0 ≤ x37 ∧ x37 < a0.Records.length) ((f_ref05_Check (rd a0.Records x37)).bind fun (r50 : T_ref05_Wrong) => (if (decide (r50.Code ≠ (0 : Int))) = true then (some (Sum.inr (Sum.inr (r50.Op, x37, r50.Code, x37)))) else (some (Sum.inl (IntKind.i64.wrap (x37 + (1 : Int)))))))) else (some (Sum.inr (Sum.inl ()))))
noncomputable def f_ref06_Check (a0 : T_api_Batch) : Option T_ref06_Wrong :=
  (((if (decide (a0.Term < (1 : Int))) = true then (some true) else (some (decide ((1073741824 : Int) < a0.Term)))) : Option Bool).bind fun (x23 : Bool) => (if x23 = true then (some (⟨(⟨(⟨#[116, 101, 114, 109]⟩ : ByteArray), a0.Term, (2 : Int)⟩ : T_ref05_Wrong), (-1 : Int)⟩ : T_ref06_Wrong)) else (((if (decide (a0.Base < (0 : Int))) = true then (some true) else (some (decide ((1073741824 : Int) < a0.Base)))) : Option Bool).bind fun (x27 : Bool) => (if x27 = true then (some (⟨(⟨(⟨#[98, 97, 115, 101]⟩ : ByteArray), a0.Base, (2 : Int)⟩ : T_ref05_Wrong), (-1 : Int)⟩ : T_ref06_Wrong)) else (((if (decide ((a0.Records.length : Int) < (1 : Int))) = true then (some true) else (some (decide ((64 : Int) < (a0.Records.length : Int))))) : Option Bool).bind fun (x31 : Bool) => (if x31 = true then (some (⟨(⟨(⟨#[114, 101, 99, 111, 114, 100, 115]⟩ : ByteArray), (a0.Records.length : Int), (6 : Int)⟩ : T_ref05_Wrong), (-1 : Int)⟩ : T_ref06_Wrong)) else ((((iter (f_ref06_Check_l0 a0) (0 : Int)).bind (Sum.elim (fun _ => (some (Sum.inl ()))) (fun (x38, x39, x40, x41) => (((some (⟨(⟨x38, x39, x40⟩ : T_ref05_Wrong), x41⟩ : T_ref06_Wrong))).bind fun r => some (Sum.inr r))))) : Option (Unit ⊕ T_ref06_Wrong)).bind (Sum.elim (fun _ => (some (⟨(⟨(⟨#[]⟩ : ByteArray), (0 : Int), (0 : Int)⟩ : T_ref05_Wrong), (-1 : Int)⟩ : T_ref06_Wrong))) some))))))))
def f_ref06_Check_post (a0 : T_api_Batch) (v0_2 : Value) : T_ref06_Wrong → Value → IM → HL → Prop :=
  fun (r0 : T_ref06_Wrong) (v : Value) (M' : IM) (H' : HL) => (.agg #[(.string r0.W.Op), (.int .i64 r0.W.At), (.int .i64 r0.W.Code), (.int .i64 r0.Record)]) = v ∧ H' = []
theorem f_ref06_Check_ok (a0 : T_api_Batch) (M : IM) (v0_2 : Value) (h0_2 : RS kd_api_Record M v0_2 a0.Records) (res : T_ref06_Wrong) (h : f_ref06_Check a0 = some res) :
    Tri Tryz.prog 10 #[(a24_ a0 v0_2)] M [] (f_ref06_Check_post a0 v0_2 res) := by
 unfold f_ref06_Check at h
 refine Tri.enter (fn := Tryz.f10) Tryz.func10 rfl (Nat.le_of_ble_eq_true rfl) ?_
 intro F ρ hρ
 refine Sr ?_
 refine WL.eff (EO.box (cs := (l24 a0 v0_2).toArray) (congrArg Value.cells (asE (a24_ a0 v0_2) (hρ 0)))) rfl ?_
 rintro _ _ _ - ⟨rfl, g21, rfl, rfl⟩
 refine WL.eff (EO.alloc ze35 rfl) rfl ?_
 rintro _ _ _ - ⟨rfl, g22, rfl, rfl⟩
 refine Ns ?_
 refine Pa (.int .i64 1073741824) rfl rfl ?_
 refine Nt ?_
 refine WC.seq ?_
 obtain ⟨x23, hj24, h⟩ := bnd h
 refine WC.joinF (fun (x23 : Bool) ρ' M' H' => M.le M' ∧ [(g22, .cells z35_.toArray 35 (0, 0))] :: [(g21, .cells (l24 a0 v0_2).toArray 24 (0, 0))] :: F = H' ∧ ρ' 1 = (pt g21 0) ∧ ρ' 2 = (pt g22 0) ∧ ρ' 3 = (.int .i64 1073741824) ∧ ρ' 14 = (.bool x23)) x23 ?_ ?_
 have h324 := h
 have h := hj24
 refine WC.region ?_
 refine Pu (pt g21 0) (PO.fieldAddr fo24_0 rfl rfl) rfl ?_
 refine Pu (.int .i64 a0.Term) (PO.loadB 1 pl3 rfl rfl rfl) rfl ?_
 refine Pu (.bool (decide (a0.Term < 1))) (PO.lss rfl rfl) rfl ?_
 refine Pm (.bool (decide (a0.Term < 1))) rfl rfl ?_
 rcases Bool.eq_false_or_eq_true (decide (a0.Term < 1)) with hb25 | hb25
 have h := ite_t hb25 h
 iterate 4 refine Of 9 rfl rfl hb25 rfl ?_
 refine Pu (.bool true) (PO.pickT rfl hb25 rfl) rfl ?_
 refine WL.nil ?_
 obtain rfl := Option.some.inj h
 refine WQ.thenJ ?_
 exact ⟨(IM.le.refl _), rfl, rfl, rfl, rfl, rfl⟩
 have h := ite_f hb25 h
 refine On 9 rfl rfl hb25 ?_
 refine Pu (pt g21 0) (PO.fieldAddr fo24_0 rfl rfl) rfl ?_
 refine On 9 rfl rfl hb25 ?_
 refine Pu (.int .i64 a0.Term) (PO.loadB 1 pl3 rfl rfl rfl) rfl ?_
 refine On 9 rfl rfl hb25 ?_
 refine Pm (.int .i64 1073741824) rfl rfl ?_
 refine On 9 rfl rfl hb25 ?_
 refine Pu (.bool (decide ((1073741824 : Int) < a0.Term))) (PO.gtr rfl rfl) rfl ?_
 refine Pu (.bool (decide ((1073741824 : Int) < a0.Term))) (PO.pickF rfl hb25 rfl) rfl ?_
 refine WL.nil ?_
 obtain rfl := Option.some.inj h
 refine WQ.thenJ ?_
 exact ⟨(IM.le.refl _), rfl, rfl, rfl, rfl, rfl⟩
 rintro ρ24 M24 H24 ⟨hle24, rfl, hs24_1, hs24_2, hs24_3, hs24_14⟩
 have h0_2 := h0_2.mono hle24
 refine WC.cond (b := x23) hs24_14 (fun hb26 => ?_) (fun hb26 => ?_)
 have h := ite_t hb26 h
 refine Sr ?_
 refine Pu (pt g21 0) (PO.fieldAddr fo24_0 hs24_1 rfl) rfl ?_
 refine Pu (.int .i64 a0.Term) (PO.loadB 1 pl3 rfl rfl rfl) rfl ?_
 refine Pu (.agg #[(.string ⟨#[116, 101, 114, 109]⟩), (.int .i64 a0.Term), (.int .i64 2)]) (PO.buildL (cl := [(.string ⟨#[116, 101, 114, 109]⟩), (.int .i64 a0.Term), (.int .i64 2)]) ze33 fp33 (Parts.cons (congrArg Value.cells (show ev _ _ = (.string ⟨#[116, 101, 114, 109]⟩) from rfl)) (Parts.cons (congrArg Value.cells (show ev _ _ = (.int .i64 a0.Term) from rfl)) (Parts.cons (congrArg Value.cells (show ev _ _ = (.int .i64 2) from rfl)) Parts.nil))) rfl) rfl ?_
 refine Pu (.agg #[(.string ⟨#[116, 101, 114, 109]⟩), (.int .i64 a0.Term), (.int .i64 2), (.int .i64 (-1 : Int))]) (PO.buildL (cl := [(.string ⟨#[116, 101, 114, 109]⟩), (.int .i64 a0.Term), (.int .i64 2), (.int .i64 (-1 : Int))]) ze35 fp35 (Parts.cons (congrArg Value.cells (show ev _ _ = (.agg #[(.string ⟨#[116, 101, 114, 109]⟩), (.int .i64 a0.Term), (.int .i64 2)]) from rfl)) (Parts.cons (congrArg Value.cells (show ev _ _ = (.int .i64 (-1 : Int)) from rfl)) Parts.nil)) rfl) rfl ?_
 refine WL.eff (EO.storeL (v := (.agg #[(.string ⟨#[116, 101, 114, 109]⟩), (.int .i64 a0.Term), (.int .i64 2), (.int .i64 (-1 : Int))])) (vl := [(.string ⟨#[116, 101, 114, 109]⟩), (.int .i64 a0.Term), (.int .i64 2), (.int .i64 (-1 : Int))]) (arr' := [(.string ⟨#[116, 101, 114, 109]⟩), (.int .i64 a0.Term), (.int .i64 2), (.int .i64 (-1 : Int))]) rfl sz35 hs24_2 rfl (onesOf (Ones.cons rfl (Ones.cons rfl (Ones.cons rfl (Ones.cons rfl Ones.nil))))) rfl rfl rfl) rfl ?_
 rintro _ _ _ - ⟨rfl, rfl⟩
 refine Nt ?_
 refine WC.ret ?_
 refine WQ.thenR ?_
 refine WQ.f1 ?_
 refine WQ.drop ?_
 exact WQ.returnsD h [] (fun _ hs => hs.drop) (resultsL1 rfl (RV.cellA (cs := [(.string ⟨#[116, 101, 114, 109]⟩), (.int .i64 a0.Term), (.int .i64 2), (.int .i64 (-1 : Int))]) 0 ag35 sz35 hs24_2 rfl rfl)) hle24 ⟨rfl, rfl⟩
 have h := ite_f hb26 h
 refine WC.skip ?_
 refine WQ.thenC ?_
 refine WC.seq ?_
 obtain ⟨x27, hj28, h⟩ := bnd h
 refine WC.joinF (fun (x27 : Bool) ρ' M' H' => M24.le M' ∧ [(g22, .cells z35_.toArray 35 (0, 0))] :: [(g21, .cells (l24 a0 v0_2).toArray 24 (0, 0))] :: F = H' ∧ ρ' 1 = (pt g21 0) ∧ ρ' 2 = (pt g22 0) ∧ ρ' 27 = (.bool x27)) x27 ?_ ?_
 have h328 := h
 have h := hj28
 refine WC.region ?_
 refine Pu (pt g21 1) (PO.fieldAddr fo24_1 hs24_1 rfl) rfl ?_
 refine Pu (.int .i64 a0.Base) (PO.loadB 1 pl3 rfl rfl rfl) rfl ?_
 refine Pu (.bool (decide (a0.Base < 0))) (PO.lss rfl rfl) rfl ?_
 refine Pm (.bool (decide (a0.Base < 0))) rfl rfl ?_
 rcases Bool.eq_false_or_eq_true (decide (a0.Base < 0)) with hb29 | hb29
 have h := ite_t hb29 h
 iterate 4 refine Of 22 rfl rfl hb29 rfl ?_
 refine Pu (.bool true) (PO.pickT rfl hb29 rfl) rfl ?_
 refine WL.nil ?_
 obtain rfl := Option.some.inj h
 refine WQ.thenJ ?_
 exact ⟨(IM.le.refl _), rfl, hs24_1, hs24_2, rfl⟩
 have h := ite_f hb29 h
 refine On 22 rfl rfl hb29 ?_
 refine Pu (pt g21 1) (PO.fieldAddr fo24_1 hs24_1 rfl) rfl ?_
 refine On 22 rfl rfl hb29 ?_
 refine Pu (.int .i64 a0.Base) (PO.loadB 1 pl3 rfl rfl rfl) rfl ?_
 refine On 22 rfl rfl hb29 ?_
 refine Pm (.int .i64 1073741824) hs24_3 rfl ?_
 refine On 22 rfl rfl hb29 ?_
 refine Pu (.bool (decide ((1073741824 : Int) < a0.Base))) (PO.gtr rfl rfl) rfl ?_
 refine Pu (.bool (decide ((1073741824 : Int) < a0.Base))) (PO.pickF rfl hb29 rfl) rfl ?_
 refine WL.nil ?_
 obtain rfl := Option.some.inj h
 refine WQ.thenJ ?_
 exact ⟨(IM.le.refl _), rfl, hs24_1, hs24_2, rfl⟩
 rintro ρ28 M28 H28 ⟨hle28, rfl, hs28_1, hs28_2, hs28_27⟩
 have h0_2 := h0_2.mono hle28
 refine WC.cond (b := x27) hs28_27 (fun hb30 => ?_) (fun hb30 => ?_)
 have h := ite_t hb30 h
 refine Sr ?_
 refine Pu (pt g21 1) (PO.fieldAddr fo24_1 hs28_1 rfl) rfl ?_
 refine Pu (.int .i64 a0.Base) (PO.loadB 1 pl3 rfl rfl rfl) rfl ?_
 refine Pu (.agg #[(.string ⟨#[98, 97, 115, 101]⟩), (.int .i64 a0.Base), (.int .i64 2)]) (PO.buildL (cl := [(.string ⟨#[98, 97, 115, 101]⟩), (.int .i64 a0.Base), (.int .i64 2)]) ze33 fp33 (Parts.cons (congrArg Value.cells (show ev _ _ = (.string ⟨#[98, 97, 115, 101]⟩) from rfl)) (Parts.cons (congrArg Value.cells (show ev _ _ = (.int .i64 a0.Base) from rfl)) (Parts.cons (congrArg Value.cells (show ev _ _ = (.int .i64 2) from rfl)) Parts.nil))) rfl) rfl ?_
 refine Pu (.agg #[(.string ⟨#[98, 97, 115, 101]⟩), (.int .i64 a0.Base), (.int .i64 2), (.int .i64 (-1 : Int))]) (PO.buildL (cl := [(.string ⟨#[98, 97, 115, 101]⟩), (.int .i64 a0.Base), (.int .i64 2), (.int .i64 (-1 : Int))]) ze35 fp35 (Parts.cons (congrArg Value.cells (show ev _ _ = (.agg #[(.string ⟨#[98, 97, 115, 101]⟩), (.int .i64 a0.Base), (.int .i64 2)]) from rfl)) (Parts.cons (congrArg Value.cells (show ev _ _ = (.int .i64 (-1 : Int)) from rfl)) Parts.nil)) rfl) rfl ?_
 refine WL.eff (EO.storeL (v := (.agg #[(.string ⟨#[98, 97, 115, 101]⟩), (.int .i64 a0.Base), (.int .i64 2), (.int .i64 (-1 : Int))])) (vl := [(.string ⟨#[98, 97, 115, 101]⟩), (.int .i64 a0.Base), (.int .i64 2), (.int .i64 (-1 : Int))]) (arr' := [(.string ⟨#[98, 97, 115, 101]⟩), (.int .i64 a0.Base), (.int .i64 2), (.int .i64 (-1 : Int))]) rfl sz35 hs28_2 rfl (onesOf (Ones.cons rfl (Ones.cons rfl (Ones.cons rfl (Ones.cons rfl Ones.nil))))) rfl rfl rfl) rfl ?_
 rintro _ _ _ - ⟨rfl, rfl⟩
 refine Nt ?_
 refine WC.ret ?_
 refine WQ.thenR ?_
 refine WQ.f1 ?_
 refine WQ.drop ?_
 exact WQ.returnsD h [] (fun _ hs => hs.drop) (resultsL1 rfl (RV.cellA (cs := [(.string ⟨#[98, 97, 115, 101]⟩), (.int .i64 a0.Base), (.int .i64 2), (.int .i64 (-1 : Int))]) 0 ag35 sz35 hs28_2 rfl rfl)) (hle24.trans hle28) ⟨rfl, rfl⟩
 have h := ite_f hb30 h
 refine WC.skip ?_
 refine WQ.thenC ?_
 refine WC.seq ?_
 obtain ⟨x31, hj32, h⟩ := bnd h
 refine WC.joinF (fun (x31 : Bool) ρ' M' H' => M28.le M' ∧ [(g22, .cells z35_.toArray 35 (0, 0))] :: [(g21, .cells (l24 a0 v0_2).toArray 24 (0, 0))] :: F = H' ∧ ρ' 1 = (pt g21 0) ∧ ρ' 2 = (pt g22 0) ∧ ρ' 41 = (.bool x31)) x31 ?_ ?_
 have h332 := h
 have h := hj32
 refine WC.region ?_
 refine Pu (pt g21 2) (PO.fieldAddr fo24_2 hs28_1 rfl) rfl ?_
 refine Pu v0_2 (PO.loadB 1 pl22 rfl rfl rfl) rfl ?_
 refine Pu (.int .i64 (a0.Records.length : Int)) (PO.lenS Tryz.underlying22 rfl h0_2.len) rfl ?_
 refine Pu (.bool (decide ((a0.Records.length : Int) < (1 : Int)))) (PO.lss rfl rfl) rfl ?_
 refine Pm (.bool (decide ((a0.Records.length : Int) < (1 : Int)))) rfl rfl ?_
 rcases Bool.eq_false_or_eq_true (decide ((a0.Records.length : Int) < (1 : Int))) with hb33 | hb33
 have h := ite_t hb33 h
 iterate 4 refine Of 36 rfl rfl hb33 rfl ?_
 refine Pu (.bool true) (PO.pickT rfl hb33 rfl) rfl ?_
 refine WL.nil ?_
 obtain rfl := Option.some.inj h
 refine WQ.thenJ ?_
 exact ⟨(IM.le.refl _), rfl, hs28_1, hs28_2, rfl⟩
 have h := ite_f hb33 h
 refine On 36 rfl rfl hb33 ?_
 refine Pu (pt g21 2) (PO.fieldAddr fo24_2 hs28_1 rfl) rfl ?_
 refine On 36 rfl rfl hb33 ?_
 refine Pu v0_2 (PO.loadB 1 pl22 rfl rfl rfl) rfl ?_
 refine On 36 rfl rfl hb33 ?_
 refine Pu (.int .i64 (a0.Records.length : Int)) (PO.lenS Tryz.underlying22 rfl h0_2.len) rfl ?_
 refine On 36 rfl rfl hb33 ?_
 refine Pu (.bool (decide ((64 : Int) < (a0.Records.length : Int)))) (PO.gtr rfl rfl) rfl ?_
 refine Pu (.bool (decide ((64 : Int) < (a0.Records.length : Int)))) (PO.pickF rfl hb33 rfl) rfl ?_
 refine WL.nil ?_
 obtain rfl := Option.some.inj h
 refine WQ.thenJ ?_
 exact ⟨(IM.le.refl _), rfl, hs28_1, hs28_2, rfl⟩
 rintro ρ32 M32 H32 ⟨hle32, rfl, hs32_1, hs32_2, hs32_41⟩
 have h0_2 := h0_2.mono hle32
 refine WC.cond (b := x31) hs32_41 (fun hb34 => ?_) (fun hb34 => ?_)
 have h := ite_t hb34 h
 refine Sr ?_
 refine Pu (pt g21 2) (PO.fieldAddr fo24_2 hs32_1 rfl) rfl ?_
 refine Pu v0_2 (PO.loadB 1 pl22 rfl rfl rfl) rfl ?_
 refine Pu (.int .i64 (a0.Records.length : Int)) (PO.lenS Tryz.underlying22 rfl h0_2.len) rfl ?_
 refine Pu (.agg #[(.string ⟨#[114, 101, 99, 111, 114, 100, 115]⟩), (.int .i64 (a0.Records.length : Int)), (.int .i64 6)]) (PO.buildL (cl := [(.string ⟨#[114, 101, 99, 111, 114, 100, 115]⟩), (.int .i64 (a0.Records.length : Int)), (.int .i64 6)]) ze33 fp33 (Parts.cons (congrArg Value.cells (show ev _ _ = (.string ⟨#[114, 101, 99, 111, 114, 100, 115]⟩) from rfl)) (Parts.cons (congrArg Value.cells (show ev _ _ = (.int .i64 (a0.Records.length : Int)) from rfl)) (Parts.cons (congrArg Value.cells (show ev _ _ = (.int .i64 6) from rfl)) Parts.nil))) rfl) rfl ?_
 refine Pu (.agg #[(.string ⟨#[114, 101, 99, 111, 114, 100, 115]⟩), (.int .i64 (a0.Records.length : Int)), (.int .i64 6), (.int .i64 (-1 : Int))]) (PO.buildL (cl := [(.string ⟨#[114, 101, 99, 111, 114, 100, 115]⟩), (.int .i64 (a0.Records.length : Int)), (.int .i64 6), (.int .i64 (-1 : Int))]) ze35 fp35 (Parts.cons (congrArg Value.cells (show ev _ _ = (.agg #[(.string ⟨#[114, 101, 99, 111, 114, 100, 115]⟩), (.int .i64 (a0.Records.length : Int)), (.int .i64 6)]) from rfl)) (Parts.cons (congrArg Value.cells (show ev _ _ = (.int .i64 (-1 : Int)) from rfl)) Parts.nil)) rfl) rfl ?_
 refine WL.eff (EO.storeL (v := (.agg #[(.string ⟨#[114, 101, 99, 111, 114, 100, 115]⟩), (.int .i64 (a0.Records.length : Int)), (.int .i64 6), (.int .i64 (-1 : Int))])) (vl := [(.string ⟨#[114, 101, 99, 111, 114, 100, 115]⟩), (.int .i64 (a0.Records.length : Int)), (.int .i64 6), (.int .i64 (-1 : Int))]) (arr' := [(.string ⟨#[114, 101, 99, 111, 114, 100, 115]⟩), (.int .i64 (a0.Records.length : Int)), (.int .i64 6), (.int .i64 (-1 : Int))]) rfl sz35 hs32_2 rfl (onesOf (Ones.cons rfl (Ones.cons rfl (Ones.cons rfl (Ones.cons rfl Ones.nil))))) rfl rfl rfl) rfl ?_
 rintro _ _ _ - ⟨rfl, rfl⟩
 refine Nt ?_
 refine WC.ret ?_
 refine WQ.thenR ?_
 refine WQ.f1 ?_
 refine WQ.drop ?_
 exact WQ.returnsD h [] (fun _ hs => hs.drop) (resultsL1 rfl (RV.cellA (cs := [(.string ⟨#[114, 101, 99, 111, 114, 100, 115]⟩), (.int .i64 (a0.Records.length : Int)), (.int .i64 6), (.int .i64 (-1 : Int))]) 0 ag35 sz35 hs32_2 rfl rfl)) ((hle24.trans hle28).trans hle32) ⟨rfl, rfl⟩
 have h := ite_f hb34 h
 refine WC.skip ?_
 refine WQ.thenC ?_
 obtain ⟨j35, hj35, h⟩ := bnd h
 refine WC.joinE (fun (_ : Unit) ρ' M' H' => M32.le M' ∧ [(g22, .cells z35_.toArray 35 (0, 0))] :: [(g21, .cells (l24 a0 v0_2).toArray 24 (0, 0))] :: F = H' ∧ ρ' 2 = (pt g22 0)) j35 ?_ ?_
 have h335 := h
 have h := hj35
 refine Sr ?_
 refine Pa (.int .i64 0) rfl rfl ?_
 refine Nt ?_
 refine WC.block ?_
 obtain ⟨e36, he36, hK36⟩ := bnd h
 clear h
 refine WC.loop he36 (fun (x37 : Int) ρ' M' H' => M32.le M' ∧ [(g22, .cells z35_.toArray 35 (0, 0))] :: [(g21, .cells (l24 a0 v0_2).toArray 24 (0, 0))] :: F = H' ∧ ρ' 1 = (pt g21 0) ∧ ρ' 2 = (pt g22 0) ∧ ρ' 4 = (.int .i64 x37)) ?_ ?_
 exact ⟨(IM.le.refl _), rfl, hs32_1, hs32_2, rfl⟩
 rintro x37 o36 ρ36 M36 H36 h ⟨hle36, rfl, hs36_1, hs36_2, hs36_4⟩
 unfold f_ref06_Check_l0 at h
 have h0_2 := h0_2.mono hle36
 refine WC.seq ?_
 refine Sr ?_
 refine Pm (.int .i64 x37) hs36_4 rfl ?_
 refine Pu (pt g21 2) (PO.fieldAddr fo24_2 hs36_1 rfl) rfl ?_
 refine Pu v0_2 (PO.loadB 1 pl22 rfl rfl rfl) rfl ?_
 refine Pu (.int .i64 (a0.Records.length : Int)) (PO.lenS Tryz.underlying22 rfl h0_2.len) rfl ?_
 refine Pu (.bool (decide (x37 < (a0.Records.length : Int)))) (PO.lss rfl rfl) rfl ?_
 refine Nt ?_
 refine WC.cond (b := decide (x37 < (a0.Records.length : Int))) rfl (fun hb42 => ?_) (fun hb42 => ?_)
 have h := ite_t hb42 h
 refine WC.skip ?_
 refine WQ.thenC ?_
 refine WC.seq ?_
 refine WC.block ?_
 refine Sr ?_
 refine Pu (pt g21 2) (PO.fieldAddr fo24_2 hs36_1 rfl) rfl ?_
 refine Pu v0_2 (PO.loadB 1 pl22 rfl rfl rfl) rfl ?_
 refine Pm (.int .i64 x37) hs36_4 rfl ?_
 obtain ⟨hg43, h⟩ := grd_i h
 obtain ⟨p44, cs45, hat46, hrc47, hhas48⟩ := h0_2.at hg43.1 hg43.2 (by decide)
 obtain ⟨vw49_14, vw49_15, vw49_16, vw49_17, rfl, hw49_14, hw49_15, hw49_16, hw49_17⟩ := kd_api_Record_open hrc47
 refine Pu (.pointer (some p44)) (PO.indexAddr (n := a0.Records.length) Tryz.underlying22 sz67 rfl rfl hg43.1 hg43.2 hat46) rfl ?_
 refine Pu (a67_ (rd a0.Records x37) vw49_14 vw49_15 vw49_16 vw49_17) (PO.loadMA (cs := (l67 (rd a0.Records x37) vw49_14 vw49_15 vw49_16 vw49_17)) ag67 sz67 rfl hhas48) rfl ?_
 obtain ⟨r50, hr51, h⟩ := bnd h
 refine WL.eff (EO.call0 co34 (f_ref05_Check_ok (rd a0.Records x37) _ _ _ _ _ hw49_14 hw49_15 hw49_16 hw49_17 r50 hr51) (args1 rfl)) rfl ?_
 rintro _ M52 _ hle53 ⟨_, ⟨rfl, rfl⟩, rfl⟩
 have h0_2 := h0_2.mono hle53
 have hhas48 := hhas48.mono hle53
 have hw49_14 := hw49_14.mono hle53
 have hw49_15 := hw49_15.mono hle53
 have hw49_16 := hw49_16.mono hle53
 have hw49_17 := hw49_17.mono hle53
 refine WL.a0 ?_
 refine WL.eff (EO.alloc ze33 rfl) rfl ?_
 rintro _ _ _ - ⟨rfl, g55, rfl, rfl⟩
 refine WL.eff (EO.storeL (v := (a33_ r50)) (vl := (l33 r50)) (arr' := (l33 r50)) rfl sz33 rfl rfl (onesOf (Ones.cons rfl (Ones.cons rfl (Ones.cons rfl Ones.nil)))) rfl rfl rfl) rfl ?_
 rintro _ _ _ - ⟨rfl, rfl⟩
 refine Ns ?_
 refine Pu (pt g55 2) (PO.fieldAddr fo33_2 rfl rfl) rfl ?_
 refine Pu (.int .i64 r50.Code) (PO.loadB 0 pl31 rfl rfl rfl) rfl ?_
 refine Pu (.bool (decide (r50.Code ≠ 0))) (PO.neq rfl rfl) rfl ?_
 refine Nt ?_
 refine WC.cond (b := decide (r50.Code ≠ 0)) rfl (fun hb56 => ?_) (fun hb56 => ?_)
 have h := ite_t hb56 h
 refine Sr ?_
 refine Pu (pt g55 0) (PO.fieldAddr fo33_0 rfl rfl) rfl ?_
 refine Pu (.string r50.Op) (PO.loadB 0 pl9 rfl rfl rfl) rfl ?_
 refine Pm (.int .i64 x37) hs36_4 rfl ?_
 refine Pu (pt g55 2) (PO.fieldAddr fo33_2 rfl rfl) rfl ?_
 refine Pu (.int .i64 r50.Code) (PO.loadB 0 pl31 rfl rfl rfl) rfl ?_
 refine Pu (.agg #[(.string r50.Op), (.int .i64 x37), (.int .i64 r50.Code)]) (PO.buildL (cl := [(.string r50.Op), (.int .i64 x37), (.int .i64 r50.Code)]) ze33 fp33 (Parts.cons (congrArg Value.cells (show ev _ _ = (.string r50.Op) from rfl)) (Parts.cons (congrArg Value.cells (show ev _ _ = (.int .i64 x37) from rfl)) (Parts.cons (congrArg Value.cells (show ev _ _ = (.int .i64 r50.Code) from rfl)) Parts.nil))) rfl) rfl ?_
 refine Pm (.int .i64 x37) hs36_4 rfl ?_
 refine Pu (.agg #[(.string r50.Op), (.int .i64 x37), (.int .i64 r50.Code), (.int .i64 x37)]) (PO.buildL (cl := [(.string r50.Op), (.int .i64 x37), (.int .i64 r50.Code), (.int .i64 x37)]) ze35 fp35 (Parts.cons (congrArg Value.cells (show ev _ _ = (.agg #[(.string r50.Op), (.int .i64 x37), (.int .i64 r50.Code)]) from rfl)) (Parts.cons (congrArg Value.cells (show ev _ _ = (.int .i64 x37) from rfl)) Parts.nil)) rfl) rfl ?_
 refine WL.f1 ?_
 refine WL.eff (EO.storeL (v := (.agg #[(.string r50.Op), (.int .i64 x37), (.int .i64 r50.Code), (.int .i64 x37)])) (vl := [(.string r50.Op), (.int .i64 x37), (.int .i64 r50.Code), (.int .i64 x37)]) (arr' := [(.string r50.Op), (.int .i64 x37), (.int .i64 r50.Code), (.int .i64 x37)]) rfl sz35 hs36_2 rfl (onesOf (Ones.cons rfl (Ones.cons rfl (Ones.cons rfl (Ones.cons rfl Ones.nil))))) rfl rfl rfl) rfl ?_
 rintro _ _ _ - ⟨rfl, rfl⟩
 refine Nt ?_
 refine WC.ret ?_
 refine WQ.blockR ?_
 refine WQ.thenR ?_
 refine WQ.leaveR (Sum.inr (r50.Op, x37, r50.Code, x37)) (Option.some.inj h).symm (fun heq36 => ?_)
 subst heq36
 have h := (elimR hK36)
 refine WQ.blockR ?_
 refine WQ.thenR ?_
 have h := KK.early h h335
 refine WQ.f1 ?_
 refine WQ.drop ?_
 refine WQ.f1 ?_
 refine WQ.drop ?_
 exact WQ.returnsD h [] (fun _ hs => hs.drop) (resultsL1 rfl (RV.cellA (cs := [(.string r50.Op), (.int .i64 x37), (.int .i64 r50.Code), (.int .i64 x37)]) 0 ag35 sz35 hs36_2 rfl rfl)) ((((hle24.trans hle28).trans hle32).trans hle36).trans hle53) ⟨rfl, rfl⟩
 have h := ite_f hb56 h
 refine WC.skip ?_
 refine WQ.blockN ?_
 refine WQ.thenC ?_
 refine WC.region ?_
 refine Pm (.int .i64 x37) hs36_4 rfl ?_
 refine Pu (.int .i64 (IntKind.i64.wrap (x37 + 1))) (PO.add rfl rfl) rfl ?_
 refine Pa (.int .i64 (IntKind.i64.wrap (x37 + 1))) rfl rfl ?_
 refine WL.nil ?_
 refine WQ.drop ?_
 refine WQ.again (IntKind.i64.wrap (x37 + 1)) (Option.some.inj h).symm ?_
 exact ⟨(hle36.trans hle53), rfl, hs36_1, hs36_2, rfl⟩
 have h := ite_f hb42 h
 refine WC.exit ?_
 refine WQ.thenE ?_
 refine WQ.leaveE (Sum.inl ()) (Option.some.inj h).symm (fun heq36 => ?_)
 subst heq36
 have h := elimL hK36
 refine WQ.blockH ?_
 refine WQ.thenFE h ?_
 exact ⟨hle36, rfl, hs36_2⟩
 rintro _ ρ35 M35 H35 rfl ⟨hle35, rfl, hs35_2⟩
 have h := (Sum.elim_inl _ _ _).symm.trans h
 have h0_2 := h0_2.mono hle35
 refine Sr ?_
 refine Pu (.agg #[(.string ⟨#[]⟩), (.int .i64 0), (.int .i64 0), (.int .i64 (-1 : Int))]) (PO.buildL (cl := [(.string ⟨#[]⟩), (.int .i64 0), (.int .i64 0), (.int .i64 (-1 : Int))]) ze35 fp35 (Parts.cons (congrArg Value.cells (show ev _ _ = (.int .i64 (-1 : Int)) from rfl)) Parts.nil) rfl) rfl ?_
 refine WL.eff (EO.storeL (v := (.agg #[(.string ⟨#[]⟩), (.int .i64 0), (.int .i64 0), (.int .i64 (-1 : Int))])) (vl := [(.string ⟨#[]⟩), (.int .i64 0), (.int .i64 0), (.int .i64 (-1 : Int))]) (arr' := [(.string ⟨#[]⟩), (.int .i64 0), (.int .i64 0), (.int .i64 (-1 : Int))]) rfl sz35 hs35_2 rfl (onesOf (Ones.cons rfl (Ones.cons rfl (Ones.cons rfl (Ones.cons rfl Ones.nil))))) rfl rfl rfl) rfl ?_
 rintro _ _ _ - ⟨rfl, rfl⟩
 refine Nt ?_
 refine WC.ret ?_
 refine WQ.f1 ?_
 refine WQ.drop ?_
 exact WQ.returnsD h [] (fun _ hs => hs.drop) (resultsL1 rfl (RV.cellA (cs := [(.string ⟨#[]⟩), (.int .i64 0), (.int .i64 0), (.int .i64 (-1 : Int))]) 0 ag35 sz35 hs35_2 rfl rfl)) (((hle24.trans hle28).trans hle32).trans hle35) ⟨rfl, rfl⟩

noncomputable def f_ref02_size (a0 : Int) : Option Int :=
  (if (decide (a0 < (64 : Int))) = true then (some (1 : Int)) else (if (decide (a0 < (16384 : Int))) = true then (some (2 : Int)) else (if (decide (a0 < (1073741824 : Int))) = true then (some (4 : Int)) else (some (8 : Int)))))
def f_ref02_size_post (a0 : Int) : Int → Value → IM → HL → Prop :=
  fun (r0 : Int) (v : Value) (M' : IM) (H' : HL) => (.int .i64 r0) = v ∧ H' = []
theorem f_ref02_size_ok (a0 : Int) (M : IM) (res : Int) (h : f_ref02_size a0 = some res) :
    Tri Tryz.prog 119 #[(.int .u64 a0)] M [] (f_ref02_size_post a0 res) := by
 unfold f_ref02_size at h
 refine Tri.enter (fn := Tryz.f119) Tryz.func119 rfl (Nat.le_of_ble_eq_true rfl) ?_
 intro F ρ hρ
 refine Sr ?_
 refine Pa (.int .i64 0) rfl rfl ?_
 refine Nt ?_
 refine WC.seq ?_
 refine Sr ?_
 refine Pm (.int .u64 a0) (hρ 0) rfl ?_
 refine Pu (.bool (decide (a0 < 64))) (PO.lss rfl rfl) rfl ?_
 refine Nt ?_
 refine WC.cond (b := decide (a0 < 64)) rfl (fun hb21 => ?_) (fun hb21 => ?_)
 have h := ite_t hb21 h
 refine Sr ?_
 refine Pa (.int .i64 1) rfl rfl ?_
 refine Nt ?_
 refine WC.ret ?_
 refine WQ.thenR ?_
 exact WQ.returnsF h [] rfl (results1 rfl rfl) (IM.le.refl _) ⟨rfl, rfl⟩
 have h := ite_f hb21 h
 refine WC.skip ?_
 refine WQ.thenC ?_
 refine WC.seq ?_
 refine Sr ?_
 refine Pm (.int .u64 a0) (hρ 0) rfl ?_
 refine Pu (.bool (decide (a0 < 16384))) (PO.lss rfl rfl) rfl ?_
 refine Nt ?_
 refine WC.cond (b := decide (a0 < 16384)) rfl (fun hb22 => ?_) (fun hb22 => ?_)
 have h := ite_t hb22 h
 refine Sr ?_
 refine Pa (.int .i64 2) rfl rfl ?_
 refine Nt ?_
 refine WC.ret ?_
 refine WQ.thenR ?_
 exact WQ.returnsF h [] rfl (results1 rfl rfl) (IM.le.refl _) ⟨rfl, rfl⟩
 have h := ite_f hb22 h
 refine WC.skip ?_
 refine WQ.thenC ?_
 refine WC.seq ?_
 refine Sr ?_
 refine Pm (.int .u64 a0) (hρ 0) rfl ?_
 refine Pu (.bool (decide (a0 < 1073741824))) (PO.lss rfl rfl) rfl ?_
 refine Nt ?_
 refine WC.cond (b := decide (a0 < 1073741824)) rfl (fun hb23 => ?_) (fun hb23 => ?_)
 have h := ite_t hb23 h
 refine Sr ?_
 refine Pa (.int .i64 4) rfl rfl ?_
 refine Nt ?_
 refine WC.ret ?_
 refine WQ.thenR ?_
 exact WQ.returnsF h [] rfl (results1 rfl rfl) (IM.le.refl _) ⟨rfl, rfl⟩
 have h := ite_f hb23 h
 refine WC.skip ?_
 refine WQ.thenC ?_
 refine Sr ?_
 refine Pa (.int .i64 8) rfl rfl ?_
 refine Nt ?_
 refine WC.ret ?_
 exact WQ.returnsF h [] rfl (results1 rfl rfl) (IM.le.refl _) ⟨rfl, rfl⟩

noncomputable def f_ref02_Num_l0 (s_ : (Int × (List Int) × Int)) : Option ((Int × (List Int) × Int) ⊕ (List Int)) :=
  match s_ with
  | (x36, x37, x38) =>
    (if (decide ((0 : Int) ≤ x38)) = true then (grd (0 ≤ x38 ∧ x38 < x37.length) (some (Sum.inl (IntKind.u64.wrap (x36.tdiv (256 : Int)), x37.set (x38).toNat (IntKind.u8.wrap (x36.tmod (256 : Int))), IntKind.i64.wrap (x38 - (1 : Int)))))) else (some (Sum.inr x37)))
noncomputable def f_ref02_Num_l1 (r24 : Int) (s_ : (Int × Int)) : Option ((Int × Int) ⊕ Int) :=
  match s_ with
  | (x53, x54) =>
    (if (decide (x54 < r24)) = true then (some (Sum.inl (IntKind.u8.wrap (x53 + (64 : Int)), IntKind.i64.wrap (x54 * (2 : Int))))) else (some (Sum.inr x53)))
noncomputable def f_ref02_Num (a0 : Int) : Option (List Int) :=
  (((if (decide ((4611686018427387903 : Int) < a0)) = true then (some (4611686018427387903 : Int)) else (some a0)) : Option Int).bind fun (x21 : Int) => ((f_ref02_size x21).bind fun (r24 : Int) => (grd (0 ≤ r24 ∧ r24 ≤ 274877906944) ((((iter (f_ref02_Num_l0) (x21, List.replicate (r24).toNat (0 : Int), IntKind.i64.wrap (r24 - (1 : Int)))).bind (fun (x39 : (List Int)) => (some x39))) : Option (List Int)).bind fun (x33 : (List Int)) => ((((iter (f_ref02_Num_l1 r24) ((0 : Int), (1 : Int))).bind (fun (x55 : Int) => (some x55))) : Option Int).bind fun (x50 : Int) => (grd (0 ≤ (0 : Int) ∧ (0 : Int) < x33.length) (grd (0 ≤ (0 : Int) ∧ (0 : Int) < x33.length) (some (x33.set ((0 : Int)).toNat (IntKind.u8.wrap ((rd x33 (0 : Int)) + x50)))))))))))
def f_ref02_Num_post (a0 : Int) : (List Int) → Value → IM → HL → Prop :=
  fun (r0 : (List Int)) (v : Value) (M' : IM) (H' : HL) => ∃ vz0 cz0, vz0 = v ∧ H' = [cz0] ∧ OwnS (Kd.int .u8) M' vz0 r0 cz0
theorem f_ref02_Num_ok (a0 : Int) (M : IM) (res : (List Int)) (h : f_ref02_Num a0 = some res) :
    Tri Tryz.prog 102 #[(.int .u64 a0)] M [] (f_ref02_Num_post a0 res) := by
 unfold f_ref02_Num at h
 refine Tri.enter (fn := Tryz.f102) Tryz.func102 rfl (Nat.le_of_ble_eq_true rfl) ?_
 intro F ρ hρ
 refine Sr ?_
 refine Pa (.slice none 0 0) rfl rfl ?_
 refine Ns ?_
 refine Pm (.int .u64 a0) (hρ 0) rfl ?_
 refine Pa (.int .u64 a0) rfl rfl ?_
 refine Nt ?_
 obtain ⟨x21, hj22, h⟩ := bnd h
 refine WC.joinF (fun (x21 : Int) ρ' M' H' => M.le M' ∧ F = H' ∧ ρ' 3 = (.int .u64 x21)) x21 ?_ ?_
 have h322 := h
 have h := hj22
 refine Sr ?_
 refine Pm (.int .u64 a0) rfl rfl ?_
 refine Pu (.bool (decide ((4611686018427387903 : Int) < a0))) (PO.gtr rfl rfl) rfl ?_
 refine Nt ?_
 refine WC.cond (b := decide ((4611686018427387903 : Int) < a0)) rfl (fun hb23 => ?_) (fun hb23 => ?_)
 have h := ite_t hb23 h
 refine WC.region ?_
 refine Pa (.int .u64 4611686018427387903) rfl rfl ?_
 refine WL.nil ?_
 obtain rfl := Option.some.inj h
 refine WQ.thenJ ?_
 exact ⟨(IM.le.refl _), rfl, rfl⟩
 have h := ite_f hb23 h
 refine WC.skip ?_
 obtain rfl := Option.some.inj h
 refine WQ.thenJ ?_
 exact ⟨(IM.le.refl _), rfl, rfl⟩
 rintro ρ22 M22 H22 ⟨hle22, rfl, hs22_3⟩
 refine Sr ?_
 refine Pm (.int .u64 x21) hs22_3 rfl ?_
 obtain ⟨r24, hr25, h⟩ := bnd h
 refine WL.eff (EO.call0 co119 (f_ref02_size_ok x21 _ r24 hr25) (args1 rfl)) rfl ?_
 rintro _ M26 _ hle27 ⟨_, ⟨rfl, rfl⟩, rfl⟩
 refine WL.a0 ?_
 refine Pa (.int .i64 r24) rfl rfl ?_
 refine Ns ?_
 refine Pm (.int .i64 r24) rfl rfl ?_
 obtain ⟨hg32, h⟩ := grd_i h
 refine WL.eff (EO.makeSlice (dd := (Kd.int .u8)) Tryz.underlying40 in5 rfl rfl rfl rfl rfl hg32.1 (by decide) (makeB rfl hg32.1 hg32.2)) rfl ?_
 rintro v31 _ _ - ⟨rfl, c29, rfl, h30⟩
 refine Pa v31 rfl rfl ?_
 refine Nt ?_
 obtain ⟨x33, hj34, h⟩ := bnd h
 refine WC.joinF (fun (x33 : (List Int)) ρ' M' H' => ∃ vx33 cx33, M26.le M' ∧ cx33 :: F = H' ∧ ρ' 4 = (.int .i64 r24) ∧ ρ' 5 = vx33 ∧ OwnS (Kd.int .u8) M' vx33 x33 cx33) x33 ?_ ?_
 have h334 := h
 have h := hj34
 refine Sr ?_
 refine Pm (.int .i64 r24) rfl rfl ?_
 refine Pu (.int .i64 (IntKind.i64.wrap (r24 - 1))) (PO.sub rfl rfl) rfl ?_
 refine Pa (.int .i64 (IntKind.i64.wrap (r24 - 1))) rfl rfl ?_
 refine Nt ?_
 refine WC.block ?_
 obtain ⟨e35, he35, hK35⟩ := bnd h
 clear h
 refine WC.loop he35 (fun (p_ : (Int × (List Int) × Int)) ρ' M' H' => match p_ with | (x36, x37, x38) => ∃ vx37 cx37, M26.le M' ∧ cx37 :: F = H' ∧ ρ' 3 = (.int .u64 x36) ∧ ρ' 4 = (.int .i64 r24) ∧ ρ' 5 = vx37 ∧ ρ' 6 = (.int .i64 x38) ∧ OwnS (Kd.int .u8) M' vx37 x37 cx37) ?_ ?_
 exact ⟨v31, c29, (IM.le.refl _), rfl, hs22_3, rfl, rfl, rfl, h30⟩
 rintro ⟨x36, x37, x38⟩ o35 ρ35 M35 H35 h ⟨vx37, cx37, hle35, rfl, hs35_3, hs35_4, hs35_5, hs35_6, hx37⟩
 unfold f_ref02_Num_l0 at h
 refine WC.seq ?_
 refine Sr ?_
 refine Pm (.int .i64 x38) hs35_6 rfl ?_
 refine Pu (.bool (decide ((0 : Int) ≤ x38))) (PO.geq rfl rfl) rfl ?_
 refine Nt ?_
 refine WC.cond (b := decide ((0 : Int) ≤ x38)) rfl (fun hb40 => ?_) (fun hb40 => ?_)
 have h := ite_t hb40 h
 refine WC.skip ?_
 refine WQ.thenC ?_
 refine WC.seq ?_
 refine WC.block ?_
 refine Sr ?_
 refine Pm vx37 hs35_5 rfl ?_
 refine Pm (.int .i64 x38) hs35_6 rfl ?_
 refine Pm (.int .u64 x36) hs35_3 rfl ?_
 refine Pu (.int .u64 (x36.tmod (256 : Int))) (PO.rem rfl rfl (by decide)) rfl ?_
 refine Pu (.int .u8 (IntKind.u8.wrap (x36.tmod (256 : Int)))) (PO.conv us112 Tryz.underlying5 rfl) rfl ?_
 obtain ⟨hg41, h⟩ := grd_i h
 obtain ⟨p42, cs43, hat44, hrc45, hhas46⟩ := hx37.at hg41.1 hg41.2
 obtain rfl := hrc45
 refine Pu (.pointer (some p42)) (PO.indexAddr (n := x37.length) Tryz.underlying40 sz5 rfl rfl hg41.1 hg41.2 hat44) rfl ?_
 refine WL.eff (EO.storeOwn (dd := (Kd.int .u8)) (a := (IntKind.u8.wrap (x36.tmod (256 : Int)))) sz5 rfl hat44 rfl hg41.1 hg41.2 rfl hx37 rfl) rfl ?_
 rintro _ _ _ - ⟨rfl, c48, rfl, h49⟩
 refine Nt ?_
 refine WC.region ?_
 refine Pm (.int .u64 x36) hs35_3 rfl ?_
 refine Pu (.int .u64 (IntKind.u64.wrap (x36.tdiv (256 : Int)))) (PO.quo rfl rfl (by decide)) rfl ?_
 refine Pa (.int .u64 (IntKind.u64.wrap (x36.tdiv (256 : Int)))) rfl rfl ?_
 refine WL.nil ?_
 refine WQ.blockN ?_
 refine WQ.thenC ?_
 refine WC.region ?_
 refine Pm (.int .i64 x38) hs35_6 rfl ?_
 refine Pu (.int .i64 (IntKind.i64.wrap (x38 - 1))) (PO.sub rfl rfl) rfl ?_
 refine Pa (.int .i64 (IntKind.i64.wrap (x38 - 1))) rfl rfl ?_
 refine WL.nil ?_
 refine WQ.again (IntKind.u64.wrap (x36.tdiv (256 : Int)), x37.set (x38).toNat (IntKind.u8.wrap (x36.tmod (256 : Int))), IntKind.i64.wrap (x38 - 1)) (Option.some.inj h).symm ?_
 exact ⟨vx37, c48, hle35, rfl, rfl, hs35_4, hs35_5, rfl, h49⟩
 have h := ite_f hb40 h
 refine WC.exit ?_
 refine WQ.thenE ?_
 refine WQ.leaveE x37 (Option.some.inj h).symm (fun heq35 => ?_)
 subst heq35
 have h := hK35
 refine WQ.blockH ?_
 obtain rfl := Option.some.inj h
 refine WQ.thenJ ?_
 exact ⟨vx37, cx37, hle35, rfl, hs35_4, hs35_5, hx37⟩
 rintro ρ34 M34 H34 ⟨vx33, cx33, hle34, rfl, hs34_4, hs34_5, hx33⟩
 refine Sr ?_
 refine Pa (.int .u8 0) rfl rfl ?_
 refine Nt ?_
 obtain ⟨x50, hj51, h⟩ := bnd h
 refine WC.joinF (fun (x50 : Int) ρ' M' H' => M34.le M' ∧ cx33 :: F = H' ∧ ρ' 5 = vx33 ∧ ρ' 7 = (.int .u8 x50)) x50 ?_ ?_
 have h351 := h
 have h := hj51
 refine Sr ?_
 refine Pa (.int .i64 1) rfl rfl ?_
 refine Nt ?_
 refine WC.block ?_
 obtain ⟨e52, he52, hK52⟩ := bnd h
 clear h
 refine WC.loop he52 (fun (p_ : (Int × Int)) ρ' M' H' => match p_ with | (x53, x54) => M34.le M' ∧ cx33 :: F = H' ∧ ρ' 4 = (.int .i64 r24) ∧ ρ' 5 = vx33 ∧ ρ' 7 = (.int .u8 x53) ∧ ρ' 8 = (.int .i64 x54)) ?_ ?_
 exact ⟨(IM.le.refl _), rfl, hs34_4, hs34_5, rfl, rfl⟩
 rintro ⟨x53, x54⟩ o52 ρ52 M52 H52 h ⟨hle52, rfl, hs52_4, hs52_5, hs52_7, hs52_8⟩
 unfold f_ref02_Num_l1 at h
 have hx33 := hx33.mono hle52
 refine WC.seq ?_
 refine Sr ?_
 refine Pm (.int .i64 x54) hs52_8 rfl ?_
 refine Pm (.int .i64 r24) hs52_4 rfl ?_
 refine Pu (.bool (decide (x54 < r24))) (PO.lss rfl rfl) rfl ?_
 refine Nt ?_
 refine WC.cond (b := decide (x54 < r24)) rfl (fun hb56 => ?_) (fun hb56 => ?_)
 have h := ite_t hb56 h
 refine WC.skip ?_
 refine WQ.thenC ?_
 refine WC.seq ?_
 refine WC.block ?_
 refine WC.region ?_
 refine Pm (.int .u8 x53) hs52_7 rfl ?_
 refine Pu (.int .u8 (IntKind.u8.wrap (x53 + 64))) (PO.add rfl rfl) rfl ?_
 refine Pa (.int .u8 (IntKind.u8.wrap (x53 + 64))) rfl rfl ?_
 refine WL.nil ?_
 refine WQ.blockN ?_
 refine WQ.thenC ?_
 refine WC.region ?_
 refine Pm (.int .i64 x54) hs52_8 rfl ?_
 refine Pu (.int .i64 (IntKind.i64.wrap (x54 * (2 : Int)))) (PO.mul rfl rfl) rfl ?_
 refine Pa (.int .i64 (IntKind.i64.wrap (x54 * (2 : Int)))) rfl rfl ?_
 refine WL.nil ?_
 refine WQ.again (IntKind.u8.wrap (x53 + 64), IntKind.i64.wrap (x54 * (2 : Int))) (Option.some.inj h).symm ?_
 exact ⟨hle52, rfl, hs52_4, hs52_5, rfl, rfl⟩
 have h := ite_f hb56 h
 refine WC.exit ?_
 refine WQ.thenE ?_
 refine WQ.leaveE x53 (Option.some.inj h).symm (fun heq52 => ?_)
 subst heq52
 have h := hK52
 refine WQ.blockH ?_
 obtain rfl := Option.some.inj h
 refine WQ.thenJ ?_
 exact ⟨hle52, rfl, hs52_5, hs52_7⟩
 rintro ρ51 M51 H51 ⟨hle51, rfl, hs51_5, hs51_7⟩
 have hx33 := hx33.mono hle51
 refine Sr ?_
 refine Pm vx33 hs51_5 rfl ?_
 refine Pm vx33 hs51_5 rfl ?_
 obtain ⟨hg57, h⟩ := grd_i h
 obtain ⟨p58, cs59, hat60, hrc61, hhas62⟩ := hx33.at hg57.1 hg57.2
 obtain rfl := hrc61
 refine Pu (.pointer (some p58)) (PO.indexAddr (n := x33.length) Tryz.underlying40 sz5 rfl rfl hg57.1 hg57.2 hat60) rfl ?_
 refine Pu (.int .u8 (rd x33 (0 : Int))) (PO.loadC 0 pl5 rfl rfl (chunkHas0 hhas62)) rfl ?_
 refine Pm (.int .u8 x50) hs51_7 rfl ?_
 refine Pu (.int .u8 (IntKind.u8.wrap ((rd x33 (0 : Int)) + x50))) (PO.add rfl rfl) rfl ?_
 obtain ⟨hg64, h⟩ := grd_i h
 obtain ⟨p65, cs66, hat67, hrc68, hhas69⟩ := hx33.at hg64.1 hg64.2
 obtain rfl := hrc68
 refine Pu (.pointer (some p65)) (PO.indexAddr (n := x33.length) Tryz.underlying40 sz5 rfl rfl hg64.1 hg64.2 hat67) rfl ?_
 refine WL.eff (EO.storeOwn (dd := (Kd.int .u8)) (a := (IntKind.u8.wrap ((rd x33 (0 : Int)) + x50))) sz5 rfl hat67 rfl hg64.1 hg64.2 rfl hx33 rfl) rfl ?_
 rintro _ _ _ - ⟨rfl, c71, rfl, h72⟩
 refine Ns ?_
 refine Pm vx33 hs51_5 rfl ?_
 refine Pa vx33 rfl rfl ?_
 refine Nt ?_
 refine WC.ret ?_
 exact WQ.returnsF h [c71] rfl (results1 rfl rfl) (((hle22.trans hle27).trans hle34).trans hle51) ⟨vx33, c71, rfl, rfl, h72⟩

noncomputable def f_ref02_Int (a0 : Int) : Option (List Int) :=
  (if (decide (a0 < (0 : Int))) = true then (some [(0 : Int)]) else ((f_ref02_Num (IntKind.u64.wrap a0)).bind fun (r25 : (List Int)) => (some r25)))
def f_ref02_Int_post (a0 : Int) : (List Int) → Value → IM → HL → Prop :=
  fun (r0 : (List Int)) (v : Value) (M' : IM) (H' : HL) => ∃ vz0 cz0, vz0 = v ∧ H' = [cz0] ∧ OwnS (Kd.int .u8) M' vz0 r0 cz0
theorem f_ref02_Int_ok (a0 : Int) (M : IM) (res : (List Int)) (h : f_ref02_Int a0 = some res) :
    Tri Tryz.prog 76 #[(.int .i64 a0)] M [] (f_ref02_Int_post a0 res) := by
 unfold f_ref02_Int at h
 refine Tri.enter (fn := Tryz.f76) Tryz.func76 rfl (Nat.le_of_ble_eq_true rfl) ?_
 intro F ρ hρ
 refine Sr ?_
 refine Pa (.slice none 0 0) rfl rfl ?_
 refine Nt ?_
 refine WC.seq ?_
 refine Sr ?_
 refine Pm (.int .i64 a0) (hρ 0) rfl ?_
 refine Pu (.bool (decide (a0 < 0))) (PO.lss rfl rfl) rfl ?_
 refine Nt ?_
 refine WC.cond (b := decide (a0 < 0)) rfl (fun hb21 => ?_) (fun hb21 => ?_)
 have h := ite_t hb21 h
 refine Sr ?_
 refine WL.eff (EO.buildSliceL (cl := [(.int .u8 0)]) Tryz.underlying40 iz5 rfl (Parts.cons (congrArg Value.cells (show ev _ _ = (.int .u8 0) from rfl)) Parts.nil) rfl) rfl ?_
 rintro _ _ _ - ⟨rfl, g22, rfl, rfl⟩
 have h24 : OwnS (Kd.int .u8) M (.slice (some ⟨g22, 0, none⟩) 1 1) [(0 : Int)] [(g22, .cells #[(.int .u8 0)] 5 (0, 0))] := OwnS.rows (css := [[(.int .u8 0)]]) (Rows.cons rfl Rows.nil) rfl rfl
 refine Pa (.slice (some ⟨g22, 0, none⟩) 1 1) rfl rfl ?_
 refine Nt ?_
 refine WC.ret ?_
 refine WQ.thenR ?_
 exact WQ.returnsF h [[(g22, .cells #[(.int .u8 0)] 5 (0, 0))]] rfl (results1 rfl rfl) (IM.le.refl _) ⟨(.slice (some ⟨g22, 0, none⟩) 1 1), [(g22, .cells #[(.int .u8 0)] 5 (0, 0))], rfl, rfl, h24⟩
 have h := ite_f hb21 h
 refine WC.skip ?_
 refine WQ.thenC ?_
 refine Sr ?_
 refine Pm (.int .i64 a0) (hρ 0) rfl ?_
 refine Pu (.int .u64 (IntKind.u64.wrap a0)) (PO.conv us3 Tryz.underlying112 rfl) rfl ?_
 obtain ⟨r25, hr26, h⟩ := bnd h
 refine WL.eff (EO.call0 co102 (f_ref02_Num_ok (IntKind.u64.wrap a0) _ r25 hr26) (args1 rfl)) rfl ?_
 rintro _ M27 _ hle28 ⟨_, ⟨vq29, cq29, rfl, rfl, hq29⟩, rfl⟩
 refine WL.a1 ?_
 refine Pa vq29 rfl rfl ?_
 refine Nt ?_
 refine WC.ret ?_
 exact WQ.returnsF h [cq29] rfl (results1 rfl rfl) hle28 ⟨vq29, cq29, rfl, rfl, hq29⟩

noncomputable def f_ref05_int1 (a0 : Int) (a1 : Bool) : Option (List Int) :=
  (if (!a1) = true then (some []) else ((f_ref02_Int a0).bind fun (r23 : (List Int)) => (some r23)))
def f_ref05_int1_post (a0 : Int) (a1 : Bool) : (List Int) → Value → IM → HL → Prop :=
  fun (r0 : (List Int)) (v : Value) (M' : IM) (H' : HL) => ∃ vz0 cz0, vz0 = v ∧ H' = [cz0] ∧ OwnS (Kd.int .u8) M' vz0 r0 cz0
theorem f_ref05_int1_ok (a0 : Int) (a1 : Bool) (M : IM) (res : (List Int)) (h : f_ref05_int1 a0 a1 = some res) :
    Tri Tryz.prog 103 #[(.int .i64 a0), (.bool a1)] M [] (f_ref05_int1_post a0 a1 res) := by
 unfold f_ref05_int1 at h
 refine Tri.enter (fn := Tryz.f103) Tryz.func103 rfl (Nat.le_of_ble_eq_true rfl) ?_
 intro F ρ hρ
 refine Sr ?_
 refine Pa (.slice none 0 0) rfl rfl ?_
 refine Nt ?_
 refine WC.seq ?_
 refine Sr ?_
 refine Pm (.bool a1) (hρ 1) rfl ?_
 refine Pu (.bool (!a1)) (PO.not rfl) rfl ?_
 refine Nt ?_
 refine WC.cond (b := !a1) rfl (fun hb21 => ?_) (fun hb21 => ?_)
 have h := ite_t hb21 h
 refine Sr ?_
 refine Pa (.slice none 0 0) rfl rfl ?_
 refine Nt ?_
 refine WC.ret ?_
 refine WQ.thenR ?_
 refine WQ.e0 ?_
 exact WQ.returnsF h [[]] rfl (results1 rfl rfl) (IM.le.refl _) ⟨(.slice none 0 0), [], rfl, rfl, (OwnS.nil _ _)⟩
 have h := ite_f hb21 h
 refine WC.skip ?_
 refine WQ.thenC ?_
 refine Sr ?_
 refine Pm (.int .i64 a0) (hρ 0) rfl ?_
 obtain ⟨r23, hr24, h⟩ := bnd h
 refine WL.eff (EO.call0 co76 (f_ref02_Int_ok a0 _ r23 hr24) (args1 rfl)) rfl ?_
 rintro _ M25 _ hle26 ⟨_, ⟨vq27, cq27, rfl, rfl, hq27⟩, rfl⟩
 refine WL.a1 ?_
 refine Pa vq27 rfl rfl ?_
 refine Nt ?_
 refine WC.ret ?_
 exact WQ.returnsF h [cq27] rfl (results1 rfl rfl) hle26 ⟨vq27, cq27, rfl, rfl, hq27⟩

noncomputable def f_ref02_Flag (a0 : Bool) : Option (List Int) :=
  (if a0 = true then (some [(1 : Int)]) else (some [(0 : Int)]))
def f_ref02_Flag_post (a0 : Bool) : (List Int) → Value → IM → HL → Prop :=
  fun (r0 : (List Int)) (v : Value) (M' : IM) (H' : HL) => ∃ vz0 cz0, vz0 = v ∧ H' = [cz0] ∧ OwnS (Kd.int .u8) M' vz0 r0 cz0
theorem f_ref02_Flag_ok (a0 : Bool) (M : IM) (res : (List Int)) (h : f_ref02_Flag a0 = some res) :
    Tri Tryz.prog 104 #[(.bool a0)] M [] (f_ref02_Flag_post a0 res) := by
 unfold f_ref02_Flag at h
 refine Tri.enter (fn := Tryz.f104) Tryz.func104 rfl (Nat.le_of_ble_eq_true rfl) ?_
 intro F ρ hρ
 refine Sr ?_
 refine Pa (.slice none 0 0) rfl rfl ?_
 refine Nt ?_
 refine WC.seq ?_
 refine Sr ?_
 refine Pm (.bool a0) (hρ 0) rfl ?_
 refine Nt ?_
 refine WC.cond (b := a0) rfl (fun hb21 => ?_) (fun hb21 => ?_)
 have h := ite_t hb21 h
 refine Sr ?_
 refine WL.eff (EO.buildSliceL (cl := [(.int .u8 1)]) Tryz.underlying40 iz5 rfl (Parts.cons (congrArg Value.cells (show ev _ _ = (.int .u8 1) from rfl)) Parts.nil) rfl) rfl ?_
 rintro _ _ _ - ⟨rfl, g22, rfl, rfl⟩
 have h24 : OwnS (Kd.int .u8) M (.slice (some ⟨g22, 0, none⟩) 1 1) [(1 : Int)] [(g22, .cells #[(.int .u8 1)] 5 (0, 0))] := OwnS.rows (css := [[(.int .u8 1)]]) (Rows.cons rfl Rows.nil) rfl rfl
 refine Pa (.slice (some ⟨g22, 0, none⟩) 1 1) rfl rfl ?_
 refine Nt ?_
 refine WC.ret ?_
 refine WQ.thenR ?_
 exact WQ.returnsF h [[(g22, .cells #[(.int .u8 1)] 5 (0, 0))]] rfl (results1 rfl rfl) (IM.le.refl _) ⟨(.slice (some ⟨g22, 0, none⟩) 1 1), [(g22, .cells #[(.int .u8 1)] 5 (0, 0))], rfl, rfl, h24⟩
 have h := ite_f hb21 h
 refine WC.skip ?_
 refine WQ.thenC ?_
 refine Sr ?_
 refine WL.eff (EO.buildSliceL (cl := [(.int .u8 0)]) Tryz.underlying40 iz5 rfl (Parts.cons (congrArg Value.cells (show ev _ _ = (.int .u8 0) from rfl)) Parts.nil) rfl) rfl ?_
 rintro _ _ _ - ⟨rfl, g25, rfl, rfl⟩
 have h27 : OwnS (Kd.int .u8) M (.slice (some ⟨g25, 0, none⟩) 1 1) [(0 : Int)] [(g25, .cells #[(.int .u8 0)] 5 (0, 0))] := OwnS.rows (css := [[(.int .u8 0)]]) (Rows.cons rfl Rows.nil) rfl rfl
 refine Pa (.slice (some ⟨g25, 0, none⟩) 1 1) rfl rfl ?_
 refine Nt ?_
 refine WC.ret ?_
 exact WQ.returnsF h [[(g25, .cells #[(.int .u8 0)] 5 (0, 0))]] rfl (results1 rfl rfl) (IM.le.refl _) ⟨(.slice (some ⟨g25, 0, none⟩) 1 1), [(g25, .cells #[(.int .u8 0)] 5 (0, 0))], rfl, rfl, h27⟩

noncomputable def f_ref02_Text (a0 : (List Int)) : Option (List Int) :=
  ((f_ref02_Int (a0.length : Int)).bind fun (r21 : (List Int)) => (grd (r21.length + a0.length ≤ 274877906944) (some (r21 ++ a0))))
def f_ref02_Text_post (a0 : (List Int)) (v0 : Value) : (List Int) → Value → IM → HL → Prop :=
  fun (r0 : (List Int)) (v : Value) (M' : IM) (H' : HL) => ∃ vz0 cz0, vz0 = v ∧ H' = [cz0] ∧ OwnS (Kd.int .u8) M' vz0 r0 cz0
theorem f_ref02_Text_ok (a0 : (List Int)) (M : IM) (v0 : Value) (h0 : RS (Kd.int .u8) M v0 a0) (res : (List Int)) (h : f_ref02_Text a0 = some res) :
    Tri Tryz.prog 120 #[v0] M [] (f_ref02_Text_post a0 v0 res) := by
 unfold f_ref02_Text at h
 refine Tri.enter (fn := Tryz.f120) Tryz.func120 rfl (Nat.le_of_ble_eq_true rfl) ?_
 intro F ρ hρ
 refine Sr ?_
 refine Pa (.slice none 0 0) rfl rfl ?_
 refine Ns ?_
 refine Pm v0 (hρ 0) rfl ?_
 refine Pu (.int .i64 (a0.length : Int)) (PO.lenS Tryz.underlying40 rfl h0.len) rfl ?_
 obtain ⟨r21, hr22, h⟩ := bnd h
 refine WL.eff (EO.call0 co76 (f_ref02_Int_ok (a0.length : Int) _ r21 hr22) (args1 rfl)) rfl ?_
 rintro _ M23 _ hle24 ⟨_, ⟨vq25, cq25, rfl, rfl, hq25⟩, rfl⟩
 have h0 := h0.mono hle24
 refine WL.a1 ?_
 refine Pm v0 (hρ 0) rfl ?_
 obtain ⟨hg29, h⟩ := grd_i h
 refine WL.eff (EO.append (dd := (Kd.int .u8)) (xs := r21) (ys := a0) Tryz.underlying40 Tryz.underlying40 in5 rfl (appB (by decide) hg29) (by decide) rfl rfl hq25 (h0.src _)) rfl ?_
 rintro v28 _ _ - ⟨rfl, c26, rfl, h27⟩
 refine Pa v28 rfl rfl ?_
 refine Nt ?_
 refine WC.ret ?_
 exact WQ.returnsF h [c26] rfl (results1 rfl rfl) hle24 ⟨v28, c26, rfl, rfl, h27⟩

noncomputable def f_ref05_text1 (a0 : ByteArray) (a1 : Bool) : Option (List Int) :=
  (if (!a1) = true then (some []) else ((f_ref02_Text (bytesOf a0)).bind fun (r26 : (List Int)) => (some r26)))
def f_ref05_text1_post (a0 : ByteArray) (a1 : Bool) : (List Int) → Value → IM → HL → Prop :=
  fun (r0 : (List Int)) (v : Value) (M' : IM) (H' : HL) => ∃ vz0 cz0, vz0 = v ∧ H' = [cz0] ∧ OwnS (Kd.int .u8) M' vz0 r0 cz0
theorem f_ref05_text1_ok (a0 : ByteArray) (a1 : Bool) (M : IM) (res : (List Int)) (h : f_ref05_text1 a0 a1 = some res) :
    Tri Tryz.prog 105 #[(.string a0), (.bool a1)] M [] (f_ref05_text1_post a0 a1 res) := by
 unfold f_ref05_text1 at h
 refine Tri.enter (fn := Tryz.f105) Tryz.func105 rfl (Nat.le_of_ble_eq_true rfl) ?_
 intro F ρ hρ
 refine Sr ?_
 refine Pa (.slice none 0 0) rfl rfl ?_
 refine Nt ?_
 refine WC.seq ?_
 refine Sr ?_
 refine Pm (.bool a1) (hρ 1) rfl ?_
 refine Pu (.bool (!a1)) (PO.not rfl) rfl ?_
 refine Nt ?_
 refine WC.cond (b := !a1) rfl (fun hb21 => ?_) (fun hb21 => ?_)
 have h := ite_t hb21 h
 refine Sr ?_
 refine Pa (.slice none 0 0) rfl rfl ?_
 refine Nt ?_
 refine WC.ret ?_
 refine WQ.thenR ?_
 refine WQ.e0 ?_
 exact WQ.returnsF h [[]] rfl (results1 rfl rfl) (IM.le.refl _) ⟨(.slice none 0 0), [], rfl, rfl, (OwnS.nil _ _)⟩
 have h := ite_f hb21 h
 refine WC.skip ?_
 refine WQ.thenC ?_
 refine Sr ?_
 refine Pm (.string a0) (hρ 0) rfl ?_
 refine WL.eff (EO.s2b Tryz.underlying9 Tryz.underlying40 Tryz.underlying5 rfl) rfl ?_
 rintro v25 _ _ - ⟨rfl, c23, rfl, h24⟩
 obtain ⟨r26, hr27, h⟩ := bnd h
 refine WL.eff (EO.call1 co120 (Tri.lend h24.excl fun w0_ H0_ hs0_ => (f_ref02_Text_ok (bytesOf a0) _ _ (h24.rs hs0_) r26 hr27)) (args1 rfl)) rfl ?_
 rintro _ _ _ hle29 ⟨_, ⟨Ml31, Hl32, hll33, rfl, rfl, ⟨vq30, cq30, rfl, rfl, hq30⟩⟩, rfl⟩
 have h24 := h24.mono hle29
 have hq30 : OwnS (Kd.int .u8) (Ml31.minus c23) vq30 r26 cq30 := hq30.any (Kd.int_flat _)
 refine WL.a2 ?_
 refine Pa vq30 rfl rfl ?_
 refine Nt ?_
 refine WC.ret ?_
 refine WQ.drop ?_
 exact WQ.returnsF h [cq30] rfl (results1 rfl rfl) hle29 ⟨vq30, cq30, rfl, rfl, hq30⟩

noncomputable def f_ref02_Row_l0 (a0 : (List Int)) (s_ : ((List Int) × Int)) : Option (((List Int) × Int) ⊕ (List Int)) :=
  match s_ with
  | (x29, x30) =>
    (if (decide (x30 < (a0.length : Int))) = true then (grd (0 ≤ x30 ∧ x30 < a0.length) ((f_ref02_Int (rd a0 x30)).bind fun (r40 : (List Int)) => (grd (x29.length + r40.length ≤ 274877906944) (some (Sum.inl (x29 ++ r40, IntKind.i64.wrap (x30 + (1 : Int)))))))) else (some (Sum.inr x29)))
noncomputable def f_ref02_Row (a0 : (List Int)) : Option (List Int) :=
  ((f_ref02_Int (a0.length : Int)).bind fun (r21 : (List Int)) => ((((iter (f_ref02_Row_l0 a0) (r21, (0 : Int))).bind (fun (x31 : (List Int)) => (some x31))) : Option (List Int)).bind fun (x26 : (List Int)) => (some x26)))
def f_ref02_Row_post (a0 : (List Int)) (v0 : Value) : (List Int) → Value → IM → HL → Prop :=
  fun (r0 : (List Int)) (v : Value) (M' : IM) (H' : HL) => ∃ vz0 cz0, vz0 = v ∧ H' = [cz0] ∧ OwnS (Kd.int .u8) M' vz0 r0 cz0
theorem f_ref02_Row_ok (a0 : (List Int)) (M : IM) (v0 : Value) (h0 : RS (Kd.int .i64) M v0 a0) (res : (List Int)) (h : f_ref02_Row a0 = some res) :
    Tri Tryz.prog 121 #[v0] M [] (f_ref02_Row_post a0 v0 res) := by
 unfold f_ref02_Row at h
 refine Tri.enter (fn := Tryz.f121) Tryz.func121 rfl (Nat.le_of_ble_eq_true rfl) ?_
 intro F ρ hρ
 refine Sr ?_
 refine Pa (.slice none 0 0) rfl rfl ?_
 refine Ns ?_
 refine Pm v0 (hρ 0) rfl ?_
 refine Pu (.int .i64 (a0.length : Int)) (PO.lenS Tryz.underlying65 rfl h0.len) rfl ?_
 obtain ⟨r21, hr22, h⟩ := bnd h
 refine WL.eff (EO.call0 co76 (f_ref02_Int_ok (a0.length : Int) _ r21 hr22) (args1 rfl)) rfl ?_
 rintro _ M23 _ hle24 ⟨_, ⟨vq25, cq25, rfl, rfl, hq25⟩, rfl⟩
 have h0 := h0.mono hle24
 refine WL.a1 ?_
 refine Pa vq25 rfl rfl ?_
 refine Nt ?_
 obtain ⟨x26, hj27, h⟩ := bnd h
 refine WC.joinF (fun (x26 : (List Int)) ρ' M' H' => ∃ vx26 cx26, M23.le M' ∧ cx26 :: F = H' ∧ ρ' 3 = vx26 ∧ OwnS (Kd.int .u8) M' vx26 x26 cx26) x26 ?_ ?_
 have h327 := h
 have h := hj27
 refine Sr ?_
 refine Pa (.int .i64 0) rfl rfl ?_
 refine Nt ?_
 refine WC.block ?_
 obtain ⟨e28, he28, hK28⟩ := bnd h
 clear h
 refine WC.loop he28 (fun (p_ : ((List Int) × Int)) ρ' M' H' => match p_ with | (x29, x30) => ∃ vx29 cx29, M23.le M' ∧ cx29 :: F = H' ∧ ρ' 0 = v0 ∧ ρ' 3 = vx29 ∧ ρ' 4 = (.int .i64 x30) ∧ OwnS (Kd.int .u8) M' vx29 x29 cx29) ?_ ?_
 exact ⟨vq25, cq25, (IM.le.refl _), rfl, (hρ 0), rfl, rfl, hq25⟩
 rintro ⟨x29, x30⟩ o28 ρ28 M28 H28 h ⟨vx29, cx29, hle28, rfl, hs28_0, hs28_3, hs28_4, hx29⟩
 unfold f_ref02_Row_l0 at h
 have h0 := h0.mono hle28
 refine WC.seq ?_
 refine Sr ?_
 refine Pm (.int .i64 x30) hs28_4 rfl ?_
 refine Pm v0 hs28_0 rfl ?_
 refine Pu (.int .i64 (a0.length : Int)) (PO.lenS Tryz.underlying65 rfl h0.len) rfl ?_
 refine Pu (.bool (decide (x30 < (a0.length : Int)))) (PO.lss rfl rfl) rfl ?_
 refine Nt ?_
 refine WC.cond (b := decide (x30 < (a0.length : Int))) rfl (fun hb32 => ?_) (fun hb32 => ?_)
 have h := ite_t hb32 h
 refine WC.skip ?_
 refine WQ.thenC ?_
 refine WC.seq ?_
 refine WC.block ?_
 refine WC.region ?_
 refine Pm vx29 hs28_3 rfl ?_
 refine Pm v0 hs28_0 rfl ?_
 refine Pm (.int .i64 x30) hs28_4 rfl ?_
 obtain ⟨hg33, h⟩ := grd_i h
 obtain ⟨p34, cs35, hat36, hrc37, hhas38⟩ := h0.at hg33.1 hg33.2 (by decide)
 obtain rfl := hrc37
 refine Pu (.pointer (some p34)) (PO.indexAddr (n := a0.length) Tryz.underlying65 sz3 rfl rfl hg33.1 hg33.2 hat36) rfl ?_
 refine Pu (.int .i64 (rd a0 x30)) (PO.loadM pl3 rfl (IM.has0 hhas38)) rfl ?_
 obtain ⟨r40, hr41, h⟩ := bnd h
 refine WL.eff (EO.call0 co76 (f_ref02_Int_ok (rd a0 x30) _ r40 hr41) (args1 rfl)) rfl ?_
 rintro _ M42 _ hle43 ⟨_, ⟨vq44, cq44, rfl, rfl, hq44⟩, rfl⟩
 have h0 := h0.mono hle43
 have hx29 := hx29.mono hle43
 have hhas38 := hhas38.mono hle43
 refine WL.a1 ?_
 obtain ⟨hg48, h⟩ := grd_i h
 refine WL.f1 ?_
 refine WL.eff (EO.append (dd := (Kd.int .u8)) (xs := x29) (ys := r40) Tryz.underlying40 Tryz.underlying40 in5 rfl (appB (by decide) hg48) (by decide) rfl rfl hx29 (hq44.src 1 rfl)) rfl ?_
 rintro v47 _ _ - ⟨rfl, c45, rfl, h46⟩
 refine Pa v47 rfl rfl ?_
 refine WL.nil ?_
 refine WQ.blockN ?_
 refine WQ.thenC ?_
 refine WC.region ?_
 refine Pm (.int .i64 x30) hs28_4 rfl ?_
 refine Pu (.int .i64 (IntKind.i64.wrap (x30 + 1))) (PO.add rfl rfl) rfl ?_
 refine Pa (.int .i64 (IntKind.i64.wrap (x30 + 1))) rfl rfl ?_
 refine WL.nil ?_
 refine WQ.f1 ?_
 refine WQ.drop ?_
 refine WQ.again (x29 ++ r40, IntKind.i64.wrap (x30 + 1)) (Option.some.inj h).symm ?_
 exact ⟨v47, c45, (hle28.trans hle43), rfl, hs28_0, rfl, rfl, h46⟩
 have h := ite_f hb32 h
 refine WC.exit ?_
 refine WQ.thenE ?_
 refine WQ.leaveE x29 (Option.some.inj h).symm (fun heq28 => ?_)
 subst heq28
 have h := hK28
 refine WQ.blockH ?_
 obtain rfl := Option.some.inj h
 refine WQ.thenJ ?_
 exact ⟨vx29, cx29, hle28, rfl, hs28_3, hx29⟩
 rintro ρ27 M27 H27 ⟨vx26, cx26, hle27, rfl, hs27_3, hx26⟩
 refine Sr ?_
 refine Pm vx26 hs27_3 rfl ?_
 refine Pa vx26 rfl rfl ?_
 refine Nt ?_
 refine WC.ret ?_
 exact WQ.returnsF h [cx26] rfl (results1 rfl rfl) (hle24.trans hle27) ⟨vx26, cx26, rfl, rfl, hx26⟩

noncomputable def f_ref05_row1 (a0 : (List Int)) (a1 : Bool) : Option (List Int) :=
  (if (!a1) = true then (some []) else ((f_ref02_Row a0).bind fun (r23 : (List Int)) => (some r23)))
def f_ref05_row1_post (a0 : (List Int)) (a1 : Bool) (v0 : Value) : (List Int) → Value → IM → HL → Prop :=
  fun (r0 : (List Int)) (v : Value) (M' : IM) (H' : HL) => ∃ vz0 cz0, vz0 = v ∧ H' = [cz0] ∧ OwnS (Kd.int .u8) M' vz0 r0 cz0
theorem f_ref05_row1_ok (a0 : (List Int)) (a1 : Bool) (M : IM) (v0 : Value) (h0 : RS (Kd.int .i64) M v0 a0) (res : (List Int)) (h : f_ref05_row1 a0 a1 = some res) :
    Tri Tryz.prog 106 #[v0, (.bool a1)] M [] (f_ref05_row1_post a0 a1 v0 res) := by
 unfold f_ref05_row1 at h
 refine Tri.enter (fn := Tryz.f106) Tryz.func106 rfl (Nat.le_of_ble_eq_true rfl) ?_
 intro F ρ hρ
 refine Sr ?_
 refine Pa (.slice none 0 0) rfl rfl ?_
 refine Nt ?_
 refine WC.seq ?_
 refine Sr ?_
 refine Pm (.bool a1) (hρ 1) rfl ?_
 refine Pu (.bool (!a1)) (PO.not rfl) rfl ?_
 refine Nt ?_
 refine WC.cond (b := !a1) rfl (fun hb21 => ?_) (fun hb21 => ?_)
 have h := ite_t hb21 h
 refine Sr ?_
 refine Pa (.slice none 0 0) rfl rfl ?_
 refine Nt ?_
 refine WC.ret ?_
 refine WQ.thenR ?_
 refine WQ.e0 ?_
 exact WQ.returnsF h [[]] rfl (results1 rfl rfl) (IM.le.refl _) ⟨(.slice none 0 0), [], rfl, rfl, (OwnS.nil _ _)⟩
 have h := ite_f hb21 h
 refine WC.skip ?_
 refine WQ.thenC ?_
 refine Sr ?_
 refine Pm v0 (hρ 0) rfl ?_
 obtain ⟨r23, hr24, h⟩ := bnd h
 refine WL.eff (EO.call0 co121 (f_ref02_Row_ok a0 _ _ h0 r23 hr24) (args1 rfl)) rfl ?_
 rintro _ M25 _ hle26 ⟨_, ⟨vq27, cq27, rfl, rfl, hq27⟩, rfl⟩
 have h0 := h0.mono hle26
 refine WL.a1 ?_
 refine Pa vq27 rfl rfl ?_
 refine Nt ?_
 refine WC.ret ?_
 exact WQ.returnsF h [cq27] rfl (results1 rfl rfl) hle26 ⟨vq27, cq27, rfl, rfl, hq27⟩


end Go.Proofs.YtjiffdgidodebaaGreatDoor.G
