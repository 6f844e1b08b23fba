/- Go functions: what they come to, and that they do. Printed by a program of the session (gen). -/
import Derived.Test.YtjiffdgidodebaaGreatDoorPF
import Derived.Test.YtjiffdgidodebaaGreatDoorP12
import Derived.Test.YtjiffdgidodebaaGreatDoorKShar2
import Derived.Test.YtjiffdgidodebaaGreatDoorKConv
set_option linter.unusedVariables false
set_option linter.unusedSimpArgs false
set_option maxHeartbeats 8000000
set_option maxRecDepth 100000
namespace Go.Proofs.YtjiffdgidodebaaGreatDoor.G
open Go Go.KK

noncomputable def f_ref05_Check (a0 : T_api_Record) : Option T_ref05_Wrong :=
  (((if (decide (a0.Kind < (1 : Int))) = true then (some true) else (some (decide ((12 : Int) < a0.Kind)))) : Option Bool).bind fun (x23 : Bool) => (if x23 = true then (some (⟨(⟨#[107, 105, 110, 100]⟩ : ByteArray), a0.Kind, (5 : Int)⟩ : T_ref05_Wrong)) else ((f_ref05_numbers a0).bind fun (r27 : T_ref05_Wrong) => (if (decide (r27.Code ≠ (0 : Int))) = true then (some r27) else (((if a0.Flag = true then ((f_ref05_has a0.Kind (102 : Int)).bind fun (r37 : Bool) => (some (!r37))) else (some false)) : Option Bool).bind fun (x34 : Bool) => (if x34 = true then (some (⟨(⟨#[102, 108, 97, 103]⟩ : ByteArray), (1 : Int), (1 : Int)⟩ : T_ref05_Wrong)) else ((((f_ref05_has a0.Kind (110 : Int)).bind fun (r45 : Bool) => ((f_ref05_name a0.Name r45).bind fun (r50 : Bool) => (if (!r50) = true then (some true) else ((f_ref05_has a0.Kind (107 : Int)).bind fun (r56 : Bool) => ((f_ref05_name a0.Key r56).bind fun (r61 : Bool) => (if (!r61) = true then (some true) else ((f_ref05_has a0.Kind (114 : Int)).bind fun (r67 : Bool) => ((f_ref05_name a0.Rack r67).bind fun (r72 : Bool) => (some (!r72)))))))))) : Option Bool).bind fun (x43 : Bool) => (if x43 = true then (some (⟨(⟨#[110, 97, 109, 101]⟩ : ByteArray), (a0.Name.size : Int), (1 : Int)⟩ : T_ref05_Wrong)) else (((if (decide ((256 : Int) < (a0.Value.size : Int))) = true then (some true) else (if (!decide (a0.Value = (⟨#[]⟩ : ByteArray))) = true then (if a0.Flag = true then (some true) else ((f_ref05_has a0.Kind (118 : Int)).bind fun (r83 : Bool) => (some (!r83)))) else (some false))) : Option Bool).bind fun (x78 : Bool) => (if x78 = true then (some (⟨(⟨#[118, 97, 108, 117, 101]⟩ : ByteArray), (a0.Value.size : Int), (6 : Int)⟩ : T_ref05_Wrong)) else ((((f_ref05_has a0.Kind (105 : Int)).bind fun (r91 : Bool) => ((f_ref05_row a0.Ids r91).bind fun (r96 : Bool) => (if (!r96) = true then (some true) else ((f_ref05_has a0.Kind (109 : Int)).bind fun (r102 : Bool) => ((f_ref05_row a0.Isr r102).bind fun (r107 : Bool) => (if (!r107) = true then (some true) else ((f_ref05_has a0.Kind (120 : Int)).bind fun (r113 : Bool) => ((f_ref05_row a0.Add r113).bind fun (r118 : Bool) => (if (!r118) = true then (some true) else ((f_ref05_has a0.Kind (120 : Int)).bind fun (r124 : Bool) => ((f_ref05_row a0.Drop r124).bind fun (r129 : Bool) => (some (!r129))))))))))))) : Option Bool).bind fun (x89 : Bool) => (if x89 = true then (some (⟨(⟨#[114, 111, 119]⟩ : ByteArray), (a0.Ids.length : Int), (18 : Int)⟩ : T_ref05_Wrong)) else (some (⟨(⟨#[]⟩ : ByteArray), (0 : Int), (0 : Int)⟩ : T_ref05_Wrong))))))))))))))
def f_ref05_Check_post (a0 : T_api_Record) (v0_14 v0_15 v0_16 v0_17 : Value) : T_ref05_Wrong → Value → IM → HL → Prop :=
  fun (r0 : T_ref05_Wrong) (v : Value) (M' : IM) (H' : HL) => (.agg #[(.string r0.Op), (.int .i64 r0.At), (.int .i64 r0.Code)]) = v ∧ H' = []
theorem f_ref05_Check_ok (a0 : T_api_Record) (M : IM) (v0_14 v0_15 v0_16 v0_17 : Value) (h0_14 : RS (Kd.int .i64) M v0_14 a0.Ids) (h0_15 : RS (Kd.int .i64) M v0_15 a0.Isr) (h0_16 : RS (Kd.int .i64) M v0_16 a0.Add) (h0_17 : RS (Kd.int .i64) M v0_17 a0.Drop) (res : T_ref05_Wrong) (h : f_ref05_Check a0 = some res) :
    Tri Tryz.prog 34 #[(a67_ a0 v0_14 v0_15 v0_16 v0_17)] M [] (f_ref05_Check_post a0 v0_14 v0_15 v0_16 v0_17 res) := by
 unfold f_ref05_Check at h
 refine Tri.enter (fn := Tryz.f34) Tryz.func34 rfl (Nat.le_of_ble_eq_true rfl) ?_
 intro F ρ hρ
 refine Sr ?_
 refine WL.eff (EO.box (cs := (l67 a0 v0_14 v0_15 v0_16 v0_17).toArray) (congrArg Value.cells (asE (a67_ a0 v0_14 v0_15 v0_16 v0_17) (hρ 0)))) rfl ?_
 rintro _ _ _ - ⟨rfl, g21, rfl, rfl⟩
 refine WL.eff (EO.alloc ze33 rfl) rfl ?_
 rintro _ _ _ - ⟨rfl, g22, rfl, rfl⟩
 refine Ns ?_
 refine Pu (pt g21 0) (PO.fieldAddr fo67_0 rfl rfl) rfl ?_
 refine Pu (.int .i64 a0.Kind) (PO.loadB 1 pl3 rfl rfl rfl) rfl ?_
 refine Pa (.int .i64 a0.Kind) rfl rfl ?_
 refine Nt ?_
 refine WC.seq ?_
 obtain ⟨x23, hj24, h⟩ := bnd h
 refine WC.joinF (fun (x23 : Bool) ρ' M' H' => M.le M' ∧ [(g22, .cells #[(.string ⟨#[]⟩), (.int .i64 0), (.int .i64 0)] 33 (0, 0))] :: [(g21, .cells (l67 a0 v0_14 v0_15 v0_16 v0_17).toArray 67 (0, 0))] :: F = H' ∧ ρ' 1 = (pt g21 0) ∧ ρ' 2 = (pt g22 0) ∧ ρ' 3 = (.int .i64 a0.Kind) ∧ ρ' 12 = (.bool x23)) x23 ?_ ?_
 have h324 := h
 have h := hj24
 refine WC.region ?_
 refine Pm (.int .i64 a0.Kind) rfl rfl ?_
 refine Pu (.bool (decide (a0.Kind < 1))) (PO.lss rfl rfl) rfl ?_
 refine Pm (.bool (decide (a0.Kind < 1))) rfl rfl ?_
 rcases Bool.eq_false_or_eq_true (decide (a0.Kind < 1)) with hb25 | hb25
 have h := ite_t hb25 h
 iterate 2 refine Of 9 rfl rfl hb25 rfl ?_
 refine Pu (.bool true) (PO.pickT rfl hb25 rfl) rfl ?_
 refine WL.nil ?_
 obtain rfl := Option.some.inj h
 refine WQ.thenJ ?_
 exact ⟨(IM.le.refl _), rfl, rfl, rfl, rfl, rfl⟩
 have h := ite_f hb25 h
 refine On 9 rfl rfl hb25 ?_
 refine Pm (.int .i64 a0.Kind) rfl rfl ?_
 refine On 9 rfl rfl hb25 ?_
 refine Pu (.bool (decide ((12 : Int) < a0.Kind))) (PO.gtr rfl rfl) rfl ?_
 refine Pu (.bool (decide ((12 : Int) < a0.Kind))) (PO.pickF rfl hb25 rfl) rfl ?_
 refine WL.nil ?_
 obtain rfl := Option.some.inj h
 refine WQ.thenJ ?_
 exact ⟨(IM.le.refl _), rfl, rfl, rfl, rfl, rfl⟩
 rintro ρ24 M24 H24 ⟨hle24, rfl, hs24_1, hs24_2, hs24_3, hs24_12⟩
 have h0_14 := h0_14.mono hle24
 have h0_15 := h0_15.mono hle24
 have h0_16 := h0_16.mono hle24
 have h0_17 := h0_17.mono hle24
 refine WC.cond (b := x23) hs24_12 (fun hb26 => ?_) (fun hb26 => ?_)
 have h := ite_t hb26 h
 refine Sr ?_
 refine Pm (.int .i64 a0.Kind) hs24_3 rfl ?_
 refine Pu (.agg #[(.string ⟨#[107, 105, 110, 100]⟩), (.int .i64 a0.Kind), (.int .i64 5)]) (PO.buildL (cl := [(.string ⟨#[107, 105, 110, 100]⟩), (.int .i64 a0.Kind), (.int .i64 5)]) ze33 fp33 (Parts.cons (congrArg Value.cells (show ev _ _ = (.string ⟨#[107, 105, 110, 100]⟩) from rfl)) (Parts.cons (congrArg Value.cells (show ev _ _ = (.int .i64 a0.Kind) from rfl)) (Parts.cons (congrArg Value.cells (show ev _ _ = (.int .i64 5) from rfl)) Parts.nil))) rfl) rfl ?_
 refine WL.eff (EO.storeL (v := (.agg #[(.string ⟨#[107, 105, 110, 100]⟩), (.int .i64 a0.Kind), (.int .i64 5)])) (vl := [(.string ⟨#[107, 105, 110, 100]⟩), (.int .i64 a0.Kind), (.int .i64 5)]) (arr' := [(.string ⟨#[107, 105, 110, 100]⟩), (.int .i64 a0.Kind), (.int .i64 5)]) rfl sz33 hs24_2 rfl (onesOf (Ones.cons rfl (Ones.cons rfl (Ones.cons rfl Ones.nil)))) rfl rfl rfl) rfl ?_
 rintro _ _ _ - ⟨rfl, rfl⟩
 refine Nt ?_
 refine WC.ret ?_
 refine WQ.thenR ?_
 refine WQ.f1 ?_
 refine WQ.drop ?_
 exact WQ.returnsD h [] (fun _ hs => hs.drop) (resultsL1 rfl (RV.cellA (cs := [(.string ⟨#[107, 105, 110, 100]⟩), (.int .i64 a0.Kind), (.int .i64 5)]) 0 ag33 sz33 hs24_2 rfl rfl)) hle24 ⟨rfl, rfl⟩
 have h := ite_f hb26 h
 refine WC.skip ?_
 refine WQ.thenC ?_
 refine WC.seq ?_
 refine Sr ?_
 refine Pu (a67_ a0 v0_14 v0_15 v0_16 v0_17) (PO.loadBA (cs := (l67 a0 v0_14 v0_15 v0_16 v0_17)) 1 ag67 sz67 hs24_1 rfl rfl) rfl ?_
 obtain ⟨r27, hr28, h⟩ := bnd h
 refine WL.eff (EO.call0 co60 (f_ref05_numbers_ok a0 _ _ _ _ _ h0_14 h0_15 h0_16 h0_17 r27 hr28) (args1 rfl)) rfl ?_
 rintro _ M29 _ hle30 ⟨_, ⟨rfl, rfl⟩, rfl⟩
 have h0_14 := h0_14.mono hle30
 have h0_15 := h0_15.mono hle30
 have h0_16 := h0_16.mono hle30
 have h0_17 := h0_17.mono hle30
 refine WL.a0 ?_
 refine WL.eff (EO.alloc ze33 rfl) rfl ?_
 rintro _ _ _ - ⟨rfl, g32, rfl, rfl⟩
 refine WL.eff (EO.storeL (v := (a33_ r27)) (vl := (l33 r27)) (arr' := (l33 r27)) rfl sz33 rfl rfl (onesOf (Ones.cons rfl (Ones.cons rfl (Ones.cons rfl Ones.nil)))) rfl rfl rfl) rfl ?_
 rintro _ _ _ - ⟨rfl, rfl⟩
 refine Ns ?_
 refine Pu (pt g32 2) (PO.fieldAddr fo33_2 rfl rfl) rfl ?_
 refine Pu (.int .i64 r27.Code) (PO.loadB 0 pl31 rfl rfl rfl) rfl ?_
 refine Pu (.bool (decide (r27.Code ≠ 0))) (PO.neq rfl rfl) rfl ?_
 refine Nt ?_
 refine WC.cond (b := decide (r27.Code ≠ 0)) rfl (fun hb33 => ?_) (fun hb33 => ?_)
 have h := ite_t hb33 h
 refine Sr ?_
 refine Pu (a33_ r27) (PO.loadBA (cs := (l33 r27)) 0 ag33 sz33 rfl rfl rfl) rfl ?_
 refine WL.f1 ?_
 refine WL.eff (EO.storeL (v := (a33_ r27)) (vl := (l33 r27)) (arr' := (l33 r27)) rfl sz33 hs24_2 rfl (onesOf (Ones.cons rfl (Ones.cons rfl (Ones.cons rfl Ones.nil)))) rfl rfl rfl) rfl ?_
 rintro _ _ _ - ⟨rfl, rfl⟩
 refine Nt ?_
 refine WC.ret ?_
 refine WQ.thenR ?_
 refine WQ.f1 ?_
 refine WQ.drop ?_
 refine WQ.f1 ?_
 refine WQ.drop ?_
 exact WQ.returnsD h [] (fun _ hs => hs.drop) (resultsL1 rfl (RV.cellA (cs := (l33 r27)) 0 ag33 sz33 hs24_2 rfl rfl)) (hle24.trans hle30) ⟨rfl, rfl⟩
 have h := ite_f hb33 h
 refine WC.skip ?_
 refine WQ.thenC ?_
 refine WC.seq ?_
 obtain ⟨x34, hj35, h⟩ := bnd h
 refine WC.joinF (fun (x34 : Bool) ρ' M' H' => M29.le M' ∧ [(g32, .cells (l33 r27).toArray 33 (0, 0))] :: [(g22, .cells #[(.string ⟨#[]⟩), (.int .i64 0), (.int .i64 0)] 33 (0, 0))] :: [(g21, .cells (l67 a0 v0_14 v0_15 v0_16 v0_17).toArray 67 (0, 0))] :: F = H' ∧ ρ' 1 = (pt g21 0) ∧ ρ' 2 = (pt g22 0) ∧ ρ' 3 = (.int .i64 a0.Kind) ∧ ρ' 27 = (.bool x34)) x34 ?_ ?_
 have h335 := h
 have h := hj35
 refine WC.region ?_
 refine Pu (pt g21 9) (PO.fieldAddr fo67_9 hs24_1 rfl) rfl ?_
 refine Pu (.bool a0.Flag) (PO.loadB 2 pl4 rfl rfl rfl) rfl ?_
 refine Pm (.bool a0.Flag) rfl rfl ?_
 rcases Bool.eq_false_or_eq_true (a0.Flag) with hb36 | hb36
 have h := ite_t hb36 h
 refine On 23 rfl rfl hb36 ?_
 refine Pm (.int .i64 a0.Kind) hs24_3 rfl ?_
 refine On 23 rfl rfl hb36 ?_
 obtain ⟨r37, hr38, h⟩ := bnd h
 refine WL.eff (EO.call0 co61 (f_ref05_has_ok a0.Kind (102 : Int) _ r37 hr38) (args2 rfl rfl)) rfl ?_
 rintro _ M39 _ hle40 ⟨_, ⟨rfl, rfl⟩, rfl⟩
 have h0_14 := h0_14.mono hle40
 have h0_15 := h0_15.mono hle40
 have h0_16 := h0_16.mono hle40
 have h0_17 := h0_17.mono hle40
 refine WL.a0 ?_
 refine On 23 rfl rfl hb36 ?_
 refine Pu (.bool (!r37)) (PO.not rfl) rfl ?_
 refine Pu (.bool (!r37)) (PO.pickT rfl hb36 rfl) rfl ?_
 refine WL.nil ?_
 obtain rfl := Option.some.inj h
 refine WQ.thenJ ?_
 exact ⟨hle40, rfl, hs24_1, hs24_2, hs24_3, rfl⟩
 have h := ite_f hb36 h
 iterate 3 refine Of 23 rfl rfl hb36 rfl ?_
 refine Pu (.bool false) (PO.pickF rfl hb36 rfl) rfl ?_
 refine WL.nil ?_
 obtain rfl := Option.some.inj h
 refine WQ.thenJ ?_
 exact ⟨(IM.le.refl _), rfl, hs24_1, hs24_2, hs24_3, rfl⟩
 rintro ρ35 M35 H35 ⟨hle35, rfl, hs35_1, hs35_2, hs35_3, hs35_27⟩
 have h0_14 := h0_14.mono hle35
 have h0_15 := h0_15.mono hle35
 have h0_16 := h0_16.mono hle35
 have h0_17 := h0_17.mono hle35
 refine WC.cond (b := x34) hs35_27 (fun hb42 => ?_) (fun hb42 => ?_)
 have h := ite_t hb42 h
 refine Sr ?_
 refine Pu (.agg #[(.string ⟨#[102, 108, 97, 103]⟩), (.int .i64 1), (.int .i64 1)]) (PO.buildL (cl := [(.string ⟨#[102, 108, 97, 103]⟩), (.int .i64 1), (.int .i64 1)]) ze33 fp33 (Parts.cons (congrArg Value.cells (show ev _ _ = (.string ⟨#[102, 108, 97, 103]⟩) from rfl)) (Parts.cons (congrArg Value.cells (show ev _ _ = (.int .i64 1) from rfl)) (Parts.cons (congrArg Value.cells (show ev _ _ = (.int .i64 1) from rfl)) Parts.nil))) rfl) rfl ?_
 refine WL.f1 ?_
 refine WL.eff (EO.storeL (v := (.agg #[(.string ⟨#[102, 108, 97, 103]⟩), (.int .i64 1), (.int .i64 1)])) (vl := [(.string ⟨#[102, 108, 97, 103]⟩), (.int .i64 1), (.int .i64 1)]) (arr' := [(.string ⟨#[102, 108, 97, 103]⟩), (.int .i64 1), (.int .i64 1)]) rfl sz33 hs35_2 rfl (onesOf (Ones.cons rfl (Ones.cons rfl (Ones.cons rfl Ones.nil)))) rfl rfl rfl) rfl ?_
 rintro _ _ _ - ⟨rfl, rfl⟩
 refine Nt ?_
 refine WC.ret ?_
 refine WQ.thenR ?_
 refine WQ.f1 ?_
 refine WQ.drop ?_
 refine WQ.f1 ?_
 refine WQ.drop ?_
 exact WQ.returnsD h [] (fun _ hs => hs.drop) (resultsL1 rfl (RV.cellA (cs := [(.string ⟨#[102, 108, 97, 103]⟩), (.int .i64 1), (.int .i64 1)]) 0 ag33 sz33 hs35_2 rfl rfl)) ((hle24.trans hle30).trans hle35) ⟨rfl, rfl⟩
 have h := ite_f hb42 h
 refine WC.skip ?_
 refine WQ.thenC ?_
 refine WC.seq ?_
 obtain ⟨x43, hj44, h⟩ := bnd h
 refine WC.joinF (fun (x43 : Bool) ρ' M' H' => M35.le M' ∧ [(g32, .cells (l33 r27).toArray 33 (0, 0))] :: [(g22, .cells #[(.string ⟨#[]⟩), (.int .i64 0), (.int .i64 0)] 33 (0, 0))] :: [(g21, .cells (l67 a0 v0_14 v0_15 v0_16 v0_17).toArray 67 (0, 0))] :: F = H' ∧ ρ' 1 = (pt g21 0) ∧ ρ' 2 = (pt g22 0) ∧ ρ' 3 = (.int .i64 a0.Kind) ∧ ρ' 50 = (.bool x43)) x43 ?_ ?_
 have h344 := h
 have h := hj44
 refine WC.draw [0, 1, 0, 4, 15, 31, 63, 127, 255, 127, 639, 2047, 4095, 8191, 16383, 32767, 65535, 32767, 163839, 524287, 1048575, 2097151] (.pure 0 (.pure 1 (.pure 2 (.alt 3 (.alt 4 (.pure 5 (.pure 6 (.pure 7 (.pure 8 (.pure 9 (.alt 10 (.alt 11 (.pure 12 (.pure 13 (.pure 14 (.pure 15 (.pure 16 (.pure 17 (.alt 18 (.alt 19 (.pure 20 (.pure 21 .done)) .none) .none))))))) .none) .none)))))) .none) .none)))) mixed (by kernel_rfl) ?_
 refine Tp (pt g21 10) rfl (PO.fieldAddr fo67_10 hs35_1 rfl) rfl ?_
 refine Tp (.string a0.Name) rfl (PO.loadB 2 pl9 rfl rfl rfl) rfl ?_
 refine Tp (.int .i64 a0.Kind) rfl (PO.move hs35_3) rfl ?_
 obtain ⟨r45, hr46, h⟩ := bnd h
 refine WT.alt rfl (EO.call0 co61 (f_ref05_has_ok a0.Kind (110 : Int) _ r45 hr46) (args2 rfl rfl)) rfl ?_ ?_
 rintro _ M47 _ hle48 ⟨_, ⟨rfl, rfl⟩, rfl⟩
 have h0_14 := h0_14.mono hle48
 have h0_15 := h0_15.mono hle48
 have h0_16 := h0_16.mono hle48
 have h0_17 := h0_17.mono hle48
 refine ⟨(StabL.anc rfl (StabL.st (StabA.of rfl (PO.loadB 2 pl9 rfl rfl rfl) rfl) (StabL.st (StabA.of rfl (PO.fieldAddr fo67_10 hs35_1 rfl) rfl) trivial))), ?_⟩
 refine WT.a0 ?_
 obtain ⟨r50, hr51, h⟩ := bnd h
 refine WT.alt rfl (EO.call0 co62 (f_ref05_name_ok a0.Name r45 _ r50 hr51) (args2 rfl rfl)) rfl ?_ ?_
 rintro _ M52 _ hle53 ⟨_, ⟨rfl, rfl⟩, rfl⟩
 have h0_14 := h0_14.mono hle53
 have h0_15 := h0_15.mono hle53
 have h0_16 := h0_16.mono hle53
 have h0_17 := h0_17.mono hle53
 refine ⟨(StabL.anc rfl (StabL.anc rfl (StabL.anc rfl trivial))), ?_⟩
 refine WT.a0 ?_
 refine Tp (.bool (!r50)) rfl (PO.not rfl) rfl ?_
 refine Tp (.bool (!r50)) rfl (PO.move rfl) rfl ?_
 rcases Bool.eq_false_or_eq_true (!r50) with hb55 | hb55
 have h := ite_t hb55 h
 refine WT.pureOff 35 rfl rfl rfl hb55 rfl ?_
 refine WT.pureOff 35 rfl rfl rfl hb55 rfl ?_
 refine WT.pureOff 35 rfl rfl rfl hb55 rfl ?_
 refine WT.altOff 35 rfl rfl rfl hb55 rfl ⟨(StabL.anc rfl (StabL.st (StabA.off 35 rfl rfl rfl hb55 rfl) (StabL.st (StabA.off 35 rfl rfl rfl hb55 rfl) (StabL.anc rfl (StabL.anc rfl (StabL.anc rfl (StabL.anc rfl (StabL.anc rfl trivial)))))))), ?_⟩ ?_
 refine WT.altOff 35 rfl rfl rfl hb55 rfl ⟨(StabL.anc rfl (StabL.anc rfl (StabL.anc rfl (StabL.anc rfl (StabL.anc rfl (StabL.anc rfl (StabL.anc rfl (StabL.anc rfl trivial)))))))), ?_⟩ ?_
 refine WT.pureOff 35 rfl rfl rfl hb55 rfl ?_
 refine Tp (.bool true) rfl (PO.pickT rfl hb55 rfl) rfl ?_
 refine Tp (.bool true) rfl (PO.move rfl) rfl ?_
 refine WT.pureOff 43 rfl rfl rfl rfl rfl ?_
 refine WT.pureOff 43 rfl rfl rfl rfl rfl ?_
 refine WT.pureOff 43 rfl rfl rfl rfl rfl ?_
 refine WT.altOff 43 rfl rfl rfl rfl rfl ⟨(StabL.anc rfl (StabL.st (StabA.off 43 rfl rfl rfl rfl rfl) (StabL.st (StabA.off 43 rfl rfl rfl rfl rfl) (StabL.anc rfl (StabL.anc rfl (StabL.anc rfl (StabL.anc rfl (StabL.anc rfl (StabL.anc rfl (StabL.anc rfl (StabL.anc rfl (StabL.anc rfl (StabL.anc rfl (StabL.anc rfl trivial)))))))))))))), ?_⟩ ?_
 refine WT.altOff 43 rfl rfl rfl rfl rfl ⟨(StabL.anc rfl (StabL.anc rfl (StabL.anc rfl (StabL.anc rfl (StabL.anc rfl (StabL.anc rfl (StabL.anc rfl (StabL.anc rfl (StabL.anc rfl (StabL.anc rfl (StabL.anc rfl (StabL.anc rfl (StabL.anc rfl (StabL.anc rfl trivial)))))))))))))), ?_⟩ ?_
 refine WT.pureOff 43 rfl rfl rfl rfl rfl ?_
 refine Tp (.bool true) rfl (PO.pickT rfl rfl rfl) rfl ?_
 refine WT.fin ?_
 obtain rfl := Option.some.inj h
 refine WQ.thenJ ?_
 exact ⟨(hle48.trans hle53), rfl, hs35_1, hs35_2, hs35_3, rfl⟩
 exact WT.no
 exact WT.no
 exact WT.no
 exact WT.no
 have h := ite_f hb55 h
 refine Tn (pt g21 11) 35 rfl rfl rfl hb55 (PO.fieldAddr fo67_11 hs35_1 rfl) rfl ?_
 refine Tn (.string a0.Key) 35 rfl rfl rfl hb55 (PO.loadB 2 pl9 rfl rfl rfl) rfl ?_
 refine Tn (.int .i64 a0.Kind) 35 rfl rfl rfl hb55 (PO.move hs35_3) rfl ?_
 obtain ⟨r56, hr57, h⟩ := bnd h
 refine WT.altOn 35 rfl rfl rfl hb55 (EO.call0 co61 (f_ref05_has_ok a0.Kind (107 : Int) _ r56 hr57) (args2 rfl rfl)) rfl ?_ ?_
 rintro _ M58 _ hle59 ⟨_, ⟨rfl, rfl⟩, rfl⟩
 have h0_14 := h0_14.mono hle59
 have h0_15 := h0_15.mono hle59
 have h0_16 := h0_16.mono hle59
 have h0_17 := h0_17.mono hle59
 refine ⟨(StabL.anc rfl (StabL.st (StabA.on 35 rfl rfl rfl hb55 (PO.loadB 2 pl9 rfl rfl rfl) rfl) (StabL.st (StabA.on 35 rfl rfl rfl hb55 (PO.fieldAddr fo67_11 hs35_1 rfl) rfl) (StabL.anc rfl (StabL.anc rfl (StabL.anc rfl (StabL.anc rfl (StabL.anc rfl trivial)))))))), ?_⟩
 refine WT.a0 ?_
 obtain ⟨r61, hr62, h⟩ := bnd h
 refine WT.altOn 35 rfl rfl rfl hb55 (EO.call0 co62 (f_ref05_name_ok a0.Key r56 _ r61 hr62) (args2 rfl rfl)) rfl ?_ ?_
 rintro _ M63 _ hle64 ⟨_, ⟨rfl, rfl⟩, rfl⟩
 have h0_14 := h0_14.mono hle64
 have h0_15 := h0_15.mono hle64
 have h0_16 := h0_16.mono hle64
 have h0_17 := h0_17.mono hle64
 refine ⟨(StabL.anc rfl (StabL.anc rfl (StabL.anc rfl (StabL.anc rfl (StabL.anc rfl (StabL.anc rfl (StabL.anc rfl (StabL.anc rfl trivial)))))))), ?_⟩
 refine WT.a0 ?_
 refine Tn (.bool (!r61)) 35 rfl rfl rfl hb55 (PO.not rfl) rfl ?_
 refine Tp (.bool (!r61)) rfl (PO.pickF rfl hb55 rfl) rfl ?_
 refine Tp (.bool (!r61)) rfl (PO.move rfl) rfl ?_
 rcases Bool.eq_false_or_eq_true (!r61) with hb66 | hb66
 have h := ite_t hb66 h
 refine WT.pureOff 43 rfl rfl rfl hb66 rfl ?_
 refine WT.pureOff 43 rfl rfl rfl hb66 rfl ?_
 refine WT.pureOff 43 rfl rfl rfl hb66 rfl ?_
 refine WT.altOff 43 rfl rfl rfl hb66 rfl ⟨(StabL.anc rfl (StabL.st (StabA.off 43 rfl rfl rfl hb66 rfl) (StabL.st (StabA.off 43 rfl rfl rfl hb66 rfl) (StabL.anc rfl (StabL.anc rfl (StabL.anc rfl (StabL.anc rfl (StabL.anc rfl (StabL.anc rfl (StabL.anc rfl (StabL.anc rfl (StabL.anc rfl (StabL.anc rfl (StabL.anc rfl trivial)))))))))))))), ?_⟩ ?_
 refine WT.altOff 43 rfl rfl rfl hb66 rfl ⟨(StabL.anc rfl (StabL.anc rfl (StabL.anc rfl (StabL.anc rfl (StabL.anc rfl (StabL.anc rfl (StabL.anc rfl (StabL.anc rfl (StabL.anc rfl (StabL.anc rfl (StabL.anc rfl (StabL.anc rfl (StabL.anc rfl (StabL.anc rfl trivial)))))))))))))), ?_⟩ ?_
 refine WT.pureOff 43 rfl rfl rfl hb66 rfl ?_
 refine Tp (.bool true) rfl (PO.pickT rfl hb66 rfl) rfl ?_
 refine WT.fin ?_
 obtain rfl := Option.some.inj h
 refine WQ.thenJ ?_
 exact ⟨(((hle48.trans hle53).trans hle59).trans hle64), rfl, hs35_1, hs35_2, hs35_3, rfl⟩
 exact WT.no
 exact WT.no
 have h := ite_f hb66 h
 refine Tn (pt g21 13) 43 rfl rfl rfl hb66 (PO.fieldAddr fo67_13 hs35_1 rfl) rfl ?_
 refine Tn (.string a0.Rack) 43 rfl rfl rfl hb66 (PO.loadB 2 pl9 rfl rfl rfl) rfl ?_
 refine Tn (.int .i64 a0.Kind) 43 rfl rfl rfl hb66 (PO.move hs35_3) rfl ?_
 obtain ⟨r67, hr68, h⟩ := bnd h
 refine WT.altOn 43 rfl rfl rfl hb66 (EO.call0 co61 (f_ref05_has_ok a0.Kind (114 : Int) _ r67 hr68) (args2 rfl rfl)) rfl ?_ ?_
 rintro _ M69 _ hle70 ⟨_, ⟨rfl, rfl⟩, rfl⟩
 have h0_14 := h0_14.mono hle70
 have h0_15 := h0_15.mono hle70
 have h0_16 := h0_16.mono hle70
 have h0_17 := h0_17.mono hle70
 refine ⟨(StabL.anc rfl (StabL.st (StabA.on 43 rfl rfl rfl hb66 (PO.loadB 2 pl9 rfl rfl rfl) rfl) (StabL.st (StabA.on 43 rfl rfl rfl hb66 (PO.fieldAddr fo67_13 hs35_1 rfl) rfl) (StabL.anc rfl (StabL.anc rfl (StabL.anc rfl (StabL.anc rfl (StabL.anc rfl (StabL.anc rfl (StabL.anc rfl (StabL.anc rfl (StabL.anc rfl (StabL.anc rfl (StabL.anc rfl trivial)))))))))))))), ?_⟩
 refine WT.a0 ?_
 obtain ⟨r72, hr73, h⟩ := bnd h
 refine WT.altOn 43 rfl rfl rfl hb66 (EO.call0 co62 (f_ref05_name_ok a0.Rack r67 _ r72 hr73) (args2 rfl rfl)) rfl ?_ ?_
 rintro _ M74 _ hle75 ⟨_, ⟨rfl, rfl⟩, rfl⟩
 have h0_14 := h0_14.mono hle75
 have h0_15 := h0_15.mono hle75
 have h0_16 := h0_16.mono hle75
 have h0_17 := h0_17.mono hle75
 refine ⟨(StabL.anc rfl (StabL.anc rfl (StabL.anc rfl (StabL.anc rfl (StabL.anc rfl (StabL.anc rfl (StabL.anc rfl (StabL.anc rfl (StabL.anc rfl (StabL.anc rfl (StabL.anc rfl (StabL.anc rfl (StabL.anc rfl (StabL.anc rfl trivial)))))))))))))), ?_⟩
 refine WT.a0 ?_
 refine Tn (.bool (!r72)) 43 rfl rfl rfl hb66 (PO.not rfl) rfl ?_
 refine Tp (.bool (!r72)) rfl (PO.pickF rfl hb66 rfl) rfl ?_
 refine WT.fin ?_
 obtain rfl := Option.some.inj h
 refine WQ.thenJ ?_
 exact ⟨(((((hle48.trans hle53).trans hle59).trans hle64).trans hle70).trans hle75), rfl, hs35_1, hs35_2, hs35_3, rfl⟩
 exact WT.no
 exact WT.no
 exact WT.no
 exact WT.no
 exact WT.no
 exact WT.no
 rintro ρ44 M44 H44 ⟨hle44, rfl, hs44_1, hs44_2, hs44_3, hs44_50⟩
 have h0_14 := h0_14.mono hle44
 have h0_15 := h0_15.mono hle44
 have h0_16 := h0_16.mono hle44
 have h0_17 := h0_17.mono hle44
 refine WC.cond (b := x43) hs44_50 (fun hb77 => ?_) (fun hb77 => ?_)
 have h := ite_t hb77 h
 refine Sr ?_
 refine Pu (pt g21 10) (PO.fieldAddr fo67_10 hs44_1 rfl) rfl ?_
 refine Pu (.string a0.Name) (PO.loadB 2 pl9 rfl rfl rfl) rfl ?_
 refine Pu (.int .i64 (a0.Name.size : Int)) (PO.lenStr Tryz.underlying9 rfl) rfl ?_
 refine Pu (.agg #[(.string ⟨#[110, 97, 109, 101]⟩), (.int .i64 (a0.Name.size : Int)), (.int .i64 1)]) (PO.buildL (cl := [(.string ⟨#[110, 97, 109, 101]⟩), (.int .i64 (a0.Name.size : Int)), (.int .i64 1)]) ze33 fp33 (Parts.cons (congrArg Value.cells (show ev _ _ = (.string ⟨#[110, 97, 109, 101]⟩) from rfl)) (Parts.cons (congrArg Value.cells (show ev _ _ = (.int .i64 (a0.Name.size : Int)) from rfl)) (Parts.cons (congrArg Value.cells (show ev _ _ = (.int .i64 1) from rfl)) Parts.nil))) rfl) rfl ?_
 refine WL.f1 ?_
 refine WL.eff (EO.storeL (v := (.agg #[(.string ⟨#[110, 97, 109, 101]⟩), (.int .i64 (a0.Name.size : Int)), (.int .i64 1)])) (vl := [(.string ⟨#[110, 97, 109, 101]⟩), (.int .i64 (a0.Name.size : Int)), (.int .i64 1)]) (arr' := [(.string ⟨#[110, 97, 109, 101]⟩), (.int .i64 (a0.Name.size : Int)), (.int .i64 1)]) rfl sz33 hs44_2 rfl (onesOf (Ones.cons rfl (Ones.cons rfl (Ones.cons rfl Ones.nil)))) rfl rfl rfl) rfl ?_
 rintro _ _ _ - ⟨rfl, rfl⟩
 refine Nt ?_
 refine WC.ret ?_
 refine WQ.thenR ?_
 refine WQ.f1 ?_
 refine WQ.drop ?_
 refine WQ.f1 ?_
 refine WQ.drop ?_
 exact WQ.returnsD h [] (fun _ hs => hs.drop) (resultsL1 rfl (RV.cellA (cs := [(.string ⟨#[110, 97, 109, 101]⟩), (.int .i64 (a0.Name.size : Int)), (.int .i64 1)]) 0 ag33 sz33 hs44_2 rfl rfl)) (((hle24.trans hle30).trans hle35).trans hle44) ⟨rfl, rfl⟩
 have h := ite_f hb77 h
 refine WC.skip ?_
 refine WQ.thenC ?_
 refine WC.seq ?_
 obtain ⟨x78, hj79, h⟩ := bnd h
 refine WC.joinF (fun (x78 : Bool) ρ' M' H' => M44.le M' ∧ [(g32, .cells (l33 r27).toArray 33 (0, 0))] :: [(g22, .cells #[(.string ⟨#[]⟩), (.int .i64 0), (.int .i64 0)] 33 (0, 0))] :: [(g21, .cells (l67 a0 v0_14 v0_15 v0_16 v0_17).toArray 67 (0, 0))] :: F = H' ∧ ρ' 1 = (pt g21 0) ∧ ρ' 2 = (pt g22 0) ∧ ρ' 3 = (.int .i64 a0.Kind) ∧ ρ' 72 = (.bool x78)) x78 ?_ ?_
 have h379 := h
 have h := hj79
 refine WC.region ?_
 refine Pu (pt g21 12) (PO.fieldAddr fo67_12 hs44_1 rfl) rfl ?_
 refine Pu (.string a0.Value) (PO.loadB 2 pl9 rfl rfl rfl) rfl ?_
 refine Pu (.int .i64 (a0.Value.size : Int)) (PO.lenStr Tryz.underlying9 rfl) rfl ?_
 refine Pu (.bool (decide ((256 : Int) < (a0.Value.size : Int)))) (PO.gtr rfl rfl) rfl ?_
 refine Pm (.bool (decide ((256 : Int) < (a0.Value.size : Int)))) rfl rfl ?_
 rcases Bool.eq_false_or_eq_true (decide ((256 : Int) < (a0.Value.size : Int))) with hb80 | hb80
 have h := ite_t hb80 h
 iterate 4 refine Of 59 rfl rfl hb80 rfl ?_
 refine WL.offU 63 rfl rfl rfl ?_
 refine WL.offU 63 rfl rfl rfl ?_
 refine WL.offU 63 rfl rfl rfl ?_
 refine WL.offU 66 rfl rfl rfl ?_
 refine WL.offU 66 rfl rfl rfl ?_
 refine WL.offU 66 rfl rfl rfl ?_
 refine WL.offU 63 rfl rfl rfl ?_
 refine Of 59 rfl rfl hb80 rfl ?_
 refine Pu (.bool true) (PO.pickT rfl hb80 rfl) rfl ?_
 refine WL.nil ?_
 obtain rfl := Option.some.inj h
 refine WQ.thenJ ?_
 exact ⟨(IM.le.refl _), rfl, hs44_1, hs44_2, hs44_3, rfl⟩
 have h := ite_f hb80 h
 refine On 59 rfl rfl hb80 ?_
 refine Pu (pt g21 12) (PO.fieldAddr fo67_12 hs44_1 rfl) rfl ?_
 refine On 59 rfl rfl hb80 ?_
 refine Pu (.string a0.Value) (PO.loadB 2 pl9 rfl rfl rfl) rfl ?_
 refine On 59 rfl rfl hb80 ?_
 refine Pu (.bool (!decide (a0.Value = (⟨#[]⟩ : ByteArray)))) (PO.sneq rfl rfl) rfl ?_
 refine On 59 rfl rfl hb80 ?_
 refine Pm (.bool (!decide (a0.Value = (⟨#[]⟩ : ByteArray)))) rfl rfl ?_
 rcases Bool.eq_false_or_eq_true (!decide (a0.Value = (⟨#[]⟩ : ByteArray))) with hb81 | hb81
 have h := ite_t hb81 h
 refine On 63 rfl rfl hb81 ?_
 refine Pu (pt g21 9) (PO.fieldAddr fo67_9 hs44_1 rfl) rfl ?_
 refine On 63 rfl rfl hb81 ?_
 refine Pu (.bool a0.Flag) (PO.loadB 2 pl4 rfl rfl rfl) rfl ?_
 refine On 63 rfl rfl hb81 ?_
 refine Pm (.bool a0.Flag) rfl rfl ?_
 rcases Bool.eq_false_or_eq_true (a0.Flag) with hb82 | hb82
 have h := ite_t hb82 h
 iterate 3 refine Of 66 rfl rfl hb82 rfl ?_
 refine On 63 rfl rfl hb81 ?_
 refine Pu (.bool true) (PO.pickT rfl hb82 rfl) rfl ?_
 refine On 59 rfl rfl hb80 ?_
 refine Pu (.bool true) (PO.pickT rfl hb81 rfl) rfl ?_
 refine Pu (.bool true) (PO.pickF rfl hb80 rfl) rfl ?_
 refine WL.nil ?_
 obtain rfl := Option.some.inj h
 refine WQ.thenJ ?_
 exact ⟨(IM.le.refl _), rfl, hs44_1, hs44_2, hs44_3, rfl⟩
 have h := ite_f hb82 h
 refine On 66 rfl rfl hb82 ?_
 refine Pm (.int .i64 a0.Kind) hs44_3 rfl ?_
 refine On 66 rfl rfl hb82 ?_
 obtain ⟨r83, hr84, h⟩ := bnd h
 refine WL.eff (EO.call0 co61 (f_ref05_has_ok a0.Kind (118 : Int) _ r83 hr84) (args2 rfl rfl)) rfl ?_
 rintro _ M85 _ hle86 ⟨_, ⟨rfl, rfl⟩, rfl⟩
 have h0_14 := h0_14.mono hle86
 have h0_15 := h0_15.mono hle86
 have h0_16 := h0_16.mono hle86
 have h0_17 := h0_17.mono hle86
 refine WL.a0 ?_
 refine On 66 rfl rfl hb82 ?_
 refine Pu (.bool (!r83)) (PO.not rfl) rfl ?_
 refine On 63 rfl rfl hb81 ?_
 refine Pu (.bool (!r83)) (PO.pickF rfl hb82 rfl) rfl ?_
 refine On 59 rfl rfl hb80 ?_
 refine Pu (.bool (!r83)) (PO.pickT rfl hb81 rfl) rfl ?_
 refine Pu (.bool (!r83)) (PO.pickF rfl hb80 rfl) rfl ?_
 refine WL.nil ?_
 obtain rfl := Option.some.inj h
 refine WQ.thenJ ?_
 exact ⟨hle86, rfl, hs44_1, hs44_2, hs44_3, rfl⟩
 have h := ite_f hb81 h
 iterate 3 refine Of 63 rfl rfl hb81 rfl ?_
 refine WL.offU 66 rfl rfl rfl ?_
 refine WL.offU 66 rfl rfl rfl ?_
 refine WL.offU 66 rfl rfl rfl ?_
 refine Of 63 rfl rfl hb81 rfl ?_
 refine On 59 rfl rfl hb80 ?_
 refine Pu (.bool false) (PO.pickF rfl hb81 rfl) rfl ?_
 refine Pu (.bool false) (PO.pickF rfl hb80 rfl) rfl ?_
 refine WL.nil ?_
 obtain rfl := Option.some.inj h
 refine WQ.thenJ ?_
 exact ⟨(IM.le.refl _), rfl, hs44_1, hs44_2, hs44_3, rfl⟩
 rintro ρ79 M79 H79 ⟨hle79, rfl, hs79_1, hs79_2, hs79_3, hs79_72⟩
 have h0_14 := h0_14.mono hle79
 have h0_15 := h0_15.mono hle79
 have h0_16 := h0_16.mono hle79
 have h0_17 := h0_17.mono hle79
 refine WC.cond (b := x78) hs79_72 (fun hb88 => ?_) (fun hb88 => ?_)
 have h := ite_t hb88 h
 refine Sr ?_
 refine Pu (pt g21 12) (PO.fieldAddr fo67_12 hs79_1 rfl) rfl ?_
 refine Pu (.string a0.Value) (PO.loadB 2 pl9 rfl rfl rfl) rfl ?_
 refine Pu (.int .i64 (a0.Value.size : Int)) (PO.lenStr Tryz.underlying9 rfl) rfl ?_
 refine Pu (.agg #[(.string ⟨#[118, 97, 108, 117, 101]⟩), (.int .i64 (a0.Value.size : Int)), (.int .i64 6)]) (PO.buildL (cl := [(.string ⟨#[118, 97, 108, 117, 101]⟩), (.int .i64 (a0.Value.size : Int)), (.int .i64 6)]) ze33 fp33 (Parts.cons (congrArg Value.cells (show ev _ _ = (.string ⟨#[118, 97, 108, 117, 101]⟩) from rfl)) (Parts.cons (congrArg Value.cells (show ev _ _ = (.int .i64 (a0.Value.size : Int)) from rfl)) (Parts.cons (congrArg Value.cells (show ev _ _ = (.int .i64 6) from rfl)) Parts.nil))) rfl) rfl ?_
 refine WL.f1 ?_
 refine WL.eff (EO.storeL (v := (.agg #[(.string ⟨#[118, 97, 108, 117, 101]⟩), (.int .i64 (a0.Value.size : Int)), (.int .i64 6)])) (vl := [(.string ⟨#[118, 97, 108, 117, 101]⟩), (.int .i64 (a0.Value.size : Int)), (.int .i64 6)]) (arr' := [(.string ⟨#[118, 97, 108, 117, 101]⟩), (.int .i64 (a0.Value.size : Int)), (.int .i64 6)]) rfl sz33 hs79_2 rfl (onesOf (Ones.cons rfl (Ones.cons rfl (Ones.cons rfl Ones.nil)))) rfl rfl rfl) rfl ?_
 rintro _ _ _ - ⟨rfl, rfl⟩
 refine Nt ?_
 refine WC.ret ?_
 refine WQ.thenR ?_
 refine WQ.f1 ?_
 refine WQ.drop ?_
 refine WQ.f1 ?_
 refine WQ.drop ?_
 exact WQ.returnsD h [] (fun _ hs => hs.drop) (resultsL1 rfl (RV.cellA (cs := [(.string ⟨#[118, 97, 108, 117, 101]⟩), (.int .i64 (a0.Value.size : Int)), (.int .i64 6)]) 0 ag33 sz33 hs79_2 rfl rfl)) ((((hle24.trans hle30).trans hle35).trans hle44).trans hle79) ⟨rfl, rfl⟩
 have h := ite_f hb88 h
 refine WC.skip ?_
 refine WQ.thenC ?_
 refine WC.seq ?_
 obtain ⟨x89, hj90, h⟩ := bnd h
 refine WC.joinF (fun (x89 : Bool) ρ' M' H' => M79.le M' ∧ [(g32, .cells (l33 r27).toArray 33 (0, 0))] :: [(g22, .cells #[(.string ⟨#[]⟩), (.int .i64 0), (.int .i64 0)] 33 (0, 0))] :: [(g21, .cells (l67 a0 v0_14 v0_15 v0_16 v0_17).toArray 67 (0, 0))] :: F = H' ∧ ρ' 1 = (pt g21 0) ∧ ρ' 2 = (pt g22 0) ∧ ρ' 106 = (.bool x89)) x89 ?_ ?_
 have h390 := h
 have h := hj90
 refine WC.draw [0, 1, 0, 4, 15, 31, 63, 127, 255, 127, 639, 2047, 4095, 8191, 16383, 32767, 65535, 32767, 163839, 524287, 1048575, 2097151, 4194303, 8388607, 16777215, 8388607, 41943039, 134217727, 268435455, 536870911] (.pure 0 (.pure 1 (.pure 2 (.alt 3 (.alt 4 (.pure 5 (.pure 6 (.pure 7 (.pure 8 (.pure 9 (.alt 10 (.alt 11 (.pure 12 (.pure 13 (.pure 14 (.pure 15 (.pure 16 (.pure 17 (.alt 18 (.alt 19 (.pure 20 (.pure 21 (.pure 22 (.pure 23 (.pure 24 (.pure 25 (.alt 26 (.alt 27 (.pure 28 (.pure 29 .done)) .none) .none))))))) .none) .none))))))) .none) .none)))))) .none) .none)))) mixed (by kernel_rfl) ?_
 refine Tp (pt g21 14) rfl (PO.fieldAddr fo67_14 hs79_1 rfl) rfl ?_
 refine Tp v0_14 rfl (PO.loadB 2 pl65 rfl rfl rfl) rfl ?_
 refine Tp (.int .i64 a0.Kind) rfl (PO.move hs79_3) rfl ?_
 obtain ⟨r91, hr92, h⟩ := bnd h
 refine WT.alt rfl (EO.call0 co61 (f_ref05_has_ok a0.Kind (105 : Int) _ r91 hr92) (args2 rfl rfl)) rfl ?_ ?_
 rintro _ M93 _ hle94 ⟨_, ⟨rfl, rfl⟩, rfl⟩
 have h0_14 := h0_14.mono hle94
 have h0_15 := h0_15.mono hle94
 have h0_16 := h0_16.mono hle94
 have h0_17 := h0_17.mono hle94
 refine ⟨(StabL.anc rfl (StabL.st (StabA.of rfl (PO.loadB 2 pl65 rfl rfl rfl) rfl) (StabL.st (StabA.of rfl (PO.fieldAddr fo67_14 hs79_1 rfl) rfl) trivial))), ?_⟩
 refine WT.a0 ?_
 obtain ⟨r96, hr97, h⟩ := bnd h
 refine WT.alt rfl (EO.call0 co63 (f_ref05_row_ok a0.Ids r91 _ _ h0_14 r96 hr97) (args2 rfl rfl)) rfl ?_ ?_
 rintro _ M98 _ hle99 ⟨_, ⟨rfl, rfl⟩, rfl⟩
 have h0_14 := h0_14.mono hle99
 have h0_15 := h0_15.mono hle99
 have h0_16 := h0_16.mono hle99
 have h0_17 := h0_17.mono hle99
 refine ⟨(StabL.anc rfl (StabL.anc rfl (StabL.anc rfl trivial))), ?_⟩
 refine WT.a0 ?_
 refine Tp (.bool (!r96)) rfl (PO.not rfl) rfl ?_
 refine Tp (.bool (!r96)) rfl (PO.move rfl) rfl ?_
 rcases Bool.eq_false_or_eq_true (!r96) with hb101 | hb101
 have h := ite_t hb101 h
 refine WT.pureOff 83 rfl rfl rfl hb101 rfl ?_
 refine WT.pureOff 83 rfl rfl rfl hb101 rfl ?_
 refine WT.pureOff 83 rfl rfl rfl hb101 rfl ?_
 refine WT.altOff 83 rfl rfl rfl hb101 rfl ⟨(StabL.anc rfl (StabL.st (StabA.off 83 rfl rfl rfl hb101 rfl) (StabL.st (StabA.off 83 rfl rfl rfl hb101 rfl) (StabL.anc rfl (StabL.anc rfl (StabL.anc rfl (StabL.anc rfl (StabL.anc rfl trivial)))))))), ?_⟩ ?_
 refine WT.altOff 83 rfl rfl rfl hb101 rfl ⟨(StabL.anc rfl (StabL.anc rfl (StabL.anc rfl (StabL.anc rfl (StabL.anc rfl (StabL.anc rfl (StabL.anc rfl (StabL.anc rfl trivial)))))))), ?_⟩ ?_
 refine WT.pureOff 83 rfl rfl rfl hb101 rfl ?_
 refine Tp (.bool true) rfl (PO.pickT rfl hb101 rfl) rfl ?_
 refine Tp (.bool true) rfl (PO.move rfl) rfl ?_
 refine WT.pureOff 91 rfl rfl rfl rfl rfl ?_
 refine WT.pureOff 91 rfl rfl rfl rfl rfl ?_
 refine WT.pureOff 91 rfl rfl rfl rfl rfl ?_
 refine WT.altOff 91 rfl rfl rfl rfl rfl ⟨(StabL.anc rfl (StabL.st (StabA.off 91 rfl rfl rfl rfl rfl) (StabL.st (StabA.off 91 rfl rfl rfl rfl rfl) (StabL.anc rfl (StabL.anc rfl (StabL.anc rfl (StabL.anc rfl (StabL.anc rfl (StabL.anc rfl (StabL.anc rfl (StabL.anc rfl (StabL.anc rfl (StabL.anc rfl (StabL.anc rfl trivial)))))))))))))), ?_⟩ ?_
 refine WT.altOff 91 rfl rfl rfl rfl rfl ⟨(StabL.anc rfl (StabL.anc rfl (StabL.anc rfl (StabL.anc rfl (StabL.anc rfl (StabL.anc rfl (StabL.anc rfl (StabL.anc rfl (StabL.anc rfl (StabL.anc rfl (StabL.anc rfl (StabL.anc rfl (StabL.anc rfl (StabL.anc rfl trivial)))))))))))))), ?_⟩ ?_
 refine WT.pureOff 91 rfl rfl rfl rfl rfl ?_
 refine Tp (.bool true) rfl (PO.pickT rfl rfl rfl) rfl ?_
 refine Tp (.bool true) rfl (PO.move rfl) rfl ?_
 refine WT.pureOff 99 rfl rfl rfl rfl rfl ?_
 refine WT.pureOff 99 rfl rfl rfl rfl rfl ?_
 refine WT.pureOff 99 rfl rfl rfl rfl rfl ?_
 refine WT.altOff 99 rfl rfl rfl rfl rfl ⟨(StabL.anc rfl (StabL.st (StabA.off 99 rfl rfl rfl rfl rfl) (StabL.st (StabA.off 99 rfl rfl rfl rfl rfl) (StabL.anc rfl (StabL.anc rfl (StabL.anc rfl (StabL.anc rfl (StabL.anc rfl (StabL.anc rfl (StabL.anc rfl (StabL.anc rfl (StabL.anc rfl (StabL.anc rfl (StabL.anc rfl (StabL.anc rfl (StabL.anc rfl (StabL.anc rfl (StabL.anc rfl (StabL.anc rfl (StabL.anc rfl trivial)))))))))))))))))))), ?_⟩ ?_
 refine WT.altOff 99 rfl rfl rfl rfl rfl ⟨(StabL.anc rfl (StabL.anc rfl (StabL.anc rfl (StabL.anc rfl (StabL.anc rfl (StabL.anc rfl (StabL.anc rfl (StabL.anc rfl (StabL.anc rfl (StabL.anc rfl (StabL.anc rfl (StabL.anc rfl (StabL.anc rfl (StabL.anc rfl (StabL.anc rfl (StabL.anc rfl (StabL.anc rfl (StabL.anc rfl (StabL.anc rfl (StabL.anc rfl trivial)))))))))))))))))))), ?_⟩ ?_
 refine WT.pureOff 99 rfl rfl rfl rfl rfl ?_
 refine Tp (.bool true) rfl (PO.pickT rfl rfl rfl) rfl ?_
 refine WT.fin ?_
 obtain rfl := Option.some.inj h
 refine WQ.thenJ ?_
 exact ⟨(hle94.trans hle99), rfl, hs79_1, hs79_2, rfl⟩
 exact WT.no
 exact WT.no
 exact WT.no
 exact WT.no
 exact WT.no
 exact WT.no
 have h := ite_f hb101 h
 refine Tn (pt g21 15) 83 rfl rfl rfl hb101 (PO.fieldAddr fo67_15 hs79_1 rfl) rfl ?_
 refine Tn v0_15 83 rfl rfl rfl hb101 (PO.loadB 2 pl65 rfl rfl rfl) rfl ?_
 refine Tn (.int .i64 a0.Kind) 83 rfl rfl rfl hb101 (PO.move hs79_3) rfl ?_
 obtain ⟨r102, hr103, h⟩ := bnd h
 refine WT.altOn 83 rfl rfl rfl hb101 (EO.call0 co61 (f_ref05_has_ok a0.Kind (109 : Int) _ r102 hr103) (args2 rfl rfl)) rfl ?_ ?_
 rintro _ M104 _ hle105 ⟨_, ⟨rfl, rfl⟩, rfl⟩
 have h0_14 := h0_14.mono hle105
 have h0_15 := h0_15.mono hle105
 have h0_16 := h0_16.mono hle105
 have h0_17 := h0_17.mono hle105
 refine ⟨(StabL.anc rfl (StabL.st (StabA.on 83 rfl rfl rfl hb101 (PO.loadB 2 pl65 rfl rfl rfl) rfl) (StabL.st (StabA.on 83 rfl rfl rfl hb101 (PO.fieldAddr fo67_15 hs79_1 rfl) rfl) (StabL.anc rfl (StabL.anc rfl (StabL.anc rfl (StabL.anc rfl (StabL.anc rfl trivial)))))))), ?_⟩
 refine WT.a0 ?_
 obtain ⟨r107, hr108, h⟩ := bnd h
 refine WT.altOn 83 rfl rfl rfl hb101 (EO.call0 co63 (f_ref05_row_ok a0.Isr r102 _ _ h0_15 r107 hr108) (args2 rfl rfl)) rfl ?_ ?_
 rintro _ M109 _ hle110 ⟨_, ⟨rfl, rfl⟩, rfl⟩
 have h0_14 := h0_14.mono hle110
 have h0_15 := h0_15.mono hle110
 have h0_16 := h0_16.mono hle110
 have h0_17 := h0_17.mono hle110
 refine ⟨(StabL.anc rfl (StabL.anc rfl (StabL.anc rfl (StabL.anc rfl (StabL.anc rfl (StabL.anc rfl (StabL.anc rfl (StabL.anc rfl trivial)))))))), ?_⟩
 refine WT.a0 ?_
 refine Tn (.bool (!r107)) 83 rfl rfl rfl hb101 (PO.not rfl) rfl ?_
 refine Tp (.bool (!r107)) rfl (PO.pickF rfl hb101 rfl) rfl ?_
 refine Tp (.bool (!r107)) rfl (PO.move rfl) rfl ?_
 rcases Bool.eq_false_or_eq_true (!r107) with hb112 | hb112
 have h := ite_t hb112 h
 refine WT.pureOff 91 rfl rfl rfl hb112 rfl ?_
 refine WT.pureOff 91 rfl rfl rfl hb112 rfl ?_
 refine WT.pureOff 91 rfl rfl rfl hb112 rfl ?_
 refine WT.altOff 91 rfl rfl rfl hb112 rfl ⟨(StabL.anc rfl (StabL.st (StabA.off 91 rfl rfl rfl hb112 rfl) (StabL.st (StabA.off 91 rfl rfl rfl hb112 rfl) (StabL.anc rfl (StabL.anc rfl (StabL.anc rfl (StabL.anc rfl (StabL.anc rfl (StabL.anc rfl (StabL.anc rfl (StabL.anc rfl (StabL.anc rfl (StabL.anc rfl (StabL.anc rfl trivial)))))))))))))), ?_⟩ ?_
 refine WT.altOff 91 rfl rfl rfl hb112 rfl ⟨(StabL.anc rfl (StabL.anc rfl (StabL.anc rfl (StabL.anc rfl (StabL.anc rfl (StabL.anc rfl (StabL.anc rfl (StabL.anc rfl (StabL.anc rfl (StabL.anc rfl (StabL.anc rfl (StabL.anc rfl (StabL.anc rfl (StabL.anc rfl trivial)))))))))))))), ?_⟩ ?_
 refine WT.pureOff 91 rfl rfl rfl hb112 rfl ?_
 refine Tp (.bool true) rfl (PO.pickT rfl hb112 rfl) rfl ?_
 refine Tp (.bool true) rfl (PO.move rfl) rfl ?_
 refine WT.pureOff 99 rfl rfl rfl rfl rfl ?_
 refine WT.pureOff 99 rfl rfl rfl rfl rfl ?_
 refine WT.pureOff 99 rfl rfl rfl rfl rfl ?_
 refine WT.altOff 99 rfl rfl rfl rfl rfl ⟨(StabL.anc rfl (StabL.st (StabA.off 99 rfl rfl rfl rfl rfl) (StabL.st (StabA.off 99 rfl rfl rfl rfl rfl) (StabL.anc rfl (StabL.anc rfl (StabL.anc rfl (StabL.anc rfl (StabL.anc rfl (StabL.anc rfl (StabL.anc rfl (StabL.anc rfl (StabL.anc rfl (StabL.anc rfl (StabL.anc rfl (StabL.anc rfl (StabL.anc rfl (StabL.anc rfl (StabL.anc rfl (StabL.anc rfl (StabL.anc rfl trivial)))))))))))))))))))), ?_⟩ ?_
 refine WT.altOff 99 rfl rfl rfl rfl rfl ⟨(StabL.anc rfl (StabL.anc rfl (StabL.anc rfl (StabL.anc rfl (StabL.anc rfl (StabL.anc rfl (StabL.anc rfl (StabL.anc rfl (StabL.anc rfl (StabL.anc rfl (StabL.anc rfl (StabL.anc rfl (StabL.anc rfl (StabL.anc rfl (StabL.anc rfl (StabL.anc rfl (StabL.anc rfl (StabL.anc rfl (StabL.anc rfl (StabL.anc rfl trivial)))))))))))))))))))), ?_⟩ ?_
 refine WT.pureOff 99 rfl rfl rfl rfl rfl ?_
 refine Tp (.bool true) rfl (PO.pickT rfl rfl rfl) rfl ?_
 refine WT.fin ?_
 obtain rfl := Option.some.inj h
 refine WQ.thenJ ?_
 exact ⟨(((hle94.trans hle99).trans hle105).trans hle110), rfl, hs79_1, hs79_2, rfl⟩
 exact WT.no
 exact WT.no
 exact WT.no
 exact WT.no
 have h := ite_f hb112 h
 refine Tn (pt g21 16) 91 rfl rfl rfl hb112 (PO.fieldAddr fo67_16 hs79_1 rfl) rfl ?_
 refine Tn v0_16 91 rfl rfl rfl hb112 (PO.loadB 2 pl65 rfl rfl rfl) rfl ?_
 refine Tn (.int .i64 a0.Kind) 91 rfl rfl rfl hb112 (PO.move hs79_3) rfl ?_
 obtain ⟨r113, hr114, h⟩ := bnd h
 refine WT.altOn 91 rfl rfl rfl hb112 (EO.call0 co61 (f_ref05_has_ok a0.Kind (120 : Int) _ r113 hr114) (args2 rfl rfl)) rfl ?_ ?_
 rintro _ M115 _ hle116 ⟨_, ⟨rfl, rfl⟩, rfl⟩
 have h0_14 := h0_14.mono hle116
 have h0_15 := h0_15.mono hle116
 have h0_16 := h0_16.mono hle116
 have h0_17 := h0_17.mono hle116
 refine ⟨(StabL.anc rfl (StabL.st (StabA.on 91 rfl rfl rfl hb112 (PO.loadB 2 pl65 rfl rfl rfl) rfl) (StabL.st (StabA.on 91 rfl rfl rfl hb112 (PO.fieldAddr fo67_16 hs79_1 rfl) rfl) (StabL.anc rfl (StabL.anc rfl (StabL.anc rfl (StabL.anc rfl (StabL.anc rfl (StabL.anc rfl (StabL.anc rfl (StabL.anc rfl (StabL.anc rfl (StabL.anc rfl (StabL.anc rfl trivial)))))))))))))), ?_⟩
 refine WT.a0 ?_
 obtain ⟨r118, hr119, h⟩ := bnd h
 refine WT.altOn 91 rfl rfl rfl hb112 (EO.call0 co63 (f_ref05_row_ok a0.Add r113 _ _ h0_16 r118 hr119) (args2 rfl rfl)) rfl ?_ ?_
 rintro _ M120 _ hle121 ⟨_, ⟨rfl, rfl⟩, rfl⟩
 have h0_14 := h0_14.mono hle121
 have h0_15 := h0_15.mono hle121
 have h0_16 := h0_16.mono hle121
 have h0_17 := h0_17.mono hle121
 refine ⟨(StabL.anc rfl (StabL.anc rfl (StabL.anc rfl (StabL.anc rfl (StabL.anc rfl (StabL.anc rfl (StabL.anc rfl (StabL.anc rfl (StabL.anc rfl (StabL.anc rfl (StabL.anc rfl (StabL.anc rfl (StabL.anc rfl (StabL.anc rfl trivial)))))))))))))), ?_⟩
 refine WT.a0 ?_
 refine Tn (.bool (!r118)) 91 rfl rfl rfl hb112 (PO.not rfl) rfl ?_
 refine Tp (.bool (!r118)) rfl (PO.pickF rfl hb112 rfl) rfl ?_
 refine Tp (.bool (!r118)) rfl (PO.move rfl) rfl ?_
 rcases Bool.eq_false_or_eq_true (!r118) with hb123 | hb123
 have h := ite_t hb123 h
 refine WT.pureOff 99 rfl rfl rfl hb123 rfl ?_
 refine WT.pureOff 99 rfl rfl rfl hb123 rfl ?_
 refine WT.pureOff 99 rfl rfl rfl hb123 rfl ?_
 refine WT.altOff 99 rfl rfl rfl hb123 rfl ⟨(StabL.anc rfl (StabL.st (StabA.off 99 rfl rfl rfl hb123 rfl) (StabL.st (StabA.off 99 rfl rfl rfl hb123 rfl) (StabL.anc rfl (StabL.anc rfl (StabL.anc rfl (StabL.anc rfl (StabL.anc rfl (StabL.anc rfl (StabL.anc rfl (StabL.anc rfl (StabL.anc rfl (StabL.anc rfl (StabL.anc rfl (StabL.anc rfl (StabL.anc rfl (StabL.anc rfl (StabL.anc rfl (StabL.anc rfl (StabL.anc rfl trivial)))))))))))))))))))), ?_⟩ ?_
 refine WT.altOff 99 rfl rfl rfl hb123 rfl ⟨(StabL.anc rfl (StabL.anc rfl (StabL.anc rfl (StabL.anc rfl (StabL.anc rfl (StabL.anc rfl (StabL.anc rfl (StabL.anc rfl (StabL.anc rfl (StabL.anc rfl (StabL.anc rfl (StabL.anc rfl (StabL.anc rfl (StabL.anc rfl (StabL.anc rfl (StabL.anc rfl (StabL.anc rfl (StabL.anc rfl (StabL.anc rfl (StabL.anc rfl trivial)))))))))))))))))))), ?_⟩ ?_
 refine WT.pureOff 99 rfl rfl rfl hb123 rfl ?_
 refine Tp (.bool true) rfl (PO.pickT rfl hb123 rfl) rfl ?_
 refine WT.fin ?_
 obtain rfl := Option.some.inj h
 refine WQ.thenJ ?_
 exact ⟨(((((hle94.trans hle99).trans hle105).trans hle110).trans hle116).trans hle121), rfl, hs79_1, hs79_2, rfl⟩
 exact WT.no
 exact WT.no
 have h := ite_f hb123 h
 refine Tn (pt g21 17) 99 rfl rfl rfl hb123 (PO.fieldAddr fo67_17 hs79_1 rfl) rfl ?_
 refine Tn v0_17 99 rfl rfl rfl hb123 (PO.loadB 2 pl65 rfl rfl rfl) rfl ?_
 refine Tn (.int .i64 a0.Kind) 99 rfl rfl rfl hb123 (PO.move hs79_3) rfl ?_
 obtain ⟨r124, hr125, h⟩ := bnd h
 refine WT.altOn 99 rfl rfl rfl hb123 (EO.call0 co61 (f_ref05_has_ok a0.Kind (120 : Int) _ r124 hr125) (args2 rfl rfl)) rfl ?_ ?_
 rintro _ M126 _ hle127 ⟨_, ⟨rfl, rfl⟩, rfl⟩
 have h0_14 := h0_14.mono hle127
 have h0_15 := h0_15.mono hle127
 have h0_16 := h0_16.mono hle127
 have h0_17 := h0_17.mono hle127
 refine ⟨(StabL.anc rfl (StabL.st (StabA.on 99 rfl rfl rfl hb123 (PO.loadB 2 pl65 rfl rfl rfl) rfl) (StabL.st (StabA.on 99 rfl rfl rfl hb123 (PO.fieldAddr fo67_17 hs79_1 rfl) rfl) (StabL.anc rfl (StabL.anc rfl (StabL.anc rfl (StabL.anc rfl (StabL.anc rfl (StabL.anc rfl (StabL.anc rfl (StabL.anc rfl (StabL.anc rfl (StabL.anc rfl (StabL.anc rfl (StabL.anc rfl (StabL.anc rfl (StabL.anc rfl (StabL.anc rfl (StabL.anc rfl (StabL.anc rfl trivial)))))))))))))))))))), ?_⟩
 refine WT.a0 ?_
 obtain ⟨r129, hr130, h⟩ := bnd h
 refine WT.altOn 99 rfl rfl rfl hb123 (EO.call0 co63 (f_ref05_row_ok a0.Drop r124 _ _ h0_17 r129 hr130) (args2 rfl rfl)) rfl ?_ ?_
 rintro _ M131 _ hle132 ⟨_, ⟨rfl, rfl⟩, rfl⟩
 have h0_14 := h0_14.mono hle132
 have h0_15 := h0_15.mono hle132
 have h0_16 := h0_16.mono hle132
 have h0_17 := h0_17.mono hle132
 refine ⟨(StabL.anc rfl (StabL.anc rfl (StabL.anc rfl (StabL.anc rfl (StabL.anc rfl (StabL.anc rfl (StabL.anc rfl (StabL.anc rfl (StabL.anc rfl (StabL.anc rfl (StabL.anc rfl (StabL.anc rfl (StabL.anc rfl (StabL.anc rfl (StabL.anc rfl (StabL.anc rfl (StabL.anc rfl (StabL.anc rfl (StabL.anc rfl (StabL.anc rfl trivial)))))))))))))))))))), ?_⟩
 refine WT.a0 ?_
 refine Tn (.bool (!r129)) 99 rfl rfl rfl hb123 (PO.not rfl) rfl ?_
 refine Tp (.bool (!r129)) rfl (PO.pickF rfl hb123 rfl) rfl ?_
 refine WT.fin ?_
 obtain rfl := Option.some.inj h
 refine WQ.thenJ ?_
 exact ⟨(((((((hle94.trans hle99).trans hle105).trans hle110).trans hle116).trans hle121).trans hle127).trans hle132), rfl, hs79_1, hs79_2, rfl⟩
 exact WT.no
 exact WT.no
 exact WT.no
 exact WT.no
 exact WT.no
 exact WT.no
 exact WT.no
 exact WT.no
 rintro ρ90 M90 H90 ⟨hle90, rfl, hs90_1, hs90_2, hs90_106⟩
 have h0_14 := h0_14.mono hle90
 have h0_15 := h0_15.mono hle90
 have h0_16 := h0_16.mono hle90
 have h0_17 := h0_17.mono hle90
 refine WC.cond (b := x89) hs90_106 (fun hb134 => ?_) (fun hb134 => ?_)
 have h := ite_t hb134 h
 refine Sr ?_
 refine Pu (pt g21 14) (PO.fieldAddr fo67_14 hs90_1 rfl) rfl ?_
 refine Pu v0_14 (PO.loadB 2 pl65 rfl rfl rfl) rfl ?_
 refine Pu (.int .i64 (a0.Ids.length : Int)) (PO.lenS Tryz.underlying65 rfl h0_14.len) rfl ?_
 refine Pu (.agg #[(.string ⟨#[114, 111, 119]⟩), (.int .i64 (a0.Ids.length : Int)), (.int .i64 18)]) (PO.buildL (cl := [(.string ⟨#[114, 111, 119]⟩), (.int .i64 (a0.Ids.length : Int)), (.int .i64 18)]) ze33 fp33 (Parts.cons (congrArg Value.cells (show ev _ _ = (.string ⟨#[114, 111, 119]⟩) from rfl)) (Parts.cons (congrArg Value.cells (show ev _ _ = (.int .i64 (a0.Ids.length : Int)) from rfl)) (Parts.cons (congrArg Value.cells (show ev _ _ = (.int .i64 18) from rfl)) Parts.nil))) rfl) rfl ?_
 refine WL.f1 ?_
 refine WL.eff (EO.storeL (v := (.agg #[(.string ⟨#[114, 111, 119]⟩), (.int .i64 (a0.Ids.length : Int)), (.int .i64 18)])) (vl := [(.string ⟨#[114, 111, 119]⟩), (.int .i64 (a0.Ids.length : Int)), (.int .i64 18)]) (arr' := [(.string ⟨#[114, 111, 119]⟩), (.int .i64 (a0.Ids.length : Int)), (.int .i64 18)]) rfl sz33 hs90_2 rfl (onesOf (Ones.cons rfl (Ones.cons rfl (Ones.cons rfl Ones.nil)))) rfl rfl rfl) rfl ?_
 rintro _ _ _ - ⟨rfl, rfl⟩
 refine Nt ?_
 refine WC.ret ?_
 refine WQ.thenR ?_
 refine WQ.f1 ?_
 refine WQ.drop ?_
 refine WQ.f1 ?_
 refine WQ.drop ?_
 exact WQ.returnsD h [] (fun _ hs => hs.drop) (resultsL1 rfl (RV.cellA (cs := [(.string ⟨#[114, 111, 119]⟩), (.int .i64 (a0.Ids.length : Int)), (.int .i64 18)]) 0 ag33 sz33 hs90_2 rfl rfl)) (((((hle24.trans hle30).trans hle35).trans hle44).trans hle79).trans hle90) ⟨rfl, rfl⟩
 have h := ite_f hb134 h
 refine WC.skip ?_
 refine WQ.thenC ?_
 refine Sr ?_
 refine Pu (.agg #[(.string ⟨#[]⟩), (.int .i64 0), (.int .i64 0)]) (PO.buildL (cl := [(.string ⟨#[]⟩), (.int .i64 0), (.int .i64 0)]) ze33 fp33 Parts.nil rfl) rfl ?_
 refine WL.f1 ?_
 refine WL.eff (EO.storeL (v := (.agg #[(.string ⟨#[]⟩), (.int .i64 0), (.int .i64 0)])) (vl := [(.string ⟨#[]⟩), (.int .i64 0), (.int .i64 0)]) (arr' := [(.string ⟨#[]⟩), (.int .i64 0), (.int .i64 0)]) rfl sz33 hs90_2 rfl (onesOf (Ones.cons rfl (Ones.cons rfl (Ones.cons rfl Ones.nil)))) rfl rfl rfl) rfl ?_
 rintro _ _ _ - ⟨rfl, rfl⟩
 refine Nt ?_
 refine WC.ret ?_
 refine WQ.f1 ?_
 refine WQ.drop ?_
 refine WQ.f1 ?_
 refine WQ.drop ?_
 exact WQ.returnsD h [] (fun _ hs => hs.drop) (resultsL1 rfl (RV.cellA (cs := [(.string ⟨#[]⟩), (.int .i64 0), (.int .i64 0)]) 0 ag33 sz33 hs90_2 rfl rfl)) (((((hle24.trans hle30).trans hle35).trans hle44).trans hle79).trans hle90) ⟨rfl, rfl⟩


end Go.Proofs.YtjiffdgidodebaaGreatDoor.G
