/- Go functions: what they come to, and that they do. Printed by a program of the session (gen). -/
import Derived.Test.YtjiffdgidodebaaDoorFF
import Derived.Test.YtjiffdgidodebaaDoorF6
import Derived.Test.YtjiffdgidodebaaDoorKShar
set_option linter.unusedVariables false
set_option linter.unusedSimpArgs false
set_option maxHeartbeats 8000000
set_option maxRecDepth 100000
namespace Go.Proofs.YtjiffdgidodebaaDoor.G
open Go Go.KK

noncomputable def f_ref02_Read (a0 : (List Int)) (a1 : T_ref02_State) (a2 : T_ref02_Ask) : Option (T_ref02_State × T_ref02_Got) :=
  (if (decide (a1.Code ≠ (0 : Int))) = true then (some (a1, (⟨(0 : Int), false, [], []⟩ : T_ref02_Got))) else (((if (decide (a2.Kind = (0 : Int))) = true then (some (decide (a2.Kind = (0 : Int)))) else (some (decide (a2.Kind = (1 : Int))))) : Option Bool).bind fun (x27 : Bool) => (if x27 = true then ((((f_ref02_above a2.Most).bind fun (r36 : Int) => ((f_ref02_num a0 a1 r36).bind fun (r42, r43) => (some (r42, r43)))) : Option (T_ref02_State × Int)).bind fun (x32, x33) => (some (x32, (⟨x33, false, [], []⟩ : T_ref02_Got)))) else (if (decide (a2.Kind = (2 : Int))) = true then (if (decide ((a0.length : Int) ≤ a1.At)) = true then ((f_ref02_bad a1 (⟨#[102, 108, 97, 103]⟩ : ByteArray) a1.At (3 : Int)).bind fun (r74 : T_ref02_State) => (some (r74, (⟨(0 : Int), false, [], []⟩ : T_ref02_Got)))) else (grd (0 ≤ a1.At ∧ a1.At < a0.length) (if (decide ((1 : Int) < (rd a0 a1.At))) = true then ((f_ref02_bad a1 (⟨#[102, 108, 97, 103]⟩ : ByteArray) a1.At (5 : Int)).bind fun (r88 : T_ref02_State) => (some (r88, (⟨(0 : Int), false, [], []⟩ : T_ref02_Got)))) else (grd (0 ≤ a1.At ∧ a1.At < a0.length) (some ((⟨IntKind.i64.wrap (a1.At + (1 : Int)), (0 : Int), (⟨#[]⟩ : ByteArray), (0 : Int)⟩ : T_ref02_State), (⟨(0 : Int), decide ((rd a0 a1.At) = (1 : Int)), [], []⟩ : T_ref02_Got))))))) else (if (decide (a2.Kind = (3 : Int))) = true then ((f_ref02_text a0 a1 a2.Most).bind fun (r103, r104) => (some (r103, (⟨(0 : Int), false, r104, []⟩ : T_ref02_Got)))) else ((f_ref02_row a0 a1 a2.Most a2.Each).bind fun (r112, r113) => (some (r112, (⟨(0 : Int), false, [], r113⟩ : T_ref02_Got)))))))))
def f_ref02_Read_post (a0 : (List Int)) (a1 : T_ref02_State) (a2 : T_ref02_Ask) (v0 : Value) : (T_ref02_State × T_ref02_Got) → Value → IM → HL → Prop :=
  fun (p_ : (T_ref02_State × T_ref02_Got)) (v : Value) (M' : IM) (H' : HL) => match p_ with | (r0, r1) => ∃ vz1_2 vz1_3 cz1_3, (.tuple #[(.agg #[(.int .i64 r0.At), (.int .i64 r0.Code), (.string r0.Op), (.int .i64 r0.Where)]), (.agg #[(.int .u64 r1.Num), (.bool r1.Flag), vz1_2, vz1_3])]) = v ∧ H' = [cz1_3] ∧ RS (Kd.int .u8) M' vz1_2 r1.Text ∧ OwnS (Kd.int .i64) M' vz1_3 r1.Row cz1_3
theorem f_ref02_Read_ok (a0 : (List Int)) (a1 : T_ref02_State) (a2 : T_ref02_Ask) (M : IM) (v0 : Value) (h0 : RS (Kd.int .u8) M v0 a0) (res : (T_ref02_State × T_ref02_Got)) (h : f_ref02_Read a0 a1 a2 = some res) :
    Tri Tryd.prog 45 #[v0, (a94_ a1), (a101_ a2)] M [] (f_ref02_Read_post a0 a1 a2 v0 res) := by
 unfold f_ref02_Read at h
 refine Tri.enter (fn := Tryd.f45) Tryd.func45 rfl (Nat.le_of_ble_eq_true rfl) ?_
 intro F ρ hρ
 refine Sr ?_
 refine WL.eff (EO.box (cs := (l94 a1).toArray) (congrArg Value.cells (asE (a94_ a1) (hρ 1)))) rfl ?_
 rintro _ _ _ - ⟨rfl, g21, rfl, rfl⟩
 refine WL.eff (EO.box (cs := (l101 a2).toArray) (congrArg Value.cells (asE (a101_ a2) (hρ 2)))) rfl ?_
 rintro _ _ _ - ⟨rfl, g22, rfl, rfl⟩
 refine WL.eff (EO.alloc ze94 rfl) rfl ?_
 rintro _ _ _ - ⟨rfl, g23, rfl, rfl⟩
 refine WL.eff (EO.alloc ze97 rfl) rfl ?_
 rintro _ _ _ - ⟨rfl, g24, rfl, rfl⟩
 refine Nt ?_
 refine WC.seq ?_
 refine Sr ?_
 refine Pu (pt g21 1) (PO.fieldAddr fo94_1 rfl rfl) rfl ?_
 refine Pu (.int .i64 a1.Code) (PO.loadB 3 pl47 rfl rfl rfl) rfl ?_
 refine Pu (.bool (decide (a1.Code ≠ 0))) (PO.neq rfl rfl) rfl ?_
 refine Nt ?_
 refine WC.cond (b := decide (a1.Code ≠ 0)) rfl (fun hb25 => ?_) (fun hb25 => ?_)
 have h := ite_t hb25 h
 refine Sr ?_
 refine Pu (a94_ a1) (PO.loadBA (cs := (l94 a1)) 3 ag94 sz94 rfl rfl rfl) rfl ?_
 refine Pu (.agg #[(.int .u64 0), (.bool false), (.slice none 0 0), (.slice none 0 0)]) (PO.buildL (cl := [(.int .u64 0), (.bool false), (.slice none 0 0), (.slice none 0 0)]) ze97 fp97 Parts.nil rfl) rfl ?_
 refine WL.f1 ?_
 refine WL.eff (EO.storeL (v := (a94_ a1)) (vl := (l94 a1)) (arr' := (l94 a1)) rfl sz94 rfl rfl (onesOf (Ones.cons rfl (Ones.cons rfl (Ones.cons rfl (Ones.cons rfl Ones.nil))))) rfl rfl rfl) rfl ?_
 rintro _ _ _ - ⟨rfl, rfl⟩
 refine WL.f1 ?_
 refine WL.eff (EO.storeL (v := (.agg #[(.int .u64 0), (.bool false), (.slice none 0 0), (.slice none 0 0)])) (vl := [(.int .u64 0), (.bool false), (.slice none 0 0), (.slice none 0 0)]) (arr' := [(.int .u64 0), (.bool false), (.slice none 0 0), (.slice none 0 0)]) rfl sz97 rfl rfl (onesOf (Ones.cons rfl (Ones.cons rfl (Ones.cons rfl (Ones.cons rfl Ones.nil))))) rfl rfl rfl) rfl ?_
 rintro _ _ _ - ⟨rfl, rfl⟩
 refine Nt ?_
 refine WC.ret ?_
 refine WQ.thenR ?_
 refine WQ.e0 ?_
 refine WQ.f3 ?_
 refine WQ.drop ?_
 refine WQ.f3 ?_
 refine WQ.drop ?_
 refine WQ.f1 ?_
 refine WQ.f2 ?_
 exact WQ.returnsD h [[]] (fun _ hs => hs.drop.drop) (resultsLN rfl (RVs.cons (RV.cellA (cs := (l94 a1)) 0 ag94 sz94 rfl rfl rfl) (RVs.cons (RV.cellA (cs := [(.int .u64 0), (.bool false), (.slice none 0 0), (.slice none 0 0)]) 1 ag97 sz97 rfl rfl rfl) RVs.nil))) (IM.le.refl _) ⟨(.slice none 0 0), (.slice none 0 0), [], rfl, rfl, RS.nil _ _, (OwnS.nil _ _)⟩
 have h := ite_f hb25 h
 refine WC.skip ?_
 refine WQ.thenC ?_
 refine WC.seq ?_
 refine Sr ?_
 refine Pu (pt g22 0) (PO.fieldAddr fo101_0 rfl rfl) rfl ?_
 refine Pu (.int .i64 a2.Kind) (PO.loadB 2 pl3 rfl rfl rfl) rfl ?_
 refine Nt ?_
 refine WC.block ?_
 obtain ⟨x27, hj28, h⟩ := bnd h
 refine WC.joinF (fun (x27 : Bool) ρ' M' H' => M.le M' ∧ [(g24, .cells #[(.int .u64 0), (.bool false), (.slice none 0 0), (.slice none 0 0)] 97 (0, 0))] :: [(g23, .cells z94_.toArray 94 (0, 0))] :: [(g22, .cells (l101 a2).toArray 101 (0, 0))] :: [(g21, .cells (l94 a1).toArray 94 (0, 0))] :: F = H' ∧ ρ' 0 = v0 ∧ ρ' 4 = (pt g21 0) ∧ ρ' 5 = (pt g22 0) ∧ ρ' 6 = (pt g23 0) ∧ ρ' 7 = (pt g24 0) ∧ ρ' 20 = (.int .i64 a2.Kind) ∧ ρ' 21 = (.bool x27)) x27 ?_ ?_
 have h328 := h
 have h := hj28
 refine Sr ?_
 refine Pu (.bool (decide (a2.Kind = 0))) (PO.eql rfl rfl) rfl ?_
 refine Pa (.bool (decide (a2.Kind = 0))) rfl rfl ?_
 refine Nt ?_
 refine WC.cond (b := decide (a2.Kind = 0)) rfl (fun hb29 => ?_) (fun hb29 => ?_)
 have h := ite_t hb29 h
 refine WC.skip ?_
 obtain rfl := Option.some.inj h
 refine WQ.thenJ ?_
 exact ⟨(IM.le.refl _), rfl, (hρ 0), rfl, rfl, rfl, rfl, rfl, rfl⟩
 have h := ite_f hb29 h
 refine WC.region ?_
 refine Pu (.bool (decide (a2.Kind = 1))) (PO.eql rfl rfl) rfl ?_
 refine Pa (.bool (decide (a2.Kind = 1))) rfl rfl ?_
 refine WL.nil ?_
 obtain rfl := Option.some.inj h
 refine WQ.thenJ ?_
 exact ⟨(IM.le.refl _), rfl, (hρ 0), rfl, rfl, rfl, rfl, rfl, rfl⟩
 rintro ρ28 M28 H28 ⟨hle28, rfl, hs28_0, hs28_4, hs28_5, hs28_6, hs28_7, hs28_20, hs28_21⟩
 have h0 := h0.mono hle28
 refine WC.cond (b := x27) hs28_21 (fun hb30 => ?_) (fun hb30 => ?_)
 have h := ite_t hb30 h
 obtain ⟨j34, hj34, h⟩ := bnd h
 refine WC.joinF (fun (p_ : (T_ref02_State × Int)) ρ' M' H' => match p_ with | (x32, x33) => ∃ g31, M28.le M' ∧ [(g24, .cells #[(.int .u64 0), (.bool false), (.slice none 0 0), (.slice none 0 0)] 97 (0, 0))] :: [(g23, .cells z94_.toArray 94 (0, 0))] :: [(g22, .cells (l101 a2).toArray 101 (0, 0))] :: [(g21, .cells (l94 a1).toArray 94 (0, 0))] :: [(g31, .cells (l94 x32).toArray 94 (0, 0))] :: F = H' ∧ ρ' 6 = (pt g23 0) ∧ ρ' 7 = (pt g24 0) ∧ ρ' 8 = (pt g31 0) ∧ ρ' 9 = (.int .u64 x33)) j34 ?_ ?_
 have h334 := h
 have h := hj34
 refine WC.draw [0, 0, 0, 4, 12, 31, 63, 127, 127, 0, 767, 2047] (.pure 0 (.pure 1 (.pure 2 (.pure 3 (.alt 4 (.alt 5 (.pure 6 (.pure 7 (.pure 8 (.alt 9 (.alt 10 (.pure 11 .done) .none) .none)))) (.alt 9 (.alt 5 (.pure 6 (.pure 7 (.pure 8 (.alt 10 (.pure 11 .done) .none)))) .none) .none)) (.alt 9 (.alt 4 (.alt 5 (.pure 6 (.pure 7 (.pure 8 (.alt 10 (.pure 11 .done) .none)))) .none) .none) .none)))))) mixed (by kernel_rfl) ?_
 refine Tp v0 rfl (PO.move hs28_0) rfl ?_
 refine Tp (a94_ a1) rfl (PO.loadBA (cs := (l94 a1)) 3 ag94 sz94 hs28_4 rfl rfl) rfl ?_
 refine Tp (pt g22 1) rfl (PO.fieldAddr fo101_1 hs28_5 rfl) rfl ?_
 refine Tp (.int .i64 a2.Most) rfl (PO.loadB 2 pl3 rfl rfl rfl) rfl ?_
 have hk35 := h
 obtain ⟨r36, hr37, h⟩ := bnd h
 refine WT.alt rfl (EO.call0 co70 (f_ref02_above_ok a2.Most _ r36 hr37) (args1 rfl)) rfl ?_ ?_
 rintro _ M38 _ hle39 ⟨_, ⟨rfl, rfl⟩, rfl⟩
 have h0 := h0.mono hle39
 refine ⟨(StabL.anc rfl (StabL.anc rfl (StabL.st (StabA.of rfl (PO.loadBA (cs := (l94 a1)) 3 ag94 sz94 hs28_4 rfl rfl) rfl) (StabL.st (StabA.of rfl (PO.move hs28_0) rfl) trivial)))), ?_⟩
 refine WT.a0 ?_
 have hk41 := h
 obtain ⟨⟨r42, r43⟩, hr44, h⟩ := bnd h
 refine WT.alt rfl (EO.call0 co69 (f_ref02_num_ok a0 a1 r36 _ _ h0 (r42, r43) hr44) (args3 rfl rfl rfl)) rfl ?_ ?_
 rintro _ M45 _ hle46 ⟨_, ⟨rfl, rfl⟩, rfl⟩
 have h0 := h0.mono hle46
 refine ⟨(StabL.anc rfl (StabL.anc rfl (StabL.anc rfl (StabL.anc rfl trivial)))), ?_⟩
 refine WT.a0 ?_
 refine Tp (.tuple #[(a94_ r42), (.int .u64 r43)]) rfl (PO.move rfl) rfl ?_
 refine Tp (a94_ r42) rfl (PO.extract rfl rfl) rfl ?_
 refine Tp (.int .u64 r43) rfl (PO.extract rfl rfl) rfl ?_
 refine WT.alt rfl (EO.alloc ze94 rfl) rfl ?_ ?_
 rintro _ _ _ - ⟨rfl, g49, rfl, rfl⟩
 refine ⟨(StabL.st (StabA.of rfl (PO.extract rfl rfl) rfl) (StabL.st (StabA.of rfl (PO.extract rfl rfl) rfl) (StabL.st (StabA.of rfl (PO.move rfl) rfl) (StabL.st (StabA.of rfl (PO.loadB 3 pl3 rfl rfl rfl) rfl) (StabL.st (StabA.of rfl (PO.fieldAddr fo101_1 hs28_5 rfl) rfl) (StabL.st (StabA.of rfl (PO.loadBA (cs := (l94 a1)) 4 ag94 sz94 hs28_4 rfl rfl) rfl) (StabL.st (StabA.of rfl (PO.move hs28_0) rfl) trivial))))))), ?_⟩
 refine WT.alt rfl (EO.storeL (v := (a94_ r42)) (vl := (l94 r42)) (arr' := (l94 r42)) rfl sz94 rfl rfl (onesOf (Ones.cons rfl (Ones.cons rfl (Ones.cons rfl (Ones.cons rfl Ones.nil))))) rfl rfl rfl) rfl ?_ ?_
 rintro _ _ _ - ⟨rfl, rfl⟩
 refine ⟨(StabL.st (StabA.of rfl (PO.extract rfl rfl) rfl) (StabL.anc rfl (StabL.anc rfl (StabL.anc rfl (StabL.anc rfl (StabL.anc rfl (StabL.anc rfl trivial))))))), ?_⟩
 refine Tp (.int .u64 r43) rfl (PO.assign rfl) rfl ?_
 refine WT.fin ?_
 refine WQ.f4 ?_
 refine WQ.f4 ?_
 refine WQ.f4 ?_
 refine WQ.f4 ?_
 obtain rfl := Option.some.inj h
 refine WQ.thenJ ?_
 exact ⟨g49, (hle39.trans hle46), rfl, hs28_6, hs28_7, rfl, rfl⟩
 exact WT.no
 exact WT.no
 have h := hk41
 refine WT.alt rfl (EO.alloc ze94 rfl) rfl ?_ ?_
 rintro _ _ _ - ⟨rfl, g50, rfl, rfl⟩
 refine ⟨(StabL.st (StabA.of rfl (PO.loadB 3 pl3 rfl rfl rfl) rfl) (StabL.st (StabA.of rfl (PO.fieldAddr fo101_1 hs28_5 rfl) rfl) (StabL.st (StabA.of rfl (PO.loadBA (cs := (l94 a1)) 4 ag94 sz94 hs28_4 rfl rfl) rfl) (StabL.st (StabA.of rfl (PO.move hs28_0) rfl) trivial)))), ?_⟩
 obtain ⟨⟨r51, r52⟩, hr53, h⟩ := bnd h
 refine WT.alt rfl (EO.call0 co69 (f_ref02_num_ok a0 a1 r36 _ _ h0 (r51, r52) hr53) (args3 rfl rfl rfl)) rfl ?_ ?_
 rintro _ M54 _ hle55 ⟨_, ⟨rfl, rfl⟩, rfl⟩
 have h0 := h0.mono hle55
 refine ⟨(StabL.anc rfl (StabL.anc rfl (StabL.anc rfl (StabL.anc rfl trivial)))), ?_⟩
 refine WT.a0 ?_
 refine Tp (.tuple #[(a94_ r51), (.int .u64 r52)]) rfl (PO.move rfl) rfl ?_
 refine Tp (a94_ r51) rfl (PO.extract rfl rfl) rfl ?_
 refine Tp (.int .u64 r52) rfl (PO.extract rfl rfl) rfl ?_
 refine WT.alt rfl (EO.storeL (v := (a94_ r51)) (vl := (l94 r51)) (arr' := (l94 r51)) rfl sz94 rfl rfl (onesOf (Ones.cons rfl (Ones.cons rfl (Ones.cons rfl (Ones.cons rfl Ones.nil))))) rfl rfl rfl) rfl ?_ ?_
 rintro _ _ _ - ⟨rfl, rfl⟩
 refine ⟨(StabL.st (StabA.of rfl (PO.extract rfl rfl) rfl) (StabL.anc rfl (StabL.anc rfl (StabL.anc rfl (StabL.anc rfl (StabL.anc rfl (StabL.anc rfl trivial))))))), ?_⟩
 refine Tp (.int .u64 r52) rfl (PO.assign rfl) rfl ?_
 refine WT.fin ?_
 refine WQ.f4 ?_
 refine WQ.f4 ?_
 refine WQ.f4 ?_
 refine WQ.f4 ?_
 obtain rfl := Option.some.inj h
 refine WQ.thenJ ?_
 exact ⟨g50, (hle39.trans hle55), rfl, hs28_6, hs28_7, rfl, rfl⟩
 exact WT.no
 exact WT.no
 exact WT.no
 have h := hk35
 refine WT.alt rfl (EO.alloc ze94 rfl) rfl ?_ ?_
 rintro _ _ _ - ⟨rfl, g58, rfl, rfl⟩
 refine ⟨(StabL.st (StabA.of rfl (PO.loadB 3 pl3 rfl rfl rfl) rfl) (StabL.st (StabA.of rfl (PO.fieldAddr fo101_1 hs28_5 rfl) rfl) (StabL.st (StabA.of rfl (PO.loadBA (cs := (l94 a1)) 4 ag94 sz94 hs28_4 rfl rfl) rfl) (StabL.st (StabA.of rfl (PO.move hs28_0) rfl) trivial)))), ?_⟩
 obtain ⟨r59, hr60, h⟩ := bnd h
 refine WT.alt rfl (EO.call0 co70 (f_ref02_above_ok a2.Most _ r59 hr60) (args1 rfl)) rfl ?_ ?_
 rintro _ M61 _ hle62 ⟨_, ⟨rfl, rfl⟩, rfl⟩
 have h0 := h0.mono hle62
 refine ⟨(StabL.anc rfl (StabL.anc rfl (StabL.st (StabA.of rfl (PO.loadBA (cs := (l94 a1)) 4 ag94 sz94 hs28_4 rfl rfl) rfl) (StabL.st (StabA.of rfl (PO.move hs28_0) rfl) trivial)))), ?_⟩
 refine WT.a0 ?_
 obtain ⟨⟨r64, r65⟩, hr66, h⟩ := bnd h
 refine WT.alt rfl (EO.call0 co69 (f_ref02_num_ok a0 a1 r59 _ _ h0 (r64, r65) hr66) (args3 rfl rfl rfl)) rfl ?_ ?_
 rintro _ M67 _ hle68 ⟨_, ⟨rfl, rfl⟩, rfl⟩
 have h0 := h0.mono hle68
 refine ⟨(StabL.anc rfl (StabL.anc rfl (StabL.anc rfl (StabL.anc rfl trivial)))), ?_⟩
 refine WT.a0 ?_
 refine Tp (.tuple #[(a94_ r64), (.int .u64 r65)]) rfl (PO.move rfl) rfl ?_
 refine Tp (a94_ r64) rfl (PO.extract rfl rfl) rfl ?_
 refine Tp (.int .u64 r65) rfl (PO.extract rfl rfl) rfl ?_
 refine WT.alt rfl (EO.storeL (v := (a94_ r64)) (vl := (l94 r64)) (arr' := (l94 r64)) rfl sz94 rfl rfl (onesOf (Ones.cons rfl (Ones.cons rfl (Ones.cons rfl (Ones.cons rfl Ones.nil))))) rfl rfl rfl) rfl ?_ ?_
 rintro _ _ _ - ⟨rfl, rfl⟩
 refine ⟨(StabL.st (StabA.of rfl (PO.extract rfl rfl) rfl) (StabL.anc rfl (StabL.anc rfl (StabL.anc rfl (StabL.anc rfl (StabL.anc rfl (StabL.anc rfl trivial))))))), ?_⟩
 refine Tp (.int .u64 r65) rfl (PO.assign rfl) rfl ?_
 refine WT.fin ?_
 refine WQ.f4 ?_
 refine WQ.f4 ?_
 refine WQ.f4 ?_
 refine WQ.f4 ?_
 obtain rfl := Option.some.inj h
 refine WQ.thenJ ?_
 exact ⟨g58, (hle62.trans hle68), rfl, hs28_6, hs28_7, rfl, rfl⟩
 exact WT.no
 exact WT.no
 exact WT.no
 exact WT.no
 obtain ⟨x32, x33⟩ := j34
 rintro ρ34 M34 H34 ⟨g31, hle34, rfl, hs34_6, hs34_7, hs34_8, hs34_9⟩
 refine Sr ?_
 refine Pu (a94_ x32) (PO.loadBA (cs := (l94 x32)) 4 ag94 sz94 hs34_8 rfl rfl) rfl ?_
 refine Pm (.int .u64 x33) hs34_9 rfl ?_
 refine Pu (.agg #[(.int .u64 x33), (.bool false), (.slice none 0 0), (.slice none 0 0)]) (PO.buildL (cl := [(.int .u64 x33), (.bool false), (.slice none 0 0), (.slice none 0 0)]) ze97 fp97 (Parts.cons (congrArg Value.cells (show ev _ _ = (.int .u64 x33) from rfl)) Parts.nil) rfl) rfl ?_
 refine WL.f1 ?_
 refine WL.eff (EO.storeL (v := (a94_ x32)) (vl := (l94 x32)) (arr' := (l94 x32)) rfl sz94 hs34_6 rfl (onesOf (Ones.cons rfl (Ones.cons rfl (Ones.cons rfl (Ones.cons rfl Ones.nil))))) rfl rfl rfl) rfl ?_
 rintro _ _ _ - ⟨rfl, rfl⟩
 refine WL.f1 ?_
 refine WL.eff (EO.storeL (v := (.agg #[(.int .u64 x33), (.bool false), (.slice none 0 0), (.slice none 0 0)])) (vl := [(.int .u64 x33), (.bool false), (.slice none 0 0), (.slice none 0 0)]) (arr' := [(.int .u64 x33), (.bool false), (.slice none 0 0), (.slice none 0 0)]) rfl sz97 hs34_7 rfl (onesOf (Ones.cons rfl (Ones.cons rfl (Ones.cons rfl (Ones.cons rfl Ones.nil))))) rfl rfl rfl) rfl ?_
 rintro _ _ _ - ⟨rfl, rfl⟩
 refine Nt ?_
 refine WC.ret ?_
 refine WQ.blockR ?_
 refine WQ.thenR ?_
 refine WQ.e0 ?_
 refine WQ.f3 ?_
 refine WQ.drop ?_
 refine WQ.f3 ?_
 refine WQ.drop ?_
 refine WQ.f3 ?_
 refine WQ.drop ?_
 refine WQ.f1 ?_
 refine WQ.f2 ?_
 exact WQ.returnsD h [[]] (fun _ hs => hs.drop.drop) (resultsLN rfl (RVs.cons (RV.cellA (cs := (l94 x32)) 0 ag94 sz94 hs34_6 rfl rfl) (RVs.cons (RV.cellA (cs := [(.int .u64 x33), (.bool false), (.slice none 0 0), (.slice none 0 0)]) 1 ag97 sz97 hs34_7 rfl rfl) RVs.nil))) (hle28.trans hle34) ⟨(.slice none 0 0), (.slice none 0 0), [], rfl, rfl, RS.nil _ _, (OwnS.nil _ _)⟩
 have h := ite_f hb30 h
 refine Sr ?_
 refine Pu (.bool (decide (a2.Kind = 2))) (PO.eql hs28_20 rfl) rfl ?_
 refine Pa (.bool (decide (a2.Kind = 2))) rfl rfl ?_
 refine Nt ?_
 refine WC.cond (b := decide (a2.Kind = 2)) rfl (fun hb72 => ?_) (fun hb72 => ?_)
 have h := ite_t hb72 h
 refine WC.seq ?_
 refine Sr ?_
 refine Pu (pt g21 0) (PO.fieldAddr fo94_0 hs28_4 rfl) rfl ?_
 refine Pu (.int .i64 a1.At) (PO.loadB 3 pl3 rfl rfl rfl) rfl ?_
 refine Pm v0 hs28_0 rfl ?_
 refine Pu (.int .i64 (a0.length : Int)) (PO.lenS Tryd.underlying26 rfl h0.len) rfl ?_
 refine Pu (.bool (decide ((a0.length : Int) ≤ a1.At))) (PO.geq rfl rfl) rfl ?_
 refine Nt ?_
 refine WC.cond (b := decide ((a0.length : Int) ≤ a1.At)) rfl (fun hb73 => ?_) (fun hb73 => ?_)
 have h := ite_t hb73 h
 refine Sr ?_
 refine Pu (a94_ a1) (PO.loadBA (cs := (l94 a1)) 3 ag94 sz94 hs28_4 rfl rfl) rfl ?_
 refine Pu (pt g21 0) (PO.fieldAddr fo94_0 hs28_4 rfl) rfl ?_
 refine Pu (.int .i64 a1.At) (PO.loadB 3 pl3 rfl rfl rfl) rfl ?_
 obtain ⟨r74, hr75, h⟩ := bnd h
 refine WL.eff (EO.call0 co71 (f_ref02_bad_ok a1 (⟨#[102, 108, 97, 103]⟩ : ByteArray) a1.At (3 : Int) _ r74 hr75) (args4 rfl rfl rfl rfl)) rfl ?_
 rintro _ M76 _ hle77 ⟨_, ⟨rfl, rfl⟩, rfl⟩
 have h0 := h0.mono hle77
 refine WL.a0 ?_
 refine Pu (.agg #[(.int .u64 0), (.bool false), (.slice none 0 0), (.slice none 0 0)]) (PO.buildL (cl := [(.int .u64 0), (.bool false), (.slice none 0 0), (.slice none 0 0)]) ze97 fp97 Parts.nil rfl) rfl ?_
 refine WL.f1 ?_
 refine WL.eff (EO.storeL (v := (a94_ r74)) (vl := (l94 r74)) (arr' := (l94 r74)) rfl sz94 hs28_6 rfl (onesOf (Ones.cons rfl (Ones.cons rfl (Ones.cons rfl (Ones.cons rfl Ones.nil))))) rfl rfl rfl) rfl ?_
 rintro _ _ _ - ⟨rfl, rfl⟩
 refine WL.f1 ?_
 refine WL.eff (EO.storeL (v := (.agg #[(.int .u64 0), (.bool false), (.slice none 0 0), (.slice none 0 0)])) (vl := [(.int .u64 0), (.bool false), (.slice none 0 0), (.slice none 0 0)]) (arr' := [(.int .u64 0), (.bool false), (.slice none 0 0), (.slice none 0 0)]) rfl sz97 hs28_7 rfl (onesOf (Ones.cons rfl (Ones.cons rfl (Ones.cons rfl (Ones.cons rfl Ones.nil))))) rfl rfl rfl) rfl ?_
 rintro _ _ _ - ⟨rfl, rfl⟩
 refine Nt ?_
 refine WC.ret ?_
 refine WQ.thenR ?_
 refine WQ.blockR ?_
 refine WQ.thenR ?_
 refine WQ.e0 ?_
 refine WQ.f3 ?_
 refine WQ.drop ?_
 refine WQ.f3 ?_
 refine WQ.drop ?_
 refine WQ.f1 ?_
 refine WQ.f2 ?_
 exact WQ.returnsD h [[]] (fun _ hs => hs.drop.drop) (resultsLN rfl (RVs.cons (RV.cellA (cs := (l94 r74)) 0 ag94 sz94 hs28_6 rfl rfl) (RVs.cons (RV.cellA (cs := [(.int .u64 0), (.bool false), (.slice none 0 0), (.slice none 0 0)]) 1 ag97 sz97 hs28_7 rfl rfl) RVs.nil))) (hle28.trans hle77) ⟨(.slice none 0 0), (.slice none 0 0), [], rfl, rfl, RS.nil _ _, (OwnS.nil _ _)⟩
 have h := ite_f hb73 h
 refine WC.skip ?_
 refine WQ.thenC ?_
 refine WC.seq ?_
 refine Sr ?_
 refine Pm v0 hs28_0 rfl ?_
 refine Pu (pt g21 0) (PO.fieldAddr fo94_0 hs28_4 rfl) rfl ?_
 refine Pu (.int .i64 a1.At) (PO.loadB 3 pl3 rfl rfl rfl) rfl ?_
 obtain ⟨hg80, h⟩ := grd_i h
 obtain ⟨p81, cs82, hat83, hrc84, hhas85⟩ := h0.at hg80.1 hg80.2 (by decide)
 obtain rfl := hrc84
 refine Pu (.pointer (some p81)) (PO.indexAddr (n := a0.length) Tryd.underlying26 sz5 rfl rfl hg80.1 hg80.2 hat83) rfl ?_
 refine Pu (.int .u8 (rd a0 a1.At)) (PO.loadM pl5 rfl (IM.has0 hhas85)) rfl ?_
 refine Pu (.bool (decide ((1 : Int) < (rd a0 a1.At)))) (PO.gtr rfl rfl) rfl ?_
 refine Nt ?_
 refine WC.cond (b := decide ((1 : Int) < (rd a0 a1.At))) rfl (fun hb87 => ?_) (fun hb87 => ?_)
 have h := ite_t hb87 h
 refine Sr ?_
 refine Pu (a94_ a1) (PO.loadBA (cs := (l94 a1)) 3 ag94 sz94 hs28_4 rfl rfl) rfl ?_
 refine Pu (pt g21 0) (PO.fieldAddr fo94_0 hs28_4 rfl) rfl ?_
 refine Pu (.int .i64 a1.At) (PO.loadB 3 pl3 rfl rfl rfl) rfl ?_
 obtain ⟨r88, hr89, h⟩ := bnd h
 refine WL.eff (EO.call0 co71 (f_ref02_bad_ok a1 (⟨#[102, 108, 97, 103]⟩ : ByteArray) a1.At (5 : Int) _ r88 hr89) (args4 rfl rfl rfl rfl)) rfl ?_
 rintro _ M90 _ hle91 ⟨_, ⟨rfl, rfl⟩, rfl⟩
 have h0 := h0.mono hle91
 refine WL.a0 ?_
 refine Pu (.agg #[(.int .u64 0), (.bool false), (.slice none 0 0), (.slice none 0 0)]) (PO.buildL (cl := [(.int .u64 0), (.bool false), (.slice none 0 0), (.slice none 0 0)]) ze97 fp97 Parts.nil rfl) rfl ?_
 refine WL.f1 ?_
 refine WL.eff (EO.storeL (v := (a94_ r88)) (vl := (l94 r88)) (arr' := (l94 r88)) rfl sz94 hs28_6 rfl (onesOf (Ones.cons rfl (Ones.cons rfl (Ones.cons rfl (Ones.cons rfl Ones.nil))))) rfl rfl rfl) rfl ?_
 rintro _ _ _ - ⟨rfl, rfl⟩
 refine WL.f1 ?_
 refine WL.eff (EO.storeL (v := (.agg #[(.int .u64 0), (.bool false), (.slice none 0 0), (.slice none 0 0)])) (vl := [(.int .u64 0), (.bool false), (.slice none 0 0), (.slice none 0 0)]) (arr' := [(.int .u64 0), (.bool false), (.slice none 0 0), (.slice none 0 0)]) rfl sz97 hs28_7 rfl (onesOf (Ones.cons rfl (Ones.cons rfl (Ones.cons rfl (Ones.cons rfl Ones.nil))))) rfl rfl rfl) rfl ?_
 rintro _ _ _ - ⟨rfl, rfl⟩
 refine Nt ?_
 refine WC.ret ?_
 refine WQ.thenR ?_
 refine WQ.blockR ?_
 refine WQ.thenR ?_
 refine WQ.e0 ?_
 refine WQ.f3 ?_
 refine WQ.drop ?_
 refine WQ.f3 ?_
 refine WQ.drop ?_
 refine WQ.f1 ?_
 refine WQ.f2 ?_
 exact WQ.returnsD h [[]] (fun _ hs => hs.drop.drop) (resultsLN rfl (RVs.cons (RV.cellA (cs := (l94 r88)) 0 ag94 sz94 hs28_6 rfl rfl) (RVs.cons (RV.cellA (cs := [(.int .u64 0), (.bool false), (.slice none 0 0), (.slice none 0 0)]) 1 ag97 sz97 hs28_7 rfl rfl) RVs.nil))) (hle28.trans hle91) ⟨(.slice none 0 0), (.slice none 0 0), [], rfl, rfl, RS.nil _ _, (OwnS.nil _ _)⟩
 have h := ite_f hb87 h
 refine WC.skip ?_
 refine WQ.thenC ?_
 refine WC.seq ?_
 refine WC.draw [0, 1, 3, 7, 0, 0, 32, 112, 240, 496, 1008, 15, 4095] (.pure 0 (.pure 1 (.pure 2 (.pure 3 (.pure 4 (.pure 5 (.pure 6 (.pure 7 (.pure 8 (.pure 9 (.pure 10 (.alt 11 (.alt 12 .done .none) .none)))))))))))) mixed (by kernel_rfl) ?_
 refine Tp (pt g21 0) rfl (PO.fieldAddr fo94_0 hs28_4 rfl) rfl ?_
 refine Tp (.int .i64 a1.At) rfl (PO.loadB 3 pl3 rfl rfl rfl) rfl ?_
 refine Tp (.int .i64 (IntKind.i64.wrap (a1.At + 1))) rfl (PO.add rfl rfl) rfl ?_
 refine Tp (.agg #[(.int .i64 (IntKind.i64.wrap (a1.At + 1))), (.int .i64 0), (.string ⟨#[]⟩), (.int .i64 0)]) rfl (PO.buildL (cl := [(.int .i64 (IntKind.i64.wrap (a1.At + 1))), (.int .i64 0), (.string ⟨#[]⟩), (.int .i64 0)]) ze94 fp94 (Parts.cons (congrArg Value.cells (show ev _ _ = (.int .i64 (IntKind.i64.wrap (a1.At + 1))) from rfl)) Parts.nil) rfl) rfl ?_
 refine Tp v0 rfl (PO.move hs28_0) rfl ?_
 refine Tp (pt g21 0) rfl (PO.fieldAddr fo94_0 hs28_4 rfl) rfl ?_
 refine Tp (.int .i64 a1.At) rfl (PO.loadB 3 pl3 rfl rfl rfl) rfl ?_
 obtain ⟨hg94, h⟩ := grd_i h
 obtain ⟨p95, cs96, hat97, hrc98, hhas99⟩ := h0.at hg94.1 hg94.2 (by decide)
 obtain rfl := hrc98
 refine Tp (.pointer (some p95)) rfl (PO.indexAddr (n := a0.length) Tryd.underlying26 sz5 rfl rfl hg94.1 hg94.2 hat97) rfl ?_
 refine Tp (.int .u8 (rd a0 a1.At)) rfl (PO.loadM pl5 rfl (IM.has0 hhas99)) rfl ?_
 refine Tp (.bool (decide ((rd a0 a1.At) = 1))) rfl (PO.eql rfl rfl) rfl ?_
 refine Tp (.agg #[(.int .u64 0), (.bool (decide ((rd a0 a1.At) = 1))), (.slice none 0 0), (.slice none 0 0)]) rfl (PO.buildL (cl := [(.int .u64 0), (.bool (decide ((rd a0 a1.At) = 1))), (.slice none 0 0), (.slice none 0 0)]) ze97 fp97 (Parts.cons (congrArg Value.cells (show ev _ _ = (.bool (decide ((rd a0 a1.At) = 1))) from rfl)) Parts.nil) rfl) rfl ?_
 refine WT.f1 ?_
 refine WT.alt rfl (EO.storeL (v := (.agg #[(.int .i64 (IntKind.i64.wrap (a1.At + 1))), (.int .i64 0), (.string ⟨#[]⟩), (.int .i64 0)])) (vl := [(.int .i64 (IntKind.i64.wrap (a1.At + 1))), (.int .i64 0), (.string ⟨#[]⟩), (.int .i64 0)]) (arr' := [(.int .i64 (IntKind.i64.wrap (a1.At + 1))), (.int .i64 0), (.string ⟨#[]⟩), (.int .i64 0)]) rfl sz94 hs28_6 rfl (onesOf (Ones.cons rfl (Ones.cons rfl (Ones.cons rfl (Ones.cons rfl Ones.nil))))) rfl rfl rfl) rfl ?_ ?_
 rintro _ _ _ - ⟨rfl, rfl⟩
 refine ⟨(StabL.st (StabA.of rfl (PO.buildL (cl := [(.int .u64 0), (.bool (decide ((rd a0 a1.At) = 1))), (.slice none 0 0), (.slice none 0 0)]) ze97 fp97 (Parts.cons (congrArg Value.cells (show ev _ _ = (.bool (decide ((rd a0 a1.At) = 1))) from rfl)) Parts.nil) rfl) rfl) (StabL.st (StabA.of rfl (PO.eql rfl rfl) rfl) (StabL.st (StabA.of rfl (PO.loadM pl5 rfl (IM.has0 hhas99)) rfl) (StabL.st (StabA.of rfl (PO.indexAddr (n := a0.length) Tryd.underlying26 sz5 rfl rfl hg94.1 hg94.2 hat97) rfl) (StabL.st (StabA.of rfl (PO.loadB 3 pl3 rfl rfl rfl) rfl) (StabL.st (StabA.of rfl (PO.fieldAddr fo94_0 hs28_4 rfl) rfl) (StabL.st (StabA.of rfl (PO.move hs28_0) rfl) (StabL.anc rfl (StabL.anc rfl (StabL.anc rfl (StabL.anc rfl trivial))))))))))), ?_⟩
 refine WT.f1 ?_
 refine WT.alt rfl (EO.storeL (v := (.agg #[(.int .u64 0), (.bool (decide ((rd a0 a1.At) = 1))), (.slice none 0 0), (.slice none 0 0)])) (vl := [(.int .u64 0), (.bool (decide ((rd a0 a1.At) = 1))), (.slice none 0 0), (.slice none 0 0)]) (arr' := [(.int .u64 0), (.bool (decide ((rd a0 a1.At) = 1))), (.slice none 0 0), (.slice none 0 0)]) rfl sz97 hs28_7 rfl (onesOf (Ones.cons rfl (Ones.cons rfl (Ones.cons rfl (Ones.cons rfl Ones.nil))))) rfl rfl rfl) rfl ?_ ?_
 rintro _ _ _ - ⟨rfl, rfl⟩
 refine ⟨(StabL.anc rfl (StabL.anc rfl (StabL.anc rfl (StabL.anc rfl (StabL.anc rfl (StabL.anc rfl (StabL.anc rfl (StabL.anc rfl (StabL.anc rfl (StabL.anc rfl (StabL.anc rfl trivial))))))))))), ?_⟩
 refine WT.fin ?_
 refine WQ.thenC ?_
 refine WC.ret ?_
 refine WQ.blockR ?_
 refine WQ.thenR ?_
 refine WQ.e0 ?_
 refine WQ.f3 ?_
 refine WQ.drop ?_
 refine WQ.f3 ?_
 refine WQ.drop ?_
 refine WQ.f1 ?_
 refine WQ.f2 ?_
 exact WQ.returnsD h [[]] (fun _ hs => hs.drop.drop) (resultsLN rfl (RVs.cons (RV.cellA (cs := [(.int .i64 (IntKind.i64.wrap (a1.At + 1))), (.int .i64 0), (.string ⟨#[]⟩), (.int .i64 0)]) 0 ag94 sz94 hs28_6 rfl rfl) (RVs.cons (RV.cellA (cs := [(.int .u64 0), (.bool (decide ((rd a0 a1.At) = 1))), (.slice none 0 0), (.slice none 0 0)]) 1 ag97 sz97 hs28_7 rfl rfl) RVs.nil))) hle28 ⟨(.slice none 0 0), (.slice none 0 0), [], rfl, rfl, RS.nil _ _, (OwnS.nil _ _)⟩
 exact WT.no
 exact WT.no
 have h := ite_f hb72 h
 refine Sr ?_
 refine Pu (.bool (decide (a2.Kind = 3))) (PO.eql hs28_20 rfl) rfl ?_
 refine Pa (.bool (decide (a2.Kind = 3))) rfl rfl ?_
 refine Nt ?_
 refine WC.cond (b := decide (a2.Kind = 3)) rfl (fun hb102 => ?_) (fun hb102 => ?_)
 have h := ite_t hb102 h
 refine Sr ?_
 refine Pm v0 hs28_0 rfl ?_
 refine Pu (a94_ a1) (PO.loadBA (cs := (l94 a1)) 3 ag94 sz94 hs28_4 rfl rfl) rfl ?_
 refine Pu (pt g22 1) (PO.fieldAddr fo101_1 hs28_5 rfl) rfl ?_
 refine Pu (.int .i64 a2.Most) (PO.loadB 2 pl3 rfl rfl rfl) rfl ?_
 obtain ⟨⟨r103, r104⟩, hr105, h⟩ := bnd h
 refine WL.eff (EO.call0 co72 (f_ref02_text_ok a0 a1 a2.Most _ _ h0 (r103, r104) hr105) (args3 rfl rfl rfl)) rfl ?_
 rintro _ M106 _ hle107 ⟨_, ⟨vq109, rfl, rfl, hq109⟩, rfl⟩
 have h0 := h0.mono hle107
 refine WL.a0 ?_
 refine Pm (.tuple #[(a94_ r103), vq109]) rfl rfl ?_
 refine Pu (a94_ r103) (PO.extract rfl rfl) rfl ?_
 refine Pu vq109 (PO.extract rfl rfl) rfl ?_
 refine WL.eff (EO.alloc ze94 rfl) rfl ?_
 rintro _ _ _ - ⟨rfl, g110, rfl, rfl⟩
 refine WL.eff (EO.storeL (v := (a94_ r103)) (vl := (l94 r103)) (arr' := (l94 r103)) rfl sz94 rfl rfl (onesOf (Ones.cons rfl (Ones.cons rfl (Ones.cons rfl (Ones.cons rfl Ones.nil))))) rfl rfl rfl) rfl ?_
 rintro _ _ _ - ⟨rfl, rfl⟩
 refine Pa vq109 rfl rfl ?_
 refine Ns ?_
 refine Pu (a94_ r103) (PO.loadBA (cs := (l94 r103)) 0 ag94 sz94 rfl rfl rfl) rfl ?_
 refine Pm vq109 rfl rfl ?_
 refine Pu (.agg #[(.int .u64 0), (.bool false), vq109, (.slice none 0 0)]) (PO.buildL (cl := [(.int .u64 0), (.bool false), vq109, (.slice none 0 0)]) ze97 fp97 (Parts.cons ((congrArg Value.cells (show ev _ _ = vq109 from rfl)).trans hq109.cells) Parts.nil) rfl) rfl ?_
 refine WL.f2 ?_
 refine WL.eff (EO.storeL (v := (a94_ r103)) (vl := (l94 r103)) (arr' := (l94 r103)) rfl sz94 hs28_6 rfl (onesOf (Ones.cons rfl (Ones.cons rfl (Ones.cons rfl (Ones.cons rfl Ones.nil))))) rfl rfl rfl) rfl ?_
 rintro _ _ _ - ⟨rfl, rfl⟩
 refine WL.f2 ?_
 refine WL.eff (EO.storeL (v := (.agg #[(.int .u64 0), (.bool false), vq109, (.slice none 0 0)])) (vl := [(.int .u64 0), (.bool false), vq109, (.slice none 0 0)]) (arr' := [(.int .u64 0), (.bool false), vq109, (.slice none 0 0)]) rfl sz97 hs28_7 rfl (onesOf (Ones.cons rfl (Ones.cons rfl (Ones.cons (RS.one hq109) (Ones.cons rfl Ones.nil))))) rfl rfl rfl) rfl ?_
 rintro _ _ _ - ⟨rfl, rfl⟩
 refine Nt ?_
 refine WC.ret ?_
 refine WQ.blockR ?_
 refine WQ.thenR ?_
 refine WQ.e0 ?_
 refine WQ.f3 ?_
 refine WQ.drop ?_
 refine WQ.f3 ?_
 refine WQ.drop ?_
 refine WQ.f3 ?_
 refine WQ.drop ?_
 refine WQ.f1 ?_
 refine WQ.f2 ?_
 exact WQ.returnsD h [[]] (fun _ hs => hs.drop.drop) (resultsLN rfl (RVs.cons (RV.cellA (cs := (l94 r103)) 0 ag94 sz94 hs28_6 rfl rfl) (RVs.cons (RV.cellA (cs := [(.int .u64 0), (.bool false), vq109, (.slice none 0 0)]) 1 ag97 sz97 hs28_7 rfl rfl) RVs.nil))) (hle28.trans hle107) ⟨vq109, (.slice none 0 0), [], rfl, rfl, hq109, (OwnS.nil _ _)⟩
 have h := ite_f hb102 h
 refine WC.skip ?_
 refine WQ.blockN ?_
 refine WQ.thenC ?_
 refine Sr ?_
 refine Pm v0 hs28_0 rfl ?_
 refine Pu (a94_ a1) (PO.loadBA (cs := (l94 a1)) 3 ag94 sz94 hs28_4 rfl rfl) rfl ?_
 refine Pu (pt g22 1) (PO.fieldAddr fo101_1 hs28_5 rfl) rfl ?_
 refine Pu (.int .i64 a2.Most) (PO.loadB 2 pl3 rfl rfl rfl) rfl ?_
 refine Pu (pt g22 2) (PO.fieldAddr fo101_2 hs28_5 rfl) rfl ?_
 refine Pu (.int .i64 a2.Each) (PO.loadB 2 pl3 rfl rfl rfl) rfl ?_
 obtain ⟨⟨r112, r113⟩, hr114, h⟩ := bnd h
 refine WL.eff (EO.call0 co73 (f_ref02_row_ok a0 a1 a2.Most a2.Each _ _ h0 (r112, r113) hr114) (args4 rfl rfl rfl rfl)) rfl ?_
 rintro _ M115 _ hle116 ⟨_, ⟨vq118, cq118, rfl, rfl, hq118⟩, rfl⟩
 have h0 := h0.mono hle116
 refine WL.a1 ?_
 refine Pm (.tuple #[(a94_ r112), vq118]) rfl rfl ?_
 refine Pu (a94_ r112) (PO.extract rfl rfl) rfl ?_
 refine Pu vq118 (PO.extract rfl rfl) rfl ?_
 refine WL.eff (EO.alloc ze94 rfl) rfl ?_
 rintro _ _ _ - ⟨rfl, g119, rfl, rfl⟩
 refine WL.eff (EO.storeL (v := (a94_ r112)) (vl := (l94 r112)) (arr' := (l94 r112)) rfl sz94 rfl rfl (onesOf (Ones.cons rfl (Ones.cons rfl (Ones.cons rfl (Ones.cons rfl Ones.nil))))) rfl rfl rfl) rfl ?_
 rintro _ _ _ - ⟨rfl, rfl⟩
 refine Pa vq118 rfl rfl ?_
 refine Ns ?_
 refine Pu (a94_ r112) (PO.loadBA (cs := (l94 r112)) 0 ag94 sz94 rfl rfl rfl) rfl ?_
 refine Pm vq118 rfl rfl ?_
 refine Pu (.agg #[(.int .u64 0), (.bool false), (.slice none 0 0), vq118]) (PO.buildL (cl := [(.int .u64 0), (.bool false), (.slice none 0 0), vq118]) ze97 fp97 (Parts.cons ((congrArg Value.cells (show ev _ _ = vq118 from rfl)).trans hq118.cells) Parts.nil) rfl) rfl ?_
 refine WL.f3 ?_
 refine WL.eff (EO.storeL (v := (a94_ r112)) (vl := (l94 r112)) (arr' := (l94 r112)) rfl sz94 hs28_6 rfl (onesOf (Ones.cons rfl (Ones.cons rfl (Ones.cons rfl (Ones.cons rfl Ones.nil))))) rfl rfl rfl) rfl ?_
 rintro _ _ _ - ⟨rfl, rfl⟩
 refine WL.f3 ?_
 refine WL.eff (EO.storeL (v := (.agg #[(.int .u64 0), (.bool false), (.slice none 0 0), vq118])) (vl := [(.int .u64 0), (.bool false), (.slice none 0 0), vq118]) (arr' := [(.int .u64 0), (.bool false), (.slice none 0 0), vq118]) rfl sz97 hs28_7 rfl (onesOf (Ones.cons rfl (Ones.cons rfl (Ones.cons rfl (Ones.cons (OwnS.one hq118) Ones.nil))))) rfl rfl rfl) rfl ?_
 rintro _ _ _ - ⟨rfl, rfl⟩
 refine Nt ?_
 refine WC.ret ?_
 refine WQ.f2 ?_
 refine WQ.drop ?_
 refine WQ.f3 ?_
 refine WQ.drop ?_
 refine WQ.f3 ?_
 refine WQ.drop ?_
 refine WQ.f2 ?_
 refine WQ.f1 ?_
 refine WQ.f2 ?_
 exact WQ.returnsD h [cq118] (fun _ hs => hs.drop.drop) (resultsLN rfl (RVs.cons (RV.cellA (cs := (l94 r112)) 0 ag94 sz94 hs28_6 rfl rfl) (RVs.cons (RV.cellA (cs := [(.int .u64 0), (.bool false), (.slice none 0 0), vq118]) 1 ag97 sz97 hs28_7 rfl rfl) RVs.nil))) (hle28.trans hle116) ⟨(.slice none 0 0), vq118, cq118, rfl, rfl, RS.nil _ _, hq118⟩


end Go.Proofs.YtjiffdgidodebaaDoor.G
