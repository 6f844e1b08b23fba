/- Go functions: what they come to, and that they do. Printed by a program of the session (gen). -/
import Derived.Test.YtdlilclopmhiaaaDoorWF
import Derived.Test.YtdlilclopmhiaaaDoorW8
set_option linter.unusedVariables false
set_option linter.unusedSimpArgs false
namespace Go.Proofs.YtdlilclopmhiaaaDoor.G
open Go Go.KK

noncomputable def f_ref02_Read (a0 : (List Int)) (a1 : T_ref02_State) (a2 : T_ref02_Ask) : Option (T_ref02_State × T_ref02_Got) :=
  (if (decide (a1.Code ≠ (0 : Int))) = true then (some (a1, (⟨(0 : Int), false, [], []⟩ : T_ref02_Got))) else (((if (decide (a2.Kind = (0 : Int))) = true then (some (decide (a2.Kind = (0 : Int)))) else (some (decide (a2.Kind = (1 : Int))))) : Option Bool).bind fun (x27 : Bool) => (if x27 = true then ((((f_ref02_above a2.Most).bind fun (r36 : Int) => ((f_ref02_num a0 a1 r36).bind fun (r42, r43) => (some (r42, r43)))) : Option (T_ref02_State × Int)).bind fun (x32, x33) => (some (x32, (⟨x33, false, [], []⟩ : T_ref02_Got)))) else (if (decide (a2.Kind = (2 : Int))) = true then (if (decide ((a0.length : Int) ≤ a1.At)) = true then ((f_ref02_bad a1 (⟨#[102, 108, 97, 103]⟩ : ByteArray) a1.At (3 : Int)).bind fun (r74 : T_ref02_State) => (some (r74, (⟨(0 : Int), false, [], []⟩ : T_ref02_Got)))) else (grd (0 ≤ a1.At ∧ a1.At < a0.length) (if (decide ((1 : Int) < (rd a0 a1.At))) = true then ((f_ref02_bad a1 (⟨#[102, 108, 97, 103]⟩ : ByteArray) a1.At (5 : Int)).bind fun (r88 : T_ref02_State) => (some (r88, (⟨(0 : Int), false, [], []⟩ : T_ref02_Got)))) else (grd (0 ≤ a1.At ∧ a1.At < a0.length) (some ((⟨IntKind.i64.wrap (a1.At + (1 : Int)), (0 : Int), (⟨#[]⟩ : ByteArray), (0 : Int)⟩ : T_ref02_State), (⟨(0 : Int), decide ((rd a0 a1.At) = (1 : Int)), [], []⟩ : T_ref02_Got))))))) else (if (decide (a2.Kind = (3 : Int))) = true then ((f_ref02_text a0 a1 a2.Most).bind fun (r103, r104) => (some (r103, (⟨(0 : Int), false, r104, []⟩ : T_ref02_Got)))) else ((f_ref02_row a0 a1 a2.Most a2.Each).bind fun (r112, r113) => (some (r112, (⟨(0 : Int), false, [], r113⟩ : T_ref02_Got)))))))))
def f_ref02_Read_post (a0 : (List Int)) (a1 : T_ref02_State) (a2 : T_ref02_Ask) (v0 : Value) : (T_ref02_State × T_ref02_Got) → Value → IM → HL → Prop :=
  fun (p_ : (T_ref02_State × T_ref02_Got)) (v : Value) (M' : IM) (H' : HL) => match p_ with | (r0, r1) => ∃ vz1_2 vz1_3 cz1_3, (.tuple #[(.agg #[(.int .i64 r0.At), (.int .i64 r0.Code), (.string r0.Op), (.int .i64 r0.Where)]), (.agg #[(.int .u64 r1.Num), (.bool r1.Flag), vz1_2, vz1_3])]) = v ∧ H' = [cz1_3] ∧ RS (Kd.int .u8) M' vz1_2 r1.Text ∧ OwnS (Kd.int .i64) M' vz1_3 r1.Row cz1_3
set_option maxHeartbeats 8000000 in
set_option maxRecDepth 100000 in
theorem f_ref02_Read_ok (a0 : (List Int)) (a1 : T_ref02_State) (a2 : T_ref02_Ask) (M : IM) (v0 : Value) (h0 : RS (Kd.int .u8) M v0 a0) (res : (T_ref02_State × T_ref02_Got)) (h : f_ref02_Read a0 a1 a2 = some res) :
    Tri Tryd.prog 34 #[v0, (.agg #[(.int .i64 a1.At), (.int .i64 a1.Code), (.string a1.Op), (.int .i64 a1.Where)]), (.agg #[(.int .i64 a2.Kind), (.int .i64 a2.Most), (.int .i64 a2.Each)])] M [] (f_ref02_Read_post a0 a1 a2 v0 res) := by
 unfold f_ref02_Read at h
 refine Tri.enter (fn := Tryd.f34) Tryd.func34 rfl (Nat.le_of_ble_eq_true rfl) ?_
 intro F ρ hρ
 refine Sr ?_
 refine WL.eff (EO.box (cs := #[(.int .i64 a1.At), (.int .i64 a1.Code), (.string a1.Op), (.int .i64 a1.Where)]) (congrArg Value.cells (asE (.agg #[(.int .i64 a1.At), (.int .i64 a1.Code), (.string a1.Op), (.int .i64 a1.Where)]) (hρ 1)))) rfl ?_
 rintro _ _ _ - ⟨rfl, g21, rfl, rfl⟩
 refine WL.eff (EO.box (cs := #[(.int .i64 a2.Kind), (.int .i64 a2.Most), (.int .i64 a2.Each)]) (congrArg Value.cells (asE (.agg #[(.int .i64 a2.Kind), (.int .i64 a2.Most), (.int .i64 a2.Each)]) (hρ 2)))) rfl ?_
 rintro _ _ _ - ⟨rfl, g22, rfl, rfl⟩
 refine WL.eff (EO.alloc ze63 rfl) rfl ?_
 rintro _ _ _ - ⟨rfl, g23, rfl, rfl⟩
 refine WL.eff (EO.alloc ze52 rfl) rfl ?_
 rintro _ _ _ - ⟨rfl, g24, rfl, rfl⟩
 refine Nt ?_
 refine WC.seq ?_
 refine Sr ?_
 refine Pu (.pointer (some ⟨g21, 1, none⟩)) (PO.fieldAddr fo63_1 rfl rfl) rfl ?_
 refine Pu (.int .i64 a1.Code) (PO.loadB 3 pl56 rfl rfl rfl) rfl ?_
 refine Pu (.bool (decide (a1.Code ≠ (0 : Int)))) (PO.neq rfl rfl) rfl ?_
 refine Nt ?_
 refine WC.cond (b := decide (a1.Code ≠ (0 : Int))) rfl (fun hb25 => ?_) (fun hb25 => ?_)
 have h := ite_t hb25 h
 refine Sr ?_
 refine Pu (.agg #[(.int .i64 a1.At), (.int .i64 a1.Code), (.string a1.Op), (.int .i64 a1.Where)]) (PO.loadBA (cs := [(.int .i64 a1.At), (.int .i64 a1.Code), (.string a1.Op), (.int .i64 a1.Where)]) 3 ag63 sz63 rfl rfl rfl) rfl ?_
 refine Pu (.agg #[(.int .u64 (0 : Int)), (.bool false), (.slice none 0 0), (.slice none 0 0)]) (PO.buildL (cl := [(.int .u64 (0 : Int)), (.bool false), (.slice none 0 0), (.slice none 0 0)]) ze52 fp52 Parts.nil rfl) rfl ?_
 refine WL.f1 ?_
 refine WL.eff (EO.storeL (v := (.agg #[(.int .i64 a1.At), (.int .i64 a1.Code), (.string a1.Op), (.int .i64 a1.Where)])) (vl := [(.int .i64 a1.At), (.int .i64 a1.Code), (.string a1.Op), (.int .i64 a1.Where)]) (arr' := [(.int .i64 a1.At), (.int .i64 a1.Code), (.string a1.Op), (.int .i64 a1.Where)]) rfl sz63 rfl rfl (onesOf (Ones.cons rfl (Ones.cons rfl (Ones.cons rfl (Ones.cons rfl Ones.nil))))) rfl rfl rfl) rfl ?_
 rintro _ _ _ - ⟨rfl, rfl⟩
 refine WL.f1 ?_
 refine WL.eff (EO.storeL (v := (.agg #[(.int .u64 (0 : Int)), (.bool false), (.slice none 0 0), (.slice none 0 0)])) (vl := [(.int .u64 (0 : Int)), (.bool false), (.slice none 0 0), (.slice none 0 0)]) (arr' := [(.int .u64 (0 : Int)), (.bool false), (.slice none 0 0), (.slice none 0 0)]) rfl sz52 rfl rfl (onesOf (Ones.cons rfl (Ones.cons rfl (Ones.cons rfl (Ones.cons rfl Ones.nil))))) rfl rfl rfl) rfl ?_
 rintro _ _ _ - ⟨rfl, rfl⟩
 refine Nt ?_
 refine WC.ret ?_
 refine WQ.thenR ?_
 refine WQ.e0 ?_
 refine WQ.f3 ?_
 refine WQ.drop ?_
 refine WQ.f3 ?_
 refine WQ.drop ?_
 refine WQ.f1 ?_
 refine WQ.f2 ?_
 exact WQ.returnsD h [[]] (fun _ hs => hs.drop.drop) (resultsLN rfl (RVs.cons (RV.cellA (cs := [(.int .i64 a1.At), (.int .i64 a1.Code), (.string a1.Op), (.int .i64 a1.Where)]) 0 ag63 sz63 rfl rfl rfl) (RVs.cons (RV.cellA (cs := [(.int .u64 (0 : Int)), (.bool false), (.slice none 0 0), (.slice none 0 0)]) 1 ag52 sz52 rfl rfl rfl) RVs.nil))) (IM.le.refl _) ⟨(.slice none 0 0), (.slice none 0 0), [], rfl, rfl, RS.nil _ _, (OwnS.nil _ _)⟩
 have h := ite_f hb25 h
 refine WC.skip ?_
 refine WQ.thenC ?_
 refine WC.seq ?_
 refine Sr ?_
 refine Pu (.pointer (some ⟨g22, 0, none⟩)) (PO.fieldAddr fo55_0 rfl rfl) rfl ?_
 refine Pu (.int .i64 a2.Kind) (PO.loadB 2 pl3 rfl rfl rfl) rfl ?_
 refine Nt ?_
 refine WC.block ?_
 obtain ⟨x27, hj28, h⟩ := bnd h
 refine WC.joinF (fun (x27 : Bool) ρ' M' H' => M.le M' ∧ [(g24, .cells #[(.int .u64 (0 : Int)), (.bool false), (.slice none 0 0), (.slice none 0 0)] 52 (0, 0))] :: [(g23, .cells #[(.int .i64 (0 : Int)), (.int .i64 (0 : Int)), (.string (⟨#[]⟩ : ByteArray)), (.int .i64 (0 : Int))] 63 (0, 0))] :: [(g22, .cells #[(.int .i64 a2.Kind), (.int .i64 a2.Most), (.int .i64 a2.Each)] 55 (0, 0))] :: [(g21, .cells #[(.int .i64 a1.At), (.int .i64 a1.Code), (.string a1.Op), (.int .i64 a1.Where)] 63 (0, 0))] :: F = H' ∧ ρ' 0 = v0 ∧ ρ' 4 = (.pointer (some ⟨g21, 0, none⟩)) ∧ ρ' 5 = (.pointer (some ⟨g22, 0, none⟩)) ∧ ρ' 6 = (.pointer (some ⟨g23, 0, none⟩)) ∧ ρ' 7 = (.pointer (some ⟨g24, 0, none⟩)) ∧ ρ' 20 = (.int .i64 a2.Kind) ∧ ρ' 21 = (.bool x27)) x27 ?_ ?_
 have h328 := h
 have h := hj28
 refine Sr ?_
 refine Pu (.bool (decide (a2.Kind = (0 : Int)))) (PO.eql rfl rfl) rfl ?_
 refine Pa (.bool (decide (a2.Kind = (0 : Int)))) rfl rfl ?_
 refine Nt ?_
 refine WC.cond (b := decide (a2.Kind = (0 : Int))) rfl (fun hb29 => ?_) (fun hb29 => ?_)
 have h := ite_t hb29 h
 refine WC.skip ?_
 obtain rfl := Option.some.inj h
 refine WQ.thenJ ?_
 exact ⟨(IM.le.refl _), rfl, (hρ 0), rfl, rfl, rfl, rfl, rfl, rfl⟩
 have h := ite_f hb29 h
 refine WC.region ?_
 refine Pu (.bool (decide (a2.Kind = (1 : Int)))) (PO.eql rfl rfl) rfl ?_
 refine Pa (.bool (decide (a2.Kind = (1 : Int)))) rfl rfl ?_
 refine WL.nil ?_
 obtain rfl := Option.some.inj h
 refine WQ.thenJ ?_
 exact ⟨(IM.le.refl _), rfl, (hρ 0), rfl, rfl, rfl, rfl, rfl, rfl⟩
 rintro ρ28 M28 H28 ⟨hle28, rfl, hs28_0, hs28_4, hs28_5, hs28_6, hs28_7, hs28_20, hs28_21⟩
 have h0 := h0.mono hle28
 refine WC.cond (b := x27) hs28_21 (fun hb30 => ?_) (fun hb30 => ?_)
 have h := ite_t hb30 h
 obtain ⟨j34, hj34, h⟩ := bnd h
 refine WC.joinF (fun (p_ : (T_ref02_State × Int)) ρ' M' H' => match p_ with | (x32, x33) => ∃ g31, M28.le M' ∧ [(g24, .cells #[(.int .u64 (0 : Int)), (.bool false), (.slice none 0 0), (.slice none 0 0)] 52 (0, 0))] :: [(g23, .cells #[(.int .i64 (0 : Int)), (.int .i64 (0 : Int)), (.string (⟨#[]⟩ : ByteArray)), (.int .i64 (0 : Int))] 63 (0, 0))] :: [(g22, .cells #[(.int .i64 a2.Kind), (.int .i64 a2.Most), (.int .i64 a2.Each)] 55 (0, 0))] :: [(g21, .cells #[(.int .i64 a1.At), (.int .i64 a1.Code), (.string a1.Op), (.int .i64 a1.Where)] 63 (0, 0))] :: [(g31, .cells #[(.int .i64 x32.At), (.int .i64 x32.Code), (.string x32.Op), (.int .i64 x32.Where)] 63 (0, 0))] :: F = H' ∧ ρ' 6 = (.pointer (some ⟨g23, 0, none⟩)) ∧ ρ' 7 = (.pointer (some ⟨g24, 0, none⟩)) ∧ ρ' 8 = (.pointer (some ⟨g31, 0, none⟩)) ∧ ρ' 9 = (.int .u64 x33)) j34 ?_ ?_
 have h334 := h
 have h := hj34
 refine WC.draw [0, 0, 0, 4, 12, 31, 63, 127, 127, 0, 767, 2047] (.pure 0 (.pure 1 (.pure 2 (.pure 3 (.alt 4 (.alt 5 (.pure 6 (.pure 7 (.pure 8 (.alt 9 (.alt 10 (.pure 11 .done) .none) .none)))) (.alt 9 (.alt 5 (.pure 6 (.pure 7 (.pure 8 (.alt 10 (.pure 11 .done) .none)))) .none) .none)) (.alt 9 (.alt 4 (.alt 5 (.pure 6 (.pure 7 (.pure 8 (.alt 10 (.pure 11 .done) .none)))) .none) .none) .none)))))) mixed (by kernel_rfl) ?_
 refine Tp v0 rfl (PO.move hs28_0) rfl ?_
 refine Tp (.agg #[(.int .i64 a1.At), (.int .i64 a1.Code), (.string a1.Op), (.int .i64 a1.Where)]) rfl (PO.loadBA (cs := [(.int .i64 a1.At), (.int .i64 a1.Code), (.string a1.Op), (.int .i64 a1.Where)]) 3 ag63 sz63 hs28_4 rfl rfl) rfl ?_
 refine Tp (.pointer (some ⟨g22, 1, none⟩)) rfl (PO.fieldAddr fo55_1 hs28_5 rfl) rfl ?_
 refine Tp (.int .i64 a2.Most) rfl (PO.loadB 2 pl3 rfl rfl rfl) rfl ?_
 have hk35 := h
 obtain ⟨r36, hr37, h⟩ := bnd h
 refine WT.alt rfl (EO.call0 co44 (f_ref02_above_ok a2.Most _ r36 hr37) (args1 rfl)) rfl ?_ ?_
 rintro _ M38 _ hle39 ⟨_, ⟨rfl, rfl⟩, rfl⟩
 have h0 := h0.mono hle39
 refine ⟨(StabL.anc rfl (StabL.anc rfl (StabL.st (StabA.of rfl (PO.loadBA (cs := [(.int .i64 a1.At), (.int .i64 a1.Code), (.string a1.Op), (.int .i64 a1.Where)]) 3 ag63 sz63 hs28_4 rfl rfl) rfl) (StabL.st (StabA.of rfl (PO.move hs28_0) rfl) trivial)))), ?_⟩
 refine WT.a0 ?_
 have hk41 := h
 obtain ⟨⟨r42, r43⟩, hr44, h⟩ := bnd h
 refine WT.alt rfl (EO.call0 co43 (f_ref02_num_ok a0 a1 r36 _ _ h0 (r42, r43) hr44) (args3 rfl rfl rfl)) rfl ?_ ?_
 rintro _ M45 _ hle46 ⟨_, ⟨rfl, rfl⟩, rfl⟩
 have h0 := h0.mono hle46
 refine ⟨(StabL.anc rfl (StabL.anc rfl (StabL.anc rfl (StabL.anc rfl trivial)))), ?_⟩
 refine WT.a0 ?_
 refine Tp (.tuple #[(.agg #[(.int .i64 r42.At), (.int .i64 r42.Code), (.string r42.Op), (.int .i64 r42.Where)]), (.int .u64 r43)]) rfl (PO.move rfl) rfl ?_
 refine Tp (.agg #[(.int .i64 r42.At), (.int .i64 r42.Code), (.string r42.Op), (.int .i64 r42.Where)]) rfl (PO.extract rfl rfl) rfl ?_
 refine Tp (.int .u64 r43) rfl (PO.extract rfl rfl) rfl ?_
 refine WT.alt rfl (EO.alloc ze63 rfl) rfl ?_ ?_
 rintro _ _ _ - ⟨rfl, g49, rfl, rfl⟩
 refine ⟨(StabL.st (StabA.of rfl (PO.extract rfl rfl) rfl) (StabL.st (StabA.of rfl (PO.extract rfl rfl) rfl) (StabL.st (StabA.of rfl (PO.move rfl) rfl) (StabL.st (StabA.of rfl (PO.loadB 3 pl3 rfl rfl rfl) rfl) (StabL.st (StabA.of rfl (PO.fieldAddr fo55_1 hs28_5 rfl) rfl) (StabL.st (StabA.of rfl (PO.loadBA (cs := [(.int .i64 a1.At), (.int .i64 a1.Code), (.string a1.Op), (.int .i64 a1.Where)]) 4 ag63 sz63 hs28_4 rfl rfl) rfl) (StabL.st (StabA.of rfl (PO.move hs28_0) rfl) trivial))))))), ?_⟩
 refine WT.alt rfl (EO.storeL (v := (.agg #[(.int .i64 r42.At), (.int .i64 r42.Code), (.string r42.Op), (.int .i64 r42.Where)])) (vl := [(.int .i64 r42.At), (.int .i64 r42.Code), (.string r42.Op), (.int .i64 r42.Where)]) (arr' := [(.int .i64 r42.At), (.int .i64 r42.Code), (.string r42.Op), (.int .i64 r42.Where)]) rfl sz63 rfl rfl (onesOf (Ones.cons rfl (Ones.cons rfl (Ones.cons rfl (Ones.cons rfl Ones.nil))))) rfl rfl rfl) rfl ?_ ?_
 rintro _ _ _ - ⟨rfl, rfl⟩
 refine ⟨(StabL.st (StabA.of rfl (PO.extract rfl rfl) rfl) (StabL.anc rfl (StabL.anc rfl (StabL.anc rfl (StabL.anc rfl (StabL.anc rfl (StabL.anc rfl trivial))))))), ?_⟩
 refine Tp (.int .u64 r43) rfl (PO.assign rfl) rfl ?_
 refine WT.fin ?_
 refine WQ.f4 ?_
 refine WQ.f4 ?_
 refine WQ.f4 ?_
 refine WQ.f4 ?_
 obtain rfl := Option.some.inj h
 refine WQ.thenJ ?_
 exact ⟨g49, (hle39.trans hle46), rfl, hs28_6, hs28_7, rfl, rfl⟩
 exact WT.no
 exact WT.no
 have h := hk41
 refine WT.alt rfl (EO.alloc ze63 rfl) rfl ?_ ?_
 rintro _ _ _ - ⟨rfl, g50, rfl, rfl⟩
 refine ⟨(StabL.st (StabA.of rfl (PO.loadB 3 pl3 rfl rfl rfl) rfl) (StabL.st (StabA.of rfl (PO.fieldAddr fo55_1 hs28_5 rfl) rfl) (StabL.st (StabA.of rfl (PO.loadBA (cs := [(.int .i64 a1.At), (.int .i64 a1.Code), (.string a1.Op), (.int .i64 a1.Where)]) 4 ag63 sz63 hs28_4 rfl rfl) rfl) (StabL.st (StabA.of rfl (PO.move hs28_0) rfl) trivial)))), ?_⟩
 obtain ⟨⟨r51, r52⟩, hr53, h⟩ := bnd h
 refine WT.alt rfl (EO.call0 co43 (f_ref02_num_ok a0 a1 r36 _ _ h0 (r51, r52) hr53) (args3 rfl rfl rfl)) rfl ?_ ?_
 rintro _ M54 _ hle55 ⟨_, ⟨rfl, rfl⟩, rfl⟩
 have h0 := h0.mono hle55
 refine ⟨(StabL.anc rfl (StabL.anc rfl (StabL.anc rfl (StabL.anc rfl trivial)))), ?_⟩
 refine WT.a0 ?_
 refine Tp (.tuple #[(.agg #[(.int .i64 r51.At), (.int .i64 r51.Code), (.string r51.Op), (.int .i64 r51.Where)]), (.int .u64 r52)]) rfl (PO.move rfl) rfl ?_
 refine Tp (.agg #[(.int .i64 r51.At), (.int .i64 r51.Code), (.string r51.Op), (.int .i64 r51.Where)]) rfl (PO.extract rfl rfl) rfl ?_
 refine Tp (.int .u64 r52) rfl (PO.extract rfl rfl) rfl ?_
 refine WT.alt rfl (EO.storeL (v := (.agg #[(.int .i64 r51.At), (.int .i64 r51.Code), (.string r51.Op), (.int .i64 r51.Where)])) (vl := [(.int .i64 r51.At), (.int .i64 r51.Code), (.string r51.Op), (.int .i64 r51.Where)]) (arr' := [(.int .i64 r51.At), (.int .i64 r51.Code), (.string r51.Op), (.int .i64 r51.Where)]) rfl sz63 rfl rfl (onesOf (Ones.cons rfl (Ones.cons rfl (Ones.cons rfl (Ones.cons rfl Ones.nil))))) rfl rfl rfl) rfl ?_ ?_
 rintro _ _ _ - ⟨rfl, rfl⟩
 refine ⟨(StabL.st (StabA.of rfl (PO.extract rfl rfl) rfl) (StabL.anc rfl (StabL.anc rfl (StabL.anc rfl (StabL.anc rfl (StabL.anc rfl (StabL.anc rfl trivial))))))), ?_⟩
 refine Tp (.int .u64 r52) rfl (PO.assign rfl) rfl ?_
 refine WT.fin ?_
 refine WQ.f4 ?_
 refine WQ.f4 ?_
 refine WQ.f4 ?_
 refine WQ.f4 ?_
 obtain rfl := Option.some.inj h
 refine WQ.thenJ ?_
 exact ⟨g50, (hle39.trans hle55), rfl, hs28_6, hs28_7, rfl, rfl⟩
 exact WT.no
 exact WT.no
 exact WT.no
 have h := hk35
 refine WT.alt rfl (EO.alloc ze63 rfl) rfl ?_ ?_
 rintro _ _ _ - ⟨rfl, g58, rfl, rfl⟩
 refine ⟨(StabL.st (StabA.of rfl (PO.loadB 3 pl3 rfl rfl rfl) rfl) (StabL.st (StabA.of rfl (PO.fieldAddr fo55_1 hs28_5 rfl) rfl) (StabL.st (StabA.of rfl (PO.loadBA (cs := [(.int .i64 a1.At), (.int .i64 a1.Code), (.string a1.Op), (.int .i64 a1.Where)]) 4 ag63 sz63 hs28_4 rfl rfl) rfl) (StabL.st (StabA.of rfl (PO.move hs28_0) rfl) trivial)))), ?_⟩
 obtain ⟨r59, hr60, h⟩ := bnd h
 refine WT.alt rfl (EO.call0 co44 (f_ref02_above_ok a2.Most _ r59 hr60) (args1 rfl)) rfl ?_ ?_
 rintro _ M61 _ hle62 ⟨_, ⟨rfl, rfl⟩, rfl⟩
 have h0 := h0.mono hle62
 refine ⟨(StabL.anc rfl (StabL.anc rfl (StabL.st (StabA.of rfl (PO.loadBA (cs := [(.int .i64 a1.At), (.int .i64 a1.Code), (.string a1.Op), (.int .i64 a1.Where)]) 4 ag63 sz63 hs28_4 rfl rfl) rfl) (StabL.st (StabA.of rfl (PO.move hs28_0) rfl) trivial)))), ?_⟩
 refine WT.a0 ?_
 obtain ⟨⟨r64, r65⟩, hr66, h⟩ := bnd h
 refine WT.alt rfl (EO.call0 co43 (f_ref02_num_ok a0 a1 r59 _ _ h0 (r64, r65) hr66) (args3 rfl rfl rfl)) rfl ?_ ?_
 rintro _ M67 _ hle68 ⟨_, ⟨rfl, rfl⟩, rfl⟩
 have h0 := h0.mono hle68
 refine ⟨(StabL.anc rfl (StabL.anc rfl (StabL.anc rfl (StabL.anc rfl trivial)))), ?_⟩
 refine WT.a0 ?_
 refine Tp (.tuple #[(.agg #[(.int .i64 r64.At), (.int .i64 r64.Code), (.string r64.Op), (.int .i64 r64.Where)]), (.int .u64 r65)]) rfl (PO.move rfl) rfl ?_
 refine Tp (.agg #[(.int .i64 r64.At), (.int .i64 r64.Code), (.string r64.Op), (.int .i64 r64.Where)]) rfl (PO.extract rfl rfl) rfl ?_
 refine Tp (.int .u64 r65) rfl (PO.extract rfl rfl) rfl ?_
 refine WT.alt rfl (EO.storeL (v := (.agg #[(.int .i64 r64.At), (.int .i64 r64.Code), (.string r64.Op), (.int .i64 r64.Where)])) (vl := [(.int .i64 r64.At), (.int .i64 r64.Code), (.string r64.Op), (.int .i64 r64.Where)]) (arr' := [(.int .i64 r64.At), (.int .i64 r64.Code), (.string r64.Op), (.int .i64 r64.Where)]) rfl sz63 rfl rfl (onesOf (Ones.cons rfl (Ones.cons rfl (Ones.cons rfl (Ones.cons rfl Ones.nil))))) rfl rfl rfl) rfl ?_ ?_
 rintro _ _ _ - ⟨rfl, rfl⟩
 refine ⟨(StabL.st (StabA.of rfl (PO.extract rfl rfl) rfl) (StabL.anc rfl (StabL.anc rfl (StabL.anc rfl (StabL.anc rfl (StabL.anc rfl (StabL.anc rfl trivial))))))), ?_⟩
 refine Tp (.int .u64 r65) rfl (PO.assign rfl) rfl ?_
 refine WT.fin ?_
 refine WQ.f4 ?_
 refine WQ.f4 ?_
 refine WQ.f4 ?_
 refine WQ.f4 ?_
 obtain rfl := Option.some.inj h
 refine WQ.thenJ ?_
 exact ⟨g58, (hle62.trans hle68), rfl, hs28_6, hs28_7, rfl, rfl⟩
 exact WT.no
 exact WT.no
 exact WT.no
 exact WT.no
 obtain ⟨x32, x33⟩ := j34
 rintro ρ34 M34 H34 ⟨g31, hle34, rfl, hs34_6, hs34_7, hs34_8, hs34_9⟩
 refine Sr ?_
 refine Pu (.agg #[(.int .i64 x32.At), (.int .i64 x32.Code), (.string x32.Op), (.int .i64 x32.Where)]) (PO.loadBA (cs := [(.int .i64 x32.At), (.int .i64 x32.Code), (.string x32.Op), (.int .i64 x32.Where)]) 4 ag63 sz63 hs34_8 rfl rfl) rfl ?_
 refine Pm (.int .u64 x33) hs34_9 rfl ?_
 refine Pu (.agg #[(.int .u64 x33), (.bool false), (.slice none 0 0), (.slice none 0 0)]) (PO.buildL (cl := [(.int .u64 x33), (.bool false), (.slice none 0 0), (.slice none 0 0)]) ze52 fp52 (Parts.cons (congrArg Value.cells (show ev _ _ = (.int .u64 x33) from rfl)) Parts.nil) rfl) rfl ?_
 refine WL.f1 ?_
 refine WL.eff (EO.storeL (v := (.agg #[(.int .i64 x32.At), (.int .i64 x32.Code), (.string x32.Op), (.int .i64 x32.Where)])) (vl := [(.int .i64 x32.At), (.int .i64 x32.Code), (.string x32.Op), (.int .i64 x32.Where)]) (arr' := [(.int .i64 x32.At), (.int .i64 x32.Code), (.string x32.Op), (.int .i64 x32.Where)]) rfl sz63 hs34_6 rfl (onesOf (Ones.cons rfl (Ones.cons rfl (Ones.cons rfl (Ones.cons rfl Ones.nil))))) rfl rfl rfl) rfl ?_
 rintro _ _ _ - ⟨rfl, rfl⟩
 refine WL.f1 ?_
 refine WL.eff (EO.storeL (v := (.agg #[(.int .u64 x33), (.bool false), (.slice none 0 0), (.slice none 0 0)])) (vl := [(.int .u64 x33), (.bool false), (.slice none 0 0), (.slice none 0 0)]) (arr' := [(.int .u64 x33), (.bool false), (.slice none 0 0), (.slice none 0 0)]) rfl sz52 hs34_7 rfl (onesOf (Ones.cons rfl (Ones.cons rfl (Ones.cons rfl (Ones.cons rfl Ones.nil))))) rfl rfl rfl) rfl ?_
 rintro _ _ _ - ⟨rfl, rfl⟩
 refine Nt ?_
 refine WC.ret ?_
 refine WQ.blockR ?_
 refine WQ.thenR ?_
 refine WQ.e0 ?_
 refine WQ.f3 ?_
 refine WQ.drop ?_
 refine WQ.f3 ?_
 refine WQ.drop ?_
 refine WQ.f3 ?_
 refine WQ.drop ?_
 refine WQ.f1 ?_
 refine WQ.f2 ?_
 exact WQ.returnsD h [[]] (fun _ hs => hs.drop.drop) (resultsLN rfl (RVs.cons (RV.cellA (cs := [(.int .i64 x32.At), (.int .i64 x32.Code), (.string x32.Op), (.int .i64 x32.Where)]) 0 ag63 sz63 hs34_6 rfl rfl) (RVs.cons (RV.cellA (cs := [(.int .u64 x33), (.bool false), (.slice none 0 0), (.slice none 0 0)]) 1 ag52 sz52 hs34_7 rfl rfl) RVs.nil))) (hle28.trans hle34) ⟨(.slice none 0 0), (.slice none 0 0), [], rfl, rfl, RS.nil _ _, (OwnS.nil _ _)⟩
 have h := ite_f hb30 h
 refine Sr ?_
 refine Pu (.bool (decide (a2.Kind = (2 : Int)))) (PO.eql hs28_20 rfl) rfl ?_
 refine Pa (.bool (decide (a2.Kind = (2 : Int)))) rfl rfl ?_
 refine Nt ?_
 refine WC.cond (b := decide (a2.Kind = (2 : Int))) rfl (fun hb72 => ?_) (fun hb72 => ?_)
 have h := ite_t hb72 h
 refine WC.seq ?_
 refine Sr ?_
 refine Pu (.pointer (some ⟨g21, 0, none⟩)) (PO.fieldAddr fo63_0 hs28_4 rfl) rfl ?_
 refine Pu (.int .i64 a1.At) (PO.loadB 3 pl3 rfl rfl rfl) rfl ?_
 refine Pm v0 hs28_0 rfl ?_
 refine Pu (.int .i64 (a0.length : Int)) (PO.lenS Tryd.underlying22 rfl h0.len) rfl ?_
 refine Pu (.bool (decide ((a0.length : Int) ≤ a1.At))) (PO.geq rfl rfl) rfl ?_
 refine Nt ?_
 refine WC.cond (b := decide ((a0.length : Int) ≤ a1.At)) rfl (fun hb73 => ?_) (fun hb73 => ?_)
 have h := ite_t hb73 h
 refine Sr ?_
 refine Pu (.agg #[(.int .i64 a1.At), (.int .i64 a1.Code), (.string a1.Op), (.int .i64 a1.Where)]) (PO.loadBA (cs := [(.int .i64 a1.At), (.int .i64 a1.Code), (.string a1.Op), (.int .i64 a1.Where)]) 3 ag63 sz63 hs28_4 rfl rfl) rfl ?_
 refine Pu (.pointer (some ⟨g21, 0, none⟩)) (PO.fieldAddr fo63_0 hs28_4 rfl) rfl ?_
 refine Pu (.int .i64 a1.At) (PO.loadB 3 pl3 rfl rfl rfl) rfl ?_
 obtain ⟨r74, hr75, h⟩ := bnd h
 refine WL.eff (EO.call0 co45 (f_ref02_bad_ok a1 (⟨#[102, 108, 97, 103]⟩ : ByteArray) a1.At (3 : Int) _ r74 hr75) (args4 rfl rfl rfl rfl)) rfl ?_
 rintro _ M76 _ hle77 ⟨_, ⟨rfl, rfl⟩, rfl⟩
 have h0 := h0.mono hle77
 refine WL.a0 ?_
 refine Pu (.agg #[(.int .u64 (0 : Int)), (.bool false), (.slice none 0 0), (.slice none 0 0)]) (PO.buildL (cl := [(.int .u64 (0 : Int)), (.bool false), (.slice none 0 0), (.slice none 0 0)]) ze52 fp52 Parts.nil rfl) rfl ?_
 refine WL.f1 ?_
 refine WL.eff (EO.storeL (v := (.agg #[(.int .i64 r74.At), (.int .i64 r74.Code), (.string r74.Op), (.int .i64 r74.Where)])) (vl := [(.int .i64 r74.At), (.int .i64 r74.Code), (.string r74.Op), (.int .i64 r74.Where)]) (arr' := [(.int .i64 r74.At), (.int .i64 r74.Code), (.string r74.Op), (.int .i64 r74.Where)]) rfl sz63 hs28_6 rfl (onesOf (Ones.cons rfl (Ones.cons rfl (Ones.cons rfl (Ones.cons rfl Ones.nil))))) rfl rfl rfl) rfl ?_
 rintro _ _ _ - ⟨rfl, rfl⟩
 refine WL.f1 ?_
 refine WL.eff (EO.storeL (v := (.agg #[(.int .u64 (0 : Int)), (.bool false), (.slice none 0 0), (.slice none 0 0)])) (vl := [(.int .u64 (0 : Int)), (.bool false), (.slice none 0 0), (.slice none 0 0)]) (arr' := [(.int .u64 (0 : Int)), (.bool false), (.slice none 0 0), (.slice none 0 0)]) rfl sz52 hs28_7 rfl (onesOf (Ones.cons rfl (Ones.cons rfl (Ones.cons rfl (Ones.cons rfl Ones.nil))))) rfl rfl rfl) rfl ?_
 rintro _ _ _ - ⟨rfl, rfl⟩
 refine Nt ?_
 refine WC.ret ?_
 refine WQ.thenR ?_
 refine WQ.blockR ?_
 refine WQ.thenR ?_
 refine WQ.e0 ?_
 refine WQ.f3 ?_
 refine WQ.drop ?_
 refine WQ.f3 ?_
 refine WQ.drop ?_
 refine WQ.f1 ?_
 refine WQ.f2 ?_
 exact WQ.returnsD h [[]] (fun _ hs => hs.drop.drop) (resultsLN rfl (RVs.cons (RV.cellA (cs := [(.int .i64 r74.At), (.int .i64 r74.Code), (.string r74.Op), (.int .i64 r74.Where)]) 0 ag63 sz63 hs28_6 rfl rfl) (RVs.cons (RV.cellA (cs := [(.int .u64 (0 : Int)), (.bool false), (.slice none 0 0), (.slice none 0 0)]) 1 ag52 sz52 hs28_7 rfl rfl) RVs.nil))) (hle28.trans hle77) ⟨(.slice none 0 0), (.slice none 0 0), [], rfl, rfl, RS.nil _ _, (OwnS.nil _ _)⟩
 have h := ite_f hb73 h
 refine WC.skip ?_
 refine WQ.thenC ?_
 refine WC.seq ?_
 refine Sr ?_
 refine Pm v0 hs28_0 rfl ?_
 refine Pu (.pointer (some ⟨g21, 0, none⟩)) (PO.fieldAddr fo63_0 hs28_4 rfl) rfl ?_
 refine Pu (.int .i64 a1.At) (PO.loadB 3 pl3 rfl rfl rfl) rfl ?_
 obtain ⟨hg80, h⟩ := grd_i h
 obtain ⟨p81, cs82, hat83, hrc84, hhas85⟩ := h0.at hg80.1 hg80.2 (by decide)
 obtain rfl := hrc84
 refine Pu (.pointer (some p81)) (PO.indexAddr (n := a0.length) Tryd.underlying22 sz5 rfl rfl hg80.1 hg80.2 hat83) rfl ?_
 refine Pu (.int .u8 (rd a0 a1.At)) (PO.loadM pl5 rfl (IM.has0 hhas85)) rfl ?_
 refine Pu (.bool (decide ((1 : Int) < (rd a0 a1.At)))) (PO.gtr rfl rfl) rfl ?_
 refine Nt ?_
 refine WC.cond (b := decide ((1 : Int) < (rd a0 a1.At))) rfl (fun hb87 => ?_) (fun hb87 => ?_)
 have h := ite_t hb87 h
 refine Sr ?_
 refine Pu (.agg #[(.int .i64 a1.At), (.int .i64 a1.Code), (.string a1.Op), (.int .i64 a1.Where)]) (PO.loadBA (cs := [(.int .i64 a1.At), (.int .i64 a1.Code), (.string a1.Op), (.int .i64 a1.Where)]) 3 ag63 sz63 hs28_4 rfl rfl) rfl ?_
 refine Pu (.pointer (some ⟨g21, 0, none⟩)) (PO.fieldAddr fo63_0 hs28_4 rfl) rfl ?_
 refine Pu (.int .i64 a1.At) (PO.loadB 3 pl3 rfl rfl rfl) rfl ?_
 obtain ⟨r88, hr89, h⟩ := bnd h
 refine WL.eff (EO.call0 co45 (f_ref02_bad_ok a1 (⟨#[102, 108, 97, 103]⟩ : ByteArray) a1.At (5 : Int) _ r88 hr89) (args4 rfl rfl rfl rfl)) rfl ?_
 rintro _ M90 _ hle91 ⟨_, ⟨rfl, rfl⟩, rfl⟩
 have h0 := h0.mono hle91
 refine WL.a0 ?_
 refine Pu (.agg #[(.int .u64 (0 : Int)), (.bool false), (.slice none 0 0), (.slice none 0 0)]) (PO.buildL (cl := [(.int .u64 (0 : Int)), (.bool false), (.slice none 0 0), (.slice none 0 0)]) ze52 fp52 Parts.nil rfl) rfl ?_
 refine WL.f1 ?_
 refine WL.eff (EO.storeL (v := (.agg #[(.int .i64 r88.At), (.int .i64 r88.Code), (.string r88.Op), (.int .i64 r88.Where)])) (vl := [(.int .i64 r88.At), (.int .i64 r88.Code), (.string r88.Op), (.int .i64 r88.Where)]) (arr' := [(.int .i64 r88.At), (.int .i64 r88.Code), (.string r88.Op), (.int .i64 r88.Where)]) rfl sz63 hs28_6 rfl (onesOf (Ones.cons rfl (Ones.cons rfl (Ones.cons rfl (Ones.cons rfl Ones.nil))))) rfl rfl rfl) rfl ?_
 rintro _ _ _ - ⟨rfl, rfl⟩
 refine WL.f1 ?_
 refine WL.eff (EO.storeL (v := (.agg #[(.int .u64 (0 : Int)), (.bool false), (.slice none 0 0), (.slice none 0 0)])) (vl := [(.int .u64 (0 : Int)), (.bool false), (.slice none 0 0), (.slice none 0 0)]) (arr' := [(.int .u64 (0 : Int)), (.bool false), (.slice none 0 0), (.slice none 0 0)]) rfl sz52 hs28_7 rfl (onesOf (Ones.cons rfl (Ones.cons rfl (Ones.cons rfl (Ones.cons rfl Ones.nil))))) rfl rfl rfl) rfl ?_
 rintro _ _ _ - ⟨rfl, rfl⟩
 refine Nt ?_
 refine WC.ret ?_
 refine WQ.thenR ?_
 refine WQ.blockR ?_
 refine WQ.thenR ?_
 refine WQ.e0 ?_
 refine WQ.f3 ?_
 refine WQ.drop ?_
 refine WQ.f3 ?_
 refine WQ.drop ?_
 refine WQ.f1 ?_
 refine WQ.f2 ?_
 exact WQ.returnsD h [[]] (fun _ hs => hs.drop.drop) (resultsLN rfl (RVs.cons (RV.cellA (cs := [(.int .i64 r88.At), (.int .i64 r88.Code), (.string r88.Op), (.int .i64 r88.Where)]) 0 ag63 sz63 hs28_6 rfl rfl) (RVs.cons (RV.cellA (cs := [(.int .u64 (0 : Int)), (.bool false), (.slice none 0 0), (.slice none 0 0)]) 1 ag52 sz52 hs28_7 rfl rfl) RVs.nil))) (hle28.trans hle91) ⟨(.slice none 0 0), (.slice none 0 0), [], rfl, rfl, RS.nil _ _, (OwnS.nil _ _)⟩
 have h := ite_f hb87 h
 refine WC.skip ?_
 refine WQ.thenC ?_
 refine WC.seq ?_
 refine WC.draw [0, 1, 3, 7, 0, 0, 32, 112, 240, 496, 1008, 15, 4095] (.pure 0 (.pure 1 (.pure 2 (.pure 3 (.pure 4 (.pure 5 (.pure 6 (.pure 7 (.pure 8 (.pure 9 (.pure 10 (.alt 11 (.alt 12 .done .none) .none)))))))))))) mixed (by kernel_rfl) ?_
 refine Tp (.pointer (some ⟨g21, 0, none⟩)) rfl (PO.fieldAddr fo63_0 hs28_4 rfl) rfl ?_
 refine Tp (.int .i64 a1.At) rfl (PO.loadB 3 pl3 rfl rfl rfl) rfl ?_
 refine Tp (.int .i64 (IntKind.i64.wrap (a1.At + (1 : Int)))) rfl (PO.add rfl rfl) rfl ?_
 refine Tp (.agg #[(.int .i64 (IntKind.i64.wrap (a1.At + (1 : Int)))), (.int .i64 (0 : Int)), (.string (⟨#[]⟩ : ByteArray)), (.int .i64 (0 : Int))]) rfl (PO.buildL (cl := [(.int .i64 (IntKind.i64.wrap (a1.At + (1 : Int)))), (.int .i64 (0 : Int)), (.string (⟨#[]⟩ : ByteArray)), (.int .i64 (0 : Int))]) ze63 fp63 (Parts.cons (congrArg Value.cells (show ev _ _ = (.int .i64 (IntKind.i64.wrap (a1.At + (1 : Int)))) from rfl)) Parts.nil) rfl) rfl ?_
 refine Tp v0 rfl (PO.move hs28_0) rfl ?_
 refine Tp (.pointer (some ⟨g21, 0, none⟩)) rfl (PO.fieldAddr fo63_0 hs28_4 rfl) rfl ?_
 refine Tp (.int .i64 a1.At) rfl (PO.loadB 3 pl3 rfl rfl rfl) rfl ?_
 obtain ⟨hg94, h⟩ := grd_i h
 obtain ⟨p95, cs96, hat97, hrc98, hhas99⟩ := h0.at hg94.1 hg94.2 (by decide)
 obtain rfl := hrc98
 refine Tp (.pointer (some p95)) rfl (PO.indexAddr (n := a0.length) Tryd.underlying22 sz5 rfl rfl hg94.1 hg94.2 hat97) rfl ?_
 refine Tp (.int .u8 (rd a0 a1.At)) rfl (PO.loadM pl5 rfl (IM.has0 hhas99)) rfl ?_
 refine Tp (.bool (decide ((rd a0 a1.At) = (1 : Int)))) rfl (PO.eql rfl rfl) rfl ?_
 refine Tp (.agg #[(.int .u64 (0 : Int)), (.bool (decide ((rd a0 a1.At) = (1 : Int)))), (.slice none 0 0), (.slice none 0 0)]) rfl (PO.buildL (cl := [(.int .u64 (0 : Int)), (.bool (decide ((rd a0 a1.At) = (1 : Int)))), (.slice none 0 0), (.slice none 0 0)]) ze52 fp52 (Parts.cons (congrArg Value.cells (show ev _ _ = (.bool (decide ((rd a0 a1.At) = (1 : Int)))) from rfl)) Parts.nil) rfl) rfl ?_
 refine WT.f1 ?_
 refine WT.alt rfl (EO.storeL (v := (.agg #[(.int .i64 (IntKind.i64.wrap (a1.At + (1 : Int)))), (.int .i64 (0 : Int)), (.string (⟨#[]⟩ : ByteArray)), (.int .i64 (0 : Int))])) (vl := [(.int .i64 (IntKind.i64.wrap (a1.At + (1 : Int)))), (.int .i64 (0 : Int)), (.string (⟨#[]⟩ : ByteArray)), (.int .i64 (0 : Int))]) (arr' := [(.int .i64 (IntKind.i64.wrap (a1.At + (1 : Int)))), (.int .i64 (0 : Int)), (.string (⟨#[]⟩ : ByteArray)), (.int .i64 (0 : Int))]) rfl sz63 hs28_6 rfl (onesOf (Ones.cons rfl (Ones.cons rfl (Ones.cons rfl (Ones.cons rfl Ones.nil))))) rfl rfl rfl) rfl ?_ ?_
 rintro _ _ _ - ⟨rfl, rfl⟩
 refine ⟨(StabL.st (StabA.of rfl (PO.buildL (cl := [(.int .u64 (0 : Int)), (.bool (decide ((rd a0 a1.At) = (1 : Int)))), (.slice none 0 0), (.slice none 0 0)]) ze52 fp52 (Parts.cons (congrArg Value.cells (show ev _ _ = (.bool (decide ((rd a0 a1.At) = (1 : Int)))) from rfl)) Parts.nil) rfl) rfl) (StabL.st (StabA.of rfl (PO.eql rfl rfl) rfl) (StabL.st (StabA.of rfl (PO.loadM pl5 rfl (IM.has0 hhas99)) rfl) (StabL.st (StabA.of rfl (PO.indexAddr (n := a0.length) Tryd.underlying22 sz5 rfl rfl hg94.1 hg94.2 hat97) rfl) (StabL.st (StabA.of rfl (PO.loadB 3 pl3 rfl rfl rfl) rfl) (StabL.st (StabA.of rfl (PO.fieldAddr fo63_0 hs28_4 rfl) rfl) (StabL.st (StabA.of rfl (PO.move hs28_0) rfl) (StabL.anc rfl (StabL.anc rfl (StabL.anc rfl (StabL.anc rfl trivial))))))))))), ?_⟩
 refine WT.f1 ?_
 refine WT.alt rfl (EO.storeL (v := (.agg #[(.int .u64 (0 : Int)), (.bool (decide ((rd a0 a1.At) = (1 : Int)))), (.slice none 0 0), (.slice none 0 0)])) (vl := [(.int .u64 (0 : Int)), (.bool (decide ((rd a0 a1.At) = (1 : Int)))), (.slice none 0 0), (.slice none 0 0)]) (arr' := [(.int .u64 (0 : Int)), (.bool (decide ((rd a0 a1.At) = (1 : Int)))), (.slice none 0 0), (.slice none 0 0)]) rfl sz52 hs28_7 rfl (onesOf (Ones.cons rfl (Ones.cons rfl (Ones.cons rfl (Ones.cons rfl Ones.nil))))) rfl rfl rfl) rfl ?_ ?_
 rintro _ _ _ - ⟨rfl, rfl⟩
 refine ⟨(StabL.anc rfl (StabL.anc rfl (StabL.anc rfl (StabL.anc rfl (StabL.anc rfl (StabL.anc rfl (StabL.anc rfl (StabL.anc rfl (StabL.anc rfl (StabL.anc rfl (StabL.anc rfl trivial))))))))))), ?_⟩
 refine WT.fin ?_
 refine WQ.thenC ?_
 refine WC.ret ?_
 refine WQ.blockR ?_
 refine WQ.thenR ?_
 refine WQ.e0 ?_
 refine WQ.f3 ?_
 refine WQ.drop ?_
 refine WQ.f3 ?_
 refine WQ.drop ?_
 refine WQ.f1 ?_
 refine WQ.f2 ?_
 exact WQ.returnsD h [[]] (fun _ hs => hs.drop.drop) (resultsLN rfl (RVs.cons (RV.cellA (cs := [(.int .i64 (IntKind.i64.wrap (a1.At + (1 : Int)))), (.int .i64 (0 : Int)), (.string (⟨#[]⟩ : ByteArray)), (.int .i64 (0 : Int))]) 0 ag63 sz63 hs28_6 rfl rfl) (RVs.cons (RV.cellA (cs := [(.int .u64 (0 : Int)), (.bool (decide ((rd a0 a1.At) = (1 : Int)))), (.slice none 0 0), (.slice none 0 0)]) 1 ag52 sz52 hs28_7 rfl rfl) RVs.nil))) hle28 ⟨(.slice none 0 0), (.slice none 0 0), [], rfl, rfl, RS.nil _ _, (OwnS.nil _ _)⟩
 exact WT.no
 exact WT.no
 have h := ite_f hb72 h
 refine Sr ?_
 refine Pu (.bool (decide (a2.Kind = (3 : Int)))) (PO.eql hs28_20 rfl) rfl ?_
 refine Pa (.bool (decide (a2.Kind = (3 : Int)))) rfl rfl ?_
 refine Nt ?_
 refine WC.cond (b := decide (a2.Kind = (3 : Int))) rfl (fun hb102 => ?_) (fun hb102 => ?_)
 have h := ite_t hb102 h
 refine Sr ?_
 refine Pm v0 hs28_0 rfl ?_
 refine Pu (.agg #[(.int .i64 a1.At), (.int .i64 a1.Code), (.string a1.Op), (.int .i64 a1.Where)]) (PO.loadBA (cs := [(.int .i64 a1.At), (.int .i64 a1.Code), (.string a1.Op), (.int .i64 a1.Where)]) 3 ag63 sz63 hs28_4 rfl rfl) rfl ?_
 refine Pu (.pointer (some ⟨g22, 1, none⟩)) (PO.fieldAddr fo55_1 hs28_5 rfl) rfl ?_
 refine Pu (.int .i64 a2.Most) (PO.loadB 2 pl3 rfl rfl rfl) rfl ?_
 obtain ⟨⟨r103, r104⟩, hr105, h⟩ := bnd h
 refine WL.eff (EO.call0 co46 (f_ref02_text_ok a0 a1 a2.Most _ _ h0 (r103, r104) hr105) (args3 rfl rfl rfl)) rfl ?_
 rintro _ M106 _ hle107 ⟨_, ⟨vq109, rfl, rfl, hq109⟩, rfl⟩
 have h0 := h0.mono hle107
 refine WL.a0 ?_
 refine Pm (.tuple #[(.agg #[(.int .i64 r103.At), (.int .i64 r103.Code), (.string r103.Op), (.int .i64 r103.Where)]), vq109]) rfl rfl ?_
 refine Pu (.agg #[(.int .i64 r103.At), (.int .i64 r103.Code), (.string r103.Op), (.int .i64 r103.Where)]) (PO.extract rfl rfl) rfl ?_
 refine Pu vq109 (PO.extract rfl rfl) rfl ?_
 refine WL.eff (EO.alloc ze63 rfl) rfl ?_
 rintro _ _ _ - ⟨rfl, g110, rfl, rfl⟩
 refine WL.eff (EO.storeL (v := (.agg #[(.int .i64 r103.At), (.int .i64 r103.Code), (.string r103.Op), (.int .i64 r103.Where)])) (vl := [(.int .i64 r103.At), (.int .i64 r103.Code), (.string r103.Op), (.int .i64 r103.Where)]) (arr' := [(.int .i64 r103.At), (.int .i64 r103.Code), (.string r103.Op), (.int .i64 r103.Where)]) rfl sz63 rfl rfl (onesOf (Ones.cons rfl (Ones.cons rfl (Ones.cons rfl (Ones.cons rfl Ones.nil))))) rfl rfl rfl) rfl ?_
 rintro _ _ _ - ⟨rfl, rfl⟩
 refine Pa vq109 rfl rfl ?_
 refine Ns ?_
 refine Pu (.agg #[(.int .i64 r103.At), (.int .i64 r103.Code), (.string r103.Op), (.int .i64 r103.Where)]) (PO.loadBA (cs := [(.int .i64 r103.At), (.int .i64 r103.Code), (.string r103.Op), (.int .i64 r103.Where)]) 0 ag63 sz63 rfl rfl rfl) rfl ?_
 refine Pm vq109 rfl rfl ?_
 refine Pu (.agg #[(.int .u64 (0 : Int)), (.bool false), vq109, (.slice none 0 0)]) (PO.buildL (cl := [(.int .u64 (0 : Int)), (.bool false), vq109, (.slice none 0 0)]) ze52 fp52 (Parts.cons ((congrArg Value.cells (show ev _ _ = vq109 from rfl)).trans hq109.cells) Parts.nil) rfl) rfl ?_
 refine WL.f2 ?_
 refine WL.eff (EO.storeL (v := (.agg #[(.int .i64 r103.At), (.int .i64 r103.Code), (.string r103.Op), (.int .i64 r103.Where)])) (vl := [(.int .i64 r103.At), (.int .i64 r103.Code), (.string r103.Op), (.int .i64 r103.Where)]) (arr' := [(.int .i64 r103.At), (.int .i64 r103.Code), (.string r103.Op), (.int .i64 r103.Where)]) rfl sz63 hs28_6 rfl (onesOf (Ones.cons rfl (Ones.cons rfl (Ones.cons rfl (Ones.cons rfl Ones.nil))))) rfl rfl rfl) rfl ?_
 rintro _ _ _ - ⟨rfl, rfl⟩
 refine WL.f2 ?_
 refine WL.eff (EO.storeL (v := (.agg #[(.int .u64 (0 : Int)), (.bool false), vq109, (.slice none 0 0)])) (vl := [(.int .u64 (0 : Int)), (.bool false), vq109, (.slice none 0 0)]) (arr' := [(.int .u64 (0 : Int)), (.bool false), vq109, (.slice none 0 0)]) rfl sz52 hs28_7 rfl (onesOf (Ones.cons rfl (Ones.cons rfl (Ones.cons (RS.one hq109) (Ones.cons rfl Ones.nil))))) rfl rfl rfl) rfl ?_
 rintro _ _ _ - ⟨rfl, rfl⟩
 refine Nt ?_
 refine WC.ret ?_
 refine WQ.blockR ?_
 refine WQ.thenR ?_
 refine WQ.e0 ?_
 refine WQ.f3 ?_
 refine WQ.drop ?_
 refine WQ.f3 ?_
 refine WQ.drop ?_
 refine WQ.f3 ?_
 refine WQ.drop ?_
 refine WQ.f1 ?_
 refine WQ.f2 ?_
 exact WQ.returnsD h [[]] (fun _ hs => hs.drop.drop) (resultsLN rfl (RVs.cons (RV.cellA (cs := [(.int .i64 r103.At), (.int .i64 r103.Code), (.string r103.Op), (.int .i64 r103.Where)]) 0 ag63 sz63 hs28_6 rfl rfl) (RVs.cons (RV.cellA (cs := [(.int .u64 (0 : Int)), (.bool false), vq109, (.slice none 0 0)]) 1 ag52 sz52 hs28_7 rfl rfl) RVs.nil))) (hle28.trans hle107) ⟨vq109, (.slice none 0 0), [], rfl, rfl, hq109, (OwnS.nil _ _)⟩
 have h := ite_f hb102 h
 refine WC.skip ?_
 refine WQ.blockN ?_
 refine WQ.thenC ?_
 refine Sr ?_
 refine Pm v0 hs28_0 rfl ?_
 refine Pu (.agg #[(.int .i64 a1.At), (.int .i64 a1.Code), (.string a1.Op), (.int .i64 a1.Where)]) (PO.loadBA (cs := [(.int .i64 a1.At), (.int .i64 a1.Code), (.string a1.Op), (.int .i64 a1.Where)]) 3 ag63 sz63 hs28_4 rfl rfl) rfl ?_
 refine Pu (.pointer (some ⟨g22, 1, none⟩)) (PO.fieldAddr fo55_1 hs28_5 rfl) rfl ?_
 refine Pu (.int .i64 a2.Most) (PO.loadB 2 pl3 rfl rfl rfl) rfl ?_
 refine Pu (.pointer (some ⟨g22, 2, none⟩)) (PO.fieldAddr fo55_2 hs28_5 rfl) rfl ?_
 refine Pu (.int .i64 a2.Each) (PO.loadB 2 pl3 rfl rfl rfl) rfl ?_
 obtain ⟨⟨r112, r113⟩, hr114, h⟩ := bnd h
 refine WL.eff (EO.call0 co47 (f_ref02_row_ok a0 a1 a2.Most a2.Each _ _ h0 (r112, r113) hr114) (args4 rfl rfl rfl rfl)) rfl ?_
 rintro _ M115 _ hle116 ⟨_, ⟨vq118, cq118, rfl, rfl, hq118⟩, rfl⟩
 have h0 := h0.mono hle116
 refine WL.a1 ?_
 refine Pm (.tuple #[(.agg #[(.int .i64 r112.At), (.int .i64 r112.Code), (.string r112.Op), (.int .i64 r112.Where)]), vq118]) rfl rfl ?_
 refine Pu (.agg #[(.int .i64 r112.At), (.int .i64 r112.Code), (.string r112.Op), (.int .i64 r112.Where)]) (PO.extract rfl rfl) rfl ?_
 refine Pu vq118 (PO.extract rfl rfl) rfl ?_
 refine WL.eff (EO.alloc ze63 rfl) rfl ?_
 rintro _ _ _ - ⟨rfl, g119, rfl, rfl⟩
 refine WL.eff (EO.storeL (v := (.agg #[(.int .i64 r112.At), (.int .i64 r112.Code), (.string r112.Op), (.int .i64 r112.Where)])) (vl := [(.int .i64 r112.At), (.int .i64 r112.Code), (.string r112.Op), (.int .i64 r112.Where)]) (arr' := [(.int .i64 r112.At), (.int .i64 r112.Code), (.string r112.Op), (.int .i64 r112.Where)]) rfl sz63 rfl rfl (onesOf (Ones.cons rfl (Ones.cons rfl (Ones.cons rfl (Ones.cons rfl Ones.nil))))) rfl rfl rfl) rfl ?_
 rintro _ _ _ - ⟨rfl, rfl⟩
 refine Pa vq118 rfl rfl ?_
 refine Ns ?_
 refine Pu (.agg #[(.int .i64 r112.At), (.int .i64 r112.Code), (.string r112.Op), (.int .i64 r112.Where)]) (PO.loadBA (cs := [(.int .i64 r112.At), (.int .i64 r112.Code), (.string r112.Op), (.int .i64 r112.Where)]) 0 ag63 sz63 rfl rfl rfl) rfl ?_
 refine Pm vq118 rfl rfl ?_
 refine Pu (.agg #[(.int .u64 (0 : Int)), (.bool false), (.slice none 0 0), vq118]) (PO.buildL (cl := [(.int .u64 (0 : Int)), (.bool false), (.slice none 0 0), vq118]) ze52 fp52 (Parts.cons ((congrArg Value.cells (show ev _ _ = vq118 from rfl)).trans hq118.cells) Parts.nil) rfl) rfl ?_
 refine WL.f3 ?_
 refine WL.eff (EO.storeL (v := (.agg #[(.int .i64 r112.At), (.int .i64 r112.Code), (.string r112.Op), (.int .i64 r112.Where)])) (vl := [(.int .i64 r112.At), (.int .i64 r112.Code), (.string r112.Op), (.int .i64 r112.Where)]) (arr' := [(.int .i64 r112.At), (.int .i64 r112.Code), (.string r112.Op), (.int .i64 r112.Where)]) rfl sz63 hs28_6 rfl (onesOf (Ones.cons rfl (Ones.cons rfl (Ones.cons rfl (Ones.cons rfl Ones.nil))))) rfl rfl rfl) rfl ?_
 rintro _ _ _ - ⟨rfl, rfl⟩
 refine WL.f3 ?_
 refine WL.eff (EO.storeL (v := (.agg #[(.int .u64 (0 : Int)), (.bool false), (.slice none 0 0), vq118])) (vl := [(.int .u64 (0 : Int)), (.bool false), (.slice none 0 0), vq118]) (arr' := [(.int .u64 (0 : Int)), (.bool false), (.slice none 0 0), vq118]) rfl sz52 hs28_7 rfl (onesOf (Ones.cons rfl (Ones.cons rfl (Ones.cons rfl (Ones.cons (OwnS.one hq118) Ones.nil))))) rfl rfl rfl) rfl ?_
 rintro _ _ _ - ⟨rfl, rfl⟩
 refine Nt ?_
 refine WC.ret ?_
 refine WQ.f2 ?_
 refine WQ.drop ?_
 refine WQ.f3 ?_
 refine WQ.drop ?_
 refine WQ.f3 ?_
 refine WQ.drop ?_
 refine WQ.f2 ?_
 refine WQ.f1 ?_
 refine WQ.f2 ?_
 exact WQ.returnsD h [cq118] (fun _ hs => hs.drop.drop) (resultsLN rfl (RVs.cons (RV.cellA (cs := [(.int .i64 r112.At), (.int .i64 r112.Code), (.string r112.Op), (.int .i64 r112.Where)]) 0 ag63 sz63 hs28_6 rfl rfl) (RVs.cons (RV.cellA (cs := [(.int .u64 (0 : Int)), (.bool false), (.slice none 0 0), vq118]) 1 ag52 sz52 hs28_7 rfl rfl) RVs.nil))) (hle28.trans hle116) ⟨(.slice none 0 0), vq118, cq118, rfl, rfl, RS.nil _ _, hq118⟩

noncomputable def f_fault_Path_l0 (s_ : (GErr × (List ByteArray))) : Option ((GErr × (List ByteArray)) ⊕ (List ByteArray)) :=
  match s_ with
  | (x24, x25) =>
    (if (!x24.isNil) = true then ((f_errors_As_fault x24 (⟨(⟨#[]⟩ : ByteArray), (0 : Int), GErr.nil⟩ : T_api_Fault)).bind fun (r29, r30, r31, r32) => (if (!r29) = true then (some (Sum.inr x25)) else (grd (x25.length + [r30].length ≤ 274877906944) (some (Sum.inl (r32, x25 ++ [r30])))))) else (some (Sum.inr x25)))
noncomputable def f_fault_Path (a0 : GErr) : Option (List ByteArray) :=
  ((((iter (f_fault_Path_l0) (a0, [])).bind (fun (x26 : (List ByteArray)) => (some x26))) : Option (List ByteArray)).bind fun (x21 : (List ByteArray)) => (some x21))
def f_fault_Path_post (a0 : GErr) : (List ByteArray) → Value → IM → HL → Prop :=
  fun (r0 : (List ByteArray)) (v : Value) (M' : IM) (H' : HL) => ∃ vz0 cz0, vz0 = v ∧ H' = [cz0] ∧ OwnS Kd.str M' vz0 r0 cz0
set_option maxHeartbeats 8000000 in
set_option maxRecDepth 100000 in
theorem f_fault_Path_ok (a0 : GErr) (M : IM) (hE : Env M) (res : (List ByteArray)) (h : f_fault_Path a0 = some res) :
    Tri Tryd.prog 55 #[(GV a0)] M [] (f_fault_Path_post a0 res) := by
 unfold f_fault_Path at h
 refine Tri.enter (fn := Tryd.f55) Tryd.func55 rfl (Nat.le_of_ble_eq_true rfl) ?_
 intro F ρ hρ
 refine Sr ?_
 refine Pa (.slice none 0 0) rfl rfl ?_
 refine Ns ?_
 refine Pa (.slice none 0 0) rfl rfl ?_
 refine Nt ?_
 obtain ⟨x21, hj22, h⟩ := bnd h
 refine WC.joinF (fun (x21 : (List ByteArray)) ρ' M' H' => ∃ vx21 cx21, M.le M' ∧ cx21 :: F = H' ∧ ρ' 3 = vx21 ∧ OwnS Kd.str M' vx21 x21 cx21) x21 ?_ ?_
 have h322 := h
 have h := hj22
 refine WC.block ?_
 refine WC.e0 ?_
 obtain ⟨e23, he23, hK23⟩ := bnd h
 clear h
 refine WC.loop he23 (fun (p_ : (GErr × (List ByteArray))) ρ' M' H' => match p_ with | (x24, x25) => ∃ vx25 cx25, M.le M' ∧ cx25 :: F = H' ∧ ρ' 0 = (GV x24) ∧ ρ' 3 = vx25 ∧ OwnS Kd.str M' vx25 x25 cx25) ?_ ?_
 exact ⟨(.slice none 0 0), [], (IM.le.refl _), rfl, (hρ 0), rfl, (OwnS.nil _ _)⟩
 rintro ⟨x24, x25⟩ o23 ρ23 M23 H23 h ⟨vx25, cx25, hle23, rfl, hs23_0, hs23_3, hx25⟩
 unfold f_fault_Path_l0 at h
 have hE := hE.mono hle23
 refine WC.seq ?_
 refine Sr ?_
 refine Pm (GV x24) hs23_0 rfl ?_
 refine Pu (.bool (!x24.isNil)) (PO.errNotNil Tryd.underlying45 rfl) rfl ?_
 refine Nt ?_
 refine WC.cond (b := !x24.isNil) rfl (fun hb27 => ?_) (fun hb27 => ?_)
 have h := ite_t hb27 h
 refine WC.skip ?_
 refine WQ.thenC ?_
 refine WC.block ?_
 refine Sr ?_
 refine WL.eff (EO.alloc ze78 rfl) rfl ?_
 rintro _ _ _ - ⟨rfl, g28, rfl, rfl⟩
 refine Nt ?_
 refine WC.seq ?_
 refine Sr ?_
 refine Pm (GV x24) hs23_0 rfl ?_
 refine Pu (.iface 79 (.pointer (some ⟨g28, 0, none⟩))) (PO.makeInterface cc79 rfl) rfl ?_
 obtain ⟨⟨r29, r30, r31, r32⟩, hr33, h⟩ := bnd h
 refine WL.eff (EO.call1 co42 (f_errors_As_fault_ok x24 (⟨(⟨#[]⟩ : ByteArray), (0 : Int), GErr.nil⟩ : T_api_Fault) _ _ hE (r29, r30, r31, r32) hr33) (args2 rfl rfl)) rfl ?_
 rintro _ M34 _ hle35 ⟨_, ⟨rfl, rfl⟩, rfl⟩
 have hx25 := hx25.mono hle35
 have hE := hE.mono hle35
 refine WL.a1 ?_
 refine Pu (.bool (!r29)) (PO.not rfl) rfl ?_
 refine Nt ?_
 refine WC.cond (b := !r29) rfl (fun hb37 => ?_) (fun hb37 => ?_)
 have h := ite_t hb37 h
 refine WC.exit ?_
 refine WQ.thenE ?_
 refine WQ.blockM rfl ?_
 refine WQ.leaveE x25 (Option.some.inj h).symm (fun heq23 => ?_)
 subst heq23
 have h := hK23
 refine WQ.blockH ?_
 refine WQ.drop ?_
 obtain rfl := Option.some.inj h
 refine WQ.thenJ ?_
 exact ⟨vx25, cx25, (hle23.trans hle35), rfl, hs23_3, hx25⟩
 have h := ite_f hb37 h
 refine WC.skip ?_
 refine WQ.thenC ?_
 refine Sr ?_
 refine Pm vx25 hs23_3 rfl ?_
 refine Pu (.pointer (some ⟨g28, 0, none⟩)) (PO.fieldAddr fo78_0 rfl rfl) rfl ?_
 refine Pu (.string r30) (PO.loadB 0 pl9 rfl rfl rfl) rfl ?_
 refine WL.eff (EO.buildSliceL (cl := [(.string r30)]) Tryd.underlying103 iz9 rfl (Parts.cons (congrArg Value.cells (show ev _ _ = (.string r30) from rfl)) Parts.nil) rfl) rfl ?_
 rintro _ _ _ - ⟨rfl, g38, rfl, rfl⟩
 have h40 : OwnS Kd.str M34 (.slice (some ⟨g38, 0, none⟩) 1 1) [r30] [(g38, .cells #[(.string r30)] 9 (0, 0))] := OwnS.rows (css := [[(.string r30)]]) (Rows.cons rfl Rows.nil) rfl rfl
 obtain ⟨hg44, h⟩ := grd_i h
 refine WL.f2 ?_
 refine WL.eff (EO.append (dd := Kd.str) (xs := x25) (ys := [r30]) Tryd.underlying103 Tryd.underlying103 in9 rfl (appB (by decide) hg44) (by decide) rfl rfl hx25 (h40.src 1 rfl)) rfl ?_
 rintro v43 _ _ - ⟨rfl, c41, rfl, h42⟩
 refine Pa v43 rfl rfl ?_
 refine Nt ?_
 refine WC.region ?_
 refine Pu (.pointer (some ⟨g28, 2, none⟩)) (PO.fieldAddr fo78_2 rfl rfl) rfl ?_
 refine Pu (GV r32) (PO.loadB 2 pl45 rfl rfl rfl) rfl ?_
 refine Pa (GV r32) rfl rfl ?_
 refine WL.nil ?_
 refine WQ.blockN ?_
 refine WQ.f1 ?_
 refine WQ.drop ?_
 refine WQ.f1 ?_
 refine WQ.drop ?_
 refine WQ.again (r32, x25 ++ [r30]) (Option.some.inj h).symm ?_
 exact ⟨v43, c41, (hle23.trans hle35), rfl, rfl, rfl, h42⟩
 have h := ite_f hb27 h
 refine WC.exit ?_
 refine WQ.thenE ?_
 refine WQ.leaveE x25 (Option.some.inj h).symm (fun heq23 => ?_)
 subst heq23
 have h := hK23
 refine WQ.blockH ?_
 obtain rfl := Option.some.inj h
 refine WQ.thenJ ?_
 exact ⟨vx25, cx25, hle23, rfl, hs23_3, hx25⟩
 rintro ρ22 M22 H22 ⟨vx21, cx21, hle22, rfl, hs22_3, hx21⟩
 have hE := hE.mono hle22
 refine Sr ?_
 refine Pm vx21 hs22_3 rfl ?_
 refine Pa vx21 rfl rfl ?_
 refine Nt ?_
 refine WC.ret ?_
 exact WQ.returnsF h [cx21] rfl (results1 rfl rfl) hle22 ⟨vx21, cx21, rfl, rfl, hx21⟩

noncomputable def f_fault_Under_l0 (a1 : ByteArray) (r22 : (List ByteArray)) (s_ : Int) : Option (Int ⊕ (Unit ⊕ Unit)) :=
  match s_ with
  | x28 =>
    (if (decide (x28 < (r22.length : Int))) = true then (grd (0 ≤ x28 ∧ x28 < r22.length) (if (decide ((rd r22 x28) = a1)) = true then (some (Sum.inr (Sum.inr ()))) else (some (Sum.inl (IntKind.i64.wrap (x28 + (1 : Int))))))) else (some (Sum.inr (Sum.inl ()))))
noncomputable def f_fault_Under (a0 : GErr) (a1 : ByteArray) : Option Bool :=
  ((((f_fault_Path a0).bind fun (r22 : (List ByteArray)) => ((iter (f_fault_Under_l0 a1 r22) (0 : Int)).bind (Sum.elim (fun _ => (some (Sum.inl ()))) (fun _ => (((some true)).bind fun r => some (Sum.inr r)))))) : Option (Unit ⊕ Bool)).bind (Sum.elim (fun _ => (some false)) some))
def f_fault_Under_post (a0 : GErr) (a1 : ByteArray) : Bool → Value → IM → HL → Prop :=
  fun (r0 : Bool) (v : Value) (M' : IM) (H' : HL) => (.bool r0) = v ∧ H' = []
set_option maxHeartbeats 8000000 in
set_option maxRecDepth 100000 in
theorem f_fault_Under_ok (a0 : GErr) (a1 : ByteArray) (M : IM) (hE : Env M) (res : Bool) (h : f_fault_Under a0 a1 = some res) :
    Tri Tryd.prog 48 #[(GV a0), (.string a1)] M [] (f_fault_Under_post a0 a1 res) := by
 unfold f_fault_Under at h
 refine Tri.enter (fn := Tryd.f48) Tryd.func48 rfl (Nat.le_of_ble_eq_true rfl) ?_
 intro F ρ hρ
 refine Sr ?_
 refine Pa (.bool false) rfl rfl ?_
 refine Nt ?_
 obtain ⟨j21, hj21, h⟩ := bnd h
 refine WC.joinE (fun (_ : Unit) ρ' M' H' => M.le M' ∧ F = H') j21 ?_ ?_
 have h321 := h
 have h := hj21
 refine Sr ?_
 refine Pm (GV a0) (hρ 0) rfl ?_
 obtain ⟨r22, hr23, h⟩ := bnd h
 refine WL.eff (EO.call0 co55 (f_fault_Path_ok a0 _ hE r22 hr23) (args1 rfl)) rfl ?_
 rintro _ M24 _ hle25 ⟨_, ⟨vq26, cq26, rfl, rfl, hq26⟩, rfl⟩
 have hE := hE.mono hle25
 refine WL.a1 ?_
 refine Pu (.int .i64 (r22.length : Int)) (PO.lenS Tryd.underlying103 rfl hq26.len) rfl ?_
 refine Pm (.int .i64 (0 : Int)) rfl rfl ?_
 refine Nt ?_
 refine WC.block ?_
 obtain ⟨e27, he27, hK27⟩ := bnd h
 clear h
 refine WC.loop he27 (fun (x28 : Int) ρ' M' H' => M24.le M' ∧ cq26 :: F = H' ∧ ρ' 1 = (.string a1) ∧ ρ' 8 = vq26 ∧ ρ' 9 = (.int .i64 (r22.length : Int)) ∧ ρ' 10 = (.int .i64 x28)) ?_ ?_
 exact ⟨(IM.le.refl _), rfl, (hρ 1), rfl, rfl, rfl⟩
 rintro x28 o27 ρ27 M27 H27 h ⟨hle27, rfl, hs27_1, hs27_8, hs27_9, hs27_10⟩
 unfold f_fault_Under_l0 at h
 have hq26 := hq26.mono hle27
 have hE := hE.mono hle27
 refine Sr ?_
 refine Pu (.bool (decide (x28 < (r22.length : Int)))) (PO.lss hs27_10 hs27_9) rfl ?_
 refine Nt ?_
 refine WC.seq ?_
 refine WC.cond (b := decide (x28 < (r22.length : Int))) rfl (fun hb29 => ?_) (fun hb29 => ?_)
 have h := ite_t hb29 h
 refine WC.skip ?_
 refine WQ.thenC ?_
 refine WC.seq ?_
 refine WC.block ?_
 refine Sr ?_
 obtain ⟨hg30, h⟩ := grd_i h
 obtain ⟨p31, cs32, hat33, hrc34, hhas35⟩ := hq26.at hg30.1 hg30.2
 obtain rfl := hrc34
 refine Pu (.pointer (some p31)) (PO.indexAddr (n := r22.length) Tryd.underlying103 sz9 hs27_8 hs27_10 hg30.1 hg30.2 hat33) rfl ?_
 refine Pu (.string (rd r22 x28)) (PO.loadC 0 pl9 rfl rfl (chunkHas0 hhas35)) rfl ?_
 refine Pa (.string (rd r22 x28)) rfl rfl ?_
 refine Ns ?_
 refine Pm (.string (rd r22 x28)) rfl rfl ?_
 refine Pm (.string a1) hs27_1 rfl ?_
 refine Pu (.bool (decide ((rd r22 x28) = a1))) (PO.seql rfl rfl) rfl ?_
 refine Nt ?_
 refine WC.cond (b := decide ((rd r22 x28) = a1)) rfl (fun hb37 => ?_) (fun hb37 => ?_)
 have h := ite_t hb37 h
 refine Sr ?_
 refine Pa (.bool true) rfl rfl ?_
 refine Nt ?_
 refine WC.ret ?_
 refine WQ.blockR ?_
 refine WQ.thenR ?_
 refine WQ.leaveR (Sum.inr ()) (Option.some.inj h).symm (fun heq27 => ?_)
 subst heq27
 have h := (elimR hK27)
 refine WQ.blockR ?_
 refine WQ.thenR ?_
 have h := KK.early h h321
 refine WQ.drop ?_
 exact WQ.returnsF h [] rfl (results1 rfl rfl) (hle25.trans hle27) ⟨rfl, rfl⟩
 have h := ite_f hb37 h
 refine WC.skip ?_
 refine WQ.blockN ?_
 refine WQ.thenC ?_
 refine WC.region ?_
 refine Pu (.int .i64 (IntKind.i64.wrap (x28 + (1 : Int)))) (PO.add hs27_10 rfl) rfl ?_
 refine Pm (.int .i64 (IntKind.i64.wrap (x28 + (1 : Int)))) rfl rfl ?_
 refine WL.nil ?_
 refine WQ.again (IntKind.i64.wrap (x28 + (1 : Int))) (Option.some.inj h).symm ?_
 exact ⟨hle27, rfl, hs27_1, hs27_8, hs27_9, rfl⟩
 have h := ite_f hb29 h
 refine WC.exit ?_
 refine WQ.thenE ?_
 refine WQ.leaveE (Sum.inl ()) (Option.some.inj h).symm (fun heq27 => ?_)
 subst heq27
 have h := elimL hK27
 refine WQ.blockH ?_
 refine WQ.drop ?_
 refine WQ.thenFE h ?_
 exact ⟨(hle25.trans hle27), rfl⟩
 rintro _ ρ21 M21 H21 rfl ⟨hle21, rfl⟩
 have hE := hE.mono hle21
 refine Sr ?_
 refine Pa (.bool false) rfl rfl ?_
 refine Nt ?_
 refine WC.ret ?_
 exact WQ.returnsF h [] rfl (results1 rfl rfl) hle21 ⟨rfl, rfl⟩

noncomputable def f_law02_wrong (a0 : GErr) (a1 : T_ref02_State) : Option Bool :=
  (if a0.isNil = true then (some (decide (a1.Code = (0 : Int)))) else ((f_fault_Where a0).bind fun (r23, r24) => ((((f_fault_Of a0).bind fun (r32 : Int) => (if (decide (r32 = a1.Code)) = true then (if r24 = true then (if (decide (r23 = a1.Where)) = true then ((f_fault_Under a0 a1.Op).bind fun (r40 : Bool) => (some r40)) else (some false)) else (some false)) else (some false))) : Option Bool).bind fun (x30 : Bool) => (some x30))))
def f_law02_wrong_post (a0 : GErr) (a1 : T_ref02_State) : Bool → Value → IM → HL → Prop :=
  fun (r0 : Bool) (v : Value) (M' : IM) (H' : HL) => (.bool r0) = v ∧ H' = []
set_option maxHeartbeats 8000000 in
set_option maxRecDepth 100000 in
theorem f_law02_wrong_ok (a0 : GErr) (a1 : T_ref02_State) (M : IM) (hE : Env M) (res : Bool) (h : f_law02_wrong a0 a1 = some res) :
    Tri Tryd.prog 35 #[(GV a0), (.agg #[(.int .i64 a1.At), (.int .i64 a1.Code), (.string a1.Op), (.int .i64 a1.Where)])] M [] (f_law02_wrong_post a0 a1 res) := by
 unfold f_law02_wrong at h
 refine Tri.enter (fn := Tryd.f35) Tryd.func35 rfl (Nat.le_of_ble_eq_true rfl) ?_
 intro F ρ hρ
 refine Sr ?_
 refine WL.eff (EO.box (cs := #[(.int .i64 a1.At), (.int .i64 a1.Code), (.string a1.Op), (.int .i64 a1.Where)]) (congrArg Value.cells (asE (.agg #[(.int .i64 a1.At), (.int .i64 a1.Code), (.string a1.Op), (.int .i64 a1.Where)]) (hρ 1)))) rfl ?_
 rintro _ _ _ - ⟨rfl, g21, rfl, rfl⟩
 refine Pa (.bool false) rfl rfl ?_
 refine Nt ?_
 refine WC.seq ?_
 refine Sr ?_
 refine Pm (GV a0) (hρ 0) rfl ?_
 refine Pu (.bool a0.isNil) (PO.errNil Tryd.underlying45 rfl) rfl ?_
 refine Nt ?_
 refine WC.cond (b := a0.isNil) rfl (fun hb22 => ?_) (fun hb22 => ?_)
 have h := ite_t hb22 h
 refine Sr ?_
 refine Pu (.pointer (some ⟨g21, 1, none⟩)) (PO.fieldAddr fo63_1 rfl rfl) rfl ?_
 refine Pu (.int .i64 a1.Code) (PO.loadB 0 pl56 rfl rfl rfl) rfl ?_
 refine Pu (.bool (decide (a1.Code = (0 : Int)))) (PO.eql rfl rfl) rfl ?_
 refine Pa (.bool (decide (a1.Code = (0 : Int)))) rfl rfl ?_
 refine Nt ?_
 refine WC.ret ?_
 refine WQ.thenR ?_
 refine WQ.drop ?_
 exact WQ.returnsF h [] rfl (results1 rfl rfl) (IM.le.refl _) ⟨rfl, rfl⟩
 have h := ite_f hb22 h
 refine WC.skip ?_
 refine WQ.thenC ?_
 refine Sr ?_
 refine Pm (GV a0) (hρ 0) rfl ?_
 obtain ⟨⟨r23, r24⟩, hr25, h⟩ := bnd h
 refine WL.eff (EO.call0 co32 (f_fault_Where_ok a0 _ hE (r23, r24) hr25) (args1 rfl)) rfl ?_
 rintro _ M26 _ hle27 ⟨_, ⟨rfl, rfl⟩, rfl⟩
 have hE := hE.mono hle27
 refine WL.a0 ?_
 refine Pm (.tuple #[(.int .i64 r23), (.bool r24)]) rfl rfl ?_
 refine Pu (.int .i64 r23) (PO.extract rfl rfl) rfl ?_
 refine Pu (.bool r24) (PO.extract rfl rfl) rfl ?_
 refine Pa (.int .i64 r23) rfl rfl ?_
 refine Pa (.bool r24) rfl rfl ?_
 refine Nt ?_
 obtain ⟨x30, hj31, h⟩ := bnd h
 refine WC.joinF (fun (x30 : Bool) ρ' M' H' => M26.le M' ∧ [(g21, .cells #[(.int .i64 a1.At), (.int .i64 a1.Code), (.string a1.Op), (.int .i64 a1.Where)] 63 (0, 0))] :: F = H' ∧ ρ' 4 = (.bool x30)) x30 ?_ ?_
 have h331 := h
 have h := hj31
 refine WC.draw [0, 1, 0, 4, 15, 31, 63, 127, 255, 511, 511, 1535, 4095, 8191, 16383, 32767, 32767, 98303, 262143, 524287, 1048575] (.pure 0 (.pure 2 (.pure 3 (.alt 1 (.pure 4 (.pure 5 (.pure 6 (.pure 7 (.pure 8 (.pure 9 (.pure 10 (.pure 11 (.pure 12 (.pure 13 (.pure 14 (.pure 15 (.pure 16 (.pure 17 (.alt 18 (.pure 19 (.pure 20 .done)) .none))))))))))))))) .none)))) mixed (by kernel_rfl) ?_
 refine Tp (GV a0) rfl (PO.move (hρ 0)) rfl ?_
 refine Tp (.pointer (some ⟨g21, 1, none⟩)) rfl (PO.fieldAddr fo63_1 rfl rfl) rfl ?_
 refine Tp (.int .i64 a1.Code) rfl (PO.loadB 0 pl56 rfl rfl rfl) rfl ?_
 obtain ⟨r32, hr33, h⟩ := bnd h
 refine WT.alt rfl (EO.call0 co31 (f_fault_Of_ok a0 _ hE r32 hr33) (args1 rfl)) rfl ?_ ?_
 rintro _ M34 _ hle35 ⟨_, ⟨rfl, rfl⟩, rfl⟩
 have hE := hE.mono hle35
 refine ⟨(StabL.st (StabA.of rfl (PO.loadB 0 pl56 rfl rfl rfl) rfl) (StabL.st (StabA.of rfl (PO.fieldAddr fo63_1 rfl rfl) rfl) (StabL.anc rfl trivial))), ?_⟩
 refine WT.a0 ?_
 refine Tp (.bool (decide (r32 = a1.Code))) rfl (PO.eql rfl rfl) rfl ?_
 refine Tp (.bool (decide (r32 = a1.Code))) rfl (PO.move rfl) rfl ?_
 rcases Bool.eq_false_or_eq_true (decide (r32 = a1.Code)) with hb37 | hb37
 have h := ite_t hb37 h
 refine Tn (.bool r24) 22 rfl rfl rfl hb37 (PO.move rfl) rfl ?_
 refine Tp (.bool r24) rfl (PO.pickT rfl hb37 rfl) rfl ?_
 refine Tp (.bool r24) rfl (PO.move rfl) rfl ?_
 rcases Bool.eq_false_or_eq_true (r24) with hb38 | hb38
 have h := ite_t hb38 h
 refine Tn (.int .i64 r23) 25 rfl rfl rfl hb38 (PO.move rfl) rfl ?_
 refine Tn (.pointer (some ⟨g21, 3, none⟩)) 25 rfl rfl rfl hb38 (PO.fieldAddr fo63_3 rfl rfl) rfl ?_
 refine Tn (.int .i64 a1.Where) 25 rfl rfl rfl hb38 (PO.loadB 0 pl3 rfl rfl rfl) rfl ?_
 refine Tn (.bool (decide (r23 = a1.Where))) 25 rfl rfl rfl hb38 (PO.eql rfl rfl) rfl ?_
 refine Tp (.bool (decide (r23 = a1.Where))) rfl (PO.pickT rfl hb38 rfl) rfl ?_
 refine Tp (.bool (decide (r23 = a1.Where))) rfl (PO.move rfl) rfl ?_
 rcases Bool.eq_false_or_eq_true (decide (r23 = a1.Where)) with hb39 | hb39
 have h := ite_t hb39 h
 refine Tn (GV a0) 31 rfl rfl rfl hb39 (PO.move (hρ 0)) rfl ?_
 refine Tn (.pointer (some ⟨g21, 2, none⟩)) 31 rfl rfl rfl hb39 (PO.fieldAddr fo63_2 rfl rfl) rfl ?_
 refine Tn (.string a1.Op) 31 rfl rfl rfl hb39 (PO.loadB 0 pl9 rfl rfl rfl) rfl ?_
 obtain ⟨r40, hr41, h⟩ := bnd h
 refine WT.altOn 31 rfl rfl rfl hb39 (EO.call0 co48 (f_fault_Under_ok a0 a1.Op _ hE r40 hr41) (args2 rfl rfl)) rfl ?_ ?_
 rintro _ M42 _ hle43 ⟨_, ⟨rfl, rfl⟩, rfl⟩
 have hE := hE.mono hle43
 refine ⟨(StabL.anc rfl (StabL.anc rfl (StabL.anc rfl (StabL.anc rfl (StabL.anc rfl (StabL.anc rfl (StabL.anc rfl (StabL.anc rfl (StabL.anc rfl (StabL.anc rfl (StabL.anc rfl (StabL.anc rfl (StabL.anc rfl (StabL.anc rfl (StabL.anc rfl (StabL.anc rfl (StabL.anc rfl trivial))))))))))))))))), ?_⟩
 refine WT.a0 ?_
 refine Tp (.bool r40) rfl (PO.pickT rfl hb39 rfl) rfl ?_
 refine Tp (.bool r40) rfl (PO.assign rfl) rfl ?_
 refine WT.fin ?_
 obtain rfl := Option.some.inj h
 refine WQ.thenJ ?_
 exact ⟨(hle35.trans hle43), rfl, rfl⟩
 exact WT.no
 have h := ite_f hb39 h
 refine WT.pureOff 31 rfl rfl rfl hb39 rfl ?_
 refine WT.pureOff 31 rfl rfl rfl hb39 rfl ?_
 refine WT.pureOff 31 rfl rfl rfl hb39 rfl ?_
 refine WT.altOff 31 rfl rfl rfl hb39 rfl ⟨(StabL.anc rfl (StabL.anc rfl (StabL.anc rfl (StabL.anc rfl (StabL.anc rfl (StabL.anc rfl (StabL.anc rfl (StabL.anc rfl (StabL.anc rfl (StabL.anc rfl (StabL.anc rfl (StabL.anc rfl (StabL.anc rfl (StabL.anc rfl (StabL.anc rfl (StabL.anc rfl (StabL.anc rfl trivial))))))))))))))))), ?_⟩ ?_
 refine Tp (.bool false) rfl (PO.pickF rfl hb39 rfl) rfl ?_
 refine Tp (.bool false) rfl (PO.assign rfl) rfl ?_
 refine WT.fin ?_
 obtain rfl := Option.some.inj h
 refine WQ.thenJ ?_
 exact ⟨hle35, rfl, rfl⟩
 exact WT.no
 have h := ite_f hb38 h
 refine WT.pureOff 25 rfl rfl rfl hb38 rfl ?_
 refine WT.pureOff 25 rfl rfl rfl hb38 rfl ?_
 refine WT.pureOff 25 rfl rfl rfl hb38 rfl ?_
 refine WT.pureOff 25 rfl rfl rfl hb38 rfl ?_
 refine Tp (.bool false) rfl (PO.pickF rfl hb38 rfl) rfl ?_
 refine Tp (.bool false) rfl (PO.move rfl) rfl ?_
 refine WT.pureOff 31 rfl rfl rfl rfl rfl ?_
 refine WT.pureOff 31 rfl rfl rfl rfl rfl ?_
 refine WT.pureOff 31 rfl rfl rfl rfl rfl ?_
 refine WT.altOff 31 rfl rfl rfl rfl rfl ⟨(StabL.anc rfl (StabL.anc rfl (StabL.anc rfl (StabL.anc rfl (StabL.anc rfl (StabL.anc rfl (StabL.anc rfl (StabL.anc rfl (StabL.anc rfl (StabL.anc rfl (StabL.anc rfl (StabL.anc rfl (StabL.anc rfl (StabL.anc rfl (StabL.anc rfl (StabL.anc rfl (StabL.anc rfl trivial))))))))))))))))), ?_⟩ ?_
 refine Tp (.bool false) rfl (PO.pickF rfl rfl rfl) rfl ?_
 refine Tp (.bool false) rfl (PO.assign rfl) rfl ?_
 refine WT.fin ?_
 obtain rfl := Option.some.inj h
 refine WQ.thenJ ?_
 exact ⟨hle35, rfl, rfl⟩
 exact WT.no
 have h := ite_f hb37 h
 refine WT.pureOff 22 rfl rfl rfl hb37 rfl ?_
 refine Tp (.bool false) rfl (PO.pickF rfl hb37 rfl) rfl ?_
 refine Tp (.bool false) rfl (PO.move rfl) rfl ?_
 refine WT.pureOff 25 rfl rfl rfl rfl rfl ?_
 refine WT.pureOff 25 rfl rfl rfl rfl rfl ?_
 refine WT.pureOff 25 rfl rfl rfl rfl rfl ?_
 refine WT.pureOff 25 rfl rfl rfl rfl rfl ?_
 refine Tp (.bool false) rfl (PO.pickF rfl rfl rfl) rfl ?_
 refine Tp (.bool false) rfl (PO.move rfl) rfl ?_
 refine WT.pureOff 31 rfl rfl rfl rfl rfl ?_
 refine WT.pureOff 31 rfl rfl rfl rfl rfl ?_
 refine WT.pureOff 31 rfl rfl rfl rfl rfl ?_
 refine WT.altOff 31 rfl rfl rfl rfl rfl ⟨(StabL.anc rfl (StabL.anc rfl (StabL.anc rfl (StabL.anc rfl (StabL.anc rfl (StabL.anc rfl (StabL.anc rfl (StabL.anc rfl (StabL.anc rfl (StabL.anc rfl (StabL.anc rfl (StabL.anc rfl (StabL.anc rfl (StabL.anc rfl (StabL.anc rfl (StabL.anc rfl (StabL.anc rfl trivial))))))))))))))))), ?_⟩ ?_
 refine Tp (.bool false) rfl (PO.pickF rfl rfl rfl) rfl ?_
 refine Tp (.bool false) rfl (PO.assign rfl) rfl ?_
 refine WT.fin ?_
 obtain rfl := Option.some.inj h
 refine WQ.thenJ ?_
 exact ⟨hle35, rfl, rfl⟩
 exact WT.no
 exact WT.no
 rintro ρ31 M31 H31 ⟨hle31, rfl, hs31_4⟩
 have hE := hE.mono hle31
 refine WC.ret ?_
 refine WQ.drop ?_
 exact WQ.returnsF h [] rfl (results1 rfl hs31_4) (hle27.trans hle31) ⟨rfl, rfl⟩


end Go.Proofs.YtdlilclopmhiaaaDoor.G
