/- Go functions: what they come to, and that they do. Printed by a program of the session (gen). -/
import Derived.Test.YtjgnbbakamellaaGreatDoorBF
import Derived.Test.YtjgnbbakamellaaGreatDoorB15
import Derived.Test.YtjgnbbakamellaaGreatDoorKConv
import Derived.Test.YtjgnbbakamellaaGreatDoorKEq2
set_option linter.unusedVariables false
set_option linter.unusedSimpArgs false
set_option maxHeartbeats 8000000
set_option maxRecDepth 100000
namespace Go.Proofs.YtjgnbbakamellaaGreatDoor.G
open Go Go.KK

noncomputable def f_ref22_Read (a0 : T_api_Frame) : Option (T_api_Request × T_ref22_Wrong) :=
  (if (decide (a0.Kind ≠ (16 : Int))) = true then (some ((⟨(0 : Int), (0 : Int), (0 : Int), (⟨#[]⟩ : ByteArray), (⟨#[]⟩ : ByteArray), (⟨#[]⟩ : ByteArray), false, (0 : Int), (0 : Int), (0 : Int), [], (0 : Int), (0 : Int), (⟨#[]⟩ : ByteArray), (⟨(0 : Int), (0 : Int), (0 : Int), false, false⟩ : T_api_Word)⟩ : T_api_Request), (⟨(⟨#[102, 114, 97, 109, 101]⟩ : ByteArray), a0.Kind, (5 : Int)⟩ : T_ref22_Wrong))) else ((f_ref05_Cursor_Int (⟨a0.Body, (⟨(0 : Int), (0 : Int), (⟨#[]⟩ : ByteArray), (0 : Int)⟩ : T_ref02_State)⟩ : T_ref05_Cursor) (1073741824 : Int)).bind fun (r28, r29, r30, r31, r32) => ((f_ref05_Cursor_Int (⟨a0.Body, (⟨r29, r30, r31, r32⟩ : T_ref02_State)⟩ : T_ref05_Cursor) (1073741824 : Int)).bind fun (r37, r38, r39, r40, r41) => ((f_ref05_Cursor_Int (⟨a0.Body, (⟨r38, r39, r40, r41⟩ : T_ref02_State)⟩ : T_ref05_Cursor) (63 : Int)).bind fun (r46, r47, r48, r49, r50) => ((f_ref22_letters r46).bind fun (r55 : ByteArray) => (if (decide (r55 = (⟨#[]⟩ : ByteArray))) = true then ((f_ref05_Cursor_Refuse (⟨a0.Body, (⟨r47, r48, r49, r50⟩ : T_ref02_State)⟩ : T_ref05_Cursor) (⟨#[107, 105, 110, 100]⟩ : ByteArray) (5 : Int)).bind fun (r61, r62, r63) => ((f_ref22_bad (⟨a0.Body, (⟨r47, r61, r62, r63⟩ : T_ref02_State)⟩ : T_ref05_Cursor)).bind fun (r67 : T_ref22_Wrong) => (some ((⟨(0 : Int), (0 : Int), (0 : Int), (⟨#[]⟩ : ByteArray), (⟨#[]⟩ : ByteArray), (⟨#[]⟩ : ByteArray), false, (0 : Int), (0 : Int), (0 : Int), [], (0 : Int), (0 : Int), (⟨#[]⟩ : ByteArray), (⟨(0 : Int), (0 : Int), (0 : Int), false, false⟩ : T_api_Word)⟩ : T_api_Request), r67)))) else ((f_ref22_has r46 (110 : Int)).bind fun (r73 : Bool) => ((f_ref22_word (⟨a0.Body, (⟨r47, r48, r49, r50⟩ : T_ref02_State)⟩ : T_ref05_Cursor) r73 (40 : Int)).bind fun (r78, r79, r80, r81, r82) => ((f_ref22_has r46 (107 : Int)).bind fun (r87 : Bool) => ((f_ref22_word (⟨a0.Body, (⟨r79, r80, r81, r82⟩ : T_ref02_State)⟩ : T_ref05_Cursor) r87 (40 : Int)).bind fun (r92, r93, r94, r95, r96) => ((f_ref22_has r46 (107 : Int)).bind fun (r101 : Bool) => ((f_ref22_word (⟨a0.Body, (⟨r93, r94, r95, r96⟩ : T_ref02_State)⟩ : T_ref05_Cursor) r101 (256 : Int)).bind fun (r106, r107, r108, r109, r110) => ((((f_ref22_has r46 (107 : Int)).bind fun (r121 : Bool) => (if r121 = true then ((f_ref05_Cursor_Flag (⟨a0.Body, (⟨r107, r108, r109, r110⟩ : T_ref02_State)⟩ : T_ref05_Cursor)).bind fun (r127, r128, r129, r130, r131) => (some (r127, r128, r129, r130, r131))) else (some (false, r107, r108, r109, r110)))) : Option (Bool × Int × Int × ByteArray × Int)).bind fun (x115, x116, x117, x118, x119) => ((f_ref22_has r46 (113 : Int)).bind fun (r136 : Bool) => ((f_ref22_some (⟨a0.Body, (⟨x116, x117, x118, x119⟩ : T_ref02_State)⟩ : T_ref05_Cursor) r136).bind fun (r141, r142, r143, r144, r145) => ((f_ref22_has r46 (114 : Int)).bind fun (r150 : Bool) => ((f_ref22_some (⟨a0.Body, (⟨r142, r143, r144, r145⟩ : T_ref02_State)⟩ : T_ref05_Cursor) r150).bind fun (r155, r156, r157, r158, r159) => ((f_ref22_has r46 (112 : Int)).bind fun (r164 : Bool) => ((f_ref22_some (⟨a0.Body, (⟨r156, r157, r158, r159⟩ : T_ref02_State)⟩ : T_ref05_Cursor) r164).bind fun (r169, r170, r171, r172, r173) => ((f_ref22_has r46 (98 : Int)).bind fun (r178 : Bool) => ((f_ref22_some (⟨a0.Body, (⟨r170, r171, r172, r173⟩ : T_ref02_State)⟩ : T_ref05_Cursor) r178).bind fun (r183, r184, r185, r186, r187) => ((f_ref22_has r46 (101 : Int)).bind fun (r192 : Bool) => ((f_ref22_some (⟨a0.Body, (⟨r184, r185, r186, r187⟩ : T_ref02_State)⟩ : T_ref05_Cursor) r192).bind fun (r197, r198, r199, r200, r201) => ((((f_ref22_has r46 (105 : Int)).bind fun (r212 : Bool) => (if r212 = true then ((f_ref05_Cursor_Row (⟨a0.Body, (⟨r198, r199, r200, r201⟩ : T_ref02_State)⟩ : T_ref05_Cursor) (7 : Int) (64 : Int)).bind fun (r218, r219, r220, r221, r222) => (some (r218, r219, r220, r221, r222))) else (some ([], r198, r199, r200, r201)))) : Option ((List Int) × Int × Int × ByteArray × Int)).bind fun (x206, x207, x208, x209, x210) => ((f_ref22_has r46 (99 : Int)).bind fun (r228 : Bool) => ((f_ref22_word (⟨a0.Body, (⟨x207, x208, x209, x210⟩ : T_ref02_State)⟩ : T_ref05_Cursor) r228 (40 : Int)).bind fun (r233, r234, r235, r236, r237) => ((((f_ref22_has r46 (119 : Int)).bind fun (r252 : Bool) => (if r252 = true then ((f_ref05_Cursor_Int (⟨a0.Body, (⟨r234, r235, r236, r237⟩ : T_ref02_State)⟩ : T_ref05_Cursor) (1073741824 : Int)).bind fun (r258, r259, r260, r261, r262) => ((f_ref05_Cursor_Int (⟨a0.Body, (⟨r259, r260, r261, r262⟩ : T_ref02_State)⟩ : T_ref05_Cursor) (1073741824 : Int)).bind fun (r267, r268, r269, r270, r271) => ((f_ref05_Cursor_Int (⟨a0.Body, (⟨r268, r269, r270, r271⟩ : T_ref02_State)⟩ : T_ref05_Cursor) (1073741824 : Int)).bind fun (r276, r277, r278, r279, r280) => ((f_ref05_Cursor_Flag (⟨a0.Body, (⟨r277, r278, r279, r280⟩ : T_ref02_State)⟩ : T_ref05_Cursor)).bind fun (r285, r286, r287, r288, r289) => ((f_ref05_Cursor_Flag (⟨a0.Body, (⟨r286, r287, r288, r289⟩ : T_ref02_State)⟩ : T_ref05_Cursor)).bind fun (r294, r295, r296, r297, r298) => (some (r258, r267, r276, r285, r294, r295, r296, r297, r298))))))) else (some ((0 : Int), (0 : Int), (0 : Int), false, false, r234, r235, r236, r237)))) : Option (Int × Int × Int × Bool × Bool × Int × Int × ByteArray × Int)).bind fun (x242, x243, x244, x245, x246, x247, x248, x249, x250) => ((f_ref05_Cursor_End (⟨a0.Body, (⟨x247, x248, x249, x250⟩ : T_ref02_State)⟩ : T_ref05_Cursor)).bind fun (r303, r304, r305, r306) => (if (decide (r304 ≠ (0 : Int))) = true then ((f_ref22_bad (⟨a0.Body, (⟨r303, r304, r305, r306⟩ : T_ref02_State)⟩ : T_ref05_Cursor)).bind fun (r311 : T_ref22_Wrong) => (some ((⟨(0 : Int), (0 : Int), (0 : Int), (⟨#[]⟩ : ByteArray), (⟨#[]⟩ : ByteArray), (⟨#[]⟩ : ByteArray), false, (0 : Int), (0 : Int), (0 : Int), [], (0 : Int), (0 : Int), (⟨#[]⟩ : ByteArray), (⟨(0 : Int), (0 : Int), (0 : Int), false, false⟩ : T_api_Word)⟩ : T_api_Request), r311))) else ((f_ref22_Check (⟨r28, r37, r46, r78, r92, r106, x115, r141, r155, r169, x206, r183, r197, r233, (⟨x242, x243, x244, x245, x246⟩ : T_api_Word)⟩ : T_api_Request)).bind fun (r317 : T_ref22_Wrong) => (if (decide (r317.Code ≠ (0 : Int))) = true then (some ((⟨(0 : Int), (0 : Int), (0 : Int), (⟨#[]⟩ : ByteArray), (⟨#[]⟩ : ByteArray), (⟨#[]⟩ : ByteArray), false, (0 : Int), (0 : Int), (0 : Int), [], (0 : Int), (0 : Int), (⟨#[]⟩ : ByteArray), (⟨(0 : Int), (0 : Int), (0 : Int), false, false⟩ : T_api_Word)⟩ : T_api_Request), r317)) else (some ((⟨r28, r37, r46, r78, r92, r106, x115, r141, r155, r169, x206, r183, r197, r233, (⟨x242, x243, x244, x245, x246⟩ : T_api_Word)⟩ : T_api_Request), (⟨(⟨#[]⟩ : ByteArray), (0 : Int), (0 : Int)⟩ : T_ref22_Wrong))))))))))))))))))))))))))))))))))
def f_ref22_Read_post (a0 : T_api_Frame) (v0_1 : Value) : (T_api_Request × T_ref22_Wrong) → Value → IM → HL → Prop :=
  fun (p_ : (T_api_Request × T_ref22_Wrong)) (v : Value) (M' : IM) (H' : HL) => match p_ with | (r0, r1) => ∃ vz0_10 cz0_10, (.tuple #[(.agg #[(.int .i64 r0.Client), (.int .i64 r0.Serial), (.int .i64 r0.Kind), (.string r0.Name), (.string r0.Key), (.string r0.Value), (.bool r0.Flag), (.int .i64 r0.Parts), (.int .i64 r0.Replicas), (.int .i64 r0.Part), vz0_10, (.int .i64 r0.Broker), (.int .i64 r0.Epoch), (.string r0.Rack), (.int .i64 r0.Word.Broker), (.int .i64 r0.Word.Epoch), (.int .i64 r0.Word.High), (.bool r0.Word.Fence), (.bool r0.Word.Leave)]), (.agg #[(.string r1.Op), (.int .i64 r1.At), (.int .i64 r1.Code)])]) = v ∧ H' = [cz0_10] ∧ OwnS (Kd.int .i64) M' vz0_10 r0.Ids cz0_10
theorem f_ref22_Read_ok (a0 : T_api_Frame) (M : IM) (v0_1 : Value) (h0_1 : RS (Kd.int .u8) M v0_1 a0.Body) (res : (T_api_Request × T_ref22_Wrong)) (h : f_ref22_Read a0 = some res) :
    Tri Tryz.prog 6 #[(.agg #[(.int .i64 a0.Kind), v0_1])] M [] (f_ref22_Read_post a0 v0_1 res) := by
 unfold f_ref22_Read at h
 refine Tri.enter (fn := Tryz.f6) Tryz.func6 rfl (Nat.le_of_ble_eq_true rfl) ?_
 intro F ρ hρ
 refine Sr ?_
 refine WL.eff (EO.box (cs := #[(.int .i64 a0.Kind), v0_1]) (congrArg Value.cells (asE (.agg #[(.int .i64 a0.Kind), v0_1]) (hρ 0)))) rfl ?_
 rintro _ _ _ - ⟨rfl, g21, rfl, rfl⟩
 refine WL.eff (EO.alloc ze28 rfl) rfl ?_
 rintro _ _ _ - ⟨rfl, g22, rfl, rfl⟩
 refine WL.eff (EO.alloc ze37 rfl) rfl ?_
 rintro _ _ _ - ⟨rfl, g23, rfl, rfl⟩
 refine Nt ?_
 refine WC.seq ?_
 refine Sr ?_
 refine Pu (pt g21 0) (PO.fieldAddr fo34_0 rfl rfl) rfl ?_
 refine Pu (.int .i64 a0.Kind) (PO.loadB 2 pl3 rfl rfl rfl) rfl ?_
 refine Pu (.bool (decide (a0.Kind ≠ 16))) (PO.neq rfl rfl) rfl ?_
 refine Nt ?_
 refine WC.cond (b := decide (a0.Kind ≠ 16)) rfl (fun hb24 => ?_) (fun hb24 => ?_)
 have h := ite_t hb24 h
 refine WC.seq ?_
 refine WC.draw [0, 0, 2, 6, 1, 31] (.pure 0 (.pure 1 (.pure 2 (.pure 3 (.alt 4 (.alt 5 .done .none) .none))))) mixed (by kernel_rfl) ?_
 refine Tp (.agg z28_.toArray) rfl (PO.buildL (cl := z28_) ze28 fp28 Parts.nil rfl) rfl ?_
 refine Tp (pt g21 0) rfl (PO.fieldAddr fo34_0 rfl rfl) rfl ?_
 refine Tp (.int .i64 a0.Kind) rfl (PO.loadB 2 pl3 rfl rfl rfl) rfl ?_
 refine Tp (.agg #[(.string ⟨#[102, 114, 97, 109, 101]⟩), (.int .i64 a0.Kind), (.int .i64 5)]) rfl (PO.buildL (cl := [(.string ⟨#[102, 114, 97, 109, 101]⟩), (.int .i64 a0.Kind), (.int .i64 5)]) ze37 fp37 (Parts.cons (congrArg Value.cells (show ev _ _ = (.string ⟨#[102, 114, 97, 109, 101]⟩) from rfl)) (Parts.cons (congrArg Value.cells (show ev _ _ = (.int .i64 a0.Kind) from rfl)) (Parts.cons (congrArg Value.cells (show ev _ _ = (.int .i64 5) from rfl)) Parts.nil))) rfl) rfl ?_
 refine WT.f1 ?_
 refine WT.alt rfl (EO.storeL (v := (.agg z28_.toArray)) (vl := z28_) (arr' := z28_) rfl sz28 rfl rfl (onesOf (Ones.cons rfl (Ones.cons rfl (Ones.cons rfl (Ones.cons rfl (Ones.cons rfl (Ones.cons rfl (Ones.cons rfl (Ones.cons rfl (Ones.cons rfl (Ones.cons rfl (Ones.cons rfl (Ones.cons rfl (Ones.cons rfl (Ones.cons rfl (Ones.cons rfl (Ones.cons rfl (Ones.cons rfl (Ones.cons rfl (Ones.cons rfl Ones.nil)))))))))))))))))))) rfl rfl (by kernel_rfl)) rfl ?_ ?_
 rintro _ _ _ - ⟨rfl, rfl⟩
 refine ⟨(StabL.st (StabA.of rfl (PO.buildL (cl := [(.string ⟨#[102, 114, 97, 109, 101]⟩), (.int .i64 a0.Kind), (.int .i64 5)]) ze37 fp37 (Parts.cons (congrArg Value.cells (show ev _ _ = (.string ⟨#[102, 114, 97, 109, 101]⟩) from rfl)) (Parts.cons (congrArg Value.cells (show ev _ _ = (.int .i64 a0.Kind) from rfl)) (Parts.cons (congrArg Value.cells (show ev _ _ = (.int .i64 5) from rfl)) Parts.nil))) rfl) rfl) (StabL.st (StabA.of rfl (PO.loadB 2 pl3 rfl rfl rfl) rfl) (StabL.st (StabA.of rfl (PO.fieldAddr fo34_0 rfl rfl) rfl) (StabL.anc rfl trivial)))), ?_⟩
 refine WT.f1 ?_
 refine WT.alt rfl (EO.storeL (v := (.agg #[(.string ⟨#[102, 114, 97, 109, 101]⟩), (.int .i64 a0.Kind), (.int .i64 5)])) (vl := [(.string ⟨#[102, 114, 97, 109, 101]⟩), (.int .i64 a0.Kind), (.int .i64 5)]) (arr' := [(.string ⟨#[102, 114, 97, 109, 101]⟩), (.int .i64 a0.Kind), (.int .i64 5)]) rfl sz37 rfl rfl (onesOf (Ones.cons rfl (Ones.cons rfl (Ones.cons rfl Ones.nil)))) rfl rfl rfl) rfl ?_ ?_
 rintro _ _ _ - ⟨rfl, rfl⟩
 refine ⟨(StabL.anc rfl (StabL.anc rfl (StabL.anc rfl (StabL.anc rfl trivial)))), ?_⟩
 refine WT.fin ?_
 refine WQ.thenC ?_
 refine WC.ret ?_
 refine WQ.thenR ?_
 refine WQ.e0 ?_
 refine WQ.f3 ?_
 refine WQ.drop ?_
 refine WQ.f1 ?_
 refine WQ.f2 ?_
 exact WQ.returnsD h [[]] (fun _ hs => hs.drop.drop) (resultsLN rfl (RVs.cons (RV.cellA (cs := z28_) 0 ag28 sz28 rfl rfl rfl) (RVs.cons (RV.cellA (cs := [(.string ⟨#[102, 114, 97, 109, 101]⟩), (.int .i64 a0.Kind), (.int .i64 5)]) 1 ag37 sz37 rfl rfl rfl) RVs.nil))) (IM.le.refl _) ⟨(.slice none 0 0), [], rfl, rfl, (OwnS.nil _ _)⟩
 exact WT.no
 exact WT.no
 have h := ite_f hb24 h
 refine WC.skip ?_
 refine WQ.thenC ?_
 refine Sr ?_
 refine Pu (pt g21 1) (PO.fieldAddr fo34_1 rfl rfl) rfl ?_
 refine Pu v0_1 (PO.loadB 2 pl22 rfl rfl rfl) rfl ?_
 refine Pu (.agg #[v0_1, (.int .i64 0), (.int .i64 0), (.string ⟨#[]⟩), (.int .i64 0)]) (PO.buildL (cl := [v0_1, (.int .i64 0), (.int .i64 0), (.string ⟨#[]⟩), (.int .i64 0)]) ze69 fp69 (Parts.cons ((congrArg Value.cells (show ev _ _ = v0_1 from rfl)).trans h0_1.cells) Parts.nil) rfl) rfl ?_
 refine WL.eff (EO.box (cs := #[v0_1, (.int .i64 0), (.int .i64 0), (.string ⟨#[]⟩), (.int .i64 0)]) (congrArg Value.cells (show ev _ _ = (.agg #[v0_1, (.int .i64 0), (.int .i64 0), (.string ⟨#[]⟩), (.int .i64 0)]) from rfl))) rfl ?_
 rintro _ _ _ - ⟨rfl, g26, rfl, rfl⟩
 refine Pa (pt g26 0) rfl rfl ?_
 refine Ns ?_
 refine Pu (.agg z28_.toArray) (PO.buildL (cl := z28_) ze28 fp28 Parts.nil rfl) rfl ?_
 refine WL.eff (EO.alloc ze28 rfl) rfl ?_
 rintro _ _ _ - ⟨rfl, g27, rfl, rfl⟩
 refine WL.eff (EO.storeL (v := (.agg z28_.toArray)) (vl := z28_) (arr' := z28_) rfl sz28 rfl rfl (onesOf (Ones.cons rfl (Ones.cons rfl (Ones.cons rfl (Ones.cons rfl (Ones.cons rfl (Ones.cons rfl (Ones.cons rfl (Ones.cons rfl (Ones.cons rfl (Ones.cons rfl (Ones.cons rfl (Ones.cons rfl (Ones.cons rfl (Ones.cons rfl (Ones.cons rfl (Ones.cons rfl (Ones.cons rfl (Ones.cons rfl (Ones.cons rfl Ones.nil)))))))))))))))))))) rfl rfl (by kernel_rfl)) rfl ?_
 rintro _ _ _ - ⟨rfl, rfl⟩
 refine Ns ?_
 refine Pm (pt g26 0) rfl rfl ?_
 obtain ⟨⟨r28, r29, r30, r31, r32⟩, hr33, h⟩ := bnd h
 refine WL.f1 ?_
 refine WL.eff (EO.call1 co28 (f_ref05_Cursor_Int_ok (⟨a0.Body, (⟨(0 : Int), (0 : Int), (⟨#[]⟩ : ByteArray), (0 : Int)⟩ : T_ref02_State)⟩ : T_ref05_Cursor) (1073741824 : Int) _ _ _ h0_1 (r28, r29, r30, r31, r32) hr33) (args2 rfl rfl)) rfl ?_
 rintro _ M34 _ hle35 ⟨_, ⟨rfl, rfl⟩, rfl⟩
 have h0_1 := h0_1.mono hle35
 refine WL.a1 ?_
 refine Pu (pt g27 0) (PO.fieldAddr fo28_0 rfl rfl) rfl ?_
 refine WL.f1 ?_
 refine WL.eff (EO.storeL (v := (.int .i64 r28)) (vl := [(.int .i64 r28)]) (arr' := [(.int .i64 r28), (.int .i64 0), (.int .i64 0), (.string ⟨#[]⟩), (.string ⟨#[]⟩), (.string ⟨#[]⟩), (.bool false), (.int .i64 0), (.int .i64 0), (.int .i64 0), (.slice none 0 0), (.int .i64 0), (.int .i64 0), (.string ⟨#[]⟩), (.int .i64 0), (.int .i64 0), (.int .i64 0), (.bool false), (.bool false)]) rfl sz3 rfl rfl (onesOf (Ones.cons rfl Ones.nil)) rfl rfl (by kernel_rfl)) rfl ?_
 rintro _ _ _ - ⟨rfl, rfl⟩
 refine Ns ?_
 refine Pm (pt g26 0) rfl rfl ?_
 obtain ⟨⟨r37, r38, r39, r40, r41⟩, hr42, h⟩ := bnd h
 refine WL.f1 ?_
 refine WL.eff (EO.call1 co28 (f_ref05_Cursor_Int_ok (⟨a0.Body, (⟨r29, r30, r31, r32⟩ : T_ref02_State)⟩ : T_ref05_Cursor) (1073741824 : Int) _ _ _ h0_1 (r37, r38, r39, r40, r41) hr42) (args2 rfl rfl)) rfl ?_
 rintro _ M43 _ hle44 ⟨_, ⟨rfl, rfl⟩, rfl⟩
 have h0_1 := h0_1.mono hle44
 refine WL.a1 ?_
 refine Pu (pt g27 1) (PO.fieldAddr fo28_1 rfl rfl) rfl ?_
 refine WL.f1 ?_
 refine WL.eff (EO.storeL (v := (.int .i64 r37)) (vl := [(.int .i64 r37)]) (arr' := [(.int .i64 r28), (.int .i64 r37), (.int .i64 0), (.string ⟨#[]⟩), (.string ⟨#[]⟩), (.string ⟨#[]⟩), (.bool false), (.int .i64 0), (.int .i64 0), (.int .i64 0), (.slice none 0 0), (.int .i64 0), (.int .i64 0), (.string ⟨#[]⟩), (.int .i64 0), (.int .i64 0), (.int .i64 0), (.bool false), (.bool false)]) rfl sz3 rfl rfl (onesOf (Ones.cons rfl Ones.nil)) rfl rfl (by kernel_rfl)) rfl ?_
 rintro _ _ _ - ⟨rfl, rfl⟩
 refine Ns ?_
 refine Pm (pt g26 0) rfl rfl ?_
 obtain ⟨⟨r46, r47, r48, r49, r50⟩, hr51, h⟩ := bnd h
 refine WL.f1 ?_
 refine WL.eff (EO.call1 co28 (f_ref05_Cursor_Int_ok (⟨a0.Body, (⟨r38, r39, r40, r41⟩ : T_ref02_State)⟩ : T_ref05_Cursor) (63 : Int) _ _ _ h0_1 (r46, r47, r48, r49, r50) hr51) (args2 rfl rfl)) rfl ?_
 rintro _ M52 _ hle53 ⟨_, ⟨rfl, rfl⟩, rfl⟩
 have h0_1 := h0_1.mono hle53
 refine WL.a1 ?_
 refine Pu (pt g27 2) (PO.fieldAddr fo28_2 rfl rfl) rfl ?_
 refine WL.f1 ?_
 refine WL.eff (EO.storeL (v := (.int .i64 r46)) (vl := [(.int .i64 r46)]) (arr' := [(.int .i64 r28), (.int .i64 r37), (.int .i64 r46), (.string ⟨#[]⟩), (.string ⟨#[]⟩), (.string ⟨#[]⟩), (.bool false), (.int .i64 0), (.int .i64 0), (.int .i64 0), (.slice none 0 0), (.int .i64 0), (.int .i64 0), (.string ⟨#[]⟩), (.int .i64 0), (.int .i64 0), (.int .i64 0), (.bool false), (.bool false)]) rfl sz3 rfl rfl (onesOf (Ones.cons rfl Ones.nil)) rfl rfl (by kernel_rfl)) rfl ?_
 rintro _ _ _ - ⟨rfl, rfl⟩
 refine Ns ?_
 refine Pu (pt g27 2) (PO.fieldAddr fo28_2 rfl rfl) rfl ?_
 refine Pu (.int .i64 r46) (PO.loadB 0 pl3 rfl rfl rfl) rfl ?_
 refine Pa (.int .i64 r46) rfl rfl ?_
 refine Nt ?_
 refine WC.seq ?_
 refine Sr ?_
 refine Pm (.int .i64 r46) rfl rfl ?_
 obtain ⟨r55, hr56, h⟩ := bnd h
 refine WL.eff (EO.call0 co29 (f_ref22_letters_ok r46 _ r55 hr56) (args1 rfl)) rfl ?_
 rintro _ M57 _ hle58 ⟨_, ⟨rfl, rfl⟩, rfl⟩
 have h0_1 := h0_1.mono hle58
 refine WL.a0 ?_
 refine Pu (.bool (decide (r55 = (⟨#[]⟩ : ByteArray)))) (PO.seql rfl rfl) rfl ?_
 refine Nt ?_
 refine WC.cond (b := decide (r55 = (⟨#[]⟩ : ByteArray))) rfl (fun hb60 => ?_) (fun hb60 => ?_)
 have h := ite_t hb60 h
 refine Sr ?_
 refine Pm (pt g26 0) rfl rfl ?_
 obtain ⟨⟨r61, r62, r63⟩, hr64, h⟩ := bnd h
 refine WL.f1 ?_
 refine WL.eff (EO.call1 co30 (f_ref05_Cursor_Refuse_ok (⟨a0.Body, (⟨r47, r48, r49, r50⟩ : T_ref02_State)⟩ : T_ref05_Cursor) (⟨#[107, 105, 110, 100]⟩ : ByteArray) (5 : Int) _ _ _ h0_1 (r61, r62, r63) hr64) (args3 rfl rfl rfl)) rfl ?_
 rintro _ M65 _ hle66 ⟨_, ⟨rfl, rfl⟩, rfl⟩
 have h0_1 := h0_1.mono hle66
 refine WL.a1 ?_
 refine Ns ?_
 refine Pu (.agg z28_.toArray) (PO.buildL (cl := z28_) ze28 fp28 Parts.nil rfl) rfl ?_
 refine Pm (pt g26 0) rfl rfl ?_
 obtain ⟨r67, hr68, h⟩ := bnd h
 refine WL.eff (EO.call1 co31 (f_ref22_bad_ok (⟨a0.Body, (⟨r47, r61, r62, r63⟩ : T_ref02_State)⟩ : T_ref05_Cursor) _ _ _ h0_1 r67 hr68) (args1 rfl)) rfl ?_
 rintro _ M69 _ hle70 ⟨_, ⟨rfl, rfl⟩, rfl⟩
 have h0_1 := h0_1.mono hle70
 refine WL.a1 ?_
 refine WL.f3 ?_
 refine WL.eff (EO.storeL (v := (.agg z28_.toArray)) (vl := z28_) (arr' := z28_) rfl sz28 rfl rfl (onesOf (Ones.cons rfl (Ones.cons rfl (Ones.cons rfl (Ones.cons rfl (Ones.cons rfl (Ones.cons rfl (Ones.cons rfl (Ones.cons rfl (Ones.cons rfl (Ones.cons rfl (Ones.cons rfl (Ones.cons rfl (Ones.cons rfl (Ones.cons rfl (Ones.cons rfl (Ones.cons rfl (Ones.cons rfl (Ones.cons rfl (Ones.cons rfl Ones.nil)))))))))))))))))))) rfl rfl (by kernel_rfl)) rfl ?_
 rintro _ _ _ - ⟨rfl, rfl⟩
 refine WL.f3 ?_
 refine WL.eff (EO.storeL (v := (a37_ r67)) (vl := (l37 r67)) (arr' := (l37 r67)) rfl sz37 rfl rfl (onesOf (Ones.cons rfl (Ones.cons rfl (Ones.cons rfl Ones.nil)))) rfl rfl rfl) rfl ?_
 rintro _ _ _ - ⟨rfl, rfl⟩
 refine Nt ?_
 refine WC.ret ?_
 refine WQ.thenR ?_
 refine WQ.e0 ?_
 refine WQ.f3 ?_
 refine WQ.drop ?_
 refine WQ.f3 ?_
 refine WQ.drop ?_
 refine WQ.f3 ?_
 refine WQ.drop ?_
 refine WQ.f1 ?_
 refine WQ.f2 ?_
 exact WQ.returnsD h [[]] (fun _ hs => hs.drop.drop) (resultsLN rfl (RVs.cons (RV.cellA (cs := z28_) 0 ag28 sz28 rfl rfl rfl) (RVs.cons (RV.cellA (cs := (l37 r67)) 1 ag37 sz37 rfl rfl rfl) RVs.nil))) (((((hle35.trans hle44).trans hle53).trans hle58).trans hle66).trans hle70) ⟨(.slice none 0 0), [], rfl, rfl, (OwnS.nil _ _)⟩
 have h := ite_f hb60 h
 refine WC.skip ?_
 refine WQ.thenC ?_
 refine Sr ?_
 refine Pm (pt g26 0) rfl rfl ?_
 refine Pm (.int .i64 r46) rfl rfl ?_
 obtain ⟨r73, hr74, h⟩ := bnd h
 refine WL.eff (EO.call0 co33 (f_ref22_has_ok r46 (110 : Int) _ r73 hr74) (args2 rfl rfl)) rfl ?_
 rintro _ M75 _ hle76 ⟨_, ⟨rfl, rfl⟩, rfl⟩
 have h0_1 := h0_1.mono hle76
 refine WL.a0 ?_
 obtain ⟨⟨r78, r79, r80, r81, r82⟩, hr83, h⟩ := bnd h
 refine WL.f1 ?_
 refine WL.eff (EO.call1 co32 (f_ref22_word_ok (⟨a0.Body, (⟨r47, r48, r49, r50⟩ : T_ref02_State)⟩ : T_ref05_Cursor) r73 (40 : Int) _ _ _ h0_1 (r78, r79, r80, r81, r82) hr83) (args3 rfl rfl rfl)) rfl ?_
 rintro _ M84 _ hle85 ⟨_, ⟨rfl, rfl⟩, rfl⟩
 have h0_1 := h0_1.mono hle85
 refine WL.a1 ?_
 refine Pu (pt g27 3) (PO.fieldAddr fo28_3 rfl rfl) rfl ?_
 refine WL.f1 ?_
 refine WL.eff (EO.storeL (v := (.string r78)) (vl := [(.string r78)]) (arr' := [(.int .i64 r28), (.int .i64 r37), (.int .i64 r46), (.string r78), (.string ⟨#[]⟩), (.string ⟨#[]⟩), (.bool false), (.int .i64 0), (.int .i64 0), (.int .i64 0), (.slice none 0 0), (.int .i64 0), (.int .i64 0), (.string ⟨#[]⟩), (.int .i64 0), (.int .i64 0), (.int .i64 0), (.bool false), (.bool false)]) rfl sz9 rfl rfl (onesOf (Ones.cons rfl Ones.nil)) rfl rfl (by kernel_rfl)) rfl ?_
 rintro _ _ _ - ⟨rfl, rfl⟩
 refine Ns ?_
 refine Pm (pt g26 0) rfl rfl ?_
 refine Pm (.int .i64 r46) rfl rfl ?_
 obtain ⟨r87, hr88, h⟩ := bnd h
 refine WL.eff (EO.call0 co33 (f_ref22_has_ok r46 (107 : Int) _ r87 hr88) (args2 rfl rfl)) rfl ?_
 rintro _ M89 _ hle90 ⟨_, ⟨rfl, rfl⟩, rfl⟩
 have h0_1 := h0_1.mono hle90
 refine WL.a0 ?_
 obtain ⟨⟨r92, r93, r94, r95, r96⟩, hr97, h⟩ := bnd h
 refine WL.f1 ?_
 refine WL.eff (EO.call1 co32 (f_ref22_word_ok (⟨a0.Body, (⟨r79, r80, r81, r82⟩ : T_ref02_State)⟩ : T_ref05_Cursor) r87 (40 : Int) _ _ _ h0_1 (r92, r93, r94, r95, r96) hr97) (args3 rfl rfl rfl)) rfl ?_
 rintro _ M98 _ hle99 ⟨_, ⟨rfl, rfl⟩, rfl⟩
 have h0_1 := h0_1.mono hle99
 refine WL.a1 ?_
 refine Pu (pt g27 4) (PO.fieldAddr fo28_4 rfl rfl) rfl ?_
 refine WL.f1 ?_
 refine WL.eff (EO.storeL (v := (.string r92)) (vl := [(.string r92)]) (arr' := [(.int .i64 r28), (.int .i64 r37), (.int .i64 r46), (.string r78), (.string r92), (.string ⟨#[]⟩), (.bool false), (.int .i64 0), (.int .i64 0), (.int .i64 0), (.slice none 0 0), (.int .i64 0), (.int .i64 0), (.string ⟨#[]⟩), (.int .i64 0), (.int .i64 0), (.int .i64 0), (.bool false), (.bool false)]) rfl sz9 rfl rfl (onesOf (Ones.cons rfl Ones.nil)) rfl rfl (by kernel_rfl)) rfl ?_
 rintro _ _ _ - ⟨rfl, rfl⟩
 refine Ns ?_
 refine Pm (pt g26 0) rfl rfl ?_
 refine Pm (.int .i64 r46) rfl rfl ?_
 obtain ⟨r101, hr102, h⟩ := bnd h
 refine WL.eff (EO.call0 co33 (f_ref22_has_ok r46 (107 : Int) _ r101 hr102) (args2 rfl rfl)) rfl ?_
 rintro _ M103 _ hle104 ⟨_, ⟨rfl, rfl⟩, rfl⟩
 have h0_1 := h0_1.mono hle104
 refine WL.a0 ?_
 obtain ⟨⟨r106, r107, r108, r109, r110⟩, hr111, h⟩ := bnd h
 refine WL.f1 ?_
 refine WL.eff (EO.call1 co32 (f_ref22_word_ok (⟨a0.Body, (⟨r93, r94, r95, r96⟩ : T_ref02_State)⟩ : T_ref05_Cursor) r101 (256 : Int) _ _ _ h0_1 (r106, r107, r108, r109, r110) hr111) (args3 rfl rfl rfl)) rfl ?_
 rintro _ M112 _ hle113 ⟨_, ⟨rfl, rfl⟩, rfl⟩
 have h0_1 := h0_1.mono hle113
 refine WL.a1 ?_
 refine Pu (pt g27 5) (PO.fieldAddr fo28_5 rfl rfl) rfl ?_
 refine WL.f1 ?_
 refine WL.eff (EO.storeL (v := (.string r106)) (vl := [(.string r106)]) (arr' := [(.int .i64 r28), (.int .i64 r37), (.int .i64 r46), (.string r78), (.string r92), (.string r106), (.bool false), (.int .i64 0), (.int .i64 0), (.int .i64 0), (.slice none 0 0), (.int .i64 0), (.int .i64 0), (.string ⟨#[]⟩), (.int .i64 0), (.int .i64 0), (.int .i64 0), (.bool false), (.bool false)]) rfl sz9 rfl rfl (onesOf (Ones.cons rfl Ones.nil)) rfl rfl (by kernel_rfl)) rfl ?_
 rintro _ _ _ - ⟨rfl, rfl⟩
 refine Nt ?_
 obtain ⟨j120, hj120, h⟩ := bnd h
 refine WC.joinF (fun (p_ : (Bool × Int × Int × ByteArray × Int)) ρ' M' H' => match p_ with | (x115, x116, x117, x118, x119) => M112.le M' ∧ [(g27, .cells #[(.int .i64 r28), (.int .i64 r37), (.int .i64 r46), (.string r78), (.string r92), (.string r106), (.bool x115), (.int .i64 0), (.int .i64 0), (.int .i64 0), (.slice none 0 0), (.int .i64 0), (.int .i64 0), (.string ⟨#[]⟩), (.int .i64 0), (.int .i64 0), (.int .i64 0), (.bool false), (.bool false)] 28 (0, 0))] :: [(g26, .cells #[v0_1, (.int .i64 x116), (.int .i64 x117), (.string x118), (.int .i64 x119)] 69 (0, 0))] :: [(g23, .cells #[(.string ⟨#[]⟩), (.int .i64 0), (.int .i64 0)] 37 (0, 0))] :: [(g22, .cells z28_.toArray 28 (0, 0))] :: [(g21, .cells #[(.int .i64 a0.Kind), v0_1] 34 (0, 0))] :: F = H' ∧ ρ' 2 = (pt g22 0) ∧ ρ' 3 = (pt g23 0) ∧ ρ' 4 = (pt g26 0) ∧ ρ' 5 = (pt g27 0) ∧ ρ' 6 = (.int .i64 r46)) j120 ?_ ?_
 have h3120 := h
 have h := hj120
 refine Sr ?_
 refine Pm (.int .i64 r46) rfl rfl ?_
 obtain ⟨r121, hr122, h⟩ := bnd h
 refine WL.eff (EO.call0 co33 (f_ref22_has_ok r46 (107 : Int) _ r121 hr122) (args2 rfl rfl)) rfl ?_
 rintro _ M123 _ hle124 ⟨_, ⟨rfl, rfl⟩, rfl⟩
 have h0_1 := h0_1.mono hle124
 refine WL.a0 ?_
 refine Nt ?_
 refine WC.cond (b := r121) rfl (fun hb126 => ?_) (fun hb126 => ?_)
 have h := ite_t hb126 h
 refine WC.region ?_
 refine Pm (pt g26 0) rfl rfl ?_
 obtain ⟨⟨r127, r128, r129, r130, r131⟩, hr132, h⟩ := bnd h
 refine WL.f1 ?_
 refine WL.eff (EO.call1 co34 (f_ref05_Cursor_Flag_ok (⟨a0.Body, (⟨r107, r108, r109, r110⟩ : T_ref02_State)⟩ : T_ref05_Cursor) _ _ _ h0_1 (r127, r128, r129, r130, r131) hr132) (args1 rfl)) rfl ?_
 rintro _ M133 _ hle134 ⟨_, ⟨rfl, rfl⟩, rfl⟩
 have h0_1 := h0_1.mono hle134
 refine WL.a1 ?_
 refine Pu (pt g27 6) (PO.fieldAddr fo28_6 rfl rfl) rfl ?_
 refine WL.f1 ?_
 refine WL.eff (EO.storeL (v := (.bool r127)) (vl := [(.bool r127)]) (arr' := [(.int .i64 r28), (.int .i64 r37), (.int .i64 r46), (.string r78), (.string r92), (.string r106), (.bool r127), (.int .i64 0), (.int .i64 0), (.int .i64 0), (.slice none 0 0), (.int .i64 0), (.int .i64 0), (.string ⟨#[]⟩), (.int .i64 0), (.int .i64 0), (.int .i64 0), (.bool false), (.bool false)]) rfl sz4 rfl rfl (onesOf (Ones.cons rfl Ones.nil)) rfl rfl (by kernel_rfl)) rfl ?_
 rintro _ _ _ - ⟨rfl, rfl⟩
 refine WL.nil ?_
 obtain rfl := Option.some.inj h
 refine WQ.thenJ ?_
 exact ⟨(hle124.trans hle134), rfl, rfl, rfl, rfl, rfl, rfl⟩
 have h := ite_f hb126 h
 refine WC.skip ?_
 obtain rfl := Option.some.inj h
 refine WQ.thenJ ?_
 exact ⟨hle124, rfl, rfl, rfl, rfl, rfl, rfl⟩
 obtain ⟨x115, x116, x117, x118, x119⟩ := j120
 rintro ρ120 M120 H120 ⟨hle120, rfl, hs120_2, hs120_3, hs120_4, hs120_5, hs120_6⟩
 have h0_1 := h0_1.mono hle120
 refine Sr ?_
 refine Pm (pt g26 0) hs120_4 rfl ?_
 refine Pm (.int .i64 r46) hs120_6 rfl ?_
 obtain ⟨r136, hr137, h⟩ := bnd h
 refine WL.eff (EO.call0 co33 (f_ref22_has_ok r46 (113 : Int) _ r136 hr137) (args2 rfl rfl)) rfl ?_
 rintro _ M138 _ hle139 ⟨_, ⟨rfl, rfl⟩, rfl⟩
 have h0_1 := h0_1.mono hle139
 refine WL.a0 ?_
 obtain ⟨⟨r141, r142, r143, r144, r145⟩, hr146, h⟩ := bnd h
 refine WL.f1 ?_
 refine WL.eff (EO.call1 co35 (f_ref22_some_ok (⟨a0.Body, (⟨x116, x117, x118, x119⟩ : T_ref02_State)⟩ : T_ref05_Cursor) r136 _ _ _ h0_1 (r141, r142, r143, r144, r145) hr146) (args2 rfl rfl)) rfl ?_
 rintro _ M147 _ hle148 ⟨_, ⟨rfl, rfl⟩, rfl⟩
 have h0_1 := h0_1.mono hle148
 refine WL.a1 ?_
 refine Pu (pt g27 7) (PO.fieldAddr fo28_7 hs120_5 rfl) rfl ?_
 refine WL.f1 ?_
 refine WL.eff (EO.storeL (v := (.int .i64 r141)) (vl := [(.int .i64 r141)]) (arr' := [(.int .i64 r28), (.int .i64 r37), (.int .i64 r46), (.string r78), (.string r92), (.string r106), (.bool x115), (.int .i64 r141), (.int .i64 0), (.int .i64 0), (.slice none 0 0), (.int .i64 0), (.int .i64 0), (.string ⟨#[]⟩), (.int .i64 0), (.int .i64 0), (.int .i64 0), (.bool false), (.bool false)]) rfl sz3 rfl rfl (onesOf (Ones.cons rfl Ones.nil)) rfl rfl (by kernel_rfl)) rfl ?_
 rintro _ _ _ - ⟨rfl, rfl⟩
 refine Ns ?_
 refine Pm (pt g26 0) hs120_4 rfl ?_
 refine Pm (.int .i64 r46) hs120_6 rfl ?_
 obtain ⟨r150, hr151, h⟩ := bnd h
 refine WL.eff (EO.call0 co33 (f_ref22_has_ok r46 (114 : Int) _ r150 hr151) (args2 rfl rfl)) rfl ?_
 rintro _ M152 _ hle153 ⟨_, ⟨rfl, rfl⟩, rfl⟩
 have h0_1 := h0_1.mono hle153
 refine WL.a0 ?_
 obtain ⟨⟨r155, r156, r157, r158, r159⟩, hr160, h⟩ := bnd h
 refine WL.f1 ?_
 refine WL.eff (EO.call1 co35 (f_ref22_some_ok (⟨a0.Body, (⟨r142, r143, r144, r145⟩ : T_ref02_State)⟩ : T_ref05_Cursor) r150 _ _ _ h0_1 (r155, r156, r157, r158, r159) hr160) (args2 rfl rfl)) rfl ?_
 rintro _ M161 _ hle162 ⟨_, ⟨rfl, rfl⟩, rfl⟩
 have h0_1 := h0_1.mono hle162
 refine WL.a1 ?_
 refine Pu (pt g27 8) (PO.fieldAddr fo28_8 hs120_5 rfl) rfl ?_
 refine WL.f1 ?_
 refine WL.eff (EO.storeL (v := (.int .i64 r155)) (vl := [(.int .i64 r155)]) (arr' := [(.int .i64 r28), (.int .i64 r37), (.int .i64 r46), (.string r78), (.string r92), (.string r106), (.bool x115), (.int .i64 r141), (.int .i64 r155), (.int .i64 0), (.slice none 0 0), (.int .i64 0), (.int .i64 0), (.string ⟨#[]⟩), (.int .i64 0), (.int .i64 0), (.int .i64 0), (.bool false), (.bool false)]) rfl sz3 rfl rfl (onesOf (Ones.cons rfl Ones.nil)) rfl rfl (by kernel_rfl)) rfl ?_
 rintro _ _ _ - ⟨rfl, rfl⟩
 refine Ns ?_
 refine Pm (pt g26 0) hs120_4 rfl ?_
 refine Pm (.int .i64 r46) hs120_6 rfl ?_
 obtain ⟨r164, hr165, h⟩ := bnd h
 refine WL.eff (EO.call0 co33 (f_ref22_has_ok r46 (112 : Int) _ r164 hr165) (args2 rfl rfl)) rfl ?_
 rintro _ M166 _ hle167 ⟨_, ⟨rfl, rfl⟩, rfl⟩
 have h0_1 := h0_1.mono hle167
 refine WL.a0 ?_
 obtain ⟨⟨r169, r170, r171, r172, r173⟩, hr174, h⟩ := bnd h
 refine WL.f1 ?_
 refine WL.eff (EO.call1 co35 (f_ref22_some_ok (⟨a0.Body, (⟨r156, r157, r158, r159⟩ : T_ref02_State)⟩ : T_ref05_Cursor) r164 _ _ _ h0_1 (r169, r170, r171, r172, r173) hr174) (args2 rfl rfl)) rfl ?_
 rintro _ M175 _ hle176 ⟨_, ⟨rfl, rfl⟩, rfl⟩
 have h0_1 := h0_1.mono hle176
 refine WL.a1 ?_
 refine Pu (pt g27 9) (PO.fieldAddr fo28_9 hs120_5 rfl) rfl ?_
 refine WL.f1 ?_
 refine WL.eff (EO.storeL (v := (.int .i64 r169)) (vl := [(.int .i64 r169)]) (arr' := [(.int .i64 r28), (.int .i64 r37), (.int .i64 r46), (.string r78), (.string r92), (.string r106), (.bool x115), (.int .i64 r141), (.int .i64 r155), (.int .i64 r169), (.slice none 0 0), (.int .i64 0), (.int .i64 0), (.string ⟨#[]⟩), (.int .i64 0), (.int .i64 0), (.int .i64 0), (.bool false), (.bool false)]) rfl sz3 rfl rfl (onesOf (Ones.cons rfl Ones.nil)) rfl rfl (by kernel_rfl)) rfl ?_
 rintro _ _ _ - ⟨rfl, rfl⟩
 refine Ns ?_
 refine Pm (pt g26 0) hs120_4 rfl ?_
 refine Pm (.int .i64 r46) hs120_6 rfl ?_
 obtain ⟨r178, hr179, h⟩ := bnd h
 refine WL.eff (EO.call0 co33 (f_ref22_has_ok r46 (98 : Int) _ r178 hr179) (args2 rfl rfl)) rfl ?_
 rintro _ M180 _ hle181 ⟨_, ⟨rfl, rfl⟩, rfl⟩
 have h0_1 := h0_1.mono hle181
 refine WL.a0 ?_
 obtain ⟨⟨r183, r184, r185, r186, r187⟩, hr188, h⟩ := bnd h
 refine WL.f1 ?_
 refine WL.eff (EO.call1 co35 (f_ref22_some_ok (⟨a0.Body, (⟨r170, r171, r172, r173⟩ : T_ref02_State)⟩ : T_ref05_Cursor) r178 _ _ _ h0_1 (r183, r184, r185, r186, r187) hr188) (args2 rfl rfl)) rfl ?_
 rintro _ M189 _ hle190 ⟨_, ⟨rfl, rfl⟩, rfl⟩
 have h0_1 := h0_1.mono hle190
 refine WL.a1 ?_
 refine Pu (pt g27 11) (PO.fieldAddr fo28_11 hs120_5 rfl) rfl ?_
 refine WL.f1 ?_
 refine WL.eff (EO.storeL (v := (.int .i64 r183)) (vl := [(.int .i64 r183)]) (arr' := [(.int .i64 r28), (.int .i64 r37), (.int .i64 r46), (.string r78), (.string r92), (.string r106), (.bool x115), (.int .i64 r141), (.int .i64 r155), (.int .i64 r169), (.slice none 0 0), (.int .i64 r183), (.int .i64 0), (.string ⟨#[]⟩), (.int .i64 0), (.int .i64 0), (.int .i64 0), (.bool false), (.bool false)]) rfl sz3 rfl rfl (onesOf (Ones.cons rfl Ones.nil)) rfl rfl (by kernel_rfl)) rfl ?_
 rintro _ _ _ - ⟨rfl, rfl⟩
 refine Ns ?_
 refine Pm (pt g26 0) hs120_4 rfl ?_
 refine Pm (.int .i64 r46) hs120_6 rfl ?_
 obtain ⟨r192, hr193, h⟩ := bnd h
 refine WL.eff (EO.call0 co33 (f_ref22_has_ok r46 (101 : Int) _ r192 hr193) (args2 rfl rfl)) rfl ?_
 rintro _ M194 _ hle195 ⟨_, ⟨rfl, rfl⟩, rfl⟩
 have h0_1 := h0_1.mono hle195
 refine WL.a0 ?_
 obtain ⟨⟨r197, r198, r199, r200, r201⟩, hr202, h⟩ := bnd h
 refine WL.f1 ?_
 refine WL.eff (EO.call1 co35 (f_ref22_some_ok (⟨a0.Body, (⟨r184, r185, r186, r187⟩ : T_ref02_State)⟩ : T_ref05_Cursor) r192 _ _ _ h0_1 (r197, r198, r199, r200, r201) hr202) (args2 rfl rfl)) rfl ?_
 rintro _ M203 _ hle204 ⟨_, ⟨rfl, rfl⟩, rfl⟩
 have h0_1 := h0_1.mono hle204
 refine WL.a1 ?_
 refine Pu (pt g27 12) (PO.fieldAddr fo28_12 hs120_5 rfl) rfl ?_
 refine WL.f1 ?_
 refine WL.eff (EO.storeL (v := (.int .i64 r197)) (vl := [(.int .i64 r197)]) (arr' := [(.int .i64 r28), (.int .i64 r37), (.int .i64 r46), (.string r78), (.string r92), (.string r106), (.bool x115), (.int .i64 r141), (.int .i64 r155), (.int .i64 r169), (.slice none 0 0), (.int .i64 r183), (.int .i64 r197), (.string ⟨#[]⟩), (.int .i64 0), (.int .i64 0), (.int .i64 0), (.bool false), (.bool false)]) rfl sz3 rfl rfl (onesOf (Ones.cons rfl Ones.nil)) rfl rfl (by kernel_rfl)) rfl ?_
 rintro _ _ _ - ⟨rfl, rfl⟩
 refine Nt ?_
 obtain ⟨j211, hj211, h⟩ := bnd h
 refine WC.joinF (fun (p_ : ((List Int) × Int × Int × ByteArray × Int)) ρ' M' H' => match p_ with | (x206, x207, x208, x209, x210) => ∃ vx206 cx206, M203.le M' ∧ [(g27, .cells #[(.int .i64 r28), (.int .i64 r37), (.int .i64 r46), (.string r78), (.string r92), (.string r106), (.bool x115), (.int .i64 r141), (.int .i64 r155), (.int .i64 r169), vx206, (.int .i64 r183), (.int .i64 r197), (.string ⟨#[]⟩), (.int .i64 0), (.int .i64 0), (.int .i64 0), (.bool false), (.bool false)] 28 (0, 0))] :: [(g26, .cells #[v0_1, (.int .i64 x207), (.int .i64 x208), (.string x209), (.int .i64 x210)] 69 (0, 0))] :: [(g23, .cells #[(.string ⟨#[]⟩), (.int .i64 0), (.int .i64 0)] 37 (0, 0))] :: [(g22, .cells z28_.toArray 28 (0, 0))] :: [(g21, .cells #[(.int .i64 a0.Kind), v0_1] 34 (0, 0))] :: cx206 :: F = H' ∧ ρ' 2 = (pt g22 0) ∧ ρ' 3 = (pt g23 0) ∧ ρ' 4 = (pt g26 0) ∧ ρ' 5 = (pt g27 0) ∧ ρ' 6 = (.int .i64 r46) ∧ OwnS (Kd.int .i64) M' vx206 x206 cx206) j211 ?_ ?_
 have h3211 := h
 have h := hj211
 refine Sr ?_
 refine Pm (.int .i64 r46) hs120_6 rfl ?_
 obtain ⟨r212, hr213, h⟩ := bnd h
 refine WL.eff (EO.call0 co33 (f_ref22_has_ok r46 (105 : Int) _ r212 hr213) (args2 rfl rfl)) rfl ?_
 rintro _ M214 _ hle215 ⟨_, ⟨rfl, rfl⟩, rfl⟩
 have h0_1 := h0_1.mono hle215
 refine WL.a0 ?_
 refine Nt ?_
 refine WC.cond (b := r212) rfl (fun hb217 => ?_) (fun hb217 => ?_)
 have h := ite_t hb217 h
 refine WC.region ?_
 refine Pm (pt g26 0) hs120_4 rfl ?_
 obtain ⟨⟨r218, r219, r220, r221, r222⟩, hr223, h⟩ := bnd h
 refine WL.f1 ?_
 refine WL.eff (EO.call1 co36 (f_ref05_Cursor_Row_ok (⟨a0.Body, (⟨r198, r199, r200, r201⟩ : T_ref02_State)⟩ : T_ref05_Cursor) (7 : Int) (64 : Int) _ _ _ h0_1 (r218, r219, r220, r221, r222) hr223) (args3 rfl rfl rfl)) rfl ?_
 rintro _ M224 _ hle225 ⟨_, ⟨vq226, cq226, rfl, rfl, hq226⟩, rfl⟩
 have h0_1 := h0_1.mono hle225
 refine WL.a2 ?_
 refine Pu (pt g27 10) (PO.fieldAddr fo28_10 hs120_5 rfl) rfl ?_
 refine WL.f2 ?_
 refine WL.eff (EO.storeL (v := vq226) (vl := [vq226]) (arr' := [(.int .i64 r28), (.int .i64 r37), (.int .i64 r46), (.string r78), (.string r92), (.string r106), (.bool x115), (.int .i64 r141), (.int .i64 r155), (.int .i64 r169), vq226, (.int .i64 r183), (.int .i64 r197), (.string ⟨#[]⟩), (.int .i64 0), (.int .i64 0), (.int .i64 0), (.bool false), (.bool false)]) hq226.cells sz24 rfl rfl (onesOf (Ones.cons (OwnS.one hq226) Ones.nil)) rfl rfl (by kernel_rfl)) rfl ?_
 rintro _ _ _ - ⟨rfl, rfl⟩
 refine WL.nil ?_
 refine WQ.f2 ?_
 refine WQ.f5 ?_
 refine WQ.f5 ?_
 refine WQ.f5 ?_
 refine WQ.f5 ?_
 refine WQ.f5 ?_
 obtain rfl := Option.some.inj h
 refine WQ.thenJ ?_
 exact ⟨vq226, cq226, (hle215.trans hle225), rfl, hs120_2, hs120_3, hs120_4, hs120_5, hs120_6, hq226⟩
 have h := ite_f hb217 h
 refine WC.skip ?_
 refine WQ.e0 ?_
 refine WQ.f5 ?_
 refine WQ.f5 ?_
 refine WQ.f5 ?_
 refine WQ.f5 ?_
 refine WQ.f5 ?_
 obtain rfl := Option.some.inj h
 refine WQ.thenJ ?_
 exact ⟨(.slice none 0 0), [], hle215, rfl, hs120_2, hs120_3, hs120_4, hs120_5, hs120_6, (OwnS.nil _ _)⟩
 obtain ⟨x206, x207, x208, x209, x210⟩ := j211
 rintro ρ211 M211 H211 ⟨vx206, cx206, hle211, rfl, hs211_2, hs211_3, hs211_4, hs211_5, hs211_6, hx206⟩
 have h0_1 := h0_1.mono hle211
 refine Sr ?_
 refine Pm (pt g26 0) hs211_4 rfl ?_
 refine Pm (.int .i64 r46) hs211_6 rfl ?_
 obtain ⟨r228, hr229, h⟩ := bnd h
 refine WL.eff (EO.call0 co33 (f_ref22_has_ok r46 (99 : Int) _ r228 hr229) (args2 rfl rfl)) rfl ?_
 rintro _ M230 _ hle231 ⟨_, ⟨rfl, rfl⟩, rfl⟩
 have hx206 := hx206.mono hle231
 have h0_1 := h0_1.mono hle231
 refine WL.a0 ?_
 obtain ⟨⟨r233, r234, r235, r236, r237⟩, hr238, h⟩ := bnd h
 refine WL.f1 ?_
 refine WL.eff (EO.call1 co32 (f_ref22_word_ok (⟨a0.Body, (⟨x207, x208, x209, x210⟩ : T_ref02_State)⟩ : T_ref05_Cursor) r228 (40 : Int) _ _ _ h0_1 (r233, r234, r235, r236, r237) hr238) (args3 rfl rfl rfl)) rfl ?_
 rintro _ M239 _ hle240 ⟨_, ⟨rfl, rfl⟩, rfl⟩
 have hx206 := hx206.mono hle240
 have h0_1 := h0_1.mono hle240
 refine WL.a1 ?_
 refine Pu (pt g27 13) (PO.fieldAddr fo28_13 hs211_5 rfl) rfl ?_
 refine WL.f1 ?_
 refine WL.eff (EO.storeL (v := (.string r233)) (vl := [(.string r233)]) (arr' := [(.int .i64 r28), (.int .i64 r37), (.int .i64 r46), (.string r78), (.string r92), (.string r106), (.bool x115), (.int .i64 r141), (.int .i64 r155), (.int .i64 r169), vx206, (.int .i64 r183), (.int .i64 r197), (.string r233), (.int .i64 0), (.int .i64 0), (.int .i64 0), (.bool false), (.bool false)]) rfl sz9 rfl rfl (onesOf (Ones.cons rfl Ones.nil)) rfl rfl (by kernel_rfl)) rfl ?_
 rintro _ _ _ - ⟨rfl, rfl⟩
 refine Nt ?_
 obtain ⟨j251, hj251, h⟩ := bnd h
 refine WC.joinF (fun (p_ : (Int × Int × Int × Bool × Bool × Int × Int × ByteArray × Int)) ρ' M' H' => match p_ with | (x242, x243, x244, x245, x246, x247, x248, x249, x250) => M239.le M' ∧ [(g27, .cells #[(.int .i64 r28), (.int .i64 r37), (.int .i64 r46), (.string r78), (.string r92), (.string r106), (.bool x115), (.int .i64 r141), (.int .i64 r155), (.int .i64 r169), vx206, (.int .i64 r183), (.int .i64 r197), (.string r233), (.int .i64 x242), (.int .i64 x243), (.int .i64 x244), (.bool x245), (.bool x246)] 28 (0, 0))] :: [(g26, .cells #[v0_1, (.int .i64 x247), (.int .i64 x248), (.string x249), (.int .i64 x250)] 69 (0, 0))] :: [(g23, .cells #[(.string ⟨#[]⟩), (.int .i64 0), (.int .i64 0)] 37 (0, 0))] :: [(g22, .cells z28_.toArray 28 (0, 0))] :: [(g21, .cells #[(.int .i64 a0.Kind), v0_1] 34 (0, 0))] :: cx206 :: F = H' ∧ ρ' 2 = (pt g22 0) ∧ ρ' 3 = (pt g23 0) ∧ ρ' 4 = (pt g26 0) ∧ ρ' 5 = (pt g27 0)) j251 ?_ ?_
 have h3251 := h
 have h := hj251
 refine Sr ?_
 refine Pm (.int .i64 r46) hs211_6 rfl ?_
 obtain ⟨r252, hr253, h⟩ := bnd h
 refine WL.eff (EO.call0 co33 (f_ref22_has_ok r46 (119 : Int) _ r252 hr253) (args2 rfl rfl)) rfl ?_
 rintro _ M254 _ hle255 ⟨_, ⟨rfl, rfl⟩, rfl⟩
 have hx206 := hx206.mono hle255
 have h0_1 := h0_1.mono hle255
 refine WL.a0 ?_
 refine Nt ?_
 refine WC.cond (b := r252) rfl (fun hb257 => ?_) (fun hb257 => ?_)
 have h := ite_t hb257 h
 refine Sr ?_
 refine Pm (pt g26 0) hs211_4 rfl ?_
 obtain ⟨⟨r258, r259, r260, r261, r262⟩, hr263, h⟩ := bnd h
 refine WL.f1 ?_
 refine WL.eff (EO.call1 co28 (f_ref05_Cursor_Int_ok (⟨a0.Body, (⟨r234, r235, r236, r237⟩ : T_ref02_State)⟩ : T_ref05_Cursor) (1073741824 : Int) _ _ _ h0_1 (r258, r259, r260, r261, r262) hr263) (args2 rfl rfl)) rfl ?_
 rintro _ M264 _ hle265 ⟨_, ⟨rfl, rfl⟩, rfl⟩
 have hx206 := hx206.mono hle265
 have h0_1 := h0_1.mono hle265
 refine WL.a1 ?_
 refine Pu (pt g27 14) (PO.fieldAddr fo28_14 hs211_5 rfl) rfl ?_
 refine Pu (pt g27 14) (PO.fieldAddr fo26_0 rfl rfl) rfl ?_
 refine WL.f1 ?_
 refine WL.eff (EO.storeL (v := (.int .i64 r258)) (vl := [(.int .i64 r258)]) (arr' := [(.int .i64 r28), (.int .i64 r37), (.int .i64 r46), (.string r78), (.string r92), (.string r106), (.bool x115), (.int .i64 r141), (.int .i64 r155), (.int .i64 r169), vx206, (.int .i64 r183), (.int .i64 r197), (.string r233), (.int .i64 r258), (.int .i64 0), (.int .i64 0), (.bool false), (.bool false)]) rfl sz3 rfl rfl (onesOf (Ones.cons rfl Ones.nil)) rfl rfl (by kernel_rfl)) rfl ?_
 rintro _ _ _ - ⟨rfl, rfl⟩
 refine Ns ?_
 refine Pm (pt g26 0) hs211_4 rfl ?_
 obtain ⟨⟨r267, r268, r269, r270, r271⟩, hr272, h⟩ := bnd h
 refine WL.f1 ?_
 refine WL.eff (EO.call1 co28 (f_ref05_Cursor_Int_ok (⟨a0.Body, (⟨r259, r260, r261, r262⟩ : T_ref02_State)⟩ : T_ref05_Cursor) (1073741824 : Int) _ _ _ h0_1 (r267, r268, r269, r270, r271) hr272) (args2 rfl rfl)) rfl ?_
 rintro _ M273 _ hle274 ⟨_, ⟨rfl, rfl⟩, rfl⟩
 have hx206 := hx206.mono hle274
 have h0_1 := h0_1.mono hle274
 refine WL.a1 ?_
 refine Pu (pt g27 14) (PO.fieldAddr fo28_14 hs211_5 rfl) rfl ?_
 refine Pu (pt g27 15) (PO.fieldAddr fo26_1 rfl rfl) rfl ?_
 refine WL.f1 ?_
 refine WL.eff (EO.storeL (v := (.int .i64 r267)) (vl := [(.int .i64 r267)]) (arr' := [(.int .i64 r28), (.int .i64 r37), (.int .i64 r46), (.string r78), (.string r92), (.string r106), (.bool x115), (.int .i64 r141), (.int .i64 r155), (.int .i64 r169), vx206, (.int .i64 r183), (.int .i64 r197), (.string r233), (.int .i64 r258), (.int .i64 r267), (.int .i64 0), (.bool false), (.bool false)]) rfl sz3 rfl rfl (onesOf (Ones.cons rfl Ones.nil)) rfl rfl (by kernel_rfl)) rfl ?_
 rintro _ _ _ - ⟨rfl, rfl⟩
 refine Ns ?_
 refine Pm (pt g26 0) hs211_4 rfl ?_
 obtain ⟨⟨r276, r277, r278, r279, r280⟩, hr281, h⟩ := bnd h
 refine WL.f1 ?_
 refine WL.eff (EO.call1 co28 (f_ref05_Cursor_Int_ok (⟨a0.Body, (⟨r268, r269, r270, r271⟩ : T_ref02_State)⟩ : T_ref05_Cursor) (1073741824 : Int) _ _ _ h0_1 (r276, r277, r278, r279, r280) hr281) (args2 rfl rfl)) rfl ?_
 rintro _ M282 _ hle283 ⟨_, ⟨rfl, rfl⟩, rfl⟩
 have hx206 := hx206.mono hle283
 have h0_1 := h0_1.mono hle283
 refine WL.a1 ?_
 refine Pu (pt g27 14) (PO.fieldAddr fo28_14 hs211_5 rfl) rfl ?_
 refine Pu (pt g27 16) (PO.fieldAddr fo26_2 rfl rfl) rfl ?_
 refine WL.f1 ?_
 refine WL.eff (EO.storeL (v := (.int .i64 r276)) (vl := [(.int .i64 r276)]) (arr' := [(.int .i64 r28), (.int .i64 r37), (.int .i64 r46), (.string r78), (.string r92), (.string r106), (.bool x115), (.int .i64 r141), (.int .i64 r155), (.int .i64 r169), vx206, (.int .i64 r183), (.int .i64 r197), (.string r233), (.int .i64 r258), (.int .i64 r267), (.int .i64 r276), (.bool false), (.bool false)]) rfl sz3 rfl rfl (onesOf (Ones.cons rfl Ones.nil)) rfl rfl (by kernel_rfl)) rfl ?_
 rintro _ _ _ - ⟨rfl, rfl⟩
 refine Ns ?_
 refine Pm (pt g26 0) hs211_4 rfl ?_
 obtain ⟨⟨r285, r286, r287, r288, r289⟩, hr290, h⟩ := bnd h
 refine WL.f1 ?_
 refine WL.eff (EO.call1 co34 (f_ref05_Cursor_Flag_ok (⟨a0.Body, (⟨r277, r278, r279, r280⟩ : T_ref02_State)⟩ : T_ref05_Cursor) _ _ _ h0_1 (r285, r286, r287, r288, r289) hr290) (args1 rfl)) rfl ?_
 rintro _ M291 _ hle292 ⟨_, ⟨rfl, rfl⟩, rfl⟩
 have hx206 := hx206.mono hle292
 have h0_1 := h0_1.mono hle292
 refine WL.a1 ?_
 refine Pu (pt g27 14) (PO.fieldAddr fo28_14 hs211_5 rfl) rfl ?_
 refine Pu (pt g27 17) (PO.fieldAddr fo26_3 rfl rfl) rfl ?_
 refine WL.f1 ?_
 refine WL.eff (EO.storeL (v := (.bool r285)) (vl := [(.bool r285)]) (arr' := [(.int .i64 r28), (.int .i64 r37), (.int .i64 r46), (.string r78), (.string r92), (.string r106), (.bool x115), (.int .i64 r141), (.int .i64 r155), (.int .i64 r169), vx206, (.int .i64 r183), (.int .i64 r197), (.string r233), (.int .i64 r258), (.int .i64 r267), (.int .i64 r276), (.bool r285), (.bool false)]) rfl sz4 rfl rfl (onesOf (Ones.cons rfl Ones.nil)) rfl rfl (by kernel_rfl)) rfl ?_
 rintro _ _ _ - ⟨rfl, rfl⟩
 refine Nt ?_
 refine WC.region ?_
 refine Pm (pt g26 0) hs211_4 rfl ?_
 obtain ⟨⟨r294, r295, r296, r297, r298⟩, hr299, h⟩ := bnd h
 refine WL.f1 ?_
 refine WL.eff (EO.call1 co34 (f_ref05_Cursor_Flag_ok (⟨a0.Body, (⟨r286, r287, r288, r289⟩ : T_ref02_State)⟩ : T_ref05_Cursor) _ _ _ h0_1 (r294, r295, r296, r297, r298) hr299) (args1 rfl)) rfl ?_
 rintro _ M300 _ hle301 ⟨_, ⟨rfl, rfl⟩, rfl⟩
 have hx206 := hx206.mono hle301
 have h0_1 := h0_1.mono hle301
 refine WL.a1 ?_
 refine Pu (pt g27 14) (PO.fieldAddr fo28_14 hs211_5 rfl) rfl ?_
 refine Pu (pt g27 18) (PO.fieldAddr fo26_4 rfl rfl) rfl ?_
 refine WL.f1 ?_
 refine WL.eff (EO.storeL (v := (.bool r294)) (vl := [(.bool r294)]) (arr' := [(.int .i64 r28), (.int .i64 r37), (.int .i64 r46), (.string r78), (.string r92), (.string r106), (.bool x115), (.int .i64 r141), (.int .i64 r155), (.int .i64 r169), vx206, (.int .i64 r183), (.int .i64 r197), (.string r233), (.int .i64 r258), (.int .i64 r267), (.int .i64 r276), (.bool r285), (.bool r294)]) rfl sz4 rfl rfl (onesOf (Ones.cons rfl Ones.nil)) rfl rfl (by kernel_rfl)) rfl ?_
 rintro _ _ _ - ⟨rfl, rfl⟩
 refine WL.nil ?_
 obtain rfl := Option.some.inj h
 refine WQ.thenJ ?_
 exact ⟨(((((hle255.trans hle265).trans hle274).trans hle283).trans hle292).trans hle301), rfl, hs211_2, hs211_3, hs211_4, hs211_5⟩
 have h := ite_f hb257 h
 refine WC.skip ?_
 obtain rfl := Option.some.inj h
 refine WQ.thenJ ?_
 exact ⟨hle255, rfl, hs211_2, hs211_3, hs211_4, hs211_5⟩
 obtain ⟨x242, x243, x244, x245, x246, x247, x248, x249, x250⟩ := j251
 rintro ρ251 M251 H251 ⟨hle251, rfl, hs251_2, hs251_3, hs251_4, hs251_5⟩
 have hx206 := hx206.mono hle251
 have h0_1 := h0_1.mono hle251
 refine Sr ?_
 refine Pm (pt g26 0) hs251_4 rfl ?_
 obtain ⟨⟨r303, r304, r305, r306⟩, hr307, h⟩ := bnd h
 refine WL.f1 ?_
 refine WL.eff (EO.call1 co37 (f_ref05_Cursor_End_ok (⟨a0.Body, (⟨x247, x248, x249, x250⟩ : T_ref02_State)⟩ : T_ref05_Cursor) _ _ _ h0_1 (r303, r304, r305, r306) hr307) (args1 rfl)) rfl ?_
 rintro _ M308 _ hle309 ⟨_, ⟨rfl, rfl⟩, rfl⟩
 have hx206 := hx206.mono hle309
 have h0_1 := h0_1.mono hle309
 refine WL.a1 ?_
 refine Nt ?_
 refine WC.seq ?_
 refine Sr ?_
 refine Pm (pt g26 0) hs251_4 rfl ?_
 refine Pu (pt g26 0) (PO.nilCheck rfl) rfl ?_
 refine Pu (pt g26 1) (PO.fieldAddr fo69_1 rfl rfl) rfl ?_
 refine Pu (pt g26 2) (PO.fieldAddr fo67_1 rfl rfl) rfl ?_
 refine Pu (.int .i64 r304) (PO.loadB 0 pl35 rfl rfl rfl) rfl ?_
 refine Pu (.bool (decide (r304 ≠ 0))) (PO.neq rfl rfl) rfl ?_
 refine Nt ?_
 refine WC.cond (b := decide (r304 ≠ 0)) rfl (fun hb310 => ?_) (fun hb310 => ?_)
 have h := ite_t hb310 h
 refine Sr ?_
 refine Pu (.agg z28_.toArray) (PO.buildL (cl := z28_) ze28 fp28 Parts.nil rfl) rfl ?_
 refine Pm (pt g26 0) hs251_4 rfl ?_
 obtain ⟨r311, hr312, h⟩ := bnd h
 refine WL.eff (EO.call1 co31 (f_ref22_bad_ok (⟨a0.Body, (⟨r303, r304, r305, r306⟩ : T_ref02_State)⟩ : T_ref05_Cursor) _ _ _ h0_1 r311 hr312) (args1 rfl)) rfl ?_
 rintro _ M313 _ hle314 ⟨_, ⟨rfl, rfl⟩, rfl⟩
 have hx206 := hx206.mono hle314
 have h0_1 := h0_1.mono hle314
 refine WL.a1 ?_
 refine WL.f3 ?_
 refine WL.eff (EO.storeL (v := (.agg z28_.toArray)) (vl := z28_) (arr' := z28_) rfl sz28 hs251_2 rfl (onesOf (Ones.cons rfl (Ones.cons rfl (Ones.cons rfl (Ones.cons rfl (Ones.cons rfl (Ones.cons rfl (Ones.cons rfl (Ones.cons rfl (Ones.cons rfl (Ones.cons rfl (Ones.cons rfl (Ones.cons rfl (Ones.cons rfl (Ones.cons rfl (Ones.cons rfl (Ones.cons rfl (Ones.cons rfl (Ones.cons rfl (Ones.cons rfl Ones.nil)))))))))))))))))))) rfl rfl (by kernel_rfl)) rfl ?_
 rintro _ _ _ - ⟨rfl, rfl⟩
 refine WL.f3 ?_
 refine WL.eff (EO.storeL (v := (a37_ r311)) (vl := (l37 r311)) (arr' := (l37 r311)) rfl sz37 hs251_3 rfl (onesOf (Ones.cons rfl (Ones.cons rfl (Ones.cons rfl Ones.nil)))) rfl rfl rfl) rfl ?_
 rintro _ _ _ - ⟨rfl, rfl⟩
 refine Nt ?_
 refine WC.ret ?_
 refine WQ.thenR ?_
 refine WQ.e0 ?_
 refine WQ.f3 ?_
 refine WQ.drop ?_
 refine WQ.f3 ?_
 refine WQ.drop ?_
 refine WQ.f3 ?_
 refine WQ.drop ?_
 refine WQ.f3 ?_
 refine WQ.drop ?_
 refine WQ.f1 ?_
 refine WQ.f2 ?_
 exact WQ.returnsD h [[]] (fun _ hs => hs.drop.drop) (resultsLN rfl (RVs.cons (RV.cellA (cs := z28_) 0 ag28 sz28 hs251_2 rfl rfl) (RVs.cons (RV.cellA (cs := (l37 r311)) 1 ag37 sz37 hs251_3 rfl rfl) RVs.nil))) ((((((((((((((((((((((((((hle35.trans hle44).trans hle53).trans hle58).trans hle76).trans hle85).trans hle90).trans hle99).trans hle104).trans hle113).trans hle120).trans hle139).trans hle148).trans hle153).trans hle162).trans hle167).trans hle176).trans hle181).trans hle190).trans hle195).trans hle204).trans hle211).trans hle231).trans hle240).trans hle251).trans hle309).trans hle314) ⟨(.slice none 0 0), [], rfl, rfl, (OwnS.nil _ _)⟩
 have h := ite_f hb310 h
 refine WC.skip ?_
 refine WQ.thenC ?_
 refine WC.seq ?_
 refine Sr ?_
 refine Pu (.agg #[(.int .i64 r28), (.int .i64 r37), (.int .i64 r46), (.string r78), (.string r92), (.string r106), (.bool x115), (.int .i64 r141), (.int .i64 r155), (.int .i64 r169), vx206, (.int .i64 r183), (.int .i64 r197), (.string r233), (.int .i64 x242), (.int .i64 x243), (.int .i64 x244), (.bool x245), (.bool x246)]) (PO.loadBA (cs := [(.int .i64 r28), (.int .i64 r37), (.int .i64 r46), (.string r78), (.string r92), (.string r106), (.bool x115), (.int .i64 r141), (.int .i64 r155), (.int .i64 r169), vx206, (.int .i64 r183), (.int .i64 r197), (.string r233), (.int .i64 x242), (.int .i64 x243), (.int .i64 x244), (.bool x245), (.bool x246)]) 1 ag28 sz28 hs251_5 rfl rfl) rfl ?_
 obtain ⟨r317, hr318, h⟩ := bnd h
 refine WL.f5 ?_
 refine WL.eff (EO.call1 co38 (Tri.lend fun w0_ H0_ hs0_ => (f_ref22_Check_ok (⟨r28, r37, r46, r78, r92, r106, x115, r141, r155, r169, x206, r183, r197, r233, (⟨x242, x243, x244, x245, x246⟩ : T_api_Word)⟩ : T_api_Request) _ _ (hx206.rs hs0_) r317 hr318)) (args1 rfl)) rfl ?_
 rintro _ _ _ hle320 ⟨_, ⟨Ml322, Hl323, hll324, rfl, rfl, ⟨rfl, rfl⟩⟩, rfl⟩
 have hx206 := hx206.mono hle320
 have h0_1 := h0_1.mono hle320
 refine WL.a1 ?_
 refine WL.eff (EO.alloc ze37 rfl) rfl ?_
 rintro _ _ _ - ⟨rfl, g325, rfl, rfl⟩
 refine WL.eff (EO.storeL (v := (a37_ r317)) (vl := (l37 r317)) (arr' := (l37 r317)) rfl sz37 rfl rfl (onesOf (Ones.cons rfl (Ones.cons rfl (Ones.cons rfl Ones.nil)))) rfl rfl rfl) rfl ?_
 rintro _ _ _ - ⟨rfl, rfl⟩
 refine Ns ?_
 refine Pu (pt g325 2) (PO.fieldAddr fo37_2 rfl rfl) rfl ?_
 refine Pu (.int .i64 r317.Code) (PO.loadB 0 pl35 rfl rfl rfl) rfl ?_
 refine Pu (.bool (decide (r317.Code ≠ 0))) (PO.neq rfl rfl) rfl ?_
 refine Nt ?_
 refine WC.cond (b := decide (r317.Code ≠ 0)) rfl (fun hb326 => ?_) (fun hb326 => ?_)
 have h := ite_t hb326 h
 refine WC.seq ?_
 refine WC.draw [0, 0, 1, 7] (.pure 0 (.pure 1 (.alt 2 (.alt 3 .done .none) .none))) mixed (by kernel_rfl) ?_
 refine Tp (.agg z28_.toArray) rfl (PO.buildL (cl := z28_) ze28 fp28 Parts.nil rfl) rfl ?_
 refine Tp (a37_ r317) rfl (PO.loadBA (cs := (l37 r317)) 0 ag37 sz37 rfl rfl rfl) rfl ?_
 refine WT.f5 ?_
 refine WT.alt rfl (EO.storeL (v := (.agg z28_.toArray)) (vl := z28_) (arr' := z28_) rfl sz28 hs251_2 rfl (onesOf (Ones.cons rfl (Ones.cons rfl (Ones.cons rfl (Ones.cons rfl (Ones.cons rfl (Ones.cons rfl (Ones.cons rfl (Ones.cons rfl (Ones.cons rfl (Ones.cons rfl (Ones.cons rfl (Ones.cons rfl (Ones.cons rfl (Ones.cons rfl (Ones.cons rfl (Ones.cons rfl (Ones.cons rfl (Ones.cons rfl (Ones.cons rfl Ones.nil)))))))))))))))))))) rfl rfl (by kernel_rfl)) rfl ?_ ?_
 rintro _ _ _ - ⟨rfl, rfl⟩
 refine ⟨(StabL.st (StabA.of rfl (PO.loadBA (cs := (l37 r317)) 1 ag37 sz37 rfl rfl rfl) rfl) (StabL.anc rfl trivial)), ?_⟩
 refine WT.f5 ?_
 refine WT.alt rfl (EO.storeL (v := (a37_ r317)) (vl := (l37 r317)) (arr' := (l37 r317)) rfl sz37 hs251_3 rfl (onesOf (Ones.cons rfl (Ones.cons rfl (Ones.cons rfl Ones.nil)))) rfl rfl rfl) rfl ?_ ?_
 rintro _ _ _ - ⟨rfl, rfl⟩
 refine ⟨(StabL.anc rfl (StabL.anc rfl trivial)), ?_⟩
 refine WT.fin ?_
 refine WQ.thenC ?_
 refine WC.ret ?_
 refine WQ.thenR ?_
 refine WQ.e0 ?_
 refine WQ.f3 ?_
 refine WQ.drop ?_
 refine WQ.f3 ?_
 refine WQ.drop ?_
 refine WQ.f3 ?_
 refine WQ.drop ?_
 refine WQ.f3 ?_
 refine WQ.drop ?_
 refine WQ.f3 ?_
 refine WQ.drop ?_
 refine WQ.f1 ?_
 refine WQ.f2 ?_
 exact WQ.returnsD h [[]] (fun _ hs => hs.drop.drop) (resultsLN rfl (RVs.cons (RV.cellA (cs := z28_) 0 ag28 sz28 hs251_2 rfl rfl) (RVs.cons (RV.cellA (cs := (l37 r317)) 1 ag37 sz37 hs251_3 rfl rfl) RVs.nil))) ((((((((((((((((((((((((((hle35.trans hle44).trans hle53).trans hle58).trans hle76).trans hle85).trans hle90).trans hle99).trans hle104).trans hle113).trans hle120).trans hle139).trans hle148).trans hle153).trans hle162).trans hle167).trans hle176).trans hle181).trans hle190).trans hle195).trans hle204).trans hle211).trans hle231).trans hle240).trans hle251).trans hle309).trans hle320) ⟨(.slice none 0 0), [], rfl, rfl, (OwnS.nil _ _)⟩
 exact WT.no
 exact WT.no
 have h := ite_f hb326 h
 refine WC.skip ?_
 refine WQ.thenC ?_
 refine Sr ?_
 refine Pu (.agg #[(.int .i64 r28), (.int .i64 r37), (.int .i64 r46), (.string r78), (.string r92), (.string r106), (.bool x115), (.int .i64 r141), (.int .i64 r155), (.int .i64 r169), vx206, (.int .i64 r183), (.int .i64 r197), (.string r233), (.int .i64 x242), (.int .i64 x243), (.int .i64 x244), (.bool x245), (.bool x246)]) (PO.loadBA (cs := [(.int .i64 r28), (.int .i64 r37), (.int .i64 r46), (.string r78), (.string r92), (.string r106), (.bool x115), (.int .i64 r141), (.int .i64 r155), (.int .i64 r169), vx206, (.int .i64 r183), (.int .i64 r197), (.string r233), (.int .i64 x242), (.int .i64 x243), (.int .i64 x244), (.bool x245), (.bool x246)]) 3 ag28 sz28 hs251_5 rfl rfl) rfl ?_
 refine Pu (.agg #[(.string ⟨#[]⟩), (.int .i64 0), (.int .i64 0)]) (PO.buildL (cl := [(.string ⟨#[]⟩), (.int .i64 0), (.int .i64 0)]) ze37 fp37 Parts.nil rfl) rfl ?_
 refine WL.f5 ?_
 refine WL.eff (EO.storeL (v := (.agg #[(.int .i64 r28), (.int .i64 r37), (.int .i64 r46), (.string r78), (.string r92), (.string r106), (.bool x115), (.int .i64 r141), (.int .i64 r155), (.int .i64 r169), vx206, (.int .i64 r183), (.int .i64 r197), (.string r233), (.int .i64 x242), (.int .i64 x243), (.int .i64 x244), (.bool x245), (.bool x246)])) (vl := [(.int .i64 r28), (.int .i64 r37), (.int .i64 r46), (.string r78), (.string r92), (.string r106), (.bool x115), (.int .i64 r141), (.int .i64 r155), (.int .i64 r169), vx206, (.int .i64 r183), (.int .i64 r197), (.string r233), (.int .i64 x242), (.int .i64 x243), (.int .i64 x244), (.bool x245), (.bool x246)]) (arr' := [(.int .i64 r28), (.int .i64 r37), (.int .i64 r46), (.string r78), (.string r92), (.string r106), (.bool x115), (.int .i64 r141), (.int .i64 r155), (.int .i64 r169), vx206, (.int .i64 r183), (.int .i64 r197), (.string r233), (.int .i64 x242), (.int .i64 x243), (.int .i64 x244), (.bool x245), (.bool x246)]) rfl sz28 hs251_2 rfl (onesOf (Ones.cons rfl (Ones.cons rfl (Ones.cons rfl (Ones.cons rfl (Ones.cons rfl (Ones.cons rfl (Ones.cons rfl (Ones.cons rfl (Ones.cons rfl (Ones.cons rfl (Ones.cons (OwnS.one hx206) (Ones.cons rfl (Ones.cons rfl (Ones.cons rfl (Ones.cons rfl (Ones.cons rfl (Ones.cons rfl (Ones.cons rfl (Ones.cons rfl Ones.nil)))))))))))))))))))) rfl rfl (by kernel_rfl)) rfl ?_
 rintro _ _ _ - ⟨rfl, rfl⟩
 refine WL.f5 ?_
 refine WL.eff (EO.storeL (v := (.agg #[(.string ⟨#[]⟩), (.int .i64 0), (.int .i64 0)])) (vl := [(.string ⟨#[]⟩), (.int .i64 0), (.int .i64 0)]) (arr' := [(.string ⟨#[]⟩), (.int .i64 0), (.int .i64 0)]) rfl sz37 hs251_3 rfl (onesOf (Ones.cons rfl (Ones.cons rfl (Ones.cons rfl Ones.nil)))) rfl rfl rfl) rfl ?_
 rintro _ _ _ - ⟨rfl, rfl⟩
 refine Nt ?_
 refine WC.ret ?_
 refine WQ.f2 ?_
 refine WQ.drop ?_
 refine WQ.f3 ?_
 refine WQ.drop ?_
 refine WQ.f3 ?_
 refine WQ.drop ?_
 refine WQ.f3 ?_
 refine WQ.drop ?_
 refine WQ.f2 ?_
 refine WQ.f1 ?_
 refine WQ.f2 ?_
 exact WQ.returnsD h [cx206] (fun _ hs => hs.drop.drop) (resultsLN rfl (RVs.cons (RV.cellA (cs := [(.int .i64 r28), (.int .i64 r37), (.int .i64 r46), (.string r78), (.string r92), (.string r106), (.bool x115), (.int .i64 r141), (.int .i64 r155), (.int .i64 r169), vx206, (.int .i64 r183), (.int .i64 r197), (.string r233), (.int .i64 x242), (.int .i64 x243), (.int .i64 x244), (.bool x245), (.bool x246)]) 0 ag28 sz28 hs251_2 rfl rfl) (RVs.cons (RV.cellA (cs := [(.string ⟨#[]⟩), (.int .i64 0), (.int .i64 0)]) 1 ag37 sz37 hs251_3 rfl rfl) RVs.nil))) ((((((((((((((((((((((((((hle35.trans hle44).trans hle53).trans hle58).trans hle76).trans hle85).trans hle90).trans hle99).trans hle104).trans hle113).trans hle120).trans hle139).trans hle148).trans hle153).trans hle162).trans hle167).trans hle176).trans hle181).trans hle190).trans hle195).trans hle204).trans hle211).trans hle231).trans hle240).trans hle251).trans hle309).trans hle320) ⟨vx206, cx206, rfl, rfl, hx206⟩


end Go.Proofs.YtjgnbbakamellaaGreatDoor.G
