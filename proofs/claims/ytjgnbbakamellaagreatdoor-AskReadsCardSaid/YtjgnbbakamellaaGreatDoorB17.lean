/- Go functions: what they come to, and that they do. Printed by a program of the session (gen). -/
import Derived.Test.YtjgnbbakamellaaGreatDoorBF
import Derived.Test.YtjgnbbakamellaaGreatDoorB16
import Derived.Test.YtjgnbbakamellaaGreatDoorKConv
import Derived.Test.YtjgnbbakamellaaGreatDoorKEq2
set_option linter.unusedVariables false
set_option linter.unusedSimpArgs false
set_option maxHeartbeats 8000000
set_option maxRecDepth 100000
namespace Go.Proofs.YtjgnbbakamellaaGreatDoor.G
open Go Go.KK

noncomputable def f_ref22_CheckReply (a0 : T_api_Reply) : Option T_ref22_Wrong :=
  (((if (decide (a0.Client < (1 : Int))) = true then (some true) else (if (decide ((1073741824 : Int) < a0.Client)) = true then (some true) else (if (decide (a0.Serial < (1 : Int))) = true then (some true) else (if (decide ((1073741824 : Int) < a0.Serial)) = true then (some true) else ((f_ref22_num a0.Code true (21 : Int)).bind fun (r29 : Bool) => (if (!r29) = true then (some true) else ((f_ref22_num a0.Leader true (1073741824 : Int)).bind fun (r35 : Bool) => (some (!r35))))))))) : Option Bool).bind fun (x23 : Bool) => (if x23 = true then (some (⟨(⟨#[114, 101, 112, 108, 121]⟩ : ByteArray), a0.Client, (2 : Int)⟩ : T_ref22_Wrong)) else (some (⟨(⟨#[]⟩ : ByteArray), (0 : Int), (0 : Int)⟩ : T_ref22_Wrong))))
def f_ref22_CheckReply_post (a0 : T_api_Reply) : T_ref22_Wrong → Value → IM → HL → Prop :=
  fun (r0 : T_ref22_Wrong) (v : Value) (M' : IM) (H' : HL) => (.agg #[(.string r0.Op), (.int .i64 r0.At), (.int .i64 r0.Code)]) = v ∧ H' = []
theorem f_ref22_CheckReply_ok (a0 : T_api_Reply) (M : IM) (res : T_ref22_Wrong) (h : f_ref22_CheckReply a0 = some res) :
    Tri Tryz.prog 39 #[(a43_ a0)] M [] (f_ref22_CheckReply_post a0 res) := by
 unfold f_ref22_CheckReply at h
 refine Tri.enter (fn := Tryz.f39) Tryz.func39 rfl (Nat.le_of_ble_eq_true rfl) ?_
 intro F ρ hρ
 refine Sr ?_
 refine WL.eff (EO.box (cs := (l43 a0).toArray) (congrArg Value.cells (asE (a43_ a0) (hρ 0)))) rfl ?_
 rintro _ _ _ - ⟨rfl, g21, rfl, rfl⟩
 refine WL.eff (EO.alloc ze37 rfl) rfl ?_
 rintro _ _ _ - ⟨rfl, g22, rfl, rfl⟩
 refine Nt ?_
 refine WC.seq ?_
 obtain ⟨x23, hj24, h⟩ := bnd h
 refine WC.joinF (fun (x23 : Bool) ρ' M' H' => M.le M' ∧ [(g22, .cells #[(.string ⟨#[]⟩), (.int .i64 0), (.int .i64 0)] 37 (0, 0))] :: [(g21, .cells (l43 a0).toArray 43 (0, 0))] :: F = H' ∧ ρ' 1 = (pt g21 0) ∧ ρ' 2 = (pt g22 0) ∧ ρ' 32 = (.bool x23)) x23 ?_ ?_
 have h324 := h
 have h := hj24
 refine WC.region ?_
 refine Pu (pt g21 0) (PO.fieldAddr fo43_0 rfl rfl) rfl ?_
 refine Pu (.int .i64 a0.Client) (PO.loadB 1 pl3 rfl rfl rfl) rfl ?_
 refine Pu (.bool (decide (a0.Client < 1))) (PO.lss rfl rfl) rfl ?_
 refine Pm (.bool (decide (a0.Client < 1))) rfl rfl ?_
 rcases Bool.eq_false_or_eq_true (decide (a0.Client < 1)) with hb25 | hb25
 have h := ite_t hb25 h
 iterate 3 refine Of 6 rfl rfl hb25 rfl ?_
 refine Pu (.bool true) (PO.pickT rfl hb25 rfl) rfl ?_
 refine Pm (.bool true) rfl rfl ?_
 iterate 3 refine Of 11 rfl rfl rfl rfl ?_
 refine Pu (.bool true) (PO.pickT rfl rfl rfl) rfl ?_
 refine Pm (.bool true) rfl rfl ?_
 iterate 3 refine Of 16 rfl rfl rfl rfl ?_
 refine Pu (.bool true) (PO.pickT rfl rfl rfl) rfl ?_
 refine Pm (.bool true) rfl rfl ?_
 iterate 4 refine Of 21 rfl rfl rfl rfl ?_
 refine Pu (.bool true) (PO.pickT rfl rfl rfl) rfl ?_
 refine Pm (.bool true) rfl rfl ?_
 iterate 4 refine Of 27 rfl rfl rfl rfl ?_
 refine Pu (.bool true) (PO.pickT rfl rfl rfl) rfl ?_
 refine WL.nil ?_
 obtain rfl := Option.some.inj h
 refine WQ.thenJ ?_
 exact ⟨(IM.le.refl _), rfl, rfl, rfl, rfl⟩
 have h := ite_f hb25 h
 refine On 6 rfl rfl hb25 ?_
 refine Pu (pt g21 0) (PO.fieldAddr fo43_0 rfl rfl) rfl ?_
 refine On 6 rfl rfl hb25 ?_
 refine Pu (.int .i64 a0.Client) (PO.loadB 1 pl3 rfl rfl rfl) rfl ?_
 refine On 6 rfl rfl hb25 ?_
 refine Pu (.bool (decide ((1073741824 : Int) < a0.Client))) (PO.gtr rfl rfl) rfl ?_
 refine Pu (.bool (decide ((1073741824 : Int) < a0.Client))) (PO.pickF rfl hb25 rfl) rfl ?_
 refine Pm (.bool (decide ((1073741824 : Int) < a0.Client))) rfl rfl ?_
 rcases Bool.eq_false_or_eq_true (decide ((1073741824 : Int) < a0.Client)) with hb26 | hb26
 have h := ite_t hb26 h
 iterate 3 refine Of 11 rfl rfl hb26 rfl ?_
 refine Pu (.bool true) (PO.pickT rfl hb26 rfl) rfl ?_
 refine Pm (.bool true) rfl rfl ?_
 iterate 3 refine Of 16 rfl rfl rfl rfl ?_
 refine Pu (.bool true) (PO.pickT rfl rfl rfl) rfl ?_
 refine Pm (.bool true) rfl rfl ?_
 iterate 4 refine Of 21 rfl rfl rfl rfl ?_
 refine Pu (.bool true) (PO.pickT rfl rfl rfl) rfl ?_
 refine Pm (.bool true) rfl rfl ?_
 iterate 4 refine Of 27 rfl rfl rfl rfl ?_
 refine Pu (.bool true) (PO.pickT rfl rfl rfl) rfl ?_
 refine WL.nil ?_
 obtain rfl := Option.some.inj h
 refine WQ.thenJ ?_
 exact ⟨(IM.le.refl _), rfl, rfl, rfl, rfl⟩
 have h := ite_f hb26 h
 refine On 11 rfl rfl hb26 ?_
 refine Pu (pt g21 1) (PO.fieldAddr fo43_1 rfl rfl) rfl ?_
 refine On 11 rfl rfl hb26 ?_
 refine Pu (.int .i64 a0.Serial) (PO.loadB 1 pl3 rfl rfl rfl) rfl ?_
 refine On 11 rfl rfl hb26 ?_
 refine Pu (.bool (decide (a0.Serial < 1))) (PO.lss rfl rfl) rfl ?_
 refine Pu (.bool (decide (a0.Serial < 1))) (PO.pickF rfl hb26 rfl) rfl ?_
 refine Pm (.bool (decide (a0.Serial < 1))) rfl rfl ?_
 rcases Bool.eq_false_or_eq_true (decide (a0.Serial < 1)) with hb27 | hb27
 have h := ite_t hb27 h
 iterate 3 refine Of 16 rfl rfl hb27 rfl ?_
 refine Pu (.bool true) (PO.pickT rfl hb27 rfl) rfl ?_
 refine Pm (.bool true) rfl rfl ?_
 iterate 4 refine Of 21 rfl rfl rfl rfl ?_
 refine Pu (.bool true) (PO.pickT rfl rfl rfl) rfl ?_
 refine Pm (.bool true) rfl rfl ?_
 iterate 4 refine Of 27 rfl rfl rfl rfl ?_
 refine Pu (.bool true) (PO.pickT rfl rfl rfl) rfl ?_
 refine WL.nil ?_
 obtain rfl := Option.some.inj h
 refine WQ.thenJ ?_
 exact ⟨(IM.le.refl _), rfl, rfl, rfl, rfl⟩
 have h := ite_f hb27 h
 refine On 16 rfl rfl hb27 ?_
 refine Pu (pt g21 1) (PO.fieldAddr fo43_1 rfl rfl) rfl ?_
 refine On 16 rfl rfl hb27 ?_
 refine Pu (.int .i64 a0.Serial) (PO.loadB 1 pl3 rfl rfl rfl) rfl ?_
 refine On 16 rfl rfl hb27 ?_
 refine Pu (.bool (decide ((1073741824 : Int) < a0.Serial))) (PO.gtr rfl rfl) rfl ?_
 refine Pu (.bool (decide ((1073741824 : Int) < a0.Serial))) (PO.pickF rfl hb27 rfl) rfl ?_
 refine Pm (.bool (decide ((1073741824 : Int) < a0.Serial))) rfl rfl ?_
 rcases Bool.eq_false_or_eq_true (decide ((1073741824 : Int) < a0.Serial)) with hb28 | hb28
 have h := ite_t hb28 h
 iterate 4 refine Of 21 rfl rfl hb28 rfl ?_
 refine Pu (.bool true) (PO.pickT rfl hb28 rfl) rfl ?_
 refine Pm (.bool true) rfl rfl ?_
 iterate 4 refine Of 27 rfl rfl rfl rfl ?_
 refine Pu (.bool true) (PO.pickT rfl rfl rfl) rfl ?_
 refine WL.nil ?_
 obtain rfl := Option.some.inj h
 refine WQ.thenJ ?_
 exact ⟨(IM.le.refl _), rfl, rfl, rfl, rfl⟩
 have h := ite_f hb28 h
 refine On 21 rfl rfl hb28 ?_
 refine Pu (pt g21 2) (PO.fieldAddr fo43_2 rfl rfl) rfl ?_
 refine On 21 rfl rfl hb28 ?_
 refine Pu (.int .i64 a0.Code) (PO.loadB 1 pl3 rfl rfl rfl) rfl ?_
 refine On 21 rfl rfl hb28 ?_
 obtain ⟨r29, hr30, h⟩ := bnd h
 refine WL.eff (EO.call0 co65 (f_ref22_num_ok a0.Code true (21 : Int) _ r29 hr30) (args3 rfl rfl rfl)) rfl ?_
 rintro _ M31 _ hle32 ⟨_, ⟨rfl, rfl⟩, rfl⟩
 refine WL.a0 ?_
 refine On 21 rfl rfl hb28 ?_
 refine Pu (.bool (!r29)) (PO.not rfl) rfl ?_
 refine Pu (.bool (!r29)) (PO.pickF rfl hb28 rfl) rfl ?_
 refine Pm (.bool (!r29)) rfl rfl ?_
 rcases Bool.eq_false_or_eq_true (!r29) with hb34 | hb34
 have h := ite_t hb34 h
 iterate 4 refine Of 27 rfl rfl hb34 rfl ?_
 refine Pu (.bool true) (PO.pickT rfl hb34 rfl) rfl ?_
 refine WL.nil ?_
 obtain rfl := Option.some.inj h
 refine WQ.thenJ ?_
 exact ⟨hle32, rfl, rfl, rfl, rfl⟩
 have h := ite_f hb34 h
 refine On 27 rfl rfl hb34 ?_
 refine Pu (pt g21 3) (PO.fieldAddr fo43_3 rfl rfl) rfl ?_
 refine On 27 rfl rfl hb34 ?_
 refine Pu (.int .i64 a0.Leader) (PO.loadB 1 pl3 rfl rfl rfl) rfl ?_
 refine On 27 rfl rfl hb34 ?_
 obtain ⟨r35, hr36, h⟩ := bnd h
 refine WL.eff (EO.call0 co65 (f_ref22_num_ok a0.Leader true (1073741824 : Int) _ r35 hr36) (args3 rfl rfl rfl)) rfl ?_
 rintro _ M37 _ hle38 ⟨_, ⟨rfl, rfl⟩, rfl⟩
 refine WL.a0 ?_
 refine On 27 rfl rfl hb34 ?_
 refine Pu (.bool (!r35)) (PO.not rfl) rfl ?_
 refine Pu (.bool (!r35)) (PO.pickF rfl hb34 rfl) rfl ?_
 refine WL.nil ?_
 obtain rfl := Option.some.inj h
 refine WQ.thenJ ?_
 exact ⟨(hle32.trans hle38), rfl, rfl, rfl, rfl⟩
 rintro ρ24 M24 H24 ⟨hle24, rfl, hs24_1, hs24_2, hs24_32⟩
 refine WC.cond (b := x23) hs24_32 (fun hb40 => ?_) (fun hb40 => ?_)
 have h := ite_t hb40 h
 refine Sr ?_
 refine Pu (pt g21 0) (PO.fieldAddr fo43_0 hs24_1 rfl) rfl ?_
 refine Pu (.int .i64 a0.Client) (PO.loadB 1 pl3 rfl rfl rfl) rfl ?_
 refine Pu (.agg #[(.string ⟨#[114, 101, 112, 108, 121]⟩), (.int .i64 a0.Client), (.int .i64 2)]) (PO.buildL (cl := [(.string ⟨#[114, 101, 112, 108, 121]⟩), (.int .i64 a0.Client), (.int .i64 2)]) ze37 fp37 (Parts.cons (congrArg Value.cells (show ev _ _ = (.string ⟨#[114, 101, 112, 108, 121]⟩) from rfl)) (Parts.cons (congrArg Value.cells (show ev _ _ = (.int .i64 a0.Client) from rfl)) (Parts.cons (congrArg Value.cells (show ev _ _ = (.int .i64 2) from rfl)) Parts.nil))) rfl) rfl ?_
 refine WL.eff (EO.storeL (v := (.agg #[(.string ⟨#[114, 101, 112, 108, 121]⟩), (.int .i64 a0.Client), (.int .i64 2)])) (vl := [(.string ⟨#[114, 101, 112, 108, 121]⟩), (.int .i64 a0.Client), (.int .i64 2)]) (arr' := [(.string ⟨#[114, 101, 112, 108, 121]⟩), (.int .i64 a0.Client), (.int .i64 2)]) rfl sz37 hs24_2 rfl (onesOf (Ones.cons rfl (Ones.cons rfl (Ones.cons rfl Ones.nil)))) rfl rfl rfl) rfl ?_
 rintro _ _ _ - ⟨rfl, rfl⟩
 refine Nt ?_
 refine WC.ret ?_
 refine WQ.thenR ?_
 refine WQ.f1 ?_
 refine WQ.drop ?_
 exact WQ.returnsD h [] (fun _ hs => hs.drop) (resultsL1 rfl (RV.cellA (cs := [(.string ⟨#[114, 101, 112, 108, 121]⟩), (.int .i64 a0.Client), (.int .i64 2)]) 0 ag37 sz37 hs24_2 rfl rfl)) hle24 ⟨rfl, rfl⟩
 have h := ite_f hb40 h
 refine WC.skip ?_
 refine WQ.thenC ?_
 refine Sr ?_
 refine Pu (.agg #[(.string ⟨#[]⟩), (.int .i64 0), (.int .i64 0)]) (PO.buildL (cl := [(.string ⟨#[]⟩), (.int .i64 0), (.int .i64 0)]) ze37 fp37 Parts.nil rfl) rfl ?_
 refine WL.eff (EO.storeL (v := (.agg #[(.string ⟨#[]⟩), (.int .i64 0), (.int .i64 0)])) (vl := [(.string ⟨#[]⟩), (.int .i64 0), (.int .i64 0)]) (arr' := [(.string ⟨#[]⟩), (.int .i64 0), (.int .i64 0)]) rfl sz37 hs24_2 rfl (onesOf (Ones.cons rfl (Ones.cons rfl (Ones.cons rfl Ones.nil)))) rfl rfl rfl) rfl ?_
 rintro _ _ _ - ⟨rfl, rfl⟩
 refine Nt ?_
 refine WC.ret ?_
 refine WQ.f1 ?_
 refine WQ.drop ?_
 exact WQ.returnsD h [] (fun _ hs => hs.drop) (resultsL1 rfl (RV.cellA (cs := [(.string ⟨#[]⟩), (.int .i64 0), (.int .i64 0)]) 0 ag37 sz37 hs24_2 rfl rfl)) hle24 ⟨rfl, rfl⟩

noncomputable def f_ref22_ReadReply (a0 : T_api_Frame) : Option (T_api_Reply × T_ref22_Wrong) :=
  (if (decide (a0.Kind ≠ (17 : Int))) = true then (some ((⟨(0 : Int), (0 : Int), (0 : Int), (0 : Int), (⟨false, false, false⟩ : T_api_Told)⟩ : T_api_Reply), (⟨(⟨#[102, 114, 97, 109, 101]⟩ : ByteArray), a0.Kind, (5 : Int)⟩ : T_ref22_Wrong))) else ((f_ref05_Cursor_Int (⟨a0.Body, (⟨(0 : Int), (0 : Int), (⟨#[]⟩ : ByteArray), (0 : Int)⟩ : T_ref02_State)⟩ : T_ref05_Cursor) (1073741824 : Int)).bind fun (r27, r28, r29, r30, r31) => ((f_ref05_Cursor_Int (⟨a0.Body, (⟨r28, r29, r30, r31⟩ : T_ref02_State)⟩ : T_ref05_Cursor) (1073741824 : Int)).bind fun (r36, r37, r38, r39, r40) => ((f_ref05_Cursor_Int (⟨a0.Body, (⟨r37, r38, r39, r40⟩ : T_ref02_State)⟩ : T_ref05_Cursor) (1073741824 : Int)).bind fun (r45, r46, r47, r48, r49) => ((f_ref05_Cursor_Int (⟨a0.Body, (⟨r46, r47, r48, r49⟩ : T_ref02_State)⟩ : T_ref05_Cursor) (1073741824 : Int)).bind fun (r54, r55, r56, r57, r58) => ((f_ref05_Cursor_Flag (⟨a0.Body, (⟨r55, r56, r57, r58⟩ : T_ref02_State)⟩ : T_ref05_Cursor)).bind fun (r63, r64, r65, r66, r67) => ((f_ref05_Cursor_Flag (⟨a0.Body, (⟨r64, r65, r66, r67⟩ : T_ref02_State)⟩ : T_ref05_Cursor)).bind fun (r72, r73, r74, r75, r76) => ((f_ref05_Cursor_Flag (⟨a0.Body, (⟨r73, r74, r75, r76⟩ : T_ref02_State)⟩ : T_ref05_Cursor)).bind fun (r81, r82, r83, r84, r85) => ((f_ref05_Cursor_End (⟨a0.Body, (⟨r82, r83, r84, r85⟩ : T_ref02_State)⟩ : T_ref05_Cursor)).bind fun (r90, r91, r92, r93) => (if (decide (r91 ≠ (0 : Int))) = true then ((f_ref22_bad (⟨a0.Body, (⟨r90, r91, r92, r93⟩ : T_ref02_State)⟩ : T_ref05_Cursor)).bind fun (r98 : T_ref22_Wrong) => (some ((⟨(0 : Int), (0 : Int), (0 : Int), (0 : Int), (⟨false, false, false⟩ : T_api_Told)⟩ : T_api_Reply), r98))) else ((f_ref22_CheckReply (⟨r27, r36, r45, r54, (⟨r63, r72, r81⟩ : T_api_Told)⟩ : T_api_Reply)).bind fun (r103 : T_ref22_Wrong) => (if (decide (r103.Code ≠ (0 : Int))) = true then (some ((⟨(0 : Int), (0 : Int), (0 : Int), (0 : Int), (⟨false, false, false⟩ : T_api_Told)⟩ : T_api_Reply), r103)) else (some ((⟨r27, r36, r45, r54, (⟨r63, r72, r81⟩ : T_api_Told)⟩ : T_api_Reply), (⟨(⟨#[]⟩ : ByteArray), (0 : Int), (0 : Int)⟩ : T_ref22_Wrong)))))))))))))))
def f_ref22_ReadReply_post (a0 : T_api_Frame) (v0_1 : Value) : (T_api_Reply × T_ref22_Wrong) → Value → IM → HL → Prop :=
  fun (p_ : (T_api_Reply × T_ref22_Wrong)) (v : Value) (M' : IM) (H' : HL) => match p_ with | (r0, r1) => (.tuple #[(.agg #[(.int .i64 r0.Client), (.int .i64 r0.Serial), (.int .i64 r0.Code), (.int .i64 r0.Leader), (.bool r0.Told.Fenced), (.bool r0.Told.Leaving), (.bool r0.Told.Stop)]), (.agg #[(.string r1.Op), (.int .i64 r1.At), (.int .i64 r1.Code)])]) = v ∧ H' = []
theorem f_ref22_ReadReply_ok (a0 : T_api_Frame) (M : IM) (v0_1 : Value) (h0_1 : RS (Kd.int .u8) M v0_1 a0.Body) (res : (T_api_Reply × T_ref22_Wrong)) (h : f_ref22_ReadReply a0 = some res) :
    Tri Tryz.prog 8 #[(.agg #[(.int .i64 a0.Kind), v0_1])] M [] (f_ref22_ReadReply_post a0 v0_1 res) := by
 unfold f_ref22_ReadReply at h
 refine Tri.enter (fn := Tryz.f8) Tryz.func8 rfl (Nat.le_of_ble_eq_true rfl) ?_
 intro F ρ hρ
 refine Sr ?_
 refine WL.eff (EO.box (cs := #[(.int .i64 a0.Kind), v0_1]) (congrArg Value.cells (asE (.agg #[(.int .i64 a0.Kind), v0_1]) (hρ 0)))) rfl ?_
 rintro _ _ _ - ⟨rfl, g21, rfl, rfl⟩
 refine WL.eff (EO.alloc ze43 rfl) rfl ?_
 rintro _ _ _ - ⟨rfl, g22, rfl, rfl⟩
 refine WL.eff (EO.alloc ze37 rfl) rfl ?_
 rintro _ _ _ - ⟨rfl, g23, rfl, rfl⟩
 refine Nt ?_
 refine WC.seq ?_
 refine Sr ?_
 refine Pu (pt g21 0) (PO.fieldAddr fo34_0 rfl rfl) rfl ?_
 refine Pu (.int .i64 a0.Kind) (PO.loadB 2 pl3 rfl rfl rfl) rfl ?_
 refine Pu (.bool (decide (a0.Kind ≠ 17))) (PO.neq rfl rfl) rfl ?_
 refine Nt ?_
 refine WC.cond (b := decide (a0.Kind ≠ 17)) rfl (fun hb24 => ?_) (fun hb24 => ?_)
 have h := ite_t hb24 h
 refine WC.seq ?_
 refine WC.draw [0, 0, 2, 6, 1, 31] (.pure 0 (.pure 1 (.pure 2 (.pure 3 (.alt 4 (.alt 5 .done .none) .none))))) mixed (by kernel_rfl) ?_
 refine Tp (.agg z43_.toArray) rfl (PO.buildL (cl := z43_) ze43 fp43 Parts.nil rfl) rfl ?_
 refine Tp (pt g21 0) rfl (PO.fieldAddr fo34_0 rfl rfl) rfl ?_
 refine Tp (.int .i64 a0.Kind) rfl (PO.loadB 2 pl3 rfl rfl rfl) rfl ?_
 refine Tp (.agg #[(.string ⟨#[102, 114, 97, 109, 101]⟩), (.int .i64 a0.Kind), (.int .i64 5)]) rfl (PO.buildL (cl := [(.string ⟨#[102, 114, 97, 109, 101]⟩), (.int .i64 a0.Kind), (.int .i64 5)]) ze37 fp37 (Parts.cons (congrArg Value.cells (show ev _ _ = (.string ⟨#[102, 114, 97, 109, 101]⟩) from rfl)) (Parts.cons (congrArg Value.cells (show ev _ _ = (.int .i64 a0.Kind) from rfl)) (Parts.cons (congrArg Value.cells (show ev _ _ = (.int .i64 5) from rfl)) Parts.nil))) rfl) rfl ?_
 refine WT.f1 ?_
 refine WT.alt rfl (EO.storeL (v := (.agg z43_.toArray)) (vl := z43_) (arr' := z43_) rfl sz43 rfl rfl (onesOf (Ones.cons rfl (Ones.cons rfl (Ones.cons rfl (Ones.cons rfl (Ones.cons rfl (Ones.cons rfl (Ones.cons rfl Ones.nil)))))))) rfl rfl (by kernel_rfl)) rfl ?_ ?_
 rintro _ _ _ - ⟨rfl, rfl⟩
 refine ⟨(StabL.st (StabA.of rfl (PO.buildL (cl := [(.string ⟨#[102, 114, 97, 109, 101]⟩), (.int .i64 a0.Kind), (.int .i64 5)]) ze37 fp37 (Parts.cons (congrArg Value.cells (show ev _ _ = (.string ⟨#[102, 114, 97, 109, 101]⟩) from rfl)) (Parts.cons (congrArg Value.cells (show ev _ _ = (.int .i64 a0.Kind) from rfl)) (Parts.cons (congrArg Value.cells (show ev _ _ = (.int .i64 5) from rfl)) Parts.nil))) rfl) rfl) (StabL.st (StabA.of rfl (PO.loadB 2 pl3 rfl rfl rfl) rfl) (StabL.st (StabA.of rfl (PO.fieldAddr fo34_0 rfl rfl) rfl) (StabL.anc rfl trivial)))), ?_⟩
 refine WT.f1 ?_
 refine WT.alt rfl (EO.storeL (v := (.agg #[(.string ⟨#[102, 114, 97, 109, 101]⟩), (.int .i64 a0.Kind), (.int .i64 5)])) (vl := [(.string ⟨#[102, 114, 97, 109, 101]⟩), (.int .i64 a0.Kind), (.int .i64 5)]) (arr' := [(.string ⟨#[102, 114, 97, 109, 101]⟩), (.int .i64 a0.Kind), (.int .i64 5)]) rfl sz37 rfl rfl (onesOf (Ones.cons rfl (Ones.cons rfl (Ones.cons rfl Ones.nil)))) rfl rfl rfl) rfl ?_ ?_
 rintro _ _ _ - ⟨rfl, rfl⟩
 refine ⟨(StabL.anc rfl (StabL.anc rfl (StabL.anc rfl (StabL.anc rfl trivial)))), ?_⟩
 refine WT.fin ?_
 refine WQ.thenC ?_
 refine WC.ret ?_
 refine WQ.thenR ?_
 refine WQ.f2 ?_
 refine WQ.drop ?_
 refine WQ.f1 ?_
 exact WQ.returnsD h [] (fun _ hs => hs.drop.drop) (resultsLN rfl (RVs.cons (RV.cellA (cs := z43_) 0 ag43 sz43 rfl rfl rfl) (RVs.cons (RV.cellA (cs := [(.string ⟨#[102, 114, 97, 109, 101]⟩), (.int .i64 a0.Kind), (.int .i64 5)]) 1 ag37 sz37 rfl rfl rfl) RVs.nil))) (IM.le.refl _) ⟨rfl, rfl⟩
 exact WT.no
 exact WT.no
 have h := ite_f hb24 h
 refine WC.skip ?_
 refine WQ.thenC ?_
 refine Sr ?_
 refine Pu (pt g21 1) (PO.fieldAddr fo34_1 rfl rfl) rfl ?_
 refine Pu v0_1 (PO.loadB 2 pl22 rfl rfl rfl) rfl ?_
 refine Pu (.agg #[v0_1, (.int .i64 0), (.int .i64 0), (.string ⟨#[]⟩), (.int .i64 0)]) (PO.buildL (cl := [v0_1, (.int .i64 0), (.int .i64 0), (.string ⟨#[]⟩), (.int .i64 0)]) ze69 fp69 (Parts.cons ((congrArg Value.cells (show ev _ _ = v0_1 from rfl)).trans h0_1.cells) Parts.nil) rfl) rfl ?_
 refine WL.eff (EO.box (cs := #[v0_1, (.int .i64 0), (.int .i64 0), (.string ⟨#[]⟩), (.int .i64 0)]) (congrArg Value.cells (show ev _ _ = (.agg #[v0_1, (.int .i64 0), (.int .i64 0), (.string ⟨#[]⟩), (.int .i64 0)]) from rfl))) rfl ?_
 rintro _ _ _ - ⟨rfl, g25, rfl, rfl⟩
 refine Pa (pt g25 0) rfl rfl ?_
 refine Ns ?_
 refine Pu (.agg z43_.toArray) (PO.buildL (cl := z43_) ze43 fp43 Parts.nil rfl) rfl ?_
 refine WL.eff (EO.alloc ze43 rfl) rfl ?_
 rintro _ _ _ - ⟨rfl, g26, rfl, rfl⟩
 refine WL.eff (EO.storeL (v := (.agg z43_.toArray)) (vl := z43_) (arr' := z43_) rfl sz43 rfl rfl (onesOf (Ones.cons rfl (Ones.cons rfl (Ones.cons rfl (Ones.cons rfl (Ones.cons rfl (Ones.cons rfl (Ones.cons rfl Ones.nil)))))))) rfl rfl (by kernel_rfl)) rfl ?_
 rintro _ _ _ - ⟨rfl, rfl⟩
 refine Ns ?_
 refine Pm (pt g25 0) rfl rfl ?_
 obtain ⟨⟨r27, r28, r29, r30, r31⟩, hr32, h⟩ := bnd h
 refine WL.f1 ?_
 refine WL.eff (EO.call1 co28 (f_ref05_Cursor_Int_ok (⟨a0.Body, (⟨(0 : Int), (0 : Int), (⟨#[]⟩ : ByteArray), (0 : Int)⟩ : T_ref02_State)⟩ : T_ref05_Cursor) (1073741824 : Int) _ _ _ h0_1 (r27, r28, r29, r30, r31) hr32) (args2 rfl rfl)) rfl ?_
 rintro _ M33 _ hle34 ⟨_, ⟨rfl, rfl⟩, rfl⟩
 have h0_1 := h0_1.mono hle34
 refine WL.a1 ?_
 refine Pu (pt g26 0) (PO.fieldAddr fo43_0 rfl rfl) rfl ?_
 refine WL.f1 ?_
 refine WL.eff (EO.storeL (v := (.int .i64 r27)) (vl := [(.int .i64 r27)]) (arr' := [(.int .i64 r27), (.int .i64 0), (.int .i64 0), (.int .i64 0), (.bool false), (.bool false), (.bool false)]) rfl sz3 rfl rfl (onesOf (Ones.cons rfl Ones.nil)) rfl rfl (by kernel_rfl)) rfl ?_
 rintro _ _ _ - ⟨rfl, rfl⟩
 refine Ns ?_
 refine Pm (pt g25 0) rfl rfl ?_
 obtain ⟨⟨r36, r37, r38, r39, r40⟩, hr41, h⟩ := bnd h
 refine WL.f1 ?_
 refine WL.eff (EO.call1 co28 (f_ref05_Cursor_Int_ok (⟨a0.Body, (⟨r28, r29, r30, r31⟩ : T_ref02_State)⟩ : T_ref05_Cursor) (1073741824 : Int) _ _ _ h0_1 (r36, r37, r38, r39, r40) hr41) (args2 rfl rfl)) rfl ?_
 rintro _ M42 _ hle43 ⟨_, ⟨rfl, rfl⟩, rfl⟩
 have h0_1 := h0_1.mono hle43
 refine WL.a1 ?_
 refine Pu (pt g26 1) (PO.fieldAddr fo43_1 rfl rfl) rfl ?_
 refine WL.f1 ?_
 refine WL.eff (EO.storeL (v := (.int .i64 r36)) (vl := [(.int .i64 r36)]) (arr' := [(.int .i64 r27), (.int .i64 r36), (.int .i64 0), (.int .i64 0), (.bool false), (.bool false), (.bool false)]) rfl sz3 rfl rfl (onesOf (Ones.cons rfl Ones.nil)) rfl rfl (by kernel_rfl)) rfl ?_
 rintro _ _ _ - ⟨rfl, rfl⟩
 refine Ns ?_
 refine Pm (pt g25 0) rfl rfl ?_
 obtain ⟨⟨r45, r46, r47, r48, r49⟩, hr50, h⟩ := bnd h
 refine WL.f1 ?_
 refine WL.eff (EO.call1 co28 (f_ref05_Cursor_Int_ok (⟨a0.Body, (⟨r37, r38, r39, r40⟩ : T_ref02_State)⟩ : T_ref05_Cursor) (1073741824 : Int) _ _ _ h0_1 (r45, r46, r47, r48, r49) hr50) (args2 rfl rfl)) rfl ?_
 rintro _ M51 _ hle52 ⟨_, ⟨rfl, rfl⟩, rfl⟩
 have h0_1 := h0_1.mono hle52
 refine WL.a1 ?_
 refine Pu (pt g26 2) (PO.fieldAddr fo43_2 rfl rfl) rfl ?_
 refine WL.f1 ?_
 refine WL.eff (EO.storeL (v := (.int .i64 r45)) (vl := [(.int .i64 r45)]) (arr' := [(.int .i64 r27), (.int .i64 r36), (.int .i64 r45), (.int .i64 0), (.bool false), (.bool false), (.bool false)]) rfl sz3 rfl rfl (onesOf (Ones.cons rfl Ones.nil)) rfl rfl (by kernel_rfl)) rfl ?_
 rintro _ _ _ - ⟨rfl, rfl⟩
 refine Ns ?_
 refine Pm (pt g25 0) rfl rfl ?_
 obtain ⟨⟨r54, r55, r56, r57, r58⟩, hr59, h⟩ := bnd h
 refine WL.f1 ?_
 refine WL.eff (EO.call1 co28 (f_ref05_Cursor_Int_ok (⟨a0.Body, (⟨r46, r47, r48, r49⟩ : T_ref02_State)⟩ : T_ref05_Cursor) (1073741824 : Int) _ _ _ h0_1 (r54, r55, r56, r57, r58) hr59) (args2 rfl rfl)) rfl ?_
 rintro _ M60 _ hle61 ⟨_, ⟨rfl, rfl⟩, rfl⟩
 have h0_1 := h0_1.mono hle61
 refine WL.a1 ?_
 refine Pu (pt g26 3) (PO.fieldAddr fo43_3 rfl rfl) rfl ?_
 refine WL.f1 ?_
 refine WL.eff (EO.storeL (v := (.int .i64 r54)) (vl := [(.int .i64 r54)]) (arr' := [(.int .i64 r27), (.int .i64 r36), (.int .i64 r45), (.int .i64 r54), (.bool false), (.bool false), (.bool false)]) rfl sz3 rfl rfl (onesOf (Ones.cons rfl Ones.nil)) rfl rfl (by kernel_rfl)) rfl ?_
 rintro _ _ _ - ⟨rfl, rfl⟩
 refine Ns ?_
 refine Pm (pt g25 0) rfl rfl ?_
 obtain ⟨⟨r63, r64, r65, r66, r67⟩, hr68, h⟩ := bnd h
 refine WL.f1 ?_
 refine WL.eff (EO.call1 co34 (f_ref05_Cursor_Flag_ok (⟨a0.Body, (⟨r55, r56, r57, r58⟩ : T_ref02_State)⟩ : T_ref05_Cursor) _ _ _ h0_1 (r63, r64, r65, r66, r67) hr68) (args1 rfl)) rfl ?_
 rintro _ M69 _ hle70 ⟨_, ⟨rfl, rfl⟩, rfl⟩
 have h0_1 := h0_1.mono hle70
 refine WL.a1 ?_
 refine Pu (pt g26 4) (PO.fieldAddr fo43_4 rfl rfl) rfl ?_
 refine Pu (pt g26 4) (PO.fieldAddr fo41_0 rfl rfl) rfl ?_
 refine WL.f1 ?_
 refine WL.eff (EO.storeL (v := (.bool r63)) (vl := [(.bool r63)]) (arr' := [(.int .i64 r27), (.int .i64 r36), (.int .i64 r45), (.int .i64 r54), (.bool r63), (.bool false), (.bool false)]) rfl sz4 rfl rfl (onesOf (Ones.cons rfl Ones.nil)) rfl rfl (by kernel_rfl)) rfl ?_
 rintro _ _ _ - ⟨rfl, rfl⟩
 refine Ns ?_
 refine Pm (pt g25 0) rfl rfl ?_
 obtain ⟨⟨r72, r73, r74, r75, r76⟩, hr77, h⟩ := bnd h
 refine WL.f1 ?_
 refine WL.eff (EO.call1 co34 (f_ref05_Cursor_Flag_ok (⟨a0.Body, (⟨r64, r65, r66, r67⟩ : T_ref02_State)⟩ : T_ref05_Cursor) _ _ _ h0_1 (r72, r73, r74, r75, r76) hr77) (args1 rfl)) rfl ?_
 rintro _ M78 _ hle79 ⟨_, ⟨rfl, rfl⟩, rfl⟩
 have h0_1 := h0_1.mono hle79
 refine WL.a1 ?_
 refine Pu (pt g26 4) (PO.fieldAddr fo43_4 rfl rfl) rfl ?_
 refine Pu (pt g26 5) (PO.fieldAddr fo41_1 rfl rfl) rfl ?_
 refine WL.f1 ?_
 refine WL.eff (EO.storeL (v := (.bool r72)) (vl := [(.bool r72)]) (arr' := [(.int .i64 r27), (.int .i64 r36), (.int .i64 r45), (.int .i64 r54), (.bool r63), (.bool r72), (.bool false)]) rfl sz4 rfl rfl (onesOf (Ones.cons rfl Ones.nil)) rfl rfl (by kernel_rfl)) rfl ?_
 rintro _ _ _ - ⟨rfl, rfl⟩
 refine Ns ?_
 refine Pm (pt g25 0) rfl rfl ?_
 obtain ⟨⟨r81, r82, r83, r84, r85⟩, hr86, h⟩ := bnd h
 refine WL.f1 ?_
 refine WL.eff (EO.call1 co34 (f_ref05_Cursor_Flag_ok (⟨a0.Body, (⟨r73, r74, r75, r76⟩ : T_ref02_State)⟩ : T_ref05_Cursor) _ _ _ h0_1 (r81, r82, r83, r84, r85) hr86) (args1 rfl)) rfl ?_
 rintro _ M87 _ hle88 ⟨_, ⟨rfl, rfl⟩, rfl⟩
 have h0_1 := h0_1.mono hle88
 refine WL.a1 ?_
 refine Pu (pt g26 4) (PO.fieldAddr fo43_4 rfl rfl) rfl ?_
 refine Pu (pt g26 6) (PO.fieldAddr fo41_2 rfl rfl) rfl ?_
 refine WL.f1 ?_
 refine WL.eff (EO.storeL (v := (.bool r81)) (vl := [(.bool r81)]) (arr' := [(.int .i64 r27), (.int .i64 r36), (.int .i64 r45), (.int .i64 r54), (.bool r63), (.bool r72), (.bool r81)]) rfl sz4 rfl rfl (onesOf (Ones.cons rfl Ones.nil)) rfl rfl (by kernel_rfl)) rfl ?_
 rintro _ _ _ - ⟨rfl, rfl⟩
 refine Ns ?_
 refine Pm (pt g25 0) rfl rfl ?_
 obtain ⟨⟨r90, r91, r92, r93⟩, hr94, h⟩ := bnd h
 refine WL.f1 ?_
 refine WL.eff (EO.call1 co37 (f_ref05_Cursor_End_ok (⟨a0.Body, (⟨r82, r83, r84, r85⟩ : T_ref02_State)⟩ : T_ref05_Cursor) _ _ _ h0_1 (r90, r91, r92, r93) hr94) (args1 rfl)) rfl ?_
 rintro _ M95 _ hle96 ⟨_, ⟨rfl, rfl⟩, rfl⟩
 have h0_1 := h0_1.mono hle96
 refine WL.a1 ?_
 refine Nt ?_
 refine WC.seq ?_
 refine Sr ?_
 refine Pm (pt g25 0) rfl rfl ?_
 refine Pu (pt g25 0) (PO.nilCheck rfl) rfl ?_
 refine Pu (pt g25 1) (PO.fieldAddr fo69_1 rfl rfl) rfl ?_
 refine Pu (pt g25 2) (PO.fieldAddr fo67_1 rfl rfl) rfl ?_
 refine Pu (.int .i64 r91) (PO.loadB 0 pl35 rfl rfl rfl) rfl ?_
 refine Pu (.bool (decide (r91 ≠ 0))) (PO.neq rfl rfl) rfl ?_
 refine Nt ?_
 refine WC.cond (b := decide (r91 ≠ 0)) rfl (fun hb97 => ?_) (fun hb97 => ?_)
 have h := ite_t hb97 h
 refine Sr ?_
 refine Pu (.agg z43_.toArray) (PO.buildL (cl := z43_) ze43 fp43 Parts.nil rfl) rfl ?_
 refine Pm (pt g25 0) rfl rfl ?_
 obtain ⟨r98, hr99, h⟩ := bnd h
 refine WL.eff (EO.call1 co31 (f_ref22_bad_ok (⟨a0.Body, (⟨r90, r91, r92, r93⟩ : T_ref02_State)⟩ : T_ref05_Cursor) _ _ _ h0_1 r98 hr99) (args1 rfl)) rfl ?_
 rintro _ M100 _ hle101 ⟨_, ⟨rfl, rfl⟩, rfl⟩
 have h0_1 := h0_1.mono hle101
 refine WL.a1 ?_
 refine WL.f3 ?_
 refine WL.eff (EO.storeL (v := (.agg z43_.toArray)) (vl := z43_) (arr' := z43_) rfl sz43 rfl rfl (onesOf (Ones.cons rfl (Ones.cons rfl (Ones.cons rfl (Ones.cons rfl (Ones.cons rfl (Ones.cons rfl (Ones.cons rfl Ones.nil)))))))) rfl rfl (by kernel_rfl)) rfl ?_
 rintro _ _ _ - ⟨rfl, rfl⟩
 refine WL.f3 ?_
 refine WL.eff (EO.storeL (v := (a37_ r98)) (vl := (l37 r98)) (arr' := (l37 r98)) rfl sz37 rfl rfl (onesOf (Ones.cons rfl (Ones.cons rfl (Ones.cons rfl Ones.nil)))) rfl rfl rfl) rfl ?_
 rintro _ _ _ - ⟨rfl, rfl⟩
 refine Nt ?_
 refine WC.ret ?_
 refine WQ.thenR ?_
 refine WQ.f2 ?_
 refine WQ.drop ?_
 refine WQ.f2 ?_
 refine WQ.drop ?_
 refine WQ.f2 ?_
 refine WQ.drop ?_
 refine WQ.f1 ?_
 exact WQ.returnsD h [] (fun _ hs => hs.drop.drop) (resultsLN rfl (RVs.cons (RV.cellA (cs := z43_) 0 ag43 sz43 rfl rfl rfl) (RVs.cons (RV.cellA (cs := (l37 r98)) 1 ag37 sz37 rfl rfl rfl) RVs.nil))) ((((((((hle34.trans hle43).trans hle52).trans hle61).trans hle70).trans hle79).trans hle88).trans hle96).trans hle101) ⟨rfl, rfl⟩
 have h := ite_f hb97 h
 refine WC.skip ?_
 refine WQ.thenC ?_
 refine WC.seq ?_
 refine Sr ?_
 refine Pu (.agg #[(.int .i64 r27), (.int .i64 r36), (.int .i64 r45), (.int .i64 r54), (.bool r63), (.bool r72), (.bool r81)]) (PO.loadBA (cs := [(.int .i64 r27), (.int .i64 r36), (.int .i64 r45), (.int .i64 r54), (.bool r63), (.bool r72), (.bool r81)]) 1 ag43 sz43 rfl rfl rfl) rfl ?_
 obtain ⟨r103, hr104, h⟩ := bnd h
 refine WL.eff (EO.call0 co39 (f_ref22_CheckReply_ok (⟨r27, r36, r45, r54, (⟨r63, r72, r81⟩ : T_api_Told)⟩ : T_api_Reply) _ r103 hr104) (args1 rfl)) rfl ?_
 rintro _ M105 _ hle106 ⟨_, ⟨rfl, rfl⟩, rfl⟩
 have h0_1 := h0_1.mono hle106
 refine WL.a0 ?_
 refine WL.eff (EO.alloc ze37 rfl) rfl ?_
 rintro _ _ _ - ⟨rfl, g108, rfl, rfl⟩
 refine WL.eff (EO.storeL (v := (a37_ r103)) (vl := (l37 r103)) (arr' := (l37 r103)) rfl sz37 rfl rfl (onesOf (Ones.cons rfl (Ones.cons rfl (Ones.cons rfl Ones.nil)))) rfl rfl rfl) rfl ?_
 rintro _ _ _ - ⟨rfl, rfl⟩
 refine Ns ?_
 refine Pu (pt g108 2) (PO.fieldAddr fo37_2 rfl rfl) rfl ?_
 refine Pu (.int .i64 r103.Code) (PO.loadB 0 pl35 rfl rfl rfl) rfl ?_
 refine Pu (.bool (decide (r103.Code ≠ 0))) (PO.neq rfl rfl) rfl ?_
 refine Nt ?_
 refine WC.cond (b := decide (r103.Code ≠ 0)) rfl (fun hb109 => ?_) (fun hb109 => ?_)
 have h := ite_t hb109 h
 refine WC.seq ?_
 refine WC.draw [0, 0, 1, 7] (.pure 0 (.pure 1 (.alt 2 (.alt 3 .done .none) .none))) mixed (by kernel_rfl) ?_
 refine Tp (.agg z43_.toArray) rfl (PO.buildL (cl := z43_) ze43 fp43 Parts.nil rfl) rfl ?_
 refine Tp (a37_ r103) rfl (PO.loadBA (cs := (l37 r103)) 0 ag37 sz37 rfl rfl rfl) rfl ?_
 refine WT.f4 ?_
 refine WT.alt rfl (EO.storeL (v := (.agg z43_.toArray)) (vl := z43_) (arr' := z43_) rfl sz43 rfl rfl (onesOf (Ones.cons rfl (Ones.cons rfl (Ones.cons rfl (Ones.cons rfl (Ones.cons rfl (Ones.cons rfl (Ones.cons rfl Ones.nil)))))))) rfl rfl (by kernel_rfl)) rfl ?_ ?_
 rintro _ _ _ - ⟨rfl, rfl⟩
 refine ⟨(StabL.st (StabA.of rfl (PO.loadBA (cs := (l37 r103)) 1 ag37 sz37 rfl rfl rfl) rfl) (StabL.anc rfl trivial)), ?_⟩
 refine WT.f4 ?_
 refine WT.alt rfl (EO.storeL (v := (a37_ r103)) (vl := (l37 r103)) (arr' := (l37 r103)) rfl sz37 rfl rfl (onesOf (Ones.cons rfl (Ones.cons rfl (Ones.cons rfl Ones.nil)))) rfl rfl rfl) rfl ?_ ?_
 rintro _ _ _ - ⟨rfl, rfl⟩
 refine ⟨(StabL.anc rfl (StabL.anc rfl trivial)), ?_⟩
 refine WT.fin ?_
 refine WQ.thenC ?_
 refine WC.ret ?_
 refine WQ.thenR ?_
 refine WQ.f2 ?_
 refine WQ.drop ?_
 refine WQ.f2 ?_
 refine WQ.drop ?_
 refine WQ.f2 ?_
 refine WQ.drop ?_
 refine WQ.f2 ?_
 refine WQ.drop ?_
 refine WQ.f1 ?_
 exact WQ.returnsD h [] (fun _ hs => hs.drop.drop) (resultsLN rfl (RVs.cons (RV.cellA (cs := z43_) 0 ag43 sz43 rfl rfl rfl) (RVs.cons (RV.cellA (cs := (l37 r103)) 1 ag37 sz37 rfl rfl rfl) RVs.nil))) ((((((((hle34.trans hle43).trans hle52).trans hle61).trans hle70).trans hle79).trans hle88).trans hle96).trans hle106) ⟨rfl, rfl⟩
 exact WT.no
 exact WT.no
 have h := ite_f hb109 h
 refine WC.skip ?_
 refine WQ.thenC ?_
 refine Sr ?_
 refine Pu (.agg #[(.int .i64 r27), (.int .i64 r36), (.int .i64 r45), (.int .i64 r54), (.bool r63), (.bool r72), (.bool r81)]) (PO.loadBA (cs := [(.int .i64 r27), (.int .i64 r36), (.int .i64 r45), (.int .i64 r54), (.bool r63), (.bool r72), (.bool r81)]) 2 ag43 sz43 rfl rfl rfl) rfl ?_
 refine Pu (.agg #[(.string ⟨#[]⟩), (.int .i64 0), (.int .i64 0)]) (PO.buildL (cl := [(.string ⟨#[]⟩), (.int .i64 0), (.int .i64 0)]) ze37 fp37 Parts.nil rfl) rfl ?_
 refine WL.f4 ?_
 refine WL.eff (EO.storeL (v := (.agg #[(.int .i64 r27), (.int .i64 r36), (.int .i64 r45), (.int .i64 r54), (.bool r63), (.bool r72), (.bool r81)])) (vl := [(.int .i64 r27), (.int .i64 r36), (.int .i64 r45), (.int .i64 r54), (.bool r63), (.bool r72), (.bool r81)]) (arr' := [(.int .i64 r27), (.int .i64 r36), (.int .i64 r45), (.int .i64 r54), (.bool r63), (.bool r72), (.bool r81)]) rfl sz43 rfl rfl (onesOf (Ones.cons rfl (Ones.cons rfl (Ones.cons rfl (Ones.cons rfl (Ones.cons rfl (Ones.cons rfl (Ones.cons rfl Ones.nil)))))))) rfl rfl (by kernel_rfl)) rfl ?_
 rintro _ _ _ - ⟨rfl, rfl⟩
 refine WL.f4 ?_
 refine WL.eff (EO.storeL (v := (.agg #[(.string ⟨#[]⟩), (.int .i64 0), (.int .i64 0)])) (vl := [(.string ⟨#[]⟩), (.int .i64 0), (.int .i64 0)]) (arr' := [(.string ⟨#[]⟩), (.int .i64 0), (.int .i64 0)]) rfl sz37 rfl rfl (onesOf (Ones.cons rfl (Ones.cons rfl (Ones.cons rfl Ones.nil)))) rfl rfl rfl) rfl ?_
 rintro _ _ _ - ⟨rfl, rfl⟩
 refine Nt ?_
 refine WC.ret ?_
 refine WQ.f2 ?_
 refine WQ.drop ?_
 refine WQ.f2 ?_
 refine WQ.drop ?_
 refine WQ.f2 ?_
 refine WQ.drop ?_
 refine WQ.f2 ?_
 refine WQ.drop ?_
 refine WQ.f1 ?_
 exact WQ.returnsD h [] (fun _ hs => hs.drop.drop) (resultsLN rfl (RVs.cons (RV.cellA (cs := [(.int .i64 r27), (.int .i64 r36), (.int .i64 r45), (.int .i64 r54), (.bool r63), (.bool r72), (.bool r81)]) 0 ag43 sz43 rfl rfl rfl) (RVs.cons (RV.cellA (cs := [(.string ⟨#[]⟩), (.int .i64 0), (.int .i64 0)]) 1 ag37 sz37 rfl rfl rfl) RVs.nil))) ((((((((hle34.trans hle43).trans hle52).trans hle61).trans hle70).trans hle79).trans hle88).trans hle96).trans hle106) ⟨rfl, rfl⟩

noncomputable def f_errors_as_fault_l0 (a1 : T_api_Fault) (s_ : GErr) : Option (GErr ⊕ (Bool × ByteArray × Int × GErr)) :=
  match s_ with
  | x23 =>
    (match x23 with | .nil => none | .code n28 => (some (Sum.inr (false, a1.Op, a1.At, a1.Err))) | .fault o29 a30 e31 => (some (Sum.inr (true, o29, a30, e31))) | .other b32 => (some (Sum.inr (false, a1.Op, a1.At, a1.Err))))
noncomputable def f_errors_as_fault (a0 : GErr) (a1 : T_api_Fault) : Option (Bool × ByteArray × Int × GErr) :=
  ((iter (f_errors_as_fault_l0 a1) a0).bind (fun (x24, x25, x26, x27) => (some (x24, x25, x26, x27))))
def f_errors_as_fault_post (a0 : GErr) (a1 : T_api_Fault) (g1 g2 : Nat) : (Bool × ByteArray × Int × GErr) → Value → IM → HL → Prop :=
  fun (p_ : (Bool × ByteArray × Int × GErr)) (v : Value) (M' : IM) (H' : HL) => match p_ with | (r0, r1, r2, r3) => (.bool r0) = v ∧ H' = [[(g1, .cells #[(.string r1), (.int .i64 r2), (GV r3)] 98 (0, 0))], [(g2, .cells #[(.pointer (some ⟨g1, 0, none⟩))] 113 (0, 0))]]
theorem f_errors_as_fault_ok (a0 : GErr) (a1 : T_api_Fault) (M : IM) (g1 g2 : Nat) (res : (Bool × ByteArray × Int × GErr)) (h : f_errors_as_fault a0 a1 = some res) :
    Tri Tryz.prog 83 #[(GV a0), (.iface 113 (pt g1 0)), (.agg #[(pt 1 113), (pt g2 0), (.int .u64 150)]), (.iface 143 (.agg #[.pointer (some ⟨1, 98, none⟩)]))] M [[(g1, .cells (l98 a1).toArray 98 (0, 0))], [(g2, .cells #[(pt g1 0)] 113 (0, 0))]] (f_errors_as_fault_post a0 a1 g1 g2 res) := by
 unfold f_errors_as_fault at h
 refine Tri.enter (fn := Tryz.f83) Tryz.func83 rfl (Nat.le_of_ble_eq_true rfl) ?_
 intro F ρ hρ
 refine Sr ?_
 refine WL.eff (EO.box (cs := #[(pt 1 113), (pt g2 0), (.int .u64 150)]) (congrArg Value.cells (asE (.agg #[(pt 1 113), (pt g2 0), (.int .u64 150)]) (hρ 2)))) rfl ?_
 rintro _ _ _ - ⟨rfl, g21, rfl, rfl⟩
 refine Pa (.bool false) rfl rfl ?_
 refine Nt ?_
 refine WC.block ?_
 obtain ⟨e22, he22, hK22⟩ := bnd h
 clear h
 refine WC.loop he22 (fun (x23 : GErr) ρ' M' H' => M.le M' ∧ [(g21, .cells #[(pt 1 113), (pt g2 0), (.int .u64 150)] 135 (0, 0))] :: [(g1, .cells (l98 a1).toArray 98 (0, 0))] :: [(g2, .cells #[(pt g1 0)] 113 (0, 0))] :: F = H' ∧ ρ' 0 = (GV x23) ∧ ρ' 1 = (.iface 113 (pt g1 0)) ∧ ρ' 3 = (.iface 143 (.agg #[.pointer (some ⟨1, 98, none⟩)])) ∧ ρ' 6 = (pt g21 0)) ?_ ?_
 exact ⟨(IM.le.refl _), rfl, (hρ 0), (hρ 1), (hρ 3), rfl⟩
 rintro x23 o22 ρ22 M22 H22 h ⟨hle22, rfl, hs22_0, hs22_1, hs22_3, hs22_6⟩
 unfold f_errors_as_fault_l0 at h
 refine WC.block ?_
 refine WC.seq ?_
 refine Sr ?_
 refine Pm (GV x23) hs22_0 rfl ?_
 rcases x23 with _ | n28 | ⟨o29, a30, e31⟩ | b32
 refine WL.eff (EO.extP xt71 (args1 (show ev _ _ = .nilIface from rfl)) tyNil) rfl ?_
 rintro _ _ _ - ⟨rfl, rfl, rfl⟩
 refine Pm (.iface 143 (.agg #[.pointer (some ⟨1, 98, none⟩)])) hs22_3 rfl ?_
 exact nones h
 refine WL.eff (EO.extP xt71 (args1 (show ev _ _ = (.iface 35 (.int .i64 n28)) from rfl)) (ty35 _)) rfl ?_
 rintro _ _ _ - ⟨rfl, rfl, rfl⟩
 refine Pm (.iface 143 (.agg #[.pointer (some ⟨1, 98, none⟩)])) hs22_3 rfl ?_
 refine WL.eff (EO.invE (show ev _ _ = (.iface 143 (.agg #[.pointer (some ⟨1, 35, none⟩)])) from rfl) (mm_AssignableTo (pt 1 35)) xt113 (inv1 rfl) mr_AssignableTo_35_98) rfl ?_
 rintro _ _ _ - ⟨rfl, rfl, rfl⟩
 refine Nt ?_
 refine WC.condF (b := false) rfl rfl ?_
 refine WC.skip ?_
 refine WQ.thenC ?_
 refine WC.seq ?_
 refine Sr ?_
 refine Pm (GV (GErr.code n28)) hs22_0 rfl ?_
 refine Pu (.tuple #[.nilIface, (.bool false)]) (PO.asserts (show ev _ _ = (.iface 35 (.int .i64 n28)) from rfl) (la35_156 _ _)) rfl ?_
 refine Pm (.tuple #[.nilIface, (.bool false)]) rfl rfl ?_
 refine Pu .nilIface (PO.extract rfl rfl) rfl ?_
 refine Pu (.bool false) (PO.extract rfl rfl) rfl ?_
 refine Pa .nilIface rfl rfl ?_
 refine Pa (.bool false) rfl rfl ?_
 refine Ns ?_
 refine Pm (.bool false) rfl rfl ?_
 refine Pm (.bool false) rfl rfl ?_
 iterate 3 refine Of 31 rfl rfl rfl rfl ?_
 refine Pu (.bool false) (PO.pickF rfl rfl rfl) rfl ?_
 refine Nt ?_
 refine WC.condF (b := false) rfl rfl ?_
 refine WC.skip ?_
 refine WQ.thenC ?_
 refine Sr ?_
 refine Pm (GV (GErr.code n28)) hs22_0 rfl ?_
 refine Nt ?_
 refine WC.block ?_
 refine Sr ?_
 refine Pu (.tuple #[.nilIface, (.bool false)]) (PO.asserts (show ev _ _ = (.iface 35 (.int .i64 n28)) from rfl) (la35_148 _ _)) rfl ?_
 refine Pu (.bool false) (PO.extract rfl rfl) rfl ?_
 refine Pu .nilIface (PO.extract rfl rfl) rfl ?_
 refine Nt ?_
 refine WC.condF (b := false) rfl rfl ?_
 refine Sr ?_
 refine Pu (.tuple #[.nilIface, (.bool false)]) (PO.asserts (show ev _ _ = (.iface 35 (.int .i64 n28)) from rfl) (la35_149 _ _)) rfl ?_
 refine Pu (.bool false) (PO.extract rfl rfl) rfl ?_
 refine Pu .nilIface (PO.extract rfl rfl) rfl ?_
 refine Nt ?_
 refine WC.condF (b := false) rfl rfl ?_
 refine Sr ?_
 refine Pa (GV (GErr.code n28)) rfl rfl ?_
 refine Ns ?_
 refine Pa (.bool false) rfl rfl ?_
 refine Nt ?_
 refine WC.ret ?_
 refine WQ.blockR ?_
 refine WQ.blockR ?_
 refine WQ.leaveR (false, a1.Op, a1.At, a1.Err) (Option.some.inj h).symm (fun heq22 => ?_)
 subst heq22
 have h := hK22
 refine WQ.blockR ?_
 refine WQ.drop ?_
 exact WQ.returnsF h [[(g1, .cells (l98 a1).toArray 98 (0, 0))], [(g2, .cells #[(pt g1 0)] 113 (0, 0))]] rfl (results1 rfl rfl) hle22 ⟨rfl, rfl⟩
 refine WL.eff (EO.extP xt71 (args1 (show ev _ _ = (.iface 98 (.agg #[.string o29, .int .i64 a30, GV e31])) from rfl)) (ty98 _)) rfl ?_
 rintro _ _ _ - ⟨rfl, rfl, rfl⟩
 refine Pm (.iface 143 (.agg #[.pointer (some ⟨1, 98, none⟩)])) hs22_3 rfl ?_
 refine WL.eff (EO.invE (show ev _ _ = (.iface 143 (.agg #[.pointer (some ⟨1, 98, none⟩)])) from rfl) (mm_AssignableTo (pt 1 98)) xt113 (inv1 rfl) mr_AssignableTo_98_98) rfl ?_
 rintro _ _ _ - ⟨rfl, rfl, rfl⟩
 refine Nt ?_
 refine WC.condT (b := true) rfl rfl ?_
 refine Sr ?_
 refine Pu (.agg #[(pt 1 113), (pt g2 0), (.int .u64 150)]) (PO.loadBA (cs := [(pt 1 113), (pt g2 0), (.int .u64 150)]) 0 ag135 sz135 hs22_6 rfl rfl) rfl ?_
 refine WL.eff (EO.rvElem (r := fun p => .agg #[(pt 1 98), .pointer (some p), .int .u64 409]) 2 xt86 pp113_150 rfl pl113 el113 mk98 (args1 (show ev _ _ = (.agg #[(pt 1 113), (pt g2 0), (.int .u64 150)]) from rfl)) rfl) rfl ?_
 rintro _ _ _ - ⟨rfl, rfl, rfl⟩
 refine Pm (GV (GErr.fault o29 a30 e31)) hs22_0 rfl ?_
 refine WL.eff (EO.valueOf xt80 (args1 (show ev _ _ = (.iface 98 (.agg #[.string o29, .int .i64 a30, GV e31])) from rfl)) (vo98 o29 a30 (GV e31))) rfl ?_
 rintro _ _ _ - ⟨rfl, g33, rfl, rfl⟩
 refine WL.f2 ?_
 refine WL.eff (EO.rvSet (arr := (l98 a1)) (vl := [(.string o29), (.int .i64 a30), (GV e31)]) (v := (.agg #[(.string o29), (.int .i64 a30), (GV e31)])) xt87 pp98_409 pp98_153 rfl da98 (args2 (show ev _ _ = (.agg #[(pt 1 98), (pt g1 0), (.int .u64 409)]) from rfl) (show ev _ _ = (.agg #[(pt 1 98), (pt g33 0), (.int .u64 153)]) from rfl)) (fun _ hs => run_loadAgg (cs := [(.string o29), (.int .i64 a30), (GV e31)]) ag98 sz98 (fun i v hi => by rw [add_lit]; exact hs.cellC 1 rfl (chunkCell_lit.trans (by simpa using hi)))) rfl sz98 rfl (onesOf (Ones.cons rfl (Ones.cons rfl (Ones.cons (GErr.val_one _ _ _ _) Ones.nil))))) rfl ?_
 rintro _ _ _ - ⟨rfl, rfl, rfl⟩
 refine Ns ?_
 refine Pa (.bool true) rfl rfl ?_
 refine Nt ?_
 refine WC.ret ?_
 refine WQ.thenR ?_
 refine WQ.blockR ?_
 refine WQ.leaveR (true, o29, a30, e31) (Option.some.inj h).symm (fun heq22 => ?_)
 subst heq22
 have h := hK22
 refine WQ.blockR ?_
 refine WQ.f1 ?_
 refine WQ.drop ?_
 refine WQ.f1 ?_
 refine WQ.drop ?_
 exact WQ.returnsF h [[(g1, .cells #[(.string o29), (.int .i64 a30), (GV e31)] 98 (0, 0))], [(g2, .cells #[(pt g1 0)] 113 (0, 0))]] rfl (results1 rfl rfl) hle22 ⟨rfl, rfl⟩
 refine WL.eff (EO.extP xt71 (args1 (show ev _ _ = (.iface 0 (.pointer (some b32))) from rfl)) (ty0 _)) rfl ?_
 rintro _ _ _ - ⟨rfl, rfl, rfl⟩
 refine Pm (.iface 143 (.agg #[.pointer (some ⟨1, 98, none⟩)])) hs22_3 rfl ?_
 refine WL.eff (EO.invE (show ev _ _ = (.iface 143 (.agg #[.pointer (some ⟨1, 0, none⟩)])) from rfl) (mm_AssignableTo (pt 1 0)) xt113 (inv1 rfl) mr_AssignableTo_0_98) rfl ?_
 rintro _ _ _ - ⟨rfl, rfl, rfl⟩
 refine Nt ?_
 refine WC.condF (b := false) rfl rfl ?_
 refine WC.skip ?_
 refine WQ.thenC ?_
 refine WC.seq ?_
 refine Sr ?_
 refine Pm (GV (GErr.other b32)) hs22_0 rfl ?_
 refine Pu (.tuple #[.nilIface, (.bool false)]) (PO.asserts (show ev _ _ = (.iface 0 (.pointer (some b32))) from rfl) (la0_156 _ _)) rfl ?_
 refine Pm (.tuple #[.nilIface, (.bool false)]) rfl rfl ?_
 refine Pu .nilIface (PO.extract rfl rfl) rfl ?_
 refine Pu (.bool false) (PO.extract rfl rfl) rfl ?_
 refine Pa .nilIface rfl rfl ?_
 refine Pa (.bool false) rfl rfl ?_
 refine Ns ?_
 refine Pm (.bool false) rfl rfl ?_
 refine Pm (.bool false) rfl rfl ?_
 iterate 3 refine Of 31 rfl rfl rfl rfl ?_
 refine Pu (.bool false) (PO.pickF rfl rfl rfl) rfl ?_
 refine Nt ?_
 refine WC.condF (b := false) rfl rfl ?_
 refine WC.skip ?_
 refine WQ.thenC ?_
 refine Sr ?_
 refine Pm (GV (GErr.other b32)) hs22_0 rfl ?_
 refine Nt ?_
 refine WC.block ?_
 refine Sr ?_
 refine Pu (.tuple #[.nilIface, (.bool false)]) (PO.asserts (show ev _ _ = (.iface 0 (.pointer (some b32))) from rfl) (la0_148 _ _)) rfl ?_
 refine Pu (.bool false) (PO.extract rfl rfl) rfl ?_
 refine Pu .nilIface (PO.extract rfl rfl) rfl ?_
 refine Nt ?_
 refine WC.condF (b := false) rfl rfl ?_
 refine Sr ?_
 refine Pu (.tuple #[.nilIface, (.bool false)]) (PO.asserts (show ev _ _ = (.iface 0 (.pointer (some b32))) from rfl) (la0_149 _ _)) rfl ?_
 refine Pu (.bool false) (PO.extract rfl rfl) rfl ?_
 refine Pu .nilIface (PO.extract rfl rfl) rfl ?_
 refine Nt ?_
 refine WC.condF (b := false) rfl rfl ?_
 refine Sr ?_
 refine Pa (GV (GErr.other b32)) rfl rfl ?_
 refine Ns ?_
 refine Pa (.bool false) rfl rfl ?_
 refine Nt ?_
 refine WC.ret ?_
 refine WQ.blockR ?_
 refine WQ.blockR ?_
 refine WQ.leaveR (false, a1.Op, a1.At, a1.Err) (Option.some.inj h).symm (fun heq22 => ?_)
 subst heq22
 have h := hK22
 refine WQ.blockR ?_
 refine WQ.drop ?_
 exact WQ.returnsF h [[(g1, .cells (l98 a1).toArray 98 (0, 0))], [(g2, .cells #[(pt g1 0)] 113 (0, 0))]] rfl (results1 rfl rfl) hle22 ⟨rfl, rfl⟩

noncomputable def f_errors_As_fault (a0 : GErr) (a1 : T_api_Fault) : Option (Bool × ByteArray × Int × GErr) :=
  (if a0.isNil = true then (some (false, a1.Op, a1.At, a1.Err)) else ((f_errors_as_fault a0 a1).bind fun (r24, r25, r26, r27) => (some (r24, r25, r26, r27))))
def f_errors_As_fault_post (a0 : GErr) (a1 : T_api_Fault) (g1 : Nat) : (Bool × ByteArray × Int × GErr) → Value → IM → HL → Prop :=
  fun (p_ : (Bool × ByteArray × Int × GErr)) (v : Value) (M' : IM) (H' : HL) => match p_ with | (r0, r1, r2, r3) => (.bool r0) = v ∧ H' = [[(g1, .cells #[(.string r1), (.int .i64 r2), (GV r3)] 98 (0, 0))]]
theorem f_errors_As_fault_ok (a0 : GErr) (a1 : T_api_Fault) (M : IM) (g1 : Nat) (hE : Env M) (res : (Bool × ByteArray × Int × GErr)) (h : f_errors_As_fault a0 a1 = some res) :
    Tri Tryz.prog 68 #[(GV a0), (.iface 113 (pt g1 0))] M [[(g1, .cells (l98 a1).toArray 98 (0, 0))]] (f_errors_As_fault_post a0 a1 g1 res) := by
 unfold f_errors_As_fault at h
 refine Tri.enter (fn := Tryz.f68) Tryz.func68 rfl (Nat.le_of_ble_eq_true rfl) ?_
 intro F ρ hρ
 refine Sr ?_
 refine Pa (.bool false) rfl rfl ?_
 refine Nt ?_
 refine WC.seq ?_
 refine Sr ?_
 refine Pm (GV a0) (hρ 0) rfl ?_
 refine Pu (.bool a0.isNil) (PO.errNil Tryz.underlying30 rfl) rfl ?_
 refine Nt ?_
 refine WC.cond (b := a0.isNil) rfl (fun hb21 => ?_) (fun hb21 => ?_)
 have h := ite_t hb21 h
 refine Sr ?_
 refine Pa (.bool false) rfl rfl ?_
 refine Nt ?_
 refine WC.ret ?_
 refine WQ.thenR ?_
 exact WQ.returnsF h [[(g1, .cells (l98 a1).toArray 98 (0, 0))]] rfl (results1 rfl rfl) (IM.le.refl _) ⟨rfl, rfl⟩
 have h := ite_f hb21 h
 refine WC.skip ?_
 refine WQ.thenC ?_
 refine WC.seq ?_
 refine Sr ?_
 refine Pm (.iface 113 (pt g1 0)) (hρ 1) rfl ?_
 refine Pu (.bool false) (PO.ifcNil Tryz.underlying20 rfl) rfl ?_
 refine Nt ?_
 refine WC.condF (b := false) rfl rfl ?_
 refine WC.skip ?_
 refine WQ.thenC ?_
 refine Sr ?_
 refine Pm (.iface 113 (pt g1 0)) (hρ 1) rfl ?_
 refine WL.eff (EO.valueOf xt80 (args1 (show ev _ _ = (.iface 113 (pt g1 0)) from rfl)) (vo113 ⟨g1, 0, none⟩)) rfl ?_
 rintro _ _ _ - ⟨rfl, g22, rfl, rfl⟩
 refine WL.eff (EO.alloc ze135 rfl) rfl ?_
 rintro _ _ _ - ⟨rfl, g23, rfl, rfl⟩
 refine WL.eff (EO.storeL (v := (.agg #[(pt 1 113), (pt g22 0), (.int .u64 150)])) (vl := [(pt 1 113), (pt g22 0), (.int .u64 150)]) (arr' := [(pt 1 113), (pt g22 0), (.int .u64 150)]) rfl sz135 rfl rfl (onesOf (Ones.cons rfl (Ones.cons rfl (Ones.cons rfl Ones.nil)))) rfl rfl rfl) rfl ?_
 rintro _ _ _ - ⟨rfl, rfl⟩
 refine Ns ?_
 refine Pu (.agg #[(pt 1 113), (pt g22 0), (.int .u64 150)]) (PO.loadBA (cs := [(pt 1 113), (pt g22 0), (.int .u64 150)]) 0 ag135 sz135 rfl rfl rfl) rfl ?_
 refine WL.eff (EO.extP xt81 (args1 (show ev _ _ = (.agg #[(pt 1 113), (pt g22 0), (.int .u64 150)]) from rfl)) (vt113_150 _)) rfl ?_
 rintro _ _ _ - ⟨rfl, rfl, rfl⟩
 refine Pa (.iface 143 (.agg #[.pointer (some ⟨1, 113, none⟩)])) rfl rfl ?_
 refine Nt ?_
 refine WC.seq ?_
 refine Sr ?_
 refine Pm (.iface 143 (.agg #[.pointer (some ⟨1, 113, none⟩)])) rfl rfl ?_
 refine WL.eff (EO.invE (show ev _ _ = (.iface 143 (.agg #[.pointer (some ⟨1, 113, none⟩)])) from rfl) (mm_Kind (pt 1 113)) xt102 inv0 mr_Kind_113) rfl ?_
 rintro _ _ _ - ⟨rfl, rfl, rfl⟩
 refine Pu (.bool false) (PO.neqR rfl rfl (by decide)) rfl ?_
 refine Pm (.bool false) rfl rfl ?_
 refine On 20 rfl rfl rfl ?_
 refine Pu (.agg #[(pt 1 113), (pt g22 0), (.int .u64 150)]) (PO.loadBA (cs := [(pt 1 113), (pt g22 0), (.int .u64 150)]) 0 ag135 sz135 rfl rfl rfl) rfl ?_
 refine On 20 rfl rfl rfl ?_
 refine WL.eff (EO.isNil 1 xt82 pp113_150 rfl pl113 (args1 (show ev _ _ = (.agg #[(pt 1 113), (pt g22 0), (.int .u64 150)]) from rfl)) rfl) rfl ?_
 rintro _ _ _ - ⟨rfl, rfl, rfl⟩
 refine Pu (.bool false) (PO.pickF rfl rfl rfl) rfl ?_
 refine Nt ?_
 refine WC.condF (b := false) rfl rfl ?_
 refine WC.skip ?_
 refine WQ.thenC ?_
 refine Sr ?_
 refine Pm (.iface 143 (.agg #[.pointer (some ⟨1, 113, none⟩)])) rfl rfl ?_
 refine WL.eff (EO.invE (show ev _ _ = (.iface 143 (.agg #[.pointer (some ⟨1, 113, none⟩)])) from rfl) (mm_Elem (pt 1 113)) xt115 inv0 mr_Elem_113) rfl ?_
 rintro _ _ _ - ⟨rfl, rfl, rfl⟩
 refine Pa (.iface 143 (.agg #[.pointer (some ⟨1, 98, none⟩)])) rfl rfl ?_
 refine Nt ?_
 refine WC.seq ?_
 refine Sr ?_
 refine Pm (.iface 143 (.agg #[.pointer (some ⟨1, 98, none⟩)])) rfl rfl ?_
 refine WL.eff (EO.invE (show ev _ _ = (.iface 143 (.agg #[.pointer (some ⟨1, 98, none⟩)])) from rfl) (mm_Kind (pt 1 98)) xt102 inv0 mr_Kind_98) rfl ?_
 rintro _ _ _ - ⟨rfl, rfl, rfl⟩
 refine Pu (.bool true) (PO.neqR rfl rfl (by decide)) rfl ?_
 refine Pm (.bool true) rfl rfl ?_
 refine On 30 rfl rfl rfl ?_
 refine Pm (.iface 143 (.agg #[.pointer (some ⟨1, 98, none⟩)])) rfl rfl ?_
 refine On 30 rfl rfl rfl ?_
 refine Pu (.iface 143 (.agg #[.pointer (some ⟨1, 30, none⟩)])) (PO.loadG pl119 hE) rfl ?_
 refine On 30 rfl rfl rfl ?_
 refine WL.eff (EO.invE (show ev _ _ = (.iface 143 (.agg #[.pointer (some ⟨1, 98, none⟩)])) from rfl) (mm_Implements (pt 1 98)) xt116 (inv1 rfl) mr_Implements_98_30) rfl ?_
 rintro _ _ _ - ⟨rfl, rfl, rfl⟩
 refine On 30 rfl rfl rfl ?_
 refine Pu (.bool (!true)) (PO.not rfl) rfl ?_
 refine Pu (.bool (!true)) (PO.pickT rfl rfl rfl) rfl ?_
 refine Nt ?_
 refine WC.condF (b := !true) rfl rfl ?_
 refine WC.skip ?_
 refine WQ.thenC ?_
 refine Sr ?_
 refine Pm (GV a0) (hρ 0) rfl ?_
 refine Pm (.iface 113 (pt g1 0)) (hρ 1) rfl ?_
 refine Pu (.agg #[(pt 1 113), (pt g22 0), (.int .u64 150)]) (PO.loadBA (cs := [(pt 1 113), (pt g22 0), (.int .u64 150)]) 0 ag135 sz135 rfl rfl rfl) rfl ?_
 refine Pm (.iface 143 (.agg #[.pointer (some ⟨1, 98, none⟩)])) rfl rfl ?_
 obtain ⟨⟨r24, r25, r26, r27⟩, hr28, h⟩ := bnd h
 refine WL.f1 ?_
 refine WL.f2 ?_
 refine WL.eff (EO.call2 co83 (f_errors_as_fault_ok a0 a1 _ _ _ (r24, r25, r26, r27) hr28) (args4 rfl rfl rfl rfl)) rfl ?_
 rintro _ M29 _ hle30 ⟨_, ⟨rfl, rfl⟩, rfl⟩
 have hE := hE.mono hle30
 refine WL.a2 ?_
 refine Pa (.bool r24) rfl rfl ?_
 refine Nt ?_
 refine WC.ret ?_
 refine WQ.f1 ?_
 refine WQ.drop ?_
 refine WQ.f1 ?_
 refine WQ.drop ?_
 exact WQ.returnsF h [[(g1, .cells #[(.string r25), (.int .i64 r26), (GV r27)] 98 (0, 0))]] rfl (results1 rfl rfl) hle30 ⟨rfl, rfl⟩

noncomputable def f_fault_Where (a0 : GErr) : Option (Int × Bool) :=
  ((f_errors_As_fault a0 (⟨(⟨#[]⟩ : ByteArray), (0 : Int), GErr.nil⟩ : T_api_Fault)).bind fun (r22, r23, r24, r25) => (if (!r22) = true then (some ((0 : Int), false)) else (some (r24, true))))
def f_fault_Where_post (a0 : GErr) : (Int × Bool) → Value → IM → HL → Prop :=
  fun (p_ : (Int × Bool)) (v : Value) (M' : IM) (H' : HL) => match p_ with | (r0, r1) => (.tuple #[(.int .i64 r0), (.bool r1)]) = v ∧ H' = []
theorem f_fault_Where_ok (a0 : GErr) (M : IM) (hE : Env M) (res : (Int × Bool)) (h : f_fault_Where a0 = some res) :
    Tri Tryz.prog 40 #[(GV a0)] M [] (f_fault_Where_post a0 res) := by
 unfold f_fault_Where at h
 refine Tri.enter (fn := Tryz.f40) Tryz.func40 rfl (Nat.le_of_ble_eq_true rfl) ?_
 intro F ρ hρ
 refine Sr ?_
 refine Pa (.int .i64 0) rfl rfl ?_
 refine Pa (.bool false) rfl rfl ?_
 refine Ns ?_
 refine WL.eff (EO.alloc ze98 rfl) rfl ?_
 rintro _ _ _ - ⟨rfl, g21, rfl, rfl⟩
 refine Nt ?_
 refine WC.seq ?_
 refine Sr ?_
 refine Pm (GV a0) (hρ 0) rfl ?_
 refine Pu (.iface 113 (pt g21 0)) (PO.makeInterface cc113 rfl) rfl ?_
 obtain ⟨⟨r22, r23, r24, r25⟩, hr26, h⟩ := bnd h
 refine WL.eff (EO.call1 co68 (f_errors_As_fault_ok a0 (⟨(⟨#[]⟩ : ByteArray), (0 : Int), GErr.nil⟩ : T_api_Fault) _ _ hE (r22, r23, r24, r25) hr26) (args2 rfl rfl)) rfl ?_
 rintro _ M27 _ hle28 ⟨_, ⟨rfl, rfl⟩, rfl⟩
 have hE := hE.mono hle28
 refine WL.a1 ?_
 refine Pu (.bool (!r22)) (PO.not rfl) rfl ?_
 refine Nt ?_
 refine WC.cond (b := !r22) rfl (fun hb30 => ?_) (fun hb30 => ?_)
 have h := ite_t hb30 h
 refine Sr ?_
 refine Pa (.int .i64 0) rfl rfl ?_
 refine Pa (.bool false) rfl rfl ?_
 refine Nt ?_
 refine WC.ret ?_
 refine WQ.thenR ?_
 refine WQ.drop ?_
 exact WQ.returnsF h [] rfl (results2 rfl rfl rfl) hle28 ⟨rfl, rfl⟩
 have h := ite_f hb30 h
 refine WC.skip ?_
 refine WQ.thenC ?_
 refine Sr ?_
 refine Pu (pt g21 1) (PO.fieldAddr fo98_1 rfl rfl) rfl ?_
 refine Pu (.int .i64 r24) (PO.loadB 0 pl3 rfl rfl rfl) rfl ?_
 refine Pa (.int .i64 r24) rfl rfl ?_
 refine Pa (.bool true) rfl rfl ?_
 refine Nt ?_
 refine WC.ret ?_
 refine WQ.drop ?_
 exact WQ.returnsF h [] rfl (results2 rfl rfl rfl) hle28 ⟨rfl, rfl⟩

noncomputable def f_errors_as_code_l0 (a1 : Int) (s_ : GErr) : Option (GErr ⊕ (Bool × Int)) :=
  match s_ with
  | x23 =>
    (match x23 with | .nil => none | .code n26 => (some (Sum.inr (true, n26))) | .fault o27 a28 e29 => ((f_api_Fault_Unwrap (⟨o27, a28, e29⟩ : T_api_Fault)).bind fun (r32 : GErr) => (if r32.isNil = true then (some (Sum.inr (false, a1))) else (some (Sum.inl r32)))) | .other b30 => (some (Sum.inr (false, a1))))
noncomputable def f_errors_as_code (a0 : GErr) (a1 : Int) : Option (Bool × Int) :=
  ((iter (f_errors_as_code_l0 a1) a0).bind (fun (x24, x25) => (some (x24, x25))))
def f_errors_as_code_post (a0 : GErr) (a1 : Int) (g1 g2 : Nat) : (Bool × Int) → Value → IM → HL → Prop :=
  fun (p_ : (Bool × Int)) (v : Value) (M' : IM) (H' : HL) => match p_ with | (r0, r1) => (.bool r0) = v ∧ H' = [[(g1, .cells #[(.int .i64 r1)] 35 (0, 0))], [(g2, .cells #[(.pointer (some ⟨g1, 0, none⟩))] 114 (0, 0))]]
theorem f_errors_as_code_ok (a0 : GErr) (a1 : Int) (M : IM) (g1 g2 : Nat) (res : (Bool × Int)) (h : f_errors_as_code a0 a1 = some res) :
    Tri Tryz.prog 83 #[(GV a0), (.iface 114 (pt g1 0)), (.agg #[(pt 1 114), (pt g2 0), (.int .u64 150)]), (.iface 143 (.agg #[.pointer (some ⟨1, 35, none⟩)]))] M [[(g1, .cells #[(.int .i64 a1)] 35 (0, 0))], [(g2, .cells #[(pt g1 0)] 114 (0, 0))]] (f_errors_as_code_post a0 a1 g1 g2 res) := by
 unfold f_errors_as_code at h
 refine Tri.enter (fn := Tryz.f83) Tryz.func83 rfl (Nat.le_of_ble_eq_true rfl) ?_
 intro F ρ hρ
 refine Sr ?_
 refine WL.eff (EO.box (cs := #[(pt 1 114), (pt g2 0), (.int .u64 150)]) (congrArg Value.cells (asE (.agg #[(pt 1 114), (pt g2 0), (.int .u64 150)]) (hρ 2)))) rfl ?_
 rintro _ _ _ - ⟨rfl, g21, rfl, rfl⟩
 refine Pa (.bool false) rfl rfl ?_
 refine Nt ?_
 refine WC.block ?_
 obtain ⟨e22, he22, hK22⟩ := bnd h
 clear h
 refine WC.loop he22 (fun (x23 : GErr) ρ' M' H' => M.le M' ∧ [(g21, .cells #[(pt 1 114), (pt g2 0), (.int .u64 150)] 135 (0, 0))] :: [(g1, .cells #[(.int .i64 a1)] 35 (0, 0))] :: [(g2, .cells #[(pt g1 0)] 114 (0, 0))] :: F = H' ∧ ρ' 0 = (GV x23) ∧ ρ' 1 = (.iface 114 (pt g1 0)) ∧ ρ' 3 = (.iface 143 (.agg #[.pointer (some ⟨1, 35, none⟩)])) ∧ ρ' 6 = (pt g21 0)) ?_ ?_
 exact ⟨(IM.le.refl _), rfl, (hρ 0), (hρ 1), (hρ 3), rfl⟩
 rintro x23 o22 ρ22 M22 H22 h ⟨hle22, rfl, hs22_0, hs22_1, hs22_3, hs22_6⟩
 unfold f_errors_as_code_l0 at h
 refine WC.block ?_
 refine WC.seq ?_
 refine Sr ?_
 refine Pm (GV x23) hs22_0 rfl ?_
 rcases x23 with _ | n26 | ⟨o27, a28, e29⟩ | b30
 refine WL.eff (EO.extP xt71 (args1 (show ev _ _ = .nilIface from rfl)) tyNil) rfl ?_
 rintro _ _ _ - ⟨rfl, rfl, rfl⟩
 refine Pm (.iface 143 (.agg #[.pointer (some ⟨1, 35, none⟩)])) hs22_3 rfl ?_
 exact nones h
 refine WL.eff (EO.extP xt71 (args1 (show ev _ _ = (.iface 35 (.int .i64 n26)) from rfl)) (ty35 _)) rfl ?_
 rintro _ _ _ - ⟨rfl, rfl, rfl⟩
 refine Pm (.iface 143 (.agg #[.pointer (some ⟨1, 35, none⟩)])) hs22_3 rfl ?_
 refine WL.eff (EO.invE (show ev _ _ = (.iface 143 (.agg #[.pointer (some ⟨1, 35, none⟩)])) from rfl) (mm_AssignableTo (pt 1 35)) xt113 (inv1 rfl) mr_AssignableTo_35_35) rfl ?_
 rintro _ _ _ - ⟨rfl, rfl, rfl⟩
 refine Nt ?_
 refine WC.condT (b := true) rfl rfl ?_
 refine Sr ?_
 refine Pu (.agg #[(pt 1 114), (pt g2 0), (.int .u64 150)]) (PO.loadBA (cs := [(pt 1 114), (pt g2 0), (.int .u64 150)]) 0 ag135 sz135 hs22_6 rfl rfl) rfl ?_
 refine WL.eff (EO.rvElem (r := fun p => .agg #[(pt 1 35), .pointer (some p), .int .u64 386]) 2 xt86 pp114_150 rfl pl114 el114 mk35 (args1 (show ev _ _ = (.agg #[(pt 1 114), (pt g2 0), (.int .u64 150)]) from rfl)) rfl) rfl ?_
 rintro _ _ _ - ⟨rfl, rfl, rfl⟩
 refine Pm (GV (GErr.code n26)) hs22_0 rfl ?_
 refine WL.eff (EO.valueOf xt80 (args1 (show ev _ _ = (.iface 35 (.int .i64 n26)) from rfl)) (vo35 n26)) rfl ?_
 rintro _ _ _ - ⟨rfl, g31, rfl, rfl⟩
 refine WL.f2 ?_
 refine WL.eff (EO.rvSet (arr := [(.int .i64 a1)]) (vl := [(.int .i64 n26)]) (v := (.int .i64 n26)) xt87 pp35_386 pp35_130 rfl da35 (args2 (show ev _ _ = (.agg #[(pt 1 35), (pt g1 0), (.int .u64 386)]) from rfl) (show ev _ _ = (.agg #[(pt 1 35), (pt g31 0), (.int .u64 130)]) from rfl)) (fun _ hs => run_loadPlain pl35 (hs.cellC 1 rfl (chunkCell_lit.trans rfl))) rfl sz35 rfl (onesOf (Ones.cons rfl Ones.nil))) rfl ?_
 rintro _ _ _ - ⟨rfl, rfl, rfl⟩
 refine Ns ?_
 refine Pa (.bool true) rfl rfl ?_
 refine Nt ?_
 refine WC.ret ?_
 refine WQ.thenR ?_
 refine WQ.blockR ?_
 refine WQ.leaveR (true, n26) (Option.some.inj h).symm (fun heq22 => ?_)
 subst heq22
 have h := hK22
 refine WQ.blockR ?_
 refine WQ.f1 ?_
 refine WQ.drop ?_
 refine WQ.f1 ?_
 refine WQ.drop ?_
 exact WQ.returnsF h [[(g1, .cells #[(.int .i64 n26)] 35 (0, 0))], [(g2, .cells #[(pt g1 0)] 114 (0, 0))]] rfl (results1 rfl rfl) hle22 ⟨rfl, rfl⟩
 refine WL.eff (EO.extP xt71 (args1 (show ev _ _ = (.iface 98 (.agg #[.string o27, .int .i64 a28, GV e29])) from rfl)) (ty98 _)) rfl ?_
 rintro _ _ _ - ⟨rfl, rfl, rfl⟩
 refine Pm (.iface 143 (.agg #[.pointer (some ⟨1, 35, none⟩)])) hs22_3 rfl ?_
 refine WL.eff (EO.invE (show ev _ _ = (.iface 143 (.agg #[.pointer (some ⟨1, 98, none⟩)])) from rfl) (mm_AssignableTo (pt 1 98)) xt113 (inv1 rfl) mr_AssignableTo_98_35) rfl ?_
 rintro _ _ _ - ⟨rfl, rfl, rfl⟩
 refine Nt ?_
 refine WC.condF (b := false) rfl rfl ?_
 refine WC.skip ?_
 refine WQ.thenC ?_
 refine WC.seq ?_
 refine Sr ?_
 refine Pm (GV (GErr.fault o27 a28 e29)) hs22_0 rfl ?_
 refine Pu (.tuple #[.nilIface, (.bool false)]) (PO.asserts (show ev _ _ = (.iface 98 (.agg #[.string o27, .int .i64 a28, GV e29])) from rfl) (la98_156 _ _)) rfl ?_
 refine Pm (.tuple #[.nilIface, (.bool false)]) rfl rfl ?_
 refine Pu .nilIface (PO.extract rfl rfl) rfl ?_
 refine Pu (.bool false) (PO.extract rfl rfl) rfl ?_
 refine Pa .nilIface rfl rfl ?_
 refine Pa (.bool false) rfl rfl ?_
 refine Ns ?_
 refine Pm (.bool false) rfl rfl ?_
 refine Pm (.bool false) rfl rfl ?_
 iterate 3 refine Of 31 rfl rfl rfl rfl ?_
 refine Pu (.bool false) (PO.pickF rfl rfl rfl) rfl ?_
 refine Nt ?_
 refine WC.condF (b := false) rfl rfl ?_
 refine WC.skip ?_
 refine WQ.thenC ?_
 refine Sr ?_
 refine Pm (GV (GErr.fault o27 a28 e29)) hs22_0 rfl ?_
 refine Nt ?_
 refine WC.block ?_
 refine Sr ?_
 refine Pu (.tuple #[(GV (GErr.fault o27 a28 e29)), (.bool true)]) (PO.asserts (show ev _ _ = (.iface 98 (.agg #[.string o27, .int .i64 a28, GV e29])) from rfl) (ha98_148 _ _)) rfl ?_
 refine Pu (.bool true) (PO.extract rfl rfl) rfl ?_
 refine Pu (GV (GErr.fault o27 a28 e29)) (PO.extract rfl rfl) rfl ?_
 refine Nt ?_
 refine WC.condT (b := true) rfl rfl ?_
 refine Sr ?_
 refine Pa (GV (GErr.fault o27 a28 e29)) rfl rfl ?_
 refine Ns ?_
 refine Pm (GV (GErr.fault o27 a28 e29)) rfl rfl ?_
 obtain ⟨r32, hr33, h⟩ := bnd h
 refine WL.eff (EO.invT (show ev _ _ = (.iface 98 (.agg #[.string o27, .int .i64 a28, GV e29])) from rfl) (me98_Unwrap _) co108 inv0 (f_api_Fault_Unwrap_ok (⟨o27, a28, e29⟩ : T_api_Fault) _ r32 hr33)) rfl ?_
 rintro _ M34 _ hle35 ⟨_, ⟨rfl, rfl⟩, rfl⟩
 refine WL.a0 ?_
 refine Pa (GV r32) rfl rfl ?_
 refine Ns ?_
 refine Pm (GV r32) rfl rfl ?_
 refine Pu (.bool r32.isNil) (PO.errNil Tryz.underlying30 rfl) rfl ?_
 refine Nt ?_
 refine WC.cond (b := r32.isNil) rfl (fun hb37 => ?_) (fun hb37 => ?_)
 have h := ite_t hb37 h
 refine Sr ?_
 refine Pa (.bool false) rfl rfl ?_
 refine Nt ?_
 refine WC.ret ?_
 refine WQ.blockR ?_
 refine WQ.blockR ?_
 refine WQ.leaveR (false, a1) (Option.some.inj h).symm (fun heq22 => ?_)
 subst heq22
 have h := hK22
 refine WQ.blockR ?_
 refine WQ.drop ?_
 exact WQ.returnsF h [[(g1, .cells #[(.int .i64 a1)] 35 (0, 0))], [(g2, .cells #[(pt g1 0)] 114 (0, 0))]] rfl (results1 rfl rfl) (hle22.trans hle35) ⟨rfl, rfl⟩
 have h := ite_f hb37 h
 refine WC.skip ?_
 refine WQ.blockN ?_
 refine WQ.blockN ?_
 refine WQ.again r32 (Option.some.inj h).symm ?_
 exact ⟨(hle22.trans hle35), rfl, rfl, hs22_1, hs22_3, hs22_6⟩
 refine WL.eff (EO.extP xt71 (args1 (show ev _ _ = (.iface 0 (.pointer (some b30))) from rfl)) (ty0 _)) rfl ?_
 rintro _ _ _ - ⟨rfl, rfl, rfl⟩
 refine Pm (.iface 143 (.agg #[.pointer (some ⟨1, 35, none⟩)])) hs22_3 rfl ?_
 refine WL.eff (EO.invE (show ev _ _ = (.iface 143 (.agg #[.pointer (some ⟨1, 0, none⟩)])) from rfl) (mm_AssignableTo (pt 1 0)) xt113 (inv1 rfl) mr_AssignableTo_0_35) rfl ?_
 rintro _ _ _ - ⟨rfl, rfl, rfl⟩
 refine Nt ?_
 refine WC.condF (b := false) rfl rfl ?_
 refine WC.skip ?_
 refine WQ.thenC ?_
 refine WC.seq ?_
 refine Sr ?_
 refine Pm (GV (GErr.other b30)) hs22_0 rfl ?_
 refine Pu (.tuple #[.nilIface, (.bool false)]) (PO.asserts (show ev _ _ = (.iface 0 (.pointer (some b30))) from rfl) (la0_156 _ _)) rfl ?_
 refine Pm (.tuple #[.nilIface, (.bool false)]) rfl rfl ?_
 refine Pu .nilIface (PO.extract rfl rfl) rfl ?_
 refine Pu (.bool false) (PO.extract rfl rfl) rfl ?_
 refine Pa .nilIface rfl rfl ?_
 refine Pa (.bool false) rfl rfl ?_
 refine Ns ?_
 refine Pm (.bool false) rfl rfl ?_
 refine Pm (.bool false) rfl rfl ?_
 iterate 3 refine Of 31 rfl rfl rfl rfl ?_
 refine Pu (.bool false) (PO.pickF rfl rfl rfl) rfl ?_
 refine Nt ?_
 refine WC.condF (b := false) rfl rfl ?_
 refine WC.skip ?_
 refine WQ.thenC ?_
 refine Sr ?_
 refine Pm (GV (GErr.other b30)) hs22_0 rfl ?_
 refine Nt ?_
 refine WC.block ?_
 refine Sr ?_
 refine Pu (.tuple #[.nilIface, (.bool false)]) (PO.asserts (show ev _ _ = (.iface 0 (.pointer (some b30))) from rfl) (la0_148 _ _)) rfl ?_
 refine Pu (.bool false) (PO.extract rfl rfl) rfl ?_
 refine Pu .nilIface (PO.extract rfl rfl) rfl ?_
 refine Nt ?_
 refine WC.condF (b := false) rfl rfl ?_
 refine Sr ?_
 refine Pu (.tuple #[.nilIface, (.bool false)]) (PO.asserts (show ev _ _ = (.iface 0 (.pointer (some b30))) from rfl) (la0_149 _ _)) rfl ?_
 refine Pu (.bool false) (PO.extract rfl rfl) rfl ?_
 refine Pu .nilIface (PO.extract rfl rfl) rfl ?_
 refine Nt ?_
 refine WC.condF (b := false) rfl rfl ?_
 refine Sr ?_
 refine Pa (GV (GErr.other b30)) rfl rfl ?_
 refine Ns ?_
 refine Pa (.bool false) rfl rfl ?_
 refine Nt ?_
 refine WC.ret ?_
 refine WQ.blockR ?_
 refine WQ.blockR ?_
 refine WQ.leaveR (false, a1) (Option.some.inj h).symm (fun heq22 => ?_)
 subst heq22
 have h := hK22
 refine WQ.blockR ?_
 refine WQ.drop ?_
 exact WQ.returnsF h [[(g1, .cells #[(.int .i64 a1)] 35 (0, 0))], [(g2, .cells #[(pt g1 0)] 114 (0, 0))]] rfl (results1 rfl rfl) hle22 ⟨rfl, rfl⟩


end Go.Proofs.YtjgnbbakamellaaGreatDoor.G
