/- Go functions: what they come to, and that they do. Printed by a program of the session (gen). -/
import Derived.Test.YtjgnbbakamellaaGreatDoorBF
import Derived.Test.YtjgnbbakamellaaGreatDoorB5
import Derived.Test.YtjgnbbakamellaaGreatDoorKConv
import Derived.Test.YtjgnbbakamellaaGreatDoorKEq2
set_option linter.unusedVariables false
set_option linter.unusedSimpArgs false
set_option maxHeartbeats 8000000
set_option maxRecDepth 100000
namespace Go.Proofs.YtjgnbbakamellaaGreatDoor.G
open Go Go.KK

noncomputable def f_ask_Read (a0 : T_api_Frame) : Option (T_api_Request × GErr) :=
  (if (decide (a0.Kind ≠ (16 : Int))) = true then ((f_fault_New (⟨#[102, 114, 97, 109, 101]⟩ : ByteArray) a0.Kind (5 : Int)).bind fun (r24 : GErr) => (some ((⟨(0 : Int), (0 : Int), (0 : Int), (⟨#[]⟩ : ByteArray), (⟨#[]⟩ : ByteArray), (⟨#[]⟩ : ByteArray), false, (0 : Int), (0 : Int), (0 : Int), [], (0 : Int), (0 : Int), (⟨#[]⟩ : ByteArray), (⟨(0 : Int), (0 : Int), (0 : Int), false, false⟩ : T_api_Word)⟩ : T_api_Request), r24))) else ((f_wire_Read a0.Body).bind fun (r30 : T_wire_Reader) => ((((f_wire_Reader_Int r30 (1073741824 : Int)).bind fun (r57, r58, r59) => ((f_wire_Reader_Int (⟨r30.b, r58, r59⟩ : T_wire_Reader) (1073741824 : Int)).bind fun (r65, r66, r67) => ((f_wire_Reader_Int (⟨r30.b, r66, r67⟩ : T_wire_Reader) (63 : Int)).bind fun (r73, r74, r75) => (some (r57, r65, r73, (⟨#[]⟩ : ByteArray), (⟨#[]⟩ : ByteArray), (⟨#[]⟩ : ByteArray), false, (0 : Int), (0 : Int), (0 : Int), [], (0 : Int), (0 : Int), (⟨#[]⟩ : ByteArray), (⟨(0 : Int), (0 : Int), (0 : Int), false, false⟩ : T_api_Word), r74, r75))))) : Option (Int × Int × Int × ByteArray × ByteArray × ByteArray × Bool × Int × Int × Int × (List Int) × Int × Int × ByteArray × T_api_Word × Int × GErr)).bind fun (x38, x39, x40, x41, x42, x43, x44, x45, x46, x47, x48, x49, x50, x51, x52, x53, x54) => ((f_ask_about x40).bind fun (r130 : Int) => (if (decide (r130 < (0 : Int))) = true then ((f_wire_Reader_Refuse (⟨r30.b, x53, x54⟩ : T_wire_Reader) (⟨#[107, 105, 110, 100]⟩ : ByteArray) (5 : Int)).bind fun (r137 : GErr) => ((f_wire_Reader_Err (⟨r30.b, x53, r137⟩ : T_wire_Reader)).bind fun (r141 : GErr) => (some ((⟨(0 : Int), (0 : Int), (0 : Int), (⟨#[]⟩ : ByteArray), (⟨#[]⟩ : ByteArray), (⟨#[]⟩ : ByteArray), false, (0 : Int), (0 : Int), (0 : Int), [], (0 : Int), (0 : Int), (⟨#[]⟩ : ByteArray), (⟨(0 : Int), (0 : Int), (0 : Int), false, false⟩ : T_api_Word)⟩ : T_api_Request), r141)))) else (((if (decide ((andI .i64 r130 (1 : Int)) ≠ (0 : Int))) = true then ((f_wire_Reader_Text (⟨r30.b, x53, x54⟩ : T_wire_Reader) (40 : Int)).bind fun (r152, r153, r154) => (some (r153, r154, strOfNums r152))) else (some (x53, x54, x41))) : Option (Int × GErr × ByteArray)).bind fun (x147, x148, x149) => (((if (decide ((andI .i64 r130 (2 : Int)) ≠ (0 : Int))) = true then ((f_wire_Reader_Text (⟨r30.b, x147, x148⟩ : T_wire_Reader) (40 : Int)).bind fun (r166, r167, r168) => ((f_wire_Reader_Text (⟨r30.b, r167, r168⟩ : T_wire_Reader) (256 : Int)).bind fun (r173, r174, r175) => ((f_wire_Reader_Flag (⟨r30.b, r174, r175⟩ : T_wire_Reader)).bind fun (r180, r181, r182) => (some (r181, r182, strOfNums r166, strOfNums r173, r180))))) else (some (x147, x148, x42, x43, x44))) : Option (Int × GErr × ByteArray × ByteArray × Bool)).bind fun (x159, x160, x161, x162, x163) => ((f_ask_Read_1_60_19_100 (4 : Int) r130 (⟨r30.b, x159, x160⟩ : T_wire_Reader)).bind fun (r187, r188, r189) => ((f_ask_Read_1_60_19_100 (8 : Int) r130 (⟨r30.b, r188, r189⟩ : T_wire_Reader)).bind fun (r194, r195, r196) => ((f_ask_Read_1_60_19_100 (16 : Int) r130 (⟨r30.b, r195, r196⟩ : T_wire_Reader)).bind fun (r201, r202, r203) => ((f_ask_Read_1_60_19_100 (64 : Int) r130 (⟨r30.b, r202, r203⟩ : T_wire_Reader)).bind fun (r208, r209, r210) => ((f_ask_Read_1_60_19_100 (128 : Int) r130 (⟨r30.b, r209, r210⟩ : T_wire_Reader)).bind fun (r215, r216, r217) => (((if (decide ((andI .i64 r130 (32 : Int)) ≠ (0 : Int))) = true then ((f_wire_Reader_Row (⟨r30.b, r216, r217⟩ : T_wire_Reader) (7 : Int) (64 : Int)).bind fun (r227, r228, r229) => (some (r227, r228, r229))) else (some (x48, r216, r217))) : Option ((List Int) × Int × GErr)).bind fun (x222, x223, x224) => (((if (decide ((andI .i64 r130 (256 : Int)) ≠ (0 : Int))) = true then ((f_wire_Reader_Text (⟨r30.b, x223, x224⟩ : T_wire_Reader) (40 : Int)).bind fun (r239, r240, r241) => (some (strOfNums r239, r240, r241))) else (some (x51, x223, x224))) : Option (ByteArray × Int × GErr)).bind fun (x234, x235, x236) => (((if (decide ((andI .i64 r130 (512 : Int)) ≠ (0 : Int))) = true then ((f_wire_Reader_Int (⟨r30.b, x235, x236⟩ : T_wire_Reader) (1073741824 : Int)).bind fun (r255, r256, r257) => ((f_wire_Reader_Int (⟨r30.b, r256, r257⟩ : T_wire_Reader) (1073741824 : Int)).bind fun (r262, r263, r264) => ((f_wire_Reader_Int (⟨r30.b, r263, r264⟩ : T_wire_Reader) (1073741824 : Int)).bind fun (r269, r270, r271) => ((f_wire_Reader_Flag (⟨r30.b, r270, r271⟩ : T_wire_Reader)).bind fun (r276, r277, r278) => ((f_wire_Reader_Flag (⟨r30.b, r277, r278⟩ : T_wire_Reader)).bind fun (r283, r284, r285) => (some (r255, r262, r269, r276, r283, r284, r285))))))) else (some (x52.Broker, x52.Epoch, x52.High, x52.Fence, x52.Leave, x235, x236))) : Option (Int × Int × Int × Bool × Bool × Int × GErr)).bind fun (x246, x247, x248, x249, x250, x251, x252) => ((f_wire_Reader_End (⟨r30.b, x251, x252⟩ : T_wire_Reader)).bind fun (r290, r291) => (if (!r290.isNil) = true then (some ((⟨(0 : Int), (0 : Int), (0 : Int), (⟨#[]⟩ : ByteArray), (⟨#[]⟩ : ByteArray), (⟨#[]⟩ : ByteArray), false, (0 : Int), (0 : Int), (0 : Int), [], (0 : Int), (0 : Int), (⟨#[]⟩ : ByteArray), (⟨(0 : Int), (0 : Int), (0 : Int), false, false⟩ : T_api_Word)⟩ : T_api_Request), r290)) else ((f_ask_Check (⟨x38, x39, x40, x149, x161, x162, x163, r187, r194, r201, x222, r208, r215, x234, (⟨x246, x247, x248, x249, x250⟩ : T_api_Word)⟩ : T_api_Request)).bind fun (r298 : GErr) => (if (!r298.isNil) = true then (some ((⟨(0 : Int), (0 : Int), (0 : Int), (⟨#[]⟩ : ByteArray), (⟨#[]⟩ : ByteArray), (⟨#[]⟩ : ByteArray), false, (0 : Int), (0 : Int), (0 : Int), [], (0 : Int), (0 : Int), (⟨#[]⟩ : ByteArray), (⟨(0 : Int), (0 : Int), (0 : Int), false, false⟩ : T_api_Word)⟩ : T_api_Request), r298)) else (some ((⟨x38, x39, x40, x149, x161, x162, x163, r187, r194, r201, x222, r208, r215, x234, (⟨x246, x247, x248, x249, x250⟩ : T_api_Word)⟩ : T_api_Request), GErr.nil)))))))))))))))))))))
def f_ask_Read_post (a0 : T_api_Frame) (v0_1 : Value) : (T_api_Request × GErr) → Value → IM → HL → Prop :=
  fun (p_ : (T_api_Request × GErr)) (v : Value) (M' : IM) (H' : HL) => match p_ with | (r0, r1) => ∃ vz0_10 cz0_10, (.tuple #[(.agg #[(.int .i64 r0.Client), (.int .i64 r0.Serial), (.int .i64 r0.Kind), (.string r0.Name), (.string r0.Key), (.string r0.Value), (.bool r0.Flag), (.int .i64 r0.Parts), (.int .i64 r0.Replicas), (.int .i64 r0.Part), vz0_10, (.int .i64 r0.Broker), (.int .i64 r0.Epoch), (.string r0.Rack), (.int .i64 r0.Word.Broker), (.int .i64 r0.Word.Epoch), (.int .i64 r0.Word.High), (.bool r0.Word.Fence), (.bool r0.Word.Leave)]), (GV r1)]) = v ∧ H' = [cz0_10] ∧ OwnS (Kd.int .i64) M' vz0_10 r0.Ids cz0_10
theorem f_ask_Read_ok (a0 : T_api_Frame) (M : IM) (v0_1 : Value) (h0_1 : RS (Kd.int .u8) M v0_1 a0.Body) (res : (T_api_Request × GErr)) (h : f_ask_Read a0 = some res) :
    Tri Tryz.prog 5 #[(.agg #[(.int .i64 a0.Kind), v0_1])] M [] (f_ask_Read_post a0 v0_1 res) := by
 unfold f_ask_Read at h
 refine Tri.enter (fn := Tryz.f5) Tryz.func5 rfl (Nat.le_of_ble_eq_true rfl) ?_
 intro F ρ hρ
 refine Sr ?_
 refine WL.eff (EO.box (cs := #[(.int .i64 a0.Kind), v0_1]) (congrArg Value.cells (asE (.agg #[(.int .i64 a0.Kind), v0_1]) (hρ 0)))) rfl ?_
 rintro _ _ _ - ⟨rfl, g21, rfl, rfl⟩
 refine WL.eff (EO.alloc ze28 rfl) rfl ?_
 rintro _ _ _ - ⟨rfl, g22, rfl, rfl⟩
 refine Pa (GV GErr.nil) rfl rfl ?_
 refine Nt ?_
 refine WC.seq ?_
 refine Sr ?_
 refine Pu (pt g21 0) (PO.fieldAddr fo34_0 rfl rfl) rfl ?_
 refine Pu (.int .i64 a0.Kind) (PO.loadB 1 pl3 rfl rfl rfl) rfl ?_
 refine Pu (.bool (decide (a0.Kind ≠ 16))) (PO.neq rfl rfl) rfl ?_
 refine Nt ?_
 refine WC.cond (b := decide (a0.Kind ≠ 16)) rfl (fun hb23 => ?_) (fun hb23 => ?_)
 have h := ite_t hb23 h
 refine Sr ?_
 refine Pu (.agg z28_.toArray) (PO.buildL (cl := z28_) ze28 fp28 Parts.nil rfl) rfl ?_
 refine Pu (pt g21 0) (PO.fieldAddr fo34_0 rfl rfl) rfl ?_
 refine Pu (.int .i64 a0.Kind) (PO.loadB 1 pl3 rfl rfl rfl) rfl ?_
 obtain ⟨r24, hr25, h⟩ := bnd h
 refine WL.eff (EO.call0 co17 (f_fault_New_ok (⟨#[102, 114, 97, 109, 101]⟩ : ByteArray) a0.Kind (5 : Int) _ r24 hr25) (args3 rfl rfl rfl)) rfl ?_
 rintro _ M26 _ hle27 ⟨_, ⟨rfl, rfl⟩, rfl⟩
 have h0_1 := h0_1.mono hle27
 refine WL.a0 ?_
 refine WL.eff (EO.storeL (v := (.agg z28_.toArray)) (vl := z28_) (arr' := z28_) rfl sz28 rfl rfl (onesOf (Ones.cons rfl (Ones.cons rfl (Ones.cons rfl (Ones.cons rfl (Ones.cons rfl (Ones.cons rfl (Ones.cons rfl (Ones.cons rfl (Ones.cons rfl (Ones.cons rfl (Ones.cons rfl (Ones.cons rfl (Ones.cons rfl (Ones.cons rfl (Ones.cons rfl (Ones.cons rfl (Ones.cons rfl (Ones.cons rfl (Ones.cons rfl Ones.nil)))))))))))))))))))) rfl rfl (by kernel_rfl)) rfl ?_
 rintro _ _ _ - ⟨rfl, rfl⟩
 refine Pa (GV r24) rfl rfl ?_
 refine Nt ?_
 refine WC.ret ?_
 refine WQ.thenR ?_
 refine WQ.e0 ?_
 refine WQ.f2 ?_
 refine WQ.drop ?_
 refine WQ.f1 ?_
 exact WQ.returnsD h [[]] (fun _ hs => hs.drop) (resultsLN rfl (RVs.cons (RV.cellA (cs := z28_) 0 ag28 sz28 rfl rfl rfl) (RVs.cons (RV.tmp rfl) RVs.nil))) hle27 ⟨(.slice none 0 0), [], rfl, rfl, (OwnS.nil _ _)⟩
 have h := ite_f hb23 h
 refine WC.skip ?_
 refine WQ.thenC ?_
 refine Sr ?_
 refine Pu (pt g21 1) (PO.fieldAddr fo34_1 rfl rfl) rfl ?_
 refine Pu v0_1 (PO.loadB 1 pl22 rfl rfl rfl) rfl ?_
 obtain ⟨r30, hr31, h⟩ := bnd h
 refine WL.eff (EO.call0 co18 (f_wire_Read_ok a0.Body _ _ h0_1 r30 hr31) (args1 rfl)) rfl ?_
 rintro _ M32 _ hle33 ⟨_, ⟨g34, vq35_0, rfl, rfl, hq35_0⟩, rfl⟩
 have h0_1 := h0_1.mono hle33
 refine WL.a1 ?_
 refine Pa (pt g34 0) rfl rfl ?_
 refine Ns ?_
 refine Pm (pt g34 0) rfl rfl ?_
 refine Pu (.func (.func 19) #[(pt g34 0)] #[]) (PO.makeFunc2 (args1 (show ev _ _ = (pt g34 0) from rfl)) (args0)) rfl ?_
 refine Pm (pt g34 0) rfl rfl ?_
 refine Pu (.func (.func 20) #[(pt g34 0)] #[]) (PO.makeFunc2 (args1 (show ev _ _ = (pt g34 0) from rfl)) (args0)) rfl ?_
 refine WL.eff (EO.alloc ze60 rfl) rfl ?_
 rintro _ _ _ - ⟨rfl, g36, rfl, rfl⟩
 refine WL.eff (EO.storeL (v := (.func (.func 19) #[(pt g34 0)] #[])) (vl := [(.func (.func 19) #[(pt g34 0)] #[])]) (arr' := [(.func (.func 19) #[(pt g34 0)] #[])]) rfl sz60 rfl rfl (onesOf (Ones.cons rfl Ones.nil)) rfl rfl rfl) rfl ?_
 rintro _ _ _ - ⟨rfl, rfl⟩
 refine Pa (.func (.func 20) #[(pt g34 0)] #[]) rfl rfl ?_
 refine Nt ?_
 obtain ⟨j55, hj55, h⟩ := bnd h
 refine WC.joinF (fun (p_ : (Int × Int × Int × ByteArray × ByteArray × ByteArray × Bool × Int × Int × Int × (List Int) × Int × Int × ByteArray × T_api_Word × Int × GErr)) ρ' M' H' => match p_ with | (x38, x39, x40, x41, x42, x43, x44, x45, x46, x47, x48, x49, x50, x51, x52, x53, x54) => ∃ g37 vx48 cx48, M32.le M' ∧ [(g36, .cells #[(.func (.func 19) #[(pt g34 0)] #[])] 60 (0, 0))] :: [(g34, .cells #[vq35_0, (.int .i64 x53), (GV x54)] 100 (0, 0))] :: [(g22, .cells z28_.toArray 28 (0, 0))] :: [(g21, .cells #[(.int .i64 a0.Kind), v0_1] 34 (0, 0))] :: [(g37, .cells #[(.int .i64 x38), (.int .i64 x39), (.int .i64 x40), (.string x41), (.string x42), (.string x43), (.bool x44), (.int .i64 x45), (.int .i64 x46), (.int .i64 x47), vx48, (.int .i64 x49), (.int .i64 x50), (.string x51), (.int .i64 x52.Broker), (.int .i64 x52.Epoch), (.int .i64 x52.High), (.bool x52.Fence), (.bool x52.Leave)] 28 (0, 0))] :: cx48 :: F = H' ∧ ρ' 2 = (pt g22 0) ∧ ρ' 4 = (pt g34 0) ∧ ρ' 5 = (pt g36 0) ∧ ρ' 6 = (.func (.func 20) #[(pt g34 0)] #[]) ∧ ρ' 7 = (pt g37 0) ∧ OwnS (Kd.int .i64) M' vx48 x48 cx48) j55 ?_ ?_
 have h355 := h
 have h := hj55
 refine WC.draw [0, 1, 0, 7, 0, 31, 63, 0, 255] (.pure 0 (.pure 2 (.pure 4 (.alt 1 (.alt 3 (.alt 5 (.pure 6 (.alt 7 (.alt 8 .done .none) .none)) (.alt 7 (.alt 5 (.pure 6 (.alt 8 .done .none)) .none) .none)) (.alt 7 (.alt 3 (.alt 5 (.pure 6 (.alt 8 .done .none)) .none) .none) .none)) (.alt 7 (.alt 1 (.alt 3 (.alt 5 (.pure 6 (.alt 8 .done .none)) .none) .none) .none) .none))))) mixed (by kernel_rfl) ?_
 refine Tp (.func (.func 19) #[(pt g34 0)] #[]) rfl (PO.loadB 0 pl60 rfl rfl rfl) rfl ?_
 refine Tp (.func (.func 19) #[(pt g34 0)] #[]) rfl (PO.loadB 0 pl60 rfl rfl rfl) rfl ?_
 refine Tp (.func (.func 19) #[(pt g34 0)] #[]) rfl (PO.loadB 0 pl60 rfl rfl rfl) rfl ?_
 have hk56 := h
 obtain ⟨⟨r57, r58, r59⟩, hr60, h⟩ := bnd h
 refine WT.f1 ?_
 refine WT.alt rfl (EO.callV1 (first := #[(pt g34 0)]) (cap := #[]) co19 rfl (f_wire_Reader_Int_ok r30 (1073741824 : Int) _ _ _ hq35_0 (r57, r58, r59) hr60) (argsV1 rfl rfl)) rfl ?_ ?_
 rintro _ M61 _ hle62 ⟨_, ⟨rfl, rfl⟩, rfl⟩
 have h0_1 := h0_1.mono hle62
 have hq35_0 := hq35_0.mono hle62
 refine ⟨(StabL.st (StabA.of rfl (PO.loadB 1 pl60 rfl rfl rfl) rfl) (StabL.st (StabA.of rfl (PO.loadB 1 pl60 rfl rfl rfl) rfl) (StabL.anc rfl trivial))), ?_⟩
 refine WT.a1 ?_
 have hk64 := h
 obtain ⟨⟨r65, r66, r67⟩, hr68, h⟩ := bnd h
 refine WT.alt rfl (EO.callV1 (first := #[(pt g34 0)]) (cap := #[]) co19 rfl (f_wire_Reader_Int_ok (⟨r30.b, r58, r59⟩ : T_wire_Reader) (1073741824 : Int) _ _ _ hq35_0 (r65, r66, r67) hr68) (argsV1 rfl rfl)) rfl ?_ ?_
 rintro _ M69 _ hle70 ⟨_, ⟨rfl, rfl⟩, rfl⟩
 have h0_1 := h0_1.mono hle70
 have hq35_0 := hq35_0.mono hle70
 refine ⟨(StabL.st (StabA.of rfl (PO.loadB 1 pl60 rfl rfl rfl) rfl) (StabL.anc rfl (StabL.anc rfl trivial))), ?_⟩
 refine WT.a1 ?_
 have hk72 := h
 obtain ⟨⟨r73, r74, r75⟩, hr76, h⟩ := bnd h
 refine WT.alt rfl (EO.callV1 (first := #[(pt g34 0)]) (cap := #[]) co19 rfl (f_wire_Reader_Int_ok (⟨r30.b, r66, r67⟩ : T_wire_Reader) (63 : Int) _ _ _ hq35_0 (r73, r74, r75) hr76) (argsV1 rfl rfl)) rfl ?_ ?_
 rintro _ M77 _ hle78 ⟨_, ⟨rfl, rfl⟩, rfl⟩
 have h0_1 := h0_1.mono hle78
 have hq35_0 := hq35_0.mono hle78
 refine ⟨(StabL.anc rfl (StabL.anc rfl (StabL.anc rfl trivial))), ?_⟩
 refine WT.a1 ?_
 refine Tp (.agg #[(.int .i64 r57), (.int .i64 r65), (.int .i64 r73), (.string ⟨#[]⟩), (.string ⟨#[]⟩), (.string ⟨#[]⟩), (.bool false), (.int .i64 0), (.int .i64 0), (.int .i64 0), (.slice none 0 0), (.int .i64 0), (.int .i64 0), (.string ⟨#[]⟩), (.int .i64 0), (.int .i64 0), (.int .i64 0), (.bool false), (.bool false)]) rfl (PO.buildL (cl := [(.int .i64 r57), (.int .i64 r65), (.int .i64 r73), (.string ⟨#[]⟩), (.string ⟨#[]⟩), (.string ⟨#[]⟩), (.bool false), (.int .i64 0), (.int .i64 0), (.int .i64 0), (.slice none 0 0), (.int .i64 0), (.int .i64 0), (.string ⟨#[]⟩), (.int .i64 0), (.int .i64 0), (.int .i64 0), (.bool false), (.bool false)]) ze28 fp28 (Parts.cons (congrArg Value.cells (show ev _ _ = (.int .i64 r57) from rfl)) (Parts.cons (congrArg Value.cells (show ev _ _ = (.int .i64 r65) from rfl)) (Parts.cons (congrArg Value.cells (show ev _ _ = (.int .i64 r73) from rfl)) Parts.nil))) rfl) rfl ?_
 refine WT.alt rfl (EO.alloc ze28 rfl) rfl ?_ ?_
 rintro _ _ _ - ⟨rfl, g80, rfl, rfl⟩
 refine ⟨(StabL.st (StabA.of rfl (PO.buildL (cl := [(.int .i64 r57), (.int .i64 r65), (.int .i64 r73), (.string ⟨#[]⟩), (.string ⟨#[]⟩), (.string ⟨#[]⟩), (.bool false), (.int .i64 0), (.int .i64 0), (.int .i64 0), (.slice none 0 0), (.int .i64 0), (.int .i64 0), (.string ⟨#[]⟩), (.int .i64 0), (.int .i64 0), (.int .i64 0), (.bool false), (.bool false)]) ze28 fp28 (Parts.cons (congrArg Value.cells (show ev _ _ = (.int .i64 r57) from rfl)) (Parts.cons (congrArg Value.cells (show ev _ _ = (.int .i64 r65) from rfl)) (Parts.cons (congrArg Value.cells (show ev _ _ = (.int .i64 r73) from rfl)) Parts.nil))) rfl) rfl) (StabL.st (StabA.of rfl (PO.loadB 2 pl60 rfl rfl rfl) rfl) (StabL.st (StabA.of rfl (PO.loadB 2 pl60 rfl rfl rfl) rfl) (StabL.st (StabA.of rfl (PO.loadB 2 pl60 rfl rfl rfl) rfl) trivial)))), ?_⟩
 refine WT.alt rfl (EO.storeL (v := (.agg #[(.int .i64 r57), (.int .i64 r65), (.int .i64 r73), (.string ⟨#[]⟩), (.string ⟨#[]⟩), (.string ⟨#[]⟩), (.bool false), (.int .i64 0), (.int .i64 0), (.int .i64 0), (.slice none 0 0), (.int .i64 0), (.int .i64 0), (.string ⟨#[]⟩), (.int .i64 0), (.int .i64 0), (.int .i64 0), (.bool false), (.bool false)])) (vl := [(.int .i64 r57), (.int .i64 r65), (.int .i64 r73), (.string ⟨#[]⟩), (.string ⟨#[]⟩), (.string ⟨#[]⟩), (.bool false), (.int .i64 0), (.int .i64 0), (.int .i64 0), (.slice none 0 0), (.int .i64 0), (.int .i64 0), (.string ⟨#[]⟩), (.int .i64 0), (.int .i64 0), (.int .i64 0), (.bool false), (.bool false)]) (arr' := [(.int .i64 r57), (.int .i64 r65), (.int .i64 r73), (.string ⟨#[]⟩), (.string ⟨#[]⟩), (.string ⟨#[]⟩), (.bool false), (.int .i64 0), (.int .i64 0), (.int .i64 0), (.slice none 0 0), (.int .i64 0), (.int .i64 0), (.string ⟨#[]⟩), (.int .i64 0), (.int .i64 0), (.int .i64 0), (.bool false), (.bool false)]) rfl sz28 rfl rfl (onesOf (Ones.cons rfl (Ones.cons rfl (Ones.cons rfl (Ones.cons rfl (Ones.cons rfl (Ones.cons rfl (Ones.cons rfl (Ones.cons rfl (Ones.cons rfl (Ones.cons rfl (Ones.cons rfl (Ones.cons rfl (Ones.cons rfl (Ones.cons rfl (Ones.cons rfl (Ones.cons rfl (Ones.cons rfl (Ones.cons rfl (Ones.cons rfl Ones.nil)))))))))))))))))))) rfl rfl (by kernel_rfl)) rfl ?_ ?_
 rintro _ _ _ - ⟨rfl, rfl⟩
 refine ⟨(StabL.anc rfl (StabL.anc rfl (StabL.anc rfl (StabL.anc rfl trivial)))), ?_⟩
 refine WT.fin ?_
 refine WQ.e0 ?_
 refine WQ.f1 ?_
 refine WQ.f5 ?_
 refine WQ.f5 ?_
 refine WQ.f4 ?_
 refine WQ.f5 ?_
 obtain rfl := Option.some.inj h
 refine WQ.thenJ ?_
 exact ⟨g80, (.slice none 0 0), [], ((hle62.trans hle70).trans hle78), rfl, rfl, rfl, rfl, rfl, rfl, (OwnS.nil _ _)⟩
 exact WT.no
 exact WT.no
 have h := hk72
 refine WT.alt rfl (EO.alloc ze28 rfl) rfl ?_ ?_
 rintro _ _ _ - ⟨rfl, g82, rfl, rfl⟩
 refine ⟨(StabL.st (StabA.of rfl (PO.loadB 2 pl60 rfl rfl rfl) rfl) (StabL.st (StabA.of rfl (PO.loadB 2 pl60 rfl rfl rfl) rfl) (StabL.st (StabA.of rfl (PO.loadB 2 pl60 rfl rfl rfl) rfl) trivial))), ?_⟩
 obtain ⟨⟨r83, r84, r85⟩, hr86, h⟩ := bnd h
 refine WT.f1 ?_
 refine WT.alt rfl (EO.callV1 (first := #[(pt g34 0)]) (cap := #[]) co19 rfl (f_wire_Reader_Int_ok (⟨r30.b, r66, r67⟩ : T_wire_Reader) (63 : Int) _ _ _ hq35_0 (r83, r84, r85) hr86) (argsV1 rfl rfl)) rfl ?_ ?_
 rintro _ M87 _ hle88 ⟨_, ⟨rfl, rfl⟩, rfl⟩
 have h0_1 := h0_1.mono hle88
 have hq35_0 := hq35_0.mono hle88
 refine ⟨(StabL.anc rfl (StabL.anc rfl (StabL.anc rfl trivial))), ?_⟩
 refine WT.a1 ?_
 refine Tp (.agg #[(.int .i64 r57), (.int .i64 r65), (.int .i64 r83), (.string ⟨#[]⟩), (.string ⟨#[]⟩), (.string ⟨#[]⟩), (.bool false), (.int .i64 0), (.int .i64 0), (.int .i64 0), (.slice none 0 0), (.int .i64 0), (.int .i64 0), (.string ⟨#[]⟩), (.int .i64 0), (.int .i64 0), (.int .i64 0), (.bool false), (.bool false)]) rfl (PO.buildL (cl := [(.int .i64 r57), (.int .i64 r65), (.int .i64 r83), (.string ⟨#[]⟩), (.string ⟨#[]⟩), (.string ⟨#[]⟩), (.bool false), (.int .i64 0), (.int .i64 0), (.int .i64 0), (.slice none 0 0), (.int .i64 0), (.int .i64 0), (.string ⟨#[]⟩), (.int .i64 0), (.int .i64 0), (.int .i64 0), (.bool false), (.bool false)]) ze28 fp28 (Parts.cons (congrArg Value.cells (show ev _ _ = (.int .i64 r57) from rfl)) (Parts.cons (congrArg Value.cells (show ev _ _ = (.int .i64 r65) from rfl)) (Parts.cons (congrArg Value.cells (show ev _ _ = (.int .i64 r83) from rfl)) Parts.nil))) rfl) rfl ?_
 refine WT.f1 ?_
 refine WT.alt rfl (EO.storeL (v := (.agg #[(.int .i64 r57), (.int .i64 r65), (.int .i64 r83), (.string ⟨#[]⟩), (.string ⟨#[]⟩), (.string ⟨#[]⟩), (.bool false), (.int .i64 0), (.int .i64 0), (.int .i64 0), (.slice none 0 0), (.int .i64 0), (.int .i64 0), (.string ⟨#[]⟩), (.int .i64 0), (.int .i64 0), (.int .i64 0), (.bool false), (.bool false)])) (vl := [(.int .i64 r57), (.int .i64 r65), (.int .i64 r83), (.string ⟨#[]⟩), (.string ⟨#[]⟩), (.string ⟨#[]⟩), (.bool false), (.int .i64 0), (.int .i64 0), (.int .i64 0), (.slice none 0 0), (.int .i64 0), (.int .i64 0), (.string ⟨#[]⟩), (.int .i64 0), (.int .i64 0), (.int .i64 0), (.bool false), (.bool false)]) (arr' := [(.int .i64 r57), (.int .i64 r65), (.int .i64 r83), (.string ⟨#[]⟩), (.string ⟨#[]⟩), (.string ⟨#[]⟩), (.bool false), (.int .i64 0), (.int .i64 0), (.int .i64 0), (.slice none 0 0), (.int .i64 0), (.int .i64 0), (.string ⟨#[]⟩), (.int .i64 0), (.int .i64 0), (.int .i64 0), (.bool false), (.bool false)]) rfl sz28 rfl rfl (onesOf (Ones.cons rfl (Ones.cons rfl (Ones.cons rfl (Ones.cons rfl (Ones.cons rfl (Ones.cons rfl (Ones.cons rfl (Ones.cons rfl (Ones.cons rfl (Ones.cons rfl (Ones.cons rfl (Ones.cons rfl (Ones.cons rfl (Ones.cons rfl (Ones.cons rfl (Ones.cons rfl (Ones.cons rfl (Ones.cons rfl (Ones.cons rfl Ones.nil)))))))))))))))))))) rfl rfl (by kernel_rfl)) rfl ?_ ?_
 rintro _ _ _ - ⟨rfl, rfl⟩
 refine ⟨(StabL.anc rfl (StabL.anc rfl (StabL.anc rfl (StabL.anc rfl trivial)))), ?_⟩
 refine WT.fin ?_
 refine WQ.e0 ?_
 refine WQ.f1 ?_
 refine WQ.f5 ?_
 refine WQ.f5 ?_
 refine WQ.f4 ?_
 refine WQ.f5 ?_
 obtain rfl := Option.some.inj h
 refine WQ.thenJ ?_
 exact ⟨g82, (.slice none 0 0), [], ((hle62.trans hle70).trans hle88), rfl, rfl, rfl, rfl, rfl, rfl, (OwnS.nil _ _)⟩
 exact WT.no
 exact WT.no
 exact WT.no
 have h := hk64
 refine WT.alt rfl (EO.alloc ze28 rfl) rfl ?_ ?_
 rintro _ _ _ - ⟨rfl, g91, rfl, rfl⟩
 refine ⟨(StabL.st (StabA.of rfl (PO.loadB 2 pl60 rfl rfl rfl) rfl) (StabL.st (StabA.of rfl (PO.loadB 2 pl60 rfl rfl rfl) rfl) (StabL.st (StabA.of rfl (PO.loadB 2 pl60 rfl rfl rfl) rfl) trivial))), ?_⟩
 obtain ⟨⟨r92, r93, r94⟩, hr95, h⟩ := bnd h
 refine WT.f1 ?_
 refine WT.alt rfl (EO.callV1 (first := #[(pt g34 0)]) (cap := #[]) co19 rfl (f_wire_Reader_Int_ok (⟨r30.b, r58, r59⟩ : T_wire_Reader) (1073741824 : Int) _ _ _ hq35_0 (r92, r93, r94) hr95) (argsV1 rfl rfl)) rfl ?_ ?_
 rintro _ M96 _ hle97 ⟨_, ⟨rfl, rfl⟩, rfl⟩
 have h0_1 := h0_1.mono hle97
 have hq35_0 := hq35_0.mono hle97
 refine ⟨(StabL.st (StabA.of rfl (PO.loadB 2 pl60 rfl rfl rfl) rfl) (StabL.anc rfl (StabL.anc rfl trivial))), ?_⟩
 refine WT.a1 ?_
 obtain ⟨⟨r99, r100, r101⟩, hr102, h⟩ := bnd h
 refine WT.alt rfl (EO.callV1 (first := #[(pt g34 0)]) (cap := #[]) co19 rfl (f_wire_Reader_Int_ok (⟨r30.b, r93, r94⟩ : T_wire_Reader) (63 : Int) _ _ _ hq35_0 (r99, r100, r101) hr102) (argsV1 rfl rfl)) rfl ?_ ?_
 rintro _ M103 _ hle104 ⟨_, ⟨rfl, rfl⟩, rfl⟩
 have h0_1 := h0_1.mono hle104
 have hq35_0 := hq35_0.mono hle104
 refine ⟨(StabL.anc rfl (StabL.anc rfl (StabL.anc rfl trivial))), ?_⟩
 refine WT.a1 ?_
 refine Tp (.agg #[(.int .i64 r57), (.int .i64 r92), (.int .i64 r99), (.string ⟨#[]⟩), (.string ⟨#[]⟩), (.string ⟨#[]⟩), (.bool false), (.int .i64 0), (.int .i64 0), (.int .i64 0), (.slice none 0 0), (.int .i64 0), (.int .i64 0), (.string ⟨#[]⟩), (.int .i64 0), (.int .i64 0), (.int .i64 0), (.bool false), (.bool false)]) rfl (PO.buildL (cl := [(.int .i64 r57), (.int .i64 r92), (.int .i64 r99), (.string ⟨#[]⟩), (.string ⟨#[]⟩), (.string ⟨#[]⟩), (.bool false), (.int .i64 0), (.int .i64 0), (.int .i64 0), (.slice none 0 0), (.int .i64 0), (.int .i64 0), (.string ⟨#[]⟩), (.int .i64 0), (.int .i64 0), (.int .i64 0), (.bool false), (.bool false)]) ze28 fp28 (Parts.cons (congrArg Value.cells (show ev _ _ = (.int .i64 r57) from rfl)) (Parts.cons (congrArg Value.cells (show ev _ _ = (.int .i64 r92) from rfl)) (Parts.cons (congrArg Value.cells (show ev _ _ = (.int .i64 r99) from rfl)) Parts.nil))) rfl) rfl ?_
 refine WT.f1 ?_
 refine WT.alt rfl (EO.storeL (v := (.agg #[(.int .i64 r57), (.int .i64 r92), (.int .i64 r99), (.string ⟨#[]⟩), (.string ⟨#[]⟩), (.string ⟨#[]⟩), (.bool false), (.int .i64 0), (.int .i64 0), (.int .i64 0), (.slice none 0 0), (.int .i64 0), (.int .i64 0), (.string ⟨#[]⟩), (.int .i64 0), (.int .i64 0), (.int .i64 0), (.bool false), (.bool false)])) (vl := [(.int .i64 r57), (.int .i64 r92), (.int .i64 r99), (.string ⟨#[]⟩), (.string ⟨#[]⟩), (.string ⟨#[]⟩), (.bool false), (.int .i64 0), (.int .i64 0), (.int .i64 0), (.slice none 0 0), (.int .i64 0), (.int .i64 0), (.string ⟨#[]⟩), (.int .i64 0), (.int .i64 0), (.int .i64 0), (.bool false), (.bool false)]) (arr' := [(.int .i64 r57), (.int .i64 r92), (.int .i64 r99), (.string ⟨#[]⟩), (.string ⟨#[]⟩), (.string ⟨#[]⟩), (.bool false), (.int .i64 0), (.int .i64 0), (.int .i64 0), (.slice none 0 0), (.int .i64 0), (.int .i64 0), (.string ⟨#[]⟩), (.int .i64 0), (.int .i64 0), (.int .i64 0), (.bool false), (.bool false)]) rfl sz28 rfl rfl (onesOf (Ones.cons rfl (Ones.cons rfl (Ones.cons rfl (Ones.cons rfl (Ones.cons rfl (Ones.cons rfl (Ones.cons rfl (Ones.cons rfl (Ones.cons rfl (Ones.cons rfl (Ones.cons rfl (Ones.cons rfl (Ones.cons rfl (Ones.cons rfl (Ones.cons rfl (Ones.cons rfl (Ones.cons rfl (Ones.cons rfl (Ones.cons rfl Ones.nil)))))))))))))))))))) rfl rfl (by kernel_rfl)) rfl ?_ ?_
 rintro _ _ _ - ⟨rfl, rfl⟩
 refine ⟨(StabL.anc rfl (StabL.anc rfl (StabL.anc rfl (StabL.anc rfl trivial)))), ?_⟩
 refine WT.fin ?_
 refine WQ.e0 ?_
 refine WQ.f1 ?_
 refine WQ.f5 ?_
 refine WQ.f5 ?_
 refine WQ.f4 ?_
 refine WQ.f5 ?_
 obtain rfl := Option.some.inj h
 refine WQ.thenJ ?_
 exact ⟨g91, (.slice none 0 0), [], ((hle62.trans hle97).trans hle104), rfl, rfl, rfl, rfl, rfl, rfl, (OwnS.nil _ _)⟩
 exact WT.no
 exact WT.no
 exact WT.no
 exact WT.no
 have h := hk56
 refine WT.alt rfl (EO.alloc ze28 rfl) rfl ?_ ?_
 rintro _ _ _ - ⟨rfl, g107, rfl, rfl⟩
 refine ⟨(StabL.st (StabA.of rfl (PO.loadB 2 pl60 rfl rfl rfl) rfl) (StabL.st (StabA.of rfl (PO.loadB 2 pl60 rfl rfl rfl) rfl) (StabL.st (StabA.of rfl (PO.loadB 2 pl60 rfl rfl rfl) rfl) trivial))), ?_⟩
 obtain ⟨⟨r108, r109, r110⟩, hr111, h⟩ := bnd h
 refine WT.f1 ?_
 refine WT.alt rfl (EO.callV1 (first := #[(pt g34 0)]) (cap := #[]) co19 rfl (f_wire_Reader_Int_ok r30 (1073741824 : Int) _ _ _ hq35_0 (r108, r109, r110) hr111) (argsV1 rfl rfl)) rfl ?_ ?_
 rintro _ M112 _ hle113 ⟨_, ⟨rfl, rfl⟩, rfl⟩
 have h0_1 := h0_1.mono hle113
 have hq35_0 := hq35_0.mono hle113
 refine ⟨(StabL.st (StabA.of rfl (PO.loadB 2 pl60 rfl rfl rfl) rfl) (StabL.st (StabA.of rfl (PO.loadB 2 pl60 rfl rfl rfl) rfl) (StabL.anc rfl trivial))), ?_⟩
 refine WT.a1 ?_
 obtain ⟨⟨r115, r116, r117⟩, hr118, h⟩ := bnd h
 refine WT.alt rfl (EO.callV1 (first := #[(pt g34 0)]) (cap := #[]) co19 rfl (f_wire_Reader_Int_ok (⟨r30.b, r109, r110⟩ : T_wire_Reader) (1073741824 : Int) _ _ _ hq35_0 (r115, r116, r117) hr118) (argsV1 rfl rfl)) rfl ?_ ?_
 rintro _ M119 _ hle120 ⟨_, ⟨rfl, rfl⟩, rfl⟩
 have h0_1 := h0_1.mono hle120
 have hq35_0 := hq35_0.mono hle120
 refine ⟨(StabL.st (StabA.of rfl (PO.loadB 2 pl60 rfl rfl rfl) rfl) (StabL.anc rfl (StabL.anc rfl trivial))), ?_⟩
 refine WT.a1 ?_
 obtain ⟨⟨r122, r123, r124⟩, hr125, h⟩ := bnd h
 refine WT.alt rfl (EO.callV1 (first := #[(pt g34 0)]) (cap := #[]) co19 rfl (f_wire_Reader_Int_ok (⟨r30.b, r116, r117⟩ : T_wire_Reader) (63 : Int) _ _ _ hq35_0 (r122, r123, r124) hr125) (argsV1 rfl rfl)) rfl ?_ ?_
 rintro _ M126 _ hle127 ⟨_, ⟨rfl, rfl⟩, rfl⟩
 have h0_1 := h0_1.mono hle127
 have hq35_0 := hq35_0.mono hle127
 refine ⟨(StabL.anc rfl (StabL.anc rfl (StabL.anc rfl trivial))), ?_⟩
 refine WT.a1 ?_
 refine Tp (.agg #[(.int .i64 r108), (.int .i64 r115), (.int .i64 r122), (.string ⟨#[]⟩), (.string ⟨#[]⟩), (.string ⟨#[]⟩), (.bool false), (.int .i64 0), (.int .i64 0), (.int .i64 0), (.slice none 0 0), (.int .i64 0), (.int .i64 0), (.string ⟨#[]⟩), (.int .i64 0), (.int .i64 0), (.int .i64 0), (.bool false), (.bool false)]) rfl (PO.buildL (cl := [(.int .i64 r108), (.int .i64 r115), (.int .i64 r122), (.string ⟨#[]⟩), (.string ⟨#[]⟩), (.string ⟨#[]⟩), (.bool false), (.int .i64 0), (.int .i64 0), (.int .i64 0), (.slice none 0 0), (.int .i64 0), (.int .i64 0), (.string ⟨#[]⟩), (.int .i64 0), (.int .i64 0), (.int .i64 0), (.bool false), (.bool false)]) ze28 fp28 (Parts.cons (congrArg Value.cells (show ev _ _ = (.int .i64 r108) from rfl)) (Parts.cons (congrArg Value.cells (show ev _ _ = (.int .i64 r115) from rfl)) (Parts.cons (congrArg Value.cells (show ev _ _ = (.int .i64 r122) from rfl)) Parts.nil))) rfl) rfl ?_
 refine WT.f1 ?_
 refine WT.alt rfl (EO.storeL (v := (.agg #[(.int .i64 r108), (.int .i64 r115), (.int .i64 r122), (.string ⟨#[]⟩), (.string ⟨#[]⟩), (.string ⟨#[]⟩), (.bool false), (.int .i64 0), (.int .i64 0), (.int .i64 0), (.slice none 0 0), (.int .i64 0), (.int .i64 0), (.string ⟨#[]⟩), (.int .i64 0), (.int .i64 0), (.int .i64 0), (.bool false), (.bool false)])) (vl := [(.int .i64 r108), (.int .i64 r115), (.int .i64 r122), (.string ⟨#[]⟩), (.string ⟨#[]⟩), (.string ⟨#[]⟩), (.bool false), (.int .i64 0), (.int .i64 0), (.int .i64 0), (.slice none 0 0), (.int .i64 0), (.int .i64 0), (.string ⟨#[]⟩), (.int .i64 0), (.int .i64 0), (.int .i64 0), (.bool false), (.bool false)]) (arr' := [(.int .i64 r108), (.int .i64 r115), (.int .i64 r122), (.string ⟨#[]⟩), (.string ⟨#[]⟩), (.string ⟨#[]⟩), (.bool false), (.int .i64 0), (.int .i64 0), (.int .i64 0), (.slice none 0 0), (.int .i64 0), (.int .i64 0), (.string ⟨#[]⟩), (.int .i64 0), (.int .i64 0), (.int .i64 0), (.bool false), (.bool false)]) rfl sz28 rfl rfl (onesOf (Ones.cons rfl (Ones.cons rfl (Ones.cons rfl (Ones.cons rfl (Ones.cons rfl (Ones.cons rfl (Ones.cons rfl (Ones.cons rfl (Ones.cons rfl (Ones.cons rfl (Ones.cons rfl (Ones.cons rfl (Ones.cons rfl (Ones.cons rfl (Ones.cons rfl (Ones.cons rfl (Ones.cons rfl (Ones.cons rfl (Ones.cons rfl Ones.nil)))))))))))))))))))) rfl rfl (by kernel_rfl)) rfl ?_ ?_
 rintro _ _ _ - ⟨rfl, rfl⟩
 refine ⟨(StabL.anc rfl (StabL.anc rfl (StabL.anc rfl (StabL.anc rfl trivial)))), ?_⟩
 refine WT.fin ?_
 refine WQ.e0 ?_
 refine WQ.f1 ?_
 refine WQ.f5 ?_
 refine WQ.f5 ?_
 refine WQ.f4 ?_
 refine WQ.f5 ?_
 obtain rfl := Option.some.inj h
 refine WQ.thenJ ?_
 exact ⟨g107, (.slice none 0 0), [], ((hle113.trans hle120).trans hle127), rfl, rfl, rfl, rfl, rfl, rfl, (OwnS.nil _ _)⟩
 exact WT.no
 exact WT.no
 exact WT.no
 exact WT.no
 exact WT.no
 obtain ⟨x38, x39, x40, x41, x42, x43, x44, x45, x46, x47, x48, x49, x50, x51, x52, x53, x54⟩ := j55
 rintro ρ55 M55 H55 ⟨g37, vx48, cx48, hle55, rfl, hs55_2, hs55_4, hs55_5, hs55_6, hs55_7, hx48⟩
 have hq35_0 := hq35_0.mono hle55
 have h0_1 := h0_1.mono hle55
 refine Sr ?_
 refine Pu (pt g37 2) (PO.fieldAddr fo28_2 hs55_7 rfl) rfl ?_
 refine Pu (.int .i64 x40) (PO.loadB 4 pl3 rfl rfl rfl) rfl ?_
 obtain ⟨r130, hr131, h⟩ := bnd h
 refine WL.eff (EO.call0 co21 (f_ask_about_ok x40 _ r130 hr131) (args1 rfl)) rfl ?_
 rintro _ M132 _ hle133 ⟨_, ⟨rfl, rfl⟩, rfl⟩
 have hq35_0 := hq35_0.mono hle133
 have h0_1 := h0_1.mono hle133
 have hx48 := hx48.mono hle133
 refine WL.a0 ?_
 refine WL.eff (EO.alloc ze3 rfl) rfl ?_
 rintro _ _ _ - ⟨rfl, g135, rfl, rfl⟩
 refine WL.eff (EO.storeL (v := (.int .i64 r130)) (vl := [(.int .i64 r130)]) (arr' := [(.int .i64 r130)]) rfl sz3 rfl rfl (onesOf (Ones.cons rfl Ones.nil)) rfl rfl rfl) rfl ?_
 rintro _ _ _ - ⟨rfl, rfl⟩
 refine Nt ?_
 refine WC.seq ?_
 refine Sr ?_
 refine Pu (.int .i64 r130) (PO.loadB 0 pl3 rfl rfl rfl) rfl ?_
 refine Pu (.bool (decide (r130 < 0))) (PO.lss rfl rfl) rfl ?_
 refine Nt ?_
 refine WC.cond (b := decide (r130 < 0)) rfl (fun hb136 => ?_) (fun hb136 => ?_)
 have h := ite_t hb136 h
 refine Sr ?_
 refine Pm (pt g34 0) hs55_4 rfl ?_
 obtain ⟨r137, hr138, h⟩ := bnd h
 refine WL.f2 ?_
 refine WL.eff (EO.call1 co22 (f_wire_Reader_Refuse_ok (⟨r30.b, x53, x54⟩ : T_wire_Reader) (⟨#[107, 105, 110, 100]⟩ : ByteArray) (5 : Int) _ _ _ hq35_0 r137 hr138) (args3 rfl rfl rfl)) rfl ?_
 rintro _ M139 _ hle140 ⟨_, ⟨rfl, rfl⟩, rfl⟩
 have hq35_0 := hq35_0.mono hle140
 have h0_1 := h0_1.mono hle140
 have hx48 := hx48.mono hle140
 refine WL.a1 ?_
 refine Ns ?_
 refine Pu (.agg z28_.toArray) (PO.buildL (cl := z28_) ze28 fp28 Parts.nil rfl) rfl ?_
 refine Pm (pt g34 0) hs55_4 rfl ?_
 obtain ⟨r141, hr142, h⟩ := bnd h
 refine WL.eff (EO.call1 co23 (f_wire_Reader_Err_ok (⟨r30.b, x53, r137⟩ : T_wire_Reader) _ _ _ hq35_0 r141 hr142) (args1 rfl)) rfl ?_
 rintro _ M143 _ hle144 ⟨_, ⟨rfl, rfl⟩, rfl⟩
 have hq35_0 := hq35_0.mono hle144
 have h0_1 := h0_1.mono hle144
 have hx48 := hx48.mono hle144
 refine WL.a1 ?_
 refine WL.f3 ?_
 refine WL.eff (EO.storeL (v := (.agg z28_.toArray)) (vl := z28_) (arr' := z28_) rfl sz28 hs55_2 rfl (onesOf (Ones.cons rfl (Ones.cons rfl (Ones.cons rfl (Ones.cons rfl (Ones.cons rfl (Ones.cons rfl (Ones.cons rfl (Ones.cons rfl (Ones.cons rfl (Ones.cons rfl (Ones.cons rfl (Ones.cons rfl (Ones.cons rfl (Ones.cons rfl (Ones.cons rfl (Ones.cons rfl (Ones.cons rfl (Ones.cons rfl (Ones.cons rfl Ones.nil)))))))))))))))))))) rfl rfl (by kernel_rfl)) rfl ?_
 rintro _ _ _ - ⟨rfl, rfl⟩
 refine Pa (GV r141) rfl rfl ?_
 refine Nt ?_
 refine WC.ret ?_
 refine WQ.thenR ?_
 refine WQ.e0 ?_
 refine WQ.f2 ?_
 refine WQ.drop ?_
 refine WQ.f2 ?_
 refine WQ.drop ?_
 refine WQ.f2 ?_
 refine WQ.drop ?_
 refine WQ.f2 ?_
 refine WQ.drop ?_
 refine WQ.f2 ?_
 refine WQ.drop ?_
 refine WQ.f2 ?_
 refine WQ.drop ?_
 refine WQ.f1 ?_
 exact WQ.returnsD h [[]] (fun _ hs => hs.drop) (resultsLN rfl (RVs.cons (RV.cellA (cs := z28_) 0 ag28 sz28 hs55_2 rfl rfl) (RVs.cons (RV.tmp rfl) RVs.nil))) ((((hle33.trans hle55).trans hle133).trans hle140).trans hle144) ⟨(.slice none 0 0), [], rfl, rfl, (OwnS.nil _ _)⟩
 have h := ite_f hb136 h
 refine WC.skip ?_
 refine WQ.thenC ?_
 obtain ⟨j150, hj150, h⟩ := bnd h
 refine WC.joinF (fun (p_ : (Int × GErr × ByteArray)) ρ' M' H' => match p_ with | (x147, x148, x149) => M132.le M' ∧ [(g135, .cells #[(.int .i64 r130)] 3 (0, 0))] :: [(g36, .cells #[(.func (.func 19) #[(pt g34 0)] #[])] 60 (0, 0))] :: [(g34, .cells #[vq35_0, (.int .i64 x147), (GV x148)] 100 (0, 0))] :: [(g22, .cells z28_.toArray 28 (0, 0))] :: [(g21, .cells #[(.int .i64 a0.Kind), v0_1] 34 (0, 0))] :: [(g37, .cells #[(.int .i64 x38), (.int .i64 x39), (.int .i64 x40), (.string x149), (.string x42), (.string x43), (.bool x44), (.int .i64 x45), (.int .i64 x46), (.int .i64 x47), vx48, (.int .i64 x49), (.int .i64 x50), (.string x51), (.int .i64 x52.Broker), (.int .i64 x52.Epoch), (.int .i64 x52.High), (.bool x52.Fence), (.bool x52.Leave)] 28 (0, 0))] :: cx48 :: F = H' ∧ ρ' 2 = (pt g22 0) ∧ ρ' 4 = (pt g34 0) ∧ ρ' 5 = (pt g36 0) ∧ ρ' 6 = (.func (.func 20) #[(pt g34 0)] #[]) ∧ ρ' 7 = (pt g37 0) ∧ ρ' 8 = (pt g135 0)) j150 ?_ ?_
 have h3150 := h
 have h := hj150
 refine Sr ?_
 refine Pu (.int .i64 r130) (PO.loadB 0 pl3 rfl rfl rfl) rfl ?_
 refine Pu (.int .i64 (andI .i64 r130 (1 : Int))) (PO.and rfl rfl) rfl ?_
 refine Pu (.bool (decide ((andI .i64 r130 (1 : Int)) ≠ 0))) (PO.neq rfl rfl) rfl ?_
 refine Nt ?_
 refine WC.cond (b := decide ((andI .i64 r130 (1 : Int)) ≠ 0)) rfl (fun hb151 => ?_) (fun hb151 => ?_)
 have h := ite_t hb151 h
 refine WC.region ?_
 refine Pm (pt g34 0) hs55_4 rfl ?_
 obtain ⟨⟨r152, r153, r154⟩, hr155, h⟩ := bnd h
 refine WL.f2 ?_
 refine WL.eff (EO.call1 co24 (f_wire_Reader_Text_ok (⟨r30.b, x53, x54⟩ : T_wire_Reader) (40 : Int) _ _ _ hq35_0 (r152, r153, r154) hr155) (args2 rfl rfl)) rfl ?_
 rintro _ M156 _ hle157 ⟨_, ⟨vq158, cq158, rfl, rfl, hq158⟩, rfl⟩
 have hq35_0 := hq35_0.mono hle157
 have h0_1 := h0_1.mono hle157
 have hx48 := hx48.mono hle157
 refine WL.a2 ?_
 refine Pu (.string (strOfNums r152)) (PO.b2s (ys := r152) Tryz.underlying22 Tryz.underlying5 Tryz.underlying9 rfl (hq158.src 1 rfl)) rfl ?_
 refine Pu (pt g37 3) (PO.fieldAddr fo28_3 hs55_7 rfl) rfl ?_
 refine WL.f6 ?_
 refine WL.eff (EO.storeL (v := (.string (strOfNums r152))) (vl := [(.string (strOfNums r152))]) (arr' := [(.int .i64 x38), (.int .i64 x39), (.int .i64 x40), (.string (strOfNums r152)), (.string x42), (.string x43), (.bool x44), (.int .i64 x45), (.int .i64 x46), (.int .i64 x47), vx48, (.int .i64 x49), (.int .i64 x50), (.string x51), (.int .i64 x52.Broker), (.int .i64 x52.Epoch), (.int .i64 x52.High), (.bool x52.Fence), (.bool x52.Leave)]) rfl sz9 rfl rfl (onesOf (Ones.cons rfl Ones.nil)) rfl rfl (by kernel_rfl)) rfl ?_
 rintro _ _ _ - ⟨rfl, rfl⟩
 refine WL.nil ?_
 refine WQ.f2 ?_
 refine WQ.drop ?_
 refine WQ.f6 ?_
 refine WQ.f1 ?_
 refine WQ.f6 ?_
 refine WQ.f6 ?_
 refine WQ.f4 ?_
 refine WQ.f6 ?_
 refine WQ.f6 ?_
 obtain rfl := Option.some.inj h
 refine WQ.thenJ ?_
 exact ⟨hle157, rfl, hs55_2, hs55_4, hs55_5, hs55_6, hs55_7, rfl⟩
 have h := ite_f hb151 h
 refine WC.skip ?_
 obtain rfl := Option.some.inj h
 refine WQ.thenJ ?_
 exact ⟨(IM.le.refl _), rfl, hs55_2, hs55_4, hs55_5, hs55_6, hs55_7, rfl⟩
 obtain ⟨x147, x148, x149⟩ := j150
 rintro ρ150 M150 H150 ⟨hle150, rfl, hs150_2, hs150_4, hs150_5, hs150_6, hs150_7, hs150_8⟩
 have hq35_0 := hq35_0.mono hle150
 have h0_1 := h0_1.mono hle150
 have hx48 := hx48.mono hle150
 obtain ⟨j164, hj164, h⟩ := bnd h
 refine WC.joinF (fun (p_ : (Int × GErr × ByteArray × ByteArray × Bool)) ρ' M' H' => match p_ with | (x159, x160, x161, x162, x163) => M150.le M' ∧ [(g135, .cells #[(.int .i64 r130)] 3 (0, 0))] :: [(g36, .cells #[(.func (.func 19) #[(pt g34 0)] #[])] 60 (0, 0))] :: [(g34, .cells #[vq35_0, (.int .i64 x159), (GV x160)] 100 (0, 0))] :: [(g22, .cells z28_.toArray 28 (0, 0))] :: [(g21, .cells #[(.int .i64 a0.Kind), v0_1] 34 (0, 0))] :: [(g37, .cells #[(.int .i64 x38), (.int .i64 x39), (.int .i64 x40), (.string x149), (.string x161), (.string x162), (.bool x163), (.int .i64 x45), (.int .i64 x46), (.int .i64 x47), vx48, (.int .i64 x49), (.int .i64 x50), (.string x51), (.int .i64 x52.Broker), (.int .i64 x52.Epoch), (.int .i64 x52.High), (.bool x52.Fence), (.bool x52.Leave)] 28 (0, 0))] :: cx48 :: F = H' ∧ ρ' 2 = (pt g22 0) ∧ ρ' 4 = (pt g34 0) ∧ ρ' 5 = (pt g36 0) ∧ ρ' 6 = (.func (.func 20) #[(pt g34 0)] #[]) ∧ ρ' 7 = (pt g37 0) ∧ ρ' 8 = (pt g135 0)) j164 ?_ ?_
 have h3164 := h
 have h := hj164
 refine Sr ?_
 refine Pu (.int .i64 r130) (PO.loadB 0 pl3 hs150_8 rfl rfl) rfl ?_
 refine Pu (.int .i64 (andI .i64 r130 (2 : Int))) (PO.and rfl rfl) rfl ?_
 refine Pu (.bool (decide ((andI .i64 r130 (2 : Int)) ≠ 0))) (PO.neq rfl rfl) rfl ?_
 refine Nt ?_
 refine WC.cond (b := decide ((andI .i64 r130 (2 : Int)) ≠ 0)) rfl (fun hb165 => ?_) (fun hb165 => ?_)
 have h := ite_t hb165 h
 refine WC.draw [0, 1, 3, 0, 11, 27, 0, 91, 7, 479, 1023, 2047, 4095, 8191] (.pure 0 (.pure 3 (.pure 6 (.alt 1 (.pure 2 (.pure 8 (.alt 4 (.pure 5 (.alt 7 (.alt 9 (.pure 10 (.alt 11 (.pure 12 (.alt 13 .done .none)) .none)) .none) .none)) .none))) .none)))) mixed (by kernel_rfl) ?_
 refine Tp (pt g34 0) rfl (PO.move hs150_4) rfl ?_
 refine Tp (pt g34 0) rfl (PO.move hs150_4) rfl ?_
 refine Tp (.func (.func 20) #[(pt g34 0)] #[]) rfl (PO.move hs150_6) rfl ?_
 obtain ⟨⟨r166, r167, r168⟩, hr169, h⟩ := bnd h
 refine WT.f2 ?_
 refine WT.alt rfl (EO.call1 co24 (f_wire_Reader_Text_ok (⟨r30.b, x147, x148⟩ : T_wire_Reader) (40 : Int) _ _ _ hq35_0 (r166, r167, r168) hr169) (args2 rfl rfl)) rfl ?_ ?_
 rintro _ M170 _ hle171 ⟨_, ⟨vq172, cq172, rfl, rfl, hq172⟩, rfl⟩
 have hq35_0 := hq35_0.mono hle171
 have h0_1 := h0_1.mono hle171
 have hx48 := hx48.mono hle171
 refine ⟨(StabL.st (StabA.of rfl (PO.move hs150_6) rfl) (StabL.st (StabA.of rfl (PO.move hs150_4) rfl) (StabL.anc rfl trivial))), ?_⟩
 refine WT.a2 ?_
 refine Tp (.string (strOfNums r166)) rfl (PO.b2s (ys := r166) Tryz.underlying22 Tryz.underlying5 Tryz.underlying9 rfl (hq172.src 1 rfl)) rfl ?_
 refine Tp (pt g37 4) rfl (PO.fieldAddr fo28_4 hs150_7 rfl) rfl ?_
 obtain ⟨⟨r173, r174, r175⟩, hr176, h⟩ := bnd h
 refine WT.alt rfl (EO.call1 co24 (f_wire_Reader_Text_ok (⟨r30.b, r167, r168⟩ : T_wire_Reader) (256 : Int) _ _ _ hq35_0 (r173, r174, r175) hr176) (args2 rfl rfl)) rfl ?_ ?_
 rintro _ M177 _ hle178 ⟨_, ⟨vq179, cq179, rfl, rfl, hq179⟩, rfl⟩
 have hq172 := hq172.mono hle178
 have hq35_0 := hq35_0.mono hle178
 have h0_1 := h0_1.mono hle178
 have hx48 := hx48.mono hle178
 refine ⟨(StabL.st (StabA.of rfl (PO.fieldAddr fo28_4 hs150_7 rfl) rfl) (StabL.st (StabA.of rfl (PO.b2s (ys := r166) Tryz.underlying22 Tryz.underlying5 Tryz.underlying9 rfl (hq172.src 2 rfl)) rfl) (StabL.st (StabA.of rfl (PO.move hs150_6) rfl) (StabL.anc rfl (StabL.anc rfl trivial))))), ?_⟩
 refine WT.a2 ?_
 refine Tp (.string (strOfNums r173)) rfl (PO.b2s (ys := r173) Tryz.underlying22 Tryz.underlying5 Tryz.underlying9 rfl (hq179.src 1 rfl)) rfl ?_
 obtain ⟨⟨r180, r181, r182⟩, hr183, h⟩ := bnd h
 refine WT.alt rfl (EO.callV1 (first := #[(pt g34 0)]) (cap := #[]) co20 rfl (f_wire_Reader_Flag_ok (⟨r30.b, r174, r175⟩ : T_wire_Reader) _ _ _ hq35_0 (r180, r181, r182) hr183) (argsV0 rfl)) rfl ?_ ?_
 rintro _ M184 _ hle185 ⟨_, ⟨rfl, rfl⟩, rfl⟩
 have hq172 := hq172.mono hle185
 have hq179 := hq179.mono hle185
 have hq35_0 := hq35_0.mono hle185
 have h0_1 := h0_1.mono hle185
 have hx48 := hx48.mono hle185
 refine ⟨(StabL.st (StabA.of rfl (PO.b2s (ys := r173) Tryz.underlying22 Tryz.underlying5 Tryz.underlying9 rfl (hq179.src 1 rfl)) rfl) (StabL.st (StabA.of rfl (PO.fieldAddr fo28_4 hs150_7 rfl) rfl) (StabL.st (StabA.of rfl (PO.b2s (ys := r166) Tryz.underlying22 Tryz.underlying5 Tryz.underlying9 rfl (hq172.src 2 rfl)) rfl) (StabL.anc rfl (StabL.anc rfl (StabL.anc rfl trivial)))))), ?_⟩
 refine WT.a1 ?_
 refine WT.f7 ?_
 refine WT.alt rfl (EO.storeL (v := (.string (strOfNums r166))) (vl := [(.string (strOfNums r166))]) (arr' := [(.int .i64 x38), (.int .i64 x39), (.int .i64 x40), (.string x149), (.string (strOfNums r166)), (.string x43), (.bool x44), (.int .i64 x45), (.int .i64 x46), (.int .i64 x47), vx48, (.int .i64 x49), (.int .i64 x50), (.string x51), (.int .i64 x52.Broker), (.int .i64 x52.Epoch), (.int .i64 x52.High), (.bool x52.Fence), (.bool x52.Leave)]) rfl sz9 rfl rfl (onesOf (Ones.cons rfl Ones.nil)) rfl rfl (by kernel_rfl)) rfl ?_ ?_
 rintro _ _ _ - ⟨rfl, rfl⟩
 refine ⟨(StabL.st (StabA.of rfl (PO.b2s (ys := r173) Tryz.underlying22 Tryz.underlying5 Tryz.underlying9 rfl (hq179.src 2 rfl)) rfl) (StabL.anc rfl (StabL.anc rfl (StabL.anc rfl (StabL.anc rfl (StabL.anc rfl trivial)))))), ?_⟩
 refine Tp (pt g37 5) rfl (PO.fieldAddr fo28_5 hs150_7 rfl) rfl ?_
 refine WT.alt rfl (EO.storeL (v := (.string (strOfNums r173))) (vl := [(.string (strOfNums r173))]) (arr' := [(.int .i64 x38), (.int .i64 x39), (.int .i64 x40), (.string x149), (.string (strOfNums r166)), (.string (strOfNums r173)), (.bool x44), (.int .i64 x45), (.int .i64 x46), (.int .i64 x47), vx48, (.int .i64 x49), (.int .i64 x50), (.string x51), (.int .i64 x52.Broker), (.int .i64 x52.Epoch), (.int .i64 x52.High), (.bool x52.Fence), (.bool x52.Leave)]) rfl sz9 rfl rfl (onesOf (Ones.cons rfl Ones.nil)) rfl rfl (by kernel_rfl)) rfl ?_ ?_
 rintro _ _ _ - ⟨rfl, rfl⟩
 refine ⟨(StabL.anc rfl (StabL.anc rfl (StabL.anc rfl (StabL.anc rfl (StabL.anc rfl (StabL.anc rfl (StabL.anc rfl trivial))))))), ?_⟩
 refine Tp (pt g37 6) rfl (PO.fieldAddr fo28_6 hs150_7 rfl) rfl ?_
 refine WT.alt rfl (EO.storeL (v := (.bool r180)) (vl := [(.bool r180)]) (arr' := [(.int .i64 x38), (.int .i64 x39), (.int .i64 x40), (.string x149), (.string (strOfNums r166)), (.string (strOfNums r173)), (.bool r180), (.int .i64 x45), (.int .i64 x46), (.int .i64 x47), vx48, (.int .i64 x49), (.int .i64 x50), (.string x51), (.int .i64 x52.Broker), (.int .i64 x52.Epoch), (.int .i64 x52.High), (.bool x52.Fence), (.bool x52.Leave)]) rfl sz4 rfl rfl (onesOf (Ones.cons rfl Ones.nil)) rfl rfl (by kernel_rfl)) rfl ?_ ?_
 rintro _ _ _ - ⟨rfl, rfl⟩
 refine ⟨(StabL.anc rfl (StabL.anc rfl (StabL.anc rfl (StabL.anc rfl (StabL.anc rfl (StabL.anc rfl (StabL.anc rfl (StabL.anc rfl trivial)))))))), ?_⟩
 refine WT.fin ?_
 refine WQ.f2 ?_
 refine WQ.drop ?_
 refine WQ.f2 ?_
 refine WQ.drop ?_
 refine WQ.f6 ?_
 refine WQ.f1 ?_
 refine WQ.f6 ?_
 refine WQ.f6 ?_
 refine WQ.f4 ?_
 refine WQ.f6 ?_
 refine WQ.f6 ?_
 obtain rfl := Option.some.inj h
 refine WQ.thenJ ?_
 exact ⟨((hle171.trans hle178).trans hle185), rfl, hs150_2, hs150_4, hs150_5, hs150_6, hs150_7, hs150_8⟩
 exact WT.no
 exact WT.no
 exact WT.no
 exact WT.no
 exact WT.no
 exact WT.no
 have h := ite_f hb165 h
 refine WC.skip ?_
 obtain rfl := Option.some.inj h
 refine WQ.thenJ ?_
 exact ⟨(IM.le.refl _), rfl, hs150_2, hs150_4, hs150_5, hs150_6, hs150_7, hs150_8⟩
 obtain ⟨x159, x160, x161, x162, x163⟩ := j164
 rintro ρ164 M164 H164 ⟨hle164, rfl, hs164_2, hs164_4, hs164_5, hs164_6, hs164_7, hs164_8⟩
 have hq35_0 := hq35_0.mono hle164
 have h0_1 := h0_1.mono hle164
 have hx48 := hx48.mono hle164
 refine Sr ?_
 refine Pu (.func (.func 25) #[] #[(pt g135 0), (pt g36 0)]) (PO.makeFunc2 (args0) (args2 (asE (Value.pointer (some ⟨g135, 0, none⟩)) hs164_8) (asE (Value.pointer (some ⟨g36, 0, none⟩)) hs164_5))) rfl ?_
 refine Pa (.func (.func 25) #[] #[(pt g135 0), (pt g36 0)]) rfl rfl ?_
 refine Ns ?_
 refine Pm (.func (.func 25) #[] #[(pt g135 0), (pt g36 0)]) rfl rfl ?_
 obtain ⟨⟨r187, r188, r189⟩, hr190, h⟩ := bnd h
 refine WL.f1 ?_
 refine WL.f2 ?_
 refine WL.f2 ?_
 refine WL.eff (EO.callV3 (first := #[]) (cap := #[(pt g135 0), (pt g36 0)]) co25 rfl (f_ask_Read_1_60_19_100_ok (4 : Int) r130 (⟨r30.b, x159, x160⟩ : T_wire_Reader) _ _ _ _ _ hq35_0 (r187, r188, r189) hr190) (argsV1 rfl rfl)) rfl ?_
 rintro _ M191 _ hle192 ⟨_, ⟨rfl, rfl⟩, rfl⟩
 have hq35_0 := hq35_0.mono hle192
 have h0_1 := h0_1.mono hle192
 have hx48 := hx48.mono hle192
 refine WL.a3 ?_
 refine Pm (.func (.func 25) #[] #[(pt g135 0), (pt g36 0)]) rfl rfl ?_
 obtain ⟨⟨r194, r195, r196⟩, hr197, h⟩ := bnd h
 refine WL.f2 ?_
 refine WL.f2 ?_
 refine WL.f2 ?_
 refine WL.eff (EO.callV3 (first := #[]) (cap := #[(pt g135 0), (pt g36 0)]) co25 rfl (f_ask_Read_1_60_19_100_ok (8 : Int) r130 (⟨r30.b, r188, r189⟩ : T_wire_Reader) _ _ _ _ _ hq35_0 (r194, r195, r196) hr197) (argsV1 rfl rfl)) rfl ?_
 rintro _ M198 _ hle199 ⟨_, ⟨rfl, rfl⟩, rfl⟩
 have hq35_0 := hq35_0.mono hle199
 have h0_1 := h0_1.mono hle199
 have hx48 := hx48.mono hle199
 refine WL.a3 ?_
 refine Pm (.func (.func 25) #[] #[(pt g135 0), (pt g36 0)]) rfl rfl ?_
 obtain ⟨⟨r201, r202, r203⟩, hr204, h⟩ := bnd h
 refine WL.f2 ?_
 refine WL.f2 ?_
 refine WL.f2 ?_
 refine WL.eff (EO.callV3 (first := #[]) (cap := #[(pt g135 0), (pt g36 0)]) co25 rfl (f_ask_Read_1_60_19_100_ok (16 : Int) r130 (⟨r30.b, r195, r196⟩ : T_wire_Reader) _ _ _ _ _ hq35_0 (r201, r202, r203) hr204) (argsV1 rfl rfl)) rfl ?_
 rintro _ M205 _ hle206 ⟨_, ⟨rfl, rfl⟩, rfl⟩
 have hq35_0 := hq35_0.mono hle206
 have h0_1 := h0_1.mono hle206
 have hx48 := hx48.mono hle206
 refine WL.a3 ?_
 refine Pu (pt g37 7) (PO.fieldAddr fo28_7 hs164_7 rfl) rfl ?_
 refine WL.f5 ?_
 refine WL.eff (EO.storeL (v := (.int .i64 r187)) (vl := [(.int .i64 r187)]) (arr' := [(.int .i64 x38), (.int .i64 x39), (.int .i64 x40), (.string x149), (.string x161), (.string x162), (.bool x163), (.int .i64 r187), (.int .i64 x46), (.int .i64 x47), vx48, (.int .i64 x49), (.int .i64 x50), (.string x51), (.int .i64 x52.Broker), (.int .i64 x52.Epoch), (.int .i64 x52.High), (.bool x52.Fence), (.bool x52.Leave)]) rfl sz3 rfl rfl (onesOf (Ones.cons rfl Ones.nil)) rfl rfl (by kernel_rfl)) rfl ?_
 rintro _ _ _ - ⟨rfl, rfl⟩
 refine Pu (pt g37 8) (PO.fieldAddr fo28_8 hs164_7 rfl) rfl ?_
 refine WL.eff (EO.storeL (v := (.int .i64 r194)) (vl := [(.int .i64 r194)]) (arr' := [(.int .i64 x38), (.int .i64 x39), (.int .i64 x40), (.string x149), (.string x161), (.string x162), (.bool x163), (.int .i64 r187), (.int .i64 r194), (.int .i64 x47), vx48, (.int .i64 x49), (.int .i64 x50), (.string x51), (.int .i64 x52.Broker), (.int .i64 x52.Epoch), (.int .i64 x52.High), (.bool x52.Fence), (.bool x52.Leave)]) rfl sz3 rfl rfl (onesOf (Ones.cons rfl Ones.nil)) rfl rfl (by kernel_rfl)) rfl ?_
 rintro _ _ _ - ⟨rfl, rfl⟩
 refine Pu (pt g37 9) (PO.fieldAddr fo28_9 hs164_7 rfl) rfl ?_
 refine WL.eff (EO.storeL (v := (.int .i64 r201)) (vl := [(.int .i64 r201)]) (arr' := [(.int .i64 x38), (.int .i64 x39), (.int .i64 x40), (.string x149), (.string x161), (.string x162), (.bool x163), (.int .i64 r187), (.int .i64 r194), (.int .i64 r201), vx48, (.int .i64 x49), (.int .i64 x50), (.string x51), (.int .i64 x52.Broker), (.int .i64 x52.Epoch), (.int .i64 x52.High), (.bool x52.Fence), (.bool x52.Leave)]) rfl sz3 rfl rfl (onesOf (Ones.cons rfl Ones.nil)) rfl rfl (by kernel_rfl)) rfl ?_
 rintro _ _ _ - ⟨rfl, rfl⟩
 refine Ns ?_
 refine Pm (.func (.func 25) #[] #[(pt g135 0), (pt g36 0)]) rfl rfl ?_
 obtain ⟨⟨r208, r209, r210⟩, hr211, h⟩ := bnd h
 refine WL.f3 ?_
 refine WL.f3 ?_
 refine WL.f3 ?_
 refine WL.eff (EO.callV3 (first := #[]) (cap := #[(pt g135 0), (pt g36 0)]) co25 rfl (f_ask_Read_1_60_19_100_ok (64 : Int) r130 (⟨r30.b, r202, r203⟩ : T_wire_Reader) _ _ _ _ _ hq35_0 (r208, r209, r210) hr211) (argsV1 rfl rfl)) rfl ?_
 rintro _ M212 _ hle213 ⟨_, ⟨rfl, rfl⟩, rfl⟩
 have hq35_0 := hq35_0.mono hle213
 have h0_1 := h0_1.mono hle213
 have hx48 := hx48.mono hle213
 refine WL.a3 ?_
 refine Pm (.func (.func 25) #[] #[(pt g135 0), (pt g36 0)]) rfl rfl ?_
 obtain ⟨⟨r215, r216, r217⟩, hr218, h⟩ := bnd h
 refine WL.f2 ?_
 refine WL.f2 ?_
 refine WL.f2 ?_
 refine WL.eff (EO.callV3 (first := #[]) (cap := #[(pt g135 0), (pt g36 0)]) co25 rfl (f_ask_Read_1_60_19_100_ok (128 : Int) r130 (⟨r30.b, r209, r210⟩ : T_wire_Reader) _ _ _ _ _ hq35_0 (r215, r216, r217) hr218) (argsV1 rfl rfl)) rfl ?_
 rintro _ M219 _ hle220 ⟨_, ⟨rfl, rfl⟩, rfl⟩
 have hq35_0 := hq35_0.mono hle220
 have h0_1 := h0_1.mono hle220
 have hx48 := hx48.mono hle220
 refine WL.a3 ?_
 refine Pu (pt g37 11) (PO.fieldAddr fo28_11 hs164_7 rfl) rfl ?_
 refine WL.f3 ?_
 refine WL.eff (EO.storeL (v := (.int .i64 r208)) (vl := [(.int .i64 r208)]) (arr' := [(.int .i64 x38), (.int .i64 x39), (.int .i64 x40), (.string x149), (.string x161), (.string x162), (.bool x163), (.int .i64 r187), (.int .i64 r194), (.int .i64 r201), vx48, (.int .i64 r208), (.int .i64 x50), (.string x51), (.int .i64 x52.Broker), (.int .i64 x52.Epoch), (.int .i64 x52.High), (.bool x52.Fence), (.bool x52.Leave)]) rfl sz3 rfl rfl (onesOf (Ones.cons rfl Ones.nil)) rfl rfl (by kernel_rfl)) rfl ?_
 rintro _ _ _ - ⟨rfl, rfl⟩
 refine Pu (pt g37 12) (PO.fieldAddr fo28_12 hs164_7 rfl) rfl ?_
 refine WL.eff (EO.storeL (v := (.int .i64 r215)) (vl := [(.int .i64 r215)]) (arr' := [(.int .i64 x38), (.int .i64 x39), (.int .i64 x40), (.string x149), (.string x161), (.string x162), (.bool x163), (.int .i64 r187), (.int .i64 r194), (.int .i64 r201), vx48, (.int .i64 r208), (.int .i64 r215), (.string x51), (.int .i64 x52.Broker), (.int .i64 x52.Epoch), (.int .i64 x52.High), (.bool x52.Fence), (.bool x52.Leave)]) rfl sz3 rfl rfl (onesOf (Ones.cons rfl Ones.nil)) rfl rfl (by kernel_rfl)) rfl ?_
 rintro _ _ _ - ⟨rfl, rfl⟩
 refine Nt ?_
 obtain ⟨j225, hj225, h⟩ := bnd h
 refine WC.joinF (fun (p_ : ((List Int) × Int × GErr)) ρ' M' H' => match p_ with | (x222, x223, x224) => ∃ vx222 cx222, M219.le M' ∧ [(g37, .cells #[(.int .i64 x38), (.int .i64 x39), (.int .i64 x40), (.string x149), (.string x161), (.string x162), (.bool x163), (.int .i64 r187), (.int .i64 r194), (.int .i64 r201), vx222, (.int .i64 r208), (.int .i64 r215), (.string x51), (.int .i64 x52.Broker), (.int .i64 x52.Epoch), (.int .i64 x52.High), (.bool x52.Fence), (.bool x52.Leave)] 28 (0, 0))] :: [(g135, .cells #[(.int .i64 r130)] 3 (0, 0))] :: [(g34, .cells #[vq35_0, (.int .i64 x223), (GV x224)] 100 (0, 0))] :: [(g36, .cells #[(.func (.func 19) #[(pt g34 0)] #[])] 60 (0, 0))] :: [(g22, .cells z28_.toArray 28 (0, 0))] :: [(g21, .cells #[(.int .i64 a0.Kind), v0_1] 34 (0, 0))] :: cx222 :: F = H' ∧ ρ' 2 = (pt g22 0) ∧ ρ' 4 = (pt g34 0) ∧ ρ' 5 = (pt g36 0) ∧ ρ' 6 = (.func (.func 20) #[(pt g34 0)] #[]) ∧ ρ' 7 = (pt g37 0) ∧ ρ' 8 = (pt g135 0) ∧ OwnS (Kd.int .i64) M' vx222 x222 cx222) j225 ?_ ?_
 have h3225 := h
 have h := hj225
 refine Sr ?_
 refine Pu (.int .i64 r130) (PO.loadB 1 pl3 hs164_8 rfl rfl) rfl ?_
 refine Pu (.int .i64 (andI .i64 r130 (32 : Int))) (PO.and rfl rfl) rfl ?_
 refine Pu (.bool (decide ((andI .i64 r130 (32 : Int)) ≠ 0))) (PO.neq rfl rfl) rfl ?_
 refine Nt ?_
 refine WC.cond (b := decide ((andI .i64 r130 (32 : Int)) ≠ 0)) rfl (fun hb226 => ?_) (fun hb226 => ?_)
 have h := ite_t hb226 h
 refine WC.region ?_
 refine Pm (pt g34 0) hs164_4 rfl ?_
 obtain ⟨⟨r227, r228, r229⟩, hr230, h⟩ := bnd h
 refine WL.f2 ?_
 refine WL.eff (EO.call1 co26 (f_wire_Reader_Row_ok (⟨r30.b, r216, r217⟩ : T_wire_Reader) (7 : Int) (64 : Int) _ _ _ hq35_0 (r227, r228, r229) hr230) (args3 rfl rfl rfl)) rfl ?_
 rintro _ M231 _ hle232 ⟨_, ⟨vq233, cq233, rfl, rfl, hq233⟩, rfl⟩
 have hq35_0 := hq35_0.mono hle232
 have h0_1 := h0_1.mono hle232
 have hx48 := hx48.mono hle232
 refine WL.a2 ?_
 refine Pu (pt g37 10) (PO.fieldAddr fo28_10 hs164_7 rfl) rfl ?_
 refine WL.f2 ?_
 refine WL.eff (EO.storeL (v := vq233) (vl := [vq233]) (arr' := [(.int .i64 x38), (.int .i64 x39), (.int .i64 x40), (.string x149), (.string x161), (.string x162), (.bool x163), (.int .i64 r187), (.int .i64 r194), (.int .i64 r201), vq233, (.int .i64 r208), (.int .i64 r215), (.string x51), (.int .i64 x52.Broker), (.int .i64 x52.Epoch), (.int .i64 x52.High), (.bool x52.Fence), (.bool x52.Leave)]) hq233.cells sz24 rfl rfl (onesOf (Ones.cons (OwnS.one hq233) Ones.nil)) rfl rfl (by kernel_rfl)) rfl ?_
 rintro _ _ _ - ⟨rfl, rfl⟩
 refine WL.nil ?_
 refine WQ.f7 ?_
 refine WQ.drop ?_
 refine WQ.f2 ?_
 refine WQ.f6 ?_
 refine WQ.f6 ?_
 refine WQ.f6 ?_
 refine WQ.f5 ?_
 refine WQ.f6 ?_
 refine WQ.f6 ?_
 obtain rfl := Option.some.inj h
 refine WQ.thenJ ?_
 exact ⟨vq233, cq233, hle232, rfl, hs164_2, hs164_4, hs164_5, hs164_6, hs164_7, hs164_8, hq233⟩
 have h := ite_f hb226 h
 refine WC.skip ?_
 obtain rfl := Option.some.inj h
 refine WQ.thenJ ?_
 exact ⟨vx48, cx48, (IM.le.refl _), rfl, hs164_2, hs164_4, hs164_5, hs164_6, hs164_7, hs164_8, hx48⟩
 obtain ⟨x222, x223, x224⟩ := j225
 rintro ρ225 M225 H225 ⟨vx222, cx222, hle225, rfl, hs225_2, hs225_4, hs225_5, hs225_6, hs225_7, hs225_8, hx222⟩
 have hq35_0 := hq35_0.mono hle225
 have h0_1 := h0_1.mono hle225
 obtain ⟨j237, hj237, h⟩ := bnd h
 refine WC.joinF (fun (p_ : (ByteArray × Int × GErr)) ρ' M' H' => match p_ with | (x234, x235, x236) => M225.le M' ∧ [(g37, .cells #[(.int .i64 x38), (.int .i64 x39), (.int .i64 x40), (.string x149), (.string x161), (.string x162), (.bool x163), (.int .i64 r187), (.int .i64 r194), (.int .i64 r201), vx222, (.int .i64 r208), (.int .i64 r215), (.string x234), (.int .i64 x52.Broker), (.int .i64 x52.Epoch), (.int .i64 x52.High), (.bool x52.Fence), (.bool x52.Leave)] 28 (0, 0))] :: [(g135, .cells #[(.int .i64 r130)] 3 (0, 0))] :: [(g34, .cells #[vq35_0, (.int .i64 x235), (GV x236)] 100 (0, 0))] :: [(g36, .cells #[(.func (.func 19) #[(pt g34 0)] #[])] 60 (0, 0))] :: [(g22, .cells z28_.toArray 28 (0, 0))] :: [(g21, .cells #[(.int .i64 a0.Kind), v0_1] 34 (0, 0))] :: cx222 :: F = H' ∧ ρ' 2 = (pt g22 0) ∧ ρ' 4 = (pt g34 0) ∧ ρ' 5 = (pt g36 0) ∧ ρ' 6 = (.func (.func 20) #[(pt g34 0)] #[]) ∧ ρ' 7 = (pt g37 0) ∧ ρ' 8 = (pt g135 0)) j237 ?_ ?_
 have h3237 := h
 have h := hj237
 refine Sr ?_
 refine Pu (.int .i64 r130) (PO.loadB 1 pl3 hs225_8 rfl rfl) rfl ?_
 refine Pu (.int .i64 (andI .i64 r130 (256 : Int))) (PO.and rfl rfl) rfl ?_
 refine Pu (.bool (decide ((andI .i64 r130 (256 : Int)) ≠ 0))) (PO.neq rfl rfl) rfl ?_
 refine Nt ?_
 refine WC.cond (b := decide ((andI .i64 r130 (256 : Int)) ≠ 0)) rfl (fun hb238 => ?_) (fun hb238 => ?_)
 have h := ite_t hb238 h
 refine WC.region ?_
 refine Pm (pt g34 0) hs225_4 rfl ?_
 obtain ⟨⟨r239, r240, r241⟩, hr242, h⟩ := bnd h
 refine WL.f2 ?_
 refine WL.eff (EO.call1 co24 (f_wire_Reader_Text_ok (⟨r30.b, x223, x224⟩ : T_wire_Reader) (40 : Int) _ _ _ hq35_0 (r239, r240, r241) hr242) (args2 rfl rfl)) rfl ?_
 rintro _ M243 _ hle244 ⟨_, ⟨vq245, cq245, rfl, rfl, hq245⟩, rfl⟩
 have hx222 := hx222.mono hle244
 have hq35_0 := hq35_0.mono hle244
 have h0_1 := h0_1.mono hle244
 refine WL.a2 ?_
 refine Pu (.string (strOfNums r239)) (PO.b2s (ys := r239) Tryz.underlying22 Tryz.underlying5 Tryz.underlying9 rfl (hq245.src 1 rfl)) rfl ?_
 refine Pu (pt g37 13) (PO.fieldAddr fo28_13 hs225_7 rfl) rfl ?_
 refine WL.f2 ?_
 refine WL.eff (EO.storeL (v := (.string (strOfNums r239))) (vl := [(.string (strOfNums r239))]) (arr' := [(.int .i64 x38), (.int .i64 x39), (.int .i64 x40), (.string x149), (.string x161), (.string x162), (.bool x163), (.int .i64 r187), (.int .i64 r194), (.int .i64 r201), vx222, (.int .i64 r208), (.int .i64 r215), (.string (strOfNums r239)), (.int .i64 x52.Broker), (.int .i64 x52.Epoch), (.int .i64 x52.High), (.bool x52.Fence), (.bool x52.Leave)]) rfl sz9 rfl rfl (onesOf (Ones.cons rfl Ones.nil)) rfl rfl (by kernel_rfl)) rfl ?_
 rintro _ _ _ - ⟨rfl, rfl⟩
 refine WL.nil ?_
 refine WQ.f2 ?_
 refine WQ.drop ?_
 refine WQ.f6 ?_
 refine WQ.f6 ?_
 refine WQ.f6 ?_
 refine WQ.f6 ?_
 refine WQ.f5 ?_
 refine WQ.f6 ?_
 refine WQ.f6 ?_
 obtain rfl := Option.some.inj h
 refine WQ.thenJ ?_
 exact ⟨hle244, rfl, hs225_2, hs225_4, hs225_5, hs225_6, hs225_7, hs225_8⟩
 have h := ite_f hb238 h
 refine WC.skip ?_
 obtain rfl := Option.some.inj h
 refine WQ.thenJ ?_
 exact ⟨(IM.le.refl _), rfl, hs225_2, hs225_4, hs225_5, hs225_6, hs225_7, hs225_8⟩
 obtain ⟨x234, x235, x236⟩ := j237
 rintro ρ237 M237 H237 ⟨hle237, rfl, hs237_2, hs237_4, hs237_5, hs237_6, hs237_7, hs237_8⟩
 have hx222 := hx222.mono hle237
 have hq35_0 := hq35_0.mono hle237
 have h0_1 := h0_1.mono hle237
 obtain ⟨j253, hj253, h⟩ := bnd h
 refine WC.joinF (fun (p_ : (Int × Int × Int × Bool × Bool × Int × GErr)) ρ' M' H' => match p_ with | (x246, x247, x248, x249, x250, x251, x252) => M237.le M' ∧ [(g37, .cells #[(.int .i64 x38), (.int .i64 x39), (.int .i64 x40), (.string x149), (.string x161), (.string x162), (.bool x163), (.int .i64 r187), (.int .i64 r194), (.int .i64 r201), vx222, (.int .i64 r208), (.int .i64 r215), (.string x234), (.int .i64 x246), (.int .i64 x247), (.int .i64 x248), (.bool x249), (.bool x250)] 28 (0, 0))] :: [(g135, .cells #[(.int .i64 r130)] 3 (0, 0))] :: [(g34, .cells #[vq35_0, (.int .i64 x251), (GV x252)] 100 (0, 0))] :: [(g36, .cells #[(.func (.func 19) #[(pt g34 0)] #[])] 60 (0, 0))] :: [(g22, .cells z28_.toArray 28 (0, 0))] :: [(g21, .cells #[(.int .i64 a0.Kind), v0_1] 34 (0, 0))] :: cx222 :: F = H' ∧ ρ' 2 = (pt g22 0) ∧ ρ' 4 = (pt g34 0) ∧ ρ' 7 = (pt g37 0)) j253 ?_ ?_
 have h3253 := h
 have h := hj253
 refine Sr ?_
 refine Pu (.int .i64 r130) (PO.loadB 1 pl3 hs237_8 rfl rfl) rfl ?_
 refine Pu (.int .i64 (andI .i64 r130 (512 : Int))) (PO.and rfl rfl) rfl ?_
 refine Pu (.bool (decide ((andI .i64 r130 (512 : Int)) ≠ 0))) (PO.neq rfl rfl) rfl ?_
 refine Nt ?_
 refine WC.cond (b := decide ((andI .i64 r130 (512 : Int)) ≠ 0)) rfl (fun hb254 => ?_) (fun hb254 => ?_)
 have h := ite_t hb254 h
 refine WC.draw [0, 1, 0, 7, 0, 31, 0, 127, 0, 511, 1023, 2047, 4095] (.pure 0 (.pure 2 (.pure 4 (.pure 6 (.pure 8 (.alt 1 (.alt 3 (.alt 5 (.alt 7 (.alt 9 (.pure 10 (.pure 11 (.alt 12 .done .none))) .none) .none) .none) .none) .none)))))) mixed (by kernel_rfl) ?_
 refine Tp (.func (.func 19) #[(pt g34 0)] #[]) rfl (PO.loadB 3 pl60 hs237_5 rfl rfl) rfl ?_
 refine Tp (.func (.func 19) #[(pt g34 0)] #[]) rfl (PO.loadB 3 pl60 hs237_5 rfl rfl) rfl ?_
 refine Tp (.func (.func 19) #[(pt g34 0)] #[]) rfl (PO.loadB 3 pl60 hs237_5 rfl rfl) rfl ?_
 refine Tp (.func (.func 20) #[(pt g34 0)] #[]) rfl (PO.move hs237_6) rfl ?_
 refine Tp (.func (.func 20) #[(pt g34 0)] #[]) rfl (PO.move hs237_6) rfl ?_
 obtain ⟨⟨r255, r256, r257⟩, hr258, h⟩ := bnd h
 refine WT.f2 ?_
 refine WT.alt rfl (EO.callV1 (first := #[(pt g34 0)]) (cap := #[]) co19 rfl (f_wire_Reader_Int_ok (⟨r30.b, x235, x236⟩ : T_wire_Reader) (1073741824 : Int) _ _ _ hq35_0 (r255, r256, r257) hr258) (argsV1 rfl rfl)) rfl ?_ ?_
 rintro _ M259 _ hle260 ⟨_, ⟨rfl, rfl⟩, rfl⟩
 have hx222 := hx222.mono hle260
 have hq35_0 := hq35_0.mono hle260
 have h0_1 := h0_1.mono hle260
 refine ⟨(StabL.st (StabA.of rfl (PO.move hs237_6) rfl) (StabL.st (StabA.of rfl (PO.move hs237_6) rfl) (StabL.st (StabA.of rfl (PO.loadB 3 pl60 hs237_5 rfl rfl) rfl) (StabL.st (StabA.of rfl (PO.loadB 3 pl60 hs237_5 rfl rfl) rfl) (StabL.anc rfl trivial))))), ?_⟩
 refine WT.a1 ?_
 obtain ⟨⟨r262, r263, r264⟩, hr265, h⟩ := bnd h
 refine WT.alt rfl (EO.callV1 (first := #[(pt g34 0)]) (cap := #[]) co19 rfl (f_wire_Reader_Int_ok (⟨r30.b, r256, r257⟩ : T_wire_Reader) (1073741824 : Int) _ _ _ hq35_0 (r262, r263, r264) hr265) (argsV1 rfl rfl)) rfl ?_ ?_
 rintro _ M266 _ hle267 ⟨_, ⟨rfl, rfl⟩, rfl⟩
 have hx222 := hx222.mono hle267
 have hq35_0 := hq35_0.mono hle267
 have h0_1 := h0_1.mono hle267
 refine ⟨(StabL.st (StabA.of rfl (PO.move hs237_6) rfl) (StabL.st (StabA.of rfl (PO.move hs237_6) rfl) (StabL.st (StabA.of rfl (PO.loadB 3 pl60 hs237_5 rfl rfl) rfl) (StabL.anc rfl (StabL.anc rfl trivial))))), ?_⟩
 refine WT.a1 ?_
 obtain ⟨⟨r269, r270, r271⟩, hr272, h⟩ := bnd h
 refine WT.alt rfl (EO.callV1 (first := #[(pt g34 0)]) (cap := #[]) co19 rfl (f_wire_Reader_Int_ok (⟨r30.b, r263, r264⟩ : T_wire_Reader) (1073741824 : Int) _ _ _ hq35_0 (r269, r270, r271) hr272) (argsV1 rfl rfl)) rfl ?_ ?_
 rintro _ M273 _ hle274 ⟨_, ⟨rfl, rfl⟩, rfl⟩
 have hx222 := hx222.mono hle274
 have hq35_0 := hq35_0.mono hle274
 have h0_1 := h0_1.mono hle274
 refine ⟨(StabL.st (StabA.of rfl (PO.move hs237_6) rfl) (StabL.st (StabA.of rfl (PO.move hs237_6) rfl) (StabL.anc rfl (StabL.anc rfl (StabL.anc rfl trivial))))), ?_⟩
 refine WT.a1 ?_
 obtain ⟨⟨r276, r277, r278⟩, hr279, h⟩ := bnd h
 refine WT.alt rfl (EO.callV1 (first := #[(pt g34 0)]) (cap := #[]) co20 rfl (f_wire_Reader_Flag_ok (⟨r30.b, r270, r271⟩ : T_wire_Reader) _ _ _ hq35_0 (r276, r277, r278) hr279) (argsV0 rfl)) rfl ?_ ?_
 rintro _ M280 _ hle281 ⟨_, ⟨rfl, rfl⟩, rfl⟩
 have hx222 := hx222.mono hle281
 have hq35_0 := hq35_0.mono hle281
 have h0_1 := h0_1.mono hle281
 refine ⟨(StabL.st (StabA.of rfl (PO.move hs237_6) rfl) (StabL.anc rfl (StabL.anc rfl (StabL.anc rfl (StabL.anc rfl trivial))))), ?_⟩
 refine WT.a1 ?_
 obtain ⟨⟨r283, r284, r285⟩, hr286, h⟩ := bnd h
 refine WT.alt rfl (EO.callV1 (first := #[(pt g34 0)]) (cap := #[]) co20 rfl (f_wire_Reader_Flag_ok (⟨r30.b, r277, r278⟩ : T_wire_Reader) _ _ _ hq35_0 (r283, r284, r285) hr286) (argsV0 rfl)) rfl ?_ ?_
 rintro _ M287 _ hle288 ⟨_, ⟨rfl, rfl⟩, rfl⟩
 have hx222 := hx222.mono hle288
 have hq35_0 := hq35_0.mono hle288
 have h0_1 := h0_1.mono hle288
 refine ⟨(StabL.anc rfl (StabL.anc rfl (StabL.anc rfl (StabL.anc rfl (StabL.anc rfl trivial))))), ?_⟩
 refine WT.a1 ?_
 refine Tp (.agg #[(.int .i64 r255), (.int .i64 r262), (.int .i64 r269), (.bool r276), (.bool r283)]) rfl (PO.buildL (cl := [(.int .i64 r255), (.int .i64 r262), (.int .i64 r269), (.bool r276), (.bool r283)]) ze26 fp26 (Parts.cons (congrArg Value.cells (show ev _ _ = (.int .i64 r255) from rfl)) (Parts.cons (congrArg Value.cells (show ev _ _ = (.int .i64 r262) from rfl)) (Parts.cons (congrArg Value.cells (show ev _ _ = (.int .i64 r269) from rfl)) (Parts.cons (congrArg Value.cells (show ev _ _ = (.bool r276) from rfl)) (Parts.cons (congrArg Value.cells (show ev _ _ = (.bool r283) from rfl)) Parts.nil))))) rfl) rfl ?_
 refine Tp (pt g37 14) rfl (PO.fieldAddr fo28_14 hs237_7 rfl) rfl ?_
 refine WT.f1 ?_
 refine WT.alt rfl (EO.storeL (v := (.agg #[(.int .i64 r255), (.int .i64 r262), (.int .i64 r269), (.bool r276), (.bool r283)])) (vl := [(.int .i64 r255), (.int .i64 r262), (.int .i64 r269), (.bool r276), (.bool r283)]) (arr' := [(.int .i64 x38), (.int .i64 x39), (.int .i64 x40), (.string x149), (.string x161), (.string x162), (.bool x163), (.int .i64 r187), (.int .i64 r194), (.int .i64 r201), vx222, (.int .i64 r208), (.int .i64 r215), (.string x234), (.int .i64 r255), (.int .i64 r262), (.int .i64 r269), (.bool r276), (.bool r283)]) rfl sz26 rfl rfl (onesOf (Ones.cons rfl (Ones.cons rfl (Ones.cons rfl (Ones.cons rfl (Ones.cons rfl Ones.nil)))))) rfl rfl (by kernel_rfl)) rfl ?_ ?_
 rintro _ _ _ - ⟨rfl, rfl⟩
 refine ⟨(StabL.anc rfl (StabL.anc rfl (StabL.anc rfl (StabL.anc rfl (StabL.anc rfl (StabL.anc rfl (StabL.anc rfl trivial))))))), ?_⟩
 refine WT.fin ?_
 refine WQ.f6 ?_
 refine WQ.f6 ?_
 refine WQ.f6 ?_
 refine WQ.f6 ?_
 refine WQ.f5 ?_
 refine WQ.f6 ?_
 refine WQ.f6 ?_
 obtain rfl := Option.some.inj h
 refine WQ.thenJ ?_
 exact ⟨((((hle260.trans hle267).trans hle274).trans hle281).trans hle288), rfl, hs237_2, hs237_4, hs237_7⟩
 exact WT.no
 exact WT.no
 exact WT.no
 exact WT.no
 exact WT.no
 exact WT.no
 have h := ite_f hb254 h
 refine WC.skip ?_
 obtain rfl := Option.some.inj h
 refine WQ.thenJ ?_
 exact ⟨(IM.le.refl _), rfl, hs237_2, hs237_4, hs237_7⟩
 obtain ⟨x246, x247, x248, x249, x250, x251, x252⟩ := j253
 rintro ρ253 M253 H253 ⟨hle253, rfl, hs253_2, hs253_4, hs253_7⟩
 have hx222 := hx222.mono hle253
 have hq35_0 := hq35_0.mono hle253
 have h0_1 := h0_1.mono hle253
 refine WC.seq ?_
 refine Sr ?_
 refine Pm (pt g34 0) hs253_4 rfl ?_
 obtain ⟨⟨r290, r291⟩, hr292, h⟩ := bnd h
 refine WL.f2 ?_
 refine WL.eff (EO.call1 co27 (f_wire_Reader_End_ok (⟨r30.b, x251, x252⟩ : T_wire_Reader) _ _ _ hq35_0 (r290, r291) hr292) (args1 rfl)) rfl ?_
 rintro _ M293 _ hle294 ⟨_, ⟨rfl, rfl⟩, rfl⟩
 have hx222 := hx222.mono hle294
 have hq35_0 := hq35_0.mono hle294
 have h0_1 := h0_1.mono hle294
 refine WL.a1 ?_
 refine Pa (GV r290) rfl rfl ?_
 refine Ns ?_
 refine Pm (GV r290) rfl rfl ?_
 refine Pu (.bool (!r290.isNil)) (PO.errNotNil Tryz.underlying30 rfl) rfl ?_
 refine Nt ?_
 refine WC.cond (b := !r290.isNil) rfl (fun hb296 => ?_) (fun hb296 => ?_)
 have h := ite_t hb296 h
 refine Sr ?_
 refine Pu (.agg z28_.toArray) (PO.buildL (cl := z28_) ze28 fp28 Parts.nil rfl) rfl ?_
 refine Pm (GV r290) rfl rfl ?_
 refine WL.f4 ?_
 refine WL.eff (EO.storeL (v := (.agg z28_.toArray)) (vl := z28_) (arr' := z28_) rfl sz28 hs253_2 rfl (onesOf (Ones.cons rfl (Ones.cons rfl (Ones.cons rfl (Ones.cons rfl (Ones.cons rfl (Ones.cons rfl (Ones.cons rfl (Ones.cons rfl (Ones.cons rfl (Ones.cons rfl (Ones.cons rfl (Ones.cons rfl (Ones.cons rfl (Ones.cons rfl (Ones.cons rfl (Ones.cons rfl (Ones.cons rfl (Ones.cons rfl (Ones.cons rfl Ones.nil)))))))))))))))))))) rfl rfl (by kernel_rfl)) rfl ?_
 rintro _ _ _ - ⟨rfl, rfl⟩
 refine Pa (GV r290) rfl rfl ?_
 refine Nt ?_
 refine WC.ret ?_
 refine WQ.thenR ?_
 refine WQ.e0 ?_
 refine WQ.f2 ?_
 refine WQ.drop ?_
 refine WQ.f2 ?_
 refine WQ.drop ?_
 refine WQ.f2 ?_
 refine WQ.drop ?_
 refine WQ.f2 ?_
 refine WQ.drop ?_
 refine WQ.f2 ?_
 refine WQ.drop ?_
 refine WQ.f2 ?_
 refine WQ.drop ?_
 refine WQ.f1 ?_
 exact WQ.returnsD h [[]] (fun _ hs => hs.drop) (resultsLN rfl (RVs.cons (RV.cellA (cs := z28_) 0 ag28 sz28 hs253_2 rfl rfl) (RVs.cons (RV.tmp rfl) RVs.nil))) (((((((((((((hle33.trans hle55).trans hle133).trans hle150).trans hle164).trans hle192).trans hle199).trans hle206).trans hle213).trans hle220).trans hle225).trans hle237).trans hle253).trans hle294) ⟨(.slice none 0 0), [], rfl, rfl, (OwnS.nil _ _)⟩
 have h := ite_f hb296 h
 refine WC.skip ?_
 refine WQ.thenC ?_
 refine WC.seq ?_
 refine Sr ?_
 refine Pu (.agg #[(.int .i64 x38), (.int .i64 x39), (.int .i64 x40), (.string x149), (.string x161), (.string x162), (.bool x163), (.int .i64 r187), (.int .i64 r194), (.int .i64 r201), vx222, (.int .i64 r208), (.int .i64 r215), (.string x234), (.int .i64 x246), (.int .i64 x247), (.int .i64 x248), (.bool x249), (.bool x250)]) (PO.loadBA (cs := [(.int .i64 x38), (.int .i64 x39), (.int .i64 x40), (.string x149), (.string x161), (.string x162), (.bool x163), (.int .i64 r187), (.int .i64 r194), (.int .i64 r201), vx222, (.int .i64 r208), (.int .i64 r215), (.string x234), (.int .i64 x246), (.int .i64 x247), (.int .i64 x248), (.bool x249), (.bool x250)]) 1 ag28 sz28 hs253_7 rfl rfl) rfl ?_
 obtain ⟨r298, hr299, h⟩ := bnd h
 refine WL.f6 ?_
 refine WL.eff (EO.call1 co15 (Tri.lend fun w0_ H0_ hs0_ => (f_ask_Check_ok (⟨x38, x39, x40, x149, x161, x162, x163, r187, r194, r201, x222, r208, r215, x234, (⟨x246, x247, x248, x249, x250⟩ : T_api_Word)⟩ : T_api_Request) _ _ (hx222.rs hs0_) r298 hr299)) (args1 rfl)) rfl ?_
 rintro _ _ _ hle301 ⟨_, ⟨Ml303, Hl304, hll305, rfl, rfl, ⟨rfl, rfl⟩⟩, rfl⟩
 have hx222 := hx222.mono hle301
 have hq35_0 := hq35_0.mono hle301
 have h0_1 := h0_1.mono hle301
 refine WL.a1 ?_
 refine Pa (GV r298) rfl rfl ?_
 refine Ns ?_
 refine Pm (GV r298) rfl rfl ?_
 refine Pu (.bool (!r298.isNil)) (PO.errNotNil Tryz.underlying30 rfl) rfl ?_
 refine Nt ?_
 refine WC.cond (b := !r298.isNil) rfl (fun hb306 => ?_) (fun hb306 => ?_)
 have h := ite_t hb306 h
 refine Sr ?_
 refine Pu (.agg z28_.toArray) (PO.buildL (cl := z28_) ze28 fp28 Parts.nil rfl) rfl ?_
 refine Pm (GV r298) rfl rfl ?_
 refine WL.f5 ?_
 refine WL.eff (EO.storeL (v := (.agg z28_.toArray)) (vl := z28_) (arr' := z28_) rfl sz28 hs253_2 rfl (onesOf (Ones.cons rfl (Ones.cons rfl (Ones.cons rfl (Ones.cons rfl (Ones.cons rfl (Ones.cons rfl (Ones.cons rfl (Ones.cons rfl (Ones.cons rfl (Ones.cons rfl (Ones.cons rfl (Ones.cons rfl (Ones.cons rfl (Ones.cons rfl (Ones.cons rfl (Ones.cons rfl (Ones.cons rfl (Ones.cons rfl (Ones.cons rfl Ones.nil)))))))))))))))))))) rfl rfl (by kernel_rfl)) rfl ?_
 rintro _ _ _ - ⟨rfl, rfl⟩
 refine Pa (GV r298) rfl rfl ?_
 refine Nt ?_
 refine WC.ret ?_
 refine WQ.thenR ?_
 refine WQ.e0 ?_
 refine WQ.f2 ?_
 refine WQ.drop ?_
 refine WQ.f2 ?_
 refine WQ.drop ?_
 refine WQ.f2 ?_
 refine WQ.drop ?_
 refine WQ.f2 ?_
 refine WQ.drop ?_
 refine WQ.f2 ?_
 refine WQ.drop ?_
 refine WQ.f2 ?_
 refine WQ.drop ?_
 refine WQ.f1 ?_
 exact WQ.returnsD h [[]] (fun _ hs => hs.drop) (resultsLN rfl (RVs.cons (RV.cellA (cs := z28_) 0 ag28 sz28 hs253_2 rfl rfl) (RVs.cons (RV.tmp rfl) RVs.nil))) ((((((((((((((hle33.trans hle55).trans hle133).trans hle150).trans hle164).trans hle192).trans hle199).trans hle206).trans hle213).trans hle220).trans hle225).trans hle237).trans hle253).trans hle294).trans hle301) ⟨(.slice none 0 0), [], rfl, rfl, (OwnS.nil _ _)⟩
 have h := ite_f hb306 h
 refine WC.skip ?_
 refine WQ.thenC ?_
 refine Sr ?_
 refine Pu (.agg #[(.int .i64 x38), (.int .i64 x39), (.int .i64 x40), (.string x149), (.string x161), (.string x162), (.bool x163), (.int .i64 r187), (.int .i64 r194), (.int .i64 r201), vx222, (.int .i64 r208), (.int .i64 r215), (.string x234), (.int .i64 x246), (.int .i64 x247), (.int .i64 x248), (.bool x249), (.bool x250)]) (PO.loadBA (cs := [(.int .i64 x38), (.int .i64 x39), (.int .i64 x40), (.string x149), (.string x161), (.string x162), (.bool x163), (.int .i64 r187), (.int .i64 r194), (.int .i64 r201), vx222, (.int .i64 r208), (.int .i64 r215), (.string x234), (.int .i64 x246), (.int .i64 x247), (.int .i64 x248), (.bool x249), (.bool x250)]) 2 ag28 sz28 hs253_7 rfl rfl) rfl ?_
 refine WL.f5 ?_
 refine WL.eff (EO.storeL (v := (.agg #[(.int .i64 x38), (.int .i64 x39), (.int .i64 x40), (.string x149), (.string x161), (.string x162), (.bool x163), (.int .i64 r187), (.int .i64 r194), (.int .i64 r201), vx222, (.int .i64 r208), (.int .i64 r215), (.string x234), (.int .i64 x246), (.int .i64 x247), (.int .i64 x248), (.bool x249), (.bool x250)])) (vl := [(.int .i64 x38), (.int .i64 x39), (.int .i64 x40), (.string x149), (.string x161), (.string x162), (.bool x163), (.int .i64 r187), (.int .i64 r194), (.int .i64 r201), vx222, (.int .i64 r208), (.int .i64 r215), (.string x234), (.int .i64 x246), (.int .i64 x247), (.int .i64 x248), (.bool x249), (.bool x250)]) (arr' := [(.int .i64 x38), (.int .i64 x39), (.int .i64 x40), (.string x149), (.string x161), (.string x162), (.bool x163), (.int .i64 r187), (.int .i64 r194), (.int .i64 r201), vx222, (.int .i64 r208), (.int .i64 r215), (.string x234), (.int .i64 x246), (.int .i64 x247), (.int .i64 x248), (.bool x249), (.bool x250)]) rfl sz28 hs253_2 rfl (onesOf (Ones.cons rfl (Ones.cons rfl (Ones.cons rfl (Ones.cons rfl (Ones.cons rfl (Ones.cons rfl (Ones.cons rfl (Ones.cons rfl (Ones.cons rfl (Ones.cons rfl (Ones.cons (OwnS.one hx222) (Ones.cons rfl (Ones.cons rfl (Ones.cons rfl (Ones.cons rfl (Ones.cons rfl (Ones.cons rfl (Ones.cons rfl (Ones.cons rfl Ones.nil)))))))))))))))))))) rfl rfl (by kernel_rfl)) rfl ?_
 rintro _ _ _ - ⟨rfl, rfl⟩
 refine Pa (GV GErr.nil) rfl rfl ?_
 refine Nt ?_
 refine WC.ret ?_
 refine WQ.f2 ?_
 refine WQ.drop ?_
 refine WQ.f2 ?_
 refine WQ.drop ?_
 refine WQ.f2 ?_
 refine WQ.drop ?_
 refine WQ.f2 ?_
 refine WQ.drop ?_
 refine WQ.f2 ?_
 refine WQ.drop ?_
 exact WQ.returnsD h [cx222] (fun _ hs => hs.drop) (resultsLN rfl (RVs.cons (RV.cellA (cs := [(.int .i64 x38), (.int .i64 x39), (.int .i64 x40), (.string x149), (.string x161), (.string x162), (.bool x163), (.int .i64 r187), (.int .i64 r194), (.int .i64 r201), vx222, (.int .i64 r208), (.int .i64 r215), (.string x234), (.int .i64 x246), (.int .i64 x247), (.int .i64 x248), (.bool x249), (.bool x250)]) 0 ag28 sz28 hs253_2 rfl rfl) (RVs.cons (RV.tmp rfl) RVs.nil))) ((((((((((((((hle33.trans hle55).trans hle133).trans hle150).trans hle164).trans hle192).trans hle199).trans hle206).trans hle213).trans hle220).trans hle225).trans hle237).trans hle253).trans hle294).trans hle301) ⟨vx222, cx222, rfl, rfl, hx222⟩


end Go.Proofs.YtjgnbbakamellaaGreatDoor.G
