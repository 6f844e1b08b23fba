/- Go functions: what they come to, and that they do. Printed by a program of the session (gen). -/
import Derived.Test.YtjiffdgidodebaaGreatDoorPF
import Derived.Test.YtjiffdgidodebaaGreatDoorP6
import Derived.Test.YtjiffdgidodebaaGreatDoorKShar2
import Derived.Test.YtjiffdgidodebaaGreatDoorKConv
set_option linter.unusedVariables false
set_option linter.unusedSimpArgs false
set_option maxHeartbeats 8000000
set_option maxRecDepth 100000
namespace Go.Proofs.YtjiffdgidodebaaGreatDoor.G
open Go Go.KK

noncomputable def f_record_Read (a0 : T_wire_Reader) : Option (T_api_Record × Int × GErr) :=
  ((f_wire_Reader_Int a0 (63 : Int)).bind fun (r23, r24, r25) => ((((((f_wire_Reader_Err (⟨a0.b, r24, r25⟩ : T_wire_Reader)).bind fun (r35 : GErr) => (if r35.isNil = true then (if (decide (r23 < (1 : Int))) = true then (some true) else (some (decide ((12 : Int) < r23)))) else (some false))) : Option Bool).bind fun (x33 : Bool) => (if x33 = true then ((f_wire_Reader_Refuse (⟨a0.b, r24, r25⟩ : T_wire_Reader) (⟨#[107, 105, 110, 100]⟩ : ByteArray) (5 : Int)).bind fun (r43 : GErr) => (some r43)) else (some r25))) : Option GErr).bind fun (x31 : GErr) => ((f_record_about r23).bind fun (r47 : Int) => ((f_record_Read_1 (1 : Int) r47 (⟨a0.b, r24, x31⟩ : T_wire_Reader)).bind fun (r53, r54, r55) => ((f_record_Read_1 (2 : Int) r47 (⟨a0.b, r54, r55⟩ : T_wire_Reader)).bind fun (r60, r61, r62) => ((f_record_Read_1 (4 : Int) r47 (⟨a0.b, r61, r62⟩ : T_wire_Reader)).bind fun (r67, r68, r69) => ((f_record_Read_1 (8 : Int) r47 (⟨a0.b, r68, r69⟩ : T_wire_Reader)).bind fun (r74, r75, r76) => ((f_record_Read_1 (16 : Int) r47 (⟨a0.b, r75, r76⟩ : T_wire_Reader)).bind fun (r81, r82, r83) => ((f_record_Read_1 (32 : Int) r47 (⟨a0.b, r82, r83⟩ : T_wire_Reader)).bind fun (r88, r89, r90) => ((f_record_Read_1 (32 : Int) r47 (⟨a0.b, r89, r90⟩ : T_wire_Reader)).bind fun (r95, r96, r97) => ((f_record_Read_1 (32 : Int) r47 (⟨a0.b, r96, r97⟩ : T_wire_Reader)).bind fun (r102, r103, r104) => (((if (decide ((andI .i64 r47 (64 : Int)) ≠ (0 : Int))) = true then ((f_wire_Reader_Flag (⟨a0.b, r103, r104⟩ : T_wire_Reader)).bind fun (r114, r115, r116) => (some (r114, r115, r116))) else (some (false, r103, r104))) : Option (Bool × Int × GErr)).bind fun (x109, x110, x111) => ((f_record_Read_2 (128 : Int) r47 (⟨a0.b, x110, x111⟩ : T_wire_Reader)).bind fun (r121, r122, r123) => ((f_record_Read_2 (256 : Int) r47 (⟨a0.b, r122, r123⟩ : T_wire_Reader)).bind fun (r128, r129, r130) => ((f_record_Read_2 (512 : Int) r47 (⟨a0.b, r129, r130⟩ : T_wire_Reader)).bind fun (r135, r136, r137) => ((f_record_Read_2 (1024 : Int) r47 (⟨a0.b, r136, r137⟩ : T_wire_Reader)).bind fun (r142, r143, r144) => ((f_record_Read_3 (2048 : Int) r47 (⟨a0.b, r143, r144⟩ : T_wire_Reader)).bind fun (r149, r150, r151) => ((f_record_Read_3 (4096 : Int) r47 (⟨a0.b, r150, r151⟩ : T_wire_Reader)).bind fun (r156, r157, r158) => ((f_record_Read_3 (8192 : Int) r47 (⟨a0.b, r157, r158⟩ : T_wire_Reader)).bind fun (r163, r164, r165) => ((f_record_Read_3 (8192 : Int) r47 (⟨a0.b, r164, r165⟩ : T_wire_Reader)).bind fun (r170, r171, r172) => ((((f_wire_Reader_Err (⟨a0.b, r171, r172⟩ : T_wire_Reader)).bind fun (r179 : GErr) => (if r179.isNil = true then ((f_record_Check (⟨r23, r53, r60, r67, r74, r81, r88, r95, r102, x109, r121, r128, r135, r142, r149, r156, r163, r170⟩ : T_api_Record)).bind fun (r185 : GErr) => (if (!r185.isNil) = true then ((f_fault_Of r185).bind fun (r203 : Int) => ((f_wire_Reader_Refuse (⟨a0.b, r171, r172⟩ : T_wire_Reader) (⟨#[114, 101, 99, 111, 114, 100]⟩ : ByteArray) r203).bind fun (r208 : GErr) => (some r208))) else (some r172))) else (some r172))) : Option GErr).bind fun (x177 : GErr) => ((f_wire_Reader_Err (⟨a0.b, r171, x177⟩ : T_wire_Reader)).bind fun (r212 : GErr) => (if (!r212.isNil) = true then (some ((⟨(0 : Int), (0 : Int), (0 : Int), (0 : Int), (0 : Int), (0 : Int), (0 : Int), (0 : Int), (0 : Int), false, (⟨#[]⟩ : ByteArray), (⟨#[]⟩ : ByteArray), (⟨#[]⟩ : ByteArray), (⟨#[]⟩ : ByteArray), [], [], [], []⟩ : T_api_Record), r171, x177)) else (some ((⟨r23, r53, r60, r67, r74, r81, r88, r95, r102, x109, r121, r128, r135, r142, r149, r156, r163, r170⟩ : T_api_Record), r171, x177)))))))))))))))))))))))))
def f_record_Read_post (a0 : T_wire_Reader) (v0_0 : Value) (g0 : Nat) : (T_api_Record × Int × GErr) → Value → IM → HL → Prop :=
  fun (p_ : (T_api_Record × Int × GErr)) (v : Value) (M' : IM) (H' : HL) => match p_ with | (r0, r1, r2) => ∃ vz0_14 cz0_14 vz0_15 cz0_15 vz0_16 cz0_16 vz0_17 cz0_17, (.agg #[(.int .i64 r0.Kind), (.int .i64 r0.Broker), (.int .i64 r0.Epoch), (.int .i64 r0.Topic), (.int .i64 r0.Part), (.int .i64 r0.Leader), (.int .i64 r0.Client), (.int .i64 r0.Serial), (.int .i64 r0.Code), (.bool r0.Flag), (.string r0.Name), (.string r0.Key), (.string r0.Value), (.string r0.Rack), vz0_14, vz0_15, vz0_16, vz0_17]) = v ∧ H' = [[(g0, .cells #[v0_0, (.int .i64 r1), (GV r2)] 85 (0, 0))], cz0_14, cz0_15, cz0_16, cz0_17] ∧ OwnS (Kd.int .i64) M' vz0_14 r0.Ids cz0_14 ∧ OwnS (Kd.int .i64) M' vz0_15 r0.Isr cz0_15 ∧ OwnS (Kd.int .i64) M' vz0_16 r0.Add cz0_16 ∧ OwnS (Kd.int .i64) M' vz0_17 r0.Drop cz0_17
theorem f_record_Read_ok (a0 : T_wire_Reader) (M : IM) (v0_0 : Value) (g0 : Nat) (h0_0 : RS (Kd.int .u8) M v0_0 a0.b) (hE : Env M) (res : (T_api_Record × Int × GErr)) (h : f_record_Read a0 = some res) :
    Tri Tryz.prog 46 #[(pt g0 0)] M [[(g0, .cells #[v0_0, (.int .i64 a0.at_), (GV a0.err)] 85 (0, 0))]] (f_record_Read_post a0 v0_0 g0 res) := by
 unfold f_record_Read at h
 refine Tri.enter (fn := Tryz.f46) Tryz.func46 rfl (Nat.le_of_ble_eq_true rfl) ?_
 intro F ρ hρ
 refine Sr ?_
 refine WL.eff (EO.box (cs := #[(pt g0 0)]) (congrArg Value.cells (asE (pt g0 0) (hρ 0)))) rfl ?_
 rintro _ _ _ - ⟨rfl, g21, rfl, rfl⟩
 refine WL.eff (EO.alloc ze67 rfl) rfl ?_
 rintro _ _ _ - ⟨rfl, g22, rfl, rfl⟩
 refine Ns ?_
 refine Pu (pt g0 0) (PO.loadB 1 pl53 rfl rfl rfl) rfl ?_
 obtain ⟨⟨r23, r24, r25⟩, hr26, h⟩ := bnd h
 refine WL.f2 ?_
 refine WL.eff (EO.call1 co44 (f_wire_Reader_Int_ok a0 (63 : Int) _ _ _ h0_0 (r23, r24, r25) hr26) (args2 rfl rfl)) rfl ?_
 rintro _ M27 _ hle28 ⟨_, ⟨rfl, rfl⟩, rfl⟩
 have h0_0 := h0_0.mono hle28
 have hE := hE.mono hle28
 refine WL.a1 ?_
 refine Pu (.agg #[(.int .i64 r23), (.int .i64 0), (.int .i64 0), (.int .i64 0), (.int .i64 0), (.int .i64 0), (.int .i64 0), (.int .i64 0), (.int .i64 0), (.bool false), (.string ⟨#[]⟩), (.string ⟨#[]⟩), (.string ⟨#[]⟩), (.string ⟨#[]⟩), (.slice none 0 0), (.slice none 0 0), (.slice none 0 0), (.slice none 0 0)]) (PO.buildL (cl := [(.int .i64 r23), (.int .i64 0), (.int .i64 0), (.int .i64 0), (.int .i64 0), (.int .i64 0), (.int .i64 0), (.int .i64 0), (.int .i64 0), (.bool false), (.string ⟨#[]⟩), (.string ⟨#[]⟩), (.string ⟨#[]⟩), (.string ⟨#[]⟩), (.slice none 0 0), (.slice none 0 0), (.slice none 0 0), (.slice none 0 0)]) ze67 fp67 (Parts.cons (congrArg Value.cells (show ev _ _ = (.int .i64 r23) from rfl)) Parts.nil) rfl) rfl ?_
 refine WL.eff (EO.alloc ze67 rfl) rfl ?_
 rintro _ _ _ - ⟨rfl, g30, rfl, rfl⟩
 refine WL.eff (EO.storeL (v := (.agg #[(.int .i64 r23), (.int .i64 0), (.int .i64 0), (.int .i64 0), (.int .i64 0), (.int .i64 0), (.int .i64 0), (.int .i64 0), (.int .i64 0), (.bool false), (.string ⟨#[]⟩), (.string ⟨#[]⟩), (.string ⟨#[]⟩), (.string ⟨#[]⟩), (.slice none 0 0), (.slice none 0 0), (.slice none 0 0), (.slice none 0 0)])) (vl := [(.int .i64 r23), (.int .i64 0), (.int .i64 0), (.int .i64 0), (.int .i64 0), (.int .i64 0), (.int .i64 0), (.int .i64 0), (.int .i64 0), (.bool false), (.string ⟨#[]⟩), (.string ⟨#[]⟩), (.string ⟨#[]⟩), (.string ⟨#[]⟩), (.slice none 0 0), (.slice none 0 0), (.slice none 0 0), (.slice none 0 0)]) (arr' := [(.int .i64 r23), (.int .i64 0), (.int .i64 0), (.int .i64 0), (.int .i64 0), (.int .i64 0), (.int .i64 0), (.int .i64 0), (.int .i64 0), (.bool false), (.string ⟨#[]⟩), (.string ⟨#[]⟩), (.string ⟨#[]⟩), (.string ⟨#[]⟩), (.slice none 0 0), (.slice none 0 0), (.slice none 0 0), (.slice none 0 0)]) rfl sz67 rfl rfl (onesOf (Ones.cons rfl (Ones.cons rfl (Ones.cons rfl (Ones.cons rfl (Ones.cons rfl (Ones.cons rfl (Ones.cons rfl (Ones.cons rfl (Ones.cons rfl (Ones.cons rfl (Ones.cons rfl (Ones.cons rfl (Ones.cons rfl (Ones.cons rfl (Ones.cons rfl (Ones.cons rfl (Ones.cons rfl (Ones.cons rfl Ones.nil))))))))))))))))))) rfl rfl (by kernel_rfl)) rfl ?_
 rintro _ _ _ - ⟨rfl, rfl⟩
 refine Nt ?_
 obtain ⟨x31, hj32, h⟩ := bnd h
 refine WC.joinF (fun (x31 : GErr) ρ' M' H' => M27.le M' ∧ [(g30, .cells #[(.int .i64 r23), (.int .i64 0), (.int .i64 0), (.int .i64 0), (.int .i64 0), (.int .i64 0), (.int .i64 0), (.int .i64 0), (.int .i64 0), (.bool false), (.string ⟨#[]⟩), (.string ⟨#[]⟩), (.string ⟨#[]⟩), (.string ⟨#[]⟩), (.slice none 0 0), (.slice none 0 0), (.slice none 0 0), (.slice none 0 0)] 67 (0, 0))] :: [(g0, .cells #[v0_0, (.int .i64 r24), (GV x31)] 85 (0, 0))] :: [(g22, .cells z67_.toArray 67 (0, 0))] :: [(g21, .cells #[(pt g0 0)] 53 (0, 0))] :: F = H' ∧ ρ' 1 = (pt g21 0) ∧ ρ' 2 = (pt g22 0) ∧ ρ' 3 = (pt g30 0)) x31 ?_ ?_
 have h332 := h
 have h := hj32
 obtain ⟨x33, hj34, h⟩ := bnd h
 refine WC.joinF (fun (x33 : Bool) ρ' M' H' => M27.le M' ∧ [(g30, .cells #[(.int .i64 r23), (.int .i64 0), (.int .i64 0), (.int .i64 0), (.int .i64 0), (.int .i64 0), (.int .i64 0), (.int .i64 0), (.int .i64 0), (.bool false), (.string ⟨#[]⟩), (.string ⟨#[]⟩), (.string ⟨#[]⟩), (.string ⟨#[]⟩), (.slice none 0 0), (.slice none 0 0), (.slice none 0 0), (.slice none 0 0)] 67 (0, 0))] :: [(g0, .cells #[v0_0, (.int .i64 r24), (GV r25)] 85 (0, 0))] :: [(g22, .cells z67_.toArray 67 (0, 0))] :: [(g21, .cells #[(pt g0 0)] 53 (0, 0))] :: F = H' ∧ ρ' 1 = (pt g21 0) ∧ ρ' 2 = (pt g22 0) ∧ ρ' 3 = (pt g30 0) ∧ ρ' 24 = (.bool x33)) x33 ?_ ?_
 have h334 := h
 have h := hj34
 refine WC.region ?_
 refine Pu (pt g0 0) (PO.loadB 3 pl53 rfl rfl rfl) rfl ?_
 obtain ⟨r35, hr36, h⟩ := bnd h
 refine WL.f1 ?_
 refine WL.eff (EO.call1 co25 (f_wire_Reader_Err_ok (⟨a0.b, r24, r25⟩ : T_wire_Reader) _ _ _ h0_0 r35 hr36) (args1 rfl)) rfl ?_
 rintro _ M37 _ hle38 ⟨_, ⟨rfl, rfl⟩, rfl⟩
 have h0_0 := h0_0.mono hle38
 have hE := hE.mono hle38
 refine WL.a1 ?_
 refine Pu (.bool r35.isNil) (PO.errNil Tryz.underlying29 rfl) rfl ?_
 refine Pm (.bool r35.isNil) rfl rfl ?_
 rcases Bool.eq_false_or_eq_true (r35.isNil) with hb40 | hb40
 have h := ite_t hb40 h
 refine On 15 rfl rfl hb40 ?_
 refine Pu (pt g30 0) (PO.fieldAddr fo67_0 rfl rfl) rfl ?_
 refine On 15 rfl rfl hb40 ?_
 refine Pu (.int .i64 r23) (PO.loadB 1 pl3 rfl rfl rfl) rfl ?_
 refine On 15 rfl rfl hb40 ?_
 refine Pu (.bool (decide (r23 < 1))) (PO.lss rfl rfl) rfl ?_
 refine On 15 rfl rfl hb40 ?_
 refine Pm (.bool (decide (r23 < 1))) rfl rfl ?_
 rcases Bool.eq_false_or_eq_true (decide (r23 < 1)) with hb41 | hb41
 have h := ite_t hb41 h
 iterate 3 refine Of 19 rfl rfl hb41 rfl ?_
 refine On 15 rfl rfl hb40 ?_
 refine Pu (.bool true) (PO.pickT rfl hb41 rfl) rfl ?_
 refine Pu (.bool true) (PO.pickT rfl hb40 rfl) rfl ?_
 refine WL.nil ?_
 refine WQ.f3 ?_
 refine WQ.f3 ?_
 refine WQ.f2 ?_
 refine WQ.f3 ?_
 obtain rfl := Option.some.inj h
 refine WQ.thenJ ?_
 exact ⟨hle38, rfl, rfl, rfl, rfl, rfl⟩
 have h := ite_f hb41 h
 refine On 19 rfl rfl hb41 ?_
 refine Pu (pt g30 0) (PO.fieldAddr fo67_0 rfl rfl) rfl ?_
 refine On 19 rfl rfl hb41 ?_
 refine Pu (.int .i64 r23) (PO.loadB 1 pl3 rfl rfl rfl) rfl ?_
 refine On 19 rfl rfl hb41 ?_
 refine Pu (.bool (decide ((12 : Int) < r23))) (PO.gtr rfl rfl) rfl ?_
 refine On 15 rfl rfl hb40 ?_
 refine Pu (.bool (decide ((12 : Int) < r23))) (PO.pickF rfl hb41 rfl) rfl ?_
 refine Pu (.bool (decide ((12 : Int) < r23))) (PO.pickT rfl hb40 rfl) rfl ?_
 refine WL.nil ?_
 refine WQ.f3 ?_
 refine WQ.f3 ?_
 refine WQ.f2 ?_
 refine WQ.f3 ?_
 obtain rfl := Option.some.inj h
 refine WQ.thenJ ?_
 exact ⟨hle38, rfl, rfl, rfl, rfl, rfl⟩
 have h := ite_f hb40 h
 iterate 4 refine Of 15 rfl rfl hb40 rfl ?_
 refine WL.offU 19 rfl rfl rfl ?_
 refine WL.offU 19 rfl rfl rfl ?_
 refine WL.offU 19 rfl rfl rfl ?_
 refine Of 15 rfl rfl hb40 rfl ?_
 refine Pu (.bool false) (PO.pickF rfl hb40 rfl) rfl ?_
 refine WL.nil ?_
 refine WQ.f3 ?_
 refine WQ.f3 ?_
 refine WQ.f2 ?_
 refine WQ.f3 ?_
 obtain rfl := Option.some.inj h
 refine WQ.thenJ ?_
 exact ⟨hle38, rfl, rfl, rfl, rfl, rfl⟩
 rintro ρ34 M34 H34 ⟨hle34, rfl, hs34_1, hs34_2, hs34_3, hs34_24⟩
 have h0_0 := h0_0.mono hle34
 have hE := hE.mono hle34
 refine WC.cond (b := x33) hs34_24 (fun hb42 => ?_) (fun hb42 => ?_)
 have h := ite_t hb42 h
 refine WC.region ?_
 refine Pu (pt g0 0) (PO.loadB 3 pl53 hs34_1 rfl rfl) rfl ?_
 obtain ⟨r43, hr44, h⟩ := bnd h
 refine WL.f1 ?_
 refine WL.eff (EO.call1 co45 (f_wire_Reader_Refuse_ok (⟨a0.b, r24, r25⟩ : T_wire_Reader) (⟨#[107, 105, 110, 100]⟩ : ByteArray) (5 : Int) _ _ _ h0_0 r43 hr44) (args3 rfl rfl rfl)) rfl ?_
 rintro _ M45 _ hle46 ⟨_, ⟨rfl, rfl⟩, rfl⟩
 have h0_0 := h0_0.mono hle46
 have hE := hE.mono hle46
 refine WL.a1 ?_
 refine WL.nil ?_
 refine WQ.f3 ?_
 refine WQ.f3 ?_
 refine WQ.f2 ?_
 refine WQ.f3 ?_
 obtain rfl := Option.some.inj h
 refine WQ.thenJ ?_
 exact ⟨(hle34.trans hle46), rfl, hs34_1, hs34_2, hs34_3⟩
 have h := ite_f hb42 h
 refine WC.skip ?_
 obtain rfl := Option.some.inj h
 refine WQ.thenJ ?_
 exact ⟨hle34, rfl, hs34_1, hs34_2, hs34_3⟩
 rintro ρ32 M32 H32 ⟨hle32, rfl, hs32_1, hs32_2, hs32_3⟩
 have h0_0 := h0_0.mono hle32
 have hE := hE.mono hle32
 refine Sr ?_
 refine Pu (pt g30 0) (PO.fieldAddr fo67_0 hs32_3 rfl) rfl ?_
 refine Pu (.int .i64 r23) (PO.loadB 0 pl3 rfl rfl rfl) rfl ?_
 obtain ⟨r47, hr48, h⟩ := bnd h
 refine WL.eff (EO.call0 co54 (f_record_about_ok r23 _ r47 hr48) (args1 rfl)) rfl ?_
 rintro _ M49 _ hle50 ⟨_, ⟨rfl, rfl⟩, rfl⟩
 have h0_0 := h0_0.mono hle50
 have hE := hE.mono hle50
 refine WL.a0 ?_
 refine WL.eff (EO.alloc ze3 rfl) rfl ?_
 rintro _ _ _ - ⟨rfl, g52, rfl, rfl⟩
 refine WL.eff (EO.storeL (v := (.int .i64 r47)) (vl := [(.int .i64 r47)]) (arr' := [(.int .i64 r47)]) rfl sz3 rfl rfl (onesOf (Ones.cons rfl Ones.nil)) rfl rfl rfl) rfl ?_
 rintro _ _ _ - ⟨rfl, rfl⟩
 refine Ns ?_
 refine Pu (.func (.func 81) #[] #[(pt g52 0), (pt g21 0)]) (PO.makeFunc2 (args0) (args2 (show ev _ _ = (pt g52 0) from rfl) (asE (Value.pointer (some ⟨g21, 0, none⟩)) hs32_1))) rfl ?_
 refine Pa (.func (.func 81) #[] #[(pt g52 0), (pt g21 0)]) rfl rfl ?_
 refine Ns ?_
 refine Pm (.func (.func 81) #[] #[(pt g52 0), (pt g21 0)]) rfl rfl ?_
 obtain ⟨⟨r53, r54, r55⟩, hr56, h⟩ := bnd h
 refine WL.f4 ?_
 refine WL.f3 ?_
 refine WL.f2 ?_
 refine WL.eff (EO.callV3 (first := #[]) (cap := #[(pt g52 0), (pt g21 0)]) co81 rfl (f_record_Read_1_ok (1 : Int) r47 (⟨a0.b, r24, x31⟩ : T_wire_Reader) _ _ _ _ _ h0_0 (r53, r54, r55) hr56) (argsV1 rfl rfl)) rfl ?_
 rintro _ M57 _ hle58 ⟨_, ⟨rfl, rfl⟩, rfl⟩
 have h0_0 := h0_0.mono hle58
 have hE := hE.mono hle58
 refine WL.a3 ?_
 refine Pm (.func (.func 81) #[] #[(pt g52 0), (pt g21 0)]) rfl rfl ?_
 obtain ⟨⟨r60, r61, r62⟩, hr63, h⟩ := bnd h
 refine WL.f2 ?_
 refine WL.f2 ?_
 refine WL.f2 ?_
 refine WL.eff (EO.callV3 (first := #[]) (cap := #[(pt g52 0), (pt g21 0)]) co81 rfl (f_record_Read_1_ok (2 : Int) r47 (⟨a0.b, r54, r55⟩ : T_wire_Reader) _ _ _ _ _ h0_0 (r60, r61, r62) hr63) (argsV1 rfl rfl)) rfl ?_
 rintro _ M64 _ hle65 ⟨_, ⟨rfl, rfl⟩, rfl⟩
 have h0_0 := h0_0.mono hle65
 have hE := hE.mono hle65
 refine WL.a3 ?_
 refine Pm (.func (.func 81) #[] #[(pt g52 0), (pt g21 0)]) rfl rfl ?_
 obtain ⟨⟨r67, r68, r69⟩, hr70, h⟩ := bnd h
 refine WL.f2 ?_
 refine WL.f2 ?_
 refine WL.f2 ?_
 refine WL.eff (EO.callV3 (first := #[]) (cap := #[(pt g52 0), (pt g21 0)]) co81 rfl (f_record_Read_1_ok (4 : Int) r47 (⟨a0.b, r61, r62⟩ : T_wire_Reader) _ _ _ _ _ h0_0 (r67, r68, r69) hr70) (argsV1 rfl rfl)) rfl ?_
 rintro _ M71 _ hle72 ⟨_, ⟨rfl, rfl⟩, rfl⟩
 have h0_0 := h0_0.mono hle72
 have hE := hE.mono hle72
 refine WL.a3 ?_
 refine Pu (pt g30 1) (PO.fieldAddr fo67_1 hs32_3 rfl) rfl ?_
 refine WL.f3 ?_
 refine WL.eff (EO.storeL (v := (.int .i64 r53)) (vl := [(.int .i64 r53)]) (arr' := [(.int .i64 r23), (.int .i64 r53), (.int .i64 0), (.int .i64 0), (.int .i64 0), (.int .i64 0), (.int .i64 0), (.int .i64 0), (.int .i64 0), (.bool false), (.string ⟨#[]⟩), (.string ⟨#[]⟩), (.string ⟨#[]⟩), (.string ⟨#[]⟩), (.slice none 0 0), (.slice none 0 0), (.slice none 0 0), (.slice none 0 0)]) rfl sz3 rfl rfl (onesOf (Ones.cons rfl Ones.nil)) rfl rfl (by kernel_rfl)) rfl ?_
 rintro _ _ _ - ⟨rfl, rfl⟩
 refine Pu (pt g30 2) (PO.fieldAddr fo67_2 hs32_3 rfl) rfl ?_
 refine WL.eff (EO.storeL (v := (.int .i64 r60)) (vl := [(.int .i64 r60)]) (arr' := [(.int .i64 r23), (.int .i64 r53), (.int .i64 r60), (.int .i64 0), (.int .i64 0), (.int .i64 0), (.int .i64 0), (.int .i64 0), (.int .i64 0), (.bool false), (.string ⟨#[]⟩), (.string ⟨#[]⟩), (.string ⟨#[]⟩), (.string ⟨#[]⟩), (.slice none 0 0), (.slice none 0 0), (.slice none 0 0), (.slice none 0 0)]) rfl sz3 rfl rfl (onesOf (Ones.cons rfl Ones.nil)) rfl rfl (by kernel_rfl)) rfl ?_
 rintro _ _ _ - ⟨rfl, rfl⟩
 refine Pu (pt g30 3) (PO.fieldAddr fo67_3 hs32_3 rfl) rfl ?_
 refine WL.eff (EO.storeL (v := (.int .i64 r67)) (vl := [(.int .i64 r67)]) (arr' := [(.int .i64 r23), (.int .i64 r53), (.int .i64 r60), (.int .i64 r67), (.int .i64 0), (.int .i64 0), (.int .i64 0), (.int .i64 0), (.int .i64 0), (.bool false), (.string ⟨#[]⟩), (.string ⟨#[]⟩), (.string ⟨#[]⟩), (.string ⟨#[]⟩), (.slice none 0 0), (.slice none 0 0), (.slice none 0 0), (.slice none 0 0)]) rfl sz3 rfl rfl (onesOf (Ones.cons rfl Ones.nil)) rfl rfl (by kernel_rfl)) rfl ?_
 rintro _ _ _ - ⟨rfl, rfl⟩
 refine Ns ?_
 refine Pm (.func (.func 81) #[] #[(pt g52 0), (pt g21 0)]) rfl rfl ?_
 obtain ⟨⟨r74, r75, r76⟩, hr77, h⟩ := bnd h
 refine WL.f3 ?_
 refine WL.f3 ?_
 refine WL.f3 ?_
 refine WL.eff (EO.callV3 (first := #[]) (cap := #[(pt g52 0), (pt g21 0)]) co81 rfl (f_record_Read_1_ok (8 : Int) r47 (⟨a0.b, r68, r69⟩ : T_wire_Reader) _ _ _ _ _ h0_0 (r74, r75, r76) hr77) (argsV1 rfl rfl)) rfl ?_
 rintro _ M78 _ hle79 ⟨_, ⟨rfl, rfl⟩, rfl⟩
 have h0_0 := h0_0.mono hle79
 have hE := hE.mono hle79
 refine WL.a3 ?_
 refine Pm (.func (.func 81) #[] #[(pt g52 0), (pt g21 0)]) rfl rfl ?_
 obtain ⟨⟨r81, r82, r83⟩, hr84, h⟩ := bnd h
 refine WL.f2 ?_
 refine WL.f2 ?_
 refine WL.f2 ?_
 refine WL.eff (EO.callV3 (first := #[]) (cap := #[(pt g52 0), (pt g21 0)]) co81 rfl (f_record_Read_1_ok (16 : Int) r47 (⟨a0.b, r75, r76⟩ : T_wire_Reader) _ _ _ _ _ h0_0 (r81, r82, r83) hr84) (argsV1 rfl rfl)) rfl ?_
 rintro _ M85 _ hle86 ⟨_, ⟨rfl, rfl⟩, rfl⟩
 have h0_0 := h0_0.mono hle86
 have hE := hE.mono hle86
 refine WL.a3 ?_
 refine Pu (pt g30 4) (PO.fieldAddr fo67_4 hs32_3 rfl) rfl ?_
 refine WL.f3 ?_
 refine WL.eff (EO.storeL (v := (.int .i64 r74)) (vl := [(.int .i64 r74)]) (arr' := [(.int .i64 r23), (.int .i64 r53), (.int .i64 r60), (.int .i64 r67), (.int .i64 r74), (.int .i64 0), (.int .i64 0), (.int .i64 0), (.int .i64 0), (.bool false), (.string ⟨#[]⟩), (.string ⟨#[]⟩), (.string ⟨#[]⟩), (.string ⟨#[]⟩), (.slice none 0 0), (.slice none 0 0), (.slice none 0 0), (.slice none 0 0)]) rfl sz3 rfl rfl (onesOf (Ones.cons rfl Ones.nil)) rfl rfl (by kernel_rfl)) rfl ?_
 rintro _ _ _ - ⟨rfl, rfl⟩
 refine Pu (pt g30 5) (PO.fieldAddr fo67_5 hs32_3 rfl) rfl ?_
 refine WL.eff (EO.storeL (v := (.int .i64 r81)) (vl := [(.int .i64 r81)]) (arr' := [(.int .i64 r23), (.int .i64 r53), (.int .i64 r60), (.int .i64 r67), (.int .i64 r74), (.int .i64 r81), (.int .i64 0), (.int .i64 0), (.int .i64 0), (.bool false), (.string ⟨#[]⟩), (.string ⟨#[]⟩), (.string ⟨#[]⟩), (.string ⟨#[]⟩), (.slice none 0 0), (.slice none 0 0), (.slice none 0 0), (.slice none 0 0)]) rfl sz3 rfl rfl (onesOf (Ones.cons rfl Ones.nil)) rfl rfl (by kernel_rfl)) rfl ?_
 rintro _ _ _ - ⟨rfl, rfl⟩
 refine Ns ?_
 refine Pm (.func (.func 81) #[] #[(pt g52 0), (pt g21 0)]) rfl rfl ?_
 obtain ⟨⟨r88, r89, r90⟩, hr91, h⟩ := bnd h
 refine WL.f3 ?_
 refine WL.f3 ?_
 refine WL.f3 ?_
 refine WL.eff (EO.callV3 (first := #[]) (cap := #[(pt g52 0), (pt g21 0)]) co81 rfl (f_record_Read_1_ok (32 : Int) r47 (⟨a0.b, r82, r83⟩ : T_wire_Reader) _ _ _ _ _ h0_0 (r88, r89, r90) hr91) (argsV1 rfl rfl)) rfl ?_
 rintro _ M92 _ hle93 ⟨_, ⟨rfl, rfl⟩, rfl⟩
 have h0_0 := h0_0.mono hle93
 have hE := hE.mono hle93
 refine WL.a3 ?_
 refine Pm (.func (.func 81) #[] #[(pt g52 0), (pt g21 0)]) rfl rfl ?_
 obtain ⟨⟨r95, r96, r97⟩, hr98, h⟩ := bnd h
 refine WL.f2 ?_
 refine WL.f2 ?_
 refine WL.f2 ?_
 refine WL.eff (EO.callV3 (first := #[]) (cap := #[(pt g52 0), (pt g21 0)]) co81 rfl (f_record_Read_1_ok (32 : Int) r47 (⟨a0.b, r89, r90⟩ : T_wire_Reader) _ _ _ _ _ h0_0 (r95, r96, r97) hr98) (argsV1 rfl rfl)) rfl ?_
 rintro _ M99 _ hle100 ⟨_, ⟨rfl, rfl⟩, rfl⟩
 have h0_0 := h0_0.mono hle100
 have hE := hE.mono hle100
 refine WL.a3 ?_
 refine Pm (.func (.func 81) #[] #[(pt g52 0), (pt g21 0)]) rfl rfl ?_
 obtain ⟨⟨r102, r103, r104⟩, hr105, h⟩ := bnd h
 refine WL.f2 ?_
 refine WL.f2 ?_
 refine WL.f2 ?_
 refine WL.eff (EO.callV3 (first := #[]) (cap := #[(pt g52 0), (pt g21 0)]) co81 rfl (f_record_Read_1_ok (32 : Int) r47 (⟨a0.b, r96, r97⟩ : T_wire_Reader) _ _ _ _ _ h0_0 (r102, r103, r104) hr105) (argsV1 rfl rfl)) rfl ?_
 rintro _ M106 _ hle107 ⟨_, ⟨rfl, rfl⟩, rfl⟩
 have h0_0 := h0_0.mono hle107
 have hE := hE.mono hle107
 refine WL.a3 ?_
 refine Pu (pt g30 6) (PO.fieldAddr fo67_6 hs32_3 rfl) rfl ?_
 refine WL.f3 ?_
 refine WL.eff (EO.storeL (v := (.int .i64 r88)) (vl := [(.int .i64 r88)]) (arr' := [(.int .i64 r23), (.int .i64 r53), (.int .i64 r60), (.int .i64 r67), (.int .i64 r74), (.int .i64 r81), (.int .i64 r88), (.int .i64 0), (.int .i64 0), (.bool false), (.string ⟨#[]⟩), (.string ⟨#[]⟩), (.string ⟨#[]⟩), (.string ⟨#[]⟩), (.slice none 0 0), (.slice none 0 0), (.slice none 0 0), (.slice none 0 0)]) rfl sz3 rfl rfl (onesOf (Ones.cons rfl Ones.nil)) rfl rfl (by kernel_rfl)) rfl ?_
 rintro _ _ _ - ⟨rfl, rfl⟩
 refine Pu (pt g30 7) (PO.fieldAddr fo67_7 hs32_3 rfl) rfl ?_
 refine WL.eff (EO.storeL (v := (.int .i64 r95)) (vl := [(.int .i64 r95)]) (arr' := [(.int .i64 r23), (.int .i64 r53), (.int .i64 r60), (.int .i64 r67), (.int .i64 r74), (.int .i64 r81), (.int .i64 r88), (.int .i64 r95), (.int .i64 0), (.bool false), (.string ⟨#[]⟩), (.string ⟨#[]⟩), (.string ⟨#[]⟩), (.string ⟨#[]⟩), (.slice none 0 0), (.slice none 0 0), (.slice none 0 0), (.slice none 0 0)]) rfl sz3 rfl rfl (onesOf (Ones.cons rfl Ones.nil)) rfl rfl (by kernel_rfl)) rfl ?_
 rintro _ _ _ - ⟨rfl, rfl⟩
 refine Pu (pt g30 8) (PO.fieldAddr fo67_8 hs32_3 rfl) rfl ?_
 refine WL.eff (EO.storeL (v := (.int .i64 r102)) (vl := [(.int .i64 r102)]) (arr' := [(.int .i64 r23), (.int .i64 r53), (.int .i64 r60), (.int .i64 r67), (.int .i64 r74), (.int .i64 r81), (.int .i64 r88), (.int .i64 r95), (.int .i64 r102), (.bool false), (.string ⟨#[]⟩), (.string ⟨#[]⟩), (.string ⟨#[]⟩), (.string ⟨#[]⟩), (.slice none 0 0), (.slice none 0 0), (.slice none 0 0), (.slice none 0 0)]) rfl sz3 rfl rfl (onesOf (Ones.cons rfl Ones.nil)) rfl rfl (by kernel_rfl)) rfl ?_
 rintro _ _ _ - ⟨rfl, rfl⟩
 refine Nt ?_
 obtain ⟨j112, hj112, h⟩ := bnd h
 refine WC.joinF (fun (p_ : (Bool × Int × GErr)) ρ' M' H' => match p_ with | (x109, x110, x111) => M106.le M' ∧ [(g30, .cells #[(.int .i64 r23), (.int .i64 r53), (.int .i64 r60), (.int .i64 r67), (.int .i64 r74), (.int .i64 r81), (.int .i64 r88), (.int .i64 r95), (.int .i64 r102), (.bool x109), (.string ⟨#[]⟩), (.string ⟨#[]⟩), (.string ⟨#[]⟩), (.string ⟨#[]⟩), (.slice none 0 0), (.slice none 0 0), (.slice none 0 0), (.slice none 0 0)] 67 (0, 0))] :: [(g52, .cells #[(.int .i64 r47)] 3 (0, 0))] :: [(g0, .cells #[v0_0, (.int .i64 x110), (GV x111)] 85 (0, 0))] :: [(g21, .cells #[(pt g0 0)] 53 (0, 0))] :: [(g22, .cells z67_.toArray 67 (0, 0))] :: F = H' ∧ ρ' 1 = (pt g21 0) ∧ ρ' 2 = (pt g22 0) ∧ ρ' 3 = (pt g30 0) ∧ ρ' 4 = (pt g52 0)) j112 ?_ ?_
 have h3112 := h
 have h := hj112
 refine Sr ?_
 refine Pu (.int .i64 r47) (PO.loadB 1 pl3 rfl rfl rfl) rfl ?_
 refine Pu (.int .i64 (andI .i64 r47 (64 : Int))) (PO.and rfl rfl) rfl ?_
 refine Pu (.bool (decide ((andI .i64 r47 (64 : Int)) ≠ 0))) (PO.neq rfl rfl) rfl ?_
 refine Nt ?_
 refine WC.cond (b := decide ((andI .i64 r47 (64 : Int)) ≠ 0)) rfl (fun hb113 => ?_) (fun hb113 => ?_)
 have h := ite_t hb113 h
 refine WC.region ?_
 refine Pu (pt g0 0) (PO.loadB 3 pl53 hs32_1 rfl rfl) rfl ?_
 obtain ⟨⟨r114, r115, r116⟩, hr117, h⟩ := bnd h
 refine WL.f2 ?_
 refine WL.eff (EO.call1 co82 (f_wire_Reader_Flag_ok (⟨a0.b, r103, r104⟩ : T_wire_Reader) _ _ _ h0_0 (r114, r115, r116) hr117) (args1 rfl)) rfl ?_
 rintro _ M118 _ hle119 ⟨_, ⟨rfl, rfl⟩, rfl⟩
 have h0_0 := h0_0.mono hle119
 have hE := hE.mono hle119
 refine WL.a1 ?_
 refine Pu (pt g30 9) (PO.fieldAddr fo67_9 hs32_3 rfl) rfl ?_
 refine WL.f1 ?_
 refine WL.eff (EO.storeL (v := (.bool r114)) (vl := [(.bool r114)]) (arr' := [(.int .i64 r23), (.int .i64 r53), (.int .i64 r60), (.int .i64 r67), (.int .i64 r74), (.int .i64 r81), (.int .i64 r88), (.int .i64 r95), (.int .i64 r102), (.bool r114), (.string ⟨#[]⟩), (.string ⟨#[]⟩), (.string ⟨#[]⟩), (.string ⟨#[]⟩), (.slice none 0 0), (.slice none 0 0), (.slice none 0 0), (.slice none 0 0)]) rfl sz4 rfl rfl (onesOf (Ones.cons rfl Ones.nil)) rfl rfl (by kernel_rfl)) rfl ?_
 rintro _ _ _ - ⟨rfl, rfl⟩
 refine WL.nil ?_
 refine WQ.f4 ?_
 refine WQ.f4 ?_
 refine WQ.f3 ?_
 refine WQ.f4 ?_
 refine WQ.f4 ?_
 obtain rfl := Option.some.inj h
 refine WQ.thenJ ?_
 exact ⟨hle119, rfl, hs32_1, hs32_2, hs32_3, rfl⟩
 have h := ite_f hb113 h
 refine WC.skip ?_
 obtain rfl := Option.some.inj h
 refine WQ.thenJ ?_
 exact ⟨(IM.le.refl _), rfl, hs32_1, hs32_2, hs32_3, rfl⟩
 obtain ⟨x109, x110, x111⟩ := j112
 rintro ρ112 M112 H112 ⟨hle112, rfl, hs112_1, hs112_2, hs112_3, hs112_4⟩
 have h0_0 := h0_0.mono hle112
 have hE := hE.mono hle112
 refine Sr ?_
 refine Pu (.func (.func 83) #[] #[(pt g52 0), (pt g21 0)]) (PO.makeFunc2 (args0) (args2 (asE (Value.pointer (some ⟨g52, 0, none⟩)) hs112_4) (asE (Value.pointer (some ⟨g21, 0, none⟩)) hs112_1))) rfl ?_
 refine Pa (.func (.func 83) #[] #[(pt g52 0), (pt g21 0)]) rfl rfl ?_
 refine Ns ?_
 refine Pm (.func (.func 83) #[] #[(pt g52 0), (pt g21 0)]) rfl rfl ?_
 obtain ⟨⟨r121, r122, r123⟩, hr124, h⟩ := bnd h
 refine WL.f3 ?_
 refine WL.f3 ?_
 refine WL.f3 ?_
 refine WL.eff (EO.callV3 (first := #[]) (cap := #[(pt g52 0), (pt g21 0)]) co83 rfl (f_record_Read_2_ok (128 : Int) r47 (⟨a0.b, x110, x111⟩ : T_wire_Reader) _ _ _ _ _ h0_0 (r121, r122, r123) hr124) (argsV1 rfl rfl)) rfl ?_
 rintro _ M125 _ hle126 ⟨_, ⟨rfl, rfl⟩, rfl⟩
 have h0_0 := h0_0.mono hle126
 have hE := hE.mono hle126
 refine WL.a3 ?_
 refine Pm (.func (.func 83) #[] #[(pt g52 0), (pt g21 0)]) rfl rfl ?_
 obtain ⟨⟨r128, r129, r130⟩, hr131, h⟩ := bnd h
 refine WL.f2 ?_
 refine WL.f2 ?_
 refine WL.f2 ?_
 refine WL.eff (EO.callV3 (first := #[]) (cap := #[(pt g52 0), (pt g21 0)]) co83 rfl (f_record_Read_2_ok (256 : Int) r47 (⟨a0.b, r122, r123⟩ : T_wire_Reader) _ _ _ _ _ h0_0 (r128, r129, r130) hr131) (argsV1 rfl rfl)) rfl ?_
 rintro _ M132 _ hle133 ⟨_, ⟨rfl, rfl⟩, rfl⟩
 have h0_0 := h0_0.mono hle133
 have hE := hE.mono hle133
 refine WL.a3 ?_
 refine Pm (.func (.func 83) #[] #[(pt g52 0), (pt g21 0)]) rfl rfl ?_
 obtain ⟨⟨r135, r136, r137⟩, hr138, h⟩ := bnd h
 refine WL.f2 ?_
 refine WL.f2 ?_
 refine WL.f2 ?_
 refine WL.eff (EO.callV3 (first := #[]) (cap := #[(pt g52 0), (pt g21 0)]) co83 rfl (f_record_Read_2_ok (512 : Int) r47 (⟨a0.b, r129, r130⟩ : T_wire_Reader) _ _ _ _ _ h0_0 (r135, r136, r137) hr138) (argsV1 rfl rfl)) rfl ?_
 rintro _ M139 _ hle140 ⟨_, ⟨rfl, rfl⟩, rfl⟩
 have h0_0 := h0_0.mono hle140
 have hE := hE.mono hle140
 refine WL.a3 ?_
 refine Pm (.func (.func 83) #[] #[(pt g52 0), (pt g21 0)]) rfl rfl ?_
 obtain ⟨⟨r142, r143, r144⟩, hr145, h⟩ := bnd h
 refine WL.f2 ?_
 refine WL.f2 ?_
 refine WL.f2 ?_
 refine WL.eff (EO.callV3 (first := #[]) (cap := #[(pt g52 0), (pt g21 0)]) co83 rfl (f_record_Read_2_ok (1024 : Int) r47 (⟨a0.b, r136, r137⟩ : T_wire_Reader) _ _ _ _ _ h0_0 (r142, r143, r144) hr145) (argsV1 rfl rfl)) rfl ?_
 rintro _ M146 _ hle147 ⟨_, ⟨rfl, rfl⟩, rfl⟩
 have h0_0 := h0_0.mono hle147
 have hE := hE.mono hle147
 refine WL.a3 ?_
 refine Pu (pt g30 10) (PO.fieldAddr fo67_10 hs112_3 rfl) rfl ?_
 refine WL.f3 ?_
 refine WL.eff (EO.storeL (v := (.string r121)) (vl := [(.string r121)]) (arr' := [(.int .i64 r23), (.int .i64 r53), (.int .i64 r60), (.int .i64 r67), (.int .i64 r74), (.int .i64 r81), (.int .i64 r88), (.int .i64 r95), (.int .i64 r102), (.bool x109), (.string r121), (.string ⟨#[]⟩), (.string ⟨#[]⟩), (.string ⟨#[]⟩), (.slice none 0 0), (.slice none 0 0), (.slice none 0 0), (.slice none 0 0)]) rfl sz9 rfl rfl (onesOf (Ones.cons rfl Ones.nil)) rfl rfl (by kernel_rfl)) rfl ?_
 rintro _ _ _ - ⟨rfl, rfl⟩
 refine Pu (pt g30 11) (PO.fieldAddr fo67_11 hs112_3 rfl) rfl ?_
 refine WL.eff (EO.storeL (v := (.string r128)) (vl := [(.string r128)]) (arr' := [(.int .i64 r23), (.int .i64 r53), (.int .i64 r60), (.int .i64 r67), (.int .i64 r74), (.int .i64 r81), (.int .i64 r88), (.int .i64 r95), (.int .i64 r102), (.bool x109), (.string r121), (.string r128), (.string ⟨#[]⟩), (.string ⟨#[]⟩), (.slice none 0 0), (.slice none 0 0), (.slice none 0 0), (.slice none 0 0)]) rfl sz9 rfl rfl (onesOf (Ones.cons rfl Ones.nil)) rfl rfl (by kernel_rfl)) rfl ?_
 rintro _ _ _ - ⟨rfl, rfl⟩
 refine Pu (pt g30 12) (PO.fieldAddr fo67_12 hs112_3 rfl) rfl ?_
 refine WL.eff (EO.storeL (v := (.string r135)) (vl := [(.string r135)]) (arr' := [(.int .i64 r23), (.int .i64 r53), (.int .i64 r60), (.int .i64 r67), (.int .i64 r74), (.int .i64 r81), (.int .i64 r88), (.int .i64 r95), (.int .i64 r102), (.bool x109), (.string r121), (.string r128), (.string r135), (.string ⟨#[]⟩), (.slice none 0 0), (.slice none 0 0), (.slice none 0 0), (.slice none 0 0)]) rfl sz9 rfl rfl (onesOf (Ones.cons rfl Ones.nil)) rfl rfl (by kernel_rfl)) rfl ?_
 rintro _ _ _ - ⟨rfl, rfl⟩
 refine Pu (pt g30 13) (PO.fieldAddr fo67_13 hs112_3 rfl) rfl ?_
 refine WL.eff (EO.storeL (v := (.string r142)) (vl := [(.string r142)]) (arr' := [(.int .i64 r23), (.int .i64 r53), (.int .i64 r60), (.int .i64 r67), (.int .i64 r74), (.int .i64 r81), (.int .i64 r88), (.int .i64 r95), (.int .i64 r102), (.bool x109), (.string r121), (.string r128), (.string r135), (.string r142), (.slice none 0 0), (.slice none 0 0), (.slice none 0 0), (.slice none 0 0)]) rfl sz9 rfl rfl (onesOf (Ones.cons rfl Ones.nil)) rfl rfl (by kernel_rfl)) rfl ?_
 rintro _ _ _ - ⟨rfl, rfl⟩
 refine Ns ?_
 refine Pu (.func (.func 85) #[] #[(pt g52 0), (pt g21 0)]) (PO.makeFunc2 (args0) (args2 (asE (Value.pointer (some ⟨g52, 0, none⟩)) hs112_4) (asE (Value.pointer (some ⟨g21, 0, none⟩)) hs112_1))) rfl ?_
 refine Pa (.func (.func 85) #[] #[(pt g52 0), (pt g21 0)]) rfl rfl ?_
 refine Ns ?_
 refine Pm (.func (.func 85) #[] #[(pt g52 0), (pt g21 0)]) rfl rfl ?_
 obtain ⟨⟨r149, r150, r151⟩, hr152, h⟩ := bnd h
 refine WL.f3 ?_
 refine WL.f3 ?_
 refine WL.f3 ?_
 refine WL.eff (EO.callV3 (first := #[]) (cap := #[(pt g52 0), (pt g21 0)]) co85 rfl (f_record_Read_3_ok (2048 : Int) r47 (⟨a0.b, r143, r144⟩ : T_wire_Reader) _ _ _ _ _ h0_0 (r149, r150, r151) hr152) (argsV1 rfl rfl)) rfl ?_
 rintro _ M153 _ hle154 ⟨_, ⟨vq155, cq155, rfl, rfl, hq155⟩, rfl⟩
 have h0_0 := h0_0.mono hle154
 have hE := hE.mono hle154
 refine WL.a4 ?_
 refine Pm (.func (.func 85) #[] #[(pt g52 0), (pt g21 0)]) rfl rfl ?_
 obtain ⟨⟨r156, r157, r158⟩, hr159, h⟩ := bnd h
 refine WL.f2 ?_
 refine WL.f2 ?_
 refine WL.f2 ?_
 refine WL.eff (EO.callV3 (first := #[]) (cap := #[(pt g52 0), (pt g21 0)]) co85 rfl (f_record_Read_3_ok (4096 : Int) r47 (⟨a0.b, r150, r151⟩ : T_wire_Reader) _ _ _ _ _ h0_0 (r156, r157, r158) hr159) (argsV1 rfl rfl)) rfl ?_
 rintro _ M160 _ hle161 ⟨_, ⟨vq162, cq162, rfl, rfl, hq162⟩, rfl⟩
 have hq155 := hq155.mono hle161
 have h0_0 := h0_0.mono hle161
 have hE := hE.mono hle161
 refine WL.a4 ?_
 refine Pm (.func (.func 85) #[] #[(pt g52 0), (pt g21 0)]) rfl rfl ?_
 obtain ⟨⟨r163, r164, r165⟩, hr166, h⟩ := bnd h
 refine WL.f2 ?_
 refine WL.f2 ?_
 refine WL.f2 ?_
 refine WL.eff (EO.callV3 (first := #[]) (cap := #[(pt g52 0), (pt g21 0)]) co85 rfl (f_record_Read_3_ok (8192 : Int) r47 (⟨a0.b, r157, r158⟩ : T_wire_Reader) _ _ _ _ _ h0_0 (r163, r164, r165) hr166) (argsV1 rfl rfl)) rfl ?_
 rintro _ M167 _ hle168 ⟨_, ⟨vq169, cq169, rfl, rfl, hq169⟩, rfl⟩
 have hq155 := hq155.mono hle168
 have hq162 := hq162.mono hle168
 have h0_0 := h0_0.mono hle168
 have hE := hE.mono hle168
 refine WL.a4 ?_
 refine Pm (.func (.func 85) #[] #[(pt g52 0), (pt g21 0)]) rfl rfl ?_
 obtain ⟨⟨r170, r171, r172⟩, hr173, h⟩ := bnd h
 refine WL.f2 ?_
 refine WL.f2 ?_
 refine WL.f2 ?_
 refine WL.eff (EO.callV3 (first := #[]) (cap := #[(pt g52 0), (pt g21 0)]) co85 rfl (f_record_Read_3_ok (8192 : Int) r47 (⟨a0.b, r164, r165⟩ : T_wire_Reader) _ _ _ _ _ h0_0 (r170, r171, r172) hr173) (argsV1 rfl rfl)) rfl ?_
 rintro _ M174 _ hle175 ⟨_, ⟨vq176, cq176, rfl, rfl, hq176⟩, rfl⟩
 have hq155 := hq155.mono hle175
 have hq162 := hq162.mono hle175
 have hq169 := hq169.mono hle175
 have h0_0 := h0_0.mono hle175
 have hE := hE.mono hle175
 refine WL.a4 ?_
 refine Pu (pt g30 14) (PO.fieldAddr fo67_14 hs112_3 rfl) rfl ?_
 refine WL.f7 ?_
 refine WL.eff (EO.storeL (v := vq155) (vl := [vq155]) (arr' := [(.int .i64 r23), (.int .i64 r53), (.int .i64 r60), (.int .i64 r67), (.int .i64 r74), (.int .i64 r81), (.int .i64 r88), (.int .i64 r95), (.int .i64 r102), (.bool x109), (.string r121), (.string r128), (.string r135), (.string r142), vq155, (.slice none 0 0), (.slice none 0 0), (.slice none 0 0)]) hq155.cells sz65 rfl rfl (onesOf (Ones.cons (OwnS.one hq155) Ones.nil)) rfl rfl (by kernel_rfl)) rfl ?_
 rintro _ _ _ - ⟨rfl, rfl⟩
 refine Pu (pt g30 15) (PO.fieldAddr fo67_15 hs112_3 rfl) rfl ?_
 refine WL.eff (EO.storeL (v := vq162) (vl := [vq162]) (arr' := [(.int .i64 r23), (.int .i64 r53), (.int .i64 r60), (.int .i64 r67), (.int .i64 r74), (.int .i64 r81), (.int .i64 r88), (.int .i64 r95), (.int .i64 r102), (.bool x109), (.string r121), (.string r128), (.string r135), (.string r142), vq155, vq162, (.slice none 0 0), (.slice none 0 0)]) hq162.cells sz65 rfl rfl (onesOf (Ones.cons (OwnS.one hq162) Ones.nil)) rfl rfl (by kernel_rfl)) rfl ?_
 rintro _ _ _ - ⟨rfl, rfl⟩
 refine Pu (pt g30 16) (PO.fieldAddr fo67_16 hs112_3 rfl) rfl ?_
 refine WL.eff (EO.storeL (v := vq169) (vl := [vq169]) (arr' := [(.int .i64 r23), (.int .i64 r53), (.int .i64 r60), (.int .i64 r67), (.int .i64 r74), (.int .i64 r81), (.int .i64 r88), (.int .i64 r95), (.int .i64 r102), (.bool x109), (.string r121), (.string r128), (.string r135), (.string r142), vq155, vq162, vq169, (.slice none 0 0)]) hq169.cells sz65 rfl rfl (onesOf (Ones.cons (OwnS.one hq169) Ones.nil)) rfl rfl (by kernel_rfl)) rfl ?_
 rintro _ _ _ - ⟨rfl, rfl⟩
 refine Pu (pt g30 17) (PO.fieldAddr fo67_17 hs112_3 rfl) rfl ?_
 refine WL.eff (EO.storeL (v := vq176) (vl := [vq176]) (arr' := [(.int .i64 r23), (.int .i64 r53), (.int .i64 r60), (.int .i64 r67), (.int .i64 r74), (.int .i64 r81), (.int .i64 r88), (.int .i64 r95), (.int .i64 r102), (.bool x109), (.string r121), (.string r128), (.string r135), (.string r142), vq155, vq162, vq169, vq176]) hq176.cells sz65 rfl rfl (onesOf (Ones.cons (OwnS.one hq176) Ones.nil)) rfl rfl (by kernel_rfl)) rfl ?_
 rintro _ _ _ - ⟨rfl, rfl⟩
 refine Nt ?_
 obtain ⟨x177, hj178, h⟩ := bnd h
 refine WC.joinF (fun (x177 : GErr) ρ' M' H' => M174.le M' ∧ [(g30, .cells #[(.int .i64 r23), (.int .i64 r53), (.int .i64 r60), (.int .i64 r67), (.int .i64 r74), (.int .i64 r81), (.int .i64 r88), (.int .i64 r95), (.int .i64 r102), (.bool x109), (.string r121), (.string r128), (.string r135), (.string r142), vq155, vq162, vq169, vq176] 67 (0, 0))] :: [(g52, .cells #[(.int .i64 r47)] 3 (0, 0))] :: [(g0, .cells #[v0_0, (.int .i64 r171), (GV x177)] 85 (0, 0))] :: [(g21, .cells #[(pt g0 0)] 53 (0, 0))] :: [(g22, .cells z67_.toArray 67 (0, 0))] :: cq155 :: cq162 :: cq169 :: cq176 :: F = H' ∧ ρ' 1 = (pt g21 0) ∧ ρ' 2 = (pt g22 0) ∧ ρ' 3 = (pt g30 0)) x177 ?_ ?_
 have h3178 := h
 have h := hj178
 refine Sr ?_
 refine Pu (pt g0 0) (PO.loadB 3 pl53 hs112_1 rfl rfl) rfl ?_
 obtain ⟨r179, hr180, h⟩ := bnd h
 refine WL.f2 ?_
 refine WL.eff (EO.call1 co25 (f_wire_Reader_Err_ok (⟨a0.b, r171, r172⟩ : T_wire_Reader) _ _ _ h0_0 r179 hr180) (args1 rfl)) rfl ?_
 rintro _ M181 _ hle182 ⟨_, ⟨rfl, rfl⟩, rfl⟩
 have hq155 := hq155.mono hle182
 have hq162 := hq162.mono hle182
 have hq169 := hq169.mono hle182
 have hq176 := hq176.mono hle182
 have h0_0 := h0_0.mono hle182
 have hE := hE.mono hle182
 refine WL.a1 ?_
 refine Pu (.bool r179.isNil) (PO.errNil Tryz.underlying29 rfl) rfl ?_
 refine Nt ?_
 refine WC.cond (b := r179.isNil) rfl (fun hb184 => ?_) (fun hb184 => ?_)
 have h := ite_t hb184 h
 refine Sr ?_
 refine Pu (.agg #[(.int .i64 r23), (.int .i64 r53), (.int .i64 r60), (.int .i64 r67), (.int .i64 r74), (.int .i64 r81), (.int .i64 r88), (.int .i64 r95), (.int .i64 r102), (.bool x109), (.string r121), (.string r128), (.string r135), (.string r142), vq155, vq162, vq169, vq176]) (PO.loadBA (cs := [(.int .i64 r23), (.int .i64 r53), (.int .i64 r60), (.int .i64 r67), (.int .i64 r74), (.int .i64 r81), (.int .i64 r88), (.int .i64 r95), (.int .i64 r102), (.bool x109), (.string r121), (.string r128), (.string r135), (.string r142), vq155, vq162, vq169, vq176]) 1 ag67 sz67 hs112_3 rfl rfl) rfl ?_
 obtain ⟨r185, hr186, h⟩ := bnd h
 refine WL.f4 ?_
 refine WL.f5 ?_
 refine WL.f6 ?_
 refine WL.f7 ?_
 refine WL.eff (EO.call4 co32 (Tri.lend hq155.excl fun w0_ H0_ hs0_ => (Tri.lend hq162.excl fun w1_ H1_ hs1_ => (Tri.lend hq169.excl fun w2_ H2_ hs2_ => (Tri.lend hq176.excl fun w3_ H3_ hs3_ => (f_record_Check_ok (⟨r23, r53, r60, r67, r74, r81, r88, r95, r102, x109, r121, r128, r135, r142, r149, r156, r163, r170⟩ : T_api_Record) _ _ _ _ _ ((((hq155.rs hs0_).mono (IM.le_add _ _)).mono (IM.le_add _ _)).mono (IM.le_add _ _)) ((((hq162.mono (IM.le_add _ _)).rs hs1_).mono (IM.le_add _ _)).mono (IM.le_add _ _)) ((((hq169.mono (IM.le_add _ _)).mono (IM.le_add _ _)).rs hs2_).mono (IM.le_add _ _)) ((((hq176.mono (IM.le_add _ _)).mono (IM.le_add _ _)).mono (IM.le_add _ _)).rs hs3_) r185 hr186))))) (args1 rfl)) rfl ?_
 rintro _ _ _ hle188 ⟨_, ⟨Ml199, Hl200, hll201, rfl, rfl, ⟨Ml196, Hl197, hll198, rfl, rfl, ⟨Ml193, Hl194, hll195, rfl, rfl, ⟨Ml190, Hl191, hll192, rfl, rfl, ⟨rfl, rfl⟩⟩⟩⟩⟩, rfl⟩
 have hq155 := hq155.mono hle188
 have hq162 := hq162.mono hle188
 have hq169 := hq169.mono hle188
 have hq176 := hq176.mono hle188
 have h0_0 := h0_0.mono hle188
 have hE := hE.mono hle188
 refine WL.a4 ?_
 refine Pa (GV r185) rfl rfl ?_
 refine Ns ?_
 refine Pm (GV r185) rfl rfl ?_
 refine Pu (.bool (!r185.isNil)) (PO.errNotNil Tryz.underlying29 rfl) rfl ?_
 refine Nt ?_
 refine WC.cond (b := !r185.isNil) rfl (fun hb202 => ?_) (fun hb202 => ?_)
 have h := ite_t hb202 h
 refine WC.draw [0, 0, 2, 7] (.pure 0 (.pure 1 (.alt 2 (.alt 3 .done .none) .none))) mixed (by kernel_rfl) ?_
 refine Tp (pt g0 0) rfl (PO.loadB 7 pl53 hs112_1 rfl rfl) rfl ?_
 refine Tp (GV r185) rfl (PO.move rfl) rfl ?_
 obtain ⟨r203, hr204, h⟩ := bnd h
 refine WT.alt rfl (EO.call0 co24 (f_fault_Of_ok r185 _ hE r203 hr204) (args1 rfl)) rfl ?_ ?_
 rintro _ M205 _ hle206 ⟨_, ⟨rfl, rfl⟩, rfl⟩
 have hq155 := hq155.mono hle206
 have hq162 := hq162.mono hle206
 have hq169 := hq169.mono hle206
 have hq176 := hq176.mono hle206
 have h0_0 := h0_0.mono hle206
 have hE := hE.mono hle206
 refine ⟨(StabL.anc rfl (StabL.st (StabA.of rfl (PO.loadB 7 pl53 hs112_1 rfl rfl) rfl) trivial)), ?_⟩
 refine WT.a0 ?_
 obtain ⟨r208, hr209, h⟩ := bnd h
 refine WT.f4 ?_
 refine WT.alt rfl (EO.call1 co45 (f_wire_Reader_Refuse_ok (⟨a0.b, r171, r172⟩ : T_wire_Reader) (⟨#[114, 101, 99, 111, 114, 100]⟩ : ByteArray) r203 _ _ _ h0_0 r208 hr209) (args3 rfl rfl rfl)) rfl ?_ ?_
 rintro _ M210 _ hle211 ⟨_, ⟨rfl, rfl⟩, rfl⟩
 have hq155 := hq155.mono hle211
 have hq162 := hq162.mono hle211
 have hq169 := hq169.mono hle211
 have hq176 := hq176.mono hle211
 have h0_0 := h0_0.mono hle211
 have hE := hE.mono hle211
 refine ⟨(StabL.anc rfl (StabL.anc rfl trivial)), ?_⟩
 refine WT.a1 ?_
 refine WT.fin ?_
 refine WQ.f4 ?_
 refine WQ.f4 ?_
 refine WQ.f4 ?_
 refine WQ.f4 ?_
 refine WQ.f8 ?_
 refine WQ.f8 ?_
 refine WQ.f6 ?_
 refine WQ.f8 ?_
 refine WQ.f8 ?_
 obtain rfl := Option.some.inj h
 refine WQ.thenJ ?_
 exact ⟨(((hle182.trans hle188).trans hle206).trans hle211), rfl, hs112_1, hs112_2, hs112_3⟩
 exact WT.no
 exact WT.no
 have h := ite_f hb202 h
 refine WC.skip ?_
 refine WQ.f3 ?_
 refine WQ.f3 ?_
 refine WQ.f3 ?_
 refine WQ.f3 ?_
 refine WQ.f8 ?_
 refine WQ.f8 ?_
 refine WQ.f6 ?_
 refine WQ.f8 ?_
 refine WQ.f8 ?_
 obtain rfl := Option.some.inj h
 refine WQ.thenJ ?_
 exact ⟨(hle182.trans hle188), rfl, hs112_1, hs112_2, hs112_3⟩
 have h := ite_f hb184 h
 refine WC.skip ?_
 refine WQ.f4 ?_
 refine WQ.f5 ?_
 refine WQ.f6 ?_
 refine WQ.f7 ?_
 refine WQ.f8 ?_
 refine WQ.f8 ?_
 refine WQ.f6 ?_
 refine WQ.f8 ?_
 refine WQ.f8 ?_
 obtain rfl := Option.some.inj h
 refine WQ.thenJ ?_
 exact ⟨hle182, rfl, hs112_1, hs112_2, hs112_3⟩
 rintro ρ178 M178 H178 ⟨hle178, rfl, hs178_1, hs178_2, hs178_3⟩
 have hq155 := hq155.mono hle178
 have hq162 := hq162.mono hle178
 have hq169 := hq169.mono hle178
 have hq176 := hq176.mono hle178
 have h0_0 := h0_0.mono hle178
 have hE := hE.mono hle178
 refine WC.seq ?_
 refine Sr ?_
 refine Pu (pt g0 0) (PO.loadB 3 pl53 hs178_1 rfl rfl) rfl ?_
 obtain ⟨r212, hr213, h⟩ := bnd h
 refine WL.f2 ?_
 refine WL.eff (EO.call1 co25 (f_wire_Reader_Err_ok (⟨a0.b, r171, x177⟩ : T_wire_Reader) _ _ _ h0_0 r212 hr213) (args1 rfl)) rfl ?_
 rintro _ M214 _ hle215 ⟨_, ⟨rfl, rfl⟩, rfl⟩
 have hq155 := hq155.mono hle215
 have hq162 := hq162.mono hle215
 have hq169 := hq169.mono hle215
 have hq176 := hq176.mono hle215
 have h0_0 := h0_0.mono hle215
 have hE := hE.mono hle215
 refine WL.a1 ?_
 refine Pu (.bool (!r212.isNil)) (PO.errNotNil Tryz.underlying29 rfl) rfl ?_
 refine Nt ?_
 refine WC.cond (b := !r212.isNil) rfl (fun hb217 => ?_) (fun hb217 => ?_)
 have h := ite_t hb217 h
 refine Sr ?_
 refine Pu (.agg z67_.toArray) (PO.buildL (cl := z67_) ze67 fp67 Parts.nil rfl) rfl ?_
 refine WL.f4 ?_
 refine WL.eff (EO.storeL (v := (.agg z67_.toArray)) (vl := z67_) (arr' := z67_) rfl sz67 hs178_2 rfl (onesOf (Ones.cons rfl (Ones.cons rfl (Ones.cons rfl (Ones.cons rfl (Ones.cons rfl (Ones.cons rfl (Ones.cons rfl (Ones.cons rfl (Ones.cons rfl (Ones.cons rfl (Ones.cons rfl (Ones.cons rfl (Ones.cons rfl (Ones.cons rfl (Ones.cons rfl (Ones.cons rfl (Ones.cons rfl (Ones.cons rfl Ones.nil))))))))))))))))))) rfl rfl (by kernel_rfl)) rfl ?_
 rintro _ _ _ - ⟨rfl, rfl⟩
 refine Nt ?_
 refine WC.ret ?_
 refine WQ.thenR ?_
 refine WQ.e0 ?_
 refine WQ.e0 ?_
 refine WQ.e0 ?_
 refine WQ.e0 ?_
 refine WQ.f6 ?_
 refine WQ.drop ?_
 refine WQ.f6 ?_
 refine WQ.drop ?_
 refine WQ.f6 ?_
 refine WQ.drop ?_
 refine WQ.f6 ?_
 refine WQ.drop ?_
 refine WQ.f6 ?_
 refine WQ.drop ?_
 refine WQ.f6 ?_
 refine WQ.drop ?_
 refine WQ.f6 ?_
 refine WQ.drop ?_
 refine WQ.f1 ?_
 refine WQ.f2 ?_
 refine WQ.f3 ?_
 refine WQ.f5 ?_
 refine WQ.f5 ?_
 exact WQ.returnsD h [[(g0, .cells #[v0_0, (.int .i64 r171), (GV x177)] 85 (0, 0))], [], [], [], []] (fun _ hs => hs.drop) (resultsL1 rfl (RV.cellA (cs := z67_) 0 ag67 sz67 hs178_2 rfl rfl)) (((((((((((((((((((((hle28.trans hle32).trans hle50).trans hle58).trans hle65).trans hle72).trans hle79).trans hle86).trans hle93).trans hle100).trans hle107).trans hle112).trans hle126).trans hle133).trans hle140).trans hle147).trans hle154).trans hle161).trans hle168).trans hle175).trans hle178).trans hle215) ⟨(.slice none 0 0), [], (.slice none 0 0), [], (.slice none 0 0), [], (.slice none 0 0), [], rfl, rfl, (OwnS.nil _ _), (OwnS.nil _ _), (OwnS.nil _ _), (OwnS.nil _ _)⟩
 have h := ite_f hb217 h
 refine WC.skip ?_
 refine WQ.thenC ?_
 refine Sr ?_
 refine Pu (.agg #[(.int .i64 r23), (.int .i64 r53), (.int .i64 r60), (.int .i64 r67), (.int .i64 r74), (.int .i64 r81), (.int .i64 r88), (.int .i64 r95), (.int .i64 r102), (.bool x109), (.string r121), (.string r128), (.string r135), (.string r142), vq155, vq162, vq169, vq176]) (PO.loadBA (cs := [(.int .i64 r23), (.int .i64 r53), (.int .i64 r60), (.int .i64 r67), (.int .i64 r74), (.int .i64 r81), (.int .i64 r88), (.int .i64 r95), (.int .i64 r102), (.bool x109), (.string r121), (.string r128), (.string r135), (.string r142), vq155, vq162, vq169, vq176]) 1 ag67 sz67 hs178_3 rfl rfl) rfl ?_
 refine WL.f4 ?_
 refine WL.eff (EO.storeL (v := (.agg #[(.int .i64 r23), (.int .i64 r53), (.int .i64 r60), (.int .i64 r67), (.int .i64 r74), (.int .i64 r81), (.int .i64 r88), (.int .i64 r95), (.int .i64 r102), (.bool x109), (.string r121), (.string r128), (.string r135), (.string r142), vq155, vq162, vq169, vq176])) (vl := [(.int .i64 r23), (.int .i64 r53), (.int .i64 r60), (.int .i64 r67), (.int .i64 r74), (.int .i64 r81), (.int .i64 r88), (.int .i64 r95), (.int .i64 r102), (.bool x109), (.string r121), (.string r128), (.string r135), (.string r142), vq155, vq162, vq169, vq176]) (arr' := [(.int .i64 r23), (.int .i64 r53), (.int .i64 r60), (.int .i64 r67), (.int .i64 r74), (.int .i64 r81), (.int .i64 r88), (.int .i64 r95), (.int .i64 r102), (.bool x109), (.string r121), (.string r128), (.string r135), (.string r142), vq155, vq162, vq169, vq176]) rfl sz67 hs178_2 rfl (onesOf (Ones.cons rfl (Ones.cons rfl (Ones.cons rfl (Ones.cons rfl (Ones.cons rfl (Ones.cons rfl (Ones.cons rfl (Ones.cons rfl (Ones.cons rfl (Ones.cons rfl (Ones.cons rfl (Ones.cons rfl (Ones.cons rfl (Ones.cons rfl (Ones.cons (OwnS.one hq155) (Ones.cons (OwnS.one hq162) (Ones.cons (OwnS.one hq169) (Ones.cons (OwnS.one hq176) Ones.nil))))))))))))))))))) rfl rfl (by kernel_rfl)) rfl ?_
 rintro _ _ _ - ⟨rfl, rfl⟩
 refine Nt ?_
 refine WC.ret ?_
 refine WQ.f2 ?_
 refine WQ.drop ?_
 refine WQ.f2 ?_
 refine WQ.drop ?_
 refine WQ.f2 ?_
 refine WQ.drop ?_
 exact WQ.returnsD h [[(g0, .cells #[v0_0, (.int .i64 r171), (GV x177)] 85 (0, 0))], cq155, cq162, cq169, cq176] (fun _ hs => hs.drop) (resultsL1 rfl (RV.cellA (cs := [(.int .i64 r23), (.int .i64 r53), (.int .i64 r60), (.int .i64 r67), (.int .i64 r74), (.int .i64 r81), (.int .i64 r88), (.int .i64 r95), (.int .i64 r102), (.bool x109), (.string r121), (.string r128), (.string r135), (.string r142), vq155, vq162, vq169, vq176]) 0 ag67 sz67 hs178_2 rfl rfl)) (((((((((((((((((((((hle28.trans hle32).trans hle50).trans hle58).trans hle65).trans hle72).trans hle79).trans hle86).trans hle93).trans hle100).trans hle107).trans hle112).trans hle126).trans hle133).trans hle140).trans hle147).trans hle154).trans hle161).trans hle168).trans hle175).trans hle178).trans hle215) ⟨vq155, cq155, vq162, cq162, vq169, cq169, vq176, cq176, rfl, rfl, hq155, hq162, hq169, hq176⟩


end Go.Proofs.YtjiffdgidodebaaGreatDoor.G
