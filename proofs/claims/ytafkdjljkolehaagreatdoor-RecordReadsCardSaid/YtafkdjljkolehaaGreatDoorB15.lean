/- Go functions: what they come to, and that they do. Printed by a program of the session (gen). -/
import Derived.Test.YtafkdjljkolehaaGreatDoorBF
import Derived.Test.YtafkdjljkolehaaGreatDoorB14
import Derived.Test.YtafkdjljkolehaaGreatDoorKConv
set_option linter.unusedVariables false
set_option linter.unusedSimpArgs false
set_option maxHeartbeats 8000000
set_option maxRecDepth 100000
namespace Go.Proofs.YtafkdjljkolehaaGreatDoor.G
open Go Go.KK

noncomputable def f_ref05_Read (a0 : T_ref05_Cursor) : Option (T_api_Record × Int × Int × ByteArray × Int) :=
  ((f_ref05_Cursor_Int a0 (63 : Int)).bind fun (r23, r24, r25, r26, r27) => (((((if (decide (r25 = (0 : Int))) = true then (if (decide (r23 < (1 : Int))) = true then (some true) else (some (decide ((12 : Int) < r23)))) else (some false)) : Option Bool).bind fun (x36 : Bool) => (if x36 = true then ((f_ref05_Cursor_Refuse (⟨a0.B, (⟨r24, r25, r26, r27⟩ : T_ref02_State)⟩ : T_ref05_Cursor) (⟨#[107, 105, 110, 100]⟩ : ByteArray) (5 : Int)).bind fun (r41, r42, r43) => (some (r41, r42, r43))) else (some (r25, r26, r27)))) : Option (Int × ByteArray × Int)).bind fun (x32, x33, x34) => ((f_ref05_has r23 (98 : Int)).bind fun (r47 : Bool) => ((f_ref05_Cursor_some (⟨a0.B, (⟨r24, x32, x33, x34⟩ : T_ref02_State)⟩ : T_ref05_Cursor) r47).bind fun (r52, r53, r54, r55, r56) => ((f_ref05_has r23 (101 : Int)).bind fun (r61 : Bool) => ((f_ref05_Cursor_some (⟨a0.B, (⟨r53, r54, r55, r56⟩ : T_ref02_State)⟩ : T_ref05_Cursor) r61).bind fun (r66, r67, r68, r69, r70) => ((f_ref05_has r23 (116 : Int)).bind fun (r75 : Bool) => ((f_ref05_Cursor_some (⟨a0.B, (⟨r67, r68, r69, r70⟩ : T_ref02_State)⟩ : T_ref05_Cursor) r75).bind fun (r80, r81, r82, r83, r84) => ((f_ref05_has r23 (112 : Int)).bind fun (r89 : Bool) => ((f_ref05_Cursor_some (⟨a0.B, (⟨r81, r82, r83, r84⟩ : T_ref02_State)⟩ : T_ref05_Cursor) r89).bind fun (r94, r95, r96, r97, r98) => ((f_ref05_has r23 (108 : Int)).bind fun (r103 : Bool) => ((f_ref05_Cursor_some (⟨a0.B, (⟨r95, r96, r97, r98⟩ : T_ref02_State)⟩ : T_ref05_Cursor) r103).bind fun (r108, r109, r110, r111, r112) => ((f_ref05_has r23 (97 : Int)).bind fun (r117 : Bool) => ((f_ref05_Cursor_some (⟨a0.B, (⟨r109, r110, r111, r112⟩ : T_ref02_State)⟩ : T_ref05_Cursor) r117).bind fun (r122, r123, r124, r125, r126) => ((f_ref05_has r23 (97 : Int)).bind fun (r131 : Bool) => ((f_ref05_Cursor_some (⟨a0.B, (⟨r123, r124, r125, r126⟩ : T_ref02_State)⟩ : T_ref05_Cursor) r131).bind fun (r136, r137, r138, r139, r140) => ((f_ref05_has r23 (97 : Int)).bind fun (r145 : Bool) => ((f_ref05_Cursor_some (⟨a0.B, (⟨r137, r138, r139, r140⟩ : T_ref02_State)⟩ : T_ref05_Cursor) r145).bind fun (r150, r151, r152, r153, r154) => ((((f_ref05_has r23 (102 : Int)).bind fun (r165 : Bool) => (if r165 = true then ((f_ref05_Cursor_Flag (⟨a0.B, (⟨r151, r152, r153, r154⟩ : T_ref02_State)⟩ : T_ref05_Cursor)).bind fun (r171, r172, r173, r174, r175) => (some (r171, r172, r173, r174, r175))) else (some (false, r151, r152, r153, r154)))) : Option (Bool × Int × Int × ByteArray × Int)).bind fun (x159, x160, x161, x162, x163) => ((f_ref05_has r23 (110 : Int)).bind fun (r180 : Bool) => ((f_ref05_Cursor_word (⟨a0.B, (⟨x160, x161, x162, x163⟩ : T_ref02_State)⟩ : T_ref05_Cursor) r180).bind fun (r185, r186, r187, r188, r189) => ((f_ref05_has r23 (107 : Int)).bind fun (r194 : Bool) => ((f_ref05_Cursor_word (⟨a0.B, (⟨r186, r187, r188, r189⟩ : T_ref02_State)⟩ : T_ref05_Cursor) r194).bind fun (r199, r200, r201, r202, r203) => ((f_ref05_has r23 (118 : Int)).bind fun (r208 : Bool) => ((f_ref05_Cursor_word (⟨a0.B, (⟨r200, r201, r202, r203⟩ : T_ref02_State)⟩ : T_ref05_Cursor) r208).bind fun (r213, r214, r215, r216, r217) => ((f_ref05_has r23 (114 : Int)).bind fun (r222 : Bool) => ((f_ref05_Cursor_word (⟨a0.B, (⟨r214, r215, r216, r217⟩ : T_ref02_State)⟩ : T_ref05_Cursor) r222).bind fun (r227, r228, r229, r230, r231) => ((f_ref05_has r23 (105 : Int)).bind fun (r236 : Bool) => ((f_ref05_Cursor_brokers (⟨a0.B, (⟨r228, r229, r230, r231⟩ : T_ref02_State)⟩ : T_ref05_Cursor) r236).bind fun (r241, r242, r243, r244, r245) => ((f_ref05_has r23 (109 : Int)).bind fun (r250 : Bool) => ((f_ref05_Cursor_brokers (⟨a0.B, (⟨r242, r243, r244, r245⟩ : T_ref02_State)⟩ : T_ref05_Cursor) r250).bind fun (r255, r256, r257, r258, r259) => ((f_ref05_has r23 (120 : Int)).bind fun (r264 : Bool) => ((f_ref05_Cursor_brokers (⟨a0.B, (⟨r256, r257, r258, r259⟩ : T_ref02_State)⟩ : T_ref05_Cursor) r264).bind fun (r269, r270, r271, r272, r273) => ((f_ref05_has r23 (120 : Int)).bind fun (r278 : Bool) => ((f_ref05_Cursor_brokers (⟨a0.B, (⟨r270, r271, r272, r273⟩ : T_ref02_State)⟩ : T_ref05_Cursor) r278).bind fun (r283, r284, r285, r286, r287) => (((if (decide (r285 = (0 : Int))) = true then ((f_ref05_Check (⟨r23, r52, r66, r80, r94, r108, r122, r136, r150, x159, r185, r199, r213, r227, r241, r255, r269, r283⟩ : T_api_Record)).bind fun (r297 : T_ref05_Wrong) => (if (decide (r297.Code ≠ (0 : Int))) = true then ((f_ref05_Cursor_Refuse (⟨a0.B, (⟨r284, r285, r286, r287⟩ : T_ref02_State)⟩ : T_ref05_Cursor) (⟨#[114, 101, 99, 111, 114, 100]⟩ : ByteArray) r297.Code).bind fun (r316, r317, r318) => (some (r316, r317, r318))) else (some (r285, r286, r287)))) else (some (r285, r286, r287))) : Option (Int × ByteArray × Int)).bind fun (x292, x293, x294) => (if (decide (x292 ≠ (0 : Int))) = true then (some ((⟨(0 : Int), (0 : Int), (0 : Int), (0 : Int), (0 : Int), (0 : Int), (0 : Int), (0 : Int), (0 : Int), false, (⟨#[]⟩ : ByteArray), (⟨#[]⟩ : ByteArray), (⟨#[]⟩ : ByteArray), (⟨#[]⟩ : ByteArray), [], [], [], []⟩ : T_api_Record), r284, x292, x293, x294)) else (some ((⟨r23, r52, r66, r80, r94, r108, r122, r136, r150, x159, r185, r199, r213, r227, r241, r255, r269, r283⟩ : T_api_Record), r284, x292, x293, x294)))))))))))))))))))))))))))))))))))))))
def f_ref05_Read_post (a0 : T_ref05_Cursor) (v0_0 : Value) (g0 : Nat) : (T_api_Record × Int × Int × ByteArray × Int) → Value → IM → HL → Prop :=
  fun (p_ : (T_api_Record × Int × Int × ByteArray × Int)) (v : Value) (M' : IM) (H' : HL) => match p_ with | (r0, r1, r2, r3, r4) => ∃ vz0_14 cz0_14 vz0_15 cz0_15 vz0_16 cz0_16 vz0_17 cz0_17, (.agg #[(.int .i64 r0.Kind), (.int .i64 r0.Broker), (.int .i64 r0.Epoch), (.int .i64 r0.Topic), (.int .i64 r0.Part), (.int .i64 r0.Leader), (.int .i64 r0.Client), (.int .i64 r0.Serial), (.int .i64 r0.Code), (.bool r0.Flag), (.string r0.Name), (.string r0.Key), (.string r0.Value), (.string r0.Rack), vz0_14, vz0_15, vz0_16, vz0_17]) = v ∧ H' = [[(g0, .cells #[v0_0, (.int .i64 r1), (.int .i64 r2), (.string r3), (.int .i64 r4)] 31 (0, 0))], cz0_14, cz0_15, cz0_16, cz0_17] ∧ OwnS (Kd.int .i64) M' vz0_14 r0.Ids cz0_14 ∧ OwnS (Kd.int .i64) M' vz0_15 r0.Isr cz0_15 ∧ OwnS (Kd.int .i64) M' vz0_16 r0.Add cz0_16 ∧ OwnS (Kd.int .i64) M' vz0_17 r0.Drop cz0_17
theorem f_ref05_Read_ok (a0 : T_ref05_Cursor) (M : IM) (v0_0 : Value) (g0 : Nat) (h0_0 : RS (Kd.int .u8) M v0_0 a0.B) (res : (T_api_Record × Int × Int × ByteArray × Int)) (h : f_ref05_Read a0 = some res) :
    Tri Tryz.prog 8 #[(pt g0 0)] M [[(g0, .cells (l31 a0 v0_0).toArray 31 (0, 0))]] (f_ref05_Read_post a0 v0_0 g0 res) := by
 unfold f_ref05_Read at h
 refine Tri.enter (fn := Tryz.f8) Tryz.func8 rfl (Nat.le_of_ble_eq_true rfl) ?_
 intro F ρ hρ
 refine Sr ?_
 refine WL.eff (EO.alloc ze35 rfl) rfl ?_
 rintro _ _ _ - ⟨rfl, g21, rfl, rfl⟩
 refine Ns ?_
 refine Pu (.agg z35_.toArray) (PO.buildL (cl := z35_) ze35 fp35 Parts.nil rfl) rfl ?_
 refine WL.eff (EO.alloc ze35 rfl) rfl ?_
 rintro _ _ _ - ⟨rfl, g22, rfl, rfl⟩
 refine WL.eff (EO.storeL (v := (.agg z35_.toArray)) (vl := z35_) (arr' := z35_) rfl sz35 rfl rfl (onesOf (Ones.cons rfl (Ones.cons rfl (Ones.cons rfl (Ones.cons rfl (Ones.cons rfl (Ones.cons rfl (Ones.cons rfl (Ones.cons rfl (Ones.cons rfl (Ones.cons rfl (Ones.cons rfl (Ones.cons rfl (Ones.cons rfl (Ones.cons rfl (Ones.cons rfl (Ones.cons rfl (Ones.cons rfl (Ones.cons rfl Ones.nil))))))))))))))))))) rfl rfl (by kernel_rfl)) rfl ?_
 rintro _ _ _ - ⟨rfl, rfl⟩
 refine Ns ?_
 refine Pm (pt g0 0) (hρ 0) rfl ?_
 obtain ⟨⟨r23, r24, r25, r26, r27⟩, hr28, h⟩ := bnd h
 refine WL.f2 ?_
 refine WL.eff (EO.call1 co31 (f_ref05_Cursor_Int_ok a0 (63 : Int) _ _ _ h0_0 (r23, r24, r25, r26, r27) hr28) (args2 rfl rfl)) rfl ?_
 rintro _ M29 _ hle30 ⟨_, ⟨rfl, rfl⟩, rfl⟩
 have h0_0 := h0_0.mono hle30
 refine WL.a1 ?_
 refine Pu (pt g22 0) (PO.fieldAddr fo35_0 rfl rfl) rfl ?_
 refine WL.f1 ?_
 refine WL.eff (EO.storeL (v := (.int .i64 r23)) (vl := [(.int .i64 r23)]) (arr' := [(.int .i64 r23), (.int .i64 0), (.int .i64 0), (.int .i64 0), (.int .i64 0), (.int .i64 0), (.int .i64 0), (.int .i64 0), (.int .i64 0), (.bool false), (.string ⟨#[]⟩), (.string ⟨#[]⟩), (.string ⟨#[]⟩), (.string ⟨#[]⟩), (.slice none 0 0), (.slice none 0 0), (.slice none 0 0), (.slice none 0 0)]) rfl sz3 rfl rfl (onesOf (Ones.cons rfl Ones.nil)) rfl rfl (by kernel_rfl)) rfl ?_
 rintro _ _ _ - ⟨rfl, rfl⟩
 refine Nt ?_
 obtain ⟨j35, hj35, h⟩ := bnd h
 refine WC.joinF (fun (p_ : (Int × ByteArray × Int)) ρ' M' H' => match p_ with | (x32, x33, x34) => M29.le M' ∧ [(g22, .cells #[(.int .i64 r23), (.int .i64 0), (.int .i64 0), (.int .i64 0), (.int .i64 0), (.int .i64 0), (.int .i64 0), (.int .i64 0), (.int .i64 0), (.bool false), (.string ⟨#[]⟩), (.string ⟨#[]⟩), (.string ⟨#[]⟩), (.string ⟨#[]⟩), (.slice none 0 0), (.slice none 0 0), (.slice none 0 0), (.slice none 0 0)] 35 (0, 0))] :: [(g0, .cells #[v0_0, (.int .i64 r24), (.int .i64 x32), (.string x33), (.int .i64 x34)] 31 (0, 0))] :: [(g21, .cells z35_.toArray 35 (0, 0))] :: F = H' ∧ ρ' 0 = (pt g0 0) ∧ ρ' 2 = (pt g21 0) ∧ ρ' 3 = (pt g22 0)) j35 ?_ ?_
 have h335 := h
 have h := hj35
 obtain ⟨x36, hj37, h⟩ := bnd h
 refine WC.joinF (fun (x36 : Bool) ρ' M' H' => M29.le M' ∧ [(g22, .cells #[(.int .i64 r23), (.int .i64 0), (.int .i64 0), (.int .i64 0), (.int .i64 0), (.int .i64 0), (.int .i64 0), (.int .i64 0), (.int .i64 0), (.bool false), (.string ⟨#[]⟩), (.string ⟨#[]⟩), (.string ⟨#[]⟩), (.string ⟨#[]⟩), (.slice none 0 0), (.slice none 0 0), (.slice none 0 0), (.slice none 0 0)] 35 (0, 0))] :: [(g0, .cells #[v0_0, (.int .i64 r24), (.int .i64 r25), (.string r26), (.int .i64 r27)] 31 (0, 0))] :: [(g21, .cells z35_.toArray 35 (0, 0))] :: F = H' ∧ ρ' 0 = (pt g0 0) ∧ ρ' 2 = (pt g21 0) ∧ ρ' 3 = (pt g22 0) ∧ ρ' 25 = (.bool x36)) x36 ?_ ?_
 have h337 := h
 have h := hj37
 refine WC.region ?_
 refine Pm (pt g0 0) (hρ 0) rfl ?_
 refine Pu (pt g0 0) (PO.nilCheck rfl) rfl ?_
 refine Pu (pt g0 1) (PO.fieldAddr fo31_1 rfl rfl) rfl ?_
 refine Pu (pt g0 2) (PO.fieldAddr fo29_1 rfl rfl) rfl ?_
 refine Pu (.int .i64 r25) (PO.loadB 1 pl27 rfl rfl rfl) rfl ?_
 refine Pu (.bool (decide (r25 = 0))) (PO.eql rfl rfl) rfl ?_
 refine Pm (.bool (decide (r25 = 0))) rfl rfl ?_
 rcases Bool.eq_false_or_eq_true (decide (r25 = 0)) with hb38 | hb38
 have h := ite_t hb38 h
 refine On 16 rfl rfl hb38 ?_
 refine Pu (pt g22 0) (PO.fieldAddr fo35_0 rfl rfl) rfl ?_
 refine On 16 rfl rfl hb38 ?_
 refine Pu (.int .i64 r23) (PO.loadB 0 pl3 rfl rfl rfl) rfl ?_
 refine On 16 rfl rfl hb38 ?_
 refine Pu (.bool (decide (r23 < 1))) (PO.lss rfl rfl) rfl ?_
 refine On 16 rfl rfl hb38 ?_
 refine Pm (.bool (decide (r23 < 1))) rfl rfl ?_
 rcases Bool.eq_false_or_eq_true (decide (r23 < 1)) with hb39 | hb39
 have h := ite_t hb39 h
 iterate 3 refine Of 20 rfl rfl hb39 rfl ?_
 refine On 16 rfl rfl hb38 ?_
 refine Pu (.bool true) (PO.pickT rfl hb39 rfl) rfl ?_
 refine Pu (.bool true) (PO.pickT rfl hb38 rfl) rfl ?_
 refine WL.nil ?_
 obtain rfl := Option.some.inj h
 refine WQ.thenJ ?_
 exact ⟨(IM.le.refl _), rfl, (hρ 0), rfl, rfl, rfl⟩
 have h := ite_f hb39 h
 refine On 20 rfl rfl hb39 ?_
 refine Pu (pt g22 0) (PO.fieldAddr fo35_0 rfl rfl) rfl ?_
 refine On 20 rfl rfl hb39 ?_
 refine Pu (.int .i64 r23) (PO.loadB 0 pl3 rfl rfl rfl) rfl ?_
 refine On 20 rfl rfl hb39 ?_
 refine Pu (.bool (decide ((12 : Int) < r23))) (PO.gtr rfl rfl) rfl ?_
 refine On 16 rfl rfl hb38 ?_
 refine Pu (.bool (decide ((12 : Int) < r23))) (PO.pickF rfl hb39 rfl) rfl ?_
 refine Pu (.bool (decide ((12 : Int) < r23))) (PO.pickT rfl hb38 rfl) rfl ?_
 refine WL.nil ?_
 obtain rfl := Option.some.inj h
 refine WQ.thenJ ?_
 exact ⟨(IM.le.refl _), rfl, (hρ 0), rfl, rfl, rfl⟩
 have h := ite_f hb38 h
 iterate 4 refine Of 16 rfl rfl hb38 rfl ?_
 refine WL.offU 20 rfl rfl rfl ?_
 refine WL.offU 20 rfl rfl rfl ?_
 refine WL.offU 20 rfl rfl rfl ?_
 refine Of 16 rfl rfl hb38 rfl ?_
 refine Pu (.bool false) (PO.pickF rfl hb38 rfl) rfl ?_
 refine WL.nil ?_
 obtain rfl := Option.some.inj h
 refine WQ.thenJ ?_
 exact ⟨(IM.le.refl _), rfl, (hρ 0), rfl, rfl, rfl⟩
 rintro ρ37 M37 H37 ⟨hle37, rfl, hs37_0, hs37_2, hs37_3, hs37_25⟩
 have h0_0 := h0_0.mono hle37
 refine WC.cond (b := x36) hs37_25 (fun hb40 => ?_) (fun hb40 => ?_)
 have h := ite_t hb40 h
 refine WC.region ?_
 refine Pm (pt g0 0) hs37_0 rfl ?_
 obtain ⟨⟨r41, r42, r43⟩, hr44, h⟩ := bnd h
 refine WL.f1 ?_
 refine WL.eff (EO.call1 co32 (f_ref05_Cursor_Refuse_ok (⟨a0.B, (⟨r24, r25, r26, r27⟩ : T_ref02_State)⟩ : T_ref05_Cursor) (⟨#[107, 105, 110, 100]⟩ : ByteArray) (5 : Int) _ _ _ h0_0 (r41, r42, r43) hr44) (args3 rfl rfl rfl)) rfl ?_
 rintro _ M45 _ hle46 ⟨_, ⟨rfl, rfl⟩, rfl⟩
 have h0_0 := h0_0.mono hle46
 refine WL.a1 ?_
 refine WL.nil ?_
 refine WQ.f2 ?_
 refine WQ.f1 ?_
 refine WQ.f2 ?_
 obtain rfl := Option.some.inj h
 refine WQ.thenJ ?_
 exact ⟨(hle37.trans hle46), rfl, hs37_0, hs37_2, hs37_3⟩
 have h := ite_f hb40 h
 refine WC.skip ?_
 obtain rfl := Option.some.inj h
 refine WQ.thenJ ?_
 exact ⟨hle37, rfl, hs37_0, hs37_2, hs37_3⟩
 obtain ⟨x32, x33, x34⟩ := j35
 rintro ρ35 M35 H35 ⟨hle35, rfl, hs35_0, hs35_2, hs35_3⟩
 have h0_0 := h0_0.mono hle35
 refine Sr ?_
 refine Pu (pt g22 0) (PO.fieldAddr fo35_0 hs35_3 rfl) rfl ?_
 refine Pu (.int .i64 r23) (PO.loadB 0 pl3 rfl rfl rfl) rfl ?_
 refine Pa (.int .i64 r23) rfl rfl ?_
 refine Ns ?_
 refine Pm (pt g0 0) hs35_0 rfl ?_
 refine Pm (.int .i64 r23) rfl rfl ?_
 obtain ⟨r47, hr48, h⟩ := bnd h
 refine WL.eff (EO.call0 co34 (f_ref05_has_ok r23 (98 : Int) _ r47 hr48) (args2 rfl rfl)) rfl ?_
 rintro _ M49 _ hle50 ⟨_, ⟨rfl, rfl⟩, rfl⟩
 have h0_0 := h0_0.mono hle50
 refine WL.a0 ?_
 obtain ⟨⟨r52, r53, r54, r55, r56⟩, hr57, h⟩ := bnd h
 refine WL.f1 ?_
 refine WL.eff (EO.call1 co33 (f_ref05_Cursor_some_ok (⟨a0.B, (⟨r24, x32, x33, x34⟩ : T_ref02_State)⟩ : T_ref05_Cursor) r47 _ _ _ h0_0 (r52, r53, r54, r55, r56) hr57) (args2 rfl rfl)) rfl ?_
 rintro _ M58 _ hle59 ⟨_, ⟨rfl, rfl⟩, rfl⟩
 have h0_0 := h0_0.mono hle59
 refine WL.a1 ?_
 refine Pu (pt g22 1) (PO.fieldAddr fo35_1 hs35_3 rfl) rfl ?_
 refine WL.f1 ?_
 refine WL.eff (EO.storeL (v := (.int .i64 r52)) (vl := [(.int .i64 r52)]) (arr' := [(.int .i64 r23), (.int .i64 r52), (.int .i64 0), (.int .i64 0), (.int .i64 0), (.int .i64 0), (.int .i64 0), (.int .i64 0), (.int .i64 0), (.bool false), (.string ⟨#[]⟩), (.string ⟨#[]⟩), (.string ⟨#[]⟩), (.string ⟨#[]⟩), (.slice none 0 0), (.slice none 0 0), (.slice none 0 0), (.slice none 0 0)]) rfl sz3 rfl rfl (onesOf (Ones.cons rfl Ones.nil)) rfl rfl (by kernel_rfl)) rfl ?_
 rintro _ _ _ - ⟨rfl, rfl⟩
 refine Ns ?_
 refine Pm (pt g0 0) hs35_0 rfl ?_
 refine Pm (.int .i64 r23) rfl rfl ?_
 obtain ⟨r61, hr62, h⟩ := bnd h
 refine WL.eff (EO.call0 co34 (f_ref05_has_ok r23 (101 : Int) _ r61 hr62) (args2 rfl rfl)) rfl ?_
 rintro _ M63 _ hle64 ⟨_, ⟨rfl, rfl⟩, rfl⟩
 have h0_0 := h0_0.mono hle64
 refine WL.a0 ?_
 obtain ⟨⟨r66, r67, r68, r69, r70⟩, hr71, h⟩ := bnd h
 refine WL.f1 ?_
 refine WL.eff (EO.call1 co33 (f_ref05_Cursor_some_ok (⟨a0.B, (⟨r53, r54, r55, r56⟩ : T_ref02_State)⟩ : T_ref05_Cursor) r61 _ _ _ h0_0 (r66, r67, r68, r69, r70) hr71) (args2 rfl rfl)) rfl ?_
 rintro _ M72 _ hle73 ⟨_, ⟨rfl, rfl⟩, rfl⟩
 have h0_0 := h0_0.mono hle73
 refine WL.a1 ?_
 refine Pu (pt g22 2) (PO.fieldAddr fo35_2 hs35_3 rfl) rfl ?_
 refine WL.f1 ?_
 refine WL.eff (EO.storeL (v := (.int .i64 r66)) (vl := [(.int .i64 r66)]) (arr' := [(.int .i64 r23), (.int .i64 r52), (.int .i64 r66), (.int .i64 0), (.int .i64 0), (.int .i64 0), (.int .i64 0), (.int .i64 0), (.int .i64 0), (.bool false), (.string ⟨#[]⟩), (.string ⟨#[]⟩), (.string ⟨#[]⟩), (.string ⟨#[]⟩), (.slice none 0 0), (.slice none 0 0), (.slice none 0 0), (.slice none 0 0)]) rfl sz3 rfl rfl (onesOf (Ones.cons rfl Ones.nil)) rfl rfl (by kernel_rfl)) rfl ?_
 rintro _ _ _ - ⟨rfl, rfl⟩
 refine Ns ?_
 refine Pm (pt g0 0) hs35_0 rfl ?_
 refine Pm (.int .i64 r23) rfl rfl ?_
 obtain ⟨r75, hr76, h⟩ := bnd h
 refine WL.eff (EO.call0 co34 (f_ref05_has_ok r23 (116 : Int) _ r75 hr76) (args2 rfl rfl)) rfl ?_
 rintro _ M77 _ hle78 ⟨_, ⟨rfl, rfl⟩, rfl⟩
 have h0_0 := h0_0.mono hle78
 refine WL.a0 ?_
 obtain ⟨⟨r80, r81, r82, r83, r84⟩, hr85, h⟩ := bnd h
 refine WL.f1 ?_
 refine WL.eff (EO.call1 co33 (f_ref05_Cursor_some_ok (⟨a0.B, (⟨r67, r68, r69, r70⟩ : T_ref02_State)⟩ : T_ref05_Cursor) r75 _ _ _ h0_0 (r80, r81, r82, r83, r84) hr85) (args2 rfl rfl)) rfl ?_
 rintro _ M86 _ hle87 ⟨_, ⟨rfl, rfl⟩, rfl⟩
 have h0_0 := h0_0.mono hle87
 refine WL.a1 ?_
 refine Pu (pt g22 3) (PO.fieldAddr fo35_3 hs35_3 rfl) rfl ?_
 refine WL.f1 ?_
 refine WL.eff (EO.storeL (v := (.int .i64 r80)) (vl := [(.int .i64 r80)]) (arr' := [(.int .i64 r23), (.int .i64 r52), (.int .i64 r66), (.int .i64 r80), (.int .i64 0), (.int .i64 0), (.int .i64 0), (.int .i64 0), (.int .i64 0), (.bool false), (.string ⟨#[]⟩), (.string ⟨#[]⟩), (.string ⟨#[]⟩), (.string ⟨#[]⟩), (.slice none 0 0), (.slice none 0 0), (.slice none 0 0), (.slice none 0 0)]) rfl sz3 rfl rfl (onesOf (Ones.cons rfl Ones.nil)) rfl rfl (by kernel_rfl)) rfl ?_
 rintro _ _ _ - ⟨rfl, rfl⟩
 refine Ns ?_
 refine Pm (pt g0 0) hs35_0 rfl ?_
 refine Pm (.int .i64 r23) rfl rfl ?_
 obtain ⟨r89, hr90, h⟩ := bnd h
 refine WL.eff (EO.call0 co34 (f_ref05_has_ok r23 (112 : Int) _ r89 hr90) (args2 rfl rfl)) rfl ?_
 rintro _ M91 _ hle92 ⟨_, ⟨rfl, rfl⟩, rfl⟩
 have h0_0 := h0_0.mono hle92
 refine WL.a0 ?_
 obtain ⟨⟨r94, r95, r96, r97, r98⟩, hr99, h⟩ := bnd h
 refine WL.f1 ?_
 refine WL.eff (EO.call1 co33 (f_ref05_Cursor_some_ok (⟨a0.B, (⟨r81, r82, r83, r84⟩ : T_ref02_State)⟩ : T_ref05_Cursor) r89 _ _ _ h0_0 (r94, r95, r96, r97, r98) hr99) (args2 rfl rfl)) rfl ?_
 rintro _ M100 _ hle101 ⟨_, ⟨rfl, rfl⟩, rfl⟩
 have h0_0 := h0_0.mono hle101
 refine WL.a1 ?_
 refine Pu (pt g22 4) (PO.fieldAddr fo35_4 hs35_3 rfl) rfl ?_
 refine WL.f1 ?_
 refine WL.eff (EO.storeL (v := (.int .i64 r94)) (vl := [(.int .i64 r94)]) (arr' := [(.int .i64 r23), (.int .i64 r52), (.int .i64 r66), (.int .i64 r80), (.int .i64 r94), (.int .i64 0), (.int .i64 0), (.int .i64 0), (.int .i64 0), (.bool false), (.string ⟨#[]⟩), (.string ⟨#[]⟩), (.string ⟨#[]⟩), (.string ⟨#[]⟩), (.slice none 0 0), (.slice none 0 0), (.slice none 0 0), (.slice none 0 0)]) rfl sz3 rfl rfl (onesOf (Ones.cons rfl Ones.nil)) rfl rfl (by kernel_rfl)) rfl ?_
 rintro _ _ _ - ⟨rfl, rfl⟩
 refine Ns ?_
 refine Pm (pt g0 0) hs35_0 rfl ?_
 refine Pm (.int .i64 r23) rfl rfl ?_
 obtain ⟨r103, hr104, h⟩ := bnd h
 refine WL.eff (EO.call0 co34 (f_ref05_has_ok r23 (108 : Int) _ r103 hr104) (args2 rfl rfl)) rfl ?_
 rintro _ M105 _ hle106 ⟨_, ⟨rfl, rfl⟩, rfl⟩
 have h0_0 := h0_0.mono hle106
 refine WL.a0 ?_
 obtain ⟨⟨r108, r109, r110, r111, r112⟩, hr113, h⟩ := bnd h
 refine WL.f1 ?_
 refine WL.eff (EO.call1 co33 (f_ref05_Cursor_some_ok (⟨a0.B, (⟨r95, r96, r97, r98⟩ : T_ref02_State)⟩ : T_ref05_Cursor) r103 _ _ _ h0_0 (r108, r109, r110, r111, r112) hr113) (args2 rfl rfl)) rfl ?_
 rintro _ M114 _ hle115 ⟨_, ⟨rfl, rfl⟩, rfl⟩
 have h0_0 := h0_0.mono hle115
 refine WL.a1 ?_
 refine Pu (pt g22 5) (PO.fieldAddr fo35_5 hs35_3 rfl) rfl ?_
 refine WL.f1 ?_
 refine WL.eff (EO.storeL (v := (.int .i64 r108)) (vl := [(.int .i64 r108)]) (arr' := [(.int .i64 r23), (.int .i64 r52), (.int .i64 r66), (.int .i64 r80), (.int .i64 r94), (.int .i64 r108), (.int .i64 0), (.int .i64 0), (.int .i64 0), (.bool false), (.string ⟨#[]⟩), (.string ⟨#[]⟩), (.string ⟨#[]⟩), (.string ⟨#[]⟩), (.slice none 0 0), (.slice none 0 0), (.slice none 0 0), (.slice none 0 0)]) rfl sz3 rfl rfl (onesOf (Ones.cons rfl Ones.nil)) rfl rfl (by kernel_rfl)) rfl ?_
 rintro _ _ _ - ⟨rfl, rfl⟩
 refine Ns ?_
 refine Pm (pt g0 0) hs35_0 rfl ?_
 refine Pm (.int .i64 r23) rfl rfl ?_
 obtain ⟨r117, hr118, h⟩ := bnd h
 refine WL.eff (EO.call0 co34 (f_ref05_has_ok r23 (97 : Int) _ r117 hr118) (args2 rfl rfl)) rfl ?_
 rintro _ M119 _ hle120 ⟨_, ⟨rfl, rfl⟩, rfl⟩
 have h0_0 := h0_0.mono hle120
 refine WL.a0 ?_
 obtain ⟨⟨r122, r123, r124, r125, r126⟩, hr127, h⟩ := bnd h
 refine WL.f1 ?_
 refine WL.eff (EO.call1 co33 (f_ref05_Cursor_some_ok (⟨a0.B, (⟨r109, r110, r111, r112⟩ : T_ref02_State)⟩ : T_ref05_Cursor) r117 _ _ _ h0_0 (r122, r123, r124, r125, r126) hr127) (args2 rfl rfl)) rfl ?_
 rintro _ M128 _ hle129 ⟨_, ⟨rfl, rfl⟩, rfl⟩
 have h0_0 := h0_0.mono hle129
 refine WL.a1 ?_
 refine Pu (pt g22 6) (PO.fieldAddr fo35_6 hs35_3 rfl) rfl ?_
 refine WL.f1 ?_
 refine WL.eff (EO.storeL (v := (.int .i64 r122)) (vl := [(.int .i64 r122)]) (arr' := [(.int .i64 r23), (.int .i64 r52), (.int .i64 r66), (.int .i64 r80), (.int .i64 r94), (.int .i64 r108), (.int .i64 r122), (.int .i64 0), (.int .i64 0), (.bool false), (.string ⟨#[]⟩), (.string ⟨#[]⟩), (.string ⟨#[]⟩), (.string ⟨#[]⟩), (.slice none 0 0), (.slice none 0 0), (.slice none 0 0), (.slice none 0 0)]) rfl sz3 rfl rfl (onesOf (Ones.cons rfl Ones.nil)) rfl rfl (by kernel_rfl)) rfl ?_
 rintro _ _ _ - ⟨rfl, rfl⟩
 refine Ns ?_
 refine Pm (pt g0 0) hs35_0 rfl ?_
 refine Pm (.int .i64 r23) rfl rfl ?_
 obtain ⟨r131, hr132, h⟩ := bnd h
 refine WL.eff (EO.call0 co34 (f_ref05_has_ok r23 (97 : Int) _ r131 hr132) (args2 rfl rfl)) rfl ?_
 rintro _ M133 _ hle134 ⟨_, ⟨rfl, rfl⟩, rfl⟩
 have h0_0 := h0_0.mono hle134
 refine WL.a0 ?_
 obtain ⟨⟨r136, r137, r138, r139, r140⟩, hr141, h⟩ := bnd h
 refine WL.f1 ?_
 refine WL.eff (EO.call1 co33 (f_ref05_Cursor_some_ok (⟨a0.B, (⟨r123, r124, r125, r126⟩ : T_ref02_State)⟩ : T_ref05_Cursor) r131 _ _ _ h0_0 (r136, r137, r138, r139, r140) hr141) (args2 rfl rfl)) rfl ?_
 rintro _ M142 _ hle143 ⟨_, ⟨rfl, rfl⟩, rfl⟩
 have h0_0 := h0_0.mono hle143
 refine WL.a1 ?_
 refine Pu (pt g22 7) (PO.fieldAddr fo35_7 hs35_3 rfl) rfl ?_
 refine WL.f1 ?_
 refine WL.eff (EO.storeL (v := (.int .i64 r136)) (vl := [(.int .i64 r136)]) (arr' := [(.int .i64 r23), (.int .i64 r52), (.int .i64 r66), (.int .i64 r80), (.int .i64 r94), (.int .i64 r108), (.int .i64 r122), (.int .i64 r136), (.int .i64 0), (.bool false), (.string ⟨#[]⟩), (.string ⟨#[]⟩), (.string ⟨#[]⟩), (.string ⟨#[]⟩), (.slice none 0 0), (.slice none 0 0), (.slice none 0 0), (.slice none 0 0)]) rfl sz3 rfl rfl (onesOf (Ones.cons rfl Ones.nil)) rfl rfl (by kernel_rfl)) rfl ?_
 rintro _ _ _ - ⟨rfl, rfl⟩
 refine Ns ?_
 refine Pm (pt g0 0) hs35_0 rfl ?_
 refine Pm (.int .i64 r23) rfl rfl ?_
 obtain ⟨r145, hr146, h⟩ := bnd h
 refine WL.eff (EO.call0 co34 (f_ref05_has_ok r23 (97 : Int) _ r145 hr146) (args2 rfl rfl)) rfl ?_
 rintro _ M147 _ hle148 ⟨_, ⟨rfl, rfl⟩, rfl⟩
 have h0_0 := h0_0.mono hle148
 refine WL.a0 ?_
 obtain ⟨⟨r150, r151, r152, r153, r154⟩, hr155, h⟩ := bnd h
 refine WL.f1 ?_
 refine WL.eff (EO.call1 co33 (f_ref05_Cursor_some_ok (⟨a0.B, (⟨r137, r138, r139, r140⟩ : T_ref02_State)⟩ : T_ref05_Cursor) r145 _ _ _ h0_0 (r150, r151, r152, r153, r154) hr155) (args2 rfl rfl)) rfl ?_
 rintro _ M156 _ hle157 ⟨_, ⟨rfl, rfl⟩, rfl⟩
 have h0_0 := h0_0.mono hle157
 refine WL.a1 ?_
 refine Pu (pt g22 8) (PO.fieldAddr fo35_8 hs35_3 rfl) rfl ?_
 refine WL.f1 ?_
 refine WL.eff (EO.storeL (v := (.int .i64 r150)) (vl := [(.int .i64 r150)]) (arr' := [(.int .i64 r23), (.int .i64 r52), (.int .i64 r66), (.int .i64 r80), (.int .i64 r94), (.int .i64 r108), (.int .i64 r122), (.int .i64 r136), (.int .i64 r150), (.bool false), (.string ⟨#[]⟩), (.string ⟨#[]⟩), (.string ⟨#[]⟩), (.string ⟨#[]⟩), (.slice none 0 0), (.slice none 0 0), (.slice none 0 0), (.slice none 0 0)]) rfl sz3 rfl rfl (onesOf (Ones.cons rfl Ones.nil)) rfl rfl (by kernel_rfl)) rfl ?_
 rintro _ _ _ - ⟨rfl, rfl⟩
 refine Nt ?_
 obtain ⟨j164, hj164, h⟩ := bnd h
 refine WC.joinF (fun (p_ : (Bool × Int × Int × ByteArray × Int)) ρ' M' H' => match p_ with | (x159, x160, x161, x162, x163) => M156.le M' ∧ [(g22, .cells #[(.int .i64 r23), (.int .i64 r52), (.int .i64 r66), (.int .i64 r80), (.int .i64 r94), (.int .i64 r108), (.int .i64 r122), (.int .i64 r136), (.int .i64 r150), (.bool x159), (.string ⟨#[]⟩), (.string ⟨#[]⟩), (.string ⟨#[]⟩), (.string ⟨#[]⟩), (.slice none 0 0), (.slice none 0 0), (.slice none 0 0), (.slice none 0 0)] 35 (0, 0))] :: [(g0, .cells #[v0_0, (.int .i64 x160), (.int .i64 x161), (.string x162), (.int .i64 x163)] 31 (0, 0))] :: [(g21, .cells z35_.toArray 35 (0, 0))] :: F = H' ∧ ρ' 0 = (pt g0 0) ∧ ρ' 2 = (pt g21 0) ∧ ρ' 3 = (pt g22 0) ∧ ρ' 4 = (.int .i64 r23)) j164 ?_ ?_
 have h3164 := h
 have h := hj164
 refine Sr ?_
 refine Pm (.int .i64 r23) rfl rfl ?_
 obtain ⟨r165, hr166, h⟩ := bnd h
 refine WL.eff (EO.call0 co34 (f_ref05_has_ok r23 (102 : Int) _ r165 hr166) (args2 rfl rfl)) rfl ?_
 rintro _ M167 _ hle168 ⟨_, ⟨rfl, rfl⟩, rfl⟩
 have h0_0 := h0_0.mono hle168
 refine WL.a0 ?_
 refine Nt ?_
 refine WC.cond (b := r165) rfl (fun hb170 => ?_) (fun hb170 => ?_)
 have h := ite_t hb170 h
 refine WC.region ?_
 refine Pm (pt g0 0) hs35_0 rfl ?_
 obtain ⟨⟨r171, r172, r173, r174, r175⟩, hr176, h⟩ := bnd h
 refine WL.f1 ?_
 refine WL.eff (EO.call1 co35 (f_ref05_Cursor_Flag_ok (⟨a0.B, (⟨r151, r152, r153, r154⟩ : T_ref02_State)⟩ : T_ref05_Cursor) _ _ _ h0_0 (r171, r172, r173, r174, r175) hr176) (args1 rfl)) rfl ?_
 rintro _ M177 _ hle178 ⟨_, ⟨rfl, rfl⟩, rfl⟩
 have h0_0 := h0_0.mono hle178
 refine WL.a1 ?_
 refine Pu (pt g22 9) (PO.fieldAddr fo35_9 hs35_3 rfl) rfl ?_
 refine WL.f1 ?_
 refine WL.eff (EO.storeL (v := (.bool r171)) (vl := [(.bool r171)]) (arr' := [(.int .i64 r23), (.int .i64 r52), (.int .i64 r66), (.int .i64 r80), (.int .i64 r94), (.int .i64 r108), (.int .i64 r122), (.int .i64 r136), (.int .i64 r150), (.bool r171), (.string ⟨#[]⟩), (.string ⟨#[]⟩), (.string ⟨#[]⟩), (.string ⟨#[]⟩), (.slice none 0 0), (.slice none 0 0), (.slice none 0 0), (.slice none 0 0)]) rfl sz4 rfl rfl (onesOf (Ones.cons rfl Ones.nil)) rfl rfl (by kernel_rfl)) rfl ?_
 rintro _ _ _ - ⟨rfl, rfl⟩
 refine WL.nil ?_
 obtain rfl := Option.some.inj h
 refine WQ.thenJ ?_
 exact ⟨(hle168.trans hle178), rfl, hs35_0, hs35_2, hs35_3, rfl⟩
 have h := ite_f hb170 h
 refine WC.skip ?_
 obtain rfl := Option.some.inj h
 refine WQ.thenJ ?_
 exact ⟨hle168, rfl, hs35_0, hs35_2, hs35_3, rfl⟩
 obtain ⟨x159, x160, x161, x162, x163⟩ := j164
 rintro ρ164 M164 H164 ⟨hle164, rfl, hs164_0, hs164_2, hs164_3, hs164_4⟩
 have h0_0 := h0_0.mono hle164
 refine Sr ?_
 refine Pm (pt g0 0) hs164_0 rfl ?_
 refine Pm (.int .i64 r23) hs164_4 rfl ?_
 obtain ⟨r180, hr181, h⟩ := bnd h
 refine WL.eff (EO.call0 co34 (f_ref05_has_ok r23 (110 : Int) _ r180 hr181) (args2 rfl rfl)) rfl ?_
 rintro _ M182 _ hle183 ⟨_, ⟨rfl, rfl⟩, rfl⟩
 have h0_0 := h0_0.mono hle183
 refine WL.a0 ?_
 obtain ⟨⟨r185, r186, r187, r188, r189⟩, hr190, h⟩ := bnd h
 refine WL.f1 ?_
 refine WL.eff (EO.call1 co36 (f_ref05_Cursor_word_ok (⟨a0.B, (⟨x160, x161, x162, x163⟩ : T_ref02_State)⟩ : T_ref05_Cursor) r180 _ _ _ h0_0 (r185, r186, r187, r188, r189) hr190) (args2 rfl rfl)) rfl ?_
 rintro _ M191 _ hle192 ⟨_, ⟨rfl, rfl⟩, rfl⟩
 have h0_0 := h0_0.mono hle192
 refine WL.a1 ?_
 refine Pu (pt g22 10) (PO.fieldAddr fo35_10 hs164_3 rfl) rfl ?_
 refine WL.f1 ?_
 refine WL.eff (EO.storeL (v := (.string r185)) (vl := [(.string r185)]) (arr' := [(.int .i64 r23), (.int .i64 r52), (.int .i64 r66), (.int .i64 r80), (.int .i64 r94), (.int .i64 r108), (.int .i64 r122), (.int .i64 r136), (.int .i64 r150), (.bool x159), (.string r185), (.string ⟨#[]⟩), (.string ⟨#[]⟩), (.string ⟨#[]⟩), (.slice none 0 0), (.slice none 0 0), (.slice none 0 0), (.slice none 0 0)]) rfl sz9 rfl rfl (onesOf (Ones.cons rfl Ones.nil)) rfl rfl (by kernel_rfl)) rfl ?_
 rintro _ _ _ - ⟨rfl, rfl⟩
 refine Ns ?_
 refine Pm (pt g0 0) hs164_0 rfl ?_
 refine Pm (.int .i64 r23) hs164_4 rfl ?_
 obtain ⟨r194, hr195, h⟩ := bnd h
 refine WL.eff (EO.call0 co34 (f_ref05_has_ok r23 (107 : Int) _ r194 hr195) (args2 rfl rfl)) rfl ?_
 rintro _ M196 _ hle197 ⟨_, ⟨rfl, rfl⟩, rfl⟩
 have h0_0 := h0_0.mono hle197
 refine WL.a0 ?_
 obtain ⟨⟨r199, r200, r201, r202, r203⟩, hr204, h⟩ := bnd h
 refine WL.f1 ?_
 refine WL.eff (EO.call1 co36 (f_ref05_Cursor_word_ok (⟨a0.B, (⟨r186, r187, r188, r189⟩ : T_ref02_State)⟩ : T_ref05_Cursor) r194 _ _ _ h0_0 (r199, r200, r201, r202, r203) hr204) (args2 rfl rfl)) rfl ?_
 rintro _ M205 _ hle206 ⟨_, ⟨rfl, rfl⟩, rfl⟩
 have h0_0 := h0_0.mono hle206
 refine WL.a1 ?_
 refine Pu (pt g22 11) (PO.fieldAddr fo35_11 hs164_3 rfl) rfl ?_
 refine WL.f1 ?_
 refine WL.eff (EO.storeL (v := (.string r199)) (vl := [(.string r199)]) (arr' := [(.int .i64 r23), (.int .i64 r52), (.int .i64 r66), (.int .i64 r80), (.int .i64 r94), (.int .i64 r108), (.int .i64 r122), (.int .i64 r136), (.int .i64 r150), (.bool x159), (.string r185), (.string r199), (.string ⟨#[]⟩), (.string ⟨#[]⟩), (.slice none 0 0), (.slice none 0 0), (.slice none 0 0), (.slice none 0 0)]) rfl sz9 rfl rfl (onesOf (Ones.cons rfl Ones.nil)) rfl rfl (by kernel_rfl)) rfl ?_
 rintro _ _ _ - ⟨rfl, rfl⟩
 refine Ns ?_
 refine Pm (pt g0 0) hs164_0 rfl ?_
 refine Pm (.int .i64 r23) hs164_4 rfl ?_
 obtain ⟨r208, hr209, h⟩ := bnd h
 refine WL.eff (EO.call0 co34 (f_ref05_has_ok r23 (118 : Int) _ r208 hr209) (args2 rfl rfl)) rfl ?_
 rintro _ M210 _ hle211 ⟨_, ⟨rfl, rfl⟩, rfl⟩
 have h0_0 := h0_0.mono hle211
 refine WL.a0 ?_
 obtain ⟨⟨r213, r214, r215, r216, r217⟩, hr218, h⟩ := bnd h
 refine WL.f1 ?_
 refine WL.eff (EO.call1 co36 (f_ref05_Cursor_word_ok (⟨a0.B, (⟨r200, r201, r202, r203⟩ : T_ref02_State)⟩ : T_ref05_Cursor) r208 _ _ _ h0_0 (r213, r214, r215, r216, r217) hr218) (args2 rfl rfl)) rfl ?_
 rintro _ M219 _ hle220 ⟨_, ⟨rfl, rfl⟩, rfl⟩
 have h0_0 := h0_0.mono hle220
 refine WL.a1 ?_
 refine Pu (pt g22 12) (PO.fieldAddr fo35_12 hs164_3 rfl) rfl ?_
 refine WL.f1 ?_
 refine WL.eff (EO.storeL (v := (.string r213)) (vl := [(.string r213)]) (arr' := [(.int .i64 r23), (.int .i64 r52), (.int .i64 r66), (.int .i64 r80), (.int .i64 r94), (.int .i64 r108), (.int .i64 r122), (.int .i64 r136), (.int .i64 r150), (.bool x159), (.string r185), (.string r199), (.string r213), (.string ⟨#[]⟩), (.slice none 0 0), (.slice none 0 0), (.slice none 0 0), (.slice none 0 0)]) rfl sz9 rfl rfl (onesOf (Ones.cons rfl Ones.nil)) rfl rfl (by kernel_rfl)) rfl ?_
 rintro _ _ _ - ⟨rfl, rfl⟩
 refine Ns ?_
 refine Pm (pt g0 0) hs164_0 rfl ?_
 refine Pm (.int .i64 r23) hs164_4 rfl ?_
 obtain ⟨r222, hr223, h⟩ := bnd h
 refine WL.eff (EO.call0 co34 (f_ref05_has_ok r23 (114 : Int) _ r222 hr223) (args2 rfl rfl)) rfl ?_
 rintro _ M224 _ hle225 ⟨_, ⟨rfl, rfl⟩, rfl⟩
 have h0_0 := h0_0.mono hle225
 refine WL.a0 ?_
 obtain ⟨⟨r227, r228, r229, r230, r231⟩, hr232, h⟩ := bnd h
 refine WL.f1 ?_
 refine WL.eff (EO.call1 co36 (f_ref05_Cursor_word_ok (⟨a0.B, (⟨r214, r215, r216, r217⟩ : T_ref02_State)⟩ : T_ref05_Cursor) r222 _ _ _ h0_0 (r227, r228, r229, r230, r231) hr232) (args2 rfl rfl)) rfl ?_
 rintro _ M233 _ hle234 ⟨_, ⟨rfl, rfl⟩, rfl⟩
 have h0_0 := h0_0.mono hle234
 refine WL.a1 ?_
 refine Pu (pt g22 13) (PO.fieldAddr fo35_13 hs164_3 rfl) rfl ?_
 refine WL.f1 ?_
 refine WL.eff (EO.storeL (v := (.string r227)) (vl := [(.string r227)]) (arr' := [(.int .i64 r23), (.int .i64 r52), (.int .i64 r66), (.int .i64 r80), (.int .i64 r94), (.int .i64 r108), (.int .i64 r122), (.int .i64 r136), (.int .i64 r150), (.bool x159), (.string r185), (.string r199), (.string r213), (.string r227), (.slice none 0 0), (.slice none 0 0), (.slice none 0 0), (.slice none 0 0)]) rfl sz9 rfl rfl (onesOf (Ones.cons rfl Ones.nil)) rfl rfl (by kernel_rfl)) rfl ?_
 rintro _ _ _ - ⟨rfl, rfl⟩
 refine Ns ?_
 refine Pm (pt g0 0) hs164_0 rfl ?_
 refine Pm (.int .i64 r23) hs164_4 rfl ?_
 obtain ⟨r236, hr237, h⟩ := bnd h
 refine WL.eff (EO.call0 co34 (f_ref05_has_ok r23 (105 : Int) _ r236 hr237) (args2 rfl rfl)) rfl ?_
 rintro _ M238 _ hle239 ⟨_, ⟨rfl, rfl⟩, rfl⟩
 have h0_0 := h0_0.mono hle239
 refine WL.a0 ?_
 obtain ⟨⟨r241, r242, r243, r244, r245⟩, hr246, h⟩ := bnd h
 refine WL.f1 ?_
 refine WL.eff (EO.call1 co37 (f_ref05_Cursor_brokers_ok (⟨a0.B, (⟨r228, r229, r230, r231⟩ : T_ref02_State)⟩ : T_ref05_Cursor) r236 _ _ _ h0_0 (r241, r242, r243, r244, r245) hr246) (args2 rfl rfl)) rfl ?_
 rintro _ M247 _ hle248 ⟨_, ⟨vq249, cq249, rfl, rfl, hq249⟩, rfl⟩
 have h0_0 := h0_0.mono hle248
 refine WL.a2 ?_
 refine Pu (pt g22 14) (PO.fieldAddr fo35_14 hs164_3 rfl) rfl ?_
 refine WL.f2 ?_
 refine WL.eff (EO.storeL (v := vq249) (vl := [vq249]) (arr' := [(.int .i64 r23), (.int .i64 r52), (.int .i64 r66), (.int .i64 r80), (.int .i64 r94), (.int .i64 r108), (.int .i64 r122), (.int .i64 r136), (.int .i64 r150), (.bool x159), (.string r185), (.string r199), (.string r213), (.string r227), vq249, (.slice none 0 0), (.slice none 0 0), (.slice none 0 0)]) hq249.cells sz33 rfl rfl (onesOf (Ones.cons (OwnS.one hq249) Ones.nil)) rfl rfl (by kernel_rfl)) rfl ?_
 rintro _ _ _ - ⟨rfl, rfl⟩
 refine Ns ?_
 refine Pm (pt g0 0) hs164_0 rfl ?_
 refine Pm (.int .i64 r23) hs164_4 rfl ?_
 obtain ⟨r250, hr251, h⟩ := bnd h
 refine WL.eff (EO.call0 co34 (f_ref05_has_ok r23 (109 : Int) _ r250 hr251) (args2 rfl rfl)) rfl ?_
 rintro _ M252 _ hle253 ⟨_, ⟨rfl, rfl⟩, rfl⟩
 have hq249 := hq249.mono hle253
 have h0_0 := h0_0.mono hle253
 refine WL.a0 ?_
 obtain ⟨⟨r255, r256, r257, r258, r259⟩, hr260, h⟩ := bnd h
 refine WL.f1 ?_
 refine WL.eff (EO.call1 co37 (f_ref05_Cursor_brokers_ok (⟨a0.B, (⟨r242, r243, r244, r245⟩ : T_ref02_State)⟩ : T_ref05_Cursor) r250 _ _ _ h0_0 (r255, r256, r257, r258, r259) hr260) (args2 rfl rfl)) rfl ?_
 rintro _ M261 _ hle262 ⟨_, ⟨vq263, cq263, rfl, rfl, hq263⟩, rfl⟩
 have hq249 := hq249.mono hle262
 have h0_0 := h0_0.mono hle262
 refine WL.a2 ?_
 refine Pu (pt g22 15) (PO.fieldAddr fo35_15 hs164_3 rfl) rfl ?_
 refine WL.f2 ?_
 refine WL.eff (EO.storeL (v := vq263) (vl := [vq263]) (arr' := [(.int .i64 r23), (.int .i64 r52), (.int .i64 r66), (.int .i64 r80), (.int .i64 r94), (.int .i64 r108), (.int .i64 r122), (.int .i64 r136), (.int .i64 r150), (.bool x159), (.string r185), (.string r199), (.string r213), (.string r227), vq249, vq263, (.slice none 0 0), (.slice none 0 0)]) hq263.cells sz33 rfl rfl (onesOf (Ones.cons (OwnS.one hq263) Ones.nil)) rfl rfl (by kernel_rfl)) rfl ?_
 rintro _ _ _ - ⟨rfl, rfl⟩
 refine Ns ?_
 refine Pm (pt g0 0) hs164_0 rfl ?_
 refine Pm (.int .i64 r23) hs164_4 rfl ?_
 obtain ⟨r264, hr265, h⟩ := bnd h
 refine WL.eff (EO.call0 co34 (f_ref05_has_ok r23 (120 : Int) _ r264 hr265) (args2 rfl rfl)) rfl ?_
 rintro _ M266 _ hle267 ⟨_, ⟨rfl, rfl⟩, rfl⟩
 have hq249 := hq249.mono hle267
 have hq263 := hq263.mono hle267
 have h0_0 := h0_0.mono hle267
 refine WL.a0 ?_
 obtain ⟨⟨r269, r270, r271, r272, r273⟩, hr274, h⟩ := bnd h
 refine WL.f1 ?_
 refine WL.eff (EO.call1 co37 (f_ref05_Cursor_brokers_ok (⟨a0.B, (⟨r256, r257, r258, r259⟩ : T_ref02_State)⟩ : T_ref05_Cursor) r264 _ _ _ h0_0 (r269, r270, r271, r272, r273) hr274) (args2 rfl rfl)) rfl ?_
 rintro _ M275 _ hle276 ⟨_, ⟨vq277, cq277, rfl, rfl, hq277⟩, rfl⟩
 have hq249 := hq249.mono hle276
 have hq263 := hq263.mono hle276
 have h0_0 := h0_0.mono hle276
 refine WL.a2 ?_
 refine Pu (pt g22 16) (PO.fieldAddr fo35_16 hs164_3 rfl) rfl ?_
 refine WL.f2 ?_
 refine WL.eff (EO.storeL (v := vq277) (vl := [vq277]) (arr' := [(.int .i64 r23), (.int .i64 r52), (.int .i64 r66), (.int .i64 r80), (.int .i64 r94), (.int .i64 r108), (.int .i64 r122), (.int .i64 r136), (.int .i64 r150), (.bool x159), (.string r185), (.string r199), (.string r213), (.string r227), vq249, vq263, vq277, (.slice none 0 0)]) hq277.cells sz33 rfl rfl (onesOf (Ones.cons (OwnS.one hq277) Ones.nil)) rfl rfl (by kernel_rfl)) rfl ?_
 rintro _ _ _ - ⟨rfl, rfl⟩
 refine Ns ?_
 refine Pm (pt g0 0) hs164_0 rfl ?_
 refine Pm (.int .i64 r23) hs164_4 rfl ?_
 obtain ⟨r278, hr279, h⟩ := bnd h
 refine WL.eff (EO.call0 co34 (f_ref05_has_ok r23 (120 : Int) _ r278 hr279) (args2 rfl rfl)) rfl ?_
 rintro _ M280 _ hle281 ⟨_, ⟨rfl, rfl⟩, rfl⟩
 have hq249 := hq249.mono hle281
 have hq263 := hq263.mono hle281
 have hq277 := hq277.mono hle281
 have h0_0 := h0_0.mono hle281
 refine WL.a0 ?_
 obtain ⟨⟨r283, r284, r285, r286, r287⟩, hr288, h⟩ := bnd h
 refine WL.f1 ?_
 refine WL.eff (EO.call1 co37 (f_ref05_Cursor_brokers_ok (⟨a0.B, (⟨r270, r271, r272, r273⟩ : T_ref02_State)⟩ : T_ref05_Cursor) r278 _ _ _ h0_0 (r283, r284, r285, r286, r287) hr288) (args2 rfl rfl)) rfl ?_
 rintro _ M289 _ hle290 ⟨_, ⟨vq291, cq291, rfl, rfl, hq291⟩, rfl⟩
 have hq249 := hq249.mono hle290
 have hq263 := hq263.mono hle290
 have hq277 := hq277.mono hle290
 have h0_0 := h0_0.mono hle290
 refine WL.a2 ?_
 refine Pu (pt g22 17) (PO.fieldAddr fo35_17 hs164_3 rfl) rfl ?_
 refine WL.f2 ?_
 refine WL.eff (EO.storeL (v := vq291) (vl := [vq291]) (arr' := [(.int .i64 r23), (.int .i64 r52), (.int .i64 r66), (.int .i64 r80), (.int .i64 r94), (.int .i64 r108), (.int .i64 r122), (.int .i64 r136), (.int .i64 r150), (.bool x159), (.string r185), (.string r199), (.string r213), (.string r227), vq249, vq263, vq277, vq291]) hq291.cells sz33 rfl rfl (onesOf (Ones.cons (OwnS.one hq291) Ones.nil)) rfl rfl (by kernel_rfl)) rfl ?_
 rintro _ _ _ - ⟨rfl, rfl⟩
 refine Nt ?_
 obtain ⟨j295, hj295, h⟩ := bnd h
 refine WC.joinF (fun (p_ : (Int × ByteArray × Int)) ρ' M' H' => match p_ with | (x292, x293, x294) => M289.le M' ∧ [(g22, .cells #[(.int .i64 r23), (.int .i64 r52), (.int .i64 r66), (.int .i64 r80), (.int .i64 r94), (.int .i64 r108), (.int .i64 r122), (.int .i64 r136), (.int .i64 r150), (.bool x159), (.string r185), (.string r199), (.string r213), (.string r227), vq249, vq263, vq277, vq291] 35 (0, 0))] :: [(g0, .cells #[v0_0, (.int .i64 r284), (.int .i64 x292), (.string x293), (.int .i64 x294)] 31 (0, 0))] :: [(g21, .cells z35_.toArray 35 (0, 0))] :: cq249 :: cq263 :: cq277 :: cq291 :: F = H' ∧ ρ' 0 = (pt g0 0) ∧ ρ' 2 = (pt g21 0) ∧ ρ' 3 = (pt g22 0)) j295 ?_ ?_
 have h3295 := h
 have h := hj295
 refine Sr ?_
 refine Pm (pt g0 0) hs164_0 rfl ?_
 refine Pu (pt g0 0) (PO.nilCheck rfl) rfl ?_
 refine Pu (pt g0 1) (PO.fieldAddr fo31_1 rfl rfl) rfl ?_
 refine Pu (pt g0 2) (PO.fieldAddr fo29_1 rfl rfl) rfl ?_
 refine Pu (.int .i64 r285) (PO.loadB 1 pl27 rfl rfl rfl) rfl ?_
 refine Pu (.bool (decide (r285 = 0))) (PO.eql rfl rfl) rfl ?_
 refine Nt ?_
 refine WC.cond (b := decide (r285 = 0)) rfl (fun hb296 => ?_) (fun hb296 => ?_)
 have h := ite_t hb296 h
 refine Sr ?_
 refine Pu (.agg #[(.int .i64 r23), (.int .i64 r52), (.int .i64 r66), (.int .i64 r80), (.int .i64 r94), (.int .i64 r108), (.int .i64 r122), (.int .i64 r136), (.int .i64 r150), (.bool x159), (.string r185), (.string r199), (.string r213), (.string r227), vq249, vq263, vq277, vq291]) (PO.loadBA (cs := [(.int .i64 r23), (.int .i64 r52), (.int .i64 r66), (.int .i64 r80), (.int .i64 r94), (.int .i64 r108), (.int .i64 r122), (.int .i64 r136), (.int .i64 r150), (.bool x159), (.string r185), (.string r199), (.string r213), (.string r227), vq249, vq263, vq277, vq291]) 0 ag35 sz35 hs164_3 rfl rfl) rfl ?_
 obtain ⟨r297, hr298, h⟩ := bnd h
 refine WL.f2 ?_
 refine WL.f3 ?_
 refine WL.f4 ?_
 refine WL.f5 ?_
 refine WL.eff (EO.call4 co38 (Tri.lend fun w0_ H0_ hs0_ => (Tri.lend fun w1_ H1_ hs1_ => (Tri.lend fun w2_ H2_ hs2_ => (Tri.lend fun w3_ H3_ hs3_ => (f_ref05_Check_ok (⟨r23, r52, r66, r80, r94, r108, r122, r136, r150, x159, r185, r199, r213, r227, r241, r255, r269, r283⟩ : T_api_Record) _ _ _ _ _ ((((hq249.rs hs0_).mono (IM.le_add _ _)).mono (IM.le_add _ _)).mono (IM.le_add _ _)) ((((hq263.mono (IM.le_add _ _)).rs hs1_).mono (IM.le_add _ _)).mono (IM.le_add _ _)) ((((hq277.mono (IM.le_add _ _)).mono (IM.le_add _ _)).rs hs2_).mono (IM.le_add _ _)) ((((hq291.mono (IM.le_add _ _)).mono (IM.le_add _ _)).mono (IM.le_add _ _)).rs hs3_) r297 hr298))))) (args1 rfl)) rfl ?_
 rintro _ _ _ hle300 ⟨_, ⟨Ml311, Hl312, hll313, rfl, rfl, ⟨Ml308, Hl309, hll310, rfl, rfl, ⟨Ml305, Hl306, hll307, rfl, rfl, ⟨Ml302, Hl303, hll304, rfl, rfl, ⟨rfl, rfl⟩⟩⟩⟩⟩, rfl⟩
 have hq249 := hq249.mono hle300
 have hq263 := hq263.mono hle300
 have hq277 := hq277.mono hle300
 have hq291 := hq291.mono hle300
 have h0_0 := h0_0.mono hle300
 refine WL.a4 ?_
 refine WL.eff (EO.alloc ze44 rfl) rfl ?_
 rintro _ _ _ - ⟨rfl, g314, rfl, rfl⟩
 refine WL.eff (EO.storeL (v := (a44_ r297)) (vl := (l44 r297)) (arr' := (l44 r297)) rfl sz44 rfl rfl (onesOf (Ones.cons rfl (Ones.cons rfl (Ones.cons rfl Ones.nil)))) rfl rfl rfl) rfl ?_
 rintro _ _ _ - ⟨rfl, rfl⟩
 refine Ns ?_
 refine Pu (pt g314 2) (PO.fieldAddr fo44_2 rfl rfl) rfl ?_
 refine Pu (.int .i64 r297.Code) (PO.loadB 0 pl27 rfl rfl rfl) rfl ?_
 refine Pu (.bool (decide (r297.Code ≠ 0))) (PO.neq rfl rfl) rfl ?_
 refine Nt ?_
 refine WC.cond (b := decide (r297.Code ≠ 0)) rfl (fun hb315 => ?_) (fun hb315 => ?_)
 have h := ite_t hb315 h
 refine WC.region ?_
 refine Pm (pt g0 0) hs164_0 rfl ?_
 refine Pu (pt g314 2) (PO.fieldAddr fo44_2 rfl rfl) rfl ?_
 refine Pu (.int .i64 r297.Code) (PO.loadB 0 pl27 rfl rfl rfl) rfl ?_
 obtain ⟨⟨r316, r317, r318⟩, hr319, h⟩ := bnd h
 refine WL.f6 ?_
 refine WL.eff (EO.call1 co32 (f_ref05_Cursor_Refuse_ok (⟨a0.B, (⟨r284, r285, r286, r287⟩ : T_ref02_State)⟩ : T_ref05_Cursor) (⟨#[114, 101, 99, 111, 114, 100]⟩ : ByteArray) r297.Code _ _ _ h0_0 (r316, r317, r318) hr319) (args3 rfl rfl rfl)) rfl ?_
 rintro _ M320 _ hle321 ⟨_, ⟨rfl, rfl⟩, rfl⟩
 have hq249 := hq249.mono hle321
 have hq263 := hq263.mono hle321
 have hq277 := hq277.mono hle321
 have hq291 := hq291.mono hle321
 have h0_0 := h0_0.mono hle321
 refine WL.a1 ?_
 refine WL.nil ?_
 refine WQ.f1 ?_
 refine WQ.drop ?_
 refine WQ.f4 ?_
 refine WQ.f4 ?_
 refine WQ.f4 ?_
 refine WQ.f4 ?_
 refine WQ.f6 ?_
 refine WQ.f5 ?_
 refine WQ.f6 ?_
 obtain rfl := Option.some.inj h
 refine WQ.thenJ ?_
 exact ⟨(hle300.trans hle321), rfl, hs164_0, hs164_2, hs164_3⟩
 have h := ite_f hb315 h
 refine WC.skip ?_
 refine WQ.drop ?_
 refine WQ.f3 ?_
 refine WQ.f3 ?_
 refine WQ.f3 ?_
 refine WQ.f3 ?_
 refine WQ.f6 ?_
 refine WQ.f6 ?_
 refine WQ.f6 ?_
 obtain rfl := Option.some.inj h
 refine WQ.thenJ ?_
 exact ⟨hle300, rfl, hs164_0, hs164_2, hs164_3⟩
 have h := ite_f hb296 h
 refine WC.skip ?_
 refine WQ.f2 ?_
 refine WQ.f3 ?_
 refine WQ.f4 ?_
 refine WQ.f5 ?_
 refine WQ.f6 ?_
 refine WQ.f6 ?_
 refine WQ.f6 ?_
 obtain rfl := Option.some.inj h
 refine WQ.thenJ ?_
 exact ⟨(IM.le.refl _), rfl, hs164_0, hs164_2, hs164_3⟩
 obtain ⟨x292, x293, x294⟩ := j295
 rintro ρ295 M295 H295 ⟨hle295, rfl, hs295_0, hs295_2, hs295_3⟩
 have hq249 := hq249.mono hle295
 have hq263 := hq263.mono hle295
 have hq277 := hq277.mono hle295
 have hq291 := hq291.mono hle295
 have h0_0 := h0_0.mono hle295
 refine WC.seq ?_
 refine Sr ?_
 refine Pm (pt g0 0) hs295_0 rfl ?_
 refine Pu (pt g0 0) (PO.nilCheck rfl) rfl ?_
 refine Pu (pt g0 1) (PO.fieldAddr fo31_1 rfl rfl) rfl ?_
 refine Pu (pt g0 2) (PO.fieldAddr fo29_1 rfl rfl) rfl ?_
 refine Pu (.int .i64 x292) (PO.loadB 1 pl27 rfl rfl rfl) rfl ?_
 refine Pu (.bool (decide (x292 ≠ 0))) (PO.neq rfl rfl) rfl ?_
 refine Nt ?_
 refine WC.cond (b := decide (x292 ≠ 0)) rfl (fun hb322 => ?_) (fun hb322 => ?_)
 have h := ite_t hb322 h
 refine Sr ?_
 refine Pu (.agg z35_.toArray) (PO.buildL (cl := z35_) ze35 fp35 Parts.nil rfl) rfl ?_
 refine WL.f2 ?_
 refine WL.eff (EO.storeL (v := (.agg z35_.toArray)) (vl := z35_) (arr' := z35_) rfl sz35 hs295_2 rfl (onesOf (Ones.cons rfl (Ones.cons rfl (Ones.cons rfl (Ones.cons rfl (Ones.cons rfl (Ones.cons rfl (Ones.cons rfl (Ones.cons rfl (Ones.cons rfl (Ones.cons rfl (Ones.cons rfl (Ones.cons rfl (Ones.cons rfl (Ones.cons rfl (Ones.cons rfl (Ones.cons rfl (Ones.cons rfl (Ones.cons rfl Ones.nil))))))))))))))))))) rfl rfl (by kernel_rfl)) rfl ?_
 rintro _ _ _ - ⟨rfl, rfl⟩
 refine Nt ?_
 refine WC.ret ?_
 refine WQ.thenR ?_
 refine WQ.e0 ?_
 refine WQ.e0 ?_
 refine WQ.e0 ?_
 refine WQ.e0 ?_
 refine WQ.f5 ?_
 refine WQ.drop ?_
 refine WQ.f6 ?_
 refine WQ.drop ?_
 refine WQ.f6 ?_
 refine WQ.drop ?_
 refine WQ.f6 ?_
 refine WQ.drop ?_
 refine WQ.f6 ?_
 refine WQ.drop ?_
 refine WQ.f1 ?_
 refine WQ.f2 ?_
 refine WQ.f3 ?_
 refine WQ.f5 ?_
 refine WQ.f5 ?_
 exact WQ.returnsD h [[(g0, .cells #[v0_0, (.int .i64 r284), (.int .i64 x292), (.string x293), (.int .i64 x294)] 31 (0, 0))], [], [], [], []] (fun _ hs => hs.drop) (resultsL1 rfl (RV.cellA (cs := z35_) 0 ag35 sz35 hs295_2 rfl rfl)) (((((((((((((((((((((((((((((((((((hle30.trans hle35).trans hle50).trans hle59).trans hle64).trans hle73).trans hle78).trans hle87).trans hle92).trans hle101).trans hle106).trans hle115).trans hle120).trans hle129).trans hle134).trans hle143).trans hle148).trans hle157).trans hle164).trans hle183).trans hle192).trans hle197).trans hle206).trans hle211).trans hle220).trans hle225).trans hle234).trans hle239).trans hle248).trans hle253).trans hle262).trans hle267).trans hle276).trans hle281).trans hle290).trans hle295) ⟨(.slice none 0 0), [], (.slice none 0 0), [], (.slice none 0 0), [], (.slice none 0 0), [], rfl, rfl, (OwnS.nil _ _), (OwnS.nil _ _), (OwnS.nil _ _), (OwnS.nil _ _)⟩
 have h := ite_f hb322 h
 refine WC.skip ?_
 refine WQ.thenC ?_
 refine Sr ?_
 refine Pu (.agg #[(.int .i64 r23), (.int .i64 r52), (.int .i64 r66), (.int .i64 r80), (.int .i64 r94), (.int .i64 r108), (.int .i64 r122), (.int .i64 r136), (.int .i64 r150), (.bool x159), (.string r185), (.string r199), (.string r213), (.string r227), vq249, vq263, vq277, vq291]) (PO.loadBA (cs := [(.int .i64 r23), (.int .i64 r52), (.int .i64 r66), (.int .i64 r80), (.int .i64 r94), (.int .i64 r108), (.int .i64 r122), (.int .i64 r136), (.int .i64 r150), (.bool x159), (.string r185), (.string r199), (.string r213), (.string r227), vq249, vq263, vq277, vq291]) 0 ag35 sz35 hs295_3 rfl rfl) rfl ?_
 refine WL.f2 ?_
 refine WL.eff (EO.storeL (v := (.agg #[(.int .i64 r23), (.int .i64 r52), (.int .i64 r66), (.int .i64 r80), (.int .i64 r94), (.int .i64 r108), (.int .i64 r122), (.int .i64 r136), (.int .i64 r150), (.bool x159), (.string r185), (.string r199), (.string r213), (.string r227), vq249, vq263, vq277, vq291])) (vl := [(.int .i64 r23), (.int .i64 r52), (.int .i64 r66), (.int .i64 r80), (.int .i64 r94), (.int .i64 r108), (.int .i64 r122), (.int .i64 r136), (.int .i64 r150), (.bool x159), (.string r185), (.string r199), (.string r213), (.string r227), vq249, vq263, vq277, vq291]) (arr' := [(.int .i64 r23), (.int .i64 r52), (.int .i64 r66), (.int .i64 r80), (.int .i64 r94), (.int .i64 r108), (.int .i64 r122), (.int .i64 r136), (.int .i64 r150), (.bool x159), (.string r185), (.string r199), (.string r213), (.string r227), vq249, vq263, vq277, vq291]) rfl sz35 hs295_2 rfl (onesOf (Ones.cons rfl (Ones.cons rfl (Ones.cons rfl (Ones.cons rfl (Ones.cons rfl (Ones.cons rfl (Ones.cons rfl (Ones.cons rfl (Ones.cons rfl (Ones.cons rfl (Ones.cons rfl (Ones.cons rfl (Ones.cons rfl (Ones.cons rfl (Ones.cons (OwnS.one hq249) (Ones.cons (OwnS.one hq263) (Ones.cons (OwnS.one hq277) (Ones.cons (OwnS.one hq291) Ones.nil))))))))))))))))))) rfl rfl (by kernel_rfl)) rfl ?_
 rintro _ _ _ - ⟨rfl, rfl⟩
 refine Nt ?_
 refine WC.ret ?_
 refine WQ.f1 ?_
 refine WQ.drop ?_
 exact WQ.returnsD h [[(g0, .cells #[v0_0, (.int .i64 r284), (.int .i64 x292), (.string x293), (.int .i64 x294)] 31 (0, 0))], cq249, cq263, cq277, cq291] (fun _ hs => hs.drop) (resultsL1 rfl (RV.cellA (cs := [(.int .i64 r23), (.int .i64 r52), (.int .i64 r66), (.int .i64 r80), (.int .i64 r94), (.int .i64 r108), (.int .i64 r122), (.int .i64 r136), (.int .i64 r150), (.bool x159), (.string r185), (.string r199), (.string r213), (.string r227), vq249, vq263, vq277, vq291]) 0 ag35 sz35 hs295_2 rfl rfl)) (((((((((((((((((((((((((((((((((((hle30.trans hle35).trans hle50).trans hle59).trans hle64).trans hle73).trans hle78).trans hle87).trans hle92).trans hle101).trans hle106).trans hle115).trans hle120).trans hle129).trans hle134).trans hle143).trans hle148).trans hle157).trans hle164).trans hle183).trans hle192).trans hle197).trans hle206).trans hle211).trans hle220).trans hle225).trans hle234).trans hle239).trans hle248).trans hle253).trans hle262).trans hle267).trans hle276).trans hle281).trans hle290).trans hle295) ⟨vq249, cq249, vq263, cq263, vq277, cq277, vq291, cq291, rfl, rfl, hq249, hq263, hq277, hq291⟩

noncomputable def f_ref02_Ints_l0 (a0 : (List Int)) (a1 : (List Int)) (s_ : Int) : Option (Int ⊕ (Unit ⊕ Unit)) :=
  match s_ with
  | x24 =>
    (if (decide (x24 < (a0.length : Int))) = true then (grd (0 ≤ x24 ∧ x24 < a0.length) (grd (0 ≤ x24 ∧ x24 < a1.length) (if (decide ((rd a0 x24) ≠ (rd a1 x24))) = true then (some (Sum.inr (Sum.inr ()))) else (some (Sum.inl (IntKind.i64.wrap (x24 + (1 : Int)))))))) else (some (Sum.inr (Sum.inl ()))))
noncomputable def f_ref02_Ints (a0 : (List Int)) (a1 : (List Int)) : Option Bool :=
  (if (decide ((a0.length : Int) ≠ (a1.length : Int))) = true then (some false) else ((((iter (f_ref02_Ints_l0 a0 a1) (0 : Int)).bind (Sum.elim (fun _ => (some (Sum.inl ()))) (fun _ => (((some false)).bind fun r => some (Sum.inr r))))) : Option (Unit ⊕ Bool)).bind (Sum.elim (fun _ => (some true)) some)))
def f_ref02_Ints_post (a0 : (List Int)) (a1 : (List Int)) (v0 v1 : Value) : Bool → Value → IM → HL → Prop :=
  fun (r0 : Bool) (v : Value) (M' : IM) (H' : HL) => (.bool r0) = v ∧ H' = []
theorem f_ref02_Ints_ok (a0 : (List Int)) (a1 : (List Int)) (M : IM) (v0 v1 : Value) (h0 : RS (Kd.int .i64) M v0 a0) (h1 : RS (Kd.int .i64) M v1 a1) (res : Bool) (h : f_ref02_Ints a0 a1 = some res) :
    Tri Tryz.prog 19 #[v0, v1] M [] (f_ref02_Ints_post a0 a1 v0 v1 res) := by
 unfold f_ref02_Ints at h
 refine Tri.enter (fn := Tryz.f19) Tryz.func19 rfl (Nat.le_of_ble_eq_true rfl) ?_
 intro F ρ hρ
 refine Sr ?_
 refine Pa (.bool false) rfl rfl ?_
 refine Nt ?_
 refine WC.seq ?_
 refine Sr ?_
 refine Pm v0 (hρ 0) rfl ?_
 refine Pu (.int .i64 (a0.length : Int)) (PO.lenS Tryz.underlying33 rfl h0.len) rfl ?_
 refine Pm v1 (hρ 1) rfl ?_
 refine Pu (.int .i64 (a1.length : Int)) (PO.lenS Tryz.underlying33 rfl h1.len) rfl ?_
 refine Pu (.bool (decide ((a0.length : Int) ≠ (a1.length : Int)))) (PO.neq rfl rfl) rfl ?_
 refine Nt ?_
 refine WC.cond (b := decide ((a0.length : Int) ≠ (a1.length : Int))) rfl (fun hb21 => ?_) (fun hb21 => ?_)
 have h := ite_t hb21 h
 refine Sr ?_
 refine Pa (.bool false) rfl rfl ?_
 refine Nt ?_
 refine WC.ret ?_
 refine WQ.thenR ?_
 exact WQ.returnsF h [] rfl (results1 rfl rfl) (IM.le.refl _) ⟨rfl, rfl⟩
 have h := ite_f hb21 h
 refine WC.skip ?_
 refine WQ.thenC ?_
 obtain ⟨j22, hj22, h⟩ := bnd h
 refine WC.joinE (fun (_ : Unit) ρ' M' H' => M.le M' ∧ F = H') j22 ?_ ?_
 have h322 := h
 have h := hj22
 refine Sr ?_
 refine Pa (.int .i64 0) rfl rfl ?_
 refine Nt ?_
 refine WC.block ?_
 obtain ⟨e23, he23, hK23⟩ := bnd h
 clear h
 refine WC.loop he23 (fun (x24 : Int) ρ' M' H' => M.le M' ∧ F = H' ∧ ρ' 0 = v0 ∧ ρ' 1 = v1 ∧ ρ' 5 = (.int .i64 x24)) ?_ ?_
 exact ⟨(IM.le.refl _), rfl, (hρ 0), (hρ 1), rfl⟩
 rintro x24 o23 ρ23 M23 H23 h ⟨hle23, rfl, hs23_0, hs23_1, hs23_5⟩
 unfold f_ref02_Ints_l0 at h
 have h0 := h0.mono hle23
 have h1 := h1.mono hle23
 refine WC.seq ?_
 refine Sr ?_
 refine Pm (.int .i64 x24) hs23_5 rfl ?_
 refine Pm v0 hs23_0 rfl ?_
 refine Pu (.int .i64 (a0.length : Int)) (PO.lenS Tryz.underlying33 rfl h0.len) rfl ?_
 refine Pu (.bool (decide (x24 < (a0.length : Int)))) (PO.lss rfl rfl) rfl ?_
 refine Nt ?_
 refine WC.cond (b := decide (x24 < (a0.length : Int))) rfl (fun hb25 => ?_) (fun hb25 => ?_)
 have h := ite_t hb25 h
 refine WC.skip ?_
 refine WQ.thenC ?_
 refine WC.seq ?_
 refine WC.block ?_
 refine WC.seq ?_
 refine WC.draw [0, 0, 3, 7, 0, 0, 48, 112, 255] (.pure 0 (.pure 1 (.pure 2 (.pure 3 (.pure 4 (.pure 5 (.pure 6 (.pure 7 (.pure 8 .done))))))))) mixed (by kernel_rfl) ?_
 refine Tp v0 rfl (PO.move hs23_0) rfl ?_
 refine Tp (.int .i64 x24) rfl (PO.move hs23_5) rfl ?_
 obtain ⟨hg26, h⟩ := grd_i h
 obtain ⟨p27, cs28, hat29, hrc30, hhas31⟩ := h0.at hg26.1 hg26.2 (by decide)
 obtain rfl := hrc30
 refine Tp (.pointer (some p27)) rfl (PO.indexAddr (n := a0.length) Tryz.underlying33 sz3 rfl rfl hg26.1 hg26.2 hat29) rfl ?_
 refine Tp (.int .i64 (rd a0 x24)) rfl (PO.loadM pl3 rfl (IM.has0 hhas31)) rfl ?_
 refine Tp v1 rfl (PO.move hs23_1) rfl ?_
 refine Tp (.int .i64 x24) rfl (PO.move hs23_5) rfl ?_
 obtain ⟨hg33, h⟩ := grd_i h
 obtain ⟨p34, cs35, hat36, hrc37, hhas38⟩ := h1.at hg33.1 hg33.2 (by decide)
 obtain rfl := hrc37
 refine Tp (.pointer (some p34)) rfl (PO.indexAddr (n := a1.length) Tryz.underlying33 sz3 rfl rfl hg33.1 hg33.2 hat36) rfl ?_
 refine Tp (.int .i64 (rd a1 x24)) rfl (PO.loadM pl3 rfl (IM.has0 hhas38)) rfl ?_
 refine Tp (.bool (decide ((rd a0 x24) ≠ (rd a1 x24)))) rfl (PO.neq rfl rfl) rfl ?_
 refine WT.fin ?_
 refine WQ.thenC ?_
 refine WC.cond (b := decide ((rd a0 x24) ≠ (rd a1 x24))) rfl (fun hb40 => ?_) (fun hb40 => ?_)
 have h := ite_t hb40 h
 refine Sr ?_
 refine Pa (.bool false) rfl rfl ?_
 refine Nt ?_
 refine WC.ret ?_
 refine WQ.blockR ?_
 refine WQ.thenR ?_
 refine WQ.leaveR (Sum.inr ()) (Option.some.inj h).symm (fun heq23 => ?_)
 subst heq23
 have h := (elimR hK23)
 refine WQ.blockR ?_
 refine WQ.thenR ?_
 have h := KK.early h h322
 exact WQ.returnsF h [] rfl (results1 rfl rfl) hle23 ⟨rfl, rfl⟩
 have h := ite_f hb40 h
 refine WC.skip ?_
 refine WQ.blockN ?_
 refine WQ.thenC ?_
 refine WC.region ?_
 refine Pm (.int .i64 x24) hs23_5 rfl ?_
 refine Pu (.int .i64 (IntKind.i64.wrap (x24 + 1))) (PO.add rfl rfl) rfl ?_
 refine Pa (.int .i64 (IntKind.i64.wrap (x24 + 1))) rfl rfl ?_
 refine WL.nil ?_
 refine WQ.again (IntKind.i64.wrap (x24 + 1)) (Option.some.inj h).symm ?_
 exact ⟨hle23, rfl, hs23_0, hs23_1, rfl⟩
 have h := ite_f hb25 h
 refine WC.exit ?_
 refine WQ.thenE ?_
 refine WQ.leaveE (Sum.inl ()) (Option.some.inj h).symm (fun heq23 => ?_)
 subst heq23
 have h := elimL hK23
 refine WQ.blockH ?_
 refine WQ.thenFE h ?_
 exact ⟨hle23, rfl⟩
 rintro _ ρ22 M22 H22 rfl ⟨hle22, rfl⟩
 have h := (Sum.elim_inl _ _ _).symm.trans h
 refine Sr ?_
 refine Pa (.bool true) rfl rfl ?_
 refine Nt ?_
 refine WC.ret ?_
 exact WQ.returnsF h [] rfl (results1 rfl rfl) hle22 ⟨rfl, rfl⟩


end Go.Proofs.YtafkdjljkolehaaGreatDoor.G
