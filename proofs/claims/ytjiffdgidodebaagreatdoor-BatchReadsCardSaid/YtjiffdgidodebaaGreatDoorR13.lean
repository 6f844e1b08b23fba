/- Go functions: what they come to, and that they do. Printed by a program of the session (gen). -/
import Derived.Test.YtjiffdgidodebaaGreatDoorRF
import Derived.Test.YtjiffdgidodebaaGreatDoorR12
import Derived.Test.YtjiffdgidodebaaGreatDoorKShar2
import Derived.Test.YtjiffdgidodebaaGreatDoorKConv
import Derived.Test.YtjiffdgidodebaaGreatDoorKTight
set_option linter.unusedVariables false
set_option linter.unusedSimpArgs false
set_option maxHeartbeats 8000000
set_option maxRecDepth 100000
namespace Go.Proofs.YtjiffdgidodebaaGreatDoor.G
open Go Go.KK

noncomputable def f_ref05_Read (a0 : T_ref05_Cursor) : Option (T_api_Record × Int × Int × ByteArray × Int) :=
  ((f_ref05_Cursor_Int a0 (63 : Int)).bind fun (r23, r24, r25, r26, r27) => (((((if (decide (r25 = (0 : Int))) = true then (if (decide (r23 < (1 : Int))) = true then (some true) else (some (decide ((12 : Int) < r23)))) else (some false)) : Option Bool).bind fun (x36 : Bool) => (if x36 = true then ((f_ref05_Cursor_Refuse (⟨a0.B, (⟨r24, r25, r26, r27⟩ : T_ref02_State)⟩ : T_ref05_Cursor) (⟨#[107, 105, 110, 100]⟩ : ByteArray) (5 : Int)).bind fun (r41, r42, r43) => (some (r41, r42, r43))) else (some (r25, r26, r27)))) : Option (Int × ByteArray × Int)).bind fun (x32, x33, x34) => ((f_ref05_has r23 (98 : Int)).bind fun (r47 : Bool) => ((f_ref05_Cursor_some (⟨a0.B, (⟨r24, x32, x33, x34⟩ : T_ref02_State)⟩ : T_ref05_Cursor) r47).bind fun (r52, r53, r54, r55, r56) => ((f_ref05_has r23 (101 : Int)).bind fun (r61 : Bool) => ((f_ref05_Cursor_some (⟨a0.B, (⟨r53, r54, r55, r56⟩ : T_ref02_State)⟩ : T_ref05_Cursor) r61).bind fun (r66, r67, r68, r69, r70) => ((f_ref05_has r23 (116 : Int)).bind fun (r75 : Bool) => ((f_ref05_Cursor_some (⟨a0.B, (⟨r67, r68, r69, r70⟩ : T_ref02_State)⟩ : T_ref05_Cursor) r75).bind fun (r80, r81, r82, r83, r84) => ((f_ref05_has r23 (112 : Int)).bind fun (r89 : Bool) => ((f_ref05_Cursor_some (⟨a0.B, (⟨r81, r82, r83, r84⟩ : T_ref02_State)⟩ : T_ref05_Cursor) r89).bind fun (r94, r95, r96, r97, r98) => ((f_ref05_has r23 (108 : Int)).bind fun (r103 : Bool) => ((f_ref05_Cursor_some (⟨a0.B, (⟨r95, r96, r97, r98⟩ : T_ref02_State)⟩ : T_ref05_Cursor) r103).bind fun (r108, r109, r110, r111, r112) => ((f_ref05_has r23 (97 : Int)).bind fun (r117 : Bool) => ((f_ref05_Cursor_some (⟨a0.B, (⟨r109, r110, r111, r112⟩ : T_ref02_State)⟩ : T_ref05_Cursor) r117).bind fun (r122, r123, r124, r125, r126) => ((f_ref05_has r23 (97 : Int)).bind fun (r131 : Bool) => ((f_ref05_Cursor_some (⟨a0.B, (⟨r123, r124, r125, r126⟩ : T_ref02_State)⟩ : T_ref05_Cursor) r131).bind fun (r136, r137, r138, r139, r140) => ((f_ref05_has r23 (97 : Int)).bind fun (r145 : Bool) => ((f_ref05_Cursor_some (⟨a0.B, (⟨r137, r138, r139, r140⟩ : T_ref02_State)⟩ : T_ref05_Cursor) r145).bind fun (r150, r151, r152, r153, r154) => ((((f_ref05_has r23 (102 : Int)).bind fun (r165 : Bool) => (if r165 = true then ((f_ref05_Cursor_Flag (⟨a0.B, (⟨r151, r152, r153, r154⟩ : T_ref02_State)⟩ : T_ref05_Cursor)).bind fun (r171, r172, r173, r174, r175) => (some (r171, r172, r173, r174, r175))) else (some (false, r151, r152, r153, r154)))) : Option (Bool × Int × Int × ByteArray × Int)).bind fun (x159, x160, x161, x162, x163) => ((f_ref05_has r23 (110 : Int)).bind fun (r180 : Bool) => ((f_ref05_Cursor_word (⟨a0.B, (⟨x160, x161, x162, x163⟩ : T_ref02_State)⟩ : T_ref05_Cursor) r180).bind fun (r185, r186, r187, r188, r189) => ((f_ref05_has r23 (107 : Int)).bind fun (r194 : Bool) => ((f_ref05_Cursor_word (⟨a0.B, (⟨r186, r187, r188, r189⟩ : T_ref02_State)⟩ : T_ref05_Cursor) r194).bind fun (r199, r200, r201, r202, r203) => ((f_ref05_has r23 (118 : Int)).bind fun (r208 : Bool) => ((f_ref05_Cursor_word (⟨a0.B, (⟨r200, r201, r202, r203⟩ : T_ref02_State)⟩ : T_ref05_Cursor) r208).bind fun (r213, r214, r215, r216, r217) => ((f_ref05_has r23 (114 : Int)).bind fun (r222 : Bool) => ((f_ref05_Cursor_word (⟨a0.B, (⟨r214, r215, r216, r217⟩ : T_ref02_State)⟩ : T_ref05_Cursor) r222).bind fun (r227, r228, r229, r230, r231) => ((f_ref05_has r23 (105 : Int)).bind fun (r236 : Bool) => ((f_ref05_Cursor_brokers (⟨a0.B, (⟨r228, r229, r230, r231⟩ : T_ref02_State)⟩ : T_ref05_Cursor) r236).bind fun (r241, r242, r243, r244, r245) => ((f_ref05_has r23 (109 : Int)).bind fun (r250 : Bool) => ((f_ref05_Cursor_brokers (⟨a0.B, (⟨r242, r243, r244, r245⟩ : T_ref02_State)⟩ : T_ref05_Cursor) r250).bind fun (r255, r256, r257, r258, r259) => ((f_ref05_has r23 (120 : Int)).bind fun (r264 : Bool) => ((f_ref05_Cursor_brokers (⟨a0.B, (⟨r256, r257, r258, r259⟩ : T_ref02_State)⟩ : T_ref05_Cursor) r264).bind fun (r269, r270, r271, r272, r273) => ((f_ref05_has r23 (120 : Int)).bind fun (r278 : Bool) => ((f_ref05_Cursor_brokers (⟨a0.B, (⟨r270, r271, r272, r273⟩ : T_ref02_State)⟩ : T_ref05_Cursor) r278).bind fun (r283, r284, r285, r286, r287) => (((if (decide (r285 = (0 : Int))) = true then ((f_ref05_Check (⟨r23, r52, r66, r80, r94, r108, r122, r136, r150, x159, r185, r199, r213, r227, r241, r255, r269, r283⟩ : T_api_Record)).bind fun (r297 : T_ref05_Wrong) => (if (decide (r297.Code ≠ (0 : Int))) = true then ((f_ref05_Cursor_Refuse (⟨a0.B, (⟨r284, r285, r286, r287⟩ : T_ref02_State)⟩ : T_ref05_Cursor) (⟨#[114, 101, 99, 111, 114, 100]⟩ : ByteArray) r297.Code).bind fun (r316, r317, r318) => (some (r316, r317, r318))) else (some (r285, r286, r287)))) else (some (r285, r286, r287))) : Option (Int × ByteArray × Int)).bind fun (x292, x293, x294) => (if (decide (x292 ≠ (0 : Int))) = true then (some ((⟨(0 : Int), (0 : Int), (0 : Int), (0 : Int), (0 : Int), (0 : Int), (0 : Int), (0 : Int), (0 : Int), false, (⟨#[]⟩ : ByteArray), (⟨#[]⟩ : ByteArray), (⟨#[]⟩ : ByteArray), (⟨#[]⟩ : ByteArray), [], [], [], []⟩ : T_api_Record), r284, x292, x293, x294)) else (some ((⟨r23, r52, r66, r80, r94, r108, r122, r136, r150, x159, r185, r199, r213, r227, r241, r255, r269, r283⟩ : T_api_Record), r284, x292, x293, x294)))))))))))))))))))))))))))))))))))))))
def f_ref05_Read_post (a0 : T_ref05_Cursor) (v0_0 : Value) (g0 : Nat) : (T_api_Record × Int × Int × ByteArray × Int) → Value → IM → HL → Prop :=
  fun (p_ : (T_api_Record × Int × Int × ByteArray × Int)) (v : Value) (M' : IM) (H' : HL) => match p_ with | (r0, r1, r2, r3, r4) => ∃ vz0_14 cz0_14 vz0_15 cz0_15 vz0_16 cz0_16 vz0_17 cz0_17, (.agg #[(.int .i64 r0.Kind), (.int .i64 r0.Broker), (.int .i64 r0.Epoch), (.int .i64 r0.Topic), (.int .i64 r0.Part), (.int .i64 r0.Leader), (.int .i64 r0.Client), (.int .i64 r0.Serial), (.int .i64 r0.Code), (.bool r0.Flag), (.string r0.Name), (.string r0.Key), (.string r0.Value), (.string r0.Rack), vz0_14, vz0_15, vz0_16, vz0_17]) = v ∧ H' = [[(g0, .cells #[v0_0, (.int .i64 r1), (.int .i64 r2), (.string r3), (.int .i64 r4)] 57 (0, 0))], cz0_14, cz0_15, cz0_16, cz0_17] ∧ OwnS (Kd.int .i64) M' vz0_14 r0.Ids cz0_14 ∧ OwnS (Kd.int .i64) M' vz0_15 r0.Isr cz0_15 ∧ OwnS (Kd.int .i64) M' vz0_16 r0.Add cz0_16 ∧ OwnS (Kd.int .i64) M' vz0_17 r0.Drop cz0_17
theorem f_ref05_Read_ok (a0 : T_ref05_Cursor) (M : IM) (v0_0 : Value) (g0 : Nat) (h0_0 : RS (Kd.int .u8) M v0_0 a0.B) (res : (T_api_Record × Int × Int × ByteArray × Int)) (h : f_ref05_Read a0 = some res) :
    Tri Tryz.prog 49 #[(pt g0 0)] M [[(g0, .cells (l57 a0 v0_0).toArray 57 (0, 0))]] (f_ref05_Read_post a0 v0_0 g0 res) := by
 unfold f_ref05_Read at h
 refine Te Tryz.func49 rfl rfl ?_
 intro F ρ hρ
 refine Sr (We (Al ze67 rfl) rfl ?_)
 rintro _ _ _ - ⟨rfl, g21, rfl, rfl⟩
 refine Ns (Pu (.agg z67_.toArray) (Bl (cl := z67_) ze67 fp67 Pz rfl) rfl (We (Al ze67 rfl) rfl ?_))
 rintro _ _ _ - ⟨rfl, g22, rfl, rfl⟩
 refine We (Sg (v := (.agg z67_.toArray)) (vl := z67_) (arr' := z67_) rfl sz67 rfl rfl (onb rfl) rfl rfl (by kernel_rfl)) rfl ?_
 rintro _ _ _ - ⟨rfl, rfl⟩
 refine Ns (Pm (pt g0 0) (hρ 0) rfl ?_)
 obtain ⟨⟨r23, r24, r25, r26, r27⟩, hr28, h⟩ := bnd h
 refine Wb (We (Cb co47 (f_ref05_Cursor_Int_ok a0 (63 : Int) _ _ _ h0_0 (r23, r24, r25, r26, r27) hr28) (args2 rfl rfl)) rfl ?_)
 rintro _ M29 _ hle30 ⟨_, ⟨rfl, rfl⟩, rfl⟩
 refine WL.a1 (Pu (pt g22 0) (Fa fo67_0 rfl rfl) rfl (WL.f1 (We (Es (Iv r23) [(Iv r23), (Iv 0), (Iv 0), (Iv 0), (Iv 0), (Iv 0), (Iv 0), (Iv 0), (Iv 0), (Bv false), (Sv ⟨#[]⟩), (Sv ⟨#[]⟩), (Sv ⟨#[]⟩), (Sv ⟨#[]⟩), Zs, Zs, Zs, Zs] rfl sz3 rfl rfl rfl rfl rfl (by kernel_rfl)) rfl ?_)))
 rintro _ _ _ - ⟨rfl, rfl⟩
 refine Nt ?_
 obtain ⟨j35, hj35, h⟩ := bnd h
 refine Jf (fun (p_ : (Int × ByteArray × Int)) ρ' M' H' => match p_ with | (x32, x33, x34) => M29.le M' ∧ [(g22, .cells #[(Iv r23), (Iv 0), (Iv 0), (Iv 0), (Iv 0), (Iv 0), (Iv 0), (Iv 0), (Iv 0), (Bv false), (Sv ⟨#[]⟩), (Sv ⟨#[]⟩), (Sv ⟨#[]⟩), (Sv ⟨#[]⟩), Zs, Zs, Zs, Zs] 67 (0, 0))] :: [(g0, .cells #[v0_0, (Iv r24), (Iv x32), (Sv x33), (Iv x34)] 57 (0, 0))] :: [(g21, .cells z67_.toArray 67 (0, 0))] :: F = H' ∧ ρ' 0 = (pt g0 0) ∧ ρ' 2 = (pt g21 0) ∧ ρ' 3 = (pt g22 0)) j35 ?_ ?_
 have h335 := h
 have h := hj35
 obtain ⟨x36, hj37, h⟩ := bnd h
 refine Jf (fun (x36 : Bool) ρ' M' H' => M29.le M' ∧ [(g22, .cells #[(Iv r23), (Iv 0), (Iv 0), (Iv 0), (Iv 0), (Iv 0), (Iv 0), (Iv 0), (Iv 0), (Bv false), (Sv ⟨#[]⟩), (Sv ⟨#[]⟩), (Sv ⟨#[]⟩), (Sv ⟨#[]⟩), Zs, Zs, Zs, Zs] 67 (0, 0))] :: [(g0, .cells #[v0_0, (Iv r24), (Iv r25), (Sv r26), (Iv r27)] 57 (0, 0))] :: [(g21, .cells z67_.toArray 67 (0, 0))] :: F = H' ∧ ρ' 0 = (pt g0 0) ∧ ρ' 2 = (pt g21 0) ∧ ρ' 3 = (pt g22 0) ∧ ρ' 25 = (Bv x36)) x36 ?_ ?_
 have h337 := h
 have h := hj37
 refine Cg (Pm (pt g0 0) (hρ 0) rfl (Pu (pt g0 0) (Nk rfl) rfl (Pu (pt g0 1) (Fa fo57_1 rfl rfl) rfl (Pu (pt g0 2) (Fa fo50_1 rfl rfl) rfl (Pu (Iv r25) (Lb 1 pl31 rfl rfl rfl) rfl (Pu (Bv (decide (r25 = 0))) (PO.eql rfl rfl) rfl (Pm (Bv (decide (r25 = 0))) rfl rfl ?_)))))))
 rcases Bt (decide (r25 = 0)) with hb38 | hb38
 have h := ite_t hb38 h
 refine On 16 rfl rfl hb38 (Pu (pt g22 0) (Fa fo67_0 rfl rfl) rfl (On 16 rfl rfl hb38 (Pu (Iv r23) (Lb 0 pl3 rfl rfl rfl) rfl (On 16 rfl rfl hb38 (Pu (Bv (decide (r23 < 1))) (PO.lss rfl rfl) rfl (On 16 rfl rfl hb38 (Pm (Bv (decide (r23 < 1))) rfl rfl ?_)))))))
 rcases Bt (decide (r23 < 1)) with hb39 | hb39
 have h := ite_t hb39 h
 iterate 3 refine Of 20 rfl rfl hb39 rfl ?_
 refine On 16 rfl rfl hb38 (Pu (Bv true) (Pt rfl hb39 rfl) rfl (Pu (Bv true) (Pt rfl hb38 rfl) rfl (Wz ?_)))
 obtain rfl := oi h
 exact Tj ⟨lr, rfl, (hρ 0), rfl, rfl, rfl⟩
 have h := ite_f hb39 h
 refine On 20 rfl rfl hb39 (Pu (pt g22 0) (Fa fo67_0 rfl rfl) rfl (On 20 rfl rfl hb39 (Pu (Iv r23) (Lb 0 pl3 rfl rfl rfl) rfl (On 20 rfl rfl hb39 (Pu (Bv (decide ((12 : Int) < r23))) (PO.gtr rfl rfl) rfl (On 16 rfl rfl hb38 (Pu (Bv (decide ((12 : Int) < r23))) (Pf rfl hb39 rfl) rfl (Pu (Bv (decide ((12 : Int) < r23))) (Pt rfl hb38 rfl) rfl (Wz ?_)))))))))
 obtain rfl := oi h
 exact Tj ⟨lr, rfl, (hρ 0), rfl, rfl, rfl⟩
 have h := ite_f hb38 h
 iterate 4 refine Of 16 rfl rfl hb38 rfl ?_
 refine WL.offU 20 rfl rfl rfl (WL.offU 20 rfl rfl rfl (WL.offU 20 rfl rfl rfl (Of 16 rfl rfl hb38 rfl (Pu (Bv false) (Pf rfl hb38 rfl) rfl (Wz ?_)))))
 obtain rfl := oi h
 exact Tj ⟨lr, rfl, (hρ 0), rfl, rfl, rfl⟩
 rintro ρ37 M37 H37 ⟨hle37, rfl, hs37_0, hs37_2, hs37_3, hs37_25⟩
 refine Cd (b := x36) hs37_25 (fun hb40 => ?_) (fun hb40 => ?_)
 have h := ite_t hb40 h
 refine Cg (Pm (pt g0 0) hs37_0 rfl ?_)
 obtain ⟨⟨r41, r42, r43⟩, hr44, h⟩ := bnd h
 refine WL.f1 ?_
 have h0_0 := h0_0.mono (hle30.trans hle37)
 refine We (Cb co48 (f_ref05_Cursor_Refuse_ok (⟨a0.B, (⟨r24, r25, r26, r27⟩ : T_ref02_State)⟩ : T_ref05_Cursor) (⟨#[107, 105, 110, 100]⟩ : ByteArray) (5 : Int) _ _ _ h0_0 (r41, r42, r43) hr44) (args3 rfl rfl rfl)) rfl ?_
 rintro _ M45 _ hle46 ⟨_, ⟨rfl, rfl⟩, rfl⟩
 refine WL.a1 (Wz (Qb (Qa (Qb ?_))))
 obtain rfl := oi h
 exact Tj ⟨(hle37.trans hle46), rfl, hs37_0, hs37_2, hs37_3⟩
 have h := ite_f hb40 h
 refine Ck ?_
 obtain rfl := oi h
 exact Tj ⟨hle37, rfl, hs37_0, hs37_2, hs37_3⟩
 obtain ⟨x32, x33, x34⟩ := j35
 rintro ρ35 M35 H35 ⟨hle35, rfl, hs35_0, hs35_2, hs35_3⟩
 refine Sr (Pu (pt g22 0) (Fa fo67_0 hs35_3 rfl) rfl (Pu (Iv r23) (Lb 0 pl3 rfl rfl rfl) rfl (Pa (Iv r23) rfl rfl (Ns (Pm (pt g0 0) hs35_0 rfl (Pm (Iv r23) rfl rfl ?_))))))
 obtain ⟨r47, hr48, h⟩ := bnd h
 refine We (Ca co61 (f_ref05_has_ok r23 (98 : Int) _ r47 hr48) (args2 rfl rfl)) rfl ?_
 rintro _ M49 _ hle50 ⟨_, ⟨rfl, rfl⟩, rfl⟩
 refine WL.a0 ?_
 obtain ⟨⟨r52, r53, r54, r55, r56⟩, hr57, h⟩ := bnd h
 refine WL.f1 ?_
 have h0_0 := h0_0.mono ((hle30.trans hle35).trans hle50)
 refine We (Cb co88 (f_ref05_Cursor_some_ok (⟨a0.B, (⟨r24, x32, x33, x34⟩ : T_ref02_State)⟩ : T_ref05_Cursor) r47 _ _ _ h0_0 (r52, r53, r54, r55, r56) hr57) (args2 rfl rfl)) rfl ?_
 rintro _ M58 _ hle59 ⟨_, ⟨rfl, rfl⟩, rfl⟩
 refine WL.a1 (Pu (pt g22 1) (Fa fo67_1 hs35_3 rfl) rfl (WL.f1 (We (Es (Iv r52) [(Iv r23), (Iv r52), (Iv 0), (Iv 0), (Iv 0), (Iv 0), (Iv 0), (Iv 0), (Iv 0), (Bv false), (Sv ⟨#[]⟩), (Sv ⟨#[]⟩), (Sv ⟨#[]⟩), (Sv ⟨#[]⟩), Zs, Zs, Zs, Zs] rfl sz3 rfl rfl rfl rfl rfl (by kernel_rfl)) rfl ?_)))
 rintro _ _ _ - ⟨rfl, rfl⟩
 refine Ns (Pm (pt g0 0) hs35_0 rfl (Pm (Iv r23) rfl rfl ?_))
 obtain ⟨r61, hr62, h⟩ := bnd h
 refine We (Ca co61 (f_ref05_has_ok r23 (101 : Int) _ r61 hr62) (args2 rfl rfl)) rfl ?_
 rintro _ M63 _ hle64 ⟨_, ⟨rfl, rfl⟩, rfl⟩
 refine WL.a0 ?_
 obtain ⟨⟨r66, r67, r68, r69, r70⟩, hr71, h⟩ := bnd h
 refine WL.f1 ?_
 have h0_0 := h0_0.mono (hle59.trans hle64)
 refine We (Cb co88 (f_ref05_Cursor_some_ok (⟨a0.B, (⟨r53, r54, r55, r56⟩ : T_ref02_State)⟩ : T_ref05_Cursor) r61 _ _ _ h0_0 (r66, r67, r68, r69, r70) hr71) (args2 rfl rfl)) rfl ?_
 rintro _ M72 _ hle73 ⟨_, ⟨rfl, rfl⟩, rfl⟩
 refine WL.a1 (Pu (pt g22 2) (Fa fo67_2 hs35_3 rfl) rfl (WL.f1 (We (Es (Iv r66) [(Iv r23), (Iv r52), (Iv r66), (Iv 0), (Iv 0), (Iv 0), (Iv 0), (Iv 0), (Iv 0), (Bv false), (Sv ⟨#[]⟩), (Sv ⟨#[]⟩), (Sv ⟨#[]⟩), (Sv ⟨#[]⟩), Zs, Zs, Zs, Zs] rfl sz3 rfl rfl rfl rfl rfl (by kernel_rfl)) rfl ?_)))
 rintro _ _ _ - ⟨rfl, rfl⟩
 refine Ns (Pm (pt g0 0) hs35_0 rfl (Pm (Iv r23) rfl rfl ?_))
 obtain ⟨r75, hr76, h⟩ := bnd h
 refine We (Ca co61 (f_ref05_has_ok r23 (116 : Int) _ r75 hr76) (args2 rfl rfl)) rfl ?_
 rintro _ M77 _ hle78 ⟨_, ⟨rfl, rfl⟩, rfl⟩
 refine WL.a0 ?_
 obtain ⟨⟨r80, r81, r82, r83, r84⟩, hr85, h⟩ := bnd h
 refine WL.f1 ?_
 have h0_0 := h0_0.mono (hle73.trans hle78)
 refine We (Cb co88 (f_ref05_Cursor_some_ok (⟨a0.B, (⟨r67, r68, r69, r70⟩ : T_ref02_State)⟩ : T_ref05_Cursor) r75 _ _ _ h0_0 (r80, r81, r82, r83, r84) hr85) (args2 rfl rfl)) rfl ?_
 rintro _ M86 _ hle87 ⟨_, ⟨rfl, rfl⟩, rfl⟩
 refine WL.a1 (Pu (pt g22 3) (Fa fo67_3 hs35_3 rfl) rfl (WL.f1 (We (Es (Iv r80) [(Iv r23), (Iv r52), (Iv r66), (Iv r80), (Iv 0), (Iv 0), (Iv 0), (Iv 0), (Iv 0), (Bv false), (Sv ⟨#[]⟩), (Sv ⟨#[]⟩), (Sv ⟨#[]⟩), (Sv ⟨#[]⟩), Zs, Zs, Zs, Zs] rfl sz3 rfl rfl rfl rfl rfl (by kernel_rfl)) rfl ?_)))
 rintro _ _ _ - ⟨rfl, rfl⟩
 refine Ns (Pm (pt g0 0) hs35_0 rfl (Pm (Iv r23) rfl rfl ?_))
 obtain ⟨r89, hr90, h⟩ := bnd h
 refine We (Ca co61 (f_ref05_has_ok r23 (112 : Int) _ r89 hr90) (args2 rfl rfl)) rfl ?_
 rintro _ M91 _ hle92 ⟨_, ⟨rfl, rfl⟩, rfl⟩
 refine WL.a0 ?_
 obtain ⟨⟨r94, r95, r96, r97, r98⟩, hr99, h⟩ := bnd h
 refine WL.f1 ?_
 have h0_0 := h0_0.mono (hle87.trans hle92)
 refine We (Cb co88 (f_ref05_Cursor_some_ok (⟨a0.B, (⟨r81, r82, r83, r84⟩ : T_ref02_State)⟩ : T_ref05_Cursor) r89 _ _ _ h0_0 (r94, r95, r96, r97, r98) hr99) (args2 rfl rfl)) rfl ?_
 rintro _ M100 _ hle101 ⟨_, ⟨rfl, rfl⟩, rfl⟩
 refine WL.a1 (Pu (pt g22 4) (Fa fo67_4 hs35_3 rfl) rfl (WL.f1 (We (Es (Iv r94) [(Iv r23), (Iv r52), (Iv r66), (Iv r80), (Iv r94), (Iv 0), (Iv 0), (Iv 0), (Iv 0), (Bv false), (Sv ⟨#[]⟩), (Sv ⟨#[]⟩), (Sv ⟨#[]⟩), (Sv ⟨#[]⟩), Zs, Zs, Zs, Zs] rfl sz3 rfl rfl rfl rfl rfl (by kernel_rfl)) rfl ?_)))
 rintro _ _ _ - ⟨rfl, rfl⟩
 refine Ns (Pm (pt g0 0) hs35_0 rfl (Pm (Iv r23) rfl rfl ?_))
 obtain ⟨r103, hr104, h⟩ := bnd h
 refine We (Ca co61 (f_ref05_has_ok r23 (108 : Int) _ r103 hr104) (args2 rfl rfl)) rfl ?_
 rintro _ M105 _ hle106 ⟨_, ⟨rfl, rfl⟩, rfl⟩
 refine WL.a0 ?_
 obtain ⟨⟨r108, r109, r110, r111, r112⟩, hr113, h⟩ := bnd h
 refine WL.f1 ?_
 have h0_0 := h0_0.mono (hle101.trans hle106)
 refine We (Cb co88 (f_ref05_Cursor_some_ok (⟨a0.B, (⟨r95, r96, r97, r98⟩ : T_ref02_State)⟩ : T_ref05_Cursor) r103 _ _ _ h0_0 (r108, r109, r110, r111, r112) hr113) (args2 rfl rfl)) rfl ?_
 rintro _ M114 _ hle115 ⟨_, ⟨rfl, rfl⟩, rfl⟩
 refine WL.a1 (Pu (pt g22 5) (Fa fo67_5 hs35_3 rfl) rfl (WL.f1 (We (Es (Iv r108) [(Iv r23), (Iv r52), (Iv r66), (Iv r80), (Iv r94), (Iv r108), (Iv 0), (Iv 0), (Iv 0), (Bv false), (Sv ⟨#[]⟩), (Sv ⟨#[]⟩), (Sv ⟨#[]⟩), (Sv ⟨#[]⟩), Zs, Zs, Zs, Zs] rfl sz3 rfl rfl rfl rfl rfl (by kernel_rfl)) rfl ?_)))
 rintro _ _ _ - ⟨rfl, rfl⟩
 refine Ns (Pm (pt g0 0) hs35_0 rfl (Pm (Iv r23) rfl rfl ?_))
 obtain ⟨r117, hr118, h⟩ := bnd h
 refine We (Ca co61 (f_ref05_has_ok r23 (97 : Int) _ r117 hr118) (args2 rfl rfl)) rfl ?_
 rintro _ M119 _ hle120 ⟨_, ⟨rfl, rfl⟩, rfl⟩
 refine WL.a0 ?_
 obtain ⟨⟨r122, r123, r124, r125, r126⟩, hr127, h⟩ := bnd h
 refine WL.f1 ?_
 have h0_0 := h0_0.mono (hle115.trans hle120)
 refine We (Cb co88 (f_ref05_Cursor_some_ok (⟨a0.B, (⟨r109, r110, r111, r112⟩ : T_ref02_State)⟩ : T_ref05_Cursor) r117 _ _ _ h0_0 (r122, r123, r124, r125, r126) hr127) (args2 rfl rfl)) rfl ?_
 rintro _ M128 _ hle129 ⟨_, ⟨rfl, rfl⟩, rfl⟩
 refine WL.a1 (Pu (pt g22 6) (Fa fo67_6 hs35_3 rfl) rfl (WL.f1 (We (Es (Iv r122) [(Iv r23), (Iv r52), (Iv r66), (Iv r80), (Iv r94), (Iv r108), (Iv r122), (Iv 0), (Iv 0), (Bv false), (Sv ⟨#[]⟩), (Sv ⟨#[]⟩), (Sv ⟨#[]⟩), (Sv ⟨#[]⟩), Zs, Zs, Zs, Zs] rfl sz3 rfl rfl rfl rfl rfl (by kernel_rfl)) rfl ?_)))
 rintro _ _ _ - ⟨rfl, rfl⟩
 refine Ns (Pm (pt g0 0) hs35_0 rfl (Pm (Iv r23) rfl rfl ?_))
 obtain ⟨r131, hr132, h⟩ := bnd h
 refine We (Ca co61 (f_ref05_has_ok r23 (97 : Int) _ r131 hr132) (args2 rfl rfl)) rfl ?_
 rintro _ M133 _ hle134 ⟨_, ⟨rfl, rfl⟩, rfl⟩
 refine WL.a0 ?_
 obtain ⟨⟨r136, r137, r138, r139, r140⟩, hr141, h⟩ := bnd h
 refine WL.f1 ?_
 have h0_0 := h0_0.mono (hle129.trans hle134)
 refine We (Cb co88 (f_ref05_Cursor_some_ok (⟨a0.B, (⟨r123, r124, r125, r126⟩ : T_ref02_State)⟩ : T_ref05_Cursor) r131 _ _ _ h0_0 (r136, r137, r138, r139, r140) hr141) (args2 rfl rfl)) rfl ?_
 rintro _ M142 _ hle143 ⟨_, ⟨rfl, rfl⟩, rfl⟩
 refine WL.a1 (Pu (pt g22 7) (Fa fo67_7 hs35_3 rfl) rfl (WL.f1 (We (Es (Iv r136) [(Iv r23), (Iv r52), (Iv r66), (Iv r80), (Iv r94), (Iv r108), (Iv r122), (Iv r136), (Iv 0), (Bv false), (Sv ⟨#[]⟩), (Sv ⟨#[]⟩), (Sv ⟨#[]⟩), (Sv ⟨#[]⟩), Zs, Zs, Zs, Zs] rfl sz3 rfl rfl rfl rfl rfl (by kernel_rfl)) rfl ?_)))
 rintro _ _ _ - ⟨rfl, rfl⟩
 refine Ns (Pm (pt g0 0) hs35_0 rfl (Pm (Iv r23) rfl rfl ?_))
 obtain ⟨r145, hr146, h⟩ := bnd h
 refine We (Ca co61 (f_ref05_has_ok r23 (97 : Int) _ r145 hr146) (args2 rfl rfl)) rfl ?_
 rintro _ M147 _ hle148 ⟨_, ⟨rfl, rfl⟩, rfl⟩
 refine WL.a0 ?_
 obtain ⟨⟨r150, r151, r152, r153, r154⟩, hr155, h⟩ := bnd h
 refine WL.f1 ?_
 have h0_0 := h0_0.mono (hle143.trans hle148)
 refine We (Cb co88 (f_ref05_Cursor_some_ok (⟨a0.B, (⟨r137, r138, r139, r140⟩ : T_ref02_State)⟩ : T_ref05_Cursor) r145 _ _ _ h0_0 (r150, r151, r152, r153, r154) hr155) (args2 rfl rfl)) rfl ?_
 rintro _ M156 _ hle157 ⟨_, ⟨rfl, rfl⟩, rfl⟩
 refine WL.a1 (Pu (pt g22 8) (Fa fo67_8 hs35_3 rfl) rfl (WL.f1 (We (Es (Iv r150) [(Iv r23), (Iv r52), (Iv r66), (Iv r80), (Iv r94), (Iv r108), (Iv r122), (Iv r136), (Iv r150), (Bv false), (Sv ⟨#[]⟩), (Sv ⟨#[]⟩), (Sv ⟨#[]⟩), (Sv ⟨#[]⟩), Zs, Zs, Zs, Zs] rfl sz3 rfl rfl rfl rfl rfl (by kernel_rfl)) rfl ?_)))
 rintro _ _ _ - ⟨rfl, rfl⟩
 refine Nt ?_
 obtain ⟨j164, hj164, h⟩ := bnd h
 refine Jf (fun (p_ : (Bool × Int × Int × ByteArray × Int)) ρ' M' H' => match p_ with | (x159, x160, x161, x162, x163) => M156.le M' ∧ [(g22, .cells #[(Iv r23), (Iv r52), (Iv r66), (Iv r80), (Iv r94), (Iv r108), (Iv r122), (Iv r136), (Iv r150), (Bv x159), (Sv ⟨#[]⟩), (Sv ⟨#[]⟩), (Sv ⟨#[]⟩), (Sv ⟨#[]⟩), Zs, Zs, Zs, Zs] 67 (0, 0))] :: [(g0, .cells #[v0_0, (Iv x160), (Iv x161), (Sv x162), (Iv x163)] 57 (0, 0))] :: [(g21, .cells z67_.toArray 67 (0, 0))] :: F = H' ∧ ρ' 0 = (pt g0 0) ∧ ρ' 2 = (pt g21 0) ∧ ρ' 3 = (pt g22 0) ∧ ρ' 4 = (Iv r23)) j164 ?_ ?_
 have h3164 := h
 have h := hj164
 refine Sr (Pm (Iv r23) rfl rfl ?_)
 obtain ⟨r165, hr166, h⟩ := bnd h
 refine We (Ca co61 (f_ref05_has_ok r23 (102 : Int) _ r165 hr166) (args2 rfl rfl)) rfl ?_
 rintro _ M167 _ hle168 ⟨_, ⟨rfl, rfl⟩, rfl⟩
 refine WL.a0 (Nt (Cd (b := r165) rfl (fun hb170 => ?_) (fun hb170 => ?_)))
 have h := ite_t hb170 h
 refine Cg (Pm (pt g0 0) hs35_0 rfl ?_)
 obtain ⟨⟨r171, r172, r173, r174, r175⟩, hr176, h⟩ := bnd h
 refine WL.f1 ?_
 have h0_0 := h0_0.mono (hle157.trans hle168)
 refine We (Cb co89 (f_ref05_Cursor_Flag_ok (⟨a0.B, (⟨r151, r152, r153, r154⟩ : T_ref02_State)⟩ : T_ref05_Cursor) _ _ _ h0_0 (r171, r172, r173, r174, r175) hr176) (args1 rfl)) rfl ?_
 rintro _ M177 _ hle178 ⟨_, ⟨rfl, rfl⟩, rfl⟩
 refine WL.a1 (Pu (pt g22 9) (Fa fo67_9 hs35_3 rfl) rfl (WL.f1 (We (Es (Bv r171) [(Iv r23), (Iv r52), (Iv r66), (Iv r80), (Iv r94), (Iv r108), (Iv r122), (Iv r136), (Iv r150), (Bv r171), (Sv ⟨#[]⟩), (Sv ⟨#[]⟩), (Sv ⟨#[]⟩), (Sv ⟨#[]⟩), Zs, Zs, Zs, Zs] rfl sz4 rfl rfl rfl rfl rfl (by kernel_rfl)) rfl ?_)))
 rintro _ _ _ - ⟨rfl, rfl⟩
 refine Wz ?_
 obtain rfl := oi h
 exact Tj ⟨(hle168.trans hle178), rfl, hs35_0, hs35_2, hs35_3, rfl⟩
 have h := ite_f hb170 h
 refine Ck ?_
 obtain rfl := oi h
 exact Tj ⟨hle168, rfl, hs35_0, hs35_2, hs35_3, rfl⟩
 obtain ⟨x159, x160, x161, x162, x163⟩ := j164
 rintro ρ164 M164 H164 ⟨hle164, rfl, hs164_0, hs164_2, hs164_3, hs164_4⟩
 refine Sr (Pm (pt g0 0) hs164_0 rfl (Pm (Iv r23) hs164_4 rfl ?_))
 obtain ⟨r180, hr181, h⟩ := bnd h
 refine We (Ca co61 (f_ref05_has_ok r23 (110 : Int) _ r180 hr181) (args2 rfl rfl)) rfl ?_
 rintro _ M182 _ hle183 ⟨_, ⟨rfl, rfl⟩, rfl⟩
 refine WL.a0 ?_
 obtain ⟨⟨r185, r186, r187, r188, r189⟩, hr190, h⟩ := bnd h
 refine WL.f1 ?_
 have h0_0 := h0_0.mono ((hle157.trans hle164).trans hle183)
 refine We (Cb co90 (f_ref05_Cursor_word_ok (⟨a0.B, (⟨x160, x161, x162, x163⟩ : T_ref02_State)⟩ : T_ref05_Cursor) r180 _ _ _ h0_0 (r185, r186, r187, r188, r189) hr190) (args2 rfl rfl)) rfl ?_
 rintro _ M191 _ hle192 ⟨_, ⟨rfl, rfl⟩, rfl⟩
 refine WL.a1 (Pu (pt g22 10) (Fa fo67_10 hs164_3 rfl) rfl (WL.f1 (We (Es (Sv r185) [(Iv r23), (Iv r52), (Iv r66), (Iv r80), (Iv r94), (Iv r108), (Iv r122), (Iv r136), (Iv r150), (Bv x159), (Sv r185), (Sv ⟨#[]⟩), (Sv ⟨#[]⟩), (Sv ⟨#[]⟩), Zs, Zs, Zs, Zs] rfl sz9 rfl rfl rfl rfl rfl (by kernel_rfl)) rfl ?_)))
 rintro _ _ _ - ⟨rfl, rfl⟩
 refine Ns (Pm (pt g0 0) hs164_0 rfl (Pm (Iv r23) hs164_4 rfl ?_))
 obtain ⟨r194, hr195, h⟩ := bnd h
 refine We (Ca co61 (f_ref05_has_ok r23 (107 : Int) _ r194 hr195) (args2 rfl rfl)) rfl ?_
 rintro _ M196 _ hle197 ⟨_, ⟨rfl, rfl⟩, rfl⟩
 refine WL.a0 ?_
 obtain ⟨⟨r199, r200, r201, r202, r203⟩, hr204, h⟩ := bnd h
 refine WL.f1 ?_
 have h0_0 := h0_0.mono (hle192.trans hle197)
 refine We (Cb co90 (f_ref05_Cursor_word_ok (⟨a0.B, (⟨r186, r187, r188, r189⟩ : T_ref02_State)⟩ : T_ref05_Cursor) r194 _ _ _ h0_0 (r199, r200, r201, r202, r203) hr204) (args2 rfl rfl)) rfl ?_
 rintro _ M205 _ hle206 ⟨_, ⟨rfl, rfl⟩, rfl⟩
 refine WL.a1 (Pu (pt g22 11) (Fa fo67_11 hs164_3 rfl) rfl (WL.f1 (We (Es (Sv r199) [(Iv r23), (Iv r52), (Iv r66), (Iv r80), (Iv r94), (Iv r108), (Iv r122), (Iv r136), (Iv r150), (Bv x159), (Sv r185), (Sv r199), (Sv ⟨#[]⟩), (Sv ⟨#[]⟩), Zs, Zs, Zs, Zs] rfl sz9 rfl rfl rfl rfl rfl (by kernel_rfl)) rfl ?_)))
 rintro _ _ _ - ⟨rfl, rfl⟩
 refine Ns (Pm (pt g0 0) hs164_0 rfl (Pm (Iv r23) hs164_4 rfl ?_))
 obtain ⟨r208, hr209, h⟩ := bnd h
 refine We (Ca co61 (f_ref05_has_ok r23 (118 : Int) _ r208 hr209) (args2 rfl rfl)) rfl ?_
 rintro _ M210 _ hle211 ⟨_, ⟨rfl, rfl⟩, rfl⟩
 refine WL.a0 ?_
 obtain ⟨⟨r213, r214, r215, r216, r217⟩, hr218, h⟩ := bnd h
 refine WL.f1 ?_
 have h0_0 := h0_0.mono (hle206.trans hle211)
 refine We (Cb co90 (f_ref05_Cursor_word_ok (⟨a0.B, (⟨r200, r201, r202, r203⟩ : T_ref02_State)⟩ : T_ref05_Cursor) r208 _ _ _ h0_0 (r213, r214, r215, r216, r217) hr218) (args2 rfl rfl)) rfl ?_
 rintro _ M219 _ hle220 ⟨_, ⟨rfl, rfl⟩, rfl⟩
 refine WL.a1 (Pu (pt g22 12) (Fa fo67_12 hs164_3 rfl) rfl (WL.f1 (We (Es (Sv r213) [(Iv r23), (Iv r52), (Iv r66), (Iv r80), (Iv r94), (Iv r108), (Iv r122), (Iv r136), (Iv r150), (Bv x159), (Sv r185), (Sv r199), (Sv r213), (Sv ⟨#[]⟩), Zs, Zs, Zs, Zs] rfl sz9 rfl rfl rfl rfl rfl (by kernel_rfl)) rfl ?_)))
 rintro _ _ _ - ⟨rfl, rfl⟩
 refine Ns (Pm (pt g0 0) hs164_0 rfl (Pm (Iv r23) hs164_4 rfl ?_))
 obtain ⟨r222, hr223, h⟩ := bnd h
 refine We (Ca co61 (f_ref05_has_ok r23 (114 : Int) _ r222 hr223) (args2 rfl rfl)) rfl ?_
 rintro _ M224 _ hle225 ⟨_, ⟨rfl, rfl⟩, rfl⟩
 refine WL.a0 ?_
 obtain ⟨⟨r227, r228, r229, r230, r231⟩, hr232, h⟩ := bnd h
 refine WL.f1 ?_
 have h0_0 := h0_0.mono (hle220.trans hle225)
 refine We (Cb co90 (f_ref05_Cursor_word_ok (⟨a0.B, (⟨r214, r215, r216, r217⟩ : T_ref02_State)⟩ : T_ref05_Cursor) r222 _ _ _ h0_0 (r227, r228, r229, r230, r231) hr232) (args2 rfl rfl)) rfl ?_
 rintro _ M233 _ hle234 ⟨_, ⟨rfl, rfl⟩, rfl⟩
 refine WL.a1 (Pu (pt g22 13) (Fa fo67_13 hs164_3 rfl) rfl (WL.f1 (We (Es (Sv r227) [(Iv r23), (Iv r52), (Iv r66), (Iv r80), (Iv r94), (Iv r108), (Iv r122), (Iv r136), (Iv r150), (Bv x159), (Sv r185), (Sv r199), (Sv r213), (Sv r227), Zs, Zs, Zs, Zs] rfl sz9 rfl rfl rfl rfl rfl (by kernel_rfl)) rfl ?_)))
 rintro _ _ _ - ⟨rfl, rfl⟩
 refine Ns (Pm (pt g0 0) hs164_0 rfl (Pm (Iv r23) hs164_4 rfl ?_))
 obtain ⟨r236, hr237, h⟩ := bnd h
 refine We (Ca co61 (f_ref05_has_ok r23 (105 : Int) _ r236 hr237) (args2 rfl rfl)) rfl ?_
 rintro _ M238 _ hle239 ⟨_, ⟨rfl, rfl⟩, rfl⟩
 refine WL.a0 ?_
 obtain ⟨⟨r241, r242, r243, r244, r245⟩, hr246, h⟩ := bnd h
 refine WL.f1 ?_
 have h0_0 := h0_0.mono (hle234.trans hle239)
 refine We (Cb co91 (f_ref05_Cursor_brokers_ok (⟨a0.B, (⟨r228, r229, r230, r231⟩ : T_ref02_State)⟩ : T_ref05_Cursor) r236 _ _ _ h0_0 (r241, r242, r243, r244, r245) hr246) (args2 rfl rfl)) rfl ?_
 rintro _ M247 _ hle248 ⟨_, ⟨vq249, cq249, rfl, rfl, hq249⟩, rfl⟩
 refine WL.a2 (Pu (pt g22 14) (Fa fo67_14 hs164_3 rfl) rfl (Wb (We (Es vq249 [(Iv r23), (Iv r52), (Iv r66), (Iv r80), (Iv r94), (Iv r108), (Iv r122), (Iv r136), (Iv r150), (Bv x159), (Sv r185), (Sv r199), (Sv r213), (Sv r227), vq249, Zs, Zs, Zs] hq249.cells sz65 rfl rfl (Ow hq249) rfl rfl (by kernel_rfl)) rfl ?_)))
 rintro _ _ _ - ⟨rfl, rfl⟩
 refine Ns (Pm (pt g0 0) hs164_0 rfl (Pm (Iv r23) hs164_4 rfl ?_))
 obtain ⟨r250, hr251, h⟩ := bnd h
 refine We (Ca co61 (f_ref05_has_ok r23 (109 : Int) _ r250 hr251) (args2 rfl rfl)) rfl ?_
 rintro _ M252 _ hle253 ⟨_, ⟨rfl, rfl⟩, rfl⟩
 refine WL.a0 ?_
 obtain ⟨⟨r255, r256, r257, r258, r259⟩, hr260, h⟩ := bnd h
 refine WL.f1 ?_
 have h0_0 := h0_0.mono (hle248.trans hle253)
 refine We (Cb co91 (f_ref05_Cursor_brokers_ok (⟨a0.B, (⟨r242, r243, r244, r245⟩ : T_ref02_State)⟩ : T_ref05_Cursor) r250 _ _ _ h0_0 (r255, r256, r257, r258, r259) hr260) (args2 rfl rfl)) rfl ?_
 rintro _ M261 _ hle262 ⟨_, ⟨vq263, cq263, rfl, rfl, hq263⟩, rfl⟩
 refine WL.a2 (Pu (pt g22 15) (Fa fo67_15 hs164_3 rfl) rfl (Wb (We (Es vq263 [(Iv r23), (Iv r52), (Iv r66), (Iv r80), (Iv r94), (Iv r108), (Iv r122), (Iv r136), (Iv r150), (Bv x159), (Sv r185), (Sv r199), (Sv r213), (Sv r227), vq249, vq263, Zs, Zs] hq263.cells sz65 rfl rfl (Ow hq263) rfl rfl (by kernel_rfl)) rfl ?_)))
 rintro _ _ _ - ⟨rfl, rfl⟩
 refine Ns (Pm (pt g0 0) hs164_0 rfl (Pm (Iv r23) hs164_4 rfl ?_))
 obtain ⟨r264, hr265, h⟩ := bnd h
 refine We (Ca co61 (f_ref05_has_ok r23 (120 : Int) _ r264 hr265) (args2 rfl rfl)) rfl ?_
 rintro _ M266 _ hle267 ⟨_, ⟨rfl, rfl⟩, rfl⟩
 refine WL.a0 ?_
 obtain ⟨⟨r269, r270, r271, r272, r273⟩, hr274, h⟩ := bnd h
 refine WL.f1 ?_
 have h0_0 := h0_0.mono (hle262.trans hle267)
 refine We (Cb co91 (f_ref05_Cursor_brokers_ok (⟨a0.B, (⟨r256, r257, r258, r259⟩ : T_ref02_State)⟩ : T_ref05_Cursor) r264 _ _ _ h0_0 (r269, r270, r271, r272, r273) hr274) (args2 rfl rfl)) rfl ?_
 rintro _ M275 _ hle276 ⟨_, ⟨vq277, cq277, rfl, rfl, hq277⟩, rfl⟩
 refine WL.a2 (Pu (pt g22 16) (Fa fo67_16 hs164_3 rfl) rfl (Wb (We (Es vq277 [(Iv r23), (Iv r52), (Iv r66), (Iv r80), (Iv r94), (Iv r108), (Iv r122), (Iv r136), (Iv r150), (Bv x159), (Sv r185), (Sv r199), (Sv r213), (Sv r227), vq249, vq263, vq277, Zs] hq277.cells sz65 rfl rfl (Ow hq277) rfl rfl (by kernel_rfl)) rfl ?_)))
 rintro _ _ _ - ⟨rfl, rfl⟩
 refine Ns (Pm (pt g0 0) hs164_0 rfl (Pm (Iv r23) hs164_4 rfl ?_))
 obtain ⟨r278, hr279, h⟩ := bnd h
 refine We (Ca co61 (f_ref05_has_ok r23 (120 : Int) _ r278 hr279) (args2 rfl rfl)) rfl ?_
 rintro _ M280 _ hle281 ⟨_, ⟨rfl, rfl⟩, rfl⟩
 refine WL.a0 ?_
 obtain ⟨⟨r283, r284, r285, r286, r287⟩, hr288, h⟩ := bnd h
 refine WL.f1 ?_
 have h0_0 := h0_0.mono (hle276.trans hle281)
 refine We (Cb co91 (f_ref05_Cursor_brokers_ok (⟨a0.B, (⟨r270, r271, r272, r273⟩ : T_ref02_State)⟩ : T_ref05_Cursor) r278 _ _ _ h0_0 (r283, r284, r285, r286, r287) hr288) (args2 rfl rfl)) rfl ?_
 rintro _ M289 _ hle290 ⟨_, ⟨vq291, cq291, rfl, rfl, hq291⟩, rfl⟩
 refine WL.a2 (Pu (pt g22 17) (Fa fo67_17 hs164_3 rfl) rfl (Wb (We (Es vq291 [(Iv r23), (Iv r52), (Iv r66), (Iv r80), (Iv r94), (Iv r108), (Iv r122), (Iv r136), (Iv r150), (Bv x159), (Sv r185), (Sv r199), (Sv r213), (Sv r227), vq249, vq263, vq277, vq291] hq291.cells sz65 rfl rfl (Ow hq291) rfl rfl (by kernel_rfl)) rfl ?_)))
 rintro _ _ _ - ⟨rfl, rfl⟩
 refine Nt ?_
 obtain ⟨j295, hj295, h⟩ := bnd h
 refine Jf (fun (p_ : (Int × ByteArray × Int)) ρ' M' H' => match p_ with | (x292, x293, x294) => M289.le M' ∧ [(g22, .cells #[(Iv r23), (Iv r52), (Iv r66), (Iv r80), (Iv r94), (Iv r108), (Iv r122), (Iv r136), (Iv r150), (Bv x159), (Sv r185), (Sv r199), (Sv r213), (Sv r227), vq249, vq263, vq277, vq291] 67 (0, 0))] :: [(g0, .cells #[v0_0, (Iv r284), (Iv x292), (Sv x293), (Iv x294)] 57 (0, 0))] :: [(g21, .cells z67_.toArray 67 (0, 0))] :: cq249 :: cq263 :: cq277 :: cq291 :: F = H' ∧ ρ' 0 = (pt g0 0) ∧ ρ' 2 = (pt g21 0) ∧ ρ' 3 = (pt g22 0)) j295 ?_ ?_
 have h3295 := h
 have h := hj295
 refine Sr (Pm (pt g0 0) hs164_0 rfl (Pu (pt g0 0) (Nk rfl) rfl (Pu (pt g0 1) (Fa fo57_1 rfl rfl) rfl (Pu (pt g0 2) (Fa fo50_1 rfl rfl) rfl (Pu (Iv r285) (Lb 1 pl31 rfl rfl rfl) rfl (Pu (Bv (decide (r285 = 0))) (PO.eql rfl rfl) rfl (Nt (Cd (b := decide (r285 = 0)) rfl (fun hb296 => ?_) (fun hb296 => ?_)))))))))
 have h := ite_t hb296 h
 refine Sr (Pu (.agg #[(Iv r23), (Iv r52), (Iv r66), (Iv r80), (Iv r94), (Iv r108), (Iv r122), (Iv r136), (Iv r150), (Bv x159), (Sv r185), (Sv r199), (Sv r213), (Sv r227), vq249, vq263, vq277, vq291]) (La (cs := [(Iv r23), (Iv r52), (Iv r66), (Iv r80), (Iv r94), (Iv r108), (Iv r122), (Iv r136), (Iv r150), (Bv x159), (Sv r185), (Sv r199), (Sv r213), (Sv r227), vq249, vq263, vq277, vq291]) 0 ag67 sz67 hs164_3 rfl rfl) rfl ?_)
 obtain ⟨r297, hr298, h⟩ := bnd h
 refine Wb (WL.f3 (WL.f4 (WL.f5 ?_)))
 have hq249 := hq249.mono (((((hle253.trans hle262).trans hle267).trans hle276).trans hle281).trans hle290)
 have hq263 := hq263.mono (((hle267.trans hle276).trans hle281).trans hle290)
 have hq277 := hq277.mono (hle281.trans hle290)
 refine We (EO.call4 co34 (Tri.lend hq249.excl fun w0_ H0_ hs0_ => (Tri.lend hq263.excl fun w1_ H1_ hs1_ => (Tri.lend hq277.excl fun w2_ H2_ hs2_ => (Tri.lend hq291.excl fun w3_ H3_ hs3_ => (f_ref05_Check_ok (⟨r23, r52, r66, r80, r94, r108, r122, r136, r150, x159, r185, r199, r213, r227, r241, r255, r269, r283⟩ : T_api_Record) _ _ _ _ _ ((((hq249.rs hs0_).mono (IM.le_add _ _)).mono (IM.le_add _ _)).mono (IM.le_add _ _)) ((((hq263.mono (IM.le_add _ _)).rs hs1_).mono (IM.le_add _ _)).mono (IM.le_add _ _)) ((((hq277.mono (IM.le_add _ _)).mono (IM.le_add _ _)).rs hs2_).mono (IM.le_add _ _)) ((((hq291.mono (IM.le_add _ _)).mono (IM.le_add _ _)).mono (IM.le_add _ _)).rs hs3_) r297 hr298))))) (args1 rfl)) rfl ?_
 rintro _ _ _ hle300 ⟨_, ⟨Ml311, Hl312, hll313, rfl, rfl, ⟨Ml308, Hl309, hll310, rfl, rfl, ⟨Ml305, Hl306, hll307, rfl, rfl, ⟨Ml302, Hl303, hll304, rfl, rfl, ⟨rfl, rfl⟩⟩⟩⟩⟩, rfl⟩
 refine WL.a4 (We (Al ze33 rfl) rfl ?_)
 rintro _ _ _ - ⟨rfl, g314, rfl, rfl⟩
 refine We (Sg (v := (a33_ r297)) (vl := (l33 r297)) (arr' := (l33 r297)) rfl sz33 rfl rfl (onb rfl) rfl rfl rfl) rfl ?_
 rintro _ _ _ - ⟨rfl, rfl⟩
 refine Ns (Pu (pt g314 2) (Fa fo33_2 rfl rfl) rfl (Pu (Iv r297.Code) (Lb 0 pl31 rfl rfl rfl) rfl (Pu (Bv (decide (r297.Code ≠ 0))) (PO.neq rfl rfl) rfl (Nt (Cd (b := decide (r297.Code ≠ 0)) rfl (fun hb315 => ?_) (fun hb315 => ?_))))))
 have h := ite_t hb315 h
 refine Cg (Pm (pt g0 0) hs164_0 rfl (Pu (pt g314 2) (Fa fo33_2 rfl rfl) rfl (Pu (Iv r297.Code) (Lb 0 pl31 rfl rfl rfl) rfl ?_)))
 obtain ⟨⟨r316, r317, r318⟩, hr319, h⟩ := bnd h
 refine WL.f6 ?_
 have h0_0 := h0_0.mono (hle290.trans hle300)
 refine We (Cb co48 (f_ref05_Cursor_Refuse_ok (⟨a0.B, (⟨r284, r285, r286, r287⟩ : T_ref02_State)⟩ : T_ref05_Cursor) (⟨#[114, 101, 99, 111, 114, 100]⟩ : ByteArray) r297.Code _ _ _ h0_0 (r316, r317, r318) hr319) (args3 rfl rfl rfl)) rfl ?_
 rintro _ M320 _ hle321 ⟨_, ⟨rfl, rfl⟩, rfl⟩
 refine WL.a1 (Wz (Qa (Dr (WQ.f4 (WQ.f4 (WQ.f4 (WQ.f4 (WQ.f6 (WQ.f5 (WQ.f6 ?_))))))))))
 obtain rfl := oi h
 exact Tj ⟨(hle300.trans hle321), rfl, hs164_0, hs164_2, hs164_3⟩
 have h := ite_f hb315 h
 refine Ck (Dr (WQ.f3 (WQ.f3 (WQ.f3 (WQ.f3 (WQ.f6 (WQ.f6 (WQ.f6 ?_))))))))
 obtain rfl := oi h
 exact Tj ⟨hle300, rfl, hs164_0, hs164_2, hs164_3⟩
 have h := ite_f hb296 h
 refine Ck (Qb (WQ.f3 (WQ.f4 (WQ.f5 (WQ.f6 (WQ.f6 (WQ.f6 ?_)))))))
 obtain rfl := oi h
 exact Tj ⟨lr, rfl, hs164_0, hs164_2, hs164_3⟩
 obtain ⟨x292, x293, x294⟩ := j295
 rintro ρ295 M295 H295 ⟨hle295, rfl, hs295_0, hs295_2, hs295_3⟩
 refine Cs (Sr (Pm (pt g0 0) hs295_0 rfl (Pu (pt g0 0) (Nk rfl) rfl (Pu (pt g0 1) (Fa fo57_1 rfl rfl) rfl (Pu (pt g0 2) (Fa fo50_1 rfl rfl) rfl (Pu (Iv x292) (Lb 1 pl31 rfl rfl rfl) rfl (Pu (Bv (decide (x292 ≠ 0))) (PO.neq rfl rfl) rfl (Nt (Cd (b := decide (x292 ≠ 0)) rfl (fun hb322 => ?_) (fun hb322 => ?_))))))))))
 have h := ite_t hb322 h
 refine Sr (Pu (.agg z67_.toArray) (Bl (cl := z67_) ze67 fp67 Pz rfl) rfl (Wb (We (Sg (v := (.agg z67_.toArray)) (vl := z67_) (arr' := z67_) rfl sz67 hs295_2 rfl (onb rfl) rfl rfl (by kernel_rfl)) rfl ?_)))
 rintro _ _ _ - ⟨rfl, rfl⟩
 refine Nt (Cr (Tr (WQ.e0 (WQ.e0 (WQ.e0 (WQ.e0 (WQ.f5 (Dr (WQ.f6 (Dr (WQ.f6 ?_)))))))))))
 exact Dr (WQ.f6 (Dr (WQ.f6 (Dr (Qa (Qb (WQ.f3 (WQ.f5 (WQ.f5 (Rd h [[(g0, .cells #[v0_0, (Iv r284), (Iv x292), (Sv x293), (Iv x294)] 57 (0, 0))], [], [], [], []] (fun _ hs => hs.drop) (resultsL1 rfl (Rc (cs := z67_) 0 ag67 sz67 hs295_2 rfl rfl)) (((((((((((((((((((((((((((((((((((hle30.trans hle35).trans hle50).trans hle59).trans hle64).trans hle73).trans hle78).trans hle87).trans hle92).trans hle101).trans hle106).trans hle115).trans hle120).trans hle129).trans hle134).trans hle143).trans hle148).trans hle157).trans hle164).trans hle183).trans hle192).trans hle197).trans hle206).trans hle211).trans hle220).trans hle225).trans hle234).trans hle239).trans hle248).trans hle253).trans hle262).trans hle267).trans hle276).trans hle281).trans hle290).trans hle295) ⟨Zs, [], Zs, [], Zs, [], Zs, [], rfl, rfl, (OwnS.nil _ _), (OwnS.nil _ _), (OwnS.nil _ _), (OwnS.nil _ _)⟩))))))))))
 have h := ite_f hb322 h
 refine Ck (Tc (Sr (Pu (.agg #[(Iv r23), (Iv r52), (Iv r66), (Iv r80), (Iv r94), (Iv r108), (Iv r122), (Iv r136), (Iv r150), (Bv x159), (Sv r185), (Sv r199), (Sv r213), (Sv r227), vq249, vq263, vq277, vq291]) (La (cs := [(Iv r23), (Iv r52), (Iv r66), (Iv r80), (Iv r94), (Iv r108), (Iv r122), (Iv r136), (Iv r150), (Bv x159), (Sv r185), (Sv r199), (Sv r213), (Sv r227), vq249, vq263, vq277, vq291]) 0 ag67 sz67 hs295_3 rfl rfl) rfl (Wb ?_))))
 have hq249 := hq249.mono ((((((hle253.trans hle262).trans hle267).trans hle276).trans hle281).trans hle290).trans hle295)
 have hq263 := hq263.mono ((((hle267.trans hle276).trans hle281).trans hle290).trans hle295)
 have hq277 := hq277.mono ((hle281.trans hle290).trans hle295)
 have hq291 := hq291.mono hle295
 refine We (Sg (v := (.agg #[(Iv r23), (Iv r52), (Iv r66), (Iv r80), (Iv r94), (Iv r108), (Iv r122), (Iv r136), (Iv r150), (Bv x159), (Sv r185), (Sv r199), (Sv r213), (Sv r227), vq249, vq263, vq277, vq291])) (vl := [(Iv r23), (Iv r52), (Iv r66), (Iv r80), (Iv r94), (Iv r108), (Iv r122), (Iv r136), (Iv r150), (Bv x159), (Sv r185), (Sv r199), (Sv r213), (Sv r227), vq249, vq263, vq277, vq291]) (arr' := [(Iv r23), (Iv r52), (Iv r66), (Iv r80), (Iv r94), (Iv r108), (Iv r122), (Iv r136), (Iv r150), (Bv x159), (Sv r185), (Sv r199), (Sv r213), (Sv r227), vq249, vq263, vq277, vq291]) rfl sz67 hs295_2 rfl (onesOf (Oc rfl (Oc rfl (Oc rfl (Oc rfl (Oc rfl (Oc rfl (Oc rfl (Oc rfl (Oc rfl (Oc rfl (Oc rfl (Oc rfl (Oc rfl (Oc rfl (Oc (Ow hq249) (Oc (Ow hq263) (Oc (Ow hq277) (Oc (Ow hq291) Oz))))))))))))))))))) rfl rfl (by kernel_rfl)) rfl ?_
 rintro _ _ _ - ⟨rfl, rfl⟩
 exact Nt (Cr (Qa (Dr (Rd h [[(g0, .cells #[v0_0, (Iv r284), (Iv x292), (Sv x293), (Iv x294)] 57 (0, 0))], cq249, cq263, cq277, cq291] (fun _ hs => hs.drop) (resultsL1 rfl (Rc (cs := [(Iv r23), (Iv r52), (Iv r66), (Iv r80), (Iv r94), (Iv r108), (Iv r122), (Iv r136), (Iv r150), (Bv x159), (Sv r185), (Sv r199), (Sv r213), (Sv r227), vq249, vq263, vq277, vq291]) 0 ag67 sz67 hs295_2 rfl rfl)) (((((((((((((((((((((((((((((((((((hle30.trans hle35).trans hle50).trans hle59).trans hle64).trans hle73).trans hle78).trans hle87).trans hle92).trans hle101).trans hle106).trans hle115).trans hle120).trans hle129).trans hle134).trans hle143).trans hle148).trans hle157).trans hle164).trans hle183).trans hle192).trans hle197).trans hle206).trans hle211).trans hle220).trans hle225).trans hle234).trans hle239).trans hle248).trans hle253).trans hle262).trans hle267).trans hle276).trans hle281).trans hle290).trans hle295) ⟨vq249, cq249, vq263, cq263, vq277, cq277, vq291, cq291, rfl, rfl, hq249, hq263, hq277, hq291⟩))))

noncomputable def f_ref06_Next_l0 (a0 : T_ref05_Cursor) (r41 : Int) (s_ : (Int × (List T_api_Record) × Int × Int × ByteArray × Int)) : Option ((Int × (List T_api_Record) × Int × Int × ByteArray × Int) ⊕ (Int × Int × ByteArray × Int × (List T_api_Record))) :=
  match s_ with
  | (x72, x73, x74, x75, x76, x77) =>
    (((if (decide (x72 < r41)) = true then (some (decide (x75 = (0 : Int)))) else (some false)) : Option Bool).bind fun (x83 : Bool) => (if x83 = true then ((f_ref05_Read (⟨a0.B, (⟨x74, x75, x76, x77⟩ : T_ref02_State)⟩ : T_ref05_Cursor)).bind fun (r87, r88, r89, r90, r91) => (grd (x73.length + [r87].length ≤ 274877906944) (some (Sum.inl (IntKind.i64.wrap (x72 + (1 : Int)), x73 ++ [r87], r88, r89, r90, r91))))) else (some (Sum.inr (x74, x75, x76, x77, x73)))))
noncomputable def f_ref06_Next (a0 : T_ref05_Cursor) : Option (T_api_Batch × Int × Int × ByteArray × Int) :=
  ((f_ref05_Cursor_Int a0 (1073741824 : Int)).bind fun (r23, r24, r25, r26, r27) => ((f_ref05_Cursor_Int (⟨a0.B, (⟨r24, r25, r26, r27⟩ : T_ref02_State)⟩ : T_ref05_Cursor) (1073741824 : Int)).bind fun (r32, r33, r34, r35, r36) => ((f_ref05_Cursor_Int (⟨a0.B, (⟨r33, r34, r35, r36⟩ : T_ref02_State)⟩ : T_ref05_Cursor) (64 : Int)).bind fun (r41, r42, r43, r44, r45) => (((((if (decide (r43 = (0 : Int))) = true then (if (decide (r23 < (1 : Int))) = true then (some true) else (some (decide (r41 < (1 : Int))))) else (some false)) : Option Bool).bind fun (x54 : Bool) => (if x54 = true then ((f_ref05_Cursor_Refuse (⟨a0.B, (⟨r42, r43, r44, r45⟩ : T_ref02_State)⟩ : T_ref05_Cursor) (⟨#[98, 97, 116, 99, 104]⟩ : ByteArray) (2 : Int)).bind fun (r59, r60, r61) => (some (r59, r60, r61))) else (some (r43, r44, r45)))) : Option (Int × ByteArray × Int)).bind fun (x50, x51, x52) => ((((iter (f_ref06_Next_l0 a0 r41) ((0 : Int), [], r42, x50, x51, x52)).bind (fun (x78, x79, x80, x81, x82) => (some (x78, x79, x80, x81, x82)))) : Option (Int × Int × ByteArray × Int × (List T_api_Record))).bind fun (x65, x66, x67, x68, x69) => (((if (decide ((16384 : Int) < (IntKind.i64.wrap (x65 - a0.S.At)))) = true then ((f_ref05_Cursor_Refuse (⟨a0.B, (⟨x65, x66, x67, x68⟩ : T_ref02_State)⟩ : T_ref05_Cursor) (⟨#[98, 97, 116, 99, 104]⟩ : ByteArray) (6 : Int)).bind fun (r130, r131, r132) => (some (r130, r131, r132))) else (some (x66, x67, x68))) : Option (Int × ByteArray × Int)).bind fun (x125, x126, x127) => (if (decide (x125 ≠ (0 : Int))) = true then (some ((⟨(0 : Int), (0 : Int), []⟩ : T_api_Batch), x65, x125, x126, x127)) else (some ((⟨r23, r32, x69⟩ : T_api_Batch), x65, x125, x126, x127)))))))))
def f_ref06_Next_post (a0 : T_ref05_Cursor) (v0_0 : Value) (g0 : Nat) : (T_api_Batch × Int × Int × ByteArray × Int) → Value → IM → HL → Prop :=
  fun (p_ : (T_api_Batch × Int × Int × ByteArray × Int)) (v : Value) (M' : IM) (H' : HL) => match p_ with | (r0, r1, r2, r3, r4) => ∃ vz0_2 cz0_2, (.agg #[(.int .i64 r0.Term), (.int .i64 r0.Base), vz0_2]) = v ∧ H' = [[(g0, .cells #[v0_0, (.int .i64 r1), (.int .i64 r2), (.string r3), (.int .i64 r4)] 57 (0, 0))], cz0_2] ∧ OwnS kd_api_Record M' vz0_2 r0.Records cz0_2
theorem f_ref06_Next_ok (a0 : T_ref05_Cursor) (M : IM) (v0_0 : Value) (g0 : Nat) (h0_0 : RS (Kd.int .u8) M v0_0 a0.B) (res : (T_api_Batch × Int × Int × ByteArray × Int)) (h : f_ref06_Next a0 = some res) :
    Tri Tryz.prog 22 #[(pt g0 0)] M [[(g0, .cells (l57 a0 v0_0).toArray 57 (0, 0))]] (f_ref06_Next_post a0 v0_0 g0 res) := by
 unfold f_ref06_Next at h
 refine Te Tryz.func22 rfl rfl ?_
 intro F ρ hρ
 refine Sr (We (Al ze24 rfl) rfl ?_)
 rintro _ _ _ - ⟨rfl, g21, rfl, rfl⟩
 refine Ns (Pm (pt g0 0) (hρ 0) rfl (Pu (pt g0 0) (Nk rfl) rfl (Pu (pt g0 1) (Fa fo57_1 rfl rfl) rfl (Pu (pt g0 1) (Fa fo50_0 rfl rfl) rfl (Pu (Iv a0.S.At) (Lb 1 pl3 rfl rfl rfl) rfl (Pa (Iv a0.S.At) rfl rfl (Ns (Pu (.agg #[(Iv 0), (Iv 0), Zs]) (Bl (cl := [(Iv 0), (Iv 0), Zs]) ze24 fp24 Pz rfl) rfl (We (Al ze24 rfl) rfl ?_)))))))))
 rintro _ _ _ - ⟨rfl, g22, rfl, rfl⟩
 refine We (Sg (v := (.agg #[(Iv 0), (Iv 0), Zs])) (vl := [(Iv 0), (Iv 0), Zs]) (arr' := [(Iv 0), (Iv 0), Zs]) rfl sz24 rfl rfl (onb rfl) rfl rfl rfl) rfl ?_
 rintro _ _ _ - ⟨rfl, rfl⟩
 refine Ns (Pm (pt g0 0) (hρ 0) rfl ?_)
 obtain ⟨⟨r23, r24, r25, r26, r27⟩, hr28, h⟩ := bnd h
 refine Wb (We (Cb co47 (f_ref05_Cursor_Int_ok a0 (1073741824 : Int) _ _ _ h0_0 (r23, r24, r25, r26, r27) hr28) (args2 rfl rfl)) rfl ?_)
 rintro _ M29 _ hle30 ⟨_, ⟨rfl, rfl⟩, rfl⟩
 refine WL.a1 (Pu (pt g22 0) (Fa fo24_0 rfl rfl) rfl (WL.f1 (We (Es (Iv r23) [(Iv r23), (Iv 0), Zs] rfl sz3 rfl rfl rfl rfl rfl rfl) rfl ?_)))
 rintro _ _ _ - ⟨rfl, rfl⟩
 refine Ns (Pm (pt g0 0) (hρ 0) rfl ?_)
 obtain ⟨⟨r32, r33, r34, r35, r36⟩, hr37, h⟩ := bnd h
 refine WL.f1 ?_
 have h0_0 := h0_0.mono hle30
 refine We (Cb co47 (f_ref05_Cursor_Int_ok (⟨a0.B, (⟨r24, r25, r26, r27⟩ : T_ref02_State)⟩ : T_ref05_Cursor) (1073741824 : Int) _ _ _ h0_0 (r32, r33, r34, r35, r36) hr37) (args2 rfl rfl)) rfl ?_
 rintro _ M38 _ hle39 ⟨_, ⟨rfl, rfl⟩, rfl⟩
 refine WL.a1 (Pu (pt g22 1) (Fa fo24_1 rfl rfl) rfl (WL.f1 (We (Es (Iv r32) [(Iv r23), (Iv r32), Zs] rfl sz3 rfl rfl rfl rfl rfl rfl) rfl ?_)))
 rintro _ _ _ - ⟨rfl, rfl⟩
 refine Ns (Pm (pt g0 0) (hρ 0) rfl ?_)
 obtain ⟨⟨r41, r42, r43, r44, r45⟩, hr46, h⟩ := bnd h
 refine WL.f1 ?_
 have h0_0 := h0_0.mono hle39
 refine We (Cb co47 (f_ref05_Cursor_Int_ok (⟨a0.B, (⟨r33, r34, r35, r36⟩ : T_ref02_State)⟩ : T_ref05_Cursor) (64 : Int) _ _ _ h0_0 (r41, r42, r43, r44, r45) hr46) (args2 rfl rfl)) rfl ?_
 rintro _ M47 _ hle48 ⟨_, ⟨rfl, rfl⟩, rfl⟩
 refine WL.a1 (Pa (Iv r41) rfl rfl (Nt ?_))
 obtain ⟨j53, hj53, h⟩ := bnd h
 refine Jf (fun (p_ : (Int × ByteArray × Int)) ρ' M' H' => match p_ with | (x50, x51, x52) => M47.le M' ∧ [(g0, .cells #[v0_0, (Iv r42), (Iv x50), (Sv x51), (Iv x52)] 57 (0, 0))] :: [(g22, .cells #[(Iv r23), (Iv r32), Zs] 24 (0, 0))] :: [(g21, .cells #[(Iv 0), (Iv 0), Zs] 24 (0, 0))] :: F = H' ∧ ρ' 0 = (pt g0 0) ∧ ρ' 2 = (pt g21 0) ∧ ρ' 3 = (Iv a0.S.At) ∧ ρ' 4 = (pt g22 0) ∧ ρ' 5 = (Iv r41)) j53 ?_ ?_
 have h353 := h
 have h := hj53
 obtain ⟨x54, hj55, h⟩ := bnd h
 refine Jf (fun (x54 : Bool) ρ' M' H' => M47.le M' ∧ [(g0, .cells #[v0_0, (Iv r42), (Iv r43), (Sv r44), (Iv r45)] 57 (0, 0))] :: [(g22, .cells #[(Iv r23), (Iv r32), Zs] 24 (0, 0))] :: [(g21, .cells #[(Iv 0), (Iv 0), Zs] 24 (0, 0))] :: F = H' ∧ ρ' 0 = (pt g0 0) ∧ ρ' 2 = (pt g21 0) ∧ ρ' 3 = (Iv a0.S.At) ∧ ρ' 4 = (pt g22 0) ∧ ρ' 5 = (Iv r41) ∧ ρ' 36 = (Bv x54)) x54 ?_ ?_
 have h355 := h
 have h := hj55
 refine Cg (Pm (pt g0 0) (hρ 0) rfl (Pu (pt g0 0) (Nk rfl) rfl (Pu (pt g0 1) (Fa fo57_1 rfl rfl) rfl (Pu (pt g0 2) (Fa fo50_1 rfl rfl) rfl (Pu (Iv r43) (Lb 0 pl31 rfl rfl rfl) rfl (Pu (Bv (decide (r43 = 0))) (PO.eql rfl rfl) rfl (Pm (Bv (decide (r43 = 0))) rfl rfl ?_)))))))
 rcases Bt (decide (r43 = 0)) with hb56 | hb56
 have h := ite_t hb56 h
 refine On 28 rfl rfl hb56 (Pu (pt g22 0) (Fa fo24_0 rfl rfl) rfl (On 28 rfl rfl hb56 (Pu (Iv r23) (Lb 1 pl3 rfl rfl rfl) rfl (On 28 rfl rfl hb56 (Pu (Bv (decide (r23 < 1))) (PO.lss rfl rfl) rfl (On 28 rfl rfl hb56 (Pm (Bv (decide (r23 < 1))) rfl rfl ?_)))))))
 rcases Bt (decide (r23 < 1)) with hb57 | hb57
 have h := ite_t hb57 h
 iterate 2 refine Of 32 rfl rfl hb57 rfl ?_
 refine On 28 rfl rfl hb56 (Pu (Bv true) (Pt rfl hb57 rfl) rfl (Pu (Bv true) (Pt rfl hb56 rfl) rfl (Wz ?_)))
 obtain rfl := oi h
 exact Tj ⟨lr, rfl, (hρ 0), rfl, rfl, rfl, rfl, rfl⟩
 have h := ite_f hb57 h
 refine On 32 rfl rfl hb57 (Pm (Iv r41) rfl rfl (On 32 rfl rfl hb57 (Pu (Bv (decide (r41 < 1))) (PO.lss rfl rfl) rfl (On 28 rfl rfl hb56 (Pu (Bv (decide (r41 < 1))) (Pf rfl hb57 rfl) rfl (Pu (Bv (decide (r41 < 1))) (Pt rfl hb56 rfl) rfl (Wz ?_)))))))
 obtain rfl := oi h
 exact Tj ⟨lr, rfl, (hρ 0), rfl, rfl, rfl, rfl, rfl⟩
 have h := ite_f hb56 h
 iterate 4 refine Of 28 rfl rfl hb56 rfl ?_
 refine WL.offU 32 rfl rfl rfl (WL.offU 32 rfl rfl rfl (Of 28 rfl rfl hb56 rfl (Pu (Bv false) (Pf rfl hb56 rfl) rfl (Wz ?_))))
 obtain rfl := oi h
 exact Tj ⟨lr, rfl, (hρ 0), rfl, rfl, rfl, rfl, rfl⟩
 rintro ρ55 M55 H55 ⟨hle55, rfl, hs55_0, hs55_2, hs55_3, hs55_4, hs55_5, hs55_36⟩
 refine Cd (b := x54) hs55_36 (fun hb58 => ?_) (fun hb58 => ?_)
 have h := ite_t hb58 h
 refine Cg (Pm (pt g0 0) hs55_0 rfl ?_)
 obtain ⟨⟨r59, r60, r61⟩, hr62, h⟩ := bnd h
 have h0_0 := h0_0.mono (hle48.trans hle55)
 refine We (Cb co48 (f_ref05_Cursor_Refuse_ok (⟨a0.B, (⟨r42, r43, r44, r45⟩ : T_ref02_State)⟩ : T_ref05_Cursor) (⟨#[98, 97, 116, 99, 104]⟩ : ByteArray) (2 : Int) _ _ _ h0_0 (r59, r60, r61) hr62) (args3 rfl rfl rfl)) rfl ?_
 rintro _ M63 _ hle64 ⟨_, ⟨rfl, rfl⟩, rfl⟩
 refine WL.a1 (Wz ?_)
 obtain rfl := oi h
 exact Tj ⟨(hle55.trans hle64), rfl, hs55_0, hs55_2, hs55_3, hs55_4, hs55_5⟩
 have h := ite_f hb58 h
 refine Ck ?_
 obtain rfl := oi h
 exact Tj ⟨hle55, rfl, hs55_0, hs55_2, hs55_3, hs55_4, hs55_5⟩
 obtain ⟨x50, x51, x52⟩ := j53
 rintro ρ53 M53 H53 ⟨hle53, rfl, hs53_0, hs53_2, hs53_3, hs53_4, hs53_5⟩
 obtain ⟨j70, hj70, h⟩ := bnd h
 refine Jf (fun (p_ : (Int × Int × ByteArray × Int × (List T_api_Record))) ρ' M' H' => match p_ with | (x65, x66, x67, x68, x69) => ∃ vx69 cx69, M53.le M' ∧ [(g0, .cells #[v0_0, (Iv x65), (Iv x66), (Sv x67), (Iv x68)] 57 (0, 0))] :: [(g22, .cells #[(Iv r23), (Iv r32), vx69] 24 (0, 0))] :: [(g21, .cells #[(Iv 0), (Iv 0), Zs] 24 (0, 0))] :: cx69 :: F = H' ∧ ρ' 0 = (pt g0 0) ∧ ρ' 2 = (pt g21 0) ∧ ρ' 3 = (Iv a0.S.At) ∧ ρ' 4 = (pt g22 0) ∧ OwnS kd_api_Record M' vx69 x69 cx69) j70 ?_ ?_
 have h370 := h
 have h := hj70
 refine Sr (Pa (Iv 0) rfl rfl (Nt (Bk (WC.e0 (WC.f3 (WC.f3 (WC.f3 ?_)))))))
 obtain ⟨e71, he71, hK71⟩ := bnd h
 clear h
 refine WC.loop he71 (fun (p_ : (Int × (List T_api_Record) × Int × Int × ByteArray × Int)) ρ' M' H' => match p_ with | (x72, x73, x74, x75, x76, x77) => ∃ vx73 cx73, M53.le M' ∧ [(g0, .cells #[v0_0, (Iv x74), (Iv x75), (Sv x76), (Iv x77)] 57 (0, 0))] :: [(g22, .cells #[(Iv r23), (Iv r32), vx73] 24 (0, 0))] :: [(g21, .cells #[(Iv 0), (Iv 0), Zs] 24 (0, 0))] :: cx73 :: F = H' ∧ ρ' 0 = (pt g0 0) ∧ ρ' 2 = (pt g21 0) ∧ ρ' 3 = (Iv a0.S.At) ∧ ρ' 4 = (pt g22 0) ∧ ρ' 5 = (Iv r41) ∧ ρ' 6 = (Iv x72) ∧ OwnS kd_api_Record M' vx73 x73 cx73) ?_ ?_
 exact ⟨Zs, [], lr, rfl, hs53_0, hs53_2, hs53_3, hs53_4, hs53_5, rfl, (OwnS.nil _ _)⟩
 rintro ⟨x72, x73, x74, x75, x76, x77⟩ o71 ρ71 M71 H71 h ⟨vx73, cx73, hle71, rfl, hs71_0, hs71_2, hs71_3, hs71_4, hs71_5, hs71_6, hx73⟩
 unfold f_ref06_Next_l0 at h
 refine Cs ?_
 obtain ⟨x83, hj84, h⟩ := bnd h
 refine Jf (fun (x83 : Bool) ρ' M' H' => M71.le M' ∧ [(g0, .cells #[v0_0, (Iv x74), (Iv x75), (Sv x76), (Iv x77)] 57 (0, 0))] :: [(g22, .cells #[(Iv r23), (Iv r32), vx73] 24 (0, 0))] :: [(g21, .cells #[(Iv 0), (Iv 0), Zs] 24 (0, 0))] :: cx73 :: F = H' ∧ ρ' 0 = (pt g0 0) ∧ ρ' 2 = (pt g21 0) ∧ ρ' 3 = (Iv a0.S.At) ∧ ρ' 4 = (pt g22 0) ∧ ρ' 5 = (Iv r41) ∧ ρ' 6 = (Iv x72) ∧ ρ' 49 = (Bv x83)) x83 ?_ ?_
 have h384 := h
 have h := hj84
 refine Cg (Pm (Iv x72) hs71_6 rfl (Pm (Iv r41) hs71_5 rfl (Pu (Bv (decide (x72 < r41))) (PO.lss rfl rfl) rfl (Pm (Bv (decide (x72 < r41))) rfl rfl ?_))))
 rcases Bt (decide (x72 < r41)) with hb85 | hb85
 have h := ite_t hb85 h
 refine On 42 rfl rfl hb85 (Pm (pt g0 0) hs71_0 rfl (On 42 rfl rfl hb85 (Pu (pt g0 0) (Nk rfl) rfl (On 42 rfl rfl hb85 (Pu (pt g0 1) (Fa fo57_1 rfl rfl) rfl (On 42 rfl rfl hb85 (Pu (pt g0 2) (Fa fo50_1 rfl rfl) rfl (On 42 rfl rfl hb85 (Pu (Iv x75) (Lb 0 pl31 rfl rfl rfl) rfl (On 42 rfl rfl hb85 (Pu (Bv (decide (x75 = 0))) (PO.eql rfl rfl) rfl ?_)))))))))))
 refine Pu (Bv (decide (x75 = 0))) (Pt rfl hb85 rfl) rfl (Wz ?_)
 obtain rfl := oi h
 exact Tj ⟨lr, rfl, hs71_0, hs71_2, hs71_3, hs71_4, hs71_5, hs71_6, rfl⟩
 have h := ite_f hb85 h
 iterate 6 refine Of 42 rfl rfl hb85 rfl ?_
 refine Pu (Bv false) (Pf rfl hb85 rfl) rfl (Wz ?_)
 obtain rfl := oi h
 exact Tj ⟨lr, rfl, hs71_0, hs71_2, hs71_3, hs71_4, hs71_5, hs71_6, rfl⟩
 rintro ρ84 M84 H84 ⟨hle84, rfl, hs84_0, hs84_2, hs84_3, hs84_4, hs84_5, hs84_6, hs84_49⟩
 refine Cd (b := x83) hs84_49 (fun hb86 => ?_) (fun hb86 => ?_)
 have h := ite_t hb86 h
 refine Ck (Tc (Cs (Bk (Sr (Pm (pt g0 0) hs84_0 rfl ?_)))))
 obtain ⟨⟨r87, r88, r89, r90, r91⟩, hr92, h⟩ := bnd h
 have h0_0 := h0_0.mono (((hle48.trans hle53).trans hle71).trans hle84)
 refine We (Cb co49 (f_ref05_Read_ok (⟨a0.B, (⟨x74, x75, x76, x77⟩ : T_ref02_State)⟩ : T_ref05_Cursor) _ _ _ h0_0 (r87, r88, r89, r90, r91) hr92) (args1 rfl)) rfl ?_
 rintro _ M93 _ hle94 ⟨_, ⟨vq95_14, cq95_14, vq95_15, cq95_15, vq95_16, cq95_16, vq95_17, cq95_17, rfl, rfl, hq95_14, hq95_15, hq95_16, hq95_17⟩, rfl⟩
 refine WL.a5 (We (Al ze67 rfl) rfl ?_)
 rintro _ _ _ - ⟨rfl, g96, rfl, rfl⟩
 refine We (Sg (v := (a67_ r87 vq95_14 vq95_15 vq95_16 vq95_17)) (vl := (l67 r87 vq95_14 vq95_15 vq95_16 vq95_17)) (arr' := (l67 r87 vq95_14 vq95_15 vq95_16 vq95_17)) rfl sz67 rfl rfl (onesOf (Oc rfl (Oc rfl (Oc rfl (Oc rfl (Oc rfl (Oc rfl (Oc rfl (Oc rfl (Oc rfl (Oc rfl (Oc rfl (Oc rfl (Oc rfl (Oc rfl (Oc (Ow hq95_14) (Oc (Ow hq95_15) (Oc (Ow hq95_16) (Oc (Ow hq95_17) Oz))))))))))))))))))) rfl rfl (by kernel_rfl)) rfl ?_
 rintro _ _ _ - ⟨rfl, rfl⟩
 refine Nt (Cg (Pu (pt g22 2) (Fa fo24_2 hs84_4 rfl) rfl (Pu vx73 (Lb 6 pl22 rfl rfl rfl) rfl (Pu (a67_ r87 vq95_14 vq95_15 vq95_16 vq95_17) (La (cs := (l67 r87 vq95_14 vq95_15 vq95_16 vq95_17)) 0 ag67 sz67 rfl rfl rfl) rfl (Wb (WL.know (fun _ hs => hq95_14.rs hs) (fun hf101 => ?_)))))))
 refine WL.freeze (fun hle100 => ?_)
 refine Wb ?_
 have hq95_15 := hq95_15.mono hle100
 refine WL.know (fun _ hs => hq95_15.rs hs) (fun hf106 => ?_)
 refine WL.freeze (fun hle105 => ?_)
 refine Wb ?_
 have hq95_16 := hq95_16.mono (hle100.trans hle105)
 refine WL.know (fun _ hs => hq95_16.rs hs) (fun hf111 => ?_)
 refine WL.freeze (fun hle110 => ?_)
 refine Wb ?_
 have hq95_17 := hq95_17.mono ((hle100.trans hle105).trans hle110)
 refine WL.know (fun _ hs => hq95_17.rs hs) (fun hf116 => ?_)
 refine WL.freeze (fun hle115 => ?_)
 refine We (EO.buildSliceL (cl := (l67 r87 vq95_14 vq95_15 vq95_16 vq95_17)) Tryz.underlying22 iz67 rfl (Pc (a67_ r87 vq95_14 vq95_15 vq95_16 vq95_17) rfl rfl Pz) rfl) rfl ?_
 rintro _ _ _ - ⟨rfl, g117, rfl, rfl⟩
 have hf101 := hf101.mono ((hle105.trans hle110).trans hle115)
 have hf106 := hf106.mono (hle110.trans hle115)
 have hf111 := hf111.mono hle115
 have h119 : OwnS kd_api_Record ((((M93.add cq95_14).add cq95_15).add cq95_16).add cq95_17) (.slice (some ⟨g117, 0, none⟩) 1 1) [r87] [(g117, .cells (l67 r87 vq95_14 vq95_15 vq95_16 vq95_17).toArray 67 (0, 0))] := OwnS.rows (css := [(l67 r87 vq95_14 vq95_15 vq95_16 vq95_17)]) (Rows.cons (kd_api_Record_mk (x := r87) hf101 hf106 hf111 hf116) Rows.nil) rfl rfl
 obtain ⟨hg123, h⟩ := grd_i h
 refine WL.f5 ?_
 have hx73 := hx73.mono (((((hle84.trans hle94).trans hle100).trans hle105).trans hle110).trans hle115)
 refine We (EO.append (dd := kd_api_Record) (xs := x73) (ys := [r87]) Tryz.underlying22 Tryz.underlying22 in67 rfl (appB (by decide) hg123) (by decide) rfl rfl hx73 (h119.src 1 rfl)) rfl ?_
 rintro v122 _ _ - ⟨rfl, c120, rfl, h121⟩
 refine Pu (pt g22 2) (Fa fo24_2 hs84_4 rfl) rfl (WL.f4 (We (Es v122 [(Iv r23), (Iv r32), v122] h121.cells sz22 rfl rfl (Ow h121) rfl rfl rfl) rfl ?_))
 rintro _ _ _ - ⟨rfl, rfl⟩
 refine Wz (Bn (Tc (Cg (Pm (Iv x72) hs84_6 rfl (Pu (Iv (IntKind.i64.wrap (x72 + 1))) (PO.add rfl rfl) rfl (Pa (Iv (IntKind.i64.wrap (x72 + 1))) rfl rfl (Wz (Qb (Dr (Qb (Dr ?_)))))))))))
 exact Qa (WQ.f3 (Qb (WQ.f3 (WQ.again (IntKind.i64.wrap (x72 + 1), x73 ++ [r87], r88, r89, r90, r91) (oi h).symm ⟨v122, c120, ((((((hle71.trans hle84).trans hle94).trans hle100).trans hle105).trans hle110).trans hle115), rfl, hs84_0, hs84_2, hs84_3, hs84_4, hs84_5, rfl, h121⟩))))
 have h := ite_f hb86 h
 refine WC.exit (WQ.thenE (WQ.leaveE (x74, x75, x76, x77, x73) (oi h).symm (fun heq71 => ?_)))
 subst heq71
 have h := hK71
 refine WQ.blockH ?_
 obtain rfl := oi h
 refine Tj ?_
 have hx73 := hx73.mono hle84
 exact ⟨vx73, cx73, (hle71.trans hle84), rfl, hs84_0, hs84_2, hs84_3, hs84_4, hx73⟩
 obtain ⟨x65, x66, x67, x68, x69⟩ := j70
 rintro ρ70 M70 H70 ⟨vx69, cx69, hle70, rfl, hs70_0, hs70_2, hs70_3, hs70_4, hx69⟩
 obtain ⟨j128, hj128, h⟩ := bnd h
 refine Jf (fun (p_ : (Int × ByteArray × Int)) ρ' M' H' => match p_ with | (x125, x126, x127) => M70.le M' ∧ [(g0, .cells #[v0_0, (Iv x65), (Iv x125), (Sv x126), (Iv x127)] 57 (0, 0))] :: [(g22, .cells #[(Iv r23), (Iv r32), vx69] 24 (0, 0))] :: [(g21, .cells #[(Iv 0), (Iv 0), Zs] 24 (0, 0))] :: cx69 :: F = H' ∧ ρ' 0 = (pt g0 0) ∧ ρ' 2 = (pt g21 0) ∧ ρ' 4 = (pt g22 0)) j128 ?_ ?_
 have h3128 := h
 have h := hj128
 refine Sr (Pm (pt g0 0) hs70_0 rfl (Pu (pt g0 0) (Nk rfl) rfl (Pu (pt g0 1) (Fa fo57_1 rfl rfl) rfl (Pu (pt g0 1) (Fa fo50_0 rfl rfl) rfl (Pu (Iv x65) (Lb 0 pl3 rfl rfl rfl) rfl (Pm (Iv a0.S.At) hs70_3 rfl (Pu (Iv (IntKind.i64.wrap (x65 - a0.S.At))) (PO.sub rfl rfl) rfl (Pu (Bv (decide ((16384 : Int) < (IntKind.i64.wrap (x65 - a0.S.At))))) (PO.gtr rfl rfl) rfl (Nt (Cd (b := decide ((16384 : Int) < (IntKind.i64.wrap (x65 - a0.S.At)))) rfl (fun hb129 => ?_) (fun hb129 => ?_)))))))))))
 have h := ite_t hb129 h
 refine Cg (Pm (pt g0 0) hs70_0 rfl ?_)
 obtain ⟨⟨r130, r131, r132⟩, hr133, h⟩ := bnd h
 have h0_0 := h0_0.mono ((hle48.trans hle53).trans hle70)
 refine We (Cb co48 (f_ref05_Cursor_Refuse_ok (⟨a0.B, (⟨x65, x66, x67, x68⟩ : T_ref02_State)⟩ : T_ref05_Cursor) (⟨#[98, 97, 116, 99, 104]⟩ : ByteArray) (6 : Int) _ _ _ h0_0 (r130, r131, r132) hr133) (args3 rfl rfl rfl)) rfl ?_
 rintro _ M134 _ hle135 ⟨_, ⟨rfl, rfl⟩, rfl⟩
 refine WL.a1 (Wz ?_)
 obtain rfl := oi h
 exact Tj ⟨hle135, rfl, hs70_0, hs70_2, hs70_4⟩
 have h := ite_f hb129 h
 refine Ck ?_
 obtain rfl := oi h
 exact Tj ⟨lr, rfl, hs70_0, hs70_2, hs70_4⟩
 obtain ⟨x125, x126, x127⟩ := j128
 rintro ρ128 M128 H128 ⟨hle128, rfl, hs128_0, hs128_2, hs128_4⟩
 refine Cs (Sr (Pm (pt g0 0) hs128_0 rfl (Pu (pt g0 0) (Nk rfl) rfl (Pu (pt g0 1) (Fa fo57_1 rfl rfl) rfl (Pu (pt g0 2) (Fa fo50_1 rfl rfl) rfl (Pu (Iv x125) (Lb 0 pl31 rfl rfl rfl) rfl (Pu (Bv (decide (x125 ≠ 0))) (PO.neq rfl rfl) rfl (Nt (Cd (b := decide (x125 ≠ 0)) rfl (fun hb136 => ?_) (fun hb136 => ?_))))))))))
 have h := ite_t hb136 h
 refine Sr (Pu (.agg #[(Iv 0), (Iv 0), Zs]) (Bl (cl := [(Iv 0), (Iv 0), Zs]) ze24 fp24 Pz rfl) rfl (Wb (We (Sg (v := (.agg #[(Iv 0), (Iv 0), Zs])) (vl := [(Iv 0), (Iv 0), Zs]) (arr' := [(Iv 0), (Iv 0), Zs]) rfl sz24 hs128_2 rfl (onb rfl) rfl rfl rfl) rfl ?_)))
 rintro _ _ _ - ⟨rfl, rfl⟩
 exact Nt (Cr (Tr (WQ.e0 (WQ.f3 (Dr (WQ.f3 (Dr (Qb (Qb (Rd h [[(g0, .cells #[v0_0, (Iv x65), (Iv x125), (Sv x126), (Iv x127)] 57 (0, 0))], []] (fun _ hs => hs.drop) (resultsL1 rfl (Rc (cs := [(Iv 0), (Iv 0), Zs]) 0 ag24 sz24 hs128_2 rfl rfl)) (((((hle30.trans hle39).trans hle48).trans hle53).trans hle70).trans hle128) ⟨Zs, [], rfl, rfl, (OwnS.nil _ _)⟩))))))))))
 have h := ite_f hb136 h
 refine Ck (Tc (Sr (Pu (.agg #[(Iv r23), (Iv r32), vx69]) (La (cs := [(Iv r23), (Iv r32), vx69]) 1 ag24 sz24 hs128_4 rfl rfl) rfl (Wb ?_))))
 have hx69 := hx69.mono hle128
 refine We (Sg (v := (.agg #[(Iv r23), (Iv r32), vx69])) (vl := [(Iv r23), (Iv r32), vx69]) (arr' := [(Iv r23), (Iv r32), vx69]) rfl sz24 hs128_2 rfl (onesOf (Oc rfl (Oc rfl (Oc (Ow hx69) Oz)))) rfl rfl rfl) rfl ?_
 rintro _ _ _ - ⟨rfl, rfl⟩
 exact Nt (Cr (Qb (Dr (Rd h [[(g0, .cells #[v0_0, (Iv x65), (Iv x125), (Sv x126), (Iv x127)] 57 (0, 0))], cx69] (fun _ hs => hs.drop) (resultsL1 rfl (Rc (cs := [(Iv r23), (Iv r32), vx69]) 0 ag24 sz24 hs128_2 rfl rfl)) (((((hle30.trans hle39).trans hle48).trans hle53).trans hle70).trans hle128) ⟨vx69, cx69, rfl, rfl, hx69⟩))))

noncomputable def f_ref02_End (a0 : (List Int)) (a1 : T_ref02_State) : Option T_ref02_State :=
  (if (decide (a1.At < (a0.length : Int))) = true then ((f_ref02_bad a1 (⟨#[101, 110, 100]⟩ : ByteArray) a1.At (5 : Int)).bind fun (r24 : T_ref02_State) => (some r24)) else (some a1))
def f_ref02_End_post (a0 : (List Int)) (a1 : T_ref02_State) (v0 : Value) : T_ref02_State → Value → IM → HL → Prop :=
  fun (r0 : T_ref02_State) (v : Value) (M' : IM) (H' : HL) => (.agg #[(.int .i64 r0.At), (.int .i64 r0.Code), (.string r0.Op), (.int .i64 r0.Where)]) = v ∧ H' = []
theorem f_ref02_End_ok (a0 : (List Int)) (a1 : T_ref02_State) (M : IM) (v0 : Value) (h0 : RS (Kd.int .u8) M v0 a0) (res : T_ref02_State) (h : f_ref02_End a0 a1 = some res) :
    Tri Tryz.prog 79 #[v0, (a50_ a1)] M [] (f_ref02_End_post a0 a1 v0 res) := by
 unfold f_ref02_End at h
 refine Te Tryz.func79 rfl rfl ?_
 intro F ρ hρ
 refine Sr (We (EO.box (cs := (l50 a1).toArray) (congrArg Value.cells (asE (a50_ a1) (hρ 1)))) rfl ?_)
 rintro _ _ _ - ⟨rfl, g21, rfl, rfl⟩
 refine We (Al ze50 rfl) rfl ?_
 rintro _ _ _ - ⟨rfl, g22, rfl, rfl⟩
 refine Nt (Cs (Sr (Pu (pt g21 0) (Fa fo50_0 rfl rfl) rfl (Pu (Iv a1.At) (Lb 1 pl3 rfl rfl rfl) rfl (Pm v0 (hρ 0) rfl (Pu (Iv (a0.length : Int)) (PO.lenS Tryz.underlying40 rfl h0.len) rfl (Pu (Bv (decide (a1.At < (a0.length : Int)))) (PO.lss rfl rfl) rfl (Nt (Cd (b := decide (a1.At < (a0.length : Int))) rfl (fun hb23 => ?_) (fun hb23 => ?_))))))))))
 have h := ite_t hb23 h
 refine Sr (Pu (a50_ a1) (La (cs := (l50 a1)) 1 ag50 sz50 rfl rfl rfl) rfl (Pu (pt g21 0) (Fa fo50_0 rfl rfl) rfl (Pu (Iv a1.At) (Lb 1 pl3 rfl rfl rfl) rfl ?_)))
 obtain ⟨r24, hr25, h⟩ := bnd h
 refine We (Ca co107 (f_ref02_bad_ok a1 (⟨#[101, 110, 100]⟩ : ByteArray) a1.At (5 : Int) _ r24 hr25) (args4 rfl rfl rfl rfl)) rfl ?_
 rintro _ M26 _ hle27 ⟨_, ⟨rfl, rfl⟩, rfl⟩
 refine WL.a0 (We (Sg (v := (a50_ r24)) (vl := (l50 r24)) (arr' := (l50 r24)) rfl sz50 rfl rfl (onb rfl) rfl rfl rfl) rfl ?_)
 rintro _ _ _ - ⟨rfl, rfl⟩
 exact Nt (Cr (Tr (Qa (Dr (Rd h [] (fun _ hs => hs.drop) (resultsL1 rfl (Rc (cs := (l50 r24)) 0 ag50 sz50 rfl rfl rfl)) hle27 ⟨rfl, rfl⟩)))))
 have h := ite_f hb23 h
 refine Ck (Tc (Sr (Pu (a50_ a1) (La (cs := (l50 a1)) 1 ag50 sz50 rfl rfl rfl) rfl (We (Sg (v := (a50_ a1)) (vl := (l50 a1)) (arr' := (l50 a1)) rfl sz50 rfl rfl (onb rfl) rfl rfl rfl) rfl ?_))))
 rintro _ _ _ - ⟨rfl, rfl⟩
 exact Nt (Cr (Qa (Dr (Rd h [] (fun _ hs => hs.drop) (resultsL1 rfl (Rc (cs := (l50 a1)) 0 ag50 sz50 rfl rfl rfl)) lr ⟨rfl, rfl⟩))))


end Go.Proofs.YtjiffdgidodebaaGreatDoor.G
