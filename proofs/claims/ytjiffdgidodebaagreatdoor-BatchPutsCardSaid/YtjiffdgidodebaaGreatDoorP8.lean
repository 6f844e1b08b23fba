/- Go functions: what they come to, and that they do. Printed by a program of the session (gen). -/
import Derived.Test.YtjiffdgidodebaaGreatDoorPF
import Derived.Test.YtjiffdgidodebaaGreatDoorP7
import Derived.Test.YtjiffdgidodebaaGreatDoorKShar2
import Derived.Test.YtjiffdgidodebaaGreatDoorKConv
set_option linter.unusedVariables false
set_option linter.unusedSimpArgs false
set_option maxHeartbeats 8000000
set_option maxRecDepth 100000
namespace Go.Proofs.YtjiffdgidodebaaGreatDoor.G
open Go Go.KK

noncomputable def f_batch_Next_l0 (a0 : T_wire_Reader) (r42 : Int) (s_ : (Int × (List T_api_Record) × Int × GErr)) : Option ((Int × (List T_api_Record) × Int × GErr) ⊕ (Int × GErr × (List T_api_Record))) :=
  match s_ with
  | (x70, x71, x72, x73) =>
    (((if (decide (x70 < r42)) = true then ((f_wire_Reader_Err (⟨a0.b, x72, x73⟩ : T_wire_Reader)).bind fun (r80 : GErr) => (some r80.isNil)) else (some false)) : Option Bool).bind fun (x77 : Bool) => (if x77 = true then ((f_record_Read (⟨a0.b, x72, x73⟩ : T_wire_Reader)).bind fun (r86, r87, r88) => (grd (x71.length + [r86].length ≤ 274877906944) (some (Sum.inl (IntKind.i64.wrap (x70 + (1 : Int)), x71 ++ [r86], r87, r88))))) else (some (Sum.inr (x72, x73, x71)))))
noncomputable def f_batch_Next (a0 : T_wire_Reader) : Option (T_api_Batch × Int × GErr) :=
  ((f_wire_Reader_At a0).bind fun (r22 : Int) => ((f_wire_Reader_Int a0 (1073741824 : Int)).bind fun (r27, r28, r29) => ((f_wire_Reader_Int (⟨a0.b, r28, r29⟩ : T_wire_Reader) (1073741824 : Int)).bind fun (r34, r35, r36) => ((f_wire_Reader_Int (⟨a0.b, r35, r36⟩ : T_wire_Reader) (64 : Int)).bind fun (r42, r43, r44) => ((((((f_wire_Reader_Err (⟨a0.b, r43, r44⟩ : T_wire_Reader)).bind fun (r53 : GErr) => (if r53.isNil = true then (if (decide (r27 = (0 : Int))) = true then (some true) else (some (decide (r42 = (0 : Int))))) else (some false))) : Option Bool).bind fun (x51 : Bool) => (if x51 = true then ((f_wire_Reader_Refuse (⟨a0.b, r43, r44⟩ : T_wire_Reader) (⟨#[98, 97, 116, 99, 104]⟩ : ByteArray) (2 : Int)).bind fun (r61 : GErr) => (some r61)) else (some r44))) : Option GErr).bind fun (x49 : GErr) => ((((iter (f_batch_Next_l0 a0 r42) ((0 : Int), [], r43, x49)).bind (fun (x74, x75, x76) => (some (x74, x75, x76)))) : Option (Int × GErr × (List T_api_Record))).bind fun (x65, x66, x67) => ((((f_wire_Reader_At (⟨a0.b, x65, x66⟩ : T_wire_Reader)).bind fun (r123 : Int) => (if (decide ((16384 : Int) < (IntKind.i64.wrap (r123 - r22)))) = true then ((f_wire_Reader_Refuse (⟨a0.b, x65, x66⟩ : T_wire_Reader) (⟨#[98, 97, 116, 99, 104]⟩ : ByteArray) (6 : Int)).bind fun (r129 : GErr) => (some r129)) else (some x66))) : Option GErr).bind fun (x121 : GErr) => ((f_wire_Reader_Err (⟨a0.b, x65, x121⟩ : T_wire_Reader)).bind fun (r133 : GErr) => (if (!r133.isNil) = true then (some ((⟨(0 : Int), (0 : Int), []⟩ : T_api_Batch), x65, x121)) else (some ((⟨r27, r34, x67⟩ : T_api_Batch), x65, x121)))))))))))
def f_batch_Next_post (a0 : T_wire_Reader) (v0_0 : Value) (g0 : Nat) : (T_api_Batch × Int × GErr) → Value → IM → HL → Prop :=
  fun (p_ : (T_api_Batch × Int × GErr)) (v : Value) (M' : IM) (H' : HL) => match p_ with | (r0, r1, r2) => ∃ vz0_2 cz0_2, (.agg #[(.int .i64 r0.Term), (.int .i64 r0.Base), vz0_2]) = v ∧ H' = [[(g0, .cells #[v0_0, (.int .i64 r1), (GV r2)] 85 (0, 0))], cz0_2] ∧ OwnS kd_api_Record M' vz0_2 r0.Records cz0_2
theorem f_batch_Next_ok (a0 : T_wire_Reader) (M : IM) (v0_0 : Value) (g0 : Nat) (h0_0 : RS (Kd.int .u8) M v0_0 a0.b) (hE : Env M) (res : (T_api_Batch × Int × GErr)) (h : f_batch_Next a0 = some res) :
    Tri Tryz.prog 21 #[(pt g0 0)] M [[(g0, .cells #[v0_0, (.int .i64 a0.at_), (GV a0.err)] 85 (0, 0))]] (f_batch_Next_post a0 v0_0 g0 res) := by
 unfold f_batch_Next at h
 refine Tri.enter (fn := Tryz.f21) Tryz.func21 rfl (Nat.le_of_ble_eq_true rfl) ?_
 intro F ρ hρ
 refine Sr ?_
 refine WL.eff (EO.alloc ze24 rfl) rfl ?_
 rintro _ _ _ - ⟨rfl, g21, rfl, rfl⟩
 refine Ns ?_
 refine Pm (pt g0 0) (hρ 0) rfl ?_
 obtain ⟨r22, hr23, h⟩ := bnd h
 refine WL.f1 ?_
 refine WL.eff (EO.call1 co23 (f_wire_Reader_At_ok a0 _ _ _ h0_0 r22 hr23) (args1 rfl)) rfl ?_
 rintro _ M24 _ hle25 ⟨_, ⟨rfl, rfl⟩, rfl⟩
 have h0_0 := h0_0.mono hle25
 have hE := hE.mono hle25
 refine WL.a1 ?_
 refine Pa (.int .i64 r22) rfl rfl ?_
 refine Ns ?_
 refine Pm (pt g0 0) (hρ 0) rfl ?_
 obtain ⟨⟨r27, r28, r29⟩, hr30, h⟩ := bnd h
 refine WL.eff (EO.call1 co44 (f_wire_Reader_Int_ok a0 (1073741824 : Int) _ _ _ h0_0 (r27, r28, r29) hr30) (args2 rfl rfl)) rfl ?_
 rintro _ M31 _ hle32 ⟨_, ⟨rfl, rfl⟩, rfl⟩
 have h0_0 := h0_0.mono hle32
 have hE := hE.mono hle32
 refine WL.a1 ?_
 refine Pm (pt g0 0) (hρ 0) rfl ?_
 obtain ⟨⟨r34, r35, r36⟩, hr37, h⟩ := bnd h
 refine WL.eff (EO.call1 co44 (f_wire_Reader_Int_ok (⟨a0.b, r28, r29⟩ : T_wire_Reader) (1073741824 : Int) _ _ _ h0_0 (r34, r35, r36) hr37) (args2 rfl rfl)) rfl ?_
 rintro _ M38 _ hle39 ⟨_, ⟨rfl, rfl⟩, rfl⟩
 have h0_0 := h0_0.mono hle39
 have hE := hE.mono hle39
 refine WL.a1 ?_
 refine Pu (.agg #[(.int .i64 r27), (.int .i64 r34), (.slice none 0 0)]) (PO.buildL (cl := [(.int .i64 r27), (.int .i64 r34), (.slice none 0 0)]) ze24 fp24 (Parts.cons (congrArg Value.cells (show ev _ _ = (.int .i64 r27) from rfl)) (Parts.cons (congrArg Value.cells (show ev _ _ = (.int .i64 r34) from rfl)) Parts.nil)) rfl) rfl ?_
 refine WL.eff (EO.alloc ze24 rfl) rfl ?_
 rintro _ _ _ - ⟨rfl, g41, rfl, rfl⟩
 refine WL.eff (EO.storeL (v := (.agg #[(.int .i64 r27), (.int .i64 r34), (.slice none 0 0)])) (vl := [(.int .i64 r27), (.int .i64 r34), (.slice none 0 0)]) (arr' := [(.int .i64 r27), (.int .i64 r34), (.slice none 0 0)]) rfl sz24 rfl rfl (onesOf (Ones.cons rfl (Ones.cons rfl (Ones.cons rfl Ones.nil)))) rfl rfl rfl) rfl ?_
 rintro _ _ _ - ⟨rfl, rfl⟩
 refine Ns ?_
 refine Pm (pt g0 0) (hρ 0) rfl ?_
 obtain ⟨⟨r42, r43, r44⟩, hr45, h⟩ := bnd h
 refine WL.f1 ?_
 refine WL.eff (EO.call1 co44 (f_wire_Reader_Int_ok (⟨a0.b, r35, r36⟩ : T_wire_Reader) (64 : Int) _ _ _ h0_0 (r42, r43, r44) hr45) (args2 rfl rfl)) rfl ?_
 rintro _ M46 _ hle47 ⟨_, ⟨rfl, rfl⟩, rfl⟩
 have h0_0 := h0_0.mono hle47
 have hE := hE.mono hle47
 refine WL.a1 ?_
 refine Pa (.int .i64 r42) rfl rfl ?_
 refine Nt ?_
 obtain ⟨x49, hj50, h⟩ := bnd h
 refine WC.joinF (fun (x49 : GErr) ρ' M' H' => M46.le M' ∧ [(g0, .cells #[v0_0, (.int .i64 r43), (GV x49)] 85 (0, 0))] :: [(g41, .cells #[(.int .i64 r27), (.int .i64 r34), (.slice none 0 0)] 24 (0, 0))] :: [(g21, .cells #[(.int .i64 0), (.int .i64 0), (.slice none 0 0)] 24 (0, 0))] :: F = H' ∧ ρ' 0 = (pt g0 0) ∧ ρ' 2 = (pt g21 0) ∧ ρ' 3 = (.int .i64 r22) ∧ ρ' 4 = (pt g41 0) ∧ ρ' 5 = (.int .i64 r42)) x49 ?_ ?_
 have h350 := h
 have h := hj50
 obtain ⟨x51, hj52, h⟩ := bnd h
 refine WC.joinF (fun (x51 : Bool) ρ' M' H' => M46.le M' ∧ [(g0, .cells #[v0_0, (.int .i64 r43), (GV r44)] 85 (0, 0))] :: [(g41, .cells #[(.int .i64 r27), (.int .i64 r34), (.slice none 0 0)] 24 (0, 0))] :: [(g21, .cells #[(.int .i64 0), (.int .i64 0), (.slice none 0 0)] 24 (0, 0))] :: F = H' ∧ ρ' 0 = (pt g0 0) ∧ ρ' 2 = (pt g21 0) ∧ ρ' 3 = (.int .i64 r22) ∧ ρ' 4 = (pt g41 0) ∧ ρ' 5 = (.int .i64 r42) ∧ ρ' 27 = (.bool x51)) x51 ?_ ?_
 have h352 := h
 have h := hj52
 refine WC.region ?_
 refine Pm (pt g0 0) (hρ 0) rfl ?_
 obtain ⟨r53, hr54, h⟩ := bnd h
 refine WL.eff (EO.call1 co25 (f_wire_Reader_Err_ok (⟨a0.b, r43, r44⟩ : T_wire_Reader) _ _ _ h0_0 r53 hr54) (args1 rfl)) rfl ?_
 rintro _ M55 _ hle56 ⟨_, ⟨rfl, rfl⟩, rfl⟩
 have h0_0 := h0_0.mono hle56
 have hE := hE.mono hle56
 refine WL.a1 ?_
 refine Pu (.bool r53.isNil) (PO.errNil Tryz.underlying29 rfl) rfl ?_
 refine Pm (.bool r53.isNil) rfl rfl ?_
 rcases Bool.eq_false_or_eq_true (r53.isNil) with hb58 | hb58
 have h := ite_t hb58 h
 refine On 19 rfl rfl hb58 ?_
 refine Pu (pt g41 0) (PO.fieldAddr fo24_0 rfl rfl) rfl ?_
 refine On 19 rfl rfl hb58 ?_
 refine Pu (.int .i64 r27) (PO.loadB 1 pl3 rfl rfl rfl) rfl ?_
 refine On 19 rfl rfl hb58 ?_
 refine Pu (.bool (decide (r27 = 0))) (PO.eql rfl rfl) rfl ?_
 refine On 19 rfl rfl hb58 ?_
 refine Pm (.bool (decide (r27 = 0))) rfl rfl ?_
 rcases Bool.eq_false_or_eq_true (decide (r27 = 0)) with hb59 | hb59
 have h := ite_t hb59 h
 iterate 2 refine Of 23 rfl rfl hb59 rfl ?_
 refine On 19 rfl rfl hb58 ?_
 refine Pu (.bool true) (PO.pickT rfl hb59 rfl) rfl ?_
 refine Pu (.bool true) (PO.pickT rfl hb58 rfl) rfl ?_
 refine WL.nil ?_
 obtain rfl := Option.some.inj h
 refine WQ.thenJ ?_
 exact ⟨hle56, rfl, (hρ 0), rfl, rfl, rfl, rfl, rfl⟩
 have h := ite_f hb59 h
 refine On 23 rfl rfl hb59 ?_
 refine Pm (.int .i64 r42) rfl rfl ?_
 refine On 23 rfl rfl hb59 ?_
 refine Pu (.bool (decide (r42 = 0))) (PO.eql rfl rfl) rfl ?_
 refine On 19 rfl rfl hb58 ?_
 refine Pu (.bool (decide (r42 = 0))) (PO.pickF rfl hb59 rfl) rfl ?_
 refine Pu (.bool (decide (r42 = 0))) (PO.pickT rfl hb58 rfl) rfl ?_
 refine WL.nil ?_
 obtain rfl := Option.some.inj h
 refine WQ.thenJ ?_
 exact ⟨hle56, rfl, (hρ 0), rfl, rfl, rfl, rfl, rfl⟩
 have h := ite_f hb58 h
 iterate 4 refine Of 19 rfl rfl hb58 rfl ?_
 refine WL.offU 23 rfl rfl rfl ?_
 refine WL.offU 23 rfl rfl rfl ?_
 refine Of 19 rfl rfl hb58 rfl ?_
 refine Pu (.bool false) (PO.pickF rfl hb58 rfl) rfl ?_
 refine WL.nil ?_
 obtain rfl := Option.some.inj h
 refine WQ.thenJ ?_
 exact ⟨hle56, rfl, (hρ 0), rfl, rfl, rfl, rfl, rfl⟩
 rintro ρ52 M52 H52 ⟨hle52, rfl, hs52_0, hs52_2, hs52_3, hs52_4, hs52_5, hs52_27⟩
 have h0_0 := h0_0.mono hle52
 have hE := hE.mono hle52
 refine WC.cond (b := x51) hs52_27 (fun hb60 => ?_) (fun hb60 => ?_)
 have h := ite_t hb60 h
 refine WC.region ?_
 refine Pm (pt g0 0) hs52_0 rfl ?_
 obtain ⟨r61, hr62, h⟩ := bnd h
 refine WL.eff (EO.call1 co45 (f_wire_Reader_Refuse_ok (⟨a0.b, r43, r44⟩ : T_wire_Reader) (⟨#[98, 97, 116, 99, 104]⟩ : ByteArray) (2 : Int) _ _ _ h0_0 r61 hr62) (args3 rfl rfl rfl)) rfl ?_
 rintro _ M63 _ hle64 ⟨_, ⟨rfl, rfl⟩, rfl⟩
 have h0_0 := h0_0.mono hle64
 have hE := hE.mono hle64
 refine WL.a1 ?_
 refine WL.nil ?_
 obtain rfl := Option.some.inj h
 refine WQ.thenJ ?_
 exact ⟨(hle52.trans hle64), rfl, hs52_0, hs52_2, hs52_3, hs52_4, hs52_5⟩
 have h := ite_f hb60 h
 refine WC.skip ?_
 obtain rfl := Option.some.inj h
 refine WQ.thenJ ?_
 exact ⟨hle52, rfl, hs52_0, hs52_2, hs52_3, hs52_4, hs52_5⟩
 rintro ρ50 M50 H50 ⟨hle50, rfl, hs50_0, hs50_2, hs50_3, hs50_4, hs50_5⟩
 have h0_0 := h0_0.mono hle50
 have hE := hE.mono hle50
 obtain ⟨j68, hj68, h⟩ := bnd h
 refine WC.joinF (fun (p_ : (Int × GErr × (List T_api_Record))) ρ' M' H' => match p_ with | (x65, x66, x67) => ∃ vx67 cx67, M50.le M' ∧ [(g0, .cells #[v0_0, (.int .i64 x65), (GV x66)] 85 (0, 0))] :: [(g41, .cells #[(.int .i64 r27), (.int .i64 r34), vx67] 24 (0, 0))] :: [(g21, .cells #[(.int .i64 0), (.int .i64 0), (.slice none 0 0)] 24 (0, 0))] :: cx67 :: F = H' ∧ ρ' 0 = (pt g0 0) ∧ ρ' 2 = (pt g21 0) ∧ ρ' 3 = (.int .i64 r22) ∧ ρ' 4 = (pt g41 0) ∧ OwnS kd_api_Record M' vx67 x67 cx67) j68 ?_ ?_
 have h368 := h
 have h := hj68
 refine Sr ?_
 refine Pa (.int .i64 0) rfl rfl ?_
 refine Nt ?_
 refine WC.block ?_
 refine WC.e0 ?_
 refine WC.f3 ?_
 refine WC.f3 ?_
 refine WC.f3 ?_
 obtain ⟨e69, he69, hK69⟩ := bnd h
 clear h
 refine WC.loop he69 (fun (p_ : (Int × (List T_api_Record) × Int × GErr)) ρ' M' H' => match p_ with | (x70, x71, x72, x73) => ∃ vx71 cx71, M50.le M' ∧ [(g0, .cells #[v0_0, (.int .i64 x72), (GV x73)] 85 (0, 0))] :: [(g41, .cells #[(.int .i64 r27), (.int .i64 r34), vx71] 24 (0, 0))] :: [(g21, .cells #[(.int .i64 0), (.int .i64 0), (.slice none 0 0)] 24 (0, 0))] :: cx71 :: F = H' ∧ ρ' 0 = (pt g0 0) ∧ ρ' 2 = (pt g21 0) ∧ ρ' 3 = (.int .i64 r22) ∧ ρ' 4 = (pt g41 0) ∧ ρ' 5 = (.int .i64 r42) ∧ ρ' 6 = (.int .i64 x70) ∧ OwnS kd_api_Record M' vx71 x71 cx71) ?_ ?_
 exact ⟨(.slice none 0 0), [], (IM.le.refl _), rfl, hs50_0, hs50_2, hs50_3, hs50_4, hs50_5, rfl, (OwnS.nil _ _)⟩
 rintro ⟨x70, x71, x72, x73⟩ o69 ρ69 M69 H69 h ⟨vx71, cx71, hle69, rfl, hs69_0, hs69_2, hs69_3, hs69_4, hs69_5, hs69_6, hx71⟩
 unfold f_batch_Next_l0 at h
 have h0_0 := h0_0.mono hle69
 have hE := hE.mono hle69
 refine WC.seq ?_
 obtain ⟨x77, hj78, h⟩ := bnd h
 refine WC.joinF (fun (x77 : Bool) ρ' M' H' => M69.le M' ∧ [(g0, .cells #[v0_0, (.int .i64 x72), (GV x73)] 85 (0, 0))] :: [(g41, .cells #[(.int .i64 r27), (.int .i64 r34), vx71] 24 (0, 0))] :: [(g21, .cells #[(.int .i64 0), (.int .i64 0), (.slice none 0 0)] 24 (0, 0))] :: cx71 :: F = H' ∧ ρ' 0 = (pt g0 0) ∧ ρ' 2 = (pt g21 0) ∧ ρ' 3 = (.int .i64 r22) ∧ ρ' 4 = (pt g41 0) ∧ ρ' 5 = (.int .i64 r42) ∧ ρ' 6 = (.int .i64 x70) ∧ ρ' 37 = (.bool x77)) x77 ?_ ?_
 have h378 := h
 have h := hj78
 refine WC.region ?_
 refine Pm (.int .i64 x70) hs69_6 rfl ?_
 refine Pm (.int .i64 r42) hs69_5 rfl ?_
 refine Pu (.bool (decide (x70 < r42))) (PO.lss rfl rfl) rfl ?_
 refine Pm (.bool (decide (x70 < r42))) rfl rfl ?_
 rcases Bool.eq_false_or_eq_true (decide (x70 < r42)) with hb79 | hb79
 have h := ite_t hb79 h
 refine On 33 rfl rfl hb79 ?_
 refine Pm (pt g0 0) hs69_0 rfl ?_
 refine On 33 rfl rfl hb79 ?_
 obtain ⟨r80, hr81, h⟩ := bnd h
 refine WL.eff (EO.call1 co25 (f_wire_Reader_Err_ok (⟨a0.b, x72, x73⟩ : T_wire_Reader) _ _ _ h0_0 r80 hr81) (args1 rfl)) rfl ?_
 rintro _ M82 _ hle83 ⟨_, ⟨rfl, rfl⟩, rfl⟩
 have h0_0 := h0_0.mono hle83
 have hx71 := hx71.mono hle83
 have hE := hE.mono hle83
 refine WL.a1 ?_
 refine On 33 rfl rfl hb79 ?_
 refine Pu (.bool r80.isNil) (PO.errNil Tryz.underlying29 rfl) rfl ?_
 refine Pu (.bool r80.isNil) (PO.pickT rfl hb79 rfl) rfl ?_
 refine WL.nil ?_
 obtain rfl := Option.some.inj h
 refine WQ.thenJ ?_
 exact ⟨hle83, rfl, hs69_0, hs69_2, hs69_3, hs69_4, hs69_5, hs69_6, rfl⟩
 have h := ite_f hb79 h
 iterate 3 refine Of 33 rfl rfl hb79 rfl ?_
 refine Pu (.bool false) (PO.pickF rfl hb79 rfl) rfl ?_
 refine WL.nil ?_
 obtain rfl := Option.some.inj h
 refine WQ.thenJ ?_
 exact ⟨(IM.le.refl _), rfl, hs69_0, hs69_2, hs69_3, hs69_4, hs69_5, hs69_6, rfl⟩
 rintro ρ78 M78 H78 ⟨hle78, rfl, hs78_0, hs78_2, hs78_3, hs78_4, hs78_5, hs78_6, hs78_37⟩
 have h0_0 := h0_0.mono hle78
 have hx71 := hx71.mono hle78
 have hE := hE.mono hle78
 refine WC.cond (b := x77) hs78_37 (fun hb85 => ?_) (fun hb85 => ?_)
 have h := ite_t hb85 h
 refine WC.skip ?_
 refine WQ.thenC ?_
 refine WC.seq ?_
 refine WC.block ?_
 refine WC.draw [0, 1, 0, 4, 12, 31, 63, 127] (.pure 0 (.pure 1 (.pure 2 (.alt 3 (.alt 4 (.alt 5 (.pure 6 (.alt 7 .done .none)) .none) .none) .none)))) mixed (by kernel_rfl) ?_
 refine Tp (pt g41 2) rfl (PO.fieldAddr fo24_2 hs78_4 rfl) rfl ?_
 refine Tp vx71 rfl (PO.loadB 1 pl22 rfl rfl rfl) rfl ?_
 refine Tp (pt g0 0) rfl (PO.move hs78_0) rfl ?_
 obtain ⟨⟨r86, r87, r88⟩, hr89, h⟩ := bnd h
 refine WT.alt rfl (EO.call1 co46 (f_record_Read_ok (⟨a0.b, x72, x73⟩ : T_wire_Reader) _ _ _ h0_0 hE (r86, r87, r88) hr89) (args1 rfl)) rfl ?_ ?_
 rintro _ M90 _ hle91 ⟨_, ⟨vq92_14, cq92_14, vq92_15, cq92_15, vq92_16, cq92_16, vq92_17, cq92_17, rfl, rfl, hq92_14, hq92_15, hq92_16, hq92_17⟩, rfl⟩
 have hx71 := hx71.mono hle91
 have h0_0 := h0_0.mono hle91
 have hE := hE.mono hle91
 refine ⟨(StabL.anc rfl (StabL.st (StabA.of rfl (PO.loadB 5 pl22 rfl rfl rfl) rfl) (StabL.st (StabA.of rfl (PO.fieldAddr fo24_2 hs78_4 rfl) rfl) trivial))), ?_⟩
 refine WT.a5 ?_
 refine WT.f1 ?_
 refine WT.know (fun _ hs => hq92_14.rs hs) (fun hf97 => ?_)
 refine WT.freeze (fun hle96 => ?_)
 have hx71 := hx71.mono hle96
 have hq92_15 := hq92_15.mono hle96
 have hq92_16 := hq92_16.mono hle96
 have hq92_17 := hq92_17.mono hle96
 have h0_0 := h0_0.mono hle96
 have hE := hE.mono hle96
 refine WT.f1 ?_
 refine WT.know (fun _ hs => hq92_15.rs hs) (fun hf102 => ?_)
 refine WT.freeze (fun hle101 => ?_)
 have hx71 := hx71.mono hle101
 have hf97 := hf97.mono hle101
 have hq92_16 := hq92_16.mono hle101
 have hq92_17 := hq92_17.mono hle101
 have h0_0 := h0_0.mono hle101
 have hE := hE.mono hle101
 refine WT.f1 ?_
 refine WT.know (fun _ hs => hq92_16.rs hs) (fun hf107 => ?_)
 refine WT.freeze (fun hle106 => ?_)
 have hx71 := hx71.mono hle106
 have hf97 := hf97.mono hle106
 have hf102 := hf102.mono hle106
 have hq92_17 := hq92_17.mono hle106
 have h0_0 := h0_0.mono hle106
 have hE := hE.mono hle106
 refine WT.f1 ?_
 refine WT.know (fun _ hs => hq92_17.rs hs) (fun hf112 => ?_)
 refine WT.freeze (fun hle111 => ?_)
 have hx71 := hx71.mono hle111
 have hf97 := hf97.mono hle111
 have hf102 := hf102.mono hle111
 have hf107 := hf107.mono hle111
 have h0_0 := h0_0.mono hle111
 have hE := hE.mono hle111
 refine WT.alt rfl (EO.buildSliceL (cl := (l67 r86 vq92_14 vq92_15 vq92_16 vq92_17)) Tryz.underlying22 iz67 rfl (Parts.cons (congrArg Value.cells (show ev _ _ = (a67_ r86 vq92_14 vq92_15 vq92_16 vq92_17) from rfl)) Parts.nil) rfl) rfl ?_ ?_
 rintro _ _ _ - ⟨rfl, g113, rfl, rfl⟩
 have h115 : OwnS kd_api_Record ((((M90.add cq92_14).add cq92_15).add cq92_16).add cq92_17) (.slice (some ⟨g113, 0, none⟩) 1 1) [r86] [(g113, .cells (l67 r86 vq92_14 vq92_15 vq92_16 vq92_17).toArray 67 (0, 0))] := OwnS.rows (css := [(l67 r86 vq92_14 vq92_15 vq92_16 vq92_17)]) (Rows.cons (kd_api_Record_mk (x := r86) hf97 hf102 hf107 hf112) Rows.nil) rfl rfl
 refine ⟨(StabL.anc rfl (StabL.st (StabA.of rfl (PO.loadB 2 pl22 rfl rfl rfl) rfl) (StabL.st (StabA.of rfl (PO.fieldAddr fo24_2 hs78_4 rfl) rfl) trivial))), ?_⟩
 obtain ⟨hg119, h⟩ := grd_i h
 refine WT.f4 ?_
 refine WT.alt rfl (EO.append (dd := kd_api_Record) (xs := x71) (ys := [r86]) Tryz.underlying22 Tryz.underlying22 in67 rfl (appB (by decide) hg119) (by decide) rfl rfl hx71 (h115.src 1 rfl)) rfl ?_ ?_
 rintro v118 _ _ - ⟨rfl, c116, rfl, h117⟩
 refine ⟨(StabL.anc rfl (StabL.anc rfl (StabL.anc rfl trivial))), ?_⟩
 refine Tp (pt g41 2) rfl (PO.fieldAddr fo24_2 hs78_4 rfl) rfl ?_
 refine WT.f3 ?_
 refine WT.alt rfl (EO.storeL (v := v118) (vl := [v118]) (arr' := [(.int .i64 r27), (.int .i64 r34), v118]) h117.cells sz22 rfl rfl (onesOf (Ones.cons (OwnS.one h117) Ones.nil)) rfl rfl rfl) rfl ?_ ?_
 rintro _ _ _ - ⟨rfl, rfl⟩
 refine ⟨(StabL.anc rfl (StabL.anc rfl (StabL.anc rfl (StabL.anc rfl trivial)))), ?_⟩
 refine WT.fin ?_
 refine WQ.blockN ?_
 refine WQ.thenC ?_
 refine WC.region ?_
 refine Pm (.int .i64 x70) hs78_6 rfl ?_
 refine Pu (.int .i64 (IntKind.i64.wrap (x70 + 1))) (PO.add rfl rfl) rfl ?_
 refine Pa (.int .i64 (IntKind.i64.wrap (x70 + 1))) rfl rfl ?_
 refine WL.nil ?_
 refine WQ.f2 ?_
 refine WQ.drop ?_
 refine WQ.f1 ?_
 refine WQ.f3 ?_
 refine WQ.f2 ?_
 refine WQ.f3 ?_
 refine WQ.again (IntKind.i64.wrap (x70 + 1), x71 ++ [r86], r87, r88) (Option.some.inj h).symm ?_
 exact ⟨v118, c116, ((((((hle69.trans hle78).trans hle91).trans hle96).trans hle101).trans hle106).trans hle111), rfl, hs78_0, hs78_2, hs78_3, hs78_4, hs78_5, rfl, h117⟩
 exact WT.no
 exact WT.no
 exact WT.no
 exact WT.no
 have h := ite_f hb85 h
 refine WC.exit ?_
 refine WQ.thenE ?_
 refine WQ.leaveE (x72, x73, x71) (Option.some.inj h).symm (fun heq69 => ?_)
 subst heq69
 have h := hK69
 refine WQ.blockH ?_
 obtain rfl := Option.some.inj h
 refine WQ.thenJ ?_
 exact ⟨vx71, cx71, (hle69.trans hle78), rfl, hs78_0, hs78_2, hs78_3, hs78_4, hx71⟩
 obtain ⟨x65, x66, x67⟩ := j68
 rintro ρ68 M68 H68 ⟨vx67, cx67, hle68, rfl, hs68_0, hs68_2, hs68_3, hs68_4, hx67⟩
 have h0_0 := h0_0.mono hle68
 have hE := hE.mono hle68
 obtain ⟨x121, hj122, h⟩ := bnd h
 refine WC.joinF (fun (x121 : GErr) ρ' M' H' => M68.le M' ∧ [(g0, .cells #[v0_0, (.int .i64 x65), (GV x121)] 85 (0, 0))] :: [(g41, .cells #[(.int .i64 r27), (.int .i64 r34), vx67] 24 (0, 0))] :: [(g21, .cells #[(.int .i64 0), (.int .i64 0), (.slice none 0 0)] 24 (0, 0))] :: cx67 :: F = H' ∧ ρ' 0 = (pt g0 0) ∧ ρ' 2 = (pt g21 0) ∧ ρ' 4 = (pt g41 0)) x121 ?_ ?_
 have h3122 := h
 have h := hj122
 refine Sr ?_
 refine Pm (pt g0 0) hs68_0 rfl ?_
 obtain ⟨r123, hr124, h⟩ := bnd h
 refine WL.eff (EO.call1 co23 (f_wire_Reader_At_ok (⟨a0.b, x65, x66⟩ : T_wire_Reader) _ _ _ h0_0 r123 hr124) (args1 rfl)) rfl ?_
 rintro _ M125 _ hle126 ⟨_, ⟨rfl, rfl⟩, rfl⟩
 have h0_0 := h0_0.mono hle126
 have hx67 := hx67.mono hle126
 have hE := hE.mono hle126
 refine WL.a1 ?_
 refine Pm (.int .i64 r22) hs68_3 rfl ?_
 refine Pu (.int .i64 (IntKind.i64.wrap (r123 - r22))) (PO.sub rfl rfl) rfl ?_
 refine Pu (.bool (decide ((16384 : Int) < (IntKind.i64.wrap (r123 - r22))))) (PO.gtr rfl rfl) rfl ?_
 refine Nt ?_
 refine WC.cond (b := decide ((16384 : Int) < (IntKind.i64.wrap (r123 - r22)))) rfl (fun hb128 => ?_) (fun hb128 => ?_)
 have h := ite_t hb128 h
 refine WC.region ?_
 refine Pm (pt g0 0) hs68_0 rfl ?_
 obtain ⟨r129, hr130, h⟩ := bnd h
 refine WL.eff (EO.call1 co45 (f_wire_Reader_Refuse_ok (⟨a0.b, x65, x66⟩ : T_wire_Reader) (⟨#[98, 97, 116, 99, 104]⟩ : ByteArray) (6 : Int) _ _ _ h0_0 r129 hr130) (args3 rfl rfl rfl)) rfl ?_
 rintro _ M131 _ hle132 ⟨_, ⟨rfl, rfl⟩, rfl⟩
 have h0_0 := h0_0.mono hle132
 have hx67 := hx67.mono hle132
 have hE := hE.mono hle132
 refine WL.a1 ?_
 refine WL.nil ?_
 obtain rfl := Option.some.inj h
 refine WQ.thenJ ?_
 exact ⟨(hle126.trans hle132), rfl, hs68_0, hs68_2, hs68_4⟩
 have h := ite_f hb128 h
 refine WC.skip ?_
 obtain rfl := Option.some.inj h
 refine WQ.thenJ ?_
 exact ⟨hle126, rfl, hs68_0, hs68_2, hs68_4⟩
 rintro ρ122 M122 H122 ⟨hle122, rfl, hs122_0, hs122_2, hs122_4⟩
 have h0_0 := h0_0.mono hle122
 have hx67 := hx67.mono hle122
 have hE := hE.mono hle122
 refine WC.seq ?_
 refine Sr ?_
 refine Pm (pt g0 0) hs122_0 rfl ?_
 obtain ⟨r133, hr134, h⟩ := bnd h
 refine WL.eff (EO.call1 co25 (f_wire_Reader_Err_ok (⟨a0.b, x65, x121⟩ : T_wire_Reader) _ _ _ h0_0 r133 hr134) (args1 rfl)) rfl ?_
 rintro _ M135 _ hle136 ⟨_, ⟨rfl, rfl⟩, rfl⟩
 have h0_0 := h0_0.mono hle136
 have hx67 := hx67.mono hle136
 have hE := hE.mono hle136
 refine WL.a1 ?_
 refine Pu (.bool (!r133.isNil)) (PO.errNotNil Tryz.underlying29 rfl) rfl ?_
 refine Nt ?_
 refine WC.cond (b := !r133.isNil) rfl (fun hb138 => ?_) (fun hb138 => ?_)
 have h := ite_t hb138 h
 refine Sr ?_
 refine Pu (.agg #[(.int .i64 0), (.int .i64 0), (.slice none 0 0)]) (PO.buildL (cl := [(.int .i64 0), (.int .i64 0), (.slice none 0 0)]) ze24 fp24 Parts.nil rfl) rfl ?_
 refine WL.f2 ?_
 refine WL.eff (EO.storeL (v := (.agg #[(.int .i64 0), (.int .i64 0), (.slice none 0 0)])) (vl := [(.int .i64 0), (.int .i64 0), (.slice none 0 0)]) (arr' := [(.int .i64 0), (.int .i64 0), (.slice none 0 0)]) rfl sz24 hs122_2 rfl (onesOf (Ones.cons rfl (Ones.cons rfl (Ones.cons rfl Ones.nil)))) rfl rfl rfl) rfl ?_
 rintro _ _ _ - ⟨rfl, rfl⟩
 refine Nt ?_
 refine WC.ret ?_
 refine WQ.thenR ?_
 refine WQ.e0 ?_
 refine WQ.f3 ?_
 refine WQ.drop ?_
 refine WQ.f3 ?_
 refine WQ.drop ?_
 refine WQ.f2 ?_
 refine WQ.f2 ?_
 exact WQ.returnsD h [[(g0, .cells #[v0_0, (.int .i64 x65), (GV x121)] 85 (0, 0))], []] (fun _ hs => hs.drop) (resultsL1 rfl (RV.cellA (cs := [(.int .i64 0), (.int .i64 0), (.slice none 0 0)]) 0 ag24 sz24 hs122_2 rfl rfl)) (((((((hle25.trans hle32).trans hle39).trans hle47).trans hle50).trans hle68).trans hle122).trans hle136) ⟨(.slice none 0 0), [], rfl, rfl, (OwnS.nil _ _)⟩
 have h := ite_f hb138 h
 refine WC.skip ?_
 refine WQ.thenC ?_
 refine Sr ?_
 refine Pu (.agg #[(.int .i64 r27), (.int .i64 r34), vx67]) (PO.loadBA (cs := [(.int .i64 r27), (.int .i64 r34), vx67]) 1 ag24 sz24 hs122_4 rfl rfl) rfl ?_
 refine WL.f2 ?_
 refine WL.eff (EO.storeL (v := (.agg #[(.int .i64 r27), (.int .i64 r34), vx67])) (vl := [(.int .i64 r27), (.int .i64 r34), vx67]) (arr' := [(.int .i64 r27), (.int .i64 r34), vx67]) rfl sz24 hs122_2 rfl (onesOf (Ones.cons rfl (Ones.cons rfl (Ones.cons (OwnS.one hx67) Ones.nil)))) rfl rfl rfl) rfl ?_
 rintro _ _ _ - ⟨rfl, rfl⟩
 refine Nt ?_
 refine WC.ret ?_
 refine WQ.f2 ?_
 refine WQ.drop ?_
 exact WQ.returnsD h [[(g0, .cells #[v0_0, (.int .i64 x65), (GV x121)] 85 (0, 0))], cx67] (fun _ hs => hs.drop) (resultsL1 rfl (RV.cellA (cs := [(.int .i64 r27), (.int .i64 r34), vx67]) 0 ag24 sz24 hs122_2 rfl rfl)) (((((((hle25.trans hle32).trans hle39).trans hle47).trans hle50).trans hle68).trans hle122).trans hle136) ⟨vx67, cx67, rfl, rfl, hx67⟩

noncomputable def f_wire_Reader_End (a0 : T_wire_Reader) : Option (GErr × GErr) :=
  (((if (decide (a0.at_ < (a0.b.length : Int))) = true then ((f_wire_Reader_fail a0 (⟨#[101, 110, 100]⟩ : ByteArray) a0.at_ (5 : Int)).bind fun (r24 : GErr) => (some r24)) else (some a0.err)) : Option GErr).bind fun (x21 : GErr) => (some (x21, x21)))
def f_wire_Reader_End_post (a0 : T_wire_Reader) (v0_0 : Value) (g0 : Nat) : (GErr × GErr) → Value → IM → HL → Prop :=
  fun (p_ : (GErr × GErr)) (v : Value) (M' : IM) (H' : HL) => match p_ with | (r0, r1) => (GV r0) = v ∧ H' = [[(g0, .cells #[v0_0, (.int .i64 a0.at_), (GV r1)] 85 (0, 0))]]
theorem f_wire_Reader_End_ok (a0 : T_wire_Reader) (M : IM) (v0_0 : Value) (g0 : Nat) (h0_0 : RS (Kd.int .u8) M v0_0 a0.b) (res : (GErr × GErr)) (h : f_wire_Reader_End a0 = some res) :
    Tri Tryz.prog 42 #[(pt g0 0)] M [[(g0, .cells #[v0_0, (.int .i64 a0.at_), (GV a0.err)] 85 (0, 0))]] (f_wire_Reader_End_post a0 v0_0 g0 res) := by
 unfold f_wire_Reader_End at h
 refine Tri.enter (fn := Tryz.f42) Tryz.func42 rfl (Nat.le_of_ble_eq_true rfl) ?_
 intro F ρ hρ
 refine Sr ?_
 refine Pa (GV GErr.nil) rfl rfl ?_
 refine Nt ?_
 obtain ⟨x21, hj22, h⟩ := bnd h
 refine WC.joinF (fun (x21 : GErr) ρ' M' H' => M.le M' ∧ [(g0, .cells #[v0_0, (.int .i64 a0.at_), (GV x21)] 85 (0, 0))] :: F = H' ∧ ρ' 0 = (pt g0 0)) x21 ?_ ?_
 have h322 := h
 have h := hj22
 refine WC.seq ?_
 refine WC.draw [0, 1, 3, 7, 0, 16, 48, 112, 240, 511] (.pure 0 (.pure 1 (.pure 2 (.pure 3 (.pure 4 (.pure 5 (.pure 6 (.pure 7 (.pure 8 (.pure 9 .done)))))))))) mixed (by kernel_rfl) ?_
 refine Tp (pt g0 0) rfl (PO.move (hρ 0)) rfl ?_
 refine Tp (pt g0 0) rfl (PO.nilCheck rfl) rfl ?_
 refine Tp (pt g0 1) rfl (PO.fieldAddr fo85_1 rfl rfl) rfl ?_
 refine Tp (.int .i64 a0.at_) rfl (PO.loadB 0 pl3 rfl rfl rfl) rfl ?_
 refine Tp (pt g0 0) rfl (PO.move (hρ 0)) rfl ?_
 refine Tp (pt g0 0) rfl (PO.nilCheck rfl) rfl ?_
 refine Tp (pt g0 0) rfl (PO.fieldAddr fo85_0 rfl rfl) rfl ?_
 refine Tp v0_0 rfl (PO.loadB 0 pl40 rfl rfl rfl) rfl ?_
 refine Tp (.int .i64 (a0.b.length : Int)) rfl (PO.lenS Tryz.underlying40 rfl h0_0.len) rfl ?_
 refine Tp (.bool (decide (a0.at_ < (a0.b.length : Int)))) rfl (PO.lss rfl rfl) rfl ?_
 refine WT.fin ?_
 refine WQ.thenC ?_
 refine WC.cond (b := decide (a0.at_ < (a0.b.length : Int))) rfl (fun hb23 => ?_) (fun hb23 => ?_)
 have h := ite_t hb23 h
 refine WC.region ?_
 refine Pm (pt g0 0) (hρ 0) rfl ?_
 refine Pm (pt g0 0) (hρ 0) rfl ?_
 refine Pu (pt g0 0) (PO.nilCheck rfl) rfl ?_
 refine Pu (pt g0 1) (PO.fieldAddr fo85_1 rfl rfl) rfl ?_
 refine Pu (.int .i64 a0.at_) (PO.loadB 0 pl3 rfl rfl rfl) rfl ?_
 obtain ⟨r24, hr25, h⟩ := bnd h
 refine WL.eff (EO.call1 co78 (f_wire_Reader_fail_ok a0 (⟨#[101, 110, 100]⟩ : ByteArray) a0.at_ (5 : Int) _ _ _ h0_0 r24 hr25) (args4 rfl rfl rfl rfl)) rfl ?_
 rintro _ M26 _ hle27 ⟨_, ⟨rfl, rfl⟩, rfl⟩
 have h0_0 := h0_0.mono hle27
 refine WL.a1 ?_
 refine WL.nil ?_
 obtain rfl := Option.some.inj h
 refine WQ.thenJ ?_
 exact ⟨hle27, rfl, (hρ 0)⟩
 have h := ite_f hb23 h
 refine WC.skip ?_
 obtain rfl := Option.some.inj h
 refine WQ.thenJ ?_
 exact ⟨(IM.le.refl _), rfl, (hρ 0)⟩
 rintro ρ22 M22 H22 ⟨hle22, rfl, hs22_0⟩
 have h0_0 := h0_0.mono hle22
 refine Sr ?_
 refine Pm (pt g0 0) hs22_0 rfl ?_
 refine Pu (pt g0 0) (PO.nilCheck rfl) rfl ?_
 refine Pu (pt g0 2) (PO.fieldAddr fo85_2 rfl rfl) rfl ?_
 refine Pu (GV x21) (PO.loadB 0 pl29 rfl rfl rfl) rfl ?_
 refine Pa (GV x21) rfl rfl ?_
 refine Nt ?_
 refine WC.ret ?_
 exact WQ.returnsF h [[(g0, .cells #[v0_0, (.int .i64 a0.at_), (GV x21)] 85 (0, 0))]] rfl (results1 rfl rfl) hle22 ⟨rfl, rfl⟩

noncomputable def f_batch_Read (a0 : (List Int)) : Option (T_api_Batch × GErr) :=
  ((f_wire_Read a0).bind fun (r22 : T_wire_Reader) => ((f_batch_Next r22).bind fun (r28, r29, r30) => ((f_wire_Reader_End (⟨r22.b, r29, r30⟩ : T_wire_Reader)).bind fun (r36, r37) => (if (!r36.isNil) = true then (some ((⟨(0 : Int), (0 : Int), []⟩ : T_api_Batch), r36)) else (some (r28, GErr.nil))))))
def f_batch_Read_post (a0 : (List Int)) (v0 : Value) : (T_api_Batch × GErr) → Value → IM → HL → Prop :=
  fun (p_ : (T_api_Batch × GErr)) (v : Value) (M' : IM) (H' : HL) => match p_ with | (r0, r1) => ∃ vz0_2 cz0_2, (.tuple #[(.agg #[(.int .i64 r0.Term), (.int .i64 r0.Base), vz0_2]), (GV r1)]) = v ∧ H' = [cz0_2] ∧ OwnS kd_api_Record M' vz0_2 r0.Records cz0_2
theorem f_batch_Read_ok (a0 : (List Int)) (M : IM) (v0 : Value) (h0 : RS (Kd.int .u8) M v0 a0) (hE : Env M) (res : (T_api_Batch × GErr)) (h : f_batch_Read a0 = some res) :
    Tri Tryz.prog 18 #[v0] M [] (f_batch_Read_post a0 v0 res) := by
 unfold f_batch_Read at h
 refine Tri.enter (fn := Tryz.f18) Tryz.func18 rfl (Nat.le_of_ble_eq_true rfl) ?_
 intro F ρ hρ
 refine Sr ?_
 refine WL.eff (EO.alloc ze24 rfl) rfl ?_
 rintro _ _ _ - ⟨rfl, g21, rfl, rfl⟩
 refine Pa (GV GErr.nil) rfl rfl ?_
 refine Ns ?_
 refine Pm v0 (hρ 0) rfl ?_
 obtain ⟨r22, hr23, h⟩ := bnd h
 refine WL.eff (EO.call0 co20 (f_wire_Read_ok a0 _ _ h0 r22 hr23) (args1 rfl)) rfl ?_
 rintro _ M24 _ hle25 ⟨_, ⟨g26, vq27_0, rfl, rfl, hq27_0⟩, rfl⟩
 have h0 := h0.mono hle25
 have hE := hE.mono hle25
 refine WL.a1 ?_
 refine Pa (pt g26 0) rfl rfl ?_
 refine Ns ?_
 refine Pm (pt g26 0) rfl rfl ?_
 obtain ⟨⟨r28, r29, r30⟩, hr31, h⟩ := bnd h
 refine WL.eff (EO.call1 co21 (f_batch_Next_ok r22 _ _ _ hq27_0 hE (r28, r29, r30) hr31) (args1 rfl)) rfl ?_
 rintro _ M32 _ hle33 ⟨_, ⟨vq34_2, cq34_2, rfl, rfl, hq34_2⟩, rfl⟩
 have hq27_0 := hq27_0.mono hle33
 have hE := hE.mono hle33
 refine WL.a2 ?_
 refine WL.eff (EO.alloc ze24 rfl) rfl ?_
 rintro _ _ _ - ⟨rfl, g35, rfl, rfl⟩
 refine WL.eff (EO.storeL (v := (a24_ r28 vq34_2)) (vl := (l24 r28 vq34_2)) (arr' := (l24 r28 vq34_2)) rfl sz24 rfl rfl (onesOf (Ones.cons rfl (Ones.cons rfl (Ones.cons (OwnS.one hq34_2) Ones.nil)))) rfl rfl rfl) rfl ?_
 rintro _ _ _ - ⟨rfl, rfl⟩
 refine Nt ?_
 refine WC.seq ?_
 refine Sr ?_
 refine Pm (pt g26 0) rfl rfl ?_
 obtain ⟨⟨r36, r37⟩, hr38, h⟩ := bnd h
 refine WL.f1 ?_
 refine WL.eff (EO.call1 co42 (f_wire_Reader_End_ok (⟨r22.b, r29, r30⟩ : T_wire_Reader) _ _ _ hq27_0 (r36, r37) hr38) (args1 rfl)) rfl ?_
 rintro _ M39 _ hle40 ⟨_, ⟨rfl, rfl⟩, rfl⟩
 have hq27_0 := hq27_0.mono hle40
 have hq34_2 := hq34_2.mono hle40
 have hE := hE.mono hle40
 refine WL.a1 ?_
 refine Pa (GV r36) rfl rfl ?_
 refine Ns ?_
 refine Pm (GV r36) rfl rfl ?_
 refine Pu (.bool (!r36.isNil)) (PO.errNotNil Tryz.underlying29 rfl) rfl ?_
 refine Nt ?_
 refine WC.cond (b := !r36.isNil) rfl (fun hb42 => ?_) (fun hb42 => ?_)
 have h := ite_t hb42 h
 refine Sr ?_
 refine Pu (.agg #[(.int .i64 0), (.int .i64 0), (.slice none 0 0)]) (PO.buildL (cl := [(.int .i64 0), (.int .i64 0), (.slice none 0 0)]) ze24 fp24 Parts.nil rfl) rfl ?_
 refine Pm (GV r36) rfl rfl ?_
 refine WL.f3 ?_
 refine WL.eff (EO.storeL (v := (.agg #[(.int .i64 0), (.int .i64 0), (.slice none 0 0)])) (vl := [(.int .i64 0), (.int .i64 0), (.slice none 0 0)]) (arr' := [(.int .i64 0), (.int .i64 0), (.slice none 0 0)]) rfl sz24 rfl rfl (onesOf (Ones.cons rfl (Ones.cons rfl (Ones.cons rfl Ones.nil)))) rfl rfl rfl) rfl ?_
 rintro _ _ _ - ⟨rfl, rfl⟩
 refine Pa (GV r36) rfl rfl ?_
 refine Nt ?_
 refine WC.ret ?_
 refine WQ.thenR ?_
 refine WQ.e0 ?_
 refine WQ.f2 ?_
 refine WQ.drop ?_
 refine WQ.f2 ?_
 refine WQ.drop ?_
 refine WQ.f2 ?_
 refine WQ.drop ?_
 refine WQ.f1 ?_
 exact WQ.returnsD h [[]] (fun _ hs => hs.drop) (resultsLN rfl (RVs.cons (RV.cellA (cs := [(.int .i64 0), (.int .i64 0), (.slice none 0 0)]) 0 ag24 sz24 rfl rfl rfl) (RVs.cons (RV.tmp rfl) RVs.nil))) ((hle25.trans hle33).trans hle40) ⟨(.slice none 0 0), [], rfl, rfl, (OwnS.nil _ _)⟩
 have h := ite_f hb42 h
 refine WC.skip ?_
 refine WQ.thenC ?_
 refine Sr ?_
 refine Pu (a24_ r28 vq34_2) (PO.loadBA (cs := (l24 r28 vq34_2)) 1 ag24 sz24 rfl rfl rfl) rfl ?_
 refine WL.f3 ?_
 refine WL.eff (EO.storeL (v := (a24_ r28 vq34_2)) (vl := (l24 r28 vq34_2)) (arr' := (l24 r28 vq34_2)) rfl sz24 rfl rfl (onesOf (Ones.cons rfl (Ones.cons rfl (Ones.cons (OwnS.one hq34_2) Ones.nil)))) rfl rfl rfl) rfl ?_
 rintro _ _ _ - ⟨rfl, rfl⟩
 refine Pa (GV GErr.nil) rfl rfl ?_
 refine Nt ?_
 refine WC.ret ?_
 refine WQ.f1 ?_
 refine WQ.drop ?_
 refine WQ.f1 ?_
 refine WQ.drop ?_
 exact WQ.returnsD h [cq34_2] (fun _ hs => hs.drop) (resultsLN rfl (RVs.cons (RV.cellA (cs := (l24 r28 vq34_2)) 0 ag24 sz24 rfl rfl rfl) (RVs.cons (RV.tmp rfl) RVs.nil))) ((hle25.trans hle33).trans hle40) ⟨vq34_2, cq34_2, rfl, rfl, hq34_2⟩

noncomputable def f_batch_Split_l0 (a0 : Int) (a1 : Int) (a2 : Int) (s_ : ((List T_api_Record) × (List T_api_Batch))) : Option (((List T_api_Record) × (List T_api_Batch)) ⊕ (List T_api_Batch)) :=
  match s_ with
  | (x26, x27) =>
    (if (decide ((0 : Int) < (x26.length : Int))) = true then (grd (0 ≤ (0 : Int) ∧ (0 : Int) ≤ (if (x26.length : Int) < a2 then (x26.length : Int) else a2) ∧ (if (x26.length : Int) < a2 then (x26.length : Int) else a2) ≤ (x26.length : Int)) ((f_batch_Of a0 (IntKind.i64.wrap (a1 + (x27.length : Int))) (sub x26 (0 : Int) (if (x26.length : Int) < a2 then (x26.length : Int) else a2))).bind fun (r32 : T_api_Batch) => (grd (x27.length + [r32].length ≤ 274877906944) (grd (0 ≤ (if (x26.length : Int) < a2 then (x26.length : Int) else a2) ∧ (if (x26.length : Int) < a2 then (x26.length : Int) else a2) ≤ (x26.length : Int) ∧ (x26.length : Int) ≤ (x26.length : Int)) (some (Sum.inl (sub x26 (if (x26.length : Int) < a2 then (x26.length : Int) else a2) (x26.length : Int), x27 ++ [r32]))))))) else (some (Sum.inr x27)))
noncomputable def f_batch_Split (a0 : Int) (a1 : Int) (a2 : Int) (a3 : (List T_api_Record)) : Option (List T_api_Batch) :=
  (if (decide (a2 < (1 : Int))) = true then (some []) else ((((iter (f_batch_Split_l0 a0 a1 a2) (a3, [])).bind (fun (x28 : (List T_api_Batch)) => (some x28))) : Option (List T_api_Batch)).bind fun (x23 : (List T_api_Batch)) => (some x23)))
def f_batch_Split_post (a0 : Int) (a1 : Int) (a2 : Int) (a3 : (List T_api_Record)) (v3 : Value) : (List T_api_Batch) → Value → IM → HL → Prop :=
  fun (r0 : (List T_api_Batch)) (v : Value) (M' : IM) (H' : HL) => ∃ vz0 cz0, vz0 = v ∧ H' = [cz0] ∧ OwnS kd_api_Batch M' vz0 r0 cz0
theorem f_batch_Split_ok (a0 : Int) (a1 : Int) (a2 : Int) (a3 : (List T_api_Record)) (M : IM) (v3 : Value) (h3 : RS kd_api_Record M v3 a3) (res : (List T_api_Batch)) (h : f_batch_Split a0 a1 a2 a3 = some res) :
    Tri Tryz.prog 27 #[(.int .i64 a0), (.int .i64 a1), (.int .i64 a2), v3] M [] (f_batch_Split_post a0 a1 a2 a3 v3 res) := by
 unfold f_batch_Split at h
 refine Tri.enter (fn := Tryz.f27) Tryz.func27 rfl (Nat.le_of_ble_eq_true rfl) ?_
 intro F ρ hρ
 refine Sr ?_
 refine Pa (.slice none 0 0) rfl rfl ?_
 refine Ns ?_
 refine Pa (.slice none 0 0) rfl rfl ?_
 refine Nt ?_
 refine WC.seq ?_
 refine Sr ?_
 refine Pm (.int .i64 a2) (hρ 2) rfl ?_
 refine Pu (.bool (decide (a2 < 1))) (PO.lss rfl rfl) rfl ?_
 refine Nt ?_
 refine WC.cond (b := decide (a2 < 1)) rfl (fun hb21 => ?_) (fun hb21 => ?_)
 have h := ite_t hb21 h
 refine Sr ?_
 refine Pa (.slice none 0 0) rfl rfl ?_
 refine Nt ?_
 refine WC.ret ?_
 refine WQ.thenR ?_
 refine WQ.e0 ?_
 exact WQ.returnsF h [[]] rfl (results1 rfl rfl) (IM.le.refl _) ⟨(.slice none 0 0), [], rfl, rfl, (OwnS.nil _ _)⟩
 have h := ite_f hb21 h
 refine WC.skip ?_
 refine WQ.thenC ?_
 obtain ⟨x23, hj24, h⟩ := bnd h
 refine WC.joinF (fun (x23 : (List T_api_Batch)) ρ' M' H' => ∃ vx23 cx23, M.le M' ∧ cx23 :: F = H' ∧ ρ' 9 = vx23 ∧ OwnS kd_api_Batch M' vx23 x23 cx23) x23 ?_ ?_
 have h324 := h
 have h := hj24
 refine WC.block ?_
 refine WC.e0 ?_
 obtain ⟨e25, he25, hK25⟩ := bnd h
 clear h
 refine WC.loop he25 (fun (p_ : ((List T_api_Record) × (List T_api_Batch))) ρ' M' H' => match p_ with | (x26, x27) => ∃ vx26 vx27 cx27, M.le M' ∧ cx27 :: F = H' ∧ ρ' 0 = (.int .i64 a0) ∧ ρ' 1 = (.int .i64 a1) ∧ ρ' 2 = (.int .i64 a2) ∧ ρ' 3 = vx26 ∧ ρ' 9 = vx27 ∧ RS kd_api_Record M' vx26 x26 ∧ OwnS kd_api_Batch M' vx27 x27 cx27) ?_ ?_
 exact ⟨v3, (.slice none 0 0), [], (IM.le.refl _), rfl, (hρ 0), (hρ 1), (hρ 2), (hρ 3), rfl, h3, (OwnS.nil _ _)⟩
 rintro ⟨x26, x27⟩ o25 ρ25 M25 H25 h ⟨vx26, vx27, cx27, hle25, rfl, hs25_0, hs25_1, hs25_2, hs25_3, hs25_9, hx26, hx27⟩
 unfold f_batch_Split_l0 at h
 refine WC.seq ?_
 refine Sr ?_
 refine Pm vx26 hs25_3 rfl ?_
 refine Pu (.int .i64 (x26.length : Int)) (PO.lenS Tryz.underlying22 rfl hx26.len) rfl ?_
 refine Pu (.bool (decide ((0 : Int) < (x26.length : Int)))) (PO.gtr rfl rfl) rfl ?_
 refine Nt ?_
 refine WC.cond (b := decide ((0 : Int) < (x26.length : Int))) rfl (fun hb29 => ?_) (fun hb29 => ?_)
 have h := ite_t hb29 h
 refine WC.skip ?_
 refine WQ.thenC ?_
 refine WC.block ?_
 refine Sr ?_
 refine Pm (.int .i64 a2) hs25_2 rfl ?_
 refine Pm vx26 hs25_3 rfl ?_
 refine Pu (.int .i64 (x26.length : Int)) (PO.lenS Tryz.underlying22 rfl hx26.len) rfl ?_
 refine Pu (.int .i64 (if (x26.length : Int) < a2 then (x26.length : Int) else a2)) (PO.min rfl rfl) rfl ?_
 refine Pa (.int .i64 (if (x26.length : Int) < a2 then (x26.length : Int) else a2)) rfl rfl ?_
 refine Ns ?_
 refine Pm vx27 hs25_9 rfl ?_
 refine Pm (.int .i64 a0) hs25_0 rfl ?_
 refine Pm (.int .i64 a1) hs25_1 rfl ?_
 refine Pm vx27 hs25_9 rfl ?_
 refine Pu (.int .i64 (x27.length : Int)) (PO.lenS Tryz.underlying68 rfl hx27.len) rfl ?_
 refine Pu (.int .i64 (IntKind.i64.wrap (a1 + (x27.length : Int)))) (PO.add rfl rfl) rfl ?_
 refine Pm vx26 hs25_3 rfl ?_
 refine Pm (.int .i64 (if (x26.length : Int) < a2 then (x26.length : Int) else a2)) rfl rfl ?_
 obtain ⟨hg30, h⟩ := grd_i h
 have h31 := hx26.sub hg30.1 hg30.2.1 hg30.2.2
 refine Pu (slV vx26 18 ((0 : Int)).toNat ((if (x26.length : Int) < a2 then (x26.length : Int) else a2)).toNat) (PO.slice (n := x26.length) (l := ((0 : Int)).toNat) (h := ((if (x26.length : Int) < a2 then (x26.length : Int) else a2)).toNat) Tryz.underlying22 sz67 rfl hx26.len hx26.cap (bound0 rfl) ⟨_, _, rfl, (Int.le_trans hg30.1 hg30.2.1), rfl⟩ (Int.toNat_le_toNat hg30.2.1) (toNat_le_len hg30.2.2)) rfl ?_
 obtain ⟨r32, hr33, h⟩ := bnd h
 refine WL.eff (EO.call0 co14 (f_batch_Of_ok a0 (IntKind.i64.wrap (a1 + (x27.length : Int))) (sub x26 (0 : Int) (if (x26.length : Int) < a2 then (x26.length : Int) else a2)) _ _ h31 r32 hr33) (args3 rfl rfl rfl)) rfl ?_
 rintro _ M34 _ hle35 ⟨_, ⟨vq36_2, cq36_2, rfl, rfl, hq36_2⟩, rfl⟩
 have hx26 := hx26.mono hle35
 have hx27 := hx27.mono hle35
 have h31 := h31.mono hle35
 refine WL.a1 ?_
 refine WL.know (fun _ hs => hq36_2.rs hs) (fun hf41 => ?_)
 refine WL.freeze (fun hle40 => ?_)
 have hx26 := hx26.mono hle40
 have hx27 := hx27.mono hle40
 have h31 := h31.mono hle40
 refine WL.eff (EO.buildSliceL (cl := (l24 r32 vq36_2)) Tryz.underlying68 iz24 rfl (Parts.cons (congrArg Value.cells (show ev _ _ = (a24_ r32 vq36_2) from rfl)) Parts.nil) rfl) rfl ?_
 rintro _ _ _ - ⟨rfl, g42, rfl, rfl⟩
 have h44 : OwnS kd_api_Batch (M34.add cq36_2) (.slice (some ⟨g42, 0, none⟩) 1 1) [r32] [(g42, .cells (l24 r32 vq36_2).toArray 24 (0, 0))] := OwnS.rows (css := [(l24 r32 vq36_2)]) (Rows.cons (kd_api_Batch_mk (x := r32) hf41) Rows.nil) rfl rfl
 obtain ⟨hg48, h⟩ := grd_i h
 refine WL.f1 ?_
 refine WL.eff (EO.append (dd := kd_api_Batch) (xs := x27) (ys := [r32]) Tryz.underlying68 Tryz.underlying68 in24 rfl (appB (by decide) hg48) (by decide) rfl rfl hx27 (h44.src 1 rfl)) rfl ?_
 rintro v47 _ _ - ⟨rfl, c45, rfl, h46⟩
 refine Pa v47 rfl rfl ?_
 refine Nt ?_
 refine WC.region ?_
 refine Pm vx26 hs25_3 rfl ?_
 refine Pm (.int .i64 (if (x26.length : Int) < a2 then (x26.length : Int) else a2)) rfl rfl ?_
 obtain ⟨hg49, h⟩ := grd_i h
 have h50 := hx26.sub hg49.1 hg49.2.1 hg49.2.2
 refine Pu (slV vx26 18 ((if (x26.length : Int) < a2 then (x26.length : Int) else a2)).toNat ((x26.length : Int)).toNat) (PO.slice (n := x26.length) (l := ((if (x26.length : Int) < a2 then (x26.length : Int) else a2)).toNat) (h := ((x26.length : Int)).toNat) Tryz.underlying22 sz67 rfl hx26.len hx26.cap ⟨_, _, rfl, hg49.1, rfl⟩ (boundN_ rfl) (Int.toNat_le_toNat hg49.2.1) (toNat_le_len hg49.2.2)) rfl ?_
 refine Pa (slV vx26 18 ((if (x26.length : Int) < a2 then (x26.length : Int) else a2)).toNat ((x26.length : Int)).toNat) rfl rfl ?_
 refine WL.nil ?_
 refine WQ.blockN ?_
 refine WQ.f1 ?_
 refine WQ.drop ?_
 refine WQ.again (sub x26 (if (x26.length : Int) < a2 then (x26.length : Int) else a2) (x26.length : Int), x27 ++ [r32]) (Option.some.inj h).symm ?_
 exact ⟨(slV vx26 18 ((if (x26.length : Int) < a2 then (x26.length : Int) else a2)).toNat ((x26.length : Int)).toNat), v47, c45, ((hle25.trans hle35).trans hle40), rfl, hs25_0, hs25_1, hs25_2, rfl, rfl, h50, h46⟩
 have h := ite_f hb29 h
 refine WC.exit ?_
 refine WQ.thenE ?_
 refine WQ.leaveE x27 (Option.some.inj h).symm (fun heq25 => ?_)
 subst heq25
 have h := hK25
 refine WQ.blockH ?_
 obtain rfl := Option.some.inj h
 refine WQ.thenJ ?_
 exact ⟨vx27, cx27, hle25, rfl, hs25_9, hx27⟩
 rintro ρ24 M24 H24 ⟨vx23, cx23, hle24, rfl, hs24_9, hx23⟩
 refine Sr ?_
 refine Pm vx23 hs24_9 rfl ?_
 refine Pa vx23 rfl rfl ?_
 refine Nt ?_
 refine WC.ret ?_
 exact WQ.returnsF h [cx23] rfl (results1 rfl rfl) hle24 ⟨vx23, cx23, rfl, rfl, hx23⟩

noncomputable def f_slices_Equal_int_int_l0 (a0 : (List Int)) (a1 : (List Int)) (s_ : Int) : Option (Int ⊕ (Unit ⊕ Unit)) :=
  match s_ with
  | x24 =>
    (if (decide (x24 < (a0.length : Int))) = true then (grd (0 ≤ x24 ∧ x24 < a0.length) (grd (0 ≤ x24 ∧ x24 < a1.length) (if (decide ((rd a0 x24) ≠ (rd a1 x24))) = true then (some (Sum.inr (Sum.inr ()))) else (some (Sum.inl (IntKind.i64.wrap (x24 + (1 : Int)))))))) else (some (Sum.inr (Sum.inl ()))))
noncomputable def f_slices_Equal_int_int (a0 : (List Int)) (a1 : (List Int)) : Option Bool :=
  (if (decide ((a0.length : Int) ≠ (a1.length : Int))) = true then (some false) else ((((iter (f_slices_Equal_int_int_l0 a0 a1) (0 : Int)).bind (Sum.elim (fun _ => (some (Sum.inl ()))) (fun _ => (((some false)).bind fun r => some (Sum.inr r))))) : Option (Unit ⊕ Bool)).bind (Sum.elim (fun _ => (some true)) some)))
def f_slices_Equal_int_int_post (a0 : (List Int)) (a1 : (List Int)) (v0 v1 : Value) : Bool → Value → IM → HL → Prop :=
  fun (r0 : Bool) (v : Value) (M' : IM) (H' : HL) => (.bool r0) = v ∧ H' = []
theorem f_slices_Equal_int_int_ok (a0 : (List Int)) (a1 : (List Int)) (M : IM) (v0 v1 : Value) (h0 : RS (Kd.int .i64) M v0 a0) (h1 : RS (Kd.int .i64) M v1 a1) (res : Bool) (h : f_slices_Equal_int_int a0 a1 = some res) :
    Tri Tryz.prog 64 #[v0, v1] M [] (f_slices_Equal_int_int_post a0 a1 v0 v1 res) := by
 unfold f_slices_Equal_int_int at h
 refine Tri.enter (fn := Tryz.f64) Tryz.func64 rfl (Nat.le_of_ble_eq_true rfl) ?_
 intro F ρ hρ
 refine Sr ?_
 refine Pa (.bool false) rfl rfl ?_
 refine Nt ?_
 refine WC.seq ?_
 refine Sr ?_
 refine Pm v0 (hρ 0) rfl ?_
 refine Pu (.int .i64 (a0.length : Int)) (PO.lenS Tryz.underlying65 rfl h0.len) rfl ?_
 refine Pm v1 (hρ 1) rfl ?_
 refine Pu (.int .i64 (a1.length : Int)) (PO.lenS Tryz.underlying65 rfl h1.len) rfl ?_
 refine Pu (.bool (decide ((a0.length : Int) ≠ (a1.length : Int)))) (PO.neq rfl rfl) rfl ?_
 refine Nt ?_
 refine WC.cond (b := decide ((a0.length : Int) ≠ (a1.length : Int))) rfl (fun hb21 => ?_) (fun hb21 => ?_)
 have h := ite_t hb21 h
 refine Sr ?_
 refine Pa (.bool false) rfl rfl ?_
 refine Nt ?_
 refine WC.ret ?_
 refine WQ.thenR ?_
 exact WQ.returnsF h [] rfl (results1 rfl rfl) (IM.le.refl _) ⟨rfl, rfl⟩
 have h := ite_f hb21 h
 refine WC.skip ?_
 refine WQ.thenC ?_
 obtain ⟨j22, hj22, h⟩ := bnd h
 refine WC.joinE (fun (_ : Unit) ρ' M' H' => M.le M' ∧ F = H') j22 ?_ ?_
 have h322 := h
 have h := hj22
 refine Sr ?_
 refine Pm v0 (hρ 0) rfl ?_
 refine Pu (.int .i64 (a0.length : Int)) (PO.lenS Tryz.underlying65 rfl h0.len) rfl ?_
 refine Pm (.int .i64 0) rfl rfl ?_
 refine Nt ?_
 refine WC.block ?_
 obtain ⟨e23, he23, hK23⟩ := bnd h
 clear h
 refine WC.loop he23 (fun (x24 : Int) ρ' M' H' => M.le M' ∧ F = H' ∧ ρ' 0 = v0 ∧ ρ' 1 = v1 ∧ ρ' 12 = (.int .i64 (a0.length : Int)) ∧ ρ' 13 = (.int .i64 x24)) ?_ ?_
 exact ⟨(IM.le.refl _), rfl, (hρ 0), (hρ 1), rfl, rfl⟩
 rintro x24 o23 ρ23 M23 H23 h ⟨hle23, rfl, hs23_0, hs23_1, hs23_12, hs23_13⟩
 unfold f_slices_Equal_int_int_l0 at h
 have h0 := h0.mono hle23
 have h1 := h1.mono hle23
 refine Sr ?_
 refine Pu (.bool (decide (x24 < (a0.length : Int)))) (PO.lss hs23_13 hs23_12) rfl ?_
 refine Nt ?_
 refine WC.seq ?_
 refine WC.cond (b := decide (x24 < (a0.length : Int))) rfl (fun hb25 => ?_) (fun hb25 => ?_)
 have h := ite_t hb25 h
 refine WC.skip ?_
 refine WQ.thenC ?_
 refine WC.seq ?_
 refine WC.block ?_
 refine Sr ?_
 refine Pm (.int .i64 x24) hs23_13 rfl ?_
 refine Pa (.int .i64 x24) rfl rfl ?_
 refine Nt ?_
 refine WC.seq ?_
 refine WC.draw [0, 0, 3, 7, 0, 0, 48, 112, 255] (.pure 0 (.pure 1 (.pure 2 (.pure 3 (.pure 4 (.pure 5 (.pure 6 (.pure 7 (.pure 8 .done))))))))) mixed (by kernel_rfl) ?_
 refine Tp v0 rfl (PO.move hs23_0) rfl ?_
 refine Tp (.int .i64 x24) rfl (PO.move rfl) rfl ?_
 obtain ⟨hg26, h⟩ := grd_i h
 obtain ⟨p27, cs28, hat29, hrc30, hhas31⟩ := h0.at hg26.1 hg26.2 (by decide)
 obtain rfl := hrc30
 refine Tp (.pointer (some p27)) rfl (PO.indexAddr (n := a0.length) Tryz.underlying65 sz3 rfl rfl hg26.1 hg26.2 hat29) rfl ?_
 refine Tp (.int .i64 (rd a0 x24)) rfl (PO.loadM pl3 rfl (IM.has0 hhas31)) rfl ?_
 refine Tp v1 rfl (PO.move hs23_1) rfl ?_
 refine Tp (.int .i64 x24) rfl (PO.move rfl) rfl ?_
 obtain ⟨hg33, h⟩ := grd_i h
 obtain ⟨p34, cs35, hat36, hrc37, hhas38⟩ := h1.at hg33.1 hg33.2 (by decide)
 obtain rfl := hrc37
 refine Tp (.pointer (some p34)) rfl (PO.indexAddr (n := a1.length) Tryz.underlying65 sz3 rfl rfl hg33.1 hg33.2 hat36) rfl ?_
 refine Tp (.int .i64 (rd a1 x24)) rfl (PO.loadM pl3 rfl (IM.has0 hhas38)) rfl ?_
 refine Tp (.bool (decide ((rd a0 x24) ≠ (rd a1 x24)))) rfl (PO.neq rfl rfl) rfl ?_
 refine WT.fin ?_
 refine WQ.thenC ?_
 refine WC.cond (b := decide ((rd a0 x24) ≠ (rd a1 x24))) rfl (fun hb40 => ?_) (fun hb40 => ?_)
 have h := ite_t hb40 h
 refine Sr ?_
 refine Pa (.bool false) rfl rfl ?_
 refine Nt ?_
 refine WC.ret ?_
 refine WQ.blockR ?_
 refine WQ.thenR ?_
 refine WQ.leaveR (Sum.inr ()) (Option.some.inj h).symm (fun heq23 => ?_)
 subst heq23
 have h := (elimR hK23)
 refine WQ.blockR ?_
 refine WQ.thenR ?_
 have h := KK.early h h322
 exact WQ.returnsF h [] rfl (results1 rfl rfl) hle23 ⟨rfl, rfl⟩
 have h := ite_f hb40 h
 refine WC.skip ?_
 refine WQ.blockN ?_
 refine WQ.thenC ?_
 refine WC.region ?_
 refine Pu (.int .i64 (IntKind.i64.wrap (x24 + 1))) (PO.add hs23_13 rfl) rfl ?_
 refine Pm (.int .i64 (IntKind.i64.wrap (x24 + 1))) rfl rfl ?_
 refine WL.nil ?_
 refine WQ.again (IntKind.i64.wrap (x24 + 1)) (Option.some.inj h).symm ?_
 exact ⟨hle23, rfl, hs23_0, hs23_1, hs23_12, rfl⟩
 have h := ite_f hb25 h
 refine WC.exit ?_
 refine WQ.thenE ?_
 refine WQ.leaveE (Sum.inl ()) (Option.some.inj h).symm (fun heq23 => ?_)
 subst heq23
 have h := elimL hK23
 refine WQ.blockH ?_
 refine WQ.thenFE h ?_
 exact ⟨hle23, rfl⟩
 rintro _ ρ22 M22 H22 rfl ⟨hle22, rfl⟩
 have h := (Sum.elim_inl _ _ _).symm.trans h
 refine Sr ?_
 refine Pa (.bool true) rfl rfl ?_
 refine Nt ?_
 refine WC.ret ?_
 exact WQ.returnsF h [] rfl (results1 rfl rfl) hle22 ⟨rfl, rfl⟩

noncomputable def f_record_Same_1 (a0 : T_api_Record) : Option (List Int) :=
  (some [a0.Kind, a0.Broker, a0.Epoch, a0.Topic, a0.Part, a0.Leader, a0.Client, a0.Serial, a0.Code])
def f_record_Same_1_post (a0 : T_api_Record) (v0_14 v0_15 v0_16 v0_17 : Value) : (List Int) → Value → IM → HL → Prop :=
  fun (r0 : (List Int)) (v : Value) (M' : IM) (H' : HL) => (.agg #[(.int .i64 (rd r0 (0 : Int))), (.int .i64 (rd r0 (1 : Int))), (.int .i64 (rd r0 (2 : Int))), (.int .i64 (rd r0 (3 : Int))), (.int .i64 (rd r0 (4 : Int))), (.int .i64 (rd r0 (5 : Int))), (.int .i64 (rd r0 (6 : Int))), (.int .i64 (rd r0 (7 : Int))), (.int .i64 (rd r0 (8 : Int)))]) = v ∧ H' = []
theorem f_record_Same_1_ok (a0 : T_api_Record) (M : IM) (v0_14 v0_15 v0_16 v0_17 : Value) (h0_14 : RS (Kd.int .i64) M v0_14 a0.Ids) (h0_15 : RS (Kd.int .i64) M v0_15 a0.Isr) (h0_16 : RS (Kd.int .i64) M v0_16 a0.Add) (h0_17 : RS (Kd.int .i64) M v0_17 a0.Drop) (res : (List Int)) (h : f_record_Same_1 a0 = some res) :
    Tri Tryz.prog 65 #[(a67_ a0 v0_14 v0_15 v0_16 v0_17)] M [] (f_record_Same_1_post a0 v0_14 v0_15 v0_16 v0_17 res) := by
 unfold f_record_Same_1 at h
 refine Tri.enter (fn := Tryz.f65) Tryz.func65 rfl (Nat.le_of_ble_eq_true rfl) ?_
 intro F ρ hρ
 refine Sr ?_
 refine WL.eff (EO.box (cs := (l67 a0 v0_14 v0_15 v0_16 v0_17).toArray) (congrArg Value.cells (asE (a67_ a0 v0_14 v0_15 v0_16 v0_17) (hρ 0)))) rfl ?_
 rintro _ _ _ - ⟨rfl, g21, rfl, rfl⟩
 refine WL.eff (EO.alloc ze106 rfl) rfl ?_
 rintro _ _ _ - ⟨rfl, g22, rfl, rfl⟩
 refine Ns ?_
 refine Pu (pt g21 0) (PO.fieldAddr fo67_0 rfl rfl) rfl ?_
 refine Pu (.int .i64 a0.Kind) (PO.loadB 1 pl3 rfl rfl rfl) rfl ?_
 refine Pu (pt g21 1) (PO.fieldAddr fo67_1 rfl rfl) rfl ?_
 refine Pu (.int .i64 a0.Broker) (PO.loadB 1 pl3 rfl rfl rfl) rfl ?_
 refine Pu (pt g21 2) (PO.fieldAddr fo67_2 rfl rfl) rfl ?_
 refine Pu (.int .i64 a0.Epoch) (PO.loadB 1 pl3 rfl rfl rfl) rfl ?_
 refine Pu (pt g21 3) (PO.fieldAddr fo67_3 rfl rfl) rfl ?_
 refine Pu (.int .i64 a0.Topic) (PO.loadB 1 pl3 rfl rfl rfl) rfl ?_
 refine Pu (pt g21 4) (PO.fieldAddr fo67_4 rfl rfl) rfl ?_
 refine Pu (.int .i64 a0.Part) (PO.loadB 1 pl3 rfl rfl rfl) rfl ?_
 refine Pu (pt g21 5) (PO.fieldAddr fo67_5 rfl rfl) rfl ?_
 refine Pu (.int .i64 a0.Leader) (PO.loadB 1 pl3 rfl rfl rfl) rfl ?_
 refine Pu (pt g21 6) (PO.fieldAddr fo67_6 rfl rfl) rfl ?_
 refine Pu (.int .i64 a0.Client) (PO.loadB 1 pl3 rfl rfl rfl) rfl ?_
 refine Pu (pt g21 7) (PO.fieldAddr fo67_7 rfl rfl) rfl ?_
 refine Pu (.int .i64 a0.Serial) (PO.loadB 1 pl3 rfl rfl rfl) rfl ?_
 refine Pu (pt g21 8) (PO.fieldAddr fo67_8 rfl rfl) rfl ?_
 refine Pu (.int .i64 a0.Code) (PO.loadB 1 pl3 rfl rfl rfl) rfl ?_
 refine Pu (.agg #[(.int .i64 a0.Kind), (.int .i64 a0.Broker), (.int .i64 a0.Epoch), (.int .i64 a0.Topic), (.int .i64 a0.Part), (.int .i64 a0.Leader), (.int .i64 a0.Client), (.int .i64 a0.Serial), (.int .i64 a0.Code)]) (PO.buildAL (cl := [(.int .i64 a0.Kind), (.int .i64 a0.Broker), (.int .i64 a0.Epoch), (.int .i64 a0.Topic), (.int .i64 a0.Part), (.int .i64 a0.Leader), (.int .i64 a0.Client), (.int .i64 a0.Serial), (.int .i64 a0.Code)]) ze106 Tryz.underlying106 sz3 (Parts.cons (congrArg Value.cells (show ev _ _ = (.int .i64 a0.Kind) from rfl)) (Parts.cons (congrArg Value.cells (show ev _ _ = (.int .i64 a0.Broker) from rfl)) (Parts.cons (congrArg Value.cells (show ev _ _ = (.int .i64 a0.Epoch) from rfl)) (Parts.cons (congrArg Value.cells (show ev _ _ = (.int .i64 a0.Topic) from rfl)) (Parts.cons (congrArg Value.cells (show ev _ _ = (.int .i64 a0.Part) from rfl)) (Parts.cons (congrArg Value.cells (show ev _ _ = (.int .i64 a0.Leader) from rfl)) (Parts.cons (congrArg Value.cells (show ev _ _ = (.int .i64 a0.Client) from rfl)) (Parts.cons (congrArg Value.cells (show ev _ _ = (.int .i64 a0.Serial) from rfl)) (Parts.cons (congrArg Value.cells (show ev _ _ = (.int .i64 a0.Code) from rfl)) Parts.nil))))))))) rfl) rfl ?_
 refine WL.eff (EO.storeL (v := (.agg #[(.int .i64 a0.Kind), (.int .i64 a0.Broker), (.int .i64 a0.Epoch), (.int .i64 a0.Topic), (.int .i64 a0.Part), (.int .i64 a0.Leader), (.int .i64 a0.Client), (.int .i64 a0.Serial), (.int .i64 a0.Code)])) (vl := [(.int .i64 a0.Kind), (.int .i64 a0.Broker), (.int .i64 a0.Epoch), (.int .i64 a0.Topic), (.int .i64 a0.Part), (.int .i64 a0.Leader), (.int .i64 a0.Client), (.int .i64 a0.Serial), (.int .i64 a0.Code)]) (arr' := [(.int .i64 a0.Kind), (.int .i64 a0.Broker), (.int .i64 a0.Epoch), (.int .i64 a0.Topic), (.int .i64 a0.Part), (.int .i64 a0.Leader), (.int .i64 a0.Client), (.int .i64 a0.Serial), (.int .i64 a0.Code)]) rfl sz106 rfl rfl (onesOf (Ones.cons rfl (Ones.cons rfl (Ones.cons rfl (Ones.cons rfl (Ones.cons rfl (Ones.cons rfl (Ones.cons rfl (Ones.cons rfl (Ones.cons rfl Ones.nil)))))))))) rfl rfl (by kernel_rfl)) rfl ?_
 rintro _ _ _ - ⟨rfl, rfl⟩
 refine Nt ?_
 refine WC.ret ?_
 refine WQ.f1 ?_
 refine WQ.drop ?_
 exact WQ.returnsD h [] (fun _ hs => hs.drop) (resultsL1 rfl (RV.cellA (cs := [(.int .i64 a0.Kind), (.int .i64 a0.Broker), (.int .i64 a0.Epoch), (.int .i64 a0.Topic), (.int .i64 a0.Part), (.int .i64 a0.Leader), (.int .i64 a0.Client), (.int .i64 a0.Serial), (.int .i64 a0.Code)]) 0 ag106 sz106 rfl rfl rfl)) (IM.le.refl _) ⟨rfl, rfl⟩

noncomputable def f_record_Same_2 (a0 : T_api_Record) : Option (List ByteArray) :=
  (some [a0.Name, a0.Key, a0.Value, a0.Rack])
def f_record_Same_2_post (a0 : T_api_Record) (v0_14 v0_15 v0_16 v0_17 : Value) : (List ByteArray) → Value → IM → HL → Prop :=
  fun (r0 : (List ByteArray)) (v : Value) (M' : IM) (H' : HL) => (.agg #[(.string (rd r0 (0 : Int))), (.string (rd r0 (1 : Int))), (.string (rd r0 (2 : Int))), (.string (rd r0 (3 : Int)))]) = v ∧ H' = []
theorem f_record_Same_2_ok (a0 : T_api_Record) (M : IM) (v0_14 v0_15 v0_16 v0_17 : Value) (h0_14 : RS (Kd.int .i64) M v0_14 a0.Ids) (h0_15 : RS (Kd.int .i64) M v0_15 a0.Isr) (h0_16 : RS (Kd.int .i64) M v0_16 a0.Add) (h0_17 : RS (Kd.int .i64) M v0_17 a0.Drop) (res : (List ByteArray)) (h : f_record_Same_2 a0 = some res) :
    Tri Tryz.prog 66 #[(a67_ a0 v0_14 v0_15 v0_16 v0_17)] M [] (f_record_Same_2_post a0 v0_14 v0_15 v0_16 v0_17 res) := by
 unfold f_record_Same_2 at h
 refine Tri.enter (fn := Tryz.f66) Tryz.func66 rfl (Nat.le_of_ble_eq_true rfl) ?_
 intro F ρ hρ
 refine Sr ?_
 refine WL.eff (EO.box (cs := (l67 a0 v0_14 v0_15 v0_16 v0_17).toArray) (congrArg Value.cells (asE (a67_ a0 v0_14 v0_15 v0_16 v0_17) (hρ 0)))) rfl ?_
 rintro _ _ _ - ⟨rfl, g21, rfl, rfl⟩
 refine WL.eff (EO.alloc ze108 rfl) rfl ?_
 rintro _ _ _ - ⟨rfl, g22, rfl, rfl⟩
 refine Ns ?_
 refine Pu (pt g21 10) (PO.fieldAddr fo67_10 rfl rfl) rfl ?_
 refine Pu (.string a0.Name) (PO.loadB 1 pl9 rfl rfl rfl) rfl ?_
 refine Pu (pt g21 11) (PO.fieldAddr fo67_11 rfl rfl) rfl ?_
 refine Pu (.string a0.Key) (PO.loadB 1 pl9 rfl rfl rfl) rfl ?_
 refine Pu (pt g21 12) (PO.fieldAddr fo67_12 rfl rfl) rfl ?_
 refine Pu (.string a0.Value) (PO.loadB 1 pl9 rfl rfl rfl) rfl ?_
 refine Pu (pt g21 13) (PO.fieldAddr fo67_13 rfl rfl) rfl ?_
 refine Pu (.string a0.Rack) (PO.loadB 1 pl9 rfl rfl rfl) rfl ?_
 refine Pu (.agg #[(.string a0.Name), (.string a0.Key), (.string a0.Value), (.string a0.Rack)]) (PO.buildAL (cl := [(.string a0.Name), (.string a0.Key), (.string a0.Value), (.string a0.Rack)]) ze108 Tryz.underlying108 sz9 (Parts.cons (congrArg Value.cells (show ev _ _ = (.string a0.Name) from rfl)) (Parts.cons (congrArg Value.cells (show ev _ _ = (.string a0.Key) from rfl)) (Parts.cons (congrArg Value.cells (show ev _ _ = (.string a0.Value) from rfl)) (Parts.cons (congrArg Value.cells (show ev _ _ = (.string a0.Rack) from rfl)) Parts.nil)))) rfl) rfl ?_
 refine WL.eff (EO.storeL (v := (.agg #[(.string a0.Name), (.string a0.Key), (.string a0.Value), (.string a0.Rack)])) (vl := [(.string a0.Name), (.string a0.Key), (.string a0.Value), (.string a0.Rack)]) (arr' := [(.string a0.Name), (.string a0.Key), (.string a0.Value), (.string a0.Rack)]) rfl sz108 rfl rfl (onesOf (Ones.cons rfl (Ones.cons rfl (Ones.cons rfl (Ones.cons rfl Ones.nil))))) rfl rfl rfl) rfl ?_
 rintro _ _ _ - ⟨rfl, rfl⟩
 refine Nt ?_
 refine WC.ret ?_
 refine WQ.f1 ?_
 refine WQ.drop ?_
 exact WQ.returnsD h [] (fun _ hs => hs.drop) (resultsL1 rfl (RV.cellA (cs := [(.string a0.Name), (.string a0.Key), (.string a0.Value), (.string a0.Rack)]) 0 ag108 sz108 rfl rfl rfl)) (IM.le.refl _) ⟨rfl, rfl⟩


end Go.Proofs.YtjiffdgidodebaaGreatDoor.G
