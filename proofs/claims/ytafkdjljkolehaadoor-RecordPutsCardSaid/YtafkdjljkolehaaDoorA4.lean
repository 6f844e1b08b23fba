/- Go functions: what they come to, and that they do. Printed by a program of the session (gen). -/
import Derived.Test.YtafkdjljkolehaaDoorAF
import Derived.Test.YtafkdjljkolehaaDoorA3
import Derived.Test.YtafkdjljkolehaaDoorKConv
set_option linter.unusedVariables false
set_option linter.unusedSimpArgs false
set_option maxHeartbeats 8000000
set_option maxRecDepth 100000
namespace Go.Proofs.YtafkdjljkolehaaDoor.G
open Go Go.KK

noncomputable def f_record_Put (a0 : (List Int)) (a1 : T_api_Record) : Option ((List Int) × GErr) :=
  ((f_record_Check a1).bind fun (r23 : GErr) => (if (!r23.isNil) = true then (some ([], r23)) else ((f_record_about a1.Kind).bind fun (r30 : Int) => (grd (a0.length + [IntKind.u8.wrap a1.Kind].length ≤ 274877906944) ((f_record_Put_1 (1 : Int) a1.Broker r30 (a0 ++ [IntKind.u8.wrap a1.Kind])).bind fun (r43 : (List Int)) => ((f_record_Put_1 (2 : Int) a1.Epoch r30 r43).bind fun (r50 : (List Int)) => ((f_record_Put_1 (4 : Int) a1.Topic r30 r50).bind fun (r57 : (List Int)) => ((f_record_Put_1 (8 : Int) a1.Part r30 r57).bind fun (r64 : (List Int)) => ((f_record_Put_1 (16 : Int) a1.Leader r30 r64).bind fun (r71 : (List Int)) => ((f_record_Put_1 (32 : Int) a1.Client r30 r71).bind fun (r78 : (List Int)) => ((f_record_Put_1 (32 : Int) a1.Serial r30 r78).bind fun (r85 : (List Int)) => ((f_record_Put_1 (32 : Int) a1.Code r30 r85).bind fun (r92 : (List Int)) => (((if (decide ((andI .i64 r30 (64 : Int)) ≠ (0 : Int))) = true then ((f_wire_Flag r92 a1.Flag).bind fun (r102 : (List Int)) => (some r102)) else (some r92)) : Option (List Int)).bind fun (x99 : (List Int)) => ((f_record_Put_2 (128 : Int) a1.Name r30 x99).bind fun (r107 : (List Int)) => ((f_record_Put_2 (256 : Int) a1.Key r30 r107).bind fun (r114 : (List Int)) => ((f_record_Put_2 (512 : Int) a1.Value r30 r114).bind fun (r121 : (List Int)) => ((f_record_Put_2 (1024 : Int) a1.Rack r30 r121).bind fun (r128 : (List Int)) => ((f_record_Put_3 (2048 : Int) a1.Ids r30 r128).bind fun (r135 : (List Int)) => ((f_record_Put_3 (4096 : Int) a1.Isr r30 r135).bind fun (r142 : (List Int)) => ((f_record_Put_3 (8192 : Int) a1.Add r30 r142).bind fun (r149 : (List Int)) => ((f_record_Put_3 (8192 : Int) a1.Drop r30 r149).bind fun (r156 : (List Int)) => (some (r156, GErr.nil)))))))))))))))))))))))
def f_record_Put_post (a0 : (List Int)) (a1 : T_api_Record) (v0 v1_14 v1_15 v1_16 v1_17 : Value) : ((List Int) × GErr) → Value → IM → HL → Prop :=
  fun (p_ : ((List Int) × GErr)) (v : Value) (M' : IM) (H' : HL) => match p_ with | (r0, r1) => ∃ vz0 cz0, (.tuple #[vz0, (GV r1)]) = v ∧ H' = [cz0] ∧ OwnS (Kd.int .u8) M' vz0 r0 cz0
theorem f_record_Put_ok (a0 : (List Int)) (a1 : T_api_Record) (M : IM) (v0 v1_14 v1_15 v1_16 v1_17 : Value) (c0 : Chunk) (h0 : OwnS (Kd.int .u8) M v0 a0 c0) (h1_14 : RS (Kd.int .i64) M v1_14 a1.Ids) (h1_15 : RS (Kd.int .i64) M v1_15 a1.Isr) (h1_16 : RS (Kd.int .i64) M v1_16 a1.Add) (h1_17 : RS (Kd.int .i64) M v1_17 a1.Drop) (res : ((List Int) × GErr)) (h : f_record_Put a0 a1 = some res) :
    Tri Tryd.prog 9 #[v0, (a24_ a1 v1_14 v1_15 v1_16 v1_17)] M [c0] (f_record_Put_post a0 a1 v0 v1_14 v1_15 v1_16 v1_17 res) := by
 unfold f_record_Put at h
 refine Tri.enter (fn := Tryd.f9) Tryd.func9 rfl (Nat.le_of_ble_eq_true rfl) ?_
 intro F ρ hρ
 refine Sr ?_
 refine WL.eff (EO.box (cs := #[v0]) ((congrArg Value.cells (asE v0 (hρ 0))).trans h0.cells)) rfl ?_
 rintro _ _ _ - ⟨rfl, g21, rfl, rfl⟩
 refine WL.eff (EO.box (cs := (l24 a1 v1_14 v1_15 v1_16 v1_17).toArray) (congrArg Value.cells (asE (a24_ a1 v1_14 v1_15 v1_16 v1_17) (hρ 1)))) rfl ?_
 rintro _ _ _ - ⟨rfl, g22, rfl, rfl⟩
 refine Pa (.slice none 0 0) rfl rfl ?_
 refine Pa (GV GErr.nil) rfl rfl ?_
 refine Nt ?_
 refine WC.seq ?_
 refine Sr ?_
 refine Pu (a24_ a1 v1_14 v1_15 v1_16 v1_17) (PO.loadBA (cs := (l24 a1 v1_14 v1_15 v1_16 v1_17)) 0 ag24 sz24 rfl rfl rfl) rfl ?_
 obtain ⟨r23, hr24, h⟩ := bnd h
 refine WL.eff (EO.call0 co19 (f_record_Check_ok a1 _ _ _ _ _ h1_14 h1_15 h1_16 h1_17 r23 hr24) (args1 rfl)) rfl ?_
 rintro _ M25 _ hle26 ⟨_, ⟨rfl, rfl⟩, rfl⟩
 have h1_14 := h1_14.mono hle26
 have h1_15 := h1_15.mono hle26
 have h1_16 := h1_16.mono hle26
 have h1_17 := h1_17.mono hle26
 have h0 := h0.mono hle26
 refine WL.a0 ?_
 refine Pa (GV r23) rfl rfl ?_
 refine Ns ?_
 refine Pm (GV r23) rfl rfl ?_
 refine Pu (.bool (!r23.isNil)) (PO.errNotNil Tryd.underlying30 rfl) rfl ?_
 refine Nt ?_
 refine WC.cond (b := !r23.isNil) rfl (fun hb28 => ?_) (fun hb28 => ?_)
 have h := ite_t hb28 h
 refine Sr ?_
 refine Pm (GV r23) rfl rfl ?_
 refine Pa (.slice none 0 0) rfl rfl ?_
 refine Pa (GV r23) rfl rfl ?_
 refine Nt ?_
 refine WC.ret ?_
 refine WQ.thenR ?_
 refine WQ.e0 ?_
 refine WQ.f1 ?_
 refine WQ.drop ?_
 refine WQ.f1 ?_
 refine WQ.drop ?_
 refine WQ.f1 ?_
 refine WQ.drop ?_
 exact WQ.returnsF h [[]] rfl (results2 rfl rfl rfl) hle26 ⟨(.slice none 0 0), [], rfl, rfl, (OwnS.nil _ _)⟩
 have h := ite_f hb28 h
 refine WC.skip ?_
 refine WQ.thenC ?_
 refine Sr ?_
 refine Pu (pt g22 0) (PO.fieldAddr fo24_0 rfl rfl) rfl ?_
 refine Pu (.int .i64 a1.Kind) (PO.loadB 0 pl3 rfl rfl rfl) rfl ?_
 obtain ⟨r30, hr31, h⟩ := bnd h
 refine WL.eff (EO.call0 co27 (f_record_about_ok a1.Kind _ r30 hr31) (args1 rfl)) rfl ?_
 rintro _ M32 _ hle33 ⟨_, ⟨rfl, rfl⟩, rfl⟩
 have h0 := h0.mono hle33
 have h1_14 := h1_14.mono hle33
 have h1_15 := h1_15.mono hle33
 have h1_16 := h1_16.mono hle33
 have h1_17 := h1_17.mono hle33
 refine WL.a0 ?_
 refine WL.eff (EO.alloc ze3 rfl) rfl ?_
 rintro _ _ _ - ⟨rfl, g35, rfl, rfl⟩
 refine WL.eff (EO.storeL (v := (.int .i64 r30)) (vl := [(.int .i64 r30)]) (arr' := [(.int .i64 r30)]) rfl sz3 rfl rfl (onesOf (Ones.cons rfl Ones.nil)) rfl rfl rfl) rfl ?_
 rintro _ _ _ - ⟨rfl, rfl⟩
 refine Ns ?_
 refine Pu v0 (PO.loadB 2 pl28 rfl rfl rfl) rfl ?_
 refine Pu (pt g22 0) (PO.fieldAddr fo24_0 rfl rfl) rfl ?_
 refine Pu (.int .i64 a1.Kind) (PO.loadB 1 pl3 rfl rfl rfl) rfl ?_
 refine Pu (.int .u8 (IntKind.u8.wrap a1.Kind)) (PO.conv us3 Tryd.underlying5 rfl) rfl ?_
 refine WL.eff (EO.buildSliceL (cl := [(.int .u8 (IntKind.u8.wrap a1.Kind))]) Tryd.underlying28 iz5 rfl (Parts.cons (congrArg Value.cells (show ev _ _ = (.int .u8 (IntKind.u8.wrap a1.Kind)) from rfl)) Parts.nil) rfl) rfl ?_
 rintro _ _ _ - ⟨rfl, g36, rfl, rfl⟩
 have h38 : OwnS (Kd.int .u8) M32 (.slice (some ⟨g36, 0, none⟩) 1 1) [IntKind.u8.wrap a1.Kind] [(g36, .cells #[(.int .u8 (IntKind.u8.wrap a1.Kind))] 5 (0, 0))] := OwnS.rows (css := [[(.int .u8 (IntKind.u8.wrap a1.Kind))]]) (Rows.cons rfl Rows.nil) rfl rfl
 obtain ⟨hg42, h⟩ := grd_i h
 refine WL.f4 ?_
 refine WL.eff (EO.append (dd := (Kd.int .u8)) (xs := a0) (ys := [IntKind.u8.wrap a1.Kind]) Tryd.underlying28 Tryd.underlying28 in5 rfl (appB (by decide) hg42) (by decide) rfl rfl h0 (h38.src 1 rfl)) rfl ?_
 rintro v41 _ _ - ⟨rfl, c39, rfl, h40⟩
 refine WL.f4 ?_
 refine WL.eff (EO.storeL (v := v41) (vl := [v41]) (arr' := [v41]) h40.cells sz28 rfl rfl (onesOf (Ones.cons (OwnS.one h40) Ones.nil)) rfl rfl rfl) rfl ?_
 rintro _ _ _ - ⟨rfl, rfl⟩
 refine Ns ?_
 refine Pu (.func (.func 28) #[] #[(pt g35 0), (pt g21 0)]) (PO.makeFunc2 (args0) (args2 (show ev _ _ = (pt g35 0) from rfl) (show ev _ _ = (pt g21 0) from rfl))) rfl ?_
 refine Pa (.func (.func 28) #[] #[(pt g35 0), (pt g21 0)]) rfl rfl ?_
 refine Ns ?_
 refine Pm (.func (.func 28) #[] #[(pt g35 0), (pt g21 0)]) rfl rfl ?_
 refine Pu (pt g22 1) (PO.fieldAddr fo24_1 rfl rfl) rfl ?_
 refine Pu (.int .i64 a1.Broker) (PO.loadB 4 pl3 rfl rfl rfl) rfl ?_
 obtain ⟨r43, hr44, h⟩ := bnd h
 refine WL.f1 ?_
 refine WL.f1 ?_
 refine WL.f3 ?_
 refine WL.eff (EO.callV3 (first := #[]) (cap := #[(pt g35 0), (pt g21 0)]) co28 rfl (f_record_Put_1_ok (1 : Int) a1.Broker r30 (a0 ++ [IntKind.u8.wrap a1.Kind]) _ _ _ _ _ h40 r43 hr44) (argsV2 rfl rfl rfl)) rfl ?_
 rintro _ M45 _ hle46 ⟨_, ⟨v47, c49, rfl, rfl, h48⟩, rfl⟩
 have h40 := h40.mono hle46
 have h1_14 := h1_14.mono hle46
 have h1_15 := h1_15.mono hle46
 have h1_16 := h1_16.mono hle46
 have h1_17 := h1_17.mono hle46
 refine WL.a3 ?_
 refine Ns ?_
 refine Pm (.func (.func 28) #[] #[(pt g35 0), (pt g21 0)]) rfl rfl ?_
 refine Pu (pt g22 2) (PO.fieldAddr fo24_2 rfl rfl) rfl ?_
 refine Pu (.int .i64 a1.Epoch) (PO.loadB 4 pl3 rfl rfl rfl) rfl ?_
 obtain ⟨r50, hr51, h⟩ := bnd h
 refine WL.f2 ?_
 refine WL.f2 ?_
 refine WL.f2 ?_
 refine WL.eff (EO.callV3 (first := #[]) (cap := #[(pt g35 0), (pt g21 0)]) co28 rfl (f_record_Put_1_ok (2 : Int) a1.Epoch r30 r43 _ _ _ _ _ h48 r50 hr51) (argsV2 rfl rfl rfl)) rfl ?_
 rintro _ M52 _ hle53 ⟨_, ⟨v54, c56, rfl, rfl, h55⟩, rfl⟩
 have h48 := h48.mono hle53
 have h1_14 := h1_14.mono hle53
 have h1_15 := h1_15.mono hle53
 have h1_16 := h1_16.mono hle53
 have h1_17 := h1_17.mono hle53
 refine WL.a3 ?_
 refine Ns ?_
 refine Pm (.func (.func 28) #[] #[(pt g35 0), (pt g21 0)]) rfl rfl ?_
 refine Pu (pt g22 3) (PO.fieldAddr fo24_3 rfl rfl) rfl ?_
 refine Pu (.int .i64 a1.Topic) (PO.loadB 4 pl3 rfl rfl rfl) rfl ?_
 obtain ⟨r57, hr58, h⟩ := bnd h
 refine WL.f2 ?_
 refine WL.f2 ?_
 refine WL.f2 ?_
 refine WL.eff (EO.callV3 (first := #[]) (cap := #[(pt g35 0), (pt g21 0)]) co28 rfl (f_record_Put_1_ok (4 : Int) a1.Topic r30 r50 _ _ _ _ _ h55 r57 hr58) (argsV2 rfl rfl rfl)) rfl ?_
 rintro _ M59 _ hle60 ⟨_, ⟨v61, c63, rfl, rfl, h62⟩, rfl⟩
 have h55 := h55.mono hle60
 have h1_14 := h1_14.mono hle60
 have h1_15 := h1_15.mono hle60
 have h1_16 := h1_16.mono hle60
 have h1_17 := h1_17.mono hle60
 refine WL.a3 ?_
 refine Ns ?_
 refine Pm (.func (.func 28) #[] #[(pt g35 0), (pt g21 0)]) rfl rfl ?_
 refine Pu (pt g22 4) (PO.fieldAddr fo24_4 rfl rfl) rfl ?_
 refine Pu (.int .i64 a1.Part) (PO.loadB 4 pl3 rfl rfl rfl) rfl ?_
 obtain ⟨r64, hr65, h⟩ := bnd h
 refine WL.f2 ?_
 refine WL.f2 ?_
 refine WL.f2 ?_
 refine WL.eff (EO.callV3 (first := #[]) (cap := #[(pt g35 0), (pt g21 0)]) co28 rfl (f_record_Put_1_ok (8 : Int) a1.Part r30 r57 _ _ _ _ _ h62 r64 hr65) (argsV2 rfl rfl rfl)) rfl ?_
 rintro _ M66 _ hle67 ⟨_, ⟨v68, c70, rfl, rfl, h69⟩, rfl⟩
 have h62 := h62.mono hle67
 have h1_14 := h1_14.mono hle67
 have h1_15 := h1_15.mono hle67
 have h1_16 := h1_16.mono hle67
 have h1_17 := h1_17.mono hle67
 refine WL.a3 ?_
 refine Ns ?_
 refine Pm (.func (.func 28) #[] #[(pt g35 0), (pt g21 0)]) rfl rfl ?_
 refine Pu (pt g22 5) (PO.fieldAddr fo24_5 rfl rfl) rfl ?_
 refine Pu (.int .i64 a1.Leader) (PO.loadB 4 pl3 rfl rfl rfl) rfl ?_
 obtain ⟨r71, hr72, h⟩ := bnd h
 refine WL.f2 ?_
 refine WL.f2 ?_
 refine WL.f2 ?_
 refine WL.eff (EO.callV3 (first := #[]) (cap := #[(pt g35 0), (pt g21 0)]) co28 rfl (f_record_Put_1_ok (16 : Int) a1.Leader r30 r64 _ _ _ _ _ h69 r71 hr72) (argsV2 rfl rfl rfl)) rfl ?_
 rintro _ M73 _ hle74 ⟨_, ⟨v75, c77, rfl, rfl, h76⟩, rfl⟩
 have h69 := h69.mono hle74
 have h1_14 := h1_14.mono hle74
 have h1_15 := h1_15.mono hle74
 have h1_16 := h1_16.mono hle74
 have h1_17 := h1_17.mono hle74
 refine WL.a3 ?_
 refine Ns ?_
 refine Pm (.func (.func 28) #[] #[(pt g35 0), (pt g21 0)]) rfl rfl ?_
 refine Pu (pt g22 6) (PO.fieldAddr fo24_6 rfl rfl) rfl ?_
 refine Pu (.int .i64 a1.Client) (PO.loadB 4 pl3 rfl rfl rfl) rfl ?_
 obtain ⟨r78, hr79, h⟩ := bnd h
 refine WL.f2 ?_
 refine WL.f2 ?_
 refine WL.f2 ?_
 refine WL.eff (EO.callV3 (first := #[]) (cap := #[(pt g35 0), (pt g21 0)]) co28 rfl (f_record_Put_1_ok (32 : Int) a1.Client r30 r71 _ _ _ _ _ h76 r78 hr79) (argsV2 rfl rfl rfl)) rfl ?_
 rintro _ M80 _ hle81 ⟨_, ⟨v82, c84, rfl, rfl, h83⟩, rfl⟩
 have h76 := h76.mono hle81
 have h1_14 := h1_14.mono hle81
 have h1_15 := h1_15.mono hle81
 have h1_16 := h1_16.mono hle81
 have h1_17 := h1_17.mono hle81
 refine WL.a3 ?_
 refine Ns ?_
 refine Pm (.func (.func 28) #[] #[(pt g35 0), (pt g21 0)]) rfl rfl ?_
 refine Pu (pt g22 7) (PO.fieldAddr fo24_7 rfl rfl) rfl ?_
 refine Pu (.int .i64 a1.Serial) (PO.loadB 4 pl3 rfl rfl rfl) rfl ?_
 obtain ⟨r85, hr86, h⟩ := bnd h
 refine WL.f2 ?_
 refine WL.f2 ?_
 refine WL.f2 ?_
 refine WL.eff (EO.callV3 (first := #[]) (cap := #[(pt g35 0), (pt g21 0)]) co28 rfl (f_record_Put_1_ok (32 : Int) a1.Serial r30 r78 _ _ _ _ _ h83 r85 hr86) (argsV2 rfl rfl rfl)) rfl ?_
 rintro _ M87 _ hle88 ⟨_, ⟨v89, c91, rfl, rfl, h90⟩, rfl⟩
 have h83 := h83.mono hle88
 have h1_14 := h1_14.mono hle88
 have h1_15 := h1_15.mono hle88
 have h1_16 := h1_16.mono hle88
 have h1_17 := h1_17.mono hle88
 refine WL.a3 ?_
 refine Ns ?_
 refine Pm (.func (.func 28) #[] #[(pt g35 0), (pt g21 0)]) rfl rfl ?_
 refine Pu (pt g22 8) (PO.fieldAddr fo24_8 rfl rfl) rfl ?_
 refine Pu (.int .i64 a1.Code) (PO.loadB 4 pl3 rfl rfl rfl) rfl ?_
 obtain ⟨r92, hr93, h⟩ := bnd h
 refine WL.f2 ?_
 refine WL.f2 ?_
 refine WL.f2 ?_
 refine WL.eff (EO.callV3 (first := #[]) (cap := #[(pt g35 0), (pt g21 0)]) co28 rfl (f_record_Put_1_ok (32 : Int) a1.Code r30 r85 _ _ _ _ _ h90 r92 hr93) (argsV2 rfl rfl rfl)) rfl ?_
 rintro _ M94 _ hle95 ⟨_, ⟨v96, c98, rfl, rfl, h97⟩, rfl⟩
 have h90 := h90.mono hle95
 have h1_14 := h1_14.mono hle95
 have h1_15 := h1_15.mono hle95
 have h1_16 := h1_16.mono hle95
 have h1_17 := h1_17.mono hle95
 refine WL.a3 ?_
 refine Nt ?_
 obtain ⟨x99, hj100, h⟩ := bnd h
 refine WC.joinF (fun (x99 : (List Int)) ρ' M' H' => ∃ vx99 cx99, M94.le M' ∧ [(g35, .cells #[(.int .i64 r30)] 3 (0, 0))] :: [(g21, .cells #[vx99] 28 (0, 0))] :: [(g22, .cells (l24 a1 v1_14 v1_15 v1_16 v1_17).toArray 24 (0, 0))] :: cx99 :: F = H' ∧ ρ' 2 = (pt g21 0) ∧ ρ' 3 = (pt g22 0) ∧ ρ' 7 = (pt g35 0) ∧ OwnS (Kd.int .u8) M' vx99 x99 cx99) x99 ?_ ?_
 have h3100 := h
 have h := hj100
 refine Sr ?_
 refine Pu (.int .i64 r30) (PO.loadB 0 pl3 rfl rfl rfl) rfl ?_
 refine Pu (.int .i64 (andI .i64 r30 (64 : Int))) (PO.and rfl rfl) rfl ?_
 refine Pu (.bool (decide ((andI .i64 r30 (64 : Int)) ≠ 0))) (PO.neq rfl rfl) rfl ?_
 refine Nt ?_
 refine WC.cond (b := decide ((andI .i64 r30 (64 : Int)) ≠ 0)) rfl (fun hb101 => ?_) (fun hb101 => ?_)
 have h := ite_t hb101 h
 refine WC.region ?_
 refine Pu v96 (PO.loadB 1 pl28 rfl rfl rfl) rfl ?_
 refine Pu (pt g22 9) (PO.fieldAddr fo24_9 rfl rfl) rfl ?_
 refine Pu (.bool a1.Flag) (PO.loadB 4 pl4 rfl rfl rfl) rfl ?_
 obtain ⟨r102, hr103, h⟩ := bnd h
 refine WL.f2 ?_
 refine WL.eff (EO.call1 co30 (f_wire_Flag_ok r92 a1.Flag _ _ _ h97 r102 hr103) (args2 rfl rfl)) rfl ?_
 rintro _ M104 _ hle105 ⟨_, ⟨vq106, cq106, rfl, rfl, hq106⟩, rfl⟩
 have h97 := h97.mono hle105
 have h1_14 := h1_14.mono hle105
 have h1_15 := h1_15.mono hle105
 have h1_16 := h1_16.mono hle105
 have h1_17 := h1_17.mono hle105
 refine WL.a1 ?_
 refine WL.f2 ?_
 refine WL.eff (EO.storeL (v := vq106) (vl := [vq106]) (arr' := [vq106]) hq106.cells sz28 rfl rfl (onesOf (Ones.cons (OwnS.one hq106) Ones.nil)) rfl rfl rfl) rfl ?_
 rintro _ _ _ - ⟨rfl, rfl⟩
 refine WL.nil ?_
 refine WQ.f3 ?_
 refine WQ.drop ?_
 refine WQ.f1 ?_
 refine WQ.f3 ?_
 refine WQ.f2 ?_
 refine WQ.f3 ?_
 obtain rfl := Option.some.inj h
 refine WQ.thenJ ?_
 exact ⟨vq106, cq106, hle105, rfl, rfl, rfl, rfl, hq106⟩
 have h := ite_f hb101 h
 refine WC.skip ?_
 refine WQ.f3 ?_
 refine WQ.drop ?_
 refine WQ.f2 ?_
 refine WQ.f3 ?_
 refine WQ.f3 ?_
 refine WQ.f3 ?_
 obtain rfl := Option.some.inj h
 refine WQ.thenJ ?_
 exact ⟨v96, c98, (IM.le.refl _), rfl, rfl, rfl, rfl, h97⟩
 rintro ρ100 M100 H100 ⟨vx99, cx99, hle100, rfl, hs100_2, hs100_3, hs100_7, hx99⟩
 have h1_14 := h1_14.mono hle100
 have h1_15 := h1_15.mono hle100
 have h1_16 := h1_16.mono hle100
 have h1_17 := h1_17.mono hle100
 refine Sr ?_
 refine Pu (.func (.func 31) #[] #[(pt g35 0), (pt g21 0)]) (PO.makeFunc2 (args0) (args2 (asE (Value.pointer (some ⟨g35, 0, none⟩)) hs100_7) (asE (Value.pointer (some ⟨g21, 0, none⟩)) hs100_2))) rfl ?_
 refine Pa (.func (.func 31) #[] #[(pt g35 0), (pt g21 0)]) rfl rfl ?_
 refine Ns ?_
 refine Pm (.func (.func 31) #[] #[(pt g35 0), (pt g21 0)]) rfl rfl ?_
 refine Pu (pt g22 10) (PO.fieldAddr fo24_10 hs100_3 rfl) rfl ?_
 refine Pu (.string a1.Name) (PO.loadB 2 pl9 rfl rfl rfl) rfl ?_
 obtain ⟨r107, hr108, h⟩ := bnd h
 refine WL.f3 ?_
 refine WL.f2 ?_
 refine WL.f2 ?_
 refine WL.eff (EO.callV3 (first := #[]) (cap := #[(pt g35 0), (pt g21 0)]) co31 rfl (f_record_Put_2_ok (128 : Int) a1.Name r30 x99 _ _ _ _ _ hx99 r107 hr108) (argsV2 rfl rfl rfl)) rfl ?_
 rintro _ M109 _ hle110 ⟨_, ⟨v111, c113, rfl, rfl, h112⟩, rfl⟩
 have hx99 := hx99.mono hle110
 have h1_14 := h1_14.mono hle110
 have h1_15 := h1_15.mono hle110
 have h1_16 := h1_16.mono hle110
 have h1_17 := h1_17.mono hle110
 refine WL.a3 ?_
 refine Ns ?_
 refine Pm (.func (.func 31) #[] #[(pt g35 0), (pt g21 0)]) rfl rfl ?_
 refine Pu (pt g22 11) (PO.fieldAddr fo24_11 hs100_3 rfl) rfl ?_
 refine Pu (.string a1.Key) (PO.loadB 3 pl9 rfl rfl rfl) rfl ?_
 obtain ⟨r114, hr115, h⟩ := bnd h
 refine WL.f2 ?_
 refine WL.f2 ?_
 refine WL.f2 ?_
 refine WL.eff (EO.callV3 (first := #[]) (cap := #[(pt g35 0), (pt g21 0)]) co31 rfl (f_record_Put_2_ok (256 : Int) a1.Key r30 r107 _ _ _ _ _ h112 r114 hr115) (argsV2 rfl rfl rfl)) rfl ?_
 rintro _ M116 _ hle117 ⟨_, ⟨v118, c120, rfl, rfl, h119⟩, rfl⟩
 have h112 := h112.mono hle117
 have h1_14 := h1_14.mono hle117
 have h1_15 := h1_15.mono hle117
 have h1_16 := h1_16.mono hle117
 have h1_17 := h1_17.mono hle117
 refine WL.a3 ?_
 refine Ns ?_
 refine Pm (.func (.func 31) #[] #[(pt g35 0), (pt g21 0)]) rfl rfl ?_
 refine Pu (pt g22 12) (PO.fieldAddr fo24_12 hs100_3 rfl) rfl ?_
 refine Pu (.string a1.Value) (PO.loadB 3 pl9 rfl rfl rfl) rfl ?_
 obtain ⟨r121, hr122, h⟩ := bnd h
 refine WL.f2 ?_
 refine WL.f2 ?_
 refine WL.f2 ?_
 refine WL.eff (EO.callV3 (first := #[]) (cap := #[(pt g35 0), (pt g21 0)]) co31 rfl (f_record_Put_2_ok (512 : Int) a1.Value r30 r114 _ _ _ _ _ h119 r121 hr122) (argsV2 rfl rfl rfl)) rfl ?_
 rintro _ M123 _ hle124 ⟨_, ⟨v125, c127, rfl, rfl, h126⟩, rfl⟩
 have h119 := h119.mono hle124
 have h1_14 := h1_14.mono hle124
 have h1_15 := h1_15.mono hle124
 have h1_16 := h1_16.mono hle124
 have h1_17 := h1_17.mono hle124
 refine WL.a3 ?_
 refine Ns ?_
 refine Pm (.func (.func 31) #[] #[(pt g35 0), (pt g21 0)]) rfl rfl ?_
 refine Pu (pt g22 13) (PO.fieldAddr fo24_13 hs100_3 rfl) rfl ?_
 refine Pu (.string a1.Rack) (PO.loadB 3 pl9 rfl rfl rfl) rfl ?_
 obtain ⟨r128, hr129, h⟩ := bnd h
 refine WL.f2 ?_
 refine WL.f2 ?_
 refine WL.f2 ?_
 refine WL.eff (EO.callV3 (first := #[]) (cap := #[(pt g35 0), (pt g21 0)]) co31 rfl (f_record_Put_2_ok (1024 : Int) a1.Rack r30 r121 _ _ _ _ _ h126 r128 hr129) (argsV2 rfl rfl rfl)) rfl ?_
 rintro _ M130 _ hle131 ⟨_, ⟨v132, c134, rfl, rfl, h133⟩, rfl⟩
 have h126 := h126.mono hle131
 have h1_14 := h1_14.mono hle131
 have h1_15 := h1_15.mono hle131
 have h1_16 := h1_16.mono hle131
 have h1_17 := h1_17.mono hle131
 refine WL.a3 ?_
 refine Ns ?_
 refine Pu (.func (.func 33) #[] #[(pt g35 0), (pt g21 0)]) (PO.makeFunc2 (args0) (args2 (asE (Value.pointer (some ⟨g35, 0, none⟩)) hs100_7) (asE (Value.pointer (some ⟨g21, 0, none⟩)) hs100_2))) rfl ?_
 refine Pa (.func (.func 33) #[] #[(pt g35 0), (pt g21 0)]) rfl rfl ?_
 refine Ns ?_
 refine Pm (.func (.func 33) #[] #[(pt g35 0), (pt g21 0)]) rfl rfl ?_
 refine Pu (pt g22 14) (PO.fieldAddr fo24_14 hs100_3 rfl) rfl ?_
 refine Pu v1_14 (PO.loadB 3 pl22 rfl rfl rfl) rfl ?_
 obtain ⟨r135, hr136, h⟩ := bnd h
 refine WL.f2 ?_
 refine WL.f2 ?_
 refine WL.f2 ?_
 refine WL.eff (EO.callV3 (first := #[]) (cap := #[(pt g35 0), (pt g21 0)]) co33 rfl (f_record_Put_3_ok (2048 : Int) a1.Ids r30 r128 _ _ _ _ _ _ h1_14 h133 r135 hr136) (argsV2 rfl rfl rfl)) rfl ?_
 rintro _ M137 _ hle138 ⟨_, ⟨v139, c141, rfl, rfl, h140⟩, rfl⟩
 have h1_14 := h1_14.mono hle138
 have h133 := h133.mono hle138
 have h1_15 := h1_15.mono hle138
 have h1_16 := h1_16.mono hle138
 have h1_17 := h1_17.mono hle138
 refine WL.a3 ?_
 refine Ns ?_
 refine Pm (.func (.func 33) #[] #[(pt g35 0), (pt g21 0)]) rfl rfl ?_
 refine Pu (pt g22 15) (PO.fieldAddr fo24_15 hs100_3 rfl) rfl ?_
 refine Pu v1_15 (PO.loadB 3 pl22 rfl rfl rfl) rfl ?_
 obtain ⟨r142, hr143, h⟩ := bnd h
 refine WL.f2 ?_
 refine WL.f2 ?_
 refine WL.f2 ?_
 refine WL.eff (EO.callV3 (first := #[]) (cap := #[(pt g35 0), (pt g21 0)]) co33 rfl (f_record_Put_3_ok (4096 : Int) a1.Isr r30 r135 _ _ _ _ _ _ h1_15 h140 r142 hr143) (argsV2 rfl rfl rfl)) rfl ?_
 rintro _ M144 _ hle145 ⟨_, ⟨v146, c148, rfl, rfl, h147⟩, rfl⟩
 have h1_15 := h1_15.mono hle145
 have h140 := h140.mono hle145
 have h1_14 := h1_14.mono hle145
 have h1_16 := h1_16.mono hle145
 have h1_17 := h1_17.mono hle145
 refine WL.a3 ?_
 refine Ns ?_
 refine Pm (.func (.func 33) #[] #[(pt g35 0), (pt g21 0)]) rfl rfl ?_
 refine Pu (pt g22 16) (PO.fieldAddr fo24_16 hs100_3 rfl) rfl ?_
 refine Pu v1_16 (PO.loadB 3 pl22 rfl rfl rfl) rfl ?_
 obtain ⟨r149, hr150, h⟩ := bnd h
 refine WL.f2 ?_
 refine WL.f2 ?_
 refine WL.f2 ?_
 refine WL.eff (EO.callV3 (first := #[]) (cap := #[(pt g35 0), (pt g21 0)]) co33 rfl (f_record_Put_3_ok (8192 : Int) a1.Add r30 r142 _ _ _ _ _ _ h1_16 h147 r149 hr150) (argsV2 rfl rfl rfl)) rfl ?_
 rintro _ M151 _ hle152 ⟨_, ⟨v153, c155, rfl, rfl, h154⟩, rfl⟩
 have h1_16 := h1_16.mono hle152
 have h147 := h147.mono hle152
 have h1_14 := h1_14.mono hle152
 have h1_15 := h1_15.mono hle152
 have h1_17 := h1_17.mono hle152
 refine WL.a3 ?_
 refine Ns ?_
 refine Pm (.func (.func 33) #[] #[(pt g35 0), (pt g21 0)]) rfl rfl ?_
 refine Pu (pt g22 17) (PO.fieldAddr fo24_17 hs100_3 rfl) rfl ?_
 refine Pu v1_17 (PO.loadB 3 pl22 rfl rfl rfl) rfl ?_
 obtain ⟨r156, hr157, h⟩ := bnd h
 refine WL.f2 ?_
 refine WL.f2 ?_
 refine WL.f2 ?_
 refine WL.eff (EO.callV3 (first := #[]) (cap := #[(pt g35 0), (pt g21 0)]) co33 rfl (f_record_Put_3_ok (8192 : Int) a1.Drop r30 r149 _ _ _ _ _ _ h1_17 h154 r156 hr157) (argsV2 rfl rfl rfl)) rfl ?_
 rintro _ M158 _ hle159 ⟨_, ⟨v160, c162, rfl, rfl, h161⟩, rfl⟩
 have h1_17 := h1_17.mono hle159
 have h154 := h154.mono hle159
 have h1_14 := h1_14.mono hle159
 have h1_15 := h1_15.mono hle159
 have h1_16 := h1_16.mono hle159
 refine WL.a3 ?_
 refine Ns ?_
 refine Pu v160 (PO.loadB 1 pl28 hs100_2 rfl rfl) rfl ?_
 refine Pa v160 rfl rfl ?_
 refine Pa (GV GErr.nil) rfl rfl ?_
 refine Nt ?_
 refine WC.ret ?_
 refine WQ.drop ?_
 refine WQ.drop ?_
 refine WQ.f1 ?_
 refine WQ.drop ?_
 exact WQ.returnsF h [c162] rfl (results2 rfl rfl rfl) ((((((((((((((((((hle26.trans hle33).trans hle46).trans hle53).trans hle60).trans hle67).trans hle74).trans hle81).trans hle88).trans hle95).trans hle100).trans hle110).trans hle117).trans hle124).trans hle131).trans hle138).trans hle145).trans hle152).trans hle159) ⟨v160, c162, rfl, rfl, h161⟩

noncomputable def f_wire_Read (a0 : (List Int)) : Option T_wire_Reader :=
  (some (⟨a0, (0 : Int), GErr.nil⟩ : T_wire_Reader))
def f_wire_Read_post (a0 : (List Int)) (v0 : Value) : T_wire_Reader → Value → IM → HL → Prop :=
  fun (r0 : T_wire_Reader) (v : Value) (M' : IM) (H' : HL) => ∃ b0 vq0_0, (.pointer (some ⟨b0, 0, none⟩)) = v ∧ H' = [[(b0, .cells #[vq0_0, (.int .i64 r0.at_), (GV r0.err)] 63 (0, 0))]] ∧ RS (Kd.int .u8) M' vq0_0 r0.b
theorem f_wire_Read_ok (a0 : (List Int)) (M : IM) (v0 : Value) (h0 : RS (Kd.int .u8) M v0 a0) (res : T_wire_Reader) (h : f_wire_Read a0 = some res) :
    Tri Tryd.prog 10 #[v0] M [] (f_wire_Read_post a0 v0 res) := by
 unfold f_wire_Read at h
 refine Tri.enter (fn := Tryd.f10) Tryd.func10 rfl (Nat.le_of_ble_eq_true rfl) ?_
 intro F ρ hρ
 refine Sr ?_
 refine Pa (.pointer none) rfl rfl ?_
 refine Ns ?_
 refine Pm v0 (hρ 0) rfl ?_
 refine Pu (.agg #[v0, (.int .i64 0), (GV GErr.nil)]) (PO.buildL (cl := [v0, (.int .i64 0), (GV GErr.nil)]) ze63 fp63 (Parts.cons ((congrArg Value.cells (show ev _ _ = v0 from rfl)).trans h0.cells) Parts.nil) rfl) rfl ?_
 refine WL.eff (EO.box (cs := #[v0, (.int .i64 0), (GV GErr.nil)]) (congrArg Value.cells (show ev _ _ = (.agg #[v0, (.int .i64 0), (GV GErr.nil)]) from rfl))) rfl ?_
 rintro _ _ _ - ⟨rfl, g21, rfl, rfl⟩
 refine Pa (pt g21 0) rfl rfl ?_
 refine Nt ?_
 refine WC.ret ?_
 exact WQ.returnsF h [[(g21, .cells #[v0, (.int .i64 0), (GV GErr.nil)] 63 (0, 0))]] rfl (results1 rfl rfl) (IM.le.refl _) ⟨g21, v0, rfl, rfl, h0⟩

noncomputable def f_wire_Reader_fail (a0 : T_wire_Reader) (a1 : ByteArray) (a2 : Int) (a3 : Int) : Option GErr :=
  (if a0.err.isNil = true then ((f_fault_New a1 a2 a3).bind fun (r22 : GErr) => (some r22)) else (some a0.err))
def f_wire_Reader_fail_post (a0 : T_wire_Reader) (a1 : ByteArray) (a2 : Int) (a3 : Int) (v0_0 : Value) (g0 : Nat) : GErr → Value → IM → HL → Prop :=
  fun (r0 : GErr) (v : Value) (M' : IM) (H' : HL) => (.tuple #[]) = v ∧ H' = [[(g0, .cells #[v0_0, (.int .i64 a0.at_), (GV r0)] 63 (0, 0))]]
theorem f_wire_Reader_fail_ok (a0 : T_wire_Reader) (a1 : ByteArray) (a2 : Int) (a3 : Int) (M : IM) (v0_0 : Value) (g0 : Nat) (h0_0 : RS (Kd.int .u8) M v0_0 a0.b) (res : GErr) (h : f_wire_Reader_fail a0 a1 a2 a3 = some res) :
    Tri Tryd.prog 46 #[(pt g0 0), (.string a1), (.int .i64 a2), (.int .i64 a3)] M [[(g0, .cells #[v0_0, (.int .i64 a0.at_), (GV a0.err)] 63 (0, 0))]] (f_wire_Reader_fail_post a0 a1 a2 a3 v0_0 g0 res) := by
 unfold f_wire_Reader_fail at h
 refine Tri.enter (fn := Tryd.f46) Tryd.func46 rfl (Nat.le_of_ble_eq_true rfl) ?_
 intro F ρ hρ
 refine Sr ?_
 refine Pm (pt g0 0) (hρ 0) rfl ?_
 refine Pu (pt g0 0) (PO.nilCheck rfl) rfl ?_
 refine Pu (pt g0 2) (PO.fieldAddr fo63_2 rfl rfl) rfl ?_
 refine Pu (GV a0.err) (PO.loadB 0 pl30 rfl rfl rfl) rfl ?_
 refine Pu (.bool a0.err.isNil) (PO.errNil Tryd.underlying30 rfl) rfl ?_
 refine Nt ?_
 refine WC.cond (b := a0.err.isNil) rfl (fun hb21 => ?_) (fun hb21 => ?_)
 have h := ite_t hb21 h
 refine WC.region ?_
 refine Pm (pt g0 0) (hρ 0) rfl ?_
 refine Pm (.string a1) (hρ 1) rfl ?_
 refine Pm (.int .i64 a2) (hρ 2) rfl ?_
 refine Pm (.int .i64 a3) (hρ 3) rfl ?_
 obtain ⟨r22, hr23, h⟩ := bnd h
 refine WL.eff (EO.call0 co49 (f_fault_New_ok a1 a2 a3 _ r22 hr23) (args3 rfl rfl rfl)) rfl ?_
 rintro _ M24 _ hle25 ⟨_, ⟨rfl, rfl⟩, rfl⟩
 have h0_0 := h0_0.mono hle25
 refine WL.a0 ?_
 refine Pu (pt g0 0) (PO.nilCheck rfl) rfl ?_
 refine Pu (pt g0 2) (PO.fieldAddr fo63_2 rfl rfl) rfl ?_
 refine WL.eff (EO.storeL (v := (GV r22)) (vl := [(GV r22)]) (arr' := [v0_0, (.int .i64 a0.at_), (GV r22)]) (GErr.val_cells _ _ _ _) sz30 rfl rfl (onesOf (Ones.cons (GErr.val_one _ _ _ _) Ones.nil)) rfl rfl rfl) rfl ?_
 rintro _ _ _ - ⟨rfl, rfl⟩
 refine WL.nil ?_
 exact WQ.endsF h [[(g0, .cells #[v0_0, (.int .i64 a0.at_), (GV r22)] 63 (0, 0))]] rfl (results0 rfl) hle25 ⟨rfl, rfl⟩
 have h := ite_f hb21 h
 refine WC.skip ?_
 exact WQ.endsF h [[(g0, .cells #[v0_0, (.int .i64 a0.at_), (GV a0.err)] 63 (0, 0))]] rfl (results0 rfl) (IM.le.refl _) ⟨rfl, rfl⟩

noncomputable def f_wire_Reader_Num_1 (a0 : Int) (a1 : (List Int)) (a2 : Int) : Option (Int × Int) :=
  (grd (0 ≤ a2 ∧ a2 < a1.length) (some (orI .u64 (shlI .u64 a0 (8 : Int)) (IntKind.u64.wrap (rd a1 a2)), IntKind.i64.wrap (a2 + (1 : Int)))))
def f_wire_Reader_Num_1_post (a0 : Int) (a1 : (List Int)) (a2 : Int) (v1 : Value) (g0 g1 g2 : Nat) : (Int × Int) → Value → IM → HL → Prop :=
  fun (p_ : (Int × Int)) (v : Value) (M' : IM) (H' : HL) => match p_ with | (r0, r1) => (.tuple #[]) = v ∧ H' = [[(g0, .cells #[(.int .u64 r0)] 93 (0, 0))], [(g1, .cells #[v1] 28 (0, 0))], [(g2, .cells #[(.int .i64 r1)] 3 (0, 0))]]
theorem f_wire_Reader_Num_1_ok (a0 : Int) (a1 : (List Int)) (a2 : Int) (M : IM) (v1 : Value) (g0 g1 g2 : Nat) (h1 : RS (Kd.int .u8) M v1 a1) (res : (Int × Int)) (h : f_wire_Reader_Num_1 a0 a1 a2 = some res) :
    Tri Tryd.prog 79 #[(pt g0 0), (pt g1 0), (pt g2 0)] M [[(g0, .cells #[(.int .u64 a0)] 93 (0, 0))], [(g1, .cells #[v1] 28 (0, 0))], [(g2, .cells #[(.int .i64 a2)] 3 (0, 0))]] (f_wire_Reader_Num_1_post a0 a1 a2 v1 g0 g1 g2 res) := by
 unfold f_wire_Reader_Num_1 at h
 refine Tri.enter (fn := Tryd.f79) Tryd.func79 rfl (Nat.le_of_ble_eq_true rfl) ?_
 intro F ρ hρ
 refine WC.seq ?_
 refine WC.draw [0, 1, 0, 0, 12, 28, 60, 127, 255] (.pure 0 (.pure 1 (.pure 2 (.pure 3 (.pure 4 (.pure 5 (.pure 6 (.pure 7 (.alt 8 .done .none))))))))) mixed (by kernel_rfl) ?_
 refine Tp (.int .u64 a0) rfl (PO.loadB 0 pl93 (hρ 0) rfl rfl) rfl ?_
 refine Tp (.int .u64 (shlI .u64 a0 (8 : Int))) rfl (PO.shl rfl rfl (by decide)) rfl ?_
 refine Tp v1 rfl (PO.loadB 1 pl28 (hρ 1) rfl rfl) rfl ?_
 refine Tp (.int .i64 a2) rfl (PO.loadB 2 pl3 (hρ 2) rfl rfl) rfl ?_
 obtain ⟨hg21, h⟩ := grd_i h
 obtain ⟨p22, cs23, hat24, hrc25, hhas26⟩ := h1.at hg21.1 hg21.2 (by decide)
 obtain rfl := hrc25
 refine Tp (.pointer (some p22)) rfl (PO.indexAddr (n := a1.length) Tryd.underlying28 sz5 rfl rfl hg21.1 hg21.2 hat24) rfl ?_
 refine Tp (.int .u8 (rd a1 a2)) rfl (PO.loadM pl5 rfl (IM.has0 hhas26)) rfl ?_
 refine Tp (.int .u64 (IntKind.u64.wrap (rd a1 a2))) rfl (PO.conv us5 Tryd.underlying93 rfl) rfl ?_
 refine Tp (.int .u64 (orI .u64 (shlI .u64 a0 (8 : Int)) (IntKind.u64.wrap (rd a1 a2)))) rfl (PO.or rfl rfl) rfl ?_
 refine WT.alt rfl (EO.storeL (v := (.int .u64 (orI .u64 (shlI .u64 a0 (8 : Int)) (IntKind.u64.wrap (rd a1 a2))))) (vl := [(.int .u64 (orI .u64 (shlI .u64 a0 (8 : Int)) (IntKind.u64.wrap (rd a1 a2))))]) (arr' := [(.int .u64 (orI .u64 (shlI .u64 a0 (8 : Int)) (IntKind.u64.wrap (rd a1 a2))))]) rfl sz93 (hρ 0) rfl (onesOf (Ones.cons rfl Ones.nil)) rfl rfl rfl) rfl ?_ ?_
 rintro _ _ _ - ⟨rfl, rfl⟩
 refine ⟨(StabL.anc rfl (StabL.anc rfl (StabL.anc rfl (StabL.anc rfl (StabL.anc rfl (StabL.anc rfl (StabL.anc rfl (StabL.anc rfl trivial)))))))), ?_⟩
 refine WT.fin ?_
 refine WQ.thenC ?_
 refine WC.region ?_
 refine Pu (.int .i64 a2) (PO.loadB 2 pl3 (hρ 2) rfl rfl) rfl ?_
 refine Pu (.int .i64 (IntKind.i64.wrap (a2 + 1))) (PO.add rfl rfl) rfl ?_
 refine WL.f2 ?_
 refine WL.eff (EO.storeL (v := (.int .i64 (IntKind.i64.wrap (a2 + 1)))) (vl := [(.int .i64 (IntKind.i64.wrap (a2 + 1)))]) (arr' := [(.int .i64 (IntKind.i64.wrap (a2 + 1)))]) rfl sz3 (hρ 2) rfl (onesOf (Ones.cons rfl Ones.nil)) rfl rfl rfl) rfl ?_
 rintro _ _ _ - ⟨rfl, rfl⟩
 refine WL.nil ?_
 refine WQ.f2 ?_
 refine WQ.f2 ?_
 exact WQ.endsF h [[(g0, .cells #[(.int .u64 (orI .u64 (shlI .u64 a0 (8 : Int)) (IntKind.u64.wrap (rd a1 a2))))] 93 (0, 0))], [(g1, .cells #[v1] 28 (0, 0))], [(g2, .cells #[(.int .i64 (IntKind.i64.wrap (a2 + 1)))] 3 (0, 0))]] rfl (results0 rfl) (IM.le.refl _) ⟨rfl, rfl⟩
 exact WT.no

noncomputable def f_wire_Reader_Num (a0 : T_wire_Reader) (a1 : Int) : Option (Int × Int × GErr) :=
  (if (!a0.err.isNil) = true then (some ((0 : Int), a0.at_, a0.err)) else (grd (0 ≤ a0.at_ ∧ a0.at_ ≤ (a0.b.length : Int) ∧ (a0.b.length : Int) ≤ (a0.b.length : Int)) (if (decide (((sub a0.b a0.at_ (a0.b.length : Int)).length : Int) = (0 : Int))) = true then ((f_wire_Reader_fail a0 (⟨#[110, 117, 109]⟩ : ByteArray) a0.at_ (3 : Int)).bind fun (r26 : GErr) => (some ((0 : Int), a0.at_, r26))) else (grd (0 ≤ (0 : Int) ∧ (0 : Int) < (sub a0.b a0.at_ (a0.b.length : Int)).length) (grd (0 ≤ shrI .u8 (rd (sub a0.b a0.at_ (a0.b.length : Int)) (0 : Int)) (6 : Int)) (if (decide (((sub a0.b a0.at_ (a0.b.length : Int)).length : Int) < (shlI .i64 (1 : Int) (shrI .u8 (rd (sub a0.b a0.at_ (a0.b.length : Int)) (0 : Int)) (6 : Int))))) = true then ((f_wire_Reader_fail a0 (⟨#[110, 117, 109]⟩ : ByteArray) a0.at_ (3 : Int)).bind fun (r39 : GErr) => (some ((0 : Int), a0.at_, r39))) else (grd (0 ≤ (0 : Int) ∧ (0 : Int) < (sub a0.b a0.at_ (a0.b.length : Int)).length) (((((((if (decide ((shlI .i64 (1 : Int) (shrI .u8 (rd (sub a0.b a0.at_ (a0.b.length : Int)) (0 : Int)) (6 : Int))) = (8 : Int))) = true then ((f_wire_Reader_Num_1 (IntKind.u64.wrap (andI .u8 (rd (sub a0.b a0.at_ (a0.b.length : Int)) (0 : Int)) (63 : Int))) (sub a0.b a0.at_ (a0.b.length : Int)) (1 : Int)).bind fun (r65, r66) => ((f_wire_Reader_Num_1 r65 (sub a0.b a0.at_ (a0.b.length : Int)) r66).bind fun (r70, r71) => ((f_wire_Reader_Num_1 r70 (sub a0.b a0.at_ (a0.b.length : Int)) r71).bind fun (r75, r76) => ((f_wire_Reader_Num_1 r75 (sub a0.b a0.at_ (a0.b.length : Int)) r76).bind fun (r80, r81) => (some (Sum.inl (IntKind.u64.wrap ((0 : Int) + (1073725440 : Int)), r81, r80))))))) else (if (decide ((shlI .i64 (1 : Int) (shrI .u8 (rd (sub a0.b a0.at_ (a0.b.length : Int)) (0 : Int)) (6 : Int))) = (4 : Int))) = true then (some (Sum.inl ((0 : Int), (1 : Int), IntKind.u64.wrap (andI .u8 (rd (sub a0.b a0.at_ (a0.b.length : Int)) (0 : Int)) (63 : Int))))) else (if (decide ((shlI .i64 (1 : Int) (shrI .u8 (rd (sub a0.b a0.at_ (a0.b.length : Int)) (0 : Int)) (6 : Int))) = (2 : Int))) = true then (((some (Sum.inl ((0 : Int), (1 : Int), IntKind.u64.wrap (andI .u8 (rd (sub a0.b a0.at_ (a0.b.length : Int)) (0 : Int)) (63 : Int)))))).bind fun r => some (Sum.inr r)) else (((((some ((0 : Int), (1 : Int), IntKind.u64.wrap (andI .u8 (rd (sub a0.b a0.at_ (a0.b.length : Int)) (0 : Int)) (63 : Int))))).bind fun r => some (Sum.inr r))).bind fun r => some (Sum.inr r))))) : Option ((Int × Int × Int) ⊕ ((Int × Int × Int) ⊕ (Int × Int × Int)))).bind (Sum.elim (fun (x60, x61, x62) => ((f_wire_Reader_Num_1 x62 (sub a0.b a0.at_ (a0.b.length : Int)) x61).bind fun (r87, r88) => ((f_wire_Reader_Num_1 r87 (sub a0.b a0.at_ (a0.b.length : Int)) r88).bind fun (r92, r93) => (some (Sum.inl (IntKind.u64.wrap (x60 + (16320 : Int)), r93, r92)))))) some)) : Option ((Int × Int × Int) ⊕ (Int × Int × Int))).bind (Sum.elim (fun (x56, x57, x58) => ((f_wire_Reader_Num_1 x58 (sub a0.b a0.at_ (a0.b.length : Int)) x57).bind fun (r97, r98) => (some (IntKind.u64.wrap (x56 + (64 : Int)), r98, r97)))) some)) : Option (Int × Int × Int)).bind fun (x52, x53, x54) => (if (decide (x54 < x52)) = true then ((f_wire_Reader_fail a0 (⟨#[110, 117, 109]⟩ : ByteArray) a0.at_ (5 : Int)).bind fun (r103 : GErr) => (some ((0 : Int), a0.at_, r103))) else (if (decide (a1 < x54)) = true then ((f_wire_Reader_fail a0 (⟨#[110, 117, 109]⟩ : ByteArray) a0.at_ (6 : Int)).bind fun (r108 : GErr) => (some ((0 : Int), a0.at_, r108))) else (some (x54, IntKind.i64.wrap (a0.at_ + (shlI .i64 (1 : Int) (shrI .u8 (rd (sub a0.b a0.at_ (a0.b.length : Int)) (0 : Int)) (6 : Int)))), a0.err))))))))))))
def f_wire_Reader_Num_post (a0 : T_wire_Reader) (a1 : Int) (v0_0 : Value) (g0 : Nat) : (Int × Int × GErr) → Value → IM → HL → Prop :=
  fun (p_ : (Int × Int × GErr)) (v : Value) (M' : IM) (H' : HL) => match p_ with | (r0, r1, r2) => (.int .u64 r0) = v ∧ H' = [[(g0, .cells #[v0_0, (.int .i64 r1), (GV r2)] 63 (0, 0))]]
theorem f_wire_Reader_Num_ok (a0 : T_wire_Reader) (a1 : Int) (M : IM) (v0_0 : Value) (g0 : Nat) (h0_0 : RS (Kd.int .u8) M v0_0 a0.b) (res : (Int × Int × GErr)) (h : f_wire_Reader_Num a0 a1 = some res) :
    Tri Tryd.prog 68 #[(pt g0 0), (.int .u64 a1)] M [[(g0, .cells #[v0_0, (.int .i64 a0.at_), (GV a0.err)] 63 (0, 0))]] (f_wire_Reader_Num_post a0 a1 v0_0 g0 res) := by
 unfold f_wire_Reader_Num at h
 refine Tri.enter (fn := Tryd.f68) Tryd.func68 rfl (Nat.le_of_ble_eq_true rfl) ?_
 intro F ρ hρ
 refine Sr ?_
 refine Pa (.int .u64 0) rfl rfl ?_
 refine Nt ?_
 refine WC.seq ?_
 refine Sr ?_
 refine Pm (pt g0 0) (hρ 0) rfl ?_
 refine Pu (pt g0 0) (PO.nilCheck rfl) rfl ?_
 refine Pu (pt g0 2) (PO.fieldAddr fo63_2 rfl rfl) rfl ?_
 refine Pu (GV a0.err) (PO.loadB 0 pl30 rfl rfl rfl) rfl ?_
 refine Pu (.bool (!a0.err.isNil)) (PO.errNotNil Tryd.underlying30 rfl) rfl ?_
 refine Nt ?_
 refine WC.cond (b := !a0.err.isNil) rfl (fun hb21 => ?_) (fun hb21 => ?_)
 have h := ite_t hb21 h
 refine Sr ?_
 refine Pa (.int .u64 0) rfl rfl ?_
 refine Nt ?_
 refine WC.ret ?_
 refine WQ.thenR ?_
 exact WQ.returnsF h [[(g0, .cells #[v0_0, (.int .i64 a0.at_), (GV a0.err)] 63 (0, 0))]] rfl (results1 rfl rfl) (IM.le.refl _) ⟨rfl, rfl⟩
 have h := ite_f hb21 h
 refine WC.skip ?_
 refine WQ.thenC ?_
 refine WC.seq ?_
 refine WC.draw [0, 1, 3, 7, 0, 16, 48, 112, 255, 0, 1023] (.pure 0 (.pure 1 (.pure 2 (.pure 3 (.pure 4 (.pure 5 (.pure 6 (.pure 7 (.pure 8 (.alt 9 (.alt 10 .done .none) .none)))))))))) mixed (by kernel_rfl) ?_
 refine Tp (pt g0 0) rfl (PO.move (hρ 0)) rfl ?_
 refine Tp (pt g0 0) rfl (PO.nilCheck rfl) rfl ?_
 refine Tp (pt g0 0) rfl (PO.fieldAddr fo63_0 rfl rfl) rfl ?_
 refine Tp v0_0 rfl (PO.loadB 0 pl28 rfl rfl rfl) rfl ?_
 refine Tp (pt g0 0) rfl (PO.move (hρ 0)) rfl ?_
 refine Tp (pt g0 0) rfl (PO.nilCheck rfl) rfl ?_
 refine Tp (pt g0 1) rfl (PO.fieldAddr fo63_1 rfl rfl) rfl ?_
 refine Tp (.int .i64 a0.at_) rfl (PO.loadB 0 pl3 rfl rfl rfl) rfl ?_
 obtain ⟨hg22, h⟩ := grd_i h
 have h23 := h0_0.sub hg22.1 hg22.2.1 hg22.2.2
 refine Tp (slV v0_0 1 (a0.at_).toNat ((a0.b.length : Int)).toNat) rfl (PO.slice (n := a0.b.length) (l := (a0.at_).toNat) (h := ((a0.b.length : Int)).toNat) Tryd.underlying28 sz5 rfl h0_0.len h0_0.cap ⟨_, _, rfl, hg22.1, rfl⟩ (boundN_ rfl) (Int.toNat_le_toNat hg22.2.1) (toNat_le_len hg22.2.2)) rfl ?_
 refine WT.alt rfl (EO.alloc ze28 rfl) rfl ?_ ?_
 rintro _ _ _ - ⟨rfl, g24, rfl, rfl⟩
 refine ⟨(StabL.st (StabA.of rfl (PO.slice (n := a0.b.length) (l := (a0.at_).toNat) (h := ((a0.b.length : Int)).toNat) Tryd.underlying28 sz5 rfl h0_0.len h0_0.cap ⟨_, _, rfl, hg22.1, rfl⟩ (boundN_ rfl) (Int.toNat_le_toNat hg22.2.1) (toNat_le_len hg22.2.2)) rfl) (StabL.st (StabA.of rfl (PO.loadB 1 pl3 rfl rfl rfl) rfl) (StabL.st (StabA.of rfl (PO.fieldAddr fo63_1 rfl rfl) rfl) (StabL.st (StabA.of rfl (PO.nilCheck rfl) rfl) (StabL.st (StabA.of rfl (PO.move (hρ 0)) rfl) (StabL.st (StabA.of rfl (PO.loadB 1 pl28 rfl rfl rfl) rfl) (StabL.st (StabA.of rfl (PO.fieldAddr fo63_0 rfl rfl) rfl) (StabL.st (StabA.of rfl (PO.nilCheck rfl) rfl) (StabL.st (StabA.of rfl (PO.move (hρ 0)) rfl) trivial))))))))), ?_⟩
 refine WT.alt rfl (EO.storeL (v := (slV v0_0 1 (a0.at_).toNat ((a0.b.length : Int)).toNat)) (vl := [(slV v0_0 1 (a0.at_).toNat ((a0.b.length : Int)).toNat)]) (arr' := [(slV v0_0 1 (a0.at_).toNat ((a0.b.length : Int)).toNat)]) h23.cells sz28 rfl rfl (onesOf (Ones.cons (RS.one h23) Ones.nil)) rfl rfl rfl) rfl ?_ ?_
 rintro _ _ _ - ⟨rfl, rfl⟩
 refine ⟨(StabL.anc rfl (StabL.anc rfl (StabL.anc rfl (StabL.anc rfl (StabL.anc rfl (StabL.anc rfl (StabL.anc rfl (StabL.anc rfl (StabL.anc rfl trivial))))))))), ?_⟩
 refine WT.fin ?_
 refine WQ.thenC ?_
 refine WC.seq ?_
 refine Sr ?_
 refine Pu (slV v0_0 1 (a0.at_).toNat ((a0.b.length : Int)).toNat) (PO.loadB 0 pl28 rfl rfl rfl) rfl ?_
 refine Pu (.int .i64 ((sub a0.b a0.at_ (a0.b.length : Int)).length : Int)) (PO.lenS Tryd.underlying28 rfl h23.len) rfl ?_
 refine Pu (.bool (decide (((sub a0.b a0.at_ (a0.b.length : Int)).length : Int) = (0 : Int)))) (PO.eql rfl rfl) rfl ?_
 refine Nt ?_
 refine WC.cond (b := decide (((sub a0.b a0.at_ (a0.b.length : Int)).length : Int) = (0 : Int))) rfl (fun hb25 => ?_) (fun hb25 => ?_)
 have h := ite_t hb25 h
 refine Sr ?_
 refine Pm (pt g0 0) (hρ 0) rfl ?_
 refine Pm (pt g0 0) (hρ 0) rfl ?_
 refine Pu (pt g0 0) (PO.nilCheck rfl) rfl ?_
 refine Pu (pt g0 1) (PO.fieldAddr fo63_1 rfl rfl) rfl ?_
 refine Pu (.int .i64 a0.at_) (PO.loadB 1 pl3 rfl rfl rfl) rfl ?_
 obtain ⟨r26, hr27, h⟩ := bnd h
 refine WL.f1 ?_
 refine WL.eff (EO.call1 co46 (f_wire_Reader_fail_ok a0 (⟨#[110, 117, 109]⟩ : ByteArray) a0.at_ (3 : Int) _ _ _ h0_0 r26 hr27) (args4 rfl rfl rfl rfl)) rfl ?_
 rintro _ M28 _ hle29 ⟨_, ⟨rfl, rfl⟩, rfl⟩
 have h0_0 := h0_0.mono hle29
 have h23 := h23.mono hle29
 refine WL.a1 ?_
 refine Ns ?_
 refine Pa (.int .u64 0) rfl rfl ?_
 refine Nt ?_
 refine WC.ret ?_
 refine WQ.thenR ?_
 refine WQ.f1 ?_
 refine WQ.drop ?_
 exact WQ.returnsF h [[(g0, .cells #[v0_0, (.int .i64 a0.at_), (GV r26)] 63 (0, 0))]] rfl (results1 rfl rfl) hle29 ⟨rfl, rfl⟩
 have h := ite_f hb25 h
 refine WC.skip ?_
 refine WQ.thenC ?_
 refine Sr ?_
 refine Pu (slV v0_0 1 (a0.at_).toNat ((a0.b.length : Int)).toNat) (PO.loadB 0 pl28 rfl rfl rfl) rfl ?_
 obtain ⟨hg30, h⟩ := grd_i h
 obtain ⟨p31, cs32, hat33, hrc34, hhas35⟩ := h23.at hg30.1 hg30.2 (by decide)
 obtain rfl := hrc34
 refine Pu (.pointer (some p31)) (PO.indexAddr (n := (sub a0.b a0.at_ (a0.b.length : Int)).length) Tryd.underlying28 sz5 rfl rfl hg30.1 hg30.2 hat33) rfl ?_
 refine Pu (.int .u8 (rd (sub a0.b a0.at_ (a0.b.length : Int)) (0 : Int))) (PO.loadM pl5 rfl (IM.has0 hhas35)) rfl ?_
 refine Pu (.int .u8 (shrI .u8 (rd (sub a0.b a0.at_ (a0.b.length : Int)) (0 : Int)) (6 : Int))) (PO.shr rfl rfl (by decide)) rfl ?_
 obtain ⟨hg37, h⟩ := grd_i h
 refine Pu (.int .i64 (shlI .i64 (1 : Int) (shrI .u8 (rd (sub a0.b a0.at_ (a0.b.length : Int)) (0 : Int)) (6 : Int)))) (PO.shl rfl rfl hg37) rfl ?_
 refine Pa (.int .i64 (shlI .i64 (1 : Int) (shrI .u8 (rd (sub a0.b a0.at_ (a0.b.length : Int)) (0 : Int)) (6 : Int)))) rfl rfl ?_
 refine Nt ?_
 refine WC.seq ?_
 refine Sr ?_
 refine Pu (slV v0_0 1 (a0.at_).toNat ((a0.b.length : Int)).toNat) (PO.loadB 0 pl28 rfl rfl rfl) rfl ?_
 refine Pu (.int .i64 ((sub a0.b a0.at_ (a0.b.length : Int)).length : Int)) (PO.lenS Tryd.underlying28 rfl h23.len) rfl ?_
 refine Pm (.int .i64 (shlI .i64 (1 : Int) (shrI .u8 (rd (sub a0.b a0.at_ (a0.b.length : Int)) (0 : Int)) (6 : Int)))) rfl rfl ?_
 refine Pu (.bool (decide (((sub a0.b a0.at_ (a0.b.length : Int)).length : Int) < (shlI .i64 (1 : Int) (shrI .u8 (rd (sub a0.b a0.at_ (a0.b.length : Int)) (0 : Int)) (6 : Int)))))) (PO.lss rfl rfl) rfl ?_
 refine Nt ?_
 refine WC.cond (b := decide (((sub a0.b a0.at_ (a0.b.length : Int)).length : Int) < (shlI .i64 (1 : Int) (shrI .u8 (rd (sub a0.b a0.at_ (a0.b.length : Int)) (0 : Int)) (6 : Int))))) rfl (fun hb38 => ?_) (fun hb38 => ?_)
 have h := ite_t hb38 h
 refine Sr ?_
 refine Pm (pt g0 0) (hρ 0) rfl ?_
 refine Pm (pt g0 0) (hρ 0) rfl ?_
 refine Pu (pt g0 0) (PO.nilCheck rfl) rfl ?_
 refine Pu (pt g0 1) (PO.fieldAddr fo63_1 rfl rfl) rfl ?_
 refine Pu (.int .i64 a0.at_) (PO.loadB 1 pl3 rfl rfl rfl) rfl ?_
 obtain ⟨r39, hr40, h⟩ := bnd h
 refine WL.f1 ?_
 refine WL.eff (EO.call1 co46 (f_wire_Reader_fail_ok a0 (⟨#[110, 117, 109]⟩ : ByteArray) a0.at_ (3 : Int) _ _ _ h0_0 r39 hr40) (args4 rfl rfl rfl rfl)) rfl ?_
 rintro _ M41 _ hle42 ⟨_, ⟨rfl, rfl⟩, rfl⟩
 have h0_0 := h0_0.mono hle42
 have h23 := h23.mono hle42
 refine WL.a1 ?_
 refine Ns ?_
 refine Pa (.int .u64 0) rfl rfl ?_
 refine Nt ?_
 refine WC.ret ?_
 refine WQ.thenR ?_
 refine WQ.f1 ?_
 refine WQ.drop ?_
 exact WQ.returnsF h [[(g0, .cells #[v0_0, (.int .i64 a0.at_), (GV r39)] 63 (0, 0))]] rfl (results1 rfl rfl) hle42 ⟨rfl, rfl⟩
 have h := ite_f hb38 h
 refine WC.skip ?_
 refine WQ.thenC ?_
 refine Sr ?_
 refine Pu (slV v0_0 1 (a0.at_).toNat ((a0.b.length : Int)).toNat) (PO.loadB 0 pl28 rfl rfl rfl) rfl ?_
 obtain ⟨hg43, h⟩ := grd_i h
 obtain ⟨p44, cs45, hat46, hrc47, hhas48⟩ := h23.at hg43.1 hg43.2 (by decide)
 obtain rfl := hrc47
 refine Pu (.pointer (some p44)) (PO.indexAddr (n := (sub a0.b a0.at_ (a0.b.length : Int)).length) Tryd.underlying28 sz5 rfl rfl hg43.1 hg43.2 hat46) rfl ?_
 refine Pu (.int .u8 (rd (sub a0.b a0.at_ (a0.b.length : Int)) (0 : Int))) (PO.loadM pl5 rfl (IM.has0 hhas48)) rfl ?_
 refine Pu (.int .u8 (andI .u8 (rd (sub a0.b a0.at_ (a0.b.length : Int)) (0 : Int)) (63 : Int))) (PO.and rfl rfl) rfl ?_
 refine Pu (.int .u64 (IntKind.u64.wrap (andI .u8 (rd (sub a0.b a0.at_ (a0.b.length : Int)) (0 : Int)) (63 : Int)))) (PO.conv us5 Tryd.underlying93 rfl) rfl ?_
 refine WL.eff (EO.alloc ze93 rfl) rfl ?_
 rintro _ _ _ - ⟨rfl, g50, rfl, rfl⟩
 refine WL.eff (EO.alloc ze3 rfl) rfl ?_
 rintro _ _ _ - ⟨rfl, g51, rfl, rfl⟩
 refine WL.f1 ?_
 refine WL.eff (EO.storeL (v := (.int .u64 (IntKind.u64.wrap (andI .u8 (rd (sub a0.b a0.at_ (a0.b.length : Int)) (0 : Int)) (63 : Int))))) (vl := [(.int .u64 (IntKind.u64.wrap (andI .u8 (rd (sub a0.b a0.at_ (a0.b.length : Int)) (0 : Int)) (63 : Int))))]) (arr' := [(.int .u64 (IntKind.u64.wrap (andI .u8 (rd (sub a0.b a0.at_ (a0.b.length : Int)) (0 : Int)) (63 : Int))))]) rfl sz93 rfl rfl (onesOf (Ones.cons rfl Ones.nil)) rfl rfl rfl) rfl ?_
 rintro _ _ _ - ⟨rfl, rfl⟩
 refine WL.f1 ?_
 refine WL.eff (EO.storeL (v := (.int .i64 1)) (vl := [(.int .i64 1)]) (arr' := [(.int .i64 1)]) rfl sz3 rfl rfl (onesOf (Ones.cons rfl Ones.nil)) rfl rfl rfl) rfl ?_
 rintro _ _ _ - ⟨rfl, rfl⟩
 refine Ns ?_
 refine Pu (.func (.func 79) #[] #[(pt g50 0), (pt g24 0), (pt g51 0)]) (PO.makeFunc2 (args0) (args3 (show ev _ _ = (pt g50 0) from rfl) (show ev _ _ = (pt g24 0) from rfl) (show ev _ _ = (pt g51 0) from rfl))) rfl ?_
 refine Pa (.func (.func 79) #[] #[(pt g50 0), (pt g24 0), (pt g51 0)]) rfl rfl ?_
 refine Ns ?_
 refine Pa (.int .u64 0) rfl rfl ?_
 refine Nt ?_
 obtain ⟨j55, hj55, h⟩ := bnd h
 refine WC.joinF (fun (p_ : (Int × Int × Int)) ρ' M' H' => match p_ with | (x52, x53, x54) => M.le M' ∧ [(g51, .cells #[(.int .i64 x53)] 3 (0, 0))] :: [(g50, .cells #[(.int .u64 x54)] 93 (0, 0))] :: [(g24, .cells #[(slV v0_0 1 (a0.at_).toNat ((a0.b.length : Int)).toNat)] 28 (0, 0))] :: [(g0, .cells #[v0_0, (.int .i64 a0.at_), (GV a0.err)] 63 (0, 0))] :: F = H' ∧ ρ' 0 = (pt g0 0) ∧ ρ' 1 = (.int .u64 a1) ∧ ρ' 6 = (.int .i64 (shlI .i64 (1 : Int) (shrI .u8 (rd (sub a0.b a0.at_ (a0.b.length : Int)) (0 : Int)) (6 : Int)))) ∧ ρ' 7 = (pt g50 0) ∧ ρ' 10 = (.int .u64 x52)) j55 ?_ ?_
 have h355 := h
 have h := hj55
 refine Sr ?_
 refine Pm (.int .i64 (shlI .i64 (1 : Int) (shrI .u8 (rd (sub a0.b a0.at_ (a0.b.length : Int)) (0 : Int)) (6 : Int)))) rfl rfl ?_
 refine Nt ?_
 refine WC.block ?_
 obtain ⟨j59, hj59, h⟩ := bnd h
 refine WC.joinE (fun (p_ : (Int × Int × Int)) ρ' M' H' => match p_ with | (x56, x57, x58) => M.le M' ∧ [(g51, .cells #[(.int .i64 x57)] 3 (0, 0))] :: [(g50, .cells #[(.int .u64 x58)] 93 (0, 0))] :: [(g24, .cells #[(slV v0_0 1 (a0.at_).toNat ((a0.b.length : Int)).toNat)] 28 (0, 0))] :: [(g0, .cells #[v0_0, (.int .i64 a0.at_), (GV a0.err)] 63 (0, 0))] :: F = H' ∧ ρ' 0 = (pt g0 0) ∧ ρ' 1 = (.int .u64 a1) ∧ ρ' 6 = (.int .i64 (shlI .i64 (1 : Int) (shrI .u8 (rd (sub a0.b a0.at_ (a0.b.length : Int)) (0 : Int)) (6 : Int)))) ∧ ρ' 7 = (pt g50 0) ∧ ρ' 9 = (.func (.func 79) #[] #[(pt g50 0), (pt g24 0), (pt g51 0)]) ∧ ρ' 10 = (.int .u64 x56)) j59 ?_ ?_
 have h359 := h
 have h := hj59
 refine WC.block ?_
 obtain ⟨j63, hj63, h⟩ := bnd h
 refine WC.joinE (fun (p_ : (Int × Int × Int)) ρ' M' H' => match p_ with | (x60, x61, x62) => M.le M' ∧ [(g51, .cells #[(.int .i64 x61)] 3 (0, 0))] :: [(g50, .cells #[(.int .u64 x62)] 93 (0, 0))] :: [(g24, .cells #[(slV v0_0 1 (a0.at_).toNat ((a0.b.length : Int)).toNat)] 28 (0, 0))] :: [(g0, .cells #[v0_0, (.int .i64 a0.at_), (GV a0.err)] 63 (0, 0))] :: F = H' ∧ ρ' 0 = (pt g0 0) ∧ ρ' 1 = (.int .u64 a1) ∧ ρ' 6 = (.int .i64 (shlI .i64 (1 : Int) (shrI .u8 (rd (sub a0.b a0.at_ (a0.b.length : Int)) (0 : Int)) (6 : Int)))) ∧ ρ' 7 = (pt g50 0) ∧ ρ' 9 = (.func (.func 79) #[] #[(pt g50 0), (pt g24 0), (pt g51 0)]) ∧ ρ' 10 = (.int .u64 x60)) j63 ?_ ?_
 have h363 := h
 have h := hj63
 refine WC.block ?_
 refine WC.seq ?_
 refine WC.block ?_
 refine WC.seq ?_
 refine WC.seq ?_
 refine Sr ?_
 refine Pu (.bool (decide ((shlI .i64 (1 : Int) (shrI .u8 (rd (sub a0.b a0.at_ (a0.b.length : Int)) (0 : Int)) (6 : Int))) = 8))) (PO.eql rfl rfl) rfl ?_
 refine Pa (.bool (decide ((shlI .i64 (1 : Int) (shrI .u8 (rd (sub a0.b a0.at_ (a0.b.length : Int)) (0 : Int)) (6 : Int))) = 8))) rfl rfl ?_
 refine Nt ?_
 refine WC.cond (b := decide ((shlI .i64 (1 : Int) (shrI .u8 (rd (sub a0.b a0.at_ (a0.b.length : Int)) (0 : Int)) (6 : Int))) = 8)) rfl (fun hb64 => ?_) (fun hb64 => ?_)
 have h := ite_t hb64 h
 refine WC.exit ?_
 refine WQ.thenE ?_
 refine WQ.thenE ?_
 refine WQ.blockH ?_
 refine WQ.thenC ?_
 refine Sr ?_
 refine Pm (.func (.func 79) #[] #[(pt g50 0), (pt g24 0), (pt g51 0)]) rfl rfl ?_
 obtain ⟨⟨r65, r66⟩, hr67, h⟩ := bnd h
 refine WL.f2 ?_
 refine WL.f2 ?_
 refine WL.eff (EO.callV3 (first := #[]) (cap := #[(pt g50 0), (pt g24 0), (pt g51 0)]) co79 rfl (f_wire_Reader_Num_1_ok (IntKind.u64.wrap (andI .u8 (rd (sub a0.b a0.at_ (a0.b.length : Int)) (0 : Int)) (63 : Int))) (sub a0.b a0.at_ (a0.b.length : Int)) (1 : Int) _ _ _ _ _ h23 (r65, r66) hr67) (argsV0 rfl)) rfl ?_
 rintro _ M68 _ hle69 ⟨_, ⟨rfl, rfl⟩, rfl⟩
 have h0_0 := h0_0.mono hle69
 have h23 := h23.mono hle69
 refine WL.a3 ?_
 refine Ns ?_
 refine Pm (.func (.func 79) #[] #[(pt g50 0), (pt g24 0), (pt g51 0)]) rfl rfl ?_
 obtain ⟨⟨r70, r71⟩, hr72, h⟩ := bnd h
 refine WL.f2 ?_
 refine WL.f2 ?_
 refine WL.f2 ?_
 refine WL.eff (EO.callV3 (first := #[]) (cap := #[(pt g50 0), (pt g24 0), (pt g51 0)]) co79 rfl (f_wire_Reader_Num_1_ok r65 (sub a0.b a0.at_ (a0.b.length : Int)) r66 _ _ _ _ _ h23 (r70, r71) hr72) (argsV0 rfl)) rfl ?_
 rintro _ M73 _ hle74 ⟨_, ⟨rfl, rfl⟩, rfl⟩
 have h0_0 := h0_0.mono hle74
 have h23 := h23.mono hle74
 refine WL.a3 ?_
 refine Ns ?_
 refine Pm (.func (.func 79) #[] #[(pt g50 0), (pt g24 0), (pt g51 0)]) rfl rfl ?_
 obtain ⟨⟨r75, r76⟩, hr77, h⟩ := bnd h
 refine WL.f2 ?_
 refine WL.f2 ?_
 refine WL.f2 ?_
 refine WL.eff (EO.callV3 (first := #[]) (cap := #[(pt g50 0), (pt g24 0), (pt g51 0)]) co79 rfl (f_wire_Reader_Num_1_ok r70 (sub a0.b a0.at_ (a0.b.length : Int)) r71 _ _ _ _ _ h23 (r75, r76) hr77) (argsV0 rfl)) rfl ?_
 rintro _ M78 _ hle79 ⟨_, ⟨rfl, rfl⟩, rfl⟩
 have h0_0 := h0_0.mono hle79
 have h23 := h23.mono hle79
 refine WL.a3 ?_
 refine Ns ?_
 refine Pm (.func (.func 79) #[] #[(pt g50 0), (pt g24 0), (pt g51 0)]) rfl rfl ?_
 obtain ⟨⟨r80, r81⟩, hr82, h⟩ := bnd h
 refine WL.f2 ?_
 refine WL.f2 ?_
 refine WL.f2 ?_
 refine WL.eff (EO.callV3 (first := #[]) (cap := #[(pt g50 0), (pt g24 0), (pt g51 0)]) co79 rfl (f_wire_Reader_Num_1_ok r75 (sub a0.b a0.at_ (a0.b.length : Int)) r76 _ _ _ _ _ h23 (r80, r81) hr82) (argsV0 rfl)) rfl ?_
 rintro _ M83 _ hle84 ⟨_, ⟨rfl, rfl⟩, rfl⟩
 have h0_0 := h0_0.mono hle84
 have h23 := h23.mono hle84
 refine WL.a3 ?_
 refine Nt ?_
 refine WC.region ?_
 refine Pm (.int .u64 0) rfl rfl ?_
 refine Pu (.int .u64 (IntKind.u64.wrap ((0 : Int) + (1073725440 : Int)))) (PO.add rfl rfl) rfl ?_
 refine Pa (.int .u64 (IntKind.u64.wrap ((0 : Int) + (1073725440 : Int)))) rfl rfl ?_
 refine WL.nil ?_
 refine WQ.blockN ?_
 refine WQ.f3 ?_
 refine WQ.f2 ?_
 refine WQ.f2 ?_
 refine WQ.f3 ?_
 refine WQ.thenFE h ?_
 exact ⟨(((hle69.trans hle74).trans hle79).trans hle84), rfl, (hρ 0), (hρ 1), rfl, rfl, rfl, rfl⟩
 have h := ite_f hb64 h
 refine WC.skip ?_
 refine WQ.thenC ?_
 refine WC.seq ?_
 refine Sr ?_
 refine Pu (.bool (decide ((shlI .i64 (1 : Int) (shrI .u8 (rd (sub a0.b a0.at_ (a0.b.length : Int)) (0 : Int)) (6 : Int))) = 4))) (PO.eql rfl rfl) rfl ?_
 refine Pa (.bool (decide ((shlI .i64 (1 : Int) (shrI .u8 (rd (sub a0.b a0.at_ (a0.b.length : Int)) (0 : Int)) (6 : Int))) = 4))) rfl rfl ?_
 refine Nt ?_
 refine WC.cond (b := decide ((shlI .i64 (1 : Int) (shrI .u8 (rd (sub a0.b a0.at_ (a0.b.length : Int)) (0 : Int)) (6 : Int))) = 4)) rfl (fun hb85 => ?_) (fun hb85 => ?_)
 have h := ite_t hb85 h
 refine WC.exit ?_
 refine WQ.thenE ?_
 refine WQ.thenE ?_
 refine WQ.blockM rfl ?_
 refine WQ.thenE ?_
 refine WQ.blockH ?_
 refine WQ.thenFE h ?_
 exact ⟨(IM.le.refl _), rfl, (hρ 0), (hρ 1), rfl, rfl, rfl, rfl⟩
 have h := ite_f hb85 h
 refine WC.skip ?_
 refine WQ.thenC ?_
 refine Sr ?_
 refine Pu (.bool (decide ((shlI .i64 (1 : Int) (shrI .u8 (rd (sub a0.b a0.at_ (a0.b.length : Int)) (0 : Int)) (6 : Int))) = 2))) (PO.eql rfl rfl) rfl ?_
 refine Pa (.bool (decide ((shlI .i64 (1 : Int) (shrI .u8 (rd (sub a0.b a0.at_ (a0.b.length : Int)) (0 : Int)) (6 : Int))) = 2))) rfl rfl ?_
 refine Nt ?_
 refine WC.cond (b := decide ((shlI .i64 (1 : Int) (shrI .u8 (rd (sub a0.b a0.at_ (a0.b.length : Int)) (0 : Int)) (6 : Int))) = 2)) rfl (fun hb86 => ?_) (fun hb86 => ?_)
 have h := ite_t hb86 h
 refine WC.exit ?_
 refine WQ.thenE ?_
 refine WQ.blockM rfl ?_
 refine WQ.thenE ?_
 refine WQ.blockM rfl ?_
 refine WQ.thenE ?_
 have h := KK.early h h363
 refine WQ.blockH ?_
 refine WQ.thenFE h ?_
 exact ⟨(IM.le.refl _), rfl, (hρ 0), (hρ 1), rfl, rfl, rfl, rfl⟩
 have h := ite_f hb86 h
 refine WC.skip ?_
 refine WQ.thenC ?_
 refine WC.exit ?_
 refine WQ.blockM rfl ?_
 refine WQ.thenE ?_
 refine WQ.blockM rfl ?_
 refine WQ.thenE ?_
 have h := KK.early h h363
 refine WQ.blockM rfl ?_
 refine WQ.thenE ?_
 have h := KK.early h h359
 refine WQ.blockH ?_
 obtain rfl := Option.some.inj h
 refine WQ.thenJ ?_
 exact ⟨(IM.le.refl _), rfl, (hρ 0), (hρ 1), rfl, rfl, rfl⟩
 rintro ⟨x60, x61, x62⟩ ρ63 M63 H63 rfl ⟨hle63, rfl, hs63_0, hs63_1, hs63_6, hs63_7, hs63_9, hs63_10⟩
 have h := (Sum.elim_inl _ _ _).symm.trans h
 have h23 := h23.mono hle63
 have h0_0 := h0_0.mono hle63
 refine Sr ?_
 refine Pm (.func (.func 79) #[] #[(pt g50 0), (pt g24 0), (pt g51 0)]) hs63_9 rfl ?_
 obtain ⟨⟨r87, r88⟩, hr89, h⟩ := bnd h
 refine WL.f2 ?_
 refine WL.f2 ?_
 refine WL.eff (EO.callV3 (first := #[]) (cap := #[(pt g50 0), (pt g24 0), (pt g51 0)]) co79 rfl (f_wire_Reader_Num_1_ok x62 (sub a0.b a0.at_ (a0.b.length : Int)) x61 _ _ _ _ _ h23 (r87, r88) hr89) (argsV0 rfl)) rfl ?_
 rintro _ M90 _ hle91 ⟨_, ⟨rfl, rfl⟩, rfl⟩
 have h23 := h23.mono hle91
 have h0_0 := h0_0.mono hle91
 refine WL.a3 ?_
 refine Ns ?_
 refine Pm (.func (.func 79) #[] #[(pt g50 0), (pt g24 0), (pt g51 0)]) hs63_9 rfl ?_
 obtain ⟨⟨r92, r93⟩, hr94, h⟩ := bnd h
 refine WL.f2 ?_
 refine WL.f2 ?_
 refine WL.f2 ?_
 refine WL.eff (EO.callV3 (first := #[]) (cap := #[(pt g50 0), (pt g24 0), (pt g51 0)]) co79 rfl (f_wire_Reader_Num_1_ok r87 (sub a0.b a0.at_ (a0.b.length : Int)) r88 _ _ _ _ _ h23 (r92, r93) hr94) (argsV0 rfl)) rfl ?_
 rintro _ M95 _ hle96 ⟨_, ⟨rfl, rfl⟩, rfl⟩
 have h23 := h23.mono hle96
 have h0_0 := h0_0.mono hle96
 refine WL.a3 ?_
 refine Nt ?_
 refine WC.region ?_
 refine Pm (.int .u64 x60) hs63_10 rfl ?_
 refine Pu (.int .u64 (IntKind.u64.wrap (x60 + 16320))) (PO.add rfl rfl) rfl ?_
 refine Pa (.int .u64 (IntKind.u64.wrap (x60 + 16320))) rfl rfl ?_
 refine WL.nil ?_
 refine WQ.blockN ?_
 refine WQ.f3 ?_
 refine WQ.f2 ?_
 refine WQ.f2 ?_
 refine WQ.f3 ?_
 refine WQ.thenFE h ?_
 exact ⟨((hle63.trans hle91).trans hle96), rfl, hs63_0, hs63_1, hs63_6, hs63_7, hs63_9, rfl⟩
 rintro ⟨x56, x57, x58⟩ ρ59 M59 H59 rfl ⟨hle59, rfl, hs59_0, hs59_1, hs59_6, hs59_7, hs59_9, hs59_10⟩
 have h := (Sum.elim_inl _ _ _).symm.trans h
 have h23 := h23.mono hle59
 have h0_0 := h0_0.mono hle59
 refine WC.seq ?_
 refine Sr ?_
 refine Pm (.func (.func 79) #[] #[(pt g50 0), (pt g24 0), (pt g51 0)]) hs59_9 rfl ?_
 obtain ⟨⟨r97, r98⟩, hr99, h⟩ := bnd h
 refine WL.f2 ?_
 refine WL.f2 ?_
 refine WL.eff (EO.callV3 (first := #[]) (cap := #[(pt g50 0), (pt g24 0), (pt g51 0)]) co79 rfl (f_wire_Reader_Num_1_ok x58 (sub a0.b a0.at_ (a0.b.length : Int)) x57 _ _ _ _ _ h23 (r97, r98) hr99) (argsV0 rfl)) rfl ?_
 rintro _ M100 _ hle101 ⟨_, ⟨rfl, rfl⟩, rfl⟩
 have h23 := h23.mono hle101
 have h0_0 := h0_0.mono hle101
 refine WL.a3 ?_
 refine Nt ?_
 refine WC.region ?_
 refine Pm (.int .u64 x56) hs59_10 rfl ?_
 refine Pu (.int .u64 (IntKind.u64.wrap (x56 + 64))) (PO.add rfl rfl) rfl ?_
 refine Pa (.int .u64 (IntKind.u64.wrap (x56 + 64))) rfl rfl ?_
 refine Nt ?_
 refine WC.exit ?_
 refine WQ.blockH ?_
 refine WQ.f3 ?_
 refine WQ.f2 ?_
 refine WQ.f2 ?_
 refine WQ.f3 ?_
 obtain rfl := Option.some.inj h
 refine WQ.thenJ ?_
 exact ⟨(hle59.trans hle101), rfl, hs59_0, hs59_1, hs59_6, hs59_7, rfl⟩
 obtain ⟨x52, x53, x54⟩ := j55
 rintro ρ55 M55 H55 ⟨hle55, rfl, hs55_0, hs55_1, hs55_6, hs55_7, hs55_10⟩
 have h23 := h23.mono hle55
 have h0_0 := h0_0.mono hle55
 refine WC.seq ?_
 refine WC.block ?_
 refine Sr ?_
 refine Pu (.int .u64 x54) (PO.loadB 1 pl93 hs55_7 rfl rfl) rfl ?_
 refine Pm (.int .u64 x52) hs55_10 rfl ?_
 refine Pu (.bool (decide (x54 < x52))) (PO.lss rfl rfl) rfl ?_
 refine Pa (.bool (decide (x54 < x52))) rfl rfl ?_
 refine Nt ?_
 refine WC.cond (b := decide (x54 < x52)) rfl (fun hb102 => ?_) (fun hb102 => ?_)
 have h := ite_t hb102 h
 refine Sr ?_
 refine Pm (pt g0 0) hs55_0 rfl ?_
 refine Pm (pt g0 0) hs55_0 rfl ?_
 refine Pu (pt g0 0) (PO.nilCheck rfl) rfl ?_
 refine Pu (pt g0 1) (PO.fieldAddr fo63_1 rfl rfl) rfl ?_
 refine Pu (.int .i64 a0.at_) (PO.loadB 3 pl3 rfl rfl rfl) rfl ?_
 obtain ⟨r103, hr104, h⟩ := bnd h
 refine WL.f3 ?_
 refine WL.eff (EO.call1 co46 (f_wire_Reader_fail_ok a0 (⟨#[110, 117, 109]⟩ : ByteArray) a0.at_ (5 : Int) _ _ _ h0_0 r103 hr104) (args4 rfl rfl rfl rfl)) rfl ?_
 rintro _ M105 _ hle106 ⟨_, ⟨rfl, rfl⟩, rfl⟩
 have h23 := h23.mono hle106
 have h0_0 := h0_0.mono hle106
 refine WL.a1 ?_
 refine Ns ?_
 refine Pa (.int .u64 0) rfl rfl ?_
 refine Nt ?_
 refine WC.ret ?_
 refine WQ.blockR ?_
 refine WQ.thenR ?_
 refine WQ.f1 ?_
 refine WQ.drop ?_
 refine WQ.f1 ?_
 refine WQ.drop ?_
 refine WQ.f1 ?_
 refine WQ.drop ?_
 exact WQ.returnsF h [[(g0, .cells #[v0_0, (.int .i64 a0.at_), (GV r103)] 63 (0, 0))]] rfl (results1 rfl rfl) (hle55.trans hle106) ⟨rfl, rfl⟩
 have h := ite_f hb102 h
 refine Sr ?_
 refine Pu (.int .u64 x54) (PO.loadB 1 pl93 hs55_7 rfl rfl) rfl ?_
 refine Pm (.int .u64 a1) hs55_1 rfl ?_
 refine Pu (.bool (decide (a1 < x54))) (PO.gtr rfl rfl) rfl ?_
 refine Pa (.bool (decide (a1 < x54))) rfl rfl ?_
 refine Nt ?_
 refine WC.cond (b := decide (a1 < x54)) rfl (fun hb107 => ?_) (fun hb107 => ?_)
 have h := ite_t hb107 h
 refine Sr ?_
 refine Pm (pt g0 0) hs55_0 rfl ?_
 refine Pm (pt g0 0) hs55_0 rfl ?_
 refine Pu (pt g0 0) (PO.nilCheck rfl) rfl ?_
 refine Pu (pt g0 1) (PO.fieldAddr fo63_1 rfl rfl) rfl ?_
 refine Pu (.int .i64 a0.at_) (PO.loadB 3 pl3 rfl rfl rfl) rfl ?_
 obtain ⟨r108, hr109, h⟩ := bnd h
 refine WL.f3 ?_
 refine WL.eff (EO.call1 co46 (f_wire_Reader_fail_ok a0 (⟨#[110, 117, 109]⟩ : ByteArray) a0.at_ (6 : Int) _ _ _ h0_0 r108 hr109) (args4 rfl rfl rfl rfl)) rfl ?_
 rintro _ M110 _ hle111 ⟨_, ⟨rfl, rfl⟩, rfl⟩
 have h23 := h23.mono hle111
 have h0_0 := h0_0.mono hle111
 refine WL.a1 ?_
 refine Ns ?_
 refine Pa (.int .u64 0) rfl rfl ?_
 refine Nt ?_
 refine WC.ret ?_
 refine WQ.blockR ?_
 refine WQ.thenR ?_
 refine WQ.f1 ?_
 refine WQ.drop ?_
 refine WQ.f1 ?_
 refine WQ.drop ?_
 refine WQ.f1 ?_
 refine WQ.drop ?_
 exact WQ.returnsF h [[(g0, .cells #[v0_0, (.int .i64 a0.at_), (GV r108)] 63 (0, 0))]] rfl (results1 rfl rfl) (hle55.trans hle111) ⟨rfl, rfl⟩
 have h := ite_f hb107 h
 refine WC.skip ?_
 refine WQ.blockN ?_
 refine WQ.thenC ?_
 refine Sr ?_
 refine Pm (pt g0 0) hs55_0 rfl ?_
 refine Pu (pt g0 0) (PO.nilCheck rfl) rfl ?_
 refine Pu (pt g0 1) (PO.fieldAddr fo63_1 rfl rfl) rfl ?_
 refine Pu (.int .i64 a0.at_) (PO.loadB 3 pl3 rfl rfl rfl) rfl ?_
 refine Pm (.int .i64 (shlI .i64 (1 : Int) (shrI .u8 (rd (sub a0.b a0.at_ (a0.b.length : Int)) (0 : Int)) (6 : Int)))) hs55_6 rfl ?_
 refine Pu (.int .i64 (IntKind.i64.wrap (a0.at_ + (shlI .i64 (1 : Int) (shrI .u8 (rd (sub a0.b a0.at_ (a0.b.length : Int)) (0 : Int)) (6 : Int)))))) (PO.add rfl rfl) rfl ?_
 refine Pu (pt g0 0) (PO.nilCheck rfl) rfl ?_
 refine Pu (pt g0 1) (PO.fieldAddr fo63_1 rfl rfl) rfl ?_
 refine WL.f3 ?_
 refine WL.eff (EO.storeL (v := (.int .i64 (IntKind.i64.wrap (a0.at_ + (shlI .i64 (1 : Int) (shrI .u8 (rd (sub a0.b a0.at_ (a0.b.length : Int)) (0 : Int)) (6 : Int))))))) (vl := [(.int .i64 (IntKind.i64.wrap (a0.at_ + (shlI .i64 (1 : Int) (shrI .u8 (rd (sub a0.b a0.at_ (a0.b.length : Int)) (0 : Int)) (6 : Int))))))]) (arr' := [v0_0, (.int .i64 (IntKind.i64.wrap (a0.at_ + (shlI .i64 (1 : Int) (shrI .u8 (rd (sub a0.b a0.at_ (a0.b.length : Int)) (0 : Int)) (6 : Int)))))), (GV a0.err)]) rfl sz3 rfl rfl (onesOf (Ones.cons rfl Ones.nil)) rfl rfl rfl) rfl ?_
 rintro _ _ _ - ⟨rfl, rfl⟩
 refine Ns ?_
 refine Pu (.int .u64 x54) (PO.loadB 2 pl93 hs55_7 rfl rfl) rfl ?_
 refine Pa (.int .u64 x54) rfl rfl ?_
 refine Nt ?_
 refine WC.ret ?_
 refine WQ.f1 ?_
 refine WQ.drop ?_
 refine WQ.f1 ?_
 refine WQ.drop ?_
 refine WQ.f1 ?_
 refine WQ.drop ?_
 exact WQ.returnsF h [[(g0, .cells #[v0_0, (.int .i64 (IntKind.i64.wrap (a0.at_ + (shlI .i64 (1 : Int) (shrI .u8 (rd (sub a0.b a0.at_ (a0.b.length : Int)) (0 : Int)) (6 : Int)))))), (GV a0.err)] 63 (0, 0))]] rfl (results1 rfl rfl) hle55 ⟨rfl, rfl⟩
 exact WT.no
 exact WT.no


end Go.Proofs.YtafkdjljkolehaaDoor.G
