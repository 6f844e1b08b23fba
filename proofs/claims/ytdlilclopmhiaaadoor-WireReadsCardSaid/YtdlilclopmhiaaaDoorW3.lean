/- Go functions: what they come to, and that they do. Printed by a program of the session (gen). -/
import Derived.Test.YtdlilclopmhiaaaDoorWF
import Derived.Test.YtdlilclopmhiaaaDoorW2
set_option linter.unusedVariables false
set_option linter.unusedSimpArgs false
namespace Go.Proofs.YtdlilclopmhiaaaDoor.G
open Go Go.KK

noncomputable def f_law02_works : Option Bool :=
  ((f_wire_Num [] (70 : Int)).bind fun (r22 : (List Int)) => ((f_wire_Flag r22 true).bind fun (r27 : (List Int)) => ((f_wire_Text r27 [(9 : Int)]).bind fun (r35 : (List Int)) => ((f_wire_Row r35 [(1 : Int), (20000 : Int)]).bind fun (r46 : (List Int)) => ((f_wire_Read r46).bind fun (r56 : T_wire_Reader) => ((f_wire_Reader_Num r56 (100 : Int)).bind fun (r62, r63, r64) => ((f_wire_Reader_Flag (⟨r56.b, r63, r64⟩ : T_wire_Reader)).bind fun (r69, r70, r71) => ((f_wire_Reader_Text (⟨r56.b, r70, r71⟩ : T_wire_Reader) (5 : Int)).bind fun (r76, r77, r78) => ((f_wire_Reader_Row (⟨r56.b, r77, r78⟩ : T_wire_Reader) (3 : Int) (20000 : Int)).bind fun (r83, r84, r85) => (((if (decide (r62 ≠ (70 : Int))) = true then (some (true, r85)) else (if (!r69) = true then (some (true, r85)) else (if (decide ((r76.length : Int) ≠ (1 : Int))) = true then (some (true, r85)) else (if (decide ((r83.length : Int) ≠ (2 : Int))) = true then (some (true, r85)) else ((f_wire_Reader_End (⟨r56.b, r84, r85⟩ : T_wire_Reader)).bind fun (r97, r98) => (if (!r97.isNil) = true then (some (true, r98)) else (some (decide ((r46.length : Int) ≠ (11 : Int)), r98)))))))) : Option (Bool × GErr)).bind fun (x90, x91) => (if x90 = true then (some false) else ((f_wire_Read r46).bind fun (r105 : T_wire_Reader) => ((f_wire_Reader_Num r105 (69 : Int)).bind fun (r111, r112, r113) => ((f_wire_Reader_Err (⟨r105.b, r112, r113⟩ : T_wire_Reader)).bind fun (r118 : GErr) => ((f_fault_Where r118).bind fun (r123, r124) => ((((f_wire_Reader_Err (⟨r105.b, r112, r113⟩ : T_wire_Reader)).bind fun (r132 : GErr) => ((f_fault_Is r132 (6 : Int)).bind fun (r137 : Bool) => (if r137 = true then (if (decide (r123 = (0 : Int))) = true then (if r124 = true then ((f_wire_Reader_At (⟨r105.b, r112, r113⟩ : T_wire_Reader)).bind fun (r145 : Int) => (some (decide (r145 = (0 : Int))))) else (some false)) else (some false)) else (some false)))) : Option Bool).bind fun (x130 : Bool) => (some x130)))))))))))))))))
def f_law02_works_post : Bool → Value → IM → HL → Prop :=
  fun (r0 : Bool) (v : Value) (M' : IM) (H' : HL) => (.bool r0) = v ∧ H' = []
set_option maxHeartbeats 8000000 in
set_option maxRecDepth 100000 in
theorem f_law02_works_ok (M : IM) (hE : Env M) (res : Bool) (h : f_law02_works = some res) :
    Tri Tryd.prog 8 #[] M [] (f_law02_works_post res) := by
 unfold f_law02_works at h
 refine Tri.enter (fn := Tryd.f8) Tryd.func8 rfl (Nat.le_of_ble_eq_true rfl) ?_
 intro F ρ hρ
 refine Sr ?_
 refine Pa (.bool false) rfl rfl ?_
 refine Ns ?_
 obtain ⟨r22, hr23, h⟩ := bnd h
 refine WL.e0 ?_
 refine WL.eff (EO.call1 co13 (f_wire_Num_ok [] (70 : Int) _ _ _ (OwnS.nil _ _) r22 hr23) (args2 rfl rfl)) rfl ?_
 rintro _ M24 _ hle25 ⟨_, ⟨vq26, cq26, rfl, rfl, hq26⟩, rfl⟩
 have hE := hE.mono hle25
 refine WL.a1 ?_
 obtain ⟨r27, hr28, h⟩ := bnd h
 refine WL.eff (EO.call1 co11 (f_wire_Flag_ok r22 true _ _ _ hq26 r27 hr28) (args2 rfl rfl)) rfl ?_
 rintro _ M29 _ hle30 ⟨_, ⟨vq31, cq31, rfl, rfl, hq31⟩, rfl⟩
 have hq26 := hq26.mono hle30
 have hE := hE.mono hle30
 refine WL.a1 ?_
 refine WL.eff (EO.buildSliceL (cl := [(.int .u8 (9 : Int))]) Tryd.underlying22 iz5 rfl (Parts.cons (congrArg Value.cells (show ev _ _ = (.int .u8 (9 : Int)) from rfl)) Parts.nil) rfl) rfl ?_
 rintro _ _ _ - ⟨rfl, g32, rfl, rfl⟩
 have h34 : OwnS (Kd.int .u8) M29 (.slice (some ⟨g32, 0, none⟩) 1 1) [(9 : Int)] [(g32, .cells #[(.int .u8 (9 : Int))] 5 (0, 0))] := OwnS.rows (css := [[(.int .u8 (9 : Int))]]) (Rows.cons rfl Rows.nil) rfl rfl
 obtain ⟨r35, hr36, h⟩ := bnd h
 refine WL.f1 ?_
 refine WL.f1 ?_
 refine WL.eff (EO.call2 co10 (Tri.lend fun w0_ H0_ hs0_ => (f_wire_Text_ok r27 [(9 : Int)] _ _ _ _ (hq31.mono (IM.le_add _ _)) (h34.rs hs0_) r35 hr36)) (args2 rfl rfl)) rfl ?_
 rintro _ _ _ hle38 ⟨_, ⟨Ml40, Hl41, hll42, rfl, rfl, ⟨vq39, cq39, rfl, rfl, hq39⟩⟩, rfl⟩
 have hq26 := hq26.mono hle38
 have hq31 := hq31.mono hle38
 have h34 := h34.mono hle38
 have hE := hE.mono hle38
 have hq39 : OwnS (Kd.int .u8) (Ml40.minus [(g32, .cells #[(.int .u8 (9 : Int))] 5 (0, 0))]) vq39 r35 cq39 := hq39.any (Kd.int_flat _)
 refine WL.a2 ?_
 refine WL.eff (EO.buildSliceL (cl := [(.int .i64 (1 : Int)), (.int .i64 (20000 : Int))]) Tryd.underlying24 iz3 rfl (Parts.cons (congrArg Value.cells (show ev _ _ = (.int .i64 (1 : Int)) from rfl)) (Parts.cons (congrArg Value.cells (show ev _ _ = (.int .i64 (20000 : Int)) from rfl)) Parts.nil)) rfl) rfl ?_
 rintro _ _ _ - ⟨rfl, g43, rfl, rfl⟩
 have h45 : OwnS (Kd.int .i64) (Ml40.minus [(g32, .cells #[(.int .u8 (9 : Int))] 5 (0, 0))]) (.slice (some ⟨g43, 0, none⟩) 2 2) [(1 : Int), (20000 : Int)] [(g43, .cells #[(.int .i64 (1 : Int)), (.int .i64 (20000 : Int))] 3 (0, 0))] := OwnS.rows (css := [[(.int .i64 (1 : Int))], [(.int .i64 (20000 : Int))]]) (Rows.cons rfl (Rows.cons rfl Rows.nil)) rfl rfl
 obtain ⟨r46, hr47, h⟩ := bnd h
 refine WL.f2 ?_
 refine WL.f1 ?_
 refine WL.eff (EO.call2 co9 (Tri.lend fun w0_ H0_ hs0_ => (f_wire_Row_ok r35 [(1 : Int), (20000 : Int)] _ _ _ _ (hq39.mono (IM.le_add _ _)) (h45.rs hs0_) r46 hr47)) (args2 rfl rfl)) rfl ?_
 rintro _ _ _ hle49 ⟨_, ⟨Ml51, Hl52, hll53, rfl, rfl, ⟨vq50, cq50, rfl, rfl, hq50⟩⟩, rfl⟩
 have hq26 := hq26.mono hle49
 have hq31 := hq31.mono hle49
 have h34 := h34.mono hle49
 have hq39 := hq39.mono hle49
 have h45 := h45.mono hle49
 have hE := hE.mono hle49
 have hq50 : OwnS (Kd.int .u8) (Ml51.minus [(g43, .cells #[(.int .i64 (1 : Int)), (.int .i64 (20000 : Int))] 3 (0, 0))]) vq50 r46 cq50 := hq50.any (Kd.int_flat _)
 refine WL.a2 ?_
 refine Pa vq50 rfl rfl ?_
 refine Ns ?_
 refine Pm vq50 rfl rfl ?_
 refine WL.f1 ?_
 refine WL.know (fun _ hs => hq50.rs hs) (fun hf55 => ?_)
 refine WL.freeze (fun hle54 => ?_)
 have hE := hE.mono hle54
 obtain ⟨r56, hr57, h⟩ := bnd h
 refine WL.eff (EO.call0 co20 (f_wire_Read_ok r46 _ _ hf55 r56 hr57) (args1 rfl)) rfl ?_
 rintro _ M58 _ hle59 ⟨_, ⟨g60, vq61_0, rfl, rfl, hq61_0⟩, rfl⟩
 have hf55 := hf55.mono hle59
 have hE := hE.mono hle59
 refine WL.a1 ?_
 refine Pa (.pointer (some ⟨g60, 0, none⟩)) rfl rfl ?_
 refine Nt ?_
 refine WC.seq ?_
 refine Sr ?_
 refine Pm (.pointer (some ⟨g60, 0, none⟩)) rfl rfl ?_
 refine Pu (.bool false) (PO.ptrNil Tryd.underlying38 rfl) rfl ?_
 refine Nt ?_
 refine WC.condF (b := false) rfl rfl ?_
 refine WC.skip ?_
 refine WQ.thenC ?_
 refine Sr ?_
 refine Pm (.pointer (some ⟨g60, 0, none⟩)) rfl rfl ?_
 obtain ⟨⟨r62, r63, r64⟩, hr65, h⟩ := bnd h
 refine WL.eff (EO.call1 co21 (f_wire_Reader_Num_ok r56 (100 : Int) _ _ _ hq61_0 (r62, r63, r64) hr65) (args2 rfl rfl)) rfl ?_
 rintro _ M66 _ hle67 ⟨_, ⟨rfl, rfl⟩, rfl⟩
 have hf55 := hf55.mono hle67
 have hq61_0 := hq61_0.mono hle67
 have hE := hE.mono hle67
 refine WL.a1 ?_
 refine Pm (.pointer (some ⟨g60, 0, none⟩)) rfl rfl ?_
 obtain ⟨⟨r69, r70, r71⟩, hr72, h⟩ := bnd h
 refine WL.eff (EO.call1 co23 (f_wire_Reader_Flag_ok (⟨r56.b, r63, r64⟩ : T_wire_Reader) _ _ _ hq61_0 (r69, r70, r71) hr72) (args1 rfl)) rfl ?_
 rintro _ M73 _ hle74 ⟨_, ⟨rfl, rfl⟩, rfl⟩
 have hf55 := hf55.mono hle74
 have hq61_0 := hq61_0.mono hle74
 have hE := hE.mono hle74
 refine WL.a1 ?_
 refine Pm (.pointer (some ⟨g60, 0, none⟩)) rfl rfl ?_
 obtain ⟨⟨r76, r77, r78⟩, hr79, h⟩ := bnd h
 refine WL.eff (EO.call1 co24 (f_wire_Reader_Text_ok (⟨r56.b, r70, r71⟩ : T_wire_Reader) (5 : Int) _ _ _ hq61_0 (r76, r77, r78) hr79) (args2 rfl rfl)) rfl ?_
 rintro _ M80 _ hle81 ⟨_, ⟨vq82, cq82, rfl, rfl, hq82⟩, rfl⟩
 have hf55 := hf55.mono hle81
 have hq61_0 := hq61_0.mono hle81
 have hE := hE.mono hle81
 refine WL.a2 ?_
 refine Pm (.pointer (some ⟨g60, 0, none⟩)) rfl rfl ?_
 obtain ⟨⟨r83, r84, r85⟩, hr86, h⟩ := bnd h
 refine WL.eff (EO.call1 co26 (f_wire_Reader_Row_ok (⟨r56.b, r77, r78⟩ : T_wire_Reader) (3 : Int) (20000 : Int) _ _ _ hq61_0 (r83, r84, r85) hr86) (args3 rfl rfl rfl)) rfl ?_
 rintro _ M87 _ hle88 ⟨_, ⟨vq89, cq89, rfl, rfl, hq89⟩, rfl⟩
 have hf55 := hf55.mono hle88
 have hq82 := hq82.mono hle88
 have hq61_0 := hq61_0.mono hle88
 have hE := hE.mono hle88
 refine WL.a2 ?_
 refine Pa (.int .u64 r62) rfl rfl ?_
 refine Pa (.bool r69) rfl rfl ?_
 refine Pa vq82 rfl rfl ?_
 refine Pa vq89 rfl rfl ?_
 refine Nt ?_
 refine WC.seq ?_
 obtain ⟨j92, hj92, h⟩ := bnd h
 refine WC.joinF (fun (p_ : (Bool × GErr)) ρ' M' H' => match p_ with | (x90, x91) => M87.le M' ∧ [(g60, .cells #[vq61_0, (.int .i64 r84), (GV x91)] 73 (0, 0))] :: F = H' ∧ ρ' 1 = vq50 ∧ ρ' 53 = (.bool x90)) j92 ?_ ?_
 have h392 := h
 have h := hj92
 refine WC.region ?_
 refine Pm (.int .u64 r62) rfl rfl ?_
 refine Pu (.bool (decide (r62 ≠ (70 : Int)))) (PO.neq rfl rfl) rfl ?_
 refine Pm (.bool (decide (r62 ≠ (70 : Int)))) rfl rfl ?_
 rcases Bool.eq_false_or_eq_true (decide (r62 ≠ (70 : Int))) with hb93 | hb93
 have h := ite_t hb93 h
 iterate 2 refine Of 30 rfl rfl hb93 rfl ?_
 refine Pu (.bool true) (PO.pickT rfl hb93 rfl) rfl ?_
 refine Pm (.bool true) rfl rfl ?_
 iterate 3 refine Of 34 rfl rfl rfl rfl ?_
 refine Pu (.bool true) (PO.pickT rfl rfl rfl) rfl ?_
 refine Pm (.bool true) rfl rfl ?_
 iterate 3 refine Of 39 rfl rfl rfl rfl ?_
 refine Pu (.bool true) (PO.pickT rfl rfl rfl) rfl ?_
 refine Pm (.bool true) rfl rfl ?_
 iterate 3 refine Of 44 rfl rfl rfl rfl ?_
 refine Pu (.bool true) (PO.pickT rfl rfl rfl) rfl ?_
 refine Pm (.bool true) rfl rfl ?_
 iterate 3 refine Of 49 rfl rfl rfl rfl ?_
 refine Pu (.bool true) (PO.pickT rfl rfl rfl) rfl ?_
 refine WL.nil ?_
 refine WQ.f1 ?_
 refine WQ.drop ?_
 refine WQ.f1 ?_
 refine WQ.drop ?_
 refine WQ.f1 ?_
 refine WQ.drop ?_
 refine WQ.f1 ?_
 refine WQ.drop ?_
 obtain rfl := Option.some.inj h
 refine WQ.thenJ ?_
 exact ⟨(IM.le.refl _), rfl, rfl, rfl⟩
 have h := ite_f hb93 h
 refine On 30 rfl rfl hb93 ?_
 refine Pm (.bool r69) rfl rfl ?_
 refine On 30 rfl rfl hb93 ?_
 refine Pu (.bool (!r69)) (PO.not rfl) rfl ?_
 refine Pu (.bool (!r69)) (PO.pickF rfl hb93 rfl) rfl ?_
 refine Pm (.bool (!r69)) rfl rfl ?_
 rcases Bool.eq_false_or_eq_true (!r69) with hb94 | hb94
 have h := ite_t hb94 h
 iterate 3 refine Of 34 rfl rfl hb94 rfl ?_
 refine Pu (.bool true) (PO.pickT rfl hb94 rfl) rfl ?_
 refine Pm (.bool true) rfl rfl ?_
 iterate 3 refine Of 39 rfl rfl rfl rfl ?_
 refine Pu (.bool true) (PO.pickT rfl rfl rfl) rfl ?_
 refine Pm (.bool true) rfl rfl ?_
 iterate 3 refine Of 44 rfl rfl rfl rfl ?_
 refine Pu (.bool true) (PO.pickT rfl rfl rfl) rfl ?_
 refine Pm (.bool true) rfl rfl ?_
 iterate 3 refine Of 49 rfl rfl rfl rfl ?_
 refine Pu (.bool true) (PO.pickT rfl rfl rfl) rfl ?_
 refine WL.nil ?_
 refine WQ.f1 ?_
 refine WQ.drop ?_
 refine WQ.f1 ?_
 refine WQ.drop ?_
 refine WQ.f1 ?_
 refine WQ.drop ?_
 refine WQ.f1 ?_
 refine WQ.drop ?_
 obtain rfl := Option.some.inj h
 refine WQ.thenJ ?_
 exact ⟨(IM.le.refl _), rfl, rfl, rfl⟩
 have h := ite_f hb94 h
 refine On 34 rfl rfl hb94 ?_
 refine Pm vq82 rfl rfl ?_
 refine On 34 rfl rfl hb94 ?_
 refine Pu (.int .i64 (r76.length : Int)) (PO.lenS Tryd.underlying22 rfl hq82.len) rfl ?_
 refine On 34 rfl rfl hb94 ?_
 refine Pu (.bool (decide ((r76.length : Int) ≠ (1 : Int)))) (PO.neq rfl rfl) rfl ?_
 refine Pu (.bool (decide ((r76.length : Int) ≠ (1 : Int)))) (PO.pickF rfl hb94 rfl) rfl ?_
 refine Pm (.bool (decide ((r76.length : Int) ≠ (1 : Int)))) rfl rfl ?_
 rcases Bool.eq_false_or_eq_true (decide ((r76.length : Int) ≠ (1 : Int))) with hb95 | hb95
 have h := ite_t hb95 h
 iterate 3 refine Of 39 rfl rfl hb95 rfl ?_
 refine Pu (.bool true) (PO.pickT rfl hb95 rfl) rfl ?_
 refine Pm (.bool true) rfl rfl ?_
 iterate 3 refine Of 44 rfl rfl rfl rfl ?_
 refine Pu (.bool true) (PO.pickT rfl rfl rfl) rfl ?_
 refine Pm (.bool true) rfl rfl ?_
 iterate 3 refine Of 49 rfl rfl rfl rfl ?_
 refine Pu (.bool true) (PO.pickT rfl rfl rfl) rfl ?_
 refine WL.nil ?_
 refine WQ.f1 ?_
 refine WQ.drop ?_
 refine WQ.f1 ?_
 refine WQ.drop ?_
 refine WQ.f1 ?_
 refine WQ.drop ?_
 refine WQ.f1 ?_
 refine WQ.drop ?_
 obtain rfl := Option.some.inj h
 refine WQ.thenJ ?_
 exact ⟨(IM.le.refl _), rfl, rfl, rfl⟩
 have h := ite_f hb95 h
 refine On 39 rfl rfl hb95 ?_
 refine Pm vq89 rfl rfl ?_
 refine On 39 rfl rfl hb95 ?_
 refine Pu (.int .i64 (r83.length : Int)) (PO.lenS Tryd.underlying24 rfl hq89.len) rfl ?_
 refine On 39 rfl rfl hb95 ?_
 refine Pu (.bool (decide ((r83.length : Int) ≠ (2 : Int)))) (PO.neq rfl rfl) rfl ?_
 refine Pu (.bool (decide ((r83.length : Int) ≠ (2 : Int)))) (PO.pickF rfl hb95 rfl) rfl ?_
 refine Pm (.bool (decide ((r83.length : Int) ≠ (2 : Int)))) rfl rfl ?_
 rcases Bool.eq_false_or_eq_true (decide ((r83.length : Int) ≠ (2 : Int))) with hb96 | hb96
 have h := ite_t hb96 h
 iterate 3 refine Of 44 rfl rfl hb96 rfl ?_
 refine Pu (.bool true) (PO.pickT rfl hb96 rfl) rfl ?_
 refine Pm (.bool true) rfl rfl ?_
 iterate 3 refine Of 49 rfl rfl rfl rfl ?_
 refine Pu (.bool true) (PO.pickT rfl rfl rfl) rfl ?_
 refine WL.nil ?_
 refine WQ.f1 ?_
 refine WQ.drop ?_
 refine WQ.f1 ?_
 refine WQ.drop ?_
 refine WQ.f1 ?_
 refine WQ.drop ?_
 refine WQ.f1 ?_
 refine WQ.drop ?_
 obtain rfl := Option.some.inj h
 refine WQ.thenJ ?_
 exact ⟨(IM.le.refl _), rfl, rfl, rfl⟩
 have h := ite_f hb96 h
 refine On 44 rfl rfl hb96 ?_
 refine Pm (.pointer (some ⟨g60, 0, none⟩)) rfl rfl ?_
 refine On 44 rfl rfl hb96 ?_
 obtain ⟨⟨r97, r98⟩, hr99, h⟩ := bnd h
 refine WL.eff (EO.call1 co27 (f_wire_Reader_End_ok (⟨r56.b, r84, r85⟩ : T_wire_Reader) _ _ _ hq61_0 (r97, r98) hr99) (args1 rfl)) rfl ?_
 rintro _ M100 _ hle101 ⟨_, ⟨rfl, rfl⟩, rfl⟩
 have hf55 := hf55.mono hle101
 have hq82 := hq82.mono hle101
 have hq89 := hq89.mono hle101
 have hq61_0 := hq61_0.mono hle101
 have hE := hE.mono hle101
 refine WL.a1 ?_
 refine On 44 rfl rfl hb96 ?_
 refine Pu (.bool (!r97.isNil)) (PO.errNotNil Tryd.underlying45 rfl) rfl ?_
 refine Pu (.bool (!r97.isNil)) (PO.pickF rfl hb96 rfl) rfl ?_
 refine Pm (.bool (!r97.isNil)) rfl rfl ?_
 rcases Bool.eq_false_or_eq_true (!r97.isNil) with hb103 | hb103
 have h := ite_t hb103 h
 iterate 3 refine Of 49 rfl rfl hb103 rfl ?_
 refine Pu (.bool true) (PO.pickT rfl hb103 rfl) rfl ?_
 refine WL.nil ?_
 refine WQ.f1 ?_
 refine WQ.drop ?_
 refine WQ.f1 ?_
 refine WQ.drop ?_
 refine WQ.f1 ?_
 refine WQ.drop ?_
 refine WQ.f1 ?_
 refine WQ.drop ?_
 obtain rfl := Option.some.inj h
 refine WQ.thenJ ?_
 exact ⟨hle101, rfl, rfl, rfl⟩
 have h := ite_f hb103 h
 refine On 49 rfl rfl hb103 ?_
 refine Pm vq50 rfl rfl ?_
 refine On 49 rfl rfl hb103 ?_
 refine Pu (.int .i64 (r46.length : Int)) (PO.lenS Tryd.underlying22 rfl hf55.len) rfl ?_
 refine On 49 rfl rfl hb103 ?_
 refine Pu (.bool (decide ((r46.length : Int) ≠ (11 : Int)))) (PO.neq rfl rfl) rfl ?_
 refine Pu (.bool (decide ((r46.length : Int) ≠ (11 : Int)))) (PO.pickF rfl hb103 rfl) rfl ?_
 refine WL.nil ?_
 refine WQ.f1 ?_
 refine WQ.drop ?_
 refine WQ.f1 ?_
 refine WQ.drop ?_
 refine WQ.f1 ?_
 refine WQ.drop ?_
 refine WQ.f1 ?_
 refine WQ.drop ?_
 obtain rfl := Option.some.inj h
 refine WQ.thenJ ?_
 exact ⟨hle101, rfl, rfl, rfl⟩
 obtain ⟨x90, x91⟩ := j92
 rintro ρ92 M92 H92 ⟨hle92, rfl, hs92_1, hs92_53⟩
 have hf55 := hf55.mono hle92
 have hq61_0 := hq61_0.mono hle92
 have hE := hE.mono hle92
 refine WC.cond (b := x90) hs92_53 (fun hb104 => ?_) (fun hb104 => ?_)
 have h := ite_t hb104 h
 refine Sr ?_
 refine Pa (.bool false) rfl rfl ?_
 refine Nt ?_
 refine WC.ret ?_
 refine WQ.thenR ?_
 refine WQ.drop ?_
 exact WQ.returnsF h [] rfl (results1 rfl rfl) ((((((((((hle25.trans hle30).trans hle38).trans hle49).trans hle54).trans hle59).trans hle67).trans hle74).trans hle81).trans hle88).trans hle92) ⟨rfl, rfl⟩
 have h := ite_f hb104 h
 refine WC.skip ?_
 refine WQ.thenC ?_
 refine Sr ?_
 refine Pm vq50 hs92_1 rfl ?_
 obtain ⟨r105, hr106, h⟩ := bnd h
 refine WL.eff (EO.call0 co20 (f_wire_Read_ok r46 _ _ hf55 r105 hr106) (args1 rfl)) rfl ?_
 rintro _ M107 _ hle108 ⟨_, ⟨g109, vq110_0, rfl, rfl, hq110_0⟩, rfl⟩
 have hf55 := hf55.mono hle108
 have hq61_0 := hq61_0.mono hle108
 have hE := hE.mono hle108
 refine WL.a1 ?_
 refine Pa (.pointer (some ⟨g109, 0, none⟩)) rfl rfl ?_
 refine Nt ?_
 refine WC.seq ?_
 refine Sr ?_
 refine Pm (.pointer (some ⟨g109, 0, none⟩)) rfl rfl ?_
 refine Pu (.bool false) (PO.ptrNil Tryd.underlying38 rfl) rfl ?_
 refine Nt ?_
 refine WC.condF (b := false) rfl rfl ?_
 refine WC.skip ?_
 refine WQ.thenC ?_
 refine Sr ?_
 refine Pm (.pointer (some ⟨g109, 0, none⟩)) rfl rfl ?_
 obtain ⟨⟨r111, r112, r113⟩, hr114, h⟩ := bnd h
 refine WL.eff (EO.call1 co21 (f_wire_Reader_Num_ok r105 (69 : Int) _ _ _ hq110_0 (r111, r112, r113) hr114) (args2 rfl rfl)) rfl ?_
 rintro _ M115 _ hle116 ⟨_, ⟨rfl, rfl⟩, rfl⟩
 have hq61_0 := hq61_0.mono hle116
 have hq110_0 := hq110_0.mono hle116
 have hE := hE.mono hle116
 refine WL.a1 ?_
 refine Ns ?_
 refine Pm (.pointer (some ⟨g109, 0, none⟩)) rfl rfl ?_
 obtain ⟨r118, hr119, h⟩ := bnd h
 refine WL.eff (EO.call1 co28 (f_wire_Reader_Err_ok (⟨r105.b, r112, r113⟩ : T_wire_Reader) _ _ _ hq110_0 r118 hr119) (args1 rfl)) rfl ?_
 rintro _ M120 _ hle121 ⟨_, ⟨rfl, rfl⟩, rfl⟩
 have hq61_0 := hq61_0.mono hle121
 have hq110_0 := hq110_0.mono hle121
 have hE := hE.mono hle121
 refine WL.a1 ?_
 obtain ⟨⟨r123, r124⟩, hr125, h⟩ := bnd h
 refine WL.eff (EO.call0 co32 (f_fault_Where_ok r118 _ hE (r123, r124) hr125) (args1 rfl)) rfl ?_
 rintro _ M126 _ hle127 ⟨_, ⟨rfl, rfl⟩, rfl⟩
 have hq61_0 := hq61_0.mono hle127
 have hq110_0 := hq110_0.mono hle127
 have hE := hE.mono hle127
 refine WL.a0 ?_
 refine Pm (.tuple #[(.int .i64 r123), (.bool r124)]) rfl rfl ?_
 refine Pu (.int .i64 r123) (PO.extract rfl rfl) rfl ?_
 refine Pu (.bool r124) (PO.extract rfl rfl) rfl ?_
 refine Pa (.int .i64 r123) rfl rfl ?_
 refine Pa (.bool r124) rfl rfl ?_
 refine Nt ?_
 obtain ⟨x130, hj131, h⟩ := bnd h
 refine WC.joinF (fun (x130 : Bool) ρ' M' H' => M126.le M' ∧ [(g109, .cells #[vq110_0, (.int .i64 r112), (GV r113)] 73 (0, 0))] :: [(g60, .cells #[vq61_0, (.int .i64 r84), (GV x91)] 73 (0, 0))] :: F = H' ∧ ρ' 0 = (.bool x130)) x130 ?_ ?_
 have h3131 := h
 have h := hj131
 refine WC.region ?_
 refine Pm (.pointer (some ⟨g109, 0, none⟩)) rfl rfl ?_
 obtain ⟨r132, hr133, h⟩ := bnd h
 refine WL.eff (EO.call1 co28 (f_wire_Reader_Err_ok (⟨r105.b, r112, r113⟩ : T_wire_Reader) _ _ _ hq110_0 r132 hr133) (args1 rfl)) rfl ?_
 rintro _ M134 _ hle135 ⟨_, ⟨rfl, rfl⟩, rfl⟩
 have hq61_0 := hq61_0.mono hle135
 have hq110_0 := hq110_0.mono hle135
 have hE := hE.mono hle135
 refine WL.a1 ?_
 obtain ⟨r137, hr138, h⟩ := bnd h
 refine WL.eff (EO.call0 co37 (f_fault_Is_ok r132 (6 : Int) _ r137 hr138) (args2 rfl rfl)) rfl ?_
 rintro _ M139 _ hle140 ⟨_, ⟨rfl, rfl⟩, rfl⟩
 have hq61_0 := hq61_0.mono hle140
 have hq110_0 := hq110_0.mono hle140
 have hE := hE.mono hle140
 refine WL.a0 ?_
 refine Pm (.bool r137) rfl rfl ?_
 rcases Bool.eq_false_or_eq_true (r137) with hb142 | hb142
 have h := ite_t hb142 h
 refine On 69 rfl rfl hb142 ?_
 refine Pm (.int .i64 r123) rfl rfl ?_
 refine On 69 rfl rfl hb142 ?_
 refine Pu (.bool (decide (r123 = (0 : Int)))) (PO.eql rfl rfl) rfl ?_
 refine Pu (.bool (decide (r123 = (0 : Int)))) (PO.pickT rfl hb142 rfl) rfl ?_
 refine Pm (.bool (decide (r123 = (0 : Int)))) rfl rfl ?_
 rcases Bool.eq_false_or_eq_true (decide (r123 = (0 : Int))) with hb143 | hb143
 have h := ite_t hb143 h
 refine On 73 rfl rfl hb143 ?_
 refine Pm (.bool r124) rfl rfl ?_
 refine Pu (.bool r124) (PO.pickT rfl hb143 rfl) rfl ?_
 refine Pm (.bool r124) rfl rfl ?_
 rcases Bool.eq_false_or_eq_true (r124) with hb144 | hb144
 have h := ite_t hb144 h
 refine On 76 rfl rfl hb144 ?_
 refine Pm (.pointer (some ⟨g109, 0, none⟩)) rfl rfl ?_
 refine On 76 rfl rfl hb144 ?_
 obtain ⟨r145, hr146, h⟩ := bnd h
 refine WL.eff (EO.call1 co29 (f_wire_Reader_At_ok (⟨r105.b, r112, r113⟩ : T_wire_Reader) _ _ _ hq110_0 r145 hr146) (args1 rfl)) rfl ?_
 rintro _ M147 _ hle148 ⟨_, ⟨rfl, rfl⟩, rfl⟩
 have hq61_0 := hq61_0.mono hle148
 have hq110_0 := hq110_0.mono hle148
 have hE := hE.mono hle148
 refine WL.a1 ?_
 refine On 76 rfl rfl hb144 ?_
 refine Pu (.bool (decide (r145 = (0 : Int)))) (PO.eql rfl rfl) rfl ?_
 refine Pu (.bool (decide (r145 = (0 : Int)))) (PO.pickT rfl hb144 rfl) rfl ?_
 refine Pa (.bool (decide (r145 = (0 : Int)))) rfl rfl ?_
 refine WL.nil ?_
 obtain rfl := Option.some.inj h
 refine WQ.thenJ ?_
 exact ⟨((hle135.trans hle140).trans hle148), rfl, rfl⟩
 have h := ite_f hb144 h
 iterate 3 refine Of 76 rfl rfl hb144 rfl ?_
 refine Pu (.bool false) (PO.pickF rfl hb144 rfl) rfl ?_
 refine Pa (.bool false) rfl rfl ?_
 refine WL.nil ?_
 obtain rfl := Option.some.inj h
 refine WQ.thenJ ?_
 exact ⟨(hle135.trans hle140), rfl, rfl⟩
 have h := ite_f hb143 h
 refine Of 73 rfl rfl hb143 rfl ?_
 refine Pu (.bool false) (PO.pickF rfl hb143 rfl) rfl ?_
 refine Pm (.bool false) rfl rfl ?_
 iterate 3 refine Of 76 rfl rfl rfl rfl ?_
 refine Pu (.bool false) (PO.pickF rfl rfl rfl) rfl ?_
 refine Pa (.bool false) rfl rfl ?_
 refine WL.nil ?_
 obtain rfl := Option.some.inj h
 refine WQ.thenJ ?_
 exact ⟨(hle135.trans hle140), rfl, rfl⟩
 have h := ite_f hb142 h
 iterate 2 refine Of 69 rfl rfl hb142 rfl ?_
 refine Pu (.bool false) (PO.pickF rfl hb142 rfl) rfl ?_
 refine Pm (.bool false) rfl rfl ?_
 refine Of 73 rfl rfl rfl rfl ?_
 refine Pu (.bool false) (PO.pickF rfl rfl rfl) rfl ?_
 refine Pm (.bool false) rfl rfl ?_
 iterate 3 refine Of 76 rfl rfl rfl rfl ?_
 refine Pu (.bool false) (PO.pickF rfl rfl rfl) rfl ?_
 refine Pa (.bool false) rfl rfl ?_
 refine WL.nil ?_
 obtain rfl := Option.some.inj h
 refine WQ.thenJ ?_
 exact ⟨(hle135.trans hle140), rfl, rfl⟩
 rintro ρ131 M131 H131 ⟨hle131, rfl, hs131_0⟩
 have hq110_0 := hq110_0.mono hle131
 have hq61_0 := hq61_0.mono hle131
 have hE := hE.mono hle131
 refine WC.ret ?_
 refine WQ.drop ?_
 refine WQ.drop ?_
 exact WQ.returnsF h [] rfl (results1 rfl hs131_0) (((((((((((((((hle25.trans hle30).trans hle38).trans hle49).trans hle54).trans hle59).trans hle67).trans hle74).trans hle81).trans hle88).trans hle92).trans hle108).trans hle116).trans hle121).trans hle127).trans hle131) ⟨rfl, rfl⟩

noncomputable def f_ref02_size (a0 : Int) : Option Int :=
  (if (decide (a0 < (64 : Int))) = true then (some (1 : Int)) else (if (decide (a0 < (16384 : Int))) = true then (some (2 : Int)) else (if (decide (a0 < (1073741824 : Int))) = true then (some (4 : Int)) else (some (8 : Int)))))
def f_ref02_size_post (a0 : Int) : Int → Value → IM → HL → Prop :=
  fun (r0 : Int) (v : Value) (M' : IM) (H' : HL) => (.int .i64 r0) = v ∧ H' = []
set_option maxHeartbeats 8000000 in
set_option maxRecDepth 100000 in
theorem f_ref02_size_ok (a0 : Int) (M : IM) (res : Int) (h : f_ref02_size a0 = some res) :
    Tri Tryd.prog 38 #[(.int .u64 a0)] M [] (f_ref02_size_post a0 res) := by
 unfold f_ref02_size at h
 refine Tri.enter (fn := Tryd.f38) Tryd.func38 rfl (Nat.le_of_ble_eq_true rfl) ?_
 intro F ρ hρ
 refine Sr ?_
 refine Pa (.int .i64 (0 : Int)) rfl rfl ?_
 refine Nt ?_
 refine WC.seq ?_
 refine Sr ?_
 refine Pm (.int .u64 a0) (hρ 0) rfl ?_
 refine Pu (.bool (decide (a0 < (64 : Int)))) (PO.lss rfl rfl) rfl ?_
 refine Nt ?_
 refine WC.cond (b := decide (a0 < (64 : Int))) rfl (fun hb21 => ?_) (fun hb21 => ?_)
 have h := ite_t hb21 h
 refine Sr ?_
 refine Pa (.int .i64 (1 : Int)) rfl rfl ?_
 refine Nt ?_
 refine WC.ret ?_
 refine WQ.thenR ?_
 exact WQ.returnsF h [] rfl (results1 rfl rfl) (IM.le.refl _) ⟨rfl, rfl⟩
 have h := ite_f hb21 h
 refine WC.skip ?_
 refine WQ.thenC ?_
 refine WC.seq ?_
 refine Sr ?_
 refine Pm (.int .u64 a0) (hρ 0) rfl ?_
 refine Pu (.bool (decide (a0 < (16384 : Int)))) (PO.lss rfl rfl) rfl ?_
 refine Nt ?_
 refine WC.cond (b := decide (a0 < (16384 : Int))) rfl (fun hb22 => ?_) (fun hb22 => ?_)
 have h := ite_t hb22 h
 refine Sr ?_
 refine Pa (.int .i64 (2 : Int)) rfl rfl ?_
 refine Nt ?_
 refine WC.ret ?_
 refine WQ.thenR ?_
 exact WQ.returnsF h [] rfl (results1 rfl rfl) (IM.le.refl _) ⟨rfl, rfl⟩
 have h := ite_f hb22 h
 refine WC.skip ?_
 refine WQ.thenC ?_
 refine WC.seq ?_
 refine Sr ?_
 refine Pm (.int .u64 a0) (hρ 0) rfl ?_
 refine Pu (.bool (decide (a0 < (1073741824 : Int)))) (PO.lss rfl rfl) rfl ?_
 refine Nt ?_
 refine WC.cond (b := decide (a0 < (1073741824 : Int))) rfl (fun hb23 => ?_) (fun hb23 => ?_)
 have h := ite_t hb23 h
 refine Sr ?_
 refine Pa (.int .i64 (4 : Int)) rfl rfl ?_
 refine Nt ?_
 refine WC.ret ?_
 refine WQ.thenR ?_
 exact WQ.returnsF h [] rfl (results1 rfl rfl) (IM.le.refl _) ⟨rfl, rfl⟩
 have h := ite_f hb23 h
 refine WC.skip ?_
 refine WQ.thenC ?_
 refine Sr ?_
 refine Pa (.int .i64 (8 : Int)) rfl rfl ?_
 refine Nt ?_
 refine WC.ret ?_
 exact WQ.returnsF h [] rfl (results1 rfl rfl) (IM.le.refl _) ⟨rfl, rfl⟩

noncomputable def f_ref02_Num_l0 (s_ : (Int × (List Int) × Int)) : Option ((Int × (List Int) × Int) ⊕ (List Int)) :=
  match s_ with
  | (x36, x37, x38) =>
    (if (decide ((0 : Int) ≤ x38)) = true then (grd (0 ≤ x38 ∧ x38 < x37.length) (some (Sum.inl (IntKind.u64.wrap (x36.tdiv (256 : Int)), x37.set (x38).toNat (IntKind.u8.wrap (x36.tmod (256 : Int))), IntKind.i64.wrap (x38 - (1 : Int)))))) else (some (Sum.inr x37)))
noncomputable def f_ref02_Num_l1 (r24 : Int) (s_ : (Int × Int)) : Option ((Int × Int) ⊕ Int) :=
  match s_ with
  | (x53, x54) =>
    (if (decide (x54 < r24)) = true then (some (Sum.inl (IntKind.u8.wrap (x53 + (64 : Int)), IntKind.i64.wrap (x54 * (2 : Int))))) else (some (Sum.inr x53)))
noncomputable def f_ref02_Num (a0 : Int) : Option (List Int) :=
  (((if (decide ((4611686018427387903 : Int) < a0)) = true then (some (4611686018427387903 : Int)) else (some a0)) : Option Int).bind fun (x21 : Int) => ((f_ref02_size x21).bind fun (r24 : Int) => (grd (0 ≤ r24 ∧ r24 ≤ 274877906944) ((((iter (f_ref02_Num_l0) (x21, List.replicate (r24).toNat (0 : Int), IntKind.i64.wrap (r24 - (1 : Int)))).bind (fun (x39 : (List Int)) => (some x39))) : Option (List Int)).bind fun (x33 : (List Int)) => ((((iter (f_ref02_Num_l1 r24) ((0 : Int), (1 : Int))).bind (fun (x55 : Int) => (some x55))) : Option Int).bind fun (x50 : Int) => (grd (0 ≤ (0 : Int) ∧ (0 : Int) < x33.length) (grd (0 ≤ (0 : Int) ∧ (0 : Int) < x33.length) (some (x33.set ((0 : Int)).toNat (IntKind.u8.wrap ((rd x33 (0 : Int)) + x50)))))))))))
def f_ref02_Num_post (a0 : Int) : (List Int) → Value → IM → HL → Prop :=
  fun (r0 : (List Int)) (v : Value) (M' : IM) (H' : HL) => ∃ vz0 cz0, vz0 = v ∧ H' = [cz0] ∧ OwnS (Kd.int .u8) M' vz0 r0 cz0
set_option maxHeartbeats 8000000 in
set_option maxRecDepth 100000 in
theorem f_ref02_Num_ok (a0 : Int) (M : IM) (res : (List Int)) (h : f_ref02_Num a0 = some res) :
    Tri Tryd.prog 14 #[(.int .u64 a0)] M [] (f_ref02_Num_post a0 res) := by
 unfold f_ref02_Num at h
 refine Tri.enter (fn := Tryd.f14) Tryd.func14 rfl (Nat.le_of_ble_eq_true rfl) ?_
 intro F ρ hρ
 refine Sr ?_
 refine Pa (.slice none 0 0) rfl rfl ?_
 refine Ns ?_
 refine Pm (.int .u64 a0) (hρ 0) rfl ?_
 refine Pa (.int .u64 a0) rfl rfl ?_
 refine Nt ?_
 obtain ⟨x21, hj22, h⟩ := bnd h
 refine WC.joinF (fun (x21 : Int) ρ' M' H' => M.le M' ∧ F = H' ∧ ρ' 3 = (.int .u64 x21)) x21 ?_ ?_
 have h322 := h
 have h := hj22
 refine Sr ?_
 refine Pm (.int .u64 a0) rfl rfl ?_
 refine Pu (.bool (decide ((4611686018427387903 : Int) < a0))) (PO.gtr rfl rfl) rfl ?_
 refine Nt ?_
 refine WC.cond (b := decide ((4611686018427387903 : Int) < a0)) rfl (fun hb23 => ?_) (fun hb23 => ?_)
 have h := ite_t hb23 h
 refine WC.region ?_
 refine Pa (.int .u64 (4611686018427387903 : Int)) rfl rfl ?_
 refine WL.nil ?_
 obtain rfl := Option.some.inj h
 refine WQ.thenJ ?_
 exact ⟨(IM.le.refl _), rfl, rfl⟩
 have h := ite_f hb23 h
 refine WC.skip ?_
 obtain rfl := Option.some.inj h
 refine WQ.thenJ ?_
 exact ⟨(IM.le.refl _), rfl, rfl⟩
 rintro ρ22 M22 H22 ⟨hle22, rfl, hs22_3⟩
 refine Sr ?_
 refine Pm (.int .u64 x21) hs22_3 rfl ?_
 obtain ⟨r24, hr25, h⟩ := bnd h
 refine WL.eff (EO.call0 co38 (f_ref02_size_ok x21 _ r24 hr25) (args1 rfl)) rfl ?_
 rintro _ M26 _ hle27 ⟨_, ⟨rfl, rfl⟩, rfl⟩
 refine WL.a0 ?_
 refine Pa (.int .i64 r24) rfl rfl ?_
 refine Ns ?_
 refine Pm (.int .i64 r24) rfl rfl ?_
 obtain ⟨hg32, h⟩ := grd_i h
 refine WL.eff (EO.makeSlice (dd := (Kd.int .u8)) Tryd.underlying22 in5 rfl rfl rfl rfl rfl hg32.1 (by decide) (makeB rfl hg32.1 hg32.2)) rfl ?_
 rintro v31 _ _ - ⟨rfl, c29, rfl, h30⟩
 refine Pa v31 rfl rfl ?_
 refine Nt ?_
 obtain ⟨x33, hj34, h⟩ := bnd h
 refine WC.joinF (fun (x33 : (List Int)) ρ' M' H' => ∃ vx33 cx33, M26.le M' ∧ cx33 :: F = H' ∧ ρ' 4 = (.int .i64 r24) ∧ ρ' 5 = vx33 ∧ OwnS (Kd.int .u8) M' vx33 x33 cx33) x33 ?_ ?_
 have h334 := h
 have h := hj34
 refine Sr ?_
 refine Pm (.int .i64 r24) rfl rfl ?_
 refine Pu (.int .i64 (IntKind.i64.wrap (r24 - (1 : Int)))) (PO.sub rfl rfl) rfl ?_
 refine Pa (.int .i64 (IntKind.i64.wrap (r24 - (1 : Int)))) rfl rfl ?_
 refine Nt ?_
 refine WC.block ?_
 obtain ⟨e35, he35, hK35⟩ := bnd h
 clear h
 refine WC.loop he35 (fun (p_ : (Int × (List Int) × Int)) ρ' M' H' => match p_ with | (x36, x37, x38) => ∃ vx37 cx37, M26.le M' ∧ cx37 :: F = H' ∧ ρ' 3 = (.int .u64 x36) ∧ ρ' 4 = (.int .i64 r24) ∧ ρ' 5 = vx37 ∧ ρ' 6 = (.int .i64 x38) ∧ OwnS (Kd.int .u8) M' vx37 x37 cx37) ?_ ?_
 exact ⟨v31, c29, (IM.le.refl _), rfl, hs22_3, rfl, rfl, rfl, h30⟩
 rintro ⟨x36, x37, x38⟩ o35 ρ35 M35 H35 h ⟨vx37, cx37, hle35, rfl, hs35_3, hs35_4, hs35_5, hs35_6, hx37⟩
 unfold f_ref02_Num_l0 at h
 refine WC.seq ?_
 refine Sr ?_
 refine Pm (.int .i64 x38) hs35_6 rfl ?_
 refine Pu (.bool (decide ((0 : Int) ≤ x38))) (PO.geq rfl rfl) rfl ?_
 refine Nt ?_
 refine WC.cond (b := decide ((0 : Int) ≤ x38)) rfl (fun hb40 => ?_) (fun hb40 => ?_)
 have h := ite_t hb40 h
 refine WC.skip ?_
 refine WQ.thenC ?_
 refine WC.seq ?_
 refine WC.block ?_
 refine Sr ?_
 refine Pm vx37 hs35_5 rfl ?_
 refine Pm (.int .i64 x38) hs35_6 rfl ?_
 refine Pm (.int .u64 x36) hs35_3 rfl ?_
 refine Pu (.int .u64 (x36.tmod (256 : Int))) (PO.rem rfl rfl (by decide)) rfl ?_
 refine Pu (.int .u8 (IntKind.u8.wrap (x36.tmod (256 : Int)))) (PO.conv us23 Tryd.underlying5 rfl) rfl ?_
 obtain ⟨hg41, h⟩ := grd_i h
 obtain ⟨p42, cs43, hat44, hrc45, hhas46⟩ := hx37.at hg41.1 hg41.2
 obtain rfl := hrc45
 refine Pu (.pointer (some p42)) (PO.indexAddr (n := x37.length) Tryd.underlying22 sz5 rfl rfl hg41.1 hg41.2 hat44) rfl ?_
 refine WL.eff (EO.storeOwn (dd := (Kd.int .u8)) (a := (IntKind.u8.wrap (x36.tmod (256 : Int)))) sz5 rfl hat44 rfl hg41.1 hg41.2 rfl hx37 rfl) rfl ?_
 rintro _ _ _ - ⟨rfl, c48, rfl, h49⟩
 refine Nt ?_
 refine WC.region ?_
 refine Pm (.int .u64 x36) hs35_3 rfl ?_
 refine Pu (.int .u64 (IntKind.u64.wrap (x36.tdiv (256 : Int)))) (PO.quo rfl rfl (by decide)) rfl ?_
 refine Pa (.int .u64 (IntKind.u64.wrap (x36.tdiv (256 : Int)))) rfl rfl ?_
 refine WL.nil ?_
 refine WQ.blockN ?_
 refine WQ.thenC ?_
 refine WC.region ?_
 refine Pm (.int .i64 x38) hs35_6 rfl ?_
 refine Pu (.int .i64 (IntKind.i64.wrap (x38 - (1 : Int)))) (PO.sub rfl rfl) rfl ?_
 refine Pa (.int .i64 (IntKind.i64.wrap (x38 - (1 : Int)))) rfl rfl ?_
 refine WL.nil ?_
 refine WQ.again (IntKind.u64.wrap (x36.tdiv (256 : Int)), x37.set (x38).toNat (IntKind.u8.wrap (x36.tmod (256 : Int))), IntKind.i64.wrap (x38 - (1 : Int))) (Option.some.inj h).symm ?_
 exact ⟨vx37, c48, hle35, rfl, rfl, hs35_4, hs35_5, rfl, h49⟩
 have h := ite_f hb40 h
 refine WC.exit ?_
 refine WQ.thenE ?_
 refine WQ.leaveE x37 (Option.some.inj h).symm (fun heq35 => ?_)
 subst heq35
 have h := hK35
 refine WQ.blockH ?_
 obtain rfl := Option.some.inj h
 refine WQ.thenJ ?_
 exact ⟨vx37, cx37, hle35, rfl, hs35_4, hs35_5, hx37⟩
 rintro ρ34 M34 H34 ⟨vx33, cx33, hle34, rfl, hs34_4, hs34_5, hx33⟩
 refine Sr ?_
 refine Pa (.int .u8 (0 : Int)) rfl rfl ?_
 refine Nt ?_
 obtain ⟨x50, hj51, h⟩ := bnd h
 refine WC.joinF (fun (x50 : Int) ρ' M' H' => M34.le M' ∧ cx33 :: F = H' ∧ ρ' 5 = vx33 ∧ ρ' 7 = (.int .u8 x50)) x50 ?_ ?_
 have h351 := h
 have h := hj51
 refine Sr ?_
 refine Pa (.int .i64 (1 : Int)) rfl rfl ?_
 refine Nt ?_
 refine WC.block ?_
 obtain ⟨e52, he52, hK52⟩ := bnd h
 clear h
 refine WC.loop he52 (fun (p_ : (Int × Int)) ρ' M' H' => match p_ with | (x53, x54) => M34.le M' ∧ cx33 :: F = H' ∧ ρ' 4 = (.int .i64 r24) ∧ ρ' 5 = vx33 ∧ ρ' 7 = (.int .u8 x53) ∧ ρ' 8 = (.int .i64 x54)) ?_ ?_
 exact ⟨(IM.le.refl _), rfl, hs34_4, hs34_5, rfl, rfl⟩
 rintro ⟨x53, x54⟩ o52 ρ52 M52 H52 h ⟨hle52, rfl, hs52_4, hs52_5, hs52_7, hs52_8⟩
 unfold f_ref02_Num_l1 at h
 have hx33 := hx33.mono hle52
 refine WC.seq ?_
 refine Sr ?_
 refine Pm (.int .i64 x54) hs52_8 rfl ?_
 refine Pm (.int .i64 r24) hs52_4 rfl ?_
 refine Pu (.bool (decide (x54 < r24))) (PO.lss rfl rfl) rfl ?_
 refine Nt ?_
 refine WC.cond (b := decide (x54 < r24)) rfl (fun hb56 => ?_) (fun hb56 => ?_)
 have h := ite_t hb56 h
 refine WC.skip ?_
 refine WQ.thenC ?_
 refine WC.seq ?_
 refine WC.block ?_
 refine WC.region ?_
 refine Pm (.int .u8 x53) hs52_7 rfl ?_
 refine Pu (.int .u8 (IntKind.u8.wrap (x53 + (64 : Int)))) (PO.add rfl rfl) rfl ?_
 refine Pa (.int .u8 (IntKind.u8.wrap (x53 + (64 : Int)))) rfl rfl ?_
 refine WL.nil ?_
 refine WQ.blockN ?_
 refine WQ.thenC ?_
 refine WC.region ?_
 refine Pm (.int .i64 x54) hs52_8 rfl ?_
 refine Pu (.int .i64 (IntKind.i64.wrap (x54 * (2 : Int)))) (PO.mul rfl rfl) rfl ?_
 refine Pa (.int .i64 (IntKind.i64.wrap (x54 * (2 : Int)))) rfl rfl ?_
 refine WL.nil ?_
 refine WQ.again (IntKind.u8.wrap (x53 + (64 : Int)), IntKind.i64.wrap (x54 * (2 : Int))) (Option.some.inj h).symm ?_
 exact ⟨hle52, rfl, hs52_4, hs52_5, rfl, rfl⟩
 have h := ite_f hb56 h
 refine WC.exit ?_
 refine WQ.thenE ?_
 refine WQ.leaveE x53 (Option.some.inj h).symm (fun heq52 => ?_)
 subst heq52
 have h := hK52
 refine WQ.blockH ?_
 obtain rfl := Option.some.inj h
 refine WQ.thenJ ?_
 exact ⟨hle52, rfl, hs52_5, hs52_7⟩
 rintro ρ51 M51 H51 ⟨hle51, rfl, hs51_5, hs51_7⟩
 have hx33 := hx33.mono hle51
 refine Sr ?_
 refine Pm vx33 hs51_5 rfl ?_
 refine Pm vx33 hs51_5 rfl ?_
 obtain ⟨hg57, h⟩ := grd_i h
 obtain ⟨p58, cs59, hat60, hrc61, hhas62⟩ := hx33.at hg57.1 hg57.2
 obtain rfl := hrc61
 refine Pu (.pointer (some p58)) (PO.indexAddr (n := x33.length) Tryd.underlying22 sz5 rfl rfl hg57.1 hg57.2 hat60) rfl ?_
 refine Pu (.int .u8 (rd x33 (0 : Int))) (PO.loadC 0 pl5 rfl rfl (chunkHas0 hhas62)) rfl ?_
 refine Pm (.int .u8 x50) hs51_7 rfl ?_
 refine Pu (.int .u8 (IntKind.u8.wrap ((rd x33 (0 : Int)) + x50))) (PO.add rfl rfl) rfl ?_
 obtain ⟨hg64, h⟩ := grd_i h
 obtain ⟨p65, cs66, hat67, hrc68, hhas69⟩ := hx33.at hg64.1 hg64.2
 obtain rfl := hrc68
 refine Pu (.pointer (some p65)) (PO.indexAddr (n := x33.length) Tryd.underlying22 sz5 rfl rfl hg64.1 hg64.2 hat67) rfl ?_
 refine WL.eff (EO.storeOwn (dd := (Kd.int .u8)) (a := (IntKind.u8.wrap ((rd x33 (0 : Int)) + x50))) sz5 rfl hat67 rfl hg64.1 hg64.2 rfl hx33 rfl) rfl ?_
 rintro _ _ _ - ⟨rfl, c71, rfl, h72⟩
 refine Ns ?_
 refine Pm vx33 hs51_5 rfl ?_
 refine Pa vx33 rfl rfl ?_
 refine Nt ?_
 refine WC.ret ?_
 exact WQ.returnsF h [c71] rfl (results1 rfl rfl) (((hle22.trans hle27).trans hle34).trans hle51) ⟨vx33, c71, rfl, rfl, h72⟩

noncomputable def f_ref02_Int (a0 : Int) : Option (List Int) :=
  (if (decide (a0 < (0 : Int))) = true then (some [(0 : Int)]) else ((f_ref02_Num (IntKind.u64.wrap a0)).bind fun (r25 : (List Int)) => (some r25)))
def f_ref02_Int_post (a0 : Int) : (List Int) → Value → IM → HL → Prop :=
  fun (r0 : (List Int)) (v : Value) (M' : IM) (H' : HL) => ∃ vz0 cz0, vz0 = v ∧ H' = [cz0] ∧ OwnS (Kd.int .u8) M' vz0 r0 cz0
set_option maxHeartbeats 8000000 in
set_option maxRecDepth 100000 in
theorem f_ref02_Int_ok (a0 : Int) (M : IM) (res : (List Int)) (h : f_ref02_Int a0 = some res) :
    Tri Tryd.prog 15 #[(.int .i64 a0)] M [] (f_ref02_Int_post a0 res) := by
 unfold f_ref02_Int at h
 refine Tri.enter (fn := Tryd.f15) Tryd.func15 rfl (Nat.le_of_ble_eq_true rfl) ?_
 intro F ρ hρ
 refine Sr ?_
 refine Pa (.slice none 0 0) rfl rfl ?_
 refine Nt ?_
 refine WC.seq ?_
 refine Sr ?_
 refine Pm (.int .i64 a0) (hρ 0) rfl ?_
 refine Pu (.bool (decide (a0 < (0 : Int)))) (PO.lss rfl rfl) rfl ?_
 refine Nt ?_
 refine WC.cond (b := decide (a0 < (0 : Int))) rfl (fun hb21 => ?_) (fun hb21 => ?_)
 have h := ite_t hb21 h
 refine Sr ?_
 refine WL.eff (EO.buildSliceL (cl := [(.int .u8 (0 : Int))]) Tryd.underlying22 iz5 rfl (Parts.cons (congrArg Value.cells (show ev _ _ = (.int .u8 (0 : Int)) from rfl)) Parts.nil) rfl) rfl ?_
 rintro _ _ _ - ⟨rfl, g22, rfl, rfl⟩
 have h24 : OwnS (Kd.int .u8) M (.slice (some ⟨g22, 0, none⟩) 1 1) [(0 : Int)] [(g22, .cells #[(.int .u8 (0 : Int))] 5 (0, 0))] := OwnS.rows (css := [[(.int .u8 (0 : Int))]]) (Rows.cons rfl Rows.nil) rfl rfl
 refine Pa (.slice (some ⟨g22, 0, none⟩) 1 1) rfl rfl ?_
 refine Nt ?_
 refine WC.ret ?_
 refine WQ.thenR ?_
 exact WQ.returnsF h [[(g22, .cells #[(.int .u8 (0 : Int))] 5 (0, 0))]] rfl (results1 rfl rfl) (IM.le.refl _) ⟨(.slice (some ⟨g22, 0, none⟩) 1 1), [(g22, .cells #[(.int .u8 (0 : Int))] 5 (0, 0))], rfl, rfl, h24⟩
 have h := ite_f hb21 h
 refine WC.skip ?_
 refine WQ.thenC ?_
 refine Sr ?_
 refine Pm (.int .i64 a0) (hρ 0) rfl ?_
 refine Pu (.int .u64 (IntKind.u64.wrap a0)) (PO.conv us3 Tryd.underlying23 rfl) rfl ?_
 obtain ⟨r25, hr26, h⟩ := bnd h
 refine WL.eff (EO.call0 co14 (f_ref02_Num_ok (IntKind.u64.wrap a0) _ r25 hr26) (args1 rfl)) rfl ?_
 rintro _ M27 _ hle28 ⟨_, ⟨vq29, cq29, rfl, rfl, hq29⟩, rfl⟩
 refine WL.a1 ?_
 refine Pa vq29 rfl rfl ?_
 refine Nt ?_
 refine WC.ret ?_
 exact WQ.returnsF h [cq29] rfl (results1 rfl rfl) hle28 ⟨vq29, cq29, rfl, rfl, hq29⟩

noncomputable def f_ref02_Flag (a0 : Bool) : Option (List Int) :=
  (if a0 = true then (some [(1 : Int)]) else (some [(0 : Int)]))
def f_ref02_Flag_post (a0 : Bool) : (List Int) → Value → IM → HL → Prop :=
  fun (r0 : (List Int)) (v : Value) (M' : IM) (H' : HL) => ∃ vz0 cz0, vz0 = v ∧ H' = [cz0] ∧ OwnS (Kd.int .u8) M' vz0 r0 cz0
set_option maxHeartbeats 8000000 in
set_option maxRecDepth 100000 in
theorem f_ref02_Flag_ok (a0 : Bool) (M : IM) (res : (List Int)) (h : f_ref02_Flag a0 = some res) :
    Tri Tryd.prog 16 #[(.bool a0)] M [] (f_ref02_Flag_post a0 res) := by
 unfold f_ref02_Flag at h
 refine Tri.enter (fn := Tryd.f16) Tryd.func16 rfl (Nat.le_of_ble_eq_true rfl) ?_
 intro F ρ hρ
 refine Sr ?_
 refine Pa (.slice none 0 0) rfl rfl ?_
 refine Nt ?_
 refine WC.seq ?_
 refine Sr ?_
 refine Pm (.bool a0) (hρ 0) rfl ?_
 refine Nt ?_
 refine WC.cond (b := a0) rfl (fun hb21 => ?_) (fun hb21 => ?_)
 have h := ite_t hb21 h
 refine Sr ?_
 refine WL.eff (EO.buildSliceL (cl := [(.int .u8 (1 : Int))]) Tryd.underlying22 iz5 rfl (Parts.cons (congrArg Value.cells (show ev _ _ = (.int .u8 (1 : Int)) from rfl)) Parts.nil) rfl) rfl ?_
 rintro _ _ _ - ⟨rfl, g22, rfl, rfl⟩
 have h24 : OwnS (Kd.int .u8) M (.slice (some ⟨g22, 0, none⟩) 1 1) [(1 : Int)] [(g22, .cells #[(.int .u8 (1 : Int))] 5 (0, 0))] := OwnS.rows (css := [[(.int .u8 (1 : Int))]]) (Rows.cons rfl Rows.nil) rfl rfl
 refine Pa (.slice (some ⟨g22, 0, none⟩) 1 1) rfl rfl ?_
 refine Nt ?_
 refine WC.ret ?_
 refine WQ.thenR ?_
 exact WQ.returnsF h [[(g22, .cells #[(.int .u8 (1 : Int))] 5 (0, 0))]] rfl (results1 rfl rfl) (IM.le.refl _) ⟨(.slice (some ⟨g22, 0, none⟩) 1 1), [(g22, .cells #[(.int .u8 (1 : Int))] 5 (0, 0))], rfl, rfl, h24⟩
 have h := ite_f hb21 h
 refine WC.skip ?_
 refine WQ.thenC ?_
 refine Sr ?_
 refine WL.eff (EO.buildSliceL (cl := [(.int .u8 (0 : Int))]) Tryd.underlying22 iz5 rfl (Parts.cons (congrArg Value.cells (show ev _ _ = (.int .u8 (0 : Int)) from rfl)) Parts.nil) rfl) rfl ?_
 rintro _ _ _ - ⟨rfl, g25, rfl, rfl⟩
 have h27 : OwnS (Kd.int .u8) M (.slice (some ⟨g25, 0, none⟩) 1 1) [(0 : Int)] [(g25, .cells #[(.int .u8 (0 : Int))] 5 (0, 0))] := OwnS.rows (css := [[(.int .u8 (0 : Int))]]) (Rows.cons rfl Rows.nil) rfl rfl
 refine Pa (.slice (some ⟨g25, 0, none⟩) 1 1) rfl rfl ?_
 refine Nt ?_
 refine WC.ret ?_
 exact WQ.returnsF h [[(g25, .cells #[(.int .u8 (0 : Int))] 5 (0, 0))]] rfl (results1 rfl rfl) (IM.le.refl _) ⟨(.slice (some ⟨g25, 0, none⟩) 1 1), [(g25, .cells #[(.int .u8 (0 : Int))] 5 (0, 0))], rfl, rfl, h27⟩

noncomputable def f_ref02_Text (a0 : (List Int)) : Option (List Int) :=
  ((f_ref02_Int (a0.length : Int)).bind fun (r21 : (List Int)) => (grd (r21.length + a0.length ≤ 274877906944) (some (r21 ++ a0))))
def f_ref02_Text_post (a0 : (List Int)) (v0 : Value) : (List Int) → Value → IM → HL → Prop :=
  fun (r0 : (List Int)) (v : Value) (M' : IM) (H' : HL) => ∃ vz0 cz0, vz0 = v ∧ H' = [cz0] ∧ OwnS (Kd.int .u8) M' vz0 r0 cz0
set_option maxHeartbeats 8000000 in
set_option maxRecDepth 100000 in
theorem f_ref02_Text_ok (a0 : (List Int)) (M : IM) (v0 : Value) (h0 : RS (Kd.int .u8) M v0 a0) (res : (List Int)) (h : f_ref02_Text a0 = some res) :
    Tri Tryd.prog 17 #[v0] M [] (f_ref02_Text_post a0 v0 res) := by
 unfold f_ref02_Text at h
 refine Tri.enter (fn := Tryd.f17) Tryd.func17 rfl (Nat.le_of_ble_eq_true rfl) ?_
 intro F ρ hρ
 refine Sr ?_
 refine Pa (.slice none 0 0) rfl rfl ?_
 refine Ns ?_
 refine Pm v0 (hρ 0) rfl ?_
 refine Pu (.int .i64 (a0.length : Int)) (PO.lenS Tryd.underlying22 rfl h0.len) rfl ?_
 obtain ⟨r21, hr22, h⟩ := bnd h
 refine WL.eff (EO.call0 co15 (f_ref02_Int_ok (a0.length : Int) _ r21 hr22) (args1 rfl)) rfl ?_
 rintro _ M23 _ hle24 ⟨_, ⟨vq25, cq25, rfl, rfl, hq25⟩, rfl⟩
 have h0 := h0.mono hle24
 refine WL.a1 ?_
 refine Pm v0 (hρ 0) rfl ?_
 obtain ⟨hg29, h⟩ := grd_i h
 refine WL.eff (EO.append (dd := (Kd.int .u8)) (xs := r21) (ys := a0) Tryd.underlying22 Tryd.underlying22 in5 rfl (appB (by decide) hg29) (by decide) rfl rfl hq25 (h0.src _)) rfl ?_
 rintro v28 _ _ - ⟨rfl, c26, rfl, h27⟩
 refine Pa v28 rfl rfl ?_
 refine Nt ?_
 refine WC.ret ?_
 exact WQ.returnsF h [c26] rfl (results1 rfl rfl) hle24 ⟨v28, c26, rfl, rfl, h27⟩

noncomputable def f_ref02_Row_l0 (a0 : (List Int)) (s_ : ((List Int) × Int)) : Option (((List Int) × Int) ⊕ (List Int)) :=
  match s_ with
  | (x29, x30) =>
    (if (decide (x30 < (a0.length : Int))) = true then (grd (0 ≤ x30 ∧ x30 < a0.length) ((f_ref02_Int (rd a0 x30)).bind fun (r40 : (List Int)) => (grd (x29.length + r40.length ≤ 274877906944) (some (Sum.inl (x29 ++ r40, IntKind.i64.wrap (x30 + (1 : Int)))))))) else (some (Sum.inr x29)))
noncomputable def f_ref02_Row (a0 : (List Int)) : Option (List Int) :=
  ((f_ref02_Int (a0.length : Int)).bind fun (r21 : (List Int)) => ((((iter (f_ref02_Row_l0 a0) (r21, (0 : Int))).bind (fun (x31 : (List Int)) => (some x31))) : Option (List Int)).bind fun (x26 : (List Int)) => (some x26)))
def f_ref02_Row_post (a0 : (List Int)) (v0 : Value) : (List Int) → Value → IM → HL → Prop :=
  fun (r0 : (List Int)) (v : Value) (M' : IM) (H' : HL) => ∃ vz0 cz0, vz0 = v ∧ H' = [cz0] ∧ OwnS (Kd.int .u8) M' vz0 r0 cz0
set_option maxHeartbeats 8000000 in
set_option maxRecDepth 100000 in
theorem f_ref02_Row_ok (a0 : (List Int)) (M : IM) (v0 : Value) (h0 : RS (Kd.int .i64) M v0 a0) (res : (List Int)) (h : f_ref02_Row a0 = some res) :
    Tri Tryd.prog 19 #[v0] M [] (f_ref02_Row_post a0 v0 res) := by
 unfold f_ref02_Row at h
 refine Tri.enter (fn := Tryd.f19) Tryd.func19 rfl (Nat.le_of_ble_eq_true rfl) ?_
 intro F ρ hρ
 refine Sr ?_
 refine Pa (.slice none 0 0) rfl rfl ?_
 refine Ns ?_
 refine Pm v0 (hρ 0) rfl ?_
 refine Pu (.int .i64 (a0.length : Int)) (PO.lenS Tryd.underlying24 rfl h0.len) rfl ?_
 obtain ⟨r21, hr22, h⟩ := bnd h
 refine WL.eff (EO.call0 co15 (f_ref02_Int_ok (a0.length : Int) _ r21 hr22) (args1 rfl)) rfl ?_
 rintro _ M23 _ hle24 ⟨_, ⟨vq25, cq25, rfl, rfl, hq25⟩, rfl⟩
 have h0 := h0.mono hle24
 refine WL.a1 ?_
 refine Pa vq25 rfl rfl ?_
 refine Nt ?_
 obtain ⟨x26, hj27, h⟩ := bnd h
 refine WC.joinF (fun (x26 : (List Int)) ρ' M' H' => ∃ vx26 cx26, M23.le M' ∧ cx26 :: F = H' ∧ ρ' 3 = vx26 ∧ OwnS (Kd.int .u8) M' vx26 x26 cx26) x26 ?_ ?_
 have h327 := h
 have h := hj27
 refine Sr ?_
 refine Pa (.int .i64 (0 : Int)) rfl rfl ?_
 refine Nt ?_
 refine WC.block ?_
 obtain ⟨e28, he28, hK28⟩ := bnd h
 clear h
 refine WC.loop he28 (fun (p_ : ((List Int) × Int)) ρ' M' H' => match p_ with | (x29, x30) => ∃ vx29 cx29, M23.le M' ∧ cx29 :: F = H' ∧ ρ' 0 = v0 ∧ ρ' 3 = vx29 ∧ ρ' 4 = (.int .i64 x30) ∧ OwnS (Kd.int .u8) M' vx29 x29 cx29) ?_ ?_
 exact ⟨vq25, cq25, (IM.le.refl _), rfl, (hρ 0), rfl, rfl, hq25⟩
 rintro ⟨x29, x30⟩ o28 ρ28 M28 H28 h ⟨vx29, cx29, hle28, rfl, hs28_0, hs28_3, hs28_4, hx29⟩
 unfold f_ref02_Row_l0 at h
 have h0 := h0.mono hle28
 refine WC.seq ?_
 refine Sr ?_
 refine Pm (.int .i64 x30) hs28_4 rfl ?_
 refine Pm v0 hs28_0 rfl ?_
 refine Pu (.int .i64 (a0.length : Int)) (PO.lenS Tryd.underlying24 rfl h0.len) rfl ?_
 refine Pu (.bool (decide (x30 < (a0.length : Int)))) (PO.lss rfl rfl) rfl ?_
 refine Nt ?_
 refine WC.cond (b := decide (x30 < (a0.length : Int))) rfl (fun hb32 => ?_) (fun hb32 => ?_)
 have h := ite_t hb32 h
 refine WC.skip ?_
 refine WQ.thenC ?_
 refine WC.seq ?_
 refine WC.block ?_
 refine WC.region ?_
 refine Pm vx29 hs28_3 rfl ?_
 refine Pm v0 hs28_0 rfl ?_
 refine Pm (.int .i64 x30) hs28_4 rfl ?_
 obtain ⟨hg33, h⟩ := grd_i h
 obtain ⟨p34, cs35, hat36, hrc37, hhas38⟩ := h0.at hg33.1 hg33.2 (by decide)
 obtain rfl := hrc37
 refine Pu (.pointer (some p34)) (PO.indexAddr (n := a0.length) Tryd.underlying24 sz3 rfl rfl hg33.1 hg33.2 hat36) rfl ?_
 refine Pu (.int .i64 (rd a0 x30)) (PO.loadM pl3 rfl (IM.has0 hhas38)) rfl ?_
 obtain ⟨r40, hr41, h⟩ := bnd h
 refine WL.eff (EO.call0 co15 (f_ref02_Int_ok (rd a0 x30) _ r40 hr41) (args1 rfl)) rfl ?_
 rintro _ M42 _ hle43 ⟨_, ⟨vq44, cq44, rfl, rfl, hq44⟩, rfl⟩
 have h0 := h0.mono hle43
 have hx29 := hx29.mono hle43
 have hhas38 := hhas38.mono hle43
 refine WL.a1 ?_
 obtain ⟨hg48, h⟩ := grd_i h
 refine WL.f1 ?_
 refine WL.eff (EO.append (dd := (Kd.int .u8)) (xs := x29) (ys := r40) Tryd.underlying22 Tryd.underlying22 in5 rfl (appB (by decide) hg48) (by decide) rfl rfl hx29 (hq44.src 1 rfl)) rfl ?_
 rintro v47 _ _ - ⟨rfl, c45, rfl, h46⟩
 refine Pa v47 rfl rfl ?_
 refine WL.nil ?_
 refine WQ.blockN ?_
 refine WQ.thenC ?_
 refine WC.region ?_
 refine Pm (.int .i64 x30) hs28_4 rfl ?_
 refine Pu (.int .i64 (IntKind.i64.wrap (x30 + (1 : Int)))) (PO.add rfl rfl) rfl ?_
 refine Pa (.int .i64 (IntKind.i64.wrap (x30 + (1 : Int)))) rfl rfl ?_
 refine WL.nil ?_
 refine WQ.f1 ?_
 refine WQ.drop ?_
 refine WQ.again (x29 ++ r40, IntKind.i64.wrap (x30 + (1 : Int))) (Option.some.inj h).symm ?_
 exact ⟨v47, c45, (hle28.trans hle43), rfl, hs28_0, rfl, rfl, h46⟩
 have h := ite_f hb32 h
 refine WC.exit ?_
 refine WQ.thenE ?_
 refine WQ.leaveE x29 (Option.some.inj h).symm (fun heq28 => ?_)
 subst heq28
 have h := hK28
 refine WQ.blockH ?_
 obtain rfl := Option.some.inj h
 refine WQ.thenJ ?_
 exact ⟨vx29, cx29, hle28, rfl, hs28_3, hx29⟩
 rintro ρ27 M27 H27 ⟨vx26, cx26, hle27, rfl, hs27_3, hx26⟩
 refine Sr ?_
 refine Pm vx26 hs27_3 rfl ?_
 refine Pa vx26 rfl rfl ?_
 refine Nt ?_
 refine WC.ret ?_
 exact WQ.returnsF h [cx26] rfl (results1 rfl rfl) (hle24.trans hle27) ⟨vx26, cx26, rfl, rfl, hx26⟩

noncomputable def f_ref02_Same_l0 (a0 : (List Int)) (a1 : (List Int)) (s_ : Int) : Option (Int ⊕ (Unit ⊕ Unit)) :=
  match s_ with
  | x24 =>
    (if (decide (x24 < (a0.length : Int))) = true then (grd (0 ≤ x24 ∧ x24 < a0.length) (grd (0 ≤ x24 ∧ x24 < a1.length) (if (decide ((rd a0 x24) ≠ (rd a1 x24))) = true then (some (Sum.inr (Sum.inr ()))) else (some (Sum.inl (IntKind.i64.wrap (x24 + (1 : Int)))))))) else (some (Sum.inr (Sum.inl ()))))
noncomputable def f_ref02_Same (a0 : (List Int)) (a1 : (List Int)) : Option Bool :=
  (if (decide ((a0.length : Int) ≠ (a1.length : Int))) = true then (some false) else ((((iter (f_ref02_Same_l0 a0 a1) (0 : Int)).bind (Sum.elim (fun _ => (some (Sum.inl ()))) (fun _ => (((some false)).bind fun r => some (Sum.inr r))))) : Option (Unit ⊕ Bool)).bind (Sum.elim (fun _ => (some true)) some)))
def f_ref02_Same_post (a0 : (List Int)) (a1 : (List Int)) (v0 v1 : Value) : Bool → Value → IM → HL → Prop :=
  fun (r0 : Bool) (v : Value) (M' : IM) (H' : HL) => (.bool r0) = v ∧ H' = []
set_option maxHeartbeats 8000000 in
set_option maxRecDepth 100000 in
theorem f_ref02_Same_ok (a0 : (List Int)) (a1 : (List Int)) (M : IM) (v0 v1 : Value) (h0 : RS (Kd.int .u8) M v0 a0) (h1 : RS (Kd.int .u8) M v1 a1) (res : Bool) (h : f_ref02_Same a0 a1 = some res) :
    Tri Tryd.prog 18 #[v0, v1] M [] (f_ref02_Same_post a0 a1 v0 v1 res) := by
 unfold f_ref02_Same at h
 refine Tri.enter (fn := Tryd.f18) Tryd.func18 rfl (Nat.le_of_ble_eq_true rfl) ?_
 intro F ρ hρ
 refine Sr ?_
 refine Pa (.bool false) rfl rfl ?_
 refine Nt ?_
 refine WC.seq ?_
 refine Sr ?_
 refine Pm v0 (hρ 0) rfl ?_
 refine Pu (.int .i64 (a0.length : Int)) (PO.lenS Tryd.underlying22 rfl h0.len) rfl ?_
 refine Pm v1 (hρ 1) rfl ?_
 refine Pu (.int .i64 (a1.length : Int)) (PO.lenS Tryd.underlying22 rfl h1.len) rfl ?_
 refine Pu (.bool (decide ((a0.length : Int) ≠ (a1.length : Int)))) (PO.neq rfl rfl) rfl ?_
 refine Nt ?_
 refine WC.cond (b := decide ((a0.length : Int) ≠ (a1.length : Int))) rfl (fun hb21 => ?_) (fun hb21 => ?_)
 have h := ite_t hb21 h
 refine Sr ?_
 refine Pa (.bool false) rfl rfl ?_
 refine Nt ?_
 refine WC.ret ?_
 refine WQ.thenR ?_
 exact WQ.returnsF h [] rfl (results1 rfl rfl) (IM.le.refl _) ⟨rfl, rfl⟩
 have h := ite_f hb21 h
 refine WC.skip ?_
 refine WQ.thenC ?_
 obtain ⟨j22, hj22, h⟩ := bnd h
 refine WC.joinE (fun (_ : Unit) ρ' M' H' => M.le M' ∧ F = H') j22 ?_ ?_
 have h322 := h
 have h := hj22
 refine Sr ?_
 refine Pa (.int .i64 (0 : Int)) rfl rfl ?_
 refine Nt ?_
 refine WC.block ?_
 obtain ⟨e23, he23, hK23⟩ := bnd h
 clear h
 refine WC.loop he23 (fun (x24 : Int) ρ' M' H' => M.le M' ∧ F = H' ∧ ρ' 0 = v0 ∧ ρ' 1 = v1 ∧ ρ' 5 = (.int .i64 x24)) ?_ ?_
 exact ⟨(IM.le.refl _), rfl, (hρ 0), (hρ 1), rfl⟩
 rintro x24 o23 ρ23 M23 H23 h ⟨hle23, rfl, hs23_0, hs23_1, hs23_5⟩
 unfold f_ref02_Same_l0 at h
 have h0 := h0.mono hle23
 have h1 := h1.mono hle23
 refine WC.seq ?_
 refine Sr ?_
 refine Pm (.int .i64 x24) hs23_5 rfl ?_
 refine Pm v0 hs23_0 rfl ?_
 refine Pu (.int .i64 (a0.length : Int)) (PO.lenS Tryd.underlying22 rfl h0.len) rfl ?_
 refine Pu (.bool (decide (x24 < (a0.length : Int)))) (PO.lss rfl rfl) rfl ?_
 refine Nt ?_
 refine WC.cond (b := decide (x24 < (a0.length : Int))) rfl (fun hb25 => ?_) (fun hb25 => ?_)
 have h := ite_t hb25 h
 refine WC.skip ?_
 refine WQ.thenC ?_
 refine WC.seq ?_
 refine WC.block ?_
 refine WC.seq ?_
 refine WC.draw [0, 0, 3, 7, 0, 0, 48, 112, 255] (.pure 0 (.pure 1 (.pure 2 (.pure 3 (.pure 4 (.pure 5 (.pure 6 (.pure 7 (.pure 8 .done))))))))) mixed (by kernel_rfl) ?_
 refine Tp v0 rfl (PO.move hs23_0) rfl ?_
 refine Tp (.int .i64 x24) rfl (PO.move hs23_5) rfl ?_
 obtain ⟨hg26, h⟩ := grd_i h
 obtain ⟨p27, cs28, hat29, hrc30, hhas31⟩ := h0.at hg26.1 hg26.2 (by decide)
 obtain rfl := hrc30
 refine Tp (.pointer (some p27)) rfl (PO.indexAddr (n := a0.length) Tryd.underlying22 sz5 rfl rfl hg26.1 hg26.2 hat29) rfl ?_
 refine Tp (.int .u8 (rd a0 x24)) rfl (PO.loadM pl5 rfl (IM.has0 hhas31)) rfl ?_
 refine Tp v1 rfl (PO.move hs23_1) rfl ?_
 refine Tp (.int .i64 x24) rfl (PO.move hs23_5) rfl ?_
 obtain ⟨hg33, h⟩ := grd_i h
 obtain ⟨p34, cs35, hat36, hrc37, hhas38⟩ := h1.at hg33.1 hg33.2 (by decide)
 obtain rfl := hrc37
 refine Tp (.pointer (some p34)) rfl (PO.indexAddr (n := a1.length) Tryd.underlying22 sz5 rfl rfl hg33.1 hg33.2 hat36) rfl ?_
 refine Tp (.int .u8 (rd a1 x24)) rfl (PO.loadM pl5 rfl (IM.has0 hhas38)) rfl ?_
 refine Tp (.bool (decide ((rd a0 x24) ≠ (rd a1 x24)))) rfl (PO.neq rfl rfl) rfl ?_
 refine WT.fin ?_
 refine WQ.thenC ?_
 refine WC.cond (b := decide ((rd a0 x24) ≠ (rd a1 x24))) rfl (fun hb40 => ?_) (fun hb40 => ?_)
 have h := ite_t hb40 h
 refine Sr ?_
 refine Pa (.bool false) rfl rfl ?_
 refine Nt ?_
 refine WC.ret ?_
 refine WQ.blockR ?_
 refine WQ.thenR ?_
 refine WQ.leaveR (Sum.inr ()) (Option.some.inj h).symm (fun heq23 => ?_)
 subst heq23
 have h := (elimR hK23)
 refine WQ.blockR ?_
 refine WQ.thenR ?_
 have h := KK.early h h322
 exact WQ.returnsF h [] rfl (results1 rfl rfl) hle23 ⟨rfl, rfl⟩
 have h := ite_f hb40 h
 refine WC.skip ?_
 refine WQ.blockN ?_
 refine WQ.thenC ?_
 refine WC.region ?_
 refine Pm (.int .i64 x24) hs23_5 rfl ?_
 refine Pu (.int .i64 (IntKind.i64.wrap (x24 + (1 : Int)))) (PO.add rfl rfl) rfl ?_
 refine Pa (.int .i64 (IntKind.i64.wrap (x24 + (1 : Int)))) rfl rfl ?_
 refine WL.nil ?_
 refine WQ.again (IntKind.i64.wrap (x24 + (1 : Int))) (Option.some.inj h).symm ?_
 exact ⟨hle23, rfl, hs23_0, hs23_1, rfl⟩
 have h := ite_f hb25 h
 refine WC.exit ?_
 refine WQ.thenE ?_
 refine WQ.leaveE (Sum.inl ()) (Option.some.inj h).symm (fun heq23 => ?_)
 subst heq23
 have h := elimL hK23
 refine WQ.blockH ?_
 refine WQ.thenFE h ?_
 exact ⟨hle23, rfl⟩
 rintro _ ρ22 M22 H22 rfl ⟨hle22, rfl⟩
 refine Sr ?_
 refine Pa (.bool true) rfl rfl ?_
 refine Nt ?_
 refine WC.ret ?_
 exact WQ.returnsF h [] rfl (results1 rfl rfl) hle22 ⟨rfl, rfl⟩


end Go.Proofs.YtdlilclopmhiaaaDoor.G
