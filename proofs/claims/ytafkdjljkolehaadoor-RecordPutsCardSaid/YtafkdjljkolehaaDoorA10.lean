/- Go functions: what they come to, and that they do. Printed by a program of the session (gen). -/
import Derived.Test.YtafkdjljkolehaaDoorAF
import Derived.Test.YtafkdjljkolehaaDoorA9
import Derived.Test.YtafkdjljkolehaaDoorKConv
set_option linter.unusedVariables false
set_option linter.unusedSimpArgs false
set_option maxHeartbeats 8000000
set_option maxRecDepth 100000
namespace Go.Proofs.YtafkdjljkolehaaDoor.G
open Go Go.KK

noncomputable def f_law05_RecordBack (a0 : T_api_Record) (a1 : (List Int)) : Option Bool :=
  ((((f_ref05_Short a0).bind fun (r24 : Bool) => (if (!r24) = true then (some true) else (some (decide ((1500 : Int) < (a1.length : Int)))))) : Option Bool).bind fun (x22 : Bool) => (if x22 = true then ((f_law05_works).bind fun (r31 : Bool) => (some r31)) else ((((f_record_Put [] a0).bind fun (r38, r39) => (if r39.isNil = true then ((f_wire_Read r38).bind fun (r48 : T_wire_Reader) => ((((f_record_Read r48).bind fun (r58, r59, r60) => ((f_ref05_Same r58 a0).bind fun (r65 : Bool) => (if (!r65) = true then (some (true, r59, r60)) else ((f_wire_Reader_End (⟨r48.b, r59, r60⟩ : T_wire_Reader)).bind fun (r83, r84) => (some (!r83.isNil, r59, r84)))))) : Option (Bool × Int × GErr)).bind fun (x54, x55, x56) => (if x54 = true then (((some false)).bind fun r => some (Sum.inr r)) else (some (Sum.inl ()))))) else (some (Sum.inl ())))) : Option (Unit ⊕ Bool)).bind (Sum.elim (fun _ => ((f_wire_Read a1).bind fun (r90 : T_wire_Reader) => ((f_record_Read r90).bind fun (r96, r97, r98) => ((f_wire_Reader_Err (⟨r90.b, r97, r98⟩ : T_wire_Reader)).bind fun (r104 : GErr) => (if (!r104.isNil) = true then ((((f_ref05_Same r96 (⟨(0 : Int), (0 : Int), (0 : Int), (0 : Int), (0 : Int), (0 : Int), (0 : Int), (0 : Int), (0 : Int), false, (⟨#[]⟩ : ByteArray), (⟨#[]⟩ : ByteArray), (⟨#[]⟩ : ByteArray), (⟨#[]⟩ : ByteArray), [], [], [], []⟩ : T_api_Record)).bind fun (r112 : Bool) => (if r112 = true then ((f_law05_works).bind fun (r130 : Bool) => (some r130)) else (some false))) : Option Bool).bind fun (x110 : Bool) => (some x110)) else ((f_record_Put [] r96).bind fun (r136, r137) => (((if r137.isNil = true then ((f_wire_Reader_At (⟨r90.b, r97, r98⟩ : T_wire_Reader)).bind fun (r158 : Int) => (grd (0 ≤ (0 : Int) ∧ (0 : Int) ≤ r158 ∧ r158 ≤ (a1.length : Int)) ((f_ref02_Same r136 (sub a1 (0 : Int) r158)).bind fun (r165 : Bool) => (if r165 = true then ((f_law05_works).bind fun (r174 : Bool) => (some r174)) else (some false))))) else (some false)) : Option Bool).bind fun (x155 : Bool) => (some x155)))))))) some))))
def f_law05_RecordBack_post (a0 : T_api_Record) (a1 : (List Int)) (v0_14 v0_15 v0_16 v0_17 v1 : Value) : Bool → Value → IM → HL → Prop :=
  fun (r0 : Bool) (v : Value) (M' : IM) (H' : HL) => (.bool r0) = v ∧ H' = []
theorem f_law05_RecordBack_ok (a0 : T_api_Record) (a1 : (List Int)) (M : IM) (v0_14 v0_15 v0_16 v0_17 v1 : Value) (h0_14 : RS (Kd.int .i64) M v0_14 a0.Ids) (h0_15 : RS (Kd.int .i64) M v0_15 a0.Isr) (h0_16 : RS (Kd.int .i64) M v0_16 a0.Add) (h0_17 : RS (Kd.int .i64) M v0_17 a0.Drop) (h1 : RS (Kd.int .u8) M v1 a1) (hE : Env M) (res : Bool) (h : f_law05_RecordBack a0 a1 = some res) :
    Tri Tryd.prog 4 #[(a24_ a0 v0_14 v0_15 v0_16 v0_17), v1] M [] (f_law05_RecordBack_post a0 a1 v0_14 v0_15 v0_16 v0_17 v1 res) := by
 unfold f_law05_RecordBack at h
 refine Tri.enter (fn := Tryd.f4) Tryd.func4 rfl (Nat.le_of_ble_eq_true rfl) ?_
 intro F ρ hρ
 refine Sr ?_
 refine WL.eff (EO.box (cs := (l24 a0 v0_14 v0_15 v0_16 v0_17).toArray) (congrArg Value.cells (asE (a24_ a0 v0_14 v0_15 v0_16 v0_17) (hρ 0)))) rfl ?_
 rintro _ _ _ - ⟨rfl, g21, rfl, rfl⟩
 refine Pa (.bool false) rfl rfl ?_
 refine Nt ?_
 refine WC.seq ?_
 obtain ⟨x22, hj23, h⟩ := bnd h
 refine WC.joinF (fun (x22 : Bool) ρ' M' H' => M.le M' ∧ [(g21, .cells (l24 a0 v0_14 v0_15 v0_16 v0_17).toArray 24 (0, 0))] :: F = H' ∧ ρ' 1 = v1 ∧ ρ' 2 = (pt g21 0) ∧ ρ' 19 = (.bool x22)) x22 ?_ ?_
 have h323 := h
 have h := hj23
 refine WC.region ?_
 refine Pu (a24_ a0 v0_14 v0_15 v0_16 v0_17) (PO.loadBA (cs := (l24 a0 v0_14 v0_15 v0_16 v0_17)) 0 ag24 sz24 rfl rfl rfl) rfl ?_
 obtain ⟨r24, hr25, h⟩ := bnd h
 refine WL.eff (EO.call0 co7 (f_ref05_Short_ok a0 _ _ _ _ _ h0_14 h0_15 h0_16 h0_17 r24 hr25) (args1 rfl)) rfl ?_
 rintro _ M26 _ hle27 ⟨_, ⟨rfl, rfl⟩, rfl⟩
 have h1 := h1.mono hle27
 have h0_14 := h0_14.mono hle27
 have h0_15 := h0_15.mono hle27
 have h0_16 := h0_16.mono hle27
 have h0_17 := h0_17.mono hle27
 have hE := hE.mono hle27
 refine WL.a0 ?_
 refine Pu (.bool (!r24)) (PO.not rfl) rfl ?_
 refine Pm (.bool (!r24)) rfl rfl ?_
 rcases Bool.eq_false_or_eq_true (!r24) with hb29 | hb29
 have h := ite_t hb29 h
 iterate 3 refine Of 15 rfl rfl hb29 rfl ?_
 refine Pu (.bool true) (PO.pickT rfl hb29 rfl) rfl ?_
 refine WL.nil ?_
 obtain rfl := Option.some.inj h
 refine WQ.thenJ ?_
 exact ⟨hle27, rfl, (hρ 1), rfl, rfl⟩
 have h := ite_f hb29 h
 refine On 15 rfl rfl hb29 ?_
 refine Pm v1 (hρ 1) rfl ?_
 refine On 15 rfl rfl hb29 ?_
 refine Pu (.int .i64 (a1.length : Int)) (PO.lenS Tryd.underlying28 rfl h1.len) rfl ?_
 refine On 15 rfl rfl hb29 ?_
 refine Pu (.bool (decide ((1500 : Int) < (a1.length : Int)))) (PO.gtr rfl rfl) rfl ?_
 refine Pu (.bool (decide ((1500 : Int) < (a1.length : Int)))) (PO.pickF rfl hb29 rfl) rfl ?_
 refine WL.nil ?_
 obtain rfl := Option.some.inj h
 refine WQ.thenJ ?_
 exact ⟨hle27, rfl, (hρ 1), rfl, rfl⟩
 rintro ρ23 M23 H23 ⟨hle23, rfl, hs23_1, hs23_2, hs23_19⟩
 have h1 := h1.mono hle23
 have h0_14 := h0_14.mono hle23
 have h0_15 := h0_15.mono hle23
 have h0_16 := h0_16.mono hle23
 have h0_17 := h0_17.mono hle23
 have hE := hE.mono hle23
 refine WC.cond (b := x22) hs23_19 (fun hb30 => ?_) (fun hb30 => ?_)
 have h := ite_t hb30 h
 refine Sr ?_
 obtain ⟨r31, hr32, h⟩ := bnd h
 refine WL.eff (EO.call0 co8 (f_law05_works_ok _ hE r31 hr32) (args0)) rfl ?_
 rintro _ M33 _ hle34 ⟨_, ⟨rfl, rfl⟩, rfl⟩
 have h1 := h1.mono hle34
 have h0_14 := h0_14.mono hle34
 have h0_15 := h0_15.mono hle34
 have h0_16 := h0_16.mono hle34
 have h0_17 := h0_17.mono hle34
 have hE := hE.mono hle34
 refine WL.a0 ?_
 refine Pa (.bool r31) rfl rfl ?_
 refine Nt ?_
 refine WC.ret ?_
 refine WQ.thenR ?_
 refine WQ.drop ?_
 exact WQ.returnsF h [] rfl (results1 rfl rfl) (hle23.trans hle34) ⟨rfl, rfl⟩
 have h := ite_f hb30 h
 refine WC.skip ?_
 refine WQ.thenC ?_
 obtain ⟨j36, hj36, h⟩ := bnd h
 refine WC.joinE (fun (_ : Unit) ρ' M' H' => M23.le M' ∧ [(g21, .cells (l24 a0 v0_14 v0_15 v0_16 v0_17).toArray 24 (0, 0))] :: F = H' ∧ ρ' 1 = v1) j36 ?_ ?_
 have h336 := h
 have h := hj36
 refine Sr ?_
 refine Pu (a24_ a0 v0_14 v0_15 v0_16 v0_17) (PO.loadBA (cs := (l24 a0 v0_14 v0_15 v0_16 v0_17)) 0 ag24 sz24 hs23_2 rfl rfl) rfl ?_
 obtain ⟨⟨r38, r39⟩, hr40, h⟩ := bnd h
 refine WL.e0 ?_
 refine WL.eff (EO.call1 co9 (f_record_Put_ok [] a0 _ _ _ _ _ _ _ (OwnS.nil _ _) h0_14 h0_15 h0_16 h0_17 (r38, r39) hr40) (args2 rfl rfl)) rfl ?_
 rintro _ M41 _ hle42 ⟨_, ⟨vq43, cq43, rfl, rfl, hq43⟩, rfl⟩
 have h1 := h1.mono hle42
 have h0_14 := h0_14.mono hle42
 have h0_15 := h0_15.mono hle42
 have h0_16 := h0_16.mono hle42
 have h0_17 := h0_17.mono hle42
 have hE := hE.mono hle42
 refine WL.a1 ?_
 refine Pm (.tuple #[vq43, (GV r39)]) rfl rfl ?_
 refine Pu vq43 (PO.extract rfl rfl) rfl ?_
 refine Pu (GV r39) (PO.extract rfl rfl) rfl ?_
 refine Pa vq43 rfl rfl ?_
 refine Pa (GV r39) rfl rfl ?_
 refine Ns ?_
 refine Pm (GV r39) rfl rfl ?_
 refine Pu (.bool r39.isNil) (PO.errNil Tryd.underlying30 rfl) rfl ?_
 refine Nt ?_
 refine WC.cond (b := r39.isNil) rfl (fun hb45 => ?_) (fun hb45 => ?_)
 have h := ite_t hb45 h
 refine Sr ?_
 refine Pm vq43 rfl rfl ?_
 refine WL.know (fun _ hs => hq43.rs hs) (fun hf47 => ?_)
 refine WL.freeze (fun hle46 => ?_)
 have h1 := h1.mono hle46
 have h0_14 := h0_14.mono hle46
 have h0_15 := h0_15.mono hle46
 have h0_16 := h0_16.mono hle46
 have h0_17 := h0_17.mono hle46
 have hE := hE.mono hle46
 obtain ⟨r48, hr49, h⟩ := bnd h
 refine WL.eff (EO.call0 co10 (f_wire_Read_ok r38 _ _ hf47 r48 hr49) (args1 rfl)) rfl ?_
 rintro _ M50 _ hle51 ⟨_, ⟨g52, vq53_0, rfl, rfl, hq53_0⟩, rfl⟩
 have h1 := h1.mono hle51
 have hf47 := hf47.mono hle51
 have h0_14 := h0_14.mono hle51
 have h0_15 := h0_15.mono hle51
 have h0_16 := h0_16.mono hle51
 have h0_17 := h0_17.mono hle51
 have hE := hE.mono hle51
 refine WL.a1 ?_
 refine Pa (pt g52 0) rfl rfl ?_
 refine Nt ?_
 obtain ⟨j57, hj57, h⟩ := bnd h
 refine WC.joinF (fun (p_ : (Bool × Int × GErr)) ρ' M' H' => match p_ with | (x54, x55, x56) => M50.le M' ∧ [(g52, .cells #[vq53_0, (.int .i64 x55), (GV x56)] 63 (0, 0))] :: [(g21, .cells (l24 a0 v0_14 v0_15 v0_16 v0_17).toArray 24 (0, 0))] :: F = H' ∧ ρ' 1 = v1 ∧ ρ' 43 = (.bool x54)) j57 ?_ ?_
 have h357 := h
 have h := hj57
 refine WC.draw [0, 1, 3, 7, 15, 7, 63, 127, 255, 511, 1023, 2047, 4095, 8191] (.pure 0 (.pure 1 (.pure 2 (.pure 3 (.pure 5 (.alt 4 (.alt 6 (.pure 7 (.pure 8 (.pure 9 (.pure 10 (.alt 11 (.pure 12 (.pure 13 .done)) .none))))) .none) .none)))))) mixed (by kernel_rfl) ?_
 refine Tp (pt g52 0) rfl (PO.move rfl) rfl ?_
 refine Tp (.bool false) rfl (PO.ptrNil Tryd.underlying33 rfl) rfl ?_
 refine Tp (.bool false) rfl (PO.move rfl) rfl ?_
 refine Tn (pt g52 0) 32 rfl rfl rfl rfl (PO.move rfl) rfl ?_
 refine Tn (a24_ a0 v0_14 v0_15 v0_16 v0_17) 32 rfl rfl rfl rfl (PO.loadBA (cs := (l24 a0 v0_14 v0_15 v0_16 v0_17)) 1 ag24 sz24 hs23_2 rfl rfl) rfl ?_
 obtain ⟨⟨r58, r59, r60⟩, hr61, h⟩ := bnd h
 refine WT.altOn 32 rfl rfl rfl rfl (EO.call1 co11 (f_record_Read_ok r48 _ _ _ hq53_0 hE (r58, r59, r60) hr61) (args1 rfl)) rfl ?_ ?_
 rintro _ M62 _ hle63 ⟨_, ⟨vq64_14, cq64_14, vq64_15, cq64_15, vq64_16, cq64_16, vq64_17, cq64_17, rfl, rfl, hq64_14, hq64_15, hq64_16, hq64_17⟩, rfl⟩
 have h1 := h1.mono hle63
 have h0_14 := h0_14.mono hle63
 have h0_15 := h0_15.mono hle63
 have h0_16 := h0_16.mono hle63
 have h0_17 := h0_17.mono hle63
 have hq53_0 := hq53_0.mono hle63
 have hE := hE.mono hle63
 refine ⟨(StabL.st (StabA.on 32 rfl rfl rfl rfl (PO.loadBA (cs := (l24 a0 v0_14 v0_15 v0_16 v0_17)) 5 ag24 sz24 hs23_2 rfl rfl) rfl) (StabL.anc rfl (StabL.anc rfl (StabL.anc rfl (StabL.anc rfl trivial))))), ?_⟩
 refine WT.a5 ?_
 obtain ⟨r65, hr66, h⟩ := bnd h
 refine WT.f4 ?_
 refine WT.f4 ?_
 refine WT.f4 ?_
 refine WT.f4 ?_
 refine WT.altOn 32 rfl rfl rfl rfl (EO.call4 co14 (Tri.lend fun w0_ H0_ hs0_ => (Tri.lend fun w1_ H1_ hs1_ => (Tri.lend fun w2_ H2_ hs2_ => (Tri.lend fun w3_ H3_ hs3_ => (f_ref05_Same_ok r58 a0 _ _ _ _ _ _ _ _ _ ((((hq64_14.rs hs0_).mono (IM.le_add _ _)).mono (IM.le_add _ _)).mono (IM.le_add _ _)) ((((hq64_15.mono (IM.le_add _ _)).rs hs1_).mono (IM.le_add _ _)).mono (IM.le_add _ _)) ((((hq64_16.mono (IM.le_add _ _)).mono (IM.le_add _ _)).rs hs2_).mono (IM.le_add _ _)) ((((hq64_17.mono (IM.le_add _ _)).mono (IM.le_add _ _)).mono (IM.le_add _ _)).rs hs3_) ((((h0_14.mono (IM.le_add _ _)).mono (IM.le_add _ _)).mono (IM.le_add _ _)).mono (IM.le_add _ _)) ((((h0_15.mono (IM.le_add _ _)).mono (IM.le_add _ _)).mono (IM.le_add _ _)).mono (IM.le_add _ _)) ((((h0_16.mono (IM.le_add _ _)).mono (IM.le_add _ _)).mono (IM.le_add _ _)).mono (IM.le_add _ _)) ((((h0_17.mono (IM.le_add _ _)).mono (IM.le_add _ _)).mono (IM.le_add _ _)).mono (IM.le_add _ _)) r65 hr66))))) (args2 rfl rfl)) rfl ?_ ?_
 rintro _ _ _ hle68 ⟨_, ⟨Ml79, Hl80, hll81, rfl, rfl, ⟨Ml76, Hl77, hll78, rfl, rfl, ⟨Ml73, Hl74, hll75, rfl, rfl, ⟨Ml70, Hl71, hll72, rfl, rfl, ⟨rfl, rfl⟩⟩⟩⟩⟩, rfl⟩
 have h1 := h1.mono hle68
 have h0_14 := h0_14.mono hle68
 have h0_15 := h0_15.mono hle68
 have h0_16 := h0_16.mono hle68
 have h0_17 := h0_17.mono hle68
 have hq64_14 := hq64_14.mono hle68
 have hq64_15 := hq64_15.mono hle68
 have hq64_16 := hq64_16.mono hle68
 have hq64_17 := hq64_17.mono hle68
 have hq53_0 := hq53_0.mono hle68
 have hE := hE.mono hle68
 refine ⟨(StabL.anc rfl (StabL.anc rfl (StabL.anc rfl (StabL.anc rfl (StabL.anc rfl trivial))))), ?_⟩
 refine WT.a4 ?_
 refine Tn (.bool (!r65)) 32 rfl rfl rfl rfl (PO.not rfl) rfl ?_
 refine Tp (.bool (!r65)) rfl (PO.pickF rfl rfl rfl) rfl ?_
 refine Tp (.bool (!r65)) rfl (PO.move rfl) rfl ?_
 rcases Bool.eq_false_or_eq_true (!r65) with hb82 | hb82
 have h := ite_t hb82 h
 refine WT.pureOff 39 rfl rfl rfl hb82 rfl ?_
 refine WT.altOff 39 rfl rfl rfl hb82 rfl ⟨(StabL.anc rfl (StabL.anc rfl (StabL.anc rfl (StabL.anc rfl (StabL.anc rfl (StabL.anc rfl (StabL.anc rfl (StabL.anc rfl (StabL.anc rfl trivial))))))))), ?_⟩ ?_
 refine WT.pureOff 39 rfl rfl rfl hb82 rfl ?_
 refine Tp (.bool true) rfl (PO.pickT rfl hb82 rfl) rfl ?_
 refine WT.fin ?_
 refine WQ.drop ?_
 refine WQ.drop ?_
 refine WQ.drop ?_
 refine WQ.drop ?_
 obtain rfl := Option.some.inj h
 refine WQ.thenJ ?_
 exact ⟨(hle63.trans hle68), rfl, hs23_1, rfl⟩
 exact WT.no
 have h := ite_f hb82 h
 refine Tn (pt g52 0) 39 rfl rfl rfl hb82 (PO.move rfl) rfl ?_
 obtain ⟨⟨r83, r84⟩, hr85, h⟩ := bnd h
 refine WT.f4 ?_
 refine WT.altOn 39 rfl rfl rfl hb82 (EO.call1 co15 (f_wire_Reader_End_ok (⟨r48.b, r59, r60⟩ : T_wire_Reader) _ _ _ hq53_0 (r83, r84) hr85) (args1 rfl)) rfl ?_ ?_
 rintro _ M86 _ hle87 ⟨_, ⟨rfl, rfl⟩, rfl⟩
 have h1 := h1.mono hle87
 have h0_14 := h0_14.mono hle87
 have h0_15 := h0_15.mono hle87
 have h0_16 := h0_16.mono hle87
 have h0_17 := h0_17.mono hle87
 have hq64_14 := hq64_14.mono hle87
 have hq64_15 := hq64_15.mono hle87
 have hq64_16 := hq64_16.mono hle87
 have hq64_17 := hq64_17.mono hle87
 have hq53_0 := hq53_0.mono hle87
 have hE := hE.mono hle87
 refine ⟨(StabL.anc rfl (StabL.anc rfl (StabL.anc rfl (StabL.anc rfl (StabL.anc rfl (StabL.anc rfl (StabL.anc rfl (StabL.anc rfl (StabL.anc rfl trivial))))))))), ?_⟩
 refine WT.a1 ?_
 refine Tn (.bool (!r83.isNil)) 39 rfl rfl rfl hb82 (PO.errNotNil Tryd.underlying30 rfl) rfl ?_
 refine Tp (.bool (!r83.isNil)) rfl (PO.pickF rfl hb82 rfl) rfl ?_
 refine WT.fin ?_
 refine WQ.f1 ?_
 refine WQ.drop ?_
 refine WQ.f1 ?_
 refine WQ.drop ?_
 refine WQ.f1 ?_
 refine WQ.drop ?_
 refine WQ.f1 ?_
 refine WQ.drop ?_
 obtain rfl := Option.some.inj h
 refine WQ.thenJ ?_
 exact ⟨((hle63.trans hle68).trans hle87), rfl, hs23_1, rfl⟩
 exact WT.no
 exact WT.no
 exact WT.no
 obtain ⟨x54, x55, x56⟩ := j57
 rintro ρ57 M57 H57 ⟨hle57, rfl, hs57_1, hs57_43⟩
 have h1 := h1.mono hle57
 have hq53_0 := hq53_0.mono hle57
 have h0_14 := h0_14.mono hle57
 have h0_15 := h0_15.mono hle57
 have h0_16 := h0_16.mono hle57
 have h0_17 := h0_17.mono hle57
 have hE := hE.mono hle57
 refine WC.cond (b := x54) hs57_43 (fun hb89 => ?_) (fun hb89 => ?_)
 have h := ite_t hb89 h
 refine Sr ?_
 refine Pa (.bool false) rfl rfl ?_
 refine Nt ?_
 refine WC.ret ?_
 refine WQ.thenR ?_
 have h := KK.early h h336
 refine WQ.drop ?_
 refine WQ.drop ?_
 exact WQ.returnsF h [] rfl (results1 rfl rfl) ((((hle23.trans hle42).trans hle46).trans hle51).trans hle57) ⟨rfl, rfl⟩
 have h := ite_f hb89 h
 refine WC.skip ?_
 refine WQ.drop ?_
 refine WQ.thenFE h ?_
 exact ⟨(((hle42.trans hle46).trans hle51).trans hle57), rfl, hs57_1⟩
 have h := ite_f hb45 h
 refine WC.skip ?_
 refine WQ.drop ?_
 refine WQ.thenFE h ?_
 exact ⟨hle42, rfl, hs23_1⟩
 rintro _ ρ36 M36 H36 rfl ⟨hle36, rfl, hs36_1⟩
 have h := (Sum.elim_inl _ _ _).symm.trans h
 have h1 := h1.mono hle36
 have h0_14 := h0_14.mono hle36
 have h0_15 := h0_15.mono hle36
 have h0_16 := h0_16.mono hle36
 have h0_17 := h0_17.mono hle36
 have hE := hE.mono hle36
 refine Sr ?_
 refine Pm v1 hs36_1 rfl ?_
 obtain ⟨r90, hr91, h⟩ := bnd h
 refine WL.eff (EO.call0 co10 (f_wire_Read_ok a1 _ _ h1 r90 hr91) (args1 rfl)) rfl ?_
 rintro _ M92 _ hle93 ⟨_, ⟨g94, vq95_0, rfl, rfl, hq95_0⟩, rfl⟩
 have h1 := h1.mono hle93
 have h0_14 := h0_14.mono hle93
 have h0_15 := h0_15.mono hle93
 have h0_16 := h0_16.mono hle93
 have h0_17 := h0_17.mono hle93
 have hE := hE.mono hle93
 refine WL.a1 ?_
 refine Pa (pt g94 0) rfl rfl ?_
 refine Nt ?_
 refine WC.seq ?_
 refine Sr ?_
 refine Pm (pt g94 0) rfl rfl ?_
 refine Pu (.bool false) (PO.ptrNil Tryd.underlying33 rfl) rfl ?_
 refine Nt ?_
 refine WC.condF (b := false) rfl rfl ?_
 refine WC.skip ?_
 refine WQ.thenC ?_
 refine Sr ?_
 refine Pm (pt g94 0) rfl rfl ?_
 obtain ⟨⟨r96, r97, r98⟩, hr99, h⟩ := bnd h
 refine WL.eff (EO.call1 co11 (f_record_Read_ok r90 _ _ _ hq95_0 hE (r96, r97, r98) hr99) (args1 rfl)) rfl ?_
 rintro _ M100 _ hle101 ⟨_, ⟨vq102_14, cq102_14, vq102_15, cq102_15, vq102_16, cq102_16, vq102_17, cq102_17, rfl, rfl, hq102_14, hq102_15, hq102_16, hq102_17⟩, rfl⟩
 have h1 := h1.mono hle101
 have h0_14 := h0_14.mono hle101
 have h0_15 := h0_15.mono hle101
 have h0_16 := h0_16.mono hle101
 have h0_17 := h0_17.mono hle101
 have hq95_0 := hq95_0.mono hle101
 have hE := hE.mono hle101
 refine WL.a5 ?_
 refine WL.eff (EO.alloc ze24 rfl) rfl ?_
 rintro _ _ _ - ⟨rfl, g103, rfl, rfl⟩
 refine WL.eff (EO.storeL (v := (a24_ r96 vq102_14 vq102_15 vq102_16 vq102_17)) (vl := (l24 r96 vq102_14 vq102_15 vq102_16 vq102_17)) (arr' := (l24 r96 vq102_14 vq102_15 vq102_16 vq102_17)) rfl sz24 rfl rfl (onesOf (Ones.cons rfl (Ones.cons rfl (Ones.cons rfl (Ones.cons rfl (Ones.cons rfl (Ones.cons rfl (Ones.cons rfl (Ones.cons rfl (Ones.cons rfl (Ones.cons rfl (Ones.cons rfl (Ones.cons rfl (Ones.cons rfl (Ones.cons rfl (Ones.cons (OwnS.one hq102_14) (Ones.cons (OwnS.one hq102_15) (Ones.cons (OwnS.one hq102_16) (Ones.cons (OwnS.one hq102_17) Ones.nil))))))))))))))))))) rfl rfl (by kernel_rfl)) rfl ?_
 rintro _ _ _ - ⟨rfl, rfl⟩
 refine Nt ?_
 refine WC.seq ?_
 refine Sr ?_
 refine Pm (pt g94 0) rfl rfl ?_
 obtain ⟨r104, hr105, h⟩ := bnd h
 refine WL.f1 ?_
 refine WL.eff (EO.call1 co13 (f_wire_Reader_Err_ok (⟨r90.b, r97, r98⟩ : T_wire_Reader) _ _ _ hq95_0 r104 hr105) (args1 rfl)) rfl ?_
 rintro _ M106 _ hle107 ⟨_, ⟨rfl, rfl⟩, rfl⟩
 have h1 := h1.mono hle107
 have h0_14 := h0_14.mono hle107
 have h0_15 := h0_15.mono hle107
 have h0_16 := h0_16.mono hle107
 have h0_17 := h0_17.mono hle107
 have hq95_0 := hq95_0.mono hle107
 have hq102_14 := hq102_14.mono hle107
 have hq102_15 := hq102_15.mono hle107
 have hq102_16 := hq102_16.mono hle107
 have hq102_17 := hq102_17.mono hle107
 have hE := hE.mono hle107
 refine WL.a1 ?_
 refine Pu (.bool (!r104.isNil)) (PO.errNotNil Tryd.underlying30 rfl) rfl ?_
 refine Nt ?_
 refine WC.cond (b := !r104.isNil) rfl (fun hb109 => ?_) (fun hb109 => ?_)
 have h := ite_t hb109 h
 obtain ⟨x110, hj111, h⟩ := bnd h
 refine WC.joinF (fun (x110 : Bool) ρ' M' H' => M106.le M' ∧ [(g94, .cells #[vq95_0, (.int .i64 r97), (GV r98)] 63 (0, 0))] :: [(g103, .cells (l24 r96 vq102_14 vq102_15 vq102_16 vq102_17).toArray 24 (0, 0))] :: [(g21, .cells (l24 a0 v0_14 v0_15 v0_16 v0_17).toArray 24 (0, 0))] :: cq102_14 :: cq102_15 :: cq102_16 :: cq102_17 :: F = H' ∧ ρ' 4 = (.bool x110)) x110 ?_ ?_
 have h3111 := h
 have h := hj111
 refine WC.region ?_
 refine Pu (a24_ r96 vq102_14 vq102_15 vq102_16 vq102_17) (PO.loadBA (cs := (l24 r96 vq102_14 vq102_15 vq102_16 vq102_17)) 1 ag24 sz24 rfl rfl rfl) rfl ?_
 refine Pu (.agg z24_.toArray) (PO.buildL (cl := z24_) ze24 fp24 Parts.nil rfl) rfl ?_
 obtain ⟨r112, hr113, h⟩ := bnd h
 refine WL.f5 ?_
 refine WL.f5 ?_
 refine WL.f5 ?_
 refine WL.f5 ?_
 refine WL.eff (EO.call4 co14 (Tri.lend fun w0_ H0_ hs0_ => (Tri.lend fun w1_ H1_ hs1_ => (Tri.lend fun w2_ H2_ hs2_ => (Tri.lend fun w3_ H3_ hs3_ => (f_ref05_Same_ok r96 (⟨(0 : Int), (0 : Int), (0 : Int), (0 : Int), (0 : Int), (0 : Int), (0 : Int), (0 : Int), (0 : Int), false, (⟨#[]⟩ : ByteArray), (⟨#[]⟩ : ByteArray), (⟨#[]⟩ : ByteArray), (⟨#[]⟩ : ByteArray), [], [], [], []⟩ : T_api_Record) _ _ _ _ _ _ _ _ _ ((((hq102_14.rs hs0_).mono (IM.le_add _ _)).mono (IM.le_add _ _)).mono (IM.le_add _ _)) ((((hq102_15.mono (IM.le_add _ _)).rs hs1_).mono (IM.le_add _ _)).mono (IM.le_add _ _)) ((((hq102_16.mono (IM.le_add _ _)).mono (IM.le_add _ _)).rs hs2_).mono (IM.le_add _ _)) ((((hq102_17.mono (IM.le_add _ _)).mono (IM.le_add _ _)).mono (IM.le_add _ _)).rs hs3_) (RS.nil _ _) (RS.nil _ _) (RS.nil _ _) (RS.nil _ _) r112 hr113))))) (args2 rfl rfl)) rfl ?_
 rintro _ _ _ hle115 ⟨_, ⟨Ml126, Hl127, hll128, rfl, rfl, ⟨Ml123, Hl124, hll125, rfl, rfl, ⟨Ml120, Hl121, hll122, rfl, rfl, ⟨Ml117, Hl118, hll119, rfl, rfl, ⟨rfl, rfl⟩⟩⟩⟩⟩, rfl⟩
 have h1 := h1.mono hle115
 have hq102_14 := hq102_14.mono hle115
 have hq102_15 := hq102_15.mono hle115
 have hq102_16 := hq102_16.mono hle115
 have hq102_17 := hq102_17.mono hle115
 have h0_14 := h0_14.mono hle115
 have h0_15 := h0_15.mono hle115
 have h0_16 := h0_16.mono hle115
 have h0_17 := h0_17.mono hle115
 have hq95_0 := hq95_0.mono hle115
 have hE := hE.mono hle115
 refine WL.a4 ?_
 refine Pm (.bool r112) rfl rfl ?_
 rcases Bool.eq_false_or_eq_true (r112) with hb129 | hb129
 have h := ite_t hb129 h
 refine On 56 rfl rfl hb129 ?_
 obtain ⟨r130, hr131, h⟩ := bnd h
 refine WL.eff (EO.call0 co8 (f_law05_works_ok _ hE r130 hr131) (args0)) rfl ?_
 rintro _ M132 _ hle133 ⟨_, ⟨rfl, rfl⟩, rfl⟩
 have h1 := h1.mono hle133
 have hq102_14 := hq102_14.mono hle133
 have hq102_15 := hq102_15.mono hle133
 have hq102_16 := hq102_16.mono hle133
 have hq102_17 := hq102_17.mono hle133
 have h0_14 := h0_14.mono hle133
 have h0_15 := h0_15.mono hle133
 have h0_16 := h0_16.mono hle133
 have h0_17 := h0_17.mono hle133
 have hq95_0 := hq95_0.mono hle133
 have hE := hE.mono hle133
 refine WL.a0 ?_
 refine Pu (.bool r130) (PO.pickT rfl hb129 rfl) rfl ?_
 refine Pa (.bool r130) rfl rfl ?_
 refine WL.nil ?_
 refine WQ.f3 ?_
 refine WQ.f3 ?_
 refine WQ.f3 ?_
 refine WQ.f3 ?_
 refine WQ.f6 ?_
 refine WQ.f6 ?_
 refine WQ.f6 ?_
 obtain rfl := Option.some.inj h
 refine WQ.thenJ ?_
 exact ⟨(hle115.trans hle133), rfl, rfl⟩
 have h := ite_f hb129 h
 refine Of 56 rfl rfl hb129 rfl ?_
 refine Pu (.bool false) (PO.pickF rfl hb129 rfl) rfl ?_
 refine Pa (.bool false) rfl rfl ?_
 refine WL.nil ?_
 refine WQ.f3 ?_
 refine WQ.f3 ?_
 refine WQ.f3 ?_
 refine WQ.f3 ?_
 refine WQ.f6 ?_
 refine WQ.f6 ?_
 refine WQ.f6 ?_
 obtain rfl := Option.some.inj h
 refine WQ.thenJ ?_
 exact ⟨hle115, rfl, rfl⟩
 rintro ρ111 M111 H111 ⟨hle111, rfl, hs111_4⟩
 have hq95_0 := hq95_0.mono hle111
 have hq102_14 := hq102_14.mono hle111
 have hq102_15 := hq102_15.mono hle111
 have hq102_16 := hq102_16.mono hle111
 have hq102_17 := hq102_17.mono hle111
 have h0_14 := h0_14.mono hle111
 have h0_15 := h0_15.mono hle111
 have h0_16 := h0_16.mono hle111
 have h0_17 := h0_17.mono hle111
 have hE := hE.mono hle111
 refine WC.ret ?_
 refine WQ.thenR ?_
 refine WQ.drop ?_
 refine WQ.drop ?_
 refine WQ.drop ?_
 refine WQ.drop ?_
 refine WQ.drop ?_
 refine WQ.drop ?_
 refine WQ.drop ?_
 exact WQ.returnsF h [] rfl (results1 rfl hs111_4) (((((hle23.trans hle36).trans hle93).trans hle101).trans hle107).trans hle111) ⟨rfl, rfl⟩
 have h := ite_f hb109 h
 refine WC.skip ?_
 refine WQ.thenC ?_
 refine Sr ?_
 refine Pu (a24_ r96 vq102_14 vq102_15 vq102_16 vq102_17) (PO.loadBA (cs := (l24 r96 vq102_14 vq102_15 vq102_16 vq102_17)) 1 ag24 sz24 rfl rfl rfl) rfl ?_
 obtain ⟨⟨r136, r137⟩, hr138, h⟩ := bnd h
 refine WL.e0 ?_
 refine WL.f6 ?_
 refine WL.f6 ?_
 refine WL.f6 ?_
 refine WL.f6 ?_
 refine WL.eff (EO.call5 co9 (Tri.lend fun w0_ H0_ hs0_ => (Tri.lend fun w1_ H1_ hs1_ => (Tri.lend fun w2_ H2_ hs2_ => (Tri.lend fun w3_ H3_ hs3_ => (f_record_Put_ok [] r96 _ _ _ _ _ _ _ (OwnS.nil _ _) ((((hq102_14.rs hs0_).mono (IM.le_add _ _)).mono (IM.le_add _ _)).mono (IM.le_add _ _)) ((((hq102_15.mono (IM.le_add _ _)).rs hs1_).mono (IM.le_add _ _)).mono (IM.le_add _ _)) ((((hq102_16.mono (IM.le_add _ _)).mono (IM.le_add _ _)).rs hs2_).mono (IM.le_add _ _)) ((((hq102_17.mono (IM.le_add _ _)).mono (IM.le_add _ _)).mono (IM.le_add _ _)).rs hs3_) (r136, r137) hr138))))) (args2 rfl rfl)) rfl ?_
 rintro _ _ _ hle140 ⟨_, ⟨Ml152, Hl153, hll154, rfl, rfl, ⟨Ml149, Hl150, hll151, rfl, rfl, ⟨Ml146, Hl147, hll148, rfl, rfl, ⟨Ml143, Hl144, hll145, rfl, rfl, ⟨vq141, cq141, rfl, rfl, hq141⟩⟩⟩⟩⟩, rfl⟩
 have h1 := h1.mono hle140
 have hq102_14 := hq102_14.mono hle140
 have hq102_15 := hq102_15.mono hle140
 have hq102_16 := hq102_16.mono hle140
 have hq102_17 := hq102_17.mono hle140
 have h0_14 := h0_14.mono hle140
 have h0_15 := h0_15.mono hle140
 have h0_16 := h0_16.mono hle140
 have h0_17 := h0_17.mono hle140
 have hq95_0 := hq95_0.mono hle140
 have hE := hE.mono hle140
 have hq141 : OwnS (Kd.int .u8) ((((Ml143.minus cq102_17).minus cq102_16).minus cq102_15).minus cq102_14) vq141 r136 cq141 := hq141.any (Kd.int_flat _)
 refine WL.a5 ?_
 refine Pm (.tuple #[vq141, (GV r137)]) rfl rfl ?_
 refine Pu vq141 (PO.extract rfl rfl) rfl ?_
 refine Pu (GV r137) (PO.extract rfl rfl) rfl ?_
 refine Pa vq141 rfl rfl ?_
 refine Pa (GV r137) rfl rfl ?_
 refine Nt ?_
 obtain ⟨x155, hj156, h⟩ := bnd h
 refine WC.joinF (fun (x155 : Bool) ρ' M' H' => ((((Ml143.minus cq102_17).minus cq102_16).minus cq102_15).minus cq102_14).le M' ∧ [(g94, .cells #[vq95_0, (.int .i64 r97), (GV r98)] 63 (0, 0))] :: [(g103, .cells (l24 r96 vq102_14 vq102_15 vq102_16 vq102_17).toArray 24 (0, 0))] :: [(g21, .cells (l24 a0 v0_14 v0_15 v0_16 v0_17).toArray 24 (0, 0))] :: cq102_14 :: cq102_15 :: cq102_16 :: cq102_17 :: F = H' ∧ ρ' 4 = (.bool x155)) x155 ?_ ?_
 have h3156 := h
 have h := hj156
 refine WC.region ?_
 refine Pm (GV r137) rfl rfl ?_
 refine Pu (.bool r137.isNil) (PO.errNil Tryd.underlying30 rfl) rfl ?_
 refine Pm (.bool r137.isNil) rfl rfl ?_
 rcases Bool.eq_false_or_eq_true (r137.isNil) with hb157 | hb157
 have h := ite_t hb157 h
 refine On 66 rfl rfl hb157 ?_
 refine Pm vq141 rfl rfl ?_
 refine On 66 rfl rfl hb157 ?_
 refine Pm v1 hs36_1 rfl ?_
 refine On 66 rfl rfl hb157 ?_
 refine Pm (pt g94 0) rfl rfl ?_
 refine On 66 rfl rfl hb157 ?_
 obtain ⟨r158, hr159, h⟩ := bnd h
 refine WL.f5 ?_
 refine WL.eff (EO.call1 co17 (f_wire_Reader_At_ok (⟨r90.b, r97, r98⟩ : T_wire_Reader) _ _ _ hq95_0 r158 hr159) (args1 rfl)) rfl ?_
 rintro _ M160 _ hle161 ⟨_, ⟨rfl, rfl⟩, rfl⟩
 have h1 := h1.mono hle161
 have hq141 := hq141.mono hle161
 have h0_14 := h0_14.mono hle161
 have h0_15 := h0_15.mono hle161
 have h0_16 := h0_16.mono hle161
 have h0_17 := h0_17.mono hle161
 have hq95_0 := hq95_0.mono hle161
 have hq102_14 := hq102_14.mono hle161
 have hq102_15 := hq102_15.mono hle161
 have hq102_16 := hq102_16.mono hle161
 have hq102_17 := hq102_17.mono hle161
 have hE := hE.mono hle161
 refine WL.a1 ?_
 refine On 66 rfl rfl hb157 ?_
 obtain ⟨hg163, h⟩ := grd_i h
 have h164 := h1.sub hg163.1 hg163.2.1 hg163.2.2
 refine Pu (slV v1 1 ((0 : Int)).toNat (r158).toNat) (PO.slice (n := a1.length) (l := ((0 : Int)).toNat) (h := (r158).toNat) Tryd.underlying28 sz5 rfl h1.len h1.cap (bound0 rfl) ⟨_, _, rfl, (Int.le_trans hg163.1 hg163.2.1), rfl⟩ (Int.toNat_le_toNat hg163.2.1) (toNat_le_len hg163.2.2)) rfl ?_
 refine On 66 rfl rfl hb157 ?_
 obtain ⟨r165, hr166, h⟩ := bnd h
 refine WL.f5 ?_
 refine WL.eff (EO.call1 co16 (Tri.lend fun w0_ H0_ hs0_ => (f_ref02_Same_ok r136 (sub a1 (0 : Int) r158) _ _ _ (hq141.rs hs0_) (h164.mono (IM.le_add _ _)) r165 hr166)) (args2 rfl rfl)) rfl ?_
 rintro _ _ _ hle168 ⟨_, ⟨Ml170, Hl171, hll172, rfl, rfl, ⟨rfl, rfl⟩⟩, rfl⟩
 have h1 := h1.mono hle168
 have hq141 := hq141.mono hle168
 have h164 := h164.mono hle168
 have h0_14 := h0_14.mono hle168
 have h0_15 := h0_15.mono hle168
 have h0_16 := h0_16.mono hle168
 have h0_17 := h0_17.mono hle168
 have hq95_0 := hq95_0.mono hle168
 have hq102_14 := hq102_14.mono hle168
 have hq102_15 := hq102_15.mono hle168
 have hq102_16 := hq102_16.mono hle168
 have hq102_17 := hq102_17.mono hle168
 have hE := hE.mono hle168
 refine WL.a1 ?_
 refine Pu (.bool r165) (PO.pickT rfl hb157 rfl) rfl ?_
 refine Pm (.bool r165) rfl rfl ?_
 rcases Bool.eq_false_or_eq_true (r165) with hb173 | hb173
 have h := ite_t hb173 h
 refine On 74 rfl rfl hb173 ?_
 obtain ⟨r174, hr175, h⟩ := bnd h
 refine WL.eff (EO.call0 co8 (f_law05_works_ok _ hE r174 hr175) (args0)) rfl ?_
 rintro _ M176 _ hle177 ⟨_, ⟨rfl, rfl⟩, rfl⟩
 have h1 := h1.mono hle177
 have hq141 := hq141.mono hle177
 have h164 := h164.mono hle177
 have h0_14 := h0_14.mono hle177
 have h0_15 := h0_15.mono hle177
 have h0_16 := h0_16.mono hle177
 have h0_17 := h0_17.mono hle177
 have hq95_0 := hq95_0.mono hle177
 have hq102_14 := hq102_14.mono hle177
 have hq102_15 := hq102_15.mono hle177
 have hq102_16 := hq102_16.mono hle177
 have hq102_17 := hq102_17.mono hle177
 have hE := hE.mono hle177
 refine WL.a0 ?_
 refine Pu (.bool r174) (PO.pickT rfl hb173 rfl) rfl ?_
 refine Pa (.bool r174) rfl rfl ?_
 refine WL.nil ?_
 refine WQ.drop ?_
 refine WQ.f4 ?_
 refine WQ.f4 ?_
 refine WQ.f4 ?_
 refine WQ.f4 ?_
 refine WQ.f6 ?_
 refine WQ.f6 ?_
 refine WQ.f6 ?_
 obtain rfl := Option.some.inj h
 refine WQ.thenJ ?_
 exact ⟨((hle161.trans hle168).trans hle177), rfl, rfl⟩
 have h := ite_f hb173 h
 refine Of 74 rfl rfl hb173 rfl ?_
 refine Pu (.bool false) (PO.pickF rfl hb173 rfl) rfl ?_
 refine Pa (.bool false) rfl rfl ?_
 refine WL.nil ?_
 refine WQ.drop ?_
 refine WQ.f4 ?_
 refine WQ.f4 ?_
 refine WQ.f4 ?_
 refine WQ.f4 ?_
 refine WQ.f6 ?_
 refine WQ.f6 ?_
 refine WQ.f6 ?_
 obtain rfl := Option.some.inj h
 refine WQ.thenJ ?_
 exact ⟨(hle161.trans hle168), rfl, rfl⟩
 have h := ite_f hb157 h
 iterate 6 refine Of 66 rfl rfl hb157 rfl ?_
 refine Pu (.bool false) (PO.pickF rfl hb157 rfl) rfl ?_
 refine Pm (.bool false) rfl rfl ?_
 refine Of 74 rfl rfl rfl rfl ?_
 refine Pu (.bool false) (PO.pickF rfl rfl rfl) rfl ?_
 refine Pa (.bool false) rfl rfl ?_
 refine WL.nil ?_
 refine WQ.f4 ?_
 refine WQ.drop ?_
 refine WQ.f3 ?_
 refine WQ.f3 ?_
 refine WQ.f3 ?_
 refine WQ.f3 ?_
 refine WQ.f6 ?_
 refine WQ.f6 ?_
 refine WQ.f6 ?_
 obtain rfl := Option.some.inj h
 refine WQ.thenJ ?_
 exact ⟨(IM.le.refl _), rfl, rfl⟩
 rintro ρ156 M156 H156 ⟨hle156, rfl, hs156_4⟩
 have hq95_0 := hq95_0.mono hle156
 have hq102_14 := hq102_14.mono hle156
 have hq102_15 := hq102_15.mono hle156
 have hq102_16 := hq102_16.mono hle156
 have hq102_17 := hq102_17.mono hle156
 have h0_14 := h0_14.mono hle156
 have h0_15 := h0_15.mono hle156
 have h0_16 := h0_16.mono hle156
 have h0_17 := h0_17.mono hle156
 have hE := hE.mono hle156
 refine WC.ret ?_
 refine WQ.drop ?_
 refine WQ.drop ?_
 refine WQ.drop ?_
 refine WQ.drop ?_
 refine WQ.drop ?_
 refine WQ.drop ?_
 refine WQ.drop ?_
 exact WQ.returnsF h [] rfl (results1 rfl hs156_4) ((((((hle23.trans hle36).trans hle93).trans hle101).trans hle107).trans hle140).trans hle156) ⟨rfl, rfl⟩

noncomputable def f_ref05_has_l0 (a1 : Int) (x21 : ByteArray) (s_ : Int) : Option (Int ⊕ (Unit ⊕ Unit)) :=
  match s_ with
  | x38 =>
    (if (decide (x38 < (x21.size : Int))) = true then (grd (0 ≤ x38 ∧ x38 < x21.size) (if (decide ((btAt x21 x38) = a1)) = true then (some (Sum.inr (Sum.inr ()))) else (some (Sum.inl (IntKind.i64.wrap (x38 + (1 : Int))))))) else (some (Sum.inr (Sum.inl ()))))
noncomputable def f_ref05_has (a0 : Int) (a1 : Int) : Option Bool :=
  (((if (decide (a0 = (2 : Int))) = true then (some (⟨#[98, 101, 114]⟩ : ByteArray)) else (((if (decide (a0 = (3 : Int))) = true then (some (decide (a0 = (3 : Int)))) else (if (decide (a0 = (4 : Int))) = true then (some (decide (a0 = (4 : Int)))) else (if (decide (a0 = (5 : Int))) = true then (some (decide (a0 = (5 : Int)))) else (some (decide (a0 = (6 : Int))))))) : Option Bool).bind fun (x24 : Bool) => (if x24 = true then (some (⟨#[98, 101]⟩ : ByteArray)) else (if (decide (a0 = (7 : Int))) = true then (some (⟨#[116, 110]⟩ : ByteArray)) else (if (decide (a0 = (8 : Int))) = true then (some (⟨#[116, 112, 108, 105, 109]⟩ : ByteArray)) else (if (decide (a0 = (9 : Int))) = true then (some (⟨#[116, 101, 112, 108, 105, 109, 120]⟩ : ByteArray)) else (if (decide (a0 = (10 : Int))) = true then (some (⟨#[116, 107, 118, 102]⟩ : ByteArray)) else (if (decide (a0 = (11 : Int))) = true then (some (⟨#[116]⟩ : ByteArray)) else (if (decide (a0 = (12 : Int))) = true then (some (⟨#[97]⟩ : ByteArray)) else (some (⟨#[]⟩ : ByteArray))))))))))) : Option ByteArray).bind fun (x21 : ByteArray) => ((((iter (f_ref05_has_l0 a1 x21) (0 : Int)).bind (Sum.elim (fun _ => (some (Sum.inl ()))) (fun _ => (((some true)).bind fun r => some (Sum.inr r))))) : Option (Unit ⊕ Bool)).bind (Sum.elim (fun _ => (some false)) some)))
def f_ref05_has_post (a0 : Int) (a1 : Int) : Bool → Value → IM → HL → Prop :=
  fun (r0 : Bool) (v : Value) (M' : IM) (H' : HL) => (.bool r0) = v ∧ H' = []
theorem f_ref05_has_ok (a0 : Int) (a1 : Int) (M : IM) (res : Bool) (h : f_ref05_has a0 a1 = some res) :
    Tri Tryd.prog 56 #[(.int .i64 a0), (.int .u8 a1)] M [] (f_ref05_has_post a0 a1 res) := by
 unfold f_ref05_has at h
 refine Tri.enter (fn := Tryd.f56) Tryd.func56 rfl (Nat.le_of_ble_eq_true rfl) ?_
 intro F ρ hρ
 refine Sr ?_
 refine Pa (.bool false) rfl rfl ?_
 refine Ns ?_
 refine Pa (.string ⟨#[]⟩) rfl rfl ?_
 refine Nt ?_
 obtain ⟨x21, hj22, h⟩ := bnd h
 refine WC.joinF (fun (x21 : ByteArray) ρ' M' H' => M.le M' ∧ F = H' ∧ ρ' 1 = (.int .u8 a1) ∧ ρ' 5 = (.string x21)) x21 ?_ ?_
 have h322 := h
 have h := hj22
 refine Sr ?_
 refine Pm (.int .i64 a0) (hρ 0) rfl ?_
 refine Nt ?_
 refine WC.block ?_
 refine Sr ?_
 refine Pu (.bool (decide (a0 = 2))) (PO.eql rfl rfl) rfl ?_
 refine Pa (.bool (decide (a0 = 2))) rfl rfl ?_
 refine Nt ?_
 refine WC.cond (b := decide (a0 = 2)) rfl (fun hb23 => ?_) (fun hb23 => ?_)
 have h := ite_t hb23 h
 refine WC.region ?_
 refine Pa (.string ⟨#[98, 101, 114]⟩) rfl rfl ?_
 refine WL.nil ?_
 refine WQ.blockN ?_
 obtain rfl := Option.some.inj h
 refine WQ.thenJ ?_
 exact ⟨(IM.le.refl _), rfl, (hρ 1), rfl⟩
 have h := ite_f hb23 h
 obtain ⟨x24, hj25, h⟩ := bnd h
 refine WC.joinF (fun (x24 : Bool) ρ' M' H' => M.le M' ∧ F = H' ∧ ρ' 1 = (.int .u8 a1) ∧ ρ' 5 = (.string ⟨#[]⟩) ∧ ρ' 7 = (.int .i64 a0) ∧ ρ' 10 = (.bool x24)) x24 ?_ ?_
 have h325 := h
 have h := hj25
 refine Sr ?_
 refine Pu (.bool (decide (a0 = 3))) (PO.eql rfl rfl) rfl ?_
 refine Pa (.bool (decide (a0 = 3))) rfl rfl ?_
 refine Nt ?_
 refine WC.cond (b := decide (a0 = 3)) rfl (fun hb26 => ?_) (fun hb26 => ?_)
 have h := ite_t hb26 h
 refine WC.skip ?_
 obtain rfl := Option.some.inj h
 refine WQ.thenJ ?_
 exact ⟨(IM.le.refl _), rfl, (hρ 1), rfl, rfl, rfl⟩
 have h := ite_f hb26 h
 refine Sr ?_
 refine Pu (.bool (decide (a0 = 4))) (PO.eql rfl rfl) rfl ?_
 refine Pa (.bool (decide (a0 = 4))) rfl rfl ?_
 refine Nt ?_
 refine WC.cond (b := decide (a0 = 4)) rfl (fun hb27 => ?_) (fun hb27 => ?_)
 have h := ite_t hb27 h
 refine WC.skip ?_
 obtain rfl := Option.some.inj h
 refine WQ.thenJ ?_
 exact ⟨(IM.le.refl _), rfl, (hρ 1), rfl, rfl, rfl⟩
 have h := ite_f hb27 h
 refine Sr ?_
 refine Pu (.bool (decide (a0 = 5))) (PO.eql rfl rfl) rfl ?_
 refine Pa (.bool (decide (a0 = 5))) rfl rfl ?_
 refine Nt ?_
 refine WC.cond (b := decide (a0 = 5)) rfl (fun hb28 => ?_) (fun hb28 => ?_)
 have h := ite_t hb28 h
 refine WC.skip ?_
 obtain rfl := Option.some.inj h
 refine WQ.thenJ ?_
 exact ⟨(IM.le.refl _), rfl, (hρ 1), rfl, rfl, rfl⟩
 have h := ite_f hb28 h
 refine WC.region ?_
 refine Pu (.bool (decide (a0 = 6))) (PO.eql rfl rfl) rfl ?_
 refine Pa (.bool (decide (a0 = 6))) rfl rfl ?_
 refine WL.nil ?_
 obtain rfl := Option.some.inj h
 refine WQ.thenJ ?_
 exact ⟨(IM.le.refl _), rfl, (hρ 1), rfl, rfl, rfl⟩
 rintro ρ25 M25 H25 ⟨hle25, rfl, hs25_1, hs25_5, hs25_7, hs25_10⟩
 refine WC.cond (b := x24) hs25_10 (fun hb29 => ?_) (fun hb29 => ?_)
 have h := ite_t hb29 h
 refine WC.region ?_
 refine Pa (.string ⟨#[98, 101]⟩) rfl rfl ?_
 refine WL.nil ?_
 refine WQ.blockN ?_
 obtain rfl := Option.some.inj h
 refine WQ.thenJ ?_
 exact ⟨hle25, rfl, hs25_1, rfl⟩
 have h := ite_f hb29 h
 refine Sr ?_
 refine Pu (.bool (decide (a0 = 7))) (PO.eql hs25_7 rfl) rfl ?_
 refine Pa (.bool (decide (a0 = 7))) rfl rfl ?_
 refine Nt ?_
 refine WC.cond (b := decide (a0 = 7)) rfl (fun hb30 => ?_) (fun hb30 => ?_)
 have h := ite_t hb30 h
 refine WC.region ?_
 refine Pa (.string ⟨#[116, 110]⟩) rfl rfl ?_
 refine WL.nil ?_
 refine WQ.blockN ?_
 obtain rfl := Option.some.inj h
 refine WQ.thenJ ?_
 exact ⟨hle25, rfl, hs25_1, rfl⟩
 have h := ite_f hb30 h
 refine Sr ?_
 refine Pu (.bool (decide (a0 = 8))) (PO.eql hs25_7 rfl) rfl ?_
 refine Pa (.bool (decide (a0 = 8))) rfl rfl ?_
 refine Nt ?_
 refine WC.cond (b := decide (a0 = 8)) rfl (fun hb31 => ?_) (fun hb31 => ?_)
 have h := ite_t hb31 h
 refine WC.region ?_
 refine Pa (.string ⟨#[116, 112, 108, 105, 109]⟩) rfl rfl ?_
 refine WL.nil ?_
 refine WQ.blockN ?_
 obtain rfl := Option.some.inj h
 refine WQ.thenJ ?_
 exact ⟨hle25, rfl, hs25_1, rfl⟩
 have h := ite_f hb31 h
 refine Sr ?_
 refine Pu (.bool (decide (a0 = 9))) (PO.eql hs25_7 rfl) rfl ?_
 refine Pa (.bool (decide (a0 = 9))) rfl rfl ?_
 refine Nt ?_
 refine WC.cond (b := decide (a0 = 9)) rfl (fun hb32 => ?_) (fun hb32 => ?_)
 have h := ite_t hb32 h
 refine WC.region ?_
 refine Pa (.string ⟨#[116, 101, 112, 108, 105, 109, 120]⟩) rfl rfl ?_
 refine WL.nil ?_
 refine WQ.blockN ?_
 obtain rfl := Option.some.inj h
 refine WQ.thenJ ?_
 exact ⟨hle25, rfl, hs25_1, rfl⟩
 have h := ite_f hb32 h
 refine Sr ?_
 refine Pu (.bool (decide (a0 = 10))) (PO.eql hs25_7 rfl) rfl ?_
 refine Pa (.bool (decide (a0 = 10))) rfl rfl ?_
 refine Nt ?_
 refine WC.cond (b := decide (a0 = 10)) rfl (fun hb33 => ?_) (fun hb33 => ?_)
 have h := ite_t hb33 h
 refine WC.region ?_
 refine Pa (.string ⟨#[116, 107, 118, 102]⟩) rfl rfl ?_
 refine WL.nil ?_
 refine WQ.blockN ?_
 obtain rfl := Option.some.inj h
 refine WQ.thenJ ?_
 exact ⟨hle25, rfl, hs25_1, rfl⟩
 have h := ite_f hb33 h
 refine Sr ?_
 refine Pu (.bool (decide (a0 = 11))) (PO.eql hs25_7 rfl) rfl ?_
 refine Pa (.bool (decide (a0 = 11))) rfl rfl ?_
 refine Nt ?_
 refine WC.cond (b := decide (a0 = 11)) rfl (fun hb34 => ?_) (fun hb34 => ?_)
 have h := ite_t hb34 h
 refine WC.region ?_
 refine Pa (.string ⟨#[116]⟩) rfl rfl ?_
 refine WL.nil ?_
 refine WQ.blockN ?_
 obtain rfl := Option.some.inj h
 refine WQ.thenJ ?_
 exact ⟨hle25, rfl, hs25_1, rfl⟩
 have h := ite_f hb34 h
 refine Sr ?_
 refine Pu (.bool (decide (a0 = 12))) (PO.eql hs25_7 rfl) rfl ?_
 refine Pa (.bool (decide (a0 = 12))) rfl rfl ?_
 refine Nt ?_
 refine WC.cond (b := decide (a0 = 12)) rfl (fun hb35 => ?_) (fun hb35 => ?_)
 have h := ite_t hb35 h
 refine WC.region ?_
 refine Pa (.string ⟨#[97]⟩) rfl rfl ?_
 refine WL.nil ?_
 refine WQ.blockN ?_
 obtain rfl := Option.some.inj h
 refine WQ.thenJ ?_
 exact ⟨hle25, rfl, hs25_1, rfl⟩
 have h := ite_f hb35 h
 refine WC.skip ?_
 refine WQ.blockN ?_
 obtain rfl := Option.some.inj h
 refine WQ.thenJ ?_
 exact ⟨hle25, rfl, hs25_1, hs25_5⟩
 rintro ρ22 M22 H22 ⟨hle22, rfl, hs22_1, hs22_5⟩
 obtain ⟨j36, hj36, h⟩ := bnd h
 refine WC.joinE (fun (_ : Unit) ρ' M' H' => M22.le M' ∧ F = H') j36 ?_ ?_
 have h336 := h
 have h := hj36
 refine Sr ?_
 refine Pa (.int .i64 0) rfl rfl ?_
 refine Nt ?_
 refine WC.block ?_
 obtain ⟨e37, he37, hK37⟩ := bnd h
 clear h
 refine WC.loop he37 (fun (x38 : Int) ρ' M' H' => M22.le M' ∧ F = H' ∧ ρ' 1 = (.int .u8 a1) ∧ ρ' 5 = (.string x21) ∧ ρ' 6 = (.int .i64 x38)) ?_ ?_
 exact ⟨(IM.le.refl _), rfl, hs22_1, hs22_5, rfl⟩
 rintro x38 o37 ρ37 M37 H37 h ⟨hle37, rfl, hs37_1, hs37_5, hs37_6⟩
 unfold f_ref05_has_l0 at h
 refine WC.seq ?_
 refine Sr ?_
 refine Pm (.int .i64 x38) hs37_6 rfl ?_
 refine Pm (.string x21) hs37_5 rfl ?_
 refine Pu (.int .i64 (x21.size : Int)) (PO.lenStr Tryd.underlying9 rfl) rfl ?_
 refine Pu (.bool (decide (x38 < (x21.size : Int)))) (PO.lss rfl rfl) rfl ?_
 refine Nt ?_
 refine WC.cond (b := decide (x38 < (x21.size : Int))) rfl (fun hb39 => ?_) (fun hb39 => ?_)
 have h := ite_t hb39 h
 refine WC.skip ?_
 refine WQ.thenC ?_
 refine WC.seq ?_
 refine WC.block ?_
 refine Sr ?_
 refine Pm (.string x21) hs37_5 rfl ?_
 refine Pm (.int .i64 x38) hs37_6 rfl ?_
 obtain ⟨hg40, h⟩ := grd_i h
 refine Pu (.int .u8 (btAt x21 x38)) (PO.indexStr Tryd.underlying9 rfl rfl hg40.1 (strAt hg40)) rfl ?_
 refine Pm (.int .u8 a1) hs37_1 rfl ?_
 refine Pu (.bool (decide ((btAt x21 x38) = a1))) (PO.eql rfl rfl) rfl ?_
 refine Nt ?_
 refine WC.cond (b := decide ((btAt x21 x38) = a1)) rfl (fun hb42 => ?_) (fun hb42 => ?_)
 have h := ite_t hb42 h
 refine Sr ?_
 refine Pa (.bool true) rfl rfl ?_
 refine Nt ?_
 refine WC.ret ?_
 refine WQ.blockR ?_
 refine WQ.thenR ?_
 refine WQ.leaveR (Sum.inr ()) (Option.some.inj h).symm (fun heq37 => ?_)
 subst heq37
 have h := (elimR hK37)
 refine WQ.blockR ?_
 refine WQ.thenR ?_
 have h := KK.early h h336
 exact WQ.returnsF h [] rfl (results1 rfl rfl) (hle22.trans hle37) ⟨rfl, rfl⟩
 have h := ite_f hb42 h
 refine WC.skip ?_
 refine WQ.blockN ?_
 refine WQ.thenC ?_
 refine WC.region ?_
 refine Pm (.int .i64 x38) hs37_6 rfl ?_
 refine Pu (.int .i64 (IntKind.i64.wrap (x38 + 1))) (PO.add rfl rfl) rfl ?_
 refine Pa (.int .i64 (IntKind.i64.wrap (x38 + 1))) rfl rfl ?_
 refine WL.nil ?_
 refine WQ.again (IntKind.i64.wrap (x38 + 1)) (Option.some.inj h).symm ?_
 exact ⟨hle37, rfl, hs37_1, hs37_5, rfl⟩
 have h := ite_f hb39 h
 refine WC.exit ?_
 refine WQ.thenE ?_
 refine WQ.leaveE (Sum.inl ()) (Option.some.inj h).symm (fun heq37 => ?_)
 subst heq37
 have h := elimL hK37
 refine WQ.blockH ?_
 refine WQ.thenFE h ?_
 exact ⟨hle37, rfl⟩
 rintro _ ρ36 M36 H36 rfl ⟨hle36, rfl⟩
 have h := (Sum.elim_inl _ _ _).symm.trans h
 refine Sr ?_
 refine Pa (.bool false) rfl rfl ?_
 refine Nt ?_
 refine WC.ret ?_
 exact WQ.returnsF h [] rfl (results1 rfl rfl) (hle22.trans hle36) ⟨rfl, rfl⟩

noncomputable def f_ref05_num (a0 : Int) (a1 : Bool) (a2 : Int) (a3 : Int) : Option Bool :=
  (if a1 = true then (((if (decide (a2 ≤ a0)) = true then (some (decide (a0 ≤ a3))) else (some false)) : Option Bool).bind fun (x22 : Bool) => (some x22)) else (some (decide (a0 = (0 : Int)))))
def f_ref05_num_post (a0 : Int) (a1 : Bool) (a2 : Int) (a3 : Int) : Bool → Value → IM → HL → Prop :=
  fun (r0 : Bool) (v : Value) (M' : IM) (H' : HL) => (.bool r0) = v ∧ H' = []
theorem f_ref05_num_ok (a0 : Int) (a1 : Bool) (a2 : Int) (a3 : Int) (M : IM) (res : Bool) (h : f_ref05_num a0 a1 a2 a3 = some res) :
    Tri Tryd.prog 74 #[(.int .i64 a0), (.bool a1), (.int .i64 a2), (.int .i64 a3)] M [] (f_ref05_num_post a0 a1 a2 a3 res) := by
 unfold f_ref05_num at h
 refine Tri.enter (fn := Tryd.f74) Tryd.func74 rfl (Nat.le_of_ble_eq_true rfl) ?_
 intro F ρ hρ
 refine Sr ?_
 refine Pa (.bool false) rfl rfl ?_
 refine Nt ?_
 refine WC.seq ?_
 refine Sr ?_
 refine Pm (.bool a1) (hρ 1) rfl ?_
 refine Nt ?_
 refine WC.cond (b := a1) rfl (fun hb21 => ?_) (fun hb21 => ?_)
 have h := ite_t hb21 h
 obtain ⟨x22, hj23, h⟩ := bnd h
 refine WC.joinF (fun (x22 : Bool) ρ' M' H' => M.le M' ∧ F = H' ∧ ρ' 8 = (.bool x22)) x22 ?_ ?_
 have h323 := h
 have h := hj23
 refine WC.region ?_
 refine Pm (.int .i64 a0) (hρ 0) rfl ?_
 refine Pm (.int .i64 a2) (hρ 2) rfl ?_
 refine Pu (.bool (decide (a2 ≤ a0))) (PO.geq rfl rfl) rfl ?_
 refine Pm (.bool (decide (a2 ≤ a0))) rfl rfl ?_
 rcases Bool.eq_false_or_eq_true (decide (a2 ≤ a0)) with hb24 | hb24
 have h := ite_t hb24 h
 refine On 13 rfl rfl hb24 ?_
 refine Pm (.int .i64 a0) (hρ 0) rfl ?_
 refine On 13 rfl rfl hb24 ?_
 refine Pm (.int .i64 a3) (hρ 3) rfl ?_
 refine On 13 rfl rfl hb24 ?_
 refine Pu (.bool (decide (a0 ≤ a3))) (PO.leq rfl rfl) rfl ?_
 refine Pu (.bool (decide (a0 ≤ a3))) (PO.pickT rfl hb24 rfl) rfl ?_
 refine Pa (.bool (decide (a0 ≤ a3))) rfl rfl ?_
 refine WL.nil ?_
 obtain rfl := Option.some.inj h
 refine WQ.thenJ ?_
 exact ⟨(IM.le.refl _), rfl, rfl⟩
 have h := ite_f hb24 h
 iterate 3 refine Of 13 rfl rfl hb24 rfl ?_
 refine Pu (.bool false) (PO.pickF rfl hb24 rfl) rfl ?_
 refine Pa (.bool false) rfl rfl ?_
 refine WL.nil ?_
 obtain rfl := Option.some.inj h
 refine WQ.thenJ ?_
 exact ⟨(IM.le.refl _), rfl, rfl⟩
 rintro ρ23 M23 H23 ⟨hle23, rfl, hs23_8⟩
 refine WC.ret ?_
 refine WQ.thenR ?_
 exact WQ.returnsF h [] rfl (results1 rfl hs23_8) hle23 ⟨rfl, rfl⟩
 have h := ite_f hb21 h
 refine WC.skip ?_
 refine WQ.thenC ?_
 refine Sr ?_
 refine Pm (.int .i64 a0) (hρ 0) rfl ?_
 refine Pu (.bool (decide (a0 = 0))) (PO.eql rfl rfl) rfl ?_
 refine Pa (.bool (decide (a0 = 0))) rfl rfl ?_
 refine Nt ?_
 refine WC.ret ?_
 exact WQ.returnsF h [] rfl (results1 rfl rfl) (IM.le.refl _) ⟨rfl, rfl⟩


end Go.Proofs.YtafkdjljkolehaaDoor.G
