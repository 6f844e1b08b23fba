/- Go functions: what they come to, and that they do. Printed by a program of the session (gen). -/
import Derived.Test.YtjiffdgidodebaaGreatDoorPF
import Derived.Test.YtjiffdgidodebaaGreatDoorP9
import Derived.Test.YtjiffdgidodebaaGreatDoorKShar2
import Derived.Test.YtjiffdgidodebaaGreatDoorKConv
set_option linter.unusedVariables false
set_option linter.unusedSimpArgs false
set_option maxHeartbeats 8000000
set_option maxRecDepth 100000
namespace Go.Proofs.YtjiffdgidodebaaGreatDoor.G
open Go Go.KK

noncomputable def f_law06_works : Option Bool :=
  ((f_batch_Of (3 : Int) (9 : Int) [(⟨(1 : Int), (0 : Int), (0 : Int), (0 : Int), (0 : Int), (0 : Int), (0 : Int), (0 : Int), (0 : Int), false, (⟨#[]⟩ : ByteArray), (⟨#[]⟩ : ByteArray), (⟨#[]⟩ : ByteArray), (⟨#[]⟩ : ByteArray), [], [], [], []⟩ : T_api_Record), (⟨(11 : Int), (0 : Int), (0 : Int), (2 : Int), (0 : Int), (0 : Int), (0 : Int), (0 : Int), (0 : Int), false, (⟨#[]⟩ : ByteArray), (⟨#[]⟩ : ByteArray), (⟨#[]⟩ : ByteArray), (⟨#[]⟩ : ByteArray), [], [], [], []⟩ : T_api_Record)]).bind fun (r26 : T_api_Batch) => ((f_batch_Put r26).bind fun (r32, r33) => ((f_batch_Read r32).bind fun (r44, r45) => ((f_batch_Of (3 : Int) (9 : Int) []).bind fun (r52 : T_api_Batch) => ((f_batch_Put r52).bind fun (r57, r58) => (if (decide ((r26.Records.length : Int) ≠ (2 : Int))) = true then (some false) else (grd (0 ≤ (0 : Int) ∧ (0 : Int) ≤ (1 : Int) ∧ (1 : Int) ≤ (r26.Records.length : Int)) ((f_batch_Split (1 : Int) (5 : Int) (2 : Int) (sub r26.Records (0 : Int) (1 : Int))).bind fun (r73 : (List T_api_Batch)) => (((if r33.isNil = true then (if r45.isNil = true then ((f_batch_Same r44 r26).bind fun (r82 : Bool) => (if r82 = true then ((f_batch_Of (3 : Int) (9 : Int) []).bind fun (r91 : T_api_Batch) => ((f_batch_Same r44 r91).bind fun (r96 : Bool) => (if (!r96) = true then ((f_fault_Is r58 (6 : Int)).bind fun (r108 : Bool) => (if r108 = true then (if (decide ((r73.length : Int) = (1 : Int))) = true then (grd (0 ≤ (0 : Int) ∧ (0 : Int) < r73.length) (if (decide (((rd r73 (0 : Int)).Base) = (5 : Int))) = true then ((f_batch_Check r26).bind fun (r123 : GErr) => (if r123.isNil = true then ((f_batch_Copy r26).bind fun (r129 : T_api_Batch) => ((f_batch_Same r26 r129).bind fun (r134 : Bool) => (some r134))) else (some false))) else (some false))) else (some false)) else (some false))) else (some false)))) else (some false))) else (some false)) else (some false)) : Option Bool).bind fun (x78 : Bool) => (some x78))))))))))
def f_law06_works_post : Bool → Value → IM → HL → Prop :=
  fun (r0 : Bool) (v : Value) (M' : IM) (H' : HL) => (.bool r0) = v ∧ H' = []
theorem f_law06_works_ok (M : IM) (hE : Env M) (res : Bool) (h : f_law06_works = some res) :
    Tri Tryz.prog 7 #[] M [] (f_law06_works_post res) := by
 unfold f_law06_works at h
 refine Tri.enter (fn := Tryz.f7) Tryz.func7 rfl (Nat.le_of_ble_eq_true rfl) ?_
 intro F ρ hρ
 refine Sr ?_
 refine Pa (.bool false) rfl rfl ?_
 refine Ns ?_
 refine Pu (.agg #[(.int .i64 1), (.int .i64 0), (.int .i64 0), (.int .i64 0), (.int .i64 0), (.int .i64 0), (.int .i64 0), (.int .i64 0), (.int .i64 0), (.bool false), (.string ⟨#[]⟩), (.string ⟨#[]⟩), (.string ⟨#[]⟩), (.string ⟨#[]⟩), (.slice none 0 0), (.slice none 0 0), (.slice none 0 0), (.slice none 0 0)]) (PO.buildL (cl := [(.int .i64 1), (.int .i64 0), (.int .i64 0), (.int .i64 0), (.int .i64 0), (.int .i64 0), (.int .i64 0), (.int .i64 0), (.int .i64 0), (.bool false), (.string ⟨#[]⟩), (.string ⟨#[]⟩), (.string ⟨#[]⟩), (.string ⟨#[]⟩), (.slice none 0 0), (.slice none 0 0), (.slice none 0 0), (.slice none 0 0)]) ze67 fp67 (Parts.cons (congrArg Value.cells (show ev _ _ = (.int .i64 1) from rfl)) Parts.nil) rfl) rfl ?_
 refine Pu (.agg #[(.int .i64 11), (.int .i64 0), (.int .i64 0), (.int .i64 2), (.int .i64 0), (.int .i64 0), (.int .i64 0), (.int .i64 0), (.int .i64 0), (.bool false), (.string ⟨#[]⟩), (.string ⟨#[]⟩), (.string ⟨#[]⟩), (.string ⟨#[]⟩), (.slice none 0 0), (.slice none 0 0), (.slice none 0 0), (.slice none 0 0)]) (PO.buildL (cl := [(.int .i64 11), (.int .i64 0), (.int .i64 0), (.int .i64 2), (.int .i64 0), (.int .i64 0), (.int .i64 0), (.int .i64 0), (.int .i64 0), (.bool false), (.string ⟨#[]⟩), (.string ⟨#[]⟩), (.string ⟨#[]⟩), (.string ⟨#[]⟩), (.slice none 0 0), (.slice none 0 0), (.slice none 0 0), (.slice none 0 0)]) ze67 fp67 (Parts.cons (congrArg Value.cells (show ev _ _ = (.int .i64 11) from rfl)) (Parts.cons (congrArg Value.cells (show ev _ _ = (.int .i64 2) from rfl)) Parts.nil)) rfl) rfl ?_
 refine WL.eff (EO.buildSliceL (cl := [(.int .i64 1), (.int .i64 0), (.int .i64 0), (.int .i64 0), (.int .i64 0), (.int .i64 0), (.int .i64 0), (.int .i64 0), (.int .i64 0), (.bool false), (.string ⟨#[]⟩), (.string ⟨#[]⟩), (.string ⟨#[]⟩), (.string ⟨#[]⟩), (.slice none 0 0), (.slice none 0 0), (.slice none 0 0), (.slice none 0 0), (.int .i64 11), (.int .i64 0), (.int .i64 0), (.int .i64 2), (.int .i64 0), (.int .i64 0), (.int .i64 0), (.int .i64 0), (.int .i64 0), (.bool false), (.string ⟨#[]⟩), (.string ⟨#[]⟩), (.string ⟨#[]⟩), (.string ⟨#[]⟩), (.slice none 0 0), (.slice none 0 0), (.slice none 0 0), (.slice none 0 0)]) Tryz.underlying22 iz67 rfl (Parts.cons (congrArg Value.cells (show ev _ _ = (.agg #[(.int .i64 1), (.int .i64 0), (.int .i64 0), (.int .i64 0), (.int .i64 0), (.int .i64 0), (.int .i64 0), (.int .i64 0), (.int .i64 0), (.bool false), (.string ⟨#[]⟩), (.string ⟨#[]⟩), (.string ⟨#[]⟩), (.string ⟨#[]⟩), (.slice none 0 0), (.slice none 0 0), (.slice none 0 0), (.slice none 0 0)]) from rfl)) (Parts.cons (congrArg Value.cells (show ev _ _ = (.agg #[(.int .i64 11), (.int .i64 0), (.int .i64 0), (.int .i64 2), (.int .i64 0), (.int .i64 0), (.int .i64 0), (.int .i64 0), (.int .i64 0), (.bool false), (.string ⟨#[]⟩), (.string ⟨#[]⟩), (.string ⟨#[]⟩), (.string ⟨#[]⟩), (.slice none 0 0), (.slice none 0 0), (.slice none 0 0), (.slice none 0 0)]) from rfl)) Parts.nil)) rfl) rfl ?_
 rintro _ _ _ - ⟨rfl, g21, rfl, rfl⟩
 have h23 : OwnS kd_api_Record M (.slice (some ⟨g21, 0, none⟩) 2 2) [(⟨(1 : Int), (0 : Int), (0 : Int), (0 : Int), (0 : Int), (0 : Int), (0 : Int), (0 : Int), (0 : Int), false, (⟨#[]⟩ : ByteArray), (⟨#[]⟩ : ByteArray), (⟨#[]⟩ : ByteArray), (⟨#[]⟩ : ByteArray), [], [], [], []⟩ : T_api_Record), (⟨(11 : Int), (0 : Int), (0 : Int), (2 : Int), (0 : Int), (0 : Int), (0 : Int), (0 : Int), (0 : Int), false, (⟨#[]⟩ : ByteArray), (⟨#[]⟩ : ByteArray), (⟨#[]⟩ : ByteArray), (⟨#[]⟩ : ByteArray), [], [], [], []⟩ : T_api_Record)] [(g21, .cells #[(.int .i64 1), (.int .i64 0), (.int .i64 0), (.int .i64 0), (.int .i64 0), (.int .i64 0), (.int .i64 0), (.int .i64 0), (.int .i64 0), (.bool false), (.string ⟨#[]⟩), (.string ⟨#[]⟩), (.string ⟨#[]⟩), (.string ⟨#[]⟩), (.slice none 0 0), (.slice none 0 0), (.slice none 0 0), (.slice none 0 0), (.int .i64 11), (.int .i64 0), (.int .i64 0), (.int .i64 2), (.int .i64 0), (.int .i64 0), (.int .i64 0), (.int .i64 0), (.int .i64 0), (.bool false), (.string ⟨#[]⟩), (.string ⟨#[]⟩), (.string ⟨#[]⟩), (.string ⟨#[]⟩), (.slice none 0 0), (.slice none 0 0), (.slice none 0 0), (.slice none 0 0)] 67 (0, 0))] := OwnS.rows (css := [[(.int .i64 1), (.int .i64 0), (.int .i64 0), (.int .i64 0), (.int .i64 0), (.int .i64 0), (.int .i64 0), (.int .i64 0), (.int .i64 0), (.bool false), (.string ⟨#[]⟩), (.string ⟨#[]⟩), (.string ⟨#[]⟩), (.string ⟨#[]⟩), (.slice none 0 0), (.slice none 0 0), (.slice none 0 0), (.slice none 0 0)], [(.int .i64 11), (.int .i64 0), (.int .i64 0), (.int .i64 2), (.int .i64 0), (.int .i64 0), (.int .i64 0), (.int .i64 0), (.int .i64 0), (.bool false), (.string ⟨#[]⟩), (.string ⟨#[]⟩), (.string ⟨#[]⟩), (.string ⟨#[]⟩), (.slice none 0 0), (.slice none 0 0), (.slice none 0 0), (.slice none 0 0)]]) (Rows.cons (kd_api_Record_mk (x := (⟨(1 : Int), (0 : Int), (0 : Int), (0 : Int), (0 : Int), (0 : Int), (0 : Int), (0 : Int), (0 : Int), false, (⟨#[]⟩ : ByteArray), (⟨#[]⟩ : ByteArray), (⟨#[]⟩ : ByteArray), (⟨#[]⟩ : ByteArray), [], [], [], []⟩ : T_api_Record)) (RS.nil _ _) (RS.nil _ _) (RS.nil _ _) (RS.nil _ _)) (Rows.cons (kd_api_Record_mk (x := (⟨(11 : Int), (0 : Int), (0 : Int), (2 : Int), (0 : Int), (0 : Int), (0 : Int), (0 : Int), (0 : Int), false, (⟨#[]⟩ : ByteArray), (⟨#[]⟩ : ByteArray), (⟨#[]⟩ : ByteArray), (⟨#[]⟩ : ByteArray), [], [], [], []⟩ : T_api_Record)) (RS.nil _ _) (RS.nil _ _) (RS.nil _ _) (RS.nil _ _)) Rows.nil)) rfl rfl
 refine WL.know (fun _ hs => h23.rs hs) (fun hf25 => ?_)
 refine WL.freeze (fun hle24 => ?_)
 have hE := hE.mono hle24
 obtain ⟨r26, hr27, h⟩ := bnd h
 refine WL.eff (EO.call0 co14 (f_batch_Of_ok (3 : Int) (9 : Int) [(⟨(1 : Int), (0 : Int), (0 : Int), (0 : Int), (0 : Int), (0 : Int), (0 : Int), (0 : Int), (0 : Int), false, (⟨#[]⟩ : ByteArray), (⟨#[]⟩ : ByteArray), (⟨#[]⟩ : ByteArray), (⟨#[]⟩ : ByteArray), [], [], [], []⟩ : T_api_Record), (⟨(11 : Int), (0 : Int), (0 : Int), (2 : Int), (0 : Int), (0 : Int), (0 : Int), (0 : Int), (0 : Int), false, (⟨#[]⟩ : ByteArray), (⟨#[]⟩ : ByteArray), (⟨#[]⟩ : ByteArray), (⟨#[]⟩ : ByteArray), [], [], [], []⟩ : T_api_Record)] _ _ hf25 r26 hr27) (args3 rfl rfl rfl)) rfl ?_
 rintro _ M28 _ hle29 ⟨_, ⟨vq30_2, cq30_2, rfl, rfl, hq30_2⟩, rfl⟩
 have hf25 := hf25.mono hle29
 have hE := hE.mono hle29
 refine WL.a1 ?_
 refine WL.eff (EO.alloc ze24 rfl) rfl ?_
 rintro _ _ _ - ⟨rfl, g31, rfl, rfl⟩
 refine WL.eff (EO.storeL (v := (a24_ r26 vq30_2)) (vl := (l24 r26 vq30_2)) (arr' := (l24 r26 vq30_2)) rfl sz24 rfl rfl (onesOf (Ones.cons rfl (Ones.cons rfl (Ones.cons (OwnS.one hq30_2) Ones.nil)))) rfl rfl rfl) rfl ?_
 rintro _ _ _ - ⟨rfl, rfl⟩
 refine Ns ?_
 refine Pu (a24_ r26 vq30_2) (PO.loadBA (cs := (l24 r26 vq30_2)) 0 ag24 sz24 rfl rfl rfl) rfl ?_
 obtain ⟨⟨r32, r33⟩, hr34, h⟩ := bnd h
 refine WL.f1 ?_
 refine WL.eff (EO.call1 co15 (Tri.lend hq30_2.excl fun w0_ H0_ hs0_ => (f_batch_Put_ok r26 _ _ (hq30_2.rs hs0_) (r32, r33) hr34)) (args1 rfl)) rfl ?_
 rintro _ _ _ hle36 ⟨_, ⟨Ml39, Hl40, hll41, rfl, rfl, ⟨vq37, cq37, rfl, rfl, hq37⟩⟩, rfl⟩
 have hq30_2 := hq30_2.mono hle36
 have hE := hE.mono hle36
 have hq37 : OwnS (Kd.int .u8) (Ml39.minus cq30_2) vq37 r32 cq37 := hq37.any (Kd.int_flat _)
 refine WL.a2 ?_
 refine Pm (.tuple #[vq37, (GV r33)]) rfl rfl ?_
 refine Pu vq37 (PO.extract rfl rfl) rfl ?_
 refine Pu (GV r33) (PO.extract rfl rfl) rfl ?_
 refine Pa vq37 rfl rfl ?_
 refine Pa (GV r33) rfl rfl ?_
 refine Ns ?_
 refine Pm vq37 rfl rfl ?_
 refine WL.f1 ?_
 refine WL.know (fun _ hs => hq37.rs hs) (fun hf43 => ?_)
 refine WL.freeze (fun hle42 => ?_)
 have hq30_2 := hq30_2.mono hle42
 have hE := hE.mono hle42
 obtain ⟨⟨r44, r45⟩, hr46, h⟩ := bnd h
 refine WL.eff (EO.call0 co18 (f_batch_Read_ok r32 _ _ hf43 hE (r44, r45) hr46) (args1 rfl)) rfl ?_
 rintro _ M47 _ hle48 ⟨_, ⟨vq49_2, cq49_2, rfl, rfl, hq49_2⟩, rfl⟩
 have hf43 := hf43.mono hle48
 have hq30_2 := hq30_2.mono hle48
 have hE := hE.mono hle48
 refine WL.a1 ?_
 refine Pm (.tuple #[(a24_ r44 vq49_2), (GV r45)]) rfl rfl ?_
 refine Pu (a24_ r44 vq49_2) (PO.extract rfl rfl) rfl ?_
 refine Pu (GV r45) (PO.extract rfl rfl) rfl ?_
 refine WL.eff (EO.alloc ze24 rfl) rfl ?_
 rintro _ _ _ - ⟨rfl, g51, rfl, rfl⟩
 refine WL.eff (EO.storeL (v := (a24_ r44 vq49_2)) (vl := (l24 r44 vq49_2)) (arr' := (l24 r44 vq49_2)) rfl sz24 rfl rfl (onesOf (Ones.cons rfl (Ones.cons rfl (Ones.cons (OwnS.one hq49_2) Ones.nil)))) rfl rfl rfl) rfl ?_
 rintro _ _ _ - ⟨rfl, rfl⟩
 refine Pa (GV r45) rfl rfl ?_
 refine Ns ?_
 obtain ⟨r52, hr53, h⟩ := bnd h
 refine WL.eff (EO.call0 co14 (f_batch_Of_ok (3 : Int) (9 : Int) [] _ _ (RS.nil _ _) r52 hr53) (args3 rfl rfl rfl)) rfl ?_
 rintro _ M54 _ hle55 ⟨_, ⟨vq56_2, cq56_2, rfl, rfl, hq56_2⟩, rfl⟩
 have hq30_2 := hq30_2.mono hle55
 have hq49_2 := hq49_2.mono hle55
 have hE := hE.mono hle55
 refine WL.a1 ?_
 obtain ⟨⟨r57, r58⟩, hr59, h⟩ := bnd h
 refine WL.eff (EO.call1 co15 (Tri.lend hq56_2.excl fun w0_ H0_ hs0_ => (f_batch_Put_ok r52 _ _ (hq56_2.rs hs0_) (r57, r58) hr59)) (args1 rfl)) rfl ?_
 rintro _ _ _ hle61 ⟨_, ⟨Ml64, Hl65, hll66, rfl, rfl, ⟨vq62, cq62, rfl, rfl, hq62⟩⟩, rfl⟩
 have hq56_2 := hq56_2.mono hle61
 have hq30_2 := hq30_2.mono hle61
 have hq49_2 := hq49_2.mono hle61
 have hE := hE.mono hle61
 have hq62 : OwnS (Kd.int .u8) (Ml64.minus cq56_2) vq62 r57 cq62 := hq62.any (Kd.int_flat _)
 refine WL.a2 ?_
 refine Pm (.tuple #[vq62, (GV r58)]) rfl rfl ?_
 refine Pu vq62 (PO.extract rfl rfl) rfl ?_
 refine Pu (GV r58) (PO.extract rfl rfl) rfl ?_
 refine Pa vq62 rfl rfl ?_
 refine Pa (GV r58) rfl rfl ?_
 refine Nt ?_
 refine WC.seq ?_
 refine Sr ?_
 refine Pu (pt g31 2) (PO.fieldAddr fo24_2 rfl rfl) rfl ?_
 refine Pu vq30_2 (PO.loadB 5 pl22 rfl rfl rfl) rfl ?_
 refine Pu (.int .i64 (r26.Records.length : Int)) (PO.lenS Tryz.underlying22 rfl hq30_2.len) rfl ?_
 refine Pu (.bool (decide ((r26.Records.length : Int) ≠ (2 : Int)))) (PO.neq rfl rfl) rfl ?_
 refine Nt ?_
 refine WC.cond (b := decide ((r26.Records.length : Int) ≠ (2 : Int))) rfl (fun hb67 => ?_) (fun hb67 => ?_)
 have h := ite_t hb67 h
 refine Sr ?_
 refine Pa (.bool false) rfl rfl ?_
 refine Nt ?_
 refine WC.ret ?_
 refine WQ.thenR ?_
 refine WQ.drop ?_
 refine WQ.drop ?_
 refine WQ.drop ?_
 refine WQ.drop ?_
 refine WQ.drop ?_
 refine WQ.drop ?_
 exact WQ.returnsF h [] rfl (results1 rfl rfl) ((((((hle24.trans hle29).trans hle36).trans hle42).trans hle48).trans hle55).trans hle61) ⟨rfl, rfl⟩
 have h := ite_f hb67 h
 refine WC.skip ?_
 refine WQ.thenC ?_
 refine Sr ?_
 refine Pu (pt g31 2) (PO.fieldAddr fo24_2 rfl rfl) rfl ?_
 refine Pu vq30_2 (PO.loadB 5 pl22 rfl rfl rfl) rfl ?_
 obtain ⟨hg68, h⟩ := grd_i h
 have h69 := hq30_2.sub hg68.1 hg68.2.1 hg68.2.2
 refine Pu (slV vq30_2 18 ((0 : Int)).toNat ((1 : Int)).toNat) (PO.slice (n := r26.Records.length) (l := ((0 : Int)).toNat) (h := ((1 : Int)).toNat) Tryz.underlying22 sz67 rfl hq30_2.len hq30_2.cap (bound0 rfl) ⟨_, _, rfl, (Int.le_trans hg68.1 hg68.2.1), rfl⟩ (Int.toNat_le_toNat hg68.2.1) (toNat_le_len hg68.2.2)) rfl ?_
 refine WL.f4 ?_
 refine WL.know (fun _ hs => hq30_2.rs hs) (fun hf71 => ?_)
 refine WL.know (fun _ hs => h69.rs hs) (fun hf72 => ?_)
 refine WL.freeze (fun hle70 => ?_)
 have hq49_2 := hq49_2.mono hle70
 have hE := hE.mono hle70
 obtain ⟨r73, hr74, h⟩ := bnd h
 refine WL.eff (EO.call0 co27 (f_batch_Split_ok (1 : Int) (5 : Int) (2 : Int) (sub r26.Records (0 : Int) (1 : Int)) _ _ hf72 r73 hr74) (args4 rfl rfl rfl rfl)) rfl ?_
 rintro _ M75 _ hle76 ⟨_, ⟨vq77, cq77, rfl, rfl, hq77⟩, rfl⟩
 have hf71 := hf71.mono hle76
 have hf72 := hf72.mono hle76
 have hq49_2 := hq49_2.mono hle76
 have hE := hE.mono hle76
 refine WL.a1 ?_
 refine Pa vq77 rfl rfl ?_
 refine Nt ?_
 obtain ⟨x78, hj79, h⟩ := bnd h
 refine WC.joinF (fun (x78 : Bool) ρ' M' H' => M75.le M' ∧ [(g51, .cells (l24 r44 vq49_2).toArray 24 (0, 0))] :: [(g31, .cells (l24 r26 vq30_2).toArray 24 (0, 0))] :: cq49_2 :: F = H' ∧ ρ' 0 = (.bool x78)) x78 ?_ ?_
 have h379 := h
 have h := hj79
 refine WC.draw [0, 1, 3, 7, 15, 31, 63, 127, 127, 511, 1023, 2047, 4095, 4095, 16383, 32767, 65535, 131071, 262143, 524287, 1048575, 2097151, 4194303, 8388607, 16777215, 33554431, 67108863, 134217727, 268435455, 536870911, 1073741823, 2147483647, 4294967295, 8589934591, 17179869183, 34359738367, 68719476735, 137438953471, 274877906943, 549755813887, 549755813887, 1649267441663, 4398046511103, 8796093022207, 17592186044415] (.pure 0 (.pure 1 (.pure 2 (.pure 3 (.pure 4 (.pure 5 (.pure 6 (.pure 7 (.pure 8 (.alt 9 (.pure 10 (.pure 11 (.pure 12 (.alt 13 (.alt 14 (.pure 15 (.pure 16 (.pure 17 (.pure 18 (.alt 19 (.pure 20 (.pure 21 (.pure 22 (.pure 23 (.pure 24 (.pure 25 (.pure 26 (.pure 27 (.pure 28 (.pure 29 (.pure 30 (.pure 31 (.pure 32 (.pure 33 (.pure 34 (.alt 35 (.pure 36 (.pure 37 (.pure 38 (.pure 39 (.pure 40 (.alt 41 (.alt 42 (.pure 43 (.pure 44 .done)) .none) .none)))))) .none)))))))))))))))) .none))))) .none) .none)))) .none)))))))))) mixed (by kernel_rfl) ?_
 refine Tp (GV r33) rfl (PO.move rfl) rfl ?_
 refine Tp (.bool r33.isNil) rfl (PO.errNil Tryz.underlying29 rfl) rfl ?_
 refine Tp (.bool r33.isNil) rfl (PO.move rfl) rfl ?_
 rcases Bool.eq_false_or_eq_true (r33.isNil) with hb80 | hb80
 have h := ite_t hb80 h
 refine Tn (GV r45) 38 rfl rfl rfl hb80 (PO.move rfl) rfl ?_
 refine Tn (.bool r45.isNil) 38 rfl rfl rfl hb80 (PO.errNil Tryz.underlying29 rfl) rfl ?_
 refine Tp (.bool r45.isNil) rfl (PO.pickT rfl hb80 rfl) rfl ?_
 refine Tp (.bool r45.isNil) rfl (PO.move rfl) rfl ?_
 rcases Bool.eq_false_or_eq_true (r45.isNil) with hb81 | hb81
 have h := ite_t hb81 h
 refine Tn (a24_ r44 vq49_2) 42 rfl rfl rfl hb81 (PO.loadBA (cs := (l24 r44 vq49_2)) 3 ag24 sz24 rfl rfl rfl) rfl ?_
 refine Tn (a24_ r26 vq30_2) 42 rfl rfl rfl hb81 (PO.loadBA (cs := (l24 r26 vq30_2)) 5 ag24 sz24 rfl rfl rfl) rfl ?_
 obtain ⟨r82, hr83, h⟩ := bnd h
 refine WT.f4 ?_
 refine WT.altOn 42 rfl rfl rfl hb81 (EO.call1 co11 (Tri.lend hq49_2.excl fun w0_ H0_ hs0_ => (f_batch_Same_ok r44 r26 _ _ _ (hq49_2.rs hs0_) (hf71.mono (IM.le_add _ _)) r82 hr83)) (args2 rfl rfl)) rfl ?_ ?_
 rintro _ _ _ hle85 ⟨_, ⟨Ml87, Hl88, hll89, rfl, rfl, ⟨rfl, rfl⟩⟩, rfl⟩
 have hq77 := hq77.mono hle85
 have hq49_2 := hq49_2.mono hle85
 have hf71 := hf71.mono hle85
 have hE := hE.mono hle85
 refine ⟨(StabL.anc rfl (StabL.anc rfl (StabL.anc rfl (StabL.anc rfl (StabL.anc rfl (StabL.anc rfl (StabL.anc rfl (StabL.anc rfl (StabL.anc rfl trivial))))))))), ?_⟩
 refine WT.a1 ?_
 refine Tp (.bool r82) rfl (PO.pickT rfl hb81 rfl) rfl ?_
 refine Tp (.bool r82) rfl (PO.move rfl) rfl ?_
 rcases Bool.eq_false_or_eq_true (r82) with hb90 | hb90
 have h := ite_t hb90 h
 refine Tn (a24_ r44 vq49_2) 47 rfl rfl rfl hb90 (PO.loadBA (cs := (l24 r44 vq49_2)) 4 ag24 sz24 rfl rfl rfl) rfl ?_
 obtain ⟨r91, hr92, h⟩ := bnd h
 refine WT.altOn 47 rfl rfl rfl hb90 (EO.call0 co14 (f_batch_Of_ok (3 : Int) (9 : Int) [] _ _ (RS.nil _ _) r91 hr92) (args3 rfl rfl rfl)) rfl ?_ ?_
 rintro _ M93 _ hle94 ⟨_, ⟨vq95_2, cq95_2, rfl, rfl, hq95_2⟩, rfl⟩
 have hq77 := hq77.mono hle94
 have hq49_2 := hq49_2.mono hle94
 have hf71 := hf71.mono hle94
 have hE := hE.mono hle94
 refine ⟨(StabL.st (StabA.on 47 rfl rfl rfl hb90 (PO.loadBA (cs := (l24 r44 vq49_2)) 5 ag24 sz24 rfl rfl rfl) rfl) (StabL.anc rfl (StabL.anc rfl (StabL.anc rfl (StabL.anc rfl (StabL.anc rfl (StabL.anc rfl (StabL.anc rfl (StabL.anc rfl (StabL.anc rfl (StabL.anc rfl (StabL.anc rfl trivial)))))))))))), ?_⟩
 refine WT.a1 ?_
 obtain ⟨r96, hr97, h⟩ := bnd h
 refine WT.f1 ?_
 refine WT.altOn 47 rfl rfl rfl hb90 (EO.call2 co11 (Tri.lend hq49_2.excl fun w0_ H0_ hs0_ => (Tri.lend hq95_2.excl fun w1_ H1_ hs1_ => (f_batch_Same_ok r44 r91 _ _ _ ((hq49_2.rs hs0_).mono (IM.le_add _ _)) ((hq95_2.mono (IM.le_add _ _)).rs hs1_) r96 hr97))) (args2 rfl rfl)) rfl ?_ ?_
 rintro _ _ _ hle99 ⟨_, ⟨Ml104, Hl105, hll106, rfl, rfl, ⟨Ml101, Hl102, hll103, rfl, rfl, ⟨rfl, rfl⟩⟩⟩, rfl⟩
 have hq77 := hq77.mono hle99
 have hq49_2 := hq49_2.mono hle99
 have hf71 := hf71.mono hle99
 have hq95_2 := hq95_2.mono hle99
 have hE := hE.mono hle99
 refine ⟨(StabL.anc rfl (StabL.anc rfl (StabL.anc rfl (StabL.anc rfl (StabL.anc rfl (StabL.anc rfl (StabL.anc rfl (StabL.anc rfl (StabL.anc rfl (StabL.anc rfl (StabL.anc rfl (StabL.anc rfl trivial)))))))))))), ?_⟩
 refine WT.a2 ?_
 refine Tn (.bool (!r96)) 47 rfl rfl rfl hb90 (PO.not rfl) rfl ?_
 refine Tp (.bool (!r96)) rfl (PO.pickT rfl hb90 rfl) rfl ?_
 refine Tp (.bool (!r96)) rfl (PO.move rfl) rfl ?_
 rcases Bool.eq_false_or_eq_true (!r96) with hb107 | hb107
 have h := ite_t hb107 h
 refine Tn (GV r58) 53 rfl rfl rfl hb107 (PO.move rfl) rfl ?_
 obtain ⟨r108, hr109, h⟩ := bnd h
 refine WT.altOn 53 rfl rfl rfl hb107 (EO.call0 co28 (f_fault_Is_ok r58 (6 : Int) _ r108 hr109) (args2 rfl rfl)) rfl ?_ ?_
 rintro _ M110 _ hle111 ⟨_, ⟨rfl, rfl⟩, rfl⟩
 have hq77 := hq77.mono hle111
 have hq49_2 := hq49_2.mono hle111
 have hf71 := hf71.mono hle111
 have hq95_2 := hq95_2.mono hle111
 have hE := hE.mono hle111
 refine ⟨(StabL.anc rfl (StabL.anc rfl (StabL.anc rfl (StabL.anc rfl (StabL.anc rfl (StabL.anc rfl (StabL.anc rfl (StabL.anc rfl (StabL.anc rfl (StabL.anc rfl (StabL.anc rfl (StabL.anc rfl (StabL.anc rfl (StabL.anc rfl (StabL.anc rfl (StabL.anc rfl trivial)))))))))))))))), ?_⟩
 refine WT.a0 ?_
 refine Tp (.bool r108) rfl (PO.pickT rfl hb107 rfl) rfl ?_
 refine Tp (.bool r108) rfl (PO.move rfl) rfl ?_
 rcases Bool.eq_false_or_eq_true (r108) with hb113 | hb113
 have h := ite_t hb113 h
 refine Tn vq77 57 rfl rfl rfl hb113 (PO.move rfl) rfl ?_
 refine Tn (.int .i64 (r73.length : Int)) 57 rfl rfl rfl hb113 (PO.lenS Tryz.underlying68 rfl hq77.len) rfl ?_
 refine Tn (.bool (decide ((r73.length : Int) = (1 : Int)))) 57 rfl rfl rfl hb113 (PO.eql rfl rfl) rfl ?_
 refine Tp (.bool (decide ((r73.length : Int) = (1 : Int)))) rfl (PO.pickT rfl hb113 rfl) rfl ?_
 refine Tp (.bool (decide ((r73.length : Int) = (1 : Int)))) rfl (PO.move rfl) rfl ?_
 rcases Bool.eq_false_or_eq_true (decide ((r73.length : Int) = (1 : Int))) with hb114 | hb114
 have h := ite_t hb114 h
 refine Tn vq77 62 rfl rfl rfl hb114 (PO.move rfl) rfl ?_
 obtain ⟨hg115, h⟩ := grd_i h
 obtain ⟨p116, cs117, hat118, hrc119, hhas120⟩ := hq77.at hg115.1 hg115.2
 obtain ⟨vw121_2, rfl, hw121_2⟩ := kd_api_Batch_open hrc119
 refine Tn (.pointer (some p116)) 62 rfl rfl rfl hb114 (PO.indexAddr (n := r73.length) Tryz.underlying68 sz24 rfl rfl hg115.1 hg115.2 hat118) rfl ?_
 refine Tn (.pointer (some (p116.add 1))) 62 rfl rfl rfl hb114 (PO.fieldAddr fo24_1 rfl rfl) rfl ?_
 refine Tn (.int .i64 ((rd r73 (0 : Int)).Base)) 62 rfl rfl rfl hb114 (PO.loadC 2 pl3 rfl rfl (hhas120 1 _ rfl)) rfl ?_
 refine Tn (.bool (decide (((rd r73 (0 : Int)).Base) = 5))) 62 rfl rfl rfl hb114 (PO.eql rfl rfl) rfl ?_
 refine Tp (.bool (decide (((rd r73 (0 : Int)).Base) = 5))) rfl (PO.pickT rfl hb114 rfl) rfl ?_
 refine Tp (.bool (decide (((rd r73 (0 : Int)).Base) = 5))) rfl (PO.move rfl) rfl ?_
 rcases Bool.eq_false_or_eq_true (decide (((rd r73 (0 : Int)).Base) = 5)) with hb122 | hb122
 have h := ite_t hb122 h
 refine Tn (a24_ r26 vq30_2) 69 rfl rfl rfl hb122 (PO.loadBA (cs := (l24 r26 vq30_2)) 6 ag24 sz24 rfl rfl rfl) rfl ?_
 obtain ⟨r123, hr124, h⟩ := bnd h
 refine WT.altOn 69 rfl rfl rfl hb122 (EO.call0 co9 (f_batch_Check_ok r26 _ _ hf71 r123 hr124) (args1 rfl)) rfl ?_ ?_
 rintro _ M125 _ hle126 ⟨_, ⟨rfl, rfl⟩, rfl⟩
 have hq77 := hq77.mono hle126
 have hq49_2 := hq49_2.mono hle126
 have hf71 := hf71.mono hle126
 have hq95_2 := hq95_2.mono hle126
 have hw121_2 := hw121_2.mono hle126
 have hE := hE.mono hle126
 refine ⟨(StabL.anc rfl (StabL.anc rfl (StabL.anc rfl (StabL.anc rfl (StabL.anc rfl (StabL.anc rfl (StabL.anc rfl (StabL.anc rfl (StabL.anc rfl (StabL.anc rfl (StabL.anc rfl (StabL.anc rfl (StabL.anc rfl (StabL.anc rfl (StabL.anc rfl (StabL.anc rfl (StabL.anc rfl (StabL.anc rfl (StabL.anc rfl (StabL.anc rfl (StabL.anc rfl (StabL.anc rfl (StabL.anc rfl (StabL.anc rfl (StabL.anc rfl (StabL.anc rfl (StabL.anc rfl (StabL.anc rfl (StabL.anc rfl (StabL.anc rfl (StabL.anc rfl trivial))))))))))))))))))))))))))))))), ?_⟩
 refine WT.a0 ?_
 refine Tn (.bool r123.isNil) 69 rfl rfl rfl hb122 (PO.errNil Tryz.underlying29 rfl) rfl ?_
 refine Tp (.bool r123.isNil) rfl (PO.pickT rfl hb122 rfl) rfl ?_
 refine Tp (.bool r123.isNil) rfl (PO.move rfl) rfl ?_
 rcases Bool.eq_false_or_eq_true (r123.isNil) with hb128 | hb128
 have h := ite_t hb128 h
 refine Tn (a24_ r26 vq30_2) 74 rfl rfl rfl hb128 (PO.loadBA (cs := (l24 r26 vq30_2)) 6 ag24 sz24 rfl rfl rfl) rfl ?_
 refine Tn (a24_ r26 vq30_2) 74 rfl rfl rfl hb128 (PO.loadBA (cs := (l24 r26 vq30_2)) 6 ag24 sz24 rfl rfl rfl) rfl ?_
 obtain ⟨r129, hr130, h⟩ := bnd h
 refine WT.altOn 74 rfl rfl rfl hb128 (EO.call0 co13 (f_batch_Copy_ok r26 _ _ hf71 r129 hr130) (args1 rfl)) rfl ?_ ?_
 rintro _ M131 _ hle132 ⟨_, ⟨vq133_2, cq133_2, rfl, rfl, hq133_2⟩, rfl⟩
 have hq77 := hq77.mono hle132
 have hq49_2 := hq49_2.mono hle132
 have hf71 := hf71.mono hle132
 have hq95_2 := hq95_2.mono hle132
 have hw121_2 := hw121_2.mono hle132
 have hE := hE.mono hle132
 refine ⟨(StabL.anc rfl (StabL.st (StabA.on 74 rfl rfl rfl hb128 (PO.loadBA (cs := (l24 r26 vq30_2)) 7 ag24 sz24 rfl rfl rfl) rfl) (StabL.anc rfl (StabL.anc rfl (StabL.anc rfl (StabL.anc rfl (StabL.anc rfl (StabL.anc rfl (StabL.anc rfl (StabL.anc rfl (StabL.anc rfl (StabL.anc rfl (StabL.anc rfl (StabL.anc rfl (StabL.anc rfl (StabL.anc rfl (StabL.anc rfl (StabL.anc rfl (StabL.anc rfl (StabL.anc rfl (StabL.anc rfl (StabL.anc rfl (StabL.anc rfl (StabL.anc rfl (StabL.anc rfl (StabL.anc rfl (StabL.anc rfl (StabL.anc rfl (StabL.anc rfl (StabL.anc rfl (StabL.anc rfl (StabL.anc rfl (StabL.anc rfl (StabL.anc rfl (StabL.anc rfl (StabL.anc rfl trivial)))))))))))))))))))))))))))))))))))), ?_⟩
 refine WT.a1 ?_
 obtain ⟨r134, hr135, h⟩ := bnd h
 refine WT.altOn 74 rfl rfl rfl hb128 (EO.call1 co11 (Tri.lend hq133_2.excl fun w0_ H0_ hs0_ => (f_batch_Same_ok r26 r129 _ _ _ (hf71.mono (IM.le_add _ _)) (hq133_2.rs hs0_) r134 hr135)) (args2 rfl rfl)) rfl ?_ ?_
 rintro _ _ _ hle137 ⟨_, ⟨Ml139, Hl140, hll141, rfl, rfl, ⟨rfl, rfl⟩⟩, rfl⟩
 have hq77 := hq77.mono hle137
 have hq49_2 := hq49_2.mono hle137
 have hf71 := hf71.mono hle137
 have hq95_2 := hq95_2.mono hle137
 have hw121_2 := hw121_2.mono hle137
 have hq133_2 := hq133_2.mono hle137
 have hE := hE.mono hle137
 refine ⟨(StabL.anc rfl (StabL.anc rfl (StabL.anc rfl (StabL.anc rfl (StabL.anc rfl (StabL.anc rfl (StabL.anc rfl (StabL.anc rfl (StabL.anc rfl (StabL.anc rfl (StabL.anc rfl (StabL.anc rfl (StabL.anc rfl (StabL.anc rfl (StabL.anc rfl (StabL.anc rfl (StabL.anc rfl (StabL.anc rfl (StabL.anc rfl (StabL.anc rfl (StabL.anc rfl (StabL.anc rfl (StabL.anc rfl (StabL.anc rfl (StabL.anc rfl (StabL.anc rfl (StabL.anc rfl (StabL.anc rfl (StabL.anc rfl (StabL.anc rfl (StabL.anc rfl (StabL.anc rfl (StabL.anc rfl (StabL.anc rfl (StabL.anc rfl (StabL.anc rfl trivial)))))))))))))))))))))))))))))))))))), ?_⟩
 refine WT.a1 ?_
 refine Tp (.bool r134) rfl (PO.pickT rfl hb128 rfl) rfl ?_
 refine Tp (.bool r134) rfl (PO.assign rfl) rfl ?_
 refine WT.fin ?_
 refine WQ.drop ?_
 refine WQ.f1 ?_
 refine WQ.drop ?_
 refine WQ.f1 ?_
 refine WQ.drop ?_
 refine WQ.f1 ?_
 refine WQ.drop ?_
 refine WQ.f1 ?_
 refine WQ.drop ?_
 refine WQ.f2 ?_
 refine WQ.f2 ?_
 obtain rfl := Option.some.inj h
 refine WQ.thenJ ?_
 exact ⟨((((((hle85.trans hle94).trans hle99).trans hle111).trans hle126).trans hle132).trans hle137), rfl, rfl⟩
 exact WT.no
 exact WT.no
 have h := ite_f hb128 h
 refine WT.pureOff 74 rfl rfl rfl hb128 rfl ?_
 refine WT.pureOff 74 rfl rfl rfl hb128 rfl ?_
 refine WT.altOff 74 rfl rfl rfl hb128 rfl ⟨(StabL.anc rfl (StabL.st (StabA.off 74 rfl rfl rfl hb128 rfl) (StabL.anc rfl (StabL.anc rfl (StabL.anc rfl (StabL.anc rfl (StabL.anc rfl (StabL.anc rfl (StabL.anc rfl (StabL.anc rfl (StabL.anc rfl (StabL.anc rfl (StabL.anc rfl (StabL.anc rfl (StabL.anc rfl (StabL.anc rfl (StabL.anc rfl (StabL.anc rfl (StabL.anc rfl (StabL.anc rfl (StabL.anc rfl (StabL.anc rfl (StabL.anc rfl (StabL.anc rfl (StabL.anc rfl (StabL.anc rfl (StabL.anc rfl (StabL.anc rfl (StabL.anc rfl (StabL.anc rfl (StabL.anc rfl (StabL.anc rfl (StabL.anc rfl (StabL.anc rfl (StabL.anc rfl (StabL.anc rfl trivial)))))))))))))))))))))))))))))))))))), ?_⟩ ?_
 refine WT.altOff 74 rfl rfl rfl hb128 rfl ⟨(StabL.anc rfl (StabL.anc rfl (StabL.anc rfl (StabL.anc rfl (StabL.anc rfl (StabL.anc rfl (StabL.anc rfl (StabL.anc rfl (StabL.anc rfl (StabL.anc rfl (StabL.anc rfl (StabL.anc rfl (StabL.anc rfl (StabL.anc rfl (StabL.anc rfl (StabL.anc rfl (StabL.anc rfl (StabL.anc rfl (StabL.anc rfl (StabL.anc rfl (StabL.anc rfl (StabL.anc rfl (StabL.anc rfl (StabL.anc rfl (StabL.anc rfl (StabL.anc rfl (StabL.anc rfl (StabL.anc rfl (StabL.anc rfl (StabL.anc rfl (StabL.anc rfl (StabL.anc rfl (StabL.anc rfl (StabL.anc rfl (StabL.anc rfl (StabL.anc rfl trivial)))))))))))))))))))))))))))))))))))), ?_⟩ ?_
 refine Tp (.bool false) rfl (PO.pickF rfl hb128 rfl) rfl ?_
 refine Tp (.bool false) rfl (PO.assign rfl) rfl ?_
 refine WT.fin ?_
 refine WQ.f1 ?_
 refine WQ.drop ?_
 refine WQ.f1 ?_
 refine WQ.drop ?_
 refine WQ.f1 ?_
 refine WQ.drop ?_
 refine WQ.f1 ?_
 refine WQ.drop ?_
 refine WQ.f2 ?_
 refine WQ.f2 ?_
 obtain rfl := Option.some.inj h
 refine WQ.thenJ ?_
 exact ⟨((((hle85.trans hle94).trans hle99).trans hle111).trans hle126), rfl, rfl⟩
 exact WT.no
 exact WT.no
 exact WT.no
 have h := ite_f hb122 h
 refine WT.pureOff 69 rfl rfl rfl hb122 rfl ?_
 refine WT.altOff 69 rfl rfl rfl hb122 rfl ⟨(StabL.anc rfl (StabL.anc rfl (StabL.anc rfl (StabL.anc rfl (StabL.anc rfl (StabL.anc rfl (StabL.anc rfl (StabL.anc rfl (StabL.anc rfl (StabL.anc rfl (StabL.anc rfl (StabL.anc rfl (StabL.anc rfl (StabL.anc rfl (StabL.anc rfl (StabL.anc rfl (StabL.anc rfl (StabL.anc rfl (StabL.anc rfl (StabL.anc rfl (StabL.anc rfl (StabL.anc rfl (StabL.anc rfl (StabL.anc rfl (StabL.anc rfl (StabL.anc rfl (StabL.anc rfl (StabL.anc rfl (StabL.anc rfl (StabL.anc rfl (StabL.anc rfl trivial))))))))))))))))))))))))))))))), ?_⟩ ?_
 refine WT.pureOff 69 rfl rfl rfl hb122 rfl ?_
 refine Tp (.bool false) rfl (PO.pickF rfl hb122 rfl) rfl ?_
 refine Tp (.bool false) rfl (PO.move rfl) rfl ?_
 refine WT.pureOff 74 rfl rfl rfl rfl rfl ?_
 refine WT.pureOff 74 rfl rfl rfl rfl rfl ?_
 refine WT.altOff 74 rfl rfl rfl rfl rfl ⟨(StabL.anc rfl (StabL.st (StabA.off 74 rfl rfl rfl rfl rfl) (StabL.anc rfl (StabL.anc rfl (StabL.anc rfl (StabL.anc rfl (StabL.anc rfl (StabL.anc rfl (StabL.anc rfl (StabL.anc rfl (StabL.anc rfl (StabL.anc rfl (StabL.anc rfl (StabL.anc rfl (StabL.anc rfl (StabL.anc rfl (StabL.anc rfl (StabL.anc rfl (StabL.anc rfl (StabL.anc rfl (StabL.anc rfl (StabL.anc rfl (StabL.anc rfl (StabL.anc rfl (StabL.anc rfl (StabL.anc rfl (StabL.anc rfl (StabL.anc rfl (StabL.anc rfl (StabL.anc rfl (StabL.anc rfl (StabL.anc rfl (StabL.anc rfl (StabL.anc rfl (StabL.anc rfl (StabL.anc rfl trivial)))))))))))))))))))))))))))))))))))), ?_⟩ ?_
 refine WT.altOff 74 rfl rfl rfl rfl rfl ⟨(StabL.anc rfl (StabL.anc rfl (StabL.anc rfl (StabL.anc rfl (StabL.anc rfl (StabL.anc rfl (StabL.anc rfl (StabL.anc rfl (StabL.anc rfl (StabL.anc rfl (StabL.anc rfl (StabL.anc rfl (StabL.anc rfl (StabL.anc rfl (StabL.anc rfl (StabL.anc rfl (StabL.anc rfl (StabL.anc rfl (StabL.anc rfl (StabL.anc rfl (StabL.anc rfl (StabL.anc rfl (StabL.anc rfl (StabL.anc rfl (StabL.anc rfl (StabL.anc rfl (StabL.anc rfl (StabL.anc rfl (StabL.anc rfl (StabL.anc rfl (StabL.anc rfl (StabL.anc rfl (StabL.anc rfl (StabL.anc rfl (StabL.anc rfl (StabL.anc rfl trivial)))))))))))))))))))))))))))))))))))), ?_⟩ ?_
 refine Tp (.bool false) rfl (PO.pickF rfl rfl rfl) rfl ?_
 refine Tp (.bool false) rfl (PO.assign rfl) rfl ?_
 refine WT.fin ?_
 refine WQ.f1 ?_
 refine WQ.drop ?_
 refine WQ.f1 ?_
 refine WQ.drop ?_
 refine WQ.f1 ?_
 refine WQ.drop ?_
 refine WQ.f1 ?_
 refine WQ.drop ?_
 refine WQ.f2 ?_
 refine WQ.f2 ?_
 obtain rfl := Option.some.inj h
 refine WQ.thenJ ?_
 exact ⟨(((hle85.trans hle94).trans hle99).trans hle111), rfl, rfl⟩
 exact WT.no
 exact WT.no
 exact WT.no
 have h := ite_f hb114 h
 refine WT.pureOff 62 rfl rfl rfl hb114 rfl ?_
 refine WT.pureOff 62 rfl rfl rfl hb114 rfl ?_
 refine WT.pureOff 62 rfl rfl rfl hb114 rfl ?_
 refine WT.pureOff 62 rfl rfl rfl hb114 rfl ?_
 refine WT.pureOff 62 rfl rfl rfl hb114 rfl ?_
 refine Tp (.bool false) rfl (PO.pickF rfl hb114 rfl) rfl ?_
 refine Tp (.bool false) rfl (PO.move rfl) rfl ?_
 refine WT.pureOff 69 rfl rfl rfl rfl rfl ?_
 refine WT.altOff 69 rfl rfl rfl rfl rfl ⟨(StabL.anc rfl (StabL.anc rfl (StabL.anc rfl (StabL.anc rfl (StabL.anc rfl (StabL.anc rfl (StabL.anc rfl (StabL.anc rfl (StabL.anc rfl (StabL.anc rfl (StabL.anc rfl (StabL.anc rfl (StabL.anc rfl (StabL.anc rfl (StabL.anc rfl (StabL.anc rfl (StabL.anc rfl (StabL.anc rfl (StabL.anc rfl (StabL.anc rfl (StabL.anc rfl (StabL.anc rfl (StabL.anc rfl (StabL.anc rfl (StabL.anc rfl (StabL.anc rfl (StabL.anc rfl (StabL.anc rfl (StabL.anc rfl (StabL.anc rfl (StabL.anc rfl trivial))))))))))))))))))))))))))))))), ?_⟩ ?_
 refine WT.pureOff 69 rfl rfl rfl rfl rfl ?_
 refine Tp (.bool false) rfl (PO.pickF rfl rfl rfl) rfl ?_
 refine Tp (.bool false) rfl (PO.move rfl) rfl ?_
 refine WT.pureOff 74 rfl rfl rfl rfl rfl ?_
 refine WT.pureOff 74 rfl rfl rfl rfl rfl ?_
 refine WT.altOff 74 rfl rfl rfl rfl rfl ⟨(StabL.anc rfl (StabL.st (StabA.off 74 rfl rfl rfl rfl rfl) (StabL.anc rfl (StabL.anc rfl (StabL.anc rfl (StabL.anc rfl (StabL.anc rfl (StabL.anc rfl (StabL.anc rfl (StabL.anc rfl (StabL.anc rfl (StabL.anc rfl (StabL.anc rfl (StabL.anc rfl (StabL.anc rfl (StabL.anc rfl (StabL.anc rfl (StabL.anc rfl (StabL.anc rfl (StabL.anc rfl (StabL.anc rfl (StabL.anc rfl (StabL.anc rfl (StabL.anc rfl (StabL.anc rfl (StabL.anc rfl (StabL.anc rfl (StabL.anc rfl (StabL.anc rfl (StabL.anc rfl (StabL.anc rfl (StabL.anc rfl (StabL.anc rfl (StabL.anc rfl (StabL.anc rfl (StabL.anc rfl trivial)))))))))))))))))))))))))))))))))))), ?_⟩ ?_
 refine WT.altOff 74 rfl rfl rfl rfl rfl ⟨(StabL.anc rfl (StabL.anc rfl (StabL.anc rfl (StabL.anc rfl (StabL.anc rfl (StabL.anc rfl (StabL.anc rfl (StabL.anc rfl (StabL.anc rfl (StabL.anc rfl (StabL.anc rfl (StabL.anc rfl (StabL.anc rfl (StabL.anc rfl (StabL.anc rfl (StabL.anc rfl (StabL.anc rfl (StabL.anc rfl (StabL.anc rfl (StabL.anc rfl (StabL.anc rfl (StabL.anc rfl (StabL.anc rfl (StabL.anc rfl (StabL.anc rfl (StabL.anc rfl (StabL.anc rfl (StabL.anc rfl (StabL.anc rfl (StabL.anc rfl (StabL.anc rfl (StabL.anc rfl (StabL.anc rfl (StabL.anc rfl (StabL.anc rfl (StabL.anc rfl trivial)))))))))))))))))))))))))))))))))))), ?_⟩ ?_
 refine Tp (.bool false) rfl (PO.pickF rfl rfl rfl) rfl ?_
 refine Tp (.bool false) rfl (PO.assign rfl) rfl ?_
 refine WT.fin ?_
 refine WQ.f1 ?_
 refine WQ.drop ?_
 refine WQ.f1 ?_
 refine WQ.drop ?_
 refine WQ.f1 ?_
 refine WQ.drop ?_
 refine WQ.f1 ?_
 refine WQ.drop ?_
 refine WQ.f2 ?_
 refine WQ.f2 ?_
 obtain rfl := Option.some.inj h
 refine WQ.thenJ ?_
 exact ⟨(((hle85.trans hle94).trans hle99).trans hle111), rfl, rfl⟩
 exact WT.no
 exact WT.no
 exact WT.no
 have h := ite_f hb113 h
 refine WT.pureOff 57 rfl rfl rfl hb113 rfl ?_
 refine WT.pureOff 57 rfl rfl rfl hb113 rfl ?_
 refine WT.pureOff 57 rfl rfl rfl hb113 rfl ?_
 refine Tp (.bool false) rfl (PO.pickF rfl hb113 rfl) rfl ?_
 refine Tp (.bool false) rfl (PO.move rfl) rfl ?_
 refine WT.pureOff 62 rfl rfl rfl rfl rfl ?_
 refine WT.pureOff 62 rfl rfl rfl rfl rfl ?_
 refine WT.pureOff 62 rfl rfl rfl rfl rfl ?_
 refine WT.pureOff 62 rfl rfl rfl rfl rfl ?_
 refine WT.pureOff 62 rfl rfl rfl rfl rfl ?_
 refine Tp (.bool false) rfl (PO.pickF rfl rfl rfl) rfl ?_
 refine Tp (.bool false) rfl (PO.move rfl) rfl ?_
 refine WT.pureOff 69 rfl rfl rfl rfl rfl ?_
 refine WT.altOff 69 rfl rfl rfl rfl rfl ⟨(StabL.anc rfl (StabL.anc rfl (StabL.anc rfl (StabL.anc rfl (StabL.anc rfl (StabL.anc rfl (StabL.anc rfl (StabL.anc rfl (StabL.anc rfl (StabL.anc rfl (StabL.anc rfl (StabL.anc rfl (StabL.anc rfl (StabL.anc rfl (StabL.anc rfl (StabL.anc rfl (StabL.anc rfl (StabL.anc rfl (StabL.anc rfl (StabL.anc rfl (StabL.anc rfl (StabL.anc rfl (StabL.anc rfl (StabL.anc rfl (StabL.anc rfl (StabL.anc rfl (StabL.anc rfl (StabL.anc rfl (StabL.anc rfl (StabL.anc rfl (StabL.anc rfl trivial))))))))))))))))))))))))))))))), ?_⟩ ?_
 refine WT.pureOff 69 rfl rfl rfl rfl rfl ?_
 refine Tp (.bool false) rfl (PO.pickF rfl rfl rfl) rfl ?_
 refine Tp (.bool false) rfl (PO.move rfl) rfl ?_
 refine WT.pureOff 74 rfl rfl rfl rfl rfl ?_
 refine WT.pureOff 74 rfl rfl rfl rfl rfl ?_
 refine WT.altOff 74 rfl rfl rfl rfl rfl ⟨(StabL.anc rfl (StabL.st (StabA.off 74 rfl rfl rfl rfl rfl) (StabL.anc rfl (StabL.anc rfl (StabL.anc rfl (StabL.anc rfl (StabL.anc rfl (StabL.anc rfl (StabL.anc rfl (StabL.anc rfl (StabL.anc rfl (StabL.anc rfl (StabL.anc rfl (StabL.anc rfl (StabL.anc rfl (StabL.anc rfl (StabL.anc rfl (StabL.anc rfl (StabL.anc rfl (StabL.anc rfl (StabL.anc rfl (StabL.anc rfl (StabL.anc rfl (StabL.anc rfl (StabL.anc rfl (StabL.anc rfl (StabL.anc rfl (StabL.anc rfl (StabL.anc rfl (StabL.anc rfl (StabL.anc rfl (StabL.anc rfl (StabL.anc rfl (StabL.anc rfl (StabL.anc rfl (StabL.anc rfl trivial)))))))))))))))))))))))))))))))))))), ?_⟩ ?_
 refine WT.altOff 74 rfl rfl rfl rfl rfl ⟨(StabL.anc rfl (StabL.anc rfl (StabL.anc rfl (StabL.anc rfl (StabL.anc rfl (StabL.anc rfl (StabL.anc rfl (StabL.anc rfl (StabL.anc rfl (StabL.anc rfl (StabL.anc rfl (StabL.anc rfl (StabL.anc rfl (StabL.anc rfl (StabL.anc rfl (StabL.anc rfl (StabL.anc rfl (StabL.anc rfl (StabL.anc rfl (StabL.anc rfl (StabL.anc rfl (StabL.anc rfl (StabL.anc rfl (StabL.anc rfl (StabL.anc rfl (StabL.anc rfl (StabL.anc rfl (StabL.anc rfl (StabL.anc rfl (StabL.anc rfl (StabL.anc rfl (StabL.anc rfl (StabL.anc rfl (StabL.anc rfl (StabL.anc rfl (StabL.anc rfl trivial)))))))))))))))))))))))))))))))))))), ?_⟩ ?_
 refine Tp (.bool false) rfl (PO.pickF rfl rfl rfl) rfl ?_
 refine Tp (.bool false) rfl (PO.assign rfl) rfl ?_
 refine WT.fin ?_
 refine WQ.f1 ?_
 refine WQ.drop ?_
 refine WQ.f1 ?_
 refine WQ.drop ?_
 refine WQ.f1 ?_
 refine WQ.drop ?_
 refine WQ.f1 ?_
 refine WQ.drop ?_
 refine WQ.f2 ?_
 refine WQ.f2 ?_
 obtain rfl := Option.some.inj h
 refine WQ.thenJ ?_
 exact ⟨(((hle85.trans hle94).trans hle99).trans hle111), rfl, rfl⟩
 exact WT.no
 exact WT.no
 exact WT.no
 exact WT.no
 have h := ite_f hb107 h
 refine WT.pureOff 53 rfl rfl rfl hb107 rfl ?_
 refine WT.altOff 53 rfl rfl rfl hb107 rfl ⟨(StabL.anc rfl (StabL.anc rfl (StabL.anc rfl (StabL.anc rfl (StabL.anc rfl (StabL.anc rfl (StabL.anc rfl (StabL.anc rfl (StabL.anc rfl (StabL.anc rfl (StabL.anc rfl (StabL.anc rfl (StabL.anc rfl (StabL.anc rfl (StabL.anc rfl (StabL.anc rfl trivial)))))))))))))))), ?_⟩ ?_
 refine Tp (.bool false) rfl (PO.pickF rfl hb107 rfl) rfl ?_
 refine Tp (.bool false) rfl (PO.move rfl) rfl ?_
 refine WT.pureOff 57 rfl rfl rfl rfl rfl ?_
 refine WT.pureOff 57 rfl rfl rfl rfl rfl ?_
 refine WT.pureOff 57 rfl rfl rfl rfl rfl ?_
 refine Tp (.bool false) rfl (PO.pickF rfl rfl rfl) rfl ?_
 refine Tp (.bool false) rfl (PO.move rfl) rfl ?_
 refine WT.pureOff 62 rfl rfl rfl rfl rfl ?_
 refine WT.pureOff 62 rfl rfl rfl rfl rfl ?_
 refine WT.pureOff 62 rfl rfl rfl rfl rfl ?_
 refine WT.pureOff 62 rfl rfl rfl rfl rfl ?_
 refine WT.pureOff 62 rfl rfl rfl rfl rfl ?_
 refine Tp (.bool false) rfl (PO.pickF rfl rfl rfl) rfl ?_
 refine Tp (.bool false) rfl (PO.move rfl) rfl ?_
 refine WT.pureOff 69 rfl rfl rfl rfl rfl ?_
 refine WT.altOff 69 rfl rfl rfl rfl rfl ⟨(StabL.anc rfl (StabL.anc rfl (StabL.anc rfl (StabL.anc rfl (StabL.anc rfl (StabL.anc rfl (StabL.anc rfl (StabL.anc rfl (StabL.anc rfl (StabL.anc rfl (StabL.anc rfl (StabL.anc rfl (StabL.anc rfl (StabL.anc rfl (StabL.anc rfl (StabL.anc rfl (StabL.anc rfl (StabL.anc rfl (StabL.anc rfl (StabL.anc rfl (StabL.anc rfl (StabL.anc rfl (StabL.anc rfl (StabL.anc rfl (StabL.anc rfl (StabL.anc rfl (StabL.anc rfl (StabL.anc rfl (StabL.anc rfl (StabL.anc rfl (StabL.anc rfl trivial))))))))))))))))))))))))))))))), ?_⟩ ?_
 refine WT.pureOff 69 rfl rfl rfl rfl rfl ?_
 refine Tp (.bool false) rfl (PO.pickF rfl rfl rfl) rfl ?_
 refine Tp (.bool false) rfl (PO.move rfl) rfl ?_
 refine WT.pureOff 74 rfl rfl rfl rfl rfl ?_
 refine WT.pureOff 74 rfl rfl rfl rfl rfl ?_
 refine WT.altOff 74 rfl rfl rfl rfl rfl ⟨(StabL.anc rfl (StabL.st (StabA.off 74 rfl rfl rfl rfl rfl) (StabL.anc rfl (StabL.anc rfl (StabL.anc rfl (StabL.anc rfl (StabL.anc rfl (StabL.anc rfl (StabL.anc rfl (StabL.anc rfl (StabL.anc rfl (StabL.anc rfl (StabL.anc rfl (StabL.anc rfl (StabL.anc rfl (StabL.anc rfl (StabL.anc rfl (StabL.anc rfl (StabL.anc rfl (StabL.anc rfl (StabL.anc rfl (StabL.anc rfl (StabL.anc rfl (StabL.anc rfl (StabL.anc rfl (StabL.anc rfl (StabL.anc rfl (StabL.anc rfl (StabL.anc rfl (StabL.anc rfl (StabL.anc rfl (StabL.anc rfl (StabL.anc rfl (StabL.anc rfl (StabL.anc rfl (StabL.anc rfl trivial)))))))))))))))))))))))))))))))))))), ?_⟩ ?_
 refine WT.altOff 74 rfl rfl rfl rfl rfl ⟨(StabL.anc rfl (StabL.anc rfl (StabL.anc rfl (StabL.anc rfl (StabL.anc rfl (StabL.anc rfl (StabL.anc rfl (StabL.anc rfl (StabL.anc rfl (StabL.anc rfl (StabL.anc rfl (StabL.anc rfl (StabL.anc rfl (StabL.anc rfl (StabL.anc rfl (StabL.anc rfl (StabL.anc rfl (StabL.anc rfl (StabL.anc rfl (StabL.anc rfl (StabL.anc rfl (StabL.anc rfl (StabL.anc rfl (StabL.anc rfl (StabL.anc rfl (StabL.anc rfl (StabL.anc rfl (StabL.anc rfl (StabL.anc rfl (StabL.anc rfl (StabL.anc rfl (StabL.anc rfl (StabL.anc rfl (StabL.anc rfl (StabL.anc rfl (StabL.anc rfl trivial)))))))))))))))))))))))))))))))))))), ?_⟩ ?_
 refine Tp (.bool false) rfl (PO.pickF rfl rfl rfl) rfl ?_
 refine Tp (.bool false) rfl (PO.assign rfl) rfl ?_
 refine WT.fin ?_
 refine WQ.f1 ?_
 refine WQ.drop ?_
 refine WQ.f1 ?_
 refine WQ.drop ?_
 refine WQ.f1 ?_
 refine WQ.drop ?_
 refine WQ.f1 ?_
 refine WQ.drop ?_
 refine WQ.f2 ?_
 refine WQ.f2 ?_
 obtain rfl := Option.some.inj h
 refine WQ.thenJ ?_
 exact ⟨((hle85.trans hle94).trans hle99), rfl, rfl⟩
 exact WT.no
 exact WT.no
 exact WT.no
 exact WT.no
 exact WT.no
 exact WT.no
 have h := ite_f hb90 h
 refine WT.pureOff 47 rfl rfl rfl hb90 rfl ?_
 refine WT.altOff 47 rfl rfl rfl hb90 rfl ⟨(StabL.st (StabA.off 47 rfl rfl rfl hb90 rfl) (StabL.anc rfl (StabL.anc rfl (StabL.anc rfl (StabL.anc rfl (StabL.anc rfl (StabL.anc rfl (StabL.anc rfl (StabL.anc rfl (StabL.anc rfl (StabL.anc rfl (StabL.anc rfl trivial)))))))))))), ?_⟩ ?_
 refine WT.altOff 47 rfl rfl rfl hb90 rfl ⟨(StabL.anc rfl (StabL.anc rfl (StabL.anc rfl (StabL.anc rfl (StabL.anc rfl (StabL.anc rfl (StabL.anc rfl (StabL.anc rfl (StabL.anc rfl (StabL.anc rfl (StabL.anc rfl (StabL.anc rfl trivial)))))))))))), ?_⟩ ?_
 refine WT.pureOff 47 rfl rfl rfl hb90 rfl ?_
 refine Tp (.bool false) rfl (PO.pickF rfl hb90 rfl) rfl ?_
 refine Tp (.bool false) rfl (PO.move rfl) rfl ?_
 refine WT.pureOff 53 rfl rfl rfl rfl rfl ?_
 refine WT.altOff 53 rfl rfl rfl rfl rfl ⟨(StabL.anc rfl (StabL.anc rfl (StabL.anc rfl (StabL.anc rfl (StabL.anc rfl (StabL.anc rfl (StabL.anc rfl (StabL.anc rfl (StabL.anc rfl (StabL.anc rfl (StabL.anc rfl (StabL.anc rfl (StabL.anc rfl (StabL.anc rfl (StabL.anc rfl (StabL.anc rfl trivial)))))))))))))))), ?_⟩ ?_
 refine Tp (.bool false) rfl (PO.pickF rfl rfl rfl) rfl ?_
 refine Tp (.bool false) rfl (PO.move rfl) rfl ?_
 refine WT.pureOff 57 rfl rfl rfl rfl rfl ?_
 refine WT.pureOff 57 rfl rfl rfl rfl rfl ?_
 refine WT.pureOff 57 rfl rfl rfl rfl rfl ?_
 refine Tp (.bool false) rfl (PO.pickF rfl rfl rfl) rfl ?_
 refine Tp (.bool false) rfl (PO.move rfl) rfl ?_
 refine WT.pureOff 62 rfl rfl rfl rfl rfl ?_
 refine WT.pureOff 62 rfl rfl rfl rfl rfl ?_
 refine WT.pureOff 62 rfl rfl rfl rfl rfl ?_
 refine WT.pureOff 62 rfl rfl rfl rfl rfl ?_
 refine WT.pureOff 62 rfl rfl rfl rfl rfl ?_
 refine Tp (.bool false) rfl (PO.pickF rfl rfl rfl) rfl ?_
 refine Tp (.bool false) rfl (PO.move rfl) rfl ?_
 refine WT.pureOff 69 rfl rfl rfl rfl rfl ?_
 refine WT.altOff 69 rfl rfl rfl rfl rfl ⟨(StabL.anc rfl (StabL.anc rfl (StabL.anc rfl (StabL.anc rfl (StabL.anc rfl (StabL.anc rfl (StabL.anc rfl (StabL.anc rfl (StabL.anc rfl (StabL.anc rfl (StabL.anc rfl (StabL.anc rfl (StabL.anc rfl (StabL.anc rfl (StabL.anc rfl (StabL.anc rfl (StabL.anc rfl (StabL.anc rfl (StabL.anc rfl (StabL.anc rfl (StabL.anc rfl (StabL.anc rfl (StabL.anc rfl (StabL.anc rfl (StabL.anc rfl (StabL.anc rfl (StabL.anc rfl (StabL.anc rfl (StabL.anc rfl (StabL.anc rfl (StabL.anc rfl trivial))))))))))))))))))))))))))))))), ?_⟩ ?_
 refine WT.pureOff 69 rfl rfl rfl rfl rfl ?_
 refine Tp (.bool false) rfl (PO.pickF rfl rfl rfl) rfl ?_
 refine Tp (.bool false) rfl (PO.move rfl) rfl ?_
 refine WT.pureOff 74 rfl rfl rfl rfl rfl ?_
 refine WT.pureOff 74 rfl rfl rfl rfl rfl ?_
 refine WT.altOff 74 rfl rfl rfl rfl rfl ⟨(StabL.anc rfl (StabL.st (StabA.off 74 rfl rfl rfl rfl rfl) (StabL.anc rfl (StabL.anc rfl (StabL.anc rfl (StabL.anc rfl (StabL.anc rfl (StabL.anc rfl (StabL.anc rfl (StabL.anc rfl (StabL.anc rfl (StabL.anc rfl (StabL.anc rfl (StabL.anc rfl (StabL.anc rfl (StabL.anc rfl (StabL.anc rfl (StabL.anc rfl (StabL.anc rfl (StabL.anc rfl (StabL.anc rfl (StabL.anc rfl (StabL.anc rfl (StabL.anc rfl (StabL.anc rfl (StabL.anc rfl (StabL.anc rfl (StabL.anc rfl (StabL.anc rfl (StabL.anc rfl (StabL.anc rfl (StabL.anc rfl (StabL.anc rfl (StabL.anc rfl (StabL.anc rfl (StabL.anc rfl trivial)))))))))))))))))))))))))))))))))))), ?_⟩ ?_
 refine WT.altOff 74 rfl rfl rfl rfl rfl ⟨(StabL.anc rfl (StabL.anc rfl (StabL.anc rfl (StabL.anc rfl (StabL.anc rfl (StabL.anc rfl (StabL.anc rfl (StabL.anc rfl (StabL.anc rfl (StabL.anc rfl (StabL.anc rfl (StabL.anc rfl (StabL.anc rfl (StabL.anc rfl (StabL.anc rfl (StabL.anc rfl (StabL.anc rfl (StabL.anc rfl (StabL.anc rfl (StabL.anc rfl (StabL.anc rfl (StabL.anc rfl (StabL.anc rfl (StabL.anc rfl (StabL.anc rfl (StabL.anc rfl (StabL.anc rfl (StabL.anc rfl (StabL.anc rfl (StabL.anc rfl (StabL.anc rfl (StabL.anc rfl (StabL.anc rfl (StabL.anc rfl (StabL.anc rfl (StabL.anc rfl trivial)))))))))))))))))))))))))))))))))))), ?_⟩ ?_
 refine Tp (.bool false) rfl (PO.pickF rfl rfl rfl) rfl ?_
 refine Tp (.bool false) rfl (PO.assign rfl) rfl ?_
 refine WT.fin ?_
 refine WQ.f1 ?_
 refine WQ.drop ?_
 refine WQ.f1 ?_
 refine WQ.drop ?_
 refine WQ.f1 ?_
 refine WQ.drop ?_
 refine WQ.f2 ?_
 refine WQ.f2 ?_
 obtain rfl := Option.some.inj h
 refine WQ.thenJ ?_
 exact ⟨hle85, rfl, rfl⟩
 exact WT.no
 exact WT.no
 exact WT.no
 exact WT.no
 exact WT.no
 exact WT.no
 exact WT.no
 have h := ite_f hb81 h
 refine WT.pureOff 42 rfl rfl rfl hb81 rfl ?_
 refine WT.pureOff 42 rfl rfl rfl hb81 rfl ?_
 refine WT.altOff 42 rfl rfl rfl hb81 rfl ⟨(StabL.anc rfl (StabL.anc rfl (StabL.anc rfl (StabL.anc rfl (StabL.anc rfl (StabL.anc rfl (StabL.anc rfl (StabL.anc rfl (StabL.anc rfl trivial))))))))), ?_⟩ ?_
 refine Tp (.bool false) rfl (PO.pickF rfl hb81 rfl) rfl ?_
 refine Tp (.bool false) rfl (PO.move rfl) rfl ?_
 refine WT.pureOff 47 rfl rfl rfl rfl rfl ?_
 refine WT.altOff 47 rfl rfl rfl rfl rfl ⟨(StabL.st (StabA.off 47 rfl rfl rfl rfl rfl) (StabL.anc rfl (StabL.anc rfl (StabL.anc rfl (StabL.anc rfl (StabL.anc rfl (StabL.anc rfl (StabL.anc rfl (StabL.anc rfl (StabL.anc rfl (StabL.anc rfl (StabL.anc rfl trivial)))))))))))), ?_⟩ ?_
 refine WT.altOff 47 rfl rfl rfl rfl rfl ⟨(StabL.anc rfl (StabL.anc rfl (StabL.anc rfl (StabL.anc rfl (StabL.anc rfl (StabL.anc rfl (StabL.anc rfl (StabL.anc rfl (StabL.anc rfl (StabL.anc rfl (StabL.anc rfl (StabL.anc rfl trivial)))))))))))), ?_⟩ ?_
 refine WT.pureOff 47 rfl rfl rfl rfl rfl ?_
 refine Tp (.bool false) rfl (PO.pickF rfl rfl rfl) rfl ?_
 refine Tp (.bool false) rfl (PO.move rfl) rfl ?_
 refine WT.pureOff 53 rfl rfl rfl rfl rfl ?_
 refine WT.altOff 53 rfl rfl rfl rfl rfl ⟨(StabL.anc rfl (StabL.anc rfl (StabL.anc rfl (StabL.anc rfl (StabL.anc rfl (StabL.anc rfl (StabL.anc rfl (StabL.anc rfl (StabL.anc rfl (StabL.anc rfl (StabL.anc rfl (StabL.anc rfl (StabL.anc rfl (StabL.anc rfl (StabL.anc rfl (StabL.anc rfl trivial)))))))))))))))), ?_⟩ ?_
 refine Tp (.bool false) rfl (PO.pickF rfl rfl rfl) rfl ?_
 refine Tp (.bool false) rfl (PO.move rfl) rfl ?_
 refine WT.pureOff 57 rfl rfl rfl rfl rfl ?_
 refine WT.pureOff 57 rfl rfl rfl rfl rfl ?_
 refine WT.pureOff 57 rfl rfl rfl rfl rfl ?_
 refine Tp (.bool false) rfl (PO.pickF rfl rfl rfl) rfl ?_
 refine Tp (.bool false) rfl (PO.move rfl) rfl ?_
 refine WT.pureOff 62 rfl rfl rfl rfl rfl ?_
 refine WT.pureOff 62 rfl rfl rfl rfl rfl ?_
 refine WT.pureOff 62 rfl rfl rfl rfl rfl ?_
 refine WT.pureOff 62 rfl rfl rfl rfl rfl ?_
 refine WT.pureOff 62 rfl rfl rfl rfl rfl ?_
 refine Tp (.bool false) rfl (PO.pickF rfl rfl rfl) rfl ?_
 refine Tp (.bool false) rfl (PO.move rfl) rfl ?_
 refine WT.pureOff 69 rfl rfl rfl rfl rfl ?_
 refine WT.altOff 69 rfl rfl rfl rfl rfl ⟨(StabL.anc rfl (StabL.anc rfl (StabL.anc rfl (StabL.anc rfl (StabL.anc rfl (StabL.anc rfl (StabL.anc rfl (StabL.anc rfl (StabL.anc rfl (StabL.anc rfl (StabL.anc rfl (StabL.anc rfl (StabL.anc rfl (StabL.anc rfl (StabL.anc rfl (StabL.anc rfl (StabL.anc rfl (StabL.anc rfl (StabL.anc rfl (StabL.anc rfl (StabL.anc rfl (StabL.anc rfl (StabL.anc rfl (StabL.anc rfl (StabL.anc rfl (StabL.anc rfl (StabL.anc rfl (StabL.anc rfl (StabL.anc rfl (StabL.anc rfl (StabL.anc rfl trivial))))))))))))))))))))))))))))))), ?_⟩ ?_
 refine WT.pureOff 69 rfl rfl rfl rfl rfl ?_
 refine Tp (.bool false) rfl (PO.pickF rfl rfl rfl) rfl ?_
 refine Tp (.bool false) rfl (PO.move rfl) rfl ?_
 refine WT.pureOff 74 rfl rfl rfl rfl rfl ?_
 refine WT.pureOff 74 rfl rfl rfl rfl rfl ?_
 refine WT.altOff 74 rfl rfl rfl rfl rfl ⟨(StabL.anc rfl (StabL.st (StabA.off 74 rfl rfl rfl rfl rfl) (StabL.anc rfl (StabL.anc rfl (StabL.anc rfl (StabL.anc rfl (StabL.anc rfl (StabL.anc rfl (StabL.anc rfl (StabL.anc rfl (StabL.anc rfl (StabL.anc rfl (StabL.anc rfl (StabL.anc rfl (StabL.anc rfl (StabL.anc rfl (StabL.anc rfl (StabL.anc rfl (StabL.anc rfl (StabL.anc rfl (StabL.anc rfl (StabL.anc rfl (StabL.anc rfl (StabL.anc rfl (StabL.anc rfl (StabL.anc rfl (StabL.anc rfl (StabL.anc rfl (StabL.anc rfl (StabL.anc rfl (StabL.anc rfl (StabL.anc rfl (StabL.anc rfl (StabL.anc rfl (StabL.anc rfl (StabL.anc rfl trivial)))))))))))))))))))))))))))))))))))), ?_⟩ ?_
 refine WT.altOff 74 rfl rfl rfl rfl rfl ⟨(StabL.anc rfl (StabL.anc rfl (StabL.anc rfl (StabL.anc rfl (StabL.anc rfl (StabL.anc rfl (StabL.anc rfl (StabL.anc rfl (StabL.anc rfl (StabL.anc rfl (StabL.anc rfl (StabL.anc rfl (StabL.anc rfl (StabL.anc rfl (StabL.anc rfl (StabL.anc rfl (StabL.anc rfl (StabL.anc rfl (StabL.anc rfl (StabL.anc rfl (StabL.anc rfl (StabL.anc rfl (StabL.anc rfl (StabL.anc rfl (StabL.anc rfl (StabL.anc rfl (StabL.anc rfl (StabL.anc rfl (StabL.anc rfl (StabL.anc rfl (StabL.anc rfl (StabL.anc rfl (StabL.anc rfl (StabL.anc rfl (StabL.anc rfl (StabL.anc rfl trivial)))))))))))))))))))))))))))))))))))), ?_⟩ ?_
 refine Tp (.bool false) rfl (PO.pickF rfl rfl rfl) rfl ?_
 refine Tp (.bool false) rfl (PO.assign rfl) rfl ?_
 refine WT.fin ?_
 refine WQ.drop ?_
 refine WQ.drop ?_
 refine WQ.drop ?_
 refine WQ.f1 ?_
 refine WQ.f2 ?_
 refine WQ.f2 ?_
 obtain rfl := Option.some.inj h
 refine WQ.thenJ ?_
 exact ⟨(IM.le.refl _), rfl, rfl⟩
 exact WT.no
 exact WT.no
 exact WT.no
 exact WT.no
 exact WT.no
 exact WT.no
 exact WT.no
 have h := ite_f hb80 h
 refine WT.pureOff 38 rfl rfl rfl hb80 rfl ?_
 refine WT.pureOff 38 rfl rfl rfl hb80 rfl ?_
 refine Tp (.bool false) rfl (PO.pickF rfl hb80 rfl) rfl ?_
 refine Tp (.bool false) rfl (PO.move rfl) rfl ?_
 refine WT.pureOff 42 rfl rfl rfl rfl rfl ?_
 refine WT.pureOff 42 rfl rfl rfl rfl rfl ?_
 refine WT.altOff 42 rfl rfl rfl rfl rfl ⟨(StabL.anc rfl (StabL.anc rfl (StabL.anc rfl (StabL.anc rfl (StabL.anc rfl (StabL.anc rfl (StabL.anc rfl (StabL.anc rfl (StabL.anc rfl trivial))))))))), ?_⟩ ?_
 refine Tp (.bool false) rfl (PO.pickF rfl rfl rfl) rfl ?_
 refine Tp (.bool false) rfl (PO.move rfl) rfl ?_
 refine WT.pureOff 47 rfl rfl rfl rfl rfl ?_
 refine WT.altOff 47 rfl rfl rfl rfl rfl ⟨(StabL.st (StabA.off 47 rfl rfl rfl rfl rfl) (StabL.anc rfl (StabL.anc rfl (StabL.anc rfl (StabL.anc rfl (StabL.anc rfl (StabL.anc rfl (StabL.anc rfl (StabL.anc rfl (StabL.anc rfl (StabL.anc rfl (StabL.anc rfl trivial)))))))))))), ?_⟩ ?_
 refine WT.altOff 47 rfl rfl rfl rfl rfl ⟨(StabL.anc rfl (StabL.anc rfl (StabL.anc rfl (StabL.anc rfl (StabL.anc rfl (StabL.anc rfl (StabL.anc rfl (StabL.anc rfl (StabL.anc rfl (StabL.anc rfl (StabL.anc rfl (StabL.anc rfl trivial)))))))))))), ?_⟩ ?_
 refine WT.pureOff 47 rfl rfl rfl rfl rfl ?_
 refine Tp (.bool false) rfl (PO.pickF rfl rfl rfl) rfl ?_
 refine Tp (.bool false) rfl (PO.move rfl) rfl ?_
 refine WT.pureOff 53 rfl rfl rfl rfl rfl ?_
 refine WT.altOff 53 rfl rfl rfl rfl rfl ⟨(StabL.anc rfl (StabL.anc rfl (StabL.anc rfl (StabL.anc rfl (StabL.anc rfl (StabL.anc rfl (StabL.anc rfl (StabL.anc rfl (StabL.anc rfl (StabL.anc rfl (StabL.anc rfl (StabL.anc rfl (StabL.anc rfl (StabL.anc rfl (StabL.anc rfl (StabL.anc rfl trivial)))))))))))))))), ?_⟩ ?_
 refine Tp (.bool false) rfl (PO.pickF rfl rfl rfl) rfl ?_
 refine Tp (.bool false) rfl (PO.move rfl) rfl ?_
 refine WT.pureOff 57 rfl rfl rfl rfl rfl ?_
 refine WT.pureOff 57 rfl rfl rfl rfl rfl ?_
 refine WT.pureOff 57 rfl rfl rfl rfl rfl ?_
 refine Tp (.bool false) rfl (PO.pickF rfl rfl rfl) rfl ?_
 refine Tp (.bool false) rfl (PO.move rfl) rfl ?_
 refine WT.pureOff 62 rfl rfl rfl rfl rfl ?_
 refine WT.pureOff 62 rfl rfl rfl rfl rfl ?_
 refine WT.pureOff 62 rfl rfl rfl rfl rfl ?_
 refine WT.pureOff 62 rfl rfl rfl rfl rfl ?_
 refine WT.pureOff 62 rfl rfl rfl rfl rfl ?_
 refine Tp (.bool false) rfl (PO.pickF rfl rfl rfl) rfl ?_
 refine Tp (.bool false) rfl (PO.move rfl) rfl ?_
 refine WT.pureOff 69 rfl rfl rfl rfl rfl ?_
 refine WT.altOff 69 rfl rfl rfl rfl rfl ⟨(StabL.anc rfl (StabL.anc rfl (StabL.anc rfl (StabL.anc rfl (StabL.anc rfl (StabL.anc rfl (StabL.anc rfl (StabL.anc rfl (StabL.anc rfl (StabL.anc rfl (StabL.anc rfl (StabL.anc rfl (StabL.anc rfl (StabL.anc rfl (StabL.anc rfl (StabL.anc rfl (StabL.anc rfl (StabL.anc rfl (StabL.anc rfl (StabL.anc rfl (StabL.anc rfl (StabL.anc rfl (StabL.anc rfl (StabL.anc rfl (StabL.anc rfl (StabL.anc rfl (StabL.anc rfl (StabL.anc rfl (StabL.anc rfl (StabL.anc rfl (StabL.anc rfl trivial))))))))))))))))))))))))))))))), ?_⟩ ?_
 refine WT.pureOff 69 rfl rfl rfl rfl rfl ?_
 refine Tp (.bool false) rfl (PO.pickF rfl rfl rfl) rfl ?_
 refine Tp (.bool false) rfl (PO.move rfl) rfl ?_
 refine WT.pureOff 74 rfl rfl rfl rfl rfl ?_
 refine WT.pureOff 74 rfl rfl rfl rfl rfl ?_
 refine WT.altOff 74 rfl rfl rfl rfl rfl ⟨(StabL.anc rfl (StabL.st (StabA.off 74 rfl rfl rfl rfl rfl) (StabL.anc rfl (StabL.anc rfl (StabL.anc rfl (StabL.anc rfl (StabL.anc rfl (StabL.anc rfl (StabL.anc rfl (StabL.anc rfl (StabL.anc rfl (StabL.anc rfl (StabL.anc rfl (StabL.anc rfl (StabL.anc rfl (StabL.anc rfl (StabL.anc rfl (StabL.anc rfl (StabL.anc rfl (StabL.anc rfl (StabL.anc rfl (StabL.anc rfl (StabL.anc rfl (StabL.anc rfl (StabL.anc rfl (StabL.anc rfl (StabL.anc rfl (StabL.anc rfl (StabL.anc rfl (StabL.anc rfl (StabL.anc rfl (StabL.anc rfl (StabL.anc rfl (StabL.anc rfl (StabL.anc rfl (StabL.anc rfl trivial)))))))))))))))))))))))))))))))))))), ?_⟩ ?_
 refine WT.altOff 74 rfl rfl rfl rfl rfl ⟨(StabL.anc rfl (StabL.anc rfl (StabL.anc rfl (StabL.anc rfl (StabL.anc rfl (StabL.anc rfl (StabL.anc rfl (StabL.anc rfl (StabL.anc rfl (StabL.anc rfl (StabL.anc rfl (StabL.anc rfl (StabL.anc rfl (StabL.anc rfl (StabL.anc rfl (StabL.anc rfl (StabL.anc rfl (StabL.anc rfl (StabL.anc rfl (StabL.anc rfl (StabL.anc rfl (StabL.anc rfl (StabL.anc rfl (StabL.anc rfl (StabL.anc rfl (StabL.anc rfl (StabL.anc rfl (StabL.anc rfl (StabL.anc rfl (StabL.anc rfl (StabL.anc rfl (StabL.anc rfl (StabL.anc rfl (StabL.anc rfl (StabL.anc rfl (StabL.anc rfl trivial)))))))))))))))))))))))))))))))))))), ?_⟩ ?_
 refine Tp (.bool false) rfl (PO.pickF rfl rfl rfl) rfl ?_
 refine Tp (.bool false) rfl (PO.assign rfl) rfl ?_
 refine WT.fin ?_
 refine WQ.drop ?_
 refine WQ.drop ?_
 refine WQ.drop ?_
 refine WQ.f1 ?_
 refine WQ.f2 ?_
 refine WQ.f2 ?_
 obtain rfl := Option.some.inj h
 refine WQ.thenJ ?_
 exact ⟨(IM.le.refl _), rfl, rfl⟩
 exact WT.no
 exact WT.no
 exact WT.no
 exact WT.no
 exact WT.no
 exact WT.no
 exact WT.no
 rintro ρ79 M79 H79 ⟨hle79, rfl, hs79_0⟩
 have hq49_2 := hq49_2.mono hle79
 have hf71 := hf71.mono hle79
 have hE := hE.mono hle79
 refine WC.ret ?_
 refine WQ.drop ?_
 refine WQ.drop ?_
 refine WQ.drop ?_
 exact WQ.returnsF h [] rfl (results1 rfl hs79_0) (((((((((hle24.trans hle29).trans hle36).trans hle42).trans hle48).trans hle55).trans hle61).trans hle70).trans hle76).trans hle79) ⟨rfl, rfl⟩


end Go.Proofs.YtjiffdgidodebaaGreatDoor.G
