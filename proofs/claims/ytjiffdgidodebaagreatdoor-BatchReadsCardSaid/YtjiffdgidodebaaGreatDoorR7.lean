/- Go functions: what they come to, and that they do. Printed by a program of the session (gen). -/
import Derived.Test.YtjiffdgidodebaaGreatDoorRF
import Derived.Test.YtjiffdgidodebaaGreatDoorR6
import Derived.Test.YtjiffdgidodebaaGreatDoorKShar2
import Derived.Test.YtjiffdgidodebaaGreatDoorKConv
import Derived.Test.YtjiffdgidodebaaGreatDoorKTight
set_option linter.unusedVariables false
set_option linter.unusedSimpArgs false
set_option maxHeartbeats 8000000
set_option maxRecDepth 100000
namespace Go.Proofs.YtjiffdgidodebaaGreatDoor.G
open Go Go.KK

noncomputable def f_batch_Copy (a0 : T_api_Batch) : Option T_api_Batch :=
  ((f_batch_Of a0.Term a0.Base a0.Records).bind fun (r23 : T_api_Batch) => (some r23))
def f_batch_Copy_post (a0 : T_api_Batch) (v0_2 : Value) : T_api_Batch → Value → IM → HL → Prop :=
  fun (r0 : T_api_Batch) (v : Value) (M' : IM) (H' : HL) => ∃ vz0_2 cz0_2, (.agg #[(.int .i64 r0.Term), (.int .i64 r0.Base), vz0_2]) = v ∧ H' = [cz0_2] ∧ OwnS kd_api_Record M' vz0_2 r0.Records cz0_2
theorem f_batch_Copy_ok (a0 : T_api_Batch) (M : IM) (v0_2 : Value) (h0_2 : RS kd_api_Record M v0_2 a0.Records) (res : T_api_Batch) (h : f_batch_Copy a0 = some res) :
    Tri Tryz.prog 13 #[(a24_ a0 v0_2)] M [] (f_batch_Copy_post a0 v0_2 res) := by
 unfold f_batch_Copy at h
 refine Te Tryz.func13 rfl rfl ?_
 intro F ρ hρ
 refine Sr (We (EO.box (cs := (l24 a0 v0_2).toArray) (congrArg Value.cells (asE (a24_ a0 v0_2) (hρ 0)))) rfl ?_)
 rintro _ _ _ - ⟨rfl, g21, rfl, rfl⟩
 refine We (Al ze24 rfl) rfl ?_
 rintro _ _ _ - ⟨rfl, g22, rfl, rfl⟩
 refine Ns (Pu (pt g21 0) (Fa fo24_0 rfl rfl) rfl (Pu (Iv a0.Term) (Lb 1 pl3 rfl rfl rfl) rfl (Pu (pt g21 1) (Fa fo24_1 rfl rfl) rfl (Pu (Iv a0.Base) (Lb 1 pl3 rfl rfl rfl) rfl (Pu (pt g21 2) (Fa fo24_2 rfl rfl) rfl (Pu v0_2 (Lb 1 pl22 rfl rfl rfl) rfl ?_))))))
 obtain ⟨r23, hr24, h⟩ := bnd h
 refine We (Ca co14 (f_batch_Of_ok a0.Term a0.Base a0.Records _ _ h0_2 r23 hr24) (args3 rfl rfl rfl)) rfl ?_
 rintro _ M25 _ hle26 ⟨_, ⟨vq27_2, cq27_2, rfl, rfl, hq27_2⟩, rfl⟩
 refine WL.a1 (WL.f1 (We (Sg (v := (a24_ r23 vq27_2)) (vl := (l24 r23 vq27_2)) (arr' := (l24 r23 vq27_2)) rfl sz24 rfl rfl (onesOf (Oc rfl (Oc rfl (Oc (Ow hq27_2) Oz)))) rfl rfl rfl) rfl ?_))
 rintro _ _ _ - ⟨rfl, rfl⟩
 exact Nt (Cr (Qb (Dr (Rd h [cq27_2] (fun _ hs => hs.drop) (resultsL1 rfl (Rc (cs := (l24 r23 vq27_2)) 0 ag24 sz24 rfl rfl rfl)) hle26 ⟨vq27_2, cq27_2, rfl, rfl, hq27_2⟩))))

noncomputable def f_law06_works : Option Bool :=
  ((f_batch_Of (3 : Int) (9 : Int) [(⟨(1 : Int), (0 : Int), (0 : Int), (0 : Int), (0 : Int), (0 : Int), (0 : Int), (0 : Int), (0 : Int), false, (⟨#[]⟩ : ByteArray), (⟨#[]⟩ : ByteArray), (⟨#[]⟩ : ByteArray), (⟨#[]⟩ : ByteArray), [], [], [], []⟩ : T_api_Record), (⟨(11 : Int), (0 : Int), (0 : Int), (2 : Int), (0 : Int), (0 : Int), (0 : Int), (0 : Int), (0 : Int), false, (⟨#[]⟩ : ByteArray), (⟨#[]⟩ : ByteArray), (⟨#[]⟩ : ByteArray), (⟨#[]⟩ : ByteArray), [], [], [], []⟩ : T_api_Record)]).bind fun (r26 : T_api_Batch) => ((f_batch_Put r26).bind fun (r32, r33) => ((f_batch_Read r32).bind fun (r44, r45) => ((f_batch_Of (3 : Int) (9 : Int) []).bind fun (r52 : T_api_Batch) => ((f_batch_Put r52).bind fun (r57, r58) => (if (decide ((r26.Records.length : Int) ≠ (2 : Int))) = true then (some false) else (grd (0 ≤ (0 : Int) ∧ (0 : Int) ≤ (1 : Int) ∧ (1 : Int) ≤ (r26.Records.length : Int)) ((f_batch_Split (1 : Int) (5 : Int) (2 : Int) (sub r26.Records (0 : Int) (1 : Int))).bind fun (r73 : (List T_api_Batch)) => (((if r33.isNil = true then (if r45.isNil = true then ((f_batch_Same r44 r26).bind fun (r82 : Bool) => (if r82 = true then ((f_batch_Of (3 : Int) (9 : Int) []).bind fun (r91 : T_api_Batch) => ((f_batch_Same r44 r91).bind fun (r96 : Bool) => (if (!r96) = true then ((f_fault_Is r58 (6 : Int)).bind fun (r108 : Bool) => (if r108 = true then (if (decide ((r73.length : Int) = (1 : Int))) = true then (grd (0 ≤ (0 : Int) ∧ (0 : Int) < r73.length) (if (decide (((rd r73 (0 : Int)).Base) = (5 : Int))) = true then ((f_batch_Check r26).bind fun (r123 : GErr) => (if r123.isNil = true then ((f_batch_Copy r26).bind fun (r129 : T_api_Batch) => ((f_batch_Same r26 r129).bind fun (r134 : Bool) => (some r134))) else (some false))) else (some false))) else (some false)) else (some false))) else (some false)))) else (some false))) else (some false)) else (some false)) : Option Bool).bind fun (x78 : Bool) => (some x78))))))))))
def f_law06_works_post : Bool → Value → IM → HL → Prop :=
  fun (r0 : Bool) (v : Value) (M' : IM) (H' : HL) => (.bool r0) = v ∧ H' = []
theorem f_law06_works_ok (M : IM) (hE : Env M) (res : Bool) (h : f_law06_works = some res) :
    Tri Tryz.prog 7 #[] M [] (f_law06_works_post res) := by
 unfold f_law06_works at h
 refine Te Tryz.func7 rfl rfl ?_
 intro F ρ hρ
 refine Sr (Pa (Bv false) rfl rfl (Ns (Pu (.agg #[(Iv 1), (Iv 0), (Iv 0), (Iv 0), (Iv 0), (Iv 0), (Iv 0), (Iv 0), (Iv 0), (Bv false), (Sv ⟨#[]⟩), (Sv ⟨#[]⟩), (Sv ⟨#[]⟩), (Sv ⟨#[]⟩), Zs, Zs, Zs, Zs]) (Bl (cl := [(Iv 1), (Iv 0), (Iv 0), (Iv 0), (Iv 0), (Iv 0), (Iv 0), (Iv 0), (Iv 0), (Bv false), (Sv ⟨#[]⟩), (Sv ⟨#[]⟩), (Sv ⟨#[]⟩), (Sv ⟨#[]⟩), Zs, Zs, Zs, Zs]) ze67 fp67 (Pc (Iv 1) rfl rfl Pz) rfl) rfl (Pu (.agg #[(Iv 11), (Iv 0), (Iv 0), (Iv 2), (Iv 0), (Iv 0), (Iv 0), (Iv 0), (Iv 0), (Bv false), (Sv ⟨#[]⟩), (Sv ⟨#[]⟩), (Sv ⟨#[]⟩), (Sv ⟨#[]⟩), Zs, Zs, Zs, Zs]) (Bl (cl := [(Iv 11), (Iv 0), (Iv 0), (Iv 2), (Iv 0), (Iv 0), (Iv 0), (Iv 0), (Iv 0), (Bv false), (Sv ⟨#[]⟩), (Sv ⟨#[]⟩), (Sv ⟨#[]⟩), (Sv ⟨#[]⟩), Zs, Zs, Zs, Zs]) ze67 fp67 (Pc (Iv 11) rfl rfl (Pc (Iv 2) rfl rfl Pz)) rfl) rfl (We (EO.buildSliceL (cl := [(Iv 1), (Iv 0), (Iv 0), (Iv 0), (Iv 0), (Iv 0), (Iv 0), (Iv 0), (Iv 0), (Bv false), (Sv ⟨#[]⟩), (Sv ⟨#[]⟩), (Sv ⟨#[]⟩), (Sv ⟨#[]⟩), Zs, Zs, Zs, Zs, (Iv 11), (Iv 0), (Iv 0), (Iv 2), (Iv 0), (Iv 0), (Iv 0), (Iv 0), (Iv 0), (Bv false), (Sv ⟨#[]⟩), (Sv ⟨#[]⟩), (Sv ⟨#[]⟩), (Sv ⟨#[]⟩), Zs, Zs, Zs, Zs]) Tryz.underlying22 iz67 rfl (Pc (.agg #[(Iv 1), (Iv 0), (Iv 0), (Iv 0), (Iv 0), (Iv 0), (Iv 0), (Iv 0), (Iv 0), (Bv false), (Sv ⟨#[]⟩), (Sv ⟨#[]⟩), (Sv ⟨#[]⟩), (Sv ⟨#[]⟩), Zs, Zs, Zs, Zs]) rfl rfl (Pc (.agg #[(Iv 11), (Iv 0), (Iv 0), (Iv 2), (Iv 0), (Iv 0), (Iv 0), (Iv 0), (Iv 0), (Bv false), (Sv ⟨#[]⟩), (Sv ⟨#[]⟩), (Sv ⟨#[]⟩), (Sv ⟨#[]⟩), Zs, Zs, Zs, Zs]) rfl rfl Pz)) rfl) rfl ?_)))))
 rintro _ _ _ - ⟨rfl, g21, rfl, rfl⟩
 have h23 : OwnS kd_api_Record M (.slice (some ⟨g21, 0, none⟩) 2 2) [(⟨(1 : Int), (0 : Int), (0 : Int), (0 : Int), (0 : Int), (0 : Int), (0 : Int), (0 : Int), (0 : Int), false, (⟨#[]⟩ : ByteArray), (⟨#[]⟩ : ByteArray), (⟨#[]⟩ : ByteArray), (⟨#[]⟩ : ByteArray), [], [], [], []⟩ : T_api_Record), (⟨(11 : Int), (0 : Int), (0 : Int), (2 : Int), (0 : Int), (0 : Int), (0 : Int), (0 : Int), (0 : Int), false, (⟨#[]⟩ : ByteArray), (⟨#[]⟩ : ByteArray), (⟨#[]⟩ : ByteArray), (⟨#[]⟩ : ByteArray), [], [], [], []⟩ : T_api_Record)] [(g21, .cells #[(Iv 1), (Iv 0), (Iv 0), (Iv 0), (Iv 0), (Iv 0), (Iv 0), (Iv 0), (Iv 0), (Bv false), (Sv ⟨#[]⟩), (Sv ⟨#[]⟩), (Sv ⟨#[]⟩), (Sv ⟨#[]⟩), Zs, Zs, Zs, Zs, (Iv 11), (Iv 0), (Iv 0), (Iv 2), (Iv 0), (Iv 0), (Iv 0), (Iv 0), (Iv 0), (Bv false), (Sv ⟨#[]⟩), (Sv ⟨#[]⟩), (Sv ⟨#[]⟩), (Sv ⟨#[]⟩), Zs, Zs, Zs, Zs] 67 (0, 0))] := OwnS.rows (css := [[(Iv 1), (Iv 0), (Iv 0), (Iv 0), (Iv 0), (Iv 0), (Iv 0), (Iv 0), (Iv 0), (Bv false), (Sv ⟨#[]⟩), (Sv ⟨#[]⟩), (Sv ⟨#[]⟩), (Sv ⟨#[]⟩), Zs, Zs, Zs, Zs], [(Iv 11), (Iv 0), (Iv 0), (Iv 2), (Iv 0), (Iv 0), (Iv 0), (Iv 0), (Iv 0), (Bv false), (Sv ⟨#[]⟩), (Sv ⟨#[]⟩), (Sv ⟨#[]⟩), (Sv ⟨#[]⟩), Zs, Zs, Zs, Zs]]) (Rows.cons (kd_api_Record_mk (x := (⟨(1 : Int), (0 : Int), (0 : Int), (0 : Int), (0 : Int), (0 : Int), (0 : Int), (0 : Int), (0 : Int), false, (⟨#[]⟩ : ByteArray), (⟨#[]⟩ : ByteArray), (⟨#[]⟩ : ByteArray), (⟨#[]⟩ : ByteArray), [], [], [], []⟩ : T_api_Record)) (RS.nil _ _) (RS.nil _ _) (RS.nil _ _) (RS.nil _ _)) (Rows.cons (kd_api_Record_mk (x := (⟨(11 : Int), (0 : Int), (0 : Int), (2 : Int), (0 : Int), (0 : Int), (0 : Int), (0 : Int), (0 : Int), false, (⟨#[]⟩ : ByteArray), (⟨#[]⟩ : ByteArray), (⟨#[]⟩ : ByteArray), (⟨#[]⟩ : ByteArray), [], [], [], []⟩ : T_api_Record)) (RS.nil _ _) (RS.nil _ _) (RS.nil _ _) (RS.nil _ _)) Rows.nil)) rfl rfl
 refine WL.know (fun _ hs => h23.rs hs) (fun hf25 => ?_)
 refine WL.freeze (fun hle24 => ?_)
 obtain ⟨r26, hr27, h⟩ := bnd h
 refine We (Ca co14 (f_batch_Of_ok (3 : Int) (9 : Int) [(⟨(1 : Int), (0 : Int), (0 : Int), (0 : Int), (0 : Int), (0 : Int), (0 : Int), (0 : Int), (0 : Int), false, (⟨#[]⟩ : ByteArray), (⟨#[]⟩ : ByteArray), (⟨#[]⟩ : ByteArray), (⟨#[]⟩ : ByteArray), [], [], [], []⟩ : T_api_Record), (⟨(11 : Int), (0 : Int), (0 : Int), (2 : Int), (0 : Int), (0 : Int), (0 : Int), (0 : Int), (0 : Int), false, (⟨#[]⟩ : ByteArray), (⟨#[]⟩ : ByteArray), (⟨#[]⟩ : ByteArray), (⟨#[]⟩ : ByteArray), [], [], [], []⟩ : T_api_Record)] _ _ hf25 r26 hr27) (args3 rfl rfl rfl)) rfl ?_
 rintro _ M28 _ hle29 ⟨_, ⟨vq30_2, cq30_2, rfl, rfl, hq30_2⟩, rfl⟩
 refine WL.a1 (We (Al ze24 rfl) rfl ?_)
 rintro _ _ _ - ⟨rfl, g31, rfl, rfl⟩
 refine We (Sg (v := (a24_ r26 vq30_2)) (vl := (l24 r26 vq30_2)) (arr' := (l24 r26 vq30_2)) rfl sz24 rfl rfl (onesOf (Oc rfl (Oc rfl (Oc (Ow hq30_2) Oz)))) rfl rfl rfl) rfl ?_
 rintro _ _ _ - ⟨rfl, rfl⟩
 refine Ns (Pu (a24_ r26 vq30_2) (La (cs := (l24 r26 vq30_2)) 0 ag24 sz24 rfl rfl rfl) rfl ?_)
 obtain ⟨⟨r32, r33⟩, hr34, h⟩ := bnd h
 refine WL.f1 (We (Cb co15 (Tri.lend hq30_2.excl fun w0_ H0_ hs0_ => (f_batch_Put_ok r26 _ _ (hq30_2.rs hs0_) (r32, r33) hr34)) (args1 rfl)) rfl ?_)
 rintro _ _ _ hle36 ⟨_, ⟨Ml39, Hl40, hll41, rfl, rfl, ⟨vq37, cq37, rfl, rfl, hq37⟩⟩, rfl⟩
 have hq37 : OwnS (Kd.int .u8) (Ml39.minus cq30_2) vq37 r32 cq37 := hq37.any (Kd.int_flat _)
 refine WL.a2 (Pm (.tuple #[vq37, (GV r33)]) rfl rfl (Pu vq37 (Xt rfl rfl) rfl (Pu (GV r33) (Xt rfl rfl) rfl (Pa vq37 rfl rfl (Pa (GV r33) rfl rfl (Ns (Pm vq37 rfl rfl (WL.f1 (WL.know (fun _ hs => hq37.rs hs) (fun hf43 => ?_))))))))))
 refine WL.freeze (fun hle42 => ?_)
 obtain ⟨⟨r44, r45⟩, hr46, h⟩ := bnd h
 have hE := hE.mono (((hle24.trans hle29).trans hle36).trans hle42)
 refine We (Ca co18 (f_batch_Read_ok r32 _ _ hf43 hE (r44, r45) hr46) (args1 rfl)) rfl ?_
 rintro _ M47 _ hle48 ⟨_, ⟨vq49_2, cq49_2, rfl, rfl, hq49_2⟩, rfl⟩
 refine WL.a1 (Pm (.tuple #[(a24_ r44 vq49_2), (GV r45)]) rfl rfl (Pu (a24_ r44 vq49_2) (Xt rfl rfl) rfl (Pu (GV r45) (Xt rfl rfl) rfl (We (Al ze24 rfl) rfl ?_))))
 rintro _ _ _ - ⟨rfl, g51, rfl, rfl⟩
 refine We (Sg (v := (a24_ r44 vq49_2)) (vl := (l24 r44 vq49_2)) (arr' := (l24 r44 vq49_2)) rfl sz24 rfl rfl (onesOf (Oc rfl (Oc rfl (Oc (Ow hq49_2) Oz)))) rfl rfl rfl) rfl ?_
 rintro _ _ _ - ⟨rfl, rfl⟩
 refine Pa (GV r45) rfl rfl (Ns ?_)
 obtain ⟨r52, hr53, h⟩ := bnd h
 refine We (Ca co14 (f_batch_Of_ok (3 : Int) (9 : Int) [] _ _ (RS.nil _ _) r52 hr53) (args3 rfl rfl rfl)) rfl ?_
 rintro _ M54 _ hle55 ⟨_, ⟨vq56_2, cq56_2, rfl, rfl, hq56_2⟩, rfl⟩
 refine WL.a1 ?_
 obtain ⟨⟨r57, r58⟩, hr59, h⟩ := bnd h
 refine We (Cb co15 (Tri.lend hq56_2.excl fun w0_ H0_ hs0_ => (f_batch_Put_ok r52 _ _ (hq56_2.rs hs0_) (r57, r58) hr59)) (args1 rfl)) rfl ?_
 rintro _ _ _ hle61 ⟨_, ⟨Ml64, Hl65, hll66, rfl, rfl, ⟨vq62, cq62, rfl, rfl, hq62⟩⟩, rfl⟩
 have hq62 : OwnS (Kd.int .u8) (Ml64.minus cq56_2) vq62 r57 cq62 := hq62.any (Kd.int_flat _)
 refine WL.a2 (Pm (.tuple #[vq62, (GV r58)]) rfl rfl (Pu vq62 (Xt rfl rfl) rfl (Pu (GV r58) (Xt rfl rfl) rfl (Pa vq62 rfl rfl (Pa (GV r58) rfl rfl (Nt (Cs (Sr (Pu (pt g31 2) (Fa fo24_2 rfl rfl) rfl (Pu vq30_2 (Lb 5 pl22 rfl rfl rfl) rfl ?_))))))))))
 have hq30_2 := hq30_2.mono ((((hle36.trans hle42).trans hle48).trans hle55).trans hle61)
 refine Pu (Iv (r26.Records.length : Int)) (PO.lenS Tryz.underlying22 rfl hq30_2.len) rfl (Pu (Bv (decide ((r26.Records.length : Int) ≠ (2 : Int)))) (PO.neq rfl rfl) rfl (Nt (Cd (b := decide ((r26.Records.length : Int) ≠ (2 : Int))) rfl (fun hb67 => ?_) (fun hb67 => ?_))))
 have h := ite_t hb67 h
 exact Sr (Pa (Bv false) rfl rfl (Nt (Cr (Tr (Dr (Dr (Dr (Dr (Dr (Dr (Rf h [] rfl (Rs rfl rfl) ((((((hle24.trans hle29).trans hle36).trans hle42).trans hle48).trans hle55).trans hle61) ⟨rfl, rfl⟩)))))))))))
 have h := ite_f hb67 h
 refine Ck (Tc (Sr (Pu (pt g31 2) (Fa fo24_2 rfl rfl) rfl (Pu vq30_2 (Lb 5 pl22 rfl rfl rfl) rfl ?_))))
 obtain ⟨hg68, h⟩ := grd_i h
 have h69 := hq30_2.sub hg68.1 hg68.2.1 hg68.2.2
 refine Pu (slV vq30_2 18 ((0 : Int)).toNat ((1 : Int)).toNat) (PO.slice (n := r26.Records.length) (l := ((0 : Int)).toNat) (h := ((1 : Int)).toNat) Tryz.underlying22 sz67 rfl hq30_2.len hq30_2.cap (bound0 rfl) ⟨_, _, rfl, (Int.le_trans hg68.1 hg68.2.1), rfl⟩ (Int.toNat_le_toNat hg68.2.1) (toNat_le_len hg68.2.2)) rfl (WL.f4 (WL.know (fun _ hs => hq30_2.rs hs) (fun hf71 => ?_)))
 refine WL.know (fun _ hs => h69.rs hs) (fun hf72 => ?_)
 refine WL.freeze (fun hle70 => ?_)
 obtain ⟨r73, hr74, h⟩ := bnd h
 refine We (Ca co27 (f_batch_Split_ok (1 : Int) (5 : Int) (2 : Int) (sub r26.Records (0 : Int) (1 : Int)) _ _ hf72 r73 hr74) (args4 rfl rfl rfl rfl)) rfl ?_
 rintro _ M75 _ hle76 ⟨_, ⟨vq77, cq77, rfl, rfl, hq77⟩, rfl⟩
 refine WL.a1 (Pa vq77 rfl rfl (Nt ?_))
 obtain ⟨x78, hj79, h⟩ := bnd h
 refine Jf (fun (x78 : Bool) ρ' M' H' => M75.le M' ∧ [(g51, .cells (l24 r44 vq49_2).toArray 24 (0, 0))] :: [(g31, .cells (l24 r26 vq30_2).toArray 24 (0, 0))] :: cq49_2 :: F = H' ∧ ρ' 0 = (Bv x78)) x78 ?_ ?_
 have h379 := h
 have h := hj79
 refine WC.draw [0, 1, 3, 7, 15, 31, 63, 127, 127, 511, 1023, 2047, 4095, 4095, 16383, 32767, 65535, 131071, 262143, 524287, 1048575, 2097151, 4194303, 8388607, 16777215, 33554431, 67108863, 134217727, 268435455, 536870911, 1073741823, 2147483647, 4294967295, 8589934591, 17179869183, 34359738367, 68719476735, 137438953471, 274877906943, 549755813887, 549755813887, 1649267441663, 4398046511103, 8796093022207, 17592186044415] (.pure 0 (.pure 1 (.pure 2 (.pure 3 (.pure 4 (.pure 5 (.pure 6 (.pure 7 (.pure 8 (.alt 9 (.pure 10 (.pure 11 (.pure 12 (.alt 13 (.alt 14 (.pure 15 (.pure 16 (.pure 17 (.pure 18 (.alt 19 (.pure 20 (.pure 21 (.pure 22 (.pure 23 (.pure 24 (.pure 25 (.pure 26 (.pure 27 (.pure 28 (.pure 29 (.pure 30 (.pure 31 (.pure 32 (.pure 33 (.pure 34 (.alt 35 (.pure 36 (.pure 37 (.pure 38 (.pure 39 (.pure 40 (.alt 41 (.alt 42 (.pure 43 (.pure 44 .done)) .none) .none)))))) .none)))))))))))))))) .none))))) .none) .none)))) .none)))))))))) mixed (by kernel_rfl) (Tp (GV r33) rfl (Mv rfl) rfl (Tp (Bv r33.isNil) rfl (PO.errNil Tryz.underlying29 rfl) rfl (Tp (Bv r33.isNil) rfl (Mv rfl) rfl ?_)))
 rcases Bt (r33.isNil) with hb80 | hb80
 have h := ite_t hb80 h
 refine Tn (GV r45) 38 rfl rfl rfl hb80 (Mv rfl) rfl (Tn (Bv r45.isNil) 38 rfl rfl rfl hb80 (PO.errNil Tryz.underlying29 rfl) rfl (Tp (Bv r45.isNil) rfl (Pt rfl hb80 rfl) rfl (Tp (Bv r45.isNil) rfl (Mv rfl) rfl ?_)))
 rcases Bt (r45.isNil) with hb81 | hb81
 have h := ite_t hb81 h
 refine Tn (a24_ r44 vq49_2) 42 rfl rfl rfl hb81 (La (cs := (l24 r44 vq49_2)) 3 ag24 sz24 rfl rfl rfl) rfl (Tn (a24_ r26 vq30_2) 42 rfl rfl rfl hb81 (La (cs := (l24 r26 vq30_2)) 5 ag24 sz24 rfl rfl rfl) rfl ?_)
 obtain ⟨r82, hr83, h⟩ := bnd h
 refine WT.f4 ?_
 have hq49_2 := hq49_2.mono (((hle55.trans hle61).trans hle70).trans hle76)
 have hf71 := hf71.mono hle76
 refine WT.altOn 42 rfl rfl rfl hb81 (Cb co11 (Tri.lend hq49_2.excl fun w0_ H0_ hs0_ => (f_batch_Same_ok r44 r26 _ _ _ (hq49_2.rs hs0_) (hf71.mono (IM.le_add _ _)) r82 hr83)) (args2 rfl rfl)) rfl ?_ ?_
 rintro _ _ _ hle85 ⟨_, ⟨Ml87, Hl88, hll89, rfl, rfl, ⟨rfl, rfl⟩⟩, rfl⟩
 refine ⟨(Sl rfl), ?_⟩
 refine WT.a1 (Tp (Bv r82) rfl (Pt rfl hb81 rfl) rfl (Tp (Bv r82) rfl (Mv rfl) rfl ?_))
 rcases Bt (r82) with hb90 | hb90
 have h := ite_t hb90 h
 refine Tn (a24_ r44 vq49_2) 47 rfl rfl rfl hb90 (La (cs := (l24 r44 vq49_2)) 4 ag24 sz24 rfl rfl rfl) rfl ?_
 obtain ⟨r91, hr92, h⟩ := bnd h
 refine WT.altOn 47 rfl rfl rfl hb90 (Ca co14 (f_batch_Of_ok (3 : Int) (9 : Int) [] _ _ (RS.nil _ _) r91 hr92) (args3 rfl rfl rfl)) rfl ?_ ?_
 rintro _ M93 _ hle94 ⟨_, ⟨vq95_2, cq95_2, rfl, rfl, hq95_2⟩, rfl⟩
 refine ⟨(St (StabA.on 47 rfl rfl rfl hb90 (La (cs := (l24 r44 vq49_2)) 5 ag24 sz24 rfl rfl rfl) rfl) (Sl rfl)), ?_⟩
 refine WT.a1 ?_
 obtain ⟨r96, hr97, h⟩ := bnd h
 refine WT.f1 ?_
 have hq49_2 := hq49_2.mono (hle85.trans hle94)
 refine WT.altOn 47 rfl rfl rfl hb90 (EO.call2 co11 (Tri.lend hq49_2.excl fun w0_ H0_ hs0_ => (Tri.lend hq95_2.excl fun w1_ H1_ hs1_ => (f_batch_Same_ok r44 r91 _ _ _ ((hq49_2.rs hs0_).mono (IM.le_add _ _)) ((hq95_2.mono (IM.le_add _ _)).rs hs1_) r96 hr97))) (args2 rfl rfl)) rfl ?_ ?_
 rintro _ _ _ hle99 ⟨_, ⟨Ml104, Hl105, hll106, rfl, rfl, ⟨Ml101, Hl102, hll103, rfl, rfl, ⟨rfl, rfl⟩⟩⟩, rfl⟩
 refine ⟨(Sl rfl), ?_⟩
 refine WT.a2 (Tn (Bv (!r96)) 47 rfl rfl rfl hb90 (PO.not rfl) rfl (Tp (Bv (!r96)) rfl (Pt rfl hb90 rfl) rfl (Tp (Bv (!r96)) rfl (Mv rfl) rfl ?_)))
 rcases Bt (!r96) with hb107 | hb107
 have h := ite_t hb107 h
 refine Tn (GV r58) 53 rfl rfl rfl hb107 (Mv rfl) rfl ?_
 obtain ⟨r108, hr109, h⟩ := bnd h
 refine WT.altOn 53 rfl rfl rfl hb107 (Ca co28 (f_fault_Is_ok r58 (6 : Int) _ r108 hr109) (args2 rfl rfl)) rfl ?_ ?_
 rintro _ M110 _ hle111 ⟨_, ⟨rfl, rfl⟩, rfl⟩
 refine ⟨(Sl rfl), ?_⟩
 refine WT.a0 (Tp (Bv r108) rfl (Pt rfl hb107 rfl) rfl (Tp (Bv r108) rfl (Mv rfl) rfl ?_))
 rcases Bt (r108) with hb113 | hb113
 have h := ite_t hb113 h
 refine Tn vq77 57 rfl rfl rfl hb113 (Mv rfl) rfl ?_
 have hq77 := hq77.mono (((hle85.trans hle94).trans hle99).trans hle111)
 refine Tn (Iv (r73.length : Int)) 57 rfl rfl rfl hb113 (PO.lenS Tryz.underlying68 rfl hq77.len) rfl (Tn (Bv (decide ((r73.length : Int) = (1 : Int)))) 57 rfl rfl rfl hb113 (PO.eql rfl rfl) rfl (Tp (Bv (decide ((r73.length : Int) = (1 : Int)))) rfl (Pt rfl hb113 rfl) rfl (Tp (Bv (decide ((r73.length : Int) = (1 : Int)))) rfl (Mv rfl) rfl ?_)))
 rcases Bt (decide ((r73.length : Int) = (1 : Int))) with hb114 | hb114
 have h := ite_t hb114 h
 refine Tn vq77 62 rfl rfl rfl hb114 (Mv rfl) rfl ?_
 obtain ⟨hg115, h⟩ := grd_i h
 obtain ⟨p116, cs117, hat118, hrc119, hhas120⟩ := hq77.at hg115.1 hg115.2
 obtain ⟨vw121_2, rfl, hw121_2⟩ := kd_api_Batch_open hrc119
 refine Tn (.pointer (some p116)) 62 rfl rfl rfl hb114 (PO.indexAddr (n := r73.length) Tryz.underlying68 sz24 rfl rfl hg115.1 hg115.2 hat118) rfl (Tn (.pointer (some (p116.add 1))) 62 rfl rfl rfl hb114 (Fa fo24_1 rfl rfl) rfl (Tn (Iv ((rd r73 (0 : Int)).Base)) 62 rfl rfl rfl hb114 (PO.loadC 2 pl3 rfl rfl (hhas120 1 _ rfl)) rfl (Tn (Bv (decide (((rd r73 (0 : Int)).Base) = 5))) 62 rfl rfl rfl hb114 (PO.eql rfl rfl) rfl (Tp (Bv (decide (((rd r73 (0 : Int)).Base) = 5))) rfl (Pt rfl hb114 rfl) rfl (Tp (Bv (decide (((rd r73 (0 : Int)).Base) = 5))) rfl (Mv rfl) rfl ?_)))))
 rcases Bt (decide (((rd r73 (0 : Int)).Base) = 5)) with hb122 | hb122
 have h := ite_t hb122 h
 refine Tn (a24_ r26 vq30_2) 69 rfl rfl rfl hb122 (La (cs := (l24 r26 vq30_2)) 6 ag24 sz24 rfl rfl rfl) rfl ?_
 obtain ⟨r123, hr124, h⟩ := bnd h
 have hf71 := hf71.mono (((hle85.trans hle94).trans hle99).trans hle111)
 refine WT.altOn 69 rfl rfl rfl hb122 (Ca co9 (f_batch_Check_ok r26 _ _ hf71 r123 hr124) (args1 rfl)) rfl ?_ ?_
 rintro _ M125 _ hle126 ⟨_, ⟨rfl, rfl⟩, rfl⟩
 refine ⟨(Sl rfl), ?_⟩
 refine WT.a0 (Tn (Bv r123.isNil) 69 rfl rfl rfl hb122 (PO.errNil Tryz.underlying29 rfl) rfl (Tp (Bv r123.isNil) rfl (Pt rfl hb122 rfl) rfl (Tp (Bv r123.isNil) rfl (Mv rfl) rfl ?_)))
 rcases Bt (r123.isNil) with hb128 | hb128
 have h := ite_t hb128 h
 refine Tn (a24_ r26 vq30_2) 74 rfl rfl rfl hb128 (La (cs := (l24 r26 vq30_2)) 6 ag24 sz24 rfl rfl rfl) rfl (Tn (a24_ r26 vq30_2) 74 rfl rfl rfl hb128 (La (cs := (l24 r26 vq30_2)) 6 ag24 sz24 rfl rfl rfl) rfl ?_)
 obtain ⟨r129, hr130, h⟩ := bnd h
 have hf71 := hf71.mono hle126
 refine WT.altOn 74 rfl rfl rfl hb128 (Ca co13 (f_batch_Copy_ok r26 _ _ hf71 r129 hr130) (args1 rfl)) rfl ?_ ?_
 rintro _ M131 _ hle132 ⟨_, ⟨vq133_2, cq133_2, rfl, rfl, hq133_2⟩, rfl⟩
 refine ⟨(Sk 1 rfl (St (StabA.on 74 rfl rfl rfl hb128 (La (cs := (l24 r26 vq30_2)) 7 ag24 sz24 rfl rfl rfl) rfl) (Sl rfl))), ?_⟩
 refine WT.a1 ?_
 obtain ⟨r134, hr135, h⟩ := bnd h
 have hf71 := hf71.mono hle132
 refine WT.altOn 74 rfl rfl rfl hb128 (Cb co11 (Tri.lend hq133_2.excl fun w0_ H0_ hs0_ => (f_batch_Same_ok r26 r129 _ _ _ (hf71.mono (IM.le_add _ _)) (hq133_2.rs hs0_) r134 hr135)) (args2 rfl rfl)) rfl ?_ ?_
 rintro _ _ _ hle137 ⟨_, ⟨Ml139, Hl140, hll141, rfl, rfl, ⟨rfl, rfl⟩⟩, rfl⟩
 refine ⟨(Sl rfl), ?_⟩
 refine WT.a1 (Tp (Bv r134) rfl (Pt rfl hb128 rfl) rfl (Tp (Bv r134) rfl (Ag rfl) rfl (Ti (Dr (Qa (Dr (Qa (Dr (Qa (Dr (Qa ?_)))))))))))
 refine Dr (Qb (Qb ?_))
 obtain rfl := oi h
 exact Tj ⟨((((((hle85.trans hle94).trans hle99).trans hle111).trans hle126).trans hle132).trans hle137), rfl, rfl⟩
 exact Tz
 exact Tz
 have h := ite_f hb128 h
 refine Tf 74 rfl rfl rfl hb128 rfl (Tf 74 rfl rfl rfl hb128 rfl (Tg 74 rfl rfl rfl hb128 rfl ⟨(Sk 1 rfl (St (Sf 74 rfl rfl rfl hb128 rfl) (Sl rfl))), ?_⟩ ?_))
 refine Tg 74 rfl rfl rfl hb128 rfl ⟨(Sl rfl), ?_⟩ ?_
 refine Tp (Bv false) rfl (Pf rfl hb128 rfl) rfl (Tp (Bv false) rfl (Ag rfl) rfl (Ti (Qa (Dr (Qa (Dr (Qa (Dr (Qa (Dr (Qb ?_)))))))))))
 refine Qb ?_
 obtain rfl := oi h
 exact Tj ⟨((((hle85.trans hle94).trans hle99).trans hle111).trans hle126), rfl, rfl⟩
 exact Tz
 exact Tz
 exact Tz
 have h := ite_f hb122 h
 refine Tf 69 rfl rfl rfl hb122 rfl (Tg 69 rfl rfl rfl hb122 rfl ⟨(Sl rfl), ?_⟩ ?_)
 refine Tf 69 rfl rfl rfl hb122 rfl (Tp (Bv false) rfl (Pf rfl hb122 rfl) rfl (Tp (Bv false) rfl (Mv rfl) rfl (Tf 74 rfl rfl rfl rfl rfl (Tf 74 rfl rfl rfl rfl rfl (Tg 74 rfl rfl rfl rfl rfl ⟨(Sk 1 rfl (St (Sf 74 rfl rfl rfl rfl rfl) (Sl rfl))), ?_⟩ ?_)))))
 refine Tg 74 rfl rfl rfl rfl rfl ⟨(Sl rfl), ?_⟩ ?_
 refine Tp (Bv false) rfl (Pf rfl rfl rfl) rfl (Tp (Bv false) rfl (Ag rfl) rfl (Ti (Qa (Dr (Qa (Dr (Qa (Dr (Qa (Dr (Qb ?_)))))))))))
 refine Qb ?_
 obtain rfl := oi h
 exact Tj ⟨(((hle85.trans hle94).trans hle99).trans hle111), rfl, rfl⟩
 exact Tz
 exact Tz
 exact Tz
 have h := ite_f hb114 h
 refine Tf 62 rfl rfl rfl hb114 rfl (Tf 62 rfl rfl rfl hb114 rfl (Tf 62 rfl rfl rfl hb114 rfl (Tf 62 rfl rfl rfl hb114 rfl (Tf 62 rfl rfl rfl hb114 rfl (Tp (Bv false) rfl (Pf rfl hb114 rfl) rfl (Tp (Bv false) rfl (Mv rfl) rfl (Tf 69 rfl rfl rfl rfl rfl (Tg 69 rfl rfl rfl rfl rfl ⟨(Sl rfl), ?_⟩ ?_))))))))
 refine Tf 69 rfl rfl rfl rfl rfl (Tp (Bv false) rfl (Pf rfl rfl rfl) rfl (Tp (Bv false) rfl (Mv rfl) rfl (Tf 74 rfl rfl rfl rfl rfl (Tf 74 rfl rfl rfl rfl rfl (Tg 74 rfl rfl rfl rfl rfl ⟨(Sk 1 rfl (St (Sf 74 rfl rfl rfl rfl rfl) (Sl rfl))), ?_⟩ ?_)))))
 refine Tg 74 rfl rfl rfl rfl rfl ⟨(Sl rfl), ?_⟩ ?_
 refine Tp (Bv false) rfl (Pf rfl rfl rfl) rfl (Tp (Bv false) rfl (Ag rfl) rfl (Ti (Qa (Dr (Qa (Dr (Qa (Dr (Qa (Dr (Qb ?_)))))))))))
 refine Qb ?_
 obtain rfl := oi h
 exact Tj ⟨(((hle85.trans hle94).trans hle99).trans hle111), rfl, rfl⟩
 exact Tz
 exact Tz
 exact Tz
 have h := ite_f hb113 h
 refine Tf 57 rfl rfl rfl hb113 rfl (Tf 57 rfl rfl rfl hb113 rfl (Tf 57 rfl rfl rfl hb113 rfl (Tp (Bv false) rfl (Pf rfl hb113 rfl) rfl (Tp (Bv false) rfl (Mv rfl) rfl (Tf 62 rfl rfl rfl rfl rfl (Tf 62 rfl rfl rfl rfl rfl (Tf 62 rfl rfl rfl rfl rfl (Tf 62 rfl rfl rfl rfl rfl (Tf 62 rfl rfl rfl rfl rfl (Tp (Bv false) rfl (Pf rfl rfl rfl) rfl (Tp (Bv false) rfl (Mv rfl) rfl ?_)))))))))))
 refine Tf 69 rfl rfl rfl rfl rfl (Tg 69 rfl rfl rfl rfl rfl ⟨(Sl rfl), ?_⟩ ?_)
 refine Tf 69 rfl rfl rfl rfl rfl (Tp (Bv false) rfl (Pf rfl rfl rfl) rfl (Tp (Bv false) rfl (Mv rfl) rfl (Tf 74 rfl rfl rfl rfl rfl (Tf 74 rfl rfl rfl rfl rfl (Tg 74 rfl rfl rfl rfl rfl ⟨(Sk 1 rfl (St (Sf 74 rfl rfl rfl rfl rfl) (Sl rfl))), ?_⟩ ?_)))))
 refine Tg 74 rfl rfl rfl rfl rfl ⟨(Sl rfl), ?_⟩ ?_
 refine Tp (Bv false) rfl (Pf rfl rfl rfl) rfl (Tp (Bv false) rfl (Ag rfl) rfl (Ti (Qa (Dr (Qa (Dr (Qa (Dr (Qa (Dr (Qb ?_)))))))))))
 refine Qb ?_
 obtain rfl := oi h
 exact Tj ⟨(((hle85.trans hle94).trans hle99).trans hle111), rfl, rfl⟩
 exact Tz
 exact Tz
 exact Tz
 exact Tz
 have h := ite_f hb107 h
 refine Tf 53 rfl rfl rfl hb107 rfl (Tg 53 rfl rfl rfl hb107 rfl ⟨(Sl rfl), ?_⟩ ?_)
 refine Tp (Bv false) rfl (Pf rfl hb107 rfl) rfl (Tp (Bv false) rfl (Mv rfl) rfl (Tf 57 rfl rfl rfl rfl rfl (Tf 57 rfl rfl rfl rfl rfl (Tf 57 rfl rfl rfl rfl rfl (Tp (Bv false) rfl (Pf rfl rfl rfl) rfl (Tp (Bv false) rfl (Mv rfl) rfl (Tf 62 rfl rfl rfl rfl rfl (Tf 62 rfl rfl rfl rfl rfl (Tf 62 rfl rfl rfl rfl rfl (Tf 62 rfl rfl rfl rfl rfl (Tf 62 rfl rfl rfl rfl rfl ?_)))))))))))
 refine Tp (Bv false) rfl (Pf rfl rfl rfl) rfl (Tp (Bv false) rfl (Mv rfl) rfl (Tf 69 rfl rfl rfl rfl rfl (Tg 69 rfl rfl rfl rfl rfl ⟨(Sl rfl), ?_⟩ ?_)))
 refine Tf 69 rfl rfl rfl rfl rfl (Tp (Bv false) rfl (Pf rfl rfl rfl) rfl (Tp (Bv false) rfl (Mv rfl) rfl (Tf 74 rfl rfl rfl rfl rfl (Tf 74 rfl rfl rfl rfl rfl (Tg 74 rfl rfl rfl rfl rfl ⟨(Sk 1 rfl (St (Sf 74 rfl rfl rfl rfl rfl) (Sl rfl))), ?_⟩ ?_)))))
 refine Tg 74 rfl rfl rfl rfl rfl ⟨(Sl rfl), ?_⟩ ?_
 refine Tp (Bv false) rfl (Pf rfl rfl rfl) rfl (Tp (Bv false) rfl (Ag rfl) rfl (Ti (Qa (Dr (Qa (Dr (Qa (Dr (Qa (Dr (Qb ?_)))))))))))
 refine Qb ?_
 obtain rfl := oi h
 exact Tj ⟨((hle85.trans hle94).trans hle99), rfl, rfl⟩
 exact Tz
 exact Tz
 exact Tz
 exact Tz
 exact Tz
 exact Tz
 have h := ite_f hb90 h
 refine Tf 47 rfl rfl rfl hb90 rfl (Tg 47 rfl rfl rfl hb90 rfl ⟨(St (Sf 47 rfl rfl rfl hb90 rfl) (Sl rfl)), ?_⟩ ?_)
 refine Tg 47 rfl rfl rfl hb90 rfl ⟨(Sl rfl), ?_⟩ ?_
 refine Tf 47 rfl rfl rfl hb90 rfl (Tp (Bv false) rfl (Pf rfl hb90 rfl) rfl (Tp (Bv false) rfl (Mv rfl) rfl (Tf 53 rfl rfl rfl rfl rfl (Tg 53 rfl rfl rfl rfl rfl ⟨(Sl rfl), ?_⟩ ?_))))
 refine Tp (Bv false) rfl (Pf rfl rfl rfl) rfl (Tp (Bv false) rfl (Mv rfl) rfl (Tf 57 rfl rfl rfl rfl rfl (Tf 57 rfl rfl rfl rfl rfl (Tf 57 rfl rfl rfl rfl rfl (Tp (Bv false) rfl (Pf rfl rfl rfl) rfl (Tp (Bv false) rfl (Mv rfl) rfl (Tf 62 rfl rfl rfl rfl rfl (Tf 62 rfl rfl rfl rfl rfl (Tf 62 rfl rfl rfl rfl rfl (Tf 62 rfl rfl rfl rfl rfl (Tf 62 rfl rfl rfl rfl rfl ?_)))))))))))
 refine Tp (Bv false) rfl (Pf rfl rfl rfl) rfl (Tp (Bv false) rfl (Mv rfl) rfl (Tf 69 rfl rfl rfl rfl rfl (Tg 69 rfl rfl rfl rfl rfl ⟨(Sl rfl), ?_⟩ ?_)))
 refine Tf 69 rfl rfl rfl rfl rfl (Tp (Bv false) rfl (Pf rfl rfl rfl) rfl (Tp (Bv false) rfl (Mv rfl) rfl (Tf 74 rfl rfl rfl rfl rfl (Tf 74 rfl rfl rfl rfl rfl (Tg 74 rfl rfl rfl rfl rfl ⟨(Sk 1 rfl (St (Sf 74 rfl rfl rfl rfl rfl) (Sl rfl))), ?_⟩ ?_)))))
 refine Tg 74 rfl rfl rfl rfl rfl ⟨(Sl rfl), ?_⟩ ?_
 refine Tp (Bv false) rfl (Pf rfl rfl rfl) rfl (Tp (Bv false) rfl (Ag rfl) rfl (Ti (Qa (Dr (Qa (Dr (Qa (Dr (Qb (Qb ?_))))))))))
 obtain rfl := oi h
 exact Tj ⟨hle85, rfl, rfl⟩
 exact Tz
 exact Tz
 exact Tz
 exact Tz
 exact Tz
 exact Tz
 exact Tz
 have h := ite_f hb81 h
 refine Tf 42 rfl rfl rfl hb81 rfl (Tf 42 rfl rfl rfl hb81 rfl (Tg 42 rfl rfl rfl hb81 rfl ⟨(Sl rfl), ?_⟩ ?_))
 refine Tp (Bv false) rfl (Pf rfl hb81 rfl) rfl (Tp (Bv false) rfl (Mv rfl) rfl (Tf 47 rfl rfl rfl rfl rfl (Tg 47 rfl rfl rfl rfl rfl ⟨(St (Sf 47 rfl rfl rfl rfl rfl) (Sl rfl)), ?_⟩ ?_)))
 refine Tg 47 rfl rfl rfl rfl rfl ⟨(Sl rfl), ?_⟩ ?_
 refine Tf 47 rfl rfl rfl rfl rfl (Tp (Bv false) rfl (Pf rfl rfl rfl) rfl (Tp (Bv false) rfl (Mv rfl) rfl (Tf 53 rfl rfl rfl rfl rfl (Tg 53 rfl rfl rfl rfl rfl ⟨(Sl rfl), ?_⟩ ?_))))
 refine Tp (Bv false) rfl (Pf rfl rfl rfl) rfl (Tp (Bv false) rfl (Mv rfl) rfl (Tf 57 rfl rfl rfl rfl rfl (Tf 57 rfl rfl rfl rfl rfl (Tf 57 rfl rfl rfl rfl rfl (Tp (Bv false) rfl (Pf rfl rfl rfl) rfl (Tp (Bv false) rfl (Mv rfl) rfl (Tf 62 rfl rfl rfl rfl rfl (Tf 62 rfl rfl rfl rfl rfl (Tf 62 rfl rfl rfl rfl rfl (Tf 62 rfl rfl rfl rfl rfl (Tf 62 rfl rfl rfl rfl rfl ?_)))))))))))
 refine Tp (Bv false) rfl (Pf rfl rfl rfl) rfl (Tp (Bv false) rfl (Mv rfl) rfl (Tf 69 rfl rfl rfl rfl rfl (Tg 69 rfl rfl rfl rfl rfl ⟨(Sl rfl), ?_⟩ ?_)))
 refine Tf 69 rfl rfl rfl rfl rfl (Tp (Bv false) rfl (Pf rfl rfl rfl) rfl (Tp (Bv false) rfl (Mv rfl) rfl (Tf 74 rfl rfl rfl rfl rfl (Tf 74 rfl rfl rfl rfl rfl (Tg 74 rfl rfl rfl rfl rfl ⟨(Sk 1 rfl (St (Sf 74 rfl rfl rfl rfl rfl) (Sl rfl))), ?_⟩ ?_)))))
 refine Tg 74 rfl rfl rfl rfl rfl ⟨(Sl rfl), ?_⟩ ?_
 refine Tp (Bv false) rfl (Pf rfl rfl rfl) rfl (Tp (Bv false) rfl (Ag rfl) rfl (Ti (Dr (Dr (Dr (Qa (Qb (Qb ?_))))))))
 obtain rfl := oi h
 exact Tj ⟨lr, rfl, rfl⟩
 exact Tz
 exact Tz
 exact Tz
 exact Tz
 exact Tz
 exact Tz
 exact Tz
 have h := ite_f hb80 h
 refine Tf 38 rfl rfl rfl hb80 rfl (Tf 38 rfl rfl rfl hb80 rfl (Tp (Bv false) rfl (Pf rfl hb80 rfl) rfl (Tp (Bv false) rfl (Mv rfl) rfl (Tf 42 rfl rfl rfl rfl rfl (Tf 42 rfl rfl rfl rfl rfl (Tg 42 rfl rfl rfl rfl rfl ⟨(Sl rfl), ?_⟩ ?_))))))
 refine Tp (Bv false) rfl (Pf rfl rfl rfl) rfl (Tp (Bv false) rfl (Mv rfl) rfl (Tf 47 rfl rfl rfl rfl rfl (Tg 47 rfl rfl rfl rfl rfl ⟨(St (Sf 47 rfl rfl rfl rfl rfl) (Sl rfl)), ?_⟩ ?_)))
 refine Tg 47 rfl rfl rfl rfl rfl ⟨(Sl rfl), ?_⟩ ?_
 refine Tf 47 rfl rfl rfl rfl rfl (Tp (Bv false) rfl (Pf rfl rfl rfl) rfl (Tp (Bv false) rfl (Mv rfl) rfl (Tf 53 rfl rfl rfl rfl rfl (Tg 53 rfl rfl rfl rfl rfl ⟨(Sl rfl), ?_⟩ ?_))))
 refine Tp (Bv false) rfl (Pf rfl rfl rfl) rfl (Tp (Bv false) rfl (Mv rfl) rfl (Tf 57 rfl rfl rfl rfl rfl (Tf 57 rfl rfl rfl rfl rfl (Tf 57 rfl rfl rfl rfl rfl (Tp (Bv false) rfl (Pf rfl rfl rfl) rfl (Tp (Bv false) rfl (Mv rfl) rfl (Tf 62 rfl rfl rfl rfl rfl (Tf 62 rfl rfl rfl rfl rfl (Tf 62 rfl rfl rfl rfl rfl (Tf 62 rfl rfl rfl rfl rfl (Tf 62 rfl rfl rfl rfl rfl ?_)))))))))))
 refine Tp (Bv false) rfl (Pf rfl rfl rfl) rfl (Tp (Bv false) rfl (Mv rfl) rfl (Tf 69 rfl rfl rfl rfl rfl (Tg 69 rfl rfl rfl rfl rfl ⟨(Sl rfl), ?_⟩ ?_)))
 refine Tf 69 rfl rfl rfl rfl rfl (Tp (Bv false) rfl (Pf rfl rfl rfl) rfl (Tp (Bv false) rfl (Mv rfl) rfl (Tf 74 rfl rfl rfl rfl rfl (Tf 74 rfl rfl rfl rfl rfl (Tg 74 rfl rfl rfl rfl rfl ⟨(Sk 1 rfl (St (Sf 74 rfl rfl rfl rfl rfl) (Sl rfl))), ?_⟩ ?_)))))
 refine Tg 74 rfl rfl rfl rfl rfl ⟨(Sl rfl), ?_⟩ ?_
 refine Tp (Bv false) rfl (Pf rfl rfl rfl) rfl (Tp (Bv false) rfl (Ag rfl) rfl (Ti (Dr (Dr (Dr (Qa (Qb (Qb ?_))))))))
 obtain rfl := oi h
 exact Tj ⟨lr, rfl, rfl⟩
 exact Tz
 exact Tz
 exact Tz
 exact Tz
 exact Tz
 exact Tz
 exact Tz
 rintro ρ79 M79 H79 ⟨hle79, rfl, hs79_0⟩
 exact Cr (Dr (Dr (Dr (Rf h [] rfl (Rs rfl hs79_0) (((((((((hle24.trans hle29).trans hle36).trans hle42).trans hle48).trans hle55).trans hle61).trans hle70).trans hle76).trans hle79) ⟨rfl, rfl⟩))))

noncomputable def f_ref02_above (a0 : Int) : Option Int :=
  (if (decide (a0 < (0 : Int))) = true then (some (0 : Int)) else (some (IntKind.u64.wrap a0)))
def f_ref02_above_post (a0 : Int) : Int → Value → IM → HL → Prop :=
  fun (r0 : Int) (v : Value) (M' : IM) (H' : HL) => (.int .u64 r0) = v ∧ H' = []
theorem f_ref02_above_ok (a0 : Int) (M : IM) (res : Int) (h : f_ref02_above a0 = some res) :
    Tri Tryz.prog 111 #[(Iv a0)] M [] (f_ref02_above_post a0 res) := by
 unfold f_ref02_above at h
 refine Te Tryz.func111 rfl rfl ?_
 intro F ρ hρ
 refine Sr (Pa (Uv 0) rfl rfl (Nt (Cs (Sr (Pm (Iv a0) (hρ 0) rfl (Pu (Bv (decide (a0 < 0))) (PO.lss rfl rfl) rfl (Nt (Cd (b := decide (a0 < 0)) rfl (fun hb21 => ?_) (fun hb21 => ?_)))))))))
 have h := ite_t hb21 h
 exact Sr (Pa (Uv 0) rfl rfl (Nt (Cr (Tr (Rf h [] rfl (Rs rfl rfl) lr ⟨rfl, rfl⟩)))))
 have h := ite_f hb21 h
 exact Ck (Tc (Sr (Pm (Iv a0) (hρ 0) rfl (Pu (Uv (IntKind.u64.wrap a0)) (PO.conv us3 Tryz.underlying112 rfl) rfl (Pa (Uv (IntKind.u64.wrap a0)) rfl rfl (Nt (Cr (Rf h [] rfl (Rs rfl rfl) lr ⟨rfl, rfl⟩))))))))

noncomputable def f_ref02_bad (a0 : T_ref02_State) (a1 : ByteArray) (a2 : Int) (a3 : Int) : Option T_ref02_State :=
  (if (decide (a0.Code ≠ (0 : Int))) = true then (some a0) else (some (⟨a0.At, a3, a1, a2⟩ : T_ref02_State)))
def f_ref02_bad_post (a0 : T_ref02_State) (a1 : ByteArray) (a2 : Int) (a3 : Int) : T_ref02_State → Value → IM → HL → Prop :=
  fun (r0 : T_ref02_State) (v : Value) (M' : IM) (H' : HL) => (.agg #[(.int .i64 r0.At), (.int .i64 r0.Code), (.string r0.Op), (.int .i64 r0.Where)]) = v ∧ H' = []
theorem f_ref02_bad_ok (a0 : T_ref02_State) (a1 : ByteArray) (a2 : Int) (a3 : Int) (M : IM) (res : T_ref02_State) (h : f_ref02_bad a0 a1 a2 a3 = some res) :
    Tri Tryz.prog 107 #[(a50_ a0), (Sv a1), (Iv a2), (Iv a3)] M [] (f_ref02_bad_post a0 a1 a2 a3 res) := by
 unfold f_ref02_bad at h
 refine Te Tryz.func107 rfl rfl ?_
 intro F ρ hρ
 refine Sr (We (EO.box (cs := (l50 a0).toArray) (congrArg Value.cells (asE (a50_ a0) (hρ 0)))) rfl ?_)
 rintro _ _ _ - ⟨rfl, g21, rfl, rfl⟩
 refine We (Al ze50 rfl) rfl ?_
 rintro _ _ _ - ⟨rfl, g22, rfl, rfl⟩
 refine Nt (Cs (Sr (Pu (pt g21 1) (Fa fo50_1 rfl rfl) rfl (Pu (Iv a0.Code) (Lb 1 pl31 rfl rfl rfl) rfl (Pu (Bv (decide (a0.Code ≠ 0))) (PO.neq rfl rfl) rfl (Nt (Cd (b := decide (a0.Code ≠ 0)) rfl (fun hb23 => ?_) (fun hb23 => ?_))))))))
 have h := ite_t hb23 h
 refine Sr (Pu (a50_ a0) (La (cs := (l50 a0)) 1 ag50 sz50 rfl rfl rfl) rfl (We (Sg (v := (a50_ a0)) (vl := (l50 a0)) (arr' := (l50 a0)) rfl sz50 rfl rfl (onb rfl) rfl rfl rfl) rfl ?_))
 rintro _ _ _ - ⟨rfl, rfl⟩
 exact Nt (Cr (Tr (Qa (Dr (Rd h [] (fun _ hs => hs.drop) (resultsL1 rfl (Rc (cs := (l50 a0)) 0 ag50 sz50 rfl rfl rfl)) lr ⟨rfl, rfl⟩)))))
 have h := ite_f hb23 h
 refine Ck (Tc (Sr (Pu (pt g21 0) (Fa fo50_0 rfl rfl) rfl (Pu (Iv a0.At) (Lb 1 pl3 rfl rfl rfl) rfl (Pm (Iv a3) (hρ 3) rfl (Pm (Sv a1) (hρ 1) rfl (Pm (Iv a2) (hρ 2) rfl (Pu (.agg #[(Iv a0.At), (Iv a3), (Sv a1), (Iv a2)]) (Bl (cl := [(Iv a0.At), (Iv a3), (Sv a1), (Iv a2)]) ze50 fp50 (Pc (Iv a0.At) rfl rfl (Pc (Iv a3) rfl rfl (Pc (Sv a1) rfl rfl (Pc (Iv a2) rfl rfl Pz)))) rfl) rfl (We (Sg (v := (.agg #[(Iv a0.At), (Iv a3), (Sv a1), (Iv a2)])) (vl := [(Iv a0.At), (Iv a3), (Sv a1), (Iv a2)]) (arr' := [(Iv a0.At), (Iv a3), (Sv a1), (Iv a2)]) rfl sz50 rfl rfl (onb rfl) rfl rfl rfl) rfl ?_)))))))))
 rintro _ _ _ - ⟨rfl, rfl⟩
 exact Nt (Cr (Qa (Dr (Rd h [] (fun _ hs => hs.drop) (resultsL1 rfl (Rc (cs := [(Iv a0.At), (Iv a3), (Sv a1), (Iv a2)]) 0 ag50 sz50 rfl rfl rfl)) lr ⟨rfl, rfl⟩))))

noncomputable def f_ref02_size (a0 : Int) : Option Int :=
  (if (decide (a0 < (64 : Int))) = true then (some (1 : Int)) else (if (decide (a0 < (16384 : Int))) = true then (some (2 : Int)) else (if (decide (a0 < (1073741824 : Int))) = true then (some (4 : Int)) else (some (8 : Int)))))
def f_ref02_size_post (a0 : Int) : Int → Value → IM → HL → Prop :=
  fun (r0 : Int) (v : Value) (M' : IM) (H' : HL) => (.int .i64 r0) = v ∧ H' = []
theorem f_ref02_size_ok (a0 : Int) (M : IM) (res : Int) (h : f_ref02_size a0 = some res) :
    Tri Tryz.prog 119 #[(Uv a0)] M [] (f_ref02_size_post a0 res) := by
 unfold f_ref02_size at h
 refine Te Tryz.func119 rfl rfl ?_
 intro F ρ hρ
 refine Sr (Pa (Iv 0) rfl rfl (Nt (Cs (Sr (Pm (Uv a0) (hρ 0) rfl (Pu (Bv (decide (a0 < 64))) (PO.lss rfl rfl) rfl (Nt (Cd (b := decide (a0 < 64)) rfl (fun hb21 => ?_) (fun hb21 => ?_)))))))))
 have h := ite_t hb21 h
 exact Sr (Pa (Iv 1) rfl rfl (Nt (Cr (Tr (Rf h [] rfl (Rs rfl rfl) lr ⟨rfl, rfl⟩)))))
 have h := ite_f hb21 h
 refine Ck (Tc (Cs (Sr (Pm (Uv a0) (hρ 0) rfl (Pu (Bv (decide (a0 < 16384))) (PO.lss rfl rfl) rfl (Nt (Cd (b := decide (a0 < 16384)) rfl (fun hb22 => ?_) (fun hb22 => ?_))))))))
 have h := ite_t hb22 h
 exact Sr (Pa (Iv 2) rfl rfl (Nt (Cr (Tr (Rf h [] rfl (Rs rfl rfl) lr ⟨rfl, rfl⟩)))))
 have h := ite_f hb22 h
 refine Ck (Tc (Cs (Sr (Pm (Uv a0) (hρ 0) rfl (Pu (Bv (decide (a0 < 1073741824))) (PO.lss rfl rfl) rfl (Nt (Cd (b := decide (a0 < 1073741824)) rfl (fun hb23 => ?_) (fun hb23 => ?_))))))))
 have h := ite_t hb23 h
 exact Sr (Pa (Iv 4) rfl rfl (Nt (Cr (Tr (Rf h [] rfl (Rs rfl rfl) lr ⟨rfl, rfl⟩)))))
 have h := ite_f hb23 h
 exact Ck (Tc (Sr (Pa (Iv 8) rfl rfl (Nt (Cr (Rf h [] rfl (Rs rfl rfl) lr ⟨rfl, rfl⟩))))))

noncomputable def f_ref02_num_l0 (s_ : (Int × Int)) : Option ((Int × Int) ⊕ Int) :=
  match s_ with
  | (x40, x41) =>
    (if (decide ((0 : Int) < x41)) = true then (some (Sum.inl (IntKind.i64.wrap (x40 * (2 : Int)), IntKind.u8.wrap (x41 - (1 : Int))))) else (some (Sum.inr x40)))
noncomputable def f_ref02_num_l1 (a0 : (List Int)) (a1 : T_ref02_State) (x30 : Int) (s_ : (Int × Int)) : Option ((Int × Int) ⊕ Int) :=
  match s_ with
  | (x60, x61) =>
    (if (decide (x61 < x30)) = true then (grd (0 ≤ IntKind.i64.wrap (a1.At + x61) ∧ IntKind.i64.wrap (a1.At + x61) < a0.length) (some (Sum.inl (IntKind.u64.wrap ((IntKind.u64.wrap (x60 * (256 : Int))) + (IntKind.u64.wrap (rd a0 (IntKind.i64.wrap (a1.At + x61))))), IntKind.i64.wrap (x61 + (1 : Int)))))) else (some (Sum.inr x60)))
noncomputable def f_ref02_num (a0 : (List Int)) (a1 : T_ref02_State) (a2 : Int) : Option (T_ref02_State × Int) :=
  (if (decide (a1.Code ≠ (0 : Int))) = true then (some (a1, (0 : Int))) else (if (decide ((a0.length : Int) ≤ a1.At)) = true then ((f_ref02_bad a1 (⟨#[110, 117, 109]⟩ : ByteArray) a1.At (3 : Int)).bind fun (r25 : T_ref02_State) => (some (r25, (0 : Int)))) else (((grd (0 ≤ a1.At ∧ a1.At < a0.length) ((iter (f_ref02_num_l0) ((1 : Int), IntKind.u8.wrap ((rd a0 a1.At).tdiv (64 : Int)))).bind (fun (x42 : Int) => (some x42)))) : Option Int).bind fun (x30 : Int) => (if (decide ((a0.length : Int) < (IntKind.i64.wrap (a1.At + x30)))) = true then ((f_ref02_bad a1 (⟨#[110, 117, 109]⟩ : ByteArray) a1.At (3 : Int)).bind fun (r45 : T_ref02_State) => (some (r45, (0 : Int)))) else (grd (0 ≤ a1.At ∧ a1.At < a0.length) ((((iter (f_ref02_num_l1 a0 a1 x30) (IntKind.u64.wrap ((rd a0 a1.At).tmod (64 : Int)), (1 : Int))).bind (fun (x62 : Int) => (some x62))) : Option Int).bind fun (x57 : Int) => ((f_ref02_size x57).bind fun (r71 : Int) => (if (decide (r71 ≠ x30)) = true then ((f_ref02_bad a1 (⟨#[110, 117, 109]⟩ : ByteArray) a1.At (5 : Int)).bind fun (r77 : T_ref02_State) => (some (r77, (0 : Int)))) else (if (decide (a2 < x57)) = true then ((f_ref02_bad a1 (⟨#[110, 117, 109]⟩ : ByteArray) a1.At (6 : Int)).bind fun (r83 : T_ref02_State) => (some (r83, (0 : Int)))) else (some ((⟨IntKind.i64.wrap (a1.At + x30), (0 : Int), (⟨#[]⟩ : ByteArray), (0 : Int)⟩ : T_ref02_State), x57)))))))))))
def f_ref02_num_post (a0 : (List Int)) (a1 : T_ref02_State) (a2 : Int) (v0 : Value) : (T_ref02_State × Int) → Value → IM → HL → Prop :=
  fun (p_ : (T_ref02_State × Int)) (v : Value) (M' : IM) (H' : HL) => match p_ with | (r0, r1) => (.tuple #[(.agg #[(.int .i64 r0.At), (.int .i64 r0.Code), (.string r0.Op), (.int .i64 r0.Where)]), (.int .u64 r1)]) = v ∧ H' = []
theorem f_ref02_num_ok (a0 : (List Int)) (a1 : T_ref02_State) (a2 : Int) (M : IM) (v0 : Value) (h0 : RS (Kd.int .u8) M v0 a0) (res : (T_ref02_State × Int)) (h : f_ref02_num a0 a1 a2 = some res) :
    Tri Tryz.prog 110 #[v0, (a50_ a1), (Uv a2)] M [] (f_ref02_num_post a0 a1 a2 v0 res) := by
 unfold f_ref02_num at h
 refine Te Tryz.func110 rfl rfl ?_
 intro F ρ hρ
 refine Sr (We (EO.box (cs := (l50 a1).toArray) (congrArg Value.cells (asE (a50_ a1) (hρ 1)))) rfl ?_)
 rintro _ _ _ - ⟨rfl, g21, rfl, rfl⟩
 refine We (Al ze50 rfl) rfl ?_
 rintro _ _ _ - ⟨rfl, g22, rfl, rfl⟩
 refine Pa (Uv 0) rfl rfl (Nt (Cs (Sr (Pu (pt g21 1) (Fa fo50_1 rfl rfl) rfl (Pu (Iv a1.Code) (Lb 1 pl31 rfl rfl rfl) rfl (Pu (Bv (decide (a1.Code ≠ 0))) (PO.neq rfl rfl) rfl (Nt (Cd (b := decide (a1.Code ≠ 0)) rfl (fun hb23 => ?_) (fun hb23 => ?_)))))))))
 have h := ite_t hb23 h
 refine Sr (Pu (a50_ a1) (La (cs := (l50 a1)) 1 ag50 sz50 rfl rfl rfl) rfl (We (Sg (v := (a50_ a1)) (vl := (l50 a1)) (arr' := (l50 a1)) rfl sz50 rfl rfl (onb rfl) rfl rfl rfl) rfl ?_))
 rintro _ _ _ - ⟨rfl, rfl⟩
 exact Pa (Uv 0) rfl rfl (Nt (Cr (Tr (Qa (Dr (Rd h [] (fun _ hs => hs.drop) (resultsLN rfl (RVs.cons (Rc (cs := (l50 a1)) 0 ag50 sz50 rfl rfl rfl) (RVs.cons (RV.tmp rfl) RVs.nil))) lr ⟨rfl, rfl⟩))))))
 have h := ite_f hb23 h
 refine Ck (Tc (Cs (Sr (Pu (pt g21 0) (Fa fo50_0 rfl rfl) rfl (Pu (Iv a1.At) (Lb 1 pl3 rfl rfl rfl) rfl (Pm v0 (hρ 0) rfl (Pu (Iv (a0.length : Int)) (PO.lenS Tryz.underlying40 rfl h0.len) rfl (Pu (Bv (decide ((a0.length : Int) ≤ a1.At))) (PO.geq rfl rfl) rfl (Nt (Cd (b := decide ((a0.length : Int) ≤ a1.At)) rfl (fun hb24 => ?_) (fun hb24 => ?_)))))))))))
 have h := ite_t hb24 h
 refine Sr (Pu (a50_ a1) (La (cs := (l50 a1)) 1 ag50 sz50 rfl rfl rfl) rfl (Pu (pt g21 0) (Fa fo50_0 rfl rfl) rfl (Pu (Iv a1.At) (Lb 1 pl3 rfl rfl rfl) rfl ?_)))
 obtain ⟨r25, hr26, h⟩ := bnd h
 refine We (Ca co107 (f_ref02_bad_ok a1 (⟨#[110, 117, 109]⟩ : ByteArray) a1.At (3 : Int) _ r25 hr26) (args4 rfl rfl rfl rfl)) rfl ?_
 rintro _ M27 _ hle28 ⟨_, ⟨rfl, rfl⟩, rfl⟩
 refine WL.a0 (We (Sg (v := (a50_ r25)) (vl := (l50 r25)) (arr' := (l50 r25)) rfl sz50 rfl rfl (onb rfl) rfl rfl rfl) rfl ?_)
 rintro _ _ _ - ⟨rfl, rfl⟩
 exact Pa (Uv 0) rfl rfl (Nt (Cr (Tr (Qa (Dr (Rd h [] (fun _ hs => hs.drop) (resultsLN rfl (RVs.cons (Rc (cs := (l50 r25)) 0 ag50 sz50 rfl rfl rfl) (RVs.cons (RV.tmp rfl) RVs.nil))) hle28 ⟨rfl, rfl⟩))))))
 have h := ite_f hb24 h
 refine Ck (Tc (Sr (Pa (Iv 1) rfl rfl (Nt ?_))))
 obtain ⟨x30, hj31, h⟩ := bnd h
 refine Jf (fun (x30 : Int) ρ' M' H' => M.le M' ∧ [(g22, .cells z50_.toArray 50 (0, 0))] :: [(g21, .cells (l50 a1).toArray 50 (0, 0))] :: F = H' ∧ ρ' 0 = v0 ∧ ρ' 2 = (Uv a2) ∧ ρ' 4 = (pt g21 0) ∧ ρ' 6 = (pt g22 0) ∧ ρ' 8 = (Iv x30)) x30 ?_ ?_
 have h331 := h
 have h := hj31
 refine Sr (Pm v0 (hρ 0) rfl (Pu (pt g21 0) (Fa fo50_0 rfl rfl) rfl (Pu (Iv a1.At) (Lb 1 pl3 rfl rfl rfl) rfl ?_)))
 obtain ⟨hg32, h⟩ := grd_i h
 obtain ⟨p33, cs34, hat35, hrc36, hhas37⟩ := h0.at hg32.1 hg32.2 (by decide)
 obtain rfl := hrc36
 refine Pu (.pointer (some p33)) (PO.indexAddr (n := a0.length) Tryz.underlying40 sz5 rfl rfl hg32.1 hg32.2 hat35) rfl (Pu (Yv (rd a0 a1.At)) (PO.loadM pl5 rfl (IM.has0 hhas37)) rfl (Pu (Yv (IntKind.u8.wrap ((rd a0 a1.At).tdiv (64 : Int)))) (PO.quo rfl rfl (by decide)) rfl (Pa (Yv (IntKind.u8.wrap ((rd a0 a1.At).tdiv (64 : Int)))) rfl rfl (Nt (Bk ?_)))))
 obtain ⟨e39, he39, hK39⟩ := bnd h
 clear h
 refine WC.loop he39 (fun (p_ : (Int × Int)) ρ' M' H' => match p_ with | (x40, x41) => M.le M' ∧ [(g22, .cells z50_.toArray 50 (0, 0))] :: [(g21, .cells (l50 a1).toArray 50 (0, 0))] :: F = H' ∧ ρ' 0 = v0 ∧ ρ' 2 = (Uv a2) ∧ ρ' 4 = (pt g21 0) ∧ ρ' 6 = (pt g22 0) ∧ ρ' 8 = (Iv x40) ∧ ρ' 9 = (Yv x41)) ?_ ?_
 exact ⟨lr, rfl, (hρ 0), (hρ 2), rfl, rfl, rfl, rfl⟩
 rintro ⟨x40, x41⟩ o39 ρ39 M39 H39 h ⟨hle39, rfl, hs39_0, hs39_2, hs39_4, hs39_6, hs39_8, hs39_9⟩
 unfold f_ref02_num_l0 at h
 refine Cs (Sr (Pm (Yv x41) hs39_9 rfl (Pu (Bv (decide ((0 : Int) < x41))) (PO.gtr rfl rfl) rfl (Nt (Cd (b := decide ((0 : Int) < x41)) rfl (fun hb43 => ?_) (fun hb43 => ?_))))))
 have h := ite_t hb43 h
 refine Ck (Tc (Cs (Bk (Cg (Pm (Iv x40) hs39_8 rfl (Pu (Iv (IntKind.i64.wrap (x40 * (2 : Int)))) (PO.mul rfl rfl) rfl (Pa (Iv (IntKind.i64.wrap (x40 * (2 : Int)))) rfl rfl (Wz (Bn (Tc (Cg ?_)))))))))))
 exact Pm (Yv x41) hs39_9 rfl (Pu (Yv (IntKind.u8.wrap (x41 - 1))) (PO.sub rfl rfl) rfl (Pa (Yv (IntKind.u8.wrap (x41 - 1))) rfl rfl (Wz (WQ.again (IntKind.i64.wrap (x40 * (2 : Int)), IntKind.u8.wrap (x41 - 1)) (oi h).symm ⟨hle39, rfl, hs39_0, hs39_2, hs39_4, hs39_6, rfl, rfl⟩))))
 have h := ite_f hb43 h
 refine WC.exit (WQ.thenE (WQ.leaveE x40 (oi h).symm (fun heq39 => ?_)))
 subst heq39
 have h := hK39
 refine WQ.blockH ?_
 obtain rfl := oi h
 exact Tj ⟨hle39, rfl, hs39_0, hs39_2, hs39_4, hs39_6, hs39_8⟩
 rintro ρ31 M31 H31 ⟨hle31, rfl, hs31_0, hs31_2, hs31_4, hs31_6, hs31_8⟩
 refine Cs (Sr (Pu (pt g21 0) (Fa fo50_0 hs31_4 rfl) rfl (Pu (Iv a1.At) (Lb 1 pl3 rfl rfl rfl) rfl (Pm (Iv x30) hs31_8 rfl (Pu (Iv (IntKind.i64.wrap (a1.At + x30))) (PO.add rfl rfl) rfl (Pm v0 hs31_0 rfl ?_))))))
 have h0 := h0.mono hle31
 refine Pu (Iv (a0.length : Int)) (PO.lenS Tryz.underlying40 rfl h0.len) rfl (Pu (Bv (decide ((a0.length : Int) < (IntKind.i64.wrap (a1.At + x30))))) (PO.gtr rfl rfl) rfl (Nt (Cd (b := decide ((a0.length : Int) < (IntKind.i64.wrap (a1.At + x30)))) rfl (fun hb44 => ?_) (fun hb44 => ?_))))
 have h := ite_t hb44 h
 refine Sr (Pu (a50_ a1) (La (cs := (l50 a1)) 1 ag50 sz50 hs31_4 rfl rfl) rfl (Pu (pt g21 0) (Fa fo50_0 hs31_4 rfl) rfl (Pu (Iv a1.At) (Lb 1 pl3 rfl rfl rfl) rfl ?_)))
 obtain ⟨r45, hr46, h⟩ := bnd h
 refine We (Ca co107 (f_ref02_bad_ok a1 (⟨#[110, 117, 109]⟩ : ByteArray) a1.At (3 : Int) _ r45 hr46) (args4 rfl rfl rfl rfl)) rfl ?_
 rintro _ M47 _ hle48 ⟨_, ⟨rfl, rfl⟩, rfl⟩
 refine WL.a0 (We (Sg (v := (a50_ r45)) (vl := (l50 r45)) (arr' := (l50 r45)) rfl sz50 hs31_6 rfl (onb rfl) rfl rfl rfl) rfl ?_)
 rintro _ _ _ - ⟨rfl, rfl⟩
 exact Pa (Uv 0) rfl rfl (Nt (Cr (Tr (Qa (Dr (Rd h [] (fun _ hs => hs.drop) (resultsLN rfl (RVs.cons (Rc (cs := (l50 r45)) 0 ag50 sz50 hs31_6 rfl rfl) (RVs.cons (RV.tmp rfl) RVs.nil))) (hle31.trans hle48) ⟨rfl, rfl⟩))))))
 have h := ite_f hb44 h
 refine Ck (Tc (Sr (Pm v0 hs31_0 rfl (Pu (pt g21 0) (Fa fo50_0 hs31_4 rfl) rfl (Pu (Iv a1.At) (Lb 1 pl3 rfl rfl rfl) rfl ?_)))))
 obtain ⟨hg50, h⟩ := grd_i h
 obtain ⟨p51, cs52, hat53, hrc54, hhas55⟩ := h0.at hg50.1 hg50.2 (by decide)
 obtain rfl := hrc54
 refine Pu (.pointer (some p51)) (PO.indexAddr (n := a0.length) Tryz.underlying40 sz5 rfl rfl hg50.1 hg50.2 hat53) rfl (Pu (Yv (rd a0 a1.At)) (PO.loadM pl5 rfl (IM.has0 hhas55)) rfl (Pu (Yv ((rd a0 a1.At).tmod (64 : Int))) (PO.rem rfl rfl (by decide)) rfl (Pu (Uv (IntKind.u64.wrap ((rd a0 a1.At).tmod (64 : Int)))) (PO.conv us5 Tryz.underlying112 rfl) rfl (Pa (Uv (IntKind.u64.wrap ((rd a0 a1.At).tmod (64 : Int)))) rfl rfl (Nt ?_)))))
 obtain ⟨x57, hj58, h⟩ := bnd h
 refine Jf (fun (x57 : Int) ρ' M' H' => M31.le M' ∧ [(g22, .cells z50_.toArray 50 (0, 0))] :: [(g21, .cells (l50 a1).toArray 50 (0, 0))] :: F = H' ∧ ρ' 2 = (Uv a2) ∧ ρ' 4 = (pt g21 0) ∧ ρ' 6 = (pt g22 0) ∧ ρ' 8 = (Iv x30) ∧ ρ' 10 = (Uv x57)) x57 ?_ ?_
 have h358 := h
 have h := hj58
 refine Sr (Pa (Iv 1) rfl rfl (Nt (Bk ?_)))
 obtain ⟨e59, he59, hK59⟩ := bnd h
 clear h
 refine WC.loop he59 (fun (p_ : (Int × Int)) ρ' M' H' => match p_ with | (x60, x61) => M31.le M' ∧ [(g22, .cells z50_.toArray 50 (0, 0))] :: [(g21, .cells (l50 a1).toArray 50 (0, 0))] :: F = H' ∧ ρ' 0 = v0 ∧ ρ' 2 = (Uv a2) ∧ ρ' 4 = (pt g21 0) ∧ ρ' 6 = (pt g22 0) ∧ ρ' 8 = (Iv x30) ∧ ρ' 10 = (Uv x60) ∧ ρ' 11 = (Iv x61)) ?_ ?_
 exact ⟨lr, rfl, hs31_0, hs31_2, hs31_4, hs31_6, hs31_8, rfl, rfl⟩
 rintro ⟨x60, x61⟩ o59 ρ59 M59 H59 h ⟨hle59, rfl, hs59_0, hs59_2, hs59_4, hs59_6, hs59_8, hs59_10, hs59_11⟩
 unfold f_ref02_num_l1 at h
 refine Cs (Sr (Pm (Iv x61) hs59_11 rfl (Pm (Iv x30) hs59_8 rfl (Pu (Bv (decide (x61 < x30))) (PO.lss rfl rfl) rfl (Nt (Cd (b := decide (x61 < x30)) rfl (fun hb63 => ?_) (fun hb63 => ?_)))))))
 have h := ite_t hb63 h
 refine Ck (Tc (Cs (Bk (Cg (Pm (Uv x60) hs59_10 rfl (Pu (Uv (IntKind.u64.wrap (x60 * (256 : Int)))) (PO.mul rfl rfl) rfl (Pm v0 hs59_0 rfl (Pu (pt g21 0) (Fa fo50_0 hs59_4 rfl) rfl (Pu (Iv a1.At) (Lb 1 pl3 rfl rfl rfl) rfl (Pm (Iv x61) hs59_11 rfl (Pu (Iv (IntKind.i64.wrap (a1.At + x61))) (PO.add rfl rfl) rfl ?_)))))))))))
 obtain ⟨hg64, h⟩ := grd_i h
 have h0 := h0.mono hle59
 obtain ⟨p65, cs66, hat67, hrc68, hhas69⟩ := h0.at hg64.1 hg64.2 (by decide)
 obtain rfl := hrc68
 refine Pu (.pointer (some p65)) (PO.indexAddr (n := a0.length) Tryz.underlying40 sz5 rfl rfl hg64.1 hg64.2 hat67) rfl (Pu (Yv (rd a0 (IntKind.i64.wrap (a1.At + x61)))) (PO.loadM pl5 rfl (IM.has0 hhas69)) rfl (Pu (Uv (IntKind.u64.wrap (rd a0 (IntKind.i64.wrap (a1.At + x61))))) (PO.conv us5 Tryz.underlying112 rfl) rfl (Pu (Uv (IntKind.u64.wrap ((IntKind.u64.wrap (x60 * (256 : Int))) + (IntKind.u64.wrap (rd a0 (IntKind.i64.wrap (a1.At + x61))))))) (PO.add rfl rfl) rfl (Pa (Uv (IntKind.u64.wrap ((IntKind.u64.wrap (x60 * (256 : Int))) + (IntKind.u64.wrap (rd a0 (IntKind.i64.wrap (a1.At + x61))))))) rfl rfl (Wz (Bn (Tc (Cg (Pm (Iv x61) hs59_11 rfl (Pu (Iv (IntKind.i64.wrap (x61 + 1))) (PO.add rfl rfl) rfl (Pa (Iv (IntKind.i64.wrap (x61 + 1))) rfl rfl ?_)))))))))))
 exact Wz (WQ.again (IntKind.u64.wrap ((IntKind.u64.wrap (x60 * (256 : Int))) + (IntKind.u64.wrap (rd a0 (IntKind.i64.wrap (a1.At + x61))))), IntKind.i64.wrap (x61 + 1)) (oi h).symm ⟨hle59, rfl, hs59_0, hs59_2, hs59_4, hs59_6, hs59_8, rfl, rfl⟩)
 have h := ite_f hb63 h
 refine WC.exit (WQ.thenE (WQ.leaveE x60 (oi h).symm (fun heq59 => ?_)))
 subst heq59
 have h := hK59
 refine WQ.blockH ?_
 obtain rfl := oi h
 exact Tj ⟨hle59, rfl, hs59_2, hs59_4, hs59_6, hs59_8, hs59_10⟩
 rintro ρ58 M58 H58 ⟨hle58, rfl, hs58_2, hs58_4, hs58_6, hs58_8, hs58_10⟩
 refine Cs (Sr (Pm (Uv x57) hs58_10 rfl ?_))
 obtain ⟨r71, hr72, h⟩ := bnd h
 refine We (Ca co119 (f_ref02_size_ok x57 _ r71 hr72) (args1 rfl)) rfl ?_
 rintro _ M73 _ hle74 ⟨_, ⟨rfl, rfl⟩, rfl⟩
 refine WL.a0 (Pm (Iv x30) hs58_8 rfl (Pu (Bv (decide (r71 ≠ x30))) (PO.neq rfl rfl) rfl (Nt (Cd (b := decide (r71 ≠ x30)) rfl (fun hb76 => ?_) (fun hb76 => ?_)))))
 have h := ite_t hb76 h
 refine Sr (Pu (a50_ a1) (La (cs := (l50 a1)) 1 ag50 sz50 hs58_4 rfl rfl) rfl (Pu (pt g21 0) (Fa fo50_0 hs58_4 rfl) rfl (Pu (Iv a1.At) (Lb 1 pl3 rfl rfl rfl) rfl ?_)))
 obtain ⟨r77, hr78, h⟩ := bnd h
 refine We (Ca co107 (f_ref02_bad_ok a1 (⟨#[110, 117, 109]⟩ : ByteArray) a1.At (5 : Int) _ r77 hr78) (args4 rfl rfl rfl rfl)) rfl ?_
 rintro _ M79 _ hle80 ⟨_, ⟨rfl, rfl⟩, rfl⟩
 refine WL.a0 (We (Sg (v := (a50_ r77)) (vl := (l50 r77)) (arr' := (l50 r77)) rfl sz50 hs58_6 rfl (onb rfl) rfl rfl rfl) rfl ?_)
 rintro _ _ _ - ⟨rfl, rfl⟩
 exact Pa (Uv 0) rfl rfl (Nt (Cr (Tr (Qa (Dr (Rd h [] (fun _ hs => hs.drop) (resultsLN rfl (RVs.cons (Rc (cs := (l50 r77)) 0 ag50 sz50 hs58_6 rfl rfl) (RVs.cons (RV.tmp rfl) RVs.nil))) (((hle31.trans hle58).trans hle74).trans hle80) ⟨rfl, rfl⟩))))))
 have h := ite_f hb76 h
 refine Ck (Tc (Cs (Sr (Pm (Uv x57) hs58_10 rfl (Pm (Uv a2) hs58_2 rfl (Pu (Bv (decide (a2 < x57))) (PO.gtr rfl rfl) rfl (Nt (Cd (b := decide (a2 < x57)) rfl (fun hb82 => ?_) (fun hb82 => ?_)))))))))
 have h := ite_t hb82 h
 refine Sr (Pu (a50_ a1) (La (cs := (l50 a1)) 1 ag50 sz50 hs58_4 rfl rfl) rfl (Pu (pt g21 0) (Fa fo50_0 hs58_4 rfl) rfl (Pu (Iv a1.At) (Lb 1 pl3 rfl rfl rfl) rfl ?_)))
 obtain ⟨r83, hr84, h⟩ := bnd h
 refine We (Ca co107 (f_ref02_bad_ok a1 (⟨#[110, 117, 109]⟩ : ByteArray) a1.At (6 : Int) _ r83 hr84) (args4 rfl rfl rfl rfl)) rfl ?_
 rintro _ M85 _ hle86 ⟨_, ⟨rfl, rfl⟩, rfl⟩
 refine WL.a0 (We (Sg (v := (a50_ r83)) (vl := (l50 r83)) (arr' := (l50 r83)) rfl sz50 hs58_6 rfl (onb rfl) rfl rfl rfl) rfl ?_)
 rintro _ _ _ - ⟨rfl, rfl⟩
 exact Pa (Uv 0) rfl rfl (Nt (Cr (Tr (Qa (Dr (Rd h [] (fun _ hs => hs.drop) (resultsLN rfl (RVs.cons (Rc (cs := (l50 r83)) 0 ag50 sz50 hs58_6 rfl rfl) (RVs.cons (RV.tmp rfl) RVs.nil))) (((hle31.trans hle58).trans hle74).trans hle86) ⟨rfl, rfl⟩))))))
 have h := ite_f hb82 h
 refine Ck (Tc (Sr (Pu (pt g21 0) (Fa fo50_0 hs58_4 rfl) rfl (Pu (Iv a1.At) (Lb 1 pl3 rfl rfl rfl) rfl (Pm (Iv x30) hs58_8 rfl (Pu (Iv (IntKind.i64.wrap (a1.At + x30))) (PO.add rfl rfl) rfl (Pu (.agg #[(Iv (IntKind.i64.wrap (a1.At + x30))), (Iv 0), (Sv ⟨#[]⟩), (Iv 0)]) (Bl (cl := [(Iv (IntKind.i64.wrap (a1.At + x30))), (Iv 0), (Sv ⟨#[]⟩), (Iv 0)]) ze50 fp50 (Pc (Iv (IntKind.i64.wrap (a1.At + x30))) rfl rfl Pz) rfl) rfl (Pm (Uv x57) hs58_10 rfl (We (Sg (v := (.agg #[(Iv (IntKind.i64.wrap (a1.At + x30))), (Iv 0), (Sv ⟨#[]⟩), (Iv 0)])) (vl := [(Iv (IntKind.i64.wrap (a1.At + x30))), (Iv 0), (Sv ⟨#[]⟩), (Iv 0)]) (arr' := [(Iv (IntKind.i64.wrap (a1.At + x30))), (Iv 0), (Sv ⟨#[]⟩), (Iv 0)]) rfl sz50 hs58_6 rfl (onb rfl) rfl rfl rfl) rfl ?_)))))))))
 rintro _ _ _ - ⟨rfl, rfl⟩
 exact Pa (Uv x57) rfl rfl (Nt (Cr (Qa (Dr (Rd h [] (fun _ hs => hs.drop) (resultsLN rfl (RVs.cons (Rc (cs := [(Iv (IntKind.i64.wrap (a1.At + x30))), (Iv 0), (Sv ⟨#[]⟩), (Iv 0)]) 0 ag50 sz50 hs58_6 rfl rfl) (RVs.cons (RV.tmp rfl) RVs.nil))) ((hle31.trans hle58).trans hle74) ⟨rfl, rfl⟩)))))


end Go.Proofs.YtjiffdgidodebaaGreatDoor.G
