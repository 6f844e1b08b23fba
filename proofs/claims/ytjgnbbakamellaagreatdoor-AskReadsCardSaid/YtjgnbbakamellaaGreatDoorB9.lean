/- Go functions: what they come to, and that they do. Printed by a program of the session (gen). -/
import Derived.Test.YtjgnbbakamellaaGreatDoorBF
import Derived.Test.YtjgnbbakamellaaGreatDoorB8
import Derived.Test.YtjgnbbakamellaaGreatDoorKConv
import Derived.Test.YtjgnbbakamellaaGreatDoorKEq2
set_option linter.unusedVariables false
set_option linter.unusedSimpArgs false
set_option maxHeartbeats 8000000
set_option maxRecDepth 100000
namespace Go.Proofs.YtjgnbbakamellaaGreatDoor.G
open Go Go.KK

noncomputable def f_law22_works : Option Bool :=
  ((f_ask_Put (⟨(3 : Int), (4 : Int), (5 : Int), (⟨#[116]⟩ : ByteArray), (⟨#[]⟩ : ByteArray), (⟨#[]⟩ : ByteArray), false, (0 : Int), (0 : Int), (1 : Int), [(2 : Int), (5 : Int)], (0 : Int), (0 : Int), (⟨#[]⟩ : ByteArray), (⟨(0 : Int), (0 : Int), (0 : Int), false, false⟩ : T_api_Word)⟩ : T_api_Request)).bind fun (r25, r26) => ((f_ask_Read r25).bind fun (r36, r37) => ((f_ask_PutReply (⟨(3 : Int), (4 : Int), (8 : Int), (1 : Int), (⟨false, false, true⟩ : T_api_Told)⟩ : T_api_Reply)).bind fun (r48, r49) => ((f_ask_ReadReply r48).bind fun (r56, r57) => ((f_ask_Read r48).bind fun (r67, r68) => (((if r26.isNil = true then (if (decide (r25.Kind = (16 : Int))) = true then (if (decide ((r25.Body.length : Int) = (9 : Int))) = true then (if r37.isNil = true then ((f_ask_Same r36 (⟨(3 : Int), (4 : Int), (5 : Int), (⟨#[116]⟩ : ByteArray), (⟨#[]⟩ : ByteArray), (⟨#[]⟩ : ByteArray), false, (0 : Int), (0 : Int), (1 : Int), [(2 : Int), (5 : Int)], (0 : Int), (0 : Int), (⟨#[]⟩ : ByteArray), (⟨(0 : Int), (0 : Int), (0 : Int), false, false⟩ : T_api_Word)⟩ : T_api_Request)).bind fun (r84 : Bool) => (if r84 = true then ((f_ask_Same r36 (⟨(0 : Int), (0 : Int), (0 : Int), (⟨#[]⟩ : ByteArray), (⟨#[]⟩ : ByteArray), (⟨#[]⟩ : ByteArray), false, (0 : Int), (0 : Int), (0 : Int), [], (0 : Int), (0 : Int), (⟨#[]⟩ : ByteArray), (⟨(0 : Int), (0 : Int), (0 : Int), false, false⟩ : T_api_Word)⟩ : T_api_Request)).bind fun (r96 : Bool) => (if (!r96) = true then (if r49.isNil = true then (if (decide (r48.Kind = (17 : Int))) = true then (if r57.isNil = true then (if (andL [decide (r56.Client = (3 : Int)), decide (r56.Serial = (4 : Int)), decide (r56.Code = (8 : Int)), decide (r56.Leader = (1 : Int)), andL [r56.Told.Fenced == false, r56.Told.Leaving == false, r56.Told.Stop == true]]) = true then ((f_fault_Is r68 (5 : Int)).bind fun (r109 : Bool) => (if r109 = true then ((f_ask_Check (⟨(0 : Int), (0 : Int), (0 : Int), (⟨#[]⟩ : ByteArray), (⟨#[]⟩ : ByteArray), (⟨#[]⟩ : ByteArray), false, (0 : Int), (0 : Int), (0 : Int), [], (0 : Int), (0 : Int), (⟨#[]⟩ : ByteArray), (⟨(0 : Int), (0 : Int), (0 : Int), false, false⟩ : T_api_Word)⟩ : T_api_Request)).bind fun (r115 : GErr) => ((f_fault_Is r115 (5 : Int)).bind fun (r120 : Bool) => (if r120 = true then ((f_ask_CheckReply (⟨(0 : Int), (0 : Int), (0 : Int), (0 : Int), (⟨false, false, false⟩ : T_api_Told)⟩ : T_api_Reply)).bind fun (r126 : GErr) => ((f_fault_Is r126 (2 : Int)).bind fun (r131 : Bool) => (some r131))) else (some false)))) else (some false))) else (some false)) else (some false)) else (some false)) else (some false)) else (some false))) else (some false))) else (some false)) else (some false)) else (some false)) else (some false)) : Option Bool).bind fun (x78 : Bool) => (some x78)))))))
def f_law22_works_post : Bool → Value → IM → HL → Prop :=
  fun (r0 : Bool) (v : Value) (M' : IM) (H' : HL) => (.bool r0) = v ∧ H' = []
theorem f_law22_works_ok (M : IM) (res : Bool) (h : f_law22_works = some res) :
    Tri Tryz.prog 4 #[] M [] (f_law22_works_post res) := by
 unfold f_law22_works at h
 refine Tri.enter (fn := Tryz.f4) Tryz.func4 rfl (Nat.le_of_ble_eq_true rfl) ?_
 intro F ρ hρ
 refine Sr ?_
 refine Pa (.bool false) rfl rfl ?_
 refine Ns ?_
 refine WL.eff (EO.buildSliceL (cl := [(.int .i64 2), (.int .i64 5)]) Tryz.underlying24 iz3 rfl (Parts.cons (congrArg Value.cells (show ev _ _ = (.int .i64 2) from rfl)) (Parts.cons (congrArg Value.cells (show ev _ _ = (.int .i64 5) from rfl)) Parts.nil)) rfl) rfl ?_
 rintro _ _ _ - ⟨rfl, g21, rfl, rfl⟩
 have h23 : OwnS (Kd.int .i64) M (.slice (some ⟨g21, 0, none⟩) 2 2) [(2 : Int), (5 : Int)] [(g21, .cells #[(.int .i64 2), (.int .i64 5)] 3 (0, 0))] := OwnS.rows (css := [[(.int .i64 2)], [(.int .i64 5)]]) (Rows.cons rfl (Rows.cons rfl Rows.nil)) rfl rfl
 refine Pu (.agg #[(.int .i64 3), (.int .i64 4), (.int .i64 5), (.string ⟨#[116]⟩), (.string ⟨#[]⟩), (.string ⟨#[]⟩), (.bool false), (.int .i64 0), (.int .i64 0), (.int .i64 1), (.slice (some ⟨g21, 0, none⟩) 2 2), (.int .i64 0), (.int .i64 0), (.string ⟨#[]⟩), (.int .i64 0), (.int .i64 0), (.int .i64 0), (.bool false), (.bool false)]) (PO.buildL (cl := [(.int .i64 3), (.int .i64 4), (.int .i64 5), (.string ⟨#[116]⟩), (.string ⟨#[]⟩), (.string ⟨#[]⟩), (.bool false), (.int .i64 0), (.int .i64 0), (.int .i64 1), (.slice (some ⟨g21, 0, none⟩) 2 2), (.int .i64 0), (.int .i64 0), (.string ⟨#[]⟩), (.int .i64 0), (.int .i64 0), (.int .i64 0), (.bool false), (.bool false)]) ze28 fp28 (Parts.cons (congrArg Value.cells (show ev _ _ = (.int .i64 3) from rfl)) (Parts.cons (congrArg Value.cells (show ev _ _ = (.int .i64 4) from rfl)) (Parts.cons (congrArg Value.cells (show ev _ _ = (.int .i64 5) from rfl)) (Parts.cons (congrArg Value.cells (show ev _ _ = (.string ⟨#[116]⟩) from rfl)) (Parts.cons (congrArg Value.cells (show ev _ _ = (.int .i64 1) from rfl)) (Parts.cons ((congrArg Value.cells (show ev _ _ = (.slice (some ⟨g21, 0, none⟩) 2 2) from rfl)).trans h23.cells) Parts.nil)))))) rfl) rfl ?_
 refine WL.eff (EO.alloc ze28 rfl) rfl ?_
 rintro _ _ _ - ⟨rfl, g24, rfl, rfl⟩
 refine WL.eff (EO.storeL (v := (.agg #[(.int .i64 3), (.int .i64 4), (.int .i64 5), (.string ⟨#[116]⟩), (.string ⟨#[]⟩), (.string ⟨#[]⟩), (.bool false), (.int .i64 0), (.int .i64 0), (.int .i64 1), (.slice (some ⟨g21, 0, none⟩) 2 2), (.int .i64 0), (.int .i64 0), (.string ⟨#[]⟩), (.int .i64 0), (.int .i64 0), (.int .i64 0), (.bool false), (.bool false)])) (vl := [(.int .i64 3), (.int .i64 4), (.int .i64 5), (.string ⟨#[116]⟩), (.string ⟨#[]⟩), (.string ⟨#[]⟩), (.bool false), (.int .i64 0), (.int .i64 0), (.int .i64 1), (.slice (some ⟨g21, 0, none⟩) 2 2), (.int .i64 0), (.int .i64 0), (.string ⟨#[]⟩), (.int .i64 0), (.int .i64 0), (.int .i64 0), (.bool false), (.bool false)]) (arr' := [(.int .i64 3), (.int .i64 4), (.int .i64 5), (.string ⟨#[116]⟩), (.string ⟨#[]⟩), (.string ⟨#[]⟩), (.bool false), (.int .i64 0), (.int .i64 0), (.int .i64 1), (.slice (some ⟨g21, 0, none⟩) 2 2), (.int .i64 0), (.int .i64 0), (.string ⟨#[]⟩), (.int .i64 0), (.int .i64 0), (.int .i64 0), (.bool false), (.bool false)]) rfl sz28 rfl rfl (onesOf (Ones.cons rfl (Ones.cons rfl (Ones.cons rfl (Ones.cons rfl (Ones.cons rfl (Ones.cons rfl (Ones.cons rfl (Ones.cons rfl (Ones.cons rfl (Ones.cons rfl (Ones.cons (OwnS.one h23) (Ones.cons rfl (Ones.cons rfl (Ones.cons rfl (Ones.cons rfl (Ones.cons rfl (Ones.cons rfl (Ones.cons rfl (Ones.cons rfl Ones.nil)))))))))))))))))))) rfl rfl (by kernel_rfl)) rfl ?_
 rintro _ _ _ - ⟨rfl, rfl⟩
 refine Ns ?_
 refine Pu (.agg #[(.int .i64 3), (.int .i64 4), (.int .i64 5), (.string ⟨#[116]⟩), (.string ⟨#[]⟩), (.string ⟨#[]⟩), (.bool false), (.int .i64 0), (.int .i64 0), (.int .i64 1), (.slice (some ⟨g21, 0, none⟩) 2 2), (.int .i64 0), (.int .i64 0), (.string ⟨#[]⟩), (.int .i64 0), (.int .i64 0), (.int .i64 0), (.bool false), (.bool false)]) (PO.loadBA (cs := [(.int .i64 3), (.int .i64 4), (.int .i64 5), (.string ⟨#[116]⟩), (.string ⟨#[]⟩), (.string ⟨#[]⟩), (.bool false), (.int .i64 0), (.int .i64 0), (.int .i64 1), (.slice (some ⟨g21, 0, none⟩) 2 2), (.int .i64 0), (.int .i64 0), (.string ⟨#[]⟩), (.int .i64 0), (.int .i64 0), (.int .i64 0), (.bool false), (.bool false)]) 0 ag28 sz28 rfl rfl rfl) rfl ?_
 obtain ⟨⟨r25, r26⟩, hr27, h⟩ := bnd h
 refine WL.f1 ?_
 refine WL.eff (EO.call1 co11 (Tri.lend fun w0_ H0_ hs0_ => (f_ask_Put_ok (⟨(3 : Int), (4 : Int), (5 : Int), (⟨#[116]⟩ : ByteArray), (⟨#[]⟩ : ByteArray), (⟨#[]⟩ : ByteArray), false, (0 : Int), (0 : Int), (1 : Int), [(2 : Int), (5 : Int)], (0 : Int), (0 : Int), (⟨#[]⟩ : ByteArray), (⟨(0 : Int), (0 : Int), (0 : Int), false, false⟩ : T_api_Word)⟩ : T_api_Request) _ _ (h23.rs hs0_) (r25, r26) hr27)) (args1 rfl)) rfl ?_
 rintro _ _ _ hle29 ⟨_, ⟨Ml32, Hl33, hll34, rfl, rfl, ⟨vq30_1, cq30_1, rfl, rfl, hq30_1⟩⟩, rfl⟩
 have h23 := h23.mono hle29
 have hq30_1 : OwnS (Kd.int .u8) (Ml32.minus [(g21, .cells #[(.int .i64 2), (.int .i64 5)] 3 (0, 0))]) vq30_1 r25.Body cq30_1 := hq30_1.any (Kd.int_flat _)
 refine WL.a2 ?_
 refine Pm (.tuple #[(.agg #[(.int .i64 r25.Kind), vq30_1]), (GV r26)]) rfl rfl ?_
 refine Pu (.agg #[(.int .i64 r25.Kind), vq30_1]) (PO.extract rfl rfl) rfl ?_
 refine Pu (GV r26) (PO.extract rfl rfl) rfl ?_
 refine WL.eff (EO.alloc ze34 rfl) rfl ?_
 rintro _ _ _ - ⟨rfl, g35, rfl, rfl⟩
 refine WL.eff (EO.storeL (v := (.agg #[(.int .i64 r25.Kind), vq30_1])) (vl := [(.int .i64 r25.Kind), vq30_1]) (arr' := [(.int .i64 r25.Kind), vq30_1]) rfl sz34 rfl rfl (onesOf (Ones.cons rfl (Ones.cons (OwnS.one hq30_1) Ones.nil))) rfl rfl rfl) rfl ?_
 rintro _ _ _ - ⟨rfl, rfl⟩
 refine Pa (GV r26) rfl rfl ?_
 refine Ns ?_
 refine Pu (.agg #[(.int .i64 r25.Kind), vq30_1]) (PO.loadBA (cs := [(.int .i64 r25.Kind), vq30_1]) 0 ag34 sz34 rfl rfl rfl) rfl ?_
 obtain ⟨⟨r36, r37⟩, hr38, h⟩ := bnd h
 refine WL.f2 ?_
 refine WL.eff (EO.call1 co5 (Tri.lend fun w0_ H0_ hs0_ => (f_ask_Read_ok r25 _ _ (hq30_1.rs hs0_) (r36, r37) hr38)) (args1 rfl)) rfl ?_
 rintro _ _ _ hle40 ⟨_, ⟨Ml43, Hl44, hll45, rfl, rfl, ⟨vq41_10, cq41_10, rfl, rfl, hq41_10⟩⟩, rfl⟩
 have hq30_1 := hq30_1.mono hle40
 have h23 := h23.mono hle40
 have hq41_10 : OwnS (Kd.int .i64) (Ml43.minus cq30_1) vq41_10 r36.Ids cq41_10 := hq41_10.any (Kd.int_flat _)
 refine WL.a2 ?_
 refine Pm (.tuple #[(a28_ r36 vq41_10), (GV r37)]) rfl rfl ?_
 refine Pu (a28_ r36 vq41_10) (PO.extract rfl rfl) rfl ?_
 refine Pu (GV r37) (PO.extract rfl rfl) rfl ?_
 refine WL.eff (EO.alloc ze28 rfl) rfl ?_
 rintro _ _ _ - ⟨rfl, g46, rfl, rfl⟩
 refine WL.eff (EO.storeL (v := (a28_ r36 vq41_10)) (vl := (l28 r36 vq41_10)) (arr' := (l28 r36 vq41_10)) rfl sz28 rfl rfl (onesOf (Ones.cons rfl (Ones.cons rfl (Ones.cons rfl (Ones.cons rfl (Ones.cons rfl (Ones.cons rfl (Ones.cons rfl (Ones.cons rfl (Ones.cons rfl (Ones.cons rfl (Ones.cons (OwnS.one hq41_10) (Ones.cons rfl (Ones.cons rfl (Ones.cons rfl (Ones.cons rfl (Ones.cons rfl (Ones.cons rfl (Ones.cons rfl (Ones.cons rfl Ones.nil)))))))))))))))))))) rfl rfl (by kernel_rfl)) rfl ?_
 rintro _ _ _ - ⟨rfl, rfl⟩
 refine Pa (GV r37) rfl rfl ?_
 refine Ns ?_
 refine Pu (.agg #[(.bool false), (.bool false), (.bool true)]) (PO.buildL (cl := [(.bool false), (.bool false), (.bool true)]) ze41 fp41 (Parts.cons (congrArg Value.cells (show ev _ _ = (.bool true) from rfl)) Parts.nil) rfl) rfl ?_
 refine Pu (.agg #[(.int .i64 3), (.int .i64 4), (.int .i64 8), (.int .i64 1), (.bool false), (.bool false), (.bool true)]) (PO.buildL (cl := [(.int .i64 3), (.int .i64 4), (.int .i64 8), (.int .i64 1), (.bool false), (.bool false), (.bool true)]) ze43 fp43 (Parts.cons (congrArg Value.cells (show ev _ _ = (.int .i64 3) from rfl)) (Parts.cons (congrArg Value.cells (show ev _ _ = (.int .i64 4) from rfl)) (Parts.cons (congrArg Value.cells (show ev _ _ = (.int .i64 8) from rfl)) (Parts.cons (congrArg Value.cells (show ev _ _ = (.int .i64 1) from rfl)) (Parts.cons (congrArg Value.cells (show ev _ _ = (.agg #[(.bool false), (.bool false), (.bool true)]) from rfl)) Parts.nil))))) rfl) rfl ?_
 refine WL.eff (EO.alloc ze43 rfl) rfl ?_
 rintro _ _ _ - ⟨rfl, g47, rfl, rfl⟩
 refine WL.eff (EO.storeL (v := (.agg #[(.int .i64 3), (.int .i64 4), (.int .i64 8), (.int .i64 1), (.bool false), (.bool false), (.bool true)])) (vl := [(.int .i64 3), (.int .i64 4), (.int .i64 8), (.int .i64 1), (.bool false), (.bool false), (.bool true)]) (arr' := [(.int .i64 3), (.int .i64 4), (.int .i64 8), (.int .i64 1), (.bool false), (.bool false), (.bool true)]) rfl sz43 rfl rfl (onesOf (Ones.cons rfl (Ones.cons rfl (Ones.cons rfl (Ones.cons rfl (Ones.cons rfl (Ones.cons rfl (Ones.cons rfl Ones.nil)))))))) rfl rfl (by kernel_rfl)) rfl ?_
 rintro _ _ _ - ⟨rfl, rfl⟩
 refine Ns ?_
 refine Pu (.agg #[(.int .i64 3), (.int .i64 4), (.int .i64 8), (.int .i64 1), (.bool false), (.bool false), (.bool true)]) (PO.loadBA (cs := [(.int .i64 3), (.int .i64 4), (.int .i64 8), (.int .i64 1), (.bool false), (.bool false), (.bool true)]) 0 ag43 sz43 rfl rfl rfl) rfl ?_
 obtain ⟨⟨r48, r49⟩, hr50, h⟩ := bnd h
 refine WL.eff (EO.call0 co12 (f_ask_PutReply_ok (⟨(3 : Int), (4 : Int), (8 : Int), (1 : Int), (⟨false, false, true⟩ : T_api_Told)⟩ : T_api_Reply) _ (r48, r49) hr50) (args1 rfl)) rfl ?_
 rintro _ M51 _ hle52 ⟨_, ⟨vq53_1, cq53_1, rfl, rfl, hq53_1⟩, rfl⟩
 have h23 := h23.mono hle52
 have hq30_1 := hq30_1.mono hle52
 have hq41_10 := hq41_10.mono hle52
 refine WL.a1 ?_
 refine Pm (.tuple #[(.agg #[(.int .i64 r48.Kind), vq53_1]), (GV r49)]) rfl rfl ?_
 refine Pu (.agg #[(.int .i64 r48.Kind), vq53_1]) (PO.extract rfl rfl) rfl ?_
 refine Pu (GV r49) (PO.extract rfl rfl) rfl ?_
 refine WL.eff (EO.alloc ze34 rfl) rfl ?_
 rintro _ _ _ - ⟨rfl, g55, rfl, rfl⟩
 refine WL.eff (EO.storeL (v := (.agg #[(.int .i64 r48.Kind), vq53_1])) (vl := [(.int .i64 r48.Kind), vq53_1]) (arr' := [(.int .i64 r48.Kind), vq53_1]) rfl sz34 rfl rfl (onesOf (Ones.cons rfl (Ones.cons (OwnS.one hq53_1) Ones.nil))) rfl rfl rfl) rfl ?_
 rintro _ _ _ - ⟨rfl, rfl⟩
 refine Pa (GV r49) rfl rfl ?_
 refine Ns ?_
 refine Pu (.agg #[(.int .i64 r48.Kind), vq53_1]) (PO.loadBA (cs := [(.int .i64 r48.Kind), vq53_1]) 0 ag34 sz34 rfl rfl rfl) rfl ?_
 obtain ⟨⟨r56, r57⟩, hr58, h⟩ := bnd h
 refine WL.f1 ?_
 refine WL.eff (EO.call1 co7 (Tri.lend fun w0_ H0_ hs0_ => (f_ask_ReadReply_ok r48 _ _ (hq53_1.rs hs0_) (r56, r57) hr58)) (args1 rfl)) rfl ?_
 rintro _ _ _ hle60 ⟨_, ⟨Ml63, Hl64, hll65, rfl, rfl, ⟨rfl, rfl⟩⟩, rfl⟩
 have hq53_1 := hq53_1.mono hle60
 have h23 := h23.mono hle60
 have hq30_1 := hq30_1.mono hle60
 have hq41_10 := hq41_10.mono hle60
 refine WL.a1 ?_
 refine Pm (.tuple #[(a43_ r56), (GV r57)]) rfl rfl ?_
 refine Pu (a43_ r56) (PO.extract rfl rfl) rfl ?_
 refine Pu (GV r57) (PO.extract rfl rfl) rfl ?_
 refine WL.eff (EO.alloc ze43 rfl) rfl ?_
 rintro _ _ _ - ⟨rfl, g66, rfl, rfl⟩
 refine WL.eff (EO.storeL (v := (a43_ r56)) (vl := (l43 r56)) (arr' := (l43 r56)) rfl sz43 rfl rfl (onesOf (Ones.cons rfl (Ones.cons rfl (Ones.cons rfl (Ones.cons rfl (Ones.cons rfl (Ones.cons rfl (Ones.cons rfl Ones.nil)))))))) rfl rfl (by kernel_rfl)) rfl ?_
 rintro _ _ _ - ⟨rfl, rfl⟩
 refine Pa (GV r57) rfl rfl ?_
 refine Ns ?_
 refine Pu (.agg #[(.int .i64 r48.Kind), vq53_1]) (PO.loadBA (cs := [(.int .i64 r48.Kind), vq53_1]) 2 ag34 sz34 rfl rfl rfl) rfl ?_
 obtain ⟨⟨r67, r68⟩, hr69, h⟩ := bnd h
 refine WL.f1 ?_
 refine WL.eff (EO.call1 co5 (Tri.lend fun w0_ H0_ hs0_ => (f_ask_Read_ok r48 _ _ (hq53_1.rs hs0_) (r67, r68) hr69)) (args1 rfl)) rfl ?_
 rintro _ _ _ hle71 ⟨_, ⟨Ml74, Hl75, hll76, rfl, rfl, ⟨vq72_10, cq72_10, rfl, rfl, hq72_10⟩⟩, rfl⟩
 have hq53_1 := hq53_1.mono hle71
 have h23 := h23.mono hle71
 have hq30_1 := hq30_1.mono hle71
 have hq41_10 := hq41_10.mono hle71
 have hq72_10 : OwnS (Kd.int .i64) (Ml74.minus cq53_1) vq72_10 r67.Ids cq72_10 := hq72_10.any (Kd.int_flat _)
 refine WL.a2 ?_
 refine Pm (.tuple #[(a28_ r67 vq72_10), (GV r68)]) rfl rfl ?_
 refine Pu (a28_ r67 vq72_10) (PO.extract rfl rfl) rfl ?_
 refine Pu (GV r68) (PO.extract rfl rfl) rfl ?_
 refine WL.eff (EO.alloc ze28 rfl) rfl ?_
 rintro _ _ _ - ⟨rfl, g77, rfl, rfl⟩
 refine WL.eff (EO.storeL (v := (a28_ r67 vq72_10)) (vl := (l28 r67 vq72_10)) (arr' := (l28 r67 vq72_10)) rfl sz28 rfl rfl (onesOf (Ones.cons rfl (Ones.cons rfl (Ones.cons rfl (Ones.cons rfl (Ones.cons rfl (Ones.cons rfl (Ones.cons rfl (Ones.cons rfl (Ones.cons rfl (Ones.cons rfl (Ones.cons (OwnS.one hq72_10) (Ones.cons rfl (Ones.cons rfl (Ones.cons rfl (Ones.cons rfl (Ones.cons rfl (Ones.cons rfl (Ones.cons rfl (Ones.cons rfl Ones.nil)))))))))))))))))))) rfl rfl (by kernel_rfl)) rfl ?_
 rintro _ _ _ - ⟨rfl, rfl⟩
 refine Pa (GV r68) rfl rfl ?_
 refine Nt ?_
 obtain ⟨x78, hj79, h⟩ := bnd h
 refine WC.joinF (fun (x78 : Bool) ρ' M' H' => (Ml74.minus cq53_1).le M' ∧ [(g77, .cells (l28 r67 vq72_10).toArray 28 (0, 0))] :: [(g66, .cells (l43 r56).toArray 43 (0, 0))] :: [(g55, .cells #[(.int .i64 r48.Kind), vq53_1] 34 (0, 0))] :: [(g47, .cells #[(.int .i64 3), (.int .i64 4), (.int .i64 8), (.int .i64 1), (.bool false), (.bool false), (.bool true)] 43 (0, 0))] :: [(g46, .cells (l28 r36 vq41_10).toArray 28 (0, 0))] :: [(g35, .cells #[(.int .i64 r25.Kind), vq30_1] 34 (0, 0))] :: [(g24, .cells #[(.int .i64 3), (.int .i64 4), (.int .i64 5), (.string ⟨#[116]⟩), (.string ⟨#[]⟩), (.string ⟨#[]⟩), (.bool false), (.int .i64 0), (.int .i64 0), (.int .i64 1), (.slice (some ⟨g21, 0, none⟩) 2 2), (.int .i64 0), (.int .i64 0), (.string ⟨#[]⟩), (.int .i64 0), (.int .i64 0), (.int .i64 0), (.bool false), (.bool false)] 28 (0, 0))] :: cq72_10 :: cq53_1 :: cq41_10 :: cq30_1 :: [(g21, .cells #[(.int .i64 2), (.int .i64 5)] 3 (0, 0))] :: F = H' ∧ ρ' 0 = (.bool x78)) x78 ?_ ?_
 have h379 := h
 have h := hj79
 refine WC.region ?_
 refine Pm (GV r26) rfl rfl ?_
 refine Pu (.bool r26.isNil) (PO.errNil Tryz.underlying30 rfl) rfl ?_
 refine Pm (.bool r26.isNil) rfl rfl ?_
 rcases Bool.eq_false_or_eq_true (r26.isNil) with hb80 | hb80
 have h := ite_t hb80 h
 refine On 44 rfl rfl hb80 ?_
 refine Pu (pt g35 0) (PO.fieldAddr fo34_0 rfl rfl) rfl ?_
 refine On 44 rfl rfl hb80 ?_
 refine Pu (.int .i64 r25.Kind) (PO.loadB 9 pl3 rfl rfl rfl) rfl ?_
 refine On 44 rfl rfl hb80 ?_
 refine Pu (.bool (decide (r25.Kind = 16))) (PO.eql rfl rfl) rfl ?_
 refine Pu (.bool (decide (r25.Kind = 16))) (PO.pickT rfl hb80 rfl) rfl ?_
 refine Pm (.bool (decide (r25.Kind = 16))) rfl rfl ?_
 rcases Bool.eq_false_or_eq_true (decide (r25.Kind = 16)) with hb81 | hb81
 have h := ite_t hb81 h
 refine On 49 rfl rfl hb81 ?_
 refine Pu (pt g35 1) (PO.fieldAddr fo34_1 rfl rfl) rfl ?_
 refine On 49 rfl rfl hb81 ?_
 refine Pu vq30_1 (PO.loadB 9 pl22 rfl rfl rfl) rfl ?_
 refine On 49 rfl rfl hb81 ?_
 refine Pu (.int .i64 (r25.Body.length : Int)) (PO.lenS Tryz.underlying22 rfl hq30_1.len) rfl ?_
 refine On 49 rfl rfl hb81 ?_
 refine Pu (.bool (decide ((r25.Body.length : Int) = (9 : Int)))) (PO.eql rfl rfl) rfl ?_
 refine Pu (.bool (decide ((r25.Body.length : Int) = (9 : Int)))) (PO.pickT rfl hb81 rfl) rfl ?_
 refine Pm (.bool (decide ((r25.Body.length : Int) = (9 : Int)))) rfl rfl ?_
 rcases Bool.eq_false_or_eq_true (decide ((r25.Body.length : Int) = (9 : Int))) with hb82 | hb82
 have h := ite_t hb82 h
 refine On 55 rfl rfl hb82 ?_
 refine Pm (GV r37) rfl rfl ?_
 refine On 55 rfl rfl hb82 ?_
 refine Pu (.bool r37.isNil) (PO.errNil Tryz.underlying30 rfl) rfl ?_
 refine Pu (.bool r37.isNil) (PO.pickT rfl hb82 rfl) rfl ?_
 refine Pm (.bool r37.isNil) rfl rfl ?_
 rcases Bool.eq_false_or_eq_true (r37.isNil) with hb83 | hb83
 have h := ite_t hb83 h
 refine On 59 rfl rfl hb83 ?_
 refine Pu (a28_ r36 vq41_10) (PO.loadBA (cs := (l28 r36 vq41_10)) 6 ag28 sz28 rfl rfl rfl) rfl ?_
 refine On 59 rfl rfl hb83 ?_
 refine Pu (.agg #[(.int .i64 3), (.int .i64 4), (.int .i64 5), (.string ⟨#[116]⟩), (.string ⟨#[]⟩), (.string ⟨#[]⟩), (.bool false), (.int .i64 0), (.int .i64 0), (.int .i64 1), (.slice (some ⟨g21, 0, none⟩) 2 2), (.int .i64 0), (.int .i64 0), (.string ⟨#[]⟩), (.int .i64 0), (.int .i64 0), (.int .i64 0), (.bool false), (.bool false)]) (PO.loadBA (cs := [(.int .i64 3), (.int .i64 4), (.int .i64 5), (.string ⟨#[116]⟩), (.string ⟨#[]⟩), (.string ⟨#[]⟩), (.bool false), (.int .i64 0), (.int .i64 0), (.int .i64 1), (.slice (some ⟨g21, 0, none⟩) 2 2), (.int .i64 0), (.int .i64 0), (.string ⟨#[]⟩), (.int .i64 0), (.int .i64 0), (.int .i64 0), (.bool false), (.bool false)]) 11 ag28 sz28 rfl rfl rfl) rfl ?_
 refine On 59 rfl rfl hb83 ?_
 obtain ⟨r84, hr85, h⟩ := bnd h
 refine WL.f10 ?_
 refine WL.f9 ?_
 refine WL.eff (EO.call2 co13 (Tri.lend fun w0_ H0_ hs0_ => (Tri.lend fun w1_ H1_ hs1_ => (f_ask_Same_ok r36 (⟨(3 : Int), (4 : Int), (5 : Int), (⟨#[116]⟩ : ByteArray), (⟨#[]⟩ : ByteArray), (⟨#[]⟩ : ByteArray), false, (0 : Int), (0 : Int), (1 : Int), [(2 : Int), (5 : Int)], (0 : Int), (0 : Int), (⟨#[]⟩ : ByteArray), (⟨(0 : Int), (0 : Int), (0 : Int), false, false⟩ : T_api_Word)⟩ : T_api_Request) _ _ _ ((hq41_10.rs hs0_).mono (IM.le_add _ _)) ((h23.mono (IM.le_add _ _)).rs hs1_) r84 hr85))) (args2 rfl rfl)) rfl ?_
 rintro _ _ _ hle87 ⟨_, ⟨Ml92, Hl93, hll94, rfl, rfl, ⟨Ml89, Hl90, hll91, rfl, rfl, ⟨rfl, rfl⟩⟩⟩, rfl⟩
 have hq30_1 := hq30_1.mono hle87
 have hq41_10 := hq41_10.mono hle87
 have h23 := h23.mono hle87
 have hq53_1 := hq53_1.mono hle87
 have hq72_10 := hq72_10.mono hle87
 refine WL.a2 ?_
 refine Pu (.bool r84) (PO.pickT rfl hb83 rfl) rfl ?_
 refine Pm (.bool r84) rfl rfl ?_
 rcases Bool.eq_false_or_eq_true (r84) with hb95 | hb95
 have h := ite_t hb95 h
 refine On 64 rfl rfl hb95 ?_
 refine Pu (a28_ r36 vq41_10) (PO.loadBA (cs := (l28 r36 vq41_10)) 8 ag28 sz28 rfl rfl rfl) rfl ?_
 refine On 64 rfl rfl hb95 ?_
 refine Pu (.agg z28_.toArray) (PO.buildL (cl := z28_) ze28 fp28 Parts.nil rfl) rfl ?_
 refine On 64 rfl rfl hb95 ?_
 obtain ⟨r96, hr97, h⟩ := bnd h
 refine WL.eff (EO.call1 co13 (Tri.lend fun w0_ H0_ hs0_ => (f_ask_Same_ok r36 (⟨(0 : Int), (0 : Int), (0 : Int), (⟨#[]⟩ : ByteArray), (⟨#[]⟩ : ByteArray), (⟨#[]⟩ : ByteArray), false, (0 : Int), (0 : Int), (0 : Int), [], (0 : Int), (0 : Int), (⟨#[]⟩ : ByteArray), (⟨(0 : Int), (0 : Int), (0 : Int), false, false⟩ : T_api_Word)⟩ : T_api_Request) _ _ _ (hq41_10.rs hs0_) (RS.nil _ _) r96 hr97)) (args2 rfl rfl)) rfl ?_
 rintro _ _ _ hle99 ⟨_, ⟨Ml101, Hl102, hll103, rfl, rfl, ⟨rfl, rfl⟩⟩, rfl⟩
 have hq30_1 := hq30_1.mono hle99
 have hq41_10 := hq41_10.mono hle99
 have h23 := h23.mono hle99
 have hq53_1 := hq53_1.mono hle99
 have hq72_10 := hq72_10.mono hle99
 refine WL.a1 ?_
 refine On 64 rfl rfl hb95 ?_
 refine Pu (.bool (!r96)) (PO.not rfl) rfl ?_
 refine Pu (.bool (!r96)) (PO.pickT rfl hb95 rfl) rfl ?_
 refine Pm (.bool (!r96)) rfl rfl ?_
 rcases Bool.eq_false_or_eq_true (!r96) with hb104 | hb104
 have h := ite_t hb104 h
 refine On 70 rfl rfl hb104 ?_
 refine Pm (GV r49) rfl rfl ?_
 refine On 70 rfl rfl hb104 ?_
 refine Pu (.bool r49.isNil) (PO.errNil Tryz.underlying30 rfl) rfl ?_
 refine Pu (.bool r49.isNil) (PO.pickT rfl hb104 rfl) rfl ?_
 refine Pm (.bool r49.isNil) rfl rfl ?_
 rcases Bool.eq_false_or_eq_true (r49.isNil) with hb105 | hb105
 have h := ite_t hb105 h
 refine On 74 rfl rfl hb105 ?_
 refine Pu (pt g55 0) (PO.fieldAddr fo34_0 rfl rfl) rfl ?_
 refine On 74 rfl rfl hb105 ?_
 refine Pu (.int .i64 r48.Kind) (PO.loadB 6 pl3 rfl rfl rfl) rfl ?_
 refine On 74 rfl rfl hb105 ?_
 refine Pu (.bool (decide (r48.Kind = 17))) (PO.eql rfl rfl) rfl ?_
 refine Pu (.bool (decide (r48.Kind = 17))) (PO.pickT rfl hb105 rfl) rfl ?_
 refine Pm (.bool (decide (r48.Kind = 17))) rfl rfl ?_
 rcases Bool.eq_false_or_eq_true (decide (r48.Kind = 17)) with hb106 | hb106
 have h := ite_t hb106 h
 refine On 79 rfl rfl hb106 ?_
 refine Pm (GV r57) rfl rfl ?_
 refine On 79 rfl rfl hb106 ?_
 refine Pu (.bool r57.isNil) (PO.errNil Tryz.underlying30 rfl) rfl ?_
 refine Pu (.bool r57.isNil) (PO.pickT rfl hb106 rfl) rfl ?_
 refine Pm (.bool r57.isNil) rfl rfl ?_
 rcases Bool.eq_false_or_eq_true (r57.isNil) with hb107 | hb107
 have h := ite_t hb107 h
 refine On 83 rfl rfl hb107 ?_
 refine Pu (a43_ r56) (PO.loadBA (cs := (l43 r56)) 5 ag43 sz43 rfl rfl rfl) rfl ?_
 refine On 83 rfl rfl hb107 ?_
 refine Pu (.agg #[(.int .i64 3), (.int .i64 4), (.int .i64 8), (.int .i64 1), (.bool false), (.bool false), (.bool true)]) (PO.loadBA (cs := [(.int .i64 3), (.int .i64 4), (.int .i64 8), (.int .i64 1), (.bool false), (.bool false), (.bool true)]) 7 ag43 sz43 rfl rfl rfl) rfl ?_
 refine On 83 rfl rfl hb107 ?_
 refine Pu (.bool (andL [decide (r56.Client = 3), decide (r56.Serial = 4), decide (r56.Code = 8), decide (r56.Leader = 1), andL [r56.Told.Fenced == false, r56.Told.Leaving == false, r56.Told.Stop == true]])) (PO.eqAgg eg43 rfl rfl (run_equal_struct2 Tryz.underlying43 eq43 (EqFs2.cons (by decide) (PartEq.cell pl3 rfl rfl (EqC.int Tryz.underlying3)) (EqFs2.cons (by decide) (PartEq.cell pl3 rfl rfl (EqC.int Tryz.underlying3)) (EqFs2.cons (by decide) (PartEq.cell pl3 rfl rfl (EqC.int Tryz.underlying3)) (EqFs2.cons (by decide) (PartEq.cell pl3 rfl rfl (EqC.int Tryz.underlying3)) (EqFs2.cons (by decide) (PartEq.struct (us := (l41 r56.Told).toArray) (vs := #[(.bool false), (.bool false), (.bool true)]) ag41 sz41 rfl rfl Tryz.underlying41 eq41 (EqFs.cons (by decide) pl4 rfl rfl (EqC.bool Tryz.underlying4) (EqFs.cons (by decide) pl4 rfl rfl (EqC.bool Tryz.underlying4) (EqFs.cons (by decide) pl4 rfl rfl (EqC.bool Tryz.underlying4) EqFs.nil)))) EqFs2.nil))))))) rfl ?_
 refine Pu (.bool (andL [decide (r56.Client = 3), decide (r56.Serial = 4), decide (r56.Code = 8), decide (r56.Leader = 1), andL [r56.Told.Fenced == false, r56.Told.Leaving == false, r56.Told.Stop == true]])) (PO.pickT rfl hb107 rfl) rfl ?_
 refine Pm (.bool (andL [decide (r56.Client = 3), decide (r56.Serial = 4), decide (r56.Code = 8), decide (r56.Leader = 1), andL [r56.Told.Fenced == false, r56.Told.Leaving == false, r56.Told.Stop == true]])) rfl rfl ?_
 rcases Bool.eq_false_or_eq_true (andL [decide (r56.Client = 3), decide (r56.Serial = 4), decide (r56.Code = 8), decide (r56.Leader = 1), andL [r56.Told.Fenced == false, r56.Told.Leaving == false, r56.Told.Stop == true]]) with hb108 | hb108
 have h := ite_t hb108 h
 refine On 88 rfl rfl hb108 ?_
 refine Pm (GV r68) rfl rfl ?_
 refine On 88 rfl rfl hb108 ?_
 obtain ⟨r109, hr110, h⟩ := bnd h
 refine WL.eff (EO.call0 co14 (f_fault_Is_ok r68 (5 : Int) _ r109 hr110) (args2 rfl rfl)) rfl ?_
 rintro _ M111 _ hle112 ⟨_, ⟨rfl, rfl⟩, rfl⟩
 have hq30_1 := hq30_1.mono hle112
 have hq41_10 := hq41_10.mono hle112
 have h23 := h23.mono hle112
 have hq53_1 := hq53_1.mono hle112
 have hq72_10 := hq72_10.mono hle112
 refine WL.a0 ?_
 refine Pu (.bool r109) (PO.pickT rfl hb108 rfl) rfl ?_
 refine Pm (.bool r109) rfl rfl ?_
 rcases Bool.eq_false_or_eq_true (r109) with hb114 | hb114
 have h := ite_t hb114 h
 refine On 92 rfl rfl hb114 ?_
 refine Pu (.agg z28_.toArray) (PO.buildL (cl := z28_) ze28 fp28 Parts.nil rfl) rfl ?_
 refine On 92 rfl rfl hb114 ?_
 obtain ⟨r115, hr116, h⟩ := bnd h
 refine WL.eff (EO.call0 co15 (f_ask_Check_ok (⟨(0 : Int), (0 : Int), (0 : Int), (⟨#[]⟩ : ByteArray), (⟨#[]⟩ : ByteArray), (⟨#[]⟩ : ByteArray), false, (0 : Int), (0 : Int), (0 : Int), [], (0 : Int), (0 : Int), (⟨#[]⟩ : ByteArray), (⟨(0 : Int), (0 : Int), (0 : Int), false, false⟩ : T_api_Word)⟩ : T_api_Request) _ _ (RS.nil _ _) r115 hr116) (args1 rfl)) rfl ?_
 rintro _ M117 _ hle118 ⟨_, ⟨rfl, rfl⟩, rfl⟩
 have hq30_1 := hq30_1.mono hle118
 have hq41_10 := hq41_10.mono hle118
 have h23 := h23.mono hle118
 have hq53_1 := hq53_1.mono hle118
 have hq72_10 := hq72_10.mono hle118
 refine WL.a0 ?_
 refine On 92 rfl rfl hb114 ?_
 obtain ⟨r120, hr121, h⟩ := bnd h
 refine WL.eff (EO.call0 co14 (f_fault_Is_ok r115 (5 : Int) _ r120 hr121) (args2 rfl rfl)) rfl ?_
 rintro _ M122 _ hle123 ⟨_, ⟨rfl, rfl⟩, rfl⟩
 have hq30_1 := hq30_1.mono hle123
 have hq41_10 := hq41_10.mono hle123
 have h23 := h23.mono hle123
 have hq53_1 := hq53_1.mono hle123
 have hq72_10 := hq72_10.mono hle123
 refine WL.a0 ?_
 refine Pu (.bool r120) (PO.pickT rfl hb114 rfl) rfl ?_
 refine Pm (.bool r120) rfl rfl ?_
 rcases Bool.eq_false_or_eq_true (r120) with hb125 | hb125
 have h := ite_t hb125 h
 refine On 97 rfl rfl hb125 ?_
 refine Pu (.agg z43_.toArray) (PO.buildL (cl := z43_) ze43 fp43 Parts.nil rfl) rfl ?_
 refine On 97 rfl rfl hb125 ?_
 obtain ⟨r126, hr127, h⟩ := bnd h
 refine WL.eff (EO.call0 co16 (f_ask_CheckReply_ok (⟨(0 : Int), (0 : Int), (0 : Int), (0 : Int), (⟨false, false, false⟩ : T_api_Told)⟩ : T_api_Reply) _ r126 hr127) (args1 rfl)) rfl ?_
 rintro _ M128 _ hle129 ⟨_, ⟨rfl, rfl⟩, rfl⟩
 have hq30_1 := hq30_1.mono hle129
 have hq41_10 := hq41_10.mono hle129
 have h23 := h23.mono hle129
 have hq53_1 := hq53_1.mono hle129
 have hq72_10 := hq72_10.mono hle129
 refine WL.a0 ?_
 refine On 97 rfl rfl hb125 ?_
 obtain ⟨r131, hr132, h⟩ := bnd h
 refine WL.eff (EO.call0 co14 (f_fault_Is_ok r126 (2 : Int) _ r131 hr132) (args2 rfl rfl)) rfl ?_
 rintro _ M133 _ hle134 ⟨_, ⟨rfl, rfl⟩, rfl⟩
 have hq30_1 := hq30_1.mono hle134
 have hq41_10 := hq41_10.mono hle134
 have h23 := h23.mono hle134
 have hq53_1 := hq53_1.mono hle134
 have hq72_10 := hq72_10.mono hle134
 refine WL.a0 ?_
 refine Pu (.bool r131) (PO.pickT rfl hb125 rfl) rfl ?_
 refine Pa (.bool r131) rfl rfl ?_
 refine WL.nil ?_
 refine WQ.f1 ?_
 refine WQ.f9 ?_
 refine WQ.f2 ?_
 refine WQ.f4 ?_
 refine WQ.f5 ?_
 refine WQ.f11 ?_
 refine WQ.f11 ?_
 refine WQ.f11 ?_
 refine WQ.f11 ?_
 refine WQ.f11 ?_
 refine WQ.f11 ?_
 refine WQ.f11 ?_
 obtain rfl := Option.some.inj h
 refine WQ.thenJ ?_
 exact ⟨((((((hle87.trans hle99).trans hle112).trans hle118).trans hle123).trans hle129).trans hle134), rfl, rfl⟩
 have h := ite_f hb125 h
 iterate 3 refine Of 97 rfl rfl hb125 rfl ?_
 refine Pu (.bool false) (PO.pickF rfl hb125 rfl) rfl ?_
 refine Pa (.bool false) rfl rfl ?_
 refine WL.nil ?_
 refine WQ.f1 ?_
 refine WQ.f9 ?_
 refine WQ.f2 ?_
 refine WQ.f4 ?_
 refine WQ.f5 ?_
 refine WQ.f11 ?_
 refine WQ.f11 ?_
 refine WQ.f11 ?_
 refine WQ.f11 ?_
 refine WQ.f11 ?_
 refine WQ.f11 ?_
 refine WQ.f11 ?_
 obtain rfl := Option.some.inj h
 refine WQ.thenJ ?_
 exact ⟨((((hle87.trans hle99).trans hle112).trans hle118).trans hle123), rfl, rfl⟩
 have h := ite_f hb114 h
 iterate 3 refine Of 92 rfl rfl hb114 rfl ?_
 refine Pu (.bool false) (PO.pickF rfl hb114 rfl) rfl ?_
 refine Pm (.bool false) rfl rfl ?_
 iterate 3 refine Of 97 rfl rfl rfl rfl ?_
 refine Pu (.bool false) (PO.pickF rfl rfl rfl) rfl ?_
 refine Pa (.bool false) rfl rfl ?_
 refine WL.nil ?_
 refine WQ.f1 ?_
 refine WQ.f9 ?_
 refine WQ.f2 ?_
 refine WQ.f4 ?_
 refine WQ.f5 ?_
 refine WQ.f11 ?_
 refine WQ.f11 ?_
 refine WQ.f11 ?_
 refine WQ.f11 ?_
 refine WQ.f11 ?_
 refine WQ.f11 ?_
 refine WQ.f11 ?_
 obtain rfl := Option.some.inj h
 refine WQ.thenJ ?_
 exact ⟨((hle87.trans hle99).trans hle112), rfl, rfl⟩
 have h := ite_f hb108 h
 iterate 2 refine Of 88 rfl rfl hb108 rfl ?_
 refine Pu (.bool false) (PO.pickF rfl hb108 rfl) rfl ?_
 refine Pm (.bool false) rfl rfl ?_
 iterate 3 refine Of 92 rfl rfl rfl rfl ?_
 refine Pu (.bool false) (PO.pickF rfl rfl rfl) rfl ?_
 refine Pm (.bool false) rfl rfl ?_
 iterate 3 refine Of 97 rfl rfl rfl rfl ?_
 refine Pu (.bool false) (PO.pickF rfl rfl rfl) rfl ?_
 refine Pa (.bool false) rfl rfl ?_
 refine WL.nil ?_
 refine WQ.f1 ?_
 refine WQ.f9 ?_
 refine WQ.f2 ?_
 refine WQ.f4 ?_
 refine WQ.f5 ?_
 refine WQ.f11 ?_
 refine WQ.f11 ?_
 refine WQ.f11 ?_
 refine WQ.f11 ?_
 refine WQ.f11 ?_
 refine WQ.f11 ?_
 refine WQ.f11 ?_
 obtain rfl := Option.some.inj h
 refine WQ.thenJ ?_
 exact ⟨(hle87.trans hle99), rfl, rfl⟩
 have h := ite_f hb107 h
 iterate 3 refine Of 83 rfl rfl hb107 rfl ?_
 refine Pu (.bool false) (PO.pickF rfl hb107 rfl) rfl ?_
 refine Pm (.bool false) rfl rfl ?_
 iterate 2 refine Of 88 rfl rfl rfl rfl ?_
 refine Pu (.bool false) (PO.pickF rfl rfl rfl) rfl ?_
 refine Pm (.bool false) rfl rfl ?_
 iterate 3 refine Of 92 rfl rfl rfl rfl ?_
 refine Pu (.bool false) (PO.pickF rfl rfl rfl) rfl ?_
 refine Pm (.bool false) rfl rfl ?_
 iterate 3 refine Of 97 rfl rfl rfl rfl ?_
 refine Pu (.bool false) (PO.pickF rfl rfl rfl) rfl ?_
 refine Pa (.bool false) rfl rfl ?_
 refine WL.nil ?_
 refine WQ.f1 ?_
 refine WQ.f9 ?_
 refine WQ.f2 ?_
 refine WQ.f4 ?_
 refine WQ.f5 ?_
 refine WQ.f11 ?_
 refine WQ.f11 ?_
 refine WQ.f11 ?_
 refine WQ.f11 ?_
 refine WQ.f11 ?_
 refine WQ.f11 ?_
 refine WQ.f11 ?_
 obtain rfl := Option.some.inj h
 refine WQ.thenJ ?_
 exact ⟨(hle87.trans hle99), rfl, rfl⟩
 have h := ite_f hb106 h
 iterate 2 refine Of 79 rfl rfl hb106 rfl ?_
 refine Pu (.bool false) (PO.pickF rfl hb106 rfl) rfl ?_
 refine Pm (.bool false) rfl rfl ?_
 iterate 3 refine Of 83 rfl rfl rfl rfl ?_
 refine Pu (.bool false) (PO.pickF rfl rfl rfl) rfl ?_
 refine Pm (.bool false) rfl rfl ?_
 iterate 2 refine Of 88 rfl rfl rfl rfl ?_
 refine Pu (.bool false) (PO.pickF rfl rfl rfl) rfl ?_
 refine Pm (.bool false) rfl rfl ?_
 iterate 3 refine Of 92 rfl rfl rfl rfl ?_
 refine Pu (.bool false) (PO.pickF rfl rfl rfl) rfl ?_
 refine Pm (.bool false) rfl rfl ?_
 iterate 3 refine Of 97 rfl rfl rfl rfl ?_
 refine Pu (.bool false) (PO.pickF rfl rfl rfl) rfl ?_
 refine Pa (.bool false) rfl rfl ?_
 refine WL.nil ?_
 refine WQ.f1 ?_
 refine WQ.f9 ?_
 refine WQ.f2 ?_
 refine WQ.f4 ?_
 refine WQ.f5 ?_
 refine WQ.f11 ?_
 refine WQ.f11 ?_
 refine WQ.f11 ?_
 refine WQ.f11 ?_
 refine WQ.f11 ?_
 refine WQ.f11 ?_
 refine WQ.f11 ?_
 obtain rfl := Option.some.inj h
 refine WQ.thenJ ?_
 exact ⟨(hle87.trans hle99), rfl, rfl⟩
 have h := ite_f hb105 h
 iterate 3 refine Of 74 rfl rfl hb105 rfl ?_
 refine Pu (.bool false) (PO.pickF rfl hb105 rfl) rfl ?_
 refine Pm (.bool false) rfl rfl ?_
 iterate 2 refine Of 79 rfl rfl rfl rfl ?_
 refine Pu (.bool false) (PO.pickF rfl rfl rfl) rfl ?_
 refine Pm (.bool false) rfl rfl ?_
 iterate 3 refine Of 83 rfl rfl rfl rfl ?_
 refine Pu (.bool false) (PO.pickF rfl rfl rfl) rfl ?_
 refine Pm (.bool false) rfl rfl ?_
 iterate 2 refine Of 88 rfl rfl rfl rfl ?_
 refine Pu (.bool false) (PO.pickF rfl rfl rfl) rfl ?_
 refine Pm (.bool false) rfl rfl ?_
 iterate 3 refine Of 92 rfl rfl rfl rfl ?_
 refine Pu (.bool false) (PO.pickF rfl rfl rfl) rfl ?_
 refine Pm (.bool false) rfl rfl ?_
 iterate 3 refine Of 97 rfl rfl rfl rfl ?_
 refine Pu (.bool false) (PO.pickF rfl rfl rfl) rfl ?_
 refine Pa (.bool false) rfl rfl ?_
 refine WL.nil ?_
 refine WQ.f1 ?_
 refine WQ.f9 ?_
 refine WQ.f2 ?_
 refine WQ.f4 ?_
 refine WQ.f5 ?_
 refine WQ.f11 ?_
 refine WQ.f11 ?_
 refine WQ.f11 ?_
 refine WQ.f11 ?_
 refine WQ.f11 ?_
 refine WQ.f11 ?_
 refine WQ.f11 ?_
 obtain rfl := Option.some.inj h
 refine WQ.thenJ ?_
 exact ⟨(hle87.trans hle99), rfl, rfl⟩
 have h := ite_f hb104 h
 iterate 2 refine Of 70 rfl rfl hb104 rfl ?_
 refine Pu (.bool false) (PO.pickF rfl hb104 rfl) rfl ?_
 refine Pm (.bool false) rfl rfl ?_
 iterate 3 refine Of 74 rfl rfl rfl rfl ?_
 refine Pu (.bool false) (PO.pickF rfl rfl rfl) rfl ?_
 refine Pm (.bool false) rfl rfl ?_
 iterate 2 refine Of 79 rfl rfl rfl rfl ?_
 refine Pu (.bool false) (PO.pickF rfl rfl rfl) rfl ?_
 refine Pm (.bool false) rfl rfl ?_
 iterate 3 refine Of 83 rfl rfl rfl rfl ?_
 refine Pu (.bool false) (PO.pickF rfl rfl rfl) rfl ?_
 refine Pm (.bool false) rfl rfl ?_
 iterate 2 refine Of 88 rfl rfl rfl rfl ?_
 refine Pu (.bool false) (PO.pickF rfl rfl rfl) rfl ?_
 refine Pm (.bool false) rfl rfl ?_
 iterate 3 refine Of 92 rfl rfl rfl rfl ?_
 refine Pu (.bool false) (PO.pickF rfl rfl rfl) rfl ?_
 refine Pm (.bool false) rfl rfl ?_
 iterate 3 refine Of 97 rfl rfl rfl rfl ?_
 refine Pu (.bool false) (PO.pickF rfl rfl rfl) rfl ?_
 refine Pa (.bool false) rfl rfl ?_
 refine WL.nil ?_
 refine WQ.f1 ?_
 refine WQ.f9 ?_
 refine WQ.f2 ?_
 refine WQ.f4 ?_
 refine WQ.f5 ?_
 refine WQ.f11 ?_
 refine WQ.f11 ?_
 refine WQ.f11 ?_
 refine WQ.f11 ?_
 refine WQ.f11 ?_
 refine WQ.f11 ?_
 refine WQ.f11 ?_
 obtain rfl := Option.some.inj h
 refine WQ.thenJ ?_
 exact ⟨(hle87.trans hle99), rfl, rfl⟩
 have h := ite_f hb95 h
 iterate 4 refine Of 64 rfl rfl hb95 rfl ?_
 refine Pu (.bool false) (PO.pickF rfl hb95 rfl) rfl ?_
 refine Pm (.bool false) rfl rfl ?_
 iterate 2 refine Of 70 rfl rfl rfl rfl ?_
 refine Pu (.bool false) (PO.pickF rfl rfl rfl) rfl ?_
 refine Pm (.bool false) rfl rfl ?_
 iterate 3 refine Of 74 rfl rfl rfl rfl ?_
 refine Pu (.bool false) (PO.pickF rfl rfl rfl) rfl ?_
 refine Pm (.bool false) rfl rfl ?_
 iterate 2 refine Of 79 rfl rfl rfl rfl ?_
 refine Pu (.bool false) (PO.pickF rfl rfl rfl) rfl ?_
 refine Pm (.bool false) rfl rfl ?_
 iterate 3 refine Of 83 rfl rfl rfl rfl ?_
 refine Pu (.bool false) (PO.pickF rfl rfl rfl) rfl ?_
 refine Pm (.bool false) rfl rfl ?_
 iterate 2 refine Of 88 rfl rfl rfl rfl ?_
 refine Pu (.bool false) (PO.pickF rfl rfl rfl) rfl ?_
 refine Pm (.bool false) rfl rfl ?_
 iterate 3 refine Of 92 rfl rfl rfl rfl ?_
 refine Pu (.bool false) (PO.pickF rfl rfl rfl) rfl ?_
 refine Pm (.bool false) rfl rfl ?_
 iterate 3 refine Of 97 rfl rfl rfl rfl ?_
 refine Pu (.bool false) (PO.pickF rfl rfl rfl) rfl ?_
 refine Pa (.bool false) rfl rfl ?_
 refine WL.nil ?_
 refine WQ.f1 ?_
 refine WQ.f9 ?_
 refine WQ.f2 ?_
 refine WQ.f4 ?_
 refine WQ.f5 ?_
 refine WQ.f11 ?_
 refine WQ.f11 ?_
 refine WQ.f11 ?_
 refine WQ.f11 ?_
 refine WQ.f11 ?_
 refine WQ.f11 ?_
 refine WQ.f11 ?_
 obtain rfl := Option.some.inj h
 refine WQ.thenJ ?_
 exact ⟨hle87, rfl, rfl⟩
 have h := ite_f hb83 h
 iterate 3 refine Of 59 rfl rfl hb83 rfl ?_
 refine Pu (.bool false) (PO.pickF rfl hb83 rfl) rfl ?_
 refine Pm (.bool false) rfl rfl ?_
 iterate 4 refine Of 64 rfl rfl rfl rfl ?_
 refine Pu (.bool false) (PO.pickF rfl rfl rfl) rfl ?_
 refine Pm (.bool false) rfl rfl ?_
 iterate 2 refine Of 70 rfl rfl rfl rfl ?_
 refine Pu (.bool false) (PO.pickF rfl rfl rfl) rfl ?_
 refine Pm (.bool false) rfl rfl ?_
 iterate 3 refine Of 74 rfl rfl rfl rfl ?_
 refine Pu (.bool false) (PO.pickF rfl rfl rfl) rfl ?_
 refine Pm (.bool false) rfl rfl ?_
 iterate 2 refine Of 79 rfl rfl rfl rfl ?_
 refine Pu (.bool false) (PO.pickF rfl rfl rfl) rfl ?_
 refine Pm (.bool false) rfl rfl ?_
 iterate 3 refine Of 83 rfl rfl rfl rfl ?_
 refine Pu (.bool false) (PO.pickF rfl rfl rfl) rfl ?_
 refine Pm (.bool false) rfl rfl ?_
 iterate 2 refine Of 88 rfl rfl rfl rfl ?_
 refine Pu (.bool false) (PO.pickF rfl rfl rfl) rfl ?_
 refine Pm (.bool false) rfl rfl ?_
 iterate 3 refine Of 92 rfl rfl rfl rfl ?_
 refine Pu (.bool false) (PO.pickF rfl rfl rfl) rfl ?_
 refine Pm (.bool false) rfl rfl ?_
 iterate 3 refine Of 97 rfl rfl rfl rfl ?_
 refine Pu (.bool false) (PO.pickF rfl rfl rfl) rfl ?_
 refine Pa (.bool false) rfl rfl ?_
 refine WL.nil ?_
 refine WQ.f10 ?_
 refine WQ.f8 ?_
 refine WQ.f9 ?_
 refine WQ.f4 ?_
 refine WQ.f5 ?_
 refine WQ.f11 ?_
 refine WQ.f11 ?_
 refine WQ.f11 ?_
 refine WQ.f11 ?_
 refine WQ.f11 ?_
 refine WQ.f11 ?_
 refine WQ.f11 ?_
 obtain rfl := Option.some.inj h
 refine WQ.thenJ ?_
 exact ⟨(IM.le.refl _), rfl, rfl⟩
 have h := ite_f hb82 h
 iterate 2 refine Of 55 rfl rfl hb82 rfl ?_
 refine Pu (.bool false) (PO.pickF rfl hb82 rfl) rfl ?_
 refine Pm (.bool false) rfl rfl ?_
 iterate 3 refine Of 59 rfl rfl rfl rfl ?_
 refine Pu (.bool false) (PO.pickF rfl rfl rfl) rfl ?_
 refine Pm (.bool false) rfl rfl ?_
 iterate 4 refine Of 64 rfl rfl rfl rfl ?_
 refine Pu (.bool false) (PO.pickF rfl rfl rfl) rfl ?_
 refine Pm (.bool false) rfl rfl ?_
 iterate 2 refine Of 70 rfl rfl rfl rfl ?_
 refine Pu (.bool false) (PO.pickF rfl rfl rfl) rfl ?_
 refine Pm (.bool false) rfl rfl ?_
 iterate 3 refine Of 74 rfl rfl rfl rfl ?_
 refine Pu (.bool false) (PO.pickF rfl rfl rfl) rfl ?_
 refine Pm (.bool false) rfl rfl ?_
 iterate 2 refine Of 79 rfl rfl rfl rfl ?_
 refine Pu (.bool false) (PO.pickF rfl rfl rfl) rfl ?_
 refine Pm (.bool false) rfl rfl ?_
 iterate 3 refine Of 83 rfl rfl rfl rfl ?_
 refine Pu (.bool false) (PO.pickF rfl rfl rfl) rfl ?_
 refine Pm (.bool false) rfl rfl ?_
 iterate 2 refine Of 88 rfl rfl rfl rfl ?_
 refine Pu (.bool false) (PO.pickF rfl rfl rfl) rfl ?_
 refine Pm (.bool false) rfl rfl ?_
 iterate 3 refine Of 92 rfl rfl rfl rfl ?_
 refine Pu (.bool false) (PO.pickF rfl rfl rfl) rfl ?_
 refine Pm (.bool false) rfl rfl ?_
 iterate 3 refine Of 97 rfl rfl rfl rfl ?_
 refine Pu (.bool false) (PO.pickF rfl rfl rfl) rfl ?_
 refine Pa (.bool false) rfl rfl ?_
 refine WL.nil ?_
 refine WQ.f10 ?_
 refine WQ.f8 ?_
 refine WQ.f9 ?_
 refine WQ.f4 ?_
 refine WQ.f5 ?_
 refine WQ.f11 ?_
 refine WQ.f11 ?_
 refine WQ.f11 ?_
 refine WQ.f11 ?_
 refine WQ.f11 ?_
 refine WQ.f11 ?_
 refine WQ.f11 ?_
 obtain rfl := Option.some.inj h
 refine WQ.thenJ ?_
 exact ⟨(IM.le.refl _), rfl, rfl⟩
 have h := ite_f hb81 h
 iterate 4 refine Of 49 rfl rfl hb81 rfl ?_
 refine Pu (.bool false) (PO.pickF rfl hb81 rfl) rfl ?_
 refine Pm (.bool false) rfl rfl ?_
 iterate 2 refine Of 55 rfl rfl rfl rfl ?_
 refine Pu (.bool false) (PO.pickF rfl rfl rfl) rfl ?_
 refine Pm (.bool false) rfl rfl ?_
 iterate 3 refine Of 59 rfl rfl rfl rfl ?_
 refine Pu (.bool false) (PO.pickF rfl rfl rfl) rfl ?_
 refine Pm (.bool false) rfl rfl ?_
 iterate 4 refine Of 64 rfl rfl rfl rfl ?_
 refine Pu (.bool false) (PO.pickF rfl rfl rfl) rfl ?_
 refine Pm (.bool false) rfl rfl ?_
 iterate 2 refine Of 70 rfl rfl rfl rfl ?_
 refine Pu (.bool false) (PO.pickF rfl rfl rfl) rfl ?_
 refine Pm (.bool false) rfl rfl ?_
 iterate 3 refine Of 74 rfl rfl rfl rfl ?_
 refine Pu (.bool false) (PO.pickF rfl rfl rfl) rfl ?_
 refine Pm (.bool false) rfl rfl ?_
 iterate 2 refine Of 79 rfl rfl rfl rfl ?_
 refine Pu (.bool false) (PO.pickF rfl rfl rfl) rfl ?_
 refine Pm (.bool false) rfl rfl ?_
 iterate 3 refine Of 83 rfl rfl rfl rfl ?_
 refine Pu (.bool false) (PO.pickF rfl rfl rfl) rfl ?_
 refine Pm (.bool false) rfl rfl ?_
 iterate 2 refine Of 88 rfl rfl rfl rfl ?_
 refine Pu (.bool false) (PO.pickF rfl rfl rfl) rfl ?_
 refine Pm (.bool false) rfl rfl ?_
 iterate 3 refine Of 92 rfl rfl rfl rfl ?_
 refine Pu (.bool false) (PO.pickF rfl rfl rfl) rfl ?_
 refine Pm (.bool false) rfl rfl ?_
 iterate 3 refine Of 97 rfl rfl rfl rfl ?_
 refine Pu (.bool false) (PO.pickF rfl rfl rfl) rfl ?_
 refine Pa (.bool false) rfl rfl ?_
 refine WL.nil ?_
 refine WQ.f10 ?_
 refine WQ.f8 ?_
 refine WQ.f9 ?_
 refine WQ.f4 ?_
 refine WQ.f5 ?_
 refine WQ.f11 ?_
 refine WQ.f11 ?_
 refine WQ.f11 ?_
 refine WQ.f11 ?_
 refine WQ.f11 ?_
 refine WQ.f11 ?_
 refine WQ.f11 ?_
 obtain rfl := Option.some.inj h
 refine WQ.thenJ ?_
 exact ⟨(IM.le.refl _), rfl, rfl⟩
 have h := ite_f hb80 h
 iterate 3 refine Of 44 rfl rfl hb80 rfl ?_
 refine Pu (.bool false) (PO.pickF rfl hb80 rfl) rfl ?_
 refine Pm (.bool false) rfl rfl ?_
 iterate 4 refine Of 49 rfl rfl rfl rfl ?_
 refine Pu (.bool false) (PO.pickF rfl rfl rfl) rfl ?_
 refine Pm (.bool false) rfl rfl ?_
 iterate 2 refine Of 55 rfl rfl rfl rfl ?_
 refine Pu (.bool false) (PO.pickF rfl rfl rfl) rfl ?_
 refine Pm (.bool false) rfl rfl ?_
 iterate 3 refine Of 59 rfl rfl rfl rfl ?_
 refine Pu (.bool false) (PO.pickF rfl rfl rfl) rfl ?_
 refine Pm (.bool false) rfl rfl ?_
 iterate 4 refine Of 64 rfl rfl rfl rfl ?_
 refine Pu (.bool false) (PO.pickF rfl rfl rfl) rfl ?_
 refine Pm (.bool false) rfl rfl ?_
 iterate 2 refine Of 70 rfl rfl rfl rfl ?_
 refine Pu (.bool false) (PO.pickF rfl rfl rfl) rfl ?_
 refine Pm (.bool false) rfl rfl ?_
 iterate 3 refine Of 74 rfl rfl rfl rfl ?_
 refine Pu (.bool false) (PO.pickF rfl rfl rfl) rfl ?_
 refine Pm (.bool false) rfl rfl ?_
 iterate 2 refine Of 79 rfl rfl rfl rfl ?_
 refine Pu (.bool false) (PO.pickF rfl rfl rfl) rfl ?_
 refine Pm (.bool false) rfl rfl ?_
 iterate 3 refine Of 83 rfl rfl rfl rfl ?_
 refine Pu (.bool false) (PO.pickF rfl rfl rfl) rfl ?_
 refine Pm (.bool false) rfl rfl ?_
 iterate 2 refine Of 88 rfl rfl rfl rfl ?_
 refine Pu (.bool false) (PO.pickF rfl rfl rfl) rfl ?_
 refine Pm (.bool false) rfl rfl ?_
 iterate 3 refine Of 92 rfl rfl rfl rfl ?_
 refine Pu (.bool false) (PO.pickF rfl rfl rfl) rfl ?_
 refine Pm (.bool false) rfl rfl ?_
 iterate 3 refine Of 97 rfl rfl rfl rfl ?_
 refine Pu (.bool false) (PO.pickF rfl rfl rfl) rfl ?_
 refine Pa (.bool false) rfl rfl ?_
 refine WL.nil ?_
 refine WQ.f10 ?_
 refine WQ.f8 ?_
 refine WQ.f9 ?_
 refine WQ.f4 ?_
 refine WQ.f5 ?_
 refine WQ.f11 ?_
 refine WQ.f11 ?_
 refine WQ.f11 ?_
 refine WQ.f11 ?_
 refine WQ.f11 ?_
 refine WQ.f11 ?_
 refine WQ.f11 ?_
 obtain rfl := Option.some.inj h
 refine WQ.thenJ ?_
 exact ⟨(IM.le.refl _), rfl, rfl⟩
 rintro ρ79 M79 H79 ⟨hle79, rfl, hs79_0⟩
 have hq72_10 := hq72_10.mono hle79
 have hq53_1 := hq53_1.mono hle79
 have hq41_10 := hq41_10.mono hle79
 have hq30_1 := hq30_1.mono hle79
 have h23 := h23.mono hle79
 refine WC.ret ?_
 refine WQ.drop ?_
 refine WQ.drop ?_
 refine WQ.drop ?_
 refine WQ.drop ?_
 refine WQ.drop ?_
 refine WQ.drop ?_
 refine WQ.drop ?_
 refine WQ.drop ?_
 refine WQ.drop ?_
 refine WQ.drop ?_
 refine WQ.drop ?_
 refine WQ.drop ?_
 exact WQ.returnsF h [] rfl (results1 rfl hs79_0) (((((hle29.trans hle40).trans hle52).trans hle60).trans hle71).trans hle79) ⟨rfl, rfl⟩

noncomputable def f_ref02_above (a0 : Int) : Option Int :=
  (if (decide (a0 < (0 : Int))) = true then (some (0 : Int)) else (some (IntKind.u64.wrap a0)))
def f_ref02_above_post (a0 : Int) : Int → Value → IM → HL → Prop :=
  fun (r0 : Int) (v : Value) (M' : IM) (H' : HL) => (.int .u64 r0) = v ∧ H' = []
theorem f_ref02_above_ok (a0 : Int) (M : IM) (res : Int) (h : f_ref02_above a0 = some res) :
    Tri Tryz.prog 76 #[(.int .i64 a0)] M [] (f_ref02_above_post a0 res) := by
 unfold f_ref02_above at h
 refine Tri.enter (fn := Tryz.f76) Tryz.func76 rfl (Nat.le_of_ble_eq_true rfl) ?_
 intro F ρ hρ
 refine Sr ?_
 refine Pa (.int .u64 0) rfl rfl ?_
 refine Nt ?_
 refine WC.seq ?_
 refine Sr ?_
 refine Pm (.int .i64 a0) (hρ 0) rfl ?_
 refine Pu (.bool (decide (a0 < 0))) (PO.lss rfl rfl) rfl ?_
 refine Nt ?_
 refine WC.cond (b := decide (a0 < 0)) rfl (fun hb21 => ?_) (fun hb21 => ?_)
 have h := ite_t hb21 h
 refine Sr ?_
 refine Pa (.int .u64 0) rfl rfl ?_
 refine Nt ?_
 refine WC.ret ?_
 refine WQ.thenR ?_
 exact WQ.returnsF h [] rfl (results1 rfl rfl) (IM.le.refl _) ⟨rfl, rfl⟩
 have h := ite_f hb21 h
 refine WC.skip ?_
 refine WQ.thenC ?_
 refine Sr ?_
 refine Pm (.int .i64 a0) (hρ 0) rfl ?_
 refine Pu (.int .u64 (IntKind.u64.wrap a0)) (PO.conv us3 Tryz.underlying101 rfl) rfl ?_
 refine Pa (.int .u64 (IntKind.u64.wrap a0)) rfl rfl ?_
 refine Nt ?_
 refine WC.ret ?_
 exact WQ.returnsF h [] rfl (results1 rfl rfl) (IM.le.refl _) ⟨rfl, rfl⟩

noncomputable def f_ref02_bad (a0 : T_ref02_State) (a1 : ByteArray) (a2 : Int) (a3 : Int) : Option T_ref02_State :=
  (if (decide (a0.Code ≠ (0 : Int))) = true then (some a0) else (some (⟨a0.At, a3, a1, a2⟩ : T_ref02_State)))
def f_ref02_bad_post (a0 : T_ref02_State) (a1 : ByteArray) (a2 : Int) (a3 : Int) : T_ref02_State → Value → IM → HL → Prop :=
  fun (r0 : T_ref02_State) (v : Value) (M' : IM) (H' : HL) => (.agg #[(.int .i64 r0.At), (.int .i64 r0.Code), (.string r0.Op), (.int .i64 r0.Where)]) = v ∧ H' = []
theorem f_ref02_bad_ok (a0 : T_ref02_State) (a1 : ByteArray) (a2 : Int) (a3 : Int) (M : IM) (res : T_ref02_State) (h : f_ref02_bad a0 a1 a2 a3 = some res) :
    Tri Tryz.prog 77 #[(a67_ a0), (.string a1), (.int .i64 a2), (.int .i64 a3)] M [] (f_ref02_bad_post a0 a1 a2 a3 res) := by
 unfold f_ref02_bad at h
 refine Tri.enter (fn := Tryz.f77) Tryz.func77 rfl (Nat.le_of_ble_eq_true rfl) ?_
 intro F ρ hρ
 refine Sr ?_
 refine WL.eff (EO.box (cs := (l67 a0).toArray) (congrArg Value.cells (asE (a67_ a0) (hρ 0)))) rfl ?_
 rintro _ _ _ - ⟨rfl, g21, rfl, rfl⟩
 refine WL.eff (EO.alloc ze67 rfl) rfl ?_
 rintro _ _ _ - ⟨rfl, g22, rfl, rfl⟩
 refine Nt ?_
 refine WC.seq ?_
 refine Sr ?_
 refine Pu (pt g21 1) (PO.fieldAddr fo67_1 rfl rfl) rfl ?_
 refine Pu (.int .i64 a0.Code) (PO.loadB 1 pl35 rfl rfl rfl) rfl ?_
 refine Pu (.bool (decide (a0.Code ≠ 0))) (PO.neq rfl rfl) rfl ?_
 refine Nt ?_
 refine WC.cond (b := decide (a0.Code ≠ 0)) rfl (fun hb23 => ?_) (fun hb23 => ?_)
 have h := ite_t hb23 h
 refine Sr ?_
 refine Pu (a67_ a0) (PO.loadBA (cs := (l67 a0)) 1 ag67 sz67 rfl rfl rfl) rfl ?_
 refine WL.eff (EO.storeL (v := (a67_ a0)) (vl := (l67 a0)) (arr' := (l67 a0)) rfl sz67 rfl rfl (onesOf (Ones.cons rfl (Ones.cons rfl (Ones.cons rfl (Ones.cons rfl Ones.nil))))) rfl rfl rfl) rfl ?_
 rintro _ _ _ - ⟨rfl, rfl⟩
 refine Nt ?_
 refine WC.ret ?_
 refine WQ.thenR ?_
 refine WQ.f1 ?_
 refine WQ.drop ?_
 exact WQ.returnsD h [] (fun _ hs => hs.drop) (resultsL1 rfl (RV.cellA (cs := (l67 a0)) 0 ag67 sz67 rfl rfl rfl)) (IM.le.refl _) ⟨rfl, rfl⟩
 have h := ite_f hb23 h
 refine WC.skip ?_
 refine WQ.thenC ?_
 refine Sr ?_
 refine Pu (pt g21 0) (PO.fieldAddr fo67_0 rfl rfl) rfl ?_
 refine Pu (.int .i64 a0.At) (PO.loadB 1 pl3 rfl rfl rfl) rfl ?_
 refine Pm (.int .i64 a3) (hρ 3) rfl ?_
 refine Pm (.string a1) (hρ 1) rfl ?_
 refine Pm (.int .i64 a2) (hρ 2) rfl ?_
 refine Pu (.agg #[(.int .i64 a0.At), (.int .i64 a3), (.string a1), (.int .i64 a2)]) (PO.buildL (cl := [(.int .i64 a0.At), (.int .i64 a3), (.string a1), (.int .i64 a2)]) ze67 fp67 (Parts.cons (congrArg Value.cells (show ev _ _ = (.int .i64 a0.At) from rfl)) (Parts.cons (congrArg Value.cells (show ev _ _ = (.int .i64 a3) from rfl)) (Parts.cons (congrArg Value.cells (show ev _ _ = (.string a1) from rfl)) (Parts.cons (congrArg Value.cells (show ev _ _ = (.int .i64 a2) from rfl)) Parts.nil)))) rfl) rfl ?_
 refine WL.eff (EO.storeL (v := (.agg #[(.int .i64 a0.At), (.int .i64 a3), (.string a1), (.int .i64 a2)])) (vl := [(.int .i64 a0.At), (.int .i64 a3), (.string a1), (.int .i64 a2)]) (arr' := [(.int .i64 a0.At), (.int .i64 a3), (.string a1), (.int .i64 a2)]) rfl sz67 rfl rfl (onesOf (Ones.cons rfl (Ones.cons rfl (Ones.cons rfl (Ones.cons rfl Ones.nil))))) rfl rfl rfl) rfl ?_
 rintro _ _ _ - ⟨rfl, rfl⟩
 refine Nt ?_
 refine WC.ret ?_
 refine WQ.f1 ?_
 refine WQ.drop ?_
 exact WQ.returnsD h [] (fun _ hs => hs.drop) (resultsL1 rfl (RV.cellA (cs := [(.int .i64 a0.At), (.int .i64 a3), (.string a1), (.int .i64 a2)]) 0 ag67 sz67 rfl rfl rfl)) (IM.le.refl _) ⟨rfl, rfl⟩

noncomputable def f_ref02_size (a0 : Int) : Option Int :=
  (if (decide (a0 < (64 : Int))) = true then (some (1 : Int)) else (if (decide (a0 < (16384 : Int))) = true then (some (2 : Int)) else (if (decide (a0 < (1073741824 : Int))) = true then (some (4 : Int)) else (some (8 : Int)))))
def f_ref02_size_post (a0 : Int) : Int → Value → IM → HL → Prop :=
  fun (r0 : Int) (v : Value) (M' : IM) (H' : HL) => (.int .i64 r0) = v ∧ H' = []
theorem f_ref02_size_ok (a0 : Int) (M : IM) (res : Int) (h : f_ref02_size a0 = some res) :
    Tri Tryz.prog 85 #[(.int .u64 a0)] M [] (f_ref02_size_post a0 res) := by
 unfold f_ref02_size at h
 refine Tri.enter (fn := Tryz.f85) Tryz.func85 rfl (Nat.le_of_ble_eq_true rfl) ?_
 intro F ρ hρ
 refine Sr ?_
 refine Pa (.int .i64 0) rfl rfl ?_
 refine Nt ?_
 refine WC.seq ?_
 refine Sr ?_
 refine Pm (.int .u64 a0) (hρ 0) rfl ?_
 refine Pu (.bool (decide (a0 < 64))) (PO.lss rfl rfl) rfl ?_
 refine Nt ?_
 refine WC.cond (b := decide (a0 < 64)) rfl (fun hb21 => ?_) (fun hb21 => ?_)
 have h := ite_t hb21 h
 refine Sr ?_
 refine Pa (.int .i64 1) rfl rfl ?_
 refine Nt ?_
 refine WC.ret ?_
 refine WQ.thenR ?_
 exact WQ.returnsF h [] rfl (results1 rfl rfl) (IM.le.refl _) ⟨rfl, rfl⟩
 have h := ite_f hb21 h
 refine WC.skip ?_
 refine WQ.thenC ?_
 refine WC.seq ?_
 refine Sr ?_
 refine Pm (.int .u64 a0) (hρ 0) rfl ?_
 refine Pu (.bool (decide (a0 < 16384))) (PO.lss rfl rfl) rfl ?_
 refine Nt ?_
 refine WC.cond (b := decide (a0 < 16384)) rfl (fun hb22 => ?_) (fun hb22 => ?_)
 have h := ite_t hb22 h
 refine Sr ?_
 refine Pa (.int .i64 2) rfl rfl ?_
 refine Nt ?_
 refine WC.ret ?_
 refine WQ.thenR ?_
 exact WQ.returnsF h [] rfl (results1 rfl rfl) (IM.le.refl _) ⟨rfl, rfl⟩
 have h := ite_f hb22 h
 refine WC.skip ?_
 refine WQ.thenC ?_
 refine WC.seq ?_
 refine Sr ?_
 refine Pm (.int .u64 a0) (hρ 0) rfl ?_
 refine Pu (.bool (decide (a0 < 1073741824))) (PO.lss rfl rfl) rfl ?_
 refine Nt ?_
 refine WC.cond (b := decide (a0 < 1073741824)) rfl (fun hb23 => ?_) (fun hb23 => ?_)
 have h := ite_t hb23 h
 refine Sr ?_
 refine Pa (.int .i64 4) rfl rfl ?_
 refine Nt ?_
 refine WC.ret ?_
 refine WQ.thenR ?_
 exact WQ.returnsF h [] rfl (results1 rfl rfl) (IM.le.refl _) ⟨rfl, rfl⟩
 have h := ite_f hb23 h
 refine WC.skip ?_
 refine WQ.thenC ?_
 refine Sr ?_
 refine Pa (.int .i64 8) rfl rfl ?_
 refine Nt ?_
 refine WC.ret ?_
 exact WQ.returnsF h [] rfl (results1 rfl rfl) (IM.le.refl _) ⟨rfl, rfl⟩


end Go.Proofs.YtjgnbbakamellaaGreatDoor.G
