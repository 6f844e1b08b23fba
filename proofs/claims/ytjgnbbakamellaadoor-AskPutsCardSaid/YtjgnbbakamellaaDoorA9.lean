/- Go functions: what they come to, and that they do. Printed by a program of the session (gen). -/
import Derived.Test.YtjgnbbakamellaaDoorAF
import Derived.Test.YtjgnbbakamellaaDoorA8
import Derived.Test.YtjgnbbakamellaaDoorKConv
import Derived.Test.YtjgnbbakamellaaDoorKEq2
set_option linter.unusedVariables false
set_option linter.unusedSimpArgs false
namespace Go.Proofs.YtjgnbbakamellaaDoor.G
open Go Go.KK

noncomputable def f_law22_works : Option Bool :=
  ((f_ask_Put (⟨(3 : Int), (4 : Int), (5 : Int), (⟨#[116]⟩ : ByteArray), (⟨#[]⟩ : ByteArray), (⟨#[]⟩ : ByteArray), false, (0 : Int), (0 : Int), (1 : Int), [(2 : Int), (5 : Int)], (0 : Int), (0 : Int), (⟨#[]⟩ : ByteArray), (⟨(0 : Int), (0 : Int), (0 : Int), false, false⟩ : T_api_Word)⟩ : T_api_Request)).bind fun (r25, r26) => ((f_ask_Read r25).bind fun (r36, r37) => ((f_ask_PutReply (⟨(3 : Int), (4 : Int), (8 : Int), (1 : Int), (⟨false, false, true⟩ : T_api_Told)⟩ : T_api_Reply)).bind fun (r48, r49) => ((f_ask_ReadReply r48).bind fun (r56, r57) => ((f_ask_Read r48).bind fun (r67, r68) => (((if r26.isNil = true then (if (decide (r25.Kind = (16 : Int))) = true then (if (decide ((r25.Body.length : Int) = (9 : Int))) = true then (if r37.isNil = true then ((f_ask_Same r36 (⟨(3 : Int), (4 : Int), (5 : Int), (⟨#[116]⟩ : ByteArray), (⟨#[]⟩ : ByteArray), (⟨#[]⟩ : ByteArray), false, (0 : Int), (0 : Int), (1 : Int), [(2 : Int), (5 : Int)], (0 : Int), (0 : Int), (⟨#[]⟩ : ByteArray), (⟨(0 : Int), (0 : Int), (0 : Int), false, false⟩ : T_api_Word)⟩ : T_api_Request)).bind fun (r84 : Bool) => (if r84 = true then ((f_ask_Same r36 (⟨(0 : Int), (0 : Int), (0 : Int), (⟨#[]⟩ : ByteArray), (⟨#[]⟩ : ByteArray), (⟨#[]⟩ : ByteArray), false, (0 : Int), (0 : Int), (0 : Int), [], (0 : Int), (0 : Int), (⟨#[]⟩ : ByteArray), (⟨(0 : Int), (0 : Int), (0 : Int), false, false⟩ : T_api_Word)⟩ : T_api_Request)).bind fun (r96 : Bool) => (if (!r96) = true then (if r49.isNil = true then (if (decide (r48.Kind = (17 : Int))) = true then (if r57.isNil = true then (if (andL [decide (r56.Client = (3 : Int)), decide (r56.Serial = (4 : Int)), decide (r56.Code = (8 : Int)), decide (r56.Leader = (1 : Int)), andL [r56.Told.Fenced == false, r56.Told.Leaving == false, r56.Told.Stop == true]]) = true then ((f_fault_Is r68 (5 : Int)).bind fun (r109 : Bool) => (if r109 = true then ((f_ask_Check (⟨(0 : Int), (0 : Int), (0 : Int), (⟨#[]⟩ : ByteArray), (⟨#[]⟩ : ByteArray), (⟨#[]⟩ : ByteArray), false, (0 : Int), (0 : Int), (0 : Int), [], (0 : Int), (0 : Int), (⟨#[]⟩ : ByteArray), (⟨(0 : Int), (0 : Int), (0 : Int), false, false⟩ : T_api_Word)⟩ : T_api_Request)).bind fun (r115 : GErr) => ((f_fault_Is r115 (5 : Int)).bind fun (r120 : Bool) => (if r120 = true then ((f_ask_CheckReply (⟨(0 : Int), (0 : Int), (0 : Int), (0 : Int), (⟨false, false, false⟩ : T_api_Told)⟩ : T_api_Reply)).bind fun (r126 : GErr) => ((f_fault_Is r126 (2 : Int)).bind fun (r131 : Bool) => (some r131))) else (some false)))) else (some false))) else (some false)) else (some false)) else (some false)) else (some false)) else (some false))) else (some false))) else (some false)) else (some false)) else (some false)) else (some false)) : Option Bool).bind fun (x78 : Bool) => (some x78)))))))
def f_law22_works_post : Bool → Value → IM → HL → Prop :=
  fun (r0 : Bool) (v : Value) (M' : IM) (H' : HL) => (.bool r0) = v ∧ H' = []
set_option maxHeartbeats 8000000 in
set_option maxRecDepth 100000 in
theorem f_law22_works_ok (M : IM) (res : Bool) (h : f_law22_works = some res) :
    Tri Tryd.prog 28 #[] M [] (f_law22_works_post res) := by
 unfold f_law22_works at h
 refine Tri.enter (fn := Tryd.f28) Tryd.func28 rfl (Nat.le_of_ble_eq_true rfl) ?_
 intro F ρ hρ
 refine Sr ?_
 refine Pa (.bool false) rfl rfl ?_
 refine Ns ?_
 refine WL.eff (EO.buildSliceL (cl := [(.int .i64 2), (.int .i64 5)]) Tryd.underlying64 iz3 rfl (Parts.cons (congrArg Value.cells (show ev _ _ = (.int .i64 2) from rfl)) (Parts.cons (congrArg Value.cells (show ev _ _ = (.int .i64 5) from rfl)) Parts.nil)) rfl) rfl ?_
 rintro _ _ _ - ⟨rfl, g21, rfl, rfl⟩
 have h23 : OwnS (Kd.int .i64) M (.slice (some ⟨g21, 0, none⟩) 2 2) [(2 : Int), (5 : Int)] [(g21, .cells #[(.int .i64 2), (.int .i64 5)] 3 (0, 0))] := OwnS.rows (css := [[(.int .i64 2)], [(.int .i64 5)]]) (Rows.cons rfl (Rows.cons rfl Rows.nil)) rfl rfl
 refine Pu (.agg #[(.int .i64 3), (.int .i64 4), (.int .i64 5), (.string ⟨#[116]⟩), (.string ⟨#[]⟩), (.string ⟨#[]⟩), (.bool false), (.int .i64 0), (.int .i64 0), (.int .i64 1), (.slice (some ⟨g21, 0, none⟩) 2 2), (.int .i64 0), (.int .i64 0), (.string ⟨#[]⟩), (.int .i64 0), (.int .i64 0), (.int .i64 0), (.bool false), (.bool false)]) (PO.buildL (cl := [(.int .i64 3), (.int .i64 4), (.int .i64 5), (.string ⟨#[116]⟩), (.string ⟨#[]⟩), (.string ⟨#[]⟩), (.bool false), (.int .i64 0), (.int .i64 0), (.int .i64 1), (.slice (some ⟨g21, 0, none⟩) 2 2), (.int .i64 0), (.int .i64 0), (.string ⟨#[]⟩), (.int .i64 0), (.int .i64 0), (.int .i64 0), (.bool false), (.bool false)]) ze68 fp68 (Parts.cons (congrArg Value.cells (show ev _ _ = (.int .i64 3) from rfl)) (Parts.cons (congrArg Value.cells (show ev _ _ = (.int .i64 4) from rfl)) (Parts.cons (congrArg Value.cells (show ev _ _ = (.int .i64 5) from rfl)) (Parts.cons (congrArg Value.cells (show ev _ _ = (.string ⟨#[116]⟩) from rfl)) (Parts.cons (congrArg Value.cells (show ev _ _ = (.int .i64 1) from rfl)) (Parts.cons ((congrArg Value.cells (show ev _ _ = (.slice (some ⟨g21, 0, none⟩) 2 2) from rfl)).trans h23.cells) Parts.nil)))))) rfl) rfl ?_
 refine WL.eff (EO.alloc ze68 rfl) rfl ?_
 rintro _ _ _ - ⟨rfl, g24, rfl, rfl⟩
 refine WL.eff (EO.storeL (v := (.agg #[(.int .i64 3), (.int .i64 4), (.int .i64 5), (.string ⟨#[116]⟩), (.string ⟨#[]⟩), (.string ⟨#[]⟩), (.bool false), (.int .i64 0), (.int .i64 0), (.int .i64 1), (.slice (some ⟨g21, 0, none⟩) 2 2), (.int .i64 0), (.int .i64 0), (.string ⟨#[]⟩), (.int .i64 0), (.int .i64 0), (.int .i64 0), (.bool false), (.bool false)])) (vl := [(.int .i64 3), (.int .i64 4), (.int .i64 5), (.string ⟨#[116]⟩), (.string ⟨#[]⟩), (.string ⟨#[]⟩), (.bool false), (.int .i64 0), (.int .i64 0), (.int .i64 1), (.slice (some ⟨g21, 0, none⟩) 2 2), (.int .i64 0), (.int .i64 0), (.string ⟨#[]⟩), (.int .i64 0), (.int .i64 0), (.int .i64 0), (.bool false), (.bool false)]) (arr' := [(.int .i64 3), (.int .i64 4), (.int .i64 5), (.string ⟨#[116]⟩), (.string ⟨#[]⟩), (.string ⟨#[]⟩), (.bool false), (.int .i64 0), (.int .i64 0), (.int .i64 1), (.slice (some ⟨g21, 0, none⟩) 2 2), (.int .i64 0), (.int .i64 0), (.string ⟨#[]⟩), (.int .i64 0), (.int .i64 0), (.int .i64 0), (.bool false), (.bool false)]) rfl sz68 rfl rfl (onesOf (Ones.cons rfl (Ones.cons rfl (Ones.cons rfl (Ones.cons rfl (Ones.cons rfl (Ones.cons rfl (Ones.cons rfl (Ones.cons rfl (Ones.cons rfl (Ones.cons rfl (Ones.cons (OwnS.one h23) (Ones.cons rfl (Ones.cons rfl (Ones.cons rfl (Ones.cons rfl (Ones.cons rfl (Ones.cons rfl (Ones.cons rfl (Ones.cons rfl Ones.nil)))))))))))))))))))) rfl rfl (by kernel_rfl)) rfl ?_
 rintro _ _ _ - ⟨rfl, rfl⟩
 refine Ns ?_
 refine Pu (.agg #[(.int .i64 3), (.int .i64 4), (.int .i64 5), (.string ⟨#[116]⟩), (.string ⟨#[]⟩), (.string ⟨#[]⟩), (.bool false), (.int .i64 0), (.int .i64 0), (.int .i64 1), (.slice (some ⟨g21, 0, none⟩) 2 2), (.int .i64 0), (.int .i64 0), (.string ⟨#[]⟩), (.int .i64 0), (.int .i64 0), (.int .i64 0), (.bool false), (.bool false)]) (PO.loadBA (cs := [(.int .i64 3), (.int .i64 4), (.int .i64 5), (.string ⟨#[116]⟩), (.string ⟨#[]⟩), (.string ⟨#[]⟩), (.bool false), (.int .i64 0), (.int .i64 0), (.int .i64 1), (.slice (some ⟨g21, 0, none⟩) 2 2), (.int .i64 0), (.int .i64 0), (.string ⟨#[]⟩), (.int .i64 0), (.int .i64 0), (.int .i64 0), (.bool false), (.bool false)]) 0 ag68 sz68 rfl rfl rfl) rfl ?_
 obtain ⟨⟨r25, r26⟩, hr27, h⟩ := bnd h
 refine WL.f1 ?_
 refine WL.eff (EO.call1 co36 (Tri.lend fun w0_ H0_ hs0_ => (f_ask_Put_ok (⟨(3 : Int), (4 : Int), (5 : Int), (⟨#[116]⟩ : ByteArray), (⟨#[]⟩ : ByteArray), (⟨#[]⟩ : ByteArray), false, (0 : Int), (0 : Int), (1 : Int), [(2 : Int), (5 : Int)], (0 : Int), (0 : Int), (⟨#[]⟩ : ByteArray), (⟨(0 : Int), (0 : Int), (0 : Int), false, false⟩ : T_api_Word)⟩ : T_api_Request) _ _ (h23.rs hs0_) (r25, r26) hr27)) (args1 rfl)) rfl ?_
 rintro _ _ _ hle29 ⟨_, ⟨Ml32, Hl33, hll34, rfl, rfl, ⟨vq30_1, cq30_1, rfl, rfl, hq30_1⟩⟩, rfl⟩
 have h23 := h23.mono hle29
 have hq30_1 : OwnS (Kd.int .u8) (Ml32.minus [(g21, .cells #[(.int .i64 2), (.int .i64 5)] 3 (0, 0))]) vq30_1 r25.Body cq30_1 := hq30_1.any (Kd.int_flat _)
 refine WL.a2 ?_
 refine Pm (.tuple #[(.agg #[(.int .i64 r25.Kind), vq30_1]), (GV r26)]) rfl rfl ?_
 refine Pu (.agg #[(.int .i64 r25.Kind), vq30_1]) (PO.extract rfl rfl) rfl ?_
 refine Pu (GV r26) (PO.extract rfl rfl) rfl ?_
 refine WL.eff (EO.alloc ze40 rfl) rfl ?_
 rintro _ _ _ - ⟨rfl, g35, rfl, rfl⟩
 refine WL.eff (EO.storeL (v := (.agg #[(.int .i64 r25.Kind), vq30_1])) (vl := [(.int .i64 r25.Kind), vq30_1]) (arr' := [(.int .i64 r25.Kind), vq30_1]) rfl sz40 rfl rfl (onesOf (Ones.cons rfl (Ones.cons (OwnS.one hq30_1) Ones.nil))) rfl rfl rfl) rfl ?_
 rintro _ _ _ - ⟨rfl, rfl⟩
 refine Pa (GV r26) rfl rfl ?_
 refine Ns ?_
 refine Pu (.agg #[(.int .i64 r25.Kind), vq30_1]) (PO.loadBA (cs := [(.int .i64 r25.Kind), vq30_1]) 0 ag40 sz40 rfl rfl rfl) rfl ?_
 obtain ⟨⟨r36, r37⟩, hr38, h⟩ := bnd h
 refine WL.f2 ?_
 refine WL.eff (EO.call1 co52 (Tri.lend fun w0_ H0_ hs0_ => (f_ask_Read_ok r25 _ _ (hq30_1.rs hs0_) (r36, r37) hr38)) (args1 rfl)) rfl ?_
 rintro _ _ _ hle40 ⟨_, ⟨Ml43, Hl44, hll45, rfl, rfl, ⟨vq41_10, cq41_10, rfl, rfl, hq41_10⟩⟩, rfl⟩
 have hq30_1 := hq30_1.mono hle40
 have h23 := h23.mono hle40
 have hq41_10 : OwnS (Kd.int .i64) (Ml43.minus cq30_1) vq41_10 r36.Ids cq41_10 := hq41_10.any (Kd.int_flat _)
 refine WL.a2 ?_
 refine Pm (.tuple #[(a68_ r36 vq41_10), (GV r37)]) rfl rfl ?_
 refine Pu (a68_ r36 vq41_10) (PO.extract rfl rfl) rfl ?_
 refine Pu (GV r37) (PO.extract rfl rfl) rfl ?_
 refine WL.eff (EO.alloc ze68 rfl) rfl ?_
 rintro _ _ _ - ⟨rfl, g46, rfl, rfl⟩
 refine WL.eff (EO.storeL (v := (a68_ r36 vq41_10)) (vl := (l68 r36 vq41_10)) (arr' := (l68 r36 vq41_10)) rfl sz68 rfl rfl (onesOf (Ones.cons rfl (Ones.cons rfl (Ones.cons rfl (Ones.cons rfl (Ones.cons rfl (Ones.cons rfl (Ones.cons rfl (Ones.cons rfl (Ones.cons rfl (Ones.cons rfl (Ones.cons (OwnS.one hq41_10) (Ones.cons rfl (Ones.cons rfl (Ones.cons rfl (Ones.cons rfl (Ones.cons rfl (Ones.cons rfl (Ones.cons rfl (Ones.cons rfl Ones.nil)))))))))))))))))))) rfl rfl (by kernel_rfl)) rfl ?_
 rintro _ _ _ - ⟨rfl, rfl⟩
 refine Pa (GV r37) rfl rfl ?_
 refine Ns ?_
 refine Pu (.agg #[(.bool false), (.bool false), (.bool true)]) (PO.buildL (cl := [(.bool false), (.bool false), (.bool true)]) ze70 fp70 (Parts.cons (congrArg Value.cells (show ev _ _ = (.bool true) from rfl)) Parts.nil) rfl) rfl ?_
 refine Pu (.agg #[(.int .i64 3), (.int .i64 4), (.int .i64 8), (.int .i64 1), (.bool false), (.bool false), (.bool true)]) (PO.buildL (cl := [(.int .i64 3), (.int .i64 4), (.int .i64 8), (.int .i64 1), (.bool false), (.bool false), (.bool true)]) ze72 fp72 (Parts.cons (congrArg Value.cells (show ev _ _ = (.int .i64 3) from rfl)) (Parts.cons (congrArg Value.cells (show ev _ _ = (.int .i64 4) from rfl)) (Parts.cons (congrArg Value.cells (show ev _ _ = (.int .i64 8) from rfl)) (Parts.cons (congrArg Value.cells (show ev _ _ = (.int .i64 1) from rfl)) (Parts.cons (congrArg Value.cells (show ev _ _ = (.agg #[(.bool false), (.bool false), (.bool true)]) from rfl)) Parts.nil))))) rfl) rfl ?_
 refine WL.eff (EO.alloc ze72 rfl) rfl ?_
 rintro _ _ _ - ⟨rfl, g47, rfl, rfl⟩
 refine WL.eff (EO.storeL (v := (.agg #[(.int .i64 3), (.int .i64 4), (.int .i64 8), (.int .i64 1), (.bool false), (.bool false), (.bool true)])) (vl := [(.int .i64 3), (.int .i64 4), (.int .i64 8), (.int .i64 1), (.bool false), (.bool false), (.bool true)]) (arr' := [(.int .i64 3), (.int .i64 4), (.int .i64 8), (.int .i64 1), (.bool false), (.bool false), (.bool true)]) rfl sz72 rfl rfl (onesOf (Ones.cons rfl (Ones.cons rfl (Ones.cons rfl (Ones.cons rfl (Ones.cons rfl (Ones.cons rfl (Ones.cons rfl Ones.nil)))))))) rfl rfl (by kernel_rfl)) rfl ?_
 rintro _ _ _ - ⟨rfl, rfl⟩
 refine Ns ?_
 refine Pu (.agg #[(.int .i64 3), (.int .i64 4), (.int .i64 8), (.int .i64 1), (.bool false), (.bool false), (.bool true)]) (PO.loadBA (cs := [(.int .i64 3), (.int .i64 4), (.int .i64 8), (.int .i64 1), (.bool false), (.bool false), (.bool true)]) 0 ag72 sz72 rfl rfl rfl) rfl ?_
 obtain ⟨⟨r48, r49⟩, hr50, h⟩ := bnd h
 refine WL.eff (EO.call0 co38 (f_ask_PutReply_ok (⟨(3 : Int), (4 : Int), (8 : Int), (1 : Int), (⟨false, false, true⟩ : T_api_Told)⟩ : T_api_Reply) _ (r48, r49) hr50) (args1 rfl)) rfl ?_
 rintro _ M51 _ hle52 ⟨_, ⟨vq53_1, cq53_1, rfl, rfl, hq53_1⟩, rfl⟩
 have h23 := h23.mono hle52
 have hq30_1 := hq30_1.mono hle52
 have hq41_10 := hq41_10.mono hle52
 refine WL.a1 ?_
 refine Pm (.tuple #[(.agg #[(.int .i64 r48.Kind), vq53_1]), (GV r49)]) rfl rfl ?_
 refine Pu (.agg #[(.int .i64 r48.Kind), vq53_1]) (PO.extract rfl rfl) rfl ?_
 refine Pu (GV r49) (PO.extract rfl rfl) rfl ?_
 refine WL.eff (EO.alloc ze40 rfl) rfl ?_
 rintro _ _ _ - ⟨rfl, g55, rfl, rfl⟩
 refine WL.eff (EO.storeL (v := (.agg #[(.int .i64 r48.Kind), vq53_1])) (vl := [(.int .i64 r48.Kind), vq53_1]) (arr' := [(.int .i64 r48.Kind), vq53_1]) rfl sz40 rfl rfl (onesOf (Ones.cons rfl (Ones.cons (OwnS.one hq53_1) Ones.nil))) rfl rfl rfl) rfl ?_
 rintro _ _ _ - ⟨rfl, rfl⟩
 refine Pa (GV r49) rfl rfl ?_
 refine Ns ?_
 refine Pu (.agg #[(.int .i64 r48.Kind), vq53_1]) (PO.loadBA (cs := [(.int .i64 r48.Kind), vq53_1]) 0 ag40 sz40 rfl rfl rfl) rfl ?_
 obtain ⟨⟨r56, r57⟩, hr58, h⟩ := bnd h
 refine WL.f1 ?_
 refine WL.eff (EO.call1 co53 (Tri.lend fun w0_ H0_ hs0_ => (f_ask_ReadReply_ok r48 _ _ (hq53_1.rs hs0_) (r56, r57) hr58)) (args1 rfl)) rfl ?_
 rintro _ _ _ hle60 ⟨_, ⟨Ml63, Hl64, hll65, rfl, rfl, ⟨rfl, rfl⟩⟩, rfl⟩
 have hq53_1 := hq53_1.mono hle60
 have h23 := h23.mono hle60
 have hq30_1 := hq30_1.mono hle60
 have hq41_10 := hq41_10.mono hle60
 refine WL.a1 ?_
 refine Pm (.tuple #[(a72_ r56), (GV r57)]) rfl rfl ?_
 refine Pu (a72_ r56) (PO.extract rfl rfl) rfl ?_
 refine Pu (GV r57) (PO.extract rfl rfl) rfl ?_
 refine WL.eff (EO.alloc ze72 rfl) rfl ?_
 rintro _ _ _ - ⟨rfl, g66, rfl, rfl⟩
 refine WL.eff (EO.storeL (v := (a72_ r56)) (vl := (l72 r56)) (arr' := (l72 r56)) rfl sz72 rfl rfl (onesOf (Ones.cons rfl (Ones.cons rfl (Ones.cons rfl (Ones.cons rfl (Ones.cons rfl (Ones.cons rfl (Ones.cons rfl Ones.nil)))))))) rfl rfl (by kernel_rfl)) rfl ?_
 rintro _ _ _ - ⟨rfl, rfl⟩
 refine Pa (GV r57) rfl rfl ?_
 refine Ns ?_
 refine Pu (.agg #[(.int .i64 r48.Kind), vq53_1]) (PO.loadBA (cs := [(.int .i64 r48.Kind), vq53_1]) 2 ag40 sz40 rfl rfl rfl) rfl ?_
 obtain ⟨⟨r67, r68⟩, hr69, h⟩ := bnd h
 refine WL.f1 ?_
 refine WL.eff (EO.call1 co52 (Tri.lend fun w0_ H0_ hs0_ => (f_ask_Read_ok r48 _ _ (hq53_1.rs hs0_) (r67, r68) hr69)) (args1 rfl)) rfl ?_
 rintro _ _ _ hle71 ⟨_, ⟨Ml74, Hl75, hll76, rfl, rfl, ⟨vq72_10, cq72_10, rfl, rfl, hq72_10⟩⟩, rfl⟩
 have hq53_1 := hq53_1.mono hle71
 have h23 := h23.mono hle71
 have hq30_1 := hq30_1.mono hle71
 have hq41_10 := hq41_10.mono hle71
 have hq72_10 : OwnS (Kd.int .i64) (Ml74.minus cq53_1) vq72_10 r67.Ids cq72_10 := hq72_10.any (Kd.int_flat _)
 refine WL.a2 ?_
 refine Pm (.tuple #[(a68_ r67 vq72_10), (GV r68)]) rfl rfl ?_
 refine Pu (a68_ r67 vq72_10) (PO.extract rfl rfl) rfl ?_
 refine Pu (GV r68) (PO.extract rfl rfl) rfl ?_
 refine WL.eff (EO.alloc ze68 rfl) rfl ?_
 rintro _ _ _ - ⟨rfl, g77, rfl, rfl⟩
 refine WL.eff (EO.storeL (v := (a68_ r67 vq72_10)) (vl := (l68 r67 vq72_10)) (arr' := (l68 r67 vq72_10)) rfl sz68 rfl rfl (onesOf (Ones.cons rfl (Ones.cons rfl (Ones.cons rfl (Ones.cons rfl (Ones.cons rfl (Ones.cons rfl (Ones.cons rfl (Ones.cons rfl (Ones.cons rfl (Ones.cons rfl (Ones.cons (OwnS.one hq72_10) (Ones.cons rfl (Ones.cons rfl (Ones.cons rfl (Ones.cons rfl (Ones.cons rfl (Ones.cons rfl (Ones.cons rfl (Ones.cons rfl Ones.nil)))))))))))))))))))) rfl rfl (by kernel_rfl)) rfl ?_
 rintro _ _ _ - ⟨rfl, rfl⟩
 refine Pa (GV r68) rfl rfl ?_
 refine Nt ?_
 obtain ⟨x78, hj79, h⟩ := bnd h
 refine WC.joinF (fun (x78 : Bool) ρ' M' H' => (Ml74.minus cq53_1).le M' ∧ [(g77, .cells (l68 r67 vq72_10).toArray 68 (0, 0))] :: [(g66, .cells (l72 r56).toArray 72 (0, 0))] :: [(g55, .cells #[(.int .i64 r48.Kind), vq53_1] 40 (0, 0))] :: [(g47, .cells #[(.int .i64 3), (.int .i64 4), (.int .i64 8), (.int .i64 1), (.bool false), (.bool false), (.bool true)] 72 (0, 0))] :: [(g46, .cells (l68 r36 vq41_10).toArray 68 (0, 0))] :: [(g35, .cells #[(.int .i64 r25.Kind), vq30_1] 40 (0, 0))] :: [(g24, .cells #[(.int .i64 3), (.int .i64 4), (.int .i64 5), (.string ⟨#[116]⟩), (.string ⟨#[]⟩), (.string ⟨#[]⟩), (.bool false), (.int .i64 0), (.int .i64 0), (.int .i64 1), (.slice (some ⟨g21, 0, none⟩) 2 2), (.int .i64 0), (.int .i64 0), (.string ⟨#[]⟩), (.int .i64 0), (.int .i64 0), (.int .i64 0), (.bool false), (.bool false)] 68 (0, 0))] :: cq72_10 :: cq53_1 :: cq41_10 :: cq30_1 :: [(g21, .cells #[(.int .i64 2), (.int .i64 5)] 3 (0, 0))] :: F = H' ∧ ρ' 0 = (.bool x78)) x78 ?_ ?_
 have h379 := h
 have h := hj79
 refine WC.region ?_
 refine Pm (GV r26) rfl rfl ?_
 refine Pu (.bool r26.isNil) (PO.errNil Tryd.underlying28 rfl) rfl ?_
 refine Pm (.bool r26.isNil) rfl rfl ?_
 rcases Bool.eq_false_or_eq_true (r26.isNil) with hb80 | hb80
 have h := ite_t hb80 h
 refine On 44 rfl rfl hb80 ?_
 refine Pu (.pointer (some ⟨g35, 0, none⟩)) (PO.fieldAddr fo40_0 rfl rfl) rfl ?_
 refine On 44 rfl rfl hb80 ?_
 refine Pu (.int .i64 r25.Kind) (PO.loadB 9 pl3 rfl rfl rfl) rfl ?_
 refine On 44 rfl rfl hb80 ?_
 refine Pu (.bool (decide (r25.Kind = (16 : Int)))) (PO.eql rfl rfl) rfl ?_
 refine Pu (.bool (decide (r25.Kind = (16 : Int)))) (PO.pickT rfl hb80 rfl) rfl ?_
 refine Pm (.bool (decide (r25.Kind = (16 : Int)))) rfl rfl ?_
 rcases Bool.eq_false_or_eq_true (decide (r25.Kind = (16 : Int))) with hb81 | hb81
 have h := ite_t hb81 h
 refine On 49 rfl rfl hb81 ?_
 refine Pu (.pointer (some ⟨g35, 1, none⟩)) (PO.fieldAddr fo40_1 rfl rfl) rfl ?_
 refine On 49 rfl rfl hb81 ?_
 refine Pu vq30_1 (PO.loadB 9 pl26 rfl rfl rfl) rfl ?_
 refine On 49 rfl rfl hb81 ?_
 refine Pu (.int .i64 (r25.Body.length : Int)) (PO.lenS Tryd.underlying26 rfl hq30_1.len) rfl ?_
 refine On 49 rfl rfl hb81 ?_
 refine Pu (.bool (decide ((r25.Body.length : Int) = (9 : Int)))) (PO.eql rfl rfl) rfl ?_
 refine Pu (.bool (decide ((r25.Body.length : Int) = (9 : Int)))) (PO.pickT rfl hb81 rfl) rfl ?_
 refine Pm (.bool (decide ((r25.Body.length : Int) = (9 : Int)))) rfl rfl ?_
 rcases Bool.eq_false_or_eq_true (decide ((r25.Body.length : Int) = (9 : Int))) with hb82 | hb82
 have h := ite_t hb82 h
 refine On 55 rfl rfl hb82 ?_
 refine Pm (GV r37) rfl rfl ?_
 refine On 55 rfl rfl hb82 ?_
 refine Pu (.bool r37.isNil) (PO.errNil Tryd.underlying28 rfl) rfl ?_
 refine Pu (.bool r37.isNil) (PO.pickT rfl hb82 rfl) rfl ?_
 refine Pm (.bool r37.isNil) rfl rfl ?_
 rcases Bool.eq_false_or_eq_true (r37.isNil) with hb83 | hb83
 have h := ite_t hb83 h
 refine On 59 rfl rfl hb83 ?_
 refine Pu (a68_ r36 vq41_10) (PO.loadBA (cs := (l68 r36 vq41_10)) 6 ag68 sz68 rfl rfl rfl) rfl ?_
 refine On 59 rfl rfl hb83 ?_
 refine Pu (.agg #[(.int .i64 3), (.int .i64 4), (.int .i64 5), (.string ⟨#[116]⟩), (.string ⟨#[]⟩), (.string ⟨#[]⟩), (.bool false), (.int .i64 0), (.int .i64 0), (.int .i64 1), (.slice (some ⟨g21, 0, none⟩) 2 2), (.int .i64 0), (.int .i64 0), (.string ⟨#[]⟩), (.int .i64 0), (.int .i64 0), (.int .i64 0), (.bool false), (.bool false)]) (PO.loadBA (cs := [(.int .i64 3), (.int .i64 4), (.int .i64 5), (.string ⟨#[116]⟩), (.string ⟨#[]⟩), (.string ⟨#[]⟩), (.bool false), (.int .i64 0), (.int .i64 0), (.int .i64 1), (.slice (some ⟨g21, 0, none⟩) 2 2), (.int .i64 0), (.int .i64 0), (.string ⟨#[]⟩), (.int .i64 0), (.int .i64 0), (.int .i64 0), (.bool false), (.bool false)]) 11 ag68 sz68 rfl rfl rfl) rfl ?_
 refine On 59 rfl rfl hb83 ?_
 obtain ⟨r84, hr85, h⟩ := bnd h
 refine WL.f10 ?_
 refine WL.f9 ?_
 refine WL.eff (EO.call2 co34 (Tri.lend fun w0_ H0_ hs0_ => (Tri.lend fun w1_ H1_ hs1_ => (f_ask_Same_ok r36 (⟨(3 : Int), (4 : Int), (5 : Int), (⟨#[116]⟩ : ByteArray), (⟨#[]⟩ : ByteArray), (⟨#[]⟩ : ByteArray), false, (0 : Int), (0 : Int), (1 : Int), [(2 : Int), (5 : Int)], (0 : Int), (0 : Int), (⟨#[]⟩ : ByteArray), (⟨(0 : Int), (0 : Int), (0 : Int), false, false⟩ : T_api_Word)⟩ : T_api_Request) _ _ _ ((hq41_10.rs hs0_).mono (IM.le_add _ _)) ((h23.mono (IM.le_add _ _)).rs hs1_) r84 hr85))) (args2 rfl rfl)) rfl ?_
 rintro _ _ _ hle87 ⟨_, ⟨Ml92, Hl93, hll94, rfl, rfl, ⟨Ml89, Hl90, hll91, rfl, rfl, ⟨rfl, rfl⟩⟩⟩, rfl⟩
 have hq30_1 := hq30_1.mono hle87
 have hq41_10 := hq41_10.mono hle87
 have h23 := h23.mono hle87
 have hq53_1 := hq53_1.mono hle87
 have hq72_10 := hq72_10.mono hle87
 refine WL.a2 ?_
 refine Pu (.bool r84) (PO.pickT rfl hb83 rfl) rfl ?_
 refine Pm (.bool r84) rfl rfl ?_
 rcases Bool.eq_false_or_eq_true (r84) with hb95 | hb95
 have h := ite_t hb95 h
 refine On 64 rfl rfl hb95 ?_
 refine Pu (a68_ r36 vq41_10) (PO.loadBA (cs := (l68 r36 vq41_10)) 8 ag68 sz68 rfl rfl rfl) rfl ?_
 refine On 64 rfl rfl hb95 ?_
 refine Pu (.agg z68_.toArray) (PO.buildL (cl := z68_) ze68 fp68 Parts.nil rfl) rfl ?_
 refine On 64 rfl rfl hb95 ?_
 obtain ⟨r96, hr97, h⟩ := bnd h
 refine WL.eff (EO.call1 co34 (Tri.lend fun w0_ H0_ hs0_ => (f_ask_Same_ok r36 (⟨(0 : Int), (0 : Int), (0 : Int), (⟨#[]⟩ : ByteArray), (⟨#[]⟩ : ByteArray), (⟨#[]⟩ : ByteArray), false, (0 : Int), (0 : Int), (0 : Int), [], (0 : Int), (0 : Int), (⟨#[]⟩ : ByteArray), (⟨(0 : Int), (0 : Int), (0 : Int), false, false⟩ : T_api_Word)⟩ : T_api_Request) _ _ _ (hq41_10.rs hs0_) (RS.nil _ _) r96 hr97)) (args2 rfl rfl)) rfl ?_
 rintro _ _ _ hle99 ⟨_, ⟨Ml101, Hl102, hll103, rfl, rfl, ⟨rfl, rfl⟩⟩, rfl⟩
 have hq30_1 := hq30_1.mono hle99
 have hq41_10 := hq41_10.mono hle99
 have h23 := h23.mono hle99
 have hq53_1 := hq53_1.mono hle99
 have hq72_10 := hq72_10.mono hle99
 refine WL.a1 ?_
 refine On 64 rfl rfl hb95 ?_
 refine Pu (.bool (!r96)) (PO.not rfl) rfl ?_
 refine Pu (.bool (!r96)) (PO.pickT rfl hb95 rfl) rfl ?_
 refine Pm (.bool (!r96)) rfl rfl ?_
 rcases Bool.eq_false_or_eq_true (!r96) with hb104 | hb104
 have h := ite_t hb104 h
 refine On 70 rfl rfl hb104 ?_
 refine Pm (GV r49) rfl rfl ?_
 refine On 70 rfl rfl hb104 ?_
 refine Pu (.bool r49.isNil) (PO.errNil Tryd.underlying28 rfl) rfl ?_
 refine Pu (.bool r49.isNil) (PO.pickT rfl hb104 rfl) rfl ?_
 refine Pm (.bool r49.isNil) rfl rfl ?_
 rcases Bool.eq_false_or_eq_true (r49.isNil) with hb105 | hb105
 have h := ite_t hb105 h
 refine On 74 rfl rfl hb105 ?_
 refine Pu (.pointer (some ⟨g55, 0, none⟩)) (PO.fieldAddr fo40_0 rfl rfl) rfl ?_
 refine On 74 rfl rfl hb105 ?_
 refine Pu (.int .i64 r48.Kind) (PO.loadB 6 pl3 rfl rfl rfl) rfl ?_
 refine On 74 rfl rfl hb105 ?_
 refine Pu (.bool (decide (r48.Kind = (17 : Int)))) (PO.eql rfl rfl) rfl ?_
 refine Pu (.bool (decide (r48.Kind = (17 : Int)))) (PO.pickT rfl hb105 rfl) rfl ?_
 refine Pm (.bool (decide (r48.Kind = (17 : Int)))) rfl rfl ?_
 rcases Bool.eq_false_or_eq_true (decide (r48.Kind = (17 : Int))) with hb106 | hb106
 have h := ite_t hb106 h
 refine On 79 rfl rfl hb106 ?_
 refine Pm (GV r57) rfl rfl ?_
 refine On 79 rfl rfl hb106 ?_
 refine Pu (.bool r57.isNil) (PO.errNil Tryd.underlying28 rfl) rfl ?_
 refine Pu (.bool r57.isNil) (PO.pickT rfl hb106 rfl) rfl ?_
 refine Pm (.bool r57.isNil) rfl rfl ?_
 rcases Bool.eq_false_or_eq_true (r57.isNil) with hb107 | hb107
 have h := ite_t hb107 h
 refine On 83 rfl rfl hb107 ?_
 refine Pu (a72_ r56) (PO.loadBA (cs := (l72 r56)) 5 ag72 sz72 rfl rfl rfl) rfl ?_
 refine On 83 rfl rfl hb107 ?_
 refine Pu (.agg #[(.int .i64 3), (.int .i64 4), (.int .i64 8), (.int .i64 1), (.bool false), (.bool false), (.bool true)]) (PO.loadBA (cs := [(.int .i64 3), (.int .i64 4), (.int .i64 8), (.int .i64 1), (.bool false), (.bool false), (.bool true)]) 7 ag72 sz72 rfl rfl rfl) rfl ?_
 refine On 83 rfl rfl hb107 ?_
 refine Pu (.bool (andL [decide (r56.Client = (3 : Int)), decide (r56.Serial = (4 : Int)), decide (r56.Code = (8 : Int)), decide (r56.Leader = (1 : Int)), andL [r56.Told.Fenced == false, r56.Told.Leaving == false, r56.Told.Stop == true]])) (PO.eqAgg eg72 rfl rfl (run_equal_struct2 Tryd.underlying72 eq72 (EqFs2.cons (by decide) (PartEq.cell pl3 rfl rfl (EqC.int Tryd.underlying3)) (EqFs2.cons (by decide) (PartEq.cell pl3 rfl rfl (EqC.int Tryd.underlying3)) (EqFs2.cons (by decide) (PartEq.cell pl3 rfl rfl (EqC.int Tryd.underlying3)) (EqFs2.cons (by decide) (PartEq.cell pl3 rfl rfl (EqC.int Tryd.underlying3)) (EqFs2.cons (by decide) (PartEq.struct (us := (l70 r56.Told).toArray) (vs := #[(.bool false), (.bool false), (.bool true)]) ag70 sz70 rfl rfl Tryd.underlying70 eq70 (EqFs.cons (by decide) pl4 rfl rfl (EqC.bool Tryd.underlying4) (EqFs.cons (by decide) pl4 rfl rfl (EqC.bool Tryd.underlying4) (EqFs.cons (by decide) pl4 rfl rfl (EqC.bool Tryd.underlying4) EqFs.nil)))) EqFs2.nil))))))) rfl ?_
 refine Pu (.bool (andL [decide (r56.Client = (3 : Int)), decide (r56.Serial = (4 : Int)), decide (r56.Code = (8 : Int)), decide (r56.Leader = (1 : Int)), andL [r56.Told.Fenced == false, r56.Told.Leaving == false, r56.Told.Stop == true]])) (PO.pickT rfl hb107 rfl) rfl ?_
 refine Pm (.bool (andL [decide (r56.Client = (3 : Int)), decide (r56.Serial = (4 : Int)), decide (r56.Code = (8 : Int)), decide (r56.Leader = (1 : Int)), andL [r56.Told.Fenced == false, r56.Told.Leaving == false, r56.Told.Stop == true]])) rfl rfl ?_
 rcases Bool.eq_false_or_eq_true (andL [decide (r56.Client = (3 : Int)), decide (r56.Serial = (4 : Int)), decide (r56.Code = (8 : Int)), decide (r56.Leader = (1 : Int)), andL [r56.Told.Fenced == false, r56.Told.Leaving == false, r56.Told.Stop == true]]) with hb108 | hb108
 have h := ite_t hb108 h
 refine On 88 rfl rfl hb108 ?_
 refine Pm (GV r68) rfl rfl ?_
 refine On 88 rfl rfl hb108 ?_
 obtain ⟨r109, hr110, h⟩ := bnd h
 refine WL.eff (EO.call0 co40 (f_fault_Is_ok r68 (5 : Int) _ r109 hr110) (args2 rfl rfl)) rfl ?_
 rintro _ M111 _ hle112 ⟨_, ⟨rfl, rfl⟩, rfl⟩
 have hq30_1 := hq30_1.mono hle112
 have hq41_10 := hq41_10.mono hle112
 have h23 := h23.mono hle112
 have hq53_1 := hq53_1.mono hle112
 have hq72_10 := hq72_10.mono hle112
 refine WL.a0 ?_
 refine Pu (.bool r109) (PO.pickT rfl hb108 rfl) rfl ?_
 refine Pm (.bool r109) rfl rfl ?_
 rcases Bool.eq_false_or_eq_true (r109) with hb114 | hb114
 have h := ite_t hb114 h
 refine On 92 rfl rfl hb114 ?_
 refine Pu (.agg z68_.toArray) (PO.buildL (cl := z68_) ze68 fp68 Parts.nil rfl) rfl ?_
 refine On 92 rfl rfl hb114 ?_
 obtain ⟨r115, hr116, h⟩ := bnd h
 refine WL.eff (EO.call0 co30 (f_ask_Check_ok (⟨(0 : Int), (0 : Int), (0 : Int), (⟨#[]⟩ : ByteArray), (⟨#[]⟩ : ByteArray), (⟨#[]⟩ : ByteArray), false, (0 : Int), (0 : Int), (0 : Int), [], (0 : Int), (0 : Int), (⟨#[]⟩ : ByteArray), (⟨(0 : Int), (0 : Int), (0 : Int), false, false⟩ : T_api_Word)⟩ : T_api_Request) _ _ (RS.nil _ _) r115 hr116) (args1 rfl)) rfl ?_
 rintro _ M117 _ hle118 ⟨_, ⟨rfl, rfl⟩, rfl⟩
 have hq30_1 := hq30_1.mono hle118
 have hq41_10 := hq41_10.mono hle118
 have h23 := h23.mono hle118
 have hq53_1 := hq53_1.mono hle118
 have hq72_10 := hq72_10.mono hle118
 refine WL.a0 ?_
 refine On 92 rfl rfl hb114 ?_
 obtain ⟨r120, hr121, h⟩ := bnd h
 refine WL.eff (EO.call0 co40 (f_fault_Is_ok r115 (5 : Int) _ r120 hr121) (args2 rfl rfl)) rfl ?_
 rintro _ M122 _ hle123 ⟨_, ⟨rfl, rfl⟩, rfl⟩
 have hq30_1 := hq30_1.mono hle123
 have hq41_10 := hq41_10.mono hle123
 have h23 := h23.mono hle123
 have hq53_1 := hq53_1.mono hle123
 have hq72_10 := hq72_10.mono hle123
 refine WL.a0 ?_
 refine Pu (.bool r120) (PO.pickT rfl hb114 rfl) rfl ?_
 refine Pm (.bool r120) rfl rfl ?_
 rcases Bool.eq_false_or_eq_true (r120) with hb125 | hb125
 have h := ite_t hb125 h
 refine On 97 rfl rfl hb125 ?_
 refine Pu (.agg z72_.toArray) (PO.buildL (cl := z72_) ze72 fp72 Parts.nil rfl) rfl ?_
 refine On 97 rfl rfl hb125 ?_
 obtain ⟨r126, hr127, h⟩ := bnd h
 refine WL.eff (EO.call0 co32 (f_ask_CheckReply_ok (⟨(0 : Int), (0 : Int), (0 : Int), (0 : Int), (⟨false, false, false⟩ : T_api_Told)⟩ : T_api_Reply) _ r126 hr127) (args1 rfl)) rfl ?_
 rintro _ M128 _ hle129 ⟨_, ⟨rfl, rfl⟩, rfl⟩
 have hq30_1 := hq30_1.mono hle129
 have hq41_10 := hq41_10.mono hle129
 have h23 := h23.mono hle129
 have hq53_1 := hq53_1.mono hle129
 have hq72_10 := hq72_10.mono hle129
 refine WL.a0 ?_
 refine On 97 rfl rfl hb125 ?_
 obtain ⟨r131, hr132, h⟩ := bnd h
 refine WL.eff (EO.call0 co40 (f_fault_Is_ok r126 (2 : Int) _ r131 hr132) (args2 rfl rfl)) rfl ?_
 rintro _ M133 _ hle134 ⟨_, ⟨rfl, rfl⟩, rfl⟩
 have hq30_1 := hq30_1.mono hle134
 have hq41_10 := hq41_10.mono hle134
 have h23 := h23.mono hle134
 have hq53_1 := hq53_1.mono hle134
 have hq72_10 := hq72_10.mono hle134
 refine WL.a0 ?_
 refine Pu (.bool r131) (PO.pickT rfl hb125 rfl) rfl ?_
 refine Pa (.bool r131) rfl rfl ?_
 refine WL.nil ?_
 refine WQ.f1 ?_
 refine WQ.f9 ?_
 refine WQ.f2 ?_
 refine WQ.f4 ?_
 refine WQ.f5 ?_
 refine WQ.f11 ?_
 refine WQ.f11 ?_
 refine WQ.f11 ?_
 refine WQ.f11 ?_
 refine WQ.f11 ?_
 refine WQ.f11 ?_
 refine WQ.f11 ?_
 obtain rfl := Option.some.inj h
 refine WQ.thenJ ?_
 exact ⟨((((((hle87.trans hle99).trans hle112).trans hle118).trans hle123).trans hle129).trans hle134), rfl, rfl⟩
 have h := ite_f hb125 h
 iterate 3 refine Of 97 rfl rfl hb125 rfl ?_
 refine Pu (.bool false) (PO.pickF rfl hb125 rfl) rfl ?_
 refine Pa (.bool false) rfl rfl ?_
 refine WL.nil ?_
 refine WQ.f1 ?_
 refine WQ.f9 ?_
 refine WQ.f2 ?_
 refine WQ.f4 ?_
 refine WQ.f5 ?_
 refine WQ.f11 ?_
 refine WQ.f11 ?_
 refine WQ.f11 ?_
 refine WQ.f11 ?_
 refine WQ.f11 ?_
 refine WQ.f11 ?_
 refine WQ.f11 ?_
 obtain rfl := Option.some.inj h
 refine WQ.thenJ ?_
 exact ⟨((((hle87.trans hle99).trans hle112).trans hle118).trans hle123), rfl, rfl⟩
 have h := ite_f hb114 h
 iterate 3 refine Of 92 rfl rfl hb114 rfl ?_
 refine Pu (.bool false) (PO.pickF rfl hb114 rfl) rfl ?_
 refine Pm (.bool false) rfl rfl ?_
 iterate 3 refine Of 97 rfl rfl rfl rfl ?_
 refine Pu (.bool false) (PO.pickF rfl rfl rfl) rfl ?_
 refine Pa (.bool false) rfl rfl ?_
 refine WL.nil ?_
 refine WQ.f1 ?_
 refine WQ.f9 ?_
 refine WQ.f2 ?_
 refine WQ.f4 ?_
 refine WQ.f5 ?_
 refine WQ.f11 ?_
 refine WQ.f11 ?_
 refine WQ.f11 ?_
 refine WQ.f11 ?_
 refine WQ.f11 ?_
 refine WQ.f11 ?_
 refine WQ.f11 ?_
 obtain rfl := Option.some.inj h
 refine WQ.thenJ ?_
 exact ⟨((hle87.trans hle99).trans hle112), rfl, rfl⟩
 have h := ite_f hb108 h
 iterate 2 refine Of 88 rfl rfl hb108 rfl ?_
 refine Pu (.bool false) (PO.pickF rfl hb108 rfl) rfl ?_
 refine Pm (.bool false) rfl rfl ?_
 iterate 3 refine Of 92 rfl rfl rfl rfl ?_
 refine Pu (.bool false) (PO.pickF rfl rfl rfl) rfl ?_
 refine Pm (.bool false) rfl rfl ?_
 iterate 3 refine Of 97 rfl rfl rfl rfl ?_
 refine Pu (.bool false) (PO.pickF rfl rfl rfl) rfl ?_
 refine Pa (.bool false) rfl rfl ?_
 refine WL.nil ?_
 refine WQ.f1 ?_
 refine WQ.f9 ?_
 refine WQ.f2 ?_
 refine WQ.f4 ?_
 refine WQ.f5 ?_
 refine WQ.f11 ?_
 refine WQ.f11 ?_
 refine WQ.f11 ?_
 refine WQ.f11 ?_
 refine WQ.f11 ?_
 refine WQ.f11 ?_
 refine WQ.f11 ?_
 obtain rfl := Option.some.inj h
 refine WQ.thenJ ?_
 exact ⟨(hle87.trans hle99), rfl, rfl⟩
 have h := ite_f hb107 h
 iterate 3 refine Of 83 rfl rfl hb107 rfl ?_
 refine Pu (.bool false) (PO.pickF rfl hb107 rfl) rfl ?_
 refine Pm (.bool false) rfl rfl ?_
 iterate 2 refine Of 88 rfl rfl rfl rfl ?_
 refine Pu (.bool false) (PO.pickF rfl rfl rfl) rfl ?_
 refine Pm (.bool false) rfl rfl ?_
 iterate 3 refine Of 92 rfl rfl rfl rfl ?_
 refine Pu (.bool false) (PO.pickF rfl rfl rfl) rfl ?_
 refine Pm (.bool false) rfl rfl ?_
 iterate 3 refine Of 97 rfl rfl rfl rfl ?_
 refine Pu (.bool false) (PO.pickF rfl rfl rfl) rfl ?_
 refine Pa (.bool false) rfl rfl ?_
 refine WL.nil ?_
 refine WQ.f1 ?_
 refine WQ.f9 ?_
 refine WQ.f2 ?_
 refine WQ.f4 ?_
 refine WQ.f5 ?_
 refine WQ.f11 ?_
 refine WQ.f11 ?_
 refine WQ.f11 ?_
 refine WQ.f11 ?_
 refine WQ.f11 ?_
 refine WQ.f11 ?_
 refine WQ.f11 ?_
 obtain rfl := Option.some.inj h
 refine WQ.thenJ ?_
 exact ⟨(hle87.trans hle99), rfl, rfl⟩
 have h := ite_f hb106 h
 iterate 2 refine Of 79 rfl rfl hb106 rfl ?_
 refine Pu (.bool false) (PO.pickF rfl hb106 rfl) rfl ?_
 refine Pm (.bool false) rfl rfl ?_
 iterate 3 refine Of 83 rfl rfl rfl rfl ?_
 refine Pu (.bool false) (PO.pickF rfl rfl rfl) rfl ?_
 refine Pm (.bool false) rfl rfl ?_
 iterate 2 refine Of 88 rfl rfl rfl rfl ?_
 refine Pu (.bool false) (PO.pickF rfl rfl rfl) rfl ?_
 refine Pm (.bool false) rfl rfl ?_
 iterate 3 refine Of 92 rfl rfl rfl rfl ?_
 refine Pu (.bool false) (PO.pickF rfl rfl rfl) rfl ?_
 refine Pm (.bool false) rfl rfl ?_
 iterate 3 refine Of 97 rfl rfl rfl rfl ?_
 refine Pu (.bool false) (PO.pickF rfl rfl rfl) rfl ?_
 refine Pa (.bool false) rfl rfl ?_
 refine WL.nil ?_
 refine WQ.f1 ?_
 refine WQ.f9 ?_
 refine WQ.f2 ?_
 refine WQ.f4 ?_
 refine WQ.f5 ?_
 refine WQ.f11 ?_
 refine WQ.f11 ?_
 refine WQ.f11 ?_
 refine WQ.f11 ?_
 refine WQ.f11 ?_
 refine WQ.f11 ?_
 refine WQ.f11 ?_
 obtain rfl := Option.some.inj h
 refine WQ.thenJ ?_
 exact ⟨(hle87.trans hle99), rfl, rfl⟩
 have h := ite_f hb105 h
 iterate 3 refine Of 74 rfl rfl hb105 rfl ?_
 refine Pu (.bool false) (PO.pickF rfl hb105 rfl) rfl ?_
 refine Pm (.bool false) rfl rfl ?_
 iterate 2 refine Of 79 rfl rfl rfl rfl ?_
 refine Pu (.bool false) (PO.pickF rfl rfl rfl) rfl ?_
 refine Pm (.bool false) rfl rfl ?_
 iterate 3 refine Of 83 rfl rfl rfl rfl ?_
 refine Pu (.bool false) (PO.pickF rfl rfl rfl) rfl ?_
 refine Pm (.bool false) rfl rfl ?_
 iterate 2 refine Of 88 rfl rfl rfl rfl ?_
 refine Pu (.bool false) (PO.pickF rfl rfl rfl) rfl ?_
 refine Pm (.bool false) rfl rfl ?_
 iterate 3 refine Of 92 rfl rfl rfl rfl ?_
 refine Pu (.bool false) (PO.pickF rfl rfl rfl) rfl ?_
 refine Pm (.bool false) rfl rfl ?_
 iterate 3 refine Of 97 rfl rfl rfl rfl ?_
 refine Pu (.bool false) (PO.pickF rfl rfl rfl) rfl ?_
 refine Pa (.bool false) rfl rfl ?_
 refine WL.nil ?_
 refine WQ.f1 ?_
 refine WQ.f9 ?_
 refine WQ.f2 ?_
 refine WQ.f4 ?_
 refine WQ.f5 ?_
 refine WQ.f11 ?_
 refine WQ.f11 ?_
 refine WQ.f11 ?_
 refine WQ.f11 ?_
 refine WQ.f11 ?_
 refine WQ.f11 ?_
 refine WQ.f11 ?_
 obtain rfl := Option.some.inj h
 refine WQ.thenJ ?_
 exact ⟨(hle87.trans hle99), rfl, rfl⟩
 have h := ite_f hb104 h
 iterate 2 refine Of 70 rfl rfl hb104 rfl ?_
 refine Pu (.bool false) (PO.pickF rfl hb104 rfl) rfl ?_
 refine Pm (.bool false) rfl rfl ?_
 iterate 3 refine Of 74 rfl rfl rfl rfl ?_
 refine Pu (.bool false) (PO.pickF rfl rfl rfl) rfl ?_
 refine Pm (.bool false) rfl rfl ?_
 iterate 2 refine Of 79 rfl rfl rfl rfl ?_
 refine Pu (.bool false) (PO.pickF rfl rfl rfl) rfl ?_
 refine Pm (.bool false) rfl rfl ?_
 iterate 3 refine Of 83 rfl rfl rfl rfl ?_
 refine Pu (.bool false) (PO.pickF rfl rfl rfl) rfl ?_
 refine Pm (.bool false) rfl rfl ?_
 iterate 2 refine Of 88 rfl rfl rfl rfl ?_
 refine Pu (.bool false) (PO.pickF rfl rfl rfl) rfl ?_
 refine Pm (.bool false) rfl rfl ?_
 iterate 3 refine Of 92 rfl rfl rfl rfl ?_
 refine Pu (.bool false) (PO.pickF rfl rfl rfl) rfl ?_
 refine Pm (.bool false) rfl rfl ?_
 iterate 3 refine Of 97 rfl rfl rfl rfl ?_
 refine Pu (.bool false) (PO.pickF rfl rfl rfl) rfl ?_
 refine Pa (.bool false) rfl rfl ?_
 refine WL.nil ?_
 refine WQ.f1 ?_
 refine WQ.f9 ?_
 refine WQ.f2 ?_
 refine WQ.f4 ?_
 refine WQ.f5 ?_
 refine WQ.f11 ?_
 refine WQ.f11 ?_
 refine WQ.f11 ?_
 refine WQ.f11 ?_
 refine WQ.f11 ?_
 refine WQ.f11 ?_
 refine WQ.f11 ?_
 obtain rfl := Option.some.inj h
 refine WQ.thenJ ?_
 exact ⟨(hle87.trans hle99), rfl, rfl⟩
 have h := ite_f hb95 h
 iterate 4 refine Of 64 rfl rfl hb95 rfl ?_
 refine Pu (.bool false) (PO.pickF rfl hb95 rfl) rfl ?_
 refine Pm (.bool false) rfl rfl ?_
 iterate 2 refine Of 70 rfl rfl rfl rfl ?_
 refine Pu (.bool false) (PO.pickF rfl rfl rfl) rfl ?_
 refine Pm (.bool false) rfl rfl ?_
 iterate 3 refine Of 74 rfl rfl rfl rfl ?_
 refine Pu (.bool false) (PO.pickF rfl rfl rfl) rfl ?_
 refine Pm (.bool false) rfl rfl ?_
 iterate 2 refine Of 79 rfl rfl rfl rfl ?_
 refine Pu (.bool false) (PO.pickF rfl rfl rfl) rfl ?_
 refine Pm (.bool false) rfl rfl ?_
 iterate 3 refine Of 83 rfl rfl rfl rfl ?_
 refine Pu (.bool false) (PO.pickF rfl rfl rfl) rfl ?_
 refine Pm (.bool false) rfl rfl ?_
 iterate 2 refine Of 88 rfl rfl rfl rfl ?_
 refine Pu (.bool false) (PO.pickF rfl rfl rfl) rfl ?_
 refine Pm (.bool false) rfl rfl ?_
 iterate 3 refine Of 92 rfl rfl rfl rfl ?_
 refine Pu (.bool false) (PO.pickF rfl rfl rfl) rfl ?_
 refine Pm (.bool false) rfl rfl ?_
 iterate 3 refine Of 97 rfl rfl rfl rfl ?_
 refine Pu (.bool false) (PO.pickF rfl rfl rfl) rfl ?_
 refine Pa (.bool false) rfl rfl ?_
 refine WL.nil ?_
 refine WQ.f1 ?_
 refine WQ.f9 ?_
 refine WQ.f2 ?_
 refine WQ.f4 ?_
 refine WQ.f5 ?_
 refine WQ.f11 ?_
 refine WQ.f11 ?_
 refine WQ.f11 ?_
 refine WQ.f11 ?_
 refine WQ.f11 ?_
 refine WQ.f11 ?_
 refine WQ.f11 ?_
 obtain rfl := Option.some.inj h
 refine WQ.thenJ ?_
 exact ⟨hle87, rfl, rfl⟩
 have h := ite_f hb83 h
 iterate 3 refine Of 59 rfl rfl hb83 rfl ?_
 refine Pu (.bool false) (PO.pickF rfl hb83 rfl) rfl ?_
 refine Pm (.bool false) rfl rfl ?_
 iterate 4 refine Of 64 rfl rfl rfl rfl ?_
 refine Pu (.bool false) (PO.pickF rfl rfl rfl) rfl ?_
 refine Pm (.bool false) rfl rfl ?_
 iterate 2 refine Of 70 rfl rfl rfl rfl ?_
 refine Pu (.bool false) (PO.pickF rfl rfl rfl) rfl ?_
 refine Pm (.bool false) rfl rfl ?_
 iterate 3 refine Of 74 rfl rfl rfl rfl ?_
 refine Pu (.bool false) (PO.pickF rfl rfl rfl) rfl ?_
 refine Pm (.bool false) rfl rfl ?_
 iterate 2 refine Of 79 rfl rfl rfl rfl ?_
 refine Pu (.bool false) (PO.pickF rfl rfl rfl) rfl ?_
 refine Pm (.bool false) rfl rfl ?_
 iterate 3 refine Of 83 rfl rfl rfl rfl ?_
 refine Pu (.bool false) (PO.pickF rfl rfl rfl) rfl ?_
 refine Pm (.bool false) rfl rfl ?_
 iterate 2 refine Of 88 rfl rfl rfl rfl ?_
 refine Pu (.bool false) (PO.pickF rfl rfl rfl) rfl ?_
 refine Pm (.bool false) rfl rfl ?_
 iterate 3 refine Of 92 rfl rfl rfl rfl ?_
 refine Pu (.bool false) (PO.pickF rfl rfl rfl) rfl ?_
 refine Pm (.bool false) rfl rfl ?_
 iterate 3 refine Of 97 rfl rfl rfl rfl ?_
 refine Pu (.bool false) (PO.pickF rfl rfl rfl) rfl ?_
 refine Pa (.bool false) rfl rfl ?_
 refine WL.nil ?_
 refine WQ.f10 ?_
 refine WQ.f8 ?_
 refine WQ.f9 ?_
 refine WQ.f4 ?_
 refine WQ.f5 ?_
 refine WQ.f11 ?_
 refine WQ.f11 ?_
 refine WQ.f11 ?_
 refine WQ.f11 ?_
 refine WQ.f11 ?_
 refine WQ.f11 ?_
 refine WQ.f11 ?_
 obtain rfl := Option.some.inj h
 refine WQ.thenJ ?_
 exact ⟨(IM.le.refl _), rfl, rfl⟩
 have h := ite_f hb82 h
 iterate 2 refine Of 55 rfl rfl hb82 rfl ?_
 refine Pu (.bool false) (PO.pickF rfl hb82 rfl) rfl ?_
 refine Pm (.bool false) rfl rfl ?_
 iterate 3 refine Of 59 rfl rfl rfl rfl ?_
 refine Pu (.bool false) (PO.pickF rfl rfl rfl) rfl ?_
 refine Pm (.bool false) rfl rfl ?_
 iterate 4 refine Of 64 rfl rfl rfl rfl ?_
 refine Pu (.bool false) (PO.pickF rfl rfl rfl) rfl ?_
 refine Pm (.bool false) rfl rfl ?_
 iterate 2 refine Of 70 rfl rfl rfl rfl ?_
 refine Pu (.bool false) (PO.pickF rfl rfl rfl) rfl ?_
 refine Pm (.bool false) rfl rfl ?_
 iterate 3 refine Of 74 rfl rfl rfl rfl ?_
 refine Pu (.bool false) (PO.pickF rfl rfl rfl) rfl ?_
 refine Pm (.bool false) rfl rfl ?_
 iterate 2 refine Of 79 rfl rfl rfl rfl ?_
 refine Pu (.bool false) (PO.pickF rfl rfl rfl) rfl ?_
 refine Pm (.bool false) rfl rfl ?_
 iterate 3 refine Of 83 rfl rfl rfl rfl ?_
 refine Pu (.bool false) (PO.pickF rfl rfl rfl) rfl ?_
 refine Pm (.bool false) rfl rfl ?_
 iterate 2 refine Of 88 rfl rfl rfl rfl ?_
 refine Pu (.bool false) (PO.pickF rfl rfl rfl) rfl ?_
 refine Pm (.bool false) rfl rfl ?_
 iterate 3 refine Of 92 rfl rfl rfl rfl ?_
 refine Pu (.bool false) (PO.pickF rfl rfl rfl) rfl ?_
 refine Pm (.bool false) rfl rfl ?_
 iterate 3 refine Of 97 rfl rfl rfl rfl ?_
 refine Pu (.bool false) (PO.pickF rfl rfl rfl) rfl ?_
 refine Pa (.bool false) rfl rfl ?_
 refine WL.nil ?_
 refine WQ.f10 ?_
 refine WQ.f8 ?_
 refine WQ.f9 ?_
 refine WQ.f4 ?_
 refine WQ.f5 ?_
 refine WQ.f11 ?_
 refine WQ.f11 ?_
 refine WQ.f11 ?_
 refine WQ.f11 ?_
 refine WQ.f11 ?_
 refine WQ.f11 ?_
 refine WQ.f11 ?_
 obtain rfl := Option.some.inj h
 refine WQ.thenJ ?_
 exact ⟨(IM.le.refl _), rfl, rfl⟩
 have h := ite_f hb81 h
 iterate 4 refine Of 49 rfl rfl hb81 rfl ?_
 refine Pu (.bool false) (PO.pickF rfl hb81 rfl) rfl ?_
 refine Pm (.bool false) rfl rfl ?_
 iterate 2 refine Of 55 rfl rfl rfl rfl ?_
 refine Pu (.bool false) (PO.pickF rfl rfl rfl) rfl ?_
 refine Pm (.bool false) rfl rfl ?_
 iterate 3 refine Of 59 rfl rfl rfl rfl ?_
 refine Pu (.bool false) (PO.pickF rfl rfl rfl) rfl ?_
 refine Pm (.bool false) rfl rfl ?_
 iterate 4 refine Of 64 rfl rfl rfl rfl ?_
 refine Pu (.bool false) (PO.pickF rfl rfl rfl) rfl ?_
 refine Pm (.bool false) rfl rfl ?_
 iterate 2 refine Of 70 rfl rfl rfl rfl ?_
 refine Pu (.bool false) (PO.pickF rfl rfl rfl) rfl ?_
 refine Pm (.bool false) rfl rfl ?_
 iterate 3 refine Of 74 rfl rfl rfl rfl ?_
 refine Pu (.bool false) (PO.pickF rfl rfl rfl) rfl ?_
 refine Pm (.bool false) rfl rfl ?_
 iterate 2 refine Of 79 rfl rfl rfl rfl ?_
 refine Pu (.bool false) (PO.pickF rfl rfl rfl) rfl ?_
 refine Pm (.bool false) rfl rfl ?_
 iterate 3 refine Of 83 rfl rfl rfl rfl ?_
 refine Pu (.bool false) (PO.pickF rfl rfl rfl) rfl ?_
 refine Pm (.bool false) rfl rfl ?_
 iterate 2 refine Of 88 rfl rfl rfl rfl ?_
 refine Pu (.bool false) (PO.pickF rfl rfl rfl) rfl ?_
 refine Pm (.bool false) rfl rfl ?_
 iterate 3 refine Of 92 rfl rfl rfl rfl ?_
 refine Pu (.bool false) (PO.pickF rfl rfl rfl) rfl ?_
 refine Pm (.bool false) rfl rfl ?_
 iterate 3 refine Of 97 rfl rfl rfl rfl ?_
 refine Pu (.bool false) (PO.pickF rfl rfl rfl) rfl ?_
 refine Pa (.bool false) rfl rfl ?_
 refine WL.nil ?_
 refine WQ.f10 ?_
 refine WQ.f8 ?_
 refine WQ.f9 ?_
 refine WQ.f4 ?_
 refine WQ.f5 ?_
 refine WQ.f11 ?_
 refine WQ.f11 ?_
 refine WQ.f11 ?_
 refine WQ.f11 ?_
 refine WQ.f11 ?_
 refine WQ.f11 ?_
 refine WQ.f11 ?_
 obtain rfl := Option.some.inj h
 refine WQ.thenJ ?_
 exact ⟨(IM.le.refl _), rfl, rfl⟩
 have h := ite_f hb80 h
 iterate 3 refine Of 44 rfl rfl hb80 rfl ?_
 refine Pu (.bool false) (PO.pickF rfl hb80 rfl) rfl ?_
 refine Pm (.bool false) rfl rfl ?_
 iterate 4 refine Of 49 rfl rfl rfl rfl ?_
 refine Pu (.bool false) (PO.pickF rfl rfl rfl) rfl ?_
 refine Pm (.bool false) rfl rfl ?_
 iterate 2 refine Of 55 rfl rfl rfl rfl ?_
 refine Pu (.bool false) (PO.pickF rfl rfl rfl) rfl ?_
 refine Pm (.bool false) rfl rfl ?_
 iterate 3 refine Of 59 rfl rfl rfl rfl ?_
 refine Pu (.bool false) (PO.pickF rfl rfl rfl) rfl ?_
 refine Pm (.bool false) rfl rfl ?_
 iterate 4 refine Of 64 rfl rfl rfl rfl ?_
 refine Pu (.bool false) (PO.pickF rfl rfl rfl) rfl ?_
 refine Pm (.bool false) rfl rfl ?_
 iterate 2 refine Of 70 rfl rfl rfl rfl ?_
 refine Pu (.bool false) (PO.pickF rfl rfl rfl) rfl ?_
 refine Pm (.bool false) rfl rfl ?_
 iterate 3 refine Of 74 rfl rfl rfl rfl ?_
 refine Pu (.bool false) (PO.pickF rfl rfl rfl) rfl ?_
 refine Pm (.bool false) rfl rfl ?_
 iterate 2 refine Of 79 rfl rfl rfl rfl ?_
 refine Pu (.bool false) (PO.pickF rfl rfl rfl) rfl ?_
 refine Pm (.bool false) rfl rfl ?_
 iterate 3 refine Of 83 rfl rfl rfl rfl ?_
 refine Pu (.bool false) (PO.pickF rfl rfl rfl) rfl ?_
 refine Pm (.bool false) rfl rfl ?_
 iterate 2 refine Of 88 rfl rfl rfl rfl ?_
 refine Pu (.bool false) (PO.pickF rfl rfl rfl) rfl ?_
 refine Pm (.bool false) rfl rfl ?_
 iterate 3 refine Of 92 rfl rfl rfl rfl ?_
 refine Pu (.bool false) (PO.pickF rfl rfl rfl) rfl ?_
 refine Pm (.bool false) rfl rfl ?_
 iterate 3 refine Of 97 rfl rfl rfl rfl ?_
 refine Pu (.bool false) (PO.pickF rfl rfl rfl) rfl ?_
 refine Pa (.bool false) rfl rfl ?_
 refine WL.nil ?_
 refine WQ.f10 ?_
 refine WQ.f8 ?_
 refine WQ.f9 ?_
 refine WQ.f4 ?_
 refine WQ.f5 ?_
 refine WQ.f11 ?_
 refine WQ.f11 ?_
 refine WQ.f11 ?_
 refine WQ.f11 ?_
 refine WQ.f11 ?_
 refine WQ.f11 ?_
 refine WQ.f11 ?_
 obtain rfl := Option.some.inj h
 refine WQ.thenJ ?_
 exact ⟨(IM.le.refl _), rfl, rfl⟩
 rintro ρ79 M79 H79 ⟨hle79, rfl, hs79_0⟩
 have hq72_10 := hq72_10.mono hle79
 have hq53_1 := hq53_1.mono hle79
 have hq41_10 := hq41_10.mono hle79
 have hq30_1 := hq30_1.mono hle79
 have h23 := h23.mono hle79
 refine WC.ret ?_
 refine WQ.drop ?_
 refine WQ.drop ?_
 refine WQ.drop ?_
 refine WQ.drop ?_
 refine WQ.drop ?_
 refine WQ.drop ?_
 refine WQ.drop ?_
 refine WQ.drop ?_
 refine WQ.drop ?_
 refine WQ.drop ?_
 refine WQ.drop ?_
 refine WQ.drop ?_
 exact WQ.returnsF h [] rfl (results1 rfl hs79_0) (((((hle29.trans hle40).trans hle52).trans hle60).trans hle71).trans hle79) ⟨rfl, rfl⟩

noncomputable def f_ref22_letters (a0 : Int) : Option ByteArray :=
  (if (decide (a0 = (1 : Int))) = true then (some (⟨#[110, 113, 114]⟩ : ByteArray)) else (if (decide (a0 = (2 : Int))) = true then (some (⟨#[110]⟩ : ByteArray)) else (if (decide (a0 = (3 : Int))) = true then (some (⟨#[110, 113]⟩ : ByteArray)) else (if (decide (a0 = (4 : Int))) = true then (some (⟨#[110, 107]⟩ : ByteArray)) else (if (decide (a0 = (5 : Int))) = true then (some (⟨#[110, 112, 105]⟩ : ByteArray)) else (((if (decide (a0 = (6 : Int))) = true then (some (decide (a0 = (6 : Int)))) else (some (decide (a0 = (7 : Int))))) : Option Bool).bind fun (x26 : Bool) => (if x26 = true then (some (⟨#[110, 112]⟩ : ByteArray)) else (if (decide (a0 = (8 : Int))) = true then (some (⟨#[98]⟩ : ByteArray)) else (if (decide (a0 = (9 : Int))) = true then (some (⟨#[98, 101, 99]⟩ : ByteArray)) else (if (decide (a0 = (10 : Int))) = true then (some (⟨#[119]⟩ : ByteArray)) else (if (decide (a0 = (11 : Int))) = true then (some (⟨#[110, 112, 105, 98, 101]⟩ : ByteArray)) else (some (⟨#[]⟩ : ByteArray)))))))))))))
def f_ref22_letters_post (a0 : Int) : ByteArray → Value → IM → HL → Prop :=
  fun (r0 : ByteArray) (v : Value) (M' : IM) (H' : HL) => (.string r0) = v ∧ H' = []
set_option maxHeartbeats 8000000 in
set_option maxRecDepth 100000 in
theorem f_ref22_letters_ok (a0 : Int) (M : IM) (res : ByteArray) (h : f_ref22_letters a0 = some res) :
    Tri Tryd.prog 60 #[(.int .i64 a0)] M [] (f_ref22_letters_post a0 res) := by
 unfold f_ref22_letters at h
 refine Tri.enter (fn := Tryd.f60) Tryd.func60 rfl (Nat.le_of_ble_eq_true rfl) ?_
 intro F ρ hρ
 refine Sr ?_
 refine Pa (.string ⟨#[]⟩) rfl rfl ?_
 refine Nt ?_
 refine WC.seq ?_
 refine Sr ?_
 refine Pm (.int .i64 a0) (hρ 0) rfl ?_
 refine Nt ?_
 refine WC.block ?_
 refine Sr ?_
 refine Pu (.bool (decide (a0 = (1 : Int)))) (PO.eql rfl rfl) rfl ?_
 refine Pa (.bool (decide (a0 = (1 : Int)))) rfl rfl ?_
 refine Nt ?_
 refine WC.cond (b := decide (a0 = (1 : Int))) rfl (fun hb21 => ?_) (fun hb21 => ?_)
 have h := ite_t hb21 h
 refine Sr ?_
 refine Pa (.string ⟨#[110, 113, 114]⟩) rfl rfl ?_
 refine Nt ?_
 refine WC.ret ?_
 refine WQ.blockR ?_
 refine WQ.thenR ?_
 exact WQ.returnsF h [] rfl (results1 rfl rfl) (IM.le.refl _) ⟨rfl, rfl⟩
 have h := ite_f hb21 h
 refine Sr ?_
 refine Pu (.bool (decide (a0 = (2 : Int)))) (PO.eql rfl rfl) rfl ?_
 refine Pa (.bool (decide (a0 = (2 : Int)))) rfl rfl ?_
 refine Nt ?_
 refine WC.cond (b := decide (a0 = (2 : Int))) rfl (fun hb22 => ?_) (fun hb22 => ?_)
 have h := ite_t hb22 h
 refine Sr ?_
 refine Pa (.string ⟨#[110]⟩) rfl rfl ?_
 refine Nt ?_
 refine WC.ret ?_
 refine WQ.blockR ?_
 refine WQ.thenR ?_
 exact WQ.returnsF h [] rfl (results1 rfl rfl) (IM.le.refl _) ⟨rfl, rfl⟩
 have h := ite_f hb22 h
 refine Sr ?_
 refine Pu (.bool (decide (a0 = (3 : Int)))) (PO.eql rfl rfl) rfl ?_
 refine Pa (.bool (decide (a0 = (3 : Int)))) rfl rfl ?_
 refine Nt ?_
 refine WC.cond (b := decide (a0 = (3 : Int))) rfl (fun hb23 => ?_) (fun hb23 => ?_)
 have h := ite_t hb23 h
 refine Sr ?_
 refine Pa (.string ⟨#[110, 113]⟩) rfl rfl ?_
 refine Nt ?_
 refine WC.ret ?_
 refine WQ.blockR ?_
 refine WQ.thenR ?_
 exact WQ.returnsF h [] rfl (results1 rfl rfl) (IM.le.refl _) ⟨rfl, rfl⟩
 have h := ite_f hb23 h
 refine Sr ?_
 refine Pu (.bool (decide (a0 = (4 : Int)))) (PO.eql rfl rfl) rfl ?_
 refine Pa (.bool (decide (a0 = (4 : Int)))) rfl rfl ?_
 refine Nt ?_
 refine WC.cond (b := decide (a0 = (4 : Int))) rfl (fun hb24 => ?_) (fun hb24 => ?_)
 have h := ite_t hb24 h
 refine Sr ?_
 refine Pa (.string ⟨#[110, 107]⟩) rfl rfl ?_
 refine Nt ?_
 refine WC.ret ?_
 refine WQ.blockR ?_
 refine WQ.thenR ?_
 exact WQ.returnsF h [] rfl (results1 rfl rfl) (IM.le.refl _) ⟨rfl, rfl⟩
 have h := ite_f hb24 h
 refine Sr ?_
 refine Pu (.bool (decide (a0 = (5 : Int)))) (PO.eql rfl rfl) rfl ?_
 refine Pa (.bool (decide (a0 = (5 : Int)))) rfl rfl ?_
 refine Nt ?_
 refine WC.cond (b := decide (a0 = (5 : Int))) rfl (fun hb25 => ?_) (fun hb25 => ?_)
 have h := ite_t hb25 h
 refine Sr ?_
 refine Pa (.string ⟨#[110, 112, 105]⟩) rfl rfl ?_
 refine Nt ?_
 refine WC.ret ?_
 refine WQ.blockR ?_
 refine WQ.thenR ?_
 exact WQ.returnsF h [] rfl (results1 rfl rfl) (IM.le.refl _) ⟨rfl, rfl⟩
 have h := ite_f hb25 h
 obtain ⟨x26, hj27, h⟩ := bnd h
 refine WC.joinF (fun (x26 : Bool) ρ' M' H' => M.le M' ∧ F = H' ∧ ρ' 3 = (.int .i64 a0) ∧ ρ' 14 = (.bool x26)) x26 ?_ ?_
 have h327 := h
 have h := hj27
 refine Sr ?_
 refine Pu (.bool (decide (a0 = (6 : Int)))) (PO.eql rfl rfl) rfl ?_
 refine Pa (.bool (decide (a0 = (6 : Int)))) rfl rfl ?_
 refine Nt ?_
 refine WC.cond (b := decide (a0 = (6 : Int))) rfl (fun hb28 => ?_) (fun hb28 => ?_)
 have h := ite_t hb28 h
 refine WC.skip ?_
 obtain rfl := Option.some.inj h
 refine WQ.thenJ ?_
 exact ⟨(IM.le.refl _), rfl, rfl, rfl⟩
 have h := ite_f hb28 h
 refine WC.region ?_
 refine Pu (.bool (decide (a0 = (7 : Int)))) (PO.eql rfl rfl) rfl ?_
 refine Pa (.bool (decide (a0 = (7 : Int)))) rfl rfl ?_
 refine WL.nil ?_
 obtain rfl := Option.some.inj h
 refine WQ.thenJ ?_
 exact ⟨(IM.le.refl _), rfl, rfl, rfl⟩
 rintro ρ27 M27 H27 ⟨hle27, rfl, hs27_3, hs27_14⟩
 refine WC.cond (b := x26) hs27_14 (fun hb29 => ?_) (fun hb29 => ?_)
 have h := ite_t hb29 h
 refine Sr ?_
 refine Pa (.string ⟨#[110, 112]⟩) rfl rfl ?_
 refine Nt ?_
 refine WC.ret ?_
 refine WQ.blockR ?_
 refine WQ.thenR ?_
 exact WQ.returnsF h [] rfl (results1 rfl rfl) hle27 ⟨rfl, rfl⟩
 have h := ite_f hb29 h
 refine Sr ?_
 refine Pu (.bool (decide (a0 = (8 : Int)))) (PO.eql hs27_3 rfl) rfl ?_
 refine Pa (.bool (decide (a0 = (8 : Int)))) rfl rfl ?_
 refine Nt ?_
 refine WC.cond (b := decide (a0 = (8 : Int))) rfl (fun hb30 => ?_) (fun hb30 => ?_)
 have h := ite_t hb30 h
 refine Sr ?_
 refine Pa (.string ⟨#[98]⟩) rfl rfl ?_
 refine Nt ?_
 refine WC.ret ?_
 refine WQ.blockR ?_
 refine WQ.thenR ?_
 exact WQ.returnsF h [] rfl (results1 rfl rfl) hle27 ⟨rfl, rfl⟩
 have h := ite_f hb30 h
 refine Sr ?_
 refine Pu (.bool (decide (a0 = (9 : Int)))) (PO.eql hs27_3 rfl) rfl ?_
 refine Pa (.bool (decide (a0 = (9 : Int)))) rfl rfl ?_
 refine Nt ?_
 refine WC.cond (b := decide (a0 = (9 : Int))) rfl (fun hb31 => ?_) (fun hb31 => ?_)
 have h := ite_t hb31 h
 refine Sr ?_
 refine Pa (.string ⟨#[98, 101, 99]⟩) rfl rfl ?_
 refine Nt ?_
 refine WC.ret ?_
 refine WQ.blockR ?_
 refine WQ.thenR ?_
 exact WQ.returnsF h [] rfl (results1 rfl rfl) hle27 ⟨rfl, rfl⟩
 have h := ite_f hb31 h
 refine Sr ?_
 refine Pu (.bool (decide (a0 = (10 : Int)))) (PO.eql hs27_3 rfl) rfl ?_
 refine Pa (.bool (decide (a0 = (10 : Int)))) rfl rfl ?_
 refine Nt ?_
 refine WC.cond (b := decide (a0 = (10 : Int))) rfl (fun hb32 => ?_) (fun hb32 => ?_)
 have h := ite_t hb32 h
 refine Sr ?_
 refine Pa (.string ⟨#[119]⟩) rfl rfl ?_
 refine Nt ?_
 refine WC.ret ?_
 refine WQ.blockR ?_
 refine WQ.thenR ?_
 exact WQ.returnsF h [] rfl (results1 rfl rfl) hle27 ⟨rfl, rfl⟩
 have h := ite_f hb32 h
 refine Sr ?_
 refine Pu (.bool (decide (a0 = (11 : Int)))) (PO.eql hs27_3 rfl) rfl ?_
 refine Pa (.bool (decide (a0 = (11 : Int)))) rfl rfl ?_
 refine Nt ?_
 refine WC.cond (b := decide (a0 = (11 : Int))) rfl (fun hb33 => ?_) (fun hb33 => ?_)
 have h := ite_t hb33 h
 refine Sr ?_
 refine Pa (.string ⟨#[110, 112, 105, 98, 101]⟩) rfl rfl ?_
 refine Nt ?_
 refine WC.ret ?_
 refine WQ.blockR ?_
 refine WQ.thenR ?_
 exact WQ.returnsF h [] rfl (results1 rfl rfl) hle27 ⟨rfl, rfl⟩
 have h := ite_f hb33 h
 refine WC.skip ?_
 refine WQ.blockN ?_
 refine WQ.thenC ?_
 refine Sr ?_
 refine Pa (.string ⟨#[]⟩) rfl rfl ?_
 refine Nt ?_
 refine WC.ret ?_
 exact WQ.returnsF h [] rfl (results1 rfl rfl) hle27 ⟨rfl, rfl⟩

noncomputable def f_ref22_has_l0 (a1 : Int) (r21 : ByteArray) (s_ : Int) : Option (Int ⊕ (Unit ⊕ Unit)) :=
  match s_ with
  | x28 =>
    (if (decide (x28 < (r21.size : Int))) = true then (grd (0 ≤ x28 ∧ x28 < r21.size) (if (decide ((btAt r21 x28) = a1)) = true then (some (Sum.inr (Sum.inr ()))) else (some (Sum.inl (IntKind.i64.wrap (x28 + (1 : Int))))))) else (some (Sum.inr (Sum.inl ()))))
noncomputable def f_ref22_has (a0 : Int) (a1 : Int) : Option Bool :=
  ((f_ref22_letters a0).bind fun (r21 : ByteArray) => ((((iter (f_ref22_has_l0 a1 r21) (0 : Int)).bind (Sum.elim (fun _ => (some (Sum.inl ()))) (fun _ => (((some true)).bind fun r => some (Sum.inr r))))) : Option (Unit ⊕ Bool)).bind (Sum.elim (fun _ => (some false)) some)))
def f_ref22_has_post (a0 : Int) (a1 : Int) : Bool → Value → IM → HL → Prop :=
  fun (r0 : Bool) (v : Value) (M' : IM) (H' : HL) => (.bool r0) = v ∧ H' = []
set_option maxHeartbeats 8000000 in
set_option maxRecDepth 100000 in
theorem f_ref22_has_ok (a0 : Int) (a1 : Int) (M : IM) (res : Bool) (h : f_ref22_has a0 a1 = some res) :
    Tri Tryd.prog 62 #[(.int .i64 a0), (.int .u8 a1)] M [] (f_ref22_has_post a0 a1 res) := by
 unfold f_ref22_has at h
 refine Tri.enter (fn := Tryd.f62) Tryd.func62 rfl (Nat.le_of_ble_eq_true rfl) ?_
 intro F ρ hρ
 refine Sr ?_
 refine Pa (.bool false) rfl rfl ?_
 refine Ns ?_
 refine Pm (.int .i64 a0) (hρ 0) rfl ?_
 obtain ⟨r21, hr22, h⟩ := bnd h
 refine WL.eff (EO.call0 co60 (f_ref22_letters_ok a0 _ r21 hr22) (args1 rfl)) rfl ?_
 rintro _ M23 _ hle24 ⟨_, ⟨rfl, rfl⟩, rfl⟩
 refine WL.a0 ?_
 refine Pa (.string r21) rfl rfl ?_
 refine Nt ?_
 obtain ⟨j26, hj26, h⟩ := bnd h
 refine WC.joinE (fun (_ : Unit) ρ' M' H' => M23.le M' ∧ F = H') j26 ?_ ?_
 have h326 := h
 have h := hj26
 refine Sr ?_
 refine Pa (.int .i64 0) rfl rfl ?_
 refine Nt ?_
 refine WC.block ?_
 obtain ⟨e27, he27, hK27⟩ := bnd h
 clear h
 refine WC.loop he27 (fun (x28 : Int) ρ' M' H' => M23.le M' ∧ F = H' ∧ ρ' 1 = (.int .u8 a1) ∧ ρ' 5 = (.string r21) ∧ ρ' 6 = (.int .i64 x28)) ?_ ?_
 exact ⟨(IM.le.refl _), rfl, (hρ 1), rfl, rfl⟩
 rintro x28 o27 ρ27 M27 H27 h ⟨hle27, rfl, hs27_1, hs27_5, hs27_6⟩
 unfold f_ref22_has_l0 at h
 refine WC.seq ?_
 refine Sr ?_
 refine Pm (.int .i64 x28) hs27_6 rfl ?_
 refine Pm (.string r21) hs27_5 rfl ?_
 refine Pu (.int .i64 (r21.size : Int)) (PO.lenStr Tryd.underlying9 rfl) rfl ?_
 refine Pu (.bool (decide (x28 < (r21.size : Int)))) (PO.lss rfl rfl) rfl ?_
 refine Nt ?_
 refine WC.cond (b := decide (x28 < (r21.size : Int))) rfl (fun hb29 => ?_) (fun hb29 => ?_)
 have h := ite_t hb29 h
 refine WC.skip ?_
 refine WQ.thenC ?_
 refine WC.seq ?_
 refine WC.block ?_
 refine Sr ?_
 refine Pm (.string r21) hs27_5 rfl ?_
 refine Pm (.int .i64 x28) hs27_6 rfl ?_
 obtain ⟨hg30, h⟩ := grd_i h
 refine Pu (.int .u8 (btAt r21 x28)) (PO.indexStr Tryd.underlying9 rfl rfl hg30.1 (strAt hg30)) rfl ?_
 refine Pm (.int .u8 a1) hs27_1 rfl ?_
 refine Pu (.bool (decide ((btAt r21 x28) = a1))) (PO.eql rfl rfl) rfl ?_
 refine Nt ?_
 refine WC.cond (b := decide ((btAt r21 x28) = a1)) rfl (fun hb32 => ?_) (fun hb32 => ?_)
 have h := ite_t hb32 h
 refine Sr ?_
 refine Pa (.bool true) rfl rfl ?_
 refine Nt ?_
 refine WC.ret ?_
 refine WQ.blockR ?_
 refine WQ.thenR ?_
 refine WQ.leaveR (Sum.inr ()) (Option.some.inj h).symm (fun heq27 => ?_)
 subst heq27
 have h := (elimR hK27)
 refine WQ.blockR ?_
 refine WQ.thenR ?_
 have h := KK.early h h326
 exact WQ.returnsF h [] rfl (results1 rfl rfl) (hle24.trans hle27) ⟨rfl, rfl⟩
 have h := ite_f hb32 h
 refine WC.skip ?_
 refine WQ.blockN ?_
 refine WQ.thenC ?_
 refine WC.region ?_
 refine Pm (.int .i64 x28) hs27_6 rfl ?_
 refine Pu (.int .i64 (IntKind.i64.wrap (x28 + (1 : Int)))) (PO.add rfl rfl) rfl ?_
 refine Pa (.int .i64 (IntKind.i64.wrap (x28 + (1 : Int)))) rfl rfl ?_
 refine WL.nil ?_
 refine WQ.again (IntKind.i64.wrap (x28 + (1 : Int))) (Option.some.inj h).symm ?_
 exact ⟨hle27, rfl, hs27_1, hs27_5, rfl⟩
 have h := ite_f hb29 h
 refine WC.exit ?_
 refine WQ.thenE ?_
 refine WQ.leaveE (Sum.inl ()) (Option.some.inj h).symm (fun heq27 => ?_)
 subst heq27
 have h := elimL hK27
 refine WQ.blockH ?_
 refine WQ.thenFE h ?_
 exact ⟨hle27, rfl⟩
 rintro _ ρ26 M26 H26 rfl ⟨hle26, rfl⟩
 refine Sr ?_
 refine Pa (.bool false) rfl rfl ?_
 refine Nt ?_
 refine WC.ret ?_
 exact WQ.returnsF h [] rfl (results1 rfl rfl) (hle24.trans hle26) ⟨rfl, rfl⟩

noncomputable def f_ref22_txt (a0 : ByteArray) (a1 : Bool) (a2 : Int) : Option Bool :=
  (if a1 = true then (some (decide ((a0.size : Int) ≤ a2))) else (some (decide (a0 = (⟨#[]⟩ : ByteArray)))))
def f_ref22_txt_post (a0 : ByteArray) (a1 : Bool) (a2 : Int) : Bool → Value → IM → HL → Prop :=
  fun (r0 : Bool) (v : Value) (M' : IM) (H' : HL) => (.bool r0) = v ∧ H' = []
set_option maxHeartbeats 8000000 in
set_option maxRecDepth 100000 in
theorem f_ref22_txt_ok (a0 : ByteArray) (a1 : Bool) (a2 : Int) (M : IM) (res : Bool) (h : f_ref22_txt a0 a1 a2 = some res) :
    Tri Tryd.prog 61 #[(.string a0), (.bool a1), (.int .i64 a2)] M [] (f_ref22_txt_post a0 a1 a2 res) := by
 unfold f_ref22_txt at h
 refine Tri.enter (fn := Tryd.f61) Tryd.func61 rfl (Nat.le_of_ble_eq_true rfl) ?_
 intro F ρ hρ
 refine Sr ?_
 refine Pa (.bool false) rfl rfl ?_
 refine Nt ?_
 refine WC.seq ?_
 refine Sr ?_
 refine Pm (.bool a1) (hρ 1) rfl ?_
 refine Nt ?_
 refine WC.cond (b := a1) rfl (fun hb21 => ?_) (fun hb21 => ?_)
 have h := ite_t hb21 h
 refine Sr ?_
 refine Pm (.string a0) (hρ 0) rfl ?_
 refine Pu (.int .i64 (a0.size : Int)) (PO.lenStr Tryd.underlying9 rfl) rfl ?_
 refine Pm (.int .i64 a2) (hρ 2) rfl ?_
 refine Pu (.bool (decide ((a0.size : Int) ≤ a2))) (PO.leq rfl rfl) rfl ?_
 refine Pa (.bool (decide ((a0.size : Int) ≤ a2))) rfl rfl ?_
 refine Nt ?_
 refine WC.ret ?_
 refine WQ.thenR ?_
 exact WQ.returnsF h [] rfl (results1 rfl rfl) (IM.le.refl _) ⟨rfl, rfl⟩
 have h := ite_f hb21 h
 refine WC.skip ?_
 refine WQ.thenC ?_
 refine Sr ?_
 refine Pm (.string a0) (hρ 0) rfl ?_
 refine Pu (.bool (decide (a0 = (⟨#[]⟩ : ByteArray)))) (PO.seql rfl rfl) rfl ?_
 refine Pa (.bool (decide (a0 = (⟨#[]⟩ : ByteArray)))) rfl rfl ?_
 refine Nt ?_
 refine WC.ret ?_
 exact WQ.returnsF h [] rfl (results1 rfl rfl) (IM.le.refl _) ⟨rfl, rfl⟩


end Go.Proofs.YtjgnbbakamellaaDoor.G
