/- Go functions: what they come to, and that they do. Printed by a program of the session (gen). -/
import Derived.Test.YtjgnbbakamellaaGreatDoorBF
import Derived.Test.YtjgnbbakamellaaGreatDoorB18
import Derived.Test.YtjgnbbakamellaaGreatDoorKConv
import Derived.Test.YtjgnbbakamellaaGreatDoorKEq2
set_option linter.unusedVariables false
set_option linter.unusedSimpArgs false
set_option maxHeartbeats 8000000
set_option maxRecDepth 100000
namespace Go.Proofs.YtjgnbbakamellaaGreatDoor.G
open Go Go.KK

noncomputable def f_law22_AskReads (a0 : Int) (a1 : (List Int)) : Option Bool :=
  (if (decide ((1000 : Int) < (a1.length : Int))) = true then ((f_law22_works).bind fun (r22 : Bool) => (some r22)) else ((f_ask_Read (⟨a0, a1⟩ : T_api_Frame)).bind fun (r27, r28) => ((f_ref22_Read (⟨a0, a1⟩ : T_api_Frame)).bind fun (r35, r36) => ((f_ask_ReadReply (⟨a0, a1⟩ : T_api_Frame)).bind fun (r44, r45) => ((f_ref22_ReadReply (⟨a0, a1⟩ : T_api_Frame)).bind fun (r52, r53) => ((((f_law22_wrong r28 r36).bind fun (r63 : Bool) => (if r63 = true then ((f_ref22_Same r35 r27).bind fun (r69 : Bool) => (if r69 = true then ((f_law22_wrong r45 r53).bind fun (r81 : Bool) => (if r81 = true then (if (andL [decide (r44.Client = r52.Client), decide (r44.Serial = r52.Serial), decide (r44.Code = r52.Code), decide (r44.Leader = r52.Leader), andL [r44.Told.Fenced == r52.Told.Fenced, r44.Told.Leaving == r52.Told.Leaving, r44.Told.Stop == r52.Told.Stop]]) = true then ((f_law22_works).bind fun (r88 : Bool) => (some r88)) else (some false)) else (some false))) else (some false))) else (some false))) : Option Bool).bind fun (x61 : Bool) => (some x61)))))))
def f_law22_AskReads_post (a0 : Int) (a1 : (List Int)) (v1 : Value) : Bool → Value → IM → HL → Prop :=
  fun (r0 : Bool) (v : Value) (M' : IM) (H' : HL) => (.bool r0) = v ∧ H' = []
theorem f_law22_AskReads_ok (a0 : Int) (a1 : (List Int)) (M : IM) (v1 : Value) (h1 : RS (Kd.int .u8) M v1 a1) (hE : Env M) (res : Bool) (h : f_law22_AskReads a0 a1 = some res) :
    Tri Tryz.prog 3 #[(.int .i64 a0), v1] M [] (f_law22_AskReads_post a0 a1 v1 res) := by
 unfold f_law22_AskReads at h
 refine Tri.enter (fn := Tryz.f3) Tryz.func3 rfl (Nat.le_of_ble_eq_true rfl) ?_
 intro F ρ hρ
 refine Sr ?_
 refine Pa (.bool false) rfl rfl ?_
 refine Nt ?_
 refine WC.seq ?_
 refine Sr ?_
 refine Pm v1 (hρ 1) rfl ?_
 refine Pu (.int .i64 (a1.length : Int)) (PO.lenS Tryz.underlying22 rfl h1.len) rfl ?_
 refine Pu (.bool (decide ((1000 : Int) < (a1.length : Int)))) (PO.gtr rfl rfl) rfl ?_
 refine Nt ?_
 refine WC.cond (b := decide ((1000 : Int) < (a1.length : Int))) rfl (fun hb21 => ?_) (fun hb21 => ?_)
 have h := ite_t hb21 h
 refine Sr ?_
 obtain ⟨r22, hr23, h⟩ := bnd h
 refine WL.eff (EO.call0 co4 (f_law22_works_ok _ r22 hr23) (args0)) rfl ?_
 rintro _ M24 _ hle25 ⟨_, ⟨rfl, rfl⟩, rfl⟩
 have h1 := h1.mono hle25
 have hE := hE.mono hle25
 refine WL.a0 ?_
 refine Pa (.bool r22) rfl rfl ?_
 refine Nt ?_
 refine WC.ret ?_
 refine WQ.thenR ?_
 exact WQ.returnsF h [] rfl (results1 rfl rfl) hle25 ⟨rfl, rfl⟩
 have h := ite_f hb21 h
 refine WC.skip ?_
 refine WQ.thenC ?_
 refine Sr ?_
 refine Pm (.int .i64 a0) (hρ 0) rfl ?_
 refine Pm v1 (hρ 1) rfl ?_
 refine Pu (.agg #[(.int .i64 a0), v1]) (PO.buildL (cl := [(.int .i64 a0), v1]) ze34 fp34 (Parts.cons (congrArg Value.cells (show ev _ _ = (.int .i64 a0) from rfl)) (Parts.cons ((congrArg Value.cells (show ev _ _ = v1 from rfl)).trans h1.cells) Parts.nil)) rfl) rfl ?_
 obtain ⟨⟨r27, r28⟩, hr29, h⟩ := bnd h
 refine WL.eff (EO.call0 co5 (f_ask_Read_ok (⟨a0, a1⟩ : T_api_Frame) _ _ h1 (r27, r28) hr29) (args1 rfl)) rfl ?_
 rintro _ M30 _ hle31 ⟨_, ⟨vq32_10, cq32_10, rfl, rfl, hq32_10⟩, rfl⟩
 have h1 := h1.mono hle31
 have hE := hE.mono hle31
 refine WL.a1 ?_
 refine Pm (.tuple #[(a28_ r27 vq32_10), (GV r28)]) rfl rfl ?_
 refine Pu (a28_ r27 vq32_10) (PO.extract rfl rfl) rfl ?_
 refine Pu (GV r28) (PO.extract rfl rfl) rfl ?_
 refine WL.eff (EO.alloc ze28 rfl) rfl ?_
 rintro _ _ _ - ⟨rfl, g34, rfl, rfl⟩
 refine WL.eff (EO.storeL (v := (a28_ r27 vq32_10)) (vl := (l28 r27 vq32_10)) (arr' := (l28 r27 vq32_10)) rfl sz28 rfl rfl (onesOf (Ones.cons rfl (Ones.cons rfl (Ones.cons rfl (Ones.cons rfl (Ones.cons rfl (Ones.cons rfl (Ones.cons rfl (Ones.cons rfl (Ones.cons rfl (Ones.cons rfl (Ones.cons (OwnS.one hq32_10) (Ones.cons rfl (Ones.cons rfl (Ones.cons rfl (Ones.cons rfl (Ones.cons rfl (Ones.cons rfl (Ones.cons rfl (Ones.cons rfl Ones.nil)))))))))))))))))))) rfl rfl (by kernel_rfl)) rfl ?_
 rintro _ _ _ - ⟨rfl, rfl⟩
 refine Pa (GV r28) rfl rfl ?_
 refine Ns ?_
 refine Pm (.int .i64 a0) (hρ 0) rfl ?_
 refine Pm v1 (hρ 1) rfl ?_
 refine Pu (.agg #[(.int .i64 a0), v1]) (PO.buildL (cl := [(.int .i64 a0), v1]) ze34 fp34 (Parts.cons (congrArg Value.cells (show ev _ _ = (.int .i64 a0) from rfl)) (Parts.cons ((congrArg Value.cells (show ev _ _ = v1 from rfl)).trans h1.cells) Parts.nil)) rfl) rfl ?_
 obtain ⟨⟨r35, r36⟩, hr37, h⟩ := bnd h
 refine WL.eff (EO.call0 co6 (f_ref22_Read_ok (⟨a0, a1⟩ : T_api_Frame) _ _ h1 (r35, r36) hr37) (args1 rfl)) rfl ?_
 rintro _ M38 _ hle39 ⟨_, ⟨vq40_10, cq40_10, rfl, rfl, hq40_10⟩, rfl⟩
 have h1 := h1.mono hle39
 have hq32_10 := hq32_10.mono hle39
 have hE := hE.mono hle39
 refine WL.a1 ?_
 refine Pm (.tuple #[(a28_ r35 vq40_10), (a37_ r36)]) rfl rfl ?_
 refine Pu (a28_ r35 vq40_10) (PO.extract rfl rfl) rfl ?_
 refine Pu (a37_ r36) (PO.extract rfl rfl) rfl ?_
 refine WL.eff (EO.alloc ze28 rfl) rfl ?_
 rintro _ _ _ - ⟨rfl, g42, rfl, rfl⟩
 refine WL.eff (EO.alloc ze37 rfl) rfl ?_
 rintro _ _ _ - ⟨rfl, g43, rfl, rfl⟩
 refine WL.f1 ?_
 refine WL.eff (EO.storeL (v := (a28_ r35 vq40_10)) (vl := (l28 r35 vq40_10)) (arr' := (l28 r35 vq40_10)) rfl sz28 rfl rfl (onesOf (Ones.cons rfl (Ones.cons rfl (Ones.cons rfl (Ones.cons rfl (Ones.cons rfl (Ones.cons rfl (Ones.cons rfl (Ones.cons rfl (Ones.cons rfl (Ones.cons rfl (Ones.cons (OwnS.one hq40_10) (Ones.cons rfl (Ones.cons rfl (Ones.cons rfl (Ones.cons rfl (Ones.cons rfl (Ones.cons rfl (Ones.cons rfl (Ones.cons rfl Ones.nil)))))))))))))))))))) rfl rfl (by kernel_rfl)) rfl ?_
 rintro _ _ _ - ⟨rfl, rfl⟩
 refine WL.f1 ?_
 refine WL.eff (EO.storeL (v := (a37_ r36)) (vl := (l37 r36)) (arr' := (l37 r36)) rfl sz37 rfl rfl (onesOf (Ones.cons rfl (Ones.cons rfl (Ones.cons rfl Ones.nil)))) rfl rfl rfl) rfl ?_
 rintro _ _ _ - ⟨rfl, rfl⟩
 refine Ns ?_
 refine Pm (.int .i64 a0) (hρ 0) rfl ?_
 refine Pm v1 (hρ 1) rfl ?_
 refine Pu (.agg #[(.int .i64 a0), v1]) (PO.buildL (cl := [(.int .i64 a0), v1]) ze34 fp34 (Parts.cons (congrArg Value.cells (show ev _ _ = (.int .i64 a0) from rfl)) (Parts.cons ((congrArg Value.cells (show ev _ _ = v1 from rfl)).trans h1.cells) Parts.nil)) rfl) rfl ?_
 obtain ⟨⟨r44, r45⟩, hr46, h⟩ := bnd h
 refine WL.eff (EO.call0 co7 (f_ask_ReadReply_ok (⟨a0, a1⟩ : T_api_Frame) _ _ h1 (r44, r45) hr46) (args1 rfl)) rfl ?_
 rintro _ M47 _ hle48 ⟨_, ⟨rfl, rfl⟩, rfl⟩
 have h1 := h1.mono hle48
 have hq32_10 := hq32_10.mono hle48
 have hq40_10 := hq40_10.mono hle48
 have hE := hE.mono hle48
 refine WL.a0 ?_
 refine Pm (.tuple #[(a43_ r44), (GV r45)]) rfl rfl ?_
 refine Pu (a43_ r44) (PO.extract rfl rfl) rfl ?_
 refine Pu (GV r45) (PO.extract rfl rfl) rfl ?_
 refine WL.eff (EO.alloc ze43 rfl) rfl ?_
 rintro _ _ _ - ⟨rfl, g51, rfl, rfl⟩
 refine WL.eff (EO.storeL (v := (a43_ r44)) (vl := (l43 r44)) (arr' := (l43 r44)) rfl sz43 rfl rfl (onesOf (Ones.cons rfl (Ones.cons rfl (Ones.cons rfl (Ones.cons rfl (Ones.cons rfl (Ones.cons rfl (Ones.cons rfl Ones.nil)))))))) rfl rfl (by kernel_rfl)) rfl ?_
 rintro _ _ _ - ⟨rfl, rfl⟩
 refine Pa (GV r45) rfl rfl ?_
 refine Ns ?_
 refine Pm (.int .i64 a0) (hρ 0) rfl ?_
 refine Pm v1 (hρ 1) rfl ?_
 refine Pu (.agg #[(.int .i64 a0), v1]) (PO.buildL (cl := [(.int .i64 a0), v1]) ze34 fp34 (Parts.cons (congrArg Value.cells (show ev _ _ = (.int .i64 a0) from rfl)) (Parts.cons ((congrArg Value.cells (show ev _ _ = v1 from rfl)).trans h1.cells) Parts.nil)) rfl) rfl ?_
 obtain ⟨⟨r52, r53⟩, hr54, h⟩ := bnd h
 refine WL.eff (EO.call0 co8 (f_ref22_ReadReply_ok (⟨a0, a1⟩ : T_api_Frame) _ _ h1 (r52, r53) hr54) (args1 rfl)) rfl ?_
 rintro _ M55 _ hle56 ⟨_, ⟨rfl, rfl⟩, rfl⟩
 have h1 := h1.mono hle56
 have hq32_10 := hq32_10.mono hle56
 have hq40_10 := hq40_10.mono hle56
 have hE := hE.mono hle56
 refine WL.a0 ?_
 refine Pm (.tuple #[(a43_ r52), (a37_ r53)]) rfl rfl ?_
 refine Pu (a43_ r52) (PO.extract rfl rfl) rfl ?_
 refine Pu (a37_ r53) (PO.extract rfl rfl) rfl ?_
 refine WL.eff (EO.alloc ze43 rfl) rfl ?_
 rintro _ _ _ - ⟨rfl, g59, rfl, rfl⟩
 refine WL.eff (EO.alloc ze37 rfl) rfl ?_
 rintro _ _ _ - ⟨rfl, g60, rfl, rfl⟩
 refine WL.f1 ?_
 refine WL.eff (EO.storeL (v := (a43_ r52)) (vl := (l43 r52)) (arr' := (l43 r52)) rfl sz43 rfl rfl (onesOf (Ones.cons rfl (Ones.cons rfl (Ones.cons rfl (Ones.cons rfl (Ones.cons rfl (Ones.cons rfl (Ones.cons rfl Ones.nil)))))))) rfl rfl (by kernel_rfl)) rfl ?_
 rintro _ _ _ - ⟨rfl, rfl⟩
 refine WL.f1 ?_
 refine WL.eff (EO.storeL (v := (a37_ r53)) (vl := (l37 r53)) (arr' := (l37 r53)) rfl sz37 rfl rfl (onesOf (Ones.cons rfl (Ones.cons rfl (Ones.cons rfl Ones.nil)))) rfl rfl rfl) rfl ?_
 rintro _ _ _ - ⟨rfl, rfl⟩
 refine Nt ?_
 obtain ⟨x61, hj62, h⟩ := bnd h
 refine WC.joinF (fun (x61 : Bool) ρ' M' H' => M55.le M' ∧ [(g60, .cells (l37 r53).toArray 37 (0, 0))] :: [(g59, .cells (l43 r52).toArray 43 (0, 0))] :: [(g51, .cells (l43 r44).toArray 43 (0, 0))] :: [(g43, .cells (l37 r36).toArray 37 (0, 0))] :: [(g42, .cells (l28 r35 vq40_10).toArray 28 (0, 0))] :: [(g34, .cells (l28 r27 vq32_10).toArray 28 (0, 0))] :: cq40_10 :: cq32_10 :: F = H' ∧ ρ' 4 = (.bool x61)) x61 ?_ ?_
 have h362 := h
 have h := hj62
 refine WC.region ?_
 refine Pm (GV r28) rfl rfl ?_
 refine Pu (a37_ r36) (PO.loadBA (cs := (l37 r36)) 3 ag37 sz37 rfl rfl rfl) rfl ?_
 obtain ⟨r63, hr64, h⟩ := bnd h
 refine WL.eff (EO.call0 co9 (f_law22_wrong_ok r28 r36 _ hE r63 hr64) (args2 rfl rfl)) rfl ?_
 rintro _ M65 _ hle66 ⟨_, ⟨rfl, rfl⟩, rfl⟩
 have hq32_10 := hq32_10.mono hle66
 have hq40_10 := hq40_10.mono hle66
 have hE := hE.mono hle66
 refine WL.a0 ?_
 refine Pm (.bool r63) rfl rfl ?_
 rcases Bool.eq_false_or_eq_true (r63) with hb68 | hb68
 have h := ite_t hb68 h
 refine On 48 rfl rfl hb68 ?_
 refine Pu (a28_ r35 vq40_10) (PO.loadBA (cs := (l28 r35 vq40_10)) 4 ag28 sz28 rfl rfl rfl) rfl ?_
 refine On 48 rfl rfl hb68 ?_
 refine Pu (a28_ r27 vq32_10) (PO.loadBA (cs := (l28 r27 vq32_10)) 6 ag28 sz28 rfl rfl rfl) rfl ?_
 refine On 48 rfl rfl hb68 ?_
 obtain ⟨r69, hr70, h⟩ := bnd h
 refine WL.f7 ?_
 refine WL.f6 ?_
 refine WL.eff (EO.call2 co10 (Tri.lend fun w0_ H0_ hs0_ => (Tri.lend fun w1_ H1_ hs1_ => (f_ref22_Same_ok r35 r27 _ _ _ ((hq40_10.rs hs0_).mono (IM.le_add _ _)) ((hq32_10.mono (IM.le_add _ _)).rs hs1_) r69 hr70))) (args2 rfl rfl)) rfl ?_
 rintro _ _ _ hle72 ⟨_, ⟨Ml77, Hl78, hll79, rfl, rfl, ⟨Ml74, Hl75, hll76, rfl, rfl, ⟨rfl, rfl⟩⟩⟩, rfl⟩
 have hq40_10 := hq40_10.mono hle72
 have hq32_10 := hq32_10.mono hle72
 have hE := hE.mono hle72
 refine WL.a2 ?_
 refine Pu (.bool r69) (PO.pickT rfl hb68 rfl) rfl ?_
 refine Pm (.bool r69) rfl rfl ?_
 rcases Bool.eq_false_or_eq_true (r69) with hb80 | hb80
 have h := ite_t hb80 h
 refine On 53 rfl rfl hb80 ?_
 refine Pm (GV r45) rfl rfl ?_
 refine On 53 rfl rfl hb80 ?_
 refine Pu (a37_ r53) (PO.loadBA (cs := (l37 r53)) 2 ag37 sz37 rfl rfl rfl) rfl ?_
 refine On 53 rfl rfl hb80 ?_
 obtain ⟨r81, hr82, h⟩ := bnd h
 refine WL.eff (EO.call0 co9 (f_law22_wrong_ok r45 r53 _ hE r81 hr82) (args2 rfl rfl)) rfl ?_
 rintro _ M83 _ hle84 ⟨_, ⟨rfl, rfl⟩, rfl⟩
 have hq40_10 := hq40_10.mono hle84
 have hq32_10 := hq32_10.mono hle84
 have hE := hE.mono hle84
 refine WL.a0 ?_
 refine Pu (.bool r81) (PO.pickT rfl hb80 rfl) rfl ?_
 refine Pm (.bool r81) rfl rfl ?_
 rcases Bool.eq_false_or_eq_true (r81) with hb86 | hb86
 have h := ite_t hb86 h
 refine On 58 rfl rfl hb86 ?_
 refine Pu (a43_ r44) (PO.loadBA (cs := (l43 r44)) 4 ag43 sz43 rfl rfl rfl) rfl ?_
 refine On 58 rfl rfl hb86 ?_
 refine Pu (a43_ r52) (PO.loadBA (cs := (l43 r52)) 3 ag43 sz43 rfl rfl rfl) rfl ?_
 refine On 58 rfl rfl hb86 ?_
 refine Pu (.bool (andL [decide (r44.Client = r52.Client), decide (r44.Serial = r52.Serial), decide (r44.Code = r52.Code), decide (r44.Leader = r52.Leader), andL [r44.Told.Fenced == r52.Told.Fenced, r44.Told.Leaving == r52.Told.Leaving, r44.Told.Stop == r52.Told.Stop]])) (PO.eqAgg eg43 rfl rfl (run_equal_struct2 Tryz.underlying43 eq43 (EqFs2.cons (by decide) (PartEq.cell pl3 rfl rfl (EqC.int Tryz.underlying3)) (EqFs2.cons (by decide) (PartEq.cell pl3 rfl rfl (EqC.int Tryz.underlying3)) (EqFs2.cons (by decide) (PartEq.cell pl3 rfl rfl (EqC.int Tryz.underlying3)) (EqFs2.cons (by decide) (PartEq.cell pl3 rfl rfl (EqC.int Tryz.underlying3)) (EqFs2.cons (by decide) (PartEq.struct (us := (l41 r44.Told).toArray) (vs := (l41 r52.Told).toArray) ag41 sz41 rfl rfl Tryz.underlying41 eq41 (EqFs.cons (by decide) pl4 rfl rfl (EqC.bool Tryz.underlying4) (EqFs.cons (by decide) pl4 rfl rfl (EqC.bool Tryz.underlying4) (EqFs.cons (by decide) pl4 rfl rfl (EqC.bool Tryz.underlying4) EqFs.nil)))) EqFs2.nil))))))) rfl ?_
 refine Pu (.bool (andL [decide (r44.Client = r52.Client), decide (r44.Serial = r52.Serial), decide (r44.Code = r52.Code), decide (r44.Leader = r52.Leader), andL [r44.Told.Fenced == r52.Told.Fenced, r44.Told.Leaving == r52.Told.Leaving, r44.Told.Stop == r52.Told.Stop]])) (PO.pickT rfl hb86 rfl) rfl ?_
 refine Pm (.bool (andL [decide (r44.Client = r52.Client), decide (r44.Serial = r52.Serial), decide (r44.Code = r52.Code), decide (r44.Leader = r52.Leader), andL [r44.Told.Fenced == r52.Told.Fenced, r44.Told.Leaving == r52.Told.Leaving, r44.Told.Stop == r52.Told.Stop]])) rfl rfl ?_
 rcases Bool.eq_false_or_eq_true (andL [decide (r44.Client = r52.Client), decide (r44.Serial = r52.Serial), decide (r44.Code = r52.Code), decide (r44.Leader = r52.Leader), andL [r44.Told.Fenced == r52.Told.Fenced, r44.Told.Leaving == r52.Told.Leaving, r44.Told.Stop == r52.Told.Stop]]) with hb87 | hb87
 have h := ite_t hb87 h
 refine On 63 rfl rfl hb87 ?_
 obtain ⟨r88, hr89, h⟩ := bnd h
 refine WL.eff (EO.call0 co4 (f_law22_works_ok _ r88 hr89) (args0)) rfl ?_
 rintro _ M90 _ hle91 ⟨_, ⟨rfl, rfl⟩, rfl⟩
 have hq40_10 := hq40_10.mono hle91
 have hq32_10 := hq32_10.mono hle91
 have hE := hE.mono hle91
 refine WL.a0 ?_
 refine Pu (.bool r88) (PO.pickT rfl hb87 rfl) rfl ?_
 refine Pa (.bool r88) rfl rfl ?_
 refine WL.nil ?_
 refine WQ.f1 ?_
 refine WQ.f1 ?_
 refine WQ.f7 ?_
 refine WQ.f7 ?_
 refine WQ.f7 ?_
 refine WQ.f7 ?_
 refine WQ.f7 ?_
 refine WQ.f7 ?_
 obtain rfl := Option.some.inj h
 refine WQ.thenJ ?_
 exact ⟨(((hle66.trans hle72).trans hle84).trans hle91), rfl, rfl⟩
 have h := ite_f hb87 h
 refine Of 63 rfl rfl hb87 rfl ?_
 refine Pu (.bool false) (PO.pickF rfl hb87 rfl) rfl ?_
 refine Pa (.bool false) rfl rfl ?_
 refine WL.nil ?_
 refine WQ.f1 ?_
 refine WQ.f1 ?_
 refine WQ.f7 ?_
 refine WQ.f7 ?_
 refine WQ.f7 ?_
 refine WQ.f7 ?_
 refine WQ.f7 ?_
 refine WQ.f7 ?_
 obtain rfl := Option.some.inj h
 refine WQ.thenJ ?_
 exact ⟨((hle66.trans hle72).trans hle84), rfl, rfl⟩
 have h := ite_f hb86 h
 iterate 3 refine Of 58 rfl rfl hb86 rfl ?_
 refine Pu (.bool false) (PO.pickF rfl hb86 rfl) rfl ?_
 refine Pm (.bool false) rfl rfl ?_
 refine Of 63 rfl rfl rfl rfl ?_
 refine Pu (.bool false) (PO.pickF rfl rfl rfl) rfl ?_
 refine Pa (.bool false) rfl rfl ?_
 refine WL.nil ?_
 refine WQ.f1 ?_
 refine WQ.f1 ?_
 refine WQ.f7 ?_
 refine WQ.f7 ?_
 refine WQ.f7 ?_
 refine WQ.f7 ?_
 refine WQ.f7 ?_
 refine WQ.f7 ?_
 obtain rfl := Option.some.inj h
 refine WQ.thenJ ?_
 exact ⟨((hle66.trans hle72).trans hle84), rfl, rfl⟩
 have h := ite_f hb80 h
 iterate 3 refine Of 53 rfl rfl hb80 rfl ?_
 refine Pu (.bool false) (PO.pickF rfl hb80 rfl) rfl ?_
 refine Pm (.bool false) rfl rfl ?_
 iterate 3 refine Of 58 rfl rfl rfl rfl ?_
 refine Pu (.bool false) (PO.pickF rfl rfl rfl) rfl ?_
 refine Pm (.bool false) rfl rfl ?_
 refine Of 63 rfl rfl rfl rfl ?_
 refine Pu (.bool false) (PO.pickF rfl rfl rfl) rfl ?_
 refine Pa (.bool false) rfl rfl ?_
 refine WL.nil ?_
 refine WQ.f1 ?_
 refine WQ.f1 ?_
 refine WQ.f7 ?_
 refine WQ.f7 ?_
 refine WQ.f7 ?_
 refine WQ.f7 ?_
 refine WQ.f7 ?_
 refine WQ.f7 ?_
 obtain rfl := Option.some.inj h
 refine WQ.thenJ ?_
 exact ⟨(hle66.trans hle72), rfl, rfl⟩
 have h := ite_f hb68 h
 iterate 3 refine Of 48 rfl rfl hb68 rfl ?_
 refine Pu (.bool false) (PO.pickF rfl hb68 rfl) rfl ?_
 refine Pm (.bool false) rfl rfl ?_
 iterate 3 refine Of 53 rfl rfl rfl rfl ?_
 refine Pu (.bool false) (PO.pickF rfl rfl rfl) rfl ?_
 refine Pm (.bool false) rfl rfl ?_
 iterate 3 refine Of 58 rfl rfl rfl rfl ?_
 refine Pu (.bool false) (PO.pickF rfl rfl rfl) rfl ?_
 refine Pm (.bool false) rfl rfl ?_
 refine Of 63 rfl rfl rfl rfl ?_
 refine Pu (.bool false) (PO.pickF rfl rfl rfl) rfl ?_
 refine Pa (.bool false) rfl rfl ?_
 refine WL.nil ?_
 refine WQ.f7 ?_
 refine WQ.f6 ?_
 refine WQ.f7 ?_
 refine WQ.f7 ?_
 refine WQ.f7 ?_
 refine WQ.f7 ?_
 refine WQ.f7 ?_
 refine WQ.f7 ?_
 obtain rfl := Option.some.inj h
 refine WQ.thenJ ?_
 exact ⟨hle66, rfl, rfl⟩
 rintro ρ62 M62 H62 ⟨hle62, rfl, hs62_4⟩
 have hq40_10 := hq40_10.mono hle62
 have hq32_10 := hq32_10.mono hle62
 have hE := hE.mono hle62
 refine WC.ret ?_
 refine WQ.drop ?_
 refine WQ.drop ?_
 refine WQ.drop ?_
 refine WQ.drop ?_
 refine WQ.drop ?_
 refine WQ.drop ?_
 refine WQ.drop ?_
 refine WQ.drop ?_
 exact WQ.returnsF h [] rfl (results1 rfl hs62_4) ((((hle31.trans hle39).trans hle48).trans hle56).trans hle62) ⟨rfl, rfl⟩


end Go.Proofs.YtjgnbbakamellaaGreatDoor.G
