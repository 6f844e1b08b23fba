/- Go functions: what they come to, and that they do. Printed by a program of the session (gen). -/
import Derived.Test.YtafkdjljkolehaaDoorAF
import Derived.Test.YtafkdjljkolehaaDoorA7
import Derived.Test.YtafkdjljkolehaaDoorKConv
set_option linter.unusedVariables false
set_option linter.unusedSimpArgs false
set_option maxHeartbeats 8000000
set_option maxRecDepth 100000
namespace Go.Proofs.YtafkdjljkolehaaDoor.G
open Go Go.KK

noncomputable def f_law05_works : Option Bool :=
  ((f_record_Put [(9 : Int)] (⟨(8 : Int), (0 : Int), (0 : Int), (5 : Int), (2 : Int), (1 : Int), (0 : Int), (0 : Int), (0 : Int), false, (⟨#[]⟩ : ByteArray), (⟨#[]⟩ : ByteArray), (⟨#[]⟩ : ByteArray), (⟨#[]⟩ : ByteArray), [(1 : Int), (2 : Int), (3 : Int)], [(1 : Int)], [], []⟩ : T_api_Record)).bind fun (r31, r32) => (((if (!r32.isNil) = true then (some true) else (some (decide ((r31.length : Int) < (2 : Int))))) : Option Bool).bind fun (x44 : Bool) => (if x44 = true then (some false) else (grd (0 ≤ (1 : Int) ∧ (1 : Int) ≤ (r31.length : Int) ∧ (r31.length : Int) ≤ (r31.length : Int)) ((f_wire_Read (sub r31 (1 : Int) (r31.length : Int))).bind fun (r53 : T_wire_Reader) => ((f_record_Read r53).bind fun (r59, r60, r61) => ((f_record_Check (⟨(7 : Int), (0 : Int), (0 : Int), (1 : Int), (0 : Int), (0 : Int), (0 : Int), (0 : Int), (0 : Int), false, (⟨#[65]⟩ : ByteArray), (⟨#[]⟩ : ByteArray), (⟨#[]⟩ : ByteArray), (⟨#[]⟩ : ByteArray), [], [], [], []⟩ : T_api_Record)).bind fun (r67 : GErr) => ((((f_wire_Reader_End (⟨r53.b, r60, r61⟩ : T_wire_Reader)).bind fun (r75, r76) => (if r75.isNil = true then ((f_record_Same r59 (⟨(8 : Int), (0 : Int), (0 : Int), (5 : Int), (2 : Int), (1 : Int), (0 : Int), (0 : Int), (0 : Int), false, (⟨#[]⟩ : ByteArray), (⟨#[]⟩ : ByteArray), (⟨#[]⟩ : ByteArray), (⟨#[]⟩ : ByteArray), [(1 : Int), (2 : Int), (3 : Int)], [(1 : Int)], [], []⟩ : T_api_Record)).bind fun (r82 : Bool) => (if r82 = true then ((f_record_Same r59 (⟨(0 : Int), (0 : Int), (0 : Int), (0 : Int), (0 : Int), (0 : Int), (0 : Int), (0 : Int), (0 : Int), false, (⟨#[]⟩ : ByteArray), (⟨#[]⟩ : ByteArray), (⟨#[]⟩ : ByteArray), (⟨#[]⟩ : ByteArray), [], [], [], []⟩ : T_api_Record)).bind fun (r106 : Bool) => (if (!r106) = true then ((f_fault_Is r67 (1 : Int)).bind fun (r124 : Bool) => (if r124 = true then ((f_record_Name (⟨#[97, 46, 98, 45, 49]⟩ : ByteArray)).bind fun (r130 : Bool) => (if r130 = true then ((f_record_Name (⟨#[46, 46]⟩ : ByteArray)).bind fun (r136 : Bool) => (if (!r136) = true then ((f_record_Brokers [(1 : Int), (64 : Int)]).bind fun (r145 : Bool) => (if r145 = true then ((f_record_Brokers [(1 : Int), (1 : Int)]).bind fun (r157 : Bool) => (some (!r157, r76))) else (some (false, r76)))) else (some (false, r76)))) else (some (false, r76)))) else (some (false, r76)))) else (some (false, r76)))) else (some (false, r76)))) else (some (false, r76)))) : Option (Bool × GErr)).bind fun (x72, x73) => (some x72)))))))))
def f_law05_works_post : Bool → Value → IM → HL → Prop :=
  fun (r0 : Bool) (v : Value) (M' : IM) (H' : HL) => (.bool r0) = v ∧ H' = []
theorem f_law05_works_ok (M : IM) (hE : Env M) (res : Bool) (h : f_law05_works = some res) :
    Tri Tryd.prog 8 #[] M [] (f_law05_works_post res) := by
 unfold f_law05_works at h
 refine Tri.enter (fn := Tryd.f8) Tryd.func8 rfl (Nat.le_of_ble_eq_true rfl) ?_
 intro F ρ hρ
 refine Sr ?_
 refine Pa (.bool false) rfl rfl ?_
 refine Ns ?_
 refine WL.eff (EO.buildSliceL (cl := [(.int .i64 1), (.int .i64 2), (.int .i64 3)]) Tryd.underlying22 iz3 rfl (Parts.cons (congrArg Value.cells (show ev _ _ = (.int .i64 1) from rfl)) (Parts.cons (congrArg Value.cells (show ev _ _ = (.int .i64 2) from rfl)) (Parts.cons (congrArg Value.cells (show ev _ _ = (.int .i64 3) from rfl)) Parts.nil))) rfl) rfl ?_
 rintro _ _ _ - ⟨rfl, g21, rfl, rfl⟩
 have h23 : OwnS (Kd.int .i64) M (.slice (some ⟨g21, 0, none⟩) 3 3) [(1 : Int), (2 : Int), (3 : Int)] [(g21, .cells #[(.int .i64 1), (.int .i64 2), (.int .i64 3)] 3 (0, 0))] := OwnS.rows (css := [[(.int .i64 1)], [(.int .i64 2)], [(.int .i64 3)]]) (Rows.cons rfl (Rows.cons rfl (Rows.cons rfl Rows.nil))) rfl rfl
 refine WL.eff (EO.buildSliceL (cl := [(.int .i64 1)]) Tryd.underlying22 iz3 rfl (Parts.cons (congrArg Value.cells (show ev _ _ = (.int .i64 1) from rfl)) Parts.nil) rfl) rfl ?_
 rintro _ _ _ - ⟨rfl, g24, rfl, rfl⟩
 have h26 : OwnS (Kd.int .i64) M (.slice (some ⟨g24, 0, none⟩) 1 1) [(1 : Int)] [(g24, .cells #[(.int .i64 1)] 3 (0, 0))] := OwnS.rows (css := [[(.int .i64 1)]]) (Rows.cons rfl Rows.nil) rfl rfl
 refine Pu (.agg #[(.int .i64 8), (.int .i64 0), (.int .i64 0), (.int .i64 5), (.int .i64 2), (.int .i64 1), (.int .i64 0), (.int .i64 0), (.int .i64 0), (.bool false), (.string ⟨#[]⟩), (.string ⟨#[]⟩), (.string ⟨#[]⟩), (.string ⟨#[]⟩), (.slice (some ⟨g21, 0, none⟩) 3 3), (.slice (some ⟨g24, 0, none⟩) 1 1), (.slice none 0 0), (.slice none 0 0)]) (PO.buildL (cl := [(.int .i64 8), (.int .i64 0), (.int .i64 0), (.int .i64 5), (.int .i64 2), (.int .i64 1), (.int .i64 0), (.int .i64 0), (.int .i64 0), (.bool false), (.string ⟨#[]⟩), (.string ⟨#[]⟩), (.string ⟨#[]⟩), (.string ⟨#[]⟩), (.slice (some ⟨g21, 0, none⟩) 3 3), (.slice (some ⟨g24, 0, none⟩) 1 1), (.slice none 0 0), (.slice none 0 0)]) ze24 fp24 (Parts.cons (congrArg Value.cells (show ev _ _ = (.int .i64 8) from rfl)) (Parts.cons (congrArg Value.cells (show ev _ _ = (.int .i64 5) from rfl)) (Parts.cons (congrArg Value.cells (show ev _ _ = (.int .i64 2) from rfl)) (Parts.cons ((congrArg Value.cells (show ev _ _ = (.slice (some ⟨g21, 0, none⟩) 3 3) from rfl)).trans h23.cells) (Parts.cons ((congrArg Value.cells (show ev _ _ = (.slice (some ⟨g24, 0, none⟩) 1 1) from rfl)).trans h26.cells) (Parts.cons (congrArg Value.cells (show ev _ _ = (.int .i64 1) from rfl)) Parts.nil)))))) rfl) rfl ?_
 refine WL.eff (EO.alloc ze24 rfl) rfl ?_
 rintro _ _ _ - ⟨rfl, g27, rfl, rfl⟩
 refine WL.eff (EO.storeL (v := (.agg #[(.int .i64 8), (.int .i64 0), (.int .i64 0), (.int .i64 5), (.int .i64 2), (.int .i64 1), (.int .i64 0), (.int .i64 0), (.int .i64 0), (.bool false), (.string ⟨#[]⟩), (.string ⟨#[]⟩), (.string ⟨#[]⟩), (.string ⟨#[]⟩), (.slice (some ⟨g21, 0, none⟩) 3 3), (.slice (some ⟨g24, 0, none⟩) 1 1), (.slice none 0 0), (.slice none 0 0)])) (vl := [(.int .i64 8), (.int .i64 0), (.int .i64 0), (.int .i64 5), (.int .i64 2), (.int .i64 1), (.int .i64 0), (.int .i64 0), (.int .i64 0), (.bool false), (.string ⟨#[]⟩), (.string ⟨#[]⟩), (.string ⟨#[]⟩), (.string ⟨#[]⟩), (.slice (some ⟨g21, 0, none⟩) 3 3), (.slice (some ⟨g24, 0, none⟩) 1 1), (.slice none 0 0), (.slice none 0 0)]) (arr' := [(.int .i64 8), (.int .i64 0), (.int .i64 0), (.int .i64 5), (.int .i64 2), (.int .i64 1), (.int .i64 0), (.int .i64 0), (.int .i64 0), (.bool false), (.string ⟨#[]⟩), (.string ⟨#[]⟩), (.string ⟨#[]⟩), (.string ⟨#[]⟩), (.slice (some ⟨g21, 0, none⟩) 3 3), (.slice (some ⟨g24, 0, none⟩) 1 1), (.slice none 0 0), (.slice none 0 0)]) rfl sz24 rfl rfl (onesOf (Ones.cons rfl (Ones.cons rfl (Ones.cons rfl (Ones.cons rfl (Ones.cons rfl (Ones.cons rfl (Ones.cons rfl (Ones.cons rfl (Ones.cons rfl (Ones.cons rfl (Ones.cons rfl (Ones.cons rfl (Ones.cons rfl (Ones.cons rfl (Ones.cons (OwnS.one h23) (Ones.cons (OwnS.one h26) (Ones.cons rfl (Ones.cons rfl Ones.nil))))))))))))))))))) rfl rfl (by kernel_rfl)) rfl ?_
 rintro _ _ _ - ⟨rfl, rfl⟩
 refine Ns ?_
 refine WL.eff (EO.buildSliceL (cl := [(.int .u8 9)]) Tryd.underlying28 iz5 rfl (Parts.cons (congrArg Value.cells (show ev _ _ = (.int .u8 9) from rfl)) Parts.nil) rfl) rfl ?_
 rintro _ _ _ - ⟨rfl, g28, rfl, rfl⟩
 have h30 : OwnS (Kd.int .u8) M (.slice (some ⟨g28, 0, none⟩) 1 1) [(9 : Int)] [(g28, .cells #[(.int .u8 9)] 5 (0, 0))] := OwnS.rows (css := [[(.int .u8 9)]]) (Rows.cons rfl Rows.nil) rfl rfl
 refine Pu (.agg #[(.int .i64 8), (.int .i64 0), (.int .i64 0), (.int .i64 5), (.int .i64 2), (.int .i64 1), (.int .i64 0), (.int .i64 0), (.int .i64 0), (.bool false), (.string ⟨#[]⟩), (.string ⟨#[]⟩), (.string ⟨#[]⟩), (.string ⟨#[]⟩), (.slice (some ⟨g21, 0, none⟩) 3 3), (.slice (some ⟨g24, 0, none⟩) 1 1), (.slice none 0 0), (.slice none 0 0)]) (PO.loadBA (cs := [(.int .i64 8), (.int .i64 0), (.int .i64 0), (.int .i64 5), (.int .i64 2), (.int .i64 1), (.int .i64 0), (.int .i64 0), (.int .i64 0), (.bool false), (.string ⟨#[]⟩), (.string ⟨#[]⟩), (.string ⟨#[]⟩), (.string ⟨#[]⟩), (.slice (some ⟨g21, 0, none⟩) 3 3), (.slice (some ⟨g24, 0, none⟩) 1 1), (.slice none 0 0), (.slice none 0 0)]) 1 ag24 sz24 rfl rfl rfl) rfl ?_
 obtain ⟨⟨r31, r32⟩, hr33, h⟩ := bnd h
 refine WL.f2 ?_
 refine WL.f3 ?_
 refine WL.eff (EO.call3 co9 (Tri.lend fun w0_ H0_ hs0_ => (Tri.lend fun w1_ H1_ hs1_ => (f_record_Put_ok [(9 : Int)] (⟨(8 : Int), (0 : Int), (0 : Int), (5 : Int), (2 : Int), (1 : Int), (0 : Int), (0 : Int), (0 : Int), false, (⟨#[]⟩ : ByteArray), (⟨#[]⟩ : ByteArray), (⟨#[]⟩ : ByteArray), (⟨#[]⟩ : ByteArray), [(1 : Int), (2 : Int), (3 : Int)], [(1 : Int)], [], []⟩ : T_api_Record) _ _ _ _ _ _ _ ((h30.mono (IM.le_add _ _)).mono (IM.le_add _ _)) ((h23.rs hs0_).mono (IM.le_add _ _)) ((h26.mono (IM.le_add _ _)).rs hs1_) (RS.nil _ _) (RS.nil _ _) (r31, r32) hr33))) (args2 rfl rfl)) rfl ?_
 rintro _ _ _ hle35 ⟨_, ⟨Ml41, Hl42, hll43, rfl, rfl, ⟨Ml38, Hl39, hll40, rfl, rfl, ⟨vq36, cq36, rfl, rfl, hq36⟩⟩⟩, rfl⟩
 have h30 := h30.mono hle35
 have h23 := h23.mono hle35
 have h26 := h26.mono hle35
 have hE := hE.mono hle35
 have hq36 : OwnS (Kd.int .u8) ((Ml38.minus [(g24, .cells #[(.int .i64 1)] 3 (0, 0))]).minus [(g21, .cells #[(.int .i64 1), (.int .i64 2), (.int .i64 3)] 3 (0, 0))]) vq36 r31 cq36 := hq36.any (Kd.int_flat _)
 refine WL.a3 ?_
 refine Pm (.tuple #[vq36, (GV r32)]) rfl rfl ?_
 refine Pu vq36 (PO.extract rfl rfl) rfl ?_
 refine Pu (GV r32) (PO.extract rfl rfl) rfl ?_
 refine Pa vq36 rfl rfl ?_
 refine Pa (GV r32) rfl rfl ?_
 refine Nt ?_
 refine WC.seq ?_
 obtain ⟨x44, hj45, h⟩ := bnd h
 refine WC.joinF (fun (x44 : Bool) ρ' M' H' => ((Ml38.minus [(g24, .cells #[(.int .i64 1)] 3 (0, 0))]).minus [(g21, .cells #[(.int .i64 1), (.int .i64 2), (.int .i64 3)] 3 (0, 0))]).le M' ∧ [(g27, .cells #[(.int .i64 8), (.int .i64 0), (.int .i64 0), (.int .i64 5), (.int .i64 2), (.int .i64 1), (.int .i64 0), (.int .i64 0), (.int .i64 0), (.bool false), (.string ⟨#[]⟩), (.string ⟨#[]⟩), (.string ⟨#[]⟩), (.string ⟨#[]⟩), (.slice (some ⟨g21, 0, none⟩) 3 3), (.slice (some ⟨g24, 0, none⟩) 1 1), (.slice none 0 0), (.slice none 0 0)] 24 (0, 0))] :: cq36 :: [(g21, .cells #[(.int .i64 1), (.int .i64 2), (.int .i64 3)] 3 (0, 0))] :: [(g24, .cells #[(.int .i64 1)] 3 (0, 0))] :: F = H' ∧ ρ' 1 = (pt g27 0) ∧ ρ' 2 = vq36 ∧ ρ' 22 = (.bool x44)) x44 ?_ ?_
 have h345 := h
 have h := hj45
 refine WC.region ?_
 refine Pm (GV r32) rfl rfl ?_
 refine Pu (.bool (!r32.isNil)) (PO.errNotNil Tryd.underlying30 rfl) rfl ?_
 refine Pm (.bool (!r32.isNil)) rfl rfl ?_
 rcases Bool.eq_false_or_eq_true (!r32.isNil) with hb46 | hb46
 have h := ite_t hb46 h
 iterate 3 refine Of 18 rfl rfl hb46 rfl ?_
 refine Pu (.bool true) (PO.pickT rfl hb46 rfl) rfl ?_
 refine WL.nil ?_
 refine WQ.f1 ?_
 refine WQ.f1 ?_
 refine WQ.f2 ?_
 refine WQ.f3 ?_
 obtain rfl := Option.some.inj h
 refine WQ.thenJ ?_
 exact ⟨(IM.le.refl _), rfl, rfl, rfl, rfl⟩
 have h := ite_f hb46 h
 refine On 18 rfl rfl hb46 ?_
 refine Pm vq36 rfl rfl ?_
 refine On 18 rfl rfl hb46 ?_
 refine Pu (.int .i64 (r31.length : Int)) (PO.lenS Tryd.underlying28 rfl hq36.len) rfl ?_
 refine On 18 rfl rfl hb46 ?_
 refine Pu (.bool (decide ((r31.length : Int) < (2 : Int)))) (PO.lss rfl rfl) rfl ?_
 refine Pu (.bool (decide ((r31.length : Int) < (2 : Int)))) (PO.pickF rfl hb46 rfl) rfl ?_
 refine WL.nil ?_
 refine WQ.f1 ?_
 refine WQ.f1 ?_
 refine WQ.f2 ?_
 refine WQ.f3 ?_
 obtain rfl := Option.some.inj h
 refine WQ.thenJ ?_
 exact ⟨(IM.le.refl _), rfl, rfl, rfl, rfl⟩
 rintro ρ45 M45 H45 ⟨hle45, rfl, hs45_1, hs45_2, hs45_22⟩
 have hq36 := hq36.mono hle45
 have h23 := h23.mono hle45
 have h26 := h26.mono hle45
 have hE := hE.mono hle45
 refine WC.cond (b := x44) hs45_22 (fun hb47 => ?_) (fun hb47 => ?_)
 have h := ite_t hb47 h
 refine Sr ?_
 refine Pa (.bool false) rfl rfl ?_
 refine Nt ?_
 refine WC.ret ?_
 refine WQ.thenR ?_
 refine WQ.drop ?_
 refine WQ.drop ?_
 refine WQ.drop ?_
 refine WQ.drop ?_
 exact WQ.returnsF h [] rfl (results1 rfl rfl) (hle35.trans hle45) ⟨rfl, rfl⟩
 have h := ite_f hb47 h
 refine WC.skip ?_
 refine WQ.thenC ?_
 refine Sr ?_
 refine Pm vq36 hs45_2 rfl ?_
 obtain ⟨hg48, h⟩ := grd_i h
 have h49 := hq36.sub hg48.1 hg48.2.1 hg48.2.2
 refine Pu (slV vq36 1 ((1 : Int)).toNat ((r31.length : Int)).toNat) (PO.slice (n := r31.length) (l := ((1 : Int)).toNat) (h := ((r31.length : Int)).toNat) Tryd.underlying28 sz5 rfl hq36.len hq36.cap ⟨_, _, rfl, hg48.1, rfl⟩ (boundN_ rfl) (Int.toNat_le_toNat hg48.2.1) (toNat_le_len hg48.2.2)) rfl ?_
 refine WL.f1 ?_
 refine WL.know (fun _ hs => hq36.rs hs) (fun hf51 => ?_)
 refine WL.know (fun _ hs => h49.rs hs) (fun hf52 => ?_)
 refine WL.freeze (fun hle50 => ?_)
 have h23 := h23.mono hle50
 have h26 := h26.mono hle50
 have hE := hE.mono hle50
 obtain ⟨r53, hr54, h⟩ := bnd h
 refine WL.eff (EO.call0 co10 (f_wire_Read_ok (sub r31 (1 : Int) (r31.length : Int)) _ _ hf52 r53 hr54) (args1 rfl)) rfl ?_
 rintro _ M55 _ hle56 ⟨_, ⟨g57, vq58_0, rfl, rfl, hq58_0⟩, rfl⟩
 have hf51 := hf51.mono hle56
 have hf52 := hf52.mono hle56
 have h23 := h23.mono hle56
 have h26 := h26.mono hle56
 have hE := hE.mono hle56
 refine WL.a1 ?_
 refine Pa (pt g57 0) rfl rfl ?_
 refine Nt ?_
 refine WC.seq ?_
 refine Sr ?_
 refine Pm (pt g57 0) rfl rfl ?_
 refine Pu (.bool false) (PO.ptrNil Tryd.underlying33 rfl) rfl ?_
 refine Nt ?_
 refine WC.condF (b := false) rfl rfl ?_
 refine WC.skip ?_
 refine WQ.thenC ?_
 refine Sr ?_
 refine Pm (pt g57 0) rfl rfl ?_
 obtain ⟨⟨r59, r60, r61⟩, hr62, h⟩ := bnd h
 refine WL.eff (EO.call1 co11 (f_record_Read_ok r53 _ _ _ hq58_0 hE (r59, r60, r61) hr62) (args1 rfl)) rfl ?_
 rintro _ M63 _ hle64 ⟨_, ⟨vq65_14, cq65_14, vq65_15, cq65_15, vq65_16, cq65_16, vq65_17, cq65_17, rfl, rfl, hq65_14, hq65_15, hq65_16, hq65_17⟩, rfl⟩
 have h23 := h23.mono hle64
 have h26 := h26.mono hle64
 have hq58_0 := hq58_0.mono hle64
 have hE := hE.mono hle64
 refine WL.a5 ?_
 refine WL.eff (EO.alloc ze24 rfl) rfl ?_
 rintro _ _ _ - ⟨rfl, g66, rfl, rfl⟩
 refine WL.eff (EO.storeL (v := (a24_ r59 vq65_14 vq65_15 vq65_16 vq65_17)) (vl := (l24 r59 vq65_14 vq65_15 vq65_16 vq65_17)) (arr' := (l24 r59 vq65_14 vq65_15 vq65_16 vq65_17)) rfl sz24 rfl rfl (onesOf (Ones.cons rfl (Ones.cons rfl (Ones.cons rfl (Ones.cons rfl (Ones.cons rfl (Ones.cons rfl (Ones.cons rfl (Ones.cons rfl (Ones.cons rfl (Ones.cons rfl (Ones.cons rfl (Ones.cons rfl (Ones.cons rfl (Ones.cons rfl (Ones.cons (OwnS.one hq65_14) (Ones.cons (OwnS.one hq65_15) (Ones.cons (OwnS.one hq65_16) (Ones.cons (OwnS.one hq65_17) Ones.nil))))))))))))))))))) rfl rfl (by kernel_rfl)) rfl ?_
 rintro _ _ _ - ⟨rfl, rfl⟩
 refine Ns ?_
 refine Pu (.agg #[(.int .i64 7), (.int .i64 0), (.int .i64 0), (.int .i64 1), (.int .i64 0), (.int .i64 0), (.int .i64 0), (.int .i64 0), (.int .i64 0), (.bool false), (.string ⟨#[65]⟩), (.string ⟨#[]⟩), (.string ⟨#[]⟩), (.string ⟨#[]⟩), (.slice none 0 0), (.slice none 0 0), (.slice none 0 0), (.slice none 0 0)]) (PO.buildL (cl := [(.int .i64 7), (.int .i64 0), (.int .i64 0), (.int .i64 1), (.int .i64 0), (.int .i64 0), (.int .i64 0), (.int .i64 0), (.int .i64 0), (.bool false), (.string ⟨#[65]⟩), (.string ⟨#[]⟩), (.string ⟨#[]⟩), (.string ⟨#[]⟩), (.slice none 0 0), (.slice none 0 0), (.slice none 0 0), (.slice none 0 0)]) ze24 fp24 (Parts.cons (congrArg Value.cells (show ev _ _ = (.int .i64 7) from rfl)) (Parts.cons (congrArg Value.cells (show ev _ _ = (.int .i64 1) from rfl)) (Parts.cons (congrArg Value.cells (show ev _ _ = (.string ⟨#[65]⟩) from rfl)) Parts.nil))) rfl) rfl ?_
 obtain ⟨r67, hr68, h⟩ := bnd h
 refine WL.eff (EO.call0 co19 (f_record_Check_ok (⟨(7 : Int), (0 : Int), (0 : Int), (1 : Int), (0 : Int), (0 : Int), (0 : Int), (0 : Int), (0 : Int), false, (⟨#[65]⟩ : ByteArray), (⟨#[]⟩ : ByteArray), (⟨#[]⟩ : ByteArray), (⟨#[]⟩ : ByteArray), [], [], [], []⟩ : T_api_Record) _ _ _ _ _ (RS.nil _ _) (RS.nil _ _) (RS.nil _ _) (RS.nil _ _) r67 hr68) (args1 rfl)) rfl ?_
 rintro _ M69 _ hle70 ⟨_, ⟨rfl, rfl⟩, rfl⟩
 have h23 := h23.mono hle70
 have h26 := h26.mono hle70
 have hq58_0 := hq58_0.mono hle70
 have hq65_14 := hq65_14.mono hle70
 have hq65_15 := hq65_15.mono hle70
 have hq65_16 := hq65_16.mono hle70
 have hq65_17 := hq65_17.mono hle70
 have hE := hE.mono hle70
 refine WL.a0 ?_
 refine Pa (GV r67) rfl rfl ?_
 refine Nt ?_
 obtain ⟨j74, hj74, h⟩ := bnd h
 refine WC.joinF (fun (p_ : (Bool × GErr)) ρ' M' H' => match p_ with | (x72, x73) => M69.le M' ∧ [(g66, .cells (l24 r59 vq65_14 vq65_15 vq65_16 vq65_17).toArray 24 (0, 0))] :: [(g57, .cells #[vq58_0, (.int .i64 r60), (GV x73)] 63 (0, 0))] :: [(g27, .cells #[(.int .i64 8), (.int .i64 0), (.int .i64 0), (.int .i64 5), (.int .i64 2), (.int .i64 1), (.int .i64 0), (.int .i64 0), (.int .i64 0), (.bool false), (.string ⟨#[]⟩), (.string ⟨#[]⟩), (.string ⟨#[]⟩), (.string ⟨#[]⟩), (.slice (some ⟨g21, 0, none⟩) 3 3), (.slice (some ⟨g24, 0, none⟩) 1 1), (.slice none 0 0), (.slice none 0 0)] 24 (0, 0))] :: cq65_14 :: cq65_15 :: cq65_16 :: cq65_17 :: [(g21, .cells #[(.int .i64 1), (.int .i64 2), (.int .i64 3)] 3 (0, 0))] :: [(g24, .cells #[(.int .i64 1)] 3 (0, 0))] :: F = H' ∧ ρ' 0 = (.bool x72)) j74 ?_ ?_
 have h374 := h
 have h := hj74
 refine WC.region ?_
 refine Pm (pt g57 0) rfl rfl ?_
 obtain ⟨⟨r75, r76⟩, hr77, h⟩ := bnd h
 refine WL.f1 ?_
 refine WL.eff (EO.call1 co15 (f_wire_Reader_End_ok (⟨r53.b, r60, r61⟩ : T_wire_Reader) _ _ _ hq58_0 (r75, r76) hr77) (args1 rfl)) rfl ?_
 rintro _ M78 _ hle79 ⟨_, ⟨rfl, rfl⟩, rfl⟩
 have h23 := h23.mono hle79
 have h26 := h26.mono hle79
 have hq58_0 := hq58_0.mono hle79
 have hq65_14 := hq65_14.mono hle79
 have hq65_15 := hq65_15.mono hle79
 have hq65_16 := hq65_16.mono hle79
 have hq65_17 := hq65_17.mono hle79
 have hE := hE.mono hle79
 refine WL.a1 ?_
 refine Pu (.bool r75.isNil) (PO.errNil Tryd.underlying30 rfl) rfl ?_
 refine Pm (.bool r75.isNil) rfl rfl ?_
 rcases Bool.eq_false_or_eq_true (r75.isNil) with hb81 | hb81
 have h := ite_t hb81 h
 refine On 35 rfl rfl hb81 ?_
 refine Pu (a24_ r59 vq65_14 vq65_15 vq65_16 vq65_17) (PO.loadBA (cs := (l24 r59 vq65_14 vq65_15 vq65_16 vq65_17)) 1 ag24 sz24 rfl rfl rfl) rfl ?_
 refine On 35 rfl rfl hb81 ?_
 refine Pu (.agg #[(.int .i64 8), (.int .i64 0), (.int .i64 0), (.int .i64 5), (.int .i64 2), (.int .i64 1), (.int .i64 0), (.int .i64 0), (.int .i64 0), (.bool false), (.string ⟨#[]⟩), (.string ⟨#[]⟩), (.string ⟨#[]⟩), (.string ⟨#[]⟩), (.slice (some ⟨g21, 0, none⟩) 3 3), (.slice (some ⟨g24, 0, none⟩) 1 1), (.slice none 0 0), (.slice none 0 0)]) (PO.loadBA (cs := [(.int .i64 8), (.int .i64 0), (.int .i64 0), (.int .i64 5), (.int .i64 2), (.int .i64 1), (.int .i64 0), (.int .i64 0), (.int .i64 0), (.bool false), (.string ⟨#[]⟩), (.string ⟨#[]⟩), (.string ⟨#[]⟩), (.string ⟨#[]⟩), (.slice (some ⟨g21, 0, none⟩) 3 3), (.slice (some ⟨g24, 0, none⟩) 1 1), (.slice none 0 0), (.slice none 0 0)]) 6 ag24 sz24 hs45_1 rfl rfl) rfl ?_
 refine On 35 rfl rfl hb81 ?_
 obtain ⟨r82, hr83, h⟩ := bnd h
 refine WL.f8 ?_
 refine WL.f8 ?_
 refine WL.f7 ?_
 refine WL.f7 ?_
 refine WL.f7 ?_
 refine WL.f7 ?_
 refine WL.eff (EO.call6 co25 (Tri.lend fun w0_ H0_ hs0_ => (Tri.lend fun w1_ H1_ hs1_ => (Tri.lend fun w2_ H2_ hs2_ => (Tri.lend fun w3_ H3_ hs3_ => (Tri.lend fun w4_ H4_ hs4_ => (Tri.lend fun w5_ H5_ hs5_ => (f_record_Same_ok r59 (⟨(8 : Int), (0 : Int), (0 : Int), (5 : Int), (2 : Int), (1 : Int), (0 : Int), (0 : Int), (0 : Int), false, (⟨#[]⟩ : ByteArray), (⟨#[]⟩ : ByteArray), (⟨#[]⟩ : ByteArray), (⟨#[]⟩ : ByteArray), [(1 : Int), (2 : Int), (3 : Int)], [(1 : Int)], [], []⟩ : T_api_Record) _ _ _ _ _ _ _ _ _ ((((((hq65_14.rs hs0_).mono (IM.le_add _ _)).mono (IM.le_add _ _)).mono (IM.le_add _ _)).mono (IM.le_add _ _)).mono (IM.le_add _ _)) ((((((hq65_15.mono (IM.le_add _ _)).rs hs1_).mono (IM.le_add _ _)).mono (IM.le_add _ _)).mono (IM.le_add _ _)).mono (IM.le_add _ _)) ((((((hq65_16.mono (IM.le_add _ _)).mono (IM.le_add _ _)).rs hs2_).mono (IM.le_add _ _)).mono (IM.le_add _ _)).mono (IM.le_add _ _)) ((((((hq65_17.mono (IM.le_add _ _)).mono (IM.le_add _ _)).mono (IM.le_add _ _)).rs hs3_).mono (IM.le_add _ _)).mono (IM.le_add _ _)) ((((((h23.mono (IM.le_add _ _)).mono (IM.le_add _ _)).mono (IM.le_add _ _)).mono (IM.le_add _ _)).rs hs4_).mono (IM.le_add _ _)) ((((((h26.mono (IM.le_add _ _)).mono (IM.le_add _ _)).mono (IM.le_add _ _)).mono (IM.le_add _ _)).mono (IM.le_add _ _)).rs hs5_) (RS.nil _ _) (RS.nil _ _) r82 hr83))))))) (args2 rfl rfl)) rfl ?_
 rintro _ _ _ hle85 ⟨_, ⟨Ml102, Hl103, hll104, rfl, rfl, ⟨Ml99, Hl100, hll101, rfl, rfl, ⟨Ml96, Hl97, hll98, rfl, rfl, ⟨Ml93, Hl94, hll95, rfl, rfl, ⟨Ml90, Hl91, hll92, rfl, rfl, ⟨Ml87, Hl88, hll89, rfl, rfl, ⟨rfl, rfl⟩⟩⟩⟩⟩⟩⟩, rfl⟩
 have hq65_14 := hq65_14.mono hle85
 have hq65_15 := hq65_15.mono hle85
 have hq65_16 := hq65_16.mono hle85
 have hq65_17 := hq65_17.mono hle85
 have h23 := h23.mono hle85
 have h26 := h26.mono hle85
 have hq58_0 := hq58_0.mono hle85
 have hE := hE.mono hle85
 refine WL.a6 ?_
 refine Pu (.bool r82) (PO.pickT rfl hb81 rfl) rfl ?_
 refine Pm (.bool r82) rfl rfl ?_
 rcases Bool.eq_false_or_eq_true (r82) with hb105 | hb105
 have h := ite_t hb105 h
 refine On 40 rfl rfl hb105 ?_
 refine Pu (a24_ r59 vq65_14 vq65_15 vq65_16 vq65_17) (PO.loadBA (cs := (l24 r59 vq65_14 vq65_15 vq65_16 vq65_17)) 7 ag24 sz24 rfl rfl rfl) rfl ?_
 refine On 40 rfl rfl hb105 ?_
 refine Pu (.agg z24_.toArray) (PO.buildL (cl := z24_) ze24 fp24 Parts.nil rfl) rfl ?_
 refine On 40 rfl rfl hb105 ?_
 obtain ⟨r106, hr107, h⟩ := bnd h
 refine WL.f3 ?_
 refine WL.f3 ?_
 refine WL.f3 ?_
 refine WL.f3 ?_
 refine WL.eff (EO.call4 co25 (Tri.lend fun w0_ H0_ hs0_ => (Tri.lend fun w1_ H1_ hs1_ => (Tri.lend fun w2_ H2_ hs2_ => (Tri.lend fun w3_ H3_ hs3_ => (f_record_Same_ok r59 (⟨(0 : Int), (0 : Int), (0 : Int), (0 : Int), (0 : Int), (0 : Int), (0 : Int), (0 : Int), (0 : Int), false, (⟨#[]⟩ : ByteArray), (⟨#[]⟩ : ByteArray), (⟨#[]⟩ : ByteArray), (⟨#[]⟩ : ByteArray), [], [], [], []⟩ : T_api_Record) _ _ _ _ _ _ _ _ _ ((((hq65_14.rs hs0_).mono (IM.le_add _ _)).mono (IM.le_add _ _)).mono (IM.le_add _ _)) ((((hq65_15.mono (IM.le_add _ _)).rs hs1_).mono (IM.le_add _ _)).mono (IM.le_add _ _)) ((((hq65_16.mono (IM.le_add _ _)).mono (IM.le_add _ _)).rs hs2_).mono (IM.le_add _ _)) ((((hq65_17.mono (IM.le_add _ _)).mono (IM.le_add _ _)).mono (IM.le_add _ _)).rs hs3_) (RS.nil _ _) (RS.nil _ _) (RS.nil _ _) (RS.nil _ _) r106 hr107))))) (args2 rfl rfl)) rfl ?_
 rintro _ _ _ hle109 ⟨_, ⟨Ml120, Hl121, hll122, rfl, rfl, ⟨Ml117, Hl118, hll119, rfl, rfl, ⟨Ml114, Hl115, hll116, rfl, rfl, ⟨Ml111, Hl112, hll113, rfl, rfl, ⟨rfl, rfl⟩⟩⟩⟩⟩, rfl⟩
 have hq65_14 := hq65_14.mono hle109
 have hq65_15 := hq65_15.mono hle109
 have hq65_16 := hq65_16.mono hle109
 have hq65_17 := hq65_17.mono hle109
 have h23 := h23.mono hle109
 have h26 := h26.mono hle109
 have hq58_0 := hq58_0.mono hle109
 have hE := hE.mono hle109
 refine WL.a4 ?_
 refine On 40 rfl rfl hb105 ?_
 refine Pu (.bool (!r106)) (PO.not rfl) rfl ?_
 refine Pu (.bool (!r106)) (PO.pickT rfl hb105 rfl) rfl ?_
 refine Pm (.bool (!r106)) rfl rfl ?_
 rcases Bool.eq_false_or_eq_true (!r106) with hb123 | hb123
 have h := ite_t hb123 h
 refine On 46 rfl rfl hb123 ?_
 refine Pm (GV r67) rfl rfl ?_
 refine On 46 rfl rfl hb123 ?_
 obtain ⟨r124, hr125, h⟩ := bnd h
 refine WL.eff (EO.call0 co12 (f_fault_Is_ok r67 (1 : Int) _ r124 hr125) (args2 rfl rfl)) rfl ?_
 rintro _ M126 _ hle127 ⟨_, ⟨rfl, rfl⟩, rfl⟩
 have hq65_14 := hq65_14.mono hle127
 have hq65_15 := hq65_15.mono hle127
 have hq65_16 := hq65_16.mono hle127
 have hq65_17 := hq65_17.mono hle127
 have h23 := h23.mono hle127
 have h26 := h26.mono hle127
 have hq58_0 := hq58_0.mono hle127
 have hE := hE.mono hle127
 refine WL.a0 ?_
 refine Pu (.bool r124) (PO.pickT rfl hb123 rfl) rfl ?_
 refine Pm (.bool r124) rfl rfl ?_
 rcases Bool.eq_false_or_eq_true (r124) with hb129 | hb129
 have h := ite_t hb129 h
 refine On 50 rfl rfl hb129 ?_
 obtain ⟨r130, hr131, h⟩ := bnd h
 refine WL.eff (EO.call0 co21 (f_record_Name_ok (⟨#[97, 46, 98, 45, 49]⟩ : ByteArray) _ r130 hr131) (args1 rfl)) rfl ?_
 rintro _ M132 _ hle133 ⟨_, ⟨rfl, rfl⟩, rfl⟩
 have hq65_14 := hq65_14.mono hle133
 have hq65_15 := hq65_15.mono hle133
 have hq65_16 := hq65_16.mono hle133
 have hq65_17 := hq65_17.mono hle133
 have h23 := h23.mono hle133
 have h26 := h26.mono hle133
 have hq58_0 := hq58_0.mono hle133
 have hE := hE.mono hle133
 refine WL.a0 ?_
 refine Pu (.bool r130) (PO.pickT rfl hb129 rfl) rfl ?_
 refine Pm (.bool r130) rfl rfl ?_
 rcases Bool.eq_false_or_eq_true (r130) with hb135 | hb135
 have h := ite_t hb135 h
 refine On 53 rfl rfl hb135 ?_
 obtain ⟨r136, hr137, h⟩ := bnd h
 refine WL.eff (EO.call0 co21 (f_record_Name_ok (⟨#[46, 46]⟩ : ByteArray) _ r136 hr137) (args1 rfl)) rfl ?_
 rintro _ M138 _ hle139 ⟨_, ⟨rfl, rfl⟩, rfl⟩
 have hq65_14 := hq65_14.mono hle139
 have hq65_15 := hq65_15.mono hle139
 have hq65_16 := hq65_16.mono hle139
 have hq65_17 := hq65_17.mono hle139
 have h23 := h23.mono hle139
 have h26 := h26.mono hle139
 have hq58_0 := hq58_0.mono hle139
 have hE := hE.mono hle139
 refine WL.a0 ?_
 refine On 53 rfl rfl hb135 ?_
 refine Pu (.bool (!r136)) (PO.not rfl) rfl ?_
 refine Pu (.bool (!r136)) (PO.pickT rfl hb135 rfl) rfl ?_
 refine Pm (.bool (!r136)) rfl rfl ?_
 rcases Bool.eq_false_or_eq_true (!r136) with hb141 | hb141
 have h := ite_t hb141 h
 refine On 57 rfl rfl hb141 ?_
 refine WL.eff (EO.buildSliceL (cl := [(.int .i64 1), (.int .i64 64)]) Tryd.underlying22 iz3 rfl (Parts.cons (congrArg Value.cells (show ev _ _ = (.int .i64 1) from rfl)) (Parts.cons (congrArg Value.cells (show ev _ _ = (.int .i64 64) from rfl)) Parts.nil)) rfl) rfl ?_
 rintro _ _ _ - ⟨rfl, g142, rfl, rfl⟩
 have h144 : OwnS (Kd.int .i64) M138 (.slice (some ⟨g142, 0, none⟩) 2 2) [(1 : Int), (64 : Int)] [(g142, .cells #[(.int .i64 1), (.int .i64 64)] 3 (0, 0))] := OwnS.rows (css := [[(.int .i64 1)], [(.int .i64 64)]]) (Rows.cons rfl (Rows.cons rfl Rows.nil)) rfl rfl
 refine On 57 rfl rfl hb141 ?_
 obtain ⟨r145, hr146, h⟩ := bnd h
 refine WL.eff (EO.call1 co23 (Tri.lend fun w0_ H0_ hs0_ => (f_record_Brokers_ok [(1 : Int), (64 : Int)] _ _ (h144.rs hs0_) r145 hr146)) (args1 rfl)) rfl ?_
 rintro _ _ _ hle148 ⟨_, ⟨Ml150, Hl151, hll152, rfl, rfl, ⟨rfl, rfl⟩⟩, rfl⟩
 have hq65_14 := hq65_14.mono hle148
 have hq65_15 := hq65_15.mono hle148
 have hq65_16 := hq65_16.mono hle148
 have hq65_17 := hq65_17.mono hle148
 have h23 := h23.mono hle148
 have h26 := h26.mono hle148
 have h144 := h144.mono hle148
 have hq58_0 := hq58_0.mono hle148
 have hE := hE.mono hle148
 refine WL.a1 ?_
 refine Pu (.bool r145) (PO.pickT rfl hb141 rfl) rfl ?_
 refine Pm (.bool r145) rfl rfl ?_
 rcases Bool.eq_false_or_eq_true (r145) with hb153 | hb153
 have h := ite_t hb153 h
 refine On 61 rfl rfl hb153 ?_
 refine WL.eff (EO.buildSliceL (cl := [(.int .i64 1), (.int .i64 1)]) Tryd.underlying22 iz3 rfl (Parts.cons (congrArg Value.cells (show ev _ _ = (.int .i64 1) from rfl)) (Parts.cons (congrArg Value.cells (show ev _ _ = (.int .i64 1) from rfl)) Parts.nil)) rfl) rfl ?_
 rintro _ _ _ - ⟨rfl, g154, rfl, rfl⟩
 have h156 : OwnS (Kd.int .i64) (Ml150.minus [(g142, .cells #[(.int .i64 1), (.int .i64 64)] 3 (0, 0))]) (.slice (some ⟨g154, 0, none⟩) 2 2) [(1 : Int), (1 : Int)] [(g154, .cells #[(.int .i64 1), (.int .i64 1)] 3 (0, 0))] := OwnS.rows (css := [[(.int .i64 1)], [(.int .i64 1)]]) (Rows.cons rfl (Rows.cons rfl Rows.nil)) rfl rfl
 refine On 61 rfl rfl hb153 ?_
 obtain ⟨r157, hr158, h⟩ := bnd h
 refine WL.eff (EO.call1 co23 (Tri.lend fun w0_ H0_ hs0_ => (f_record_Brokers_ok [(1 : Int), (1 : Int)] _ _ (h156.rs hs0_) r157 hr158)) (args1 rfl)) rfl ?_
 rintro _ _ _ hle160 ⟨_, ⟨Ml162, Hl163, hll164, rfl, rfl, ⟨rfl, rfl⟩⟩, rfl⟩
 have hq65_14 := hq65_14.mono hle160
 have hq65_15 := hq65_15.mono hle160
 have hq65_16 := hq65_16.mono hle160
 have hq65_17 := hq65_17.mono hle160
 have h23 := h23.mono hle160
 have h26 := h26.mono hle160
 have h144 := h144.mono hle160
 have h156 := h156.mono hle160
 have hq58_0 := hq58_0.mono hle160
 have hE := hE.mono hle160
 refine WL.a1 ?_
 refine On 61 rfl rfl hb153 ?_
 refine Pu (.bool (!r157)) (PO.not rfl) rfl ?_
 refine Pu (.bool (!r157)) (PO.pickT rfl hb153 rfl) rfl ?_
 refine Pa (.bool (!r157)) rfl rfl ?_
 refine WL.nil ?_
 refine WQ.drop ?_
 refine WQ.drop ?_
 refine WQ.f5 ?_
 refine WQ.f5 ?_
 refine WQ.f5 ?_
 refine WQ.f5 ?_
 refine WQ.f5 ?_
 refine WQ.f5 ?_
 refine WQ.f8 ?_
 refine WQ.f7 ?_
 refine WQ.f8 ?_
 obtain rfl := Option.some.inj h
 refine WQ.thenJ ?_
 exact ⟨(((((((hle79.trans hle85).trans hle109).trans hle127).trans hle133).trans hle139).trans hle148).trans hle160), rfl, rfl⟩
 have h := ite_f hb153 h
 iterate 3 refine Of 61 rfl rfl hb153 rfl ?_
 refine Pu (.bool false) (PO.pickF rfl hb153 rfl) rfl ?_
 refine Pa (.bool false) rfl rfl ?_
 refine WL.nil ?_
 refine WQ.drop ?_
 refine WQ.f5 ?_
 refine WQ.f5 ?_
 refine WQ.f5 ?_
 refine WQ.f5 ?_
 refine WQ.f5 ?_
 refine WQ.f5 ?_
 refine WQ.f8 ?_
 refine WQ.f7 ?_
 refine WQ.f8 ?_
 obtain rfl := Option.some.inj h
 refine WQ.thenJ ?_
 exact ⟨((((((hle79.trans hle85).trans hle109).trans hle127).trans hle133).trans hle139).trans hle148), rfl, rfl⟩
 have h := ite_f hb141 h
 iterate 2 refine Of 57 rfl rfl hb141 rfl ?_
 refine Pu (.bool false) (PO.pickF rfl hb141 rfl) rfl ?_
 refine Pm (.bool false) rfl rfl ?_
 iterate 3 refine Of 61 rfl rfl rfl rfl ?_
 refine Pu (.bool false) (PO.pickF rfl rfl rfl) rfl ?_
 refine Pa (.bool false) rfl rfl ?_
 refine WL.nil ?_
 refine WQ.f5 ?_
 refine WQ.f5 ?_
 refine WQ.f5 ?_
 refine WQ.f5 ?_
 refine WQ.f5 ?_
 refine WQ.f5 ?_
 refine WQ.f8 ?_
 refine WQ.f7 ?_
 refine WQ.f8 ?_
 obtain rfl := Option.some.inj h
 refine WQ.thenJ ?_
 exact ⟨(((((hle79.trans hle85).trans hle109).trans hle127).trans hle133).trans hle139), rfl, rfl⟩
 have h := ite_f hb135 h
 iterate 2 refine Of 53 rfl rfl hb135 rfl ?_
 refine Pu (.bool false) (PO.pickF rfl hb135 rfl) rfl ?_
 refine Pm (.bool false) rfl rfl ?_
 iterate 2 refine Of 57 rfl rfl rfl rfl ?_
 refine Pu (.bool false) (PO.pickF rfl rfl rfl) rfl ?_
 refine Pm (.bool false) rfl rfl ?_
 iterate 3 refine Of 61 rfl rfl rfl rfl ?_
 refine Pu (.bool false) (PO.pickF rfl rfl rfl) rfl ?_
 refine Pa (.bool false) rfl rfl ?_
 refine WL.nil ?_
 refine WQ.f5 ?_
 refine WQ.f5 ?_
 refine WQ.f5 ?_
 refine WQ.f5 ?_
 refine WQ.f5 ?_
 refine WQ.f5 ?_
 refine WQ.f8 ?_
 refine WQ.f7 ?_
 refine WQ.f8 ?_
 obtain rfl := Option.some.inj h
 refine WQ.thenJ ?_
 exact ⟨((((hle79.trans hle85).trans hle109).trans hle127).trans hle133), rfl, rfl⟩
 have h := ite_f hb129 h
 refine Of 50 rfl rfl hb129 rfl ?_
 refine Pu (.bool false) (PO.pickF rfl hb129 rfl) rfl ?_
 refine Pm (.bool false) rfl rfl ?_
 iterate 2 refine Of 53 rfl rfl rfl rfl ?_
 refine Pu (.bool false) (PO.pickF rfl rfl rfl) rfl ?_
 refine Pm (.bool false) rfl rfl ?_
 iterate 2 refine Of 57 rfl rfl rfl rfl ?_
 refine Pu (.bool false) (PO.pickF rfl rfl rfl) rfl ?_
 refine Pm (.bool false) rfl rfl ?_
 iterate 3 refine Of 61 rfl rfl rfl rfl ?_
 refine Pu (.bool false) (PO.pickF rfl rfl rfl) rfl ?_
 refine Pa (.bool false) rfl rfl ?_
 refine WL.nil ?_
 refine WQ.f5 ?_
 refine WQ.f5 ?_
 refine WQ.f5 ?_
 refine WQ.f5 ?_
 refine WQ.f5 ?_
 refine WQ.f5 ?_
 refine WQ.f8 ?_
 refine WQ.f7 ?_
 refine WQ.f8 ?_
 obtain rfl := Option.some.inj h
 refine WQ.thenJ ?_
 exact ⟨(((hle79.trans hle85).trans hle109).trans hle127), rfl, rfl⟩
 have h := ite_f hb123 h
 iterate 2 refine Of 46 rfl rfl hb123 rfl ?_
 refine Pu (.bool false) (PO.pickF rfl hb123 rfl) rfl ?_
 refine Pm (.bool false) rfl rfl ?_
 refine Of 50 rfl rfl rfl rfl ?_
 refine Pu (.bool false) (PO.pickF rfl rfl rfl) rfl ?_
 refine Pm (.bool false) rfl rfl ?_
 iterate 2 refine Of 53 rfl rfl rfl rfl ?_
 refine Pu (.bool false) (PO.pickF rfl rfl rfl) rfl ?_
 refine Pm (.bool false) rfl rfl ?_
 iterate 2 refine Of 57 rfl rfl rfl rfl ?_
 refine Pu (.bool false) (PO.pickF rfl rfl rfl) rfl ?_
 refine Pm (.bool false) rfl rfl ?_
 iterate 3 refine Of 61 rfl rfl rfl rfl ?_
 refine Pu (.bool false) (PO.pickF rfl rfl rfl) rfl ?_
 refine Pa (.bool false) rfl rfl ?_
 refine WL.nil ?_
 refine WQ.f5 ?_
 refine WQ.f5 ?_
 refine WQ.f5 ?_
 refine WQ.f5 ?_
 refine WQ.f5 ?_
 refine WQ.f5 ?_
 refine WQ.f8 ?_
 refine WQ.f7 ?_
 refine WQ.f8 ?_
 obtain rfl := Option.some.inj h
 refine WQ.thenJ ?_
 exact ⟨((hle79.trans hle85).trans hle109), rfl, rfl⟩
 have h := ite_f hb105 h
 iterate 4 refine Of 40 rfl rfl hb105 rfl ?_
 refine Pu (.bool false) (PO.pickF rfl hb105 rfl) rfl ?_
 refine Pm (.bool false) rfl rfl ?_
 iterate 2 refine Of 46 rfl rfl rfl rfl ?_
 refine Pu (.bool false) (PO.pickF rfl rfl rfl) rfl ?_
 refine Pm (.bool false) rfl rfl ?_
 refine Of 50 rfl rfl rfl rfl ?_
 refine Pu (.bool false) (PO.pickF rfl rfl rfl) rfl ?_
 refine Pm (.bool false) rfl rfl ?_
 iterate 2 refine Of 53 rfl rfl rfl rfl ?_
 refine Pu (.bool false) (PO.pickF rfl rfl rfl) rfl ?_
 refine Pm (.bool false) rfl rfl ?_
 iterate 2 refine Of 57 rfl rfl rfl rfl ?_
 refine Pu (.bool false) (PO.pickF rfl rfl rfl) rfl ?_
 refine Pm (.bool false) rfl rfl ?_
 iterate 3 refine Of 61 rfl rfl rfl rfl ?_
 refine Pu (.bool false) (PO.pickF rfl rfl rfl) rfl ?_
 refine Pa (.bool false) rfl rfl ?_
 refine WL.nil ?_
 refine WQ.f5 ?_
 refine WQ.f5 ?_
 refine WQ.f5 ?_
 refine WQ.f5 ?_
 refine WQ.f5 ?_
 refine WQ.f5 ?_
 refine WQ.f8 ?_
 refine WQ.f7 ?_
 refine WQ.f8 ?_
 obtain rfl := Option.some.inj h
 refine WQ.thenJ ?_
 exact ⟨(hle79.trans hle85), rfl, rfl⟩
 have h := ite_f hb81 h
 iterate 3 refine Of 35 rfl rfl hb81 rfl ?_
 refine Pu (.bool false) (PO.pickF rfl hb81 rfl) rfl ?_
 refine Pm (.bool false) rfl rfl ?_
 iterate 4 refine Of 40 rfl rfl rfl rfl ?_
 refine Pu (.bool false) (PO.pickF rfl rfl rfl) rfl ?_
 refine Pm (.bool false) rfl rfl ?_
 iterate 2 refine Of 46 rfl rfl rfl rfl ?_
 refine Pu (.bool false) (PO.pickF rfl rfl rfl) rfl ?_
 refine Pm (.bool false) rfl rfl ?_
 refine Of 50 rfl rfl rfl rfl ?_
 refine Pu (.bool false) (PO.pickF rfl rfl rfl) rfl ?_
 refine Pm (.bool false) rfl rfl ?_
 iterate 2 refine Of 53 rfl rfl rfl rfl ?_
 refine Pu (.bool false) (PO.pickF rfl rfl rfl) rfl ?_
 refine Pm (.bool false) rfl rfl ?_
 iterate 2 refine Of 57 rfl rfl rfl rfl ?_
 refine Pu (.bool false) (PO.pickF rfl rfl rfl) rfl ?_
 refine Pm (.bool false) rfl rfl ?_
 iterate 3 refine Of 61 rfl rfl rfl rfl ?_
 refine Pu (.bool false) (PO.pickF rfl rfl rfl) rfl ?_
 refine Pa (.bool false) rfl rfl ?_
 refine WL.nil ?_
 refine WQ.f8 ?_
 refine WQ.f8 ?_
 refine WQ.f7 ?_
 refine WQ.f7 ?_
 refine WQ.f7 ?_
 refine WQ.f7 ?_
 refine WQ.f8 ?_
 refine WQ.f7 ?_
 refine WQ.f8 ?_
 obtain rfl := Option.some.inj h
 refine WQ.thenJ ?_
 exact ⟨hle79, rfl, rfl⟩
 obtain ⟨x72, x73⟩ := j74
 rintro ρ74 M74 H74 ⟨hle74, rfl, hs74_0⟩
 have hq65_14 := hq65_14.mono hle74
 have hq65_15 := hq65_15.mono hle74
 have hq65_16 := hq65_16.mono hle74
 have hq65_17 := hq65_17.mono hle74
 have hq58_0 := hq58_0.mono hle74
 have h23 := h23.mono hle74
 have h26 := h26.mono hle74
 have hE := hE.mono hle74
 refine WC.ret ?_
 refine WQ.drop ?_
 refine WQ.drop ?_
 refine WQ.drop ?_
 refine WQ.drop ?_
 refine WQ.drop ?_
 refine WQ.drop ?_
 refine WQ.drop ?_
 refine WQ.drop ?_
 refine WQ.drop ?_
 exact WQ.returnsF h [] rfl (results1 rfl hs74_0) ((((((hle35.trans hle45).trans hle50).trans hle56).trans hle64).trans hle70).trans hle74) ⟨rfl, rfl⟩

noncomputable def f_ref02_Ints_l0 (a0 : (List Int)) (a1 : (List Int)) (s_ : Int) : Option (Int ⊕ (Unit ⊕ Unit)) :=
  match s_ with
  | x24 =>
    (if (decide (x24 < (a0.length : Int))) = true then (grd (0 ≤ x24 ∧ x24 < a0.length) (grd (0 ≤ x24 ∧ x24 < a1.length) (if (decide ((rd a0 x24) ≠ (rd a1 x24))) = true then (some (Sum.inr (Sum.inr ()))) else (some (Sum.inl (IntKind.i64.wrap (x24 + (1 : Int)))))))) else (some (Sum.inr (Sum.inl ()))))
noncomputable def f_ref02_Ints (a0 : (List Int)) (a1 : (List Int)) : Option Bool :=
  (if (decide ((a0.length : Int) ≠ (a1.length : Int))) = true then (some false) else ((((iter (f_ref02_Ints_l0 a0 a1) (0 : Int)).bind (Sum.elim (fun _ => (some (Sum.inl ()))) (fun _ => (((some false)).bind fun r => some (Sum.inr r))))) : Option (Unit ⊕ Bool)).bind (Sum.elim (fun _ => (some true)) some)))
def f_ref02_Ints_post (a0 : (List Int)) (a1 : (List Int)) (v0 v1 : Value) : Bool → Value → IM → HL → Prop :=
  fun (r0 : Bool) (v : Value) (M' : IM) (H' : HL) => (.bool r0) = v ∧ H' = []
theorem f_ref02_Ints_ok (a0 : (List Int)) (a1 : (List Int)) (M : IM) (v0 v1 : Value) (h0 : RS (Kd.int .i64) M v0 a0) (h1 : RS (Kd.int .i64) M v1 a1) (res : Bool) (h : f_ref02_Ints a0 a1 = some res) :
    Tri Tryd.prog 45 #[v0, v1] M [] (f_ref02_Ints_post a0 a1 v0 v1 res) := by
 unfold f_ref02_Ints at h
 refine Tri.enter (fn := Tryd.f45) Tryd.func45 rfl (Nat.le_of_ble_eq_true rfl) ?_
 intro F ρ hρ
 refine Sr ?_
 refine Pa (.bool false) rfl rfl ?_
 refine Nt ?_
 refine WC.seq ?_
 refine Sr ?_
 refine Pm v0 (hρ 0) rfl ?_
 refine Pu (.int .i64 (a0.length : Int)) (PO.lenS Tryd.underlying22 rfl h0.len) rfl ?_
 refine Pm v1 (hρ 1) rfl ?_
 refine Pu (.int .i64 (a1.length : Int)) (PO.lenS Tryd.underlying22 rfl h1.len) rfl ?_
 refine Pu (.bool (decide ((a0.length : Int) ≠ (a1.length : Int)))) (PO.neq rfl rfl) rfl ?_
 refine Nt ?_
 refine WC.cond (b := decide ((a0.length : Int) ≠ (a1.length : Int))) rfl (fun hb21 => ?_) (fun hb21 => ?_)
 have h := ite_t hb21 h
 refine Sr ?_
 refine Pa (.bool false) rfl rfl ?_
 refine Nt ?_
 refine WC.ret ?_
 refine WQ.thenR ?_
 exact WQ.returnsF h [] rfl (results1 rfl rfl) (IM.le.refl _) ⟨rfl, rfl⟩
 have h := ite_f hb21 h
 refine WC.skip ?_
 refine WQ.thenC ?_
 obtain ⟨j22, hj22, h⟩ := bnd h
 refine WC.joinE (fun (_ : Unit) ρ' M' H' => M.le M' ∧ F = H') j22 ?_ ?_
 have h322 := h
 have h := hj22
 refine Sr ?_
 refine Pa (.int .i64 0) rfl rfl ?_
 refine Nt ?_
 refine WC.block ?_
 obtain ⟨e23, he23, hK23⟩ := bnd h
 clear h
 refine WC.loop he23 (fun (x24 : Int) ρ' M' H' => M.le M' ∧ F = H' ∧ ρ' 0 = v0 ∧ ρ' 1 = v1 ∧ ρ' 5 = (.int .i64 x24)) ?_ ?_
 exact ⟨(IM.le.refl _), rfl, (hρ 0), (hρ 1), rfl⟩
 rintro x24 o23 ρ23 M23 H23 h ⟨hle23, rfl, hs23_0, hs23_1, hs23_5⟩
 unfold f_ref02_Ints_l0 at h
 have h0 := h0.mono hle23
 have h1 := h1.mono hle23
 refine WC.seq ?_
 refine Sr ?_
 refine Pm (.int .i64 x24) hs23_5 rfl ?_
 refine Pm v0 hs23_0 rfl ?_
 refine Pu (.int .i64 (a0.length : Int)) (PO.lenS Tryd.underlying22 rfl h0.len) rfl ?_
 refine Pu (.bool (decide (x24 < (a0.length : Int)))) (PO.lss rfl rfl) rfl ?_
 refine Nt ?_
 refine WC.cond (b := decide (x24 < (a0.length : Int))) rfl (fun hb25 => ?_) (fun hb25 => ?_)
 have h := ite_t hb25 h
 refine WC.skip ?_
 refine WQ.thenC ?_
 refine WC.seq ?_
 refine WC.block ?_
 refine WC.seq ?_
 refine WC.draw [0, 0, 3, 7, 0, 0, 48, 112, 255] (.pure 0 (.pure 1 (.pure 2 (.pure 3 (.pure 4 (.pure 5 (.pure 6 (.pure 7 (.pure 8 .done))))))))) mixed (by kernel_rfl) ?_
 refine Tp v0 rfl (PO.move hs23_0) rfl ?_
 refine Tp (.int .i64 x24) rfl (PO.move hs23_5) rfl ?_
 obtain ⟨hg26, h⟩ := grd_i h
 obtain ⟨p27, cs28, hat29, hrc30, hhas31⟩ := h0.at hg26.1 hg26.2 (by decide)
 obtain rfl := hrc30
 refine Tp (.pointer (some p27)) rfl (PO.indexAddr (n := a0.length) Tryd.underlying22 sz3 rfl rfl hg26.1 hg26.2 hat29) rfl ?_
 refine Tp (.int .i64 (rd a0 x24)) rfl (PO.loadM pl3 rfl (IM.has0 hhas31)) rfl ?_
 refine Tp v1 rfl (PO.move hs23_1) rfl ?_
 refine Tp (.int .i64 x24) rfl (PO.move hs23_5) rfl ?_
 obtain ⟨hg33, h⟩ := grd_i h
 obtain ⟨p34, cs35, hat36, hrc37, hhas38⟩ := h1.at hg33.1 hg33.2 (by decide)
 obtain rfl := hrc37
 refine Tp (.pointer (some p34)) rfl (PO.indexAddr (n := a1.length) Tryd.underlying22 sz3 rfl rfl hg33.1 hg33.2 hat36) rfl ?_
 refine Tp (.int .i64 (rd a1 x24)) rfl (PO.loadM pl3 rfl (IM.has0 hhas38)) rfl ?_
 refine Tp (.bool (decide ((rd a0 x24) ≠ (rd a1 x24)))) rfl (PO.neq rfl rfl) rfl ?_
 refine WT.fin ?_
 refine WQ.thenC ?_
 refine WC.cond (b := decide ((rd a0 x24) ≠ (rd a1 x24))) rfl (fun hb40 => ?_) (fun hb40 => ?_)
 have h := ite_t hb40 h
 refine Sr ?_
 refine Pa (.bool false) rfl rfl ?_
 refine Nt ?_
 refine WC.ret ?_
 refine WQ.blockR ?_
 refine WQ.thenR ?_
 refine WQ.leaveR (Sum.inr ()) (Option.some.inj h).symm (fun heq23 => ?_)
 subst heq23
 have h := (elimR hK23)
 refine WQ.blockR ?_
 refine WQ.thenR ?_
 have h := KK.early h h322
 exact WQ.returnsF h [] rfl (results1 rfl rfl) hle23 ⟨rfl, rfl⟩
 have h := ite_f hb40 h
 refine WC.skip ?_
 refine WQ.blockN ?_
 refine WQ.thenC ?_
 refine WC.region ?_
 refine Pm (.int .i64 x24) hs23_5 rfl ?_
 refine Pu (.int .i64 (IntKind.i64.wrap (x24 + 1))) (PO.add rfl rfl) rfl ?_
 refine Pa (.int .i64 (IntKind.i64.wrap (x24 + 1))) rfl rfl ?_
 refine WL.nil ?_
 refine WQ.again (IntKind.i64.wrap (x24 + 1)) (Option.some.inj h).symm ?_
 exact ⟨hle23, rfl, hs23_0, hs23_1, rfl⟩
 have h := ite_f hb25 h
 refine WC.exit ?_
 refine WQ.thenE ?_
 refine WQ.leaveE (Sum.inl ()) (Option.some.inj h).symm (fun heq23 => ?_)
 subst heq23
 have h := elimL hK23
 refine WQ.blockH ?_
 refine WQ.thenFE h ?_
 exact ⟨hle23, rfl⟩
 rintro _ ρ22 M22 H22 rfl ⟨hle22, rfl⟩
 have h := (Sum.elim_inl _ _ _).symm.trans h
 refine Sr ?_
 refine Pa (.bool true) rfl rfl ?_
 refine Nt ?_
 refine WC.ret ?_
 exact WQ.returnsF h [] rfl (results1 rfl rfl) hle22 ⟨rfl, rfl⟩


end Go.Proofs.YtafkdjljkolehaaDoor.G
