/- Go functions: what they come to, and that they do. Printed by a program of the session (gen). -/
import Derived.Test.YtjiffdgidodebaaDoorFF
import Derived.Test.YtjiffdgidodebaaDoorF8
import Derived.Test.YtjiffdgidodebaaDoorKShar
set_option linter.unusedVariables false
set_option linter.unusedSimpArgs false
set_option maxHeartbeats 8000000
set_option maxRecDepth 100000
namespace Go.Proofs.YtjiffdgidodebaaDoor.G
open Go Go.KK

noncomputable def f_law04_FrameSpoilt (a0 : T_api_Frame) (a1 : Int) (a2 : Int) : Option Bool :=
  ((((f_law04_light [a0]).bind fun (r27 : Bool) => (if (!r27) = true then (some true) else (some (decide (a2 = (0 : Int)))))) : Option Bool).bind fun (x22 : Bool) => (if x22 = true then ((f_law04_works).bind fun (r37 : Bool) => (some r37)) else ((f_frame_Put a0).bind fun (r42, r43) => (if (!r43.isNil) = true then ((f_law04_works).bind fun (r50 : Bool) => (some r50)) else (if (decide ((r42.length : Int) = (0 : Int))) = true then (some false) else (grd (IntKind.u64.wrap (r42.length : Int) ≠ 0) (grd (0 ≤ IntKind.i64.wrap ((IntKind.u64.wrap a1).tmod (IntKind.u64.wrap (r42.length : Int))) ∧ IntKind.i64.wrap ((IntKind.u64.wrap a1).tmod (IntKind.u64.wrap (r42.length : Int))) < r42.length) (grd (0 ≤ IntKind.i64.wrap ((IntKind.u64.wrap a1).tmod (IntKind.u64.wrap (r42.length : Int))) ∧ IntKind.i64.wrap ((IntKind.u64.wrap a1).tmod (IntKind.u64.wrap (r42.length : Int))) < r42.length) ((f_frame_Next (r42.set (IntKind.i64.wrap ((IntKind.u64.wrap a1).tmod (IntKind.u64.wrap (r42.length : Int)))).toNat (xorI .u8 (rd r42 (IntKind.i64.wrap ((IntKind.u64.wrap a1).tmod (IntKind.u64.wrap (r42.length : Int))))) a2))).bind fun (r73, r74, r75) => (((if (decide (r74 = (0 : Int))) = true then ((f_law04_works).bind fun (r89 : Bool) => (some r89)) else (if (decide (r74 < ((r42.set (IntKind.i64.wrap ((IntKind.u64.wrap a1).tmod (IntKind.u64.wrap (r42.length : Int)))).toNat (xorI .u8 (rd r42 (IntKind.i64.wrap ((IntKind.u64.wrap a1).tmod (IntKind.u64.wrap (r42.length : Int))))) a2)).length : Int))) = true then ((f_law04_works).bind fun (r95 : Bool) => (some r95)) else (if (decide (r73.Kind ≠ a0.Kind)) = true then ((f_law04_works).bind fun (r101 : Bool) => (some r101)) else ((f_ref02_Same r73.Body a0.Body).bind fun (r106 : Bool) => (if (!r106) = true then ((f_law04_works).bind fun (r115 : Bool) => (some r115)) else (some false)))))) : Option Bool).bind fun (x86 : Bool) => (some x86)))))))))))
def f_law04_FrameSpoilt_post (a0 : T_api_Frame) (a1 : Int) (a2 : Int) (v0_1 : Value) : Bool → Value → IM → HL → Prop :=
  fun (r0 : Bool) (v : Value) (M' : IM) (H' : HL) => (.bool r0) = v ∧ H' = []
theorem f_law04_FrameSpoilt_ok (a0 : T_api_Frame) (a1 : Int) (a2 : Int) (M : IM) (v0_1 : Value) (h0_1 : RS (Kd.int .u8) M v0_1 a0.Body) (hE : Env M) (res : Bool) (h : f_law04_FrameSpoilt a0 a1 a2 = some res) :
    Tri Tryd.prog 4 #[(.agg #[(.int .i64 a0.Kind), v0_1]), (.int .i64 a1), (.int .u8 a2)] M [] (f_law04_FrameSpoilt_post a0 a1 a2 v0_1 res) := by
 unfold f_law04_FrameSpoilt at h
 refine Tri.enter (fn := Tryd.f4) Tryd.func4 rfl (Nat.le_of_ble_eq_true rfl) ?_
 intro F ρ hρ
 refine Sr ?_
 refine WL.eff (EO.box (cs := #[(.int .i64 a0.Kind), v0_1]) (congrArg Value.cells (asE (.agg #[(.int .i64 a0.Kind), v0_1]) (hρ 0)))) rfl ?_
 rintro _ _ _ - ⟨rfl, g21, rfl, rfl⟩
 refine Pa (.bool false) rfl rfl ?_
 refine Nt ?_
 refine WC.seq ?_
 obtain ⟨x22, hj23, h⟩ := bnd h
 refine WC.joinF (fun (x22 : Bool) ρ' M' H' => M.le M' ∧ [(g21, .cells #[(.int .i64 a0.Kind), v0_1] 40 (0, 0))] :: F = H' ∧ ρ' 1 = (.int .i64 a1) ∧ ρ' 2 = (.int .u8 a2) ∧ ρ' 3 = (pt g21 0) ∧ ρ' 20 = (.bool x22)) x22 ?_ ?_
 have h323 := h
 have h := hj23
 refine WC.region ?_
 refine Pu (.agg #[(.int .i64 a0.Kind), v0_1]) (PO.loadBA (cs := [(.int .i64 a0.Kind), v0_1]) 0 ag40 sz40 rfl rfl rfl) rfl ?_
 refine WL.eff (EO.buildSliceL (cl := [(.int .i64 a0.Kind), v0_1]) Tryd.underlying22 iz40 rfl (Parts.cons (congrArg Value.cells (show ev _ _ = (.agg #[(.int .i64 a0.Kind), v0_1]) from rfl)) Parts.nil) rfl) rfl ?_
 rintro _ _ _ - ⟨rfl, g24, rfl, rfl⟩
 have h26 : OwnS kd_api_Frame M (.slice (some ⟨g24, 0, none⟩) 1 1) [a0] [(g24, .cells #[(.int .i64 a0.Kind), v0_1] 40 (0, 0))] := OwnS.rows (css := [[(.int .i64 a0.Kind), v0_1]]) (Rows.cons (kd_api_Frame_mk (x := a0) h0_1) Rows.nil) rfl rfl
 obtain ⟨r27, hr28, h⟩ := bnd h
 refine WL.eff (EO.call1 co10 (Tri.lend h26.excl fun w0_ H0_ hs0_ => (f_law04_light_ok [a0] _ _ (h26.rs hs0_) r27 hr28)) (args1 rfl)) rfl ?_
 rintro _ _ _ hle30 ⟨_, ⟨Ml32, Hl33, hll34, rfl, rfl, ⟨rfl, rfl⟩⟩, rfl⟩
 have h0_1 := h0_1.mono hle30
 have h26 := h26.mono hle30
 have hE := hE.mono hle30
 refine WL.a1 ?_
 refine Pu (.bool (!r27)) (PO.not rfl) rfl ?_
 refine Pm (.bool (!r27)) rfl rfl ?_
 rcases Bool.eq_false_or_eq_true (!r27) with hb35 | hb35
 have h := ite_t hb35 h
 iterate 2 refine Of 17 rfl rfl hb35 rfl ?_
 refine Pu (.bool true) (PO.pickT rfl hb35 rfl) rfl ?_
 refine WL.nil ?_
 refine WQ.drop ?_
 obtain rfl := Option.some.inj h
 refine WQ.thenJ ?_
 exact ⟨hle30, rfl, (hρ 1), (hρ 2), rfl, rfl⟩
 have h := ite_f hb35 h
 refine On 17 rfl rfl hb35 ?_
 refine Pm (.int .u8 a2) (hρ 2) rfl ?_
 refine On 17 rfl rfl hb35 ?_
 refine Pu (.bool (decide (a2 = 0))) (PO.eql rfl rfl) rfl ?_
 refine Pu (.bool (decide (a2 = 0))) (PO.pickF rfl hb35 rfl) rfl ?_
 refine WL.nil ?_
 refine WQ.drop ?_
 obtain rfl := Option.some.inj h
 refine WQ.thenJ ?_
 exact ⟨hle30, rfl, (hρ 1), (hρ 2), rfl, rfl⟩
 rintro ρ23 M23 H23 ⟨hle23, rfl, hs23_1, hs23_2, hs23_3, hs23_20⟩
 have h0_1 := h0_1.mono hle23
 have hE := hE.mono hle23
 refine WC.cond (b := x22) hs23_20 (fun hb36 => ?_) (fun hb36 => ?_)
 have h := ite_t hb36 h
 refine Sr ?_
 obtain ⟨r37, hr38, h⟩ := bnd h
 refine WL.eff (EO.call0 co11 (f_law04_works_ok _ hE r37 hr38) (args0)) rfl ?_
 rintro _ M39 _ hle40 ⟨_, ⟨rfl, rfl⟩, rfl⟩
 have h0_1 := h0_1.mono hle40
 have hE := hE.mono hle40
 refine WL.a0 ?_
 refine Pa (.bool r37) rfl rfl ?_
 refine Nt ?_
 refine WC.ret ?_
 refine WQ.thenR ?_
 refine WQ.drop ?_
 exact WQ.returnsF h [] rfl (results1 rfl rfl) (hle23.trans hle40) ⟨rfl, rfl⟩
 have h := ite_f hb36 h
 refine WC.skip ?_
 refine WQ.thenC ?_
 refine Sr ?_
 refine Pu (.agg #[(.int .i64 a0.Kind), v0_1]) (PO.loadBA (cs := [(.int .i64 a0.Kind), v0_1]) 0 ag40 sz40 hs23_3 rfl rfl) rfl ?_
 obtain ⟨⟨r42, r43⟩, hr44, h⟩ := bnd h
 refine WL.eff (EO.call0 co17 (f_frame_Put_ok a0 _ _ h0_1 (r42, r43) hr44) (args1 rfl)) rfl ?_
 rintro _ M45 _ hle46 ⟨_, ⟨vq47, cq47, rfl, rfl, hq47⟩, rfl⟩
 have h0_1 := h0_1.mono hle46
 have hE := hE.mono hle46
 refine WL.a1 ?_
 refine Pm (.tuple #[vq47, (GV r43)]) rfl rfl ?_
 refine Pu vq47 (PO.extract rfl rfl) rfl ?_
 refine Pu (GV r43) (PO.extract rfl rfl) rfl ?_
 refine Pa vq47 rfl rfl ?_
 refine Pa (GV r43) rfl rfl ?_
 refine Nt ?_
 refine WC.seq ?_
 refine Sr ?_
 refine Pm (GV r43) rfl rfl ?_
 refine Pu (.bool (!r43.isNil)) (PO.errNotNil Tryd.underlying28 rfl) rfl ?_
 refine Nt ?_
 refine WC.cond (b := !r43.isNil) rfl (fun hb49 => ?_) (fun hb49 => ?_)
 have h := ite_t hb49 h
 refine Sr ?_
 obtain ⟨r50, hr51, h⟩ := bnd h
 refine WL.eff (EO.call0 co11 (f_law04_works_ok _ hE r50 hr51) (args0)) rfl ?_
 rintro _ M52 _ hle53 ⟨_, ⟨rfl, rfl⟩, rfl⟩
 have hq47 := hq47.mono hle53
 have h0_1 := h0_1.mono hle53
 have hE := hE.mono hle53
 refine WL.a0 ?_
 refine Pa (.bool r50) rfl rfl ?_
 refine Nt ?_
 refine WC.ret ?_
 refine WQ.thenR ?_
 refine WQ.drop ?_
 refine WQ.drop ?_
 exact WQ.returnsF h [] rfl (results1 rfl rfl) ((hle23.trans hle46).trans hle53) ⟨rfl, rfl⟩
 have h := ite_f hb49 h
 refine WC.skip ?_
 refine WQ.thenC ?_
 refine WC.seq ?_
 refine Sr ?_
 refine Pm vq47 rfl rfl ?_
 refine Pu (.int .i64 (r42.length : Int)) (PO.lenS Tryd.underlying26 rfl hq47.len) rfl ?_
 refine Pu (.bool (decide ((r42.length : Int) = (0 : Int)))) (PO.eql rfl rfl) rfl ?_
 refine Nt ?_
 refine WC.cond (b := decide ((r42.length : Int) = (0 : Int))) rfl (fun hb55 => ?_) (fun hb55 => ?_)
 have h := ite_t hb55 h
 refine Sr ?_
 refine Pa (.bool false) rfl rfl ?_
 refine Nt ?_
 refine WC.ret ?_
 refine WQ.thenR ?_
 refine WQ.drop ?_
 refine WQ.drop ?_
 exact WQ.returnsF h [] rfl (results1 rfl rfl) (hle23.trans hle46) ⟨rfl, rfl⟩
 have h := ite_f hb55 h
 refine WC.skip ?_
 refine WQ.thenC ?_
 refine Sr ?_
 refine Pm (.int .i64 a1) hs23_1 rfl ?_
 refine Pu (.int .u64 (IntKind.u64.wrap a1)) (PO.conv us3 Tryd.underlying42 rfl) rfl ?_
 refine Pm vq47 rfl rfl ?_
 refine Pu (.int .i64 (r42.length : Int)) (PO.lenS Tryd.underlying26 rfl hq47.len) rfl ?_
 refine Pu (.int .u64 (IntKind.u64.wrap (r42.length : Int))) (PO.conv us3 Tryd.underlying42 rfl) rfl ?_
 obtain ⟨hg56, h⟩ := grd_i h
 refine Pu (.int .u64 ((IntKind.u64.wrap a1).tmod (IntKind.u64.wrap (r42.length : Int)))) (PO.rem rfl rfl hg56) rfl ?_
 refine Pu (.int .i64 (IntKind.i64.wrap ((IntKind.u64.wrap a1).tmod (IntKind.u64.wrap (r42.length : Int))))) (PO.conv us42 Tryd.underlying3 rfl) rfl ?_
 refine Pa (.int .i64 (IntKind.i64.wrap ((IntKind.u64.wrap a1).tmod (IntKind.u64.wrap (r42.length : Int))))) rfl rfl ?_
 refine Ns ?_
 refine Pm vq47 rfl rfl ?_
 refine Pm (.int .i64 (IntKind.i64.wrap ((IntKind.u64.wrap a1).tmod (IntKind.u64.wrap (r42.length : Int))))) rfl rfl ?_
 refine Pm vq47 rfl rfl ?_
 refine Pm (.int .i64 (IntKind.i64.wrap ((IntKind.u64.wrap a1).tmod (IntKind.u64.wrap (r42.length : Int))))) rfl rfl ?_
 obtain ⟨hg57, h⟩ := grd_i h
 obtain ⟨p58, cs59, hat60, hrc61, hhas62⟩ := hq47.at hg57.1 hg57.2
 obtain rfl := hrc61
 refine Pu (.pointer (some p58)) (PO.indexAddr (n := r42.length) Tryd.underlying26 sz5 rfl rfl hg57.1 hg57.2 hat60) rfl ?_
 refine Pu (.int .u8 (rd r42 (IntKind.i64.wrap ((IntKind.u64.wrap a1).tmod (IntKind.u64.wrap (r42.length : Int)))))) (PO.loadC 0 pl5 rfl rfl (chunkHas0 hhas62)) rfl ?_
 refine Pm (.int .u8 a2) hs23_2 rfl ?_
 refine Pu (.int .u8 (xorI .u8 (rd r42 (IntKind.i64.wrap ((IntKind.u64.wrap a1).tmod (IntKind.u64.wrap (r42.length : Int))))) a2)) (PO.xor rfl rfl) rfl ?_
 obtain ⟨hg64, h⟩ := grd_i h
 obtain ⟨p65, cs66, hat67, hrc68, hhas69⟩ := hq47.at hg64.1 hg64.2
 obtain rfl := hrc68
 refine Pu (.pointer (some p65)) (PO.indexAddr (n := r42.length) Tryd.underlying26 sz5 rfl rfl hg64.1 hg64.2 hat67) rfl ?_
 refine WL.eff (EO.storeOwn (dd := (Kd.int .u8)) (a := (xorI .u8 (rd r42 (IntKind.i64.wrap ((IntKind.u64.wrap a1).tmod (IntKind.u64.wrap (r42.length : Int))))) a2)) sz5 rfl hat67 rfl hg64.1 hg64.2 rfl hq47 rfl) rfl ?_
 rintro _ _ _ - ⟨rfl, c71, rfl, h72⟩
 refine Ns ?_
 refine Pm vq47 rfl rfl ?_
 obtain ⟨⟨r73, r74, r75⟩, hr76, h⟩ := bnd h
 refine WL.eff (EO.call1 co18 (Tri.lend h72.excl fun w0_ H0_ hs0_ => (f_frame_Next_ok (r42.set (IntKind.i64.wrap ((IntKind.u64.wrap a1).tmod (IntKind.u64.wrap (r42.length : Int)))).toNat (xorI .u8 (rd r42 (IntKind.i64.wrap ((IntKind.u64.wrap a1).tmod (IntKind.u64.wrap (r42.length : Int))))) a2)) _ _ (h72.rs hs0_) (hE.mono (IM.le_add _ _)) (r73, r74, r75) hr76)) (args1 rfl)) rfl ?_
 rintro _ _ _ hle78 ⟨_, ⟨Ml82, Hl83, hll84, rfl, rfl, ⟨vq79_1, cq79_1, rfl, rfl, hq79_1⟩⟩, rfl⟩
 have h72 := h72.mono hle78
 have h0_1 := h0_1.mono hle78
 have hE := hE.mono hle78
 have hq79_1 : OwnS (Kd.int .u8) (Ml82.minus c71) vq79_1 r73.Body cq79_1 := hq79_1.any (Kd.int_flat _)
 refine WL.a2 ?_
 refine Pm (.tuple #[(.agg #[(.int .i64 r73.Kind), vq79_1]), (.int .i64 r74), (GV r75)]) rfl rfl ?_
 refine Pu (.agg #[(.int .i64 r73.Kind), vq79_1]) (PO.extract rfl rfl) rfl ?_
 refine Pu (.int .i64 r74) (PO.extract rfl rfl) rfl ?_
 refine Pu (GV r75) (PO.extract rfl rfl) rfl ?_
 refine WL.eff (EO.alloc ze40 rfl) rfl ?_
 rintro _ _ _ - ⟨rfl, g85, rfl, rfl⟩
 refine WL.eff (EO.storeL (v := (.agg #[(.int .i64 r73.Kind), vq79_1])) (vl := [(.int .i64 r73.Kind), vq79_1]) (arr' := [(.int .i64 r73.Kind), vq79_1]) rfl sz40 rfl rfl (onesOf (Ones.cons rfl (Ones.cons (OwnS.one hq79_1) Ones.nil))) rfl rfl rfl) rfl ?_
 rintro _ _ _ - ⟨rfl, rfl⟩
 refine Pa (.int .i64 r74) rfl rfl ?_
 refine Pa (GV r75) rfl rfl ?_
 refine Nt ?_
 obtain ⟨x86, hj87, h⟩ := bnd h
 refine WC.joinF (fun (x86 : Bool) ρ' M' H' => (Ml82.minus c71).le M' ∧ [(g85, .cells #[(.int .i64 r73.Kind), vq79_1] 40 (0, 0))] :: [(g21, .cells #[(.int .i64 a0.Kind), v0_1] 40 (0, 0))] :: cq79_1 :: F = H' ∧ ρ' 6 = (.bool x86)) x86 ?_ ?_
 have h387 := h
 have h := hj87
 refine WC.region ?_
 refine Pm (.int .i64 r74) rfl rfl ?_
 refine Pu (.bool (decide (r74 = 0))) (PO.eql rfl rfl) rfl ?_
 refine Pm (.bool (decide (r74 = 0))) rfl rfl ?_
 rcases Bool.eq_false_or_eq_true (decide (r74 = 0)) with hb88 | hb88
 have h := ite_t hb88 h
 iterate 4 refine Of 57 rfl rfl hb88 rfl ?_
 refine Pu (.bool true) (PO.pickT rfl hb88 rfl) rfl ?_
 refine Pm (.bool true) rfl rfl ?_
 iterate 5 refine Of 63 rfl rfl rfl rfl ?_
 refine Pu (.bool true) (PO.pickT rfl rfl rfl) rfl ?_
 refine Pm (.bool true) rfl rfl ?_
 iterate 6 refine Of 70 rfl rfl rfl rfl ?_
 refine Pu (.bool true) (PO.pickT rfl rfl rfl) rfl ?_
 refine Pm (.bool true) rfl rfl ?_
 refine On 78 rfl rfl rfl ?_
 obtain ⟨r89, hr90, h⟩ := bnd h
 refine WL.eff (EO.call0 co11 (f_law04_works_ok _ hE r89 hr90) (args0)) rfl ?_
 rintro _ M91 _ hle92 ⟨_, ⟨rfl, rfl⟩, rfl⟩
 have h72 := h72.mono hle92
 have h0_1 := h0_1.mono hle92
 have hq79_1 := hq79_1.mono hle92
 have hE := hE.mono hle92
 refine WL.a0 ?_
 refine Pu (.bool r89) (PO.pickT rfl rfl rfl) rfl ?_
 refine Pa (.bool r89) rfl rfl ?_
 refine WL.nil ?_
 refine WQ.f1 ?_
 refine WQ.drop ?_
 refine WQ.f1 ?_
 refine WQ.f2 ?_
 refine WQ.f2 ?_
 obtain rfl := Option.some.inj h
 refine WQ.thenJ ?_
 exact ⟨hle92, rfl, rfl⟩
 have h := ite_f hb88 h
 refine On 57 rfl rfl hb88 ?_
 refine Pm (.int .i64 r74) rfl rfl ?_
 refine On 57 rfl rfl hb88 ?_
 refine Pm vq47 rfl rfl ?_
 refine On 57 rfl rfl hb88 ?_
 refine Pu (.int .i64 ((r42.set (IntKind.i64.wrap ((IntKind.u64.wrap a1).tmod (IntKind.u64.wrap (r42.length : Int)))).toNat (xorI .u8 (rd r42 (IntKind.i64.wrap ((IntKind.u64.wrap a1).tmod (IntKind.u64.wrap (r42.length : Int))))) a2)).length : Int)) (PO.lenS Tryd.underlying26 rfl h72.len) rfl ?_
 refine On 57 rfl rfl hb88 ?_
 refine Pu (.bool (decide (r74 < ((r42.set (IntKind.i64.wrap ((IntKind.u64.wrap a1).tmod (IntKind.u64.wrap (r42.length : Int)))).toNat (xorI .u8 (rd r42 (IntKind.i64.wrap ((IntKind.u64.wrap a1).tmod (IntKind.u64.wrap (r42.length : Int))))) a2)).length : Int)))) (PO.lss rfl rfl) rfl ?_
 refine Pu (.bool (decide (r74 < ((r42.set (IntKind.i64.wrap ((IntKind.u64.wrap a1).tmod (IntKind.u64.wrap (r42.length : Int)))).toNat (xorI .u8 (rd r42 (IntKind.i64.wrap ((IntKind.u64.wrap a1).tmod (IntKind.u64.wrap (r42.length : Int))))) a2)).length : Int)))) (PO.pickF rfl hb88 rfl) rfl ?_
 refine Pm (.bool (decide (r74 < ((r42.set (IntKind.i64.wrap ((IntKind.u64.wrap a1).tmod (IntKind.u64.wrap (r42.length : Int)))).toNat (xorI .u8 (rd r42 (IntKind.i64.wrap ((IntKind.u64.wrap a1).tmod (IntKind.u64.wrap (r42.length : Int))))) a2)).length : Int)))) rfl rfl ?_
 rcases Bool.eq_false_or_eq_true (decide (r74 < ((r42.set (IntKind.i64.wrap ((IntKind.u64.wrap a1).tmod (IntKind.u64.wrap (r42.length : Int)))).toNat (xorI .u8 (rd r42 (IntKind.i64.wrap ((IntKind.u64.wrap a1).tmod (IntKind.u64.wrap (r42.length : Int))))) a2)).length : Int))) with hb94 | hb94
 have h := ite_t hb94 h
 iterate 5 refine Of 63 rfl rfl hb94 rfl ?_
 refine Pu (.bool true) (PO.pickT rfl hb94 rfl) rfl ?_
 refine Pm (.bool true) rfl rfl ?_
 iterate 6 refine Of 70 rfl rfl rfl rfl ?_
 refine Pu (.bool true) (PO.pickT rfl rfl rfl) rfl ?_
 refine Pm (.bool true) rfl rfl ?_
 refine On 78 rfl rfl rfl ?_
 obtain ⟨r95, hr96, h⟩ := bnd h
 refine WL.eff (EO.call0 co11 (f_law04_works_ok _ hE r95 hr96) (args0)) rfl ?_
 rintro _ M97 _ hle98 ⟨_, ⟨rfl, rfl⟩, rfl⟩
 have h72 := h72.mono hle98
 have h0_1 := h0_1.mono hle98
 have hq79_1 := hq79_1.mono hle98
 have hE := hE.mono hle98
 refine WL.a0 ?_
 refine Pu (.bool r95) (PO.pickT rfl rfl rfl) rfl ?_
 refine Pa (.bool r95) rfl rfl ?_
 refine WL.nil ?_
 refine WQ.f1 ?_
 refine WQ.drop ?_
 refine WQ.f1 ?_
 refine WQ.f2 ?_
 refine WQ.f2 ?_
 obtain rfl := Option.some.inj h
 refine WQ.thenJ ?_
 exact ⟨hle98, rfl, rfl⟩
 have h := ite_f hb94 h
 refine On 63 rfl rfl hb94 ?_
 refine Pu (pt g85 0) (PO.fieldAddr fo40_0 rfl rfl) rfl ?_
 refine On 63 rfl rfl hb94 ?_
 refine Pu (.int .i64 r73.Kind) (PO.loadB 0 pl3 rfl rfl rfl) rfl ?_
 refine On 63 rfl rfl hb94 ?_
 refine Pu (pt g21 0) (PO.fieldAddr fo40_0 hs23_3 rfl) rfl ?_
 refine On 63 rfl rfl hb94 ?_
 refine Pu (.int .i64 a0.Kind) (PO.loadB 3 pl3 rfl rfl rfl) rfl ?_
 refine On 63 rfl rfl hb94 ?_
 refine Pu (.bool (decide (r73.Kind ≠ a0.Kind))) (PO.neq rfl rfl) rfl ?_
 refine Pu (.bool (decide (r73.Kind ≠ a0.Kind))) (PO.pickF rfl hb94 rfl) rfl ?_
 refine Pm (.bool (decide (r73.Kind ≠ a0.Kind))) rfl rfl ?_
 rcases Bool.eq_false_or_eq_true (decide (r73.Kind ≠ a0.Kind)) with hb100 | hb100
 have h := ite_t hb100 h
 iterate 6 refine Of 70 rfl rfl hb100 rfl ?_
 refine Pu (.bool true) (PO.pickT rfl hb100 rfl) rfl ?_
 refine Pm (.bool true) rfl rfl ?_
 refine On 78 rfl rfl rfl ?_
 obtain ⟨r101, hr102, h⟩ := bnd h
 refine WL.eff (EO.call0 co11 (f_law04_works_ok _ hE r101 hr102) (args0)) rfl ?_
 rintro _ M103 _ hle104 ⟨_, ⟨rfl, rfl⟩, rfl⟩
 have h72 := h72.mono hle104
 have h0_1 := h0_1.mono hle104
 have hq79_1 := hq79_1.mono hle104
 have hE := hE.mono hle104
 refine WL.a0 ?_
 refine Pu (.bool r101) (PO.pickT rfl rfl rfl) rfl ?_
 refine Pa (.bool r101) rfl rfl ?_
 refine WL.nil ?_
 refine WQ.f1 ?_
 refine WQ.drop ?_
 refine WQ.f1 ?_
 refine WQ.f2 ?_
 refine WQ.f2 ?_
 obtain rfl := Option.some.inj h
 refine WQ.thenJ ?_
 exact ⟨hle104, rfl, rfl⟩
 have h := ite_f hb100 h
 refine On 70 rfl rfl hb100 ?_
 refine Pu (pt g85 1) (PO.fieldAddr fo40_1 rfl rfl) rfl ?_
 refine On 70 rfl rfl hb100 ?_
 refine Pu vq79_1 (PO.loadB 0 pl26 rfl rfl rfl) rfl ?_
 refine On 70 rfl rfl hb100 ?_
 refine Pu (pt g21 1) (PO.fieldAddr fo40_1 hs23_3 rfl) rfl ?_
 refine On 70 rfl rfl hb100 ?_
 refine Pu v0_1 (PO.loadB 3 pl26 rfl rfl rfl) rfl ?_
 refine On 70 rfl rfl hb100 ?_
 obtain ⟨r106, hr107, h⟩ := bnd h
 refine WL.f2 ?_
 refine WL.eff (EO.call1 co19 (Tri.lend hq79_1.excl fun w0_ H0_ hs0_ => (f_ref02_Same_ok r73.Body a0.Body _ _ _ (hq79_1.rs hs0_) (h0_1.mono (IM.le_add _ _)) r106 hr107)) (args2 rfl rfl)) rfl ?_
 rintro _ _ _ hle109 ⟨_, ⟨Ml111, Hl112, hll113, rfl, rfl, ⟨rfl, rfl⟩⟩, rfl⟩
 have h72 := h72.mono hle109
 have hq79_1 := hq79_1.mono hle109
 have h0_1 := h0_1.mono hle109
 have hE := hE.mono hle109
 refine WL.a1 ?_
 refine On 70 rfl rfl hb100 ?_
 refine Pu (.bool (!r106)) (PO.not rfl) rfl ?_
 refine Pu (.bool (!r106)) (PO.pickF rfl hb100 rfl) rfl ?_
 refine Pm (.bool (!r106)) rfl rfl ?_
 rcases Bool.eq_false_or_eq_true (!r106) with hb114 | hb114
 have h := ite_t hb114 h
 refine On 78 rfl rfl hb114 ?_
 obtain ⟨r115, hr116, h⟩ := bnd h
 refine WL.eff (EO.call0 co11 (f_law04_works_ok _ hE r115 hr116) (args0)) rfl ?_
 rintro _ M117 _ hle118 ⟨_, ⟨rfl, rfl⟩, rfl⟩
 have h72 := h72.mono hle118
 have hq79_1 := hq79_1.mono hle118
 have h0_1 := h0_1.mono hle118
 have hE := hE.mono hle118
 refine WL.a0 ?_
 refine Pu (.bool r115) (PO.pickT rfl hb114 rfl) rfl ?_
 refine Pa (.bool r115) rfl rfl ?_
 refine WL.nil ?_
 refine WQ.f2 ?_
 refine WQ.drop ?_
 refine WQ.f2 ?_
 refine WQ.f2 ?_
 obtain rfl := Option.some.inj h
 refine WQ.thenJ ?_
 exact ⟨(hle109.trans hle118), rfl, rfl⟩
 have h := ite_f hb114 h
 refine Of 78 rfl rfl hb114 rfl ?_
 refine Pu (.bool false) (PO.pickF rfl hb114 rfl) rfl ?_
 refine Pa (.bool false) rfl rfl ?_
 refine WL.nil ?_
 refine WQ.f2 ?_
 refine WQ.drop ?_
 refine WQ.f2 ?_
 refine WQ.f2 ?_
 obtain rfl := Option.some.inj h
 refine WQ.thenJ ?_
 exact ⟨hle109, rfl, rfl⟩
 rintro ρ87 M87 H87 ⟨hle87, rfl, hs87_6⟩
 have hq79_1 := hq79_1.mono hle87
 have h0_1 := h0_1.mono hle87
 have hE := hE.mono hle87
 refine WC.ret ?_
 refine WQ.drop ?_
 refine WQ.drop ?_
 refine WQ.drop ?_
 exact WQ.returnsF h [] rfl (results1 rfl hs87_6) (((hle23.trans hle46).trans hle78).trans hle87) ⟨rfl, rfl⟩

noncomputable def f_ref04_Same_l0 (a0 : (List T_api_Frame)) (a1 : (List T_api_Frame)) (s_ : Int) : Option (Int ⊕ (Unit ⊕ Unit)) :=
  match s_ with
  | x24 =>
    (if (decide (x24 < (a0.length : Int))) = true then (((grd (0 ≤ x24 ∧ x24 < a0.length) (grd (0 ≤ x24 ∧ x24 < a1.length) (if (decide (((rd a0 x24).Kind) ≠ ((rd a1 x24).Kind))) = true then (some true) else (grd (0 ≤ x24 ∧ x24 < a0.length) (grd (0 ≤ x24 ∧ x24 < a1.length) ((f_ref02_Same ((rd a0 x24).Body) ((rd a1 x24).Body)).bind fun (r57 : Bool) => (some (!r57)))))))) : Option Bool).bind fun (x26 : Bool) => (if x26 = true then (some (Sum.inr (Sum.inr ()))) else (some (Sum.inl (IntKind.i64.wrap (x24 + (1 : Int))))))) else (some (Sum.inr (Sum.inl ()))))
noncomputable def f_ref04_Same (a0 : (List T_api_Frame)) (a1 : (List T_api_Frame)) : Option Bool :=
  (if (decide ((a0.length : Int) ≠ (a1.length : Int))) = true then (some false) else ((((iter (f_ref04_Same_l0 a0 a1) (0 : Int)).bind (Sum.elim (fun _ => (some (Sum.inl ()))) (fun _ => (((some false)).bind fun r => some (Sum.inr r))))) : Option (Unit ⊕ Bool)).bind (Sum.elim (fun _ => (some true)) some)))
def f_ref04_Same_post (a0 : (List T_api_Frame)) (a1 : (List T_api_Frame)) (v0 v1 : Value) : Bool → Value → IM → HL → Prop :=
  fun (r0 : Bool) (v : Value) (M' : IM) (H' : HL) => (.bool r0) = v ∧ H' = []
theorem f_ref04_Same_ok (a0 : (List T_api_Frame)) (a1 : (List T_api_Frame)) (M : IM) (v0 v1 : Value) (h0 : RS kd_api_Frame M v0 a0) (h1 : RS kd_api_Frame M v1 a1) (res : Bool) (h : f_ref04_Same a0 a1 = some res) :
    Tri Tryd.prog 14 #[v0, v1] M [] (f_ref04_Same_post a0 a1 v0 v1 res) := by
 unfold f_ref04_Same at h
 refine Tri.enter (fn := Tryd.f14) Tryd.func14 rfl (Nat.le_of_ble_eq_true rfl) ?_
 intro F ρ hρ
 refine Sr ?_
 refine Pa (.bool false) rfl rfl ?_
 refine Nt ?_
 refine WC.seq ?_
 refine Sr ?_
 refine Pm v0 (hρ 0) rfl ?_
 refine Pu (.int .i64 (a0.length : Int)) (PO.lenS Tryd.underlying22 rfl h0.len) rfl ?_
 refine Pm v1 (hρ 1) rfl ?_
 refine Pu (.int .i64 (a1.length : Int)) (PO.lenS Tryd.underlying22 rfl h1.len) rfl ?_
 refine Pu (.bool (decide ((a0.length : Int) ≠ (a1.length : Int)))) (PO.neq rfl rfl) rfl ?_
 refine Nt ?_
 refine WC.cond (b := decide ((a0.length : Int) ≠ (a1.length : Int))) rfl (fun hb21 => ?_) (fun hb21 => ?_)
 have h := ite_t hb21 h
 refine Sr ?_
 refine Pa (.bool false) rfl rfl ?_
 refine Nt ?_
 refine WC.ret ?_
 refine WQ.thenR ?_
 exact WQ.returnsF h [] rfl (results1 rfl rfl) (IM.le.refl _) ⟨rfl, rfl⟩
 have h := ite_f hb21 h
 refine WC.skip ?_
 refine WQ.thenC ?_
 obtain ⟨j22, hj22, h⟩ := bnd h
 refine WC.joinE (fun (_ : Unit) ρ' M' H' => M.le M' ∧ F = H') j22 ?_ ?_
 have h322 := h
 have h := hj22
 refine Sr ?_
 refine Pa (.int .i64 0) rfl rfl ?_
 refine Nt ?_
 refine WC.block ?_
 obtain ⟨e23, he23, hK23⟩ := bnd h
 clear h
 refine WC.loop he23 (fun (x24 : Int) ρ' M' H' => M.le M' ∧ F = H' ∧ ρ' 0 = v0 ∧ ρ' 1 = v1 ∧ ρ' 5 = (.int .i64 x24)) ?_ ?_
 exact ⟨(IM.le.refl _), rfl, (hρ 0), (hρ 1), rfl⟩
 rintro x24 o23 ρ23 M23 H23 h ⟨hle23, rfl, hs23_0, hs23_1, hs23_5⟩
 unfold f_ref04_Same_l0 at h
 have h0 := h0.mono hle23
 have h1 := h1.mono hle23
 refine WC.seq ?_
 refine Sr ?_
 refine Pm (.int .i64 x24) hs23_5 rfl ?_
 refine Pm v0 hs23_0 rfl ?_
 refine Pu (.int .i64 (a0.length : Int)) (PO.lenS Tryd.underlying22 rfl h0.len) rfl ?_
 refine Pu (.bool (decide (x24 < (a0.length : Int)))) (PO.lss rfl rfl) rfl ?_
 refine Nt ?_
 refine WC.cond (b := decide (x24 < (a0.length : Int))) rfl (fun hb25 => ?_) (fun hb25 => ?_)
 have h := ite_t hb25 h
 refine WC.skip ?_
 refine WQ.thenC ?_
 refine WC.seq ?_
 refine WC.block ?_
 obtain ⟨x26, hj27, h⟩ := bnd h
 refine WC.joinF (fun (x26 : Bool) ρ' M' H' => M23.le M' ∧ F = H' ∧ ρ' 0 = v0 ∧ ρ' 1 = v1 ∧ ρ' 5 = (.int .i64 x24) ∧ ρ' 41 = (.bool x26)) x26 ?_ ?_
 have h327 := h
 have h := hj27
 refine WC.draw [0, 0, 3, 7, 15, 0, 0, 96, 224, 480, 1023, 2047, 4095, 4095, 16383, 32767, 65535, 4095, 4095, 397311, 921599, 1970175, 4194303, 8388607, 16777215] (.pure 0 (.pure 1 (.pure 2 (.pure 3 (.pure 4 (.pure 5 (.pure 6 (.pure 7 (.pure 8 (.pure 9 (.pure 10 (.pure 11 (.pure 12 (.pure 13 (.pure 14 (.pure 15 (.pure 16 (.pure 17 (.pure 18 (.pure 19 (.pure 20 (.pure 21 (.alt 22 (.pure 23 (.pure 24 .done)) .none))))))))))))))))))))))) mixed (by kernel_rfl) ?_
 refine Tp v0 rfl (PO.move hs23_0) rfl ?_
 refine Tp (.int .i64 x24) rfl (PO.move hs23_5) rfl ?_
 obtain ⟨hg28, h⟩ := grd_i h
 obtain ⟨p29, cs30, hat31, hrc32, hhas33⟩ := h0.at hg28.1 hg28.2 (by decide)
 obtain ⟨vw34_1, rfl, hw34_1⟩ := kd_api_Frame_open hrc32
 refine Tp (.pointer (some p29)) rfl (PO.indexAddr (n := a0.length) Tryd.underlying22 sz40 rfl rfl hg28.1 hg28.2 hat31) rfl ?_
 refine Tp (.pointer (some (p29.add 0))) rfl (PO.fieldAddr fo40_0 rfl rfl) rfl ?_
 refine Tp (.int .i64 ((rd a0 x24).Kind)) rfl (PO.loadM pl3 rfl (IM.has0 hhas33)) rfl ?_
 refine Tp v1 rfl (PO.move hs23_1) rfl ?_
 refine Tp (.int .i64 x24) rfl (PO.move hs23_5) rfl ?_
 obtain ⟨hg35, h⟩ := grd_i h
 obtain ⟨p36, cs37, hat38, hrc39, hhas40⟩ := h1.at hg35.1 hg35.2 (by decide)
 obtain ⟨vw41_1, rfl, hw41_1⟩ := kd_api_Frame_open hrc39
 refine Tp (.pointer (some p36)) rfl (PO.indexAddr (n := a1.length) Tryd.underlying22 sz40 rfl rfl hg35.1 hg35.2 hat38) rfl ?_
 refine Tp (.pointer (some (p36.add 0))) rfl (PO.fieldAddr fo40_0 rfl rfl) rfl ?_
 refine Tp (.int .i64 ((rd a1 x24).Kind)) rfl (PO.loadM pl3 rfl (IM.has0 hhas40)) rfl ?_
 refine Tp (.bool (decide (((rd a0 x24).Kind) ≠ ((rd a1 x24).Kind)))) rfl (PO.neq rfl rfl) rfl ?_
 refine Tp (.bool (decide (((rd a0 x24).Kind) ≠ ((rd a1 x24).Kind)))) rfl (PO.move rfl) rfl ?_
 rcases Bool.eq_false_or_eq_true (decide (((rd a0 x24).Kind) ≠ ((rd a1 x24).Kind))) with hb42 | hb42
 have h := ite_t hb42 h
 refine WT.pureOff 28 rfl rfl rfl hb42 rfl ?_
 refine WT.pureOff 28 rfl rfl rfl hb42 rfl ?_
 refine WT.pureOff 28 rfl rfl rfl hb42 rfl ?_
 refine WT.pureOff 28 rfl rfl rfl hb42 rfl ?_
 refine WT.pureOff 28 rfl rfl rfl hb42 rfl ?_
 refine WT.pureOff 28 rfl rfl rfl hb42 rfl ?_
 refine WT.pureOff 28 rfl rfl rfl hb42 rfl ?_
 refine WT.pureOff 28 rfl rfl rfl hb42 rfl ?_
 refine WT.pureOff 28 rfl rfl rfl hb42 rfl ?_
 refine WT.pureOff 28 rfl rfl rfl hb42 rfl ?_
 refine WT.altOff 28 rfl rfl rfl hb42 rfl ⟨(StabL.anc rfl (StabL.anc rfl (StabL.anc rfl (StabL.anc rfl (StabL.anc rfl (StabL.anc rfl (StabL.anc rfl (StabL.anc rfl (StabL.anc rfl (StabL.anc rfl (StabL.anc rfl (StabL.anc rfl (StabL.anc rfl (StabL.anc rfl (StabL.anc rfl (StabL.anc rfl (StabL.anc rfl (StabL.anc rfl (StabL.anc rfl (StabL.anc rfl (StabL.anc rfl (StabL.anc rfl trivial)))))))))))))))))))))), ?_⟩ ?_
 refine WT.pureOff 28 rfl rfl rfl hb42 rfl ?_
 refine Tp (.bool true) rfl (PO.pickT rfl hb42 rfl) rfl ?_
 refine WT.fin ?_
 obtain rfl := Option.some.inj h
 refine WQ.thenJ ?_
 exact ⟨(IM.le.refl _), rfl, hs23_0, hs23_1, hs23_5, rfl⟩
 exact WT.no
 have h := ite_f hb42 h
 refine Tn v0 28 rfl rfl rfl hb42 (PO.move hs23_0) rfl ?_
 refine Tn (.int .i64 x24) 28 rfl rfl rfl hb42 (PO.move hs23_5) rfl ?_
 obtain ⟨hg43, h⟩ := grd_i h
 obtain ⟨p44, cs45, hat46, hrc47, hhas48⟩ := h0.at hg43.1 hg43.2 (by decide)
 obtain ⟨vw49_1, rfl, hw49_1⟩ := kd_api_Frame_open hrc47
 refine Tn (.pointer (some p44)) 28 rfl rfl rfl hb42 (PO.indexAddr (n := a0.length) Tryd.underlying22 sz40 rfl rfl hg43.1 hg43.2 hat46) rfl ?_
 refine Tn (.pointer (some (p44.add 1))) 28 rfl rfl rfl hb42 (PO.fieldAddr fo40_1 rfl rfl) rfl ?_
 refine Tn vw49_1 28 rfl rfl rfl hb42 (PO.loadM pl26 rfl (hhas48 1 _ rfl)) rfl ?_
 refine Tn v1 28 rfl rfl rfl hb42 (PO.move hs23_1) rfl ?_
 refine Tn (.int .i64 x24) 28 rfl rfl rfl hb42 (PO.move hs23_5) rfl ?_
 obtain ⟨hg50, h⟩ := grd_i h
 obtain ⟨p51, cs52, hat53, hrc54, hhas55⟩ := h1.at hg50.1 hg50.2 (by decide)
 obtain ⟨vw56_1, rfl, hw56_1⟩ := kd_api_Frame_open hrc54
 refine Tn (.pointer (some p51)) 28 rfl rfl rfl hb42 (PO.indexAddr (n := a1.length) Tryd.underlying22 sz40 rfl rfl hg50.1 hg50.2 hat53) rfl ?_
 refine Tn (.pointer (some (p51.add 1))) 28 rfl rfl rfl hb42 (PO.fieldAddr fo40_1 rfl rfl) rfl ?_
 refine Tn vw56_1 28 rfl rfl rfl hb42 (PO.loadM pl26 rfl (hhas55 1 _ rfl)) rfl ?_
 obtain ⟨r57, hr58, h⟩ := bnd h
 refine WT.altOn 28 rfl rfl rfl hb42 (EO.call0 co19 (f_ref02_Same_ok ((rd a0 x24).Body) ((rd a1 x24).Body) _ _ _ hw49_1 hw56_1 r57 hr58) (args2 rfl rfl)) rfl ?_ ?_
 rintro _ M59 _ hle60 ⟨_, ⟨rfl, rfl⟩, rfl⟩
 have h0 := h0.mono hle60
 have h1 := h1.mono hle60
 have hhas33 := hhas33.mono hle60
 have hw34_1 := hw34_1.mono hle60
 have hhas40 := hhas40.mono hle60
 have hw41_1 := hw41_1.mono hle60
 have hhas48 := hhas48.mono hle60
 have hw49_1 := hw49_1.mono hle60
 have hhas55 := hhas55.mono hle60
 have hw56_1 := hw56_1.mono hle60
 refine ⟨(StabL.anc rfl (StabL.anc rfl (StabL.anc rfl (StabL.anc rfl (StabL.anc rfl (StabL.anc rfl (StabL.anc rfl (StabL.anc rfl (StabL.anc rfl (StabL.anc rfl (StabL.anc rfl (StabL.anc rfl (StabL.anc rfl (StabL.anc rfl (StabL.anc rfl (StabL.anc rfl (StabL.anc rfl (StabL.anc rfl (StabL.anc rfl (StabL.anc rfl (StabL.anc rfl (StabL.anc rfl trivial)))))))))))))))))))))), ?_⟩
 refine WT.a0 ?_
 refine Tn (.bool (!r57)) 28 rfl rfl rfl hb42 (PO.not rfl) rfl ?_
 refine Tp (.bool (!r57)) rfl (PO.pickF rfl hb42 rfl) rfl ?_
 refine WT.fin ?_
 obtain rfl := Option.some.inj h
 refine WQ.thenJ ?_
 exact ⟨hle60, rfl, hs23_0, hs23_1, hs23_5, rfl⟩
 exact WT.no
 rintro ρ27 M27 H27 ⟨hle27, rfl, hs27_0, hs27_1, hs27_5, hs27_41⟩
 have h0 := h0.mono hle27
 have h1 := h1.mono hle27
 refine WC.cond (b := x26) hs27_41 (fun hb62 => ?_) (fun hb62 => ?_)
 have h := ite_t hb62 h
 refine Sr ?_
 refine Pa (.bool false) rfl rfl ?_
 refine Nt ?_
 refine WC.ret ?_
 refine WQ.blockR ?_
 refine WQ.thenR ?_
 refine WQ.leaveR (Sum.inr ()) (Option.some.inj h).symm (fun heq23 => ?_)
 subst heq23
 have h := (elimR hK23)
 refine WQ.blockR ?_
 refine WQ.thenR ?_
 have h := KK.early h h322
 exact WQ.returnsF h [] rfl (results1 rfl rfl) (hle23.trans hle27) ⟨rfl, rfl⟩
 have h := ite_f hb62 h
 refine WC.skip ?_
 refine WQ.blockN ?_
 refine WQ.thenC ?_
 refine WC.region ?_
 refine Pm (.int .i64 x24) hs27_5 rfl ?_
 refine Pu (.int .i64 (IntKind.i64.wrap (x24 + 1))) (PO.add rfl rfl) rfl ?_
 refine Pa (.int .i64 (IntKind.i64.wrap (x24 + 1))) rfl rfl ?_
 refine WL.nil ?_
 refine WQ.again (IntKind.i64.wrap (x24 + 1)) (Option.some.inj h).symm ?_
 exact ⟨(hle23.trans hle27), rfl, hs27_0, hs27_1, rfl⟩
 have h := ite_f hb25 h
 refine WC.exit ?_
 refine WQ.thenE ?_
 refine WQ.leaveE (Sum.inl ()) (Option.some.inj h).symm (fun heq23 => ?_)
 subst heq23
 have h := elimL hK23
 refine WQ.blockH ?_
 refine WQ.thenFE h ?_
 exact ⟨hle23, rfl⟩
 rintro _ ρ22 M22 H22 rfl ⟨hle22, rfl⟩
 have h := (Sum.elim_inl _ _ _).symm.trans h
 refine Sr ?_
 refine Pa (.bool true) rfl rfl ?_
 refine Nt ?_
 refine WC.ret ?_
 exact WQ.returnsF h [] rfl (results1 rfl rfl) hle22 ⟨rfl, rfl⟩

noncomputable def f_law04_FrameBack (a0 : (List T_api_Frame)) (a1 : Int) : Option Bool :=
  ((f_law04_light a0).bind fun (r21 : Bool) => (if (!r21) = true then ((f_law04_works).bind fun (r27 : Bool) => (some r27)) else ((f_frame_All a0).bind fun (r32, r33) => (if (!r33.isNil) = true then (((if (decide ((r32.length : Int) = (0 : Int))) = true then ((f_law04_works).bind fun (r43 : Bool) => (some r43)) else (some false)) : Option Bool).bind fun (x40 : Bool) => (some x40)) else ((f_frame_Stream_Feed (⟨[], (0 : Int), GErr.nil⟩ : T_frame_Stream) r32).bind fun (r52, r53, r54, r55) => ((((f_ref04_Same a0 r52).bind fun (r65 : Bool) => (if (!r65) = true then (some true) else ((f_frame_Stream_Err (⟨r53, r54, r55⟩ : T_frame_Stream)).bind fun (r75 : GErr) => (if (!r75.isNil) = true then (some true) else ((f_frame_Stream_Left (⟨r53, r54, r55⟩ : T_frame_Stream)).bind fun (r82 : Int) => (some (decide (r82 ≠ (0 : Int))))))))) : Option Bool).bind fun (x63 : Bool) => (if x63 = true then (some false) else (grd (IntKind.i64.wrap ((r32.length : Int) + (1 : Int)) ≠ 0) (grd (0 ≤ (0 : Int) ∧ (0 : Int) ≤ (IntKind.i64.wrap a1).tmod (IntKind.i64.wrap ((r32.length : Int) + (1 : Int))) ∧ (IntKind.i64.wrap a1).tmod (IntKind.i64.wrap ((r32.length : Int) + (1 : Int))) ≤ (r32.length : Int)) ((f_frame_Stream_Feed (⟨[], (0 : Int), GErr.nil⟩ : T_frame_Stream) (sub r32 (0 : Int) ((IntKind.i64.wrap a1).tmod (IntKind.i64.wrap ((r32.length : Int) + (1 : Int)))))).bind fun (r93, r94, r95, r96) => ((((f_frame_Stream_Err (⟨r94, r95, r96⟩ : T_frame_Stream)).bind fun (r107 : GErr) => (if r107.isNil = true then (if (decide ((r93.length : Int) ≤ (a0.length : Int))) = true then (grd (0 ≤ (0 : Int) ∧ (0 : Int) ≤ (r93.length : Int) ∧ (r93.length : Int) ≤ (a0.length : Int)) ((f_ref04_Same r93 (sub a0 (0 : Int) (r93.length : Int))).bind fun (r116 : Bool) => (if r116 = true then (if (decide ((r93.length : Int) = (a0.length : Int))) = true then ((f_law04_works).bind fun (r126 : Bool) => (some r126)) else ((f_frame_Stream_Left (⟨r94, r95, r96⟩ : T_frame_Stream)).bind fun (r132 : Int) => (if (decide ((0 : Int) < r132)) = true then ((f_law04_works).bind fun (r138 : Bool) => (some r138)) else (if (decide (((IntKind.i64.wrap a1).tmod (IntKind.i64.wrap ((r32.length : Int) + (1 : Int)))) = (0 : Int))) = true then ((f_law04_works).bind fun (r144 : Bool) => (some r144)) else (if (decide ((0 : Int) < (r93.length : Int))) = true then ((f_law04_works).bind fun (r150 : Bool) => (some r150)) else (some false)))))) else (some false)))) else (some false)) else (some false))) : Option Bool).bind fun (x104 : Bool) => (some x104))))))))))))
def f_law04_FrameBack_post (a0 : (List T_api_Frame)) (a1 : Int) (v0 : Value) : Bool → Value → IM → HL → Prop :=
  fun (r0 : Bool) (v : Value) (M' : IM) (H' : HL) => (.bool r0) = v ∧ H' = []
theorem f_law04_FrameBack_ok (a0 : (List T_api_Frame)) (a1 : Int) (M : IM) (v0 : Value) (h0 : RS kd_api_Frame M v0 a0) (hE : Env M) (res : Bool) (h : f_law04_FrameBack a0 a1 = some res) :
    Tri Tryd.prog 3 #[v0, (.int .u16 a1)] M [] (f_law04_FrameBack_post a0 a1 v0 res) := by
 unfold f_law04_FrameBack at h
 refine Tri.enter (fn := Tryd.f3) Tryd.func3 rfl (Nat.le_of_ble_eq_true rfl) ?_
 intro F ρ hρ
 refine Sr ?_
 refine Pa (.bool false) rfl rfl ?_
 refine Nt ?_
 refine WC.seq ?_
 refine Sr ?_
 refine Pm v0 (hρ 0) rfl ?_
 obtain ⟨r21, hr22, h⟩ := bnd h
 refine WL.eff (EO.call0 co10 (f_law04_light_ok a0 _ _ h0 r21 hr22) (args1 rfl)) rfl ?_
 rintro _ M23 _ hle24 ⟨_, ⟨rfl, rfl⟩, rfl⟩
 have h0 := h0.mono hle24
 have hE := hE.mono hle24
 refine WL.a0 ?_
 refine Pu (.bool (!r21)) (PO.not rfl) rfl ?_
 refine Nt ?_
 refine WC.cond (b := !r21) rfl (fun hb26 => ?_) (fun hb26 => ?_)
 have h := ite_t hb26 h
 refine Sr ?_
 obtain ⟨r27, hr28, h⟩ := bnd h
 refine WL.eff (EO.call0 co11 (f_law04_works_ok _ hE r27 hr28) (args0)) rfl ?_
 rintro _ M29 _ hle30 ⟨_, ⟨rfl, rfl⟩, rfl⟩
 have h0 := h0.mono hle30
 have hE := hE.mono hle30
 refine WL.a0 ?_
 refine Pa (.bool r27) rfl rfl ?_
 refine Nt ?_
 refine WC.ret ?_
 refine WQ.thenR ?_
 exact WQ.returnsF h [] rfl (results1 rfl rfl) (hle24.trans hle30) ⟨rfl, rfl⟩
 have h := ite_f hb26 h
 refine WC.skip ?_
 refine WQ.thenC ?_
 refine Sr ?_
 refine Pm v0 (hρ 0) rfl ?_
 obtain ⟨⟨r32, r33⟩, hr34, h⟩ := bnd h
 refine WL.eff (EO.call0 co12 (f_frame_All_ok a0 _ _ h0 (r32, r33) hr34) (args1 rfl)) rfl ?_
 rintro _ M35 _ hle36 ⟨_, ⟨vq37, cq37, rfl, rfl, hq37⟩, rfl⟩
 have h0 := h0.mono hle36
 have hE := hE.mono hle36
 refine WL.a1 ?_
 refine Pm (.tuple #[vq37, (GV r33)]) rfl rfl ?_
 refine Pu vq37 (PO.extract rfl rfl) rfl ?_
 refine Pu (GV r33) (PO.extract rfl rfl) rfl ?_
 refine Pa vq37 rfl rfl ?_
 refine Pa (GV r33) rfl rfl ?_
 refine Nt ?_
 refine WC.seq ?_
 refine Sr ?_
 refine Pm (GV r33) rfl rfl ?_
 refine Pu (.bool (!r33.isNil)) (PO.errNotNil Tryd.underlying28 rfl) rfl ?_
 refine Nt ?_
 refine WC.cond (b := !r33.isNil) rfl (fun hb39 => ?_) (fun hb39 => ?_)
 have h := ite_t hb39 h
 obtain ⟨x40, hj41, h⟩ := bnd h
 refine WC.joinF (fun (x40 : Bool) ρ' M' H' => M35.le M' ∧ F = H' ∧ ρ' 4 = (.bool x40)) x40 ?_ ?_
 have h341 := h
 have h := hj41
 refine WC.region ?_
 refine Pm vq37 rfl rfl ?_
 refine Pu (.int .i64 (r32.length : Int)) (PO.lenS Tryd.underlying26 rfl hq37.len) rfl ?_
 refine Pu (.bool (decide ((r32.length : Int) = (0 : Int)))) (PO.eql rfl rfl) rfl ?_
 refine Pm (.bool (decide ((r32.length : Int) = (0 : Int)))) rfl rfl ?_
 rcases Bool.eq_false_or_eq_true (decide ((r32.length : Int) = (0 : Int))) with hb42 | hb42
 have h := ite_t hb42 h
 refine On 26 rfl rfl hb42 ?_
 obtain ⟨r43, hr44, h⟩ := bnd h
 refine WL.eff (EO.call0 co11 (f_law04_works_ok _ hE r43 hr44) (args0)) rfl ?_
 rintro _ M45 _ hle46 ⟨_, ⟨rfl, rfl⟩, rfl⟩
 have h0 := h0.mono hle46
 have hq37 := hq37.mono hle46
 have hE := hE.mono hle46
 refine WL.a0 ?_
 refine Pu (.bool r43) (PO.pickT rfl hb42 rfl) rfl ?_
 refine Pa (.bool r43) rfl rfl ?_
 refine WL.nil ?_
 refine WQ.drop ?_
 obtain rfl := Option.some.inj h
 refine WQ.thenJ ?_
 exact ⟨hle46, rfl, rfl⟩
 have h := ite_f hb42 h
 refine Of 26 rfl rfl hb42 rfl ?_
 refine Pu (.bool false) (PO.pickF rfl hb42 rfl) rfl ?_
 refine Pa (.bool false) rfl rfl ?_
 refine WL.nil ?_
 refine WQ.drop ?_
 obtain rfl := Option.some.inj h
 refine WQ.thenJ ?_
 exact ⟨(IM.le.refl _), rfl, rfl⟩
 rintro ρ41 M41 H41 ⟨hle41, rfl, hs41_4⟩
 have hE := hE.mono hle41
 refine WC.ret ?_
 refine WQ.thenR ?_
 exact WQ.returnsF h [] rfl (results1 rfl hs41_4) ((hle24.trans hle36).trans hle41) ⟨rfl, rfl⟩
 have h := ite_f hb39 h
 refine WC.skip ?_
 refine WQ.thenC ?_
 refine Sr ?_
 refine Pu (.agg #[(.slice none 0 0), (.int .i64 0), (GV GErr.nil)]) (PO.buildL (cl := [(.slice none 0 0), (.int .i64 0), (GV GErr.nil)]) ze33 fp33 Parts.nil rfl) rfl ?_
 refine WL.eff (EO.box (cs := #[(.slice none 0 0), (.int .i64 0), (GV GErr.nil)]) (congrArg Value.cells (show ev _ _ = (.agg #[(.slice none 0 0), (.int .i64 0), (GV GErr.nil)]) from rfl))) rfl ?_
 rintro _ _ _ - ⟨rfl, g48, rfl, rfl⟩
 refine Pa (pt g48 0) rfl rfl ?_
 refine Ns ?_
 refine Pm (pt g48 0) rfl rfl ?_
 refine Pm vq37 rfl rfl ?_
 refine WL.f1 ?_
 refine WL.know (fun _ hs => hq37.rs hs) (fun hf50 => ?_)
 refine WL.freeze (fun hle49 => ?_)
 have h0 := h0.mono hle49
 have hE := hE.mono hle49
 obtain ⟨⟨r52, r53, r54, r55⟩, hr56, h⟩ := bnd h
 refine WL.e0 ?_
 refine WL.f1 ?_
 refine WL.eff (EO.call2 co13 (f_frame_Stream_Feed_ok (⟨[], (0 : Int), GErr.nil⟩ : T_frame_Stream) r32 _ _ _ _ _ (OwnSh.nil _ _) hf50 hE (r52, r53, r54, r55) hr56) (args2 rfl rfl)) rfl ?_
 rintro _ M57 _ hle58 ⟨_, ⟨v59, c61, vq62, cq62, rfl, rfl, h60, hq62⟩, rfl⟩
 have h0 := h0.mono hle58
 have hf50 := hf50.mono hle58
 have hE := hE.mono hle58
 refine WL.a3 ?_
 refine Pa vq62 rfl rfl ?_
 refine Nt ?_
 refine WC.seq ?_
 obtain ⟨x63, hj64, h⟩ := bnd h
 refine WC.joinF (fun (x63 : Bool) ρ' M' H' => M57.le M' ∧ [(g48, .cells #[v59, (.int .i64 r54), (GV r55)] 33 (0, 0))] :: c61 :: F = H' ∧ ρ' 0 = v0 ∧ ρ' 1 = (.int .u16 a1) ∧ ρ' 5 = vq37 ∧ ρ' 47 = (.bool x63)) x63 ?_ ?_
 have h364 := h
 have h := hj64
 refine WC.region ?_
 refine Pm v0 (hρ 0) rfl ?_
 refine Pm vq62 rfl rfl ?_
 obtain ⟨r65, hr66, h⟩ := bnd h
 refine WL.f2 ?_
 refine WL.eff (EO.call1 co14 (Tri.lend hq62.excl fun w0_ H0_ hs0_ => (f_ref04_Same_ok a0 r52 _ _ _ (h0.mono (IM.le_add _ _)) (hq62.rs hs0_) r65 hr66)) (args2 rfl rfl)) rfl ?_
 rintro _ _ _ hle68 ⟨_, ⟨Ml70, Hl71, hll72, rfl, rfl, ⟨rfl, rfl⟩⟩, rfl⟩
 have h0 := h0.mono hle68
 have hf50 := hf50.mono hle68
 have hq62 := hq62.mono hle68
 have h60 := h60.mono hle68
 have hE := hE.mono hle68
 refine WL.a1 ?_
 refine Pu (.bool (!r65)) (PO.not rfl) rfl ?_
 refine Pm (.bool (!r65)) rfl rfl ?_
 rcases Bool.eq_false_or_eq_true (!r65) with hb73 | hb73
 have h := ite_t hb73 h
 iterate 3 refine Of 38 rfl rfl hb73 rfl ?_
 refine Pu (.bool true) (PO.pickT rfl hb73 rfl) rfl ?_
 refine Pm (.bool true) rfl rfl ?_
 iterate 3 refine Of 43 rfl rfl rfl rfl ?_
 refine Pu (.bool true) (PO.pickT rfl rfl rfl) rfl ?_
 refine WL.nil ?_
 refine WQ.drop ?_
 obtain rfl := Option.some.inj h
 refine WQ.thenJ ?_
 exact ⟨hle68, rfl, (hρ 0), (hρ 1), rfl, rfl⟩
 have h := ite_f hb73 h
 refine On 38 rfl rfl hb73 ?_
 refine Pm (pt g48 0) rfl rfl ?_
 refine On 38 rfl rfl hb73 ?_
 obtain ⟨r75, hr76, h⟩ := bnd h
 refine WL.know (fun _ hs => h60.rs (hs.front 2 rfl)) (fun hf74 => ?_)
 refine WL.f1 ?_
 refine WL.eff (EO.call1 co15 (f_frame_Stream_Err_ok (⟨r53, r54, r55⟩ : T_frame_Stream) _ _ _ hf74 r75 hr76) (args1 rfl)) rfl ?_
 rintro _ M77 _ hle78 ⟨_, ⟨rfl, rfl⟩, rfl⟩
 have h0 := h0.mono hle78
 have hf50 := hf50.mono hle78
 have hq62 := hq62.mono hle78
 have h60 := h60.mono hle78
 have hE := hE.mono hle78
 refine WL.a1 ?_
 refine On 38 rfl rfl hb73 ?_
 refine Pu (.bool (!r75.isNil)) (PO.errNotNil Tryd.underlying28 rfl) rfl ?_
 refine Pu (.bool (!r75.isNil)) (PO.pickF rfl hb73 rfl) rfl ?_
 refine Pm (.bool (!r75.isNil)) rfl rfl ?_
 rcases Bool.eq_false_or_eq_true (!r75.isNil) with hb80 | hb80
 have h := ite_t hb80 h
 iterate 3 refine Of 43 rfl rfl hb80 rfl ?_
 refine Pu (.bool true) (PO.pickT rfl hb80 rfl) rfl ?_
 refine WL.nil ?_
 refine WQ.f1 ?_
 refine WQ.drop ?_
 obtain rfl := Option.some.inj h
 refine WQ.thenJ ?_
 exact ⟨(hle68.trans hle78), rfl, (hρ 0), (hρ 1), rfl, rfl⟩
 have h := ite_f hb80 h
 refine On 43 rfl rfl hb80 ?_
 refine Pm (pt g48 0) rfl rfl ?_
 refine On 43 rfl rfl hb80 ?_
 obtain ⟨r82, hr83, h⟩ := bnd h
 refine WL.know (fun _ hs => h60.rs (hs.front 2 rfl)) (fun hf81 => ?_)
 refine WL.eff (EO.call1 co16 (f_frame_Stream_Left_ok (⟨r53, r54, r55⟩ : T_frame_Stream) _ _ _ hf81 r82 hr83) (args1 rfl)) rfl ?_
 rintro _ M84 _ hle85 ⟨_, ⟨rfl, rfl⟩, rfl⟩
 have h0 := h0.mono hle85
 have hf50 := hf50.mono hle85
 have hq62 := hq62.mono hle85
 have h60 := h60.mono hle85
 have hE := hE.mono hle85
 refine WL.a1 ?_
 refine On 43 rfl rfl hb80 ?_
 refine Pu (.bool (decide (r82 ≠ 0))) (PO.neq rfl rfl) rfl ?_
 refine Pu (.bool (decide (r82 ≠ 0))) (PO.pickF rfl hb80 rfl) rfl ?_
 refine WL.nil ?_
 refine WQ.f1 ?_
 refine WQ.drop ?_
 obtain rfl := Option.some.inj h
 refine WQ.thenJ ?_
 exact ⟨((hle68.trans hle78).trans hle85), rfl, (hρ 0), (hρ 1), rfl, rfl⟩
 rintro ρ64 M64 H64 ⟨hle64, rfl, hs64_0, hs64_1, hs64_5, hs64_47⟩
 have h0 := h0.mono hle64
 have hf50 := hf50.mono hle64
 have h60 := h60.mono hle64
 have hE := hE.mono hle64
 refine WC.cond (b := x63) hs64_47 (fun hb87 => ?_) (fun hb87 => ?_)
 have h := ite_t hb87 h
 refine Sr ?_
 refine Pa (.bool false) rfl rfl ?_
 refine Nt ?_
 refine WC.ret ?_
 refine WQ.thenR ?_
 refine WQ.drop ?_
 refine WQ.drop ?_
 exact WQ.returnsF h [] rfl (results1 rfl rfl) ((((hle24.trans hle36).trans hle49).trans hle58).trans hle64) ⟨rfl, rfl⟩
 have h := ite_f hb87 h
 refine WC.skip ?_
 refine WQ.thenC ?_
 refine Sr ?_
 refine Pu (.agg #[(.slice none 0 0), (.int .i64 0), (GV GErr.nil)]) (PO.buildL (cl := [(.slice none 0 0), (.int .i64 0), (GV GErr.nil)]) ze33 fp33 Parts.nil rfl) rfl ?_
 refine WL.eff (EO.box (cs := #[(.slice none 0 0), (.int .i64 0), (GV GErr.nil)]) (congrArg Value.cells (show ev _ _ = (.agg #[(.slice none 0 0), (.int .i64 0), (GV GErr.nil)]) from rfl))) rfl ?_
 rintro _ _ _ - ⟨rfl, g88, rfl, rfl⟩
 refine Pa (pt g88 0) rfl rfl ?_
 refine Ns ?_
 refine Pm (.int .u16 a1) hs64_1 rfl ?_
 refine Pu (.int .i64 (IntKind.i64.wrap a1)) (PO.conv us23 Tryd.underlying3 rfl) rfl ?_
 refine Pm vq37 hs64_5 rfl ?_
 refine Pu (.int .i64 (r32.length : Int)) (PO.lenS Tryd.underlying26 rfl hf50.len) rfl ?_
 refine Pu (.int .i64 (IntKind.i64.wrap ((r32.length : Int) + (1 : Int)))) (PO.add rfl rfl) rfl ?_
 obtain ⟨hg89, h⟩ := grd_i h
 refine Pu (.int .i64 ((IntKind.i64.wrap a1).tmod (IntKind.i64.wrap ((r32.length : Int) + (1 : Int))))) (PO.rem rfl rfl hg89) rfl ?_
 refine Pa (.int .i64 ((IntKind.i64.wrap a1).tmod (IntKind.i64.wrap ((r32.length : Int) + (1 : Int))))) rfl rfl ?_
 refine Ns ?_
 refine Pm (pt g88 0) rfl rfl ?_
 refine Pm vq37 hs64_5 rfl ?_
 refine Pm (.int .i64 ((IntKind.i64.wrap a1).tmod (IntKind.i64.wrap ((r32.length : Int) + (1 : Int))))) rfl rfl ?_
 obtain ⟨hg90, h⟩ := grd_i h
 have h91 := hf50.sub hg90.1 hg90.2.1 hg90.2.2
 refine Pu (slV vq37 1 ((0 : Int)).toNat ((IntKind.i64.wrap a1).tmod (IntKind.i64.wrap ((r32.length : Int) + (1 : Int)))).toNat) (PO.slice (n := r32.length) (l := ((0 : Int)).toNat) (h := ((IntKind.i64.wrap a1).tmod (IntKind.i64.wrap ((r32.length : Int) + (1 : Int)))).toNat) Tryd.underlying26 sz5 rfl hf50.len hf50.cap (bound0 rfl) ⟨_, _, rfl, (Int.le_trans hg90.1 hg90.2.1), rfl⟩ (Int.toNat_le_toNat hg90.2.1) (toNat_le_len hg90.2.2)) rfl ?_
 obtain ⟨⟨r93, r94, r95, r96⟩, hr97, h⟩ := bnd h
 refine WL.e0 ?_
 refine WL.f1 ?_
 refine WL.eff (EO.call2 co13 (f_frame_Stream_Feed_ok (⟨[], (0 : Int), GErr.nil⟩ : T_frame_Stream) (sub r32 (0 : Int) ((IntKind.i64.wrap a1).tmod (IntKind.i64.wrap ((r32.length : Int) + (1 : Int))))) _ _ _ _ _ (OwnSh.nil _ _) h91 hE (r93, r94, r95, r96) hr97) (args2 rfl rfl)) rfl ?_
 rintro _ M98 _ hle99 ⟨_, ⟨v100, c102, vq103, cq103, rfl, rfl, h101, hq103⟩, rfl⟩
 have h0 := h0.mono hle99
 have hf50 := hf50.mono hle99
 have h91 := h91.mono hle99
 have h60 := h60.mono hle99
 have hE := hE.mono hle99
 refine WL.a3 ?_
 refine Pa vq103 rfl rfl ?_
 refine Nt ?_
 obtain ⟨x104, hj105, h⟩ := bnd h
 refine WC.joinF (fun (x104 : Bool) ρ' M' H' => M98.le M' ∧ [(g88, .cells #[v100, (.int .i64 r95), (GV r96)] 33 (0, 0))] :: [(g48, .cells #[v59, (.int .i64 r54), (GV r55)] 33 (0, 0))] :: c102 :: c61 :: F = H' ∧ ρ' 4 = (.bool x104)) x104 ?_ ?_
 have h3105 := h
 have h := hj105
 refine WC.region ?_
 refine Pm (pt g88 0) rfl rfl ?_
 obtain ⟨r107, hr108, h⟩ := bnd h
 refine WL.know (fun _ hs => h101.rs (hs.front 1 rfl)) (fun hf106 => ?_)
 refine WL.eff (EO.call1 co15 (f_frame_Stream_Err_ok (⟨r94, r95, r96⟩ : T_frame_Stream) _ _ _ hf106 r107 hr108) (args1 rfl)) rfl ?_
 rintro _ M109 _ hle110 ⟨_, ⟨rfl, rfl⟩, rfl⟩
 have h0 := h0.mono hle110
 have hq103 := hq103.mono hle110
 have h60 := h60.mono hle110
 have h101 := h101.mono hle110
 have hE := hE.mono hle110
 refine WL.a1 ?_
 refine Pu (.bool r107.isNil) (PO.errNil Tryd.underlying28 rfl) rfl ?_
 refine Pm (.bool r107.isNil) rfl rfl ?_
 rcases Bool.eq_false_or_eq_true (r107.isNil) with hb112 | hb112
 have h := ite_t hb112 h
 refine On 64 rfl rfl hb112 ?_
 refine Pm vq103 rfl rfl ?_
 refine On 64 rfl rfl hb112 ?_
 refine Pu (.int .i64 (r93.length : Int)) (PO.lenS Tryd.underlying22 rfl hq103.len) rfl ?_
 refine On 64 rfl rfl hb112 ?_
 refine Pm v0 hs64_0 rfl ?_
 refine On 64 rfl rfl hb112 ?_
 refine Pu (.int .i64 (a0.length : Int)) (PO.lenS Tryd.underlying22 rfl h0.len) rfl ?_
 refine On 64 rfl rfl hb112 ?_
 refine Pu (.bool (decide ((r93.length : Int) ≤ (a0.length : Int)))) (PO.leq rfl rfl) rfl ?_
 refine Pu (.bool (decide ((r93.length : Int) ≤ (a0.length : Int)))) (PO.pickT rfl hb112 rfl) rfl ?_
 refine Pm (.bool (decide ((r93.length : Int) ≤ (a0.length : Int)))) rfl rfl ?_
 rcases Bool.eq_false_or_eq_true (decide ((r93.length : Int) ≤ (a0.length : Int))) with hb113 | hb113
 have h := ite_t hb113 h
 refine On 71 rfl rfl hb113 ?_
 refine Pm vq103 rfl rfl ?_
 refine On 71 rfl rfl hb113 ?_
 refine Pm v0 hs64_0 rfl ?_
 refine On 71 rfl rfl hb113 ?_
 refine Pm vq103 rfl rfl ?_
 refine On 71 rfl rfl hb113 ?_
 refine Pu (.int .i64 (r93.length : Int)) (PO.lenS Tryd.underlying22 rfl hq103.len) rfl ?_
 refine On 71 rfl rfl hb113 ?_
 obtain ⟨hg114, h⟩ := grd_i h
 have h115 := h0.sub hg114.1 hg114.2.1 hg114.2.2
 refine Pu (slV v0 2 ((0 : Int)).toNat ((r93.length : Int)).toNat) (PO.slice (n := a0.length) (l := ((0 : Int)).toNat) (h := ((r93.length : Int)).toNat) Tryd.underlying22 sz40 rfl h0.len h0.cap (bound0 rfl) ⟨_, _, rfl, (Int.le_trans hg114.1 hg114.2.1), rfl⟩ (Int.toNat_le_toNat hg114.2.1) (toNat_le_len hg114.2.2)) rfl ?_
 refine On 71 rfl rfl hb113 ?_
 obtain ⟨r116, hr117, h⟩ := bnd h
 refine WL.f2 ?_
 refine WL.eff (EO.call1 co14 (Tri.lend hq103.excl fun w0_ H0_ hs0_ => (f_ref04_Same_ok r93 (sub a0 (0 : Int) (r93.length : Int)) _ _ _ (hq103.rs hs0_) (h115.mono (IM.le_add _ _)) r116 hr117)) (args2 rfl rfl)) rfl ?_
 rintro _ _ _ hle119 ⟨_, ⟨Ml121, Hl122, hll123, rfl, rfl, ⟨rfl, rfl⟩⟩, rfl⟩
 have h0 := h0.mono hle119
 have hq103 := hq103.mono hle119
 have h115 := h115.mono hle119
 have h60 := h60.mono hle119
 have h101 := h101.mono hle119
 have hE := hE.mono hle119
 refine WL.a1 ?_
 refine Pu (.bool r116) (PO.pickT rfl hb113 rfl) rfl ?_
 refine Pm (.bool r116) rfl rfl ?_
 rcases Bool.eq_false_or_eq_true (r116) with hb124 | hb124
 have h := ite_t hb124 h
 refine On 79 rfl rfl hb124 ?_
 refine Pm vq103 rfl rfl ?_
 refine On 79 rfl rfl hb124 ?_
 refine Pu (.int .i64 (r93.length : Int)) (PO.lenS Tryd.underlying22 rfl hq103.len) rfl ?_
 refine On 79 rfl rfl hb124 ?_
 refine Pm v0 hs64_0 rfl ?_
 refine On 79 rfl rfl hb124 ?_
 refine Pu (.int .i64 (a0.length : Int)) (PO.lenS Tryd.underlying22 rfl h0.len) rfl ?_
 refine On 79 rfl rfl hb124 ?_
 refine Pu (.bool (decide ((r93.length : Int) = (a0.length : Int)))) (PO.eql rfl rfl) rfl ?_
 refine On 79 rfl rfl hb124 ?_
 refine Pm (.bool (decide ((r93.length : Int) = (a0.length : Int)))) rfl rfl ?_
 rcases Bool.eq_false_or_eq_true (decide ((r93.length : Int) = (a0.length : Int))) with hb125 | hb125
 have h := ite_t hb125 h
 iterate 3 refine Of 85 rfl rfl hb125 rfl ?_
 refine On 79 rfl rfl hb124 ?_
 refine Pu (.bool true) (PO.pickT rfl hb125 rfl) rfl ?_
 refine On 79 rfl rfl hb124 ?_
 refine Pm (.bool true) rfl rfl ?_
 iterate 2 refine Of 90 rfl rfl rfl rfl ?_
 refine On 79 rfl rfl hb124 ?_
 refine Pu (.bool true) (PO.pickT rfl rfl rfl) rfl ?_
 refine On 79 rfl rfl hb124 ?_
 refine Pm (.bool true) rfl rfl ?_
 iterate 3 refine Of 94 rfl rfl rfl rfl ?_
 refine On 79 rfl rfl hb124 ?_
 refine Pu (.bool true) (PO.pickT rfl rfl rfl) rfl ?_
 refine Pu (.bool true) (PO.pickT rfl hb124 rfl) rfl ?_
 refine Pm (.bool true) rfl rfl ?_
 refine On 100 rfl rfl rfl ?_
 obtain ⟨r126, hr127, h⟩ := bnd h
 refine WL.eff (EO.call0 co11 (f_law04_works_ok _ hE r126 hr127) (args0)) rfl ?_
 rintro _ M128 _ hle129 ⟨_, ⟨rfl, rfl⟩, rfl⟩
 have h0 := h0.mono hle129
 have hq103 := hq103.mono hle129
 have h115 := h115.mono hle129
 have h60 := h60.mono hle129
 have h101 := h101.mono hle129
 have hE := hE.mono hle129
 refine WL.a0 ?_
 refine Pu (.bool r126) (PO.pickT rfl rfl rfl) rfl ?_
 refine Pa (.bool r126) rfl rfl ?_
 refine WL.nil ?_
 refine WQ.drop ?_
 refine WQ.f3 ?_
 refine WQ.f2 ?_
 refine WQ.f3 ?_
 refine WQ.f3 ?_
 obtain rfl := Option.some.inj h
 refine WQ.thenJ ?_
 exact ⟨((hle110.trans hle119).trans hle129), rfl, rfl⟩
 have h := ite_f hb125 h
 refine On 85 rfl rfl hb125 ?_
 refine Pm (pt g88 0) rfl rfl ?_
 refine On 85 rfl rfl hb125 ?_
 obtain ⟨r132, hr133, h⟩ := bnd h
 refine WL.know (fun _ hs => h101.rs (hs.front 2 rfl)) (fun hf131 => ?_)
 refine WL.f1 ?_
 refine WL.eff (EO.call1 co16 (f_frame_Stream_Left_ok (⟨r94, r95, r96⟩ : T_frame_Stream) _ _ _ hf131 r132 hr133) (args1 rfl)) rfl ?_
 rintro _ M134 _ hle135 ⟨_, ⟨rfl, rfl⟩, rfl⟩
 have h0 := h0.mono hle135
 have hq103 := hq103.mono hle135
 have h115 := h115.mono hle135
 have h60 := h60.mono hle135
 have h101 := h101.mono hle135
 have hE := hE.mono hle135
 refine WL.a1 ?_
 refine On 85 rfl rfl hb125 ?_
 refine Pu (.bool (decide ((0 : Int) < r132))) (PO.gtr rfl rfl) rfl ?_
 refine On 79 rfl rfl hb124 ?_
 refine Pu (.bool (decide ((0 : Int) < r132))) (PO.pickF rfl hb125 rfl) rfl ?_
 refine On 79 rfl rfl hb124 ?_
 refine Pm (.bool (decide ((0 : Int) < r132))) rfl rfl ?_
 rcases Bool.eq_false_or_eq_true (decide ((0 : Int) < r132)) with hb137 | hb137
 have h := ite_t hb137 h
 iterate 2 refine Of 90 rfl rfl hb137 rfl ?_
 refine On 79 rfl rfl hb124 ?_
 refine Pu (.bool true) (PO.pickT rfl hb137 rfl) rfl ?_
 refine On 79 rfl rfl hb124 ?_
 refine Pm (.bool true) rfl rfl ?_
 iterate 3 refine Of 94 rfl rfl rfl rfl ?_
 refine On 79 rfl rfl hb124 ?_
 refine Pu (.bool true) (PO.pickT rfl rfl rfl) rfl ?_
 refine Pu (.bool true) (PO.pickT rfl hb124 rfl) rfl ?_
 refine Pm (.bool true) rfl rfl ?_
 refine On 100 rfl rfl rfl ?_
 obtain ⟨r138, hr139, h⟩ := bnd h
 refine WL.eff (EO.call0 co11 (f_law04_works_ok _ hE r138 hr139) (args0)) rfl ?_
 rintro _ M140 _ hle141 ⟨_, ⟨rfl, rfl⟩, rfl⟩
 have h0 := h0.mono hle141
 have hq103 := hq103.mono hle141
 have h115 := h115.mono hle141
 have h60 := h60.mono hle141
 have h101 := h101.mono hle141
 have hE := hE.mono hle141
 refine WL.a0 ?_
 refine Pu (.bool r138) (PO.pickT rfl rfl rfl) rfl ?_
 refine Pa (.bool r138) rfl rfl ?_
 refine WL.nil ?_
 refine WQ.f1 ?_
 refine WQ.drop ?_
 refine WQ.f3 ?_
 refine WQ.f2 ?_
 refine WQ.f3 ?_
 refine WQ.f3 ?_
 obtain rfl := Option.some.inj h
 refine WQ.thenJ ?_
 exact ⟨(((hle110.trans hle119).trans hle135).trans hle141), rfl, rfl⟩
 have h := ite_f hb137 h
 refine On 90 rfl rfl hb137 ?_
 refine Pm (.int .i64 ((IntKind.i64.wrap a1).tmod (IntKind.i64.wrap ((r32.length : Int) + (1 : Int))))) rfl rfl ?_
 refine On 90 rfl rfl hb137 ?_
 refine Pu (.bool (decide (((IntKind.i64.wrap a1).tmod (IntKind.i64.wrap ((r32.length : Int) + (1 : Int)))) = 0))) (PO.eql rfl rfl) rfl ?_
 refine On 79 rfl rfl hb124 ?_
 refine Pu (.bool (decide (((IntKind.i64.wrap a1).tmod (IntKind.i64.wrap ((r32.length : Int) + (1 : Int)))) = 0))) (PO.pickF rfl hb137 rfl) rfl ?_
 refine On 79 rfl rfl hb124 ?_
 refine Pm (.bool (decide (((IntKind.i64.wrap a1).tmod (IntKind.i64.wrap ((r32.length : Int) + (1 : Int)))) = 0))) rfl rfl ?_
 rcases Bool.eq_false_or_eq_true (decide (((IntKind.i64.wrap a1).tmod (IntKind.i64.wrap ((r32.length : Int) + (1 : Int)))) = 0)) with hb143 | hb143
 have h := ite_t hb143 h
 iterate 3 refine Of 94 rfl rfl hb143 rfl ?_
 refine On 79 rfl rfl hb124 ?_
 refine Pu (.bool true) (PO.pickT rfl hb143 rfl) rfl ?_
 refine Pu (.bool true) (PO.pickT rfl hb124 rfl) rfl ?_
 refine Pm (.bool true) rfl rfl ?_
 refine On 100 rfl rfl rfl ?_
 obtain ⟨r144, hr145, h⟩ := bnd h
 refine WL.eff (EO.call0 co11 (f_law04_works_ok _ hE r144 hr145) (args0)) rfl ?_
 rintro _ M146 _ hle147 ⟨_, ⟨rfl, rfl⟩, rfl⟩
 have h0 := h0.mono hle147
 have hq103 := hq103.mono hle147
 have h115 := h115.mono hle147
 have h60 := h60.mono hle147
 have h101 := h101.mono hle147
 have hE := hE.mono hle147
 refine WL.a0 ?_
 refine Pu (.bool r144) (PO.pickT rfl rfl rfl) rfl ?_
 refine Pa (.bool r144) rfl rfl ?_
 refine WL.nil ?_
 refine WQ.f1 ?_
 refine WQ.drop ?_
 refine WQ.f3 ?_
 refine WQ.f2 ?_
 refine WQ.f3 ?_
 refine WQ.f3 ?_
 obtain rfl := Option.some.inj h
 refine WQ.thenJ ?_
 exact ⟨(((hle110.trans hle119).trans hle135).trans hle147), rfl, rfl⟩
 have h := ite_f hb143 h
 refine On 94 rfl rfl hb143 ?_
 refine Pm vq103 rfl rfl ?_
 refine On 94 rfl rfl hb143 ?_
 refine Pu (.int .i64 (r93.length : Int)) (PO.lenS Tryd.underlying22 rfl hq103.len) rfl ?_
 refine On 94 rfl rfl hb143 ?_
 refine Pu (.bool (decide ((0 : Int) < (r93.length : Int)))) (PO.gtr rfl rfl) rfl ?_
 refine On 79 rfl rfl hb124 ?_
 refine Pu (.bool (decide ((0 : Int) < (r93.length : Int)))) (PO.pickF rfl hb143 rfl) rfl ?_
 refine Pu (.bool (decide ((0 : Int) < (r93.length : Int)))) (PO.pickT rfl hb124 rfl) rfl ?_
 refine Pm (.bool (decide ((0 : Int) < (r93.length : Int)))) rfl rfl ?_
 rcases Bool.eq_false_or_eq_true (decide ((0 : Int) < (r93.length : Int))) with hb149 | hb149
 have h := ite_t hb149 h
 refine On 100 rfl rfl hb149 ?_
 obtain ⟨r150, hr151, h⟩ := bnd h
 refine WL.eff (EO.call0 co11 (f_law04_works_ok _ hE r150 hr151) (args0)) rfl ?_
 rintro _ M152 _ hle153 ⟨_, ⟨rfl, rfl⟩, rfl⟩
 have h0 := h0.mono hle153
 have hq103 := hq103.mono hle153
 have h115 := h115.mono hle153
 have h60 := h60.mono hle153
 have h101 := h101.mono hle153
 have hE := hE.mono hle153
 refine WL.a0 ?_
 refine Pu (.bool r150) (PO.pickT rfl hb149 rfl) rfl ?_
 refine Pa (.bool r150) rfl rfl ?_
 refine WL.nil ?_
 refine WQ.f1 ?_
 refine WQ.drop ?_
 refine WQ.f3 ?_
 refine WQ.f2 ?_
 refine WQ.f3 ?_
 refine WQ.f3 ?_
 obtain rfl := Option.some.inj h
 refine WQ.thenJ ?_
 exact ⟨(((hle110.trans hle119).trans hle135).trans hle153), rfl, rfl⟩
 have h := ite_f hb149 h
 refine Of 100 rfl rfl hb149 rfl ?_
 refine Pu (.bool false) (PO.pickF rfl hb149 rfl) rfl ?_
 refine Pa (.bool false) rfl rfl ?_
 refine WL.nil ?_
 refine WQ.f1 ?_
 refine WQ.drop ?_
 refine WQ.f3 ?_
 refine WQ.f2 ?_
 refine WQ.f3 ?_
 refine WQ.f3 ?_
 obtain rfl := Option.some.inj h
 refine WQ.thenJ ?_
 exact ⟨((hle110.trans hle119).trans hle135), rfl, rfl⟩
 have h := ite_f hb124 h
 iterate 6 refine Of 79 rfl rfl hb124 rfl ?_
 refine WL.offU 85 rfl rfl rfl ?_
 refine WL.offU 85 rfl rfl rfl ?_
 refine WL.offU 85 rfl rfl rfl ?_
 iterate 2 refine Of 79 rfl rfl hb124 rfl ?_
 refine WL.offU 90 rfl rfl rfl ?_
 refine WL.offU 90 rfl rfl rfl ?_
 iterate 2 refine Of 79 rfl rfl hb124 rfl ?_
 refine WL.offU 94 rfl rfl rfl ?_
 refine WL.offU 94 rfl rfl rfl ?_
 refine WL.offU 94 rfl rfl rfl ?_
 refine Of 79 rfl rfl hb124 rfl ?_
 refine Pu (.bool false) (PO.pickF rfl hb124 rfl) rfl ?_
 refine Pm (.bool false) rfl rfl ?_
 refine Of 100 rfl rfl rfl rfl ?_
 refine Pu (.bool false) (PO.pickF rfl rfl rfl) rfl ?_
 refine Pa (.bool false) rfl rfl ?_
 refine WL.nil ?_
 refine WQ.drop ?_
 refine WQ.f3 ?_
 refine WQ.f2 ?_
 refine WQ.f3 ?_
 refine WQ.f3 ?_
 obtain rfl := Option.some.inj h
 refine WQ.thenJ ?_
 exact ⟨(hle110.trans hle119), rfl, rfl⟩
 have h := ite_f hb113 h
 iterate 6 refine Of 71 rfl rfl hb113 rfl ?_
 refine Pu (.bool false) (PO.pickF rfl hb113 rfl) rfl ?_
 refine Pm (.bool false) rfl rfl ?_
 iterate 6 refine Of 79 rfl rfl rfl rfl ?_
 refine WL.offU 85 rfl rfl rfl ?_
 refine WL.offU 85 rfl rfl rfl ?_
 refine WL.offU 85 rfl rfl rfl ?_
 iterate 2 refine Of 79 rfl rfl rfl rfl ?_
 refine WL.offU 90 rfl rfl rfl ?_
 refine WL.offU 90 rfl rfl rfl ?_
 iterate 2 refine Of 79 rfl rfl rfl rfl ?_
 refine WL.offU 94 rfl rfl rfl ?_
 refine WL.offU 94 rfl rfl rfl ?_
 refine WL.offU 94 rfl rfl rfl ?_
 refine Of 79 rfl rfl rfl rfl ?_
 refine Pu (.bool false) (PO.pickF rfl rfl rfl) rfl ?_
 refine Pm (.bool false) rfl rfl ?_
 refine Of 100 rfl rfl rfl rfl ?_
 refine Pu (.bool false) (PO.pickF rfl rfl rfl) rfl ?_
 refine Pa (.bool false) rfl rfl ?_
 refine WL.nil ?_
 refine WQ.f2 ?_
 refine WQ.drop ?_
 refine WQ.f3 ?_
 refine WQ.f2 ?_
 refine WQ.f3 ?_
 refine WQ.f3 ?_
 obtain rfl := Option.some.inj h
 refine WQ.thenJ ?_
 exact ⟨hle110, rfl, rfl⟩
 have h := ite_f hb112 h
 iterate 5 refine Of 64 rfl rfl hb112 rfl ?_
 refine Pu (.bool false) (PO.pickF rfl hb112 rfl) rfl ?_
 refine Pm (.bool false) rfl rfl ?_
 iterate 6 refine Of 71 rfl rfl rfl rfl ?_
 refine Pu (.bool false) (PO.pickF rfl rfl rfl) rfl ?_
 refine Pm (.bool false) rfl rfl ?_
 iterate 6 refine Of 79 rfl rfl rfl rfl ?_
 refine WL.offU 85 rfl rfl rfl ?_
 refine WL.offU 85 rfl rfl rfl ?_
 refine WL.offU 85 rfl rfl rfl ?_
 iterate 2 refine Of 79 rfl rfl rfl rfl ?_
 refine WL.offU 90 rfl rfl rfl ?_
 refine WL.offU 90 rfl rfl rfl ?_
 iterate 2 refine Of 79 rfl rfl rfl rfl ?_
 refine WL.offU 94 rfl rfl rfl ?_
 refine WL.offU 94 rfl rfl rfl ?_
 refine WL.offU 94 rfl rfl rfl ?_
 refine Of 79 rfl rfl rfl rfl ?_
 refine Pu (.bool false) (PO.pickF rfl rfl rfl) rfl ?_
 refine Pm (.bool false) rfl rfl ?_
 refine Of 100 rfl rfl rfl rfl ?_
 refine Pu (.bool false) (PO.pickF rfl rfl rfl) rfl ?_
 refine Pa (.bool false) rfl rfl ?_
 refine WL.nil ?_
 refine WQ.f2 ?_
 refine WQ.drop ?_
 refine WQ.f3 ?_
 refine WQ.f2 ?_
 refine WQ.f3 ?_
 refine WQ.f3 ?_
 obtain rfl := Option.some.inj h
 refine WQ.thenJ ?_
 exact ⟨hle110, rfl, rfl⟩
 rintro ρ105 M105 H105 ⟨hle105, rfl, hs105_4⟩
 have h101 := h101.mono hle105
 have h60 := h60.mono hle105
 have hE := hE.mono hle105
 refine WC.ret ?_
 refine WQ.drop ?_
 refine WQ.drop ?_
 refine WQ.drop ?_
 refine WQ.drop ?_
 exact WQ.returnsF h [] rfl (results1 rfl hs105_4) ((((((hle24.trans hle36).trans hle49).trans hle58).trans hle64).trans hle99).trans hle105) ⟨rfl, rfl⟩


end Go.Proofs.YtjiffdgidodebaaDoor.G
