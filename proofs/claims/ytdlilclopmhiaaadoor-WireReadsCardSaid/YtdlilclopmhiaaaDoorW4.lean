/- Go functions: what they come to, and that they do. Printed by a program of the session (gen). -/
import Derived.Test.YtdlilclopmhiaaaDoorWF
import Derived.Test.YtdlilclopmhiaaaDoorW3
set_option linter.unusedVariables false
set_option linter.unusedSimpArgs false
namespace Go.Proofs.YtdlilclopmhiaaaDoor.G
open Go Go.KK

noncomputable def f_law02_WirePuts (a0 : (List Int)) (a1 : Int) (a2 : Int) (a3 : Bool) (a4 : (List Int)) (a5 : (List Int)) : Option Bool :=
  (((if (decide ((500 : Int) < (a0.length : Int))) = true then (some true) else (if (decide ((2000 : Int) < (a4.length : Int))) = true then (some true) else (some (decide ((500 : Int) < (a5.length : Int)))))) : Option Bool).bind fun (x21 : Bool) => (if x21 = true then ((f_law02_works).bind fun (r26 : Bool) => (some r26)) else (grd (([] : List Int).length + a0.length ≤ 274877906944) ((f_wire_Num (([] : List Int) ++ a0) a1).bind fun (r36 : (List Int)) => ((f_wire_Int r36 a2).bind fun (r41 : (List Int)) => ((f_wire_Flag r41 a3).bind fun (r46 : (List Int)) => ((f_wire_Text r46 a4).bind fun (r51 : (List Int)) => ((f_wire_Row r51 a5).bind fun (r56 : (List Int)) => (grd (([] : List Int).length + a0.length ≤ 274877906944) ((f_ref02_Num a1).bind fun (r66 : (List Int)) => (grd ((([] : List Int) ++ a0).length + r66.length ≤ 274877906944) ((f_ref02_Int a2).bind fun (r75 : (List Int)) => (grd (((([] : List Int) ++ a0) ++ r66).length + r75.length ≤ 274877906944) ((f_ref02_Flag a3).bind fun (r84 : (List Int)) => (grd ((((([] : List Int) ++ a0) ++ r66) ++ r75).length + r84.length ≤ 274877906944) ((f_ref02_Text a4).bind fun (r93 : (List Int)) => (grd (((((([] : List Int) ++ a0) ++ r66) ++ r75) ++ r84).length + r93.length ≤ 274877906944) ((((f_ref02_Row a5).bind fun (r104 : (List Int)) => (grd ((((((([] : List Int) ++ a0) ++ r66) ++ r75) ++ r84) ++ r93).length + r104.length ≤ 274877906944) ((f_ref02_Same r56 ((((((([] : List Int) ++ a0) ++ r66) ++ r75) ++ r84) ++ r93) ++ r104)).bind fun (r113 : Bool) => (if r113 = true then ((f_law02_works).bind fun (r125 : Bool) => (some r125)) else (some false))))) : Option Bool).bind fun (x102 : Bool) => (some x102)))))))))))))))))))
def f_law02_WirePuts_post (a0 : (List Int)) (a1 : Int) (a2 : Int) (a3 : Bool) (a4 : (List Int)) (a5 : (List Int)) (v0 v4 v5 : Value) : Bool → Value → IM → HL → Prop :=
  fun (r0 : Bool) (v : Value) (M' : IM) (H' : HL) => (.bool r0) = v ∧ H' = []
set_option maxHeartbeats 8000000 in
set_option maxRecDepth 100000 in
theorem f_law02_WirePuts_ok (a0 : (List Int)) (a1 : Int) (a2 : Int) (a3 : Bool) (a4 : (List Int)) (a5 : (List Int)) (M : IM) (v0 v4 v5 : Value) (h0 : RS (Kd.int .u8) M v0 a0) (h4 : RS (Kd.int .u8) M v4 a4) (h5 : RS (Kd.int .i64) M v5 a5) (hE : Env M) (res : Bool) (h : f_law02_WirePuts a0 a1 a2 a3 a4 a5 = some res) :
    Tri Tryd.prog 3 #[v0, (.int .u64 a1), (.int .i64 a2), (.bool a3), v4, v5] M [] (f_law02_WirePuts_post a0 a1 a2 a3 a4 a5 v0 v4 v5 res) := by
 unfold f_law02_WirePuts at h
 refine Tri.enter (fn := Tryd.f3) Tryd.func3 rfl (Nat.le_of_ble_eq_true rfl) ?_
 intro F ρ hρ
 refine Sr ?_
 refine Pa (.bool false) rfl rfl ?_
 refine Nt ?_
 refine WC.seq ?_
 obtain ⟨x21, hj22, h⟩ := bnd h
 refine WC.joinF (fun (x21 : Bool) ρ' M' H' => M.le M' ∧ F = H' ∧ ρ' 0 = v0 ∧ ρ' 1 = (.int .u64 a1) ∧ ρ' 2 = (.int .i64 a2) ∧ ρ' 3 = (.bool a3) ∧ ρ' 4 = v4 ∧ ρ' 5 = v5 ∧ ρ' 27 = (.bool x21)) x21 ?_ ?_
 have h322 := h
 have h := hj22
 refine WC.region ?_
 refine Pm v0 (hρ 0) rfl ?_
 refine Pu (.int .i64 (a0.length : Int)) (PO.lenS Tryd.underlying22 rfl h0.len) rfl ?_
 refine Pu (.bool (decide ((500 : Int) < (a0.length : Int)))) (PO.gtr rfl rfl) rfl ?_
 refine Pm (.bool (decide ((500 : Int) < (a0.length : Int)))) rfl rfl ?_
 rcases Bool.eq_false_or_eq_true (decide ((500 : Int) < (a0.length : Int))) with hb23 | hb23
 have h := ite_t hb23 h
 iterate 3 refine Of 18 rfl rfl hb23 rfl ?_
 refine Pu (.bool true) (PO.pickT rfl hb23 rfl) rfl ?_
 refine Pm (.bool true) rfl rfl ?_
 iterate 3 refine Of 23 rfl rfl rfl rfl ?_
 refine Pu (.bool true) (PO.pickT rfl rfl rfl) rfl ?_
 refine WL.nil ?_
 obtain rfl := Option.some.inj h
 refine WQ.thenJ ?_
 exact ⟨(IM.le.refl _), rfl, (hρ 0), (hρ 1), (hρ 2), (hρ 3), (hρ 4), (hρ 5), rfl⟩
 have h := ite_f hb23 h
 refine On 18 rfl rfl hb23 ?_
 refine Pm v4 (hρ 4) rfl ?_
 refine On 18 rfl rfl hb23 ?_
 refine Pu (.int .i64 (a4.length : Int)) (PO.lenS Tryd.underlying22 rfl h4.len) rfl ?_
 refine On 18 rfl rfl hb23 ?_
 refine Pu (.bool (decide ((2000 : Int) < (a4.length : Int)))) (PO.gtr rfl rfl) rfl ?_
 refine Pu (.bool (decide ((2000 : Int) < (a4.length : Int)))) (PO.pickF rfl hb23 rfl) rfl ?_
 refine Pm (.bool (decide ((2000 : Int) < (a4.length : Int)))) rfl rfl ?_
 rcases Bool.eq_false_or_eq_true (decide ((2000 : Int) < (a4.length : Int))) with hb24 | hb24
 have h := ite_t hb24 h
 iterate 3 refine Of 23 rfl rfl hb24 rfl ?_
 refine Pu (.bool true) (PO.pickT rfl hb24 rfl) rfl ?_
 refine WL.nil ?_
 obtain rfl := Option.some.inj h
 refine WQ.thenJ ?_
 exact ⟨(IM.le.refl _), rfl, (hρ 0), (hρ 1), (hρ 2), (hρ 3), (hρ 4), (hρ 5), rfl⟩
 have h := ite_f hb24 h
 refine On 23 rfl rfl hb24 ?_
 refine Pm v5 (hρ 5) rfl ?_
 refine On 23 rfl rfl hb24 ?_
 refine Pu (.int .i64 (a5.length : Int)) (PO.lenS Tryd.underlying24 rfl h5.len) rfl ?_
 refine On 23 rfl rfl hb24 ?_
 refine Pu (.bool (decide ((500 : Int) < (a5.length : Int)))) (PO.gtr rfl rfl) rfl ?_
 refine Pu (.bool (decide ((500 : Int) < (a5.length : Int)))) (PO.pickF rfl hb24 rfl) rfl ?_
 refine WL.nil ?_
 obtain rfl := Option.some.inj h
 refine WQ.thenJ ?_
 exact ⟨(IM.le.refl _), rfl, (hρ 0), (hρ 1), (hρ 2), (hρ 3), (hρ 4), (hρ 5), rfl⟩
 rintro ρ22 M22 H22 ⟨hle22, rfl, hs22_0, hs22_1, hs22_2, hs22_3, hs22_4, hs22_5, hs22_27⟩
 have h0 := h0.mono hle22
 have h4 := h4.mono hle22
 have h5 := h5.mono hle22
 have hE := hE.mono hle22
 refine WC.cond (b := x21) hs22_27 (fun hb25 => ?_) (fun hb25 => ?_)
 have h := ite_t hb25 h
 refine Sr ?_
 obtain ⟨r26, hr27, h⟩ := bnd h
 refine WL.eff (EO.call0 co8 (f_law02_works_ok _ hE r26 hr27) (args0)) rfl ?_
 rintro _ M28 _ hle29 ⟨_, ⟨rfl, rfl⟩, rfl⟩
 have h0 := h0.mono hle29
 have h4 := h4.mono hle29
 have h5 := h5.mono hle29
 have hE := hE.mono hle29
 refine WL.a0 ?_
 refine Pa (.bool r26) rfl rfl ?_
 refine Nt ?_
 refine WC.ret ?_
 refine WQ.thenR ?_
 exact WQ.returnsF h [] rfl (results1 rfl rfl) (hle22.trans hle29) ⟨rfl, rfl⟩
 have h := ite_f hb25 h
 refine WC.skip ?_
 refine WQ.thenC ?_
 refine Sr ?_
 refine Pa (.slice none 0 0) rfl rfl ?_
 refine Ns ?_
 refine Pm (.slice none 0 0) rfl rfl ?_
 refine Pm v0 hs22_0 rfl ?_
 obtain ⟨hg35, h⟩ := grd_i h
 refine WL.e0 ?_
 refine WL.eff (EO.append (dd := (Kd.int .u8)) (xs := []) (ys := a0) Tryd.underlying22 Tryd.underlying22 in5 rfl (appB (by decide) hg35) (by decide) rfl rfl (OwnS.nil _ _) (h0.src _)) rfl ?_
 rintro v34 _ _ - ⟨rfl, c32, rfl, h33⟩
 refine Pa v34 rfl rfl ?_
 refine Ns ?_
 refine Pm v34 rfl rfl ?_
 refine Pm (.int .u64 a1) hs22_1 rfl ?_
 obtain ⟨r36, hr37, h⟩ := bnd h
 refine WL.eff (EO.call1 co13 (f_wire_Num_ok (([] : List Int) ++ a0) a1 _ _ _ h33 r36 hr37) (args2 rfl rfl)) rfl ?_
 rintro _ M38 _ hle39 ⟨_, ⟨vq40, cq40, rfl, rfl, hq40⟩, rfl⟩
 have h0 := h0.mono hle39
 have h4 := h4.mono hle39
 have h5 := h5.mono hle39
 have h33 := h33.mono hle39
 have hE := hE.mono hle39
 refine WL.a1 ?_
 refine Pm (.int .i64 a2) hs22_2 rfl ?_
 obtain ⟨r41, hr42, h⟩ := bnd h
 refine WL.eff (EO.call1 co12 (f_wire_Int_ok r36 a2 _ _ _ hq40 r41 hr42) (args2 rfl rfl)) rfl ?_
 rintro _ M43 _ hle44 ⟨_, ⟨vq45, cq45, rfl, rfl, hq45⟩, rfl⟩
 have h0 := h0.mono hle44
 have h4 := h4.mono hle44
 have h5 := h5.mono hle44
 have h33 := h33.mono hle44
 have hq40 := hq40.mono hle44
 have hE := hE.mono hle44
 refine WL.a1 ?_
 refine Pm (.bool a3) hs22_3 rfl ?_
 obtain ⟨r46, hr47, h⟩ := bnd h
 refine WL.eff (EO.call1 co11 (f_wire_Flag_ok r41 a3 _ _ _ hq45 r46 hr47) (args2 rfl rfl)) rfl ?_
 rintro _ M48 _ hle49 ⟨_, ⟨vq50, cq50, rfl, rfl, hq50⟩, rfl⟩
 have h0 := h0.mono hle49
 have h4 := h4.mono hle49
 have h5 := h5.mono hle49
 have h33 := h33.mono hle49
 have hq40 := hq40.mono hle49
 have hq45 := hq45.mono hle49
 have hE := hE.mono hle49
 refine WL.a1 ?_
 refine Pm v4 hs22_4 rfl ?_
 obtain ⟨r51, hr52, h⟩ := bnd h
 refine WL.eff (EO.call1 co10 (f_wire_Text_ok r46 a4 _ _ _ _ hq50 h4 r51 hr52) (args2 rfl rfl)) rfl ?_
 rintro _ M53 _ hle54 ⟨_, ⟨vq55, cq55, rfl, rfl, hq55⟩, rfl⟩
 have h0 := h0.mono hle54
 have h4 := h4.mono hle54
 have h5 := h5.mono hle54
 have h33 := h33.mono hle54
 have hq40 := hq40.mono hle54
 have hq45 := hq45.mono hle54
 have hq50 := hq50.mono hle54
 have hE := hE.mono hle54
 refine WL.a1 ?_
 refine Pm v5 hs22_5 rfl ?_
 obtain ⟨r56, hr57, h⟩ := bnd h
 refine WL.eff (EO.call1 co9 (f_wire_Row_ok r51 a5 _ _ _ _ hq55 h5 r56 hr57) (args2 rfl rfl)) rfl ?_
 rintro _ M58 _ hle59 ⟨_, ⟨vq60, cq60, rfl, rfl, hq60⟩, rfl⟩
 have h0 := h0.mono hle59
 have h4 := h4.mono hle59
 have h5 := h5.mono hle59
 have h33 := h33.mono hle59
 have hq40 := hq40.mono hle59
 have hq45 := hq45.mono hle59
 have hq50 := hq50.mono hle59
 have hq55 := hq55.mono hle59
 have hE := hE.mono hle59
 refine WL.a1 ?_
 refine Pa vq60 rfl rfl ?_
 refine Ns ?_
 refine Pa (.slice none 0 0) rfl rfl ?_
 refine Ns ?_
 refine Pm (.slice none 0 0) rfl rfl ?_
 refine Pm v0 hs22_0 rfl ?_
 obtain ⟨hg65, h⟩ := grd_i h
 refine WL.e0 ?_
 refine WL.eff (EO.append (dd := (Kd.int .u8)) (xs := []) (ys := a0) Tryd.underlying22 Tryd.underlying22 in5 rfl (appB (by decide) hg65) (by decide) rfl rfl (OwnS.nil _ _) (h0.src _)) rfl ?_
 rintro v64 _ _ - ⟨rfl, c62, rfl, h63⟩
 refine Pa v64 rfl rfl ?_
 refine Ns ?_
 refine Pm v64 rfl rfl ?_
 refine Pm (.int .u64 a1) hs22_1 rfl ?_
 obtain ⟨r66, hr67, h⟩ := bnd h
 refine WL.eff (EO.call0 co14 (f_ref02_Num_ok a1 _ r66 hr67) (args1 rfl)) rfl ?_
 rintro _ M68 _ hle69 ⟨_, ⟨vq70, cq70, rfl, rfl, hq70⟩, rfl⟩
 have h4 := h4.mono hle69
 have h5 := h5.mono hle69
 have hq60 := hq60.mono hle69
 have h63 := h63.mono hle69
 have hE := hE.mono hle69
 refine WL.a1 ?_
 obtain ⟨hg74, h⟩ := grd_i h
 refine WL.f1 ?_
 refine WL.eff (EO.append (dd := (Kd.int .u8)) (xs := ([] : List Int) ++ a0) (ys := r66) Tryd.underlying22 Tryd.underlying22 in5 rfl (appB (by decide) hg74) (by decide) rfl rfl h63 (hq70.src 1 rfl)) rfl ?_
 rintro v73 _ _ - ⟨rfl, c71, rfl, h72⟩
 refine Pm (.int .i64 a2) hs22_2 rfl ?_
 obtain ⟨r75, hr76, h⟩ := bnd h
 refine WL.eff (EO.call0 co15 (f_ref02_Int_ok a2 _ r75 hr76) (args1 rfl)) rfl ?_
 rintro _ M77 _ hle78 ⟨_, ⟨vq79, cq79, rfl, rfl, hq79⟩, rfl⟩
 have h4 := h4.mono hle78
 have h5 := h5.mono hle78
 have hq60 := hq60.mono hle78
 have hq70 := hq70.mono hle78
 have h72 := h72.mono hle78
 have hE := hE.mono hle78
 refine WL.a1 ?_
 obtain ⟨hg83, h⟩ := grd_i h
 refine WL.f1 ?_
 refine WL.eff (EO.append (dd := (Kd.int .u8)) (xs := (([] : List Int) ++ a0) ++ r66) (ys := r75) Tryd.underlying22 Tryd.underlying22 in5 rfl (appB (by decide) hg83) (by decide) rfl rfl h72 (hq79.src 1 rfl)) rfl ?_
 rintro v82 _ _ - ⟨rfl, c80, rfl, h81⟩
 refine Pa v82 rfl rfl ?_
 refine Ns ?_
 refine Pm v82 rfl rfl ?_
 refine Pm (.bool a3) hs22_3 rfl ?_
 obtain ⟨r84, hr85, h⟩ := bnd h
 refine WL.eff (EO.call0 co16 (f_ref02_Flag_ok a3 _ r84 hr85) (args1 rfl)) rfl ?_
 rintro _ M86 _ hle87 ⟨_, ⟨vq88, cq88, rfl, rfl, hq88⟩, rfl⟩
 have h4 := h4.mono hle87
 have h5 := h5.mono hle87
 have hq60 := hq60.mono hle87
 have h81 := h81.mono hle87
 have hE := hE.mono hle87
 refine WL.a1 ?_
 obtain ⟨hg92, h⟩ := grd_i h
 refine WL.f1 ?_
 refine WL.eff (EO.append (dd := (Kd.int .u8)) (xs := ((([] : List Int) ++ a0) ++ r66) ++ r75) (ys := r84) Tryd.underlying22 Tryd.underlying22 in5 rfl (appB (by decide) hg92) (by decide) rfl rfl h81 (hq88.src 1 rfl)) rfl ?_
 rintro v91 _ _ - ⟨rfl, c89, rfl, h90⟩
 refine Pm v4 hs22_4 rfl ?_
 obtain ⟨r93, hr94, h⟩ := bnd h
 refine WL.eff (EO.call0 co17 (f_ref02_Text_ok a4 _ _ h4 r93 hr94) (args1 rfl)) rfl ?_
 rintro _ M95 _ hle96 ⟨_, ⟨vq97, cq97, rfl, rfl, hq97⟩, rfl⟩
 have h4 := h4.mono hle96
 have h5 := h5.mono hle96
 have hq60 := hq60.mono hle96
 have hq88 := hq88.mono hle96
 have h90 := h90.mono hle96
 have hE := hE.mono hle96
 refine WL.a1 ?_
 obtain ⟨hg101, h⟩ := grd_i h
 refine WL.f1 ?_
 refine WL.eff (EO.append (dd := (Kd.int .u8)) (xs := (((([] : List Int) ++ a0) ++ r66) ++ r75) ++ r84) (ys := r93) Tryd.underlying22 Tryd.underlying22 in5 rfl (appB (by decide) hg101) (by decide) rfl rfl h90 (hq97.src 1 rfl)) rfl ?_
 rintro v100 _ _ - ⟨rfl, c98, rfl, h99⟩
 refine Pa v100 rfl rfl ?_
 refine Nt ?_
 obtain ⟨x102, hj103, h⟩ := bnd h
 refine WC.joinF (fun (x102 : Bool) ρ' M' H' => M95.le M' ∧ F = H' ∧ ρ' 12 = (.bool x102)) x102 ?_ ?_
 have h3103 := h
 have h := hj103
 refine WC.region ?_
 refine Pm vq60 rfl rfl ?_
 refine Pm v100 rfl rfl ?_
 refine Pm v5 hs22_5 rfl ?_
 obtain ⟨r104, hr105, h⟩ := bnd h
 refine WL.eff (EO.call0 co19 (f_ref02_Row_ok a5 _ _ h5 r104 hr105) (args1 rfl)) rfl ?_
 rintro _ M106 _ hle107 ⟨_, ⟨vq108, cq108, rfl, rfl, hq108⟩, rfl⟩
 have h5 := h5.mono hle107
 have hq60 := hq60.mono hle107
 have h99 := h99.mono hle107
 have hE := hE.mono hle107
 refine WL.a1 ?_
 obtain ⟨hg112, h⟩ := grd_i h
 refine WL.f1 ?_
 refine WL.eff (EO.append (dd := (Kd.int .u8)) (xs := ((((([] : List Int) ++ a0) ++ r66) ++ r75) ++ r84) ++ r93) (ys := r104) Tryd.underlying22 Tryd.underlying22 in5 rfl (appB (by decide) hg112) (by decide) rfl rfl h99 (hq108.src 1 rfl)) rfl ?_
 rintro v111 _ _ - ⟨rfl, c109, rfl, h110⟩
 obtain ⟨r113, hr114, h⟩ := bnd h
 refine WL.f6 ?_
 refine WL.eff (EO.call2 co18 (Tri.lend fun w0_ H0_ hs0_ => (Tri.lend fun w1_ H1_ hs1_ => (f_ref02_Same_ok r56 ((((((([] : List Int) ++ a0) ++ r66) ++ r75) ++ r84) ++ r93) ++ r104) _ _ _ ((hq60.rs hs0_).mono (IM.le_add _ _)) ((h110.mono (IM.le_add _ _)).rs hs1_) r113 hr114))) (args2 rfl rfl)) rfl ?_
 rintro _ _ _ hle116 ⟨_, ⟨Ml121, Hl122, hll123, rfl, rfl, ⟨Ml118, Hl119, hll120, rfl, rfl, ⟨rfl, rfl⟩⟩⟩, rfl⟩
 have h5 := h5.mono hle116
 have hq60 := hq60.mono hle116
 have hq108 := hq108.mono hle116
 have h110 := h110.mono hle116
 have hE := hE.mono hle116
 refine WL.a2 ?_
 refine Pm (.bool r113) rfl rfl ?_
 rcases Bool.eq_false_or_eq_true (r113) with hb124 | hb124
 have h := ite_t hb124 h
 refine On 66 rfl rfl hb124 ?_
 obtain ⟨r125, hr126, h⟩ := bnd h
 refine WL.eff (EO.call0 co8 (f_law02_works_ok _ hE r125 hr126) (args0)) rfl ?_
 rintro _ M127 _ hle128 ⟨_, ⟨rfl, rfl⟩, rfl⟩
 have h5 := h5.mono hle128
 have hq60 := hq60.mono hle128
 have hq108 := hq108.mono hle128
 have h110 := h110.mono hle128
 have hE := hE.mono hle128
 refine WL.a0 ?_
 refine Pu (.bool r125) (PO.pickT rfl hb124 rfl) rfl ?_
 refine Pa (.bool r125) rfl rfl ?_
 refine WL.nil ?_
 refine WQ.drop ?_
 refine WQ.drop ?_
 refine WQ.drop ?_
 refine WQ.drop ?_
 refine WQ.drop ?_
 refine WQ.drop ?_
 refine WQ.drop ?_
 obtain rfl := Option.some.inj h
 refine WQ.thenJ ?_
 exact ⟨((hle107.trans hle116).trans hle128), rfl, rfl⟩
 have h := ite_f hb124 h
 refine Of 66 rfl rfl hb124 rfl ?_
 refine Pu (.bool false) (PO.pickF rfl hb124 rfl) rfl ?_
 refine Pa (.bool false) rfl rfl ?_
 refine WL.nil ?_
 refine WQ.drop ?_
 refine WQ.drop ?_
 refine WQ.drop ?_
 refine WQ.drop ?_
 refine WQ.drop ?_
 refine WQ.drop ?_
 refine WQ.drop ?_
 obtain rfl := Option.some.inj h
 refine WQ.thenJ ?_
 exact ⟨(hle107.trans hle116), rfl, rfl⟩
 rintro ρ103 M103 H103 ⟨hle103, rfl, hs103_12⟩
 have hE := hE.mono hle103
 refine WC.ret ?_
 exact WQ.returnsF h [] rfl (results1 rfl hs103_12) ((((((((((hle22.trans hle39).trans hle44).trans hle49).trans hle54).trans hle59).trans hle69).trans hle78).trans hle87).trans hle96).trans hle103) ⟨rfl, rfl⟩

noncomputable def f_ref02_Ints_l0 (a0 : (List Int)) (a1 : (List Int)) (s_ : Int) : Option (Int ⊕ (Unit ⊕ Unit)) :=
  match s_ with
  | x24 =>
    (if (decide (x24 < (a0.length : Int))) = true then (grd (0 ≤ x24 ∧ x24 < a0.length) (grd (0 ≤ x24 ∧ x24 < a1.length) (if (decide ((rd a0 x24) ≠ (rd a1 x24))) = true then (some (Sum.inr (Sum.inr ()))) else (some (Sum.inl (IntKind.i64.wrap (x24 + (1 : Int)))))))) else (some (Sum.inr (Sum.inl ()))))
noncomputable def f_ref02_Ints (a0 : (List Int)) (a1 : (List Int)) : Option Bool :=
  (if (decide ((a0.length : Int) ≠ (a1.length : Int))) = true then (some false) else ((((iter (f_ref02_Ints_l0 a0 a1) (0 : Int)).bind (Sum.elim (fun _ => (some (Sum.inl ()))) (fun _ => (((some false)).bind fun r => some (Sum.inr r))))) : Option (Unit ⊕ Bool)).bind (Sum.elim (fun _ => (some true)) some)))
def f_ref02_Ints_post (a0 : (List Int)) (a1 : (List Int)) (v0 v1 : Value) : Bool → Value → IM → HL → Prop :=
  fun (r0 : Bool) (v : Value) (M' : IM) (H' : HL) => (.bool r0) = v ∧ H' = []
set_option maxHeartbeats 8000000 in
set_option maxRecDepth 100000 in
theorem f_ref02_Ints_ok (a0 : (List Int)) (a1 : (List Int)) (M : IM) (v0 v1 : Value) (h0 : RS (Kd.int .i64) M v0 a0) (h1 : RS (Kd.int .i64) M v1 a1) (res : Bool) (h : f_ref02_Ints a0 a1 = some res) :
    Tri Tryd.prog 25 #[v0, v1] M [] (f_ref02_Ints_post a0 a1 v0 v1 res) := by
 unfold f_ref02_Ints at h
 refine Tri.enter (fn := Tryd.f25) Tryd.func25 rfl (Nat.le_of_ble_eq_true rfl) ?_
 intro F ρ hρ
 refine Sr ?_
 refine Pa (.bool false) rfl rfl ?_
 refine Nt ?_
 refine WC.seq ?_
 refine Sr ?_
 refine Pm v0 (hρ 0) rfl ?_
 refine Pu (.int .i64 (a0.length : Int)) (PO.lenS Tryd.underlying24 rfl h0.len) rfl ?_
 refine Pm v1 (hρ 1) rfl ?_
 refine Pu (.int .i64 (a1.length : Int)) (PO.lenS Tryd.underlying24 rfl h1.len) rfl ?_
 refine Pu (.bool (decide ((a0.length : Int) ≠ (a1.length : Int)))) (PO.neq rfl rfl) rfl ?_
 refine Nt ?_
 refine WC.cond (b := decide ((a0.length : Int) ≠ (a1.length : Int))) rfl (fun hb21 => ?_) (fun hb21 => ?_)
 have h := ite_t hb21 h
 refine Sr ?_
 refine Pa (.bool false) rfl rfl ?_
 refine Nt ?_
 refine WC.ret ?_
 refine WQ.thenR ?_
 exact WQ.returnsF h [] rfl (results1 rfl rfl) (IM.le.refl _) ⟨rfl, rfl⟩
 have h := ite_f hb21 h
 refine WC.skip ?_
 refine WQ.thenC ?_
 obtain ⟨j22, hj22, h⟩ := bnd h
 refine WC.joinE (fun (_ : Unit) ρ' M' H' => M.le M' ∧ F = H') j22 ?_ ?_
 have h322 := h
 have h := hj22
 refine Sr ?_
 refine Pa (.int .i64 (0 : Int)) rfl rfl ?_
 refine Nt ?_
 refine WC.block ?_
 obtain ⟨e23, he23, hK23⟩ := bnd h
 clear h
 refine WC.loop he23 (fun (x24 : Int) ρ' M' H' => M.le M' ∧ F = H' ∧ ρ' 0 = v0 ∧ ρ' 1 = v1 ∧ ρ' 5 = (.int .i64 x24)) ?_ ?_
 exact ⟨(IM.le.refl _), rfl, (hρ 0), (hρ 1), rfl⟩
 rintro x24 o23 ρ23 M23 H23 h ⟨hle23, rfl, hs23_0, hs23_1, hs23_5⟩
 unfold f_ref02_Ints_l0 at h
 have h0 := h0.mono hle23
 have h1 := h1.mono hle23
 refine WC.seq ?_
 refine Sr ?_
 refine Pm (.int .i64 x24) hs23_5 rfl ?_
 refine Pm v0 hs23_0 rfl ?_
 refine Pu (.int .i64 (a0.length : Int)) (PO.lenS Tryd.underlying24 rfl h0.len) rfl ?_
 refine Pu (.bool (decide (x24 < (a0.length : Int)))) (PO.lss rfl rfl) rfl ?_
 refine Nt ?_
 refine WC.cond (b := decide (x24 < (a0.length : Int))) rfl (fun hb25 => ?_) (fun hb25 => ?_)
 have h := ite_t hb25 h
 refine WC.skip ?_
 refine WQ.thenC ?_
 refine WC.seq ?_
 refine WC.block ?_
 refine WC.seq ?_
 refine WC.draw [0, 0, 3, 7, 0, 0, 48, 112, 255] (.pure 0 (.pure 1 (.pure 2 (.pure 3 (.pure 4 (.pure 5 (.pure 6 (.pure 7 (.pure 8 .done))))))))) mixed (by kernel_rfl) ?_
 refine Tp v0 rfl (PO.move hs23_0) rfl ?_
 refine Tp (.int .i64 x24) rfl (PO.move hs23_5) rfl ?_
 obtain ⟨hg26, h⟩ := grd_i h
 obtain ⟨p27, cs28, hat29, hrc30, hhas31⟩ := h0.at hg26.1 hg26.2 (by decide)
 obtain rfl := hrc30
 refine Tp (.pointer (some p27)) rfl (PO.indexAddr (n := a0.length) Tryd.underlying24 sz3 rfl rfl hg26.1 hg26.2 hat29) rfl ?_
 refine Tp (.int .i64 (rd a0 x24)) rfl (PO.loadM pl3 rfl (IM.has0 hhas31)) rfl ?_
 refine Tp v1 rfl (PO.move hs23_1) rfl ?_
 refine Tp (.int .i64 x24) rfl (PO.move hs23_5) rfl ?_
 obtain ⟨hg33, h⟩ := grd_i h
 obtain ⟨p34, cs35, hat36, hrc37, hhas38⟩ := h1.at hg33.1 hg33.2 (by decide)
 obtain rfl := hrc37
 refine Tp (.pointer (some p34)) rfl (PO.indexAddr (n := a1.length) Tryd.underlying24 sz3 rfl rfl hg33.1 hg33.2 hat36) rfl ?_
 refine Tp (.int .i64 (rd a1 x24)) rfl (PO.loadM pl3 rfl (IM.has0 hhas38)) rfl ?_
 refine Tp (.bool (decide ((rd a0 x24) ≠ (rd a1 x24)))) rfl (PO.neq rfl rfl) rfl ?_
 refine WT.fin ?_
 refine WQ.thenC ?_
 refine WC.cond (b := decide ((rd a0 x24) ≠ (rd a1 x24))) rfl (fun hb40 => ?_) (fun hb40 => ?_)
 have h := ite_t hb40 h
 refine Sr ?_
 refine Pa (.bool false) rfl rfl ?_
 refine Nt ?_
 refine WC.ret ?_
 refine WQ.blockR ?_
 refine WQ.thenR ?_
 refine WQ.leaveR (Sum.inr ()) (Option.some.inj h).symm (fun heq23 => ?_)
 subst heq23
 have h := (elimR hK23)
 refine WQ.blockR ?_
 refine WQ.thenR ?_
 have h := KK.early h h322
 exact WQ.returnsF h [] rfl (results1 rfl rfl) hle23 ⟨rfl, rfl⟩
 have h := ite_f hb40 h
 refine WC.skip ?_
 refine WQ.blockN ?_
 refine WQ.thenC ?_
 refine WC.region ?_
 refine Pm (.int .i64 x24) hs23_5 rfl ?_
 refine Pu (.int .i64 (IntKind.i64.wrap (x24 + (1 : Int)))) (PO.add rfl rfl) rfl ?_
 refine Pa (.int .i64 (IntKind.i64.wrap (x24 + (1 : Int)))) rfl rfl ?_
 refine WL.nil ?_
 refine WQ.again (IntKind.i64.wrap (x24 + (1 : Int))) (Option.some.inj h).symm ?_
 exact ⟨hle23, rfl, hs23_0, hs23_1, rfl⟩
 have h := ite_f hb25 h
 refine WC.exit ?_
 refine WQ.thenE ?_
 refine WQ.leaveE (Sum.inl ()) (Option.some.inj h).symm (fun heq23 => ?_)
 subst heq23
 have h := elimL hK23
 refine WQ.blockH ?_
 refine WQ.thenFE h ?_
 exact ⟨hle23, rfl⟩
 rintro _ ρ22 M22 H22 rfl ⟨hle22, rfl⟩
 refine Sr ?_
 refine Pa (.bool true) rfl rfl ?_
 refine Nt ?_
 refine WC.ret ?_
 exact WQ.returnsF h [] rfl (results1 rfl rfl) hle22 ⟨rfl, rfl⟩

noncomputable def f_law02_WireBack_l0 (a4 : (List Int)) (s_ : Int) : Option (Int ⊕ (Unit ⊕ Bool)) :=
  match s_ with
  | x35 =>
    (if (decide (x35 < (a4.length : Int))) = true then (((grd (0 ≤ x35 ∧ x35 < a4.length) (if (decide ((rd a4 x35) < (0 : Int))) = true then (some true) else (grd (0 ≤ x35 ∧ x35 < a4.length) (some (decide ((2305843009213693952 : Int) < (rd a4 x35))))))) : Option Bool).bind fun (x38 : Bool) => (if x38 = true then ((f_law02_works).bind fun (r56 : Bool) => (some (Sum.inr (Sum.inr r56)))) else (some (Sum.inl (IntKind.i64.wrap (x35 + (1 : Int))))))) else (some (Sum.inr (Sum.inl ()))))
noncomputable def f_law02_WireBack (a0 : Int) (a1 : Int) (a2 : Bool) (a3 : (List Int)) (a4 : (List Int)) : Option Bool :=
  (((if (decide ((4611686018427387903 : Int) < a0)) = true then (some true) else (if (decide (a1 < (0 : Int))) = true then (some true) else (if (decide ((2305843009213693952 : Int) < a1)) = true then (some true) else (if (decide ((2000 : Int) < (a3.length : Int))) = true then (some true) else (some (decide ((500 : Int) < (a4.length : Int)))))))) : Option Bool).bind fun (x21 : Bool) => (if x21 = true then ((f_law02_works).bind fun (r28 : Bool) => (some r28)) else ((((iter (f_law02_WireBack_l0 a4) (0 : Int)).bind (Sum.elim (fun _ => (some (Sum.inl ()))) (fun (x36 : Bool) => (((some x36)).bind fun r => some (Sum.inr r))))) : Option (Unit ⊕ Bool)).bind (Sum.elim (fun _ => ((f_wire_Num [] a0).bind fun (r62 : (List Int)) => ((f_wire_Int r62 a1).bind fun (r67 : (List Int)) => ((f_wire_Flag r67 a2).bind fun (r72 : (List Int)) => ((f_wire_Text r72 a3).bind fun (r77 : (List Int)) => ((f_wire_Row r77 a4).bind fun (r82 : (List Int)) => ((f_wire_Read r82).bind fun (r89 : T_wire_Reader) => ((((f_wire_Reader_Num r89 (4611686018427387904 : Int)).bind fun (r99, r100, r101) => (if (decide (r99 = a0)) = true then ((f_wire_Reader_Int (⟨r89.b, r100, r101⟩ : T_wire_Reader) (2305843009213693952 : Int)).bind fun (r107, r108, r109) => (if (decide (r107 = a1)) = true then ((f_wire_Reader_Flag (⟨r89.b, r108, r109⟩ : T_wire_Reader)).bind fun (r115, r116, r117) => (if (r115 == a2) = true then ((f_wire_Reader_Text (⟨r89.b, r116, r117⟩ : T_wire_Reader) (2000 : Int)).bind fun (r123, r124, r125) => ((f_ref02_Same r123 a3).bind fun (r130 : Bool) => (if r130 = true then ((f_wire_Reader_Row (⟨r89.b, r124, r125⟩ : T_wire_Reader) (500 : Int) (2305843009213693952 : Int)).bind fun (r139, r140, r141) => ((f_ref02_Ints r139 a4).bind fun (r146 : Bool) => (if r146 = true then ((f_wire_Reader_End (⟨r89.b, r140, r141⟩ : T_wire_Reader)).bind fun (r155, r156) => (if r155.isNil = true then ((f_law02_works).bind fun (r162 : Bool) => (some (r162, r140, r156))) else (some (false, r140, r156)))) else (some (false, r140, r141))))) else (some (false, r124, r125))))) else (some (false, r116, r117)))) else (some (false, r108, r109)))) else (some (false, r100, r101)))) : Option (Bool × Int × GErr)).bind fun (x95, x96, x97) => (some x95))))))))) some))))
def f_law02_WireBack_post (a0 : Int) (a1 : Int) (a2 : Bool) (a3 : (List Int)) (a4 : (List Int)) (v3 v4 : Value) : Bool → Value → IM → HL → Prop :=
  fun (r0 : Bool) (v : Value) (M' : IM) (H' : HL) => (.bool r0) = v ∧ H' = []
set_option maxHeartbeats 8000000 in
set_option maxRecDepth 100000 in
theorem f_law02_WireBack_ok (a0 : Int) (a1 : Int) (a2 : Bool) (a3 : (List Int)) (a4 : (List Int)) (M : IM) (v3 v4 : Value) (h3 : RS (Kd.int .u8) M v3 a3) (h4 : RS (Kd.int .i64) M v4 a4) (hE : Env M) (res : Bool) (h : f_law02_WireBack a0 a1 a2 a3 a4 = some res) :
    Tri Tryd.prog 4 #[(.int .u64 a0), (.int .i64 a1), (.bool a2), v3, v4] M [] (f_law02_WireBack_post a0 a1 a2 a3 a4 v3 v4 res) := by
 unfold f_law02_WireBack at h
 refine Tri.enter (fn := Tryd.f4) Tryd.func4 rfl (Nat.le_of_ble_eq_true rfl) ?_
 intro F ρ hρ
 refine Sr ?_
 refine Pa (.bool false) rfl rfl ?_
 refine Nt ?_
 refine WC.seq ?_
 obtain ⟨x21, hj22, h⟩ := bnd h
 refine WC.joinF (fun (x21 : Bool) ρ' M' H' => M.le M' ∧ F = H' ∧ ρ' 0 = (.int .u64 a0) ∧ ρ' 1 = (.int .i64 a1) ∧ ρ' 2 = (.bool a2) ∧ ρ' 3 = v3 ∧ ρ' 4 = v4 ∧ ρ' 32 = (.bool x21)) x21 ?_ ?_
 have h322 := h
 have h := hj22
 refine WC.region ?_
 refine Pm (.int .u64 a0) (hρ 0) rfl ?_
 refine Pu (.bool (decide ((4611686018427387903 : Int) < a0))) (PO.gtr rfl rfl) rfl ?_
 refine Pm (.bool (decide ((4611686018427387903 : Int) < a0))) rfl rfl ?_
 rcases Bool.eq_false_or_eq_true (decide ((4611686018427387903 : Int) < a0)) with hb23 | hb23
 have h := ite_t hb23 h
 iterate 2 refine Of 15 rfl rfl hb23 rfl ?_
 refine Pu (.bool true) (PO.pickT rfl hb23 rfl) rfl ?_
 refine Pm (.bool true) rfl rfl ?_
 iterate 2 refine Of 19 rfl rfl rfl rfl ?_
 refine Pu (.bool true) (PO.pickT rfl rfl rfl) rfl ?_
 refine Pm (.bool true) rfl rfl ?_
 iterate 3 refine Of 23 rfl rfl rfl rfl ?_
 refine Pu (.bool true) (PO.pickT rfl rfl rfl) rfl ?_
 refine Pm (.bool true) rfl rfl ?_
 iterate 3 refine Of 28 rfl rfl rfl rfl ?_
 refine Pu (.bool true) (PO.pickT rfl rfl rfl) rfl ?_
 refine WL.nil ?_
 obtain rfl := Option.some.inj h
 refine WQ.thenJ ?_
 exact ⟨(IM.le.refl _), rfl, (hρ 0), (hρ 1), (hρ 2), (hρ 3), (hρ 4), rfl⟩
 have h := ite_f hb23 h
 refine On 15 rfl rfl hb23 ?_
 refine Pm (.int .i64 a1) (hρ 1) rfl ?_
 refine On 15 rfl rfl hb23 ?_
 refine Pu (.bool (decide (a1 < (0 : Int)))) (PO.lss rfl rfl) rfl ?_
 refine Pu (.bool (decide (a1 < (0 : Int)))) (PO.pickF rfl hb23 rfl) rfl ?_
 refine Pm (.bool (decide (a1 < (0 : Int)))) rfl rfl ?_
 rcases Bool.eq_false_or_eq_true (decide (a1 < (0 : Int))) with hb24 | hb24
 have h := ite_t hb24 h
 iterate 2 refine Of 19 rfl rfl hb24 rfl ?_
 refine Pu (.bool true) (PO.pickT rfl hb24 rfl) rfl ?_
 refine Pm (.bool true) rfl rfl ?_
 iterate 3 refine Of 23 rfl rfl rfl rfl ?_
 refine Pu (.bool true) (PO.pickT rfl rfl rfl) rfl ?_
 refine Pm (.bool true) rfl rfl ?_
 iterate 3 refine Of 28 rfl rfl rfl rfl ?_
 refine Pu (.bool true) (PO.pickT rfl rfl rfl) rfl ?_
 refine WL.nil ?_
 obtain rfl := Option.some.inj h
 refine WQ.thenJ ?_
 exact ⟨(IM.le.refl _), rfl, (hρ 0), (hρ 1), (hρ 2), (hρ 3), (hρ 4), rfl⟩
 have h := ite_f hb24 h
 refine On 19 rfl rfl hb24 ?_
 refine Pm (.int .i64 a1) (hρ 1) rfl ?_
 refine On 19 rfl rfl hb24 ?_
 refine Pu (.bool (decide ((2305843009213693952 : Int) < a1))) (PO.gtr rfl rfl) rfl ?_
 refine Pu (.bool (decide ((2305843009213693952 : Int) < a1))) (PO.pickF rfl hb24 rfl) rfl ?_
 refine Pm (.bool (decide ((2305843009213693952 : Int) < a1))) rfl rfl ?_
 rcases Bool.eq_false_or_eq_true (decide ((2305843009213693952 : Int) < a1)) with hb25 | hb25
 have h := ite_t hb25 h
 iterate 3 refine Of 23 rfl rfl hb25 rfl ?_
 refine Pu (.bool true) (PO.pickT rfl hb25 rfl) rfl ?_
 refine Pm (.bool true) rfl rfl ?_
 iterate 3 refine Of 28 rfl rfl rfl rfl ?_
 refine Pu (.bool true) (PO.pickT rfl rfl rfl) rfl ?_
 refine WL.nil ?_
 obtain rfl := Option.some.inj h
 refine WQ.thenJ ?_
 exact ⟨(IM.le.refl _), rfl, (hρ 0), (hρ 1), (hρ 2), (hρ 3), (hρ 4), rfl⟩
 have h := ite_f hb25 h
 refine On 23 rfl rfl hb25 ?_
 refine Pm v3 (hρ 3) rfl ?_
 refine On 23 rfl rfl hb25 ?_
 refine Pu (.int .i64 (a3.length : Int)) (PO.lenS Tryd.underlying22 rfl h3.len) rfl ?_
 refine On 23 rfl rfl hb25 ?_
 refine Pu (.bool (decide ((2000 : Int) < (a3.length : Int)))) (PO.gtr rfl rfl) rfl ?_
 refine Pu (.bool (decide ((2000 : Int) < (a3.length : Int)))) (PO.pickF rfl hb25 rfl) rfl ?_
 refine Pm (.bool (decide ((2000 : Int) < (a3.length : Int)))) rfl rfl ?_
 rcases Bool.eq_false_or_eq_true (decide ((2000 : Int) < (a3.length : Int))) with hb26 | hb26
 have h := ite_t hb26 h
 iterate 3 refine Of 28 rfl rfl hb26 rfl ?_
 refine Pu (.bool true) (PO.pickT rfl hb26 rfl) rfl ?_
 refine WL.nil ?_
 obtain rfl := Option.some.inj h
 refine WQ.thenJ ?_
 exact ⟨(IM.le.refl _), rfl, (hρ 0), (hρ 1), (hρ 2), (hρ 3), (hρ 4), rfl⟩
 have h := ite_f hb26 h
 refine On 28 rfl rfl hb26 ?_
 refine Pm v4 (hρ 4) rfl ?_
 refine On 28 rfl rfl hb26 ?_
 refine Pu (.int .i64 (a4.length : Int)) (PO.lenS Tryd.underlying24 rfl h4.len) rfl ?_
 refine On 28 rfl rfl hb26 ?_
 refine Pu (.bool (decide ((500 : Int) < (a4.length : Int)))) (PO.gtr rfl rfl) rfl ?_
 refine Pu (.bool (decide ((500 : Int) < (a4.length : Int)))) (PO.pickF rfl hb26 rfl) rfl ?_
 refine WL.nil ?_
 obtain rfl := Option.some.inj h
 refine WQ.thenJ ?_
 exact ⟨(IM.le.refl _), rfl, (hρ 0), (hρ 1), (hρ 2), (hρ 3), (hρ 4), rfl⟩
 rintro ρ22 M22 H22 ⟨hle22, rfl, hs22_0, hs22_1, hs22_2, hs22_3, hs22_4, hs22_32⟩
 have h3 := h3.mono hle22
 have h4 := h4.mono hle22
 have hE := hE.mono hle22
 refine WC.cond (b := x21) hs22_32 (fun hb27 => ?_) (fun hb27 => ?_)
 have h := ite_t hb27 h
 refine Sr ?_
 obtain ⟨r28, hr29, h⟩ := bnd h
 refine WL.eff (EO.call0 co8 (f_law02_works_ok _ hE r28 hr29) (args0)) rfl ?_
 rintro _ M30 _ hle31 ⟨_, ⟨rfl, rfl⟩, rfl⟩
 have h3 := h3.mono hle31
 have h4 := h4.mono hle31
 have hE := hE.mono hle31
 refine WL.a0 ?_
 refine Pa (.bool r28) rfl rfl ?_
 refine Nt ?_
 refine WC.ret ?_
 refine WQ.thenR ?_
 exact WQ.returnsF h [] rfl (results1 rfl rfl) (hle22.trans hle31) ⟨rfl, rfl⟩
 have h := ite_f hb27 h
 refine WC.skip ?_
 refine WQ.thenC ?_
 obtain ⟨j33, hj33, h⟩ := bnd h
 refine WC.joinE (fun (_ : Unit) ρ' M' H' => M22.le M' ∧ F = H' ∧ ρ' 0 = (.int .u64 a0) ∧ ρ' 1 = (.int .i64 a1) ∧ ρ' 2 = (.bool a2) ∧ ρ' 3 = v3 ∧ ρ' 4 = v4) j33 ?_ ?_
 have h333 := h
 have h := hj33
 refine Sr ?_
 refine Pa (.int .i64 (0 : Int)) rfl rfl ?_
 refine Nt ?_
 refine WC.block ?_
 obtain ⟨e34, he34, hK34⟩ := bnd h
 clear h
 refine WC.loop he34 (fun (x35 : Int) ρ' M' H' => M22.le M' ∧ F = H' ∧ ρ' 0 = (.int .u64 a0) ∧ ρ' 1 = (.int .i64 a1) ∧ ρ' 2 = (.bool a2) ∧ ρ' 3 = v3 ∧ ρ' 4 = v4 ∧ ρ' 11 = (.int .i64 x35)) ?_ ?_
 exact ⟨(IM.le.refl _), rfl, hs22_0, hs22_1, hs22_2, hs22_3, hs22_4, rfl⟩
 rintro x35 o34 ρ34 M34 H34 h ⟨hle34, rfl, hs34_0, hs34_1, hs34_2, hs34_3, hs34_4, hs34_11⟩
 unfold f_law02_WireBack_l0 at h
 have h3 := h3.mono hle34
 have h4 := h4.mono hle34
 have hE := hE.mono hle34
 refine WC.seq ?_
 refine Sr ?_
 refine Pm (.int .i64 x35) hs34_11 rfl ?_
 refine Pm v4 hs34_4 rfl ?_
 refine Pu (.int .i64 (a4.length : Int)) (PO.lenS Tryd.underlying24 rfl h4.len) rfl ?_
 refine Pu (.bool (decide (x35 < (a4.length : Int)))) (PO.lss rfl rfl) rfl ?_
 refine Nt ?_
 refine WC.cond (b := decide (x35 < (a4.length : Int))) rfl (fun hb37 => ?_) (fun hb37 => ?_)
 have h := ite_t hb37 h
 refine WC.skip ?_
 refine WQ.thenC ?_
 refine WC.seq ?_
 refine WC.block ?_
 obtain ⟨x38, hj39, h⟩ := bnd h
 refine WC.joinF (fun (x38 : Bool) ρ' M' H' => M34.le M' ∧ F = H' ∧ ρ' 0 = (.int .u64 a0) ∧ ρ' 1 = (.int .i64 a1) ∧ ρ' 2 = (.bool a2) ∧ ρ' 3 = v3 ∧ ρ' 4 = v4 ∧ ρ' 11 = (.int .i64 x35) ∧ ρ' 51 = (.bool x38)) x38 ?_ ?_
 have h339 := h
 have h := hj39
 refine WC.region ?_
 refine Pm v4 hs34_4 rfl ?_
 refine Pm (.int .i64 x35) hs34_11 rfl ?_
 obtain ⟨hg40, h⟩ := grd_i h
 obtain ⟨p41, cs42, hat43, hrc44, hhas45⟩ := h4.at hg40.1 hg40.2 (by decide)
 obtain rfl := hrc44
 refine Pu (.pointer (some p41)) (PO.indexAddr (n := a4.length) Tryd.underlying24 sz3 rfl rfl hg40.1 hg40.2 hat43) rfl ?_
 refine Pu (.int .i64 (rd a4 x35)) (PO.loadM pl3 rfl (IM.has0 hhas45)) rfl ?_
 refine Pu (.bool (decide ((rd a4 x35) < (0 : Int)))) (PO.lss rfl rfl) rfl ?_
 refine Pm (.bool (decide ((rd a4 x35) < (0 : Int)))) rfl rfl ?_
 rcases Bool.eq_false_or_eq_true (decide ((rd a4 x35) < (0 : Int))) with hb47 | hb47
 have h := ite_t hb47 h
 iterate 5 refine Of 45 rfl rfl hb47 rfl ?_
 refine Pu (.bool true) (PO.pickT rfl hb47 rfl) rfl ?_
 refine WL.nil ?_
 obtain rfl := Option.some.inj h
 refine WQ.thenJ ?_
 exact ⟨(IM.le.refl _), rfl, hs34_0, hs34_1, hs34_2, hs34_3, hs34_4, hs34_11, rfl⟩
 have h := ite_f hb47 h
 refine On 45 rfl rfl hb47 ?_
 refine Pm v4 hs34_4 rfl ?_
 refine On 45 rfl rfl hb47 ?_
 refine Pm (.int .i64 x35) hs34_11 rfl ?_
 refine On 45 rfl rfl hb47 ?_
 obtain ⟨hg48, h⟩ := grd_i h
 obtain ⟨p49, cs50, hat51, hrc52, hhas53⟩ := h4.at hg48.1 hg48.2 (by decide)
 obtain rfl := hrc52
 refine Pu (.pointer (some p49)) (PO.indexAddr (n := a4.length) Tryd.underlying24 sz3 rfl rfl hg48.1 hg48.2 hat51) rfl ?_
 refine On 45 rfl rfl hb47 ?_
 refine Pu (.int .i64 (rd a4 x35)) (PO.loadM pl3 rfl (IM.has0 hhas53)) rfl ?_
 refine On 45 rfl rfl hb47 ?_
 refine Pu (.bool (decide ((2305843009213693952 : Int) < (rd a4 x35)))) (PO.gtr rfl rfl) rfl ?_
 refine Pu (.bool (decide ((2305843009213693952 : Int) < (rd a4 x35)))) (PO.pickF rfl hb47 rfl) rfl ?_
 refine WL.nil ?_
 obtain rfl := Option.some.inj h
 refine WQ.thenJ ?_
 exact ⟨(IM.le.refl _), rfl, hs34_0, hs34_1, hs34_2, hs34_3, hs34_4, hs34_11, rfl⟩
 rintro ρ39 M39 H39 ⟨hle39, rfl, hs39_0, hs39_1, hs39_2, hs39_3, hs39_4, hs39_11, hs39_51⟩
 have h3 := h3.mono hle39
 have h4 := h4.mono hle39
 have hE := hE.mono hle39
 refine WC.cond (b := x38) hs39_51 (fun hb55 => ?_) (fun hb55 => ?_)
 have h := ite_t hb55 h
 refine Sr ?_
 obtain ⟨r56, hr57, h⟩ := bnd h
 refine WL.eff (EO.call0 co8 (f_law02_works_ok _ hE r56 hr57) (args0)) rfl ?_
 rintro _ M58 _ hle59 ⟨_, ⟨rfl, rfl⟩, rfl⟩
 have h3 := h3.mono hle59
 have h4 := h4.mono hle59
 have hE := hE.mono hle59
 refine WL.a0 ?_
 refine Pa (.bool r56) rfl rfl ?_
 refine Nt ?_
 refine WC.ret ?_
 refine WQ.blockR ?_
 refine WQ.thenR ?_
 refine WQ.leaveR (Sum.inr r56) (Option.some.inj h).symm (fun heq34 => ?_)
 subst heq34
 have h := (elimR hK34)
 refine WQ.blockR ?_
 refine WQ.thenR ?_
 have h := KK.early h h333
 exact WQ.returnsF h [] rfl (results1 rfl rfl) (((hle22.trans hle34).trans hle39).trans hle59) ⟨rfl, rfl⟩
 have h := ite_f hb55 h
 refine WC.skip ?_
 refine WQ.blockN ?_
 refine WQ.thenC ?_
 refine WC.region ?_
 refine Pm (.int .i64 x35) hs39_11 rfl ?_
 refine Pu (.int .i64 (IntKind.i64.wrap (x35 + (1 : Int)))) (PO.add rfl rfl) rfl ?_
 refine Pa (.int .i64 (IntKind.i64.wrap (x35 + (1 : Int)))) rfl rfl ?_
 refine WL.nil ?_
 refine WQ.again (IntKind.i64.wrap (x35 + (1 : Int))) (Option.some.inj h).symm ?_
 exact ⟨(hle34.trans hle39), rfl, hs39_0, hs39_1, hs39_2, hs39_3, hs39_4, rfl⟩
 have h := ite_f hb37 h
 refine WC.exit ?_
 refine WQ.thenE ?_
 refine WQ.leaveE (Sum.inl ()) (Option.some.inj h).symm (fun heq34 => ?_)
 subst heq34
 have h := elimL hK34
 refine WQ.blockH ?_
 refine WQ.thenFE h ?_
 exact ⟨hle34, rfl, hs34_0, hs34_1, hs34_2, hs34_3, hs34_4⟩
 rintro _ ρ33 M33 H33 rfl ⟨hle33, rfl, hs33_0, hs33_1, hs33_2, hs33_3, hs33_4⟩
 have h3 := h3.mono hle33
 have h4 := h4.mono hle33
 have hE := hE.mono hle33
 refine Sr ?_
 refine Pm (.int .u64 a0) hs33_0 rfl ?_
 obtain ⟨r62, hr63, h⟩ := bnd h
 refine WL.e0 ?_
 refine WL.eff (EO.call1 co13 (f_wire_Num_ok [] a0 _ _ _ (OwnS.nil _ _) r62 hr63) (args2 rfl rfl)) rfl ?_
 rintro _ M64 _ hle65 ⟨_, ⟨vq66, cq66, rfl, rfl, hq66⟩, rfl⟩
 have h3 := h3.mono hle65
 have h4 := h4.mono hle65
 have hE := hE.mono hle65
 refine WL.a1 ?_
 refine Pm (.int .i64 a1) hs33_1 rfl ?_
 obtain ⟨r67, hr68, h⟩ := bnd h
 refine WL.eff (EO.call1 co12 (f_wire_Int_ok r62 a1 _ _ _ hq66 r67 hr68) (args2 rfl rfl)) rfl ?_
 rintro _ M69 _ hle70 ⟨_, ⟨vq71, cq71, rfl, rfl, hq71⟩, rfl⟩
 have h3 := h3.mono hle70
 have h4 := h4.mono hle70
 have hq66 := hq66.mono hle70
 have hE := hE.mono hle70
 refine WL.a1 ?_
 refine Pm (.bool a2) hs33_2 rfl ?_
 obtain ⟨r72, hr73, h⟩ := bnd h
 refine WL.eff (EO.call1 co11 (f_wire_Flag_ok r67 a2 _ _ _ hq71 r72 hr73) (args2 rfl rfl)) rfl ?_
 rintro _ M74 _ hle75 ⟨_, ⟨vq76, cq76, rfl, rfl, hq76⟩, rfl⟩
 have h3 := h3.mono hle75
 have h4 := h4.mono hle75
 have hq66 := hq66.mono hle75
 have hq71 := hq71.mono hle75
 have hE := hE.mono hle75
 refine WL.a1 ?_
 refine Pm v3 hs33_3 rfl ?_
 obtain ⟨r77, hr78, h⟩ := bnd h
 refine WL.eff (EO.call1 co10 (f_wire_Text_ok r72 a3 _ _ _ _ hq76 h3 r77 hr78) (args2 rfl rfl)) rfl ?_
 rintro _ M79 _ hle80 ⟨_, ⟨vq81, cq81, rfl, rfl, hq81⟩, rfl⟩
 have h3 := h3.mono hle80
 have h4 := h4.mono hle80
 have hq66 := hq66.mono hle80
 have hq71 := hq71.mono hle80
 have hq76 := hq76.mono hle80
 have hE := hE.mono hle80
 refine WL.a1 ?_
 refine Pm v4 hs33_4 rfl ?_
 obtain ⟨r82, hr83, h⟩ := bnd h
 refine WL.eff (EO.call1 co9 (f_wire_Row_ok r77 a4 _ _ _ _ hq81 h4 r82 hr83) (args2 rfl rfl)) rfl ?_
 rintro _ M84 _ hle85 ⟨_, ⟨vq86, cq86, rfl, rfl, hq86⟩, rfl⟩
 have h3 := h3.mono hle85
 have h4 := h4.mono hle85
 have hq66 := hq66.mono hle85
 have hq71 := hq71.mono hle85
 have hq76 := hq76.mono hle85
 have hq81 := hq81.mono hle85
 have hE := hE.mono hle85
 refine WL.a1 ?_
 refine WL.know (fun _ hs => hq86.rs hs) (fun hf88 => ?_)
 refine WL.freeze (fun hle87 => ?_)
 have h3 := h3.mono hle87
 have h4 := h4.mono hle87
 have hq66 := hq66.mono hle87
 have hq71 := hq71.mono hle87
 have hq76 := hq76.mono hle87
 have hq81 := hq81.mono hle87
 have hE := hE.mono hle87
 obtain ⟨r89, hr90, h⟩ := bnd h
 refine WL.eff (EO.call0 co20 (f_wire_Read_ok r82 _ _ hf88 r89 hr90) (args1 rfl)) rfl ?_
 rintro _ M91 _ hle92 ⟨_, ⟨g93, vq94_0, rfl, rfl, hq94_0⟩, rfl⟩
 have h3 := h3.mono hle92
 have h4 := h4.mono hle92
 have hq66 := hq66.mono hle92
 have hq71 := hq71.mono hle92
 have hq76 := hq76.mono hle92
 have hq81 := hq81.mono hle92
 have hf88 := hf88.mono hle92
 have hE := hE.mono hle92
 refine WL.a1 ?_
 refine Pa (.pointer (some ⟨g93, 0, none⟩)) rfl rfl ?_
 refine Nt ?_
 refine WC.seq ?_
 refine Sr ?_
 refine Pm (.pointer (some ⟨g93, 0, none⟩)) rfl rfl ?_
 refine Pu (.bool false) (PO.ptrNil Tryd.underlying38 rfl) rfl ?_
 refine Nt ?_
 refine WC.condF (b := false) rfl rfl ?_
 refine WC.skip ?_
 refine WQ.thenC ?_
 obtain ⟨j98, hj98, h⟩ := bnd h
 refine WC.joinF (fun (p_ : (Bool × Int × GErr)) ρ' M' H' => match p_ with | (x95, x96, x97) => M91.le M' ∧ [(g93, .cells #[vq94_0, (.int .i64 x96), (GV x97)] 73 (0, 0))] :: F = H' ∧ ρ' 10 = (.bool x95)) j98 ?_ ?_
 have h398 := h
 have h := hj98
 refine WC.region ?_
 refine Pm (.pointer (some ⟨g93, 0, none⟩)) rfl rfl ?_
 obtain ⟨⟨r99, r100, r101⟩, hr102, h⟩ := bnd h
 refine WL.eff (EO.call1 co21 (f_wire_Reader_Num_ok r89 (4611686018427387904 : Int) _ _ _ hq94_0 (r99, r100, r101) hr102) (args2 rfl rfl)) rfl ?_
 rintro _ M103 _ hle104 ⟨_, ⟨rfl, rfl⟩, rfl⟩
 have h3 := h3.mono hle104
 have h4 := h4.mono hle104
 have hq94_0 := hq94_0.mono hle104
 have hE := hE.mono hle104
 refine WL.a1 ?_
 refine Pm (.int .u64 a0) hs33_0 rfl ?_
 refine Pu (.bool (decide (r99 = a0))) (PO.eql rfl rfl) rfl ?_
 refine Pm (.bool (decide (r99 = a0))) rfl rfl ?_
 rcases Bool.eq_false_or_eq_true (decide (r99 = a0)) with hb106 | hb106
 have h := ite_t hb106 h
 refine On 70 rfl rfl hb106 ?_
 refine Pm (.pointer (some ⟨g93, 0, none⟩)) rfl rfl ?_
 refine On 70 rfl rfl hb106 ?_
 obtain ⟨⟨r107, r108, r109⟩, hr110, h⟩ := bnd h
 refine WL.eff (EO.call1 co22 (f_wire_Reader_Int_ok (⟨r89.b, r100, r101⟩ : T_wire_Reader) (2305843009213693952 : Int) _ _ _ hq94_0 (r107, r108, r109) hr110) (args2 rfl rfl)) rfl ?_
 rintro _ M111 _ hle112 ⟨_, ⟨rfl, rfl⟩, rfl⟩
 have h3 := h3.mono hle112
 have h4 := h4.mono hle112
 have hq94_0 := hq94_0.mono hle112
 have hE := hE.mono hle112
 refine WL.a1 ?_
 refine On 70 rfl rfl hb106 ?_
 refine Pm (.int .i64 a1) hs33_1 rfl ?_
 refine On 70 rfl rfl hb106 ?_
 refine Pu (.bool (decide (r107 = a1))) (PO.eql rfl rfl) rfl ?_
 refine Pu (.bool (decide (r107 = a1))) (PO.pickT rfl hb106 rfl) rfl ?_
 refine Pm (.bool (decide (r107 = a1))) rfl rfl ?_
 rcases Bool.eq_false_or_eq_true (decide (r107 = a1)) with hb114 | hb114
 have h := ite_t hb114 h
 refine On 76 rfl rfl hb114 ?_
 refine Pm (.pointer (some ⟨g93, 0, none⟩)) rfl rfl ?_
 refine On 76 rfl rfl hb114 ?_
 obtain ⟨⟨r115, r116, r117⟩, hr118, h⟩ := bnd h
 refine WL.eff (EO.call1 co23 (f_wire_Reader_Flag_ok (⟨r89.b, r108, r109⟩ : T_wire_Reader) _ _ _ hq94_0 (r115, r116, r117) hr118) (args1 rfl)) rfl ?_
 rintro _ M119 _ hle120 ⟨_, ⟨rfl, rfl⟩, rfl⟩
 have h3 := h3.mono hle120
 have h4 := h4.mono hle120
 have hq94_0 := hq94_0.mono hle120
 have hE := hE.mono hle120
 refine WL.a1 ?_
 refine On 76 rfl rfl hb114 ?_
 refine Pm (.bool a2) hs33_2 rfl ?_
 refine On 76 rfl rfl hb114 ?_
 refine Pu (.bool (r115 == a2)) (PO.beql Tryd.underlying4 rfl rfl) rfl ?_
 refine Pu (.bool (r115 == a2)) (PO.pickT rfl hb114 rfl) rfl ?_
 refine Pm (.bool (r115 == a2)) rfl rfl ?_
 rcases Bool.eq_false_or_eq_true (r115 == a2) with hb122 | hb122
 have h := ite_t hb122 h
 refine On 82 rfl rfl hb122 ?_
 refine Pm (.pointer (some ⟨g93, 0, none⟩)) rfl rfl ?_
 refine On 82 rfl rfl hb122 ?_
 obtain ⟨⟨r123, r124, r125⟩, hr126, h⟩ := bnd h
 refine WL.eff (EO.call1 co24 (f_wire_Reader_Text_ok (⟨r89.b, r116, r117⟩ : T_wire_Reader) (2000 : Int) _ _ _ hq94_0 (r123, r124, r125) hr126) (args2 rfl rfl)) rfl ?_
 rintro _ M127 _ hle128 ⟨_, ⟨vq129, cq129, rfl, rfl, hq129⟩, rfl⟩
 have h3 := h3.mono hle128
 have h4 := h4.mono hle128
 have hq94_0 := hq94_0.mono hle128
 have hE := hE.mono hle128
 refine WL.a2 ?_
 refine On 82 rfl rfl hb122 ?_
 refine Pm v3 hs33_3 rfl ?_
 refine On 82 rfl rfl hb122 ?_
 obtain ⟨r130, hr131, h⟩ := bnd h
 refine WL.f1 ?_
 refine WL.eff (EO.call1 co18 (Tri.lend fun w0_ H0_ hs0_ => (f_ref02_Same_ok r123 a3 _ _ _ (hq129.rs hs0_) (h3.mono (IM.le_add _ _)) r130 hr131)) (args2 rfl rfl)) rfl ?_
 rintro _ _ _ hle133 ⟨_, ⟨Ml135, Hl136, hll137, rfl, rfl, ⟨rfl, rfl⟩⟩, rfl⟩
 have h3 := h3.mono hle133
 have h4 := h4.mono hle133
 have hq129 := hq129.mono hle133
 have hq94_0 := hq94_0.mono hle133
 have hE := hE.mono hle133
 refine WL.a1 ?_
 refine Pu (.bool r130) (PO.pickT rfl hb122 rfl) rfl ?_
 refine Pm (.bool r130) rfl rfl ?_
 rcases Bool.eq_false_or_eq_true (r130) with hb138 | hb138
 have h := ite_t hb138 h
 refine On 88 rfl rfl hb138 ?_
 refine Pm (.pointer (some ⟨g93, 0, none⟩)) rfl rfl ?_
 refine On 88 rfl rfl hb138 ?_
 obtain ⟨⟨r139, r140, r141⟩, hr142, h⟩ := bnd h
 refine WL.f1 ?_
 refine WL.eff (EO.call1 co26 (f_wire_Reader_Row_ok (⟨r89.b, r124, r125⟩ : T_wire_Reader) (500 : Int) (2305843009213693952 : Int) _ _ _ hq94_0 (r139, r140, r141) hr142) (args3 rfl rfl rfl)) rfl ?_
 rintro _ M143 _ hle144 ⟨_, ⟨vq145, cq145, rfl, rfl, hq145⟩, rfl⟩
 have h3 := h3.mono hle144
 have h4 := h4.mono hle144
 have hq129 := hq129.mono hle144
 have hq94_0 := hq94_0.mono hle144
 have hE := hE.mono hle144
 refine WL.a2 ?_
 refine On 88 rfl rfl hb138 ?_
 refine Pm v4 hs33_4 rfl ?_
 refine On 88 rfl rfl hb138 ?_
 obtain ⟨r146, hr147, h⟩ := bnd h
 refine WL.f1 ?_
 refine WL.eff (EO.call1 co25 (Tri.lend fun w0_ H0_ hs0_ => (f_ref02_Ints_ok r139 a4 _ _ _ (hq145.rs hs0_) (h4.mono (IM.le_add _ _)) r146 hr147)) (args2 rfl rfl)) rfl ?_
 rintro _ _ _ hle149 ⟨_, ⟨Ml151, Hl152, hll153, rfl, rfl, ⟨rfl, rfl⟩⟩, rfl⟩
 have h3 := h3.mono hle149
 have h4 := h4.mono hle149
 have hq129 := hq129.mono hle149
 have hq145 := hq145.mono hle149
 have hq94_0 := hq94_0.mono hle149
 have hE := hE.mono hle149
 refine WL.a1 ?_
 refine Pu (.bool r146) (PO.pickT rfl hb138 rfl) rfl ?_
 refine Pm (.bool r146) rfl rfl ?_
 rcases Bool.eq_false_or_eq_true (r146) with hb154 | hb154
 have h := ite_t hb154 h
 refine On 94 rfl rfl hb154 ?_
 refine Pm (.pointer (some ⟨g93, 0, none⟩)) rfl rfl ?_
 refine On 94 rfl rfl hb154 ?_
 obtain ⟨⟨r155, r156⟩, hr157, h⟩ := bnd h
 refine WL.f1 ?_
 refine WL.eff (EO.call1 co27 (f_wire_Reader_End_ok (⟨r89.b, r140, r141⟩ : T_wire_Reader) _ _ _ hq94_0 (r155, r156) hr157) (args1 rfl)) rfl ?_
 rintro _ M158 _ hle159 ⟨_, ⟨rfl, rfl⟩, rfl⟩
 have h3 := h3.mono hle159
 have h4 := h4.mono hle159
 have hq129 := hq129.mono hle159
 have hq145 := hq145.mono hle159
 have hq94_0 := hq94_0.mono hle159
 have hE := hE.mono hle159
 refine WL.a1 ?_
 refine On 94 rfl rfl hb154 ?_
 refine Pu (.bool r155.isNil) (PO.errNil Tryd.underlying45 rfl) rfl ?_
 refine Pu (.bool r155.isNil) (PO.pickT rfl hb154 rfl) rfl ?_
 refine Pm (.bool r155.isNil) rfl rfl ?_
 rcases Bool.eq_false_or_eq_true (r155.isNil) with hb161 | hb161
 have h := ite_t hb161 h
 refine On 99 rfl rfl hb161 ?_
 obtain ⟨r162, hr163, h⟩ := bnd h
 refine WL.eff (EO.call0 co8 (f_law02_works_ok _ hE r162 hr163) (args0)) rfl ?_
 rintro _ M164 _ hle165 ⟨_, ⟨rfl, rfl⟩, rfl⟩
 have h3 := h3.mono hle165
 have h4 := h4.mono hle165
 have hq129 := hq129.mono hle165
 have hq145 := hq145.mono hle165
 have hq94_0 := hq94_0.mono hle165
 have hE := hE.mono hle165
 refine WL.a0 ?_
 refine Pu (.bool r162) (PO.pickT rfl hb161 rfl) rfl ?_
 refine Pa (.bool r162) rfl rfl ?_
 refine WL.nil ?_
 refine WQ.f1 ?_
 refine WQ.drop ?_
 refine WQ.f1 ?_
 refine WQ.drop ?_
 obtain rfl := Option.some.inj h
 refine WQ.thenJ ?_
 exact ⟨((((((((hle104.trans hle112).trans hle120).trans hle128).trans hle133).trans hle144).trans hle149).trans hle159).trans hle165), rfl, rfl⟩
 have h := ite_f hb161 h
 refine Of 99 rfl rfl hb161 rfl ?_
 refine Pu (.bool false) (PO.pickF rfl hb161 rfl) rfl ?_
 refine Pa (.bool false) rfl rfl ?_
 refine WL.nil ?_
 refine WQ.f1 ?_
 refine WQ.drop ?_
 refine WQ.f1 ?_
 refine WQ.drop ?_
 obtain rfl := Option.some.inj h
 refine WQ.thenJ ?_
 exact ⟨(((((((hle104.trans hle112).trans hle120).trans hle128).trans hle133).trans hle144).trans hle149).trans hle159), rfl, rfl⟩
 have h := ite_f hb154 h
 iterate 3 refine Of 94 rfl rfl hb154 rfl ?_
 refine Pu (.bool false) (PO.pickF rfl hb154 rfl) rfl ?_
 refine Pm (.bool false) rfl rfl ?_
 refine Of 99 rfl rfl rfl rfl ?_
 refine Pu (.bool false) (PO.pickF rfl rfl rfl) rfl ?_
 refine Pa (.bool false) rfl rfl ?_
 refine WL.nil ?_
 refine WQ.drop ?_
 refine WQ.f1 ?_
 refine WQ.drop ?_
 obtain rfl := Option.some.inj h
 refine WQ.thenJ ?_
 exact ⟨((((((hle104.trans hle112).trans hle120).trans hle128).trans hle133).trans hle144).trans hle149), rfl, rfl⟩
 have h := ite_f hb138 h
 iterate 4 refine Of 88 rfl rfl hb138 rfl ?_
 refine Pu (.bool false) (PO.pickF rfl hb138 rfl) rfl ?_
 refine Pm (.bool false) rfl rfl ?_
 iterate 3 refine Of 94 rfl rfl rfl rfl ?_
 refine Pu (.bool false) (PO.pickF rfl rfl rfl) rfl ?_
 refine Pm (.bool false) rfl rfl ?_
 refine Of 99 rfl rfl rfl rfl ?_
 refine Pu (.bool false) (PO.pickF rfl rfl rfl) rfl ?_
 refine Pa (.bool false) rfl rfl ?_
 refine WL.nil ?_
 refine WQ.drop ?_
 obtain rfl := Option.some.inj h
 refine WQ.thenJ ?_
 exact ⟨((((hle104.trans hle112).trans hle120).trans hle128).trans hle133), rfl, rfl⟩
 have h := ite_f hb122 h
 iterate 4 refine Of 82 rfl rfl hb122 rfl ?_
 refine Pu (.bool false) (PO.pickF rfl hb122 rfl) rfl ?_
 refine Pm (.bool false) rfl rfl ?_
 iterate 4 refine Of 88 rfl rfl rfl rfl ?_
 refine Pu (.bool false) (PO.pickF rfl rfl rfl) rfl ?_
 refine Pm (.bool false) rfl rfl ?_
 iterate 3 refine Of 94 rfl rfl rfl rfl ?_
 refine Pu (.bool false) (PO.pickF rfl rfl rfl) rfl ?_
 refine Pm (.bool false) rfl rfl ?_
 refine Of 99 rfl rfl rfl rfl ?_
 refine Pu (.bool false) (PO.pickF rfl rfl rfl) rfl ?_
 refine Pa (.bool false) rfl rfl ?_
 refine WL.nil ?_
 obtain rfl := Option.some.inj h
 refine WQ.thenJ ?_
 exact ⟨((hle104.trans hle112).trans hle120), rfl, rfl⟩
 have h := ite_f hb114 h
 iterate 4 refine Of 76 rfl rfl hb114 rfl ?_
 refine Pu (.bool false) (PO.pickF rfl hb114 rfl) rfl ?_
 refine Pm (.bool false) rfl rfl ?_
 iterate 4 refine Of 82 rfl rfl rfl rfl ?_
 refine Pu (.bool false) (PO.pickF rfl rfl rfl) rfl ?_
 refine Pm (.bool false) rfl rfl ?_
 iterate 4 refine Of 88 rfl rfl rfl rfl ?_
 refine Pu (.bool false) (PO.pickF rfl rfl rfl) rfl ?_
 refine Pm (.bool false) rfl rfl ?_
 iterate 3 refine Of 94 rfl rfl rfl rfl ?_
 refine Pu (.bool false) (PO.pickF rfl rfl rfl) rfl ?_
 refine Pm (.bool false) rfl rfl ?_
 refine Of 99 rfl rfl rfl rfl ?_
 refine Pu (.bool false) (PO.pickF rfl rfl rfl) rfl ?_
 refine Pa (.bool false) rfl rfl ?_
 refine WL.nil ?_
 obtain rfl := Option.some.inj h
 refine WQ.thenJ ?_
 exact ⟨(hle104.trans hle112), rfl, rfl⟩
 have h := ite_f hb106 h
 iterate 4 refine Of 70 rfl rfl hb106 rfl ?_
 refine Pu (.bool false) (PO.pickF rfl hb106 rfl) rfl ?_
 refine Pm (.bool false) rfl rfl ?_
 iterate 4 refine Of 76 rfl rfl rfl rfl ?_
 refine Pu (.bool false) (PO.pickF rfl rfl rfl) rfl ?_
 refine Pm (.bool false) rfl rfl ?_
 iterate 4 refine Of 82 rfl rfl rfl rfl ?_
 refine Pu (.bool false) (PO.pickF rfl rfl rfl) rfl ?_
 refine Pm (.bool false) rfl rfl ?_
 iterate 4 refine Of 88 rfl rfl rfl rfl ?_
 refine Pu (.bool false) (PO.pickF rfl rfl rfl) rfl ?_
 refine Pm (.bool false) rfl rfl ?_
 iterate 3 refine Of 94 rfl rfl rfl rfl ?_
 refine Pu (.bool false) (PO.pickF rfl rfl rfl) rfl ?_
 refine Pm (.bool false) rfl rfl ?_
 refine Of 99 rfl rfl rfl rfl ?_
 refine Pu (.bool false) (PO.pickF rfl rfl rfl) rfl ?_
 refine Pa (.bool false) rfl rfl ?_
 refine WL.nil ?_
 obtain rfl := Option.some.inj h
 refine WQ.thenJ ?_
 exact ⟨hle104, rfl, rfl⟩
 obtain ⟨x95, x96, x97⟩ := j98
 rintro ρ98 M98 H98 ⟨hle98, rfl, hs98_10⟩
 have hq94_0 := hq94_0.mono hle98
 have hE := hE.mono hle98
 refine WC.ret ?_
 refine WQ.drop ?_
 exact WQ.returnsF h [] rfl (results1 rfl hs98_10) (((((((((hle22.trans hle33).trans hle65).trans hle70).trans hle75).trans hle80).trans hle85).trans hle87).trans hle92).trans hle98) ⟨rfl, rfl⟩

noncomputable def f_law02_WireOnce (a0 : (List Int)) : Option Bool :=
  (if (decide ((100 : Int) < (a0.length : Int))) = true then ((f_law02_works).bind fun (r22 : Bool) => (some r22)) else ((f_wire_Read a0).bind fun (r27 : T_wire_Reader) => ((f_wire_Reader_Num r27 (4611686018427387904 : Int)).bind fun (r33, r34, r35) => ((f_wire_Reader_Err (⟨r27.b, r34, r35⟩ : T_wire_Reader)).bind fun (r40 : GErr) => (if (!r40.isNil) = true then (((if (decide (r33 = (0 : Int))) = true then ((f_wire_Reader_At (⟨r27.b, r34, r35⟩ : T_wire_Reader)).bind fun (r49 : Int) => (if (decide (r49 = (0 : Int))) = true then ((f_law02_works).bind fun (r55 : Bool) => (some r55)) else (some false))) else (some false)) : Option Bool).bind fun (x46 : Bool) => (some x46)) else ((((f_wire_Num [] r33).bind fun (r63 : (List Int)) => ((f_wire_Reader_At (⟨r27.b, r34, r35⟩ : T_wire_Reader)).bind fun (r68 : Int) => (grd (0 ≤ (0 : Int) ∧ (0 : Int) ≤ r68 ∧ r68 ≤ (a0.length : Int)) ((f_ref02_Same r63 (sub a0 (0 : Int) r68)).bind fun (r75 : Bool) => (if r75 = true then ((f_law02_works).bind fun (r84 : Bool) => (some r84)) else (some false)))))) : Option Bool).bind fun (x60 : Bool) => (some x60)))))))
def f_law02_WireOnce_post (a0 : (List Int)) (v0 : Value) : Bool → Value → IM → HL → Prop :=
  fun (r0 : Bool) (v : Value) (M' : IM) (H' : HL) => (.bool r0) = v ∧ H' = []
set_option maxHeartbeats 8000000 in
set_option maxRecDepth 100000 in
theorem f_law02_WireOnce_ok (a0 : (List Int)) (M : IM) (v0 : Value) (h0 : RS (Kd.int .u8) M v0 a0) (hE : Env M) (res : Bool) (h : f_law02_WireOnce a0 = some res) :
    Tri Tryd.prog 5 #[v0] M [] (f_law02_WireOnce_post a0 v0 res) := by
 unfold f_law02_WireOnce at h
 refine Tri.enter (fn := Tryd.f5) Tryd.func5 rfl (Nat.le_of_ble_eq_true rfl) ?_
 intro F ρ hρ
 refine Sr ?_
 refine Pa (.bool false) rfl rfl ?_
 refine Nt ?_
 refine WC.seq ?_
 refine Sr ?_
 refine Pm v0 (hρ 0) rfl ?_
 refine Pu (.int .i64 (a0.length : Int)) (PO.lenS Tryd.underlying22 rfl h0.len) rfl ?_
 refine Pu (.bool (decide ((100 : Int) < (a0.length : Int)))) (PO.gtr rfl rfl) rfl ?_
 refine Nt ?_
 refine WC.cond (b := decide ((100 : Int) < (a0.length : Int))) rfl (fun hb21 => ?_) (fun hb21 => ?_)
 have h := ite_t hb21 h
 refine Sr ?_
 obtain ⟨r22, hr23, h⟩ := bnd h
 refine WL.eff (EO.call0 co8 (f_law02_works_ok _ hE r22 hr23) (args0)) rfl ?_
 rintro _ M24 _ hle25 ⟨_, ⟨rfl, rfl⟩, rfl⟩
 have h0 := h0.mono hle25
 have hE := hE.mono hle25
 refine WL.a0 ?_
 refine Pa (.bool r22) rfl rfl ?_
 refine Nt ?_
 refine WC.ret ?_
 refine WQ.thenR ?_
 exact WQ.returnsF h [] rfl (results1 rfl rfl) hle25 ⟨rfl, rfl⟩
 have h := ite_f hb21 h
 refine WC.skip ?_
 refine WQ.thenC ?_
 refine Sr ?_
 refine Pm v0 (hρ 0) rfl ?_
 obtain ⟨r27, hr28, h⟩ := bnd h
 refine WL.eff (EO.call0 co20 (f_wire_Read_ok a0 _ _ h0 r27 hr28) (args1 rfl)) rfl ?_
 rintro _ M29 _ hle30 ⟨_, ⟨g31, vq32_0, rfl, rfl, hq32_0⟩, rfl⟩
 have h0 := h0.mono hle30
 have hE := hE.mono hle30
 refine WL.a1 ?_
 refine Pa (.pointer (some ⟨g31, 0, none⟩)) rfl rfl ?_
 refine Nt ?_
 refine WC.seq ?_
 refine Sr ?_
 refine Pm (.pointer (some ⟨g31, 0, none⟩)) rfl rfl ?_
 refine Pu (.bool false) (PO.ptrNil Tryd.underlying38 rfl) rfl ?_
 refine Nt ?_
 refine WC.condF (b := false) rfl rfl ?_
 refine WC.skip ?_
 refine WQ.thenC ?_
 refine Sr ?_
 refine Pm (.pointer (some ⟨g31, 0, none⟩)) rfl rfl ?_
 obtain ⟨⟨r33, r34, r35⟩, hr36, h⟩ := bnd h
 refine WL.eff (EO.call1 co21 (f_wire_Reader_Num_ok r27 (4611686018427387904 : Int) _ _ _ hq32_0 (r33, r34, r35) hr36) (args2 rfl rfl)) rfl ?_
 rintro _ M37 _ hle38 ⟨_, ⟨rfl, rfl⟩, rfl⟩
 have h0 := h0.mono hle38
 have hq32_0 := hq32_0.mono hle38
 have hE := hE.mono hle38
 refine WL.a1 ?_
 refine Pa (.int .u64 r33) rfl rfl ?_
 refine Nt ?_
 refine WC.seq ?_
 refine Sr ?_
 refine Pm (.pointer (some ⟨g31, 0, none⟩)) rfl rfl ?_
 obtain ⟨r40, hr41, h⟩ := bnd h
 refine WL.eff (EO.call1 co28 (f_wire_Reader_Err_ok (⟨r27.b, r34, r35⟩ : T_wire_Reader) _ _ _ hq32_0 r40 hr41) (args1 rfl)) rfl ?_
 rintro _ M42 _ hle43 ⟨_, ⟨rfl, rfl⟩, rfl⟩
 have h0 := h0.mono hle43
 have hq32_0 := hq32_0.mono hle43
 have hE := hE.mono hle43
 refine WL.a1 ?_
 refine Pu (.bool (!r40.isNil)) (PO.errNotNil Tryd.underlying45 rfl) rfl ?_
 refine Nt ?_
 refine WC.cond (b := !r40.isNil) rfl (fun hb45 => ?_) (fun hb45 => ?_)
 have h := ite_t hb45 h
 obtain ⟨x46, hj47, h⟩ := bnd h
 refine WC.joinF (fun (x46 : Bool) ρ' M' H' => M42.le M' ∧ [(g31, .cells #[vq32_0, (.int .i64 r34), (GV r35)] 73 (0, 0))] :: F = H' ∧ ρ' 2 = (.bool x46)) x46 ?_ ?_
 have h347 := h
 have h := hj47
 refine WC.region ?_
 refine Pm (.int .u64 r33) rfl rfl ?_
 refine Pu (.bool (decide (r33 = (0 : Int)))) (PO.eql rfl rfl) rfl ?_
 refine Pm (.bool (decide (r33 = (0 : Int)))) rfl rfl ?_
 rcases Bool.eq_false_or_eq_true (decide (r33 = (0 : Int))) with hb48 | hb48
 have h := ite_t hb48 h
 refine On 20 rfl rfl hb48 ?_
 refine Pm (.pointer (some ⟨g31, 0, none⟩)) rfl rfl ?_
 refine On 20 rfl rfl hb48 ?_
 obtain ⟨r49, hr50, h⟩ := bnd h
 refine WL.eff (EO.call1 co29 (f_wire_Reader_At_ok (⟨r27.b, r34, r35⟩ : T_wire_Reader) _ _ _ hq32_0 r49 hr50) (args1 rfl)) rfl ?_
 rintro _ M51 _ hle52 ⟨_, ⟨rfl, rfl⟩, rfl⟩
 have h0 := h0.mono hle52
 have hq32_0 := hq32_0.mono hle52
 have hE := hE.mono hle52
 refine WL.a1 ?_
 refine On 20 rfl rfl hb48 ?_
 refine Pu (.bool (decide (r49 = (0 : Int)))) (PO.eql rfl rfl) rfl ?_
 refine Pu (.bool (decide (r49 = (0 : Int)))) (PO.pickT rfl hb48 rfl) rfl ?_
 refine Pm (.bool (decide (r49 = (0 : Int)))) rfl rfl ?_
 rcases Bool.eq_false_or_eq_true (decide (r49 = (0 : Int))) with hb54 | hb54
 have h := ite_t hb54 h
 refine On 25 rfl rfl hb54 ?_
 obtain ⟨r55, hr56, h⟩ := bnd h
 refine WL.eff (EO.call0 co8 (f_law02_works_ok _ hE r55 hr56) (args0)) rfl ?_
 rintro _ M57 _ hle58 ⟨_, ⟨rfl, rfl⟩, rfl⟩
 have h0 := h0.mono hle58
 have hq32_0 := hq32_0.mono hle58
 have hE := hE.mono hle58
 refine WL.a0 ?_
 refine Pu (.bool r55) (PO.pickT rfl hb54 rfl) rfl ?_
 refine Pa (.bool r55) rfl rfl ?_
 refine WL.nil ?_
 obtain rfl := Option.some.inj h
 refine WQ.thenJ ?_
 exact ⟨(hle52.trans hle58), rfl, rfl⟩
 have h := ite_f hb54 h
 refine Of 25 rfl rfl hb54 rfl ?_
 refine Pu (.bool false) (PO.pickF rfl hb54 rfl) rfl ?_
 refine Pa (.bool false) rfl rfl ?_
 refine WL.nil ?_
 obtain rfl := Option.some.inj h
 refine WQ.thenJ ?_
 exact ⟨hle52, rfl, rfl⟩
 have h := ite_f hb48 h
 iterate 3 refine Of 20 rfl rfl hb48 rfl ?_
 refine Pu (.bool false) (PO.pickF rfl hb48 rfl) rfl ?_
 refine Pm (.bool false) rfl rfl ?_
 refine Of 25 rfl rfl rfl rfl ?_
 refine Pu (.bool false) (PO.pickF rfl rfl rfl) rfl ?_
 refine Pa (.bool false) rfl rfl ?_
 refine WL.nil ?_
 obtain rfl := Option.some.inj h
 refine WQ.thenJ ?_
 exact ⟨(IM.le.refl _), rfl, rfl⟩
 rintro ρ47 M47 H47 ⟨hle47, rfl, hs47_2⟩
 have hq32_0 := hq32_0.mono hle47
 have hE := hE.mono hle47
 refine WC.ret ?_
 refine WQ.thenR ?_
 refine WQ.drop ?_
 exact WQ.returnsF h [] rfl (results1 rfl hs47_2) (((hle30.trans hle38).trans hle43).trans hle47) ⟨rfl, rfl⟩
 have h := ite_f hb45 h
 refine WC.skip ?_
 refine WQ.thenC ?_
 obtain ⟨x60, hj61, h⟩ := bnd h
 refine WC.joinF (fun (x60 : Bool) ρ' M' H' => M42.le M' ∧ [(g31, .cells #[vq32_0, (.int .i64 r34), (GV r35)] 73 (0, 0))] :: F = H' ∧ ρ' 2 = (.bool x60)) x60 ?_ ?_
 have h361 := h
 have h := hj61
 refine WC.region ?_
 refine Pm (.int .u64 r33) rfl rfl ?_
 obtain ⟨r63, hr64, h⟩ := bnd h
 refine WL.e0 ?_
 refine WL.eff (EO.call1 co13 (f_wire_Num_ok [] r33 _ _ _ (OwnS.nil _ _) r63 hr64) (args2 rfl rfl)) rfl ?_
 rintro _ M65 _ hle66 ⟨_, ⟨vq67, cq67, rfl, rfl, hq67⟩, rfl⟩
 have h0 := h0.mono hle66
 have hq32_0 := hq32_0.mono hle66
 have hE := hE.mono hle66
 refine WL.a1 ?_
 refine Pm v0 (hρ 0) rfl ?_
 refine Pm (.pointer (some ⟨g31, 0, none⟩)) rfl rfl ?_
 obtain ⟨r68, hr69, h⟩ := bnd h
 refine WL.f1 ?_
 refine WL.eff (EO.call1 co29 (f_wire_Reader_At_ok (⟨r27.b, r34, r35⟩ : T_wire_Reader) _ _ _ hq32_0 r68 hr69) (args1 rfl)) rfl ?_
 rintro _ M70 _ hle71 ⟨_, ⟨rfl, rfl⟩, rfl⟩
 have h0 := h0.mono hle71
 have hq67 := hq67.mono hle71
 have hq32_0 := hq32_0.mono hle71
 have hE := hE.mono hle71
 refine WL.a1 ?_
 obtain ⟨hg73, h⟩ := grd_i h
 have h74 := h0.sub hg73.1 hg73.2.1 hg73.2.2
 refine Pu (slV v0 1 ((0 : Int)).toNat (r68).toNat) (PO.slice (n := a0.length) (l := ((0 : Int)).toNat) (h := (r68).toNat) Tryd.underlying22 sz5 rfl h0.len h0.cap (bound0 rfl) ⟨_, _, rfl, (Int.le_trans hg73.1 hg73.2.1), rfl⟩ (Int.toNat_le_toNat hg73.2.1) (toNat_le_len hg73.2.2)) rfl ?_
 obtain ⟨r75, hr76, h⟩ := bnd h
 refine WL.f1 ?_
 refine WL.eff (EO.call1 co18 (Tri.lend fun w0_ H0_ hs0_ => (f_ref02_Same_ok r63 (sub a0 (0 : Int) r68) _ _ _ (hq67.rs hs0_) (h74.mono (IM.le_add _ _)) r75 hr76)) (args2 rfl rfl)) rfl ?_
 rintro _ _ _ hle78 ⟨_, ⟨Ml80, Hl81, hll82, rfl, rfl, ⟨rfl, rfl⟩⟩, rfl⟩
 have h0 := h0.mono hle78
 have hq67 := hq67.mono hle78
 have h74 := h74.mono hle78
 have hq32_0 := hq32_0.mono hle78
 have hE := hE.mono hle78
 refine WL.a1 ?_
 refine Pm (.bool r75) rfl rfl ?_
 rcases Bool.eq_false_or_eq_true (r75) with hb83 | hb83
 have h := ite_t hb83 h
 refine On 35 rfl rfl hb83 ?_
 obtain ⟨r84, hr85, h⟩ := bnd h
 refine WL.eff (EO.call0 co8 (f_law02_works_ok _ hE r84 hr85) (args0)) rfl ?_
 rintro _ M86 _ hle87 ⟨_, ⟨rfl, rfl⟩, rfl⟩
 have h0 := h0.mono hle87
 have hq67 := hq67.mono hle87
 have h74 := h74.mono hle87
 have hq32_0 := hq32_0.mono hle87
 have hE := hE.mono hle87
 refine WL.a0 ?_
 refine Pu (.bool r84) (PO.pickT rfl hb83 rfl) rfl ?_
 refine Pa (.bool r84) rfl rfl ?_
 refine WL.nil ?_
 refine WQ.drop ?_
 obtain rfl := Option.some.inj h
 refine WQ.thenJ ?_
 exact ⟨(((hle66.trans hle71).trans hle78).trans hle87), rfl, rfl⟩
 have h := ite_f hb83 h
 refine Of 35 rfl rfl hb83 rfl ?_
 refine Pu (.bool false) (PO.pickF rfl hb83 rfl) rfl ?_
 refine Pa (.bool false) rfl rfl ?_
 refine WL.nil ?_
 refine WQ.drop ?_
 obtain rfl := Option.some.inj h
 refine WQ.thenJ ?_
 exact ⟨((hle66.trans hle71).trans hle78), rfl, rfl⟩
 rintro ρ61 M61 H61 ⟨hle61, rfl, hs61_2⟩
 have hq32_0 := hq32_0.mono hle61
 have hE := hE.mono hle61
 refine WC.ret ?_
 refine WQ.drop ?_
 exact WQ.returnsF h [] rfl (results1 rfl hs61_2) (((hle30.trans hle38).trans hle43).trans hle61) ⟨rfl, rfl⟩


end Go.Proofs.YtdlilclopmhiaaaDoor.G
