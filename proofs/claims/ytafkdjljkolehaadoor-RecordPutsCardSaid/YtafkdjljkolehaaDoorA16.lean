/- Go functions: what they come to, and that they do. Printed by a program of the session (gen). -/
import Derived.Test.YtafkdjljkolehaaDoorAF
import Derived.Test.YtafkdjljkolehaaDoorA15
import Derived.Test.YtafkdjljkolehaaDoorKConv
set_option linter.unusedVariables false
set_option linter.unusedSimpArgs false
set_option maxHeartbeats 8000000
set_option maxRecDepth 100000
namespace Go.Proofs.YtafkdjljkolehaaDoor.G
open Go Go.KK

noncomputable def f_law05_RecordPuts (a0 : (List Int)) (a1 : T_api_Record) : Option Bool :=
  ((((f_ref05_Short a1).bind fun (r24 : Bool) => (if (!r24) = true then (some true) else (some (decide ((300 : Int) < (a0.length : Int)))))) : Option Bool).bind fun (x22 : Bool) => (if x22 = true then ((f_law05_works).bind fun (r31 : Bool) => (some r31)) else (grd (([] : List Int).length + a0.length ≤ 274877906944) ((f_record_Put (([] : List Int) ++ a0) a1).bind fun (r41, r42) => ((f_ref05_Check a1).bind fun (r48 : T_ref05_Wrong) => (if (decide (r48.Code ≠ (0 : Int))) = true then (((if (decide ((r41.length : Int) = (0 : Int))) = true then ((f_law05_wrong r42 r48).bind fun (r58 : Bool) => (if r58 = true then ((f_law05_works).bind fun (r64 : Bool) => (some r64)) else (some false))) else (some false)) : Option Bool).bind fun (x55 : Bool) => (some x55)) else (grd (([] : List Int).length + a0.length ≤ 274877906944) ((f_ref05_Bytes a1).bind fun (r74 : (List Int)) => (grd ((([] : List Int) ++ a0).length + r74.length ≤ 274877906944) (((if r42.isNil = true then ((f_ref02_Same r41 ((([] : List Int) ++ a0) ++ r74)).bind fun (r86 : Bool) => (if r86 = true then ((f_law05_works).bind fun (r98 : Bool) => (some r98)) else (some false))) else (some false)) : Option Bool).bind fun (x83 : Bool) => (some x83)))))))))))
def f_law05_RecordPuts_post (a0 : (List Int)) (a1 : T_api_Record) (v0 v1_14 v1_15 v1_16 v1_17 : Value) : Bool → Value → IM → HL → Prop :=
  fun (r0 : Bool) (v : Value) (M' : IM) (H' : HL) => (.bool r0) = v ∧ H' = []
theorem f_law05_RecordPuts_ok (a0 : (List Int)) (a1 : T_api_Record) (M : IM) (v0 v1_14 v1_15 v1_16 v1_17 : Value) (h0 : RS (Kd.int .u8) M v0 a0) (h1_14 : RS (Kd.int .i64) M v1_14 a1.Ids) (h1_15 : RS (Kd.int .i64) M v1_15 a1.Isr) (h1_16 : RS (Kd.int .i64) M v1_16 a1.Add) (h1_17 : RS (Kd.int .i64) M v1_17 a1.Drop) (hE : Env M) (res : Bool) (h : f_law05_RecordPuts a0 a1 = some res) :
    Tri Tryd.prog 6 #[v0, (a24_ a1 v1_14 v1_15 v1_16 v1_17)] M [] (f_law05_RecordPuts_post a0 a1 v0 v1_14 v1_15 v1_16 v1_17 res) := by
 unfold f_law05_RecordPuts at h
 refine Tri.enter (fn := Tryd.f6) Tryd.func6 rfl (Nat.le_of_ble_eq_true rfl) ?_
 intro F ρ hρ
 refine Sr ?_
 refine WL.eff (EO.box (cs := (l24 a1 v1_14 v1_15 v1_16 v1_17).toArray) (congrArg Value.cells (asE (a24_ a1 v1_14 v1_15 v1_16 v1_17) (hρ 1)))) rfl ?_
 rintro _ _ _ - ⟨rfl, g21, rfl, rfl⟩
 refine Pa (.bool false) rfl rfl ?_
 refine Nt ?_
 refine WC.seq ?_
 obtain ⟨x22, hj23, h⟩ := bnd h
 refine WC.joinF (fun (x22 : Bool) ρ' M' H' => M.le M' ∧ [(g21, .cells (l24 a1 v1_14 v1_15 v1_16 v1_17).toArray 24 (0, 0))] :: F = H' ∧ ρ' 0 = v0 ∧ ρ' 3 = (pt g21 0) ∧ ρ' 17 = (.bool x22)) x22 ?_ ?_
 have h323 := h
 have h := hj23
 refine WC.region ?_
 refine Pu (a24_ a1 v1_14 v1_15 v1_16 v1_17) (PO.loadBA (cs := (l24 a1 v1_14 v1_15 v1_16 v1_17)) 0 ag24 sz24 rfl rfl rfl) rfl ?_
 obtain ⟨r24, hr25, h⟩ := bnd h
 refine WL.eff (EO.call0 co7 (f_ref05_Short_ok a1 _ _ _ _ _ h1_14 h1_15 h1_16 h1_17 r24 hr25) (args1 rfl)) rfl ?_
 rintro _ M26 _ hle27 ⟨_, ⟨rfl, rfl⟩, rfl⟩
 have h0 := h0.mono hle27
 have h1_14 := h1_14.mono hle27
 have h1_15 := h1_15.mono hle27
 have h1_16 := h1_16.mono hle27
 have h1_17 := h1_17.mono hle27
 have hE := hE.mono hle27
 refine WL.a0 ?_
 refine Pu (.bool (!r24)) (PO.not rfl) rfl ?_
 refine Pm (.bool (!r24)) rfl rfl ?_
 rcases Bool.eq_false_or_eq_true (!r24) with hb29 | hb29
 have h := ite_t hb29 h
 iterate 3 refine Of 13 rfl rfl hb29 rfl ?_
 refine Pu (.bool true) (PO.pickT rfl hb29 rfl) rfl ?_
 refine WL.nil ?_
 obtain rfl := Option.some.inj h
 refine WQ.thenJ ?_
 exact ⟨hle27, rfl, (hρ 0), rfl, rfl⟩
 have h := ite_f hb29 h
 refine On 13 rfl rfl hb29 ?_
 refine Pm v0 (hρ 0) rfl ?_
 refine On 13 rfl rfl hb29 ?_
 refine Pu (.int .i64 (a0.length : Int)) (PO.lenS Tryd.underlying28 rfl h0.len) rfl ?_
 refine On 13 rfl rfl hb29 ?_
 refine Pu (.bool (decide ((300 : Int) < (a0.length : Int)))) (PO.gtr rfl rfl) rfl ?_
 refine Pu (.bool (decide ((300 : Int) < (a0.length : Int)))) (PO.pickF rfl hb29 rfl) rfl ?_
 refine WL.nil ?_
 obtain rfl := Option.some.inj h
 refine WQ.thenJ ?_
 exact ⟨hle27, rfl, (hρ 0), rfl, rfl⟩
 rintro ρ23 M23 H23 ⟨hle23, rfl, hs23_0, hs23_3, hs23_17⟩
 have h0 := h0.mono hle23
 have h1_14 := h1_14.mono hle23
 have h1_15 := h1_15.mono hle23
 have h1_16 := h1_16.mono hle23
 have h1_17 := h1_17.mono hle23
 have hE := hE.mono hle23
 refine WC.cond (b := x22) hs23_17 (fun hb30 => ?_) (fun hb30 => ?_)
 have h := ite_t hb30 h
 refine Sr ?_
 obtain ⟨r31, hr32, h⟩ := bnd h
 refine WL.eff (EO.call0 co8 (f_law05_works_ok _ hE r31 hr32) (args0)) rfl ?_
 rintro _ M33 _ hle34 ⟨_, ⟨rfl, rfl⟩, rfl⟩
 have h0 := h0.mono hle34
 have h1_14 := h1_14.mono hle34
 have h1_15 := h1_15.mono hle34
 have h1_16 := h1_16.mono hle34
 have h1_17 := h1_17.mono hle34
 have hE := hE.mono hle34
 refine WL.a0 ?_
 refine Pa (.bool r31) rfl rfl ?_
 refine Nt ?_
 refine WC.ret ?_
 refine WQ.thenR ?_
 refine WQ.drop ?_
 exact WQ.returnsF h [] rfl (results1 rfl rfl) (hle23.trans hle34) ⟨rfl, rfl⟩
 have h := ite_f hb30 h
 refine WC.skip ?_
 refine WQ.thenC ?_
 refine Sr ?_
 refine Pa (.slice none 0 0) rfl rfl ?_
 refine Ns ?_
 refine Pm (.slice none 0 0) rfl rfl ?_
 refine Pm v0 hs23_0 rfl ?_
 obtain ⟨hg40, h⟩ := grd_i h
 refine WL.e0 ?_
 refine WL.eff (EO.append (dd := (Kd.int .u8)) (xs := []) (ys := a0) Tryd.underlying28 Tryd.underlying28 in5 rfl (appB (by decide) hg40) (by decide) rfl rfl (OwnS.nil _ _) (h0.src _)) rfl ?_
 rintro v39 _ _ - ⟨rfl, c37, rfl, h38⟩
 refine Pa v39 rfl rfl ?_
 refine Ns ?_
 refine Pm v39 rfl rfl ?_
 refine Pu (a24_ a1 v1_14 v1_15 v1_16 v1_17) (PO.loadBA (cs := (l24 a1 v1_14 v1_15 v1_16 v1_17)) 1 ag24 sz24 hs23_3 rfl rfl) rfl ?_
 obtain ⟨⟨r41, r42⟩, hr43, h⟩ := bnd h
 refine WL.eff (EO.call1 co9 (f_record_Put_ok (([] : List Int) ++ a0) a1 _ _ _ _ _ _ _ h38 h1_14 h1_15 h1_16 h1_17 (r41, r42) hr43) (args2 rfl rfl)) rfl ?_
 rintro _ M44 _ hle45 ⟨_, ⟨vq46, cq46, rfl, rfl, hq46⟩, rfl⟩
 have h0 := h0.mono hle45
 have h38 := h38.mono hle45
 have h1_14 := h1_14.mono hle45
 have h1_15 := h1_15.mono hle45
 have h1_16 := h1_16.mono hle45
 have h1_17 := h1_17.mono hle45
 have hE := hE.mono hle45
 refine WL.a1 ?_
 refine Pm (.tuple #[vq46, (GV r42)]) rfl rfl ?_
 refine Pu vq46 (PO.extract rfl rfl) rfl ?_
 refine Pu (GV r42) (PO.extract rfl rfl) rfl ?_
 refine Pa vq46 rfl rfl ?_
 refine Pa (GV r42) rfl rfl ?_
 refine Ns ?_
 refine Pu (a24_ a1 v1_14 v1_15 v1_16 v1_17) (PO.loadBA (cs := (l24 a1 v1_14 v1_15 v1_16 v1_17)) 1 ag24 sz24 hs23_3 rfl rfl) rfl ?_
 obtain ⟨r48, hr49, h⟩ := bnd h
 refine WL.eff (EO.call0 co20 (f_ref05_Check_ok a1 _ _ _ _ _ h1_14 h1_15 h1_16 h1_17 r48 hr49) (args1 rfl)) rfl ?_
 rintro _ M50 _ hle51 ⟨_, ⟨rfl, rfl⟩, rfl⟩
 have h0 := h0.mono hle51
 have hq46 := hq46.mono hle51
 have h1_14 := h1_14.mono hle51
 have h1_15 := h1_15.mono hle51
 have h1_16 := h1_16.mono hle51
 have h1_17 := h1_17.mono hle51
 have hE := hE.mono hle51
 refine WL.a0 ?_
 refine WL.eff (EO.alloc ze47 rfl) rfl ?_
 rintro _ _ _ - ⟨rfl, g53, rfl, rfl⟩
 refine WL.eff (EO.storeL (v := (a47_ r48)) (vl := (l47 r48)) (arr' := (l47 r48)) rfl sz47 rfl rfl (onesOf (Ones.cons rfl (Ones.cons rfl (Ones.cons rfl Ones.nil)))) rfl rfl rfl) rfl ?_
 rintro _ _ _ - ⟨rfl, rfl⟩
 refine Nt ?_
 refine WC.seq ?_
 refine Sr ?_
 refine Pu (pt g53 2) (PO.fieldAddr fo47_2 rfl rfl) rfl ?_
 refine Pu (.int .i64 r48.Code) (PO.loadB 0 pl38 rfl rfl rfl) rfl ?_
 refine Pu (.bool (decide (r48.Code ≠ 0))) (PO.neq rfl rfl) rfl ?_
 refine Nt ?_
 refine WC.cond (b := decide (r48.Code ≠ 0)) rfl (fun hb54 => ?_) (fun hb54 => ?_)
 have h := ite_t hb54 h
 obtain ⟨x55, hj56, h⟩ := bnd h
 refine WC.joinF (fun (x55 : Bool) ρ' M' H' => M50.le M' ∧ [(g53, .cells (l47 r48).toArray 47 (0, 0))] :: [(g21, .cells (l24 a1 v1_14 v1_15 v1_16 v1_17).toArray 24 (0, 0))] :: F = H' ∧ ρ' 4 = (.bool x55)) x55 ?_ ?_
 have h356 := h
 have h := hj56
 refine WC.region ?_
 refine Pm vq46 rfl rfl ?_
 refine Pu (.int .i64 (r41.length : Int)) (PO.lenS Tryd.underlying28 rfl hq46.len) rfl ?_
 refine Pu (.bool (decide ((r41.length : Int) = (0 : Int)))) (PO.eql rfl rfl) rfl ?_
 refine Pm (.bool (decide ((r41.length : Int) = (0 : Int)))) rfl rfl ?_
 rcases Bool.eq_false_or_eq_true (decide ((r41.length : Int) = (0 : Int))) with hb57 | hb57
 have h := ite_t hb57 h
 refine On 36 rfl rfl hb57 ?_
 refine Pm (GV r42) rfl rfl ?_
 refine On 36 rfl rfl hb57 ?_
 refine Pu (a47_ r48) (PO.loadBA (cs := (l47 r48)) 0 ag47 sz47 rfl rfl rfl) rfl ?_
 refine On 36 rfl rfl hb57 ?_
 obtain ⟨r58, hr59, h⟩ := bnd h
 refine WL.eff (EO.call0 co18 (f_law05_wrong_ok r42 r48 _ hE r58 hr59) (args2 rfl rfl)) rfl ?_
 rintro _ M60 _ hle61 ⟨_, ⟨rfl, rfl⟩, rfl⟩
 have h0 := h0.mono hle61
 have hq46 := hq46.mono hle61
 have h1_14 := h1_14.mono hle61
 have h1_15 := h1_15.mono hle61
 have h1_16 := h1_16.mono hle61
 have h1_17 := h1_17.mono hle61
 have hE := hE.mono hle61
 refine WL.a0 ?_
 refine Pu (.bool r58) (PO.pickT rfl hb57 rfl) rfl ?_
 refine Pm (.bool r58) rfl rfl ?_
 rcases Bool.eq_false_or_eq_true (r58) with hb63 | hb63
 have h := ite_t hb63 h
 refine On 41 rfl rfl hb63 ?_
 obtain ⟨r64, hr65, h⟩ := bnd h
 refine WL.eff (EO.call0 co8 (f_law05_works_ok _ hE r64 hr65) (args0)) rfl ?_
 rintro _ M66 _ hle67 ⟨_, ⟨rfl, rfl⟩, rfl⟩
 have h0 := h0.mono hle67
 have hq46 := hq46.mono hle67
 have h1_14 := h1_14.mono hle67
 have h1_15 := h1_15.mono hle67
 have h1_16 := h1_16.mono hle67
 have h1_17 := h1_17.mono hle67
 have hE := hE.mono hle67
 refine WL.a0 ?_
 refine Pu (.bool r64) (PO.pickT rfl hb63 rfl) rfl ?_
 refine Pa (.bool r64) rfl rfl ?_
 refine WL.nil ?_
 refine WQ.f1 ?_
 refine WQ.drop ?_
 obtain rfl := Option.some.inj h
 refine WQ.thenJ ?_
 exact ⟨(hle61.trans hle67), rfl, rfl⟩
 have h := ite_f hb63 h
 refine Of 41 rfl rfl hb63 rfl ?_
 refine Pu (.bool false) (PO.pickF rfl hb63 rfl) rfl ?_
 refine Pa (.bool false) rfl rfl ?_
 refine WL.nil ?_
 refine WQ.f1 ?_
 refine WQ.drop ?_
 obtain rfl := Option.some.inj h
 refine WQ.thenJ ?_
 exact ⟨hle61, rfl, rfl⟩
 have h := ite_f hb57 h
 iterate 3 refine Of 36 rfl rfl hb57 rfl ?_
 refine Pu (.bool false) (PO.pickF rfl hb57 rfl) rfl ?_
 refine Pm (.bool false) rfl rfl ?_
 refine Of 41 rfl rfl rfl rfl ?_
 refine Pu (.bool false) (PO.pickF rfl rfl rfl) rfl ?_
 refine Pa (.bool false) rfl rfl ?_
 refine WL.nil ?_
 refine WQ.f1 ?_
 refine WQ.drop ?_
 obtain rfl := Option.some.inj h
 refine WQ.thenJ ?_
 exact ⟨(IM.le.refl _), rfl, rfl⟩
 rintro ρ56 M56 H56 ⟨hle56, rfl, hs56_4⟩
 have h1_14 := h1_14.mono hle56
 have h1_15 := h1_15.mono hle56
 have h1_16 := h1_16.mono hle56
 have h1_17 := h1_17.mono hle56
 have hE := hE.mono hle56
 refine WC.ret ?_
 refine WQ.thenR ?_
 refine WQ.drop ?_
 refine WQ.drop ?_
 exact WQ.returnsF h [] rfl (results1 rfl hs56_4) (((hle23.trans hle45).trans hle51).trans hle56) ⟨rfl, rfl⟩
 have h := ite_f hb54 h
 refine WC.skip ?_
 refine WQ.thenC ?_
 refine Sr ?_
 refine Pa (.slice none 0 0) rfl rfl ?_
 refine Nt ?_
 refine WC.seq ?_
 refine WC.draw [0, 0, 3, 0, 15, 31, 63] (.pure 0 (.pure 1 (.pure 3 (.alt 2 (.alt 4 (.alt 5 (.alt 6 .done .none) .none) .none) .none)))) mixed (by kernel_rfl) ?_
 refine Tp (.slice none 0 0) rfl (PO.move rfl) rfl ?_
 refine Tp v0 rfl (PO.move hs23_0) rfl ?_
 refine Tp (a24_ a1 v1_14 v1_15 v1_16 v1_17) rfl (PO.loadBA (cs := (l24 a1 v1_14 v1_15 v1_16 v1_17)) 2 ag24 sz24 hs23_3 rfl rfl) rfl ?_
 obtain ⟨hg73, h⟩ := grd_i h
 refine WT.e0 ?_
 refine WT.alt rfl (EO.append (dd := (Kd.int .u8)) (xs := []) (ys := a0) Tryd.underlying28 Tryd.underlying28 in5 rfl (appB (by decide) hg73) (by decide) rfl rfl (OwnS.nil _ _) (h0.src _)) rfl ?_ ?_
 rintro v72 _ _ - ⟨rfl, c70, rfl, h71⟩
 refine ⟨(StabL.st (StabA.of rfl (PO.loadBA (cs := (l24 a1 v1_14 v1_15 v1_16 v1_17)) 3 ag24 sz24 hs23_3 rfl rfl) rfl) (StabL.anc rfl (StabL.anc rfl trivial))), ?_⟩
 obtain ⟨r74, hr75, h⟩ := bnd h
 refine WT.alt rfl (EO.call0 co26 (f_ref05_Bytes_ok a1 _ _ _ _ _ h1_14 h1_15 h1_16 h1_17 r74 hr75) (args1 rfl)) rfl ?_ ?_
 rintro _ M76 _ hle77 ⟨_, ⟨vq78, cq78, rfl, rfl, hq78⟩, rfl⟩
 have h0 := h0.mono hle77
 have hq46 := hq46.mono hle77
 have h1_14 := h1_14.mono hle77
 have h1_15 := h1_15.mono hle77
 have h1_16 := h1_16.mono hle77
 have h1_17 := h1_17.mono hle77
 have h71 := h71.mono hle77
 have hE := hE.mono hle77
 refine ⟨(StabL.anc rfl (StabL.anc rfl (StabL.anc rfl trivial))), ?_⟩
 refine WT.a1 ?_
 obtain ⟨hg82, h⟩ := grd_i h
 refine WT.f1 ?_
 refine WT.alt rfl (EO.append (dd := (Kd.int .u8)) (xs := ([] : List Int) ++ a0) (ys := r74) Tryd.underlying28 Tryd.underlying28 in5 rfl (appB (by decide) hg82) (by decide) rfl rfl h71 (hq78.src 1 rfl)) rfl ?_ ?_
 rintro v81 _ _ - ⟨rfl, c79, rfl, h80⟩
 refine ⟨(StabL.anc rfl (StabL.anc rfl (StabL.anc rfl trivial))), ?_⟩
 refine WT.alt rfl ((PO.assign rfl).eo) rfl ?_ ?_
 rintro _ _ _ - ⟨rfl, rfl, rfl⟩
 refine ⟨(StabL.anc rfl (StabL.anc rfl (StabL.anc rfl trivial))), ?_⟩
 refine WT.fin ?_
 refine WQ.thenC ?_
 obtain ⟨x83, hj84, h⟩ := bnd h
 refine WC.joinF (fun (x83 : Bool) ρ' M' H' => M76.le M' ∧ [(g53, .cells (l47 r48).toArray 47 (0, 0))] :: [(g21, .cells (l24 a1 v1_14 v1_15 v1_16 v1_17).toArray 24 (0, 0))] :: F = H' ∧ ρ' 4 = (.bool x83)) x83 ?_ ?_
 have h384 := h
 have h := hj84
 refine WC.region ?_
 refine Pm (GV r42) rfl rfl ?_
 refine Pu (.bool r42.isNil) (PO.errNil Tryd.underlying30 rfl) rfl ?_
 refine Pm (.bool r42.isNil) rfl rfl ?_
 rcases Bool.eq_false_or_eq_true (r42.isNil) with hb85 | hb85
 have h := ite_t hb85 h
 refine On 52 rfl rfl hb85 ?_
 refine Pm vq46 rfl rfl ?_
 refine On 52 rfl rfl hb85 ?_
 refine Pm v81 rfl rfl ?_
 refine On 52 rfl rfl hb85 ?_
 obtain ⟨r86, hr87, h⟩ := bnd h
 refine WL.f3 ?_
 refine WL.eff (EO.call2 co16 (Tri.lend fun w0_ H0_ hs0_ => (Tri.lend fun w1_ H1_ hs1_ => (f_ref02_Same_ok r41 ((([] : List Int) ++ a0) ++ r74) _ _ _ ((hq46.rs hs0_).mono (IM.le_add _ _)) ((h80.mono (IM.le_add _ _)).rs hs1_) r86 hr87))) (args2 rfl rfl)) rfl ?_
 rintro _ _ _ hle89 ⟨_, ⟨Ml94, Hl95, hll96, rfl, rfl, ⟨Ml91, Hl92, hll93, rfl, rfl, ⟨rfl, rfl⟩⟩⟩, rfl⟩
 have hq46 := hq46.mono hle89
 have h80 := h80.mono hle89
 have h1_14 := h1_14.mono hle89
 have h1_15 := h1_15.mono hle89
 have h1_16 := h1_16.mono hle89
 have h1_17 := h1_17.mono hle89
 have hE := hE.mono hle89
 refine WL.a2 ?_
 refine Pu (.bool r86) (PO.pickT rfl hb85 rfl) rfl ?_
 refine Pm (.bool r86) rfl rfl ?_
 rcases Bool.eq_false_or_eq_true (r86) with hb97 | hb97
 have h := ite_t hb97 h
 refine On 57 rfl rfl hb97 ?_
 obtain ⟨r98, hr99, h⟩ := bnd h
 refine WL.eff (EO.call0 co8 (f_law05_works_ok _ hE r98 hr99) (args0)) rfl ?_
 rintro _ M100 _ hle101 ⟨_, ⟨rfl, rfl⟩, rfl⟩
 have hq46 := hq46.mono hle101
 have h80 := h80.mono hle101
 have h1_14 := h1_14.mono hle101
 have h1_15 := h1_15.mono hle101
 have h1_16 := h1_16.mono hle101
 have h1_17 := h1_17.mono hle101
 have hE := hE.mono hle101
 refine WL.a0 ?_
 refine Pu (.bool r98) (PO.pickT rfl hb97 rfl) rfl ?_
 refine Pa (.bool r98) rfl rfl ?_
 refine WL.nil ?_
 refine WQ.drop ?_
 refine WQ.drop ?_
 refine WQ.drop ?_
 obtain rfl := Option.some.inj h
 refine WQ.thenJ ?_
 exact ⟨(hle89.trans hle101), rfl, rfl⟩
 have h := ite_f hb97 h
 refine Of 57 rfl rfl hb97 rfl ?_
 refine Pu (.bool false) (PO.pickF rfl hb97 rfl) rfl ?_
 refine Pa (.bool false) rfl rfl ?_
 refine WL.nil ?_
 refine WQ.drop ?_
 refine WQ.drop ?_
 refine WQ.drop ?_
 obtain rfl := Option.some.inj h
 refine WQ.thenJ ?_
 exact ⟨hle89, rfl, rfl⟩
 have h := ite_f hb85 h
 iterate 3 refine Of 52 rfl rfl hb85 rfl ?_
 refine Pu (.bool false) (PO.pickF rfl hb85 rfl) rfl ?_
 refine Pm (.bool false) rfl rfl ?_
 refine Of 57 rfl rfl rfl rfl ?_
 refine Pu (.bool false) (PO.pickF rfl rfl rfl) rfl ?_
 refine Pa (.bool false) rfl rfl ?_
 refine WL.nil ?_
 refine WQ.drop ?_
 refine WQ.drop ?_
 refine WQ.f1 ?_
 refine WQ.drop ?_
 obtain rfl := Option.some.inj h
 refine WQ.thenJ ?_
 exact ⟨(IM.le.refl _), rfl, rfl⟩
 rintro ρ84 M84 H84 ⟨hle84, rfl, hs84_4⟩
 have h1_14 := h1_14.mono hle84
 have h1_15 := h1_15.mono hle84
 have h1_16 := h1_16.mono hle84
 have h1_17 := h1_17.mono hle84
 have hE := hE.mono hle84
 refine WC.ret ?_
 refine WQ.drop ?_
 refine WQ.drop ?_
 exact WQ.returnsF h [] rfl (results1 rfl hs84_4) ((((hle23.trans hle45).trans hle51).trans hle77).trans hle84) ⟨rfl, rfl⟩
 exact WT.no
 exact WT.no
 exact WT.no
 exact WT.no


end Go.Proofs.YtafkdjljkolehaaDoor.G
