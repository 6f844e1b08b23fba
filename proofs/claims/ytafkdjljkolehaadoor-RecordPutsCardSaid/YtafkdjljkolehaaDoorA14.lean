/- Go functions: what they come to, and that they do. Printed by a program of the session (gen). -/
import Derived.Test.YtafkdjljkolehaaDoorAF
import Derived.Test.YtafkdjljkolehaaDoorA13
import Derived.Test.YtafkdjljkolehaaDoorKConv
set_option linter.unusedVariables false
set_option linter.unusedSimpArgs false
set_option maxHeartbeats 8000000
set_option maxRecDepth 100000
namespace Go.Proofs.YtafkdjljkolehaaDoor.G
open Go Go.KK

noncomputable def f_law05_RecordChecks (a0 : T_api_Record) (a1 : T_api_Record) (a2 : ByteArray) (a3 : (List Int)) : Option Bool :=
  ((((f_ref05_Short a0).bind fun (r25 : Bool) => (if (!r25) = true then (some true) else ((f_ref05_Short a1).bind fun (r31 : Bool) => (if (!r31) = true then (some true) else (if (decide ((400 : Int) < (a2.size : Int))) = true then (some true) else (some (decide ((100 : Int) < (a3.length : Int))))))))) : Option Bool).bind fun (x23 : Bool) => (if x23 = true then ((f_law05_works).bind fun (r39 : Bool) => (some r39)) else ((((f_record_Check a0).bind fun (r46 : GErr) => ((f_ref05_Check a0).bind fun (r51 : T_ref05_Wrong) => ((f_law05_wrong r46 r51).bind fun (r56 : Bool) => (if r56 = true then ((f_record_Name a2).bind fun (r62 : Bool) => ((f_ref05_Name a2).bind fun (r67 : Bool) => (if (r62 == r67) = true then ((f_record_Brokers a3).bind fun (r73 : Bool) => ((f_ref05_Brokers a3).bind fun (r78 : Bool) => (if (r73 == r78) = true then ((f_record_Same a0 a1).bind fun (r84 : Bool) => ((f_ref05_Same a0 a1).bind fun (r89 : Bool) => (if (r84 == r89) = true then ((f_law05_works).bind fun (r95 : Bool) => (some r95)) else (some false)))) else (some false)))) else (some false)))) else (some false))))) : Option Bool).bind fun (x44 : Bool) => (some x44))))
def f_law05_RecordChecks_post (a0 : T_api_Record) (a1 : T_api_Record) (a2 : ByteArray) (a3 : (List Int)) (v0_14 v0_15 v0_16 v0_17 v1_14 v1_15 v1_16 v1_17 v3 : Value) : Bool → Value → IM → HL → Prop :=
  fun (r0 : Bool) (v : Value) (M' : IM) (H' : HL) => (.bool r0) = v ∧ H' = []
theorem f_law05_RecordChecks_ok (a0 : T_api_Record) (a1 : T_api_Record) (a2 : ByteArray) (a3 : (List Int)) (M : IM) (v0_14 v0_15 v0_16 v0_17 v1_14 v1_15 v1_16 v1_17 v3 : Value) (h0_14 : RS (Kd.int .i64) M v0_14 a0.Ids) (h0_15 : RS (Kd.int .i64) M v0_15 a0.Isr) (h0_16 : RS (Kd.int .i64) M v0_16 a0.Add) (h0_17 : RS (Kd.int .i64) M v0_17 a0.Drop) (h1_14 : RS (Kd.int .i64) M v1_14 a1.Ids) (h1_15 : RS (Kd.int .i64) M v1_15 a1.Isr) (h1_16 : RS (Kd.int .i64) M v1_16 a1.Add) (h1_17 : RS (Kd.int .i64) M v1_17 a1.Drop) (h3 : RS (Kd.int .i64) M v3 a3) (hE : Env M) (res : Bool) (h : f_law05_RecordChecks a0 a1 a2 a3 = some res) :
    Tri Tryd.prog 5 #[(a24_ a0 v0_14 v0_15 v0_16 v0_17), (a24_ a1 v1_14 v1_15 v1_16 v1_17), (.string a2), v3] M [] (f_law05_RecordChecks_post a0 a1 a2 a3 v0_14 v0_15 v0_16 v0_17 v1_14 v1_15 v1_16 v1_17 v3 res) := by
 unfold f_law05_RecordChecks at h
 refine Tri.enter (fn := Tryd.f5) Tryd.func5 rfl (Nat.le_of_ble_eq_true rfl) ?_
 intro F ρ hρ
 refine Sr ?_
 refine WL.eff (EO.box (cs := (l24 a0 v0_14 v0_15 v0_16 v0_17).toArray) (congrArg Value.cells (asE (a24_ a0 v0_14 v0_15 v0_16 v0_17) (hρ 0)))) rfl ?_
 rintro _ _ _ - ⟨rfl, g21, rfl, rfl⟩
 refine WL.eff (EO.box (cs := (l24 a1 v1_14 v1_15 v1_16 v1_17).toArray) (congrArg Value.cells (asE (a24_ a1 v1_14 v1_15 v1_16 v1_17) (hρ 1)))) rfl ?_
 rintro _ _ _ - ⟨rfl, g22, rfl, rfl⟩
 refine Pa (.bool false) rfl rfl ?_
 refine Nt ?_
 refine WC.seq ?_
 obtain ⟨x23, hj24, h⟩ := bnd h
 refine WC.joinF (fun (x23 : Bool) ρ' M' H' => M.le M' ∧ [(g22, .cells (l24 a1 v1_14 v1_15 v1_16 v1_17).toArray 24 (0, 0))] :: [(g21, .cells (l24 a0 v0_14 v0_15 v0_16 v0_17).toArray 24 (0, 0))] :: F = H' ∧ ρ' 2 = (.string a2) ∧ ρ' 3 = v3 ∧ ρ' 4 = (pt g21 0) ∧ ρ' 5 = (pt g22 0) ∧ ρ' 26 = (.bool x23)) x23 ?_ ?_
 have h324 := h
 have h := hj24
 refine WC.region ?_
 refine Pu (a24_ a0 v0_14 v0_15 v0_16 v0_17) (PO.loadBA (cs := (l24 a0 v0_14 v0_15 v0_16 v0_17)) 1 ag24 sz24 rfl rfl rfl) rfl ?_
 obtain ⟨r25, hr26, h⟩ := bnd h
 refine WL.eff (EO.call0 co7 (f_ref05_Short_ok a0 _ _ _ _ _ h0_14 h0_15 h0_16 h0_17 r25 hr26) (args1 rfl)) rfl ?_
 rintro _ M27 _ hle28 ⟨_, ⟨rfl, rfl⟩, rfl⟩
 have h3 := h3.mono hle28
 have h0_14 := h0_14.mono hle28
 have h0_15 := h0_15.mono hle28
 have h0_16 := h0_16.mono hle28
 have h0_17 := h0_17.mono hle28
 have h1_14 := h1_14.mono hle28
 have h1_15 := h1_15.mono hle28
 have h1_16 := h1_16.mono hle28
 have h1_17 := h1_17.mono hle28
 have hE := hE.mono hle28
 refine WL.a0 ?_
 refine Pu (.bool (!r25)) (PO.not rfl) rfl ?_
 refine Pm (.bool (!r25)) rfl rfl ?_
 rcases Bool.eq_false_or_eq_true (!r25) with hb30 | hb30
 have h := ite_t hb30 h
 iterate 3 refine Of 12 rfl rfl hb30 rfl ?_
 refine Pu (.bool true) (PO.pickT rfl hb30 rfl) rfl ?_
 refine Pm (.bool true) rfl rfl ?_
 iterate 3 refine Of 17 rfl rfl rfl rfl ?_
 refine Pu (.bool true) (PO.pickT rfl rfl rfl) rfl ?_
 refine Pm (.bool true) rfl rfl ?_
 iterate 3 refine Of 22 rfl rfl rfl rfl ?_
 refine Pu (.bool true) (PO.pickT rfl rfl rfl) rfl ?_
 refine WL.nil ?_
 obtain rfl := Option.some.inj h
 refine WQ.thenJ ?_
 exact ⟨hle28, rfl, (hρ 2), (hρ 3), rfl, rfl, rfl⟩
 have h := ite_f hb30 h
 refine On 12 rfl rfl hb30 ?_
 refine Pu (a24_ a1 v1_14 v1_15 v1_16 v1_17) (PO.loadBA (cs := (l24 a1 v1_14 v1_15 v1_16 v1_17)) 0 ag24 sz24 rfl rfl rfl) rfl ?_
 refine On 12 rfl rfl hb30 ?_
 obtain ⟨r31, hr32, h⟩ := bnd h
 refine WL.eff (EO.call0 co7 (f_ref05_Short_ok a1 _ _ _ _ _ h1_14 h1_15 h1_16 h1_17 r31 hr32) (args1 rfl)) rfl ?_
 rintro _ M33 _ hle34 ⟨_, ⟨rfl, rfl⟩, rfl⟩
 have h3 := h3.mono hle34
 have h0_14 := h0_14.mono hle34
 have h0_15 := h0_15.mono hle34
 have h0_16 := h0_16.mono hle34
 have h0_17 := h0_17.mono hle34
 have h1_14 := h1_14.mono hle34
 have h1_15 := h1_15.mono hle34
 have h1_16 := h1_16.mono hle34
 have h1_17 := h1_17.mono hle34
 have hE := hE.mono hle34
 refine WL.a0 ?_
 refine On 12 rfl rfl hb30 ?_
 refine Pu (.bool (!r31)) (PO.not rfl) rfl ?_
 refine Pu (.bool (!r31)) (PO.pickF rfl hb30 rfl) rfl ?_
 refine Pm (.bool (!r31)) rfl rfl ?_
 rcases Bool.eq_false_or_eq_true (!r31) with hb36 | hb36
 have h := ite_t hb36 h
 iterate 3 refine Of 17 rfl rfl hb36 rfl ?_
 refine Pu (.bool true) (PO.pickT rfl hb36 rfl) rfl ?_
 refine Pm (.bool true) rfl rfl ?_
 iterate 3 refine Of 22 rfl rfl rfl rfl ?_
 refine Pu (.bool true) (PO.pickT rfl rfl rfl) rfl ?_
 refine WL.nil ?_
 obtain rfl := Option.some.inj h
 refine WQ.thenJ ?_
 exact ⟨(hle28.trans hle34), rfl, (hρ 2), (hρ 3), rfl, rfl, rfl⟩
 have h := ite_f hb36 h
 refine On 17 rfl rfl hb36 ?_
 refine Pm (.string a2) (hρ 2) rfl ?_
 refine On 17 rfl rfl hb36 ?_
 refine Pu (.int .i64 (a2.size : Int)) (PO.lenStr Tryd.underlying9 rfl) rfl ?_
 refine On 17 rfl rfl hb36 ?_
 refine Pu (.bool (decide ((400 : Int) < (a2.size : Int)))) (PO.gtr rfl rfl) rfl ?_
 refine Pu (.bool (decide ((400 : Int) < (a2.size : Int)))) (PO.pickF rfl hb36 rfl) rfl ?_
 refine Pm (.bool (decide ((400 : Int) < (a2.size : Int)))) rfl rfl ?_
 rcases Bool.eq_false_or_eq_true (decide ((400 : Int) < (a2.size : Int))) with hb37 | hb37
 have h := ite_t hb37 h
 iterate 3 refine Of 22 rfl rfl hb37 rfl ?_
 refine Pu (.bool true) (PO.pickT rfl hb37 rfl) rfl ?_
 refine WL.nil ?_
 obtain rfl := Option.some.inj h
 refine WQ.thenJ ?_
 exact ⟨(hle28.trans hle34), rfl, (hρ 2), (hρ 3), rfl, rfl, rfl⟩
 have h := ite_f hb37 h
 refine On 22 rfl rfl hb37 ?_
 refine Pm v3 (hρ 3) rfl ?_
 refine On 22 rfl rfl hb37 ?_
 refine Pu (.int .i64 (a3.length : Int)) (PO.lenS Tryd.underlying22 rfl h3.len) rfl ?_
 refine On 22 rfl rfl hb37 ?_
 refine Pu (.bool (decide ((100 : Int) < (a3.length : Int)))) (PO.gtr rfl rfl) rfl ?_
 refine Pu (.bool (decide ((100 : Int) < (a3.length : Int)))) (PO.pickF rfl hb37 rfl) rfl ?_
 refine WL.nil ?_
 obtain rfl := Option.some.inj h
 refine WQ.thenJ ?_
 exact ⟨(hle28.trans hle34), rfl, (hρ 2), (hρ 3), rfl, rfl, rfl⟩
 rintro ρ24 M24 H24 ⟨hle24, rfl, hs24_2, hs24_3, hs24_4, hs24_5, hs24_26⟩
 have h3 := h3.mono hle24
 have h1_14 := h1_14.mono hle24
 have h1_15 := h1_15.mono hle24
 have h1_16 := h1_16.mono hle24
 have h1_17 := h1_17.mono hle24
 have h0_14 := h0_14.mono hle24
 have h0_15 := h0_15.mono hle24
 have h0_16 := h0_16.mono hle24
 have h0_17 := h0_17.mono hle24
 have hE := hE.mono hle24
 refine WC.cond (b := x23) hs24_26 (fun hb38 => ?_) (fun hb38 => ?_)
 have h := ite_t hb38 h
 refine Sr ?_
 obtain ⟨r39, hr40, h⟩ := bnd h
 refine WL.eff (EO.call0 co8 (f_law05_works_ok _ hE r39 hr40) (args0)) rfl ?_
 rintro _ M41 _ hle42 ⟨_, ⟨rfl, rfl⟩, rfl⟩
 have h3 := h3.mono hle42
 have h1_14 := h1_14.mono hle42
 have h1_15 := h1_15.mono hle42
 have h1_16 := h1_16.mono hle42
 have h1_17 := h1_17.mono hle42
 have h0_14 := h0_14.mono hle42
 have h0_15 := h0_15.mono hle42
 have h0_16 := h0_16.mono hle42
 have h0_17 := h0_17.mono hle42
 have hE := hE.mono hle42
 refine WL.a0 ?_
 refine Pa (.bool r39) rfl rfl ?_
 refine Nt ?_
 refine WC.ret ?_
 refine WQ.thenR ?_
 refine WQ.drop ?_
 refine WQ.drop ?_
 exact WQ.returnsF h [] rfl (results1 rfl rfl) (hle24.trans hle42) ⟨rfl, rfl⟩
 have h := ite_f hb38 h
 refine WC.skip ?_
 refine WQ.thenC ?_
 obtain ⟨x44, hj45, h⟩ := bnd h
 refine WC.joinF (fun (x44 : Bool) ρ' M' H' => M24.le M' ∧ [(g22, .cells (l24 a1 v1_14 v1_15 v1_16 v1_17).toArray 24 (0, 0))] :: [(g21, .cells (l24 a0 v0_14 v0_15 v0_16 v0_17).toArray 24 (0, 0))] :: F = H' ∧ ρ' 8 = (.bool x44)) x44 ?_ ?_
 have h345 := h
 have h := hj45
 refine WC.draw [0, 1, 0, 7, 15, 31, 63, 127, 63, 511, 1023, 2047, 4095, 8191, 16383, 8191, 65535, 131071, 262143, 524287, 1048575, 1048575, 4194303, 1048575, 1048575, 33554431, 67108863, 134217727, 268435455, 536870911, 1073741823, 2147483647] (.pure 0 (.pure 2 (.alt 1 (.alt 3 (.alt 4 (.pure 5 (.pure 6 (.pure 8 (.alt 7 (.alt 9 (.pure 10 (.pure 11 (.pure 12 (.pure 13 (.pure 15 (.alt 14 (.alt 16 (.pure 17 (.pure 18 (.pure 19 (.pure 20 (.pure 21 (.pure 23 (.pure 24 (.alt 22 (.alt 25 (.pure 26 (.pure 27 (.pure 28 (.alt 29 (.pure 30 (.pure 31 .done)) .none)))) .none) .none)))))))) .none) .none)))))) .none) .none)))) .none) .none) .none))) mixed (by kernel_rfl) ?_
 refine Tp (a24_ a0 v0_14 v0_15 v0_16 v0_17) rfl (PO.loadBA (cs := (l24 a0 v0_14 v0_15 v0_16 v0_17)) 1 ag24 sz24 hs24_4 rfl rfl) rfl ?_
 refine Tp (a24_ a0 v0_14 v0_15 v0_16 v0_17) rfl (PO.loadBA (cs := (l24 a0 v0_14 v0_15 v0_16 v0_17)) 1 ag24 sz24 hs24_4 rfl rfl) rfl ?_
 obtain ⟨r46, hr47, h⟩ := bnd h
 refine WT.alt rfl (EO.call0 co19 (f_record_Check_ok a0 _ _ _ _ _ h0_14 h0_15 h0_16 h0_17 r46 hr47) (args1 rfl)) rfl ?_ ?_
 rintro _ M48 _ hle49 ⟨_, ⟨rfl, rfl⟩, rfl⟩
 have h3 := h3.mono hle49
 have h0_14 := h0_14.mono hle49
 have h0_15 := h0_15.mono hle49
 have h0_16 := h0_16.mono hle49
 have h0_17 := h0_17.mono hle49
 have h1_14 := h1_14.mono hle49
 have h1_15 := h1_15.mono hle49
 have h1_16 := h1_16.mono hle49
 have h1_17 := h1_17.mono hle49
 have hE := hE.mono hle49
 refine ⟨(StabL.st (StabA.of rfl (PO.loadBA (cs := (l24 a0 v0_14 v0_15 v0_16 v0_17)) 1 ag24 sz24 hs24_4 rfl rfl) rfl) (StabL.anc rfl trivial)), ?_⟩
 refine WT.a0 ?_
 obtain ⟨r51, hr52, h⟩ := bnd h
 refine WT.alt rfl (EO.call0 co20 (f_ref05_Check_ok a0 _ _ _ _ _ h0_14 h0_15 h0_16 h0_17 r51 hr52) (args1 rfl)) rfl ?_ ?_
 rintro _ M53 _ hle54 ⟨_, ⟨rfl, rfl⟩, rfl⟩
 have h3 := h3.mono hle54
 have h0_14 := h0_14.mono hle54
 have h0_15 := h0_15.mono hle54
 have h0_16 := h0_16.mono hle54
 have h0_17 := h0_17.mono hle54
 have h1_14 := h1_14.mono hle54
 have h1_15 := h1_15.mono hle54
 have h1_16 := h1_16.mono hle54
 have h1_17 := h1_17.mono hle54
 have hE := hE.mono hle54
 refine ⟨(StabL.anc rfl (StabL.anc rfl trivial)), ?_⟩
 refine WT.a0 ?_
 obtain ⟨r56, hr57, h⟩ := bnd h
 refine WT.alt rfl (EO.call0 co18 (f_law05_wrong_ok r46 r51 _ hE r56 hr57) (args2 rfl rfl)) rfl ?_ ?_
 rintro _ M58 _ hle59 ⟨_, ⟨rfl, rfl⟩, rfl⟩
 have h3 := h3.mono hle59
 have h0_14 := h0_14.mono hle59
 have h0_15 := h0_15.mono hle59
 have h0_16 := h0_16.mono hle59
 have h0_17 := h0_17.mono hle59
 have h1_14 := h1_14.mono hle59
 have h1_15 := h1_15.mono hle59
 have h1_16 := h1_16.mono hle59
 have h1_17 := h1_17.mono hle59
 have hE := hE.mono hle59
 refine ⟨(StabL.anc rfl (StabL.anc rfl trivial)), ?_⟩
 refine WT.a0 ?_
 refine Tp (.bool r56) rfl (PO.move rfl) rfl ?_
 rcases Bool.eq_false_or_eq_true (r56) with hb61 | hb61
 have h := ite_t hb61 h
 refine Tn (.string a2) 33 rfl rfl rfl hb61 (PO.move hs24_2) rfl ?_
 refine Tn (.string a2) 33 rfl rfl rfl hb61 (PO.move hs24_2) rfl ?_
 obtain ⟨r62, hr63, h⟩ := bnd h
 refine WT.altOn 33 rfl rfl rfl hb61 (EO.call0 co21 (f_record_Name_ok a2 _ r62 hr63) (args1 rfl)) rfl ?_ ?_
 rintro _ M64 _ hle65 ⟨_, ⟨rfl, rfl⟩, rfl⟩
 have h3 := h3.mono hle65
 have h0_14 := h0_14.mono hle65
 have h0_15 := h0_15.mono hle65
 have h0_16 := h0_16.mono hle65
 have h0_17 := h0_17.mono hle65
 have h1_14 := h1_14.mono hle65
 have h1_15 := h1_15.mono hle65
 have h1_16 := h1_16.mono hle65
 have h1_17 := h1_17.mono hle65
 have hE := hE.mono hle65
 refine ⟨(StabL.st (StabA.on 33 rfl rfl rfl hb61 (PO.move hs24_2) rfl) (StabL.anc rfl (StabL.anc rfl (StabL.anc rfl (StabL.anc rfl trivial))))), ?_⟩
 refine WT.a0 ?_
 obtain ⟨r67, hr68, h⟩ := bnd h
 refine WT.altOn 33 rfl rfl rfl hb61 (EO.call0 co22 (f_ref05_Name_ok a2 _ r67 hr68) (args1 rfl)) rfl ?_ ?_
 rintro _ M69 _ hle70 ⟨_, ⟨rfl, rfl⟩, rfl⟩
 have h3 := h3.mono hle70
 have h0_14 := h0_14.mono hle70
 have h0_15 := h0_15.mono hle70
 have h0_16 := h0_16.mono hle70
 have h0_17 := h0_17.mono hle70
 have h1_14 := h1_14.mono hle70
 have h1_15 := h1_15.mono hle70
 have h1_16 := h1_16.mono hle70
 have h1_17 := h1_17.mono hle70
 have hE := hE.mono hle70
 refine ⟨(StabL.anc rfl (StabL.anc rfl (StabL.anc rfl (StabL.anc rfl (StabL.anc rfl trivial))))), ?_⟩
 refine WT.a0 ?_
 refine Tn (.bool (r62 == r67)) 33 rfl rfl rfl hb61 (PO.beql Tryd.underlying4 rfl rfl) rfl ?_
 refine Tp (.bool (r62 == r67)) rfl (PO.pickT rfl hb61 rfl) rfl ?_
 refine Tp (.bool (r62 == r67)) rfl (PO.move rfl) rfl ?_
 rcases Bool.eq_false_or_eq_true (r62 == r67) with hb72 | hb72
 have h := ite_t hb72 h
 refine Tn v3 40 rfl rfl rfl hb72 (PO.move hs24_3) rfl ?_
 refine Tn v3 40 rfl rfl rfl hb72 (PO.move hs24_3) rfl ?_
 obtain ⟨r73, hr74, h⟩ := bnd h
 refine WT.altOn 40 rfl rfl rfl hb72 (EO.call0 co23 (f_record_Brokers_ok a3 _ _ h3 r73 hr74) (args1 rfl)) rfl ?_ ?_
 rintro _ M75 _ hle76 ⟨_, ⟨rfl, rfl⟩, rfl⟩
 have h3 := h3.mono hle76
 have h0_14 := h0_14.mono hle76
 have h0_15 := h0_15.mono hle76
 have h0_16 := h0_16.mono hle76
 have h0_17 := h0_17.mono hle76
 have h1_14 := h1_14.mono hle76
 have h1_15 := h1_15.mono hle76
 have h1_16 := h1_16.mono hle76
 have h1_17 := h1_17.mono hle76
 have hE := hE.mono hle76
 refine ⟨(StabL.st (StabA.on 40 rfl rfl rfl hb72 (PO.move hs24_3) rfl) (StabL.anc rfl (StabL.anc rfl (StabL.anc rfl (StabL.anc rfl (StabL.anc rfl (StabL.anc rfl (StabL.anc rfl (StabL.anc rfl (StabL.anc rfl trivial)))))))))), ?_⟩
 refine WT.a0 ?_
 obtain ⟨r78, hr79, h⟩ := bnd h
 refine WT.altOn 40 rfl rfl rfl hb72 (EO.call0 co24 (f_ref05_Brokers_ok a3 _ _ h3 r78 hr79) (args1 rfl)) rfl ?_ ?_
 rintro _ M80 _ hle81 ⟨_, ⟨rfl, rfl⟩, rfl⟩
 have h3 := h3.mono hle81
 have h0_14 := h0_14.mono hle81
 have h0_15 := h0_15.mono hle81
 have h0_16 := h0_16.mono hle81
 have h0_17 := h0_17.mono hle81
 have h1_14 := h1_14.mono hle81
 have h1_15 := h1_15.mono hle81
 have h1_16 := h1_16.mono hle81
 have h1_17 := h1_17.mono hle81
 have hE := hE.mono hle81
 refine ⟨(StabL.anc rfl (StabL.anc rfl (StabL.anc rfl (StabL.anc rfl (StabL.anc rfl (StabL.anc rfl (StabL.anc rfl (StabL.anc rfl (StabL.anc rfl (StabL.anc rfl trivial)))))))))), ?_⟩
 refine WT.a0 ?_
 refine Tn (.bool (r73 == r78)) 40 rfl rfl rfl hb72 (PO.beql Tryd.underlying4 rfl rfl) rfl ?_
 refine Tp (.bool (r73 == r78)) rfl (PO.pickT rfl hb72 rfl) rfl ?_
 refine Tp (.bool (r73 == r78)) rfl (PO.move rfl) rfl ?_
 rcases Bool.eq_false_or_eq_true (r73 == r78) with hb83 | hb83
 have h := ite_t hb83 h
 refine Tn (a24_ a0 v0_14 v0_15 v0_16 v0_17) 47 rfl rfl rfl hb83 (PO.loadBA (cs := (l24 a0 v0_14 v0_15 v0_16 v0_17)) 1 ag24 sz24 hs24_4 rfl rfl) rfl ?_
 refine Tn (a24_ a1 v1_14 v1_15 v1_16 v1_17) 47 rfl rfl rfl hb83 (PO.loadBA (cs := (l24 a1 v1_14 v1_15 v1_16 v1_17)) 0 ag24 sz24 hs24_5 rfl rfl) rfl ?_
 refine Tn (a24_ a0 v0_14 v0_15 v0_16 v0_17) 47 rfl rfl rfl hb83 (PO.loadBA (cs := (l24 a0 v0_14 v0_15 v0_16 v0_17)) 1 ag24 sz24 hs24_4 rfl rfl) rfl ?_
 refine Tn (a24_ a1 v1_14 v1_15 v1_16 v1_17) 47 rfl rfl rfl hb83 (PO.loadBA (cs := (l24 a1 v1_14 v1_15 v1_16 v1_17)) 0 ag24 sz24 hs24_5 rfl rfl) rfl ?_
 obtain ⟨r84, hr85, h⟩ := bnd h
 refine WT.altOn 47 rfl rfl rfl hb83 (EO.call0 co25 (f_record_Same_ok a0 a1 _ _ _ _ _ _ _ _ _ h0_14 h0_15 h0_16 h0_17 h1_14 h1_15 h1_16 h1_17 r84 hr85) (args2 rfl rfl)) rfl ?_ ?_
 rintro _ M86 _ hle87 ⟨_, ⟨rfl, rfl⟩, rfl⟩
 have h3 := h3.mono hle87
 have h0_14 := h0_14.mono hle87
 have h0_15 := h0_15.mono hle87
 have h0_16 := h0_16.mono hle87
 have h0_17 := h0_17.mono hle87
 have h1_14 := h1_14.mono hle87
 have h1_15 := h1_15.mono hle87
 have h1_16 := h1_16.mono hle87
 have h1_17 := h1_17.mono hle87
 have hE := hE.mono hle87
 refine ⟨(StabL.st (StabA.on 47 rfl rfl rfl hb83 (PO.loadBA (cs := (l24 a1 v1_14 v1_15 v1_16 v1_17)) 0 ag24 sz24 hs24_5 rfl rfl) rfl) (StabL.st (StabA.on 47 rfl rfl rfl hb83 (PO.loadBA (cs := (l24 a0 v0_14 v0_15 v0_16 v0_17)) 1 ag24 sz24 hs24_4 rfl rfl) rfl) (StabL.anc rfl (StabL.anc rfl (StabL.anc rfl (StabL.anc rfl (StabL.anc rfl (StabL.anc rfl (StabL.anc rfl (StabL.anc rfl (StabL.anc rfl (StabL.anc rfl (StabL.anc rfl (StabL.anc rfl (StabL.anc rfl (StabL.anc rfl (StabL.anc rfl trivial))))))))))))))))), ?_⟩
 refine WT.a0 ?_
 obtain ⟨r89, hr90, h⟩ := bnd h
 refine WT.altOn 47 rfl rfl rfl hb83 (EO.call0 co14 (f_ref05_Same_ok a0 a1 _ _ _ _ _ _ _ _ _ h0_14 h0_15 h0_16 h0_17 h1_14 h1_15 h1_16 h1_17 r89 hr90) (args2 rfl rfl)) rfl ?_ ?_
 rintro _ M91 _ hle92 ⟨_, ⟨rfl, rfl⟩, rfl⟩
 have h3 := h3.mono hle92
 have h0_14 := h0_14.mono hle92
 have h0_15 := h0_15.mono hle92
 have h0_16 := h0_16.mono hle92
 have h0_17 := h0_17.mono hle92
 have h1_14 := h1_14.mono hle92
 have h1_15 := h1_15.mono hle92
 have h1_16 := h1_16.mono hle92
 have h1_17 := h1_17.mono hle92
 have hE := hE.mono hle92
 refine ⟨(StabL.anc rfl (StabL.anc rfl (StabL.anc rfl (StabL.anc rfl (StabL.anc rfl (StabL.anc rfl (StabL.anc rfl (StabL.anc rfl (StabL.anc rfl (StabL.anc rfl (StabL.anc rfl (StabL.anc rfl (StabL.anc rfl (StabL.anc rfl (StabL.anc rfl (StabL.anc rfl (StabL.anc rfl trivial))))))))))))))))), ?_⟩
 refine WT.a0 ?_
 refine Tn (.bool (r84 == r89)) 47 rfl rfl rfl hb83 (PO.beql Tryd.underlying4 rfl rfl) rfl ?_
 refine Tp (.bool (r84 == r89)) rfl (PO.pickT rfl hb83 rfl) rfl ?_
 refine Tp (.bool (r84 == r89)) rfl (PO.move rfl) rfl ?_
 rcases Bool.eq_false_or_eq_true (r84 == r89) with hb94 | hb94
 have h := ite_t hb94 h
 obtain ⟨r95, hr96, h⟩ := bnd h
 refine WT.altOn 56 rfl rfl rfl hb94 (EO.call0 co8 (f_law05_works_ok _ hE r95 hr96) (args0)) rfl ?_ ?_
 rintro _ M97 _ hle98 ⟨_, ⟨rfl, rfl⟩, rfl⟩
 have h3 := h3.mono hle98
 have h0_14 := h0_14.mono hle98
 have h0_15 := h0_15.mono hle98
 have h0_16 := h0_16.mono hle98
 have h0_17 := h0_17.mono hle98
 have h1_14 := h1_14.mono hle98
 have h1_15 := h1_15.mono hle98
 have h1_16 := h1_16.mono hle98
 have h1_17 := h1_17.mono hle98
 have hE := hE.mono hle98
 refine ⟨(StabL.anc rfl (StabL.anc rfl (StabL.anc rfl (StabL.anc rfl (StabL.anc rfl (StabL.anc rfl (StabL.anc rfl (StabL.anc rfl (StabL.anc rfl (StabL.anc rfl (StabL.anc rfl (StabL.anc rfl (StabL.anc rfl (StabL.anc rfl (StabL.anc rfl (StabL.anc rfl (StabL.anc rfl (StabL.anc rfl (StabL.anc rfl (StabL.anc rfl trivial)))))))))))))))))))), ?_⟩
 refine WT.a0 ?_
 refine Tp (.bool r95) rfl (PO.pickT rfl hb94 rfl) rfl ?_
 refine Tp (.bool r95) rfl (PO.assign rfl) rfl ?_
 refine WT.fin ?_
 obtain rfl := Option.some.inj h
 refine WQ.thenJ ?_
 exact ⟨(((((((((hle49.trans hle54).trans hle59).trans hle65).trans hle70).trans hle76).trans hle81).trans hle87).trans hle92).trans hle98), rfl, rfl⟩
 exact WT.no
 have h := ite_f hb94 h
 refine WT.altOff 56 rfl rfl rfl hb94 rfl ⟨(StabL.anc rfl (StabL.anc rfl (StabL.anc rfl (StabL.anc rfl (StabL.anc rfl (StabL.anc rfl (StabL.anc rfl (StabL.anc rfl (StabL.anc rfl (StabL.anc rfl (StabL.anc rfl (StabL.anc rfl (StabL.anc rfl (StabL.anc rfl (StabL.anc rfl (StabL.anc rfl (StabL.anc rfl (StabL.anc rfl (StabL.anc rfl (StabL.anc rfl trivial)))))))))))))))))))), ?_⟩ ?_
 refine Tp (.bool false) rfl (PO.pickF rfl hb94 rfl) rfl ?_
 refine Tp (.bool false) rfl (PO.assign rfl) rfl ?_
 refine WT.fin ?_
 obtain rfl := Option.some.inj h
 refine WQ.thenJ ?_
 exact ⟨((((((((hle49.trans hle54).trans hle59).trans hle65).trans hle70).trans hle76).trans hle81).trans hle87).trans hle92), rfl, rfl⟩
 exact WT.no
 exact WT.no
 exact WT.no
 have h := ite_f hb83 h
 refine WT.pureOff 47 rfl rfl rfl hb83 rfl ?_
 refine WT.pureOff 47 rfl rfl rfl hb83 rfl ?_
 refine WT.pureOff 47 rfl rfl rfl hb83 rfl ?_
 refine WT.pureOff 47 rfl rfl rfl hb83 rfl ?_
 refine WT.altOff 47 rfl rfl rfl hb83 rfl ⟨(StabL.st (StabA.off 47 rfl rfl rfl hb83 rfl) (StabL.st (StabA.off 47 rfl rfl rfl hb83 rfl) (StabL.anc rfl (StabL.anc rfl (StabL.anc rfl (StabL.anc rfl (StabL.anc rfl (StabL.anc rfl (StabL.anc rfl (StabL.anc rfl (StabL.anc rfl (StabL.anc rfl (StabL.anc rfl (StabL.anc rfl (StabL.anc rfl (StabL.anc rfl (StabL.anc rfl trivial))))))))))))))))), ?_⟩ ?_
 refine WT.altOff 47 rfl rfl rfl hb83 rfl ⟨(StabL.anc rfl (StabL.anc rfl (StabL.anc rfl (StabL.anc rfl (StabL.anc rfl (StabL.anc rfl (StabL.anc rfl (StabL.anc rfl (StabL.anc rfl (StabL.anc rfl (StabL.anc rfl (StabL.anc rfl (StabL.anc rfl (StabL.anc rfl (StabL.anc rfl (StabL.anc rfl (StabL.anc rfl trivial))))))))))))))))), ?_⟩ ?_
 refine WT.pureOff 47 rfl rfl rfl hb83 rfl ?_
 refine Tp (.bool false) rfl (PO.pickF rfl hb83 rfl) rfl ?_
 refine Tp (.bool false) rfl (PO.move rfl) rfl ?_
 refine WT.altOff 56 rfl rfl rfl rfl rfl ⟨(StabL.anc rfl (StabL.anc rfl (StabL.anc rfl (StabL.anc rfl (StabL.anc rfl (StabL.anc rfl (StabL.anc rfl (StabL.anc rfl (StabL.anc rfl (StabL.anc rfl (StabL.anc rfl (StabL.anc rfl (StabL.anc rfl (StabL.anc rfl (StabL.anc rfl (StabL.anc rfl (StabL.anc rfl (StabL.anc rfl (StabL.anc rfl (StabL.anc rfl trivial)))))))))))))))))))), ?_⟩ ?_
 refine Tp (.bool false) rfl (PO.pickF rfl rfl rfl) rfl ?_
 refine Tp (.bool false) rfl (PO.assign rfl) rfl ?_
 refine WT.fin ?_
 obtain rfl := Option.some.inj h
 refine WQ.thenJ ?_
 exact ⟨((((((hle49.trans hle54).trans hle59).trans hle65).trans hle70).trans hle76).trans hle81), rfl, rfl⟩
 exact WT.no
 exact WT.no
 exact WT.no
 exact WT.no
 exact WT.no
 have h := ite_f hb72 h
 refine WT.pureOff 40 rfl rfl rfl hb72 rfl ?_
 refine WT.pureOff 40 rfl rfl rfl hb72 rfl ?_
 refine WT.altOff 40 rfl rfl rfl hb72 rfl ⟨(StabL.st (StabA.off 40 rfl rfl rfl hb72 rfl) (StabL.anc rfl (StabL.anc rfl (StabL.anc rfl (StabL.anc rfl (StabL.anc rfl (StabL.anc rfl (StabL.anc rfl (StabL.anc rfl (StabL.anc rfl trivial)))))))))), ?_⟩ ?_
 refine WT.altOff 40 rfl rfl rfl hb72 rfl ⟨(StabL.anc rfl (StabL.anc rfl (StabL.anc rfl (StabL.anc rfl (StabL.anc rfl (StabL.anc rfl (StabL.anc rfl (StabL.anc rfl (StabL.anc rfl (StabL.anc rfl trivial)))))))))), ?_⟩ ?_
 refine WT.pureOff 40 rfl rfl rfl hb72 rfl ?_
 refine Tp (.bool false) rfl (PO.pickF rfl hb72 rfl) rfl ?_
 refine Tp (.bool false) rfl (PO.move rfl) rfl ?_
 refine WT.pureOff 47 rfl rfl rfl rfl rfl ?_
 refine WT.pureOff 47 rfl rfl rfl rfl rfl ?_
 refine WT.pureOff 47 rfl rfl rfl rfl rfl ?_
 refine WT.pureOff 47 rfl rfl rfl rfl rfl ?_
 refine WT.altOff 47 rfl rfl rfl rfl rfl ⟨(StabL.st (StabA.off 47 rfl rfl rfl rfl rfl) (StabL.st (StabA.off 47 rfl rfl rfl rfl rfl) (StabL.anc rfl (StabL.anc rfl (StabL.anc rfl (StabL.anc rfl (StabL.anc rfl (StabL.anc rfl (StabL.anc rfl (StabL.anc rfl (StabL.anc rfl (StabL.anc rfl (StabL.anc rfl (StabL.anc rfl (StabL.anc rfl (StabL.anc rfl (StabL.anc rfl trivial))))))))))))))))), ?_⟩ ?_
 refine WT.altOff 47 rfl rfl rfl rfl rfl ⟨(StabL.anc rfl (StabL.anc rfl (StabL.anc rfl (StabL.anc rfl (StabL.anc rfl (StabL.anc rfl (StabL.anc rfl (StabL.anc rfl (StabL.anc rfl (StabL.anc rfl (StabL.anc rfl (StabL.anc rfl (StabL.anc rfl (StabL.anc rfl (StabL.anc rfl (StabL.anc rfl (StabL.anc rfl trivial))))))))))))))))), ?_⟩ ?_
 refine WT.pureOff 47 rfl rfl rfl rfl rfl ?_
 refine Tp (.bool false) rfl (PO.pickF rfl rfl rfl) rfl ?_
 refine Tp (.bool false) rfl (PO.move rfl) rfl ?_
 refine WT.altOff 56 rfl rfl rfl rfl rfl ⟨(StabL.anc rfl (StabL.anc rfl (StabL.anc rfl (StabL.anc rfl (StabL.anc rfl (StabL.anc rfl (StabL.anc rfl (StabL.anc rfl (StabL.anc rfl (StabL.anc rfl (StabL.anc rfl (StabL.anc rfl (StabL.anc rfl (StabL.anc rfl (StabL.anc rfl (StabL.anc rfl (StabL.anc rfl (StabL.anc rfl (StabL.anc rfl (StabL.anc rfl trivial)))))))))))))))))))), ?_⟩ ?_
 refine Tp (.bool false) rfl (PO.pickF rfl rfl rfl) rfl ?_
 refine Tp (.bool false) rfl (PO.assign rfl) rfl ?_
 refine WT.fin ?_
 obtain rfl := Option.some.inj h
 refine WQ.thenJ ?_
 exact ⟨((((hle49.trans hle54).trans hle59).trans hle65).trans hle70), rfl, rfl⟩
 exact WT.no
 exact WT.no
 exact WT.no
 exact WT.no
 exact WT.no
 exact WT.no
 exact WT.no
 have h := ite_f hb61 h
 refine WT.pureOff 33 rfl rfl rfl hb61 rfl ?_
 refine WT.pureOff 33 rfl rfl rfl hb61 rfl ?_
 refine WT.altOff 33 rfl rfl rfl hb61 rfl ⟨(StabL.st (StabA.off 33 rfl rfl rfl hb61 rfl) (StabL.anc rfl (StabL.anc rfl (StabL.anc rfl (StabL.anc rfl trivial))))), ?_⟩ ?_
 refine WT.altOff 33 rfl rfl rfl hb61 rfl ⟨(StabL.anc rfl (StabL.anc rfl (StabL.anc rfl (StabL.anc rfl (StabL.anc rfl trivial))))), ?_⟩ ?_
 refine WT.pureOff 33 rfl rfl rfl hb61 rfl ?_
 refine Tp (.bool false) rfl (PO.pickF rfl hb61 rfl) rfl ?_
 refine Tp (.bool false) rfl (PO.move rfl) rfl ?_
 refine WT.pureOff 40 rfl rfl rfl rfl rfl ?_
 refine WT.pureOff 40 rfl rfl rfl rfl rfl ?_
 refine WT.altOff 40 rfl rfl rfl rfl rfl ⟨(StabL.st (StabA.off 40 rfl rfl rfl rfl rfl) (StabL.anc rfl (StabL.anc rfl (StabL.anc rfl (StabL.anc rfl (StabL.anc rfl (StabL.anc rfl (StabL.anc rfl (StabL.anc rfl (StabL.anc rfl trivial)))))))))), ?_⟩ ?_
 refine WT.altOff 40 rfl rfl rfl rfl rfl ⟨(StabL.anc rfl (StabL.anc rfl (StabL.anc rfl (StabL.anc rfl (StabL.anc rfl (StabL.anc rfl (StabL.anc rfl (StabL.anc rfl (StabL.anc rfl (StabL.anc rfl trivial)))))))))), ?_⟩ ?_
 refine WT.pureOff 40 rfl rfl rfl rfl rfl ?_
 refine Tp (.bool false) rfl (PO.pickF rfl rfl rfl) rfl ?_
 refine Tp (.bool false) rfl (PO.move rfl) rfl ?_
 refine WT.pureOff 47 rfl rfl rfl rfl rfl ?_
 refine WT.pureOff 47 rfl rfl rfl rfl rfl ?_
 refine WT.pureOff 47 rfl rfl rfl rfl rfl ?_
 refine WT.pureOff 47 rfl rfl rfl rfl rfl ?_
 refine WT.altOff 47 rfl rfl rfl rfl rfl ⟨(StabL.st (StabA.off 47 rfl rfl rfl rfl rfl) (StabL.st (StabA.off 47 rfl rfl rfl rfl rfl) (StabL.anc rfl (StabL.anc rfl (StabL.anc rfl (StabL.anc rfl (StabL.anc rfl (StabL.anc rfl (StabL.anc rfl (StabL.anc rfl (StabL.anc rfl (StabL.anc rfl (StabL.anc rfl (StabL.anc rfl (StabL.anc rfl (StabL.anc rfl (StabL.anc rfl trivial))))))))))))))))), ?_⟩ ?_
 refine WT.altOff 47 rfl rfl rfl rfl rfl ⟨(StabL.anc rfl (StabL.anc rfl (StabL.anc rfl (StabL.anc rfl (StabL.anc rfl (StabL.anc rfl (StabL.anc rfl (StabL.anc rfl (StabL.anc rfl (StabL.anc rfl (StabL.anc rfl (StabL.anc rfl (StabL.anc rfl (StabL.anc rfl (StabL.anc rfl (StabL.anc rfl (StabL.anc rfl trivial))))))))))))))))), ?_⟩ ?_
 refine WT.pureOff 47 rfl rfl rfl rfl rfl ?_
 refine Tp (.bool false) rfl (PO.pickF rfl rfl rfl) rfl ?_
 refine Tp (.bool false) rfl (PO.move rfl) rfl ?_
 refine WT.altOff 56 rfl rfl rfl rfl rfl ⟨(StabL.anc rfl (StabL.anc rfl (StabL.anc rfl (StabL.anc rfl (StabL.anc rfl (StabL.anc rfl (StabL.anc rfl (StabL.anc rfl (StabL.anc rfl (StabL.anc rfl (StabL.anc rfl (StabL.anc rfl (StabL.anc rfl (StabL.anc rfl (StabL.anc rfl (StabL.anc rfl (StabL.anc rfl (StabL.anc rfl (StabL.anc rfl (StabL.anc rfl trivial)))))))))))))))))))), ?_⟩ ?_
 refine Tp (.bool false) rfl (PO.pickF rfl rfl rfl) rfl ?_
 refine Tp (.bool false) rfl (PO.assign rfl) rfl ?_
 refine WT.fin ?_
 obtain rfl := Option.some.inj h
 refine WQ.thenJ ?_
 exact ⟨((hle49.trans hle54).trans hle59), rfl, rfl⟩
 exact WT.no
 exact WT.no
 exact WT.no
 exact WT.no
 exact WT.no
 exact WT.no
 exact WT.no
 exact WT.no
 exact WT.no
 exact WT.no
 rintro ρ45 M45 H45 ⟨hle45, rfl, hs45_8⟩
 have h1_14 := h1_14.mono hle45
 have h1_15 := h1_15.mono hle45
 have h1_16 := h1_16.mono hle45
 have h1_17 := h1_17.mono hle45
 have h0_14 := h0_14.mono hle45
 have h0_15 := h0_15.mono hle45
 have h0_16 := h0_16.mono hle45
 have h0_17 := h0_17.mono hle45
 have hE := hE.mono hle45
 refine WC.ret ?_
 refine WQ.drop ?_
 refine WQ.drop ?_
 exact WQ.returnsF h [] rfl (results1 rfl hs45_8) (hle24.trans hle45) ⟨rfl, rfl⟩

noncomputable def f_ref02_size (a0 : Int) : Option Int :=
  (if (decide (a0 < (64 : Int))) = true then (some (1 : Int)) else (if (decide (a0 < (16384 : Int))) = true then (some (2 : Int)) else (if (decide (a0 < (1073741824 : Int))) = true then (some (4 : Int)) else (some (8 : Int)))))
def f_ref02_size_post (a0 : Int) : Int → Value → IM → HL → Prop :=
  fun (r0 : Int) (v : Value) (M' : IM) (H' : HL) => (.int .i64 r0) = v ∧ H' = []
theorem f_ref02_size_ok (a0 : Int) (M : IM) (res : Int) (h : f_ref02_size a0 = some res) :
    Tri Tryd.prog 87 #[(.int .u64 a0)] M [] (f_ref02_size_post a0 res) := by
 unfold f_ref02_size at h
 refine Tri.enter (fn := Tryd.f87) Tryd.func87 rfl (Nat.le_of_ble_eq_true rfl) ?_
 intro F ρ hρ
 refine Sr ?_
 refine Pa (.int .i64 0) rfl rfl ?_
 refine Nt ?_
 refine WC.seq ?_
 refine Sr ?_
 refine Pm (.int .u64 a0) (hρ 0) rfl ?_
 refine Pu (.bool (decide (a0 < 64))) (PO.lss rfl rfl) rfl ?_
 refine Nt ?_
 refine WC.cond (b := decide (a0 < 64)) rfl (fun hb21 => ?_) (fun hb21 => ?_)
 have h := ite_t hb21 h
 refine Sr ?_
 refine Pa (.int .i64 1) rfl rfl ?_
 refine Nt ?_
 refine WC.ret ?_
 refine WQ.thenR ?_
 exact WQ.returnsF h [] rfl (results1 rfl rfl) (IM.le.refl _) ⟨rfl, rfl⟩
 have h := ite_f hb21 h
 refine WC.skip ?_
 refine WQ.thenC ?_
 refine WC.seq ?_
 refine Sr ?_
 refine Pm (.int .u64 a0) (hρ 0) rfl ?_
 refine Pu (.bool (decide (a0 < 16384))) (PO.lss rfl rfl) rfl ?_
 refine Nt ?_
 refine WC.cond (b := decide (a0 < 16384)) rfl (fun hb22 => ?_) (fun hb22 => ?_)
 have h := ite_t hb22 h
 refine Sr ?_
 refine Pa (.int .i64 2) rfl rfl ?_
 refine Nt ?_
 refine WC.ret ?_
 refine WQ.thenR ?_
 exact WQ.returnsF h [] rfl (results1 rfl rfl) (IM.le.refl _) ⟨rfl, rfl⟩
 have h := ite_f hb22 h
 refine WC.skip ?_
 refine WQ.thenC ?_
 refine WC.seq ?_
 refine Sr ?_
 refine Pm (.int .u64 a0) (hρ 0) rfl ?_
 refine Pu (.bool (decide (a0 < 1073741824))) (PO.lss rfl rfl) rfl ?_
 refine Nt ?_
 refine WC.cond (b := decide (a0 < 1073741824)) rfl (fun hb23 => ?_) (fun hb23 => ?_)
 have h := ite_t hb23 h
 refine Sr ?_
 refine Pa (.int .i64 4) rfl rfl ?_
 refine Nt ?_
 refine WC.ret ?_
 refine WQ.thenR ?_
 exact WQ.returnsF h [] rfl (results1 rfl rfl) (IM.le.refl _) ⟨rfl, rfl⟩
 have h := ite_f hb23 h
 refine WC.skip ?_
 refine WQ.thenC ?_
 refine Sr ?_
 refine Pa (.int .i64 8) rfl rfl ?_
 refine Nt ?_
 refine WC.ret ?_
 exact WQ.returnsF h [] rfl (results1 rfl rfl) (IM.le.refl _) ⟨rfl, rfl⟩

noncomputable def f_ref02_Num_l0 (s_ : (Int × (List Int) × Int)) : Option ((Int × (List Int) × Int) ⊕ (List Int)) :=
  match s_ with
  | (x36, x37, x38) =>
    (if (decide ((0 : Int) ≤ x38)) = true then (grd (0 ≤ x38 ∧ x38 < x37.length) (some (Sum.inl (IntKind.u64.wrap (x36.tdiv (256 : Int)), x37.set (x38).toNat (IntKind.u8.wrap (x36.tmod (256 : Int))), IntKind.i64.wrap (x38 - (1 : Int)))))) else (some (Sum.inr x37)))
noncomputable def f_ref02_Num_l1 (r24 : Int) (s_ : (Int × Int)) : Option ((Int × Int) ⊕ Int) :=
  match s_ with
  | (x53, x54) =>
    (if (decide (x54 < r24)) = true then (some (Sum.inl (IntKind.u8.wrap (x53 + (64 : Int)), IntKind.i64.wrap (x54 * (2 : Int))))) else (some (Sum.inr x53)))
noncomputable def f_ref02_Num (a0 : Int) : Option (List Int) :=
  (((if (decide ((4611686018427387903 : Int) < a0)) = true then (some (4611686018427387903 : Int)) else (some a0)) : Option Int).bind fun (x21 : Int) => ((f_ref02_size x21).bind fun (r24 : Int) => (grd (0 ≤ r24 ∧ r24 ≤ 274877906944) ((((iter (f_ref02_Num_l0) (x21, List.replicate (r24).toNat (0 : Int), IntKind.i64.wrap (r24 - (1 : Int)))).bind (fun (x39 : (List Int)) => (some x39))) : Option (List Int)).bind fun (x33 : (List Int)) => ((((iter (f_ref02_Num_l1 r24) ((0 : Int), (1 : Int))).bind (fun (x55 : Int) => (some x55))) : Option Int).bind fun (x50 : Int) => (grd (0 ≤ (0 : Int) ∧ (0 : Int) < x33.length) (grd (0 ≤ (0 : Int) ∧ (0 : Int) < x33.length) (some (x33.set ((0 : Int)).toNat (IntKind.u8.wrap ((rd x33 (0 : Int)) + x50)))))))))))
def f_ref02_Num_post (a0 : Int) : (List Int) → Value → IM → HL → Prop :=
  fun (r0 : (List Int)) (v : Value) (M' : IM) (H' : HL) => ∃ vz0 cz0, vz0 = v ∧ H' = [cz0] ∧ OwnS (Kd.int .u8) M' vz0 r0 cz0
theorem f_ref02_Num_ok (a0 : Int) (M : IM) (res : (List Int)) (h : f_ref02_Num a0 = some res) :
    Tri Tryd.prog 84 #[(.int .u64 a0)] M [] (f_ref02_Num_post a0 res) := by
 unfold f_ref02_Num at h
 refine Tri.enter (fn := Tryd.f84) Tryd.func84 rfl (Nat.le_of_ble_eq_true rfl) ?_
 intro F ρ hρ
 refine Sr ?_
 refine Pa (.slice none 0 0) rfl rfl ?_
 refine Ns ?_
 refine Pm (.int .u64 a0) (hρ 0) rfl ?_
 refine Pa (.int .u64 a0) rfl rfl ?_
 refine Nt ?_
 obtain ⟨x21, hj22, h⟩ := bnd h
 refine WC.joinF (fun (x21 : Int) ρ' M' H' => M.le M' ∧ F = H' ∧ ρ' 3 = (.int .u64 x21)) x21 ?_ ?_
 have h322 := h
 have h := hj22
 refine Sr ?_
 refine Pm (.int .u64 a0) rfl rfl ?_
 refine Pu (.bool (decide ((4611686018427387903 : Int) < a0))) (PO.gtr rfl rfl) rfl ?_
 refine Nt ?_
 refine WC.cond (b := decide ((4611686018427387903 : Int) < a0)) rfl (fun hb23 => ?_) (fun hb23 => ?_)
 have h := ite_t hb23 h
 refine WC.region ?_
 refine Pa (.int .u64 4611686018427387903) rfl rfl ?_
 refine WL.nil ?_
 obtain rfl := Option.some.inj h
 refine WQ.thenJ ?_
 exact ⟨(IM.le.refl _), rfl, rfl⟩
 have h := ite_f hb23 h
 refine WC.skip ?_
 obtain rfl := Option.some.inj h
 refine WQ.thenJ ?_
 exact ⟨(IM.le.refl _), rfl, rfl⟩
 rintro ρ22 M22 H22 ⟨hle22, rfl, hs22_3⟩
 refine Sr ?_
 refine Pm (.int .u64 x21) hs22_3 rfl ?_
 obtain ⟨r24, hr25, h⟩ := bnd h
 refine WL.eff (EO.call0 co87 (f_ref02_size_ok x21 _ r24 hr25) (args1 rfl)) rfl ?_
 rintro _ M26 _ hle27 ⟨_, ⟨rfl, rfl⟩, rfl⟩
 refine WL.a0 ?_
 refine Pa (.int .i64 r24) rfl rfl ?_
 refine Ns ?_
 refine Pm (.int .i64 r24) rfl rfl ?_
 obtain ⟨hg32, h⟩ := grd_i h
 refine WL.eff (EO.makeSlice (dd := (Kd.int .u8)) Tryd.underlying28 in5 rfl rfl rfl rfl rfl hg32.1 (by decide) (makeB rfl hg32.1 hg32.2)) rfl ?_
 rintro v31 _ _ - ⟨rfl, c29, rfl, h30⟩
 refine Pa v31 rfl rfl ?_
 refine Nt ?_
 obtain ⟨x33, hj34, h⟩ := bnd h
 refine WC.joinF (fun (x33 : (List Int)) ρ' M' H' => ∃ vx33 cx33, M26.le M' ∧ cx33 :: F = H' ∧ ρ' 4 = (.int .i64 r24) ∧ ρ' 5 = vx33 ∧ OwnS (Kd.int .u8) M' vx33 x33 cx33) x33 ?_ ?_
 have h334 := h
 have h := hj34
 refine Sr ?_
 refine Pm (.int .i64 r24) rfl rfl ?_
 refine Pu (.int .i64 (IntKind.i64.wrap (r24 - 1))) (PO.sub rfl rfl) rfl ?_
 refine Pa (.int .i64 (IntKind.i64.wrap (r24 - 1))) rfl rfl ?_
 refine Nt ?_
 refine WC.block ?_
 obtain ⟨e35, he35, hK35⟩ := bnd h
 clear h
 refine WC.loop he35 (fun (p_ : (Int × (List Int) × Int)) ρ' M' H' => match p_ with | (x36, x37, x38) => ∃ vx37 cx37, M26.le M' ∧ cx37 :: F = H' ∧ ρ' 3 = (.int .u64 x36) ∧ ρ' 4 = (.int .i64 r24) ∧ ρ' 5 = vx37 ∧ ρ' 6 = (.int .i64 x38) ∧ OwnS (Kd.int .u8) M' vx37 x37 cx37) ?_ ?_
 exact ⟨v31, c29, (IM.le.refl _), rfl, hs22_3, rfl, rfl, rfl, h30⟩
 rintro ⟨x36, x37, x38⟩ o35 ρ35 M35 H35 h ⟨vx37, cx37, hle35, rfl, hs35_3, hs35_4, hs35_5, hs35_6, hx37⟩
 unfold f_ref02_Num_l0 at h
 refine WC.seq ?_
 refine Sr ?_
 refine Pm (.int .i64 x38) hs35_6 rfl ?_
 refine Pu (.bool (decide ((0 : Int) ≤ x38))) (PO.geq rfl rfl) rfl ?_
 refine Nt ?_
 refine WC.cond (b := decide ((0 : Int) ≤ x38)) rfl (fun hb40 => ?_) (fun hb40 => ?_)
 have h := ite_t hb40 h
 refine WC.skip ?_
 refine WQ.thenC ?_
 refine WC.seq ?_
 refine WC.block ?_
 refine Sr ?_
 refine Pm vx37 hs35_5 rfl ?_
 refine Pm (.int .i64 x38) hs35_6 rfl ?_
 refine Pm (.int .u64 x36) hs35_3 rfl ?_
 refine Pu (.int .u64 (x36.tmod (256 : Int))) (PO.rem rfl rfl (by decide)) rfl ?_
 refine Pu (.int .u8 (IntKind.u8.wrap (x36.tmod (256 : Int)))) (PO.conv us93 Tryd.underlying5 rfl) rfl ?_
 obtain ⟨hg41, h⟩ := grd_i h
 obtain ⟨p42, cs43, hat44, hrc45, hhas46⟩ := hx37.at hg41.1 hg41.2
 obtain rfl := hrc45
 refine Pu (.pointer (some p42)) (PO.indexAddr (n := x37.length) Tryd.underlying28 sz5 rfl rfl hg41.1 hg41.2 hat44) rfl ?_
 refine WL.eff (EO.storeOwn (dd := (Kd.int .u8)) (a := (IntKind.u8.wrap (x36.tmod (256 : Int)))) sz5 rfl hat44 rfl hg41.1 hg41.2 rfl hx37 rfl) rfl ?_
 rintro _ _ _ - ⟨rfl, c48, rfl, h49⟩
 refine Nt ?_
 refine WC.region ?_
 refine Pm (.int .u64 x36) hs35_3 rfl ?_
 refine Pu (.int .u64 (IntKind.u64.wrap (x36.tdiv (256 : Int)))) (PO.quo rfl rfl (by decide)) rfl ?_
 refine Pa (.int .u64 (IntKind.u64.wrap (x36.tdiv (256 : Int)))) rfl rfl ?_
 refine WL.nil ?_
 refine WQ.blockN ?_
 refine WQ.thenC ?_
 refine WC.region ?_
 refine Pm (.int .i64 x38) hs35_6 rfl ?_
 refine Pu (.int .i64 (IntKind.i64.wrap (x38 - 1))) (PO.sub rfl rfl) rfl ?_
 refine Pa (.int .i64 (IntKind.i64.wrap (x38 - 1))) rfl rfl ?_
 refine WL.nil ?_
 refine WQ.again (IntKind.u64.wrap (x36.tdiv (256 : Int)), x37.set (x38).toNat (IntKind.u8.wrap (x36.tmod (256 : Int))), IntKind.i64.wrap (x38 - 1)) (Option.some.inj h).symm ?_
 exact ⟨vx37, c48, hle35, rfl, rfl, hs35_4, hs35_5, rfl, h49⟩
 have h := ite_f hb40 h
 refine WC.exit ?_
 refine WQ.thenE ?_
 refine WQ.leaveE x37 (Option.some.inj h).symm (fun heq35 => ?_)
 subst heq35
 have h := hK35
 refine WQ.blockH ?_
 obtain rfl := Option.some.inj h
 refine WQ.thenJ ?_
 exact ⟨vx37, cx37, hle35, rfl, hs35_4, hs35_5, hx37⟩
 rintro ρ34 M34 H34 ⟨vx33, cx33, hle34, rfl, hs34_4, hs34_5, hx33⟩
 refine Sr ?_
 refine Pa (.int .u8 0) rfl rfl ?_
 refine Nt ?_
 obtain ⟨x50, hj51, h⟩ := bnd h
 refine WC.joinF (fun (x50 : Int) ρ' M' H' => M34.le M' ∧ cx33 :: F = H' ∧ ρ' 5 = vx33 ∧ ρ' 7 = (.int .u8 x50)) x50 ?_ ?_
 have h351 := h
 have h := hj51
 refine Sr ?_
 refine Pa (.int .i64 1) rfl rfl ?_
 refine Nt ?_
 refine WC.block ?_
 obtain ⟨e52, he52, hK52⟩ := bnd h
 clear h
 refine WC.loop he52 (fun (p_ : (Int × Int)) ρ' M' H' => match p_ with | (x53, x54) => M34.le M' ∧ cx33 :: F = H' ∧ ρ' 4 = (.int .i64 r24) ∧ ρ' 5 = vx33 ∧ ρ' 7 = (.int .u8 x53) ∧ ρ' 8 = (.int .i64 x54)) ?_ ?_
 exact ⟨(IM.le.refl _), rfl, hs34_4, hs34_5, rfl, rfl⟩
 rintro ⟨x53, x54⟩ o52 ρ52 M52 H52 h ⟨hle52, rfl, hs52_4, hs52_5, hs52_7, hs52_8⟩
 unfold f_ref02_Num_l1 at h
 have hx33 := hx33.mono hle52
 refine WC.seq ?_
 refine Sr ?_
 refine Pm (.int .i64 x54) hs52_8 rfl ?_
 refine Pm (.int .i64 r24) hs52_4 rfl ?_
 refine Pu (.bool (decide (x54 < r24))) (PO.lss rfl rfl) rfl ?_
 refine Nt ?_
 refine WC.cond (b := decide (x54 < r24)) rfl (fun hb56 => ?_) (fun hb56 => ?_)
 have h := ite_t hb56 h
 refine WC.skip ?_
 refine WQ.thenC ?_
 refine WC.seq ?_
 refine WC.block ?_
 refine WC.region ?_
 refine Pm (.int .u8 x53) hs52_7 rfl ?_
 refine Pu (.int .u8 (IntKind.u8.wrap (x53 + 64))) (PO.add rfl rfl) rfl ?_
 refine Pa (.int .u8 (IntKind.u8.wrap (x53 + 64))) rfl rfl ?_
 refine WL.nil ?_
 refine WQ.blockN ?_
 refine WQ.thenC ?_
 refine WC.region ?_
 refine Pm (.int .i64 x54) hs52_8 rfl ?_
 refine Pu (.int .i64 (IntKind.i64.wrap (x54 * (2 : Int)))) (PO.mul rfl rfl) rfl ?_
 refine Pa (.int .i64 (IntKind.i64.wrap (x54 * (2 : Int)))) rfl rfl ?_
 refine WL.nil ?_
 refine WQ.again (IntKind.u8.wrap (x53 + 64), IntKind.i64.wrap (x54 * (2 : Int))) (Option.some.inj h).symm ?_
 exact ⟨hle52, rfl, hs52_4, hs52_5, rfl, rfl⟩
 have h := ite_f hb56 h
 refine WC.exit ?_
 refine WQ.thenE ?_
 refine WQ.leaveE x53 (Option.some.inj h).symm (fun heq52 => ?_)
 subst heq52
 have h := hK52
 refine WQ.blockH ?_
 obtain rfl := Option.some.inj h
 refine WQ.thenJ ?_
 exact ⟨hle52, rfl, hs52_5, hs52_7⟩
 rintro ρ51 M51 H51 ⟨hle51, rfl, hs51_5, hs51_7⟩
 have hx33 := hx33.mono hle51
 refine Sr ?_
 refine Pm vx33 hs51_5 rfl ?_
 refine Pm vx33 hs51_5 rfl ?_
 obtain ⟨hg57, h⟩ := grd_i h
 obtain ⟨p58, cs59, hat60, hrc61, hhas62⟩ := hx33.at hg57.1 hg57.2
 obtain rfl := hrc61
 refine Pu (.pointer (some p58)) (PO.indexAddr (n := x33.length) Tryd.underlying28 sz5 rfl rfl hg57.1 hg57.2 hat60) rfl ?_
 refine Pu (.int .u8 (rd x33 (0 : Int))) (PO.loadC 0 pl5 rfl rfl (chunkHas0 hhas62)) rfl ?_
 refine Pm (.int .u8 x50) hs51_7 rfl ?_
 refine Pu (.int .u8 (IntKind.u8.wrap ((rd x33 (0 : Int)) + x50))) (PO.add rfl rfl) rfl ?_
 obtain ⟨hg64, h⟩ := grd_i h
 obtain ⟨p65, cs66, hat67, hrc68, hhas69⟩ := hx33.at hg64.1 hg64.2
 obtain rfl := hrc68
 refine Pu (.pointer (some p65)) (PO.indexAddr (n := x33.length) Tryd.underlying28 sz5 rfl rfl hg64.1 hg64.2 hat67) rfl ?_
 refine WL.eff (EO.storeOwn (dd := (Kd.int .u8)) (a := (IntKind.u8.wrap ((rd x33 (0 : Int)) + x50))) sz5 rfl hat67 rfl hg64.1 hg64.2 rfl hx33 rfl) rfl ?_
 rintro _ _ _ - ⟨rfl, c71, rfl, h72⟩
 refine Ns ?_
 refine Pm vx33 hs51_5 rfl ?_
 refine Pa vx33 rfl rfl ?_
 refine Nt ?_
 refine WC.ret ?_
 exact WQ.returnsF h [c71] rfl (results1 rfl rfl) (((hle22.trans hle27).trans hle34).trans hle51) ⟨vx33, c71, rfl, rfl, h72⟩

noncomputable def f_ref02_Int (a0 : Int) : Option (List Int) :=
  (if (decide (a0 < (0 : Int))) = true then (some [(0 : Int)]) else ((f_ref02_Num (IntKind.u64.wrap a0)).bind fun (r25 : (List Int)) => (some r25)))
def f_ref02_Int_post (a0 : Int) : (List Int) → Value → IM → HL → Prop :=
  fun (r0 : (List Int)) (v : Value) (M' : IM) (H' : HL) => ∃ vz0 cz0, vz0 = v ∧ H' = [cz0] ∧ OwnS (Kd.int .u8) M' vz0 r0 cz0
theorem f_ref02_Int_ok (a0 : Int) (M : IM) (res : (List Int)) (h : f_ref02_Int a0 = some res) :
    Tri Tryd.prog 76 #[(.int .i64 a0)] M [] (f_ref02_Int_post a0 res) := by
 unfold f_ref02_Int at h
 refine Tri.enter (fn := Tryd.f76) Tryd.func76 rfl (Nat.le_of_ble_eq_true rfl) ?_
 intro F ρ hρ
 refine Sr ?_
 refine Pa (.slice none 0 0) rfl rfl ?_
 refine Nt ?_
 refine WC.seq ?_
 refine Sr ?_
 refine Pm (.int .i64 a0) (hρ 0) rfl ?_
 refine Pu (.bool (decide (a0 < 0))) (PO.lss rfl rfl) rfl ?_
 refine Nt ?_
 refine WC.cond (b := decide (a0 < 0)) rfl (fun hb21 => ?_) (fun hb21 => ?_)
 have h := ite_t hb21 h
 refine Sr ?_
 refine WL.eff (EO.buildSliceL (cl := [(.int .u8 0)]) Tryd.underlying28 iz5 rfl (Parts.cons (congrArg Value.cells (show ev _ _ = (.int .u8 0) from rfl)) Parts.nil) rfl) rfl ?_
 rintro _ _ _ - ⟨rfl, g22, rfl, rfl⟩
 have h24 : OwnS (Kd.int .u8) M (.slice (some ⟨g22, 0, none⟩) 1 1) [(0 : Int)] [(g22, .cells #[(.int .u8 0)] 5 (0, 0))] := OwnS.rows (css := [[(.int .u8 0)]]) (Rows.cons rfl Rows.nil) rfl rfl
 refine Pa (.slice (some ⟨g22, 0, none⟩) 1 1) rfl rfl ?_
 refine Nt ?_
 refine WC.ret ?_
 refine WQ.thenR ?_
 exact WQ.returnsF h [[(g22, .cells #[(.int .u8 0)] 5 (0, 0))]] rfl (results1 rfl rfl) (IM.le.refl _) ⟨(.slice (some ⟨g22, 0, none⟩) 1 1), [(g22, .cells #[(.int .u8 0)] 5 (0, 0))], rfl, rfl, h24⟩
 have h := ite_f hb21 h
 refine WC.skip ?_
 refine WQ.thenC ?_
 refine Sr ?_
 refine Pm (.int .i64 a0) (hρ 0) rfl ?_
 refine Pu (.int .u64 (IntKind.u64.wrap a0)) (PO.conv us3 Tryd.underlying93 rfl) rfl ?_
 obtain ⟨r25, hr26, h⟩ := bnd h
 refine WL.eff (EO.call0 co84 (f_ref02_Num_ok (IntKind.u64.wrap a0) _ r25 hr26) (args1 rfl)) rfl ?_
 rintro _ M27 _ hle28 ⟨_, ⟨vq29, cq29, rfl, rfl, hq29⟩, rfl⟩
 refine WL.a1 ?_
 refine Pa vq29 rfl rfl ?_
 refine Nt ?_
 refine WC.ret ?_
 exact WQ.returnsF h [cq29] rfl (results1 rfl rfl) hle28 ⟨vq29, cq29, rfl, rfl, hq29⟩

noncomputable def f_ref05_int1 (a0 : Int) (a1 : Bool) : Option (List Int) :=
  (if (!a1) = true then (some []) else ((f_ref02_Int a0).bind fun (r23 : (List Int)) => (some r23)))
def f_ref05_int1_post (a0 : Int) (a1 : Bool) : (List Int) → Value → IM → HL → Prop :=
  fun (r0 : (List Int)) (v : Value) (M' : IM) (H' : HL) => ∃ vz0 cz0, vz0 = v ∧ H' = [cz0] ∧ OwnS (Kd.int .u8) M' vz0 r0 cz0
theorem f_ref05_int1_ok (a0 : Int) (a1 : Bool) (M : IM) (res : (List Int)) (h : f_ref05_int1 a0 a1 = some res) :
    Tri Tryd.prog 63 #[(.int .i64 a0), (.bool a1)] M [] (f_ref05_int1_post a0 a1 res) := by
 unfold f_ref05_int1 at h
 refine Tri.enter (fn := Tryd.f63) Tryd.func63 rfl (Nat.le_of_ble_eq_true rfl) ?_
 intro F ρ hρ
 refine Sr ?_
 refine Pa (.slice none 0 0) rfl rfl ?_
 refine Nt ?_
 refine WC.seq ?_
 refine Sr ?_
 refine Pm (.bool a1) (hρ 1) rfl ?_
 refine Pu (.bool (!a1)) (PO.not rfl) rfl ?_
 refine Nt ?_
 refine WC.cond (b := !a1) rfl (fun hb21 => ?_) (fun hb21 => ?_)
 have h := ite_t hb21 h
 refine Sr ?_
 refine Pa (.slice none 0 0) rfl rfl ?_
 refine Nt ?_
 refine WC.ret ?_
 refine WQ.thenR ?_
 refine WQ.e0 ?_
 exact WQ.returnsF h [[]] rfl (results1 rfl rfl) (IM.le.refl _) ⟨(.slice none 0 0), [], rfl, rfl, (OwnS.nil _ _)⟩
 have h := ite_f hb21 h
 refine WC.skip ?_
 refine WQ.thenC ?_
 refine Sr ?_
 refine Pm (.int .i64 a0) (hρ 0) rfl ?_
 obtain ⟨r23, hr24, h⟩ := bnd h
 refine WL.eff (EO.call0 co76 (f_ref02_Int_ok a0 _ r23 hr24) (args1 rfl)) rfl ?_
 rintro _ M25 _ hle26 ⟨_, ⟨vq27, cq27, rfl, rfl, hq27⟩, rfl⟩
 refine WL.a1 ?_
 refine Pa vq27 rfl rfl ?_
 refine Nt ?_
 refine WC.ret ?_
 exact WQ.returnsF h [cq27] rfl (results1 rfl rfl) hle26 ⟨vq27, cq27, rfl, rfl, hq27⟩

noncomputable def f_ref02_Flag (a0 : Bool) : Option (List Int) :=
  (if a0 = true then (some [(1 : Int)]) else (some [(0 : Int)]))
def f_ref02_Flag_post (a0 : Bool) : (List Int) → Value → IM → HL → Prop :=
  fun (r0 : (List Int)) (v : Value) (M' : IM) (H' : HL) => ∃ vz0 cz0, vz0 = v ∧ H' = [cz0] ∧ OwnS (Kd.int .u8) M' vz0 r0 cz0
theorem f_ref02_Flag_ok (a0 : Bool) (M : IM) (res : (List Int)) (h : f_ref02_Flag a0 = some res) :
    Tri Tryd.prog 64 #[(.bool a0)] M [] (f_ref02_Flag_post a0 res) := by
 unfold f_ref02_Flag at h
 refine Tri.enter (fn := Tryd.f64) Tryd.func64 rfl (Nat.le_of_ble_eq_true rfl) ?_
 intro F ρ hρ
 refine Sr ?_
 refine Pa (.slice none 0 0) rfl rfl ?_
 refine Nt ?_
 refine WC.seq ?_
 refine Sr ?_
 refine Pm (.bool a0) (hρ 0) rfl ?_
 refine Nt ?_
 refine WC.cond (b := a0) rfl (fun hb21 => ?_) (fun hb21 => ?_)
 have h := ite_t hb21 h
 refine Sr ?_
 refine WL.eff (EO.buildSliceL (cl := [(.int .u8 1)]) Tryd.underlying28 iz5 rfl (Parts.cons (congrArg Value.cells (show ev _ _ = (.int .u8 1) from rfl)) Parts.nil) rfl) rfl ?_
 rintro _ _ _ - ⟨rfl, g22, rfl, rfl⟩
 have h24 : OwnS (Kd.int .u8) M (.slice (some ⟨g22, 0, none⟩) 1 1) [(1 : Int)] [(g22, .cells #[(.int .u8 1)] 5 (0, 0))] := OwnS.rows (css := [[(.int .u8 1)]]) (Rows.cons rfl Rows.nil) rfl rfl
 refine Pa (.slice (some ⟨g22, 0, none⟩) 1 1) rfl rfl ?_
 refine Nt ?_
 refine WC.ret ?_
 refine WQ.thenR ?_
 exact WQ.returnsF h [[(g22, .cells #[(.int .u8 1)] 5 (0, 0))]] rfl (results1 rfl rfl) (IM.le.refl _) ⟨(.slice (some ⟨g22, 0, none⟩) 1 1), [(g22, .cells #[(.int .u8 1)] 5 (0, 0))], rfl, rfl, h24⟩
 have h := ite_f hb21 h
 refine WC.skip ?_
 refine WQ.thenC ?_
 refine Sr ?_
 refine WL.eff (EO.buildSliceL (cl := [(.int .u8 0)]) Tryd.underlying28 iz5 rfl (Parts.cons (congrArg Value.cells (show ev _ _ = (.int .u8 0) from rfl)) Parts.nil) rfl) rfl ?_
 rintro _ _ _ - ⟨rfl, g25, rfl, rfl⟩
 have h27 : OwnS (Kd.int .u8) M (.slice (some ⟨g25, 0, none⟩) 1 1) [(0 : Int)] [(g25, .cells #[(.int .u8 0)] 5 (0, 0))] := OwnS.rows (css := [[(.int .u8 0)]]) (Rows.cons rfl Rows.nil) rfl rfl
 refine Pa (.slice (some ⟨g25, 0, none⟩) 1 1) rfl rfl ?_
 refine Nt ?_
 refine WC.ret ?_
 exact WQ.returnsF h [[(g25, .cells #[(.int .u8 0)] 5 (0, 0))]] rfl (results1 rfl rfl) (IM.le.refl _) ⟨(.slice (some ⟨g25, 0, none⟩) 1 1), [(g25, .cells #[(.int .u8 0)] 5 (0, 0))], rfl, rfl, h27⟩

noncomputable def f_ref02_Text (a0 : (List Int)) : Option (List Int) :=
  ((f_ref02_Int (a0.length : Int)).bind fun (r21 : (List Int)) => (grd (r21.length + a0.length ≤ 274877906944) (some (r21 ++ a0))))
def f_ref02_Text_post (a0 : (List Int)) (v0 : Value) : (List Int) → Value → IM → HL → Prop :=
  fun (r0 : (List Int)) (v : Value) (M' : IM) (H' : HL) => ∃ vz0 cz0, vz0 = v ∧ H' = [cz0] ∧ OwnS (Kd.int .u8) M' vz0 r0 cz0
theorem f_ref02_Text_ok (a0 : (List Int)) (M : IM) (v0 : Value) (h0 : RS (Kd.int .u8) M v0 a0) (res : (List Int)) (h : f_ref02_Text a0 = some res) :
    Tri Tryd.prog 77 #[v0] M [] (f_ref02_Text_post a0 v0 res) := by
 unfold f_ref02_Text at h
 refine Tri.enter (fn := Tryd.f77) Tryd.func77 rfl (Nat.le_of_ble_eq_true rfl) ?_
 intro F ρ hρ
 refine Sr ?_
 refine Pa (.slice none 0 0) rfl rfl ?_
 refine Ns ?_
 refine Pm v0 (hρ 0) rfl ?_
 refine Pu (.int .i64 (a0.length : Int)) (PO.lenS Tryd.underlying28 rfl h0.len) rfl ?_
 obtain ⟨r21, hr22, h⟩ := bnd h
 refine WL.eff (EO.call0 co76 (f_ref02_Int_ok (a0.length : Int) _ r21 hr22) (args1 rfl)) rfl ?_
 rintro _ M23 _ hle24 ⟨_, ⟨vq25, cq25, rfl, rfl, hq25⟩, rfl⟩
 have h0 := h0.mono hle24
 refine WL.a1 ?_
 refine Pm v0 (hρ 0) rfl ?_
 obtain ⟨hg29, h⟩ := grd_i h
 refine WL.eff (EO.append (dd := (Kd.int .u8)) (xs := r21) (ys := a0) Tryd.underlying28 Tryd.underlying28 in5 rfl (appB (by decide) hg29) (by decide) rfl rfl hq25 (h0.src _)) rfl ?_
 rintro v28 _ _ - ⟨rfl, c26, rfl, h27⟩
 refine Pa v28 rfl rfl ?_
 refine Nt ?_
 refine WC.ret ?_
 exact WQ.returnsF h [c26] rfl (results1 rfl rfl) hle24 ⟨v28, c26, rfl, rfl, h27⟩

noncomputable def f_ref05_text1 (a0 : ByteArray) (a1 : Bool) : Option (List Int) :=
  (if (!a1) = true then (some []) else ((f_ref02_Text (bytesOf a0)).bind fun (r26 : (List Int)) => (some r26)))
def f_ref05_text1_post (a0 : ByteArray) (a1 : Bool) : (List Int) → Value → IM → HL → Prop :=
  fun (r0 : (List Int)) (v : Value) (M' : IM) (H' : HL) => ∃ vz0 cz0, vz0 = v ∧ H' = [cz0] ∧ OwnS (Kd.int .u8) M' vz0 r0 cz0
theorem f_ref05_text1_ok (a0 : ByteArray) (a1 : Bool) (M : IM) (res : (List Int)) (h : f_ref05_text1 a0 a1 = some res) :
    Tri Tryd.prog 65 #[(.string a0), (.bool a1)] M [] (f_ref05_text1_post a0 a1 res) := by
 unfold f_ref05_text1 at h
 refine Tri.enter (fn := Tryd.f65) Tryd.func65 rfl (Nat.le_of_ble_eq_true rfl) ?_
 intro F ρ hρ
 refine Sr ?_
 refine Pa (.slice none 0 0) rfl rfl ?_
 refine Nt ?_
 refine WC.seq ?_
 refine Sr ?_
 refine Pm (.bool a1) (hρ 1) rfl ?_
 refine Pu (.bool (!a1)) (PO.not rfl) rfl ?_
 refine Nt ?_
 refine WC.cond (b := !a1) rfl (fun hb21 => ?_) (fun hb21 => ?_)
 have h := ite_t hb21 h
 refine Sr ?_
 refine Pa (.slice none 0 0) rfl rfl ?_
 refine Nt ?_
 refine WC.ret ?_
 refine WQ.thenR ?_
 refine WQ.e0 ?_
 exact WQ.returnsF h [[]] rfl (results1 rfl rfl) (IM.le.refl _) ⟨(.slice none 0 0), [], rfl, rfl, (OwnS.nil _ _)⟩
 have h := ite_f hb21 h
 refine WC.skip ?_
 refine WQ.thenC ?_
 refine Sr ?_
 refine Pm (.string a0) (hρ 0) rfl ?_
 refine WL.eff (EO.s2b Tryd.underlying9 Tryd.underlying28 Tryd.underlying5 rfl) rfl ?_
 rintro v25 _ _ - ⟨rfl, c23, rfl, h24⟩
 obtain ⟨r26, hr27, h⟩ := bnd h
 refine WL.eff (EO.call1 co77 (Tri.lend fun w0_ H0_ hs0_ => (f_ref02_Text_ok (bytesOf a0) _ _ (h24.rs hs0_) r26 hr27)) (args1 rfl)) rfl ?_
 rintro _ _ _ hle29 ⟨_, ⟨Ml31, Hl32, hll33, rfl, rfl, ⟨vq30, cq30, rfl, rfl, hq30⟩⟩, rfl⟩
 have h24 := h24.mono hle29
 have hq30 : OwnS (Kd.int .u8) (Ml31.minus c23) vq30 r26 cq30 := hq30.any (Kd.int_flat _)
 refine WL.a2 ?_
 refine Pa vq30 rfl rfl ?_
 refine Nt ?_
 refine WC.ret ?_
 refine WQ.drop ?_
 exact WQ.returnsF h [cq30] rfl (results1 rfl rfl) hle29 ⟨vq30, cq30, rfl, rfl, hq30⟩

noncomputable def f_ref02_Row_l0 (a0 : (List Int)) (s_ : ((List Int) × Int)) : Option (((List Int) × Int) ⊕ (List Int)) :=
  match s_ with
  | (x29, x30) =>
    (if (decide (x30 < (a0.length : Int))) = true then (grd (0 ≤ x30 ∧ x30 < a0.length) ((f_ref02_Int (rd a0 x30)).bind fun (r40 : (List Int)) => (grd (x29.length + r40.length ≤ 274877906944) (some (Sum.inl (x29 ++ r40, IntKind.i64.wrap (x30 + (1 : Int)))))))) else (some (Sum.inr x29)))
noncomputable def f_ref02_Row (a0 : (List Int)) : Option (List Int) :=
  ((f_ref02_Int (a0.length : Int)).bind fun (r21 : (List Int)) => ((((iter (f_ref02_Row_l0 a0) (r21, (0 : Int))).bind (fun (x31 : (List Int)) => (some x31))) : Option (List Int)).bind fun (x26 : (List Int)) => (some x26)))
def f_ref02_Row_post (a0 : (List Int)) (v0 : Value) : (List Int) → Value → IM → HL → Prop :=
  fun (r0 : (List Int)) (v : Value) (M' : IM) (H' : HL) => ∃ vz0 cz0, vz0 = v ∧ H' = [cz0] ∧ OwnS (Kd.int .u8) M' vz0 r0 cz0
theorem f_ref02_Row_ok (a0 : (List Int)) (M : IM) (v0 : Value) (h0 : RS (Kd.int .i64) M v0 a0) (res : (List Int)) (h : f_ref02_Row a0 = some res) :
    Tri Tryd.prog 78 #[v0] M [] (f_ref02_Row_post a0 v0 res) := by
 unfold f_ref02_Row at h
 refine Tri.enter (fn := Tryd.f78) Tryd.func78 rfl (Nat.le_of_ble_eq_true rfl) ?_
 intro F ρ hρ
 refine Sr ?_
 refine Pa (.slice none 0 0) rfl rfl ?_
 refine Ns ?_
 refine Pm v0 (hρ 0) rfl ?_
 refine Pu (.int .i64 (a0.length : Int)) (PO.lenS Tryd.underlying22 rfl h0.len) rfl ?_
 obtain ⟨r21, hr22, h⟩ := bnd h
 refine WL.eff (EO.call0 co76 (f_ref02_Int_ok (a0.length : Int) _ r21 hr22) (args1 rfl)) rfl ?_
 rintro _ M23 _ hle24 ⟨_, ⟨vq25, cq25, rfl, rfl, hq25⟩, rfl⟩
 have h0 := h0.mono hle24
 refine WL.a1 ?_
 refine Pa vq25 rfl rfl ?_
 refine Nt ?_
 obtain ⟨x26, hj27, h⟩ := bnd h
 refine WC.joinF (fun (x26 : (List Int)) ρ' M' H' => ∃ vx26 cx26, M23.le M' ∧ cx26 :: F = H' ∧ ρ' 3 = vx26 ∧ OwnS (Kd.int .u8) M' vx26 x26 cx26) x26 ?_ ?_
 have h327 := h
 have h := hj27
 refine Sr ?_
 refine Pa (.int .i64 0) rfl rfl ?_
 refine Nt ?_
 refine WC.block ?_
 obtain ⟨e28, he28, hK28⟩ := bnd h
 clear h
 refine WC.loop he28 (fun (p_ : ((List Int) × Int)) ρ' M' H' => match p_ with | (x29, x30) => ∃ vx29 cx29, M23.le M' ∧ cx29 :: F = H' ∧ ρ' 0 = v0 ∧ ρ' 3 = vx29 ∧ ρ' 4 = (.int .i64 x30) ∧ OwnS (Kd.int .u8) M' vx29 x29 cx29) ?_ ?_
 exact ⟨vq25, cq25, (IM.le.refl _), rfl, (hρ 0), rfl, rfl, hq25⟩
 rintro ⟨x29, x30⟩ o28 ρ28 M28 H28 h ⟨vx29, cx29, hle28, rfl, hs28_0, hs28_3, hs28_4, hx29⟩
 unfold f_ref02_Row_l0 at h
 have h0 := h0.mono hle28
 refine WC.seq ?_
 refine Sr ?_
 refine Pm (.int .i64 x30) hs28_4 rfl ?_
 refine Pm v0 hs28_0 rfl ?_
 refine Pu (.int .i64 (a0.length : Int)) (PO.lenS Tryd.underlying22 rfl h0.len) rfl ?_
 refine Pu (.bool (decide (x30 < (a0.length : Int)))) (PO.lss rfl rfl) rfl ?_
 refine Nt ?_
 refine WC.cond (b := decide (x30 < (a0.length : Int))) rfl (fun hb32 => ?_) (fun hb32 => ?_)
 have h := ite_t hb32 h
 refine WC.skip ?_
 refine WQ.thenC ?_
 refine WC.seq ?_
 refine WC.block ?_
 refine WC.region ?_
 refine Pm vx29 hs28_3 rfl ?_
 refine Pm v0 hs28_0 rfl ?_
 refine Pm (.int .i64 x30) hs28_4 rfl ?_
 obtain ⟨hg33, h⟩ := grd_i h
 obtain ⟨p34, cs35, hat36, hrc37, hhas38⟩ := h0.at hg33.1 hg33.2 (by decide)
 obtain rfl := hrc37
 refine Pu (.pointer (some p34)) (PO.indexAddr (n := a0.length) Tryd.underlying22 sz3 rfl rfl hg33.1 hg33.2 hat36) rfl ?_
 refine Pu (.int .i64 (rd a0 x30)) (PO.loadM pl3 rfl (IM.has0 hhas38)) rfl ?_
 obtain ⟨r40, hr41, h⟩ := bnd h
 refine WL.eff (EO.call0 co76 (f_ref02_Int_ok (rd a0 x30) _ r40 hr41) (args1 rfl)) rfl ?_
 rintro _ M42 _ hle43 ⟨_, ⟨vq44, cq44, rfl, rfl, hq44⟩, rfl⟩
 have h0 := h0.mono hle43
 have hx29 := hx29.mono hle43
 have hhas38 := hhas38.mono hle43
 refine WL.a1 ?_
 obtain ⟨hg48, h⟩ := grd_i h
 refine WL.f1 ?_
 refine WL.eff (EO.append (dd := (Kd.int .u8)) (xs := x29) (ys := r40) Tryd.underlying28 Tryd.underlying28 in5 rfl (appB (by decide) hg48) (by decide) rfl rfl hx29 (hq44.src 1 rfl)) rfl ?_
 rintro v47 _ _ - ⟨rfl, c45, rfl, h46⟩
 refine Pa v47 rfl rfl ?_
 refine WL.nil ?_
 refine WQ.blockN ?_
 refine WQ.thenC ?_
 refine WC.region ?_
 refine Pm (.int .i64 x30) hs28_4 rfl ?_
 refine Pu (.int .i64 (IntKind.i64.wrap (x30 + 1))) (PO.add rfl rfl) rfl ?_
 refine Pa (.int .i64 (IntKind.i64.wrap (x30 + 1))) rfl rfl ?_
 refine WL.nil ?_
 refine WQ.f1 ?_
 refine WQ.drop ?_
 refine WQ.again (x29 ++ r40, IntKind.i64.wrap (x30 + 1)) (Option.some.inj h).symm ?_
 exact ⟨v47, c45, (hle28.trans hle43), rfl, hs28_0, rfl, rfl, h46⟩
 have h := ite_f hb32 h
 refine WC.exit ?_
 refine WQ.thenE ?_
 refine WQ.leaveE x29 (Option.some.inj h).symm (fun heq28 => ?_)
 subst heq28
 have h := hK28
 refine WQ.blockH ?_
 obtain rfl := Option.some.inj h
 refine WQ.thenJ ?_
 exact ⟨vx29, cx29, hle28, rfl, hs28_3, hx29⟩
 rintro ρ27 M27 H27 ⟨vx26, cx26, hle27, rfl, hs27_3, hx26⟩
 refine Sr ?_
 refine Pm vx26 hs27_3 rfl ?_
 refine Pa vx26 rfl rfl ?_
 refine Nt ?_
 refine WC.ret ?_
 exact WQ.returnsF h [cx26] rfl (results1 rfl rfl) (hle24.trans hle27) ⟨vx26, cx26, rfl, rfl, hx26⟩

noncomputable def f_ref05_row1 (a0 : (List Int)) (a1 : Bool) : Option (List Int) :=
  (if (!a1) = true then (some []) else ((f_ref02_Row a0).bind fun (r23 : (List Int)) => (some r23)))
def f_ref05_row1_post (a0 : (List Int)) (a1 : Bool) (v0 : Value) : (List Int) → Value → IM → HL → Prop :=
  fun (r0 : (List Int)) (v : Value) (M' : IM) (H' : HL) => ∃ vz0 cz0, vz0 = v ∧ H' = [cz0] ∧ OwnS (Kd.int .u8) M' vz0 r0 cz0
theorem f_ref05_row1_ok (a0 : (List Int)) (a1 : Bool) (M : IM) (v0 : Value) (h0 : RS (Kd.int .i64) M v0 a0) (res : (List Int)) (h : f_ref05_row1 a0 a1 = some res) :
    Tri Tryd.prog 66 #[v0, (.bool a1)] M [] (f_ref05_row1_post a0 a1 v0 res) := by
 unfold f_ref05_row1 at h
 refine Tri.enter (fn := Tryd.f66) Tryd.func66 rfl (Nat.le_of_ble_eq_true rfl) ?_
 intro F ρ hρ
 refine Sr ?_
 refine Pa (.slice none 0 0) rfl rfl ?_
 refine Nt ?_
 refine WC.seq ?_
 refine Sr ?_
 refine Pm (.bool a1) (hρ 1) rfl ?_
 refine Pu (.bool (!a1)) (PO.not rfl) rfl ?_
 refine Nt ?_
 refine WC.cond (b := !a1) rfl (fun hb21 => ?_) (fun hb21 => ?_)
 have h := ite_t hb21 h
 refine Sr ?_
 refine Pa (.slice none 0 0) rfl rfl ?_
 refine Nt ?_
 refine WC.ret ?_
 refine WQ.thenR ?_
 refine WQ.e0 ?_
 exact WQ.returnsF h [[]] rfl (results1 rfl rfl) (IM.le.refl _) ⟨(.slice none 0 0), [], rfl, rfl, (OwnS.nil _ _)⟩
 have h := ite_f hb21 h
 refine WC.skip ?_
 refine WQ.thenC ?_
 refine Sr ?_
 refine Pm v0 (hρ 0) rfl ?_
 obtain ⟨r23, hr24, h⟩ := bnd h
 refine WL.eff (EO.call0 co78 (f_ref02_Row_ok a0 _ _ h0 r23 hr24) (args1 rfl)) rfl ?_
 rintro _ M25 _ hle26 ⟨_, ⟨vq27, cq27, rfl, rfl, hq27⟩, rfl⟩
 have h0 := h0.mono hle26
 refine WL.a1 ?_
 refine Pa vq27 rfl rfl ?_
 refine Nt ?_
 refine WC.ret ?_
 exact WQ.returnsF h [cq27] rfl (results1 rfl rfl) hle26 ⟨vq27, cq27, rfl, rfl, hq27⟩


end Go.Proofs.YtafkdjljkolehaaDoor.G
