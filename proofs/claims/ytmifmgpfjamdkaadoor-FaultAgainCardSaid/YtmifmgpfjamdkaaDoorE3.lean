/- Go functions: what they come to, and that they do. Printed by a program of the session (gen). -/
import Derived.Test.YtmifmgpfjamdkaaDoorEF
import Derived.Test.YtmifmgpfjamdkaaDoorE2
import Derived.Test.YtmifmgpfjamdkaaDoorKAny
set_option linter.unusedVariables false
set_option linter.unusedSimpArgs false
namespace Go.Proofs.YtmifmgpfjamdkaaDoor.G
open Go Go.KK

noncomputable def f_law01_FaultWraps (a0 : T_ref01_Chain) (a1 : ByteArray) (a2 : Int) : Option Bool :=
  ((f_law01_light a0).bind fun (r22 : Bool) => (if (!r22) = true then ((f_law01_works).bind fun (r28 : Bool) => (some r28)) else ((f_law01_made a0).bind fun (r33 : GErr) => (anyE r33 fun (e38 : GErr) => ((f_fault_Wrap a1 a2 e38).bind fun (r40 : GErr) => (if e38.isNil = true then (((if r40.isNil = true then ((f_law01_works).bind fun (r49 : Bool) => (some r49)) else (some false)) : Option Bool).bind fun (x46 : Bool) => (some x46)) else ((f_fault_Where r40).bind fun (r54, r55) => ((f_fault_Path r40).bind fun (r61 : (List ByteArray)) => ((f_fault_Path e38).bind fun (r66 : (List ByteArray)) => ((((f_fault_Of r40).bind fun (r73 : Int) => ((f_fault_Of e38).bind fun (r78 : Int) => (if (decide (r73 = r78)) = true then (if (decide (r54 = a2)) = true then (if r55 = true then (if (decide ((r61.length : Int) = (IntKind.i64.wrap ((r66.length : Int) + (1 : Int))))) = true then (grd (0 ≤ (0 : Int) ∧ (0 : Int) < r61.length) (if (decide ((rd r61 (0 : Int)) = a1)) = true then (grd (0 ≤ (1 : Int) ∧ (1 : Int) ≤ (r61.length : Int) ∧ (r61.length : Int) ≤ (r61.length : Int)) ((f_ref01_Texts (sub r61 (1 : Int) (r61.length : Int)) r66).bind fun (r97 : Bool) => (if r97 = true then ((f_fault_Again r40).bind fun (r109 : GErr) => ((f_law01_same r109 a0).bind fun (r114 : Bool) => (if r114 = true then ((f_law01_works).bind fun (r120 : Bool) => (some r120)) else (some false)))) else (some false)))) else (some false))) else (some false)) else (some false)) else (some false)) else (some false)))) : Option Bool).bind fun (x71 : Bool) => (some x71)))))))))))
def f_law01_FaultWraps_post (a0 : T_ref01_Chain) (a1 : ByteArray) (a2 : Int) (v0_0 : Value) : Bool → Value → IM → HL → Prop :=
  fun (r0 : Bool) (v : Value) (M' : IM) (H' : HL) => (.bool r0) = v ∧ H' = []
set_option maxHeartbeats 8000000 in
set_option maxRecDepth 100000 in
theorem f_law01_FaultWraps_ok (a0 : T_ref01_Chain) (a1 : ByteArray) (a2 : Int) (M : IM) (v0_0 : Value) (h0_0 : RS kd_ref01_Step M v0_0 a0.Steps) (hE : Env M) (res : Bool) (h : f_law01_FaultWraps a0 a1 a2 = some res) :
    Tri Tryd.prog 3 #[(.agg #[v0_0, (.int .i64 a0.Code)]), (.string a1), (.int .i64 a2)] M [] (f_law01_FaultWraps_post a0 a1 a2 v0_0 res) := by
 unfold f_law01_FaultWraps at h
 refine Tri.enter (fn := Tryd.f3) Tryd.func3 rfl (Nat.le_of_ble_eq_true rfl) ?_
 intro F ρ hρ
 refine Sr ?_
 refine WL.eff (EO.box (cs := #[v0_0, (.int .i64 a0.Code)]) (congrArg Value.cells (asE (.agg #[v0_0, (.int .i64 a0.Code)]) (hρ 0)))) rfl ?_
 rintro _ _ _ - ⟨rfl, g21, rfl, rfl⟩
 refine Pa (.bool false) rfl rfl ?_
 refine Nt ?_
 refine WC.seq ?_
 refine Sr ?_
 refine Pu (.agg #[v0_0, (.int .i64 a0.Code)]) (PO.loadBA (cs := [v0_0, (.int .i64 a0.Code)]) 0 ag24 sz24 rfl rfl rfl) rfl ?_
 obtain ⟨r22, hr23, h⟩ := bnd h
 refine WL.eff (EO.call0 co6 (f_law01_light_ok a0 _ _ h0_0 r22 hr23) (args1 rfl)) rfl ?_
 rintro _ M24 _ hle25 ⟨_, ⟨rfl, rfl⟩, rfl⟩
 have h0_0 := h0_0.mono hle25
 have hE := hE.mono hle25
 refine WL.a0 ?_
 refine Pu (.bool (!r22)) (PO.not rfl) rfl ?_
 refine Nt ?_
 refine WC.cond (b := !r22) rfl (fun hb27 => ?_) (fun hb27 => ?_)
 have h := ite_t hb27 h
 refine Sr ?_
 obtain ⟨r28, hr29, h⟩ := bnd h
 refine WL.eff (EO.call0 co7 (f_law01_works_ok _ hE r28 hr29) (args0)) rfl ?_
 rintro _ M30 _ hle31 ⟨_, ⟨rfl, rfl⟩, rfl⟩
 have h0_0 := h0_0.mono hle31
 have hE := hE.mono hle31
 refine WL.a0 ?_
 refine Pa (.bool r28) rfl rfl ?_
 refine Nt ?_
 refine WC.ret ?_
 refine WQ.thenR ?_
 refine WQ.drop ?_
 exact WQ.returnsF h [] rfl (results1 rfl rfl) (hle25.trans hle31) ⟨rfl, rfl⟩
 have h := ite_f hb27 h
 refine WC.skip ?_
 refine WQ.thenC ?_
 refine Sr ?_
 refine Pu (.agg #[v0_0, (.int .i64 a0.Code)]) (PO.loadBA (cs := [v0_0, (.int .i64 a0.Code)]) 0 ag24 sz24 rfl rfl rfl) rfl ?_
 obtain ⟨r33, hr34, h⟩ := bnd h
 refine WL.eff (EO.call0 co8 (f_law01_made_ok a0 _ _ h0_0 r33 hr34) (args1 rfl)) rfl ?_
 rintro _ M35 _ hle36 ⟨_, ⟨e38, rfl, rfl, he39⟩, rfl⟩
 have h0_0 := h0_0.mono hle36
 have hE := hE.mono hle36
 have h := anyE_at h he39
 refine WL.a0 ?_
 refine Pa (GV e38) rfl rfl ?_
 refine Ns ?_
 refine Pm (.string a1) (hρ 1) rfl ?_
 refine Pm (.int .i64 a2) (hρ 2) rfl ?_
 refine Pm (GV e38) rfl rfl ?_
 obtain ⟨r40, hr41, h⟩ := bnd h
 refine WL.eff (EO.call0 co9 (f_fault_Wrap_ok a1 a2 e38 _ r40 hr41) (args3 rfl rfl rfl)) rfl ?_
 rintro _ M42 _ hle43 ⟨_, ⟨rfl, rfl⟩, rfl⟩
 have h0_0 := h0_0.mono hle43
 have hE := hE.mono hle43
 refine WL.a0 ?_
 refine Pa (GV r40) rfl rfl ?_
 refine Nt ?_
 refine WC.seq ?_
 refine Sr ?_
 refine Pm (GV e38) rfl rfl ?_
 refine Pu (.bool e38.isNil) (PO.errNil Tryd.underlying28 rfl) rfl ?_
 refine Nt ?_
 refine WC.cond (b := e38.isNil) rfl (fun hb45 => ?_) (fun hb45 => ?_)
 have h := ite_t hb45 h
 obtain ⟨x46, hj47, h⟩ := bnd h
 refine WC.joinF (fun (x46 : Bool) ρ' M' H' => M42.le M' ∧ [(g21, .cells #[v0_0, (.int .i64 a0.Code)] 24 (0, 0))] :: F = H' ∧ ρ' 6 = (.bool x46)) x46 ?_ ?_
 have h347 := h
 have h := hj47
 refine WC.region ?_
 refine Pm (GV r40) rfl rfl ?_
 refine Pu (.bool r40.isNil) (PO.errNil Tryd.underlying28 rfl) rfl ?_
 refine Pm (.bool r40.isNil) rfl rfl ?_
 rcases Bool.eq_false_or_eq_true (r40.isNil) with hb48 | hb48
 have h := ite_t hb48 h
 refine On 27 rfl rfl hb48 ?_
 obtain ⟨r49, hr50, h⟩ := bnd h
 refine WL.eff (EO.call0 co7 (f_law01_works_ok _ hE r49 hr50) (args0)) rfl ?_
 rintro _ M51 _ hle52 ⟨_, ⟨rfl, rfl⟩, rfl⟩
 have h0_0 := h0_0.mono hle52
 have hE := hE.mono hle52
 refine WL.a0 ?_
 refine Pu (.bool r49) (PO.pickT rfl hb48 rfl) rfl ?_
 refine Pa (.bool r49) rfl rfl ?_
 refine WL.nil ?_
 obtain rfl := Option.some.inj h
 refine WQ.thenJ ?_
 exact ⟨hle52, rfl, rfl⟩
 have h := ite_f hb48 h
 refine Of 27 rfl rfl hb48 rfl ?_
 refine Pu (.bool false) (PO.pickF rfl hb48 rfl) rfl ?_
 refine Pa (.bool false) rfl rfl ?_
 refine WL.nil ?_
 obtain rfl := Option.some.inj h
 refine WQ.thenJ ?_
 exact ⟨(IM.le.refl _), rfl, rfl⟩
 rintro ρ47 M47 H47 ⟨hle47, rfl, hs47_6⟩
 have h0_0 := h0_0.mono hle47
 have hE := hE.mono hle47
 refine WC.ret ?_
 refine WQ.thenR ?_
 refine WQ.drop ?_
 exact WQ.returnsF h [] rfl (results1 rfl hs47_6) (((hle25.trans hle36).trans hle43).trans hle47) ⟨rfl, rfl⟩
 have h := ite_f hb45 h
 refine WC.skip ?_
 refine WQ.thenC ?_
 refine Sr ?_
 refine Pm (GV r40) rfl rfl ?_
 obtain ⟨⟨r54, r55⟩, hr56, h⟩ := bnd h
 refine WL.eff (EO.call0 co10 (f_fault_Where_ok r40 _ hE (r54, r55) hr56) (args1 rfl)) rfl ?_
 rintro _ M57 _ hle58 ⟨_, ⟨rfl, rfl⟩, rfl⟩
 have h0_0 := h0_0.mono hle58
 have hE := hE.mono hle58
 refine WL.a0 ?_
 refine Pm (.tuple #[(.int .i64 r54), (.bool r55)]) rfl rfl ?_
 refine Pu (.int .i64 r54) (PO.extract rfl rfl) rfl ?_
 refine Pu (.bool r55) (PO.extract rfl rfl) rfl ?_
 refine Pa (.int .i64 r54) rfl rfl ?_
 refine Pa (.bool r55) rfl rfl ?_
 refine Ns ?_
 refine Pm (GV r40) rfl rfl ?_
 obtain ⟨r61, hr62, h⟩ := bnd h
 refine WL.eff (EO.call0 co11 (f_fault_Path_ok r40 _ hE r61 hr62) (args1 rfl)) rfl ?_
 rintro _ M63 _ hle64 ⟨_, ⟨vq65, cq65, rfl, rfl, hq65⟩, rfl⟩
 have h0_0 := h0_0.mono hle64
 have hE := hE.mono hle64
 refine WL.a1 ?_
 refine Pm (GV e38) rfl rfl ?_
 obtain ⟨r66, hr67, h⟩ := bnd h
 refine WL.eff (EO.call0 co11 (f_fault_Path_ok e38 _ hE r66 hr67) (args1 rfl)) rfl ?_
 rintro _ M68 _ hle69 ⟨_, ⟨vq70, cq70, rfl, rfl, hq70⟩, rfl⟩
 have hq65 := hq65.mono hle69
 have h0_0 := h0_0.mono hle69
 have hE := hE.mono hle69
 refine WL.a1 ?_
 refine Pa vq65 rfl rfl ?_
 refine Pa vq70 rfl rfl ?_
 refine Nt ?_
 obtain ⟨x71, hj72, h⟩ := bnd h
 refine WC.joinF (fun (x71 : Bool) ρ' M' H' => M68.le M' ∧ [(g21, .cells #[v0_0, (.int .i64 a0.Code)] 24 (0, 0))] :: F = H' ∧ ρ' 6 = (.bool x71)) x71 ?_ ?_
 have h372 := h
 have h := hj72
 refine WC.draw [0, 1, 0, 7, 15, 31, 63, 63, 255, 511, 1023, 2047, 4095, 8191, 16383, 32767, 16383, 81919, 212991, 524287, 1048575, 2097151, 4194303, 8388607, 16777215, 4194303, 67108863, 134217727, 268435455, 536870911, 1073741823, 536870911, 4294967295, 8589934591, 17179869183, 34359738367, 68719476735, 34359738367, 274877906943, 549755813887, 1099511627775, 2199023255551, 4398046511103, 8796093022207] (.pure 0 (.pure 2 (.alt 1 (.alt 3 (.pure 4 (.pure 5 (.pure 6 (.pure 7 (.pure 8 (.pure 9 (.pure 10 (.pure 11 (.pure 12 (.pure 13 (.pure 14 (.pure 15 (.pure 16 (.pure 17 (.pure 18 (.pure 19 (.pure 20 (.pure 21 (.pure 22 (.pure 23 (.pure 24 (.pure 25 (.pure 26 (.pure 27 (.pure 28 (.pure 29 (.pure 30 (.pure 31 (.alt 32 (.pure 33 (.pure 34 (.pure 35 (.pure 37 (.alt 36 (.alt 38 (.pure 39 (.pure 40 (.alt 41 (.pure 42 (.pure 43 .done)) .none))) .none) .none))))) .none))))))))))))))))))))))))))))) .none) .none))) mixed (by kernel_rfl) ?_
 refine Tp (GV r40) rfl (PO.move rfl) rfl ?_
 refine Tp (GV e38) rfl (PO.move rfl) rfl ?_
 obtain ⟨r73, hr74, h⟩ := bnd h
 refine WT.alt rfl (EO.call0 co12 (f_fault_Of_ok r40 _ hE r73 hr74) (args1 rfl)) rfl ?_ ?_
 rintro _ M75 _ hle76 ⟨_, ⟨rfl, rfl⟩, rfl⟩
 have hq65 := hq65.mono hle76
 have hq70 := hq70.mono hle76
 have h0_0 := h0_0.mono hle76
 have hE := hE.mono hle76
 refine ⟨(StabL.st (StabA.of rfl (PO.move rfl) rfl) (StabL.anc rfl trivial)), ?_⟩
 refine WT.a0 ?_
 obtain ⟨r78, hr79, h⟩ := bnd h
 refine WT.alt rfl (EO.call0 co12 (f_fault_Of_ok e38 _ hE r78 hr79) (args1 rfl)) rfl ?_ ?_
 rintro _ M80 _ hle81 ⟨_, ⟨rfl, rfl⟩, rfl⟩
 have hq65 := hq65.mono hle81
 have hq70 := hq70.mono hle81
 have h0_0 := h0_0.mono hle81
 have hE := hE.mono hle81
 refine ⟨(StabL.anc rfl (StabL.anc rfl trivial)), ?_⟩
 refine WT.a0 ?_
 refine Tp (.bool (decide (r73 = r78))) rfl (PO.eql rfl rfl) rfl ?_
 refine Tp (.bool (decide (r73 = r78))) rfl (PO.move rfl) rfl ?_
 rcases Bool.eq_false_or_eq_true (decide (r73 = r78)) with hb83 | hb83
 have h := ite_t hb83 h
 refine Tn (.int .i64 r54) 44 rfl rfl rfl hb83 (PO.move rfl) rfl ?_
 refine Tn (.int .i64 a2) 44 rfl rfl rfl hb83 (PO.move (hρ 2)) rfl ?_
 refine Tn (.bool (decide (r54 = a2))) 44 rfl rfl rfl hb83 (PO.eql rfl rfl) rfl ?_
 refine Tp (.bool (decide (r54 = a2))) rfl (PO.pickT rfl hb83 rfl) rfl ?_
 refine Tp (.bool (decide (r54 = a2))) rfl (PO.move rfl) rfl ?_
 rcases Bool.eq_false_or_eq_true (decide (r54 = a2)) with hb84 | hb84
 have h := ite_t hb84 h
 refine Tn (.bool r55) 49 rfl rfl rfl hb84 (PO.move rfl) rfl ?_
 refine Tp (.bool r55) rfl (PO.pickT rfl hb84 rfl) rfl ?_
 refine Tp (.bool r55) rfl (PO.move rfl) rfl ?_
 rcases Bool.eq_false_or_eq_true (r55) with hb85 | hb85
 have h := ite_t hb85 h
 refine Tn vq65 52 rfl rfl rfl hb85 (PO.move rfl) rfl ?_
 refine Tn (.int .i64 (r61.length : Int)) 52 rfl rfl rfl hb85 (PO.lenS Tryd.underlying33 rfl hq65.len) rfl ?_
 refine Tn vq70 52 rfl rfl rfl hb85 (PO.move rfl) rfl ?_
 refine Tn (.int .i64 (r66.length : Int)) 52 rfl rfl rfl hb85 (PO.lenS Tryd.underlying33 rfl hq70.len) rfl ?_
 refine Tn (.int .i64 (IntKind.i64.wrap ((r66.length : Int) + (1 : Int)))) 52 rfl rfl rfl hb85 (PO.add rfl rfl) rfl ?_
 refine Tn (.bool (decide ((r61.length : Int) = (IntKind.i64.wrap ((r66.length : Int) + (1 : Int)))))) 52 rfl rfl rfl hb85 (PO.eql rfl rfl) rfl ?_
 refine Tp (.bool (decide ((r61.length : Int) = (IntKind.i64.wrap ((r66.length : Int) + (1 : Int)))))) rfl (PO.pickT rfl hb85 rfl) rfl ?_
 refine Tp (.bool (decide ((r61.length : Int) = (IntKind.i64.wrap ((r66.length : Int) + (1 : Int)))))) rfl (PO.move rfl) rfl ?_
 rcases Bool.eq_false_or_eq_true (decide ((r61.length : Int) = (IntKind.i64.wrap ((r66.length : Int) + (1 : Int))))) with hb86 | hb86
 have h := ite_t hb86 h
 refine Tn vq65 60 rfl rfl rfl hb86 (PO.move rfl) rfl ?_
 obtain ⟨hg87, h⟩ := grd_i h
 obtain ⟨p88, cs89, hat90, hrc91, hhas92⟩ := hq65.at hg87.1 hg87.2
 obtain rfl := hrc91
 refine Tn (.pointer (some p88)) 60 rfl rfl rfl hb86 (PO.indexAddr (n := r61.length) Tryd.underlying33 sz9 rfl rfl hg87.1 hg87.2 hat90) rfl ?_
 refine Tn (.string (rd r61 (0 : Int))) 60 rfl rfl rfl hb86 (PO.loadC 1 pl9 rfl rfl (chunkHas0 hhas92)) rfl ?_
 refine Tn (.string a1) 60 rfl rfl rfl hb86 (PO.move (hρ 1)) rfl ?_
 refine Tn (.bool (decide ((rd r61 (0 : Int)) = a1))) 60 rfl rfl rfl hb86 (PO.seql rfl rfl) rfl ?_
 refine Tp (.bool (decide ((rd r61 (0 : Int)) = a1))) rfl (PO.pickT rfl hb86 rfl) rfl ?_
 refine Tp (.bool (decide ((rd r61 (0 : Int)) = a1))) rfl (PO.move rfl) rfl ?_
 rcases Bool.eq_false_or_eq_true (decide ((rd r61 (0 : Int)) = a1)) with hb94 | hb94
 have h := ite_t hb94 h
 refine Tn vq65 67 rfl rfl rfl hb94 (PO.move rfl) rfl ?_
 obtain ⟨hg95, h⟩ := grd_i h
 have h96 := hq65.sub hg95.1 hg95.2.1 hg95.2.2
 refine Tn (slV vq65 1 ((1 : Int)).toNat ((r61.length : Int)).toNat) 67 rfl rfl rfl hb94 (PO.slice (n := r61.length) (l := ((1 : Int)).toNat) (h := ((r61.length : Int)).toNat) Tryd.underlying33 sz9 rfl hq65.len hq65.cap ⟨_, _, rfl, hg95.1, rfl⟩ (boundN_ rfl) (Int.toNat_le_toNat hg95.2.1) (toNat_le_len hg95.2.2)) rfl ?_
 refine Tn vq70 67 rfl rfl rfl hb94 (PO.move rfl) rfl ?_
 obtain ⟨r97, hr98, h⟩ := bnd h
 refine WT.f1 ?_
 refine WT.altOn 67 rfl rfl rfl hb94 (EO.call2 co13 (Tri.lend fun w0_ H0_ hs0_ => (Tri.lend fun w1_ H1_ hs1_ => (f_ref01_Texts_ok (sub r61 (1 : Int) (r61.length : Int)) r66 _ _ _ ((h96.rs hs0_).mono (IM.le_add _ _)) ((hq70.mono (IM.le_add _ _)).rs hs1_) r97 hr98))) (args2 rfl rfl)) rfl ?_ ?_
 rintro _ _ _ hle100 ⟨_, ⟨Ml105, Hl106, hll107, rfl, rfl, ⟨Ml102, Hl103, hll104, rfl, rfl, ⟨rfl, rfl⟩⟩⟩, rfl⟩
 have hq65 := hq65.mono hle100
 have hq70 := hq70.mono hle100
 have h96 := h96.mono hle100
 have h0_0 := h0_0.mono hle100
 have hE := hE.mono hle100
 refine ⟨(StabL.anc rfl (StabL.anc rfl (StabL.anc rfl (StabL.anc rfl (StabL.anc rfl (StabL.anc rfl (StabL.anc rfl (StabL.anc rfl (StabL.anc rfl (StabL.anc rfl (StabL.anc rfl (StabL.anc rfl (StabL.anc rfl (StabL.anc rfl (StabL.anc rfl (StabL.anc rfl (StabL.anc rfl (StabL.anc rfl (StabL.anc rfl (StabL.anc rfl (StabL.anc rfl (StabL.anc rfl (StabL.anc rfl (StabL.anc rfl (StabL.anc rfl (StabL.anc rfl (StabL.anc rfl (StabL.anc rfl (StabL.anc rfl (StabL.anc rfl trivial)))))))))))))))))))))))))))))), ?_⟩
 refine WT.a2 ?_
 refine Tp (.bool r97) rfl (PO.pickT rfl hb94 rfl) rfl ?_
 refine Tp (.bool r97) rfl (PO.move rfl) rfl ?_
 rcases Bool.eq_false_or_eq_true (r97) with hb108 | hb108
 have h := ite_t hb108 h
 refine Tn (GV r40) 73 rfl rfl rfl hb108 (PO.move rfl) rfl ?_
 refine Tn (.agg #[v0_0, (.int .i64 a0.Code)]) 73 rfl rfl rfl hb108 (PO.loadBA (cs := [v0_0, (.int .i64 a0.Code)]) 2 ag24 sz24 rfl rfl rfl) rfl ?_
 obtain ⟨r109, hr110, h⟩ := bnd h
 refine WT.altOn 73 rfl rfl rfl hb108 (EO.call0 co15 (f_fault_Again_ok r40 _ hE r109 hr110) (args1 rfl)) rfl ?_ ?_
 rintro _ M111 _ hle112 ⟨_, ⟨rfl, rfl⟩, rfl⟩
 have hq65 := hq65.mono hle112
 have hq70 := hq70.mono hle112
 have h96 := h96.mono hle112
 have h0_0 := h0_0.mono hle112
 have hE := hE.mono hle112
 refine ⟨(StabL.st (StabA.on 73 rfl rfl rfl hb108 (PO.loadBA (cs := [v0_0, (.int .i64 a0.Code)]) 2 ag24 sz24 rfl rfl rfl) rfl) (StabL.anc rfl (StabL.anc rfl (StabL.anc rfl (StabL.anc rfl (StabL.anc rfl (StabL.anc rfl (StabL.anc rfl (StabL.anc rfl (StabL.anc rfl (StabL.anc rfl (StabL.anc rfl (StabL.anc rfl (StabL.anc rfl (StabL.anc rfl (StabL.anc rfl (StabL.anc rfl (StabL.anc rfl (StabL.anc rfl (StabL.anc rfl (StabL.anc rfl (StabL.anc rfl (StabL.anc rfl (StabL.anc rfl (StabL.anc rfl (StabL.anc rfl (StabL.anc rfl (StabL.anc rfl (StabL.anc rfl (StabL.anc rfl (StabL.anc rfl (StabL.anc rfl (StabL.anc rfl (StabL.anc rfl trivial)))))))))))))))))))))))))))))))))), ?_⟩
 refine WT.a0 ?_
 obtain ⟨r114, hr115, h⟩ := bnd h
 refine WT.altOn 73 rfl rfl rfl hb108 (EO.call0 co14 (f_law01_same_ok r109 a0 _ _ h0_0 hE r114 hr115) (args2 rfl rfl)) rfl ?_ ?_
 rintro _ M116 _ hle117 ⟨_, ⟨rfl, rfl⟩, rfl⟩
 have hq65 := hq65.mono hle117
 have hq70 := hq70.mono hle117
 have h96 := h96.mono hle117
 have h0_0 := h0_0.mono hle117
 have hE := hE.mono hle117
 refine ⟨(StabL.anc rfl (StabL.anc rfl (StabL.anc rfl (StabL.anc rfl (StabL.anc rfl (StabL.anc rfl (StabL.anc rfl (StabL.anc rfl (StabL.anc rfl (StabL.anc rfl (StabL.anc rfl (StabL.anc rfl (StabL.anc rfl (StabL.anc rfl (StabL.anc rfl (StabL.anc rfl (StabL.anc rfl (StabL.anc rfl (StabL.anc rfl (StabL.anc rfl (StabL.anc rfl (StabL.anc rfl (StabL.anc rfl (StabL.anc rfl (StabL.anc rfl (StabL.anc rfl (StabL.anc rfl (StabL.anc rfl (StabL.anc rfl (StabL.anc rfl (StabL.anc rfl (StabL.anc rfl (StabL.anc rfl (StabL.anc rfl trivial)))))))))))))))))))))))))))))))))), ?_⟩
 refine WT.a0 ?_
 refine Tp (.bool r114) rfl (PO.pickT rfl hb108 rfl) rfl ?_
 refine Tp (.bool r114) rfl (PO.move rfl) rfl ?_
 rcases Bool.eq_false_or_eq_true (r114) with hb119 | hb119
 have h := ite_t hb119 h
 obtain ⟨r120, hr121, h⟩ := bnd h
 refine WT.altOn 79 rfl rfl rfl hb119 (EO.call0 co7 (f_law01_works_ok _ hE r120 hr121) (args0)) rfl ?_ ?_
 rintro _ M122 _ hle123 ⟨_, ⟨rfl, rfl⟩, rfl⟩
 have hq65 := hq65.mono hle123
 have hq70 := hq70.mono hle123
 have h96 := h96.mono hle123
 have h0_0 := h0_0.mono hle123
 have hE := hE.mono hle123
 refine ⟨(StabL.anc rfl (StabL.anc rfl (StabL.anc rfl (StabL.anc rfl (StabL.anc rfl (StabL.anc rfl (StabL.anc rfl (StabL.anc rfl (StabL.anc rfl (StabL.anc rfl (StabL.anc rfl (StabL.anc rfl (StabL.anc rfl (StabL.anc rfl (StabL.anc rfl (StabL.anc rfl (StabL.anc rfl (StabL.anc rfl (StabL.anc rfl (StabL.anc rfl (StabL.anc rfl (StabL.anc rfl (StabL.anc rfl (StabL.anc rfl (StabL.anc rfl (StabL.anc rfl (StabL.anc rfl (StabL.anc rfl (StabL.anc rfl (StabL.anc rfl (StabL.anc rfl (StabL.anc rfl (StabL.anc rfl (StabL.anc rfl (StabL.anc rfl (StabL.anc rfl trivial)))))))))))))))))))))))))))))))))))), ?_⟩
 refine WT.a0 ?_
 refine Tp (.bool r120) rfl (PO.pickT rfl hb119 rfl) rfl ?_
 refine Tp (.bool r120) rfl (PO.assign rfl) rfl ?_
 refine WT.fin ?_
 refine WQ.drop ?_
 refine WQ.drop ?_
 obtain rfl := Option.some.inj h
 refine WQ.thenJ ?_
 exact ⟨(((((hle76.trans hle81).trans hle100).trans hle112).trans hle117).trans hle123), rfl, rfl⟩
 exact WT.no
 have h := ite_f hb119 h
 refine WT.altOff 79 rfl rfl rfl hb119 rfl ⟨(StabL.anc rfl (StabL.anc rfl (StabL.anc rfl (StabL.anc rfl (StabL.anc rfl (StabL.anc rfl (StabL.anc rfl (StabL.anc rfl (StabL.anc rfl (StabL.anc rfl (StabL.anc rfl (StabL.anc rfl (StabL.anc rfl (StabL.anc rfl (StabL.anc rfl (StabL.anc rfl (StabL.anc rfl (StabL.anc rfl (StabL.anc rfl (StabL.anc rfl (StabL.anc rfl (StabL.anc rfl (StabL.anc rfl (StabL.anc rfl (StabL.anc rfl (StabL.anc rfl (StabL.anc rfl (StabL.anc rfl (StabL.anc rfl (StabL.anc rfl (StabL.anc rfl (StabL.anc rfl (StabL.anc rfl (StabL.anc rfl (StabL.anc rfl (StabL.anc rfl trivial)))))))))))))))))))))))))))))))))))), ?_⟩ ?_
 refine Tp (.bool false) rfl (PO.pickF rfl hb119 rfl) rfl ?_
 refine Tp (.bool false) rfl (PO.assign rfl) rfl ?_
 refine WT.fin ?_
 refine WQ.drop ?_
 refine WQ.drop ?_
 obtain rfl := Option.some.inj h
 refine WQ.thenJ ?_
 exact ⟨((((hle76.trans hle81).trans hle100).trans hle112).trans hle117), rfl, rfl⟩
 exact WT.no
 exact WT.no
 exact WT.no
 have h := ite_f hb108 h
 refine WT.pureOff 73 rfl rfl rfl hb108 rfl ?_
 refine WT.pureOff 73 rfl rfl rfl hb108 rfl ?_
 refine WT.altOff 73 rfl rfl rfl hb108 rfl ⟨(StabL.st (StabA.off 73 rfl rfl rfl hb108 rfl) (StabL.anc rfl (StabL.anc rfl (StabL.anc rfl (StabL.anc rfl (StabL.anc rfl (StabL.anc rfl (StabL.anc rfl (StabL.anc rfl (StabL.anc rfl (StabL.anc rfl (StabL.anc rfl (StabL.anc rfl (StabL.anc rfl (StabL.anc rfl (StabL.anc rfl (StabL.anc rfl (StabL.anc rfl (StabL.anc rfl (StabL.anc rfl (StabL.anc rfl (StabL.anc rfl (StabL.anc rfl (StabL.anc rfl (StabL.anc rfl (StabL.anc rfl (StabL.anc rfl (StabL.anc rfl (StabL.anc rfl (StabL.anc rfl (StabL.anc rfl (StabL.anc rfl (StabL.anc rfl (StabL.anc rfl trivial)))))))))))))))))))))))))))))))))), ?_⟩ ?_
 refine WT.altOff 73 rfl rfl rfl hb108 rfl ⟨(StabL.anc rfl (StabL.anc rfl (StabL.anc rfl (StabL.anc rfl (StabL.anc rfl (StabL.anc rfl (StabL.anc rfl (StabL.anc rfl (StabL.anc rfl (StabL.anc rfl (StabL.anc rfl (StabL.anc rfl (StabL.anc rfl (StabL.anc rfl (StabL.anc rfl (StabL.anc rfl (StabL.anc rfl (StabL.anc rfl (StabL.anc rfl (StabL.anc rfl (StabL.anc rfl (StabL.anc rfl (StabL.anc rfl (StabL.anc rfl (StabL.anc rfl (StabL.anc rfl (StabL.anc rfl (StabL.anc rfl (StabL.anc rfl (StabL.anc rfl (StabL.anc rfl (StabL.anc rfl (StabL.anc rfl (StabL.anc rfl trivial)))))))))))))))))))))))))))))))))), ?_⟩ ?_
 refine Tp (.bool false) rfl (PO.pickF rfl hb108 rfl) rfl ?_
 refine Tp (.bool false) rfl (PO.move rfl) rfl ?_
 refine WT.altOff 79 rfl rfl rfl rfl rfl ⟨(StabL.anc rfl (StabL.anc rfl (StabL.anc rfl (StabL.anc rfl (StabL.anc rfl (StabL.anc rfl (StabL.anc rfl (StabL.anc rfl (StabL.anc rfl (StabL.anc rfl (StabL.anc rfl (StabL.anc rfl (StabL.anc rfl (StabL.anc rfl (StabL.anc rfl (StabL.anc rfl (StabL.anc rfl (StabL.anc rfl (StabL.anc rfl (StabL.anc rfl (StabL.anc rfl (StabL.anc rfl (StabL.anc rfl (StabL.anc rfl (StabL.anc rfl (StabL.anc rfl (StabL.anc rfl (StabL.anc rfl (StabL.anc rfl (StabL.anc rfl (StabL.anc rfl (StabL.anc rfl (StabL.anc rfl (StabL.anc rfl (StabL.anc rfl (StabL.anc rfl trivial)))))))))))))))))))))))))))))))))))), ?_⟩ ?_
 refine Tp (.bool false) rfl (PO.pickF rfl rfl rfl) rfl ?_
 refine Tp (.bool false) rfl (PO.assign rfl) rfl ?_
 refine WT.fin ?_
 refine WQ.drop ?_
 refine WQ.drop ?_
 obtain rfl := Option.some.inj h
 refine WQ.thenJ ?_
 exact ⟨((hle76.trans hle81).trans hle100), rfl, rfl⟩
 exact WT.no
 exact WT.no
 exact WT.no
 exact WT.no
 have h := ite_f hb94 h
 refine WT.pureOff 67 rfl rfl rfl hb94 rfl ?_
 refine WT.pureOff 67 rfl rfl rfl hb94 rfl ?_
 refine WT.pureOff 67 rfl rfl rfl hb94 rfl ?_
 refine WT.altOff 67 rfl rfl rfl hb94 rfl ⟨(StabL.anc rfl (StabL.anc rfl (StabL.anc rfl (StabL.anc rfl (StabL.anc rfl (StabL.anc rfl (StabL.anc rfl (StabL.anc rfl (StabL.anc rfl (StabL.anc rfl (StabL.anc rfl (StabL.anc rfl (StabL.anc rfl (StabL.anc rfl (StabL.anc rfl (StabL.anc rfl (StabL.anc rfl (StabL.anc rfl (StabL.anc rfl (StabL.anc rfl (StabL.anc rfl (StabL.anc rfl (StabL.anc rfl (StabL.anc rfl (StabL.anc rfl (StabL.anc rfl (StabL.anc rfl (StabL.anc rfl (StabL.anc rfl (StabL.anc rfl trivial)))))))))))))))))))))))))))))), ?_⟩ ?_
 refine Tp (.bool false) rfl (PO.pickF rfl hb94 rfl) rfl ?_
 refine Tp (.bool false) rfl (PO.move rfl) rfl ?_
 refine WT.pureOff 73 rfl rfl rfl rfl rfl ?_
 refine WT.pureOff 73 rfl rfl rfl rfl rfl ?_
 refine WT.altOff 73 rfl rfl rfl rfl rfl ⟨(StabL.st (StabA.off 73 rfl rfl rfl rfl rfl) (StabL.anc rfl (StabL.anc rfl (StabL.anc rfl (StabL.anc rfl (StabL.anc rfl (StabL.anc rfl (StabL.anc rfl (StabL.anc rfl (StabL.anc rfl (StabL.anc rfl (StabL.anc rfl (StabL.anc rfl (StabL.anc rfl (StabL.anc rfl (StabL.anc rfl (StabL.anc rfl (StabL.anc rfl (StabL.anc rfl (StabL.anc rfl (StabL.anc rfl (StabL.anc rfl (StabL.anc rfl (StabL.anc rfl (StabL.anc rfl (StabL.anc rfl (StabL.anc rfl (StabL.anc rfl (StabL.anc rfl (StabL.anc rfl (StabL.anc rfl (StabL.anc rfl (StabL.anc rfl (StabL.anc rfl trivial)))))))))))))))))))))))))))))))))), ?_⟩ ?_
 refine WT.altOff 73 rfl rfl rfl rfl rfl ⟨(StabL.anc rfl (StabL.anc rfl (StabL.anc rfl (StabL.anc rfl (StabL.anc rfl (StabL.anc rfl (StabL.anc rfl (StabL.anc rfl (StabL.anc rfl (StabL.anc rfl (StabL.anc rfl (StabL.anc rfl (StabL.anc rfl (StabL.anc rfl (StabL.anc rfl (StabL.anc rfl (StabL.anc rfl (StabL.anc rfl (StabL.anc rfl (StabL.anc rfl (StabL.anc rfl (StabL.anc rfl (StabL.anc rfl (StabL.anc rfl (StabL.anc rfl (StabL.anc rfl (StabL.anc rfl (StabL.anc rfl (StabL.anc rfl (StabL.anc rfl (StabL.anc rfl (StabL.anc rfl (StabL.anc rfl (StabL.anc rfl trivial)))))))))))))))))))))))))))))))))), ?_⟩ ?_
 refine Tp (.bool false) rfl (PO.pickF rfl rfl rfl) rfl ?_
 refine Tp (.bool false) rfl (PO.move rfl) rfl ?_
 refine WT.altOff 79 rfl rfl rfl rfl rfl ⟨(StabL.anc rfl (StabL.anc rfl (StabL.anc rfl (StabL.anc rfl (StabL.anc rfl (StabL.anc rfl (StabL.anc rfl (StabL.anc rfl (StabL.anc rfl (StabL.anc rfl (StabL.anc rfl (StabL.anc rfl (StabL.anc rfl (StabL.anc rfl (StabL.anc rfl (StabL.anc rfl (StabL.anc rfl (StabL.anc rfl (StabL.anc rfl (StabL.anc rfl (StabL.anc rfl (StabL.anc rfl (StabL.anc rfl (StabL.anc rfl (StabL.anc rfl (StabL.anc rfl (StabL.anc rfl (StabL.anc rfl (StabL.anc rfl (StabL.anc rfl (StabL.anc rfl (StabL.anc rfl (StabL.anc rfl (StabL.anc rfl (StabL.anc rfl (StabL.anc rfl trivial)))))))))))))))))))))))))))))))))))), ?_⟩ ?_
 refine Tp (.bool false) rfl (PO.pickF rfl rfl rfl) rfl ?_
 refine Tp (.bool false) rfl (PO.assign rfl) rfl ?_
 refine WT.fin ?_
 refine WQ.drop ?_
 refine WQ.drop ?_
 obtain rfl := Option.some.inj h
 refine WQ.thenJ ?_
 exact ⟨(hle76.trans hle81), rfl, rfl⟩
 exact WT.no
 exact WT.no
 exact WT.no
 exact WT.no
 have h := ite_f hb86 h
 refine WT.pureOff 60 rfl rfl rfl hb86 rfl ?_
 refine WT.pureOff 60 rfl rfl rfl hb86 rfl ?_
 refine WT.pureOff 60 rfl rfl rfl hb86 rfl ?_
 refine WT.pureOff 60 rfl rfl rfl hb86 rfl ?_
 refine WT.pureOff 60 rfl rfl rfl hb86 rfl ?_
 refine Tp (.bool false) rfl (PO.pickF rfl hb86 rfl) rfl ?_
 refine Tp (.bool false) rfl (PO.move rfl) rfl ?_
 refine WT.pureOff 67 rfl rfl rfl rfl rfl ?_
 refine WT.pureOff 67 rfl rfl rfl rfl rfl ?_
 refine WT.pureOff 67 rfl rfl rfl rfl rfl ?_
 refine WT.altOff 67 rfl rfl rfl rfl rfl ⟨(StabL.anc rfl (StabL.anc rfl (StabL.anc rfl (StabL.anc rfl (StabL.anc rfl (StabL.anc rfl (StabL.anc rfl (StabL.anc rfl (StabL.anc rfl (StabL.anc rfl (StabL.anc rfl (StabL.anc rfl (StabL.anc rfl (StabL.anc rfl (StabL.anc rfl (StabL.anc rfl (StabL.anc rfl (StabL.anc rfl (StabL.anc rfl (StabL.anc rfl (StabL.anc rfl (StabL.anc rfl (StabL.anc rfl (StabL.anc rfl (StabL.anc rfl (StabL.anc rfl (StabL.anc rfl (StabL.anc rfl (StabL.anc rfl (StabL.anc rfl trivial)))))))))))))))))))))))))))))), ?_⟩ ?_
 refine Tp (.bool false) rfl (PO.pickF rfl rfl rfl) rfl ?_
 refine Tp (.bool false) rfl (PO.move rfl) rfl ?_
 refine WT.pureOff 73 rfl rfl rfl rfl rfl ?_
 refine WT.pureOff 73 rfl rfl rfl rfl rfl ?_
 refine WT.altOff 73 rfl rfl rfl rfl rfl ⟨(StabL.st (StabA.off 73 rfl rfl rfl rfl rfl) (StabL.anc rfl (StabL.anc rfl (StabL.anc rfl (StabL.anc rfl (StabL.anc rfl (StabL.anc rfl (StabL.anc rfl (StabL.anc rfl (StabL.anc rfl (StabL.anc rfl (StabL.anc rfl (StabL.anc rfl (StabL.anc rfl (StabL.anc rfl (StabL.anc rfl (StabL.anc rfl (StabL.anc rfl (StabL.anc rfl (StabL.anc rfl (StabL.anc rfl (StabL.anc rfl (StabL.anc rfl (StabL.anc rfl (StabL.anc rfl (StabL.anc rfl (StabL.anc rfl (StabL.anc rfl (StabL.anc rfl (StabL.anc rfl (StabL.anc rfl (StabL.anc rfl (StabL.anc rfl (StabL.anc rfl trivial)))))))))))))))))))))))))))))))))), ?_⟩ ?_
 refine WT.altOff 73 rfl rfl rfl rfl rfl ⟨(StabL.anc rfl (StabL.anc rfl (StabL.anc rfl (StabL.anc rfl (StabL.anc rfl (StabL.anc rfl (StabL.anc rfl (StabL.anc rfl (StabL.anc rfl (StabL.anc rfl (StabL.anc rfl (StabL.anc rfl (StabL.anc rfl (StabL.anc rfl (StabL.anc rfl (StabL.anc rfl (StabL.anc rfl (StabL.anc rfl (StabL.anc rfl (StabL.anc rfl (StabL.anc rfl (StabL.anc rfl (StabL.anc rfl (StabL.anc rfl (StabL.anc rfl (StabL.anc rfl (StabL.anc rfl (StabL.anc rfl (StabL.anc rfl (StabL.anc rfl (StabL.anc rfl (StabL.anc rfl (StabL.anc rfl (StabL.anc rfl trivial)))))))))))))))))))))))))))))))))), ?_⟩ ?_
 refine Tp (.bool false) rfl (PO.pickF rfl rfl rfl) rfl ?_
 refine Tp (.bool false) rfl (PO.move rfl) rfl ?_
 refine WT.altOff 79 rfl rfl rfl rfl rfl ⟨(StabL.anc rfl (StabL.anc rfl (StabL.anc rfl (StabL.anc rfl (StabL.anc rfl (StabL.anc rfl (StabL.anc rfl (StabL.anc rfl (StabL.anc rfl (StabL.anc rfl (StabL.anc rfl (StabL.anc rfl (StabL.anc rfl (StabL.anc rfl (StabL.anc rfl (StabL.anc rfl (StabL.anc rfl (StabL.anc rfl (StabL.anc rfl (StabL.anc rfl (StabL.anc rfl (StabL.anc rfl (StabL.anc rfl (StabL.anc rfl (StabL.anc rfl (StabL.anc rfl (StabL.anc rfl (StabL.anc rfl (StabL.anc rfl (StabL.anc rfl (StabL.anc rfl (StabL.anc rfl (StabL.anc rfl (StabL.anc rfl (StabL.anc rfl (StabL.anc rfl trivial)))))))))))))))))))))))))))))))))))), ?_⟩ ?_
 refine Tp (.bool false) rfl (PO.pickF rfl rfl rfl) rfl ?_
 refine Tp (.bool false) rfl (PO.assign rfl) rfl ?_
 refine WT.fin ?_
 refine WQ.drop ?_
 refine WQ.drop ?_
 obtain rfl := Option.some.inj h
 refine WQ.thenJ ?_
 exact ⟨(hle76.trans hle81), rfl, rfl⟩
 exact WT.no
 exact WT.no
 exact WT.no
 exact WT.no
 have h := ite_f hb85 h
 refine WT.pureOff 52 rfl rfl rfl hb85 rfl ?_
 refine WT.pureOff 52 rfl rfl rfl hb85 rfl ?_
 refine WT.pureOff 52 rfl rfl rfl hb85 rfl ?_
 refine WT.pureOff 52 rfl rfl rfl hb85 rfl ?_
 refine WT.pureOff 52 rfl rfl rfl hb85 rfl ?_
 refine WT.pureOff 52 rfl rfl rfl hb85 rfl ?_
 refine Tp (.bool false) rfl (PO.pickF rfl hb85 rfl) rfl ?_
 refine Tp (.bool false) rfl (PO.move rfl) rfl ?_
 refine WT.pureOff 60 rfl rfl rfl rfl rfl ?_
 refine WT.pureOff 60 rfl rfl rfl rfl rfl ?_
 refine WT.pureOff 60 rfl rfl rfl rfl rfl ?_
 refine WT.pureOff 60 rfl rfl rfl rfl rfl ?_
 refine WT.pureOff 60 rfl rfl rfl rfl rfl ?_
 refine Tp (.bool false) rfl (PO.pickF rfl rfl rfl) rfl ?_
 refine Tp (.bool false) rfl (PO.move rfl) rfl ?_
 refine WT.pureOff 67 rfl rfl rfl rfl rfl ?_
 refine WT.pureOff 67 rfl rfl rfl rfl rfl ?_
 refine WT.pureOff 67 rfl rfl rfl rfl rfl ?_
 refine WT.altOff 67 rfl rfl rfl rfl rfl ⟨(StabL.anc rfl (StabL.anc rfl (StabL.anc rfl (StabL.anc rfl (StabL.anc rfl (StabL.anc rfl (StabL.anc rfl (StabL.anc rfl (StabL.anc rfl (StabL.anc rfl (StabL.anc rfl (StabL.anc rfl (StabL.anc rfl (StabL.anc rfl (StabL.anc rfl (StabL.anc rfl (StabL.anc rfl (StabL.anc rfl (StabL.anc rfl (StabL.anc rfl (StabL.anc rfl (StabL.anc rfl (StabL.anc rfl (StabL.anc rfl (StabL.anc rfl (StabL.anc rfl (StabL.anc rfl (StabL.anc rfl (StabL.anc rfl (StabL.anc rfl trivial)))))))))))))))))))))))))))))), ?_⟩ ?_
 refine Tp (.bool false) rfl (PO.pickF rfl rfl rfl) rfl ?_
 refine Tp (.bool false) rfl (PO.move rfl) rfl ?_
 refine WT.pureOff 73 rfl rfl rfl rfl rfl ?_
 refine WT.pureOff 73 rfl rfl rfl rfl rfl ?_
 refine WT.altOff 73 rfl rfl rfl rfl rfl ⟨(StabL.st (StabA.off 73 rfl rfl rfl rfl rfl) (StabL.anc rfl (StabL.anc rfl (StabL.anc rfl (StabL.anc rfl (StabL.anc rfl (StabL.anc rfl (StabL.anc rfl (StabL.anc rfl (StabL.anc rfl (StabL.anc rfl (StabL.anc rfl (StabL.anc rfl (StabL.anc rfl (StabL.anc rfl (StabL.anc rfl (StabL.anc rfl (StabL.anc rfl (StabL.anc rfl (StabL.anc rfl (StabL.anc rfl (StabL.anc rfl (StabL.anc rfl (StabL.anc rfl (StabL.anc rfl (StabL.anc rfl (StabL.anc rfl (StabL.anc rfl (StabL.anc rfl (StabL.anc rfl (StabL.anc rfl (StabL.anc rfl (StabL.anc rfl (StabL.anc rfl trivial)))))))))))))))))))))))))))))))))), ?_⟩ ?_
 refine WT.altOff 73 rfl rfl rfl rfl rfl ⟨(StabL.anc rfl (StabL.anc rfl (StabL.anc rfl (StabL.anc rfl (StabL.anc rfl (StabL.anc rfl (StabL.anc rfl (StabL.anc rfl (StabL.anc rfl (StabL.anc rfl (StabL.anc rfl (StabL.anc rfl (StabL.anc rfl (StabL.anc rfl (StabL.anc rfl (StabL.anc rfl (StabL.anc rfl (StabL.anc rfl (StabL.anc rfl (StabL.anc rfl (StabL.anc rfl (StabL.anc rfl (StabL.anc rfl (StabL.anc rfl (StabL.anc rfl (StabL.anc rfl (StabL.anc rfl (StabL.anc rfl (StabL.anc rfl (StabL.anc rfl (StabL.anc rfl (StabL.anc rfl (StabL.anc rfl (StabL.anc rfl trivial)))))))))))))))))))))))))))))))))), ?_⟩ ?_
 refine Tp (.bool false) rfl (PO.pickF rfl rfl rfl) rfl ?_
 refine Tp (.bool false) rfl (PO.move rfl) rfl ?_
 refine WT.altOff 79 rfl rfl rfl rfl rfl ⟨(StabL.anc rfl (StabL.anc rfl (StabL.anc rfl (StabL.anc rfl (StabL.anc rfl (StabL.anc rfl (StabL.anc rfl (StabL.anc rfl (StabL.anc rfl (StabL.anc rfl (StabL.anc rfl (StabL.anc rfl (StabL.anc rfl (StabL.anc rfl (StabL.anc rfl (StabL.anc rfl (StabL.anc rfl (StabL.anc rfl (StabL.anc rfl (StabL.anc rfl (StabL.anc rfl (StabL.anc rfl (StabL.anc rfl (StabL.anc rfl (StabL.anc rfl (StabL.anc rfl (StabL.anc rfl (StabL.anc rfl (StabL.anc rfl (StabL.anc rfl (StabL.anc rfl (StabL.anc rfl (StabL.anc rfl (StabL.anc rfl (StabL.anc rfl (StabL.anc rfl trivial)))))))))))))))))))))))))))))))))))), ?_⟩ ?_
 refine Tp (.bool false) rfl (PO.pickF rfl rfl rfl) rfl ?_
 refine Tp (.bool false) rfl (PO.assign rfl) rfl ?_
 refine WT.fin ?_
 refine WQ.drop ?_
 refine WQ.drop ?_
 obtain rfl := Option.some.inj h
 refine WQ.thenJ ?_
 exact ⟨(hle76.trans hle81), rfl, rfl⟩
 exact WT.no
 exact WT.no
 exact WT.no
 exact WT.no
 have h := ite_f hb84 h
 refine WT.pureOff 49 rfl rfl rfl hb84 rfl ?_
 refine Tp (.bool false) rfl (PO.pickF rfl hb84 rfl) rfl ?_
 refine Tp (.bool false) rfl (PO.move rfl) rfl ?_
 refine WT.pureOff 52 rfl rfl rfl rfl rfl ?_
 refine WT.pureOff 52 rfl rfl rfl rfl rfl ?_
 refine WT.pureOff 52 rfl rfl rfl rfl rfl ?_
 refine WT.pureOff 52 rfl rfl rfl rfl rfl ?_
 refine WT.pureOff 52 rfl rfl rfl rfl rfl ?_
 refine WT.pureOff 52 rfl rfl rfl rfl rfl ?_
 refine Tp (.bool false) rfl (PO.pickF rfl rfl rfl) rfl ?_
 refine Tp (.bool false) rfl (PO.move rfl) rfl ?_
 refine WT.pureOff 60 rfl rfl rfl rfl rfl ?_
 refine WT.pureOff 60 rfl rfl rfl rfl rfl ?_
 refine WT.pureOff 60 rfl rfl rfl rfl rfl ?_
 refine WT.pureOff 60 rfl rfl rfl rfl rfl ?_
 refine WT.pureOff 60 rfl rfl rfl rfl rfl ?_
 refine Tp (.bool false) rfl (PO.pickF rfl rfl rfl) rfl ?_
 refine Tp (.bool false) rfl (PO.move rfl) rfl ?_
 refine WT.pureOff 67 rfl rfl rfl rfl rfl ?_
 refine WT.pureOff 67 rfl rfl rfl rfl rfl ?_
 refine WT.pureOff 67 rfl rfl rfl rfl rfl ?_
 refine WT.altOff 67 rfl rfl rfl rfl rfl ⟨(StabL.anc rfl (StabL.anc rfl (StabL.anc rfl (StabL.anc rfl (StabL.anc rfl (StabL.anc rfl (StabL.anc rfl (StabL.anc rfl (StabL.anc rfl (StabL.anc rfl (StabL.anc rfl (StabL.anc rfl (StabL.anc rfl (StabL.anc rfl (StabL.anc rfl (StabL.anc rfl (StabL.anc rfl (StabL.anc rfl (StabL.anc rfl (StabL.anc rfl (StabL.anc rfl (StabL.anc rfl (StabL.anc rfl (StabL.anc rfl (StabL.anc rfl (StabL.anc rfl (StabL.anc rfl (StabL.anc rfl (StabL.anc rfl (StabL.anc rfl trivial)))))))))))))))))))))))))))))), ?_⟩ ?_
 refine Tp (.bool false) rfl (PO.pickF rfl rfl rfl) rfl ?_
 refine Tp (.bool false) rfl (PO.move rfl) rfl ?_
 refine WT.pureOff 73 rfl rfl rfl rfl rfl ?_
 refine WT.pureOff 73 rfl rfl rfl rfl rfl ?_
 refine WT.altOff 73 rfl rfl rfl rfl rfl ⟨(StabL.st (StabA.off 73 rfl rfl rfl rfl rfl) (StabL.anc rfl (StabL.anc rfl (StabL.anc rfl (StabL.anc rfl (StabL.anc rfl (StabL.anc rfl (StabL.anc rfl (StabL.anc rfl (StabL.anc rfl (StabL.anc rfl (StabL.anc rfl (StabL.anc rfl (StabL.anc rfl (StabL.anc rfl (StabL.anc rfl (StabL.anc rfl (StabL.anc rfl (StabL.anc rfl (StabL.anc rfl (StabL.anc rfl (StabL.anc rfl (StabL.anc rfl (StabL.anc rfl (StabL.anc rfl (StabL.anc rfl (StabL.anc rfl (StabL.anc rfl (StabL.anc rfl (StabL.anc rfl (StabL.anc rfl (StabL.anc rfl (StabL.anc rfl (StabL.anc rfl trivial)))))))))))))))))))))))))))))))))), ?_⟩ ?_
 refine WT.altOff 73 rfl rfl rfl rfl rfl ⟨(StabL.anc rfl (StabL.anc rfl (StabL.anc rfl (StabL.anc rfl (StabL.anc rfl (StabL.anc rfl (StabL.anc rfl (StabL.anc rfl (StabL.anc rfl (StabL.anc rfl (StabL.anc rfl (StabL.anc rfl (StabL.anc rfl (StabL.anc rfl (StabL.anc rfl (StabL.anc rfl (StabL.anc rfl (StabL.anc rfl (StabL.anc rfl (StabL.anc rfl (StabL.anc rfl (StabL.anc rfl (StabL.anc rfl (StabL.anc rfl (StabL.anc rfl (StabL.anc rfl (StabL.anc rfl (StabL.anc rfl (StabL.anc rfl (StabL.anc rfl (StabL.anc rfl (StabL.anc rfl (StabL.anc rfl (StabL.anc rfl trivial)))))))))))))))))))))))))))))))))), ?_⟩ ?_
 refine Tp (.bool false) rfl (PO.pickF rfl rfl rfl) rfl ?_
 refine Tp (.bool false) rfl (PO.move rfl) rfl ?_
 refine WT.altOff 79 rfl rfl rfl rfl rfl ⟨(StabL.anc rfl (StabL.anc rfl (StabL.anc rfl (StabL.anc rfl (StabL.anc rfl (StabL.anc rfl (StabL.anc rfl (StabL.anc rfl (StabL.anc rfl (StabL.anc rfl (StabL.anc rfl (StabL.anc rfl (StabL.anc rfl (StabL.anc rfl (StabL.anc rfl (StabL.anc rfl (StabL.anc rfl (StabL.anc rfl (StabL.anc rfl (StabL.anc rfl (StabL.anc rfl (StabL.anc rfl (StabL.anc rfl (StabL.anc rfl (StabL.anc rfl (StabL.anc rfl (StabL.anc rfl (StabL.anc rfl (StabL.anc rfl (StabL.anc rfl (StabL.anc rfl (StabL.anc rfl (StabL.anc rfl (StabL.anc rfl (StabL.anc rfl (StabL.anc rfl trivial)))))))))))))))))))))))))))))))))))), ?_⟩ ?_
 refine Tp (.bool false) rfl (PO.pickF rfl rfl rfl) rfl ?_
 refine Tp (.bool false) rfl (PO.assign rfl) rfl ?_
 refine WT.fin ?_
 refine WQ.drop ?_
 refine WQ.drop ?_
 obtain rfl := Option.some.inj h
 refine WQ.thenJ ?_
 exact ⟨(hle76.trans hle81), rfl, rfl⟩
 exact WT.no
 exact WT.no
 exact WT.no
 exact WT.no
 have h := ite_f hb83 h
 refine WT.pureOff 44 rfl rfl rfl hb83 rfl ?_
 refine WT.pureOff 44 rfl rfl rfl hb83 rfl ?_
 refine WT.pureOff 44 rfl rfl rfl hb83 rfl ?_
 refine Tp (.bool false) rfl (PO.pickF rfl hb83 rfl) rfl ?_
 refine Tp (.bool false) rfl (PO.move rfl) rfl ?_
 refine WT.pureOff 49 rfl rfl rfl rfl rfl ?_
 refine Tp (.bool false) rfl (PO.pickF rfl rfl rfl) rfl ?_
 refine Tp (.bool false) rfl (PO.move rfl) rfl ?_
 refine WT.pureOff 52 rfl rfl rfl rfl rfl ?_
 refine WT.pureOff 52 rfl rfl rfl rfl rfl ?_
 refine WT.pureOff 52 rfl rfl rfl rfl rfl ?_
 refine WT.pureOff 52 rfl rfl rfl rfl rfl ?_
 refine WT.pureOff 52 rfl rfl rfl rfl rfl ?_
 refine WT.pureOff 52 rfl rfl rfl rfl rfl ?_
 refine Tp (.bool false) rfl (PO.pickF rfl rfl rfl) rfl ?_
 refine Tp (.bool false) rfl (PO.move rfl) rfl ?_
 refine WT.pureOff 60 rfl rfl rfl rfl rfl ?_
 refine WT.pureOff 60 rfl rfl rfl rfl rfl ?_
 refine WT.pureOff 60 rfl rfl rfl rfl rfl ?_
 refine WT.pureOff 60 rfl rfl rfl rfl rfl ?_
 refine WT.pureOff 60 rfl rfl rfl rfl rfl ?_
 refine Tp (.bool false) rfl (PO.pickF rfl rfl rfl) rfl ?_
 refine Tp (.bool false) rfl (PO.move rfl) rfl ?_
 refine WT.pureOff 67 rfl rfl rfl rfl rfl ?_
 refine WT.pureOff 67 rfl rfl rfl rfl rfl ?_
 refine WT.pureOff 67 rfl rfl rfl rfl rfl ?_
 refine WT.altOff 67 rfl rfl rfl rfl rfl ⟨(StabL.anc rfl (StabL.anc rfl (StabL.anc rfl (StabL.anc rfl (StabL.anc rfl (StabL.anc rfl (StabL.anc rfl (StabL.anc rfl (StabL.anc rfl (StabL.anc rfl (StabL.anc rfl (StabL.anc rfl (StabL.anc rfl (StabL.anc rfl (StabL.anc rfl (StabL.anc rfl (StabL.anc rfl (StabL.anc rfl (StabL.anc rfl (StabL.anc rfl (StabL.anc rfl (StabL.anc rfl (StabL.anc rfl (StabL.anc rfl (StabL.anc rfl (StabL.anc rfl (StabL.anc rfl (StabL.anc rfl (StabL.anc rfl (StabL.anc rfl trivial)))))))))))))))))))))))))))))), ?_⟩ ?_
 refine Tp (.bool false) rfl (PO.pickF rfl rfl rfl) rfl ?_
 refine Tp (.bool false) rfl (PO.move rfl) rfl ?_
 refine WT.pureOff 73 rfl rfl rfl rfl rfl ?_
 refine WT.pureOff 73 rfl rfl rfl rfl rfl ?_
 refine WT.altOff 73 rfl rfl rfl rfl rfl ⟨(StabL.st (StabA.off 73 rfl rfl rfl rfl rfl) (StabL.anc rfl (StabL.anc rfl (StabL.anc rfl (StabL.anc rfl (StabL.anc rfl (StabL.anc rfl (StabL.anc rfl (StabL.anc rfl (StabL.anc rfl (StabL.anc rfl (StabL.anc rfl (StabL.anc rfl (StabL.anc rfl (StabL.anc rfl (StabL.anc rfl (StabL.anc rfl (StabL.anc rfl (StabL.anc rfl (StabL.anc rfl (StabL.anc rfl (StabL.anc rfl (StabL.anc rfl (StabL.anc rfl (StabL.anc rfl (StabL.anc rfl (StabL.anc rfl (StabL.anc rfl (StabL.anc rfl (StabL.anc rfl (StabL.anc rfl (StabL.anc rfl (StabL.anc rfl (StabL.anc rfl trivial)))))))))))))))))))))))))))))))))), ?_⟩ ?_
 refine WT.altOff 73 rfl rfl rfl rfl rfl ⟨(StabL.anc rfl (StabL.anc rfl (StabL.anc rfl (StabL.anc rfl (StabL.anc rfl (StabL.anc rfl (StabL.anc rfl (StabL.anc rfl (StabL.anc rfl (StabL.anc rfl (StabL.anc rfl (StabL.anc rfl (StabL.anc rfl (StabL.anc rfl (StabL.anc rfl (StabL.anc rfl (StabL.anc rfl (StabL.anc rfl (StabL.anc rfl (StabL.anc rfl (StabL.anc rfl (StabL.anc rfl (StabL.anc rfl (StabL.anc rfl (StabL.anc rfl (StabL.anc rfl (StabL.anc rfl (StabL.anc rfl (StabL.anc rfl (StabL.anc rfl (StabL.anc rfl (StabL.anc rfl (StabL.anc rfl (StabL.anc rfl trivial)))))))))))))))))))))))))))))))))), ?_⟩ ?_
 refine Tp (.bool false) rfl (PO.pickF rfl rfl rfl) rfl ?_
 refine Tp (.bool false) rfl (PO.move rfl) rfl ?_
 refine WT.altOff 79 rfl rfl rfl rfl rfl ⟨(StabL.anc rfl (StabL.anc rfl (StabL.anc rfl (StabL.anc rfl (StabL.anc rfl (StabL.anc rfl (StabL.anc rfl (StabL.anc rfl (StabL.anc rfl (StabL.anc rfl (StabL.anc rfl (StabL.anc rfl (StabL.anc rfl (StabL.anc rfl (StabL.anc rfl (StabL.anc rfl (StabL.anc rfl (StabL.anc rfl (StabL.anc rfl (StabL.anc rfl (StabL.anc rfl (StabL.anc rfl (StabL.anc rfl (StabL.anc rfl (StabL.anc rfl (StabL.anc rfl (StabL.anc rfl (StabL.anc rfl (StabL.anc rfl (StabL.anc rfl (StabL.anc rfl (StabL.anc rfl (StabL.anc rfl (StabL.anc rfl (StabL.anc rfl (StabL.anc rfl trivial)))))))))))))))))))))))))))))))))))), ?_⟩ ?_
 refine Tp (.bool false) rfl (PO.pickF rfl rfl rfl) rfl ?_
 refine Tp (.bool false) rfl (PO.assign rfl) rfl ?_
 refine WT.fin ?_
 refine WQ.drop ?_
 refine WQ.drop ?_
 obtain rfl := Option.some.inj h
 refine WQ.thenJ ?_
 exact ⟨(hle76.trans hle81), rfl, rfl⟩
 exact WT.no
 exact WT.no
 exact WT.no
 exact WT.no
 exact WT.no
 exact WT.no
 rintro ρ72 M72 H72 ⟨hle72, rfl, hs72_6⟩
 have h0_0 := h0_0.mono hle72
 have hE := hE.mono hle72
 refine WC.ret ?_
 refine WQ.drop ?_
 exact WQ.returnsF h [] rfl (results1 rfl hs72_6) ((((((hle25.trans hle36).trans hle43).trans hle58).trans hle64).trans hle69).trans hle72) ⟨rfl, rfl⟩

noncomputable def f_ref01_Again (a0 : T_ref01_Chain) : Option T_ref01_Chain :=
  (((if (decide ((a0.Steps.length : Int) = (0 : Int))) = true then (some true) else (some (decide (a0.Code = (0 : Int))))) : Option Bool).bind fun (x23 : Bool) => (if x23 = true then (some a0) else (grd (0 ≤ (1 : Int) ∧ (1 : Int) ≤ (a0.Steps.length : Int) ∧ (a0.Steps.length : Int) ≤ (a0.Steps.length : Int)) (some (⟨sub a0.Steps (1 : Int) (a0.Steps.length : Int), a0.Code⟩ : T_ref01_Chain)))))
def f_ref01_Again_post (a0 : T_ref01_Chain) (v0_0 : Value) : T_ref01_Chain → Value → IM → HL → Prop :=
  fun (r0 : T_ref01_Chain) (v : Value) (M' : IM) (H' : HL) => ∃ vz0_0, (.agg #[vz0_0, (.int .i64 r0.Code)]) = v ∧ H' = [] ∧ RS kd_ref01_Step M' vz0_0 r0.Steps
set_option maxHeartbeats 8000000 in
set_option maxRecDepth 100000 in
theorem f_ref01_Again_ok (a0 : T_ref01_Chain) (M : IM) (v0_0 : Value) (h0_0 : RS kd_ref01_Step M v0_0 a0.Steps) (res : T_ref01_Chain) (h : f_ref01_Again a0 = some res) :
    Tri Tryd.prog 16 #[(.agg #[v0_0, (.int .i64 a0.Code)])] M [] (f_ref01_Again_post a0 v0_0 res) := by
 unfold f_ref01_Again at h
 refine Tri.enter (fn := Tryd.f16) Tryd.func16 rfl (Nat.le_of_ble_eq_true rfl) ?_
 intro F ρ hρ
 refine Sr ?_
 refine WL.eff (EO.box (cs := #[v0_0, (.int .i64 a0.Code)]) (congrArg Value.cells (asE (.agg #[v0_0, (.int .i64 a0.Code)]) (hρ 0)))) rfl ?_
 rintro _ _ _ - ⟨rfl, g21, rfl, rfl⟩
 refine WL.eff (EO.alloc ze24 rfl) rfl ?_
 rintro _ _ _ - ⟨rfl, g22, rfl, rfl⟩
 refine Nt ?_
 refine WC.seq ?_
 obtain ⟨x23, hj24, h⟩ := bnd h
 refine WC.joinF (fun (x23 : Bool) ρ' M' H' => M.le M' ∧ [(g22, .cells #[(.slice none 0 0), (.int .i64 (0 : Int))] 24 (0, 0))] :: [(g21, .cells #[v0_0, (.int .i64 a0.Code)] 24 (0, 0))] :: F = H' ∧ ρ' 1 = (.pointer (some ⟨g21, 0, none⟩)) ∧ ρ' 2 = (.pointer (some ⟨g22, 0, none⟩)) ∧ ρ' 11 = (.bool x23)) x23 ?_ ?_
 have h324 := h
 have h := hj24
 refine WC.region ?_
 refine Pu (.pointer (some ⟨g21, 0, none⟩)) (PO.fieldAddr fo24_0 rfl rfl) rfl ?_
 refine Pu v0_0 (PO.loadB 1 pl22 rfl rfl rfl) rfl ?_
 refine Pu (.int .i64 (a0.Steps.length : Int)) (PO.lenS Tryd.underlying22 rfl h0_0.len) rfl ?_
 refine Pu (.bool (decide ((a0.Steps.length : Int) = (0 : Int)))) (PO.eql rfl rfl) rfl ?_
 refine Pm (.bool (decide ((a0.Steps.length : Int) = (0 : Int)))) rfl rfl ?_
 rcases Bool.eq_false_or_eq_true (decide ((a0.Steps.length : Int) = (0 : Int))) with hb25 | hb25
 have h := ite_t hb25 h
 iterate 3 refine Of 7 rfl rfl hb25 rfl ?_
 refine Pu (.bool true) (PO.pickT rfl hb25 rfl) rfl ?_
 refine WL.nil ?_
 obtain rfl := Option.some.inj h
 refine WQ.thenJ ?_
 exact ⟨(IM.le.refl _), rfl, rfl, rfl, rfl⟩
 have h := ite_f hb25 h
 refine On 7 rfl rfl hb25 ?_
 refine Pu (.pointer (some ⟨g21, 1, none⟩)) (PO.fieldAddr fo24_1 rfl rfl) rfl ?_
 refine On 7 rfl rfl hb25 ?_
 refine Pu (.int .i64 a0.Code) (PO.loadB 1 pl3 rfl rfl rfl) rfl ?_
 refine On 7 rfl rfl hb25 ?_
 refine Pu (.bool (decide (a0.Code = (0 : Int)))) (PO.eql rfl rfl) rfl ?_
 refine Pu (.bool (decide (a0.Code = (0 : Int)))) (PO.pickF rfl hb25 rfl) rfl ?_
 refine WL.nil ?_
 obtain rfl := Option.some.inj h
 refine WQ.thenJ ?_
 exact ⟨(IM.le.refl _), rfl, rfl, rfl, rfl⟩
 rintro ρ24 M24 H24 ⟨hle24, rfl, hs24_1, hs24_2, hs24_11⟩
 have h0_0 := h0_0.mono hle24
 refine WC.cond (b := x23) hs24_11 (fun hb26 => ?_) (fun hb26 => ?_)
 have h := ite_t hb26 h
 refine Sr ?_
 refine Pu (.agg #[v0_0, (.int .i64 a0.Code)]) (PO.loadBA (cs := [v0_0, (.int .i64 a0.Code)]) 1 ag24 sz24 hs24_1 rfl rfl) rfl ?_
 refine WL.eff (EO.storeL (v := (.agg #[v0_0, (.int .i64 a0.Code)])) (vl := [v0_0, (.int .i64 a0.Code)]) (arr' := [v0_0, (.int .i64 a0.Code)]) rfl sz24 hs24_2 rfl (onesOf (Ones.cons (RS.one h0_0) (Ones.cons rfl Ones.nil))) rfl rfl rfl) rfl ?_
 rintro _ _ _ - ⟨rfl, rfl⟩
 refine Nt ?_
 refine WC.ret ?_
 refine WQ.thenR ?_
 refine WQ.f1 ?_
 refine WQ.drop ?_
 exact WQ.returnsD h [] (fun _ hs => hs.drop) (resultsL1 rfl (RV.cellA (cs := [v0_0, (.int .i64 a0.Code)]) 0 ag24 sz24 hs24_2 rfl rfl)) hle24 ⟨v0_0, rfl, rfl, h0_0⟩
 have h := ite_f hb26 h
 refine WC.skip ?_
 refine WQ.thenC ?_
 refine WC.seq ?_
 refine WC.draw [0, 1, 3, 0, 8, 31, 63] (.pure 0 (.pure 1 (.pure 2 (.pure 3 (.pure 4 (.pure 5 (.alt 6 .done .none))))))) mixed (by kernel_rfl) ?_
 refine Tp (.pointer (some ⟨g21, 0, none⟩)) rfl (PO.fieldAddr fo24_0 hs24_1 rfl) rfl ?_
 refine Tp v0_0 rfl (PO.loadB 1 pl22 rfl rfl rfl) rfl ?_
 obtain ⟨hg27, h⟩ := grd_i h
 have h28 := h0_0.sub hg27.1 hg27.2.1 hg27.2.2
 refine Tp (slV v0_0 2 ((1 : Int)).toNat ((a0.Steps.length : Int)).toNat) rfl (PO.slice (n := a0.Steps.length) (l := ((1 : Int)).toNat) (h := ((a0.Steps.length : Int)).toNat) Tryd.underlying22 sz63 rfl h0_0.len h0_0.cap ⟨_, _, rfl, hg27.1, rfl⟩ (boundN_ rfl) (Int.toNat_le_toNat hg27.2.1) (toNat_le_len hg27.2.2)) rfl ?_
 refine Tp (.pointer (some ⟨g21, 1, none⟩)) rfl (PO.fieldAddr fo24_1 hs24_1 rfl) rfl ?_
 refine Tp (.int .i64 a0.Code) rfl (PO.loadB 1 pl3 rfl rfl rfl) rfl ?_
 refine Tp (.agg #[(slV v0_0 2 ((1 : Int)).toNat ((a0.Steps.length : Int)).toNat), (.int .i64 a0.Code)]) rfl (PO.buildL (cl := [(slV v0_0 2 ((1 : Int)).toNat ((a0.Steps.length : Int)).toNat), (.int .i64 a0.Code)]) ze24 fp24 (Parts.cons ((congrArg Value.cells (show ev _ _ = (slV v0_0 2 ((1 : Int)).toNat ((a0.Steps.length : Int)).toNat) from rfl)).trans h28.cells) (Parts.cons (congrArg Value.cells (show ev _ _ = (.int .i64 a0.Code) from rfl)) Parts.nil)) rfl) rfl ?_
 refine WT.alt rfl (EO.storeL (v := (.agg #[(slV v0_0 2 ((1 : Int)).toNat ((a0.Steps.length : Int)).toNat), (.int .i64 a0.Code)])) (vl := [(slV v0_0 2 ((1 : Int)).toNat ((a0.Steps.length : Int)).toNat), (.int .i64 a0.Code)]) (arr' := [(slV v0_0 2 ((1 : Int)).toNat ((a0.Steps.length : Int)).toNat), (.int .i64 a0.Code)]) rfl sz24 hs24_2 rfl (onesOf (Ones.cons (RS.one h28) (Ones.cons rfl Ones.nil))) rfl rfl rfl) rfl ?_ ?_
 rintro _ _ _ - ⟨rfl, rfl⟩
 refine ⟨(StabL.anc rfl (StabL.anc rfl (StabL.anc rfl (StabL.anc rfl (StabL.anc rfl (StabL.anc rfl trivial)))))), ?_⟩
 refine WT.fin ?_
 refine WQ.thenC ?_
 refine WC.ret ?_
 refine WQ.f1 ?_
 refine WQ.drop ?_
 exact WQ.returnsD h [] (fun _ hs => hs.drop) (resultsL1 rfl (RV.cellA (cs := [(slV v0_0 2 ((1 : Int)).toNat ((a0.Steps.length : Int)).toNat), (.int .i64 a0.Code)]) 0 ag24 sz24 hs24_2 rfl rfl)) hle24 ⟨(slV v0_0 2 ((1 : Int)).toNat ((a0.Steps.length : Int)).toNat), rfl, rfl, h28⟩
 exact WT.no

noncomputable def f_fault_Both (a0 : GErr) (a1 : GErr) : Option GErr :=
  (if a0.isNil = true then (some a1) else (if a1.isNil = true then (some a0) else ((f_fault_Of a1).bind fun (r23 : Int) => (some (GErr.fault (⟨#[98, 111, 116, 104]⟩ : ByteArray) r23 a0)))))
def f_fault_Both_post (a0 : GErr) (a1 : GErr) : GErr → Value → IM → HL → Prop :=
  fun (r0 : GErr) (v : Value) (M' : IM) (H' : HL) => (GV r0) = v ∧ H' = []
set_option maxHeartbeats 8000000 in
set_option maxRecDepth 100000 in
theorem f_fault_Both_ok (a0 : GErr) (a1 : GErr) (M : IM) (hE : Env M) (res : GErr) (h : f_fault_Both a0 a1 = some res) :
    Tri Tryd.prog 17 #[(GV a0), (GV a1)] M [] (f_fault_Both_post a0 a1 res) := by
 unfold f_fault_Both at h
 refine Tri.enter (fn := Tryd.f17) Tryd.func17 rfl (Nat.le_of_ble_eq_true rfl) ?_
 intro F ρ hρ
 refine Sr ?_
 refine Pa (GV GErr.nil) rfl rfl ?_
 refine Nt ?_
 refine WC.seq ?_
 refine WC.block ?_
 refine Sr ?_
 refine Pm (GV a0) (hρ 0) rfl ?_
 refine Pu (.bool a0.isNil) (PO.errNil Tryd.underlying28 rfl) rfl ?_
 refine Pa (.bool a0.isNil) rfl rfl ?_
 refine Nt ?_
 refine WC.cond (b := a0.isNil) rfl (fun hb21 => ?_) (fun hb21 => ?_)
 have h := ite_t hb21 h
 refine Sr ?_
 refine Pm (GV a1) (hρ 1) rfl ?_
 refine Pa (GV a1) rfl rfl ?_
 refine Nt ?_
 refine WC.ret ?_
 refine WQ.blockR ?_
 refine WQ.thenR ?_
 exact WQ.returnsF h [] rfl (results1 rfl rfl) (IM.le.refl _) ⟨rfl, rfl⟩
 have h := ite_f hb21 h
 refine Sr ?_
 refine Pm (GV a1) (hρ 1) rfl ?_
 refine Pu (.bool a1.isNil) (PO.errNil Tryd.underlying28 rfl) rfl ?_
 refine Pa (.bool a1.isNil) rfl rfl ?_
 refine Nt ?_
 refine WC.cond (b := a1.isNil) rfl (fun hb22 => ?_) (fun hb22 => ?_)
 have h := ite_t hb22 h
 refine Sr ?_
 refine Pm (GV a0) (hρ 0) rfl ?_
 refine Pa (GV a0) rfl rfl ?_
 refine Nt ?_
 refine WC.ret ?_
 refine WQ.blockR ?_
 refine WQ.thenR ?_
 exact WQ.returnsF h [] rfl (results1 rfl rfl) (IM.le.refl _) ⟨rfl, rfl⟩
 have h := ite_f hb22 h
 refine WC.skip ?_
 refine WQ.blockN ?_
 refine WQ.thenC ?_
 refine Sr ?_
 refine Pm (GV a1) (hρ 1) rfl ?_
 obtain ⟨r23, hr24, h⟩ := bnd h
 refine WL.eff (EO.call0 co12 (f_fault_Of_ok a1 _ hE r23 hr24) (args1 rfl)) rfl ?_
 rintro _ M25 _ hle26 ⟨_, ⟨rfl, rfl⟩, rfl⟩
 have hE := hE.mono hle26
 refine WL.a0 ?_
 refine Pm (GV a0) (hρ 0) rfl ?_
 refine Pu (.agg #[(.string (⟨#[98, 111, 116, 104]⟩ : ByteArray)), (.int .i64 r23), (GV a0)]) (PO.buildL (cl := [(.string (⟨#[98, 111, 116, 104]⟩ : ByteArray)), (.int .i64 r23), (GV a0)]) ze65 fp65 (Parts.cons (congrArg Value.cells (show ev _ _ = (.string (⟨#[98, 111, 116, 104]⟩ : ByteArray)) from rfl)) (Parts.cons (congrArg Value.cells (show ev _ _ = (.int .i64 r23) from rfl)) (Parts.cons ((congrArg Value.cells (show ev _ _ = (GV a0) from rfl)).trans (GErr.val_cells _ _ _ _)) Parts.nil))) rfl) rfl ?_
 refine Pu (GV (GErr.fault (⟨#[98, 111, 116, 104]⟩ : ByteArray) r23 a0)) (PO.makeInterface cc65 rfl) rfl ?_
 refine Pa (GV (GErr.fault (⟨#[98, 111, 116, 104]⟩ : ByteArray) r23 a0)) rfl rfl ?_
 refine Nt ?_
 refine WC.ret ?_
 exact WQ.returnsF h [] rfl (results1 rfl rfl) hle26 ⟨rfl, rfl⟩

noncomputable def f_ref01_Both (a0 : T_ref01_Chain) (a1 : T_ref01_Chain) : Option T_ref01_Chain :=
  (if (decide (a0.Code = (0 : Int))) = true then (some a1) else (if (decide (a1.Code = (0 : Int))) = true then (some a0) else ((f_ref01_Of a1).bind fun (r26 : Int) => (grd ([(⟨(⟨#[98, 111, 116, 104]⟩ : ByteArray), r26⟩ : T_ref01_Step)].length + a0.Steps.length ≤ 274877906944) (some (⟨[(⟨(⟨#[98, 111, 116, 104]⟩ : ByteArray), r26⟩ : T_ref01_Step)] ++ a0.Steps, a0.Code⟩ : T_ref01_Chain))))))
def f_ref01_Both_post (a0 : T_ref01_Chain) (a1 : T_ref01_Chain) (v0_0 v1_0 : Value) : T_ref01_Chain → Value → IM → HL → Prop :=
  fun (r0 : T_ref01_Chain) (v : Value) (M' : IM) (H' : HL) => ∃ vz0_0, (.agg #[vz0_0, (.int .i64 r0.Code)]) = v ∧ H' = [] ∧ RS kd_ref01_Step M' vz0_0 r0.Steps
set_option maxHeartbeats 8000000 in
set_option maxRecDepth 100000 in
theorem f_ref01_Both_ok (a0 : T_ref01_Chain) (a1 : T_ref01_Chain) (M : IM) (v0_0 v1_0 : Value) (h0_0 : RS kd_ref01_Step M v0_0 a0.Steps) (h1_0 : RS kd_ref01_Step M v1_0 a1.Steps) (res : T_ref01_Chain) (h : f_ref01_Both a0 a1 = some res) :
    Tri Tryd.prog 18 #[(.agg #[v0_0, (.int .i64 a0.Code)]), (.agg #[v1_0, (.int .i64 a1.Code)])] M [] (f_ref01_Both_post a0 a1 v0_0 v1_0 res) := by
 unfold f_ref01_Both at h
 refine Tri.enter (fn := Tryd.f18) Tryd.func18 rfl (Nat.le_of_ble_eq_true rfl) ?_
 intro F ρ hρ
 refine Sr ?_
 refine WL.eff (EO.box (cs := #[v0_0, (.int .i64 a0.Code)]) (congrArg Value.cells (asE (.agg #[v0_0, (.int .i64 a0.Code)]) (hρ 0)))) rfl ?_
 rintro _ _ _ - ⟨rfl, g21, rfl, rfl⟩
 refine WL.eff (EO.box (cs := #[v1_0, (.int .i64 a1.Code)]) (congrArg Value.cells (asE (.agg #[v1_0, (.int .i64 a1.Code)]) (hρ 1)))) rfl ?_
 rintro _ _ _ - ⟨rfl, g22, rfl, rfl⟩
 refine WL.eff (EO.alloc ze24 rfl) rfl ?_
 rintro _ _ _ - ⟨rfl, g23, rfl, rfl⟩
 refine Nt ?_
 refine WC.seq ?_
 refine Sr ?_
 refine Pu (.pointer (some ⟨g21, 1, none⟩)) (PO.fieldAddr fo24_1 rfl rfl) rfl ?_
 refine Pu (.int .i64 a0.Code) (PO.loadB 2 pl3 rfl rfl rfl) rfl ?_
 refine Pu (.bool (decide (a0.Code = (0 : Int)))) (PO.eql rfl rfl) rfl ?_
 refine Nt ?_
 refine WC.cond (b := decide (a0.Code = (0 : Int))) rfl (fun hb24 => ?_) (fun hb24 => ?_)
 have h := ite_t hb24 h
 refine Sr ?_
 refine Pu (.agg #[v1_0, (.int .i64 a1.Code)]) (PO.loadBA (cs := [v1_0, (.int .i64 a1.Code)]) 1 ag24 sz24 rfl rfl rfl) rfl ?_
 refine WL.eff (EO.storeL (v := (.agg #[v1_0, (.int .i64 a1.Code)])) (vl := [v1_0, (.int .i64 a1.Code)]) (arr' := [v1_0, (.int .i64 a1.Code)]) rfl sz24 rfl rfl (onesOf (Ones.cons (RS.one h1_0) (Ones.cons rfl Ones.nil))) rfl rfl rfl) rfl ?_
 rintro _ _ _ - ⟨rfl, rfl⟩
 refine Nt ?_
 refine WC.ret ?_
 refine WQ.thenR ?_
 refine WQ.f1 ?_
 refine WQ.drop ?_
 refine WQ.f1 ?_
 refine WQ.drop ?_
 exact WQ.returnsD h [] (fun _ hs => hs.drop) (resultsL1 rfl (RV.cellA (cs := [v1_0, (.int .i64 a1.Code)]) 0 ag24 sz24 rfl rfl rfl)) (IM.le.refl _) ⟨v1_0, rfl, rfl, h1_0⟩
 have h := ite_f hb24 h
 refine WC.skip ?_
 refine WQ.thenC ?_
 refine WC.seq ?_
 refine Sr ?_
 refine Pu (.pointer (some ⟨g22, 1, none⟩)) (PO.fieldAddr fo24_1 rfl rfl) rfl ?_
 refine Pu (.int .i64 a1.Code) (PO.loadB 1 pl3 rfl rfl rfl) rfl ?_
 refine Pu (.bool (decide (a1.Code = (0 : Int)))) (PO.eql rfl rfl) rfl ?_
 refine Nt ?_
 refine WC.cond (b := decide (a1.Code = (0 : Int))) rfl (fun hb25 => ?_) (fun hb25 => ?_)
 have h := ite_t hb25 h
 refine Sr ?_
 refine Pu (.agg #[v0_0, (.int .i64 a0.Code)]) (PO.loadBA (cs := [v0_0, (.int .i64 a0.Code)]) 2 ag24 sz24 rfl rfl rfl) rfl ?_
 refine WL.eff (EO.storeL (v := (.agg #[v0_0, (.int .i64 a0.Code)])) (vl := [v0_0, (.int .i64 a0.Code)]) (arr' := [v0_0, (.int .i64 a0.Code)]) rfl sz24 rfl rfl (onesOf (Ones.cons (RS.one h0_0) (Ones.cons rfl Ones.nil))) rfl rfl rfl) rfl ?_
 rintro _ _ _ - ⟨rfl, rfl⟩
 refine Nt ?_
 refine WC.ret ?_
 refine WQ.thenR ?_
 refine WQ.f1 ?_
 refine WQ.drop ?_
 refine WQ.f1 ?_
 refine WQ.drop ?_
 exact WQ.returnsD h [] (fun _ hs => hs.drop) (resultsL1 rfl (RV.cellA (cs := [v0_0, (.int .i64 a0.Code)]) 0 ag24 sz24 rfl rfl rfl)) (IM.le.refl _) ⟨v0_0, rfl, rfl, h0_0⟩
 have h := ite_f hb25 h
 refine WC.skip ?_
 refine WQ.thenC ?_
 refine Sr ?_
 refine Pu (.agg #[v1_0, (.int .i64 a1.Code)]) (PO.loadBA (cs := [v1_0, (.int .i64 a1.Code)]) 1 ag24 sz24 rfl rfl rfl) rfl ?_
 obtain ⟨r26, hr27, h⟩ := bnd h
 refine WL.eff (EO.call0 co35 (f_ref01_Of_ok a1 _ _ h1_0 r26 hr27) (args1 rfl)) rfl ?_
 rintro _ M28 _ hle29 ⟨_, ⟨rfl, rfl⟩, rfl⟩
 have h1_0 := h1_0.mono hle29
 have h0_0 := h0_0.mono hle29
 refine WL.a0 ?_
 refine Pu (.agg #[(.string (⟨#[98, 111, 116, 104]⟩ : ByteArray)), (.int .i64 r26)]) (PO.buildL (cl := [(.string (⟨#[98, 111, 116, 104]⟩ : ByteArray)), (.int .i64 r26)]) ze63 fp63 (Parts.cons (congrArg Value.cells (show ev _ _ = (.string (⟨#[98, 111, 116, 104]⟩ : ByteArray)) from rfl)) (Parts.cons (congrArg Value.cells (show ev _ _ = (.int .i64 r26) from rfl)) Parts.nil)) rfl) rfl ?_
 refine WL.eff (EO.buildSliceL (cl := [(.string (⟨#[98, 111, 116, 104]⟩ : ByteArray)), (.int .i64 r26)]) Tryd.underlying22 iz63 rfl (Parts.cons (congrArg Value.cells (show ev _ _ = (.agg #[(.string (⟨#[98, 111, 116, 104]⟩ : ByteArray)), (.int .i64 r26)]) from rfl)) Parts.nil) rfl) rfl ?_
 rintro _ _ _ - ⟨rfl, g31, rfl, rfl⟩
 have h33 : OwnS kd_ref01_Step M28 (.slice (some ⟨g31, 0, none⟩) 1 1) [(⟨(⟨#[98, 111, 116, 104]⟩ : ByteArray), r26⟩ : T_ref01_Step)] [(g31, .cells #[(.string (⟨#[98, 111, 116, 104]⟩ : ByteArray)), (.int .i64 r26)] 63 (0, 0))] := OwnS.rows (css := [[(.string (⟨#[98, 111, 116, 104]⟩ : ByteArray)), (.int .i64 r26)]]) (Rows.cons (kd_ref01_Step_mk (x := (⟨(⟨#[98, 111, 116, 104]⟩ : ByteArray), r26⟩ : T_ref01_Step))) Rows.nil) rfl rfl
 refine Pa (.slice (some ⟨g31, 0, none⟩) 1 1) rfl rfl ?_
 refine Ns ?_
 refine Pm (.slice (some ⟨g31, 0, none⟩) 1 1) rfl rfl ?_
 refine Pu (.pointer (some ⟨g21, 0, none⟩)) (PO.fieldAddr fo24_0 rfl rfl) rfl ?_
 refine Pu v0_0 (PO.loadB 3 pl22 rfl rfl rfl) rfl ?_
 obtain ⟨hg37, h⟩ := grd_i h
 refine WL.eff (EO.append (dd := kd_ref01_Step) (xs := [(⟨(⟨#[98, 111, 116, 104]⟩ : ByteArray), r26⟩ : T_ref01_Step)]) (ys := a0.Steps) Tryd.underlying22 Tryd.underlying22 in63 rfl (appB (by decide) hg37) (by decide) rfl rfl h33 (h0_0.src _)) rfl ?_
 rintro v36 _ _ - ⟨rfl, c34, rfl, h35⟩
 refine Pa v36 rfl rfl ?_
 refine Ns ?_
 refine Pm v36 rfl rfl ?_
 refine Pu (.pointer (some ⟨g21, 1, none⟩)) (PO.fieldAddr fo24_1 rfl rfl) rfl ?_
 refine Pu (.int .i64 a0.Code) (PO.loadB 3 pl3 rfl rfl rfl) rfl ?_
 refine Pu (.agg #[v36, (.int .i64 a0.Code)]) (PO.buildL (cl := [v36, (.int .i64 a0.Code)]) ze24 fp24 (Parts.cons ((congrArg Value.cells (show ev _ _ = v36 from rfl)).trans h35.cells) (Parts.cons (congrArg Value.cells (show ev _ _ = (.int .i64 a0.Code) from rfl)) Parts.nil)) rfl) rfl ?_
 refine WL.f1 ?_
 refine WL.eff (EO.storeL (v := (.agg #[v36, (.int .i64 a0.Code)])) (vl := [v36, (.int .i64 a0.Code)]) (arr' := [v36, (.int .i64 a0.Code)]) rfl sz24 rfl rfl (onesOf (Ones.cons (OwnS.one h35) (Ones.cons rfl Ones.nil))) rfl rfl rfl) rfl ?_
 rintro _ _ _ - ⟨rfl, rfl⟩
 refine Nt ?_
 refine WC.ret ?_
 refine WQ.f1 ?_
 refine WQ.know (fun _ hs => h35.rs hs) (fun hf39 => ?_)
 refine WQ.freeze (fun hle38 => ?_)
 have h0_0 := h0_0.mono hle38
 have h1_0 := h1_0.mono hle38
 refine WQ.f1 ?_
 refine WQ.drop ?_
 refine WQ.f1 ?_
 refine WQ.drop ?_
 exact WQ.returnsD h [] (fun _ hs => hs.drop) (resultsL1 rfl (RV.cellA (cs := [v36, (.int .i64 a0.Code)]) 0 ag24 sz24 rfl rfl rfl)) (hle29.trans hle38) ⟨v36, rfl, rfl, hf39⟩


end Go.Proofs.YtmifmgpfjamdkaaDoor.G
