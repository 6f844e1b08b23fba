/- Go functions: what they come to, and that they do. Printed by a program of the session (gen). -/
import Derived.Test.YtmifmgpfjamdkaaDoorTF
import Derived.Test.YtmifmgpfjamdkaaDoorT3
set_option linter.unusedVariables false
set_option linter.unusedSimpArgs false
namespace Go.Proofs.YtmifmgpfjamdkaaDoor.G
open Go Go.KK

noncomputable def f_law13_SpansKeeps (a0 : (List T_api_Span)) (a1 : Int) (a2 : Int) (a3 : Int) (a4 : (List Int)) : Option Bool :=
  (((if (decide ((200 : Int) < (a0.length : Int))) = true then (some true) else (some (decide ((200 : Int) < (a4.length : Int))))) : Option Bool).bind fun (x21 : Bool) => (if x21 = true then ((f_law13_works).bind fun (r25 : Bool) => (some r25)) else ((f_spans_Check a0).bind fun (r30 : GErr) => ((f_ref13_Check a0).bind fun (r35, r36) => ((f_fault_Where r30).bind fun (r42, r43) => ((((f_fault_Of r30).bind fun (r51 : Int) => (if (decide (r51 ≠ r35)) = true then (some true) else (if (!((decide (r35 ≠ (0 : Int))) == r43)) = true then (some true) else (if (decide (r35 ≠ (0 : Int))) = true then (some (decide (r42 ≠ r36))) else (some false))))) : Option Bool).bind fun (x49 : Bool) => (if x49 = true then (some false) else ((f_law13_may a0).bind fun (r60 : Bool) => (if (!r60) = true then ((f_law13_works).bind fun (r66 : Bool) => (some r66)) else ((((f_spans_Add a0 a1 a2).bind fun (r73 : (List T_api_Span)) => ((f_ref13_Add a0 a1 a2).bind fun (r78 : (List T_api_Span)) => ((f_ref13_Same r73 r78).bind fun (r83 : Bool) => (if r83 = true then ((f_law13_terms a4).bind fun (r95 : (List T_api_Batch)) => ((f_spans_Of (IntKind.i64.wrap a3) a1 r95).bind fun (r100 : (List T_api_Span)) => ((f_law13_terms a4).bind fun (r108 : (List T_api_Batch)) => ((f_ref13_Of (IntKind.i64.wrap a3) a1 r108).bind fun (r113 : (List T_api_Span)) => ((f_ref13_Same r100 r113).bind fun (r121 : Bool) => (if r121 = true then ((f_law13_works).bind fun (r133 : Bool) => (some r133)) else (some false))))))) else (some false))))) : Option Bool).bind fun (x71 : Bool) => (some x71)))))))))))
def f_law13_SpansKeeps_post (a0 : (List T_api_Span)) (a1 : Int) (a2 : Int) (a3 : Int) (a4 : (List Int)) (v0 v4 : Value) : Bool → Value → IM → HL → Prop :=
  fun (r0 : Bool) (v : Value) (M' : IM) (H' : HL) => (.bool r0) = v ∧ H' = []
set_option maxHeartbeats 1000000 in
set_option maxRecDepth 100000 in
theorem f_law13_SpansKeeps_ok (a0 : (List T_api_Span)) (a1 : Int) (a2 : Int) (a3 : Int) (a4 : (List Int)) (M : IM) (v0 v4 : Value) (h0 : RS kd_api_Span M v0 a0) (h4 : RS (Kd.int .u8) M v4 a4) (hE : Env M) (res : Bool) (h : f_law13_SpansKeeps a0 a1 a2 a3 a4 = some res) :
    Tri Tryd.prog 5 #[v0, (.int .i64 a1), (.int .i64 a2), (.int .u16 a3), v4] M [] (f_law13_SpansKeeps_post a0 a1 a2 a3 a4 v0 v4 res) := by
 unfold f_law13_SpansKeeps at h
 refine Tri.enter (fn := Tryd.f5) Tryd.func5 rfl (Nat.le_of_ble_eq_true rfl) ?_
 intro F ρ hρ
 refine Sr ?_
 refine Pa (.bool false) rfl rfl ?_
 refine Nt ?_
 refine WC.seq ?_
 obtain ⟨x21, hj22, h⟩ := bnd h
 refine WC.joinF (fun (x21 : Bool) ρ' M' H' => M.le M' ∧ F = H' ∧ ρ' 0 = v0 ∧ ρ' 1 = (.int .i64 a1) ∧ ρ' 2 = (.int .i64 a2) ∧ ρ' 3 = (.int .u16 a3) ∧ ρ' 4 = v4 ∧ ρ' 23 = (.bool x21)) x21 ?_ ?_
 have h322 := h
 have h := hj22
 refine WC.region ?_
 refine Pm v0 (hρ 0) rfl ?_
 refine Pu (.int .i64 (a0.length : Int)) (PO.lenS Tryd.underlying45 rfl h0.len) rfl ?_
 refine Pu (.bool (decide ((200 : Int) < (a0.length : Int)))) (PO.gtr rfl rfl) rfl ?_
 refine Pm (.bool (decide ((200 : Int) < (a0.length : Int)))) rfl rfl ?_
 rcases Bool.eq_false_or_eq_true (decide ((200 : Int) < (a0.length : Int))) with hb23 | hb23
 have h := ite_t hb23 h
 iterate 3 refine Of 19 rfl rfl hb23 rfl ?_
 refine Pu (.bool true) (PO.pickT rfl hb23 rfl) rfl ?_
 refine WL.nil ?_
 obtain rfl := Option.some.inj h
 refine WQ.thenJ ?_
 exact ⟨(IM.le.refl _), rfl, (hρ 0), (hρ 1), (hρ 2), (hρ 3), (hρ 4), rfl⟩
 have h := ite_f hb23 h
 refine On 19 rfl rfl hb23 ?_
 refine Pm v4 (hρ 4) rfl ?_
 refine On 19 rfl rfl hb23 ?_
 refine Pu (.int .i64 (a4.length : Int)) (PO.lenS Tryd.underlying47 rfl h4.len) rfl ?_
 refine On 19 rfl rfl hb23 ?_
 refine Pu (.bool (decide ((200 : Int) < (a4.length : Int)))) (PO.gtr rfl rfl) rfl ?_
 refine Pu (.bool (decide ((200 : Int) < (a4.length : Int)))) (PO.pickF rfl hb23 rfl) rfl ?_
 refine WL.nil ?_
 obtain rfl := Option.some.inj h
 refine WQ.thenJ ?_
 exact ⟨(IM.le.refl _), rfl, (hρ 0), (hρ 1), (hρ 2), (hρ 3), (hρ 4), rfl⟩
 rintro ρ22 M22 H22 ⟨hle22, rfl, hs22_0, hs22_1, hs22_2, hs22_3, hs22_4, hs22_23⟩
 have h0 := h0.mono hle22
 have h4 := h4.mono hle22
 have hE := hE.mono hle22
 refine WC.cond (b := x21) hs22_23 (fun hb24 => ?_) (fun hb24 => ?_)
 have h := ite_t hb24 h
 refine Sr ?_
 obtain ⟨r25, hr26, h⟩ := bnd h
 refine WL.eff (EO.call0 co19 (f_law13_works_ok _ r25 hr26) (args0)) rfl ?_
 rintro _ M27 _ hle28 ⟨_, ⟨rfl, rfl⟩, rfl⟩
 have h0 := h0.mono hle28
 have h4 := h4.mono hle28
 have hE := hE.mono hle28
 refine WL.a0 ?_
 refine Pa (.bool r25) rfl rfl ?_
 refine Nt ?_
 refine WC.ret ?_
 refine WQ.thenR ?_
 exact WQ.returnsF h [] rfl (results1 rfl rfl) (hle22.trans hle28) ⟨rfl, rfl⟩
 have h := ite_f hb24 h
 refine WC.skip ?_
 refine WQ.thenC ?_
 refine Sr ?_
 refine Pm v0 hs22_0 rfl ?_
 obtain ⟨r30, hr31, h⟩ := bnd h
 refine WL.eff (EO.call0 co20 (f_spans_Check_ok a0 _ _ h0 r30 hr31) (args1 rfl)) rfl ?_
 rintro _ M32 _ hle33 ⟨_, ⟨rfl, rfl⟩, rfl⟩
 have h0 := h0.mono hle33
 have h4 := h4.mono hle33
 have hE := hE.mono hle33
 refine WL.a0 ?_
 refine Pa (GV r30) rfl rfl ?_
 refine Ns ?_
 refine Pm v0 hs22_0 rfl ?_
 obtain ⟨⟨r35, r36⟩, hr37, h⟩ := bnd h
 refine WL.eff (EO.call0 co21 (f_ref13_Check_ok a0 _ _ h0 (r35, r36) hr37) (args1 rfl)) rfl ?_
 rintro _ M38 _ hle39 ⟨_, ⟨rfl, rfl⟩, rfl⟩
 have h0 := h0.mono hle39
 have h4 := h4.mono hle39
 have hE := hE.mono hle39
 refine WL.a0 ?_
 refine Pm (.tuple #[(.int .i64 r35), (.int .i64 r36)]) rfl rfl ?_
 refine Pu (.int .i64 r35) (PO.extract rfl rfl) rfl ?_
 refine Pu (.int .i64 r36) (PO.extract rfl rfl) rfl ?_
 refine Pa (.int .i64 r35) rfl rfl ?_
 refine Pa (.int .i64 r36) rfl rfl ?_
 refine Ns ?_
 refine Pm (GV r30) rfl rfl ?_
 obtain ⟨⟨r42, r43⟩, hr44, h⟩ := bnd h
 refine WL.eff (EO.call0 co10 (f_fault_Where_ok r30 _ hE (r42, r43) hr44) (args1 rfl)) rfl ?_
 rintro _ M45 _ hle46 ⟨_, ⟨rfl, rfl⟩, rfl⟩
 have h0 := h0.mono hle46
 have h4 := h4.mono hle46
 have hE := hE.mono hle46
 refine WL.a0 ?_
 refine Pm (.tuple #[(.int .i64 r42), (.bool r43)]) rfl rfl ?_
 refine Pu (.int .i64 r42) (PO.extract rfl rfl) rfl ?_
 refine Pu (.bool r43) (PO.extract rfl rfl) rfl ?_
 refine Pa (.int .i64 r42) rfl rfl ?_
 refine Pa (.bool r43) rfl rfl ?_
 refine Nt ?_
 refine WC.seq ?_
 obtain ⟨x49, hj50, h⟩ := bnd h
 refine WC.joinF (fun (x49 : Bool) ρ' M' H' => M45.le M' ∧ F = H' ∧ ρ' 0 = v0 ∧ ρ' 1 = (.int .i64 a1) ∧ ρ' 2 = (.int .i64 a2) ∧ ρ' 3 = (.int .u16 a3) ∧ ρ' 4 = v4 ∧ ρ' 55 = (.bool x49)) x49 ?_ ?_
 have h350 := h
 have h := hj50
 refine WC.region ?_
 refine Pm (GV r30) rfl rfl ?_
 obtain ⟨r51, hr52, h⟩ := bnd h
 refine WL.eff (EO.call0 co12 (f_fault_Of_ok r30 _ hE r51 hr52) (args1 rfl)) rfl ?_
 rintro _ M53 _ hle54 ⟨_, ⟨rfl, rfl⟩, rfl⟩
 have h0 := h0.mono hle54
 have h4 := h4.mono hle54
 have hE := hE.mono hle54
 refine WL.a0 ?_
 refine Pm (.int .i64 r35) rfl rfl ?_
 refine Pu (.bool (decide (r51 ≠ r35))) (PO.neq rfl rfl) rfl ?_
 refine Pm (.bool (decide (r51 ≠ r35))) rfl rfl ?_
 rcases Bool.eq_false_or_eq_true (decide (r51 ≠ r35)) with hb56 | hb56
 have h := ite_t hb56 h
 iterate 4 refine Of 41 rfl rfl hb56 rfl ?_
 refine Pu (.bool true) (PO.pickT rfl hb56 rfl) rfl ?_
 refine Pm (.bool true) rfl rfl ?_
 iterate 3 refine Of 47 rfl rfl rfl rfl ?_
 refine WL.offU 50 rfl rfl rfl ?_
 refine WL.offU 50 rfl rfl rfl ?_
 refine WL.offU 50 rfl rfl rfl ?_
 refine Of 47 rfl rfl rfl rfl ?_
 refine Pu (.bool true) (PO.pickT rfl rfl rfl) rfl ?_
 refine WL.nil ?_
 obtain rfl := Option.some.inj h
 refine WQ.thenJ ?_
 exact ⟨hle54, rfl, hs22_0, hs22_1, hs22_2, hs22_3, hs22_4, rfl⟩
 have h := ite_f hb56 h
 refine On 41 rfl rfl hb56 ?_
 refine Pm (.int .i64 r35) rfl rfl ?_
 refine On 41 rfl rfl hb56 ?_
 refine Pu (.bool (decide (r35 ≠ (0 : Int)))) (PO.neq rfl rfl) rfl ?_
 refine On 41 rfl rfl hb56 ?_
 refine Pm (.bool r43) rfl rfl ?_
 refine On 41 rfl rfl hb56 ?_
 refine Pu (.bool (!((decide (r35 ≠ (0 : Int))) == r43))) (PO.bneq Tryd.underlying4 rfl rfl) rfl ?_
 refine Pu (.bool (!((decide (r35 ≠ (0 : Int))) == r43))) (PO.pickF rfl hb56 rfl) rfl ?_
 refine Pm (.bool (!((decide (r35 ≠ (0 : Int))) == r43))) rfl rfl ?_
 rcases Bool.eq_false_or_eq_true (!((decide (r35 ≠ (0 : Int))) == r43)) with hb57 | hb57
 have h := ite_t hb57 h
 iterate 3 refine Of 47 rfl rfl hb57 rfl ?_
 refine WL.offU 50 rfl rfl rfl ?_
 refine WL.offU 50 rfl rfl rfl ?_
 refine WL.offU 50 rfl rfl rfl ?_
 refine Of 47 rfl rfl hb57 rfl ?_
 refine Pu (.bool true) (PO.pickT rfl hb57 rfl) rfl ?_
 refine WL.nil ?_
 obtain rfl := Option.some.inj h
 refine WQ.thenJ ?_
 exact ⟨hle54, rfl, hs22_0, hs22_1, hs22_2, hs22_3, hs22_4, rfl⟩
 have h := ite_f hb57 h
 refine On 47 rfl rfl hb57 ?_
 refine Pm (.int .i64 r35) rfl rfl ?_
 refine On 47 rfl rfl hb57 ?_
 refine Pu (.bool (decide (r35 ≠ (0 : Int)))) (PO.neq rfl rfl) rfl ?_
 refine On 47 rfl rfl hb57 ?_
 refine Pm (.bool (decide (r35 ≠ (0 : Int)))) rfl rfl ?_
 rcases Bool.eq_false_or_eq_true (decide (r35 ≠ (0 : Int))) with hb58 | hb58
 have h := ite_t hb58 h
 refine On 50 rfl rfl hb58 ?_
 refine Pm (.int .i64 r42) rfl rfl ?_
 refine On 50 rfl rfl hb58 ?_
 refine Pm (.int .i64 r36) rfl rfl ?_
 refine On 50 rfl rfl hb58 ?_
 refine Pu (.bool (decide (r42 ≠ r36))) (PO.neq rfl rfl) rfl ?_
 refine On 47 rfl rfl hb57 ?_
 refine Pu (.bool (decide (r42 ≠ r36))) (PO.pickT rfl hb58 rfl) rfl ?_
 refine Pu (.bool (decide (r42 ≠ r36))) (PO.pickF rfl hb57 rfl) rfl ?_
 refine WL.nil ?_
 obtain rfl := Option.some.inj h
 refine WQ.thenJ ?_
 exact ⟨hle54, rfl, hs22_0, hs22_1, hs22_2, hs22_3, hs22_4, rfl⟩
 have h := ite_f hb58 h
 iterate 3 refine Of 50 rfl rfl hb58 rfl ?_
 refine On 47 rfl rfl hb57 ?_
 refine Pu (.bool false) (PO.pickF rfl hb58 rfl) rfl ?_
 refine Pu (.bool false) (PO.pickF rfl hb57 rfl) rfl ?_
 refine WL.nil ?_
 obtain rfl := Option.some.inj h
 refine WQ.thenJ ?_
 exact ⟨hle54, rfl, hs22_0, hs22_1, hs22_2, hs22_3, hs22_4, rfl⟩
 rintro ρ50 M50 H50 ⟨hle50, rfl, hs50_0, hs50_1, hs50_2, hs50_3, hs50_4, hs50_55⟩
 have h0 := h0.mono hle50
 have h4 := h4.mono hle50
 have hE := hE.mono hle50
 refine WC.cond (b := x49) hs50_55 (fun hb59 => ?_) (fun hb59 => ?_)
 have h := ite_t hb59 h
 refine Sr ?_
 refine Pa (.bool false) rfl rfl ?_
 refine Nt ?_
 refine WC.ret ?_
 refine WQ.thenR ?_
 exact WQ.returnsF h [] rfl (results1 rfl rfl) ((((hle22.trans hle33).trans hle39).trans hle46).trans hle50) ⟨rfl, rfl⟩
 have h := ite_f hb59 h
 refine WC.skip ?_
 refine WQ.thenC ?_
 refine WC.seq ?_
 refine Sr ?_
 refine Pm v0 hs50_0 rfl ?_
 obtain ⟨r60, hr61, h⟩ := bnd h
 refine WL.eff (EO.call0 co22 (f_law13_may_ok a0 _ _ h0 r60 hr61) (args1 rfl)) rfl ?_
 rintro _ M62 _ hle63 ⟨_, ⟨rfl, rfl⟩, rfl⟩
 have h0 := h0.mono hle63
 have h4 := h4.mono hle63
 have hE := hE.mono hle63
 refine WL.a0 ?_
 refine Pu (.bool (!r60)) (PO.not rfl) rfl ?_
 refine Nt ?_
 refine WC.cond (b := !r60) rfl (fun hb65 => ?_) (fun hb65 => ?_)
 have h := ite_t hb65 h
 refine Sr ?_
 obtain ⟨r66, hr67, h⟩ := bnd h
 refine WL.eff (EO.call0 co19 (f_law13_works_ok _ r66 hr67) (args0)) rfl ?_
 rintro _ M68 _ hle69 ⟨_, ⟨rfl, rfl⟩, rfl⟩
 have h0 := h0.mono hle69
 have h4 := h4.mono hle69
 have hE := hE.mono hle69
 refine WL.a0 ?_
 refine Pa (.bool r66) rfl rfl ?_
 refine Nt ?_
 refine WC.ret ?_
 refine WQ.thenR ?_
 exact WQ.returnsF h [] rfl (results1 rfl rfl) ((((((hle22.trans hle33).trans hle39).trans hle46).trans hle50).trans hle63).trans hle69) ⟨rfl, rfl⟩
 have h := ite_f hb65 h
 refine WC.skip ?_
 refine WQ.thenC ?_
 obtain ⟨x71, hj72, h⟩ := bnd h
 refine WC.joinF (fun (x71 : Bool) ρ' M' H' => M62.le M' ∧ F = H' ∧ ρ' 10 = (.bool x71)) x71 ?_ ?_
 have h372 := h
 have h := hj72
 refine WC.region ?_
 refine Pm v0 hs50_0 rfl ?_
 refine Pm (.int .i64 a1) hs50_1 rfl ?_
 refine Pm (.int .i64 a2) hs50_2 rfl ?_
 obtain ⟨r73, hr74, h⟩ := bnd h
 refine WL.eff (EO.call0 co24 (f_spans_Add_ok a0 a1 a2 _ _ h0 r73 hr74) (args3 rfl rfl rfl)) rfl ?_
 rintro _ M75 _ hle76 ⟨_, ⟨vq77, cq77, rfl, rfl, hq77⟩, rfl⟩
 have h0 := h0.mono hle76
 have h4 := h4.mono hle76
 have hE := hE.mono hle76
 refine WL.a1 ?_
 refine Pm v0 hs50_0 rfl ?_
 refine Pm (.int .i64 a1) hs50_1 rfl ?_
 refine Pm (.int .i64 a2) hs50_2 rfl ?_
 obtain ⟨r78, hr79, h⟩ := bnd h
 refine WL.eff (EO.call0 co25 (f_ref13_Add_ok a0 a1 a2 _ _ h0 r78 hr79) (args3 rfl rfl rfl)) rfl ?_
 rintro _ M80 _ hle81 ⟨_, ⟨vq82, cq82, rfl, rfl, hq82⟩, rfl⟩
 have h0 := h0.mono hle81
 have h4 := h4.mono hle81
 have hq77 := hq77.mono hle81
 have hE := hE.mono hle81
 refine WL.a1 ?_
 obtain ⟨r83, hr84, h⟩ := bnd h
 refine WL.f1 ?_
 refine WL.eff (EO.call2 co23 (Tri.lend fun w0_ H0_ hs0_ => (Tri.lend fun w1_ H1_ hs1_ => (f_ref13_Same_ok r73 r78 _ _ _ ((hq77.rs hs0_).mono (IM.le_add _ _)) ((hq82.mono (IM.le_add _ _)).rs hs1_) r83 hr84))) (args2 rfl rfl)) rfl ?_
 rintro _ _ _ hle86 ⟨_, ⟨Ml91, Hl92, hll93, rfl, rfl, ⟨Ml88, Hl89, hll90, rfl, rfl, ⟨rfl, rfl⟩⟩⟩, rfl⟩
 have h0 := h0.mono hle86
 have h4 := h4.mono hle86
 have hq77 := hq77.mono hle86
 have hq82 := hq82.mono hle86
 have hE := hE.mono hle86
 refine WL.a2 ?_
 refine Pm (.bool r83) rfl rfl ?_
 rcases Bool.eq_false_or_eq_true (r83) with hb94 | hb94
 have h := ite_t hb94 h
 refine On 69 rfl rfl hb94 ?_
 refine Pm (.int .u16 a3) hs50_3 rfl ?_
 refine On 69 rfl rfl hb94 ?_
 refine Pu (.int .i64 (IntKind.i64.wrap a3)) (PO.conv us46 Tryd.underlying3 rfl) rfl ?_
 refine On 69 rfl rfl hb94 ?_
 refine Pm (.int .i64 a1) hs50_1 rfl ?_
 refine On 69 rfl rfl hb94 ?_
 refine Pm v4 hs50_4 rfl ?_
 refine On 69 rfl rfl hb94 ?_
 obtain ⟨r95, hr96, h⟩ := bnd h
 refine WL.eff (EO.call0 co27 (f_law13_terms_ok a4 _ _ h4 r95 hr96) (args1 rfl)) rfl ?_
 rintro _ M97 _ hle98 ⟨_, ⟨vq99, cq99, rfl, rfl, hq99⟩, rfl⟩
 have h0 := h0.mono hle98
 have h4 := h4.mono hle98
 have hq77 := hq77.mono hle98
 have hq82 := hq82.mono hle98
 have hE := hE.mono hle98
 refine WL.a1 ?_
 refine On 69 rfl rfl hb94 ?_
 obtain ⟨r100, hr101, h⟩ := bnd h
 refine WL.eff (EO.call1 co26 (Tri.lend fun w0_ H0_ hs0_ => (f_spans_Of_ok (IntKind.i64.wrap a3) a1 r95 _ _ (hq99.rs hs0_) r100 hr101)) (args3 rfl rfl rfl)) rfl ?_
 rintro _ _ _ hle103 ⟨_, ⟨Ml105, Hl106, hll107, rfl, rfl, ⟨vq104, cq104, rfl, rfl, hq104⟩⟩, rfl⟩
 have h0 := h0.mono hle103
 have h4 := h4.mono hle103
 have hq77 := hq77.mono hle103
 have hq82 := hq82.mono hle103
 have hq99 := hq99.mono hle103
 have hE := hE.mono hle103
 have hq104 : OwnS kd_api_Span (Ml105.minus cq99) vq104 r100 cq104 := hq104.any kd_api_Span_flat
 refine WL.a2 ?_
 refine On 69 rfl rfl hb94 ?_
 refine Pm (.int .u16 a3) hs50_3 rfl ?_
 refine On 69 rfl rfl hb94 ?_
 refine Pu (.int .i64 (IntKind.i64.wrap a3)) (PO.conv us46 Tryd.underlying3 rfl) rfl ?_
 refine On 69 rfl rfl hb94 ?_
 refine Pm (.int .i64 a1) hs50_1 rfl ?_
 refine On 69 rfl rfl hb94 ?_
 refine Pm v4 hs50_4 rfl ?_
 refine On 69 rfl rfl hb94 ?_
 obtain ⟨r108, hr109, h⟩ := bnd h
 refine WL.eff (EO.call0 co27 (f_law13_terms_ok a4 _ _ h4 r108 hr109) (args1 rfl)) rfl ?_
 rintro _ M110 _ hle111 ⟨_, ⟨vq112, cq112, rfl, rfl, hq112⟩, rfl⟩
 have h0 := h0.mono hle111
 have h4 := h4.mono hle111
 have hq77 := hq77.mono hle111
 have hq82 := hq82.mono hle111
 have hq99 := hq99.mono hle111
 have hq104 := hq104.mono hle111
 have hE := hE.mono hle111
 refine WL.a1 ?_
 refine On 69 rfl rfl hb94 ?_
 obtain ⟨r113, hr114, h⟩ := bnd h
 refine WL.eff (EO.call1 co28 (Tri.lend fun w0_ H0_ hs0_ => (f_ref13_Of_ok (IntKind.i64.wrap a3) a1 r108 _ _ (hq112.rs hs0_) r113 hr114)) (args3 rfl rfl rfl)) rfl ?_
 rintro _ _ _ hle116 ⟨_, ⟨Ml118, Hl119, hll120, rfl, rfl, ⟨vq117, cq117, rfl, rfl, hq117⟩⟩, rfl⟩
 have h0 := h0.mono hle116
 have h4 := h4.mono hle116
 have hq77 := hq77.mono hle116
 have hq82 := hq82.mono hle116
 have hq99 := hq99.mono hle116
 have hq104 := hq104.mono hle116
 have hq112 := hq112.mono hle116
 have hE := hE.mono hle116
 have hq117 : OwnS kd_api_Span (Ml118.minus cq112) vq117 r113 cq117 := hq117.any kd_api_Span_flat
 refine WL.a2 ?_
 refine On 69 rfl rfl hb94 ?_
 obtain ⟨r121, hr122, h⟩ := bnd h
 refine WL.f1 ?_
 refine WL.f3 ?_
 refine WL.eff (EO.call2 co23 (Tri.lend fun w0_ H0_ hs0_ => (Tri.lend fun w1_ H1_ hs1_ => (f_ref13_Same_ok r100 r113 _ _ _ ((hq104.rs hs0_).mono (IM.le_add _ _)) ((hq117.mono (IM.le_add _ _)).rs hs1_) r121 hr122))) (args2 rfl rfl)) rfl ?_
 rintro _ _ _ hle124 ⟨_, ⟨Ml129, Hl130, hll131, rfl, rfl, ⟨Ml126, Hl127, hll128, rfl, rfl, ⟨rfl, rfl⟩⟩⟩, rfl⟩
 have h0 := h0.mono hle124
 have h4 := h4.mono hle124
 have hq77 := hq77.mono hle124
 have hq82 := hq82.mono hle124
 have hq99 := hq99.mono hle124
 have hq104 := hq104.mono hle124
 have hq112 := hq112.mono hle124
 have hq117 := hq117.mono hle124
 have hE := hE.mono hle124
 refine WL.a2 ?_
 refine Pu (.bool r121) (PO.pickT rfl hb94 rfl) rfl ?_
 refine Pm (.bool r121) rfl rfl ?_
 rcases Bool.eq_false_or_eq_true (r121) with hb132 | hb132
 have h := ite_t hb132 h
 refine On 84 rfl rfl hb132 ?_
 obtain ⟨r133, hr134, h⟩ := bnd h
 refine WL.eff (EO.call0 co19 (f_law13_works_ok _ r133 hr134) (args0)) rfl ?_
 rintro _ M135 _ hle136 ⟨_, ⟨rfl, rfl⟩, rfl⟩
 have h0 := h0.mono hle136
 have h4 := h4.mono hle136
 have hq77 := hq77.mono hle136
 have hq82 := hq82.mono hle136
 have hq99 := hq99.mono hle136
 have hq104 := hq104.mono hle136
 have hq112 := hq112.mono hle136
 have hq117 := hq117.mono hle136
 have hE := hE.mono hle136
 refine WL.a0 ?_
 refine Pu (.bool r133) (PO.pickT rfl hb132 rfl) rfl ?_
 refine Pa (.bool r133) rfl rfl ?_
 refine WL.nil ?_
 refine WQ.drop ?_
 refine WQ.drop ?_
 refine WQ.drop ?_
 refine WQ.drop ?_
 refine WQ.drop ?_
 refine WQ.drop ?_
 obtain rfl := Option.some.inj h
 refine WQ.thenJ ?_
 exact ⟨((((((((hle76.trans hle81).trans hle86).trans hle98).trans hle103).trans hle111).trans hle116).trans hle124).trans hle136), rfl, rfl⟩
 have h := ite_f hb132 h
 refine Of 84 rfl rfl hb132 rfl ?_
 refine Pu (.bool false) (PO.pickF rfl hb132 rfl) rfl ?_
 refine Pa (.bool false) rfl rfl ?_
 refine WL.nil ?_
 refine WQ.drop ?_
 refine WQ.drop ?_
 refine WQ.drop ?_
 refine WQ.drop ?_
 refine WQ.drop ?_
 refine WQ.drop ?_
 obtain rfl := Option.some.inj h
 refine WQ.thenJ ?_
 exact ⟨(((((((hle76.trans hle81).trans hle86).trans hle98).trans hle103).trans hle111).trans hle116).trans hle124), rfl, rfl⟩
 have h := ite_f hb94 h
 iterate 13 refine Of 69 rfl rfl hb94 rfl ?_
 refine Pu (.bool false) (PO.pickF rfl hb94 rfl) rfl ?_
 refine Pm (.bool false) rfl rfl ?_
 refine Of 84 rfl rfl rfl rfl ?_
 refine Pu (.bool false) (PO.pickF rfl rfl rfl) rfl ?_
 refine Pa (.bool false) rfl rfl ?_
 refine WL.nil ?_
 refine WQ.drop ?_
 refine WQ.drop ?_
 obtain rfl := Option.some.inj h
 refine WQ.thenJ ?_
 exact ⟨((hle76.trans hle81).trans hle86), rfl, rfl⟩
 rintro ρ72 M72 H72 ⟨hle72, rfl, hs72_10⟩
 have hE := hE.mono hle72
 refine WC.ret ?_
 exact WQ.returnsF h [] rfl (results1 rfl hs72_10) ((((((hle22.trans hle33).trans hle39).trans hle46).trans hle50).trans hle63).trans hle72) ⟨rfl, rfl⟩


end Go.Proofs.YtmifmgpfjamdkaaDoor.G
