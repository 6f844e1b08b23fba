/- Go functions: what they come to, and that they do. Printed by a program of the session (gen). -/
import Derived.Test.YtjgnbbakamellaaGreatDoorBF
import Derived.Test.YtjgnbbakamellaaGreatDoorB6
import Derived.Test.YtjgnbbakamellaaGreatDoorKConv
import Derived.Test.YtjgnbbakamellaaGreatDoorKEq2
set_option linter.unusedVariables false
set_option linter.unusedSimpArgs false
set_option maxHeartbeats 8000000
set_option maxRecDepth 100000
namespace Go.Proofs.YtjgnbbakamellaaGreatDoor.G
open Go Go.KK

noncomputable def f_ask_CheckReply (a0 : T_api_Reply) : Option GErr :=
  (((if (decide (a0.Client < (1 : Int))) = true then (some true) else (if (decide ((1073741824 : Int) < a0.Client)) = true then (some true) else (if (decide (a0.Serial < (1 : Int))) = true then (some true) else (if (decide ((1073741824 : Int) < a0.Serial)) = true then (some true) else (if (decide (a0.Code < (0 : Int))) = true then (some true) else (if (decide ((21 : Int) < a0.Code)) = true then (some true) else (if (decide (a0.Leader < (0 : Int))) = true then (some true) else (some (decide ((1073741824 : Int) < a0.Leader)))))))))) : Option Bool).bind fun (x22 : Bool) => (if x22 = true then ((f_fault_New (⟨#[114, 101, 112, 108, 121]⟩ : ByteArray) a0.Client (2 : Int)).bind fun (r32 : GErr) => (some r32)) else (some GErr.nil)))
def f_ask_CheckReply_post (a0 : T_api_Reply) : GErr → Value → IM → HL → Prop :=
  fun (r0 : GErr) (v : Value) (M' : IM) (H' : HL) => (GV r0) = v ∧ H' = []
theorem f_ask_CheckReply_ok (a0 : T_api_Reply) (M : IM) (res : GErr) (h : f_ask_CheckReply a0 = some res) :
    Tri Tryz.prog 16 #[(a43_ a0)] M [] (f_ask_CheckReply_post a0 res) := by
 unfold f_ask_CheckReply at h
 refine Tri.enter (fn := Tryz.f16) Tryz.func16 rfl (Nat.le_of_ble_eq_true rfl) ?_
 intro F ρ hρ
 refine Sr ?_
 refine WL.eff (EO.box (cs := (l43 a0).toArray) (congrArg Value.cells (asE (a43_ a0) (hρ 0)))) rfl ?_
 rintro _ _ _ - ⟨rfl, g21, rfl, rfl⟩
 refine Pa (GV GErr.nil) rfl rfl ?_
 refine Nt ?_
 refine WC.seq ?_
 obtain ⟨x22, hj23, h⟩ := bnd h
 refine WC.joinF (fun (x22 : Bool) ρ' M' H' => M.le M' ∧ [(g21, .cells (l43 a0).toArray 43 (0, 0))] :: F = H' ∧ ρ' 1 = (pt g21 0) ∧ ρ' 40 = (.bool x22)) x22 ?_ ?_
 have h323 := h
 have h := hj23
 refine WC.region ?_
 refine Pu (pt g21 0) (PO.fieldAddr fo43_0 rfl rfl) rfl ?_
 refine Pu (.int .i64 a0.Client) (PO.loadB 0 pl3 rfl rfl rfl) rfl ?_
 refine Pu (.bool (decide (a0.Client < 1))) (PO.lss rfl rfl) rfl ?_
 refine Pm (.bool (decide (a0.Client < 1))) rfl rfl ?_
 rcases Bool.eq_false_or_eq_true (decide (a0.Client < 1)) with hb24 | hb24
 have h := ite_t hb24 h
 iterate 3 refine Of 6 rfl rfl hb24 rfl ?_
 refine Pu (.bool true) (PO.pickT rfl hb24 rfl) rfl ?_
 refine Pm (.bool true) rfl rfl ?_
 iterate 3 refine Of 11 rfl rfl rfl rfl ?_
 refine Pu (.bool true) (PO.pickT rfl rfl rfl) rfl ?_
 refine Pm (.bool true) rfl rfl ?_
 iterate 3 refine Of 16 rfl rfl rfl rfl ?_
 refine Pu (.bool true) (PO.pickT rfl rfl rfl) rfl ?_
 refine Pm (.bool true) rfl rfl ?_
 iterate 3 refine Of 21 rfl rfl rfl rfl ?_
 refine Pu (.bool true) (PO.pickT rfl rfl rfl) rfl ?_
 refine Pm (.bool true) rfl rfl ?_
 iterate 3 refine Of 26 rfl rfl rfl rfl ?_
 refine Pu (.bool true) (PO.pickT rfl rfl rfl) rfl ?_
 refine Pm (.bool true) rfl rfl ?_
 iterate 3 refine Of 31 rfl rfl rfl rfl ?_
 refine Pu (.bool true) (PO.pickT rfl rfl rfl) rfl ?_
 refine Pm (.bool true) rfl rfl ?_
 iterate 3 refine Of 36 rfl rfl rfl rfl ?_
 refine Pu (.bool true) (PO.pickT rfl rfl rfl) rfl ?_
 refine WL.nil ?_
 obtain rfl := Option.some.inj h
 refine WQ.thenJ ?_
 exact ⟨(IM.le.refl _), rfl, rfl, rfl⟩
 have h := ite_f hb24 h
 refine On 6 rfl rfl hb24 ?_
 refine Pu (pt g21 0) (PO.fieldAddr fo43_0 rfl rfl) rfl ?_
 refine On 6 rfl rfl hb24 ?_
 refine Pu (.int .i64 a0.Client) (PO.loadB 0 pl3 rfl rfl rfl) rfl ?_
 refine On 6 rfl rfl hb24 ?_
 refine Pu (.bool (decide ((1073741824 : Int) < a0.Client))) (PO.gtr rfl rfl) rfl ?_
 refine Pu (.bool (decide ((1073741824 : Int) < a0.Client))) (PO.pickF rfl hb24 rfl) rfl ?_
 refine Pm (.bool (decide ((1073741824 : Int) < a0.Client))) rfl rfl ?_
 rcases Bool.eq_false_or_eq_true (decide ((1073741824 : Int) < a0.Client)) with hb25 | hb25
 have h := ite_t hb25 h
 iterate 3 refine Of 11 rfl rfl hb25 rfl ?_
 refine Pu (.bool true) (PO.pickT rfl hb25 rfl) rfl ?_
 refine Pm (.bool true) rfl rfl ?_
 iterate 3 refine Of 16 rfl rfl rfl rfl ?_
 refine Pu (.bool true) (PO.pickT rfl rfl rfl) rfl ?_
 refine Pm (.bool true) rfl rfl ?_
 iterate 3 refine Of 21 rfl rfl rfl rfl ?_
 refine Pu (.bool true) (PO.pickT rfl rfl rfl) rfl ?_
 refine Pm (.bool true) rfl rfl ?_
 iterate 3 refine Of 26 rfl rfl rfl rfl ?_
 refine Pu (.bool true) (PO.pickT rfl rfl rfl) rfl ?_
 refine Pm (.bool true) rfl rfl ?_
 iterate 3 refine Of 31 rfl rfl rfl rfl ?_
 refine Pu (.bool true) (PO.pickT rfl rfl rfl) rfl ?_
 refine Pm (.bool true) rfl rfl ?_
 iterate 3 refine Of 36 rfl rfl rfl rfl ?_
 refine Pu (.bool true) (PO.pickT rfl rfl rfl) rfl ?_
 refine WL.nil ?_
 obtain rfl := Option.some.inj h
 refine WQ.thenJ ?_
 exact ⟨(IM.le.refl _), rfl, rfl, rfl⟩
 have h := ite_f hb25 h
 refine On 11 rfl rfl hb25 ?_
 refine Pu (pt g21 1) (PO.fieldAddr fo43_1 rfl rfl) rfl ?_
 refine On 11 rfl rfl hb25 ?_
 refine Pu (.int .i64 a0.Serial) (PO.loadB 0 pl3 rfl rfl rfl) rfl ?_
 refine On 11 rfl rfl hb25 ?_
 refine Pu (.bool (decide (a0.Serial < 1))) (PO.lss rfl rfl) rfl ?_
 refine Pu (.bool (decide (a0.Serial < 1))) (PO.pickF rfl hb25 rfl) rfl ?_
 refine Pm (.bool (decide (a0.Serial < 1))) rfl rfl ?_
 rcases Bool.eq_false_or_eq_true (decide (a0.Serial < 1)) with hb26 | hb26
 have h := ite_t hb26 h
 iterate 3 refine Of 16 rfl rfl hb26 rfl ?_
 refine Pu (.bool true) (PO.pickT rfl hb26 rfl) rfl ?_
 refine Pm (.bool true) rfl rfl ?_
 iterate 3 refine Of 21 rfl rfl rfl rfl ?_
 refine Pu (.bool true) (PO.pickT rfl rfl rfl) rfl ?_
 refine Pm (.bool true) rfl rfl ?_
 iterate 3 refine Of 26 rfl rfl rfl rfl ?_
 refine Pu (.bool true) (PO.pickT rfl rfl rfl) rfl ?_
 refine Pm (.bool true) rfl rfl ?_
 iterate 3 refine Of 31 rfl rfl rfl rfl ?_
 refine Pu (.bool true) (PO.pickT rfl rfl rfl) rfl ?_
 refine Pm (.bool true) rfl rfl ?_
 iterate 3 refine Of 36 rfl rfl rfl rfl ?_
 refine Pu (.bool true) (PO.pickT rfl rfl rfl) rfl ?_
 refine WL.nil ?_
 obtain rfl := Option.some.inj h
 refine WQ.thenJ ?_
 exact ⟨(IM.le.refl _), rfl, rfl, rfl⟩
 have h := ite_f hb26 h
 refine On 16 rfl rfl hb26 ?_
 refine Pu (pt g21 1) (PO.fieldAddr fo43_1 rfl rfl) rfl ?_
 refine On 16 rfl rfl hb26 ?_
 refine Pu (.int .i64 a0.Serial) (PO.loadB 0 pl3 rfl rfl rfl) rfl ?_
 refine On 16 rfl rfl hb26 ?_
 refine Pu (.bool (decide ((1073741824 : Int) < a0.Serial))) (PO.gtr rfl rfl) rfl ?_
 refine Pu (.bool (decide ((1073741824 : Int) < a0.Serial))) (PO.pickF rfl hb26 rfl) rfl ?_
 refine Pm (.bool (decide ((1073741824 : Int) < a0.Serial))) rfl rfl ?_
 rcases Bool.eq_false_or_eq_true (decide ((1073741824 : Int) < a0.Serial)) with hb27 | hb27
 have h := ite_t hb27 h
 iterate 3 refine Of 21 rfl rfl hb27 rfl ?_
 refine Pu (.bool true) (PO.pickT rfl hb27 rfl) rfl ?_
 refine Pm (.bool true) rfl rfl ?_
 iterate 3 refine Of 26 rfl rfl rfl rfl ?_
 refine Pu (.bool true) (PO.pickT rfl rfl rfl) rfl ?_
 refine Pm (.bool true) rfl rfl ?_
 iterate 3 refine Of 31 rfl rfl rfl rfl ?_
 refine Pu (.bool true) (PO.pickT rfl rfl rfl) rfl ?_
 refine Pm (.bool true) rfl rfl ?_
 iterate 3 refine Of 36 rfl rfl rfl rfl ?_
 refine Pu (.bool true) (PO.pickT rfl rfl rfl) rfl ?_
 refine WL.nil ?_
 obtain rfl := Option.some.inj h
 refine WQ.thenJ ?_
 exact ⟨(IM.le.refl _), rfl, rfl, rfl⟩
 have h := ite_f hb27 h
 refine On 21 rfl rfl hb27 ?_
 refine Pu (pt g21 2) (PO.fieldAddr fo43_2 rfl rfl) rfl ?_
 refine On 21 rfl rfl hb27 ?_
 refine Pu (.int .i64 a0.Code) (PO.loadB 0 pl3 rfl rfl rfl) rfl ?_
 refine On 21 rfl rfl hb27 ?_
 refine Pu (.bool (decide (a0.Code < 0))) (PO.lss rfl rfl) rfl ?_
 refine Pu (.bool (decide (a0.Code < 0))) (PO.pickF rfl hb27 rfl) rfl ?_
 refine Pm (.bool (decide (a0.Code < 0))) rfl rfl ?_
 rcases Bool.eq_false_or_eq_true (decide (a0.Code < 0)) with hb28 | hb28
 have h := ite_t hb28 h
 iterate 3 refine Of 26 rfl rfl hb28 rfl ?_
 refine Pu (.bool true) (PO.pickT rfl hb28 rfl) rfl ?_
 refine Pm (.bool true) rfl rfl ?_
 iterate 3 refine Of 31 rfl rfl rfl rfl ?_
 refine Pu (.bool true) (PO.pickT rfl rfl rfl) rfl ?_
 refine Pm (.bool true) rfl rfl ?_
 iterate 3 refine Of 36 rfl rfl rfl rfl ?_
 refine Pu (.bool true) (PO.pickT rfl rfl rfl) rfl ?_
 refine WL.nil ?_
 obtain rfl := Option.some.inj h
 refine WQ.thenJ ?_
 exact ⟨(IM.le.refl _), rfl, rfl, rfl⟩
 have h := ite_f hb28 h
 refine On 26 rfl rfl hb28 ?_
 refine Pu (pt g21 2) (PO.fieldAddr fo43_2 rfl rfl) rfl ?_
 refine On 26 rfl rfl hb28 ?_
 refine Pu (.int .i64 a0.Code) (PO.loadB 0 pl3 rfl rfl rfl) rfl ?_
 refine On 26 rfl rfl hb28 ?_
 refine Pu (.bool (decide ((21 : Int) < a0.Code))) (PO.gtr rfl rfl) rfl ?_
 refine Pu (.bool (decide ((21 : Int) < a0.Code))) (PO.pickF rfl hb28 rfl) rfl ?_
 refine Pm (.bool (decide ((21 : Int) < a0.Code))) rfl rfl ?_
 rcases Bool.eq_false_or_eq_true (decide ((21 : Int) < a0.Code)) with hb29 | hb29
 have h := ite_t hb29 h
 iterate 3 refine Of 31 rfl rfl hb29 rfl ?_
 refine Pu (.bool true) (PO.pickT rfl hb29 rfl) rfl ?_
 refine Pm (.bool true) rfl rfl ?_
 iterate 3 refine Of 36 rfl rfl rfl rfl ?_
 refine Pu (.bool true) (PO.pickT rfl rfl rfl) rfl ?_
 refine WL.nil ?_
 obtain rfl := Option.some.inj h
 refine WQ.thenJ ?_
 exact ⟨(IM.le.refl _), rfl, rfl, rfl⟩
 have h := ite_f hb29 h
 refine On 31 rfl rfl hb29 ?_
 refine Pu (pt g21 3) (PO.fieldAddr fo43_3 rfl rfl) rfl ?_
 refine On 31 rfl rfl hb29 ?_
 refine Pu (.int .i64 a0.Leader) (PO.loadB 0 pl3 rfl rfl rfl) rfl ?_
 refine On 31 rfl rfl hb29 ?_
 refine Pu (.bool (decide (a0.Leader < 0))) (PO.lss rfl rfl) rfl ?_
 refine Pu (.bool (decide (a0.Leader < 0))) (PO.pickF rfl hb29 rfl) rfl ?_
 refine Pm (.bool (decide (a0.Leader < 0))) rfl rfl ?_
 rcases Bool.eq_false_or_eq_true (decide (a0.Leader < 0)) with hb30 | hb30
 have h := ite_t hb30 h
 iterate 3 refine Of 36 rfl rfl hb30 rfl ?_
 refine Pu (.bool true) (PO.pickT rfl hb30 rfl) rfl ?_
 refine WL.nil ?_
 obtain rfl := Option.some.inj h
 refine WQ.thenJ ?_
 exact ⟨(IM.le.refl _), rfl, rfl, rfl⟩
 have h := ite_f hb30 h
 refine On 36 rfl rfl hb30 ?_
 refine Pu (pt g21 3) (PO.fieldAddr fo43_3 rfl rfl) rfl ?_
 refine On 36 rfl rfl hb30 ?_
 refine Pu (.int .i64 a0.Leader) (PO.loadB 0 pl3 rfl rfl rfl) rfl ?_
 refine On 36 rfl rfl hb30 ?_
 refine Pu (.bool (decide ((1073741824 : Int) < a0.Leader))) (PO.gtr rfl rfl) rfl ?_
 refine Pu (.bool (decide ((1073741824 : Int) < a0.Leader))) (PO.pickF rfl hb30 rfl) rfl ?_
 refine WL.nil ?_
 obtain rfl := Option.some.inj h
 refine WQ.thenJ ?_
 exact ⟨(IM.le.refl _), rfl, rfl, rfl⟩
 rintro ρ23 M23 H23 ⟨hle23, rfl, hs23_1, hs23_40⟩
 refine WC.cond (b := x22) hs23_40 (fun hb31 => ?_) (fun hb31 => ?_)
 have h := ite_t hb31 h
 refine Sr ?_
 refine Pu (pt g21 0) (PO.fieldAddr fo43_0 hs23_1 rfl) rfl ?_
 refine Pu (.int .i64 a0.Client) (PO.loadB 0 pl3 rfl rfl rfl) rfl ?_
 obtain ⟨r32, hr33, h⟩ := bnd h
 refine WL.eff (EO.call0 co17 (f_fault_New_ok (⟨#[114, 101, 112, 108, 121]⟩ : ByteArray) a0.Client (2 : Int) _ r32 hr33) (args3 rfl rfl rfl)) rfl ?_
 rintro _ M34 _ hle35 ⟨_, ⟨rfl, rfl⟩, rfl⟩
 refine WL.a0 ?_
 refine Pa (GV r32) rfl rfl ?_
 refine Nt ?_
 refine WC.ret ?_
 refine WQ.thenR ?_
 refine WQ.drop ?_
 exact WQ.returnsF h [] rfl (results1 rfl rfl) (hle23.trans hle35) ⟨rfl, rfl⟩
 have h := ite_f hb31 h
 refine WC.skip ?_
 refine WQ.thenC ?_
 refine Sr ?_
 refine Pa (GV GErr.nil) rfl rfl ?_
 refine Nt ?_
 refine WC.ret ?_
 refine WQ.drop ?_
 exact WQ.returnsF h [] rfl (results1 rfl rfl) hle23 ⟨rfl, rfl⟩

noncomputable def f_ask_PutReply (a0 : T_api_Reply) : Option (T_api_Frame × GErr) :=
  ((f_ask_CheckReply a0).bind fun (r23 : GErr) => (if (!r23.isNil) = true then (some ((⟨(0 : Int), []⟩ : T_api_Frame), r23)) else ((f_wire_Int [] a0.Client).bind fun (r31 : (List Int)) => ((f_wire_Int r31 a0.Serial).bind fun (r36 : (List Int)) => ((f_wire_Int r36 a0.Code).bind fun (r41 : (List Int)) => ((f_wire_Int r41 a0.Leader).bind fun (r46 : (List Int)) => ((f_wire_Flag r46 a0.Told.Fenced).bind fun (r51 : (List Int)) => ((f_wire_Flag r51 a0.Told.Leaving).bind fun (r56 : (List Int)) => ((f_wire_Flag r56 a0.Told.Stop).bind fun (r61 : (List Int)) => (some ((⟨(17 : Int), r61⟩ : T_api_Frame), GErr.nil)))))))))))
def f_ask_PutReply_post (a0 : T_api_Reply) : (T_api_Frame × GErr) → Value → IM → HL → Prop :=
  fun (p_ : (T_api_Frame × GErr)) (v : Value) (M' : IM) (H' : HL) => match p_ with | (r0, r1) => ∃ vz0_1 cz0_1, (.tuple #[(.agg #[(.int .i64 r0.Kind), vz0_1]), (GV r1)]) = v ∧ H' = [cz0_1] ∧ OwnS (Kd.int .u8) M' vz0_1 r0.Body cz0_1
theorem f_ask_PutReply_ok (a0 : T_api_Reply) (M : IM) (res : (T_api_Frame × GErr)) (h : f_ask_PutReply a0 = some res) :
    Tri Tryz.prog 12 #[(a43_ a0)] M [] (f_ask_PutReply_post a0 res) := by
 unfold f_ask_PutReply at h
 refine Tri.enter (fn := Tryz.f12) Tryz.func12 rfl (Nat.le_of_ble_eq_true rfl) ?_
 intro F ρ hρ
 refine Sr ?_
 refine WL.eff (EO.box (cs := (l43 a0).toArray) (congrArg Value.cells (asE (a43_ a0) (hρ 0)))) rfl ?_
 rintro _ _ _ - ⟨rfl, g21, rfl, rfl⟩
 refine WL.eff (EO.alloc ze34 rfl) rfl ?_
 rintro _ _ _ - ⟨rfl, g22, rfl, rfl⟩
 refine Pa (GV GErr.nil) rfl rfl ?_
 refine Nt ?_
 refine WC.seq ?_
 refine Sr ?_
 refine Pu (a43_ a0) (PO.loadBA (cs := (l43 a0)) 1 ag43 sz43 rfl rfl rfl) rfl ?_
 obtain ⟨r23, hr24, h⟩ := bnd h
 refine WL.eff (EO.call0 co16 (f_ask_CheckReply_ok a0 _ r23 hr24) (args1 rfl)) rfl ?_
 rintro _ M25 _ hle26 ⟨_, ⟨rfl, rfl⟩, rfl⟩
 refine WL.a0 ?_
 refine Pa (GV r23) rfl rfl ?_
 refine Ns ?_
 refine Pm (GV r23) rfl rfl ?_
 refine Pu (.bool (!r23.isNil)) (PO.errNotNil Tryz.underlying30 rfl) rfl ?_
 refine Nt ?_
 refine WC.cond (b := !r23.isNil) rfl (fun hb28 => ?_) (fun hb28 => ?_)
 have h := ite_t hb28 h
 refine Sr ?_
 refine Pu (.agg #[(.int .i64 0), (.slice none 0 0)]) (PO.buildL (cl := [(.int .i64 0), (.slice none 0 0)]) ze34 fp34 Parts.nil rfl) rfl ?_
 refine Pm (GV r23) rfl rfl ?_
 refine WL.eff (EO.storeL (v := (.agg #[(.int .i64 0), (.slice none 0 0)])) (vl := [(.int .i64 0), (.slice none 0 0)]) (arr' := [(.int .i64 0), (.slice none 0 0)]) rfl sz34 rfl rfl (onesOf (Ones.cons rfl (Ones.cons rfl Ones.nil))) rfl rfl rfl) rfl ?_
 rintro _ _ _ - ⟨rfl, rfl⟩
 refine Pa (GV r23) rfl rfl ?_
 refine Nt ?_
 refine WC.ret ?_
 refine WQ.thenR ?_
 refine WQ.e0 ?_
 refine WQ.f2 ?_
 refine WQ.drop ?_
 refine WQ.f1 ?_
 exact WQ.returnsD h [[]] (fun _ hs => hs.drop) (resultsLN rfl (RVs.cons (RV.cellA (cs := [(.int .i64 0), (.slice none 0 0)]) 0 ag34 sz34 rfl rfl rfl) (RVs.cons (RV.tmp rfl) RVs.nil))) hle26 ⟨(.slice none 0 0), [], rfl, rfl, (OwnS.nil _ _)⟩
 have h := ite_f hb28 h
 refine WC.skip ?_
 refine WQ.thenC ?_
 refine WC.seq ?_
 refine WC.draw [0, 1, 3, 0, 8, 31, 0, 64, 255, 0, 512, 2047, 4095] (.pure 0 (.pure 1 (.pure 3 (.pure 4 (.pure 6 (.pure 7 (.pure 9 (.pure 10 (.alt 2 (.alt 5 (.alt 8 (.alt 11 (.pure 12 .done) .none) .none) .none) .none))))))))) mixed (by kernel_rfl) ?_
 refine Tp (pt g21 0) rfl (PO.fieldAddr fo43_0 rfl rfl) rfl ?_
 refine Tp (.int .i64 a0.Client) rfl (PO.loadB 1 pl3 rfl rfl rfl) rfl ?_
 refine Tp (pt g21 1) rfl (PO.fieldAddr fo43_1 rfl rfl) rfl ?_
 refine Tp (.int .i64 a0.Serial) rfl (PO.loadB 1 pl3 rfl rfl rfl) rfl ?_
 refine Tp (pt g21 2) rfl (PO.fieldAddr fo43_2 rfl rfl) rfl ?_
 refine Tp (.int .i64 a0.Code) rfl (PO.loadB 1 pl3 rfl rfl rfl) rfl ?_
 refine Tp (pt g21 3) rfl (PO.fieldAddr fo43_3 rfl rfl) rfl ?_
 refine Tp (.int .i64 a0.Leader) rfl (PO.loadB 1 pl3 rfl rfl rfl) rfl ?_
 obtain ⟨r31, hr32, h⟩ := bnd h
 refine WT.e0 ?_
 refine WT.alt rfl (EO.call1 co44 (f_wire_Int_ok [] a0.Client _ _ _ (OwnS.nil _ _) r31 hr32) (args2 rfl rfl)) rfl ?_ ?_
 rintro _ M33 _ hle34 ⟨_, ⟨vq35, cq35, rfl, rfl, hq35⟩, rfl⟩
 refine ⟨(StabL.st (StabA.of rfl (PO.loadB 2 pl3 rfl rfl rfl) rfl) (StabL.st (StabA.of rfl (PO.fieldAddr fo43_3 rfl rfl) rfl) (StabL.st (StabA.of rfl (PO.loadB 2 pl3 rfl rfl rfl) rfl) (StabL.st (StabA.of rfl (PO.fieldAddr fo43_2 rfl rfl) rfl) (StabL.st (StabA.of rfl (PO.loadB 2 pl3 rfl rfl rfl) rfl) (StabL.st (StabA.of rfl (PO.fieldAddr fo43_1 rfl rfl) rfl) (StabL.anc rfl (StabL.anc rfl trivial)))))))), ?_⟩
 refine WT.a1 ?_
 obtain ⟨r36, hr37, h⟩ := bnd h
 refine WT.alt rfl (EO.call1 co44 (f_wire_Int_ok r31 a0.Serial _ _ _ hq35 r36 hr37) (args2 rfl rfl)) rfl ?_ ?_
 rintro _ M38 _ hle39 ⟨_, ⟨vq40, cq40, rfl, rfl, hq40⟩, rfl⟩
 have hq35 := hq35.mono hle39
 refine ⟨(StabL.st (StabA.of rfl (PO.loadB 2 pl3 rfl rfl rfl) rfl) (StabL.st (StabA.of rfl (PO.fieldAddr fo43_3 rfl rfl) rfl) (StabL.st (StabA.of rfl (PO.loadB 2 pl3 rfl rfl rfl) rfl) (StabL.st (StabA.of rfl (PO.fieldAddr fo43_2 rfl rfl) rfl) (StabL.anc rfl (StabL.anc rfl (StabL.anc rfl (StabL.anc rfl trivial)))))))), ?_⟩
 refine WT.a1 ?_
 obtain ⟨r41, hr42, h⟩ := bnd h
 refine WT.alt rfl (EO.call1 co44 (f_wire_Int_ok r36 a0.Code _ _ _ hq40 r41 hr42) (args2 rfl rfl)) rfl ?_ ?_
 rintro _ M43 _ hle44 ⟨_, ⟨vq45, cq45, rfl, rfl, hq45⟩, rfl⟩
 have hq35 := hq35.mono hle44
 have hq40 := hq40.mono hle44
 refine ⟨(StabL.st (StabA.of rfl (PO.loadB 2 pl3 rfl rfl rfl) rfl) (StabL.st (StabA.of rfl (PO.fieldAddr fo43_3 rfl rfl) rfl) (StabL.anc rfl (StabL.anc rfl (StabL.anc rfl (StabL.anc rfl (StabL.anc rfl (StabL.anc rfl trivial)))))))), ?_⟩
 refine WT.a1 ?_
 obtain ⟨r46, hr47, h⟩ := bnd h
 refine WT.alt rfl (EO.call1 co44 (f_wire_Int_ok r41 a0.Leader _ _ _ hq45 r46 hr47) (args2 rfl rfl)) rfl ?_ ?_
 rintro _ M48 _ hle49 ⟨_, ⟨vq50, cq50, rfl, rfl, hq50⟩, rfl⟩
 have hq35 := hq35.mono hle49
 have hq40 := hq40.mono hle49
 have hq45 := hq45.mono hle49
 refine ⟨(StabL.anc rfl (StabL.anc rfl (StabL.anc rfl (StabL.anc rfl (StabL.anc rfl (StabL.anc rfl (StabL.anc rfl (StabL.anc rfl trivial)))))))), ?_⟩
 refine WT.a1 ?_
 refine Tp vq50 rfl (PO.assign rfl) rfl ?_
 refine WT.fin ?_
 refine WQ.thenC ?_
 refine WC.seq ?_
 refine WC.draw [0, 0, 2, 6, 15, 0, 32, 96, 255, 0, 512, 1536, 4095, 8191] (.pure 0 (.pure 1 (.pure 2 (.pure 3 (.pure 5 (.pure 6 (.pure 7 (.pure 9 (.pure 10 (.pure 11 (.alt 4 (.alt 8 (.alt 12 (.alt 13 .done .none) .none) .none) .none))))))))))) mixed (by kernel_rfl) ?_
 refine Tp vq50 rfl (PO.move rfl) rfl ?_
 refine Tp (pt g21 4) rfl (PO.fieldAddr fo43_4 rfl rfl) rfl ?_
 refine Tp (pt g21 4) rfl (PO.fieldAddr fo41_0 rfl rfl) rfl ?_
 refine Tp (.bool a0.Told.Fenced) rfl (PO.loadB 2 pl4 rfl rfl rfl) rfl ?_
 refine Tp (pt g21 4) rfl (PO.fieldAddr fo43_4 rfl rfl) rfl ?_
 refine Tp (pt g21 5) rfl (PO.fieldAddr fo41_1 rfl rfl) rfl ?_
 refine Tp (.bool a0.Told.Leaving) rfl (PO.loadB 2 pl4 rfl rfl rfl) rfl ?_
 refine Tp (pt g21 4) rfl (PO.fieldAddr fo43_4 rfl rfl) rfl ?_
 refine Tp (pt g21 6) rfl (PO.fieldAddr fo41_2 rfl rfl) rfl ?_
 refine Tp (.bool a0.Told.Stop) rfl (PO.loadB 2 pl4 rfl rfl rfl) rfl ?_
 obtain ⟨r51, hr52, h⟩ := bnd h
 refine WT.alt rfl (EO.call1 co46 (f_wire_Flag_ok r46 a0.Told.Fenced _ _ _ hq50 r51 hr52) (args2 rfl rfl)) rfl ?_ ?_
 rintro _ M53 _ hle54 ⟨_, ⟨vq55, cq55, rfl, rfl, hq55⟩, rfl⟩
 have hq50 := hq50.mono hle54
 refine ⟨(StabL.st (StabA.of rfl (PO.loadB 2 pl4 rfl rfl rfl) rfl) (StabL.st (StabA.of rfl (PO.fieldAddr fo41_2 rfl rfl) rfl) (StabL.st (StabA.of rfl (PO.fieldAddr fo43_4 rfl rfl) rfl) (StabL.st (StabA.of rfl (PO.loadB 2 pl4 rfl rfl rfl) rfl) (StabL.st (StabA.of rfl (PO.fieldAddr fo41_1 rfl rfl) rfl) (StabL.st (StabA.of rfl (PO.fieldAddr fo43_4 rfl rfl) rfl) (StabL.anc rfl (StabL.anc rfl (StabL.anc rfl (StabL.anc rfl trivial)))))))))), ?_⟩
 refine WT.a1 ?_
 obtain ⟨r56, hr57, h⟩ := bnd h
 refine WT.alt rfl (EO.call1 co46 (f_wire_Flag_ok r51 a0.Told.Leaving _ _ _ hq55 r56 hr57) (args2 rfl rfl)) rfl ?_ ?_
 rintro _ M58 _ hle59 ⟨_, ⟨vq60, cq60, rfl, rfl, hq60⟩, rfl⟩
 have hq50 := hq50.mono hle59
 have hq55 := hq55.mono hle59
 refine ⟨(StabL.st (StabA.of rfl (PO.loadB 2 pl4 rfl rfl rfl) rfl) (StabL.st (StabA.of rfl (PO.fieldAddr fo41_2 rfl rfl) rfl) (StabL.st (StabA.of rfl (PO.fieldAddr fo43_4 rfl rfl) rfl) (StabL.anc rfl (StabL.anc rfl (StabL.anc rfl (StabL.anc rfl (StabL.anc rfl (StabL.anc rfl (StabL.anc rfl trivial)))))))))), ?_⟩
 refine WT.a1 ?_
 obtain ⟨r61, hr62, h⟩ := bnd h
 refine WT.alt rfl (EO.call1 co46 (f_wire_Flag_ok r56 a0.Told.Stop _ _ _ hq60 r61 hr62) (args2 rfl rfl)) rfl ?_ ?_
 rintro _ M63 _ hle64 ⟨_, ⟨vq65, cq65, rfl, rfl, hq65⟩, rfl⟩
 have hq50 := hq50.mono hle64
 have hq55 := hq55.mono hle64
 have hq60 := hq60.mono hle64
 refine ⟨(StabL.anc rfl (StabL.anc rfl (StabL.anc rfl (StabL.anc rfl (StabL.anc rfl (StabL.anc rfl (StabL.anc rfl (StabL.anc rfl (StabL.anc rfl (StabL.anc rfl trivial)))))))))), ?_⟩
 refine WT.a1 ?_
 refine WT.alt rfl ((PO.assign rfl).eo) rfl ?_ ?_
 rintro _ _ _ - ⟨rfl, rfl, rfl⟩
 refine ⟨(StabL.anc rfl (StabL.anc rfl (StabL.anc rfl (StabL.anc rfl (StabL.anc rfl (StabL.anc rfl (StabL.anc rfl (StabL.anc rfl (StabL.anc rfl (StabL.anc rfl trivial)))))))))), ?_⟩
 refine WT.fin ?_
 refine WQ.thenC ?_
 refine Sr ?_
 refine Pm vq65 rfl rfl ?_
 refine Pu (.agg #[(.int .i64 17), vq65]) (PO.buildL (cl := [(.int .i64 17), vq65]) ze34 fp34 (Parts.cons (congrArg Value.cells (show ev _ _ = (.int .i64 17) from rfl)) (Parts.cons ((congrArg Value.cells (show ev _ _ = vq65 from rfl)).trans hq65.cells) Parts.nil)) rfl) rfl ?_
 refine WL.f1 ?_
 refine WL.eff (EO.storeL (v := (.agg #[(.int .i64 17), vq65])) (vl := [(.int .i64 17), vq65]) (arr' := [(.int .i64 17), vq65]) rfl sz34 rfl rfl (onesOf (Ones.cons rfl (Ones.cons (OwnS.one hq65) Ones.nil))) rfl rfl rfl) rfl ?_
 rintro _ _ _ - ⟨rfl, rfl⟩
 refine Pa (GV GErr.nil) rfl rfl ?_
 refine Nt ?_
 refine WC.ret ?_
 refine WQ.f2 ?_
 refine WQ.drop ?_
 exact WQ.returnsD h [cq65] (fun _ hs => hs.drop) (resultsLN rfl (RVs.cons (RV.cellA (cs := [(.int .i64 17), vq65]) 0 ag34 sz34 rfl rfl rfl) (RVs.cons (RV.tmp rfl) RVs.nil))) (((((((hle26.trans hle34).trans hle39).trans hle44).trans hle49).trans hle54).trans hle59).trans hle64) ⟨vq65, cq65, rfl, rfl, hq65⟩
 exact WT.no
 exact WT.no
 exact WT.no
 exact WT.no
 exact WT.no
 exact WT.no
 exact WT.no
 exact WT.no

noncomputable def f_ask_ReadReply (a0 : T_api_Frame) : Option (T_api_Reply × GErr) :=
  (if (decide (a0.Kind ≠ (17 : Int))) = true then ((f_fault_New (⟨#[102, 114, 97, 109, 101]⟩ : ByteArray) a0.Kind (5 : Int)).bind fun (r24 : GErr) => (some ((⟨(0 : Int), (0 : Int), (0 : Int), (0 : Int), (⟨false, false, false⟩ : T_api_Told)⟩ : T_api_Reply), r24))) else ((f_wire_Read a0.Body).bind fun (r29 : T_wire_Reader) => ((f_wire_Reader_Int r29 (1073741824 : Int)).bind fun (r35, r36, r37) => ((f_wire_Reader_Int (⟨r29.b, r36, r37⟩ : T_wire_Reader) (1073741824 : Int)).bind fun (r42, r43, r44) => ((f_wire_Reader_Int (⟨r29.b, r43, r44⟩ : T_wire_Reader) (1073741824 : Int)).bind fun (r49, r50, r51) => ((f_wire_Reader_Int (⟨r29.b, r50, r51⟩ : T_wire_Reader) (1073741824 : Int)).bind fun (r56, r57, r58) => ((f_wire_Reader_Flag (⟨r29.b, r57, r58⟩ : T_wire_Reader)).bind fun (r64, r65, r66) => ((f_wire_Reader_Flag (⟨r29.b, r65, r66⟩ : T_wire_Reader)).bind fun (r71, r72, r73) => ((f_wire_Reader_Flag (⟨r29.b, r72, r73⟩ : T_wire_Reader)).bind fun (r78, r79, r80) => ((f_wire_Reader_End (⟨r29.b, r79, r80⟩ : T_wire_Reader)).bind fun (r85, r86) => (if (!r85.isNil) = true then (some ((⟨(0 : Int), (0 : Int), (0 : Int), (0 : Int), (⟨false, false, false⟩ : T_api_Told)⟩ : T_api_Reply), r85)) else ((f_ask_CheckReply (⟨r35, r42, r49, r56, (⟨r64, r71, r78⟩ : T_api_Told)⟩ : T_api_Reply)).bind fun (r92 : GErr) => (if (!r92.isNil) = true then (some ((⟨(0 : Int), (0 : Int), (0 : Int), (0 : Int), (⟨false, false, false⟩ : T_api_Told)⟩ : T_api_Reply), r92)) else (some ((⟨r35, r42, r49, r56, (⟨r64, r71, r78⟩ : T_api_Told)⟩ : T_api_Reply), GErr.nil)))))))))))))))
def f_ask_ReadReply_post (a0 : T_api_Frame) (v0_1 : Value) : (T_api_Reply × GErr) → Value → IM → HL → Prop :=
  fun (p_ : (T_api_Reply × GErr)) (v : Value) (M' : IM) (H' : HL) => match p_ with | (r0, r1) => (.tuple #[(.agg #[(.int .i64 r0.Client), (.int .i64 r0.Serial), (.int .i64 r0.Code), (.int .i64 r0.Leader), (.bool r0.Told.Fenced), (.bool r0.Told.Leaving), (.bool r0.Told.Stop)]), (GV r1)]) = v ∧ H' = []
theorem f_ask_ReadReply_ok (a0 : T_api_Frame) (M : IM) (v0_1 : Value) (h0_1 : RS (Kd.int .u8) M v0_1 a0.Body) (res : (T_api_Reply × GErr)) (h : f_ask_ReadReply a0 = some res) :
    Tri Tryz.prog 7 #[(.agg #[(.int .i64 a0.Kind), v0_1])] M [] (f_ask_ReadReply_post a0 v0_1 res) := by
 unfold f_ask_ReadReply at h
 refine Tri.enter (fn := Tryz.f7) Tryz.func7 rfl (Nat.le_of_ble_eq_true rfl) ?_
 intro F ρ hρ
 refine Sr ?_
 refine WL.eff (EO.box (cs := #[(.int .i64 a0.Kind), v0_1]) (congrArg Value.cells (asE (.agg #[(.int .i64 a0.Kind), v0_1]) (hρ 0)))) rfl ?_
 rintro _ _ _ - ⟨rfl, g21, rfl, rfl⟩
 refine WL.eff (EO.alloc ze43 rfl) rfl ?_
 rintro _ _ _ - ⟨rfl, g22, rfl, rfl⟩
 refine Pa (GV GErr.nil) rfl rfl ?_
 refine Nt ?_
 refine WC.seq ?_
 refine Sr ?_
 refine Pu (pt g21 0) (PO.fieldAddr fo34_0 rfl rfl) rfl ?_
 refine Pu (.int .i64 a0.Kind) (PO.loadB 1 pl3 rfl rfl rfl) rfl ?_
 refine Pu (.bool (decide (a0.Kind ≠ 17))) (PO.neq rfl rfl) rfl ?_
 refine Nt ?_
 refine WC.cond (b := decide (a0.Kind ≠ 17)) rfl (fun hb23 => ?_) (fun hb23 => ?_)
 have h := ite_t hb23 h
 refine Sr ?_
 refine Pu (.agg z43_.toArray) (PO.buildL (cl := z43_) ze43 fp43 Parts.nil rfl) rfl ?_
 refine Pu (pt g21 0) (PO.fieldAddr fo34_0 rfl rfl) rfl ?_
 refine Pu (.int .i64 a0.Kind) (PO.loadB 1 pl3 rfl rfl rfl) rfl ?_
 obtain ⟨r24, hr25, h⟩ := bnd h
 refine WL.eff (EO.call0 co17 (f_fault_New_ok (⟨#[102, 114, 97, 109, 101]⟩ : ByteArray) a0.Kind (5 : Int) _ r24 hr25) (args3 rfl rfl rfl)) rfl ?_
 rintro _ M26 _ hle27 ⟨_, ⟨rfl, rfl⟩, rfl⟩
 have h0_1 := h0_1.mono hle27
 refine WL.a0 ?_
 refine WL.eff (EO.storeL (v := (.agg z43_.toArray)) (vl := z43_) (arr' := z43_) rfl sz43 rfl rfl (onesOf (Ones.cons rfl (Ones.cons rfl (Ones.cons rfl (Ones.cons rfl (Ones.cons rfl (Ones.cons rfl (Ones.cons rfl Ones.nil)))))))) rfl rfl (by kernel_rfl)) rfl ?_
 rintro _ _ _ - ⟨rfl, rfl⟩
 refine Pa (GV r24) rfl rfl ?_
 refine Nt ?_
 refine WC.ret ?_
 refine WQ.thenR ?_
 refine WQ.f1 ?_
 refine WQ.drop ?_
 exact WQ.returnsD h [] (fun _ hs => hs.drop) (resultsLN rfl (RVs.cons (RV.cellA (cs := z43_) 0 ag43 sz43 rfl rfl rfl) (RVs.cons (RV.tmp rfl) RVs.nil))) hle27 ⟨rfl, rfl⟩
 have h := ite_f hb23 h
 refine WC.skip ?_
 refine WQ.thenC ?_
 refine Sr ?_
 refine Pu (pt g21 1) (PO.fieldAddr fo34_1 rfl rfl) rfl ?_
 refine Pu v0_1 (PO.loadB 1 pl22 rfl rfl rfl) rfl ?_
 obtain ⟨r29, hr30, h⟩ := bnd h
 refine WL.eff (EO.call0 co18 (f_wire_Read_ok a0.Body _ _ h0_1 r29 hr30) (args1 rfl)) rfl ?_
 rintro _ M31 _ hle32 ⟨_, ⟨g33, vq34_0, rfl, rfl, hq34_0⟩, rfl⟩
 have h0_1 := h0_1.mono hle32
 refine WL.a1 ?_
 refine Pa (pt g33 0) rfl rfl ?_
 refine Ns ?_
 refine Pm (pt g33 0) rfl rfl ?_
 obtain ⟨⟨r35, r36, r37⟩, hr38, h⟩ := bnd h
 refine WL.eff (EO.call1 co19 (f_wire_Reader_Int_ok r29 (1073741824 : Int) _ _ _ hq34_0 (r35, r36, r37) hr38) (args2 rfl rfl)) rfl ?_
 rintro _ M39 _ hle40 ⟨_, ⟨rfl, rfl⟩, rfl⟩
 have h0_1 := h0_1.mono hle40
 have hq34_0 := hq34_0.mono hle40
 refine WL.a1 ?_
 refine Pm (pt g33 0) rfl rfl ?_
 obtain ⟨⟨r42, r43, r44⟩, hr45, h⟩ := bnd h
 refine WL.eff (EO.call1 co19 (f_wire_Reader_Int_ok (⟨r29.b, r36, r37⟩ : T_wire_Reader) (1073741824 : Int) _ _ _ hq34_0 (r42, r43, r44) hr45) (args2 rfl rfl)) rfl ?_
 rintro _ M46 _ hle47 ⟨_, ⟨rfl, rfl⟩, rfl⟩
 have h0_1 := h0_1.mono hle47
 have hq34_0 := hq34_0.mono hle47
 refine WL.a1 ?_
 refine Pm (pt g33 0) rfl rfl ?_
 obtain ⟨⟨r49, r50, r51⟩, hr52, h⟩ := bnd h
 refine WL.eff (EO.call1 co19 (f_wire_Reader_Int_ok (⟨r29.b, r43, r44⟩ : T_wire_Reader) (1073741824 : Int) _ _ _ hq34_0 (r49, r50, r51) hr52) (args2 rfl rfl)) rfl ?_
 rintro _ M53 _ hle54 ⟨_, ⟨rfl, rfl⟩, rfl⟩
 have h0_1 := h0_1.mono hle54
 have hq34_0 := hq34_0.mono hle54
 refine WL.a1 ?_
 refine Pm (pt g33 0) rfl rfl ?_
 obtain ⟨⟨r56, r57, r58⟩, hr59, h⟩ := bnd h
 refine WL.eff (EO.call1 co19 (f_wire_Reader_Int_ok (⟨r29.b, r50, r51⟩ : T_wire_Reader) (1073741824 : Int) _ _ _ hq34_0 (r56, r57, r58) hr59) (args2 rfl rfl)) rfl ?_
 rintro _ M60 _ hle61 ⟨_, ⟨rfl, rfl⟩, rfl⟩
 have h0_1 := h0_1.mono hle61
 have hq34_0 := hq34_0.mono hle61
 refine WL.a1 ?_
 refine Pu (.agg #[(.int .i64 r35), (.int .i64 r42), (.int .i64 r49), (.int .i64 r56), (.bool false), (.bool false), (.bool false)]) (PO.buildL (cl := [(.int .i64 r35), (.int .i64 r42), (.int .i64 r49), (.int .i64 r56), (.bool false), (.bool false), (.bool false)]) ze43 fp43 (Parts.cons (congrArg Value.cells (show ev _ _ = (.int .i64 r35) from rfl)) (Parts.cons (congrArg Value.cells (show ev _ _ = (.int .i64 r42) from rfl)) (Parts.cons (congrArg Value.cells (show ev _ _ = (.int .i64 r49) from rfl)) (Parts.cons (congrArg Value.cells (show ev _ _ = (.int .i64 r56) from rfl)) Parts.nil)))) rfl) rfl ?_
 refine WL.eff (EO.alloc ze43 rfl) rfl ?_
 rintro _ _ _ - ⟨rfl, g63, rfl, rfl⟩
 refine WL.eff (EO.storeL (v := (.agg #[(.int .i64 r35), (.int .i64 r42), (.int .i64 r49), (.int .i64 r56), (.bool false), (.bool false), (.bool false)])) (vl := [(.int .i64 r35), (.int .i64 r42), (.int .i64 r49), (.int .i64 r56), (.bool false), (.bool false), (.bool false)]) (arr' := [(.int .i64 r35), (.int .i64 r42), (.int .i64 r49), (.int .i64 r56), (.bool false), (.bool false), (.bool false)]) rfl sz43 rfl rfl (onesOf (Ones.cons rfl (Ones.cons rfl (Ones.cons rfl (Ones.cons rfl (Ones.cons rfl (Ones.cons rfl (Ones.cons rfl Ones.nil)))))))) rfl rfl (by kernel_rfl)) rfl ?_
 rintro _ _ _ - ⟨rfl, rfl⟩
 refine Ns ?_
 refine Pm (pt g33 0) rfl rfl ?_
 obtain ⟨⟨r64, r65, r66⟩, hr67, h⟩ := bnd h
 refine WL.f1 ?_
 refine WL.eff (EO.call1 co20 (f_wire_Reader_Flag_ok (⟨r29.b, r57, r58⟩ : T_wire_Reader) _ _ _ hq34_0 (r64, r65, r66) hr67) (args1 rfl)) rfl ?_
 rintro _ M68 _ hle69 ⟨_, ⟨rfl, rfl⟩, rfl⟩
 have h0_1 := h0_1.mono hle69
 have hq34_0 := hq34_0.mono hle69
 refine WL.a1 ?_
 refine Pm (pt g33 0) rfl rfl ?_
 obtain ⟨⟨r71, r72, r73⟩, hr74, h⟩ := bnd h
 refine WL.eff (EO.call1 co20 (f_wire_Reader_Flag_ok (⟨r29.b, r65, r66⟩ : T_wire_Reader) _ _ _ hq34_0 (r71, r72, r73) hr74) (args1 rfl)) rfl ?_
 rintro _ M75 _ hle76 ⟨_, ⟨rfl, rfl⟩, rfl⟩
 have h0_1 := h0_1.mono hle76
 have hq34_0 := hq34_0.mono hle76
 refine WL.a1 ?_
 refine Pm (pt g33 0) rfl rfl ?_
 obtain ⟨⟨r78, r79, r80⟩, hr81, h⟩ := bnd h
 refine WL.eff (EO.call1 co20 (f_wire_Reader_Flag_ok (⟨r29.b, r72, r73⟩ : T_wire_Reader) _ _ _ hq34_0 (r78, r79, r80) hr81) (args1 rfl)) rfl ?_
 rintro _ M82 _ hle83 ⟨_, ⟨rfl, rfl⟩, rfl⟩
 have h0_1 := h0_1.mono hle83
 have hq34_0 := hq34_0.mono hle83
 refine WL.a1 ?_
 refine Pu (.agg #[(.bool r64), (.bool r71), (.bool r78)]) (PO.buildL (cl := [(.bool r64), (.bool r71), (.bool r78)]) ze41 fp41 (Parts.cons (congrArg Value.cells (show ev _ _ = (.bool r64) from rfl)) (Parts.cons (congrArg Value.cells (show ev _ _ = (.bool r71) from rfl)) (Parts.cons (congrArg Value.cells (show ev _ _ = (.bool r78) from rfl)) Parts.nil))) rfl) rfl ?_
 refine Pu (pt g63 4) (PO.fieldAddr fo43_4 rfl rfl) rfl ?_
 refine WL.f1 ?_
 refine WL.eff (EO.storeL (v := (.agg #[(.bool r64), (.bool r71), (.bool r78)])) (vl := [(.bool r64), (.bool r71), (.bool r78)]) (arr' := [(.int .i64 r35), (.int .i64 r42), (.int .i64 r49), (.int .i64 r56), (.bool r64), (.bool r71), (.bool r78)]) rfl sz41 rfl rfl (onesOf (Ones.cons rfl (Ones.cons rfl (Ones.cons rfl Ones.nil)))) rfl rfl (by kernel_rfl)) rfl ?_
 rintro _ _ _ - ⟨rfl, rfl⟩
 refine Nt ?_
 refine WC.seq ?_
 refine Sr ?_
 refine Pm (pt g33 0) rfl rfl ?_
 obtain ⟨⟨r85, r86⟩, hr87, h⟩ := bnd h
 refine WL.f1 ?_
 refine WL.eff (EO.call1 co27 (f_wire_Reader_End_ok (⟨r29.b, r79, r80⟩ : T_wire_Reader) _ _ _ hq34_0 (r85, r86) hr87) (args1 rfl)) rfl ?_
 rintro _ M88 _ hle89 ⟨_, ⟨rfl, rfl⟩, rfl⟩
 have h0_1 := h0_1.mono hle89
 have hq34_0 := hq34_0.mono hle89
 refine WL.a1 ?_
 refine Pa (GV r85) rfl rfl ?_
 refine Ns ?_
 refine Pm (GV r85) rfl rfl ?_
 refine Pu (.bool (!r85.isNil)) (PO.errNotNil Tryz.underlying30 rfl) rfl ?_
 refine Nt ?_
 refine WC.cond (b := !r85.isNil) rfl (fun hb91 => ?_) (fun hb91 => ?_)
 have h := ite_t hb91 h
 refine Sr ?_
 refine Pu (.agg z43_.toArray) (PO.buildL (cl := z43_) ze43 fp43 Parts.nil rfl) rfl ?_
 refine Pm (GV r85) rfl rfl ?_
 refine WL.f2 ?_
 refine WL.eff (EO.storeL (v := (.agg z43_.toArray)) (vl := z43_) (arr' := z43_) rfl sz43 rfl rfl (onesOf (Ones.cons rfl (Ones.cons rfl (Ones.cons rfl (Ones.cons rfl (Ones.cons rfl (Ones.cons rfl (Ones.cons rfl Ones.nil)))))))) rfl rfl (by kernel_rfl)) rfl ?_
 rintro _ _ _ - ⟨rfl, rfl⟩
 refine Pa (GV r85) rfl rfl ?_
 refine Nt ?_
 refine WC.ret ?_
 refine WQ.thenR ?_
 refine WQ.f1 ?_
 refine WQ.drop ?_
 refine WQ.f1 ?_
 refine WQ.drop ?_
 refine WQ.f1 ?_
 refine WQ.drop ?_
 exact WQ.returnsD h [] (fun _ hs => hs.drop) (resultsLN rfl (RVs.cons (RV.cellA (cs := z43_) 0 ag43 sz43 rfl rfl rfl) (RVs.cons (RV.tmp rfl) RVs.nil))) ((((((((hle32.trans hle40).trans hle47).trans hle54).trans hle61).trans hle69).trans hle76).trans hle83).trans hle89) ⟨rfl, rfl⟩
 have h := ite_f hb91 h
 refine WC.skip ?_
 refine WQ.thenC ?_
 refine WC.seq ?_
 refine Sr ?_
 refine Pu (.agg #[(.int .i64 r35), (.int .i64 r42), (.int .i64 r49), (.int .i64 r56), (.bool r64), (.bool r71), (.bool r78)]) (PO.loadBA (cs := [(.int .i64 r35), (.int .i64 r42), (.int .i64 r49), (.int .i64 r56), (.bool r64), (.bool r71), (.bool r78)]) 1 ag43 sz43 rfl rfl rfl) rfl ?_
 obtain ⟨r92, hr93, h⟩ := bnd h
 refine WL.eff (EO.call0 co16 (f_ask_CheckReply_ok (⟨r35, r42, r49, r56, (⟨r64, r71, r78⟩ : T_api_Told)⟩ : T_api_Reply) _ r92 hr93) (args1 rfl)) rfl ?_
 rintro _ M94 _ hle95 ⟨_, ⟨rfl, rfl⟩, rfl⟩
 have h0_1 := h0_1.mono hle95
 have hq34_0 := hq34_0.mono hle95
 refine WL.a0 ?_
 refine Pa (GV r92) rfl rfl ?_
 refine Ns ?_
 refine Pm (GV r92) rfl rfl ?_
 refine Pu (.bool (!r92.isNil)) (PO.errNotNil Tryz.underlying30 rfl) rfl ?_
 refine Nt ?_
 refine WC.cond (b := !r92.isNil) rfl (fun hb97 => ?_) (fun hb97 => ?_)
 have h := ite_t hb97 h
 refine Sr ?_
 refine Pu (.agg z43_.toArray) (PO.buildL (cl := z43_) ze43 fp43 Parts.nil rfl) rfl ?_
 refine Pm (GV r92) rfl rfl ?_
 refine WL.f2 ?_
 refine WL.eff (EO.storeL (v := (.agg z43_.toArray)) (vl := z43_) (arr' := z43_) rfl sz43 rfl rfl (onesOf (Ones.cons rfl (Ones.cons rfl (Ones.cons rfl (Ones.cons rfl (Ones.cons rfl (Ones.cons rfl (Ones.cons rfl Ones.nil)))))))) rfl rfl (by kernel_rfl)) rfl ?_
 rintro _ _ _ - ⟨rfl, rfl⟩
 refine Pa (GV r92) rfl rfl ?_
 refine Nt ?_
 refine WC.ret ?_
 refine WQ.thenR ?_
 refine WQ.f1 ?_
 refine WQ.drop ?_
 refine WQ.f1 ?_
 refine WQ.drop ?_
 refine WQ.f1 ?_
 refine WQ.drop ?_
 exact WQ.returnsD h [] (fun _ hs => hs.drop) (resultsLN rfl (RVs.cons (RV.cellA (cs := z43_) 0 ag43 sz43 rfl rfl rfl) (RVs.cons (RV.tmp rfl) RVs.nil))) (((((((((hle32.trans hle40).trans hle47).trans hle54).trans hle61).trans hle69).trans hle76).trans hle83).trans hle89).trans hle95) ⟨rfl, rfl⟩
 have h := ite_f hb97 h
 refine WC.skip ?_
 refine WQ.thenC ?_
 refine Sr ?_
 refine Pu (.agg #[(.int .i64 r35), (.int .i64 r42), (.int .i64 r49), (.int .i64 r56), (.bool r64), (.bool r71), (.bool r78)]) (PO.loadBA (cs := [(.int .i64 r35), (.int .i64 r42), (.int .i64 r49), (.int .i64 r56), (.bool r64), (.bool r71), (.bool r78)]) 1 ag43 sz43 rfl rfl rfl) rfl ?_
 refine WL.f2 ?_
 refine WL.eff (EO.storeL (v := (.agg #[(.int .i64 r35), (.int .i64 r42), (.int .i64 r49), (.int .i64 r56), (.bool r64), (.bool r71), (.bool r78)])) (vl := [(.int .i64 r35), (.int .i64 r42), (.int .i64 r49), (.int .i64 r56), (.bool r64), (.bool r71), (.bool r78)]) (arr' := [(.int .i64 r35), (.int .i64 r42), (.int .i64 r49), (.int .i64 r56), (.bool r64), (.bool r71), (.bool r78)]) rfl sz43 rfl rfl (onesOf (Ones.cons rfl (Ones.cons rfl (Ones.cons rfl (Ones.cons rfl (Ones.cons rfl (Ones.cons rfl (Ones.cons rfl Ones.nil)))))))) rfl rfl (by kernel_rfl)) rfl ?_
 rintro _ _ _ - ⟨rfl, rfl⟩
 refine Pa (GV GErr.nil) rfl rfl ?_
 refine Nt ?_
 refine WC.ret ?_
 refine WQ.f1 ?_
 refine WQ.drop ?_
 refine WQ.f1 ?_
 refine WQ.drop ?_
 refine WQ.f1 ?_
 refine WQ.drop ?_
 exact WQ.returnsD h [] (fun _ hs => hs.drop) (resultsLN rfl (RVs.cons (RV.cellA (cs := [(.int .i64 r35), (.int .i64 r42), (.int .i64 r49), (.int .i64 r56), (.bool r64), (.bool r71), (.bool r78)]) 0 ag43 sz43 rfl rfl rfl) (RVs.cons (RV.tmp rfl) RVs.nil))) (((((((((hle32.trans hle40).trans hle47).trans hle54).trans hle61).trans hle69).trans hle76).trans hle83).trans hle89).trans hle95) ⟨rfl, rfl⟩

noncomputable def f_ask_Same_1 (a0 : T_api_Request) : Option (List Int) :=
  (some [a0.Client, a0.Serial, a0.Kind, a0.Parts, a0.Replicas, a0.Part, a0.Broker, a0.Epoch])
def f_ask_Same_1_post (a0 : T_api_Request) (v0_10 : Value) : (List Int) → Value → IM → HL → Prop :=
  fun (r0 : (List Int)) (v : Value) (M' : IM) (H' : HL) => (.agg #[(.int .i64 (rd r0 (0 : Int))), (.int .i64 (rd r0 (1 : Int))), (.int .i64 (rd r0 (2 : Int))), (.int .i64 (rd r0 (3 : Int))), (.int .i64 (rd r0 (4 : Int))), (.int .i64 (rd r0 (5 : Int))), (.int .i64 (rd r0 (6 : Int))), (.int .i64 (rd r0 (7 : Int)))]) = v ∧ H' = []
theorem f_ask_Same_1_ok (a0 : T_api_Request) (M : IM) (v0_10 : Value) (h0_10 : RS (Kd.int .i64) M v0_10 a0.Ids) (res : (List Int)) (h : f_ask_Same_1 a0 = some res) :
    Tri Tryz.prog 49 #[(a28_ a0 v0_10)] M [] (f_ask_Same_1_post a0 v0_10 res) := by
 unfold f_ask_Same_1 at h
 refine Tri.enter (fn := Tryz.f49) Tryz.func49 rfl (Nat.le_of_ble_eq_true rfl) ?_
 intro F ρ hρ
 refine Sr ?_
 refine WL.eff (EO.box (cs := (l28 a0 v0_10).toArray) (congrArg Value.cells (asE (a28_ a0 v0_10) (hρ 0)))) rfl ?_
 rintro _ _ _ - ⟨rfl, g21, rfl, rfl⟩
 refine WL.eff (EO.alloc ze87 rfl) rfl ?_
 rintro _ _ _ - ⟨rfl, g22, rfl, rfl⟩
 refine Ns ?_
 refine Pu (pt g21 0) (PO.fieldAddr fo28_0 rfl rfl) rfl ?_
 refine Pu (.int .i64 a0.Client) (PO.loadB 1 pl3 rfl rfl rfl) rfl ?_
 refine Pu (pt g21 1) (PO.fieldAddr fo28_1 rfl rfl) rfl ?_
 refine Pu (.int .i64 a0.Serial) (PO.loadB 1 pl3 rfl rfl rfl) rfl ?_
 refine Pu (pt g21 2) (PO.fieldAddr fo28_2 rfl rfl) rfl ?_
 refine Pu (.int .i64 a0.Kind) (PO.loadB 1 pl3 rfl rfl rfl) rfl ?_
 refine Pu (pt g21 7) (PO.fieldAddr fo28_7 rfl rfl) rfl ?_
 refine Pu (.int .i64 a0.Parts) (PO.loadB 1 pl3 rfl rfl rfl) rfl ?_
 refine Pu (pt g21 8) (PO.fieldAddr fo28_8 rfl rfl) rfl ?_
 refine Pu (.int .i64 a0.Replicas) (PO.loadB 1 pl3 rfl rfl rfl) rfl ?_
 refine Pu (pt g21 9) (PO.fieldAddr fo28_9 rfl rfl) rfl ?_
 refine Pu (.int .i64 a0.Part) (PO.loadB 1 pl3 rfl rfl rfl) rfl ?_
 refine Pu (pt g21 11) (PO.fieldAddr fo28_11 rfl rfl) rfl ?_
 refine Pu (.int .i64 a0.Broker) (PO.loadB 1 pl3 rfl rfl rfl) rfl ?_
 refine Pu (pt g21 12) (PO.fieldAddr fo28_12 rfl rfl) rfl ?_
 refine Pu (.int .i64 a0.Epoch) (PO.loadB 1 pl3 rfl rfl rfl) rfl ?_
 refine Pu (.agg #[(.int .i64 a0.Client), (.int .i64 a0.Serial), (.int .i64 a0.Kind), (.int .i64 a0.Parts), (.int .i64 a0.Replicas), (.int .i64 a0.Part), (.int .i64 a0.Broker), (.int .i64 a0.Epoch)]) (PO.buildAL (cl := [(.int .i64 a0.Client), (.int .i64 a0.Serial), (.int .i64 a0.Kind), (.int .i64 a0.Parts), (.int .i64 a0.Replicas), (.int .i64 a0.Part), (.int .i64 a0.Broker), (.int .i64 a0.Epoch)]) ze87 Tryz.underlying87 sz3 (Parts.cons (congrArg Value.cells (show ev _ _ = (.int .i64 a0.Client) from rfl)) (Parts.cons (congrArg Value.cells (show ev _ _ = (.int .i64 a0.Serial) from rfl)) (Parts.cons (congrArg Value.cells (show ev _ _ = (.int .i64 a0.Kind) from rfl)) (Parts.cons (congrArg Value.cells (show ev _ _ = (.int .i64 a0.Parts) from rfl)) (Parts.cons (congrArg Value.cells (show ev _ _ = (.int .i64 a0.Replicas) from rfl)) (Parts.cons (congrArg Value.cells (show ev _ _ = (.int .i64 a0.Part) from rfl)) (Parts.cons (congrArg Value.cells (show ev _ _ = (.int .i64 a0.Broker) from rfl)) (Parts.cons (congrArg Value.cells (show ev _ _ = (.int .i64 a0.Epoch) from rfl)) Parts.nil)))))))) rfl) rfl ?_
 refine WL.eff (EO.storeL (v := (.agg #[(.int .i64 a0.Client), (.int .i64 a0.Serial), (.int .i64 a0.Kind), (.int .i64 a0.Parts), (.int .i64 a0.Replicas), (.int .i64 a0.Part), (.int .i64 a0.Broker), (.int .i64 a0.Epoch)])) (vl := [(.int .i64 a0.Client), (.int .i64 a0.Serial), (.int .i64 a0.Kind), (.int .i64 a0.Parts), (.int .i64 a0.Replicas), (.int .i64 a0.Part), (.int .i64 a0.Broker), (.int .i64 a0.Epoch)]) (arr' := [(.int .i64 a0.Client), (.int .i64 a0.Serial), (.int .i64 a0.Kind), (.int .i64 a0.Parts), (.int .i64 a0.Replicas), (.int .i64 a0.Part), (.int .i64 a0.Broker), (.int .i64 a0.Epoch)]) rfl sz87 rfl rfl (onesOf (Ones.cons rfl (Ones.cons rfl (Ones.cons rfl (Ones.cons rfl (Ones.cons rfl (Ones.cons rfl (Ones.cons rfl (Ones.cons rfl Ones.nil))))))))) rfl rfl (by kernel_rfl)) rfl ?_
 rintro _ _ _ - ⟨rfl, rfl⟩
 refine Nt ?_
 refine WC.ret ?_
 refine WQ.f1 ?_
 refine WQ.drop ?_
 exact WQ.returnsD h [] (fun _ hs => hs.drop) (resultsL1 rfl (RV.cellA (cs := [(.int .i64 a0.Client), (.int .i64 a0.Serial), (.int .i64 a0.Kind), (.int .i64 a0.Parts), (.int .i64 a0.Replicas), (.int .i64 a0.Part), (.int .i64 a0.Broker), (.int .i64 a0.Epoch)]) 0 ag87 sz87 rfl rfl rfl)) (IM.le.refl _) ⟨rfl, rfl⟩

noncomputable def f_ask_Same_2 (a0 : T_api_Request) : Option (List ByteArray) :=
  (some [a0.Name, a0.Key, a0.Value, a0.Rack])
def f_ask_Same_2_post (a0 : T_api_Request) (v0_10 : Value) : (List ByteArray) → Value → IM → HL → Prop :=
  fun (r0 : (List ByteArray)) (v : Value) (M' : IM) (H' : HL) => (.agg #[(.string (rd r0 (0 : Int))), (.string (rd r0 (1 : Int))), (.string (rd r0 (2 : Int))), (.string (rd r0 (3 : Int)))]) = v ∧ H' = []
theorem f_ask_Same_2_ok (a0 : T_api_Request) (M : IM) (v0_10 : Value) (h0_10 : RS (Kd.int .i64) M v0_10 a0.Ids) (res : (List ByteArray)) (h : f_ask_Same_2 a0 = some res) :
    Tri Tryz.prog 50 #[(a28_ a0 v0_10)] M [] (f_ask_Same_2_post a0 v0_10 res) := by
 unfold f_ask_Same_2 at h
 refine Tri.enter (fn := Tryz.f50) Tryz.func50 rfl (Nat.le_of_ble_eq_true rfl) ?_
 intro F ρ hρ
 refine Sr ?_
 refine WL.eff (EO.box (cs := (l28 a0 v0_10).toArray) (congrArg Value.cells (asE (a28_ a0 v0_10) (hρ 0)))) rfl ?_
 rintro _ _ _ - ⟨rfl, g21, rfl, rfl⟩
 refine WL.eff (EO.alloc ze89 rfl) rfl ?_
 rintro _ _ _ - ⟨rfl, g22, rfl, rfl⟩
 refine Ns ?_
 refine Pu (pt g21 3) (PO.fieldAddr fo28_3 rfl rfl) rfl ?_
 refine Pu (.string a0.Name) (PO.loadB 1 pl9 rfl rfl rfl) rfl ?_
 refine Pu (pt g21 4) (PO.fieldAddr fo28_4 rfl rfl) rfl ?_
 refine Pu (.string a0.Key) (PO.loadB 1 pl9 rfl rfl rfl) rfl ?_
 refine Pu (pt g21 5) (PO.fieldAddr fo28_5 rfl rfl) rfl ?_
 refine Pu (.string a0.Value) (PO.loadB 1 pl9 rfl rfl rfl) rfl ?_
 refine Pu (pt g21 13) (PO.fieldAddr fo28_13 rfl rfl) rfl ?_
 refine Pu (.string a0.Rack) (PO.loadB 1 pl9 rfl rfl rfl) rfl ?_
 refine Pu (.agg #[(.string a0.Name), (.string a0.Key), (.string a0.Value), (.string a0.Rack)]) (PO.buildAL (cl := [(.string a0.Name), (.string a0.Key), (.string a0.Value), (.string a0.Rack)]) ze89 Tryz.underlying89 sz9 (Parts.cons (congrArg Value.cells (show ev _ _ = (.string a0.Name) from rfl)) (Parts.cons (congrArg Value.cells (show ev _ _ = (.string a0.Key) from rfl)) (Parts.cons (congrArg Value.cells (show ev _ _ = (.string a0.Value) from rfl)) (Parts.cons (congrArg Value.cells (show ev _ _ = (.string a0.Rack) from rfl)) Parts.nil)))) rfl) rfl ?_
 refine WL.eff (EO.storeL (v := (.agg #[(.string a0.Name), (.string a0.Key), (.string a0.Value), (.string a0.Rack)])) (vl := [(.string a0.Name), (.string a0.Key), (.string a0.Value), (.string a0.Rack)]) (arr' := [(.string a0.Name), (.string a0.Key), (.string a0.Value), (.string a0.Rack)]) rfl sz89 rfl rfl (onesOf (Ones.cons rfl (Ones.cons rfl (Ones.cons rfl (Ones.cons rfl Ones.nil))))) rfl rfl rfl) rfl ?_
 rintro _ _ _ - ⟨rfl, rfl⟩
 refine Nt ?_
 refine WC.ret ?_
 refine WQ.f1 ?_
 refine WQ.drop ?_
 exact WQ.returnsD h [] (fun _ hs => hs.drop) (resultsL1 rfl (RV.cellA (cs := [(.string a0.Name), (.string a0.Key), (.string a0.Value), (.string a0.Rack)]) 0 ag89 sz89 rfl rfl rfl)) (IM.le.refl _) ⟨rfl, rfl⟩

noncomputable def f_slices_Equal_int_int_l0 (a0 : (List Int)) (a1 : (List Int)) (s_ : Int) : Option (Int ⊕ (Unit ⊕ Unit)) :=
  match s_ with
  | x24 =>
    (if (decide (x24 < (a0.length : Int))) = true then (grd (0 ≤ x24 ∧ x24 < a0.length) (grd (0 ≤ x24 ∧ x24 < a1.length) (if (decide ((rd a0 x24) ≠ (rd a1 x24))) = true then (some (Sum.inr (Sum.inr ()))) else (some (Sum.inl (IntKind.i64.wrap (x24 + (1 : Int)))))))) else (some (Sum.inr (Sum.inl ()))))
noncomputable def f_slices_Equal_int_int (a0 : (List Int)) (a1 : (List Int)) : Option Bool :=
  (if (decide ((a0.length : Int) ≠ (a1.length : Int))) = true then (some false) else ((((iter (f_slices_Equal_int_int_l0 a0 a1) (0 : Int)).bind (Sum.elim (fun _ => (some (Sum.inl ()))) (fun _ => (((some false)).bind fun r => some (Sum.inr r))))) : Option (Unit ⊕ Bool)).bind (Sum.elim (fun _ => (some true)) some)))
def f_slices_Equal_int_int_post (a0 : (List Int)) (a1 : (List Int)) (v0 v1 : Value) : Bool → Value → IM → HL → Prop :=
  fun (r0 : Bool) (v : Value) (M' : IM) (H' : HL) => (.bool r0) = v ∧ H' = []
theorem f_slices_Equal_int_int_ok (a0 : (List Int)) (a1 : (List Int)) (M : IM) (v0 v1 : Value) (h0 : RS (Kd.int .i64) M v0 a0) (h1 : RS (Kd.int .i64) M v1 a1) (res : Bool) (h : f_slices_Equal_int_int a0 a1 = some res) :
    Tri Tryz.prog 51 #[v0, v1] M [] (f_slices_Equal_int_int_post a0 a1 v0 v1 res) := by
 unfold f_slices_Equal_int_int at h
 refine Tri.enter (fn := Tryz.f51) Tryz.func51 rfl (Nat.le_of_ble_eq_true rfl) ?_
 intro F ρ hρ
 refine Sr ?_
 refine Pa (.bool false) rfl rfl ?_
 refine Nt ?_
 refine WC.seq ?_
 refine Sr ?_
 refine Pm v0 (hρ 0) rfl ?_
 refine Pu (.int .i64 (a0.length : Int)) (PO.lenS Tryz.underlying24 rfl h0.len) rfl ?_
 refine Pm v1 (hρ 1) rfl ?_
 refine Pu (.int .i64 (a1.length : Int)) (PO.lenS Tryz.underlying24 rfl h1.len) rfl ?_
 refine Pu (.bool (decide ((a0.length : Int) ≠ (a1.length : Int)))) (PO.neq rfl rfl) rfl ?_
 refine Nt ?_
 refine WC.cond (b := decide ((a0.length : Int) ≠ (a1.length : Int))) rfl (fun hb21 => ?_) (fun hb21 => ?_)
 have h := ite_t hb21 h
 refine Sr ?_
 refine Pa (.bool false) rfl rfl ?_
 refine Nt ?_
 refine WC.ret ?_
 refine WQ.thenR ?_
 exact WQ.returnsF h [] rfl (results1 rfl rfl) (IM.le.refl _) ⟨rfl, rfl⟩
 have h := ite_f hb21 h
 refine WC.skip ?_
 refine WQ.thenC ?_
 obtain ⟨j22, hj22, h⟩ := bnd h
 refine WC.joinE (fun (_ : Unit) ρ' M' H' => M.le M' ∧ F = H') j22 ?_ ?_
 have h322 := h
 have h := hj22
 refine Sr ?_
 refine Pm v0 (hρ 0) rfl ?_
 refine Pu (.int .i64 (a0.length : Int)) (PO.lenS Tryz.underlying24 rfl h0.len) rfl ?_
 refine Pm (.int .i64 0) rfl rfl ?_
 refine Nt ?_
 refine WC.block ?_
 obtain ⟨e23, he23, hK23⟩ := bnd h
 clear h
 refine WC.loop he23 (fun (x24 : Int) ρ' M' H' => M.le M' ∧ F = H' ∧ ρ' 0 = v0 ∧ ρ' 1 = v1 ∧ ρ' 12 = (.int .i64 (a0.length : Int)) ∧ ρ' 13 = (.int .i64 x24)) ?_ ?_
 exact ⟨(IM.le.refl _), rfl, (hρ 0), (hρ 1), rfl, rfl⟩
 rintro x24 o23 ρ23 M23 H23 h ⟨hle23, rfl, hs23_0, hs23_1, hs23_12, hs23_13⟩
 unfold f_slices_Equal_int_int_l0 at h
 have h0 := h0.mono hle23
 have h1 := h1.mono hle23
 refine Sr ?_
 refine Pu (.bool (decide (x24 < (a0.length : Int)))) (PO.lss hs23_13 hs23_12) rfl ?_
 refine Nt ?_
 refine WC.seq ?_
 refine WC.cond (b := decide (x24 < (a0.length : Int))) rfl (fun hb25 => ?_) (fun hb25 => ?_)
 have h := ite_t hb25 h
 refine WC.skip ?_
 refine WQ.thenC ?_
 refine WC.seq ?_
 refine WC.block ?_
 refine Sr ?_
 refine Pm (.int .i64 x24) hs23_13 rfl ?_
 refine Pa (.int .i64 x24) rfl rfl ?_
 refine Nt ?_
 refine WC.seq ?_
 refine WC.draw [0, 0, 3, 7, 0, 0, 48, 112, 255] (.pure 0 (.pure 1 (.pure 2 (.pure 3 (.pure 4 (.pure 5 (.pure 6 (.pure 7 (.pure 8 .done))))))))) mixed (by kernel_rfl) ?_
 refine Tp v0 rfl (PO.move hs23_0) rfl ?_
 refine Tp (.int .i64 x24) rfl (PO.move rfl) rfl ?_
 obtain ⟨hg26, h⟩ := grd_i h
 obtain ⟨p27, cs28, hat29, hrc30, hhas31⟩ := h0.at hg26.1 hg26.2 (by decide)
 obtain rfl := hrc30
 refine Tp (.pointer (some p27)) rfl (PO.indexAddr (n := a0.length) Tryz.underlying24 sz3 rfl rfl hg26.1 hg26.2 hat29) rfl ?_
 refine Tp (.int .i64 (rd a0 x24)) rfl (PO.loadM pl3 rfl (IM.has0 hhas31)) rfl ?_
 refine Tp v1 rfl (PO.move hs23_1) rfl ?_
 refine Tp (.int .i64 x24) rfl (PO.move rfl) rfl ?_
 obtain ⟨hg33, h⟩ := grd_i h
 obtain ⟨p34, cs35, hat36, hrc37, hhas38⟩ := h1.at hg33.1 hg33.2 (by decide)
 obtain rfl := hrc37
 refine Tp (.pointer (some p34)) rfl (PO.indexAddr (n := a1.length) Tryz.underlying24 sz3 rfl rfl hg33.1 hg33.2 hat36) rfl ?_
 refine Tp (.int .i64 (rd a1 x24)) rfl (PO.loadM pl3 rfl (IM.has0 hhas38)) rfl ?_
 refine Tp (.bool (decide ((rd a0 x24) ≠ (rd a1 x24)))) rfl (PO.neq rfl rfl) rfl ?_
 refine WT.fin ?_
 refine WQ.thenC ?_
 refine WC.cond (b := decide ((rd a0 x24) ≠ (rd a1 x24))) rfl (fun hb40 => ?_) (fun hb40 => ?_)
 have h := ite_t hb40 h
 refine Sr ?_
 refine Pa (.bool false) rfl rfl ?_
 refine Nt ?_
 refine WC.ret ?_
 refine WQ.blockR ?_
 refine WQ.thenR ?_
 refine WQ.leaveR (Sum.inr ()) (Option.some.inj h).symm (fun heq23 => ?_)
 subst heq23
 have h := (elimR hK23)
 refine WQ.blockR ?_
 refine WQ.thenR ?_
 have h := KK.early h h322
 exact WQ.returnsF h [] rfl (results1 rfl rfl) hle23 ⟨rfl, rfl⟩
 have h := ite_f hb40 h
 refine WC.skip ?_
 refine WQ.blockN ?_
 refine WQ.thenC ?_
 refine WC.region ?_
 refine Pu (.int .i64 (IntKind.i64.wrap (x24 + 1))) (PO.add hs23_13 rfl) rfl ?_
 refine Pm (.int .i64 (IntKind.i64.wrap (x24 + 1))) rfl rfl ?_
 refine WL.nil ?_
 refine WQ.again (IntKind.i64.wrap (x24 + 1)) (Option.some.inj h).symm ?_
 exact ⟨hle23, rfl, hs23_0, hs23_1, hs23_12, rfl⟩
 have h := ite_f hb25 h
 refine WC.exit ?_
 refine WQ.thenE ?_
 refine WQ.leaveE (Sum.inl ()) (Option.some.inj h).symm (fun heq23 => ?_)
 subst heq23
 have h := elimL hK23
 refine WQ.blockH ?_
 refine WQ.thenFE h ?_
 exact ⟨hle23, rfl⟩
 rintro _ ρ22 M22 H22 rfl ⟨hle22, rfl⟩
 refine Sr ?_
 refine Pa (.bool true) rfl rfl ?_
 refine Nt ?_
 refine WC.ret ?_
 exact WQ.returnsF h [] rfl (results1 rfl rfl) hle22 ⟨rfl, rfl⟩


end Go.Proofs.YtjgnbbakamellaaGreatDoor.G
