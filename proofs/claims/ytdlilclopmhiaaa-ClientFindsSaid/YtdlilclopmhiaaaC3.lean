/- Go functions: what they come to, and that they do. Printed by a program of the session (gen). -/
import Derived.Test.YtdlilclopmhiaaaCF
import Derived.Test.YtdlilclopmhiaaaC2
set_option linter.unusedVariables false
set_option linter.unusedSimpArgs false
namespace Go.Proofs.Ytdlilclopmhiaaa.G
open Go Go.KK

noncomputable def f_ref28_Check (a0 : T_api_Client) : Option Int :=
  ((f_ref28_New a0.Id a0.Voters).bind fun (r22, r23) => (if (decide (r23 ≠ (0 : Int))) = true then (some r23) else (((if (decide (a0.Serial < (0 : Int))) = true then (some true) else (if (decide ((1073741824 : Int) < a0.Serial)) = true then (some true) else (if (decide (a0.Node < (1 : Int))) = true then (some true) else (some (decide (a0.Voters < a0.Node)))))) : Option Bool).bind fun (x31 : Bool) => (if x31 = true then (some (2 : Int)) else (((if (decide ((1 : Int) < (a0.Open.length : Int))) = true then (some true) else (if (decide (a0.Tries < (0 : Int))) = true then (some true) else (if (decide ((50 : Int) < a0.Tries)) = true then (some true) else (if (decide ((a0.Open.length : Int) = (0 : Int))) = true then (some (decide (a0.Tries ≠ (0 : Int)))) else (some false))))) : Option Bool).bind fun (x37 : Bool) => (if x37 = true then (some (10 : Int)) else (if (decide ((a0.Open.length : Int) = (0 : Int))) = true then (some (0 : Int)) else (grd (0 ≤ (0 : Int) ∧ (0 : Int) < a0.Open.length) ((f_ref22_Check (⟨(rd a0.Open (0 : Int)).Client, (rd a0.Open (0 : Int)).Serial, (rd a0.Open (0 : Int)).Kind, (rd a0.Open (0 : Int)).Name, (rd a0.Open (0 : Int)).Key, (rd a0.Open (0 : Int)).Value, (rd a0.Open (0 : Int)).Flag, (rd a0.Open (0 : Int)).Parts, (rd a0.Open (0 : Int)).Replicas, (rd a0.Open (0 : Int)).Part, (rd a0.Open (0 : Int)).Ids, (rd a0.Open (0 : Int)).Broker, (rd a0.Open (0 : Int)).Epoch, (rd a0.Open (0 : Int)).Rack, ((rd a0.Open (0 : Int)).Word)⟩ : T_api_Request)).bind fun (r53 : T_ref22_Wrong) => (if (decide (r53.Code ≠ (0 : Int))) = true then (some r53.Code) else (((if (decide (((rd a0.Open (0 : Int)).Client) ≠ a0.Id)) = true then (some true) else (some (decide (((rd a0.Open (0 : Int)).Serial) ≠ a0.Serial)))) : Option Bool).bind fun (x60 : Bool) => (if x60 = true then (some (10 : Int)) else (some (0 : Int))))))))))))))
def f_ref28_Check_post (a0 : T_api_Client) (v0_4 : Value) : Int → Value → IM → HL → Prop :=
  fun (r0 : Int) (v : Value) (M' : IM) (H' : HL) => (.int .i64 r0) = v ∧ H' = []
set_option maxHeartbeats 8000000 in
set_option maxRecDepth 100000 in
theorem f_ref28_Check_ok (a0 : T_api_Client) (M : IM) (v0_4 : Value) (h0_4 : RS kd_api_Request M v0_4 a0.Open) (res : Int) (h : f_ref28_Check a0 = some res) :
    Tri Try.prog 8 #[(.agg #[(.int .i64 a0.Id), (.int .i64 a0.Serial), (.int .i64 a0.Voters), (.int .i64 a0.Node), v0_4, (.int .i64 a0.Tries)])] M [] (f_ref28_Check_post a0 v0_4 res) := by
 unfold f_ref28_Check at h
 refine Tri.enter (fn := Try.f8) Try.func8 rfl (Nat.le_of_ble_eq_true rfl) ?_
 intro F ρ hρ
 refine Sr ?_
 refine WL.eff (EO.box (cs := #[(.int .i64 a0.Id), (.int .i64 a0.Serial), (.int .i64 a0.Voters), (.int .i64 a0.Node), v0_4, (.int .i64 a0.Tries)]) (congrArg Value.cells (asE (.agg #[(.int .i64 a0.Id), (.int .i64 a0.Serial), (.int .i64 a0.Voters), (.int .i64 a0.Node), v0_4, (.int .i64 a0.Tries)]) (hρ 0)))) rfl ?_
 rintro _ _ _ - ⟨rfl, g21, rfl, rfl⟩
 refine Pa (.int .i64 (0 : Int)) rfl rfl ?_
 refine Nt ?_
 refine WC.seq ?_
 refine Sr ?_
 refine Pu (.pointer (some ⟨g21, 0, none⟩)) (PO.fieldAddr fo24_0 rfl rfl) rfl ?_
 refine Pu (.int .i64 a0.Id) (PO.loadB 0 pl3 rfl rfl rfl) rfl ?_
 refine Pu (.pointer (some ⟨g21, 2, none⟩)) (PO.fieldAddr fo24_2 rfl rfl) rfl ?_
 refine Pu (.int .i64 a0.Voters) (PO.loadB 0 pl3 rfl rfl rfl) rfl ?_
 obtain ⟨⟨r22, r23⟩, hr24, h⟩ := bnd h
 refine WL.eff (EO.call0 co16 (f_ref28_New_ok a0.Id a0.Voters _ (r22, r23) hr24) (args2 rfl rfl)) rfl ?_
 rintro _ M25 _ hle26 ⟨_, ⟨vq27_4, cq27_4, rfl, rfl, hq27_4⟩, rfl⟩
 have h0_4 := h0_4.mono hle26
 refine WL.a1 ?_
 refine Pm (.tuple #[(.agg #[(.int .i64 r22.Id), (.int .i64 r22.Serial), (.int .i64 r22.Voters), (.int .i64 r22.Node), vq27_4, (.int .i64 r22.Tries)]), (.int .i64 r23)]) rfl rfl ?_
 refine Pu (.agg #[(.int .i64 r22.Id), (.int .i64 r22.Serial), (.int .i64 r22.Voters), (.int .i64 r22.Node), vq27_4, (.int .i64 r22.Tries)]) (PO.extract rfl rfl) rfl ?_
 refine Pu (.int .i64 r23) (PO.extract rfl rfl) rfl ?_
 refine WL.eff (EO.alloc ze24 rfl) rfl ?_
 rintro _ _ _ - ⟨rfl, g29, rfl, rfl⟩
 refine WL.eff (EO.storeL (v := (.agg #[(.int .i64 r22.Id), (.int .i64 r22.Serial), (.int .i64 r22.Voters), (.int .i64 r22.Node), vq27_4, (.int .i64 r22.Tries)])) (vl := [(.int .i64 r22.Id), (.int .i64 r22.Serial), (.int .i64 r22.Voters), (.int .i64 r22.Node), vq27_4, (.int .i64 r22.Tries)]) (arr' := [(.int .i64 r22.Id), (.int .i64 r22.Serial), (.int .i64 r22.Voters), (.int .i64 r22.Node), vq27_4, (.int .i64 r22.Tries)]) rfl sz24 rfl rfl (onesOf (Ones.cons rfl (Ones.cons rfl (Ones.cons rfl (Ones.cons rfl (Ones.cons (OwnS.one hq27_4) (Ones.cons rfl Ones.nil))))))) rfl rfl rfl) rfl ?_
 rintro _ _ _ - ⟨rfl, rfl⟩
 refine Pa (.int .i64 r23) rfl rfl ?_
 refine Ns ?_
 refine Pm (.int .i64 r23) rfl rfl ?_
 refine Pu (.bool (decide (r23 ≠ (0 : Int)))) (PO.neq rfl rfl) rfl ?_
 refine Nt ?_
 refine WC.cond (b := decide (r23 ≠ (0 : Int))) rfl (fun hb30 => ?_) (fun hb30 => ?_)
 have h := ite_t hb30 h
 refine Sr ?_
 refine Pm (.int .i64 r23) rfl rfl ?_
 refine Pa (.int .i64 r23) rfl rfl ?_
 refine Nt ?_
 refine WC.ret ?_
 refine WQ.thenR ?_
 refine WQ.drop ?_
 refine WQ.drop ?_
 refine WQ.drop ?_
 exact WQ.returnsF h [] rfl (results1 rfl rfl) hle26 ⟨rfl, rfl⟩
 have h := ite_f hb30 h
 refine WC.skip ?_
 refine WQ.thenC ?_
 refine WC.seq ?_
 obtain ⟨x31, hj32, h⟩ := bnd h
 refine WC.joinF (fun (x31 : Bool) ρ' M' H' => M25.le M' ∧ [(g29, .cells #[(.int .i64 r22.Id), (.int .i64 r22.Serial), (.int .i64 r22.Voters), (.int .i64 r22.Node), vq27_4, (.int .i64 r22.Tries)] 24 (0, 0))] :: [(g21, .cells #[(.int .i64 a0.Id), (.int .i64 a0.Serial), (.int .i64 a0.Voters), (.int .i64 a0.Node), v0_4, (.int .i64 a0.Tries)] 24 (0, 0))] :: cq27_4 :: F = H' ∧ ρ' 1 = (.pointer (some ⟨g21, 0, none⟩)) ∧ ρ' 37 = (.bool x31)) x31 ?_ ?_
 have h332 := h
 have h := hj32
 refine WC.region ?_
 refine Pu (.pointer (some ⟨g21, 1, none⟩)) (PO.fieldAddr fo24_1 rfl rfl) rfl ?_
 refine Pu (.int .i64 a0.Serial) (PO.loadB 2 pl3 rfl rfl rfl) rfl ?_
 refine Pu (.bool (decide (a0.Serial < (0 : Int)))) (PO.lss rfl rfl) rfl ?_
 refine Pm (.bool (decide (a0.Serial < (0 : Int)))) rfl rfl ?_
 rcases Bool.eq_false_or_eq_true (decide (a0.Serial < (0 : Int))) with hb33 | hb33
 have h := ite_t hb33 h
 iterate 3 refine Of 21 rfl rfl hb33 rfl ?_
 refine Pu (.bool true) (PO.pickT rfl hb33 rfl) rfl ?_
 refine Pm (.bool true) rfl rfl ?_
 iterate 3 refine Of 26 rfl rfl rfl rfl ?_
 refine Pu (.bool true) (PO.pickT rfl rfl rfl) rfl ?_
 refine Pm (.bool true) rfl rfl ?_
 iterate 5 refine Of 31 rfl rfl rfl rfl ?_
 refine Pu (.bool true) (PO.pickT rfl rfl rfl) rfl ?_
 refine WL.nil ?_
 refine WQ.f1 ?_
 refine WQ.f2 ?_
 refine WQ.f2 ?_
 obtain rfl := Option.some.inj h
 refine WQ.thenJ ?_
 exact ⟨(IM.le.refl _), rfl, rfl, rfl⟩
 have h := ite_f hb33 h
 refine On 21 rfl rfl hb33 ?_
 refine Pu (.pointer (some ⟨g21, 1, none⟩)) (PO.fieldAddr fo24_1 rfl rfl) rfl ?_
 refine On 21 rfl rfl hb33 ?_
 refine Pu (.int .i64 a0.Serial) (PO.loadB 2 pl3 rfl rfl rfl) rfl ?_
 refine On 21 rfl rfl hb33 ?_
 refine Pu (.bool (decide ((1073741824 : Int) < a0.Serial))) (PO.gtr rfl rfl) rfl ?_
 refine Pu (.bool (decide ((1073741824 : Int) < a0.Serial))) (PO.pickF rfl hb33 rfl) rfl ?_
 refine Pm (.bool (decide ((1073741824 : Int) < a0.Serial))) rfl rfl ?_
 rcases Bool.eq_false_or_eq_true (decide ((1073741824 : Int) < a0.Serial)) with hb34 | hb34
 have h := ite_t hb34 h
 iterate 3 refine Of 26 rfl rfl hb34 rfl ?_
 refine Pu (.bool true) (PO.pickT rfl hb34 rfl) rfl ?_
 refine Pm (.bool true) rfl rfl ?_
 iterate 5 refine Of 31 rfl rfl rfl rfl ?_
 refine Pu (.bool true) (PO.pickT rfl rfl rfl) rfl ?_
 refine WL.nil ?_
 refine WQ.f1 ?_
 refine WQ.f2 ?_
 refine WQ.f2 ?_
 obtain rfl := Option.some.inj h
 refine WQ.thenJ ?_
 exact ⟨(IM.le.refl _), rfl, rfl, rfl⟩
 have h := ite_f hb34 h
 refine On 26 rfl rfl hb34 ?_
 refine Pu (.pointer (some ⟨g21, 3, none⟩)) (PO.fieldAddr fo24_3 rfl rfl) rfl ?_
 refine On 26 rfl rfl hb34 ?_
 refine Pu (.int .i64 a0.Node) (PO.loadB 2 pl3 rfl rfl rfl) rfl ?_
 refine On 26 rfl rfl hb34 ?_
 refine Pu (.bool (decide (a0.Node < (1 : Int)))) (PO.lss rfl rfl) rfl ?_
 refine Pu (.bool (decide (a0.Node < (1 : Int)))) (PO.pickF rfl hb34 rfl) rfl ?_
 refine Pm (.bool (decide (a0.Node < (1 : Int)))) rfl rfl ?_
 rcases Bool.eq_false_or_eq_true (decide (a0.Node < (1 : Int))) with hb35 | hb35
 have h := ite_t hb35 h
 iterate 5 refine Of 31 rfl rfl hb35 rfl ?_
 refine Pu (.bool true) (PO.pickT rfl hb35 rfl) rfl ?_
 refine WL.nil ?_
 refine WQ.f1 ?_
 refine WQ.f2 ?_
 refine WQ.f2 ?_
 obtain rfl := Option.some.inj h
 refine WQ.thenJ ?_
 exact ⟨(IM.le.refl _), rfl, rfl, rfl⟩
 have h := ite_f hb35 h
 refine On 31 rfl rfl hb35 ?_
 refine Pu (.pointer (some ⟨g21, 3, none⟩)) (PO.fieldAddr fo24_3 rfl rfl) rfl ?_
 refine On 31 rfl rfl hb35 ?_
 refine Pu (.int .i64 a0.Node) (PO.loadB 2 pl3 rfl rfl rfl) rfl ?_
 refine On 31 rfl rfl hb35 ?_
 refine Pu (.pointer (some ⟨g21, 2, none⟩)) (PO.fieldAddr fo24_2 rfl rfl) rfl ?_
 refine On 31 rfl rfl hb35 ?_
 refine Pu (.int .i64 a0.Voters) (PO.loadB 2 pl3 rfl rfl rfl) rfl ?_
 refine On 31 rfl rfl hb35 ?_
 refine Pu (.bool (decide (a0.Voters < a0.Node))) (PO.gtr rfl rfl) rfl ?_
 refine Pu (.bool (decide (a0.Voters < a0.Node))) (PO.pickF rfl hb35 rfl) rfl ?_
 refine WL.nil ?_
 refine WQ.f1 ?_
 refine WQ.f2 ?_
 refine WQ.f2 ?_
 obtain rfl := Option.some.inj h
 refine WQ.thenJ ?_
 exact ⟨(IM.le.refl _), rfl, rfl, rfl⟩
 rintro ρ32 M32 H32 ⟨hle32, rfl, hs32_1, hs32_37⟩
 have hq27_4 := hq27_4.mono hle32
 have h0_4 := h0_4.mono hle32
 refine WC.cond (b := x31) hs32_37 (fun hb36 => ?_) (fun hb36 => ?_)
 have h := ite_t hb36 h
 refine Sr ?_
 refine Pa (.int .i64 (2 : Int)) rfl rfl ?_
 refine Nt ?_
 refine WC.ret ?_
 refine WQ.thenR ?_
 refine WQ.drop ?_
 refine WQ.drop ?_
 refine WQ.drop ?_
 exact WQ.returnsF h [] rfl (results1 rfl rfl) (hle26.trans hle32) ⟨rfl, rfl⟩
 have h := ite_f hb36 h
 refine WC.skip ?_
 refine WQ.thenC ?_
 refine WC.seq ?_
 obtain ⟨x37, hj38, h⟩ := bnd h
 refine WC.joinF (fun (x37 : Bool) ρ' M' H' => M32.le M' ∧ [(g29, .cells #[(.int .i64 r22.Id), (.int .i64 r22.Serial), (.int .i64 r22.Voters), (.int .i64 r22.Node), vq27_4, (.int .i64 r22.Tries)] 24 (0, 0))] :: [(g21, .cells #[(.int .i64 a0.Id), (.int .i64 a0.Serial), (.int .i64 a0.Voters), (.int .i64 a0.Node), v0_4, (.int .i64 a0.Tries)] 24 (0, 0))] :: cq27_4 :: F = H' ∧ ρ' 1 = (.pointer (some ⟨g21, 0, none⟩)) ∧ ρ' 62 = (.bool x37)) x37 ?_ ?_
 have h338 := h
 have h := hj38
 refine WC.region ?_
 refine Pu (.pointer (some ⟨g21, 4, none⟩)) (PO.fieldAddr fo24_4 hs32_1 rfl) rfl ?_
 refine Pu v0_4 (PO.loadB 1 pl22 rfl rfl rfl) rfl ?_
 refine Pu (.int .i64 (a0.Open.length : Int)) (PO.lenS Try.underlying22 rfl h0_4.len) rfl ?_
 refine Pu (.bool (decide ((1 : Int) < (a0.Open.length : Int)))) (PO.gtr rfl rfl) rfl ?_
 refine Pm (.bool (decide ((1 : Int) < (a0.Open.length : Int)))) rfl rfl ?_
 rcases Bool.eq_false_or_eq_true (decide ((1 : Int) < (a0.Open.length : Int))) with hb39 | hb39
 have h := ite_t hb39 h
 iterate 3 refine Of 42 rfl rfl hb39 rfl ?_
 refine Pu (.bool true) (PO.pickT rfl hb39 rfl) rfl ?_
 refine Pm (.bool true) rfl rfl ?_
 iterate 3 refine Of 47 rfl rfl rfl rfl ?_
 refine Pu (.bool true) (PO.pickT rfl rfl rfl) rfl ?_
 refine Pm (.bool true) rfl rfl ?_
 iterate 5 refine Of 52 rfl rfl rfl rfl ?_
 refine WL.offU 57 rfl rfl rfl ?_
 refine WL.offU 57 rfl rfl rfl ?_
 refine WL.offU 57 rfl rfl rfl ?_
 refine Of 52 rfl rfl rfl rfl ?_
 refine Pu (.bool true) (PO.pickT rfl rfl rfl) rfl ?_
 refine WL.nil ?_
 obtain rfl := Option.some.inj h
 refine WQ.thenJ ?_
 exact ⟨(IM.le.refl _), rfl, hs32_1, rfl⟩
 have h := ite_f hb39 h
 refine On 42 rfl rfl hb39 ?_
 refine Pu (.pointer (some ⟨g21, 5, none⟩)) (PO.fieldAddr fo24_5 hs32_1 rfl) rfl ?_
 refine On 42 rfl rfl hb39 ?_
 refine Pu (.int .i64 a0.Tries) (PO.loadB 1 pl3 rfl rfl rfl) rfl ?_
 refine On 42 rfl rfl hb39 ?_
 refine Pu (.bool (decide (a0.Tries < (0 : Int)))) (PO.lss rfl rfl) rfl ?_
 refine Pu (.bool (decide (a0.Tries < (0 : Int)))) (PO.pickF rfl hb39 rfl) rfl ?_
 refine Pm (.bool (decide (a0.Tries < (0 : Int)))) rfl rfl ?_
 rcases Bool.eq_false_or_eq_true (decide (a0.Tries < (0 : Int))) with hb40 | hb40
 have h := ite_t hb40 h
 iterate 3 refine Of 47 rfl rfl hb40 rfl ?_
 refine Pu (.bool true) (PO.pickT rfl hb40 rfl) rfl ?_
 refine Pm (.bool true) rfl rfl ?_
 iterate 5 refine Of 52 rfl rfl rfl rfl ?_
 refine WL.offU 57 rfl rfl rfl ?_
 refine WL.offU 57 rfl rfl rfl ?_
 refine WL.offU 57 rfl rfl rfl ?_
 refine Of 52 rfl rfl rfl rfl ?_
 refine Pu (.bool true) (PO.pickT rfl rfl rfl) rfl ?_
 refine WL.nil ?_
 obtain rfl := Option.some.inj h
 refine WQ.thenJ ?_
 exact ⟨(IM.le.refl _), rfl, hs32_1, rfl⟩
 have h := ite_f hb40 h
 refine On 47 rfl rfl hb40 ?_
 refine Pu (.pointer (some ⟨g21, 5, none⟩)) (PO.fieldAddr fo24_5 hs32_1 rfl) rfl ?_
 refine On 47 rfl rfl hb40 ?_
 refine Pu (.int .i64 a0.Tries) (PO.loadB 1 pl3 rfl rfl rfl) rfl ?_
 refine On 47 rfl rfl hb40 ?_
 refine Pu (.bool (decide ((50 : Int) < a0.Tries))) (PO.gtr rfl rfl) rfl ?_
 refine Pu (.bool (decide ((50 : Int) < a0.Tries))) (PO.pickF rfl hb40 rfl) rfl ?_
 refine Pm (.bool (decide ((50 : Int) < a0.Tries))) rfl rfl ?_
 rcases Bool.eq_false_or_eq_true (decide ((50 : Int) < a0.Tries)) with hb41 | hb41
 have h := ite_t hb41 h
 iterate 5 refine Of 52 rfl rfl hb41 rfl ?_
 refine WL.offU 57 rfl rfl rfl ?_
 refine WL.offU 57 rfl rfl rfl ?_
 refine WL.offU 57 rfl rfl rfl ?_
 refine Of 52 rfl rfl hb41 rfl ?_
 refine Pu (.bool true) (PO.pickT rfl hb41 rfl) rfl ?_
 refine WL.nil ?_
 obtain rfl := Option.some.inj h
 refine WQ.thenJ ?_
 exact ⟨(IM.le.refl _), rfl, hs32_1, rfl⟩
 have h := ite_f hb41 h
 refine On 52 rfl rfl hb41 ?_
 refine Pu (.pointer (some ⟨g21, 4, none⟩)) (PO.fieldAddr fo24_4 hs32_1 rfl) rfl ?_
 refine On 52 rfl rfl hb41 ?_
 refine Pu v0_4 (PO.loadB 1 pl22 rfl rfl rfl) rfl ?_
 refine On 52 rfl rfl hb41 ?_
 refine Pu (.int .i64 (a0.Open.length : Int)) (PO.lenS Try.underlying22 rfl h0_4.len) rfl ?_
 refine On 52 rfl rfl hb41 ?_
 refine Pu (.bool (decide ((a0.Open.length : Int) = (0 : Int)))) (PO.eql rfl rfl) rfl ?_
 refine On 52 rfl rfl hb41 ?_
 refine Pm (.bool (decide ((a0.Open.length : Int) = (0 : Int)))) rfl rfl ?_
 rcases Bool.eq_false_or_eq_true (decide ((a0.Open.length : Int) = (0 : Int))) with hb42 | hb42
 have h := ite_t hb42 h
 refine On 57 rfl rfl hb42 ?_
 refine Pu (.pointer (some ⟨g21, 5, none⟩)) (PO.fieldAddr fo24_5 hs32_1 rfl) rfl ?_
 refine On 57 rfl rfl hb42 ?_
 refine Pu (.int .i64 a0.Tries) (PO.loadB 1 pl3 rfl rfl rfl) rfl ?_
 refine On 57 rfl rfl hb42 ?_
 refine Pu (.bool (decide (a0.Tries ≠ (0 : Int)))) (PO.neq rfl rfl) rfl ?_
 refine On 52 rfl rfl hb41 ?_
 refine Pu (.bool (decide (a0.Tries ≠ (0 : Int)))) (PO.pickT rfl hb42 rfl) rfl ?_
 refine Pu (.bool (decide (a0.Tries ≠ (0 : Int)))) (PO.pickF rfl hb41 rfl) rfl ?_
 refine WL.nil ?_
 obtain rfl := Option.some.inj h
 refine WQ.thenJ ?_
 exact ⟨(IM.le.refl _), rfl, hs32_1, rfl⟩
 have h := ite_f hb42 h
 iterate 3 refine Of 57 rfl rfl hb42 rfl ?_
 refine On 52 rfl rfl hb41 ?_
 refine Pu (.bool false) (PO.pickF rfl hb42 rfl) rfl ?_
 refine Pu (.bool false) (PO.pickF rfl hb41 rfl) rfl ?_
 refine WL.nil ?_
 obtain rfl := Option.some.inj h
 refine WQ.thenJ ?_
 exact ⟨(IM.le.refl _), rfl, hs32_1, rfl⟩
 rintro ρ38 M38 H38 ⟨hle38, rfl, hs38_1, hs38_62⟩
 have hq27_4 := hq27_4.mono hle38
 have h0_4 := h0_4.mono hle38
 refine WC.cond (b := x37) hs38_62 (fun hb43 => ?_) (fun hb43 => ?_)
 have h := ite_t hb43 h
 refine Sr ?_
 refine Pa (.int .i64 (10 : Int)) rfl rfl ?_
 refine Nt ?_
 refine WC.ret ?_
 refine WQ.thenR ?_
 refine WQ.drop ?_
 refine WQ.drop ?_
 refine WQ.drop ?_
 exact WQ.returnsF h [] rfl (results1 rfl rfl) ((hle26.trans hle32).trans hle38) ⟨rfl, rfl⟩
 have h := ite_f hb43 h
 refine WC.skip ?_
 refine WQ.thenC ?_
 refine WC.seq ?_
 refine Sr ?_
 refine Pu (.pointer (some ⟨g21, 4, none⟩)) (PO.fieldAddr fo24_4 hs38_1 rfl) rfl ?_
 refine Pu v0_4 (PO.loadB 1 pl22 rfl rfl rfl) rfl ?_
 refine Pu (.int .i64 (a0.Open.length : Int)) (PO.lenS Try.underlying22 rfl h0_4.len) rfl ?_
 refine Pu (.bool (decide ((a0.Open.length : Int) = (0 : Int)))) (PO.eql rfl rfl) rfl ?_
 refine Nt ?_
 refine WC.cond (b := decide ((a0.Open.length : Int) = (0 : Int))) rfl (fun hb44 => ?_) (fun hb44 => ?_)
 have h := ite_t hb44 h
 refine Sr ?_
 refine Pa (.int .i64 (0 : Int)) rfl rfl ?_
 refine Nt ?_
 refine WC.ret ?_
 refine WQ.thenR ?_
 refine WQ.drop ?_
 refine WQ.drop ?_
 refine WQ.drop ?_
 exact WQ.returnsF h [] rfl (results1 rfl rfl) ((hle26.trans hle32).trans hle38) ⟨rfl, rfl⟩
 have h := ite_f hb44 h
 refine WC.skip ?_
 refine WQ.thenC ?_
 refine Sr ?_
 refine Pu (.pointer (some ⟨g21, 4, none⟩)) (PO.fieldAddr fo24_4 hs38_1 rfl) rfl ?_
 refine Pu v0_4 (PO.loadB 1 pl22 rfl rfl rfl) rfl ?_
 obtain ⟨hg45, h⟩ := grd_i h
 obtain ⟨p46, cs47, hat48, hrc49, hhas50⟩ := h0_4.at hg45.1 hg45.2 (by decide)
 obtain ⟨vw51_10, rfl, hw51_10⟩ := kd_api_Request_open hrc49
 refine Pu (.pointer (some p46)) (PO.indexAddr (n := a0.Open.length) Try.underlying22 sz29 rfl rfl hg45.1 hg45.2 hat48) rfl ?_
 refine Pu (.agg #[(.int .i64 ((rd a0.Open (0 : Int)).Client)), (.int .i64 ((rd a0.Open (0 : Int)).Serial)), (.int .i64 ((rd a0.Open (0 : Int)).Kind)), (.string ((rd a0.Open (0 : Int)).Name)), (.string ((rd a0.Open (0 : Int)).Key)), (.string ((rd a0.Open (0 : Int)).Value)), (.bool ((rd a0.Open (0 : Int)).Flag)), (.int .i64 ((rd a0.Open (0 : Int)).Parts)), (.int .i64 ((rd a0.Open (0 : Int)).Replicas)), (.int .i64 ((rd a0.Open (0 : Int)).Part)), vw51_10, (.int .i64 ((rd a0.Open (0 : Int)).Broker)), (.int .i64 ((rd a0.Open (0 : Int)).Epoch)), (.string ((rd a0.Open (0 : Int)).Rack)), (.int .i64 (((rd a0.Open (0 : Int)).Word).Broker)), (.int .i64 (((rd a0.Open (0 : Int)).Word).Epoch)), (.int .i64 (((rd a0.Open (0 : Int)).Word).High)), (.bool (((rd a0.Open (0 : Int)).Word).Fence)), (.bool (((rd a0.Open (0 : Int)).Word).Leave))]) (PO.loadMA (cs := [(.int .i64 ((rd a0.Open (0 : Int)).Client)), (.int .i64 ((rd a0.Open (0 : Int)).Serial)), (.int .i64 ((rd a0.Open (0 : Int)).Kind)), (.string ((rd a0.Open (0 : Int)).Name)), (.string ((rd a0.Open (0 : Int)).Key)), (.string ((rd a0.Open (0 : Int)).Value)), (.bool ((rd a0.Open (0 : Int)).Flag)), (.int .i64 ((rd a0.Open (0 : Int)).Parts)), (.int .i64 ((rd a0.Open (0 : Int)).Replicas)), (.int .i64 ((rd a0.Open (0 : Int)).Part)), vw51_10, (.int .i64 ((rd a0.Open (0 : Int)).Broker)), (.int .i64 ((rd a0.Open (0 : Int)).Epoch)), (.string ((rd a0.Open (0 : Int)).Rack)), (.int .i64 (((rd a0.Open (0 : Int)).Word).Broker)), (.int .i64 (((rd a0.Open (0 : Int)).Word).Epoch)), (.int .i64 (((rd a0.Open (0 : Int)).Word).High)), (.bool (((rd a0.Open (0 : Int)).Word).Fence)), (.bool (((rd a0.Open (0 : Int)).Word).Leave))]) ag29 sz29 rfl hhas50) rfl ?_
 refine WL.eff (EO.alloc ze29 rfl) rfl ?_
 rintro _ _ _ - ⟨rfl, g52, rfl, rfl⟩
 refine WL.eff (EO.storeL (v := (.agg #[(.int .i64 ((rd a0.Open (0 : Int)).Client)), (.int .i64 ((rd a0.Open (0 : Int)).Serial)), (.int .i64 ((rd a0.Open (0 : Int)).Kind)), (.string ((rd a0.Open (0 : Int)).Name)), (.string ((rd a0.Open (0 : Int)).Key)), (.string ((rd a0.Open (0 : Int)).Value)), (.bool ((rd a0.Open (0 : Int)).Flag)), (.int .i64 ((rd a0.Open (0 : Int)).Parts)), (.int .i64 ((rd a0.Open (0 : Int)).Replicas)), (.int .i64 ((rd a0.Open (0 : Int)).Part)), vw51_10, (.int .i64 ((rd a0.Open (0 : Int)).Broker)), (.int .i64 ((rd a0.Open (0 : Int)).Epoch)), (.string ((rd a0.Open (0 : Int)).Rack)), (.int .i64 (((rd a0.Open (0 : Int)).Word).Broker)), (.int .i64 (((rd a0.Open (0 : Int)).Word).Epoch)), (.int .i64 (((rd a0.Open (0 : Int)).Word).High)), (.bool (((rd a0.Open (0 : Int)).Word).Fence)), (.bool (((rd a0.Open (0 : Int)).Word).Leave))])) (vl := [(.int .i64 ((rd a0.Open (0 : Int)).Client)), (.int .i64 ((rd a0.Open (0 : Int)).Serial)), (.int .i64 ((rd a0.Open (0 : Int)).Kind)), (.string ((rd a0.Open (0 : Int)).Name)), (.string ((rd a0.Open (0 : Int)).Key)), (.string ((rd a0.Open (0 : Int)).Value)), (.bool ((rd a0.Open (0 : Int)).Flag)), (.int .i64 ((rd a0.Open (0 : Int)).Parts)), (.int .i64 ((rd a0.Open (0 : Int)).Replicas)), (.int .i64 ((rd a0.Open (0 : Int)).Part)), vw51_10, (.int .i64 ((rd a0.Open (0 : Int)).Broker)), (.int .i64 ((rd a0.Open (0 : Int)).Epoch)), (.string ((rd a0.Open (0 : Int)).Rack)), (.int .i64 (((rd a0.Open (0 : Int)).Word).Broker)), (.int .i64 (((rd a0.Open (0 : Int)).Word).Epoch)), (.int .i64 (((rd a0.Open (0 : Int)).Word).High)), (.bool (((rd a0.Open (0 : Int)).Word).Fence)), (.bool (((rd a0.Open (0 : Int)).Word).Leave))]) (arr' := [(.int .i64 ((rd a0.Open (0 : Int)).Client)), (.int .i64 ((rd a0.Open (0 : Int)).Serial)), (.int .i64 ((rd a0.Open (0 : Int)).Kind)), (.string ((rd a0.Open (0 : Int)).Name)), (.string ((rd a0.Open (0 : Int)).Key)), (.string ((rd a0.Open (0 : Int)).Value)), (.bool ((rd a0.Open (0 : Int)).Flag)), (.int .i64 ((rd a0.Open (0 : Int)).Parts)), (.int .i64 ((rd a0.Open (0 : Int)).Replicas)), (.int .i64 ((rd a0.Open (0 : Int)).Part)), vw51_10, (.int .i64 ((rd a0.Open (0 : Int)).Broker)), (.int .i64 ((rd a0.Open (0 : Int)).Epoch)), (.string ((rd a0.Open (0 : Int)).Rack)), (.int .i64 (((rd a0.Open (0 : Int)).Word).Broker)), (.int .i64 (((rd a0.Open (0 : Int)).Word).Epoch)), (.int .i64 (((rd a0.Open (0 : Int)).Word).High)), (.bool (((rd a0.Open (0 : Int)).Word).Fence)), (.bool (((rd a0.Open (0 : Int)).Word).Leave))]) rfl sz29 rfl rfl (onesOf (Ones.cons rfl (Ones.cons rfl (Ones.cons rfl (Ones.cons rfl (Ones.cons rfl (Ones.cons rfl (Ones.cons rfl (Ones.cons rfl (Ones.cons rfl (Ones.cons rfl (Ones.cons (RS.one hw51_10) (Ones.cons rfl (Ones.cons rfl (Ones.cons rfl (Ones.cons rfl (Ones.cons rfl (Ones.cons rfl (Ones.cons rfl (Ones.cons rfl Ones.nil)))))))))))))))))))) rfl rfl (by kernel_rfl)) rfl ?_
 rintro _ _ _ - ⟨rfl, rfl⟩
 refine Nt ?_
 refine WC.seq ?_
 refine Sr ?_
 refine Pu (.agg #[(.int .i64 ((rd a0.Open (0 : Int)).Client)), (.int .i64 ((rd a0.Open (0 : Int)).Serial)), (.int .i64 ((rd a0.Open (0 : Int)).Kind)), (.string ((rd a0.Open (0 : Int)).Name)), (.string ((rd a0.Open (0 : Int)).Key)), (.string ((rd a0.Open (0 : Int)).Value)), (.bool ((rd a0.Open (0 : Int)).Flag)), (.int .i64 ((rd a0.Open (0 : Int)).Parts)), (.int .i64 ((rd a0.Open (0 : Int)).Replicas)), (.int .i64 ((rd a0.Open (0 : Int)).Part)), vw51_10, (.int .i64 ((rd a0.Open (0 : Int)).Broker)), (.int .i64 ((rd a0.Open (0 : Int)).Epoch)), (.string ((rd a0.Open (0 : Int)).Rack)), (.int .i64 (((rd a0.Open (0 : Int)).Word).Broker)), (.int .i64 (((rd a0.Open (0 : Int)).Word).Epoch)), (.int .i64 (((rd a0.Open (0 : Int)).Word).High)), (.bool (((rd a0.Open (0 : Int)).Word).Fence)), (.bool (((rd a0.Open (0 : Int)).Word).Leave))]) (PO.loadBA (cs := [(.int .i64 ((rd a0.Open (0 : Int)).Client)), (.int .i64 ((rd a0.Open (0 : Int)).Serial)), (.int .i64 ((rd a0.Open (0 : Int)).Kind)), (.string ((rd a0.Open (0 : Int)).Name)), (.string ((rd a0.Open (0 : Int)).Key)), (.string ((rd a0.Open (0 : Int)).Value)), (.bool ((rd a0.Open (0 : Int)).Flag)), (.int .i64 ((rd a0.Open (0 : Int)).Parts)), (.int .i64 ((rd a0.Open (0 : Int)).Replicas)), (.int .i64 ((rd a0.Open (0 : Int)).Part)), vw51_10, (.int .i64 ((rd a0.Open (0 : Int)).Broker)), (.int .i64 ((rd a0.Open (0 : Int)).Epoch)), (.string ((rd a0.Open (0 : Int)).Rack)), (.int .i64 (((rd a0.Open (0 : Int)).Word).Broker)), (.int .i64 (((rd a0.Open (0 : Int)).Word).Epoch)), (.int .i64 (((rd a0.Open (0 : Int)).Word).High)), (.bool (((rd a0.Open (0 : Int)).Word).Fence)), (.bool (((rd a0.Open (0 : Int)).Word).Leave))]) 0 ag29 sz29 rfl rfl rfl) rfl ?_
 obtain ⟨r53, hr54, h⟩ := bnd h
 refine WL.eff (EO.call0 co17 (f_ref22_Check_ok (⟨(rd a0.Open (0 : Int)).Client, (rd a0.Open (0 : Int)).Serial, (rd a0.Open (0 : Int)).Kind, (rd a0.Open (0 : Int)).Name, (rd a0.Open (0 : Int)).Key, (rd a0.Open (0 : Int)).Value, (rd a0.Open (0 : Int)).Flag, (rd a0.Open (0 : Int)).Parts, (rd a0.Open (0 : Int)).Replicas, (rd a0.Open (0 : Int)).Part, (rd a0.Open (0 : Int)).Ids, (rd a0.Open (0 : Int)).Broker, (rd a0.Open (0 : Int)).Epoch, (rd a0.Open (0 : Int)).Rack, ((rd a0.Open (0 : Int)).Word)⟩ : T_api_Request) _ _ hw51_10 r53 hr54) (args1 rfl)) rfl ?_
 rintro _ M55 _ hle56 ⟨_, ⟨rfl, rfl⟩, rfl⟩
 have hw51_10 := hw51_10.mono hle56
 have hq27_4 := hq27_4.mono hle56
 have h0_4 := h0_4.mono hle56
 refine WL.a0 ?_
 refine WL.eff (EO.alloc ze59 rfl) rfl ?_
 rintro _ _ _ - ⟨rfl, g58, rfl, rfl⟩
 refine WL.eff (EO.storeL (v := (.agg #[(.string r53.Op), (.int .i64 r53.At), (.int .i64 r53.Code)])) (vl := [(.string r53.Op), (.int .i64 r53.At), (.int .i64 r53.Code)]) (arr' := [(.string r53.Op), (.int .i64 r53.At), (.int .i64 r53.Code)]) rfl sz59 rfl rfl (onesOf (Ones.cons rfl (Ones.cons rfl (Ones.cons rfl Ones.nil)))) rfl rfl rfl) rfl ?_
 rintro _ _ _ - ⟨rfl, rfl⟩
 refine Ns ?_
 refine Pu (.pointer (some ⟨g58, 2, none⟩)) (PO.fieldAddr fo59_2 rfl rfl) rfl ?_
 refine Pu (.int .i64 r53.Code) (PO.loadB 0 pl36 rfl rfl rfl) rfl ?_
 refine Pu (.bool (decide (r53.Code ≠ (0 : Int)))) (PO.neq rfl rfl) rfl ?_
 refine Nt ?_
 refine WC.cond (b := decide (r53.Code ≠ (0 : Int))) rfl (fun hb59 => ?_) (fun hb59 => ?_)
 have h := ite_t hb59 h
 refine Sr ?_
 refine Pu (.pointer (some ⟨g58, 2, none⟩)) (PO.fieldAddr fo59_2 rfl rfl) rfl ?_
 refine Pu (.int .i64 r53.Code) (PO.loadB 0 pl36 rfl rfl rfl) rfl ?_
 refine Pa (.int .i64 r53.Code) rfl rfl ?_
 refine Nt ?_
 refine WC.ret ?_
 refine WQ.thenR ?_
 refine WQ.drop ?_
 refine WQ.drop ?_
 refine WQ.drop ?_
 refine WQ.drop ?_
 refine WQ.drop ?_
 exact WQ.returnsF h [] rfl (results1 rfl rfl) (((hle26.trans hle32).trans hle38).trans hle56) ⟨rfl, rfl⟩
 have h := ite_f hb59 h
 refine WC.skip ?_
 refine WQ.thenC ?_
 refine WC.seq ?_
 obtain ⟨x60, hj61, h⟩ := bnd h
 refine WC.joinF (fun (x60 : Bool) ρ' M' H' => M55.le M' ∧ [(g58, .cells #[(.string r53.Op), (.int .i64 r53.At), (.int .i64 r53.Code)] 59 (0, 0))] :: [(g52, .cells #[(.int .i64 ((rd a0.Open (0 : Int)).Client)), (.int .i64 ((rd a0.Open (0 : Int)).Serial)), (.int .i64 ((rd a0.Open (0 : Int)).Kind)), (.string ((rd a0.Open (0 : Int)).Name)), (.string ((rd a0.Open (0 : Int)).Key)), (.string ((rd a0.Open (0 : Int)).Value)), (.bool ((rd a0.Open (0 : Int)).Flag)), (.int .i64 ((rd a0.Open (0 : Int)).Parts)), (.int .i64 ((rd a0.Open (0 : Int)).Replicas)), (.int .i64 ((rd a0.Open (0 : Int)).Part)), vw51_10, (.int .i64 ((rd a0.Open (0 : Int)).Broker)), (.int .i64 ((rd a0.Open (0 : Int)).Epoch)), (.string ((rd a0.Open (0 : Int)).Rack)), (.int .i64 (((rd a0.Open (0 : Int)).Word).Broker)), (.int .i64 (((rd a0.Open (0 : Int)).Word).Epoch)), (.int .i64 (((rd a0.Open (0 : Int)).Word).High)), (.bool (((rd a0.Open (0 : Int)).Word).Fence)), (.bool (((rd a0.Open (0 : Int)).Word).Leave))] 29 (0, 0))] :: [(g29, .cells #[(.int .i64 r22.Id), (.int .i64 r22.Serial), (.int .i64 r22.Voters), (.int .i64 r22.Node), vq27_4, (.int .i64 r22.Tries)] 24 (0, 0))] :: [(g21, .cells #[(.int .i64 a0.Id), (.int .i64 a0.Serial), (.int .i64 a0.Voters), (.int .i64 a0.Node), v0_4, (.int .i64 a0.Tries)] 24 (0, 0))] :: cq27_4 :: F = H' ∧ ρ' 89 = (.bool x60)) x60 ?_ ?_
 have h361 := h
 have h := hj61
 refine WC.region ?_
 refine Pu (.pointer (some ⟨g52, 0, none⟩)) (PO.fieldAddr fo29_0 rfl rfl) rfl ?_
 refine Pu (.int .i64 ((rd a0.Open (0 : Int)).Client)) (PO.loadB 1 pl3 rfl rfl rfl) rfl ?_
 refine Pu (.pointer (some ⟨g21, 0, none⟩)) (PO.fieldAddr fo24_0 hs38_1 rfl) rfl ?_
 refine Pu (.int .i64 a0.Id) (PO.loadB 3 pl3 rfl rfl rfl) rfl ?_
 refine Pu (.bool (decide (((rd a0.Open (0 : Int)).Client) ≠ a0.Id))) (PO.neq rfl rfl) rfl ?_
 refine Pm (.bool (decide (((rd a0.Open (0 : Int)).Client) ≠ a0.Id))) rfl rfl ?_
 rcases Bool.eq_false_or_eq_true (decide (((rd a0.Open (0 : Int)).Client) ≠ a0.Id)) with hb62 | hb62
 have h := ite_t hb62 h
 iterate 5 refine Of 83 rfl rfl hb62 rfl ?_
 refine Pu (.bool true) (PO.pickT rfl hb62 rfl) rfl ?_
 refine WL.nil ?_
 obtain rfl := Option.some.inj h
 refine WQ.thenJ ?_
 exact ⟨(IM.le.refl _), rfl, rfl⟩
 have h := ite_f hb62 h
 refine On 83 rfl rfl hb62 ?_
 refine Pu (.pointer (some ⟨g52, 1, none⟩)) (PO.fieldAddr fo29_1 rfl rfl) rfl ?_
 refine On 83 rfl rfl hb62 ?_
 refine Pu (.int .i64 ((rd a0.Open (0 : Int)).Serial)) (PO.loadB 1 pl3 rfl rfl rfl) rfl ?_
 refine On 83 rfl rfl hb62 ?_
 refine Pu (.pointer (some ⟨g21, 1, none⟩)) (PO.fieldAddr fo24_1 hs38_1 rfl) rfl ?_
 refine On 83 rfl rfl hb62 ?_
 refine Pu (.int .i64 a0.Serial) (PO.loadB 3 pl3 rfl rfl rfl) rfl ?_
 refine On 83 rfl rfl hb62 ?_
 refine Pu (.bool (decide (((rd a0.Open (0 : Int)).Serial) ≠ a0.Serial))) (PO.neq rfl rfl) rfl ?_
 refine Pu (.bool (decide (((rd a0.Open (0 : Int)).Serial) ≠ a0.Serial))) (PO.pickF rfl hb62 rfl) rfl ?_
 refine WL.nil ?_
 obtain rfl := Option.some.inj h
 refine WQ.thenJ ?_
 exact ⟨(IM.le.refl _), rfl, rfl⟩
 rintro ρ61 M61 H61 ⟨hle61, rfl, hs61_89⟩
 have hw51_10 := hw51_10.mono hle61
 have hq27_4 := hq27_4.mono hle61
 have h0_4 := h0_4.mono hle61
 refine WC.cond (b := x60) hs61_89 (fun hb63 => ?_) (fun hb63 => ?_)
 have h := ite_t hb63 h
 refine Sr ?_
 refine Pa (.int .i64 (10 : Int)) rfl rfl ?_
 refine Nt ?_
 refine WC.ret ?_
 refine WQ.thenR ?_
 refine WQ.drop ?_
 refine WQ.drop ?_
 refine WQ.drop ?_
 refine WQ.drop ?_
 refine WQ.drop ?_
 exact WQ.returnsF h [] rfl (results1 rfl rfl) ((((hle26.trans hle32).trans hle38).trans hle56).trans hle61) ⟨rfl, rfl⟩
 have h := ite_f hb63 h
 refine WC.skip ?_
 refine WQ.thenC ?_
 refine Sr ?_
 refine Pa (.int .i64 (0 : Int)) rfl rfl ?_
 refine Nt ?_
 refine WC.ret ?_
 refine WQ.drop ?_
 refine WQ.drop ?_
 refine WQ.drop ?_
 refine WQ.drop ?_
 refine WQ.drop ?_
 exact WQ.returnsF h [] rfl (results1 rfl rfl) ((((hle26.trans hle32).trans hle38).trans hle56).trans hle61) ⟨rfl, rfl⟩

noncomputable def f_fault_New (a0 : ByteArray) (a1 : Int) (a2 : Int) : Option GErr :=
  (some (GErr.fault a0 a1 (GErr.code a2)))
def f_fault_New_post (a0 : ByteArray) (a1 : Int) (a2 : Int) : GErr → Value → IM → HL → Prop :=
  fun (r0 : GErr) (v : Value) (M' : IM) (H' : HL) => (GV r0) = v ∧ H' = []
set_option maxHeartbeats 8000000 in
set_option maxRecDepth 100000 in
theorem f_fault_New_ok (a0 : ByteArray) (a1 : Int) (a2 : Int) (M : IM) (res : GErr) (h : f_fault_New a0 a1 a2 = some res) :
    Tri Try.prog 20 #[(.string a0), (.int .i64 a1), (.int .i64 a2)] M [] (f_fault_New_post a0 a1 a2 res) := by
 unfold f_fault_New at h
 refine Tri.enter (fn := Try.f20) Try.func20 rfl (Nat.le_of_ble_eq_true rfl) ?_
 intro F ρ hρ
 refine Sr ?_
 refine Pa (GV GErr.nil) rfl rfl ?_
 refine Ns ?_
 refine Pm (.string a0) (hρ 0) rfl ?_
 refine Pm (.int .i64 a1) (hρ 1) rfl ?_
 refine Pm (.int .i64 a2) (hρ 2) rfl ?_
 refine Pu (GV (GErr.code a2)) (PO.makeInterface cc36 rfl) rfl ?_
 refine Pu (.agg #[(.string a0), (.int .i64 a1), (GV (GErr.code a2))]) (PO.buildL (cl := [(.string a0), (.int .i64 a1), (GV (GErr.code a2))]) ze76 fp76 (Parts.cons (congrArg Value.cells (show ev _ _ = (.string a0) from rfl)) (Parts.cons (congrArg Value.cells (show ev _ _ = (.int .i64 a1) from rfl)) (Parts.cons ((congrArg Value.cells (show ev _ _ = (GV (GErr.code a2)) from rfl)).trans (GErr.val_cells _ _ _ _)) Parts.nil))) rfl) rfl ?_
 refine Pu (GV (GErr.fault a0 a1 (GErr.code a2))) (PO.makeInterface cc76 rfl) rfl ?_
 refine Pa (GV (GErr.fault a0 a1 (GErr.code a2))) rfl rfl ?_
 refine Nt ?_
 refine WC.ret ?_
 exact WQ.returnsF h [] rfl (results1 rfl rfl) (IM.le.refl _) ⟨rfl, rfl⟩

noncomputable def f_client_New (a0 : Int) (a1 : Int) : Option (T_api_Client × GErr) :=
  (((if (decide (a0 < (1 : Int))) = true then (some true) else (if (decide ((1073741824 : Int) < a0)) = true then (some true) else (if (decide (a1 < (1 : Int))) = true then (some true) else (some (decide ((7 : Int) < a1)))))) : Option Bool).bind fun (x22 : Bool) => (if x22 = true then ((f_fault_New (⟨#[99, 108, 105, 101, 110, 116]⟩ : ByteArray) a0 (2 : Int)).bind fun (r28 : GErr) => (some ((⟨(0 : Int), (0 : Int), (0 : Int), (0 : Int), [], (0 : Int)⟩ : T_api_Client), r28))) else (some ((⟨a0, (0 : Int), a1, (1 : Int), [], (0 : Int)⟩ : T_api_Client), GErr.nil))))
def f_client_New_post (a0 : Int) (a1 : Int) : (T_api_Client × GErr) → Value → IM → HL → Prop :=
  fun (p_ : (T_api_Client × GErr)) (v : Value) (M' : IM) (H' : HL) => match p_ with | (r0, r1) => ∃ vz0_4 cz0_4, (.tuple #[(.agg #[(.int .i64 r0.Id), (.int .i64 r0.Serial), (.int .i64 r0.Voters), (.int .i64 r0.Node), vz0_4, (.int .i64 r0.Tries)]), (GV r1)]) = v ∧ H' = [cz0_4] ∧ OwnS kd_api_Request M' vz0_4 r0.Open cz0_4
set_option maxHeartbeats 8000000 in
set_option maxRecDepth 100000 in
theorem f_client_New_ok (a0 : Int) (a1 : Int) (M : IM) (res : (T_api_Client × GErr)) (h : f_client_New a0 a1 = some res) :
    Tri Try.prog 15 #[(.int .i64 a0), (.int .i64 a1)] M [] (f_client_New_post a0 a1 res) := by
 unfold f_client_New at h
 refine Tri.enter (fn := Try.f15) Try.func15 rfl (Nat.le_of_ble_eq_true rfl) ?_
 intro F ρ hρ
 refine Sr ?_
 refine WL.eff (EO.alloc ze24 rfl) rfl ?_
 rintro _ _ _ - ⟨rfl, g21, rfl, rfl⟩
 refine Pa (GV GErr.nil) rfl rfl ?_
 refine Nt ?_
 refine WC.seq ?_
 obtain ⟨x22, hj23, h⟩ := bnd h
 refine WC.joinF (fun (x22 : Bool) ρ' M' H' => M.le M' ∧ [(g21, .cells #[(.int .i64 (0 : Int)), (.int .i64 (0 : Int)), (.int .i64 (0 : Int)), (.int .i64 (0 : Int)), (.slice none 0 0), (.int .i64 (0 : Int))] 24 (0, 0))] :: F = H' ∧ ρ' 0 = (.int .i64 a0) ∧ ρ' 1 = (.int .i64 a1) ∧ ρ' 4 = (.pointer (some ⟨g21, 0, none⟩)) ∧ ρ' 19 = (.bool x22)) x22 ?_ ?_
 have h323 := h
 have h := hj23
 refine WC.region ?_
 refine Pm (.int .i64 a0) (hρ 0) rfl ?_
 refine Pu (.bool (decide (a0 < (1 : Int)))) (PO.lss rfl rfl) rfl ?_
 refine Pm (.bool (decide (a0 < (1 : Int)))) rfl rfl ?_
 rcases Bool.eq_false_or_eq_true (decide (a0 < (1 : Int))) with hb24 | hb24
 have h := ite_t hb24 h
 iterate 2 refine Of 8 rfl rfl hb24 rfl ?_
 refine Pu (.bool true) (PO.pickT rfl hb24 rfl) rfl ?_
 refine Pm (.bool true) rfl rfl ?_
 iterate 2 refine Of 12 rfl rfl rfl rfl ?_
 refine Pu (.bool true) (PO.pickT rfl rfl rfl) rfl ?_
 refine Pm (.bool true) rfl rfl ?_
 iterate 2 refine Of 16 rfl rfl rfl rfl ?_
 refine Pu (.bool true) (PO.pickT rfl rfl rfl) rfl ?_
 refine WL.nil ?_
 obtain rfl := Option.some.inj h
 refine WQ.thenJ ?_
 exact ⟨(IM.le.refl _), rfl, (hρ 0), (hρ 1), rfl, rfl⟩
 have h := ite_f hb24 h
 refine On 8 rfl rfl hb24 ?_
 refine Pm (.int .i64 a0) (hρ 0) rfl ?_
 refine On 8 rfl rfl hb24 ?_
 refine Pu (.bool (decide ((1073741824 : Int) < a0))) (PO.gtr rfl rfl) rfl ?_
 refine Pu (.bool (decide ((1073741824 : Int) < a0))) (PO.pickF rfl hb24 rfl) rfl ?_
 refine Pm (.bool (decide ((1073741824 : Int) < a0))) rfl rfl ?_
 rcases Bool.eq_false_or_eq_true (decide ((1073741824 : Int) < a0)) with hb25 | hb25
 have h := ite_t hb25 h
 iterate 2 refine Of 12 rfl rfl hb25 rfl ?_
 refine Pu (.bool true) (PO.pickT rfl hb25 rfl) rfl ?_
 refine Pm (.bool true) rfl rfl ?_
 iterate 2 refine Of 16 rfl rfl rfl rfl ?_
 refine Pu (.bool true) (PO.pickT rfl rfl rfl) rfl ?_
 refine WL.nil ?_
 obtain rfl := Option.some.inj h
 refine WQ.thenJ ?_
 exact ⟨(IM.le.refl _), rfl, (hρ 0), (hρ 1), rfl, rfl⟩
 have h := ite_f hb25 h
 refine On 12 rfl rfl hb25 ?_
 refine Pm (.int .i64 a1) (hρ 1) rfl ?_
 refine On 12 rfl rfl hb25 ?_
 refine Pu (.bool (decide (a1 < (1 : Int)))) (PO.lss rfl rfl) rfl ?_
 refine Pu (.bool (decide (a1 < (1 : Int)))) (PO.pickF rfl hb25 rfl) rfl ?_
 refine Pm (.bool (decide (a1 < (1 : Int)))) rfl rfl ?_
 rcases Bool.eq_false_or_eq_true (decide (a1 < (1 : Int))) with hb26 | hb26
 have h := ite_t hb26 h
 iterate 2 refine Of 16 rfl rfl hb26 rfl ?_
 refine Pu (.bool true) (PO.pickT rfl hb26 rfl) rfl ?_
 refine WL.nil ?_
 obtain rfl := Option.some.inj h
 refine WQ.thenJ ?_
 exact ⟨(IM.le.refl _), rfl, (hρ 0), (hρ 1), rfl, rfl⟩
 have h := ite_f hb26 h
 refine On 16 rfl rfl hb26 ?_
 refine Pm (.int .i64 a1) (hρ 1) rfl ?_
 refine On 16 rfl rfl hb26 ?_
 refine Pu (.bool (decide ((7 : Int) < a1))) (PO.gtr rfl rfl) rfl ?_
 refine Pu (.bool (decide ((7 : Int) < a1))) (PO.pickF rfl hb26 rfl) rfl ?_
 refine WL.nil ?_
 obtain rfl := Option.some.inj h
 refine WQ.thenJ ?_
 exact ⟨(IM.le.refl _), rfl, (hρ 0), (hρ 1), rfl, rfl⟩
 rintro ρ23 M23 H23 ⟨hle23, rfl, hs23_0, hs23_1, hs23_4, hs23_19⟩
 refine WC.cond (b := x22) hs23_19 (fun hb27 => ?_) (fun hb27 => ?_)
 have h := ite_t hb27 h
 refine Sr ?_
 refine Pu (.agg #[(.int .i64 (0 : Int)), (.int .i64 (0 : Int)), (.int .i64 (0 : Int)), (.int .i64 (0 : Int)), (.slice none 0 0), (.int .i64 (0 : Int))]) (PO.buildL (cl := [(.int .i64 (0 : Int)), (.int .i64 (0 : Int)), (.int .i64 (0 : Int)), (.int .i64 (0 : Int)), (.slice none 0 0), (.int .i64 (0 : Int))]) ze24 fp24 Parts.nil rfl) rfl ?_
 refine Pm (.int .i64 a0) hs23_0 rfl ?_
 obtain ⟨r28, hr29, h⟩ := bnd h
 refine WL.eff (EO.call0 co20 (f_fault_New_ok (⟨#[99, 108, 105, 101, 110, 116]⟩ : ByteArray) a0 (2 : Int) _ r28 hr29) (args3 rfl rfl rfl)) rfl ?_
 rintro _ M30 _ hle31 ⟨_, ⟨rfl, rfl⟩, rfl⟩
 refine WL.a0 ?_
 refine WL.eff (EO.storeL (v := (.agg #[(.int .i64 (0 : Int)), (.int .i64 (0 : Int)), (.int .i64 (0 : Int)), (.int .i64 (0 : Int)), (.slice none 0 0), (.int .i64 (0 : Int))])) (vl := [(.int .i64 (0 : Int)), (.int .i64 (0 : Int)), (.int .i64 (0 : Int)), (.int .i64 (0 : Int)), (.slice none 0 0), (.int .i64 (0 : Int))]) (arr' := [(.int .i64 (0 : Int)), (.int .i64 (0 : Int)), (.int .i64 (0 : Int)), (.int .i64 (0 : Int)), (.slice none 0 0), (.int .i64 (0 : Int))]) rfl sz24 hs23_4 rfl (onesOf (Ones.cons rfl (Ones.cons rfl (Ones.cons rfl (Ones.cons rfl (Ones.cons rfl (Ones.cons rfl Ones.nil))))))) rfl rfl rfl) rfl ?_
 rintro _ _ _ - ⟨rfl, rfl⟩
 refine Pa (GV r28) rfl rfl ?_
 refine Nt ?_
 refine WC.ret ?_
 refine WQ.thenR ?_
 refine WQ.e0 ?_
 refine WQ.f1 ?_
 exact WQ.returnsD h [[]] (fun _ hs => hs.drop) (resultsLN rfl (RVs.cons (RV.cellA (cs := [(.int .i64 (0 : Int)), (.int .i64 (0 : Int)), (.int .i64 (0 : Int)), (.int .i64 (0 : Int)), (.slice none 0 0), (.int .i64 (0 : Int))]) 0 ag24 sz24 hs23_4 rfl rfl) (RVs.cons (RV.tmp rfl) RVs.nil))) (hle23.trans hle31) ⟨(.slice none 0 0), [], rfl, rfl, (OwnS.nil _ _)⟩
 have h := ite_f hb27 h
 refine WC.skip ?_
 refine WQ.thenC ?_
 refine Sr ?_
 refine Pm (.int .i64 a0) hs23_0 rfl ?_
 refine Pm (.int .i64 a1) hs23_1 rfl ?_
 refine Pu (.agg #[(.int .i64 a0), (.int .i64 (0 : Int)), (.int .i64 a1), (.int .i64 (1 : Int)), (.slice none 0 0), (.int .i64 (0 : Int))]) (PO.buildL (cl := [(.int .i64 a0), (.int .i64 (0 : Int)), (.int .i64 a1), (.int .i64 (1 : Int)), (.slice none 0 0), (.int .i64 (0 : Int))]) ze24 fp24 (Parts.cons (congrArg Value.cells (show ev _ _ = (.int .i64 a0) from rfl)) (Parts.cons (congrArg Value.cells (show ev _ _ = (.int .i64 a1) from rfl)) (Parts.cons (congrArg Value.cells (show ev _ _ = (.int .i64 (1 : Int)) from rfl)) Parts.nil))) rfl) rfl ?_
 refine WL.eff (EO.storeL (v := (.agg #[(.int .i64 a0), (.int .i64 (0 : Int)), (.int .i64 a1), (.int .i64 (1 : Int)), (.slice none 0 0), (.int .i64 (0 : Int))])) (vl := [(.int .i64 a0), (.int .i64 (0 : Int)), (.int .i64 a1), (.int .i64 (1 : Int)), (.slice none 0 0), (.int .i64 (0 : Int))]) (arr' := [(.int .i64 a0), (.int .i64 (0 : Int)), (.int .i64 a1), (.int .i64 (1 : Int)), (.slice none 0 0), (.int .i64 (0 : Int))]) rfl sz24 hs23_4 rfl (onesOf (Ones.cons rfl (Ones.cons rfl (Ones.cons rfl (Ones.cons rfl (Ones.cons rfl (Ones.cons rfl Ones.nil))))))) rfl rfl rfl) rfl ?_
 rintro _ _ _ - ⟨rfl, rfl⟩
 refine Pa (GV GErr.nil) rfl rfl ?_
 refine Nt ?_
 refine WC.ret ?_
 refine WQ.e0 ?_
 refine WQ.f1 ?_
 exact WQ.returnsD h [[]] (fun _ hs => hs.drop) (resultsLN rfl (RVs.cons (RV.cellA (cs := [(.int .i64 a0), (.int .i64 (0 : Int)), (.int .i64 a1), (.int .i64 (1 : Int)), (.slice none 0 0), (.int .i64 (0 : Int))]) 0 ag24 sz24 hs23_4 rfl rfl) (RVs.cons (RV.tmp rfl) RVs.nil))) hle23 ⟨(.slice none 0 0), [], rfl, rfl, (OwnS.nil _ _)⟩

noncomputable def f_client_Alone (a0 : T_api_Request) : Option T_api_Request :=
  (grd (0 ≤ (a0.Ids.length : Int) ∧ (a0.Ids.length : Int) ≤ 274877906944) (some (⟨a0.Client, a0.Serial, a0.Kind, a0.Name, a0.Key, a0.Value, a0.Flag, a0.Parts, a0.Replicas, a0.Part, a0.Ids.take (List.replicate ((a0.Ids.length : Int)).toNat (0 : Int)).length ++ (List.replicate ((a0.Ids.length : Int)).toNat (0 : Int)).drop a0.Ids.length, a0.Broker, a0.Epoch, a0.Rack, a0.Word⟩ : T_api_Request)))
def f_client_Alone_post (a0 : T_api_Request) (v0_10 : Value) : T_api_Request → Value → IM → HL → Prop :=
  fun (r0 : T_api_Request) (v : Value) (M' : IM) (H' : HL) => ∃ vz0_10 cz0_10, (.agg #[(.int .i64 r0.Client), (.int .i64 r0.Serial), (.int .i64 r0.Kind), (.string r0.Name), (.string r0.Key), (.string r0.Value), (.bool r0.Flag), (.int .i64 r0.Parts), (.int .i64 r0.Replicas), (.int .i64 r0.Part), vz0_10, (.int .i64 r0.Broker), (.int .i64 r0.Epoch), (.string r0.Rack), (.int .i64 r0.Word.Broker), (.int .i64 r0.Word.Epoch), (.int .i64 r0.Word.High), (.bool r0.Word.Fence), (.bool r0.Word.Leave)]) = v ∧ H' = [cz0_10] ∧ OwnS (Kd.int .i64) M' vz0_10 r0.Ids cz0_10
set_option maxHeartbeats 8000000 in
set_option maxRecDepth 100000 in
theorem f_client_Alone_ok (a0 : T_api_Request) (M : IM) (v0_10 : Value) (h0_10 : RS (Kd.int .i64) M v0_10 a0.Ids) (res : T_api_Request) (h : f_client_Alone a0 = some res) :
    Tri Try.prog 21 #[(.agg #[(.int .i64 a0.Client), (.int .i64 a0.Serial), (.int .i64 a0.Kind), (.string a0.Name), (.string a0.Key), (.string a0.Value), (.bool a0.Flag), (.int .i64 a0.Parts), (.int .i64 a0.Replicas), (.int .i64 a0.Part), v0_10, (.int .i64 a0.Broker), (.int .i64 a0.Epoch), (.string a0.Rack), (.int .i64 a0.Word.Broker), (.int .i64 a0.Word.Epoch), (.int .i64 a0.Word.High), (.bool a0.Word.Fence), (.bool a0.Word.Leave)])] M [] (f_client_Alone_post a0 v0_10 res) := by
 unfold f_client_Alone at h
 refine Tri.enter (fn := Try.f21) Try.func21 rfl (Nat.le_of_ble_eq_true rfl) ?_
 intro F ρ hρ
 refine Sr ?_
 refine WL.eff (EO.box (cs := #[(.int .i64 a0.Client), (.int .i64 a0.Serial), (.int .i64 a0.Kind), (.string a0.Name), (.string a0.Key), (.string a0.Value), (.bool a0.Flag), (.int .i64 a0.Parts), (.int .i64 a0.Replicas), (.int .i64 a0.Part), v0_10, (.int .i64 a0.Broker), (.int .i64 a0.Epoch), (.string a0.Rack), (.int .i64 a0.Word.Broker), (.int .i64 a0.Word.Epoch), (.int .i64 a0.Word.High), (.bool a0.Word.Fence), (.bool a0.Word.Leave)]) (congrArg Value.cells (asE (.agg #[(.int .i64 a0.Client), (.int .i64 a0.Serial), (.int .i64 a0.Kind), (.string a0.Name), (.string a0.Key), (.string a0.Value), (.bool a0.Flag), (.int .i64 a0.Parts), (.int .i64 a0.Replicas), (.int .i64 a0.Part), v0_10, (.int .i64 a0.Broker), (.int .i64 a0.Epoch), (.string a0.Rack), (.int .i64 a0.Word.Broker), (.int .i64 a0.Word.Epoch), (.int .i64 a0.Word.High), (.bool a0.Word.Fence), (.bool a0.Word.Leave)]) (hρ 0)))) rfl ?_
 rintro _ _ _ - ⟨rfl, g21, rfl, rfl⟩
 refine WL.eff (EO.alloc ze29 rfl) rfl ?_
 rintro _ _ _ - ⟨rfl, g22, rfl, rfl⟩
 refine Ns ?_
 refine Pu (.pointer (some ⟨g21, 10, none⟩)) (PO.fieldAddr fo29_10 rfl rfl) rfl ?_
 refine Pu v0_10 (PO.loadB 1 pl25 rfl rfl rfl) rfl ?_
 refine Pu (.int .i64 (a0.Ids.length : Int)) (PO.lenS Try.underlying25 rfl h0_10.len) rfl ?_
 obtain ⟨hg26, h⟩ := grd_i h
 refine WL.eff (EO.makeSlice (dd := (Kd.int .i64)) Try.underlying25 in3 rfl rfl rfl rfl rfl hg26.1 (by decide) (makeB rfl hg26.1 hg26.2)) rfl ?_
 rintro v25 _ _ - ⟨rfl, c23, rfl, h24⟩
 refine Pa v25 rfl rfl ?_
 refine Ns ?_
 refine Pm v25 rfl rfl ?_
 refine Pu (.pointer (some ⟨g21, 10, none⟩)) (PO.fieldAddr fo29_10 rfl rfl) rfl ?_
 refine Pu v0_10 (PO.loadB 2 pl25 rfl rfl rfl) rfl ?_
 refine WL.eff (EO.copy (v := v25) (dd := (Kd.int .i64)) (xs := List.replicate ((a0.Ids.length : Int)).toNat (0 : Int)) (ys := a0.Ids) Try.underlying25 sz3 rfl rfl h24 (h0_10.src _)) rfl ?_
 rintro _ _ _ - ⟨rfl, rfl, c27, rfl, h28⟩
 refine Ns ?_
 refine Pm v25 rfl rfl ?_
 refine Pu (.pointer (some ⟨g21, 10, none⟩)) (PO.fieldAddr fo29_10 rfl rfl) rfl ?_
 refine WL.f2 ?_
 refine WL.eff (EO.storeL (v := v25) (vl := [v25]) (arr' := [(.int .i64 a0.Client), (.int .i64 a0.Serial), (.int .i64 a0.Kind), (.string a0.Name), (.string a0.Key), (.string a0.Value), (.bool a0.Flag), (.int .i64 a0.Parts), (.int .i64 a0.Replicas), (.int .i64 a0.Part), v25, (.int .i64 a0.Broker), (.int .i64 a0.Epoch), (.string a0.Rack), (.int .i64 a0.Word.Broker), (.int .i64 a0.Word.Epoch), (.int .i64 a0.Word.High), (.bool a0.Word.Fence), (.bool a0.Word.Leave)]) h28.cells sz25 rfl rfl (onesOf (Ones.cons (OwnS.one h28) Ones.nil)) rfl rfl (by kernel_rfl)) rfl ?_
 rintro _ _ _ - ⟨rfl, rfl⟩
 refine Ns ?_
 refine Pu (.agg #[(.int .i64 a0.Client), (.int .i64 a0.Serial), (.int .i64 a0.Kind), (.string a0.Name), (.string a0.Key), (.string a0.Value), (.bool a0.Flag), (.int .i64 a0.Parts), (.int .i64 a0.Replicas), (.int .i64 a0.Part), v25, (.int .i64 a0.Broker), (.int .i64 a0.Epoch), (.string a0.Rack), (.int .i64 a0.Word.Broker), (.int .i64 a0.Word.Epoch), (.int .i64 a0.Word.High), (.bool a0.Word.Fence), (.bool a0.Word.Leave)]) (PO.loadBA (cs := [(.int .i64 a0.Client), (.int .i64 a0.Serial), (.int .i64 a0.Kind), (.string a0.Name), (.string a0.Key), (.string a0.Value), (.bool a0.Flag), (.int .i64 a0.Parts), (.int .i64 a0.Replicas), (.int .i64 a0.Part), v25, (.int .i64 a0.Broker), (.int .i64 a0.Epoch), (.string a0.Rack), (.int .i64 a0.Word.Broker), (.int .i64 a0.Word.Epoch), (.int .i64 a0.Word.High), (.bool a0.Word.Fence), (.bool a0.Word.Leave)]) 0 ag29 sz29 rfl rfl rfl) rfl ?_
 refine WL.f2 ?_
 refine WL.eff (EO.storeL (v := (.agg #[(.int .i64 a0.Client), (.int .i64 a0.Serial), (.int .i64 a0.Kind), (.string a0.Name), (.string a0.Key), (.string a0.Value), (.bool a0.Flag), (.int .i64 a0.Parts), (.int .i64 a0.Replicas), (.int .i64 a0.Part), v25, (.int .i64 a0.Broker), (.int .i64 a0.Epoch), (.string a0.Rack), (.int .i64 a0.Word.Broker), (.int .i64 a0.Word.Epoch), (.int .i64 a0.Word.High), (.bool a0.Word.Fence), (.bool a0.Word.Leave)])) (vl := [(.int .i64 a0.Client), (.int .i64 a0.Serial), (.int .i64 a0.Kind), (.string a0.Name), (.string a0.Key), (.string a0.Value), (.bool a0.Flag), (.int .i64 a0.Parts), (.int .i64 a0.Replicas), (.int .i64 a0.Part), v25, (.int .i64 a0.Broker), (.int .i64 a0.Epoch), (.string a0.Rack), (.int .i64 a0.Word.Broker), (.int .i64 a0.Word.Epoch), (.int .i64 a0.Word.High), (.bool a0.Word.Fence), (.bool a0.Word.Leave)]) (arr' := [(.int .i64 a0.Client), (.int .i64 a0.Serial), (.int .i64 a0.Kind), (.string a0.Name), (.string a0.Key), (.string a0.Value), (.bool a0.Flag), (.int .i64 a0.Parts), (.int .i64 a0.Replicas), (.int .i64 a0.Part), v25, (.int .i64 a0.Broker), (.int .i64 a0.Epoch), (.string a0.Rack), (.int .i64 a0.Word.Broker), (.int .i64 a0.Word.Epoch), (.int .i64 a0.Word.High), (.bool a0.Word.Fence), (.bool a0.Word.Leave)]) rfl sz29 rfl rfl (onesOf (Ones.cons rfl (Ones.cons rfl (Ones.cons rfl (Ones.cons rfl (Ones.cons rfl (Ones.cons rfl (Ones.cons rfl (Ones.cons rfl (Ones.cons rfl (Ones.cons rfl (Ones.cons (OwnS.one h28) (Ones.cons rfl (Ones.cons rfl (Ones.cons rfl (Ones.cons rfl (Ones.cons rfl (Ones.cons rfl (Ones.cons rfl (Ones.cons rfl Ones.nil)))))))))))))))))))) rfl rfl (by kernel_rfl)) rfl ?_
 rintro _ _ _ - ⟨rfl, rfl⟩
 refine Nt ?_
 refine WC.ret ?_
 refine WQ.f1 ?_
 refine WQ.drop ?_
 exact WQ.returnsD h [c27] (fun _ hs => hs.drop) (resultsL1 rfl (RV.cellA (cs := [(.int .i64 a0.Client), (.int .i64 a0.Serial), (.int .i64 a0.Kind), (.string a0.Name), (.string a0.Key), (.string a0.Value), (.bool a0.Flag), (.int .i64 a0.Parts), (.int .i64 a0.Replicas), (.int .i64 a0.Part), v25, (.int .i64 a0.Broker), (.int .i64 a0.Epoch), (.string a0.Rack), (.int .i64 a0.Word.Broker), (.int .i64 a0.Word.Epoch), (.int .i64 a0.Word.High), (.bool a0.Word.Fence), (.bool a0.Word.Leave)]) 0 ag29 sz29 rfl rfl rfl)) (IM.le.refl _) ⟨v25, c27, rfl, rfl, h28⟩

noncomputable def f_ask_about (a0 : Int) : Option Int :=
  (if (decide (a0 = (1 : Int))) = true then (some (13 : Int)) else (if (decide (a0 = (2 : Int))) = true then (some (1 : Int)) else (if (decide (a0 = (3 : Int))) = true then (some (5 : Int)) else (if (decide (a0 = (4 : Int))) = true then (some (3 : Int)) else (if (decide (a0 = (5 : Int))) = true then (some (49 : Int)) else (((if (decide (a0 = (6 : Int))) = true then (some (decide (a0 = (6 : Int)))) else (some (decide (a0 = (7 : Int))))) : Option Bool).bind fun (x26 : Bool) => (if x26 = true then (some (17 : Int)) else (if (decide (a0 = (8 : Int))) = true then (some (64 : Int)) else (if (decide (a0 = (9 : Int))) = true then (some (448 : Int)) else (if (decide (a0 = (10 : Int))) = true then (some (512 : Int)) else (if (decide (a0 = (11 : Int))) = true then (some (241 : Int)) else (some (-1 : Int)))))))))))))
def f_ask_about_post (a0 : Int) : Int → Value → IM → HL → Prop :=
  fun (r0 : Int) (v : Value) (M' : IM) (H' : HL) => (.int .i64 r0) = v ∧ H' = []
set_option maxHeartbeats 8000000 in
set_option maxRecDepth 100000 in
theorem f_ask_about_ok (a0 : Int) (M : IM) (res : Int) (h : f_ask_about a0 = some res) :
    Tri Try.prog 33 #[(.int .i64 a0)] M [] (f_ask_about_post a0 res) := by
 unfold f_ask_about at h
 refine Tri.enter (fn := Try.f33) Try.func33 rfl (Nat.le_of_ble_eq_true rfl) ?_
 intro F ρ hρ
 refine Sr ?_
 refine Pa (.int .i64 (0 : Int)) rfl rfl ?_
 refine Nt ?_
 refine WC.seq ?_
 refine Sr ?_
 refine Pm (.int .i64 a0) (hρ 0) rfl ?_
 refine Nt ?_
 refine WC.block ?_
 refine Sr ?_
 refine Pu (.bool (decide (a0 = (1 : Int)))) (PO.eql rfl rfl) rfl ?_
 refine Pa (.bool (decide (a0 = (1 : Int)))) rfl rfl ?_
 refine Nt ?_
 refine WC.cond (b := decide (a0 = (1 : Int))) rfl (fun hb21 => ?_) (fun hb21 => ?_)
 have h := ite_t hb21 h
 refine Sr ?_
 refine Pa (.int .i64 (13 : Int)) rfl rfl ?_
 refine Nt ?_
 refine WC.ret ?_
 refine WQ.blockR ?_
 refine WQ.thenR ?_
 exact WQ.returnsF h [] rfl (results1 rfl rfl) (IM.le.refl _) ⟨rfl, rfl⟩
 have h := ite_f hb21 h
 refine Sr ?_
 refine Pu (.bool (decide (a0 = (2 : Int)))) (PO.eql rfl rfl) rfl ?_
 refine Pa (.bool (decide (a0 = (2 : Int)))) rfl rfl ?_
 refine Nt ?_
 refine WC.cond (b := decide (a0 = (2 : Int))) rfl (fun hb22 => ?_) (fun hb22 => ?_)
 have h := ite_t hb22 h
 refine Sr ?_
 refine Pa (.int .i64 (1 : Int)) rfl rfl ?_
 refine Nt ?_
 refine WC.ret ?_
 refine WQ.blockR ?_
 refine WQ.thenR ?_
 exact WQ.returnsF h [] rfl (results1 rfl rfl) (IM.le.refl _) ⟨rfl, rfl⟩
 have h := ite_f hb22 h
 refine Sr ?_
 refine Pu (.bool (decide (a0 = (3 : Int)))) (PO.eql rfl rfl) rfl ?_
 refine Pa (.bool (decide (a0 = (3 : Int)))) rfl rfl ?_
 refine Nt ?_
 refine WC.cond (b := decide (a0 = (3 : Int))) rfl (fun hb23 => ?_) (fun hb23 => ?_)
 have h := ite_t hb23 h
 refine Sr ?_
 refine Pa (.int .i64 (5 : Int)) rfl rfl ?_
 refine Nt ?_
 refine WC.ret ?_
 refine WQ.blockR ?_
 refine WQ.thenR ?_
 exact WQ.returnsF h [] rfl (results1 rfl rfl) (IM.le.refl _) ⟨rfl, rfl⟩
 have h := ite_f hb23 h
 refine Sr ?_
 refine Pu (.bool (decide (a0 = (4 : Int)))) (PO.eql rfl rfl) rfl ?_
 refine Pa (.bool (decide (a0 = (4 : Int)))) rfl rfl ?_
 refine Nt ?_
 refine WC.cond (b := decide (a0 = (4 : Int))) rfl (fun hb24 => ?_) (fun hb24 => ?_)
 have h := ite_t hb24 h
 refine Sr ?_
 refine Pa (.int .i64 (3 : Int)) rfl rfl ?_
 refine Nt ?_
 refine WC.ret ?_
 refine WQ.blockR ?_
 refine WQ.thenR ?_
 exact WQ.returnsF h [] rfl (results1 rfl rfl) (IM.le.refl _) ⟨rfl, rfl⟩
 have h := ite_f hb24 h
 refine Sr ?_
 refine Pu (.bool (decide (a0 = (5 : Int)))) (PO.eql rfl rfl) rfl ?_
 refine Pa (.bool (decide (a0 = (5 : Int)))) rfl rfl ?_
 refine Nt ?_
 refine WC.cond (b := decide (a0 = (5 : Int))) rfl (fun hb25 => ?_) (fun hb25 => ?_)
 have h := ite_t hb25 h
 refine Sr ?_
 refine Pa (.int .i64 (49 : Int)) rfl rfl ?_
 refine Nt ?_
 refine WC.ret ?_
 refine WQ.blockR ?_
 refine WQ.thenR ?_
 exact WQ.returnsF h [] rfl (results1 rfl rfl) (IM.le.refl _) ⟨rfl, rfl⟩
 have h := ite_f hb25 h
 obtain ⟨x26, hj27, h⟩ := bnd h
 refine WC.joinF (fun (x26 : Bool) ρ' M' H' => M.le M' ∧ F = H' ∧ ρ' 3 = (.int .i64 a0) ∧ ρ' 14 = (.bool x26)) x26 ?_ ?_
 have h327 := h
 have h := hj27
 refine Sr ?_
 refine Pu (.bool (decide (a0 = (6 : Int)))) (PO.eql rfl rfl) rfl ?_
 refine Pa (.bool (decide (a0 = (6 : Int)))) rfl rfl ?_
 refine Nt ?_
 refine WC.cond (b := decide (a0 = (6 : Int))) rfl (fun hb28 => ?_) (fun hb28 => ?_)
 have h := ite_t hb28 h
 refine WC.skip ?_
 obtain rfl := Option.some.inj h
 refine WQ.thenJ ?_
 exact ⟨(IM.le.refl _), rfl, rfl, rfl⟩
 have h := ite_f hb28 h
 refine WC.region ?_
 refine Pu (.bool (decide (a0 = (7 : Int)))) (PO.eql rfl rfl) rfl ?_
 refine Pa (.bool (decide (a0 = (7 : Int)))) rfl rfl ?_
 refine WL.nil ?_
 obtain rfl := Option.some.inj h
 refine WQ.thenJ ?_
 exact ⟨(IM.le.refl _), rfl, rfl, rfl⟩
 rintro ρ27 M27 H27 ⟨hle27, rfl, hs27_3, hs27_14⟩
 refine WC.cond (b := x26) hs27_14 (fun hb29 => ?_) (fun hb29 => ?_)
 have h := ite_t hb29 h
 refine Sr ?_
 refine Pa (.int .i64 (17 : Int)) rfl rfl ?_
 refine Nt ?_
 refine WC.ret ?_
 refine WQ.blockR ?_
 refine WQ.thenR ?_
 exact WQ.returnsF h [] rfl (results1 rfl rfl) hle27 ⟨rfl, rfl⟩
 have h := ite_f hb29 h
 refine Sr ?_
 refine Pu (.bool (decide (a0 = (8 : Int)))) (PO.eql hs27_3 rfl) rfl ?_
 refine Pa (.bool (decide (a0 = (8 : Int)))) rfl rfl ?_
 refine Nt ?_
 refine WC.cond (b := decide (a0 = (8 : Int))) rfl (fun hb30 => ?_) (fun hb30 => ?_)
 have h := ite_t hb30 h
 refine Sr ?_
 refine Pa (.int .i64 (64 : Int)) rfl rfl ?_
 refine Nt ?_
 refine WC.ret ?_
 refine WQ.blockR ?_
 refine WQ.thenR ?_
 exact WQ.returnsF h [] rfl (results1 rfl rfl) hle27 ⟨rfl, rfl⟩
 have h := ite_f hb30 h
 refine Sr ?_
 refine Pu (.bool (decide (a0 = (9 : Int)))) (PO.eql hs27_3 rfl) rfl ?_
 refine Pa (.bool (decide (a0 = (9 : Int)))) rfl rfl ?_
 refine Nt ?_
 refine WC.cond (b := decide (a0 = (9 : Int))) rfl (fun hb31 => ?_) (fun hb31 => ?_)
 have h := ite_t hb31 h
 refine Sr ?_
 refine Pa (.int .i64 (448 : Int)) rfl rfl ?_
 refine Nt ?_
 refine WC.ret ?_
 refine WQ.blockR ?_
 refine WQ.thenR ?_
 exact WQ.returnsF h [] rfl (results1 rfl rfl) hle27 ⟨rfl, rfl⟩
 have h := ite_f hb31 h
 refine Sr ?_
 refine Pu (.bool (decide (a0 = (10 : Int)))) (PO.eql hs27_3 rfl) rfl ?_
 refine Pa (.bool (decide (a0 = (10 : Int)))) rfl rfl ?_
 refine Nt ?_
 refine WC.cond (b := decide (a0 = (10 : Int))) rfl (fun hb32 => ?_) (fun hb32 => ?_)
 have h := ite_t hb32 h
 refine Sr ?_
 refine Pa (.int .i64 (512 : Int)) rfl rfl ?_
 refine Nt ?_
 refine WC.ret ?_
 refine WQ.blockR ?_
 refine WQ.thenR ?_
 exact WQ.returnsF h [] rfl (results1 rfl rfl) hle27 ⟨rfl, rfl⟩
 have h := ite_f hb32 h
 refine Sr ?_
 refine Pu (.bool (decide (a0 = (11 : Int)))) (PO.eql hs27_3 rfl) rfl ?_
 refine Pa (.bool (decide (a0 = (11 : Int)))) rfl rfl ?_
 refine Nt ?_
 refine WC.cond (b := decide (a0 = (11 : Int))) rfl (fun hb33 => ?_) (fun hb33 => ?_)
 have h := ite_t hb33 h
 refine Sr ?_
 refine Pa (.int .i64 (241 : Int)) rfl rfl ?_
 refine Nt ?_
 refine WC.ret ?_
 refine WQ.blockR ?_
 refine WQ.thenR ?_
 exact WQ.returnsF h [] rfl (results1 rfl rfl) hle27 ⟨rfl, rfl⟩
 have h := ite_f hb33 h
 refine WC.skip ?_
 refine WQ.blockN ?_
 refine WQ.thenC ?_
 refine Sr ?_
 refine Pa (.int .i64 (-1 : Int)) rfl rfl ?_
 refine Nt ?_
 refine WC.ret ?_
 exact WQ.returnsF h [] rfl (results1 rfl rfl) hle27 ⟨rfl, rfl⟩

noncomputable def f_ask_Check_1 (a0 : Int) (a1 : Int) : Option Bool :=
  (some (decide ((andI .i64 a1 a0) ≠ (0 : Int))))
def f_ask_Check_1_post (a0 : Int) (a1 : Int) (g1 : Nat) : Bool → Value → IM → HL → Prop :=
  fun (r0 : Bool) (v : Value) (M' : IM) (H' : HL) => (.bool r0) = v ∧ H' = [[(g1, .cells #[(.int .i64 a1)] 3 (0, 0))]]
set_option maxHeartbeats 8000000 in
set_option maxRecDepth 100000 in
theorem f_ask_Check_1_ok (a0 : Int) (a1 : Int) (M : IM) (g1 : Nat) (res : Bool) (h : f_ask_Check_1 a0 a1 = some res) :
    Tri Try.prog 34 #[(.int .i64 a0), (.pointer (some ⟨g1, 0, none⟩))] M [[(g1, .cells #[(.int .i64 a1)] 3 (0, 0))]] (f_ask_Check_1_post a0 a1 g1 res) := by
 unfold f_ask_Check_1 at h
 refine Tri.enter (fn := Try.f34) Try.func34 rfl (Nat.le_of_ble_eq_true rfl) ?_
 intro F ρ hρ
 refine Sr ?_
 refine Pa (.bool false) rfl rfl ?_
 refine Ns ?_
 refine Pu (.int .i64 a1) (PO.loadB 0 pl3 (hρ 1) rfl rfl) rfl ?_
 refine Pm (.int .i64 a0) (hρ 0) rfl ?_
 refine Pu (.int .i64 (andI .i64 a1 a0)) (PO.and rfl rfl) rfl ?_
 refine Pu (.bool (decide ((andI .i64 a1 a0) ≠ (0 : Int)))) (PO.neq rfl rfl) rfl ?_
 refine Pa (.bool (decide ((andI .i64 a1 a0) ≠ (0 : Int)))) rfl rfl ?_
 refine Nt ?_
 refine WC.ret ?_
 exact WQ.returnsF h [[(g1, .cells #[(.int .i64 a1)] 3 (0, 0))]] rfl (results1 rfl rfl) (IM.le.refl _) ⟨rfl, rfl⟩

noncomputable def f_ask_text (a0 : ByteArray) (a1 : Bool) (a2 : Int) : Option Bool :=
  (if (!a1) = true then (some (decide (a0 = (⟨#[]⟩ : ByteArray)))) else (some (decide ((a0.size : Int) ≤ a2))))
def f_ask_text_post (a0 : ByteArray) (a1 : Bool) (a2 : Int) : Bool → Value → IM → HL → Prop :=
  fun (r0 : Bool) (v : Value) (M' : IM) (H' : HL) => (.bool r0) = v ∧ H' = []
set_option maxHeartbeats 8000000 in
set_option maxRecDepth 100000 in
theorem f_ask_text_ok (a0 : ByteArray) (a1 : Bool) (a2 : Int) (M : IM) (res : Bool) (h : f_ask_text a0 a1 a2 = some res) :
    Tri Try.prog 35 #[(.string a0), (.bool a1), (.int .i64 a2)] M [] (f_ask_text_post a0 a1 a2 res) := by
 unfold f_ask_text at h
 refine Tri.enter (fn := Try.f35) Try.func35 rfl (Nat.le_of_ble_eq_true rfl) ?_
 intro F ρ hρ
 refine Sr ?_
 refine Pa (.bool false) rfl rfl ?_
 refine Nt ?_
 refine WC.seq ?_
 refine Sr ?_
 refine Pm (.bool a1) (hρ 1) rfl ?_
 refine Pu (.bool (!a1)) (PO.not rfl) rfl ?_
 refine Nt ?_
 refine WC.cond (b := !a1) rfl (fun hb21 => ?_) (fun hb21 => ?_)
 have h := ite_t hb21 h
 refine Sr ?_
 refine Pm (.string a0) (hρ 0) rfl ?_
 refine Pu (.bool (decide (a0 = (⟨#[]⟩ : ByteArray)))) (PO.seql rfl rfl) rfl ?_
 refine Pa (.bool (decide (a0 = (⟨#[]⟩ : ByteArray)))) rfl rfl ?_
 refine Nt ?_
 refine WC.ret ?_
 refine WQ.thenR ?_
 exact WQ.returnsF h [] rfl (results1 rfl rfl) (IM.le.refl _) ⟨rfl, rfl⟩
 have h := ite_f hb21 h
 refine WC.skip ?_
 refine WQ.thenC ?_
 refine Sr ?_
 refine Pm (.string a0) (hρ 0) rfl ?_
 refine Pu (.int .i64 (a0.size : Int)) (PO.lenStr Try.underlying9 rfl) rfl ?_
 refine Pm (.int .i64 a2) (hρ 2) rfl ?_
 refine Pu (.bool (decide ((a0.size : Int) ≤ a2))) (PO.leq rfl rfl) rfl ?_
 refine Pa (.bool (decide ((a0.size : Int) ≤ a2))) rfl rfl ?_
 refine Nt ?_
 refine WC.ret ?_
 exact WQ.returnsF h [] rfl (results1 rfl rfl) (IM.le.refl _) ⟨rfl, rfl⟩


end Go.Proofs.Ytdlilclopmhiaaa.G
