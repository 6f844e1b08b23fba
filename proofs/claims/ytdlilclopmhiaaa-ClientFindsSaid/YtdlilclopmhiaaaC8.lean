/- Go functions: what they come to, and that they do. Printed by a program of the session (gen). -/
import Derived.Test.YtdlilclopmhiaaaCF
import Derived.Test.YtdlilclopmhiaaaC7
set_option linter.unusedVariables false
set_option linter.unusedSimpArgs false
namespace Go.Proofs.Ytdlilclopmhiaaa.G
open Go Go.KK

noncomputable def f_client_Check_l0 (a0 : T_api_Client) (s_ : Int) : Option (Int ⊕ (Unit ⊕ GErr)) :=
  match s_ with
  | x63 =>
    (if (decide (x63 < (a0.Open.length : Int))) = true then (grd (0 ≤ x63 ∧ x63 < a0.Open.length) ((f_ask_Check (⟨(rd a0.Open x63).Client, (rd a0.Open x63).Serial, (rd a0.Open x63).Kind, (rd a0.Open x63).Name, (rd a0.Open x63).Key, (rd a0.Open x63).Value, (rd a0.Open x63).Flag, (rd a0.Open x63).Parts, (rd a0.Open x63).Replicas, (rd a0.Open x63).Part, (rd a0.Open x63).Ids, (rd a0.Open x63).Broker, (rd a0.Open x63).Epoch, (rd a0.Open x63).Rack, ((rd a0.Open x63).Word)⟩ : T_api_Request)).bind fun (r74 : GErr) => (if (!r74.isNil) = true then (some (Sum.inr (Sum.inr r74))) else (((if (decide (((rd a0.Open x63).Client) ≠ a0.Id)) = true then (some true) else (some (decide (((rd a0.Open x63).Serial) ≠ a0.Serial)))) : Option Bool).bind fun (x80 : Bool) => (if x80 = true then ((f_fault_New (⟨#[111, 112, 101, 110]⟩ : ByteArray) ((rd a0.Open x63).Serial) (10 : Int)).bind fun (r84 : GErr) => (some (Sum.inr (Sum.inr r84)))) else (some (Sum.inl (IntKind.i64.wrap (x63 + (1 : Int)))))))))) else (some (Sum.inr (Sum.inl ()))))
noncomputable def f_client_Check (a0 : T_api_Client) : Option GErr :=
  ((f_client_New a0.Id a0.Voters).bind fun (r22, r23) => (if (!r23.isNil) = true then (some r23) else (((if (decide (a0.Serial < (0 : Int))) = true then (some true) else (some (decide ((1073741824 : Int) < a0.Serial)))) : Option Bool).bind fun (x31 : Bool) => (if x31 = true then ((f_fault_New (⟨#[115, 101, 114, 105, 97, 108]⟩ : ByteArray) a0.Serial (2 : Int)).bind fun (r35 : GErr) => (some r35)) else (((if (decide (a0.Node < (1 : Int))) = true then (some true) else (some (decide (a0.Voters < a0.Node)))) : Option Bool).bind fun (x40 : Bool) => (if x40 = true then ((f_fault_New (⟨#[110, 111, 100, 101]⟩ : ByteArray) a0.Node (2 : Int)).bind fun (r44 : GErr) => (some r44)) else (((if (decide ((1 : Int) < (a0.Open.length : Int))) = true then (some true) else (if (decide (a0.Tries < (0 : Int))) = true then (some true) else (if (decide ((50 : Int) < a0.Tries)) = true then (some true) else (if (decide ((a0.Open.length : Int) = (0 : Int))) = true then (some (decide ((0 : Int) < a0.Tries))) else (some false))))) : Option Bool).bind fun (x49 : Bool) => (if x49 = true then ((f_fault_New (⟨#[111, 112, 101, 110]⟩ : ByteArray) (a0.Open.length : Int) (10 : Int)).bind fun (r56 : GErr) => (some r56)) else ((((iter (f_client_Check_l0 a0) (0 : Int)).bind (Sum.elim (fun _ => (some (Sum.inl ()))) (fun (x64 : GErr) => (((some x64)).bind fun r => some (Sum.inr r))))) : Option (Unit ⊕ GErr)).bind (Sum.elim (fun _ => (some GErr.nil)) some))))))))))
def f_client_Check_post (a0 : T_api_Client) (v0_4 : Value) : GErr → Value → IM → HL → Prop :=
  fun (r0 : GErr) (v : Value) (M' : IM) (H' : HL) => (GV r0) = v ∧ H' = []
set_option maxHeartbeats 8000000 in
set_option maxRecDepth 100000 in
theorem f_client_Check_ok (a0 : T_api_Client) (M : IM) (v0_4 : Value) (h0_4 : RS kd_api_Request M v0_4 a0.Open) (res : GErr) (h : f_client_Check a0 = some res) :
    Tri Try.prog 13 #[(.agg #[(.int .i64 a0.Id), (.int .i64 a0.Serial), (.int .i64 a0.Voters), (.int .i64 a0.Node), v0_4, (.int .i64 a0.Tries)])] M [] (f_client_Check_post a0 v0_4 res) := by
 unfold f_client_Check at h
 refine Tri.enter (fn := Try.f13) Try.func13 rfl (Nat.le_of_ble_eq_true rfl) ?_
 intro F ρ hρ
 refine Sr ?_
 refine WL.eff (EO.box (cs := #[(.int .i64 a0.Id), (.int .i64 a0.Serial), (.int .i64 a0.Voters), (.int .i64 a0.Node), v0_4, (.int .i64 a0.Tries)]) (congrArg Value.cells (asE (.agg #[(.int .i64 a0.Id), (.int .i64 a0.Serial), (.int .i64 a0.Voters), (.int .i64 a0.Node), v0_4, (.int .i64 a0.Tries)]) (hρ 0)))) rfl ?_
 rintro _ _ _ - ⟨rfl, g21, rfl, rfl⟩
 refine Pa (GV GErr.nil) rfl rfl ?_
 refine Nt ?_
 refine WC.seq ?_
 refine Sr ?_
 refine Pu (.pointer (some ⟨g21, 0, none⟩)) (PO.fieldAddr fo24_0 rfl rfl) rfl ?_
 refine Pu (.int .i64 a0.Id) (PO.loadB 0 pl3 rfl rfl rfl) rfl ?_
 refine Pu (.pointer (some ⟨g21, 2, none⟩)) (PO.fieldAddr fo24_2 rfl rfl) rfl ?_
 refine Pu (.int .i64 a0.Voters) (PO.loadB 0 pl3 rfl rfl rfl) rfl ?_
 obtain ⟨⟨r22, r23⟩, hr24, h⟩ := bnd h
 refine WL.eff (EO.call0 co15 (f_client_New_ok a0.Id a0.Voters _ (r22, r23) hr24) (args2 rfl rfl)) rfl ?_
 rintro _ M25 _ hle26 ⟨_, ⟨vq27_4, cq27_4, rfl, rfl, hq27_4⟩, rfl⟩
 have h0_4 := h0_4.mono hle26
 refine WL.a1 ?_
 refine Pm (.tuple #[(.agg #[(.int .i64 r22.Id), (.int .i64 r22.Serial), (.int .i64 r22.Voters), (.int .i64 r22.Node), vq27_4, (.int .i64 r22.Tries)]), (GV r23)]) rfl rfl ?_
 refine Pu (.agg #[(.int .i64 r22.Id), (.int .i64 r22.Serial), (.int .i64 r22.Voters), (.int .i64 r22.Node), vq27_4, (.int .i64 r22.Tries)]) (PO.extract rfl rfl) rfl ?_
 refine Pu (GV r23) (PO.extract rfl rfl) rfl ?_
 refine WL.eff (EO.alloc ze24 rfl) rfl ?_
 rintro _ _ _ - ⟨rfl, g29, rfl, rfl⟩
 refine WL.eff (EO.storeL (v := (.agg #[(.int .i64 r22.Id), (.int .i64 r22.Serial), (.int .i64 r22.Voters), (.int .i64 r22.Node), vq27_4, (.int .i64 r22.Tries)])) (vl := [(.int .i64 r22.Id), (.int .i64 r22.Serial), (.int .i64 r22.Voters), (.int .i64 r22.Node), vq27_4, (.int .i64 r22.Tries)]) (arr' := [(.int .i64 r22.Id), (.int .i64 r22.Serial), (.int .i64 r22.Voters), (.int .i64 r22.Node), vq27_4, (.int .i64 r22.Tries)]) rfl sz24 rfl rfl (onesOf (Ones.cons rfl (Ones.cons rfl (Ones.cons rfl (Ones.cons rfl (Ones.cons (OwnS.one hq27_4) (Ones.cons rfl Ones.nil))))))) rfl rfl rfl) rfl ?_
 rintro _ _ _ - ⟨rfl, rfl⟩
 refine Pa (GV r23) rfl rfl ?_
 refine Ns ?_
 refine Pm (GV r23) rfl rfl ?_
 refine Pu (.bool (!r23.isNil)) (PO.errNotNil Try.underlying40 rfl) rfl ?_
 refine Nt ?_
 refine WC.cond (b := !r23.isNil) rfl (fun hb30 => ?_) (fun hb30 => ?_)
 have h := ite_t hb30 h
 refine Sr ?_
 refine Pm (GV r23) rfl rfl ?_
 refine Pa (GV r23) rfl rfl ?_
 refine Nt ?_
 refine WC.ret ?_
 refine WQ.thenR ?_
 refine WQ.drop ?_
 refine WQ.drop ?_
 refine WQ.drop ?_
 exact WQ.returnsF h [] rfl (results1 rfl rfl) hle26 ⟨rfl, rfl⟩
 have h := ite_f hb30 h
 refine WC.skip ?_
 refine WQ.thenC ?_
 refine WC.seq ?_
 refine WC.block ?_
 obtain ⟨x31, hj32, h⟩ := bnd h
 refine WC.joinF (fun (x31 : Bool) ρ' M' H' => M25.le M' ∧ [(g29, .cells #[(.int .i64 r22.Id), (.int .i64 r22.Serial), (.int .i64 r22.Voters), (.int .i64 r22.Node), vq27_4, (.int .i64 r22.Tries)] 24 (0, 0))] :: [(g21, .cells #[(.int .i64 a0.Id), (.int .i64 a0.Serial), (.int .i64 a0.Voters), (.int .i64 a0.Node), v0_4, (.int .i64 a0.Tries)] 24 (0, 0))] :: cq27_4 :: F = H' ∧ ρ' 1 = (.pointer (some ⟨g21, 0, none⟩)) ∧ ρ' 19 = (.bool x31)) x31 ?_ ?_
 have h332 := h
 have h := hj32
 refine WC.region ?_
 refine Pu (.pointer (some ⟨g21, 1, none⟩)) (PO.fieldAddr fo24_1 rfl rfl) rfl ?_
 refine Pu (.int .i64 a0.Serial) (PO.loadB 2 pl3 rfl rfl rfl) rfl ?_
 refine Pu (.bool (decide (a0.Serial < (0 : Int)))) (PO.lss rfl rfl) rfl ?_
 refine Pm (.bool (decide (a0.Serial < (0 : Int)))) rfl rfl ?_
 rcases Bool.eq_false_or_eq_true (decide (a0.Serial < (0 : Int))) with hb33 | hb33
 have h := ite_t hb33 h
 iterate 3 refine Of 23 rfl rfl hb33 rfl ?_
 refine Pu (.bool true) (PO.pickT rfl hb33 rfl) rfl ?_
 refine Pa (.bool true) rfl rfl ?_
 refine WL.nil ?_
 refine WQ.f1 ?_
 refine WQ.f2 ?_
 refine WQ.f2 ?_
 obtain rfl := Option.some.inj h
 refine WQ.thenJ ?_
 exact ⟨(IM.le.refl _), rfl, rfl, rfl⟩
 have h := ite_f hb33 h
 refine On 23 rfl rfl hb33 ?_
 refine Pu (.pointer (some ⟨g21, 1, none⟩)) (PO.fieldAddr fo24_1 rfl rfl) rfl ?_
 refine On 23 rfl rfl hb33 ?_
 refine Pu (.int .i64 a0.Serial) (PO.loadB 2 pl3 rfl rfl rfl) rfl ?_
 refine On 23 rfl rfl hb33 ?_
 refine Pu (.bool (decide ((1073741824 : Int) < a0.Serial))) (PO.gtr rfl rfl) rfl ?_
 refine Pu (.bool (decide ((1073741824 : Int) < a0.Serial))) (PO.pickF rfl hb33 rfl) rfl ?_
 refine Pa (.bool (decide ((1073741824 : Int) < a0.Serial))) rfl rfl ?_
 refine WL.nil ?_
 refine WQ.f1 ?_
 refine WQ.f2 ?_
 refine WQ.f2 ?_
 obtain rfl := Option.some.inj h
 refine WQ.thenJ ?_
 exact ⟨(IM.le.refl _), rfl, rfl, rfl⟩
 rintro ρ32 M32 H32 ⟨hle32, rfl, hs32_1, hs32_19⟩
 have hq27_4 := hq27_4.mono hle32
 have h0_4 := h0_4.mono hle32
 refine WC.cond (b := x31) hs32_19 (fun hb34 => ?_) (fun hb34 => ?_)
 have h := ite_t hb34 h
 refine Sr ?_
 refine Pu (.pointer (some ⟨g21, 1, none⟩)) (PO.fieldAddr fo24_1 hs32_1 rfl) rfl ?_
 refine Pu (.int .i64 a0.Serial) (PO.loadB 1 pl3 rfl rfl rfl) rfl ?_
 obtain ⟨r35, hr36, h⟩ := bnd h
 refine WL.eff (EO.call0 co20 (f_fault_New_ok (⟨#[115, 101, 114, 105, 97, 108]⟩ : ByteArray) a0.Serial (2 : Int) _ r35 hr36) (args3 rfl rfl rfl)) rfl ?_
 rintro _ M37 _ hle38 ⟨_, ⟨rfl, rfl⟩, rfl⟩
 have hq27_4 := hq27_4.mono hle38
 have h0_4 := h0_4.mono hle38
 refine WL.a0 ?_
 refine Pa (GV r35) rfl rfl ?_
 refine Nt ?_
 refine WC.ret ?_
 refine WQ.blockR ?_
 refine WQ.thenR ?_
 refine WQ.drop ?_
 refine WQ.drop ?_
 refine WQ.drop ?_
 exact WQ.returnsF h [] rfl (results1 rfl rfl) ((hle26.trans hle32).trans hle38) ⟨rfl, rfl⟩
 have h := ite_f hb34 h
 obtain ⟨x40, hj41, h⟩ := bnd h
 refine WC.joinF (fun (x40 : Bool) ρ' M' H' => M32.le M' ∧ [(g29, .cells #[(.int .i64 r22.Id), (.int .i64 r22.Serial), (.int .i64 r22.Voters), (.int .i64 r22.Node), vq27_4, (.int .i64 r22.Tries)] 24 (0, 0))] :: [(g21, .cells #[(.int .i64 a0.Id), (.int .i64 a0.Serial), (.int .i64 a0.Voters), (.int .i64 a0.Node), v0_4, (.int .i64 a0.Tries)] 24 (0, 0))] :: cq27_4 :: F = H' ∧ ρ' 1 = (.pointer (some ⟨g21, 0, none⟩)) ∧ ρ' 31 = (.bool x40)) x40 ?_ ?_
 have h341 := h
 have h := hj41
 refine WC.region ?_
 refine Pu (.pointer (some ⟨g21, 3, none⟩)) (PO.fieldAddr fo24_3 hs32_1 rfl) rfl ?_
 refine Pu (.int .i64 a0.Node) (PO.loadB 1 pl3 rfl rfl rfl) rfl ?_
 refine Pu (.bool (decide (a0.Node < (1 : Int)))) (PO.lss rfl rfl) rfl ?_
 refine Pm (.bool (decide (a0.Node < (1 : Int)))) rfl rfl ?_
 rcases Bool.eq_false_or_eq_true (decide (a0.Node < (1 : Int))) with hb42 | hb42
 have h := ite_t hb42 h
 iterate 5 refine Of 35 rfl rfl hb42 rfl ?_
 refine Pu (.bool true) (PO.pickT rfl hb42 rfl) rfl ?_
 refine Pa (.bool true) rfl rfl ?_
 refine WL.nil ?_
 obtain rfl := Option.some.inj h
 refine WQ.thenJ ?_
 exact ⟨(IM.le.refl _), rfl, hs32_1, rfl⟩
 have h := ite_f hb42 h
 refine On 35 rfl rfl hb42 ?_
 refine Pu (.pointer (some ⟨g21, 3, none⟩)) (PO.fieldAddr fo24_3 hs32_1 rfl) rfl ?_
 refine On 35 rfl rfl hb42 ?_
 refine Pu (.int .i64 a0.Node) (PO.loadB 1 pl3 rfl rfl rfl) rfl ?_
 refine On 35 rfl rfl hb42 ?_
 refine Pu (.pointer (some ⟨g21, 2, none⟩)) (PO.fieldAddr fo24_2 hs32_1 rfl) rfl ?_
 refine On 35 rfl rfl hb42 ?_
 refine Pu (.int .i64 a0.Voters) (PO.loadB 1 pl3 rfl rfl rfl) rfl ?_
 refine On 35 rfl rfl hb42 ?_
 refine Pu (.bool (decide (a0.Voters < a0.Node))) (PO.gtr rfl rfl) rfl ?_
 refine Pu (.bool (decide (a0.Voters < a0.Node))) (PO.pickF rfl hb42 rfl) rfl ?_
 refine Pa (.bool (decide (a0.Voters < a0.Node))) rfl rfl ?_
 refine WL.nil ?_
 obtain rfl := Option.some.inj h
 refine WQ.thenJ ?_
 exact ⟨(IM.le.refl _), rfl, hs32_1, rfl⟩
 rintro ρ41 M41 H41 ⟨hle41, rfl, hs41_1, hs41_31⟩
 have hq27_4 := hq27_4.mono hle41
 have h0_4 := h0_4.mono hle41
 refine WC.cond (b := x40) hs41_31 (fun hb43 => ?_) (fun hb43 => ?_)
 have h := ite_t hb43 h
 refine Sr ?_
 refine Pu (.pointer (some ⟨g21, 3, none⟩)) (PO.fieldAddr fo24_3 hs41_1 rfl) rfl ?_
 refine Pu (.int .i64 a0.Node) (PO.loadB 1 pl3 rfl rfl rfl) rfl ?_
 obtain ⟨r44, hr45, h⟩ := bnd h
 refine WL.eff (EO.call0 co20 (f_fault_New_ok (⟨#[110, 111, 100, 101]⟩ : ByteArray) a0.Node (2 : Int) _ r44 hr45) (args3 rfl rfl rfl)) rfl ?_
 rintro _ M46 _ hle47 ⟨_, ⟨rfl, rfl⟩, rfl⟩
 have hq27_4 := hq27_4.mono hle47
 have h0_4 := h0_4.mono hle47
 refine WL.a0 ?_
 refine Pa (GV r44) rfl rfl ?_
 refine Nt ?_
 refine WC.ret ?_
 refine WQ.blockR ?_
 refine WQ.thenR ?_
 refine WQ.drop ?_
 refine WQ.drop ?_
 refine WQ.drop ?_
 exact WQ.returnsF h [] rfl (results1 rfl rfl) (((hle26.trans hle32).trans hle41).trans hle47) ⟨rfl, rfl⟩
 have h := ite_f hb43 h
 obtain ⟨x49, hj50, h⟩ := bnd h
 refine WC.joinF (fun (x49 : Bool) ρ' M' H' => M41.le M' ∧ [(g29, .cells #[(.int .i64 r22.Id), (.int .i64 r22.Serial), (.int .i64 r22.Voters), (.int .i64 r22.Node), vq27_4, (.int .i64 r22.Tries)] 24 (0, 0))] :: [(g21, .cells #[(.int .i64 a0.Id), (.int .i64 a0.Serial), (.int .i64 a0.Voters), (.int .i64 a0.Node), v0_4, (.int .i64 a0.Tries)] 24 (0, 0))] :: cq27_4 :: F = H' ∧ ρ' 1 = (.pointer (some ⟨g21, 0, none⟩)) ∧ ρ' 45 = (.bool x49)) x49 ?_ ?_
 have h350 := h
 have h := hj50
 refine WC.region ?_
 refine Pu (.pointer (some ⟨g21, 4, none⟩)) (PO.fieldAddr fo24_4 hs41_1 rfl) rfl ?_
 refine Pu v0_4 (PO.loadB 1 pl22 rfl rfl rfl) rfl ?_
 refine Pu (.int .i64 (a0.Open.length : Int)) (PO.lenS Try.underlying22 rfl h0_4.len) rfl ?_
 refine Pu (.bool (decide ((1 : Int) < (a0.Open.length : Int)))) (PO.gtr rfl rfl) rfl ?_
 refine Pm (.bool (decide ((1 : Int) < (a0.Open.length : Int)))) rfl rfl ?_
 rcases Bool.eq_false_or_eq_true (decide ((1 : Int) < (a0.Open.length : Int))) with hb51 | hb51
 have h := ite_t hb51 h
 iterate 3 refine Of 50 rfl rfl hb51 rfl ?_
 refine Pu (.bool true) (PO.pickT rfl hb51 rfl) rfl ?_
 refine Pm (.bool true) rfl rfl ?_
 iterate 3 refine Of 55 rfl rfl rfl rfl ?_
 refine Pu (.bool true) (PO.pickT rfl rfl rfl) rfl ?_
 refine Pm (.bool true) rfl rfl ?_
 iterate 5 refine Of 60 rfl rfl rfl rfl ?_
 refine WL.offU 65 rfl rfl rfl ?_
 refine WL.offU 65 rfl rfl rfl ?_
 refine WL.offU 65 rfl rfl rfl ?_
 refine Of 60 rfl rfl rfl rfl ?_
 refine Pu (.bool true) (PO.pickT rfl rfl rfl) rfl ?_
 refine Pa (.bool true) rfl rfl ?_
 refine WL.nil ?_
 obtain rfl := Option.some.inj h
 refine WQ.thenJ ?_
 exact ⟨(IM.le.refl _), rfl, hs41_1, rfl⟩
 have h := ite_f hb51 h
 refine On 50 rfl rfl hb51 ?_
 refine Pu (.pointer (some ⟨g21, 5, none⟩)) (PO.fieldAddr fo24_5 hs41_1 rfl) rfl ?_
 refine On 50 rfl rfl hb51 ?_
 refine Pu (.int .i64 a0.Tries) (PO.loadB 1 pl3 rfl rfl rfl) rfl ?_
 refine On 50 rfl rfl hb51 ?_
 refine Pu (.bool (decide (a0.Tries < (0 : Int)))) (PO.lss rfl rfl) rfl ?_
 refine Pu (.bool (decide (a0.Tries < (0 : Int)))) (PO.pickF rfl hb51 rfl) rfl ?_
 refine Pm (.bool (decide (a0.Tries < (0 : Int)))) rfl rfl ?_
 rcases Bool.eq_false_or_eq_true (decide (a0.Tries < (0 : Int))) with hb52 | hb52
 have h := ite_t hb52 h
 iterate 3 refine Of 55 rfl rfl hb52 rfl ?_
 refine Pu (.bool true) (PO.pickT rfl hb52 rfl) rfl ?_
 refine Pm (.bool true) rfl rfl ?_
 iterate 5 refine Of 60 rfl rfl rfl rfl ?_
 refine WL.offU 65 rfl rfl rfl ?_
 refine WL.offU 65 rfl rfl rfl ?_
 refine WL.offU 65 rfl rfl rfl ?_
 refine Of 60 rfl rfl rfl rfl ?_
 refine Pu (.bool true) (PO.pickT rfl rfl rfl) rfl ?_
 refine Pa (.bool true) rfl rfl ?_
 refine WL.nil ?_
 obtain rfl := Option.some.inj h
 refine WQ.thenJ ?_
 exact ⟨(IM.le.refl _), rfl, hs41_1, rfl⟩
 have h := ite_f hb52 h
 refine On 55 rfl rfl hb52 ?_
 refine Pu (.pointer (some ⟨g21, 5, none⟩)) (PO.fieldAddr fo24_5 hs41_1 rfl) rfl ?_
 refine On 55 rfl rfl hb52 ?_
 refine Pu (.int .i64 a0.Tries) (PO.loadB 1 pl3 rfl rfl rfl) rfl ?_
 refine On 55 rfl rfl hb52 ?_
 refine Pu (.bool (decide ((50 : Int) < a0.Tries))) (PO.gtr rfl rfl) rfl ?_
 refine Pu (.bool (decide ((50 : Int) < a0.Tries))) (PO.pickF rfl hb52 rfl) rfl ?_
 refine Pm (.bool (decide ((50 : Int) < a0.Tries))) rfl rfl ?_
 rcases Bool.eq_false_or_eq_true (decide ((50 : Int) < a0.Tries)) with hb53 | hb53
 have h := ite_t hb53 h
 iterate 5 refine Of 60 rfl rfl hb53 rfl ?_
 refine WL.offU 65 rfl rfl rfl ?_
 refine WL.offU 65 rfl rfl rfl ?_
 refine WL.offU 65 rfl rfl rfl ?_
 refine Of 60 rfl rfl hb53 rfl ?_
 refine Pu (.bool true) (PO.pickT rfl hb53 rfl) rfl ?_
 refine Pa (.bool true) rfl rfl ?_
 refine WL.nil ?_
 obtain rfl := Option.some.inj h
 refine WQ.thenJ ?_
 exact ⟨(IM.le.refl _), rfl, hs41_1, rfl⟩
 have h := ite_f hb53 h
 refine On 60 rfl rfl hb53 ?_
 refine Pu (.pointer (some ⟨g21, 4, none⟩)) (PO.fieldAddr fo24_4 hs41_1 rfl) rfl ?_
 refine On 60 rfl rfl hb53 ?_
 refine Pu v0_4 (PO.loadB 1 pl22 rfl rfl rfl) rfl ?_
 refine On 60 rfl rfl hb53 ?_
 refine Pu (.int .i64 (a0.Open.length : Int)) (PO.lenS Try.underlying22 rfl h0_4.len) rfl ?_
 refine On 60 rfl rfl hb53 ?_
 refine Pu (.bool (decide ((a0.Open.length : Int) = (0 : Int)))) (PO.eql rfl rfl) rfl ?_
 refine On 60 rfl rfl hb53 ?_
 refine Pm (.bool (decide ((a0.Open.length : Int) = (0 : Int)))) rfl rfl ?_
 rcases Bool.eq_false_or_eq_true (decide ((a0.Open.length : Int) = (0 : Int))) with hb54 | hb54
 have h := ite_t hb54 h
 refine On 65 rfl rfl hb54 ?_
 refine Pu (.pointer (some ⟨g21, 5, none⟩)) (PO.fieldAddr fo24_5 hs41_1 rfl) rfl ?_
 refine On 65 rfl rfl hb54 ?_
 refine Pu (.int .i64 a0.Tries) (PO.loadB 1 pl3 rfl rfl rfl) rfl ?_
 refine On 65 rfl rfl hb54 ?_
 refine Pu (.bool (decide ((0 : Int) < a0.Tries))) (PO.gtr rfl rfl) rfl ?_
 refine On 60 rfl rfl hb53 ?_
 refine Pu (.bool (decide ((0 : Int) < a0.Tries))) (PO.pickT rfl hb54 rfl) rfl ?_
 refine Pu (.bool (decide ((0 : Int) < a0.Tries))) (PO.pickF rfl hb53 rfl) rfl ?_
 refine Pa (.bool (decide ((0 : Int) < a0.Tries))) rfl rfl ?_
 refine WL.nil ?_
 obtain rfl := Option.some.inj h
 refine WQ.thenJ ?_
 exact ⟨(IM.le.refl _), rfl, hs41_1, rfl⟩
 have h := ite_f hb54 h
 iterate 3 refine Of 65 rfl rfl hb54 rfl ?_
 refine On 60 rfl rfl hb53 ?_
 refine Pu (.bool false) (PO.pickF rfl hb54 rfl) rfl ?_
 refine Pu (.bool false) (PO.pickF rfl hb53 rfl) rfl ?_
 refine Pa (.bool false) rfl rfl ?_
 refine WL.nil ?_
 obtain rfl := Option.some.inj h
 refine WQ.thenJ ?_
 exact ⟨(IM.le.refl _), rfl, hs41_1, rfl⟩
 rintro ρ50 M50 H50 ⟨hle50, rfl, hs50_1, hs50_45⟩
 have hq27_4 := hq27_4.mono hle50
 have h0_4 := h0_4.mono hle50
 refine WC.cond (b := x49) hs50_45 (fun hb55 => ?_) (fun hb55 => ?_)
 have h := ite_t hb55 h
 refine Sr ?_
 refine Pu (.pointer (some ⟨g21, 4, none⟩)) (PO.fieldAddr fo24_4 hs50_1 rfl) rfl ?_
 refine Pu v0_4 (PO.loadB 1 pl22 rfl rfl rfl) rfl ?_
 refine Pu (.int .i64 (a0.Open.length : Int)) (PO.lenS Try.underlying22 rfl h0_4.len) rfl ?_
 obtain ⟨r56, hr57, h⟩ := bnd h
 refine WL.eff (EO.call0 co20 (f_fault_New_ok (⟨#[111, 112, 101, 110]⟩ : ByteArray) (a0.Open.length : Int) (10 : Int) _ r56 hr57) (args3 rfl rfl rfl)) rfl ?_
 rintro _ M58 _ hle59 ⟨_, ⟨rfl, rfl⟩, rfl⟩
 have h0_4 := h0_4.mono hle59
 have hq27_4 := hq27_4.mono hle59
 refine WL.a0 ?_
 refine Pa (GV r56) rfl rfl ?_
 refine Nt ?_
 refine WC.ret ?_
 refine WQ.blockR ?_
 refine WQ.thenR ?_
 refine WQ.drop ?_
 refine WQ.drop ?_
 refine WQ.drop ?_
 exact WQ.returnsF h [] rfl (results1 rfl rfl) ((((hle26.trans hle32).trans hle41).trans hle50).trans hle59) ⟨rfl, rfl⟩
 have h := ite_f hb55 h
 refine WC.skip ?_
 refine WQ.blockN ?_
 refine WQ.thenC ?_
 obtain ⟨j61, hj61, h⟩ := bnd h
 refine WC.joinE (fun (_ : Unit) ρ' M' H' => M50.le M' ∧ [(g29, .cells #[(.int .i64 r22.Id), (.int .i64 r22.Serial), (.int .i64 r22.Voters), (.int .i64 r22.Node), vq27_4, (.int .i64 r22.Tries)] 24 (0, 0))] :: [(g21, .cells #[(.int .i64 a0.Id), (.int .i64 a0.Serial), (.int .i64 a0.Voters), (.int .i64 a0.Node), v0_4, (.int .i64 a0.Tries)] 24 (0, 0))] :: cq27_4 :: F = H') j61 ?_ ?_
 have h361 := h
 have h := hj61
 refine Sr ?_
 refine Pu (.pointer (some ⟨g21, 4, none⟩)) (PO.fieldAddr fo24_4 hs50_1 rfl) rfl ?_
 refine Pu v0_4 (PO.loadB 1 pl22 rfl rfl rfl) rfl ?_
 refine Pu (.int .i64 (a0.Open.length : Int)) (PO.lenS Try.underlying22 rfl h0_4.len) rfl ?_
 refine Pm (.int .i64 (0 : Int)) rfl rfl ?_
 refine Nt ?_
 refine WC.block ?_
 obtain ⟨e62, he62, hK62⟩ := bnd h
 clear h
 refine WC.loop he62 (fun (x63 : Int) ρ' M' H' => M50.le M' ∧ [(g29, .cells #[(.int .i64 r22.Id), (.int .i64 r22.Serial), (.int .i64 r22.Voters), (.int .i64 r22.Node), vq27_4, (.int .i64 r22.Tries)] 24 (0, 0))] :: [(g21, .cells #[(.int .i64 a0.Id), (.int .i64 a0.Serial), (.int .i64 a0.Voters), (.int .i64 a0.Node), v0_4, (.int .i64 a0.Tries)] 24 (0, 0))] :: cq27_4 :: F = H' ∧ ρ' 1 = (.pointer (some ⟨g21, 0, none⟩)) ∧ ρ' 76 = v0_4 ∧ ρ' 77 = (.int .i64 (a0.Open.length : Int)) ∧ ρ' 78 = (.int .i64 x63)) ?_ ?_
 exact ⟨(IM.le.refl _), rfl, hs50_1, rfl, rfl, rfl⟩
 rintro x63 o62 ρ62 M62 H62 h ⟨hle62, rfl, hs62_1, hs62_76, hs62_77, hs62_78⟩
 unfold f_client_Check_l0 at h
 have h0_4 := h0_4.mono hle62
 have hq27_4 := hq27_4.mono hle62
 refine Sr ?_
 refine Pu (.bool (decide (x63 < (a0.Open.length : Int)))) (PO.lss hs62_78 hs62_77) rfl ?_
 refine Nt ?_
 refine WC.seq ?_
 refine WC.cond (b := decide (x63 < (a0.Open.length : Int))) rfl (fun hb65 => ?_) (fun hb65 => ?_)
 have h := ite_t hb65 h
 refine WC.skip ?_
 refine WQ.thenC ?_
 refine WC.seq ?_
 refine WC.block ?_
 refine Sr ?_
 obtain ⟨hg66, h⟩ := grd_i h
 obtain ⟨p67, cs68, hat69, hrc70, hhas71⟩ := h0_4.at hg66.1 hg66.2 (by decide)
 obtain ⟨vw72_10, rfl, hw72_10⟩ := kd_api_Request_open hrc70
 refine Pu (.pointer (some p67)) (PO.indexAddr (n := a0.Open.length) Try.underlying22 sz29 hs62_76 hs62_78 hg66.1 hg66.2 hat69) rfl ?_
 refine Pu (.agg #[(.int .i64 ((rd a0.Open x63).Client)), (.int .i64 ((rd a0.Open x63).Serial)), (.int .i64 ((rd a0.Open x63).Kind)), (.string ((rd a0.Open x63).Name)), (.string ((rd a0.Open x63).Key)), (.string ((rd a0.Open x63).Value)), (.bool ((rd a0.Open x63).Flag)), (.int .i64 ((rd a0.Open x63).Parts)), (.int .i64 ((rd a0.Open x63).Replicas)), (.int .i64 ((rd a0.Open x63).Part)), vw72_10, (.int .i64 ((rd a0.Open x63).Broker)), (.int .i64 ((rd a0.Open x63).Epoch)), (.string ((rd a0.Open x63).Rack)), (.int .i64 (((rd a0.Open x63).Word).Broker)), (.int .i64 (((rd a0.Open x63).Word).Epoch)), (.int .i64 (((rd a0.Open x63).Word).High)), (.bool (((rd a0.Open x63).Word).Fence)), (.bool (((rd a0.Open x63).Word).Leave))]) (PO.loadMA (cs := [(.int .i64 ((rd a0.Open x63).Client)), (.int .i64 ((rd a0.Open x63).Serial)), (.int .i64 ((rd a0.Open x63).Kind)), (.string ((rd a0.Open x63).Name)), (.string ((rd a0.Open x63).Key)), (.string ((rd a0.Open x63).Value)), (.bool ((rd a0.Open x63).Flag)), (.int .i64 ((rd a0.Open x63).Parts)), (.int .i64 ((rd a0.Open x63).Replicas)), (.int .i64 ((rd a0.Open x63).Part)), vw72_10, (.int .i64 ((rd a0.Open x63).Broker)), (.int .i64 ((rd a0.Open x63).Epoch)), (.string ((rd a0.Open x63).Rack)), (.int .i64 (((rd a0.Open x63).Word).Broker)), (.int .i64 (((rd a0.Open x63).Word).Epoch)), (.int .i64 (((rd a0.Open x63).Word).High)), (.bool (((rd a0.Open x63).Word).Fence)), (.bool (((rd a0.Open x63).Word).Leave))]) ag29 sz29 rfl hhas71) rfl ?_
 refine WL.eff (EO.alloc ze29 rfl) rfl ?_
 rintro _ _ _ - ⟨rfl, g73, rfl, rfl⟩
 refine WL.eff (EO.storeL (v := (.agg #[(.int .i64 ((rd a0.Open x63).Client)), (.int .i64 ((rd a0.Open x63).Serial)), (.int .i64 ((rd a0.Open x63).Kind)), (.string ((rd a0.Open x63).Name)), (.string ((rd a0.Open x63).Key)), (.string ((rd a0.Open x63).Value)), (.bool ((rd a0.Open x63).Flag)), (.int .i64 ((rd a0.Open x63).Parts)), (.int .i64 ((rd a0.Open x63).Replicas)), (.int .i64 ((rd a0.Open x63).Part)), vw72_10, (.int .i64 ((rd a0.Open x63).Broker)), (.int .i64 ((rd a0.Open x63).Epoch)), (.string ((rd a0.Open x63).Rack)), (.int .i64 (((rd a0.Open x63).Word).Broker)), (.int .i64 (((rd a0.Open x63).Word).Epoch)), (.int .i64 (((rd a0.Open x63).Word).High)), (.bool (((rd a0.Open x63).Word).Fence)), (.bool (((rd a0.Open x63).Word).Leave))])) (vl := [(.int .i64 ((rd a0.Open x63).Client)), (.int .i64 ((rd a0.Open x63).Serial)), (.int .i64 ((rd a0.Open x63).Kind)), (.string ((rd a0.Open x63).Name)), (.string ((rd a0.Open x63).Key)), (.string ((rd a0.Open x63).Value)), (.bool ((rd a0.Open x63).Flag)), (.int .i64 ((rd a0.Open x63).Parts)), (.int .i64 ((rd a0.Open x63).Replicas)), (.int .i64 ((rd a0.Open x63).Part)), vw72_10, (.int .i64 ((rd a0.Open x63).Broker)), (.int .i64 ((rd a0.Open x63).Epoch)), (.string ((rd a0.Open x63).Rack)), (.int .i64 (((rd a0.Open x63).Word).Broker)), (.int .i64 (((rd a0.Open x63).Word).Epoch)), (.int .i64 (((rd a0.Open x63).Word).High)), (.bool (((rd a0.Open x63).Word).Fence)), (.bool (((rd a0.Open x63).Word).Leave))]) (arr' := [(.int .i64 ((rd a0.Open x63).Client)), (.int .i64 ((rd a0.Open x63).Serial)), (.int .i64 ((rd a0.Open x63).Kind)), (.string ((rd a0.Open x63).Name)), (.string ((rd a0.Open x63).Key)), (.string ((rd a0.Open x63).Value)), (.bool ((rd a0.Open x63).Flag)), (.int .i64 ((rd a0.Open x63).Parts)), (.int .i64 ((rd a0.Open x63).Replicas)), (.int .i64 ((rd a0.Open x63).Part)), vw72_10, (.int .i64 ((rd a0.Open x63).Broker)), (.int .i64 ((rd a0.Open x63).Epoch)), (.string ((rd a0.Open x63).Rack)), (.int .i64 (((rd a0.Open x63).Word).Broker)), (.int .i64 (((rd a0.Open x63).Word).Epoch)), (.int .i64 (((rd a0.Open x63).Word).High)), (.bool (((rd a0.Open x63).Word).Fence)), (.bool (((rd a0.Open x63).Word).Leave))]) rfl sz29 rfl rfl (onesOf (Ones.cons rfl (Ones.cons rfl (Ones.cons rfl (Ones.cons rfl (Ones.cons rfl (Ones.cons rfl (Ones.cons rfl (Ones.cons rfl (Ones.cons rfl (Ones.cons rfl (Ones.cons (RS.one hw72_10) (Ones.cons rfl (Ones.cons rfl (Ones.cons rfl (Ones.cons rfl (Ones.cons rfl (Ones.cons rfl (Ones.cons rfl (Ones.cons rfl Ones.nil)))))))))))))))))))) rfl rfl (by kernel_rfl)) rfl ?_
 rintro _ _ _ - ⟨rfl, rfl⟩
 refine Nt ?_
 refine WC.seq ?_
 refine Sr ?_
 refine Pu (.agg #[(.int .i64 ((rd a0.Open x63).Client)), (.int .i64 ((rd a0.Open x63).Serial)), (.int .i64 ((rd a0.Open x63).Kind)), (.string ((rd a0.Open x63).Name)), (.string ((rd a0.Open x63).Key)), (.string ((rd a0.Open x63).Value)), (.bool ((rd a0.Open x63).Flag)), (.int .i64 ((rd a0.Open x63).Parts)), (.int .i64 ((rd a0.Open x63).Replicas)), (.int .i64 ((rd a0.Open x63).Part)), vw72_10, (.int .i64 ((rd a0.Open x63).Broker)), (.int .i64 ((rd a0.Open x63).Epoch)), (.string ((rd a0.Open x63).Rack)), (.int .i64 (((rd a0.Open x63).Word).Broker)), (.int .i64 (((rd a0.Open x63).Word).Epoch)), (.int .i64 (((rd a0.Open x63).Word).High)), (.bool (((rd a0.Open x63).Word).Fence)), (.bool (((rd a0.Open x63).Word).Leave))]) (PO.loadBA (cs := [(.int .i64 ((rd a0.Open x63).Client)), (.int .i64 ((rd a0.Open x63).Serial)), (.int .i64 ((rd a0.Open x63).Kind)), (.string ((rd a0.Open x63).Name)), (.string ((rd a0.Open x63).Key)), (.string ((rd a0.Open x63).Value)), (.bool ((rd a0.Open x63).Flag)), (.int .i64 ((rd a0.Open x63).Parts)), (.int .i64 ((rd a0.Open x63).Replicas)), (.int .i64 ((rd a0.Open x63).Part)), vw72_10, (.int .i64 ((rd a0.Open x63).Broker)), (.int .i64 ((rd a0.Open x63).Epoch)), (.string ((rd a0.Open x63).Rack)), (.int .i64 (((rd a0.Open x63).Word).Broker)), (.int .i64 (((rd a0.Open x63).Word).Epoch)), (.int .i64 (((rd a0.Open x63).Word).High)), (.bool (((rd a0.Open x63).Word).Fence)), (.bool (((rd a0.Open x63).Word).Leave))]) 0 ag29 sz29 rfl rfl rfl) rfl ?_
 obtain ⟨r74, hr75, h⟩ := bnd h
 refine WL.eff (EO.call0 co22 (f_ask_Check_ok (⟨(rd a0.Open x63).Client, (rd a0.Open x63).Serial, (rd a0.Open x63).Kind, (rd a0.Open x63).Name, (rd a0.Open x63).Key, (rd a0.Open x63).Value, (rd a0.Open x63).Flag, (rd a0.Open x63).Parts, (rd a0.Open x63).Replicas, (rd a0.Open x63).Part, (rd a0.Open x63).Ids, (rd a0.Open x63).Broker, (rd a0.Open x63).Epoch, (rd a0.Open x63).Rack, ((rd a0.Open x63).Word)⟩ : T_api_Request) _ _ hw72_10 r74 hr75) (args1 rfl)) rfl ?_
 rintro _ M76 _ hle77 ⟨_, ⟨rfl, rfl⟩, rfl⟩
 have h0_4 := h0_4.mono hle77
 have hw72_10 := hw72_10.mono hle77
 have hq27_4 := hq27_4.mono hle77
 refine WL.a0 ?_
 refine Pa (GV r74) rfl rfl ?_
 refine Ns ?_
 refine Pm (GV r74) rfl rfl ?_
 refine Pu (.bool (!r74.isNil)) (PO.errNotNil Try.underlying40 rfl) rfl ?_
 refine Nt ?_
 refine WC.cond (b := !r74.isNil) rfl (fun hb79 => ?_) (fun hb79 => ?_)
 have h := ite_t hb79 h
 refine Sr ?_
 refine Pm (GV r74) rfl rfl ?_
 refine Pa (GV r74) rfl rfl ?_
 refine Nt ?_
 refine WC.ret ?_
 refine WQ.thenR ?_
 refine WQ.blockR ?_
 refine WQ.thenR ?_
 refine WQ.leaveR (Sum.inr r74) (Option.some.inj h).symm (fun heq62 => ?_)
 subst heq62
 have h := (elimR hK62)
 refine WQ.blockR ?_
 refine WQ.thenR ?_
 have h := KK.early h h361
 refine WQ.drop ?_
 refine WQ.drop ?_
 refine WQ.drop ?_
 refine WQ.drop ?_
 exact WQ.returnsF h [] rfl (results1 rfl rfl) (((((hle26.trans hle32).trans hle41).trans hle50).trans hle62).trans hle77) ⟨rfl, rfl⟩
 have h := ite_f hb79 h
 refine WC.skip ?_
 refine WQ.thenC ?_
 obtain ⟨x80, hj81, h⟩ := bnd h
 refine WC.joinF (fun (x80 : Bool) ρ' M' H' => M76.le M' ∧ [(g73, .cells #[(.int .i64 ((rd a0.Open x63).Client)), (.int .i64 ((rd a0.Open x63).Serial)), (.int .i64 ((rd a0.Open x63).Kind)), (.string ((rd a0.Open x63).Name)), (.string ((rd a0.Open x63).Key)), (.string ((rd a0.Open x63).Value)), (.bool ((rd a0.Open x63).Flag)), (.int .i64 ((rd a0.Open x63).Parts)), (.int .i64 ((rd a0.Open x63).Replicas)), (.int .i64 ((rd a0.Open x63).Part)), vw72_10, (.int .i64 ((rd a0.Open x63).Broker)), (.int .i64 ((rd a0.Open x63).Epoch)), (.string ((rd a0.Open x63).Rack)), (.int .i64 (((rd a0.Open x63).Word).Broker)), (.int .i64 (((rd a0.Open x63).Word).Epoch)), (.int .i64 (((rd a0.Open x63).Word).High)), (.bool (((rd a0.Open x63).Word).Fence)), (.bool (((rd a0.Open x63).Word).Leave))] 29 (0, 0))] :: [(g29, .cells #[(.int .i64 r22.Id), (.int .i64 r22.Serial), (.int .i64 r22.Voters), (.int .i64 r22.Node), vq27_4, (.int .i64 r22.Tries)] 24 (0, 0))] :: [(g21, .cells #[(.int .i64 a0.Id), (.int .i64 a0.Serial), (.int .i64 a0.Voters), (.int .i64 a0.Node), v0_4, (.int .i64 a0.Tries)] 24 (0, 0))] :: cq27_4 :: F = H' ∧ ρ' 1 = (.pointer (some ⟨g21, 0, none⟩)) ∧ ρ' 6 = (.pointer (some ⟨g73, 0, none⟩)) ∧ ρ' 76 = v0_4 ∧ ρ' 77 = (.int .i64 (a0.Open.length : Int)) ∧ ρ' 78 = (.int .i64 x63) ∧ ρ' 98 = (.bool x80)) x80 ?_ ?_
 have h381 := h
 have h := hj81
 refine WC.region ?_
 refine Pu (.pointer (some ⟨g73, 0, none⟩)) (PO.fieldAddr fo29_0 rfl rfl) rfl ?_
 refine Pu (.int .i64 ((rd a0.Open x63).Client)) (PO.loadB 0 pl3 rfl rfl rfl) rfl ?_
 refine Pu (.pointer (some ⟨g21, 0, none⟩)) (PO.fieldAddr fo24_0 hs62_1 rfl) rfl ?_
 refine Pu (.int .i64 a0.Id) (PO.loadB 2 pl3 rfl rfl rfl) rfl ?_
 refine Pu (.bool (decide (((rd a0.Open x63).Client) ≠ a0.Id))) (PO.neq rfl rfl) rfl ?_
 refine Pm (.bool (decide (((rd a0.Open x63).Client) ≠ a0.Id))) rfl rfl ?_
 rcases Bool.eq_false_or_eq_true (decide (((rd a0.Open x63).Client) ≠ a0.Id)) with hb82 | hb82
 have h := ite_t hb82 h
 iterate 5 refine Of 92 rfl rfl hb82 rfl ?_
 refine Pu (.bool true) (PO.pickT rfl hb82 rfl) rfl ?_
 refine WL.nil ?_
 obtain rfl := Option.some.inj h
 refine WQ.thenJ ?_
 exact ⟨(IM.le.refl _), rfl, hs62_1, rfl, hs62_76, hs62_77, hs62_78, rfl⟩
 have h := ite_f hb82 h
 refine On 92 rfl rfl hb82 ?_
 refine Pu (.pointer (some ⟨g73, 1, none⟩)) (PO.fieldAddr fo29_1 rfl rfl) rfl ?_
 refine On 92 rfl rfl hb82 ?_
 refine Pu (.int .i64 ((rd a0.Open x63).Serial)) (PO.loadB 0 pl3 rfl rfl rfl) rfl ?_
 refine On 92 rfl rfl hb82 ?_
 refine Pu (.pointer (some ⟨g21, 1, none⟩)) (PO.fieldAddr fo24_1 hs62_1 rfl) rfl ?_
 refine On 92 rfl rfl hb82 ?_
 refine Pu (.int .i64 a0.Serial) (PO.loadB 2 pl3 rfl rfl rfl) rfl ?_
 refine On 92 rfl rfl hb82 ?_
 refine Pu (.bool (decide (((rd a0.Open x63).Serial) ≠ a0.Serial))) (PO.neq rfl rfl) rfl ?_
 refine Pu (.bool (decide (((rd a0.Open x63).Serial) ≠ a0.Serial))) (PO.pickF rfl hb82 rfl) rfl ?_
 refine WL.nil ?_
 obtain rfl := Option.some.inj h
 refine WQ.thenJ ?_
 exact ⟨(IM.le.refl _), rfl, hs62_1, rfl, hs62_76, hs62_77, hs62_78, rfl⟩
 rintro ρ81 M81 H81 ⟨hle81, rfl, hs81_1, hs81_6, hs81_76, hs81_77, hs81_78, hs81_98⟩
 have h0_4 := h0_4.mono hle81
 have hw72_10 := hw72_10.mono hle81
 have hq27_4 := hq27_4.mono hle81
 refine WC.cond (b := x80) hs81_98 (fun hb83 => ?_) (fun hb83 => ?_)
 have h := ite_t hb83 h
 refine Sr ?_
 refine Pu (.pointer (some ⟨g73, 1, none⟩)) (PO.fieldAddr fo29_1 hs81_6 rfl) rfl ?_
 refine Pu (.int .i64 ((rd a0.Open x63).Serial)) (PO.loadB 0 pl3 rfl rfl rfl) rfl ?_
 obtain ⟨r84, hr85, h⟩ := bnd h
 refine WL.eff (EO.call0 co20 (f_fault_New_ok (⟨#[111, 112, 101, 110]⟩ : ByteArray) ((rd a0.Open x63).Serial) (10 : Int) _ r84 hr85) (args3 rfl rfl rfl)) rfl ?_
 rintro _ M86 _ hle87 ⟨_, ⟨rfl, rfl⟩, rfl⟩
 have h0_4 := h0_4.mono hle87
 have hw72_10 := hw72_10.mono hle87
 have hq27_4 := hq27_4.mono hle87
 refine WL.a0 ?_
 refine Pa (GV r84) rfl rfl ?_
 refine Nt ?_
 refine WC.ret ?_
 refine WQ.blockR ?_
 refine WQ.thenR ?_
 refine WQ.leaveR (Sum.inr r84) (Option.some.inj h).symm (fun heq62 => ?_)
 subst heq62
 have h := (elimR hK62)
 refine WQ.blockR ?_
 refine WQ.thenR ?_
 have h := KK.early h h361
 refine WQ.drop ?_
 refine WQ.drop ?_
 refine WQ.drop ?_
 refine WQ.drop ?_
 exact WQ.returnsF h [] rfl (results1 rfl rfl) (((((((hle26.trans hle32).trans hle41).trans hle50).trans hle62).trans hle77).trans hle81).trans hle87) ⟨rfl, rfl⟩
 have h := ite_f hb83 h
 refine WC.skip ?_
 refine WQ.blockN ?_
 refine WQ.thenC ?_
 refine WC.region ?_
 refine Pu (.int .i64 (IntKind.i64.wrap (x63 + (1 : Int)))) (PO.add hs81_78 rfl) rfl ?_
 refine Pm (.int .i64 (IntKind.i64.wrap (x63 + (1 : Int)))) rfl rfl ?_
 refine WL.nil ?_
 refine WQ.drop ?_
 refine WQ.again (IntKind.i64.wrap (x63 + (1 : Int))) (Option.some.inj h).symm ?_
 exact ⟨((hle62.trans hle77).trans hle81), rfl, hs81_1, hs81_76, hs81_77, rfl⟩
 have h := ite_f hb65 h
 refine WC.exit ?_
 refine WQ.thenE ?_
 refine WQ.leaveE (Sum.inl ()) (Option.some.inj h).symm (fun heq62 => ?_)
 subst heq62
 have h := elimL hK62
 refine WQ.blockH ?_
 refine WQ.thenFE h ?_
 exact ⟨hle62, rfl⟩
 rintro _ ρ61 M61 H61 rfl ⟨hle61, rfl⟩
 have hq27_4 := hq27_4.mono hle61
 have h0_4 := h0_4.mono hle61
 refine Sr ?_
 refine Pa (GV GErr.nil) rfl rfl ?_
 refine Nt ?_
 refine WC.ret ?_
 refine WQ.drop ?_
 refine WQ.drop ?_
 refine WQ.drop ?_
 exact WQ.returnsF h [] rfl (results1 rfl rfl) ((((hle26.trans hle32).trans hle41).trans hle50).trans hle61) ⟨rfl, rfl⟩

noncomputable def f_ask_Same_1 (a0 : T_api_Request) : Option (List Int) :=
  (some [a0.Client, a0.Serial, a0.Kind, a0.Parts, a0.Replicas, a0.Part, a0.Broker, a0.Epoch])
def f_ask_Same_1_post (a0 : T_api_Request) (v0_10 : Value) : (List Int) → Value → IM → HL → Prop :=
  fun (r0 : (List Int)) (v : Value) (M' : IM) (H' : HL) => (.agg #[(.int .i64 (rd r0 (0 : Int))), (.int .i64 (rd r0 (1 : Int))), (.int .i64 (rd r0 (2 : Int))), (.int .i64 (rd r0 (3 : Int))), (.int .i64 (rd r0 (4 : Int))), (.int .i64 (rd r0 (5 : Int))), (.int .i64 (rd r0 (6 : Int))), (.int .i64 (rd r0 (7 : Int)))]) = v ∧ H' = []
set_option maxHeartbeats 8000000 in
set_option maxRecDepth 100000 in
theorem f_ask_Same_1_ok (a0 : T_api_Request) (M : IM) (v0_10 : Value) (h0_10 : RS (Kd.int .i64) M v0_10 a0.Ids) (res : (List Int)) (h : f_ask_Same_1 a0 = some res) :
    Tri Try.prog 41 #[(.agg #[(.int .i64 a0.Client), (.int .i64 a0.Serial), (.int .i64 a0.Kind), (.string a0.Name), (.string a0.Key), (.string a0.Value), (.bool a0.Flag), (.int .i64 a0.Parts), (.int .i64 a0.Replicas), (.int .i64 a0.Part), v0_10, (.int .i64 a0.Broker), (.int .i64 a0.Epoch), (.string a0.Rack), (.int .i64 a0.Word.Broker), (.int .i64 a0.Word.Epoch), (.int .i64 a0.Word.High), (.bool a0.Word.Fence), (.bool a0.Word.Leave)])] M [] (f_ask_Same_1_post a0 v0_10 res) := by
 unfold f_ask_Same_1 at h
 refine Tri.enter (fn := Try.f41) Try.func41 rfl (Nat.le_of_ble_eq_true rfl) ?_
 intro F ρ hρ
 refine Sr ?_
 refine WL.eff (EO.box (cs := #[(.int .i64 a0.Client), (.int .i64 a0.Serial), (.int .i64 a0.Kind), (.string a0.Name), (.string a0.Key), (.string a0.Value), (.bool a0.Flag), (.int .i64 a0.Parts), (.int .i64 a0.Replicas), (.int .i64 a0.Part), v0_10, (.int .i64 a0.Broker), (.int .i64 a0.Epoch), (.string a0.Rack), (.int .i64 a0.Word.Broker), (.int .i64 a0.Word.Epoch), (.int .i64 a0.Word.High), (.bool a0.Word.Fence), (.bool a0.Word.Leave)]) (congrArg Value.cells (asE (.agg #[(.int .i64 a0.Client), (.int .i64 a0.Serial), (.int .i64 a0.Kind), (.string a0.Name), (.string a0.Key), (.string a0.Value), (.bool a0.Flag), (.int .i64 a0.Parts), (.int .i64 a0.Replicas), (.int .i64 a0.Part), v0_10, (.int .i64 a0.Broker), (.int .i64 a0.Epoch), (.string a0.Rack), (.int .i64 a0.Word.Broker), (.int .i64 a0.Word.Epoch), (.int .i64 a0.Word.High), (.bool a0.Word.Fence), (.bool a0.Word.Leave)]) (hρ 0)))) rfl ?_
 rintro _ _ _ - ⟨rfl, g21, rfl, rfl⟩
 refine WL.eff (EO.alloc ze52 rfl) rfl ?_
 rintro _ _ _ - ⟨rfl, g22, rfl, rfl⟩
 refine Ns ?_
 refine Pu (.pointer (some ⟨g21, 0, none⟩)) (PO.fieldAddr fo29_0 rfl rfl) rfl ?_
 refine Pu (.int .i64 a0.Client) (PO.loadB 1 pl3 rfl rfl rfl) rfl ?_
 refine Pu (.pointer (some ⟨g21, 1, none⟩)) (PO.fieldAddr fo29_1 rfl rfl) rfl ?_
 refine Pu (.int .i64 a0.Serial) (PO.loadB 1 pl3 rfl rfl rfl) rfl ?_
 refine Pu (.pointer (some ⟨g21, 2, none⟩)) (PO.fieldAddr fo29_2 rfl rfl) rfl ?_
 refine Pu (.int .i64 a0.Kind) (PO.loadB 1 pl3 rfl rfl rfl) rfl ?_
 refine Pu (.pointer (some ⟨g21, 7, none⟩)) (PO.fieldAddr fo29_7 rfl rfl) rfl ?_
 refine Pu (.int .i64 a0.Parts) (PO.loadB 1 pl3 rfl rfl rfl) rfl ?_
 refine Pu (.pointer (some ⟨g21, 8, none⟩)) (PO.fieldAddr fo29_8 rfl rfl) rfl ?_
 refine Pu (.int .i64 a0.Replicas) (PO.loadB 1 pl3 rfl rfl rfl) rfl ?_
 refine Pu (.pointer (some ⟨g21, 9, none⟩)) (PO.fieldAddr fo29_9 rfl rfl) rfl ?_
 refine Pu (.int .i64 a0.Part) (PO.loadB 1 pl3 rfl rfl rfl) rfl ?_
 refine Pu (.pointer (some ⟨g21, 11, none⟩)) (PO.fieldAddr fo29_11 rfl rfl) rfl ?_
 refine Pu (.int .i64 a0.Broker) (PO.loadB 1 pl3 rfl rfl rfl) rfl ?_
 refine Pu (.pointer (some ⟨g21, 12, none⟩)) (PO.fieldAddr fo29_12 rfl rfl) rfl ?_
 refine Pu (.int .i64 a0.Epoch) (PO.loadB 1 pl3 rfl rfl rfl) rfl ?_
 refine Pu (.agg #[(.int .i64 a0.Client), (.int .i64 a0.Serial), (.int .i64 a0.Kind), (.int .i64 a0.Parts), (.int .i64 a0.Replicas), (.int .i64 a0.Part), (.int .i64 a0.Broker), (.int .i64 a0.Epoch)]) (PO.buildAL (cl := [(.int .i64 a0.Client), (.int .i64 a0.Serial), (.int .i64 a0.Kind), (.int .i64 a0.Parts), (.int .i64 a0.Replicas), (.int .i64 a0.Part), (.int .i64 a0.Broker), (.int .i64 a0.Epoch)]) ze52 Try.underlying52 sz3 (Parts.cons (congrArg Value.cells (show ev _ _ = (.int .i64 a0.Client) from rfl)) (Parts.cons (congrArg Value.cells (show ev _ _ = (.int .i64 a0.Serial) from rfl)) (Parts.cons (congrArg Value.cells (show ev _ _ = (.int .i64 a0.Kind) from rfl)) (Parts.cons (congrArg Value.cells (show ev _ _ = (.int .i64 a0.Parts) from rfl)) (Parts.cons (congrArg Value.cells (show ev _ _ = (.int .i64 a0.Replicas) from rfl)) (Parts.cons (congrArg Value.cells (show ev _ _ = (.int .i64 a0.Part) from rfl)) (Parts.cons (congrArg Value.cells (show ev _ _ = (.int .i64 a0.Broker) from rfl)) (Parts.cons (congrArg Value.cells (show ev _ _ = (.int .i64 a0.Epoch) from rfl)) Parts.nil)))))))) rfl) rfl ?_
 refine WL.eff (EO.storeL (v := (.agg #[(.int .i64 a0.Client), (.int .i64 a0.Serial), (.int .i64 a0.Kind), (.int .i64 a0.Parts), (.int .i64 a0.Replicas), (.int .i64 a0.Part), (.int .i64 a0.Broker), (.int .i64 a0.Epoch)])) (vl := [(.int .i64 a0.Client), (.int .i64 a0.Serial), (.int .i64 a0.Kind), (.int .i64 a0.Parts), (.int .i64 a0.Replicas), (.int .i64 a0.Part), (.int .i64 a0.Broker), (.int .i64 a0.Epoch)]) (arr' := [(.int .i64 a0.Client), (.int .i64 a0.Serial), (.int .i64 a0.Kind), (.int .i64 a0.Parts), (.int .i64 a0.Replicas), (.int .i64 a0.Part), (.int .i64 a0.Broker), (.int .i64 a0.Epoch)]) rfl sz52 rfl rfl (onesOf (Ones.cons rfl (Ones.cons rfl (Ones.cons rfl (Ones.cons rfl (Ones.cons rfl (Ones.cons rfl (Ones.cons rfl (Ones.cons rfl Ones.nil))))))))) rfl rfl (by kernel_rfl)) rfl ?_
 rintro _ _ _ - ⟨rfl, rfl⟩
 refine Nt ?_
 refine WC.ret ?_
 refine WQ.f1 ?_
 refine WQ.drop ?_
 exact WQ.returnsD h [] (fun _ hs => hs.drop) (resultsL1 rfl (RV.cellA (cs := [(.int .i64 a0.Client), (.int .i64 a0.Serial), (.int .i64 a0.Kind), (.int .i64 a0.Parts), (.int .i64 a0.Replicas), (.int .i64 a0.Part), (.int .i64 a0.Broker), (.int .i64 a0.Epoch)]) 0 ag52 sz52 rfl rfl rfl)) (IM.le.refl _) ⟨rfl, rfl⟩

noncomputable def f_ask_Same_2 (a0 : T_api_Request) : Option (List ByteArray) :=
  (some [a0.Name, a0.Key, a0.Value, a0.Rack])
def f_ask_Same_2_post (a0 : T_api_Request) (v0_10 : Value) : (List ByteArray) → Value → IM → HL → Prop :=
  fun (r0 : (List ByteArray)) (v : Value) (M' : IM) (H' : HL) => (.agg #[(.string (rd r0 (0 : Int))), (.string (rd r0 (1 : Int))), (.string (rd r0 (2 : Int))), (.string (rd r0 (3 : Int)))]) = v ∧ H' = []
set_option maxHeartbeats 8000000 in
set_option maxRecDepth 100000 in
theorem f_ask_Same_2_ok (a0 : T_api_Request) (M : IM) (v0_10 : Value) (h0_10 : RS (Kd.int .i64) M v0_10 a0.Ids) (res : (List ByteArray)) (h : f_ask_Same_2 a0 = some res) :
    Tri Try.prog 42 #[(.agg #[(.int .i64 a0.Client), (.int .i64 a0.Serial), (.int .i64 a0.Kind), (.string a0.Name), (.string a0.Key), (.string a0.Value), (.bool a0.Flag), (.int .i64 a0.Parts), (.int .i64 a0.Replicas), (.int .i64 a0.Part), v0_10, (.int .i64 a0.Broker), (.int .i64 a0.Epoch), (.string a0.Rack), (.int .i64 a0.Word.Broker), (.int .i64 a0.Word.Epoch), (.int .i64 a0.Word.High), (.bool a0.Word.Fence), (.bool a0.Word.Leave)])] M [] (f_ask_Same_2_post a0 v0_10 res) := by
 unfold f_ask_Same_2 at h
 refine Tri.enter (fn := Try.f42) Try.func42 rfl (Nat.le_of_ble_eq_true rfl) ?_
 intro F ρ hρ
 refine Sr ?_
 refine WL.eff (EO.box (cs := #[(.int .i64 a0.Client), (.int .i64 a0.Serial), (.int .i64 a0.Kind), (.string a0.Name), (.string a0.Key), (.string a0.Value), (.bool a0.Flag), (.int .i64 a0.Parts), (.int .i64 a0.Replicas), (.int .i64 a0.Part), v0_10, (.int .i64 a0.Broker), (.int .i64 a0.Epoch), (.string a0.Rack), (.int .i64 a0.Word.Broker), (.int .i64 a0.Word.Epoch), (.int .i64 a0.Word.High), (.bool a0.Word.Fence), (.bool a0.Word.Leave)]) (congrArg Value.cells (asE (.agg #[(.int .i64 a0.Client), (.int .i64 a0.Serial), (.int .i64 a0.Kind), (.string a0.Name), (.string a0.Key), (.string a0.Value), (.bool a0.Flag), (.int .i64 a0.Parts), (.int .i64 a0.Replicas), (.int .i64 a0.Part), v0_10, (.int .i64 a0.Broker), (.int .i64 a0.Epoch), (.string a0.Rack), (.int .i64 a0.Word.Broker), (.int .i64 a0.Word.Epoch), (.int .i64 a0.Word.High), (.bool a0.Word.Fence), (.bool a0.Word.Leave)]) (hρ 0)))) rfl ?_
 rintro _ _ _ - ⟨rfl, g21, rfl, rfl⟩
 refine WL.eff (EO.alloc ze84 rfl) rfl ?_
 rintro _ _ _ - ⟨rfl, g22, rfl, rfl⟩
 refine Ns ?_
 refine Pu (.pointer (some ⟨g21, 3, none⟩)) (PO.fieldAddr fo29_3 rfl rfl) rfl ?_
 refine Pu (.string a0.Name) (PO.loadB 1 pl9 rfl rfl rfl) rfl ?_
 refine Pu (.pointer (some ⟨g21, 4, none⟩)) (PO.fieldAddr fo29_4 rfl rfl) rfl ?_
 refine Pu (.string a0.Key) (PO.loadB 1 pl9 rfl rfl rfl) rfl ?_
 refine Pu (.pointer (some ⟨g21, 5, none⟩)) (PO.fieldAddr fo29_5 rfl rfl) rfl ?_
 refine Pu (.string a0.Value) (PO.loadB 1 pl9 rfl rfl rfl) rfl ?_
 refine Pu (.pointer (some ⟨g21, 13, none⟩)) (PO.fieldAddr fo29_13 rfl rfl) rfl ?_
 refine Pu (.string a0.Rack) (PO.loadB 1 pl9 rfl rfl rfl) rfl ?_
 refine Pu (.agg #[(.string a0.Name), (.string a0.Key), (.string a0.Value), (.string a0.Rack)]) (PO.buildAL (cl := [(.string a0.Name), (.string a0.Key), (.string a0.Value), (.string a0.Rack)]) ze84 Try.underlying84 sz9 (Parts.cons (congrArg Value.cells (show ev _ _ = (.string a0.Name) from rfl)) (Parts.cons (congrArg Value.cells (show ev _ _ = (.string a0.Key) from rfl)) (Parts.cons (congrArg Value.cells (show ev _ _ = (.string a0.Value) from rfl)) (Parts.cons (congrArg Value.cells (show ev _ _ = (.string a0.Rack) from rfl)) Parts.nil)))) rfl) rfl ?_
 refine WL.eff (EO.storeL (v := (.agg #[(.string a0.Name), (.string a0.Key), (.string a0.Value), (.string a0.Rack)])) (vl := [(.string a0.Name), (.string a0.Key), (.string a0.Value), (.string a0.Rack)]) (arr' := [(.string a0.Name), (.string a0.Key), (.string a0.Value), (.string a0.Rack)]) rfl sz84 rfl rfl (onesOf (Ones.cons rfl (Ones.cons rfl (Ones.cons rfl (Ones.cons rfl Ones.nil))))) rfl rfl rfl) rfl ?_
 rintro _ _ _ - ⟨rfl, rfl⟩
 refine Nt ?_
 refine WC.ret ?_
 refine WQ.f1 ?_
 refine WQ.drop ?_
 exact WQ.returnsD h [] (fun _ hs => hs.drop) (resultsL1 rfl (RV.cellA (cs := [(.string a0.Name), (.string a0.Key), (.string a0.Value), (.string a0.Rack)]) 0 ag84 sz84 rfl rfl rfl)) (IM.le.refl _) ⟨rfl, rfl⟩

noncomputable def f_slices_Equal_int_int_l0 (a0 : (List Int)) (a1 : (List Int)) (s_ : Int) : Option (Int ⊕ (Unit ⊕ Unit)) :=
  match s_ with
  | x24 =>
    (if (decide (x24 < (a0.length : Int))) = true then (grd (0 ≤ x24 ∧ x24 < a0.length) (grd (0 ≤ x24 ∧ x24 < a1.length) (if (decide ((rd a0 x24) ≠ (rd a1 x24))) = true then (some (Sum.inr (Sum.inr ()))) else (some (Sum.inl (IntKind.i64.wrap (x24 + (1 : Int)))))))) else (some (Sum.inr (Sum.inl ()))))
noncomputable def f_slices_Equal_int_int (a0 : (List Int)) (a1 : (List Int)) : Option Bool :=
  (if (decide ((a0.length : Int) ≠ (a1.length : Int))) = true then (some false) else ((((iter (f_slices_Equal_int_int_l0 a0 a1) (0 : Int)).bind (Sum.elim (fun _ => (some (Sum.inl ()))) (fun _ => (((some false)).bind fun r => some (Sum.inr r))))) : Option (Unit ⊕ Bool)).bind (Sum.elim (fun _ => (some true)) some)))
def f_slices_Equal_int_int_post (a0 : (List Int)) (a1 : (List Int)) (v0 v1 : Value) : Bool → Value → IM → HL → Prop :=
  fun (r0 : Bool) (v : Value) (M' : IM) (H' : HL) => (.bool r0) = v ∧ H' = []
set_option maxHeartbeats 8000000 in
set_option maxRecDepth 100000 in
theorem f_slices_Equal_int_int_ok (a0 : (List Int)) (a1 : (List Int)) (M : IM) (v0 v1 : Value) (h0 : RS (Kd.int .i64) M v0 a0) (h1 : RS (Kd.int .i64) M v1 a1) (res : Bool) (h : f_slices_Equal_int_int a0 a1 = some res) :
    Tri Try.prog 43 #[v0, v1] M [] (f_slices_Equal_int_int_post a0 a1 v0 v1 res) := by
 unfold f_slices_Equal_int_int at h
 refine Tri.enter (fn := Try.f43) Try.func43 rfl (Nat.le_of_ble_eq_true rfl) ?_
 intro F ρ hρ
 refine Sr ?_
 refine Pa (.bool false) rfl rfl ?_
 refine Nt ?_
 refine WC.seq ?_
 refine Sr ?_
 refine Pm v0 (hρ 0) rfl ?_
 refine Pu (.int .i64 (a0.length : Int)) (PO.lenS Try.underlying25 rfl h0.len) rfl ?_
 refine Pm v1 (hρ 1) rfl ?_
 refine Pu (.int .i64 (a1.length : Int)) (PO.lenS Try.underlying25 rfl h1.len) rfl ?_
 refine Pu (.bool (decide ((a0.length : Int) ≠ (a1.length : Int)))) (PO.neq rfl rfl) rfl ?_
 refine Nt ?_
 refine WC.cond (b := decide ((a0.length : Int) ≠ (a1.length : Int))) rfl (fun hb21 => ?_) (fun hb21 => ?_)
 have h := ite_t hb21 h
 refine Sr ?_
 refine Pa (.bool false) rfl rfl ?_
 refine Nt ?_
 refine WC.ret ?_
 refine WQ.thenR ?_
 exact WQ.returnsF h [] rfl (results1 rfl rfl) (IM.le.refl _) ⟨rfl, rfl⟩
 have h := ite_f hb21 h
 refine WC.skip ?_
 refine WQ.thenC ?_
 obtain ⟨j22, hj22, h⟩ := bnd h
 refine WC.joinE (fun (_ : Unit) ρ' M' H' => M.le M' ∧ F = H') j22 ?_ ?_
 have h322 := h
 have h := hj22
 refine Sr ?_
 refine Pm v0 (hρ 0) rfl ?_
 refine Pu (.int .i64 (a0.length : Int)) (PO.lenS Try.underlying25 rfl h0.len) rfl ?_
 refine Pm (.int .i64 (0 : Int)) rfl rfl ?_
 refine Nt ?_
 refine WC.block ?_
 obtain ⟨e23, he23, hK23⟩ := bnd h
 clear h
 refine WC.loop he23 (fun (x24 : Int) ρ' M' H' => M.le M' ∧ F = H' ∧ ρ' 0 = v0 ∧ ρ' 1 = v1 ∧ ρ' 12 = (.int .i64 (a0.length : Int)) ∧ ρ' 13 = (.int .i64 x24)) ?_ ?_
 exact ⟨(IM.le.refl _), rfl, (hρ 0), (hρ 1), rfl, rfl⟩
 rintro x24 o23 ρ23 M23 H23 h ⟨hle23, rfl, hs23_0, hs23_1, hs23_12, hs23_13⟩
 unfold f_slices_Equal_int_int_l0 at h
 have h0 := h0.mono hle23
 have h1 := h1.mono hle23
 refine Sr ?_
 refine Pu (.bool (decide (x24 < (a0.length : Int)))) (PO.lss hs23_13 hs23_12) rfl ?_
 refine Nt ?_
 refine WC.seq ?_
 refine WC.cond (b := decide (x24 < (a0.length : Int))) rfl (fun hb25 => ?_) (fun hb25 => ?_)
 have h := ite_t hb25 h
 refine WC.skip ?_
 refine WQ.thenC ?_
 refine WC.seq ?_
 refine WC.block ?_
 refine Sr ?_
 refine Pm (.int .i64 x24) hs23_13 rfl ?_
 refine Pa (.int .i64 x24) rfl rfl ?_
 refine Nt ?_
 refine WC.seq ?_
 refine WC.draw [0, 0, 3, 7, 0, 0, 48, 112, 255] (.pure 0 (.pure 1 (.pure 2 (.pure 3 (.pure 4 (.pure 5 (.pure 6 (.pure 7 (.pure 8 .done))))))))) mixed (by kernel_rfl) ?_
 refine Tp v0 rfl (PO.move hs23_0) rfl ?_
 refine Tp (.int .i64 x24) rfl (PO.move rfl) rfl ?_
 obtain ⟨hg26, h⟩ := grd_i h
 obtain ⟨p27, cs28, hat29, hrc30, hhas31⟩ := h0.at hg26.1 hg26.2 (by decide)
 obtain rfl := hrc30
 refine Tp (.pointer (some p27)) rfl (PO.indexAddr (n := a0.length) Try.underlying25 sz3 rfl rfl hg26.1 hg26.2 hat29) rfl ?_
 refine Tp (.int .i64 (rd a0 x24)) rfl (PO.loadM pl3 rfl (IM.has0 hhas31)) rfl ?_
 refine Tp v1 rfl (PO.move hs23_1) rfl ?_
 refine Tp (.int .i64 x24) rfl (PO.move rfl) rfl ?_
 obtain ⟨hg33, h⟩ := grd_i h
 obtain ⟨p34, cs35, hat36, hrc37, hhas38⟩ := h1.at hg33.1 hg33.2 (by decide)
 obtain rfl := hrc37
 refine Tp (.pointer (some p34)) rfl (PO.indexAddr (n := a1.length) Try.underlying25 sz3 rfl rfl hg33.1 hg33.2 hat36) rfl ?_
 refine Tp (.int .i64 (rd a1 x24)) rfl (PO.loadM pl3 rfl (IM.has0 hhas38)) rfl ?_
 refine Tp (.bool (decide ((rd a0 x24) ≠ (rd a1 x24)))) rfl (PO.neq rfl rfl) rfl ?_
 refine WT.fin ?_
 refine WQ.thenC ?_
 refine WC.cond (b := decide ((rd a0 x24) ≠ (rd a1 x24))) rfl (fun hb40 => ?_) (fun hb40 => ?_)
 have h := ite_t hb40 h
 refine Sr ?_
 refine Pa (.bool false) rfl rfl ?_
 refine Nt ?_
 refine WC.ret ?_
 refine WQ.blockR ?_
 refine WQ.thenR ?_
 refine WQ.leaveR (Sum.inr ()) (Option.some.inj h).symm (fun heq23 => ?_)
 subst heq23
 have h := (elimR hK23)
 refine WQ.blockR ?_
 refine WQ.thenR ?_
 have h := KK.early h h322
 exact WQ.returnsF h [] rfl (results1 rfl rfl) hle23 ⟨rfl, rfl⟩
 have h := ite_f hb40 h
 refine WC.skip ?_
 refine WQ.blockN ?_
 refine WQ.thenC ?_
 refine WC.region ?_
 refine Pu (.int .i64 (IntKind.i64.wrap (x24 + (1 : Int)))) (PO.add hs23_13 rfl) rfl ?_
 refine Pm (.int .i64 (IntKind.i64.wrap (x24 + (1 : Int)))) rfl rfl ?_
 refine WL.nil ?_
 refine WQ.again (IntKind.i64.wrap (x24 + (1 : Int))) (Option.some.inj h).symm ?_
 exact ⟨hle23, rfl, hs23_0, hs23_1, hs23_12, rfl⟩
 have h := ite_f hb25 h
 refine WC.exit ?_
 refine WQ.thenE ?_
 refine WQ.leaveE (Sum.inl ()) (Option.some.inj h).symm (fun heq23 => ?_)
 subst heq23
 have h := elimL hK23
 refine WQ.blockH ?_
 refine WQ.thenFE h ?_
 exact ⟨hle23, rfl⟩
 rintro _ ρ22 M22 H22 rfl ⟨hle22, rfl⟩
 refine Sr ?_
 refine Pa (.bool true) rfl rfl ?_
 refine Nt ?_
 refine WC.ret ?_
 exact WQ.returnsF h [] rfl (results1 rfl rfl) hle22 ⟨rfl, rfl⟩


end Go.Proofs.Ytdlilclopmhiaaa.G
