/- Go functions: what they come to, and that they do. Printed by a program of the session (gen). -/
import Derived.Test.YtdlilclopmhiaaaCF
import Derived.Test.YtdlilclopmhiaaaC6
set_option linter.unusedVariables false
set_option linter.unusedSimpArgs false
namespace Go.Proofs.Ytdlilclopmhiaaa.G
open Go Go.KK

noncomputable def f_client_Heard (a0 : T_api_Client) (a1 : T_api_Reply) : Option (T_api_Client × Bool) :=
  (((if (decide ((a0.Open.length : Int) = (0 : Int))) = true then (some true) else (if (decide (a1.Client ≠ a0.Id)) = true then (some true) else (some (decide (a1.Serial ≠ a0.Serial))))) : Option Bool).bind fun (x24 : Bool) => (if x24 = true then (some (a0, false)) else (if (decide (a1.Code = (12 : Int))) = true then (((if (decide ((1 : Int) ≤ a1.Leader)) = true then (if (decide (a1.Leader ≤ a0.Voters)) = true then (some (decide (a1.Leader ≠ a0.Node))) else (some false)) else (some false)) : Option Bool).bind fun (x30 : Bool) => (if x30 = true then (some ((⟨a0.Id, a0.Serial, a0.Voters, a1.Leader, a0.Open, a0.Tries⟩ : T_api_Client), false)) else ((f_client_next a0).bind fun (r35 : T_api_Client) => (some (r35, false))))) else (((if (decide (a1.Code = (13 : Int))) = true then (some (decide (a1.Code = (13 : Int)))) else (some (decide (a1.Code = (14 : Int))))) : Option Bool).bind fun (x40 : Bool) => (if x40 = true then (some (a0, false)) else (some ((⟨a0.Id, a0.Serial, a0.Voters, a0.Node, [], (0 : Int)⟩ : T_api_Client), true)))))))
def f_client_Heard_post (a0 : T_api_Client) (a1 : T_api_Reply) (v0_4 : Value) : (T_api_Client × Bool) → Value → IM → HL → Prop :=
  fun (p_ : (T_api_Client × Bool)) (v : Value) (M' : IM) (H' : HL) => match p_ with | (r0, r1) => ∃ vz0_4, (.tuple #[(.agg #[(.int .i64 r0.Id), (.int .i64 r0.Serial), (.int .i64 r0.Voters), (.int .i64 r0.Node), vz0_4, (.int .i64 r0.Tries)]), (.bool r1)]) = v ∧ H' = [] ∧ RS kd_api_Request M' vz0_4 r0.Open
set_option maxHeartbeats 8000000 in
set_option maxRecDepth 100000 in
theorem f_client_Heard_ok (a0 : T_api_Client) (a1 : T_api_Reply) (M : IM) (v0_4 : Value) (h0_4 : RS kd_api_Request M v0_4 a0.Open) (res : (T_api_Client × Bool)) (h : f_client_Heard a0 a1 = some res) :
    Tri Try.prog 12 #[(.agg #[(.int .i64 a0.Id), (.int .i64 a0.Serial), (.int .i64 a0.Voters), (.int .i64 a0.Node), v0_4, (.int .i64 a0.Tries)]), (.agg #[(.int .i64 a1.Client), (.int .i64 a1.Serial), (.int .i64 a1.Code), (.int .i64 a1.Leader), (.bool a1.Told.Fenced), (.bool a1.Told.Leaving), (.bool a1.Told.Stop)])] M [] (f_client_Heard_post a0 a1 v0_4 res) := by
 unfold f_client_Heard at h
 refine Tri.enter (fn := Try.f12) Try.func12 rfl (Nat.le_of_ble_eq_true rfl) ?_
 intro F ρ hρ
 refine Sr ?_
 refine WL.eff (EO.box (cs := #[(.int .i64 a0.Id), (.int .i64 a0.Serial), (.int .i64 a0.Voters), (.int .i64 a0.Node), v0_4, (.int .i64 a0.Tries)]) (congrArg Value.cells (asE (.agg #[(.int .i64 a0.Id), (.int .i64 a0.Serial), (.int .i64 a0.Voters), (.int .i64 a0.Node), v0_4, (.int .i64 a0.Tries)]) (hρ 0)))) rfl ?_
 rintro _ _ _ - ⟨rfl, g21, rfl, rfl⟩
 refine WL.eff (EO.box (cs := #[(.int .i64 a1.Client), (.int .i64 a1.Serial), (.int .i64 a1.Code), (.int .i64 a1.Leader), (.bool a1.Told.Fenced), (.bool a1.Told.Leaving), (.bool a1.Told.Stop)]) (congrArg Value.cells (asE (.agg #[(.int .i64 a1.Client), (.int .i64 a1.Serial), (.int .i64 a1.Code), (.int .i64 a1.Leader), (.bool a1.Told.Fenced), (.bool a1.Told.Leaving), (.bool a1.Told.Stop)]) (hρ 1)))) rfl ?_
 rintro _ _ _ - ⟨rfl, g22, rfl, rfl⟩
 refine WL.eff (EO.alloc ze24 rfl) rfl ?_
 rintro _ _ _ - ⟨rfl, g23, rfl, rfl⟩
 refine Pa (.bool false) rfl rfl ?_
 refine Nt ?_
 refine WC.seq ?_
 obtain ⟨x24, hj25, h⟩ := bnd h
 refine WC.joinF (fun (x24 : Bool) ρ' M' H' => M.le M' ∧ [(g23, .cells #[(.int .i64 (0 : Int)), (.int .i64 (0 : Int)), (.int .i64 (0 : Int)), (.int .i64 (0 : Int)), (.slice none 0 0), (.int .i64 (0 : Int))] 24 (0, 0))] :: [(g22, .cells #[(.int .i64 a1.Client), (.int .i64 a1.Serial), (.int .i64 a1.Code), (.int .i64 a1.Leader), (.bool a1.Told.Fenced), (.bool a1.Told.Leaving), (.bool a1.Told.Stop)] 33 (0, 0))] :: [(g21, .cells #[(.int .i64 a0.Id), (.int .i64 a0.Serial), (.int .i64 a0.Voters), (.int .i64 a0.Node), v0_4, (.int .i64 a0.Tries)] 24 (0, 0))] :: F = H' ∧ ρ' 2 = (.pointer (some ⟨g21, 0, none⟩)) ∧ ρ' 3 = (.pointer (some ⟨g22, 0, none⟩)) ∧ ρ' 4 = (.pointer (some ⟨g23, 0, none⟩)) ∧ ρ' 23 = (.bool x24)) x24 ?_ ?_
 have h325 := h
 have h := hj25
 refine WC.region ?_
 refine Pu (.pointer (some ⟨g21, 4, none⟩)) (PO.fieldAddr fo24_4 rfl rfl) rfl ?_
 refine Pu v0_4 (PO.loadB 2 pl22 rfl rfl rfl) rfl ?_
 refine Pu (.int .i64 (a0.Open.length : Int)) (PO.lenS Try.underlying22 rfl h0_4.len) rfl ?_
 refine Pu (.bool (decide ((a0.Open.length : Int) = (0 : Int)))) (PO.eql rfl rfl) rfl ?_
 refine Pm (.bool (decide ((a0.Open.length : Int) = (0 : Int)))) rfl rfl ?_
 rcases Bool.eq_false_or_eq_true (decide ((a0.Open.length : Int) = (0 : Int))) with hb26 | hb26
 have h := ite_t hb26 h
 iterate 5 refine Of 10 rfl rfl hb26 rfl ?_
 refine Pu (.bool true) (PO.pickT rfl hb26 rfl) rfl ?_
 refine Pm (.bool true) rfl rfl ?_
 iterate 5 refine Of 17 rfl rfl rfl rfl ?_
 refine Pu (.bool true) (PO.pickT rfl rfl rfl) rfl ?_
 refine WL.nil ?_
 obtain rfl := Option.some.inj h
 refine WQ.thenJ ?_
 exact ⟨(IM.le.refl _), rfl, rfl, rfl, rfl, rfl⟩
 have h := ite_f hb26 h
 refine On 10 rfl rfl hb26 ?_
 refine Pu (.pointer (some ⟨g22, 0, none⟩)) (PO.fieldAddr fo33_0 rfl rfl) rfl ?_
 refine On 10 rfl rfl hb26 ?_
 refine Pu (.int .i64 a1.Client) (PO.loadB 1 pl3 rfl rfl rfl) rfl ?_
 refine On 10 rfl rfl hb26 ?_
 refine Pu (.pointer (some ⟨g21, 0, none⟩)) (PO.fieldAddr fo24_0 rfl rfl) rfl ?_
 refine On 10 rfl rfl hb26 ?_
 refine Pu (.int .i64 a0.Id) (PO.loadB 2 pl3 rfl rfl rfl) rfl ?_
 refine On 10 rfl rfl hb26 ?_
 refine Pu (.bool (decide (a1.Client ≠ a0.Id))) (PO.neq rfl rfl) rfl ?_
 refine Pu (.bool (decide (a1.Client ≠ a0.Id))) (PO.pickF rfl hb26 rfl) rfl ?_
 refine Pm (.bool (decide (a1.Client ≠ a0.Id))) rfl rfl ?_
 rcases Bool.eq_false_or_eq_true (decide (a1.Client ≠ a0.Id)) with hb27 | hb27
 have h := ite_t hb27 h
 iterate 5 refine Of 17 rfl rfl hb27 rfl ?_
 refine Pu (.bool true) (PO.pickT rfl hb27 rfl) rfl ?_
 refine WL.nil ?_
 obtain rfl := Option.some.inj h
 refine WQ.thenJ ?_
 exact ⟨(IM.le.refl _), rfl, rfl, rfl, rfl, rfl⟩
 have h := ite_f hb27 h
 refine On 17 rfl rfl hb27 ?_
 refine Pu (.pointer (some ⟨g22, 1, none⟩)) (PO.fieldAddr fo33_1 rfl rfl) rfl ?_
 refine On 17 rfl rfl hb27 ?_
 refine Pu (.int .i64 a1.Serial) (PO.loadB 1 pl3 rfl rfl rfl) rfl ?_
 refine On 17 rfl rfl hb27 ?_
 refine Pu (.pointer (some ⟨g21, 1, none⟩)) (PO.fieldAddr fo24_1 rfl rfl) rfl ?_
 refine On 17 rfl rfl hb27 ?_
 refine Pu (.int .i64 a0.Serial) (PO.loadB 2 pl3 rfl rfl rfl) rfl ?_
 refine On 17 rfl rfl hb27 ?_
 refine Pu (.bool (decide (a1.Serial ≠ a0.Serial))) (PO.neq rfl rfl) rfl ?_
 refine Pu (.bool (decide (a1.Serial ≠ a0.Serial))) (PO.pickF rfl hb27 rfl) rfl ?_
 refine WL.nil ?_
 obtain rfl := Option.some.inj h
 refine WQ.thenJ ?_
 exact ⟨(IM.le.refl _), rfl, rfl, rfl, rfl, rfl⟩
 rintro ρ25 M25 H25 ⟨hle25, rfl, hs25_2, hs25_3, hs25_4, hs25_23⟩
 have h0_4 := h0_4.mono hle25
 refine WC.cond (b := x24) hs25_23 (fun hb28 => ?_) (fun hb28 => ?_)
 have h := ite_t hb28 h
 refine Sr ?_
 refine Pu (.agg #[(.int .i64 a0.Id), (.int .i64 a0.Serial), (.int .i64 a0.Voters), (.int .i64 a0.Node), v0_4, (.int .i64 a0.Tries)]) (PO.loadBA (cs := [(.int .i64 a0.Id), (.int .i64 a0.Serial), (.int .i64 a0.Voters), (.int .i64 a0.Node), v0_4, (.int .i64 a0.Tries)]) 2 ag24 sz24 hs25_2 rfl rfl) rfl ?_
 refine WL.eff (EO.storeL (v := (.agg #[(.int .i64 a0.Id), (.int .i64 a0.Serial), (.int .i64 a0.Voters), (.int .i64 a0.Node), v0_4, (.int .i64 a0.Tries)])) (vl := [(.int .i64 a0.Id), (.int .i64 a0.Serial), (.int .i64 a0.Voters), (.int .i64 a0.Node), v0_4, (.int .i64 a0.Tries)]) (arr' := [(.int .i64 a0.Id), (.int .i64 a0.Serial), (.int .i64 a0.Voters), (.int .i64 a0.Node), v0_4, (.int .i64 a0.Tries)]) rfl sz24 hs25_4 rfl (onesOf (Ones.cons rfl (Ones.cons rfl (Ones.cons rfl (Ones.cons rfl (Ones.cons (RS.one h0_4) (Ones.cons rfl Ones.nil))))))) rfl rfl rfl) rfl ?_
 rintro _ _ _ - ⟨rfl, rfl⟩
 refine Pa (.bool false) rfl rfl ?_
 refine Nt ?_
 refine WC.ret ?_
 refine WQ.thenR ?_
 refine WQ.f1 ?_
 refine WQ.drop ?_
 refine WQ.f1 ?_
 refine WQ.drop ?_
 exact WQ.returnsD h [] (fun _ hs => hs.drop) (resultsLN rfl (RVs.cons (RV.cellA (cs := [(.int .i64 a0.Id), (.int .i64 a0.Serial), (.int .i64 a0.Voters), (.int .i64 a0.Node), v0_4, (.int .i64 a0.Tries)]) 0 ag24 sz24 hs25_4 rfl rfl) (RVs.cons (RV.tmp rfl) RVs.nil))) hle25 ⟨v0_4, rfl, rfl, h0_4⟩
 have h := ite_f hb28 h
 refine WC.skip ?_
 refine WQ.thenC ?_
 refine WC.seq ?_
 refine Sr ?_
 refine Pu (.pointer (some ⟨g22, 2, none⟩)) (PO.fieldAddr fo33_2 hs25_3 rfl) rfl ?_
 refine Pu (.int .i64 a1.Code) (PO.loadB 1 pl3 rfl rfl rfl) rfl ?_
 refine Nt ?_
 refine WC.block ?_
 refine Sr ?_
 refine Pu (.bool (decide (a1.Code = (12 : Int)))) (PO.eql rfl rfl) rfl ?_
 refine Pa (.bool (decide (a1.Code = (12 : Int)))) rfl rfl ?_
 refine Nt ?_
 refine WC.cond (b := decide (a1.Code = (12 : Int))) rfl (fun hb29 => ?_) (fun hb29 => ?_)
 have h := ite_t hb29 h
 refine WC.seq ?_
 obtain ⟨x30, hj31, h⟩ := bnd h
 refine WC.joinF (fun (x30 : Bool) ρ' M' H' => M25.le M' ∧ [(g23, .cells #[(.int .i64 (0 : Int)), (.int .i64 (0 : Int)), (.int .i64 (0 : Int)), (.int .i64 (0 : Int)), (.slice none 0 0), (.int .i64 (0 : Int))] 24 (0, 0))] :: [(g22, .cells #[(.int .i64 a1.Client), (.int .i64 a1.Serial), (.int .i64 a1.Code), (.int .i64 a1.Leader), (.bool a1.Told.Fenced), (.bool a1.Told.Leaving), (.bool a1.Told.Stop)] 33 (0, 0))] :: [(g21, .cells #[(.int .i64 a0.Id), (.int .i64 a0.Serial), (.int .i64 a0.Voters), (.int .i64 a0.Node), v0_4, (.int .i64 a0.Tries)] 24 (0, 0))] :: F = H' ∧ ρ' 2 = (.pointer (some ⟨g21, 0, none⟩)) ∧ ρ' 3 = (.pointer (some ⟨g22, 0, none⟩)) ∧ ρ' 4 = (.pointer (some ⟨g23, 0, none⟩)) ∧ ρ' 45 = (.bool x30)) x30 ?_ ?_
 have h331 := h
 have h := hj31
 refine WC.region ?_
 refine Pu (.pointer (some ⟨g22, 3, none⟩)) (PO.fieldAddr fo33_3 hs25_3 rfl) rfl ?_
 refine Pu (.int .i64 a1.Leader) (PO.loadB 1 pl3 rfl rfl rfl) rfl ?_
 refine Pu (.bool (decide ((1 : Int) ≤ a1.Leader))) (PO.geq rfl rfl) rfl ?_
 refine Pm (.bool (decide ((1 : Int) ≤ a1.Leader))) rfl rfl ?_
 rcases Bool.eq_false_or_eq_true (decide ((1 : Int) ≤ a1.Leader)) with hb32 | hb32
 have h := ite_t hb32 h
 refine On 32 rfl rfl hb32 ?_
 refine Pu (.pointer (some ⟨g22, 3, none⟩)) (PO.fieldAddr fo33_3 hs25_3 rfl) rfl ?_
 refine On 32 rfl rfl hb32 ?_
 refine Pu (.int .i64 a1.Leader) (PO.loadB 1 pl3 rfl rfl rfl) rfl ?_
 refine On 32 rfl rfl hb32 ?_
 refine Pu (.pointer (some ⟨g21, 2, none⟩)) (PO.fieldAddr fo24_2 hs25_2 rfl) rfl ?_
 refine On 32 rfl rfl hb32 ?_
 refine Pu (.int .i64 a0.Voters) (PO.loadB 2 pl3 rfl rfl rfl) rfl ?_
 refine On 32 rfl rfl hb32 ?_
 refine Pu (.bool (decide (a1.Leader ≤ a0.Voters))) (PO.leq rfl rfl) rfl ?_
 refine Pu (.bool (decide (a1.Leader ≤ a0.Voters))) (PO.pickT rfl hb32 rfl) rfl ?_
 refine Pm (.bool (decide (a1.Leader ≤ a0.Voters))) rfl rfl ?_
 rcases Bool.eq_false_or_eq_true (decide (a1.Leader ≤ a0.Voters)) with hb33 | hb33
 have h := ite_t hb33 h
 refine On 39 rfl rfl hb33 ?_
 refine Pu (.pointer (some ⟨g22, 3, none⟩)) (PO.fieldAddr fo33_3 hs25_3 rfl) rfl ?_
 refine On 39 rfl rfl hb33 ?_
 refine Pu (.int .i64 a1.Leader) (PO.loadB 1 pl3 rfl rfl rfl) rfl ?_
 refine On 39 rfl rfl hb33 ?_
 refine Pu (.pointer (some ⟨g21, 3, none⟩)) (PO.fieldAddr fo24_3 hs25_2 rfl) rfl ?_
 refine On 39 rfl rfl hb33 ?_
 refine Pu (.int .i64 a0.Node) (PO.loadB 2 pl3 rfl rfl rfl) rfl ?_
 refine On 39 rfl rfl hb33 ?_
 refine Pu (.bool (decide (a1.Leader ≠ a0.Node))) (PO.neq rfl rfl) rfl ?_
 refine Pu (.bool (decide (a1.Leader ≠ a0.Node))) (PO.pickT rfl hb33 rfl) rfl ?_
 refine WL.nil ?_
 obtain rfl := Option.some.inj h
 refine WQ.thenJ ?_
 exact ⟨(IM.le.refl _), rfl, hs25_2, hs25_3, hs25_4, rfl⟩
 have h := ite_f hb33 h
 iterate 5 refine Of 39 rfl rfl hb33 rfl ?_
 refine Pu (.bool false) (PO.pickF rfl hb33 rfl) rfl ?_
 refine WL.nil ?_
 obtain rfl := Option.some.inj h
 refine WQ.thenJ ?_
 exact ⟨(IM.le.refl _), rfl, hs25_2, hs25_3, hs25_4, rfl⟩
 have h := ite_f hb32 h
 iterate 5 refine Of 32 rfl rfl hb32 rfl ?_
 refine Pu (.bool false) (PO.pickF rfl hb32 rfl) rfl ?_
 refine Pm (.bool false) rfl rfl ?_
 iterate 5 refine Of 39 rfl rfl rfl rfl ?_
 refine Pu (.bool false) (PO.pickF rfl rfl rfl) rfl ?_
 refine WL.nil ?_
 obtain rfl := Option.some.inj h
 refine WQ.thenJ ?_
 exact ⟨(IM.le.refl _), rfl, hs25_2, hs25_3, hs25_4, rfl⟩
 rintro ρ31 M31 H31 ⟨hle31, rfl, hs31_2, hs31_3, hs31_4, hs31_45⟩
 have h0_4 := h0_4.mono hle31
 refine WC.cond (b := x30) hs31_45 (fun hb34 => ?_) (fun hb34 => ?_)
 have h := ite_t hb34 h
 refine Sr ?_
 refine Pu (.pointer (some ⟨g22, 3, none⟩)) (PO.fieldAddr fo33_3 hs31_3 rfl) rfl ?_
 refine Pu (.int .i64 a1.Leader) (PO.loadB 1 pl3 rfl rfl rfl) rfl ?_
 refine Pu (.pointer (some ⟨g21, 3, none⟩)) (PO.fieldAddr fo24_3 hs31_2 rfl) rfl ?_
 refine WL.f2 ?_
 refine WL.eff (EO.storeL (v := (.int .i64 a1.Leader)) (vl := [(.int .i64 a1.Leader)]) (arr' := [(.int .i64 a0.Id), (.int .i64 a0.Serial), (.int .i64 a0.Voters), (.int .i64 a1.Leader), v0_4, (.int .i64 a0.Tries)]) rfl sz3 rfl rfl (onesOf (Ones.cons rfl Ones.nil)) rfl rfl rfl) rfl ?_
 rintro _ _ _ - ⟨rfl, rfl⟩
 refine Ns ?_
 refine Pu (.agg #[(.int .i64 a0.Id), (.int .i64 a0.Serial), (.int .i64 a0.Voters), (.int .i64 a1.Leader), v0_4, (.int .i64 a0.Tries)]) (PO.loadBA (cs := [(.int .i64 a0.Id), (.int .i64 a0.Serial), (.int .i64 a0.Voters), (.int .i64 a1.Leader), v0_4, (.int .i64 a0.Tries)]) 0 ag24 sz24 hs31_2 rfl rfl) rfl ?_
 refine WL.f1 ?_
 refine WL.eff (EO.storeL (v := (.agg #[(.int .i64 a0.Id), (.int .i64 a0.Serial), (.int .i64 a0.Voters), (.int .i64 a1.Leader), v0_4, (.int .i64 a0.Tries)])) (vl := [(.int .i64 a0.Id), (.int .i64 a0.Serial), (.int .i64 a0.Voters), (.int .i64 a1.Leader), v0_4, (.int .i64 a0.Tries)]) (arr' := [(.int .i64 a0.Id), (.int .i64 a0.Serial), (.int .i64 a0.Voters), (.int .i64 a1.Leader), v0_4, (.int .i64 a0.Tries)]) rfl sz24 hs31_4 rfl (onesOf (Ones.cons rfl (Ones.cons rfl (Ones.cons rfl (Ones.cons rfl (Ones.cons (RS.one h0_4) (Ones.cons rfl Ones.nil))))))) rfl rfl rfl) rfl ?_
 rintro _ _ _ - ⟨rfl, rfl⟩
 refine Pa (.bool false) rfl rfl ?_
 refine Nt ?_
 refine WC.ret ?_
 refine WQ.thenR ?_
 refine WQ.blockR ?_
 refine WQ.thenR ?_
 refine WQ.f1 ?_
 refine WQ.drop ?_
 refine WQ.f1 ?_
 refine WQ.drop ?_
 exact WQ.returnsD h [] (fun _ hs => hs.drop) (resultsLN rfl (RVs.cons (RV.cellA (cs := [(.int .i64 a0.Id), (.int .i64 a0.Serial), (.int .i64 a0.Voters), (.int .i64 a1.Leader), v0_4, (.int .i64 a0.Tries)]) 0 ag24 sz24 hs31_4 rfl rfl) (RVs.cons (RV.tmp rfl) RVs.nil))) (hle25.trans hle31) ⟨v0_4, rfl, rfl, h0_4⟩
 have h := ite_f hb34 h
 refine WC.skip ?_
 refine WQ.thenC ?_
 refine Sr ?_
 refine Pu (.agg #[(.int .i64 a0.Id), (.int .i64 a0.Serial), (.int .i64 a0.Voters), (.int .i64 a0.Node), v0_4, (.int .i64 a0.Tries)]) (PO.loadBA (cs := [(.int .i64 a0.Id), (.int .i64 a0.Serial), (.int .i64 a0.Voters), (.int .i64 a0.Node), v0_4, (.int .i64 a0.Tries)]) 2 ag24 sz24 hs31_2 rfl rfl) rfl ?_
 obtain ⟨r35, hr36, h⟩ := bnd h
 refine WL.eff (EO.call0 co24 (f_client_next_ok a0 _ _ h0_4 r35 hr36) (args1 rfl)) rfl ?_
 rintro _ M37 _ hle38 ⟨_, ⟨vq39_4, rfl, rfl, hq39_4⟩, rfl⟩
 have h0_4 := h0_4.mono hle38
 refine WL.a0 ?_
 refine WL.eff (EO.storeL (v := (.agg #[(.int .i64 r35.Id), (.int .i64 r35.Serial), (.int .i64 r35.Voters), (.int .i64 r35.Node), vq39_4, (.int .i64 r35.Tries)])) (vl := [(.int .i64 r35.Id), (.int .i64 r35.Serial), (.int .i64 r35.Voters), (.int .i64 r35.Node), vq39_4, (.int .i64 r35.Tries)]) (arr' := [(.int .i64 r35.Id), (.int .i64 r35.Serial), (.int .i64 r35.Voters), (.int .i64 r35.Node), vq39_4, (.int .i64 r35.Tries)]) rfl sz24 hs31_4 rfl (onesOf (Ones.cons rfl (Ones.cons rfl (Ones.cons rfl (Ones.cons rfl (Ones.cons (RS.one hq39_4) (Ones.cons rfl Ones.nil))))))) rfl rfl rfl) rfl ?_
 rintro _ _ _ - ⟨rfl, rfl⟩
 refine Pa (.bool false) rfl rfl ?_
 refine Nt ?_
 refine WC.ret ?_
 refine WQ.blockR ?_
 refine WQ.thenR ?_
 refine WQ.f1 ?_
 refine WQ.drop ?_
 refine WQ.f1 ?_
 refine WQ.drop ?_
 exact WQ.returnsD h [] (fun _ hs => hs.drop) (resultsLN rfl (RVs.cons (RV.cellA (cs := [(.int .i64 r35.Id), (.int .i64 r35.Serial), (.int .i64 r35.Voters), (.int .i64 r35.Node), vq39_4, (.int .i64 r35.Tries)]) 0 ag24 sz24 hs31_4 rfl rfl) (RVs.cons (RV.tmp rfl) RVs.nil))) ((hle25.trans hle31).trans hle38) ⟨vq39_4, rfl, rfl, hq39_4⟩
 have h := ite_f hb29 h
 obtain ⟨x40, hj41, h⟩ := bnd h
 refine WC.joinF (fun (x40 : Bool) ρ' M' H' => M25.le M' ∧ [(g23, .cells #[(.int .i64 (0 : Int)), (.int .i64 (0 : Int)), (.int .i64 (0 : Int)), (.int .i64 (0 : Int)), (.slice none 0 0), (.int .i64 (0 : Int))] 24 (0, 0))] :: [(g22, .cells #[(.int .i64 a1.Client), (.int .i64 a1.Serial), (.int .i64 a1.Code), (.int .i64 a1.Leader), (.bool a1.Told.Fenced), (.bool a1.Told.Leaving), (.bool a1.Told.Stop)] 33 (0, 0))] :: [(g21, .cells #[(.int .i64 a0.Id), (.int .i64 a0.Serial), (.int .i64 a0.Voters), (.int .i64 a0.Node), v0_4, (.int .i64 a0.Tries)] 24 (0, 0))] :: F = H' ∧ ρ' 2 = (.pointer (some ⟨g21, 0, none⟩)) ∧ ρ' 4 = (.pointer (some ⟨g23, 0, none⟩)) ∧ ρ' 52 = (.bool x40)) x40 ?_ ?_
 have h341 := h
 have h := hj41
 refine Sr ?_
 refine Pu (.bool (decide (a1.Code = (13 : Int)))) (PO.eql rfl rfl) rfl ?_
 refine Pa (.bool (decide (a1.Code = (13 : Int)))) rfl rfl ?_
 refine Nt ?_
 refine WC.cond (b := decide (a1.Code = (13 : Int))) rfl (fun hb42 => ?_) (fun hb42 => ?_)
 have h := ite_t hb42 h
 refine WC.skip ?_
 obtain rfl := Option.some.inj h
 refine WQ.thenJ ?_
 exact ⟨(IM.le.refl _), rfl, hs25_2, hs25_4, rfl⟩
 have h := ite_f hb42 h
 refine WC.region ?_
 refine Pu (.bool (decide (a1.Code = (14 : Int)))) (PO.eql rfl rfl) rfl ?_
 refine Pa (.bool (decide (a1.Code = (14 : Int)))) rfl rfl ?_
 refine WL.nil ?_
 obtain rfl := Option.some.inj h
 refine WQ.thenJ ?_
 exact ⟨(IM.le.refl _), rfl, hs25_2, hs25_4, rfl⟩
 rintro ρ41 M41 H41 ⟨hle41, rfl, hs41_2, hs41_4, hs41_52⟩
 have h0_4 := h0_4.mono hle41
 refine WC.cond (b := x40) hs41_52 (fun hb43 => ?_) (fun hb43 => ?_)
 have h := ite_t hb43 h
 refine Sr ?_
 refine Pu (.agg #[(.int .i64 a0.Id), (.int .i64 a0.Serial), (.int .i64 a0.Voters), (.int .i64 a0.Node), v0_4, (.int .i64 a0.Tries)]) (PO.loadBA (cs := [(.int .i64 a0.Id), (.int .i64 a0.Serial), (.int .i64 a0.Voters), (.int .i64 a0.Node), v0_4, (.int .i64 a0.Tries)]) 2 ag24 sz24 hs41_2 rfl rfl) rfl ?_
 refine WL.eff (EO.storeL (v := (.agg #[(.int .i64 a0.Id), (.int .i64 a0.Serial), (.int .i64 a0.Voters), (.int .i64 a0.Node), v0_4, (.int .i64 a0.Tries)])) (vl := [(.int .i64 a0.Id), (.int .i64 a0.Serial), (.int .i64 a0.Voters), (.int .i64 a0.Node), v0_4, (.int .i64 a0.Tries)]) (arr' := [(.int .i64 a0.Id), (.int .i64 a0.Serial), (.int .i64 a0.Voters), (.int .i64 a0.Node), v0_4, (.int .i64 a0.Tries)]) rfl sz24 hs41_4 rfl (onesOf (Ones.cons rfl (Ones.cons rfl (Ones.cons rfl (Ones.cons rfl (Ones.cons (RS.one h0_4) (Ones.cons rfl Ones.nil))))))) rfl rfl rfl) rfl ?_
 rintro _ _ _ - ⟨rfl, rfl⟩
 refine Pa (.bool false) rfl rfl ?_
 refine Nt ?_
 refine WC.ret ?_
 refine WQ.blockR ?_
 refine WQ.thenR ?_
 refine WQ.f1 ?_
 refine WQ.drop ?_
 refine WQ.f1 ?_
 refine WQ.drop ?_
 exact WQ.returnsD h [] (fun _ hs => hs.drop) (resultsLN rfl (RVs.cons (RV.cellA (cs := [(.int .i64 a0.Id), (.int .i64 a0.Serial), (.int .i64 a0.Voters), (.int .i64 a0.Node), v0_4, (.int .i64 a0.Tries)]) 0 ag24 sz24 hs41_4 rfl rfl) (RVs.cons (RV.tmp rfl) RVs.nil))) (hle25.trans hle41) ⟨v0_4, rfl, rfl, h0_4⟩
 have h := ite_f hb43 h
 refine WC.skip ?_
 refine WQ.blockN ?_
 refine WQ.thenC ?_
 refine Sr ?_
 refine Pu (.pointer (some ⟨g21, 4, none⟩)) (PO.fieldAddr fo24_4 hs41_2 rfl) rfl ?_
 refine WL.f2 ?_
 refine WL.eff (EO.storeL (v := (.slice none 0 0)) (vl := [(.slice none 0 0)]) (arr' := [(.int .i64 a0.Id), (.int .i64 a0.Serial), (.int .i64 a0.Voters), (.int .i64 a0.Node), (.slice none 0 0), (.int .i64 a0.Tries)]) rfl sz22 rfl rfl (onesOf (Ones.cons rfl Ones.nil)) rfl rfl rfl) rfl ?_
 rintro _ _ _ - ⟨rfl, rfl⟩
 refine Pu (.pointer (some ⟨g21, 5, none⟩)) (PO.fieldAddr fo24_5 hs41_2 rfl) rfl ?_
 refine WL.eff (EO.storeL (v := (.int .i64 (0 : Int))) (vl := [(.int .i64 (0 : Int))]) (arr' := [(.int .i64 a0.Id), (.int .i64 a0.Serial), (.int .i64 a0.Voters), (.int .i64 a0.Node), (.slice none 0 0), (.int .i64 (0 : Int))]) rfl sz3 rfl rfl (onesOf (Ones.cons rfl Ones.nil)) rfl rfl rfl) rfl ?_
 rintro _ _ _ - ⟨rfl, rfl⟩
 refine Ns ?_
 refine Pu (.agg #[(.int .i64 a0.Id), (.int .i64 a0.Serial), (.int .i64 a0.Voters), (.int .i64 a0.Node), (.slice none 0 0), (.int .i64 (0 : Int))]) (PO.loadBA (cs := [(.int .i64 a0.Id), (.int .i64 a0.Serial), (.int .i64 a0.Voters), (.int .i64 a0.Node), (.slice none 0 0), (.int .i64 (0 : Int))]) 0 ag24 sz24 hs41_2 rfl rfl) rfl ?_
 refine WL.f1 ?_
 refine WL.eff (EO.storeL (v := (.agg #[(.int .i64 a0.Id), (.int .i64 a0.Serial), (.int .i64 a0.Voters), (.int .i64 a0.Node), (.slice none 0 0), (.int .i64 (0 : Int))])) (vl := [(.int .i64 a0.Id), (.int .i64 a0.Serial), (.int .i64 a0.Voters), (.int .i64 a0.Node), (.slice none 0 0), (.int .i64 (0 : Int))]) (arr' := [(.int .i64 a0.Id), (.int .i64 a0.Serial), (.int .i64 a0.Voters), (.int .i64 a0.Node), (.slice none 0 0), (.int .i64 (0 : Int))]) rfl sz24 hs41_4 rfl (onesOf (Ones.cons rfl (Ones.cons rfl (Ones.cons rfl (Ones.cons rfl (Ones.cons rfl (Ones.cons rfl Ones.nil))))))) rfl rfl rfl) rfl ?_
 rintro _ _ _ - ⟨rfl, rfl⟩
 refine Pa (.bool true) rfl rfl ?_
 refine Nt ?_
 refine WC.ret ?_
 refine WQ.f1 ?_
 refine WQ.drop ?_
 refine WQ.f1 ?_
 refine WQ.drop ?_
 exact WQ.returnsD h [] (fun _ hs => hs.drop) (resultsLN rfl (RVs.cons (RV.cellA (cs := [(.int .i64 a0.Id), (.int .i64 a0.Serial), (.int .i64 a0.Voters), (.int .i64 a0.Node), (.slice none 0 0), (.int .i64 (0 : Int))]) 0 ag24 sz24 hs41_4 rfl rfl) (RVs.cons (RV.tmp rfl) RVs.nil))) (hle25.trans hle41) ⟨(.slice none 0 0), rfl, rfl, RS.nil _ _⟩

noncomputable def f_api_Fault_Unwrap (a0 : T_api_Fault) : Option GErr :=
  (some a0.Err)
def f_api_Fault_Unwrap_post (a0 : T_api_Fault) : GErr → Value → IM → HL → Prop :=
  fun (r0 : GErr) (v : Value) (M' : IM) (H' : HL) => (GV r0) = v ∧ H' = []
set_option maxHeartbeats 8000000 in
set_option maxRecDepth 100000 in
theorem f_api_Fault_Unwrap_ok (a0 : T_api_Fault) (M : IM) (res : GErr) (h : f_api_Fault_Unwrap a0 = some res) :
    Tri Try.prog 63 #[(.agg #[(.string a0.Op), (.int .i64 a0.At), (GV a0.Err)])] M [] (f_api_Fault_Unwrap_post a0 res) := by
 unfold f_api_Fault_Unwrap at h
 refine Tri.enter (fn := Try.f63) Try.func63 rfl (Nat.le_of_ble_eq_true rfl) ?_
 intro F ρ hρ
 refine Sr ?_
 refine WL.eff (EO.box (cs := #[(.string a0.Op), (.int .i64 a0.At), (GV a0.Err)]) (congrArg Value.cells (asE (.agg #[(.string a0.Op), (.int .i64 a0.At), (GV a0.Err)]) (hρ 0)))) rfl ?_
 rintro _ _ _ - ⟨rfl, g21, rfl, rfl⟩
 refine Pa (GV GErr.nil) rfl rfl ?_
 refine Ns ?_
 refine Pu (.pointer (some ⟨g21, 2, none⟩)) (PO.fieldAddr fo76_2 rfl rfl) rfl ?_
 refine Pu (GV a0.Err) (PO.loadB 0 pl40 rfl rfl rfl) rfl ?_
 refine Pa (GV a0.Err) rfl rfl ?_
 refine Nt ?_
 refine WC.ret ?_
 refine WQ.drop ?_
 exact WQ.returnsF h [] rfl (results1 rfl rfl) (IM.le.refl _) ⟨rfl, rfl⟩

noncomputable def f_errors_is_l0 (a1 : Int) (s_ : GErr) : Option (GErr ⊕ Bool) :=
  match s_ with
  | x22 =>
    (match x22 with | .nil => (some (Sum.inr false)) | .code n24 => (if (decide (n24 = a1)) = true then (some (Sum.inr true)) else (some (Sum.inr false))) | .fault o25 a26 e27 => ((f_api_Fault_Unwrap (⟨o25, a26, e27⟩ : T_api_Fault)).bind fun (r30 : GErr) => (if r30.isNil = true then (some (Sum.inr false)) else (some (Sum.inl r30)))) | .other b28 => (some (Sum.inr false)))
noncomputable def f_errors_is (a0 : GErr) (a1 : Int) : Option Bool :=
  ((iter (f_errors_is_l0 a1) a0).bind (fun (x23 : Bool) => (some x23)))
def f_errors_is_post (a0 : GErr) (a1 : Int) : Bool → Value → IM → HL → Prop :=
  fun (r0 : Bool) (v : Value) (M' : IM) (H' : HL) => (.bool r0) = v ∧ H' = []
set_option maxHeartbeats 8000000 in
set_option maxRecDepth 100000 in
theorem f_errors_is_ok (a0 : GErr) (a1 : Int) (M : IM) (res : Bool) (h : f_errors_is a0 a1 = some res) :
    Tri Try.prog 40 #[(GV a0), (GV (GErr.code a1)), (.bool true)] M [] (f_errors_is_post a0 a1 res) := by
 unfold f_errors_is at h
 refine Tri.enter (fn := Try.f40) Try.func40 rfl (Nat.le_of_ble_eq_true rfl) ?_
 intro F ρ hρ
 refine Sr ?_
 refine Pa (.bool false) rfl rfl ?_
 refine Nt ?_
 refine WC.block ?_
 obtain ⟨e21, he21, hK21⟩ := bnd h
 clear h
 refine WC.loop he21 (fun (x22 : GErr) ρ' M' H' => M.le M' ∧ F = H' ∧ ρ' 0 = (GV x22) ∧ ρ' 1 = (GV (GErr.code a1)) ∧ ρ' 2 = (.bool true)) ?_ ?_
 exact ⟨(IM.le.refl _), rfl, (hρ 0), (hρ 1), (hρ 2)⟩
 rintro x22 o21 ρ21 M21 H21 h ⟨hle21, rfl, hs21_0, hs21_1, hs21_2⟩
 unfold f_errors_is_l0 at h
 refine WC.block ?_
 refine WC.seq ?_
 refine Sr ?_
 refine Pm (.bool true) hs21_2 rfl ?_
 refine Pm (.bool true) rfl rfl ?_
 refine On 15 rfl rfl rfl ?_
 refine Pm (GV x22) hs21_0 rfl ?_
 refine On 15 rfl rfl rfl ?_
 refine Pm (GV (GErr.code a1)) hs21_1 rfl ?_
 refine On 15 rfl rfl rfl ?_
 rcases x22 with _ | n24 | ⟨o25, a26, e27⟩ | b28
 refine Pu (.bool false) (PO.nilIfaceNe Try.underlying40 (show ev _ _ = .nilIface from rfl) (show ev _ _ = (.iface 36 (.int .i64 a1)) from rfl)) rfl ?_
 refine Pu (.bool false) (PO.pickT rfl rfl rfl) rfl ?_
 refine Nt ?_
 refine WC.condF (b := false) rfl rfl ?_
 refine WC.skip ?_
 refine WQ.thenC ?_
 refine WC.seq ?_
 refine Sr ?_
 refine Pm (GV GErr.nil) hs21_0 rfl ?_
 refine Pu (.tuple #[.nilIface, (.bool false)]) (PO.asserts (show ev _ _ = .nilIface from rfl) (run_assert_nil zo91 Try.underlying91)) rfl ?_
 refine Pm (.tuple #[.nilIface, (.bool false)]) rfl rfl ?_
 refine Pu .nilIface (PO.extract rfl rfl) rfl ?_
 refine Pu (.bool false) (PO.extract rfl rfl) rfl ?_
 refine Pa .nilIface rfl rfl ?_
 refine Pa (.bool false) rfl rfl ?_
 refine Ns ?_
 refine Pm (.bool false) rfl rfl ?_
 refine Pm (.bool false) rfl rfl ?_
 iterate 3 refine Of 26 rfl rfl rfl rfl ?_
 refine Pu (.bool false) (PO.pickF rfl rfl rfl) rfl ?_
 refine Nt ?_
 refine WC.condF (b := false) rfl rfl ?_
 refine WC.skip ?_
 refine WQ.thenC ?_
 refine Sr ?_
 refine Pm (GV GErr.nil) hs21_0 rfl ?_
 refine Nt ?_
 refine WC.block ?_
 refine Sr ?_
 refine Pu (.tuple #[.nilIface, (.bool false)]) (PO.asserts (show ev _ _ = .nilIface from rfl) (run_assert_nil zo94 Try.underlying94)) rfl ?_
 refine Pu (.bool false) (PO.extract rfl rfl) rfl ?_
 refine Pu .nilIface (PO.extract rfl rfl) rfl ?_
 refine Nt ?_
 refine WC.condF (b := false) rfl rfl ?_
 refine Sr ?_
 refine Pu (.tuple #[.nilIface, (.bool false)]) (PO.asserts (show ev _ _ = .nilIface from rfl) (run_assert_nil zo96 Try.underlying96)) rfl ?_
 refine Pu (.bool false) (PO.extract rfl rfl) rfl ?_
 refine Pu .nilIface (PO.extract rfl rfl) rfl ?_
 refine Nt ?_
 refine WC.condF (b := false) rfl rfl ?_
 refine Sr ?_
 refine Pa (GV GErr.nil) rfl rfl ?_
 refine Ns ?_
 refine Pa (.bool false) rfl rfl ?_
 refine Nt ?_
 refine WC.ret ?_
 refine WQ.blockR ?_
 refine WQ.blockR ?_
 refine WQ.leaveR false (Option.some.inj h).symm (fun heq21 => ?_)
 subst heq21
 have h := hK21
 refine WQ.blockR ?_
 exact WQ.returnsF h [] rfl (results1 rfl rfl) hle21 ⟨rfl, rfl⟩
 refine Pu (.bool (decide (n24 = a1))) (PO.ifaceInt Try.underlying40 Try.underlying36 cm36 (show ev _ _ = (.iface 36 (.int .i64 n24)) from rfl) (show ev _ _ = (.iface 36 (.int .i64 a1)) from rfl)) rfl ?_
 refine Pu (.bool (decide (n24 = a1))) (PO.pickT rfl rfl rfl) rfl ?_
 refine Nt ?_
 refine WC.cond (b := decide (n24 = a1)) rfl (fun hb29 => ?_) (fun hb29 => ?_)
 have h := ite_t hb29 h
 refine Sr ?_
 refine Pa (.bool true) rfl rfl ?_
 refine Nt ?_
 refine WC.ret ?_
 refine WQ.thenR ?_
 refine WQ.blockR ?_
 refine WQ.leaveR true (Option.some.inj h).symm (fun heq21 => ?_)
 subst heq21
 have h := hK21
 refine WQ.blockR ?_
 exact WQ.returnsF h [] rfl (results1 rfl rfl) hle21 ⟨rfl, rfl⟩
 have h := ite_f hb29 h
 refine WC.skip ?_
 refine WQ.thenC ?_
 refine WC.seq ?_
 refine Sr ?_
 refine Pm (GV (GErr.code n24)) hs21_0 rfl ?_
 refine Pu (.tuple #[.nilIface, (.bool false)]) (PO.asserts (show ev _ _ = (.iface 36 (.int .i64 n24)) from rfl) (la36_91 _ _)) rfl ?_
 refine Pm (.tuple #[.nilIface, (.bool false)]) rfl rfl ?_
 refine Pu .nilIface (PO.extract rfl rfl) rfl ?_
 refine Pu (.bool false) (PO.extract rfl rfl) rfl ?_
 refine Pa .nilIface rfl rfl ?_
 refine Pa (.bool false) rfl rfl ?_
 refine Ns ?_
 refine Pm (.bool false) rfl rfl ?_
 refine Pm (.bool false) rfl rfl ?_
 iterate 3 refine Of 26 rfl rfl rfl rfl ?_
 refine Pu (.bool false) (PO.pickF rfl rfl rfl) rfl ?_
 refine Nt ?_
 refine WC.condF (b := false) rfl rfl ?_
 refine WC.skip ?_
 refine WQ.thenC ?_
 refine Sr ?_
 refine Pm (GV (GErr.code n24)) hs21_0 rfl ?_
 refine Nt ?_
 refine WC.block ?_
 refine Sr ?_
 refine Pu (.tuple #[.nilIface, (.bool false)]) (PO.asserts (show ev _ _ = (.iface 36 (.int .i64 n24)) from rfl) (la36_94 _ _)) rfl ?_
 refine Pu (.bool false) (PO.extract rfl rfl) rfl ?_
 refine Pu .nilIface (PO.extract rfl rfl) rfl ?_
 refine Nt ?_
 refine WC.condF (b := false) rfl rfl ?_
 refine Sr ?_
 refine Pu (.tuple #[.nilIface, (.bool false)]) (PO.asserts (show ev _ _ = (.iface 36 (.int .i64 n24)) from rfl) (la36_96 _ _)) rfl ?_
 refine Pu (.bool false) (PO.extract rfl rfl) rfl ?_
 refine Pu .nilIface (PO.extract rfl rfl) rfl ?_
 refine Nt ?_
 refine WC.condF (b := false) rfl rfl ?_
 refine Sr ?_
 refine Pa (GV (GErr.code n24)) rfl rfl ?_
 refine Ns ?_
 refine Pa (.bool false) rfl rfl ?_
 refine Nt ?_
 refine WC.ret ?_
 refine WQ.blockR ?_
 refine WQ.blockR ?_
 refine WQ.leaveR false (Option.some.inj h).symm (fun heq21 => ?_)
 subst heq21
 have h := hK21
 refine WQ.blockR ?_
 exact WQ.returnsF h [] rfl (results1 rfl rfl) hle21 ⟨rfl, rfl⟩
 refine Pu (.bool false) (PO.ifaceNe Try.underlying40 (show ev _ _ = (.iface 76 (.agg #[.string o25, .int .i64 a26, GV e27])) from rfl) (show ev _ _ = (.iface 36 (.int .i64 a1)) from rfl) rfl) rfl ?_
 refine Pu (.bool false) (PO.pickT rfl rfl rfl) rfl ?_
 refine Nt ?_
 refine WC.condF (b := false) rfl rfl ?_
 refine WC.skip ?_
 refine WQ.thenC ?_
 refine WC.seq ?_
 refine Sr ?_
 refine Pm (GV (GErr.fault o25 a26 e27)) hs21_0 rfl ?_
 refine Pu (.tuple #[.nilIface, (.bool false)]) (PO.asserts (show ev _ _ = (.iface 76 (.agg #[.string o25, .int .i64 a26, GV e27])) from rfl) (la76_91 _ _)) rfl ?_
 refine Pm (.tuple #[.nilIface, (.bool false)]) rfl rfl ?_
 refine Pu .nilIface (PO.extract rfl rfl) rfl ?_
 refine Pu (.bool false) (PO.extract rfl rfl) rfl ?_
 refine Pa .nilIface rfl rfl ?_
 refine Pa (.bool false) rfl rfl ?_
 refine Ns ?_
 refine Pm (.bool false) rfl rfl ?_
 refine Pm (.bool false) rfl rfl ?_
 iterate 3 refine Of 26 rfl rfl rfl rfl ?_
 refine Pu (.bool false) (PO.pickF rfl rfl rfl) rfl ?_
 refine Nt ?_
 refine WC.condF (b := false) rfl rfl ?_
 refine WC.skip ?_
 refine WQ.thenC ?_
 refine Sr ?_
 refine Pm (GV (GErr.fault o25 a26 e27)) hs21_0 rfl ?_
 refine Nt ?_
 refine WC.block ?_
 refine Sr ?_
 refine Pu (.tuple #[(GV (GErr.fault o25 a26 e27)), (.bool true)]) (PO.asserts (show ev _ _ = (.iface 76 (.agg #[.string o25, .int .i64 a26, GV e27])) from rfl) (ha76_94 _ _)) rfl ?_
 refine Pu (.bool true) (PO.extract rfl rfl) rfl ?_
 refine Pu (GV (GErr.fault o25 a26 e27)) (PO.extract rfl rfl) rfl ?_
 refine Nt ?_
 refine WC.condT (b := true) rfl rfl ?_
 refine Sr ?_
 refine Pa (GV (GErr.fault o25 a26 e27)) rfl rfl ?_
 refine Ns ?_
 refine Pm (GV (GErr.fault o25 a26 e27)) rfl rfl ?_
 obtain ⟨r30, hr31, h⟩ := bnd h
 refine WL.eff (EO.invT (show ev _ _ = (.iface 76 (.agg #[.string o25, .int .i64 a26, GV e27])) from rfl) (me76_Unwrap _) co63 inv0 (f_api_Fault_Unwrap_ok (⟨o25, a26, e27⟩ : T_api_Fault) _ r30 hr31)) rfl ?_
 rintro _ M32 _ hle33 ⟨_, ⟨rfl, rfl⟩, rfl⟩
 refine WL.a0 ?_
 refine Pa (GV r30) rfl rfl ?_
 refine Ns ?_
 refine Pm (GV r30) rfl rfl ?_
 refine Pu (.bool r30.isNil) (PO.errNil Try.underlying40 rfl) rfl ?_
 refine Nt ?_
 refine WC.cond (b := r30.isNil) rfl (fun hb35 => ?_) (fun hb35 => ?_)
 have h := ite_t hb35 h
 refine Sr ?_
 refine Pa (.bool false) rfl rfl ?_
 refine Nt ?_
 refine WC.ret ?_
 refine WQ.blockR ?_
 refine WQ.blockR ?_
 refine WQ.leaveR false (Option.some.inj h).symm (fun heq21 => ?_)
 subst heq21
 have h := hK21
 refine WQ.blockR ?_
 exact WQ.returnsF h [] rfl (results1 rfl rfl) (hle21.trans hle33) ⟨rfl, rfl⟩
 have h := ite_f hb35 h
 refine WC.skip ?_
 refine WQ.blockN ?_
 refine WQ.blockN ?_
 refine WQ.again r30 (Option.some.inj h).symm ?_
 exact ⟨(hle21.trans hle33), rfl, rfl, hs21_1, hs21_2⟩
 refine Pu (.bool false) (PO.ifaceNe Try.underlying40 (show ev _ _ = (.iface 0 (.pointer (some b28))) from rfl) (show ev _ _ = (.iface 36 (.int .i64 a1)) from rfl) rfl) rfl ?_
 refine Pu (.bool false) (PO.pickT rfl rfl rfl) rfl ?_
 refine Nt ?_
 refine WC.condF (b := false) rfl rfl ?_
 refine WC.skip ?_
 refine WQ.thenC ?_
 refine WC.seq ?_
 refine Sr ?_
 refine Pm (GV (GErr.other b28)) hs21_0 rfl ?_
 refine Pu (.tuple #[.nilIface, (.bool false)]) (PO.asserts (show ev _ _ = (.iface 0 (.pointer (some b28))) from rfl) (la0_91 _ _)) rfl ?_
 refine Pm (.tuple #[.nilIface, (.bool false)]) rfl rfl ?_
 refine Pu .nilIface (PO.extract rfl rfl) rfl ?_
 refine Pu (.bool false) (PO.extract rfl rfl) rfl ?_
 refine Pa .nilIface rfl rfl ?_
 refine Pa (.bool false) rfl rfl ?_
 refine Ns ?_
 refine Pm (.bool false) rfl rfl ?_
 refine Pm (.bool false) rfl rfl ?_
 iterate 3 refine Of 26 rfl rfl rfl rfl ?_
 refine Pu (.bool false) (PO.pickF rfl rfl rfl) rfl ?_
 refine Nt ?_
 refine WC.condF (b := false) rfl rfl ?_
 refine WC.skip ?_
 refine WQ.thenC ?_
 refine Sr ?_
 refine Pm (GV (GErr.other b28)) hs21_0 rfl ?_
 refine Nt ?_
 refine WC.block ?_
 refine Sr ?_
 refine Pu (.tuple #[.nilIface, (.bool false)]) (PO.asserts (show ev _ _ = (.iface 0 (.pointer (some b28))) from rfl) (la0_94 _ _)) rfl ?_
 refine Pu (.bool false) (PO.extract rfl rfl) rfl ?_
 refine Pu .nilIface (PO.extract rfl rfl) rfl ?_
 refine Nt ?_
 refine WC.condF (b := false) rfl rfl ?_
 refine Sr ?_
 refine Pu (.tuple #[.nilIface, (.bool false)]) (PO.asserts (show ev _ _ = (.iface 0 (.pointer (some b28))) from rfl) (la0_96 _ _)) rfl ?_
 refine Pu (.bool false) (PO.extract rfl rfl) rfl ?_
 refine Pu .nilIface (PO.extract rfl rfl) rfl ?_
 refine Nt ?_
 refine WC.condF (b := false) rfl rfl ?_
 refine Sr ?_
 refine Pa (GV (GErr.other b28)) rfl rfl ?_
 refine Ns ?_
 refine Pa (.bool false) rfl rfl ?_
 refine Nt ?_
 refine WC.ret ?_
 refine WQ.blockR ?_
 refine WQ.blockR ?_
 refine WQ.leaveR false (Option.some.inj h).symm (fun heq21 => ?_)
 subst heq21
 have h := hK21
 refine WQ.blockR ?_
 exact WQ.returnsF h [] rfl (results1 rfl rfl) hle21 ⟨rfl, rfl⟩

noncomputable def f_errors_Is (a0 : GErr) (a1 : Int) : Option Bool :=
  (if a0.isNil = true then (match a0 with | .nil => (some false) | .code n22 => (some (decide (n22 = a1))) | .fault o23 a24 e25 => (some false) | .other b26 => (some false)) else ((f_errors_is a0 a1).bind fun (r27 : Bool) => (some r27)))
def f_errors_Is_post (a0 : GErr) (a1 : Int) : Bool → Value → IM → HL → Prop :=
  fun (r0 : Bool) (v : Value) (M' : IM) (H' : HL) => (.bool r0) = v ∧ H' = []
set_option maxHeartbeats 8000000 in
set_option maxRecDepth 100000 in
theorem f_errors_Is_ok (a0 : GErr) (a1 : Int) (M : IM) (res : Bool) (h : f_errors_Is a0 a1 = some res) :
    Tri Try.prog 31 #[(GV a0), (GV (GErr.code a1))] M [] (f_errors_Is_post a0 a1 res) := by
 unfold f_errors_Is at h
 refine Tri.enter (fn := Try.f31) Try.func31 rfl (Nat.le_of_ble_eq_true rfl) ?_
 intro F ρ hρ
 refine Sr ?_
 refine Pa (.bool false) rfl rfl ?_
 refine Nt ?_
 refine WC.seq ?_
 refine Sr ?_
 refine Pm (GV a0) (hρ 0) rfl ?_
 refine Pu (.bool a0.isNil) (PO.errNil Try.underlying40 rfl) rfl ?_
 refine Pm (.bool a0.isNil) rfl rfl ?_
 rcases Bool.eq_false_or_eq_true (a0.isNil) with hb21 | hb21
 have h := ite_t hb21 h
 iterate 2 refine Of 8 rfl rfl hb21 rfl ?_
 refine Pu (.bool true) (PO.pickT rfl hb21 rfl) rfl ?_
 refine Nt ?_
 refine WC.condT (b := true) rfl rfl ?_
 refine Sr ?_
 refine Pm (GV a0) (hρ 0) rfl ?_
 refine Pm (GV (GErr.code a1)) (hρ 1) rfl ?_
 rcases a0 with _ | n22 | ⟨o23, a24, e25⟩ | b26
 refine Pu (.bool false) (PO.nilIfaceNe Try.underlying40 (show ev _ _ = .nilIface from rfl) (show ev _ _ = (.iface 36 (.int .i64 a1)) from rfl)) rfl ?_
 refine Pa (.bool false) rfl rfl ?_
 refine Nt ?_
 refine WC.ret ?_
 refine WQ.thenR ?_
 exact WQ.returnsF h [] rfl (results1 rfl rfl) (IM.le.refl _) ⟨rfl, rfl⟩
 refine Pu (.bool (decide (n22 = a1))) (PO.ifaceInt Try.underlying40 Try.underlying36 cm36 (show ev _ _ = (.iface 36 (.int .i64 n22)) from rfl) (show ev _ _ = (.iface 36 (.int .i64 a1)) from rfl)) rfl ?_
 refine Pa (.bool (decide (n22 = a1))) rfl rfl ?_
 refine Nt ?_
 refine WC.ret ?_
 refine WQ.thenR ?_
 exact WQ.returnsF h [] rfl (results1 rfl rfl) (IM.le.refl _) ⟨rfl, rfl⟩
 refine Pu (.bool false) (PO.ifaceNe Try.underlying40 (show ev _ _ = (.iface 76 (.agg #[.string o23, .int .i64 a24, GV e25])) from rfl) (show ev _ _ = (.iface 36 (.int .i64 a1)) from rfl) rfl) rfl ?_
 refine Pa (.bool false) rfl rfl ?_
 refine Nt ?_
 refine WC.ret ?_
 refine WQ.thenR ?_
 exact WQ.returnsF h [] rfl (results1 rfl rfl) (IM.le.refl _) ⟨rfl, rfl⟩
 refine Pu (.bool false) (PO.ifaceNe Try.underlying40 (show ev _ _ = (.iface 0 (.pointer (some b26))) from rfl) (show ev _ _ = (.iface 36 (.int .i64 a1)) from rfl) rfl) rfl ?_
 refine Pa (.bool false) rfl rfl ?_
 refine Nt ?_
 refine WC.ret ?_
 refine WQ.thenR ?_
 exact WQ.returnsF h [] rfl (results1 rfl rfl) (IM.le.refl _) ⟨rfl, rfl⟩
 have h := ite_f hb21 h
 refine On 8 rfl rfl hb21 ?_
 refine Pm (GV (GErr.code a1)) (hρ 1) rfl ?_
 refine On 8 rfl rfl hb21 ?_
 refine Pu (.bool false) (PO.errNil (tc := 36) (tf := 76) (tp := 0) (e := GErr.code a1) Try.underlying40 rfl) rfl ?_
 refine Pu (.bool false) (PO.pickF rfl hb21 rfl) rfl ?_
 refine Nt ?_
 refine WC.condF (b := false) rfl rfl ?_
 refine WC.skip ?_
 refine WQ.thenC ?_
 refine Sr ?_
 refine Pm (GV (GErr.code a1)) (hρ 1) rfl ?_
 refine WL.eff (EO.extP xt39 (args1 (show ev _ _ = (.iface 36 (.int .i64 a1)) from rfl)) (ty36 _)) rfl ?_
 rintro _ _ _ - ⟨rfl, rfl, rfl⟩
 refine WL.eff (EO.invE (show ev _ _ = (.iface 89 (.agg #[.pointer (some ⟨0, 36, none⟩)])) from rfl) (mm_Comparable (.pointer (some ⟨0, 36, none⟩))) xt67 inv0 mr_Comparable_36) rfl ?_
 rintro _ _ _ - ⟨rfl, rfl, rfl⟩
 refine Pa (.bool true) rfl rfl ?_
 refine Ns ?_
 refine Pm (GV a0) (hρ 0) rfl ?_
 refine Pm (GV (GErr.code a1)) (hρ 1) rfl ?_
 refine Pm (.bool true) rfl rfl ?_
 obtain ⟨r27, hr28, h⟩ := bnd h
 refine WL.eff (EO.call0 co40 (f_errors_is_ok a0 a1 _ r27 hr28) (args3 rfl rfl rfl)) rfl ?_
 rintro _ M29 _ hle30 ⟨_, ⟨rfl, rfl⟩, rfl⟩
 refine WL.a0 ?_
 refine Pa (.bool r27) rfl rfl ?_
 refine Nt ?_
 refine WC.ret ?_
 exact WQ.returnsF h [] rfl (results1 rfl rfl) hle30 ⟨rfl, rfl⟩

noncomputable def f_fault_Is (a0 : GErr) (a1 : Int) : Option Bool :=
  ((f_errors_Is a0 a1).bind fun (r21 : Bool) => (some r21))
def f_fault_Is_post (a0 : GErr) (a1 : Int) : Bool → Value → IM → HL → Prop :=
  fun (r0 : Bool) (v : Value) (M' : IM) (H' : HL) => (.bool r0) = v ∧ H' = []
set_option maxHeartbeats 8000000 in
set_option maxRecDepth 100000 in
theorem f_fault_Is_ok (a0 : GErr) (a1 : Int) (M : IM) (res : Bool) (h : f_fault_Is a0 a1 = some res) :
    Tri Try.prog 18 #[(GV a0), (.int .i64 a1)] M [] (f_fault_Is_post a0 a1 res) := by
 unfold f_fault_Is at h
 refine Tri.enter (fn := Try.f18) Try.func18 rfl (Nat.le_of_ble_eq_true rfl) ?_
 intro F ρ hρ
 refine Sr ?_
 refine Pa (.bool false) rfl rfl ?_
 refine Ns ?_
 refine Pm (GV a0) (hρ 0) rfl ?_
 refine Pm (.int .i64 a1) (hρ 1) rfl ?_
 refine Pu (GV (GErr.code a1)) (PO.makeInterface cc36 rfl) rfl ?_
 obtain ⟨r21, hr22, h⟩ := bnd h
 refine WL.eff (EO.call0 co31 (f_errors_Is_ok a0 a1 _ r21 hr22) (args2 rfl rfl)) rfl ?_
 rintro _ M23 _ hle24 ⟨_, ⟨rfl, rfl⟩, rfl⟩
 refine WL.a0 ?_
 refine Pa (.bool r21) rfl rfl ?_
 refine Nt ?_
 refine WC.ret ?_
 exact WQ.returnsF h [] rfl (results1 rfl rfl) hle24 ⟨rfl, rfl⟩

noncomputable def f_client_Lost (a0 : T_api_Client) : Option T_api_Client :=
  ((f_client_next a0).bind fun (r23 : T_api_Client) => (some r23))
def f_client_Lost_post (a0 : T_api_Client) (v0_4 : Value) : T_api_Client → Value → IM → HL → Prop :=
  fun (r0 : T_api_Client) (v : Value) (M' : IM) (H' : HL) => ∃ vz0_4, (.agg #[(.int .i64 r0.Id), (.int .i64 r0.Serial), (.int .i64 r0.Voters), (.int .i64 r0.Node), vz0_4, (.int .i64 r0.Tries)]) = v ∧ H' = [] ∧ RS kd_api_Request M' vz0_4 r0.Open
set_option maxHeartbeats 8000000 in
set_option maxRecDepth 100000 in
theorem f_client_Lost_ok (a0 : T_api_Client) (M : IM) (v0_4 : Value) (h0_4 : RS kd_api_Request M v0_4 a0.Open) (res : T_api_Client) (h : f_client_Lost a0 = some res) :
    Tri Try.prog 14 #[(.agg #[(.int .i64 a0.Id), (.int .i64 a0.Serial), (.int .i64 a0.Voters), (.int .i64 a0.Node), v0_4, (.int .i64 a0.Tries)])] M [] (f_client_Lost_post a0 v0_4 res) := by
 unfold f_client_Lost at h
 refine Tri.enter (fn := Try.f14) Try.func14 rfl (Nat.le_of_ble_eq_true rfl) ?_
 intro F ρ hρ
 refine Sr ?_
 refine WL.eff (EO.box (cs := #[(.int .i64 a0.Id), (.int .i64 a0.Serial), (.int .i64 a0.Voters), (.int .i64 a0.Node), v0_4, (.int .i64 a0.Tries)]) (congrArg Value.cells (asE (.agg #[(.int .i64 a0.Id), (.int .i64 a0.Serial), (.int .i64 a0.Voters), (.int .i64 a0.Node), v0_4, (.int .i64 a0.Tries)]) (hρ 0)))) rfl ?_
 rintro _ _ _ - ⟨rfl, g21, rfl, rfl⟩
 refine WL.eff (EO.alloc ze24 rfl) rfl ?_
 rintro _ _ _ - ⟨rfl, g22, rfl, rfl⟩
 refine Ns ?_
 refine Pu (.agg #[(.int .i64 a0.Id), (.int .i64 a0.Serial), (.int .i64 a0.Voters), (.int .i64 a0.Node), v0_4, (.int .i64 a0.Tries)]) (PO.loadBA (cs := [(.int .i64 a0.Id), (.int .i64 a0.Serial), (.int .i64 a0.Voters), (.int .i64 a0.Node), v0_4, (.int .i64 a0.Tries)]) 1 ag24 sz24 rfl rfl rfl) rfl ?_
 obtain ⟨r23, hr24, h⟩ := bnd h
 refine WL.eff (EO.call0 co24 (f_client_next_ok a0 _ _ h0_4 r23 hr24) (args1 rfl)) rfl ?_
 rintro _ M25 _ hle26 ⟨_, ⟨vq27_4, rfl, rfl, hq27_4⟩, rfl⟩
 have h0_4 := h0_4.mono hle26
 refine WL.a0 ?_
 refine WL.eff (EO.storeL (v := (.agg #[(.int .i64 r23.Id), (.int .i64 r23.Serial), (.int .i64 r23.Voters), (.int .i64 r23.Node), vq27_4, (.int .i64 r23.Tries)])) (vl := [(.int .i64 r23.Id), (.int .i64 r23.Serial), (.int .i64 r23.Voters), (.int .i64 r23.Node), vq27_4, (.int .i64 r23.Tries)]) (arr' := [(.int .i64 r23.Id), (.int .i64 r23.Serial), (.int .i64 r23.Voters), (.int .i64 r23.Node), vq27_4, (.int .i64 r23.Tries)]) rfl sz24 rfl rfl (onesOf (Ones.cons rfl (Ones.cons rfl (Ones.cons rfl (Ones.cons rfl (Ones.cons (RS.one hq27_4) (Ones.cons rfl Ones.nil))))))) rfl rfl rfl) rfl ?_
 rintro _ _ _ - ⟨rfl, rfl⟩
 refine Nt ?_
 refine WC.ret ?_
 refine WQ.f1 ?_
 refine WQ.drop ?_
 exact WQ.returnsD h [] (fun _ hs => hs.drop) (resultsL1 rfl (RV.cellA (cs := [(.int .i64 r23.Id), (.int .i64 r23.Serial), (.int .i64 r23.Voters), (.int .i64 r23.Node), vq27_4, (.int .i64 r23.Tries)]) 0 ag24 sz24 rfl rfl rfl)) hle26 ⟨vq27_4, rfl, rfl, hq27_4⟩


end Go.Proofs.Ytdlilclopmhiaaa.G
