/- Go functions: what they come to, and that they do. Printed by a program of the session (gen). -/
import Derived.Test.YtdlilclopmhiaaaCF
import Derived.Test.YtdlilclopmhiaaaC10
set_option linter.unusedVariables false
set_option linter.unusedSimpArgs false
namespace Go.Proofs.Ytdlilclopmhiaaa.G
open Go Go.KK

noncomputable def f_law28_ClientStays (a0 : T_api_Client) (a1 : T_api_Request) (a2 : T_api_Reply) : Option Bool :=
  ((((f_law28_light a0).bind fun (r26 : Bool) => (if (!r26) = true then (some true) else ((f_ref20_Short a1).bind fun (r32 : Bool) => (if (!r32) = true then (some true) else ((f_ref28_Check a0).bind fun (r38 : Int) => (some (decide (r38 ≠ (0 : Int))))))))) : Option Bool).bind fun (x24 : Bool) => (if x24 = true then ((f_law28_works).bind fun (r44 : Bool) => (some r44)) else ((f_client_Begin a0 a1).bind fun (r49, r50) => ((f_client_Ask a0).bind fun (r57, r58, r59, r60) => ((f_client_Heard a0 a2).bind fun (r70, r71) => ((((f_client_Check r49).bind fun (r80 : GErr) => (if r80.isNil = true then ((f_client_Check r57).bind fun (r86 : GErr) => (if r86.isNil = true then ((f_client_Check r70).bind fun (r92 : GErr) => (if r92.isNil = true then ((f_client_Lost a0).bind fun (r98 : T_api_Client) => ((f_client_Check r98).bind fun (r103 : GErr) => (if r103.isNil = true then ((f_law28_works).bind fun (r109 : Bool) => (some r109)) else (some false)))) else (some false))) else (some false))) else (some false))) : Option Bool).bind fun (x78 : Bool) => (some x78)))))))
def f_law28_ClientStays_post (a0 : T_api_Client) (a1 : T_api_Request) (a2 : T_api_Reply) (v0_4 v1_10 : Value) : Bool → Value → IM → HL → Prop :=
  fun (r0 : Bool) (v : Value) (M' : IM) (H' : HL) => (.bool r0) = v ∧ H' = []
set_option maxHeartbeats 8000000 in
set_option maxRecDepth 100000 in
theorem f_law28_ClientStays_ok (a0 : T_api_Client) (a1 : T_api_Request) (a2 : T_api_Reply) (M : IM) (v0_4 v1_10 : Value) (h0_4 : RS kd_api_Request M v0_4 a0.Open) (h1_10 : RS (Kd.int .i64) M v1_10 a1.Ids) (res : Bool) (h : f_law28_ClientStays a0 a1 a2 = some res) :
    Tri Try.prog 3 #[(.agg #[(.int .i64 a0.Id), (.int .i64 a0.Serial), (.int .i64 a0.Voters), (.int .i64 a0.Node), v0_4, (.int .i64 a0.Tries)]), (.agg #[(.int .i64 a1.Client), (.int .i64 a1.Serial), (.int .i64 a1.Kind), (.string a1.Name), (.string a1.Key), (.string a1.Value), (.bool a1.Flag), (.int .i64 a1.Parts), (.int .i64 a1.Replicas), (.int .i64 a1.Part), v1_10, (.int .i64 a1.Broker), (.int .i64 a1.Epoch), (.string a1.Rack), (.int .i64 a1.Word.Broker), (.int .i64 a1.Word.Epoch), (.int .i64 a1.Word.High), (.bool a1.Word.Fence), (.bool a1.Word.Leave)]), (.agg #[(.int .i64 a2.Client), (.int .i64 a2.Serial), (.int .i64 a2.Code), (.int .i64 a2.Leader), (.bool a2.Told.Fenced), (.bool a2.Told.Leaving), (.bool a2.Told.Stop)])] M [] (f_law28_ClientStays_post a0 a1 a2 v0_4 v1_10 res) := by
 unfold f_law28_ClientStays at h
 refine Tri.enter (fn := Try.f3) Try.func3 rfl (Nat.le_of_ble_eq_true rfl) ?_
 intro F ρ hρ
 refine Sr ?_
 refine WL.eff (EO.box (cs := #[(.int .i64 a0.Id), (.int .i64 a0.Serial), (.int .i64 a0.Voters), (.int .i64 a0.Node), v0_4, (.int .i64 a0.Tries)]) (congrArg Value.cells (asE (.agg #[(.int .i64 a0.Id), (.int .i64 a0.Serial), (.int .i64 a0.Voters), (.int .i64 a0.Node), v0_4, (.int .i64 a0.Tries)]) (hρ 0)))) rfl ?_
 rintro _ _ _ - ⟨rfl, g21, rfl, rfl⟩
 refine WL.eff (EO.box (cs := #[(.int .i64 a1.Client), (.int .i64 a1.Serial), (.int .i64 a1.Kind), (.string a1.Name), (.string a1.Key), (.string a1.Value), (.bool a1.Flag), (.int .i64 a1.Parts), (.int .i64 a1.Replicas), (.int .i64 a1.Part), v1_10, (.int .i64 a1.Broker), (.int .i64 a1.Epoch), (.string a1.Rack), (.int .i64 a1.Word.Broker), (.int .i64 a1.Word.Epoch), (.int .i64 a1.Word.High), (.bool a1.Word.Fence), (.bool a1.Word.Leave)]) (congrArg Value.cells (asE (.agg #[(.int .i64 a1.Client), (.int .i64 a1.Serial), (.int .i64 a1.Kind), (.string a1.Name), (.string a1.Key), (.string a1.Value), (.bool a1.Flag), (.int .i64 a1.Parts), (.int .i64 a1.Replicas), (.int .i64 a1.Part), v1_10, (.int .i64 a1.Broker), (.int .i64 a1.Epoch), (.string a1.Rack), (.int .i64 a1.Word.Broker), (.int .i64 a1.Word.Epoch), (.int .i64 a1.Word.High), (.bool a1.Word.Fence), (.bool a1.Word.Leave)]) (hρ 1)))) rfl ?_
 rintro _ _ _ - ⟨rfl, g22, rfl, rfl⟩
 refine WL.eff (EO.box (cs := #[(.int .i64 a2.Client), (.int .i64 a2.Serial), (.int .i64 a2.Code), (.int .i64 a2.Leader), (.bool a2.Told.Fenced), (.bool a2.Told.Leaving), (.bool a2.Told.Stop)]) (congrArg Value.cells (asE (.agg #[(.int .i64 a2.Client), (.int .i64 a2.Serial), (.int .i64 a2.Code), (.int .i64 a2.Leader), (.bool a2.Told.Fenced), (.bool a2.Told.Leaving), (.bool a2.Told.Stop)]) (hρ 2)))) rfl ?_
 rintro _ _ _ - ⟨rfl, g23, rfl, rfl⟩
 refine Pa (.bool false) rfl rfl ?_
 refine Nt ?_
 refine WC.seq ?_
 obtain ⟨x24, hj25, h⟩ := bnd h
 refine WC.joinF (fun (x24 : Bool) ρ' M' H' => M.le M' ∧ [(g23, .cells #[(.int .i64 a2.Client), (.int .i64 a2.Serial), (.int .i64 a2.Code), (.int .i64 a2.Leader), (.bool a2.Told.Fenced), (.bool a2.Told.Leaving), (.bool a2.Told.Stop)] 33 (0, 0))] :: [(g22, .cells #[(.int .i64 a1.Client), (.int .i64 a1.Serial), (.int .i64 a1.Kind), (.string a1.Name), (.string a1.Key), (.string a1.Value), (.bool a1.Flag), (.int .i64 a1.Parts), (.int .i64 a1.Replicas), (.int .i64 a1.Part), v1_10, (.int .i64 a1.Broker), (.int .i64 a1.Epoch), (.string a1.Rack), (.int .i64 a1.Word.Broker), (.int .i64 a1.Word.Epoch), (.int .i64 a1.Word.High), (.bool a1.Word.Fence), (.bool a1.Word.Leave)] 29 (0, 0))] :: [(g21, .cells #[(.int .i64 a0.Id), (.int .i64 a0.Serial), (.int .i64 a0.Voters), (.int .i64 a0.Node), v0_4, (.int .i64 a0.Tries)] 24 (0, 0))] :: F = H' ∧ ρ' 3 = (.pointer (some ⟨g21, 0, none⟩)) ∧ ρ' 4 = (.pointer (some ⟨g22, 0, none⟩)) ∧ ρ' 5 = (.pointer (some ⟨g23, 0, none⟩)) ∧ ρ' 27 = (.bool x24)) x24 ?_ ?_
 have h325 := h
 have h := hj25
 refine WC.region ?_
 refine Pu (.agg #[(.int .i64 a0.Id), (.int .i64 a0.Serial), (.int .i64 a0.Voters), (.int .i64 a0.Node), v0_4, (.int .i64 a0.Tries)]) (PO.loadBA (cs := [(.int .i64 a0.Id), (.int .i64 a0.Serial), (.int .i64 a0.Voters), (.int .i64 a0.Node), v0_4, (.int .i64 a0.Tries)]) 2 ag24 sz24 rfl rfl rfl) rfl ?_
 obtain ⟨r26, hr27, h⟩ := bnd h
 refine WL.eff (EO.call0 co6 (f_law28_light_ok a0 _ _ h0_4 r26 hr27) (args1 rfl)) rfl ?_
 rintro _ M28 _ hle29 ⟨_, ⟨rfl, rfl⟩, rfl⟩
 have h0_4 := h0_4.mono hle29
 have h1_10 := h1_10.mono hle29
 refine WL.a0 ?_
 refine Pu (.bool (!r26)) (PO.not rfl) rfl ?_
 refine Pm (.bool (!r26)) rfl rfl ?_
 rcases Bool.eq_false_or_eq_true (!r26) with hb31 | hb31
 have h := ite_t hb31 h
 iterate 3 refine Of 18 rfl rfl hb31 rfl ?_
 refine Pu (.bool true) (PO.pickT rfl hb31 rfl) rfl ?_
 refine Pm (.bool true) rfl rfl ?_
 iterate 3 refine Of 23 rfl rfl rfl rfl ?_
 refine Pu (.bool true) (PO.pickT rfl rfl rfl) rfl ?_
 refine WL.nil ?_
 obtain rfl := Option.some.inj h
 refine WQ.thenJ ?_
 exact ⟨hle29, rfl, rfl, rfl, rfl, rfl⟩
 have h := ite_f hb31 h
 refine On 18 rfl rfl hb31 ?_
 refine Pu (.agg #[(.int .i64 a1.Client), (.int .i64 a1.Serial), (.int .i64 a1.Kind), (.string a1.Name), (.string a1.Key), (.string a1.Value), (.bool a1.Flag), (.int .i64 a1.Parts), (.int .i64 a1.Replicas), (.int .i64 a1.Part), v1_10, (.int .i64 a1.Broker), (.int .i64 a1.Epoch), (.string a1.Rack), (.int .i64 a1.Word.Broker), (.int .i64 a1.Word.Epoch), (.int .i64 a1.Word.High), (.bool a1.Word.Fence), (.bool a1.Word.Leave)]) (PO.loadBA (cs := [(.int .i64 a1.Client), (.int .i64 a1.Serial), (.int .i64 a1.Kind), (.string a1.Name), (.string a1.Key), (.string a1.Value), (.bool a1.Flag), (.int .i64 a1.Parts), (.int .i64 a1.Replicas), (.int .i64 a1.Part), v1_10, (.int .i64 a1.Broker), (.int .i64 a1.Epoch), (.string a1.Rack), (.int .i64 a1.Word.Broker), (.int .i64 a1.Word.Epoch), (.int .i64 a1.Word.High), (.bool a1.Word.Fence), (.bool a1.Word.Leave)]) 1 ag29 sz29 rfl rfl rfl) rfl ?_
 refine On 18 rfl rfl hb31 ?_
 obtain ⟨r32, hr33, h⟩ := bnd h
 refine WL.eff (EO.call0 co7 (f_ref20_Short_ok a1 _ _ h1_10 r32 hr33) (args1 rfl)) rfl ?_
 rintro _ M34 _ hle35 ⟨_, ⟨rfl, rfl⟩, rfl⟩
 have h0_4 := h0_4.mono hle35
 have h1_10 := h1_10.mono hle35
 refine WL.a0 ?_
 refine On 18 rfl rfl hb31 ?_
 refine Pu (.bool (!r32)) (PO.not rfl) rfl ?_
 refine Pu (.bool (!r32)) (PO.pickF rfl hb31 rfl) rfl ?_
 refine Pm (.bool (!r32)) rfl rfl ?_
 rcases Bool.eq_false_or_eq_true (!r32) with hb37 | hb37
 have h := ite_t hb37 h
 iterate 3 refine Of 23 rfl rfl hb37 rfl ?_
 refine Pu (.bool true) (PO.pickT rfl hb37 rfl) rfl ?_
 refine WL.nil ?_
 obtain rfl := Option.some.inj h
 refine WQ.thenJ ?_
 exact ⟨(hle29.trans hle35), rfl, rfl, rfl, rfl, rfl⟩
 have h := ite_f hb37 h
 refine On 23 rfl rfl hb37 ?_
 refine Pu (.agg #[(.int .i64 a0.Id), (.int .i64 a0.Serial), (.int .i64 a0.Voters), (.int .i64 a0.Node), v0_4, (.int .i64 a0.Tries)]) (PO.loadBA (cs := [(.int .i64 a0.Id), (.int .i64 a0.Serial), (.int .i64 a0.Voters), (.int .i64 a0.Node), v0_4, (.int .i64 a0.Tries)]) 2 ag24 sz24 rfl rfl rfl) rfl ?_
 refine On 23 rfl rfl hb37 ?_
 obtain ⟨r38, hr39, h⟩ := bnd h
 refine WL.eff (EO.call0 co8 (f_ref28_Check_ok a0 _ _ h0_4 r38 hr39) (args1 rfl)) rfl ?_
 rintro _ M40 _ hle41 ⟨_, ⟨rfl, rfl⟩, rfl⟩
 have h0_4 := h0_4.mono hle41
 have h1_10 := h1_10.mono hle41
 refine WL.a0 ?_
 refine On 23 rfl rfl hb37 ?_
 refine Pu (.bool (decide (r38 ≠ (0 : Int)))) (PO.neq rfl rfl) rfl ?_
 refine Pu (.bool (decide (r38 ≠ (0 : Int)))) (PO.pickF rfl hb37 rfl) rfl ?_
 refine WL.nil ?_
 obtain rfl := Option.some.inj h
 refine WQ.thenJ ?_
 exact ⟨((hle29.trans hle35).trans hle41), rfl, rfl, rfl, rfl, rfl⟩
 rintro ρ25 M25 H25 ⟨hle25, rfl, hs25_3, hs25_4, hs25_5, hs25_27⟩
 have h1_10 := h1_10.mono hle25
 have h0_4 := h0_4.mono hle25
 refine WC.cond (b := x24) hs25_27 (fun hb43 => ?_) (fun hb43 => ?_)
 have h := ite_t hb43 h
 refine Sr ?_
 obtain ⟨r44, hr45, h⟩ := bnd h
 refine WL.eff (EO.call0 co9 (f_law28_works_ok _ r44 hr45) (args0)) rfl ?_
 rintro _ M46 _ hle47 ⟨_, ⟨rfl, rfl⟩, rfl⟩
 have h1_10 := h1_10.mono hle47
 have h0_4 := h0_4.mono hle47
 refine WL.a0 ?_
 refine Pa (.bool r44) rfl rfl ?_
 refine Nt ?_
 refine WC.ret ?_
 refine WQ.thenR ?_
 refine WQ.drop ?_
 refine WQ.drop ?_
 refine WQ.drop ?_
 exact WQ.returnsF h [] rfl (results1 rfl rfl) (hle25.trans hle47) ⟨rfl, rfl⟩
 have h := ite_f hb43 h
 refine WC.skip ?_
 refine WQ.thenC ?_
 refine Sr ?_
 refine Pu (.agg #[(.int .i64 a0.Id), (.int .i64 a0.Serial), (.int .i64 a0.Voters), (.int .i64 a0.Node), v0_4, (.int .i64 a0.Tries)]) (PO.loadBA (cs := [(.int .i64 a0.Id), (.int .i64 a0.Serial), (.int .i64 a0.Voters), (.int .i64 a0.Node), v0_4, (.int .i64 a0.Tries)]) 2 ag24 sz24 hs25_3 rfl rfl) rfl ?_
 refine Pu (.agg #[(.int .i64 a1.Client), (.int .i64 a1.Serial), (.int .i64 a1.Kind), (.string a1.Name), (.string a1.Key), (.string a1.Value), (.bool a1.Flag), (.int .i64 a1.Parts), (.int .i64 a1.Replicas), (.int .i64 a1.Part), v1_10, (.int .i64 a1.Broker), (.int .i64 a1.Epoch), (.string a1.Rack), (.int .i64 a1.Word.Broker), (.int .i64 a1.Word.Epoch), (.int .i64 a1.Word.High), (.bool a1.Word.Fence), (.bool a1.Word.Leave)]) (PO.loadBA (cs := [(.int .i64 a1.Client), (.int .i64 a1.Serial), (.int .i64 a1.Kind), (.string a1.Name), (.string a1.Key), (.string a1.Value), (.bool a1.Flag), (.int .i64 a1.Parts), (.int .i64 a1.Replicas), (.int .i64 a1.Part), v1_10, (.int .i64 a1.Broker), (.int .i64 a1.Epoch), (.string a1.Rack), (.int .i64 a1.Word.Broker), (.int .i64 a1.Word.Epoch), (.int .i64 a1.Word.High), (.bool a1.Word.Fence), (.bool a1.Word.Leave)]) 1 ag29 sz29 hs25_4 rfl rfl) rfl ?_
 obtain ⟨⟨r49, r50⟩, hr51, h⟩ := bnd h
 refine WL.eff (EO.call0 co10 (f_client_Begin_ok a0 a1 _ _ _ h0_4 h1_10 (r49, r50) hr51) (args2 rfl rfl)) rfl ?_
 rintro _ M52 _ hle53 ⟨_, ⟨vq54_4, rfl, rfl, hq54_4⟩, rfl⟩
 have h0_4 := h0_4.mono hle53
 have h1_10 := h1_10.mono hle53
 refine WL.a0 ?_
 refine Pm (.tuple #[(.agg #[(.int .i64 r49.Id), (.int .i64 r49.Serial), (.int .i64 r49.Voters), (.int .i64 r49.Node), vq54_4, (.int .i64 r49.Tries)]), (GV r50)]) rfl rfl ?_
 refine Pu (.agg #[(.int .i64 r49.Id), (.int .i64 r49.Serial), (.int .i64 r49.Voters), (.int .i64 r49.Node), vq54_4, (.int .i64 r49.Tries)]) (PO.extract rfl rfl) rfl ?_
 refine Pu (GV r50) (PO.extract rfl rfl) rfl ?_
 refine WL.eff (EO.alloc ze24 rfl) rfl ?_
 rintro _ _ _ - ⟨rfl, g56, rfl, rfl⟩
 refine WL.eff (EO.storeL (v := (.agg #[(.int .i64 r49.Id), (.int .i64 r49.Serial), (.int .i64 r49.Voters), (.int .i64 r49.Node), vq54_4, (.int .i64 r49.Tries)])) (vl := [(.int .i64 r49.Id), (.int .i64 r49.Serial), (.int .i64 r49.Voters), (.int .i64 r49.Node), vq54_4, (.int .i64 r49.Tries)]) (arr' := [(.int .i64 r49.Id), (.int .i64 r49.Serial), (.int .i64 r49.Voters), (.int .i64 r49.Node), vq54_4, (.int .i64 r49.Tries)]) rfl sz24 rfl rfl (onesOf (Ones.cons rfl (Ones.cons rfl (Ones.cons rfl (Ones.cons rfl (Ones.cons (RS.one hq54_4) (Ones.cons rfl Ones.nil))))))) rfl rfl rfl) rfl ?_
 rintro _ _ _ - ⟨rfl, rfl⟩
 refine Pa (GV r50) rfl rfl ?_
 refine Ns ?_
 refine Pu (.agg #[(.int .i64 a0.Id), (.int .i64 a0.Serial), (.int .i64 a0.Voters), (.int .i64 a0.Node), v0_4, (.int .i64 a0.Tries)]) (PO.loadBA (cs := [(.int .i64 a0.Id), (.int .i64 a0.Serial), (.int .i64 a0.Voters), (.int .i64 a0.Node), v0_4, (.int .i64 a0.Tries)]) 3 ag24 sz24 hs25_3 rfl rfl) rfl ?_
 obtain ⟨⟨r57, r58, r59, r60⟩, hr61, h⟩ := bnd h
 refine WL.eff (EO.call0 co11 (f_client_Ask_ok a0 _ _ h0_4 (r57, r58, r59, r60) hr61) (args1 rfl)) rfl ?_
 rintro _ M62 _ hle63 ⟨_, ⟨vq64_4, vq66_10, cq66_10, rfl, rfl, hq64_4, hq66_10⟩, rfl⟩
 have h0_4 := h0_4.mono hle63
 have h1_10 := h1_10.mono hle63
 have hq54_4 := hq54_4.mono hle63
 refine WL.a1 ?_
 refine Pm (.tuple #[(.agg #[(.int .i64 r57.Id), (.int .i64 r57.Serial), (.int .i64 r57.Voters), (.int .i64 r57.Node), vq64_4, (.int .i64 r57.Tries)]), (.int .i64 r58), (.agg #[(.int .i64 r59.Client), (.int .i64 r59.Serial), (.int .i64 r59.Kind), (.string r59.Name), (.string r59.Key), (.string r59.Value), (.bool r59.Flag), (.int .i64 r59.Parts), (.int .i64 r59.Replicas), (.int .i64 r59.Part), vq66_10, (.int .i64 r59.Broker), (.int .i64 r59.Epoch), (.string r59.Rack), (.int .i64 r59.Word.Broker), (.int .i64 r59.Word.Epoch), (.int .i64 r59.Word.High), (.bool r59.Word.Fence), (.bool r59.Word.Leave)]), (.bool r60)]) rfl rfl ?_
 refine Pu (.agg #[(.int .i64 r57.Id), (.int .i64 r57.Serial), (.int .i64 r57.Voters), (.int .i64 r57.Node), vq64_4, (.int .i64 r57.Tries)]) (PO.extract rfl rfl) rfl ?_
 refine Pu (.int .i64 r58) (PO.extract rfl rfl) rfl ?_
 refine Pu (.agg #[(.int .i64 r59.Client), (.int .i64 r59.Serial), (.int .i64 r59.Kind), (.string r59.Name), (.string r59.Key), (.string r59.Value), (.bool r59.Flag), (.int .i64 r59.Parts), (.int .i64 r59.Replicas), (.int .i64 r59.Part), vq66_10, (.int .i64 r59.Broker), (.int .i64 r59.Epoch), (.string r59.Rack), (.int .i64 r59.Word.Broker), (.int .i64 r59.Word.Epoch), (.int .i64 r59.Word.High), (.bool r59.Word.Fence), (.bool r59.Word.Leave)]) (PO.extract rfl rfl) rfl ?_
 refine Pu (.bool r60) (PO.extract rfl rfl) rfl ?_
 refine WL.eff (EO.alloc ze24 rfl) rfl ?_
 rintro _ _ _ - ⟨rfl, g68, rfl, rfl⟩
 refine WL.eff (EO.alloc ze29 rfl) rfl ?_
 rintro _ _ _ - ⟨rfl, g69, rfl, rfl⟩
 refine WL.f1 ?_
 refine WL.eff (EO.storeL (v := (.agg #[(.int .i64 r57.Id), (.int .i64 r57.Serial), (.int .i64 r57.Voters), (.int .i64 r57.Node), vq64_4, (.int .i64 r57.Tries)])) (vl := [(.int .i64 r57.Id), (.int .i64 r57.Serial), (.int .i64 r57.Voters), (.int .i64 r57.Node), vq64_4, (.int .i64 r57.Tries)]) (arr' := [(.int .i64 r57.Id), (.int .i64 r57.Serial), (.int .i64 r57.Voters), (.int .i64 r57.Node), vq64_4, (.int .i64 r57.Tries)]) rfl sz24 rfl rfl (onesOf (Ones.cons rfl (Ones.cons rfl (Ones.cons rfl (Ones.cons rfl (Ones.cons (RS.one hq64_4) (Ones.cons rfl Ones.nil))))))) rfl rfl rfl) rfl ?_
 rintro _ _ _ - ⟨rfl, rfl⟩
 refine Pa (.int .i64 r58) rfl rfl ?_
 refine WL.f1 ?_
 refine WL.eff (EO.storeL (v := (.agg #[(.int .i64 r59.Client), (.int .i64 r59.Serial), (.int .i64 r59.Kind), (.string r59.Name), (.string r59.Key), (.string r59.Value), (.bool r59.Flag), (.int .i64 r59.Parts), (.int .i64 r59.Replicas), (.int .i64 r59.Part), vq66_10, (.int .i64 r59.Broker), (.int .i64 r59.Epoch), (.string r59.Rack), (.int .i64 r59.Word.Broker), (.int .i64 r59.Word.Epoch), (.int .i64 r59.Word.High), (.bool r59.Word.Fence), (.bool r59.Word.Leave)])) (vl := [(.int .i64 r59.Client), (.int .i64 r59.Serial), (.int .i64 r59.Kind), (.string r59.Name), (.string r59.Key), (.string r59.Value), (.bool r59.Flag), (.int .i64 r59.Parts), (.int .i64 r59.Replicas), (.int .i64 r59.Part), vq66_10, (.int .i64 r59.Broker), (.int .i64 r59.Epoch), (.string r59.Rack), (.int .i64 r59.Word.Broker), (.int .i64 r59.Word.Epoch), (.int .i64 r59.Word.High), (.bool r59.Word.Fence), (.bool r59.Word.Leave)]) (arr' := [(.int .i64 r59.Client), (.int .i64 r59.Serial), (.int .i64 r59.Kind), (.string r59.Name), (.string r59.Key), (.string r59.Value), (.bool r59.Flag), (.int .i64 r59.Parts), (.int .i64 r59.Replicas), (.int .i64 r59.Part), vq66_10, (.int .i64 r59.Broker), (.int .i64 r59.Epoch), (.string r59.Rack), (.int .i64 r59.Word.Broker), (.int .i64 r59.Word.Epoch), (.int .i64 r59.Word.High), (.bool r59.Word.Fence), (.bool r59.Word.Leave)]) rfl sz29 rfl rfl (onesOf (Ones.cons rfl (Ones.cons rfl (Ones.cons rfl (Ones.cons rfl (Ones.cons rfl (Ones.cons rfl (Ones.cons rfl (Ones.cons rfl (Ones.cons rfl (Ones.cons rfl (Ones.cons (OwnS.one hq66_10) (Ones.cons rfl (Ones.cons rfl (Ones.cons rfl (Ones.cons rfl (Ones.cons rfl (Ones.cons rfl (Ones.cons rfl (Ones.cons rfl Ones.nil)))))))))))))))))))) rfl rfl (by kernel_rfl)) rfl ?_
 rintro _ _ _ - ⟨rfl, rfl⟩
 refine Pa (.bool r60) rfl rfl ?_
 refine Ns ?_
 refine Pu (.agg #[(.int .i64 a0.Id), (.int .i64 a0.Serial), (.int .i64 a0.Voters), (.int .i64 a0.Node), v0_4, (.int .i64 a0.Tries)]) (PO.loadBA (cs := [(.int .i64 a0.Id), (.int .i64 a0.Serial), (.int .i64 a0.Voters), (.int .i64 a0.Node), v0_4, (.int .i64 a0.Tries)]) 6 ag24 sz24 hs25_3 rfl rfl) rfl ?_
 refine Pu (.agg #[(.int .i64 a2.Client), (.int .i64 a2.Serial), (.int .i64 a2.Code), (.int .i64 a2.Leader), (.bool a2.Told.Fenced), (.bool a2.Told.Leaving), (.bool a2.Told.Stop)]) (PO.loadBA (cs := [(.int .i64 a2.Client), (.int .i64 a2.Serial), (.int .i64 a2.Code), (.int .i64 a2.Leader), (.bool a2.Told.Fenced), (.bool a2.Told.Leaving), (.bool a2.Told.Stop)]) 4 ag33 sz33 hs25_5 rfl rfl) rfl ?_
 obtain ⟨⟨r70, r71⟩, hr72, h⟩ := bnd h
 refine WL.eff (EO.call0 co12 (f_client_Heard_ok a0 a2 _ _ h0_4 (r70, r71) hr72) (args2 rfl rfl)) rfl ?_
 rintro _ M73 _ hle74 ⟨_, ⟨vq75_4, rfl, rfl, hq75_4⟩, rfl⟩
 have h0_4 := h0_4.mono hle74
 have h1_10 := h1_10.mono hle74
 have hq54_4 := hq54_4.mono hle74
 have hq64_4 := hq64_4.mono hle74
 have hq66_10 := hq66_10.mono hle74
 refine WL.a0 ?_
 refine Pm (.tuple #[(.agg #[(.int .i64 r70.Id), (.int .i64 r70.Serial), (.int .i64 r70.Voters), (.int .i64 r70.Node), vq75_4, (.int .i64 r70.Tries)]), (.bool r71)]) rfl rfl ?_
 refine Pu (.agg #[(.int .i64 r70.Id), (.int .i64 r70.Serial), (.int .i64 r70.Voters), (.int .i64 r70.Node), vq75_4, (.int .i64 r70.Tries)]) (PO.extract rfl rfl) rfl ?_
 refine Pu (.bool r71) (PO.extract rfl rfl) rfl ?_
 refine WL.eff (EO.alloc ze24 rfl) rfl ?_
 rintro _ _ _ - ⟨rfl, g77, rfl, rfl⟩
 refine WL.eff (EO.storeL (v := (.agg #[(.int .i64 r70.Id), (.int .i64 r70.Serial), (.int .i64 r70.Voters), (.int .i64 r70.Node), vq75_4, (.int .i64 r70.Tries)])) (vl := [(.int .i64 r70.Id), (.int .i64 r70.Serial), (.int .i64 r70.Voters), (.int .i64 r70.Node), vq75_4, (.int .i64 r70.Tries)]) (arr' := [(.int .i64 r70.Id), (.int .i64 r70.Serial), (.int .i64 r70.Voters), (.int .i64 r70.Node), vq75_4, (.int .i64 r70.Tries)]) rfl sz24 rfl rfl (onesOf (Ones.cons rfl (Ones.cons rfl (Ones.cons rfl (Ones.cons rfl (Ones.cons (RS.one hq75_4) (Ones.cons rfl Ones.nil))))))) rfl rfl rfl) rfl ?_
 rintro _ _ _ - ⟨rfl, rfl⟩
 refine Pa (.bool r71) rfl rfl ?_
 refine Nt ?_
 obtain ⟨x78, hj79, h⟩ := bnd h
 refine WC.joinF (fun (x78 : Bool) ρ' M' H' => M73.le M' ∧ [(g77, .cells #[(.int .i64 r70.Id), (.int .i64 r70.Serial), (.int .i64 r70.Voters), (.int .i64 r70.Node), vq75_4, (.int .i64 r70.Tries)] 24 (0, 0))] :: [(g69, .cells #[(.int .i64 r59.Client), (.int .i64 r59.Serial), (.int .i64 r59.Kind), (.string r59.Name), (.string r59.Key), (.string r59.Value), (.bool r59.Flag), (.int .i64 r59.Parts), (.int .i64 r59.Replicas), (.int .i64 r59.Part), vq66_10, (.int .i64 r59.Broker), (.int .i64 r59.Epoch), (.string r59.Rack), (.int .i64 r59.Word.Broker), (.int .i64 r59.Word.Epoch), (.int .i64 r59.Word.High), (.bool r59.Word.Fence), (.bool r59.Word.Leave)] 29 (0, 0))] :: [(g68, .cells #[(.int .i64 r57.Id), (.int .i64 r57.Serial), (.int .i64 r57.Voters), (.int .i64 r57.Node), vq64_4, (.int .i64 r57.Tries)] 24 (0, 0))] :: [(g56, .cells #[(.int .i64 r49.Id), (.int .i64 r49.Serial), (.int .i64 r49.Voters), (.int .i64 r49.Node), vq54_4, (.int .i64 r49.Tries)] 24 (0, 0))] :: [(g23, .cells #[(.int .i64 a2.Client), (.int .i64 a2.Serial), (.int .i64 a2.Code), (.int .i64 a2.Leader), (.bool a2.Told.Fenced), (.bool a2.Told.Leaving), (.bool a2.Told.Stop)] 33 (0, 0))] :: [(g22, .cells #[(.int .i64 a1.Client), (.int .i64 a1.Serial), (.int .i64 a1.Kind), (.string a1.Name), (.string a1.Key), (.string a1.Value), (.bool a1.Flag), (.int .i64 a1.Parts), (.int .i64 a1.Replicas), (.int .i64 a1.Part), v1_10, (.int .i64 a1.Broker), (.int .i64 a1.Epoch), (.string a1.Rack), (.int .i64 a1.Word.Broker), (.int .i64 a1.Word.Epoch), (.int .i64 a1.Word.High), (.bool a1.Word.Fence), (.bool a1.Word.Leave)] 29 (0, 0))] :: [(g21, .cells #[(.int .i64 a0.Id), (.int .i64 a0.Serial), (.int .i64 a0.Voters), (.int .i64 a0.Node), v0_4, (.int .i64 a0.Tries)] 24 (0, 0))] :: cq66_10 :: F = H' ∧ ρ' 6 = (.bool x78)) x78 ?_ ?_
 have h379 := h
 have h := hj79
 refine WC.region ?_
 refine Pu (.agg #[(.int .i64 r49.Id), (.int .i64 r49.Serial), (.int .i64 r49.Voters), (.int .i64 r49.Node), vq54_4, (.int .i64 r49.Tries)]) (PO.loadBA (cs := [(.int .i64 r49.Id), (.int .i64 r49.Serial), (.int .i64 r49.Voters), (.int .i64 r49.Node), vq54_4, (.int .i64 r49.Tries)]) 4 ag24 sz24 rfl rfl rfl) rfl ?_
 obtain ⟨r80, hr81, h⟩ := bnd h
 refine WL.eff (EO.call0 co13 (f_client_Check_ok r49 _ _ hq54_4 r80 hr81) (args1 rfl)) rfl ?_
 rintro _ M82 _ hle83 ⟨_, ⟨rfl, rfl⟩, rfl⟩
 have hq54_4 := hq54_4.mono hle83
 have h1_10 := h1_10.mono hle83
 have h0_4 := h0_4.mono hle83
 have hq64_4 := hq64_4.mono hle83
 have hq66_10 := hq66_10.mono hle83
 have hq75_4 := hq75_4.mono hle83
 refine WL.a0 ?_
 refine Pu (.bool r80.isNil) (PO.errNil Try.underlying40 rfl) rfl ?_
 refine Pm (.bool r80.isNil) rfl rfl ?_
 rcases Bool.eq_false_or_eq_true (r80.isNil) with hb85 | hb85
 have h := ite_t hb85 h
 refine On 51 rfl rfl hb85 ?_
 refine Pu (.agg #[(.int .i64 r57.Id), (.int .i64 r57.Serial), (.int .i64 r57.Voters), (.int .i64 r57.Node), vq64_4, (.int .i64 r57.Tries)]) (PO.loadBA (cs := [(.int .i64 r57.Id), (.int .i64 r57.Serial), (.int .i64 r57.Voters), (.int .i64 r57.Node), vq64_4, (.int .i64 r57.Tries)]) 2 ag24 sz24 rfl rfl rfl) rfl ?_
 refine On 51 rfl rfl hb85 ?_
 obtain ⟨r86, hr87, h⟩ := bnd h
 refine WL.eff (EO.call0 co13 (f_client_Check_ok r57 _ _ hq64_4 r86 hr87) (args1 rfl)) rfl ?_
 rintro _ M88 _ hle89 ⟨_, ⟨rfl, rfl⟩, rfl⟩
 have hq54_4 := hq54_4.mono hle89
 have hq64_4 := hq64_4.mono hle89
 have h1_10 := h1_10.mono hle89
 have h0_4 := h0_4.mono hle89
 have hq66_10 := hq66_10.mono hle89
 have hq75_4 := hq75_4.mono hle89
 refine WL.a0 ?_
 refine On 51 rfl rfl hb85 ?_
 refine Pu (.bool r86.isNil) (PO.errNil Try.underlying40 rfl) rfl ?_
 refine Pu (.bool r86.isNil) (PO.pickT rfl hb85 rfl) rfl ?_
 refine Pm (.bool r86.isNil) rfl rfl ?_
 rcases Bool.eq_false_or_eq_true (r86.isNil) with hb91 | hb91
 have h := ite_t hb91 h
 refine On 56 rfl rfl hb91 ?_
 refine Pu (.agg #[(.int .i64 r70.Id), (.int .i64 r70.Serial), (.int .i64 r70.Voters), (.int .i64 r70.Node), vq75_4, (.int .i64 r70.Tries)]) (PO.loadBA (cs := [(.int .i64 r70.Id), (.int .i64 r70.Serial), (.int .i64 r70.Voters), (.int .i64 r70.Node), vq75_4, (.int .i64 r70.Tries)]) 0 ag24 sz24 rfl rfl rfl) rfl ?_
 refine On 56 rfl rfl hb91 ?_
 obtain ⟨r92, hr93, h⟩ := bnd h
 refine WL.eff (EO.call0 co13 (f_client_Check_ok r70 _ _ hq75_4 r92 hr93) (args1 rfl)) rfl ?_
 rintro _ M94 _ hle95 ⟨_, ⟨rfl, rfl⟩, rfl⟩
 have hq54_4 := hq54_4.mono hle95
 have hq64_4 := hq64_4.mono hle95
 have hq75_4 := hq75_4.mono hle95
 have h1_10 := h1_10.mono hle95
 have h0_4 := h0_4.mono hle95
 have hq66_10 := hq66_10.mono hle95
 refine WL.a0 ?_
 refine On 56 rfl rfl hb91 ?_
 refine Pu (.bool r92.isNil) (PO.errNil Try.underlying40 rfl) rfl ?_
 refine Pu (.bool r92.isNil) (PO.pickT rfl hb91 rfl) rfl ?_
 refine Pm (.bool r92.isNil) rfl rfl ?_
 rcases Bool.eq_false_or_eq_true (r92.isNil) with hb97 | hb97
 have h := ite_t hb97 h
 refine On 61 rfl rfl hb97 ?_
 refine Pu (.agg #[(.int .i64 a0.Id), (.int .i64 a0.Serial), (.int .i64 a0.Voters), (.int .i64 a0.Node), v0_4, (.int .i64 a0.Tries)]) (PO.loadBA (cs := [(.int .i64 a0.Id), (.int .i64 a0.Serial), (.int .i64 a0.Voters), (.int .i64 a0.Node), v0_4, (.int .i64 a0.Tries)]) 7 ag24 sz24 hs25_3 rfl rfl) rfl ?_
 refine On 61 rfl rfl hb97 ?_
 obtain ⟨r98, hr99, h⟩ := bnd h
 refine WL.eff (EO.call0 co14 (f_client_Lost_ok a0 _ _ h0_4 r98 hr99) (args1 rfl)) rfl ?_
 rintro _ M100 _ hle101 ⟨_, ⟨vq102_4, rfl, rfl, hq102_4⟩, rfl⟩
 have hq54_4 := hq54_4.mono hle101
 have hq64_4 := hq64_4.mono hle101
 have hq75_4 := hq75_4.mono hle101
 have h0_4 := h0_4.mono hle101
 have h1_10 := h1_10.mono hle101
 have hq66_10 := hq66_10.mono hle101
 refine WL.a0 ?_
 refine On 61 rfl rfl hb97 ?_
 obtain ⟨r103, hr104, h⟩ := bnd h
 refine WL.eff (EO.call0 co13 (f_client_Check_ok r98 _ _ hq102_4 r103 hr104) (args1 rfl)) rfl ?_
 rintro _ M105 _ hle106 ⟨_, ⟨rfl, rfl⟩, rfl⟩
 have hq54_4 := hq54_4.mono hle106
 have hq64_4 := hq64_4.mono hle106
 have hq75_4 := hq75_4.mono hle106
 have h0_4 := h0_4.mono hle106
 have hq102_4 := hq102_4.mono hle106
 have h1_10 := h1_10.mono hle106
 have hq66_10 := hq66_10.mono hle106
 refine WL.a0 ?_
 refine On 61 rfl rfl hb97 ?_
 refine Pu (.bool r103.isNil) (PO.errNil Try.underlying40 rfl) rfl ?_
 refine Pu (.bool r103.isNil) (PO.pickT rfl hb97 rfl) rfl ?_
 refine Pm (.bool r103.isNil) rfl rfl ?_
 rcases Bool.eq_false_or_eq_true (r103.isNil) with hb108 | hb108
 have h := ite_t hb108 h
 refine On 67 rfl rfl hb108 ?_
 obtain ⟨r109, hr110, h⟩ := bnd h
 refine WL.eff (EO.call0 co9 (f_law28_works_ok _ r109 hr110) (args0)) rfl ?_
 rintro _ M111 _ hle112 ⟨_, ⟨rfl, rfl⟩, rfl⟩
 have hq54_4 := hq54_4.mono hle112
 have hq64_4 := hq64_4.mono hle112
 have hq75_4 := hq75_4.mono hle112
 have h0_4 := h0_4.mono hle112
 have hq102_4 := hq102_4.mono hle112
 have h1_10 := h1_10.mono hle112
 have hq66_10 := hq66_10.mono hle112
 refine WL.a0 ?_
 refine Pu (.bool r109) (PO.pickT rfl hb108 rfl) rfl ?_
 refine Pa (.bool r109) rfl rfl ?_
 refine WL.nil ?_
 refine WQ.f3 ?_
 refine WQ.f7 ?_
 refine WQ.f7 ?_
 refine WQ.f7 ?_
 refine WQ.f7 ?_
 refine WQ.f7 ?_
 refine WQ.f7 ?_
 refine WQ.f7 ?_
 obtain rfl := Option.some.inj h
 refine WQ.thenJ ?_
 exact ⟨(((((hle83.trans hle89).trans hle95).trans hle101).trans hle106).trans hle112), rfl, rfl⟩
 have h := ite_f hb108 h
 refine Of 67 rfl rfl hb108 rfl ?_
 refine Pu (.bool false) (PO.pickF rfl hb108 rfl) rfl ?_
 refine Pa (.bool false) rfl rfl ?_
 refine WL.nil ?_
 refine WQ.f3 ?_
 refine WQ.f7 ?_
 refine WQ.f7 ?_
 refine WQ.f7 ?_
 refine WQ.f7 ?_
 refine WQ.f7 ?_
 refine WQ.f7 ?_
 refine WQ.f7 ?_
 obtain rfl := Option.some.inj h
 refine WQ.thenJ ?_
 exact ⟨((((hle83.trans hle89).trans hle95).trans hle101).trans hle106), rfl, rfl⟩
 have h := ite_f hb97 h
 iterate 4 refine Of 61 rfl rfl hb97 rfl ?_
 refine Pu (.bool false) (PO.pickF rfl hb97 rfl) rfl ?_
 refine Pm (.bool false) rfl rfl ?_
 refine Of 67 rfl rfl rfl rfl ?_
 refine Pu (.bool false) (PO.pickF rfl rfl rfl) rfl ?_
 refine Pa (.bool false) rfl rfl ?_
 refine WL.nil ?_
 refine WQ.f3 ?_
 refine WQ.f7 ?_
 refine WQ.f7 ?_
 refine WQ.f7 ?_
 refine WQ.f7 ?_
 refine WQ.f7 ?_
 refine WQ.f7 ?_
 refine WQ.f7 ?_
 obtain rfl := Option.some.inj h
 refine WQ.thenJ ?_
 exact ⟨((hle83.trans hle89).trans hle95), rfl, rfl⟩
 have h := ite_f hb91 h
 iterate 3 refine Of 56 rfl rfl hb91 rfl ?_
 refine Pu (.bool false) (PO.pickF rfl hb91 rfl) rfl ?_
 refine Pm (.bool false) rfl rfl ?_
 iterate 4 refine Of 61 rfl rfl rfl rfl ?_
 refine Pu (.bool false) (PO.pickF rfl rfl rfl) rfl ?_
 refine Pm (.bool false) rfl rfl ?_
 refine Of 67 rfl rfl rfl rfl ?_
 refine Pu (.bool false) (PO.pickF rfl rfl rfl) rfl ?_
 refine Pa (.bool false) rfl rfl ?_
 refine WL.nil ?_
 refine WQ.f3 ?_
 refine WQ.f7 ?_
 refine WQ.f7 ?_
 refine WQ.f7 ?_
 refine WQ.f7 ?_
 refine WQ.f7 ?_
 refine WQ.f7 ?_
 refine WQ.f7 ?_
 obtain rfl := Option.some.inj h
 refine WQ.thenJ ?_
 exact ⟨(hle83.trans hle89), rfl, rfl⟩
 have h := ite_f hb85 h
 iterate 3 refine Of 51 rfl rfl hb85 rfl ?_
 refine Pu (.bool false) (PO.pickF rfl hb85 rfl) rfl ?_
 refine Pm (.bool false) rfl rfl ?_
 iterate 3 refine Of 56 rfl rfl rfl rfl ?_
 refine Pu (.bool false) (PO.pickF rfl rfl rfl) rfl ?_
 refine Pm (.bool false) rfl rfl ?_
 iterate 4 refine Of 61 rfl rfl rfl rfl ?_
 refine Pu (.bool false) (PO.pickF rfl rfl rfl) rfl ?_
 refine Pm (.bool false) rfl rfl ?_
 refine Of 67 rfl rfl rfl rfl ?_
 refine Pu (.bool false) (PO.pickF rfl rfl rfl) rfl ?_
 refine Pa (.bool false) rfl rfl ?_
 refine WL.nil ?_
 refine WQ.f3 ?_
 refine WQ.f7 ?_
 refine WQ.f7 ?_
 refine WQ.f7 ?_
 refine WQ.f7 ?_
 refine WQ.f7 ?_
 refine WQ.f7 ?_
 refine WQ.f7 ?_
 obtain rfl := Option.some.inj h
 refine WQ.thenJ ?_
 exact ⟨hle83, rfl, rfl⟩
 rintro ρ79 M79 H79 ⟨hle79, rfl, hs79_6⟩
 have hq75_4 := hq75_4.mono hle79
 have hq66_10 := hq66_10.mono hle79
 have hq64_4 := hq64_4.mono hle79
 have hq54_4 := hq54_4.mono hle79
 have h1_10 := h1_10.mono hle79
 have h0_4 := h0_4.mono hle79
 refine WC.ret ?_
 refine WQ.drop ?_
 refine WQ.drop ?_
 refine WQ.drop ?_
 refine WQ.drop ?_
 refine WQ.drop ?_
 refine WQ.drop ?_
 refine WQ.drop ?_
 refine WQ.drop ?_
 exact WQ.returnsF h [] rfl (results1 rfl hs79_6) ((((hle25.trans hle53).trans hle63).trans hle74).trans hle79) ⟨rfl, rfl⟩


end Go.Proofs.Ytdlilclopmhiaaa.G
